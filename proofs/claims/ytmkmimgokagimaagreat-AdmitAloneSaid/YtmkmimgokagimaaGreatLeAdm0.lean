/-
  Policies, sessions and verdicts: what these functions answer. No statement of a seat is proved here.
-/
import Derived.Test.YtmkmimgokagimaaGreatMLeOnce3
set_option linter.unusedVariables false
set_option linter.unusedSimpArgs false
set_option linter.unusedSectionVars false
set_option linter.unnecessarySimpa false
set_option maxRecDepth 100000
namespace Go.Proofs.YtmkmimgokagimaaGreat
open Go.Ab
attribute [local simp] bJ bw bt bG bF cL kN bX bx bD cR cQ cr bY bh ct List.take_of_length_le
section
variable{xu xq:AV}{us:List Clear}{qs:List bn}{gr:Int}(hu:Sl 3 (ed us) xu)(hq:Sl 5 (ef qs) xq)(hul:us.length<1000000)(hql:qs.length<1000000){l:List (fY × AV)}{x1:AV}(hx:Sl 24 (cW l) x1)(hall : ∀p∈l,oK p)
include hu hq hul hql hx hall
theorem Po(dep:Nat){H:ad}(hF:Fr H)(wr:Int){fd:FuncId}(hm:(env.mode fd == 2)=true){caps:List AV}{f:ep→uY}
 (hdo:wr=0 →∀b H2 rb rs ru xh xr,nR us qs gr l=some b→bQ H H2→fM H2 rb rs ru xh xr us qs gr b→ni b →∃H3,bO env (dep+1) (.fn fd) ([]++[.ptr rb 0 0]++caps) H2=some (.tup [(f b).av,aI 0],H3)∧bQ H2 H3) :
 ∃y H',bO env dep (.fn 90) [.agg [xu,xq,aI gr],x1,aI wr,.fn (.func fd) [] caps] H=some (y,H')∧jT (nR us qs gr l) wr (.agg [aB false,aI 0,aI 0]) (fun b y _=>y = .tup [(f b).av,aI 0]) y H'∧bQ H H':=by
 have hgo:b7 env Tryz.f90 (dep+1) [.code gC] (pM 0 [.agg [xu,xq,aI gr],x1,aI wr,.fn (.func fd) [] caps]) H fun y H'=>jT (nR us qs gr l) wr (.agg [aB false,aI 0,aI 0]) (fun b y _=>y = .tup [(f b).av,aI 0]) y H'∧bQ H H':=by
  have hg2 : ∀b1 b2:bP,bQ H ((⟨dep+1,8,H.gen (dep+1) 8,0⟩,some b2) :: (⟨dep+1,4,H.gen (dep+1) 4,0⟩,some b1) :: H):=fun b1 b2=>⟨by simp(maxDischargeDepth:=12) [ad.ao,aD,aq,Fr.nil,aJ,ah,ai,ae,af,aC,ar,ab, *],fun q c hq=>by
   have lq:(H.get q).isSome=true:=by rw[hq];rfl
   simp[ah hF lq,hq]⟩
  obtain⟨y,H2,hO,hA⟩:=Og (gr:=gr) hu hq hul hql hx hall (dep+1) (hg2 ⟨3,[.agg [xu,xq,aI gr]],false,false⟩ ⟨3,[.agg [aB false,aI 0,aI 0]],false,false⟩).fr
  have hput : ∀(Hx:ad)(c:bP),bQ H Hx→Hx.get ⟨dep+1,8,H.gen (dep+1) 8,0⟩=some c →∀c',bQ H (Hx.put ⟨dep+1,8,H.gen (dep+1) 8,0⟩ (some c')):=by
   intro Hx c hGx hc c'
   refine⟨hGx.fr.put _ (by rw[hc];rfl),fun q d hq=>?_⟩
   have lq:(H.get q).isSome=true:=by rw[hq];rfl
   rw[ad.ao,if_neg (fun e=>nJ hF lq _ _ _ e.symm)]
   exact hGx.old q d hq
  refine mc _ _ _ _ _ _ _ fun g=>?_
  unfold jT
  simp[ah,ai,ae,af,ab, *,gD,hx.r,hu.r,hq.r]
  refine qy (by kernel_rfl) hO ?_
  cases ho:nR us qs gr l with
  | none =>
   rw[ho]at hA
   obtain⟨rfl,hG⟩:=hA
   have hb8:=hG.old ⟨dep+1,8,H.gen (dep+1) 8,0⟩ _ (by simp;rfl)
   have hF2:=hG.fr
   have hfin:=hput H2 _ ((hg2 _ _).trans hG) hb8
   clear hx hall hput
   simp[hb8,hfin]
  | some b =>
   rw[ho]at hA
   obtain⟨rb,rs,ru,rk,xh,xr,rfl,hI,hok⟩:=hA
   have hG:=hI.g
   have hb8:=hG.old ⟨dep+1,8,H.gen (dep+1) 8,0⟩ _ (by simp;rfl)
   have hF2:=hG.fr
   by_cases hw:wr=0
   ·subst hw
    obtain⟨H3,h1,h2⟩:=hdo rfl b H2 rb rs ru xh xr ho ((hg2 _ _).trans hI.g) hI.bk hok
    have hb9:=h2.old _ _ hb8
    have hF3:=h2.fr
    have hfin:=hput H3 _ (((hg2 _ _).trans hG).trans h2) hb9
    clear hput
    simp
    refine qy hm h1 ?_
    cases hfb:f b with
    | mk f1 f2 f3 =>
     simp[hb9,hfb,uY.av,hfin]
   ·have hfin:=hput H2 _ ((hg2 _ _).trans hG) hb8
    clear hput
    simp[hw,hb8,hfin]
 obtain⟨y,H',h1,h2⟩:=iT (by kernel_rfl) (by kernel_rfl) (by kernel_rfl) (by kernel_rfl) (by kernel_rfl) hgo
 exact⟨y,H',h1,h2⟩
def R5(us':List Clear)(qs:List bn)(gr':Int)(y:AV)(H:ad):Prop :=∃yu wu yq wq,y = .tup [.agg [yu,yq,aI gr'],aI 0]∧ik 3 (ed us') H yu wu∧ik 5 (ef qs) H yq wq
theorem Pq(dep:Nat){H:ad}(hF:Fr H){fd:FuncId}(hm:(env.mode fd == 2)=true){caps:List AV}
 (hdo : ∀b H2 rb rs ru xh xr,nR us qs gr l=some b→bQ H H2→fM H2 rb rs ru xh xr us qs gr b→ni b →∃y H3,bO env (dep+1) (.fn fd) ([]++[.ptr rb 0 0]++caps) H2=some (y,H3)∧R5 b.us qs b.gr y H3∧bQ H2 H3) :
 ∃y H',bO env dep (.fn 87) [.agg [xu,xq,aI gr],x1,aI 0,.fn (.func fd) [] caps] H=some (y,H')∧jT (nR us qs gr l) 0 (.agg [cp,cp,aI 0]) (fun b y H=>R5 b.us qs b.gr y H) y H'∧bQ H H':=by
 have hgo:b7 env Tryz.f87 (dep+1) [.code gS] (pM 0 [.agg [xu,xq,aI gr],x1,aI 0,.fn (.func fd) [] caps]) H fun y H'=>jT (nR us qs gr l) 0 (.agg [cp,cp,aI 0]) (fun b y H=>R5 b.us qs b.gr y H) y H'∧bQ H H':=by
  have hg2 : ∀b1 b2:bP,bQ H ((⟨dep+1,8,H.gen (dep+1) 8,0⟩,some b2) :: (⟨dep+1,4,H.gen (dep+1) 4,0⟩,some b1) :: H):=fun b1 b2=>⟨by simp(maxDischargeDepth:=12) [ad.ao,aD,aq,Fr.nil,aJ,ah,ai,ae,af,aC,ar,ab, *],fun q c hq=>by
   have lq:(H.get q).isSome=true:=by rw[hq];rfl
   simp[ah hF lq,hq]⟩
  obtain⟨y,H2,hO,hA⟩:=Og (gr:=gr) hu hq hul hql hx hall (dep+1) (hg2 ⟨3,[.agg [xu,xq,aI gr]],false,false⟩ ⟨3,[.agg [cp,cp,aI 0]],false,false⟩).fr
  have hput : ∀(Hx:ad)(c:bP),bQ H Hx→Hx.get ⟨dep+1,8,H.gen (dep+1) 8,0⟩=some c →∀c',bQ H (Hx.put ⟨dep+1,8,H.gen (dep+1) 8,0⟩ (some c')):=by
   intro Hx c hGx hc c'
   refine⟨hGx.fr.put _ (by rw[hc];rfl),fun q d hq=>?_⟩
   have lq:(H.get q).isSome=true:=by rw[hq];rfl
   rw[ad.ao,if_neg (fun e=>nJ hF lq _ _ _ e.symm)]
   exact hGx.old q d hq
  refine mg _ _ _ _ _ _ _ fun g=>?_
  unfold jT
  simp[ah,ai,ae,af,ab, *,gU,hx.r,hu.r,hq.r]
  refine qy (by kernel_rfl) hO ?_
  cases ho:nR us qs gr l with
  | none =>
   rw[ho]at hA
   obtain⟨rfl,hG⟩:=hA
   have hb8:=hG.old ⟨dep+1,8,H.gen (dep+1) 8,0⟩ _ (by simp;rfl)
   have hF2:=hG.fr
   have hfin:=hput H2 _ ((hg2 _ _).trans hG) hb8
   clear hx hall hput
   simp[hb8,hfin]
  | some b =>
   rw[ho]at hA
   obtain⟨rb,rs,ru,rk,xh,xr,rfl,hI,hok⟩:=hA
   have hG:=hI.g
   have hb8:=hG.old ⟨dep+1,8,H.gen (dep+1) 8,0⟩ _ (by simp;rfl)
   have hF2:=hG.fr
   obtain⟨y,H3,h1,⟨yu,wu,yq,wq,rfl,h3,h4⟩,h2⟩:=hdo b H2 rb rs ru xh xr ho ((hg2 _ _).trans hI.g) hI.bk hok
   have hb9:=h2.old _ _ hb8
   have hF3:=h2.fr
   have hfin:=hput H3 _ (((hg2 _ _).trans hG).trans h2) hb9
   have hfz : ∀c',∀q c,H3.get q=some c→c.iX=true→(H3.put ⟨dep+1,8,H.gen (dep+1) 8,0⟩ (some c')).get q=some c:=by
    intro c' q c hq hf
    rw[ad.ao,if_neg (fun e=>by subst e;rw[hb9]at hq;injection hq with hq;subst hq;cases hf)]
    exact hq
   have h3':=fun c'=>ik.cL h3 (hfz c')
   have h4':=fun c'=>ik.cL h4 (hfz c')
   have c3:=h3.s.cells
   have c4:=h4.s.cells
   clear hput hfz h3 h4 hx hall
   simp
   refine qy hm h1 ?_
   simp[hb9,hfin,c3,c4]
   exact⟨yu,wu,yq,wq,rfl,h3' _,h4' _⟩
 obtain⟨y,H',h1,h2⟩:=iT (by kernel_rfl) (by kernel_rfl) (by kernel_rfl) (by kernel_rfl) (by kernel_rfl) hgo
 exact⟨y,H',h1,h2⟩
theorem QR(dep:Nat){H:ad}(hF:Fr H){rb rs ru:Ref}{xh xr:AV}{b:ep}(hb:fM H rb rs ru xh xr us qs gr b) :
 ∃y H',bO env dep (.fn 88) [.ptr rb 0 0] H=some (y,H')∧R5 b.us qs b.gr y H'∧bQ H H':=by
 refine iT (fn:=Tryz.f88) (c:=sh) (Q:=fun y H'=>R5 b.us qs b.gr y H'∧bQ H H') (by kernel_rfl) (by kernel_rfl) (by kernel_rfl) (by kernel_rfl) (by kernel_rfl) ?_
 refine zX _ _ _ _ fun g=>?_
 obtain⟨xu',xq',yu,yq,wu,wq,hb1,hb2,hb3,hb4,hb5⟩:=hb.box
 have hg : ∀b1:bP,bQ H ((⟨dep+1,2,H.gen (dep+1) 2,0⟩,some b1) :: H):=fun b1=>bQ.cons hF _ _ _
 have c4:=hb4.s.cells
 have c5:=hb5.s.cells
 have c8:xh.cells=[xh]∧xh.one=true:=by obtain⟨_,hs⟩:=lP hb.dE;exact hs.cells
 have c9:=hb.one
 have l1:(H.get rb).isSome=true:=by rw[hb1];rfl
 have h4:=fun b1=>ik.grow hb4 (hg b1)
 have h5:=fun b1=>ik.grow hb5 (hg b1)
 clear hb4 hb5 hb hx hall
 simp[ah,ai,ae,af,ab, *,sH,hb2.r,hb3.r]
 exact⟨yu,wu,yq,wq,rfl,h4 _,h5 _⟩
theorem P6(dep:Nat){H:ad}(hF:Fr H){rb rs ru:Ref}{xh xr:AV}{b:ep}(hb:fM H rb rs ru xh xr us qs gr b)(hok:ni b){q1:Ref}(v1:UInt8)(v2:UInt32)(v3:UInt8)(e1:H.get q1=some ⟨3,[.agg [a8 v1,aF v2,a8 v3]],false,false⟩) :
 ∃H',bO env dep (.fn 92) [.ptr rb 0 0,.ptr q1 0 0] H=some (.tup [(gG (bH ⟨v1,v2,v3⟩ b.ses)).av,aI 0],H')∧bQ H H':=by
 refine eO (fn:=Tryz.f92) (c:=qT) (by kernel_rfl) (by kernel_rfl) (by kernel_rfl) (by kernel_rfl) (by kernel_rfl) ?_
 refine zd _ _ _ _ _ fun g=>?_
 obtain⟨xu',xq',yu,yq,wu,wq,hb1,hb2,hb3,hb4,hb5⟩:=hb.box
 have h7:=hb.ses
 have c4:=hb4.s.cells
 have c5:=hb5.s.cells
 have c8:xh.cells=[xh]∧xh.one=true:=by obtain⟨_,hs⟩:=lP hb.dE;exact hs.cells
 have c9:=hb.one
 have l1:(H.get rb).isSome=true:=by rw[hb1];rfl
 have l2:(H.get q1).isSome=true:=by rw[e1];rfl
 have l7:(H.get rs).isSome=true:=by rw[h7];rfl
 have hlk:=fun(H':ad)(h:H'.get rs=some (bE (cI xA b.ses)))=>ER (g:=H'.get) hok.ses h ⟨v1,v2,v3⟩
 have hfin : ∀b1:bP,bQ H ((⟨dep+1,3,H.gen (dep+1) 3,0⟩,some b1) :: H):=fun b1=>bQ.cons hF _ _ _
 generalize gG (bH ⟨v1,v2,v3⟩ b.ses)=u at *
 obtain⟨u1,u2,u3⟩:=u
 clear hx hall hb hb4 hb5 hok
 simp[ah,ai,ae,af,ab, *,qV,uY.av]
 try exact hfin _
def N4(us:List Clear)(qs:List bn)(gr:Int)(l:List (fY × AV))(h:nY):AV:=match nR us qs gr l with
 | none => .tup [.agg [aB false,aI 0,aI 0],aI 8]
 | some b=>if fL h=true then .tup [(gG (bH h b.ses)).av,aI 0] else .tup [.agg [aB false,aI 0,aI 0],aI 8]
theorem Od(v1:UInt8)(v2:UInt32)(v3:UInt8):bj env 27 [.agg [xu,xq,aI gr],x1,.agg [a8 v1,aF v2,a8 v3]]=some (N4 us qs gr l ⟨v1,v2,v3⟩):=by
 refine aG (fn:=Tryz.f27) (c:=tQ) rfl (by kernel_rfl) (by kernel_rfl) (by kernel_rfl) (by kernel_rfl) ?_;refine AA _ _ _ _ _ fun g=>?_
 have hF0:Fr [(⟨0,6,0,0⟩,some ⟨3,[.agg [aB false,aI 0,aI 0]],false,false⟩),(⟨0,5,0,0⟩,some ⟨3,[.agg [a8 v1,aF v2,a8 v3]],false,false⟩),(⟨0,3,0,0⟩,some ⟨3,[.agg [xu,xq,aI gr]],false,false⟩)]:=by simp(maxDischargeDepth:=12) [ad.ao,aD,aq,Fr.nil,aJ,ah,ai,ae,af,aC,ar,ab, *]
 have hC:=uL v1 v2 v3
 obtain⟨y,H2,hO,hA,hG⟩:=Po (gr:=gr) hu hq hul hql hx hall 0 hF0 (bad (fL ⟨v1,v2,v3⟩)) (fd:=92) (by kernel_rfl) (caps:=[.ptr ⟨0,5,0,0⟩ 0 0])
  (f:=fun b=>gG (bH (⟨v1,v2,v3⟩:nY) b.ses)) (fun hw b H2 rb rs ru xh xr ho hG hb hok=>P6 (gr:=gr) hu hq hul hql hx hall 1 hG.fr hb hok (q1:=⟨0,5,0,0⟩) v1 v2 v3 (hG.old ⟨0,5,0,0⟩ _ (by simp)))
 have he:y=N4 us qs gr l ⟨v1,v2,v3⟩:=by
  unfold jT at hA
  unfold N4
  cases ho:nR us qs gr l with
  | none=>rw[ho]at hA;exact hA
  | some b =>
   rw[ho]at hA
   cases hi:fL ⟨v1,v2,v3⟩ with
   | true=>simp only[hi,bad,if_true]at hA ⊢;exact hA
   | false=>simp[hi,bad]at hA ⊢;exact hA
 have hz : ∃(s:uY) (e:Int),N4 us qs gr l ⟨v1,v2,v3⟩ = .tup [s.av,aI e]:=by
  unfold N4
  split
  ·exact⟨⟨false,0,0⟩,8,rfl⟩
  ·split
   ·exact⟨_,_,rfl⟩
   ·exact⟨⟨false,0,0⟩,8,rfl⟩
 obtain⟨s,e,hz⟩:=hz
 rw[hz]at he ⊢
 subst he
 have hb6:=hG.old ⟨0,6,0,0⟩ _ (by simp;rfl)
 have hF2:=hG.fr
 obtain⟨f1,f2,f3⟩:=s
 clear hA hz hx hall hF0 hG
 simp[ah,ai,ae,af,ab, *,ur,hu.r,hq.r]
 refine qy (by kernel_rfl) hO ?_
 simp[uY.av,hb6]
def V7(us:List Clear)(qs:List bn)(gr:Int)(l:List (fY × AV))(y:AV):Prop:=match nR us qs gr l with
 | none=>y = .tup [.agg [cp,cp,aI 0],aI 8]
 | some b =>∃wu wq,Sl 3 (ed b.us) wu∧Sl 5 (ef qs) wq∧y = .tup [.agg [wu,wq,aI b.gr],aI 0]
theorem Qk : ∃y,bj env 25 [.agg [xu,xq,aI gr],x1]=some y∧V7 us qs gr l y:=by
 refine Ft (fn:=Tryz.f25) (c:=vQ) (by kernel_rfl) (by kernel_rfl) (by kernel_rfl) (by kernel_rfl) (by kernel_rfl) ?_
 refine Cg _ _ _ _ fun g=>?_
 have hF0:Fr [(⟨0,4,0,0⟩,some ⟨3,[.agg [cp,cp,aI 0]],false,false⟩),(⟨0,2,0,0⟩,some ⟨3,[.agg [xu,xq,aI gr]],false,false⟩)]:=by simp(maxDischargeDepth:=12) [ad.ao,aD,aq,Fr.nil,aJ,ah,ai,ae,af,aC,ar,ab, *]
 obtain⟨y,H2,hO,hA,hG⟩:=Pq (gr:=gr) hu hq hul hql hx hall 0 hF0 (fd:=88) (by kernel_rfl) (caps:=[])
  (fun b H2 rb rs ru xh xr ho hG hb hok=>QR (gr:=gr) hu hq hul hql hx hall 1 hG.fr hb)
 simp[ah,ai,ae,af,ab, *,vX,hu.r,hq.r]
 refine qy (by kernel_rfl) hO ?_
 have hb4:=hG.old ⟨0,4,0,0⟩ _ (by simp;rfl)
 have hF2:=hG.fr
 unfold jT at hA
 unfold V7
 cases ho:nR us qs gr l with
 | none=>rw[ho]at hA;subst hA;clear hG hF0;simp[hb4]
 | some b =>
  rw[ho]at hA
  dsimp only at hA ⊢
  rw[if_pos rfl]at hA
  obtain⟨yu,wu,yq,wq,rfl,h3,h4⟩:=hA
  have c3:=h3.s.cells
  have c4:=h4.s.cells
  have hfz : ∀c',∀q c,H2.get q=some c→c.iX=true→(H2.put ⟨0,4,0,0⟩ (some c')).get q=some c:=by
   intro c' q c hq hf
   rw[ad.ao,if_neg (fun e=>by subst e;rw[hb4]at hq;injection hq with hq;subst hq;cases hf)]
   exact hq
  have v3:=fun c'=>(ik.cL h3 (hfz c')).s.view
  have v4:=fun c'=>(ik.cL h4 (hfz c')).s.view
  have s3:=h3.s.sl
  have s4:=h4.s.sl
  clear hG hF0 hfz h3 h4 hx hall
  simp[hb4,c3,c4,v3,v4]
  exact⟨s3,s4⟩
def Ib(us:List Clear)(qs:List bn)(gr:Int)(l:List (fY × AV))(o:bz):AV:=match nR us qs gr l with
 | none => .tup [aI 0,aI 8]
 | some b=>if la o=true then .tup [aI (fc us qs gr b o),aI 0] else .tup [aI 0,aI 8]
theorem PJ(dep:Nat){H:ad}(hF:Fr H){rb rs ru:Ref}{xh xr:AV}{b:ep}(hb:fM H rb rs ru xh xr us qs gr b)(hok:ni b){q1:Ref}(ba:UInt8)(aO:UInt8)(aN:UInt32)(aT:UInt8)(aV:Int)(aX:UInt8)(aW:UInt32)(aY:UInt8)(aZ:Int)(an:Int)(ay:UInt8)(ax:UInt32)(aw:UInt8)(au:Int)(aA:UInt8)(az:UInt32){x:AV}{al:List Int}(hax:Sl 1 (rows al) x)(hal:al.length<1000000)
 (e1:H.get q1=some ⟨17,[.agg [a8 ba,a8 aO,aF aN,a8 aT,aI aV,a8 aX,aF aW,a8 aY,aI aZ,aI an,a8 ay,aF ax,a8 aw,aI au,a8 aA,aF az,x]],false,false⟩) : ∃H',bO env dep (.fn 71) [.ptr rb 0 0,.ptr q1 0 0] H=some (.tup [aI (fc us qs gr b (⟨ba,⟨aO,aN,aT⟩,aV,⟨⟨⟨aX,aW,aY⟩,aZ⟩,an⟩,⟨⟨ay,ax,aw⟩,au⟩,⟨aA,az⟩,al⟩:bz)),aI 0],H')∧bQ H H':=by
 refine eO (fn:=Tryz.f71) (c:=qS) (by kernel_rfl) (by kernel_rfl) (by kernel_rfl) (by kernel_rfl) (by kernel_rfl) ?_
 refine zb _ _ _ _ _ fun g=>?_
 have hv:=Et (dep+1) hF hb.at hok hul hql ba aO aN aT aV aX aW aY aZ an ay ax aw au aA az hax hal
 have hr:=hax.r
 clear hx hall hb hok
 generalize fc us qs gr b (⟨ba,⟨aO,aN,aT⟩,aV,⟨⟨⟨aX,aW,aY⟩,aZ⟩,an⟩,⟨⟨ay,ax,aw⟩,au⟩,⟨aA,az⟩,al⟩:bz)=e at *
 simp[ah,ai,ae,af,ab, *,qU]
 refine lg (by kernel_rfl) hv fun H2 hG=>?_
 simp[hG]
theorem Oc(ba:UInt8)(aO:UInt8)(aN:UInt32)(aT:UInt8)(aV:Int)(aX:UInt8)(aW:UInt32)(aY:UInt8)(aZ:Int)(an:Int)(ay:UInt8)(ax:UInt32)(aw:UInt8)(au:Int)(aA:UInt8)(az:UInt32){x:AV}{al:List Int}(hax:Sl 1 (rows al) x)(hal:al.length<1000000) :
 bj env 17 [.agg [xu,xq,aI gr],x1,.agg [a8 ba,a8 aO,aF aN,a8 aT,aI aV,a8 aX,aF aW,a8 aY,aI aZ,aI an,a8 ay,aF ax,a8 aw,aI au,a8 aA,aF az,x]]=some (Ib us qs gr l (⟨ba,⟨aO,aN,aT⟩,aV,⟨⟨⟨aX,aW,aY⟩,aZ⟩,an⟩,⟨⟨ay,ax,aw⟩,au⟩,⟨aA,az⟩,al⟩:bz)):=by
 refine aG (fn:=Tryz.f17) (c:=tP) rfl (by kernel_rfl) (by kernel_rfl) (by kernel_rfl) (by kernel_rfl) ?_;refine Az _ _ _ _ _ fun g=>?_
 have hF0:Fr [(⟨0,5,0,0⟩,some ⟨17,[.agg [a8 ba,a8 aO,aF aN,a8 aT,aI aV,a8 aX,aF aW,a8 aY,aI aZ,aI an,a8 ay,aF ax,a8 aw,aI au,a8 aA,aF az,x]],false,false⟩),(⟨0,3,0,0⟩,some ⟨3,[.agg [xu,xq,aI gr]],false,false⟩)]:=by simp(maxDischargeDepth:=12) [ad.ao,aD,aq,Fr.nil,aJ,ah,ai,ae,af,aC,ar,ab, *]
 have hC:=ko ba aO aN aT aV aX aW aY aZ an ay ax aw au aA az hax (by omega)
 obtain⟨y,H2,hO,hA⟩:=Ds (gr:=gr) hu hq hul hql hx hall 0 hF0 (bad (la (⟨ba,⟨aO,aN,aT⟩,aV,⟨⟨⟨aX,aW,aY⟩,aZ⟩,an⟩,⟨⟨ay,ax,aw⟩,au⟩,⟨aA,az⟩,al⟩:bz))) (fd:=71) (by kernel_rfl) (caps:=[.ptr ⟨0,5,0,0⟩ 0 0])
  (R:=fun b y H=>y = .tup [aI (fc us qs gr b (⟨ba,⟨aO,aN,aT⟩,aV,⟨⟨⟨aX,aW,aY⟩,aZ⟩,an⟩,⟨⟨ay,ax,aw⟩,au⟩,⟨aA,az⟩,al⟩:bz)),aI 0]) (fun hw b H2 rb rs ru xh xr ho hG hb hr hrt hok=>by
   obtain⟨H3,g1,g2⟩:=PJ (gr:=gr) hu hq hul hql hx hall 1 hG.fr hb hok (q1:=⟨0,5,0,0⟩) ba aO aN aT aV aX aW aY aZ an ay ax aw au aA az hax hal (hG.old ⟨0,5,0,0⟩ _ (by simp))
   exact⟨_,_,H3,g1,rfl⟩)
 have he:y=Ib us qs gr l (⟨ba,⟨aO,aN,aT⟩,aV,⟨⟨⟨aX,aW,aY⟩,aZ⟩,an⟩,⟨⟨ay,ax,aw⟩,au⟩,⟨aA,az⟩,al⟩:bz):=by
  unfold jT at hA
  unfold Ib
  cases ho:nR us qs gr l with
  | none=>rw[ho]at hA;exact hA
  | some b =>
   rw[ho]at hA
   cases hi:la (⟨ba,⟨aO,aN,aT⟩,aV,⟨⟨⟨aX,aW,aY⟩,aZ⟩,an⟩,⟨⟨ay,ax,aw⟩,au⟩,⟨aA,az⟩,al⟩:bz) with
   | true=>simp only[hi,bad,if_true]at hA ⊢;exact hA
   | false=>simp[hi,bad]at hA ⊢;exact hA
 have hz : ∃z e,Ib us qs gr l (⟨ba,⟨aO,aN,aT⟩,aV,⟨⟨⟨aX,aW,aY⟩,aZ⟩,an⟩,⟨⟨ay,ax,aw⟩,au⟩,⟨aA,az⟩,al⟩:bz) = .tup [aI z,aI e]:=by
  unfold Ib
  split
  ·exact⟨_,_,rfl⟩
  ·split
   ·exact⟨_,_,rfl⟩
   ·exact⟨_,_,rfl⟩
 obtain⟨z,e,hz⟩:=hz
 rw[hz]at he ⊢
 subst he
 have har:=hax.r
 clear hA hz hx hall hF0
 simp[ah,ai,ae,af,ab, *,uq,hu.r,hq.r]
 refine qy (by kernel_rfl) hO ?_
 simp
end
end Go.Proofs.YtmkmimgokagimaaGreat
