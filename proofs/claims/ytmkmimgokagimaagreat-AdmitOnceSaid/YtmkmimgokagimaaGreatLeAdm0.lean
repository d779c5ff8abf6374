/-
  Policies, sessions and verdicts: what these functions answer. No statement of a seat is proved here.
-/
import Derived.Test.YtmkmimgokagimaaGreatMLeOnce3
set_option linter.unusedVariables false
set_option linter.unusedSimpArgs false
set_option linter.unusedSectionVars false
set_option linter.unnecessarySimpa false
set_option maxRecDepth 100000
namespace Go.Proofs.YtmkmimgokagimaaGreat
open Go.Ab
attribute [local simp] bj aL aF bg bf keep thr bx aT bc da cZ cJ bD aD bM List.take_of_length_le
section
variable{xu xq:AV}{us:List Clear}{qs:List Quota}{gr:Int}(hu:Sl 3 (eN us) xu)(hq:Sl 5 (eQ qs) xq)(hul:us.length<1000000)(hql:qs.length<1000000){l:List (Rcd × AV)}{x1:AV}(hx:Sl 24 (dX l) x1)(hall : ∀p∈l,okRc p)
include hu hq hul hql hx hall
theorem Ks(dep:Nat){H:Heap}(hF:Fr H)(wr:Int){fd:FuncId}(hm:(env.mode fd == 2)=true){caps:List AV}{f:Book→Ses}
 (hdo:wr=0 →∀b H2 rb rs ru xh xr,ofA us qs gr l=some b→Grow H H2→BookX H2 rb rs ru xh xr us qs gr b→BookOk b →∃H3,limt env (dep+1) (.fn fd) ([]++[.ptr rb 0 0]++caps) H2=some (.tup [(f b).av,aI 0],H3)∧Grow H2 H3) :
 ∃y H',limt env dep (.fn 90) [.agg [xu,xq,aI gr],x1,aI wr,.fn (.func fd) [] caps] H=some (y,H')∧jR (ofA us qs gr l) wr (.agg [aB false,aI 0,aI 0]) (fun b y _=>y = .tup [(f b).av,aI 0]) y H'∧Grow H H':=by
 have hgo:GoL env Tryz.f90 (dep+1) [.code eB] (q0 0 [.agg [xu,xq,aI gr],x1,aI wr,.fn (.func fd) [] caps]) H fun y H'=>jR (ofA us qs gr l) wr (.agg [aB false,aI 0,aI 0]) (fun b y _=>y = .tup [(f b).av,aI 0]) y H'∧Grow H H':=by
  have hg2 : ∀b1 b2:Blk,Grow H ((⟨dep+1,8,H.gen (dep+1) 8,0⟩,some b2) :: (⟨dep+1,4,H.gen (dep+1) 4,0⟩,some b1) :: H):=fun b1 b2=>⟨by simp(maxDischargeDepth:=12) [Heap.an,au,ak,Fr.nil,az,af,ah,ad,ae,ar,ao,ab, *],fun q c hq=>by
   have lq:(H.get q).isSome=true:=by rw[hq];rfl
   simp[af hF lq,hq]⟩
  obtain⟨y,H2,hO,hA⟩:=s_Of (gr:=gr) hu hq hul hql hx hall (dep+1) (hg2 ⟨3,[.agg [xu,xq,aI gr]],false,false⟩ ⟨3,[.agg [aB false,aI 0,aI 0]],false,false⟩).fr
  have hput : ∀(Hx:Heap)(c:Blk),Grow H Hx→Hx.get ⟨dep+1,8,H.gen (dep+1) 8,0⟩=some c →∀c',Grow H (Hx.put ⟨dep+1,8,H.gen (dep+1) 8,0⟩ (some c')):=by
   intro Hx c hGx hc c'
   refine⟨hGx.fr.put _ (by rw[hc];rfl),fun q d hq=>?_⟩
   have lq:(H.get q).isSome=true:=by rw[hq];rfl
   rw[Heap.an,if_neg (fun e=>mK hF lq _ _ _ e.symm)]
   exact hGx.old q d hq
  refine iK _ _ _ _ _ _ _ fun g=>?_
  unfold jR
  simp[af,ah,ad,ae,ab, *,eE,hx.r,hu.r,hq.r]
  refine rf (by kernel_rfl) hO ?_
  cases ho:ofA us qs gr l with
  | none =>
   rw[ho]at hA
   obtain⟨rfl,hG⟩:=hA
   have hb8:=hG.old ⟨dep+1,8,H.gen (dep+1) 8,0⟩ _ (by simp;rfl)
   have hF2:=hG.fr
   have hfin:=hput H2 _ ((hg2 _ _).trans hG) hb8
   clear hx hall hput
   simp[hb8,hfin]
  | some b =>
   rw[ho]at hA
   obtain⟨rb,rs,ru,rk,xh,xr,rfl,hI,hok⟩:=hA
   have hG:=hI.g
   have hb8:=hG.old ⟨dep+1,8,H.gen (dep+1) 8,0⟩ _ (by simp;rfl)
   have hF2:=hG.fr
   by_cases hw:wr=0
   ·subst hw
    obtain⟨H3,h1,h2⟩:=hdo rfl b H2 rb rs ru xh xr ho ((hg2 _ _).trans hI.g) hI.bk hok
    have hb9:=h2.old _ _ hb8
    have hF3:=h2.fr
    have hfin:=hput H3 _ (((hg2 _ _).trans hG).trans h2) hb9
    clear hput
    simp
    refine rf hm h1 ?_
    cases hfb:f b with
    | mk f1 f2 f3 =>
     simp[hb9,hfb,Ses.av,hfin]
   ·have hfin:=hput H2 _ ((hg2 _ _).trans hG) hb8
    clear hput
    simp[hw,hb8,hfin]
 obtain⟨y,H',h1,h2⟩:=iw (by kernel_rfl) (by kernel_rfl) (by kernel_rfl) (by kernel_rfl) (by kernel_rfl) hgo
 exact⟨y,H',h1,h2⟩
def PolT(us':List Clear)(qs:List Quota)(gr':Int)(y:AV)(H:Heap):Prop :=∃yu wu yq wq,y = .tup [.agg [yu,yq,aI gr'],aI 0]∧jj 3 (eN us') H yu wu∧jj 5 (eQ qs) H yq wq
theorem Kt(dep:Nat){H:Heap}(hF:Fr H){fd:FuncId}(hm:(env.mode fd == 2)=true){caps:List AV}
 (hdo : ∀b H2 rb rs ru xh xr,ofA us qs gr l=some b→Grow H H2→BookX H2 rb rs ru xh xr us qs gr b→BookOk b →∃y H3,limt env (dep+1) (.fn fd) ([]++[.ptr rb 0 0]++caps) H2=some (y,H3)∧PolT b.us qs b.gr y H3∧Grow H2 H3) :
 ∃y H',limt env dep (.fn 87) [.agg [xu,xq,aI gr],x1,aI 0,.fn (.func fd) [] caps] H=some (y,H')∧jR (ofA us qs gr l) 0 (.agg [aNil,aNil,aI 0]) (fun b y H=>PolT b.us qs b.gr y H) y H'∧Grow H H':=by
 have hgo:GoL env Tryz.f87 (dep+1) [.code eG] (q0 0 [.agg [xu,xq,aI gr],x1,aI 0,.fn (.func fd) [] caps]) H fun y H'=>jR (ofA us qs gr l) 0 (.agg [aNil,aNil,aI 0]) (fun b y H=>PolT b.us qs b.gr y H) y H'∧Grow H H':=by
  have hg2 : ∀b1 b2:Blk,Grow H ((⟨dep+1,8,H.gen (dep+1) 8,0⟩,some b2) :: (⟨dep+1,4,H.gen (dep+1) 4,0⟩,some b1) :: H):=fun b1 b2=>⟨by simp(maxDischargeDepth:=12) [Heap.an,au,ak,Fr.nil,az,af,ah,ad,ae,ar,ao,ab, *],fun q c hq=>by
   have lq:(H.get q).isSome=true:=by rw[hq];rfl
   simp[af hF lq,hq]⟩
  obtain⟨y,H2,hO,hA⟩:=s_Of (gr:=gr) hu hq hul hql hx hall (dep+1) (hg2 ⟨3,[.agg [xu,xq,aI gr]],false,false⟩ ⟨3,[.agg [aNil,aNil,aI 0]],false,false⟩).fr
  have hput : ∀(Hx:Heap)(c:Blk),Grow H Hx→Hx.get ⟨dep+1,8,H.gen (dep+1) 8,0⟩=some c →∀c',Grow H (Hx.put ⟨dep+1,8,H.gen (dep+1) 8,0⟩ (some c')):=by
   intro Hx c hGx hc c'
   refine⟨hGx.fr.put _ (by rw[hc];rfl),fun q d hq=>?_⟩
   have lq:(H.get q).isSome=true:=by rw[hq];rfl
   rw[Heap.an,if_neg (fun e=>mK hF lq _ _ _ e.symm)]
   exact hGx.old q d hq
  refine ja _ _ _ _ _ _ _ fun g=>?_
  unfold jR
  simp[af,ah,ad,ae,ab, *,eH,hx.r,hu.r,hq.r]
  refine rf (by kernel_rfl) hO ?_
  cases ho:ofA us qs gr l with
  | none =>
   rw[ho]at hA
   obtain⟨rfl,hG⟩:=hA
   have hb8:=hG.old ⟨dep+1,8,H.gen (dep+1) 8,0⟩ _ (by simp;rfl)
   have hF2:=hG.fr
   have hfin:=hput H2 _ ((hg2 _ _).trans hG) hb8
   clear hx hall hput
   simp[hb8,hfin]
  | some b =>
   rw[ho]at hA
   obtain⟨rb,rs,ru,rk,xh,xr,rfl,hI,hok⟩:=hA
   have hG:=hI.g
   have hb8:=hG.old ⟨dep+1,8,H.gen (dep+1) 8,0⟩ _ (by simp;rfl)
   have hF2:=hG.fr
   obtain⟨y,H3,h1,⟨yu,wu,yq,wq,rfl,h3,h4⟩,h2⟩:=hdo b H2 rb rs ru xh xr ho ((hg2 _ _).trans hI.g) hI.bk hok
   have hb9:=h2.old _ _ hb8
   have hF3:=h2.fr
   have hfin:=hput H3 _ (((hg2 _ _).trans hG).trans h2) hb9
   have hfz : ∀c',∀q c,H3.get q=some c→c.frz=true→(H3.put ⟨dep+1,8,H.gen (dep+1) 8,0⟩ (some c')).get q=some c:=by
    intro c' q c hq hf
    rw[Heap.an,if_neg (fun e=>by subst e;rw[hb9]at hq;injection hq with hq;subst hq;cases hf)]
    exact hq
   have h3':=fun c'=>jj.keep h3 (hfz c')
   have h4':=fun c'=>jj.keep h4 (hfz c')
   have c3:=h3.s.cells
   have c4:=h4.s.cells
   clear hput hfz h3 h4 hx hall
   simp
   refine rf hm h1 ?_
   simp[hb9,hfin,c3,c4]
   exact⟨yu,wu,yq,wq,rfl,h3' _,h4' _⟩
 obtain⟨y,H',h1,h2⟩:=iw (by kernel_rfl) (by kernel_rfl) (by kernel_rfl) (by kernel_rfl) (by kernel_rfl) hgo
 exact⟨y,H',h1,h2⟩
theorem LL(dep:Nat){H:Heap}(hF:Fr H){rb rs ru:Ref}{xh xr:AV}{b:Book}(hb:BookX H rb rs ru xh xr us qs gr b) :
 ∃y H',limt env dep (.fn 88) [.ptr rb 0 0] H=some (y,H')∧PolT b.us qs b.gr y H'∧Grow H H':=by
 refine iw (fn:=Tryz.f88) (c:=n7) (Q:=fun y H'=>PolT b.us qs b.gr y H'∧Grow H H') (by kernel_rfl) (by kernel_rfl) (by kernel_rfl) (by kernel_rfl) (by kernel_rfl) ?_
 refine uI _ _ _ _ fun g=>?_
 obtain⟨xu',xq',yu,yq,wu,wq,hb1,hb2,hb3,hb4,hb5⟩:=hb.box
 have hg : ∀b1:Blk,Grow H ((⟨dep+1,2,H.gen (dep+1) 2,0⟩,some b1) :: H):=fun b1=>Grow.cons hF _ _ _
 have c4:=hb4.s.cells
 have c5:=hb5.s.cells
 have c8:xh.cells=[xh]∧xh.one=true:=by obtain⟨_,hs⟩:=jG hb.hist;exact hs.cells
 have c9:=hb.one
 have l1:(H.get rb).isSome=true:=by rw[hb1];rfl
 have h4:=fun b1=>jj.grow hb4 (hg b1)
 have h5:=fun b1=>jj.grow hb5 (hg b1)
 clear hb4 hb5 hb hx hall
 simp[af,ah,ad,ae,ab, *,oa,hb2.r,hb3.r]
 exact⟨yu,wu,yq,wq,rfl,h4 _,h5 _⟩
theorem K4(dep:Nat){H:Heap}(hF:Fr H){rb rs ru:Ref}{xh xr:AV}{b:Book}(hb:BookX H rb rs ru xh xr us qs gr b)(hok:BookOk b){q1:Ref}(v1:UInt8)(v2:UInt32)(v3:UInt8)(e1:H.get q1=some ⟨3,[.agg [a8 v1,a32 v2,a8 v3]],false,false⟩) :
 ∃H',limt env dep (.fn 92) [.ptr rb 0 0,.ptr q1 0 0] H=some (.tup [(sesD (bE ⟨v1,v2,v3⟩ b.ses)).av,aI 0],H')∧Grow H H':=by
 refine dt (fn:=Tryz.f92) (c:=nz) (by kernel_rfl) (by kernel_rfl) (by kernel_rfl) (by kernel_rfl) (by kernel_rfl) ?_
 refine tT _ _ _ _ _ fun g=>?_
 obtain⟨xu',xq',yu,yq,wu,wq,hb1,hb2,hb3,hb4,hb5⟩:=hb.box
 have h7:=hb.ses
 have c4:=hb4.s.cells
 have c5:=hb5.s.cells
 have c8:xh.cells=[xh]∧xh.one=true:=by obtain⟨_,hs⟩:=jG hb.hist;exact hs.cells
 have c9:=hb.one
 have l1:(H.get rb).isSome=true:=by rw[hb1];rfl
 have l2:(H.get q1).isSome=true:=by rw[e1];rfl
 have l7:(H.get rs).isSome=true:=by rw[h7];rfl
 have hlk:=fun(H':Heap)(h:H'.get rs=some (bm (cX hanK b.ses)))=>Dq (g:=H'.get) hok.ses h ⟨v1,v2,v3⟩
 have hfin : ∀b1:Blk,Grow H ((⟨dep+1,3,H.gen (dep+1) 3,0⟩,some b1) :: H):=fun b1=>Grow.cons hF _ _ _
 generalize sesD (bE ⟨v1,v2,v3⟩ b.ses)=u at *
 obtain⟨u1,u2,u3⟩:=u
 clear hx hall hb hb4 hb5 hok
 simp[af,ah,ad,ae,ab, *,nD,Ses.av]
 try exact hfin _
def sesA(us:List Clear)(qs:List Quota)(gr:Int)(l:List (Rcd × AV))(h:Han):AV:=match ofA us qs gr l with
 | none => .tup [.agg [aB false,aI 0,aI 0],aI 8]
 | some b=>if hY h=true then .tup [(sesD (bE h b.ses)).av,aI 0] else .tup [.agg [aB false,aI 0,aI 0],aI 8]
theorem IL(v1:UInt8)(v2:UInt32)(v3:UInt8):limf env 27 [.agg [xu,xq,aI gr],x1,.agg [a8 v1,a32 v2,a8 v3]]=some (sesA us qs gr l ⟨v1,v2,v3⟩):=by
 refine aw (fn:=Tryz.f27) (c:=pB) rfl (by kernel_rfl) (by kernel_rfl) (by kernel_rfl) (by kernel_rfl) ?_;refine vW _ _ _ _ _ fun g=>?_
 have hF0:Fr [(⟨0,6,0,0⟩,some ⟨3,[.agg [aB false,aI 0,aI 0]],false,false⟩),(⟨0,5,0,0⟩,some ⟨3,[.agg [a8 v1,a32 v2,a8 v3]],false,false⟩),(⟨0,3,0,0⟩,some ⟨3,[.agg [xu,xq,aI gr]],false,false⟩)]:=by simp(maxDischargeDepth:=12) [Heap.an,au,ak,Fr.nil,az,af,ah,ad,ae,ar,ao,ab, *]
 have hC:=uS v1 v2 v3
 obtain⟨y,H2,hO,hA,hG⟩:=Ks (gr:=gr) hu hq hul hql hx hall 0 hF0 (bad (hY ⟨v1,v2,v3⟩)) (fd:=92) (by kernel_rfl) (caps:=[.ptr ⟨0,5,0,0⟩ 0 0])
  (f:=fun b=>sesD (bE (⟨v1,v2,v3⟩:Han) b.ses)) (fun hw b H2 rb rs ru xh xr ho hG hb hok=>K4 (gr:=gr) hu hq hul hql hx hall 1 hG.fr hb hok (q1:=⟨0,5,0,0⟩) v1 v2 v3 (hG.old ⟨0,5,0,0⟩ _ (by simp)))
 have he:y=sesA us qs gr l ⟨v1,v2,v3⟩:=by
  unfold jR at hA
  unfold sesA
  cases ho:ofA us qs gr l with
  | none=>rw[ho]at hA;exact hA
  | some b =>
   rw[ho]at hA
   cases hi:hY ⟨v1,v2,v3⟩ with
   | true=>simp only[hi,bad,if_true]at hA ⊢;exact hA
   | false=>simp[hi,bad]at hA ⊢;exact hA
 have hz : ∃(s:Ses) (e:Int),sesA us qs gr l ⟨v1,v2,v3⟩ = .tup [s.av,aI e]:=by
  unfold sesA
  split
  ·exact⟨⟨false,0,0⟩,8,rfl⟩
  ·split
   ·exact⟨_,_,rfl⟩
   ·exact⟨⟨false,0,0⟩,8,rfl⟩
 obtain⟨s,e,hz⟩:=hz
 rw[hz]at he ⊢
 subst he
 have hb6:=hG.old ⟨0,6,0,0⟩ _ (by simp;rfl)
 have hF2:=hG.fr
 obtain⟨f1,f2,f3⟩:=s
 clear hA hz hx hall hF0 hG
 simp[af,ah,ad,ae,ab, *,pR,hu.r,hq.r]
 refine rf (by kernel_rfl) hO ?_
 simp[Ses.av,hb6]
def polA(us:List Clear)(qs:List Quota)(gr:Int)(l:List (Rcd × AV))(y:AV):Prop:=match ofA us qs gr l with
 | none=>y = .tup [.agg [aNil,aNil,aI 0],aI 8]
 | some b =>∃wu wq,Sl 3 (eN b.us) wu∧Sl 5 (eQ qs) wq∧y = .tup [.agg [wu,wq,aI b.gr],aI 0]
theorem Ld : ∃y,limf env 25 [.agg [xu,xq,aI gr],x1]=some y∧polA us qs gr l y:=by
 refine Gp (fn:=Tryz.f25) (c:=qQ) (by kernel_rfl) (by kernel_rfl) (by kernel_rfl) (by kernel_rfl) (by kernel_rfl) ?_
 refine xR _ _ _ _ fun g=>?_
 have hF0:Fr [(⟨0,4,0,0⟩,some ⟨3,[.agg [aNil,aNil,aI 0]],false,false⟩),(⟨0,2,0,0⟩,some ⟨3,[.agg [xu,xq,aI gr]],false,false⟩)]:=by simp(maxDischargeDepth:=12) [Heap.an,au,ak,Fr.nil,az,af,ah,ad,ae,ar,ao,ab, *]
 obtain⟨y,H2,hO,hA,hG⟩:=Kt (gr:=gr) hu hq hul hql hx hall 0 hF0 (fd:=88) (by kernel_rfl) (caps:=[])
  (fun b H2 rb rs ru xh xr ho hG hb hok=>LL (gr:=gr) hu hq hul hql hx hall 1 hG.fr hb)
 simp[af,ah,ad,ae,ab, *,qW,hu.r,hq.r]
 refine rf (by kernel_rfl) hO ?_
 have hb4:=hG.old ⟨0,4,0,0⟩ _ (by simp;rfl)
 have hF2:=hG.fr
 unfold jR at hA
 unfold polA
 cases ho:ofA us qs gr l with
 | none=>rw[ho]at hA;subst hA;clear hG hF0;simp[hb4]
 | some b =>
  rw[ho]at hA
  dsimp only at hA ⊢
  rw[if_pos rfl]at hA
  obtain⟨yu,wu,yq,wq,rfl,h3,h4⟩:=hA
  have c3:=h3.s.cells
  have c4:=h4.s.cells
  have hfz : ∀c',∀q c,H2.get q=some c→c.frz=true→(H2.put ⟨0,4,0,0⟩ (some c')).get q=some c:=by
   intro c' q c hq hf
   rw[Heap.an,if_neg (fun e=>by subst e;rw[hb4]at hq;injection hq with hq;subst hq;cases hf)]
   exact hq
  have v3:=fun c'=>(jj.keep h3 (hfz c')).s.view
  have v4:=fun c'=>(jj.keep h4 (hfz c')).s.view
  have s3:=h3.s.sl
  have s4:=h4.s.sl
  clear hG hF0 hfz h3 h4 hx hall
  simp[hb4,c3,c4,v3,v4]
  exact⟨s3,s4⟩
def verA(us:List Clear)(qs:List Quota)(gr:Int)(l:List (Rcd × AV))(o:Opn):AV:=match ofA us qs gr l with
 | none => .tup [aI 0,aI 8]
 | some b=>if opB o=true then .tup [aI (bw us qs gr b o),aI 0] else .tup [aI 0,aI 8]
theorem KP(dep:Nat){H:Heap}(hF:Fr H){rb rs ru:Ref}{xh xr:AV}{b:Book}(hb:BookX H rb rs ru xh xr us qs gr b)(hok:BookOk b){q1:Ref}(a_1:UInt8)(a_2:UInt8)(a_3:UInt32)(a_4:UInt8)(a_5:Int)(a_6:UInt8)(a_7:UInt32)(a_8:UInt8)(a_9:Int)(a_10:Int)(a_11:UInt8)(a_12:UInt32)(a_13:UInt8)(a_14:Int)(a_15:UInt8)(a_16:UInt32){x:AV}{al:List Int}(hax:Sl 1 (rows al) x)(hal:al.length<1000000)
 (e1:H.get q1=some ⟨17,[.agg [a8 a_1,a8 a_2,a32 a_3,a8 a_4,aI a_5,a8 a_6,a32 a_7,a8 a_8,aI a_9,aI a_10,a8 a_11,a32 a_12,a8 a_13,aI a_14,a8 a_15,a32 a_16,x]],false,false⟩) : ∃H',limt env dep (.fn 71) [.ptr rb 0 0,.ptr q1 0 0] H=some (.tup [aI (bw us qs gr b (⟨a_1,⟨a_2,a_3,a_4⟩,a_5,⟨⟨⟨a_6,a_7,a_8⟩,a_9⟩,a_10⟩,⟨⟨a_11,a_12,a_13⟩,a_14⟩,⟨a_15,a_16⟩,al⟩:Opn)),aI 0],H')∧Grow H H':=by
 refine dt (fn:=Tryz.f71) (c:=ny) (by kernel_rfl) (by kernel_rfl) (by kernel_rfl) (by kernel_rfl) (by kernel_rfl) ?_
 refine tS _ _ _ _ _ fun g=>?_
 have hv:=Br (dep+1) hF hb.at hok hul hql a_1 a_2 a_3 a_4 a_5 a_6 a_7 a_8 a_9 a_10 a_11 a_12 a_13 a_14 a_15 a_16 hax hal
 have hr:=hax.r
 clear hx hall hb hok
 generalize bw us qs gr b (⟨a_1,⟨a_2,a_3,a_4⟩,a_5,⟨⟨⟨a_6,a_7,a_8⟩,a_9⟩,a_10⟩,⟨⟨a_11,a_12,a_13⟩,a_14⟩,⟨a_15,a_16⟩,al⟩:Opn)=e at *
 simp[af,ah,ad,ae,ab, *,nC]
 refine jm (by kernel_rfl) hv fun H2 hG=>?_
 simp[hG]
theorem IK(a_1:UInt8)(a_2:UInt8)(a_3:UInt32)(a_4:UInt8)(a_5:Int)(a_6:UInt8)(a_7:UInt32)(a_8:UInt8)(a_9:Int)(a_10:Int)(a_11:UInt8)(a_12:UInt32)(a_13:UInt8)(a_14:Int)(a_15:UInt8)(a_16:UInt32){x:AV}{al:List Int}(hax:Sl 1 (rows al) x)(hal:al.length<1000000) :
 limf env 17 [.agg [xu,xq,aI gr],x1,.agg [a8 a_1,a8 a_2,a32 a_3,a8 a_4,aI a_5,a8 a_6,a32 a_7,a8 a_8,aI a_9,aI a_10,a8 a_11,a32 a_12,a8 a_13,aI a_14,a8 a_15,a32 a_16,x]]=some (verA us qs gr l (⟨a_1,⟨a_2,a_3,a_4⟩,a_5,⟨⟨⟨a_6,a_7,a_8⟩,a_9⟩,a_10⟩,⟨⟨a_11,a_12,a_13⟩,a_14⟩,⟨a_15,a_16⟩,al⟩:Opn)):=by
 refine aw (fn:=Tryz.f17) (c:=pA) rfl (by kernel_rfl) (by kernel_rfl) (by kernel_rfl) (by kernel_rfl) ?_;refine vV _ _ _ _ _ fun g=>?_
 have hF0:Fr [(⟨0,5,0,0⟩,some ⟨17,[.agg [a8 a_1,a8 a_2,a32 a_3,a8 a_4,aI a_5,a8 a_6,a32 a_7,a8 a_8,aI a_9,aI a_10,a8 a_11,a32 a_12,a8 a_13,aI a_14,a8 a_15,a32 a_16,x]],false,false⟩),(⟨0,3,0,0⟩,some ⟨3,[.agg [xu,xq,aI gr]],false,false⟩)]:=by simp(maxDischargeDepth:=12) [Heap.an,au,ak,Fr.nil,az,af,ah,ad,ae,ar,ao,ab, *]
 have hC:=iN a_1 a_2 a_3 a_4 a_5 a_6 a_7 a_8 a_9 a_10 a_11 a_12 a_13 a_14 a_15 a_16 hax (by omega)
 obtain⟨y,H2,hO,hA⟩:=As (gr:=gr) hu hq hul hql hx hall 0 hF0 (bad (opB (⟨a_1,⟨a_2,a_3,a_4⟩,a_5,⟨⟨⟨a_6,a_7,a_8⟩,a_9⟩,a_10⟩,⟨⟨a_11,a_12,a_13⟩,a_14⟩,⟨a_15,a_16⟩,al⟩:Opn))) (fd:=71) (by kernel_rfl) (caps:=[.ptr ⟨0,5,0,0⟩ 0 0])
  (R:=fun b y H=>y = .tup [aI (bw us qs gr b (⟨a_1,⟨a_2,a_3,a_4⟩,a_5,⟨⟨⟨a_6,a_7,a_8⟩,a_9⟩,a_10⟩,⟨⟨a_11,a_12,a_13⟩,a_14⟩,⟨a_15,a_16⟩,al⟩:Opn)),aI 0]) (fun hw b H2 rb rs ru xh xr ho hG hb hr hrt hok=>by
   obtain⟨H3,g1,g2⟩:=KP (gr:=gr) hu hq hul hql hx hall 1 hG.fr hb hok (q1:=⟨0,5,0,0⟩) a_1 a_2 a_3 a_4 a_5 a_6 a_7 a_8 a_9 a_10 a_11 a_12 a_13 a_14 a_15 a_16 hax hal (hG.old ⟨0,5,0,0⟩ _ (by simp))
   exact⟨_,_,H3,g1,rfl⟩)
 have he:y=verA us qs gr l (⟨a_1,⟨a_2,a_3,a_4⟩,a_5,⟨⟨⟨a_6,a_7,a_8⟩,a_9⟩,a_10⟩,⟨⟨a_11,a_12,a_13⟩,a_14⟩,⟨a_15,a_16⟩,al⟩:Opn):=by
  unfold jR at hA
  unfold verA
  cases ho:ofA us qs gr l with
  | none=>rw[ho]at hA;exact hA
  | some b =>
   rw[ho]at hA
   cases hi:opB (⟨a_1,⟨a_2,a_3,a_4⟩,a_5,⟨⟨⟨a_6,a_7,a_8⟩,a_9⟩,a_10⟩,⟨⟨a_11,a_12,a_13⟩,a_14⟩,⟨a_15,a_16⟩,al⟩:Opn) with
   | true=>simp only[hi,bad,if_true]at hA ⊢;exact hA
   | false=>simp[hi,bad]at hA ⊢;exact hA
 have hz : ∃z e,verA us qs gr l (⟨a_1,⟨a_2,a_3,a_4⟩,a_5,⟨⟨⟨a_6,a_7,a_8⟩,a_9⟩,a_10⟩,⟨⟨a_11,a_12,a_13⟩,a_14⟩,⟨a_15,a_16⟩,al⟩:Opn) = .tup [aI z,aI e]:=by
  unfold verA
  split
  ·exact⟨_,_,rfl⟩
  ·split
   ·exact⟨_,_,rfl⟩
   ·exact⟨_,_,rfl⟩
 obtain⟨z,e,hz⟩:=hz
 rw[hz]at he ⊢
 subst he
 have har:=hax.r
 clear hA hz hx hall hF0
 simp[af,ah,ad,ae,ab, *,pQ,hu.r,hq.r]
 refine rf (by kernel_rfl) hO ?_
 simp
end
end Go.Proofs.YtmkmimgokagimaaGreat
