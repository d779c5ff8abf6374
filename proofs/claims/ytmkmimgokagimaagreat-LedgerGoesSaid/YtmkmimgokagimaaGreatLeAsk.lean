/-
  What is asked of a log: whether it may be, and whether a record fits. No statement of a seat is proved here.
-/
import Derived.Test.YtmkmimgokagimaaGreatLeOf4
set_option linter.unusedVariables false
set_option linter.unusedSimpArgs false
set_option linter.unusedSectionVars false
set_option linter.unnecessarySimpa false
set_option maxRecDepth 100000
namespace Go.Proofs.YtmkmimgokagimaaGreat
open Go.Ab
attribute [local simp] bx aZ aL bw bu keep thr bD bh bq dC dB cP bF aE cC List.take_of_length_le
def uB(o:Option Book)(wr:Int)(zero:AV)(R:Book→AV→Heap→Prop)(y:AV)(H:Heap):Prop:=match o with
 | none=>y = .tup [zero,aI 8]
 | some b=>if wr=0 then R b y H else y = .tup [zero,aI wr]
section
variable{xu xq:AV}{us:List Clear}{qs:List Quota}{gr:Int}(hu:Sl 3 (gY us) xu)(hq:Sl 5 (iq qs) xq)(hul:us.length<1000000)(hql:qs.length<1000000){l:List (Rcd × AV)}{x1:AV}(hx:Sl 24 (dA l) x1)(hall : ∀p∈l,okRc p)
include hu hq hul hql hx hall
theorem EE(dep:Nat){H:Heap}(hF:Fr H)(wr:Int){fd:FuncId}(hm:(env.mode fd == 2)=true){caps:List AV}{R:Book→AV→Heap→Prop}
 (hdo:wr=0 →∀b H2 rb rs ru xh xr,ofA us qs gr l=some b→Grow H H2→BookX H2 rb rs ru xh xr us qs gr b→Own 24 (dA (l.map twR)) H2 xr→(∀r,xr.at?=some r→r.t=62)→BookOk b →∃z e H3,limt env (dep+1) (.fn fd) ([]++[.ptr rb 0 0]++caps) H2=some (.tup [z,e],H3)∧R b (.tup [z,e]) H3) :
 ∃y H',limt env dep (.fn 81) [.agg [xu,xq,aI gr],x1,aI wr,.fn (.func fd) [] caps] H=some (y,H')∧uB (ofA us qs gr l) wr (aB false) R y H':=by
 have hgo:GoL env Tryz.f81 (dep+1) [.code lO] (rM 0 [.agg [xu,xq,aI gr],x1,aI wr,.fn (.func fd) [] caps]) H fun y H'=>uB (ofA us qs gr l) wr (aB false) R y H':=by
  have hg2 : ∀b1:Blk,Grow H ((⟨dep+1,4,H.gen (dep+1) 4,0⟩,some b1) :: H):=fun b1=>Grow.cons hF _ _ _
  obtain⟨y,H2,hO,hA⟩:=s_Of (gr:=gr) hu hq hul hql hx hall (dep+1) (hg2 ⟨3,[.agg [xu,xq,aI gr]],false,false⟩).fr
  refine py _ _ _ _ _ _ _ fun g=>?_
  unfold uB
  simp[af,ah,ad,ae,ab, *,lP,hx.r,hu.r,hq.r]
  refine Ak (by kernel_rfl) hO ?_
  cases ho:ofA us qs gr l with
  | none =>
   rw[ho]at hA
   obtain⟨rfl,hG⟩:=hA
   simp
  | some b =>
   rw[ho]at hA
   obtain⟨rb,rs,ru,rk,xh,xr,rfl,hI,hok⟩:=hA
   by_cases hw:wr=0
   ·subst hw
    obtain⟨z,e,H3,h1,h2⟩:=hdo rfl b H2 rb rs ru xh xr ho ((hg2 _).trans hI.g) hI.bk hI.row (fun r e=>(hI.t62 r e).1) hok
    simp
    refine Ak hm h1 ?_
    simp
    exact h2
   ·simp[hw]
 obtain⟨y,H',h1,h2⟩:=kr (by kernel_rfl) (by kernel_rfl) (by kernel_rfl) (by kernel_rfl) (by kernel_rfl) hgo
 exact⟨y,H',h1,h2⟩
theorem G6(dep:Nat){H:Heap}(hF:Fr H)(wr:Int){fd:FuncId}(hm:(env.mode fd == 2)=true){caps:List AV}{R:Book→AV→Heap→Prop}
 (hdo:wr=0 →∀b H2 rb rs ru xh xr,ofA us qs gr l=some b→Grow H H2→BookX H2 rb rs ru xh xr us qs gr b→Own 24 (dA (l.map twR)) H2 xr→(∀r,xr.at?=some r→r.t=62)→BookOk b →∃z e H3,limt env (dep+1) (.fn fd) ([]++[.ptr rb 0 0]++caps) H2=some (.tup [z,e],H3)∧R b (.tup [z,e]) H3) :
 ∃y H',limt env dep (.fn 75) [.agg [xu,xq,aI gr],x1,aI wr,.fn (.func fd) [] caps] H=some (y,H')∧uB (ofA us qs gr l) wr aNil R y H':=by
 have hgo:GoL env Tryz.f75 (dep+1) [.code dW] (rM 0 [.agg [xu,xq,aI gr],x1,aI wr,.fn (.func fd) [] caps]) H fun y H'=>uB (ofA us qs gr l) wr aNil R y H':=by
  have hg2 : ∀b1:Blk,Grow H ((⟨dep+1,4,H.gen (dep+1) 4,0⟩,some b1) :: H):=fun b1=>Grow.cons hF _ _ _
  obtain⟨y,H2,hO,hA⟩:=s_Of (gr:=gr) hu hq hul hql hx hall (dep+1) (hg2 ⟨3,[.agg [xu,xq,aI gr]],false,false⟩).fr
  refine il _ _ _ _ _ _ _ fun g=>?_
  unfold uB
  simp[af,ah,ad,ae,ab, *,dX,hx.r,hu.r,hq.r]
  refine Ak (by kernel_rfl) hO ?_
  cases ho:ofA us qs gr l with
  | none =>
   rw[ho]at hA
   obtain⟨rfl,hG⟩:=hA
   simp
  | some b =>
   rw[ho]at hA
   obtain⟨rb,rs,ru,rk,xh,xr,rfl,hI,hok⟩:=hA
   by_cases hw:wr=0
   ·subst hw
    obtain⟨z,e,H3,h1,h2⟩:=hdo rfl b H2 rb rs ru xh xr ho ((hg2 _).trans hI.g) hI.bk hI.row (fun r e=>(hI.t62 r e).1) hok
    simp
    refine Ak hm h1 ?_
    simp
    exact h2
   ·simp[hw]
 obtain⟨y,H',h1,h2⟩:=kr (by kernel_rfl) (by kernel_rfl) (by kernel_rfl) (by kernel_rfl) (by kernel_rfl) hgo
 exact⟨y,H',h1,h2⟩
theorem Fp:limf env 34 [.agg [xu,xq,aI gr],x1]=some (aI (if (ofA us qs gr l).isSome then 0 else 8)):=by
 refine aA (fn:=Tryz.f34) (c:=pY) rfl (by kernel_rfl) (by kernel_rfl) (by kernel_rfl) (by kernel_rfl) ?_;refine vm _ _ _ _ fun g=>?_
 have hF0:Fr [(⟨0,2,0,0⟩,some ⟨3,[.agg [xu,xq,aI gr]],false,false⟩)]:=by simp(maxDischargeDepth:=12) [Heap.an,aq,aj,Fr.nil,au,af,ah,ad,ae,ao,ak,ab, *]
 obtain⟨y,H2,hO,hA⟩:=s_Of (gr:=gr) hu hq hul hql hx hall 0 hF0
 simp[af,ah,ad,ae,ab, *,qh,hx.r,hu.r,hq.r]
 refine Ak (by kernel_rfl) hO ?_
 cases ho:ofA us qs gr l with
 | none =>
  rw[ho]at hA
  obtain⟨rfl,hG⟩:=hA
  simp
 | some b =>
  rw[ho]at hA
  obtain⟨rb,rs,ru,rk,xh,xr,rfl,hI,hok⟩:=hA
  simp
theorem GM(dep:Nat){H:Heap}(hF:Fr H){rb rs ru:Ref}{xh xr:AV}{b:Book}(hb:BookX H rb rs ru xh xr us qs gr b)(hok:BookOk b){q:Ref}(k:UInt8)(u:Int)(a_1:UInt8)(a_2:UInt8)(a_3:UInt32)(a_4:UInt8)(a_5:Int)(a_6:UInt8)(a_7:UInt32)(a_8:UInt8)(a_9:Int)(a_10:Int)(a_11:UInt8)(a_12:UInt32)(a_13:UInt8)(a_14:Int)(a_15:UInt8)(a_16:UInt32)(c g1:Int)(v:UInt8)(w:UInt32)(o:Bool){x:AV}{al:List Int}(hax:Sl 1 (rows al) x)(hal:al.length<1000000)
 (hr:H.get q=some ⟨24,[.agg [a8 k,aI u,a8 a_1,a8 a_2,a32 a_3,a8 a_4,aI a_5,a8 a_6,a32 a_7,a8 a_8,aI a_9,aI a_10,a8 a_11,a32 a_12,a8 a_13,aI a_14,a8 a_15,a32 a_16,x,aI c,aI g1,a8 v,a32 w,aB o]],false,false⟩) (his:iG ⟨k,u,(⟨a_1,⟨a_2,a_3,a_4⟩,a_5,⟨⟨⟨a_6,a_7,a_8⟩,a_9⟩,a_10⟩,⟨⟨a_11,a_12,a_13⟩,a_14⟩,⟨a_15,a_16⟩,al⟩:Opn),c,g1,v,w,o⟩=true) :
 ∃H',limt env dep (.fn 83) [.ptr rb 0 0,.ptr q 0 0] H=some (.tup [aB (pv us qs gr b ⟨k,u,(⟨a_1,⟨a_2,a_3,a_4⟩,a_5,⟨⟨⟨a_6,a_7,a_8⟩,a_9⟩,a_10⟩,⟨⟨a_11,a_12,a_13⟩,a_14⟩,⟨a_15,a_16⟩,al⟩:Opn),c,g1,v,w,o⟩),aI 0],H')∧Grow H H':=by
 refine eg (fn:=Tryz.f83) (c:=pj) (by kernel_rfl) (by kernel_rfl) (by kernel_rfl) (by kernel_rfl) (by kernel_rfl) ?_
 have hg1 : ∀b1:Blk,Grow H ((⟨dep+1,5,H.gen (dep+1) 5,0⟩,some b1) :: H):=fun b1=>Grow.cons hF _ _ _
 have hkw:=fun H=>Gr false (dep+1) H (dep+1) 5
 have lr:(H.get q).isSome=true:=by rw[hr];rfl
 have hb1:=fun b1=>hb.grow (hg1 b1)
 have hk:k=1∨k=2∨k=3:=by
  by_cases e1:k=1
  ·exact .inl e1
  ·by_cases e2:k=2
   ·exact .inr (.inl e2)
   ·by_cases e3:k=3
    ·exact .inr (.inr e3)
    ·simp[iG,e1,e2,e3]at his
 refine uG _ _ _ _ _ fun g=>?_
 clear hx hall
 rcases hk with rfl | rfl | rfl
 ·have hl:=J3 (g:=Heap.get ((⟨dep+1,5,H.gen (dep+1) 5,0⟩,some (aY n9)) :: H)) (r:=⟨dep+1,5,H.gen (dep+1) 5,0⟩) (by simp)
  simp[af,ah,ad,ae,ab, *,jq,hkw,knd,hax.r]
  refine jf (by kernel_rfl) (J6 (dep+1) (hg1 _).fr (hb1 _).at hok hul hql 1 u a_1 a_2 a_3 a_4 a_5 a_6 a_7 a_8 a_9 a_10 a_11 a_12 a_13 a_14 a_15 a_16 c g1 v w o hax) fun H2 hG=>?_
  have:=(hg1 _).trans hG
  simp[this]
  rfl
 ·have hl:=J2 (g:=Heap.get ((⟨dep+1,5,H.gen (dep+1) 5,0⟩,some (aY n9)) :: H)) (r:=⟨dep+1,5,H.gen (dep+1) 5,0⟩) (by simp)
  simp[af,ah,ad,ae,ab, *,jq,hkw,knd,hax.r]
  refine jf (by kernel_rfl) (J5 (dep+1) (hg1 _).fr (hb1 _).at hok hul hql 2 u a_1 a_2 a_3 a_4 a_5 a_6 a_7 a_8 a_9 a_10 a_11 a_12 a_13 a_14 a_15 a_16 c g1 v w o hax hal) fun H2 hG=>?_
  have:=(hg1 _).trans hG
  simp[this]
  rfl
 ·have hl:=J1 (g:=Heap.get ((⟨dep+1,5,H.gen (dep+1) 5,0⟩,some (aY n9)) :: H)) (r:=⟨dep+1,5,H.gen (dep+1) 5,0⟩) (by simp)
  simp[af,ah,ad,ae,ab, *,jq,hkw,knd,hax.r]
  refine jf (by kernel_rfl) (J4 (dep+1) (hg1 _).fr (hb1 _).at hok hul hql 3 u a_1 a_2 a_3 a_4 a_5 a_6 a_7 a_8 a_9 a_10 a_11 a_12 a_13 a_14 a_15 a_16 c g1 v w o hax) fun H2 hG=>?_
  have:=(hg1 _).trans hG
  simp[this]
  rfl
def fitA(us:List Clear)(qs:List Quota)(gr:Int)(l:List (Rcd × AV))(r:Rcd):AV:=match ofA us qs gr l with
 | none => .tup [aB false,aI 8]
 | some b=>if iG r=true then .tup [aB (pv us qs gr b r),aI 0] else .tup [aB false,aI 8]
theorem JJ(k:UInt8)(u:Int)(a_1:UInt8)(a_2:UInt8)(a_3:UInt32)(a_4:UInt8)(a_5:Int)(a_6:UInt8)(a_7:UInt32)(a_8:UInt8)(a_9:Int)(a_10:Int)(a_11:UInt8)(a_12:UInt32)(a_13:UInt8)(a_14:Int)(a_15:UInt8)(a_16:UInt32)(c g1:Int)(v:UInt8)(w:UInt32)(o:Bool){x:AV}{al:List Int}(hax:Sl 1 (rows al) x)(hal:al.length<1000000) :
 limf env 23 [.agg [xu,xq,aI gr],x1,.agg [a8 k,aI u,a8 a_1,a8 a_2,a32 a_3,a8 a_4,aI a_5,a8 a_6,a32 a_7,a8 a_8,aI a_9,aI a_10,a8 a_11,a32 a_12,a8 a_13,aI a_14,a8 a_15,a32 a_16,x,aI c,aI g1,a8 v,a32 w,aB o]]=some (fitA us qs gr l ⟨k,u,(⟨a_1,⟨a_2,a_3,a_4⟩,a_5,⟨⟨⟨a_6,a_7,a_8⟩,a_9⟩,a_10⟩,⟨⟨a_11,a_12,a_13⟩,a_14⟩,⟨a_15,a_16⟩,al⟩:Opn),c,g1,v,w,o⟩):=by
 refine aA (fn:=Tryz.f23) (c:=q6) rfl (by kernel_rfl) (by kernel_rfl) (by kernel_rfl) (by kernel_rfl) ?_;refine w7 _ _ _ _ _ fun g=>?_
 have hF0:Fr [(⟨0,5,0,0⟩,some ⟨24,[.agg [a8 k,aI u,a8 a_1,a8 a_2,a32 a_3,a8 a_4,aI a_5,a8 a_6,a32 a_7,a8 a_8,aI a_9,aI a_10,a8 a_11,a32 a_12,a8 a_13,aI a_14,a8 a_15,a32 a_16,x,aI c,aI g1,a8 v,a32 w,aB o]],false,false⟩),(⟨0,3,0,0⟩,some ⟨3,[.agg [xu,xq,aI gr]],false,false⟩)]:=by simp(maxDischargeDepth:=12) [Heap.an,aq,aj,Fr.nil,au,af,ah,ad,ae,ao,ak,ab, *]
 have hC:=rz k u a_1 a_2 a_3 a_4 a_5 a_6 a_7 a_8 a_9 a_10 a_11 a_12 a_13 a_14 a_15 a_16 c g1 v w o hax hal
 obtain⟨y,H2,hO,hA⟩:=EE (gr:=gr) hu hq hul hql hx hall 0 hF0 (if iG ⟨k,u,(⟨a_1,⟨a_2,a_3,a_4⟩,a_5,⟨⟨⟨a_6,a_7,a_8⟩,a_9⟩,a_10⟩,⟨⟨a_11,a_12,a_13⟩,a_14⟩,⟨a_15,a_16⟩,al⟩:Opn),c,g1,v,w,o⟩ then 0 else 8) (fd:=83) (by kernel_rfl) (caps:=[.ptr ⟨0,5,0,0⟩ 0 0])
  (R:=fun b y H=>y = .tup [aB (pv us qs gr b ⟨k,u,(⟨a_1,⟨a_2,a_3,a_4⟩,a_5,⟨⟨⟨a_6,a_7,a_8⟩,a_9⟩,a_10⟩,⟨⟨a_11,a_12,a_13⟩,a_14⟩,⟨a_15,a_16⟩,al⟩:Opn),c,g1,v,w,o⟩),aI 0]) (fun hw b H2 rb rs ru xh xr ho hG hb hr hrt hok=>by
   have his:iG ⟨k,u,(⟨a_1,⟨a_2,a_3,a_4⟩,a_5,⟨⟨⟨a_6,a_7,a_8⟩,a_9⟩,a_10⟩,⟨⟨a_11,a_12,a_13⟩,a_14⟩,⟨a_15,a_16⟩,al⟩:Opn),c,g1,v,w,o⟩=true:=by
    by_cases h:iG ⟨k,u,(⟨a_1,⟨a_2,a_3,a_4⟩,a_5,⟨⟨⟨a_6,a_7,a_8⟩,a_9⟩,a_10⟩,⟨⟨a_11,a_12,a_13⟩,a_14⟩,⟨a_15,a_16⟩,al⟩:Opn),c,g1,v,w,o⟩=true
    ·exact h
    ·rw[if_neg h]at hw;simp at hw
   obtain⟨H3,h1,h2⟩:=GM (gr:=gr) hu hq hul hql hx hall 1 hG.fr hb hok k u a_1 a_2 a_3 a_4 a_5 a_6 a_7 a_8 a_9 a_10 a_11 a_12 a_13 a_14 a_15 a_16 c g1 v w o hax hal (hG.old ⟨0,5,0,0⟩ _ (by simp)) his
   exact⟨_,_,H3,h1,rfl⟩)
 have he:y=fitA us qs gr l ⟨k,u,(⟨a_1,⟨a_2,a_3,a_4⟩,a_5,⟨⟨⟨a_6,a_7,a_8⟩,a_9⟩,a_10⟩,⟨⟨a_11,a_12,a_13⟩,a_14⟩,⟨a_15,a_16⟩,al⟩:Opn),c,g1,v,w,o⟩:=by
  unfold uB at hA
  unfold fitA
  cases ho:ofA us qs gr l with
  | none=>rw[ho]at hA;exact hA
  | some b =>
   rw[ho]at hA
   cases hi:iG ⟨k,u,(⟨a_1,⟨a_2,a_3,a_4⟩,a_5,⟨⟨⟨a_6,a_7,a_8⟩,a_9⟩,a_10⟩,⟨⟨a_11,a_12,a_13⟩,a_14⟩,⟨a_15,a_16⟩,al⟩:Opn),c,g1,v,w,o⟩ with
   | true=>simp only[hi,if_true]at hA ⊢;exact hA
   | false=>simp[hi]at hA ⊢;exact hA
 have hz : ∃z e,fitA us qs gr l ⟨k,u,(⟨a_1,⟨a_2,a_3,a_4⟩,a_5,⟨⟨⟨a_6,a_7,a_8⟩,a_9⟩,a_10⟩,⟨⟨a_11,a_12,a_13⟩,a_14⟩,⟨a_15,a_16⟩,al⟩:Opn),c,g1,v,w,o⟩ = .tup [aB z,aI e]:=by
  unfold fitA
  split
  ·exact⟨_,_,rfl⟩
  ·split
   ·exact⟨_,_,rfl⟩
   ·exact⟨_,_,rfl⟩
 obtain⟨z,e,hz⟩:=hz
 rw[hz]at he ⊢
 subst he
 clear hA hz hx hall hF0
 simp[af,ah,ad,ae,ab, *,rj,hu.r,hq.r,hax.r]
 refine Ak (by kernel_rfl) hO ?_
 simp
end
end Go.Proofs.YtmkmimgokagimaaGreat
