/-
  Codes, and what is used: what these functions answer. No statement of a seat is proved here.
-/
import Derived.Test.YtmkmimgokagimaaGreatMLeOnce1
set_option linter.unusedVariables false
set_option linter.unusedSimpArgs false
set_option linter.unusedSectionVars false
set_option linter.unnecessarySimpa false
set_option maxRecDepth 100000
namespace Go.Proofs.YtmkmimgokagimaaGreat
open Go.Ab
attribute [local simp] bm aP aG bh bg keep thr bF aY bf dw dv cV bG aC cd List.take_of_length_le
def zA(us:List Clear)(qs:List Quota)(gr:Int)(l:List (Rcd × AV))(h:Han)(sr:Int):AV:=match ofA us qs gr l with
 | none => .tup [aI 0,aI 8]
 | some _=>if mX h=true then m0 h sr (l.map twR) else .tup [aI 0,aI 8]
theorem wB(h:Han)(sr:Int)(l:List (Rcd × AV)) : ∃a b,m0 h sr l = .tup [aI a,aI b]:=by
 unfold m0
 split
 ·exact⟨_,_,rfl⟩
 ·exact⟨_,_,rfl⟩
def HF(b:Book)(v1:UInt8)(v2:UInt32):Quota:=⟨v1,v2,(useD (cm ⟨v1,v2⟩ b.used)).opens,(useD (cm ⟨v1,v2⟩ b.used)).ops,(useD (cm ⟨v1,v2⟩ b.used)).cells⟩
def ye(us:List Clear)(qs:List Quota)(gr:Int)(l:List (Rcd × AV))(v1:UInt8)(v2:UInt32):AV:=match ofA us qs gr l with
 | none => .tup [.agg [a8 0,a32 0,aI 0,aI 0,aI 0],aI 8]
 | some b=>if v1≤15 then .tup [.agg (HF b v1 v2).enc,aI 0] else .tup [.agg [a8 0,a32 0,aI 0,aI 0,aI 0],aI 8]
section
variable{xu xq:AV}{us:List Clear}{qs:List Quota}{gr:Int}(hu:Sl 3 (eg us) xu)(hq:Sl 5 (eK qs) xq)(hul:us.length<1000000)(hql:qs.length<1000000){l:List (Rcd × AV)}{x1:AV}(hx:Sl 24 (dR l) x1)(hall : ∀p∈l,okRc p)
include hu hq hul hql hx hall
theorem JZ(hl:l.length≤2048)(dep:Nat){H:Heap}(hF:Fr H){rb rs ru:Ref}{xh xr:AV}{b:Book}(hb:BookX H rb rs ru xh xr us qs gr b)(hr:Own 24 (dR (l.map twR)) H xr){q1 q2:Ref}(h1:UInt8)(h2:UInt32)(h3:UInt8)(sr:Int)
 (e1:H.get q1=some ⟨3,[.agg [a8 h1,a32 h2,a8 h3]],false,false⟩) (e2:H.get q2=some ⟨1,[aI sr],false,false⟩) :
 ∃H',limt env dep (.fn 95) [.ptr rb 0 0,.ptr q1 0 0,.ptr q2 0 0] H=some (m0 ⟨h1,h2,h3⟩ sr (l.map twR),H')∧Grow H H':=by
 refine dG (fn:=Tryz.f95) (c:=m9) (by kernel_rfl) (by kernel_rfl) (by kernel_rfl) (by kernel_rfl) (by kernel_rfl) ?_
 refine xn _ _ _ _ _ _ fun g=>?_
 have hlp:=JY (recs:=l.map twR) (by simpa using hl) (fun p hp=>by
  obtain⟨p0,h0,rfl⟩:=List.mem_map.1 hp
  have:=hall p0 h0
  exact⟨yh this.1,this.2⟩) (dep:=dep) h1 h2 h3 sr (Q:=fun y H'=>y=m0 ⟨h1,h2,h3⟩ sr (l.map twR)∧Grow H H') (l.map twR) 0 H rfl (by omega) hF hr e1 e2 (fun H' hG=>⟨rfl,hG⟩)
 obtain⟨xu',xq',yu,yq,wu,wq,hb1,_⟩:=hb.box
 have c9:=hb.one
 have hrl:=Own.len hr
 rw[nN,List.length_map]at hrl
 rw[List.length_map]at hlp
 clear hx hall hb hr
 generalize m0 ⟨h1,h2,h3⟩ sr (l.map twR)=cc at *
 simp[af,ah,ad,ae,ab, *,qV]
 exact hlp
theorem HG(dep:Nat){H:Heap}(hF:Fr H){rb rs ru:Ref}{xh xr:AV}{b:Book}(hb:BookX H rb rs ru xh xr us qs gr b)(hok:BookOk b){q1:Ref}(v1:UInt8)(v2:UInt32)(e1:H.get q1=some ⟨2,[.agg [a8 v1,a32 v2]],false,false⟩) :
 ∃H',limt env dep (.fn 98) [.ptr rb 0 0,.ptr q1 0 0] H=some (.tup [.agg (HF b v1 v2).enc,aI 0],H')∧Grow H H':=by
 refine dG (fn:=Tryz.f98) (c:=qN) (by kernel_rfl) (by kernel_rfl) (by kernel_rfl) (by kernel_rfl) (by kernel_rfl) ?_
 refine xk _ _ _ _ _ fun g=>?_
 obtain⟨xu',xq',yu,yq,wu,wq,hb1,hb2,hb3,hb4,hb5⟩:=hb.box
 have h7:=hb.use
 have c4:=hb4.s.cells
 have c5:=hb5.s.cells
 have c8:xh.cells=[xh]∧xh.one=true:=by obtain⟨_,hs⟩:=jc hb.hist;exact hs.cells
 have c9:=hb.one
 have l1:(H.get rb).isSome=true:=by rw[hb1];rfl
 have l2:(H.get q1).isSome=true:=by rw[e1];rfl
 have l7:(H.get ru).isSome=true:=by rw[h7];rfl
 have hlk:=fun(H':Heap)(h:H'.get ru=some (bn (dk labK b.used)))=>AT (g:=H'.get) hok.used h ⟨v1,v2⟩
 have hfin : ∀b1 b2:Blk,Grow H ((⟨dep+1,5,H.gen (dep+1) 5,0⟩,some b2) :: (⟨dep+1,3,H.gen (dep+1) 3,0⟩,some b1) :: H):=fun b1 b2=>⟨by simp(maxDischargeDepth:=12) [Heap.an,ar,aj,Fr.nil,au,af,ah,ad,ae,aq,ak,ab, *],fun q c hq=>by
  have lq:(H.get q).isSome=true:=by rw[hq];rfl
  simp[af hF lq,hq]⟩
 unfold HF
 generalize useD (cm ⟨v1,v2⟩ b.used)=u at *
 obtain⟨u1,u2,u3⟩:=u
 clear hx hall hb hb4 hb5 hok
 simp[af,ah,ad,ae,ab, *,qS,Use.av,Quota.enc]
 try exact hfin _ _
theorem MA(h1:UInt8)(h2:UInt32)(h3:UInt8)(sr:Int):limf env 29 [.agg [xu,xq,aI gr],x1,.agg [a8 h1,a32 h2,a8 h3],aI sr]=some (zA us qs gr l ⟨h1,h2,h3⟩ sr):=by
 refine az (fn:=Tryz.f29) (c:=te) rfl (by kernel_rfl) (by kernel_rfl) (by kernel_rfl) (by kernel_rfl) ?_;refine z6 _ _ _ _ _ _ fun g=>?_
 have hF0:Fr [(⟨0,7,0,0⟩,some ⟨1,[aI sr],false,false⟩),(⟨0,6,0,0⟩,some ⟨3,[.agg [a8 h1,a32 h2,a8 h3]],false,false⟩),(⟨0,4,0,0⟩,some ⟨3,[.agg [xu,xq,aI gr]],false,false⟩)]:=by simp(maxDischargeDepth:=12) [Heap.an,ar,aj,Fr.nil,au,af,ah,ad,ae,aq,ak,ab, *]
 have hC:=uB h1 h2 h3
 obtain⟨y,H2,hO,hA⟩:=zK (gr:=gr) hu hq hul hql hx hall 0 hF0 (bad (mX ⟨h1,h2,h3⟩)) (fd:=95) (by kernel_rfl) (caps:=[.ptr ⟨0,6,0,0⟩ 0 0,.ptr ⟨0,7,0,0⟩ 0 0])
  (R:=fun b y H=>y=m0 ⟨h1,h2,h3⟩ sr (l.map twR)) (fun hw b H2 rb rs ru xh xr ho hG hb hr hrt hok=>by
   have hlen:l.length≤2048:=by
    unfold ofA at ho
    split at ho
    ·rename_i h;exact h.2
    ·cases ho
   obtain⟨H3,g1,g2⟩:=JZ (gr:=gr) hu hq hul hql hx hall hlen 1 hG.fr hb hr (q1:=⟨0,6,0,0⟩) (q2:=⟨0,7,0,0⟩) h1 h2 h3 sr (hG.old ⟨0,6,0,0⟩ _ (by simp)) (hG.old ⟨0,7,0,0⟩ _ (by simp))
   obtain⟨ca,cb,hc⟩:=wB ⟨h1,h2,h3⟩ sr (l.map twR)
   rw[hc]at g1 ⊢
   exact⟨_,_,H3,g1,rfl⟩)
 have he:y=zA us qs gr l ⟨h1,h2,h3⟩ sr:=by
  unfold iC at hA
  unfold zA
  cases ho:ofA us qs gr l with
  | none=>rw[ho]at hA;exact hA
  | some b =>
   rw[ho]at hA
   cases hi:mX ⟨h1,h2,h3⟩ with
   | true=>simp only[hi,bad,if_true]at hA ⊢;exact hA
   | false=>simp[hi,bad]at hA ⊢;exact hA
 have hz : ∃z e,zA us qs gr l ⟨h1,h2,h3⟩ sr = .tup [aI z,aI e]:=by
  unfold zA
  split
  ·exact⟨_,_,rfl⟩
  ·split
   ·exact wB _ _ _
   ·exact⟨_,_,rfl⟩
 obtain⟨z,e,hz⟩:=hz
 rw[hz]at he ⊢
 subst he
 clear hA hz hx hall hF0
 simp[af,ah,ad,ae,ab, *,tv,hu.r,hq.r]
 refine n9 (by kernel_rfl) hO ?_
 simp
theorem Mz(v1:UInt8)(v2:UInt32):limf env 31 [.agg [xu,xq,aI gr],x1,.agg [a8 v1,a32 v2]]=some (ye us qs gr l v1 v2):=by
 refine az (fn:=Tryz.f31) (c:=s9) rfl (by kernel_rfl) (by kernel_rfl) (by kernel_rfl) (by kernel_rfl) ?_;refine z0 _ _ _ _ _ fun g=>?_
 have hF0:Fr [(⟨0,6,0,0⟩,some ⟨5,[.agg [a8 0,a32 0,aI 0,aI 0,aI 0]],false,false⟩),(⟨0,5,0,0⟩,some ⟨2,[.agg [a8 v1,a32 v2]],false,false⟩),(⟨0,3,0,0⟩,some ⟨3,[.agg [xu,xq,aI gr]],false,false⟩)]:=by simp(maxDischargeDepth:=12) [Heap.an,ar,aj,Fr.nil,au,af,ah,ad,ae,aq,ak,ab, *]
 have hC:=BE v1 v2
 obtain⟨y,H2,hO,hA,hG⟩:=Fb (gr:=gr) hu hq hul hql hx hall 0 hF0 (bad (decide (v1≤15))) (fd:=98) (by kernel_rfl) (caps:=[.ptr ⟨0,5,0,0⟩ 0 0])
  (f:=fun b=>HF b v1 v2) (fun hw b H2 rb rs ru xh xr ho hG hb hok=>HG (gr:=gr) hu hq hul hql hx hall 1 hG.fr hb hok (q1:=⟨0,5,0,0⟩) v1 v2 (hG.old ⟨0,5,0,0⟩ _ (by simp)))
 have he:y=ye us qs gr l v1 v2:=by
  unfold iC at hA
  unfold ye
  cases ho:ofA us qs gr l with
  | none=>rw[ho]at hA;exact hA
  | some b =>
   rw[ho]at hA
   dsimp only at hA ⊢
   by_cases hi:v1≤15
   ·simp only[hi,bad,decide_true,if_true]at hA ⊢;exact hA
   ·simp[hi,bad]at hA
    rw[if_neg hi]
    exact hA
 have hz : ∃q e,ye us qs gr l v1 v2 = .tup [.agg (Quota.enc q),aI e]:=by
  unfold ye
  split
  ·exact⟨⟨0,0,0,0,0⟩,8,rfl⟩
  ·split
   ·exact⟨_,_,rfl⟩
   ·exact⟨⟨0,0,0,0,0⟩,8,rfl⟩
 obtain⟨q,e,hz⟩:=hz
 rw[hz]at he ⊢
 subst he
 have hb6:=hG.old ⟨0,6,0,0⟩ _ (by simp;rfl)
 have hF2:=hG.fr
 obtain⟨f1,f2,f3,f4,f5⟩:=q
 clear hA hz hx hall hF0 hG
 simp[af,ah,ad,ae,ab, *,tq,hu.r,hq.r]
 refine n9 (by kernel_rfl) hO ?_
 simp[Quota.enc,hb6]
end
end Go.Proofs.YtmkmimgokagimaaGreat
