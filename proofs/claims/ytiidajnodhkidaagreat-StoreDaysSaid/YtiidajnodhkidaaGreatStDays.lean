/-
  Stores in use: one run. No statement of a seat is proved here.
-/
import Derived.Test.YtiidajnodhkidaaGreatMStDays0
import Derived.Test.YtiidajnodhkidaaGreatStVl4
set_option linter.unusedVariables false
set_option linter.unusedSimpArgs false
set_option linter.unusedSectionVars false
set_option linter.unnecessarySimpa false
set_option maxRecDepth 100000
namespace Go.Proofs.YtiidajnodhkidaaGreat
open Go.Ab
attribute [local simp] cx bP bT bS keep thr cF bH bU eF eE cM cE aY dq List.take_of_length_le
def encT(l:List Stp):List AV:=l.map Stp.val
@[simp] theorem tY(l:List Stp):(encT l).length=l.length:=by simp[encT]
section
variable{l:List Stp}{x:AV}(hx:Sl 26 (encT l) x)(hl : ∀p∈l,Sl 1 (rows p.r.op.l) p.x)
include hx hl
theorem Hs{Q:AV→Heap→Prop}{H:Heap}(hQ : ∀t:Bool,(t=false→(∀p∈l.take 50,p.r.op.l.length≤200)∧(l.length:Int)≤24)→Q (aB t) H) : ∀(s:List Stp)(k:Nat)(i:Int),l.drop k=s→k≤l.length→i=k →
 (∀p∈l.take k,p.r.op.l.length≤200)→k≤50→GoL env Tryz.f17 0 eX [(3,aI i),(0,x)] H Q:=by
 intro s
 induction s with
 | nil =>
  rintro k i hs hk rfl hd h2
  obtain rfl:=drop_nil hs hk
  refine jo _ _ _ _ fun g=>?_
  rw[List.take_length]at hd
  have hQ':=hQ (decide (24<(l.length:Int))) (fun h=>⟨fun p hp=>hd p (List.mem_of_mem_take hp),by simpa using h⟩)
  have hxr:=hx.r
  rw[tY]at hxr
  clear hQ hl hd
  simp[af,ah,ad,ae,aa, *,dT]
  all_goals exact hQ'
 | cons p s ih =>
  rintro k i hs hk rfl hd h2
  obtain⟨hlt,hg,hs',hg'⟩:=drop_cons hs
  have hpx:=(hl p (hg ▸ List.getElem_mem _)).r
  have e3:=IntWalk.i64_in ((k:Int)+1) (by omega)
  refine jo _ _ _ _ fun g=>?_
  have hkl:(k:Int)<l.length:=by omega
  have hxr:=hx.r
  rw[tY]at hxr
  by_cases h200:k<50
  ·have h200':(k:Int)<50:=by omega
   have hrd1:dV (encT l) k 19 1 false=some p.x:=by simp[encT,hg',Stp.val]
   by_cases hbig:p.r.op.l.length≤200
   ·have hih:=ih (k+1) ((k:Int)+1) hs' (by omega) (by simp) (by
     intro q hq
     rw[List.take_add_one,hg']at hq
     rcases List.mem_append.1 hq with hq | hq
     ·exact hd q hq
     ·simp at hq;subst hq;exact hbig) (by omega)
    have hb' : ¬(200:Int)<p.r.op.l.length:=by omega
    clear ih hQ hl hd
    simp[af,ah,ad,ae,aa, *,dT,hx.idx]
   ·have hQ':=hQ true (by simp)
    have hb':(200:Int)<p.r.op.l.length:=by omega
    clear ih hQ hl hd
    simp[af,ah,ad,ae,aa, *,dT,hx.idx]
    all_goals exact hQ'
  ·have hk2:k=50:=by omega
   subst hk2
   have hQ':=hQ (decide (24<(l.length:Int))) (fun h=>⟨hd,by simpa using h⟩)
   have hkl':(50:Int)<l.length:=by omega
   have hkl2:50<l.length:=by omega
   clear ih hQ hl hd
   simp[af,ah,ad,ae,aa, *,dT]
   all_goals exact hQ'
theorem O4 : ∃t:Bool,limf env 17 [x]=some (aB t)∧(t=false→(∀p∈l.take 50,p.r.op.l.length≤200)∧(l.length:Int)≤24):=by
 have h : ∃y,limf env 17 [x]=some y ∧∃t:Bool,y=aB t∧(t=false→(∀p∈l.take 50,p.r.op.l.length≤200)∧(l.length:Int)≤24):=by
  refine Ga (fn:=Tryz.f17) (c:=gZ) (by kernel_rfl) (by kernel_rfl) (by kernel_rfl) (by kernel_rfl) (by kernel_rfl) ?_
  refine oA _ _ _ fun g=>?_
  exact Hs hx hl (fun t ht=>⟨aB t,by simp,t,rfl,ht⟩) l 0 0 rfl (by omega) rfl (by simp) (by omega)
 obtain⟨y,h1,t,rfl,h2⟩:=h
 exact⟨t,h1,h2⟩
end
section
variable{l:List Stp}{x:AV}(hx:Sl 26 (encT l) x)(hl : ∀p∈l,okRc (p.r,p.x))(hn:l.length≤24){Q:AV→Heap→Prop}(hQ : ∀H,Q (aB true) H)
include hx hl hn hQ
theorem M9{d:Dk}{L1 L2:List Rcd}{g at':Int}(h:Good d L1 L2 g at'){x8:AV}{H:Heap}(hF:Fr H)(h6:H.get ⟨0,6,0,0⟩=some ⟨8,[mH d (L1++L2) g L1.length at'],false,false⟩)(e:Int) :
 GoL env Tryz.f4 0 bF [(10,aI l.length),(1,x),(6,.ptr ⟨0,6,0,0⟩ 0 0),(9,aI e),(8,x8),(5,aB true)] H Q:=by
 refine gT _ _ _ _ _ _ _ _ fun _=>?_
 have h1:=s_Of h.fit
 rw[Af h]at h1
 obtain⟨r1,r2,r3⟩:=kF h
 have hG:=qL h
 have h2:=FK hG.fit h.fit r2 r2 r1 r1 (by omega) g L1.length at' g L1.length at'
 have e1:(zZ d.tw d&&(kp (rcs (runR (L1++L2))) (rcs (runR (L1++L2)))&&((decide (g=g)&&decide ((L1.length:Int)=L1.length))&&decide (at'=at'))))=true:=by
  unfold zZ
  rw[kR,show keyS d.tw.l=keyS d.l from NW _]
  simp[Dk.tw]
 rw[e1]at h2
 have f1:=h.fit.sl.r
 have f2:=hG.fit.sl.r
 have ho:=r2.r.2
 have hxr:=hx.r
 rw[tY]at hxr
 clear hl h r1 r2 r3 hG e1
 unfold mH at *
 generalize outI 24 (bB (runR (L1++L2)))=o at *
 generalize d.tw=D at *
 obtain⟨l1,y1,st1,lf1,dd1⟩:=d
 obtain⟨l2,y2,st2,lf2,dd2⟩:=D
 simp only[stV,Dk.val,dsk]at *
 simp[af,ah,ad,ae,aa, *,aL,hx.idx,Heap.aj]
theorem Kw : ∀(s:List Stp)(k:Nat)(i:Int)(d:Dk)(L1 L2:List Rcd)(g at' e:Int)(W:List (Rcd × AV)) (x8:AV) (H:Heap),l.drop k=s→k≤l.length→i=k→Good d L1 L2 g at'→e=d.st→d.st≤k+1→g≤k→rcs W=L1++L2→W.length≤k→(∀p∈W,okRc p)→Fr H →
 H.get ⟨0,6,0,0⟩=some ⟨8,[mH d (L1++L2) g L1.length at'],false,false⟩→te [94] 24 (bB W) H x8 →
 GoL env Tryz.f4 0 bF [(10,aI i),(1,x),(6,.ptr ⟨0,6,0,0⟩ 0 0),(9,aI e),(8,x8),(5,aB true)] H Q:=by
 intro s
 induction s with
 | nil =>
  rintro k i d L1 L2 g at' e W x8 H hs hk rfl hG he hst hgk hW hWl hWo hF h6 hO
  obtain rfl:=drop_nil hs hk
  exact M9 hx hl hn hQ hG hF h6 e
 | cons s t ih =>
  rintro k i d L1 L2 g at' e W x8 H hs hk rfl hG rfl hst hgk hW hWl hWo hF h6 hO
  obtain⟨hlt,hg,hs',hg'⟩:=drop_cons hs
  have hp:=hl s (hg ▸ List.getElem_mem _)
  have hWn:(L1++L2).length=W.length:=by rw[←hW];simp[rcs]
  obtain⟨y,hy,hD⟩:=TQ hG (by omega) (by omega) (by omega) s hp.1 (by have:=hp.2;simp at this;omega)
  have hC:=GP hp
  have e1:=IntWalk.i64_in ((k:Int)+1) (by omega)
  have e2:=IntWalk.i64_in (d.st+1) (by have:=hG.st;omega)
  have hkl:(k:Int)<l.length:=by omega
  have rd0:dV (encT l) k 0 26 true=some s.val:=by simp[encT,hg',Stp.val]
  have rd1:dV (encT l) k 0 1 false=some (a8 s.k):=by simp[encT,hg',Stp.val]
  have rd2:dV (encT l) k 1 24 true=some (s.r.val s.x):=by simp[encT,hg',Stp.val,Rcd.val]
  have f1:=hG.fit.sl.r
  have o1:=(iw 24 (bB (runR (L1++L2)))).r
  have hxr:=hx.r
  have hpx:=hp.1.r
  rw[tY]at hxr
  have hWl':W.length≤24:=by omega
  have hlen:(bB W).length=W.length:=jf W
  refine gT _ _ _ _ _ _ _ _ fun _=>?_
  cases hD with
  | no er her hk0 =>
   have hih:=fun H'=>ih (k+1) ((k:Int)+1) d L1 L2 g at' d.st W x8 H' hs' (by omega) (by simp) hG rfl (by omega) (by omega) hW (by omega) hWo
   by_cases k0:s.k=0
   ·obtain⟨_,hI⟩:=hk0 (.inl k0)
    rw[hI,if_neg (by decide)]at hC
    clear ih hQ hl hW hWo hG hk0 hI hWn hg hg' hs hs' hp
    obtain⟨sk,sr,sx,sn⟩:=s
    simp only at k0
    subst k0
    unfold mH at *
    generalize outI 24 (bB (runR (L1++L2)))=o at *
    obtain⟨l1,y1,st1,lf1,dd1⟩:=d
    simp only[stV,iZ,Stp.val]at *
    unfold Rcd.val at *
    have l6:(H.get ⟨0,6,0,0⟩).isSome=true:=by rw[h6];rfl
    rcases hO with ⟨rfl,hz⟩ | ⟨t,gg,ht',rfl,hrr⟩
    ·have hih':=fun H' a b=>hih H' a b (.inl ⟨rfl,hz⟩)
     clear hih
     simp[af,ah,ad,ae,aa, *,aL,hx.idx,Heap.aj]
     exact hih' _ (by simp(maxDischargeDepth:=12) [Heap.aj,aw,aq,Fr.nil,aK,af,ah,ad,ae,ay,ao,aa, *]) (by simp(maxDischargeDepth:=12) [Heap.aj,aw,aq,Fr.nil,aK,af,ah,ad,ae,ay,ao,aa, *])
    ·rw[List.mem_singleton]at ht'
     subst ht'
     have l7:(H.get ⟨0,94,gg,0⟩).isSome=true:=by rw[hrr];rfl
     have hih':=fun H' a b c=>hih H' a b (.inr ⟨94,gg,by simp,rfl,c⟩)
     clear hih
     simp only[hlen]at hrr hih' ⊢
     simp[af,ah,ad,ae,aa, *,aL,hx.idx,Heap.aj]
     exact hih' _ (by simp(maxDischargeDepth:=12) [Heap.aj,aw,aq,Fr.nil,aK,af,ah,ad,ae,ay,ao,aa, *]) (by simp(maxDischargeDepth:=12) [Heap.aj,aw,aq,Fr.nil,aK,af,ah,ad,ae,ay,ao,aa, *]) (by simp(maxDischargeDepth:=12) [Heap.aj,aw,aq,Fr.nil,aK,af,ah,ad,ae,ay,ao,aa, *])
   ·clear ih hQ hl hW hWo hG hk0 hWn hg hg' hs hs' hp
    obtain⟨sk,sr,sx,sn⟩:=s
    simp only at k0
    unfold mH at *
    generalize outI 24 (bB (runR (L1++L2)))=o at *
    obtain⟨l1,y1,st1,lf1,dd1⟩:=d
    simp only[stV,iZ,Stp.val]at *
    unfold Rcd.val at *
    have l6:(H.get ⟨0,6,0,0⟩).isSome=true:=by rw[h6];rfl
    rcases hO with ⟨rfl,hz⟩ | ⟨t,gg,ht',rfl,hrr⟩
    ·have hih':=fun H' a b=>hih H' a b (.inl ⟨rfl,hz⟩)
     clear hih
     simp[af,ah,ad,ae,aa, *,aL,hx.idx,Heap.aj]
     exact hih' _ (by simp(maxDischargeDepth:=12) [Heap.aj,aw,aq,Fr.nil,aK,af,ah,ad,ae,ay,ao,aa, *]) (by simp(maxDischargeDepth:=12) [Heap.aj,aw,aq,Fr.nil,aK,af,ah,ad,ae,ay,ao,aa, *])
    ·rw[List.mem_singleton]at ht'
     subst ht'
     have l7:(H.get ⟨0,94,gg,0⟩).isSome=true:=by rw[hrr];rfl
     have hih':=fun H' a b c=>hih H' a b (.inr ⟨94,gg,by simp,rfl,c⟩)
     clear hih
     simp only[hlen]at hrr hih' ⊢
     simp[af,ah,ad,ae,aa, *,aL,hx.idx,Heap.aj]
     exact hih' _ (by simp(maxDischargeDepth:=12) [Heap.aj,aw,aq,Fr.nil,aK,af,ah,ad,ae,ay,ao,aa, *]) (by simp(maxDischargeDepth:=12) [Heap.aj,aw,aq,Fr.nil,aK,af,ah,ad,ae,ay,ao,aa, *]) (by simp(maxDischargeDepth:=12) [Heap.aj,aw,aq,Fr.nil,aK,af,ah,ad,ae,ay,ao,aa, *])
  | yes D M1 M2 g' a2 hG2 hg2 hst2 hW2 hkd hxx =>
   obtain⟨r1,r2,r3⟩:=kF hG2
   have gC:=Kh hG2
   have gE:=Kg hG2
   have f2:=hG2.fit.sl.r
   have o2:=(iw 24 (bB (runR (M1++M2)))).r.2
   unfold mH at *
   by_cases k0:s.k=0
   ·rw[k0,if_neg (by decide)]at hst2
    cases hdd:D.dd with
    | true =>
     rw[if_neg (fun h=>by rw[hdd]at h;cases h.2)]at hW2
     have gS:=fun(W:List (Rcd × AV)) (z:AV) (hz:Sl 24 (bB W) z) (h : ∀p∈W,okRc p) (he:rcs W=L1++L2)=>(tC r2 hz r1 h r3).trans (show some (aB (kp (rcs (runR (M1++M2))) (rcs W)))=some (aB true) by rw[mB,he,hW2,kR])
     have hih:=fun H'=>ih (k+1) ((k:Int)+1) D M1 M2 g' a2 D.st W x8 H' hs' (by omega) (by simp) hG2 rfl (by omega) (by omega) (hW.trans hW2.symm) (by omega) hWo
     clear ih hQ hl hG hG2 r1 r2 r3 hWn hg hg' hs hs' hp hkd hxx hg2 hWl hst hgk hW2
     generalize outI 24 (bB (runR (L1++L2)))=o at *
     generalize outI 24 (bB (runR (M1++M2)))=o' at *
     obtain⟨l1,y1,st1,lf1,dd1⟩:=d
     obtain⟨l2,y2,st2,lf2,dd2⟩:=D
     obtain⟨sk,sr,sx,sn⟩:=s
     simp only[stV,iZ,Stp.val]at *
     subst hst2
     subst k0
     subst hdd
     unfold Rcd.val at hC rd2
     have l6:(H.get ⟨0,6,0,0⟩).isSome=true:=by rw[h6];rfl
     rcases hO with ⟨rfl,hz⟩ | ⟨t,gg,ht',rfl,hrr⟩
     ·have hS:=gS W aNil (.inl ⟨rfl,hz⟩) hWo hW
      have hih':=fun H' a b=>hih H' a b (.inl ⟨rfl,hz⟩)
      clear hih gS hW hWo
      simp[af,ah,ad,ae,aa, *,aL,hx.idx,Heap.aj]
      exact hih' _ (by simp(maxDischargeDepth:=12) [Heap.aj,aw,aq,Fr.nil,aK,af,ah,ad,ae,ay,ao,aa, *]) (by simp(maxDischargeDepth:=12) [Heap.aj,aw,aq,Fr.nil,aK,af,ah,ad,ae,ay,ao,aa, *])
     ·rw[List.mem_singleton]at ht'
      subst ht'
      have hS:=gS W (.isl 24 (bB W) none) (Sl.mk _ _) hWo hW
      have l7:(H.get ⟨0,94,gg,0⟩).isSome=true:=by rw[hrr];rfl
      have hih':=fun H' a b c=>hih H' a b (.inr ⟨94,gg,by simp,rfl,c⟩)
      clear hih gS hW hWo
      simp only[hlen]at hrr hih' ⊢
      simp[af,ah,ad,ae,aa, *,aL,hx.idx,Heap.aj]
      exact hih' _ (by simp(maxDischargeDepth:=12) [Heap.aj,aw,aq,Fr.nil,aK,af,ah,ad,ae,ay,ao,aa, *]) (by simp(maxDischargeDepth:=12) [Heap.aj,aw,aq,Fr.nil,aK,af,ah,ad,ae,ay,ao,aa, *]) (by simp(maxDischargeDepth:=12) [Heap.aj,aw,aq,Fr.nil,aK,af,ah,ad,ae,ay,ao,aa, *])
    | false =>
     rw[if_pos ⟨k0,hdd⟩]at hW2
     have hW3:rcs (W++[(s.r,s.x)])=M1++M2:=by rw[hW2,←hW];simp[rcs]
     have hWo3 : ∀p∈W++[(s.r,s.x)],okRc p:=fun p h=>by
      rcases List.mem_append.1 h with h | h
      ·exact hWo p h
      ·rw[List.mem_singleton.1 h];exact hp
     have hS:limf env 21 [outI 24 (bB (runR (M1++M2))),.isl 24 (bB W++[s.r.val s.x]) none]=some (aB true):=by
      have:=tC r2 (y := .isl 24 (bB (W++[(s.r,s.x)])) none) (Sl.mk _ _) r1 hWo3 (by omega)
      rw[mB,hW3,kR]at this
      rw[show bB W++[s.r.val s.x]=bB (W++[(s.r,s.x)]) by simp[bB]]
      exact this
     have hih:=fun x8 H'=>ih (k+1) ((k:Int)+1) D M1 M2 g' a2 D.st (W++[(s.r,s.x)]) x8 H' hs' (by omega) (by simp) hG2 rfl (by omega) (by omega) hW3 (by simp;omega) hWo3
     have hO3 : ∀(g m:Nat)(H':Heap),m=W.length+1→H'.get ⟨0,94,g,0⟩=some ⟨24,bB W++[s.r.val s.x],true,false⟩→te [94] 24 (bB (W++[(s.r,s.x)])) H' (.osl ⟨0,94,g,0⟩ 0 m none):=by
      intro g m H' hm h
      subst hm
      exact .inr ⟨94,g,by simp,by simp,by rw[h];simp[bB]⟩
     have hcase:s.x=aNil ∨∃c,s.x = .isl 1 (rows s.r.op.l) c:=by
      rcases hp.1 with ⟨h,_⟩ | ⟨c,h,_⟩
      ·exact .inl h
      ·exact .inr ⟨c,h⟩
     clear ih hQ hl hG hG2 r1 r2 r3 hWn hg hg' hs hs' hp hkd hxx hg2 hWl hst hgk hW2 hW3 hWo3 hW hWo
     generalize outI 24 (bB (runR (L1++L2)))=o at *
     generalize outI 24 (bB (runR (M1++M2)))=o' at *
     obtain⟨l1,y1,st1,lf1,dd1⟩:=d
     obtain⟨l2,y2,st2,lf2,dd2⟩:=D
     obtain⟨sk,sr,sx,sn⟩:=s
     simp only[stV,iZ,Stp.val]at *
     subst hst2
     subst k0
     subst hdd
     unfold Rcd.val at hC rd2 hS hO3
     have l6:(H.get ⟨0,6,0,0⟩).isSome=true:=by rw[h6];rfl
     rcases hO with ⟨rfl,hz⟩ | ⟨t,gg,ht',rfl,hrr⟩
     ·have:W=[]:=by simpa [bB] using hz
      subst this
      have hO3':=fun H'=>hO3 (H.gen 0 94) 1 H' rfl
      simp only[hz,List.nil_append]at hO3' hS
      clear hO3 hlen hWl'
      rcases hcase with rfl | ⟨c,rfl⟩
      ·clear hpx
       simp[af,ah,ad,ae,aa, *,aL,hx.idx,Heap.aj]
       exact hih _ _ (by simp(maxDischargeDepth:=12) [Heap.aj,aw,aq,Fr.nil,aK,af,ah,ad,ae,ay,ao,aa, *]) (by simp(maxDischargeDepth:=12) [Heap.aj,aw,aq,Fr.nil,aK,af,ah,ad,ae,ay,ao,aa, *]) (hO3' _ (by simp(maxDischargeDepth:=12) [Heap.aj,aw,aq,Fr.nil,aK,af,ah,ad,ae,ay,ao,aa, *]))
      ·simp[af,ah,ad,ae,aa, *,aL,hx.idx,Heap.aj]
       exact hih _ _ (by simp(maxDischargeDepth:=12) [Heap.aj,aw,aq,Fr.nil,aK,af,ah,ad,ae,ay,ao,aa, *]) (by simp(maxDischargeDepth:=12) [Heap.aj,aw,aq,Fr.nil,aK,af,ah,ad,ae,ay,ao,aa, *]) (hO3' _ (by simp(maxDischargeDepth:=12) [Heap.aj,aw,aq,Fr.nil,aK,af,ah,ad,ae,ay,ao,aa, *]))
     ·rw[List.mem_singleton]at ht'
      subst ht'
      simp only[hlen]at hrr ⊢
      have l7:(H.get ⟨0,94,gg,0⟩).isSome=true:=by rw[hrr];rfl
      have hO3':=fun H'=>hO3 (H.gen 0 94) (W.length+1) H' rfl
      clear hO3
      have f4 : ∀x:AV,nm 24 160 W.length true none (some ⟨24,bB W,true,false⟩) (some [x]):=by
       intro x
       simp;omega
      rcases hcase with rfl | ⟨c,rfl⟩
      ·clear hpx
       simp[af,ah,ad,ae,aa, *,aL,hx.idx,Heap.aj]
       exact hih _ _ (by simp(maxDischargeDepth:=12) [Heap.aj,aw,aq,Fr.nil,aK,af,ah,ad,ae,ay,ao,aa, *]) (by simp(maxDischargeDepth:=12) [Heap.aj,aw,aq,Fr.nil,aK,af,ah,ad,ae,ay,ao,aa, *]) (hO3' _ (by simp(maxDischargeDepth:=12) [Heap.aj,aw,aq,Fr.nil,aK,af,ah,ad,ae,ay,ao,aa, *]))
      ·simp[af,ah,ad,ae,aa, *,aL,hx.idx,Heap.aj]
       exact hih _ _ (by simp(maxDischargeDepth:=12) [Heap.aj,aw,aq,Fr.nil,aK,af,ah,ad,ae,ay,ao,aa, *]) (by simp(maxDischargeDepth:=12) [Heap.aj,aw,aq,Fr.nil,aK,af,ah,ad,ae,ay,ao,aa, *]) (hO3' _ (by simp(maxDischargeDepth:=12) [Heap.aj,aw,aq,Fr.nil,aK,af,ah,ad,ae,ay,ao,aa, *]))
   ·rw[if_neg (fun h=>k0 h.1)]at hW2
    have gS:=fun(W:List (Rcd × AV)) (z:AV) (hz:Sl 24 (bB W) z) (h : ∀p∈W,okRc p) (he:rcs W=L1++L2)=>(tC r2 hz r1 h r3).trans (show some (aB (kp (rcs (runR (M1++M2))) (rcs W)))=some (aB true) by rw[mB,he,hW2,kR])
    by_cases k1:1<s.k
    ·rw[if_pos k1]at hst2
     have hdd:=hkd k1
     have hih:=fun H'=>ih (k+1) ((k:Int)+1) D M1 M2 g' a2 D.st W x8 H' hs' (by omega) (by simp) hG2 rfl (by omega) (by omega) (hW.trans hW2.symm) (by omega) hWo
     clear ih hQ hl hG hG2 r1 r2 r3 hWn hg hg' hs hs' hp hkd hxx hg2 hWl hst hgk hW2
     generalize outI 24 (bB (runR (L1++L2)))=o at *
     generalize outI 24 (bB (runR (M1++M2)))=o' at *
     obtain⟨l1,y1,st1,lf1,dd1⟩:=d
     obtain⟨l2,y2,st2,lf2,dd2⟩:=D
     obtain⟨sk,sr,sx,sn⟩:=s
     simp only[stV,iZ,Stp.val]at *
     subst hst2
     subst hdd
     unfold Rcd.val at hC rd2
     have l6:(H.get ⟨0,6,0,0⟩).isSome=true:=by rw[h6];rfl
     rcases hO with ⟨rfl,hz⟩ | ⟨t,gg,ht',rfl,hrr⟩
     ·have hS:=gS W aNil (.inl ⟨rfl,hz⟩) hWo hW
      have hih':=fun H' a b=>hih H' a b (.inl ⟨rfl,hz⟩)
      clear hih gS hW hWo
      simp[af,ah,ad,ae,aa, *,aL,hx.idx,Heap.aj]
      exact hih' _ (by simp(maxDischargeDepth:=12) [Heap.aj,aw,aq,Fr.nil,aK,af,ah,ad,ae,ay,ao,aa, *]) (by simp(maxDischargeDepth:=12) [Heap.aj,aw,aq,Fr.nil,aK,af,ah,ad,ae,ay,ao,aa, *])
     ·rw[List.mem_singleton]at ht'
      subst ht'
      have hS:=gS W (.isl 24 (bB W) none) (Sl.mk _ _) hWo hW
      have l7:(H.get ⟨0,94,gg,0⟩).isSome=true:=by rw[hrr];rfl
      have hih':=fun H' a b c=>hih H' a b (.inr ⟨94,gg,by simp,rfl,c⟩)
      clear hih gS hW hWo
      simp only[hlen]at hrr hih' ⊢
      simp[af,ah,ad,ae,aa, *,aL,hx.idx,Heap.aj]
      exact hih' _ (by simp(maxDischargeDepth:=12) [Heap.aj,aw,aq,Fr.nil,aK,af,ah,ad,ae,ay,ao,aa, *]) (by simp(maxDischargeDepth:=12) [Heap.aj,aw,aq,Fr.nil,aK,af,ah,ad,ae,ay,ao,aa, *]) (by simp(maxDischargeDepth:=12) [Heap.aj,aw,aq,Fr.nil,aK,af,ah,ad,ae,ay,ao,aa, *])
    ·rw[if_neg k1]at hst2
     have hih:=fun H'=>ih (k+1) ((k:Int)+1) D M1 M2 g' a2 D.st W x8 H' hs' (by omega) (by simp) hG2 rfl (by omega) (by omega) (hW.trans hW2.symm) (by omega) hWo
     clear ih hQ hl hG hG2 r1 r2 r3 hWn hg hg' hs hs' hp hkd hxx hg2 hWl hst hgk hW2
     generalize outI 24 (bB (runR (L1++L2)))=o at *
     generalize outI 24 (bB (runR (M1++M2)))=o' at *
     obtain⟨l1,y1,st1,lf1,dd1⟩:=d
     obtain⟨l2,y2,st2,lf2,dd2⟩:=D
     obtain⟨sk,sr,sx,sn⟩:=s
     simp only[stV,iZ,Stp.val]at *
     subst hst2
     unfold Rcd.val at hC rd2
     have l6:(H.get ⟨0,6,0,0⟩).isSome=true:=by rw[h6];rfl
     rcases hO with ⟨rfl,hz⟩ | ⟨t,gg,ht',rfl,hrr⟩
     ·have hS:=gS W aNil (.inl ⟨rfl,hz⟩) hWo hW
      have hih':=fun H' a b=>hih H' a b (.inl ⟨rfl,hz⟩)
      clear hih gS hW hWo
      simp[af,ah,ad,ae,aa, *,aL,hx.idx,Heap.aj]
      exact hih' _ (by simp(maxDischargeDepth:=12) [Heap.aj,aw,aq,Fr.nil,aK,af,ah,ad,ae,ay,ao,aa, *]) (by simp(maxDischargeDepth:=12) [Heap.aj,aw,aq,Fr.nil,aK,af,ah,ad,ae,ay,ao,aa, *])
     ·rw[List.mem_singleton]at ht'
      subst ht'
      have hS:=gS W (.isl 24 (bB W) none) (Sl.mk _ _) hWo hW
      have l7:(H.get ⟨0,94,gg,0⟩).isSome=true:=by rw[hrr];rfl
      have hih':=fun H' a b c=>hih H' a b (.inr ⟨94,gg,by simp,rfl,c⟩)
      clear hih gS hW hWo
      simp only[hlen]at hrr hih' ⊢
      simp[af,ah,ad,ae,aa, *,aL,hx.idx,Heap.aj]
      exact hih' _ (by simp(maxDischargeDepth:=12) [Heap.aj,aw,aq,Fr.nil,aK,af,ah,ad,ae,ay,ao,aa, *]) (by simp(maxDischargeDepth:=12) [Heap.aj,aw,aq,Fr.nil,aK,af,ah,ad,ae,ay,ao,aa, *]) (by simp(maxDischargeDepth:=12) [Heap.aj,aw,aq,Fr.nil,aK,af,ah,ad,ae,ay,ao,aa, *])
end
section
variable{l:List Stp}{x:AV}(hx:Sl 26 (encT l) x)(hl : ∀p∈l,Sl 1 (rows p.r.op.l) p.x)
include hx hl
theorem M8(n:Int):limf env 4 [aI n,x]=some (aB true):=by
 refine aG (fn:=Tryz.f4) (c:=fL) rfl (by kernel_rfl) (by kernel_rfl) (by kernel_rfl) (by kernel_rfl) ?_;refine mA _ _ _ _ fun g=>?_
 have al:=Ef
 have hxr:=hx.r
 rw[tY]at hxr
 obtain⟨t,hH,hM⟩:=O4 hx hl
 cases t with
 | true=>clear hM;simp[af,ah,ad,ae,aa, *,eC]
 | false =>
 obtain⟨m1,m2⟩:=hM rfl
 have ok : ∀p∈l,okRc (p.r,p.x):=fun p hp=>⟨hl p hp,by have:=m1 p (by rw[List.take_of_length_le (by omega)];exact hp);show p.r.op.l.length<1000000;omega⟩
 clear hM m1
 by_cases hn:n < -1∨2147483648≤n
 ·have h:=LA hn
  clear ok hl hn
  simp only[iZ]at *
  simp[af,ah,ad,ae,aa, *,eC]
 ·have h:=NF (n:=n) (by omega)
  have G:=qL (rz (n:=n) (by omega))
  have hlo:=fun H=>Kw hx ok (by omega) (Q:=fun v H=>gX env 4 v H (aB true)) (fun H=>by simp) l 0 0 (fresh n).tw [] [] 0 0 1 [] aNil H rfl (by omega) rfl G rfl (Int.le_refl _) (by omega) rfl (by simp) (fun p hp=>by cases hp)
  have hlo':=fun H a b=>hlo H a b (.inl ⟨rfl,rfl⟩)
  have f:=G.fit.sl.r
  have o1:=(iw 24 (bB (runR (([]:List Rcd)++[])))).r
  rw[List.nil_append]at hlo' o1
  simp only[List.length_nil,Int.natCast_zero]at hlo'
  clear hlo ok hl G hn
  unfold mH at *
  generalize outI 24 (bB (runR []))=o at *
  generalize (fresh n).tw=D at *
  obtain⟨l1,y1,st1,lf1,dd1⟩:=D
  simp only[stV]at *
  simp[af,ah,ad,ae,aa, *,eC]
  exact hlo' _ (by simp(maxDischargeDepth:=12) [Heap.aj,aw,aq,Fr.nil,aK,af,ah,ad,ae,ay,ao,aa, *]) (by simp(maxDischargeDepth:=12) [Heap.aj,aw,aq,Fr.nil,aK,af,ah,ad,ae,ay,ao,aa, *])
end
end Go.Proofs.YtiidajnodhkidaaGreat
