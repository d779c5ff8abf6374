/-
  Stores: a store that is kept goes on as the one that is not. No statement of a seat is proved here.
-/
import Derived.Test.YtiidajnodhkidaaGreatMStVl7
import Derived.Test.YtiidajnodhkidaaGreatMStDays0
set_option linter.unusedVariables false
set_option linter.unusedSimpArgs false
set_option linter.unusedSectionVars false
set_option linter.unnecessarySimpa false
set_option maxRecDepth 100000
namespace Go.Proofs.YtiidajnodhkidaaGreat
open Go.Ab
attribute [local simp] ct bK bO bN keep thr cC bD bP eE eD cN cB aV dk List.take_of_length_le
theorem IZ{d:Dk}(hd:Sl 2 (encS d.l) d.x)(ho : ∀s∈d.l,oL s){R:List (Rcd × AV)}{ro:AV}(hr:Sl 24 (bG R) ro)(hR : ∀p∈R,Sl 1 (rows p.1.op.l) p.2)(g k at':Int) :
 ∃t:Bool,limf env 24 [stV d ro g k at']=some (aB t)∧(t=false→d.l.length≤200∧R.length≤100 ∧∀p∈R,okRc p):=by
 obtain⟨t1,h1,c1⟩:=O5 (st:=d.st) (lf:=d.lf) (dd:=d.dd) hd ho
 obtain⟨t2,h2,c2⟩:=NA hr hR 100
 refine⟨t1||t2,?_,fun h=>?_⟩
 ·refine aH (fn:=Tryz.f24) (c:=j6) rfl (by kernel_rfl) (by kernel_rfl) (by kernel_rfl) (by kernel_rfl) ?_;refine oM _ _ _ fun g=>?_
  have f1:=hd.r
  have f2:=hr.r
  clear c1 c2 hR ho
  obtain⟨l,x,st,lf,dd⟩:=d
  simp only[stV,dsk]at *
  cases t1<;>simp[af,ah,ad,ae,aa, *,ke]
 ·rw[Bool.or_eq_false_iff]at h
  have a:=c1 h.1
  have b:=c2 h.2
  exact⟨a,by omega,fun p hp=>⟨hR p hp,by have:=b.1 p (by rw[List.take_of_length_le (by omega)];exact hp);omega⟩⟩
structure Live (d:Dk) (L1 L2:List Rcd) (g at':Int) (W:List Rcd):Prop where
 good:Good d L1 L2 g at'
 dd:d.dd=false
 lf:d.lf = -1
 eq:L1++L2=W
section
variable{d:Dk}{L1 L2:List Rcd}{g at':Int}{W:List Rcd}(h:Live d L1 L2 g at' W)(hW:W.length≤190){R:List (Rcd × AV)}{ro:AV}(hro:Sl 24 (bG R) ro)(okR : ∀p∈R,okRc p)(hRW:rcs R=W)
include h hW hro okR hRW
theorem Tw(r:Rcd){x:AV}(hx:Sl 1 (rows r.op.l) x)(hl:r.op.l.length<2000000) : ∃y,limf env 9 [stV d ro g L1.length at',r.val x]=some y ∧
 ((ej r=false∧y = .tup [lY,aI 8])∨(ej r=true ∧∃D M1 M2 g' at2,Live D M1 M2 g' at2 (W++[r])∧y = .tup [qT D (W++[r]) g' M1.length at2,aI 0])):=by
 obtain⟨hG,hdd,hlf,rfl⟩:=h
 have hRl:R.length=(L1++L2).length:=by rw[←hRW];simp[rcs]
 have hA:=Nz hG.fit hro okR (by omega) g L1.length at' r hx hl
 have hE:=xT hG (r:=r)
 have ha3:=Gh hG
 rw[hRW,qS hG,hRl,hE]at hA
 refine⟨_,hA,?_⟩
 unfold rP
 rw[if_pos rfl]
 cases hI:ej r with
 | false=>exact .inl ⟨rfl,rfl⟩
 | true =>
  have hrn:=m9 hI
  have hro:at'+recN r≤2048:=by omega
  rw[if_pos rfl,if_pos hro,if_pos rfl]
  have hinf:=uL (dF r d.st ((L1++L2).length+1)) d.tw (0 * 2048+at') hdd hlf
  rcases Gi hG hI hro with ⟨_,hG2,hd⟩ | ⟨hG2,hd⟩
  ·rw[z6 hG2,←List.append_assoc]
   exact .inr ⟨rfl,_,_,_,_,_,⟨sY hG2,hd,hinf.1,(List.append_assoc _ _ _).symm⟩,rfl⟩
  ·exact absurd (hinf.2.symm.trans hd) (by decide)
theorem Tv : ∃y,limf env 11 [stV d ro g L1.length at']=some y∧((∃e:Int,e≠0∧y = .tup [lY,aI e]) ∨∃D M1 M2 g' at2,Live D M1 M2 g' at2 W∧y = .tup [qT D W g' M1.length at2,aI 0]):=by
 obtain⟨hG,hdd,hlf,rfl⟩:=h
 have hRl:R.length=(L1++L2).length:=by rw[←hRW];simp[rcs]
 have hA:=Eh hG.fit hro okR (by omega) g L1.length at'
 have hr0:=I8 hG.okW (by omega)
 rw[hRW,qS hG,z5 hG,if_pos hr0]at hA
 refine⟨_,hA,?_⟩
 unfold rP
 rw[if_pos rfl]
 by_cases hg:2147483648≤g+1
 ·rw[if_pos hg,if_neg (by decide)]
  exact .inl ⟨9,by decide,rfl⟩
 ·rw[if_neg hg,if_pos rfl]
  obtain⟨g',M1,M2,at2,e1,e2,hG2,e3,_,e4⟩:=Dg hG hr0 (by omega)
  rw[z6 hG2,e1]
  exact .inr ⟨_,_,_,_,_,⟨sY hG2,(e4 hdd hlf).1,(e4 hdd hlf).2.1,e1⟩,rfl⟩
end
section
variable{l:List (Rcd × AV)}{x:AV}(hx:Sl 24 (bG l) x)(hl : ∀p∈l,okRc p)(hn:l.length≤12){d0:Dk}{m:Nat}{ro:AV}(hm:m≤100)(hd0:Sl 2 (encS d0.l) d0.x){R:List AV}(hro:Sl 24 R ro)(hR:R.length=m)(g0 k0 at0:Int){Q:AV→Heap→Prop}(hQ : ∀H,Q (aB true) H)
include hx hl hn hm hd0 hro hR hQ
theorem Hq : ∀(s:List (Rcd × AV)) (k:Nat) (i:Int) (dt:Dk) (T1 T2:List Rcd) (gt at1:Int) (du:Dk) (U1 U2:List Rcd) (gu at2:Int) (W:List Rcd) (Ru:List (Rcd × AV)) (ru:AV) (H:Heap),Sl 24 (bG Ru) ru→(∀p∈Ru,okRc p)→rcs Ru=W→l.drop k=s→k≤l.length→i=k→Live dt T1 T2 gt at1 W→Live du U1 U2 gu at2 W→W.length=m+k→Fr H →
 H.get ⟨0,2,0,0⟩=some ⟨8,[stV d0 ro g0 k0 at0],false,false⟩→H.get ⟨0,6,0,0⟩=some ⟨8,[qT dt W gt T1.length at1],false,false⟩→H.get ⟨0,8,0,0⟩=some ⟨8,[stV du ru gu U1.length at2],false,false⟩ →
 GoL env Tryz.f7 0 dP [(5,aB true),(9,aI i),(2,.ptr ⟨0,2,0,0⟩ 0 0),(6,.ptr ⟨0,6,0,0⟩ 0 0),(8,.ptr ⟨0,8,0,0⟩ 0 0),(1,x)] H Q:=by
 intro s
 induction s with
 | nil =>
  rintro k i dt T1 T2 gt at1 du U1 U2 gu at2 W Ru ru H hru okru hrw hs hk rfl hT hU hW hF h2 h6 h8
  obtain rfl:=drop_nil hs hk
  refine gY _ _ _ _ _ _ _ _ fun _=>?_
  have hxr:=hx.r
  rw[gD]at hxr
  clear hl hT hU hd0 hro hru okru hrw
  simp[af,ah,ad,ae,aa, *,dS]
 | cons p t ih =>
  rintro k i dt T1 T2 gt at1 du U1 U2 gu at2 W Ru ru H hru okru hrw hs hk rfl hT hU hW hF h2 h6 h8
  obtain⟨hlt,hg,hs',hg'⟩:=drop_cons hs
  have hp:=hl p (hg ▸ List.getElem_mem _)
  have hrt:=nm hT.good
  rw[hT.eq]at hrt
  obtain⟨y,hy,cy⟩:=Tw hT (by omega) hrt.2.1 hrt.1 (nS W) p.1 hp.1 (by have:=hp.2;omega)
  obtain⟨z,hz,cz⟩:=Tw hU (by omega) hru okru hrw p.1 hp.1 (by have:=hp.2;omega)
  have ou:=hru.r.2
  have e1:=IntWalk.i64_in ((k:Int)+1) (by omega)
  have e2:=IntWalk.i64_in ((m:Int)+k) (by omega)
  have e3:=IntWalk.i64_in ((m:Int)+k+1) (by omega)
  have hkl:(k:Int)<l.length:=by omega
  have rd:ee (bG l) k 0 24 true=some (p.1.val p.2):=by simp[bG,hg',Rcd.val]
  have f1:=hT.good.fit.sl.r
  have f2:=hU.good.fit.sl.r
  have f0:=hd0.r
  have o0:=hro.r
  rw[hR]at o0
  have o1:=(jh 24 (bG (runR W))).r.2
  have hxr:=hx.r
  have hpx:=hp.1.r
  rw[gD]at hxr
  refine gY _ _ _ _ _ _ _ _ fun _=>?_
  have l2:(H.get ⟨0,2,0,0⟩).isSome=true:=by rw[h2];rfl
  have l6:(H.get ⟨0,6,0,0⟩).isSome=true:=by rw[h6];rfl
  have l8:(H.get ⟨0,8,0,0⟩).isSome=true:=by rw[h8];rfl
  unfold qT at *
  rcases cy with ⟨hI,rfl⟩ | ⟨hI,D,M1,M2,g',a1,hD,rfl⟩
  ·rcases cz with ⟨_,rfl⟩ | ⟨hI',_⟩
   ·clear ih hl hT hU hd0 hro hg hg' hs hs' hp hW hR hrt hru okru hrw
    generalize outI 24 (bG (runR W))=o at *
    obtain⟨l1,y1,st1,lf1,dd1⟩:=dt
    obtain⟨l3,y3,st3,lf3,dd3⟩:=du
    obtain⟨l5,y5,st5,lf5,dd5⟩:=d0
    simp only[stV,lY]at *
    unfold Rcd.val at *
    simp[af,ah,ad,ae,aa, *,dS,hx.idx,Heap.aj]
   ·exact absurd (hI.symm.trans hI') (by decide)
  ·rcases cz with ⟨hI',_⟩ | ⟨_,E,N1,N2,g2,a2,hE,rfl⟩
   ·exact absurd (hI'.symm.trans hI) (by decide)
   ·have f3:=hD.good.fit.sl.r
    have f4:=hE.good.fit.sl.r
    have hlen:(runR (W++[p.1])).length=m+k+1:=by rw[nT,List.length_append];simp;omega
    have sw:=jh 24 (bG (runR (W++[p.1])))
    have ow:=sw.r
    rw[gD,hlen]at ow
    have okw : ∀q∈runR (W++[p.1]),okRc q:=by
     have:=(nm hD.good).1
     rw[hD.eq]at this
     exact this
    have hS:=CJ sw sw okw okw (by omega)
    rw[nS,rp]at hS
    have hih:=fun H'=>ih (k+1) ((k:Int)+1) D M1 M2 g' a1 E N1 N2 g2 a2 (W++[p.1]) (runR (W++[p.1])) (outI 24 (bG (runR (W++[p.1])))) H' sw okw (nS _) hs' (by omega) (by simp) hD hE (by simp;omega)
    clear ih hl hT hU hD hE hd0 hro hg hg' hs hs' hp hW hR sw okw hlen hrt hru okru hrw
    generalize outI 24 (bG (runR W))=o at *
    generalize outI 24 (bG (runR (W++[p.1])))=o' at *
    obtain⟨l1,y1,st1,lf1,dd1⟩:=dt
    obtain⟨l3,y3,st3,lf3,dd3⟩:=du
    obtain⟨l5,y5,st5,lf5,dd5⟩:=d0
    obtain⟨l7,y7,st7,lf7,dd7⟩:=D
    obtain⟨l9,y9,st9,lf9,dd9⟩:=E
    simp only[stV,lY]at *
    unfold Rcd.val at *
    simp[af,ah,ad,ae,aa, *,dS,hx.idx,Heap.aj]
    exact hih _ (by simp(maxDischargeDepth:=12) [Heap.aj,aD,ar,Fr.nil,aP,af,ah,ad,ae,aF,aq,aa, *]) (by simp(maxDischargeDepth:=12) [Heap.aj,aD,ar,Fr.nil,aP,af,ah,ad,ae,aF,aq,aa, *]) (by simp(maxDischargeDepth:=12) [Heap.aj,aD,ar,Fr.nil,aP,af,ah,ad,ae,aF,aq,aa, *]) (by simp(maxDischargeDepth:=12) [Heap.aj,aD,ar,Fr.nil,aP,af,ah,ad,ae,aF,aq,aa, *])
end
section
variable{l:List (Rcd × AV)}{x:AV}(hx:Sl 24 (bG l) x)(hl : ∀p∈l,Sl 1 (rows p.1.op.l) p.2){d:Dk}(hd:Sl 2 (encS d.l) d.x)(ho : ∀s∈d.l,oL s){R:List (Rcd × AV)}{ro:AV}(hro:Sl 24 (bG R) ro)(hR : ∀p∈R,Sl 1 (rows p.1.op.l) p.2)
include hx hl hd ho hro hR
theorem JV(g0 k0 at0:Int):limf env 7 [stV d ro g0 k0 at0,x]=some (aB true):=by
 refine aH (fn:=Tryz.f7) (c:=fK) rfl (by kernel_rfl) (by kernel_rfl) (by kernel_rfl) (by kernel_rfl) ?_;refine mf _ _ _ _ fun g=>?_
 have al:=Eb
 obtain⟨t1,h1,c1⟩:=IZ hd ho hro hR g0 k0 at0
 obtain⟨t2,h2,c2⟩:=NA hx hl 12
 have fx:=hx.r
 have fd:=hd.r
 have fr:=hro.r
 rw[gD]at fr
 cases t1 with
 | true =>
  clear c1 c2 hx hl hd ho hro hR
  obtain⟨l1,y1,st1,lf1,dd1⟩:=d
  simp only[stV]at *
  simp[af,ah,ad,ae,aa, *,cx]
 | false =>
 cases t2 with
 | true =>
  clear c1 c2 hx hl hd ho hro hR
  obtain⟨l1,y1,st1,lf1,dd1⟩:=d
  simp only[stV]at *
  simp[af,ah,ad,ae,aa, *,cx]
 | false =>
 by_cases hlf:0≤d.lf
 ·clear c1 c2 hx hl hd ho hro hR
  obtain⟨l1,y1,st1,lf1,dd1⟩:=d
  simp only[stV]at *
  simp[af,ah,ad,ae,aa, *,cx]
 ·obtain⟨n1,n2,okR⟩:=c1 rfl
  obtain⟨n3,n4⟩:=c2 rfl
  have okl : ∀p∈l,okRc p:=fun p hp=>⟨hl p hp,by have:=n3 p (by rw[List.take_of_length_le (by omega)];exact hp);omega⟩
  have hf:d.Fit:=⟨hd,ho,by omega⟩
  have hK:=Eh hf hro okR (by omega) g0 k0 at0
  have hRl:(rcs R).length=R.length:=by simp[rcs]
  by_cases hok:stOk d (rcs R) g0 k0 at0=true
  ·obtain⟨L1,L2,hG,hRe,rfl⟩:=PZ hf hok
   have hm:=hG.may
   have hlv:Live d L1 L2 g0 at0 (rcs R):=by
    unfold Dk.may dOk dhOk at hm
    simp at hm
    refine⟨hG,?_,by omega,hRe.symm⟩
    cases hdd:d.dd with
    | false=>rfl
    | true=>rw[hdd]at hm;simp at hm;omega
   obtain⟨y,hy,cy⟩:=Tv hlv (by omega) hro okR rfl
   clear hK
   rcases cy with ⟨e,he,rfl⟩ | ⟨D,M1,M2,g',at2,hD,rfl⟩
   ·clear c1 c2 hx hl hd ho hro hR n3 okl okR hf hok hG hRe hlv hm hRl
    obtain⟨l1,y1,st1,lf1,dd1⟩:=d
    simp only[stV,lY]at *
    simp[af,ah,ad,ae,aa, *,cx]
   ·have hlo:=fun H=>Hq hx okl (by omega) (d0:=d) (m:=R.length) (ro:=ro) (by omega) hd hro (gD R) g0 L1.length at0 (Q:=fun v H=>ia env 7 v H (aB true)) (fun H=>by simp) l 0 0 D M1 M2 g' at2 d L1 L2 g0 at0 (rcs R) R ro H hro okR rfl rfl (by omega) rfl hD hlv (by omega)
    have f2:=hD.good.fit.sl.r
    have o2:=(jh 24 (bG (runR (rcs R)))).r.2
    clear c1 c2 hx hl hd ho hro hR n3 okl okR hf hok hG hRe hlv hm hRl hD
    unfold qT at *
    generalize outI 24 (bG (runR (rcs R)))=o at *
    obtain⟨l1,y1,st1,lf1,dd1⟩:=d
    obtain⟨l3,y3,st3,lf3,dd3⟩:=D
    simp only[stV]at *
    simp[af,ah,ad,ae,aa, *,cx]
    exact hlo _ (by simp(maxDischargeDepth:=12) [Heap.aj,aD,ar,Fr.nil,aP,af,ah,ad,ae,aF,aq,aa, *]) (by simp(maxDischargeDepth:=12) [Heap.aj,aD,ar,Fr.nil,aP,af,ah,ad,ae,aF,aq,aa, *]) (by simp(maxDischargeDepth:=12) [Heap.aj,aD,ar,Fr.nil,aP,af,ah,ad,ae,aF,aq,aa, *]) (by simp(maxDischargeDepth:=12) [Heap.aj,aD,ar,Fr.nil,aP,af,ah,ad,ae,aF,aq,aa, *])
  ·rw[Bool.not_eq_true]at hok
   rw[hok]at hK
   unfold rP at hK
   rw[if_neg (by decide)]at hK
   clear c1 c2 hx hl hd ho hro hR n3 okl okR hf hok hRl
   obtain⟨l1,y1,st1,lf1,dd1⟩:=d
   simp only[stV,lY]at *
   simp[af,ah,ad,ae,aa, *,cx]
end
end Go.Proofs.YtiidajnodhkidaaGreat
