/-
  Stores: what is answered when something is done to one. No statement of a seat is proved here.
-/
import Derived.Test.YtiidajnodhkidaaGreatStOf
set_option linter.unusedVariables false
set_option linter.unusedSimpArgs false
set_option linter.unusedSectionVars false
set_option linter.unnecessarySimpa false
set_option maxRecDepth 100000
namespace Go.Proofs.YtiidajnodhkidaaGreat
open Go.Ab
attribute [local simp] cx bP bT bS keep thr cF bH bU eF eE cM cE aY dq List.take_of_length_le
def zZ(d e:Dk):Bool:=decide (keyS d.l=keyS e.l)&&(decide (d.st=e.st)&&(decide (d.lf=e.lf)&&decide (d.dd=e.dd)))
section
variable{d e:Dk}(hd:d.Fit)(he:e.Fit){a b:List (Rcd × AV)}{xa xb:AV}(ha:Sl 24 (bB a) xa)(hb:Sl 24 (bB b) xb)(oa : ∀p∈a,okRc p)(ob : ∀p∈b,okRc p)(la:a.length<1000000)
include hd he ha hb oa ob la
theorem FK(g1 k at' g2 k2 at2:Int):limf env 22 [stV d xa g1 k at',stV e xb g2 k2 at2]=some (aB (zZ d e&&(kp (rcs a) (rcs b)&&((decide (g1=g2)&&decide (k=k2))&&decide (at'=at2))))):=by
 refine aG (fn:=Tryz.f22) (c:=uj) rfl (by kernel_rfl) (by kernel_rfl) (by kernel_rfl) (by kernel_rfl) ?_;refine AB _ _ _ _ fun g=>?_
 have h:=Pk hd he
 have h2:=W4 ha hb oa ob la
 have h1:=hd.sl.r
 have h3:=he.sl.r
 have h4:=ha.r
 have h5:=hb.r
 unfold zZ
 clear hd he oa ob
 generalize (decide (keyS d.l=keyS e.l)&&(decide (d.st=e.st)&&(decide (d.lf=e.lf)&&decide (d.dd=e.dd))))=b1 at *
 generalize kp (rcs a) (rcs b)=b2 at *
 obtain⟨l,x,st,lf,dd⟩:=d
 obtain⟨m,y,st',lf',dd'⟩:=e
 simp only[Dk.val,dsk,stV]at *
 cases b1 with
 | false=>simp[af,ah,ad,ae,aa, *,jm,eqA,eqFs]
 | true =>
 cases b2 with
 | false=>simp[af,ah,ad,ae,aa, *,jm,eqA,eqFs]
 | true =>
  by_cases e1:g1=g2
  ·by_cases e3:k=k2
   ·by_cases e2:at'=at2<;>simp[af,ah,ad,ae,aa, *,jm,eqA,eqFs]
   ·simp[af,ah,ad,ae,aa, *,jm,eqA,eqFs]
  ·simp[af,ah,ad,ae,aa, *,jm,eqA,eqFs]
end
def stOk(d:Dk)(R:List Rcd)(g k at':Int):Bool:=decide (ofE d=0)&&(kp d.all R&&((decide (d.cur.1=g)&&decide (d.cur.2=k))&&decide (d.mor.2=at')))
theorem MA(d:Dk):zZ d.tw d=true:=by
 unfold zZ Dk.tw
 simp only[NW,decide_true,Bool.and_self]
theorem Gs(d:Dk):(∀r∈d.all,r.op.l.length<1000000)∧d.all.length≤4098:=by
 have h1:=NV d
 have h2:=NU d
 refine⟨fun r hr=>?_,by unfold Dk.all;rw[List.length_append];omega⟩
 rcases List.mem_append.1 hr with h | h
 ·exact h1.1 r h
 ·exact h2.1 r h
section
variable{d:Dk}(hf:d.Fit){R:List (Rcd × AV)}{ro:AV}(hR:Sl 24 (bB R) ro)(oR : ∀p∈R,okRc p)(lR:R.length<1000000)(g1 k at':Int)
include hf hR oR lR
theorem tB:limf env 16 [stV d ro g1 k at']=some (aI (if stOk d (rcs R) g1 k at' then 0 else 8)):=by
 refine aG (fn:=Tryz.f16) (c:=sc) rfl (by kernel_rfl) (by kernel_rfl) (by kernel_rfl) (by kernel_rfl) ?_;refine yP _ _ _ fun g=>?_
 have hO:=s_Of hf
 have hal:=Gs d
 have hso:=iw 24 (bB (runR d.all))
 have hS:=FK (rT hf) hf hso hR (CP hal.1) oR (by rw[pf];omega) d.cur.1 d.cur.2 d.mor.2 g1 k at'
 rw[MA,mB,Bool.true_and]at hS
 have h1:=hf.sl.r
 have h2:=(rT hf).sl.r
 have h3:=hso.r
 have h4:=hR.r
 unfold ofA at hO
 unfold stOk
 by_cases h0:ofE d=0
 ·rw[if_pos h0]at hO
  rw[decide_eq_true h0,Bool.true_and]
  generalize (kp d.all (rcs R)&&((decide (d.cur.1=g1)&&decide (d.cur.2=k))&&decide (d.mor.2=at')))=b at *
  generalize d.cur=m at *
  generalize d.mor.2=mt at *
  generalize outI 24 (bB (runR d.all))=o at *
  generalize d.tw=dt at *
  clear hf hal hso hR oR h0
  obtain⟨l,x,st,lf,dd⟩:=d
  obtain⟨l2,x2,st2,lf2,dd2⟩:=dt
  simp only[Dk.val,dsk,stV]at *
  cases b<;>simp[af,ah,ad,ae,aa, *,ot,Heap.aj]
 ·rw[if_neg h0]at hO
  rw[decide_eq_false h0,Bool.false_and]
  generalize ofE d=er at *
  clear hf hal hso hR oR hS
  obtain⟨l,x,st,lf,dd⟩:=d
  simp only[Dk.val,dsk,stV,iZ]at *
  simp[af,ah,ad,ae,aa, *,ot,Heap.aj]
theorem O3(h48:R.length<1000000):limf env 43 [stV d ro g1 k at']=some (JS d (rcs R)):=by
 refine aG (fn:=Tryz.f43) (c:=hJ) rfl (by kernel_rfl) (by kernel_rfl) (by kernel_rfl) (by kernel_rfl) ?_;refine kP _ _ _ fun g=>?_
 have hK:=SP hR oR hf lR
 have h1:=hf.sl.r
 have h4:=hR.r
 unfold JS at hK ⊢
 by_cases h0:oL d (rcs R)=0
 ·rw[if_pos h0]at hK ⊢
  have hkf:(eG d (rcs R)).Fit:=by
   have hm:d.may=true:=by
    unfold oL at h0;split at h0
    ·rename_i h;exact h
    ·cases h0
   have hst:1≤d.st:=by
    unfold oL at h0;rw[if_pos hm]at h0;split at h0
    ·cases h0
    ·omega
   have hr:lI (rcs R)=0:=by
    unfold oL at h0;rw[if_pos hm,if_neg (by omega)]at h0;split at h0
    ·assumption
    ·exact h0
   exact(EN hf hm hst hr).1
  have h5:=hkf.sl.r
  clear hf hkf hR oR h0
  generalize eG d (rcs R)=y at *
  obtain⟨l,x,st,lf,dd⟩:=d
  obtain⟨l2,x2,st2,lf2,dd2⟩:=y
  simp only[Dk.val,dsk,stV]at *
  simp[af,ah,ad,ae,aa, *,fc,Heap.aj]
 ·rw[if_neg h0]at hK ⊢
  generalize oL d (rcs R)=er at *
  clear hf hR oR h0
  obtain⟨l,x,st,lf,dd⟩:=d
  simp only[Dk.val,dsk,stV,j7]at *
  simp[af,ah,ad,ae,aa, *,fc,Heap.aj]
theorem O6(r:Rcd){x:AV}(hx:Sl 1 (rows r.op.l) x)(hl:r.op.l.length<2000000):limf env 41 [stV d ro g1 k at',.iptr 24 [r.val x] 0 0]=some (
 if appE d 0 at' (R.length+1) r=0 then .tup [(d.app 0 at' (R.length+1) r).val,aI 0] else .tup [j7,aI (appE d 0 at' (R.length+1) r)]):=by
 refine aG (fn:=Tryz.f41) (c:=oV) rfl (by kernel_rfl) (by kernel_rfl) (by kernel_rfl) (by kernel_rfl) ?_;refine uN _ _ _ _ fun g=>?_
 have hA:=FM hf r hx hl 0 at' (R.length+1)
 have h1:=hf.sl.r
 have h4:=hR.r
 rw[jf]at h4
 have h5:=hx.r
 have e1:=IntWalk.i64_in ((R.length:Int)+1) (by omega)
 unfold appA at hA
 by_cases h0:appE d 0 at' (R.length+1) r=0
 ·rw[if_pos h0]at hA ⊢
  have h6:=(Ar hf h0).1.sl.r
  clear hf hR oR h0
  generalize d.app 0 at' (R.length+1) r=y at *
  obtain⟨l,x',st,lf,dd⟩:=d
  obtain⟨l2,x2,st2,lf2,dd2⟩:=y
  simp only[Dk.val,dsk,stV]at *
  unfold Rcd.val at *
  simp[af,ah,ad,ae,aa, *,k8,Heap.aj]
 ·rw[if_neg h0]at hA ⊢
  generalize appE d 0 at' (R.length+1) r=er at *
  clear hf hR oR h0
  obtain⟨l,x',st,lf,dd⟩:=d
  simp only[Dk.val,dsk,stV,j7]at *
  unfold Rcd.val at *
  simp[af,ah,ad,ae,aa, *,k8,Heap.aj]
end
def nI(d:Dk)(n:Int):Int:=if d.may then (if n < -1∨2147483648≤n then 2 else if d.st+1≥2147483648 then 9 else 0) else 8
theorem O7{d:Dk}(hf:d.Fit)(n:Int):limf env 38 [d.val,aI n]=some (if nI d n=0 then .tup [(d.again n).val,aI 0] else .tup [j7,aI (nI d n)]):=by
 have h:=A0 (st:=d.st) (lf:=d.lf) (dd:=d.dd) hf.sl hf.ok (by have:=hf.len;omega) n
 unfold nI
 cases hm:d.may with
 | false =>
  rw[if_neg (show ¬dOk d.l d.st d.lf d.dd=true from by rw[show dOk d.l d.st d.lf d.dd=false from hm];decide)]at h
  exact h
 | true =>
  rw[if_pos (show dOk d.l d.st d.lf d.dd=true from hm)]at h
  simp only[if_true]
  by_cases c1:n < -1∨2147483648≤n
  ·rw[if_pos c1]at h
   simp only[if_pos c1]
   exact h
  ·rw[if_neg c1]at h
   simp only[if_neg c1]
   by_cases c2:d.st+1≥2147483648
   ·rw[if_pos c2]at h
    simp only[if_pos c2]
    exact h
   ·rw[if_neg c2]at h
    simp only[if_neg c2]
    exact h
section
variable{d:Dk}(hf:d.Fit){R:List (Rcd × AV)}{ro:AV}(hR:Sl 24 (bB R) ro)(oR : ∀p∈R,okRc p)(lR:R.length<1000000)(g1 k at':Int)
include hf hR
theorem IQ(n:Int):limf env 44 [stV d ro g1 k at',.iptr 1 [aI n] 0 0]=some (if nI d n=0 then .tup [(d.again n).val,aI 0] else .tup [j7,aI (nI d n)]):=by
 refine aG (fn:=Tryz.f44) (c:=pV) rfl (by kernel_rfl) (by kernel_rfl) (by kernel_rfl) (by kernel_rfl) ?_;refine wb _ _ _ _ fun g=>?_
 have hA:=O7 hf n
 have h1:=hf.sl.r
 have h4:=hR.r
 by_cases h0:nI d n=0
 ·rw[if_pos h0]at hA ⊢
  have h6:=(uE hf n).sl.r
  clear hf hR h0
  generalize d.again n=y at *
  obtain⟨l,x',st,lf,dd⟩:=d
  obtain⟨l2,x2,st2,lf2,dd2⟩:=y
  simp only[Dk.val,dsk,stV]at *
  simp[af,ah,ad,ae,aa, *,mi,Heap.aj]
 ·rw[if_neg h0]at hA ⊢
  generalize nI d n=er at *
  clear hf hR h0
  obtain⟨l,x',st,lf,dd⟩:=d
  simp only[Dk.val,dsk,stV,j7]at *
  simp[af,ah,ad,ae,aa, *,mi,Heap.aj]
end
def qe(c:Bool)(e:Int)(d':Dk):AV:=if c then (if e=0 then ofA d' else .tup [iZ,aI e]) else .tup [iZ,aI 8]
theorem Df{d:Dk}(hf:d.Fit){L:List Rcd}(h0:oL d L=0):(eG d L).Fit:=by
 have hm:d.may=true:=by
  unfold oL at h0;split at h0
  ·rename_i h;exact h
  ·cases h0
 have hst:1≤d.st:=by
  unfold oL at h0;rw[if_pos hm]at h0;split at h0
  ·cases h0
  ·omega
 have hr:lI L=0:=by
  unfold oL at h0;rw[if_pos hm,if_neg (by omega)]at h0;split at h0
  ·assumption
  ·exact h0
 exact(EN hf hm hst hr).1
section
variable{d:Dk}(hf:d.Fit){R:List (Rcd × AV)}{ro:AV}(hR:Sl 24 (bB R) ro)(oR : ∀p∈R,okRc p)(lR:R.length<1000000)(g1 k at':Int)
include hf hR oR lR
theorem IF(r:Rcd){x:AV}(hx:Sl 1 (rows r.op.l) x)(hl:r.op.l.length<2000000):limf env 40 [stV d ro g1 k at',.fn (.func 41) [] [.iptr 24 [r.val x] 0 0]]=some (qe (stOk d (rcs R) g1 k at') (appE d 0 at' (R.length+1) r) (d.app 0 at' (R.length+1) r)):=by
 refine aG (fn:=Tryz.f40) (c:=dQ) rfl (by kernel_rfl) (by kernel_rfl) (by kernel_rfl) (by kernel_rfl) ?_;refine fa _ _ _ _ fun g=>?_
 have hC:=tB hf hR oR lR g1 k at'
 have hD:=O6 hf hR oR lR g1 k at' r hx hl
 have h1:=hf.sl.r
 have h4:=hR.r
 have h5:=hx.r
 unfold qe
 generalize stOk d (rcs R) g1 k at'=b at *
 cases b with
 | false =>
  simp only[Bool.false_eq_true,if_false]at hC ⊢
  clear hf hR oR hD
  obtain⟨l,x',st,lf,dd⟩:=d
  simp only[Dk.val,dsk,stV,iZ]at *
  unfold Rcd.val at *
  simp[af,ah,ad,ae,aa, *,aT,Heap.aj]
 | true =>
  simp only[if_true]at hC ⊢
  by_cases h0:appE d 0 at' (R.length+1) r=0
  ·rw[if_pos h0]at hD ⊢
   have hfy:(d.app 0 at' (R.length+1) r).Fit:=(Ar hf h0).1
   have hO:=s_Of hfy
   have h6:=hfy.sl.r
   have hal:=Gs (d.app 0 at' (R.length+1) r)
   have h7:=(iw 24 (bB (runR (d.app 0 at' (R.length+1) r).all))).r
   have h8:=(rT hfy).sl.r
   clear hf hR oR h0 hfy hal
   generalize d.app 0 at' (R.length+1) r=y at *
   unfold ofA at hO ⊢
   by_cases h9:ofE y=0
   ·rw[if_pos h9]at hO ⊢
    generalize y.cur=m at *
    generalize y.mor.2=mt at *
    generalize outI 24 (bB (runR y.all))=o at *
    generalize y.tw=z at *
    clear h9
    obtain⟨l,x',st,lf,dd⟩:=d
    obtain⟨l2,x2,st2,lf2,dd2⟩:=y
    obtain⟨l3,x3,st3,lf3,dd3⟩:=z
    simp only[Dk.val,dsk,stV]at *
    unfold Rcd.val at *
    simp[af,ah,ad,ae,aa, *,aT,Heap.aj]
   ·rw[if_neg h9]at hO ⊢
    generalize ofE y=er at *
    clear h7 h8
    obtain⟨l,x',st,lf,dd⟩:=d
    obtain⟨l2,x2,st2,lf2,dd2⟩:=y
    simp only[Dk.val,dsk,stV,iZ]at *
    unfold Rcd.val at *
    simp[af,ah,ad,ae,aa, *,aT,Heap.aj]
  ·rw[if_neg h0]at hD ⊢
   generalize appE d 0 at' (R.length+1) r=er at *
   clear hf hR oR
   obtain⟨l,x',st,lf,dd⟩:=d
   simp only[Dk.val,dsk,stV,iZ,j7]at *
   unfold Rcd.val at *
   simp[af,ah,ad,ae,aa, *,aT,Heap.aj]
theorem GO:limf env 40 [stV d ro g1 k at',.fn (.func 43) [] []]=some (qe (stOk d (rcs R) g1 k at') (oL d (rcs R)) (eG d (rcs R))):=by
 refine aG (fn:=Tryz.f40) (c:=dQ) rfl (by kernel_rfl) (by kernel_rfl) (by kernel_rfl) (by kernel_rfl) ?_;refine fa _ _ _ _ fun g=>?_
 have hC:=tB hf hR oR lR g1 k at'
 have hD:=O3 hf hR oR lR g1 k at' lR
 have h1:=hf.sl.r
 have h4:=hR.r
 unfold JS at hD
 unfold qe
 generalize stOk d (rcs R) g1 k at'=b at *
 cases b with
 | false =>
  simp only[Bool.false_eq_true,if_false]at hC ⊢
  clear hf hR oR hD
  obtain⟨l,x',st,lf,dd⟩:=d
  simp only[Dk.val,dsk,stV,iZ]at *
  skip
  simp[af,ah,ad,ae,aa, *,aT,Heap.aj]
 | true =>
  simp only[if_true]at hC ⊢
  by_cases h0:oL d (rcs R)=0
  ·rw[if_pos h0]at hD ⊢
   have hfy:(eG d (rcs R)).Fit:=Df hf h0
   have hO:=s_Of hfy
   have h6:=hfy.sl.r
   have hal:=Gs (eG d (rcs R))
   have h7:=(iw 24 (bB (runR (eG d (rcs R)).all))).r
   have h8:=(rT hfy).sl.r
   clear hf hR oR h0 hfy hal
   generalize eG d (rcs R)=y at *
   unfold ofA at hO ⊢
   by_cases h9:ofE y=0
   ·rw[if_pos h9]at hO ⊢
    generalize y.cur=m at *
    generalize y.mor.2=mt at *
    generalize outI 24 (bB (runR y.all))=o at *
    generalize y.tw=z at *
    clear h9
    obtain⟨l,x',st,lf,dd⟩:=d
    obtain⟨l2,x2,st2,lf2,dd2⟩:=y
    obtain⟨l3,x3,st3,lf3,dd3⟩:=z
    simp only[Dk.val,dsk,stV]at *
    skip
    simp[af,ah,ad,ae,aa, *,aT,Heap.aj]
   ·rw[if_neg h9]at hO ⊢
    generalize ofE y=er at *
    clear h7 h8
    obtain⟨l,x',st,lf,dd⟩:=d
    obtain⟨l2,x2,st2,lf2,dd2⟩:=y
    simp only[Dk.val,dsk,stV,iZ]at *
    skip
    simp[af,ah,ad,ae,aa, *,aT,Heap.aj]
  ·rw[if_neg h0]at hD ⊢
   generalize oL d (rcs R)=er at *
   clear hf hR oR
   obtain⟨l,x',st,lf,dd⟩:=d
   simp only[Dk.val,dsk,stV,iZ,j7]at *
   skip
   simp[af,ah,ad,ae,aa, *,aT,Heap.aj]
theorem Ei(n:Int):limf env 40 [stV d ro g1 k at',.fn (.func 44) [] [.iptr 1 [aI n] 0 0]]=some (qe (stOk d (rcs R) g1 k at') (nI d n) (d.again n)):=by
 refine aG (fn:=Tryz.f40) (c:=dQ) rfl (by kernel_rfl) (by kernel_rfl) (by kernel_rfl) (by kernel_rfl) ?_;refine fa _ _ _ _ fun g=>?_
 have hC:=tB hf hR oR lR g1 k at'
 have hD:=IQ hf hR g1 k at' n
 have h1:=hf.sl.r
 have h4:=hR.r
 unfold qe
 generalize stOk d (rcs R) g1 k at'=b at *
 cases b with
 | false =>
  simp only[Bool.false_eq_true,if_false]at hC ⊢
  clear hf hR oR hD
  obtain⟨l,x',st,lf,dd⟩:=d
  simp only[Dk.val,dsk,stV,iZ]at *
  skip
  simp[af,ah,ad,ae,aa, *,aT,Heap.aj]
 | true =>
  simp only[if_true]at hC ⊢
  by_cases h0:nI d n=0
  ·rw[if_pos h0]at hD ⊢
   have hfy:(d.again n).Fit:=uE hf n
   have hO:=s_Of hfy
   have h6:=hfy.sl.r
   have hal:=Gs (d.again n)
   have h7:=(iw 24 (bB (runR (d.again n).all))).r
   have h8:=(rT hfy).sl.r
   clear hf hR oR h0 hfy hal
   generalize d.again n=y at *
   unfold ofA at hO ⊢
   by_cases h9:ofE y=0
   ·rw[if_pos h9]at hO ⊢
    generalize y.cur=m at *
    generalize y.mor.2=mt at *
    generalize outI 24 (bB (runR y.all))=o at *
    generalize y.tw=z at *
    clear h9
    obtain⟨l,x',st,lf,dd⟩:=d
    obtain⟨l2,x2,st2,lf2,dd2⟩:=y
    obtain⟨l3,x3,st3,lf3,dd3⟩:=z
    simp only[Dk.val,dsk,stV]at *
    skip
    simp[af,ah,ad,ae,aa, *,aT,Heap.aj]
   ·rw[if_neg h9]at hO ⊢
    generalize ofE y=er at *
    clear h7 h8
    obtain⟨l,x',st,lf,dd⟩:=d
    obtain⟨l2,x2,st2,lf2,dd2⟩:=y
    simp only[Dk.val,dsk,stV,iZ]at *
    skip
    simp[af,ah,ad,ae,aa, *,aT,Heap.aj]
  ·rw[if_neg h0]at hD ⊢
   generalize nI d n=er at *
   clear hf hR oR
   obtain⟨l,x',st,lf,dd⟩:=d
   simp only[Dk.val,dsk,stV,iZ,j7]at *
   skip
   simp[af,ah,ad,ae,aa, *,aT,Heap.aj]
end
theorem xl(c:Bool)(e:Int)(d':Dk)(hd:e=0→d'.Fit):(∃e':Int,qe c e d' = .tup [iZ,aI e']) ∨∃(y:Dk) (o:AV) (m1 m2 m3:Int),(rL y.x=some (encS y.l).length∧(∀(g:Get)(n:Nat),view g (n+1) y.x=some y.x)∧(∀(g:Get)(n:Nat),aJ g n y.x=[])∧y.x.cells=[y.x]∧y.x.one=true∧(∀(g:Get)(n:Nat),dL g (n+1) y.x=some y.x) ∧∀(r:Ref)(n:Nat)(bs:List Blk),bG r n y.x bs=(y.x,bs)) ∧
 (∃ln,rL o=some ln∧(∀(g:Get)(n:Nat),view g (n+1) o=some o)∧(∀(g:Get)(n:Nat),aJ g n o=[])∧o.cells=[o]∧o.one=true∧(∀(g:Get)(n:Nat),dL g (n+1) o=some o) ∧∀(r:Ref)(n:Nat)(bs:List Blk),bG r n o bs=(o,bs))∧(y.x=aNil ∨∃es c,y.x = .isl 2 es c)∧(o=aNil ∨∃es,o = .isl 24 es none)∧qe c e d' = .tup [stV y o m1 m2 m3,aI 0]:=by
 unfold qe
 cases c with
 | false=>exact .inl ⟨8,rfl⟩
 | true =>
  simp only[if_true]
  by_cases h0:e=0
  ·rw[if_pos h0]
   unfold ofA
   by_cases h9:ofE d'=0
   ·rw[if_pos h9]
    refine .inr ⟨d'.tw,_,_,_,_,(rT (hd h0)).sl.r,⟨_,(iw 24 (bB (runR d'.all))).r⟩,?_,?_,rfl⟩
    ·rcases(rT (hd h0)).sl with ⟨h,_⟩ | ⟨c,h,_⟩
     ·exact .inl h
     ·exact .inr ⟨_,_,h⟩
    ·unfold outI;split
     ·exact .inl rfl
     ·exact .inr ⟨_,rfl⟩
   ·rw[if_neg h9];exact .inl ⟨_,rfl⟩
  ·rw[if_neg h0];exact .inl ⟨_,rfl⟩
section
variable{d:Dk}(hf:d.Fit){R:List (Rcd × AV)}{ro:AV}(hR:Sl 24 (bB R) ro)(oR : ∀p∈R,okRc p)(lR:R.length<1000000)(g1 k at':Int)
include hf hR oR lR
theorem SJ(r:Rcd){x:AV}(hx:Sl 1 (rows r.op.l) x)(hl:r.op.l.length<2000000):limf env 9 [stV d ro g1 k at',r.val x]=some (qe (stOk d (rcs R) g1 k at') (appE d 0 at' (R.length+1) r) (d.app 0 at' (R.length+1) r)):=by
 refine aG (fn:=Tryz.f9) (c:=qR) rfl (by kernel_rfl) (by kernel_rfl) (by kernel_rfl) (by kernel_rfl) ?_;refine xf _ _ _ _ fun g=>?_
 have hT:=IF hf hR oR lR g1 k at' r hx hl
 have h1:=hf.sl.r
 have h4:=hR.r
 have h5:=hx.r
 have hcase:=xl (stOk d (rcs R) g1 k at') (appE d 0 at' (R.length+1) r) (d.app 0 at' (R.length+1) r) (fun h0=>(Ar hf h0).1)
 generalize qe (stOk d (rcs R) g1 k at') (appE d 0 at' (R.length+1) r) (d.app 0 at' (R.length+1) r)=T at *
 clear hf hR oR
 obtain⟨l,x',st,lf,dd⟩:=d
 rcases hcase with ⟨e,rfl⟩ | ⟨y,o,m1,m2,m3,hy,⟨ln,ho⟩,hxx,hoo,rfl⟩
 ·simp only[stV,iZ]at *
  unfold Rcd.val at *
  simp[af,ah,ad,ae,aa, *,nr,Heap.aj]
 ·obtain⟨l2,x2,st2,lf2,dd2⟩:=y
  simp only[stV]at *
  unfold Rcd.val at *
  rcases hxx with rfl | ⟨es,c,rfl⟩<;>rcases hoo with rfl | ⟨es',rfl⟩<;>simp[af,ah,ad,ae,aa, *,nr,Heap.aj]
theorem O8:limf env 11 [stV d ro g1 k at']=some (qe (stOk d (rcs R) g1 k at') (oL d (rcs R)) (eG d (rcs R))):=by
 refine aG (fn:=Tryz.f11) (c:=uo) rfl (by kernel_rfl) (by kernel_rfl) (by kernel_rfl) (by kernel_rfl) ?_;refine AD _ _ _ fun g=>?_
 have hT:=GO hf hR oR lR g1 k at'
 have h1:=hf.sl.r
 have h4:=hR.r
 have hcase:=xl (stOk d (rcs R) g1 k at') (oL d (rcs R)) (eG d (rcs R)) (fun h0=>Df hf h0)
 generalize qe (stOk d (rcs R) g1 k at') (oL d (rcs R)) (eG d (rcs R))=T at *
 clear hf hR oR
 obtain⟨l,x',st,lf,dd⟩:=d
 rcases hcase with ⟨e,rfl⟩ | ⟨y,o,m1,m2,m3,hy,⟨ln,ho⟩,hxx,hoo,rfl⟩
 ·simp only[stV,iZ]at *
  skip
  simp[af,ah,ad,ae,aa, *,pH,Heap.aj]
 ·obtain⟨l2,x2,st2,lf2,dd2⟩:=y
  simp only[stV]at *
  skip
  simp[af,ah,ad,ae,aa, *,pH,Heap.aj]
theorem LB(n:Int):limf env 12 [stV d ro g1 k at',aI n]=some (qe (stOk d (rcs R) g1 k at') (nI d n) (d.again n)):=by
 refine aG (fn:=Tryz.f12) (c:=sb) rfl (by kernel_rfl) (by kernel_rfl) (by kernel_rfl) (by kernel_rfl) ?_;refine yO _ _ _ _ fun g=>?_
 have hT:=Ei hf hR oR lR g1 k at' n
 have h1:=hf.sl.r
 have h4:=hR.r
 have hcase:=xl (stOk d (rcs R) g1 k at') (nI d n) (d.again n) (fun h0=>uE hf n)
 generalize qe (stOk d (rcs R) g1 k at') (nI d n) (d.again n)=T at *
 clear hf hR oR
 obtain⟨l,x',st,lf,dd⟩:=d
 rcases hcase with ⟨e,rfl⟩ | ⟨y,o,m1,m2,m3,hy,⟨ln,ho⟩,hxx,hoo,rfl⟩
 ·simp only[stV,iZ]at *
  skip
  simp[af,ah,ad,ae,aa, *,oq,Heap.aj]
 ·obtain⟨l2,x2,st2,lf2,dd2⟩:=y
  simp only[stV]at *
  skip
  rcases hxx with rfl | ⟨es,c,rfl⟩<;>rcases hoo with rfl | ⟨es',rfl⟩<;>simp[af,ah,ad,ae,aa, *,oq,Heap.aj]
omit oR lR in
theorem Pj:limf env 20 [stV d ro g1 k at']=some (aI d.st):=by
 refine aG (fn:=Tryz.f20) (c:=sa) rfl (by kernel_rfl) (by kernel_rfl) (by kernel_rfl) (by kernel_rfl) ?_;refine yN _ _ _ fun g=>?_
 have h1:=hf.sl.r
 have h4:=hR.r
 clear hf hR
 obtain⟨l,x',st,lf,dd⟩:=d
 simp only[stV]at *
 simp[af,ah,ad,ae,aa, *,sA]
end
end Go.Proofs.YtiidajnodhkidaaGreat
