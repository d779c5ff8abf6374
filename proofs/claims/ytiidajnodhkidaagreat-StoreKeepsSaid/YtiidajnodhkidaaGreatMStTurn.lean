/-
  Stores: what is answered of them. No statement of a seat is proved here.
-/
import Derived.Test.YtiidajnodhkidaaGreatStFns
set_option linter.unusedVariables false
set_option linter.unusedSimpArgs false
set_option linter.unusedSectionVars false
set_option linter.unnecessarySimpa false
set_option maxRecDepth 100000
namespace Go.Proofs.YtiidajnodhkidaaGreat
open Go.Ab
attribute [local simp] ct bK bO bN keep thr cC bD bP eE eD cN cB aV dk List.take_of_length_le
def stV(d:Dk)(ro:AV)(g k at':Int):AV := .agg [d.x,aI d.st,aI d.lf,aB d.dd,ro,aI g,aI k,aI at']
def lY:AV := .agg [aNil,aI 0,aI 0,aB false,aNil,aI 0,aI 0,aI 0]
def Dk.mor(d:Dk):List Rcd × Int:=fu d 0 d.cur.2 2048 2049 0 0
def Dk.all(d:Dk):List Rcd:=d.lst++d.mor.1
def ofE(d:Dk):Int:=if d.may then (if d.st<1 then 2 else if (d.lst.length:Int)=d.cur.2 then (if d.l.any (oddB d (d.cur.2+d.mor.1.length)) then 8 else 0) else 8) else 8
def ofA(d:Dk):AV:=if ofE d=0 then .tup [stV d.tw (outI 24 (bG (runR d.all))) d.cur.1 d.cur.2 d.mor.2,aI 0] else .tup [lY,aI (ofE d)]
theorem NR(d:Dk):(∀r∈d.lst,r.op.l.length<1000000)∧d.lst.length≤2049:=ID 2049 0 0
theorem NQ(d:Dk):(∀r∈d.mor.1,r.op.l.length<1000000)∧d.mor.1.length≤2049:=ID 2049 0 0
theorem s_Of{d:Dk}(hf:d.Fit):limf env 13 [d.val]=some (ofA d):=by
 refine aH (fn:=Tryz.f13) (c:=yn) rfl (by kernel_rfl) (by kernel_rfl) (by kernel_rfl) (by kernel_rfl) ?_;refine DV _ _ _ fun g=>?_
 have hc:=wJ hf
 have hxv:=hf.sl.r
 unfold ofA ofE
 cases hm:d.may with
 | false =>
  rw[hm]at hc
  clear hf hm
  obtain⟨l,x,st,lf,dd⟩:=d
  simp only[Dk.val,dsk,lY,Bool.false_eq_true,if_false,show ¬(8:Int)=0 by decide]at *
  simp[af,ah,ad,ae,aa, *,ld,Heap.aj]
 | true =>
  rw[hm]at hc
  simp only[if_true]at hc ⊢
  by_cases hst:d.st<1
  ·simp only[if_pos hst,show ¬(2:Int)=0 by decide,if_false]
   clear hf hm
   obtain⟨l,x,st,lf,dd⟩:=d
   simp only[Dk.val,dsk,lY]at *
   simp[af,ah,ad,ae,aa, *,ld,Heap.aj]
  ·simp only[if_neg hst]
   have hL:=SA hf
   rw[hm,if_pos rfl]at hL
   unfold PG at hL
   by_cases hln:(d.lst.length:Int)=d.cur.2
   ·rw[if_pos hln]at hL
    simp only[if_pos hln]
    have hle:=Aa d
    have hs:=IW hf hm (area:=0) (nu:=d.cur.2) (most:=2048) (by omega) (by omega) (by omega)
    rw[Int.zero_mul,show fu d 0 d.cur.2 2048 2049 0 0=d.mor from rfl]at hs
    have hmo:=NQ d
    have hlo:=NR d
    have e1:=IntWalk.i64_in (d.cur.2+d.mor.1.length) (by omega)
    have hSn:=ON hf (many:=d.cur.2+d.mor.1.length) (by omega)
    have so1:=jh 24 (bG (runR d.lst))
    have so2:=jh 24 (bG (runR d.mor.1))
    have so3:=jh 24 (bG (runR d.all))
    have r1:=so1.r
    have r2:=so2.r
    have r3:=so3.r
    rw[gD,nT]at r1 r2 r3
    have hcat:=SF so1 so2 (by rw[nT];omega) (by rw[nT];omega)
    rw[show runR d.lst++runR d.mor.1=runR d.all by simp[runR,Dk.all]]at hcat
    have hT:=xq (st:=d.st) (lf:=d.lf) (dd:=d.dd) hf.sl hf.ok (tg d.l (-1) (vc hm)) (by have:=hf.len;omega)
    have ou:=uR hf.sl
    have c1:outI 24 (bG (runR d.lst))=aNil ∨∃es,outI 24 (bG (runR d.lst)) = .isl 24 es none:=by
     unfold outI;split
     ·exact .inl rfl
     ·exact .inr ⟨_,rfl⟩
    have c2:outI 24 (bG (runR d.mor.1))=aNil ∨∃es,outI 24 (bG (runR d.mor.1)) = .isl 24 es none:=by
     unfold outI;split
     ·exact .inl rfl
     ·exact .inr ⟨_,rfl⟩
    have c3:outI 24 (bG (runR d.all))=aNil ∨∃es,outI 24 (bG (runR d.all)) = .isl 24 es none:=by
     unfold outI;split
     ·exact .inl rfl
     ·exact .inr ⟨_,rfl⟩
    generalize outI 24 (bG (runR d.lst))=o1 at *
    generalize outI 24 (bG (runR d.mor.1))=o2 at *
    generalize outI 24 (bG (runR d.all))=o3 at *
    generalize d.mor.2=at' at *
    clear hmo hlo
    generalize d.mor.1.length=ml at *
    generalize d.lst.length=ll0 at *
    generalize d.cur=m at *
    generalize d.l.any (oddB d (m.2+ml))=b at *
    clear hm so1 so2 so3 hln hle
    cases b with
    | true =>
     simp only[if_true,show ¬(8:Int)=0 by decide,if_false]
     clear hf hT ou hcat r3 c3
     obtain⟨l,x,st,lf,dd⟩:=d
     simp only[Dk.val,dsk,lY]at *
     simp[af,ah,ad,ae,aa, *,ld,Heap.aj]
    | false =>
     simp only[Bool.false_eq_true,if_false,if_true]
     clear hf
     obtain⟨l,x,st,lf,dd⟩:=d
     simp only[Dk.val,Dk.tw,dsk,lY,stV]at *
     generalize twA x l=Y at *
     clear c1 c2
     rcases ou with ⟨rfl,h3⟩ | rfl | ⟨rfl,h3⟩<;>simp only[vw]<;>rcases c3 with rfl | ⟨es,rfl⟩<;>simp[af,ah,ad,ae,aa, *,ld,Heap.aj]
   ·rw[if_neg hln]at hL
    simp only[if_neg hln,show ¬(8:Int)=0 by decide,if_false]
    clear hf hm hln
    obtain⟨l,x,st,lf,dd⟩:=d
    simp only[Dk.val,dsk,lY]at *
    simp[af,ah,ad,ae,aa, *,ld,Heap.aj]
end Go.Proofs.YtiidajnodhkidaaGreat
namespace Go.Proofs.YtiidajnodhkidaaGreat
open Go.Ab
attribute [local simp] ct bK bO bN keep thr cC bD bP eE eD cN cB aV dk List.take_of_length_le
def FM(d e:Dk):Bool:=decide (keyS d.l=keyS e.l)&&(decide (d.st=e.st)&&(decide (d.lf=e.lf)&&decide (d.dd=e.dd)))
section
variable{d e:Dk}(hd:d.Fit)(he:e.Fit){a b:List (Rcd × AV)}{xa xb:AV}(ha:Sl 24 (bG a) xa)(hb:Sl 24 (bG b) xb)(oa : ∀p∈a,okRc p)(ob : ∀p∈b,okRc p)(la:a.length<1000000)
include hd he ha hb oa ob la
theorem Lz(g1 k at' g2 k2 at2:Int):limf env 22 [stV d xa g1 k at',stV e xb g2 k2 at2]=some (aB (FM d e&&(lK (rcs a) (rcs b)&&((decide (g1=g2)&&decide (k=k2))&&decide (at'=at2))))):=by
 refine aH (fn:=Tryz.f22) (c:=uj) rfl (by kernel_rfl) (by kernel_rfl) (by kernel_rfl) (by kernel_rfl) ?_;refine Au _ _ _ _ fun g=>?_
 have h:=O9 hd he
 have h2:=WO ha hb oa ob la
 have h1:=hd.sl.r
 have h3:=he.sl.r
 have h4:=ha.r
 have h5:=hb.r
 unfold FM
 clear hd he oa ob
 generalize (decide (keyS d.l=keyS e.l)&&(decide (d.st=e.st)&&(decide (d.lf=e.lf)&&decide (d.dd=e.dd))))=b1 at *
 generalize lK (rcs a) (rcs b)=b2 at *
 obtain⟨l,x,st,lf,dd⟩:=d
 obtain⟨m,y,st',lf',dd'⟩:=e
 simp only[Dk.val,dsk,stV]at *
 cases b1 with
 | false=>simp[af,ah,ad,ae,aa, *,jq,eqA,eqFs]
 | true =>
 cases b2 with
 | false=>simp[af,ah,ad,ae,aa, *,jq,eqA,eqFs]
 | true =>
  by_cases e1:g1=g2
  ·by_cases e3:k=k2
   ·by_cases e2:at'=at2<;>simp[af,ah,ad,ae,aa, *,jq,eqA,eqFs]
   ·simp[af,ah,ad,ae,aa, *,jq,eqA,eqFs]
  ·simp[af,ah,ad,ae,aa, *,jq,eqA,eqFs]
end
def stOk(d:Dk)(R:List Rcd)(g k at':Int):Bool:=decide (ofE d=0)&&(lK d.all R&&((decide (d.cur.1=g)&&decide (d.cur.2=k))&&decide (d.mor.2=at')))
theorem MA(d:Dk):FM d.tw d=true:=by
 unfold FM Dk.tw
 simp only[Tu,decide_true,Bool.and_self]
theorem KS(d:Dk):(∀r∈d.all,r.op.l.length<1000000)∧d.all.length≤4098:=by
 have h1:=NR d
 have h2:=NQ d
 refine⟨fun r hr=>?_,by unfold Dk.all;rw[List.length_append];omega⟩
 rcases List.mem_append.1 hr with h | h
 ·exact h1.1 r h
 ·exact h2.1 r h
section
variable{d:Dk}(hf:d.Fit){R:List (Rcd × AV)}{ro:AV}(hR:Sl 24 (bG R) ro)(oR : ∀p∈R,okRc p)(lR:R.length<1000000)(g1 k at':Int)
include hf hR oR lR
theorem xm:limf env 16 [stV d ro g1 k at']=some (aI (if stOk d (rcs R) g1 k at' then 0 else 8)):=by
 refine aH (fn:=Tryz.f16) (c:=sg) rfl (by kernel_rfl) (by kernel_rfl) (by kernel_rfl) (by kernel_rfl) ?_;refine yJ _ _ _ fun g=>?_
 have hO:=s_Of hf
 have hal:=KS d
 have hso:=jh 24 (bG (runR d.all))
 have hS:=Lz (tx hf) hf hso hR (CM hal.1) oR (by rw[nT];omega) d.cur.1 d.cur.2 d.mor.2 g1 k at'
 rw[MA,nS,Bool.true_and]at hS
 have h1:=hf.sl.r
 have h2:=(tx hf).sl.r
 have h3:=hso.r
 have h4:=hR.r
 unfold ofA at hO
 unfold stOk
 by_cases h0:ofE d=0
 ·rw[if_pos h0]at hO
  rw[decide_eq_true h0,Bool.true_and]
  generalize (lK d.all (rcs R)&&((decide (d.cur.1=g1)&&decide (d.cur.2=k))&&decide (d.mor.2=at')))=b at *
  generalize d.cur=m at *
  generalize d.mor.2=mt at *
  generalize outI 24 (bG (runR d.all))=o at *
  generalize d.tw=dt at *
  clear hf hal hso hR oR h0
  obtain⟨l,x,st,lf,dd⟩:=d
  obtain⟨l2,x2,st2,lf2,dd2⟩:=dt
  simp only[Dk.val,dsk,stV]at *
  cases b<;>simp[af,ah,ad,ae,aa, *,oF,Heap.aj]
 ·rw[if_neg h0]at hO
  rw[decide_eq_false h0,Bool.false_and]
  generalize ofE d=er at *
  clear hf hal hso hR oR hS
  obtain⟨l,x,st,lf,dd⟩:=d
  simp only[Dk.val,dsk,stV,lY]at *
  simp[af,ah,ad,ae,aa, *,oF,Heap.aj]
theorem OV(h48:R.length<1000000):limf env 43 [stV d ro g1 k at']=some (JY d (rcs R)):=by
 refine aH (fn:=Tryz.f43) (c:=ic) rfl (by kernel_rfl) (by kernel_rfl) (by kernel_rfl) (by kernel_rfl) ?_;refine kS _ _ _ fun g=>?_
 have hK:=SB hR oR hf lR
 have h1:=hf.sl.r
 have h4:=hR.r
 unfold JY at hK ⊢
 by_cases h0:o6 d (rcs R)=0
 ·rw[if_pos h0]at hK ⊢
  have hkf:(eH d (rcs R)).Fit:=by
   have hm:d.may=true:=by
    unfold o6 at h0;split at h0
    ·rename_i h;exact h
    ·cases h0
   have hst:1≤d.st:=by
    unfold o6 at h0;rw[if_pos hm]at h0;split at h0
    ·cases h0
    ·omega
   have hr:lM (rcs R)=0:=by
    unfold o6 at h0;rw[if_pos hm,if_neg (by omega)]at h0;split at h0
    ·assumption
    ·exact h0
   exact(EJ hf hm hst hr).1
  have h5:=hkf.sl.r
  clear hf hkf hR oR h0
  generalize eH d (rcs R)=y at *
  obtain⟨l,x,st,lf,dd⟩:=d
  obtain⟨l2,x2,st2,lf2,dd2⟩:=y
  simp only[Dk.val,dsk,stV]at *
  simp[af,ah,ad,ae,aa, *,fh,Heap.aj]
 ·rw[if_neg h0]at hK ⊢
  generalize o6 d (rcs R)=er at *
  clear hf hR oR h0
  obtain⟨l,x,st,lf,dd⟩:=d
  simp only[Dk.val,dsk,stV,lZ]at *
  simp[af,ah,ad,ae,aa, *,fh,Heap.aj]
theorem OX(r:Rcd){x:AV}(hx:Sl 1 (rows r.op.l) x)(hl:r.op.l.length<2000000):limf env 41 [stV d ro g1 k at',.iptr 24 [r.val x] 0 0]=some (
 if appE d 0 at' (R.length+1) r=0 then .tup [(d.app 0 at' (R.length+1) r).val,aI 0] else .tup [lZ,aI (appE d 0 at' (R.length+1) r)]):=by
 refine aH (fn:=Tryz.f41) (c:=pd) rfl (by kernel_rfl) (by kernel_rfl) (by kernel_rfl) (by kernel_rfl) ?_;refine uN _ _ _ _ fun g=>?_
 have hA:=FO hf r hx hl 0 at' (R.length+1)
 have h1:=hf.sl.r
 have h4:=hR.r
 rw[gD]at h4
 have h5:=hx.r
 have e1:=IntWalk.i64_in ((R.length:Int)+1) (by omega)
 unfold appA at hA
 by_cases h0:appE d 0 at' (R.length+1) r=0
 ·rw[if_pos h0]at hA ⊢
  have h6:=(Ak hf h0).1.sl.r
  clear hf hR oR h0
  generalize d.app 0 at' (R.length+1) r=y at *
  obtain⟨l,x',st,lf,dd⟩:=d
  obtain⟨l2,x2,st2,lf2,dd2⟩:=y
  simp only[Dk.val,dsk,stV]at *
  unfold Rcd.val at *
  simp[af,ah,ad,ae,aa, *,lg,Heap.aj]
 ·rw[if_neg h0]at hA ⊢
  generalize appE d 0 at' (R.length+1) r=er at *
  clear hf hR oR h0
  obtain⟨l,x',st,lf,dd⟩:=d
  simp only[Dk.val,dsk,stV,lZ]at *
  unfold Rcd.val at *
  simp[af,ah,ad,ae,aa, *,lg,Heap.aj]
end
section
variable{d:Dk}(hf:d.Fit){R:List (Rcd × AV)}{ro:AV}(hR:Sl 24 (bG R) ro)(oR : ∀p∈R,okRc p)(lR:R.length<1000000)(g1 k at':Int)
include hf hR
end
def rP(c:Bool)(e:Int)(d':Dk):AV:=if c then (if e=0 then ofA d' else .tup [lY,aI e]) else .tup [lY,aI 8]
theorem Dc{d:Dk}(hf:d.Fit){L:List Rcd}(h0:o6 d L=0):(eH d L).Fit:=by
 have hm:d.may=true:=by
  unfold o6 at h0;split at h0
  ·rename_i h;exact h
  ·cases h0
 have hst:1≤d.st:=by
  unfold o6 at h0;rw[if_pos hm]at h0;split at h0
  ·cases h0
  ·omega
 have hr:lM L=0:=by
  unfold o6 at h0;rw[if_pos hm,if_neg (by omega)]at h0;split at h0
  ·assumption
  ·exact h0
 exact(EJ hf hm hst hr).1
section
variable{d:Dk}(hf:d.Fit){R:List (Rcd × AV)}{ro:AV}(hR:Sl 24 (bG R) ro)(oR : ∀p∈R,okRc p)(lR:R.length<1000000)(g1 k at':Int)
include hf hR oR lR
theorem II(r:Rcd){x:AV}(hx:Sl 1 (rows r.op.l) x)(hl:r.op.l.length<2000000):limf env 40 [stV d ro g1 k at',.fn (.func 41) [] [.iptr 24 [r.val x] 0 0]]=some (rP (stOk d (rcs R) g1 k at') (appE d 0 at' (R.length+1) r) (d.app 0 at' (R.length+1) r)):=by
 refine aH (fn:=Tryz.f40) (c:=fe) rfl (by kernel_rfl) (by kernel_rfl) (by kernel_rfl) (by kernel_rfl) ?_;refine gZ _ _ _ _ fun g=>?_
 have hC:=xm hf hR oR lR g1 k at'
 have hD:=OX hf hR oR lR g1 k at' r hx hl
 have h1:=hf.sl.r
 have h4:=hR.r
 have h5:=hx.r
 unfold rP
 generalize stOk d (rcs R) g1 k at'=b at *
 cases b with
 | false =>
  simp only[Bool.false_eq_true,if_false]at hC ⊢
  clear hf hR oR hD
  obtain⟨l,x',st,lf,dd⟩:=d
  simp only[Dk.val,dsk,stV,lY]at *
  unfold Rcd.val at *
  simp[af,ah,ad,ae,aa, *,bC,Heap.aj]
 | true =>
  simp only[if_true]at hC ⊢
  by_cases h0:appE d 0 at' (R.length+1) r=0
  ·rw[if_pos h0]at hD ⊢
   have hfy:(d.app 0 at' (R.length+1) r).Fit:=(Ak hf h0).1
   have hO:=s_Of hfy
   have h6:=hfy.sl.r
   have hal:=KS (d.app 0 at' (R.length+1) r)
   have h7:=(jh 24 (bG (runR (d.app 0 at' (R.length+1) r).all))).r
   have h8:=(tx hfy).sl.r
   clear hf hR oR h0 hfy hal
   generalize d.app 0 at' (R.length+1) r=y at *
   unfold ofA at hO ⊢
   by_cases h9:ofE y=0
   ·rw[if_pos h9]at hO ⊢
    generalize y.cur=m at *
    generalize y.mor.2=mt at *
    generalize outI 24 (bG (runR y.all))=o at *
    generalize y.tw=z at *
    clear h9
    obtain⟨l,x',st,lf,dd⟩:=d
    obtain⟨l2,x2,st2,lf2,dd2⟩:=y
    obtain⟨l3,x3,st3,lf3,dd3⟩:=z
    simp only[Dk.val,dsk,stV]at *
    unfold Rcd.val at *
    simp[af,ah,ad,ae,aa, *,bC,Heap.aj]
   ·rw[if_neg h9]at hO ⊢
    generalize ofE y=er at *
    clear h7 h8
    obtain⟨l,x',st,lf,dd⟩:=d
    obtain⟨l2,x2,st2,lf2,dd2⟩:=y
    simp only[Dk.val,dsk,stV,lY]at *
    unfold Rcd.val at *
    simp[af,ah,ad,ae,aa, *,bC,Heap.aj]
  ·rw[if_neg h0]at hD ⊢
   generalize appE d 0 at' (R.length+1) r=er at *
   clear hf hR oR
   obtain⟨l,x',st,lf,dd⟩:=d
   simp only[Dk.val,dsk,stV,lY,lZ]at *
   unfold Rcd.val at *
   simp[af,ah,ad,ae,aa, *,bC,Heap.aj]
theorem GS:limf env 40 [stV d ro g1 k at',.fn (.func 43) [] []]=some (rP (stOk d (rcs R) g1 k at') (o6 d (rcs R)) (eH d (rcs R))):=by
 refine aH (fn:=Tryz.f40) (c:=fe) rfl (by kernel_rfl) (by kernel_rfl) (by kernel_rfl) (by kernel_rfl) ?_;refine gZ _ _ _ _ fun g=>?_
 have hC:=xm hf hR oR lR g1 k at'
 have hD:=OV hf hR oR lR g1 k at' lR
 have h1:=hf.sl.r
 have h4:=hR.r
 unfold JY at hD
 unfold rP
 generalize stOk d (rcs R) g1 k at'=b at *
 cases b with
 | false =>
  simp only[Bool.false_eq_true,if_false]at hC ⊢
  clear hf hR oR hD
  obtain⟨l,x',st,lf,dd⟩:=d
  simp only[Dk.val,dsk,stV,lY]at *
  skip
  simp[af,ah,ad,ae,aa, *,bC,Heap.aj]
 | true =>
  simp only[if_true]at hC ⊢
  by_cases h0:o6 d (rcs R)=0
  ·rw[if_pos h0]at hD ⊢
   have hfy:(eH d (rcs R)).Fit:=Dc hf h0
   have hO:=s_Of hfy
   have h6:=hfy.sl.r
   have hal:=KS (eH d (rcs R))
   have h7:=(jh 24 (bG (runR (eH d (rcs R)).all))).r
   have h8:=(tx hfy).sl.r
   clear hf hR oR h0 hfy hal
   generalize eH d (rcs R)=y at *
   unfold ofA at hO ⊢
   by_cases h9:ofE y=0
   ·rw[if_pos h9]at hO ⊢
    generalize y.cur=m at *
    generalize y.mor.2=mt at *
    generalize outI 24 (bG (runR y.all))=o at *
    generalize y.tw=z at *
    clear h9
    obtain⟨l,x',st,lf,dd⟩:=d
    obtain⟨l2,x2,st2,lf2,dd2⟩:=y
    obtain⟨l3,x3,st3,lf3,dd3⟩:=z
    simp only[Dk.val,dsk,stV]at *
    skip
    simp[af,ah,ad,ae,aa, *,bC,Heap.aj]
   ·rw[if_neg h9]at hO ⊢
    generalize ofE y=er at *
    clear h7 h8
    obtain⟨l,x',st,lf,dd⟩:=d
    obtain⟨l2,x2,st2,lf2,dd2⟩:=y
    simp only[Dk.val,dsk,stV,lY]at *
    skip
    simp[af,ah,ad,ae,aa, *,bC,Heap.aj]
  ·rw[if_neg h0]at hD ⊢
   generalize o6 d (rcs R)=er at *
   clear hf hR oR
   obtain⟨l,x',st,lf,dd⟩:=d
   simp only[Dk.val,dsk,stV,lY,lZ]at *
   skip
   simp[af,ah,ad,ae,aa, *,bC,Heap.aj]
end
theorem Cy(c:Bool)(e:Int)(d':Dk)(hd:e=0→d'.Fit):(∃e':Int,rP c e d' = .tup [lY,aI e']) ∨∃(y:Dk) (o:AV) (m1 m2 m3:Int),(sW y.x=some (encS y.l).length∧(∀(g:Get)(n:Nat),view g (n+1) y.x=some y.x)∧(∀(g:Get)(n:Nat),aG g n y.x=[])∧y.x.cells=[y.x]∧y.x.one=true∧(∀(g:Get)(n:Nat),dU g (n+1) y.x=some y.x) ∧∀(r:Ref)(n:Nat)(bs:List Blk),bE r n y.x bs=(y.x,bs)) ∧
 (∃ln,sW o=some ln∧(∀(g:Get)(n:Nat),view g (n+1) o=some o)∧(∀(g:Get)(n:Nat),aG g n o=[])∧o.cells=[o]∧o.one=true∧(∀(g:Get)(n:Nat),dU g (n+1) o=some o) ∧∀(r:Ref)(n:Nat)(bs:List Blk),bE r n o bs=(o,bs))∧(y.x=aNil ∨∃es c,y.x = .isl 2 es c)∧(o=aNil ∨∃es,o = .isl 24 es none)∧rP c e d' = .tup [stV y o m1 m2 m3,aI 0]:=by
 unfold rP
 cases c with
 | false=>exact .inl ⟨8,rfl⟩
 | true =>
  simp only[if_true]
  by_cases h0:e=0
  ·rw[if_pos h0]
   unfold ofA
   by_cases h9:ofE d'=0
   ·rw[if_pos h9]
    refine .inr ⟨d'.tw,_,_,_,_,(tx (hd h0)).sl.r,⟨_,(jh 24 (bG (runR d'.all))).r⟩,?_,?_,rfl⟩
    ·rcases(tx (hd h0)).sl with ⟨h,_⟩ | ⟨c,h,_⟩
     ·exact .inl h
     ·exact .inr ⟨_,_,h⟩
    ·unfold outI;split
     ·exact .inl rfl
     ·exact .inr ⟨_,rfl⟩
   ·rw[if_neg h9];exact .inl ⟨_,rfl⟩
  ·rw[if_neg h0];exact .inl ⟨_,rfl⟩
section
variable{d:Dk}(hf:d.Fit){R:List (Rcd × AV)}{ro:AV}(hR:Sl 24 (bG R) ro)(oR : ∀p∈R,okRc p)(lR:R.length<1000000)(g1 k at':Int)
include hf hR oR lR
theorem Nz(r:Rcd){x:AV}(hx:Sl 1 (rows r.op.l) x)(hl:r.op.l.length<2000000):limf env 9 [stV d ro g1 k at',r.val x]=some (rP (stOk d (rcs R) g1 k at') (appE d 0 at' (R.length+1) r) (d.app 0 at' (R.length+1) r)):=by
 refine aH (fn:=Tryz.f9) (c:=qY) rfl (by kernel_rfl) (by kernel_rfl) (by kernel_rfl) (by kernel_rfl) ?_;refine w9 _ _ _ _ fun g=>?_
 have hT:=II hf hR oR lR g1 k at' r hx hl
 have h1:=hf.sl.r
 have h4:=hR.r
 have h5:=hx.r
 have hcase:=Cy (stOk d (rcs R) g1 k at') (appE d 0 at' (R.length+1) r) (d.app 0 at' (R.length+1) r) (fun h0=>(Ak hf h0).1)
 generalize rP (stOk d (rcs R) g1 k at') (appE d 0 at' (R.length+1) r) (d.app 0 at' (R.length+1) r)=T at *
 clear hf hR oR
 obtain⟨l,x',st,lf,dd⟩:=d
 rcases hcase with ⟨e,rfl⟩ | ⟨y,o,m1,m2,m3,hy,⟨ln,ho⟩,hxx,hoo,rfl⟩
 ·simp only[stV,lY]at *
  unfold Rcd.val at *
  simp[af,ah,ad,ae,aa, *,nF,Heap.aj]
 ·obtain⟨l2,x2,st2,lf2,dd2⟩:=y
  simp only[stV]at *
  unfold Rcd.val at *
  rcases hxx with rfl | ⟨es,c,rfl⟩<;>rcases hoo with rfl | ⟨es',rfl⟩<;>simp[af,ah,ad,ae,aa, *,nF,Heap.aj]
theorem Eh:limf env 11 [stV d ro g1 k at']=some (rP (stOk d (rcs R) g1 k at') (o6 d (rcs R)) (eH d (rcs R))):=by
 refine aH (fn:=Tryz.f11) (c:=uo) rfl (by kernel_rfl) (by kernel_rfl) (by kernel_rfl) (by kernel_rfl) ?_;refine Av _ _ _ fun g=>?_
 have hT:=GS hf hR oR lR g1 k at'
 have h1:=hf.sl.r
 have h4:=hR.r
 have hcase:=Cy (stOk d (rcs R) g1 k at') (o6 d (rcs R)) (eH d (rcs R)) (fun h0=>Dc hf h0)
 generalize rP (stOk d (rcs R) g1 k at') (o6 d (rcs R)) (eH d (rcs R))=T at *
 clear hf hR oR
 obtain⟨l,x',st,lf,dd⟩:=d
 rcases hcase with ⟨e,rfl⟩ | ⟨y,o,m1,m2,m3,hy,⟨ln,ho⟩,hxx,hoo,rfl⟩
 ·simp only[stV,lY]at *
  skip
  simp[af,ah,ad,ae,aa, *,pP,Heap.aj]
 ·obtain⟨l2,x2,st2,lf2,dd2⟩:=y
  simp only[stV]at *
  skip
  simp[af,ah,ad,ae,aa, *,pP,Heap.aj]
omit oR lR in
theorem O8:limf env 20 [stV d ro g1 k at']=some (aI d.st):=by
 refine aH (fn:=Tryz.f20) (c:=sf) rfl (by kernel_rfl) (by kernel_rfl) (by kernel_rfl) (by kernel_rfl) ?_;refine yI _ _ _ fun g=>?_
 have h1:=hf.sl.r
 have h4:=hR.r
 clear hf hR
 obtain⟨l,x',st,lf,dd⟩:=d
 simp only[stV]at *
 simp[af,ah,ad,ae,aa, *,sD]
end
end Go.Proofs.YtiidajnodhkidaaGreat
