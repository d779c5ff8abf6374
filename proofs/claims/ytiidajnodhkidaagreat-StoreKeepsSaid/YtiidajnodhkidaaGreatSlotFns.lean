/-
  Marks: what the functions answer. No statement of a seat is proved here.
-/
import Derived.Test.YtiidajnodhkidaaGreatMLogAlive
import Derived.Test.YtiidajnodhkidaaGreatStVc9
set_option linter.unusedVariables false
set_option linter.unusedSimpArgs false
set_option linter.unusedSectionVars false
set_option linter.unnecessarySimpa false
set_option maxRecDepth 100000
namespace Go.Proofs.YtiidajnodhkidaaGreat
open Go.Ab
attribute [local simp] ct bK bO bN keep thr cC bD bP eE eD cN cB aV dk List.take_of_length_le
def kR(g n:Int):List UInt8:=77 :: (be 4 g++(be 3 n++List.replicate 120 0))
theorem qN(g n:Int):(kR g n).length=128:=by simp[kR,be_4,be_3]
theorem IU{g n:Int}(hg:0≤g)(hn:0≤n):limf env 114 [.agg [aI g,aI n]]=some (.isl 1 (by8 (kR g n)) none):=by
 refine aH (fn:=Tryz.f114) (c:=lC) rfl (by kernel_rfl) (by kernel_rfl) (by kernel_rfl) (by kernel_rfl) ?_;refine yL _ _ _ fun g=>?_
 have hmk:=wN (P:=env.P) (t:=76) (z:=1) (by':=1) (zz:=a8 0) (r:=⟨0,6,0,0⟩) (by kernel_rfl) (by kernel_rfl) (n:=128) (by decide) (by decide)
 rw[show((128:Nat):Int)=128 from rfl]at hmk
 simp[af,ah,ad,ae,aa, *,sE]
 refine iK _ _ _ _ _ fun g=>?_
 simp[af,ah,ad,ae,aa, *,gy,cS,cO]
 refine iK _ _ _ _ _ fun g=>?_
 simp[af,ah,ad,ae,aa, *,gy,cS,cO]
 refine iK _ _ _ _ _ fun g=>?_
 simp[af,ah,ad,ae,aa, *,gy,cS,cO]
 refine iK _ _ _ _ _ fun g=>?_
 simp[af,ah,ad,ae,aa, *,gy,cS,cO]
 refine iK _ _ _ _ _ fun g=>?_
 simp[af,ah,ad,ae,aa, *,gy]
 refine jL _ _ _ _ _ fun g=>?_
 simp[af,ah,ad,ae,aa, *,iS,cS,cO]
 refine jL _ _ _ _ _ fun g=>?_
 simp[af,ah,ad,ae,aa, *,iS,cS,cO]
 refine jL _ _ _ _ _ fun g=>?_
 simp[af,ah,ad,ae,aa, *,iS,cS,cO]
 refine jL _ _ _ _ _ fun g=>?_
 simp[af,ah,ad,ae,aa, *,iS,kR,be_4,be_3,by8]
theorem zP{P:Program}{t z:Nat}(h:(eA P t).bind (bm P)=some z){es:List AV}{x:AV}(hx:Sl z es x){lo hi:Int}(h0:0≤lo)(h1:lo≤hi)(hn:hi≤es.length) :
 ∃y,(∀g,cu P g t (some x) (some (some lo)) (some (some hi)) (some none)=some (y,[]))∧Sl z ((es.drop lo.toNat).take (hi.toNat - lo.toNat)) y:=by
 rcases hx with ⟨rfl,rfl⟩ | ⟨c,rfl,hcap⟩
 ·obtain⟨y,e1,e2⟩:=xj h (fun _=>none) (.inl ⟨rfl,rfl⟩) h0 h1 hn
  refine⟨y,fun g=>?_,e2⟩
  rw[oV (by rw[h];rfl)]at e1 ⊢
  exact e1
 ·obtain⟨y,e1,e2⟩:=xj h (fun _=>none) (.inr ⟨c,rfl,hcap⟩) h0 h1 hn
  refine⟨y,fun g=>?_,e2⟩
  rw[rz h]at e1 ⊢
  exact e1
def genB(b:List UInt8):Int:=val ((b.drop 1).take 4)
def numB(b:List UInt8):Int:=val ((b.drop 5).take 3)
def rQ(b:List UInt8)(slot:Int):Int × Int:=if 1≤genB b∧genB b<2147483648∧genB b % 2=slot∧b=kR (genB b) (numB b) then (genB b,numB b) else (0,0)
section
variable{x5:AV}{b:List UInt8}(hx:Sl 1 (by8 b) x5)(hb:b.length=128){slot:Int}{Q:AV→Heap→Prop}(hQ : ∀H,Q (.agg [aI (rQ b slot).1,aI (rQ b slot).2]) H)
include hx hb hQ
theorem G6{x37:AV}{l:List UInt8}(hy:Sl 1 (by8 l) x37)(hl:l=(b.drop 5).take 3)(hs1:0≤slot){gv:Int}(hgv:gv=genB b) : ∀(s:List UInt8)(k:Nat)(i a:Int)(H:Heap),l.drop k=s→k≤l.length→i=k→0≤a→a<256 ^ k→valF a s=numB b →
 H.get ⟨0,4,0,0⟩=some ⟨2,[.agg [aI gv,aI a]],false,false⟩→Fr H →
 GoL env Tryz.f115 0 jN [(39,aI i),(4,.ptr ⟨0,4,0,0⟩ 0 0),(37,x37),(5,x5),(1,aI slot),(38,aI l.length)] H Q:=by
 have hl3:l.length=3:=by rw[hl];simp[hb]
 intro s
 induction s with
 | nil =>
  rintro k i a H hs hk rfl h0 h1 hv h4 hF
  obtain rfl:=drop_nil hs hk
  refine pV _ _ _ _ _ _ _ _ fun g=>?_
  have hva:a=numB b:=hv
  subst hva
  subst hgv
  have l4:(H.get ⟨0,4,0,0⟩).isSome=true:=by rw[h4];rfl
  have hg0:0≤genB b:=xf 0 (by omega) _
  have hn0:0≤numB b:=xf 0 (by omega) _
  have hbk:=IU hg0 hn0
  have heq:=wK hx (Sl.mk 1 (by8 (kR (genB b) (numB b))))
  have hxr:=hx.r
  have hrem : ∀xo yo,qBin env.P .rem 3 xo yo (some (.v (.int .i64 (genB b)))) (some (.v (.int .i64 2)))=some (aI (genB b % 2),[]):=by
   intro xo yo
   have:=wO (P:=env.P) (t:=3) (xo:=xo) (yo:=yo) (k := .i64) (a:=genB b) (b:=2) (by omega)
   rw[Int.tmod_eq_emod_of_nonneg hg0]at this
   exact this
  have hrem2 : ∀xo yo,qBin env.P .rem 3 xo yo (some (aI (genB b))) (some (.v (.int .i64 2)))=some (aI (genB b % 2),[]):=hrem
  unfold rQ at hQ
  generalize genB b=gb at *
  generalize numB b=nb at *
  have hd:decide (b=kR gb nb)=true∨decide (b=kR gb nb)=false:=by cases decide (b=kR gb nb)<;>simp
  by_cases c1:gb<1
  ·rw[if_neg (by omega)]at hQ
   clear hd hx hy
   simp[af,ah,ad,ae,aa, *,fL,Heap.aj]
  by_cases c2:2147483648≤gb
  ·rw[if_neg (by omega)]at hQ
   clear hd hx hy
   simp[af,ah,ad,ae,aa, *,fL,Heap.aj]
  by_cases c3:gb % 2=slot
  ·rcases hd with hd | hd
   ·have hd':b=kR gb nb:=by simpa using hd
    rw[if_pos ⟨by omega,by omega,c3,hd'⟩]at hQ
    rw[hd]at heq
    clear hd hd' hx hy
    generalize kR gb nb=mb at *
    simp[af,ah,ad,ae,aa, *,fL,Heap.aj]
   ·have hd' : ¬b=kR gb nb:=by simpa using hd
    rw[if_neg (fun h=>hd' h.2.2.2)]at hQ
    rw[hd]at heq
    clear hd hd' hx hy
    generalize kR gb nb=mb at *
    simp[af,ah,ad,ae,aa, *,fL,Heap.aj]
  ·rw[if_neg (fun h=>c3 h.2.2.1)]at hQ
   clear hd hx hy
   simp[af,ah,ad,ae,aa, *,fL,Heap.aj]
 | cons v s ih =>
  rintro k i a H hs hk rfl h0 h1 hv h4 hF
  obtain⟨hlt,hg,hs',hg'⟩:=drop_cons hs
  have hbv:=v.toNat_lt
  have h2:=qK (k:=k) 6 (by omega)
  have e:=Bc h0 (by omega) v
  have e2:=IntWalk.i64_in (a * 256) (by omega)
  have e3:=IntWalk.i64_in ((k:Int)+1) (by omega)
  have hih:=fun H'=>ih (k+1) ((k:Int)+1) (256 * a+v.toNat) H' hs' (by omega) (by simp) (by omega) (by rw[Int.pow_succ];omega) hv
  have l4:(H.get ⟨0,4,0,0⟩).isSome=true:=by rw[h4];rfl
  clear ih hQ hv
  clear hgv hl3 hl
  refine pV _ _ _ _ _ _ _ _ fun g=>?_
  simp[af,ah,ad,ae,aa, *,fL,rA,hy.idx,Heap.aj]
  exact hih _ (by simp(maxDischargeDepth:=12) [Heap.aj,aD,ar,Fr.nil,aP,af,ah,ad,ae,aF,aq,aa, *]) (by simp(maxDischargeDepth:=12) [Heap.aj,aD,ar,Fr.nil,aP,af,ah,ad,ae,aF,aq,aa, *])
theorem G7{x22:AV}{l:List UInt8}(hy:Sl 1 (by8 l) x22)(hl:l=(b.drop 1).take 4)(hs1:0≤slot) : ∀(s:List UInt8)(k:Nat)(i a:Int)(H:Heap),l.drop k=s→k≤l.length→i=k→0≤a→a<256 ^ k→valF a s=genB b →
 H.get ⟨0,4,0,0⟩=some ⟨2,[.agg [aI a,aI 0]],false,false⟩→Fr H →
 GoL env Tryz.f115 0 kE [(24,aI i),(4,.ptr ⟨0,4,0,0⟩ 0 0),(22,x22),(5,x5),(1,aI slot),(23,aI l.length)] H Q:=by
 have hl3:l.length=4:=by rw[hl];simp[hb]
 intro s
 induction s with
 | nil =>
  rintro k i a H hs hk rfl h0 h1 hv h4 hF
  obtain rfl:=drop_nil hs hk
  refine qy _ _ _ _ _ _ _ _ fun g=>?_
  have hva:a=genB b:=hv
  obtain⟨z,hz1,hz2⟩:=zP (P:=env.P) (t:=76) (z:=1) (by kernel_rfl) hx (lo:=5) (hi:=8) (by omega) (by omega) (by simp;omega)
  have hz3:((by8 b).drop (5:Int).toNat).take ((8:Int).toNat - (5:Int).toNat)=by8 ((b.drop 5).take 3):=by simp[by8]
  rw[hz3]at hz2
  have hl5:((b.drop 5).take 3).length=3:=by simp[hb]
  have hnx:=G6 hx hb hQ hz2 rfl hs1 hva ((b.drop 5).take 3) 0 0 0 H rfl (by omega) rfl (by omega) (by simp) rfl h4 hF
  rw[hl5]at hnx
  have hzl:=hz2.len
  rw[nB,hl5]at hzl
  clear hQ hx hy hz2 hz3 hl5
  simp[af,ah,ad,ae,aa, *,nG]
  exact hnx
 | cons v s ih =>
  rintro k i a H hs hk rfl h0 h1 hv h4 hF
  obtain⟨hlt,hg,hs',hg'⟩:=drop_cons hs
  have hbv:=v.toNat_lt
  have h2:=qK (k:=k) 6 (by omega)
  have e:=Bc h0 (by omega) v
  have e2:=IntWalk.i64_in (a * 256) (by omega)
  have e3:=IntWalk.i64_in ((k:Int)+1) (by omega)
  have hih:=fun H'=>ih (k+1) ((k:Int)+1) (256 * a+v.toNat) H' hs' (by omega) (by simp) (by omega) (by rw[Int.pow_succ];omega) hv
  have l4:(H.get ⟨0,4,0,0⟩).isSome=true:=by rw[h4];rfl
  clear ih hQ hv
  clear hl3 hl
  refine qy _ _ _ _ _ _ _ _ fun g=>?_
  simp[af,ah,ad,ae,aa, *,nG,rA,hy.idx,Heap.aj]
  exact hih _ (by simp(maxDischargeDepth:=12) [Heap.aj,aD,ar,Fr.nil,aP,af,ah,ad,ae,aF,aq,aa, *]) (by simp(maxDischargeDepth:=12) [Heap.aj,aD,ar,Fr.nil,aP,af,ah,ad,ae,aF,aq,aa, *])
end
def Dk.mark(d:Dk)(slot:Int):Int × Int:=rQ (d.rd (6144+slot)) slot
def Dk.cur(d:Dk):Int × Int:=if (d.mark 1).1<(d.mark 0).1 then d.mark 0 else d.mark 1
theorem LP(b:List UInt8)(slot:Int):0≤(rQ b slot).1∧(rQ b slot).1<2147483648∧0≤(rQ b slot).2∧(rQ b slot).2≤16777215:=by
 unfold rQ
 split
 ·rename_i h
  have hn0:0≤numB b:=xf 0 (by omega) _
  have hn1:numB b<256 ^ (0+((b.drop 5).take 3).length):=GL ((b.drop 5).take 3) 0 (by omega) 0 (by decide)
  have hl:((b.drop 5).take 3).length≤3:=by simp;omega
  have:=qK (k:=0+((b.drop 5).take 3).length) 3 (by omega)
  exact⟨by show 0≤genB b;omega,h.2.1,hn0,by show numB b≤_;omega⟩
 ·simp
theorem Aa(d:Dk):0≤d.cur.1∧d.cur.1<2147483648∧0≤d.cur.2∧d.cur.2≤16777215:=by
 unfold Dk.cur
 split<;>exact LP _ _
theorem QR(a b c e:AV):bQ env.P 178 (some [(0,.agg [a,b]),(1,.agg [c,e])])=some (.agg [a,b,c,e],[]):=by
 have h1:fF env.P 178=some (.agg [aI 0,aI 0,aI 0,aI 0]):=by kernel_rfl
 have h2:tarr env.P 178=some (2,27):=by kernel_rfl
 have h3:bm env.P 27=some 2:=by kernel_rfl
 unfold bQ
 rw[h1]
 simp only[h2,h3]
 rfl
section
variable{d:Dk}(hf:d.Fit)
include hf
theorem IK(hm:d.may=true){slot:Int}(hs:0≤slot∧slot≤1):limf env 115 [d.val,aI slot]=some (.agg [aI (d.mark slot).1,aI (d.mark slot).2]):=by
 refine aH (fn:=Tryz.f115) (c:=mO) rfl (by kernel_rfl) (by kernel_rfl) (by kernel_rfl) (by kernel_rfl) ?_;refine Aw _ _ _ _ fun g=>?_
 have e1:=IntWalk.i64_in (6144+slot) (by omega)
 have hr:=s_Rd hf hm (q:=6144+slot) (by omega)
 have h128:=NG hm (6144+slot)
 unfold Dk.mark
 generalize d.rd (6144+slot)=b at *
 have hx:=Sl.mk 1 (by8 b)
 obtain⟨z,hz1,hz2⟩:=zP (P:=env.P) (t:=76) (z:=1) (by kernel_rfl) hx (lo:=1) (hi:=5) (by omega) (by omega) (by simp;omega)
 have hz3:((by8 b).drop (1:Int).toNat).take ((5:Int).toNat - (1:Int).toNat)=by8 ((b.drop 1).take 4):=by simp[by8]
 rw[hz3]at hz2
 have hl5:((b.drop 1).take 4).length=4:=by simp[h128]
 have hnx:=fun H=>G7 hx h128 (slot:=slot) (Q:=fun v H=>ia env 115 v H (.agg [aI (rQ b slot).1,aI (rQ b slot).2])) (fun H=>by simp) hz2 rfl hs.1 ((b.drop 1).take 4) 0 0 0 H rfl (by omega) rfl (by omega) (by simp) rfl
 rw[hl5]at hnx
 have hzl:=hz2.len
 rw[nB,hl5]at hzl
 have hxv:=hf.sl.r
 clear hf hm hx hz2 hz3 hl5
 obtain⟨l,y,st,lf,dd⟩:=d
 simp only[Dk.val,dsk]at *
 generalize rQ b slot=m at *
 simp[af,ah,ad,ae,aa, *,uE,Heap.aj]
 exact hnx _ (by simp(maxDischargeDepth:=12) [Heap.aj,aD,ar,Fr.nil,aP,af,ah,ad,ae,aF,aq,aa, *]) (by simp(maxDischargeDepth:=12) [Heap.aj,aD,ar,Fr.nil,aP,af,ah,ad,ae,aF,aq,aa, *])
theorem CL:limf env 73 [d.val]=some (if d.may then .tup [.agg [aI d.cur.1,aI d.cur.2],aI 0] else .tup [.agg [aI 0,aI 0],aI 8]):=by
 refine aH (fn:=Tryz.f73) (c:=qe) rfl (by kernel_rfl) (by kernel_rfl) (by kernel_rfl) (by kernel_rfl) ?_;refine wc _ _ _ fun g=>?_
 have hc:=wJ hf
 have hxv:=hf.sl.r
 cases hm:d.may with
 | false =>
  rw[hm]at hc
  clear hf hm
  obtain⟨l,y,st,lf,dd⟩:=d
  simp only[Dk.val,dsk,Bool.false_eq_true,if_false]at *
  simp[af,ah,ad,ae,aa, *,jT,Heap.aj]
 | true =>
  rw[hm]at hc
  have h0:=IK hf hm (slot:=0) (by omega)
  have h1:=IK hf hm (slot:=1) (by omega)
  simp only[if_true]
  unfold Dk.cur
  have hqb:=QR
  generalize d.mark 0=m0 at *
  generalize d.mark 1=m1 at *
  clear hf hm
  obtain⟨l,y,st,lf,dd⟩:=d
  simp only[Dk.val,dsk,if_true]at *
  by_cases h:m1.1<m0.1
  ·rw[if_pos h]
   simp[af,ah,ad,ae,aa, *,jT,Heap.aj]
  ·rw[if_neg h]
   simp[af,ah,ad,ae,aa, *,jT,Heap.aj]
def Dk.lst(d:Dk):List Rcd:=(fu d ((1+d.cur.1 % 2) * 2048) 0 d.cur.2 2049 0 0).1
def PG(d:Dk):AV:=if (d.lst.length:Int)=d.cur.2 then .tup [outI 24 (bG (runR d.lst)),.agg [aI d.cur.1,aI d.cur.2],aI 0] else .tup [aNil,.agg [aI 0,aI 0],aI 8]
theorem SA:limf env 46 [d.val]=some (if d.may then PG d else .tup [aNil,.agg [aI 0,aI 0],aI 8]):=by
 refine aH (fn:=Tryz.f46) (c:=uq) rfl (by kernel_rfl) (by kernel_rfl) (by kernel_rfl) (by kernel_rfl) ?_;refine Ax _ _ _ fun g=>?_
 have hc:=CL hf
 have hxv:=hf.sl.r
 cases hm:d.may with
 | false =>
  rw[hm]at hc
  clear hf hm
  obtain⟨l,y,st,lf,dd⟩:=d
  simp only[Dk.val,dsk,Bool.false_eq_true,if_false]at *
  simp[af,ah,ad,ae,aa, *,mR,Heap.aj]
 | true =>
  rw[hm]at hc
  have hle:=Aa d
  have hsc:=IW hf hm (area:=1+d.cur.1 % 2) (nu:=0) (most:=d.cur.2) (by omega) (by omega) (by omega)
  simp only[if_true]at hc ⊢
  unfold PG
  have e1:=IntWalk.i64_in (1+d.cur.1 % 2) (by omega)
  have hrem : ∀xo yo,qBin env.P .rem 3 xo yo (some (.v (.int .i64 d.cur.1))) (some (.v (.int .i64 2)))=some (aI (d.cur.1 % 2),[]):=by
   intro xo yo
   have:=wO (P:=env.P) (t:=3) (xo:=xo) (yo:=yo) (k := .i64) (a:=d.cur.1) (b:=2) (by omega)
   rw[Int.tmod_eq_emod_of_nonneg hle.1]at this
   exact this
  have hrem2 : ∀xo yo,qBin env.P .rem 3 xo yo (some (aI d.cur.1)) (some (.v (.int .i64 2)))=some (aI (d.cur.1 % 2),[]):=hrem
  rw[show fu d ((1+d.cur.1 % 2) * 2048) 0 d.cur.2 2049 0 0=(d.lst,(fu d ((1+d.cur.1 % 2) * 2048) 0 d.cur.2 2049 0 0).2) from rfl]at hsc
  generalize (fu d ((1+d.cur.1 % 2) * 2048) 0 d.cur.2 2049 0 0).2=nx at *
  have hor:=(jh 24 (bG (runR d.lst))).r
  rw[gD,nT]at hor
  generalize outI 24 (bG (runR d.lst))=o at *
  generalize d.lst.length=ln at *
  generalize d.cur=m at *
  clear hf hm
  obtain⟨l,y,st,lf,dd⟩:=d
  simp only[Dk.val,dsk,if_true]at *
  by_cases h:(ln:Int)=m.2
  ·rw[if_pos h]
   simp[af,ah,ad,ae,aa, *,mR,Heap.aj]
  ·rw[if_neg h]
   simp[af,ah,ad,ae,aa, *,mR,Heap.aj]
end
def lM(L:List Rcd):Int:=if 2048<L.length then 4 else if L.all ej then (if sumN L≤2048 then 0 else 9) else 8
section
variable{l:List (Rcd × AV)}{x:AV}(hx:Sl 24 (bG l) x)(hl : ∀p∈l,okRc p)
include hx hl
theorem GZ(h48:l.length≤2048){Q:AV→Heap→Prop} : ∀(s:List (Rcd × AV)) (k:Nat) (i a:Int) (H:Heap),l.drop k=s→k≤l.length→i=k→0≤a→a≤3 * k →
 (∀H',Q (aI (if (rcs s).all ej then (if a+sumN (rcs s)≤2048 then 0 else 9) else 8)) H') →
 GoL env Tryz.f113 0 jM [(13,aI i),(3,aI a),(11,x),(12,aI l.length)] H Q:=by
 intro s
 induction s with
 | nil =>
  rintro k i a H hs hk rfl h0 h1 hQ
  obtain rfl:=drop_nil hs hk
  refine md _ _ _ _ _ _ fun g=>?_
  simp only[rcs,List.map_nil,List.all_nil,sumN,if_true,Int.natCast_zero,Int.add_zero]at hQ
  clear hl
  by_cases h:a≤2048
  ·rw[if_pos h]at hQ
   have h' : ¬2048<a:=by omega
   simp[af,ah,ad,ae,aa, *,iR]
  ·rw[if_neg h]at hQ
   have h':2048<a:=by omega
   simp[af,ah,ad,ae,aa, *,iR]
 | cons p s ih =>
  rintro k i a H hs hk rfl h0 h1 hQ
  obtain⟨hlt,hg,hs',hg'⟩:=drop_cons hs
  have hp:=hl p (hg ▸ List.getElem_mem _)
  have e3:=IntWalk.i64_in ((k:Int)+1) (by omega)
  have hC:=Sy hp
  have hrd:ee (bG l) k 0 24 true=some (p.1.val p.2):=by simp[bG,hg',Rcd.val]
  have hkl:(k:Int)<l.length:=by omega
  have hpr:=hp.1.r
  rw[show rcs (p :: s)=p.1 :: rcs s from rfl,List.all_cons]at hQ
  cases hr:ej p.1 with
  | false =>
   rw[hr]at hQ hC
   simp only[Bool.false_and,Bool.false_eq_true,if_false]at hQ hC
   clear ih hl hp hr
   unfold Rcd.val at hC hrd
   refine md _ _ _ _ _ _ fun g=>?_
   simp[af,ah,ad,ae,aa, *,iR,hx.idx]
  | true =>
   rw[hr]at hQ hC
   simp only[Bool.true_and,if_true,sumN]at hQ hC
   have hn:=m9 hr
   have e4:=IntWalk.i64_in (a+recN p.1) (by omega)
   have hih:=fun H'=>ih (k+1) ((k:Int)+1) (a+recN p.1) H' hs' (by omega) (by simp) (by omega) (by omega) (fun H'=>by
    have:=hQ H'
    have e:((recN p.1+sumN (rcs s):Nat):Int)=recN p.1+sumN (rcs s):=by omega
    simp only[e,←Int.add_assoc]at this
    exact this)
   clear ih hl hp hr hQ
   unfold Rcd.val at hC hrd
   refine md _ _ _ _ _ _ fun g=>?_
   simp[af,ah,ad,ae,aa, *,iR,hx.idx]
   all_goals exact hih _
theorem IM:limf env 113 [x]=some (aI (lM (rcs l))):=by
 refine aH (fn:=Tryz.f113) (c:=oB) rfl (by kernel_rfl) (by kernel_rfl) (by kernel_rfl) (by kernel_rfl) ?_;refine yK _ _ _ fun g=>?_
 unfold lM
 by_cases h:2048<l.length
 ·rw[if_pos (by rw[xv];exact h)]
  have h':(2048:Int)<l.length:=by omega
  simp[af,ah,ad,ae,aa, *,oG,hx.r]
 ·rw[if_neg (by rw[xv];exact h)]
  have h' : ¬(2048:Int)<l.length:=by omega
  have hlo:=fun H=>GZ hx hl (by omega) (Q:=fun v H=>ia env 113 v H (aI (if (rcs l).all ej then (if sumN (rcs l)≤2048 then 0 else 9) else 8))) l 0 0 0 H rfl (by omega) rfl (by omega) (by omega) (fun H'=>by
   rw[Int.zero_add]
   have e:(if ((sumN (rcs l):Nat):Int)≤2048 then (0:Int) else 9)=if sumN (rcs l)≤2048 then 0 else 9:=by
    by_cases h:sumN (rcs l)≤2048
    ·rw[if_pos h,if_pos (by omega)]
    ·rw[if_neg h,if_neg (by omega)]
   rw[e]
   simp)
  generalize (if (rcs l).all ej then (if sumN (rcs l)≤2048 then (0:Int) else 9) else 8)=er at *
  clear hl
  simp[af,ah,ad,ae,aa, *,oG,hx.r]
  exact hlo _
end
def uD(d:Dk)(area at' nu:Int):List Rcd→Dk
 | []=>d
 | r :: L=>uD (d.app area at' nu r) area (at'+recN r) (nu+1) L
def eH(d:Dk)(L:List Rcd):Dk:=(uD d (1+(d.cur.1+1) % 2) 0 1 L).wr (6144+(d.cur.1+1) % 2) (kR (d.cur.1+1) L.length)
def o6(d:Dk)(L:List Rcd):Int:=if d.may then (if d.st<1 then 2 else if lM L=0 then (if 2147483648≤d.cur.1+1 then 9 else 0) else lM L) else 8
def JY(d:Dk)(L:List Rcd):AV:=if o6 d L=0 then .tup [(eH d L).val,aI 0] else .tup [lZ,aI (o6 d L)]
theorem Ob{d:Dk}(hm:d.may=true)(hst:1≤d.st){area at' nu:Int}{r:Rcd}(ha:0≤area∧area≤2)(ht:0≤at'∧at'+recN r≤2048)(hn:1≤nu∧nu<16777216)(hI:ej r=true):appE d area at' nu r=0:=by
 have:=m9 hI
 unfold appE
 rw[if_pos hm,if_pos (by omega),if_pos hI,if_pos (by omega)]
theorem KO : ∀(L:List Rcd)(d:Dk)(area at' nu:Int),d.Fit→d.may=true→1≤d.st→(0≤area∧area≤2)→0≤at'→at'+sumN L≤2048→1≤nu→nu+L.length≤16777216→L.all ej=true→(uD d area at' nu L).Fit∧(uD d area at' nu L).may=true∧(uD d area at' nu L).st=d.st:=by
 intro L
 induction L with
 | nil=>intro d area at' nu hf hm _ _ _ _ _ _ _;exact⟨hf,hm,rfl⟩
 | cons r L ih =>
  intro d area at' nu hf hm hst ha h0 h1 h2 h3 hI
  simp only[List.all_cons,Bool.and_eq_true]at hI
  simp only[sumN,List.length_cons]at h1 h3
  have hok:=Ak hf (Ob (at':=at') (nu:=nu) hm hst ha (by omega) (by omega) hI.1)
  have:=ih (d.app area at' nu r) area (at'+recN r) (nu+1) hok.1 hok.2.1 (by rw[sA];exact hst) ha (by omega) (by omega) (by omega) (by omega) hI.2
  rw[sA]at this
  exact this
section
variable{l:List (Rcd × AV)}{x:AV}(hx:Sl 24 (bG l) x)(hl : ∀p∈l,okRc p)(h48:l.length≤2048)
include hx hl h48
theorem JX{area gen:Int}(ha:area=0∨area=1)(hgen:0≤gen){Q:AV→Heap→Prop} : ∀(s:List (Rcd × AV)) (k:Nat) (i at':Int) (d:Dk) (H:Heap),l.drop k=s→k≤l.length→i=k→d.Fit→d.may=true→1≤d.st→0≤at'→at'+sumN (rcs s)≤2048→(rcs s).all ej=true→Fr H →
 H.get ⟨0,2,0,0⟩=some ⟨4,[d.val],false,false⟩→H.get ⟨0,4,0,0⟩=some ⟨4,[lZ],false,false⟩→H.get ⟨0,9,0,0⟩=some ⟨2,[.agg [aI gen,aI l.length]],false,false⟩ →
 (∀H',Q (.tup [((uD d (1+area) at' (1+k) (rcs s)).wr (6144+area) (kR gen l.length)).val,aI 0]) H') →
 GoL env Tryz.f72 0 jO [(4,.ptr ⟨0,4,0,0⟩ 0 0),(50,aI i),(2,.ptr ⟨0,2,0,0⟩ 0 0),(11,aI at'),(10,aI area),(48,x),(9,.ptr ⟨0,9,0,0⟩ 0 0),(49,aI l.length)] H Q:=by
 have w1:=IntWalk.i64_in (1+area) (by omega)
 have w2:=IntWalk.i64_in (6144+area) (by omega)
 intro s
 induction s with
 | nil =>
  rintro k i at' d H hs hk rfl hf hm hst h0 h1 hI hF h2 h4 h9 hQ
  obtain rfl:=drop_nil hs hk
  have hbk:=IU hgen (show(0:Int)≤(l.length:Int) by omega)
  have hw:=s_Wr hf hm (q:=6144+area) (by omega) (Sl.mk 1 (by8 (kR gen l.length))) (qN _ _)
  have hwf:=zI hf hm (q:=6144+area) (by omega) (qN gen l.length)
  simp only[rcs,List.map_nil,uD]at hQ
  have hxv:=hf.sl.r
  have hxv':=hwf.sl.r
  clear hf hm hwf hl
  generalize d.wr (6144+area) (kR gen l.length)=d' at *
  generalize kR gen l.length=mb at *
  obtain⟨ll,y,st,lf,dd⟩:=d
  obtain⟨ll',y',st',lf',dd'⟩:=d'
  simp only[Dk.val,dsk,lZ]at *
  have l4:(H.get ⟨0,4,0,0⟩).isSome=true:=by rw[h4];rfl
  refine pW _ _ _ _ _ _ _ _ _ _ fun g=>?_
  simp[af,ah,ad,ae,aa, *,mw,Heap.aj]
 | cons p s ih =>
  rintro k i at' d H hs hk rfl hf hm hst h0 h1 hI hF h2 h4 h9 hQ
  obtain⟨hlt,hg,hs',hg'⟩:=drop_cons hs
  rw[show rcs (p :: s)=p.1 :: rcs s from rfl]at hI h1 hQ
  simp only[List.all_cons,Bool.and_eq_true]at hI
  simp only[sumN]at h1
  have hp:=hl p (hg ▸ List.getElem_mem _)
  have e1:=IntWalk.i64_in ((k:Int)+1) (by omega)
  have hE:=Ob (nu:=(k:Int)+1) hm hst (area:=1+area) (at':=at') (r:=p.1) (by omega) (by omega) (by omega) hI.1
  have hA:=FO hf p.1 hp.1 (by have:=hp.2;omega) (1+area) at' ((k:Int)+1)
  unfold appA at hA
  rw[if_pos hE]at hA
  have hok:=Ak hf hE
  have hrd:ee (bG l) k 0 24 true=some (p.1.val p.2):=by simp[bG,hg',Rcd.val]
  have hkl:(k:Int)<l.length:=by omega
  have hih:=fun H' b1 b2 b3 b4=>ih (k+1) ((k:Int)+1) (at'+recN p.1) (d.app (1+area) at' ((k:Int)+1) p.1) H' hs' (by omega) (by simp) hok.1 hok.2.1 (by rw[sA];exact hst) (by omega) (by omega) hI.2 b1 b2 b3 b4 (fun H''=>by
   have:=hQ H''
   unfold uD at this
   rw[show(1:Int)+((k+1:Nat):Int)=1+k+1 by omega]
   rw[show(k:Int)+1=1+k by omega]
   exact this)
  have hxv:=hf.sl.r
  have hxv':=hok.1.sl.r
  have hpr:=hp.1.r
  clear ih hQ hf hm hok hE hl
  generalize d.app (1+area) at' ((k:Int)+1) p.1=d' at *
  refine pW _ _ _ _ _ _ _ _ _ _ fun g=>?_
  obtain⟨ll,y,st,lf,dd⟩:=d
  obtain⟨ll',y',st',lf',dd'⟩:=d'
  simp only[Dk.val,dsk,lZ]at *
  unfold Rcd.val at hA hrd
  have l2:(H.get ⟨0,2,0,0⟩).isSome=true:=by rw[h2];rfl
  simp[af,ah,ad,ae,aa, *,mw,Heap.aj,hx.idx]
  exact hih _ (by simp(maxDischargeDepth:=12) [Heap.aj,aD,ar,Fr.nil,aP,af,ah,ad,ae,aF,aq,aa, *]) (by simp(maxDischargeDepth:=12) [Heap.aj,aD,ar,Fr.nil,aP,af,ah,ad,ae,aF,aq,aa, *]) (by simp(maxDischargeDepth:=12) [Heap.aj,aD,ar,Fr.nil,aP,af,ah,ad,ae,aF,aq,aa, *]) (by simp(maxDischargeDepth:=12) [Heap.aj,aD,ar,Fr.nil,aP,af,ah,ad,ae,aF,aq,aa, *])
omit h48 in
theorem SB{d:Dk}(hf:d.Fit)(hbig:l.length<1000000):limf env 72 [d.val,x]=some (JY d (rcs l)):=by
 refine aH (fn:=Tryz.f72) (c:=pI) rfl (by kernel_rfl) (by kernel_rfl) (by kernel_rfl) (by kernel_rfl) ?_;refine Ay _ _ _ _ fun g=>?_
 have hc:=CL hf
 have hR:=IM hx hl
 have hxv:=hf.sl.r
 have hxr:=hx.r
 have hle:=Aa d
 unfold JY o6
 cases hm:d.may with
 | false =>
  rw[hm]at hc
  clear hf hm hl
  obtain⟨l,y,st,lf,dd⟩:=d
  simp only[Dk.val,dsk,lZ,Bool.false_eq_true,if_false,show ¬(8:Int)=0 by decide]at *
  simp[af,ah,ad,ae,aa, *,jr,Heap.aj]
 | true =>
  rw[hm]at hc
  simp only[if_true]at hc ⊢
  by_cases hst:d.st<1
  ·simp only[if_pos hst,show ¬(2:Int)=0 by decide,if_false]
   generalize d.cur=m at *
   clear hf hm hl
   obtain⟨l,y,st,lf,dd⟩:=d
   simp only[Dk.val,dsk,lZ]at *
   simp[af,ah,ad,ae,aa, *,jr,Heap.aj]
  ·simp only[if_neg hst]
   have hst1:1≤d.st:=by omega
   have hw1:=IntWalk.i64_in (d.cur.1+1) (by omega)
   by_cases hr0:lM (rcs l)=0
   ·simp only[if_pos hr0]
    rw[hr0]at hR
    have hall:(rcs l).all ej=true∧sumN (rcs l)≤2048∧l.length≤2048:=by
     unfold lM at hr0
     split at hr0
     ·cases hr0
     ·rename_i h1
      rw[xv]at h1
      split at hr0
      ·rename_i h2
       split at hr0
       ·rename_i h3;exact⟨h2,h3,by omega⟩
       ·cases hr0
      ·cases hr0
    by_cases hmax:2147483648≤d.cur.1+1
    ·simp only[if_pos hmax,show ¬(9:Int)=0 by decide,if_false]
     have hmax':2147483647<d.cur.1+1:=by omega
     generalize d.cur=m at *
     clear hf hm hl hall hr0
     obtain⟨l,y,st,lf,dd⟩:=d
     simp only[Dk.val,dsk,lZ]at *
     simp[af,ah,ad,ae,aa, *,jr,Heap.aj]
    ·simp only[if_neg hmax,if_true]
     have hmod:(d.cur.1+1) % 2=0∨(d.cur.1+1) % 2=1:=by omega
     have hrem : ∀xo yo,qBin env.P .rem 3 xo yo (some (.v (.int .i64 (d.cur.1+1)))) (some (.v (.int .i64 2)))=some (aI ((d.cur.1+1) % 2),[]):=by
      intro xo yo
      have:=wO (P:=env.P) (t:=3) (xo:=xo) (yo:=yo) (k := .i64) (a:=d.cur.1+1) (b:=2) (by omega)
      rw[Int.tmod_eq_emod_of_nonneg (by omega)]at this
      exact this
     have hrem2 : ∀xo yo,qBin env.P .rem 3 xo yo (some (aI (d.cur.1+1))) (some (.v (.int .i64 2)))=some (aI ((d.cur.1+1) % 2),[]):=hrem
     have hap:=KO (rcs l) d (1+(d.cur.1+1) % 2) 0 1 hf hm hst1 (by omega) (by omega) (by omega) (by omega) (by rw[xv];omega) hall.1
     have hkf:(eH d (rcs l)).Fit:=zI hap.1 hap.2.1 (by omega) (qN _ _)
     have hfr:=hkf.sl.r
     have hlo:=fun H=>JX hx hl hall.2.2 (area:=(d.cur.1+1) % 2) (gen:=d.cur.1+1) hmod (by omega) (Q:=fun v H=>ia env 72 v H (.tup [(eH d (rcs l)).val,aI 0])) l 0 0 0 d H rfl (by omega) rfl hf hm hst1 (by omega) (by omega) hall.1
     have hfin : ∀H',ia env 72 (.tup [((uD d (1+(d.cur.1+1) % 2) 0 (1+(0:Nat)) (rcs l)).wr (6144+(d.cur.1+1) % 2) (kR (d.cur.1+1) l.length)).val,aI 0]) H' (.tup [(eH d (rcs l)).val,aI 0]):=by
      intro H'
      have e:(uD d (1+(d.cur.1+1) % 2) 0 (1+(0:Nat)) (rcs l)).wr (6144+(d.cur.1+1) % 2) (kR (d.cur.1+1) l.length)=eH d (rcs l):=by unfold eH;rw[xv];rfl
      rw[e]
      generalize eH d (rcs l)=d2 at *
      obtain⟨l2,y2,st2,lf2,dd2⟩:=d2
      simp only[Dk.val,dsk]at hfr ⊢
      simp[hfr]
     have hlo2:=fun H b1 b2 b3 b4=>hlo H b1 b2 b3 b4 hfin
     clear hlo hfin hap hkf hfr hall hr0
     generalize eH d (rcs l)=d2 at *
     generalize d.cur=m at *
     clear hf hm hl hmod
     generalize (m.1+1) % 2=sl at *
     obtain⟨l',y,st,lf,dd⟩:=d
     simp only[Dk.val,dsk,lZ]at *
     simp[af,ah,ad,ae,aa, *,jr,Heap.aj]
     exact hlo2 _ (by simp(maxDischargeDepth:=12) [Heap.aj,aD,ar,Fr.nil,aP,af,ah,ad,ae,aF,aq,aa, *]) (by simp(maxDischargeDepth:=12) [Heap.aj,aD,ar,Fr.nil,aP,af,ah,ad,ae,aF,aq,aa, *]) (by simp(maxDischargeDepth:=12) [Heap.aj,aD,ar,Fr.nil,aP,af,ah,ad,ae,aF,aq,aa, *]) (by simp(maxDischargeDepth:=12) [Heap.aj,aD,ar,Fr.nil,aP,af,ah,ad,ae,aF,aq,aa, *])
   ·simp only[if_neg hr0]
    generalize lM (rcs l)=er at *
    generalize d.cur=m at *
    clear hf hm hl
    obtain⟨l,y,st,lf,dd⟩:=d
    simp only[Dk.val,dsk,lZ]at *
    simp[af,ah,ad,ae,aa, *,jr,Heap.aj]
end
end Go.Proofs.YtiidajnodhkidaaGreat
