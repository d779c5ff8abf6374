/-
  What is put in one area turns no other one: the law's run. No statement of a seat is proved here.
-/
import Derived.Test.YtmjkpdknicjjgaaLogAlive
import Derived.Test.YtmjkpdknicjjgaaLgVl4
set_option linter.unusedVariables false
set_option linter.unusedSimpArgs false
set_option linter.unusedSectionVars false
set_option linter.unnecessarySimpa false
set_option maxRecDepth 100000
namespace Go.Proofs.Ytmjkpdknicjjgaa
open Go.Ab
attribute [local simp] bZ bD bI bH keep thr cz bA bJ eL eK bX cy aW cY List.take_of_length_le
theorem E6 {d:Dk} (hf:d.Fit) (hm:d.may=true) {L:List Rcd} (hc:chain d 0 1 0 L) (hz : ∀q,(sumN L:Int)≤q→q<2048→d.rd q=zer) (hL:L.length≤12) (hs:(sumN L:Int)≤2048) {area place:Int} {r:Rcd} (h0:appE d area place 1 r=0)
 {other:Int} (ho:0≤other∧other≤2) (hcase:other≠area∨(other=0∧(sumN L:Int)≤place)) :
 ∃A M n e,eC d (other * 2048) 0 1000 2049 0 0=(A,n)∧eC (d.app area place 1 r) (other * 2048) 0 1000 2049 0 0=(A++M,e)∧n≤e∧(other=area∨e=n):=by
 obtain ⟨a1,a2,_,⟨g1,g2,g3,g4,g5,g6,g7⟩,hI,hr,hh⟩:=xJ hf h0
 have hlf : -1≤d.lf:=by
  have:=hm
  unfold Dk.may dOk dhOk at this
  simp at this
  omega
 have hrd:=fun q=>KQ hlf hI area place 1 q
 have hcan:d.can (recN r)≤recN r:=by
  unfold Dk.can;split;· omega
  ·split<;>omega
 by_cases hoa:other=area
 ·have hc2:other=0∧(sumN L:Int)≤place:=by rcases hcase with h | h;exact absurd hoa h;exact h
  obtain ⟨rfl,hpl⟩:=hc2
  have e1:=sD (d:=d) (p:=0) (nu:=0) (most:=1000) L 2049 0 0 (by simpa using hc) (by
   by_cases h48:(sumN L:Int)=2048
   ·unfold jl;rw [if_pos (by omega)]
   ·exact so (by rw [Int.zero_add,Int.zero_add];exact hz _ (Int.le_refl _) (by omega))) (by simp;omega) (by omega)
  have hc':chain (d.app area place 1 r) 0 1 0 L:=CO L 1 0 hc fun q h1 h2=>by rw [hrd,if_neg (by omega)]
  obtain ⟨M,e,e2,e3⟩:=Iy (d:=d.app area place 1 r) (p:=0) (nu:=0) (most:=1000) L 2049 0 0 (by simpa using hc') (by simp;omega) (by omega)
  rw [Int.zero_mul]
  exact ⟨L,M,_,e,e1,e2,e3,.inl hoa⟩
 ·have:=Ed (d:=d) (d':=d.app area place 1 r) (p:=other * 2048) (nu:=0) (most:=1000) (fun q h1 h2=>by rw [hrd,if_neg (by omega)]) 2049 0 0 (by omega)
  rw [this]
  generalize eC d (other * 2048) 0 1000 2049 0 0=q
  obtain ⟨A,n⟩:=q
  exact ⟨A,[],n,n,rfl,by rw [List.append_nil],Int.le_refl _,.inr rfl⟩
theorem FD {P:Program} {t z:Nat} (h:(dH P t).bind (aY P)=some z) {es:List AV} {x:AV} (hx:Sl z es x) {n:Int} (h0:0≤n) (hn:n≤es.length) :
 ∃y,(∀g,bM P g t (some x) (some none) (some (some n)) (some none)=some (y,[]))∧Sl z (es.take n.toNat) y:=by
 rcases hx with ⟨rfl,rfl⟩ | ⟨c,rfl,hcap⟩
 ·refine ⟨aNil,fun g=>?_,.inl ⟨rfl,by simp⟩⟩
  rw [nC (by rw [h];rfl)]
  have:n=0:=by simp at hn;omega
  subst this;rfl
 ·obtain ⟨y,h1,h2⟩:=Db h (fun _=>none) (.inr ⟨c,rfl,hcap⟩) h0 hn
  refine ⟨y,fun g=>?_,h2⟩
  rw [pS h] at h1 ⊢
  exact h1
section
variable {l:List (Rcd × AV)} {x0:AV} (hx:Sl 24 (eb l) x0) (hl : ∀p∈l,Sl 1 (rows p.1.op.l) p.2) (r:Rcd) {x:AV} (hr:Sl 1 (rows r.op.l) x)
include hx hl hr
theorem HJ (area other place:Int):limf env 4 [x0,aI area,aI other,r.val x,aI place]=some (aB true):=by
 refine aH (fn:=Try.f4) (c:=fe) rfl (by kernel_rfl) (by kernel_rfl) (by kernel_rfl) (by kernel_rfl) ?_;refine lP _ _ _ _ _ _ _ fun g=>?_
 have al:=GL
 have hrr:=hr.r
 have hx0:=hx.r
 obtain ⟨t,hL,hL2⟩:=OO hx hl 12
 cases t with
 | true=>unfold Rcd.val;simp [af,ah,ad,ae,aa, *,aP]
 | false =>
 obtain ⟨hL3,hL4⟩:=hL2 rfl
 by_cases q1:(200:Int)<r.op.l.length
 ·unfold Rcd.val;simp [af,ah,ad,ae,aa, *,aP]
 by_cases q2:other<0
 ·unfold Rcd.val;simp [af,ah,ad,ae,aa, *,aP]
 by_cases q3:2<other
 ·unfold Rcd.val;simp [af,ah,ad,ae,aa, *,aP]
 have hok : ∀p∈l,okRc p:=fun p hp=>⟨hl p hp,by have:=hL3 p (by rw [List.take_of_length_le (by omega)];exact hp);omega⟩
 have hN:=ON
 have hS:=FX (n := -1) (by omega)
 have hff:=vx (-1)
 have hfm:=vv (n := -1) (by omega)
 have hP:=OI hx hok (by omega) hff hfm 0 (nu:=1) (by omega)
 obtain ⟨hpf,hpm⟩:=yK (rcs l) (fresh (-1)) 0 1 hff hfm
 have hall:=Dp (rcs l) (fresh (-1)) 0 1 hff hfm rfl rfl (fun q _ _=>DH _ _)
 generalize putR (fresh (-1)) 0 1 (rcs l)=q at *
 obtain ⟨d,at',is⟩:=q
 simp only at hP hpf hpm hall
 have hA:=Dg hpf r hr (by omega) area place 1
 have hsc1:=BO hpf hpm (area:=other) (nu:=0) (most:=1000) (by omega) (by omega) (by omega)
 have hxv:=hpf.sl.r
 unfold appA at hA
 by_cases h0:appE d area place 1 r=0
 ·rw [if_pos h0] at hA
  obtain ⟨b1,b2,b3,_⟩:=xJ hpf h0
  have hsc2:=BO b1 b2 (area:=other) (nu:=0) (most:=1000) (by omega) (by omega) (by omega)
  have hxv2:=b1.sl.r
  cases is with
  | false =>
   clear hall hsc1 hsc2 hL3 hok hff hfm hpf hpm b1 b2 b3 h0 hl
   generalize d.app area place 1 r=d2 at *
   obtain ⟨ll,y,st,lf,dd⟩:=d
   obtain ⟨ll2,y2,st2,lf2,dd2⟩:=d2
   simp only [fresh,Dk.val,dsk] at *
   unfold Rcd.val at hA ⊢
   simp [af,ah,ad,ae,aa, *,aP]
  | true =>
   obtain ⟨c1,c2,c3,c4,c5⟩:=hall rfl
   rw [Int.zero_add] at c2 c3 c5
   have hm1:=fun hcase=>E6 hpf hpm c1 (fun q h1 h2=>c3 q h1 h2) (by rw [LO];omega) (c5 (by omega)) h0 (other:=other) (by omega) hcase
   by_cases hcond:other≠area∨(other=0∧(sumN (rcs l):Int)≤place)
   ·obtain ⟨A,M,n,e,e1,e2,hne,hoe⟩:=hm1 hcond
    have hs1:=BK (d:=d) (p:=other * 2048) (nu:=0) (most:=1000) 2049 0 0
    rw [e1] at hsc1 hs1
    rw [e2] at hsc2
    simp only at hsc1 hsc2 hs1
    have hAM:runR (A++M)=runR A++runR M:=by simp [runR]
    have hAM2:eb (runR (A++M))=eb (runR A)++eb (runR M):=by rw [hAM];simp [eb]
    have hsl2:=sI 24 (eb (runR (A++M)))
    have hsl1:=sI 24 (eb (runR A))
    obtain ⟨y,hsy,hsl3⟩:=FD (P:=env.P) (t:=50) (z:=24) (by kernel_rfl) hsl2 (n:=(A.length:Int)) (by omega) (by rw [hAM2];simp;omega)
    have hsmy : ∀y,Sl 24 (eb (runR A)) y→limf env 19 [outI 24 (eb (runR A)),y]=some (aB true):=by
     intro y hy
     have:=Ai hsl1 hy (xk hs1.1) (xk hs1.1) (by rw [Dh];have:=hs1.2;omega)
     rw [xi] at this
     exact this
    have htk:(eb (runR (A++M))).take ((A.length:Int)).toNat=eb (runR A):=by
     rw [hAM2,List.take_left']
     simp
    rw [htk] at hsl3
    have hr3:=hsl3.r
    have hsm:=hsmy y hsl3
    clear hsmy
    have hr1:=hsl1.r
    have hr2:=hsl2.r
    have hlA:(eb (runR A)).length=A.length:=by simp
    have hlM:(eb (runR (A++M))).length=A.length+M.length:=by simp
    rw [hlA] at hr1
    rw [hlM] at hr2
    generalize outI 24 (eb (runR A))=oA at *
    generalize outI 24 (eb (runR (A++M)))=oM at *
    generalize eb (runR A)=EA at *
    clear hall hL3 hok hff hfm hpf hpm b1 b2 b3 h0 hl hm1 c1 c3 c4 c5 e1 e2 hs1 hAM hAM2 hsl1 hsl2 hsl3 htk hlA hlM
    subst c2
    have f1:(A.length:Int)≤A.length+M.length:=by omega
    have f2:decide (n≤e)=true:=decide_eq_true hne
    have hoe':(decide (other=area)||decide (e=n))=true:=by simpa using hoe
    have hc':(!decide (other=area)||(decide (other=0)&&decide ((sumN (rcs l):Int)≤place)))=true:=by simpa using hcond
    generalize d.app area place 1 r=d2 at *
    generalize (sumN (rcs l):Int)=sn at *
    clear hoe hcond
    obtain ⟨ll,y',st,lf,dd⟩:=d
    obtain ⟨ll2,y2,st2,lf2,dd2⟩:=d2
    simp only [fresh,Dk.val,dsk] at *
    unfold Rcd.val at hA ⊢
    cases hd1:decide (other=area) with
    | false =>
     rw [hd1] at hoe' hc'
     have hd2:decide (e=n)=true:=by simpa using hoe'
     have hd3:e=n:=by simpa using hd2
     subst hd3
     have hd4 : ¬other=area:=by simpa using hd1
     clear hoe' hc' hd2
     simp [af,ah,ad,ae,aa, *,aP]
    | true =>
     rw [hd1] at hc'
     have hd4:other=area:=by simpa using hd1
     subst hd4
     simp only [Bool.not_true,Bool.false_or,Bool.and_eq_true,decide_eq_true_eq] at hc'
     obtain ⟨rfl,hsp⟩:=hc'
     clear hoe'
     simp [af,ah,ad,ae,aa, *,aP]
   ·have hne:other=area:=by
     by_cases h:other=area
     ·exact h
     ·exact absurd (.inl h) hcond
    have hnp : ¬(other=0∧(sumN (rcs l):Int)≤place):=fun h=>hcond (.inr h)
    generalize sumN (rcs l)=sn at *
    subst c2
    clear hall hL3 hok hff hfm hpf hpm b1 b2 b3 h0 hl hm1 c1 c3 c4 c5 hcond
    generalize d.app area place 1 r=d2 at *
    have hr1:=(sI 24 (eb (runR (eC d (other * 2048) 0 1000 2049 0 0).1))).r
    have hr2:=(sI 24 (eb (runR (eC d2 (other * 2048) 0 1000 2049 0 0).1))).r
    generalize outI 24 (eb (runR (eC d (other * 2048) 0 1000 2049 0 0).1))=o1 at *
    generalize outI 24 (eb (runR (eC d2 (other * 2048) 0 1000 2049 0 0).1))=o2 at *
    generalize (eC d (other * 2048) 0 1000 2049 0 0).2=n1 at *
    generalize (eC d2 (other * 2048) 0 1000 2049 0 0).2=n2 at *
    obtain ⟨ll,y,st,lf,dd⟩:=d
    obtain ⟨ll2,y2,st2,lf2,dd2⟩:=d2
    simp only [fresh,Dk.val,dsk] at *
    unfold Rcd.val at hA ⊢
    subst hne
    by_cases hz:other=0
    ·have hpp : ¬(sn:Int)≤place:=fun h=>hnp ⟨hz,h⟩
     subst hz
     clear hnp
     simp [af,ah,ad,ae,aa, *,aP]
    ·clear hnp
     simp [af,ah,ad,ae,aa, *,aP]
 ·rw [if_neg h0] at hA
  generalize appE d area place 1 r=er at *
  clear hall hsc1 hL3 hok hff hfm hpf hpm hl
  obtain ⟨ll,y,st,lf,dd⟩:=d
  simp only [fresh,Dk.val,dsk,o8] at *
  unfold Rcd.val at hA ⊢
  cases is<;>simp [af,ah,ad,ae,aa, *,aP]
end
end Go.Proofs.Ytmjkpdknicjjgaa
