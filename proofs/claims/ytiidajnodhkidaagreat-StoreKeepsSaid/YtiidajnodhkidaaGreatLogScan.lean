/-
  Records of a disk: which are there. No statement of a seat is proved here.
-/
import Derived.Test.YtiidajnodhkidaaGreatLogFns
set_option linter.unusedVariables false
set_option linter.unusedSimpArgs false
set_option linter.unusedSectionVars false
set_option linter.unnecessarySimpa false
set_option maxRecDepth 100000
namespace Go.Proofs.YtiidajnodhkidaaGreat
open Go.Ab
attribute [local simp] ct bK bO bN keep thr cC bD bP eE eD cN cB aV dk List.take_of_length_le
theorem Lx{l:List (List UInt8)}(h4:l.length≤4)(hc : ∀b∈l,b.length=128):limf env 117 [.isl 1 (lS l) none]=some (Kg l):=by
 have h:=LB (x0 := .isl 1 (lS l) none) (l:=l.map fun b=>(b,blkV b)) (by rw[KJ];exact Sl.mk _ _) (KI _) (by simp;omega) (by rw[BZ];exact KC hc h4)
 rw[BZ]at h
 exact h
def gG(d:Dk)(p:Int)(n:Nat):List (List UInt8):=(List.range n).map fun(i:Nat)=>d.rd (p+(i:Int))
@[simp] theorem rJ(d:Dk)(p:Int)(n:Nat):(gG d p n).length=n:=by simp[gG]
theorem Fl(d:Dk)(p:Int)(n:Nat):gG d p (n+1)=gG d p n++[d.rd (p+n)]:=by simp[gG,List.range_succ]
theorem HT{d:Dk}(hm:d.may=true)(p:Int)(n:Nat) : ∀b∈gG d p n,b.length=128:=by
 intro b hb
 obtain⟨i,_,rfl⟩:=List.mem_map.1 hb
 exact NG hm _
def gp(d:Dk)(p at' nu:Int):Option (Rcd × Nat) :=
 if 2048≤at' then none else if kD (d.rd p)&&(decide ((hdOf (d.rd p)).nu=nu)&&decide (at'+(hdOf (d.rd p)).of≤2048)) then
  (getR (gG d p (hdOf (d.rd p)).of.toNat)).map fun q=>(q.1,(hdOf (d.rd p)).of.toNat) else none
def rU:Option (Rcd × Nat)→AV
 | some (r,n) => .tup [r.val (runG r.op.l),aI n]
 | none => .tup [nM.val aNil,aI 0]
def Cg(of:Nat):Option (Rcd × Hd)→AV
 | some (r,_) => .tup [r.val (runG r.op.l),aI of]
 | none => .tup [nM.val aNil,aI 0]
section
variable{d:Dk}(hf:d.Fit)(hm:d.may=true){area at':Int}(ha:0≤area∧area≤2)(ht:0≤at'){of:Nat}(hof:1≤of∧of≤4∧at'+of≤2048){hd:Hd}(hdof:hd.of=of)
include hf hm ha ht hof hdof
theorem GD{Q:AV→Heap→Prop}(hQ : ∀H',Q (Cg of (getR (gG d (area * 2048+at') of))) H') : ∀(j k:Nat)(i:Int)(x14:AV)(H:Heap),k+j=of→i=k→Fr H →
 H.get ⟨0,4,0,0⟩=some ⟨4,[d.val],false,false⟩→H.get ⟨0,8,0,0⟩=some ⟨24,[nM.val aNil],false,false⟩→H.get ⟨0,12,0,0⟩=some ⟨4,[hd.val],false,false⟩ →
 vp [70] 1 (lS (gG d (area * 2048+at') k)) H x14 →
 GoL env Tryz.f74 0 lA [(53,aI i),(14,x14),(2,aI at'),(1,aI area),(4,.ptr ⟨0,4,0,0⟩ 0 0),(8,.ptr ⟨0,8,0,0⟩ 0 0),(12,.ptr ⟨0,12,0,0⟩ 0 0),(52,aI of)] H Q:=by
 have e1:=IntWalk.i64_in (area * 2048) (by omega)
 have e2:=IntWalk.i64_in (area * 2048+at') (by omega)
 intro j
 induction j with
 | zero =>
  rintro k i x14 H hk rfl hF h4 h8 h12 hO
  obtain rfl:k=of:=by omega
  have hg:=Lx (l:=gG d (area * 2048+at') k) (by rw[rJ];exact hof.2.1) (HT hm _ _)
  have hlen:(lS (gG d (area * 2048+at') k)).length=k:=by rw[ym,rJ]
  unfold Kg at hg
  refine rW _ _ _ _ _ _ _ _ _ _ fun g=>?_
  generalize gG d (area * 2048+at') k=B at *
  clear hf hm
  rcases hO with ⟨rfl,hz⟩ | ⟨t,gg,ht',rfl,hrr⟩
  ·rw[hz]at hlen;simp at hlen;omega
  rw[List.mem_singleton]at ht'
  subst ht'
  unfold Hd.val at h12
  unfold Rcd.val nM jx at h8
  have l8:(H.get ⟨0,8,0,0⟩).isSome=true:=by rw[h8];rfl
  generalize lS B=BV at *
  cases hgr:getR B with
  | none =>
   rw[hgr]at hg hQ
   simp only[Cg]at hQ hg
   unfold badG at hg
   unfold Rcd.val Hd.val nM jx at *
   clear hgr
   simp[af,ah,ad,ae,aa, *,iX,Heap.aj]
  | some q =>
   obtain⟨r,h⟩:=q
   rw[hgr]at hg hQ
   simp only[Cg]at hQ hg
   clear hgr
   have hrr2:=(mi r.op.l).r
   unfold Rcd.val Hd.val at *
   generalize hro:runG r.op.l=ro at *
   have hcase:ro=aNil ∨∃c,ro = .isl 1 (rows r.op.l) c:=by
    rw[←hro]
    rcases mi r.op.l with ⟨h,_⟩ | ⟨c,h,_⟩
    ·exact .inl h
    ·exact .inr ⟨c,h⟩
   clear hro
   rcases hcase with rfl | ⟨c,rfl⟩
   ·simp[af,ah,ad,ae,aa, *,iX,Heap.aj]
   ·simp[af,ah,ad,ae,aa, *,iX,Heap.aj]
 | succ j ih =>
  rintro k i x14 H hk rfl hF h4 h8 h12 hO
  have hq:0≤area * 2048+at'+k∧area * 2048+at'+k<6146:=by omega
  have e3:=IntWalk.i64_in (area * 2048+at'+k) (by omega)
  have e5:=IntWalk.i64_in ((k:Int)+1) (by omega)
  have hr:=s_Rd hf hm hq
  have hlen:(lS (gG d (area * 2048+at') k)).length=k:=by rw[ym,rJ]
  have hlt:k<of:=by omega
  have hih:=fun x14' H'=>ih (k+1) ((k:Int)+1) x14' H' (by omega) (by simp)
  rw[Fl,←Af]at hih
  clear ih hQ
  have hsl:=hf.sl.r
  generalize d.rd (area * 2048+at'+k)=b at *
  have hbr:=(Sl.mk 1 (by8 b)).r
  refine rW _ _ _ _ _ _ _ _ _ _ fun g=>?_
  generalize lS (gG d (area * 2048+at') k)=BV at *
  clear hf hm
  obtain⟨l,x,st,lf,dd⟩:=d
  simp only[Dk.val,dsk]at *
  have l4:(H.get ⟨0,4,0,0⟩).isSome=true:=by rw[h4];rfl
  rcases hO with ⟨rfl,rfl⟩ | ⟨t,gg,ht',rfl,hrr⟩
  ·clear hlen
   simp[af,ah,ad,ae,aa, *,iX]
   exact hih _ _ (by simp(maxDischargeDepth:=12) [Heap.aj,aD,ar,Fr.nil,aP,af,ah,ad,ae,aF,aq,aa, *]) (by simp(maxDischargeDepth:=12) [Heap.aj,aD,ar,Fr.nil,aP,af,ah,ad,ae,aF,aq,aa, *]) (by simp(maxDischargeDepth:=12) [Heap.aj,aD,ar,Fr.nil,aP,af,ah,ad,ae,aF,aq,aa, *]) (by simp(maxDischargeDepth:=12) [Heap.aj,aD,ar,Fr.nil,aP,af,ah,ad,ae,aF,aq,aa, *]) (.inr ⟨70,H.gen 0 70,by simp,by simp,by simp⟩)
  ·rw[List.mem_singleton]at ht'
   subst ht'
   have l6:(H.get ⟨0,70,gg,0⟩).isSome=true:=by rw[hrr];rfl
   have f4:oD 1 24 BV.length true none (some ⟨1,BV,true,false⟩) (some [.isl 1 (by8 b) none]):=by
    simp;omega
   clear hlen
   simp[af,ah,ad,ae,aa, *,iX]
   exact hih _ _ (by simp(maxDischargeDepth:=12) [Heap.aj,aD,ar,Fr.nil,aP,af,ah,ad,ae,aF,aq,aa, *]) (by simp(maxDischargeDepth:=12) [Heap.aj,aD,ar,Fr.nil,aP,af,ah,ad,ae,aF,aq,aa, *]) (by simp(maxDischargeDepth:=12) [Heap.aj,aD,ar,Fr.nil,aP,af,ah,ad,ae,aF,aq,aa, *]) (by simp(maxDischargeDepth:=12) [Heap.aj,aD,ar,Fr.nil,aP,af,ah,ad,ae,aF,aq,aa, *]) (.inr ⟨70,H.gen 0 70,by simp,by simp,by simp⟩)
end
theorem PV{b:List UInt8}(h:kD b=true):1≤(hdOf b).of∧(hdOf b).of≤4:=by
 unfold kD kZ at h
 simp at h
 omega
section
variable{d:Dk}(hf:d.Fit)(hm:d.may=true){area:Int}(ha:0≤area∧area≤2)
include hf hm ha
theorem OM{at':Int}(ht:0≤at')(nu:Int):limf env 74 [d.val,aI area,aI at',aI nu]=some (rU (gp d (area * 2048+at') at' nu)):=by
 refine aH (fn:=Tryz.f74) (c:=re) rfl (by kernel_rfl) (by kernel_rfl) (by kernel_rfl) (by kernel_rfl) ?_;refine Cn _ _ _ _ _ _ fun g=>?_
 have hxv:=hf.sl.r
 unfold gp
 by_cases h1:2048≤at'
 ·rw[if_pos h1]
  clear hm hf
  obtain⟨l,y,st,lf,dd⟩:=d
  simp only[Dk.val,dsk]at hxv ⊢
  unfold rU Rcd.val nM jx
  simp[af,ah,ad,ae,aa, *,j9,Heap.aj]
 rw[if_neg h1]
 have hq:0≤area * 2048+at'∧area * 2048+at'<6146:=by omega
 have e1:=IntWalk.i64_in (area * 2048) (by omega)
 have e2:=IntWalk.i64_in (area * 2048+at') (by omega)
 have hr:=s_Rd hf hm hq
 generalize hb:d.rd (area * 2048+at')=b at *
 have hh:=xl (x := .isl 1 (by8 b) none) (b:=b) (Sl.mk _ _)
 have hbr:=(Sl.mk 1 (by8 b)).r
 cases ho:kD b with
 | false =>
  rw[ho,if_neg (by decide)]at hh
  simp only[Bool.false_and,Bool.false_eq_true,if_false]
  clear hm hf
  obtain⟨l,y,st,lf,dd⟩:=d
  simp only[Dk.val,dsk,Hd.val]at hxv hh hr ⊢
  unfold rU Rcd.val nM jx
  simp[af,ah,ad,ae,aa, *,j9,Heap.aj]
 | true =>
  rw[ho,if_pos rfl]at hh
  have hof:=PV ho
  have e3:=IntWalk.i64_in (at'+(hdOf b).of) (by omega)
  simp only[Bool.true_and]
  by_cases h2:(hdOf b).nu=nu∧at'+(hdOf b).of≤2048
  ·have hc:(decide ((hdOf b).nu=nu)&&decide (at'+(hdOf b).of≤2048))=true:=by simp[h2]
   rw[if_pos hc]
   obtain⟨of,hofe⟩:=Int.eq_ofNat_of_zero_le (show 0≤(hdOf b).of by omega)
   rw[hofe]
   have hloop:=fun H=>GD hf hm ha ht (of:=of) ⟨by omega,by omega,by omega⟩ (hd:=hdOf b) hofe (Q:=fun v H=>ia env 74 v H (rU ((getR (gG d (area * 2048+at') (Int.toNat (of:Int)))).map fun q=>(q.1,Int.toNat (of:Int))))) (fun H'=>by
    rw[show Int.toNat (of:Int)=of from rfl]
    cases getR (gG d (area * 2048+at') of) with
    | none=>unfold Cg rU Rcd.val nM jx;simp
    | some q =>
     obtain⟨r,h⟩:=q
     have hrr:=(mi r.op.l).r
     simp only[Cg,rU,Option.map_some]
     unfold Rcd.val
     simp[hrr]) of 0 0 aNil H (by omega) rfl
   have hnu:=h2.1
   have r2 : ¬(2048:Int)<at'+(of:Int):=by omega
   clear hm hf hb hc
   generalize rU _=W at *
   obtain⟨l,y,st,lf,dd⟩:=d
   simp only[Dk.val,dsk]at hxv hr hloop ⊢
   unfold Rcd.val nM jx at hloop
   generalize hdOf b=hd at *
   obtain⟨h_1,h_2,h_3,h_4⟩:=hd
   simp only at hofe hnu h2
   subst hofe hnu
   simp only[Hd.val]at hh hloop
   simp[af,ah,ad,ae,aa, *,j9,Heap.aj]
   exact hloop _ (by simp(maxDischargeDepth:=12) [Heap.aj,aD,ar,Fr.nil,aP,af,ah,ad,ae,aF,aq,aa, *]) (by simp(maxDischargeDepth:=12) [Heap.aj,aD,ar,Fr.nil,aP,af,ah,ad,ae,aF,aq,aa, *]) (by simp(maxDischargeDepth:=12) [Heap.aj,aD,ar,Fr.nil,aP,af,ah,ad,ae,aF,aq,aa, *]) (by simp(maxDischargeDepth:=12) [Heap.aj,aD,ar,Fr.nil,aP,af,ah,ad,ae,aF,aq,aa, *]) (.inl ⟨rfl,rfl⟩)
  ·have hc:(decide ((hdOf b).nu=nu)&&decide (at'+(hdOf b).of≤2048))=false:=by
    simp only[Bool.and_eq_false_iff,decide_eq_false_iff_not]
    omega
   rw[hc]
   simp only[Bool.false_eq_true,if_false]
   clear hm hf hb
   obtain⟨l,y,st,lf,dd⟩:=d
   simp only[Dk.val,dsk,Hd.val]at hxv hh hr ⊢
   unfold rU Rcd.val nM jx
   by_cases h3:(hdOf b).nu=nu
   ·have h4:(2048:Int)<at'+(hdOf b).of:=by omega
    simp[af,ah,ad,ae,aa, *,j9,Heap.aj]
   ·simp[af,ah,ad,ae,aa, *,j9,Heap.aj]
end
end Go.Proofs.YtiidajnodhkidaaGreat
