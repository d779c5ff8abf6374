/-
  Records of a disk: all that are there. No statement of a seat is proved here.
-/
import Derived.Test.YtiidajnodhkidaaGreatLogSame
set_option linter.unusedVariables false
set_option linter.unusedSimpArgs false
set_option linter.unusedSectionVars false
set_option linter.unnecessarySimpa false
set_option maxRecDepth 100000
namespace Go.Proofs.YtiidajnodhkidaaGreat
open Go.Ab
attribute [local simp] ct bK bO bN keep thr cC bD bP eE eD cN cB aV dk List.take_of_length_le
def fu(d:Dk)(p nu most:Int):Nat→Int→Nat→List Rcd × Int
 | 0,at',_=>([],at')
 | m+1,at',n=>if (n:Int)<most then (match gp d (p+at') at' (nu+n+1) with
  | some (r,k)=>(r :: (fu d p nu most m (at'+k) (n+1)).1,(fu d p nu most m (at'+k) (n+1)).2)
  | none=>([],at')) else ([],at')
def runR(l:List Rcd):List (Rcd × AV):=l.map fun r=>(r,runG r.op.l)
@[simp] theorem nT(l:List Rcd):(runR l).length=l.length:=by simp[runR]
@[simp] theorem nS(l:List Rcd):rcs (runR l)=l:=by simp[rcs,runR,Function.comp_def]
theorem qv{d:Dk}{p at' nu:Int}{r:Rcd}{k:Nat}(h:gp d p at' nu=some (r,k)):1≤k∧k≤4∧at'+k≤2048∧r.op.l.length<1000000:=by
 unfold gp at h
 split at h
 ·cases h
 ·split at h
  ·rename_i h1 h2
   simp only[Bool.and_eq_true,decide_eq_true_eq]at h2
   have hof:=PV h2.1
   cases hg:getR (gG d p (hdOf (d.rd p)).of.toNat) with
   | none=>rw[hg]at h;cases h
   | some q =>
    rw[hg]at h
    simp only[Option.map_some,Option.some.injEq,Prod.mk.injEq]at h
    obtain⟨h3,h4⟩:=h
    have:q.1.op.l.length≤64:=by
     unfold getR at hg
     split at hg
     ·cases hg;exact uZ _
     ·cases hg
    rw[←h3]
    omega
  ·cases h
section
variable{d:Dk}(hf:d.Fit)(hm:d.may=true){area nu most:Int}(ha:0≤area∧area≤2)(hn:0≤nu∧nu≤16777215)(hmo:0≤most∧most≤16777215)
include hf hm ha hn hmo
theorem IE{Q:AV→Heap→Prop} : ∀(m:Nat)(at':Int)(acc:List (Rcd × AV)) (x8:AV) (H:Heap),0≤at'→at'≤2048→2049≤at'+m→(acc.length:Int)≤at'→Fr H →
 H.get ⟨0,4,0,0⟩=some ⟨4,[d.val],false,false⟩→vp [53] 24 (bG acc) H x8→(acc=[]→x8=aNil) →
 (∀y H',vp [53] 24 (bG (acc++runR (fu d (area * 2048) nu most m at' acc.length).1)) H' y→(acc++runR (fu d (area * 2048) nu most m at' acc.length).1=[]→y=aNil)→Q (.tup [y,aI (fu d (area * 2048) nu most m at' acc.length).2,aI 0]) H') →
 GoL env Tryz.f47 0 mL [(9,aI at'),(8,x8),(2,aI nu),(1,aI area),(4,.ptr ⟨0,4,0,0⟩ 0 0),(3,aI most)] H Q:=by
 intro m
 induction m with
 | zero=>rintro at' acc x8 H h0 h1 h2;omega
 | succ m ih =>
  rintro at' acc x8 H h0 h1 h2 hal hF h4 hO hN hQ
  have e1:=IntWalk.i64_in (nu+acc.length) (by omega)
  have e2:=IntWalk.i64_in (nu+acc.length+1) (by omega)
  have hw:=OM hf hm ha h0 (nu+acc.length+1)
  have hlen:(bG acc).length=acc.length:=gD acc
  unfold fu at hQ
  refine AI _ _ _ _ _ _ _ _ fun g=>?_
  have hxv:=hf.sl.r
  by_cases hlt:(acc.length:Int)<most
  ·rw[if_pos hlt]at hQ
   cases hwr:gp d (area * 2048+at') at' (nu+acc.length+1) with
   | none =>
    rw[hwr]at hw hQ
    have hQ':=fun H' h=>hQ x8 H' (by simpa [runR] using h) (by simpa [runR] using hN)
    simp only at hQ'
    clear hQ ih hwr hm hf hN
    obtain⟨l,y,st,lf,dd⟩:=d
    simp only[Dk.val,dsk]at *
    have l4:(H.get ⟨0,4,0,0⟩).isSome=true:=by rw[h4];rfl
    unfold rU Rcd.val nM jx at hw
    rcases hO with ⟨rfl,hz⟩ | ⟨t,gg,ht',rfl,hrr⟩
    ·have:acc=[]:=by simpa [bG] using hz
     subst this
     have hlt':0<most:=hlt
     simp only[List.length_nil,Int.natCast_zero,Int.add_zero]at hw e1 e2
     simp[af,ah,ad,ae,aa, *,fT]
     all_goals exact hQ' _ (.inl ⟨rfl,rfl⟩)
    ·rw[List.mem_singleton]at ht'
     subst ht'
     simp only[hlen]at hQ' ⊢
     have l6:(H.get ⟨0,53,gg,0⟩).isSome=true:=by rw[hrr];rfl
     simp[af,ah,ad,ae,aa, *,fT]
     all_goals exact hQ' _ (.inr ⟨53,gg,by simp,by rw[hlen],by simp(maxDischargeDepth:=12) [Heap.aj,aD,ar,Fr.nil,aP,af,ah,ad,ae,aF,aq,aa, *]⟩)
   | some q =>
    obtain⟨r,k⟩:=q
    have hle:=qv hwr
    rw[hwr]at hw hQ
    simp only at hQ
    have e3:=IntWalk.i64_in (at'+k) (by omega)
    have hk0 : ¬k=0:=by omega
    have hih:=fun x8' H'=>ih (at'+k) (acc++[(r,runG r.op.l)]) x8' H' (by omega) (by omega) (by omega) (by simp;omega)
    have hrr2:=(mi r.op.l).r
    have hcase:runG r.op.l=aNil ∨∃c,runG r.op.l = .isl 1 (rows r.op.l) c:=by
     rcases mi r.op.l with ⟨h,_⟩ | ⟨c,h,_⟩
     ·exact .inl h
     ·exact .inr ⟨c,h⟩
    have hQ' : ∀y H',vp [53] 24 (bG ((acc++[(r,runG r.op.l)])++runR (fu d (area * 2048) nu most m (at'+k) (acc++[(r,runG r.op.l)]).length).1)) H' y→((acc++[(r,runG r.op.l)])++runR (fu d (area * 2048) nu most m (at'+k) (acc++[(r,runG r.op.l)]).length).1=[]→y=aNil)→Q (.tup [y,aI (fu d (area * 2048) nu most m (at'+k) (acc++[(r,runG r.op.l)]).length).2,aI 0]) H':=by
     intro y H' h hn
     rw[List.length_append,List.length_singleton]at h ⊢
     exact hQ y H' (by simpa [runR] using h) (fun e=>by simp[runR]at e)
    have hih:=fun x8' H' a1 a2 a3=>hih x8' H' a1 a2 a3 (fun e=>by simp at e) hQ'
    have hst : ∀(g m:Nat)(H':Heap),m=acc.length+1→H'.get ⟨0,53,g,0⟩=some ⟨24,bG acc++[r.val (runG r.op.l)],true,false⟩→vp [53] 24 (bG (acc++[(r,runG r.op.l)])) H' (.osl ⟨0,53,g,0⟩ 0 m none):=by
     intro g m H' hm h
     subst hm
     exact .inr ⟨53,g,by simp,by simp,by rw[h];simp[bG]⟩
    clear ih hQ hQ' hwr hm hf hN
    unfold rU at hw
    unfold Rcd.val at hw hst
    obtain⟨l,y,st,lf,dd⟩:=d
    simp only[Dk.val,dsk]at *
    have l4:(H.get ⟨0,4,0,0⟩).isSome=true:=by rw[h4];rfl
    generalize runG r.op.l=ro at *
    have hmx:acc.length+1≤2049:=by omega
    rcases hO with ⟨rfl,hz⟩ | ⟨t,gg,ht',rfl,hrr⟩
    ·have:acc=[]:=by simpa [bG] using hz
     subst this
     have hst':=fun H'=>hst (H.gen 0 53) 1 H' rfl
     clear hst hlen
     have hlt':0<most:=hlt
     simp only[List.length_nil,Int.natCast_zero,Int.add_zero]at hw e1 e2
     rcases hcase with rfl | ⟨c,rfl⟩
     ·clear hrr2
      simp[af,ah,ad,ae,aa, *,fT]
      exact hih _ _ (by simp(maxDischargeDepth:=12) [Heap.aj,aD,ar,Fr.nil,aP,af,ah,ad,ae,aF,aq,aa, *]) (by simp(maxDischargeDepth:=12) [Heap.aj,aD,ar,Fr.nil,aP,af,ah,ad,ae,aF,aq,aa, *]) (hst' _ (by simp(maxDischargeDepth:=12) [Heap.aj,aD,ar,Fr.nil,aP,af,ah,ad,ae,aF,aq,aa, *]))
     ·simp[af,ah,ad,ae,aa, *,fT]
      exact hih _ _ (by simp(maxDischargeDepth:=12) [Heap.aj,aD,ar,Fr.nil,aP,af,ah,ad,ae,aF,aq,aa, *]) (by simp(maxDischargeDepth:=12) [Heap.aj,aD,ar,Fr.nil,aP,af,ah,ad,ae,aF,aq,aa, *]) (hst' _ (by simp(maxDischargeDepth:=12) [Heap.aj,aD,ar,Fr.nil,aP,af,ah,ad,ae,aF,aq,aa, *]))
    ·rw[List.mem_singleton]at ht'
     subst ht'
     simp only[hlen]at hrr ⊢
     have l6:(H.get ⟨0,53,gg,0⟩).isSome=true:=by rw[hrr];rfl
     have hst':=fun H'=>hst (H.gen 0 53) (acc.length+1) H' rfl
     clear hst
     have f4 : ∀x:AV,oD 24 160 acc.length true none (some ⟨24,bG acc,true,false⟩) (some [x]):=by
      intro x
      simp;omega
     rcases hcase with rfl | ⟨c,rfl⟩
     ·clear hrr2
      simp[af,ah,ad,ae,aa, *,fT]
      exact hih _ _ (by simp(maxDischargeDepth:=12) [Heap.aj,aD,ar,Fr.nil,aP,af,ah,ad,ae,aF,aq,aa, *]) (by simp(maxDischargeDepth:=12) [Heap.aj,aD,ar,Fr.nil,aP,af,ah,ad,ae,aF,aq,aa, *]) (hst' _ (by simp(maxDischargeDepth:=12) [Heap.aj,aD,ar,Fr.nil,aP,af,ah,ad,ae,aF,aq,aa, *]))
     ·simp[af,ah,ad,ae,aa, *,fT]
      exact hih _ _ (by simp(maxDischargeDepth:=12) [Heap.aj,aD,ar,Fr.nil,aP,af,ah,ad,ae,aF,aq,aa, *]) (by simp(maxDischargeDepth:=12) [Heap.aj,aD,ar,Fr.nil,aP,af,ah,ad,ae,aF,aq,aa, *]) (hst' _ (by simp(maxDischargeDepth:=12) [Heap.aj,aD,ar,Fr.nil,aP,af,ah,ad,ae,aF,aq,aa, *]))
  ·rw[if_neg hlt]at hQ
   have hQ':=fun H' h=>hQ x8 H' (by simpa [runR] using h) (by simpa [runR] using hN)
   simp only at hQ'
   clear hQ ih hm hf hw hN
   rcases hO with ⟨rfl,hz⟩ | ⟨t,gg,ht',rfl,hrr⟩
   ·have:acc=[]:=by simpa [bG] using hz
    subst this
    have hlt' : ¬0<most:=hlt
    simp[af,ah,ad,ae,aa, *,fT]
    all_goals exact hQ' _ (.inl ⟨rfl,rfl⟩)
   ·rw[List.mem_singleton]at ht'
    subst ht'
    simp only[hlen]at hQ' ⊢
    simp[af,ah,ad,ae,aa, *,fT]
    all_goals exact hQ' _ (.inr ⟨53,gg,by simp,by rw[hlen],hrr⟩)
theorem IW:limf env 47 [d.val,aI area,aI nu,aI most]=some (.tup [outI 24 (bG (runR (fu d (area * 2048) nu most 2049 0 0).1)),aI (fu d (area * 2048) nu most 2049 0 0).2,aI 0]):=by
 refine aH (fn:=Tryz.f47) (c:=te) rfl (by kernel_rfl) (by kernel_rfl) (by kernel_rfl) (by kernel_rfl) ?_;refine DZ _ _ _ _ _ _ fun g=>?_
 have hc:=wJ hf
 rw[hm]at hc
 have f1:=CI area 2
 have f2:=CI nu 16777215
 have f3:=CI most 16777215
 rw[decide_eq_true ha.1,decide_eq_true ha.2]at f1
 rw[decide_eq_true hn.1,decide_eq_true hn.2]at f2
 rw[decide_eq_true hmo.1,decide_eq_true hmo.2]at f3
 have hlo:=IE hf hm ha hn hmo (Q:=fun v H=>ia env 47 v H (.tup [outI 24 (bG (runR (fu d (area * 2048) nu most 2049 0 0).1)),aI (fu d (area * 2048) nu most 2049 0 0).2,aI 0])) 2049 0 [] aNil
 have hQ : ∀(y:AV)(H':Heap),vp [53] 24 (bG (([]:List (Rcd × AV))++runR (fu d (area * 2048) nu most 2049 0 ([]:List (Rcd × AV)).length).1)) H' y→([]++runR (fu d (area * 2048) nu most 2049 0 ([]:List (Rcd × AV)).length).1=[]→y=aNil) →
  ia env 47 (.tup [y,aI (fu d (area * 2048) nu most 2049 0 ([]:List (Rcd × AV)).length).2,aI 0]) H' (.tup [outI 24 (bG (runR (fu d (area * 2048) nu most 2049 0 0).1)),aI (fu d (area * 2048) nu most 2049 0 0).2,aI 0]):=by
  intro y H' h hn
  rw[List.length_nil]at h hn ⊢
  rw[List.nil_append]at h hn
  generalize fu d (area * 2048) nu most 2049 0 0=q at *
  rcases h with ⟨rfl,hz⟩ | ⟨t,gg,ht',rfl,hrr⟩
  ·rw[hz];simp[outI]
  ·by_cases he:bG (runR q.1)=[]
   ·cases hn (by simpa [bG] using he)
   ·rw[Bb 24 he]
    simp[hrr]
 have hxv:=hf.sl.r
 have hlo2:=fun H a1 a2 a3=>hlo H (by omega) (by omega) (by omega) (by simp) a1 a2 a3 (fun _=>rfl) hQ
 clear hm hf hQ hlo
 generalize fu d (area * 2048) nu most 2049 0 0=q at *
 obtain⟨l,y,st,lf,dd⟩:=d
 simp only[Dk.val,dsk]at *
 simp[af,ah,ad,ae,aa, *,yB]
 exact hlo2 _ (by simp(maxDischargeDepth:=12) [Heap.aj,aD,ar,Fr.nil,aP,af,ah,ad,ae,aF,aq,aa, *]) (by simp(maxDischargeDepth:=12) [Heap.aj,aD,ar,Fr.nil,aP,af,ah,ad,ae,aF,aq,aa, *]) (.inl ⟨rfl,rfl⟩)
end
end Go.Proofs.YtiidajnodhkidaaGreat
