/-
  Labels, handles, ids, spans, runes: what the functions answer. No statement of a seat is proved here.
-/
import Derived.Test.YtmkmimgokagimaaGreatLeVc1
import Derived.Test.YtmkmimgokagimaaGreatMLePol
set_option linter.unusedVariables false
set_option linter.unusedSimpArgs false
set_option linter.unusedSectionVars false
set_option linter.unnecessarySimpa false
set_option maxRecDepth 100000
namespace Go.Proofs.YtmkmimgokagimaaGreat
open Go.Ab
attribute [local simp] bn aV aF bj bh keep thr bD aX bc dx dw cN bE aD ct List.take_of_length_le
@[simp] theorem Ip(a:UInt8)(b:UInt32):limf env 76 [.agg [a8 a,a32 b]]=some (aI (bad (decide (a≤15)))):=by
 refine az (fn:=Tryz.f76) (c:=nv) rfl (by kernel_rfl) (by kernel_rfl) (by kernel_rfl) (by kernel_rfl) ?_;refine qG _ _ _ fun g=>?_
 simp[af,ah,ad,ae,ab, *,nB]
 repeat' ((first | refine mM (fun h=>?_) (fun h=>?_) | refine kD (fun h=>?_) (fun h=>?_) | refine kE (fun h=>?_) (fun h=>?_) | refine kB (fun h=>?_) (fun h=>?_) | refine kC (fun h=>?_) (fun h=>?_))<;>(try simp only[decide_eq_true_eq,decide_eq_false_iff_not,Bool.not_eq_true',Bool.not_eq_false',Bool.and_eq_true,Bool.or_eq_true]at h)<;>(try simp[af,ah,ad,ae,ab, *]))
 all_goals (try grind [bad])
@[simp] theorem Sn(b:Bool):limf env 159 [aB b]=some (aI (bad b)):=by
 refine az (fn:=Tryz.f159) (c:=ui) rfl (by kernel_rfl) (by kernel_rfl) (by kernel_rfl) (by kernel_rfl) ?_;refine Ar _ _ _ fun g=>?_
 cases b<;>simp[af,ah,ad,ae,ab, *,ur,bad]
@[simp] theorem zi(a:UInt8)(b:UInt32)(n:UInt8):limf env 91 [.agg [a8 a,a32 b,a8 n]]=some (aI (bad (ma ⟨a,b,n⟩))):=by
 refine az (fn:=Tryz.f91) (c:=m5) rfl (by kernel_rfl) (by kernel_rfl) (by kernel_rfl) (by kernel_rfl) ?_;refine rO _ _ _ fun g=>?_
 simp[af,ah,ad,ae,ab, *,m7,ma]
 repeat' ((first | refine mM (fun h=>?_) (fun h=>?_) | refine kD (fun h=>?_) (fun h=>?_) | refine kE (fun h=>?_) (fun h=>?_) | refine kB (fun h=>?_) (fun h=>?_) | refine kC (fun h=>?_) (fun h=>?_))<;>(try simp only[decide_eq_true_eq,decide_eq_false_iff_not,Bool.not_eq_true',Bool.not_eq_false',Bool.and_eq_true,Bool.or_eq_true]at h)<;>(try simp[af,ah,ad,ae,ab, *]))
@[simp] theorem QL(a:UInt8)(b:UInt32)(n:UInt8)(k:Int):limf env 182 [.agg [a8 a,a32 b,a8 n,aI k]]=some (aI (bad (idB ⟨⟨a,b,n⟩,k⟩))):=by
 refine az (fn:=Tryz.f182) (c:=uj) rfl (by kernel_rfl) (by kernel_rfl) (by kernel_rfl) (by kernel_rfl) ?_;refine As _ _ _ fun g=>?_
 simp[af,ah,ad,ae,ab, *,uv,idB]
 repeat' ((first | refine mM (fun h=>?_) (fun h=>?_) | refine kD (fun h=>?_) (fun h=>?_) | refine kE (fun h=>?_) (fun h=>?_) | refine kB (fun h=>?_) (fun h=>?_) | refine kC (fun h=>?_) (fun h=>?_))<;>(try simp only[decide_eq_true_eq,decide_eq_false_iff_not,Bool.not_eq_true',Bool.not_eq_false',Bool.and_eq_true,Bool.or_eq_true]at h)<;>(try simp[af,ah,ad,ae,ab, *]))
@[simp] theorem Lb(a:UInt8)(b:UInt32)(n:UInt8)(k m:Int):limf env 135 [.agg [a8 a,a32 b,a8 n,aI k,aI m]]=some (aI (bad (ke ⟨⟨⟨a,b,n⟩,k⟩,m⟩))):=by
 refine az (fn:=Tryz.f135) (c:=pb) rfl (by kernel_rfl) (by kernel_rfl) (by kernel_rfl) (by kernel_rfl) ?_;refine uH _ _ _ fun g=>?_
 cases hb:idB ⟨⟨a,b,n⟩,k⟩ with
 | false=>simp[af,ah,ad,ae,ab, *,gV,ke]
 | true =>
  have hn:=GQ hb
  simp only at hn
  by_cases h1:1≤m
  ·by_cases h2:m≤64
   ·have w1:=IntWalk.i64_in (k+m) (by omega)
    have w2:=IntWalk.i64_in (k+m - 1) (by omega)
    simp[af,ah,ad,ae,ab, *,gV,ke]
   ·simp[af,ah,ad,ae,ab, *,gV,ke]
  ·simp[af,ah,ad,ae,ab, *,gV,ke]
@[simp] theorem TC(a:UInt8)(b:UInt32)(n:UInt8)(k m:Int):limf env 239 [.agg [a8 a,a32 b,a8 n,aI k],aI m]=some (.agg [a8 a,a32 b,a8 n,aI (IntKind.i64.wrap (k+m))]):=by
 refine az (fn:=Tryz.f239) (c:=wY) rfl (by kernel_rfl) (by kernel_rfl) (by kernel_rfl) (by kernel_rfl) ?_;refine BG _ _ _ _ fun g=>?_
 simp[af,ah,ad,ae,ab, *,w9]
def atE(s:Spn)(m:Int):Int:=if ke s then (if m<0∨s.many≤m then 2 else 0) else 8
@[simp] theorem Sq(a:UInt8)(b:UInt32)(n:UInt8)(k m j:Int):limf env 228 [.agg [a8 a,a32 b,a8 n,aI k,aI m],aI j] =
 some (if atE ⟨⟨⟨a,b,n⟩,k⟩,m⟩ j=0 then .tup [.agg [a8 a,a32 b,a8 n,aI (k+j)],aI 0] else .tup [.agg [a8 0,a32 0,a8 0,aI 0],aI (atE ⟨⟨⟨a,b,n⟩,k⟩,m⟩ j)]):=by
 refine az (fn:=Tryz.f228) (c:=Bs) rfl (by kernel_rfl) (by kernel_rfl) (by kernel_rfl) (by kernel_rfl) ?_;refine Fc _ _ _ _ fun g=>?_
 cases hb:ke ⟨⟨⟨a,b,n⟩,k⟩,m⟩ with
 | false=>simp[af,ah,ad,ae,ab, *,qa,atE]
 | true =>
  have hn:=k6 hb
  simp only at hn
  by_cases h1:j<0
  ·simp[af,ah,ad,ae,ab, *,qa,atE]
  ·by_cases h2:m≤j
   ·simp[af,ah,ad,ae,ab, *,qa,atE]
   ·have w1:=IntWalk.i64_in (k+j) (by omega)
    simp[af,ah,ad,ae,ab, *,qa,atE]
end Go.Proofs.YtmkmimgokagimaaGreat
namespace Go.Proofs.YtmkmimgokagimaaGreat
open Go.Ab
attribute [local simp] bn aV aF bj bh keep thr bD aX bc dx dw cN bE aD ct List.take_of_length_le
@[simp] theorem Od(n:Int)(h0:0≤n):limf env 207 [aI n,aI 4]=some (.isl 1 (by8 (be 4 n)) none):=by
 refine az (fn:=Tryz.f207) (c:=mc) rfl (by kernel_rfl) (by kernel_rfl) (by kernel_rfl) (by kernel_rfl) ?_;refine rN _ _ _ _ fun g=>?_
 have w5:IntKind.i64.wrap (-1) = -1:=rfl
 have w4:IntKind.i64.wrap 0=0:=rfl
 simp[af,ah,ad,ae,ab, *,oT]
 refine cg _ _ _ _ _ fun g=>?_
 simp[af,ah,ad,ae,ab, *,bR,eU,dL]
 refine cg _ _ _ _ _ fun g=>?_
 simp[af,ah,ad,ae,ab, *,bR,eU,dL]
 refine cg _ _ _ _ _ fun g=>?_
 simp[af,ah,ad,ae,ab, *,bR,eU,dL]
 refine cg _ _ _ _ _ fun g=>?_
 simp[af,ah,ad,ae,ab, *,bR,eU,dL]
 refine cg _ _ _ _ _ fun g=>?_
 simp[af,ah,ad,ae,ab, *,bR,be_4,by8]
@[simp] theorem FC(n:Int)(h0:0≤n):limf env 207 [aI n,aI 7]=some (.isl 1 (by8 (be 7 n)) none):=by
 refine az (fn:=Tryz.f207) (c:=mc) rfl (by kernel_rfl) (by kernel_rfl) (by kernel_rfl) (by kernel_rfl) ?_;refine rN _ _ _ _ fun g=>?_
 have w5:IntKind.i64.wrap (-1) = -1:=rfl
 have w4:IntKind.i64.wrap 0=0:=rfl
 simp[af,ah,ad,ae,ab, *,oT]
 refine cg _ _ _ _ _ fun g=>?_
 simp[af,ah,ad,ae,ab, *,bR,eU,dL]
 refine cg _ _ _ _ _ fun g=>?_
 simp[af,ah,ad,ae,ab, *,bR,eU,dL]
 refine cg _ _ _ _ _ fun g=>?_
 simp[af,ah,ad,ae,ab, *,bR,eU,dL]
 refine cg _ _ _ _ _ fun g=>?_
 simp[af,ah,ad,ae,ab, *,bR,eU,dL]
 refine cg _ _ _ _ _ fun g=>?_
 simp[af,ah,ad,ae,ab, *,bR,eU,dL]
 refine cg _ _ _ _ _ fun g=>?_
 simp[af,ah,ad,ae,ab, *,bR,eU,dL]
 refine cg _ _ _ _ _ fun g=>?_
 simp[af,ah,ad,ae,ab, *,bR,eU,dL]
 refine cg _ _ _ _ _ fun g=>?_
 simp[af,ah,ad,ae,ab, *,bR,be_7,by8]
def gD(h:Han):List UInt8:=h.lv :: (be 4 h.cats.toNat++[h.num])
@[simp] theorem Nh(h:Han):(gD h).length=6:=by simp[gD]
@[simp] theorem BR(a:UInt8)(b:UInt32)(n:UInt8):limf env 162 [.agg [a8 a,a32 b,a8 n]]=some (if ma ⟨a,b,n⟩ then .tup [.fsl 1 (by8 (gD ⟨a,b,n⟩)) none,aI 0] else .tup [aNil,aI 8]):=by
 refine az (fn:=Tryz.f162) (c:=pa) rfl (by kernel_rfl) (by kernel_rfl) (by kernel_rfl) (by kernel_rfl) ?_;refine uG _ _ _ fun g=>?_
 cases h:ma ⟨a,b,n⟩ with
 | true=>simp[af,ah,ad,ae,ab, *,lX,bad,by8,gD]
 | false=>simp[af,ah,ad,ae,ab, *,lX,bad]
def iy(i:Idd):List UInt8:=gD i.h++be 7 i.n
@[simp] theorem Ng(i:Idd):(iy i).length=13:=by simp[iy]
@[simp] theorem TH(a:UInt8)(b:UInt32)(n:UInt8)(k:Int):limf env 208 [.agg [a8 a,a32 b,a8 n,aI k]]=some (if idB ⟨⟨a,b,n⟩,k⟩ then .tup [.isl 1 (by8 (iy ⟨⟨a,b,n⟩,k⟩)) none,aI 0] else .tup [aNil,aI 8]):=by
 refine az (fn:=Tryz.f208) (c:=yJ) rfl (by kernel_rfl) (by kernel_rfl) (by kernel_rfl) (by kernel_rfl) ?_;refine D4 _ _ _ fun g=>?_
 cases h:idB ⟨⟨a,b,n⟩,k⟩ with
 | true =>
  have hn:=GQ h
  have h7:=FC k (by simp only at hn;omega)
  have hh:ma ⟨a,b,n⟩=true:=by simp only[idB,Bool.and_eq_true]at h;exact h.1
  simp only at hn
  simp[af,ah,ad,ae,ab, *,tN,bad,by8,iy]
 | false=>simp[af,ah,ad,ae,ab, *,tN,bad]
end Go.Proofs.YtmkmimgokagimaaGreat
