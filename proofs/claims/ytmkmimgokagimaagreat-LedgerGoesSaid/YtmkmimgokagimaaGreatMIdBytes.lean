/-
  Labels, handles, ids, spans, runes: what the functions answer. No statement of a seat is proved here.
-/
import Derived.Test.YtmkmimgokagimaaGreatLeVc1
import Derived.Test.YtmkmimgokagimaaGreatMLePol
set_option linter.unusedVariables false
set_option linter.unusedSimpArgs false
set_option linter.unusedSectionVars false
set_option linter.unnecessarySimpa false
set_option maxRecDepth 100000
namespace Go.Proofs.YtmkmimgokagimaaGreat
open Go.Ab
attribute [local simp] bx aZ aL bw bu keep thr bD bh bq dC dB cP bF aE cC List.take_of_length_le
@[simp] theorem HW(a:UInt8)(b:UInt32):limf env 76 [.agg [a8 a,a32 b]]=some (aI (bad (decide (a≤15)))):=by
 refine aA (fn:=Tryz.f76) (c:=ny) rfl (by kernel_rfl) (by kernel_rfl) (by kernel_rfl) (by kernel_rfl) ?_;refine qM _ _ _ fun g=>?_
 simp[af,ah,ad,ae,ab, *,nE]
 repeat' ((first | refine mP (fun h=>?_) (fun h=>?_) | refine kD (fun h=>?_) (fun h=>?_) | refine kE (fun h=>?_) (fun h=>?_) | refine kB (fun h=>?_) (fun h=>?_) | refine kC (fun h=>?_) (fun h=>?_))<;>(try simp only[decide_eq_true_eq,decide_eq_false_iff_not,Bool.not_eq_true',Bool.not_eq_false',Bool.and_eq_true,Bool.or_eq_true]at h)<;>(try simp[af,ah,ad,ae,ab, *]))
 all_goals (try grind [bad])
@[simp] theorem R5(b:Bool):limf env 159 [aB b]=some (aI (bad b)):=by
 refine aA (fn:=Tryz.f159) (c:=uj) rfl (by kernel_rfl) (by kernel_rfl) (by kernel_rfl) (by kernel_rfl) ?_;refine Ad _ _ _ fun g=>?_
 cases b<;>simp[af,ah,ad,ae,ab, *,uw,bad]
@[simp] theorem Ic(a:UInt8)(b:UInt32)(n:UInt8):limf env 91 [.agg [a8 a,a32 b,a8 n]]=some (aI (bad (mO ⟨a,b,n⟩))):=by
 refine aA (fn:=Tryz.f91) (c:=m9) rfl (by kernel_rfl) (by kernel_rfl) (by kernel_rfl) (by kernel_rfl) ?_;refine rS _ _ _ fun g=>?_
 simp[af,ah,ad,ae,ab, *,nc,mO]
 repeat' ((first | refine mP (fun h=>?_) (fun h=>?_) | refine kD (fun h=>?_) (fun h=>?_) | refine kE (fun h=>?_) (fun h=>?_) | refine kB (fun h=>?_) (fun h=>?_) | refine kC (fun h=>?_) (fun h=>?_))<;>(try simp only[decide_eq_true_eq,decide_eq_false_iff_not,Bool.not_eq_true',Bool.not_eq_false',Bool.and_eq_true,Bool.or_eq_true]at h)<;>(try simp[af,ah,ad,ae,ab, *]))
@[simp] theorem Qw(a:UInt8)(b:UInt32)(n:UInt8)(k:Int):limf env 182 [.agg [a8 a,a32 b,a8 n,aI k]]=some (aI (bad (idB ⟨⟨a,b,n⟩,k⟩))):=by
 refine aA (fn:=Tryz.f182) (c:=uo) rfl (by kernel_rfl) (by kernel_rfl) (by kernel_rfl) (by kernel_rfl) ?_;refine Ae _ _ _ fun g=>?_
 simp[af,ah,ad,ae,ab, *,uy,idB]
 repeat' ((first | refine mP (fun h=>?_) (fun h=>?_) | refine kD (fun h=>?_) (fun h=>?_) | refine kE (fun h=>?_) (fun h=>?_) | refine kB (fun h=>?_) (fun h=>?_) | refine kC (fun h=>?_) (fun h=>?_))<;>(try simp only[decide_eq_true_eq,decide_eq_false_iff_not,Bool.not_eq_true',Bool.not_eq_false',Bool.and_eq_true,Bool.or_eq_true]at h)<;>(try simp[af,ah,ad,ae,ab, *]))
@[simp] theorem K4(a:UInt8)(b:UInt32)(n:UInt8)(k m:Int):limf env 135 [.agg [a8 a,a32 b,a8 n,aI k,aI m]]=some (aI (bad (jZ ⟨⟨⟨a,b,n⟩,k⟩,m⟩))):=by
 refine aA (fn:=Tryz.f135) (c:=pn) rfl (by kernel_rfl) (by kernel_rfl) (by kernel_rfl) (by kernel_rfl) ?_;refine uI _ _ _ fun g=>?_
 cases hb:idB ⟨⟨a,b,n⟩,k⟩ with
 | false=>simp[af,ah,ad,ae,ab, *,gP,jZ]
 | true =>
  have hn:=Gy hb
  simp only at hn
  by_cases h1:1≤m
  ·by_cases h2:m≤64
   ·have w1:=IntWalk.i64_in (k+m) (by omega)
    have w2:=IntWalk.i64_in (k+m - 1) (by omega)
    simp[af,ah,ad,ae,ab, *,gP,jZ]
   ·simp[af,ah,ad,ae,ab, *,gP,jZ]
  ·simp[af,ah,ad,ae,ab, *,gP,jZ]
@[simp] theorem Tn(a:UInt8)(b:UInt32)(n:UInt8)(k m:Int):limf env 239 [.agg [a8 a,a32 b,a8 n,aI k],aI m]=some (.agg [a8 a,a32 b,a8 n,aI (IntKind.i64.wrap (k+m))]):=by
 refine aA (fn:=Tryz.f239) (c:=wO) rfl (by kernel_rfl) (by kernel_rfl) (by kernel_rfl) (by kernel_rfl) ?_;refine Bp _ _ _ _ fun g=>?_
 simp[af,ah,ad,ae,ab, *,wS]
def atE(s:Spn)(m:Int):Int:=if jZ s then (if m<0∨s.many≤m then 2 else 0) else 8
@[simp] theorem R9(a:UInt8)(b:UInt32)(n:UInt8)(k m j:Int):limf env 228 [.agg [a8 a,a32 b,a8 n,aI k,aI m],aI j] =
 some (if atE ⟨⟨⟨a,b,n⟩,k⟩,m⟩ j=0 then .tup [.agg [a8 a,a32 b,a8 n,aI (k+j)],aI 0] else .tup [.agg [a8 0,a32 0,a8 0,aI 0],aI (atE ⟨⟨⟨a,b,n⟩,k⟩,m⟩ j)]):=by
 refine aA (fn:=Tryz.f228) (c:=Bb) rfl (by kernel_rfl) (by kernel_rfl) (by kernel_rfl) (by kernel_rfl) ?_;refine EN _ _ _ _ fun g=>?_
 cases hb:jZ ⟨⟨⟨a,b,n⟩,k⟩,m⟩ with
 | false=>simp[af,ah,ad,ae,ab, *,qj,atE]
 | true =>
  have hn:=k8 hb
  simp only at hn
  by_cases h1:j<0
  ·simp[af,ah,ad,ae,ab, *,qj,atE]
  ·by_cases h2:m≤j
   ·simp[af,ah,ad,ae,ab, *,qj,atE]
   ·have w1:=IntWalk.i64_in (k+j) (by omega)
    simp[af,ah,ad,ae,ab, *,qj,atE]
end Go.Proofs.YtmkmimgokagimaaGreat
namespace Go.Proofs.YtmkmimgokagimaaGreat
open Go.Ab
attribute [local simp] bx aZ aL bw bu keep thr bD bh bq dC dB cP bF aE cC List.take_of_length_le
@[simp] theorem N6(n:Int)(h0:0≤n):limf env 207 [aI n,aI 4]=some (.isl 1 (by8 (be 4 n)) none):=by
 refine aA (fn:=Tryz.f207) (c:=md) rfl (by kernel_rfl) (by kernel_rfl) (by kernel_rfl) (by kernel_rfl) ?_;refine rR _ _ _ _ fun g=>?_
 have w5:IntKind.i64.wrap (-1) = -1:=rfl
 have w4:IntKind.i64.wrap 0=0:=rfl
 simp[af,ah,ad,ae,ab, *,o5]
 refine cb _ _ _ _ _ fun g=>?_
 simp[af,ah,ad,ae,ab, *,bP,eM,dH]
 refine cb _ _ _ _ _ fun g=>?_
 simp[af,ah,ad,ae,ab, *,bP,eM,dH]
 refine cb _ _ _ _ _ fun g=>?_
 simp[af,ah,ad,ae,ab, *,bP,eM,dH]
 refine cb _ _ _ _ _ fun g=>?_
 simp[af,ah,ad,ae,ab, *,bP,eM,dH]
 refine cb _ _ _ _ _ fun g=>?_
 simp[af,ah,ad,ae,ab, *,bP,be_4,by8]
@[simp] theorem Fe(n:Int)(h0:0≤n):limf env 207 [aI n,aI 7]=some (.isl 1 (by8 (be 7 n)) none):=by
 refine aA (fn:=Tryz.f207) (c:=md) rfl (by kernel_rfl) (by kernel_rfl) (by kernel_rfl) (by kernel_rfl) ?_;refine rR _ _ _ _ fun g=>?_
 have w5:IntKind.i64.wrap (-1) = -1:=rfl
 have w4:IntKind.i64.wrap 0=0:=rfl
 simp[af,ah,ad,ae,ab, *,o5]
 refine cb _ _ _ _ _ fun g=>?_
 simp[af,ah,ad,ae,ab, *,bP,eM,dH]
 refine cb _ _ _ _ _ fun g=>?_
 simp[af,ah,ad,ae,ab, *,bP,eM,dH]
 refine cb _ _ _ _ _ fun g=>?_
 simp[af,ah,ad,ae,ab, *,bP,eM,dH]
 refine cb _ _ _ _ _ fun g=>?_
 simp[af,ah,ad,ae,ab, *,bP,eM,dH]
 refine cb _ _ _ _ _ fun g=>?_
 simp[af,ah,ad,ae,ab, *,bP,eM,dH]
 refine cb _ _ _ _ _ fun g=>?_
 simp[af,ah,ad,ae,ab, *,bP,eM,dH]
 refine cb _ _ _ _ _ fun g=>?_
 simp[af,ah,ad,ae,ab, *,bP,eM,dH]
 refine cb _ _ _ _ _ fun g=>?_
 simp[af,ah,ad,ae,ab, *,bP,be_7,by8]
def gM(h:Han):List UInt8:=h.lv :: (be 4 h.cats.toNat++[h.num])
@[simp] theorem Na(h:Han):(gM h).length=6:=by simp[gM]
@[simp] theorem Bz(a:UInt8)(b:UInt32)(n:UInt8):limf env 162 [.agg [a8 a,a32 b,a8 n]]=some (if mO ⟨a,b,n⟩ then .tup [.fsl 1 (by8 (gM ⟨a,b,n⟩)) none,aI 0] else .tup [aNil,aI 8]):=by
 refine aA (fn:=Tryz.f162) (c:=pk) rfl (by kernel_rfl) (by kernel_rfl) (by kernel_rfl) (by kernel_rfl) ?_;refine uH _ _ _ fun g=>?_
 cases h:mO ⟨a,b,n⟩ with
 | true=>simp[af,ah,ad,ae,ab, *,l4,bad,by8,gM]
 | false=>simp[af,ah,ad,ae,ab, *,l4,bad]
def iy(i:Idd):List UInt8:=gM i.h++be 7 i.n
@[simp] theorem M9(i:Idd):(iy i).length=13:=by simp[iy]
@[simp] theorem Tr(a:UInt8)(b:UInt32)(n:UInt8)(k:Int):limf env 208 [.agg [a8 a,a32 b,a8 n,aI k]]=some (if idB ⟨⟨a,b,n⟩,k⟩ then .tup [.isl 1 (by8 (iy ⟨⟨a,b,n⟩,k⟩)) none,aI 0] else .tup [aNil,aI 8]):=by
 refine aA (fn:=Tryz.f208) (c:=yA) rfl (by kernel_rfl) (by kernel_rfl) (by kernel_rfl) (by kernel_rfl) ?_;refine DE _ _ _ fun g=>?_
 cases h:idB ⟨⟨a,b,n⟩,k⟩ with
 | true =>
  have hn:=Gy h
  have h7:=Fe k (by simp only at hn;omega)
  have hh:mO ⟨a,b,n⟩=true:=by simp only[idB,Bool.and_eq_true]at h;exact h.1
  simp only at hn
  simp[af,ah,ad,ae,ab, *,tN,bad,by8,iy]
 | false=>simp[af,ah,ad,ae,ab, *,tN,bad]
end Go.Proofs.YtmkmimgokagimaaGreat
