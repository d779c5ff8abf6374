/-
  What is to be shown of each function, computed from its code. No statement of a seat is proved here.
-/
import Derived.Test.YtmkmimgokagimaaGreatLeTy
import Derived.Test.YtmkmimgokagimaaGreatLeVc1
import Derived.Test.YtmkmimgokagimaaGreatMLePol
set_option linter.unusedVariables false
set_option linter.unusedSimpArgs false
set_option linter.unusedSectionVars false
set_option linter.unnecessarySimpa false
set_option maxRecDepth 1000000
namespace Go.Proofs.YtmkmimgokagimaaGreat
open Go.Ab
noncomputable def rE:Code:=(Tryz.f82.body).getD .skip
def yJ:Nat→Option (List Nat):=fun i=>none
def zn:Nat→Bool:=fun i=>false
def rT(g:Nat→AV)(x0:AV)(H:Heap)(Q:AV→Heap→Prop):Prop :=
 doW (Zc H 1 62 x0) fun v1 H1 =>
 doQ (Zb H1 62 v1) fun v2 =>
 doQ (Yc 173 0 v2) fun v3 =>
 doW (Za true H1 8 101 [v3]) fun v4 H2 =>
 doQ (Zx v4 0) fun v5 =>
 doQ (Zx v4 1) fun v6 =>
 doQ (ZE v6) fun v7 =>
 br (some v7) (
 Q (.v (.int .i64 8)) H2) (
 Q (.v (.int .i64 0)) H2)
theorem xW(x0:AV)(H:Heap)(Q:AV→Heap→Prop)(h : ∀g,rT g x0 H Q):GoL env Tryz.f82 0 [.code rE] [(0,x0)] H Q:=⟨fun g=>aH (live:=yJ) (cut:=zn) (n:=500) (Eq.mp (by kernel_rfl) (h g))⟩
noncomputable def oZ:Code:=(Tryz.f152.body).getD .skip
def As:Nat→Option (List Nat):=fun i=>none
def AN:Nat→Bool:=fun i=>false
def iH(g:Nat→AV)(x0 x1:AV)(H:Heap)(Q:AV→Heap→Prop):Prop :=
 doW (Zc H 2 25 x0) fun v1 H1 =>
 doW (Zc H1 3 60 x1) fun v2 H2 =>
 doW (Zj H2 4 25) fun v3 H3 =>
 doQ (Zb H3 25 v1) fun v4 =>
 doW (Za false H3 11 102 [v4]) fun v5 H4 =>
 doQ (Zb H4 60 v2) fun v6 =>
 doW (Za false H4 13 202 [v6]) fun v7 H5 =>
 doQ (ZU H5 14 42 42 v5 v7) fun v8 =>
 doQ (Ze 42 15 0 v8) fun v9 =>
 br (some v9) (
 doQ (Z6 25) fun v10 =>
 doW (Zo H5 25 v3 v10) fun v11 H6 =>
 doQ (Z7 H6 v3 25) fun v12 =>
 Q (.tup [v12,v8]) H6) (
 doQ (Zb H5 25 v1) fun v10 =>
 doQ (Zb H5 60 v2) fun v11 =>
 doW (Za true H5 21 203 [v10,v11]) fun v12 H6 =>
 doQ (oQ env.P (some v12) 25 true) fun v13 =>
 doQ (Zx v13 0) fun v14 =>
 doQ (Zx v13 1) fun v15 =>
 doW (Zj H6 8 25) fun v16 H7 =>
 doW (Zo H7 25 v16 v14) fun v17 H8 =>
 br (some v15) (
 doQ (Zb H8 25 v16) fun v18 =>
 doW (Zo H8 25 v3 v18) fun v19 H9 =>
 doQ (Z7 H9 v3 25) fun v20 =>
 Q (.tup [v20,(.v (.int .i64 0))]) H9) (
 doQ (Z6 25) fun v18 =>
 doQ (oQ env.P (some v12) 42 false) fun v19 =>
 doW (Zo H8 25 v3 v18) fun v20 H9 =>
 doQ (Z7 H9 v3 25) fun v21 =>
 Q (.tup [v21,v19]) H9))
theorem sO(x0 x1:AV)(H:Heap)(Q:AV→Heap→Prop)(h : ∀g,iH g x0 x1 H Q):GoL env Tryz.f152 0 [.code oZ] [(0,x0),(1,x1)] H Q:=⟨fun g=>aH (live:=As) (cut:=AN) (n:=500) (Eq.mp (by kernel_rfl) (h g))⟩
noncomputable def sX:Code:=(Tryz.f161.body).getD .skip
def Af:Nat→Option (List Nat):=fun i=>none
def Az:Nat→Bool:=fun i=>false
def tj(g:Nat→AV)(x0:AV)(H:Heap)(Q:AV→Heap→Prop):Prop :=
 doW (Zc H 1 62 x0) fun v1 H1 =>
 doW (Zj H1 2 62) fun v2 H2 =>
 doQ (Zd 62 v1 2) fun v3 =>
 doQ (Zb H2 38 v3) fun v4 =>
 doW (Za true H2 5 108 [v4]) fun v5 H3 =>
 doQ (Zd 62 v1 2) fun v6 =>
 doW (Zo H3 38 v6 v5) fun v7 H4 =>
 doQ (Zb H4 62 v1) fun v8 =>
 doW (Zo H4 62 v2 v8) fun v9 H5 =>
 doQ (Z7 H5 v2 62) fun v10 =>
 Q v10 H5
theorem zT(x0:AV)(H:Heap)(Q:AV→Heap→Prop)(h : ∀g,tj g x0 H Q):GoL env Tryz.f161 0 [.code sX] [(0,x0)] H Q:=⟨fun g=>aH (live:=Af) (cut:=Az) (n:=500) (Eq.mp (by kernel_rfl) (h g))⟩
noncomputable def w8:Code:=(Tryz.f164.body).getD .skip
def Df:Nat→Option (List Nat):=fun i=>none
def DC:Nat→Bool:=fun i=>false
def sb(g:Nat→AV)(x0:AV)(H:Heap)(Q:AV→Heap→Prop):Prop :=
 doW (Zc H 1 60 x0) fun v1 H1 =>
 doQ (Zb H1 60 v1) fun v2 =>
 doW (Za true H1 9 202 [v2]) fun v3 H2 =>
 doQ (Ze 42 10 0 v3) fun v4 =>
 br (some v4) (
 Q (.tup [(.v (.slice none 0 0)),v3]) H2) (
 doQ (Zd 60 v1 1) fun v5 =>
 doQ (Zd 58 v5 1) fun v6 =>
 doQ (Zb H2 4 v6) fun v7 =>
 br (some v7) (
 doQ (Zd 60 v1 1) fun v8 =>
 doQ (Zd 58 v8 0) fun v9 =>
 doQ (Zb H2 29 v9) fun v10 =>
 doQ (Yc 31 0 v10) fun v11 =>
 doW (Za true H2 21 162 [v11]) fun v12 H3 =>
 doQ (Zx v12 0) fun v13 =>
 doQ (Zx v12 1) fun v14 =>
 doQ (Zd 60 v1 0) fun v15 =>
 doQ (Zb H3 3 v15) fun v16 =>
 doQ (Zw H3 26 3 5 v16) fun v17 =>
 doW (iI env.P true false H3 (Ref.mk 0 28 (Heap.gen H3 0 28) 0) 170 2 (some [(0,v17),(1,(a8 1))])) fun v18 H4 =>
 doQ (Zh H4 31 170 v13) fun v19 =>
 doQ (Zy 3 31 1 v19) fun v20 =>
 doQ (ZJ H4 170 v13 v20) fun v21 =>
 doW (Zt H4 34 170 170 v18 v21) fun v22 H5 =>
 Q (.tup [v22,v14]) H5) (
 doQ (Zd 60 v1 1) fun v8 =>
 doQ (Zd 58 v8 0) fun v9 =>
 doQ (Zb H2 29 v9) fun v10 =>
 doQ (Yc 31 0 v10) fun v11 =>
 doW (Za true H2 21 162 [v11]) fun v12 H3 =>
 doQ (Zx v12 0) fun v13 =>
 doQ (Zx v12 1) fun v14 =>
 doQ (Zd 60 v1 0) fun v15 =>
 doQ (Zb H3 3 v15) fun v16 =>
 doQ (Zw H3 26 3 5 v16) fun v17 =>
 doW (iI env.P true false H3 (Ref.mk 0 28 (Heap.gen H3 0 28) 0) 170 2 (some [(0,v17),(1,(a8 0))])) fun v18 H4 =>
 doQ (Zh H4 31 170 v13) fun v19 =>
 doQ (Zy 3 31 1 v19) fun v20 =>
 doQ (ZJ H4 170 v13 v20) fun v21 =>
 doW (Zt H4 34 170 170 v18 v21) fun v22 H5 =>
 Q (.tup [v22,v14]) H5))
theorem CE(x0:AV)(H:Heap)(Q:AV→Heap→Prop)(h : ∀g,sb g x0 H Q):GoL env Tryz.f164 0 [.code w8] [(0,x0)] H Q:=⟨fun g=>aH (live:=Df) (cut:=DC) (n:=500) (Eq.mp (by kernel_rfl) (h g))⟩
noncomputable def sY:Code:=(Tryz.f165.body).getD .skip
def Ag:Nat→Option (List Nat):=fun i=>none
def AA:Nat→Bool:=fun i=>false
def iF(g:Nat→AV)(x0 x1:AV)(H:Heap)(Q:AV→Heap→Prop):Prop :=
 doW (Zc H 2 62 x0) fun v1 H1 =>
 doW (Zc H1 3 62 x1) fun v2 H2 =>
 doQ (Zd 62 v1 0) fun v3 =>
 doQ (Zb H2 5 v3) fun v4 =>
 doQ (Zd 62 v2 0) fun v5 =>
 doQ (Zb H2 5 v5) fun v6 =>
 doQ (Zn 5 6 8 v4 v6) fun v7 =>
 gQ v7 true (Zd 62 v1 1) fun v8 =>
 gQ v7 true (Zb H2 3 v8) fun v9 =>
 gQ v7 true (Zd 62 v2 1) fun v10 =>
 gQ v7 true (Zb H2 3 v10) fun v11 =>
 gQ v7 true (Zn 3 12 14 v9 v11) fun v12 =>
 doQ (Zg v7 v12) fun v13 =>
 gQ v13 true (Zd 62 v1 2) fun v14 =>
 gQ v13 true (Zb H2 38 v14) fun v15 =>
 gQ v13 true (Zd 62 v2 2) fun v16 =>
 gQ v13 true (Zb H2 38 v16) fun v17 =>
 gW v13 true H2 (Za true H2 22 211 [v15,v17]) fun v18 H3 =>
 doQ (Zg v13 v18) fun v19 =>
 gQ v19 true (Zd 62 v1 3) fun v20 =>
 gQ v19 true (Zb H3 42 v20) fun v21 =>
 gQ v19 true (Zd 62 v2 3) fun v22 =>
 gQ v19 true (Zb H3 42 v22) fun v23 =>
 gQ v19 true (Zn 42 26 28 v21 v23) fun v24 =>
 doQ (Zg v19 v24) fun v25 =>
 gQ v25 true (Zd 62 v1 4) fun v26 =>
 gQ v25 true (Zb H3 60 v26) fun v27 =>
 gQ v25 true (Zd 62 v2 4) fun v28 =>
 gQ v25 true (Zb H3 60 v28) fun v29 =>
 gQ v25 true (Zn 60 33 35 v27 v29) fun v30 =>
 doQ (Zg v25 v30) fun v31 =>
 Q v31 H3
theorem zW(x0 x1:AV)(H:Heap)(Q:AV→Heap→Prop)(h : ∀g,iF g x0 x1 H Q):GoL env Tryz.f165 0 [.code sY] [(0,x0),(1,x1)] H Q:=⟨fun g=>aH (live:=Ag) (cut:=AA) (n:=500) (Eq.mp (by kernel_rfl) (h g))⟩
noncomputable def ti:Code:=(Tryz.f202.body).getD .skip
def Ar:Nat→Option (List Nat):=fun i=>none
def AM:Nat→Bool:=fun i=>false
def o8(g:Nat→AV)(x0:AV)(H:Heap)(Q:AV→Heap→Prop):Prop :=
 doW (Zc H 1 60 x0) fun v1 H1 =>
 doQ (Zd 60 v1 1) fun v2 =>
 doQ (Zd 58 v2 1) fun v3 =>
 doQ (Zb H1 4 v3) fun v4 =>
 gQ v4 false (Zd 60 v1 1) fun v5 =>
 gQ v4 false (Zd 58 v5 0) fun v6 =>
 gQ v4 false (Zb H1 29 v6) fun v7 =>
 gW v4 false H1 (Za false H1 11 185 []) fun v8 H2 =>
 gQ v4 false (Zn 29 10 11 v7 v8) fun v9 =>
 doQ (Zl v4 v9) fun v10 =>
 doQ (Zd 60 v1 0) fun v11 =>
 doQ (Zb H2 3 v11) fun v12 =>
 doQ (Zs 3 15 0 v12) fun v13 =>
 gQ v13 false (Zd 60 v1 0) fun v14 =>
 gQ v13 false (Zb H2 3 v14) fun v15 =>
 gQ v13 false (Zq 3 19 8 v15) fun v16 =>
 doQ (Zl v13 v16) fun v17 =>
 gQ v17 false (Zd 60 v1 1) fun v18 =>
 gQ v17 false (Zd 58 v18 0) fun v19 =>
 gQ v17 false (Zb H2 29 v19) fun v20 =>
 gW v17 false H2 (Za true H2 26 76 [v20]) fun v21 H3 =>
 gQ v17 false (Ze 42 26 0 v21) fun v22 =>
 doQ (Zl v17 v22) fun v23 =>
 gQ v23 false (ZF v10) fun v24 =>
 gQ v23 false (ZE v24) fun v25 =>
 doQ (Zl v23 v25) fun v26 =>
 br (some v26) (
 Q (.v (.int .i64 8)) H3) (
 Q (.v (.int .i64 0)) H3)
theorem z8(x0:AV)(H:Heap)(Q:AV→Heap→Prop)(h : ∀g,o8 g x0 H Q):GoL env Tryz.f202 0 [.code ti] [(0,x0)] H Q:=⟨fun g=>aH (live:=Ar) (cut:=AM) (n:=500) (Eq.mp (by kernel_rfl) (h g))⟩
noncomputable def iE:Code:=(Tryz.f203.body).getD .skip
def Aq:Nat→Option (List Nat):=fun i=>none
def AL:Nat→Bool:=fun i=>false
def iG(g:Nat→AV)(x0 x1:AV)(H:Heap)(Q:AV→Heap→Prop):Prop :=
 doW (Zc H 2 25 x0) fun v1 H1 =>
 doW (Zc H1 3 60 x1) fun v2 H2 =>
 doQ (Zd 60 v2 0) fun v3 =>
 doQ (Zb H2 3 v3) fun v4 =>
 doQ (Zd 25 v1 0) fun v5 =>
 doQ (Zb H2 22 v5) fun v6 =>
 doQ (Zh H2 10 22 v6) fun v7 =>
 doQ (Z4 3 7 10 v4 v7) fun v8 =>
 br (some v8) (
 doQ (pw env.P 42 (some (AV.v (Value.int IntKind.i64 2)))) fun v9 =>
 Q v9 H2) (
 doQ (Zd 25 v1 2) fun v9 =>
 doQ (Zb H2 3 v9) fun v10 =>
 doQ (Zk 3 15 0 v10) fun v11 =>
 br (some v11) (
 doQ (pw env.P 42 (some (AV.v (Value.int IntKind.i64 9)))) fun v12 =>
 Q v12 H2) (
 doQ (Zb H2 25 v1) fun v12 =>
 doW (Za true H2 19 160 [v12]) fun v13 H3 =>
 doW (Zo H3 25 v1 v13) fun v14 H4 =>
 doQ (Zd 25 v1 0) fun v15 =>
 doQ (Zb H4 22 v15) fun v16 =>
 doQ (Zd 60 v2 0) fun v17 =>
 doQ (Zb H4 3 v17) fun v18 =>
 doQ (Zd 60 v2 1) fun v19 =>
 doQ (Zb H4 58 v19) fun v20 =>
 doQ (Zu H4 22 v16 v18) fun v21 =>
 doW (Zo H4 58 v21 v20) fun v22 H5 =>
 doQ (Zd 25 v1 2) fun v23 =>
 doQ (Zb H5 3 v23) fun v24 =>
 doQ (Zy 3 28 1 v24) fun v25 =>
 doQ (Zd 25 v1 2) fun v26 =>
 doW (Zo H5 3 v26 v25) fun v27 H6 =>
 doQ (Zb H6 25 v1) fun v28 =>
 doQ (pw env.P 25 (some v28)) fun v29 =>
 Q v29 H6))
theorem jU(x0 x1:AV)(H:Heap)(Q:AV→Heap→Prop)(h : ∀g,iG g x0 x1 H Q):GoL env Tryz.f203 0 [.code iE] [(0,x0),(1,x1)] H Q:=⟨fun g=>aH (live:=Aq) (cut:=AL) (n:=500) (Eq.mp (by kernel_rfl) (h g))⟩
end Go.Proofs.YtmkmimgokagimaaGreat
set_option maxRecDepth 100000
namespace Go.Proofs.YtmkmimgokagimaaGreat
open Go.Ab
attribute [local simp] bm aP aG bh bg keep thr bF aY bf dw dv cV bG aC cd List.take_of_length_le
@[simp] theorem BE(a:UInt8)(b:UInt32):limf env 76 [.agg [a8 a,a32 b]]=some (aI (bad (decide (a≤15)))):=by
 refine az (fn:=Tryz.f76) (c:=oY) rfl (by kernel_rfl) (by kernel_rfl) (by kernel_rfl) (by kernel_rfl) ?_;refine sN _ _ _ fun g=>?_
 simp[af,ah,ad,ae,ab, *,o7]
 repeat' ((first | refine oc (fun h=>?_) (fun h=>?_) | refine lQ (fun h=>?_) (fun h=>?_) | refine lR (fun h=>?_) (fun h=>?_) | refine lO (fun h=>?_) (fun h=>?_) | refine lP (fun h=>?_) (fun h=>?_))<;>(try simp only[decide_eq_true_eq,decide_eq_false_iff_not,Bool.not_eq_true',Bool.not_eq_false',Bool.and_eq_true,Bool.or_eq_true]at h)<;>(try simp[af,ah,ad,ae,ab, *]))
 all_goals (try grind [bad])
@[simp] theorem U6(b:Bool):limf env 159 [aB b]=some (aI (bad b)):=by
 refine az (fn:=Tryz.f159) (c:=wY) rfl (by kernel_rfl) (by kernel_rfl) (by kernel_rfl) (by kernel_rfl) ?_;refine CC _ _ _ fun g=>?_
 cases b<;>simp[af,ah,ad,ae,ab, *,xc,bad]
@[simp] theorem uB(a:UInt8)(b:UInt32)(n:UInt8):limf env 91 [.agg [a8 a,a32 b,a8 n]]=some (aI (bad (mX ⟨a,b,n⟩))):=by
 refine az (fn:=Tryz.f91) (c:=oI) rfl (by kernel_rfl) (by kernel_rfl) (by kernel_rfl) (by kernel_rfl) ?_;refine ui _ _ _ fun g=>?_
 simp[af,ah,ad,ae,ab, *,oL,mX]
 repeat' ((first | refine oc (fun h=>?_) (fun h=>?_) | refine lQ (fun h=>?_) (fun h=>?_) | refine lR (fun h=>?_) (fun h=>?_) | refine lO (fun h=>?_) (fun h=>?_) | refine lP (fun h=>?_) (fun h=>?_))<;>(try simp only[decide_eq_true_eq,decide_eq_false_iff_not,Bool.not_eq_true',Bool.not_eq_false',Bool.and_eq_true,Bool.or_eq_true]at h)<;>(try simp[af,ah,ad,ae,ab, *]))
@[simp] theorem Tm(a:UInt8)(b:UInt32)(n:UInt8)(k:Int):limf env 182 [.agg [a8 a,a32 b,a8 n,aI k]]=some (aI (bad (idB ⟨⟨a,b,n⟩,k⟩))):=by
 refine az (fn:=Tryz.f182) (c:=wZ) rfl (by kernel_rfl) (by kernel_rfl) (by kernel_rfl) (by kernel_rfl) ?_;refine CD _ _ _ fun g=>?_
 simp[af,ah,ad,ae,ab, *,xd,idB]
 repeat' ((first | refine oc (fun h=>?_) (fun h=>?_) | refine lQ (fun h=>?_) (fun h=>?_) | refine lR (fun h=>?_) (fun h=>?_) | refine lO (fun h=>?_) (fun h=>?_) | refine lP (fun h=>?_) (fun h=>?_))<;>(try simp only[decide_eq_true_eq,decide_eq_false_iff_not,Bool.not_eq_true',Bool.not_eq_false',Bool.and_eq_true,Bool.or_eq_true]at h)<;>(try simp[af,ah,ad,ae,ab, *]))
@[simp] theorem NR(a:UInt8)(b:UInt32)(n:UInt8)(k m:Int):limf env 135 [.agg [a8 a,a32 b,a8 n,aI k,aI m]]=some (aI (bad (lz ⟨⟨⟨a,b,n⟩,k⟩,m⟩))):=by
 refine az (fn:=Tryz.f135) (c:=qQ) rfl (by kernel_rfl) (by kernel_rfl) (by kernel_rfl) (by kernel_rfl) ?_;refine xt _ _ _ fun g=>?_
 cases hb:idB ⟨⟨a,b,n⟩,k⟩ with
 | false=>simp[af,ah,ad,ae,ab, *,iA,lz]
 | true =>
  have hn:=Jy hb
  simp only at hn
  by_cases h1:1≤m
  ·by_cases h2:m≤64
   ·have w1:=IntWalk.i64_in (k+m) (by omega)
    have w2:=IntWalk.i64_in (k+m - 1) (by omega)
    simp[af,ah,ad,ae,ab, *,iA,lz]
   ·simp[af,ah,ad,ae,ab, *,iA,lz]
  ·simp[af,ah,ad,ae,ab, *,iA,lz]
@[simp] theorem Wq(a:UInt8)(b:UInt32)(n:UInt8)(k m:Int):limf env 239 [.agg [a8 a,a32 b,a8 n,aI k],aI m]=some (.agg [a8 a,a32 b,a8 n,aI (IntKind.i64.wrap (k+m))]):=by
 refine az (fn:=Tryz.f239) (c:=zI) rfl (by kernel_rfl) (by kernel_rfl) (by kernel_rfl) (by kernel_rfl) ?_;refine DW _ _ _ _ fun g=>?_
 simp[af,ah,ad,ae,ab, *,zN]
def atE(s:Spn)(m:Int):Int:=if lz s then (if m<0∨s.many≤m then 2 else 0) else 8
@[simp] theorem U9(a:UInt8)(b:UInt32)(n:UInt8)(k m j:Int):limf env 228 [.agg [a8 a,a32 b,a8 n,aI k,aI m],aI j] =
 some (if atE ⟨⟨⟨a,b,n⟩,k⟩,m⟩ j=0 then .tup [.agg [a8 a,a32 b,a8 n,aI (k+j)],aI 0] else .tup [.agg [a8 0,a32 0,a8 0,aI 0],aI (atE ⟨⟨⟨a,b,n⟩,k⟩,m⟩ j)]):=by
 refine az (fn:=Tryz.f228) (c:=DI) rfl (by kernel_rfl) (by kernel_rfl) (by kernel_rfl) (by kernel_rfl) ?_;refine HC _ _ _ _ fun g=>?_
 cases hb:lz ⟨⟨⟨a,b,n⟩,k⟩,m⟩ with
 | false=>simp[af,ah,ad,ae,ab, *,sa,atE]
 | true =>
  have hn:=kF hb
  simp only at hn
  by_cases h1:j<0
  ·simp[af,ah,ad,ae,ab, *,sa,atE]
  ·by_cases h2:m≤j
   ·simp[af,ah,ad,ae,ab, *,sa,atE]
   ·have w1:=IntWalk.i64_in (k+j) (by omega)
    simp[af,ah,ad,ae,ab, *,sa,atE]
end Go.Proofs.YtmkmimgokagimaaGreat
namespace Go.Proofs.YtmkmimgokagimaaGreat
open Go.Ab
attribute [local simp] bm aP aG bh bg keep thr bF aY bf dw dv cV bG aC cd List.take_of_length_le
@[simp] theorem QT(n:Int)(h0:0≤n):limf env 207 [aI n,aI 4]=some (.isl 1 (by8 (be 4 n)) none):=by
 refine az (fn:=Tryz.f207) (c:=nj) rfl (by kernel_rfl) (by kernel_rfl) (by kernel_rfl) (by kernel_rfl) ?_;refine uh _ _ _ _ fun g=>?_
 have w5:IntKind.i64.wrap (-1) = -1:=rfl
 have w4:IntKind.i64.wrap 0=0:=rfl
 simp[af,ah,ad,ae,ab, *,qy]
 refine cD _ _ _ _ _ fun g=>?_
 simp[af,ah,ad,ae,ab, *,bX,fu,dW]
 refine cD _ _ _ _ _ fun g=>?_
 simp[af,ah,ad,ae,ab, *,bX,fu,dW]
 refine cD _ _ _ _ _ fun g=>?_
 simp[af,ah,ad,ae,ab, *,bX,fu,dW]
 refine cD _ _ _ _ _ fun g=>?_
 simp[af,ah,ad,ae,ab, *,bX,fu,dW]
 refine cD _ _ _ _ _ fun g=>?_
 simp[af,ah,ad,ae,ab, *,bX,be_4,by8]
@[simp] theorem Ie(n:Int)(h0:0≤n):limf env 207 [aI n,aI 7]=some (.isl 1 (by8 (be 7 n)) none):=by
 refine az (fn:=Tryz.f207) (c:=nj) rfl (by kernel_rfl) (by kernel_rfl) (by kernel_rfl) (by kernel_rfl) ?_;refine uh _ _ _ _ fun g=>?_
 have w5:IntKind.i64.wrap (-1) = -1:=rfl
 have w4:IntKind.i64.wrap 0=0:=rfl
 simp[af,ah,ad,ae,ab, *,qy]
 refine cD _ _ _ _ _ fun g=>?_
 simp[af,ah,ad,ae,ab, *,bX,fu,dW]
 refine cD _ _ _ _ _ fun g=>?_
 simp[af,ah,ad,ae,ab, *,bX,fu,dW]
 refine cD _ _ _ _ _ fun g=>?_
 simp[af,ah,ad,ae,ab, *,bX,fu,dW]
 refine cD _ _ _ _ _ fun g=>?_
 simp[af,ah,ad,ae,ab, *,bX,fu,dW]
 refine cD _ _ _ _ _ fun g=>?_
 simp[af,ah,ad,ae,ab, *,bX,fu,dW]
 refine cD _ _ _ _ _ fun g=>?_
 simp[af,ah,ad,ae,ab, *,bX,fu,dW]
 refine cD _ _ _ _ _ fun g=>?_
 simp[af,ah,ad,ae,ab, *,bX,fu,dW]
 refine cD _ _ _ _ _ fun g=>?_
 simp[af,ah,ad,ae,ab, *,bX,be_7,by8]
def iy(h:Han):List UInt8:=h.lv :: (be 4 h.cats.toNat++[h.num])
@[simp] theorem PZ(h:Han):(iy h).length=6:=by simp[iy]
@[simp] theorem D6(a:UInt8)(b:UInt32)(n:UInt8):limf env 162 [.agg [a8 a,a32 b,a8 n]]=some (if mX ⟨a,b,n⟩ then .tup [.fsl 1 (by8 (iy ⟨a,b,n⟩)) none,aI 0] else .tup [aNil,aI 8]):=by
 refine az (fn:=Tryz.f162) (c:=qP) rfl (by kernel_rfl) (by kernel_rfl) (by kernel_rfl) (by kernel_rfl) ?_;refine xp _ _ _ fun g=>?_
 cases h:mX ⟨a,b,n⟩ with
 | true=>simp[af,ah,ad,ae,ab, *,nd,bad,by8,iy]
 | false=>simp[af,ah,ad,ae,ab, *,nd,bad]
def jf(i:Idd):List UInt8:=iy i.h++be 7 i.n
@[simp] theorem PY(i:Idd):(jf i).length=13:=by simp[jf]
@[simp] theorem Wu(a:UInt8)(b:UInt32)(n:UInt8)(k:Int):limf env 208 [.agg [a8 a,a32 b,a8 n,aI k]]=some (if idB ⟨⟨a,b,n⟩,k⟩ then .tup [.isl 1 (by8 (jf ⟨⟨a,b,n⟩,k⟩)) none,aI 0] else .tup [aNil,aI 8]):=by
 refine az (fn:=Tryz.f208) (c:=Bh) rfl (by kernel_rfl) (by kernel_rfl) (by kernel_rfl) (by kernel_rfl) ?_;refine Gr _ _ _ fun g=>?_
 cases h:idB ⟨⟨a,b,n⟩,k⟩ with
 | true =>
  have hn:=Jy h
  have h7:=Ie k (by simp only at hn;omega)
  have hh:mX ⟨a,b,n⟩=true:=by simp only[idB,Bool.and_eq_true]at h;exact h.1
  simp only at hn
  simp[af,ah,ad,ae,ab, *,wF,bad,by8,jf]
 | false=>simp[af,ah,ad,ae,ab, *,wF,bad]
end Go.Proofs.YtmkmimgokagimaaGreat
