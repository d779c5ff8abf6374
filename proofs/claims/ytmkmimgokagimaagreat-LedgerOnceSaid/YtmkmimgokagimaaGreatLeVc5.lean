/-
  What is to be shown of each function, computed from its code. No statement of a seat is proved here.
-/
import Derived.Test.YtmkmimgokagimaaGreatLeTy
set_option linter.unusedVariables false
set_option maxRecDepth 1000000
namespace Go.Proofs.YtmkmimgokagimaaGreat
open Go.Ab
noncomputable def pJ:Code:=(Tryz.f42.body).getD .skip
def vW:Nat→Option (List Nat):=fun i=>none
def wH:Nat→Bool:=fun i=>false
def mJ(g:Nat→AV)(x0:AV)(H:Heap)(Q:AV→Heap→Prop):Prop :=
 doW (Zc H 1 62 x0) fun v1 H1 =>
 doQ (Zb H1 62 v1) fun v2 =>
 doQ (Ye 173 0 v2) fun v3 =>
 doW (Za true H1 9 101 [v3]) fun v4 H2 =>
 doQ (ZC v4 0) fun v5 =>
 doQ (ZC v4 1) fun v6 =>
 doQ (ZE v6) fun v7 =>
 br (some v7) (
 Q (.tup [(.v (.int .i64 0)),(.v (.int .i64 8))]) H2) (
 doQ (Zi H2 15 170 v5) fun v8 =>
 doQ (Zf 3 15 119 v8) fun v9 =>
 doQ (Zv 3 16 1 v9) fun v10 =>
 doQ (qBin env.P .quo 3 (Operand.tmp 17) (Operand.const (Value.int IntKind.i64 119)) (some v10) (some (AV.v (Value.int IntKind.i64 119)))) fun v11 =>
 Q (.tup [v11,(.v (.int .i64 0))]) H2)
theorem vj(x0:AV)(H:Heap)(Q:AV→Heap→Prop)(h : ∀g,mJ g x0 H Q):GoL env Tryz.f42 0 [.code pJ] [(0,x0)] H Q:=⟨fun g=>aU (live:=vW) (cut:=wH) (n:=500) (Eq.mp (by kernel_rfl) (h g))⟩
noncomputable def pK:Code:=(Tryz.f82.body).getD .skip
def vX:Nat→Option (List Nat):=fun i=>none
def wI:Nat→Bool:=fun i=>false
def pZ(g:Nat→AV)(x0:AV)(H:Heap)(Q:AV→Heap→Prop):Prop :=
 doW (Zc H 1 62 x0) fun v1 H1 =>
 doQ (Zb H1 62 v1) fun v2 =>
 doQ (Ye 173 0 v2) fun v3 =>
 doW (Za true H1 8 101 [v3]) fun v4 H2 =>
 doQ (ZC v4 0) fun v5 =>
 doQ (ZC v4 1) fun v6 =>
 doQ (ZE v6) fun v7 =>
 br (some v7) (
 Q (.v (.int .i64 8)) H2) (
 Q (.v (.int .i64 0)) H2)
theorem vk(x0:AV)(H:Heap)(Q:AV→Heap→Prop)(h : ∀g,pZ g x0 H Q):GoL env Tryz.f82 0 [.code pK] [(0,x0)] H Q:=⟨fun g=>aU (live:=vX) (cut:=wI) (n:=500) (Eq.mp (by kernel_rfl) (h g))⟩
noncomputable def nw:Code:=(Tryz.f152.body).getD .skip
def xJ:Nat→Option (List Nat):=fun i=>none
def yb:Nat→Bool:=fun i=>false
def hY(g:Nat→AV)(x0 x1:AV)(H:Heap)(Q:AV→Heap→Prop):Prop :=
 doW (Zc H 2 25 x0) fun v1 H1 =>
 doW (Zc H1 3 60 x1) fun v2 H2 =>
 doW (Zj H2 4 25) fun v3 H3 =>
 doQ (Zb H3 25 v1) fun v4 =>
 doW (Za false H3 11 102 [v4]) fun v5 H4 =>
 doQ (Zb H4 60 v2) fun v6 =>
 doW (Za false H4 13 202 [v6]) fun v7 H5 =>
 doQ (Z7 H5 14 42 42 v5 v7) fun v8 =>
 doQ (Ze 42 15 0 v8) fun v9 =>
 br (some v9) (
 doQ (Z5 25) fun v10 =>
 doW (Zp H5 25 v3 v10) fun v11 H6 =>
 doQ (Yb H6 v3 25) fun v12 =>
 Q (.tup [v12,v8]) H6) (
 doQ (Zb H5 25 v1) fun v10 =>
 doQ (Zb H5 60 v2) fun v11 =>
 doW (Za true H5 21 203 [v10,v11]) fun v12 H6 =>
 doQ (nd env.P (some v12) 25 true) fun v13 =>
 doQ (ZC v13 0) fun v14 =>
 doQ (ZC v13 1) fun v15 =>
 doW (Zj H6 8 25) fun v16 H7 =>
 doW (Zp H7 25 v16 v14) fun v17 H8 =>
 br (some v15) (
 doQ (Zb H8 25 v16) fun v18 =>
 doW (Zp H8 25 v3 v18) fun v19 H9 =>
 doQ (Yb H9 v3 25) fun v20 =>
 Q (.tup [v20,(.v (.int .i64 0))]) H9) (
 doQ (Z5 25) fun v18 =>
 doQ (nd env.P (some v12) 42 false) fun v19 =>
 doW (Zp H8 25 v3 v18) fun v20 H9 =>
 doQ (Yb H9 v3 25) fun v21 =>
 Q (.tup [v21,v19]) H9))
theorem qH(x0 x1:AV)(H:Heap)(Q:AV→Heap→Prop)(h : ∀g,hY g x0 x1 H Q):GoL env Tryz.f152 0 [.code nw] [(0,x0),(1,x1)] H Q:=⟨fun g=>aU (live:=xJ) (cut:=yb) (n:=500) (Eq.mp (by kernel_rfl) (h g))⟩
noncomputable def qS:Code:=(Tryz.f161.body).getD .skip
def xy:Nat→Option (List Nat):=fun i=>none
def xQ:Nat→Bool:=fun i=>false
def q6(g:Nat→AV)(x0:AV)(H:Heap)(Q:AV→Heap→Prop):Prop :=
 doW (Zc H 1 62 x0) fun v1 H1 =>
 doW (Zj H1 2 62) fun v2 H2 =>
 doQ (Zd 62 v1 2) fun v3 =>
 doQ (Zb H2 38 v3) fun v4 =>
 doW (Za true H2 5 108 [v4]) fun v5 H3 =>
 doQ (Zd 62 v1 2) fun v6 =>
 doW (Zp H3 38 v6 v5) fun v7 H4 =>
 doQ (Zb H4 62 v1) fun v8 =>
 doW (Zp H4 62 v2 v8) fun v9 H5 =>
 doQ (Yb H5 v2 62) fun v10 =>
 Q v10 H5
theorem xd(x0:AV)(H:Heap)(Q:AV→Heap→Prop)(h : ∀g,q6 g x0 H Q):GoL env Tryz.f161 0 [.code qS] [(0,x0)] H Q:=⟨fun g=>aU (live:=xy) (cut:=xQ) (n:=500) (Eq.mp (by kernel_rfl) (h g))⟩
noncomputable def uo:Code:=(Tryz.f164.body).getD .skip
def A4:Nat→Option (List Nat):=fun i=>none
def Bm:Nat→Bool:=fun i=>false
def qb(g:Nat→AV)(x0:AV)(H:Heap)(Q:AV→Heap→Prop):Prop :=
 doW (Zc H 1 60 x0) fun v1 H1 =>
 doQ (Zb H1 60 v1) fun v2 =>
 doW (Za true H1 9 202 [v2]) fun v3 H2 =>
 doQ (Ze 42 10 0 v3) fun v4 =>
 br (some v4) (
 Q (.tup [(.v (.slice none 0 0)),v3]) H2) (
 doQ (Zd 60 v1 1) fun v5 =>
 doQ (Zd 58 v5 1) fun v6 =>
 doQ (Zb H2 4 v6) fun v7 =>
 br (some v7) (
 doQ (Zd 60 v1 1) fun v8 =>
 doQ (Zd 58 v8 0) fun v9 =>
 doQ (Zb H2 29 v9) fun v10 =>
 doQ (Ye 31 0 v10) fun v11 =>
 doW (Za true H2 21 162 [v11]) fun v12 H3 =>
 doQ (ZC v12 0) fun v13 =>
 doQ (ZC v12 1) fun v14 =>
 doQ (Zd 60 v1 0) fun v15 =>
 doQ (Zb H3 3 v15) fun v16 =>
 doQ (Zw H3 26 3 5 v16) fun v17 =>
 doW (iB env.P true false H3 (Ref.mk 0 28 (Heap.gen H3 0 28) 0) 170 2 (some [(0,v17),(1,(a8 1))])) fun v18 H4 =>
 doQ (Zi H4 31 170 v13) fun v19 =>
 doQ (Zv 3 31 1 v19) fun v20 =>
 doQ (ZG H4 170 v13 v20) fun v21 =>
 doW (Zu H4 34 170 170 v18 v21) fun v22 H5 =>
 Q (.tup [v22,v14]) H5) (
 doQ (Zd 60 v1 1) fun v8 =>
 doQ (Zd 58 v8 0) fun v9 =>
 doQ (Zb H2 29 v9) fun v10 =>
 doQ (Ye 31 0 v10) fun v11 =>
 doW (Za true H2 21 162 [v11]) fun v12 H3 =>
 doQ (ZC v12 0) fun v13 =>
 doQ (ZC v12 1) fun v14 =>
 doQ (Zd 60 v1 0) fun v15 =>
 doQ (Zb H3 3 v15) fun v16 =>
 doQ (Zw H3 26 3 5 v16) fun v17 =>
 doW (iB env.P true false H3 (Ref.mk 0 28 (Heap.gen H3 0 28) 0) 170 2 (some [(0,v17),(1,(a8 0))])) fun v18 H4 =>
 doQ (Zi H4 31 170 v13) fun v19 =>
 doQ (Zv 3 31 1 v19) fun v20 =>
 doQ (ZG H4 170 v13 v20) fun v21 =>
 doW (Zu H4 34 170 170 v18 v21) fun v22 H5 =>
 Q (.tup [v22,v14]) H5))
theorem At(x0:AV)(H:Heap)(Q:AV→Heap→Prop)(h : ∀g,qb g x0 H Q):GoL env Tryz.f164 0 [.code uo] [(0,x0)] H Q:=⟨fun g=>aU (live:=A4) (cut:=Bm) (n:=500) (Eq.mp (by kernel_rfl) (h g))⟩
noncomputable def qT:Code:=(Tryz.f165.body).getD .skip
def xz:Nat→Option (List Nat):=fun i=>none
def xR:Nat→Bool:=fun i=>false
def hJ(g:Nat→AV)(x0 x1:AV)(H:Heap)(Q:AV→Heap→Prop):Prop :=
 doW (Zc H 2 62 x0) fun v1 H1 =>
 doW (Zc H1 3 62 x1) fun v2 H2 =>
 doQ (Zd 62 v1 0) fun v3 =>
 doQ (Zb H2 5 v3) fun v4 =>
 doQ (Zd 62 v2 0) fun v5 =>
 doQ (Zb H2 5 v5) fun v6 =>
 doQ (Zq 5 6 8 v4 v6) fun v7 =>
 gQ v7 true (Zd 62 v1 1) fun v8 =>
 gQ v7 true (Zb H2 3 v8) fun v9 =>
 gQ v7 true (Zd 62 v2 1) fun v10 =>
 gQ v7 true (Zb H2 3 v10) fun v11 =>
 gQ v7 true (Zq 3 12 14 v9 v11) fun v12 =>
 doQ (Zg v7 v12) fun v13 =>
 gQ v13 true (Zd 62 v1 2) fun v14 =>
 gQ v13 true (Zb H2 38 v14) fun v15 =>
 gQ v13 true (Zd 62 v2 2) fun v16 =>
 gQ v13 true (Zb H2 38 v16) fun v17 =>
 gW v13 true H2 (Za true H2 22 211 [v15,v17]) fun v18 H3 =>
 doQ (Zg v13 v18) fun v19 =>
 gQ v19 true (Zd 62 v1 3) fun v20 =>
 gQ v19 true (Zb H3 42 v20) fun v21 =>
 gQ v19 true (Zd 62 v2 3) fun v22 =>
 gQ v19 true (Zb H3 42 v22) fun v23 =>
 gQ v19 true (Zq 42 26 28 v21 v23) fun v24 =>
 doQ (Zg v19 v24) fun v25 =>
 gQ v25 true (Zd 62 v1 4) fun v26 =>
 gQ v25 true (Zb H3 60 v26) fun v27 =>
 gQ v25 true (Zd 62 v2 4) fun v28 =>
 gQ v25 true (Zb H3 60 v28) fun v29 =>
 gQ v25 true (Zq 60 33 35 v27 v29) fun v30 =>
 doQ (Zg v25 v30) fun v31 =>
 Q v31 H3
theorem xe(x0 x1:AV)(H:Heap)(Q:AV→Heap→Prop)(h : ∀g,hJ g x0 x1 H Q):GoL env Tryz.f165 0 [.code qT] [(0,x0),(1,x1)] H Q:=⟨fun g=>aU (live:=xz) (cut:=xR) (n:=500) (Eq.mp (by kernel_rfl) (h g))⟩
noncomputable def qZ:Code:=(Tryz.f202.body).getD .skip
def xI:Nat→Option (List Nat):=fun i=>none
def ya:Nat→Bool:=fun i=>false
def nC(g:Nat→AV)(x0:AV)(H:Heap)(Q:AV→Heap→Prop):Prop :=
 doW (Zc H 1 60 x0) fun v1 H1 =>
 doQ (Zd 60 v1 1) fun v2 =>
 doQ (Zd 58 v2 1) fun v3 =>
 doQ (Zb H1 4 v3) fun v4 =>
 gQ v4 false (Zd 60 v1 1) fun v5 =>
 gQ v4 false (Zd 58 v5 0) fun v6 =>
 gQ v4 false (Zb H1 29 v6) fun v7 =>
 gW v4 false H1 (Za false H1 11 185 []) fun v8 H2 =>
 gQ v4 false (Zq 29 10 11 v7 v8) fun v9 =>
 doQ (Zl v4 v9) fun v10 =>
 doQ (Zd 60 v1 0) fun v11 =>
 doQ (Zb H2 3 v11) fun v12 =>
 doQ (Zs 3 15 0 v12) fun v13 =>
 gQ v13 false (Zd 60 v1 0) fun v14 =>
 gQ v13 false (Zb H2 3 v14) fun v15 =>
 gQ v13 false (Zm 3 19 8 v15) fun v16 =>
 doQ (Zl v13 v16) fun v17 =>
 gQ v17 false (Zd 60 v1 1) fun v18 =>
 gQ v17 false (Zd 58 v18 0) fun v19 =>
 gQ v17 false (Zb H2 29 v19) fun v20 =>
 gW v17 false H2 (Za true H2 26 76 [v20]) fun v21 H3 =>
 gQ v17 false (Ze 42 26 0 v21) fun v22 =>
 doQ (Zl v17 v22) fun v23 =>
 gQ v23 false (ZB v10) fun v24 =>
 gQ v23 false (ZE v24) fun v25 =>
 doQ (Zl v23 v25) fun v26 =>
 br (some v26) (
 Q (.v (.int .i64 8)) H3) (
 Q (.v (.int .i64 0)) H3)
theorem xl(x0:AV)(H:Heap)(Q:AV→Heap→Prop)(h : ∀g,nC g x0 H Q):GoL env Tryz.f202 0 [.code qZ] [(0,x0)] H Q:=⟨fun g=>aU (live:=xI) (cut:=ya) (n:=500) (Eq.mp (by kernel_rfl) (h g))⟩
noncomputable def gZ:Code:=(Tryz.f203.body).getD .skip
def xH:Nat→Option (List Nat):=fun i=>none
def xZ:Nat→Bool:=fun i=>false
def hX(g:Nat→AV)(x0 x1:AV)(H:Heap)(Q:AV→Heap→Prop):Prop :=
 doW (Zc H 2 25 x0) fun v1 H1 =>
 doW (Zc H1 3 60 x1) fun v2 H2 =>
 doQ (Zd 60 v2 0) fun v3 =>
 doQ (Zb H2 3 v3) fun v4 =>
 doQ (Zd 25 v1 0) fun v5 =>
 doQ (Zb H2 22 v5) fun v6 =>
 doQ (Zi H2 10 22 v6) fun v7 =>
 doQ (Z1 3 7 10 v4 v7) fun v8 =>
 br (some v8) (
 doQ (nS env.P 42 (some (AV.v (Value.int IntKind.i64 2)))) fun v9 =>
 Q v9 H2) (
 doQ (Zd 25 v1 2) fun v9 =>
 doQ (Zb H2 3 v9) fun v10 =>
 doQ (Zk 3 15 0 v10) fun v11 =>
 br (some v11) (
 doQ (nS env.P 42 (some (AV.v (Value.int IntKind.i64 9)))) fun v12 =>
 Q v12 H2) (
 doQ (Zb H2 25 v1) fun v12 =>
 doW (Za true H2 19 160 [v12]) fun v13 H3 =>
 doW (Zp H3 25 v1 v13) fun v14 H4 =>
 doQ (Zd 25 v1 0) fun v15 =>
 doQ (Zb H4 22 v15) fun v16 =>
 doQ (Zd 60 v2 0) fun v17 =>
 doQ (Zb H4 3 v17) fun v18 =>
 doQ (Zd 60 v2 1) fun v19 =>
 doQ (Zb H4 58 v19) fun v20 =>
 doQ (Zt H4 22 v16 v18) fun v21 =>
 doW (Zp H4 58 v21 v20) fun v22 H5 =>
 doQ (Zd 25 v1 2) fun v23 =>
 doQ (Zb H5 3 v23) fun v24 =>
 doQ (Zv 3 28 1 v24) fun v25 =>
 doQ (Zd 25 v1 2) fun v26 =>
 doW (Zp H5 3 v26 v25) fun v27 H6 =>
 doQ (Zb H6 25 v1) fun v28 =>
 doQ (nS env.P 25 (some v28)) fun v29 =>
 Q v29 H6))
theorem jb(x0 x1:AV)(H:Heap)(Q:AV→Heap→Prop)(h : ∀g,hX g x0 x1 H Q):GoL env Tryz.f203 0 [.code gZ] [(0,x0),(1,x1)] H Q:=⟨fun g=>aU (live:=xH) (cut:=xZ) (n:=500) (Eq.mp (by kernel_rfl) (h g))⟩
end Go.Proofs.YtmkmimgokagimaaGreat
