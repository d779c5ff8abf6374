/-
  What is to be shown of each function, computed from its code. No statement of a seat is proved here.
-/
import Derived.Test.YtiidajnodhkidaaGreatStTy
set_option linter.unusedVariables false
set_option maxRecDepth 1000000
namespace Go.Proofs.YtiidajnodhkidaaGreat
open Go.Ab
noncomputable def vO:Code:=(Tryz.f8.body).getD .skip
def C0:Nat→Option (List Nat):=fun i=>none
def Dt:Nat→Bool:=fun i=>false
def vV(g:Nat→AV)(x0:AV)(H:Heap)(Q:AV→Heap→Prop):Prop :=
 doW (Zf H 2 29) fun v1 H1 =>
 doW (Za true H1 7 39 []) fun v2 H2 =>
 doW (Za true H2 9 38 [v2,x0]) fun v3 H3 =>
 doQ (Zx v3 0) fun v4 =>
 doQ (Zx v3 1) fun v5 =>
 doW (Zf H3 4 24) fun v6 H4 =>
 doW (Zj H4 24 v6 v4) fun v7 H5 =>
 doQ (Zc 30 12 0 v5) fun v8 =>
 br (some v8) (
 doQ (ZB 29) fun v9 =>
 doW (Zj H5 29 v1 v9) fun v10 H6 =>
 doQ (ZK H6 v1 29) fun v11 =>
 Q (.tup [v11,v5]) H6) (
 doQ (Zb H5 24 v6) fun v9 =>
 doW (Za true H5 17 13 [v9]) fun v10 H6 =>
 doQ (Zx v10 0) fun v11 =>
 doQ (Zx v10 1) fun v12 =>
 doW (Zj H6 29 v1 v11) fun v13 H7 =>
 doQ (ZK H7 v1 29) fun v14 =>
 Q (.tup [v14,v12]) H7)
theorem Ck(x0:AV)(H:Heap)(Q:AV→Heap→Prop)(h : ∀g,vV g x0 H Q):GoL env Tryz.f8 0 [.code vO] [(0,x0)] H Q:=⟨fun g=>bn (live:=C0) (cut:=Dt) (n:=500) (Eq.mp (by kernel_rfl) (h g))⟩
noncomputable def qY:Code:=(Tryz.f9.body).getD .skip
def xJ:Nat→Option (List Nat):=fun i=>none
def yc:Nat→Bool:=fun i=>false
def nF(g:Nat→AV)(x0 x1:AV)(H:Heap)(Q:AV→Heap→Prop):Prop :=
 doW (Zd H 2 29 x0) fun v1 H1 =>
 doW (Zd H1 3 51 x1) fun v2 H2 =>
 doW (Zf H2 4 29) fun v3 H3 =>
 doQ (Zb H3 29 v1) fun v4 =>
 doQ (Z0 92 0 v4) fun v5 =>
 doQ (tH (.func 41) (some []) (some [v2])) fun v6 =>
 doW (Za true H3 9 40 [v5,v6]) fun v7 H4 =>
 doQ (Zx v7 0) fun v8 =>
 doQ (Zx v7 1) fun v9 =>
 doW (Zj H4 29 v3 v8) fun v10 H5 =>
 doQ (ZK H5 v3 29) fun v11 =>
 Q (.tup [v11,v9]) H5
theorem w9(x0 x1:AV)(H:Heap)(Q:AV→Heap→Prop)(h : ∀g,nF g x0 x1 H Q):GoL env Tryz.f9 0 [.code qY] [(0,x0),(1,x1)] H Q:=⟨fun g=>bn (live:=xJ) (cut:=yc) (n:=500) (Eq.mp (by kernel_rfl) (h g))⟩
noncomputable def uo:Code:=(Tryz.f11.body).getD .skip
def Bm:Nat→Option (List Nat):=fun i=>none
def BI:Nat→Bool:=fun i=>false
def pP(g:Nat→AV)(x0:AV)(H:Heap)(Q:AV→Heap→Prop):Prop :=
 doW (Zd H 1 29 x0) fun v1 H1 =>
 doW (Zf H1 2 29) fun v2 H2 =>
 doQ (Zb H2 29 v1) fun v3 =>
 doQ (Z0 92 0 v3) fun v4 =>
 doW (Za true H2 6 40 [v4,(.fn (.func 43) [] [])]) fun v5 H3 =>
 doQ (Zx v5 0) fun v6 =>
 doQ (Zx v5 1) fun v7 =>
 doW (Zj H3 29 v2 v6) fun v8 H4 =>
 doQ (ZK H4 v2 29) fun v9 =>
 Q (.tup [v9,v7]) H4
theorem Av(x0:AV)(H:Heap)(Q:AV→Heap→Prop)(h : ∀g,pP g x0 H Q):GoL env Tryz.f11 0 [.code uo] [(0,x0)] H Q:=⟨fun g=>bn (live:=Bm) (cut:=BI) (n:=500) (Eq.mp (by kernel_rfl) (h g))⟩
noncomputable def yn:Code:=(Tryz.f13.body).getD .skip
def EB:Nat→Option (List Nat):=fun i=>none
def E9:Nat→Bool:=fun i=>false
def ld(g:Nat→AV)(x0:AV)(H:Heap)(Q:AV→Heap→Prop):Prop :=
 doW (Zd H 1 24 x0) fun v1 H1 =>
 doW (Zf H1 2 29) fun v2 H2 =>
 doQ (Zb H2 24 v1) fun v3 =>
 doW (Za true H2 10 45 [v3]) fun v4 H3 =>
 doQ (Zc 30 11 0 v4) fun v5 =>
 br (some v5) (
 doQ (Zb H3 29 v2) fun v6 =>
 doW (Zj H3 29 v2 v6) fun v7 H4 =>
 doQ (ZK H4 v2 29) fun v8 =>
 Q (.tup [v8,v4]) H4) (
 doQ (Zh 24 v1 1) fun v6 =>
 doQ (Zb H3 3 v6) fun v7 =>
 doQ (Zm 3 16 1 v7) fun v8 =>
 br (some v8) (
 doQ (Zb H3 29 v2) fun v9 =>
 doW (Zj H3 29 v2 v9) fun v10 H4 =>
 doQ (ZK H4 v2 29) fun v11 =>
 Q (.tup [v11,(.v (.int .i64 2))]) H4) (
 doQ (Zb H3 24 v1) fun v9 =>
 doW (Za true H3 21 46 [v9]) fun v10 H4 =>
 doQ (Zx v10 0) fun v11 =>
 doQ (Zx v10 1) fun v12 =>
 doQ (Zx v10 2) fun v13 =>
 doW (Zf H4 6 27) fun v14 H5 =>
 doW (Zj H5 27 v14 v12) fun v15 H6 =>
 doQ (Zc 30 25 0 v13) fun v16 =>
 br (some v16) (
 doQ (Zb H6 29 v2) fun v17 =>
 doW (Zj H6 29 v2 v17) fun v18 H7 =>
 doQ (ZK H7 v2 29) fun v19 =>
 Q (.tup [v19,v13]) H7) (
 doQ (Zb H6 24 v1) fun v17 =>
 doQ (Zh 27 v14 1) fun v18 =>
 doQ (Zb H6 3 v18) fun v19 =>
 doW (Za true H6 33 47 [v17,(.v (.int .i64 0)),v19,(.v (.int .i64 2048))]) fun v20 H7 =>
 doQ (Zx v20 0) fun v21 =>
 doQ (Zx v20 1) fun v22 =>
 doQ (Zx v20 2) fun v23 =>
 doQ (Zc 30 37 0 v23) fun v24 =>
 br (some v24) (
 doQ (Zb H7 29 v2) fun v25 =>
 doW (Zj H7 29 v2 v25) fun v26 H8 =>
 doQ (ZK H8 v2 29) fun v27 =>
 Q (.tup [v27,v23]) H8) (
 doQ (Zb H7 24 v1) fun v25 =>
 doQ (Zh 27 v14 1) fun v26 =>
 doQ (Zb H7 3 v26) fun v27 =>
 doQ (Ze H7 45 25 v21) fun v28 =>
 doQ (Zs 3 43 45 v27 v28) fun v29 =>
 doW (Za true H7 47 48 [v25,v29]) fun v30 H8 =>
 doQ (ZG v30) fun v31 =>
 br (some v31) (
 doQ (Zb H8 29 v2) fun v32 =>
 doW (Zj H8 29 v2 v32) fun v33 H9 =>
 doQ (ZK H9 v2 29) fun v34 =>
 Q (.tup [v34,(.v (.int .i64 8))]) H9) (
 doQ (Zb H8 24 v1) fun v32 =>
 doW (Za false H8 51 49 [v32]) fun v33 H9 =>
 doW (Z4 H9 54 139 2 0 v11 1 v21) fun v34 H10 =>
 doW (Za false H10 55 50 [v34]) fun v35 H11 =>
 doQ (Zb H11 27 v14) fun v36 =>
 doQ (bQ env.P 29 (some [(0,v33),(1,v35),(2,v36),(3,v22)])) fun v37 =>
 doW (Zj H11 29 v2 v37) fun v38 H12 =>
 doQ (ZK H12 v2 29) fun v39 =>
 Q (.tup [v39,(.v (.int .i64 0))]) H12)))))
theorem DV(x0:AV)(H:Heap)(Q:AV→Heap→Prop)(h : ∀g,ld g x0 H Q):GoL env Tryz.f13 0 [.code yn] [(0,x0)] H Q:=⟨fun g=>bn (live:=EB) (cut:=E9) (n:=500) (Eq.mp (by kernel_rfl) (h g))⟩
noncomputable def sg:Code:=(Tryz.f16.body).getD .skip
def zb:Nat→Option (List Nat):=fun i=>none
def zt:Nat→Bool:=fun i=>false
def oF(g:Nat→AV)(x0:AV)(H:Heap)(Q:AV→Heap→Prop):Prop :=
 doW (Zd H 1 29 x0) fun v1 H1 =>
 doQ (Zh 29 v1 0) fun v2 =>
 doQ (Zb H1 24 v2) fun v3 =>
 doW (Za true H1 8 13 [v3]) fun v4 H2 =>
 doQ (Zx v4 0) fun v5 =>
 doQ (Zx v4 1) fun v6 =>
 doW (Zf H2 3 29) fun v7 H3 =>
 doW (Zj H3 29 v7 v5) fun v8 H4 =>
 doQ (Zc 30 11 0 v6) fun v9 =>
 gQ v9 false (Zb H4 29 v7) fun v10 =>
 gQ v9 false (Zb H4 29 v1) fun v11 =>
 gW v9 false H4 (Za true H4 16 22 [v10,v11]) fun v12 H5 =>
 gQ v9 false (ZG v12) fun v13 =>
 doQ (Zn v9 v13) fun v14 =>
 br (some v14) (
 Q (.v (.int .i64 8)) H5) (
 Q (.v (.int .i64 0)) H5)
theorem yJ(x0:AV)(H:Heap)(Q:AV→Heap→Prop)(h : ∀g,oF g x0 H Q):GoL env Tryz.f16 0 [.code sg] [(0,x0)] H Q:=⟨fun g=>bn (live:=zb) (cut:=zt) (n:=500) (Eq.mp (by kernel_rfl) (h g))⟩
noncomputable def sf:Code:=(Tryz.f20.body).getD .skip
def za:Nat→Option (List Nat):=fun i=>none
def zr:Nat→Bool:=fun i=>false
def sD(g:Nat→AV)(x0:AV)(H:Heap)(Q:AV→Heap→Prop):Prop :=
 doW (Zd H 1 29 x0) fun v1 H1 =>
 doQ (Zh 29 v1 0) fun v2 =>
 doQ (Zh 24 v2 1) fun v3 =>
 doQ (Zb H1 3 v3) fun v4 =>
 Q v4 H1
theorem yI(x0:AV)(H:Heap)(Q:AV→Heap→Prop)(h : ∀g,sD g x0 H Q):GoL env Tryz.f20 0 [.code sf] [(0,x0)] H Q:=⟨fun g=>bn (live:=za) (cut:=zr) (n:=500) (Eq.mp (by kernel_rfl) (h g))⟩
noncomputable def uj:Code:=(Tryz.f22.body).getD .skip
def Bl:Nat→Option (List Nat):=fun i=>none
def BH:Nat→Bool:=fun i=>false
def jq(g:Nat→AV)(x0 x1:AV)(H:Heap)(Q:AV→Heap→Prop):Prop :=
 doW (Zd H 2 29 x0) fun v1 H1 =>
 doW (Zd H1 3 29 x1) fun v2 H2 =>
 doQ (Zh 29 v1 0) fun v3 =>
 doQ (Zb H2 24 v3) fun v4 =>
 doQ (Zh 29 v2 0) fun v5 =>
 doQ (Zb H2 24 v5) fun v6 =>
 doW (Za true H2 9 53 [v4,v6]) fun v7 H3 =>
 gQ v7 true (Zh 29 v1 1) fun v8 =>
 gQ v7 true (Zb H3 25 v8) fun v9 =>
 gQ v7 true (Zh 29 v2 1) fun v10 =>
 gQ v7 true (Zb H3 25 v10) fun v11 =>
 gW v7 true H3 (Za true H3 15 54 [v9,v11,(.fn (.func 55) [] [])]) fun v12 H4 =>
 doQ (Zi v7 v12) fun v13 =>
 gQ v13 true (Zh 29 v1 2) fun v14 =>
 gQ v13 true (Zb H4 27 v14) fun v15 =>
 gQ v13 true (Zh 29 v2 2) fun v16 =>
 gQ v13 true (Zb H4 27 v16) fun v17 =>
 gQ v13 true (Zo 27 19 21 v15 v17) fun v18 =>
 doQ (Zi v13 v18) fun v19 =>
 gQ v19 true (Zh 29 v1 3) fun v20 =>
 gQ v19 true (Zb H4 3 v20) fun v21 =>
 gQ v19 true (Zh 29 v2 3) fun v22 =>
 gQ v19 true (Zb H4 3 v22) fun v23 =>
 gQ v19 true (Zo 3 26 28 v21 v23) fun v24 =>
 doQ (Zi v19 v24) fun v25 =>
 Q v25 H4
theorem Au(x0 x1:AV)(H:Heap)(Q:AV→Heap→Prop)(h : ∀g,jq g x0 x1 H Q):GoL env Tryz.f22 0 [.code uj] [(0,x0),(1,x1)] H Q:=⟨fun g=>bn (live:=Bl) (cut:=BH) (n:=500) (Eq.mp (by kernel_rfl) (h g))⟩
noncomputable def fe:Code:=(Tryz.f40.body).getD .skip
def kV:Nat→Option (List Nat):=fun i=>none
def k6:Nat→Bool:=fun i=>false
def bC(g:Nat→AV)(x0 x1:AV)(H:Heap)(Q:AV→Heap→Prop):Prop :=
 doW (Zd H 2 92 x0) fun v1 H1 =>
 doW (Zf H1 4 29) fun v2 H2 =>
 doQ (Zh 92 v1 0) fun v3 =>
 doQ (Zb H2 29 v3) fun v4 =>
 doW (Za true H2 11 16 [v4]) fun v5 H3 =>
 doQ (Zc 30 12 0 v5) fun v6 =>
 br (some v6) (
 doQ (ZB 29) fun v7 =>
 doW (Zj H3 29 v2 v7) fun v8 H4 =>
 doQ (ZK H4 v2 29) fun v9 =>
 Q (.tup [v9,v5]) H4) (
 doQ (Zb H3 92 v1) fun v7 =>
 doW (ZA H3 19 x1 v7) fun v8 H4 =>
 doQ (Zx v8 0) fun v9 =>
 doQ (Zx v8 1) fun v10 =>
 doW (Zf H4 7 24) fun v11 H5 =>
 doW (Zj H5 24 v11 v9) fun v12 H6 =>
 doQ (Zc 30 22 0 v10) fun v13 =>
 br (some v13) (
 doQ (ZB 29) fun v14 =>
 doW (Zj H6 29 v2 v14) fun v15 H7 =>
 doQ (ZK H7 v2 29) fun v16 =>
 Q (.tup [v16,v10]) H7) (
 doQ (Zb H6 24 v11) fun v14 =>
 doW (Za true H6 27 13 [v14]) fun v15 H7 =>
 doQ (Zx v15 0) fun v16 =>
 doQ (Zx v15 1) fun v17 =>
 doW (Zj H7 29 v2 v16) fun v18 H8 =>
 doQ (ZK H8 v2 29) fun v19 =>
 Q (.tup [v19,v17]) H8))
theorem gZ(x0 x1:AV)(H:Heap)(Q:AV→Heap→Prop)(h : ∀g,bC g x0 x1 H Q):GoL env Tryz.f40 0 [.code fe] [(0,x0),(1,x1)] H Q:=⟨fun g=>bn (live:=kV) (cut:=k6) (n:=500) (Eq.mp (by kernel_rfl) (h g))⟩
noncomputable def pd:Code:=(Tryz.f41.body).getD .skip
def ve:Nat→Option (List Nat):=fun i=>none
def vj:Nat→Bool:=fun i=>false
def lg(g:Nat→AV)(x0 x1:AV)(H:Heap)(Q:AV→Heap→Prop):Prop :=
 doW (Zd H 2 92 x0) fun v1 H1 =>
 doW (Zf H1 3 24) fun v2 H2 =>
 doQ (Zh 92 v1 0) fun v3 =>
 doQ (Zh 29 v3 0) fun v4 =>
 doQ (Zb H2 24 v4) fun v5 =>
 doQ (Zh 92 v1 0) fun v6 =>
 doQ (Zh 29 v6 3) fun v7 =>
 doQ (Zb H2 3 v7) fun v8 =>
 doQ (Zh 92 v1 0) fun v9 =>
 doQ (Zh 29 v9 1) fun v10 =>
 doQ (Zb H2 25 v10) fun v11 =>
 doQ (Ze H2 18 25 v11) fun v12 =>
 doQ (Zg 3 18 1 v12) fun v13 =>
 doQ (Zb H2 51 x1) fun v14 =>
 doW (Za true H2 21 42 [v5,(.v (.int .i64 0)),v8,v13,v14]) fun v15 H3 =>
 doQ (Zx v15 0) fun v16 =>
 doQ (Zx v15 1) fun v17 =>
 doQ (Zx v15 2) fun v18 =>
 doW (Zf H3 5 24) fun v19 H4 =>
 doW (Zj H4 24 v19 v16) fun v20 H5 =>
 doQ (Zb H5 24 v19) fun v21 =>
 doW (Zj H5 24 v2 v21) fun v22 H6 =>
 doQ (ZK H6 v2 24) fun v23 =>
 Q (.tup [v23,v18]) H6
theorem uN(x0 x1:AV)(H:Heap)(Q:AV→Heap→Prop)(h : ∀g,lg g x0 x1 H Q):GoL env Tryz.f41 0 [.code pd] [(0,x0),(1,x1)] H Q:=⟨fun g=>bn (live:=ve) (cut:=vj) (n:=500) (Eq.mp (by kernel_rfl) (h g))⟩
noncomputable def ic:Code:=(Tryz.f43.body).getD .skip
def kW:Nat→Option (List Nat):=fun i=>none
def k7:Nat→Bool:=fun i=>false
def fh(g:Nat→AV)(x0:AV)(H:Heap)(Q:AV→Heap→Prop):Prop :=
 doW (Zd H 1 92 x0) fun v1 H1 =>
 doW (Zf H1 2 24) fun v2 H2 =>
 doQ (Zh 92 v1 0) fun v3 =>
 doQ (Zh 29 v3 0) fun v4 =>
 doQ (Zb H2 24 v4) fun v5 =>
 doQ (Zh 92 v1 0) fun v6 =>
 doQ (Zh 29 v6 1) fun v7 =>
 doQ (Zb H2 25 v7) fun v8 =>
 doW (Za true H2 10 72 [v5,v8]) fun v9 H3 =>
 doQ (Zx v9 0) fun v10 =>
 doQ (Zx v9 1) fun v11 =>
 doW (Zj H3 24 v2 v10) fun v12 H4 =>
 doQ (ZK H4 v2 24) fun v13 =>
 Q (.tup [v13,v11]) H4
theorem kS(x0:AV)(H:Heap)(Q:AV→Heap→Prop)(h : ∀g,fh g x0 H Q):GoL env Tryz.f43 0 [.code ic] [(0,x0)] H Q:=⟨fun g=>bn (live:=kW) (cut:=k7) (n:=500) (Eq.mp (by kernel_rfl) (h g))⟩
noncomputable def sd:Code:=(Tryz.f48.body).getD .skip
def y8:Nat→Option (List Nat):=fun i=>none
def zq:Nat→Bool:=fun i=>false
def sC(g:Nat→AV)(x0 x1:AV)(H:Heap)(Q:AV→Heap→Prop):Prop :=
 doW (Zd H 2 24 x0) fun v1 H1 =>
 doW (Zd H1 3 3 x1) fun v2 H2 =>
 doQ (tH (.func 75) (some []) (some [v1,v2])) fun v3 =>
 doQ (Zh 24 v1 0) fun v4 =>
 doQ (Zb H2 22 v4) fun v5 =>
 doW (Za true H2 10 77 [v5,v3]) fun v6 H3 =>
 doQ (ZG v6) fun v7 =>
 Q v7 H3
theorem yH(x0 x1:AV)(H:Heap)(Q:AV→Heap→Prop)(h : ∀g,sC g x0 x1 H Q):GoL env Tryz.f48 0 [.code sd] [(0,x0),(1,x1)] H Q:=⟨fun g=>bn (live:=y8) (cut:=zq) (n:=500) (Eq.mp (by kernel_rfl) (h g))⟩
noncomputable def qc:Code:=(Tryz.f75.body).getD .skip
def wm:Nat→Option (List Nat):=fun i=>none
def wB:Nat→Bool:=fun i=>false
def eS(g:Nat→AV)(x0 x1 x2:AV)(H:Heap)(Q:AV→Heap→Prop):Prop :=
 doW (Zd H 3 78 x0) fun v1 H1 =>
 doQ (Zh 78 v1 1) fun v2 =>
 doQ (Zb H1 76 v2) fun v3 =>
 doW (Za true H1 11 76 [v3]) fun v4 H2 =>
 doQ (Zx v4 0) fun v5 =>
 doQ (Zx v4 1) fun v6 =>
 doW (Zf H2 5 132) fun v7 H3 =>
 doW (Zj H3 132 v7 v5) fun v8 H4 =>
 doQ (Zh 132 v7 0) fun v9 =>
 doQ (Zb H4 3 v9) fun v10 =>
 doQ (Zh 24 x1 1) fun v11 =>
 doQ (Zb H4 3 v11) fun v12 =>
 doQ (ZV 3 15 17 v10 v12) fun v13 =>
 gQ v13 false (Zh 132 v7 1) fun v14 =>
 gQ v13 false (Zb H4 3 v14) fun v15 =>
 gQ v13 false (Zb H4 3 x2) fun v16 =>
 gQ v13 false (Zg 3 22 1 v16) fun v17 =>
 gQ v13 false (ZV 3 21 23 v15 v17) fun v18 =>
 doQ (Zn v13 v18) fun v19 =>
 gQ v19 false (Zh 132 v7 1) fun v20 =>
 gQ v19 false (Zb H4 3 v20) fun v21 =>
 gQ v19 false (Zb H4 3 x2) fun v22 =>
 gQ v19 false (Zg 3 29 1 v22) fun v23 =>
 gQ v19 false (Zo 3 28 30 v21 v23) fun v24 =>
 gQ v19 false (ZI v24) fun v25 =>
 gQ v25 true (Zh 132 v7 0) fun v26 =>
 gQ v25 true (Zb H4 3 v26) fun v27 =>
 gQ v25 true (Zh 24 x1 1) fun v28 =>
 gQ v25 true (Zb H4 3 v28) fun v29 =>
 gQ v25 true (Zo 3 34 36 v27 v29) fun v30 =>
 gQ v19 false (Zi v25 v30) fun v31 =>
 gQ v19 false (ZI v31) fun v32 =>
 gQ v32 true (Zh 24 x1 3) fun v33 =>
 gQ v32 true (Zb H4 4 v33) fun v34 =>
 gQ v32 true (ZG v34) fun v35 =>
 gQ v19 false (Zi v32 v35) fun v36 =>
 doQ (Zn v19 v36) fun v37 =>
 doQ (Zh 78 v1 0) fun v38 =>
 doQ (Zb H4 3 v38) fun v39 =>
 doQ (Zm 3 46 2048 v39) fun v40 =>
 gQ v40 true (ZI v6) fun v41 =>
 gQ v40 true (Zl 30 49 0 v41) fun v42 =>
 doQ (Zi v40 v42) fun v43 =>
 gQ v43 true (ZI v37) fun v44 =>
 doQ (Zi v43 v44) fun v45 =>
 Q v45 H4
theorem wb(x0 x1 x2:AV)(H:Heap)(Q:AV→Heap→Prop)(h : ∀g,eS g x0 x1 x2 H Q):GoL env Tryz.f75 0 [.code qc] [(0,x0),(1,x1),(2,x2)] H Q:=⟨fun g=>bn (live:=wm) (cut:=wB) (n:=500) (Eq.mp (by kernel_rfl) (h g))⟩
noncomputable def cH:Code:=(Tryz.f77.body).getD .skip
def ef:Nat→Option (List Nat):=fun i=>none
def eg:Nat→Bool:=fun i=>false
def cI(g:Nat→AV)(x0 x1:AV)(H:Heap)(Q:AV→Heap→Prop):Prop :=
 doW (Za true H 7 119 [x0,x1]) fun v1 H1 =>
 doQ (Zk 3 7 0 v1) fun v2 =>
 Q v2 H1
theorem dZ(x0 x1:AV)(H:Heap)(Q:AV→Heap→Prop)(h : ∀g,cI g x0 x1 H Q):GoL env Tryz.f77 0 [.code cH] [(0,x0),(1,x1)] H Q:=⟨fun g=>bn (live:=ef) (cut:=eg) (n:=500) (Eq.mp (by kernel_rfl) (h g))⟩
noncomputable def bL:Code:=(Tryz.f119.body).getD .skip
noncomputable def bh:List Item:=(cb 2 400 [.code bL]).getD []
def cP:Nat→Option (List Nat):=fun i=>cond (Nat.beq i 2) (some [8,0,1,7]) (none)
def cQ:Nat→Bool:=fun i=>false
def cR(g:Nat→AV)(x0 x1:AV)(H:Heap)(Q:AV→Heap→Prop):Prop :=
 doQ (Ze H 7 22 x0) fun v1 =>
  GoL env Tryz.f119 0 bh [(8,(.v (.int .i64 0))),(0,x0),(1,x1),(7,v1)] H Q
theorem eB(x0 x1:AV)(H:Heap)(Q:AV→Heap→Prop)(h : ∀g,cR g x0 x1 H Q):GoL env Tryz.f119 0 [.code bL] [(0,x0),(1,x1)] H Q:=⟨fun g=>bn (live:=cP) (cut:=cQ) (n:=500) (Eq.mp (by kernel_rfl) (h g))⟩
def bj(g:Nat→AV)(x8 x0 x1 x7:AV)(H:Heap)(Q:AV→Heap→Prop):Prop :=
 doQ (Zq 3 8 7 x8 x7) fun v1 =>
 br (some v1) (
 doQ (Zu H 22 x0 x8) fun v2 =>
 doQ (Zb H 78 v2) fun v3 =>
 doW (ZA H 16 x1 v3) fun v4 H1 =>
 br (some v4) (
 Q x8 H1) (
 doQ (Zg 3 8 1 x8) fun v5 =>
  GoL env Tryz.f119 0 bh [(8,v5),(0,x0),(1,x1),(7,x7)] H1 Q)) (
 Q (.v (.int .i64 (-1))) H)
theorem cM(x8 x0 x1 x7:AV)(H:Heap)(Q:AV→Heap→Prop)(h : ∀g,bj g x8 x0 x1 x7 H Q):GoL env Tryz.f119 0 bh [(8,x8),(0,x0),(1,x1),(7,x7)] H Q:=cV fun g=>bn (live:=cP) (cut:=cQ) (n:=500) (Eq.mp (by kernel_rfl) (h g))
noncomputable def vT:Code:=(Tryz.f53.body).getD .skip
def C7:Nat→Option (List Nat):=fun i=>none
def DA:Nat→Bool:=fun i=>false
def lV(g:Nat→AV)(x0 x1:AV)(H:Heap)(Q:AV→Heap→Prop):Prop :=
 doW (Zd H 2 24 x0) fun v1 H1 =>
 doW (Zd H1 3 24 x1) fun v2 H2 =>
 doQ (Zh 24 v1 0) fun v3 =>
 doQ (Zb H2 22 v3) fun v4 =>
 doQ (Zh 24 v2 0) fun v5 =>
 doQ (Zb H2 22 v5) fun v6 =>
 doW (Za true H2 11 88 [v4,v6,(.fn (.func 86) [] [])]) fun v7 H3 =>
 gQ v7 true (Zh 24 v1 1) fun v8 =>
 gQ v7 true (Zb H3 3 v8) fun v9 =>
 gQ v7 true (Zh 24 v2 1) fun v10 =>
 gQ v7 true (Zb H3 3 v10) fun v11 =>
 gQ v7 true (Zo 3 14 16 v9 v11) fun v12 =>
 doQ (Zi v7 v12) fun v13 =>
 gQ v13 true (Zh 24 v1 2) fun v14 =>
 gQ v13 true (Zb H3 3 v14) fun v15 =>
 gQ v13 true (Zh 24 v2 2) fun v16 =>
 gQ v13 true (Zb H3 3 v16) fun v17 =>
 gQ v13 true (Zo 3 21 23 v15 v17) fun v18 =>
 doQ (Zi v13 v18) fun v19 =>
 gQ v19 true (Zh 24 v1 3) fun v20 =>
 gQ v19 true (Zb H3 4 v20) fun v21 =>
 gQ v19 true (Zh 24 v2 3) fun v22 =>
 gQ v19 true (Zb H3 4 v22) fun v23 =>
 gQ v19 true (Zo 4 28 30 v21 v23) fun v24 =>
 doQ (Zi v19 v24) fun v25 =>
 Q v25 H3
theorem Ct(x0 x1:AV)(H:Heap)(Q:AV→Heap→Prop)(h : ∀g,lV g x0 x1 H Q):GoL env Tryz.f53 0 [.code vT] [(0,x0),(1,x1)] H Q:=⟨fun g=>bn (live:=C7) (cut:=DA) (n:=500) (Eq.mp (by kernel_rfl) (h g))⟩
noncomputable def su:Code:=(Tryz.f86.body).getD .skip
def zk:Nat→Option (List Nat):=fun i=>none
def zD:Nat→Bool:=fun i=>false
def oJ(g:Nat→AV)(x0 x1:AV)(H:Heap)(Q:AV→Heap→Prop):Prop :=
 doW (Zd H 2 78 x0) fun v1 H1 =>
 doW (Zd H1 3 78 x1) fun v2 H2 =>
 doQ (Zh 78 v1 0) fun v3 =>
 doQ (Zb H2 3 v3) fun v4 =>
 doQ (Zh 78 v2 0) fun v5 =>
 doQ (Zb H2 3 v5) fun v6 =>
 doQ (Zo 3 6 8 v4 v6) fun v7 =>
 gQ v7 true (Zh 78 v1 1) fun v8 =>
 gQ v7 true (Zb H2 76 v8) fun v9 =>
 gQ v7 true (Zh 78 v2 1) fun v10 =>
 gQ v7 true (Zb H2 76 v10) fun v11 =>
 gW v7 true H2 (Za true H2 15 87 [v9,v11]) fun v12 H3 =>
 doQ (Zi v7 v12) fun v13 =>
 Q v13 H3
theorem yU(x0 x1:AV)(H:Heap)(Q:AV→Heap→Prop)(h : ∀g,oJ g x0 x1 H Q):GoL env Tryz.f86 0 [.code su] [(0,x0),(1,x1)] H Q:=⟨fun g=>bn (live:=zk) (cut:=zD) (n:=500) (Eq.mp (by kernel_rfl) (h g))⟩
noncomputable def aL:Code:=(Tryz.f88.body).getD .skip
noncomputable def ay:List Item:=(cb 4 400 [.code aL]).getD []
def aZ:Nat→Option (List Nat):=fun i=>cond (Nat.beq i 4) (some [17,2,1,15,16]) (none)
def bc:Nat→Bool:=fun i=>false
def aN(g:Nat→AV)(x0 x1 x2:AV)(H:Heap)(Q:AV→Heap→Prop):Prop :=
 doQ (Ze H 11 22 x0) fun v1 =>
 doQ (Ze H 13 22 x1) fun v2 =>
 doQ (Zz 3 11 13 v1 v2) fun v3 =>
 br (some v3) (
 Q (.v (.bool false)) H) (
 doQ (Ze H 16 22 x0) fun v4 =>
  GoL env Tryz.f88 0 ay [(17,(.v (.int .i64 0))),(2,x2),(1,x1),(15,x0),(16,v4)] H Q)
theorem cm(x0 x1 x2:AV)(H:Heap)(Q:AV→Heap→Prop)(h : ∀g,aN g x0 x1 x2 H Q):GoL env Tryz.f88 0 [.code aL] [(0,x0),(1,x1),(2,x2)] H Q:=⟨fun g=>bn (live:=aZ) (cut:=bc) (n:=500) (Eq.mp (by kernel_rfl) (h g))⟩
def aA(g:Nat→AV)(x17 x2 x1 x15 x16:AV)(H:Heap)(Q:AV→Heap→Prop):Prop :=
 doQ (Zq 3 17 16 x17 x16) fun v1 =>
 br (some v1) (
 doQ (Zu H 22 x15 x17) fun v2 =>
 doQ (Zb H 78 v2) fun v3 =>
 doW (Zf H 8 78) fun v4 H1 =>
 doW (Zj H1 78 v4 v3) fun v5 H2 =>
 doQ (Zu H2 22 x1 x17) fun v6 =>
 doQ (Zb H2 78 v6) fun v7 =>
 doW (Zf H2 9 78) fun v8 H3 =>
 doW (Zj H3 78 v8 v7) fun v9 H4 =>
 doQ (Zb H4 78 v4) fun v10 =>
 doQ (Zb H4 78 v8) fun v11 =>
 doW (ZQ H4 29 x2 v10 v11) fun v12 H5 =>
 doQ (ZG v12) fun v13 =>
 br (some v13) (
 Q (.v (.bool false)) H5) (
 doQ (Zg 3 17 1 x17) fun v14 =>
  GoL env Tryz.f88 0 ay [(17,v14),(2,x2),(1,x1),(15,x15),(16,x16)] H5 Q)) (
 Q (.v (.bool true)) H)
theorem aX(x17 x2 x1 x15 x16:AV)(H:Heap)(Q:AV→Heap→Prop)(h : ∀g,aA g x17 x2 x1 x15 x16 H Q):GoL env Tryz.f88 0 ay [(17,x17),(2,x2),(1,x1),(15,x15),(16,x16)] H Q:=cV fun g=>bn (live:=aZ) (cut:=bc) (n:=500) (Eq.mp (by kernel_rfl) (h g))
noncomputable def aM:Code:=(Tryz.f54.body).getD .skip
noncomputable def az:List Item:=(cb 4 400 [.code aM]).getD []
def a9:Nat→Option (List Nat):=fun i=>cond (Nat.beq i 4) (some [17,2,1,15,16]) (none)
def bg:Nat→Bool:=fun i=>false
def aO(g:Nat→AV)(x0 x1 x2:AV)(H:Heap)(Q:AV→Heap→Prop):Prop :=
 doQ (Ze H 11 25 x0) fun v1 =>
 doQ (Ze H 13 25 x1) fun v2 =>
 doQ (Zz 3 11 13 v1 v2) fun v3 =>
 br (some v3) (
 Q (.v (.bool false)) H) (
 doQ (Ze H 16 25 x0) fun v4 =>
  GoL env Tryz.f54 0 az [(17,(.v (.int .i64 0))),(2,x2),(1,x1),(15,x0),(16,v4)] H Q)
theorem cr(x0 x1 x2:AV)(H:Heap)(Q:AV→Heap→Prop)(h : ∀g,aO g x0 x1 x2 H Q):GoL env Tryz.f54 0 [.code aM] [(0,x0),(1,x1),(2,x2)] H Q:=⟨fun g=>bn (live:=a9) (cut:=bg) (n:=500) (Eq.mp (by kernel_rfl) (h g))⟩
def aC(g:Nat→AV)(x17 x2 x1 x15 x16:AV)(H:Heap)(Q:AV→Heap→Prop):Prop :=
 doQ (Zq 3 17 16 x17 x16) fun v1 =>
 br (some v1) (
 doQ (Zu H 25 x15 x17) fun v2 =>
 doQ (Zb H 51 v2) fun v3 =>
 doW (Zf H 8 51) fun v4 H1 =>
 doW (Zj H1 51 v4 v3) fun v5 H2 =>
 doQ (Zu H2 25 x1 x17) fun v6 =>
 doQ (Zb H2 51 v6) fun v7 =>
 doW (Zf H2 9 51) fun v8 H3 =>
 doW (Zj H3 51 v8 v7) fun v9 H4 =>
 doQ (Zb H4 51 v4) fun v10 =>
 doQ (Zb H4 51 v8) fun v11 =>
 doW (ZQ H4 29 x2 v10 v11) fun v12 H5 =>
 doQ (ZG v12) fun v13 =>
 br (some v13) (
 Q (.v (.bool false)) H5) (
 doQ (Zg 3 17 1 x17) fun v14 =>
  GoL env Tryz.f54 0 az [(17,v14),(2,x2),(1,x1),(15,x15),(16,x16)] H5 Q)) (
 Q (.v (.bool true)) H)
theorem aY(x17 x2 x1 x15 x16:AV)(H:Heap)(Q:AV→Heap→Prop)(h : ∀g,aC g x17 x2 x1 x15 x16 H Q):GoL env Tryz.f54 0 az [(17,x17),(2,x2),(1,x1),(15,x15),(16,x16)] H Q:=cV fun g=>bn (live:=a9) (cut:=bg) (n:=500) (Eq.mp (by kernel_rfl) (h g))
noncomputable def bo:Code:=(Tryz.f50.body).getD .skip
noncomputable def bk:List Item:=(cb 3 400 [.code bo]).getD []
noncomputable def bJ:List Item:=(cb 11 400 [.code bo]).getD []
def bR:Nat→Option (List Nat):=fun i=>cond (Nat.beq i 3) (some [11,3,9,0,10]) (cond (Nat.beq i 11) (some [27,6,25,26]) (none))
def bS:Nat→Bool:=fun i=>false
def cY(g:Nat→AV)(x0:AV)(H:Heap)(Q:AV→Heap→Prop):Prop :=
 doQ (Ze H 10 139 x0) fun v1 =>
  GoL env Tryz.f50 0 bk [(11,(.v (.int .i64 0))),(3,(.v (.int .i64 0))),(9,x0),(0,x0),(10,v1)] H Q
theorem eK(x0:AV)(H:Heap)(Q:AV→Heap→Prop)(h : ∀g,cY g x0 H Q):GoL env Tryz.f50 0 [.code bo] [(0,x0)] H Q:=⟨fun g=>bn (live:=bR) (cut:=bS) (n:=500) (Eq.mp (by kernel_rfl) (h g))⟩
def aU(g:Nat→AV)(x11 x3 x9 x0 x10:AV)(H:Heap)(Q:AV→Heap→Prop):Prop :=
 doQ (Zq 3 11 10 x11 x10) fun v1 =>
 br (some v1) (
 doQ (Zu H 139 x9 x11) fun v2 =>
 doQ (Zb H 25 v2) fun v3 =>
 doQ (Ze H 17 25 v3) fun v4 =>
 doQ (Zs 3 15 17 x3 v4) fun v5 =>
 doQ (Zm 3 19 0 v5) fun v6 =>
 br (some v6) (
 doQ (Z3 9) fun v7 =>
 doQ (none) fun v8 =>
 doQ (Zg 3 11 1 x11) fun v9 =>
  GoL env Tryz.f50 0 bk [(11,v9),(3,v5),(9,x9),(0,x0),(10,x10)] H Q) (
 doQ (Zg 3 11 1 x11) fun v7 =>
  GoL env Tryz.f50 0 bk [(11,v7),(3,v5),(9,x9),(0,x0),(10,x10)] H Q)) (
 doW (Za true H 24 80 [(.v (.slice none 0 0)),x3]) fun v2 H1 =>
 doQ (Ze H1 26 139 x0) fun v3 =>
  GoL env Tryz.f50 0 bJ [(27,(.v (.int .i64 0))),(6,v2),(25,x0),(26,v3)] H1 Q)
theorem bM(x11 x3 x9 x0 x10:AV)(H:Heap)(Q:AV→Heap→Prop)(h : ∀g,aU g x11 x3 x9 x0 x10 H Q):GoL env Tryz.f50 0 bk [(11,x11),(3,x3),(9,x9),(0,x0),(10,x10)] H Q:=cV fun g=>bn (live:=bR) (cut:=bS) (n:=500) (Eq.mp (by kernel_rfl) (h g))
def an(g:Nat→AV)(x27 x6 x25 x26:AV)(H:Heap)(Q:AV→Heap→Prop):Prop :=
 doQ (Zq 3 27 26 x27 x26) fun v1 =>
 br (some v1) (
 doQ (Zu H 139 x25 x27) fun v2 =>
 doQ (Zb H 25 v2) fun v3 =>
 doW (Zt H 33 25 25 x6 v3) fun v4 H1 =>
 doQ (Zg 3 27 1 x27) fun v5 =>
  GoL env Tryz.f50 0 bJ [(27,v5),(6,v4),(25,x25),(26,x26)] H1 Q) (
 Q x6 H)
theorem aT(x27 x6 x25 x26:AV)(H:Heap)(Q:AV→Heap→Prop)(h : ∀g,an g x27 x6 x25 x26 H Q):GoL env Tryz.f50 0 bJ [(27,x27),(6,x6),(25,x25),(26,x26)] H Q:=cV fun g=>bn (live:=bR) (cut:=bS) (n:=500) (Eq.mp (by kernel_rfl) (h g))
noncomputable def bX:Code:=(Tryz.f80.body).getD .skip
def eW:Nat→Option (List Nat):=fun i=>none
def eX:Nat→Bool:=fun i=>false
def bY(g:Nat→AV)(x0 x1:AV)(H:Heap)(Q:AV→Heap→Prop):Prop :=
 doQ (Zm 3 5 0 x1) fun v1 =>
 br (some v1) (
 doQ (Z1 9) fun v2 =>
 doQ (none) fun v3 =>
 doQ (ZJ H 10 25 x0) fun v4 =>
 doQ (Ze H 12 25 x0) fun v5 =>
 doQ (ZE 3 10 12 v4 v5) fun v6 =>
 doQ (ZE 3 8 13 x1 v6) fun v7 =>
 doQ (Zr 3 15 0 v7) fun v8 =>
 br (some v8) (
 doQ (ZJ H 19 25 x0) fun v9 =>
 doQ (ZC H 25 x0 v9) fun v10 =>
 doW (Zt H 22 25 3 v10 v7) fun v11 H1 =>
 doQ (Ze H1 24 25 x0) fun v12 =>
 doQ (ZC H1 25 v11 v12) fun v13 =>
 Q v13 H1) (
 Q x0 H)) (
 doQ (ZJ H 10 25 x0) fun v2 =>
 doQ (Ze H 12 25 x0) fun v3 =>
 doQ (ZE 3 10 12 v2 v3) fun v4 =>
 doQ (ZE 3 8 13 x1 v4) fun v5 =>
 doQ (Zr 3 15 0 v5) fun v6 =>
 br (some v6) (
 doQ (ZJ H 19 25 x0) fun v7 =>
 doQ (ZC H 25 x0 v7) fun v8 =>
 doW (Zt H 22 25 3 v8 v5) fun v9 H1 =>
 doQ (Ze H1 24 25 x0) fun v10 =>
 doQ (ZC H1 25 v9 v10) fun v11 =>
 Q v11 H1) (
 Q x0 H))
theorem dc(x0 x1:AV)(H:Heap)(Q:AV→Heap→Prop)(h : ∀g,bY g x0 x1 H Q):GoL env Tryz.f80 0 [.code bX] [(0,x0),(1,x1)] H Q:=⟨fun g=>bn (live:=eW) (cut:=eX) (n:=500) (Eq.mp (by kernel_rfl) (h g))⟩
end Go.Proofs.YtiidajnodhkidaaGreat
