/-
  What is to be shown of each function, computed from its code. No statement of a seat is proved here.
-/
import Derived.Test.YtiidajnodhkidaaGreatMStOk
set_option linter.unusedVariables false
set_option maxRecDepth 1000000
namespace Go.Proofs.YtiidajnodhkidaaGreat
open Go.Ab
noncomputable def mw:Code:=(Tryz.f10.body).getD .skip
def rK:Nat→Option (List Nat):=fun i=>none
def rN:Nat→Bool:=fun i=>false
def mz(g:Nat→AV)(H:Heap)(Q:AV→Heap→Prop):Prop :=
 doW (Zf H 0 51) fun v1 H1 =>
 doQ (bN env.P 36 (some [(0,(a8 1)),(1,(a32 1))])) fun v2 =>
 doQ (bN env.P 38 (some [(0,v2),(1,(a8 2))])) fun v3 =>
 doQ (Z0 45 1 v3) fun v4 =>
 doQ (bN env.P 51 (some [(0,(a8 1)),(1,(.v (.int .i64 3))),(2,v4)])) fun v5 =>
 doW (Zj H1 51 v1 v5) fun v6 H2 =>
 doQ (ZJ H2 v1 51) fun v7 =>
 Q v7 H2
theorem rI(H:Heap)(Q:AV→Heap→Prop)(h : ∀g,mz g  H Q):GoL env Tryz.f10 0 [.code mw] [] H Q:=⟨fun g=>bq (live:=rK) (cut:=rN) (n:=500) (Eq.mp (by kernel_rfl) (h g))⟩
noncomputable def j3:Code:=(Tryz.f14.body).getD .skip
def oK:Nat→Option (List Nat):=fun i=>none
def oU:Nat→Bool:=fun i=>false
def j6(g:Nat→AV)(H:Heap)(Q:AV→Heap→Prop):Prop :=
 doW (Za true H 8 8 [(.v (.int .i64 (-1)))]) fun v1 H1 =>
 doQ (Zy v1 0) fun v2 =>
 doQ (Zy v1 1) fun v3 =>
 doW (Zf H1 1 29) fun v4 H2 =>
 doW (Zj H2 29 v4 v2) fun v5 H3 =>
 doQ (Zb H3 29 v4) fun v6 =>
 doW (Za false H3 13 10 []) fun v7 H4 =>
 doW (Za false H4 14 9 [v6,v7]) fun v8 H5 =>
 doQ (Zy v8 0) fun v9 =>
 doQ (Zy v8 1) fun v10 =>
 doW (Zj H5 29 v4 v9) fun v11 H6 =>
 doQ (Zb H6 29 v4) fun v12 =>
 doW (Za false H6 19 10 []) fun v13 H7 =>
 doW (Za false H7 20 9 [v12,v13]) fun v14 H8 =>
 doQ (Zy v14 0) fun v15 =>
 doQ (Zy v14 1) fun v16 =>
 doW (Zj H8 29 v4 v15) fun v17 H9 =>
 doQ (Zb H9 29 v4) fun v18 =>
 doW (Za true H9 25 11 [v18]) fun v19 H10 =>
 doQ (Zy v19 0) fun v20 =>
 doQ (Zy v19 1) fun v21 =>
 doW (Zf H10 5 29) fun v22 H11 =>
 doW (Zj H11 29 v22 v20) fun v23 H12 =>
 doQ (Zl 30 28 0 v3) fun v24 =>
 gQ v24 true (ZD v10) fun v25 =>
 gQ v24 true (Zl 30 31 0 v25) fun v26 =>
 doQ (Zi v24 v26) fun v27 =>
 gQ v27 true (ZD v16) fun v28 =>
 gQ v27 true (Zl 30 35 0 v28) fun v29 =>
 doQ (Zi v27 v29) fun v30 =>
 gQ v30 true (Zb H12 29 v4) fun v31 =>
 gW v30 true H12 (Za false H12 40 10 []) fun v32 H13 =>
 gW v30 true H13 (Za false H13 41 10 []) fun v33 H14 =>
 gW v30 true H14 (Z6 H14 42 25 2 0 v32 1 v33) fun v34 H15 =>
 gW v30 true H15 (Za false H15 43 15 [v31,(.v (.int .i64 1)),(.v (.int .i64 2)),v34]) fun v35 H16 =>
 doQ (Zi v30 v35) fun v36 =>
 gQ v36 true (ZD v21) fun v37 =>
 gQ v36 true (Zl 30 46 0 v37) fun v38 =>
 doQ (Zi v36 v38) fun v39 =>
 gQ v39 true (Zb H16 29 v22) fun v40 =>
 gW v39 true H16 (Za false H16 51 10 []) fun v41 H17 =>
 gW v39 true H17 (Za false H17 52 10 []) fun v42 H18 =>
 gW v39 true H18 (Z6 H18 53 25 2 0 v41 1 v42) fun v43 H19 =>
 gW v39 true H19 (Za false H19 54 15 [v40,(.v (.int .i64 1)),(.v (.int .i64 0)),v43]) fun v44 H20 =>
 doQ (Zi v39 v44) fun v45 =>
 Q v45 H20
theorem oB(H:Heap)(Q:AV→Heap→Prop)(h : ∀g,j6 g  H Q):GoL env Tryz.f14 0 [.code j3] [] H Q:=⟨fun g=>bq (live:=oK) (cut:=oU) (n:=500) (Eq.mp (by kernel_rfl) (h g))⟩
noncomputable def lO:Code:=(Tryz.f15.body).getD .skip
def qI:Nat→Option (List Nat):=fun i=>none
def qO:Nat→Bool:=fun i=>false
def gG(g:Nat→AV)(x0 x1 x2 x3:AV)(H:Heap)(Q:AV→Heap→Prop):Prop :=
 doW (Zd H 4 29 x0) fun v1 H1 =>
 doQ (Zb H1 29 v1) fun v2 =>
 doW (Za true H1 10 16 [v2]) fun v3 H2 =>
 doQ (Zl 30 10 0 v3) fun v4 =>
 gQ v4 true (Zh 29 v1 1) fun v5 =>
 gQ v4 true (Zb H2 25 v5) fun v6 =>
 gQ v4 true (ZD x3) fun v7 =>
 gW v4 true H2 (Za true H2 16 21 [v6,v7]) fun v8 H3 =>
 doQ (Zi v4 v8) fun v9 =>
 gQ v9 true (Zb H3 29 v1) fun v10 =>
 gW v9 true H3 (Za true H3 20 20 [v10]) fun v11 H4 =>
 gQ v9 true (ZD x1) fun v12 =>
 gQ v9 true (Zo 3 20 21 v11 v12) fun v13 =>
 doQ (Zi v9 v13) fun v14 =>
 gQ v14 true (Zh 29 v1 3) fun v15 =>
 gQ v14 true (Zb H4 3 v15) fun v16 =>
 gQ v14 true (ZD x2) fun v17 =>
 gQ v14 true (Zo 3 26 27 v16 v17) fun v18 =>
 doQ (Zi v14 v18) fun v19 =>
 Q v19 H4
theorem qq(x0 x1 x2 x3:AV)(H:Heap)(Q:AV→Heap→Prop)(h : ∀g,gG g x0 x1 x2 x3 H Q):GoL env Tryz.f15 0 [.code lO] [(0,x0),(1,x1),(2,x2),(3,x3)] H Q:=⟨fun g=>bq (live:=qI) (cut:=qO) (n:=500) (Eq.mp (by kernel_rfl) (h g))⟩
noncomputable def gZ:Code:=(Tryz.f17.body).getD .skip
noncomputable def eX:List Item:=(cm 2 400 [.code gZ]).getD []
def jY:Nat→Option (List Nat):=fun i=>cond (Nat.beq i 2) (some [3,0]) (none)
def j1:Nat→Bool:=fun i=>false
def o7(g:Nat→AV)(x0:AV)(H:Heap)(Q:AV→Heap→Prop):Prop :=
 GoL env Tryz.f17 0 eX [(3,(.v (.int .i64 0))),(0,x0)] H Q
theorem oA(x0:AV)(H:Heap)(Q:AV→Heap→Prop)(h : ∀g,o7 g x0 H Q):GoL env Tryz.f17 0 [.code gZ] [(0,x0)] H Q:=⟨fun g=>bq (live:=jY) (cut:=j1) (n:=500) (Eq.mp (by kernel_rfl) (h g))⟩
def dT(g:Nat→AV)(x3 x0:AV)(H:Heap)(Q:AV→Heap→Prop):Prop :=
 doQ (Zg H 6 59 x0) fun v1 =>
 doQ (Zq 3 4 6 x3 v1) fun v2 =>
 gQ v2 true (ZD x3) fun v3 =>
 gQ v2 true (Zn 3 9 50 v3) fun v4 =>
 doQ (Zi v2 v4) fun v5 =>
 br (some v5) (
 doQ (Zs H 59 x0 x3) fun v6 =>
 doQ (Zh 63 v6 1) fun v7 =>
 doQ (Zh 51 v7 2) fun v8 =>
 doQ (Zh 45 v8 6) fun v9 =>
 doQ (Zb H 43 v9) fun v10 =>
 doQ (Zg H 21 43 v10) fun v11 =>
 doQ (Zr 3 21 200 v11) fun v12 =>
 br (some v12) (
 Q (.v (.bool true)) H) (
 doQ (Ze 3 12 1 x3) fun v13 =>
  GoL env Tryz.f17 0 eX [(3,v13),(0,x0)] H Q)) (
 doQ (Zg H 24 59 x0) fun v6 =>
 doQ (Zr 3 24 24 v6) fun v7 =>
 Q v7 H)
theorem jo(x3 x0:AV)(H:Heap)(Q:AV→Heap→Prop)(h : ∀g,dT g x3 x0 H Q):GoL env Tryz.f17 0 eX [(3,x3),(0,x0)] H Q:=c9 fun g=>bq (live:=jY) (cut:=j1) (n:=500) (Eq.mp (by kernel_rfl) (h g))
noncomputable def fK:Code:=(Tryz.f18.body).getD .skip
def pn:Nat→Option (List Nat):=fun i=>none
def pz:Nat→Bool:=fun i=>false
def dw(g:Nat→AV)(x0 x1:AV)(H:Heap)(Q:AV→Heap→Prop):Prop :=
 doW (Zd H 2 29 x0) fun v1 H1 =>
 doW (Zd H1 3 63 x1) fun v2 H2 =>
 doW (Zf H2 4 29) fun v3 H3 =>
 doQ (Zh 63 v2 0) fun v4 =>
 doQ (Zb H3 5 v4) fun v5 =>
 doQ (ZW 5 7 v5) fun v6 =>
 br (some v6) (
 doQ (Zb H3 29 v1) fun v7 =>
 doQ (Zh 63 v2 1) fun v8 =>
 doQ (Zb H3 51 v8) fun v9 =>
 doW (Za true H3 13 9 [v7,v9]) fun v10 H4 =>
 doQ (Zy v10 0) fun v11 =>
 doQ (Zy v10 1) fun v12 =>
 doW (Zj H4 29 v3 v11) fun v13 H5 =>
 doQ (ZJ H5 v3 29) fun v14 =>
 Q (.tup [v14,v12]) H5) (
 doQ (ZR 5 7 v5) fun v7 =>
 br (some v7) (
 doQ (Zb H3 29 v1) fun v8 =>
 doW (Za true H3 19 11 [v8]) fun v9 H4 =>
 doQ (Zy v9 0) fun v10 =>
 doQ (Zy v9 1) fun v11 =>
 doW (Zj H4 29 v3 v10) fun v12 H5 =>
 doQ (ZJ H5 v3 29) fun v13 =>
 Q (.tup [v13,v11]) H5) (
 doQ (Zb H3 29 v1) fun v8 =>
 doQ (Zh 63 v2 2) fun v9 =>
 doQ (Zb H3 3 v9) fun v10 =>
 doW (Za true H3 25 12 [v8,v10]) fun v11 H4 =>
 doQ (Zy v11 0) fun v12 =>
 doQ (Zy v11 1) fun v13 =>
 doW (Zj H4 29 v3 v12) fun v14 H5 =>
 doQ (ZJ H5 v3 29) fun v15 =>
 Q (.tup [v15,v13]) H5))
theorem ir(x0 x1:AV)(H:Heap)(Q:AV→Heap→Prop)(h : ∀g,dw g x0 x1 H Q):GoL env Tryz.f18 0 [.code fK] [(0,x0),(1,x1)] H Q:=⟨fun g=>bq (live:=pn) (cut:=pz) (n:=500) (Eq.mp (by kernel_rfl) (h g))⟩
end Go.Proofs.YtiidajnodhkidaaGreat
