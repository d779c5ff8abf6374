/-
  What is to be shown of each function, computed from its code. No statement of a seat is proved here.
-/
import Derived.Test.YtiidajnodhkidaaGreatMStOk
set_option linter.unusedVariables false
set_option maxRecDepth 1000000
namespace Go.Proofs.YtiidajnodhkidaaGreat
open Go.Ab
noncomputable def pA:Code:=(Tryz.f72.body).getD .skip
noncomputable def jK:List Item:=(cm 14 400 [.code pA]).getD []
def tM:Nat→Option (List Nat):=fun i=>cond (Nat.beq i 14) (some [4,50,2,11,10,48,9,49]) (none)
def tZ:Nat→Bool:=fun i=>false
def jn(g:Nat→AV)(x0 x1:AV)(H:Heap)(Q:AV→Heap→Prop):Prop :=
 doW (Zd H 2 24 x0) fun v1 H1 =>
 doW (Zf H1 4 24) fun v2 H2 =>
 doQ (Zb H2 24 v1) fun v3 =>
 doW (Za true H2 16 73 [v3]) fun v4 H3 =>
 doQ (Zy v4 0) fun v5 =>
 doQ (Zy v4 1) fun v6 =>
 doW (Zf H3 6 27) fun v7 H4 =>
 doW (Zj H4 27 v7 v5) fun v8 H5 =>
 doQ (Zc 30 20 0 v6) fun v9 =>
 br (some v9) (
 doQ (ZC 24) fun v10 =>
 doW (Zj H5 24 v2 v10) fun v11 H6 =>
 doQ (ZJ H6 v2 24) fun v12 =>
 Q (.tup [v12,v6]) H6) (
 doQ (Zh 24 v1 1) fun v10 =>
 doQ (Zb H5 3 v10) fun v11 =>
 doQ (Zn 3 26 1 v11) fun v12 =>
 br (some v12) (
 doQ (ZC 24) fun v13 =>
 doW (Zj H5 24 v2 v13) fun v14 H6 =>
 doQ (ZJ H6 v2 24) fun v15 =>
 Q (.tup [v15,(.v (.int .i64 2))]) H6) (
 doW (Za true H5 30 113 [x1]) fun v13 H6 =>
 doQ (Zc 30 31 0 v13) fun v14 =>
 br (some v14) (
 doQ (ZC 24) fun v15 =>
 doW (Zj H6 24 v2 v15) fun v16 H7 =>
 doQ (ZJ H7 v2 24) fun v17 =>
 Q (.tup [v17,v13]) H7) (
 doQ (Zh 27 v7 0) fun v15 =>
 doQ (Zb H6 3 v15) fun v16 =>
 doQ (Ze 3 36 1 v16) fun v17 =>
 doQ (Zg H6 39 25 x1) fun v18 =>
 doQ (Yt 27 0 v17 1 v18) fun v19 =>
 doW (Zf H6 9 27) fun v20 H7 =>
 doW (Zj H7 27 v20 v19) fun v21 H8 =>
 doQ (Zh 27 v20 0) fun v22 =>
 doQ (Zb H8 3 v22) fun v23 =>
 doQ (Zk 3 42 2147483648 v23) fun v24 =>
 br (some v24) (
 doQ (ZC 24) fun v25 =>
 doW (Zj H8 24 v2 v25) fun v26 H9 =>
 doQ (ZJ H9 v2 24) fun v27 =>
 Q (.tup [v27,(.v (.int .i64 9))]) H9) (
 doQ (Zh 27 v20 0) fun v25 =>
 doQ (Zb H8 3 v25) fun v26 =>
 doQ (ZQ 3 46 2 v26) fun v27 =>
 doQ (
  az env.P false (Heap.get H8) (Ref.mk 0 49 (Heap.gen H8 0 49) 0) .len #[25] [x1]) fun v28 =>
  GoL env Tryz.f72 0 jK [(4,v2),(50,(.v (.int .i64 0))),(2,v1),(11,(.v (.int .i64 0))),(10,v27),(48,x1),(9,v20),(49,v28)] H8 Q))))
theorem AG(x0 x1:AV)(H:Heap)(Q:AV→Heap→Prop)(h : ∀g,jn g x0 x1 H Q):GoL env Tryz.f72 0 [.code pA] [(0,x0),(1,x1)] H Q:=⟨fun g=>bq (live:=tM) (cut:=tZ) (n:=500) (Eq.mp (by kernel_rfl) (h g))⟩
def mj(g:Nat→AV)(x4 x50 x2 x11 x10 x48 x9 x49:AV)(H:Heap)(Q:AV→Heap→Prop):Prop :=
 doQ (Zq 3 50 49 x50 x49) fun v1 =>
 br (some v1) (
 doQ (Zs H 25 x48 x50) fun v2 =>
 doQ (Zb H 51 v2) fun v3 =>
 doW (Zf H 13 51) fun v4 H1 =>
 doW (Zj H1 51 v4 v3) fun v5 H2 =>
 doQ (Zb H2 24 x2) fun v6 =>
 doQ (ZP 3 1 57 x10) fun v7 =>
 doQ (Ze 3 60 1 x50) fun v8 =>
 doQ (Zb H2 51 v4) fun v9 =>
 doW (Za true H2 63 42 [v6,v7,x11,v8,v9]) fun v10 H3 =>
 doQ (Zy v10 0) fun v11 =>
 doQ (Zy v10 1) fun v12 =>
 doQ (Zy v10 2) fun v13 =>
 doW (Zj H3 24 x2 v11) fun v14 H4 =>
 doQ (Zc 30 67 0 v13) fun v15 =>
 br (some v15) (
 doQ (ZC 24) fun v16 =>
 doW (Zj H4 24 x4 v16) fun v17 H5 =>
 doQ (ZJ H5 x4 24) fun v18 =>
 Q (.tup [v18,v13]) H5) (
 doQ (Ze 3 50 1 x50) fun v16 =>
  GoL env Tryz.f72 0 jK [(4,x4),(50,v16),(2,x2),(11,v12),(10,x10),(48,x48),(9,x9),(49,x49)] H4 Q)) (
 doQ (Zb H 24 x2) fun v2 =>
 doQ (ZP 3 6144 73 x10) fun v3 =>
 doQ (Zb H 27 x9) fun v4 =>
 doW (Za false H 76 114 [v4]) fun v5 H1 =>
 doW (Za false H1 77 71 [v2,v3,v5]) fun v6 H2 =>
 doQ (Zy v6 0) fun v7 =>
 doQ (Zy v6 1) fun v8 =>
 doW (Zj H2 24 x4 v7) fun v9 H3 =>
 doQ (ZJ H3 x4 24) fun v10 =>
 Q (.tup [v10,v8]) H3)
theorem pN(x4 x50 x2 x11 x10 x48 x9 x49:AV)(H:Heap)(Q:AV→Heap→Prop)(h : ∀g,mj g x4 x50 x2 x11 x10 x48 x9 x49 H Q):GoL env Tryz.f72 0 jK [(4,x4),(50,x50),(2,x2),(11,x11),(10,x10),(48,x48),(9,x9),(49,x49)] H Q:=c9 fun g=>bq (live:=tM) (cut:=tZ) (n:=500) (Eq.mp (by kernel_rfl) (h g))
noncomputable def uq:Code:=(Tryz.f46.body).getD .skip
def Bv:Nat→Option (List Nat):=fun i=>none
def BQ:Nat→Bool:=fun i=>false
def mM(g:Nat→AV)(x0:AV)(H:Heap)(Q:AV→Heap→Prop):Prop :=
 doW (Zd H 1 24 x0) fun v1 H1 =>
 doW (Zf H1 3 27) fun v2 H2 =>
 doQ (Zb H2 24 v1) fun v3 =>
 doW (Za true H2 11 73 [v3]) fun v4 H3 =>
 doQ (Zy v4 0) fun v5 =>
 doQ (Zy v4 1) fun v6 =>
 doW (Zf H3 5 27) fun v7 H4 =>
 doW (Zj H4 27 v7 v5) fun v8 H5 =>
 doQ (Zc 30 14 0 v6) fun v9 =>
 br (some v9) (
 doQ (Zb H5 27 v7) fun v10 =>
 doW (Zj H5 27 v2 v10) fun v11 H6 =>
 doQ (ZJ H6 v2 27) fun v12 =>
 Q (.tup [(.v (.slice none 0 0)),v12,v6]) H6) (
 doQ (Zb H5 24 v1) fun v10 =>
 doQ (Zh 27 v7 0) fun v11 =>
 doQ (Zb H5 3 v11) fun v12 =>
 doQ (ZQ 3 21 2 v12) fun v13 =>
 doQ (ZP 3 1 22 v13) fun v14 =>
 doQ (Zh 27 v7 1) fun v15 =>
 doQ (Zb H5 3 v15) fun v16 =>
 doW (Za true H5 26 47 [v10,v14,(.v (.int .i64 0)),v16]) fun v17 H6 =>
 doQ (Zy v17 0) fun v18 =>
 doQ (Zy v17 1) fun v19 =>
 doQ (Zy v17 2) fun v20 =>
 doQ (Zl 30 30 0 v20) fun v21 =>
 gQ v21 true (ZD v18) fun v22 =>
 gQ v21 true (Zg H6 34 25 v22) fun v23 =>
 gQ v21 true (Zh 27 v7 1) fun v24 =>
 gQ v21 true (Zb H6 3 v24) fun v25 =>
 gQ v21 true (Zx 3 34 36 v23 v25) fun v26 =>
 doQ (Zi v21 v26) fun v27 =>
 br (some v27) (
 doQ (qBin env.P .neq 30 (Operand.tmp 39) (Operand.const (Value.int IntKind.i64 0)) (some (AV.v (Value.int IntKind.i64 8))) (some (AV.v (Value.int IntKind.i64 0)))) fun v28 =>
 br (some v28) (
 doQ (ZC 27) fun v29 =>
 doW (Zj H6 27 v2 v29) fun v30 H7 =>
 doQ (ZJ H7 v2 27) fun v31 =>
 Q (.tup [(.v (.slice none 0 0)),v31,(.v (.int .i64 8))]) H7) (
 doQ (Zb H6 27 v7) fun v29 =>
 doW (Zj H6 27 v2 v29) fun v30 H7 =>
 doQ (ZJ H7 v2 27) fun v31 =>
 Q (.tup [v18,v31,(.v (.int .i64 0))]) H7)) (
 doQ (Zc 30 39 0 v20) fun v28 =>
 br (some v28) (
 doQ (ZC 27) fun v29 =>
 doW (Zj H6 27 v2 v29) fun v30 H7 =>
 doQ (ZJ H7 v2 27) fun v31 =>
 Q (.tup [(.v (.slice none 0 0)),v31,v20]) H7) (
 doQ (Zb H6 27 v7) fun v29 =>
 doW (Zj H6 27 v2 v29) fun v30 H7 =>
 doQ (ZJ H7 v2 27) fun v31 =>
 Q (.tup [v18,v31,(.v (.int .i64 0))]) H7)))
theorem AF(x0:AV)(H:Heap)(Q:AV→Heap→Prop)(h : ∀g,mM g x0 H Q):GoL env Tryz.f46 0 [.code uq] [(0,x0)] H Q:=⟨fun g=>bq (live:=Bv) (cut:=BQ) (n:=500) (Eq.mp (by kernel_rfl) (h g))⟩
noncomputable def pW:Code:=(Tryz.f73.body).getD .skip
def wq:Nat→Option (List Nat):=fun i=>none
def wD:Nat→Bool:=fun i=>false
def jP(g:Nat→AV)(x0:AV)(H:Heap)(Q:AV→Heap→Prop):Prop :=
 doW (Zd H 1 24 x0) fun v1 H1 =>
 doW (Zf H1 2 27) fun v2 H2 =>
 doQ (Zb H2 24 v1) fun v3 =>
 doW (Za true H2 7 45 [v3]) fun v4 H3 =>
 doQ (Zc 30 8 0 v4) fun v5 =>
 br (some v5) (
 doQ (ZC 27) fun v6 =>
 doW (Zj H3 27 v2 v6) fun v7 H4 =>
 doQ (ZJ H4 v2 27) fun v8 =>
 Q (.tup [v8,v4]) H4) (
 doQ (Zb H3 24 v1) fun v6 =>
 doW (Za false H3 13 115 [v6,(.v (.int .i64 0))]) fun v7 H4 =>
 doQ (Zb H4 24 v1) fun v8 =>
 doW (Za false H4 15 115 [v8,(.v (.int .i64 1))]) fun v9 H5 =>
 doQ (Yt 178 0 v7 1 v9) fun v10 =>
 doW (Zf H5 5 178) fun v11 H6 =>
 doW (Zj H6 178 v11 v10) fun v12 H7 =>
 doQ (Zv H7 178 v11 0) fun v13 =>
 doQ (Zh 27 v13 0) fun v14 =>
 doQ (Zb H7 3 v14) fun v15 =>
 doQ (Zv H7 178 v11 1) fun v16 =>
 doQ (Zh 27 v16 0) fun v17 =>
 doQ (Zb H7 3 v17) fun v18 =>
 doQ (ZY 3 19 22 v15 v18) fun v19 =>
 br (some v19) (
 doQ (Zv H7 178 v11 0) fun v20 =>
 doQ (Zb H7 27 v20) fun v21 =>
 doW (Zj H7 27 v2 v21) fun v22 H8 =>
 doQ (ZJ H8 v2 27) fun v23 =>
 Q (.tup [v23,(.v (.int .i64 0))]) H8) (
 doQ (Zv H7 178 v11 1) fun v20 =>
 doQ (Zb H7 27 v20) fun v21 =>
 doW (Zj H7 27 v2 v21) fun v22 H8 =>
 doQ (ZJ H8 v2 27) fun v23 =>
 Q (.tup [v23,(.v (.int .i64 0))]) H8))
theorem wc(x0:AV)(H:Heap)(Q:AV→Heap→Prop)(h : ∀g,jP g x0 H Q):GoL env Tryz.f73 0 [.code pW] [(0,x0)] H Q:=⟨fun g=>bq (live:=wq) (cut:=wD) (n:=500) (Eq.mp (by kernel_rfl) (h g))⟩
noncomputable def oh:Code:=(Tryz.f113.body).getD .skip
noncomputable def jI:List Item:=(cm 5 400 [.code oh]).getD []
def rW:Nat→Option (List Nat):=fun i=>cond (Nat.beq i 5) (some [13,3,11,12]) (none)
def rZ:Nat→Bool:=fun i=>false
def ov(g:Nat→AV)(x0:AV)(H:Heap)(Q:AV→Heap→Prop):Prop :=
 doQ (Zg H 9 25 x0) fun v1 =>
 doQ (Zr 3 9 2048 v1) fun v2 =>
 br (some v2) (
 Q (.v (.int .i64 4)) H) (
 doQ (Zg H 12 25 x0) fun v3 =>
  GoL env Tryz.f113 0 jI [(13,(.v (.int .i64 0))),(3,(.v (.int .i64 0))),(11,x0),(12,v3)] H Q)
theorem yQ(x0:AV)(H:Heap)(Q:AV→Heap→Prop)(h : ∀g,ov g x0 H Q):GoL env Tryz.f113 0 [.code oh] [(0,x0)] H Q:=⟨fun g=>bq (live:=rW) (cut:=rZ) (n:=500) (Eq.mp (by kernel_rfl) (h g))⟩
def iL(g:Nat→AV)(x13 x3 x11 x12:AV)(H:Heap)(Q:AV→Heap→Prop):Prop :=
 doQ (Zq 3 13 12 x13 x12) fun v1 =>
 br (some v1) (
 doQ (Zs H 25 x11 x13) fun v2 =>
 doQ (Zb H 51 v2) fun v3 =>
 doW (Zf H 5 51) fun v4 H1 =>
 doW (Zj H1 51 v4 v3) fun v5 H2 =>
 doQ (Zb H2 51 v4) fun v6 =>
 doW (Za true H2 19 105 [v6]) fun v7 H3 =>
 doQ (Zy v7 0) fun v8 =>
 doQ (Zy v7 1) fun v9 =>
 doQ (Zc 30 22 0 v9) fun v10 =>
 br (some v10) (
 Q v9 H3) (
 doQ (Zu 3 25 26 x3 v8) fun v11 =>
 doQ (Ze 3 13 1 x13) fun v12 =>
  GoL env Tryz.f113 0 jI [(13,v12),(3,v11),(11,x11),(12,x12)] H3 Q)) (
 doQ (Zr 3 29 2048 x3) fun v2 =>
 br (some v2) (
 Q (.v (.int .i64 9)) H) (
 Q (.v (.int .i64 0)) H))
theorem lW(x13 x3 x11 x12:AV)(H:Heap)(Q:AV→Heap→Prop)(h : ∀g,iL g x13 x3 x11 x12 H Q):GoL env Tryz.f113 0 jI [(13,x13),(3,x3),(11,x11),(12,x12)] H Q:=c9 fun g=>bq (live:=rW) (cut:=rZ) (n:=500) (Eq.mp (by kernel_rfl) (h g))
noncomputable def lz:Code:=(Tryz.f114.body).getD .skip
noncomputable def mf:List Item:=(cm 4 400 [.code lz]).getD []
noncomputable def me:List Item:=(cm 9 400 [.code lz]).getD []
def n8:Nat→Option (List Nat):=fun i=>cond (Nat.beq i 4) (some [9,1,3]) (cond (Nat.beq i 9) (some [23,1,3]) (none))
def oe:Nat→Bool:=fun i=>false
def sC(g:Nat→AV)(x0:AV)(H:Heap)(Q:AV→Heap→Prop):Prop :=
 doW (Zd H 1 27 x0) fun v1 H1 =>
 doW (ZO H1 6 76 128) fun v2 H2 =>
 doQ (Zv H2 76 v2 0) fun v3 =>
 doW (ax env.P H2 5 (some v3) (some (a8 77))) fun v4 H3 =>
  GoL env Tryz.f114 0 mf [(9,(.v (.int .i64 0))),(1,v1),(3,v2)] H3 Q
theorem yR(x0:AV)(H:Heap)(Q:AV→Heap→Prop)(h : ∀g,sC g x0 H Q):GoL env Tryz.f114 0 [.code lz] [(0,x0)] H Q:=⟨fun g=>bq (live:=n8) (cut:=oe) (n:=500) (Eq.mp (by kernel_rfl) (h g))⟩
def gm(g:Nat→AV)(x9 x1 x3:AV)(H:Heap)(Q:AV→Heap→Prop):Prop :=
 doQ (Zn 3 9 4 x9) fun v1 =>
 br (some v1) (
 doQ (ZV 3 4 13 x9) fun v2 =>
 doQ (Zh 27 x1 0) fun v3 =>
 doQ (Zb H 3 v3) fun v4 =>
 doQ (ZI 3 8 17 x9) fun v5 =>
 doQ (Z1 3 16 18 v4 v5) fun v6 =>
 doQ (Zp H 20 3 5 v6) fun v7 =>
 doQ (Zs H 76 x3 v2) fun v8 =>
 doW (Zj H 5 v8 v7) fun v9 H1 =>
 doQ (Ze 3 9 1 x9) fun v10 =>
  GoL env Tryz.f114 0 mf [(9,v10),(1,x1),(3,x3)] H1 Q) (
  GoL env Tryz.f114 0 me [(23,(.v (.int .i64 0))),(1,x1),(3,x3)] H Q)
theorem iF(x9 x1 x3:AV)(H:Heap)(Q:AV→Heap→Prop)(h : ∀g,gm g x9 x1 x3 H Q):GoL env Tryz.f114 0 mf [(9,x9),(1,x1),(3,x3)] H Q:=c9 fun g=>bq (live:=n8) (cut:=oe) (n:=500) (Eq.mp (by kernel_rfl) (h g))
def iM(g:Nat→AV)(x23 x1 x3:AV)(H:Heap)(Q:AV→Heap→Prop):Prop :=
 doQ (Zn 3 23 3 x23) fun v1 =>
 br (some v1) (
 doQ (ZV 3 7 27 x23) fun v2 =>
 doQ (Zh 27 x1 1) fun v3 =>
 doQ (Zb H 3 v3) fun v4 =>
 doQ (ZI 3 8 31 x23) fun v5 =>
 doQ (Z1 3 30 32 v4 v5) fun v6 =>
 doQ (Zp H 34 3 5 v6) fun v7 =>
 doQ (Zs H 76 x3 v2) fun v8 =>
 doW (Zj H 5 v8 v7) fun v9 H1 =>
 doQ (Ze 3 23 1 x23) fun v10 =>
  GoL env Tryz.f114 0 me [(23,v10),(1,x1),(3,x3)] H1 Q) (
 Q x3 H)
theorem jH(x23 x1 x3:AV)(H:Heap)(Q:AV→Heap→Prop)(h : ∀g,iM g x23 x1 x3 H Q):GoL env Tryz.f114 0 me [(23,x23),(1,x1),(3,x3)] H Q:=c9 fun g=>bq (live:=n8) (cut:=oe) (n:=500) (Eq.mp (by kernel_rfl) (h g))
noncomputable def mJ:Code:=(Tryz.f115.body).getD .skip
noncomputable def kB:List Item:=(cm 5 400 [.code mJ]).getD []
noncomputable def jJ:List Item:=(cm 10 400 [.code mJ]).getD []
def pg:Nat→Option (List Nat):=fun i=>cond (Nat.beq i 5) (some [24,4,22,5,1,23]) (cond (Nat.beq i 10) (some [39,4,37,5,1,38]) (none))
def pv:Nat→Bool:=fun i=>false
def uF(g:Nat→AV)(x0 x1:AV)(H:Heap)(Q:AV→Heap→Prop):Prop :=
 doW (Zd H 2 24 x0) fun v1 H1 =>
 doW (Zf H1 4 27) fun v2 H2 =>
 doQ (Zb H2 24 v1) fun v3 =>
 doQ (ZP 3 6144 13 x1) fun v4 =>
 doW (Za true H2 15 116 [v3,v4]) fun v5 H3 =>
 doQ (Zy v5 0) fun v6 =>
 doQ (Zy v5 1) fun v7 =>
 doQ (Zc 30 18 0 v7) fun v8 =>
 br (some v8) (
 doQ (Zb H3 27 v2) fun v9 =>
 doW (Zj H3 27 v2 v9) fun v10 H4 =>
 doQ (ZJ H4 v2 27) fun v11 =>
 Q v11 H4) (
 doQ (Ys H3 76 v6) fun v9 =>
 doQ (Zg H3 23 76 v9) fun v10 =>
  GoL env Tryz.f115 0 kB [(24,(.v (.int .i64 0))),(4,v2),(22,v9),(5,v6),(1,x1),(23,v10)] H3 Q)
theorem AE(x0 x1:AV)(H:Heap)(Q:AV→Heap→Prop)(h : ∀g,uF g x0 x1 H Q):GoL env Tryz.f115 0 [.code mJ] [(0,x0),(1,x1)] H Q:=⟨fun g=>bq (live:=pg) (cut:=pv) (n:=500) (Eq.mp (by kernel_rfl) (h g))⟩
def nv(g:Nat→AV)(x24 x4 x22 x5 x1 x23:AV)(H:Heap)(Q:AV→Heap→Prop):Prop :=
 doQ (Zq 3 24 23 x24 x23) fun v1 =>
 br (some v1) (
 doQ (Zs H 76 x22 x24) fun v2 =>
 doQ (Zb H 5 v2) fun v3 =>
 doQ (Zh 27 x4 0) fun v4 =>
 doQ (Zb H 3 v4) fun v5 =>
 doQ (ZL 3 29 v5) fun v6 =>
 doQ (Zp H 32 5 3 v3) fun v7 =>
 doQ (ZN 3 30 32 v6 v7) fun v8 =>
 doQ (Zh 27 x4 0) fun v9 =>
 doW (Zj H 3 v9 v8) fun v10 H1 =>
 doQ (Ze 3 24 1 x24) fun v11 =>
  GoL env Tryz.f115 0 kB [(24,v11),(4,x4),(22,x22),(5,x5),(1,x1),(23,x23)] H1 Q) (
 doQ (cw env.P (Heap.get H) 76 (some x5) (oi (.v (.int .i64 5))) (oi (.v (.int .i64 8))) (some none)) fun v2 =>
 doQ (Zg H 38 76 v2) fun v3 =>
  GoL env Tryz.f115 0 jJ [(39,(.v (.int .i64 0))),(4,x4),(37,v2),(5,x5),(1,x1),(38,v3)] H Q)
theorem qn(x24 x4 x22 x5 x1 x23:AV)(H:Heap)(Q:AV→Heap→Prop)(h : ∀g,nv g x24 x4 x22 x5 x1 x23 H Q):GoL env Tryz.f115 0 kB [(24,x24),(4,x4),(22,x22),(5,x5),(1,x1),(23,x23)] H Q:=c9 fun g=>bq (live:=pg) (cut:=pv) (n:=500) (Eq.mp (by kernel_rfl) (h g))
def fE(g:Nat→AV)(x39 x4 x37 x5 x1 x38:AV)(H:Heap)(Q:AV→Heap→Prop):Prop :=
 doQ (Zq 3 39 38 x39 x38) fun v1 =>
 br (some v1) (
 doQ (Zs H 76 x37 x39) fun v2 =>
 doQ (Zb H 5 v2) fun v3 =>
 doQ (Zh 27 x4 1) fun v4 =>
 doQ (Zb H 3 v4) fun v5 =>
 doQ (ZL 3 44 v5) fun v6 =>
 doQ (Zp H 47 5 3 v3) fun v7 =>
 doQ (ZN 3 45 47 v6 v7) fun v8 =>
 doQ (Zh 27 x4 1) fun v9 =>
 doW (Zj H 3 v9 v8) fun v10 H1 =>
 doQ (Ze 3 39 1 x39) fun v11 =>
  GoL env Tryz.f115 0 jJ [(39,v11),(4,x4),(37,x37),(5,x5),(1,x1),(38,x38)] H1 Q) (
 doQ (Zh 27 x4 0) fun v2 =>
 doQ (Zb H 3 v2) fun v3 =>
 doQ (Zn 3 52 1 v3) fun v4 =>
 gQ v4 false (Zh 27 x4 0) fun v5 =>
 gQ v4 false (Zb H 3 v5) fun v6 =>
 gQ v4 false (Zk 3 56 2147483648 v6) fun v7 =>
 doQ (Zm v4 v7) fun v8 =>
 gQ v8 false (Zh 27 x4 0) fun v9 =>
 gQ v8 false (Zb H 3 v9) fun v10 =>
 gQ v8 false (ZQ 3 61 2 v10) fun v11 =>
 gQ v8 false (ZD x1) fun v12 =>
 gQ v8 false (Zx 3 62 63 v11 v12) fun v13 =>
 doQ (Zm v8 v13) fun v14 =>
 gQ v14 false (ZD x5) fun v15 =>
 gQ v14 false (Zb H 27 x4) fun v16 =>
 gW v14 false H (Za true H 69 114 [v16]) fun v17 H1 =>
 gW v14 false H1 (Za true H1 70 87 [v15,v17]) fun v18 H2 =>
 gQ v14 false (ZA v18) fun v19 =>
 doQ (Zm v14 v19) fun v20 =>
 br (some v20) (
 doQ (ZC 27) fun v21 =>
 doW (Zj H2 27 x4 v21) fun v22 H3 =>
 doQ (ZJ H3 x4 27) fun v23 =>
 Q v23 H3) (
 doQ (Zb H2 27 x4) fun v21 =>
 doW (Zj H2 27 x4 v21) fun v22 H3 =>
 doQ (ZJ H3 x4 27) fun v23 =>
 Q v23 H3))
theorem pM(x39 x4 x37 x5 x1 x38:AV)(H:Heap)(Q:AV→Heap→Prop)(h : ∀g,fE g x39 x4 x37 x5 x1 x38 H Q):GoL env Tryz.f115 0 jJ [(39,x39),(4,x4),(37,x37),(5,x5),(1,x1),(38,x38)] H Q:=c9 fun g=>bq (live:=pg) (cut:=pv) (n:=500) (Eq.mp (by kernel_rfl) (h g))
end Go.Proofs.YtiidajnodhkidaaGreat
