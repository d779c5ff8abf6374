/-
  What is to be shown of each function, computed from its code. No statement of a seat is proved here.
-/
import Derived.Test.YtiidajnodhkidaaGreatMStOk
set_option linter.unusedVariables false
set_option maxRecDepth 1000000
namespace Go.Proofs.YtiidajnodhkidaaGreat
open Go.Ab
noncomputable def pD:Code:=(Tryz.f42.body).getD .skip
noncomputable def jM:List Item:=(cm 14 400 [.code pD]).getD []
def tO:Nat→Option (List Nat):=fun i=>cond (Nat.beq i 14) (some [10,70,2,1,68,15,69]) (none)
def ud:Nat→Bool:=fun i=>false
def fj(g:Nat→AV)(x0 x1 x2 x3 x4:AV)(H:Heap)(Q:AV→Heap→Prop):Prop :=
 doW (Zd H 5 24 x0) fun v1 H1 =>
 doW (Zd H1 9 51 x4) fun v2 H2 =>
 doW (Zf H2 10 24) fun v3 H3 =>
 doQ (Zb H3 24 v1) fun v4 =>
 doW (Za true H3 19 45 [v4]) fun v5 H4 =>
 doQ (Zc 30 20 0 v5) fun v6 =>
 br (some v6) (
 doQ (ZC 24) fun v7 =>
 doW (Zj H4 24 v3 v7) fun v8 H5 =>
 doQ (ZJ H5 v3 24) fun v9 =>
 Q (.tup [v9,(.v (.int .i64 0)),v5]) H5) (
 doQ (Zh 24 v1 1) fun v7 =>
 doQ (Zb H4 3 v7) fun v8 =>
 doQ (Zk 3 25 1 v8) fun v9 =>
 gQ v9 true (ZD x3) fun v10 =>
 gQ v9 true (Zk 3 28 1 v10) fun v11 =>
 doQ (Zi v9 v11) fun v12 =>
 gQ v12 true (ZD x3) fun v13 =>
 gQ v12 true (Zn 3 32 16777216 v13) fun v14 =>
 doQ (Zi v12 v14) fun v15 =>
 doW (Za true H4 36 69 [x1,(.v (.int .i64 2))]) fun v16 H5 =>
 doQ (ZA v16) fun v17 =>
 gQ v17 false (ZD x2) fun v18 =>
 gW v17 false H5 (Za true H5 40 69 [v18,(.v (.int .i64 2048))]) fun v19 H6 =>
 gQ v17 false (ZA v19) fun v20 =>
 doQ (Zm v17 v20) fun v21 =>
 gQ v21 false (ZD v15) fun v22 =>
 gQ v21 false (ZA v22) fun v23 =>
 doQ (Zm v21 v23) fun v24 =>
 br (some v24) (
 doQ (ZC 24) fun v25 =>
 doW (Zj H6 24 v3 v25) fun v26 H7 =>
 doQ (ZJ H7 v3 24) fun v27 =>
 Q (.tup [v27,(.v (.int .i64 0)),(.v (.int .i64 2))]) H7) (
 doQ (Zb H6 51 v2) fun v25 =>
 doQ (Zh 24 v1 1) fun v26 =>
 doQ (Zb H6 3 v26) fun v27 =>
 doW (Za true H6 53 70 [v25,v27,x3]) fun v28 H7 =>
 doQ (Zy v28 0) fun v29 =>
 doQ (Zy v28 1) fun v30 =>
 doQ (Zc 30 56 0 v30) fun v31 =>
 br (some v31) (
 doQ (ZC 24) fun v32 =>
 doW (Zj H7 24 v3 v32) fun v33 H8 =>
 doQ (ZJ H8 v3 24) fun v34 =>
 Q (.tup [v34,(.v (.int .i64 0)),v30]) H8) (
 doQ (Zg H7 62 122 v29) fun v32 =>
 doQ (Zu 3 60 62 x2 v32) fun v33 =>
 doQ (Zr 3 63 2048 v33) fun v34 =>
 br (some v34) (
 doQ (ZC 24) fun v35 =>
 doW (Zj H7 24 v3 v35) fun v36 H8 =>
 doQ (ZJ H8 v3 24) fun v37 =>
 Q (.tup [v37,(.v (.int .i64 0)),(.v (.int .i64 9))]) H8) (
 doQ (Zb H7 24 v1) fun v35 =>
 doW (Za true H7 67 49 [v35]) fun v36 H8 =>
 doW (Zj H8 24 v3 v36) fun v37 H9 =>
 doQ (
  az env.P false (Heap.get H9) (Ref.mk 0 69 (Heap.gen H9 0 69) 0) .len #[122] [v29]) fun v38 =>
  GoL env Tryz.f42 0 jM [(10,v3),(70,(.v (.int .i64 0))),(2,x2),(1,x1),(68,v29),(15,v29),(69,v38)] H9 Q))))
theorem AQ(x0 x1 x2 x3 x4:AV)(H:Heap)(Q:AV→Heap→Prop)(h : ∀g,fj g x0 x1 x2 x3 x4 H Q):GoL env Tryz.f42 0 [.code pD] [(0,x0),(1,x1),(2,x2),(3,x3),(4,x4)] H Q:=⟨fun g=>bq (live:=tO) (cut:=ud) (n:=500) (Eq.mp (by kernel_rfl) (h g))⟩
def eS(g:Nat→AV)(x10 x70 x2 x1 x68 x15 x69:AV)(H:Heap)(Q:AV→Heap→Prop):Prop :=
 doQ (Zq 3 70 69 x70 x69) fun v1 =>
 br (some v1) (
 doQ (Zs H 122 x68 x70) fun v2 =>
 doQ (Zb H 76 v2) fun v3 =>
 doQ (Zb H 24 x10) fun v4 =>
 doQ (ZU 3 77 2048 x1) fun v5 =>
 doQ (Zu 3 78 79 v5 x2) fun v6 =>
 doQ (Zu 3 80 81 v6 x70) fun v7 =>
 doW (Za true H 84 71 [v4,v7,v3]) fun v8 H1 =>
 doQ (Zy v8 0) fun v9 =>
 doQ (Zy v8 1) fun v10 =>
 doW (Zj H1 24 x10 v9) fun v11 H2 =>
 doQ (Zc 30 87 0 v10) fun v12 =>
 br (some v12) (
 doQ (ZC 24) fun v13 =>
 doW (Zj H2 24 x10 v13) fun v14 H3 =>
 doQ (ZJ H3 x10 24) fun v15 =>
 Q (.tup [v15,(.v (.int .i64 0)),v10]) H3) (
 doQ (Ze 3 70 1 x70) fun v13 =>
  GoL env Tryz.f42 0 jM [(10,x10),(70,v13),(2,x2),(1,x1),(68,x68),(15,x15),(69,x69)] H2 Q)) (
 doQ (Zb H 24 x10) fun v2 =>
 doQ (Zg H 95 122 x15) fun v3 =>
 doQ (Zu 3 93 95 x2 v3) fun v4 =>
 doW (Zj H 24 x10 v2) fun v5 H1 =>
 doQ (ZJ H1 x10 24) fun v6 =>
 Q (.tup [v6,v4,(.v (.int .i64 0))]) H1)
theorem fw(x10 x70 x2 x1 x68 x15 x69:AV)(H:Heap)(Q:AV→Heap→Prop)(h : ∀g,eS g x10 x70 x2 x1 x68 x15 x69 H Q):GoL env Tryz.f42 0 jM [(10,x10),(70,x70),(2,x2),(1,x1),(68,x68),(15,x15),(69,x69)] H Q:=c9 fun g=>bq (live:=tO) (cut:=ud) (n:=500) (Eq.mp (by kernel_rfl) (h g))
noncomputable def s9:Code:=(Tryz.f47.body).getD .skip
noncomputable def mF:List Item:=(cm 6 400 [.code s9]).getD []
def xR:Nat→Option (List Nat):=fun i=>cond (Nat.beq i 6) (some [9,8,2,1,4,3]) (none)
def yl:Nat→Bool:=fun i=>false
def yG(g:Nat→AV)(x0 x1 x2 x3:AV)(H:Heap)(Q:AV→Heap→Prop):Prop :=
 doW (Zd H 4 24 x0) fun v1 H1 =>
 doQ (Zb H1 24 v1) fun v2 =>
 doW (Za true H1 15 45 [v2]) fun v3 H2 =>
 doQ (Zc 30 16 0 v3) fun v4 =>
 br (some v4) (
 Q (.tup [(.v (.slice none 0 0)),(.v (.int .i64 0)),v3]) H2) (
 doW (Za true H2 20 69 [x1,(.v (.int .i64 2))]) fun v5 H3 =>
 doQ (ZA v5) fun v6 =>
 gQ v6 false (ZD x2) fun v7 =>
 gW v6 false H3 (Za true H3 24 69 [v7,(.v (.int .i64 16777215))]) fun v8 H4 =>
 gQ v6 false (ZA v8) fun v9 =>
 doQ (Zm v6 v9) fun v10 =>
 gQ v10 false (ZD x3) fun v11 =>
 gW v10 false H4 (Za true H4 29 69 [v11,(.v (.int .i64 16777215))]) fun v12 H5 =>
 gQ v10 false (ZA v12) fun v13 =>
 doQ (Zm v10 v13) fun v14 =>
 br (some v14) (
 Q (
  .tup [(.v (.slice none 0 0)),(.v (.int .i64 0)),(.v (.int .i64 2))]) H5) (
  GoL env Tryz.f47 0 mF [(9,(.v (.int .i64 0))),(8,(.v (.slice none 0 0))),(2,x2),(1,x1),(4,v1),(3,x3)] H5 Q))
theorem D7(x0 x1 x2 x3:AV)(H:Heap)(Q:AV→Heap→Prop)(h : ∀g,yG g x0 x1 x2 x3 H Q):GoL env Tryz.f47 0 [.code s9] [(0,x0),(1,x1),(2,x2),(3,x3)] H Q:=⟨fun g=>bq (live:=xR) (cut:=yl) (n:=500) (Eq.mp (by kernel_rfl) (h g))⟩
def fO(g:Nat→AV)(x9 x8 x2 x1 x4 x3:AV)(H:Heap)(Q:AV→Heap→Prop):Prop :=
 doQ (Zg H 33 25 x8) fun v1 =>
 doQ (Zq 3 33 34 v1 x3) fun v2 =>
 br (some v2) (
 doQ (Zb H 24 x4) fun v3 =>
 doQ (Zg H 42 25 x8) fun v4 =>
 doQ (Zu 3 40 42 x2 v4) fun v5 =>
 doQ (Ze 3 43 1 v5) fun v6 =>
 doW (Za true H 45 74 [v3,x1,x9,v6]) fun v7 H1 =>
 doQ (Zy v7 0) fun v8 =>
 doQ (Zy v7 1) fun v9 =>
 doW (Zf H1 12 51) fun v10 H2 =>
 doW (Zj H2 51 v10 v8) fun v11 H3 =>
 doQ (Zl 3 48 0 v9) fun v12 =>
 br (some v12) (
 Q (.tup [x8,x9,(.v (.int .i64 0))]) H3) (
 doQ (Zb H3 51 v10) fun v13 =>
 doW (Zz H3 52 25 1 0 v13) fun v14 H4 =>
 doW (Zt H4 53 25 25 x8 v14) fun v15 H5 =>
 doQ (Zu 3 54 55 x9 v9) fun v16 =>
  GoL env Tryz.f47 0 mF [(9,v16),(8,v15),(2,x2),(1,x1),(4,x4),(3,x3)] H5 Q)) (
 Q (.tup [x8,x9,(.v (.int .i64 0))]) H)
theorem AP(x9 x8 x2 x1 x4 x3:AV)(H:Heap)(Q:AV→Heap→Prop)(h : ∀g,fO g x9 x8 x2 x1 x4 x3 H Q):GoL env Tryz.f47 0 mF [(9,x9),(8,x8),(2,x2),(1,x1),(4,x4),(3,x3)] H Q:=c9 fun g=>bq (live:=xR) (cut:=yl) (n:=500) (Eq.mp (by kernel_rfl) (h g))
noncomputable def yx:Code:=(Tryz.f69.body).getD .skip
def EI:Nat→Option (List Nat):=fun i=>none
def Ff:Nat→Bool:=fun i=>false
def yF(g:Nat→AV)(x0 x1:AV)(H:Heap)(Q:AV→Heap→Prop):Prop :=
 doQ (Zk 3 5 0 x0) fun v1 =>
 gQ v1 true (ZD x0) fun v2 =>
 gQ v1 true (ZD x1) fun v3 =>
 gQ v1 true (qBin env.P .leq 3 (Operand.tmp 8) (Operand.tmp 9) (some v2) (some v3)) fun v4 =>
 doQ (Zi v1 v4) fun v5 =>
 Q v5 H
theorem D6(x0 x1:AV)(H:Heap)(Q:AV→Heap→Prop)(h : ∀g,yF g x0 x1 H Q):GoL env Tryz.f69 0 [.code yx] [(0,x0),(1,x1)] H Q:=⟨fun g=>bq (live:=EI) (cut:=Ff) (n:=500) (Eq.mp (by kernel_rfl) (h g))⟩
noncomputable def qY:Code:=(Tryz.f74.body).getD .skip
noncomputable def lu:List Item:=(cm 9 400 [.code qY]).getD []
def vE:Nat→Option (List Nat):=fun i=>cond (Nat.beq i 9) (some [53,14,2,1,4,8,12,52]) (none)
def vL:Nat→Bool:=fun i=>false
def j5(g:Nat→AV)(x0 x1 x2 x3:AV)(H:Heap)(Q:AV→Heap→Prop):Prop :=
 doW (Zd H 4 24 x0) fun v1 H1 =>
 doW (Zf H1 8 51) fun v2 H2 =>
 doQ (Zk 3 18 2048 x2) fun v3 =>
 br (some v3) (
 doQ (Zb H2 51 v2) fun v4 =>
 doW (Zj H2 51 v2 v4) fun v5 H3 =>
 doQ (ZJ H3 v2 51) fun v6 =>
 Q (.tup [v6,(.v (.int .i64 0))]) H3) (
 doQ (Zb H2 24 v1) fun v4 =>
 doQ (ZU 3 23 2048 x1) fun v5 =>
 doQ (Zu 3 24 25 v5 x2) fun v6 =>
 doW (Za true H2 27 116 [v4,v6]) fun v7 H3 =>
 doQ (Zy v7 0) fun v8 =>
 doQ (Zy v7 1) fun v9 =>
 doW (Za true H3 32 76 [v8]) fun v10 H4 =>
 doQ (Zy v10 0) fun v11 =>
 doQ (Zy v10 1) fun v12 =>
 doW (Zf H4 12 132) fun v13 H5 =>
 doW (Zj H5 132 v13 v11) fun v14 H6 =>
 doQ (Zc 30 35 0 v12) fun v15 =>
 gQ v15 false (Zh 132 v13 1) fun v16 =>
 gQ v15 false (Zb H6 3 v16) fun v17 =>
 gQ v15 false (ZD x3) fun v18 =>
 gQ v15 false (Zx 3 39 40 v17 v18) fun v19 =>
 doQ (Zm v15 v19) fun v20 =>
 gQ v20 false (ZD x2) fun v21 =>
 gQ v20 false (Zh 132 v13 3) fun v22 =>
 gQ v20 false (Zb H6 3 v22) fun v23 =>
 gQ v20 false (Zu 3 44 46 v21 v23) fun v24 =>
 gQ v20 false (Zr 3 47 2048 v24) fun v25 =>
 doQ (Zm v20 v25) fun v26 =>
 br (some v26) (
 doQ (Zb H6 51 v2) fun v27 =>
 doW (Zj H6 51 v2 v27) fun v28 H7 =>
 doQ (ZJ H7 v2 51) fun v29 =>
 Q (.tup [v29,(.v (.int .i64 0))]) H7) (
 doQ (Zh 132 v13 3) fun v27 =>
 doQ (Zb H6 3 v27) fun v28 =>
  GoL env Tryz.f74 0 lu [(53,(.v (.int .i64 0))),(14,(.v (.slice none 0 0))),(2,x2),(1,x1),(4,v1),(8,v2),(12,v13),(52,v28)] H6 Q))
theorem Ct(x0 x1 x2 x3:AV)(H:Heap)(Q:AV→Heap→Prop)(h : ∀g,j5 g x0 x1 x2 x3 H Q):GoL env Tryz.f74 0 [.code qY] [(0,x0),(1,x1),(2,x2),(3,x3)] H Q:=⟨fun g=>bq (live:=vE) (cut:=vL) (n:=500) (Eq.mp (by kernel_rfl) (h g))⟩
def iR(g:Nat→AV)(x53 x14 x2 x1 x4 x8 x12 x52:AV)(H:Heap)(Q:AV→Heap→Prop):Prop :=
 doQ (Zq 3 53 52 x53 x52) fun v1 =>
 br (some v1) (
 doQ (Zb H 24 x4) fun v2 =>
 doQ (ZU 3 58 2048 x1) fun v3 =>
 doQ (Zu 3 59 60 v3 x2) fun v4 =>
 doQ (Zu 3 61 62 v4 x53) fun v5 =>
 doW (Za true H 64 116 [v2,v5]) fun v6 H1 =>
 doQ (Zy v6 0) fun v7 =>
 doQ (Zy v6 1) fun v8 =>
 doW (Zz H1 69 122 1 0 v7) fun v9 H2 =>
 doW (Zt H2 70 122 122 x14 v9) fun v10 H3 =>
 doQ (Ze 3 53 1 x53) fun v11 =>
  GoL env Tryz.f74 0 lu [(53,v11),(14,v10),(2,x2),(1,x1),(4,x4),(8,x8),(12,x12),(52,x52)] H3 Q) (
 doW (Za true H 74 117 [x14]) fun v2 H1 =>
 doQ (Zy v2 0) fun v3 =>
 doQ (Zy v2 1) fun v4 =>
 doQ (Zy v2 2) fun v5 =>
 doW (Zj H1 51 x8 v3) fun v6 H2 =>
 doQ (Zc 30 78 0 v5) fun v7 =>
 br (some v7) (
 doQ (ZC 51) fun v8 =>
 doW (Zj H2 51 x8 v8) fun v9 H3 =>
 doQ (ZJ H3 x8 51) fun v10 =>
 Q (.tup [v10,(.v (.int .i64 0))]) H3) (
 doQ (Zb H2 51 x8) fun v8 =>
 doQ (Zh 132 x12 3) fun v9 =>
 doQ (Zb H2 3 v9) fun v10 =>
 doW (Zj H2 51 x8 v8) fun v11 H3 =>
  oX [(v9,x8)] [x8] [] H3 ∧
 (doQ (ZJ H3 x8 51) fun v12 =>
 Q (.tup [v12,v10]) H3)))
theorem rR(x53 x14 x2 x1 x4 x8 x12 x52:AV)(H:Heap)(Q:AV→Heap→Prop)(h : ∀g,iR g x53 x14 x2 x1 x4 x8 x12 x52 H Q):GoL env Tryz.f74 0 lu [(53,x53),(14,x14),(2,x2),(1,x1),(4,x4),(8,x8),(12,x12),(52,x52)] H Q:=c9 fun g=>bq (live:=vE) (cut:=vL) (n:=500) (Eq.mp (by kernel_rfl) (h g))
noncomputable def gk:Code:=(Tryz.f21.body).getD .skip
noncomputable def eA:List Item:=(cm 4 400 [.code gk]).getD []
def jr:Nat→Option (List Nat):=fun i=>cond (Nat.beq i 4) (some [5,1,0]) (none)
def jt:Nat→Bool:=fun i=>false
def gl(g:Nat→AV)(x0 x1:AV)(H:Heap)(Q:AV→Heap→Prop):Prop :=
 doQ (Zg H 7 25 x0) fun v1 =>
 doQ (Zg H 9 25 x1) fun v2 =>
 doQ (Zx 3 7 9 v1 v2) fun v3 =>
 br (some v3) (
 Q (.v (.bool false)) H) (
  GoL env Tryz.f21 0 eA [(5,(.v (.int .i64 0))),(1,x1),(0,x0)] H Q)
theorem nE(x0 x1:AV)(H:Heap)(Q:AV→Heap→Prop)(h : ∀g,gl g x0 x1 H Q):GoL env Tryz.f21 0 [.code gk] [(0,x0),(1,x1)] H Q:=⟨fun g=>bq (live:=jr) (cut:=jt) (n:=500) (Eq.mp (by kernel_rfl) (h g))⟩
def eB(g:Nat→AV)(x5 x1 x0:AV)(H:Heap)(Q:AV→Heap→Prop):Prop :=
 doQ (Zg H 13 25 x0) fun v1 =>
 doQ (Zq 3 11 13 x5 v1) fun v2 =>
 br (some v2) (
 doQ (Zs H 25 x0 x5) fun v3 =>
 doQ (Zb H 51 v3) fun v4 =>
 doQ (Zs H 25 x1 x5) fun v5 =>
 doQ (Zb H 51 v5) fun v6 =>
 doW (Za false H 25 52 [v4,v6]) fun v7 H1 =>
 doQ (ZA v7) fun v8 =>
 br (some v8) (
 Q (.v (.bool false)) H1) (
 doQ (Ze 3 15 1 x5) fun v9 =>
  GoL env Tryz.f21 0 eA [(5,v9),(1,x1),(0,x0)] H1 Q)) (
 Q (.v (.bool true)) H)
theorem iT(x5 x1 x0:AV)(H:Heap)(Q:AV→Heap→Prop)(h : ∀g,eB g x5 x1 x0 H Q):GoL env Tryz.f21 0 eA [(5,x5),(1,x1),(0,x0)] H Q:=c9 fun g=>bq (live:=jr) (cut:=jt) (n:=500) (Eq.mp (by kernel_rfl) (h g))
noncomputable def kK:Code:=(Tryz.f52.body).getD .skip
def pj:Nat→Option (List Nat):=fun i=>none
def px:Nat→Bool:=fun i=>false
def dR(g:Nat→AV)(x0 x1:AV)(H:Heap)(Q:AV→Heap→Prop):Prop :=
 doW (Zd H 2 51 x0) fun v1 H1 =>
 doW (Zd H1 3 51 x1) fun v2 H2 =>
 doQ (Zh 51 v1 0) fun v3 =>
 doQ (Zb H2 5 v3) fun v4 =>
 doQ (Zh 51 v2 0) fun v5 =>
 doQ (Zb H2 5 v5) fun v6 =>
 doQ (Zo 5 6 8 v4 v6) fun v7 =>
 gQ v7 true (Zh 51 v1 1) fun v8 =>
 gQ v7 true (Zb H2 3 v8) fun v9 =>
 gQ v7 true (Zh 51 v2 1) fun v10 =>
 gQ v7 true (Zb H2 3 v10) fun v11 =>
 gQ v7 true (Zo 3 12 14 v9 v11) fun v12 =>
 doQ (Zi v7 v12) fun v13 =>
 gQ v13 true (Zh 51 v1 2) fun v14 =>
 gQ v13 true (Zb H2 45 v14) fun v15 =>
 gQ v13 true (Zh 51 v2 2) fun v16 =>
 gQ v13 true (Zb H2 45 v16) fun v17 =>
 gW v13 true H2 (Za true H2 22 85 [v15,v17]) fun v18 H3 =>
 doQ (Zi v13 v18) fun v19 =>
 gQ v19 true (Zh 51 v1 3) fun v20 =>
 gQ v19 true (Zb H3 30 v20) fun v21 =>
 gQ v19 true (Zh 51 v2 3) fun v22 =>
 gQ v19 true (Zb H3 30 v22) fun v23 =>
 gQ v19 true (Zo 30 26 28 v21 v23) fun v24 =>
 doQ (Zi v19 v24) fun v25 =>
 gQ v25 true (Zh 51 v1 4) fun v26 =>
 gQ v25 true (Zb H3 49 v26) fun v27 =>
 gQ v25 true (Zh 51 v2 4) fun v28 =>
 gQ v25 true (Zb H3 49 v28) fun v29 =>
 gQ v25 true (Zo 49 33 35 v27 v29) fun v30 =>
 doQ (Zi v25 v30) fun v31 =>
 Q v31 H3
theorem o9(x0 x1:AV)(H:Heap)(Q:AV→Heap→Prop)(h : ∀g,dR g x0 x1 H Q):GoL env Tryz.f52 0 [.code kK] [(0,x0),(1,x1)] H Q:=⟨fun g=>bq (live:=pj) (cut:=px) (n:=500) (Eq.mp (by kernel_rfl) (h g))⟩
end Go.Proofs.YtiidajnodhkidaaGreat
