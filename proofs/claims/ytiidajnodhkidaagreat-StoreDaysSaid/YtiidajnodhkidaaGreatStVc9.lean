/-
  What is to be shown of each function, computed from its code. No statement of a seat is proved here.
-/
import Derived.Test.YtiidajnodhkidaaGreatMStOk
set_option linter.unusedVariables false
set_option maxRecDepth 1000000
namespace Go.Proofs.YtiidajnodhkidaaGreat
open Go.Ab
local notation:max "©" b:max h:max n:max f:max a:max=>cr env b (limf env) (limt env 0) h (Ref.mk 0 n (Heap.gen h 0 n) 0) (some (AV.fn (Fn.func f) [] [])) a
local notation:max "§" h:max n:max=>Ref.mk 0 n (Heap.gen h 0 n) 0
local notation:max "~" a:max=>some a
local notation:max "¥" h:max=>Heap.get h
local notation:max "¤" n:max=>(Operand.const (Value.int IntKind.i64 n))
local notation:max "£" n:max=>some (AV.v (Value.int IntKind.i64 n))
local notation:max "¡" => some (AV.v (Value.bool true))
local notation:max "¿" => some (AV.v (Value.bool false))
local notation:max "°" n:max=>(Operand.tmp n)
local notation:max "¢" => env.P
noncomputable def pA:Code:=(Tryz.f72.body).getD .skip
noncomputable def jK:List Item:=(cm 14 400 [.code pA]).getD []
def tM:Nat→Option (List Nat):=fun i=>cond (Nat.beq i 14) (some [4,50,2,11,10,48,9,49]) (none)
def tZ:Nat→Bool:=fun i=>false
def jn(g:Nat→AV)(x0 x1:AV)(H:Heap)(Q:AV→Heap→Prop):Prop :=
 doW (nRes H §H 2 (qBox ¢ §H 2 24 ~x0)) fun v1 H1 =>
 doW (nRes H1 §H1 4 (bW ¢ §H1 4 24)) fun v2 H2 =>
 doQ (ak ¢ ¥H2 24 ~v1) fun v3 =>
 doW (©true H2 16 73 [v3]) fun v4 H3 =>
 doQ (ar ~v4 0) fun v5 =>
 doQ (ar ~v4 1) fun v6 =>
 doW (nRes H3 §H3 6 (bW ¢ §H3 6 27)) fun v7 H4 =>
 doW (ax ¢ H4 27 ~v7 ~v5) fun v8 H5 =>
 doQ (qBin ¢ .neq 30 °20 ¤0 ~v6 £0) fun v9 =>
 br ~v9 (
 doQ (bN ¢ 24 (some [])) fun v10 =>
 doW (ax ¢ H5 24 ~v2 ~v10) fun v11 H6 =>
 doQ (aF ¢ H6 v2 24) fun v12 =>
 Q (.tup [v12,v6]) H6) (
 doQ (ab ¢ 24 ~v1 1) fun v10 =>
 doQ (ak ¢ ¥H5 3 ~v10) fun v11 =>
 doQ (qBin ¢ .lss 3 °26 ¤1 ~v11 £1) fun v12 =>
 br ~v12 (
 doQ (bN ¢ 24 (some [])) fun v13 =>
 doW (ax ¢ H5 24 ~v2 ~v13) fun v14 H6 =>
 doQ (aF ¢ H6 v2 24) fun v15 =>
 Q (.tup [v15,(.v (.int .i64 2))]) H6) (
 doW (©true H5 30 113 [x1]) fun v13 H6 =>
 doQ (qBin ¢ .neq 30 °31 ¤0 ~v13 £0) fun v14 =>
 br ~v14 (
 doQ (bN ¢ 24 (some [])) fun v15 =>
 doW (ax ¢ H6 24 ~v2 ~v15) fun v16 H7 =>
 doQ (aF ¢ H7 v2 24) fun v17 =>
 Q (.tup [v17,v13]) H7) (
 doQ (ab ¢ 27 ~v7 0) fun v15 =>
 doQ (ak ¢ ¥H6 3 ~v15) fun v16 =>
 doQ (qBin ¢ .add 3 °36 ¤1 ~v16 £1) fun v17 =>
 doQ (az ¢ false ¥H6 §H6 39 .len #[25] [x1]) fun v18 =>
 doQ (bN ¢ 27 (some [(0,v17),(1,v18)])) fun v19 =>
 doW (nRes H6 §H6 9 (bW ¢ §H6 9 27)) fun v20 H7 =>
 doW (ax ¢ H7 27 ~v20 ~v19) fun v21 H8 =>
 doQ (ab ¢ 27 ~v20 0) fun v22 =>
 doQ (ak ¢ ¥H8 3 ~v22) fun v23 =>
 doQ (qBin ¢ .geq 3 °42 ¤2147483648 ~v23 £2147483648) fun v24 =>
 br ~v24 (
 doQ (bN ¢ 24 (some [])) fun v25 =>
 doW (ax ¢ H8 24 ~v2 ~v25) fun v26 H9 =>
 doQ (aF ¢ H9 v2 24) fun v27 =>
 Q (.tup [v27,(.v (.int .i64 9))]) H9) (
 doQ (ab ¢ 27 ~v20 0) fun v25 =>
 doQ (ak ¢ ¥H8 3 ~v25) fun v26 =>
 doQ (qBin ¢ .rem 3 °46 ¤2 ~v26 £2) fun v27 =>
 doQ (
  az ¢ false ¥H8 §H8 49 .len #[25] [x1]) fun v28 =>
  GoL env Tryz.f72 0 jK [(4,v2),(50,(.v (.int .i64 0))),(2,v1),(11,(.v (.int .i64 0))),(10,v27),(48,x1),(9,v20),(49,v28)] H8 Q))))
theorem AG(x0 x1:AV)(H:Heap)(Q:AV→Heap→Prop)(h : ∀g,jn g x0 x1 H Q):GoL env Tryz.f72 0 [.code pA] [(0,x0),(1,x1)] H Q:=⟨fun g=>bq (live:=tM) (cut:=tZ) (n:=500) (Eq.mp (by kernel_rfl) (h g))⟩
def mj(g:Nat→AV)(x4 x50 x2 x11 x10 x48 x9 x49:AV)(H:Heap)(Q:AV→Heap→Prop):Prop :=
 doQ (qBin ¢ .lss 3 °50 °49 ~x50 ~x49) fun v1 =>
 br ~v1 (
 doQ (au ¢ ¥H 25 ~x48 ~x50) fun v2 =>
 doQ (ak ¢ ¥H 51 ~v2) fun v3 =>
 doW (nRes H §H 13 (bW ¢ §H 13 51)) fun v4 H1 =>
 doW (ax ¢ H1 51 ~v4 ~v3) fun v5 H2 =>
 doQ (ak ¢ ¥H2 24 ~x2) fun v6 =>
 doQ (qBin ¢ .add 3 ¤1 °57 £1 ~x10) fun v7 =>
 doQ (qBin ¢ .add 3 °60 ¤1 ~x50 £1) fun v8 =>
 doQ (ak ¢ ¥H2 51 ~v4) fun v9 =>
 doW (©true H2 63 42 [v6,v7,x11,v8,v9]) fun v10 H3 =>
 doQ (ar ~v10 0) fun v11 =>
 doQ (ar ~v10 1) fun v12 =>
 doQ (ar ~v10 2) fun v13 =>
 doW (ax ¢ H3 24 ~x2 ~v11) fun v14 H4 =>
 doQ (qBin ¢ .neq 30 °67 ¤0 ~v13 £0) fun v15 =>
 br ~v15 (
 doQ (bN ¢ 24 (some [])) fun v16 =>
 doW (ax ¢ H4 24 ~x4 ~v16) fun v17 H5 =>
 doQ (aF ¢ H5 x4 24) fun v18 =>
 Q (.tup [v18,v13]) H5) (
 doQ (qBin ¢ .add 3 °50 ¤1 ~x50 £1) fun v16 =>
  GoL env Tryz.f72 0 jK [(4,x4),(50,v16),(2,x2),(11,v12),(10,x10),(48,x48),(9,x9),(49,x49)] H4 Q)) (
 doQ (ak ¢ ¥H 24 ~x2) fun v2 =>
 doQ (qBin ¢ .add 3 ¤6144 °73 £6144 ~x10) fun v3 =>
 doQ (ak ¢ ¥H 27 ~x9) fun v4 =>
 doW (©false H 76 114 [v4]) fun v5 H1 =>
 doW (©false H1 77 71 [v2,v3,v5]) fun v6 H2 =>
 doQ (ar ~v6 0) fun v7 =>
 doQ (ar ~v6 1) fun v8 =>
 doW (ax ¢ H2 24 ~x4 ~v7) fun v9 H3 =>
 doQ (aF ¢ H3 x4 24) fun v10 =>
 Q (.tup [v10,v8]) H3)
theorem pN(x4 x50 x2 x11 x10 x48 x9 x49:AV)(H:Heap)(Q:AV→Heap→Prop)(h : ∀g,mj g x4 x50 x2 x11 x10 x48 x9 x49 H Q):GoL env Tryz.f72 0 jK [(4,x4),(50,x50),(2,x2),(11,x11),(10,x10),(48,x48),(9,x9),(49,x49)] H Q:=c9 fun g=>bq (live:=tM) (cut:=tZ) (n:=500) (Eq.mp (by kernel_rfl) (h g))
noncomputable def uq:Code:=(Tryz.f46.body).getD .skip
def Bv:Nat→Option (List Nat):=fun i=>none
def BQ:Nat→Bool:=fun i=>false
def mM(g:Nat→AV)(x0:AV)(H:Heap)(Q:AV→Heap→Prop):Prop :=
 doW (nRes H §H 1 (qBox ¢ §H 1 24 ~x0)) fun v1 H1 =>
 doW (nRes H1 §H1 3 (bW ¢ §H1 3 27)) fun v2 H2 =>
 doQ (ak ¢ ¥H2 24 ~v1) fun v3 =>
 doW (©true H2 11 73 [v3]) fun v4 H3 =>
 doQ (ar ~v4 0) fun v5 =>
 doQ (ar ~v4 1) fun v6 =>
 doW (nRes H3 §H3 5 (bW ¢ §H3 5 27)) fun v7 H4 =>
 doW (ax ¢ H4 27 ~v7 ~v5) fun v8 H5 =>
 doQ (qBin ¢ .neq 30 °14 ¤0 ~v6 £0) fun v9 =>
 br ~v9 (
 doQ (ak ¢ ¥H5 27 ~v7) fun v10 =>
 doW (ax ¢ H5 27 ~v2 ~v10) fun v11 H6 =>
 doQ (aF ¢ H6 v2 27) fun v12 =>
 Q (.tup [(.v (.slice none 0 0)),v12,v6]) H6) (
 doQ (ak ¢ ¥H5 24 ~v1) fun v10 =>
 doQ (ab ¢ 27 ~v7 0) fun v11 =>
 doQ (ak ¢ ¥H5 3 ~v11) fun v12 =>
 doQ (qBin ¢ .rem 3 °21 ¤2 ~v12 £2) fun v13 =>
 doQ (qBin ¢ .add 3 ¤1 °22 £1 ~v13) fun v14 =>
 doQ (ab ¢ 27 ~v7 1) fun v15 =>
 doQ (ak ¢ ¥H5 3 ~v15) fun v16 =>
 doW (©true H5 26 47 [v10,v14,(.v (.int .i64 0)),v16]) fun v17 H6 =>
 doQ (ar ~v17 0) fun v18 =>
 doQ (ar ~v17 1) fun v19 =>
 doQ (ar ~v17 2) fun v20 =>
 doQ (qBin ¢ .eql 30 °30 ¤0 ~v20 £0) fun v21 =>
 gQ v21 true (qVal ~v18) fun v22 =>
 gQ v21 true (az ¢ false ¥H6 §H6 34 .len #[25] [v22]) fun v23 =>
 gQ v21 true (ab ¢ 27 ~v7 1) fun v24 =>
 gQ v21 true (ak ¢ ¥H6 3 ~v24) fun v25 =>
 gQ v21 true (qBin ¢ .neq 3 °34 °36 ~v23 ~v25) fun v26 =>
 doQ (bn ~v21 ~v26 ¿) fun v27 =>
 br ~v27 (
 doQ (qBin ¢ .neq 30 °39 ¤0 £8 £0) fun v28 =>
 br ~v28 (
 doQ (bN ¢ 27 (some [])) fun v29 =>
 doW (ax ¢ H6 27 ~v2 ~v29) fun v30 H7 =>
 doQ (aF ¢ H7 v2 27) fun v31 =>
 Q (.tup [(.v (.slice none 0 0)),v31,(.v (.int .i64 8))]) H7) (
 doQ (ak ¢ ¥H6 27 ~v7) fun v29 =>
 doW (ax ¢ H6 27 ~v2 ~v29) fun v30 H7 =>
 doQ (aF ¢ H7 v2 27) fun v31 =>
 Q (.tup [v18,v31,(.v (.int .i64 0))]) H7)) (
 doQ (qBin ¢ .neq 30 °39 ¤0 ~v20 £0) fun v28 =>
 br ~v28 (
 doQ (bN ¢ 27 (some [])) fun v29 =>
 doW (ax ¢ H6 27 ~v2 ~v29) fun v30 H7 =>
 doQ (aF ¢ H7 v2 27) fun v31 =>
 Q (.tup [(.v (.slice none 0 0)),v31,v20]) H7) (
 doQ (ak ¢ ¥H6 27 ~v7) fun v29 =>
 doW (ax ¢ H6 27 ~v2 ~v29) fun v30 H7 =>
 doQ (aF ¢ H7 v2 27) fun v31 =>
 Q (.tup [v18,v31,(.v (.int .i64 0))]) H7)))
theorem AF(x0:AV)(H:Heap)(Q:AV→Heap→Prop)(h : ∀g,mM g x0 H Q):GoL env Tryz.f46 0 [.code uq] [(0,x0)] H Q:=⟨fun g=>bq (live:=Bv) (cut:=BQ) (n:=500) (Eq.mp (by kernel_rfl) (h g))⟩
noncomputable def pW:Code:=(Tryz.f73.body).getD .skip
def wq:Nat→Option (List Nat):=fun i=>none
def wD:Nat→Bool:=fun i=>false
def jP(g:Nat→AV)(x0:AV)(H:Heap)(Q:AV→Heap→Prop):Prop :=
 doW (nRes H §H 1 (qBox ¢ §H 1 24 ~x0)) fun v1 H1 =>
 doW (nRes H1 §H1 2 (bW ¢ §H1 2 27)) fun v2 H2 =>
 doQ (ak ¢ ¥H2 24 ~v1) fun v3 =>
 doW (©true H2 7 45 [v3]) fun v4 H3 =>
 doQ (qBin ¢ .neq 30 °8 ¤0 ~v4 £0) fun v5 =>
 br ~v5 (
 doQ (bN ¢ 27 (some [])) fun v6 =>
 doW (ax ¢ H3 27 ~v2 ~v6) fun v7 H4 =>
 doQ (aF ¢ H4 v2 27) fun v8 =>
 Q (.tup [v8,v4]) H4) (
 doQ (ak ¢ ¥H3 24 ~v1) fun v6 =>
 doW (©false H3 13 115 [v6,(.v (.int .i64 0))]) fun v7 H4 =>
 doQ (ak ¢ ¥H4 24 ~v1) fun v8 =>
 doW (©false H4 15 115 [v8,(.v (.int .i64 1))]) fun v9 H5 =>
 doQ (bN ¢ 178 (some [(0,v7),(1,v9)])) fun v10 =>
 doW (nRes H5 §H5 5 (bW ¢ §H5 5 178)) fun v11 H6 =>
 doW (ax ¢ H6 178 ~v11 ~v10) fun v12 H7 =>
 doQ (au ¢ ¥H7 178 ~v11 £0) fun v13 =>
 doQ (ab ¢ 27 ~v13 0) fun v14 =>
 doQ (ak ¢ ¥H7 3 ~v14) fun v15 =>
 doQ (au ¢ ¥H7 178 ~v11 £1) fun v16 =>
 doQ (ab ¢ 27 ~v16 0) fun v17 =>
 doQ (ak ¢ ¥H7 3 ~v17) fun v18 =>
 doQ (qBin ¢ .gtr 3 °19 °22 ~v15 ~v18) fun v19 =>
 br ~v19 (
 doQ (au ¢ ¥H7 178 ~v11 £0) fun v20 =>
 doQ (ak ¢ ¥H7 27 ~v20) fun v21 =>
 doW (ax ¢ H7 27 ~v2 ~v21) fun v22 H8 =>
 doQ (aF ¢ H8 v2 27) fun v23 =>
 Q (.tup [v23,(.v (.int .i64 0))]) H8) (
 doQ (au ¢ ¥H7 178 ~v11 £1) fun v20 =>
 doQ (ak ¢ ¥H7 27 ~v20) fun v21 =>
 doW (ax ¢ H7 27 ~v2 ~v21) fun v22 H8 =>
 doQ (aF ¢ H8 v2 27) fun v23 =>
 Q (.tup [v23,(.v (.int .i64 0))]) H8))
theorem wc(x0:AV)(H:Heap)(Q:AV→Heap→Prop)(h : ∀g,jP g x0 H Q):GoL env Tryz.f73 0 [.code pW] [(0,x0)] H Q:=⟨fun g=>bq (live:=wq) (cut:=wD) (n:=500) (Eq.mp (by kernel_rfl) (h g))⟩
noncomputable def oh:Code:=(Tryz.f113.body).getD .skip
noncomputable def jI:List Item:=(cm 5 400 [.code oh]).getD []
def rW:Nat→Option (List Nat):=fun i=>cond (Nat.beq i 5) (some [13,3,11,12]) (none)
def rZ:Nat→Bool:=fun i=>false
def ov(g:Nat→AV)(x0:AV)(H:Heap)(Q:AV→Heap→Prop):Prop :=
 doQ (az ¢ false ¥H §H 9 .len #[25] [x0]) fun v1 =>
 doQ (qBin ¢ .gtr 3 °9 ¤2048 ~v1 £2048) fun v2 =>
 br ~v2 (
 Q (.v (.int .i64 4)) H) (
 doQ (az ¢ false ¥H §H 12 .len #[25] [x0]) fun v3 =>
  GoL env Tryz.f113 0 jI [(13,(.v (.int .i64 0))),(3,(.v (.int .i64 0))),(11,x0),(12,v3)] H Q)
theorem yQ(x0:AV)(H:Heap)(Q:AV→Heap→Prop)(h : ∀g,ov g x0 H Q):GoL env Tryz.f113 0 [.code oh] [(0,x0)] H Q:=⟨fun g=>bq (live:=rW) (cut:=rZ) (n:=500) (Eq.mp (by kernel_rfl) (h g))⟩
def iL(g:Nat→AV)(x13 x3 x11 x12:AV)(H:Heap)(Q:AV→Heap→Prop):Prop :=
 doQ (qBin ¢ .lss 3 °13 °12 ~x13 ~x12) fun v1 =>
 br ~v1 (
 doQ (au ¢ ¥H 25 ~x11 ~x13) fun v2 =>
 doQ (ak ¢ ¥H 51 ~v2) fun v3 =>
 doW (nRes H §H 5 (bW ¢ §H 5 51)) fun v4 H1 =>
 doW (ax ¢ H1 51 ~v4 ~v3) fun v5 H2 =>
 doQ (ak ¢ ¥H2 51 ~v4) fun v6 =>
 doW (©true H2 19 105 [v6]) fun v7 H3 =>
 doQ (ar ~v7 0) fun v8 =>
 doQ (ar ~v7 1) fun v9 =>
 doQ (qBin ¢ .neq 30 °22 ¤0 ~v9 £0) fun v10 =>
 br ~v10 (
 Q v9 H3) (
 doQ (qBin ¢ .add 3 °25 °26 ~x3 ~v8) fun v11 =>
 doQ (qBin ¢ .add 3 °13 ¤1 ~x13 £1) fun v12 =>
  GoL env Tryz.f113 0 jI [(13,v12),(3,v11),(11,x11),(12,x12)] H3 Q)) (
 doQ (qBin ¢ .gtr 3 °29 ¤2048 ~x3 £2048) fun v2 =>
 br ~v2 (
 Q (.v (.int .i64 9)) H) (
 Q (.v (.int .i64 0)) H))
theorem lW(x13 x3 x11 x12:AV)(H:Heap)(Q:AV→Heap→Prop)(h : ∀g,iL g x13 x3 x11 x12 H Q):GoL env Tryz.f113 0 jI [(13,x13),(3,x3),(11,x11),(12,x12)] H Q:=c9 fun g=>bq (live:=rW) (cut:=rZ) (n:=500) (Eq.mp (by kernel_rfl) (h g))
noncomputable def lz:Code:=(Tryz.f114.body).getD .skip
noncomputable def mf:List Item:=(cm 4 400 [.code lz]).getD []
noncomputable def me:List Item:=(cm 9 400 [.code lz]).getD []
def n8:Nat→Option (List Nat):=fun i=>cond (Nat.beq i 4) (some [9,1,3]) (cond (Nat.beq i 9) (some [23,1,3]) (none))
def oe:Nat→Bool:=fun i=>false
def sC(g:Nat→AV)(x0:AV)(H:Heap)(Q:AV→Heap→Prop):Prop :=
 doW (nRes H §H 1 (qBox ¢ §H 1 27 ~x0)) fun v1 H1 =>
 doW (nRes H1 §H1 6 (sQ ¢ §H1 6 76 £128 £128)) fun v2 H2 =>
 doQ (au ¢ ¥H2 76 ~v2 £0) fun v3 =>
 doW (ax ¢ H2 5 ~v3 (some (a8 77))) fun v4 H3 =>
  GoL env Tryz.f114 0 mf [(9,(.v (.int .i64 0))),(1,v1),(3,v2)] H3 Q
theorem yR(x0:AV)(H:Heap)(Q:AV→Heap→Prop)(h : ∀g,sC g x0 H Q):GoL env Tryz.f114 0 [.code lz] [(0,x0)] H Q:=⟨fun g=>bq (live:=n8) (cut:=oe) (n:=500) (Eq.mp (by kernel_rfl) (h g))⟩
def gm(g:Nat→AV)(x9 x1 x3:AV)(H:Heap)(Q:AV→Heap→Prop):Prop :=
 doQ (qBin ¢ .lss 3 °9 ¤4 ~x9 £4) fun v1 =>
 br ~v1 (
 doQ (qBin ¢ .sub 3 ¤4 °13 £4 ~x9) fun v2 =>
 doQ (ab ¢ 27 ~x1 0) fun v3 =>
 doQ (ak ¢ ¥H 3 ~v3) fun v4 =>
 doQ (qBin ¢ .mul 3 ¤8 °17 £8 ~x9) fun v5 =>
 doQ (qBin ¢ .shr 3 °16 °18 ~v4 ~v5) fun v6 =>
 doQ (aX ¢ ¥H §H 20 3 5 ~v6) fun v7 =>
 doQ (au ¢ ¥H 76 ~x3 ~v2) fun v8 =>
 doW (ax ¢ H 5 ~v8 ~v7) fun v9 H1 =>
 doQ (qBin ¢ .add 3 °9 ¤1 ~x9 £1) fun v10 =>
  GoL env Tryz.f114 0 mf [(9,v10),(1,x1),(3,x3)] H1 Q) (
  GoL env Tryz.f114 0 me [(23,(.v (.int .i64 0))),(1,x1),(3,x3)] H Q)
theorem iF(x9 x1 x3:AV)(H:Heap)(Q:AV→Heap→Prop)(h : ∀g,gm g x9 x1 x3 H Q):GoL env Tryz.f114 0 mf [(9,x9),(1,x1),(3,x3)] H Q:=c9 fun g=>bq (live:=n8) (cut:=oe) (n:=500) (Eq.mp (by kernel_rfl) (h g))
def iM(g:Nat→AV)(x23 x1 x3:AV)(H:Heap)(Q:AV→Heap→Prop):Prop :=
 doQ (qBin ¢ .lss 3 °23 ¤3 ~x23 £3) fun v1 =>
 br ~v1 (
 doQ (qBin ¢ .sub 3 ¤7 °27 £7 ~x23) fun v2 =>
 doQ (ab ¢ 27 ~x1 1) fun v3 =>
 doQ (ak ¢ ¥H 3 ~v3) fun v4 =>
 doQ (qBin ¢ .mul 3 ¤8 °31 £8 ~x23) fun v5 =>
 doQ (qBin ¢ .shr 3 °30 °32 ~v4 ~v5) fun v6 =>
 doQ (aX ¢ ¥H §H 34 3 5 ~v6) fun v7 =>
 doQ (au ¢ ¥H 76 ~x3 ~v2) fun v8 =>
 doW (ax ¢ H 5 ~v8 ~v7) fun v9 H1 =>
 doQ (qBin ¢ .add 3 °23 ¤1 ~x23 £1) fun v10 =>
  GoL env Tryz.f114 0 me [(23,v10),(1,x1),(3,x3)] H1 Q) (
 Q x3 H)
theorem jH(x23 x1 x3:AV)(H:Heap)(Q:AV→Heap→Prop)(h : ∀g,iM g x23 x1 x3 H Q):GoL env Tryz.f114 0 me [(23,x23),(1,x1),(3,x3)] H Q:=c9 fun g=>bq (live:=n8) (cut:=oe) (n:=500) (Eq.mp (by kernel_rfl) (h g))
noncomputable def mJ:Code:=(Tryz.f115.body).getD .skip
noncomputable def kB:List Item:=(cm 5 400 [.code mJ]).getD []
noncomputable def jJ:List Item:=(cm 10 400 [.code mJ]).getD []
def pg:Nat→Option (List Nat):=fun i=>cond (Nat.beq i 5) (some [24,4,22,5,1,23]) (cond (Nat.beq i 10) (some [39,4,37,5,1,38]) (none))
def pv:Nat→Bool:=fun i=>false
def uF(g:Nat→AV)(x0 x1:AV)(H:Heap)(Q:AV→Heap→Prop):Prop :=
 doW (nRes H §H 2 (qBox ¢ §H 2 24 ~x0)) fun v1 H1 =>
 doW (nRes H1 §H1 4 (bW ¢ §H1 4 27)) fun v2 H2 =>
 doQ (ak ¢ ¥H2 24 ~v1) fun v3 =>
 doQ (qBin ¢ .add 3 ¤6144 °13 £6144 ~x1) fun v4 =>
 doW (©true H2 15 116 [v3,v4]) fun v5 H3 =>
 doQ (ar ~v5 0) fun v6 =>
 doQ (ar ~v5 1) fun v7 =>
 doQ (qBin ¢ .neq 30 °18 ¤0 ~v7 £0) fun v8 =>
 br ~v8 (
 doQ (ak ¢ ¥H3 27 ~v2) fun v9 =>
 doW (ax ¢ H3 27 ~v2 ~v9) fun v10 H4 =>
 doQ (aF ¢ H4 v2 27) fun v11 =>
 Q v11 H4) (
 doQ (cw ¢ ¥H3 76 ~v6 (oi (.v (.int .i64 1))) (oi (.v (.int .i64 5))) (some none)) fun v9 =>
 doQ (az ¢ false ¥H3 §H3 23 .len #[76] [v9]) fun v10 =>
  GoL env Tryz.f115 0 kB [(24,(.v (.int .i64 0))),(4,v2),(22,v9),(5,v6),(1,x1),(23,v10)] H3 Q)
theorem AE(x0 x1:AV)(H:Heap)(Q:AV→Heap→Prop)(h : ∀g,uF g x0 x1 H Q):GoL env Tryz.f115 0 [.code mJ] [(0,x0),(1,x1)] H Q:=⟨fun g=>bq (live:=pg) (cut:=pv) (n:=500) (Eq.mp (by kernel_rfl) (h g))⟩
def nv(g:Nat→AV)(x24 x4 x22 x5 x1 x23:AV)(H:Heap)(Q:AV→Heap→Prop):Prop :=
 doQ (qBin ¢ .lss 3 °24 °23 ~x24 ~x23) fun v1 =>
 br ~v1 (
 doQ (au ¢ ¥H 76 ~x22 ~x24) fun v2 =>
 doQ (ak ¢ ¥H 5 ~v2) fun v3 =>
 doQ (ab ¢ 27 ~x4 0) fun v4 =>
 doQ (ak ¢ ¥H 3 ~v4) fun v5 =>
 doQ (qBin ¢ .shl 3 °29 (.const (.int .u64 8)) ~v5 (some (.v (.int .u64 8)))) fun v6 =>
 doQ (aX ¢ ¥H §H 32 5 3 ~v3) fun v7 =>
 doQ (qBin ¢ .or 3 °30 °32 ~v6 ~v7) fun v8 =>
 doQ (ab ¢ 27 ~x4 0) fun v9 =>
 doW (ax ¢ H 3 ~v9 ~v8) fun v10 H1 =>
 doQ (qBin ¢ .add 3 °24 ¤1 ~x24 £1) fun v11 =>
  GoL env Tryz.f115 0 kB [(24,v11),(4,x4),(22,x22),(5,x5),(1,x1),(23,x23)] H1 Q) (
 doQ (cw ¢ ¥H 76 ~x5 (oi (.v (.int .i64 5))) (oi (.v (.int .i64 8))) (some none)) fun v2 =>
 doQ (az ¢ false ¥H §H 38 .len #[76] [v2]) fun v3 =>
  GoL env Tryz.f115 0 jJ [(39,(.v (.int .i64 0))),(4,x4),(37,v2),(5,x5),(1,x1),(38,v3)] H Q)
theorem qn(x24 x4 x22 x5 x1 x23:AV)(H:Heap)(Q:AV→Heap→Prop)(h : ∀g,nv g x24 x4 x22 x5 x1 x23 H Q):GoL env Tryz.f115 0 kB [(24,x24),(4,x4),(22,x22),(5,x5),(1,x1),(23,x23)] H Q:=c9 fun g=>bq (live:=pg) (cut:=pv) (n:=500) (Eq.mp (by kernel_rfl) (h g))
def fE(g:Nat→AV)(x39 x4 x37 x5 x1 x38:AV)(H:Heap)(Q:AV→Heap→Prop):Prop :=
 doQ (qBin ¢ .lss 3 °39 °38 ~x39 ~x38) fun v1 =>
 br ~v1 (
 doQ (au ¢ ¥H 76 ~x37 ~x39) fun v2 =>
 doQ (ak ¢ ¥H 5 ~v2) fun v3 =>
 doQ (ab ¢ 27 ~x4 1) fun v4 =>
 doQ (ak ¢ ¥H 3 ~v4) fun v5 =>
 doQ (qBin ¢ .shl 3 °44 (.const (.int .u64 8)) ~v5 (some (.v (.int .u64 8)))) fun v6 =>
 doQ (aX ¢ ¥H §H 47 5 3 ~v3) fun v7 =>
 doQ (qBin ¢ .or 3 °45 °47 ~v6 ~v7) fun v8 =>
 doQ (ab ¢ 27 ~x4 1) fun v9 =>
 doW (ax ¢ H 3 ~v9 ~v8) fun v10 H1 =>
 doQ (qBin ¢ .add 3 °39 ¤1 ~x39 £1) fun v11 =>
  GoL env Tryz.f115 0 jJ [(39,v11),(4,x4),(37,x37),(5,x5),(1,x1),(38,x38)] H1 Q) (
 doQ (ab ¢ 27 ~x4 0) fun v2 =>
 doQ (ak ¢ ¥H 3 ~v2) fun v3 =>
 doQ (qBin ¢ .lss 3 °52 ¤1 ~v3 £1) fun v4 =>
 gQ v4 false (ab ¢ 27 ~x4 0) fun v5 =>
 gQ v4 false (ak ¢ ¥H 3 ~v5) fun v6 =>
 gQ v4 false (qBin ¢ .geq 3 °56 ¤2147483648 ~v6 £2147483648) fun v7 =>
 doQ (bn ~v4 ¡ ~v7) fun v8 =>
 gQ v8 false (ab ¢ 27 ~x4 0) fun v9 =>
 gQ v8 false (ak ¢ ¥H 3 ~v9) fun v10 =>
 gQ v8 false (qBin ¢ .rem 3 °61 ¤2 ~v10 £2) fun v11 =>
 gQ v8 false (qVal ~x1) fun v12 =>
 gQ v8 false (qBin ¢ .neq 3 °62 °63 ~v11 ~v12) fun v13 =>
 doQ (bn ~v8 ¡ ~v13) fun v14 =>
 gQ v14 false (qVal ~x5) fun v15 =>
 gQ v14 false (ak ¢ ¥H 27 ~x4) fun v16 =>
 gW v14 false H (©true H 69 114 [v16]) fun v17 H1 =>
 gW v14 false H1 (©true H1 70 87 [v15,v17]) fun v18 H2 =>
 gQ v14 false (qUn ¢ .not ~v18) fun v19 =>
 doQ (bn ~v14 ¡ ~v19) fun v20 =>
 br ~v20 (
 doQ (bN ¢ 27 (some [])) fun v21 =>
 doW (ax ¢ H2 27 ~x4 ~v21) fun v22 H3 =>
 doQ (aF ¢ H3 x4 27) fun v23 =>
 Q v23 H3) (
 doQ (ak ¢ ¥H2 27 ~x4) fun v21 =>
 doW (ax ¢ H2 27 ~x4 ~v21) fun v22 H3 =>
 doQ (aF ¢ H3 x4 27) fun v23 =>
 Q v23 H3))
theorem pM(x39 x4 x37 x5 x1 x38:AV)(H:Heap)(Q:AV→Heap→Prop)(h : ∀g,fE g x39 x4 x37 x5 x1 x38 H Q):GoL env Tryz.f115 0 jJ [(39,x39),(4,x4),(37,x37),(5,x5),(1,x1),(38,x38)] H Q:=c9 fun g=>bq (live:=pg) (cut:=pv) (n:=500) (Eq.mp (by kernel_rfl) (h g))
end Go.Proofs.YtiidajnodhkidaaGreat
