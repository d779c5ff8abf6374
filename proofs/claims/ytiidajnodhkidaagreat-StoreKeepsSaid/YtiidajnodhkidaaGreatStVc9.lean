/-
  What is to be shown of each function, computed from its code. No statement of a seat is proved here.
-/
import Derived.Test.YtiidajnodhkidaaGreatStTy
set_option linter.unusedVariables false
set_option maxRecDepth 1000000
namespace Go.Proofs.YtiidajnodhkidaaGreat
open Go.Ab
local notation:max "©" b:max h:max n:max f:max a:max=>cl env b (limf env) (limt env 0) h (Ref.mk 0 n (Heap.gen h 0 n) 0) (some (AV.fn (Fn.func f) [] [])) a
local notation:max "§" h:max n:max=>Ref.mk 0 n (Heap.gen h 0 n) 0
local notation:max "~" a:max=>some a
local notation:max "¥" h:max=>Heap.get h
local notation:max "¤" n:max=>(Operand.const (Value.int IntKind.i64 n))
local notation:max "£" n:max=>some (AV.v (Value.int IntKind.i64 n))
local notation:max "¡" => some (AV.v (Value.bool true))
local notation:max "¿" => some (AV.v (Value.bool false))
local notation:max "°" n:max=>(Operand.tmp n)
local notation:max "¢" => env.P
noncomputable def pI:Code:=(Tryz.f72.body).getD .skip
noncomputable def jO:List Item:=(cb 14 400 [.code pI]).getD []
def tO:Nat→Option (List Nat):=fun i=>cond (Nat.beq i 14) (some [4,50,2,11,10,48,9,49]) (none)
def tY:Nat→Bool:=fun i=>false
def jr(g:Nat→AV)(x0 x1:AV)(H:Heap)(Q:AV→Heap→Prop):Prop :=
 doW (nRes H §H 2 (qBox ¢ §H 2 24 ~x0)) fun v1 H1 =>
 doW (nRes H1 §H1 4 (bZ ¢ §H1 4 24)) fun v2 H2 =>
 doQ (ak ¢ ¥H2 24 ~v1) fun v3 =>
 doW (©true H2 16 73 [v3]) fun v4 H3 =>
 doQ (ao ~v4 0) fun v5 =>
 doQ (ao ~v4 1) fun v6 =>
 doW (nRes H3 §H3 6 (bZ ¢ §H3 6 27)) fun v7 H4 =>
 doW (au ¢ H4 27 ~v7 ~v5) fun v8 H5 =>
 doQ (qBin ¢ .neq 30 °20 ¤0 ~v6 £0) fun v9 =>
 br ~v9 (
 doQ (bQ ¢ 24 (some [])) fun v10 =>
 doW (au ¢ H5 24 ~v2 ~v10) fun v11 H6 =>
 doQ (aE ¢ H6 v2 24) fun v12 =>
 Q (.tup [v12,v6]) H6) (
 doQ (ab ¢ 24 ~v1 1) fun v10 =>
 doQ (ak ¢ ¥H5 3 ~v10) fun v11 =>
 doQ (qBin ¢ .lss 3 °26 ¤1 ~v11 £1) fun v12 =>
 br ~v12 (
 doQ (bQ ¢ 24 (some [])) fun v13 =>
 doW (au ¢ H5 24 ~v2 ~v13) fun v14 H6 =>
 doQ (aE ¢ H6 v2 24) fun v15 =>
 Q (.tup [v15,(.v (.int .i64 2))]) H6) (
 doW (©true H5 30 113 [x1]) fun v13 H6 =>
 doQ (qBin ¢ .neq 30 °31 ¤0 ~v13 £0) fun v14 =>
 br ~v14 (
 doQ (bQ ¢ 24 (some [])) fun v15 =>
 doW (au ¢ H6 24 ~v2 ~v15) fun v16 H7 =>
 doQ (aE ¢ H7 v2 24) fun v17 =>
 Q (.tup [v17,v13]) H7) (
 doQ (ab ¢ 27 ~v7 0) fun v15 =>
 doQ (ak ¢ ¥H6 3 ~v15) fun v16 =>
 doQ (qBin ¢ .add 3 °36 ¤1 ~v16 £1) fun v17 =>
 doQ (aw ¢ false ¥H6 §H6 39 .len #[25] [x1]) fun v18 =>
 doQ (bQ ¢ 27 (some [(0,v17),(1,v18)])) fun v19 =>
 doW (nRes H6 §H6 9 (bZ ¢ §H6 9 27)) fun v20 H7 =>
 doW (au ¢ H7 27 ~v20 ~v19) fun v21 H8 =>
 doQ (ab ¢ 27 ~v20 0) fun v22 =>
 doQ (ak ¢ ¥H8 3 ~v22) fun v23 =>
 doQ (qBin ¢ .geq 3 °42 ¤2147483648 ~v23 £2147483648) fun v24 =>
 br ~v24 (
 doQ (bQ ¢ 24 (some [])) fun v25 =>
 doW (au ¢ H8 24 ~v2 ~v25) fun v26 H9 =>
 doQ (aE ¢ H9 v2 24) fun v27 =>
 Q (.tup [v27,(.v (.int .i64 9))]) H9) (
 doQ (ab ¢ 27 ~v20 0) fun v25 =>
 doQ (ak ¢ ¥H8 3 ~v25) fun v26 =>
 doQ (qBin ¢ .rem 3 °46 ¤2 ~v26 £2) fun v27 =>
 doQ (
  aw ¢ false ¥H8 §H8 49 .len #[25] [x1]) fun v28 =>
  GoL env Tryz.f72 0 jO [(4,v2),(50,(.v (.int .i64 0))),(2,v1),(11,(.v (.int .i64 0))),(10,v27),(48,x1),(9,v20),(49,v28)] H8 Q))))
theorem Ay(x0 x1:AV)(H:Heap)(Q:AV→Heap→Prop)(h : ∀g,jr g x0 x1 H Q):GoL env Tryz.f72 0 [.code pI] [(0,x0),(1,x1)] H Q:=⟨fun g=>bn (live:=tO) (cut:=tY) (n:=500) (Eq.mp (by kernel_rfl) (h g))⟩
def mw(g:Nat→AV)(x4 x50 x2 x11 x10 x48 x9 x49:AV)(H:Heap)(Q:AV→Heap→Prop):Prop :=
 doQ (qBin ¢ .lss 3 °50 °49 ~x50 ~x49) fun v1 =>
 br ~v1 (
 doQ (ax ¢ ¥H 25 ~x48 ~x50) fun v2 =>
 doQ (ak ¢ ¥H 51 ~v2) fun v3 =>
 doW (nRes H §H 13 (bZ ¢ §H 13 51)) fun v4 H1 =>
 doW (au ¢ H1 51 ~v4 ~v3) fun v5 H2 =>
 doQ (ak ¢ ¥H2 24 ~x2) fun v6 =>
 doQ (qBin ¢ .add 3 ¤1 °57 £1 ~x10) fun v7 =>
 doQ (qBin ¢ .add 3 °60 ¤1 ~x50 £1) fun v8 =>
 doQ (ak ¢ ¥H2 51 ~v4) fun v9 =>
 doW (©true H2 63 42 [v6,v7,x11,v8,v9]) fun v10 H3 =>
 doQ (ao ~v10 0) fun v11 =>
 doQ (ao ~v10 1) fun v12 =>
 doQ (ao ~v10 2) fun v13 =>
 doW (au ¢ H3 24 ~x2 ~v11) fun v14 H4 =>
 doQ (qBin ¢ .neq 30 °67 ¤0 ~v13 £0) fun v15 =>
 br ~v15 (
 doQ (bQ ¢ 24 (some [])) fun v16 =>
 doW (au ¢ H4 24 ~x4 ~v16) fun v17 H5 =>
 doQ (aE ¢ H5 x4 24) fun v18 =>
 Q (.tup [v18,v13]) H5) (
 doQ (qBin ¢ .add 3 °50 ¤1 ~x50 £1) fun v16 =>
  GoL env Tryz.f72 0 jO [(4,x4),(50,v16),(2,x2),(11,v12),(10,x10),(48,x48),(9,x9),(49,x49)] H4 Q)) (
 doQ (ak ¢ ¥H 24 ~x2) fun v2 =>
 doQ (qBin ¢ .add 3 ¤6144 °73 £6144 ~x10) fun v3 =>
 doQ (ak ¢ ¥H 27 ~x9) fun v4 =>
 doW (©false H 76 114 [v4]) fun v5 H1 =>
 doW (©false H1 77 71 [v2,v3,v5]) fun v6 H2 =>
 doQ (ao ~v6 0) fun v7 =>
 doQ (ao ~v6 1) fun v8 =>
 doW (au ¢ H2 24 ~x4 ~v7) fun v9 H3 =>
 doQ (aE ¢ H3 x4 24) fun v10 =>
 Q (.tup [v10,v8]) H3)
theorem pW(x4 x50 x2 x11 x10 x48 x9 x49:AV)(H:Heap)(Q:AV→Heap→Prop)(h : ∀g,mw g x4 x50 x2 x11 x10 x48 x9 x49 H Q):GoL env Tryz.f72 0 jO [(4,x4),(50,x50),(2,x2),(11,x11),(10,x10),(48,x48),(9,x9),(49,x49)] H Q:=cV fun g=>bn (live:=tO) (cut:=tY) (n:=500) (Eq.mp (by kernel_rfl) (h g))
noncomputable def uq:Code:=(Tryz.f46.body).getD .skip
def Bn:Nat→Option (List Nat):=fun i=>none
def BJ:Nat→Bool:=fun i=>false
def mR(g:Nat→AV)(x0:AV)(H:Heap)(Q:AV→Heap→Prop):Prop :=
 doW (nRes H §H 1 (qBox ¢ §H 1 24 ~x0)) fun v1 H1 =>
 doW (nRes H1 §H1 3 (bZ ¢ §H1 3 27)) fun v2 H2 =>
 doQ (ak ¢ ¥H2 24 ~v1) fun v3 =>
 doW (©true H2 11 73 [v3]) fun v4 H3 =>
 doQ (ao ~v4 0) fun v5 =>
 doQ (ao ~v4 1) fun v6 =>
 doW (nRes H3 §H3 5 (bZ ¢ §H3 5 27)) fun v7 H4 =>
 doW (au ¢ H4 27 ~v7 ~v5) fun v8 H5 =>
 doQ (qBin ¢ .neq 30 °14 ¤0 ~v6 £0) fun v9 =>
 br ~v9 (
 doQ (ak ¢ ¥H5 27 ~v7) fun v10 =>
 doW (au ¢ H5 27 ~v2 ~v10) fun v11 H6 =>
 doQ (aE ¢ H6 v2 27) fun v12 =>
 Q (.tup [(.v (.slice none 0 0)),v12,v6]) H6) (
 doQ (ak ¢ ¥H5 24 ~v1) fun v10 =>
 doQ (ab ¢ 27 ~v7 0) fun v11 =>
 doQ (ak ¢ ¥H5 3 ~v11) fun v12 =>
 doQ (qBin ¢ .rem 3 °21 ¤2 ~v12 £2) fun v13 =>
 doQ (qBin ¢ .add 3 ¤1 °22 £1 ~v13) fun v14 =>
 doQ (ab ¢ 27 ~v7 1) fun v15 =>
 doQ (ak ¢ ¥H5 3 ~v15) fun v16 =>
 doW (©true H5 26 47 [v10,v14,(.v (.int .i64 0)),v16]) fun v17 H6 =>
 doQ (ao ~v17 0) fun v18 =>
 doQ (ao ~v17 1) fun v19 =>
 doQ (ao ~v17 2) fun v20 =>
 doQ (qBin ¢ .eql 30 °30 ¤0 ~v20 £0) fun v21 =>
 gQ v21 true (qVal ~v18) fun v22 =>
 gQ v21 true (aw ¢ false ¥H6 §H6 34 .len #[25] [v22]) fun v23 =>
 gQ v21 true (ab ¢ 27 ~v7 1) fun v24 =>
 gQ v21 true (ak ¢ ¥H6 3 ~v24) fun v25 =>
 gQ v21 true (qBin ¢ .neq 3 °34 °36 ~v23 ~v25) fun v26 =>
 doQ (bB ~v21 ~v26 ¿) fun v27 =>
 br ~v27 (
 doQ (qBin ¢ .neq 30 °39 ¤0 £8 £0) fun v28 =>
 br ~v28 (
 doQ (bQ ¢ 27 (some [])) fun v29 =>
 doW (au ¢ H6 27 ~v2 ~v29) fun v30 H7 =>
 doQ (aE ¢ H7 v2 27) fun v31 =>
 Q (.tup [(.v (.slice none 0 0)),v31,(.v (.int .i64 8))]) H7) (
 doQ (ak ¢ ¥H6 27 ~v7) fun v29 =>
 doW (au ¢ H6 27 ~v2 ~v29) fun v30 H7 =>
 doQ (aE ¢ H7 v2 27) fun v31 =>
 Q (.tup [v18,v31,(.v (.int .i64 0))]) H7)) (
 doQ (qBin ¢ .neq 30 °39 ¤0 ~v20 £0) fun v28 =>
 br ~v28 (
 doQ (bQ ¢ 27 (some [])) fun v29 =>
 doW (au ¢ H6 27 ~v2 ~v29) fun v30 H7 =>
 doQ (aE ¢ H7 v2 27) fun v31 =>
 Q (.tup [(.v (.slice none 0 0)),v31,v20]) H7) (
 doQ (ak ¢ ¥H6 27 ~v7) fun v29 =>
 doW (au ¢ H6 27 ~v2 ~v29) fun v30 H7 =>
 doQ (aE ¢ H7 v2 27) fun v31 =>
 Q (.tup [v18,v31,(.v (.int .i64 0))]) H7)))
theorem Ax(x0:AV)(H:Heap)(Q:AV→Heap→Prop)(h : ∀g,mR g x0 H Q):GoL env Tryz.f46 0 [.code uq] [(0,x0)] H Q:=⟨fun g=>bn (live:=Bn) (cut:=BJ) (n:=500) (Eq.mp (by kernel_rfl) (h g))⟩
noncomputable def qe:Code:=(Tryz.f73.body).getD .skip
def wo:Nat→Option (List Nat):=fun i=>none
def wC:Nat→Bool:=fun i=>false
def jT(g:Nat→AV)(x0:AV)(H:Heap)(Q:AV→Heap→Prop):Prop :=
 doW (nRes H §H 1 (qBox ¢ §H 1 24 ~x0)) fun v1 H1 =>
 doW (nRes H1 §H1 2 (bZ ¢ §H1 2 27)) fun v2 H2 =>
 doQ (ak ¢ ¥H2 24 ~v1) fun v3 =>
 doW (©true H2 7 45 [v3]) fun v4 H3 =>
 doQ (qBin ¢ .neq 30 °8 ¤0 ~v4 £0) fun v5 =>
 br ~v5 (
 doQ (bQ ¢ 27 (some [])) fun v6 =>
 doW (au ¢ H3 27 ~v2 ~v6) fun v7 H4 =>
 doQ (aE ¢ H4 v2 27) fun v8 =>
 Q (.tup [v8,v4]) H4) (
 doQ (ak ¢ ¥H3 24 ~v1) fun v6 =>
 doW (©false H3 13 115 [v6,(.v (.int .i64 0))]) fun v7 H4 =>
 doQ (ak ¢ ¥H4 24 ~v1) fun v8 =>
 doW (©false H4 15 115 [v8,(.v (.int .i64 1))]) fun v9 H5 =>
 doQ (bQ ¢ 178 (some [(0,v7),(1,v9)])) fun v10 =>
 doW (nRes H5 §H5 5 (bZ ¢ §H5 5 178)) fun v11 H6 =>
 doW (au ¢ H6 178 ~v11 ~v10) fun v12 H7 =>
 doQ (ax ¢ ¥H7 178 ~v11 £0) fun v13 =>
 doQ (ab ¢ 27 ~v13 0) fun v14 =>
 doQ (ak ¢ ¥H7 3 ~v14) fun v15 =>
 doQ (ax ¢ ¥H7 178 ~v11 £1) fun v16 =>
 doQ (ab ¢ 27 ~v16 0) fun v17 =>
 doQ (ak ¢ ¥H7 3 ~v17) fun v18 =>
 doQ (qBin ¢ .gtr 3 °19 °22 ~v15 ~v18) fun v19 =>
 br ~v19 (
 doQ (ax ¢ ¥H7 178 ~v11 £0) fun v20 =>
 doQ (ak ¢ ¥H7 27 ~v20) fun v21 =>
 doW (au ¢ H7 27 ~v2 ~v21) fun v22 H8 =>
 doQ (aE ¢ H8 v2 27) fun v23 =>
 Q (.tup [v23,(.v (.int .i64 0))]) H8) (
 doQ (ax ¢ ¥H7 178 ~v11 £1) fun v20 =>
 doQ (ak ¢ ¥H7 27 ~v20) fun v21 =>
 doW (au ¢ H7 27 ~v2 ~v21) fun v22 H8 =>
 doQ (aE ¢ H8 v2 27) fun v23 =>
 Q (.tup [v23,(.v (.int .i64 0))]) H8))
theorem wc(x0:AV)(H:Heap)(Q:AV→Heap→Prop)(h : ∀g,jT g x0 H Q):GoL env Tryz.f73 0 [.code qe] [(0,x0)] H Q:=⟨fun g=>bn (live:=wo) (cut:=wC) (n:=500) (Eq.mp (by kernel_rfl) (h g))⟩
noncomputable def oB:Code:=(Tryz.f113.body).getD .skip
noncomputable def jM:List Item:=(cb 5 400 [.code oB]).getD []
def r8:Nat→Option (List Nat):=fun i=>cond (Nat.beq i 5) (some [13,3,11,12]) (none)
def sb:Nat→Bool:=fun i=>false
def oG(g:Nat→AV)(x0:AV)(H:Heap)(Q:AV→Heap→Prop):Prop :=
 doQ (aw ¢ false ¥H §H 9 .len #[25] [x0]) fun v1 =>
 doQ (qBin ¢ .gtr 3 °9 ¤2048 ~v1 £2048) fun v2 =>
 br ~v2 (
 Q (.v (.int .i64 4)) H) (
 doQ (aw ¢ false ¥H §H 12 .len #[25] [x0]) fun v3 =>
  GoL env Tryz.f113 0 jM [(13,(.v (.int .i64 0))),(3,(.v (.int .i64 0))),(11,x0),(12,v3)] H Q)
theorem yK(x0:AV)(H:Heap)(Q:AV→Heap→Prop)(h : ∀g,oG g x0 H Q):GoL env Tryz.f113 0 [.code oB] [(0,x0)] H Q:=⟨fun g=>bn (live:=r8) (cut:=sb) (n:=500) (Eq.mp (by kernel_rfl) (h g))⟩
def iR(g:Nat→AV)(x13 x3 x11 x12:AV)(H:Heap)(Q:AV→Heap→Prop):Prop :=
 doQ (qBin ¢ .lss 3 °13 °12 ~x13 ~x12) fun v1 =>
 br ~v1 (
 doQ (ax ¢ ¥H 25 ~x11 ~x13) fun v2 =>
 doQ (ak ¢ ¥H 51 ~v2) fun v3 =>
 doW (nRes H §H 5 (bZ ¢ §H 5 51)) fun v4 H1 =>
 doW (au ¢ H1 51 ~v4 ~v3) fun v5 H2 =>
 doQ (ak ¢ ¥H2 51 ~v4) fun v6 =>
 doW (©true H2 19 105 [v6]) fun v7 H3 =>
 doQ (ao ~v7 0) fun v8 =>
 doQ (ao ~v7 1) fun v9 =>
 doQ (qBin ¢ .neq 30 °22 ¤0 ~v9 £0) fun v10 =>
 br ~v10 (
 Q v9 H3) (
 doQ (qBin ¢ .add 3 °25 °26 ~x3 ~v8) fun v11 =>
 doQ (qBin ¢ .add 3 °13 ¤1 ~x13 £1) fun v12 =>
  GoL env Tryz.f113 0 jM [(13,v12),(3,v11),(11,x11),(12,x12)] H3 Q)) (
 doQ (qBin ¢ .gtr 3 °29 ¤2048 ~x3 £2048) fun v2 =>
 br ~v2 (
 Q (.v (.int .i64 9)) H) (
 Q (.v (.int .i64 0)) H))
theorem md(x13 x3 x11 x12:AV)(H:Heap)(Q:AV→Heap→Prop)(h : ∀g,iR g x13 x3 x11 x12 H Q):GoL env Tryz.f113 0 jM [(13,x13),(3,x3),(11,x11),(12,x12)] H Q:=cV fun g=>bn (live:=r8) (cut:=sb) (n:=500) (Eq.mp (by kernel_rfl) (h g))
noncomputable def lC:Code:=(Tryz.f114.body).getD .skip
noncomputable def mr:List Item:=(cb 4 400 [.code lC]).getD []
noncomputable def mq:List Item:=(cb 9 400 [.code lC]).getD []
def ot:Nat→Option (List Nat):=fun i=>cond (Nat.beq i 4) (some [9,1,3]) (cond (Nat.beq i 9) (some [23,1,3]) (none))
def oz:Nat→Bool:=fun i=>false
def sE(g:Nat→AV)(x0:AV)(H:Heap)(Q:AV→Heap→Prop):Prop :=
 doW (nRes H §H 1 (qBox ¢ §H 1 27 ~x0)) fun v1 H1 =>
 doW (nRes H1 §H1 6 (sS ¢ §H1 6 76 £128 £128)) fun v2 H2 =>
 doQ (ax ¢ ¥H2 76 ~v2 £0) fun v3 =>
 doW (au ¢ H2 5 ~v3 (some (a8 77))) fun v4 H3 =>
  GoL env Tryz.f114 0 mr [(9,(.v (.int .i64 0))),(1,v1),(3,v2)] H3 Q
theorem yL(x0:AV)(H:Heap)(Q:AV→Heap→Prop)(h : ∀g,sE g x0 H Q):GoL env Tryz.f114 0 [.code lC] [(0,x0)] H Q:=⟨fun g=>bn (live:=ot) (cut:=oz) (n:=500) (Eq.mp (by kernel_rfl) (h g))⟩
def gy(g:Nat→AV)(x9 x1 x3:AV)(H:Heap)(Q:AV→Heap→Prop):Prop :=
 doQ (qBin ¢ .lss 3 °9 ¤4 ~x9 £4) fun v1 =>
 br ~v1 (
 doQ (qBin ¢ .sub 3 ¤4 °13 £4 ~x9) fun v2 =>
 doQ (ab ¢ 27 ~x1 0) fun v3 =>
 doQ (ak ¢ ¥H 3 ~v3) fun v4 =>
 doQ (qBin ¢ .mul 3 ¤8 °17 £8 ~x9) fun v5 =>
 doQ (qBin ¢ .shr 3 °16 °18 ~v4 ~v5) fun v6 =>
 doQ (aW ¢ ¥H §H 20 3 5 ~v6) fun v7 =>
 doQ (ax ¢ ¥H 76 ~x3 ~v2) fun v8 =>
 doW (au ¢ H 5 ~v8 ~v7) fun v9 H1 =>
 doQ (qBin ¢ .add 3 °9 ¤1 ~x9 £1) fun v10 =>
  GoL env Tryz.f114 0 mr [(9,v10),(1,x1),(3,x3)] H1 Q) (
  GoL env Tryz.f114 0 mq [(23,(.v (.int .i64 0))),(1,x1),(3,x3)] H Q)
theorem iK(x9 x1 x3:AV)(H:Heap)(Q:AV→Heap→Prop)(h : ∀g,gy g x9 x1 x3 H Q):GoL env Tryz.f114 0 mr [(9,x9),(1,x1),(3,x3)] H Q:=cV fun g=>bn (live:=ot) (cut:=oz) (n:=500) (Eq.mp (by kernel_rfl) (h g))
def iS(g:Nat→AV)(x23 x1 x3:AV)(H:Heap)(Q:AV→Heap→Prop):Prop :=
 doQ (qBin ¢ .lss 3 °23 ¤3 ~x23 £3) fun v1 =>
 br ~v1 (
 doQ (qBin ¢ .sub 3 ¤7 °27 £7 ~x23) fun v2 =>
 doQ (ab ¢ 27 ~x1 1) fun v3 =>
 doQ (ak ¢ ¥H 3 ~v3) fun v4 =>
 doQ (qBin ¢ .mul 3 ¤8 °31 £8 ~x23) fun v5 =>
 doQ (qBin ¢ .shr 3 °30 °32 ~v4 ~v5) fun v6 =>
 doQ (aW ¢ ¥H §H 34 3 5 ~v6) fun v7 =>
 doQ (ax ¢ ¥H 76 ~x3 ~v2) fun v8 =>
 doW (au ¢ H 5 ~v8 ~v7) fun v9 H1 =>
 doQ (qBin ¢ .add 3 °23 ¤1 ~x23 £1) fun v10 =>
  GoL env Tryz.f114 0 mq [(23,v10),(1,x1),(3,x3)] H1 Q) (
 Q x3 H)
theorem jL(x23 x1 x3:AV)(H:Heap)(Q:AV→Heap→Prop)(h : ∀g,iS g x23 x1 x3 H Q):GoL env Tryz.f114 0 mq [(23,x23),(1,x1),(3,x3)] H Q:=cV fun g=>bn (live:=ot) (cut:=oz) (n:=500) (Eq.mp (by kernel_rfl) (h g))
noncomputable def mO:Code:=(Tryz.f115.body).getD .skip
noncomputable def kE:List Item:=(cb 5 400 [.code mO]).getD []
noncomputable def jN:List Item:=(cb 10 400 [.code mO]).getD []
def pw:Nat→Option (List Nat):=fun i=>cond (Nat.beq i 5) (some [24,4,22,5,1,23]) (cond (Nat.beq i 10) (some [39,4,37,5,1,38]) (none))
def pE:Nat→Bool:=fun i=>false
def uE(g:Nat→AV)(x0 x1:AV)(H:Heap)(Q:AV→Heap→Prop):Prop :=
 doW (nRes H §H 2 (qBox ¢ §H 2 24 ~x0)) fun v1 H1 =>
 doW (nRes H1 §H1 4 (bZ ¢ §H1 4 27)) fun v2 H2 =>
 doQ (ak ¢ ¥H2 24 ~v1) fun v3 =>
 doQ (qBin ¢ .add 3 ¤6144 °13 £6144 ~x1) fun v4 =>
 doW (©true H2 15 116 [v3,v4]) fun v5 H3 =>
 doQ (ao ~v5 0) fun v6 =>
 doQ (ao ~v5 1) fun v7 =>
 doQ (qBin ¢ .neq 30 °18 ¤0 ~v7 £0) fun v8 =>
 br ~v8 (
 doQ (ak ¢ ¥H3 27 ~v2) fun v9 =>
 doW (au ¢ H3 27 ~v2 ~v9) fun v10 H4 =>
 doQ (aE ¢ H4 v2 27) fun v11 =>
 Q v11 H4) (
 doQ (cu ¢ ¥H3 76 ~v6 (oi (.v (.int .i64 1))) (oi (.v (.int .i64 5))) (some none)) fun v9 =>
 doQ (aw ¢ false ¥H3 §H3 23 .len #[76] [v9]) fun v10 =>
  GoL env Tryz.f115 0 kE [(24,(.v (.int .i64 0))),(4,v2),(22,v9),(5,v6),(1,x1),(23,v10)] H3 Q)
theorem Aw(x0 x1:AV)(H:Heap)(Q:AV→Heap→Prop)(h : ∀g,uE g x0 x1 H Q):GoL env Tryz.f115 0 [.code mO] [(0,x0),(1,x1)] H Q:=⟨fun g=>bn (live:=pw) (cut:=pE) (n:=500) (Eq.mp (by kernel_rfl) (h g))⟩
def nG(g:Nat→AV)(x24 x4 x22 x5 x1 x23:AV)(H:Heap)(Q:AV→Heap→Prop):Prop :=
 doQ (qBin ¢ .lss 3 °24 °23 ~x24 ~x23) fun v1 =>
 br ~v1 (
 doQ (ax ¢ ¥H 76 ~x22 ~x24) fun v2 =>
 doQ (ak ¢ ¥H 5 ~v2) fun v3 =>
 doQ (ab ¢ 27 ~x4 0) fun v4 =>
 doQ (ak ¢ ¥H 3 ~v4) fun v5 =>
 doQ (qBin ¢ .shl 3 °29 (.const (.int .u64 8)) ~v5 (some (.v (.int .u64 8)))) fun v6 =>
 doQ (aW ¢ ¥H §H 32 5 3 ~v3) fun v7 =>
 doQ (qBin ¢ .or 3 °30 °32 ~v6 ~v7) fun v8 =>
 doQ (ab ¢ 27 ~x4 0) fun v9 =>
 doW (au ¢ H 3 ~v9 ~v8) fun v10 H1 =>
 doQ (qBin ¢ .add 3 °24 ¤1 ~x24 £1) fun v11 =>
  GoL env Tryz.f115 0 kE [(24,v11),(4,x4),(22,x22),(5,x5),(1,x1),(23,x23)] H1 Q) (
 doQ (cu ¢ ¥H 76 ~x5 (oi (.v (.int .i64 5))) (oi (.v (.int .i64 8))) (some none)) fun v2 =>
 doQ (aw ¢ false ¥H §H 38 .len #[76] [v2]) fun v3 =>
  GoL env Tryz.f115 0 jN [(39,(.v (.int .i64 0))),(4,x4),(37,v2),(5,x5),(1,x1),(38,v3)] H Q)
theorem qy(x24 x4 x22 x5 x1 x23:AV)(H:Heap)(Q:AV→Heap→Prop)(h : ∀g,nG g x24 x4 x22 x5 x1 x23 H Q):GoL env Tryz.f115 0 kE [(24,x24),(4,x4),(22,x22),(5,x5),(1,x1),(23,x23)] H Q:=cV fun g=>bn (live:=pw) (cut:=pE) (n:=500) (Eq.mp (by kernel_rfl) (h g))
def fL(g:Nat→AV)(x39 x4 x37 x5 x1 x38:AV)(H:Heap)(Q:AV→Heap→Prop):Prop :=
 doQ (qBin ¢ .lss 3 °39 °38 ~x39 ~x38) fun v1 =>
 br ~v1 (
 doQ (ax ¢ ¥H 76 ~x37 ~x39) fun v2 =>
 doQ (ak ¢ ¥H 5 ~v2) fun v3 =>
 doQ (ab ¢ 27 ~x4 1) fun v4 =>
 doQ (ak ¢ ¥H 3 ~v4) fun v5 =>
 doQ (qBin ¢ .shl 3 °44 (.const (.int .u64 8)) ~v5 (some (.v (.int .u64 8)))) fun v6 =>
 doQ (aW ¢ ¥H §H 47 5 3 ~v3) fun v7 =>
 doQ (qBin ¢ .or 3 °45 °47 ~v6 ~v7) fun v8 =>
 doQ (ab ¢ 27 ~x4 1) fun v9 =>
 doW (au ¢ H 3 ~v9 ~v8) fun v10 H1 =>
 doQ (qBin ¢ .add 3 °39 ¤1 ~x39 £1) fun v11 =>
  GoL env Tryz.f115 0 jN [(39,v11),(4,x4),(37,x37),(5,x5),(1,x1),(38,x38)] H1 Q) (
 doQ (ab ¢ 27 ~x4 0) fun v2 =>
 doQ (ak ¢ ¥H 3 ~v2) fun v3 =>
 doQ (qBin ¢ .lss 3 °52 ¤1 ~v3 £1) fun v4 =>
 gQ v4 false (ab ¢ 27 ~x4 0) fun v5 =>
 gQ v4 false (ak ¢ ¥H 3 ~v5) fun v6 =>
 gQ v4 false (qBin ¢ .geq 3 °56 ¤2147483648 ~v6 £2147483648) fun v7 =>
 doQ (bB ~v4 ¡ ~v7) fun v8 =>
 gQ v8 false (ab ¢ 27 ~x4 0) fun v9 =>
 gQ v8 false (ak ¢ ¥H 3 ~v9) fun v10 =>
 gQ v8 false (qBin ¢ .rem 3 °61 ¤2 ~v10 £2) fun v11 =>
 gQ v8 false (qVal ~x1) fun v12 =>
 gQ v8 false (qBin ¢ .neq 3 °62 °63 ~v11 ~v12) fun v13 =>
 doQ (bB ~v8 ¡ ~v13) fun v14 =>
 gQ v14 false (qVal ~x5) fun v15 =>
 gQ v14 false (ak ¢ ¥H 27 ~x4) fun v16 =>
 gW v14 false H (©true H 69 114 [v16]) fun v17 H1 =>
 gW v14 false H1 (©true H1 70 87 [v15,v17]) fun v18 H2 =>
 gQ v14 false (qUn ¢ .not ~v18) fun v19 =>
 doQ (bB ~v14 ¡ ~v19) fun v20 =>
 br ~v20 (
 doQ (bQ ¢ 27 (some [])) fun v21 =>
 doW (au ¢ H2 27 ~x4 ~v21) fun v22 H3 =>
 doQ (aE ¢ H3 x4 27) fun v23 =>
 Q v23 H3) (
 doQ (ak ¢ ¥H2 27 ~x4) fun v21 =>
 doW (au ¢ H2 27 ~x4 ~v21) fun v22 H3 =>
 doQ (aE ¢ H3 x4 27) fun v23 =>
 Q v23 H3))
theorem pV(x39 x4 x37 x5 x1 x38:AV)(H:Heap)(Q:AV→Heap→Prop)(h : ∀g,fL g x39 x4 x37 x5 x1 x38 H Q):GoL env Tryz.f115 0 jN [(39,x39),(4,x4),(37,x37),(5,x5),(1,x1),(38,x38)] H Q:=cV fun g=>bn (live:=pw) (cut:=pE) (n:=500) (Eq.mp (by kernel_rfl) (h g))
end Go.Proofs.YtiidajnodhkidaaGreat
