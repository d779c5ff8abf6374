/-
  What is to be shown of each function, computed from its code. No statement of a seat is proved here.
-/
import Derived.Test.YtiidajnodhkidaaGreatMStOk
set_option linter.unusedVariables false
set_option maxRecDepth 1000000
namespace Go.Proofs.YtiidajnodhkidaaGreat
open Go.Ab
local notation:max "©" b:max h:max n:max f:max a:max=>cr env b (limf env) (limt env 0) h (Ref.mk 0 n (Heap.gen h 0 n) 0) (some (AV.fn (Fn.func f) [] [])) a
local notation:max "§" h:max n:max=>Ref.mk 0 n (Heap.gen h 0 n) 0
local notation:max "~" a:max=>some a
local notation:max "¥" h:max=>Heap.get h
local notation:max "¤" n:max=>(Operand.const (Value.int IntKind.i64 n))
local notation:max "£" n:max=>some (AV.v (Value.int IntKind.i64 n))
local notation:max "¿" => some (AV.v (Value.bool false))
local notation:max "°" n:max=>(Operand.tmp n)
local notation:max "¢" => env.P
noncomputable def mw:Code:=(Tryz.f10.body).getD .skip
def rK:Nat→Option (List Nat):=fun i=>none
def rN:Nat→Bool:=fun i=>false
def mz(g:Nat→AV)(H:Heap)(Q:AV→Heap→Prop):Prop :=
 doW (nRes H §H 0 (bW ¢ §H 0 51)) fun v1 H1 =>
 doQ (bN ¢ 36 (some [(0,(a8 1)),(1,(a32 1))])) fun v2 =>
 doQ (bN ¢ 38 (some [(0,v2),(1,(a8 2))])) fun v3 =>
 doQ (bN ¢ 45 (some [(1,v3)])) fun v4 =>
 doQ (bN ¢ 51 (some [(0,(a8 1)),(1,(.v (.int .i64 3))),(2,v4)])) fun v5 =>
 doW (ax ¢ H1 51 ~v1 ~v5) fun v6 H2 =>
 doQ (aF ¢ H2 v1 51) fun v7 =>
 Q v7 H2
theorem rI(H:Heap)(Q:AV→Heap→Prop)(h : ∀g,mz g  H Q):GoL env Tryz.f10 0 [.code mw] [] H Q:=⟨fun g=>bq (live:=rK) (cut:=rN) (n:=500) (Eq.mp (by kernel_rfl) (h g))⟩
noncomputable def j3:Code:=(Tryz.f14.body).getD .skip
def oK:Nat→Option (List Nat):=fun i=>none
def oU:Nat→Bool:=fun i=>false
def j6(g:Nat→AV)(H:Heap)(Q:AV→Heap→Prop):Prop :=
 doW (©true H 8 8 [(.v (.int .i64 (-1)))]) fun v1 H1 =>
 doQ (ar ~v1 0) fun v2 =>
 doQ (ar ~v1 1) fun v3 =>
 doW (nRes H1 §H1 1 (bW ¢ §H1 1 29)) fun v4 H2 =>
 doW (ax ¢ H2 29 ~v4 ~v2) fun v5 H3 =>
 doQ (ak ¢ ¥H3 29 ~v4) fun v6 =>
 doW (©false H3 13 10 []) fun v7 H4 =>
 doW (©false H4 14 9 [v6,v7]) fun v8 H5 =>
 doQ (ar ~v8 0) fun v9 =>
 doQ (ar ~v8 1) fun v10 =>
 doW (ax ¢ H5 29 ~v4 ~v9) fun v11 H6 =>
 doQ (ak ¢ ¥H6 29 ~v4) fun v12 =>
 doW (©false H6 19 10 []) fun v13 H7 =>
 doW (©false H7 20 9 [v12,v13]) fun v14 H8 =>
 doQ (ar ~v14 0) fun v15 =>
 doQ (ar ~v14 1) fun v16 =>
 doW (ax ¢ H8 29 ~v4 ~v15) fun v17 H9 =>
 doQ (ak ¢ ¥H9 29 ~v4) fun v18 =>
 doW (©true H9 25 11 [v18]) fun v19 H10 =>
 doQ (ar ~v19 0) fun v20 =>
 doQ (ar ~v19 1) fun v21 =>
 doW (nRes H10 §H10 5 (bW ¢ §H10 5 29)) fun v22 H11 =>
 doW (ax ¢ H11 29 ~v22 ~v20) fun v23 H12 =>
 doQ (qBin ¢ .eql 30 °28 ¤0 ~v3 £0) fun v24 =>
 gQ v24 true (qVal ~v10) fun v25 =>
 gQ v24 true (qBin ¢ .eql 30 °31 ¤0 ~v25 £0) fun v26 =>
 doQ (bn ~v24 ~v26 ¿) fun v27 =>
 gQ v27 true (qVal ~v16) fun v28 =>
 gQ v27 true (qBin ¢ .eql 30 °35 ¤0 ~v28 £0) fun v29 =>
 doQ (bn ~v27 ~v29 ¿) fun v30 =>
 gQ v30 true (ak ¢ ¥H12 29 ~v4) fun v31 =>
 gW v30 true H12 (©false H12 40 10 []) fun v32 H13 =>
 gW v30 true H13 (©false H13 41 10 []) fun v33 H14 =>
 gW v30 true H14 (gY ¢ true false H14 §H14 42 25 2 (some [(0,v32),(1,v33)])) fun v34 H15 =>
 gW v30 true H15 (©false H15 43 15 [v31,(.v (.int .i64 1)),(.v (.int .i64 2)),v34]) fun v35 H16 =>
 doQ (bn ~v30 ~v35 ¿) fun v36 =>
 gQ v36 true (qVal ~v21) fun v37 =>
 gQ v36 true (qBin ¢ .eql 30 °46 ¤0 ~v37 £0) fun v38 =>
 doQ (bn ~v36 ~v38 ¿) fun v39 =>
 gQ v39 true (ak ¢ ¥H16 29 ~v22) fun v40 =>
 gW v39 true H16 (©false H16 51 10 []) fun v41 H17 =>
 gW v39 true H17 (©false H17 52 10 []) fun v42 H18 =>
 gW v39 true H18 (gY ¢ true false H18 §H18 53 25 2 (some [(0,v41),(1,v42)])) fun v43 H19 =>
 gW v39 true H19 (©false H19 54 15 [v40,(.v (.int .i64 1)),(.v (.int .i64 0)),v43]) fun v44 H20 =>
 doQ (bn ~v39 ~v44 ¿) fun v45 =>
 Q v45 H20
theorem oB(H:Heap)(Q:AV→Heap→Prop)(h : ∀g,j6 g  H Q):GoL env Tryz.f14 0 [.code j3] [] H Q:=⟨fun g=>bq (live:=oK) (cut:=oU) (n:=500) (Eq.mp (by kernel_rfl) (h g))⟩
noncomputable def lO:Code:=(Tryz.f15.body).getD .skip
def qI:Nat→Option (List Nat):=fun i=>none
def qO:Nat→Bool:=fun i=>false
def gG(g:Nat→AV)(x0 x1 x2 x3:AV)(H:Heap)(Q:AV→Heap→Prop):Prop :=
 doW (nRes H §H 4 (qBox ¢ §H 4 29 ~x0)) fun v1 H1 =>
 doQ (ak ¢ ¥H1 29 ~v1) fun v2 =>
 doW (©true H1 10 16 [v2]) fun v3 H2 =>
 doQ (qBin ¢ .eql 30 °10 ¤0 ~v3 £0) fun v4 =>
 gQ v4 true (ab ¢ 29 ~v1 1) fun v5 =>
 gQ v4 true (ak ¢ ¥H2 25 ~v5) fun v6 =>
 gQ v4 true (qVal ~x3) fun v7 =>
 gW v4 true H2 (©true H2 16 21 [v6,v7]) fun v8 H3 =>
 doQ (bn ~v4 ~v8 ¿) fun v9 =>
 gQ v9 true (ak ¢ ¥H3 29 ~v1) fun v10 =>
 gW v9 true H3 (©true H3 20 20 [v10]) fun v11 H4 =>
 gQ v9 true (qVal ~x1) fun v12 =>
 gQ v9 true (qBin ¢ .eql 3 °20 °21 ~v11 ~v12) fun v13 =>
 doQ (bn ~v9 ~v13 ¿) fun v14 =>
 gQ v14 true (ab ¢ 29 ~v1 3) fun v15 =>
 gQ v14 true (ak ¢ ¥H4 3 ~v15) fun v16 =>
 gQ v14 true (qVal ~x2) fun v17 =>
 gQ v14 true (qBin ¢ .eql 3 °26 °27 ~v16 ~v17) fun v18 =>
 doQ (bn ~v14 ~v18 ¿) fun v19 =>
 Q v19 H4
theorem qq(x0 x1 x2 x3:AV)(H:Heap)(Q:AV→Heap→Prop)(h : ∀g,gG g x0 x1 x2 x3 H Q):GoL env Tryz.f15 0 [.code lO] [(0,x0),(1,x1),(2,x2),(3,x3)] H Q:=⟨fun g=>bq (live:=qI) (cut:=qO) (n:=500) (Eq.mp (by kernel_rfl) (h g))⟩
noncomputable def gZ:Code:=(Tryz.f17.body).getD .skip
noncomputable def eX:List Item:=(cm 2 400 [.code gZ]).getD []
def jY:Nat→Option (List Nat):=fun i=>cond (Nat.beq i 2) (some [3,0]) (none)
def j1:Nat→Bool:=fun i=>false
def o7(g:Nat→AV)(x0:AV)(H:Heap)(Q:AV→Heap→Prop):Prop :=
 GoL env Tryz.f17 0 eX [(3,(.v (.int .i64 0))),(0,x0)] H Q
theorem oA(x0:AV)(H:Heap)(Q:AV→Heap→Prop)(h : ∀g,o7 g x0 H Q):GoL env Tryz.f17 0 [.code gZ] [(0,x0)] H Q:=⟨fun g=>bq (live:=jY) (cut:=j1) (n:=500) (Eq.mp (by kernel_rfl) (h g))⟩
def dT(g:Nat→AV)(x3 x0:AV)(H:Heap)(Q:AV→Heap→Prop):Prop :=
 doQ (az ¢ false ¥H §H 6 .len #[59] [x0]) fun v1 =>
 doQ (qBin ¢ .lss 3 °4 °6 ~x3 ~v1) fun v2 =>
 gQ v2 true (qVal ~x3) fun v3 =>
 gQ v2 true (qBin ¢ .lss 3 °9 ¤50 ~v3 £50) fun v4 =>
 doQ (bn ~v2 ~v4 ¿) fun v5 =>
 br ~v5 (
 doQ (au ¢ ¥H 59 ~x0 ~x3) fun v6 =>
 doQ (ab ¢ 63 ~v6 1) fun v7 =>
 doQ (ab ¢ 51 ~v7 2) fun v8 =>
 doQ (ab ¢ 45 ~v8 6) fun v9 =>
 doQ (ak ¢ ¥H 43 ~v9) fun v10 =>
 doQ (az ¢ false ¥H §H 21 .len #[43] [v10]) fun v11 =>
 doQ (qBin ¢ .gtr 3 °21 ¤200 ~v11 £200) fun v12 =>
 br ~v12 (
 Q (.v (.bool true)) H) (
 doQ (qBin ¢ .add 3 °12 ¤1 ~x3 £1) fun v13 =>
  GoL env Tryz.f17 0 eX [(3,v13),(0,x0)] H Q)) (
 doQ (az ¢ false ¥H §H 24 .len #[59] [x0]) fun v6 =>
 doQ (qBin ¢ .gtr 3 °24 ¤24 ~v6 £24) fun v7 =>
 Q v7 H)
theorem jo(x3 x0:AV)(H:Heap)(Q:AV→Heap→Prop)(h : ∀g,dT g x3 x0 H Q):GoL env Tryz.f17 0 eX [(3,x3),(0,x0)] H Q:=c9 fun g=>bq (live:=jY) (cut:=j1) (n:=500) (Eq.mp (by kernel_rfl) (h g))
noncomputable def fK:Code:=(Tryz.f18.body).getD .skip
def pn:Nat→Option (List Nat):=fun i=>none
def pz:Nat→Bool:=fun i=>false
def dw(g:Nat→AV)(x0 x1:AV)(H:Heap)(Q:AV→Heap→Prop):Prop :=
 doW (nRes H §H 2 (qBox ¢ §H 2 29 ~x0)) fun v1 H1 =>
 doW (nRes H1 §H1 3 (qBox ¢ §H1 3 63 ~x1)) fun v2 H2 =>
 doW (nRes H2 §H2 4 (bW ¢ §H2 4 29)) fun v3 H3 =>
 doQ (ab ¢ 63 ~v2 0) fun v4 =>
 doQ (ak ¢ ¥H3 5 ~v4) fun v5 =>
 doQ (qBin ¢ .eql 5 °7 (.const (.int .u8 0)) ~v5 (some (a8 0))) fun v6 =>
 br ~v6 (
 doQ (ak ¢ ¥H3 29 ~v1) fun v7 =>
 doQ (ab ¢ 63 ~v2 1) fun v8 =>
 doQ (ak ¢ ¥H3 51 ~v8) fun v9 =>
 doW (©true H3 13 9 [v7,v9]) fun v10 H4 =>
 doQ (ar ~v10 0) fun v11 =>
 doQ (ar ~v10 1) fun v12 =>
 doW (ax ¢ H4 29 ~v3 ~v11) fun v13 H5 =>
 doQ (aF ¢ H5 v3 29) fun v14 =>
 Q (.tup [v14,v12]) H5) (
 doQ (qBin ¢ .eql 5 °7 (.const (.int .u8 1)) ~v5 (some (a8 1))) fun v7 =>
 br ~v7 (
 doQ (ak ¢ ¥H3 29 ~v1) fun v8 =>
 doW (©true H3 19 11 [v8]) fun v9 H4 =>
 doQ (ar ~v9 0) fun v10 =>
 doQ (ar ~v9 1) fun v11 =>
 doW (ax ¢ H4 29 ~v3 ~v10) fun v12 H5 =>
 doQ (aF ¢ H5 v3 29) fun v13 =>
 Q (.tup [v13,v11]) H5) (
 doQ (ak ¢ ¥H3 29 ~v1) fun v8 =>
 doQ (ab ¢ 63 ~v2 2) fun v9 =>
 doQ (ak ¢ ¥H3 3 ~v9) fun v10 =>
 doW (©true H3 25 12 [v8,v10]) fun v11 H4 =>
 doQ (ar ~v11 0) fun v12 =>
 doQ (ar ~v11 1) fun v13 =>
 doW (ax ¢ H4 29 ~v3 ~v12) fun v14 H5 =>
 doQ (aF ¢ H5 v3 29) fun v15 =>
 Q (.tup [v15,v13]) H5))
theorem ir(x0 x1:AV)(H:Heap)(Q:AV→Heap→Prop)(h : ∀g,dw g x0 x1 H Q):GoL env Tryz.f18 0 [.code fK] [(0,x0),(1,x1)] H Q:=⟨fun g=>bq (live:=pn) (cut:=pz) (n:=500) (Eq.mp (by kernel_rfl) (h g))⟩
end Go.Proofs.YtiidajnodhkidaaGreat
