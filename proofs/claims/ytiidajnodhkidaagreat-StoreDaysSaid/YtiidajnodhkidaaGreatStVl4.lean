/-
  What is to be shown of each function, computed from its code. No statement of a seat is proved here.
-/
import Derived.Test.YtiidajnodhkidaaGreatMStOk
set_option linter.unusedVariables false
set_option maxRecDepth 1000000
namespace Go.Proofs.YtiidajnodhkidaaGreat
open Go.Ab
local notation:max "©" b:max h:max n:max f:max a:max=>cr env b (limf env) (limt env 0) h (Ref.mk 0 n (Heap.gen h 0 n) 0) (some (AV.fn (Fn.func f) [] [])) a
local notation:max "§" h:max n:max=>Ref.mk 0 n (Heap.gen h 0 n) 0
local notation:max "~" a:max=>some a
local notation:max "¥" h:max=>Heap.get h
local notation:max "¤" n:max=>(Operand.const (Value.int IntKind.i64 n))
local notation:max "£" n:max=>some (AV.v (Value.int IntKind.i64 n))
local notation:max "¡" => some (AV.v (Value.bool true))
local notation:max "¿" => some (AV.v (Value.bool false))
local notation:max "°" n:max=>(Operand.tmp n)
local notation:max "¢" => env.P
noncomputable def fL:Code:=(Tryz.f4.body).getD .skip
noncomputable def bF:List Item:=(cm 10 400 [.code fL]).getD []
def iW:Nat→Option (List Nat):=fun i=>cond (Nat.beq i 10) (some [10,1,6,9,8,5]) (none)
def iX:Nat→Bool:=fun i=>false
def eC(g:Nat→AV)(x0 x1:AV)(H:Heap)(Q:AV→Heap→Prop):Prop :=
 doW (©true H 15 14 []) fun v1 H1 =>
 doW (©true H1 17 17 [x1]) fun v2 H2 =>
 gQ v2 false (qVal ~v1) fun v3 =>
 gQ v2 false (qUn ¢ .not ~v3) fun v4 =>
 doQ (bn ~v2 ¡ ~v4) fun v5 =>
 br ~v5 (
 Q v1 H2) (
 doW (©true H2 25 8 [x0]) fun v6 H3 =>
 doQ (ar ~v6 0) fun v7 =>
 doQ (ar ~v6 1) fun v8 =>
 doW (nRes H3 §H3 6 (bW ¢ §H3 6 29)) fun v9 H4 =>
 doW (ax ¢ H4 29 ~v9 ~v7) fun v10 H5 =>
 doQ (qBin ¢ .neq 30 °28 ¤0 ~v8 £0) fun v11 =>
 br ~v11 (
 gQ v1 true (ab ¢ 29 ~v9 1) fun v12 =>
 gQ v1 true (ak ¢ ¥H5 25 ~v12) fun v13 =>
 gQ v1 true (az ¢ false ¥H5 §H5 34 .len #[25] [v13]) fun v14 =>
 gQ v1 true (qBin ¢ .eql 3 °34 ¤0 ~v14 £0) fun v15 =>
 doQ (bn ~v1 ~v15 ¿) fun v16 =>
 Q v16 H5) (
  GoL env Tryz.f4 0 bF [(10,(.v (.int .i64 0))),(1,x1),(6,v9),(9,(.v (.int .i64 1))),(8,(.v (.slice none 0 0))),(5,v1)] H5 Q))
theorem mA(x0 x1:AV)(H:Heap)(Q:AV→Heap→Prop)(h : ∀g,eC g x0 x1 H Q):GoL env Tryz.f4 0 [.code fL] [(0,x0),(1,x1)] H Q:=⟨fun g=>bq (live:=iW) (cut:=iX) (n:=500) (Eq.mp (by kernel_rfl) (h g))⟩
def aL(g:Nat→AV)(x10 x1 x6 x9 x8 x5:AV)(H:Heap)(Q:AV→Heap→Prop):Prop :=
 doQ (az ¢ false ¥H §H 39 .len #[59] [x1]) fun v1 =>
 doQ (qBin ¢ .lss 3 °37 °39 ~x10 ~v1) fun v2 =>
 br ~v2 (
 doQ (ak ¢ ¥H 29 ~x6) fun v3 =>
 doQ (au ¢ ¥H 59 ~x1 ~x10) fun v4 =>
 doQ (ak ¢ ¥H 63 ~v4) fun v5 =>
 doW (©false H 49 18 [v3,v5]) fun v6 H1 =>
 doQ (ar ~v6 0) fun v7 =>
 doQ (ar ~v6 1) fun v8 =>
 doW (nRes H1 §H1 11 (bW ¢ §H1 11 29)) fun v9 H2 =>
 doW (ax ¢ H2 29 ~v9 ~v7) fun v10 H3 =>
 doQ (qBin ¢ .neq 30 °52 ¤0 ~v8 £0) fun v11 =>
 br ~v11 (
 doQ (ab ¢ 29 ~v9 1) fun v12 =>
 doQ (ak ¢ ¥H3 25 ~v12) fun v13 =>
 doQ (az ¢ false ¥H3 §H3 56 .len #[25] [v13]) fun v14 =>
 doQ (qBin ¢ .gtr 3 °56 ¤0 ~v14 £0) fun v15 =>
 gQ v15 false (qVal ~x1) fun v16 =>
 gQ v15 false (qVal ~x10) fun v17 =>
 gQ v15 false (au ¢ ¥H3 59 ~v16 ~v17) fun v18 =>
 gQ v15 false (ab ¢ 63 ~v18 0) fun v19 =>
 gQ v15 false (ak ¢ ¥H3 5 ~v19) fun v20 =>
 gQ v15 false (qBin ¢ .eql 5 °63 (.const (.int .u8 0)) ~v20 (some (a8 0))) fun v21 =>
 gQ v15 false (qVal ~v21) fun v22 =>
 gQ v22 true (qVal ~x1) fun v23 =>
 gQ v22 true (qVal ~x10) fun v24 =>
 gQ v22 true (au ¢ ¥H3 59 ~v23 ~v24) fun v25 =>
 gQ v22 true (ab ¢ 63 ~v25 1) fun v26 =>
 gQ v22 true (ak ¢ ¥H3 51 ~v26) fun v27 =>
 gW v22 true H3 (©true H3 71 19 [v27]) fun v28 H4 =>
 gQ v22 true (qBin ¢ .eql 30 °71 ¤0 ~v28 £0) fun v29 =>
 gQ v15 false (bn ~v22 ~v29 ¿) fun v30 =>
 doQ (bn ~v15 ¡ ~v30) fun v31 =>
 br ~v31 (
 Q (.v (.bool false)) H4) (
 doQ (qBin ¢ .add 3 °41 ¤1 ~x10 £1) fun v32 =>
  GoL env Tryz.f4 0 bF [(10,v32),(1,x1),(6,x6),(9,x9),(8,x8),(5,x5)] H4 Q)) (
 doQ (au ¢ ¥H3 59 ~x1 ~x10) fun v12 =>
 doQ (ab ¢ 63 ~v12 0) fun v13 =>
 doQ (ak ¢ ¥H3 5 ~v13) fun v14 =>
 doQ (qBin ¢ .eql 5 °79 (.const (.int .u8 0)) ~v14 (some (a8 0))) fun v15 =>
 gQ v15 true (ab ¢ 29 ~v9 0) fun v16 =>
 gQ v15 true (ab ¢ 24 ~v16 3) fun v17 =>
 gQ v15 true (ak ¢ ¥H3 4 ~v17) fun v18 =>
 gQ v15 true (qUn ¢ .not ~v18) fun v19 =>
 doQ (bn ~v15 ~v19 ¿) fun v20 =>
 br ~v20 (
 doQ (au ¢ ¥H3 59 ~x1 ~x10) fun v21 =>
 doQ (ab ¢ 63 ~v21 1) fun v22 =>
 doQ (ak ¢ ¥H3 51 ~v22) fun v23 =>
 doW (gY ¢ false true H3 §H3 93 25 1 (some [(0,v23)])) fun v24 H4 =>
 doW (cz ¢ true H4 §H4 94 (some 25) (some 25) x8 v24) fun v25 H5 =>
 doQ (au ¢ ¥H5 59 ~x1 ~x10) fun v26 =>
 doQ (ab ¢ 63 ~v26 0) fun v27 =>
 doQ (ak ¢ ¥H5 5 ~v27) fun v28 =>
 doQ (qBin ¢ .gtr 5 °99 (.const (.int .u8 1)) ~v28 (some (a8 1))) fun v29 =>
 br ~v29 (
 doQ (qBin ¢ .add 3 °101 ¤1 ~x9 £1) fun v30 =>
 doQ (ak ¢ ¥H5 29 ~v9) fun v31 =>
 doW (©true H5 104 16 [v31]) fun v32 H6 =>
 doQ (qBin ¢ .neq 30 °104 ¤0 ~v32 £0) fun v33 =>
 gQ v33 false (ak ¢ ¥H6 29 ~v9) fun v34 =>
 gW v33 false H6 (©true H6 108 20 [v34]) fun v35 H7 =>
 gQ v33 false (qVal ~v30) fun v36 =>
 gQ v33 false (qBin ¢ .neq 3 °108 °109 ~v35 ~v36) fun v37 =>
 doQ (bn ~v33 ¡ ~v37) fun v38 =>
 gQ v38 false (ab ¢ 29 ~v9 1) fun v39 =>
 gQ v38 false (ak ¢ ¥H7 25 ~v39) fun v40 =>
 gQ v38 false (qVal ~v25) fun v41 =>
 gW v38 false H7 (©true H7 116 21 [v40,v41]) fun v42 H8 =>
 gQ v38 false (qUn ¢ .not ~v42) fun v43 =>
 doQ (bn ~v38 ¡ ~v43) fun v44 =>
 gQ v44 false (qVal ~x1) fun v45 =>
 gQ v44 false (qVal ~x10) fun v46 =>
 gQ v44 false (au ¢ ¥H8 59 ~v45 ~v46) fun v47 =>
 gQ v44 false (ab ¢ 63 ~v47 0) fun v48 =>
 gQ v44 false (ak ¢ ¥H8 5 ~v48) fun v49 =>
 gQ v44 false (qBin ¢ .gtr 5 °124 (.const (.int .u8 1)) ~v49 (some (a8 1))) fun v50 =>
 gQ v44 false (qVal ~v50) fun v51 =>
 gQ v51 true (ab ¢ 29 ~v9 0) fun v52 =>
 gQ v51 true (ab ¢ 24 ~v52 3) fun v53 =>
 gQ v51 true (ak ¢ ¥H8 4 ~v53) fun v54 =>
 gQ v44 false (bn ~v51 ~v54 ¿) fun v55 =>
 doQ (bn ~v44 ¡ ~v55) fun v56 =>
 br ~v56 (
 Q (.v (.bool false)) H8) (
 doQ (ak ¢ ¥H8 29 ~v9) fun v57 =>
 doW (ax ¢ H8 29 ~x6 ~v57) fun v58 H9 =>
 doQ (qBin ¢ .add 3 °41 ¤1 ~x10 £1) fun v59 =>
  GoL env Tryz.f4 0 bF [(10,v59),(1,x1),(6,x6),(9,v30),(8,v25),(5,x5)] H9 Q)) (
 doQ (ak ¢ ¥H5 29 ~v9) fun v30 =>
 doW (©true H5 104 16 [v30]) fun v31 H6 =>
 doQ (qBin ¢ .neq 30 °104 ¤0 ~v31 £0) fun v32 =>
 gQ v32 false (ak ¢ ¥H6 29 ~v9) fun v33 =>
 gW v32 false H6 (©true H6 108 20 [v33]) fun v34 H7 =>
 gQ v32 false (qVal ~x9) fun v35 =>
 gQ v32 false (qBin ¢ .neq 3 °108 °109 ~v34 ~v35) fun v36 =>
 doQ (bn ~v32 ¡ ~v36) fun v37 =>
 gQ v37 false (ab ¢ 29 ~v9 1) fun v38 =>
 gQ v37 false (ak ¢ ¥H7 25 ~v38) fun v39 =>
 gQ v37 false (qVal ~v25) fun v40 =>
 gW v37 false H7 (©true H7 116 21 [v39,v40]) fun v41 H8 =>
 gQ v37 false (qUn ¢ .not ~v41) fun v42 =>
 doQ (bn ~v37 ¡ ~v42) fun v43 =>
 gQ v43 false (qVal ~x1) fun v44 =>
 gQ v43 false (qVal ~x10) fun v45 =>
 gQ v43 false (au ¢ ¥H8 59 ~v44 ~v45) fun v46 =>
 gQ v43 false (ab ¢ 63 ~v46 0) fun v47 =>
 gQ v43 false (ak ¢ ¥H8 5 ~v47) fun v48 =>
 gQ v43 false (qBin ¢ .gtr 5 °124 (.const (.int .u8 1)) ~v48 (some (a8 1))) fun v49 =>
 gQ v43 false (qVal ~v49) fun v50 =>
 gQ v50 true (ab ¢ 29 ~v9 0) fun v51 =>
 gQ v50 true (ab ¢ 24 ~v51 3) fun v52 =>
 gQ v50 true (ak ¢ ¥H8 4 ~v52) fun v53 =>
 gQ v43 false (bn ~v50 ~v53 ¿) fun v54 =>
 doQ (bn ~v43 ¡ ~v54) fun v55 =>
 br ~v55 (
 Q (.v (.bool false)) H8) (
 doQ (ak ¢ ¥H8 29 ~v9) fun v56 =>
 doW (ax ¢ H8 29 ~x6 ~v56) fun v57 H9 =>
 doQ (qBin ¢ .add 3 °41 ¤1 ~x10 £1) fun v58 =>
  GoL env Tryz.f4 0 bF [(10,v58),(1,x1),(6,x6),(9,x9),(8,v25),(5,x5)] H9 Q))) (
 doQ (au ¢ ¥H3 59 ~x1 ~x10) fun v21 =>
 doQ (ab ¢ 63 ~v21 0) fun v22 =>
 doQ (ak ¢ ¥H3 5 ~v22) fun v23 =>
 doQ (qBin ¢ .gtr 5 °99 (.const (.int .u8 1)) ~v23 (some (a8 1))) fun v24 =>
 br ~v24 (
 doQ (qBin ¢ .add 3 °101 ¤1 ~x9 £1) fun v25 =>
 doQ (ak ¢ ¥H3 29 ~v9) fun v26 =>
 doW (©true H3 104 16 [v26]) fun v27 H4 =>
 doQ (qBin ¢ .neq 30 °104 ¤0 ~v27 £0) fun v28 =>
 gQ v28 false (ak ¢ ¥H4 29 ~v9) fun v29 =>
 gW v28 false H4 (©true H4 108 20 [v29]) fun v30 H5 =>
 gQ v28 false (qVal ~v25) fun v31 =>
 gQ v28 false (qBin ¢ .neq 3 °108 °109 ~v30 ~v31) fun v32 =>
 doQ (bn ~v28 ¡ ~v32) fun v33 =>
 gQ v33 false (ab ¢ 29 ~v9 1) fun v34 =>
 gQ v33 false (ak ¢ ¥H5 25 ~v34) fun v35 =>
 gQ v33 false (qVal ~x8) fun v36 =>
 gW v33 false H5 (©true H5 116 21 [v35,v36]) fun v37 H6 =>
 gQ v33 false (qUn ¢ .not ~v37) fun v38 =>
 doQ (bn ~v33 ¡ ~v38) fun v39 =>
 gQ v39 false (qVal ~x1) fun v40 =>
 gQ v39 false (qVal ~x10) fun v41 =>
 gQ v39 false (au ¢ ¥H6 59 ~v40 ~v41) fun v42 =>
 gQ v39 false (ab ¢ 63 ~v42 0) fun v43 =>
 gQ v39 false (ak ¢ ¥H6 5 ~v43) fun v44 =>
 gQ v39 false (qBin ¢ .gtr 5 °124 (.const (.int .u8 1)) ~v44 (some (a8 1))) fun v45 =>
 gQ v39 false (qVal ~v45) fun v46 =>
 gQ v46 true (ab ¢ 29 ~v9 0) fun v47 =>
 gQ v46 true (ab ¢ 24 ~v47 3) fun v48 =>
 gQ v46 true (ak ¢ ¥H6 4 ~v48) fun v49 =>
 gQ v39 false (bn ~v46 ~v49 ¿) fun v50 =>
 doQ (bn ~v39 ¡ ~v50) fun v51 =>
 br ~v51 (
 Q (.v (.bool false)) H6) (
 doQ (ak ¢ ¥H6 29 ~v9) fun v52 =>
 doW (ax ¢ H6 29 ~x6 ~v52) fun v53 H7 =>
 doQ (qBin ¢ .add 3 °41 ¤1 ~x10 £1) fun v54 =>
  GoL env Tryz.f4 0 bF [(10,v54),(1,x1),(6,x6),(9,v25),(8,x8),(5,x5)] H7 Q)) (
 doQ (ak ¢ ¥H3 29 ~v9) fun v25 =>
 doW (©true H3 104 16 [v25]) fun v26 H4 =>
 doQ (qBin ¢ .neq 30 °104 ¤0 ~v26 £0) fun v27 =>
 gQ v27 false (ak ¢ ¥H4 29 ~v9) fun v28 =>
 gW v27 false H4 (©true H4 108 20 [v28]) fun v29 H5 =>
 gQ v27 false (qVal ~x9) fun v30 =>
 gQ v27 false (qBin ¢ .neq 3 °108 °109 ~v29 ~v30) fun v31 =>
 doQ (bn ~v27 ¡ ~v31) fun v32 =>
 gQ v32 false (ab ¢ 29 ~v9 1) fun v33 =>
 gQ v32 false (ak ¢ ¥H5 25 ~v33) fun v34 =>
 gQ v32 false (qVal ~x8) fun v35 =>
 gW v32 false H5 (©true H5 116 21 [v34,v35]) fun v36 H6 =>
 gQ v32 false (qUn ¢ .not ~v36) fun v37 =>
 doQ (bn ~v32 ¡ ~v37) fun v38 =>
 gQ v38 false (qVal ~x1) fun v39 =>
 gQ v38 false (qVal ~x10) fun v40 =>
 gQ v38 false (au ¢ ¥H6 59 ~v39 ~v40) fun v41 =>
 gQ v38 false (ab ¢ 63 ~v41 0) fun v42 =>
 gQ v38 false (ak ¢ ¥H6 5 ~v42) fun v43 =>
 gQ v38 false (qBin ¢ .gtr 5 °124 (.const (.int .u8 1)) ~v43 (some (a8 1))) fun v44 =>
 gQ v38 false (qVal ~v44) fun v45 =>
 gQ v45 true (ab ¢ 29 ~v9 0) fun v46 =>
 gQ v45 true (ab ¢ 24 ~v46 3) fun v47 =>
 gQ v45 true (ak ¢ ¥H6 4 ~v47) fun v48 =>
 gQ v38 false (bn ~v45 ~v48 ¿) fun v49 =>
 doQ (bn ~v38 ¡ ~v49) fun v50 =>
 br ~v50 (
 Q (.v (.bool false)) H6) (
 doQ (ak ¢ ¥H6 29 ~v9) fun v51 =>
 doW (ax ¢ H6 29 ~x6 ~v51) fun v52 H7 =>
 doQ (qBin ¢ .add 3 °41 ¤1 ~x10 £1) fun v53 =>
  GoL env Tryz.f4 0 bF [(10,v53),(1,x1),(6,x6),(9,x9),(8,x8),(5,x5)] H7 Q))))) (
 doQ (ab ¢ 29 ~x6 0) fun v3 =>
 doQ (ak ¢ ¥H 24 ~v3) fun v4 =>
 doW (©true H 136 13 [v4]) fun v5 H1 =>
 doQ (ar ~v5 0) fun v6 =>
 doQ (ar ~v5 1) fun v7 =>
 doW (nRes H1 §H1 13 (bW ¢ §H1 13 29)) fun v8 H2 =>
 doW (ax ¢ H2 29 ~v8 ~v6) fun v9 H3 =>
 gQ x5 true (qVal ~v7) fun v10 =>
 gQ x5 true (qBin ¢ .eql 30 °141 ¤0 ~v10 £0) fun v11 =>
 doQ (bn ~x5 ~v11 ¿) fun v12 =>
 gQ v12 true (ak ¢ ¥H3 29 ~v8) fun v13 =>
 gQ v12 true (ak ¢ ¥H3 29 ~x6) fun v14 =>
 gW v12 true H3 (©true H3 147 22 [v13,v14]) fun v15 H4 =>
 doQ (bn ~v12 ~v15 ¿) fun v16 =>
 Q v16 H4)
theorem gT(x10 x1 x6 x9 x8 x5:AV)(H:Heap)(Q:AV→Heap→Prop)(h : ∀g,aL g x10 x1 x6 x9 x8 x5 H Q):GoL env Tryz.f4 0 bF [(10,x10),(1,x1),(6,x6),(9,x9),(8,x8),(5,x5)] H Q:=c9 fun g=>bq (live:=iW) (cut:=iX) (n:=500) (Eq.mp (by kernel_rfl) (h g))
end Go.Proofs.YtiidajnodhkidaaGreat
