/-
  What is to be shown of each function, computed from its code. No statement of a seat is proved here.
-/
import Derived.Test.YtiidajnodhkidaaGreatStTy
set_option linter.unusedVariables false
set_option maxRecDepth 1000000
namespace Go.Proofs.YtiidajnodhkidaaGreat
open Go.Ab
local notation:max "©" b:max h:max n:max f:max a:max=>cl env b (limf env) (limt env 0) h (Ref.mk 0 n (Heap.gen h 0 n) 0) (some (AV.fn (Fn.func f) [] [])) a
local notation:max "§" h:max n:max=>Ref.mk 0 n (Heap.gen h 0 n) 0
local notation:max "~" a:max=>some a
local notation:max "¥" h:max=>Heap.get h
local notation:max "¤" n:max=>(Operand.const (Value.int IntKind.i64 n))
local notation:max "£" n:max=>some (AV.v (Value.int IntKind.i64 n))
local notation:max "¡" => some (AV.v (Value.bool true))
local notation:max "¿" => some (AV.v (Value.bool false))
local notation:max "°" n:max=>(Operand.tmp n)
local notation:max "¢" => env.P
noncomputable def si:Code:=(Tryz.f55.body).getD .skip
def ze:Nat→Option (List Nat):=fun i=>none
def zw:Nat→Bool:=fun i=>false
def iW(g:Nat→AV)(x0 x1:AV)(H:Heap)(Q:AV→Heap→Prop):Prop :=
 doW (nRes H §H 2 (qBox ¢ §H 2 51 ~x0)) fun v1 H1 =>
 doW (nRes H1 §H1 3 (qBox ¢ §H1 3 51 ~x1)) fun v2 H2 =>
 doQ (ab ¢ 51 ~v1 0) fun v3 =>
 doQ (ak ¢ ¥H2 5 ~v3) fun v4 =>
 doQ (ab ¢ 51 ~v2 0) fun v5 =>
 doQ (ak ¢ ¥H2 5 ~v5) fun v6 =>
 doQ (qBin ¢ .eql 5 °6 °8 ~v4 ~v6) fun v7 =>
 gQ v7 true (ab ¢ 51 ~v1 1) fun v8 =>
 gQ v7 true (ak ¢ ¥H2 3 ~v8) fun v9 =>
 gQ v7 true (ab ¢ 51 ~v2 1) fun v10 =>
 gQ v7 true (ak ¢ ¥H2 3 ~v10) fun v11 =>
 gQ v7 true (qBin ¢ .eql 3 °12 °14 ~v9 ~v11) fun v12 =>
 doQ (bB ~v7 ~v12 ¿) fun v13 =>
 gQ v13 true (ab ¢ 51 ~v1 2) fun v14 =>
 gQ v13 true (ak ¢ ¥H2 45 ~v14) fun v15 =>
 gQ v13 true (ab ¢ 51 ~v2 2) fun v16 =>
 gQ v13 true (ak ¢ ¥H2 45 ~v16) fun v17 =>
 gW v13 true H2 (©true H2 22 89 [v15,v17]) fun v18 H3 =>
 doQ (bB ~v13 ~v18 ¿) fun v19 =>
 gQ v19 true (ab ¢ 51 ~v1 3) fun v20 =>
 gQ v19 true (ak ¢ ¥H3 30 ~v20) fun v21 =>
 gQ v19 true (ab ¢ 51 ~v2 3) fun v22 =>
 gQ v19 true (ak ¢ ¥H3 30 ~v22) fun v23 =>
 gQ v19 true (qBin ¢ .eql 30 °26 °28 ~v21 ~v23) fun v24 =>
 doQ (bB ~v19 ~v24 ¿) fun v25 =>
 gQ v25 true (ab ¢ 51 ~v1 4) fun v26 =>
 gQ v25 true (ak ¢ ¥H3 49 ~v26) fun v27 =>
 gQ v25 true (ab ¢ 51 ~v2 4) fun v28 =>
 gQ v25 true (ak ¢ ¥H3 49 ~v28) fun v29 =>
 gQ v25 true (qBin ¢ .eql 49 °33 °35 ~v27 ~v29) fun v30 =>
 doQ (bB ~v25 ~v30 ¿) fun v31 =>
 Q v31 H3
theorem yO(x0 x1:AV)(H:Heap)(Q:AV→Heap→Prop)(h : ∀g,iW g x0 x1 H Q):GoL env Tryz.f55 0 [.code si] [(0,x0),(1,x1)] H Q:=⟨fun g=>bn (live:=ze) (cut:=zw) (n:=500) (Eq.mp (by kernel_rfl) (h g))⟩
noncomputable def ra:Code:=(Tryz.f105.body).getD .skip
def xL:Nat→Option (List Nat):=fun i=>none
def ye:Nat→Bool:=fun i=>false
def nH(g:Nat→AV)(x0:AV)(H:Heap)(Q:AV→Heap→Prop):Prop :=
 doW (nRes H §H 1 (qBox ¢ §H 1 51 ~x0)) fun v1 H1 =>
 doQ (ak ¢ ¥H1 51 ~v1) fun v2 =>
 doQ (bQ ¢ 107 (some [(0,v2)])) fun v3 =>
 doW (©true H1 9 51 [v3]) fun v4 H2 =>
 doQ (ao ~v4 0) fun v5 =>
 doQ (ao ~v4 1) fun v6 =>
 doQ (qUn ¢ .not ~v6) fun v7 =>
 br ~v7 (
 Q (.tup [(.v (.int .i64 0)),(.v (.int .i64 8))]) H2) (
 doQ (aw ¢ false ¥H2 §H2 15 .len #[76] [v5]) fun v8 =>
 doQ (qBin ¢ .add 3 °15 ¤119 ~v8 £119) fun v9 =>
 doQ (qBin ¢ .sub 3 °16 ¤1 ~v9 £1) fun v10 =>
 doQ (qBin ¢ .quo 3 °17 ¤119 ~v10 £119) fun v11 =>
 Q (.tup [v11,(.v (.int .i64 0))]) H2)
theorem xd(x0:AV)(H:Heap)(Q:AV→Heap→Prop)(h : ∀g,nH g x0 H Q):GoL env Tryz.f105 0 [.code ra] [(0,x0)] H Q:=⟨fun g=>bn (live:=xL) (cut:=ye) (n:=500) (Eq.mp (by kernel_rfl) (h g))⟩
noncomputable def gI:Code:=(Tryz.f51.body).getD .skip
def kA:Nat→Option (List Nat):=fun i=>none
def kM:Nat→Bool:=fun i=>false
def cw(g:Nat→AV)(x0:AV)(H:Heap)(Q:AV→Heap→Prop):Prop :=
 doW (nRes H §H 1 (qBox ¢ §H 1 107 ~x0)) fun v1 H1 =>
 doQ (ab ¢ 107 ~v1 0) fun v2 =>
 doQ (ab ¢ 51 ~v2 0) fun v3 =>
 doQ (ak ¢ ¥H1 5 ~v3) fun v4 =>
 doQ (bQ ¢ 51 (some [(0,v4)])) fun v5 =>
 doW (nRes H1 §H1 4 (bZ ¢ §H1 4 51)) fun v6 H2 =>
 doW (au ¢ H2 51 ~v6 ~v5) fun v7 H3 =>
 doQ (ab ¢ 107 ~v1 0) fun v8 =>
 doQ (ab ¢ 51 ~v8 0) fun v9 =>
 doQ (ak ¢ ¥H3 5 ~v9) fun v10 =>
 doQ (qBin ¢ .eql 5 °12 (.const (.int .u8 1)) ~v10 (some (a8 1))) fun v11 =>
 br ~v11 (
 doQ (ab ¢ 107 ~v1 0) fun v12 =>
 doQ (ab ¢ 51 ~v12 2) fun v13 =>
 doQ (ab ¢ 45 ~v13 1) fun v14 =>
 doQ (ak ¢ ¥H3 38 ~v14) fun v15 =>
 doQ (ab ¢ 107 ~v1 0) fun v16 =>
 doQ (ab ¢ 51 ~v16 1) fun v17 =>
 doQ (ak ¢ ¥H3 3 ~v17) fun v18 =>
 doQ (ab ¢ 51 ~v6 2) fun v19 =>
 doQ (ab ¢ 45 ~v19 1) fun v20 =>
 doW (au ¢ H3 38 ~v20 ~v15) fun v21 H4 =>
 doQ (ab ¢ 51 ~v6 1) fun v22 =>
 doW (au ¢ H4 3 ~v22 ~v18) fun v23 H5 =>
  od [(v17,v20)] [v20,v22] [] H5 ∧
 (doQ (ab ¢ 107 ~v1 0) fun v24 =>
 doQ (ab ¢ 51 ~v24 2) fun v25 =>
 doQ (ab ¢ 45 ~v25 1) fun v26 =>
 doQ (ak ¢ ¥H5 38 ~v26) fun v27 =>
 doW (©true H5 30 81 [v27]) fun v28 H6 =>
 doQ (ao ~v28 0) fun v29 =>
 doQ (ao ~v28 1) fun v30 =>
 doQ (ab ¢ 107 ~v1 0) fun v31 =>
 doQ (ab ¢ 51 ~v31 1) fun v32 =>
 doQ (ak ¢ ¥H6 3 ~v32) fun v33 =>
 doQ (qBin ¢ .geq 3 °35 ¤0 ~v33 £0) fun v34 =>
 gQ v34 true (ab ¢ 107 ~v1 0) fun v35 =>
 gQ v34 true (ab ¢ 51 ~v35 1) fun v36 =>
 gQ v34 true (ak ¢ ¥H6 3 ~v36) fun v37 =>
 gQ v34 true (qBin ¢ .leq 3 °40 ¤255 ~v37 £255) fun v38 =>
 doQ (bB ~v34 ~v38 ¿) fun v39 =>
 doQ (ab ¢ 107 ~v1 0) fun v40 =>
 doQ (ab ¢ 51 ~v40 1) fun v41 =>
 doQ (ak ¢ ¥H6 3 ~v41) fun v42 =>
 doQ (aW ¢ ¥H6 §H6 47 3 5 ~v42) fun v43 =>
 doW (ik ¢ false true H6 §H6 48 76 1 (some [(0,v43)])) fun v44 H7 =>
 doW (cE ¢ true H7 §H7 49 (some 76) (some 76) v29 v44) fun v45 H8 =>
 doQ (ab ¢ 107 ~v1 0) fun v46 =>
 doQ (ab ¢ 51 ~v46 0) fun v47 =>
 doQ (ak ¢ ¥H8 5 ~v47) fun v48 =>
 doW (ik ¢ false true H8 §H8 111 76 1 (some [(0,v48)])) fun v49 H9 =>
 doW (cE ¢ true H9 §H9 113 (some 76) (some 76) v49 v45) fun v50 H10 =>
 gQ v39 true (qVal ~v30) fun v51 =>
 gQ v39 true (qBin ¢ .eql 30 °116 ¤0 ~v51 £0) fun v52 =>
 doQ (bB ~v39 ~v52 ¿) fun v53 =>
 gQ v53 true (ab ¢ 107 ~v1 0) fun v54 =>
 gQ v53 true (ak ¢ ¥H10 51 ~v54) fun v55 =>
 gQ v53 true (ak ¢ ¥H10 51 ~v6) fun v56 =>
 gW v53 true H10 (©true H10 123 55 [v55,v56]) fun v57 H11 =>
 doQ (bB ~v53 ~v57 ¿) fun v58 =>
 Q (.tup [v50,v58]) H11)) (
 doQ (qBin ¢ .eql 5 °12 (.const (.int .u8 2)) ~v10 (some (a8 2))) fun v12 =>
 br ~v12 (
 doQ (ab ¢ 107 ~v1 0) fun v13 =>
 doQ (ab ¢ 51 ~v13 2) fun v14 =>
 doQ (ak ¢ ¥H3 45 ~v14) fun v15 =>
 doQ (ab ¢ 107 ~v1 0) fun v16 =>
 doQ (ab ¢ 51 ~v16 3) fun v17 =>
 doQ (ak ¢ ¥H3 30 ~v17) fun v18 =>
 doQ (ab ¢ 51 ~v6 2) fun v19 =>
 doW (au ¢ H3 45 ~v19 ~v15) fun v20 H4 =>
 doQ (ab ¢ 51 ~v6 3) fun v21 =>
 doW (au ¢ H4 30 ~v21 ~v18) fun v22 H5 =>
  od [(v17,v19)] [v19,v21] [] H5 ∧
 (doQ (ab ¢ 107 ~v1 0) fun v23 =>
 doQ (ab ¢ 51 ~v23 2) fun v24 =>
 doQ (ak ¢ ¥H5 45 ~v24) fun v25 =>
 doW (©true H5 64 82 [v25]) fun v26 H6 =>
 doQ (ao ~v26 0) fun v27 =>
 doQ (ao ~v26 1) fun v28 =>
 doQ (ab ¢ 107 ~v1 0) fun v29 =>
 doQ (ab ¢ 51 ~v29 2) fun v30 =>
 doQ (ak ¢ ¥H6 45 ~v30) fun v31 =>
 doW (©true H6 70 83 [v31]) fun v32 H7 =>
 gQ v32 true (ab ¢ 107 ~v1 0) fun v33 =>
 gQ v32 true (ab ¢ 51 ~v33 3) fun v34 =>
 gQ v32 true (ak ¢ ¥H7 30 ~v34) fun v35 =>
 gQ v32 true (qBin ¢ .geq 30 °74 ¤0 ~v35 £0) fun v36 =>
 doQ (bB ~v32 ~v36 ¿) fun v37 =>
 gQ v37 true (ab ¢ 107 ~v1 0) fun v38 =>
 gQ v37 true (ab ¢ 51 ~v38 3) fun v39 =>
 gQ v37 true (ak ¢ ¥H7 30 ~v39) fun v40 =>
 gQ v37 true (qBin ¢ .lss 30 °80 ¤65536 ~v40 £65536) fun v41 =>
 doQ (bB ~v37 ~v41 ¿) fun v42 =>
 doQ (ab ¢ 107 ~v1 0) fun v43 =>
 doQ (ab ¢ 51 ~v43 3) fun v44 =>
 doQ (ak ¢ ¥H7 30 ~v44) fun v45 =>
 doQ (qBin ¢ .shr 30 °85 (.const (.int .u64 8)) ~v45 (some (.v (.int .u64 8)))) fun v46 =>
 doQ (aW ¢ ¥H7 §H7 87 30 5 ~v46) fun v47 =>
 doQ (ab ¢ 107 ~v1 0) fun v48 =>
 doQ (ab ¢ 51 ~v48 3) fun v49 =>
 doQ (ak ¢ ¥H7 30 ~v49) fun v50 =>
 doQ (aW ¢ ¥H7 §H7 91 30 5 ~v50) fun v51 =>
 doW (ik ¢ false true H7 §H7 92 76 2 (some [(0,v47),(1,v51)])) fun v52 H8 =>
 doW (cE ¢ true H8 §H8 94 (some 76) (some 76) v52 v27) fun v53 H9 =>
 doQ (ab ¢ 107 ~v1 0) fun v54 =>
 doQ (ab ¢ 51 ~v54 0) fun v55 =>
 doQ (ak ¢ ¥H9 5 ~v55) fun v56 =>
 doW (ik ¢ false true H9 §H9 111 76 1 (some [(0,v56)])) fun v57 H10 =>
 doW (cE ¢ true H10 §H10 113 (some 76) (some 76) v57 v53) fun v58 H11 =>
 gQ v42 true (qVal ~v28) fun v59 =>
 gQ v42 true (qBin ¢ .eql 30 °116 ¤0 ~v59 £0) fun v60 =>
 doQ (bB ~v42 ~v60 ¿) fun v61 =>
 gQ v61 true (ab ¢ 107 ~v1 0) fun v62 =>
 gQ v61 true (ak ¢ ¥H11 51 ~v62) fun v63 =>
 gQ v61 true (ak ¢ ¥H11 51 ~v6) fun v64 =>
 gW v61 true H11 (©true H11 123 55 [v63,v64]) fun v65 H12 =>
 doQ (bB ~v61 ~v65 ¿) fun v66 =>
 Q (.tup [v58,v66]) H12)) (
 doQ (qBin ¢ .eql 5 °12 (.const (.int .u8 3)) ~v10 (some (a8 3))) fun v13 =>
 br ~v13 (
 doQ (ab ¢ 107 ~v1 0) fun v14 =>
 doQ (ab ¢ 51 ~v14 4) fun v15 =>
 doQ (ak ¢ ¥H3 49 ~v15) fun v16 =>
 doQ (ab ¢ 51 ~v6 4) fun v17 =>
 doW (au ¢ H3 49 ~v17 ~v16) fun v18 H4 =>
 doQ (ab ¢ 107 ~v1 0) fun v19 =>
 doQ (ab ¢ 51 ~v19 4) fun v20 =>
 doQ (ak ¢ ¥H4 49 ~v20) fun v21 =>
 doW (©true H4 105 84 [v21]) fun v22 H5 =>
 doQ (ao ~v22 0) fun v23 =>
 doQ (ao ~v22 1) fun v24 =>
 doQ (ab ¢ 107 ~v1 0) fun v25 =>
 doQ (ab ¢ 51 ~v25 0) fun v26 =>
 doQ (ak ¢ ¥H5 5 ~v26) fun v27 =>
 doW (ik ¢ false true H5 §H5 111 76 1 (some [(0,v27)])) fun v28 H6 =>
 doW (cE ¢ true H6 §H6 113 (some 76) (some 76) v28 v23) fun v29 H7 =>
 gQ (.v (.bool true)) true (qVal ~v24) fun v30 =>
 gQ (.v (.bool true)) true (qBin ¢ .eql 30 °116 ¤0 ~v30 £0) fun v31 =>
 doQ (bB ¡ ~v31 ¿) fun v32 =>
 gQ v32 true (ab ¢ 107 ~v1 0) fun v33 =>
 gQ v32 true (ak ¢ ¥H7 51 ~v33) fun v34 =>
 gQ v32 true (ak ¢ ¥H7 51 ~v6) fun v35 =>
 gW v32 true H7 (©true H7 123 55 [v34,v35]) fun v36 H8 =>
 doQ (bB ~v32 ~v36 ¿) fun v37 =>
 Q (.tup [v29,v37]) H8) (
 doQ (ab ¢ 107 ~v1 0) fun v14 =>
 doQ (ab ¢ 51 ~v14 0) fun v15 =>
 doQ (ak ¢ ¥H3 5 ~v15) fun v16 =>
 doW (ik ¢ false true H3 §H3 111 76 1 (some [(0,v16)])) fun v17 H4 =>
 doW (cE ¢ true H4 §H4 113 (some 76) (some 76) v17 (.v (.slice none 0 0))) fun v18 H5 =>
 gQ (.v (.bool false)) true (qVal £0) fun v19 =>
 gQ (.v (.bool false)) true (qBin ¢ .eql 30 °116 ¤0 ~v19 £0) fun v20 =>
 doQ (bB ¿ ~v20 ¿) fun v21 =>
 gQ v21 true (ab ¢ 107 ~v1 0) fun v22 =>
 gQ v21 true (ak ¢ ¥H5 51 ~v22) fun v23 =>
 gQ v21 true (ak ¢ ¥H5 51 ~v6) fun v24 =>
 gW v21 true H5 (©true H5 123 55 [v23,v24]) fun v25 H6 =>
 doQ (bB ~v21 ~v25 ¿) fun v26 =>
 Q (.tup [v18,v26]) H6)))
theorem kq(x0:AV)(H:Heap)(Q:AV→Heap→Prop)(h : ∀g,cw g x0 H Q):GoL env Tryz.f51 0 [.code gI] [(0,x0)] H Q:=⟨fun g=>bn (live:=kA) (cut:=kM) (n:=500) (Eq.mp (by kernel_rfl) (h g))⟩
noncomputable def vR:Code:=(Tryz.f84.body).getD .skip
def C4:Nat→Option (List Nat):=fun i=>none
def Dx:Nat→Bool:=fun i=>false
def rl(g:Nat→AV)(x0:AV)(H:Heap)(Q:AV→Heap→Prop):Prop :=
 doW (nRes H §H 1 (qBox ¢ §H 1 49 ~x0)) fun v1 H1 =>
 doQ (ak ¢ ¥H1 49 ~v1) fun v2 =>
 doW (©true H1 9 126 [v2]) fun v3 H2 =>
 doQ (qBin ¢ .neq 30 °10 ¤0 ~v3 £0) fun v4 =>
 br ~v4 (
 Q (.tup [(.v (.slice none 0 0)),v3]) H2) (
 doQ (ab ¢ 49 ~v1 1) fun v5 =>
 doQ (ab ¢ 47 ~v5 1) fun v6 =>
 doQ (ak ¢ ¥H2 4 ~v6) fun v7 =>
 br ~v7 (
 doQ (ab ¢ 49 ~v1 1) fun v8 =>
 doQ (ab ¢ 47 ~v8 0) fun v9 =>
 doQ (ak ¢ ¥H2 36 ~v9) fun v10 =>
 doQ (bQ ¢ 38 (some [(0,v10)])) fun v11 =>
 doW (©true H2 21 81 [v11]) fun v12 H3 =>
 doQ (ao ~v12 0) fun v13 =>
 doQ (ao ~v12 1) fun v14 =>
 doQ (ab ¢ 49 ~v1 0) fun v15 =>
 doQ (ak ¢ ¥H3 3 ~v15) fun v16 =>
 doQ (aW ¢ ¥H3 §H3 26 3 5 ~v16) fun v17 =>
 doW (ik ¢ true false H3 §H3 28 76 2 (some [(0,v17),(1,(a8 1))])) fun v18 H4 =>
 doQ (aw ¢ false ¥H4 §H4 31 .len #[76] [v13]) fun v19 =>
 doQ (qBin ¢ .sub 3 °31 ¤1 ~v19 £1) fun v20 =>
 doQ (cu ¢ ¥H4 76 ~v13 (some none) (oi v20) (some none)) fun v21 =>
 doW (cE ¢ true H4 §H4 34 (some 76) (some 76) v18 v21) fun v22 H5 =>
 Q (.tup [v22,v14]) H5) (
 doQ (ab ¢ 49 ~v1 1) fun v8 =>
 doQ (ab ¢ 47 ~v8 0) fun v9 =>
 doQ (ak ¢ ¥H2 36 ~v9) fun v10 =>
 doQ (bQ ¢ 38 (some [(0,v10)])) fun v11 =>
 doW (©true H2 21 81 [v11]) fun v12 H3 =>
 doQ (ao ~v12 0) fun v13 =>
 doQ (ao ~v12 1) fun v14 =>
 doQ (ab ¢ 49 ~v1 0) fun v15 =>
 doQ (ak ¢ ¥H3 3 ~v15) fun v16 =>
 doQ (aW ¢ ¥H3 §H3 26 3 5 ~v16) fun v17 =>
 doW (ik ¢ true false H3 §H3 28 76 2 (some [(0,v17),(1,(a8 0))])) fun v18 H4 =>
 doQ (aw ¢ false ¥H4 §H4 31 .len #[76] [v13]) fun v19 =>
 doQ (qBin ¢ .sub 3 °31 ¤1 ~v19 £1) fun v20 =>
 doQ (cu ¢ ¥H4 76 ~v13 (some none) (oi v20) (some none)) fun v21 =>
 doW (cE ¢ true H4 §H4 34 (some 76) (some 76) v18 v21) fun v22 H5 =>
 Q (.tup [v22,v14]) H5))
theorem Cq(x0:AV)(H:Heap)(Q:AV→Heap→Prop)(h : ∀g,rl g x0 H Q):GoL env Tryz.f84 0 [.code vR] [(0,x0)] H Q:=⟨fun g=>bn (live:=C4) (cut:=Dx) (n:=500) (Eq.mp (by kernel_rfl) (h g))⟩
noncomputable def so:Code:=(Tryz.f126.body).getD .skip
def zi:Nat→Option (List Nat):=fun i=>none
def zB:Nat→Bool:=fun i=>false
def oI(g:Nat→AV)(x0:AV)(H:Heap)(Q:AV→Heap→Prop):Prop :=
 doW (nRes H §H 1 (qBox ¢ §H 1 49 ~x0)) fun v1 H1 =>
 doQ (ab ¢ 49 ~v1 1) fun v2 =>
 doQ (ab ¢ 47 ~v2 1) fun v3 =>
 doQ (ak ¢ ¥H1 4 ~v3) fun v4 =>
 gQ v4 false (ab ¢ 49 ~v1 1) fun v5 =>
 gQ v4 false (ab ¢ 47 ~v5 0) fun v6 =>
 gQ v4 false (ak ¢ ¥H1 36 ~v6) fun v7 =>
 gW v4 false H1 (©false H1 11 161 []) fun v8 H2 =>
 gQ v4 false (qBin ¢ .eql 36 °10 °11 ~v7 ~v8) fun v9 =>
 doQ (bB ~v4 ¡ ~v9) fun v10 =>
 doQ (ab ¢ 49 ~v1 0) fun v11 =>
 doQ (ak ¢ ¥H2 3 ~v11) fun v12 =>
 doQ (qBin ¢ .lss 3 °15 ¤0 ~v12 £0) fun v13 =>
 gQ v13 false (ab ¢ 49 ~v1 0) fun v14 =>
 gQ v13 false (ak ¢ ¥H2 3 ~v14) fun v15 =>
 gQ v13 false (qBin ¢ .geq 3 °19 ¤8 ~v15 £8) fun v16 =>
 doQ (bB ~v13 ¡ ~v16) fun v17 =>
 gQ v17 false (ab ¢ 49 ~v1 1) fun v18 =>
 gQ v17 false (ab ¢ 47 ~v18 0) fun v19 =>
 gQ v17 false (ak ¢ ¥H2 36 ~v19) fun v20 =>
 gW v17 false H2 (©true H2 26 155 [v20]) fun v21 H3 =>
 gQ v17 false (qBin ¢ .neq 30 °26 ¤0 ~v21 £0) fun v22 =>
 doQ (bB ~v17 ¡ ~v22) fun v23 =>
 gQ v23 false (qVal ~v10) fun v24 =>
 gQ v23 false (qUn ¢ .not ~v24) fun v25 =>
 doQ (bB ~v23 ¡ ~v25) fun v26 =>
 br ~v26 (
 Q (.v (.int .i64 8)) H3) (
 Q (.v (.int .i64 0)) H3)
theorem yS(x0:AV)(H:Heap)(Q:AV→Heap→Prop)(h : ∀g,oI g x0 H Q):GoL env Tryz.f126 0 [.code so] [(0,x0)] H Q:=⟨fun g=>bn (live:=zi) (cut:=zB) (n:=500) (Eq.mp (by kernel_rfl) (h g))⟩
end Go.Proofs.YtiidajnodhkidaaGreat
