/-
  What is to be shown of each function, computed from its code. No statement of a seat is proved here.
-/
import Derived.Test.YtiidajnodhkidaaGreatStTy
set_option linter.unusedVariables false
set_option maxRecDepth 1000000
namespace Go.Proofs.YtiidajnodhkidaaGreat
open Go.Ab
local notation:max "©" b:max h:max n:max f:max a:max=>cl env b (limf env) (limt env 0) h (Ref.mk 0 n (Heap.gen h 0 n) 0) (some (AV.fn (Fn.func f) [] [])) a
local notation:max "§" h:max n:max=>Ref.mk 0 n (Heap.gen h 0 n) 0
local notation:max "~" a:max=>some a
local notation:max "¥" h:max=>Heap.get h
local notation:max "¤" n:max=>(Operand.const (Value.int IntKind.i64 n))
local notation:max "£" n:max=>some (AV.v (Value.int IntKind.i64 n))
local notation:max "¡" => some (AV.v (Value.bool true))
local notation:max "¿" => some (AV.v (Value.bool false))
local notation:max "°" n:max=>(Operand.tmp n)
local notation:max "¢" => env.P
noncomputable def rb:Code:=(Tryz.f82.body).getD .skip
def JK:Nat→Option (List Nat):=fun i=>none
def Ky:Nat→Bool:=fun i=>false
def pg(g:Nat→AV)(x0:AV)(H:Heap)(Q:AV→Heap→Prop):Prop :=
 doW (nRes H §H 1 (qBox ¢ §H 1 45 ~x0)) fun v1 H1 =>
 doQ (ak ¢ ¥H1 45 ~v1) fun v2 =>
 doW (©true H1 16 122 [v2]) fun v3 H2 =>
 doQ (qBin ¢ .neq 30 °17 ¤0 ~v3 £0) fun v4 =>
 br ~v4 (
 Q (.tup [(.v (.slice none 0 0)),v3]) H2) (
 doQ (ab ¢ 45 ~v1 1) fun v5 =>
 doQ (ak ¢ ¥H2 38 ~v5) fun v6 =>
 doW (©true H2 23 81 [v6]) fun v7 H3 =>
 doQ (ao ~v7 0) fun v8 =>
 doQ (ao ~v7 1) fun v9 =>
 doQ (ab ¢ 45 ~v1 3) fun v10 =>
 doQ (ab ¢ 42 ~v10 0) fun v11 =>
 doQ (ak ¢ ¥H3 40 ~v11) fun v12 =>
 doW (©true H3 30 123 [v12]) fun v13 H4 =>
 doQ (ao ~v13 0) fun v14 =>
 doQ (ao ~v13 1) fun v15 =>
 doQ (ab ¢ 45 ~v1 0) fun v16 =>
 doQ (ak ¢ ¥H4 5 ~v16) fun v17 =>
 doW (ik ¢ false true H4 §H4 35 76 1 (some [(0,v17)])) fun v18 H5 =>
 doQ (ab ¢ 45 ~v1 2) fun v19 =>
 doQ (ak ¢ ¥H5 3 ~v19) fun v20 =>
 doQ (qBin ¢ .shr 3 °38 (.const (.int .u64 16)) ~v20 (some (.v (.int .u64 16)))) fun v21 =>
 doQ (aW ¢ ¥H5 §H5 40 3 5 ~v21) fun v22 =>
 doQ (ab ¢ 45 ~v1 2) fun v23 =>
 doQ (ak ¢ ¥H5 3 ~v23) fun v24 =>
 doQ (qBin ¢ .shr 3 °42 (.const (.int .u64 8)) ~v24 (some (.v (.int .u64 8)))) fun v25 =>
 doQ (aW ¢ ¥H5 §H5 44 3 5 ~v25) fun v26 =>
 doQ (ab ¢ 45 ~v1 2) fun v27 =>
 doQ (ak ¢ ¥H5 3 ~v27) fun v28 =>
 doQ (aW ¢ ¥H5 §H5 47 3 5 ~v28) fun v29 =>
 doW (ik ¢ false true H5 §H5 48 76 3 (some [(0,v22),(1,v26),(2,v29)])) fun v30 H6 =>
 doQ (ab ¢ 45 ~v1 3) fun v31 =>
 doQ (ab ¢ 42 ~v31 1) fun v32 =>
 doQ (ak ¢ ¥H6 3 ~v32) fun v33 =>
 doQ (aW ¢ ¥H6 §H6 53 3 5 ~v33) fun v34 =>
 doW (ik ¢ false true H6 §H6 54 76 1 (some [(0,v34)])) fun v35 H7 =>
 doW (ik ¢ false true H7 §H7 55 122 5 (some [(0,v18),(1,v8),(2,v30),(3,v14),(4,v35)])) fun v36 H8 =>
 doW (©true H8 56 108 [v36]) fun v37 H9 =>
 doQ (ab ¢ 45 ~v1 0) fun v38 =>
 doQ (ak ¢ ¥H9 5 ~v38) fun v39 =>
 doQ (qBin ¢ .eql 5 °58 (.const (.int .u8 1)) ~v39 (some (a8 1))) fun v40 =>
 br ~v40 (
 doW (nRes H9 §H9 61 (sS ¢ §H9 61 76 £13 £13)) fun v41 H10 =>
 doQ (ab ¢ 45 ~v1 4) fun v42 =>
 doQ (ak ¢ ¥H10 40 ~v42) fun v43 =>
 doQ (bQ ¢ 40 (some [])) fun v44 =>
 doQ (qBin ¢ .neq 40 °63 °64 ~v43 ~v44) fun v45 =>
 br ~v45 (
 doQ (ab ¢ 45 ~v1 4) fun v46 =>
 doQ (ak ¢ ¥H10 40 ~v46) fun v47 =>
 doW (©true H10 69 123 [v47]) fun v48 H11 =>
 doQ (ao ~v48 0) fun v49 =>
 doQ (ao ~v48 1) fun v50 =>
 doQ (ab ¢ 45 ~v1 6) fun v51 =>
 doQ (ak ¢ ¥H11 43 ~v51) fun v52 =>
 doW (©true H11 75 124 [v52]) fun v53 H12 =>
 doQ (ao ~v53 0) fun v54 =>
 doQ (ao ~v53 1) fun v55 =>
 doW (ik ¢ false true H12 §H12 81 122 3 (some [(0,v37),(1,v49),(2,v54)])) fun v56 H13 =>
 doW (©true H13 82 108 [v56]) fun v57 H14 =>
 Q (.tup [v57,(.v (.int .i64 0))]) H14) (
 doQ (ab ¢ 45 ~v1 6) fun v46 =>
 doQ (ak ¢ ¥H10 43 ~v46) fun v47 =>
 doW (©true H10 75 124 [v47]) fun v48 H11 =>
 doQ (ao ~v48 0) fun v49 =>
 doQ (ao ~v48 1) fun v50 =>
 doW (ik ¢ false true H11 §H11 81 122 3 (some [(0,v37),(1,v41),(2,v49)])) fun v51 H12 =>
 doW (©true H12 82 108 [v51]) fun v52 H13 =>
 Q (.tup [v52,(.v (.int .i64 0))]) H13)) (
 doQ (qBin ¢ .eql 5 °58 (.const (.int .u8 3)) ~v39 (some (a8 3))) fun v41 =>
 br ~v41 (
 doQ (ab ¢ 45 ~v1 5) fun v42 =>
 doQ (ak ¢ ¥H9 36 ~v42) fun v43 =>
 doQ (bQ ¢ 38 (some [(0,v43)])) fun v44 =>
 doW (©true H9 89 81 [v44]) fun v45 H10 =>
 doQ (ao ~v45 0) fun v46 =>
 doQ (ao ~v45 1) fun v47 =>
 doQ (cu ¢ ¥H10 76 ~v46 (some none) (oi (.v (.int .i64 5))) (some none)) fun v48 =>
 doW (cE ¢ true H10 §H10 95 (some 76) (some 76) v37 v48) fun v49 H11 =>
 Q (.tup [v49,(.v (.int .i64 0))]) H11) (
 Q (.tup [v37,(.v (.int .i64 0))]) H9)))
theorem tk(x0:AV)(H:Heap)(Q:AV→Heap→Prop)(h : ∀g,pg g x0 H Q):GoL env Tryz.f82 0 [.code rb] [(0,x0)] H Q:=⟨fun g=>bn (live:=JK) (cut:=Ky) (n:=500) (Eq.mp (by kernel_rfl) (h g))⟩
noncomputable def DL:Code:=(Tryz.f176.body).getD .skip
def JL:Nat→Option (List Nat):=fun i=>none
def Kz:Nat→Bool:=fun i=>false
def DN(g:Nat→AV)(x0:AV)(H:Heap)(Q:AV→Heap→Prop):Prop :=
 doW (nRes H §H 2 (bZ ¢ §H 2 45)) fun v1 H1 =>
 doQ (bQ ¢ 252 (some [(0,x0)])) fun v2 =>
 doW (nRes H1 §H1 17 (qBox ¢ §H1 17 252 ~v2)) fun v3 H2 =>
 doQ (tH (.func 194) (some [v3]) (some [])) fun v4 =>
 doQ (tH (.func 195) (some [v3]) (some [])) fun v5 =>
 doW (cl env true (limf env) (limt env 0) H2 §H2 23 ~v4 [(.v (.int .i64 1))]) fun v6 H3 =>
 doQ (ax ¢ ¥H3 76 ~v6 £0) fun v7 =>
 doQ (ak ¢ ¥H3 5 ~v7) fun v8 =>
 doQ (ab ¢ 45 ~v1 0) fun v9 =>
 doW (au ¢ H3 5 ~v9 ~v8) fun v10 H4 =>
 doW (cl env true (limf env) (limt env 0) H4 §H4 29 ~v4 [(.v (.int .i64 6))]) fun v11 H5 =>
 doW (©true H5 30 175 [v11]) fun v12 H6 =>
 doQ (ao ~v12 0) fun v13 =>
 doQ (ao ~v12 1) fun v14 =>
 doW (nRes H6 §H6 8 (bZ ¢ §H6 8 38)) fun v15 H7 =>
 doW (au ¢ H7 38 ~v15 ~v13) fun v16 H8 =>
 doW (cl env true (limf env) (limt env 0) H8 §H8 34 ~v4 [(.v (.int .i64 3))]) fun v17 H9 =>
 doQ (ak ¢ ¥H9 38 ~v15) fun v18 =>
 doQ (ax ¢ ¥H9 76 ~v17 £0) fun v19 =>
 doQ (ak ¢ ¥H9 5 ~v19) fun v20 =>
 doQ (aW ¢ ¥H9 §H9 39 5 3 ~v20) fun v21 =>
 doQ (qBin ¢ .shl 3 °39 (.const (.int .u64 16)) ~v21 (some (.v (.int .u64 16)))) fun v22 =>
 doQ (ax ¢ ¥H9 76 ~v17 £1) fun v23 =>
 doQ (ak ¢ ¥H9 5 ~v23) fun v24 =>
 doQ (aW ¢ ¥H9 §H9 44 5 3 ~v24) fun v25 =>
 doQ (qBin ¢ .shl 3 °44 (.const (.int .u64 8)) ~v25 (some (.v (.int .u64 8)))) fun v26 =>
 doQ (qBin ¢ .or 3 °40 °45 ~v22 ~v26) fun v27 =>
 doQ (ax ¢ ¥H9 76 ~v17 £2) fun v28 =>
 doQ (ak ¢ ¥H9 5 ~v28) fun v29 =>
 doQ (aW ¢ ¥H9 §H9 50 5 3 ~v29) fun v30 =>
 doQ (qBin ¢ .or 3 °46 °50 ~v27 ~v30) fun v31 =>
 doQ (ab ¢ 45 ~v1 1) fun v32 =>
 doW (au ¢ H9 38 ~v32 ~v18) fun v33 H10 =>
 doQ (ab ¢ 45 ~v1 2) fun v34 =>
 doW (au ¢ H10 3 ~v34 ~v31) fun v35 H11 =>
  od [(v17,v32),(v19,v32),(v20,v32),(v17,v32),(v23,v32),(v24,v32),(v17,v32),(v28,v32),(v29,v32)] [v32,v34] [] H11 ∧
 (doW (cl env true (limf env) (limt env 0) H11 §H11 55 ~v5 [(.v (.bool false))]) fun v36 H12 =>
 doQ (ab ¢ 45 ~v1 3) fun v37 =>
 doQ (ab ¢ 42 ~v37 0) fun v38 =>
 doW (au ¢ H12 40 ~v38 ~v36) fun v39 H13 =>
 doW (cl env true (limf env) (limt env 0) H13 §H13 59 ~v4 [(.v (.int .i64 1))]) fun v40 H14 =>
 doQ (ax ¢ ¥H14 76 ~v40 £0) fun v41 =>
 doQ (ak ¢ ¥H14 5 ~v41) fun v42 =>
 doQ (aW ¢ ¥H14 §H14 62 5 3 ~v42) fun v43 =>
 doQ (ab ¢ 45 ~v1 3) fun v44 =>
 doQ (ab ¢ 42 ~v44 1) fun v45 =>
 doW (au ¢ H14 3 ~v45 ~v43) fun v46 H15 =>
 doQ (qNil ~v3) fun v47 =>
 doQ (ab ¢ 252 ~v47 2) fun v48 =>
 doQ (ak ¢ ¥H15 4 ~v48) fun v49 =>
 gQ v49 false (qVal ~v14) fun v50 =>
 gQ v49 false (qBin ¢ .neq 30 °70 ¤0 ~v50 £0) fun v51 =>
 doQ (bB ~v49 ¡ ~v51) fun v52 =>
 gQ v52 false (ab ¢ 45 ~v1 3) fun v53 =>
 gQ v52 false (ab ¢ 42 ~v53 1) fun v54 =>
 gQ v52 false (ak ¢ ¥H15 3 ~v54) fun v55 =>
 gQ v52 false (qBin ¢ .gtr 3 °76 ¤64 ~v55 £64) fun v56 =>
 doQ (bB ~v52 ¡ ~v56) fun v57 =>
 br ~v57 (
 doQ (bQ ¢ 45 (some [])) fun v58 =>
 doW (au ¢ H15 45 ~v1 ~v58) fun v59 H16 =>
 doQ (aE ¢ H16 v1 45) fun v60 =>
 Q (.tup [v60,(.v (.int .i64 0)),(.v (.int .i64 8))]) H16) (
 doQ (ab ¢ 45 ~v1 0) fun v58 =>
 doQ (ak ¢ ¥H15 5 ~v58) fun v59 =>
 doQ (qBin ¢ .eql 5 °81 (.const (.int .u8 1)) ~v59 (some (a8 1))) fun v60 =>
 br ~v60 (
 doW (cl env true (limf env) (limt env 0) H15 §H15 85 ~v5 [(.v (.bool true))]) fun v61 H16 =>
 doQ (ab ¢ 45 ~v1 4) fun v62 =>
 doW (au ¢ H16 40 ~v62 ~v61) fun v63 H17 =>
 doQ (ab ¢ 45 ~v1 3) fun v64 =>
 doQ (ab ¢ 42 ~v64 1) fun v65 =>
 doQ (ak ¢ ¥H17 3 ~v65) fun v66 =>
 doQ (qBin ¢ .mul 3 ¤4 °91 £4 ~v66) fun v67 =>
 doW (cl env true (limf env) (limt env 0) H17 §H17 93 ~v4 [v67]) fun v68 H18 =>
 doW (©true H18 94 196 [v68]) fun v69 H19 =>
 doQ (ao ~v69 0) fun v70 =>
 doQ (ao ~v69 1) fun v71 =>
 doQ (qNil ~v3) fun v72 =>
 doQ (ab ¢ 252 ~v72 2) fun v73 =>
 doQ (ak ¢ ¥H19 4 ~v73) fun v74 =>
 gQ v74 false (qVal ~v71) fun v75 =>
 gQ v74 false (qBin ¢ .neq 30 °104 ¤0 ~v75 £0) fun v76 =>
 doQ (bB ~v74 ¡ ~v76) fun v77 =>
 doQ (ab ¢ 45 ~v1 6) fun v78 =>
 doW (au ¢ H19 43 ~v78 ~v70) fun v79 H20 =>
 doQ (qNil ~v3) fun v80 =>
 doQ (ab ¢ 252 ~v80 2) fun v81 =>
 doW (au ¢ H20 4 ~v81 ~v77) fun v82 H21 =>
 doQ (qNil ~v3) fun v83 =>
 doQ (ab ¢ 252 ~v83 2) fun v84 =>
 doQ (ak ¢ ¥H21 4 ~v84) fun v85 =>
 gQ v85 false (ak ¢ ¥H21 45 ~v1) fun v86 =>
 gW v85 false H21 (©true H21 141 122 [v86]) fun v87 H22 =>
 gQ v85 false (qBin ¢ .neq 30 °141 ¤0 ~v87 £0) fun v88 =>
 doQ (bB ~v85 ¡ ~v88) fun v89 =>
 br ~v89 (
 doQ (bQ ¢ 45 (some [])) fun v90 =>
 doW (au ¢ H22 45 ~v1 ~v90) fun v91 H23 =>
 doQ (aE ¢ H23 v1 45) fun v92 =>
 Q (.tup [v92,(.v (.int .i64 0)),(.v (.int .i64 8))]) H23) (
 doQ (ak ¢ ¥H22 45 ~v1) fun v90 =>
 doQ (qNil ~v3) fun v91 =>
 doQ (ab ¢ 252 ~v91 1) fun v92 =>
 doQ (ak ¢ ¥H22 3 ~v92) fun v93 =>
 doW (au ¢ H22 45 ~v1 ~v90) fun v94 H23 =>
  od [(v92,v1)] [v1] [] H23 ∧
 (doQ (aE ¢ H23 v1 45) fun v95 =>
 Q (.tup [v95,v93,(.v (.int .i64 0))]) H23))) (
 doQ (qBin ¢ .eql 5 °81 (.const (.int .u8 3)) ~v59 (some (a8 3))) fun v61 =>
 br ~v61 (
 doW (cl env true (limf env) (limt env 0) H15 §H15 114 ~v4 [(.v (.int .i64 5))]) fun v62 H16 =>
 doW (©true H16 115 197 [v62]) fun v63 H17 =>
 doW (ik ¢ false true H17 §H17 116 76 1 (some [(0,(a8 0))])) fun v64 H18 =>
 doW (cE ¢ true H18 §H18 117 (some 76) (some 76) v63 v64) fun v65 H19 =>
 doW (©true H19 118 175 [v65]) fun v66 H20 =>
 doQ (ao ~v66 0) fun v67 =>
 doQ (ao ~v66 1) fun v68 =>
 doW (nRes H20 §H20 13 (bZ ¢ §H20 13 38)) fun v69 H21 =>
 doW (au ¢ H21 38 ~v69 ~v67) fun v70 H22 =>
 doQ (ab ¢ 38 ~v69 0) fun v71 =>
 doQ (ak ¢ ¥H22 36 ~v71) fun v72 =>
 doQ (qNil ~v3) fun v73 =>
 doQ (ab ¢ 252 ~v73 2) fun v74 =>
 doQ (ak ¢ ¥H22 4 ~v74) fun v75 =>
 gQ v75 false (qVal ~v68) fun v76 =>
 gQ v75 false (qBin ¢ .neq 30 °129 ¤0 ~v76 £0) fun v77 =>
 doQ (bB ~v75 ¡ ~v77) fun v78 =>
 doQ (ab ¢ 45 ~v1 5) fun v79 =>
 doW (au ¢ H22 36 ~v79 ~v72) fun v80 H23 =>
 doQ (qNil ~v3) fun v81 =>
 doQ (ab ¢ 252 ~v81 2) fun v82 =>
 doW (au ¢ H23 4 ~v82 ~v78) fun v83 H24 =>
 doQ (qNil ~v3) fun v84 =>
 doQ (ab ¢ 252 ~v84 2) fun v85 =>
 doQ (ak ¢ ¥H24 4 ~v85) fun v86 =>
 gQ v86 false (ak ¢ ¥H24 45 ~v1) fun v87 =>
 gW v86 false H24 (©true H24 141 122 [v87]) fun v88 H25 =>
 gQ v86 false (qBin ¢ .neq 30 °141 ¤0 ~v88 £0) fun v89 =>
 doQ (bB ~v86 ¡ ~v89) fun v90 =>
 br ~v90 (
 doQ (bQ ¢ 45 (some [])) fun v91 =>
 doW (au ¢ H25 45 ~v1 ~v91) fun v92 H26 =>
 doQ (aE ¢ H26 v1 45) fun v93 =>
 Q (.tup [v93,(.v (.int .i64 0)),(.v (.int .i64 8))]) H26) (
 doQ (ak ¢ ¥H25 45 ~v1) fun v91 =>
 doQ (qNil ~v3) fun v92 =>
 doQ (ab ¢ 252 ~v92 1) fun v93 =>
 doQ (ak ¢ ¥H25 3 ~v93) fun v94 =>
 doW (
  au ¢ H25 45 ~v1 ~v91) fun v95 H26 =>
  od [(v93,v1)] [v1] [] H26 ∧
 (doQ (aE ¢ H26 v1 45) fun v96 =>
 Q (.tup [v96,v94,(.v (.int .i64 0))]) H26))) (
 doQ (qNil ~v3) fun v62 =>
 doQ (ab ¢ 252 ~v62 2) fun v63 =>
 doQ (ak ¢ ¥H15 4 ~v63) fun v64 =>
 gQ v64 false (ak ¢ ¥H15 45 ~v1) fun v65 =>
 gW v64 false H15 (©true H15 141 122 [v65]) fun v66 H16 =>
 gQ v64 false (qBin ¢ .neq 30 °141 ¤0 ~v66 £0) fun v67 =>
 doQ (bB ~v64 ¡ ~v67) fun v68 =>
 br ~v68 (
 doQ (bQ ¢ 45 (some [])) fun v69 =>
 doW (au ¢ H16 45 ~v1 ~v69) fun v70 H17 =>
 doQ (aE ¢ H17 v1 45) fun v71 =>
 Q (.tup [v71,(.v (.int .i64 0)),(.v (.int .i64 8))]) H17) (
 doQ (ak ¢ ¥H16 45 ~v1) fun v69 =>
 doQ (qNil ~v3) fun v70 =>
 doQ (ab ¢ 252 ~v70 1) fun v71 =>
 doQ (ak ¢ ¥H16 3 ~v71) fun v72 =>
 doW (
  au ¢ H16 45 ~v1 ~v69) fun v73 H17 =>
  od [(v71,v1)] [v1] [] H17 ∧
 (doQ (aE ¢ H17 v1 45) fun v74 =>
 Q (.tup [v74,v72,(.v (.int .i64 0))]) H17))))))
theorem Ig(x0:AV)(H:Heap)(Q:AV→Heap→Prop)(h : ∀g,DN g x0 H Q):GoL env Tryz.f176 0 [.code DL] [(0,x0)] H Q:=⟨fun g=>bn (live:=JL) (cut:=Kz) (n:=500) (Eq.mp (by kernel_rfl) (h g))⟩
noncomputable def ep:Code:=(Tryz.f108.body).getD .skip
noncomputable def dp:List Item:=(cb 3 400 [.code ep]).getD []
noncomputable def dg:List Item:=(cb 11 400 [.code ep]).getD []
def fI:Nat→Option (List Nat):=fun i=>cond (Nat.beq i 3) (some [11,3,9,0,10]) (cond (Nat.beq i 11) (some [27,6,25,26]) (none))
def fJ:Nat→Bool:=fun i=>false
def iT(g:Nat→AV)(x0:AV)(H:Heap)(Q:AV→Heap→Prop):Prop :=
 doQ (aw ¢ false ¥H §H 10 .len #[122] [x0]) fun v1 =>
  GoL env Tryz.f108 0 dp [(11,(.v (.int .i64 0))),(3,(.v (.int .i64 0))),(9,x0),(0,x0),(10,v1)] H Q
theorem me(x0:AV)(H:Heap)(Q:AV→Heap→Prop)(h : ∀g,iT g x0 H Q):GoL env Tryz.f108 0 [.code ep] [(0,x0)] H Q:=⟨fun g=>bn (live:=fI) (cut:=fJ) (n:=500) (Eq.mp (by kernel_rfl) (h g))⟩
def fg(g:Nat→AV)(x11 x3 x9 x0 x10:AV)(H:Heap)(Q:AV→Heap→Prop):Prop :=
 doQ (qBin ¢ .lss 3 °11 °10 ~x11 ~x10) fun v1 =>
 br ~v1 (
 doQ (ax ¢ ¥H 122 ~x9 ~x11) fun v2 =>
 doQ (ak ¢ ¥H 76 ~v2) fun v3 =>
 doQ (aw ¢ false ¥H §H 17 .len #[76] [v3]) fun v4 =>
 doQ (qBin ¢ .add 3 °15 °17 ~x3 ~v4) fun v5 =>
 doQ (qBin ¢ .lss 3 °19 ¤0 ~v5 £0) fun v6 =>
 br ~v6 (
 doQ (qH ¢ 9 (some (.v (.string ⟨#[108,101,110,32,111,117,116,32,111,102,32,114,97,110,103,101]⟩)))) fun v7 =>
 doQ (none) fun v8 =>
 doQ (qBin ¢ .add 3 °11 ¤1 ~x11 £1) fun v9 =>
  GoL env Tryz.f108 0 dp [(11,v9),(3,v5),(9,x9),(0,x0),(10,x10)] H Q) (
 doQ (qBin ¢ .add 3 °11 ¤1 ~x11 £1) fun v7 =>
  GoL env Tryz.f108 0 dp [(11,v7),(3,v5),(9,x9),(0,x0),(10,x10)] H Q)) (
 doW (©true H 24 146 [(.v (.slice none 0 0)),x3]) fun v2 H1 =>
 doQ (aw ¢ false ¥H1 §H1 26 .len #[122] [x0]) fun v3 =>
  GoL env Tryz.f108 0 dg [(27,(.v (.int .i64 0))),(6,v2),(25,x0),(26,v3)] H1 Q)
theorem gX(x11 x3 x9 x0 x10:AV)(H:Heap)(Q:AV→Heap→Prop)(h : ∀g,fg g x11 x3 x9 x0 x10 H Q):GoL env Tryz.f108 0 dp [(11,x11),(3,x3),(9,x9),(0,x0),(10,x10)] H Q:=cV fun g=>bn (live:=fI) (cut:=fJ) (n:=500) (Eq.mp (by kernel_rfl) (h g))
def dM(g:Nat→AV)(x27 x6 x25 x26:AV)(H:Heap)(Q:AV→Heap→Prop):Prop :=
 doQ (qBin ¢ .lss 3 °27 °26 ~x27 ~x26) fun v1 =>
 br ~v1 (
 doQ (ax ¢ ¥H 122 ~x25 ~x27) fun v2 =>
 doQ (ak ¢ ¥H 76 ~v2) fun v3 =>
 doW (cE ¢ true H §H 33 (some 76) (some 76) x6 v3) fun v4 H1 =>
 doQ (qBin ¢ .add 3 °27 ¤1 ~x27 £1) fun v5 =>
  GoL env Tryz.f108 0 dg [(27,v5),(6,v4),(25,x25),(26,x26)] H1 Q) (
 Q x6 H)
theorem gT(x27 x6 x25 x26:AV)(H:Heap)(Q:AV→Heap→Prop)(h : ∀g,dM g x27 x6 x25 x26 H Q):GoL env Tryz.f108 0 dg [(27,x27),(6,x6),(25,x25),(26,x26)] H Q:=cV fun g=>bn (live:=fI) (cut:=fJ) (n:=500) (Eq.mp (by kernel_rfl) (h g))
noncomputable def qZ:Code:=(Tryz.f124.body).getD .skip
noncomputable def lz:List Item:=(cb 6 400 [.code qZ]).getD []
def vC:Nat→Option (List Nat):=fun i=>cond (Nat.beq i 6) (some [15,5,13,14]) (none)
def vJ:Nat→Bool:=fun i=>false
def rj(g:Nat→AV)(x0:AV)(H:Heap)(Q:AV→Heap→Prop):Prop :=
 doW (©true H 9 159 [x0]) fun v1 H1 =>
 doQ (qBin ¢ .neq 30 °10 ¤0 ~v1 £0) fun v2 =>
 br ~v2 (
 Q (.tup [(.v (.slice none 0 0)),v1]) H1) (
 doQ (aw ¢ false ¥H1 §H1 14 .len #[43] [x0]) fun v3 =>
  GoL env Tryz.f124 0 lz [(15,(.v (.int .i64 0))),(5,(.v (.slice none 0 0))),(13,x0),(14,v3)] H1 Q)
theorem Cl(x0:AV)(H:Heap)(Q:AV→Heap→Prop)(h : ∀g,rj g x0 H Q):GoL env Tryz.f124 0 [.code qZ] [(0,x0)] H Q:=⟨fun g=>bn (live:=vC) (cut:=vJ) (n:=500) (Eq.mp (by kernel_rfl) (h g))⟩
def lD(g:Nat→AV)(x15 x5 x13 x14:AV)(H:Heap)(Q:AV→Heap→Prop):Prop :=
 doQ (qBin ¢ .lss 3 °15 °14 ~x15 ~x14) fun v1 =>
 br ~v1 (
 doQ (ax ¢ ¥H 43 ~x13 ~x15) fun v2 =>
 doQ (ak ¢ ¥H 21 ~v2) fun v3 =>
 doQ (qBin ¢ .shr 21 °20 (.const (.int .u64 24)) ~v3 (some (.v (.int .u64 24)))) fun v4 =>
 doQ (aW ¢ ¥H §H 22 21 5 ~v4) fun v5 =>
 doQ (qBin ¢ .shr 21 °23 (.const (.int .u64 16)) ~v3 (some (.v (.int .u64 16)))) fun v6 =>
 doQ (aW ¢ ¥H §H 25 21 5 ~v6) fun v7 =>
 doQ (qBin ¢ .shr 21 °26 (.const (.int .u64 8)) ~v3 (some (.v (.int .u64 8)))) fun v8 =>
 doQ (aW ¢ ¥H §H 28 21 5 ~v8) fun v9 =>
 doQ (aW ¢ ¥H §H 30 21 5 ~v3) fun v10 =>
 doW (ik ¢ false true H §H 31 76 4 (some [(0,v5),(1,v7),(2,v9),(3,v10)])) fun v11 H1 =>
 doW (cE ¢ true H1 §H1 32 (some 76) (some 76) x5 v11) fun v12 H2 =>
 doQ (qBin ¢ .add 3 °15 ¤1 ~x15 £1) fun v13 =>
  GoL env Tryz.f124 0 lz [(15,v13),(5,v12),(13,x13),(14,x14)] H2 Q) (
 Q (.tup [x5,(.v (.int .i64 0))]) H)
theorem rV(x15 x5 x13 x14:AV)(H:Heap)(Q:AV→Heap→Prop)(h : ∀g,lD g x15 x5 x13 x14 H Q):GoL env Tryz.f124 0 lz [(15,x15),(5,x5),(13,x13),(14,x14)] H Q:=cV fun g=>bn (live:=vC) (cut:=vJ) (n:=500) (Eq.mp (by kernel_rfl) (h g))
noncomputable def ig:Code:=(Tryz.f194.body).getD .skip
def kX:Nat→Option (List Nat):=fun i=>none
def k8:Nat→Bool:=fun i=>false
def dT(dep:Nat)(g:Nat→AV)(x0 x1:AV)(H:Heap)(Q:AV→Heap→Prop):Prop :=
 doQ (qNil ~x0) fun v1 =>
 doQ (ab ¢ 252 ~v1 2) fun v2 =>
 doQ (ak ¢ ¥H 4 ~v2) fun v3 =>
 gQ v3 false (qVal ~x0) fun v4 =>
 gQ v3 false (qNil ~v4) fun v5 =>
 gQ v3 false (ab ¢ 252 ~v5 0) fun v6 =>
 gQ v3 false (ak ¢ ¥H 76 ~v6) fun v7 =>
 gQ v3 false (aw ¢ false ¥H (⟨(dep+1),15,Heap.gen H (dep+1) 15,0⟩:Ref) .len #[76] [v7]) fun v8 =>
 gQ v3 false (qVal ~x0) fun v9 =>
 gQ v3 false (qNil ~v9) fun v10 =>
 gQ v3 false (ab ¢ 252 ~v10 1) fun v11 =>
 gQ v3 false (ak ¢ ¥H 3 ~v11) fun v12 =>
 gQ v3 false (qBin ¢ .sub 3 °15 °19 ~v8 ~v12) fun v13 =>
 gQ v3 false (qVal ~x1) fun v14 =>
 gQ v3 false (qBin ¢ .lss 3 °20 °21 ~v13 ~v14) fun v15 =>
 doQ (bB ~v3 ¡ ~v15) fun v16 =>
 doQ (qNil ~x0) fun v17 =>
 doQ (ab ¢ 252 ~v17 2) fun v18 =>
 doW (au ¢ H 4 ~v18 ~v16) fun v19 H1 =>
 doQ (qNil ~x0) fun v20 =>
 doQ (ab ¢ 252 ~v20 2) fun v21 =>
 doQ (ak ¢ ¥H1 4 ~v21) fun v22 =>
 br ~v22 (
 doW (nRes H1 (⟨(dep+1),31,Heap.gen H1 (dep+1) 31,0⟩:Ref) (sS ¢ (⟨(dep+1),31,Heap.gen H1 (dep+1) 31,0⟩:Ref) 76 ~x1 ~x1)) fun v23 H2 =>
 Q v23 H2) (
 doQ (qNil ~x0) fun v23 =>
 doQ (ab ¢ 252 ~v23 1) fun v24 =>
 doQ (ak ¢ ¥H1 3 ~v24) fun v25 =>
 doQ (qBin ¢ .add 3 °35 °36 ~v25 ~x1) fun v26 =>
 doQ (qNil ~x0) fun v27 =>
 doQ (ab ¢ 252 ~v27 1) fun v28 =>
 doW (au ¢ H1 3 ~v28 ~v26) fun v29 H2 =>
 doQ (qNil ~x0) fun v30 =>
 doQ (ab ¢ 252 ~v30 0) fun v31 =>
 doQ (ak ¢ ¥H2 76 ~v31) fun v32 =>
 doQ (qNil ~x0) fun v33 =>
 doQ (ab ¢ 252 ~v33 1) fun v34 =>
 doQ (ak ¢ ¥H2 3 ~v34) fun v35 =>
 doQ (qBin ¢ .sub 3 °47 °48 ~v35 ~x1) fun v36 =>
 doQ (qNil ~x0) fun v37 =>
 doQ (ab ¢ 252 ~v37 1) fun v38 =>
 doQ (ak ¢ ¥H2 3 ~v38) fun v39 =>
 doQ (cu ¢ ¥H2 76 ~v32 (oi v36) (oi v39) (some none)) fun v40 =>
 Q v40 H2)
theorem kT(dep:Nat)(x0 x1:AV)(H:Heap)(Q:AV→Heap→Prop)(h : ∀g,dT dep g x0 x1 H Q):GoL env Tryz.f194 (dep+1) [.code ig] [(0,x0),(1,x1)] H Q:=⟨fun g=>bn (live:=kX) (cut:=k8) (n:=500) (Eq.mp (by kernel_rfl) (h g))⟩
noncomputable def iQ:Code:=(Tryz.f195.body).getD .skip
def mn:Nat→Option (List Nat):=fun i=>none
def mv:Nat→Bool:=fun i=>false
def eu(dep:Nat)(g:Nat→AV)(x0 x1:AV)(H:Heap)(Q:AV→Heap→Prop):Prop :=
 doW (nRes H (⟨(dep+1),4,Heap.gen H (dep+1) 4,0⟩:Ref) (bZ ¢ (⟨(dep+1),4,Heap.gen H (dep+1) 4,0⟩:Ref) 40)) fun v1 H1 =>
 doW (cl env true (limf env) (limt env (dep+1)) H1 (⟨(dep+1),10,Heap.gen H1 (dep+1) 10,0⟩:Ref) (some (.fn (.func 194) [] [])) [x0,(.v (.int .i64 13))]) fun v2 H2 =>
 doW (cl env true (limf env) (limt env (dep+1)) H2 (⟨(dep+1),13,Heap.gen H2 (dep+1) 13,0⟩:Ref) (some (.fn (.func 203) [] [])) [v2]) fun v3 H3 =>
 doQ (ao ~v3 0) fun v4 =>
 doQ (ao ~v3 1) fun v5 =>
 doW (nRes H3 (⟨(dep+1),6,Heap.gen H3 (dep+1) 6,0⟩:Ref) (bZ ¢ (⟨(dep+1),6,Heap.gen H3 (dep+1) 6,0⟩:Ref) 40)) fun v6 H4 =>
 doW (au ¢ H4 40 ~v6 ~v4) fun v7 H5 =>
 gQ x1 true (qVal ~v2) fun v8 =>
 gW x1 true H5 (nRes H5 (⟨(dep+1),19,Heap.gen H5 (dep+1) 19,0⟩:Ref) (sS ¢ (⟨(dep+1),19,Heap.gen H5 (dep+1) 19,0⟩:Ref) 76 £13 £13)) fun v9 H6 =>
 gW x1 true H6 (cl env true (limf env) (limt env (dep+1)) H6 (⟨(dep+1),20,Heap.gen H6 (dep+1) 20,0⟩:Ref) (some (.fn (.func 87) [] [])) [v8,v9]) fun v10 H7 =>
 doQ (bB ~x1 ~v10 ¿) fun v11 =>
 doQ (qNil ~x0) fun v12 =>
 doQ (ab ¢ 252 ~v12 2) fun v13 =>
 doQ (ak ¢ ¥H7 4 ~v13) fun v14 =>
 gQ v14 false (qVal ~v5) fun v15 =>
 gQ v14 false (qBin ¢ .neq 30 °28 ¤0 ~v15 £0) fun v16 =>
 gQ v14 false (qVal ~v16) fun v17 =>
 gQ v17 true (qVal ~v11) fun v18 =>
 gQ v17 true (qUn ¢ .not ~v18) fun v19 =>
 gQ v14 false (bB ~v17 ~v19 ¿) fun v20 =>
 doQ (bB ~v14 ¡ ~v20) fun v21 =>
 doQ (qNil ~x0) fun v22 =>
 doQ (ab ¢ 252 ~v22 2) fun v23 =>
 doW (au ¢ H7 4 ~v23 ~v21) fun v24 H8 =>
 doQ (ak ¢ ¥H8 40 ~v6) fun v25 =>
 doW (au ¢ H8 40 ~v1 ~v25) fun v26 H9 =>
 doQ (aE ¢ H9 v1 40) fun v27 =>
 Q v27 H9
theorem mg(dep:Nat)(x0 x1:AV)(H:Heap)(Q:AV→Heap→Prop)(h : ∀g,eu dep g x0 x1 H Q):GoL env Tryz.f195 (dep+1) [.code iQ] [(0,x0),(1,x1)] H Q:=⟨fun g=>bn (live:=mn) (cut:=mv) (n:=500) (Eq.mp (by kernel_rfl) (h g))⟩
noncomputable def q5:Code:=(Tryz.f196.body).getD .skip
noncomputable def gz:List Item:=(iO 10006 400 [.code q5]).getD []
noncomputable def dB:Code:=rfA gz
noncomputable def dA:Code:=rfB gz
noncomputable def nU:List Item:=rfK gz
def qO:Nat→Option (List Nat):=fun i=>cond (Nat.beq i 10006) (some [16,2]) (none)
def qV:Nat→Bool:=fun i=>false
def vW(g:Nat→AV)(x0:AV)(H:Heap)(Q:AV→Heap→Prop):Prop :=
 doW (nRes H §H 2 (bZ ¢ §H 2 43)) fun v1 H1 =>
 doQ (aw ¢ false ¥H1 §H1 8 .len #[76] [x0]) fun v2 =>
 doQ (qBin ¢ .gtr 3 °8 ¤256 ~v2 £256) fun v3 =>
 br ~v3 (
 doW (au ¢ H1 43 ~v1 (some (.v (.slice none 0 0)))) fun v4 H2 =>
 doQ (aE ¢ H2 v1 43) fun v5 =>
 Q (.tup [v5,(.v (.int .i64 4))]) H2) (
 doQ (aw ¢ false ¥H1 §H1 12 .len #[76] [x0]) fun v4 =>
 doQ (qBin ¢ .rem 3 °12 ¤4 ~v4 £4) fun v5 =>
 doQ (qBin ¢ .gtr 3 °13 ¤0 ~v5 £0) fun v6 =>
 br ~v6 (
 doW (au ¢ H1 43 ~v1 (some (.v (.slice none 0 0)))) fun v7 H2 =>
 doQ (aE ¢ H2 v1 43) fun v8 =>
 Q (.tup [v8,(.v (.int .i64 8))]) H2) (
 doW (©true H1 16 107 [x0,(.v (.int .i64 4))]) fun v7 H2 =>
  GoL env Tryz.f196 0 gz [(16,v7),(2,v1)] H2 Q))
theorem Cm(x0:AV)(H:Heap)(Q:AV→Heap→Prop)(h : ∀g,vW g x0 H Q):GoL env Tryz.f196 0 [.code q5] [(0,x0)] H Q:=⟨fun g=>bn (live:=qO) (cut:=qV) (n:=500) (Eq.mp (by kernel_rfl) (h g))⟩
def jZ(g:Nat→AV)(x2:AV)(H:Heap)(Q:AV→Heap→Prop):Prop :=
 doQ (ak ¢ ¥H 43 ~x2) fun v1 =>
 doW (©true H 45 159 [v1]) fun v2 H1 =>
 doQ (qBin ¢ .neq 30 °46 ¤0 ~v2 £0) fun v3 =>
 br ~v3 (
 doW (au ¢ H1 43 ~x2 (some (.v (.slice none 0 0)))) fun v4 H2 =>
 doQ (aE ¢ H2 x2 43) fun v5 =>
 Q (.tup [v5,v2]) H2) (
 doQ (ak ¢ ¥H1 43 ~x2) fun v4 =>
 doW (au ¢ H1 43 ~x2 ~v4) fun v5 H2 =>
 doQ (aE ¢ H2 x2 43) fun v6 =>
 Q (.tup [v6,(.v (.int .i64 0))]) H2)
theorem sK(x2:AV)(H:Heap)(Q:AV→Heap→Prop)(h : ∀g,jZ g x2 H Q):GoL env Tryz.f196 0 nU [(2,x2)] H Q:=⟨fun g=>bn (live:=qO) (cut:=qV) (n:=500) (Eq.mp (by kernel_rfl) (h g))⟩
def kP(r:Ref)(g:Nat→AV)(x2 x17:AV)(H:Heap)(Q:AV→Heap→Prop):Prop :=
 bgP (lpAt H r) fun i1 =>
 doQ (ak ¢ (Heap.get (Heap.put H r (some (fa 1 i1)))) 43 ~x2) fun v2 =>
 doQ (ax ¢ (Heap.get (Heap.put H r (some (fa 1 i1)))) 76 ~x17 £0) fun v3 =>
 doQ (ak ¢ (Heap.get (Heap.put H r (some (fa 1 i1)))) 5 ~v3) fun v4 =>
 doQ (aW ¢ (Heap.get (Heap.put H r (some (fa 1 i1)))) (⟨2,22,Heap.gen (Heap.put H r (some (fa 1 i1))) 2 22,0⟩:Ref) 5 34 ~v4) fun v5 =>
 doQ (qBin ¢ .shl 34 °22 (.const (.int .u64 24)) ~v5 (some (.v (.int .u64 24)))) fun v6 =>
 doQ (ax ¢ (Heap.get (Heap.put H r (some (fa 1 i1)))) 76 ~x17 £1) fun v7 =>
 doQ (ak ¢ (Heap.get (Heap.put H r (some (fa 1 i1)))) 5 ~v7) fun v8 =>
 doQ (aW ¢ (Heap.get (Heap.put H r (some (fa 1 i1)))) (⟨2,27,Heap.gen (Heap.put H r (some (fa 1 i1))) 2 27,0⟩:Ref) 5 34 ~v8) fun v9 =>
 doQ (qBin ¢ .shl 34 °27 (.const (.int .u64 16)) ~v9 (some (.v (.int .u64 16)))) fun v10 =>
 doQ (qBin ¢ .or 34 °23 °28 ~v6 ~v10) fun v11 =>
 doQ (ax ¢ (Heap.get (Heap.put H r (some (fa 1 i1)))) 76 ~x17 £2) fun v12 =>
 doQ (ak ¢ (Heap.get (Heap.put H r (some (fa 1 i1)))) 5 ~v12) fun v13 =>
 doQ (aW ¢ (Heap.get (Heap.put H r (some (fa 1 i1)))) (⟨2,33,Heap.gen (Heap.put H r (some (fa 1 i1))) 2 33,0⟩:Ref) 5 34 ~v13) fun v14 =>
 doQ (qBin ¢ .shl 34 °33 (.const (.int .u64 8)) ~v14 (some (.v (.int .u64 8)))) fun v15 =>
 doQ (qBin ¢ .or 34 °29 °34 ~v11 ~v15) fun v16 =>
 doQ (ax ¢ (Heap.get (Heap.put H r (some (fa 1 i1)))) 76 ~x17 £3) fun v17 =>
 doQ (ak ¢ (Heap.get (Heap.put H r (some (fa 1 i1)))) 5 ~v17) fun v18 =>
 doQ (aW ¢ (Heap.get (Heap.put H r (some (fa 1 i1)))) (⟨2,39,Heap.gen (Heap.put H r (some (fa 1 i1))) 2 39,0⟩:Ref) 5 34 ~v18) fun v19 =>
 doQ (qBin ¢ .or 34 °35 °39 ~v16 ~v19) fun v20 =>
 doQ (aW ¢ (Heap.get (Heap.put H r (some (fa 1 i1)))) (⟨2,41,Heap.gen (Heap.put H r (some (fa 1 i1))) 2 41,0⟩:Ref) 34 21 ~v20) fun v21 =>
 doW (ik ¢ true false (Heap.put H r (some (fa 1 i1))) (⟨2,42,Heap.gen (Heap.put H r (some (fa 1 i1))) 2 42,0⟩:Ref) 43 1 (some [(0,v21)])) fun v22 H1 =>
 doW (cE ¢ true H1 (⟨2,43,Heap.gen H1 2 43,0⟩:Ref) (some 43) (some 43) v2 v22) fun v23 H2 =>
 doW (au ¢ H2 43 ~x2 ~v23) fun v24 H3 =>
 Q (.v (.int .i64 0)) H3
theorem tj(r:Ref)(x2 x17:AV)(H:Heap)(Q:AV→Heap→Prop)(h : ∀g,kP r g x2 x17 H Q):GoX env Tryz.f196 (some r) 2 [.code dB,.beginRound,.code dA] [(2,x2),(17,x17)] H Q:=⟨fun g=>bn (live:=qO) (cut:=qV) (n:=500) (Eq.mp (by kernel_rfl) (h g))⟩
noncomputable def sy:Code:=(Tryz.f197.body).getD .skip
def zm:Nat→Option (List Nat):=fun i=>none
def zF:Nat→Bool:=fun i=>false
def sJ(g:Nat→AV)(x0:AV)(H:Heap)(Q:AV→Heap→Prop):Prop :=
 doQ (qBin ¢ .eql 76 °3 (.const (.slice none 0 0)) ~x0 (some (.v (.slice none 0 0)))) fun v1 =>
 br ~v1 (
 Q (.v (.slice none 0 0)) H) (
 doW (ik ¢ false true H §H 5 76 0 (some [])) fun v2 H1 =>
 doW (cE ¢ true H1 §H1 7 (some 76) (some 76) v2 x0) fun v3 H2 =>
 Q v3 H2)
theorem yW(x0:AV)(H:Heap)(Q:AV→Heap→Prop)(h : ∀g,sJ g x0 H Q):GoL env Tryz.f197 0 [.code sy] [(0,x0)] H Q:=⟨fun g=>bn (live:=zm) (cut:=zF) (n:=500) (Eq.mp (by kernel_rfl) (h g))⟩
noncomputable def fQ:Code:=(Tryz.f107.body).getD .skip
def mJ:Nat→Option (List Nat):=fun i=>none
def mN:Nat→Bool:=fun i=>false
def fR(g:Nat→AV)(x0 x1:AV)(H:Heap)(Q:AV→Heap→Prop):Prop :=
 doW (nRes H §H 2 (qBox ¢ §H 2 76 ~x0)) fun v1 H1 =>
 doW (nRes H1 §H1 3 (qBox ¢ §H1 3 3 ~x1)) fun v2 H2 =>
 doQ (ak ¢ ¥H2 3 ~v2) fun v3 =>
 doQ (qBin ¢ .lss 3 °5 ¤1 ~v3 £1) fun v4 =>
 br ~v4 (
 doQ (qH ¢ 9 (some (.v (.string ⟨#[99,97,110,110,111,116,32,98,101,32,108,101,115,115,32,116,104,97,110,32,49]⟩)))) fun v5 =>
 doQ (none) fun v6 =>
 doQ (tH (.func 145) (some []) (some [v1,v2])) fun v7 =>
 Q v7 H2) (
 doQ (tH (.func 145) (some []) (some [v1,v2])) fun v5 =>
 Q v5 H2)
theorem iY(x0 x1:AV)(H:Heap)(Q:AV→Heap→Prop)(h : ∀g,fR g x0 x1 H Q):GoL env Tryz.f107 0 [.code fQ] [(0,x0),(1,x1)] H Q:=⟨fun g=>bn (live:=mJ) (cut:=mN) (n:=500) (Eq.mp (by kernel_rfl) (h g))⟩
noncomputable def sv:Code:=(Tryz.f87.body).getD .skip
def zl:Nat→Option (List Nat):=fun i=>none
def zE:Nat→Bool:=fun i=>false
def jJ(g:Nat→AV)(x0 x1:AV)(H:Heap)(Q:AV→Heap→Prop):Prop :=
 doQ (aW ¢ ¥H §H 6 76 9 ~x0) fun v1 =>
 doQ (aW ¢ ¥H §H 8 76 9 ~x1) fun v2 =>
 doQ (qBin ¢ .eql 9 °6 °8 ~v1 ~v2) fun v3 =>
 Q v3 H
theorem yV(x0 x1:AV)(H:Heap)(Q:AV→Heap→Prop)(h : ∀g,jJ g x0 x1 H Q):GoL env Tryz.f87 0 [.code sv] [(0,x0),(1,x1)] H Q:=⟨fun g=>bn (live:=zl) (cut:=zE) (n:=500) (Eq.mp (by kernel_rfl) (h g))⟩
noncomputable def jj:Code:=(Tryz.f146.body).getD .skip
def ni:Nat→Option (List Nat):=fun i=>none
def nz:Nat→Bool:=fun i=>false
def jk(g:Nat→AV)(x0 x1:AV)(H:Heap)(Q:AV→Heap→Prop):Prop :=
 doQ (qBin ¢ .lss 3 °5 ¤0 ~x1 £0) fun v1 =>
 br ~v1 (
 doQ (qH ¢ 9 (some (.v (.string ⟨#[99,97,110,110,111,116,32,98,101,32,110,101,103,97,116,105,118,101]⟩)))) fun v2 =>
 doQ (none) fun v3 =>
 doQ (aw ¢ false ¥H §H 10 .cap #[76] [x0]) fun v4 =>
 doQ (aw ¢ false ¥H §H 12 .len #[76] [x0]) fun v5 =>
 doQ (qBin ¢ .sub 3 °10 °12 ~v4 ~v5) fun v6 =>
 doQ (qBin ¢ .sub 3 °8 °13 ~x1 ~v6) fun v7 =>
 doQ (qBin ¢ .gtr 3 °15 ¤0 ~v7 £0) fun v8 =>
 br ~v8 (
 doQ (aw ¢ false ¥H §H 19 .cap #[76] [x0]) fun v9 =>
 doQ (cu ¢ ¥H 76 ~x0 (some none) (oi v9) (some none)) fun v10 =>
 doW (cE ¢ true H §H 22 (some 76) (some 3) v10 v7) fun v11 H1 =>
 doQ (aw ¢ false ¥H1 §H1 24 .len #[76] [x0]) fun v12 =>
 doQ (cu ¢ ¥H1 76 ~v11 (some none) (oi v12) (some none)) fun v13 =>
 Q v13 H1) (
 Q x0 H)) (
 doQ (aw ¢ false ¥H §H 10 .cap #[76] [x0]) fun v2 =>
 doQ (aw ¢ false ¥H §H 12 .len #[76] [x0]) fun v3 =>
 doQ (qBin ¢ .sub 3 °10 °12 ~v2 ~v3) fun v4 =>
 doQ (qBin ¢ .sub 3 °8 °13 ~x1 ~v4) fun v5 =>
 doQ (qBin ¢ .gtr 3 °15 ¤0 ~v5 £0) fun v6 =>
 br ~v6 (
 doQ (aw ¢ false ¥H §H 19 .cap #[76] [x0]) fun v7 =>
 doQ (cu ¢ ¥H 76 ~x0 (some none) (oi v7) (some none)) fun v8 =>
 doW (cE ¢ true H §H 22 (some 76) (some 3) v8 v5) fun v9 H1 =>
 doQ (aw ¢ false ¥H1 §H1 24 .len #[76] [x0]) fun v10 =>
 doQ (cu ¢ ¥H1 76 ~v9 (some none) (oi v10) (some none)) fun v11 =>
 Q v11 H1) (
 Q x0 H))
theorem mX(x0 x1:AV)(H:Heap)(Q:AV→Heap→Prop)(h : ∀g,jk g x0 x1 H Q):GoL env Tryz.f146 0 [.code jj] [(0,x0),(1,x1)] H Q:=⟨fun g=>bn (live:=ni) (cut:=nz) (n:=500) (Eq.mp (by kernel_rfl) (h g))⟩
noncomputable def dX:Code:=(Tryz.f145.body).getD .skip
noncomputable def cF:List Item:=(cb 1 400 [.code dX]).getD []
def ir:Nat→Option (List Nat):=fun i=>cond (Nat.beq i 1) (some [2,4,1,0]) (none)
def iw:Nat→Bool:=fun i=>false
def fB(dep:Nat)(g:Nat→AV)(x0 x1 x2:AV)(H:Heap)(Q:AV→Heap→Prop):Prop :=
 GoL env Tryz.f145 (dep+1) cF [(2,x2),(4,(.v (.int .i64 0))),(1,x1),(0,x0)] H Q
theorem il(dep:Nat)(x0 x1 x2:AV)(H:Heap)(Q:AV→Heap→Prop)(h : ∀g,fB dep g x0 x1 x2 H Q):GoL env Tryz.f145 (dep+1) [.code dX] [(0,x0),(1,x1),(2,x2)] H Q:=⟨fun g=>bn (live:=ir) (cut:=iw) (n:=500) (Eq.mp (by kernel_rfl) (h g))⟩
def cG(dep:Nat)(g:Nat→AV)(x2 x4 x1 x0:AV)(H:Heap)(Q:AV→Heap→Prop):Prop :=
 doQ (ak ¢ ¥H 76 ~x1) fun v1 =>
 doQ (aw ¢ false ¥H (⟨(dep+1),8,Heap.gen H (dep+1) 8,0⟩:Ref) .len #[76] [v1]) fun v2 =>
 doQ (qBin ¢ .lss 3 °6 °8 ~x4 ~v2) fun v3 =>
 br ~v3 (
 doQ (ak ¢ ¥H 3 ~x2) fun v4 =>
 doQ (ak ¢ ¥H 76 ~x1) fun v5 =>
 doQ (cu ¢ ¥H 76 ~v5 (oi x4) (some none) (some none)) fun v6 =>
 doQ (aw ¢ false ¥H (⟨(dep+1),17,Heap.gen H (dep+1) 17,0⟩:Ref) .len #[76] [v6]) fun v7 =>
 doQ (aw ¢ true ¥H (⟨(dep+1),18,Heap.gen H (dep+1) 18,0⟩:Ref) .min #[3,3] [v4,v7]) fun v8 =>
 doQ (ak ¢ ¥H 76 ~x1) fun v9 =>
 doQ (qBin ¢ .add 3 °22 °23 ~x4 ~v8) fun v10 =>
 doQ (qBin ¢ .add 3 °25 °26 ~x4 ~v8) fun v11 =>
 doQ (cu ¢ ¥H 76 ~v9 (oi x4) (oi v10) (oi v11)) fun v12 =>
 doW (cl env true (limf env) (limt env (dep+1)) H (⟨(dep+1),29,Heap.gen H (dep+1) 29,0⟩:Ref) ~x0 [v12]) fun v13 H1 =>
 doQ (qUn ¢ .not ~v13) fun v14 =>
 br ~v14 (
 Q (.v (.tuple #[])) H1) (
 doQ (ak ¢ ¥H1 3 ~x2) fun v15 =>
 doQ (qBin ¢ .add 3 °10 °11 ~x4 ~v15) fun v16 =>
  GoL env Tryz.f145 (dep+1) cF [(2,x2),(4,v16),(1,x1),(0,x0)] H1 Q)) (
 Q (.v (.tuple #[])) H)
theorem de(dep:Nat)(x2 x4 x1 x0:AV)(H:Heap)(Q:AV→Heap→Prop)(h : ∀g,cG dep g x2 x4 x1 x0 H Q):GoL env Tryz.f145 (dep+1) cF [(2,x2),(4,x4),(1,x1),(0,x0)] H Q:=cV fun g=>bn (live:=ir) (cut:=iw) (n:=500) (Eq.mp (by kernel_rfl) (h g))
end Go.Proofs.YtiidajnodhkidaaGreat
