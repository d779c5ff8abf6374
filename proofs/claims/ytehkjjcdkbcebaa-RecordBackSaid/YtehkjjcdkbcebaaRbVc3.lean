/-
  What is to be shown of each function, computed from its code. No statement of a seat is proved here.
-/
import Derived.Test.YtehkjjcdkbcebaaRbTy
set_option linter.unusedVariables false
set_option maxRecDepth 1000000
namespace Go.Proofs.Ytehkjjcdkbcebaa
open Go.Ab
noncomputable def bd_op_Put : Code := (Try.f14.body).getD .skip
def lv_op_Put : Nat → Option (List Nat) := fun i => none
def cu_op_Put : Nat → Bool := fun i => false
def VC_op_Put (g : Nat → AV) (x0 : AV) (H : Heap) (Q : AV → Heap → Prop) : Prop :=
 doW (nRes H (⟨0, 1, Heap.gen H 0 1, 0⟩ : Ref) (qBox env.P (⟨0, 1, Heap.gen H 0 1, 0⟩ : Ref) 33 (some x0))) fun v1 H1 =>
 doQ (qLoad env.P (Heap.get H1) 33 (some v1)) fun v2 =>
 doW (callRes env true (limf env) (limt env 0) H1 (⟨0, 16, Heap.gen H1 0 16, 0⟩ : Ref) (some (.fn (.func 21) [] [])) [v2]) fun v3 H2 =>
 doQ (qBin env.P .neq 36 (.tmp 17) (.const (.int .i64 0)) (some v3) (some (.v (.int .i64 0)))) fun v4 =>
 br (some v4) (
 Q (.tup [(.v (.slice none 0 0)), v3]) H2) (
 doQ (qFieldAddr env.P 33 (some v1) 1) fun v5 =>
 doQ (qLoad env.P (Heap.get H2) 26 (some v5)) fun v6 =>
 doW (callRes env true (limf env) (limt env 0) H2 (⟨0, 23, Heap.gen H2 0 23, 0⟩ : Ref) (some (.fn (.func 51) [] [])) [v6]) fun v7 H3 =>
 doQ (qExtract (some v7) 0) fun v8 =>
 doQ (qExtract (some v7) 1) fun v9 =>
 doQ (qFieldAddr env.P 33 (some v1) 3) fun v10 =>
 doQ (qFieldAddr env.P 30 (some v10) 0) fun v11 =>
 doQ (qLoad env.P (Heap.get H3) 28 (some v11)) fun v12 =>
 doW (callRes env true (limf env) (limt env 0) H3 (⟨0, 30, Heap.gen H3 0 30, 0⟩ : Ref) (some (.fn (.func 52) [] [])) [v12]) fun v13 H4 =>
 doQ (qExtract (some v13) 0) fun v14 =>
 doQ (qExtract (some v13) 1) fun v15 =>
 doQ (qFieldAddr env.P 33 (some v1) 0) fun v16 =>
 doQ (qLoad env.P (Heap.get H4) 5 (some v16)) fun v17 =>
 doW (bsRes env.P false true H4 (⟨0, 35, Heap.gen H4 0 35, 0⟩ : Ref) 34 1 (some [(0, v17)])) fun v18 H5 =>
 doQ (qFieldAddr env.P 33 (some v1) 2) fun v19 =>
 doQ (qLoad env.P (Heap.get H5) 3 (some v19)) fun v20 =>
 doQ (qBin env.P .shr 3 (.tmp 38) (.const (.int .u64 16)) (some v20) (some (.v (.int .u64 16)))) fun v21 =>
 doQ (qConvert env.P (Heap.get H5) (⟨0, 40, Heap.gen H5 0 40, 0⟩ : Ref) 3 5 (some v21)) fun v22 =>
 doQ (qFieldAddr env.P 33 (some v1) 2) fun v23 =>
 doQ (qLoad env.P (Heap.get H5) 3 (some v23)) fun v24 =>
 doQ (qBin env.P .shr 3 (.tmp 42) (.const (.int .u64 8)) (some v24) (some (.v (.int .u64 8)))) fun v25 =>
 doQ (qConvert env.P (Heap.get H5) (⟨0, 44, Heap.gen H5 0 44, 0⟩ : Ref) 3 5 (some v25)) fun v26 =>
 doQ (qFieldAddr env.P 33 (some v1) 2) fun v27 =>
 doQ (qLoad env.P (Heap.get H5) 3 (some v27)) fun v28 =>
 doQ (qConvert env.P (Heap.get H5) (⟨0, 47, Heap.gen H5 0 47, 0⟩ : Ref) 3 5 (some v28)) fun v29 =>
 doW (bsRes env.P false true H5 (⟨0, 48, Heap.gen H5 0 48, 0⟩ : Ref) 34 3 (some [(0, v22), (1, v26), (2, v29)])) fun v30 H6 =>
 doQ (qFieldAddr env.P 33 (some v1) 3) fun v31 =>
 doQ (qFieldAddr env.P 30 (some v31) 1) fun v32 =>
 doQ (qLoad env.P (Heap.get H6) 3 (some v32)) fun v33 =>
 doQ (qConvert env.P (Heap.get H6) (⟨0, 53, Heap.gen H6 0 53, 0⟩ : Ref) 3 5 (some v33)) fun v34 =>
 doW (bsRes env.P false true H6 (⟨0, 54, Heap.gen H6 0 54, 0⟩ : Ref) 34 1 (some [(0, v34)])) fun v35 H7 =>
 doW (bsRes env.P false true H7 (⟨0, 55, Heap.gen H7 0 55, 0⟩ : Ref) 76 5 (some [(0, v18), (1, v8), (2, v30), (3, v14), (4, v35)])) fun v36 H8 =>
 doW (callRes env true (limf env) (limt env 0) H8 (⟨0, 56, Heap.gen H8 0 56, 0⟩ : Ref) (some (.fn (.func 53) [] [])) [v36]) fun v37 H9 =>
 doQ (qFieldAddr env.P 33 (some v1) 0) fun v38 =>
 doQ (qLoad env.P (Heap.get H9) 5 (some v38)) fun v39 =>
 doQ (qBin env.P .eql 5 (.tmp 58) (.const (.int .u8 1)) (some v39) (some (a8 1))) fun v40 =>
 br (some v40) (
 doW (nRes H9 (⟨0, 61, Heap.gen H9 0 61, 0⟩ : Ref) (qMake env.P (⟨0, 61, Heap.gen H9 0 61, 0⟩ : Ref) 34 (some (.v (.int .i64 13))) (some (.v (.int .i64 13))))) fun v41 H10 =>
 doQ (qFieldAddr env.P 33 (some v1) 4) fun v42 =>
 doQ (qLoad env.P (Heap.get H10) 28 (some v42)) fun v43 =>
 doQ (qBuild env.P 28 (some [])) fun v44 =>
 doQ (qBin env.P .neq 28 (.tmp 63) (.tmp 64) (some v43) (some v44)) fun v45 =>
 br (some v45) (
 doQ (qFieldAddr env.P 33 (some v1) 4) fun v46 =>
 doQ (qLoad env.P (Heap.get H10) 28 (some v46)) fun v47 =>
 doW (callRes env true (limf env) (limt env 0) H10 (⟨0, 69, Heap.gen H10 0 69, 0⟩ : Ref) (some (.fn (.func 52) [] [])) [v47]) fun v48 H11 =>
 doQ (qExtract (some v48) 0) fun v49 =>
 doQ (qExtract (some v48) 1) fun v50 =>
 doQ (qFieldAddr env.P 33 (some v1) 6) fun v51 =>
 doQ (qLoad env.P (Heap.get H11) 31 (some v51)) fun v52 =>
 doW (callRes env true (limf env) (limt env 0) H11 (⟨0, 75, Heap.gen H11 0 75, 0⟩ : Ref) (some (.fn (.func 54) [] [])) [v52]) fun v53 H12 =>
 doQ (qExtract (some v53) 0) fun v54 =>
 doQ (qExtract (some v53) 1) fun v55 =>
 doW (bsRes env.P false true H12 (⟨0, 81, Heap.gen H12 0 81, 0⟩ : Ref) 76 3 (some [(0, v37), (1, v49), (2, v54)])) fun v56 H13 =>
 doW (callRes env true (limf env) (limt env 0) H13 (⟨0, 82, Heap.gen H13 0 82, 0⟩ : Ref) (some (.fn (.func 53) [] [])) [v56]) fun v57 H14 =>
 Q (.tup [v57, (.v (.int .i64 0))]) H14) (
 doQ (qFieldAddr env.P 33 (some v1) 6) fun v46 =>
 doQ (qLoad env.P (Heap.get H10) 31 (some v46)) fun v47 =>
 doW (callRes env true (limf env) (limt env 0) H10 (⟨0, 75, Heap.gen H10 0 75, 0⟩ : Ref) (some (.fn (.func 54) [] [])) [v47]) fun v48 H11 =>
 doQ (qExtract (some v48) 0) fun v49 =>
 doQ (qExtract (some v48) 1) fun v50 =>
 doW (bsRes env.P false true H11 (⟨0, 81, Heap.gen H11 0 81, 0⟩ : Ref) 76 3 (some [(0, v37), (1, v41), (2, v49)])) fun v51 H12 =>
 doW (callRes env true (limf env) (limt env 0) H12 (⟨0, 82, Heap.gen H12 0 82, 0⟩ : Ref) (some (.fn (.func 53) [] [])) [v51]) fun v52 H13 =>
 Q (.tup [v52, (.v (.int .i64 0))]) H13)) (
 doQ (qBin env.P .eql 5 (.tmp 58) (.const (.int .u8 3)) (some v39) (some (a8 3))) fun v41 =>
 br (some v41) (
 doQ (qFieldAddr env.P 33 (some v1) 5) fun v42 =>
 doQ (qLoad env.P (Heap.get H9) 24 (some v42)) fun v43 =>
 doQ (qBuild env.P 26 (some [(0, v43)])) fun v44 =>
 doW (callRes env true (limf env) (limt env 0) H9 (⟨0, 89, Heap.gen H9 0 89, 0⟩ : Ref) (some (.fn (.func 51) [] [])) [v44]) fun v45 H10 =>
 doQ (qExtract (some v45) 0) fun v46 =>
 doQ (qExtract (some v45) 1) fun v47 =>
 doQ (qSlice env.P (Heap.get H10) 34 (some v46) (some none) (oi (.v (.int .i64 5))) (some none)) fun v48 =>
 doW (appRes env.P true H10 (⟨0, 95, Heap.gen H10 0 95, 0⟩ : Ref) (some 34) (some 34) v37 v48) fun v49 H11 =>
 Q (.tup [v49, (.v (.int .i64 0))]) H11) (
 Q (.tup [v37, (.v (.int .i64 0))]) H9)))
theorem vq_op_Put : VC_op_Put = fun g x0 H Q => wp env Try.f14 none 0 lv_op_Put cu_op_Put Q 500 [.code bd_op_Put] (ofL g [(0, x0)]) H := by kernel_rfl
theorem vc_op_Put (x0 : AV) (H : Heap) (Q : AV → Heap → Prop) (h : ∀ g, VC_op_Put g x0 H Q) : GoL env Try.f14 0 [.code bd_op_Put] [(0, x0)] H Q := ⟨fun g => wp_ok (by have h := h g; rw [vq_op_Put] at h; exact h)⟩
noncomputable def bd_op_Get : Code := (Try.f15.body).getD .skip
def lv_op_Get : Nat → Option (List Nat) := fun i => none
def cu_op_Get : Nat → Bool := fun i => false
def VC_op_Get (g : Nat → AV) (x0 : AV) (H : Heap) (Q : AV → Heap → Prop) : Prop :=
 doW (nRes H (⟨0, 2, Heap.gen H 0 2, 0⟩ : Ref) (qAlloc env.P (⟨0, 2, Heap.gen H 0 2, 0⟩ : Ref) 33)) fun v1 H1 =>
 doQ (qBuild env.P 101 (some [(0, x0)])) fun v2 =>
 doW (nRes H1 (⟨0, 17, Heap.gen H1 0 17, 0⟩ : Ref) (qBox env.P (⟨0, 17, Heap.gen H1 0 17, 0⟩ : Ref) 101 (some v2))) fun v3 H2 =>
 doQ (qFunc (.func 55) (some [v3]) (some [])) fun v4 =>
 doQ (qFunc (.func 56) (some [v3]) (some [])) fun v5 =>
 doW (callRes env true (limf env) (limt env 0) H2 (⟨0, 23, Heap.gen H2 0 23, 0⟩ : Ref) (some v4) [(.v (.int .i64 1))]) fun v6 H3 =>
 doQ (qIndexAddr env.P (Heap.get H3) 34 (some v6) (some (.v (.int .i64 0)))) fun v7 =>
 doQ (qLoad env.P (Heap.get H3) 5 (some v7)) fun v8 =>
 doQ (qFieldAddr env.P 33 (some v1) 0) fun v9 =>
 doW (wStore env.P H3 5 (some v9) (some v8)) fun v10 H4 =>
 doW (callRes env true (limf env) (limt env 0) H4 (⟨0, 29, Heap.gen H4 0 29, 0⟩ : Ref) (some v4) [(.v (.int .i64 6))]) fun v11 H5 =>
 doW (callRes env true (limf env) (limt env 0) H5 (⟨0, 30, Heap.gen H5 0 30, 0⟩ : Ref) (some (.fn (.func 57) [] [])) [v11]) fun v12 H6 =>
 doQ (qExtract (some v12) 0) fun v13 =>
 doQ (qExtract (some v12) 1) fun v14 =>
 doW (nRes H6 (⟨0, 8, Heap.gen H6 0 8, 0⟩ : Ref) (qAlloc env.P (⟨0, 8, Heap.gen H6 0 8, 0⟩ : Ref) 26)) fun v15 H7 =>
 doW (wStore env.P H7 26 (some v15) (some v13)) fun v16 H8 =>
 doW (callRes env true (limf env) (limt env 0) H8 (⟨0, 34, Heap.gen H8 0 34, 0⟩ : Ref) (some v4) [(.v (.int .i64 3))]) fun v17 H9 =>
 doQ (qLoad env.P (Heap.get H9) 26 (some v15)) fun v18 =>
 doQ (qIndexAddr env.P (Heap.get H9) 34 (some v17) (some (.v (.int .i64 0)))) fun v19 =>
 doQ (qLoad env.P (Heap.get H9) 5 (some v19)) fun v20 =>
 doQ (qConvert env.P (Heap.get H9) (⟨0, 39, Heap.gen H9 0 39, 0⟩ : Ref) 5 3 (some v20)) fun v21 =>
 doQ (qBin env.P .shl 3 (.tmp 39) (.const (.int .u64 16)) (some v21) (some (.v (.int .u64 16)))) fun v22 =>
 doQ (qIndexAddr env.P (Heap.get H9) 34 (some v17) (some (.v (.int .i64 1)))) fun v23 =>
 doQ (qLoad env.P (Heap.get H9) 5 (some v23)) fun v24 =>
 doQ (qConvert env.P (Heap.get H9) (⟨0, 44, Heap.gen H9 0 44, 0⟩ : Ref) 5 3 (some v24)) fun v25 =>
 doQ (qBin env.P .shl 3 (.tmp 44) (.const (.int .u64 8)) (some v25) (some (.v (.int .u64 8)))) fun v26 =>
 doQ (qBin env.P .or 3 (.tmp 40) (.tmp 45) (some v22) (some v26)) fun v27 =>
 doQ (qIndexAddr env.P (Heap.get H9) 34 (some v17) (some (.v (.int .i64 2)))) fun v28 =>
 doQ (qLoad env.P (Heap.get H9) 5 (some v28)) fun v29 =>
 doQ (qConvert env.P (Heap.get H9) (⟨0, 50, Heap.gen H9 0 50, 0⟩ : Ref) 5 3 (some v29)) fun v30 =>
 doQ (qBin env.P .or 3 (.tmp 46) (.tmp 50) (some v27) (some v30)) fun v31 =>
 doQ (qFieldAddr env.P 33 (some v1) 1) fun v32 =>
 doW (wStore env.P H9 26 (some v32) (some v18)) fun v33 H10 =>
 doQ (qFieldAddr env.P 33 (some v1) 2) fun v34 =>
 doW (wStore env.P H10 3 (some v34) (some v31)) fun v35 H11 =>
  apartV [(v17, v32), (v19, v32), (v20, v32), (v17, v32), (v23, v32), (v24, v32), (v17, v32), (v28, v32), (v29, v32)] [v32, v34] [] H11 ∧
 (doW (callRes env true (limf env) (limt env 0) H11 (⟨0, 55, Heap.gen H11 0 55, 0⟩ : Ref) (some v5) [(.v (.bool false))]) fun v36 H12 =>
 doQ (qFieldAddr env.P 33 (some v1) 3) fun v37 =>
 doQ (qFieldAddr env.P 30 (some v37) 0) fun v38 =>
 doW (wStore env.P H12 28 (some v38) (some v36)) fun v39 H13 =>
 doW (callRes env true (limf env) (limt env 0) H13 (⟨0, 59, Heap.gen H13 0 59, 0⟩ : Ref) (some v4) [(.v (.int .i64 1))]) fun v40 H14 =>
 doQ (qIndexAddr env.P (Heap.get H14) 34 (some v40) (some (.v (.int .i64 0)))) fun v41 =>
 doQ (qLoad env.P (Heap.get H14) 5 (some v41)) fun v42 =>
 doQ (qConvert env.P (Heap.get H14) (⟨0, 62, Heap.gen H14 0 62, 0⟩ : Ref) 5 3 (some v42)) fun v43 =>
 doQ (qFieldAddr env.P 33 (some v1) 3) fun v44 =>
 doQ (qFieldAddr env.P 30 (some v44) 1) fun v45 =>
 doW (wStore env.P H14 3 (some v45) (some v43)) fun v46 H15 =>
 doQ (qNil (some v3)) fun v47 =>
 doQ (qFieldAddr env.P 101 (some v47) 2) fun v48 =>
 doQ (qLoad env.P (Heap.get H15) 4 (some v48)) fun v49 =>
 gQ v49 false (qVal (some v14)) fun v50 =>
 gQ v49 false (qBin env.P .neq 36 (.tmp 70) (.const (.int .i64 0)) (some v50) (some (.v (.int .i64 0)))) fun v51 =>
 doQ (pickF (some v49) (some (.v (.bool true))) (some v51)) fun v52 =>
 gQ v52 false (qFieldAddr env.P 33 (some v1) 3) fun v53 =>
 gQ v52 false (qFieldAddr env.P 30 (some v53) 1) fun v54 =>
 gQ v52 false (qLoad env.P (Heap.get H15) 3 (some v54)) fun v55 =>
 gQ v52 false (qBin env.P .gtr 3 (.tmp 76) (.const (.int .i64 64)) (some v55) (some (.v (.int .i64 64)))) fun v56 =>
 doQ (pickF (some v52) (some (.v (.bool true))) (some v56)) fun v57 =>
 br (some v57) (
 doQ (qBuild env.P 33 (some [])) fun v58 =>
 doW (wStore env.P H15 33 (some v1) (some v58)) fun v59 H16 =>
 doQ (readCell env.P H16 v1 33) fun v60 =>
 Q (.tup [v60, (.v (.int .i64 0)), (.v (.int .i64 8))]) H16) (
 doQ (qFieldAddr env.P 33 (some v1) 0) fun v58 =>
 doQ (qLoad env.P (Heap.get H15) 5 (some v58)) fun v59 =>
 doQ (qBin env.P .eql 5 (.tmp 81) (.const (.int .u8 1)) (some v59) (some (a8 1))) fun v60 =>
 br (some v60) (
 doW (callRes env true (limf env) (limt env 0) H15 (⟨0, 85, Heap.gen H15 0 85, 0⟩ : Ref) (some v5) [(.v (.bool true))]) fun v61 H16 =>
 doQ (qFieldAddr env.P 33 (some v1) 4) fun v62 =>
 doW (wStore env.P H16 28 (some v62) (some v61)) fun v63 H17 =>
 doQ (qFieldAddr env.P 33 (some v1) 3) fun v64 =>
 doQ (qFieldAddr env.P 30 (some v64) 1) fun v65 =>
 doQ (qLoad env.P (Heap.get H17) 3 (some v65)) fun v66 =>
 doQ (qBin env.P .mul 3 (.const (.int .i64 4)) (.tmp 91) (some (.v (.int .i64 4))) (some v66)) fun v67 =>
 doW (callRes env true (limf env) (limt env 0) H17 (⟨0, 93, Heap.gen H17 0 93, 0⟩ : Ref) (some v4) [v67]) fun v68 H18 =>
 doW (callRes env true (limf env) (limt env 0) H18 (⟨0, 94, Heap.gen H18 0 94, 0⟩ : Ref) (some (.fn (.func 58) [] [])) [v68]) fun v69 H19 =>
 doQ (qExtract (some v69) 0) fun v70 =>
 doQ (qExtract (some v69) 1) fun v71 =>
 doQ (qNil (some v3)) fun v72 =>
 doQ (qFieldAddr env.P 101 (some v72) 2) fun v73 =>
 doQ (qLoad env.P (Heap.get H19) 4 (some v73)) fun v74 =>
 gQ v74 false (qVal (some v71)) fun v75 =>
 gQ v74 false (qBin env.P .neq 36 (.tmp 104) (.const (.int .i64 0)) (some v75) (some (.v (.int .i64 0)))) fun v76 =>
 doQ (pickF (some v74) (some (.v (.bool true))) (some v76)) fun v77 =>
 doQ (qFieldAddr env.P 33 (some v1) 6) fun v78 =>
 doW (wStore env.P H19 31 (some v78) (some v70)) fun v79 H20 =>
 doQ (qNil (some v3)) fun v80 =>
 doQ (qFieldAddr env.P 101 (some v80) 2) fun v81 =>
 doW (wStore env.P H20 4 (some v81) (some v77)) fun v82 H21 =>
 doQ (qNil (some v3)) fun v83 =>
 doQ (qFieldAddr env.P 101 (some v83) 2) fun v84 =>
 doQ (qLoad env.P (Heap.get H21) 4 (some v84)) fun v85 =>
 gQ v85 false (qLoad env.P (Heap.get H21) 33 (some v1)) fun v86 =>
 gW v85 false H21 (callRes env true (limf env) (limt env 0) H21 (⟨0, 141, Heap.gen H21 0 141, 0⟩ : Ref) (some (.fn (.func 21) [] [])) [v86]) fun v87 H22 =>
 gQ v85 false (qBin env.P .neq 36 (.tmp 141) (.const (.int .i64 0)) (some v87) (some (.v (.int .i64 0)))) fun v88 =>
 doQ (pickF (some v85) (some (.v (.bool true))) (some v88)) fun v89 =>
 br (some v89) (
 doQ (qBuild env.P 33 (some [])) fun v90 =>
 doW (wStore env.P H22 33 (some v1) (some v90)) fun v91 H23 =>
 doQ (readCell env.P H23 v1 33) fun v92 =>
 Q (.tup [v92, (.v (.int .i64 0)), (.v (.int .i64 8))]) H23) (
 doQ (qLoad env.P (Heap.get H22) 33 (some v1)) fun v90 =>
 doQ (qNil (some v3)) fun v91 =>
 doQ (qFieldAddr env.P 101 (some v91) 1) fun v92 =>
 doQ (qLoad env.P (Heap.get H22) 3 (some v92)) fun v93 =>
 doW (wStore env.P H22 33 (some v1) (some v90)) fun v94 H23 =>
     apartV [(v92, v1)] [v1] [] H23 ∧
 (doQ (readCell env.P H23 v1 33) fun v95 =>
 Q (.tup [v95, v93, (.v (.int .i64 0))]) H23))) (
 doQ (qBin env.P .eql 5 (.tmp 81) (.const (.int .u8 3)) (some v59) (some (a8 3))) fun v61 =>
 br (some v61) (
 doW (callRes env true (limf env) (limt env 0) H15 (⟨0, 114, Heap.gen H15 0 114, 0⟩ : Ref) (some v4) [(.v (.int .i64 5))]) fun v62 H16 =>
 doW (callRes env true (limf env) (limt env 0) H16 (⟨0, 115, Heap.gen H16 0 115, 0⟩ : Ref) (some (.fn (.func 59) [] [])) [v62]) fun v63 H17 =>
 doW (bsRes env.P false true H17 (⟨0, 116, Heap.gen H17 0 116, 0⟩ : Ref) 34 1 (some [(0, (a8 0))])) fun v64 H18 =>
 doW (appRes env.P true H18 (⟨0, 117, Heap.gen H18 0 117, 0⟩ : Ref) (some 34) (some 34) v63 v64) fun v65 H19 =>
 doW (callRes env true (limf env) (limt env 0) H19 (⟨0, 118, Heap.gen H19 0 118, 0⟩ : Ref) (some (.fn (.func 57) [] [])) [v65]) fun v66 H20 =>
 doQ (qExtract (some v66) 0) fun v67 =>
 doQ (qExtract (some v66) 1) fun v68 =>
 doW (nRes H20 (⟨0, 13, Heap.gen H20 0 13, 0⟩ : Ref) (qAlloc env.P (⟨0, 13, Heap.gen H20 0 13, 0⟩ : Ref) 26)) fun v69 H21 =>
 doW (wStore env.P H21 26 (some v69) (some v67)) fun v70 H22 =>
 doQ (qFieldAddr env.P 26 (some v69) 0) fun v71 =>
 doQ (qLoad env.P (Heap.get H22) 24 (some v71)) fun v72 =>
 doQ (qNil (some v3)) fun v73 =>
 doQ (qFieldAddr env.P 101 (some v73) 2) fun v74 =>
 doQ (qLoad env.P (Heap.get H22) 4 (some v74)) fun v75 =>
 gQ v75 false (qVal (some v68)) fun v76 =>
 gQ v75 false (qBin env.P .neq 36 (.tmp 129) (.const (.int .i64 0)) (some v76) (some (.v (.int .i64 0)))) fun v77 =>
 doQ (pickF (some v75) (some (.v (.bool true))) (some v77)) fun v78 =>
 doQ (qFieldAddr env.P 33 (some v1) 5) fun v79 =>
 doW (wStore env.P H22 24 (some v79) (some v72)) fun v80 H23 =>
 doQ (qNil (some v3)) fun v81 =>
 doQ (qFieldAddr env.P 101 (some v81) 2) fun v82 =>
 doW (wStore env.P H23 4 (some v82) (some v78)) fun v83 H24 =>
 doQ (qNil (some v3)) fun v84 =>
 doQ (qFieldAddr env.P 101 (some v84) 2) fun v85 =>
 doQ (qLoad env.P (Heap.get H24) 4 (some v85)) fun v86 =>
 gQ v86 false (qLoad env.P (Heap.get H24) 33 (some v1)) fun v87 =>
 gW v86 false H24 (callRes env true (limf env) (limt env 0) H24 (⟨0, 141, Heap.gen H24 0 141, 0⟩ : Ref) (some (.fn (.func 21) [] [])) [v87]) fun v88 H25 =>
 gQ v86 false (qBin env.P .neq 36 (.tmp 141) (.const (.int .i64 0)) (some v88) (some (.v (.int .i64 0)))) fun v89 =>
 doQ (pickF (some v86) (some (.v (.bool true))) (some v89)) fun v90 =>
 br (some v90) (
 doQ (qBuild env.P 33 (some [])) fun v91 =>
 doW (wStore env.P H25 33 (some v1) (some v91)) fun v92 H26 =>
 doQ (readCell env.P H26 v1 33) fun v93 =>
 Q (.tup [v93, (.v (.int .i64 0)), (.v (.int .i64 8))]) H26) (
 doQ (qLoad env.P (Heap.get H25) 33 (some v1)) fun v91 =>
 doQ (qNil (some v3)) fun v92 =>
 doQ (qFieldAddr env.P 101 (some v92) 1) fun v93 =>
 doQ (qLoad env.P (Heap.get H25) 3 (some v93)) fun v94 =>
 doW (wStore env.P H25 33 (some v1) (some v91)) fun v95 H26 =>
      apartV [(v93, v1)] [v1] [] H26 ∧
 (doQ (readCell env.P H26 v1 33) fun v96 =>
 Q (.tup [v96, v94, (.v (.int .i64 0))]) H26))) (
 doQ (qNil (some v3)) fun v62 =>
 doQ (qFieldAddr env.P 101 (some v62) 2) fun v63 =>
 doQ (qLoad env.P (Heap.get H15) 4 (some v63)) fun v64 =>
 gQ v64 false (qLoad env.P (Heap.get H15) 33 (some v1)) fun v65 =>
 gW v64 false H15 (callRes env true (limf env) (limt env 0) H15 (⟨0, 141, Heap.gen H15 0 141, 0⟩ : Ref) (some (.fn (.func 21) [] [])) [v65]) fun v66 H16 =>
 gQ v64 false (qBin env.P .neq 36 (.tmp 141) (.const (.int .i64 0)) (some v66) (some (.v (.int .i64 0)))) fun v67 =>
 doQ (pickF (some v64) (some (.v (.bool true))) (some v67)) fun v68 =>
 br (some v68) (
 doQ (qBuild env.P 33 (some [])) fun v69 =>
 doW (wStore env.P H16 33 (some v1) (some v69)) fun v70 H17 =>
 doQ (readCell env.P H17 v1 33) fun v71 =>
 Q (.tup [v71, (.v (.int .i64 0)), (.v (.int .i64 8))]) H17) (
 doQ (qLoad env.P (Heap.get H16) 33 (some v1)) fun v69 =>
 doQ (qNil (some v3)) fun v70 =>
 doQ (qFieldAddr env.P 101 (some v70) 1) fun v71 =>
 doQ (qLoad env.P (Heap.get H16) 3 (some v71)) fun v72 =>
 doW (wStore env.P H16 33 (some v1) (some v69)) fun v73 H17 =>
      apartV [(v71, v1)] [v1] [] H17 ∧
 (doQ (readCell env.P H17 v1 33) fun v74 =>
 Q (.tup [v74, v72, (.v (.int .i64 0))]) H17))))))
theorem vq_op_Get : VC_op_Get = fun g x0 H Q => wp env Try.f15 none 0 lv_op_Get cu_op_Get Q 500 [.code bd_op_Get] (ofL g [(0, x0)]) H := by kernel_rfl
theorem vc_op_Get (x0 : AV) (H : Heap) (Q : AV → Heap → Prop) (h : ∀ g, VC_op_Get g x0 H Q) : GoL env Try.f15 0 [.code bd_op_Get] [(0, x0)] H Q := ⟨fun g => wp_ok (by have h := h g; rw [vq_op_Get] at h; exact h)⟩
noncomputable def bd_slices_Concat___byte_byte_ : Code := (Try.f53.body).getD .skip
noncomputable def hd_slices_Concat___byte_byte__3 : List Item := (findLoop 3 400 [.code bd_slices_Concat___byte_byte_]).getD []
noncomputable def hd_slices_Concat___byte_byte__11 : List Item := (findLoop 11 400 [.code bd_slices_Concat___byte_byte_]).getD []
def lv_slices_Concat___byte_byte_ : Nat → Option (List Nat) := fun i => cond (Nat.beq i 3) (some [11, 3, 9, 0, 10]) (cond (Nat.beq i 11) (some [27, 6, 25, 26]) (none))
def cu_slices_Concat___byte_byte_ : Nat → Bool := fun i => false
def VC_slices_Concat___byte_byte_ (g : Nat → AV) (x0 : AV) (H : Heap) (Q : AV → Heap → Prop) : Prop :=
 doQ (qBuiltin env.P false (Heap.get H) (⟨0, 10, Heap.gen H 0 10, 0⟩ : Ref) .len #[76] [x0]) fun v1 =>
  GoL env Try.f53 0 hd_slices_Concat___byte_byte__3 [(11, (.v (.int .i64 0))), (3, (.v (.int .i64 0))), (9, x0), (0, x0), (10, v1)] H Q
theorem vq_slices_Concat___byte_byte_ : VC_slices_Concat___byte_byte_ = fun g x0 H Q => wp env Try.f53 none 0 lv_slices_Concat___byte_byte_ cu_slices_Concat___byte_byte_ Q 500 [.code bd_slices_Concat___byte_byte_] (ofL g [(0, x0)]) H := by kernel_rfl
theorem vc_slices_Concat___byte_byte_ (x0 : AV) (H : Heap) (Q : AV → Heap → Prop) (h : ∀ g, VC_slices_Concat___byte_byte_ g x0 H Q) : GoL env Try.f53 0 [.code bd_slices_Concat___byte_byte_] [(0, x0)] H Q := ⟨fun g => wp_ok (by have h := h g; rw [vq_slices_Concat___byte_byte_] at h; exact h)⟩
def VC_slices_Concat___byte_byte__3 (g : Nat → AV) (x11 x3 x9 x0 x10 : AV) (H : Heap) (Q : AV → Heap → Prop) : Prop :=
 doQ (qBin env.P .lss 3 (.tmp 11) (.tmp 10) (some x11) (some x10)) fun v1 =>
 br (some v1) (
 doQ (qIndexAddr env.P (Heap.get H) 76 (some x9) (some x11)) fun v2 =>
 doQ (qLoad env.P (Heap.get H) 34 (some v2)) fun v3 =>
 doQ (qBuiltin env.P false (Heap.get H) (⟨0, 17, Heap.gen H 0 17, 0⟩ : Ref) .len #[34] [v3]) fun v4 =>
 doQ (qBin env.P .add 3 (.tmp 15) (.tmp 17) (some x3) (some v4)) fun v5 =>
 doQ (qBin env.P .lss 3 (.tmp 19) (.const (.int .i64 0)) (some v5) (some (.v (.int .i64 0)))) fun v6 =>
 br (some v6) (
 doQ (qIface env.P 9 (some (.v (.string ⟨#[108, 101, 110, 32, 111, 117, 116, 32, 111, 102, 32, 114, 97, 110, 103, 101]⟩)))) fun v7 =>
 doQ (none) fun v8 =>
 doQ (qBin env.P .add 3 (.tmp 11) (.const (.int .i64 1)) (some x11) (some (.v (.int .i64 1)))) fun v9 =>
    GoL env Try.f53 0 hd_slices_Concat___byte_byte__3 [(11, v9), (3, v5), (9, x9), (0, x0), (10, x10)] H Q) (
 doQ (qBin env.P .add 3 (.tmp 11) (.const (.int .i64 1)) (some x11) (some (.v (.int .i64 1)))) fun v7 =>
    GoL env Try.f53 0 hd_slices_Concat___byte_byte__3 [(11, v7), (3, v5), (9, x9), (0, x0), (10, x10)] H Q)) (
 doW (callRes env true (limf env) (limt env 0) H (⟨0, 24, Heap.gen H 0 24, 0⟩ : Ref) (some (.fn (.func 85) [] [])) [(.v (.slice none 0 0)), x3]) fun v2 H1 =>
 doQ (qBuiltin env.P false (Heap.get H1) (⟨0, 26, Heap.gen H1 0 26, 0⟩ : Ref) .len #[76] [x0]) fun v3 =>
   GoL env Try.f53 0 hd_slices_Concat___byte_byte__11 [(27, (.v (.int .i64 0))), (6, v2), (25, x0), (26, v3)] H1 Q)
theorem vq_slices_Concat___byte_byte__3 : VC_slices_Concat___byte_byte__3 = fun g x11 x3 x9 x0 x10 H Q => wp env Try.f53 none 0 lv_slices_Concat___byte_byte_ cu_slices_Concat___byte_byte_ Q 500 (bodyOf hd_slices_Concat___byte_byte__3) (ofL g [(11, x11), (3, x3), (9, x9), (0, x0), (10, x10)]) H := by kernel_rfl
theorem vc_slices_Concat___byte_byte__3 (x11 x3 x9 x0 x10 : AV) (H : Heap) (Q : AV → Heap → Prop) (h : ∀ g, VC_slices_Concat___byte_byte__3 g x11 x3 x9 x0 x10 H Q) : GoL env Try.f53 0 hd_slices_Concat___byte_byte__3 [(11, x11), (3, x3), (9, x9), (0, x0), (10, x10)] H Q := goL_body fun g => wp_ok (by have h := h g; rw [vq_slices_Concat___byte_byte__3] at h; exact h)
def VC_slices_Concat___byte_byte__11 (g : Nat → AV) (x27 x6 x25 x26 : AV) (H : Heap) (Q : AV → Heap → Prop) : Prop :=
 doQ (qBin env.P .lss 3 (.tmp 27) (.tmp 26) (some x27) (some x26)) fun v1 =>
 br (some v1) (
 doQ (qIndexAddr env.P (Heap.get H) 76 (some x25) (some x27)) fun v2 =>
 doQ (qLoad env.P (Heap.get H) 34 (some v2)) fun v3 =>
 doW (appRes env.P true H (⟨0, 33, Heap.gen H 0 33, 0⟩ : Ref) (some 34) (some 34) x6 v3) fun v4 H1 =>
 doQ (qBin env.P .add 3 (.tmp 27) (.const (.int .i64 1)) (some x27) (some (.v (.int .i64 1)))) fun v5 =>
   GoL env Try.f53 0 hd_slices_Concat___byte_byte__11 [(27, v5), (6, v4), (25, x25), (26, x26)] H1 Q) (
 Q x6 H)
theorem vq_slices_Concat___byte_byte__11 : VC_slices_Concat___byte_byte__11 = fun g x27 x6 x25 x26 H Q => wp env Try.f53 none 0 lv_slices_Concat___byte_byte_ cu_slices_Concat___byte_byte_ Q 500 (bodyOf hd_slices_Concat___byte_byte__11) (ofL g [(27, x27), (6, x6), (25, x25), (26, x26)]) H := by kernel_rfl
theorem vc_slices_Concat___byte_byte__11 (x27 x6 x25 x26 : AV) (H : Heap) (Q : AV → Heap → Prop) (h : ∀ g, VC_slices_Concat___byte_byte__11 g x27 x6 x25 x26 H Q) : GoL env Try.f53 0 hd_slices_Concat___byte_byte__11 [(27, x27), (6, x6), (25, x25), (26, x26)] H Q := goL_body fun g => wp_ok (by have h := h g; rw [vq_slices_Concat___byte_byte__11] at h; exact h)
noncomputable def bd_runes_Put : Code := (Try.f54.body).getD .skip
noncomputable def hd_runes_Put_6 : List Item := (findLoop 6 400 [.code bd_runes_Put]).getD []
def lv_runes_Put : Nat → Option (List Nat) := fun i => cond (Nat.beq i 6) (some [15, 5, 13, 14]) (none)
def cu_runes_Put : Nat → Bool := fun i => false
def VC_runes_Put (g : Nat → AV) (x0 : AV) (H : Heap) (Q : AV → Heap → Prop) : Prop :=
 doW (callRes env true (limf env) (limt env 0) H (⟨0, 9, Heap.gen H 0 9, 0⟩ : Ref) (some (.fn (.func 86) [] [])) [x0]) fun v1 H1 =>
 doQ (qBin env.P .neq 36 (.tmp 10) (.const (.int .i64 0)) (some v1) (some (.v (.int .i64 0)))) fun v2 =>
 br (some v2) (
 Q (.tup [(.v (.slice none 0 0)), v1]) H1) (
 doQ (qBuiltin env.P false (Heap.get H1) (⟨0, 14, Heap.gen H1 0 14, 0⟩ : Ref) .len #[31] [x0]) fun v3 =>
   GoL env Try.f54 0 hd_runes_Put_6 [(15, (.v (.int .i64 0))), (5, (.v (.slice none 0 0))), (13, x0), (14, v3)] H1 Q)
theorem vq_runes_Put : VC_runes_Put = fun g x0 H Q => wp env Try.f54 none 0 lv_runes_Put cu_runes_Put Q 500 [.code bd_runes_Put] (ofL g [(0, x0)]) H := by kernel_rfl
theorem vc_runes_Put (x0 : AV) (H : Heap) (Q : AV → Heap → Prop) (h : ∀ g, VC_runes_Put g x0 H Q) : GoL env Try.f54 0 [.code bd_runes_Put] [(0, x0)] H Q := ⟨fun g => wp_ok (by have h := h g; rw [vq_runes_Put] at h; exact h)⟩
def VC_runes_Put_6 (g : Nat → AV) (x15 x5 x13 x14 : AV) (H : Heap) (Q : AV → Heap → Prop) : Prop :=
 doQ (qBin env.P .lss 3 (.tmp 15) (.tmp 14) (some x15) (some x14)) fun v1 =>
 br (some v1) (
 doQ (qIndexAddr env.P (Heap.get H) 31 (some x13) (some x15)) fun v2 =>
 doQ (qLoad env.P (Heap.get H) 21 (some v2)) fun v3 =>
 doQ (qBin env.P .shr 21 (.tmp 20) (.const (.int .u64 24)) (some v3) (some (.v (.int .u64 24)))) fun v4 =>
 doQ (qConvert env.P (Heap.get H) (⟨0, 22, Heap.gen H 0 22, 0⟩ : Ref) 21 5 (some v4)) fun v5 =>
 doQ (qBin env.P .shr 21 (.tmp 23) (.const (.int .u64 16)) (some v3) (some (.v (.int .u64 16)))) fun v6 =>
 doQ (qConvert env.P (Heap.get H) (⟨0, 25, Heap.gen H 0 25, 0⟩ : Ref) 21 5 (some v6)) fun v7 =>
 doQ (qBin env.P .shr 21 (.tmp 26) (.const (.int .u64 8)) (some v3) (some (.v (.int .u64 8)))) fun v8 =>
 doQ (qConvert env.P (Heap.get H) (⟨0, 28, Heap.gen H 0 28, 0⟩ : Ref) 21 5 (some v8)) fun v9 =>
 doQ (qConvert env.P (Heap.get H) (⟨0, 30, Heap.gen H 0 30, 0⟩ : Ref) 21 5 (some v3)) fun v10 =>
 doW (bsRes env.P false true H (⟨0, 31, Heap.gen H 0 31, 0⟩ : Ref) 34 4 (some [(0, v5), (1, v7), (2, v9), (3, v10)])) fun v11 H1 =>
 doW (appRes env.P true H1 (⟨0, 32, Heap.gen H1 0 32, 0⟩ : Ref) (some 34) (some 34) x5 v11) fun v12 H2 =>
 doQ (qBin env.P .add 3 (.tmp 15) (.const (.int .i64 1)) (some x15) (some (.v (.int .i64 1)))) fun v13 =>
   GoL env Try.f54 0 hd_runes_Put_6 [(15, v13), (5, v12), (13, x13), (14, x14)] H2 Q) (
 Q (.tup [x5, (.v (.int .i64 0))]) H)
theorem vq_runes_Put_6 : VC_runes_Put_6 = fun g x15 x5 x13 x14 H Q => wp env Try.f54 none 0 lv_runes_Put cu_runes_Put Q 500 (bodyOf hd_runes_Put_6) (ofL g [(15, x15), (5, x5), (13, x13), (14, x14)]) H := by kernel_rfl
theorem vc_runes_Put_6 (x15 x5 x13 x14 : AV) (H : Heap) (Q : AV → Heap → Prop) (h : ∀ g, VC_runes_Put_6 g x15 x5 x13 x14 H Q) : GoL env Try.f54 0 hd_runes_Put_6 [(15, x15), (5, x5), (13, x13), (14, x14)] H Q := goL_body fun g => wp_ok (by have h := h g; rw [vq_runes_Put_6] at h; exact h)
noncomputable def bd___blindstamp_op_reader__take : Code := (Try.f55.body).getD .skip
def lv___blindstamp_op_reader__take : Nat → Option (List Nat) := fun i => none
def cu___blindstamp_op_reader__take : Nat → Bool := fun i => false
def VC___blindstamp_op_reader__take (dep : Nat) (g : Nat → AV) (x0 x1 : AV) (H : Heap) (Q : AV → Heap → Prop) : Prop :=
 doQ (qNil (some x0)) fun v1 =>
 doQ (qFieldAddr env.P 101 (some v1) 2) fun v2 =>
 doQ (qLoad env.P (Heap.get H) 4 (some v2)) fun v3 =>
 gQ v3 false (qVal (some x0)) fun v4 =>
 gQ v3 false (qNil (some v4)) fun v5 =>
 gQ v3 false (qFieldAddr env.P 101 (some v5) 0) fun v6 =>
 gQ v3 false (qLoad env.P (Heap.get H) 34 (some v6)) fun v7 =>
 gQ v3 false (qBuiltin env.P false (Heap.get H) (⟨(dep + 1), 15, Heap.gen H (dep + 1) 15, 0⟩ : Ref) .len #[34] [v7]) fun v8 =>
 gQ v3 false (qVal (some x0)) fun v9 =>
 gQ v3 false (qNil (some v9)) fun v10 =>
 gQ v3 false (qFieldAddr env.P 101 (some v10) 1) fun v11 =>
 gQ v3 false (qLoad env.P (Heap.get H) 3 (some v11)) fun v12 =>
 gQ v3 false (qBin env.P .sub 3 (.tmp 15) (.tmp 19) (some v8) (some v12)) fun v13 =>
 gQ v3 false (qVal (some x1)) fun v14 =>
 gQ v3 false (qBin env.P .lss 3 (.tmp 20) (.tmp 21) (some v13) (some v14)) fun v15 =>
 doQ (pickF (some v3) (some (.v (.bool true))) (some v15)) fun v16 =>
 doQ (qNil (some x0)) fun v17 =>
 doQ (qFieldAddr env.P 101 (some v17) 2) fun v18 =>
 doW (wStore env.P H 4 (some v18) (some v16)) fun v19 H1 =>
 doQ (qNil (some x0)) fun v20 =>
 doQ (qFieldAddr env.P 101 (some v20) 2) fun v21 =>
 doQ (qLoad env.P (Heap.get H1) 4 (some v21)) fun v22 =>
 br (some v22) (
 doW (nRes H1 (⟨(dep + 1), 31, Heap.gen H1 (dep + 1) 31, 0⟩ : Ref) (qMake env.P (⟨(dep + 1), 31, Heap.gen H1 (dep + 1) 31, 0⟩ : Ref) 34 (some x1) (some x1))) fun v23 H2 =>
 Q v23 H2) (
 doQ (qNil (some x0)) fun v23 =>
 doQ (qFieldAddr env.P 101 (some v23) 1) fun v24 =>
 doQ (qLoad env.P (Heap.get H1) 3 (some v24)) fun v25 =>
 doQ (qBin env.P .add 3 (.tmp 35) (.tmp 36) (some v25) (some x1)) fun v26 =>
 doQ (qNil (some x0)) fun v27 =>
 doQ (qFieldAddr env.P 101 (some v27) 1) fun v28 =>
 doW (wStore env.P H1 3 (some v28) (some v26)) fun v29 H2 =>
 doQ (qNil (some x0)) fun v30 =>
 doQ (qFieldAddr env.P 101 (some v30) 0) fun v31 =>
 doQ (qLoad env.P (Heap.get H2) 34 (some v31)) fun v32 =>
 doQ (qNil (some x0)) fun v33 =>
 doQ (qFieldAddr env.P 101 (some v33) 1) fun v34 =>
 doQ (qLoad env.P (Heap.get H2) 3 (some v34)) fun v35 =>
 doQ (qBin env.P .sub 3 (.tmp 47) (.tmp 48) (some v35) (some x1)) fun v36 =>
 doQ (qNil (some x0)) fun v37 =>
 doQ (qFieldAddr env.P 101 (some v37) 1) fun v38 =>
 doQ (qLoad env.P (Heap.get H2) 3 (some v38)) fun v39 =>
 doQ (qSlice env.P (Heap.get H2) 34 (some v32) (oi v36) (oi v39) (some none)) fun v40 =>
 Q v40 H2)
theorem vq___blindstamp_op_reader__take (dep : Nat) : VC___blindstamp_op_reader__take dep = fun g x0 x1 H Q => wp env Try.f55 none (dep + 1) lv___blindstamp_op_reader__take cu___blindstamp_op_reader__take Q 500 [.code bd___blindstamp_op_reader__take] (ofL g [(0, x0), (1, x1)]) H := by kernel_rfl
theorem vc___blindstamp_op_reader__take (dep : Nat) (x0 x1 : AV) (H : Heap) (Q : AV → Heap → Prop) (h : ∀ g, VC___blindstamp_op_reader__take dep g x0 x1 H Q) : GoL env Try.f55 (dep + 1) [.code bd___blindstamp_op_reader__take] [(0, x0), (1, x1)] H Q := ⟨fun g => wp_ok (by have h := h g; rw [vq___blindstamp_op_reader__take] at h; exact h)⟩
noncomputable def bd___blindstamp_op_reader__id : Code := (Try.f56.body).getD .skip
def lv___blindstamp_op_reader__id : Nat → Option (List Nat) := fun i => none
def cu___blindstamp_op_reader__id : Nat → Bool := fun i => false
def VC___blindstamp_op_reader__id (dep : Nat) (g : Nat → AV) (x0 x1 : AV) (H : Heap) (Q : AV → Heap → Prop) : Prop :=
 doW (nRes H (⟨(dep + 1), 4, Heap.gen H (dep + 1) 4, 0⟩ : Ref) (qAlloc env.P (⟨(dep + 1), 4, Heap.gen H (dep + 1) 4, 0⟩ : Ref) 28)) fun v1 H1 =>
 doW (callRes env true (limf env) (limt env (dep + 1)) H1 (⟨(dep + 1), 10, Heap.gen H1 (dep + 1) 10, 0⟩ : Ref) (some (.fn (.func 55) [] [])) [x0, (.v (.int .i64 13))]) fun v2 H2 =>
 doW (callRes env true (limf env) (limt env (dep + 1)) H2 (⟨(dep + 1), 13, Heap.gen H2 (dep + 1) 13, 0⟩ : Ref) (some (.fn (.func 87) [] [])) [v2]) fun v3 H3 =>
 doQ (qExtract (some v3) 0) fun v4 =>
 doQ (qExtract (some v3) 1) fun v5 =>
 doW (nRes H3 (⟨(dep + 1), 6, Heap.gen H3 (dep + 1) 6, 0⟩ : Ref) (qAlloc env.P (⟨(dep + 1), 6, Heap.gen H3 (dep + 1) 6, 0⟩ : Ref) 28)) fun v6 H4 =>
 doW (wStore env.P H4 28 (some v6) (some v4)) fun v7 H5 =>
 gQ x1 true (qVal (some v2)) fun v8 =>
 gW x1 true H5 (nRes H5 (⟨(dep + 1), 19, Heap.gen H5 (dep + 1) 19, 0⟩ : Ref) (qMake env.P (⟨(dep + 1), 19, Heap.gen H5 (dep + 1) 19, 0⟩ : Ref) 34 (some (.v (.int .i64 13))) (some (.v (.int .i64 13))))) fun v9 H6 =>
 gW x1 true H6 (callRes env true (limf env) (limt env (dep + 1)) H6 (⟨(dep + 1), 20, Heap.gen H6 (dep + 1) 20, 0⟩ : Ref) (some (.fn (.func 80) [] [])) [v8, v9]) fun v10 H7 =>
 doQ (pickF (some x1) (some v10) (some (.v (.bool false)))) fun v11 =>
 doQ (qNil (some x0)) fun v12 =>
 doQ (qFieldAddr env.P 101 (some v12) 2) fun v13 =>
 doQ (qLoad env.P (Heap.get H7) 4 (some v13)) fun v14 =>
 gQ v14 false (qVal (some v5)) fun v15 =>
 gQ v14 false (qBin env.P .neq 36 (.tmp 28) (.const (.int .i64 0)) (some v15) (some (.v (.int .i64 0)))) fun v16 =>
 gQ v14 false (qVal (some v16)) fun v17 =>
 gQ v17 true (qVal (some v11)) fun v18 =>
 gQ v17 true (qUn env.P .not (some v18)) fun v19 =>
 gQ v14 false (pickF (some v17) (some v19) (some (.v (.bool false)))) fun v20 =>
 doQ (pickF (some v14) (some (.v (.bool true))) (some v20)) fun v21 =>
 doQ (qNil (some x0)) fun v22 =>
 doQ (qFieldAddr env.P 101 (some v22) 2) fun v23 =>
 doW (wStore env.P H7 4 (some v23) (some v21)) fun v24 H8 =>
 doQ (qLoad env.P (Heap.get H8) 28 (some v6)) fun v25 =>
 doW (wStore env.P H8 28 (some v1) (some v25)) fun v26 H9 =>
 doQ (readCell env.P H9 v1 28) fun v27 =>
 Q v27 H9
theorem vq___blindstamp_op_reader__id (dep : Nat) : VC___blindstamp_op_reader__id dep = fun g x0 x1 H Q => wp env Try.f56 none (dep + 1) lv___blindstamp_op_reader__id cu___blindstamp_op_reader__id Q 500 [.code bd___blindstamp_op_reader__id] (ofL g [(0, x0), (1, x1)]) H := by kernel_rfl
theorem vc___blindstamp_op_reader__id (dep : Nat) (x0 x1 : AV) (H : Heap) (Q : AV → Heap → Prop) (h : ∀ g, VC___blindstamp_op_reader__id dep g x0 x1 H Q) : GoL env Try.f56 (dep + 1) [.code bd___blindstamp_op_reader__id] [(0, x0), (1, x1)] H Q := ⟨fun g => wp_ok (by have h := h g; rw [vq___blindstamp_op_reader__id] at h; exact h)⟩
noncomputable def bd_runes_Get : Code := (Try.f58.body).getD .skip
noncomputable def rh_runes_Get_10006 : List Item := (findRange 10006 400 [.code bd_runes_Get]).getD []
noncomputable def ra_runes_Get_10006 : Code := rfA rh_runes_Get_10006
noncomputable def rb_runes_Get_10006 : Code := rfB rh_runes_Get_10006
noncomputable def rk_runes_Get_10006 : List Item := rfK rh_runes_Get_10006
def lv_runes_Get : Nat → Option (List Nat) := fun i => cond (Nat.beq i 10006) (some [16, 2]) (none)
def cu_runes_Get : Nat → Bool := fun i => false
def VC_runes_Get (g : Nat → AV) (x0 : AV) (H : Heap) (Q : AV → Heap → Prop) : Prop :=
 doW (nRes H (⟨0, 2, Heap.gen H 0 2, 0⟩ : Ref) (qAlloc env.P (⟨0, 2, Heap.gen H 0 2, 0⟩ : Ref) 31)) fun v1 H1 =>
 doQ (qBuiltin env.P false (Heap.get H1) (⟨0, 8, Heap.gen H1 0 8, 0⟩ : Ref) .len #[34] [x0]) fun v2 =>
 doQ (qBin env.P .gtr 3 (.tmp 8) (.const (.int .i64 256)) (some v2) (some (.v (.int .i64 256)))) fun v3 =>
 br (some v3) (
 doW (wStore env.P H1 31 (some v1) (some (.v (.slice none 0 0)))) fun v4 H2 =>
 doQ (readCell env.P H2 v1 31) fun v5 =>
 Q (.tup [v5, (.v (.int .i64 4))]) H2) (
 doQ (qBuiltin env.P false (Heap.get H1) (⟨0, 12, Heap.gen H1 0 12, 0⟩ : Ref) .len #[34] [x0]) fun v4 =>
 doQ (qBin env.P .rem 3 (.tmp 12) (.const (.int .i64 4)) (some v4) (some (.v (.int .i64 4)))) fun v5 =>
 doQ (qBin env.P .gtr 3 (.tmp 13) (.const (.int .i64 0)) (some v5) (some (.v (.int .i64 0)))) fun v6 =>
 br (some v6) (
 doW (wStore env.P H1 31 (some v1) (some (.v (.slice none 0 0)))) fun v7 H2 =>
 doQ (readCell env.P H2 v1 31) fun v8 =>
 Q (.tup [v8, (.v (.int .i64 8))]) H2) (
 doW (callRes env true (limf env) (limt env 0) H1 (⟨0, 16, Heap.gen H1 0 16, 0⟩ : Ref) (some (.fn (.func 76) [] [])) [x0, (.v (.int .i64 4))]) fun v7 H2 =>
    GoL env Try.f58 0 rh_runes_Get_10006 [(16, v7), (2, v1)] H2 Q))
theorem vq_runes_Get : VC_runes_Get = fun g x0 H Q => wp env Try.f58 none 0 lv_runes_Get cu_runes_Get Q 500 [.code bd_runes_Get] (ofL g [(0, x0)]) H := by kernel_rfl
theorem vc_runes_Get (x0 : AV) (H : Heap) (Q : AV → Heap → Prop) (h : ∀ g, VC_runes_Get g x0 H Q) : GoL env Try.f58 0 [.code bd_runes_Get] [(0, x0)] H Q := ⟨fun g => wp_ok (by have h := h g; rw [vq_runes_Get] at h; exact h)⟩
def VC_runes_Get_10006K (g : Nat → AV) (x2 : AV) (H : Heap) (Q : AV → Heap → Prop) : Prop :=
 doQ (qLoad env.P (Heap.get H) 31 (some x2)) fun v1 =>
 doW (callRes env true (limf env) (limt env 0) H (⟨0, 45, Heap.gen H 0 45, 0⟩ : Ref) (some (.fn (.func 86) [] [])) [v1]) fun v2 H1 =>
 doQ (qBin env.P .neq 36 (.tmp 46) (.const (.int .i64 0)) (some v2) (some (.v (.int .i64 0)))) fun v3 =>
 br (some v3) (
 doW (wStore env.P H1 31 (some x2) (some (.v (.slice none 0 0)))) fun v4 H2 =>
 doQ (readCell env.P H2 x2 31) fun v5 =>
 Q (.tup [v5, v2]) H2) (
 doQ (qLoad env.P (Heap.get H1) 31 (some x2)) fun v4 =>
 doW (wStore env.P H1 31 (some x2) (some v4)) fun v5 H2 =>
 doQ (readCell env.P H2 x2 31) fun v6 =>
 Q (.tup [v6, (.v (.int .i64 0))]) H2)
theorem vq_runes_Get_10006K : VC_runes_Get_10006K = fun g x2 H Q => wp env Try.f58 none 0 lv_runes_Get cu_runes_Get Q 500 rk_runes_Get_10006 (ofL g [(2, x2)]) H := by kernel_rfl
theorem vc_runes_Get_10006K (x2 : AV) (H : Heap) (Q : AV → Heap → Prop) (h : ∀ g, VC_runes_Get_10006K g x2 H Q) : GoL env Try.f58 0 rk_runes_Get_10006 [(2, x2)] H Q := ⟨fun g => wp_ok (by have h := h g; rw [vq_runes_Get_10006K] at h; exact h)⟩
def VC_runes_Get_10006 (r : Ref) (g : Nat → AV) (x2 x17 : AV) (H : Heap) (Q : AV → Heap → Prop) : Prop :=
  bgP (lpAt H r) fun i1 =>
 doQ (qLoad env.P (Heap.get (Heap.put H r (some (lpBlk 1 i1)))) 31 (some x2)) fun v2 =>
 doQ (qIndexAddr env.P (Heap.get (Heap.put H r (some (lpBlk 1 i1)))) 34 (some x17) (some (.v (.int .i64 0)))) fun v3 =>
 doQ (qLoad env.P (Heap.get (Heap.put H r (some (lpBlk 1 i1)))) 5 (some v3)) fun v4 =>
 doQ (qConvert env.P (Heap.get (Heap.put H r (some (lpBlk 1 i1)))) (⟨2, 22, Heap.gen (Heap.put H r (some (lpBlk 1 i1))) 2 22, 0⟩ : Ref) 5 22 (some v4)) fun v5 =>
 doQ (qBin env.P .shl 22 (.tmp 22) (.const (.int .u64 24)) (some v5) (some (.v (.int .u64 24)))) fun v6 =>
 doQ (qIndexAddr env.P (Heap.get (Heap.put H r (some (lpBlk 1 i1)))) 34 (some x17) (some (.v (.int .i64 1)))) fun v7 =>
 doQ (qLoad env.P (Heap.get (Heap.put H r (some (lpBlk 1 i1)))) 5 (some v7)) fun v8 =>
 doQ (qConvert env.P (Heap.get (Heap.put H r (some (lpBlk 1 i1)))) (⟨2, 27, Heap.gen (Heap.put H r (some (lpBlk 1 i1))) 2 27, 0⟩ : Ref) 5 22 (some v8)) fun v9 =>
 doQ (qBin env.P .shl 22 (.tmp 27) (.const (.int .u64 16)) (some v9) (some (.v (.int .u64 16)))) fun v10 =>
 doQ (qBin env.P .or 22 (.tmp 23) (.tmp 28) (some v6) (some v10)) fun v11 =>
 doQ (qIndexAddr env.P (Heap.get (Heap.put H r (some (lpBlk 1 i1)))) 34 (some x17) (some (.v (.int .i64 2)))) fun v12 =>
 doQ (qLoad env.P (Heap.get (Heap.put H r (some (lpBlk 1 i1)))) 5 (some v12)) fun v13 =>
 doQ (qConvert env.P (Heap.get (Heap.put H r (some (lpBlk 1 i1)))) (⟨2, 33, Heap.gen (Heap.put H r (some (lpBlk 1 i1))) 2 33, 0⟩ : Ref) 5 22 (some v13)) fun v14 =>
 doQ (qBin env.P .shl 22 (.tmp 33) (.const (.int .u64 8)) (some v14) (some (.v (.int .u64 8)))) fun v15 =>
 doQ (qBin env.P .or 22 (.tmp 29) (.tmp 34) (some v11) (some v15)) fun v16 =>
 doQ (qIndexAddr env.P (Heap.get (Heap.put H r (some (lpBlk 1 i1)))) 34 (some x17) (some (.v (.int .i64 3)))) fun v17 =>
 doQ (qLoad env.P (Heap.get (Heap.put H r (some (lpBlk 1 i1)))) 5 (some v17)) fun v18 =>
 doQ (qConvert env.P (Heap.get (Heap.put H r (some (lpBlk 1 i1)))) (⟨2, 39, Heap.gen (Heap.put H r (some (lpBlk 1 i1))) 2 39, 0⟩ : Ref) 5 22 (some v18)) fun v19 =>
 doQ (qBin env.P .or 22 (.tmp 35) (.tmp 39) (some v16) (some v19)) fun v20 =>
 doQ (qConvert env.P (Heap.get (Heap.put H r (some (lpBlk 1 i1)))) (⟨2, 41, Heap.gen (Heap.put H r (some (lpBlk 1 i1))) 2 41, 0⟩ : Ref) 22 21 (some v20)) fun v21 =>
 doW (bsRes env.P true false (Heap.put H r (some (lpBlk 1 i1))) (⟨2, 42, Heap.gen (Heap.put H r (some (lpBlk 1 i1))) 2 42, 0⟩ : Ref) 31 1 (some [(0, v21)])) fun v22 H1 =>
 doW (appRes env.P true H1 (⟨2, 43, Heap.gen H1 2 43, 0⟩ : Ref) (some 31) (some 31) v2 v22) fun v23 H2 =>
 doW (wStore env.P H2 31 (some x2) (some v23)) fun v24 H3 =>
 Q (.v (.int .i64 0)) H3
theorem vq_runes_Get_10006 (r : Ref) : VC_runes_Get_10006 r = fun g x2 x17 H Q => wp env Try.f58 (some r) 2 lv_runes_Get cu_runes_Get Q 500 [.code ra_runes_Get_10006, .beginRound, .code rb_runes_Get_10006] (ofL g [(2, x2), (17, x17)]) H := by kernel_rfl
theorem vc_runes_Get_10006 (r : Ref) (x2 x17 : AV) (H : Heap) (Q : AV → Heap → Prop) (h : ∀ g, VC_runes_Get_10006 r g x2 x17 H Q) : GoX env Try.f58 (some r) 2 [.code ra_runes_Get_10006, .beginRound, .code rb_runes_Get_10006] [(2, x2), (17, x17)] H Q := ⟨fun g => wp_ok (by have h := h g; rw [vq_runes_Get_10006] at h; exact h)⟩
noncomputable def bd_bytes_Clone : Code := (Try.f59.body).getD .skip
def lv_bytes_Clone : Nat → Option (List Nat) := fun i => none
def cu_bytes_Clone : Nat → Bool := fun i => false
def VC_bytes_Clone (g : Nat → AV) (x0 : AV) (H : Heap) (Q : AV → Heap → Prop) : Prop :=
 doQ (qBin env.P .eql 34 (.tmp 3) (.const (.slice none 0 0)) (some x0) (some (.v (.slice none 0 0)))) fun v1 =>
 br (some v1) (
 Q (.v (.slice none 0 0)) H) (
 doW (bsRes env.P false true H (⟨0, 5, Heap.gen H 0 5, 0⟩ : Ref) 34 0 (some [])) fun v2 H1 =>
 doW (appRes env.P true H1 (⟨0, 7, Heap.gen H1 0 7, 0⟩ : Ref) (some 34) (some 34) v2 x0) fun v3 H2 =>
 Q v3 H2)
theorem vq_bytes_Clone : VC_bytes_Clone = fun g x0 H Q => wp env Try.f59 none 0 lv_bytes_Clone cu_bytes_Clone Q 500 [.code bd_bytes_Clone] (ofL g [(0, x0)]) H := by kernel_rfl
theorem vc_bytes_Clone (x0 : AV) (H : Heap) (Q : AV → Heap → Prop) (h : ∀ g, VC_bytes_Clone g x0 H Q) : GoL env Try.f59 0 [.code bd_bytes_Clone] [(0, x0)] H Q := ⟨fun g => wp_ok (by have h := h g; rw [vq_bytes_Clone] at h; exact h)⟩
noncomputable def bd_slices_Chunk___byte_byte_ : Code := (Try.f76.body).getD .skip
def lv_slices_Chunk___byte_byte_ : Nat → Option (List Nat) := fun i => none
def cu_slices_Chunk___byte_byte_ : Nat → Bool := fun i => false
def VC_slices_Chunk___byte_byte_ (g : Nat → AV) (x0 x1 : AV) (H : Heap) (Q : AV → Heap → Prop) : Prop :=
 doW (nRes H (⟨0, 2, Heap.gen H 0 2, 0⟩ : Ref) (qBox env.P (⟨0, 2, Heap.gen H 0 2, 0⟩ : Ref) 34 (some x0))) fun v1 H1 =>
 doW (nRes H1 (⟨0, 3, Heap.gen H1 0 3, 0⟩ : Ref) (qBox env.P (⟨0, 3, Heap.gen H1 0 3, 0⟩ : Ref) 3 (some x1))) fun v2 H2 =>
 doQ (qLoad env.P (Heap.get H2) 3 (some v2)) fun v3 =>
 doQ (qBin env.P .lss 3 (.tmp 5) (.const (.int .i64 1)) (some v3) (some (.v (.int .i64 1)))) fun v4 =>
 br (some v4) (
 doQ (qIface env.P 9 (some (.v (.string ⟨#[99, 97, 110, 110, 111, 116, 32, 98, 101, 32, 108, 101, 115, 115, 32, 116, 104, 97, 110, 32, 49]⟩)))) fun v5 =>
 doQ (none) fun v6 =>
 doQ (qFunc (.func 128) (some []) (some [v1, v2])) fun v7 =>
 Q v7 H2) (
 doQ (qFunc (.func 128) (some []) (some [v1, v2])) fun v5 =>
 Q v5 H2)
theorem vq_slices_Chunk___byte_byte_ : VC_slices_Chunk___byte_byte_ = fun g x0 x1 H Q => wp env Try.f76 none 0 lv_slices_Chunk___byte_byte_ cu_slices_Chunk___byte_byte_ Q 500 [.code bd_slices_Chunk___byte_byte_] (ofL g [(0, x0), (1, x1)]) H := by kernel_rfl
theorem vc_slices_Chunk___byte_byte_ (x0 x1 : AV) (H : Heap) (Q : AV → Heap → Prop) (h : ∀ g, VC_slices_Chunk___byte_byte_ g x0 x1 H Q) : GoL env Try.f76 0 [.code bd_slices_Chunk___byte_byte_] [(0, x0), (1, x1)] H Q := ⟨fun g => wp_ok (by have h := h g; rw [vq_slices_Chunk___byte_byte_] at h; exact h)⟩
noncomputable def bd_bytes_Equal : Code := (Try.f80.body).getD .skip
def lv_bytes_Equal : Nat → Option (List Nat) := fun i => none
def cu_bytes_Equal : Nat → Bool := fun i => false
def VC_bytes_Equal (g : Nat → AV) (x0 x1 : AV) (H : Heap) (Q : AV → Heap → Prop) : Prop :=
 doQ (qConvert env.P (Heap.get H) (⟨0, 6, Heap.gen H 0 6, 0⟩ : Ref) 34 9 (some x0)) fun v1 =>
 doQ (qConvert env.P (Heap.get H) (⟨0, 8, Heap.gen H 0 8, 0⟩ : Ref) 34 9 (some x1)) fun v2 =>
 doQ (qBin env.P .eql 9 (.tmp 6) (.tmp 8) (some v1) (some v2)) fun v3 =>
 Q v3 H
theorem vq_bytes_Equal : VC_bytes_Equal = fun g x0 x1 H Q => wp env Try.f80 none 0 lv_bytes_Equal cu_bytes_Equal Q 500 [.code bd_bytes_Equal] (ofL g [(0, x0), (1, x1)]) H := by kernel_rfl
theorem vc_bytes_Equal (x0 x1 : AV) (H : Heap) (Q : AV → Heap → Prop) (h : ∀ g, VC_bytes_Equal g x0 x1 H Q) : GoL env Try.f80 0 [.code bd_bytes_Equal] [(0, x0), (1, x1)] H Q := ⟨fun g => wp_ok (by have h := h g; rw [vq_bytes_Equal] at h; exact h)⟩
noncomputable def bd_slices_Grow___byte_byte_ : Code := (Try.f85.body).getD .skip
def lv_slices_Grow___byte_byte_ : Nat → Option (List Nat) := fun i => none
def cu_slices_Grow___byte_byte_ : Nat → Bool := fun i => false
def VC_slices_Grow___byte_byte_ (g : Nat → AV) (x0 x1 : AV) (H : Heap) (Q : AV → Heap → Prop) : Prop :=
 doQ (qBin env.P .lss 3 (.tmp 5) (.const (.int .i64 0)) (some x1) (some (.v (.int .i64 0)))) fun v1 =>
 br (some v1) (
 doQ (qIface env.P 9 (some (.v (.string ⟨#[99, 97, 110, 110, 111, 116, 32, 98, 101, 32, 110, 101, 103, 97, 116, 105, 118, 101]⟩)))) fun v2 =>
 doQ (none) fun v3 =>
 doQ (qBuiltin env.P false (Heap.get H) (⟨0, 10, Heap.gen H 0 10, 0⟩ : Ref) .cap #[34] [x0]) fun v4 =>
 doQ (qBuiltin env.P false (Heap.get H) (⟨0, 12, Heap.gen H 0 12, 0⟩ : Ref) .len #[34] [x0]) fun v5 =>
 doQ (qBin env.P .sub 3 (.tmp 10) (.tmp 12) (some v4) (some v5)) fun v6 =>
 doQ (qBin env.P .sub 3 (.tmp 8) (.tmp 13) (some x1) (some v6)) fun v7 =>
 doQ (qBin env.P .gtr 3 (.tmp 15) (.const (.int .i64 0)) (some v7) (some (.v (.int .i64 0)))) fun v8 =>
 br (some v8) (
 doQ (qBuiltin env.P false (Heap.get H) (⟨0, 19, Heap.gen H 0 19, 0⟩ : Ref) .cap #[34] [x0]) fun v9 =>
 doQ (qSlice env.P (Heap.get H) 34 (some x0) (some none) (oi v9) (some none)) fun v10 =>
 doW (appRes env.P true H (⟨0, 22, Heap.gen H 0 22, 0⟩ : Ref) (some 34) (some 3) v10 v7) fun v11 H1 =>
 doQ (qBuiltin env.P false (Heap.get H1) (⟨0, 24, Heap.gen H1 0 24, 0⟩ : Ref) .len #[34] [x0]) fun v12 =>
 doQ (qSlice env.P (Heap.get H1) 34 (some v11) (some none) (oi v12) (some none)) fun v13 =>
 Q v13 H1) (
 Q x0 H)) (
 doQ (qBuiltin env.P false (Heap.get H) (⟨0, 10, Heap.gen H 0 10, 0⟩ : Ref) .cap #[34] [x0]) fun v2 =>
 doQ (qBuiltin env.P false (Heap.get H) (⟨0, 12, Heap.gen H 0 12, 0⟩ : Ref) .len #[34] [x0]) fun v3 =>
 doQ (qBin env.P .sub 3 (.tmp 10) (.tmp 12) (some v2) (some v3)) fun v4 =>
 doQ (qBin env.P .sub 3 (.tmp 8) (.tmp 13) (some x1) (some v4)) fun v5 =>
 doQ (qBin env.P .gtr 3 (.tmp 15) (.const (.int .i64 0)) (some v5) (some (.v (.int .i64 0)))) fun v6 =>
 br (some v6) (
 doQ (qBuiltin env.P false (Heap.get H) (⟨0, 19, Heap.gen H 0 19, 0⟩ : Ref) .cap #[34] [x0]) fun v7 =>
 doQ (qSlice env.P (Heap.get H) 34 (some x0) (some none) (oi v7) (some none)) fun v8 =>
 doW (appRes env.P true H (⟨0, 22, Heap.gen H 0 22, 0⟩ : Ref) (some 34) (some 3) v8 v5) fun v9 H1 =>
 doQ (qBuiltin env.P false (Heap.get H1) (⟨0, 24, Heap.gen H1 0 24, 0⟩ : Ref) .len #[34] [x0]) fun v10 =>
 doQ (qSlice env.P (Heap.get H1) 34 (some v9) (some none) (oi v10) (some none)) fun v11 =>
 Q v11 H1) (
 Q x0 H))
theorem vq_slices_Grow___byte_byte_ : VC_slices_Grow___byte_byte_ = fun g x0 x1 H Q => wp env Try.f85 none 0 lv_slices_Grow___byte_byte_ cu_slices_Grow___byte_byte_ Q 500 [.code bd_slices_Grow___byte_byte_] (ofL g [(0, x0), (1, x1)]) H := by kernel_rfl
theorem vc_slices_Grow___byte_byte_ (x0 x1 : AV) (H : Heap) (Q : AV → Heap → Prop) (h : ∀ g, VC_slices_Grow___byte_byte_ g x0 x1 H Q) : GoL env Try.f85 0 [.code bd_slices_Grow___byte_byte_] [(0, x0), (1, x1)] H Q := ⟨fun g => wp_ok (by have h := h g; rw [vq_slices_Grow___byte_byte_] at h; exact h)⟩
noncomputable def bd_slices_Chunk___byte_byte_F1 : Code := (Try.f128.body).getD .skip
noncomputable def hd_slices_Chunk___byte_byte_F1_1 : List Item := (findLoop 1 400 [.code bd_slices_Chunk___byte_byte_F1]).getD []
def lv_slices_Chunk___byte_byte_F1 : Nat → Option (List Nat) := fun i => cond (Nat.beq i 1) (some [2, 4, 1, 0]) (none)
def cu_slices_Chunk___byte_byte_F1 : Nat → Bool := fun i => false
def VC_slices_Chunk___byte_byte_F1 (dep : Nat) (g : Nat → AV) (x0 x1 x2 : AV) (H : Heap) (Q : AV → Heap → Prop) : Prop :=
  GoL env Try.f128 (dep + 1) hd_slices_Chunk___byte_byte_F1_1 [(2, x2), (4, (.v (.int .i64 0))), (1, x1), (0, x0)] H Q
theorem vq_slices_Chunk___byte_byte_F1 (dep : Nat) : VC_slices_Chunk___byte_byte_F1 dep = fun g x0 x1 x2 H Q => wp env Try.f128 none (dep + 1) lv_slices_Chunk___byte_byte_F1 cu_slices_Chunk___byte_byte_F1 Q 500 [.code bd_slices_Chunk___byte_byte_F1] (ofL g [(0, x0), (1, x1), (2, x2)]) H := by kernel_rfl
theorem vc_slices_Chunk___byte_byte_F1 (dep : Nat) (x0 x1 x2 : AV) (H : Heap) (Q : AV → Heap → Prop) (h : ∀ g, VC_slices_Chunk___byte_byte_F1 dep g x0 x1 x2 H Q) : GoL env Try.f128 (dep + 1) [.code bd_slices_Chunk___byte_byte_F1] [(0, x0), (1, x1), (2, x2)] H Q := ⟨fun g => wp_ok (by have h := h g; rw [vq_slices_Chunk___byte_byte_F1] at h; exact h)⟩
def VC_slices_Chunk___byte_byte_F1_1 (dep : Nat) (g : Nat → AV) (x2 x4 x1 x0 : AV) (H : Heap) (Q : AV → Heap → Prop) : Prop :=
 doQ (qLoad env.P (Heap.get H) 34 (some x1)) fun v1 =>
 doQ (qBuiltin env.P false (Heap.get H) (⟨(dep + 1), 8, Heap.gen H (dep + 1) 8, 0⟩ : Ref) .len #[34] [v1]) fun v2 =>
 doQ (qBin env.P .lss 3 (.tmp 6) (.tmp 8) (some x4) (some v2)) fun v3 =>
 br (some v3) (
 doQ (qLoad env.P (Heap.get H) 3 (some x2)) fun v4 =>
 doQ (qLoad env.P (Heap.get H) 34 (some x1)) fun v5 =>
 doQ (qSlice env.P (Heap.get H) 34 (some v5) (oi x4) (some none) (some none)) fun v6 =>
 doQ (qBuiltin env.P false (Heap.get H) (⟨(dep + 1), 17, Heap.gen H (dep + 1) 17, 0⟩ : Ref) .len #[34] [v6]) fun v7 =>
 doQ (qBuiltin env.P true (Heap.get H) (⟨(dep + 1), 18, Heap.gen H (dep + 1) 18, 0⟩ : Ref) .min #[3, 3] [v4, v7]) fun v8 =>
 doQ (qLoad env.P (Heap.get H) 34 (some x1)) fun v9 =>
 doQ (qBin env.P .add 3 (.tmp 22) (.tmp 23) (some x4) (some v8)) fun v10 =>
 doQ (qBin env.P .add 3 (.tmp 25) (.tmp 26) (some x4) (some v8)) fun v11 =>
 doQ (qSlice env.P (Heap.get H) 34 (some v9) (oi x4) (oi v10) (oi v11)) fun v12 =>
 doW (callRes env true (limf env) (limt env (dep + 1)) H (⟨(dep + 1), 29, Heap.gen H (dep + 1) 29, 0⟩ : Ref) (some x0) [v12]) fun v13 H1 =>
 doQ (qUn env.P .not (some v13)) fun v14 =>
 br (some v14) (
 Q (.v (.tuple #[])) H1) (
 doQ (qLoad env.P (Heap.get H1) 3 (some x2)) fun v15 =>
 doQ (qBin env.P .add 3 (.tmp 10) (.tmp 11) (some x4) (some v15)) fun v16 =>
    GoL env Try.f128 (dep + 1) hd_slices_Chunk___byte_byte_F1_1 [(2, x2), (4, v16), (1, x1), (0, x0)] H1 Q)) (
 Q (.v (.tuple #[])) H)
theorem vq_slices_Chunk___byte_byte_F1_1 (dep : Nat) : VC_slices_Chunk___byte_byte_F1_1 dep = fun g x2 x4 x1 x0 H Q => wp env Try.f128 none (dep + 1) lv_slices_Chunk___byte_byte_F1 cu_slices_Chunk___byte_byte_F1 Q 500 (bodyOf hd_slices_Chunk___byte_byte_F1_1) (ofL g [(2, x2), (4, x4), (1, x1), (0, x0)]) H := by kernel_rfl
theorem vc_slices_Chunk___byte_byte_F1_1 (dep : Nat) (x2 x4 x1 x0 : AV) (H : Heap) (Q : AV → Heap → Prop) (h : ∀ g, VC_slices_Chunk___byte_byte_F1_1 dep g x2 x4 x1 x0 H Q) : GoL env Try.f128 (dep + 1) hd_slices_Chunk___byte_byte_F1_1 [(2, x2), (4, x4), (1, x1), (0, x0)] H Q := goL_body fun g => wp_ok (by have h := h g; rw [vq_slices_Chunk___byte_byte_F1_1] at h; exact h)
end Go.Proofs.Ytehkjjcdkbcebaa
