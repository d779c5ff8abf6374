/-
  What is to be shown of each function, computed from its code. No statement of a seat is proved here.
-/
import Derived.Test.YtjampffmlnplcaaRdTy
set_option linter.unusedVariables false
set_option maxRecDepth 1000000
namespace Go.Proofs.Ytjampffmlnplcaa
open Go.Ab
noncomputable def bd_blindstamplaw12_DiskLast : Code := (Try.f12.body).getD .skip
def lv_blindstamplaw12_DiskLast : Nat → Option (List Nat) := fun i => none
def cu_blindstamplaw12_DiskLast : Nat → Bool := fun i => false
def VC_blindstamplaw12_DiskLast (g : Nat → AV) (x0 x1 x2 x3 : AV) (H : Heap) (Q : AV → Heap → Prop) : Prop :=
 doW (nRes H (⟨0, 4, Heap.gen H 0 4, 0⟩ : Ref) (qBox env.P (⟨0, 4, Heap.gen H 0 4, 0⟩ : Ref) 93 (some x0))) fun v1 H1 =>
 doW (callRes env true (limf env) (limt env 0) H1 (⟨0, 17, Heap.gen H1 0 17, 0⟩ : Ref) (some (.fn (.func 59) [] [])) []) fun v2 H2 =>
 doQ (qLoad env.P (Heap.get H2) 93 (some v1)) fun v3 =>
 doW (callRes env true (limf env) (limt env 0) H2 (⟨0, 19, Heap.gen H2 0 19, 0⟩ : Ref) (some (.fn (.func 61) [] [])) [v3]) fun v4 H3 =>
 gQ v4 false (qVal (some v2)) fun v5 =>
 gQ v4 false (qUn env.P .not (some v5)) fun v6 =>
 doQ (pickF (some v4) (some (.v (.bool true))) (some v6)) fun v7 =>
 br (some v7) (
 Q v2 H3) (
 doQ (qLoad env.P (Heap.get H3) 93 (some v1)) fun v8 =>
 doW (callRes env false (limf env) (limt env 0) H3 (⟨0, 29, Heap.gen H3 0 29, 0⟩ : Ref) (some (.fn (.func 57) [] [])) [x2]) fun v9 H4 =>
 doW (callRes env false (limf env) (limt env 0) H4 (⟨0, 30, Heap.gen H4 0 30, 0⟩ : Ref) (some (.fn (.func 55) [] [])) [v8, x1, v9]) fun v10 H5 =>
 doQ (qExtract (some v10) 0) fun v11 =>
 doQ (qExtract (some v10) 1) fun v12 =>
 doW (nRes H5 (⟨0, 10, Heap.gen H5 0 10, 0⟩ : Ref) (qAlloc env.P (⟨0, 10, Heap.gen H5 0 10, 0⟩ : Ref) 93)) fun v13 H6 =>
 doW (wStore env.P H6 93 (some v13) (some v11)) fun v14 H7 =>
 doQ (qBin env.P .neq 35 (.tmp 33) (.const (.int .i64 0)) (some v12) (some (.v (.int .i64 0)))) fun v15 =>
 br (some v15) (
 gQ v2 true (qFieldAddr env.P 93 (some v13) 0) fun v16 =>
 gQ v2 true (qLoad env.P (Heap.get H7) 91 (some v16)) fun v17 =>
 gQ v2 true (qBuiltin env.P false (Heap.get H7) (⟨0, 39, Heap.gen H7 0 39, 0⟩ : Ref) .len #[91] [v17]) fun v18 =>
 gQ v2 true (qBin env.P .eql 3 (.tmp 39) (.const (.int .i64 0)) (some v18) (some (.v (.int .i64 0)))) fun v19 =>
 doQ (pickF (some v2) (some v19) (some (.v (.bool false)))) fun v20 =>
 Q v20 H7) (
 doQ (qFieldAddr env.P 93 (some v1) 3) fun v16 =>
 doQ (qLoad env.P (Heap.get H7) 4 (some v16)) fun v17 =>
 doQ (qUn env.P .not (some v17)) fun v18 =>
 gQ v18 true (qFieldAddr env.P 93 (some v1) 2) fun v19 =>
 gQ v18 true (qLoad env.P (Heap.get H7) 3 (some v19)) fun v20 =>
 gQ v18 true (qBin env.P .neq 3 (.tmp 47) (.const (.int .i64 0)) (some v20) (some (.v (.int .i64 0)))) fun v21 =>
 doQ (pickF (some v18) (some v21) (some (.v (.bool false)))) fun v22 =>
 doQ (qLoad env.P (Heap.get H7) 93 (some v1)) fun v23 =>
 doW (callRes env true (limf env) (limt env 0) H7 (⟨0, 53, Heap.gen H7 0 53, 0⟩ : Ref) (some (.fn (.func 58) [] [])) [v23, x3]) fun v24 H8 =>
 doQ (qExtract (some v24) 0) fun v25 =>
 doQ (qExtract (some v24) 1) fun v26 =>
 doQ (qLoad env.P (Heap.get H8) 93 (some v13)) fun v27 =>
 doW (callRes env true (limf env) (limt env 0) H8 (⟨0, 59, Heap.gen H8 0 59, 0⟩ : Ref) (some (.fn (.func 58) [] [])) [v27, x3]) fun v28 H9 =>
 doQ (qExtract (some v28) 0) fun v29 =>
 doQ (qExtract (some v28) 1) fun v30 =>
 doQ (qBin env.P .neq 35 (.tmp 62) (.tmp 63) (some v26) (some v30)) fun v31 =>
 gQ v31 false (qLoad env.P (Heap.get H9) 93 (some v13)) fun v32 =>
 gW v31 false H9 (callRes env true (limf env) (limt env 0) H9 (⟨0, 67, Heap.gen H9 0 67, 0⟩ : Ref) (some (.fn (.func 60) [] [])) [v32]) fun v33 H10 =>
 gQ v31 false (qBin env.P .neq 35 (.tmp 67) (.const (.int .i64 0)) (some v33) (some (.v (.int .i64 0)))) fun v34 =>
 doQ (pickF (some v31) (some (.v (.bool true))) (some v34)) fun v35 =>
 gQ v35 false (qFieldAddr env.P 93 (some v13) 1) fun v36 =>
 gQ v35 false (qLoad env.P (Heap.get H10) 3 (some v36)) fun v37 =>
 gQ v35 false (qFieldAddr env.P 93 (some v1) 1) fun v38 =>
 gQ v35 false (qLoad env.P (Heap.get H10) 3 (some v38)) fun v39 =>
 gQ v35 false (qBin env.P .neq 3 (.tmp 72) (.tmp 74) (some v37) (some v39)) fun v40 =>
 doQ (pickF (some v35) (some (.v (.bool true))) (some v40)) fun v41 =>
 gQ v41 false (qFieldAddr env.P 93 (some v13) 3) fun v42 =>
 gQ v41 false (qLoad env.P (Heap.get H10) 4 (some v42)) fun v43 =>
 gQ v41 false (qVal (some v22)) fun v44 =>
 gQ v41 false (qBin env.P .eql 4 (.tmp 79) (.tmp 80) (some v43) (some v44)) fun v45 =>
 doQ (pickF (some v41) (some (.v (.bool true))) (some v45)) fun v46 =>
 br (some v46) (
 Q (.v (.bool false)) H10) (
 gQ v22 true (qVal (some x3)) fun v47 =>
 gQ v22 true (qVal (some x1)) fun v48 =>
 gQ v22 true (qBin env.P .eql 3 (.tmp 85) (.tmp 86) (some v47) (some v48)) fun v49 =>
 doQ (pickF (some v22) (some v49) (some (.v (.bool false)))) fun v50 =>
 br (some v50) (
 gQ v2 true (qVal (some v29)) fun v51 =>
 gQ v2 true (qConvert env.P (Heap.get H10) (⟨0, 92, Heap.gen H10 0 92, 0⟩ : Ref) 98 9 (some v51)) fun v52 =>
 gQ v2 true (qVal (some x2)) fun v53 =>
 gW v2 true H10 (callRes env false (limf env) (limt env 0) H10 (⟨0, 94, Heap.gen H10 0 94, 0⟩ : Ref) (some (.fn (.func 57) [] [])) [v53]) fun v54 H11 =>
 gQ v2 true (qConvert env.P (Heap.get H11) (⟨0, 95, Heap.gen H11 0 95, 0⟩ : Ref) 98 9 (some v54)) fun v55 =>
 gQ v2 true (qBin env.P .eql 9 (.tmp 92) (.tmp 95) (some v52) (some v55)) fun v56 =>
 doQ (pickF (some v2) (some v56) (some (.v (.bool false)))) fun v57 =>
 Q v57 H11) (
 gQ v2 true (qVal (some v25)) fun v51 =>
 gQ v2 true (qConvert env.P (Heap.get H10) (⟨0, 101, Heap.gen H10 0 101, 0⟩ : Ref) 98 9 (some v51)) fun v52 =>
 gQ v2 true (qVal (some v29)) fun v53 =>
 gQ v2 true (qConvert env.P (Heap.get H10) (⟨0, 103, Heap.gen H10 0 103, 0⟩ : Ref) 98 9 (some v53)) fun v54 =>
 gQ v2 true (qBin env.P .eql 9 (.tmp 101) (.tmp 103) (some v52) (some v54)) fun v55 =>
 doQ (pickF (some v2) (some v55) (some (.v (.bool false)))) fun v56 =>
 gQ v56 true (qVal (some v22)) fun v57 =>
 gQ v56 true (qVal (some v57)) fun v58 =>
 gQ v58 false (qFieldAddr env.P 93 (some v13) 0) fun v59 =>
 gQ v58 false (qLoad env.P (Heap.get H10) 91 (some v59)) fun v60 =>
 gQ v58 false (qBuild env.P 93 (some [(0, v60)])) fun v61 =>
 gQ v58 false (qFieldAddr env.P 93 (some v1) 0) fun v62 =>
 gQ v58 false (qLoad env.P (Heap.get H10) 91 (some v62)) fun v63 =>
 gQ v58 false (qBuild env.P 93 (some [(0, v63)])) fun v64 =>
 gW v58 false H10 (callRes env true (limf env) (limt env 0) H10 (⟨0, 115, Heap.gen H10 0 115, 0⟩ : Ref) (some (.fn (.func 62) [] [])) [v61, v64]) fun v65 H11 =>
 gQ v56 true (pickF (some v58) (some (.v (.bool true))) (some v65)) fun v66 =>
 doQ (pickF (some v56) (some v66) (some (.v (.bool false)))) fun v67 =>
 Q v67 H11))))
theorem vq_blindstamplaw12_DiskLast : VC_blindstamplaw12_DiskLast = fun g x0 x1 x2 x3 H Q => wp env Try.f12 none 0 lv_blindstamplaw12_DiskLast cu_blindstamplaw12_DiskLast Q 500 [.code bd_blindstamplaw12_DiskLast] (ofL g [(0, x0), (1, x1), (2, x2), (3, x3)]) H := by kernel_rfl
theorem vc_blindstamplaw12_DiskLast (x0 x1 x2 x3 : AV) (H : Heap) (Q : AV → Heap → Prop) (h : ∀ g, VC_blindstamplaw12_DiskLast g x0 x1 x2 x3 H Q) : GoL env Try.f12 0 [.code bd_blindstamplaw12_DiskLast] [(0, x0), (1, x1), (2, x2), (3, x3)] H Q := ⟨fun g => wp_ok (by have h := h g; rw [vq_blindstamplaw12_DiskLast] at h; exact h)⟩
end Go.Proofs.Ytjampffmlnplcaa
