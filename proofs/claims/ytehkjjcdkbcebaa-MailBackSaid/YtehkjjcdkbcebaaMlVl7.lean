/-
  What is to be shown of each function, computed from its code. No statement of a seat is proved here.
-/
import Derived.Test.YtehkjjcdkbcebaaMlTy
set_option linter.unusedVariables false
set_option maxRecDepth 1000000
namespace Go.Proofs.Ytehkjjcdkbcebaa
open Go.Ab
noncomputable def bd_blindstamplaw10_MailBack : Code := (Try.f7.body).getD .skip
def lv_blindstamplaw10_MailBack : Nat → Option (List Nat) := fun i => none
def cu_blindstamplaw10_MailBack : Nat → Bool := fun i => false
def VC_blindstamplaw10_MailBack (g : Nat → AV) (x0 x1 : AV) (H : Heap) (Q : AV → Heap → Prop) : Prop :=
 doW (nRes H (⟨0, 2, Heap.gen H 0 2, 0⟩ : Ref) (qBox env.P (⟨0, 2, Heap.gen H 0 2, 0⟩ : Ref) 60 (some x0))) fun v1 H1 =>
 doW (callRes env true (limf env) (limt env 0) H1 (⟨0, 14, Heap.gen H1 0 14, 0⟩ : Ref) (some (.fn (.func 31) [] [])) []) fun v2 H2 =>
 doQ (qLoad env.P (Heap.get H2) 60 (some v1)) fun v3 =>
 doW (callRes env true (limf env) (limt env 0) H2 (⟨0, 16, Heap.gen H2 0 16, 0⟩ : Ref) (some (.fn (.func 32) [] [])) [v3]) fun v4 H3 =>
 gQ v4 false (qVal (some x1)) fun v5 =>
 gQ v4 false (qBuiltin env.P false (Heap.get H3) (⟨0, 19, Heap.gen H3 0 19, 0⟩ : Ref) .len #[34] [v5]) fun v6 =>
 gQ v4 false (qBin env.P .gtr 3 (.tmp 19) (.const (.int .i64 3000)) (some v6) (some (.v (.int .i64 3000)))) fun v7 =>
 doQ (pickF (some v4) (some (.v (.bool true))) (some v7)) fun v8 =>
 gQ v8 false (qVal (some v2)) fun v9 =>
 gQ v8 false (qUn env.P .not (some v9)) fun v10 =>
 doQ (pickF (some v8) (some (.v (.bool true))) (some v10)) fun v11 =>
 br (some v11) (
 Q v2 H3) (
 doQ (qLoad env.P (Heap.get H3) 60 (some v1)) fun v12 =>
 doW (callRes env true (limf env) (limt env 0) H3 (⟨0, 29, Heap.gen H3 0 29, 0⟩ : Ref) (some (.fn (.func 33) [] [])) [v12]) fun v13 H4 =>
 doQ (qExtract (some v13) 0) fun v14 =>
 doQ (qExtract (some v13) 1) fun v15 =>
 doQ (qBin env.P .eql 36 (.tmp 32) (.const (.int .i64 0)) (some v15) (some (.v (.int .i64 0)))) fun v16 =>
 br (some v16) (
 doW (callRes env true (limf env) (limt env 0) H4 (⟨0, 36, Heap.gen H4 0 36, 0⟩ : Ref) (some (.fn (.func 34) [] [])) [v14]) fun v17 H5 =>
 doQ (qExtract (some v17) 0) fun v18 =>
 doQ (qExtract (some v17) 1) fun v19 =>
 doW (nRes H5 (⟨0, 8, Heap.gen H5 0 8, 0⟩ : Ref) (qAlloc env.P (⟨0, 8, Heap.gen H5 0 8, 0⟩ : Ref) 60)) fun v20 H6 =>
 doW (wStore env.P H6 60 (some v20) (some v18)) fun v21 H7 =>
 doQ (qBin env.P .neq 36 (.tmp 39) (.const (.int .i64 0)) (some v19) (some (.v (.int .i64 0)))) fun v22 =>
 gQ v22 false (qLoad env.P (Heap.get H7) 60 (some v20)) fun v23 =>
 gQ v22 false (qLoad env.P (Heap.get H7) 60 (some v1)) fun v24 =>
 gW v22 false H7 (callRes env true (limf env) (limt env 0) H7 (⟨0, 44, Heap.gen H7 0 44, 0⟩ : Ref) (some (.fn (.func 35) [] [])) [v23, v24]) fun v25 H8 =>
 gQ v22 false (qUn env.P .not (some v25)) fun v26 =>
 doQ (pickF (some v22) (some (.v (.bool true))) (some v26)) fun v27 =>
 gQ v27 false (qLoad env.P (Heap.get H8) 60 (some v1)) fun v28 =>
 gW v27 false H8 (callRes env true (limf env) (limt env 0) H8 (⟨0, 49, Heap.gen H8 0 49, 0⟩ : Ref) (some (.fn (.func 36) [] [])) [v28]) fun v29 H9 =>
 gQ v27 false (qBin env.P .neq 36 (.tmp 49) (.const (.int .i64 0)) (some v29) (some (.v (.int .i64 0)))) fun v30 =>
 doQ (pickF (some v27) (some (.v (.bool true))) (some v30)) fun v31 =>
 br (some v31) (
 Q (.v (.bool false)) H9) (
 doW (callRes env true (limf env) (limt env 0) H9 (⟨0, 54, Heap.gen H9 0 54, 0⟩ : Ref) (some (.fn (.func 34) [] [])) [x1]) fun v32 H10 =>
 doQ (qExtract (some v32) 0) fun v33 =>
 doQ (qExtract (some v32) 1) fun v34 =>
 doW (nRes H10 (⟨0, 10, Heap.gen H10 0 10, 0⟩ : Ref) (qAlloc env.P (⟨0, 10, Heap.gen H10 0 10, 0⟩ : Ref) 60)) fun v35 H11 =>
 doW (wStore env.P H11 60 (some v35) (some v33)) fun v36 H12 =>
 doQ (qBin env.P .neq 36 (.tmp 57) (.const (.int .i64 0)) (some v34) (some (.v (.int .i64 0)))) fun v37 =>
 br (some v37) (
 gQ v2 true (qLoad env.P (Heap.get H12) 60 (some v35)) fun v38 =>
 gQ v2 true (qBuild env.P 60 (some [])) fun v39 =>
 gW v2 true H12 (callRes env true (limf env) (limt env 0) H12 (⟨0, 63, Heap.gen H12 0 63, 0⟩ : Ref) (some (.fn (.func 35) [] [])) [v38, v39]) fun v40 H13 =>
 doQ (pickF (some v2) (some v40) (some (.v (.bool false)))) fun v41 =>
 Q v41 H13) (
 doQ (qLoad env.P (Heap.get H12) 60 (some v35)) fun v38 =>
 doW (callRes env true (limf env) (limt env 0) H12 (⟨0, 67, Heap.gen H12 0 67, 0⟩ : Ref) (some (.fn (.func 33) [] [])) [v38]) fun v39 H13 =>
 doQ (qExtract (some v39) 0) fun v40 =>
 doQ (qExtract (some v39) 1) fun v41 =>
 gQ v2 true (qVal (some v41)) fun v42 =>
 gQ v2 true (qBin env.P .eql 36 (.tmp 72) (.const (.int .i64 0)) (some v42) (some (.v (.int .i64 0)))) fun v43 =>
 doQ (pickF (some v2) (some v43) (some (.v (.bool false)))) fun v44 =>
 gQ v44 true (qVal (some v40)) fun v45 =>
 gQ v44 true (qConvert env.P (Heap.get H13) (⟨0, 77, Heap.gen H13 0 77, 0⟩ : Ref) 34 9 (some v45)) fun v46 =>
 gQ v44 true (qVal (some x1)) fun v47 =>
 gQ v44 true (qConvert env.P (Heap.get H13) (⟨0, 79, Heap.gen H13 0 79, 0⟩ : Ref) 34 9 (some v47)) fun v48 =>
 gQ v44 true (qBin env.P .eql 9 (.tmp 77) (.tmp 79) (some v46) (some v48)) fun v49 =>
 doQ (pickF (some v44) (some v49) (some (.v (.bool false)))) fun v50 =>
 Q v50 H13))) (
 doW (callRes env true (limf env) (limt env 0) H4 (⟨0, 54, Heap.gen H4 0 54, 0⟩ : Ref) (some (.fn (.func 34) [] [])) [x1]) fun v17 H5 =>
 doQ (qExtract (some v17) 0) fun v18 =>
 doQ (qExtract (some v17) 1) fun v19 =>
 doW (nRes H5 (⟨0, 10, Heap.gen H5 0 10, 0⟩ : Ref) (qAlloc env.P (⟨0, 10, Heap.gen H5 0 10, 0⟩ : Ref) 60)) fun v20 H6 =>
 doW (wStore env.P H6 60 (some v20) (some v18)) fun v21 H7 =>
 doQ (qBin env.P .neq 36 (.tmp 57) (.const (.int .i64 0)) (some v19) (some (.v (.int .i64 0)))) fun v22 =>
 br (some v22) (
 gQ v2 true (qLoad env.P (Heap.get H7) 60 (some v20)) fun v23 =>
 gQ v2 true (qBuild env.P 60 (some [])) fun v24 =>
 gW v2 true H7 (callRes env true (limf env) (limt env 0) H7 (⟨0, 63, Heap.gen H7 0 63, 0⟩ : Ref) (some (.fn (.func 35) [] [])) [v23, v24]) fun v25 H8 =>
 doQ (pickF (some v2) (some v25) (some (.v (.bool false)))) fun v26 =>
 Q v26 H8) (
 doQ (qLoad env.P (Heap.get H7) 60 (some v20)) fun v23 =>
 doW (callRes env true (limf env) (limt env 0) H7 (⟨0, 67, Heap.gen H7 0 67, 0⟩ : Ref) (some (.fn (.func 33) [] [])) [v23]) fun v24 H8 =>
 doQ (qExtract (some v24) 0) fun v25 =>
 doQ (qExtract (some v24) 1) fun v26 =>
 gQ v2 true (qVal (some v26)) fun v27 =>
 gQ v2 true (qBin env.P .eql 36 (.tmp 72) (.const (.int .i64 0)) (some v27) (some (.v (.int .i64 0)))) fun v28 =>
 doQ (pickF (some v2) (some v28) (some (.v (.bool false)))) fun v29 =>
 gQ v29 true (qVal (some v25)) fun v30 =>
 gQ v29 true (qConvert env.P (Heap.get H8) (⟨0, 77, Heap.gen H8 0 77, 0⟩ : Ref) 34 9 (some v30)) fun v31 =>
 gQ v29 true (qVal (some x1)) fun v32 =>
 gQ v29 true (qConvert env.P (Heap.get H8) (⟨0, 79, Heap.gen H8 0 79, 0⟩ : Ref) 34 9 (some v32)) fun v33 =>
 gQ v29 true (qBin env.P .eql 9 (.tmp 77) (.tmp 79) (some v31) (some v33)) fun v34 =>
 doQ (pickF (some v29) (some v34) (some (.v (.bool false)))) fun v35 =>
 Q v35 H8)))
theorem vq_blindstamplaw10_MailBack : VC_blindstamplaw10_MailBack = fun g x0 x1 H Q => wp env Try.f7 none 0 lv_blindstamplaw10_MailBack cu_blindstamplaw10_MailBack Q 500 [.code bd_blindstamplaw10_MailBack] (ofL g [(0, x0), (1, x1)]) H := by kernel_rfl
theorem vc_blindstamplaw10_MailBack (x0 x1 : AV) (H : Heap) (Q : AV → Heap → Prop) (h : ∀ g, VC_blindstamplaw10_MailBack g x0 x1 H Q) : GoL env Try.f7 0 [.code bd_blindstamplaw10_MailBack] [(0, x0), (1, x1)] H Q := ⟨fun g => wp_ok (by have h := h g; rw [vq_blindstamplaw10_MailBack] at h; exact h)⟩
end Go.Proofs.Ytehkjjcdkbcebaa
