/-
  What is to be shown of each function, computed from its code. No statement of a seat is proved here.
-/
import Derived.Test.YtehkjjcdkbcebaaRbTy
set_option linter.unusedVariables false
set_option maxRecDepth 1000000
namespace Go.Proofs.Ytehkjjcdkbcebaa
open Go.Ab
noncomputable def bd_op_Check : Code := (Try.f21.body).getD .skip
def lv_op_Check : Nat → Option (List Nat) := fun i => none
def cu_op_Check : Nat → Bool := fun i => false
def VC_op_Check (g : Nat → AV) (x0 : AV) (H : Heap) (Q : AV → Heap → Prop) : Prop :=
 doW (nRes H (⟨0, 1, Heap.gen H 0 1, 0⟩ : Ref) (qBox env.P (⟨0, 1, Heap.gen H 0 1, 0⟩ : Ref) 33 (some x0))) fun v1 H1 =>
 doQ (qFieldAddr env.P 33 (some v1) 0) fun v2 =>
 doQ (qLoad env.P (Heap.get H1) 5 (some v2)) fun v3 =>
 doQ (qBin env.P .eql 5 (.tmp 4) (.const (.int .u8 0)) (some v3) (some (a8 0))) fun v4 =>
 gQ v4 false (qFieldAddr env.P 33 (some v1) 0) fun v5 =>
 gQ v4 false (qLoad env.P (Heap.get H1) 5 (some v5)) fun v6 =>
 gQ v4 false (qBin env.P .geq 5 (.tmp 8) (.const (.int .u8 4)) (some v6) (some (a8 4))) fun v7 =>
 doQ (pickF (some v4) (some (.v (.bool true))) (some v7)) fun v8 =>
 gQ v8 false (qFieldAddr env.P 33 (some v1) 1) fun v9 =>
 gQ v8 false (qLoad env.P (Heap.get H1) 26 (some v9)) fun v10 =>
 gW v8 false H1 (callRes env false (limf env) (limt env 0) H1 (⟨0, 14, Heap.gen H1 0 14, 0⟩ : Ref) (some (.fn (.func 62) [] [])) [v10]) fun v11 H2 =>
 gQ v8 false (qBin env.P .neq 36 (.tmp 14) (.const (.int .i64 0)) (some v11) (some (.v (.int .i64 0)))) fun v12 =>
 doQ (pickF (some v8) (some (.v (.bool true))) (some v12)) fun v13 =>
 gQ v13 false (qFieldAddr env.P 33 (some v1) 2) fun v14 =>
 gQ v13 false (qLoad env.P (Heap.get H2) 3 (some v14)) fun v15 =>
 gQ v13 false (qBin env.P .lss 3 (.tmp 19) (.const (.int .i64 1)) (some v15) (some (.v (.int .i64 1)))) fun v16 =>
 doQ (pickF (some v13) (some (.v (.bool true))) (some v16)) fun v17 =>
 gQ v17 false (qFieldAddr env.P 33 (some v1) 2) fun v18 =>
 gQ v17 false (qLoad env.P (Heap.get H2) 3 (some v18)) fun v19 =>
 gQ v17 false (qBin env.P .geq 3 (.tmp 24) (.const (.int .i64 16777216)) (some v19) (some (.v (.int .i64 16777216)))) fun v20 =>
 doQ (pickF (some v17) (some (.v (.bool true))) (some v20)) fun v21 =>
 gQ v21 false (qFieldAddr env.P 33 (some v1) 3) fun v22 =>
 gQ v21 false (qLoad env.P (Heap.get H2) 30 (some v22)) fun v23 =>
 gW v21 false H2 (callRes env false (limf env) (limt env 0) H2 (⟨0, 30, Heap.gen H2 0 30, 0⟩ : Ref) (some (.fn (.func 63) [] [])) [v23]) fun v24 H3 =>
 gQ v21 false (qBin env.P .neq 36 (.tmp 30) (.const (.int .i64 0)) (some v24) (some (.v (.int .i64 0)))) fun v25 =>
 doQ (pickF (some v21) (some (.v (.bool true))) (some v25)) fun v26 =>
 gW v26 false H3 (callRes env false (limf env) (limt env 0) H3 (⟨0, 34, Heap.gen H3 0 34, 0⟩ : Ref) (some (.fn (.func 61) [] [])) []) fun v27 H4 =>
 gQ v26 false (qFieldAddr env.P 33 (some v1) 0) fun v28 =>
 gQ v26 false (qLoad env.P (Heap.get H4) 5 (some v28)) fun v29 =>
 gQ v26 false (qIndex env.P 113 (some v27) (some v29)) fun v30 =>
 gQ v26 false (qField env.P 112 (some v30) 0) fun v31 =>
 gQ v26 false (qLoad env.P (Heap.get H4) 33 (some v1)) fun v32 =>
 gW v26 false H4 (callRes env true (limf env) (limt env 0) H4 (⟨0, 40, Heap.gen H4 0 40, 0⟩ : Ref) (some v31) [v32]) fun v33 H5 =>
 gQ v26 false (qUn env.P .not (some v33)) fun v34 =>
 doQ (pickF (some v26) (some (.v (.bool true))) (some v34)) fun v35 =>
 br (some v35) (
 Q (.v (.int .i64 8)) H5) (
 Q (.v (.int .i64 0)) H5)
theorem vq_op_Check : VC_op_Check = fun g x0 H Q => wp env Try.f21 none 0 lv_op_Check cu_op_Check Q 500 [.code bd_op_Check] (ofL g [(0, x0)]) H := by kernel_rfl
theorem vc_op_Check (x0 : AV) (H : Heap) (Q : AV → Heap → Prop) (h : ∀ g, VC_op_Check g x0 H Q) : GoL env Try.f21 0 [.code bd_op_Check] [(0, x0)] H Q := ⟨fun g => wp_ok (by have h := h g; rw [vq_op_Check] at h; exact h)⟩
noncomputable def bd_op_partsF1 : Code := (Try.f89.body).getD .skip
def lv_op_partsF1 : Nat → Option (List Nat) := fun i => none
def cu_op_partsF1 : Nat → Bool := fun i => false
def VC_op_partsF1 (g : Nat → AV) (x0 : AV) (H : Heap) (Q : AV → Heap → Prop) : Prop :=
 doW (nRes H (⟨0, 1, Heap.gen H 0 1, 0⟩ : Ref) (qBox env.P (⟨0, 1, Heap.gen H 0 1, 0⟩ : Ref) 33 (some x0))) fun v1 H1 =>
 doQ (qFieldAddr env.P 33 (some v1) 4) fun v2 =>
 doQ (qLoad env.P (Heap.get H1) 28 (some v2)) fun v3 =>
 doQ (qBuild env.P 28 (some [])) fun v4 =>
 doQ (qBin env.P .eql 28 (.tmp 4) (.tmp 5) (some v3) (some v4)) fun v5 =>
 gQ v5 true (qFieldAddr env.P 33 (some v1) 6) fun v6 =>
 gQ v5 true (qLoad env.P (Heap.get H1) 31 (some v6)) fun v7 =>
 gQ v5 true (qBuiltin env.P false (Heap.get H1) (⟨0, 10, Heap.gen H1 0 10, 0⟩ : Ref) .len #[31] [v7]) fun v8 =>
 gQ v5 true (qBin env.P .eql 3 (.tmp 10) (.const (.int .i64 0)) (some v8) (some (.v (.int .i64 0)))) fun v9 =>
 doQ (pickF (some v5) (some v9) (some (.v (.bool false)))) fun v10 =>
 Q v10 H1
theorem vq_op_partsF1 : VC_op_partsF1 = fun g x0 H Q => wp env Try.f89 none 0 lv_op_partsF1 cu_op_partsF1 Q 500 [.code bd_op_partsF1] (ofL g [(0, x0)]) H := by kernel_rfl
theorem vc_op_partsF1 (x0 : AV) (H : Heap) (Q : AV → Heap → Prop) (h : ∀ g, VC_op_partsF1 g x0 H Q) : GoL env Try.f89 0 [.code bd_op_partsF1] [(0, x0)] H Q := ⟨fun g => wp_ok (by have h := h g; rw [vq_op_partsF1] at h; exact h)⟩
noncomputable def bd_op_partsF2 : Code := (Try.f90.body).getD .skip
def lv_op_partsF2 : Nat → Option (List Nat) := fun i => none
def cu_op_partsF2 : Nat → Bool := fun i => false
def VC_op_partsF2 (g : Nat → AV) (x0 : AV) (H : Heap) (Q : AV → Heap → Prop) : Prop :=
 doW (nRes H (⟨0, 1, Heap.gen H 0 1, 0⟩ : Ref) (qBox env.P (⟨0, 1, Heap.gen H 0 1, 0⟩ : Ref) 33 (some x0))) fun v1 H1 =>
 doQ (qFieldAddr env.P 33 (some v1) 5) fun v2 =>
 doQ (qLoad env.P (Heap.get H1) 24 (some v2)) fun v3 =>
 doW (callRes env false (limf env) (limt env 0) H1 (⟨0, 5, Heap.gen H1 0 5, 0⟩ : Ref) (some (.fn (.func 91) [] [])) []) fun v4 H2 =>
 doQ (qBin env.P .eql 24 (.tmp 4) (.tmp 5) (some v3) (some v4)) fun v5 =>
 Q v5 H2
theorem vq_op_partsF2 : VC_op_partsF2 = fun g x0 H Q => wp env Try.f90 none 0 lv_op_partsF2 cu_op_partsF2 Q 500 [.code bd_op_partsF2] (ofL g [(0, x0)]) H := by kernel_rfl
theorem vc_op_partsF2 (x0 : AV) (H : Heap) (Q : AV → Heap → Prop) (h : ∀ g, VC_op_partsF2 g x0 H Q) : GoL env Try.f90 0 [.code bd_op_partsF2] [(0, x0)] H Q := ⟨fun g => wp_ok (by have h := h g; rw [vq_op_partsF2] at h; exact h)⟩
noncomputable def bd_label_Least : Code := (Try.f91.body).getD .skip
def lv_label_Least : Nat → Option (List Nat) := fun i => none
def cu_label_Least : Nat → Bool := fun i => false
def VC_label_Least (g : Nat → AV) (H : Heap) (Q : AV → Heap → Prop) : Prop :=
 doW (nRes H (⟨0, 0, Heap.gen H 0 0, 0⟩ : Ref) (qAlloc env.P (⟨0, 0, Heap.gen H 0 0, 0⟩ : Ref) 24)) fun v1 H1 =>
 doQ (qBuild env.P 24 (some [])) fun v2 =>
 doW (wStore env.P H1 24 (some v1) (some v2)) fun v3 H2 =>
 doQ (readCell env.P H2 v1 24) fun v4 =>
 Q v4 H2
theorem vq_label_Least : VC_label_Least = fun g  H Q => wp env Try.f91 none 0 lv_label_Least cu_label_Least Q 500 [.code bd_label_Least] (ofL g []) H := by kernel_rfl
theorem vc_label_Least (H : Heap) (Q : AV → Heap → Prop) (h : ∀ g, VC_label_Least g  H Q) : GoL env Try.f91 0 [.code bd_label_Least] [] H Q := ⟨fun g => wp_ok (by have h := h g; rw [vq_label_Least] at h; exact h)⟩
noncomputable def bd_op_partsF3 : Code := (Try.f92.body).getD .skip
def lv_op_partsF3 : Nat → Option (List Nat) := fun i => none
def cu_op_partsF3 : Nat → Bool := fun i => false
def VC_op_partsF3 (g : Nat → AV) (x0 x1 : AV) (H : Heap) (Q : AV → Heap → Prop) : Prop :=
 doW (nRes H (⟨0, 2, Heap.gen H 0 2, 0⟩ : Ref) (qBox env.P (⟨0, 2, Heap.gen H 0 2, 0⟩ : Ref) 33 (some x0))) fun v1 H1 =>
 doQ (qFieldAddr env.P 33 (some v1) 4) fun v2 =>
 doQ (qLoad env.P (Heap.get H1) 28 (some v2)) fun v3 =>
 doQ (qBuild env.P 28 (some [])) fun v4 =>
 doQ (qBin env.P .eql 28 (.tmp 6) (.tmp 7) (some v3) (some v4)) fun v5 =>
 gQ v5 false (qFieldAddr env.P 33 (some v1) 4) fun v6 =>
 gQ v5 false (qLoad env.P (Heap.get H1) 28 (some v6)) fun v7 =>
 gW v5 false H1 (callRes env true (limf env) (limt env 0) H1 (⟨0, 12, Heap.gen H1 0 12, 0⟩ : Ref) (some (.fn (.func 84) [] [])) [v7]) fun v8 H2 =>
 gQ v5 false (qBin env.P .eql 36 (.tmp 12) (.const (.int .i64 0)) (some v8) (some (.v (.int .i64 0)))) fun v9 =>
 doQ (pickF (some v5) (some (.v (.bool true))) (some v9)) fun v10 =>
 doQ (qLoad env.P (Heap.get H2) 49 (some x1)) fun v11 =>
 doQ (qLoad env.P (Heap.get H2) 33 (some v1)) fun v12 =>
 doW (callRes env true (limf env) (limt env 0) H2 (⟨0, 17, Heap.gen H2 0 17, 0⟩ : Ref) (some v11) [v12]) fun v13 H3 =>
 gQ v13 true (qVal (some v10)) fun v14 =>
 doQ (pickF (some v13) (some v14) (some (.v (.bool false)))) fun v15 =>
 gQ v15 true (qFieldAddr env.P 33 (some v1) 3) fun v16 =>
 gQ v15 true (qFieldAddr env.P 30 (some v16) 0) fun v17 =>
 gQ v15 true (qFieldAddr env.P 28 (some v17) 0) fun v18 =>
 gQ v15 true (qLoad env.P (Heap.get H3) 26 (some v18)) fun v19 =>
 gQ v15 true (qFieldAddr env.P 33 (some v1) 1) fun v20 =>
 gQ v15 true (qLoad env.P (Heap.get H3) 26 (some v20)) fun v21 =>
 gQ v15 true (qBin env.P .eql 26 (.tmp 25) (.tmp 27) (some v19) (some v21)) fun v22 =>
 doQ (pickF (some v15) (some v22) (some (.v (.bool false)))) fun v23 =>
 gQ v23 true (qFieldAddr env.P 33 (some v1) 6) fun v24 =>
 gQ v23 true (qLoad env.P (Heap.get H3) 31 (some v24)) fun v25 =>
 gQ v23 true (qBuiltin env.P false (Heap.get H3) (⟨0, 33, Heap.gen H3 0 33, 0⟩ : Ref) .len #[31] [v25]) fun v26 =>
 gQ v23 true (qFieldAddr env.P 33 (some v1) 3) fun v27 =>
 gQ v23 true (qFieldAddr env.P 30 (some v27) 1) fun v28 =>
 gQ v23 true (qLoad env.P (Heap.get H3) 3 (some v28)) fun v29 =>
 gQ v23 true (qBin env.P .eql 3 (.tmp 33) (.tmp 36) (some v26) (some v29)) fun v30 =>
 doQ (pickF (some v23) (some v30) (some (.v (.bool false)))) fun v31 =>
 gQ v31 true (qFieldAddr env.P 33 (some v1) 6) fun v32 =>
 gQ v31 true (qLoad env.P (Heap.get H3) 31 (some v32)) fun v33 =>
 gW v31 true H3 (callRes env true (limf env) (limt env 0) H3 (⟨0, 42, Heap.gen H3 0 42, 0⟩ : Ref) (some (.fn (.func 86) [] [])) [v33]) fun v34 H4 =>
 gQ v31 true (qBin env.P .eql 36 (.tmp 42) (.const (.int .i64 0)) (some v34) (some (.v (.int .i64 0)))) fun v35 =>
 doQ (pickF (some v31) (some v35) (some (.v (.bool false)))) fun v36 =>
 Q v36 H4
theorem vq_op_partsF3 : VC_op_partsF3 = fun g x0 x1 H Q => wp env Try.f92 none 0 lv_op_partsF3 cu_op_partsF3 Q 500 [.code bd_op_partsF3] (ofL g [(0, x0), (1, x1)]) H := by kernel_rfl
theorem vc_op_partsF3 (x0 x1 : AV) (H : Heap) (Q : AV → Heap → Prop) (h : ∀ g, VC_op_partsF3 g x0 x1 H Q) : GoL env Try.f92 0 [.code bd_op_partsF3] [(0, x0), (1, x1)] H Q := ⟨fun g => wp_ok (by have h := h g; rw [vq_op_partsF3] at h; exact h)⟩
noncomputable def bd_op_partsF5 : Code := (Try.f94.body).getD .skip
def lv_op_partsF5 : Nat → Option (List Nat) := fun i => none
def cu_op_partsF5 : Nat → Bool := fun i => false
def VC_op_partsF5 (g : Nat → AV) (x0 x1 x2 : AV) (H : Heap) (Q : AV → Heap → Prop) : Prop :=
 doW (nRes H (⟨0, 3, Heap.gen H 0 3, 0⟩ : Ref) (qBox env.P (⟨0, 3, Heap.gen H 0 3, 0⟩ : Ref) 33 (some x0))) fun v1 H1 =>
 doQ (qLoad env.P (Heap.get H1) 49 (some x1)) fun v2 =>
 doQ (qLoad env.P (Heap.get H1) 33 (some v1)) fun v3 =>
 doW (callRes env true (limf env) (limt env 0) H1 (⟨0, 7, Heap.gen H1 0 7, 0⟩ : Ref) (some v2) [v3]) fun v4 H2 =>
 gQ v4 true (qLoad env.P (Heap.get H2) 49 (some x2)) fun v5 =>
 gQ v4 true (qLoad env.P (Heap.get H2) 33 (some v1)) fun v6 =>
 gW v4 true H2 (callRes env true (limf env) (limt env 0) H2 (⟨0, 11, Heap.gen H2 0 11, 0⟩ : Ref) (some v5) [v6]) fun v7 H3 =>
 doQ (pickF (some v4) (some v7) (some (.v (.bool false)))) fun v8 =>
 Q v8 H3
theorem vq_op_partsF5 : VC_op_partsF5 = fun g x0 x1 x2 H Q => wp env Try.f94 none 0 lv_op_partsF5 cu_op_partsF5 Q 500 [.code bd_op_partsF5] (ofL g [(0, x0), (1, x1), (2, x2)]) H := by kernel_rfl
theorem vc_op_partsF5 (x0 x1 x2 : AV) (H : Heap) (Q : AV → Heap → Prop) (h : ∀ g, VC_op_partsF5 g x0 x1 x2 H Q) : GoL env Try.f94 0 [.code bd_op_partsF5] [(0, x0), (1, x1), (2, x2)] H Q := ⟨fun g => wp_ok (by have h := h g; rw [vq_op_partsF5] at h; exact h)⟩
noncomputable def bd_op_partsF7 : Code := (Try.f96.body).getD .skip
def lv_op_partsF7 : Nat → Option (List Nat) := fun i => none
def cu_op_partsF7 : Nat → Bool := fun i => false
def VC_op_partsF7 (g : Nat → AV) (x0 x1 : AV) (H : Heap) (Q : AV → Heap → Prop) : Prop :=
 doW (nRes H (⟨0, 2, Heap.gen H 0 2, 0⟩ : Ref) (qBox env.P (⟨0, 2, Heap.gen H 0 2, 0⟩ : Ref) 33 (some x0))) fun v1 H1 =>
 doQ (qLoad env.P (Heap.get H1) 49 (some x1)) fun v2 =>
 doQ (qLoad env.P (Heap.get H1) 33 (some v1)) fun v3 =>
 doW (callRes env true (limf env) (limt env 0) H1 (⟨0, 6, Heap.gen H1 0 6, 0⟩ : Ref) (some v2) [v3]) fun v4 H2 =>
 gQ v4 true (qFieldAddr env.P 33 (some v1) 5) fun v5 =>
 gQ v4 true (qLoad env.P (Heap.get H2) 24 (some v5)) fun v6 =>
 gW v4 true H2 (callRes env true (limf env) (limt env 0) H2 (⟨0, 10, Heap.gen H2 0 10, 0⟩ : Ref) (some (.fn (.func 97) [] [])) [v6]) fun v7 H3 =>
 gQ v4 true (qBin env.P .eql 36 (.tmp 10) (.const (.int .i64 0)) (some v7) (some (.v (.int .i64 0)))) fun v8 =>
 doQ (pickF (some v4) (some v8) (some (.v (.bool false)))) fun v9 =>
 Q v9 H3
theorem vq_op_partsF7 : VC_op_partsF7 = fun g x0 x1 H Q => wp env Try.f96 none 0 lv_op_partsF7 cu_op_partsF7 Q 500 [.code bd_op_partsF7] (ofL g [(0, x0), (1, x1)]) H := by kernel_rfl
theorem vc_op_partsF7 (x0 x1 : AV) (H : Heap) (Q : AV → Heap → Prop) (h : ∀ g, VC_op_partsF7 g x0 x1 H Q) : GoL env Try.f96 0 [.code bd_op_partsF7] [(0, x0), (1, x1)] H Q := ⟨fun g => wp_ok (by have h := h g; rw [vq_op_partsF7] at h; exact h)⟩
noncomputable def bd_op_Same : Code := (Try.f30.body).getD .skip
def lv_op_Same : Nat → Option (List Nat) := fun i => none
def cu_op_Same : Nat → Bool := fun i => false
def VC_op_Same (g : Nat → AV) (x0 x1 : AV) (H : Heap) (Q : AV → Heap → Prop) : Prop :=
 doW (nRes H (⟨0, 2, Heap.gen H 0 2, 0⟩ : Ref) (qBox env.P (⟨0, 2, Heap.gen H 0 2, 0⟩ : Ref) 33 (some x0))) fun v1 H1 =>
 doW (nRes H1 (⟨0, 3, Heap.gen H1 0 3, 0⟩ : Ref) (qBox env.P (⟨0, 3, Heap.gen H1 0 3, 0⟩ : Ref) 33 (some x1))) fun v2 H2 =>
 doQ (qLoad env.P (Heap.get H2) 33 (some v1)) fun v3 =>
 doQ (qLoad env.P (Heap.get H2) 33 (some v2)) fun v4 =>
 doW (nRes H2 (⟨0, 5, Heap.gen H2 0 5, 0⟩ : Ref) (qAlloc env.P (⟨0, 5, Heap.gen H2 0 5, 0⟩ : Ref) 33)) fun v5 H3 =>
 doW (nRes H3 (⟨0, 6, Heap.gen H3 0 6, 0⟩ : Ref) (qAlloc env.P (⟨0, 6, Heap.gen H3 0 6, 0⟩ : Ref) 33)) fun v6 H4 =>
 doW (wStore env.P H4 33 (some v5) (some v3)) fun v7 H5 =>
 doW (wStore env.P H5 33 (some v6) (some v4)) fun v8 H6 =>
  apartV [(v2, v5)] [v5, v6] [] H6 ∧
 (doQ (qFieldAddr env.P 33 (some v5) 0) fun v9 =>
 doQ (qLoad env.P (Heap.get H6) 5 (some v9)) fun v10 =>
 doQ (qFieldAddr env.P 33 (some v6) 0) fun v11 =>
 doQ (qLoad env.P (Heap.get H6) 5 (some v11)) fun v12 =>
 doQ (qBin env.P .eql 5 (.tmp 10) (.tmp 12) (some v10) (some v12)) fun v13 =>
 gQ v13 true (qFieldAddr env.P 33 (some v5) 1) fun v14 =>
 gQ v13 true (qLoad env.P (Heap.get H6) 26 (some v14)) fun v15 =>
 gQ v13 true (qFieldAddr env.P 33 (some v6) 1) fun v16 =>
 gQ v13 true (qLoad env.P (Heap.get H6) 26 (some v16)) fun v17 =>
 gQ v13 true (qBin env.P .eql 26 (.tmp 16) (.tmp 18) (some v15) (some v17)) fun v18 =>
 doQ (pickF (some v13) (some v18) (some (.v (.bool false)))) fun v19 =>
 gQ v19 true (qFieldAddr env.P 33 (some v5) 2) fun v20 =>
 gQ v19 true (qLoad env.P (Heap.get H6) 3 (some v20)) fun v21 =>
 gQ v19 true (qFieldAddr env.P 33 (some v6) 2) fun v22 =>
 gQ v19 true (qLoad env.P (Heap.get H6) 3 (some v22)) fun v23 =>
 gQ v19 true (qBin env.P .eql 3 (.tmp 23) (.tmp 25) (some v21) (some v23)) fun v24 =>
 doQ (pickF (some v19) (some v24) (some (.v (.bool false)))) fun v25 =>
 gQ v25 true (qFieldAddr env.P 33 (some v5) 3) fun v26 =>
 gQ v25 true (qLoad env.P (Heap.get H6) 30 (some v26)) fun v27 =>
 gQ v25 true (qFieldAddr env.P 33 (some v6) 3) fun v28 =>
 gQ v25 true (qLoad env.P (Heap.get H6) 30 (some v28)) fun v29 =>
 gQ v25 true (qBin env.P .eql 30 (.tmp 30) (.tmp 32) (some v27) (some v29)) fun v30 =>
 doQ (pickF (some v25) (some v30) (some (.v (.bool false)))) fun v31 =>
 gQ v31 true (qFieldAddr env.P 33 (some v5) 4) fun v32 =>
 gQ v31 true (qLoad env.P (Heap.get H6) 28 (some v32)) fun v33 =>
 gQ v31 true (qFieldAddr env.P 33 (some v6) 4) fun v34 =>
 gQ v31 true (qLoad env.P (Heap.get H6) 28 (some v34)) fun v35 =>
 gQ v31 true (qBin env.P .eql 28 (.tmp 37) (.tmp 39) (some v33) (some v35)) fun v36 =>
 doQ (pickF (some v31) (some v36) (some (.v (.bool false)))) fun v37 =>
 gQ v37 true (qFieldAddr env.P 33 (some v5) 5) fun v38 =>
 gQ v37 true (qLoad env.P (Heap.get H6) 24 (some v38)) fun v39 =>
 gQ v37 true (qFieldAddr env.P 33 (some v6) 5) fun v40 =>
 gQ v37 true (qLoad env.P (Heap.get H6) 24 (some v40)) fun v41 =>
 gQ v37 true (qBin env.P .eql 24 (.tmp 44) (.tmp 46) (some v39) (some v41)) fun v42 =>
 doQ (pickF (some v37) (some v42) (some (.v (.bool false)))) fun v43 =>
 gQ v43 true (qFieldAddr env.P 33 (some v5) 6) fun v44 =>
 gQ v43 true (qLoad env.P (Heap.get H6) 31 (some v44)) fun v45 =>
 gQ v43 true (qFieldAddr env.P 33 (some v6) 6) fun v46 =>
 gQ v43 true (qLoad env.P (Heap.get H6) 31 (some v46)) fun v47 =>
 gW v43 true H6 (callRes env true (limf env) (limt env 0) H6 (⟨0, 54, Heap.gen H6 0 54, 0⟩ : Ref) (some (.fn (.func 71) [] [])) [v45, v47]) fun v48 H7 =>
 doQ (pickF (some v43) (some v48) (some (.v (.bool false)))) fun v49 =>
 Q v49 H7)
theorem vq_op_Same : VC_op_Same = fun g x0 x1 H Q => wp env Try.f30 none 0 lv_op_Same cu_op_Same Q 500 [.code bd_op_Same] (ofL g [(0, x0), (1, x1)]) H := by kernel_rfl
theorem vc_op_Same (x0 x1 : AV) (H : Heap) (Q : AV → Heap → Prop) (h : ∀ g, VC_op_Same g x0 x1 H Q) : GoL env Try.f30 0 [.code bd_op_Same] [(0, x0), (1, x1)] H Q := ⟨fun g => wp_ok (by have h := h g; rw [vq_op_Same] at h; exact h)⟩
noncomputable def bd_op_Plain : Code := (Try.f22.body).getD .skip
def lv_op_Plain : Nat → Option (List Nat) := fun i => none
def cu_op_Plain : Nat → Bool := fun i => false
def VC_op_Plain (g : Nat → AV) (x0 : AV) (H : Heap) (Q : AV → Heap → Prop) : Prop :=
 doW (nRes H (⟨0, 1, Heap.gen H 0 1, 0⟩ : Ref) (qBox env.P (⟨0, 1, Heap.gen H 0 1, 0⟩ : Ref) 33 (some x0))) fun v1 H1 =>
 doQ (qFieldAddr env.P 33 (some v1) 6) fun v2 =>
 doQ (qLoad env.P (Heap.get H1) 31 (some v2)) fun v3 =>
 doW (callRes env true (limf env) (limt env 0) H1 (⟨0, 5, Heap.gen H1 0 5, 0⟩ : Ref) (some (.fn (.func 64) [] [])) [v3, (.v (.int .i32 (-1)))]) fun v4 H2 =>
 doQ (qUn env.P .not (some v4)) fun v5 =>
 Q v5 H2
theorem vq_op_Plain : VC_op_Plain = fun g x0 H Q => wp env Try.f22 none 0 lv_op_Plain cu_op_Plain Q 500 [.code bd_op_Plain] (ofL g [(0, x0)]) H := by kernel_rfl
theorem vc_op_Plain (x0 : AV) (H : Heap) (Q : AV → Heap → Prop) (h : ∀ g, VC_op_Plain g x0 H Q) : GoL env Try.f22 0 [.code bd_op_Plain] [(0, x0)] H Q := ⟨fun g => wp_ok (by have h := h g; rw [vq_op_Plain] at h; exact h)⟩
noncomputable def bd_slices_Contains___int32_int32_ : Code := (Try.f64.body).getD .skip
def lv_slices_Contains___int32_int32_ : Nat → Option (List Nat) := fun i => none
def cu_slices_Contains___int32_int32_ : Nat → Bool := fun i => false
def VC_slices_Contains___int32_int32_ (g : Nat → AV) (x0 x1 : AV) (H : Heap) (Q : AV → Heap → Prop) : Prop :=
 doW (callRes env true (limf env) (limt env 0) H (⟨0, 7, Heap.gen H 0 7, 0⟩ : Ref) (some (.fn (.func 100) [] [])) [x0, x1]) fun v1 H1 =>
 doQ (qBin env.P .geq 3 (.tmp 7) (.const (.int .i64 0)) (some v1) (some (.v (.int .i64 0)))) fun v2 =>
 Q v2 H1
theorem vq_slices_Contains___int32_int32_ : VC_slices_Contains___int32_int32_ = fun g x0 x1 H Q => wp env Try.f64 none 0 lv_slices_Contains___int32_int32_ cu_slices_Contains___int32_int32_ Q 500 [.code bd_slices_Contains___int32_int32_] (ofL g [(0, x0), (1, x1)]) H := by kernel_rfl
theorem vc_slices_Contains___int32_int32_ (x0 x1 : AV) (H : Heap) (Q : AV → Heap → Prop) (h : ∀ g, VC_slices_Contains___int32_int32_ g x0 x1 H Q) : GoL env Try.f64 0 [.code bd_slices_Contains___int32_int32_] [(0, x0), (1, x1)] H Q := ⟨fun g => wp_ok (by have h := h g; rw [vq_slices_Contains___int32_int32_] at h; exact h)⟩
noncomputable def bd_slices_Index___int32_int32_ : Code := (Try.f100.body).getD .skip
noncomputable def hd_slices_Index___int32_int32__2 : List Item := (findLoop 2 400 [.code bd_slices_Index___int32_int32_]).getD []
def lv_slices_Index___int32_int32_ : Nat → Option (List Nat) := fun i => cond (Nat.beq i 2) (some [8, 0, 1, 7]) (none)
def cu_slices_Index___int32_int32_ : Nat → Bool := fun i => false
def VC_slices_Index___int32_int32_ (g : Nat → AV) (x0 x1 : AV) (H : Heap) (Q : AV → Heap → Prop) : Prop :=
 doQ (qBuiltin env.P false (Heap.get H) (⟨0, 7, Heap.gen H 0 7, 0⟩ : Ref) .len #[31] [x0]) fun v1 =>
  GoL env Try.f100 0 hd_slices_Index___int32_int32__2 [(8, (.v (.int .i64 0))), (0, x0), (1, x1), (7, v1)] H Q
theorem vq_slices_Index___int32_int32_ : VC_slices_Index___int32_int32_ = fun g x0 x1 H Q => wp env Try.f100 none 0 lv_slices_Index___int32_int32_ cu_slices_Index___int32_int32_ Q 500 [.code bd_slices_Index___int32_int32_] (ofL g [(0, x0), (1, x1)]) H := by kernel_rfl
theorem vc_slices_Index___int32_int32_ (x0 x1 : AV) (H : Heap) (Q : AV → Heap → Prop) (h : ∀ g, VC_slices_Index___int32_int32_ g x0 x1 H Q) : GoL env Try.f100 0 [.code bd_slices_Index___int32_int32_] [(0, x0), (1, x1)] H Q := ⟨fun g => wp_ok (by have h := h g; rw [vq_slices_Index___int32_int32_] at h; exact h)⟩
def VC_slices_Index___int32_int32__2 (g : Nat → AV) (x8 x0 x1 x7 : AV) (H : Heap) (Q : AV → Heap → Prop) : Prop :=
 doQ (qBin env.P .lss 3 (.tmp 8) (.tmp 7) (some x8) (some x7)) fun v1 =>
 br (some v1) (
 doQ (qIndexAddr env.P (Heap.get H) 31 (some x0) (some x8)) fun v2 =>
 doQ (qLoad env.P (Heap.get H) 21 (some v2)) fun v3 =>
 doQ (qBin env.P .eql 21 (.tmp 11) (.tmp 15) (some x1) (some v3)) fun v4 =>
 br (some v4) (
 Q x8 H) (
 doQ (qBin env.P .add 3 (.tmp 8) (.const (.int .i64 1)) (some x8) (some (.v (.int .i64 1)))) fun v5 =>
    GoL env Try.f100 0 hd_slices_Index___int32_int32__2 [(8, v5), (0, x0), (1, x1), (7, x7)] H Q)) (
 Q (.v (.int .i64 (-1))) H)
theorem vq_slices_Index___int32_int32__2 : VC_slices_Index___int32_int32__2 = fun g x8 x0 x1 x7 H Q => wp env Try.f100 none 0 lv_slices_Index___int32_int32_ cu_slices_Index___int32_int32_ Q 500 (bodyOf hd_slices_Index___int32_int32__2) (ofL g [(8, x8), (0, x0), (1, x1), (7, x7)]) H := by kernel_rfl
theorem vc_slices_Index___int32_int32__2 (x8 x0 x1 x7 : AV) (H : Heap) (Q : AV → Heap → Prop) (h : ∀ g, VC_slices_Index___int32_int32__2 g x8 x0 x1 x7 H Q) : GoL env Try.f100 0 hd_slices_Index___int32_int32__2 [(8, x8), (0, x0), (1, x1), (7, x7)] H Q := goL_body fun g => wp_ok (by have h := h g; rw [vq_slices_Index___int32_int32__2] at h; exact h)
end Go.Proofs.Ytehkjjcdkbcebaa
