/-
  What is to be shown of each function, computed from its code. No statement of a seat is proved here.
-/
import Derived.Test.YtjampffmlnplcaaRcTy
set_option linter.unusedVariables false
set_option maxRecDepth 1000000
namespace Go.Proofs.Ytjampffmlnplcaa
open Go.Ab

/- op_Check -/
noncomputable def bd_op_Check : Code := (Try.f80.body).getD .skip
def lv_op_Check : Nat → Option (List Nat) := fun i => none
def cu_op_Check : Nat → Bool := fun i => false
def VC_op_Check (g : Nat → AV) (x0 : AV) (H : Heap) (Q : AV → Heap → Prop) : Prop :=
  doW (nRes H (⟨0, 1, Heap.gen H 0 1, 0⟩ : Ref) (qBox env.P (⟨0, 1, Heap.gen H 0 1, 0⟩ : Ref) 49 (some x0))) fun v1 H1 =>
  doQ (qFieldAddr env.P 49 (some v1) 0) fun v2 =>
  doQ (qLoad env.P (Heap.get H1) 5 (some v2)) fun v3 =>
  doQ (qBin env.P .eql 5 (.tmp 4) (.const (.int .u8 0)) (some v3) (some (a8 0))) fun v4 =>
  gQ v4 false (qFieldAddr env.P 49 (some v1) 0) fun v5 =>
  gQ v4 false (qLoad env.P (Heap.get H1) 5 (some v5)) fun v6 =>
  gQ v4 false (qBin env.P .geq 5 (.tmp 8) (.const (.int .u8 4)) (some v6) (some (a8 4))) fun v7 =>
  doQ (pickF (some v4) (some (.v (.bool true))) (some v7)) fun v8 =>
  gQ v8 false (qFieldAddr env.P 49 (some v1) 1) fun v9 =>
  gQ v8 false (qLoad env.P (Heap.get H1) 26 (some v9)) fun v10 =>
  gW v8 false H1 (callRes env false (limf env) (limt env 0) H1 (⟨0, 14, Heap.gen H1 0 14, 0⟩ : Ref) (some (.fn (.func 113) [] [])) [v10]) fun v11 H2 =>
  gQ v8 false (qBin env.P .neq 35 (.tmp 14) (.const (.int .i64 0)) (some v11) (some (.v (.int .i64 0)))) fun v12 =>
  doQ (pickF (some v8) (some (.v (.bool true))) (some v12)) fun v13 =>
  gQ v13 false (qFieldAddr env.P 49 (some v1) 2) fun v14 =>
  gQ v13 false (qLoad env.P (Heap.get H2) 3 (some v14)) fun v15 =>
  gQ v13 false (qBin env.P .lss 3 (.tmp 19) (.const (.int .i64 1)) (some v15) (some (.v (.int .i64 1)))) fun v16 =>
  doQ (pickF (some v13) (some (.v (.bool true))) (some v16)) fun v17 =>
  gQ v17 false (qFieldAddr env.P 49 (some v1) 2) fun v18 =>
  gQ v17 false (qLoad env.P (Heap.get H2) 3 (some v18)) fun v19 =>
  gQ v17 false (qBin env.P .geq 3 (.tmp 24) (.const (.int .i64 16777216)) (some v19) (some (.v (.int .i64 16777216)))) fun v20 =>
  doQ (pickF (some v17) (some (.v (.bool true))) (some v20)) fun v21 =>
  gQ v21 false (qFieldAddr env.P 49 (some v1) 3) fun v22 =>
  gQ v21 false (qLoad env.P (Heap.get H2) 30 (some v22)) fun v23 =>
  gW v21 false H2 (callRes env false (limf env) (limt env 0) H2 (⟨0, 30, Heap.gen H2 0 30, 0⟩ : Ref) (some (.fn (.func 78) [] [])) [v23]) fun v24 H3 =>
  gQ v21 false (qBin env.P .neq 35 (.tmp 30) (.const (.int .i64 0)) (some v24) (some (.v (.int .i64 0)))) fun v25 =>
  doQ (pickF (some v21) (some (.v (.bool true))) (some v25)) fun v26 =>
  gW v26 false H3 (callRes env false (limf env) (limt env 0) H3 (⟨0, 34, Heap.gen H3 0 34, 0⟩ : Ref) (some (.fn (.func 117) [] [])) []) fun v27 H4 =>
  gQ v26 false (qFieldAddr env.P 49 (some v1) 0) fun v28 =>
  gQ v26 false (qLoad env.P (Heap.get H4) 5 (some v28)) fun v29 =>
  gQ v26 false (qIndex env.P 164 (some v27) (some v29)) fun v30 =>
  gQ v26 false (qField env.P 163 (some v30) 0) fun v31 =>
  gQ v26 false (qLoad env.P (Heap.get H4) 49 (some v1)) fun v32 =>
  gW v26 false H4 (callRes env true (limf env) (limt env 0) H4 (⟨0, 40, Heap.gen H4 0 40, 0⟩ : Ref) (some v31) [v32]) fun v33 H5 =>
  gQ v26 false (qUn env.P .not (some v33)) fun v34 =>
  doQ (pickF (some v26) (some (.v (.bool true))) (some v34)) fun v35 =>
  br (some v35) (
   Q (.v (.int .i64 8)) H5) (
   Q (.v (.int .i64 0)) H5)
theorem vq_op_Check : VC_op_Check = fun g x0 H Q => wp env Try.f80 none 0 lv_op_Check cu_op_Check Q 500 [.code bd_op_Check] (ofL g [(0, x0)]) H := by kernel_rfl
theorem vc_op_Check (x0 : AV) (H : Heap) (Q : AV → Heap → Prop) (h : ∀ g, VC_op_Check g x0 H Q) : GoL env Try.f80 0 [.code bd_op_Check] [(0, x0)] H Q := ⟨fun g => wp_ok (by have h := h g; rw [vq_op_Check] at h; exact h)⟩

/- op_parts -/
noncomputable def bd_op_parts : Code := (Try.f117.body).getD .skip
def lv_op_parts : Nat → Option (List Nat) := fun i => none
def cu_op_parts : Nat → Bool := fun i => false
def VC_op_parts (g : Nat → AV) (H : Heap) (Q : AV → Heap → Prop) : Prop :=
  doW (nRes H (⟨0, 0, Heap.gen H 0 0, 0⟩ : Ref) (qAlloc env.P (⟨0, 0, Heap.gen H 0 0, 0⟩ : Ref) 164)) fun v1 H1 =>
  doW (nRes H1 (⟨0, 1, Heap.gen H1 0 1, 0⟩ : Ref) (qAlloc env.P (⟨0, 1, Heap.gen H1 0 1, 0⟩ : Ref) 130)) fun v2 H2 =>
  doW (wStore env.P H2 130 (some v2) (some (.fn (.func 140) [] []))) fun v3 H3 =>
  doW (nRes H3 (⟨0, 2, Heap.gen H3 0 2, 0⟩ : Ref) (qAlloc env.P (⟨0, 2, Heap.gen H3 0 2, 0⟩ : Ref) 130)) fun v4 H4 =>
  doW (wStore env.P H4 130 (some v4) (some (.fn (.func 141) [] []))) fun v5 H5 =>
  doQ (qFunc (.func 143) (some []) (some [v4])) fun v6 =>
  doQ (qBuild env.P 163 (some [(0, v6), (1, (.fn (.func 144) [] []))])) fun v7 =>
  doQ (qFunc (.func 145) (some []) (some [v4, v2])) fun v8 =>
  doQ (qBuild env.P 163 (some [(0, v8), (1, (.fn (.func 146) [] []))])) fun v9 =>
  doQ (qFunc (.func 147) (some []) (some [v2])) fun v10 =>
  doQ (qBuild env.P 163 (some [(0, v10), (1, (.fn (.func 148) [] []))])) fun v11 =>
  doQ (qBuild env.P 164 (some [(1, v7), (2, v9), (3, v11)])) fun v12 =>
  doW (wStore env.P H5 164 (some v1) (some v12)) fun v13 H6 =>
  doQ (readCell env.P H6 v1 164) fun v14 =>
  Q v14 H6
theorem vq_op_parts : VC_op_parts = fun g  H Q => wp env Try.f117 none 0 lv_op_parts cu_op_parts Q 500 [.code bd_op_parts] (ofL g []) H := by kernel_rfl
theorem vc_op_parts (H : Heap) (Q : AV → Heap → Prop) (h : ∀ g, VC_op_parts g  H Q) : GoL env Try.f117 0 [.code bd_op_parts] [] H Q := ⟨fun g => wp_ok (by have h := h g; rw [vq_op_parts] at h; exact h)⟩

/- op_partsF1 -/
noncomputable def bd_op_partsF1 : Code := (Try.f140.body).getD .skip
def lv_op_partsF1 : Nat → Option (List Nat) := fun i => none
def cu_op_partsF1 : Nat → Bool := fun i => false
def VC_op_partsF1 (g : Nat → AV) (x0 : AV) (H : Heap) (Q : AV → Heap → Prop) : Prop :=
  doW (nRes H (⟨0, 1, Heap.gen H 0 1, 0⟩ : Ref) (qBox env.P (⟨0, 1, Heap.gen H 0 1, 0⟩ : Ref) 49 (some x0))) fun v1 H1 =>
  doQ (qFieldAddr env.P 49 (some v1) 4) fun v2 =>
  doQ (qLoad env.P (Heap.get H1) 28 (some v2)) fun v3 =>
  doQ (qBuild env.P 28 (some [])) fun v4 =>
  doQ (qBin env.P .eql 28 (.tmp 4) (.tmp 5) (some v3) (some v4)) fun v5 =>
  gQ v5 true (qFieldAddr env.P 49 (some v1) 6) fun v6 =>
  gQ v5 true (qLoad env.P (Heap.get H1) 31 (some v6)) fun v7 =>
  gQ v5 true (qBuiltin env.P false (Heap.get H1) (⟨0, 10, Heap.gen H1 0 10, 0⟩ : Ref) .len #[31] [v7]) fun v8 =>
  gQ v5 true (qBin env.P .eql 3 (.tmp 10) (.const (.int .i64 0)) (some v8) (some (.v (.int .i64 0)))) fun v9 =>
  doQ (pickF (some v5) (some v9) (some (.v (.bool false)))) fun v10 =>
  Q v10 H1
theorem vq_op_partsF1 : VC_op_partsF1 = fun g x0 H Q => wp env Try.f140 none 0 lv_op_partsF1 cu_op_partsF1 Q 500 [.code bd_op_partsF1] (ofL g [(0, x0)]) H := by kernel_rfl
theorem vc_op_partsF1 (x0 : AV) (H : Heap) (Q : AV → Heap → Prop) (h : ∀ g, VC_op_partsF1 g x0 H Q) : GoL env Try.f140 0 [.code bd_op_partsF1] [(0, x0)] H Q := ⟨fun g => wp_ok (by have h := h g; rw [vq_op_partsF1] at h; exact h)⟩

/- op_partsF2 -/
noncomputable def bd_op_partsF2 : Code := (Try.f141.body).getD .skip
def lv_op_partsF2 : Nat → Option (List Nat) := fun i => none
def cu_op_partsF2 : Nat → Bool := fun i => false
def VC_op_partsF2 (g : Nat → AV) (x0 : AV) (H : Heap) (Q : AV → Heap → Prop) : Prop :=
  doW (nRes H (⟨0, 1, Heap.gen H 0 1, 0⟩ : Ref) (qBox env.P (⟨0, 1, Heap.gen H 0 1, 0⟩ : Ref) 49 (some x0))) fun v1 H1 =>
  doQ (qFieldAddr env.P 49 (some v1) 5) fun v2 =>
  doQ (qLoad env.P (Heap.get H1) 24 (some v2)) fun v3 =>
  doW (callRes env false (limf env) (limt env 0) H1 (⟨0, 5, Heap.gen H1 0 5, 0⟩ : Ref) (some (.fn (.func 142) [] [])) []) fun v4 H2 =>
  doQ (qBin env.P .eql 24 (.tmp 4) (.tmp 5) (some v3) (some v4)) fun v5 =>
  Q v5 H2
theorem vq_op_partsF2 : VC_op_partsF2 = fun g x0 H Q => wp env Try.f141 none 0 lv_op_partsF2 cu_op_partsF2 Q 500 [.code bd_op_partsF2] (ofL g [(0, x0)]) H := by kernel_rfl
theorem vc_op_partsF2 (x0 : AV) (H : Heap) (Q : AV → Heap → Prop) (h : ∀ g, VC_op_partsF2 g x0 H Q) : GoL env Try.f141 0 [.code bd_op_partsF2] [(0, x0)] H Q := ⟨fun g => wp_ok (by have h := h g; rw [vq_op_partsF2] at h; exact h)⟩

/- label_Least -/
noncomputable def bd_label_Least : Code := (Try.f142.body).getD .skip
def lv_label_Least : Nat → Option (List Nat) := fun i => none
def cu_label_Least : Nat → Bool := fun i => false
def VC_label_Least (g : Nat → AV) (H : Heap) (Q : AV → Heap → Prop) : Prop :=
  doW (nRes H (⟨0, 0, Heap.gen H 0 0, 0⟩ : Ref) (qAlloc env.P (⟨0, 0, Heap.gen H 0 0, 0⟩ : Ref) 24)) fun v1 H1 =>
  doQ (qBuild env.P 24 (some [])) fun v2 =>
  doW (wStore env.P H1 24 (some v1) (some v2)) fun v3 H2 =>
  doQ (readCell env.P H2 v1 24) fun v4 =>
  Q v4 H2
theorem vq_label_Least : VC_label_Least = fun g  H Q => wp env Try.f142 none 0 lv_label_Least cu_label_Least Q 500 [.code bd_label_Least] (ofL g []) H := by kernel_rfl
theorem vc_label_Least (H : Heap) (Q : AV → Heap → Prop) (h : ∀ g, VC_label_Least g  H Q) : GoL env Try.f142 0 [.code bd_label_Least] [] H Q := ⟨fun g => wp_ok (by have h := h g; rw [vq_label_Least] at h; exact h)⟩

/- op_partsF3 -/
noncomputable def bd_op_partsF3 : Code := (Try.f143.body).getD .skip
def lv_op_partsF3 : Nat → Option (List Nat) := fun i => none
def cu_op_partsF3 : Nat → Bool := fun i => false
def VC_op_partsF3 (g : Nat → AV) (x0 x1 : AV) (H : Heap) (Q : AV → Heap → Prop) : Prop :=
  doW (nRes H (⟨0, 2, Heap.gen H 0 2, 0⟩ : Ref) (qBox env.P (⟨0, 2, Heap.gen H 0 2, 0⟩ : Ref) 49 (some x0))) fun v1 H1 =>
  doQ (qFieldAddr env.P 49 (some v1) 4) fun v2 =>
  doQ (qLoad env.P (Heap.get H1) 28 (some v2)) fun v3 =>
  doQ (qBuild env.P 28 (some [])) fun v4 =>
  doQ (qBin env.P .eql 28 (.tmp 6) (.tmp 7) (some v3) (some v4)) fun v5 =>
  gQ v5 false (qFieldAddr env.P 49 (some v1) 4) fun v6 =>
  gQ v5 false (qLoad env.P (Heap.get H1) 28 (some v6)) fun v7 =>
  gW v5 false H1 (callRes env true (limf env) (limt env 0) H1 (⟨0, 12, Heap.gen H1 0 12, 0⟩ : Ref) (some (.fn (.func 77) [] [])) [v7]) fun v8 H2 =>
  gQ v5 false (qBin env.P .eql 35 (.tmp 12) (.const (.int .i64 0)) (some v8) (some (.v (.int .i64 0)))) fun v9 =>
  doQ (pickF (some v5) (some (.v (.bool true))) (some v9)) fun v10 =>
  doQ (qLoad env.P (Heap.get H2) 130 (some x1)) fun v11 =>
  doQ (qLoad env.P (Heap.get H2) 49 (some v1)) fun v12 =>
  doW (callRes env true (limf env) (limt env 0) H2 (⟨0, 17, Heap.gen H2 0 17, 0⟩ : Ref) (some v11) [v12]) fun v13 H3 =>
  gQ v13 true (qVal (some v10)) fun v14 =>
  doQ (pickF (some v13) (some v14) (some (.v (.bool false)))) fun v15 =>
  gQ v15 true (qFieldAddr env.P 49 (some v1) 3) fun v16 =>
  gQ v15 true (qFieldAddr env.P 30 (some v16) 0) fun v17 =>
  gQ v15 true (qFieldAddr env.P 28 (some v17) 0) fun v18 =>
  gQ v15 true (qLoad env.P (Heap.get H3) 26 (some v18)) fun v19 =>
  gQ v15 true (qFieldAddr env.P 49 (some v1) 1) fun v20 =>
  gQ v15 true (qLoad env.P (Heap.get H3) 26 (some v20)) fun v21 =>
  gQ v15 true (qBin env.P .eql 26 (.tmp 25) (.tmp 27) (some v19) (some v21)) fun v22 =>
  doQ (pickF (some v15) (some v22) (some (.v (.bool false)))) fun v23 =>
  gQ v23 true (qFieldAddr env.P 49 (some v1) 6) fun v24 =>
  gQ v23 true (qLoad env.P (Heap.get H3) 31 (some v24)) fun v25 =>
  gQ v23 true (qBuiltin env.P false (Heap.get H3) (⟨0, 33, Heap.gen H3 0 33, 0⟩ : Ref) .len #[31] [v25]) fun v26 =>
  gQ v23 true (qFieldAddr env.P 49 (some v1) 3) fun v27 =>
  gQ v23 true (qFieldAddr env.P 30 (some v27) 1) fun v28 =>
  gQ v23 true (qLoad env.P (Heap.get H3) 3 (some v28)) fun v29 =>
  gQ v23 true (qBin env.P .eql 3 (.tmp 33) (.tmp 36) (some v26) (some v29)) fun v30 =>
  doQ (pickF (some v23) (some v30) (some (.v (.bool false)))) fun v31 =>
  gQ v31 true (qFieldAddr env.P 49 (some v1) 6) fun v32 =>
  gQ v31 true (qLoad env.P (Heap.get H3) 31 (some v32)) fun v33 =>
  gW v31 true H3 (callRes env true (limf env) (limt env 0) H3 (⟨0, 42, Heap.gen H3 0 42, 0⟩ : Ref) (some (.fn (.func 79) [] [])) [v33]) fun v34 H4 =>
  gQ v31 true (qBin env.P .eql 35 (.tmp 42) (.const (.int .i64 0)) (some v34) (some (.v (.int .i64 0)))) fun v35 =>
  doQ (pickF (some v31) (some v35) (some (.v (.bool false)))) fun v36 =>
  Q v36 H4
theorem vq_op_partsF3 : VC_op_partsF3 = fun g x0 x1 H Q => wp env Try.f143 none 0 lv_op_partsF3 cu_op_partsF3 Q 500 [.code bd_op_partsF3] (ofL g [(0, x0), (1, x1)]) H := by kernel_rfl
theorem vc_op_partsF3 (x0 x1 : AV) (H : Heap) (Q : AV → Heap → Prop) (h : ∀ g, VC_op_partsF3 g x0 x1 H Q) : GoL env Try.f143 0 [.code bd_op_partsF3] [(0, x0), (1, x1)] H Q := ⟨fun g => wp_ok (by have h := h g; rw [vq_op_partsF3] at h; exact h)⟩

/- op_partsF5 -/
noncomputable def bd_op_partsF5 : Code := (Try.f145.body).getD .skip
def lv_op_partsF5 : Nat → Option (List Nat) := fun i => none
def cu_op_partsF5 : Nat → Bool := fun i => false
def VC_op_partsF5 (g : Nat → AV) (x0 x1 x2 : AV) (H : Heap) (Q : AV → Heap → Prop) : Prop :=
  doW (nRes H (⟨0, 3, Heap.gen H 0 3, 0⟩ : Ref) (qBox env.P (⟨0, 3, Heap.gen H 0 3, 0⟩ : Ref) 49 (some x0))) fun v1 H1 =>
  doQ (qLoad env.P (Heap.get H1) 130 (some x1)) fun v2 =>
  doQ (qLoad env.P (Heap.get H1) 49 (some v1)) fun v3 =>
  doW (callRes env true (limf env) (limt env 0) H1 (⟨0, 7, Heap.gen H1 0 7, 0⟩ : Ref) (some v2) [v3]) fun v4 H2 =>
  gQ v4 true (qLoad env.P (Heap.get H2) 130 (some x2)) fun v5 =>
  gQ v4 true (qLoad env.P (Heap.get H2) 49 (some v1)) fun v6 =>
  gW v4 true H2 (callRes env true (limf env) (limt env 0) H2 (⟨0, 11, Heap.gen H2 0 11, 0⟩ : Ref) (some v5) [v6]) fun v7 H3 =>
  doQ (pickF (some v4) (some v7) (some (.v (.bool false)))) fun v8 =>
  Q v8 H3
theorem vq_op_partsF5 : VC_op_partsF5 = fun g x0 x1 x2 H Q => wp env Try.f145 none 0 lv_op_partsF5 cu_op_partsF5 Q 500 [.code bd_op_partsF5] (ofL g [(0, x0), (1, x1), (2, x2)]) H := by kernel_rfl
theorem vc_op_partsF5 (x0 x1 x2 : AV) (H : Heap) (Q : AV → Heap → Prop) (h : ∀ g, VC_op_partsF5 g x0 x1 x2 H Q) : GoL env Try.f145 0 [.code bd_op_partsF5] [(0, x0), (1, x1), (2, x2)] H Q := ⟨fun g => wp_ok (by have h := h g; rw [vq_op_partsF5] at h; exact h)⟩

/- op_partsF7 -/
noncomputable def bd_op_partsF7 : Code := (Try.f147.body).getD .skip
def lv_op_partsF7 : Nat → Option (List Nat) := fun i => none
def cu_op_partsF7 : Nat → Bool := fun i => false
def VC_op_partsF7 (g : Nat → AV) (x0 x1 : AV) (H : Heap) (Q : AV → Heap → Prop) : Prop :=
  doW (nRes H (⟨0, 2, Heap.gen H 0 2, 0⟩ : Ref) (qBox env.P (⟨0, 2, Heap.gen H 0 2, 0⟩ : Ref) 49 (some x0))) fun v1 H1 =>
  doQ (qLoad env.P (Heap.get H1) 130 (some x1)) fun v2 =>
  doQ (qLoad env.P (Heap.get H1) 49 (some v1)) fun v3 =>
  doW (callRes env true (limf env) (limt env 0) H1 (⟨0, 6, Heap.gen H1 0 6, 0⟩ : Ref) (some v2) [v3]) fun v4 H2 =>
  gQ v4 true (qFieldAddr env.P 49 (some v1) 5) fun v5 =>
  gQ v4 true (qLoad env.P (Heap.get H2) 24 (some v5)) fun v6 =>
  gW v4 true H2 (callRes env true (limf env) (limt env 0) H2 (⟨0, 10, Heap.gen H2 0 10, 0⟩ : Ref) (some (.fn (.func 125) [] [])) [v6]) fun v7 H3 =>
  gQ v4 true (qBin env.P .eql 35 (.tmp 10) (.const (.int .i64 0)) (some v7) (some (.v (.int .i64 0)))) fun v8 =>
  doQ (pickF (some v4) (some v8) (some (.v (.bool false)))) fun v9 =>
  Q v9 H3
theorem vq_op_partsF7 : VC_op_partsF7 = fun g x0 x1 H Q => wp env Try.f147 none 0 lv_op_partsF7 cu_op_partsF7 Q 500 [.code bd_op_partsF7] (ofL g [(0, x0), (1, x1)]) H := by kernel_rfl
theorem vc_op_partsF7 (x0 x1 : AV) (H : Heap) (Q : AV → Heap → Prop) (h : ∀ g, VC_op_partsF7 g x0 x1 H Q) : GoL env Try.f147 0 [.code bd_op_partsF7] [(0, x0), (1, x1)] H Q := ⟨fun g => wp_ok (by have h := h g; rw [vq_op_partsF7] at h; exact h)⟩

/- blindstampref09_May -/
noncomputable def bd_blindstampref09_May : Code := (Try.f82.body).getD .skip
def lv_blindstampref09_May : Nat → Option (List Nat) := fun i => none
def cu_blindstampref09_May : Nat → Bool := fun i => false
def VC_blindstampref09_May (g : Nat → AV) (x0 : AV) (H : Heap) (Q : AV → Heap → Prop) : Prop :=
  doW (nRes H (⟨0, 1, Heap.gen H 0 1, 0⟩ : Ref) (qBox env.P (⟨0, 1, Heap.gen H 0 1, 0⟩ : Ref) 49 (some x0))) fun v1 H1 =>
  doQ (qFieldAddr env.P 49 (some v1) 1) fun v2 =>
  doQ (qLoad env.P (Heap.get H1) 26 (some v2)) fun v3 =>
  doW (callRes env true (limf env) (limt env 0) H1 (⟨0, 6, Heap.gen H1 0 6, 0⟩ : Ref) (some (.fn (.func 118) [] [])) [v3]) fun v4 H2 =>
  doQ (qUn env.P .not (some v4)) fun v5 =>
  gQ v5 false (qFieldAddr env.P 49 (some v1) 2) fun v6 =>
  gQ v5 false (qLoad env.P (Heap.get H2) 3 (some v6)) fun v7 =>
  gQ v5 false (qBin env.P .lss 3 (.tmp 10) (.const (.int .i64 1)) (some v7) (some (.v (.int .i64 1)))) fun v8 =>
  doQ (pickF (some v5) (some (.v (.bool true))) (some v8)) fun v9 =>
  gQ v9 false (qFieldAddr env.P 49 (some v1) 2) fun v10 =>
  gQ v9 false (qLoad env.P (Heap.get H2) 3 (some v10)) fun v11 =>
  gQ v9 false (qBin env.P .geq 3 (.tmp 15) (.const (.int .i64 16777216)) (some v11) (some (.v (.int .i64 16777216)))) fun v12 =>
  doQ (pickF (some v9) (some (.v (.bool true))) (some v12)) fun v13 =>
  gQ v13 false (qFieldAddr env.P 49 (some v1) 3) fun v14 =>
  gQ v13 false (qLoad env.P (Heap.get H2) 30 (some v14)) fun v15 =>
  gW v13 false H2 (callRes env true (limf env) (limt env 0) H2 (⟨0, 21, Heap.gen H2 0 21, 0⟩ : Ref) (some (.fn (.func 119) [] [])) [v15]) fun v16 H3 =>
  gQ v13 false (qUn env.P .not (some v16)) fun v17 =>
  doQ (pickF (some v13) (some (.v (.bool true))) (some v17)) fun v18 =>
  br (some v18) (
   Q (.v (.bool false)) H3) (
   doQ (qFieldAddr env.P 49 (some v1) 5) fun v19 =>
   doQ (qLoad env.P (Heap.get H3) 24 (some v19)) fun v20 =>
   doQ (qBuild env.P 24 (some [])) fun v21 =>
   doQ (qBin env.P .eql 24 (.tmp 25) (.tmp 26) (some v20) (some v21)) fun v22 =>
   doQ (qFieldAddr env.P 49 (some v1) 0) fun v23 =>
   doQ (qLoad env.P (Heap.get H3) 5 (some v23)) fun v24 =>
   doQ (qBin env.P .eql 5 (.tmp 29) (.const (.int .u8 1)) (some v24) (some (a8 1))) fun v25 =>
   br (some v25) (
    gQ v22 true (qFieldAddr env.P 49 (some v1) 4) fun v26 =>
    gQ v22 true (qLoad env.P (Heap.get H3) 28 (some v26)) fun v27 =>
    gW v22 true H3 (callRes env true (limf env) (limt env 0) H3 (⟨0, 35, Heap.gen H3 0 35, 0⟩ : Ref) (some (.fn (.func 120) [] [])) [v27]) fun v28 H4 =>
    gQ v22 true (qVal (some v28)) fun v29 =>
    gQ v29 false (qFieldAddr env.P 49 (some v1) 4) fun v30 =>
    gQ v29 false (qLoad env.P (Heap.get H4) 28 (some v30)) fun v31 =>
    gW v29 false H4 (callRes env true (limf env) (limt env 0) H4 (⟨0, 39, Heap.gen H4 0 39, 0⟩ : Ref) (some (.fn (.func 121) [] [])) [v31]) fun v32 H5 =>
    gQ v22 true (pickF (some v29) (some (.v (.bool true))) (some v32)) fun v33 =>
    doQ (pickF (some v22) (some v33) (some (.v (.bool false)))) fun v34 =>
    gQ v34 true (qFieldAddr env.P 49 (some v1) 3) fun v35 =>
    gQ v34 true (qFieldAddr env.P 30 (some v35) 0) fun v36 =>
    gQ v34 true (qFieldAddr env.P 28 (some v36) 0) fun v37 =>
    gQ v34 true (qLoad env.P (Heap.get H5) 26 (some v37)) fun v38 =>
    gQ v34 true (qFieldAddr env.P 49 (some v1) 1) fun v39 =>
    gQ v34 true (qLoad env.P (Heap.get H5) 26 (some v39)) fun v40 =>
    gQ v34 true (qBin env.P .eql 26 (.tmp 46) (.tmp 48) (some v38) (some v40)) fun v41 =>
    doQ (pickF (some v34) (some v41) (some (.v (.bool false)))) fun v42 =>
    gQ v42 true (qFieldAddr env.P 49 (some v1) 6) fun v43 =>
    gQ v42 true (qLoad env.P (Heap.get H5) 31 (some v43)) fun v44 =>
    gQ v42 true (qBuiltin env.P false (Heap.get H5) (⟨0, 54, Heap.gen H5 0 54, 0⟩ : Ref) .len #[31] [v44]) fun v45 =>
    gQ v42 true (qFieldAddr env.P 49 (some v1) 3) fun v46 =>
    gQ v42 true (qFieldAddr env.P 30 (some v46) 1) fun v47 =>
    gQ v42 true (qLoad env.P (Heap.get H5) 3 (some v47)) fun v48 =>
    gQ v42 true (qBin env.P .eql 3 (.tmp 54) (.tmp 57) (some v45) (some v48)) fun v49 =>
    doQ (pickF (some v42) (some v49) (some (.v (.bool false)))) fun v50 =>
    gQ v50 true (qFieldAddr env.P 49 (some v1) 6) fun v51 =>
    gQ v50 true (qLoad env.P (Heap.get H5) 31 (some v51)) fun v52 =>
    gW v50 true H5 (callRes env true (limf env) (limt env 0) H5 (⟨0, 63, Heap.gen H5 0 63, 0⟩ : Ref) (some (.fn (.func 122) [] [])) [v52]) fun v53 H6 =>
    gQ v50 true (qBin env.P .eql 3 (.tmp 63) (.const (.int .i64 0)) (some v53) (some (.v (.int .i64 0)))) fun v54 =>
    doQ (pickF (some v50) (some v54) (some (.v (.bool false)))) fun v55 =>
    Q v55 H6) (
    doQ (qFieldAddr env.P 49 (some v1) 4) fun v26 =>
    doQ (qLoad env.P (Heap.get H3) 28 (some v26)) fun v27 =>
    doW (callRes env true (limf env) (limt env 0) H3 (⟨0, 68, Heap.gen H3 0 68, 0⟩ : Ref) (some (.fn (.func 120) [] [])) [v27]) fun v28 H4 =>
    doQ (qUn env.P .not (some v28)) fun v29 =>
    gQ v29 false (qFieldAddr env.P 49 (some v1) 6) fun v30 =>
    gQ v29 false (qLoad env.P (Heap.get H4) 31 (some v30)) fun v31 =>
    gQ v29 false (qBuiltin env.P false (Heap.get H4) (⟨0, 73, Heap.gen H4 0 73, 0⟩ : Ref) .len #[31] [v31]) fun v32 =>
    gQ v29 false (qBin env.P .gtr 3 (.tmp 73) (.const (.int .i64 0)) (some v32) (some (.v (.int .i64 0)))) fun v33 =>
    doQ (pickF (some v29) (some (.v (.bool true))) (some v33)) fun v34 =>
    br (some v34) (
     Q (.v (.bool false)) H4) (
     doQ (qFieldAddr env.P 49 (some v1) 0) fun v35 =>
     doQ (qLoad env.P (Heap.get H4) 5 (some v35)) fun v36 =>
     doQ (qBin env.P .eql 5 (.tmp 77) (.const (.int .u8 2)) (some v36) (some (a8 2))) fun v37 =>
     gQ v37 true (qVal (some v22)) fun v38 =>
     doQ (pickF (some v37) (some v38) (some (.v (.bool false)))) fun v39 =>
     gQ v39 false (qFieldAddr env.P 49 (some v1) 0) fun v40 =>
     gQ v39 false (qLoad env.P (Heap.get H4) 5 (some v40)) fun v41 =>
     gQ v39 false (qBin env.P .eql 5 (.tmp 84) (.const (.int .u8 3)) (some v41) (some (a8 3))) fun v42 =>
     gQ v39 false (qVal (some v42)) fun v43 =>
     gQ v43 true (qFieldAddr env.P 49 (some v1) 5) fun v44 =>
     gQ v43 true (qLoad env.P (Heap.get H4) 24 (some v44)) fun v45 =>
     gW v43 true H4 (callRes env true (limf env) (limt env 0) H4 (⟨0, 89, Heap.gen H4 0 89, 0⟩ : Ref) (some (.fn (.func 123) [] [])) [v45]) fun v46 H5 =>
     gQ v39 false (pickF (some v43) (some v46) (some (.v (.bool false)))) fun v47 =>
     doQ (pickF (some v39) (some (.v (.bool true))) (some v47)) fun v48 =>
     Q v48 H5)))
theorem vq_blindstampref09_May : VC_blindstampref09_May = fun g x0 H Q => wp env Try.f82 none 0 lv_blindstampref09_May cu_blindstampref09_May Q 500 [.code bd_blindstampref09_May] (ofL g [(0, x0)]) H := by kernel_rfl
theorem vc_blindstampref09_May (x0 : AV) (H : Heap) (Q : AV → Heap → Prop) (h : ∀ g, VC_blindstampref09_May g x0 H Q) : GoL env Try.f82 0 [.code bd_blindstampref09_May] [(0, x0)] H Q := ⟨fun g => wp_ok (by have h := h g; rw [vq_blindstampref09_May] at h; exact h)⟩

/- blindstampref05_MayHandle -/
noncomputable def bd_blindstampref05_MayHandle : Code := (Try.f118.body).getD .skip
def lv_blindstampref05_MayHandle : Nat → Option (List Nat) := fun i => none
def cu_blindstampref05_MayHandle : Nat → Bool := fun i => false
def VC_blindstampref05_MayHandle (g : Nat → AV) (x0 : AV) (H : Heap) (Q : AV → Heap → Prop) : Prop :=
  doW (nRes H (⟨0, 1, Heap.gen H 0 1, 0⟩ : Ref) (qBox env.P (⟨0, 1, Heap.gen H 0 1, 0⟩ : Ref) 26 (some x0))) fun v1 H1 =>
  doQ (qFieldAddr env.P 26 (some v1) 0) fun v2 =>
  doQ (qLoad env.P (Heap.get H1) 24 (some v2)) fun v3 =>
  doW (callRes env true (limf env) (limt env 0) H1 (⟨0, 5, Heap.gen H1 0 5, 0⟩ : Ref) (some (.fn (.func 123) [] [])) [v3]) fun v4 H2 =>
  gQ v4 true (qFieldAddr env.P 26 (some v1) 1) fun v5 =>
  gQ v4 true (qLoad env.P (Heap.get H2) 5 (some v5)) fun v6 =>
  gQ v4 true (qBin env.P .lss 5 (.tmp 8) (.const (.int .u8 8)) (some v6) (some (a8 8))) fun v7 =>
  doQ (pickF (some v4) (some v7) (some (.v (.bool false)))) fun v8 =>
  Q v8 H2
theorem vq_blindstampref05_MayHandle : VC_blindstampref05_MayHandle = fun g x0 H Q => wp env Try.f118 none 0 lv_blindstampref05_MayHandle cu_blindstampref05_MayHandle Q 500 [.code bd_blindstampref05_MayHandle] (ofL g [(0, x0)]) H := by kernel_rfl
theorem vc_blindstampref05_MayHandle (x0 : AV) (H : Heap) (Q : AV → Heap → Prop) (h : ∀ g, VC_blindstampref05_MayHandle g x0 H Q) : GoL env Try.f118 0 [.code bd_blindstampref05_MayHandle] [(0, x0)] H Q := ⟨fun g => wp_ok (by have h := h g; rw [vq_blindstampref05_MayHandle] at h; exact h)⟩

/- blindstampref05_MaySpan -/
noncomputable def bd_blindstampref05_MaySpan : Code := (Try.f119.body).getD .skip
def lv_blindstampref05_MaySpan : Nat → Option (List Nat) := fun i => none
def cu_blindstampref05_MaySpan : Nat → Bool := fun i => false
def VC_blindstampref05_MaySpan (g : Nat → AV) (x0 : AV) (H : Heap) (Q : AV → Heap → Prop) : Prop :=
  doW (nRes H (⟨0, 1, Heap.gen H 0 1, 0⟩ : Ref) (qBox env.P (⟨0, 1, Heap.gen H 0 1, 0⟩ : Ref) 30 (some x0))) fun v1 H1 =>
  doQ (qFieldAddr env.P 30 (some v1) 0) fun v2 =>
  doQ (qLoad env.P (Heap.get H1) 28 (some v2)) fun v3 =>
  doW (callRes env true (limf env) (limt env 0) H1 (⟨0, 5, Heap.gen H1 0 5, 0⟩ : Ref) (some (.fn (.func 121) [] [])) [v3]) fun v4 H2 =>
  gQ v4 true (qFieldAddr env.P 30 (some v1) 1) fun v5 =>
  gQ v4 true (qLoad env.P (Heap.get H2) 3 (some v5)) fun v6 =>
  gQ v4 true (qBin env.P .geq 3 (.tmp 8) (.const (.int .i64 1)) (some v6) (some (.v (.int .i64 1)))) fun v7 =>
  doQ (pickF (some v4) (some v7) (some (.v (.bool false)))) fun v8 =>
  gQ v8 true (qFieldAddr env.P 30 (some v1) 1) fun v9 =>
  gQ v8 true (qLoad env.P (Heap.get H2) 3 (some v9)) fun v10 =>
  gQ v8 true (qBin env.P .leq 3 (.tmp 13) (.const (.int .i64 64)) (some v10) (some (.v (.int .i64 64)))) fun v11 =>
  doQ (pickF (some v8) (some v11) (some (.v (.bool false)))) fun v12 =>
  gQ v12 true (qFieldAddr env.P 30 (some v1) 0) fun v13 =>
  gQ v12 true (qFieldAddr env.P 28 (some v13) 1) fun v14 =>
  gQ v12 true (qLoad env.P (Heap.get H2) 3 (some v14)) fun v15 =>
  gQ v12 true (qFieldAddr env.P 30 (some v1) 1) fun v16 =>
  gQ v12 true (qLoad env.P (Heap.get H2) 3 (some v16)) fun v17 =>
  gQ v12 true (qBin env.P .sub 3 (.const (.int .i64 1099511627777)) (.tmp 21) (some (.v (.int .i64 1099511627777))) (some v17)) fun v18 =>
  gQ v12 true (qBin env.P .leq 3 (.tmp 19) (.tmp 22) (some v15) (some v18)) fun v19 =>
  doQ (pickF (some v12) (some v19) (some (.v (.bool false)))) fun v20 =>
  Q v20 H2
theorem vq_blindstampref05_MaySpan : VC_blindstampref05_MaySpan = fun g x0 H Q => wp env Try.f119 none 0 lv_blindstampref05_MaySpan cu_blindstampref05_MaySpan Q 500 [.code bd_blindstampref05_MaySpan] (ofL g [(0, x0)]) H := by kernel_rfl
theorem vc_blindstampref05_MaySpan (x0 : AV) (H : Heap) (Q : AV → Heap → Prop) (h : ∀ g, VC_blindstampref05_MaySpan g x0 H Q) : GoL env Try.f119 0 [.code bd_blindstampref05_MaySpan] [(0, x0)] H Q := ⟨fun g => wp_ok (by have h := h g; rw [vq_blindstampref05_MaySpan] at h; exact h)⟩

/- blindstampref09_zero -/
noncomputable def bd_blindstampref09_zero : Code := (Try.f120.body).getD .skip
def lv_blindstampref09_zero : Nat → Option (List Nat) := fun i => none
def cu_blindstampref09_zero : Nat → Bool := fun i => false
def VC_blindstampref09_zero (g : Nat → AV) (x0 : AV) (H : Heap) (Q : AV → Heap → Prop) : Prop :=
  doW (nRes H (⟨0, 1, Heap.gen H 0 1, 0⟩ : Ref) (qBox env.P (⟨0, 1, Heap.gen H 0 1, 0⟩ : Ref) 28 (some x0))) fun v1 H1 =>
  doQ (qLoad env.P (Heap.get H1) 28 (some v1)) fun v2 =>
  doQ (qBuild env.P 28 (some [])) fun v3 =>
  doQ (qBin env.P .eql 28 (.tmp 3) (.tmp 4) (some v2) (some v3)) fun v4 =>
  Q v4 H1
theorem vq_blindstampref09_zero : VC_blindstampref09_zero = fun g x0 H Q => wp env Try.f120 none 0 lv_blindstampref09_zero cu_blindstampref09_zero Q 500 [.code bd_blindstampref09_zero] (ofL g [(0, x0)]) H := by kernel_rfl
theorem vc_blindstampref09_zero (x0 : AV) (H : Heap) (Q : AV → Heap → Prop) (h : ∀ g, VC_blindstampref09_zero g x0 H Q) : GoL env Try.f120 0 [.code bd_blindstampref09_zero] [(0, x0)] H Q := ⟨fun g => wp_ok (by have h := h g; rw [vq_blindstampref09_zero] at h; exact h)⟩

/- blindstampref05_May -/
noncomputable def bd_blindstampref05_May : Code := (Try.f121.body).getD .skip
def lv_blindstampref05_May : Nat → Option (List Nat) := fun i => none
def cu_blindstampref05_May : Nat → Bool := fun i => false
def VC_blindstampref05_May (g : Nat → AV) (x0 : AV) (H : Heap) (Q : AV → Heap → Prop) : Prop :=
  doW (nRes H (⟨0, 1, Heap.gen H 0 1, 0⟩ : Ref) (qBox env.P (⟨0, 1, Heap.gen H 0 1, 0⟩ : Ref) 28 (some x0))) fun v1 H1 =>
  doQ (qFieldAddr env.P 28 (some v1) 0) fun v2 =>
  doQ (qLoad env.P (Heap.get H1) 26 (some v2)) fun v3 =>
  doW (callRes env true (limf env) (limt env 0) H1 (⟨0, 5, Heap.gen H1 0 5, 0⟩ : Ref) (some (.fn (.func 118) [] [])) [v3]) fun v4 H2 =>
  gQ v4 true (qFieldAddr env.P 28 (some v1) 1) fun v5 =>
  gQ v4 true (qLoad env.P (Heap.get H2) 3 (some v5)) fun v6 =>
  gQ v4 true (qBin env.P .geq 3 (.tmp 8) (.const (.int .i64 1)) (some v6) (some (.v (.int .i64 1)))) fun v7 =>
  doQ (pickF (some v4) (some v7) (some (.v (.bool false)))) fun v8 =>
  gQ v8 true (qFieldAddr env.P 28 (some v1) 1) fun v9 =>
  gQ v8 true (qLoad env.P (Heap.get H2) 3 (some v9)) fun v10 =>
  gQ v8 true (qBin env.P .leq 3 (.tmp 13) (.const (.int .i64 1099511627776)) (some v10) (some (.v (.int .i64 1099511627776)))) fun v11 =>
  doQ (pickF (some v8) (some v11) (some (.v (.bool false)))) fun v12 =>
  Q v12 H2
theorem vq_blindstampref05_May : VC_blindstampref05_May = fun g x0 H Q => wp env Try.f121 none 0 lv_blindstampref05_May cu_blindstampref05_May Q 500 [.code bd_blindstampref05_May] (ofL g [(0, x0)]) H := by kernel_rfl
theorem vc_blindstampref05_May (x0 : AV) (H : Heap) (Q : AV → Heap → Prop) (h : ∀ g, VC_blindstampref05_May g x0 H Q) : GoL env Try.f121 0 [.code bd_blindstampref05_May] [(0, x0)] H Q := ⟨fun g => wp_ok (by have h := h g; rw [vq_blindstampref05_May] at h; exact h)⟩

/- blindstampref04_Check -/
noncomputable def bd_blindstampref04_Check : Code := (Try.f122.body).getD .skip
noncomputable def hd_blindstampref04_Check_4 : List Item := (findLoop 4 400 [.code bd_blindstampref04_Check]).getD []
def lv_blindstampref04_Check : Nat → Option (List Nat) := fun i => cond (Nat.beq i 4) (some [3, 0]) (none)
def cu_blindstampref04_Check : Nat → Bool := fun i => false
def VC_blindstampref04_Check (g : Nat → AV) (x0 : AV) (H : Heap) (Q : AV → Heap → Prop) : Prop :=
  doQ (qBuiltin env.P false (Heap.get H) (⟨0, 5, Heap.gen H 0 5, 0⟩ : Ref) .len #[31] [x0]) fun v1 =>
  doQ (qBin env.P .gtr 3 (.tmp 5) (.const (.int .i64 64)) (some v1) (some (.v (.int .i64 64)))) fun v2 =>
  br (some v2) (
   Q (.v (.int .i64 4)) H) (
   GoL env Try.f122 0 hd_blindstampref04_Check_4 [(3, (.v (.int .i64 0))), (0, x0)] H Q)
theorem vq_blindstampref04_Check : VC_blindstampref04_Check = fun g x0 H Q => wp env Try.f122 none 0 lv_blindstampref04_Check cu_blindstampref04_Check Q 500 [.code bd_blindstampref04_Check] (ofL g [(0, x0)]) H := by kernel_rfl
theorem vc_blindstampref04_Check (x0 : AV) (H : Heap) (Q : AV → Heap → Prop) (h : ∀ g, VC_blindstampref04_Check g x0 H Q) : GoL env Try.f122 0 [.code bd_blindstampref04_Check] [(0, x0)] H Q := ⟨fun g => wp_ok (by have h := h g; rw [vq_blindstampref04_Check] at h; exact h)⟩
def VC_blindstampref04_Check_4 (g : Nat → AV) (x3 x0 : AV) (H : Heap) (Q : AV → Heap → Prop) : Prop :=
  doQ (qBuiltin env.P false (Heap.get H) (⟨0, 9, Heap.gen H 0 9, 0⟩ : Ref) .len #[31] [x0]) fun v1 =>
  doQ (qBin env.P .lss 3 (.tmp 7) (.tmp 9) (some x3) (some v1)) fun v2 =>
  br (some v2) (
   doQ (qIndexAddr env.P (Heap.get H) 31 (some x0) (some x3)) fun v3 =>
   doQ (qLoad env.P (Heap.get H) 21 (some v3)) fun v4 =>
   doQ (qBin env.P .neq 21 (.tmp 16) (.const (.int .i32 (-1))) (some v4) (some (.v (.int .i32 (-1))))) fun v5 =>
   gQ v5 true (qVal (some x0)) fun v6 =>
   gQ v5 true (qVal (some x3)) fun v7 =>
   gQ v5 true (qIndexAddr env.P (Heap.get H) 31 (some v6) (some v7)) fun v8 =>
   gQ v5 true (qLoad env.P (Heap.get H) 21 (some v8)) fun v9 =>
   gQ v5 true (qConvert env.P (Heap.get H) (⟨0, 23, Heap.gen H 0 23, 0⟩ : Ref) 21 3 (some v9)) fun v10 =>
   gW v5 true H (callRes env true (limf env) (limt env 0) H (⟨0, 24, Heap.gen H 0 24, 0⟩ : Ref) (some (.fn (.func 149) [] [])) [v10]) fun v11 H1 =>
   gQ v5 true (qUn env.P .not (some v11)) fun v12 =>
   doQ (pickF (some v5) (some v12) (some (.v (.bool false)))) fun v13 =>
   br (some v13) (
    Q (.v (.int .i64 8)) H1) (
    doQ (qBin env.P .add 3 (.tmp 11) (.const (.int .i64 1)) (some x3) (some (.v (.int .i64 1)))) fun v14 =>
    GoL env Try.f122 0 hd_blindstampref04_Check_4 [(3, v14), (0, x0)] H1 Q)) (
   Q (.v (.int .i64 0)) H)
theorem vq_blindstampref04_Check_4 : VC_blindstampref04_Check_4 = fun g x3 x0 H Q => wp env Try.f122 none 0 lv_blindstampref04_Check cu_blindstampref04_Check Q 500 (bodyOf hd_blindstampref04_Check_4) (ofL g [(3, x3), (0, x0)]) H := by kernel_rfl
theorem vc_blindstampref04_Check_4 (x3 x0 : AV) (H : Heap) (Q : AV → Heap → Prop) (h : ∀ g, VC_blindstampref04_Check_4 g x3 x0 H Q) : GoL env Try.f122 0 hd_blindstampref04_Check_4 [(3, x3), (0, x0)] H Q := goL_body fun g => wp_ok (by have h := h g; rw [vq_blindstampref04_Check_4] at h; exact h)

/- blindstampref01_May -/
noncomputable def bd_blindstampref01_May : Code := (Try.f123.body).getD .skip
def lv_blindstampref01_May : Nat → Option (List Nat) := fun i => none
def cu_blindstampref01_May : Nat → Bool := fun i => false
def VC_blindstampref01_May (g : Nat → AV) (x0 : AV) (H : Heap) (Q : AV → Heap → Prop) : Prop :=
  doW (nRes H (⟨0, 1, Heap.gen H 0 1, 0⟩ : Ref) (qBox env.P (⟨0, 1, Heap.gen H 0 1, 0⟩ : Ref) 24 (some x0))) fun v1 H1 =>
  doQ (qFieldAddr env.P 24 (some v1) 0) fun v2 =>
  doQ (qLoad env.P (Heap.get H1) 5 (some v2)) fun v3 =>
  doQ (qBin env.P .leq 5 (.tmp 4) (.const (.int .u8 15)) (some v3) (some (a8 15))) fun v4 =>
  Q v4 H1
theorem vq_blindstampref01_May : VC_blindstampref01_May = fun g x0 H Q => wp env Try.f123 none 0 lv_blindstampref01_May cu_blindstampref01_May Q 500 [.code bd_blindstampref01_May] (ofL g [(0, x0)]) H := by kernel_rfl
theorem vc_blindstampref01_May (x0 : AV) (H : Heap) (Q : AV → Heap → Prop) (h : ∀ g, VC_blindstampref01_May g x0 H Q) : GoL env Try.f123 0 [.code bd_blindstampref01_May] [(0, x0)] H Q := ⟨fun g => wp_ok (by have h := h g; rw [vq_blindstampref01_May] at h; exact h)⟩

/- blindstampref04_Is -/
noncomputable def bd_blindstampref04_Is : Code := (Try.f149.body).getD .skip
def lv_blindstampref04_Is : Nat → Option (List Nat) := fun i => none
def cu_blindstampref04_Is : Nat → Bool := fun i => false
def VC_blindstampref04_Is (g : Nat → AV) (x0 : AV) (H : Heap) (Q : AV → Heap → Prop) : Prop :=
  doQ (qBin env.P .geq 3 (.tmp 3) (.const (.int .i64 0)) (some x0) (some (.v (.int .i64 0)))) fun v1 =>
  gQ v1 true (qVal (some x0)) fun v2 =>
  gQ v1 true (qBin env.P .leq 3 (.tmp 6) (.const (.int .i64 1114111)) (some v2) (some (.v (.int .i64 1114111)))) fun v3 =>
  doQ (pickF (some v1) (some v3) (some (.v (.bool false)))) fun v4 =>
  gQ v4 true (qVal (some x0)) fun v5 =>
  gQ v4 true (qBin env.P .lss 3 (.tmp 10) (.const (.int .i64 55296)) (some v5) (some (.v (.int .i64 55296)))) fun v6 =>
  gQ v4 true (qVal (some v6)) fun v7 =>
  gQ v7 false (qVal (some x0)) fun v8 =>
  gQ v7 false (qBin env.P .gtr 3 (.tmp 13) (.const (.int .i64 57343)) (some v8) (some (.v (.int .i64 57343)))) fun v9 =>
  gQ v4 true (pickF (some v7) (some (.v (.bool true))) (some v9)) fun v10 =>
  doQ (pickF (some v4) (some v10) (some (.v (.bool false)))) fun v11 =>
  Q v11 H
theorem vq_blindstampref04_Is : VC_blindstampref04_Is = fun g x0 H Q => wp env Try.f149 none 0 lv_blindstampref04_Is cu_blindstampref04_Is Q 500 [.code bd_blindstampref04_Is] (ofL g [(0, x0)]) H := by kernel_rfl
theorem vc_blindstampref04_Is (x0 : AV) (H : Heap) (Q : AV → Heap → Prop) (h : ∀ g, VC_blindstampref04_Is g x0 H Q) : GoL env Try.f149 0 [.code bd_blindstampref04_Is] [(0, x0)] H Q := ⟨fun g => wp_ok (by have h := h g; rw [vq_blindstampref04_Is] at h; exact h)⟩

/- blindstampref09_Twin -/
noncomputable def bd_blindstampref09_Twin : Code := (Try.f25.body).getD .skip
def lv_blindstampref09_Twin : Nat → Option (List Nat) := fun i => none
def cu_blindstampref09_Twin : Nat → Bool := fun i => false
def VC_blindstampref09_Twin (g : Nat → AV) (x0 : AV) (H : Heap) (Q : AV → Heap → Prop) : Prop :=
  doW (nRes H (⟨0, 1, Heap.gen H 0 1, 0⟩ : Ref) (qBox env.P (⟨0, 1, Heap.gen H 0 1, 0⟩ : Ref) 49 (some x0))) fun v1 H1 =>
  doW (nRes H1 (⟨0, 2, Heap.gen H1 0 2, 0⟩ : Ref) (qAlloc env.P (⟨0, 2, Heap.gen H1 0 2, 0⟩ : Ref) 49)) fun v2 H2 =>
  doQ (qFieldAddr env.P 49 (some v1) 6) fun v3 =>
  doQ (qLoad env.P (Heap.get H2) 31 (some v3)) fun v4 =>
  doW (appRes env.P true H2 (⟨0, 5, Heap.gen H2 0 5, 0⟩ : Ref) (some 31) (some 31) (.v (.slice none 0 0)) v4) fun v5 H3 =>
  doQ (qFieldAddr env.P 49 (some v1) 6) fun v6 =>
  doW (wStore env.P H3 31 (some v6) (some v5)) fun v7 H4 =>
  doQ (qLoad env.P (Heap.get H4) 49 (some v1)) fun v8 =>
  doW (wStore env.P H4 49 (some v2) (some v8)) fun v9 H5 =>
  doQ (readCell env.P H5 v2 49) fun v10 =>
  Q v10 H5
theorem vq_blindstampref09_Twin : VC_blindstampref09_Twin = fun g x0 H Q => wp env Try.f25 none 0 lv_blindstampref09_Twin cu_blindstampref09_Twin Q 500 [.code bd_blindstampref09_Twin] (ofL g [(0, x0)]) H := by kernel_rfl
theorem vc_blindstampref09_Twin (x0 : AV) (H : Heap) (Q : AV → Heap → Prop) (h : ∀ g, VC_blindstampref09_Twin g x0 H Q) : GoL env Try.f25 0 [.code bd_blindstampref09_Twin] [(0, x0)] H Q := ⟨fun g => wp_ok (by have h := h g; rw [vq_blindstampref09_Twin] at h; exact h)⟩

/- blindstampref09_Same -/
noncomputable def bd_blindstampref09_Same : Code := (Try.f34.body).getD .skip
def lv_blindstampref09_Same : Nat → Option (List Nat) := fun i => none
def cu_blindstampref09_Same : Nat → Bool := fun i => false
def VC_blindstampref09_Same (g : Nat → AV) (x0 x1 : AV) (H : Heap) (Q : AV → Heap → Prop) : Prop :=
  doW (nRes H (⟨0, 2, Heap.gen H 0 2, 0⟩ : Ref) (qBox env.P (⟨0, 2, Heap.gen H 0 2, 0⟩ : Ref) 49 (some x0))) fun v1 H1 =>
  doW (nRes H1 (⟨0, 3, Heap.gen H1 0 3, 0⟩ : Ref) (qBox env.P (⟨0, 3, Heap.gen H1 0 3, 0⟩ : Ref) 49 (some x1))) fun v2 H2 =>
  doQ (qFieldAddr env.P 49 (some v1) 0) fun v3 =>
  doQ (qLoad env.P (Heap.get H2) 5 (some v3)) fun v4 =>
  doQ (qFieldAddr env.P 49 (some v2) 0) fun v5 =>
  doQ (qLoad env.P (Heap.get H2) 5 (some v5)) fun v6 =>
  doQ (qBin env.P .eql 5 (.tmp 6) (.tmp 8) (some v4) (some v6)) fun v7 =>
  gQ v7 true (qFieldAddr env.P 49 (some v1) 1) fun v8 =>
  gQ v7 true (qLoad env.P (Heap.get H2) 26 (some v8)) fun v9 =>
  gQ v7 true (qFieldAddr env.P 49 (some v2) 1) fun v10 =>
  gQ v7 true (qLoad env.P (Heap.get H2) 26 (some v10)) fun v11 =>
  gQ v7 true (qBin env.P .eql 26 (.tmp 12) (.tmp 14) (some v9) (some v11)) fun v12 =>
  doQ (pickF (some v7) (some v12) (some (.v (.bool false)))) fun v13 =>
  gQ v13 true (qFieldAddr env.P 49 (some v1) 2) fun v14 =>
  gQ v13 true (qLoad env.P (Heap.get H2) 3 (some v14)) fun v15 =>
  gQ v13 true (qFieldAddr env.P 49 (some v2) 2) fun v16 =>
  gQ v13 true (qLoad env.P (Heap.get H2) 3 (some v16)) fun v17 =>
  gQ v13 true (qBin env.P .eql 3 (.tmp 19) (.tmp 21) (some v15) (some v17)) fun v18 =>
  doQ (pickF (some v13) (some v18) (some (.v (.bool false)))) fun v19 =>
  gQ v19 true (qFieldAddr env.P 49 (some v1) 3) fun v20 =>
  gQ v19 true (qLoad env.P (Heap.get H2) 30 (some v20)) fun v21 =>
  gQ v19 true (qFieldAddr env.P 49 (some v2) 3) fun v22 =>
  gQ v19 true (qLoad env.P (Heap.get H2) 30 (some v22)) fun v23 =>
  gQ v19 true (qBin env.P .eql 30 (.tmp 26) (.tmp 28) (some v21) (some v23)) fun v24 =>
  doQ (pickF (some v19) (some v24) (some (.v (.bool false)))) fun v25 =>
  gQ v25 true (qFieldAddr env.P 49 (some v1) 4) fun v26 =>
  gQ v25 true (qLoad env.P (Heap.get H2) 28 (some v26)) fun v27 =>
  gQ v25 true (qFieldAddr env.P 49 (some v2) 4) fun v28 =>
  gQ v25 true (qLoad env.P (Heap.get H2) 28 (some v28)) fun v29 =>
  gQ v25 true (qBin env.P .eql 28 (.tmp 33) (.tmp 35) (some v27) (some v29)) fun v30 =>
  doQ (pickF (some v25) (some v30) (some (.v (.bool false)))) fun v31 =>
  gQ v31 true (qFieldAddr env.P 49 (some v1) 5) fun v32 =>
  gQ v31 true (qLoad env.P (Heap.get H2) 24 (some v32)) fun v33 =>
  gQ v31 true (qFieldAddr env.P 49 (some v2) 5) fun v34 =>
  gQ v31 true (qLoad env.P (Heap.get H2) 24 (some v34)) fun v35 =>
  gQ v31 true (qBin env.P .eql 24 (.tmp 40) (.tmp 42) (some v33) (some v35)) fun v36 =>
  doQ (pickF (some v31) (some v36) (some (.v (.bool false)))) fun v37 =>
  gQ v37 true (qFieldAddr env.P 49 (some v1) 6) fun v38 =>
  gQ v37 true (qLoad env.P (Heap.get H2) 31 (some v38)) fun v39 =>
  gQ v37 true (qFieldAddr env.P 49 (some v2) 6) fun v40 =>
  gQ v37 true (qLoad env.P (Heap.get H2) 31 (some v40)) fun v41 =>
  gW v37 true H2 (callRes env true (limf env) (limt env 0) H2 (⟨0, 50, Heap.gen H2 0 50, 0⟩ : Ref) (some (.fn (.func 87) [] [])) [v39, v41]) fun v42 H3 =>
  doQ (pickF (some v37) (some v42) (some (.v (.bool false)))) fun v43 =>
  Q v43 H3
theorem vq_blindstampref09_Same : VC_blindstampref09_Same = fun g x0 x1 H Q => wp env Try.f34 none 0 lv_blindstampref09_Same cu_blindstampref09_Same Q 500 [.code bd_blindstampref09_Same] (ofL g [(0, x0), (1, x1)]) H := by kernel_rfl
theorem vc_blindstampref09_Same (x0 x1 : AV) (H : Heap) (Q : AV → Heap → Prop) (h : ∀ g, VC_blindstampref09_Same g x0 x1 H Q) : GoL env Try.f34 0 [.code bd_blindstampref09_Same] [(0, x0), (1, x1)] H Q := ⟨fun g => wp_ok (by have h := h g; rw [vq_blindstampref09_Same] at h; exact h)⟩

/- run_Of -/
noncomputable def bd_run_Of : Code := (Try.f23.body).getD .skip
def lv_run_Of : Nat → Option (List Nat) := fun i => none
def cu_run_Of : Nat → Bool := fun i => false
def VC_run_Of (g : Nat → AV) (x0 : AV) (H : Heap) (Q : AV → Heap → Prop) : Prop :=
  doW (nRes H (⟨0, 1, Heap.gen H 0 1, 0⟩ : Ref) (qBox env.P (⟨0, 1, Heap.gen H 0 1, 0⟩ : Ref) 49 (some x0))) fun v1 H1 =>
  doW (nRes H1 (⟨0, 2, Heap.gen H1 0 2, 0⟩ : Ref) (qAlloc env.P (⟨0, 2, Heap.gen H1 0 2, 0⟩ : Ref) 33)) fun v2 H2 =>
  doQ (qLoad env.P (Heap.get H2) 49 (some v1)) fun v3 =>
  doW (callRes env true (limf env) (limt env 0) H2 (⟨0, 7, Heap.gen H2 0 7, 0⟩ : Ref) (some (.fn (.func 80) [] [])) [v3]) fun v4 H3 =>
  doQ (qBin env.P .neq 35 (.tmp 8) (.const (.int .i64 0)) (some v4) (some (.v (.int .i64 0)))) fun v5 =>
  br (some v5) (
   doQ (qBuild env.P 33 (some [])) fun v6 =>
   doW (wStore env.P H3 33 (some v2) (some v6)) fun v7 H4 =>
   doQ (readCell env.P H4 v2 33) fun v8 =>
   Q (.tup [v8, v4]) H4) (
   doQ (qFieldAddr env.P 49 (some v1) 3) fun v6 =>
   doQ (qLoad env.P (Heap.get H3) 30 (some v6)) fun v7 =>
   doQ (qFieldAddr env.P 49 (some v1) 4) fun v8 =>
   doQ (qLoad env.P (Heap.get H3) 28 (some v8)) fun v9 =>
   doQ (qFieldAddr env.P 49 (some v1) 6) fun v10 =>
   doQ (qLoad env.P (Heap.get H3) 31 (some v10)) fun v11 =>
   doW (callRes env false (limf env) (limt env 0) H3 (⟨0, 18, Heap.gen H3 0 18, 0⟩ : Ref) (some (.fn (.func 81) [] [])) [v11]) fun v12 H4 =>
   doQ (qBuild env.P 33 (some [(0, v7), (1, v9), (2, v12)])) fun v13 =>
   doW (nRes H4 (⟨0, 5, Heap.gen H4 0 5, 0⟩ : Ref) (qAlloc env.P (⟨0, 5, Heap.gen H4 0 5, 0⟩ : Ref) 33)) fun v14 H5 =>
   doW (wStore env.P H5 33 (some v14) (some v13)) fun v15 H6 =>
   doQ (qFieldAddr env.P 49 (some v1) 0) fun v16 =>
   doQ (qLoad env.P (Heap.get H6) 5 (some v16)) fun v17 =>
   doQ (qBin env.P .neq 5 (.tmp 21) (.const (.int .u8 1)) (some v17) (some (a8 1))) fun v18 =>
   gQ v18 false (qLoad env.P (Heap.get H6) 33 (some v14)) fun v19 =>
   gW v18 false H6 (callRes env true (limf env) (limt env 0) H6 (⟨0, 25, Heap.gen H6 0 25, 0⟩ : Ref) (some (.fn (.func 19) [] [])) [v19]) fun v20 H7 =>
   gQ v18 false (qBin env.P .neq 35 (.tmp 25) (.const (.int .i64 0)) (some v20) (some (.v (.int .i64 0)))) fun v21 =>
   doQ (pickF (some v18) (some (.v (.bool true))) (some v21)) fun v22 =>
   br (some v22) (
    doQ (qBuild env.P 33 (some [])) fun v23 =>
    doW (wStore env.P H7 33 (some v2) (some v23)) fun v24 H8 =>
    doQ (readCell env.P H8 v2 33) fun v25 =>
    Q (.tup [v25, (.v (.int .i64 2))]) H8) (
    doQ (qLoad env.P (Heap.get H7) 33 (some v14)) fun v23 =>
    doW (wStore env.P H7 33 (some v2) (some v23)) fun v24 H8 =>
    doQ (readCell env.P H8 v2 33) fun v25 =>
    Q (.tup [v25, (.v (.int .i64 0))]) H8))
theorem vq_run_Of : VC_run_Of = fun g x0 H Q => wp env Try.f23 none 0 lv_run_Of cu_run_Of Q 500 [.code bd_run_Of] (ofL g [(0, x0)]) H := by kernel_rfl
theorem vc_run_Of (x0 : AV) (H : Heap) (Q : AV → Heap → Prop) (h : ∀ g, VC_run_Of g x0 H Q) : GoL env Try.f23 0 [.code bd_run_Of] [(0, x0)] H Q := ⟨fun g => wp_ok (by have h := h g; rw [vq_run_Of] at h; exact h)⟩

/- blindstampref16_Twin -/
noncomputable def bd_blindstampref16_Twin : Code := (Try.f24.body).getD .skip
def lv_blindstampref16_Twin : Nat → Option (List Nat) := fun i => none
def cu_blindstampref16_Twin : Nat → Bool := fun i => false
def VC_blindstampref16_Twin (g : Nat → AV) (x0 : AV) (H : Heap) (Q : AV → Heap → Prop) : Prop :=
  doW (nRes H (⟨0, 1, Heap.gen H 0 1, 0⟩ : Ref) (qBox env.P (⟨0, 1, Heap.gen H 0 1, 0⟩ : Ref) 33 (some x0))) fun v1 H1 =>
  doW (nRes H1 (⟨0, 2, Heap.gen H1 0 2, 0⟩ : Ref) (qAlloc env.P (⟨0, 2, Heap.gen H1 0 2, 0⟩ : Ref) 33)) fun v2 H2 =>
  doQ (qFieldAddr env.P 33 (some v1) 2) fun v3 =>
  doQ (qLoad env.P (Heap.get H2) 31 (some v3)) fun v4 =>
  doW (appRes env.P true H2 (⟨0, 5, Heap.gen H2 0 5, 0⟩ : Ref) (some 31) (some 31) (.v (.slice none 0 0)) v4) fun v5 H3 =>
  doQ (qFieldAddr env.P 33 (some v1) 2) fun v6 =>
  doW (wStore env.P H3 31 (some v6) (some v5)) fun v7 H4 =>
  doQ (qLoad env.P (Heap.get H4) 33 (some v1)) fun v8 =>
  doW (wStore env.P H4 33 (some v2) (some v8)) fun v9 H5 =>
  doQ (readCell env.P H5 v2 33) fun v10 =>
  Q v10 H5
theorem vq_blindstampref16_Twin : VC_blindstampref16_Twin = fun g x0 H Q => wp env Try.f24 none 0 lv_blindstampref16_Twin cu_blindstampref16_Twin Q 500 [.code bd_blindstampref16_Twin] (ofL g [(0, x0)]) H := by kernel_rfl
theorem vc_blindstampref16_Twin (x0 : AV) (H : Heap) (Q : AV → Heap → Prop) (h : ∀ g, VC_blindstampref16_Twin g x0 H Q) : GoL env Try.f24 0 [.code bd_blindstampref16_Twin] [(0, x0)] H Q := ⟨fun g => wp_ok (by have h := h g; rw [vq_blindstampref16_Twin] at h; exact h)⟩

/- blindstampref16_Of -/
noncomputable def bd_blindstampref16_Of : Code := (Try.f26.body).getD .skip
def lv_blindstampref16_Of : Nat → Option (List Nat) := fun i => none
def cu_blindstampref16_Of : Nat → Bool := fun i => false
def VC_blindstampref16_Of (g : Nat → AV) (x0 : AV) (H : Heap) (Q : AV → Heap → Prop) : Prop :=
  doW (nRes H (⟨0, 1, Heap.gen H 0 1, 0⟩ : Ref) (qBox env.P (⟨0, 1, Heap.gen H 0 1, 0⟩ : Ref) 49 (some x0))) fun v1 H1 =>
  doW (nRes H1 (⟨0, 2, Heap.gen H1 0 2, 0⟩ : Ref) (qAlloc env.P (⟨0, 2, Heap.gen H1 0 2, 0⟩ : Ref) 33)) fun v2 H2 =>
  doQ (qLoad env.P (Heap.get H2) 49 (some v1)) fun v3 =>
  doW (callRes env true (limf env) (limt env 0) H2 (⟨0, 6, Heap.gen H2 0 6, 0⟩ : Ref) (some (.fn (.func 82) [] [])) [v3]) fun v4 H3 =>
  doQ (qUn env.P .not (some v4)) fun v5 =>
  br (some v5) (
   doQ (qBuild env.P 33 (some [])) fun v6 =>
   doW (wStore env.P H3 33 (some v2) (some v6)) fun v7 H4 =>
   doQ (readCell env.P H4 v2 33) fun v8 =>
   Q (.tup [v8, (.v (.int .i64 8))]) H4) (
   doQ (qFieldAddr env.P 49 (some v1) 3) fun v6 =>
   doQ (qLoad env.P (Heap.get H3) 30 (some v6)) fun v7 =>
   doQ (qFieldAddr env.P 49 (some v1) 4) fun v8 =>
   doQ (qLoad env.P (Heap.get H3) 28 (some v8)) fun v9 =>
   doQ (qFieldAddr env.P 49 (some v1) 6) fun v10 =>
   doQ (qLoad env.P (Heap.get H3) 31 (some v10)) fun v11 =>
   doQ (qBuild env.P 33 (some [(0, v7), (1, v9), (2, v11)])) fun v12 =>
   doW (nRes H3 (⟨0, 4, Heap.gen H3 0 4, 0⟩ : Ref) (qAlloc env.P (⟨0, 4, Heap.gen H3 0 4, 0⟩ : Ref) 33)) fun v13 H4 =>
   doW (wStore env.P H4 33 (some v13) (some v12)) fun v14 H5 =>
   doQ (qFieldAddr env.P 49 (some v1) 0) fun v15 =>
   doQ (qLoad env.P (Heap.get H5) 5 (some v15)) fun v16 =>
   doQ (qBin env.P .neq 5 (.tmp 17) (.const (.int .u8 1)) (some v16) (some (a8 1))) fun v17 =>
   gQ v17 false (qLoad env.P (Heap.get H5) 33 (some v13)) fun v18 =>
   gW v17 false H5 (callRes env true (limf env) (limt env 0) H5 (⟨0, 21, Heap.gen H5 0 21, 0⟩ : Ref) (some (.fn (.func 83) [] [])) [v18]) fun v19 H6 =>
   gQ v17 false (qUn env.P .not (some v19)) fun v20 =>
   doQ (pickF (some v17) (some (.v (.bool true))) (some v20)) fun v21 =>
   br (some v21) (
    doQ (qBuild env.P 33 (some [])) fun v22 =>
    doW (wStore env.P H6 33 (some v2) (some v22)) fun v23 H7 =>
    doQ (readCell env.P H7 v2 33) fun v24 =>
    Q (.tup [v24, (.v (.int .i64 2))]) H7) (
    doQ (qLoad env.P (Heap.get H6) 33 (some v13)) fun v22 =>
    doW (callRes env true (limf env) (limt env 0) H6 (⟨0, 26, Heap.gen H6 0 26, 0⟩ : Ref) (some (.fn (.func 24) [] [])) [v22]) fun v23 H7 =>
    doW (wStore env.P H7 33 (some v2) (some v23)) fun v24 H8 =>
    doQ (readCell env.P H8 v2 33) fun v25 =>
    Q (.tup [v25, (.v (.int .i64 0))]) H8))
theorem vq_blindstampref16_Of : VC_blindstampref16_Of = fun g x0 H Q => wp env Try.f26 none 0 lv_blindstampref16_Of cu_blindstampref16_Of Q 500 [.code bd_blindstampref16_Of] (ofL g [(0, x0)]) H := by kernel_rfl
theorem vc_blindstampref16_Of (x0 : AV) (H : Heap) (Q : AV → Heap → Prop) (h : ∀ g, VC_blindstampref16_Of g x0 H Q) : GoL env Try.f26 0 [.code bd_blindstampref16_Of] [(0, x0)] H Q := ⟨fun g => wp_ok (by have h := h g; rw [vq_blindstampref16_Of] at h; exact h)⟩

/- blindstampref16_Cut -/
noncomputable def bd_blindstampref16_Cut : Code := (Try.f27.body).getD .skip
def lv_blindstampref16_Cut : Nat → Option (List Nat) := fun i => none
def cu_blindstampref16_Cut : Nat → Bool := fun i => false
def VC_blindstampref16_Cut (g : Nat → AV) (x0 x1 : AV) (H : Heap) (Q : AV → Heap → Prop) : Prop :=
  doW (nRes H (⟨0, 2, Heap.gen H 0 2, 0⟩ : Ref) (qBox env.P (⟨0, 2, Heap.gen H 0 2, 0⟩ : Ref) 33 (some x0))) fun v1 H1 =>
  doW (nRes H1 (⟨0, 4, Heap.gen H1 0 4, 0⟩ : Ref) (qAlloc env.P (⟨0, 4, Heap.gen H1 0 4, 0⟩ : Ref) 33)) fun v2 H2 =>
  doW (nRes H2 (⟨0, 5, Heap.gen H2 0 5, 0⟩ : Ref) (qAlloc env.P (⟨0, 5, Heap.gen H2 0 5, 0⟩ : Ref) 33)) fun v3 H3 =>
  doQ (qLoad env.P (Heap.get H3) 33 (some v1)) fun v4 =>
  doW (callRes env true (limf env) (limt env 0) H3 (⟨0, 8, Heap.gen H3 0 8, 0⟩ : Ref) (some (.fn (.func 83) [] [])) [v4]) fun v5 H4 =>
  doQ (qUn env.P .not (some v5)) fun v6 =>
  br (some v6) (
   doQ (qBuild env.P 33 (some [])) fun v7 =>
   doQ (qBuild env.P 33 (some [])) fun v8 =>
   doW (wStore env.P H4 33 (some v2) (some v7)) fun v9 H5 =>
   doW (wStore env.P H5 33 (some v3) (some v8)) fun v10 H6 =>
   doQ (readCell env.P H6 v2 33) fun v11 =>
   doQ (readCell env.P H6 v3 33) fun v12 =>
   Q (.tup [v11, v12, (.v (.int .i64 8))]) H6) (
   doQ (qBin env.P .lss 3 (.tmp 12) (.const (.int .i64 1)) (some x1) (some (.v (.int .i64 1)))) fun v7 =>
   gQ v7 false (qVal (some x1)) fun v8 =>
   gQ v7 false (qFieldAddr env.P 33 (some v1) 0) fun v9 =>
   gQ v7 false (qFieldAddr env.P 30 (some v9) 1) fun v10 =>
   gQ v7 false (qLoad env.P (Heap.get H4) 3 (some v10)) fun v11 =>
   gQ v7 false (qBin env.P .geq 3 (.tmp 15) (.tmp 18) (some v8) (some v11)) fun v12 =>
   doQ (pickF (some v7) (some (.v (.bool true))) (some v12)) fun v13 =>
   br (some v13) (
    doQ (qBuild env.P 33 (some [])) fun v14 =>
    doQ (qBuild env.P 33 (some [])) fun v15 =>
    doW (wStore env.P H4 33 (some v2) (some v14)) fun v16 H5 =>
    doW (wStore env.P H5 33 (some v3) (some v15)) fun v17 H6 =>
    doQ (readCell env.P H6 v2 33) fun v18 =>
    doQ (readCell env.P H6 v3 33) fun v19 =>
    Q (.tup [v18, v19, (.v (.int .i64 2))]) H6) (
    doQ (qLoad env.P (Heap.get H4) 33 (some v1)) fun v14 =>
    doW (callRes env false (limf env) (limt env 0) H4 (⟨0, 25, Heap.gen H4 0 25, 0⟩ : Ref) (some (.fn (.func 84) [] [])) [v14, (.v (.int .i64 0)), x1]) fun v15 H5 =>
    doQ (qLoad env.P (Heap.get H5) 33 (some v1)) fun v16 =>
    doQ (qFieldAddr env.P 33 (some v1) 0) fun v17 =>
    doQ (qFieldAddr env.P 30 (some v17) 1) fun v18 =>
    doQ (qLoad env.P (Heap.get H5) 3 (some v18)) fun v19 =>
    doQ (qBin env.P .sub 3 (.tmp 30) (.tmp 31) (some v19) (some x1)) fun v20 =>
    doW (callRes env false (limf env) (limt env 0) H5 (⟨0, 33, Heap.gen H5 0 33, 0⟩ : Ref) (some (.fn (.func 84) [] [])) [v16, x1, v20]) fun v21 H6 =>
    doW (wStore env.P H6 33 (some v2) (some v15)) fun v22 H7 =>
    doW (wStore env.P H7 33 (some v3) (some v21)) fun v23 H8 =>
    doQ (readCell env.P H8 v2 33) fun v24 =>
    doQ (readCell env.P H8 v3 33) fun v25 =>
    Q (.tup [v24, v25, (.v (.int .i64 0))]) H8))
theorem vq_blindstampref16_Cut : VC_blindstampref16_Cut = fun g x0 x1 H Q => wp env Try.f27 none 0 lv_blindstampref16_Cut cu_blindstampref16_Cut Q 500 [.code bd_blindstampref16_Cut] (ofL g [(0, x0), (1, x1)]) H := by kernel_rfl
theorem vc_blindstampref16_Cut (x0 x1 : AV) (H : Heap) (Q : AV → Heap → Prop) (h : ∀ g, VC_blindstampref16_Cut g x0 x1 H Q) : GoL env Try.f27 0 [.code bd_blindstampref16_Cut] [(0, x0), (1, x1)] H Q := ⟨fun g => wp_ok (by have h := h g; rw [vq_blindstampref16_Cut] at h; exact h)⟩

/- blindstampref16_Join -/
noncomputable def bd_blindstampref16_Join : Code := (Try.f28.body).getD .skip
def lv_blindstampref16_Join : Nat → Option (List Nat) := fun i => none
def cu_blindstampref16_Join : Nat → Bool := fun i => false
def VC_blindstampref16_Join (g : Nat → AV) (x0 x1 : AV) (H : Heap) (Q : AV → Heap → Prop) : Prop :=
  doW (nRes H (⟨0, 2, Heap.gen H 0 2, 0⟩ : Ref) (qBox env.P (⟨0, 2, Heap.gen H 0 2, 0⟩ : Ref) 33 (some x0))) fun v1 H1 =>
  doW (nRes H1 (⟨0, 3, Heap.gen H1 0 3, 0⟩ : Ref) (qBox env.P (⟨0, 3, Heap.gen H1 0 3, 0⟩ : Ref) 33 (some x1))) fun v2 H2 =>
  doW (nRes H2 (⟨0, 4, Heap.gen H2 0 4, 0⟩ : Ref) (qAlloc env.P (⟨0, 4, Heap.gen H2 0 4, 0⟩ : Ref) 33)) fun v3 H3 =>
  doQ (qLoad env.P (Heap.get H3) 33 (some v1)) fun v4 =>
  doW (callRes env true (limf env) (limt env 0) H3 (⟨0, 8, Heap.gen H3 0 8, 0⟩ : Ref) (some (.fn (.func 83) [] [])) [v4]) fun v5 H4 =>
  doQ (qUn env.P .not (some v5)) fun v6 =>
  gQ v6 false (qLoad env.P (Heap.get H4) 33 (some v2)) fun v7 =>
  gW v6 false H4 (callRes env true (limf env) (limt env 0) H4 (⟨0, 12, Heap.gen H4 0 12, 0⟩ : Ref) (some (.fn (.func 83) [] [])) [v7]) fun v8 H5 =>
  gQ v6 false (qUn env.P .not (some v8)) fun v9 =>
  doQ (pickF (some v6) (some (.v (.bool true))) (some v9)) fun v10 =>
  br (some v10) (
   doQ (qBuild env.P 33 (some [])) fun v11 =>
   doW (wStore env.P H5 33 (some v3) (some v11)) fun v12 H6 =>
   doQ (readCell env.P H6 v3 33) fun v13 =>
   Q (.tup [v13, (.v (.int .i64 8))]) H6) (
   doQ (qFieldAddr env.P 33 (some v2) 0) fun v11 =>
   doQ (qFieldAddr env.P 30 (some v11) 0) fun v12 =>
   doQ (qLoad env.P (Heap.get H5) 28 (some v12)) fun v13 =>
   doQ (qLoad env.P (Heap.get H5) 33 (some v1)) fun v14 =>
   doQ (qFieldAddr env.P 33 (some v1) 0) fun v15 =>
   doQ (qFieldAddr env.P 30 (some v15) 1) fun v16 =>
   doQ (qLoad env.P (Heap.get H5) 3 (some v16)) fun v17 =>
   doW (callRes env false (limf env) (limt env 0) H5 (⟨0, 23, Heap.gen H5 0 23, 0⟩ : Ref) (some (.fn (.func 85) [] [])) [v14, v17]) fun v18 H6 =>
   doQ (qBin env.P .neq 28 (.tmp 18) (.tmp 23) (some v13) (some v18)) fun v19 =>
   gQ v19 false (qFieldAddr env.P 33 (some v2) 1) fun v20 =>
   gQ v19 false (qLoad env.P (Heap.get H6) 28 (some v20)) fun v21 =>
   gQ v19 false (qLoad env.P (Heap.get H6) 33 (some v1)) fun v22 =>
   gQ v19 false (qFieldAddr env.P 33 (some v1) 0) fun v23 =>
   gQ v19 false (qFieldAddr env.P 30 (some v23) 1) fun v24 =>
   gQ v19 false (qLoad env.P (Heap.get H6) 3 (some v24)) fun v25 =>
   gQ v19 false (qBin env.P .sub 3 (.tmp 31) (.const (.int .i64 1)) (some v25) (some (.v (.int .i64 1)))) fun v26 =>
   gW v19 false H6 (callRes env false (limf env) (limt env 0) H6 (⟨0, 33, Heap.gen H6 0 33, 0⟩ : Ref) (some (.fn (.func 85) [] [])) [v22, v26]) fun v27 H7 =>
   gQ v19 false (qBin env.P .neq 28 (.tmp 27) (.tmp 33) (some v21) (some v27)) fun v28 =>
   doQ (pickF (some v19) (some (.v (.bool true))) (some v28)) fun v29 =>
   gQ v29 false (qFieldAddr env.P 33 (some v1) 0) fun v30 =>
   gQ v29 false (qFieldAddr env.P 30 (some v30) 1) fun v31 =>
   gQ v29 false (qLoad env.P (Heap.get H7) 3 (some v31)) fun v32 =>
   gQ v29 false (qFieldAddr env.P 33 (some v2) 0) fun v33 =>
   gQ v29 false (qFieldAddr env.P 30 (some v33) 1) fun v34 =>
   gQ v29 false (qLoad env.P (Heap.get H7) 3 (some v34)) fun v35 =>
   gQ v29 false (qBin env.P .add 3 (.tmp 39) (.tmp 42) (some v32) (some v35)) fun v36 =>
   gQ v29 false (qBin env.P .gtr 3 (.tmp 43) (.const (.int .i64 64)) (some v36) (some (.v (.int .i64 64)))) fun v37 =>
   doQ (pickF (some v29) (some (.v (.bool true))) (some v37)) fun v38 =>
   br (some v38) (
    doQ (qBuild env.P 33 (some [])) fun v39 =>
    doW (wStore env.P H7 33 (some v3) (some v39)) fun v40 H8 =>
    doQ (readCell env.P H8 v3 33) fun v41 =>
    Q (.tup [v41, (.v (.int .i64 2))]) H8) (
    doQ (qLoad env.P (Heap.get H7) 33 (some v1)) fun v39 =>
    doW (callRes env true (limf env) (limt env 0) H7 (⟨0, 48, Heap.gen H7 0 48, 0⟩ : Ref) (some (.fn (.func 24) [] [])) [v39]) fun v40 H8 =>
    doW (nRes H8 (⟨0, 6, Heap.gen H8 0 6, 0⟩ : Ref) (qAlloc env.P (⟨0, 6, Heap.gen H8 0 6, 0⟩ : Ref) 33)) fun v41 H9 =>
    doW (wStore env.P H9 33 (some v41) (some v40)) fun v42 H10 =>
    doQ (qFieldAddr env.P 33 (some v1) 0) fun v43 =>
    doQ (qFieldAddr env.P 30 (some v43) 1) fun v44 =>
    doQ (qLoad env.P (Heap.get H10) 3 (some v44)) fun v45 =>
    doQ (qFieldAddr env.P 33 (some v2) 0) fun v46 =>
    doQ (qFieldAddr env.P 30 (some v46) 1) fun v47 =>
    doQ (qLoad env.P (Heap.get H10) 3 (some v47)) fun v48 =>
    doQ (qBin env.P .add 3 (.tmp 51) (.tmp 54) (some v45) (some v48)) fun v49 =>
    doQ (qFieldAddr env.P 33 (some v41) 0) fun v50 =>
    doQ (qFieldAddr env.P 30 (some v50) 1) fun v51 =>
    doW (wStore env.P H10 3 (some v51) (some v49)) fun v52 H11 =>
    doQ (qFieldAddr env.P 33 (some v41) 2) fun v53 =>
    doQ (qLoad env.P (Heap.get H11) 31 (some v53)) fun v54 =>
    doQ (qFieldAddr env.P 33 (some v2) 2) fun v55 =>
    doQ (qLoad env.P (Heap.get H11) 31 (some v55)) fun v56 =>
    doW (appRes env.P true H11 (⟨0, 62, Heap.gen H11 0 62, 0⟩ : Ref) (some 31) (some 31) v54 v56) fun v57 H12 =>
    doQ (qFieldAddr env.P 33 (some v41) 2) fun v58 =>
    doW (wStore env.P H12 31 (some v58) (some v57)) fun v59 H13 =>
    doQ (qLoad env.P (Heap.get H13) 33 (some v41)) fun v60 =>
    doW (wStore env.P H13 33 (some v3) (some v60)) fun v61 H14 =>
    doQ (readCell env.P H14 v3 33) fun v62 =>
    Q (.tup [v62, (.v (.int .i64 0))]) H14))
theorem vq_blindstampref16_Join : VC_blindstampref16_Join = fun g x0 x1 H Q => wp env Try.f28 none 0 lv_blindstampref16_Join cu_blindstampref16_Join Q 500 [.code bd_blindstampref16_Join] (ofL g [(0, x0), (1, x1)]) H := by kernel_rfl
theorem vc_blindstampref16_Join (x0 x1 : AV) (H : Heap) (Q : AV → Heap → Prop) (h : ∀ g, VC_blindstampref16_Join g x0 x1 H Q) : GoL env Try.f28 0 [.code bd_blindstampref16_Join] [(0, x0), (1, x1)] H Q := ⟨fun g => wp_ok (by have h := h g; rw [vq_blindstampref16_Join] at h; exact h)⟩

/- blindstampref16_At -/
noncomputable def bd_blindstampref16_At : Code := (Try.f29.body).getD .skip
def lv_blindstampref16_At : Nat → Option (List Nat) := fun i => none
def cu_blindstampref16_At : Nat → Bool := fun i => false
def VC_blindstampref16_At (g : Nat → AV) (x0 x1 : AV) (H : Heap) (Q : AV → Heap → Prop) : Prop :=
  doW (nRes H (⟨0, 2, Heap.gen H 0 2, 0⟩ : Ref) (qBox env.P (⟨0, 2, Heap.gen H 0 2, 0⟩ : Ref) 33 (some x0))) fun v1 H1 =>
  doW (nRes H1 (⟨0, 4, Heap.gen H1 0 4, 0⟩ : Ref) (qAlloc env.P (⟨0, 4, Heap.gen H1 0 4, 0⟩ : Ref) 28)) fun v2 H2 =>
  doW (nRes H2 (⟨0, 5, Heap.gen H2 0 5, 0⟩ : Ref) (qAlloc env.P (⟨0, 5, Heap.gen H2 0 5, 0⟩ : Ref) 28)) fun v3 H3 =>
  doQ (qLoad env.P (Heap.get H3) 33 (some v1)) fun v4 =>
  doW (callRes env true (limf env) (limt env 0) H3 (⟨0, 9, Heap.gen H3 0 9, 0⟩ : Ref) (some (.fn (.func 83) [] [])) [v4]) fun v5 H4 =>
  doQ (qUn env.P .not (some v5)) fun v6 =>
  br (some v6) (
   doQ (qBuild env.P 28 (some [])) fun v7 =>
   doQ (qBuild env.P 28 (some [])) fun v8 =>
   doW (wStore env.P H4 28 (some v2) (some v7)) fun v9 H5 =>
   doW (wStore env.P H5 28 (some v3) (some v8)) fun v10 H6 =>
   doQ (readCell env.P H6 v2 28) fun v11 =>
   doQ (readCell env.P H6 v3 28) fun v12 =>
   Q (.tup [v11, v12, (.v (.int .i32 0)), (.v (.int .i64 8))]) H6) (
   doQ (qBin env.P .lss 3 (.tmp 13) (.const (.int .i64 0)) (some x1) (some (.v (.int .i64 0)))) fun v7 =>
   gQ v7 false (qVal (some x1)) fun v8 =>
   gQ v7 false (qFieldAddr env.P 33 (some v1) 0) fun v9 =>
   gQ v7 false (qFieldAddr env.P 30 (some v9) 1) fun v10 =>
   gQ v7 false (qLoad env.P (Heap.get H4) 3 (some v10)) fun v11 =>
   gQ v7 false (qBin env.P .geq 3 (.tmp 16) (.tmp 19) (some v8) (some v11)) fun v12 =>
   doQ (pickF (some v7) (some (.v (.bool true))) (some v12)) fun v13 =>
   br (some v13) (
    doQ (qBuild env.P 28 (some [])) fun v14 =>
    doQ (qBuild env.P 28 (some [])) fun v15 =>
    doW (wStore env.P H4 28 (some v2) (some v14)) fun v16 H5 =>
    doW (wStore env.P H5 28 (some v3) (some v15)) fun v17 H6 =>
    doQ (readCell env.P H6 v2 28) fun v18 =>
    doQ (readCell env.P H6 v3 28) fun v19 =>
    Q (.tup [v18, v19, (.v (.int .i32 0)), (.v (.int .i64 2))]) H6) (
    doQ (qLoad env.P (Heap.get H4) 33 (some v1)) fun v14 =>
    doW (callRes env false (limf env) (limt env 0) H4 (⟨0, 26, Heap.gen H4 0 26, 0⟩ : Ref) (some (.fn (.func 85) [] [])) [v14, x1]) fun v15 H5 =>
    doQ (qLoad env.P (Heap.get H5) 33 (some v1)) fun v16 =>
    doW (callRes env false (limf env) (limt env 0) H5 (⟨0, 29, Heap.gen H5 0 29, 0⟩ : Ref) (some (.fn (.func 86) [] [])) [v16, x1]) fun v17 H6 =>
    doQ (qFieldAddr env.P 33 (some v1) 2) fun v18 =>
    doQ (qLoad env.P (Heap.get H6) 31 (some v18)) fun v19 =>
    doQ (qIndexAddr env.P (Heap.get H6) 31 (some v19) (some x1)) fun v20 =>
    doQ (qLoad env.P (Heap.get H6) 21 (some v20)) fun v21 =>
    doW (wStore env.P H6 28 (some v2) (some v15)) fun v22 H7 =>
    doW (wStore env.P H7 28 (some v3) (some v17)) fun v23 H8 =>
    apartV [(v18, v2), (v19, v2), (v20, v2), (v18, v3), (v19, v3), (v20, v3)] [v2, v3] [] H8 ∧
    (doQ (readCell env.P H8 v2 28) fun v24 =>
    doQ (readCell env.P H8 v3 28) fun v25 =>
    Q (.tup [v24, v25, v21, (.v (.int .i64 0))]) H8)))
theorem vq_blindstampref16_At : VC_blindstampref16_At = fun g x0 x1 H Q => wp env Try.f29 none 0 lv_blindstampref16_At cu_blindstampref16_At Q 500 [.code bd_blindstampref16_At] (ofL g [(0, x0), (1, x1)]) H := by kernel_rfl
theorem vc_blindstampref16_At (x0 x1 : AV) (H : Heap) (Q : AV → Heap → Prop) (h : ∀ g, VC_blindstampref16_At g x0 x1 H Q) : GoL env Try.f29 0 [.code bd_blindstampref16_At] [(0, x0), (1, x1)] H Q := ⟨fun g => wp_ok (by have h := h g; rw [vq_blindstampref16_At] at h; exact h)⟩

/- run_Twin -/
noncomputable def bd_run_Twin : Code := (Try.f31.body).getD .skip
def lv_run_Twin : Nat → Option (List Nat) := fun i => none
def cu_run_Twin : Nat → Bool := fun i => false
def VC_run_Twin (g : Nat → AV) (x0 : AV) (H : Heap) (Q : AV → Heap → Prop) : Prop :=
  doW (nRes H (⟨0, 1, Heap.gen H 0 1, 0⟩ : Ref) (qBox env.P (⟨0, 1, Heap.gen H 0 1, 0⟩ : Ref) 33 (some x0))) fun v1 H1 =>
  doW (nRes H1 (⟨0, 2, Heap.gen H1 0 2, 0⟩ : Ref) (qAlloc env.P (⟨0, 2, Heap.gen H1 0 2, 0⟩ : Ref) 33)) fun v2 H2 =>
  doQ (qFieldAddr env.P 33 (some v1) 2) fun v3 =>
  doQ (qLoad env.P (Heap.get H2) 31 (some v3)) fun v4 =>
  doW (callRes env true (limf env) (limt env 0) H2 (⟨0, 5, Heap.gen H2 0 5, 0⟩ : Ref) (some (.fn (.func 81) [] [])) [v4]) fun v5 H3 =>
  doQ (qFieldAddr env.P 33 (some v1) 2) fun v6 =>
  doW (wStore env.P H3 31 (some v6) (some v5)) fun v7 H4 =>
  doQ (qLoad env.P (Heap.get H4) 33 (some v1)) fun v8 =>
  doW (wStore env.P H4 33 (some v2) (some v8)) fun v9 H5 =>
  doQ (readCell env.P H5 v2 33) fun v10 =>
  Q v10 H5
theorem vq_run_Twin : VC_run_Twin = fun g x0 H Q => wp env Try.f31 none 0 lv_run_Twin cu_run_Twin Q 500 [.code bd_run_Twin] (ofL g [(0, x0)]) H := by kernel_rfl
theorem vc_run_Twin (x0 : AV) (H : Heap) (Q : AV → Heap → Prop) (h : ∀ g, VC_run_Twin g x0 H Q) : GoL env Try.f31 0 [.code bd_run_Twin] [(0, x0)] H Q := ⟨fun g => wp_ok (by have h := h g; rw [vq_run_Twin] at h; exact h)⟩

/- blindstampref16_Check -/
noncomputable def bd_blindstampref16_Check : Code := (Try.f32.body).getD .skip
def lv_blindstampref16_Check : Nat → Option (List Nat) := fun i => none
def cu_blindstampref16_Check : Nat → Bool := fun i => false
def VC_blindstampref16_Check (g : Nat → AV) (x0 : AV) (H : Heap) (Q : AV → Heap → Prop) : Prop :=
  doW (nRes H (⟨0, 1, Heap.gen H 0 1, 0⟩ : Ref) (qBox env.P (⟨0, 1, Heap.gen H 0 1, 0⟩ : Ref) 33 (some x0))) fun v1 H1 =>
  doQ (qLoad env.P (Heap.get H1) 33 (some v1)) fun v2 =>
  doW (callRes env true (limf env) (limt env 0) H1 (⟨0, 4, Heap.gen H1 0 4, 0⟩ : Ref) (some (.fn (.func 83) [] [])) [v2]) fun v3 H2 =>
  doQ (qUn env.P .not (some v3)) fun v4 =>
  br (some v4) (
   Q (.v (.int .i64 8)) H2) (
   Q (.v (.int .i64 0)) H2)
theorem vq_blindstampref16_Check : VC_blindstampref16_Check = fun g x0 H Q => wp env Try.f32 none 0 lv_blindstampref16_Check cu_blindstampref16_Check Q 500 [.code bd_blindstampref16_Check] (ofL g [(0, x0)]) H := by kernel_rfl
theorem vc_blindstampref16_Check (x0 : AV) (H : Heap) (Q : AV → Heap → Prop) (h : ∀ g, VC_blindstampref16_Check g x0 H Q) : GoL env Try.f32 0 [.code bd_blindstampref16_Check] [(0, x0)] H Q := ⟨fun g => wp_ok (by have h := h g; rw [vq_blindstampref16_Check] at h; exact h)⟩

/- blindstamplaw16_spoil -/
noncomputable def bd_blindstamplaw16_spoil : Code := (Try.f33.body).getD .skip
noncomputable def hd_blindstamplaw16_spoil_2 : List Item := (findLoop 2 400 [.code bd_blindstamplaw16_spoil]).getD []
def lv_blindstamplaw16_spoil : Nat → Option (List Nat) := fun i => cond (Nat.beq i 2) (some [2, 1]) (none)
def cu_blindstamplaw16_spoil : Nat → Bool := fun i => false
def VC_blindstamplaw16_spoil (dep : Nat) (g : Nat → AV) (x0 : AV) (H : Heap) (Q : AV → Heap → Prop) : Prop :=
  doW (nRes H (⟨(dep + 1), 1, Heap.gen H (dep + 1) 1, 0⟩ : Ref) (qBox env.P (⟨(dep + 1), 1, Heap.gen H (dep + 1) 1, 0⟩ : Ref) 33 (some x0))) fun v1 H1 =>
  GoL env Try.f33 (dep + 1) hd_blindstamplaw16_spoil_2 [(2, (.v (.int .i64 0))), (1, v1)] H1 Q
theorem vq_blindstamplaw16_spoil (dep : Nat) : VC_blindstamplaw16_spoil dep = fun g x0 H Q => wp env Try.f33 none (dep + 1) lv_blindstamplaw16_spoil cu_blindstamplaw16_spoil Q 500 [.code bd_blindstamplaw16_spoil] (ofL g [(0, x0)]) H := by kernel_rfl
theorem vc_blindstamplaw16_spoil (dep : Nat) (x0 : AV) (H : Heap) (Q : AV → Heap → Prop) (h : ∀ g, VC_blindstamplaw16_spoil dep g x0 H Q) : GoL env Try.f33 (dep + 1) [.code bd_blindstamplaw16_spoil] [(0, x0)] H Q := ⟨fun g => wp_ok (by have h := h g; rw [vq_blindstamplaw16_spoil] at h; exact h)⟩
def VC_blindstamplaw16_spoil_2 (dep : Nat) (g : Nat → AV) (x2 x1 : AV) (H : Heap) (Q : AV → Heap → Prop) : Prop :=
  doQ (qFieldAddr env.P 33 (some x1) 2) fun v1 =>
  doQ (qLoad env.P (Heap.get H) 31 (some v1)) fun v2 =>
  doQ (qBuiltin env.P false (Heap.get H) (⟨(dep + 1), 6, Heap.gen H (dep + 1) 6, 0⟩ : Ref) .len #[31] [v2]) fun v3 =>
  doQ (qBin env.P .lss 3 (.tmp 3) (.tmp 6) (some x2) (some v3)) fun v4 =>
  br (some v4) (
   doQ (qFieldAddr env.P 33 (some x1) 2) fun v5 =>
   doQ (qLoad env.P (Heap.get H) 31 (some v5)) fun v6 =>
   doQ (qFieldAddr env.P 33 (some x1) 2) fun v7 =>
   doQ (qLoad env.P (Heap.get H) 31 (some v7)) fun v8 =>
   doQ (qIndexAddr env.P (Heap.get H) 31 (some v8) (some x2)) fun v9 =>
   doQ (qLoad env.P (Heap.get H) 21 (some v9)) fun v10 =>
   doQ (qBin env.P .add 21 (.tmp 17) (.const (.int .i32 1)) (some v10) (some (.v (.int .i32 1)))) fun v11 =>
   doQ (qIndexAddr env.P (Heap.get H) 31 (some v6) (some x2)) fun v12 =>
   doW (wStore env.P H 21 (some v12) (some v11)) fun v13 H1 =>
   doQ (qBin env.P .add 3 (.tmp 8) (.const (.int .i64 1)) (some x2) (some (.v (.int .i64 1)))) fun v14 =>
   GoL env Try.f33 (dep + 1) hd_blindstamplaw16_spoil_2 [(2, v14), (1, x1)] H1 Q) (
   Q (.v (.tuple #[])) H)
theorem vq_blindstamplaw16_spoil_2 (dep : Nat) : VC_blindstamplaw16_spoil_2 dep = fun g x2 x1 H Q => wp env Try.f33 none (dep + 1) lv_blindstamplaw16_spoil cu_blindstamplaw16_spoil Q 500 (bodyOf hd_blindstamplaw16_spoil_2) (ofL g [(2, x2), (1, x1)]) H := by kernel_rfl
theorem vc_blindstamplaw16_spoil_2 (dep : Nat) (x2 x1 : AV) (H : Heap) (Q : AV → Heap → Prop) (h : ∀ g, VC_blindstamplaw16_spoil_2 dep g x2 x1 H Q) : GoL env Try.f33 (dep + 1) hd_blindstamplaw16_spoil_2 [(2, x2), (1, x1)] H Q := goL_body fun g => wp_ok (by have h := h g; rw [vq_blindstamplaw16_spoil_2] at h; exact h)

/- blindstampref16_May -/
noncomputable def bd_blindstampref16_May : Code := (Try.f83.body).getD .skip
def lv_blindstampref16_May : Nat → Option (List Nat) := fun i => none
def cu_blindstampref16_May : Nat → Bool := fun i => false
def VC_blindstampref16_May (g : Nat → AV) (x0 : AV) (H : Heap) (Q : AV → Heap → Prop) : Prop :=
  doW (nRes H (⟨0, 1, Heap.gen H 0 1, 0⟩ : Ref) (qBox env.P (⟨0, 1, Heap.gen H 0 1, 0⟩ : Ref) 33 (some x0))) fun v1 H1 =>
  doQ (qFieldAddr env.P 33 (some v1) 0) fun v2 =>
  doQ (qLoad env.P (Heap.get H1) 30 (some v2)) fun v3 =>
  doW (callRes env true (limf env) (limt env 0) H1 (⟨0, 5, Heap.gen H1 0 5, 0⟩ : Ref) (some (.fn (.func 119) [] [])) [v3]) fun v4 H2 =>
  doQ (qUn env.P .not (some v4)) fun v5 =>
  gQ v5 false (qFieldAddr env.P 33 (some v1) 2) fun v6 =>
  gQ v5 false (qLoad env.P (Heap.get H2) 31 (some v6)) fun v7 =>
  gQ v5 false (qBuiltin env.P false (Heap.get H2) (⟨0, 10, Heap.gen H2 0 10, 0⟩ : Ref) .len #[31] [v7]) fun v8 =>
  gQ v5 false (qFieldAddr env.P 33 (some v1) 0) fun v9 =>
  gQ v5 false (qFieldAddr env.P 30 (some v9) 1) fun v10 =>
  gQ v5 false (qLoad env.P (Heap.get H2) 3 (some v10)) fun v11 =>
  gQ v5 false (qBin env.P .neq 3 (.tmp 10) (.tmp 13) (some v8) (some v11)) fun v12 =>
  doQ (pickF (some v5) (some (.v (.bool true))) (some v12)) fun v13 =>
  gQ v13 false (qFieldAddr env.P 33 (some v1) 2) fun v14 =>
  gQ v13 false (qLoad env.P (Heap.get H2) 31 (some v14)) fun v15 =>
  gW v13 false H2 (callRes env true (limf env) (limt env 0) H2 (⟨0, 19, Heap.gen H2 0 19, 0⟩ : Ref) (some (.fn (.func 122) [] [])) [v15]) fun v16 H3 =>
  gQ v13 false (qBin env.P .neq 3 (.tmp 19) (.const (.int .i64 0)) (some v16) (some (.v (.int .i64 0)))) fun v17 =>
  doQ (pickF (some v13) (some (.v (.bool true))) (some v17)) fun v18 =>
  br (some v18) (
   Q (.v (.bool false)) H3) (
   doQ (qFieldAddr env.P 33 (some v1) 1) fun v19 =>
   doQ (qLoad env.P (Heap.get H3) 28 (some v19)) fun v20 =>
   doW (callRes env true (limf env) (limt env 0) H3 (⟨0, 24, Heap.gen H3 0 24, 0⟩ : Ref) (some (.fn (.func 124) [] [])) [v20]) fun v21 H4 =>
   gQ v21 false (qFieldAddr env.P 33 (some v1) 1) fun v22 =>
   gQ v21 false (qLoad env.P (Heap.get H4) 28 (some v22)) fun v23 =>
   gW v21 false H4 (callRes env true (limf env) (limt env 0) H4 (⟨0, 28, Heap.gen H4 0 28, 0⟩ : Ref) (some (.fn (.func 121) [] [])) [v23]) fun v24 H5 =>
   gQ v21 false (qVal (some v24)) fun v25 =>
   gQ v25 true (qFieldAddr env.P 33 (some v1) 1) fun v26 =>
   gQ v25 true (qFieldAddr env.P 28 (some v26) 1) fun v27 =>
   gQ v25 true (qLoad env.P (Heap.get H5) 3 (some v27)) fun v28 =>
   gQ v25 true (qFieldAddr env.P 33 (some v1) 0) fun v29 =>
   gQ v25 true (qFieldAddr env.P 30 (some v29) 0) fun v30 =>
   gQ v25 true (qFieldAddr env.P 28 (some v30) 1) fun v31 =>
   gQ v25 true (qLoad env.P (Heap.get H5) 3 (some v31)) fun v32 =>
   gQ v25 true (qBin env.P .lss 3 (.tmp 32) (.tmp 36) (some v28) (some v32)) fun v33 =>
   gQ v21 false (pickF (some v25) (some v33) (some (.v (.bool false)))) fun v34 =>
   doQ (pickF (some v21) (some (.v (.bool true))) (some v34)) fun v35 =>
   Q v35 H5)
theorem vq_blindstampref16_May : VC_blindstampref16_May = fun g x0 H Q => wp env Try.f83 none 0 lv_blindstampref16_May cu_blindstampref16_May Q 500 [.code bd_blindstampref16_May] (ofL g [(0, x0)]) H := by kernel_rfl
theorem vc_blindstampref16_May (x0 : AV) (H : Heap) (Q : AV → Heap → Prop) (h : ∀ g, VC_blindstampref16_May g x0 H Q) : GoL env Try.f83 0 [.code bd_blindstampref16_May] [(0, x0)] H Q := ⟨fun g => wp_ok (by have h := h g; rw [vq_blindstampref16_May] at h; exact h)⟩

/- blindstampref16_Part -/
noncomputable def bd_blindstampref16_Part : Code := (Try.f84.body).getD .skip
def lv_blindstampref16_Part : Nat → Option (List Nat) := fun i => none
def cu_blindstampref16_Part : Nat → Bool := fun i => false
def VC_blindstampref16_Part (g : Nat → AV) (x0 x1 x2 : AV) (H : Heap) (Q : AV → Heap → Prop) : Prop :=
  doW (nRes H (⟨0, 3, Heap.gen H 0 3, 0⟩ : Ref) (qBox env.P (⟨0, 3, Heap.gen H 0 3, 0⟩ : Ref) 33 (some x0))) fun v1 H1 =>
  doW (nRes H1 (⟨0, 6, Heap.gen H1 0 6, 0⟩ : Ref) (qAlloc env.P (⟨0, 6, Heap.gen H1 0 6, 0⟩ : Ref) 33)) fun v2 H2 =>
  doQ (qLoad env.P (Heap.get H2) 33 (some v1)) fun v3 =>
  doW (callRes env false (limf env) (limt env 0) H2 (⟨0, 9, Heap.gen H2 0 9, 0⟩ : Ref) (some (.fn (.func 85) [] [])) [v3, x1]) fun v4 H3 =>
  doQ (qBuild env.P 30 (some [(0, v4), (1, x2)])) fun v5 =>
  doQ (qLoad env.P (Heap.get H3) 33 (some v1)) fun v6 =>
  doW (callRes env false (limf env) (limt env 0) H3 (⟨0, 14, Heap.gen H3 0 14, 0⟩ : Ref) (some (.fn (.func 86) [] [])) [v6, x1]) fun v7 H4 =>
  doQ (qFieldAddr env.P 33 (some v1) 2) fun v8 =>
  doQ (qLoad env.P (Heap.get H4) 31 (some v8)) fun v9 =>
  doQ (qBin env.P .add 3 (.tmp 18) (.tmp 19) (some x1) (some x2)) fun v10 =>
  doQ (qSlice env.P (Heap.get H4) 31 (some v9) (oi x1) (oi v10) (some none)) fun v11 =>
  doQ (qBuild env.P 33 (some [(0, v5), (1, v7), (2, v11)])) fun v12 =>
  doW (callRes env false (limf env) (limt env 0) H4 (⟨0, 23, Heap.gen H4 0 23, 0⟩ : Ref) (some (.fn (.func 24) [] [])) [v12]) fun v13 H5 =>
  doW (wStore env.P H5 33 (some v2) (some v13)) fun v14 H6 =>
  doQ (readCell env.P H6 v2 33) fun v15 =>
  Q v15 H6
theorem vq_blindstampref16_Part : VC_blindstampref16_Part = fun g x0 x1 x2 H Q => wp env Try.f84 none 0 lv_blindstampref16_Part cu_blindstampref16_Part Q 500 [.code bd_blindstampref16_Part] (ofL g [(0, x0), (1, x1), (2, x2)]) H := by kernel_rfl
theorem vc_blindstampref16_Part (x0 x1 x2 : AV) (H : Heap) (Q : AV → Heap → Prop) (h : ∀ g, VC_blindstampref16_Part g x0 x1 x2 H Q) : GoL env Try.f84 0 [.code bd_blindstampref16_Part] [(0, x0), (1, x1), (2, x2)] H Q := ⟨fun g => wp_ok (by have h := h g; rw [vq_blindstampref16_Part] at h; exact h)⟩

/- blindstampref16_Id -/
noncomputable def bd_blindstampref16_Id : Code := (Try.f85.body).getD .skip
def lv_blindstampref16_Id : Nat → Option (List Nat) := fun i => none
def cu_blindstampref16_Id : Nat → Bool := fun i => false
def VC_blindstampref16_Id (g : Nat → AV) (x0 x1 : AV) (H : Heap) (Q : AV → Heap → Prop) : Prop :=
  doW (nRes H (⟨0, 2, Heap.gen H 0 2, 0⟩ : Ref) (qBox env.P (⟨0, 2, Heap.gen H 0 2, 0⟩ : Ref) 33 (some x0))) fun v1 H1 =>
  doW (nRes H1 (⟨0, 4, Heap.gen H1 0 4, 0⟩ : Ref) (qAlloc env.P (⟨0, 4, Heap.gen H1 0 4, 0⟩ : Ref) 28)) fun v2 H2 =>
  doQ (qFieldAddr env.P 33 (some v1) 0) fun v3 =>
  doQ (qFieldAddr env.P 30 (some v3) 0) fun v4 =>
  doQ (qFieldAddr env.P 28 (some v4) 0) fun v5 =>
  doQ (qLoad env.P (Heap.get H2) 26 (some v5)) fun v6 =>
  doQ (qFieldAddr env.P 33 (some v1) 0) fun v7 =>
  doQ (qFieldAddr env.P 30 (some v7) 0) fun v8 =>
  doQ (qFieldAddr env.P 28 (some v8) 1) fun v9 =>
  doQ (qLoad env.P (Heap.get H2) 3 (some v9)) fun v10 =>
  doQ (qBin env.P .add 3 (.tmp 12) (.tmp 13) (some v10) (some x1)) fun v11 =>
  doQ (qBuild env.P 28 (some [(0, v6), (1, v11)])) fun v12 =>
  doW (wStore env.P H2 28 (some v2) (some v12)) fun v13 H3 =>
  doQ (readCell env.P H3 v2 28) fun v14 =>
  Q v14 H3
theorem vq_blindstampref16_Id : VC_blindstampref16_Id = fun g x0 x1 H Q => wp env Try.f85 none 0 lv_blindstampref16_Id cu_blindstampref16_Id Q 500 [.code bd_blindstampref16_Id] (ofL g [(0, x0), (1, x1)]) H := by kernel_rfl
theorem vc_blindstampref16_Id (x0 x1 : AV) (H : Heap) (Q : AV → Heap → Prop) (h : ∀ g, VC_blindstampref16_Id g x0 x1 H Q) : GoL env Try.f85 0 [.code bd_blindstampref16_Id] [(0, x0), (1, x1)] H Q := ⟨fun g => wp_ok (by have h := h g; rw [vq_blindstampref16_Id] at h; exact h)⟩

/- blindstampref16_Behind -/
noncomputable def bd_blindstampref16_Behind : Code := (Try.f86.body).getD .skip
def lv_blindstampref16_Behind : Nat → Option (List Nat) := fun i => none
def cu_blindstampref16_Behind : Nat → Bool := fun i => false
def VC_blindstampref16_Behind (g : Nat → AV) (x0 x1 : AV) (H : Heap) (Q : AV → Heap → Prop) : Prop :=
  doW (nRes H (⟨0, 2, Heap.gen H 0 2, 0⟩ : Ref) (qBox env.P (⟨0, 2, Heap.gen H 0 2, 0⟩ : Ref) 33 (some x0))) fun v1 H1 =>
  doW (nRes H1 (⟨0, 4, Heap.gen H1 0 4, 0⟩ : Ref) (qAlloc env.P (⟨0, 4, Heap.gen H1 0 4, 0⟩ : Ref) 28)) fun v2 H2 =>
  doQ (qBin env.P .eql 3 (.tmp 5) (.const (.int .i64 0)) (some x1) (some (.v (.int .i64 0)))) fun v3 =>
  br (some v3) (
   doQ (qFieldAddr env.P 33 (some v1) 1) fun v4 =>
   doQ (qLoad env.P (Heap.get H2) 28 (some v4)) fun v5 =>
   doW (wStore env.P H2 28 (some v2) (some v5)) fun v6 H3 =>
   doQ (readCell env.P H3 v2 28) fun v7 =>
   Q v7 H3) (
   doQ (qLoad env.P (Heap.get H2) 33 (some v1)) fun v4 =>
   doQ (qBin env.P .sub 3 (.tmp 10) (.const (.int .i64 1)) (some x1) (some (.v (.int .i64 1)))) fun v5 =>
   doW (callRes env true (limf env) (limt env 0) H2 (⟨0, 12, Heap.gen H2 0 12, 0⟩ : Ref) (some (.fn (.func 85) [] [])) [v4, v5]) fun v6 H3 =>
   doW (wStore env.P H3 28 (some v2) (some v6)) fun v7 H4 =>
   doQ (readCell env.P H4 v2 28) fun v8 =>
   Q v8 H4)
theorem vq_blindstampref16_Behind : VC_blindstampref16_Behind = fun g x0 x1 H Q => wp env Try.f86 none 0 lv_blindstampref16_Behind cu_blindstampref16_Behind Q 500 [.code bd_blindstampref16_Behind] (ofL g [(0, x0), (1, x1)]) H := by kernel_rfl
theorem vc_blindstampref16_Behind (x0 x1 : AV) (H : Heap) (Q : AV → Heap → Prop) (h : ∀ g, VC_blindstampref16_Behind g x0 x1 H Q) : GoL env Try.f86 0 [.code bd_blindstampref16_Behind] [(0, x0), (1, x1)] H Q := ⟨fun g => wp_ok (by have h := h g; rw [vq_blindstampref16_Behind] at h; exact h)⟩

/- blindstampref16_zero -/
noncomputable def bd_blindstampref16_zero : Code := (Try.f124.body).getD .skip
def lv_blindstampref16_zero : Nat → Option (List Nat) := fun i => none
def cu_blindstampref16_zero : Nat → Bool := fun i => false
def VC_blindstampref16_zero (g : Nat → AV) (x0 : AV) (H : Heap) (Q : AV → Heap → Prop) : Prop :=
  doW (nRes H (⟨0, 1, Heap.gen H 0 1, 0⟩ : Ref) (qBox env.P (⟨0, 1, Heap.gen H 0 1, 0⟩ : Ref) 28 (some x0))) fun v1 H1 =>
  doQ (qLoad env.P (Heap.get H1) 28 (some v1)) fun v2 =>
  doQ (qBuild env.P 28 (some [])) fun v3 =>
  doQ (qBin env.P .eql 28 (.tmp 3) (.tmp 4) (some v2) (some v3)) fun v4 =>
  Q v4 H1
theorem vq_blindstampref16_zero : VC_blindstampref16_zero = fun g x0 H Q => wp env Try.f124 none 0 lv_blindstampref16_zero cu_blindstampref16_zero Q 500 [.code bd_blindstampref16_zero] (ofL g [(0, x0)]) H := by kernel_rfl
theorem vc_blindstampref16_zero (x0 : AV) (H : Heap) (Q : AV → Heap → Prop) (h : ∀ g, VC_blindstampref16_zero g x0 H Q) : GoL env Try.f124 0 [.code bd_blindstampref16_zero] [(0, x0)] H Q := ⟨fun g => wp_ok (by have h := h g; rw [vq_blindstampref16_zero] at h; exact h)⟩

end Go.Proofs.Ytjampffmlnplcaa
