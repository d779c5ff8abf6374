/-
  What is to be shown of each function, computed from its code. No statement of a seat is proved here.
-/
import Derived.Test.YtjampffmlnplcaaRdTy
set_option linter.unusedVariables false
set_option maxRecDepth 1000000
namespace Go.Proofs.Ytjampffmlnplcaa
open Go.Ab
noncomputable def bd_disk_Start : Code := (Try.f54.body).getD .skip
def lv_disk_Start : Nat → Option (List Nat) := fun i => none
def cu_disk_Start : Nat → Bool := fun i => false
def VC_disk_Start (g : Nat → AV) (x0 x1 : AV) (H : Heap) (Q : AV → Heap → Prop) : Prop :=
 doW (nRes H (⟨0, 2, Heap.gen H 0 2, 0⟩ : Ref) (qBox env.P (⟨0, 2, Heap.gen H 0 2, 0⟩ : Ref) 93 (some x0))) fun v1 H1 =>
 doW (nRes H1 (⟨0, 4, Heap.gen H1 0 4, 0⟩ : Ref) (qAlloc env.P (⟨0, 4, Heap.gen H1 0 4, 0⟩ : Ref) 93)) fun v2 H2 =>
 doQ (qLoad env.P (Heap.get H2) 93 (some v1)) fun v3 =>
 doW (callRes env true (limf env) (limt env 0) H2 (⟨0, 8, Heap.gen H2 0 8, 0⟩ : Ref) (some (.fn (.func 60) [] [])) [v3]) fun v4 H3 =>
 doQ (qBin env.P .neq 35 (.tmp 9) (.const (.int .i64 0)) (some v4) (some (.v (.int .i64 0)))) fun v5 =>
 br (some v5) (
 doQ (qBuild env.P 93 (some [])) fun v6 =>
 doW (wStore env.P H3 93 (some v2) (some v6)) fun v7 H4 =>
 doQ (readCell env.P H4 v2 93) fun v8 =>
 Q (.tup [v8, v4]) H4) (
 doQ (qBin env.P .lss 3 (.tmp 14) (.const (.int .i64 (-1))) (some x1) (some (.v (.int .i64 (-1))))) fun v6 =>
 gQ v6 false (qVal (some x1)) fun v7 =>
 gQ v6 false (qBin env.P .geq 3 (.tmp 17) (.const (.int .i64 2147483648)) (some v7) (some (.v (.int .i64 2147483648)))) fun v8 =>
 doQ (pickF (some v6) (some (.v (.bool true))) (some v8)) fun v9 =>
 br (some v9) (
 doQ (qBuild env.P 93 (some [])) fun v10 =>
 doW (wStore env.P H3 93 (some v2) (some v10)) fun v11 H4 =>
 doQ (readCell env.P H4 v2 93) fun v12 =>
 Q (.tup [v12, (.v (.int .i64 2))]) H4) (
 doQ (qFieldAddr env.P 93 (some v1) 1) fun v10 =>
 doQ (qLoad env.P (Heap.get H3) 3 (some v10)) fun v11 =>
 doQ (qBin env.P .add 3 (.tmp 23) (.const (.int .i64 1)) (some v11) (some (.v (.int .i64 1)))) fun v12 =>
 doQ (qBin env.P .geq 3 (.tmp 24) (.const (.int .i64 2147483648)) (some v12) (some (.v (.int .i64 2147483648)))) fun v13 =>
 br (some v13) (
 doQ (qBuild env.P 93 (some [])) fun v14 =>
 doW (wStore env.P H3 93 (some v2) (some v14)) fun v15 H4 =>
 doQ (readCell env.P H4 v2 93) fun v16 =>
 Q (.tup [v16, (.v (.int .i64 9))]) H4) (
 doQ (qLoad env.P (Heap.get H3) 93 (some v1)) fun v14 =>
 doW (callRes env true (limf env) (limt env 0) H3 (⟨0, 28, Heap.gen H3 0 28, 0⟩ : Ref) (some (.fn (.func 67) [] [])) [v14]) fun v15 H4 =>
 doW (wStore env.P H4 93 (some v1) (some v15)) fun v16 H5 =>
 doQ (qFieldAddr env.P 93 (some v1) 1) fun v17 =>
 doQ (qLoad env.P (Heap.get H5) 3 (some v17)) fun v18 =>
 doQ (qBin env.P .add 3 (.tmp 30) (.const (.int .i64 1)) (some v18) (some (.v (.int .i64 1)))) fun v19 =>
 doQ (qFieldAddr env.P 93 (some v1) 1) fun v20 =>
 doW (wStore env.P H5 3 (some v20) (some v19)) fun v21 H6 =>
 doQ (qFieldAddr env.P 93 (some v1) 2) fun v22 =>
 doW (wStore env.P H6 3 (some v22) (some x1)) fun v23 H7 =>
 doQ (qFieldAddr env.P 93 (some v1) 3) fun v24 =>
 doW (wStore env.P H7 4 (some v24) (some (.v (.bool false)))) fun v25 H8 =>
 doQ (qLoad env.P (Heap.get H8) 93 (some v1)) fun v26 =>
 doW (wStore env.P H8 93 (some v2) (some v26)) fun v27 H9 =>
 doQ (readCell env.P H9 v2 93) fun v28 =>
 Q (.tup [v28, (.v (.int .i64 0))]) H9)))
theorem vq_disk_Start : VC_disk_Start = fun g x0 x1 H Q => wp env Try.f54 none 0 lv_disk_Start cu_disk_Start Q 500 [.code bd_disk_Start] (ofL g [(0, x0), (1, x1)]) H := by kernel_rfl
theorem vc_disk_Start (x0 x1 : AV) (H : Heap) (Q : AV → Heap → Prop) (h : ∀ g, VC_disk_Start g x0 x1 H Q) : GoL env Try.f54 0 [.code bd_disk_Start] [(0, x0), (1, x1)] H Q := ⟨fun g => wp_ok (by have h := h g; rw [vq_disk_Start] at h; exact h)⟩
noncomputable def bd_disk_Write : Code := (Try.f55.body).getD .skip
def lv_disk_Write : Nat → Option (List Nat) := fun i => none
def cu_disk_Write : Nat → Bool := fun i => false
def VC_disk_Write (g : Nat → AV) (x0 x1 x2 : AV) (H : Heap) (Q : AV → Heap → Prop) : Prop :=
 doW (nRes H (⟨0, 3, Heap.gen H 0 3, 0⟩ : Ref) (qBox env.P (⟨0, 3, Heap.gen H 0 3, 0⟩ : Ref) 93 (some x0))) fun v1 H1 =>
 doW (nRes H1 (⟨0, 6, Heap.gen H1 0 6, 0⟩ : Ref) (qAlloc env.P (⟨0, 6, Heap.gen H1 0 6, 0⟩ : Ref) 93)) fun v2 H2 =>
 doQ (qLoad env.P (Heap.get H2) 93 (some v1)) fun v3 =>
 doW (callRes env true (limf env) (limt env 0) H2 (⟨0, 13, Heap.gen H2 0 13, 0⟩ : Ref) (some (.fn (.func 99) [] [])) [v3, x1]) fun v4 H3 =>
 doQ (qBin env.P .neq 35 (.tmp 14) (.const (.int .i64 0)) (some v4) (some (.v (.int .i64 0)))) fun v5 =>
 br (some v5) (
 doQ (qBuild env.P 93 (some [])) fun v6 =>
 doW (wStore env.P H3 93 (some v2) (some v6)) fun v7 H4 =>
 doQ (readCell env.P H4 v2 93) fun v8 =>
 Q (.tup [v8, v4]) H4) (
 doQ (qBuiltin env.P false (Heap.get H3) (⟨0, 19, Heap.gen H3 0 19, 0⟩ : Ref) .len #[98] [x2]) fun v6 =>
 doQ (qBin env.P .neq 3 (.tmp 19) (.const (.int .i64 128)) (some v6) (some (.v (.int .i64 128)))) fun v7 =>
 br (some v7) (
 doQ (qBuild env.P 93 (some [])) fun v8 =>
 doW (wStore env.P H3 93 (some v2) (some v8)) fun v9 H4 =>
 doQ (readCell env.P H4 v2 93) fun v10 =>
 Q (.tup [v10, (.v (.int .i64 2))]) H4) (
 doQ (qLoad env.P (Heap.get H3) 93 (some v1)) fun v8 =>
 doW (callRes env true (limf env) (limt env 0) H3 (⟨0, 23, Heap.gen H3 0 23, 0⟩ : Ref) (some (.fn (.func 67) [] [])) [v8]) fun v9 H4 =>
 doW (wStore env.P H4 93 (some v1) (some v9)) fun v10 H5 =>
 doQ (qFieldAddr env.P 93 (some v1) 3) fun v11 =>
 doQ (qLoad env.P (Heap.get H5) 4 (some v11)) fun v12 =>
 gQ v12 false (qFieldAddr env.P 93 (some v1) 2) fun v13 =>
 gQ v12 false (qLoad env.P (Heap.get H5) 3 (some v13)) fun v14 =>
 gQ v12 false (qBin env.P .eql 3 (.tmp 29) (.const (.int .i64 0)) (some v14) (some (.v (.int .i64 0)))) fun v15 =>
 doQ (pickF (some v12) (some (.v (.bool true))) (some v15)) fun v16 =>
 br (some v16) (
 doQ (qFieldAddr env.P 93 (some v1) 3) fun v17 =>
 doW (wStore env.P H5 4 (some v17) (some (.v (.bool true)))) fun v18 H6 =>
 doQ (qLoad env.P (Heap.get H6) 93 (some v1)) fun v19 =>
 doW (wStore env.P H6 93 (some v2) (some v19)) fun v20 H7 =>
 doQ (readCell env.P H7 v2 93) fun v21 =>
 Q (.tup [v21, (.v (.int .i64 0))]) H7) (
 doQ (qFieldAddr env.P 93 (some v1) 2) fun v17 =>
 doQ (qLoad env.P (Heap.get H5) 3 (some v17)) fun v18 =>
 doQ (qBin env.P .gtr 3 (.tmp 36) (.const (.int .i64 0)) (some v18) (some (.v (.int .i64 0)))) fun v19 =>
 br (some v19) (
 doQ (qFieldAddr env.P 93 (some v1) 2) fun v20 =>
 doQ (qLoad env.P (Heap.get H5) 3 (some v20)) fun v21 =>
 doQ (qBin env.P .sub 3 (.tmp 39) (.const (.int .i64 1)) (some v21) (some (.v (.int .i64 1)))) fun v22 =>
 doQ (qFieldAddr env.P 93 (some v1) 2) fun v23 =>
 doW (wStore env.P H5 3 (some v23) (some v22)) fun v24 H6 =>
 doQ (qLoad env.P (Heap.get H6) 93 (some v1)) fun v25 =>
 doW (callRes env true (limf env) (limt env 0) H6 (⟨0, 45, Heap.gen H6 0 45, 0⟩ : Ref) (some (.fn (.func 100) [] [])) [v25, x1]) fun v26 H7 =>
 doQ (qExtract (some v26) 0) fun v27 =>
 doQ (qExtract (some v26) 1) fun v28 =>
 doQ (qUn env.P .not (some v28)) fun v29 =>
 br (some v29) (
 doQ (qFieldAddr env.P 93 (some v1) 0) fun v30 =>
 doQ (qLoad env.P (Heap.get H7) 91 (some v30)) fun v31 =>
 doQ (qBuild env.P 146 (some [(0, x1)])) fun v32 =>
 doW (bsRes env.P false true H7 (⟨0, 55, Heap.gen H7 0 55, 0⟩ : Ref) 91 1 (some [(0, v32)])) fun v33 H8 =>
 doW (callRes env true (limf env) (limt env 0) H8 (⟨0, 56, Heap.gen H8 0 56, 0⟩ : Ref) (some (.fn (.func 101) [] [])) [v31, v27, v33]) fun v34 H9 =>
 doQ (qFieldAddr env.P 93 (some v1) 0) fun v35 =>
 doW (wStore env.P H9 91 (some v35) (some v34)) fun v36 H10 =>
 doQ (qFieldAddr env.P 93 (some v1) 0) fun v37 =>
 doQ (qLoad env.P (Heap.get H10) 91 (some v37)) fun v38 =>
 doW (callRes env false (limf env) (limt env 0) H10 (⟨0, 62, Heap.gen H10 0 62, 0⟩ : Ref) (some (.fn (.func 102) [] [])) [x2]) fun v39 H11 =>
 doQ (qIndexAddr env.P (Heap.get H11) 91 (some v38) (some v27)) fun v40 =>
 doQ (qFieldAddr env.P 146 (some v40) 1) fun v41 =>
 doW (wStore env.P H11 98 (some v41) (some v39)) fun v42 H12 =>
 doQ (qLoad env.P (Heap.get H12) 93 (some v1)) fun v43 =>
 doW (wStore env.P H12 93 (some v2) (some v43)) fun v44 H13 =>
 doQ (readCell env.P H13 v2 93) fun v45 =>
 Q (.tup [v45, (.v (.int .i64 0))]) H13) (
 doQ (qFieldAddr env.P 93 (some v1) 0) fun v30 =>
 doQ (qLoad env.P (Heap.get H7) 91 (some v30)) fun v31 =>
 doW (callRes env false (limf env) (limt env 0) H7 (⟨0, 62, Heap.gen H7 0 62, 0⟩ : Ref) (some (.fn (.func 102) [] [])) [x2]) fun v32 H8 =>
 doQ (qIndexAddr env.P (Heap.get H8) 91 (some v31) (some v27)) fun v33 =>
 doQ (qFieldAddr env.P 146 (some v33) 1) fun v34 =>
 doW (wStore env.P H8 98 (some v34) (some v32)) fun v35 H9 =>
 doQ (qLoad env.P (Heap.get H9) 93 (some v1)) fun v36 =>
 doW (wStore env.P H9 93 (some v2) (some v36)) fun v37 H10 =>
 doQ (readCell env.P H10 v2 93) fun v38 =>
 Q (.tup [v38, (.v (.int .i64 0))]) H10)) (
 doQ (qLoad env.P (Heap.get H5) 93 (some v1)) fun v20 =>
 doW (callRes env true (limf env) (limt env 0) H5 (⟨0, 45, Heap.gen H5 0 45, 0⟩ : Ref) (some (.fn (.func 100) [] [])) [v20, x1]) fun v21 H6 =>
 doQ (qExtract (some v21) 0) fun v22 =>
 doQ (qExtract (some v21) 1) fun v23 =>
 doQ (qUn env.P .not (some v23)) fun v24 =>
 br (some v24) (
 doQ (qFieldAddr env.P 93 (some v1) 0) fun v25 =>
 doQ (qLoad env.P (Heap.get H6) 91 (some v25)) fun v26 =>
 doQ (qBuild env.P 146 (some [(0, x1)])) fun v27 =>
 doW (bsRes env.P false true H6 (⟨0, 55, Heap.gen H6 0 55, 0⟩ : Ref) 91 1 (some [(0, v27)])) fun v28 H7 =>
 doW (callRes env true (limf env) (limt env 0) H7 (⟨0, 56, Heap.gen H7 0 56, 0⟩ : Ref) (some (.fn (.func 101) [] [])) [v26, v22, v28]) fun v29 H8 =>
 doQ (qFieldAddr env.P 93 (some v1) 0) fun v30 =>
 doW (wStore env.P H8 91 (some v30) (some v29)) fun v31 H9 =>
 doQ (qFieldAddr env.P 93 (some v1) 0) fun v32 =>
 doQ (qLoad env.P (Heap.get H9) 91 (some v32)) fun v33 =>
 doW (callRes env false (limf env) (limt env 0) H9 (⟨0, 62, Heap.gen H9 0 62, 0⟩ : Ref) (some (.fn (.func 102) [] [])) [x2]) fun v34 H10 =>
 doQ (qIndexAddr env.P (Heap.get H10) 91 (some v33) (some v22)) fun v35 =>
 doQ (qFieldAddr env.P 146 (some v35) 1) fun v36 =>
 doW (wStore env.P H10 98 (some v36) (some v34)) fun v37 H11 =>
 doQ (qLoad env.P (Heap.get H11) 93 (some v1)) fun v38 =>
 doW (wStore env.P H11 93 (some v2) (some v38)) fun v39 H12 =>
 doQ (readCell env.P H12 v2 93) fun v40 =>
 Q (.tup [v40, (.v (.int .i64 0))]) H12) (
 doQ (qFieldAddr env.P 93 (some v1) 0) fun v25 =>
 doQ (qLoad env.P (Heap.get H6) 91 (some v25)) fun v26 =>
 doW (callRes env false (limf env) (limt env 0) H6 (⟨0, 62, Heap.gen H6 0 62, 0⟩ : Ref) (some (.fn (.func 102) [] [])) [x2]) fun v27 H7 =>
 doQ (qIndexAddr env.P (Heap.get H7) 91 (some v26) (some v22)) fun v28 =>
 doQ (qFieldAddr env.P 146 (some v28) 1) fun v29 =>
 doW (wStore env.P H7 98 (some v29) (some v27)) fun v30 H8 =>
 doQ (qLoad env.P (Heap.get H8) 93 (some v1)) fun v31 =>
 doW (wStore env.P H8 93 (some v2) (some v31)) fun v32 H9 =>
 doQ (readCell env.P H9 v2 93) fun v33 =>
 Q (.tup [v33, (.v (.int .i64 0))]) H9)))))
theorem vq_disk_Write : VC_disk_Write = fun g x0 x1 x2 H Q => wp env Try.f55 none 0 lv_disk_Write cu_disk_Write Q 500 [.code bd_disk_Write] (ofL g [(0, x0), (1, x1), (2, x2)]) H := by kernel_rfl
theorem vc_disk_Write (x0 x1 x2 : AV) (H : Heap) (Q : AV → Heap → Prop) (h : ∀ g, VC_disk_Write g x0 x1 x2 H Q) : GoL env Try.f55 0 [.code bd_disk_Write] [(0, x0), (1, x1), (2, x2)] H Q := ⟨fun g => wp_ok (by have h := h g; rw [vq_disk_Write] at h; exact h)⟩
noncomputable def bd_blindstamplaw12_full : Code := (Try.f57.body).getD .skip
noncomputable def hd_blindstamplaw12_full_3 : List Item := (findLoop 3 400 [.code bd_blindstamplaw12_full]).getD []
def lv_blindstamplaw12_full : Nat → Option (List Nat) := fun i => cond (Nat.beq i 3) (some [4, 0, 3]) (none)
def cu_blindstamplaw12_full : Nat → Bool := fun i => false
def VC_blindstamplaw12_full (g : Nat → AV) (x0 : AV) (H : Heap) (Q : AV → Heap → Prop) : Prop :=
 doW (nRes H (⟨0, 5, Heap.gen H 0 5, 0⟩ : Ref) (qMake env.P (⟨0, 5, Heap.gen H 0 5, 0⟩ : Ref) 98 (some (.v (.int .i64 128))) (some (.v (.int .i64 128))))) fun v1 H1 =>
  GoL env Try.f57 0 hd_blindstamplaw12_full_3 [(4, (.v (.int .i64 0))), (0, x0), (3, v1)] H1 Q
theorem vq_blindstamplaw12_full : VC_blindstamplaw12_full = fun g x0 H Q => wp env Try.f57 none 0 lv_blindstamplaw12_full cu_blindstamplaw12_full Q 500 [.code bd_blindstamplaw12_full] (ofL g [(0, x0)]) H := by kernel_rfl
theorem vc_blindstamplaw12_full (x0 : AV) (H : Heap) (Q : AV → Heap → Prop) (h : ∀ g, VC_blindstamplaw12_full g x0 H Q) : GoL env Try.f57 0 [.code bd_blindstamplaw12_full] [(0, x0)] H Q := ⟨fun g => wp_ok (by have h := h g; rw [vq_blindstamplaw12_full] at h; exact h)⟩
def VC_blindstamplaw12_full_3 (g : Nat → AV) (x4 x0 x3 : AV) (H : Heap) (Q : AV → Heap → Prop) : Prop :=
 doQ (qBuiltin env.P false (Heap.get H) (⟨0, 8, Heap.gen H 0 8, 0⟩ : Ref) .len #[98] [x3]) fun v1 =>
 doQ (qBin env.P .lss 3 (.tmp 6) (.tmp 8) (some x4) (some v1)) fun v2 =>
 br (some v2) (
 doQ (qIndexAddr env.P (Heap.get H) 98 (some x3) (some x4)) fun v3 =>
 doW (wStore env.P H 5 (some v3) (some x0)) fun v4 H1 =>
 doQ (qBin env.P .add 3 (.tmp 10) (.const (.int .i64 1)) (some x4) (some (.v (.int .i64 1)))) fun v5 =>
   GoL env Try.f57 0 hd_blindstamplaw12_full_3 [(4, v5), (0, x0), (3, x3)] H1 Q) (
 Q x3 H)
theorem vq_blindstamplaw12_full_3 : VC_blindstamplaw12_full_3 = fun g x4 x0 x3 H Q => wp env Try.f57 none 0 lv_blindstamplaw12_full cu_blindstamplaw12_full Q 500 (bodyOf hd_blindstamplaw12_full_3) (ofL g [(4, x4), (0, x0), (3, x3)]) H := by kernel_rfl
theorem vc_blindstamplaw12_full_3 (x4 x0 x3 : AV) (H : Heap) (Q : AV → Heap → Prop) (h : ∀ g, VC_blindstamplaw12_full_3 g x4 x0 x3 H Q) : GoL env Try.f57 0 hd_blindstamplaw12_full_3 [(4, x4), (0, x0), (3, x3)] H Q := goL_body fun g => wp_ok (by have h := h g; rw [vq_blindstamplaw12_full_3] at h; exact h)
noncomputable def bd_disk_Check : Code := (Try.f60.body).getD .skip
noncomputable def hd_disk_Check_3 : List Item := (findLoop 3 400 [.code bd_disk_Check]).getD []
def lv_disk_Check : Nat → Option (List Nat) := fun i => cond (Nat.beq i 3) (some [9, 3, 7, 1, 8]) (none)
def cu_disk_Check : Nat → Bool := fun i => false
def VC_disk_Check (g : Nat → AV) (x0 : AV) (H : Heap) (Q : AV → Heap → Prop) : Prop :=
 doW (nRes H (⟨0, 1, Heap.gen H 0 1, 0⟩ : Ref) (qBox env.P (⟨0, 1, Heap.gen H 0 1, 0⟩ : Ref) 93 (some x0))) fun v1 H1 =>
 doQ (qFieldAddr env.P 93 (some v1) 0) fun v2 =>
 doQ (qLoad env.P (Heap.get H1) 91 (some v2)) fun v3 =>
 doQ (qBuiltin env.P false (Heap.get H1) (⟨0, 8, Heap.gen H1 0 8, 0⟩ : Ref) .len #[91] [v3]) fun v4 =>
  GoL env Try.f60 0 hd_disk_Check_3 [(9, (.v (.int .i64 0))), (3, (.v (.int .i64 (-1)))), (7, v3), (1, v1), (8, v4)] H1 Q
theorem vq_disk_Check : VC_disk_Check = fun g x0 H Q => wp env Try.f60 none 0 lv_disk_Check cu_disk_Check Q 500 [.code bd_disk_Check] (ofL g [(0, x0)]) H := by kernel_rfl
theorem vc_disk_Check (x0 : AV) (H : Heap) (Q : AV → Heap → Prop) (h : ∀ g, VC_disk_Check g x0 H Q) : GoL env Try.f60 0 [.code bd_disk_Check] [(0, x0)] H Q := ⟨fun g => wp_ok (by have h := h g; rw [vq_disk_Check] at h; exact h)⟩
def VC_disk_Check_3 (g : Nat → AV) (x9 x3 x7 x1 x8 : AV) (H : Heap) (Q : AV → Heap → Prop) : Prop :=
 doQ (qBin env.P .lss 3 (.tmp 9) (.tmp 8) (some x9) (some x8)) fun v1 =>
 br (some v1) (
 doQ (qIndexAddr env.P (Heap.get H) 91 (some x7) (some x9)) fun v2 =>
 doQ (qLoad env.P (Heap.get H) 146 (some v2)) fun v3 =>
 doW (nRes H (⟨0, 5, Heap.gen H 0 5, 0⟩ : Ref) (qAlloc env.P (⟨0, 5, Heap.gen H 0 5, 0⟩ : Ref) 146)) fun v4 H1 =>
 doW (wStore env.P H1 146 (some v4) (some v3)) fun v5 H2 =>
 doQ (qFieldAddr env.P 146 (some v4) 0) fun v6 =>
 doQ (qLoad env.P (Heap.get H2) 3 (some v6)) fun v7 =>
 doQ (qBin env.P .leq 3 (.tmp 14) (.tmp 15) (some v7) (some x3)) fun v8 =>
 gQ v8 false (qFieldAddr env.P 146 (some v4) 0) fun v9 =>
 gQ v8 false (qLoad env.P (Heap.get H2) 3 (some v9)) fun v10 =>
 gQ v8 false (qBin env.P .geq 3 (.tmp 19) (.const (.int .i64 6146)) (some v10) (some (.v (.int .i64 6146)))) fun v11 =>
 doQ (pickF (some v8) (some (.v (.bool true))) (some v11)) fun v12 =>
 gQ v12 false (qFieldAddr env.P 146 (some v4) 1) fun v13 =>
 gQ v12 false (qLoad env.P (Heap.get H2) 98 (some v13)) fun v14 =>
 gQ v12 false (qBuiltin env.P false (Heap.get H2) (⟨0, 25, Heap.gen H2 0 25, 0⟩ : Ref) .len #[98] [v14]) fun v15 =>
 gQ v12 false (qBin env.P .neq 3 (.tmp 25) (.const (.int .i64 128)) (some v15) (some (.v (.int .i64 128)))) fun v16 =>
 doQ (pickF (some v12) (some (.v (.bool true))) (some v16)) fun v17 =>
 br (some v17) (
 Q (.v (.int .i64 8)) H2) (
 doQ (qFieldAddr env.P 146 (some v4) 0) fun v18 =>
 doQ (qLoad env.P (Heap.get H2) 3 (some v18)) fun v19 =>
 doQ (qBin env.P .add 3 (.tmp 9) (.const (.int .i64 1)) (some x9) (some (.v (.int .i64 1)))) fun v20 =>
    GoL env Try.f60 0 hd_disk_Check_3 [(9, v20), (3, v19), (7, x7), (1, x1), (8, x8)] H2 Q)) (
 doQ (qFieldAddr env.P 93 (some x1) 1) fun v2 =>
 doQ (qLoad env.P (Heap.get H) 3 (some v2)) fun v3 =>
 doQ (qBin env.P .lss 3 (.tmp 32) (.const (.int .i64 0)) (some v3) (some (.v (.int .i64 0)))) fun v4 =>
 gQ v4 false (qFieldAddr env.P 93 (some x1) 1) fun v5 =>
 gQ v4 false (qLoad env.P (Heap.get H) 3 (some v5)) fun v6 =>
 gQ v4 false (qBin env.P .geq 3 (.tmp 36) (.const (.int .i64 2147483648)) (some v6) (some (.v (.int .i64 2147483648)))) fun v7 =>
 doQ (pickF (some v4) (some (.v (.bool true))) (some v7)) fun v8 =>
 gQ v8 false (qFieldAddr env.P 93 (some x1) 2) fun v9 =>
 gQ v8 false (qLoad env.P (Heap.get H) 3 (some v9)) fun v10 =>
 gQ v8 false (qBin env.P .lss 3 (.tmp 41) (.const (.int .i64 (-1))) (some v10) (some (.v (.int .i64 (-1))))) fun v11 =>
 doQ (pickF (some v8) (some (.v (.bool true))) (some v11)) fun v12 =>
 gQ v12 false (qFieldAddr env.P 93 (some x1) 2) fun v13 =>
 gQ v12 false (qLoad env.P (Heap.get H) 3 (some v13)) fun v14 =>
 gQ v12 false (qBin env.P .geq 3 (.tmp 46) (.const (.int .i64 2147483648)) (some v14) (some (.v (.int .i64 2147483648)))) fun v15 =>
 doQ (pickF (some v12) (some (.v (.bool true))) (some v15)) fun v16 =>
 gQ v16 false (qFieldAddr env.P 93 (some x1) 3) fun v17 =>
 gQ v16 false (qLoad env.P (Heap.get H) 4 (some v17)) fun v18 =>
 gQ v16 false (qVal (some v18)) fun v19 =>
 gQ v19 true (qFieldAddr env.P 93 (some x1) 2) fun v20 =>
 gQ v19 true (qLoad env.P (Heap.get H) 3 (some v20)) fun v21 =>
 gQ v19 true (qBin env.P .neq 3 (.tmp 54) (.const (.int .i64 0)) (some v21) (some (.v (.int .i64 0)))) fun v22 =>
 gQ v16 false (pickF (some v19) (some v22) (some (.v (.bool false)))) fun v23 =>
 doQ (pickF (some v16) (some (.v (.bool true))) (some v23)) fun v24 =>
 br (some v24) (
 Q (.v (.int .i64 8)) H) (
 Q (.v (.int .i64 0)) H))
theorem vq_disk_Check_3 : VC_disk_Check_3 = fun g x9 x3 x7 x1 x8 H Q => wp env Try.f60 none 0 lv_disk_Check cu_disk_Check Q 500 (bodyOf hd_disk_Check_3) (ofL g [(9, x9), (3, x3), (7, x7), (1, x1), (8, x8)]) H := by kernel_rfl
theorem vc_disk_Check_3 (x9 x3 x7 x1 x8 : AV) (H : Heap) (Q : AV → Heap → Prop) (h : ∀ g, VC_disk_Check_3 g x9 x3 x7 x1 x8 H Q) : GoL env Try.f60 0 hd_disk_Check_3 [(9, x9), (3, x3), (7, x7), (1, x1), (8, x8)] H Q := goL_body fun g => wp_ok (by have h := h g; rw [vq_disk_Check_3] at h; exact h)
noncomputable def bd_blindstampref12_Great : Code := (Try.f61.body).getD .skip
noncomputable def hd_blindstampref12_Great_3 : List Item := (findLoop 3 400 [.code bd_blindstampref12_Great]).getD []
def lv_blindstampref12_Great : Nat → Option (List Nat) := fun i => cond (Nat.beq i 3) (some [4, 1, 3]) (none)
def cu_blindstampref12_Great : Nat → Bool := fun i => false
def VC_blindstampref12_Great (g : Nat → AV) (x0 : AV) (H : Heap) (Q : AV → Heap → Prop) : Prop :=
 doW (nRes H (⟨0, 1, Heap.gen H 0 1, 0⟩ : Ref) (qBox env.P (⟨0, 1, Heap.gen H 0 1, 0⟩ : Ref) 93 (some x0))) fun v1 H1 =>
  GoL env Try.f61 0 hd_blindstampref12_Great_3 [(4, (.v (.int .i64 0))), (1, v1), (3, (.v (.int .i64 0)))] H1 Q
theorem vq_blindstampref12_Great : VC_blindstampref12_Great = fun g x0 H Q => wp env Try.f61 none 0 lv_blindstampref12_Great cu_blindstampref12_Great Q 500 [.code bd_blindstampref12_Great] (ofL g [(0, x0)]) H := by kernel_rfl
theorem vc_blindstampref12_Great (x0 : AV) (H : Heap) (Q : AV → Heap → Prop) (h : ∀ g, VC_blindstampref12_Great g x0 H Q) : GoL env Try.f61 0 [.code bd_blindstampref12_Great] [(0, x0)] H Q := ⟨fun g => wp_ok (by have h := h g; rw [vq_blindstampref12_Great] at h; exact h)⟩
def VC_blindstampref12_Great_3 (g : Nat → AV) (x4 x1 x3 : AV) (H : Heap) (Q : AV → Heap → Prop) : Prop :=
 doQ (qFieldAddr env.P 93 (some x1) 0) fun v1 =>
 doQ (qLoad env.P (Heap.get H) 91 (some v1)) fun v2 =>
 doQ (qBuiltin env.P false (Heap.get H) (⟨0, 8, Heap.gen H 0 8, 0⟩ : Ref) .len #[91] [v2]) fun v3 =>
 doQ (qBin env.P .lss 3 (.tmp 5) (.tmp 8) (some x4) (some v3)) fun v4 =>
 gQ v4 true (qVal (some x4)) fun v5 =>
 gQ v4 true (qBin env.P .lss 3 (.tmp 11) (.const (.int .i64 300)) (some v5) (some (.v (.int .i64 300)))) fun v6 =>
 doQ (pickF (some v4) (some v6) (some (.v (.bool false)))) fun v7 =>
 br (some v7) (
 doQ (qFieldAddr env.P 93 (some x1) 0) fun v8 =>
 doQ (qLoad env.P (Heap.get H) 91 (some v8)) fun v9 =>
 doQ (qIndexAddr env.P (Heap.get H) 91 (some v9) (some x4)) fun v10 =>
 doQ (qFieldAddr env.P 146 (some v10) 1) fun v11 =>
 doQ (qLoad env.P (Heap.get H) 98 (some v11)) fun v12 =>
 doQ (qBuiltin env.P false (Heap.get H) (⟨0, 23, Heap.gen H 0 23, 0⟩ : Ref) .len #[98] [v12]) fun v13 =>
 doQ (qBuiltin env.P false (Heap.get H) (⟨0, 24, Heap.gen H 0 24, 0⟩ : Ref) .min #[3, 3] [v13, (.v (.int .i64 10000))]) fun v14 =>
 doQ (qBin env.P .add 3 (.tmp 16) (.tmp 24) (some x3) (some v14)) fun v15 =>
 doQ (qBin env.P .add 3 (.tmp 14) (.const (.int .i64 1)) (some x4) (some (.v (.int .i64 1)))) fun v16 =>
   GoL env Try.f61 0 hd_blindstampref12_Great_3 [(4, v16), (1, x1), (3, v15)] H Q) (
 doQ (qFieldAddr env.P 93 (some x1) 0) fun v8 =>
 doQ (qLoad env.P (Heap.get H) 91 (some v8)) fun v9 =>
 doQ (qBuiltin env.P false (Heap.get H) (⟨0, 28, Heap.gen H 0 28, 0⟩ : Ref) .len #[91] [v9]) fun v10 =>
 doQ (qBin env.P .gtr 3 (.tmp 28) (.const (.int .i64 200)) (some v10) (some (.v (.int .i64 200)))) fun v11 =>
 gQ v11 false (qVal (some x3)) fun v12 =>
 gQ v11 false (qBin env.P .gtr 3 (.tmp 31) (.const (.int .i64 40000)) (some v12) (some (.v (.int .i64 40000)))) fun v13 =>
 doQ (pickF (some v11) (some (.v (.bool true))) (some v13)) fun v14 =>
 Q v14 H)
theorem vq_blindstampref12_Great_3 : VC_blindstampref12_Great_3 = fun g x4 x1 x3 H Q => wp env Try.f61 none 0 lv_blindstampref12_Great cu_blindstampref12_Great Q 500 (bodyOf hd_blindstampref12_Great_3) (ofL g [(4, x4), (1, x1), (3, x3)]) H := by kernel_rfl
theorem vc_blindstampref12_Great_3 (x4 x1 x3 : AV) (H : Heap) (Q : AV → Heap → Prop) (h : ∀ g, VC_blindstampref12_Great_3 g x4 x1 x3 H Q) : GoL env Try.f61 0 hd_blindstampref12_Great_3 [(4, x4), (1, x1), (3, x3)] H Q := goL_body fun g => wp_ok (by have h := h g; rw [vq_blindstampref12_Great_3] at h; exact h)
noncomputable def bd_blindstampref12_Same : Code := (Try.f62.body).getD .skip
noncomputable def hd_blindstampref12_Same_4 : List Item := (findLoop 4 400 [.code bd_blindstampref12_Same]).getD []
def lv_blindstampref12_Same : Nat → Option (List Nat) := fun i => cond (Nat.beq i 4) (some [5, 3, 2]) (none)
def cu_blindstampref12_Same : Nat → Bool := fun i => false
def VC_blindstampref12_Same (g : Nat → AV) (x0 x1 : AV) (H : Heap) (Q : AV → Heap → Prop) : Prop :=
 doW (nRes H (⟨0, 2, Heap.gen H 0 2, 0⟩ : Ref) (qBox env.P (⟨0, 2, Heap.gen H 0 2, 0⟩ : Ref) 93 (some x0))) fun v1 H1 =>
 doW (nRes H1 (⟨0, 3, Heap.gen H1 0 3, 0⟩ : Ref) (qBox env.P (⟨0, 3, Heap.gen H1 0 3, 0⟩ : Ref) 93 (some x1))) fun v2 H2 =>
 doQ (qFieldAddr env.P 93 (some v1) 0) fun v3 =>
 doQ (qLoad env.P (Heap.get H2) 91 (some v3)) fun v4 =>
 doQ (qBuiltin env.P false (Heap.get H2) (⟨0, 8, Heap.gen H2 0 8, 0⟩ : Ref) .len #[91] [v4]) fun v5 =>
 doQ (qFieldAddr env.P 93 (some v2) 0) fun v6 =>
 doQ (qLoad env.P (Heap.get H2) 91 (some v6)) fun v7 =>
 doQ (qBuiltin env.P false (Heap.get H2) (⟨0, 11, Heap.gen H2 0 11, 0⟩ : Ref) .len #[91] [v7]) fun v8 =>
 doQ (qBin env.P .neq 3 (.tmp 8) (.tmp 11) (some v5) (some v8)) fun v9 =>
 br (some v9) (
 Q (.v (.bool false)) H2) (
   GoL env Try.f62 0 hd_blindstampref12_Same_4 [(5, (.v (.int .i64 0))), (3, v2), (2, v1)] H2 Q)
theorem vq_blindstampref12_Same : VC_blindstampref12_Same = fun g x0 x1 H Q => wp env Try.f62 none 0 lv_blindstampref12_Same cu_blindstampref12_Same Q 500 [.code bd_blindstampref12_Same] (ofL g [(0, x0), (1, x1)]) H := by kernel_rfl
theorem vc_blindstampref12_Same (x0 x1 : AV) (H : Heap) (Q : AV → Heap → Prop) (h : ∀ g, VC_blindstampref12_Same g x0 x1 H Q) : GoL env Try.f62 0 [.code bd_blindstampref12_Same] [(0, x0), (1, x1)] H Q := ⟨fun g => wp_ok (by have h := h g; rw [vq_blindstampref12_Same] at h; exact h)⟩
def VC_blindstampref12_Same_4 (g : Nat → AV) (x5 x3 x2 : AV) (H : Heap) (Q : AV → Heap → Prop) : Prop :=
 doQ (qFieldAddr env.P 93 (some x2) 0) fun v1 =>
 doQ (qLoad env.P (Heap.get H) 91 (some v1)) fun v2 =>
 doQ (qBuiltin env.P false (Heap.get H) (⟨0, 16, Heap.gen H 0 16, 0⟩ : Ref) .len #[91] [v2]) fun v3 =>
 doQ (qBin env.P .lss 3 (.tmp 13) (.tmp 16) (some x5) (some v3)) fun v4 =>
 br (some v4) (
 doQ (qFieldAddr env.P 93 (some x2) 0) fun v5 =>
 doQ (qLoad env.P (Heap.get H) 91 (some v5)) fun v6 =>
 doQ (qIndexAddr env.P (Heap.get H) 91 (some v6) (some x5)) fun v7 =>
 doQ (qFieldAddr env.P 146 (some v7) 0) fun v8 =>
 doQ (qLoad env.P (Heap.get H) 3 (some v8)) fun v9 =>
 doQ (qFieldAddr env.P 93 (some x3) 0) fun v10 =>
 doQ (qLoad env.P (Heap.get H) 91 (some v10)) fun v11 =>
 doQ (qIndexAddr env.P (Heap.get H) 91 (some v11) (some x5)) fun v12 =>
 doQ (qFieldAddr env.P 146 (some v12) 0) fun v13 =>
 doQ (qLoad env.P (Heap.get H) 3 (some v13)) fun v14 =>
 doQ (qBin env.P .neq 3 (.tmp 25) (.tmp 31) (some v9) (some v14)) fun v15 =>
 gQ v15 false (qFieldAddr env.P 93 (some x2) 0) fun v16 =>
 gQ v15 false (qLoad env.P (Heap.get H) 91 (some v16)) fun v17 =>
 gQ v15 false (qVal (some x5)) fun v18 =>
 gQ v15 false (qIndexAddr env.P (Heap.get H) 91 (some v17) (some v18)) fun v19 =>
 gQ v15 false (qFieldAddr env.P 146 (some v19) 1) fun v20 =>
 gQ v15 false (qLoad env.P (Heap.get H) 98 (some v20)) fun v21 =>
 gQ v15 false (qConvert env.P (Heap.get H) (⟨0, 40, Heap.gen H 0 40, 0⟩ : Ref) 98 9 (some v21)) fun v22 =>
 gQ v15 false (qFieldAddr env.P 93 (some x3) 0) fun v23 =>
 gQ v15 false (qLoad env.P (Heap.get H) 91 (some v23)) fun v24 =>
 gQ v15 false (qVal (some x5)) fun v25 =>
 gQ v15 false (qIndexAddr env.P (Heap.get H) 91 (some v24) (some v25)) fun v26 =>
 gQ v15 false (qFieldAddr env.P 146 (some v26) 1) fun v27 =>
 gQ v15 false (qLoad env.P (Heap.get H) 98 (some v27)) fun v28 =>
 gQ v15 false (qConvert env.P (Heap.get H) (⟨0, 47, Heap.gen H 0 47, 0⟩ : Ref) 98 9 (some v28)) fun v29 =>
 gQ v15 false (qBin env.P .neq 9 (.tmp 40) (.tmp 47) (some v22) (some v29)) fun v30 =>
 doQ (pickF (some v15) (some (.v (.bool true))) (some v30)) fun v31 =>
 br (some v31) (
 Q (.v (.bool false)) H) (
 doQ (qBin env.P .add 3 (.tmp 18) (.const (.int .i64 1)) (some x5) (some (.v (.int .i64 1)))) fun v32 =>
    GoL env Try.f62 0 hd_blindstampref12_Same_4 [(5, v32), (3, x3), (2, x2)] H Q)) (
 doQ (qFieldAddr env.P 93 (some x2) 1) fun v5 =>
 doQ (qLoad env.P (Heap.get H) 3 (some v5)) fun v6 =>
 doQ (qFieldAddr env.P 93 (some x3) 1) fun v7 =>
 doQ (qLoad env.P (Heap.get H) 3 (some v7)) fun v8 =>
 doQ (qBin env.P .eql 3 (.tmp 51) (.tmp 53) (some v6) (some v8)) fun v9 =>
 gQ v9 true (qFieldAddr env.P 93 (some x2) 2) fun v10 =>
 gQ v9 true (qLoad env.P (Heap.get H) 3 (some v10)) fun v11 =>
 gQ v9 true (qFieldAddr env.P 93 (some x3) 2) fun v12 =>
 gQ v9 true (qLoad env.P (Heap.get H) 3 (some v12)) fun v13 =>
 gQ v9 true (qBin env.P .eql 3 (.tmp 57) (.tmp 59) (some v11) (some v13)) fun v14 =>
 doQ (pickF (some v9) (some v14) (some (.v (.bool false)))) fun v15 =>
 gQ v15 true (qFieldAddr env.P 93 (some x2) 3) fun v16 =>
 gQ v15 true (qLoad env.P (Heap.get H) 4 (some v16)) fun v17 =>
 gQ v15 true (qFieldAddr env.P 93 (some x3) 3) fun v18 =>
 gQ v15 true (qLoad env.P (Heap.get H) 4 (some v18)) fun v19 =>
 gQ v15 true (qBin env.P .eql 4 (.tmp 64) (.tmp 66) (some v17) (some v19)) fun v20 =>
 doQ (pickF (some v15) (some v20) (some (.v (.bool false)))) fun v21 =>
 Q v21 H)
theorem vq_blindstampref12_Same_4 : VC_blindstampref12_Same_4 = fun g x5 x3 x2 H Q => wp env Try.f62 none 0 lv_blindstampref12_Same cu_blindstampref12_Same Q 500 (bodyOf hd_blindstampref12_Same_4) (ofL g [(5, x5), (3, x3), (2, x2)]) H := by kernel_rfl
theorem vc_blindstampref12_Same_4 (x5 x3 x2 : AV) (H : Heap) (Q : AV → Heap → Prop) (h : ∀ g, VC_blindstampref12_Same_4 g x5 x3 x2 H Q) : GoL env Try.f62 0 hd_blindstampref12_Same_4 [(5, x5), (3, x3), (2, x2)] H Q := goL_body fun g => wp_ok (by have h := h g; rw [vq_blindstampref12_Same_4] at h; exact h)
noncomputable def bd_disk_Twin : Code := (Try.f67.body).getD .skip
noncomputable def hd_disk_Twin_3 : List Item := (findLoop 3 400 [.code bd_disk_Twin]).getD []
def lv_disk_Twin : Nat → Option (List Nat) := fun i => cond (Nat.beq i 3) (some [10, 3, 2, 1, 9]) (none)
def cu_disk_Twin : Nat → Bool := fun i => false
def VC_disk_Twin (g : Nat → AV) (x0 : AV) (H : Heap) (Q : AV → Heap → Prop) : Prop :=
 doW (nRes H (⟨0, 1, Heap.gen H 0 1, 0⟩ : Ref) (qBox env.P (⟨0, 1, Heap.gen H 0 1, 0⟩ : Ref) 93 (some x0))) fun v1 H1 =>
 doW (nRes H1 (⟨0, 2, Heap.gen H1 0 2, 0⟩ : Ref) (qAlloc env.P (⟨0, 2, Heap.gen H1 0 2, 0⟩ : Ref) 93)) fun v2 H2 =>
 doQ (qFieldAddr env.P 93 (some v1) 0) fun v3 =>
 doQ (qLoad env.P (Heap.get H2) 91 (some v3)) fun v4 =>
 doW (callRes env true (limf env) (limt env 0) H2 (⟨0, 7, Heap.gen H2 0 7, 0⟩ : Ref) (some (.fn (.func 108) [] [])) [v4]) fun v5 H3 =>
 doQ (qBuiltin env.P false (Heap.get H3) (⟨0, 9, Heap.gen H3 0 9, 0⟩ : Ref) .len #[91] [v5]) fun v6 =>
  GoL env Try.f67 0 hd_disk_Twin_3 [(10, (.v (.int .i64 0))), (3, v5), (2, v2), (1, v1), (9, v6)] H3 Q
theorem vq_disk_Twin : VC_disk_Twin = fun g x0 H Q => wp env Try.f67 none 0 lv_disk_Twin cu_disk_Twin Q 500 [.code bd_disk_Twin] (ofL g [(0, x0)]) H := by kernel_rfl
theorem vc_disk_Twin (x0 : AV) (H : Heap) (Q : AV → Heap → Prop) (h : ∀ g, VC_disk_Twin g x0 H Q) : GoL env Try.f67 0 [.code bd_disk_Twin] [(0, x0)] H Q := ⟨fun g => wp_ok (by have h := h g; rw [vq_disk_Twin] at h; exact h)⟩
def VC_disk_Twin_3 (g : Nat → AV) (x10 x3 x2 x1 x9 : AV) (H : Heap) (Q : AV → Heap → Prop) : Prop :=
 doQ (qBin env.P .lss 3 (.tmp 10) (.tmp 9) (some x10) (some x9)) fun v1 =>
 br (some v1) (
 doQ (qIndexAddr env.P (Heap.get H) 91 (some x3) (some x10)) fun v2 =>
 doQ (qFieldAddr env.P 146 (some v2) 1) fun v3 =>
 doQ (qLoad env.P (Heap.get H) 98 (some v3)) fun v4 =>
 doW (callRes env true (limf env) (limt env 0) H (⟨0, 20, Heap.gen H 0 20, 0⟩ : Ref) (some (.fn (.func 102) [] [])) [v4]) fun v5 H1 =>
 doQ (qIndexAddr env.P (Heap.get H1) 91 (some x3) (some x10)) fun v6 =>
 doQ (qFieldAddr env.P 146 (some v6) 1) fun v7 =>
 doW (wStore env.P H1 98 (some v7) (some v5)) fun v8 H2 =>
 doQ (qBin env.P .add 3 (.tmp 10) (.const (.int .i64 1)) (some x10) (some (.v (.int .i64 1)))) fun v9 =>
   GoL env Try.f67 0 hd_disk_Twin_3 [(10, v9), (3, x3), (2, x2), (1, x1), (9, x9)] H2 Q) (
 doQ (qFieldAddr env.P 93 (some x1) 0) fun v2 =>
 doW (wStore env.P H 91 (some v2) (some x3)) fun v3 H1 =>
 doQ (qLoad env.P (Heap.get H1) 93 (some x1)) fun v4 =>
 doW (wStore env.P H1 93 (some x2) (some v4)) fun v5 H2 =>
 doQ (readCell env.P H2 x2 93) fun v6 =>
 Q v6 H2)
theorem vq_disk_Twin_3 : VC_disk_Twin_3 = fun g x10 x3 x2 x1 x9 H Q => wp env Try.f67 none 0 lv_disk_Twin cu_disk_Twin Q 500 (bodyOf hd_disk_Twin_3) (ofL g [(10, x10), (3, x3), (2, x2), (1, x1), (9, x9)]) H := by kernel_rfl
theorem vc_disk_Twin_3 (x10 x3 x2 x1 x9 : AV) (H : Heap) (Q : AV → Heap → Prop) (h : ∀ g, VC_disk_Twin_3 g x10 x3 x2 x1 x9 H Q) : GoL env Try.f67 0 hd_disk_Twin_3 [(10, x10), (3, x3), (2, x2), (1, x1), (9, x9)] H Q := goL_body fun g => wp_ok (by have h := h g; rw [vq_disk_Twin_3] at h; exact h)
noncomputable def bd_disk_asked : Code := (Try.f99.body).getD .skip
def lv_disk_asked : Nat → Option (List Nat) := fun i => none
def cu_disk_asked : Nat → Bool := fun i => false
def VC_disk_asked (g : Nat → AV) (x0 x1 : AV) (H : Heap) (Q : AV → Heap → Prop) : Prop :=
 doW (nRes H (⟨0, 2, Heap.gen H 0 2, 0⟩ : Ref) (qBox env.P (⟨0, 2, Heap.gen H 0 2, 0⟩ : Ref) 93 (some x0))) fun v1 H1 =>
 doQ (qLoad env.P (Heap.get H1) 93 (some v1)) fun v2 =>
 doW (callRes env true (limf env) (limt env 0) H1 (⟨0, 7, Heap.gen H1 0 7, 0⟩ : Ref) (some (.fn (.func 60) [] [])) [v2]) fun v3 H2 =>
 doQ (qBin env.P .neq 35 (.tmp 8) (.const (.int .i64 0)) (some v3) (some (.v (.int .i64 0)))) fun v4 =>
 br (some v4) (
 Q v3 H2) (
 doQ (qBin env.P .lss 3 (.tmp 11) (.const (.int .i64 0)) (some x1) (some (.v (.int .i64 0)))) fun v5 =>
 gQ v5 false (qVal (some x1)) fun v6 =>
 gQ v5 false (qBin env.P .geq 3 (.tmp 14) (.const (.int .i64 6146)) (some v6) (some (.v (.int .i64 6146)))) fun v7 =>
 doQ (pickF (some v5) (some (.v (.bool true))) (some v7)) fun v8 =>
 br (some v8) (
 Q (.v (.int .i64 2)) H2) (
 Q (.v (.int .i64 0)) H2))
theorem vq_disk_asked : VC_disk_asked = fun g x0 x1 H Q => wp env Try.f99 none 0 lv_disk_asked cu_disk_asked Q 500 [.code bd_disk_asked] (ofL g [(0, x0), (1, x1)]) H := by kernel_rfl
theorem vc_disk_asked (x0 x1 : AV) (H : Heap) (Q : AV → Heap → Prop) (h : ∀ g, VC_disk_asked g x0 x1 H Q) : GoL env Try.f99 0 [.code bd_disk_asked] [(0, x0), (1, x1)] H Q := ⟨fun g => wp_ok (by have h := h g; rw [vq_disk_asked] at h; exact h)⟩
noncomputable def bd_disk_find : Code := (Try.f100.body).getD .skip
def lv_disk_find : Nat → Option (List Nat) := fun i => none
def cu_disk_find : Nat → Bool := fun i => false
def VC_disk_find (g : Nat → AV) (x0 x1 : AV) (H : Heap) (Q : AV → Heap → Prop) : Prop :=
 doW (nRes H (⟨0, 2, Heap.gen H 0 2, 0⟩ : Ref) (qBox env.P (⟨0, 2, Heap.gen H 0 2, 0⟩ : Ref) 93 (some x0))) fun v1 H1 =>
 doQ (qFieldAddr env.P 93 (some v1) 0) fun v2 =>
 doQ (qLoad env.P (Heap.get H1) 91 (some v2)) fun v3 =>
 doW (callRes env true (limf env) (limt env 0) H1 (⟨0, 9, Heap.gen H1 0 9, 0⟩ : Ref) (some (.fn (.func 133) [] [])) [v3, x1, (.fn (.func 134) [] [])]) fun v4 H2 =>
 doQ (qExtract (some v4) 0) fun v5 =>
 doQ (qExtract (some v4) 1) fun v6 =>
 Q (.tup [v5, v6]) H2
theorem vq_disk_find : VC_disk_find = fun g x0 x1 H Q => wp env Try.f100 none 0 lv_disk_find cu_disk_find Q 500 [.code bd_disk_find] (ofL g [(0, x0), (1, x1)]) H := by kernel_rfl
theorem vc_disk_find (x0 x1 : AV) (H : Heap) (Q : AV → Heap → Prop) (h : ∀ g, VC_disk_find g x0 x1 H Q) : GoL env Try.f100 0 [.code bd_disk_find] [(0, x0), (1, x1)] H Q := ⟨fun g => wp_ok (by have h := h g; rw [vq_disk_find] at h; exact h)⟩
noncomputable def bd_disk_own : Code := (Try.f102.body).getD .skip
def lv_disk_own : Nat → Option (List Nat) := fun i => none
def cu_disk_own : Nat → Bool := fun i => false
def VC_disk_own (g : Nat → AV) (x0 : AV) (H : Heap) (Q : AV → Heap → Prop) : Prop :=
 doQ (qBuiltin env.P false (Heap.get H) (⟨0, 5, Heap.gen H 0 5, 0⟩ : Ref) .len #[98] [x0]) fun v1 =>
 doW (nRes H (⟨0, 6, Heap.gen H 0 6, 0⟩ : Ref) (qMake env.P (⟨0, 6, Heap.gen H 0 6, 0⟩ : Ref) 98 (some v1) (some v1))) fun v2 H1 =>
 doW (wCopy env.P H1 (some 98) v2 x0) fun v3 H2 =>
 Q v2 H2
theorem vq_disk_own : VC_disk_own = fun g x0 H Q => wp env Try.f102 none 0 lv_disk_own cu_disk_own Q 500 [.code bd_disk_own] (ofL g [(0, x0)]) H := by kernel_rfl
theorem vc_disk_own (x0 : AV) (H : Heap) (Q : AV → Heap → Prop) (h : ∀ g, VC_disk_own g x0 H Q) : GoL env Try.f102 0 [.code bd_disk_own] [(0, x0)] H Q := ⟨fun g => wp_ok (by have h := h g; rw [vq_disk_own] at h; exact h)⟩
noncomputable def bd_slices_Clone___blindstamp_api_Sector_blindstamp_api_Sector_ : Code := (Try.f108.body).getD .skip
def lv_slices_Clone___blindstamp_api_Sector_blindstamp_api_Sector_ : Nat → Option (List Nat) := fun i => none
def cu_slices_Clone___blindstamp_api_Sector_blindstamp_api_Sector_ : Nat → Bool := fun i => false
def VC_slices_Clone___blindstamp_api_Sector_blindstamp_api_Sector_ (g : Nat → AV) (x0 : AV) (H : Heap) (Q : AV → Heap → Prop) : Prop :=
 doQ (qBin env.P .eql 91 (.tmp 3) (.const (.slice none 0 0)) (some x0) (some (.v (.slice none 0 0)))) fun v1 =>
 br (some v1) (
 Q (.v (.slice none 0 0)) H) (
 doW (bsRes env.P false true H (⟨0, 5, Heap.gen H 0 5, 0⟩ : Ref) 91 0 (some [])) fun v2 H1 =>
 doW (appRes env.P true H1 (⟨0, 7, Heap.gen H1 0 7, 0⟩ : Ref) (some 91) (some 91) v2 x0) fun v3 H2 =>
 Q v3 H2)
theorem vq_slices_Clone___blindstamp_api_Sector_blindstamp_api_Sector_ : VC_slices_Clone___blindstamp_api_Sector_blindstamp_api_Sector_ = fun g x0 H Q => wp env Try.f108 none 0 lv_slices_Clone___blindstamp_api_Sector_blindstamp_api_Sector_ cu_slices_Clone___blindstamp_api_Sector_blindstamp_api_Sector_ Q 500 [.code bd_slices_Clone___blindstamp_api_Sector_blindstamp_api_Sector_] (ofL g [(0, x0)]) H := by kernel_rfl
theorem vc_slices_Clone___blindstamp_api_Sector_blindstamp_api_Sector_ (x0 : AV) (H : Heap) (Q : AV → Heap → Prop) (h : ∀ g, VC_slices_Clone___blindstamp_api_Sector_blindstamp_api_Sector_ g x0 H Q) : GoL env Try.f108 0 [.code bd_slices_Clone___blindstamp_api_Sector_blindstamp_api_Sector_] [(0, x0)] H Q := ⟨fun g => wp_ok (by have h := h g; rw [vq_slices_Clone___blindstamp_api_Sector_blindstamp_api_Sector_] at h; exact h)⟩
noncomputable def bd_slices_BinarySearchFunc___blindstamp_api_Sector_blindstamp_api_Sector_int_ : Code := (Try.f133.body).getD .skip
noncomputable def hd_slices_BinarySearchFunc___blindstamp_api_Sector_blindstamp_api_Sector_int__3 : List Item := (findLoop 3 400 [.code bd_slices_BinarySearchFunc___blindstamp_api_Sector_blindstamp_api_Sector_int_]).getD []
def lv_slices_BinarySearchFunc___blindstamp_api_Sector_blindstamp_api_Sector_int_ : Nat → Option (List Nat) := fun i => cond (Nat.beq i 3) (some [1, 0, 2, 10, 9, 8]) (none)
def cu_slices_BinarySearchFunc___blindstamp_api_Sector_blindstamp_api_Sector_int_ : Nat → Bool := fun i => false
def VC_slices_BinarySearchFunc___blindstamp_api_Sector_blindstamp_api_Sector_int_ (g : Nat → AV) (x0 x1 x2 : AV) (H : Heap) (Q : AV → Heap → Prop) : Prop :=
 doQ (qBuiltin env.P false (Heap.get H) (⟨0, 13, Heap.gen H 0 13, 0⟩ : Ref) .len #[91] [x0]) fun v1 =>
  GoL env Try.f133 0 hd_slices_BinarySearchFunc___blindstamp_api_Sector_blindstamp_api_Sector_int__3 [(1, x1), (0, x0), (2, x2), (10, v1), (9, (.v (.int .i64 0))), (8, v1)] H Q
theorem vq_slices_BinarySearchFunc___blindstamp_api_Sector_blindstamp_api_Sector_int_ : VC_slices_BinarySearchFunc___blindstamp_api_Sector_blindstamp_api_Sector_int_ = fun g x0 x1 x2 H Q => wp env Try.f133 none 0 lv_slices_BinarySearchFunc___blindstamp_api_Sector_blindstamp_api_Sector_int_ cu_slices_BinarySearchFunc___blindstamp_api_Sector_blindstamp_api_Sector_int_ Q 500 [.code bd_slices_BinarySearchFunc___blindstamp_api_Sector_blindstamp_api_Sector_int_] (ofL g [(0, x0), (1, x1), (2, x2)]) H := by kernel_rfl
theorem vc_slices_BinarySearchFunc___blindstamp_api_Sector_blindstamp_api_Sector_int_ (x0 x1 x2 : AV) (H : Heap) (Q : AV → Heap → Prop) (h : ∀ g, VC_slices_BinarySearchFunc___blindstamp_api_Sector_blindstamp_api_Sector_int_ g x0 x1 x2 H Q) : GoL env Try.f133 0 [.code bd_slices_BinarySearchFunc___blindstamp_api_Sector_blindstamp_api_Sector_int_] [(0, x0), (1, x1), (2, x2)] H Q := ⟨fun g => wp_ok (by have h := h g; rw [vq_slices_BinarySearchFunc___blindstamp_api_Sector_blindstamp_api_Sector_int_] at h; exact h)⟩
def VC_slices_BinarySearchFunc___blindstamp_api_Sector_blindstamp_api_Sector_int__3 (g : Nat → AV) (x1 x0 x2 x10 x9 x8 : AV) (H : Heap) (Q : AV → Heap → Prop) : Prop :=
 doQ (qBin env.P .lss 3 (.tmp 15) (.tmp 16) (some x9) (some x10)) fun v1 =>
 br (some v1) (
 doQ (qBin env.P .add 3 (.tmp 18) (.tmp 19) (some x9) (some x10)) fun v2 =>
 doQ (qConvert env.P (Heap.get H) (⟨0, 21, Heap.gen H 0 21, 0⟩ : Ref) 3 190 (some v2)) fun v3 =>
 doQ (qBin env.P .shr 190 (.tmp 21) (.const (.int .u64 1)) (some v3) (some (.v (.int .u64 1)))) fun v4 =>
 doQ (qConvert env.P (Heap.get H) (⟨0, 23, Heap.gen H 0 23, 0⟩ : Ref) 190 3 (some v4)) fun v5 =>
 doQ (qIndexAddr env.P (Heap.get H) 91 (some x0) (some v5)) fun v6 =>
 doQ (qLoad env.P (Heap.get H) 146 (some v6)) fun v7 =>
 doW (callRes env true (limf env) (limt env 0) H (⟨0, 30, Heap.gen H 0 30, 0⟩ : Ref) (some x2) [v7, x1]) fun v8 H1 =>
 doQ (qBin env.P .lss 3 (.tmp 30) (.const (.int .i64 0)) (some v8) (some (.v (.int .i64 0)))) fun v9 =>
 br (some v9) (
 doQ (qBin env.P .add 3 (.tmp 32) (.const (.int .i64 1)) (some v5) (some (.v (.int .i64 1)))) fun v10 =>
    GoL env Try.f133 0 hd_slices_BinarySearchFunc___blindstamp_api_Sector_blindstamp_api_Sector_int__3 [(1, x1), (0, x0), (2, x2), (10, x10), (9, v10), (8, x8)] H1 Q) (
    GoL env Try.f133 0 hd_slices_BinarySearchFunc___blindstamp_api_Sector_blindstamp_api_Sector_int__3 [(1, x1), (0, x0), (2, x2), (10, v5), (9, x9), (8, x8)] H1 Q)) (
 doQ (qBin env.P .lss 3 (.tmp 36) (.tmp 37) (some x9) (some x8)) fun v2 =>
 gQ v2 true (qVal (some x2)) fun v3 =>
 gQ v2 true (qVal (some x0)) fun v4 =>
 gQ v2 true (qVal (some x9)) fun v5 =>
 gQ v2 true (qIndexAddr env.P (Heap.get H) 91 (some v4) (some v5)) fun v6 =>
 gQ v2 true (qLoad env.P (Heap.get H) 146 (some v6)) fun v7 =>
 gQ v2 true (qVal (some x1)) fun v8 =>
 gW v2 true H (callRes env true (limf env) (limt env 0) H (⟨0, 46, Heap.gen H 0 46, 0⟩ : Ref) (some v3) [v7, v8]) fun v9 H1 =>
 gQ v2 true (qBin env.P .eql 3 (.tmp 46) (.const (.int .i64 0)) (some v9) (some (.v (.int .i64 0)))) fun v10 =>
 doQ (pickF (some v2) (some v10) (some (.v (.bool false)))) fun v11 =>
 Q (.tup [x9, v11]) H1)
theorem vq_slices_BinarySearchFunc___blindstamp_api_Sector_blindstamp_api_Sector_int__3 : VC_slices_BinarySearchFunc___blindstamp_api_Sector_blindstamp_api_Sector_int__3 = fun g x1 x0 x2 x10 x9 x8 H Q => wp env Try.f133 none 0 lv_slices_BinarySearchFunc___blindstamp_api_Sector_blindstamp_api_Sector_int_ cu_slices_BinarySearchFunc___blindstamp_api_Sector_blindstamp_api_Sector_int_ Q 500 (bodyOf hd_slices_BinarySearchFunc___blindstamp_api_Sector_blindstamp_api_Sector_int__3) (ofL g [(1, x1), (0, x0), (2, x2), (10, x10), (9, x9), (8, x8)]) H := by kernel_rfl
theorem vc_slices_BinarySearchFunc___blindstamp_api_Sector_blindstamp_api_Sector_int__3 (x1 x0 x2 x10 x9 x8 : AV) (H : Heap) (Q : AV → Heap → Prop) (h : ∀ g, VC_slices_BinarySearchFunc___blindstamp_api_Sector_blindstamp_api_Sector_int__3 g x1 x0 x2 x10 x9 x8 H Q) : GoL env Try.f133 0 hd_slices_BinarySearchFunc___blindstamp_api_Sector_blindstamp_api_Sector_int__3 [(1, x1), (0, x0), (2, x2), (10, x10), (9, x9), (8, x8)] H Q := goL_body fun g => wp_ok (by have h := h g; rw [vq_slices_BinarySearchFunc___blindstamp_api_Sector_blindstamp_api_Sector_int__3] at h; exact h)
noncomputable def bd_disk_findF1 : Code := (Try.f134.body).getD .skip
def lv_disk_findF1 : Nat → Option (List Nat) := fun i => none
def cu_disk_findF1 : Nat → Bool := fun i => false
def VC_disk_findF1 (g : Nat → AV) (x0 x1 : AV) (H : Heap) (Q : AV → Heap → Prop) : Prop :=
 doW (nRes H (⟨0, 2, Heap.gen H 0 2, 0⟩ : Ref) (qBox env.P (⟨0, 2, Heap.gen H 0 2, 0⟩ : Ref) 146 (some x0))) fun v1 H1 =>
 doQ (qFieldAddr env.P 146 (some v1) 0) fun v2 =>
 doQ (qLoad env.P (Heap.get H1) 3 (some v2)) fun v3 =>
 doW (callRes env true (limf env) (limt env 0) H1 (⟨0, 8, Heap.gen H1 0 8, 0⟩ : Ref) (some (.fn (.func 135) [] [])) [v3, x1]) fun v4 H2 =>
 Q v4 H2
theorem vq_disk_findF1 : VC_disk_findF1 = fun g x0 x1 H Q => wp env Try.f134 none 0 lv_disk_findF1 cu_disk_findF1 Q 500 [.code bd_disk_findF1] (ofL g [(0, x0), (1, x1)]) H := by kernel_rfl
theorem vc_disk_findF1 (x0 x1 : AV) (H : Heap) (Q : AV → Heap → Prop) (h : ∀ g, VC_disk_findF1 g x0 x1 H Q) : GoL env Try.f134 0 [.code bd_disk_findF1] [(0, x0), (1, x1)] H Q := ⟨fun g => wp_ok (by have h := h g; rw [vq_disk_findF1] at h; exact h)⟩
noncomputable def bd_cmp_Compare_int_ : Code := (Try.f135.body).getD .skip
def lv_cmp_Compare_int_ : Nat → Option (List Nat) := fun i => none
def cu_cmp_Compare_int_ : Nat → Bool := fun i => false
def VC_cmp_Compare_int_ (g : Nat → AV) (x0 x1 : AV) (H : Heap) (Q : AV → Heap → Prop) : Prop :=
 doW (callRes env true (limf env) (limt env 0) H (⟨0, 8, Heap.gen H 0 8, 0⟩ : Ref) (some (.fn (.func 154) [] [])) [x0]) fun v1 H1 =>
 doW (callRes env true (limf env) (limt env 0) H1 (⟨0, 10, Heap.gen H1 0 10, 0⟩ : Ref) (some (.fn (.func 154) [] [])) [x1]) fun v2 H2 =>
 br (some v1) (
 br (some v2) (
 Q (.v (.int .i64 0)) H2) (
 Q (.v (.int .i64 (-1))) H2)) (
 br (some v2) (
 Q (.v (.int .i64 1)) H2) (
 doQ (qBin env.P .lss 3 (.tmp 14) (.tmp 15) (some x0) (some x1)) fun v3 =>
 br (some v3) (
 Q (.v (.int .i64 (-1))) H2) (
 doQ (qBin env.P .gtr 3 (.tmp 17) (.tmp 18) (some x0) (some x1)) fun v4 =>
 br (some v4) (
 Q (.v (.int .i64 1)) H2) (
 Q (.v (.int .i64 0)) H2))))
theorem vq_cmp_Compare_int_ : VC_cmp_Compare_int_ = fun g x0 x1 H Q => wp env Try.f135 none 0 lv_cmp_Compare_int_ cu_cmp_Compare_int_ Q 500 [.code bd_cmp_Compare_int_] (ofL g [(0, x0), (1, x1)]) H := by kernel_rfl
theorem vc_cmp_Compare_int_ (x0 x1 : AV) (H : Heap) (Q : AV → Heap → Prop) (h : ∀ g, VC_cmp_Compare_int_ g x0 x1 H Q) : GoL env Try.f135 0 [.code bd_cmp_Compare_int_] [(0, x0), (1, x1)] H Q := ⟨fun g => wp_ok (by have h := h g; rw [vq_cmp_Compare_int_] at h; exact h)⟩
noncomputable def bd_cmp_isNaN_int_ : Code := (Try.f154.body).getD .skip
def lv_cmp_isNaN_int_ : Nat → Option (List Nat) := fun i => none
def cu_cmp_isNaN_int_ : Nat → Bool := fun i => false
def VC_cmp_isNaN_int_ (g : Nat → AV) (x0 : AV) (H : Heap) (Q : AV → Heap → Prop) : Prop :=
 doQ (qBin env.P .neq 3 (.tmp 3) (.tmp 4) (some x0) (some x0)) fun v1 =>
 Q v1 H
theorem vq_cmp_isNaN_int_ : VC_cmp_isNaN_int_ = fun g x0 H Q => wp env Try.f154 none 0 lv_cmp_isNaN_int_ cu_cmp_isNaN_int_ Q 500 [.code bd_cmp_isNaN_int_] (ofL g [(0, x0)]) H := by kernel_rfl
theorem vc_cmp_isNaN_int_ (x0 : AV) (H : Heap) (Q : AV → Heap → Prop) (h : ∀ g, VC_cmp_isNaN_int_ g x0 H Q) : GoL env Try.f154 0 [.code bd_cmp_isNaN_int_] [(0, x0)] H Q := ⟨fun g => wp_ok (by have h := h g; rw [vq_cmp_isNaN_int_] at h; exact h)⟩
end Go.Proofs.Ytjampffmlnplcaa
