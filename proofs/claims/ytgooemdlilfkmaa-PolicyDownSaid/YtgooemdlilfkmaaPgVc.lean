/-
  What is to be shown of each function, computed from its code. No statement of a seat is proved here.
-/
import Derived.Test.YtgooemdlilfkmaaPgTy
set_option linter.unusedVariables false
set_option maxRecDepth 1000000
namespace Go.Proofs.Ytgooemdlilfkmaa
open Go.Ab

/- label_Leq -/
noncomputable def bd_label_Leq : Code := (Try.f19.body).getD .skip
def lv_label_Leq : Nat → Option (List Nat) := fun i => none
def cu_label_Leq : Nat → Bool := fun i => false
def VC_label_Leq (g : Nat → AV) (x0 x1 : AV) (H : Heap) (Q : AV → Heap → Prop) : Prop :=
  doW (nRes H (⟨0, 2, Heap.gen H 0 2, 0⟩ : Ref) (qBox env.P (⟨0, 2, Heap.gen H 0 2, 0⟩ : Ref) 24 (some x0))) fun v1 H1 =>
  doW (nRes H1 (⟨0, 3, Heap.gen H1 0 3, 0⟩ : Ref) (qBox env.P (⟨0, 3, Heap.gen H1 0 3, 0⟩ : Ref) 24 (some x1))) fun v2 H2 =>
  doQ (qFieldAddr env.P 24 (some v1) 0) fun v3 =>
  doQ (qLoad env.P (Heap.get H2) 5 (some v3)) fun v4 =>
  doQ (qFieldAddr env.P 24 (some v2) 0) fun v5 =>
  doQ (qLoad env.P (Heap.get H2) 5 (some v5)) fun v6 =>
  doQ (qBin env.P .leq 5 (.tmp 6) (.tmp 8) (some v4) (some v6)) fun v7 =>
  gQ v7 true (qFieldAddr env.P 24 (some v1) 1) fun v8 =>
  gQ v7 true (qLoad env.P (Heap.get H2) 22 (some v8)) fun v9 =>
  gQ v7 true (qFieldAddr env.P 24 (some v2) 1) fun v10 =>
  gQ v7 true (qLoad env.P (Heap.get H2) 22 (some v10)) fun v11 =>
  gQ v7 true (qBin env.P .andNot 22 (.tmp 12) (.tmp 14) (some v9) (some v11)) fun v12 =>
  gQ v7 true (qBin env.P .eql 22 (.tmp 15) (.const (.int .u32 0)) (some v12) (some (a32 0))) fun v13 =>
  doQ (pickF (some v7) (some v13) (some (.v (.bool false)))) fun v14 =>
  Q v14 H2
theorem vq_label_Leq : VC_label_Leq = fun g x0 x1 H Q => wp env Try.f19 0 lv_label_Leq cu_label_Leq Q 500 [.code bd_label_Leq] (ofL g [(0, x0), (1, x1)]) H := by kernel_rfl
theorem vc_label_Leq (x0 x1 : AV) (H : Heap) (Q : AV → Heap → Prop) (h : ∀ g, VC_label_Leq g x0 x1 H Q) : GoL env Try.f19 0 [.code bd_label_Leq] [(0, x0), (1, x1)] H Q := ⟨fun g => wp_ok (by have h := h g; rw [vq_label_Leq] at h; exact h)⟩

/- label_Check -/
noncomputable def bd_label_Check : Code := (Try.f51.body).getD .skip
def lv_label_Check : Nat → Option (List Nat) := fun i => none
def cu_label_Check : Nat → Bool := fun i => false
def VC_label_Check (g : Nat → AV) (x0 : AV) (H : Heap) (Q : AV → Heap → Prop) : Prop :=
  doW (nRes H (⟨0, 1, Heap.gen H 0 1, 0⟩ : Ref) (qBox env.P (⟨0, 1, Heap.gen H 0 1, 0⟩ : Ref) 24 (some x0))) fun v1 H1 =>
  doQ (qFieldAddr env.P 24 (some v1) 0) fun v2 =>
  doQ (qLoad env.P (Heap.get H1) 5 (some v2)) fun v3 =>
  doQ (qBin env.P .gtr 5 (.tmp 4) (.const (.int .u8 15)) (some v3) (some (a8 15))) fun v4 =>
  br (some v4) (
   Q (.v (.int .i64 8)) H1) (
   Q (.v (.int .i64 0)) H1)
theorem vq_label_Check : VC_label_Check = fun g x0 H Q => wp env Try.f51 0 lv_label_Check cu_label_Check Q 500 [.code bd_label_Check] (ofL g [(0, x0)]) H := by kernel_rfl
theorem vc_label_Check (x0 : AV) (H : Heap) (Q : AV → Heap → Prop) (h : ∀ g, VC_label_Check g x0 H Q) : GoL env Try.f51 0 [.code bd_label_Check] [(0, x0)] H Q := ⟨fun g => wp_ok (by have h := h g; rw [vq_label_Check] at h; exact h)⟩

/- label_Ahead -/
noncomputable def bd_label_Ahead : Code := (Try.f21.body).getD .skip
def lv_label_Ahead : Nat → Option (List Nat) := fun i => none
def cu_label_Ahead : Nat → Bool := fun i => false
def VC_label_Ahead (g : Nat → AV) (x0 x1 : AV) (H : Heap) (Q : AV → Heap → Prop) : Prop :=
  doW (nRes H (⟨0, 2, Heap.gen H 0 2, 0⟩ : Ref) (qBox env.P (⟨0, 2, Heap.gen H 0 2, 0⟩ : Ref) 24 (some x0))) fun v1 H1 =>
  doW (nRes H1 (⟨0, 3, Heap.gen H1 0 3, 0⟩ : Ref) (qBox env.P (⟨0, 3, Heap.gen H1 0 3, 0⟩ : Ref) 24 (some x1))) fun v2 H2 =>
  doQ (qFieldAddr env.P 24 (some v2) 0) fun v3 =>
  doQ (qLoad env.P (Heap.get H2) 5 (some v3)) fun v4 =>
  doQ (qFieldAddr env.P 24 (some v1) 1) fun v5 =>
  doQ (qLoad env.P (Heap.get H2) 22 (some v5)) fun v6 =>
  doQ (qBuild env.P 24 (some [(0, v4), (1, v6)])) fun v7 =>
  doW (nRes H2 (⟨0, 5, Heap.gen H2 0 5, 0⟩ : Ref) (qAlloc env.P (⟨0, 5, Heap.gen H2 0 5, 0⟩ : Ref) 24)) fun v8 H3 =>
  doW (wStore env.P H3 24 (some v8) (some v7)) fun v9 H4 =>
  doQ (qFieldAddr env.P 24 (some v1) 0) fun v10 =>
  doQ (qLoad env.P (Heap.get H4) 5 (some v10)) fun v11 =>
  doQ (qFieldAddr env.P 24 (some v2) 0) fun v12 =>
  doQ (qLoad env.P (Heap.get H4) 5 (some v12)) fun v13 =>
  doQ (qBin env.P .lss 5 (.tmp 12) (.tmp 14) (some v11) (some v13)) fun v14 =>
  gQ v14 false (qLoad env.P (Heap.get H4) 24 (some v1)) fun v15 =>
  gQ v14 false (qLoad env.P (Heap.get H4) 24 (some v8)) fun v16 =>
  gQ v14 false (qBin env.P .eql 24 (.tmp 17) (.tmp 18) (some v15) (some v16)) fun v17 =>
  gQ v14 false (qVal (some v17)) fun v18 =>
  gQ v18 true (qFieldAddr env.P 24 (some v1) 1) fun v19 =>
  gQ v18 true (qLoad env.P (Heap.get H4) 22 (some v19)) fun v20 =>
  gQ v18 true (qFieldAddr env.P 24 (some v2) 1) fun v21 =>
  gQ v18 true (qLoad env.P (Heap.get H4) 22 (some v21)) fun v22 =>
  gQ v18 true (qBin env.P .lss 22 (.tmp 22) (.tmp 24) (some v20) (some v22)) fun v23 =>
  gQ v14 false (pickF (some v18) (some v23) (some (.v (.bool false)))) fun v24 =>
  doQ (pickF (some v14) (some (.v (.bool true))) (some v24)) fun v25 =>
  Q v25 H4
theorem vq_label_Ahead : VC_label_Ahead = fun g x0 x1 H Q => wp env Try.f21 0 lv_label_Ahead cu_label_Ahead Q 500 [.code bd_label_Ahead] (ofL g [(0, x0), (1, x1)]) H := by kernel_rfl
theorem vc_label_Ahead (x0 x1 : AV) (H : Heap) (Q : AV → Heap → Prop) (h : ∀ g, VC_label_Ahead g x0 x1 H Q) : GoL env Try.f21 0 [.code bd_label_Ahead] [(0, x0), (1, x1)] H Q := ⟨fun g => wp_ok (by have h := h g; rw [vq_label_Ahead] at h; exact h)⟩

/- label_Least -/
noncomputable def bd_label_Least : Code := (Try.f68.body).getD .skip
def lv_label_Least : Nat → Option (List Nat) := fun i => none
def cu_label_Least : Nat → Bool := fun i => false
def VC_label_Least (g : Nat → AV) (H : Heap) (Q : AV → Heap → Prop) : Prop :=
  doW (nRes H (⟨0, 0, Heap.gen H 0 0, 0⟩ : Ref) (qAlloc env.P (⟨0, 0, Heap.gen H 0 0, 0⟩ : Ref) 24)) fun v1 H1 =>
  doQ (qBuild env.P 24 (some [])) fun v2 =>
  doW (wStore env.P H1 24 (some v1) (some v2)) fun v3 H2 =>
  doQ (readCell env.P H2 v1 24) fun v4 =>
  Q v4 H2
theorem vq_label_Least : VC_label_Least = fun g  H Q => wp env Try.f68 0 lv_label_Least cu_label_Least Q 500 [.code bd_label_Least] (ofL g []) H := by kernel_rfl
theorem vc_label_Least (H : Heap) (Q : AV → Heap → Prop) (h : ∀ g, VC_label_Least g  H Q) : GoL env Try.f68 0 [.code bd_label_Least] [] H Q := ⟨fun g => wp_ok (by have h := h g; rw [vq_label_Least] at h; exact h)⟩

/- slices_Index___bool_bool_ -/
noncomputable def bd_slices_Index___bool_bool_ : Code := (Try.f80.body).getD .skip
noncomputable def hd_slices_Index___bool_bool__2 : List Item := (findLoop 2 400 [.code bd_slices_Index___bool_bool_]).getD []
def lv_slices_Index___bool_bool_ : Nat → Option (List Nat) := fun i => cond (Nat.beq i 2) (some [8, 0, 1, 7]) (none)
def cu_slices_Index___bool_bool_ : Nat → Bool := fun i => false
def VC_slices_Index___bool_bool_ (g : Nat → AV) (x0 x1 : AV) (H : Heap) (Q : AV → Heap → Prop) : Prop :=
  doQ (qBuiltin env.P (Heap.get H) (⟨0, 7, Heap.gen H 0 7, 0⟩ : Ref) .len #[114] [x0]) fun v1 =>
  GoL env Try.f80 0 hd_slices_Index___bool_bool__2 [(8, (.v (.int .i64 0))), (0, x0), (1, x1), (7, v1)] H Q
theorem vq_slices_Index___bool_bool_ : VC_slices_Index___bool_bool_ = fun g x0 x1 H Q => wp env Try.f80 0 lv_slices_Index___bool_bool_ cu_slices_Index___bool_bool_ Q 500 [.code bd_slices_Index___bool_bool_] (ofL g [(0, x0), (1, x1)]) H := by kernel_rfl
theorem vc_slices_Index___bool_bool_ (x0 x1 : AV) (H : Heap) (Q : AV → Heap → Prop) (h : ∀ g, VC_slices_Index___bool_bool_ g x0 x1 H Q) : GoL env Try.f80 0 [.code bd_slices_Index___bool_bool_] [(0, x0), (1, x1)] H Q := ⟨fun g => wp_ok (by have h := h g; rw [vq_slices_Index___bool_bool_] at h; exact h)⟩
def VC_slices_Index___bool_bool__2 (g : Nat → AV) (x8 x0 x1 x7 : AV) (H : Heap) (Q : AV → Heap → Prop) : Prop :=
  doQ (qBin env.P .lss 3 (.tmp 8) (.tmp 7) (some x8) (some x7)) fun v1 =>
  br (some v1) (
   doQ (qIndexAddr env.P (Heap.get H) 114 (some x0) (some x8)) fun v2 =>
   doQ (qLoad env.P (Heap.get H) 4 (some v2)) fun v3 =>
   doQ (qBin env.P .eql 4 (.tmp 11) (.tmp 15) (some x1) (some v3)) fun v4 =>
   br (some v4) (
    Q x8 H) (
    doQ (qBin env.P .add 3 (.tmp 8) (.const (.int .i64 1)) (some x8) (some (.v (.int .i64 1)))) fun v5 =>
    GoL env Try.f80 0 hd_slices_Index___bool_bool__2 [(8, v5), (0, x0), (1, x1), (7, x7)] H Q)) (
   Q (.v (.int .i64 (-1))) H)
theorem vq_slices_Index___bool_bool__2 : VC_slices_Index___bool_bool__2 = fun g x8 x0 x1 x7 H Q => wp env Try.f80 0 lv_slices_Index___bool_bool_ cu_slices_Index___bool_bool_ Q 500 (bodyOf hd_slices_Index___bool_bool__2) (ofL g [(8, x8), (0, x0), (1, x1), (7, x7)]) H := by kernel_rfl
theorem vc_slices_Index___bool_bool__2 (x8 x0 x1 x7 : AV) (H : Heap) (Q : AV → Heap → Prop) (h : ∀ g, VC_slices_Index___bool_bool__2 g x8 x0 x1 x7 H Q) : GoL env Try.f80 0 hd_slices_Index___bool_bool__2 [(8, x8), (0, x0), (1, x1), (7, x7)] H Q := goL_body fun g => wp_ok (by have h := h g; rw [vq_slices_Index___bool_bool__2] at h; exact h)

/- slices_Contains___bool_bool_ -/
noncomputable def bd_slices_Contains___bool_bool_ : Code := (Try.f71.body).getD .skip
def lv_slices_Contains___bool_bool_ : Nat → Option (List Nat) := fun i => none
def cu_slices_Contains___bool_bool_ : Nat → Bool := fun i => false
def VC_slices_Contains___bool_bool_ (g : Nat → AV) (x0 x1 : AV) (H : Heap) (Q : AV → Heap → Prop) : Prop :=
  doW (callRes env true (limf env) (limt env 0) H (⟨0, 7, Heap.gen H 0 7, 0⟩ : Ref) (some (.fn (.func 80) [] [])) [x0, x1]) fun v1 H1 =>
  doQ (qBin env.P .geq 3 (.tmp 7) (.const (.int .i64 0)) (some v1) (some (.v (.int .i64 0)))) fun v2 =>
  Q v2 H1
theorem vq_slices_Contains___bool_bool_ : VC_slices_Contains___bool_bool_ = fun g x0 x1 H Q => wp env Try.f71 0 lv_slices_Contains___bool_bool_ cu_slices_Contains___bool_bool_ Q 500 [.code bd_slices_Contains___bool_bool_] (ofL g [(0, x0), (1, x1)]) H := by kernel_rfl
theorem vc_slices_Contains___bool_bool_ (x0 x1 : AV) (H : Heap) (Q : AV → Heap → Prop) (h : ∀ g, VC_slices_Contains___bool_bool_ g x0 x1 H Q) : GoL env Try.f71 0 [.code bd_slices_Contains___bool_bool_] [(0, x0), (1, x1)] H Q := ⟨fun g => wp_ok (by have h := h g; rw [vq_slices_Contains___bool_bool_] at h; exact h)⟩

/- policy_all -/
noncomputable def bd_policy_all : Code := (Try.f48.body).getD .skip
def lv_policy_all : Nat → Option (List Nat) := fun i => none
def cu_policy_all : Nat → Bool := fun i => false
def VC_policy_all (g : Nat → AV) (x0 : AV) (H : Heap) (Q : AV → Heap → Prop) : Prop :=
  doW (callRes env true (limf env) (limt env 0) H (⟨0, 4, Heap.gen H 0 4, 0⟩ : Ref) (some (.fn (.func 71) [] [])) [x0, (.v (.bool false))]) fun v1 H1 =>
  doQ (qUn env.P .not (some v1)) fun v2 =>
  Q v2 H1
theorem vq_policy_all : VC_policy_all = fun g x0 H Q => wp env Try.f48 0 lv_policy_all cu_policy_all Q 500 [.code bd_policy_all] (ofL g [(0, x0)]) H := by kernel_rfl
theorem vc_policy_all (x0 : AV) (H : Heap) (Q : AV → Heap → Prop) (h : ∀ g, VC_policy_all g x0 H Q) : GoL env Try.f48 0 [.code bd_policy_all] [(0, x0)] H Q := ⟨fun g => wp_ok (by have h := h g; rw [vq_policy_all] at h; exact h)⟩

/- policy_from -/
noncomputable def bd_policy_from : Code := (Try.f49.body).getD .skip
def lv_policy_from : Nat → Option (List Nat) := fun i => none
def cu_policy_from : Nat → Bool := fun i => false
def VC_policy_from (g : Nat → AV) (x0 x1 : AV) (H : Heap) (Q : AV → Heap → Prop) : Prop :=
  doQ (qBin env.P .geq 3 (.tmp 5) (.const (.int .i64 0)) (some x0) (some (.v (.int .i64 0)))) fun v1 =>
  gQ v1 true (qVal (some x0)) fun v2 =>
  gQ v1 true (qVal (some x1)) fun v3 =>
  gQ v1 true (qBin env.P .leq 3 (.tmp 8) (.tmp 9) (some v2) (some v3)) fun v4 =>
  doQ (pickF (some v1) (some v4) (some (.v (.bool false)))) fun v5 =>
  Q v5 H
theorem vq_policy_from : VC_policy_from = fun g x0 x1 H Q => wp env Try.f49 0 lv_policy_from cu_policy_from Q 500 [.code bd_policy_from] (ofL g [(0, x0), (1, x1)]) H := by kernel_rfl
theorem vc_policy_from (x0 x1 : AV) (H : Heap) (Q : AV → Heap → Prop) (h : ∀ g, VC_policy_from g x0 x1 H Q) : GoL env Try.f49 0 [.code bd_policy_from] [(0, x0), (1, x1)] H Q := ⟨fun g => wp_ok (by have h := h g; rw [vq_policy_from] at h; exact h)⟩

/- policy_clear -/
noncomputable def bd_policy_clear : Code := (Try.f50.body).getD .skip
def lv_policy_clear : Nat → Option (List Nat) := fun i => none
def cu_policy_clear : Nat → Bool := fun i => false
def VC_policy_clear (g : Nat → AV) (x0 : AV) (H : Heap) (Q : AV → Heap → Prop) : Prop :=
  doW (nRes H (⟨0, 1, Heap.gen H 0 1, 0⟩ : Ref) (qBox env.P (⟨0, 1, Heap.gen H 0 1, 0⟩ : Ref) 39 (some x0))) fun v1 H1 =>
  doQ (qFieldAddr env.P 39 (some v1) 0) fun v2 =>
  doQ (qLoad env.P (Heap.get H1) 24 (some v2)) fun v3 =>
  doW (callRes env false (limf env) (limt env 0) H1 (⟨0, 5, Heap.gen H1 0 5, 0⟩ : Ref) (some (.fn (.func 51) [] [])) [v3]) fun v4 H2 =>
  doQ (qBin env.P .eql 27 (.tmp 5) (.const (.int .i64 0)) (some v4) (some (.v (.int .i64 0)))) fun v5 =>
  gQ v5 true (qFieldAddr env.P 39 (some v1) 1) fun v6 =>
  gQ v5 true (qLoad env.P (Heap.get H2) 4 (some v6)) fun v7 =>
  gQ v5 true (qVal (some v7)) fun v8 =>
  gQ v8 false (qFieldAddr env.P 39 (some v1) 0) fun v9 =>
  gQ v8 false (qLoad env.P (Heap.get H2) 24 (some v9)) fun v10 =>
  gW v8 false H2 (callRes env false (limf env) (limt env 0) H2 (⟨0, 13, Heap.gen H2 0 13, 0⟩ : Ref) (some (.fn (.func 68) [] [])) []) fun v11 H3 =>
  gQ v8 false (qBin env.P .eql 24 (.tmp 12) (.tmp 13) (some v10) (some v11)) fun v12 =>
  gQ v5 true (pickF (some v8) (some (.v (.bool true))) (some v12)) fun v13 =>
  doQ (pickF (some v5) (some v13) (some (.v (.bool false)))) fun v14 =>
  Q v14 H3
theorem vq_policy_clear : VC_policy_clear = fun g x0 H Q => wp env Try.f50 0 lv_policy_clear cu_policy_clear Q 500 [.code bd_policy_clear] (ofL g [(0, x0)]) H := by kernel_rfl
theorem vc_policy_clear (x0 : AV) (H : Heap) (Q : AV → Heap → Prop) (h : ∀ g, VC_policy_clear g x0 H Q) : GoL env Try.f50 0 [.code bd_policy_clear] [(0, x0)] H Q := ⟨fun g => wp_ok (by have h := h g; rw [vq_policy_clear] at h; exact h)⟩

/- policy_blocks -/
noncomputable def bd_policy_blocks : Code := (Try.f52.body).getD .skip
noncomputable def hd_policy_blocks_3 : List Item := (findLoop 3 400 [.code bd_policy_blocks]).getD []
def lv_policy_blocks : Nat → Option (List Nat) := fun i => cond (Nat.beq i 3) (some [11, 3, 9, 10]) (none)
def cu_policy_blocks : Nat → Bool := fun i => false
def VC_policy_blocks (g : Nat → AV) (x0 : AV) (H : Heap) (Q : AV → Heap → Prop) : Prop :=
  doW (nRes H (⟨0, 1, Heap.gen H 0 1, 0⟩ : Ref) (qBox env.P (⟨0, 1, Heap.gen H 0 1, 0⟩ : Ref) 33 (some x0))) fun v1 H1 =>
  doQ (qFieldAddr env.P 33 (some v1) 2) fun v2 =>
  doQ (qLoad env.P (Heap.get H1) 3 (some v2)) fun v3 =>
  doQ (qFieldAddr env.P 33 (some v1) 1) fun v4 =>
  doQ (qLoad env.P (Heap.get H1) 31 (some v4)) fun v5 =>
  doQ (qBuiltin env.P (Heap.get H1) (⟨0, 10, Heap.gen H1 0 10, 0⟩ : Ref) .len #[31] [v5]) fun v6 =>
  GoL env Try.f52 0 hd_policy_blocks_3 [(11, (.v (.int .i64 0))), (3, v3), (9, v5), (10, v6)] H1 Q
theorem vq_policy_blocks : VC_policy_blocks = fun g x0 H Q => wp env Try.f52 0 lv_policy_blocks cu_policy_blocks Q 500 [.code bd_policy_blocks] (ofL g [(0, x0)]) H := by kernel_rfl
theorem vc_policy_blocks (x0 : AV) (H : Heap) (Q : AV → Heap → Prop) (h : ∀ g, VC_policy_blocks g x0 H Q) : GoL env Try.f52 0 [.code bd_policy_blocks] [(0, x0)] H Q := ⟨fun g => wp_ok (by have h := h g; rw [vq_policy_blocks] at h; exact h)⟩
def VC_policy_blocks_3 (g : Nat → AV) (x11 x3 x9 x10 : AV) (H : Heap) (Q : AV → Heap → Prop) : Prop :=
  doQ (qBin env.P .lss 3 (.tmp 11) (.tmp 10) (some x11) (some x10)) fun v1 =>
  br (some v1) (
   doQ (qIndexAddr env.P (Heap.get H) 31 (some x9) (some x11)) fun v2 =>
   doQ (qLoad env.P (Heap.get H) 26 (some v2)) fun v3 =>
   doW (nRes H (⟨0, 5, Heap.gen H 0 5, 0⟩ : Ref) (qAlloc env.P (⟨0, 5, Heap.gen H 0 5, 0⟩ : Ref) 26)) fun v4 H1 =>
   doW (wStore env.P H1 26 (some v4) (some v3)) fun v5 H2 =>
   doQ (qFieldAddr env.P 26 (some v4) 1) fun v6 =>
   doQ (qLoad env.P (Heap.get H2) 3 (some v6)) fun v7 =>
   doQ (qFieldAddr env.P 26 (some v4) 2) fun v8 =>
   doQ (qLoad env.P (Heap.get H2) 3 (some v8)) fun v9 =>
   doQ (qBin env.P .mul 3 (.const (.int .i64 4)) (.tmp 19) (some (.v (.int .i64 4))) (some v9)) fun v10 =>
   doQ (qBin env.P .add 3 (.tmp 17) (.tmp 20) (some v7) (some v10)) fun v11 =>
   doQ (qBin env.P .add 3 (.tmp 15) (.tmp 21) (some x3) (some v11)) fun v12 =>
   doQ (qBin env.P .add 3 (.tmp 11) (.const (.int .i64 1)) (some x11) (some (.v (.int .i64 1)))) fun v13 =>
   GoL env Try.f52 0 hd_policy_blocks_3 [(11, v13), (3, v12), (9, x9), (10, x10)] H2 Q) (
   Q x3 H)
theorem vq_policy_blocks_3 : VC_policy_blocks_3 = fun g x11 x3 x9 x10 H Q => wp env Try.f52 0 lv_policy_blocks cu_policy_blocks Q 500 (bodyOf hd_policy_blocks_3) (ofL g [(11, x11), (3, x3), (9, x9), (10, x10)]) H := by kernel_rfl
theorem vc_policy_blocks_3 (x11 x3 x9 x10 : AV) (H : Heap) (Q : AV → Heap → Prop) (h : ∀ g, VC_policy_blocks_3 g x11 x3 x9 x10 H Q) : GoL env Try.f52 0 hd_policy_blocks_3 [(11, x11), (3, x3), (9, x9), (10, x10)] H Q := goL_body fun g => wp_ok (by have h := h g; rw [vq_policy_blocks_3] at h; exact h)

/- policy_Check -/
noncomputable def bd_policy_Check : Code := (Try.f17.body).getD .skip
noncomputable def hd_policy_Check_3 : List Item := (findLoop 3 400 [.code bd_policy_Check]).getD []
noncomputable def hd_policy_Check_8 : List Item := (findLoop 8 400 [.code bd_policy_Check]).getD []
noncomputable def hd_policy_Check_14 : List Item := (findLoop 14 400 [.code bd_policy_Check]).getD []
def lv_policy_Check : Nat → Option (List Nat) := fun i => cond (Nat.beq i 3) (some [27, 3, 25, 1, 26]) (cond (Nat.beq i 8) (some [40, 1, 3, 38, 39]) (cond (Nat.beq i 14) (some [87, 8, 85, 1, 3, 86]) (none)))
def cu_policy_Check : Nat → Bool := fun i => false
def VC_policy_Check (g : Nat → AV) (x0 : AV) (H : Heap) (Q : AV → Heap → Prop) : Prop :=
  doW (nRes H (⟨0, 1, Heap.gen H 0 1, 0⟩ : Ref) (qBox env.P (⟨0, 1, Heap.gen H 0 1, 0⟩ : Ref) 33 (some x0))) fun v1 H1 =>
  doQ (qFieldAddr env.P 33 (some v1) 0) fun v2 =>
  doQ (qLoad env.P (Heap.get H1) 30 (some v2)) fun v3 =>
  doQ (qBuiltin env.P (Heap.get H1) (⟨0, 13, Heap.gen H1 0 13, 0⟩ : Ref) .len #[30] [v3]) fun v4 =>
  doQ (qBin env.P .leq 3 (.tmp 13) (.const (.int .i64 8)) (some v4) (some (.v (.int .i64 8)))) fun v5 =>
  doQ (qFieldAddr env.P 33 (some v1) 1) fun v6 =>
  doQ (qLoad env.P (Heap.get H1) 31 (some v6)) fun v7 =>
  doQ (qBuiltin env.P (Heap.get H1) (⟨0, 17, Heap.gen H1 0 17, 0⟩ : Ref) .len #[31] [v7]) fun v8 =>
  doQ (qBin env.P .leq 3 (.tmp 17) (.const (.int .i64 8)) (some v8) (some (.v (.int .i64 8)))) fun v9 =>
  doQ (qFieldAddr env.P 33 (some v1) 2) fun v10 =>
  doQ (qLoad env.P (Heap.get H1) 3 (some v10)) fun v11 =>
  doW (callRes env false (limf env) (limt env 0) H1 (⟨0, 21, Heap.gen H1 0 21, 0⟩ : Ref) (some (.fn (.func 49) [] [])) [v11, (.v (.int .i64 64))]) fun v12 H2 =>
  doW (bsRes env.P true false H2 (⟨0, 22, Heap.gen H2 0 22, 0⟩ : Ref) 114 3 (some [(0, v5), (1, v9), (2, v12)])) fun v13 H3 =>
  doW (callRes env false (limf env) (limt env 0) H3 (⟨0, 23, Heap.gen H3 0 23, 0⟩ : Ref) (some (.fn (.func 48) [] [])) [v13]) fun v14 H4 =>
  doQ (qFieldAddr env.P 33 (some v1) 0) fun v15 =>
  doQ (qLoad env.P (Heap.get H4) 30 (some v15)) fun v16 =>
  doQ (qBuiltin env.P (Heap.get H4) (⟨0, 26, Heap.gen H4 0 26, 0⟩ : Ref) .len #[30] [v16]) fun v17 =>
  GoL env Try.f17 0 hd_policy_Check_3 [(27, (.v (.int .i64 0))), (3, v14), (25, v16), (1, v1), (26, v17)] H4 Q
theorem vq_policy_Check : VC_policy_Check = fun g x0 H Q => wp env Try.f17 0 lv_policy_Check cu_policy_Check Q 500 [.code bd_policy_Check] (ofL g [(0, x0)]) H := by kernel_rfl
theorem vc_policy_Check (x0 : AV) (H : Heap) (Q : AV → Heap → Prop) (h : ∀ g, VC_policy_Check g x0 H Q) : GoL env Try.f17 0 [.code bd_policy_Check] [(0, x0)] H Q := ⟨fun g => wp_ok (by have h := h g; rw [vq_policy_Check] at h; exact h)⟩
def VC_policy_Check_3 (g : Nat → AV) (x27 x3 x25 x1 x26 : AV) (H : Heap) (Q : AV → Heap → Prop) : Prop :=
  doQ (qBin env.P .lss 3 (.tmp 27) (.tmp 26) (some x27) (some x26)) fun v1 =>
  br (some v1) (
   doQ (qIndexAddr env.P (Heap.get H) 30 (some x25) (some x27)) fun v2 =>
   doQ (qLoad env.P (Heap.get H) 39 (some v2)) fun v3 =>
   doW (nRes H (⟨0, 5, Heap.gen H 0 5, 0⟩ : Ref) (qAlloc env.P (⟨0, 5, Heap.gen H 0 5, 0⟩ : Ref) 39)) fun v4 H1 =>
   doW (wStore env.P H1 39 (some v4) (some v3)) fun v5 H2 =>
   gQ x3 true (qLoad env.P (Heap.get H2) 39 (some v4)) fun v6 =>
   gW x3 true H2 (callRes env true (limf env) (limt env 0) H2 (⟨0, 34, Heap.gen H2 0 34, 0⟩ : Ref) (some (.fn (.func 50) [] [])) [v6]) fun v7 H3 =>
   doQ (pickF (some x3) (some v7) (some (.v (.bool false)))) fun v8 =>
   doQ (qBin env.P .add 3 (.tmp 27) (.const (.int .i64 1)) (some x27) (some (.v (.int .i64 1)))) fun v9 =>
   GoL env Try.f17 0 hd_policy_Check_3 [(27, v9), (3, v8), (25, x25), (1, x1), (26, x26)] H3 Q) (
   doQ (qFieldAddr env.P 33 (some x1) 1) fun v2 =>
   doQ (qLoad env.P (Heap.get H) 31 (some v2)) fun v3 =>
   doQ (qBuiltin env.P (Heap.get H) (⟨0, 39, Heap.gen H 0 39, 0⟩ : Ref) .len #[31] [v3]) fun v4 =>
   GoL env Try.f17 0 hd_policy_Check_8 [(40, (.v (.int .i64 0))), (1, x1), (3, x3), (38, v3), (39, v4)] H Q)
theorem vq_policy_Check_3 : VC_policy_Check_3 = fun g x27 x3 x25 x1 x26 H Q => wp env Try.f17 0 lv_policy_Check cu_policy_Check Q 500 (bodyOf hd_policy_Check_3) (ofL g [(27, x27), (3, x3), (25, x25), (1, x1), (26, x26)]) H := by kernel_rfl
theorem vc_policy_Check_3 (x27 x3 x25 x1 x26 : AV) (H : Heap) (Q : AV → Heap → Prop) (h : ∀ g, VC_policy_Check_3 g x27 x3 x25 x1 x26 H Q) : GoL env Try.f17 0 hd_policy_Check_3 [(27, x27), (3, x3), (25, x25), (1, x1), (26, x26)] H Q := goL_body fun g => wp_ok (by have h := h g; rw [vq_policy_Check_3] at h; exact h)
def VC_policy_Check_8 (g : Nat → AV) (x40 x1 x3 x38 x39 : AV) (H : Heap) (Q : AV → Heap → Prop) : Prop :=
  doQ (qBin env.P .lss 3 (.tmp 40) (.tmp 39) (some x40) (some x39)) fun v1 =>
  br (some v1) (
   doQ (qIndexAddr env.P (Heap.get H) 31 (some x38) (some x40)) fun v2 =>
   doQ (qLoad env.P (Heap.get H) 26 (some v2)) fun v3 =>
   doW (nRes H (⟨0, 7, Heap.gen H 0 7, 0⟩ : Ref) (qAlloc env.P (⟨0, 7, Heap.gen H 0 7, 0⟩ : Ref) 26)) fun v4 H1 =>
   doW (wStore env.P H1 26 (some v4) (some v3)) fun v5 H2 =>
   gQ x3 true (qFieldAddr env.P 26 (some v4) 0) fun v6 =>
   gQ x3 true (qLoad env.P (Heap.get H2) 24 (some v6)) fun v7 =>
   gW x3 true H2 (callRes env false (limf env) (limt env 0) H2 (⟨0, 49, Heap.gen H2 0 49, 0⟩ : Ref) (some (.fn (.func 51) [] [])) [v7]) fun v8 H3 =>
   gQ x3 true (qBin env.P .eql 27 (.tmp 49) (.const (.int .i64 0)) (some v8) (some (.v (.int .i64 0)))) fun v9 =>
   gQ x3 true (qFieldAddr env.P 26 (some v4) 1) fun v10 =>
   gQ x3 true (qLoad env.P (Heap.get H3) 3 (some v10)) fun v11 =>
   gW x3 true H3 (callRes env false (limf env) (limt env 0) H3 (⟨0, 53, Heap.gen H3 0 53, 0⟩ : Ref) (some (.fn (.func 49) [] [])) [v11, (.v (.int .i64 64))]) fun v12 H4 =>
   gQ x3 true (qFieldAddr env.P 26 (some v4) 2) fun v13 =>
   gQ x3 true (qLoad env.P (Heap.get H4) 3 (some v13)) fun v14 =>
   gW x3 true H4 (callRes env false (limf env) (limt env 0) H4 (⟨0, 56, Heap.gen H4 0 56, 0⟩ : Ref) (some (.fn (.func 49) [] [])) [v14, (.v (.int .i64 256))]) fun v15 H5 =>
   gQ x3 true (qFieldAddr env.P 26 (some v4) 3) fun v16 =>
   gQ x3 true (qLoad env.P (Heap.get H5) 3 (some v16)) fun v17 =>
   gW x3 true H5 (callRes env false (limf env) (limt env 0) H5 (⟨0, 59, Heap.gen H5 0 59, 0⟩ : Ref) (some (.fn (.func 49) [] [])) [v17, (.v (.int .i64 4096))]) fun v18 H6 =>
   gQ x3 true (qVal (some x40)) fun v19 =>
   gQ x3 true (qBin env.P .eql 3 (.tmp 60) (.const (.int .i64 0)) (some v19) (some (.v (.int .i64 0)))) fun v20 =>
   gQ x3 true (qVal (some v20)) fun v21 =>
   gQ v21 false (qFieldAddr env.P 33 (some x1) 1) fun v22 =>
   gQ v21 false (qLoad env.P (Heap.get H6) 31 (some v22)) fun v23 =>
   gQ v21 false (qVal (some x40)) fun v24 =>
   gQ v21 false (qBin env.P .sub 3 (.tmp 65) (.const (.int .i64 1)) (some v24) (some (.v (.int .i64 1)))) fun v25 =>
   gQ v21 false (qBuiltin env.P (Heap.get H6) (⟨0, 67, Heap.gen H6 0 67, 0⟩ : Ref) .max #[3, 3] [v25, (.v (.int .i64 0))]) fun v26 =>
   gQ v21 false (qIndexAddr env.P (Heap.get H6) 31 (some v23) (some v26)) fun v27 =>
   gQ v21 false (qFieldAddr env.P 26 (some v27) 0) fun v28 =>
   gQ v21 false (qLoad env.P (Heap.get H6) 24 (some v28)) fun v29 =>
   gQ v21 false (qFieldAddr env.P 26 (some v4) 0) fun v30 =>
   gQ v21 false (qLoad env.P (Heap.get H6) 24 (some v30)) fun v31 =>
   gW v21 false H6 (callRes env false (limf env) (limt env 0) H6 (⟨0, 73, Heap.gen H6 0 73, 0⟩ : Ref) (some (.fn (.func 21) [] [])) [v29, v31]) fun v32 H7 =>
   gQ x3 true (pickF (some v21) (some (.v (.bool true))) (some v32)) fun v33 =>
   gW x3 true H7 (bsRes env.P true false H7 (⟨0, 75, Heap.gen H7 0 75, 0⟩ : Ref) 114 5 (some [(0, v9), (1, v12), (2, v15), (3, v18), (4, v33)])) fun v34 H8 =>
   gW x3 true H8 (callRes env false (limf env) (limt env 0) H8 (⟨0, 76, Heap.gen H8 0 76, 0⟩ : Ref) (some (.fn (.func 48) [] [])) [v34]) fun v35 H9 =>
   doQ (pickF (some x3) (some v35) (some (.v (.bool false)))) fun v36 =>
   doQ (qBin env.P .add 3 (.tmp 40) (.const (.int .i64 1)) (some x40) (some (.v (.int .i64 1)))) fun v37 =>
   GoL env Try.f17 0 hd_policy_Check_8 [(40, v37), (1, x1), (3, v36), (38, x38), (39, x39)] H9 Q) (
   doQ (qFieldAddr env.P 33 (some x1) 1) fun v2 =>
   doQ (qLoad env.P (Heap.get H) 31 (some v2)) fun v3 =>
   doQ (qFieldAddr env.P 33 (some x1) 1) fun v4 =>
   doQ (qLoad env.P (Heap.get H) 31 (some v4)) fun v5 =>
   doQ (qBuiltin env.P (Heap.get H) (⟨0, 83, Heap.gen H 0 83, 0⟩ : Ref) .len #[31] [v5]) fun v6 =>
   doQ (qBuiltin env.P (Heap.get H) (⟨0, 84, Heap.gen H 0 84, 0⟩ : Ref) .min #[3, 3] [v6, (.v (.int .i64 8))]) fun v7 =>
   doQ (qSlice env.P (Heap.get H) 31 (some v3) (some none) (oi v7) (some none)) fun v8 =>
   doQ (qBuiltin env.P (Heap.get H) (⟨0, 86, Heap.gen H 0 86, 0⟩ : Ref) .len #[31] [v8]) fun v9 =>
   GoL env Try.f17 0 hd_policy_Check_14 [(87, (.v (.int .i64 0))), (8, (.v (.int .i64 0))), (85, v8), (1, x1), (3, x3), (86, v9)] H Q)
theorem vq_policy_Check_8 : VC_policy_Check_8 = fun g x40 x1 x3 x38 x39 H Q => wp env Try.f17 0 lv_policy_Check cu_policy_Check Q 500 (bodyOf hd_policy_Check_8) (ofL g [(40, x40), (1, x1), (3, x3), (38, x38), (39, x39)]) H := by kernel_rfl
theorem vc_policy_Check_8 (x40 x1 x3 x38 x39 : AV) (H : Heap) (Q : AV → Heap → Prop) (h : ∀ g, VC_policy_Check_8 g x40 x1 x3 x38 x39 H Q) : GoL env Try.f17 0 hd_policy_Check_8 [(40, x40), (1, x1), (3, x3), (38, x38), (39, x39)] H Q := goL_body fun g => wp_ok (by have h := h g; rw [vq_policy_Check_8] at h; exact h)
def VC_policy_Check_14 (g : Nat → AV) (x87 x8 x85 x1 x3 x86 : AV) (H : Heap) (Q : AV → Heap → Prop) : Prop :=
  doQ (qBin env.P .lss 3 (.tmp 87) (.tmp 86) (some x87) (some x86)) fun v1 =>
  br (some v1) (
   doQ (qIndexAddr env.P (Heap.get H) 31 (some x85) (some x87)) fun v2 =>
   doQ (qLoad env.P (Heap.get H) 26 (some v2)) fun v3 =>
   doW (nRes H (⟨0, 10, Heap.gen H 0 10, 0⟩ : Ref) (qAlloc env.P (⟨0, 10, Heap.gen H 0 10, 0⟩ : Ref) 26)) fun v4 H1 =>
   doW (wStore env.P H1 26 (some v4) (some v3)) fun v5 H2 =>
   doQ (qFieldAddr env.P 26 (some v4) 3) fun v6 =>
   doQ (qLoad env.P (Heap.get H2) 3 (some v6)) fun v7 =>
   doQ (qBuiltin env.P (Heap.get H2) (⟨0, 94, Heap.gen H2 0 94, 0⟩ : Ref) .max #[3, 3] [v7, (.v (.int .i64 0))]) fun v8 =>
   doQ (qBuiltin env.P (Heap.get H2) (⟨0, 95, Heap.gen H2 0 95, 0⟩ : Ref) .min #[3, 3] [v8, (.v (.int .i64 4096))]) fun v9 =>
   doQ (qBin env.P .add 3 (.tmp 91) (.tmp 95) (some x8) (some v9)) fun v10 =>
   doQ (qBin env.P .add 3 (.tmp 87) (.const (.int .i64 1)) (some x87) (some (.v (.int .i64 1)))) fun v11 =>
   GoL env Try.f17 0 hd_policy_Check_14 [(87, v11), (8, v10), (85, x85), (1, x1), (3, x3), (86, x86)] H2 Q) (
   doQ (qUn env.P .not (some x3)) fun v2 =>
   gQ v2 false (qLoad env.P (Heap.get H) 33 (some x1)) fun v3 =>
   gW v2 false H (callRes env true (limf env) (limt env 0) H (⟨0, 102, Heap.gen H 0 102, 0⟩ : Ref) (some (.fn (.func 52) [] [])) [v3]) fun v4 H1 =>
   gQ v2 false (qBin env.P .gtr 3 (.tmp 102) (.const (.int .i64 2048)) (some v4) (some (.v (.int .i64 2048)))) fun v5 =>
   doQ (pickF (some v2) (some (.v (.bool true))) (some v5)) fun v6 =>
   gQ v6 false (qVal (some x8)) fun v7 =>
   gQ v6 false (qBin env.P .gtr 3 (.tmp 106) (.const (.int .i64 8192)) (some v7) (some (.v (.int .i64 8192)))) fun v8 =>
   doQ (pickF (some v6) (some (.v (.bool true))) (some v8)) fun v9 =>
   br (some v9) (
    Q (.v (.int .i64 8)) H1) (
    Q (.v (.int .i64 0)) H1))
theorem vq_policy_Check_14 : VC_policy_Check_14 = fun g x87 x8 x85 x1 x3 x86 H Q => wp env Try.f17 0 lv_policy_Check cu_policy_Check Q 500 (bodyOf hd_policy_Check_14) (ofL g [(87, x87), (8, x8), (85, x85), (1, x1), (3, x3), (86, x86)]) H := by kernel_rfl
theorem vc_policy_Check_14 (x87 x8 x85 x1 x3 x86 : AV) (H : Heap) (Q : AV → Heap → Prop) (h : ∀ g, VC_policy_Check_14 g x87 x8 x85 x1 x3 x86 H Q) : GoL env Try.f17 0 hd_policy_Check_14 [(87, x87), (8, x8), (85, x85), (1, x1), (3, x3), (86, x86)] H Q := goL_body fun g => wp_ok (by have h := h g; rw [vq_policy_Check_14] at h; exact h)

/- policy_asked -/
noncomputable def bd_policy_asked : Code := (Try.f44.body).getD .skip
def lv_policy_asked : Nat → Option (List Nat) := fun i => none
def cu_policy_asked : Nat → Bool := fun i => false
def VC_policy_asked (g : Nat → AV) (x0 x1 : AV) (H : Heap) (Q : AV → Heap → Prop) : Prop :=
  doW (nRes H (⟨0, 2, Heap.gen H 0 2, 0⟩ : Ref) (qBox env.P (⟨0, 2, Heap.gen H 0 2, 0⟩ : Ref) 33 (some x0))) fun v1 H1 =>
  doW (nRes H1 (⟨0, 3, Heap.gen H1 0 3, 0⟩ : Ref) (qBox env.P (⟨0, 3, Heap.gen H1 0 3, 0⟩ : Ref) 24 (some x1))) fun v2 H2 =>
  doQ (qLoad env.P (Heap.get H2) 33 (some v1)) fun v3 =>
  doW (callRes env false (limf env) (limt env 0) H2 (⟨0, 6, Heap.gen H2 0 6, 0⟩ : Ref) (some (.fn (.func 17) [] [])) [v3]) fun v4 H3 =>
  doQ (qLoad env.P (Heap.get H3) 24 (some v2)) fun v5 =>
  doW (callRes env false (limf env) (limt env 0) H3 (⟨0, 8, Heap.gen H3 0 8, 0⟩ : Ref) (some (.fn (.func 51) [] [])) [v5]) fun v6 H4 =>
  doQ (qBuiltin env.P (Heap.get H4) (⟨0, 9, Heap.gen H4 0 9, 0⟩ : Ref) .max #[27, 27] [v4, v6]) fun v7 =>
  Q v7 H4
theorem vq_policy_asked : VC_policy_asked = fun g x0 x1 H Q => wp env Try.f44 0 lv_policy_asked cu_policy_asked Q 500 [.code bd_policy_asked] (ofL g [(0, x0), (1, x1)]) H := by kernel_rfl
theorem vc_policy_asked (x0 x1 : AV) (H : Heap) (Q : AV → Heap → Prop) (h : ∀ g, VC_policy_asked g x0 x1 H Q) : GoL env Try.f44 0 [.code bd_policy_asked] [(0, x0), (1, x1)] H Q := ⟨fun g => wp_ok (by have h := h g; rw [vq_policy_asked] at h; exact h)⟩

/- policy_May -/
noncomputable def bd_policy_May : Code := (Try.f15.body).getD .skip
def lv_policy_May : Nat → Option (List Nat) := fun i => none
def cu_policy_May : Nat → Bool := fun i => false
def VC_policy_May (g : Nat → AV) (x0 x1 x2 : AV) (H : Heap) (Q : AV → Heap → Prop) : Prop :=
  doW (nRes H (⟨0, 3, Heap.gen H 0 3, 0⟩ : Ref) (qBox env.P (⟨0, 3, Heap.gen H 0 3, 0⟩ : Ref) 33 (some x0))) fun v1 H1 =>
  doW (nRes H1 (⟨0, 5, Heap.gen H1 0 5, 0⟩ : Ref) (qBox env.P (⟨0, 5, Heap.gen H1 0 5, 0⟩ : Ref) 24 (some x2))) fun v2 H2 =>
  doQ (qLoad env.P (Heap.get H2) 33 (some v1)) fun v3 =>
  doQ (qLoad env.P (Heap.get H2) 24 (some v2)) fun v4 =>
  doW (callRes env true (limf env) (limt env 0) H2 (⟨0, 12, Heap.gen H2 0 12, 0⟩ : Ref) (some (.fn (.func 44) [] [])) [v3, v4]) fun v5 H3 =>
  doQ (qBin env.P .neq 27 (.tmp 13) (.const (.int .i64 0)) (some v5) (some (.v (.int .i64 0)))) fun v6 =>
  br (some v6) (
   Q (.tup [(.v (.bool false)), v5]) H3) (
   doQ (qBin env.P .lss 3 (.tmp 16) (.const (.int .i64 0)) (some x1) (some (.v (.int .i64 0)))) fun v7 =>
   gQ v7 false (qVal (some x1)) fun v8 =>
   gQ v7 false (qFieldAddr env.P 33 (some v1) 0) fun v9 =>
   gQ v7 false (qLoad env.P (Heap.get H3) 30 (some v9)) fun v10 =>
   gQ v7 false (qBuiltin env.P (Heap.get H3) (⟨0, 22, Heap.gen H3 0 22, 0⟩ : Ref) .len #[30] [v10]) fun v11 =>
   gQ v7 false (qBin env.P .geq 3 (.tmp 19) (.tmp 22) (some v8) (some v11)) fun v12 =>
   doQ (pickF (some v7) (some (.v (.bool true))) (some v12)) fun v13 =>
   br (some v13) (
    Q (.tup [(.v (.bool false)), (.v (.int .i64 0))]) H3) (
    doQ (qFieldAddr env.P 33 (some v1) 0) fun v14 =>
    doQ (qLoad env.P (Heap.get H3) 30 (some v14)) fun v15 =>
    doQ (qIndexAddr env.P (Heap.get H3) 30 (some v15) (some x1)) fun v16 =>
    doQ (qLoad env.P (Heap.get H3) 39 (some v16)) fun v17 =>
    doW (nRes H3 (⟨0, 9, Heap.gen H3 0 9, 0⟩ : Ref) (qAlloc env.P (⟨0, 9, Heap.gen H3 0 9, 0⟩ : Ref) 39)) fun v18 H4 =>
    doW (wStore env.P H4 39 (some v18) (some v17)) fun v19 H5 =>
    doQ (qFieldAddr env.P 39 (some v18) 1) fun v20 =>
    doQ (qLoad env.P (Heap.get H5) 4 (some v20)) fun v21 =>
    gQ v21 true (qLoad env.P (Heap.get H5) 24 (some v2)) fun v22 =>
    gQ v21 true (qFieldAddr env.P 39 (some v18) 0) fun v23 =>
    gQ v21 true (qLoad env.P (Heap.get H5) 24 (some v23)) fun v24 =>
    gW v21 true H5 (callRes env true (limf env) (limt env 0) H5 (⟨0, 36, Heap.gen H5 0 36, 0⟩ : Ref) (some (.fn (.func 19) [] [])) [v22, v24]) fun v25 H6 =>
    doQ (pickF (some v21) (some v25) (some (.v (.bool false)))) fun v26 =>
    Q (.tup [v26, (.v (.int .i64 0))]) H6))
theorem vq_policy_May : VC_policy_May = fun g x0 x1 x2 H Q => wp env Try.f15 0 lv_policy_May cu_policy_May Q 500 [.code bd_policy_May] (ofL g [(0, x0), (1, x1), (2, x2)]) H := by kernel_rfl
theorem vc_policy_May (x0 x1 x2 : AV) (H : Heap) (Q : AV → Heap → Prop) (h : ∀ g, VC_policy_May g x0 x1 x2 H Q) : GoL env Try.f15 0 [.code bd_policy_May] [(0, x0), (1, x1), (2, x2)] H Q := ⟨fun g => wp_ok (by have h := h g; rw [vq_policy_May] at h; exact h)⟩

/- policy_Blocks -/
noncomputable def bd_policy_Blocks : Code := (Try.f22.body).getD .skip
def lv_policy_Blocks : Nat → Option (List Nat) := fun i => none
def cu_policy_Blocks : Nat → Bool := fun i => false
def VC_policy_Blocks (g : Nat → AV) (x0 : AV) (H : Heap) (Q : AV → Heap → Prop) : Prop :=
  doW (nRes H (⟨0, 1, Heap.gen H 0 1, 0⟩ : Ref) (qBox env.P (⟨0, 1, Heap.gen H 0 1, 0⟩ : Ref) 33 (some x0))) fun v1 H1 =>
  doQ (qLoad env.P (Heap.get H1) 33 (some v1)) fun v2 =>
  doW (callRes env true (limf env) (limt env 0) H1 (⟨0, 6, Heap.gen H1 0 6, 0⟩ : Ref) (some (.fn (.func 17) [] [])) [v2]) fun v3 H2 =>
  doQ (qBin env.P .neq 27 (.tmp 7) (.const (.int .i64 0)) (some v3) (some (.v (.int .i64 0)))) fun v4 =>
  br (some v4) (
   Q (.tup [(.v (.int .i64 0)), v3]) H2) (
   doQ (qLoad env.P (Heap.get H2) 33 (some v1)) fun v5 =>
   doW (callRes env true (limf env) (limt env 0) H2 (⟨0, 11, Heap.gen H2 0 11, 0⟩ : Ref) (some (.fn (.func 52) [] [])) [v5]) fun v6 H3 =>
   Q (.tup [v6, (.v (.int .i64 0))]) H3)
theorem vq_policy_Blocks : VC_policy_Blocks = fun g x0 H Q => wp env Try.f22 0 lv_policy_Blocks cu_policy_Blocks Q 500 [.code bd_policy_Blocks] (ofL g [(0, x0)]) H := by kernel_rfl
theorem vc_policy_Blocks (x0 : AV) (H : Heap) (Q : AV → Heap → Prop) (h : ∀ g, VC_policy_Blocks g x0 H Q) : GoL env Try.f22 0 [.code bd_policy_Blocks] [(0, x0)] H Q := ⟨fun g => wp_ok (by have h := h g; rw [vq_policy_Blocks] at h; exact h)⟩

/- policy_Quota -/
noncomputable def bd_policy_Quota : Code := (Try.f12.body).getD .skip
def lv_policy_Quota : Nat → Option (List Nat) := fun i => none
def cu_policy_Quota : Nat → Bool := fun i => false
def VC_policy_Quota (g : Nat → AV) (x0 x1 : AV) (H : Heap) (Q : AV → Heap → Prop) : Prop :=
  doW (nRes H (⟨0, 2, Heap.gen H 0 2, 0⟩ : Ref) (qBox env.P (⟨0, 2, Heap.gen H 0 2, 0⟩ : Ref) 33 (some x0))) fun v1 H1 =>
  doW (nRes H1 (⟨0, 3, Heap.gen H1 0 3, 0⟩ : Ref) (qBox env.P (⟨0, 3, Heap.gen H1 0 3, 0⟩ : Ref) 24 (some x1))) fun v2 H2 =>
  doW (nRes H2 (⟨0, 4, Heap.gen H2 0 4, 0⟩ : Ref) (qAlloc env.P (⟨0, 4, Heap.gen H2 0 4, 0⟩ : Ref) 26)) fun v3 H3 =>
  doQ (qLoad env.P (Heap.get H3) 33 (some v1)) fun v4 =>
  doQ (qLoad env.P (Heap.get H3) 24 (some v2)) fun v5 =>
  doW (callRes env true (limf env) (limt env 0) H3 (⟨0, 11, Heap.gen H3 0 11, 0⟩ : Ref) (some (.fn (.func 44) [] [])) [v4, v5]) fun v6 H4 =>
  doQ (qBin env.P .neq 27 (.tmp 12) (.const (.int .i64 0)) (some v6) (some (.v (.int .i64 0)))) fun v7 =>
  br (some v7) (
   doQ (qBuild env.P 26 (some [])) fun v8 =>
   doW (wStore env.P H4 26 (some v3) (some v8)) fun v9 H5 =>
   doQ (readCell env.P H5 v3 26) fun v10 =>
   Q (.tup [v10, v6]) H5) (
   doQ (qFieldAddr env.P 33 (some v1) 1) fun v8 =>
   doQ (qLoad env.P (Heap.get H4) 31 (some v8)) fun v9 =>
   doQ (qLoad env.P (Heap.get H4) 24 (some v2)) fun v10 =>
   doW (callRes env true (limf env) (limt env 0) H4 (⟨0, 20, Heap.gen H4 0 20, 0⟩ : Ref) (some (.fn (.func 45) [] [])) [v9, v10, (.fn (.func 46) [] [])]) fun v11 H5 =>
   doQ (qExtract (some v11) 0) fun v12 =>
   doQ (qExtract (some v11) 1) fun v13 =>
   doW (nRes H5 (⟨0, 7, Heap.gen H5 0 7, 0⟩ : Ref) (qAlloc env.P (⟨0, 7, Heap.gen H5 0 7, 0⟩ : Ref) 26)) fun v14 H6 =>
   doW (wStore env.P H6 26 (some v14) (some v12)) fun v15 H7 =>
   doQ (qUn env.P .not (some v13)) fun v16 =>
   br (some v16) (
    doQ (qLoad env.P (Heap.get H7) 24 (some v2)) fun v17 =>
    doQ (qFieldAddr env.P 26 (some v14) 0) fun v18 =>
    doW (wStore env.P H7 24 (some v18) (some v17)) fun v19 H8 =>
    doQ (qLoad env.P (Heap.get H8) 26 (some v14)) fun v20 =>
    doW (wStore env.P H8 26 (some v3) (some v20)) fun v21 H9 =>
    doQ (readCell env.P H9 v3 26) fun v22 =>
    Q (.tup [v22, (.v (.int .i64 0))]) H9) (
    doQ (qLoad env.P (Heap.get H7) 26 (some v14)) fun v17 =>
    doW (wStore env.P H7 26 (some v3) (some v17)) fun v18 H8 =>
    doQ (readCell env.P H8 v3 26) fun v19 =>
    Q (.tup [v19, (.v (.int .i64 0))]) H8))
theorem vq_policy_Quota : VC_policy_Quota = fun g x0 x1 H Q => wp env Try.f12 0 lv_policy_Quota cu_policy_Quota Q 500 [.code bd_policy_Quota] (ofL g [(0, x0), (1, x1)]) H := by kernel_rfl
theorem vc_policy_Quota (x0 x1 : AV) (H : Heap) (Q : AV → Heap → Prop) (h : ∀ g, VC_policy_Quota g x0 x1 H Q) : GoL env Try.f12 0 [.code bd_policy_Quota] [(0, x0), (1, x1)] H Q := ⟨fun g => wp_ok (by have h := h g; rw [vq_policy_Quota] at h; exact h)⟩

/- policy_QuotaF1 -/
noncomputable def bd_policy_QuotaF1 : Code := (Try.f46.body).getD .skip
def lv_policy_QuotaF1 : Nat → Option (List Nat) := fun i => none
def cu_policy_QuotaF1 : Nat → Bool := fun i => false
def VC_policy_QuotaF1 (g : Nat → AV) (x0 : AV) (H : Heap) (Q : AV → Heap → Prop) : Prop :=
  doW (nRes H (⟨0, 1, Heap.gen H 0 1, 0⟩ : Ref) (qBox env.P (⟨0, 1, Heap.gen H 0 1, 0⟩ : Ref) 26 (some x0))) fun v1 H1 =>
  doW (nRes H1 (⟨0, 2, Heap.gen H1 0 2, 0⟩ : Ref) (qAlloc env.P (⟨0, 2, Heap.gen H1 0 2, 0⟩ : Ref) 24)) fun v2 H2 =>
  doQ (qFieldAddr env.P 26 (some v1) 0) fun v3 =>
  doQ (qLoad env.P (Heap.get H2) 24 (some v3)) fun v4 =>
  doW (wStore env.P H2 24 (some v2) (some v4)) fun v5 H3 =>
  doQ (readCell env.P H3 v2 24) fun v6 =>
  Q v6 H3
theorem vq_policy_QuotaF1 : VC_policy_QuotaF1 = fun g x0 H Q => wp env Try.f46 0 lv_policy_QuotaF1 cu_policy_QuotaF1 Q 500 [.code bd_policy_QuotaF1] (ofL g [(0, x0)]) H := by kernel_rfl
theorem vc_policy_QuotaF1 (x0 : AV) (H : Heap) (Q : AV → Heap → Prop) (h : ∀ g, VC_policy_QuotaF1 g x0 H Q) : GoL env Try.f46 0 [.code bd_policy_QuotaF1] [(0, x0)] H Q := ⟨fun g => wp_ok (by have h := h g; rw [vq_policy_QuotaF1] at h; exact h)⟩

/- policy_find_blindstamp_api_Quota_blindstamp_api_Label_ -/
noncomputable def bd_policy_find_blindstamp_api_Quota_blindstamp_api_Label_ : Code := (Try.f45.body).getD .skip
def lv_policy_find_blindstamp_api_Quota_blindstamp_api_Label_ : Nat → Option (List Nat) := fun i => none
def cu_policy_find_blindstamp_api_Quota_blindstamp_api_Label_ : Nat → Bool := fun i => false
def VC_policy_find_blindstamp_api_Quota_blindstamp_api_Label_ (g : Nat → AV) (x0 x1 x2 : AV) (H : Heap) (Q : AV → Heap → Prop) : Prop :=
  doW (nRes H (⟨0, 4, Heap.gen H 0 4, 0⟩ : Ref) (qBox env.P (⟨0, 4, Heap.gen H 0 4, 0⟩ : Ref) 24 (some x1))) fun v1 H1 =>
  doW (nRes H1 (⟨0, 5, Heap.gen H1 0 5, 0⟩ : Ref) (qBox env.P (⟨0, 5, Heap.gen H1 0 5, 0⟩ : Ref) 89 (some x2))) fun v2 H2 =>
  doW (nRes H2 (⟨0, 6, Heap.gen H2 0 6, 0⟩ : Ref) (qAlloc env.P (⟨0, 6, Heap.gen H2 0 6, 0⟩ : Ref) 26)) fun v3 H3 =>
  doQ (qFunc (.func 70) (some []) (some [v2, v1])) fun v4 =>
  doW (callRes env true (limf env) (limt env 0) H3 (⟨0, 11, Heap.gen H3 0 11, 0⟩ : Ref) (some (.fn (.func 69) [] [])) [x0, v4]) fun v5 H4 =>
  doQ (qBin env.P .lss 3 (.tmp 12) (.const (.int .i64 0)) (some v5) (some (.v (.int .i64 0)))) fun v6 =>
  br (some v6) (
   doQ (qLoad env.P (Heap.get H4) 26 (some v3)) fun v7 =>
   doW (wStore env.P H4 26 (some v3) (some v7)) fun v8 H5 =>
   doQ (readCell env.P H5 v3 26) fun v9 =>
   Q (.tup [v9, (.v (.bool false))]) H5) (
   doQ (qIndexAddr env.P (Heap.get H4) 31 (some x0) (some v5)) fun v7 =>
   doQ (qLoad env.P (Heap.get H4) 26 (some v7)) fun v8 =>
   doW (wStore env.P H4 26 (some v3) (some v8)) fun v9 H5 =>
   doQ (readCell env.P H5 v3 26) fun v10 =>
   Q (.tup [v10, (.v (.bool true))]) H5)
theorem vq_policy_find_blindstamp_api_Quota_blindstamp_api_Label_ : VC_policy_find_blindstamp_api_Quota_blindstamp_api_Label_ = fun g x0 x1 x2 H Q => wp env Try.f45 0 lv_policy_find_blindstamp_api_Quota_blindstamp_api_Label_ cu_policy_find_blindstamp_api_Quota_blindstamp_api_Label_ Q 500 [.code bd_policy_find_blindstamp_api_Quota_blindstamp_api_Label_] (ofL g [(0, x0), (1, x1), (2, x2)]) H := by kernel_rfl
theorem vc_policy_find_blindstamp_api_Quota_blindstamp_api_Label_ (x0 x1 x2 : AV) (H : Heap) (Q : AV → Heap → Prop) (h : ∀ g, VC_policy_find_blindstamp_api_Quota_blindstamp_api_Label_ g x0 x1 x2 H Q) : GoL env Try.f45 0 [.code bd_policy_find_blindstamp_api_Quota_blindstamp_api_Label_] [(0, x0), (1, x1), (2, x2)] H Q := ⟨fun g => wp_ok (by have h := h g; rw [vq_policy_find_blindstamp_api_Quota_blindstamp_api_Label_] at h; exact h)⟩

/- policy_find_blindstamp_api_Quota_blindstamp_api_Label_F1 -/
noncomputable def bd_policy_find_blindstamp_api_Quota_blindstamp_api_Label_F1 : Code := (Try.f70.body).getD .skip
def lv_policy_find_blindstamp_api_Quota_blindstamp_api_Label_F1 : Nat → Option (List Nat) := fun i => none
def cu_policy_find_blindstamp_api_Quota_blindstamp_api_Label_F1 : Nat → Bool := fun i => false
def VC_policy_find_blindstamp_api_Quota_blindstamp_api_Label_F1 (g : Nat → AV) (x0 x1 x2 : AV) (H : Heap) (Q : AV → Heap → Prop) : Prop :=
  doW (nRes H (⟨0, 3, Heap.gen H 0 3, 0⟩ : Ref) (qBox env.P (⟨0, 3, Heap.gen H 0 3, 0⟩ : Ref) 26 (some x0))) fun v1 H1 =>
  doQ (qLoad env.P (Heap.get H1) 89 (some x1)) fun v2 =>
  doQ (qLoad env.P (Heap.get H1) 26 (some v1)) fun v3 =>
  doW (callRes env false (limf env) (limt env 0) H1 (⟨0, 7, Heap.gen H1 0 7, 0⟩ : Ref) (some v2) [v3]) fun v4 H2 =>
  doQ (qLoad env.P (Heap.get H2) 24 (some x2)) fun v5 =>
  doQ (qBin env.P .eql 24 (.tmp 7) (.tmp 8) (some v4) (some v5)) fun v6 =>
  Q v6 H2
theorem vq_policy_find_blindstamp_api_Quota_blindstamp_api_Label_F1 : VC_policy_find_blindstamp_api_Quota_blindstamp_api_Label_F1 = fun g x0 x1 x2 H Q => wp env Try.f70 0 lv_policy_find_blindstamp_api_Quota_blindstamp_api_Label_F1 cu_policy_find_blindstamp_api_Quota_blindstamp_api_Label_F1 Q 500 [.code bd_policy_find_blindstamp_api_Quota_blindstamp_api_Label_F1] (ofL g [(0, x0), (1, x1), (2, x2)]) H := by kernel_rfl
theorem vc_policy_find_blindstamp_api_Quota_blindstamp_api_Label_F1 (x0 x1 x2 : AV) (H : Heap) (Q : AV → Heap → Prop) (h : ∀ g, VC_policy_find_blindstamp_api_Quota_blindstamp_api_Label_F1 g x0 x1 x2 H Q) : GoL env Try.f70 0 [.code bd_policy_find_blindstamp_api_Quota_blindstamp_api_Label_F1] [(0, x0), (1, x1), (2, x2)] H Q := ⟨fun g => wp_ok (by have h := h g; rw [vq_policy_find_blindstamp_api_Quota_blindstamp_api_Label_F1] at h; exact h)⟩

/- slices_IndexFunc___blindstamp_api_Quota_blindstamp_api_Quota_ -/
noncomputable def bd_slices_IndexFunc___blindstamp_api_Quota_blindstamp_api_Quota_ : Code := (Try.f69.body).getD .skip
noncomputable def hd_slices_IndexFunc___blindstamp_api_Quota_blindstamp_api_Quota__2 : List Item := (findLoop 2 400 [.code bd_slices_IndexFunc___blindstamp_api_Quota_blindstamp_api_Quota_]).getD []
def lv_slices_IndexFunc___blindstamp_api_Quota_blindstamp_api_Quota_ : Nat → Option (List Nat) := fun i => cond (Nat.beq i 2) (some [8, 0, 1, 7]) (none)
def cu_slices_IndexFunc___blindstamp_api_Quota_blindstamp_api_Quota_ : Nat → Bool := fun i => false
def VC_slices_IndexFunc___blindstamp_api_Quota_blindstamp_api_Quota_ (g : Nat → AV) (x0 x1 : AV) (H : Heap) (Q : AV → Heap → Prop) : Prop :=
  doQ (qBuiltin env.P (Heap.get H) (⟨0, 7, Heap.gen H 0 7, 0⟩ : Ref) .len #[31] [x0]) fun v1 =>
  GoL env Try.f69 0 hd_slices_IndexFunc___blindstamp_api_Quota_blindstamp_api_Quota__2 [(8, (.v (.int .i64 0))), (0, x0), (1, x1), (7, v1)] H Q
theorem vq_slices_IndexFunc___blindstamp_api_Quota_blindstamp_api_Quota_ : VC_slices_IndexFunc___blindstamp_api_Quota_blindstamp_api_Quota_ = fun g x0 x1 H Q => wp env Try.f69 0 lv_slices_IndexFunc___blindstamp_api_Quota_blindstamp_api_Quota_ cu_slices_IndexFunc___blindstamp_api_Quota_blindstamp_api_Quota_ Q 500 [.code bd_slices_IndexFunc___blindstamp_api_Quota_blindstamp_api_Quota_] (ofL g [(0, x0), (1, x1)]) H := by kernel_rfl
theorem vc_slices_IndexFunc___blindstamp_api_Quota_blindstamp_api_Quota_ (x0 x1 : AV) (H : Heap) (Q : AV → Heap → Prop) (h : ∀ g, VC_slices_IndexFunc___blindstamp_api_Quota_blindstamp_api_Quota_ g x0 x1 H Q) : GoL env Try.f69 0 [.code bd_slices_IndexFunc___blindstamp_api_Quota_blindstamp_api_Quota_] [(0, x0), (1, x1)] H Q := ⟨fun g => wp_ok (by have h := h g; rw [vq_slices_IndexFunc___blindstamp_api_Quota_blindstamp_api_Quota_] at h; exact h)⟩
def VC_slices_IndexFunc___blindstamp_api_Quota_blindstamp_api_Quota__2 (g : Nat → AV) (x8 x0 x1 x7 : AV) (H : Heap) (Q : AV → Heap → Prop) : Prop :=
  doQ (qBin env.P .lss 3 (.tmp 8) (.tmp 7) (some x8) (some x7)) fun v1 =>
  br (some v1) (
   doQ (qIndexAddr env.P (Heap.get H) 31 (some x0) (some x8)) fun v2 =>
   doQ (qLoad env.P (Heap.get H) 26 (some v2)) fun v3 =>
   doW (callRes env true (limf env) (limt env 0) H (⟨0, 16, Heap.gen H 0 16, 0⟩ : Ref) (some x1) [v3]) fun v4 H1 =>
   br (some v4) (
    Q x8 H1) (
    doQ (qBin env.P .add 3 (.tmp 8) (.const (.int .i64 1)) (some x8) (some (.v (.int .i64 1)))) fun v5 =>
    GoL env Try.f69 0 hd_slices_IndexFunc___blindstamp_api_Quota_blindstamp_api_Quota__2 [(8, v5), (0, x0), (1, x1), (7, x7)] H1 Q)) (
   Q (.v (.int .i64 (-1))) H)
theorem vq_slices_IndexFunc___blindstamp_api_Quota_blindstamp_api_Quota__2 : VC_slices_IndexFunc___blindstamp_api_Quota_blindstamp_api_Quota__2 = fun g x8 x0 x1 x7 H Q => wp env Try.f69 0 lv_slices_IndexFunc___blindstamp_api_Quota_blindstamp_api_Quota_ cu_slices_IndexFunc___blindstamp_api_Quota_blindstamp_api_Quota_ Q 500 (bodyOf hd_slices_IndexFunc___blindstamp_api_Quota_blindstamp_api_Quota__2) (ofL g [(8, x8), (0, x0), (1, x1), (7, x7)]) H := by kernel_rfl
theorem vc_slices_IndexFunc___blindstamp_api_Quota_blindstamp_api_Quota__2 (x8 x0 x1 x7 : AV) (H : Heap) (Q : AV → Heap → Prop) (h : ∀ g, VC_slices_IndexFunc___blindstamp_api_Quota_blindstamp_api_Quota__2 g x8 x0 x1 x7 H Q) : GoL env Try.f69 0 hd_slices_IndexFunc___blindstamp_api_Quota_blindstamp_api_Quota__2 [(8, x8), (0, x0), (1, x1), (7, x7)] H Q := goL_body fun g => wp_ok (by have h := h g; rw [vq_slices_IndexFunc___blindstamp_api_Quota_blindstamp_api_Quota__2] at h; exact h)

/- blindstampref06_Great -/
noncomputable def bd_blindstampref06_Great : Code := (Try.f18.body).getD .skip
def lv_blindstampref06_Great : Nat → Option (List Nat) := fun i => none
def cu_blindstampref06_Great : Nat → Bool := fun i => false
def VC_blindstampref06_Great (g : Nat → AV) (x0 : AV) (H : Heap) (Q : AV → Heap → Prop) : Prop :=
  doW (nRes H (⟨0, 1, Heap.gen H 0 1, 0⟩ : Ref) (qBox env.P (⟨0, 1, Heap.gen H 0 1, 0⟩ : Ref) 33 (some x0))) fun v1 H1 =>
  doQ (qFieldAddr env.P 33 (some v1) 0) fun v2 =>
  doQ (qLoad env.P (Heap.get H1) 30 (some v2)) fun v3 =>
  doQ (qBuiltin env.P (Heap.get H1) (⟨0, 5, Heap.gen H1 0 5, 0⟩ : Ref) .len #[30] [v3]) fun v4 =>
  doQ (qBin env.P .gtr 3 (.tmp 5) (.const (.int .i64 100)) (some v4) (some (.v (.int .i64 100)))) fun v5 =>
  gQ v5 false (qFieldAddr env.P 33 (some v1) 1) fun v6 =>
  gQ v5 false (qLoad env.P (Heap.get H1) 31 (some v6)) fun v7 =>
  gQ v5 false (qBuiltin env.P (Heap.get H1) (⟨0, 10, Heap.gen H1 0 10, 0⟩ : Ref) .len #[31] [v7]) fun v8 =>
  gQ v5 false (qBin env.P .gtr 3 (.tmp 10) (.const (.int .i64 100)) (some v8) (some (.v (.int .i64 100)))) fun v9 =>
  doQ (pickF (some v5) (some (.v (.bool true))) (some v9)) fun v10 =>
  Q v10 H1
theorem vq_blindstampref06_Great : VC_blindstampref06_Great = fun g x0 H Q => wp env Try.f18 0 lv_blindstampref06_Great cu_blindstampref06_Great Q 500 [.code bd_blindstampref06_Great] (ofL g [(0, x0)]) H := by kernel_rfl
theorem vc_blindstampref06_Great (x0 : AV) (H : Heap) (Q : AV → Heap → Prop) (h : ∀ g, VC_blindstampref06_Great g x0 H Q) : GoL env Try.f18 0 [.code bd_blindstampref06_Great] [(0, x0)] H Q := ⟨fun g => wp_ok (by have h := h g; rw [vq_blindstampref06_Great] at h; exact h)⟩

/- blindstamplaw06_PolicyDown -/
noncomputable def bd_blindstamplaw06_PolicyDown : Code := (Try.f4.body).getD .skip
def lv_blindstamplaw06_PolicyDown : Nat → Option (List Nat) := fun i => none
def cu_blindstamplaw06_PolicyDown : Nat → Bool := fun i => false
def VC_blindstamplaw06_PolicyDown (g : Nat → AV) (x0 x1 x2 x3 : AV) (H : Heap) (Q : AV → Heap → Prop) : Prop :=
  doW (nRes H (⟨0, 4, Heap.gen H 0 4, 0⟩ : Ref) (qBox env.P (⟨0, 4, Heap.gen H 0 4, 0⟩ : Ref) 33 (some x0))) fun v1 H1 =>
  doW (nRes H1 (⟨0, 6, Heap.gen H1 0 6, 0⟩ : Ref) (qBox env.P (⟨0, 6, Heap.gen H1 0 6, 0⟩ : Ref) 24 (some x2))) fun v2 H2 =>
  doW (nRes H2 (⟨0, 7, Heap.gen H2 0 7, 0⟩ : Ref) (qBox env.P (⟨0, 7, Heap.gen H2 0 7, 0⟩ : Ref) 24 (some x3))) fun v3 H3 =>
  doW (callRes env true (limf env) (limt env 0) H3 (⟨0, 14, Heap.gen H3 0 14, 0⟩ : Ref) (some (.fn (.func 16) [] [])) []) fun v4 H4 =>
  doQ (qLoad env.P (Heap.get H4) 33 (some v1)) fun v5 =>
  doW (callRes env true (limf env) (limt env 0) H4 (⟨0, 16, Heap.gen H4 0 16, 0⟩ : Ref) (some (.fn (.func 18) [] [])) [v5]) fun v6 H5 =>
  gQ v6 false (qVal (some v4)) fun v7 =>
  gQ v6 false (qUn env.P .not (some v7)) fun v8 =>
  doQ (pickF (some v6) (some (.v (.bool true))) (some v8)) fun v9 =>
  br (some v9) (
   Q v4 H5) (
   doQ (qLoad env.P (Heap.get H5) 33 (some v1)) fun v10 =>
   doQ (qLoad env.P (Heap.get H5) 24 (some v2)) fun v11 =>
   doW (callRes env true (limf env) (limt env 0) H5 (⟨0, 26, Heap.gen H5 0 26, 0⟩ : Ref) (some (.fn (.func 15) [] [])) [v10, x1, v11]) fun v12 H6 =>
   doQ (qExtract (some v12) 0) fun v13 =>
   doQ (qExtract (some v12) 1) fun v14 =>
   doQ (qLoad env.P (Heap.get H6) 33 (some v1)) fun v15 =>
   doQ (qLoad env.P (Heap.get H6) 24 (some v3)) fun v16 =>
   doW (callRes env true (limf env) (limt env 0) H6 (⟨0, 33, Heap.gen H6 0 33, 0⟩ : Ref) (some (.fn (.func 15) [] [])) [v15, x1, v16]) fun v17 H7 =>
   doQ (qExtract (some v17) 0) fun v18 =>
   doQ (qExtract (some v17) 1) fun v19 =>
   doQ (qBin env.P .neq 27 (.tmp 36) (.const (.int .i64 0)) (some v14) (some (.v (.int .i64 0)))) fun v20 =>
   gQ v20 false (qVal (some v19)) fun v21 =>
   gQ v20 false (qBin env.P .neq 27 (.tmp 39) (.const (.int .i64 0)) (some v21) (some (.v (.int .i64 0)))) fun v22 =>
   doQ (pickF (some v20) (some (.v (.bool true))) (some v22)) fun v23 =>
   br (some v23) (
    gQ v4 true (qVal (some v14)) fun v24 =>
    gQ v4 true (qBin env.P .neq 27 (.tmp 44) (.const (.int .i64 0)) (some v24) (some (.v (.int .i64 0)))) fun v25 =>
    gQ v4 true (qVal (some v25)) fun v26 =>
    gQ v26 false (qLoad env.P (Heap.get H7) 24 (some v3)) fun v27 =>
    gQ v26 false (qLoad env.P (Heap.get H7) 24 (some v2)) fun v28 =>
    gW v26 false H7 (callRes env true (limf env) (limt env 0) H7 (⟨0, 49, Heap.gen H7 0 49, 0⟩ : Ref) (some (.fn (.func 19) [] [])) [v27, v28]) fun v29 H8 =>
    gQ v26 false (qUn env.P .not (some v29)) fun v30 =>
    gQ v4 true (pickF (some v26) (some (.v (.bool true))) (some v30)) fun v31 =>
    gQ v4 true (qVal (some v31)) fun v32 =>
    gQ v32 false (qLoad env.P (Heap.get H8) 33 (some v1)) fun v33 =>
    gW v32 false H8 (callRes env true (limf env) (limt env 0) H8 (⟨0, 54, Heap.gen H8 0 54, 0⟩ : Ref) (some (.fn (.func 17) [] [])) [v33]) fun v34 H9 =>
    gQ v32 false (qBin env.P .eql 27 (.tmp 54) (.const (.int .i64 0)) (some v34) (some (.v (.int .i64 0)))) fun v35 =>
    gQ v4 true (pickF (some v32) (some (.v (.bool true))) (some v35)) fun v36 =>
    doQ (pickF (some v4) (some v36) (some (.v (.bool false)))) fun v37 =>
    gQ v37 true (qVal (some v14)) fun v38 =>
    gQ v37 true (qBin env.P .eql 27 (.tmp 59) (.const (.int .i64 0)) (some v38) (some (.v (.int .i64 0)))) fun v39 =>
    gQ v37 true (qVal (some v39)) fun v40 =>
    gQ v40 false (qVal (some v13)) fun v41 =>
    gQ v40 false (qUn env.P .not (some v41)) fun v42 =>
    gQ v37 true (pickF (some v40) (some (.v (.bool true))) (some v42)) fun v43 =>
    doQ (pickF (some v37) (some v43) (some (.v (.bool false)))) fun v44 =>
    gQ v44 true (qVal (some v19)) fun v45 =>
    gQ v44 true (qBin env.P .eql 27 (.tmp 67) (.const (.int .i64 0)) (some v45) (some (.v (.int .i64 0)))) fun v46 =>
    gQ v44 true (qVal (some v46)) fun v47 =>
    gQ v47 false (qVal (some v18)) fun v48 =>
    gQ v47 false (qUn env.P .not (some v48)) fun v49 =>
    gQ v44 true (pickF (some v47) (some (.v (.bool true))) (some v49)) fun v50 =>
    doQ (pickF (some v44) (some v50) (some (.v (.bool false)))) fun v51 =>
    Q v51 H9) (
    doQ (qLoad env.P (Heap.get H7) 24 (some v3)) fun v24 =>
    doQ (qLoad env.P (Heap.get H7) 24 (some v2)) fun v25 =>
    doW (callRes env true (limf env) (limt env 0) H7 (⟨0, 76, Heap.gen H7 0 76, 0⟩ : Ref) (some (.fn (.func 19) [] [])) [v24, v25]) fun v26 H8 =>
    gQ v26 true (qVal (some v13)) fun v27 =>
    doQ (pickF (some v26) (some v27) (some (.v (.bool false)))) fun v28 =>
    gQ v28 true (qVal (some v18)) fun v29 =>
    gQ v28 true (qUn env.P .not (some v29)) fun v30 =>
    doQ (pickF (some v28) (some v30) (some (.v (.bool false)))) fun v31 =>
    br (some v31) (
     Q (.v (.bool false)) H8) (
     gQ v4 true (qVal (some v13)) fun v32 =>
     gQ v4 true (qUn env.P .not (some v32)) fun v33 =>
     gQ v4 true (qVal (some v33)) fun v34 =>
     gQ v34 false (qVal (some x1)) fun v35 =>
     gQ v34 false (qBin env.P .geq 3 (.tmp 89) (.const (.int .i64 0)) (some v35) (some (.v (.int .i64 0)))) fun v36 =>
     gQ v34 false (qVal (some v36)) fun v37 =>
     gQ v37 true (qVal (some x1)) fun v38 =>
     gQ v37 true (qFieldAddr env.P 33 (some v1) 0) fun v39 =>
     gQ v37 true (qLoad env.P (Heap.get H8) 30 (some v39)) fun v40 =>
     gQ v37 true (qBuiltin env.P (Heap.get H8) (⟨0, 95, Heap.gen H8 0 95, 0⟩ : Ref) .len #[30] [v40]) fun v41 =>
     gQ v37 true (qBin env.P .lss 3 (.tmp 92) (.tmp 95) (some v38) (some v41)) fun v42 =>
     gQ v34 false (pickF (some v37) (some v42) (some (.v (.bool false)))) fun v43 =>
     gQ v34 false (qVal (some v43)) fun v44 =>
     gQ v44 true (qLoad env.P (Heap.get H8) 24 (some v2)) fun v45 =>
     gQ v44 true (qFieldAddr env.P 33 (some v1) 0) fun v46 =>
     gQ v44 true (qLoad env.P (Heap.get H8) 30 (some v46)) fun v47 =>
     gQ v44 true (qVal (some x1)) fun v48 =>
     gQ v44 true (qIndexAddr env.P (Heap.get H8) 30 (some v47) (some v48)) fun v49 =>
     gQ v44 true (qFieldAddr env.P 39 (some v49) 0) fun v50 =>
     gQ v44 true (qLoad env.P (Heap.get H8) 24 (some v50)) fun v51 =>
     gW v44 true H8 (callRes env false (limf env) (limt env 0) H8 (⟨0, 106, Heap.gen H8 0 106, 0⟩ : Ref) (some (.fn (.func 19) [] [])) [v45, v51]) fun v52 H9 =>
     gQ v34 false (pickF (some v44) (some v52) (some (.v (.bool false)))) fun v53 =>
     gQ v4 true (pickF (some v34) (some (.v (.bool true))) (some v53)) fun v54 =>
     doQ (pickF (some v4) (some v54) (some (.v (.bool false)))) fun v55 =>
     Q v55 H9)))
theorem vq_blindstamplaw06_PolicyDown : VC_blindstamplaw06_PolicyDown = fun g x0 x1 x2 x3 H Q => wp env Try.f4 0 lv_blindstamplaw06_PolicyDown cu_blindstamplaw06_PolicyDown Q 500 [.code bd_blindstamplaw06_PolicyDown] (ofL g [(0, x0), (1, x1), (2, x2), (3, x3)]) H := by kernel_rfl
theorem vc_blindstamplaw06_PolicyDown (x0 x1 x2 x3 : AV) (H : Heap) (Q : AV → Heap → Prop) (h : ∀ g, VC_blindstamplaw06_PolicyDown g x0 x1 x2 x3 H Q) : GoL env Try.f4 0 [.code bd_blindstamplaw06_PolicyDown] [(0, x0), (1, x1), (2, x2), (3, x3)] H Q := ⟨fun g => wp_ok (by have h := h g; rw [vq_blindstamplaw06_PolicyDown] at h; exact h)⟩

end Go.Proofs.Ytgooemdlilfkmaa
