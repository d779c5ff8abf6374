/-
  What is to be shown of each function, computed from its code. No statement of a seat is proved here.
-/
import Derived.Test.YtfkpmldmmdkgoaaSumTy
set_option linter.unusedVariables false
set_option maxRecDepth 1000000
namespace Go.Proofs.Ytfkpmldmmdkgoaa
open Go.Ab

/- sum_Of -/
noncomputable def bd_sum_Of : Code := (Try.f9.body).getD .skip
noncomputable def hd_sum_Of_3 : List Item := (findLoop 3 400 [.code bd_sum_Of]).getD []
noncomputable def hd_sum_Of_7 : List Item := (findLoop 7 400 [.code bd_sum_Of]).getD []
def lv_sum_Of : Nat → Option (List Nat) := fun i => cond (Nat.beq i 3) (some [8, 3, 6, 7]) (cond (Nat.beq i 7) (some [17, 3, 6, 7, 8]) (none))
def cu_sum_Of : Nat → Bool := fun i => false
def VC_sum_Of (g : Nat → AV) (x0 : AV) (H : Heap) (Q : AV → Heap → Prop) : Prop :=
  doQ (qBuiltin env.P (Heap.get H) (⟨0, 7, Heap.gen H 0 7, 0⟩ : Ref) .len #[22] [x0]) fun v1 =>
  GoL env Try.f9 0 hd_sum_Of_3 [(8, (.v (.int .i64 0))), (3, (a32 11994318)), (6, x0), (7, v1)] H Q
theorem vq_sum_Of : VC_sum_Of = fun g x0 H Q => wp env Try.f9 0 lv_sum_Of cu_sum_Of Q 500 [.code bd_sum_Of] (ofL g [(0, x0)]) H := by kernel_rfl
theorem vc_sum_Of (x0 : AV) (H : Heap) (Q : AV → Heap → Prop) (h : ∀ g, VC_sum_Of g x0 H Q) : GoL env Try.f9 0 [.code bd_sum_Of] [(0, x0)] H Q := ⟨fun g => wp_ok (by have h := h g; rw [vq_sum_Of] at h; exact h)⟩
def VC_sum_Of_3 (g : Nat → AV) (x8 x3 x6 x7 : AV) (H : Heap) (Q : AV → Heap → Prop) : Prop :=
  doQ (qBin env.P .lss 3 (.tmp 8) (.tmp 7) (some x8) (some x7)) fun v1 =>
  br (some v1) (
   doQ (qIndexAddr env.P (Heap.get H) 22 (some x6) (some x8)) fun v2 =>
   doQ (qLoad env.P (Heap.get H) 5 (some v2)) fun v3 =>
   doQ (qConvert env.P (Heap.get H) (⟨0, 14, Heap.gen H 0 14, 0⟩ : Ref) 5 25 (some v3)) fun v4 =>
   doQ (qBin env.P .shl 25 (.tmp 14) (.const (.int .u64 16)) (some v4) (some (.v (.int .u64 16)))) fun v5 =>
   doQ (qBin env.P .xor 25 (.tmp 12) (.tmp 15) (some x3) (some v5)) fun v6 =>
   GoL env Try.f9 0 hd_sum_Of_7 [(17, (.v (.int .i64 0))), (3, v6), (6, x6), (7, x7), (8, x8)] H Q) (
   Q x3 H)
theorem vq_sum_Of_3 : VC_sum_Of_3 = fun g x8 x3 x6 x7 H Q => wp env Try.f9 0 lv_sum_Of cu_sum_Of Q 500 (bodyOf hd_sum_Of_3) (ofL g [(8, x8), (3, x3), (6, x6), (7, x7)]) H := by kernel_rfl
theorem vc_sum_Of_3 (x8 x3 x6 x7 : AV) (H : Heap) (Q : AV → Heap → Prop) (h : ∀ g, VC_sum_Of_3 g x8 x3 x6 x7 H Q) : GoL env Try.f9 0 hd_sum_Of_3 [(8, x8), (3, x3), (6, x6), (7, x7)] H Q := goL_body fun g => wp_ok (by have h := h g; rw [vq_sum_Of_3] at h; exact h)
def VC_sum_Of_7 (g : Nat → AV) (x17 x3 x6 x7 x8 : AV) (H : Heap) (Q : AV → Heap → Prop) : Prop :=
  doQ (qBin env.P .lss 3 (.tmp 17) (.const (.int .i64 8)) (some x17) (some (.v (.int .i64 8)))) fun v1 =>
  br (some v1) (
   doQ (qBin env.P .shl 25 (.tmp 19) (.const (.int .u64 1)) (some x3) (some (.v (.int .u64 1)))) fun v2 =>
   doQ (qBin env.P .shr 25 (.tmp 21) (.const (.int .u64 24)) (some v2) (some (.v (.int .u64 24)))) fun v3 =>
   doQ (qBin env.P .gtr 25 (.tmp 22) (.const (.int .u32 0)) (some v3) (some (a32 0))) fun v4 =>
   br (some v4) (
    doQ (qBin env.P .xor 25 (.tmp 24) (.const (.int .u32 25578747)) (some v2) (some (a32 25578747))) fun v5 =>
    doQ (qBin env.P .add 3 (.tmp 17) (.const (.int .i64 1)) (some x17) (some (.v (.int .i64 1)))) fun v6 =>
    GoL env Try.f9 0 hd_sum_Of_7 [(17, v6), (3, v5), (6, x6), (7, x7), (8, x8)] H Q) (
    doQ (qBin env.P .add 3 (.tmp 17) (.const (.int .i64 1)) (some x17) (some (.v (.int .i64 1)))) fun v5 =>
    GoL env Try.f9 0 hd_sum_Of_7 [(17, v5), (3, v2), (6, x6), (7, x7), (8, x8)] H Q)) (
   doQ (qBin env.P .add 3 (.tmp 8) (.const (.int .i64 1)) (some x8) (some (.v (.int .i64 1)))) fun v2 =>
   GoL env Try.f9 0 hd_sum_Of_3 [(8, v2), (3, x3), (6, x6), (7, x7)] H Q)
theorem vq_sum_Of_7 : VC_sum_Of_7 = fun g x17 x3 x6 x7 x8 H Q => wp env Try.f9 0 lv_sum_Of cu_sum_Of Q 500 (bodyOf hd_sum_Of_7) (ofL g [(17, x17), (3, x3), (6, x6), (7, x7), (8, x8)]) H := by kernel_rfl
theorem vc_sum_Of_7 (x17 x3 x6 x7 x8 : AV) (H : Heap) (Q : AV → Heap → Prop) (h : ∀ g, VC_sum_Of_7 g x17 x3 x6 x7 x8 H Q) : GoL env Try.f9 0 hd_sum_Of_7 [(17, x17), (3, x3), (6, x6), (7, x7), (8, x8)] H Q := goL_body fun g => wp_ok (by have h := h g; rw [vq_sum_Of_7] at h; exact h)

/- sum_Bytes -/
noncomputable def bd_sum_Bytes : Code := (Try.f11.body).getD .skip
def lv_sum_Bytes : Nat → Option (List Nat) := fun i => none
def cu_sum_Bytes : Nat → Bool := fun i => false
def VC_sum_Bytes (g : Nat → AV) (x0 : AV) (H : Heap) (Q : AV → Heap → Prop) : Prop :=
  doQ (qBin env.P .shr 25 (.tmp 3) (.const (.int .u64 16)) (some x0) (some (.v (.int .u64 16)))) fun v1 =>
  doQ (qConvert env.P (Heap.get H) (⟨0, 5, Heap.gen H 0 5, 0⟩ : Ref) 25 5 (some v1)) fun v2 =>
  doQ (qBin env.P .shr 25 (.tmp 6) (.const (.int .u64 8)) (some x0) (some (.v (.int .u64 8)))) fun v3 =>
  doQ (qConvert env.P (Heap.get H) (⟨0, 8, Heap.gen H 0 8, 0⟩ : Ref) 25 5 (some v3)) fun v4 =>
  doQ (qConvert env.P (Heap.get H) (⟨0, 10, Heap.gen H 0 10, 0⟩ : Ref) 25 5 (some x0)) fun v5 =>
  doW (bsRes env.P false true H (⟨0, 11, Heap.gen H 0 11, 0⟩ : Ref) 22 3 (some [(0, v2), (1, v4), (2, v5)])) fun v6 H1 =>
  Q v6 H1
theorem vq_sum_Bytes : VC_sum_Bytes = fun g x0 H Q => wp env Try.f11 0 lv_sum_Bytes cu_sum_Bytes Q 500 [.code bd_sum_Bytes] (ofL g [(0, x0)]) H := by kernel_rfl
theorem vc_sum_Bytes (x0 : AV) (H : Heap) (Q : AV → Heap → Prop) (h : ∀ g, VC_sum_Bytes g x0 H Q) : GoL env Try.f11 0 [.code bd_sum_Bytes] [(0, x0)] H Q := ⟨fun g => wp_ok (by have h := h g; rw [vq_sum_Bytes] at h; exact h)⟩

/- sum_Right -/
noncomputable def bd_sum_Right : Code := (Try.f10.body).getD .skip
def lv_sum_Right : Nat → Option (List Nat) := fun i => none
def cu_sum_Right : Nat → Bool := fun i => false
def VC_sum_Right (g : Nat → AV) (x0 : AV) (H : Heap) (Q : AV → Heap → Prop) : Prop :=
  doQ (qBuiltin env.P (Heap.get H) (⟨0, 5, Heap.gen H 0 5, 0⟩ : Ref) .len #[22] [x0]) fun v1 =>
  doQ (qBin env.P .sub 3 (.tmp 5) (.const (.int .i64 3)) (some v1) (some (.v (.int .i64 3)))) fun v2 =>
  doQ (qBin env.P .geq 3 (.tmp 7) (.const (.int .i64 0)) (some v2) (some (.v (.int .i64 0)))) fun v3 =>
  gQ v3 true (qVal (some x0)) fun v4 =>
  gQ v3 true (qVal (some v2)) fun v5 =>
  gQ v3 true (qVal (some v2)) fun v6 =>
  gQ v3 true (qSlice env.P (Heap.get H) 22 (some v4) (some none) (oi v5) (oi v6)) fun v7 =>
  gQ v3 true (qVal (some x0)) fun v8 =>
  gQ v3 true (qVal (some v2)) fun v9 =>
  gQ v3 true (qSlice env.P (Heap.get H) 22 (some v8) (some none) (oi v9) (some none)) fun v10 =>
  gW v3 true H (callRes env false (limf env) (limt env 0) H (⟨0, 17, Heap.gen H 0 17, 0⟩ : Ref) (some (.fn (.func 9) [] [])) [v10]) fun v11 H1 =>
  gW v3 true H1 (callRes env false (limf env) (limt env 0) H1 (⟨0, 18, Heap.gen H1 0 18, 0⟩ : Ref) (some (.fn (.func 11) [] [])) [v11]) fun v12 H2 =>
  gW v3 true H2 (appRes env.P true H2 (⟨0, 19, Heap.gen H2 0 19, 0⟩ : Ref) (some 22) (some 22) v7 v12) fun v13 H3 =>
  gQ v3 true (qVal (some x0)) fun v14 =>
  gW v3 true H3 (callRes env false (limf env) (limt env 0) H3 (⟨0, 21, Heap.gen H3 0 21, 0⟩ : Ref) (some (.fn (.func 15) [] [])) [v13, v14]) fun v15 H4 =>
  doQ (pickF (some v3) (some v15) (some (.v (.bool false)))) fun v16 =>
  Q v16 H4
theorem vq_sum_Right : VC_sum_Right = fun g x0 H Q => wp env Try.f10 0 lv_sum_Right cu_sum_Right Q 500 [.code bd_sum_Right] (ofL g [(0, x0)]) H := by kernel_rfl
theorem vc_sum_Right (x0 : AV) (H : Heap) (Q : AV → Heap → Prop) (h : ∀ g, VC_sum_Right g x0 H Q) : GoL env Try.f10 0 [.code bd_sum_Right] [(0, x0)] H Q := ⟨fun g => wp_ok (by have h := h g; rw [vq_sum_Right] at h; exact h)⟩

/- bytes_Equal -/
noncomputable def bd_bytes_Equal : Code := (Try.f15.body).getD .skip
def lv_bytes_Equal : Nat → Option (List Nat) := fun i => none
def cu_bytes_Equal : Nat → Bool := fun i => false
def VC_bytes_Equal (g : Nat → AV) (x0 x1 : AV) (H : Heap) (Q : AV → Heap → Prop) : Prop :=
  doQ (qConvert env.P (Heap.get H) (⟨0, 6, Heap.gen H 0 6, 0⟩ : Ref) 22 9 (some x0)) fun v1 =>
  doQ (qConvert env.P (Heap.get H) (⟨0, 8, Heap.gen H 0 8, 0⟩ : Ref) 22 9 (some x1)) fun v2 =>
  doQ (qBin env.P .eql 9 (.tmp 6) (.tmp 8) (some v1) (some v2)) fun v3 =>
  Q v3 H
theorem vq_bytes_Equal : VC_bytes_Equal = fun g x0 x1 H Q => wp env Try.f15 0 lv_bytes_Equal cu_bytes_Equal Q 500 [.code bd_bytes_Equal] (ofL g [(0, x0), (1, x1)]) H := by kernel_rfl
theorem vc_bytes_Equal (x0 x1 : AV) (H : Heap) (Q : AV → Heap → Prop) (h : ∀ g, VC_bytes_Equal g x0 x1 H Q) : GoL env Try.f15 0 [.code bd_bytes_Equal] [(0, x0), (1, x1)] H Q := ⟨fun g => wp_ok (by have h := h g; rw [vq_bytes_Equal] at h; exact h)⟩

/- blindstampref03_Of -/
noncomputable def bd_blindstampref03_Of : Code := (Try.f12.body).getD .skip
noncomputable def hd_blindstampref03_Of_3 : List Item := (findLoop 3 400 [.code bd_blindstampref03_Of]).getD []
noncomputable def hd_blindstampref03_Of_7 : List Item := (findLoop 7 400 [.code bd_blindstampref03_Of]).getD []
def lv_blindstampref03_Of : Nat → Option (List Nat) := fun i => cond (Nat.beq i 3) (some [3, 4, 0]) (cond (Nat.beq i 7) (some [6, 5, 3, 0, 4]) (none))
def cu_blindstampref03_Of : Nat → Bool := fun i => false
def VC_blindstampref03_Of (g : Nat → AV) (x0 : AV) (H : Heap) (Q : AV → Heap → Prop) : Prop :=
  GoL env Try.f12 0 hd_blindstampref03_Of_3 [(3, (.v (.int .i64 11994318))), (4, (.v (.int .i64 0))), (0, x0)] H Q
theorem vq_blindstampref03_Of : VC_blindstampref03_Of = fun g x0 H Q => wp env Try.f12 0 lv_blindstampref03_Of cu_blindstampref03_Of Q 500 [.code bd_blindstampref03_Of] (ofL g [(0, x0)]) H := by kernel_rfl
theorem vc_blindstampref03_Of (x0 : AV) (H : Heap) (Q : AV → Heap → Prop) (h : ∀ g, VC_blindstampref03_Of g x0 H Q) : GoL env Try.f12 0 [.code bd_blindstampref03_Of] [(0, x0)] H Q := ⟨fun g => wp_ok (by have h := h g; rw [vq_blindstampref03_Of] at h; exact h)⟩
def VC_blindstampref03_Of_3 (g : Nat → AV) (x3 x4 x0 : AV) (H : Heap) (Q : AV → Heap → Prop) : Prop :=
  doQ (qBuiltin env.P (Heap.get H) (⟨0, 11, Heap.gen H 0 11, 0⟩ : Ref) .len #[22] [x0]) fun v1 =>
  doQ (qBin env.P .lss 3 (.tmp 9) (.tmp 11) (some x4) (some v1)) fun v2 =>
  br (some v2) (
   doQ (qIndexAddr env.P (Heap.get H) 22 (some x0) (some x4)) fun v3 =>
   doQ (qLoad env.P (Heap.get H) 5 (some v3)) fun v4 =>
   doQ (qConvert env.P (Heap.get H) (⟨0, 19, Heap.gen H 0 19, 0⟩ : Ref) 5 3 (some v4)) fun v5 =>
   GoL env Try.f12 0 hd_blindstampref03_Of_7 [(6, (.v (.int .i64 0))), (5, v5), (3, x3), (0, x0), (4, x4)] H Q) (
   doQ (qConvert env.P (Heap.get H) (⟨0, 40, Heap.gen H 0 40, 0⟩ : Ref) 3 25 (some x3)) fun v3 =>
   Q v3 H)
theorem vq_blindstampref03_Of_3 : VC_blindstampref03_Of_3 = fun g x3 x4 x0 H Q => wp env Try.f12 0 lv_blindstampref03_Of cu_blindstampref03_Of Q 500 (bodyOf hd_blindstampref03_Of_3) (ofL g [(3, x3), (4, x4), (0, x0)]) H := by kernel_rfl
theorem vc_blindstampref03_Of_3 (x3 x4 x0 : AV) (H : Heap) (Q : AV → Heap → Prop) (h : ∀ g, VC_blindstampref03_Of_3 g x3 x4 x0 H Q) : GoL env Try.f12 0 hd_blindstampref03_Of_3 [(3, x3), (4, x4), (0, x0)] H Q := goL_body fun g => wp_ok (by have h := h g; rw [vq_blindstampref03_Of_3] at h; exact h)
def VC_blindstampref03_Of_7 (g : Nat → AV) (x6 x5 x3 x0 x4 : AV) (H : Heap) (Q : AV → Heap → Prop) : Prop :=
  doQ (qBin env.P .lss 3 (.tmp 20) (.const (.int .i64 8)) (some x6) (some (.v (.int .i64 8)))) fun v1 =>
  br (some v1) (
   doQ (qBin env.P .quo 3 (.tmp 24) (.const (.int .i64 8388608)) (some x3) (some (.v (.int .i64 8388608)))) fun v2 =>
   doQ (qBin env.P .quo 3 (.tmp 26) (.const (.int .i64 128)) (some x5) (some (.v (.int .i64 128)))) fun v3 =>
   doQ (qBin env.P .rem 3 (.tmp 27) (.const (.int .i64 2)) (some v3) (some (.v (.int .i64 2)))) fun v4 =>
   doQ (qBin env.P .rem 3 (.tmp 29) (.const (.int .i64 8388608)) (some x3) (some (.v (.int .i64 8388608)))) fun v5 =>
   doQ (qBin env.P .mul 3 (.tmp 30) (.const (.int .i64 2)) (some v5) (some (.v (.int .i64 2)))) fun v6 =>
   doQ (qBin env.P .mul 3 (.tmp 32) (.const (.int .i64 2)) (some x5) (some (.v (.int .i64 2)))) fun v7 =>
   doQ (qBin env.P .neq 3 (.tmp 34) (.tmp 35) (some v2) (some v4)) fun v8 =>
   br (some v8) (
    doQ (qBin env.P .xor 3 (.tmp 37) (.const (.int .i64 8801531)) (some v6) (some (.v (.int .i64 8801531)))) fun v9 =>
    doQ (qBin env.P .add 3 (.tmp 22) (.const (.int .i64 1)) (some x6) (some (.v (.int .i64 1)))) fun v10 =>
    GoL env Try.f12 0 hd_blindstampref03_Of_7 [(6, v10), (5, v7), (3, v9), (0, x0), (4, x4)] H Q) (
    doQ (qBin env.P .add 3 (.tmp 22) (.const (.int .i64 1)) (some x6) (some (.v (.int .i64 1)))) fun v9 =>
    GoL env Try.f12 0 hd_blindstampref03_Of_7 [(6, v9), (5, v7), (3, v6), (0, x0), (4, x4)] H Q)) (
   doQ (qBin env.P .add 3 (.tmp 13) (.const (.int .i64 1)) (some x4) (some (.v (.int .i64 1)))) fun v2 =>
   GoL env Try.f12 0 hd_blindstampref03_Of_3 [(3, x3), (4, v2), (0, x0)] H Q)
theorem vq_blindstampref03_Of_7 : VC_blindstampref03_Of_7 = fun g x6 x5 x3 x0 x4 H Q => wp env Try.f12 0 lv_blindstampref03_Of cu_blindstampref03_Of Q 500 (bodyOf hd_blindstampref03_Of_7) (ofL g [(6, x6), (5, x5), (3, x3), (0, x0), (4, x4)]) H := by kernel_rfl
theorem vc_blindstampref03_Of_7 (x6 x5 x3 x0 x4 : AV) (H : Heap) (Q : AV → Heap → Prop) (h : ∀ g, VC_blindstampref03_Of_7 g x6 x5 x3 x0 x4 H Q) : GoL env Try.f12 0 hd_blindstampref03_Of_7 [(6, x6), (5, x5), (3, x3), (0, x0), (4, x4)] H Q := goL_body fun g => wp_ok (by have h := h g; rw [vq_blindstampref03_Of_7] at h; exact h)

/- blindstampref03_Bytes -/
noncomputable def bd_blindstampref03_Bytes : Code := (Try.f13.body).getD .skip
def lv_blindstampref03_Bytes : Nat → Option (List Nat) := fun i => none
def cu_blindstampref03_Bytes : Nat → Bool := fun i => false
def VC_blindstampref03_Bytes (g : Nat → AV) (x0 : AV) (H : Heap) (Q : AV → Heap → Prop) : Prop :=
  doQ (qBin env.P .quo 25 (.tmp 3) (.const (.int .u32 65536)) (some x0) (some (a32 65536))) fun v1 =>
  doQ (qBin env.P .rem 25 (.tmp 4) (.const (.int .u32 256)) (some v1) (some (a32 256))) fun v2 =>
  doQ (qConvert env.P (Heap.get H) (⟨0, 6, Heap.gen H 0 6, 0⟩ : Ref) 25 5 (some v2)) fun v3 =>
  doQ (qBin env.P .quo 25 (.tmp 7) (.const (.int .u32 256)) (some x0) (some (a32 256))) fun v4 =>
  doQ (qBin env.P .rem 25 (.tmp 8) (.const (.int .u32 256)) (some v4) (some (a32 256))) fun v5 =>
  doQ (qConvert env.P (Heap.get H) (⟨0, 10, Heap.gen H 0 10, 0⟩ : Ref) 25 5 (some v5)) fun v6 =>
  doQ (qBin env.P .rem 25 (.tmp 11) (.const (.int .u32 256)) (some x0) (some (a32 256))) fun v7 =>
  doQ (qConvert env.P (Heap.get H) (⟨0, 13, Heap.gen H 0 13, 0⟩ : Ref) 25 5 (some v7)) fun v8 =>
  doW (bsRes env.P false true H (⟨0, 14, Heap.gen H 0 14, 0⟩ : Ref) 22 3 (some [(0, v3), (1, v6), (2, v8)])) fun v9 H1 =>
  Q v9 H1
theorem vq_blindstampref03_Bytes : VC_blindstampref03_Bytes = fun g x0 H Q => wp env Try.f13 0 lv_blindstampref03_Bytes cu_blindstampref03_Bytes Q 500 [.code bd_blindstampref03_Bytes] (ofL g [(0, x0)]) H := by kernel_rfl
theorem vc_blindstampref03_Bytes (x0 : AV) (H : Heap) (Q : AV → Heap → Prop) (h : ∀ g, VC_blindstampref03_Bytes g x0 H Q) : GoL env Try.f13 0 [.code bd_blindstampref03_Bytes] [(0, x0)] H Q := ⟨fun g => wp_ok (by have h := h g; rw [vq_blindstampref03_Bytes] at h; exact h)⟩

/- blindstampref03_Right -/
noncomputable def bd_blindstampref03_Right : Code := (Try.f14.body).getD .skip
def lv_blindstampref03_Right : Nat → Option (List Nat) := fun i => none
def cu_blindstampref03_Right : Nat → Bool := fun i => false
def VC_blindstampref03_Right (g : Nat → AV) (x0 : AV) (H : Heap) (Q : AV → Heap → Prop) : Prop :=
  doQ (qBuiltin env.P (Heap.get H) (⟨0, 5, Heap.gen H 0 5, 0⟩ : Ref) .len #[22] [x0]) fun v1 =>
  doQ (qBin env.P .sub 3 (.tmp 5) (.const (.int .i64 3)) (some v1) (some (.v (.int .i64 3)))) fun v2 =>
  doQ (qBin env.P .geq 3 (.tmp 7) (.const (.int .i64 0)) (some v2) (some (.v (.int .i64 0)))) fun v3 =>
  gQ v3 true (qVal (some x0)) fun v4 =>
  gQ v3 true (qVal (some v2)) fun v5 =>
  gQ v3 true (qSlice env.P (Heap.get H) 22 (some v4) (some none) (oi v5) (some none)) fun v6 =>
  gW v3 true H (callRes env false (limf env) (limt env 0) H (⟨0, 13, Heap.gen H 0 13, 0⟩ : Ref) (some (.fn (.func 12) [] [])) [v6]) fun v7 H1 =>
  gW v3 true H1 (callRes env false (limf env) (limt env 0) H1 (⟨0, 14, Heap.gen H1 0 14, 0⟩ : Ref) (some (.fn (.func 13) [] [])) [v7]) fun v8 H2 =>
  gQ v3 true (qConvert env.P (Heap.get H2) (⟨0, 15, Heap.gen H2 0 15, 0⟩ : Ref) 22 9 (some v8)) fun v9 =>
  gQ v3 true (qVal (some x0)) fun v10 =>
  gQ v3 true (qVal (some v2)) fun v11 =>
  gQ v3 true (qSlice env.P (Heap.get H2) 22 (some v10) (oi v11) (some none) (some none)) fun v12 =>
  gQ v3 true (qConvert env.P (Heap.get H2) (⟨0, 19, Heap.gen H2 0 19, 0⟩ : Ref) 22 9 (some v12)) fun v13 =>
  gQ v3 true (qBin env.P .eql 9 (.tmp 15) (.tmp 19) (some v9) (some v13)) fun v14 =>
  doQ (pickF (some v3) (some v14) (some (.v (.bool false)))) fun v15 =>
  Q v15 H2
theorem vq_blindstampref03_Right : VC_blindstampref03_Right = fun g x0 H Q => wp env Try.f14 0 lv_blindstampref03_Right cu_blindstampref03_Right Q 500 [.code bd_blindstampref03_Right] (ofL g [(0, x0)]) H := by kernel_rfl
theorem vc_blindstampref03_Right (x0 : AV) (H : Heap) (Q : AV → Heap → Prop) (h : ∀ g, VC_blindstampref03_Right g x0 H Q) : GoL env Try.f14 0 [.code bd_blindstampref03_Right] [(0, x0)] H Q := ⟨fun g => wp_ok (by have h := h g; rw [vq_blindstampref03_Right] at h; exact h)⟩

/- blindstamplaw03_SumTurns -/
noncomputable def bd_blindstamplaw03_SumTurns : Code := (Try.f3.body).getD .skip
noncomputable def hd_blindstamplaw03_SumTurns_6 : List Item := (findLoop 6 400 [.code bd_blindstamplaw03_SumTurns]).getD []
def lv_blindstamplaw03_SumTurns : Nat → Option (List Nat) := fun i => cond (Nat.beq i 6) (some [9, 5, 1, 8, 0, 7]) (none)
def cu_blindstamplaw03_SumTurns : Nat → Bool := fun i => false
def VC_blindstamplaw03_SumTurns (g : Nat → AV) (x0 x1 x2 : AV) (H : Heap) (Q : AV → Heap → Prop) : Prop :=
  doW (nRes H (⟨0, 5, Heap.gen H 0 5, 0⟩ : Ref) (qBox env.P (⟨0, 5, Heap.gen H 0 5, 0⟩ : Ref) 23 (some x2))) fun v1 H1 =>
  doW (callRes env true (limf env) (limt env 0) H1 (⟨0, 10, Heap.gen H1 0 10, 0⟩ : Ref) (some (.fn (.func 8) [] [])) []) fun v2 H2 =>
  doQ (qBuiltin env.P (Heap.get H2) (⟨0, 12, Heap.gen H2 0 12, 0⟩ : Ref) .len #[22] [x0]) fun v3 =>
  doQ (qBin env.P .gtr 3 (.tmp 12) (.const (.int .i64 10000)) (some v3) (some (.v (.int .i64 10000)))) fun v4 =>
  gQ v4 false (qVal (some x1)) fun v5 =>
  gQ v4 false (qBin env.P .lss 3 (.tmp 15) (.const (.int .i64 0)) (some v5) (some (.v (.int .i64 0)))) fun v6 =>
  doQ (pickF (some v4) (some (.v (.bool true))) (some v6)) fun v7 =>
  gQ v7 false (qVal (some x1)) fun v8 =>
  gQ v7 false (qVal (some x0)) fun v9 =>
  gQ v7 false (qBuiltin env.P (Heap.get H2) (⟨0, 21, Heap.gen H2 0 21, 0⟩ : Ref) .len #[22] [v9]) fun v10 =>
  gQ v7 false (qBin env.P .sub 3 (.tmp 21) (.const (.int .i64 3)) (some v10) (some (.v (.int .i64 3)))) fun v11 =>
  gQ v7 false (qBin env.P .gtr 3 (.tmp 19) (.tmp 22) (some v8) (some v11)) fun v12 =>
  doQ (pickF (some v7) (some (.v (.bool true))) (some v12)) fun v13 =>
  gQ v13 false (qLoad env.P (Heap.get H2) 23 (some v1)) fun v14 =>
  gQ v13 false (qBuild env.P 23 (some [])) fun v15 =>
  gQ v13 false (qBin env.P .eql 23 (.tmp 26) (.tmp 27) (some v14) (some v15)) fun v16 =>
  doQ (pickF (some v13) (some (.v (.bool true))) (some v16)) fun v17 =>
  gQ v17 false (qVal (some v2)) fun v18 =>
  gQ v17 false (qUn env.P .not (some v18)) fun v19 =>
  doQ (pickF (some v17) (some (.v (.bool true))) (some v19)) fun v20 =>
  br (some v20) (
   Q v2 H2) (
   doW (appRes env.P true H2 (⟨0, 36, Heap.gen H2 0 36, 0⟩ : Ref) (some 22) (some 22) (.v (.slice none 0 0)) x0) fun v21 H3 =>
   GoL env Try.f3 0 hd_blindstamplaw03_SumTurns_6 [(9, (.v (.int .i64 0))), (5, v1), (1, x1), (8, v21), (0, x0), (7, v2)] H3 Q)
theorem vq_blindstamplaw03_SumTurns : VC_blindstamplaw03_SumTurns = fun g x0 x1 x2 H Q => wp env Try.f3 0 lv_blindstamplaw03_SumTurns cu_blindstamplaw03_SumTurns Q 500 [.code bd_blindstamplaw03_SumTurns] (ofL g [(0, x0), (1, x1), (2, x2)]) H := by kernel_rfl
theorem vc_blindstamplaw03_SumTurns (x0 x1 x2 : AV) (H : Heap) (Q : AV → Heap → Prop) (h : ∀ g, VC_blindstamplaw03_SumTurns g x0 x1 x2 H Q) : GoL env Try.f3 0 [.code bd_blindstamplaw03_SumTurns] [(0, x0), (1, x1), (2, x2)] H Q := ⟨fun g => wp_ok (by have h := h g; rw [vq_blindstamplaw03_SumTurns] at h; exact h)⟩
def VC_blindstamplaw03_SumTurns_6 (g : Nat → AV) (x9 x5 x1 x8 x0 x7 : AV) (H : Heap) (Q : AV → Heap → Prop) : Prop :=
  doQ (qBin env.P .lss 3 (.tmp 37) (.const (.int .i64 3)) (some x9) (some (.v (.int .i64 3)))) fun v1 =>
  br (some v1) (
   doQ (qBin env.P .add 3 (.tmp 42) (.tmp 43) (some x1) (some x9)) fun v2 =>
   doQ (qBin env.P .add 3 (.tmp 46) (.tmp 47) (some x1) (some x9)) fun v3 =>
   doQ (qIndexAddr env.P (Heap.get H) 22 (some x8) (some v3)) fun v4 =>
   doQ (qLoad env.P (Heap.get H) 5 (some v4)) fun v5 =>
   doQ (qIndexAddr env.P (Heap.get H) 23 (some x5) (some x9)) fun v6 =>
   doQ (qLoad env.P (Heap.get H) 5 (some v6)) fun v7 =>
   doQ (qBin env.P .xor 5 (.tmp 50) (.tmp 53) (some v5) (some v7)) fun v8 =>
   doQ (qIndexAddr env.P (Heap.get H) 22 (some x8) (some v2)) fun v9 =>
   doW (wStore env.P H 5 (some v9) (some v8)) fun v10 H1 =>
   doQ (qBin env.P .add 3 (.tmp 39) (.const (.int .i64 1)) (some x9) (some (.v (.int .i64 1)))) fun v11 =>
   GoL env Try.f3 0 hd_blindstamplaw03_SumTurns_6 [(9, v11), (5, x5), (1, x1), (8, x8), (0, x0), (7, x7)] H1 Q) (
   gQ x7 true (qVal (some x8)) fun v2 =>
   gW x7 true H (callRes env true (limf env) (limt env 0) H (⟨0, 59, Heap.gen H 0 59, 0⟩ : Ref) (some (.fn (.func 9) [] [])) [v2]) fun v3 H1 =>
   gQ x7 true (qVal (some x0)) fun v4 =>
   gW x7 true H1 (callRes env true (limf env) (limt env 0) H1 (⟨0, 61, Heap.gen H1 0 61, 0⟩ : Ref) (some (.fn (.func 9) [] [])) [v4]) fun v5 H2 =>
   gQ x7 true (qBin env.P .neq 25 (.tmp 59) (.tmp 61) (some v3) (some v5)) fun v6 =>
   doQ (pickF (some x7) (some v6) (some (.v (.bool false)))) fun v7 =>
   Q v7 H2)
theorem vq_blindstamplaw03_SumTurns_6 : VC_blindstamplaw03_SumTurns_6 = fun g x9 x5 x1 x8 x0 x7 H Q => wp env Try.f3 0 lv_blindstamplaw03_SumTurns cu_blindstamplaw03_SumTurns Q 500 (bodyOf hd_blindstamplaw03_SumTurns_6) (ofL g [(9, x9), (5, x5), (1, x1), (8, x8), (0, x0), (7, x7)]) H := by kernel_rfl
theorem vc_blindstamplaw03_SumTurns_6 (x9 x5 x1 x8 x0 x7 : AV) (H : Heap) (Q : AV → Heap → Prop) (h : ∀ g, VC_blindstamplaw03_SumTurns_6 g x9 x5 x1 x8 x0 x7 H Q) : GoL env Try.f3 0 hd_blindstamplaw03_SumTurns_6 [(9, x9), (5, x5), (1, x1), (8, x8), (0, x0), (7, x7)] H Q := goL_body fun g => wp_ok (by have h := h g; rw [vq_blindstamplaw03_SumTurns_6] at h; exact h)

/- blindstamplaw03_SumThree -/
noncomputable def bd_blindstamplaw03_SumThree : Code := (Try.f4.body).getD .skip
noncomputable def hd_blindstamplaw03_SumThree_7 : List Item := (findLoop 7 400 [.code bd_blindstamplaw03_SumThree]).getD []
def lv_blindstamplaw03_SumThree : Nat → Option (List Nat) := fun i => cond (Nat.beq i 7) (some [10, 2, 1, 0, 9, 8, 7]) (none)
def cu_blindstamplaw03_SumThree : Nat → Bool := fun i => false
def VC_blindstamplaw03_SumThree (g : Nat → AV) (x0 x1 x2 : AV) (H : Heap) (Q : AV → Heap → Prop) : Prop :=
  doW (callRes env true (limf env) (limt env 0) H (⟨0, 11, Heap.gen H 0 11, 0⟩ : Ref) (some (.fn (.func 8) [] [])) []) fun v1 H1 =>
  doQ (qBuiltin env.P (Heap.get H1) (⟨0, 13, Heap.gen H1 0 13, 0⟩ : Ref) .len #[22] [x0]) fun v2 =>
  doQ (qBuiltin env.P (Heap.get H1) (⟨0, 15, Heap.gen H1 0 15, 0⟩ : Ref) .len #[22] [x1]) fun v3 =>
  doQ (qBuiltin env.P (Heap.get H1) (⟨0, 17, Heap.gen H1 0 17, 0⟩ : Ref) .len #[22] [x2]) fun v4 =>
  doQ (qBuiltin env.P (Heap.get H1) (⟨0, 18, Heap.gen H1 0 18, 0⟩ : Ref) .min #[3, 3, 3] [v2, v3, v4]) fun v5 =>
  doQ (qBin env.P .gtr 3 (.tmp 19) (.const (.int .i64 10000)) (some v5) (some (.v (.int .i64 10000)))) fun v6 =>
  gQ v6 false (qVal (some v1)) fun v7 =>
  gQ v6 false (qUn env.P .not (some v7)) fun v8 =>
  doQ (pickF (some v6) (some (.v (.bool true))) (some v8)) fun v9 =>
  br (some v9) (
   Q v1 H1) (
   doW (nRes H1 (⟨0, 27, Heap.gen H1 0 27, 0⟩ : Ref) (qMake env.P (⟨0, 27, Heap.gen H1 0 27, 0⟩ : Ref) 22 (some v5) (some v5))) fun v10 H2 =>
   GoL env Try.f4 0 hd_blindstamplaw03_SumThree_7 [(10, (.v (.int .i64 0))), (2, x2), (1, x1), (0, x0), (9, v10), (8, v5), (7, v1)] H2 Q)
theorem vq_blindstamplaw03_SumThree : VC_blindstamplaw03_SumThree = fun g x0 x1 x2 H Q => wp env Try.f4 0 lv_blindstamplaw03_SumThree cu_blindstamplaw03_SumThree Q 500 [.code bd_blindstamplaw03_SumThree] (ofL g [(0, x0), (1, x1), (2, x2)]) H := by kernel_rfl
theorem vc_blindstamplaw03_SumThree (x0 x1 x2 : AV) (H : Heap) (Q : AV → Heap → Prop) (h : ∀ g, VC_blindstamplaw03_SumThree g x0 x1 x2 H Q) : GoL env Try.f4 0 [.code bd_blindstamplaw03_SumThree] [(0, x0), (1, x1), (2, x2)] H Q := ⟨fun g => wp_ok (by have h := h g; rw [vq_blindstamplaw03_SumThree] at h; exact h)⟩
def VC_blindstamplaw03_SumThree_7 (g : Nat → AV) (x10 x2 x1 x0 x9 x8 x7 : AV) (H : Heap) (Q : AV → Heap → Prop) : Prop :=
  doQ (qBin env.P .lss 3 (.tmp 28) (.tmp 29) (some x10) (some x8)) fun v1 =>
  br (some v1) (
   doQ (qIndexAddr env.P (Heap.get H) 22 (some x0) (some x10)) fun v2 =>
   doQ (qLoad env.P (Heap.get H) 5 (some v2)) fun v3 =>
   doQ (qIndexAddr env.P (Heap.get H) 22 (some x1) (some x10)) fun v4 =>
   doQ (qLoad env.P (Heap.get H) 5 (some v4)) fun v5 =>
   doQ (qBin env.P .xor 5 (.tmp 38) (.tmp 42) (some v3) (some v5)) fun v6 =>
   doQ (qIndexAddr env.P (Heap.get H) 22 (some x2) (some x10)) fun v7 =>
   doQ (qLoad env.P (Heap.get H) 5 (some v7)) fun v8 =>
   doQ (qBin env.P .xor 5 (.tmp 43) (.tmp 47) (some v6) (some v8)) fun v9 =>
   doQ (qIndexAddr env.P (Heap.get H) 22 (some x9) (some x10)) fun v10 =>
   doW (wStore env.P H 5 (some v10) (some v9)) fun v11 H1 =>
   doQ (qBin env.P .add 3 (.tmp 31) (.const (.int .i64 1)) (some x10) (some (.v (.int .i64 1)))) fun v12 =>
   GoL env Try.f4 0 hd_blindstamplaw03_SumThree_7 [(10, v12), (2, x2), (1, x1), (0, x0), (9, x9), (8, x8), (7, x7)] H1 Q) (
   gQ x7 true (qVal (some x9)) fun v2 =>
   gW x7 true H (callRes env false (limf env) (limt env 0) H (⟨0, 53, Heap.gen H 0 53, 0⟩ : Ref) (some (.fn (.func 9) [] [])) [v2]) fun v3 H1 =>
   gQ x7 true (qVal (some x0)) fun v4 =>
   gQ x7 true (qVal (some x8)) fun v5 =>
   gQ x7 true (qSlice env.P (Heap.get H1) 22 (some v4) (some none) (oi v5) (some none)) fun v6 =>
   gW x7 true H1 (callRes env false (limf env) (limt env 0) H1 (⟨0, 57, Heap.gen H1 0 57, 0⟩ : Ref) (some (.fn (.func 9) [] [])) [v6]) fun v7 H2 =>
   gQ x7 true (qVal (some x1)) fun v8 =>
   gQ x7 true (qVal (some x8)) fun v9 =>
   gQ x7 true (qSlice env.P (Heap.get H2) 22 (some v8) (some none) (oi v9) (some none)) fun v10 =>
   gW x7 true H2 (callRes env false (limf env) (limt env 0) H2 (⟨0, 61, Heap.gen H2 0 61, 0⟩ : Ref) (some (.fn (.func 9) [] [])) [v10]) fun v11 H3 =>
   gQ x7 true (qBin env.P .xor 25 (.tmp 57) (.tmp 61) (some v7) (some v11)) fun v12 =>
   gQ x7 true (qVal (some x2)) fun v13 =>
   gQ x7 true (qVal (some x8)) fun v14 =>
   gQ x7 true (qSlice env.P (Heap.get H3) 22 (some v13) (some none) (oi v14) (some none)) fun v15 =>
   gW x7 true H3 (callRes env false (limf env) (limt env 0) H3 (⟨0, 66, Heap.gen H3 0 66, 0⟩ : Ref) (some (.fn (.func 9) [] [])) [v15]) fun v16 H4 =>
   gQ x7 true (qBin env.P .xor 25 (.tmp 62) (.tmp 66) (some v12) (some v16)) fun v17 =>
   gQ x7 true (qBin env.P .eql 25 (.tmp 53) (.tmp 67) (some v3) (some v17)) fun v18 =>
   doQ (pickF (some x7) (some v18) (some (.v (.bool false)))) fun v19 =>
   Q v19 H4)
theorem vq_blindstamplaw03_SumThree_7 : VC_blindstamplaw03_SumThree_7 = fun g x10 x2 x1 x0 x9 x8 x7 H Q => wp env Try.f4 0 lv_blindstamplaw03_SumThree cu_blindstamplaw03_SumThree Q 500 (bodyOf hd_blindstamplaw03_SumThree_7) (ofL g [(10, x10), (2, x2), (1, x1), (0, x0), (9, x9), (8, x8), (7, x7)]) H := by kernel_rfl
theorem vc_blindstamplaw03_SumThree_7 (x10 x2 x1 x0 x9 x8 x7 : AV) (H : Heap) (Q : AV → Heap → Prop) (h : ∀ g, VC_blindstamplaw03_SumThree_7 g x10 x2 x1 x0 x9 x8 x7 H Q) : GoL env Try.f4 0 hd_blindstamplaw03_SumThree_7 [(10, x10), (2, x2), (1, x1), (0, x0), (9, x9), (8, x8), (7, x7)] H Q := goL_body fun g => wp_ok (by have h := h g; rw [vq_blindstamplaw03_SumThree_7] at h; exact h)

/- blindstamplaw03_SumTells -/
noncomputable def bd_blindstamplaw03_SumTells : Code := (Try.f6.body).getD .skip
def lv_blindstamplaw03_SumTells : Nat → Option (List Nat) := fun i => none
def cu_blindstamplaw03_SumTells : Nat → Bool := fun i => false
def VC_blindstamplaw03_SumTells (g : Nat → AV) (x0 x1 : AV) (H : Heap) (Q : AV → Heap → Prop) : Prop :=
  doQ (qBuiltin env.P (Heap.get H) (⟨0, 9, Heap.gen H 0 9, 0⟩ : Ref) .len #[22] [x0]) fun v1 =>
  doQ (qBin env.P .gtr 3 (.tmp 9) (.const (.int .i64 10000)) (some v1) (some (.v (.int .i64 10000)))) fun v2 =>
  br (some v2) (
   Q (.v (.bool true)) H) (
   doW (appRes env.P true H (⟨0, 12, Heap.gen H 0 12, 0⟩ : Ref) (some 22) (some 22) (.v (.slice none 0 0)) x0) fun v3 H1 =>
   doW (bsRes env.P false true H1 (⟨0, 13, Heap.gen H1 0 13, 0⟩ : Ref) 22 3 (some [(0, (a8 1)), (1, (a8 2)), (2, (a8 3))])) fun v4 H2 =>
   doW (appRes env.P true H2 (⟨0, 14, Heap.gen H2 0 14, 0⟩ : Ref) (some 22) (some 22) v3 v4) fun v5 H3 =>
   doW (callRes env true (limf env) (limt env 0) H3 (⟨0, 16, Heap.gen H3 0 16, 0⟩ : Ref) (some (.fn (.func 11) [] [])) [x1]) fun v6 H4 =>
   doQ (qBuiltin env.P (Heap.get H4) (⟨0, 19, Heap.gen H4 0 19, 0⟩ : Ref) .len #[22] [x0]) fun v7 =>
   doQ (qSlice env.P (Heap.get H4) 22 (some v5) (some none) (oi v7) (some none)) fun v8 =>
   doW (callRes env false (limf env) (limt env 0) H4 (⟨0, 21, Heap.gen H4 0 21, 0⟩ : Ref) (some (.fn (.func 9) [] [])) [v8]) fun v9 H5 =>
   doW (callRes env false (limf env) (limt env 0) H5 (⟨0, 23, Heap.gen H5 0 23, 0⟩ : Ref) (some (.fn (.func 12) [] [])) [x0]) fun v10 H6 =>
   doQ (qBin env.P .eql 25 (.tmp 21) (.tmp 23) (some v9) (some v10)) fun v11 =>
   gQ v11 true (qVal (some v6)) fun v12 =>
   gQ v11 true (qConvert env.P (Heap.get H6) (⟨0, 27, Heap.gen H6 0 27, 0⟩ : Ref) 22 9 (some v12)) fun v13 =>
   gQ v11 true (qVal (some x1)) fun v14 =>
   gW v11 true H6 (callRes env false (limf env) (limt env 0) H6 (⟨0, 29, Heap.gen H6 0 29, 0⟩ : Ref) (some (.fn (.func 13) [] [])) [v14]) fun v15 H7 =>
   gQ v11 true (qConvert env.P (Heap.get H7) (⟨0, 30, Heap.gen H7 0 30, 0⟩ : Ref) 22 9 (some v15)) fun v16 =>
   gQ v11 true (qBin env.P .eql 9 (.tmp 27) (.tmp 30) (some v13) (some v16)) fun v17 =>
   doQ (pickF (some v11) (some v17) (some (.v (.bool false)))) fun v18 =>
   gQ v18 true (qVal (some v5)) fun v19 =>
   gQ v18 true (qVal (some x0)) fun v20 =>
   gQ v18 true (qBuiltin env.P (Heap.get H7) (⟨0, 36, Heap.gen H7 0 36, 0⟩ : Ref) .len #[22] [v20]) fun v21 =>
   gQ v18 true (qSlice env.P (Heap.get H7) 22 (some v19) (some none) (oi v21) (some none)) fun v22 =>
   gW v18 true H7 (callRes env false (limf env) (limt env 0) H7 (⟨0, 38, Heap.gen H7 0 38, 0⟩ : Ref) (some (.fn (.func 10) [] [])) [v22]) fun v23 H8 =>
   gQ v18 true (qVal (some x0)) fun v24 =>
   gW v18 true H8 (callRes env false (limf env) (limt env 0) H8 (⟨0, 40, Heap.gen H8 0 40, 0⟩ : Ref) (some (.fn (.func 14) [] [])) [v24]) fun v25 H9 =>
   gQ v18 true (qBin env.P .eql 4 (.tmp 38) (.tmp 40) (some v23) (some v25)) fun v26 =>
   doQ (pickF (some v18) (some v26) (some (.v (.bool false)))) fun v27 =>
   gQ v27 true (qVal (some v5)) fun v28 =>
   gQ v27 true (qConvert env.P (Heap.get H9) (⟨0, 46, Heap.gen H9 0 46, 0⟩ : Ref) 22 9 (some v28)) fun v29 =>
   gQ v27 true (qVal (some x0)) fun v30 =>
   gQ v27 true (qConvert env.P (Heap.get H9) (⟨0, 48, Heap.gen H9 0 48, 0⟩ : Ref) 22 9 (some v30)) fun v31 =>
   gQ v27 true (qBin env.P .add 9 (.tmp 48) (.const (.string ⟨#[1, 2, 3]⟩)) (some v31) (some (.v (.string ⟨#[1, 2, 3]⟩)))) fun v32 =>
   gQ v27 true (qBin env.P .eql 9 (.tmp 46) (.tmp 49) (some v29) (some v32)) fun v33 =>
   doQ (pickF (some v27) (some v33) (some (.v (.bool false)))) fun v34 =>
   Q v34 H9)
theorem vq_blindstamplaw03_SumTells : VC_blindstamplaw03_SumTells = fun g x0 x1 H Q => wp env Try.f6 0 lv_blindstamplaw03_SumTells cu_blindstamplaw03_SumTells Q 500 [.code bd_blindstamplaw03_SumTells] (ofL g [(0, x0), (1, x1)]) H := by kernel_rfl
theorem vc_blindstamplaw03_SumTells (x0 x1 : AV) (H : Heap) (Q : AV → Heap → Prop) (h : ∀ g, VC_blindstamplaw03_SumTells g x0 x1 H Q) : GoL env Try.f6 0 [.code bd_blindstamplaw03_SumTells] [(0, x0), (1, x1)] H Q := ⟨fun g => wp_ok (by have h := h g; rw [vq_blindstamplaw03_SumTells] at h; exact h)⟩

/- blindstamplaw03_SumSelf -/
noncomputable def bd_blindstamplaw03_SumSelf : Code := (Try.f7.body).getD .skip
def lv_blindstamplaw03_SumSelf : Nat → Option (List Nat) := fun i => none
def cu_blindstamplaw03_SumSelf : Nat → Bool := fun i => false
def VC_blindstamplaw03_SumSelf (g : Nat → AV) (x0 x1 : AV) (H : Heap) (Q : AV → Heap → Prop) : Prop :=
  doW (callRes env true (limf env) (limt env 0) H (⟨0, 9, Heap.gen H 0 9, 0⟩ : Ref) (some (.fn (.func 8) [] [])) []) fun v1 H1 =>
  doQ (qBuiltin env.P (Heap.get H1) (⟨0, 11, Heap.gen H1 0 11, 0⟩ : Ref) .len #[22] [x0]) fun v2 =>
  doQ (qBin env.P .gtr 3 (.tmp 11) (.const (.int .i64 10000)) (some v2) (some (.v (.int .i64 10000)))) fun v3 =>
  gQ v3 false (qVal (some v1)) fun v4 =>
  gQ v3 false (qUn env.P .not (some v4)) fun v5 =>
  doQ (pickF (some v3) (some (.v (.bool true))) (some v5)) fun v6 =>
  br (some v6) (
   Q v1 H1) (
   doW (callRes env true (limf env) (limt env 0) H1 (⟨0, 19, Heap.gen H1 0 19, 0⟩ : Ref) (some (.fn (.func 9) [] [])) [x0]) fun v7 H2 =>
   doW (appRes env.P true H2 (⟨0, 21, Heap.gen H2 0 21, 0⟩ : Ref) (some 22) (some 22) (.v (.slice none 0 0)) x0) fun v8 H3 =>
   doW (callRes env true (limf env) (limt env 0) H3 (⟨0, 23, Heap.gen H3 0 23, 0⟩ : Ref) (some (.fn (.func 11) [] [])) [v7]) fun v9 H4 =>
   doW (appRes env.P true H4 (⟨0, 24, Heap.gen H4 0 24, 0⟩ : Ref) (some 22) (some 22) v8 v9) fun v10 H5 =>
   doW (appRes env.P true H5 (⟨0, 26, Heap.gen H5 0 26, 0⟩ : Ref) (some 22) (some 22) (.v (.slice none 0 0)) x0) fun v11 H6 =>
   doW (callRes env true (limf env) (limt env 0) H6 (⟨0, 28, Heap.gen H6 0 28, 0⟩ : Ref) (some (.fn (.func 11) [] [])) [x1]) fun v12 H7 =>
   doW (appRes env.P true H7 (⟨0, 29, Heap.gen H7 0 29, 0⟩ : Ref) (some 22) (some 22) v11 v12) fun v13 H8 =>
   gQ v1 true (qVal (some v10)) fun v14 =>
   gW v1 true H8 (callRes env true (limf env) (limt env 0) H8 (⟨0, 33, Heap.gen H8 0 33, 0⟩ : Ref) (some (.fn (.func 9) [] [])) [v14]) fun v15 H9 =>
   gQ v1 true (qBin env.P .eql 25 (.tmp 33) (.const (.int .u32 0)) (some v15) (some (a32 0))) fun v16 =>
   doQ (pickF (some v1) (some v16) (some (.v (.bool false)))) fun v17 =>
   gQ v17 true (qVal (some v10)) fun v18 =>
   gW v17 true H9 (callRes env true (limf env) (limt env 0) H9 (⟨0, 38, Heap.gen H9 0 38, 0⟩ : Ref) (some (.fn (.func 10) [] [])) [v18]) fun v19 H10 =>
   doQ (pickF (some v17) (some v19) (some (.v (.bool false)))) fun v20 =>
   gQ v20 true (qVal (some v13)) fun v21 =>
   gW v20 true H10 (callRes env true (limf env) (limt env 0) H10 (⟨0, 42, Heap.gen H10 0 42, 0⟩ : Ref) (some (.fn (.func 10) [] [])) [v21]) fun v22 H11 =>
   gQ v20 true (qVal (some x1)) fun v23 =>
   gQ v20 true (qBin env.P .rem 25 (.tmp 43) (.const (.int .u32 16777216)) (some v23) (some (a32 16777216))) fun v24 =>
   gQ v20 true (qVal (some v7)) fun v25 =>
   gQ v20 true (qBin env.P .eql 25 (.tmp 44) (.tmp 45) (some v24) (some v25)) fun v26 =>
   gQ v20 true (qBin env.P .eql 4 (.tmp 42) (.tmp 46) (some v22) (some v26)) fun v27 =>
   doQ (pickF (some v20) (some v27) (some (.v (.bool false)))) fun v28 =>
   gQ v28 true (qVal (some v7)) fun v29 =>
   gQ v28 true (qBin env.P .lss 25 (.tmp 50) (.const (.int .u32 16777216)) (some v29) (some (a32 16777216))) fun v30 =>
   doQ (pickF (some v28) (some v30) (some (.v (.bool false)))) fun v31 =>
   Q v31 H11)
theorem vq_blindstamplaw03_SumSelf : VC_blindstamplaw03_SumSelf = fun g x0 x1 H Q => wp env Try.f7 0 lv_blindstamplaw03_SumSelf cu_blindstamplaw03_SumSelf Q 500 [.code bd_blindstamplaw03_SumSelf] (ofL g [(0, x0), (1, x1)]) H := by kernel_rfl
theorem vc_blindstamplaw03_SumSelf (x0 x1 : AV) (H : Heap) (Q : AV → Heap → Prop) (h : ∀ g, VC_blindstamplaw03_SumSelf g x0 x1 H Q) : GoL env Try.f7 0 [.code bd_blindstamplaw03_SumSelf] [(0, x0), (1, x1)] H Q := ⟨fun g => wp_ok (by have h := h g; rw [vq_blindstamplaw03_SumSelf] at h; exact h)⟩

end Go.Proofs.Ytfkpmldmmdkgoaa
