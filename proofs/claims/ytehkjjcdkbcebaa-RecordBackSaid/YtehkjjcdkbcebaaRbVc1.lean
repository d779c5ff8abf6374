/-
  What is to be shown of each function, computed from its code. No statement of a seat is proved here.
-/
import Derived.Test.YtehkjjcdkbcebaaRbTy
set_option linter.unusedVariables false
set_option maxRecDepth 1000000
namespace Go.Proofs.Ytehkjjcdkbcebaa
open Go.Ab
noncomputable def bd_ids_CheckHandle : Code := (Try.f62.body).getD .skip
def lv_ids_CheckHandle : Nat → Option (List Nat) := fun i => none
def cu_ids_CheckHandle : Nat → Bool := fun i => false
def VC_ids_CheckHandle (g : Nat → AV) (x0 : AV) (H : Heap) (Q : AV → Heap → Prop) : Prop :=
 doW (nRes H (⟨0, 1, Heap.gen H 0 1, 0⟩ : Ref) (qBox env.P (⟨0, 1, Heap.gen H 0 1, 0⟩ : Ref) 26 (some x0))) fun v1 H1 =>
 doQ (qFieldAddr env.P 26 (some v1) 0) fun v2 =>
 doQ (qLoad env.P (Heap.get H1) 24 (some v2)) fun v3 =>
 doW (callRes env true (limf env) (limt env 0) H1 (⟨0, 5, Heap.gen H1 0 5, 0⟩ : Ref) (some (.fn (.func 97) [] [])) [v3]) fun v4 H2 =>
 doQ (qBin env.P .eql 36 (.tmp 5) (.const (.int .i64 0)) (some v4) (some (.v (.int .i64 0)))) fun v5 =>
 gQ v5 true (qFieldAddr env.P 26 (some v1) 1) fun v6 =>
 gQ v5 true (qLoad env.P (Heap.get H2) 5 (some v6)) fun v7 =>
 gQ v5 true (qBin env.P .lss 5 (.tmp 9) (.const (.int .u8 8)) (some v7) (some (a8 8))) fun v8 =>
 doQ (pickF (some v5) (some v8) (some (.v (.bool false)))) fun v9 =>
 doW (callRes env true (limf env) (limt env 0) H2 (⟨0, 12, Heap.gen H2 0 12, 0⟩ : Ref) (some (.fn (.func 99) [] [])) [v9]) fun v10 H3 =>
 Q v10 H3
theorem vq_ids_CheckHandle : VC_ids_CheckHandle = fun g x0 H Q => wp env Try.f62 none 0 lv_ids_CheckHandle cu_ids_CheckHandle Q 500 [.code bd_ids_CheckHandle] (ofL g [(0, x0)]) H := by kernel_rfl
theorem vc_ids_CheckHandle (x0 : AV) (H : Heap) (Q : AV → Heap → Prop) (h : ∀ g, VC_ids_CheckHandle g x0 H Q) : GoL env Try.f62 0 [.code bd_ids_CheckHandle] [(0, x0)] H Q := ⟨fun g => wp_ok (by have h := h g; rw [vq_ids_CheckHandle] at h; exact h)⟩
noncomputable def bd_ids_CheckSpan : Code := (Try.f63.body).getD .skip
def lv_ids_CheckSpan : Nat → Option (List Nat) := fun i => none
def cu_ids_CheckSpan : Nat → Bool := fun i => false
def VC_ids_CheckSpan (g : Nat → AV) (x0 : AV) (H : Heap) (Q : AV → Heap → Prop) : Prop :=
 doW (nRes H (⟨0, 1, Heap.gen H 0 1, 0⟩ : Ref) (qBox env.P (⟨0, 1, Heap.gen H 0 1, 0⟩ : Ref) 30 (some x0))) fun v1 H1 =>
 doQ (qFieldAddr env.P 30 (some v1) 0) fun v2 =>
 doQ (qLoad env.P (Heap.get H1) 28 (some v2)) fun v3 =>
 doW (callRes env true (limf env) (limt env 0) H1 (⟨0, 5, Heap.gen H1 0 5, 0⟩ : Ref) (some (.fn (.func 84) [] [])) [v3]) fun v4 H2 =>
 doQ (qBin env.P .eql 36 (.tmp 5) (.const (.int .i64 0)) (some v4) (some (.v (.int .i64 0)))) fun v5 =>
 gQ v5 true (qFieldAddr env.P 30 (some v1) 1) fun v6 =>
 gQ v5 true (qLoad env.P (Heap.get H2) 3 (some v6)) fun v7 =>
 gQ v5 true (qBin env.P .geq 3 (.tmp 9) (.const (.int .i64 1)) (some v7) (some (.v (.int .i64 1)))) fun v8 =>
 doQ (pickF (some v5) (some v8) (some (.v (.bool false)))) fun v9 =>
 gQ v9 true (qFieldAddr env.P 30 (some v1) 1) fun v10 =>
 gQ v9 true (qLoad env.P (Heap.get H2) 3 (some v10)) fun v11 =>
 gQ v9 true (qBin env.P .leq 3 (.tmp 14) (.const (.int .i64 64)) (some v11) (some (.v (.int .i64 64)))) fun v12 =>
 doQ (pickF (some v9) (some v12) (some (.v (.bool false)))) fun v13 =>
 gQ v13 true (qFieldAddr env.P 30 (some v1) 0) fun v14 =>
 gQ v13 true (qFieldAddr env.P 28 (some v14) 1) fun v15 =>
 gQ v13 true (qLoad env.P (Heap.get H2) 3 (some v15)) fun v16 =>
 gQ v13 true (qFieldAddr env.P 30 (some v1) 1) fun v17 =>
 gQ v13 true (qLoad env.P (Heap.get H2) 3 (some v17)) fun v18 =>
 gQ v13 true (qBin env.P .add 3 (.tmp 20) (.tmp 22) (some v16) (some v18)) fun v19 =>
 gQ v13 true (qBin env.P .sub 3 (.tmp 23) (.const (.int .i64 1)) (some v19) (some (.v (.int .i64 1)))) fun v20 =>
 gQ v13 true (qBin env.P .leq 3 (.tmp 24) (.const (.int .i64 1099511627776)) (some v20) (some (.v (.int .i64 1099511627776)))) fun v21 =>
 doQ (pickF (some v13) (some v21) (some (.v (.bool false)))) fun v22 =>
 doW (callRes env true (limf env) (limt env 0) H2 (⟨0, 27, Heap.gen H2 0 27, 0⟩ : Ref) (some (.fn (.func 99) [] [])) [v22]) fun v23 H3 =>
 Q v23 H3
theorem vq_ids_CheckSpan : VC_ids_CheckSpan = fun g x0 H Q => wp env Try.f63 none 0 lv_ids_CheckSpan cu_ids_CheckSpan Q 500 [.code bd_ids_CheckSpan] (ofL g [(0, x0)]) H := by kernel_rfl
theorem vc_ids_CheckSpan (x0 : AV) (H : Heap) (Q : AV → Heap → Prop) (h : ∀ g, VC_ids_CheckSpan g x0 H Q) : GoL env Try.f63 0 [.code bd_ids_CheckSpan] [(0, x0)] H Q := ⟨fun g => wp_ok (by have h := h g; rw [vq_ids_CheckSpan] at h; exact h)⟩
noncomputable def bd_slices_Equal___int32_int32_ : Code := (Try.f71.body).getD .skip
noncomputable def hd_slices_Equal___int32_int32__4 : List Item := (findLoop 4 400 [.code bd_slices_Equal___int32_int32_]).getD []
def lv_slices_Equal___int32_int32_ : Nat → Option (List Nat) := fun i => cond (Nat.beq i 4) (some [13, 1, 0, 12]) (none)
def cu_slices_Equal___int32_int32_ : Nat → Bool := fun i => false
def VC_slices_Equal___int32_int32_ (g : Nat → AV) (x0 x1 : AV) (H : Heap) (Q : AV → Heap → Prop) : Prop :=
 doQ (qBuiltin env.P false (Heap.get H) (⟨0, 7, Heap.gen H 0 7, 0⟩ : Ref) .len #[31] [x0]) fun v1 =>
 doQ (qBuiltin env.P false (Heap.get H) (⟨0, 9, Heap.gen H 0 9, 0⟩ : Ref) .len #[31] [x1]) fun v2 =>
 doQ (qBin env.P .neq 3 (.tmp 7) (.tmp 9) (some v1) (some v2)) fun v3 =>
 br (some v3) (
 Q (.v (.bool false)) H) (
 doQ (qBuiltin env.P false (Heap.get H) (⟨0, 12, Heap.gen H 0 12, 0⟩ : Ref) .len #[31] [x0]) fun v4 =>
   GoL env Try.f71 0 hd_slices_Equal___int32_int32__4 [(13, (.v (.int .i64 0))), (1, x1), (0, x0), (12, v4)] H Q)
theorem vq_slices_Equal___int32_int32_ : VC_slices_Equal___int32_int32_ = fun g x0 x1 H Q => wp env Try.f71 none 0 lv_slices_Equal___int32_int32_ cu_slices_Equal___int32_int32_ Q 500 [.code bd_slices_Equal___int32_int32_] (ofL g [(0, x0), (1, x1)]) H := by kernel_rfl
theorem vc_slices_Equal___int32_int32_ (x0 x1 : AV) (H : Heap) (Q : AV → Heap → Prop) (h : ∀ g, VC_slices_Equal___int32_int32_ g x0 x1 H Q) : GoL env Try.f71 0 [.code bd_slices_Equal___int32_int32_] [(0, x0), (1, x1)] H Q := ⟨fun g => wp_ok (by have h := h g; rw [vq_slices_Equal___int32_int32_] at h; exact h)⟩
def VC_slices_Equal___int32_int32__4 (g : Nat → AV) (x13 x1 x0 x12 : AV) (H : Heap) (Q : AV → Heap → Prop) : Prop :=
 doQ (qBin env.P .lss 3 (.tmp 13) (.tmp 12) (some x13) (some x12)) fun v1 =>
 br (some v1) (
 doQ (qIndexAddr env.P (Heap.get H) 31 (some x0) (some x13)) fun v2 =>
 doQ (qLoad env.P (Heap.get H) 21 (some v2)) fun v3 =>
 doQ (qIndexAddr env.P (Heap.get H) 31 (some x1) (some x13)) fun v4 =>
 doQ (qLoad env.P (Heap.get H) 21 (some v4)) fun v5 =>
 doQ (qBin env.P .neq 21 (.tmp 19) (.tmp 23) (some v3) (some v5)) fun v6 =>
 br (some v6) (
 Q (.v (.bool false)) H) (
 doQ (qBin env.P .add 3 (.tmp 13) (.const (.int .i64 1)) (some x13) (some (.v (.int .i64 1)))) fun v7 =>
    GoL env Try.f71 0 hd_slices_Equal___int32_int32__4 [(13, v7), (1, x1), (0, x0), (12, x12)] H Q)) (
 Q (.v (.bool true)) H)
theorem vq_slices_Equal___int32_int32__4 : VC_slices_Equal___int32_int32__4 = fun g x13 x1 x0 x12 H Q => wp env Try.f71 none 0 lv_slices_Equal___int32_int32_ cu_slices_Equal___int32_int32_ Q 500 (bodyOf hd_slices_Equal___int32_int32__4) (ofL g [(13, x13), (1, x1), (0, x0), (12, x12)]) H := by kernel_rfl
theorem vc_slices_Equal___int32_int32__4 (x13 x1 x0 x12 : AV) (H : Heap) (Q : AV → Heap → Prop) (h : ∀ g, VC_slices_Equal___int32_int32__4 g x13 x1 x0 x12 H Q) : GoL env Try.f71 0 hd_slices_Equal___int32_int32__4 [(13, x13), (1, x1), (0, x0), (12, x12)] H Q := goL_body fun g => wp_ok (by have h := h g; rw [vq_slices_Equal___int32_int32__4] at h; exact h)
noncomputable def bd_ids_Check : Code := (Try.f84.body).getD .skip
def lv_ids_Check : Nat → Option (List Nat) := fun i => none
def cu_ids_Check : Nat → Bool := fun i => false
def VC_ids_Check (g : Nat → AV) (x0 : AV) (H : Heap) (Q : AV → Heap → Prop) : Prop :=
 doW (nRes H (⟨0, 1, Heap.gen H 0 1, 0⟩ : Ref) (qBox env.P (⟨0, 1, Heap.gen H 0 1, 0⟩ : Ref) 28 (some x0))) fun v1 H1 =>
 doQ (qFieldAddr env.P 28 (some v1) 0) fun v2 =>
 doQ (qLoad env.P (Heap.get H1) 26 (some v2)) fun v3 =>
 doW (callRes env true (limf env) (limt env 0) H1 (⟨0, 5, Heap.gen H1 0 5, 0⟩ : Ref) (some (.fn (.func 62) [] [])) [v3]) fun v4 H2 =>
 doQ (qBin env.P .eql 36 (.tmp 5) (.const (.int .i64 0)) (some v4) (some (.v (.int .i64 0)))) fun v5 =>
 gQ v5 true (qFieldAddr env.P 28 (some v1) 1) fun v6 =>
 gQ v5 true (qLoad env.P (Heap.get H2) 3 (some v6)) fun v7 =>
 gQ v5 true (qBin env.P .geq 3 (.tmp 9) (.const (.int .i64 1)) (some v7) (some (.v (.int .i64 1)))) fun v8 =>
 doQ (pickF (some v5) (some v8) (some (.v (.bool false)))) fun v9 =>
 gQ v9 true (qFieldAddr env.P 28 (some v1) 1) fun v10 =>
 gQ v9 true (qLoad env.P (Heap.get H2) 3 (some v10)) fun v11 =>
 gQ v9 true (qBin env.P .leq 3 (.tmp 14) (.const (.int .i64 1099511627776)) (some v11) (some (.v (.int .i64 1099511627776)))) fun v12 =>
 doQ (pickF (some v9) (some v12) (some (.v (.bool false)))) fun v13 =>
 doW (callRes env true (limf env) (limt env 0) H2 (⟨0, 17, Heap.gen H2 0 17, 0⟩ : Ref) (some (.fn (.func 99) [] [])) [v13]) fun v14 H3 =>
 Q v14 H3
theorem vq_ids_Check : VC_ids_Check = fun g x0 H Q => wp env Try.f84 none 0 lv_ids_Check cu_ids_Check Q 500 [.code bd_ids_Check] (ofL g [(0, x0)]) H := by kernel_rfl
theorem vc_ids_Check (x0 : AV) (H : Heap) (Q : AV → Heap → Prop) (h : ∀ g, VC_ids_Check g x0 H Q) : GoL env Try.f84 0 [.code bd_ids_Check] [(0, x0)] H Q := ⟨fun g => wp_ok (by have h := h g; rw [vq_ids_Check] at h; exact h)⟩
noncomputable def bd_runes_Check : Code := (Try.f86.body).getD .skip
def lv_runes_Check : Nat → Option (List Nat) := fun i => none
def cu_runes_Check : Nat → Bool := fun i => false
def VC_runes_Check (g : Nat → AV) (x0 : AV) (H : Heap) (Q : AV → Heap → Prop) : Prop :=
 doQ (qBuiltin env.P false (Heap.get H) (⟨0, 6, Heap.gen H 0 6, 0⟩ : Ref) .len #[31] [x0]) fun v1 =>
 doQ (qBin env.P .gtr 3 (.tmp 6) (.const (.int .i64 64)) (some v1) (some (.v (.int .i64 64)))) fun v2 =>
 br (some v2) (
 Q (.v (.int .i64 4)) H) (
 doW (callRes env true (limf env) (limt env 0) H (⟨0, 11, Heap.gen H 0 11, 0⟩ : Ref) (some (.fn (.func 132) [] [])) [x0, (.fn (.func 130) [] [])]) fun v3 H1 =>
 br (some v3) (
 Q (.v (.int .i64 8)) H1) (
 Q (.v (.int .i64 0)) H1))
theorem vq_runes_Check : VC_runes_Check = fun g x0 H Q => wp env Try.f86 none 0 lv_runes_Check cu_runes_Check Q 500 [.code bd_runes_Check] (ofL g [(0, x0)]) H := by kernel_rfl
theorem vc_runes_Check (x0 : AV) (H : Heap) (Q : AV → Heap → Prop) (h : ∀ g, VC_runes_Check g x0 H Q) : GoL env Try.f86 0 [.code bd_runes_Check] [(0, x0)] H Q := ⟨fun g => wp_ok (by have h := h g; rw [vq_runes_Check] at h; exact h)⟩
noncomputable def bd_label_Check : Code := (Try.f97.body).getD .skip
def lv_label_Check : Nat → Option (List Nat) := fun i => none
def cu_label_Check : Nat → Bool := fun i => false
def VC_label_Check (g : Nat → AV) (x0 : AV) (H : Heap) (Q : AV → Heap → Prop) : Prop :=
 doW (nRes H (⟨0, 1, Heap.gen H 0 1, 0⟩ : Ref) (qBox env.P (⟨0, 1, Heap.gen H 0 1, 0⟩ : Ref) 24 (some x0))) fun v1 H1 =>
 doQ (qFieldAddr env.P 24 (some v1) 0) fun v2 =>
 doQ (qLoad env.P (Heap.get H1) 5 (some v2)) fun v3 =>
 doQ (qBin env.P .gtr 5 (.tmp 4) (.const (.int .u8 15)) (some v3) (some (a8 15))) fun v4 =>
 br (some v4) (
 Q (.v (.int .i64 8)) H1) (
 Q (.v (.int .i64 0)) H1)
theorem vq_label_Check : VC_label_Check = fun g x0 H Q => wp env Try.f97 none 0 lv_label_Check cu_label_Check Q 500 [.code bd_label_Check] (ofL g [(0, x0)]) H := by kernel_rfl
theorem vc_label_Check (x0 : AV) (H : Heap) (Q : AV → Heap → Prop) (h : ∀ g, VC_label_Check g x0 H Q) : GoL env Try.f97 0 [.code bd_label_Check] [(0, x0)] H Q := ⟨fun g => wp_ok (by have h := h g; rw [vq_label_Check] at h; exact h)⟩
noncomputable def bd_ids_right : Code := (Try.f99.body).getD .skip
def lv_ids_right : Nat → Option (List Nat) := fun i => none
def cu_ids_right : Nat → Bool := fun i => false
def VC_ids_right (g : Nat → AV) (x0 : AV) (H : Heap) (Q : AV → Heap → Prop) : Prop :=
 br (some x0) (
 Q (.v (.int .i64 0)) H) (
 Q (.v (.int .i64 8)) H)
theorem vq_ids_right : VC_ids_right = fun g x0 H Q => wp env Try.f99 none 0 lv_ids_right cu_ids_right Q 500 [.code bd_ids_right] (ofL g [(0, x0)]) H := by kernel_rfl
theorem vc_ids_right (x0 : AV) (H : Heap) (Q : AV → Heap → Prop) (h : ∀ g, VC_ids_right g x0 H Q) : GoL env Try.f99 0 [.code bd_ids_right] [(0, x0)] H Q := ⟨fun g => wp_ok (by have h := h g; rw [vq_ids_right] at h; exact h)⟩
noncomputable def bd_runes_CheckF1 : Code := (Try.f130.body).getD .skip
def lv_runes_CheckF1 : Nat → Option (List Nat) := fun i => none
def cu_runes_CheckF1 : Nat → Bool := fun i => false
def VC_runes_CheckF1 (g : Nat → AV) (x0 : AV) (H : Heap) (Q : AV → Heap → Prop) : Prop :=
 doQ (qBin env.P .neq 21 (.tmp 3) (.const (.int .i32 (-1))) (some x0) (some (.v (.int .i32 (-1))))) fun v1 =>
 gQ v1 true (qVal (some x0)) fun v2 =>
 gW v1 true H (callRes env true (limf env) (limt env 0) H (⟨0, 7, Heap.gen H 0 7, 0⟩ : Ref) (some (.fn (.func 131) [] [])) [v2]) fun v3 H1 =>
 gQ v1 true (qUn env.P .not (some v3)) fun v4 =>
 doQ (pickF (some v1) (some v4) (some (.v (.bool false)))) fun v5 =>
 Q v5 H1
theorem vq_runes_CheckF1 : VC_runes_CheckF1 = fun g x0 H Q => wp env Try.f130 none 0 lv_runes_CheckF1 cu_runes_CheckF1 Q 500 [.code bd_runes_CheckF1] (ofL g [(0, x0)]) H := by kernel_rfl
theorem vc_runes_CheckF1 (x0 : AV) (H : Heap) (Q : AV → Heap → Prop) (h : ∀ g, VC_runes_CheckF1 g x0 H Q) : GoL env Try.f130 0 [.code bd_runes_CheckF1] [(0, x0)] H Q := ⟨fun g => wp_ok (by have h := h g; rw [vq_runes_CheckF1] at h; exact h)⟩
noncomputable def bd_unicode_utf8_ValidRune : Code := (Try.f131.body).getD .skip
def lv_unicode_utf8_ValidRune : Nat → Option (List Nat) := fun i => none
def cu_unicode_utf8_ValidRune : Nat → Bool := fun i => false
def VC_unicode_utf8_ValidRune (g : Nat → AV) (x0 : AV) (H : Heap) (Q : AV → Heap → Prop) : Prop :=
 doQ (qBin env.P .leq 21 (.const (.int .i32 0)) (.tmp 4) (some (.v (.int .i32 0))) (some x0)) fun v1 =>
 gQ v1 true (qVal (some x0)) fun v2 =>
 gQ v1 true (qBin env.P .lss 21 (.tmp 7) (.const (.int .i32 55296)) (some v2) (some (.v (.int .i32 55296)))) fun v3 =>
 doQ (pickF (some v1) (some v3) (some (.v (.bool false)))) fun v4 =>
 br (some v4) (
 Q (.v (.bool true)) H) (
 doQ (qBin env.P .lss 21 (.const (.int .i32 57343)) (.tmp 11) (some (.v (.int .i32 57343))) (some x0)) fun v5 =>
 gQ v5 true (qVal (some x0)) fun v6 =>
 gQ v5 true (qBin env.P .leq 21 (.tmp 14) (.const (.int .i32 1114111)) (some v6) (some (.v (.int .i32 1114111)))) fun v7 =>
 doQ (pickF (some v5) (some v7) (some (.v (.bool false)))) fun v8 =>
 br (some v8) (
 Q (.v (.bool true)) H) (
 Q (.v (.bool false)) H))
theorem vq_unicode_utf8_ValidRune : VC_unicode_utf8_ValidRune = fun g x0 H Q => wp env Try.f131 none 0 lv_unicode_utf8_ValidRune cu_unicode_utf8_ValidRune Q 500 [.code bd_unicode_utf8_ValidRune] (ofL g [(0, x0)]) H := by kernel_rfl
theorem vc_unicode_utf8_ValidRune (x0 : AV) (H : Heap) (Q : AV → Heap → Prop) (h : ∀ g, VC_unicode_utf8_ValidRune g x0 H Q) : GoL env Try.f131 0 [.code bd_unicode_utf8_ValidRune] [(0, x0)] H Q := ⟨fun g => wp_ok (by have h := h g; rw [vq_unicode_utf8_ValidRune] at h; exact h)⟩
noncomputable def bd_slices_ContainsFunc___int32_rune_ : Code := (Try.f132.body).getD .skip
def lv_slices_ContainsFunc___int32_rune_ : Nat → Option (List Nat) := fun i => none
def cu_slices_ContainsFunc___int32_rune_ : Nat → Bool := fun i => false
def VC_slices_ContainsFunc___int32_rune_ (g : Nat → AV) (x0 x1 : AV) (H : Heap) (Q : AV → Heap → Prop) : Prop :=
 doW (callRes env true (limf env) (limt env 0) H (⟨0, 7, Heap.gen H 0 7, 0⟩ : Ref) (some (.fn (.func 136) [] [])) [x0, x1]) fun v1 H1 =>
 doQ (qBin env.P .geq 3 (.tmp 7) (.const (.int .i64 0)) (some v1) (some (.v (.int .i64 0)))) fun v2 =>
 Q v2 H1
theorem vq_slices_ContainsFunc___int32_rune_ : VC_slices_ContainsFunc___int32_rune_ = fun g x0 x1 H Q => wp env Try.f132 none 0 lv_slices_ContainsFunc___int32_rune_ cu_slices_ContainsFunc___int32_rune_ Q 500 [.code bd_slices_ContainsFunc___int32_rune_] (ofL g [(0, x0), (1, x1)]) H := by kernel_rfl
theorem vc_slices_ContainsFunc___int32_rune_ (x0 x1 : AV) (H : Heap) (Q : AV → Heap → Prop) (h : ∀ g, VC_slices_ContainsFunc___int32_rune_ g x0 x1 H Q) : GoL env Try.f132 0 [.code bd_slices_ContainsFunc___int32_rune_] [(0, x0), (1, x1)] H Q := ⟨fun g => wp_ok (by have h := h g; rw [vq_slices_ContainsFunc___int32_rune_] at h; exact h)⟩
noncomputable def bd_slices_IndexFunc___int32_rune_ : Code := (Try.f136.body).getD .skip
noncomputable def hd_slices_IndexFunc___int32_rune__2 : List Item := (findLoop 2 400 [.code bd_slices_IndexFunc___int32_rune_]).getD []
def lv_slices_IndexFunc___int32_rune_ : Nat → Option (List Nat) := fun i => cond (Nat.beq i 2) (some [8, 0, 1, 7]) (none)
def cu_slices_IndexFunc___int32_rune_ : Nat → Bool := fun i => false
def VC_slices_IndexFunc___int32_rune_ (g : Nat → AV) (x0 x1 : AV) (H : Heap) (Q : AV → Heap → Prop) : Prop :=
 doQ (qBuiltin env.P false (Heap.get H) (⟨0, 7, Heap.gen H 0 7, 0⟩ : Ref) .len #[31] [x0]) fun v1 =>
  GoL env Try.f136 0 hd_slices_IndexFunc___int32_rune__2 [(8, (.v (.int .i64 0))), (0, x0), (1, x1), (7, v1)] H Q
theorem vq_slices_IndexFunc___int32_rune_ : VC_slices_IndexFunc___int32_rune_ = fun g x0 x1 H Q => wp env Try.f136 none 0 lv_slices_IndexFunc___int32_rune_ cu_slices_IndexFunc___int32_rune_ Q 500 [.code bd_slices_IndexFunc___int32_rune_] (ofL g [(0, x0), (1, x1)]) H := by kernel_rfl
theorem vc_slices_IndexFunc___int32_rune_ (x0 x1 : AV) (H : Heap) (Q : AV → Heap → Prop) (h : ∀ g, VC_slices_IndexFunc___int32_rune_ g x0 x1 H Q) : GoL env Try.f136 0 [.code bd_slices_IndexFunc___int32_rune_] [(0, x0), (1, x1)] H Q := ⟨fun g => wp_ok (by have h := h g; rw [vq_slices_IndexFunc___int32_rune_] at h; exact h)⟩
def VC_slices_IndexFunc___int32_rune__2 (g : Nat → AV) (x8 x0 x1 x7 : AV) (H : Heap) (Q : AV → Heap → Prop) : Prop :=
 doQ (qBin env.P .lss 3 (.tmp 8) (.tmp 7) (some x8) (some x7)) fun v1 =>
 br (some v1) (
 doQ (qIndexAddr env.P (Heap.get H) 31 (some x0) (some x8)) fun v2 =>
 doQ (qLoad env.P (Heap.get H) 21 (some v2)) fun v3 =>
 doW (callRes env true (limf env) (limt env 0) H (⟨0, 16, Heap.gen H 0 16, 0⟩ : Ref) (some x1) [v3]) fun v4 H1 =>
 br (some v4) (
 Q x8 H1) (
 doQ (qBin env.P .add 3 (.tmp 8) (.const (.int .i64 1)) (some x8) (some (.v (.int .i64 1)))) fun v5 =>
    GoL env Try.f136 0 hd_slices_IndexFunc___int32_rune__2 [(8, v5), (0, x0), (1, x1), (7, x7)] H1 Q)) (
 Q (.v (.int .i64 (-1))) H)
theorem vq_slices_IndexFunc___int32_rune__2 : VC_slices_IndexFunc___int32_rune__2 = fun g x8 x0 x1 x7 H Q => wp env Try.f136 none 0 lv_slices_IndexFunc___int32_rune_ cu_slices_IndexFunc___int32_rune_ Q 500 (bodyOf hd_slices_IndexFunc___int32_rune__2) (ofL g [(8, x8), (0, x0), (1, x1), (7, x7)]) H := by kernel_rfl
theorem vc_slices_IndexFunc___int32_rune__2 (x8 x0 x1 x7 : AV) (H : Heap) (Q : AV → Heap → Prop) (h : ∀ g, VC_slices_IndexFunc___int32_rune__2 g x8 x0 x1 x7 H Q) : GoL env Try.f136 0 hd_slices_IndexFunc___int32_rune__2 [(8, x8), (0, x0), (1, x1), (7, x7)] H Q := goL_body fun g => wp_ok (by have h := h g; rw [vq_slices_IndexFunc___int32_rune__2] at h; exact h)
noncomputable def bd_ids_number : Code := (Try.f83.body).getD .skip
noncomputable def hd_ids_number_2 : List Item := (findLoop 2 400 [.code bd_ids_number]).getD []
def lv_ids_number : Nat → Option (List Nat) := fun i => cond (Nat.beq i 2) (some [5, 0, 4]) (none)
def cu_ids_number : Nat → Bool := fun i => false
def VC_ids_number (g : Nat → AV) (x0 x1 : AV) (H : Heap) (Q : AV → Heap → Prop) : Prop :=
 doQ (qBin env.P .sub 3 (.tmp 6) (.const (.int .i64 1)) (some x1) (some (.v (.int .i64 1)))) fun v1 =>
  GoL env Try.f83 0 hd_ids_number_2 [(5, v1), (0, x0), (4, (.v (.slice none 0 0)))] H Q
theorem vq_ids_number : VC_ids_number = fun g x0 x1 H Q => wp env Try.f83 none 0 lv_ids_number cu_ids_number Q 500 [.code bd_ids_number] (ofL g [(0, x0), (1, x1)]) H := by kernel_rfl
theorem vc_ids_number (x0 x1 : AV) (H : Heap) (Q : AV → Heap → Prop) (h : ∀ g, VC_ids_number g x0 x1 H Q) : GoL env Try.f83 0 [.code bd_ids_number] [(0, x0), (1, x1)] H Q := ⟨fun g => wp_ok (by have h := h g; rw [vq_ids_number] at h; exact h)⟩
def VC_ids_number_2 (g : Nat → AV) (x5 x0 x4 : AV) (H : Heap) (Q : AV → Heap → Prop) : Prop :=
 doQ (qBin env.P .geq 3 (.tmp 8) (.const (.int .i64 0)) (some x5) (some (.v (.int .i64 0)))) fun v1 =>
 br (some v1) (
 doQ (qBin env.P .mul 3 (.const (.int .i64 8)) (.tmp 14) (some (.v (.int .i64 8))) (some x5)) fun v2 =>
 doQ (qBin env.P .shr 3 (.tmp 13) (.tmp 15) (some x0) (some v2)) fun v3 =>
 doQ (qConvert env.P (Heap.get H) (⟨0, 17, Heap.gen H 0 17, 0⟩ : Ref) 3 5 (some v3)) fun v4 =>
 doW (bsRes env.P false true H (⟨0, 18, Heap.gen H 0 18, 0⟩ : Ref) 34 1 (some [(0, v4)])) fun v5 H1 =>
 doW (appRes env.P true H1 (⟨0, 19, Heap.gen H1 0 19, 0⟩ : Ref) (some 34) (some 34) x4 v5) fun v6 H2 =>
 doQ (qBin env.P .sub 3 (.tmp 10) (.const (.int .i64 1)) (some x5) (some (.v (.int .i64 1)))) fun v7 =>
   GoL env Try.f83 0 hd_ids_number_2 [(5, v7), (0, x0), (4, v6)] H2 Q) (
 Q x4 H)
theorem vq_ids_number_2 : VC_ids_number_2 = fun g x5 x0 x4 H Q => wp env Try.f83 none 0 lv_ids_number cu_ids_number Q 500 (bodyOf hd_ids_number_2) (ofL g [(5, x5), (0, x0), (4, x4)]) H := by kernel_rfl
theorem vc_ids_number_2 (x5 x0 x4 : AV) (H : Heap) (Q : AV → Heap → Prop) (h : ∀ g, VC_ids_number_2 g x5 x0 x4 H Q) : GoL env Try.f83 0 hd_ids_number_2 [(5, x5), (0, x0), (4, x4)] H Q := goL_body fun g => wp_ok (by have h := h g; rw [vq_ids_number_2] at h; exact h)
noncomputable def bd_ids_read : Code := (Try.f133.body).getD .skip
noncomputable def hd_ids_read_2 : List Item := (findLoop 2 400 [.code bd_ids_read]).getD []
def lv_ids_read : Nat → Option (List Nat) := fun i => cond (Nat.beq i 2) (some [7, 2, 5, 6]) (none)
def cu_ids_read : Nat → Bool := fun i => false
def VC_ids_read (g : Nat → AV) (x0 : AV) (H : Heap) (Q : AV → Heap → Prop) : Prop :=
 doQ (qBuiltin env.P false (Heap.get H) (⟨0, 6, Heap.gen H 0 6, 0⟩ : Ref) .len #[34] [x0]) fun v1 =>
  GoL env Try.f133 0 hd_ids_read_2 [(7, (.v (.int .i64 0))), (2, (.v (.int .i64 0))), (5, x0), (6, v1)] H Q
theorem vq_ids_read : VC_ids_read = fun g x0 H Q => wp env Try.f133 none 0 lv_ids_read cu_ids_read Q 500 [.code bd_ids_read] (ofL g [(0, x0)]) H := by kernel_rfl
theorem vc_ids_read (x0 : AV) (H : Heap) (Q : AV → Heap → Prop) (h : ∀ g, VC_ids_read g x0 H Q) : GoL env Try.f133 0 [.code bd_ids_read] [(0, x0)] H Q := ⟨fun g => wp_ok (by have h := h g; rw [vq_ids_read] at h; exact h)⟩
def VC_ids_read_2 (g : Nat → AV) (x7 x2 x5 x6 : AV) (H : Heap) (Q : AV → Heap → Prop) : Prop :=
 doQ (qBin env.P .lss 3 (.tmp 7) (.tmp 6) (some x7) (some x6)) fun v1 =>
 br (some v1) (
 doQ (qIndexAddr env.P (Heap.get H) 34 (some x5) (some x7)) fun v2 =>
 doQ (qLoad env.P (Heap.get H) 5 (some v2)) fun v3 =>
 doQ (qBin env.P .shl 3 (.tmp 11) (.const (.int .u64 8)) (some x2) (some (.v (.int .u64 8)))) fun v4 =>
 doQ (qConvert env.P (Heap.get H) (⟨0, 14, Heap.gen H 0 14, 0⟩ : Ref) 5 3 (some v3)) fun v5 =>
 doQ (qBin env.P .or 3 (.tmp 12) (.tmp 14) (some v4) (some v5)) fun v6 =>
 doQ (qBin env.P .add 3 (.tmp 7) (.const (.int .i64 1)) (some x7) (some (.v (.int .i64 1)))) fun v7 =>
   GoL env Try.f133 0 hd_ids_read_2 [(7, v7), (2, v6), (5, x5), (6, x6)] H Q) (
 Q x2 H)
theorem vq_ids_read_2 : VC_ids_read_2 = fun g x7 x2 x5 x6 H Q => wp env Try.f133 none 0 lv_ids_read cu_ids_read Q 500 (bodyOf hd_ids_read_2) (ofL g [(7, x7), (2, x2), (5, x5), (6, x6)]) H := by kernel_rfl
theorem vc_ids_read_2 (x7 x2 x5 x6 : AV) (H : Heap) (Q : AV → Heap → Prop) (h : ∀ g, VC_ids_read_2 g x7 x2 x5 x6 H Q) : GoL env Try.f133 0 hd_ids_read_2 [(7, x7), (2, x2), (5, x5), (6, x6)] H Q := goL_body fun g => wp_ok (by have h := h g; rw [vq_ids_read_2] at h; exact h)
noncomputable def bd_ids_named : Code := (Try.f88.body).getD .skip
def lv_ids_named : Nat → Option (List Nat) := fun i => none
def cu_ids_named : Nat → Bool := fun i => false
def VC_ids_named (g : Nat → AV) (x0 : AV) (H : Heap) (Q : AV → Heap → Prop) : Prop :=
 doW (nRes H (⟨0, 2, Heap.gen H 0 2, 0⟩ : Ref) (qAlloc env.P (⟨0, 2, Heap.gen H 0 2, 0⟩ : Ref) 153)) fun v1 H1 =>
 doQ (qIndexAddr env.P (Heap.get H1) 34 (some x0) (some (.v (.int .i64 0)))) fun v2 =>
 doQ (qLoad env.P (Heap.get H1) 5 (some v2)) fun v3 =>
 doQ (qSlice env.P (Heap.get H1) 34 (some x0) (oi (.v (.int .i64 1))) (oi (.v (.int .i64 5))) (some none)) fun v4 =>
 doW (callRes env false (limf env) (limt env 0) H1 (⟨0, 9, Heap.gen H1 0 9, 0⟩ : Ref) (some (.fn (.func 133) [] [])) [v4]) fun v5 H2 =>
 doQ (qConvert env.P (Heap.get H2) (⟨0, 10, Heap.gen H2 0 10, 0⟩ : Ref) 3 22 (some v5)) fun v6 =>
 doQ (qBuild env.P 24 (some [(0, v3), (1, v6)])) fun v7 =>
 doQ (qIndexAddr env.P (Heap.get H2) 34 (some x0) (some (.v (.int .i64 5)))) fun v8 =>
 doQ (qLoad env.P (Heap.get H2) 5 (some v8)) fun v9 =>
 doQ (qBuild env.P 26 (some [(0, v7), (1, v9)])) fun v10 =>
 doQ (qBuild env.P 153 (some [(0, v10)])) fun v11 =>
 doW (nRes H2 (⟨0, 3, Heap.gen H2 0 3, 0⟩ : Ref) (qAlloc env.P (⟨0, 3, Heap.gen H2 0 3, 0⟩ : Ref) 153)) fun v12 H3 =>
 doW (wStore env.P H3 153 (some v12) (some v11)) fun v13 H4 =>
 doQ (qFieldAddr env.P 153 (some v12) 0) fun v14 =>
 doQ (qLoad env.P (Heap.get H4) 26 (some v14)) fun v15 =>
 doW (callRes env true (limf env) (limt env 0) H4 (⟨0, 19, Heap.gen H4 0 19, 0⟩ : Ref) (some (.fn (.func 62) [] [])) [v15]) fun v16 H5 =>
 doQ (qFieldAddr env.P 153 (some v12) 1) fun v17 =>
 doW (wStore env.P H5 36 (some v17) (some v16)) fun v18 H6 =>
 doQ (qLoad env.P (Heap.get H6) 153 (some v12)) fun v19 =>
 doW (wStore env.P H6 153 (some v1) (some v19)) fun v20 H7 =>
 doQ (readCell env.P H7 v1 153) fun v21 =>
 Q v21 H7
theorem vq_ids_named : VC_ids_named = fun g x0 H Q => wp env Try.f88 none 0 lv_ids_named cu_ids_named Q 500 [.code bd_ids_named] (ofL g [(0, x0)]) H := by kernel_rfl
theorem vc_ids_named (x0 : AV) (H : Heap) (Q : AV → Heap → Prop) (h : ∀ g, VC_ids_named g x0 H Q) : GoL env Try.f88 0 [.code bd_ids_named] [(0, x0)] H Q := ⟨fun g => wp_ok (by have h := h g; rw [vq_ids_named] at h; exact h)⟩
noncomputable def bd_ids_GetHandle : Code := (Try.f57.body).getD .skip
def lv_ids_GetHandle : Nat → Option (List Nat) := fun i => none
def cu_ids_GetHandle : Nat → Bool := fun i => false
def VC_ids_GetHandle (g : Nat → AV) (x0 : AV) (H : Heap) (Q : AV → Heap → Prop) : Prop :=
 doW (nRes H (⟨0, 2, Heap.gen H 0 2, 0⟩ : Ref) (qAlloc env.P (⟨0, 2, Heap.gen H 0 2, 0⟩ : Ref) 26)) fun v1 H1 =>
 doQ (qBuiltin env.P false (Heap.get H1) (⟨0, 6, Heap.gen H1 0 6, 0⟩ : Ref) .len #[34] [x0]) fun v2 =>
 doQ (qBin env.P .neq 3 (.tmp 6) (.const (.int .i64 6)) (some v2) (some (.v (.int .i64 6)))) fun v3 =>
 br (some v3) (
 doQ (qBuild env.P 26 (some [])) fun v4 =>
 doW (wStore env.P H1 26 (some v1) (some v4)) fun v5 H2 =>
 doQ (readCell env.P H2 v1 26) fun v6 =>
 Q (.tup [v6, (.v (.int .i64 8))]) H2) (
 doW (callRes env true (limf env) (limt env 0) H1 (⟨0, 10, Heap.gen H1 0 10, 0⟩ : Ref) (some (.fn (.func 88) [] [])) [x0]) fun v4 H2 =>
 doW (nRes H2 (⟨0, 4, Heap.gen H2 0 4, 0⟩ : Ref) (qAlloc env.P (⟨0, 4, Heap.gen H2 0 4, 0⟩ : Ref) 153)) fun v5 H3 =>
 doW (wStore env.P H3 153 (some v5) (some v4)) fun v6 H4 =>
 doQ (qFieldAddr env.P 153 (some v5) 1) fun v7 =>
 doQ (qLoad env.P (Heap.get H4) 36 (some v7)) fun v8 =>
 doQ (qBin env.P .neq 36 (.tmp 12) (.const (.int .i64 0)) (some v8) (some (.v (.int .i64 0)))) fun v9 =>
 br (some v9) (
 doQ (qBuild env.P 26 (some [])) fun v10 =>
 doQ (qFieldAddr env.P 153 (some v5) 1) fun v11 =>
 doQ (qLoad env.P (Heap.get H4) 36 (some v11)) fun v12 =>
 doW (wStore env.P H4 26 (some v1) (some v10)) fun v13 H5 =>
    apartV [(v11, v1)] [v1] [] H5 ∧
 (doQ (readCell env.P H5 v1 26) fun v14 =>
 Q (.tup [v14, v12]) H5)) (
 doQ (qFieldAddr env.P 153 (some v5) 0) fun v10 =>
 doQ (qLoad env.P (Heap.get H4) 26 (some v10)) fun v11 =>
 doW (wStore env.P H4 26 (some v1) (some v11)) fun v12 H5 =>
 doQ (readCell env.P H5 v1 26) fun v13 =>
 Q (.tup [v13, (.v (.int .i64 0))]) H5))
theorem vq_ids_GetHandle : VC_ids_GetHandle = fun g x0 H Q => wp env Try.f57 none 0 lv_ids_GetHandle cu_ids_GetHandle Q 500 [.code bd_ids_GetHandle] (ofL g [(0, x0)]) H := by kernel_rfl
theorem vc_ids_GetHandle (x0 : AV) (H : Heap) (Q : AV → Heap → Prop) (h : ∀ g, VC_ids_GetHandle g x0 H Q) : GoL env Try.f57 0 [.code bd_ids_GetHandle] [(0, x0)] H Q := ⟨fun g => wp_ok (by have h := h g; rw [vq_ids_GetHandle] at h; exact h)⟩
noncomputable def bd_ids_Get : Code := (Try.f87.body).getD .skip
def lv_ids_Get : Nat → Option (List Nat) := fun i => none
def cu_ids_Get : Nat → Bool := fun i => false
def VC_ids_Get (g : Nat → AV) (x0 : AV) (H : Heap) (Q : AV → Heap → Prop) : Prop :=
 doW (nRes H (⟨0, 2, Heap.gen H 0 2, 0⟩ : Ref) (qAlloc env.P (⟨0, 2, Heap.gen H 0 2, 0⟩ : Ref) 28)) fun v1 H1 =>
 doQ (qBuiltin env.P false (Heap.get H1) (⟨0, 7, Heap.gen H1 0 7, 0⟩ : Ref) .len #[34] [x0]) fun v2 =>
 doQ (qBin env.P .neq 3 (.tmp 7) (.const (.int .i64 13)) (some v2) (some (.v (.int .i64 13)))) fun v3 =>
 br (some v3) (
 doQ (qBuild env.P 28 (some [])) fun v4 =>
 doW (wStore env.P H1 28 (some v1) (some v4)) fun v5 H2 =>
 doQ (readCell env.P H2 v1 28) fun v6 =>
 Q (.tup [v6, (.v (.int .i64 8))]) H2) (
 doW (callRes env false (limf env) (limt env 0) H1 (⟨0, 11, Heap.gen H1 0 11, 0⟩ : Ref) (some (.fn (.func 88) [] [])) [x0]) fun v4 H2 =>
 doQ (qField env.P 153 (some v4) 0) fun v5 =>
 doQ (qSlice env.P (Heap.get H2) 34 (some x0) (oi (.v (.int .i64 6))) (some none) (some none)) fun v6 =>
 doW (callRes env false (limf env) (limt env 0) H2 (⟨0, 15, Heap.gen H2 0 15, 0⟩ : Ref) (some (.fn (.func 133) [] [])) [v6]) fun v7 H3 =>
 doQ (qBuild env.P 28 (some [(0, v5), (1, v7)])) fun v8 =>
 doW (nRes H3 (⟨0, 4, Heap.gen H3 0 4, 0⟩ : Ref) (qAlloc env.P (⟨0, 4, Heap.gen H3 0 4, 0⟩ : Ref) 28)) fun v9 H4 =>
 doW (wStore env.P H4 28 (some v9) (some v8)) fun v10 H5 =>
 doQ (qLoad env.P (Heap.get H5) 28 (some v9)) fun v11 =>
 doW (callRes env true (limf env) (limt env 0) H5 (⟨0, 18, Heap.gen H5 0 18, 0⟩ : Ref) (some (.fn (.func 84) [] [])) [v11]) fun v12 H6 =>
 doQ (qBin env.P .neq 36 (.tmp 19) (.const (.int .i64 0)) (some v12) (some (.v (.int .i64 0)))) fun v13 =>
 br (some v13) (
 doQ (qBuild env.P 28 (some [])) fun v14 =>
 doW (wStore env.P H6 28 (some v1) (some v14)) fun v15 H7 =>
 doQ (readCell env.P H7 v1 28) fun v16 =>
 Q (.tup [v16, v12]) H7) (
 doQ (qLoad env.P (Heap.get H6) 28 (some v9)) fun v14 =>
 doW (wStore env.P H6 28 (some v1) (some v14)) fun v15 H7 =>
 doQ (readCell env.P H7 v1 28) fun v16 =>
 Q (.tup [v16, (.v (.int .i64 0))]) H7))
theorem vq_ids_Get : VC_ids_Get = fun g x0 H Q => wp env Try.f87 none 0 lv_ids_Get cu_ids_Get Q 500 [.code bd_ids_Get] (ofL g [(0, x0)]) H := by kernel_rfl
theorem vc_ids_Get (x0 : AV) (H : Heap) (Q : AV → Heap → Prop) (h : ∀ g, VC_ids_Get g x0 H Q) : GoL env Try.f87 0 [.code bd_ids_Get] [(0, x0)] H Q := ⟨fun g => wp_ok (by have h := h g; rw [vq_ids_Get] at h; exact h)⟩
noncomputable def bd_ids_PutHandle : Code := (Try.f51.body).getD .skip
def lv_ids_PutHandle : Nat → Option (List Nat) := fun i => none
def cu_ids_PutHandle : Nat → Bool := fun i => false
def VC_ids_PutHandle (g : Nat → AV) (x0 : AV) (H : Heap) (Q : AV → Heap → Prop) : Prop :=
 doW (nRes H (⟨0, 1, Heap.gen H 0 1, 0⟩ : Ref) (qBox env.P (⟨0, 1, Heap.gen H 0 1, 0⟩ : Ref) 26 (some x0))) fun v1 H1 =>
 doQ (qLoad env.P (Heap.get H1) 26 (some v1)) fun v2 =>
 doW (callRes env true (limf env) (limt env 0) H1 (⟨0, 6, Heap.gen H1 0 6, 0⟩ : Ref) (some (.fn (.func 62) [] [])) [v2]) fun v3 H2 =>
 doQ (qBin env.P .neq 36 (.tmp 7) (.const (.int .i64 0)) (some v3) (some (.v (.int .i64 0)))) fun v4 =>
 br (some v4) (
 Q (.tup [(.v (.slice none 0 0)), v3]) H2) (
 doQ (qFieldAddr env.P 26 (some v1) 0) fun v5 =>
 doQ (qFieldAddr env.P 24 (some v5) 0) fun v6 =>
 doQ (qLoad env.P (Heap.get H2) 5 (some v6)) fun v7 =>
 doW (bsRes env.P true false H2 (⟨0, 13, Heap.gen H2 0 13, 0⟩ : Ref) 34 1 (some [(0, v7)])) fun v8 H3 =>
 doQ (qFieldAddr env.P 26 (some v1) 0) fun v9 =>
 doQ (qFieldAddr env.P 24 (some v9) 1) fun v10 =>
 doQ (qLoad env.P (Heap.get H3) 22 (some v10)) fun v11 =>
 doQ (qConvert env.P (Heap.get H3) (⟨0, 17, Heap.gen H3 0 17, 0⟩ : Ref) 22 3 (some v11)) fun v12 =>
 doW (callRes env false (limf env) (limt env 0) H3 (⟨0, 18, Heap.gen H3 0 18, 0⟩ : Ref) (some (.fn (.func 83) [] [])) [v12, (.v (.int .i64 4))]) fun v13 H4 =>
 doW (appRes env.P false H4 (⟨0, 19, Heap.gen H4 0 19, 0⟩ : Ref) (some 34) (some 34) v8 v13) fun v14 H5 =>
 doQ (qFieldAddr env.P 26 (some v1) 1) fun v15 =>
 doQ (qLoad env.P (Heap.get H5) 5 (some v15)) fun v16 =>
 doW (bsRes env.P true false H5 (⟨0, 22, Heap.gen H5 0 22, 0⟩ : Ref) 34 1 (some [(0, v16)])) fun v17 H6 =>
 doW (appRes env.P true H6 (⟨0, 23, Heap.gen H6 0 23, 0⟩ : Ref) (some 34) (some 34) v14 v17) fun v18 H7 =>
 Q (.tup [v18, (.v (.int .i64 0))]) H7)
theorem vq_ids_PutHandle : VC_ids_PutHandle = fun g x0 H Q => wp env Try.f51 none 0 lv_ids_PutHandle cu_ids_PutHandle Q 500 [.code bd_ids_PutHandle] (ofL g [(0, x0)]) H := by kernel_rfl
theorem vc_ids_PutHandle (x0 : AV) (H : Heap) (Q : AV → Heap → Prop) (h : ∀ g, VC_ids_PutHandle g x0 H Q) : GoL env Try.f51 0 [.code bd_ids_PutHandle] [(0, x0)] H Q := ⟨fun g => wp_ok (by have h := h g; rw [vq_ids_PutHandle] at h; exact h)⟩
noncomputable def bd_ids_Put : Code := (Try.f52.body).getD .skip
def lv_ids_Put : Nat → Option (List Nat) := fun i => none
def cu_ids_Put : Nat → Bool := fun i => false
def VC_ids_Put (g : Nat → AV) (x0 : AV) (H : Heap) (Q : AV → Heap → Prop) : Prop :=
 doW (nRes H (⟨0, 1, Heap.gen H 0 1, 0⟩ : Ref) (qBox env.P (⟨0, 1, Heap.gen H 0 1, 0⟩ : Ref) 28 (some x0))) fun v1 H1 =>
 doQ (qLoad env.P (Heap.get H1) 28 (some v1)) fun v2 =>
 doW (callRes env true (limf env) (limt env 0) H1 (⟨0, 8, Heap.gen H1 0 8, 0⟩ : Ref) (some (.fn (.func 84) [] [])) [v2]) fun v3 H2 =>
 doQ (qBin env.P .neq 36 (.tmp 9) (.const (.int .i64 0)) (some v3) (some (.v (.int .i64 0)))) fun v4 =>
 br (some v4) (
 Q (.tup [(.v (.slice none 0 0)), v3]) H2) (
 doQ (qFieldAddr env.P 28 (some v1) 0) fun v5 =>
 doQ (qLoad env.P (Heap.get H2) 26 (some v5)) fun v6 =>
 doW (callRes env true (limf env) (limt env 0) H2 (⟨0, 15, Heap.gen H2 0 15, 0⟩ : Ref) (some (.fn (.func 51) [] [])) [v6]) fun v7 H3 =>
 doQ (qExtract (some v7) 0) fun v8 =>
 doQ (qExtract (some v7) 1) fun v9 =>
 doQ (qFieldAddr env.P 28 (some v1) 1) fun v10 =>
 doQ (qLoad env.P (Heap.get H3) 3 (some v10)) fun v11 =>
 doW (callRes env true (limf env) (limt env 0) H3 (⟨0, 21, Heap.gen H3 0 21, 0⟩ : Ref) (some (.fn (.func 83) [] [])) [v11, (.v (.int .i64 7))]) fun v12 H4 =>
 doW (appRes env.P true H4 (⟨0, 22, Heap.gen H4 0 22, 0⟩ : Ref) (some 34) (some 34) v8 v12) fun v13 H5 =>
 Q (.tup [v13, v9]) H5)
theorem vq_ids_Put : VC_ids_Put = fun g x0 H Q => wp env Try.f52 none 0 lv_ids_Put cu_ids_Put Q 500 [.code bd_ids_Put] (ofL g [(0, x0)]) H := by kernel_rfl
theorem vc_ids_Put (x0 : AV) (H : Heap) (Q : AV → Heap → Prop) (h : ∀ g, VC_ids_Put g x0 H Q) : GoL env Try.f52 0 [.code bd_ids_Put] [(0, x0)] H Q := ⟨fun g => wp_ok (by have h := h g; rw [vq_ids_Put] at h; exact h)⟩
end Go.Proofs.Ytehkjjcdkbcebaa
