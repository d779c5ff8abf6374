/-
  What is to be shown of each function, computed from its code. No statement of a seat is proved here.
-/
import Derived.Test.YtjampffmlnplcaaRcTy
set_option linter.unusedVariables false
set_option maxRecDepth 1000000
namespace Go.Proofs.Ytjampffmlnplcaa
open Go.Ab

/- blindstampref18_Great -/
noncomputable def bd_blindstampref18_Great : Code := (Try.f36.body).getD .skip
noncomputable def hd_blindstampref18_Great_3 : List Item := (findLoop 3 400 [.code bd_blindstampref18_Great]).getD []
def lv_blindstampref18_Great : Nat → Option (List Nat) := fun i => cond (Nat.beq i 3) (some [6, 0, 5, 1]) (none)
def cu_blindstampref18_Great : Nat → Bool := fun i => false
def VC_blindstampref18_Great (g : Nat → AV) (x0 x1 : AV) (H : Heap) (Q : AV → Heap → Prop) : Prop :=
  GoL env Try.f36 0 hd_blindstampref18_Great_3 [(6, (.v (.int .i64 0))), (0, x0), (5, (.v (.int .i64 0))), (1, x1)] H Q
theorem vq_blindstampref18_Great : VC_blindstampref18_Great = fun g x0 x1 H Q => wp env Try.f36 none 0 lv_blindstampref18_Great cu_blindstampref18_Great Q 500 [.code bd_blindstampref18_Great] (ofL g [(0, x0), (1, x1)]) H := by kernel_rfl
theorem vc_blindstampref18_Great (x0 x1 : AV) (H : Heap) (Q : AV → Heap → Prop) (h : ∀ g, VC_blindstampref18_Great g x0 x1 H Q) : GoL env Try.f36 0 [.code bd_blindstampref18_Great] [(0, x0), (1, x1)] H Q := ⟨fun g => wp_ok (by have h := h g; rw [vq_blindstampref18_Great] at h; exact h)⟩
def VC_blindstampref18_Great_3 (g : Nat → AV) (x6 x0 x5 x1 : AV) (H : Heap) (Q : AV → Heap → Prop) : Prop :=
  doQ (qBuiltin env.P false (Heap.get H) (⟨0, 9, Heap.gen H 0 9, 0⟩ : Ref) .len #[63] [x0]) fun v1 =>
  doQ (qBin env.P .lss 3 (.tmp 7) (.tmp 9) (some x6) (some v1)) fun v2 =>
  gQ v2 true (qVal (some x6)) fun v3 =>
  gQ v2 true (qBin env.P .lss 3 (.tmp 12) (.const (.int .i64 300)) (some v3) (some (.v (.int .i64 300)))) fun v4 =>
  doQ (pickF (some v2) (some v4) (some (.v (.bool false)))) fun v5 =>
  br (some v5) (
   doQ (qIndexAddr env.P (Heap.get H) 63 (some x0) (some x6)) fun v6 =>
   doQ (qFieldAddr env.P 49 (some v6) 3) fun v7 =>
   doQ (qFieldAddr env.P 30 (some v7) 1) fun v8 =>
   doQ (qLoad env.P (Heap.get H) 3 (some v8)) fun v9 =>
   doQ (qBuiltin env.P true (Heap.get H) (⟨0, 24, Heap.gen H 0 24, 0⟩ : Ref) .max #[3, 3] [v9, (.v (.int .i64 0))]) fun v10 =>
   doQ (qBuiltin env.P true (Heap.get H) (⟨0, 25, Heap.gen H 0 25, 0⟩ : Ref) .min #[3, 3] [v10, (.v (.int .i64 100))]) fun v11 =>
   doQ (qIndexAddr env.P (Heap.get H) 63 (some x0) (some x6)) fun v12 =>
   doQ (qFieldAddr env.P 49 (some v12) 6) fun v13 =>
   doQ (qLoad env.P (Heap.get H) 31 (some v13)) fun v14 =>
   doQ (qBuiltin env.P false (Heap.get H) (⟨0, 31, Heap.gen H 0 31, 0⟩ : Ref) .len #[31] [v14]) fun v15 =>
   doQ (qBuiltin env.P true (Heap.get H) (⟨0, 32, Heap.gen H 0 32, 0⟩ : Ref) .min #[3, 3] [v15, (.v (.int .i64 1000))]) fun v16 =>
   doQ (qBuiltin env.P true (Heap.get H) (⟨0, 33, Heap.gen H 0 33, 0⟩ : Ref) .max #[3, 3] [v11, v16]) fun v17 =>
   doQ (qBin env.P .add 3 (.tmp 17) (.tmp 33) (some x5) (some v17)) fun v18 =>
   doQ (qBin env.P .add 3 (.tmp 15) (.const (.int .i64 1)) (some x6) (some (.v (.int .i64 1)))) fun v19 =>
   GoL env Try.f36 0 hd_blindstampref18_Great_3 [(6, v19), (0, x0), (5, v18), (1, x1)] H Q) (
   doQ (qBuiltin env.P false (Heap.get H) (⟨0, 36, Heap.gen H 0 36, 0⟩ : Ref) .len #[63] [x0]) fun v6 =>
   doQ (qBin env.P .gtr 3 (.tmp 36) (.tmp 37) (some v6) (some x1)) fun v7 =>
   gQ v7 false (qVal (some x5)) fun v8 =>
   gQ v7 false (qBin env.P .gtr 3 (.tmp 40) (.const (.int .i64 300)) (some v8) (some (.v (.int .i64 300)))) fun v9 =>
   doQ (pickF (some v7) (some (.v (.bool true))) (some v9)) fun v10 =>
   Q v10 H)
theorem vq_blindstampref18_Great_3 : VC_blindstampref18_Great_3 = fun g x6 x0 x5 x1 H Q => wp env Try.f36 none 0 lv_blindstampref18_Great cu_blindstampref18_Great Q 500 (bodyOf hd_blindstampref18_Great_3) (ofL g [(6, x6), (0, x0), (5, x5), (1, x1)]) H := by kernel_rfl
theorem vc_blindstampref18_Great_3 (x6 x0 x5 x1 : AV) (H : Heap) (Q : AV → Heap → Prop) (h : ∀ g, VC_blindstampref18_Great_3 g x6 x0 x5 x1 H Q) : GoL env Try.f36 0 hd_blindstampref18_Great_3 [(6, x6), (0, x0), (5, x5), (1, x1)] H Q := goL_body fun g => wp_ok (by have h := h g; rw [vq_blindstampref18_Great_3] at h; exact h)

/- chain_Shown -/
noncomputable def bd_chain_Shown : Code := (Try.f37.body).getD .skip
def lv_chain_Shown : Nat → Option (List Nat) := fun i => none
def cu_chain_Shown : Nat → Bool := fun i => false
def VC_chain_Shown (g : Nat → AV) (x0 x1 x2 : AV) (H : Heap) (Q : AV → Heap → Prop) : Prop :=
  doW (nRes H (⟨0, 4, Heap.gen H 0 4, 0⟩ : Ref) (qBox env.P (⟨0, 4, Heap.gen H 0 4, 0⟩ : Ref) 28 (some x1))) fun v1 H1 =>
  doW (nRes H1 (⟨0, 5, Heap.gen H1 0 5, 0⟩ : Ref) (qBox env.P (⟨0, 5, Heap.gen H1 0 5, 0⟩ : Ref) 24 (some x2))) fun v2 H2 =>
  doQ (qLoad env.P (Heap.get H2) 28 (some v1)) fun v3 =>
  doQ (qLoad env.P (Heap.get H2) 24 (some v2)) fun v4 =>
  doW (callRes env true (limf env) (limt env 0) H2 (⟨0, 13, Heap.gen H2 0 13, 0⟩ : Ref) (some (.fn (.func 88) [] [])) [x0, v3, v4]) fun v5 H3 =>
  doQ (qBin env.P .neq 35 (.tmp 14) (.const (.int .i64 0)) (some v5) (some (.v (.int .i64 0)))) fun v6 =>
  br (some v6) (
   Q (.tup [(.v (.bool false)), v5]) H3) (
   doQ (qFunc (.func 89) (some []) (some [v2])) fun v7 =>
   doQ (qLoad env.P (Heap.get H3) 28 (some v1)) fun v8 =>
   doQ (qLoad env.P (Heap.get H3) 24 (some v2)) fun v9 =>
   doW (callRes env true (limf env) (limt env 0) H3 (⟨0, 21, Heap.gen H3 0 21, 0⟩ : Ref) (some (.fn (.func 91) [] [])) [x0, v8, v9]) fun v10 H4 =>
   doW (callRes env true (limf env) (limt env 0) H4 (⟨0, 23, Heap.gen H4 0 23, 0⟩ : Ref) (some (.fn (.func 90) [] [])) [v10, v7]) fun v11 H5 =>
   doQ (qUn env.P .not (some v11)) fun v12 =>
   Q (.tup [v12, (.v (.int .i64 0))]) H5)
theorem vq_chain_Shown : VC_chain_Shown = fun g x0 x1 x2 H Q => wp env Try.f37 none 0 lv_chain_Shown cu_chain_Shown Q 500 [.code bd_chain_Shown] (ofL g [(0, x0), (1, x1), (2, x2)]) H := by kernel_rfl
theorem vc_chain_Shown (x0 x1 x2 : AV) (H : Heap) (Q : AV → Heap → Prop) (h : ∀ g, VC_chain_Shown g x0 x1 x2 H Q) : GoL env Try.f37 0 [.code bd_chain_Shown] [(0, x0), (1, x1), (2, x2)] H Q := ⟨fun g => wp_ok (by have h := h g; rw [vq_chain_Shown] at h; exact h)⟩

/- label_Leq -/
noncomputable def bd_label_Leq : Code := (Try.f38.body).getD .skip
def lv_label_Leq : Nat → Option (List Nat) := fun i => none
def cu_label_Leq : Nat → Bool := fun i => false
def VC_label_Leq (g : Nat → AV) (x0 x1 : AV) (H : Heap) (Q : AV → Heap → Prop) : Prop :=
  doW (nRes H (⟨0, 2, Heap.gen H 0 2, 0⟩ : Ref) (qBox env.P (⟨0, 2, Heap.gen H 0 2, 0⟩ : Ref) 24 (some x0))) fun v1 H1 =>
  doW (nRes H1 (⟨0, 3, Heap.gen H1 0 3, 0⟩ : Ref) (qBox env.P (⟨0, 3, Heap.gen H1 0 3, 0⟩ : Ref) 24 (some x1))) fun v2 H2 =>
  doQ (qFieldAddr env.P 24 (some v1) 0) fun v3 =>
  doQ (qLoad env.P (Heap.get H2) 5 (some v3)) fun v4 =>
  doQ (qFieldAddr env.P 24 (some v2) 0) fun v5 =>
  doQ (qLoad env.P (Heap.get H2) 5 (some v5)) fun v6 =>
  doQ (qBin env.P .leq 5 (.tmp 6) (.tmp 8) (some v4) (some v6)) fun v7 =>
  gQ v7 true (qFieldAddr env.P 24 (some v1) 1) fun v8 =>
  gQ v7 true (qLoad env.P (Heap.get H2) 22 (some v8)) fun v9 =>
  gQ v7 true (qFieldAddr env.P 24 (some v2) 1) fun v10 =>
  gQ v7 true (qLoad env.P (Heap.get H2) 22 (some v10)) fun v11 =>
  gQ v7 true (qBin env.P .andNot 22 (.tmp 12) (.tmp 14) (some v9) (some v11)) fun v12 =>
  gQ v7 true (qBin env.P .eql 22 (.tmp 15) (.const (.int .u32 0)) (some v12) (some (a32 0))) fun v13 =>
  doQ (pickF (some v7) (some v13) (some (.v (.bool false)))) fun v14 =>
  Q v14 H2
theorem vq_label_Leq : VC_label_Leq = fun g x0 x1 H Q => wp env Try.f38 none 0 lv_label_Leq cu_label_Leq Q 500 [.code bd_label_Leq] (ofL g [(0, x0), (1, x1)]) H := by kernel_rfl
theorem vc_label_Leq (x0 x1 : AV) (H : Heap) (Q : AV → Heap → Prop) (h : ∀ g, VC_label_Leq g x0 x1 H Q) : GoL env Try.f38 0 [.code bd_label_Leq] [(0, x0), (1, x1)] H Q := ⟨fun g => wp_ok (by have h := h g; rw [vq_label_Leq] at h; exact h)⟩

/- ids_Has -/
noncomputable def bd_ids_Has : Code := (Try.f39.body).getD .skip
def lv_ids_Has : Nat → Option (List Nat) := fun i => none
def cu_ids_Has : Nat → Bool := fun i => false
def VC_ids_Has (g : Nat → AV) (x0 x1 : AV) (H : Heap) (Q : AV → Heap → Prop) : Prop :=
  doW (nRes H (⟨0, 2, Heap.gen H 0 2, 0⟩ : Ref) (qBox env.P (⟨0, 2, Heap.gen H 0 2, 0⟩ : Ref) 30 (some x0))) fun v1 H1 =>
  doW (nRes H1 (⟨0, 3, Heap.gen H1 0 3, 0⟩ : Ref) (qBox env.P (⟨0, 3, Heap.gen H1 0 3, 0⟩ : Ref) 28 (some x1))) fun v2 H2 =>
  doQ (qFieldAddr env.P 28 (some v2) 1) fun v3 =>
  doQ (qLoad env.P (Heap.get H2) 3 (some v3)) fun v4 =>
  doQ (qFieldAddr env.P 30 (some v1) 0) fun v5 =>
  doQ (qFieldAddr env.P 28 (some v5) 1) fun v6 =>
  doQ (qLoad env.P (Heap.get H2) 3 (some v6)) fun v7 =>
  doQ (qBin env.P .sub 3 (.tmp 8) (.tmp 11) (some v4) (some v7)) fun v8 =>
  doQ (qLoad env.P (Heap.get H2) 30 (some v1)) fun v9 =>
  doW (callRes env false (limf env) (limt env 0) H2 (⟨0, 14, Heap.gen H2 0 14, 0⟩ : Ref) (some (.fn (.func 78) [] [])) [v9]) fun v10 H3 =>
  doQ (qBin env.P .neq 35 (.tmp 14) (.const (.int .i64 0)) (some v10) (some (.v (.int .i64 0)))) fun v11 =>
  gQ v11 false (qVal (some v8)) fun v12 =>
  gQ v11 false (qBin env.P .lss 3 (.tmp 17) (.const (.int .i64 0)) (some v12) (some (.v (.int .i64 0)))) fun v13 =>
  doQ (pickF (some v11) (some (.v (.bool true))) (some v13)) fun v14 =>
  gQ v14 false (qVal (some v8)) fun v15 =>
  gQ v14 false (qFieldAddr env.P 30 (some v1) 1) fun v16 =>
  gQ v14 false (qLoad env.P (Heap.get H3) 3 (some v16)) fun v17 =>
  gQ v14 false (qBin env.P .geq 3 (.tmp 21) (.tmp 23) (some v15) (some v17)) fun v18 =>
  doQ (pickF (some v14) (some (.v (.bool true))) (some v18)) fun v19 =>
  gQ v19 false (qLoad env.P (Heap.get H3) 28 (some v2)) fun v20 =>
  gQ v19 false (qFieldAddr env.P 30 (some v1) 0) fun v21 =>
  gQ v19 false (qLoad env.P (Heap.get H3) 28 (some v21)) fun v22 =>
  gQ v19 false (qVal (some v8)) fun v23 =>
  gW v19 false H3 (callRes env false (limf env) (limt env 0) H3 (⟨0, 31, Heap.gen H3 0 31, 0⟩ : Ref) (some (.fn (.func 92) [] [])) [v22, v23]) fun v24 H4 =>
  gQ v19 false (qBin env.P .neq 28 (.tmp 27) (.tmp 31) (some v20) (some v24)) fun v25 =>
  doQ (pickF (some v19) (some (.v (.bool true))) (some v25)) fun v26 =>
  br (some v26) (
   Q (.tup [(.v (.int .i64 0)), (.v (.bool false))]) H4) (
   Q (.tup [v8, (.v (.bool true))]) H4)
theorem vq_ids_Has : VC_ids_Has = fun g x0 x1 H Q => wp env Try.f39 none 0 lv_ids_Has cu_ids_Has Q 500 [.code bd_ids_Has] (ofL g [(0, x0), (1, x1)]) H := by kernel_rfl
theorem vc_ids_Has (x0 x1 : AV) (H : Heap) (Q : AV → Heap → Prop) (h : ∀ g, VC_ids_Has g x0 x1 H Q) : GoL env Try.f39 0 [.code bd_ids_Has] [(0, x0), (1, x1)] H Q := ⟨fun g => wp_ok (by have h := h g; rw [vq_ids_Has] at h; exact h)⟩

/- chain_Chain -/
noncomputable def bd_chain_Chain : Code := (Try.f41.body).getD .skip
def lv_chain_Chain : Nat → Option (List Nat) := fun i => none
def cu_chain_Chain : Nat → Bool := fun i => false
def VC_chain_Chain (g : Nat → AV) (x0 x1 x2 : AV) (H : Heap) (Q : AV → Heap → Prop) : Prop :=
  doW (nRes H (⟨0, 4, Heap.gen H 0 4, 0⟩ : Ref) (qBox env.P (⟨0, 4, Heap.gen H 0 4, 0⟩ : Ref) 28 (some x1))) fun v1 H1 =>
  doW (nRes H1 (⟨0, 5, Heap.gen H1 0 5, 0⟩ : Ref) (qBox env.P (⟨0, 5, Heap.gen H1 0 5, 0⟩ : Ref) 24 (some x2))) fun v2 H2 =>
  doQ (qLoad env.P (Heap.get H2) 28 (some v1)) fun v3 =>
  doQ (qLoad env.P (Heap.get H2) 24 (some v2)) fun v4 =>
  doW (callRes env true (limf env) (limt env 0) H2 (⟨0, 12, Heap.gen H2 0 12, 0⟩ : Ref) (some (.fn (.func 88) [] [])) [x0, v3, v4]) fun v5 H3 =>
  doQ (qBin env.P .neq 35 (.tmp 13) (.const (.int .i64 0)) (some v5) (some (.v (.int .i64 0)))) fun v6 =>
  br (some v6) (
   Q (.tup [(.v (.slice none 0 0)), v5]) H3) (
   doQ (qLoad env.P (Heap.get H3) 28 (some v1)) fun v7 =>
   doQ (qLoad env.P (Heap.get H3) 24 (some v2)) fun v8 =>
   doW (callRes env true (limf env) (limt env 0) H3 (⟨0, 19, Heap.gen H3 0 19, 0⟩ : Ref) (some (.fn (.func 91) [] [])) [x0, v7, v8]) fun v9 H4 =>
   Q (.tup [v9, (.v (.int .i64 0))]) H4)
theorem vq_chain_Chain : VC_chain_Chain = fun g x0 x1 x2 H Q => wp env Try.f41 none 0 lv_chain_Chain cu_chain_Chain Q 500 [.code bd_chain_Chain] (ofL g [(0, x0), (1, x1), (2, x2)]) H := by kernel_rfl
theorem vc_chain_Chain (x0 x1 x2 : AV) (H : Heap) (Q : AV → Heap → Prop) (h : ∀ g, VC_chain_Chain g x0 x1 x2 H Q) : GoL env Try.f41 0 [.code bd_chain_Chain] [(0, x0), (1, x1), (2, x2)] H Q := ⟨fun g => wp_ok (by have h := h g; rw [vq_chain_Chain] at h; exact h)⟩

/- chain_Fits -/
noncomputable def bd_chain_Fits : Code := (Try.f44.body).getD .skip
def lv_chain_Fits : Nat → Option (List Nat) := fun i => none
def cu_chain_Fits : Nat → Bool := fun i => false
def VC_chain_Fits (g : Nat → AV) (x0 x1 : AV) (H : Heap) (Q : AV → Heap → Prop) : Prop :=
  doW (nRes H (⟨0, 3, Heap.gen H 0 3, 0⟩ : Ref) (qBox env.P (⟨0, 3, Heap.gen H 0 3, 0⟩ : Ref) 49 (some x1))) fun v1 H1 =>
  doW (callRes env true (limf env) (limt env 0) H1 (⟨0, 9, Heap.gen H1 0 9, 0⟩ : Ref) (some (.fn (.func 47) [] [])) [x0]) fun v2 H2 =>
  doQ (qBin env.P .neq 35 (.tmp 10) (.const (.int .i64 0)) (some v2) (some (.v (.int .i64 0)))) fun v3 =>
  br (some v3) (
   Q (.tup [(.v (.bool false)), v2]) H2) (
   doQ (qLoad env.P (Heap.get H2) 49 (some v1)) fun v4 =>
   doW (callRes env true (limf env) (limt env 0) H2 (⟨0, 14, Heap.gen H2 0 14, 0⟩ : Ref) (some (.fn (.func 80) [] [])) [v4]) fun v5 H3 =>
   doQ (qBin env.P .neq 35 (.tmp 15) (.const (.int .i64 0)) (some v5) (some (.v (.int .i64 0)))) fun v6 =>
   br (some v6) (
    Q (.tup [(.v (.bool false)), v5]) H3) (
    doQ (qLoad env.P (Heap.get H3) 49 (some v1)) fun v7 =>
    doW (callRes env true (limf env) (limt env 0) H3 (⟨0, 20, Heap.gen H3 0 20, 0⟩ : Ref) (some (.fn (.func 93) [] [])) [x0, v7]) fun v8 H4 =>
    Q (.tup [v8, (.v (.int .i64 0))]) H4))
theorem vq_chain_Fits : VC_chain_Fits = fun g x0 x1 H Q => wp env Try.f44 none 0 lv_chain_Fits cu_chain_Fits Q 500 [.code bd_chain_Fits] (ofL g [(0, x0), (1, x1)]) H := by kernel_rfl
theorem vc_chain_Fits (x0 x1 : AV) (H : Heap) (Q : AV → Heap → Prop) (h : ∀ g, VC_chain_Fits g x0 x1 H Q) : GoL env Try.f44 0 [.code bd_chain_Fits] [(0, x0), (1, x1)] H Q := ⟨fun g => wp_ok (by have h := h g; rw [vq_chain_Fits] at h; exact h)⟩

/- blindstampref18_SameLabels -/
noncomputable def bd_blindstampref18_SameLabels : Code := (Try.f46.body).getD .skip
noncomputable def hd_blindstampref18_SameLabels_4 : List Item := (findLoop 4 400 [.code bd_blindstampref18_SameLabels]).getD []
def lv_blindstampref18_SameLabels : Nat → Option (List Nat) := fun i => cond (Nat.beq i 4) (some [5, 1, 0]) (none)
def cu_blindstampref18_SameLabels : Nat → Bool := fun i => false
def VC_blindstampref18_SameLabels (g : Nat → AV) (x0 x1 : AV) (H : Heap) (Q : AV → Heap → Prop) : Prop :=
  doQ (qBuiltin env.P false (Heap.get H) (⟨0, 7, Heap.gen H 0 7, 0⟩ : Ref) .len #[72] [x0]) fun v1 =>
  doQ (qBuiltin env.P false (Heap.get H) (⟨0, 9, Heap.gen H 0 9, 0⟩ : Ref) .len #[72] [x1]) fun v2 =>
  doQ (qBin env.P .neq 3 (.tmp 7) (.tmp 9) (some v1) (some v2)) fun v3 =>
  br (some v3) (
   Q (.v (.bool false)) H) (
   GoL env Try.f46 0 hd_blindstampref18_SameLabels_4 [(5, (.v (.int .i64 0))), (1, x1), (0, x0)] H Q)
theorem vq_blindstampref18_SameLabels : VC_blindstampref18_SameLabels = fun g x0 x1 H Q => wp env Try.f46 none 0 lv_blindstampref18_SameLabels cu_blindstampref18_SameLabels Q 500 [.code bd_blindstampref18_SameLabels] (ofL g [(0, x0), (1, x1)]) H := by kernel_rfl
theorem vc_blindstampref18_SameLabels (x0 x1 : AV) (H : Heap) (Q : AV → Heap → Prop) (h : ∀ g, VC_blindstampref18_SameLabels g x0 x1 H Q) : GoL env Try.f46 0 [.code bd_blindstampref18_SameLabels] [(0, x0), (1, x1)] H Q := ⟨fun g => wp_ok (by have h := h g; rw [vq_blindstampref18_SameLabels] at h; exact h)⟩
def VC_blindstampref18_SameLabels_4 (g : Nat → AV) (x5 x1 x0 : AV) (H : Heap) (Q : AV → Heap → Prop) : Prop :=
  doQ (qBuiltin env.P false (Heap.get H) (⟨0, 13, Heap.gen H 0 13, 0⟩ : Ref) .len #[72] [x0]) fun v1 =>
  doQ (qBin env.P .lss 3 (.tmp 11) (.tmp 13) (some x5) (some v1)) fun v2 =>
  br (some v2) (
   doQ (qIndexAddr env.P (Heap.get H) 72 (some x0) (some x5)) fun v3 =>
   doQ (qLoad env.P (Heap.get H) 24 (some v3)) fun v4 =>
   doQ (qIndexAddr env.P (Heap.get H) 72 (some x1) (some x5)) fun v5 =>
   doQ (qLoad env.P (Heap.get H) 24 (some v5)) fun v6 =>
   doQ (qBin env.P .neq 24 (.tmp 20) (.tmp 24) (some v4) (some v6)) fun v7 =>
   br (some v7) (
    Q (.v (.bool false)) H) (
    doQ (qBin env.P .add 3 (.tmp 15) (.const (.int .i64 1)) (some x5) (some (.v (.int .i64 1)))) fun v8 =>
    GoL env Try.f46 0 hd_blindstampref18_SameLabels_4 [(5, v8), (1, x1), (0, x0)] H Q)) (
   Q (.v (.bool true)) H)
theorem vq_blindstampref18_SameLabels_4 : VC_blindstampref18_SameLabels_4 = fun g x5 x1 x0 H Q => wp env Try.f46 none 0 lv_blindstampref18_SameLabels cu_blindstampref18_SameLabels Q 500 (bodyOf hd_blindstampref18_SameLabels_4) (ofL g [(5, x5), (1, x1), (0, x0)]) H := by kernel_rfl
theorem vc_blindstampref18_SameLabels_4 (x5 x1 x0 : AV) (H : Heap) (Q : AV → Heap → Prop) (h : ∀ g, VC_blindstampref18_SameLabels_4 g x5 x1 x0 H Q) : GoL env Try.f46 0 hd_blindstampref18_SameLabels_4 [(5, x5), (1, x1), (0, x0)] H Q := goL_body fun g => wp_ok (by have h := h g; rw [vq_blindstampref18_SameLabels_4] at h; exact h)

/- chain_Check -/
noncomputable def bd_chain_Check : Code := (Try.f47.body).getD .skip
noncomputable def hd_chain_Check_4 : List Item := (findLoop 4 400 [.code bd_chain_Check]).getD []
def lv_chain_Check : Nat → Option (List Nat) := fun i => cond (Nat.beq i 4) (some [10, 0, 8, 9]) (none)
def cu_chain_Check : Nat → Bool := fun i => false
def VC_chain_Check (g : Nat → AV) (x0 : AV) (H : Heap) (Q : AV → Heap → Prop) : Prop :=
  doQ (qBuiltin env.P false (Heap.get H) (⟨0, 6, Heap.gen H 0 6, 0⟩ : Ref) .len #[63] [x0]) fun v1 =>
  doQ (qBin env.P .gtr 3 (.tmp 6) (.const (.int .i64 2048)) (some v1) (some (.v (.int .i64 2048)))) fun v2 =>
  br (some v2) (
   Q (.v (.int .i64 4)) H) (
   doQ (qBuiltin env.P false (Heap.get H) (⟨0, 9, Heap.gen H 0 9, 0⟩ : Ref) .len #[63] [x0]) fun v3 =>
   GoL env Try.f47 0 hd_chain_Check_4 [(10, (.v (.int .i64 0))), (0, x0), (8, x0), (9, v3)] H Q)
theorem vq_chain_Check : VC_chain_Check = fun g x0 H Q => wp env Try.f47 none 0 lv_chain_Check cu_chain_Check Q 500 [.code bd_chain_Check] (ofL g [(0, x0)]) H := by kernel_rfl
theorem vc_chain_Check (x0 : AV) (H : Heap) (Q : AV → Heap → Prop) (h : ∀ g, VC_chain_Check g x0 H Q) : GoL env Try.f47 0 [.code bd_chain_Check] [(0, x0)] H Q := ⟨fun g => wp_ok (by have h := h g; rw [vq_chain_Check] at h; exact h)⟩
def VC_chain_Check_4 (g : Nat → AV) (x10 x0 x8 x9 : AV) (H : Heap) (Q : AV → Heap → Prop) : Prop :=
  doQ (qBin env.P .lss 3 (.tmp 10) (.tmp 9) (some x10) (some x9)) fun v1 =>
  br (some v1) (
   doQ (qIndexAddr env.P (Heap.get H) 63 (some x8) (some x10)) fun v2 =>
   doQ (qLoad env.P (Heap.get H) 49 (some v2)) fun v3 =>
   doW (nRes H (⟨0, 4, Heap.gen H 0 4, 0⟩ : Ref) (qAlloc env.P (⟨0, 4, Heap.gen H 0 4, 0⟩ : Ref) 49)) fun v4 H1 =>
   doW (wStore env.P H1 49 (some v4) (some v3)) fun v5 H2 =>
   doQ (qLoad env.P (Heap.get H2) 49 (some v4)) fun v6 =>
   doW (callRes env false (limf env) (limt env 0) H2 (⟨0, 16, Heap.gen H2 0 16, 0⟩ : Ref) (some (.fn (.func 80) [] [])) [v6]) fun v7 H3 =>
   doQ (qBin env.P .neq 35 (.tmp 16) (.const (.int .i64 0)) (some v7) (some (.v (.int .i64 0)))) fun v8 =>
   gQ v8 false (qVal (some x0)) fun v9 =>
   gQ v8 false (qVal (some x10)) fun v10 =>
   gQ v8 false (qSlice env.P (Heap.get H3) 63 (some v9) (some none) (oi v10) (some none)) fun v11 =>
   gQ v8 false (qLoad env.P (Heap.get H3) 49 (some v4)) fun v12 =>
   gW v8 false H3 (callRes env false (limf env) (limt env 0) H3 (⟨0, 23, Heap.gen H3 0 23, 0⟩ : Ref) (some (.fn (.func 93) [] [])) [v11, v12]) fun v13 H4 =>
   gQ v8 false (qUn env.P .not (some v13)) fun v14 =>
   doQ (pickF (some v8) (some (.v (.bool true))) (some v14)) fun v15 =>
   br (some v15) (
    Q (.v (.int .i64 8)) H4) (
    doQ (qBin env.P .add 3 (.tmp 10) (.const (.int .i64 1)) (some x10) (some (.v (.int .i64 1)))) fun v16 =>
    GoL env Try.f47 0 hd_chain_Check_4 [(10, v16), (0, x0), (8, x8), (9, x9)] H4 Q)) (
   Q (.v (.int .i64 0)) H)
theorem vq_chain_Check_4 : VC_chain_Check_4 = fun g x10 x0 x8 x9 H Q => wp env Try.f47 none 0 lv_chain_Check cu_chain_Check Q 500 (bodyOf hd_chain_Check_4) (ofL g [(10, x10), (0, x0), (8, x8), (9, x9)]) H := by kernel_rfl
theorem vc_chain_Check_4 (x10 x0 x8 x9 : AV) (H : Heap) (Q : AV → Heap → Prop) (h : ∀ g, VC_chain_Check_4 g x10 x0 x8 x9 H Q) : GoL env Try.f47 0 hd_chain_Check_4 [(10, x10), (0, x0), (8, x8), (9, x9)] H Q := goL_body fun g => wp_ok (by have h := h g; rw [vq_chain_Check_4] at h; exact h)

/- blindstampref18_TwinOps -/
noncomputable def bd_blindstampref18_TwinOps : Code := (Try.f48.body).getD .skip
noncomputable def hd_blindstampref18_TwinOps_3 : List Item := (findLoop 3 400 [.code bd_blindstampref18_TwinOps]).getD []
def lv_blindstampref18_TwinOps : Nat → Option (List Nat) := fun i => cond (Nat.beq i 3) (some [4, 0, 3]) (none)
def cu_blindstampref18_TwinOps : Nat → Bool := fun i => false
def VC_blindstampref18_TwinOps (g : Nat → AV) (x0 : AV) (H : Heap) (Q : AV → Heap → Prop) : Prop :=
  GoL env Try.f48 0 hd_blindstampref18_TwinOps_3 [(4, (.v (.int .i64 0))), (0, x0), (3, (.v (.slice none 0 0)))] H Q
theorem vq_blindstampref18_TwinOps : VC_blindstampref18_TwinOps = fun g x0 H Q => wp env Try.f48 none 0 lv_blindstampref18_TwinOps cu_blindstampref18_TwinOps Q 500 [.code bd_blindstampref18_TwinOps] (ofL g [(0, x0)]) H := by kernel_rfl
theorem vc_blindstampref18_TwinOps (x0 : AV) (H : Heap) (Q : AV → Heap → Prop) (h : ∀ g, VC_blindstampref18_TwinOps g x0 H Q) : GoL env Try.f48 0 [.code bd_blindstampref18_TwinOps] [(0, x0)] H Q := ⟨fun g => wp_ok (by have h := h g; rw [vq_blindstampref18_TwinOps] at h; exact h)⟩
def VC_blindstampref18_TwinOps_3 (g : Nat → AV) (x4 x0 x3 : AV) (H : Heap) (Q : AV → Heap → Prop) : Prop :=
  doQ (qBuiltin env.P false (Heap.get H) (⟨0, 7, Heap.gen H 0 7, 0⟩ : Ref) .len #[63] [x0]) fun v1 =>
  doQ (qBin env.P .lss 3 (.tmp 5) (.tmp 7) (some x4) (some v1)) fun v2 =>
  br (some v2) (
   doQ (qIndexAddr env.P (Heap.get H) 63 (some x0) (some x4)) fun v3 =>
   doQ (qLoad env.P (Heap.get H) 49 (some v3)) fun v4 =>
   doW (callRes env true (limf env) (limt env 0) H (⟨0, 16, Heap.gen H 0 16, 0⟩ : Ref) (some (.fn (.func 25) [] [])) [v4]) fun v5 H1 =>
   doW (bsRes env.P false true H1 (⟨0, 17, Heap.gen H1 0 17, 0⟩ : Ref) 63 1 (some [(0, v5)])) fun v6 H2 =>
   doW (appRes env.P true H2 (⟨0, 18, Heap.gen H2 0 18, 0⟩ : Ref) (some 63) (some 63) x3 v6) fun v7 H3 =>
   doQ (qBin env.P .add 3 (.tmp 9) (.const (.int .i64 1)) (some x4) (some (.v (.int .i64 1)))) fun v8 =>
   GoL env Try.f48 0 hd_blindstampref18_TwinOps_3 [(4, v8), (0, x0), (3, v7)] H3 Q) (
   Q x3 H)
theorem vq_blindstampref18_TwinOps_3 : VC_blindstampref18_TwinOps_3 = fun g x4 x0 x3 H Q => wp env Try.f48 none 0 lv_blindstampref18_TwinOps cu_blindstampref18_TwinOps Q 500 (bodyOf hd_blindstampref18_TwinOps_3) (ofL g [(4, x4), (0, x0), (3, x3)]) H := by kernel_rfl
theorem vc_blindstampref18_TwinOps_3 (x4 x0 x3 : AV) (H : Heap) (Q : AV → Heap → Prop) (h : ∀ g, VC_blindstampref18_TwinOps_3 g x4 x0 x3 H Q) : GoL env Try.f48 0 hd_blindstampref18_TwinOps_3 [(4, x4), (0, x0), (3, x3)] H Q := goL_body fun g => wp_ok (by have h := h g; rw [vq_blindstampref18_TwinOps_3] at h; exact h)

/- blindstampref18_Chain -/
noncomputable def bd_blindstampref18_Chain : Code := (Try.f49.body).getD .skip
def lv_blindstampref18_Chain : Nat → Option (List Nat) := fun i => none
def cu_blindstampref18_Chain : Nat → Bool := fun i => false
def VC_blindstampref18_Chain (g : Nat → AV) (x0 x1 x2 : AV) (H : Heap) (Q : AV → Heap → Prop) : Prop :=
  doW (nRes H (⟨0, 4, Heap.gen H 0 4, 0⟩ : Ref) (qBox env.P (⟨0, 4, Heap.gen H 0 4, 0⟩ : Ref) 28 (some x1))) fun v1 H1 =>
  doW (nRes H1 (⟨0, 5, Heap.gen H1 0 5, 0⟩ : Ref) (qBox env.P (⟨0, 5, Heap.gen H1 0 5, 0⟩ : Ref) 24 (some x2))) fun v2 H2 =>
  doQ (qLoad env.P (Heap.get H2) 28 (some v1)) fun v3 =>
  doQ (qLoad env.P (Heap.get H2) 24 (some v2)) fun v4 =>
  doW (callRes env true (limf env) (limt env 0) H2 (⟨0, 12, Heap.gen H2 0 12, 0⟩ : Ref) (some (.fn (.func 94) [] [])) [x0, v3, v4]) fun v5 H3 =>
  doQ (qBin env.P .neq 3 (.tmp 13) (.const (.int .i64 0)) (some v5) (some (.v (.int .i64 0)))) fun v6 =>
  br (some v6) (
   Q (.tup [(.v (.slice none 0 0)), v5]) H3) (
   doQ (qLoad env.P (Heap.get H3) 28 (some v1)) fun v7 =>
   doQ (qLoad env.P (Heap.get H3) 24 (some v2)) fun v8 =>
   doW (callRes env true (limf env) (limt env 0) H3 (⟨0, 19, Heap.gen H3 0 19, 0⟩ : Ref) (some (.fn (.func 95) [] [])) [x0, v7, v8]) fun v9 H4 =>
   Q (.tup [v9, (.v (.int .i64 0))]) H4)
theorem vq_blindstampref18_Chain : VC_blindstampref18_Chain = fun g x0 x1 x2 H Q => wp env Try.f49 none 0 lv_blindstampref18_Chain cu_blindstampref18_Chain Q 500 [.code bd_blindstampref18_Chain] (ofL g [(0, x0), (1, x1), (2, x2)]) H := by kernel_rfl
theorem vc_blindstampref18_Chain (x0 x1 x2 : AV) (H : Heap) (Q : AV → Heap → Prop) (h : ∀ g, VC_blindstampref18_Chain g x0 x1 x2 H Q) : GoL env Try.f49 0 [.code bd_blindstampref18_Chain] [(0, x0), (1, x1), (2, x2)] H Q := ⟨fun g => wp_ok (by have h := h g; rw [vq_blindstampref18_Chain] at h; exact h)⟩

/- blindstampref18_Shown -/
noncomputable def bd_blindstampref18_Shown : Code := (Try.f50.body).getD .skip
def lv_blindstampref18_Shown : Nat → Option (List Nat) := fun i => none
def cu_blindstampref18_Shown : Nat → Bool := fun i => false
def VC_blindstampref18_Shown (g : Nat → AV) (x0 x1 x2 : AV) (H : Heap) (Q : AV → Heap → Prop) : Prop :=
  doW (nRes H (⟨0, 4, Heap.gen H 0 4, 0⟩ : Ref) (qBox env.P (⟨0, 4, Heap.gen H 0 4, 0⟩ : Ref) 28 (some x1))) fun v1 H1 =>
  doW (nRes H1 (⟨0, 5, Heap.gen H1 0 5, 0⟩ : Ref) (qBox env.P (⟨0, 5, Heap.gen H1 0 5, 0⟩ : Ref) 24 (some x2))) fun v2 H2 =>
  doQ (qLoad env.P (Heap.get H2) 28 (some v1)) fun v3 =>
  doQ (qLoad env.P (Heap.get H2) 24 (some v2)) fun v4 =>
  doW (callRes env true (limf env) (limt env 0) H2 (⟨0, 12, Heap.gen H2 0 12, 0⟩ : Ref) (some (.fn (.func 94) [] [])) [x0, v3, v4]) fun v5 H3 =>
  doQ (qBin env.P .neq 3 (.tmp 13) (.const (.int .i64 0)) (some v5) (some (.v (.int .i64 0)))) fun v6 =>
  br (some v6) (
   Q (.tup [(.v (.bool false)), v5]) H3) (
   doQ (qLoad env.P (Heap.get H3) 28 (some v1)) fun v7 =>
   doQ (qLoad env.P (Heap.get H3) 24 (some v2)) fun v8 =>
   doW (callRes env true (limf env) (limt env 0) H3 (⟨0, 19, Heap.gen H3 0 19, 0⟩ : Ref) (some (.fn (.func 96) [] [])) [x0, v7, v8]) fun v9 H4 =>
   Q (.tup [v9, (.v (.int .i64 0))]) H4)
theorem vq_blindstampref18_Shown : VC_blindstampref18_Shown = fun g x0 x1 x2 H Q => wp env Try.f50 none 0 lv_blindstampref18_Shown cu_blindstampref18_Shown Q 500 [.code bd_blindstampref18_Shown] (ofL g [(0, x0), (1, x1), (2, x2)]) H := by kernel_rfl
theorem vc_blindstampref18_Shown (x0 x1 x2 : AV) (H : Heap) (Q : AV → Heap → Prop) (h : ∀ g, VC_blindstampref18_Shown g x0 x1 x2 H Q) : GoL env Try.f50 0 [.code bd_blindstampref18_Shown] [(0, x0), (1, x1), (2, x2)] H Q := ⟨fun g => wp_ok (by have h := h g; rw [vq_blindstampref18_Shown] at h; exact h)⟩

/- blindstampref18_Fits -/
noncomputable def bd_blindstampref18_Fits : Code := (Try.f51.body).getD .skip
def lv_blindstampref18_Fits : Nat → Option (List Nat) := fun i => none
def cu_blindstampref18_Fits : Nat → Bool := fun i => false
def VC_blindstampref18_Fits (g : Nat → AV) (x0 x1 : AV) (H : Heap) (Q : AV → Heap → Prop) : Prop :=
  doW (nRes H (⟨0, 3, Heap.gen H 0 3, 0⟩ : Ref) (qBox env.P (⟨0, 3, Heap.gen H 0 3, 0⟩ : Ref) 49 (some x1))) fun v1 H1 =>
  doW (callRes env true (limf env) (limt env 0) H1 (⟨0, 8, Heap.gen H1 0 8, 0⟩ : Ref) (some (.fn (.func 52) [] [])) [x0]) fun v2 H2 =>
  doQ (qBin env.P .neq 3 (.tmp 9) (.const (.int .i64 0)) (some v2) (some (.v (.int .i64 0)))) fun v3 =>
  br (some v3) (
   Q (.tup [(.v (.bool false)), v2]) H2) (
   doQ (qLoad env.P (Heap.get H2) 49 (some v1)) fun v4 =>
   doW (callRes env true (limf env) (limt env 0) H2 (⟨0, 13, Heap.gen H2 0 13, 0⟩ : Ref) (some (.fn (.func 82) [] [])) [v4]) fun v5 H3 =>
   doQ (qUn env.P .not (some v5)) fun v6 =>
   br (some v6) (
    Q (.tup [(.v (.bool false)), (.v (.int .i64 8))]) H3) (
    doQ (qLoad env.P (Heap.get H3) 49 (some v1)) fun v7 =>
    doW (callRes env true (limf env) (limt env 0) H3 (⟨0, 17, Heap.gen H3 0 17, 0⟩ : Ref) (some (.fn (.func 97) [] [])) [x0, v7]) fun v8 H4 =>
    Q (.tup [v8, (.v (.int .i64 0))]) H4))
theorem vq_blindstampref18_Fits : VC_blindstampref18_Fits = fun g x0 x1 H Q => wp env Try.f51 none 0 lv_blindstampref18_Fits cu_blindstampref18_Fits Q 500 [.code bd_blindstampref18_Fits] (ofL g [(0, x0), (1, x1)]) H := by kernel_rfl
theorem vc_blindstampref18_Fits (x0 x1 : AV) (H : Heap) (Q : AV → Heap → Prop) (h : ∀ g, VC_blindstampref18_Fits g x0 x1 H Q) : GoL env Try.f51 0 [.code bd_blindstampref18_Fits] [(0, x0), (1, x1)] H Q := ⟨fun g => wp_ok (by have h := h g; rw [vq_blindstampref18_Fits] at h; exact h)⟩

/- blindstampref18_Check -/
noncomputable def bd_blindstampref18_Check : Code := (Try.f52.body).getD .skip
def lv_blindstampref18_Check : Nat → Option (List Nat) := fun i => none
def cu_blindstampref18_Check : Nat → Bool := fun i => false
def VC_blindstampref18_Check (g : Nat → AV) (x0 : AV) (H : Heap) (Q : AV → Heap → Prop) : Prop :=
  doQ (qBuiltin env.P false (Heap.get H) (⟨0, 4, Heap.gen H 0 4, 0⟩ : Ref) .len #[63] [x0]) fun v1 =>
  doQ (qBin env.P .gtr 3 (.tmp 4) (.const (.int .i64 2048)) (some v1) (some (.v (.int .i64 2048)))) fun v2 =>
  br (some v2) (
   Q (.v (.int .i64 4)) H) (
   doW (callRes env true (limf env) (limt env 0) H (⟨0, 7, Heap.gen H 0 7, 0⟩ : Ref) (some (.fn (.func 98) [] [])) [x0]) fun v3 H1 =>
   doQ (qUn env.P .not (some v3)) fun v4 =>
   br (some v4) (
    Q (.v (.int .i64 8)) H1) (
    Q (.v (.int .i64 0)) H1))
theorem vq_blindstampref18_Check : VC_blindstampref18_Check = fun g x0 H Q => wp env Try.f52 none 0 lv_blindstampref18_Check cu_blindstampref18_Check Q 500 [.code bd_blindstampref18_Check] (ofL g [(0, x0)]) H := by kernel_rfl
theorem vc_blindstampref18_Check (x0 : AV) (H : Heap) (Q : AV → Heap → Prop) (h : ∀ g, VC_blindstampref18_Check g x0 H Q) : GoL env Try.f52 0 [.code bd_blindstampref18_Check] [(0, x0)] H Q := ⟨fun g => wp_ok (by have h := h g; rw [vq_blindstampref18_Check] at h; exact h)⟩

/- blindstampref18_SameOps -/
noncomputable def bd_blindstampref18_SameOps : Code := (Try.f53.body).getD .skip
noncomputable def hd_blindstampref18_SameOps_4 : List Item := (findLoop 4 400 [.code bd_blindstampref18_SameOps]).getD []
def lv_blindstampref18_SameOps : Nat → Option (List Nat) := fun i => cond (Nat.beq i 4) (some [5, 1, 0]) (none)
def cu_blindstampref18_SameOps : Nat → Bool := fun i => false
def VC_blindstampref18_SameOps (g : Nat → AV) (x0 x1 : AV) (H : Heap) (Q : AV → Heap → Prop) : Prop :=
  doQ (qBuiltin env.P false (Heap.get H) (⟨0, 7, Heap.gen H 0 7, 0⟩ : Ref) .len #[63] [x0]) fun v1 =>
  doQ (qBuiltin env.P false (Heap.get H) (⟨0, 9, Heap.gen H 0 9, 0⟩ : Ref) .len #[63] [x1]) fun v2 =>
  doQ (qBin env.P .neq 3 (.tmp 7) (.tmp 9) (some v1) (some v2)) fun v3 =>
  br (some v3) (
   Q (.v (.bool false)) H) (
   GoL env Try.f53 0 hd_blindstampref18_SameOps_4 [(5, (.v (.int .i64 0))), (1, x1), (0, x0)] H Q)
theorem vq_blindstampref18_SameOps : VC_blindstampref18_SameOps = fun g x0 x1 H Q => wp env Try.f53 none 0 lv_blindstampref18_SameOps cu_blindstampref18_SameOps Q 500 [.code bd_blindstampref18_SameOps] (ofL g [(0, x0), (1, x1)]) H := by kernel_rfl
theorem vc_blindstampref18_SameOps (x0 x1 : AV) (H : Heap) (Q : AV → Heap → Prop) (h : ∀ g, VC_blindstampref18_SameOps g x0 x1 H Q) : GoL env Try.f53 0 [.code bd_blindstampref18_SameOps] [(0, x0), (1, x1)] H Q := ⟨fun g => wp_ok (by have h := h g; rw [vq_blindstampref18_SameOps] at h; exact h)⟩
def VC_blindstampref18_SameOps_4 (g : Nat → AV) (x5 x1 x0 : AV) (H : Heap) (Q : AV → Heap → Prop) : Prop :=
  doQ (qBuiltin env.P false (Heap.get H) (⟨0, 13, Heap.gen H 0 13, 0⟩ : Ref) .len #[63] [x0]) fun v1 =>
  doQ (qBin env.P .lss 3 (.tmp 11) (.tmp 13) (some x5) (some v1)) fun v2 =>
  br (some v2) (
   doQ (qIndexAddr env.P (Heap.get H) 63 (some x0) (some x5)) fun v3 =>
   doQ (qLoad env.P (Heap.get H) 49 (some v3)) fun v4 =>
   doQ (qIndexAddr env.P (Heap.get H) 63 (some x1) (some x5)) fun v5 =>
   doQ (qLoad env.P (Heap.get H) 49 (some v5)) fun v6 =>
   doW (callRes env false (limf env) (limt env 0) H (⟨0, 25, Heap.gen H 0 25, 0⟩ : Ref) (some (.fn (.func 34) [] [])) [v4, v6]) fun v7 H1 =>
   doQ (qUn env.P .not (some v7)) fun v8 =>
   br (some v8) (
    Q (.v (.bool false)) H1) (
    doQ (qBin env.P .add 3 (.tmp 15) (.const (.int .i64 1)) (some x5) (some (.v (.int .i64 1)))) fun v9 =>
    GoL env Try.f53 0 hd_blindstampref18_SameOps_4 [(5, v9), (1, x1), (0, x0)] H1 Q)) (
   Q (.v (.bool true)) H)
theorem vq_blindstampref18_SameOps_4 : VC_blindstampref18_SameOps_4 = fun g x5 x1 x0 H Q => wp env Try.f53 none 0 lv_blindstampref18_SameOps cu_blindstampref18_SameOps Q 500 (bodyOf hd_blindstampref18_SameOps_4) (ofL g [(5, x5), (1, x1), (0, x0)]) H := by kernel_rfl
theorem vc_blindstampref18_SameOps_4 (x5 x1 x0 : AV) (H : Heap) (Q : AV → Heap → Prop) (h : ∀ g, VC_blindstampref18_SameOps_4 g x5 x1 x0 H Q) : GoL env Try.f53 0 hd_blindstampref18_SameOps_4 [(5, x5), (1, x1), (0, x0)] H Q := goL_body fun g => wp_ok (by have h := h g; rw [vq_blindstampref18_SameOps_4] at h; exact h)

/- chain_asked -/
noncomputable def bd_chain_asked : Code := (Try.f88.body).getD .skip
def lv_chain_asked : Nat → Option (List Nat) := fun i => none
def cu_chain_asked : Nat → Bool := fun i => false
def VC_chain_asked (g : Nat → AV) (x0 x1 x2 : AV) (H : Heap) (Q : AV → Heap → Prop) : Prop :=
  doW (nRes H (⟨0, 4, Heap.gen H 0 4, 0⟩ : Ref) (qBox env.P (⟨0, 4, Heap.gen H 0 4, 0⟩ : Ref) 28 (some x1))) fun v1 H1 =>
  doW (nRes H1 (⟨0, 5, Heap.gen H1 0 5, 0⟩ : Ref) (qBox env.P (⟨0, 5, Heap.gen H1 0 5, 0⟩ : Ref) 24 (some x2))) fun v2 H2 =>
  doW (callRes env true (limf env) (limt env 0) H2 (⟨0, 9, Heap.gen H2 0 9, 0⟩ : Ref) (some (.fn (.func 47) [] [])) [x0]) fun v3 H3 =>
  doQ (qBin env.P .neq 35 (.tmp 10) (.const (.int .i64 0)) (some v3) (some (.v (.int .i64 0)))) fun v4 =>
  br (some v4) (
   Q v3 H3) (
   doQ (qLoad env.P (Heap.get H3) 28 (some v1)) fun v5 =>
   doW (callRes env false (limf env) (limt env 0) H3 (⟨0, 14, Heap.gen H3 0 14, 0⟩ : Ref) (some (.fn (.func 77) [] [])) [v5]) fun v6 H4 =>
   doQ (qLoad env.P (Heap.get H4) 24 (some v2)) fun v7 =>
   doW (callRes env false (limf env) (limt env 0) H4 (⟨0, 16, Heap.gen H4 0 16, 0⟩ : Ref) (some (.fn (.func 125) [] [])) [v7]) fun v8 H5 =>
   doQ (qBuiltin env.P true (Heap.get H5) (⟨0, 17, Heap.gen H5 0 17, 0⟩ : Ref) .max #[35, 35] [v6, v8]) fun v9 =>
   Q v9 H5)
theorem vq_chain_asked : VC_chain_asked = fun g x0 x1 x2 H Q => wp env Try.f88 none 0 lv_chain_asked cu_chain_asked Q 500 [.code bd_chain_asked] (ofL g [(0, x0), (1, x1), (2, x2)]) H := by kernel_rfl
theorem vc_chain_asked (x0 x1 x2 : AV) (H : Heap) (Q : AV → Heap → Prop) (h : ∀ g, VC_chain_asked g x0 x1 x2 H Q) : GoL env Try.f88 0 [.code bd_chain_asked] [(0, x0), (1, x1), (2, x2)] H Q := ⟨fun g => wp_ok (by have h := h g; rw [vq_chain_asked] at h; exact h)⟩

/- chain_ShownF1 -/
noncomputable def bd_chain_ShownF1 : Code := (Try.f89.body).getD .skip
def lv_chain_ShownF1 : Nat → Option (List Nat) := fun i => none
def cu_chain_ShownF1 : Nat → Bool := fun i => false
def VC_chain_ShownF1 (g : Nat → AV) (x0 x1 : AV) (H : Heap) (Q : AV → Heap → Prop) : Prop :=
  doW (nRes H (⟨0, 2, Heap.gen H 0 2, 0⟩ : Ref) (qBox env.P (⟨0, 2, Heap.gen H 0 2, 0⟩ : Ref) 24 (some x0))) fun v1 H1 =>
  doQ (qLoad env.P (Heap.get H1) 24 (some v1)) fun v2 =>
  doQ (qLoad env.P (Heap.get H1) 24 (some x1)) fun v3 =>
  doW (callRes env true (limf env) (limt env 0) H1 (⟨0, 6, Heap.gen H1 0 6, 0⟩ : Ref) (some (.fn (.func 38) [] [])) [v2, v3]) fun v4 H2 =>
  doQ (qUn env.P .not (some v4)) fun v5 =>
  Q v5 H2
theorem vq_chain_ShownF1 : VC_chain_ShownF1 = fun g x0 x1 H Q => wp env Try.f89 none 0 lv_chain_ShownF1 cu_chain_ShownF1 Q 500 [.code bd_chain_ShownF1] (ofL g [(0, x0), (1, x1)]) H := by kernel_rfl
theorem vc_chain_ShownF1 (x0 x1 : AV) (H : Heap) (Q : AV → Heap → Prop) (h : ∀ g, VC_chain_ShownF1 g x0 x1 H Q) : GoL env Try.f89 0 [.code bd_chain_ShownF1] [(0, x0), (1, x1)] H Q := ⟨fun g => wp_ok (by have h := h g; rw [vq_chain_ShownF1] at h; exact h)⟩

/- slices_ContainsFunc___blindstamp_api_Label_blindstamp_api_Label_ -/
noncomputable def bd_slices_ContainsFunc___blindstamp_api_Label_blindstamp_api_Label_ : Code := (Try.f90.body).getD .skip
def lv_slices_ContainsFunc___blindstamp_api_Label_blindstamp_api_Label_ : Nat → Option (List Nat) := fun i => none
def cu_slices_ContainsFunc___blindstamp_api_Label_blindstamp_api_Label_ : Nat → Bool := fun i => false
def VC_slices_ContainsFunc___blindstamp_api_Label_blindstamp_api_Label_ (g : Nat → AV) (x0 x1 : AV) (H : Heap) (Q : AV → Heap → Prop) : Prop :=
  doW (callRes env true (limf env) (limt env 0) H (⟨0, 7, Heap.gen H 0 7, 0⟩ : Ref) (some (.fn (.func 126) [] [])) [x0, x1]) fun v1 H1 =>
  doQ (qBin env.P .geq 3 (.tmp 7) (.const (.int .i64 0)) (some v1) (some (.v (.int .i64 0)))) fun v2 =>
  Q v2 H1
theorem vq_slices_ContainsFunc___blindstamp_api_Label_blindstamp_api_Label_ : VC_slices_ContainsFunc___blindstamp_api_Label_blindstamp_api_Label_ = fun g x0 x1 H Q => wp env Try.f90 none 0 lv_slices_ContainsFunc___blindstamp_api_Label_blindstamp_api_Label_ cu_slices_ContainsFunc___blindstamp_api_Label_blindstamp_api_Label_ Q 500 [.code bd_slices_ContainsFunc___blindstamp_api_Label_blindstamp_api_Label_] (ofL g [(0, x0), (1, x1)]) H := by kernel_rfl
theorem vc_slices_ContainsFunc___blindstamp_api_Label_blindstamp_api_Label_ (x0 x1 : AV) (H : Heap) (Q : AV → Heap → Prop) (h : ∀ g, VC_slices_ContainsFunc___blindstamp_api_Label_blindstamp_api_Label_ g x0 x1 H Q) : GoL env Try.f90 0 [.code bd_slices_ContainsFunc___blindstamp_api_Label_blindstamp_api_Label_] [(0, x0), (1, x1)] H Q := ⟨fun g => wp_ok (by have h := h g; rw [vq_slices_ContainsFunc___blindstamp_api_Label_blindstamp_api_Label_] at h; exact h)⟩

/- chain_made -/
noncomputable def bd_chain_made : Code := (Try.f91.body).getD .skip
noncomputable def rh_chain_made_10003 : List Item := (findRange 10003 400 [.code bd_chain_made]).getD []
noncomputable def ra_chain_made_10003 : Code := rfA rh_chain_made_10003
noncomputable def rb_chain_made_10003 : Code := rfB rh_chain_made_10003
noncomputable def rk_chain_made_10003 : List Item := rfK rh_chain_made_10003
def lv_chain_made : Nat → Option (List Nat) := fun i => cond (Nat.beq i 10003) (some [16, 7]) (none)
def cu_chain_made : Nat → Bool := fun i => false
def VC_chain_made (g : Nat → AV) (x0 x1 x2 : AV) (H : Heap) (Q : AV → Heap → Prop) : Prop :=
  doW (nRes H (⟨0, 4, Heap.gen H 0 4, 0⟩ : Ref) (qBox env.P (⟨0, 4, Heap.gen H 0 4, 0⟩ : Ref) 28 (some x1))) fun v1 H1 =>
  doW (nRes H1 (⟨0, 5, Heap.gen H1 0 5, 0⟩ : Ref) (qBox env.P (⟨0, 5, Heap.gen H1 0 5, 0⟩ : Ref) 24 (some x2))) fun v2 H2 =>
  doQ (qFieldAddr env.P 28 (some v1) 0) fun v3 =>
  doQ (qFieldAddr env.P 26 (some v3) 0) fun v4 =>
  doQ (qLoad env.P (Heap.get H2) 24 (some v4)) fun v5 =>
  doW (bsRes env.P false true H2 (⟨0, 12, Heap.gen H2 0 12, 0⟩ : Ref) 72 1 (some [(0, v5)])) fun v6 H3 =>
  doW (nRes H3 (⟨0, 7, Heap.gen H3 0 7, 0⟩ : Ref) (qAlloc env.P (⟨0, 7, Heap.gen H3 0 7, 0⟩ : Ref) 72)) fun v7 H4 =>
  doW (wStore env.P H4 72 (some v7) (some v6)) fun v8 H5 =>
  doQ (qLoad env.P (Heap.get H5) 28 (some v1)) fun v9 =>
  doQ (qLoad env.P (Heap.get H5) 24 (some v2)) fun v10 =>
  doW (callRes env true (limf env) (limt env 0) H5 (⟨0, 16, Heap.gen H5 0 16, 0⟩ : Ref) (some (.fn (.func 127) [] [])) [x0, v9, v10]) fun v11 H6 =>
  GoL env Try.f91 0 rh_chain_made_10003 [(16, v11), (7, v7)] H6 Q
theorem vq_chain_made : VC_chain_made = fun g x0 x1 x2 H Q => wp env Try.f91 none 0 lv_chain_made cu_chain_made Q 500 [.code bd_chain_made] (ofL g [(0, x0), (1, x1), (2, x2)]) H := by kernel_rfl
theorem vc_chain_made (x0 x1 x2 : AV) (H : Heap) (Q : AV → Heap → Prop) (h : ∀ g, VC_chain_made g x0 x1 x2 H Q) : GoL env Try.f91 0 [.code bd_chain_made] [(0, x0), (1, x1), (2, x2)] H Q := ⟨fun g => wp_ok (by have h := h g; rw [vq_chain_made] at h; exact h)⟩
def VC_chain_made_10003K (g : Nat → AV) (x7 : AV) (H : Heap) (Q : AV → Heap → Prop) : Prop :=
  doQ (qLoad env.P (Heap.get H) 72 (some x7)) fun v1 =>
  Q v1 H
theorem vq_chain_made_10003K : VC_chain_made_10003K = fun g x7 H Q => wp env Try.f91 none 0 lv_chain_made cu_chain_made Q 500 rk_chain_made_10003 (ofL g [(7, x7)]) H := by kernel_rfl
theorem vc_chain_made_10003K (x7 : AV) (H : Heap) (Q : AV → Heap → Prop) (h : ∀ g, VC_chain_made_10003K g x7 H Q) : GoL env Try.f91 0 rk_chain_made_10003 [(7, x7)] H Q := ⟨fun g => wp_ok (by have h := h g; rw [vq_chain_made_10003K] at h; exact h)⟩
def VC_chain_made_10003 (r : Ref) (g : Nat → AV) (x7 x17 : AV) (H : Heap) (Q : AV → Heap → Prop) : Prop :=
  doW (nRes H (⟨2, 8, Heap.gen H 2 8, 0⟩ : Ref) (qAlloc env.P (⟨2, 8, Heap.gen H 2 8, 0⟩ : Ref) 24)) fun v1 H1 =>
  doW (wStore env.P H1 24 (some v1) (some x17)) fun v2 H2 =>
  bgP (lpAt H2 r) fun i3 =>
  doQ (qLoad env.P (Heap.get (Heap.put H2 r (some (lpBlk 1 i3)))) 72 (some x7)) fun v4 =>
  doQ (qLoad env.P (Heap.get (Heap.put H2 r (some (lpBlk 1 i3)))) 24 (some v1)) fun v5 =>
  doW (callRes env true (limf env) (limt env 2) (Heap.put H2 r (some (lpBlk 1 i3))) (⟨2, 20, Heap.gen (Heap.put H2 r (some (lpBlk 1 i3))) 2 20, 0⟩ : Ref) (some (.fn (.func 128) [] [])) [v4, v5]) fun v6 H3 =>
  doQ (qUn env.P .not (some v6)) fun v7 =>
  br (some v7) (
   doQ (qLoad env.P (Heap.get H3) 72 (some x7)) fun v8 =>
   doQ (qLoad env.P (Heap.get H3) 24 (some v1)) fun v9 =>
   doW (bsRes env.P false true H3 (⟨2, 24, Heap.gen H3 2 24, 0⟩ : Ref) 72 1 (some [(0, v9)])) fun v10 H4 =>
   doW (appRes env.P true H4 (⟨2, 25, Heap.gen H4 2 25, 0⟩ : Ref) (some 72) (some 72) v8 v10) fun v11 H5 =>
   doW (wStore env.P H5 72 (some x7) (some v11)) fun v12 H6 =>
   Q (.v (.int .i64 0)) H6) (
   Q (.v (.int .i64 0)) H3)
theorem vq_chain_made_10003 (r : Ref) : VC_chain_made_10003 r = fun g x7 x17 H Q => wp env Try.f91 (some r) 2 lv_chain_made cu_chain_made Q 500 [.code ra_chain_made_10003, .beginRound, .code rb_chain_made_10003] (ofL g [(7, x7), (17, x17)]) H := by kernel_rfl
theorem vc_chain_made_10003 (r : Ref) (x7 x17 : AV) (H : Heap) (Q : AV → Heap → Prop) (h : ∀ g, VC_chain_made_10003 r g x7 x17 H Q) : GoX env Try.f91 (some r) 2 [.code ra_chain_made_10003, .beginRound, .code rb_chain_made_10003] [(7, x7), (17, x17)] H Q := ⟨fun g => wp_ok (by have h := h g; rw [vq_chain_made_10003] at h; exact h)⟩

/- chain_fits -/
noncomputable def bd_chain_fits : Code := (Try.f93.body).getD .skip
noncomputable def hd_chain_fits_5 : List Item := (findLoop 5 400 [.code bd_chain_fits]).getD []
def lv_chain_fits : Nat → Option (List Nat) := fun i => cond (Nat.beq i 5) (some [21, 3, 0, 5, 20]) (none)
def cu_chain_fits : Nat → Bool := fun i => false
def VC_chain_fits (g : Nat → AV) (x0 x1 : AV) (H : Heap) (Q : AV → Heap → Prop) : Prop :=
  doW (nRes H (⟨0, 3, Heap.gen H 0 3, 0⟩ : Ref) (qBox env.P (⟨0, 3, Heap.gen H 0 3, 0⟩ : Ref) 49 (some x1))) fun v1 H1 =>
  doQ (qFieldAddr env.P 49 (some v1) 0) fun v2 =>
  doQ (qLoad env.P (Heap.get H1) 5 (some v2)) fun v3 =>
  doQ (qBin env.P .neq 5 (.tmp 10) (.const (.int .u8 3)) (some v3) (some (a8 3))) fun v4 =>
  br (some v4) (
   Q (.v (.bool true)) H1) (
   doQ (qFieldAddr env.P 49 (some v1) 1) fun v5 =>
   doQ (qFieldAddr env.P 26 (some v5) 0) fun v6 =>
   doQ (qLoad env.P (Heap.get H1) 24 (some v6)) fun v7 =>
   doQ (qFieldAddr env.P 49 (some v1) 5) fun v8 =>
   doQ (qLoad env.P (Heap.get H1) 24 (some v8)) fun v9 =>
   doW (callRes env true (limf env) (limt env 0) H1 (⟨0, 17, Heap.gen H1 0 17, 0⟩ : Ref) (some (.fn (.func 38) [] [])) [v7, v9]) fun v10 H2 =>
   doQ (qFieldAddr env.P 49 (some v1) 3) fun v11 =>
   doQ (qFieldAddr env.P 30 (some v11) 1) fun v12 =>
   doQ (qLoad env.P (Heap.get H2) 3 (some v12)) fun v13 =>
   GoL env Try.f93 0 hd_chain_fits_5 [(21, (.v (.int .i64 0))), (3, v1), (0, x0), (5, v10), (20, v13)] H2 Q)
theorem vq_chain_fits : VC_chain_fits = fun g x0 x1 H Q => wp env Try.f93 none 0 lv_chain_fits cu_chain_fits Q 500 [.code bd_chain_fits] (ofL g [(0, x0), (1, x1)]) H := by kernel_rfl
theorem vc_chain_fits (x0 x1 : AV) (H : Heap) (Q : AV → Heap → Prop) (h : ∀ g, VC_chain_fits g x0 x1 H Q) : GoL env Try.f93 0 [.code bd_chain_fits] [(0, x0), (1, x1)] H Q := ⟨fun g => wp_ok (by have h := h g; rw [vq_chain_fits] at h; exact h)⟩
def VC_chain_fits_5 (g : Nat → AV) (x21 x3 x0 x5 x20 : AV) (H : Heap) (Q : AV → Heap → Prop) : Prop :=
  doQ (qBin env.P .lss 3 (.tmp 21) (.tmp 20) (some x21) (some x20)) fun v1 =>
  br (some v1) (
   doQ (qFieldAddr env.P 49 (some x3) 3) fun v2 =>
   doQ (qLoad env.P (Heap.get H) 30 (some v2)) fun v3 =>
   doW (callRes env true (limf env) (limt env 0) H (⟨0, 28, Heap.gen H 0 28, 0⟩ : Ref) (some (.fn (.func 74) [] [])) [v3, x21]) fun v4 H1 =>
   doQ (qExtract (some v4) 0) fun v5 =>
   doQ (qExtract (some v4) 1) fun v6 =>
   doW (nRes H1 (⟨0, 7, Heap.gen H1 0 7, 0⟩ : Ref) (qAlloc env.P (⟨0, 7, Heap.gen H1 0 7, 0⟩ : Ref) 28)) fun v7 H2 =>
   doW (wStore env.P H2 28 (some v7) (some v5)) fun v8 H3 =>
   gQ x5 true (qVal (some x0)) fun v9 =>
   gQ x5 true (qLoad env.P (Heap.get H3) 28 (some v7)) fun v10 =>
   gQ x5 true (qFieldAddr env.P 49 (some x3) 1) fun v11 =>
   gQ x5 true (qFieldAddr env.P 26 (some v11) 0) fun v12 =>
   gQ x5 true (qLoad env.P (Heap.get H3) 24 (some v12)) fun v13 =>
   gW x5 true H3 (callRes env false (limf env) (limt env 0) H3 (⟨0, 38, Heap.gen H3 0 38, 0⟩ : Ref) (some (.fn (.func 91) [] [])) [v9, v10, v13]) fun v14 H4 =>
   gQ x5 true (qFieldAddr env.P 49 (some x3) 1) fun v15 =>
   gQ x5 true (qFieldAddr env.P 26 (some v15) 0) fun v16 =>
   gQ x5 true (qLoad env.P (Heap.get H4) 24 (some v16)) fun v17 =>
   gW x5 true H4 (callRes env false (limf env) (limt env 0) H4 (⟨0, 42, Heap.gen H4 0 42, 0⟩ : Ref) (some (.fn (.func 128) [] [])) [v14, v17]) fun v18 H5 =>
   doQ (pickF (some x5) (some v18) (some (.v (.bool false)))) fun v19 =>
   doQ (qUn env.P .not (some v19)) fun v20 =>
   br (some v20) (
    Q v19 H5) (
    doQ (qBin env.P .add 3 (.tmp 21) (.const (.int .i64 1)) (some x21) (some (.v (.int .i64 1)))) fun v21 =>
    GoL env Try.f93 0 hd_chain_fits_5 [(21, v21), (3, x3), (0, x0), (5, v19), (20, x20)] H5 Q)) (
   Q x5 H)
theorem vq_chain_fits_5 : VC_chain_fits_5 = fun g x21 x3 x0 x5 x20 H Q => wp env Try.f93 none 0 lv_chain_fits cu_chain_fits Q 500 (bodyOf hd_chain_fits_5) (ofL g [(21, x21), (3, x3), (0, x0), (5, x5), (20, x20)]) H := by kernel_rfl
theorem vc_chain_fits_5 (x21 x3 x0 x5 x20 : AV) (H : Heap) (Q : AV → Heap → Prop) (h : ∀ g, VC_chain_fits_5 g x21 x3 x0 x5 x20 H Q) : GoL env Try.f93 0 hd_chain_fits_5 [(21, x21), (3, x3), (0, x0), (5, x5), (20, x20)] H Q := goL_body fun g => wp_ok (by have h := h g; rw [vq_chain_fits_5] at h; exact h)

/- blindstampref18_asked -/
noncomputable def bd_blindstampref18_asked : Code := (Try.f94.body).getD .skip
def lv_blindstampref18_asked : Nat → Option (List Nat) := fun i => none
def cu_blindstampref18_asked : Nat → Bool := fun i => false
def VC_blindstampref18_asked (g : Nat → AV) (x0 x1 x2 : AV) (H : Heap) (Q : AV → Heap → Prop) : Prop :=
  doW (nRes H (⟨0, 4, Heap.gen H 0 4, 0⟩ : Ref) (qBox env.P (⟨0, 4, Heap.gen H 0 4, 0⟩ : Ref) 28 (some x1))) fun v1 H1 =>
  doW (nRes H1 (⟨0, 5, Heap.gen H1 0 5, 0⟩ : Ref) (qBox env.P (⟨0, 5, Heap.gen H1 0 5, 0⟩ : Ref) 24 (some x2))) fun v2 H2 =>
  doW (callRes env true (limf env) (limt env 0) H2 (⟨0, 9, Heap.gen H2 0 9, 0⟩ : Ref) (some (.fn (.func 52) [] [])) [x0]) fun v3 H3 =>
  doQ (qBin env.P .eql 3 (.tmp 10) (.const (.int .i64 0)) (some v3) (some (.v (.int .i64 0)))) fun v4 =>
  gQ v4 true (qLoad env.P (Heap.get H3) 28 (some v1)) fun v5 =>
  gW v4 true H3 (callRes env true (limf env) (limt env 0) H3 (⟨0, 14, Heap.gen H3 0 14, 0⟩ : Ref) (some (.fn (.func 121) [] [])) [v5]) fun v6 H4 =>
  gQ v4 true (qUn env.P .not (some v6)) fun v7 =>
  gQ v4 true (qVal (some v7)) fun v8 =>
  gQ v8 false (qLoad env.P (Heap.get H4) 24 (some v2)) fun v9 =>
  gW v8 false H4 (callRes env true (limf env) (limt env 0) H4 (⟨0, 18, Heap.gen H4 0 18, 0⟩ : Ref) (some (.fn (.func 123) [] [])) [v9]) fun v10 H5 =>
  gQ v8 false (qUn env.P .not (some v10)) fun v11 =>
  gQ v4 true (pickF (some v8) (some (.v (.bool true))) (some v11)) fun v12 =>
  doQ (pickF (some v4) (some v12) (some (.v (.bool false)))) fun v13 =>
  br (some v13) (
   Q (.v (.int .i64 8)) H5) (
   Q v3 H5)
theorem vq_blindstampref18_asked : VC_blindstampref18_asked = fun g x0 x1 x2 H Q => wp env Try.f94 none 0 lv_blindstampref18_asked cu_blindstampref18_asked Q 500 [.code bd_blindstampref18_asked] (ofL g [(0, x0), (1, x1), (2, x2)]) H := by kernel_rfl
theorem vc_blindstampref18_asked (x0 x1 x2 : AV) (H : Heap) (Q : AV → Heap → Prop) (h : ∀ g, VC_blindstampref18_asked g x0 x1 x2 H Q) : GoL env Try.f94 0 [.code bd_blindstampref18_asked] [(0, x0), (1, x1), (2, x2)] H Q := ⟨fun g => wp_ok (by have h := h g; rw [vq_blindstampref18_asked] at h; exact h)⟩

/- blindstampref18_Of -/
noncomputable def bd_blindstampref18_Of : Code := (Try.f95.body).getD .skip
noncomputable def hd_blindstampref18_Of_4 : List Item := (findLoop 4 400 [.code bd_blindstampref18_Of]).getD []
def lv_blindstampref18_Of : Nat → Option (List Nat) := fun i => cond (Nat.beq i 4) (some [9, 8, 7]) (none)
def cu_blindstampref18_Of : Nat → Bool := fun i => false
def VC_blindstampref18_Of (g : Nat → AV) (x0 x1 x2 : AV) (H : Heap) (Q : AV → Heap → Prop) : Prop :=
  doW (nRes H (⟨0, 4, Heap.gen H 0 4, 0⟩ : Ref) (qBox env.P (⟨0, 4, Heap.gen H 0 4, 0⟩ : Ref) 28 (some x1))) fun v1 H1 =>
  doW (nRes H1 (⟨0, 5, Heap.gen H1 0 5, 0⟩ : Ref) (qBox env.P (⟨0, 5, Heap.gen H1 0 5, 0⟩ : Ref) 24 (some x2))) fun v2 H2 =>
  doQ (qFieldAddr env.P 28 (some v1) 0) fun v3 =>
  doQ (qFieldAddr env.P 26 (some v3) 0) fun v4 =>
  doQ (qLoad env.P (Heap.get H2) 24 (some v4)) fun v5 =>
  doW (bsRes env.P false true H2 (⟨0, 13, Heap.gen H2 0 13, 0⟩ : Ref) 72 1 (some [(0, v5)])) fun v6 H3 =>
  doQ (qLoad env.P (Heap.get H3) 28 (some v1)) fun v7 =>
  doQ (qLoad env.P (Heap.get H3) 24 (some v2)) fun v8 =>
  doW (callRes env true (limf env) (limt env 0) H3 (⟨0, 17, Heap.gen H3 0 17, 0⟩ : Ref) (some (.fn (.func 129) [] [])) [x0, v7, v8]) fun v9 H4 =>
  GoL env Try.f95 0 hd_blindstampref18_Of_4 [(9, (.v (.int .i64 0))), (8, v9), (7, v6)] H4 Q
theorem vq_blindstampref18_Of : VC_blindstampref18_Of = fun g x0 x1 x2 H Q => wp env Try.f95 none 0 lv_blindstampref18_Of cu_blindstampref18_Of Q 500 [.code bd_blindstampref18_Of] (ofL g [(0, x0), (1, x1), (2, x2)]) H := by kernel_rfl
theorem vc_blindstampref18_Of (x0 x1 x2 : AV) (H : Heap) (Q : AV → Heap → Prop) (h : ∀ g, VC_blindstampref18_Of g x0 x1 x2 H Q) : GoL env Try.f95 0 [.code bd_blindstampref18_Of] [(0, x0), (1, x1), (2, x2)] H Q := ⟨fun g => wp_ok (by have h := h g; rw [vq_blindstampref18_Of] at h; exact h)⟩
def VC_blindstampref18_Of_4 (g : Nat → AV) (x9 x8 x7 : AV) (H : Heap) (Q : AV → Heap → Prop) : Prop :=
  doQ (qBuiltin env.P false (Heap.get H) (⟨0, 20, Heap.gen H 0 20, 0⟩ : Ref) .len #[72] [x8]) fun v1 =>
  doQ (qBin env.P .lss 3 (.tmp 18) (.tmp 20) (some x9) (some v1)) fun v2 =>
  br (some v2) (
   doQ (qIndexAddr env.P (Heap.get H) 72 (some x8) (some x9)) fun v3 =>
   doQ (qLoad env.P (Heap.get H) 24 (some v3)) fun v4 =>
   doW (callRes env true (limf env) (limt env 0) H (⟨0, 29, Heap.gen H 0 29, 0⟩ : Ref) (some (.fn (.func 130) [] [])) [x7, v4]) fun v5 H1 =>
   doQ (qUn env.P .not (some v5)) fun v6 =>
   br (some v6) (
    doQ (qIndexAddr env.P (Heap.get H1) 72 (some x8) (some x9)) fun v7 =>
    doQ (qLoad env.P (Heap.get H1) 24 (some v7)) fun v8 =>
    doW (bsRes env.P false true H1 (⟨0, 36, Heap.gen H1 0 36, 0⟩ : Ref) 72 1 (some [(0, v8)])) fun v9 H2 =>
    doW (appRes env.P true H2 (⟨0, 37, Heap.gen H2 0 37, 0⟩ : Ref) (some 72) (some 72) x7 v9) fun v10 H3 =>
    doQ (qBin env.P .add 3 (.tmp 22) (.const (.int .i64 1)) (some x9) (some (.v (.int .i64 1)))) fun v11 =>
    GoL env Try.f95 0 hd_blindstampref18_Of_4 [(9, v11), (8, x8), (7, v10)] H3 Q) (
    doQ (qBin env.P .add 3 (.tmp 22) (.const (.int .i64 1)) (some x9) (some (.v (.int .i64 1)))) fun v7 =>
    GoL env Try.f95 0 hd_blindstampref18_Of_4 [(9, v7), (8, x8), (7, x7)] H1 Q)) (
   Q x7 H)
theorem vq_blindstampref18_Of_4 : VC_blindstampref18_Of_4 = fun g x9 x8 x7 H Q => wp env Try.f95 none 0 lv_blindstampref18_Of cu_blindstampref18_Of Q 500 (bodyOf hd_blindstampref18_Of_4) (ofL g [(9, x9), (8, x8), (7, x7)]) H := by kernel_rfl
theorem vc_blindstampref18_Of_4 (x9 x8 x7 : AV) (H : Heap) (Q : AV → Heap → Prop) (h : ∀ g, VC_blindstampref18_Of_4 g x9 x8 x7 H Q) : GoL env Try.f95 0 hd_blindstampref18_Of_4 [(9, x9), (8, x8), (7, x7)] H Q := goL_body fun g => wp_ok (by have h := h g; rw [vq_blindstampref18_Of_4] at h; exact h)

/- blindstampref18_Is -/
noncomputable def bd_blindstampref18_Is : Code := (Try.f96.body).getD .skip
noncomputable def hd_blindstampref18_Is_3 : List Item := (findLoop 3 400 [.code bd_blindstampref18_Is]).getD []
def lv_blindstampref18_Is : Nat → Option (List Nat) := fun i => cond (Nat.beq i 3) (some [8, 5, 7, 4]) (none)
def cu_blindstampref18_Is : Nat → Bool := fun i => false
def VC_blindstampref18_Is (g : Nat → AV) (x0 x1 x2 : AV) (H : Heap) (Q : AV → Heap → Prop) : Prop :=
  doW (nRes H (⟨0, 4, Heap.gen H 0 4, 0⟩ : Ref) (qBox env.P (⟨0, 4, Heap.gen H 0 4, 0⟩ : Ref) 28 (some x1))) fun v1 H1 =>
  doW (nRes H1 (⟨0, 5, Heap.gen H1 0 5, 0⟩ : Ref) (qBox env.P (⟨0, 5, Heap.gen H1 0 5, 0⟩ : Ref) 24 (some x2))) fun v2 H2 =>
  doQ (qLoad env.P (Heap.get H2) 28 (some v1)) fun v3 =>
  doQ (qLoad env.P (Heap.get H2) 24 (some v2)) fun v4 =>
  doW (callRes env true (limf env) (limt env 0) H2 (⟨0, 12, Heap.gen H2 0 12, 0⟩ : Ref) (some (.fn (.func 129) [] [])) [x0, v3, v4]) fun v5 H3 =>
  GoL env Try.f96 0 hd_blindstampref18_Is_3 [(8, (.v (.int .i64 0))), (5, v2), (7, v5), (4, v1)] H3 Q
theorem vq_blindstampref18_Is : VC_blindstampref18_Is = fun g x0 x1 x2 H Q => wp env Try.f96 none 0 lv_blindstampref18_Is cu_blindstampref18_Is Q 500 [.code bd_blindstampref18_Is] (ofL g [(0, x0), (1, x1), (2, x2)]) H := by kernel_rfl
theorem vc_blindstampref18_Is (x0 x1 x2 : AV) (H : Heap) (Q : AV → Heap → Prop) (h : ∀ g, VC_blindstampref18_Is g x0 x1 x2 H Q) : GoL env Try.f96 0 [.code bd_blindstampref18_Is] [(0, x0), (1, x1), (2, x2)] H Q := ⟨fun g => wp_ok (by have h := h g; rw [vq_blindstampref18_Is] at h; exact h)⟩
def VC_blindstampref18_Is_3 (g : Nat → AV) (x8 x5 x7 x4 : AV) (H : Heap) (Q : AV → Heap → Prop) : Prop :=
  doQ (qBuiltin env.P false (Heap.get H) (⟨0, 15, Heap.gen H 0 15, 0⟩ : Ref) .len #[72] [x7]) fun v1 =>
  doQ (qBin env.P .lss 3 (.tmp 13) (.tmp 15) (some x8) (some v1)) fun v2 =>
  br (some v2) (
   doQ (qIndexAddr env.P (Heap.get H) 72 (some x7) (some x8)) fun v3 =>
   doQ (qLoad env.P (Heap.get H) 24 (some v3)) fun v4 =>
   doQ (qLoad env.P (Heap.get H) 24 (some x5)) fun v5 =>
   doW (callRes env false (limf env) (limt env 0) H (⟨0, 24, Heap.gen H 0 24, 0⟩ : Ref) (some (.fn (.func 131) [] [])) [v4, v5]) fun v6 H1 =>
   doQ (qUn env.P .not (some v6)) fun v7 =>
   br (some v7) (
    Q (.v (.bool false)) H1) (
    doQ (qBin env.P .add 3 (.tmp 17) (.const (.int .i64 1)) (some x8) (some (.v (.int .i64 1)))) fun v8 =>
    GoL env Try.f96 0 hd_blindstampref18_Is_3 [(8, v8), (5, x5), (7, x7), (4, x4)] H1 Q)) (
   doQ (qFieldAddr env.P 28 (some x4) 0) fun v3 =>
   doQ (qFieldAddr env.P 26 (some v3) 0) fun v4 =>
   doQ (qLoad env.P (Heap.get H) 24 (some v4)) fun v5 =>
   doQ (qLoad env.P (Heap.get H) 24 (some x5)) fun v6 =>
   doW (callRes env true (limf env) (limt env 0) H (⟨0, 30, Heap.gen H 0 30, 0⟩ : Ref) (some (.fn (.func 131) [] [])) [v5, v6]) fun v7 H1 =>
   Q v7 H1)
theorem vq_blindstampref18_Is_3 : VC_blindstampref18_Is_3 = fun g x8 x5 x7 x4 H Q => wp env Try.f96 none 0 lv_blindstampref18_Is cu_blindstampref18_Is Q 500 (bodyOf hd_blindstampref18_Is_3) (ofL g [(8, x8), (5, x5), (7, x7), (4, x4)]) H := by kernel_rfl
theorem vc_blindstampref18_Is_3 (x8 x5 x7 x4 : AV) (H : Heap) (Q : AV → Heap → Prop) (h : ∀ g, VC_blindstampref18_Is_3 g x8 x5 x7 x4 H Q) : GoL env Try.f96 0 hd_blindstampref18_Is_3 [(8, x8), (5, x5), (7, x7), (4, x4)] H Q := goL_body fun g => wp_ok (by have h := h g; rw [vq_blindstampref18_Is_3] at h; exact h)

/- blindstampref18_Rightly -/
noncomputable def bd_blindstampref18_Rightly : Code := (Try.f97.body).getD .skip
noncomputable def hd_blindstampref18_Rightly_5 : List Item := (findLoop 5 400 [.code bd_blindstampref18_Rightly]).getD []
def lv_blindstampref18_Rightly : Nat → Option (List Nat) := fun i => cond (Nat.beq i 5) (some [6, 3, 5, 0]) (none)
def cu_blindstampref18_Rightly : Nat → Bool := fun i => false
def VC_blindstampref18_Rightly (g : Nat → AV) (x0 x1 : AV) (H : Heap) (Q : AV → Heap → Prop) : Prop :=
  doW (nRes H (⟨0, 3, Heap.gen H 0 3, 0⟩ : Ref) (qBox env.P (⟨0, 3, Heap.gen H 0 3, 0⟩ : Ref) 49 (some x1))) fun v1 H1 =>
  doQ (qFieldAddr env.P 49 (some v1) 0) fun v2 =>
  doQ (qLoad env.P (Heap.get H1) 5 (some v2)) fun v3 =>
  doQ (qBin env.P .neq 5 (.tmp 8) (.const (.int .u8 3)) (some v3) (some (a8 3))) fun v4 =>
  br (some v4) (
   Q (.v (.bool true)) H1) (
   doQ (qFieldAddr env.P 49 (some v1) 3) fun v5 =>
   doQ (qLoad env.P (Heap.get H1) 30 (some v5)) fun v6 =>
   doW (callRes env true (limf env) (limt env 0) H1 (⟨0, 12, Heap.gen H1 0 12, 0⟩ : Ref) (some (.fn (.func 132) [] [])) [v6]) fun v7 H2 =>
   GoL env Try.f97 0 hd_blindstampref18_Rightly_5 [(6, (.v (.int .i64 0))), (3, v1), (5, v7), (0, x0)] H2 Q)
theorem vq_blindstampref18_Rightly : VC_blindstampref18_Rightly = fun g x0 x1 H Q => wp env Try.f97 none 0 lv_blindstampref18_Rightly cu_blindstampref18_Rightly Q 500 [.code bd_blindstampref18_Rightly] (ofL g [(0, x0), (1, x1)]) H := by kernel_rfl
theorem vc_blindstampref18_Rightly (x0 x1 : AV) (H : Heap) (Q : AV → Heap → Prop) (h : ∀ g, VC_blindstampref18_Rightly g x0 x1 H Q) : GoL env Try.f97 0 [.code bd_blindstampref18_Rightly] [(0, x0), (1, x1)] H Q := ⟨fun g => wp_ok (by have h := h g; rw [vq_blindstampref18_Rightly] at h; exact h)⟩
def VC_blindstampref18_Rightly_5 (g : Nat → AV) (x6 x3 x5 x0 : AV) (H : Heap) (Q : AV → Heap → Prop) : Prop :=
  doQ (qBuiltin env.P false (Heap.get H) (⟨0, 15, Heap.gen H 0 15, 0⟩ : Ref) .len #[176] [x5]) fun v1 =>
  doQ (qBin env.P .lss 3 (.tmp 13) (.tmp 15) (some x6) (some v1)) fun v2 =>
  br (some v2) (
   doQ (qIndexAddr env.P (Heap.get H) 176 (some x5) (some x6)) fun v3 =>
   doQ (qLoad env.P (Heap.get H) 28 (some v3)) fun v4 =>
   doQ (qFieldAddr env.P 49 (some x3) 1) fun v5 =>
   doQ (qFieldAddr env.P 26 (some v5) 0) fun v6 =>
   doQ (qLoad env.P (Heap.get H) 24 (some v6)) fun v7 =>
   doW (callRes env false (limf env) (limt env 0) H (⟨0, 27, Heap.gen H 0 27, 0⟩ : Ref) (some (.fn (.func 95) [] [])) [x0, v4, v7]) fun v8 H1 =>
   doQ (qFieldAddr env.P 49 (some x3) 1) fun v9 =>
   doQ (qFieldAddr env.P 26 (some v9) 0) fun v10 =>
   doQ (qLoad env.P (Heap.get H1) 24 (some v10)) fun v11 =>
   doW (callRes env false (limf env) (limt env 0) H1 (⟨0, 31, Heap.gen H1 0 31, 0⟩ : Ref) (some (.fn (.func 130) [] [])) [v8, v11]) fun v12 H2 =>
   doQ (qUn env.P .not (some v12)) fun v13 =>
   br (some v13) (
    Q (.v (.bool false)) H2) (
    doQ (qBin env.P .add 3 (.tmp 17) (.const (.int .i64 1)) (some x6) (some (.v (.int .i64 1)))) fun v14 =>
    GoL env Try.f97 0 hd_blindstampref18_Rightly_5 [(6, v14), (3, x3), (5, x5), (0, x0)] H2 Q)) (
   doQ (qFieldAddr env.P 49 (some x3) 1) fun v3 =>
   doQ (qFieldAddr env.P 26 (some v3) 0) fun v4 =>
   doQ (qLoad env.P (Heap.get H) 24 (some v4)) fun v5 =>
   doQ (qFieldAddr env.P 49 (some x3) 5) fun v6 =>
   doQ (qLoad env.P (Heap.get H) 24 (some v6)) fun v7 =>
   doW (callRes env true (limf env) (limt env 0) H (⟨0, 38, Heap.gen H 0 38, 0⟩ : Ref) (some (.fn (.func 131) [] [])) [v5, v7]) fun v8 H1 =>
   Q v8 H1)
theorem vq_blindstampref18_Rightly_5 : VC_blindstampref18_Rightly_5 = fun g x6 x3 x5 x0 H Q => wp env Try.f97 none 0 lv_blindstampref18_Rightly cu_blindstampref18_Rightly Q 500 (bodyOf hd_blindstampref18_Rightly_5) (ofL g [(6, x6), (3, x3), (5, x5), (0, x0)]) H := by kernel_rfl
theorem vc_blindstampref18_Rightly_5 (x6 x3 x5 x0 : AV) (H : Heap) (Q : AV → Heap → Prop) (h : ∀ g, VC_blindstampref18_Rightly_5 g x6 x3 x5 x0 H Q) : GoL env Try.f97 0 hd_blindstampref18_Rightly_5 [(6, x6), (3, x3), (5, x5), (0, x0)] H Q := goL_body fun g => wp_ok (by have h := h g; rw [vq_blindstampref18_Rightly_5] at h; exact h)

/- blindstampref18_Right -/
noncomputable def bd_blindstampref18_Right : Code := (Try.f98.body).getD .skip
noncomputable def hd_blindstampref18_Right_2 : List Item := (findLoop 2 400 [.code bd_blindstampref18_Right]).getD []
def lv_blindstampref18_Right : Nat → Option (List Nat) := fun i => cond (Nat.beq i 2) (some [3, 0]) (none)
def cu_blindstampref18_Right : Nat → Bool := fun i => false
def VC_blindstampref18_Right (g : Nat → AV) (x0 : AV) (H : Heap) (Q : AV → Heap → Prop) : Prop :=
  GoL env Try.f98 0 hd_blindstampref18_Right_2 [(3, (.v (.int .i64 0))), (0, x0)] H Q
theorem vq_blindstampref18_Right : VC_blindstampref18_Right = fun g x0 H Q => wp env Try.f98 none 0 lv_blindstampref18_Right cu_blindstampref18_Right Q 500 [.code bd_blindstampref18_Right] (ofL g [(0, x0)]) H := by kernel_rfl
theorem vc_blindstampref18_Right (x0 : AV) (H : Heap) (Q : AV → Heap → Prop) (h : ∀ g, VC_blindstampref18_Right g x0 H Q) : GoL env Try.f98 0 [.code bd_blindstampref18_Right] [(0, x0)] H Q := ⟨fun g => wp_ok (by have h := h g; rw [vq_blindstampref18_Right] at h; exact h)⟩
def VC_blindstampref18_Right_2 (g : Nat → AV) (x3 x0 : AV) (H : Heap) (Q : AV → Heap → Prop) : Prop :=
  doQ (qBuiltin env.P false (Heap.get H) (⟨0, 6, Heap.gen H 0 6, 0⟩ : Ref) .len #[63] [x0]) fun v1 =>
  doQ (qBin env.P .lss 3 (.tmp 4) (.tmp 6) (some x3) (some v1)) fun v2 =>
  br (some v2) (
   doQ (qIndexAddr env.P (Heap.get H) 63 (some x0) (some x3)) fun v3 =>
   doQ (qLoad env.P (Heap.get H) 49 (some v3)) fun v4 =>
   doW (callRes env false (limf env) (limt env 0) H (⟨0, 14, Heap.gen H 0 14, 0⟩ : Ref) (some (.fn (.func 82) [] [])) [v4]) fun v5 H1 =>
   doQ (qUn env.P .not (some v5)) fun v6 =>
   gQ v6 false (qVal (some x0)) fun v7 =>
   gQ v6 false (qVal (some x3)) fun v8 =>
   gQ v6 false (qSlice env.P (Heap.get H1) 63 (some v7) (some none) (oi v8) (some none)) fun v9 =>
   gQ v6 false (qVal (some x0)) fun v10 =>
   gQ v6 false (qVal (some x3)) fun v11 =>
   gQ v6 false (qIndexAddr env.P (Heap.get H1) 63 (some v10) (some v11)) fun v12 =>
   gQ v6 false (qLoad env.P (Heap.get H1) 49 (some v12)) fun v13 =>
   gW v6 false H1 (callRes env false (limf env) (limt env 0) H1 (⟨0, 24, Heap.gen H1 0 24, 0⟩ : Ref) (some (.fn (.func 97) [] [])) [v9, v13]) fun v14 H2 =>
   gQ v6 false (qUn env.P .not (some v14)) fun v15 =>
   doQ (pickF (some v6) (some (.v (.bool true))) (some v15)) fun v16 =>
   br (some v16) (
    Q (.v (.bool false)) H2) (
    doQ (qBin env.P .add 3 (.tmp 8) (.const (.int .i64 1)) (some x3) (some (.v (.int .i64 1)))) fun v17 =>
    GoL env Try.f98 0 hd_blindstampref18_Right_2 [(3, v17), (0, x0)] H2 Q)) (
   Q (.v (.bool true)) H)
theorem vq_blindstampref18_Right_2 : VC_blindstampref18_Right_2 = fun g x3 x0 H Q => wp env Try.f98 none 0 lv_blindstampref18_Right cu_blindstampref18_Right Q 500 (bodyOf hd_blindstampref18_Right_2) (ofL g [(3, x3), (0, x0)]) H := by kernel_rfl
theorem vc_blindstampref18_Right_2 (x3 x0 : AV) (H : Heap) (Q : AV → Heap → Prop) (h : ∀ g, VC_blindstampref18_Right_2 g x3 x0 H Q) : GoL env Try.f98 0 hd_blindstampref18_Right_2 [(3, x3), (0, x0)] H Q := goL_body fun g => wp_ok (by have h := h g; rw [vq_blindstampref18_Right_2] at h; exact h)

/- slices_IndexFunc___blindstamp_api_Label_blindstamp_api_Label_ -/
noncomputable def bd_slices_IndexFunc___blindstamp_api_Label_blindstamp_api_Label_ : Code := (Try.f126.body).getD .skip
noncomputable def hd_slices_IndexFunc___blindstamp_api_Label_blindstamp_api_Label__2 : List Item := (findLoop 2 400 [.code bd_slices_IndexFunc___blindstamp_api_Label_blindstamp_api_Label_]).getD []
def lv_slices_IndexFunc___blindstamp_api_Label_blindstamp_api_Label_ : Nat → Option (List Nat) := fun i => cond (Nat.beq i 2) (some [8, 0, 1, 7]) (none)
def cu_slices_IndexFunc___blindstamp_api_Label_blindstamp_api_Label_ : Nat → Bool := fun i => false
def VC_slices_IndexFunc___blindstamp_api_Label_blindstamp_api_Label_ (g : Nat → AV) (x0 x1 : AV) (H : Heap) (Q : AV → Heap → Prop) : Prop :=
  doQ (qBuiltin env.P false (Heap.get H) (⟨0, 7, Heap.gen H 0 7, 0⟩ : Ref) .len #[72] [x0]) fun v1 =>
  GoL env Try.f126 0 hd_slices_IndexFunc___blindstamp_api_Label_blindstamp_api_Label__2 [(8, (.v (.int .i64 0))), (0, x0), (1, x1), (7, v1)] H Q
theorem vq_slices_IndexFunc___blindstamp_api_Label_blindstamp_api_Label_ : VC_slices_IndexFunc___blindstamp_api_Label_blindstamp_api_Label_ = fun g x0 x1 H Q => wp env Try.f126 none 0 lv_slices_IndexFunc___blindstamp_api_Label_blindstamp_api_Label_ cu_slices_IndexFunc___blindstamp_api_Label_blindstamp_api_Label_ Q 500 [.code bd_slices_IndexFunc___blindstamp_api_Label_blindstamp_api_Label_] (ofL g [(0, x0), (1, x1)]) H := by kernel_rfl
theorem vc_slices_IndexFunc___blindstamp_api_Label_blindstamp_api_Label_ (x0 x1 : AV) (H : Heap) (Q : AV → Heap → Prop) (h : ∀ g, VC_slices_IndexFunc___blindstamp_api_Label_blindstamp_api_Label_ g x0 x1 H Q) : GoL env Try.f126 0 [.code bd_slices_IndexFunc___blindstamp_api_Label_blindstamp_api_Label_] [(0, x0), (1, x1)] H Q := ⟨fun g => wp_ok (by have h := h g; rw [vq_slices_IndexFunc___blindstamp_api_Label_blindstamp_api_Label_] at h; exact h)⟩
def VC_slices_IndexFunc___blindstamp_api_Label_blindstamp_api_Label__2 (g : Nat → AV) (x8 x0 x1 x7 : AV) (H : Heap) (Q : AV → Heap → Prop) : Prop :=
  doQ (qBin env.P .lss 3 (.tmp 8) (.tmp 7) (some x8) (some x7)) fun v1 =>
  br (some v1) (
   doQ (qIndexAddr env.P (Heap.get H) 72 (some x0) (some x8)) fun v2 =>
   doQ (qLoad env.P (Heap.get H) 24 (some v2)) fun v3 =>
   doW (callRes env true (limf env) (limt env 0) H (⟨0, 16, Heap.gen H 0 16, 0⟩ : Ref) (some x1) [v3]) fun v4 H1 =>
   br (some v4) (
    Q x8 H1) (
    doQ (qBin env.P .add 3 (.tmp 8) (.const (.int .i64 1)) (some x8) (some (.v (.int .i64 1)))) fun v5 =>
    GoL env Try.f126 0 hd_slices_IndexFunc___blindstamp_api_Label_blindstamp_api_Label__2 [(8, v5), (0, x0), (1, x1), (7, x7)] H1 Q)) (
   Q (.v (.int .i64 (-1))) H)
theorem vq_slices_IndexFunc___blindstamp_api_Label_blindstamp_api_Label__2 : VC_slices_IndexFunc___blindstamp_api_Label_blindstamp_api_Label__2 = fun g x8 x0 x1 x7 H Q => wp env Try.f126 none 0 lv_slices_IndexFunc___blindstamp_api_Label_blindstamp_api_Label_ cu_slices_IndexFunc___blindstamp_api_Label_blindstamp_api_Label_ Q 500 (bodyOf hd_slices_IndexFunc___blindstamp_api_Label_blindstamp_api_Label__2) (ofL g [(8, x8), (0, x0), (1, x1), (7, x7)]) H := by kernel_rfl
theorem vc_slices_IndexFunc___blindstamp_api_Label_blindstamp_api_Label__2 (x8 x0 x1 x7 : AV) (H : Heap) (Q : AV → Heap → Prop) (h : ∀ g, VC_slices_IndexFunc___blindstamp_api_Label_blindstamp_api_Label__2 g x8 x0 x1 x7 H Q) : GoL env Try.f126 0 hd_slices_IndexFunc___blindstamp_api_Label_blindstamp_api_Label__2 [(8, x8), (0, x0), (1, x1), (7, x7)] H Q := goL_body fun g => wp_ok (by have h := h g; rw [vq_slices_IndexFunc___blindstamp_api_Label_blindstamp_api_Label__2] at h; exact h)

/- chain_raises -/
noncomputable def bd_chain_raises : Code := (Try.f127.body).getD .skip
def lv_chain_raises : Nat → Option (List Nat) := fun i => none
def cu_chain_raises : Nat → Bool := fun i => false
def VC_chain_raises (g : Nat → AV) (x0 x1 x2 : AV) (H : Heap) (Q : AV → Heap → Prop) : Prop :=
  doW (nRes H (⟨0, 3, Heap.gen H 0 3, 0⟩ : Ref) (qBox env.P (⟨0, 3, Heap.gen H 0 3, 0⟩ : Ref) 63 (some x0))) fun v1 H1 =>
  doW (nRes H1 (⟨0, 4, Heap.gen H1 0 4, 0⟩ : Ref) (qBox env.P (⟨0, 4, Heap.gen H1 0 4, 0⟩ : Ref) 28 (some x1))) fun v2 H2 =>
  doW (nRes H2 (⟨0, 5, Heap.gen H2 0 5, 0⟩ : Ref) (qBox env.P (⟨0, 5, Heap.gen H2 0 5, 0⟩ : Ref) 24 (some x2))) fun v3 H3 =>
  doQ (qFunc (.func 150) (some []) (some [v1, v2, v3])) fun v4 =>
  Q v4 H3
theorem vq_chain_raises : VC_chain_raises = fun g x0 x1 x2 H Q => wp env Try.f127 none 0 lv_chain_raises cu_chain_raises Q 500 [.code bd_chain_raises] (ofL g [(0, x0), (1, x1), (2, x2)]) H := by kernel_rfl
theorem vc_chain_raises (x0 x1 x2 : AV) (H : Heap) (Q : AV → Heap → Prop) (h : ∀ g, VC_chain_raises g x0 x1 x2 H Q) : GoL env Try.f127 0 [.code bd_chain_raises] [(0, x0), (1, x1), (2, x2)] H Q := ⟨fun g => wp_ok (by have h := h g; rw [vq_chain_raises] at h; exact h)⟩

/- slices_Contains___blindstamp_api_Label_blindstamp_api_Label_ -/
noncomputable def bd_slices_Contains___blindstamp_api_Label_blindstamp_api_Label_ : Code := (Try.f128.body).getD .skip
def lv_slices_Contains___blindstamp_api_Label_blindstamp_api_Label_ : Nat → Option (List Nat) := fun i => none
def cu_slices_Contains___blindstamp_api_Label_blindstamp_api_Label_ : Nat → Bool := fun i => false
def VC_slices_Contains___blindstamp_api_Label_blindstamp_api_Label_ (g : Nat → AV) (x0 x1 : AV) (H : Heap) (Q : AV → Heap → Prop) : Prop :=
  doW (nRes H (⟨0, 3, Heap.gen H 0 3, 0⟩ : Ref) (qBox env.P (⟨0, 3, Heap.gen H 0 3, 0⟩ : Ref) 24 (some x1))) fun v1 H1 =>
  doQ (qLoad env.P (Heap.get H1) 24 (some v1)) fun v2 =>
  doW (callRes env true (limf env) (limt env 0) H1 (⟨0, 7, Heap.gen H1 0 7, 0⟩ : Ref) (some (.fn (.func 151) [] [])) [x0, v2]) fun v3 H2 =>
  doQ (qBin env.P .geq 3 (.tmp 7) (.const (.int .i64 0)) (some v3) (some (.v (.int .i64 0)))) fun v4 =>
  Q v4 H2
theorem vq_slices_Contains___blindstamp_api_Label_blindstamp_api_Label_ : VC_slices_Contains___blindstamp_api_Label_blindstamp_api_Label_ = fun g x0 x1 H Q => wp env Try.f128 none 0 lv_slices_Contains___blindstamp_api_Label_blindstamp_api_Label_ cu_slices_Contains___blindstamp_api_Label_blindstamp_api_Label_ Q 500 [.code bd_slices_Contains___blindstamp_api_Label_blindstamp_api_Label_] (ofL g [(0, x0), (1, x1)]) H := by kernel_rfl
theorem vc_slices_Contains___blindstamp_api_Label_blindstamp_api_Label_ (x0 x1 : AV) (H : Heap) (Q : AV → Heap → Prop) (h : ∀ g, VC_slices_Contains___blindstamp_api_Label_blindstamp_api_Label_ g x0 x1 H Q) : GoL env Try.f128 0 [.code bd_slices_Contains___blindstamp_api_Label_blindstamp_api_Label_] [(0, x0), (1, x1)] H Q := ⟨fun g => wp_ok (by have h := h g; rw [vq_slices_Contains___blindstamp_api_Label_blindstamp_api_Label_] at h; exact h)⟩

/- blindstampref18_Raises -/
noncomputable def bd_blindstampref18_Raises : Code := (Try.f129.body).getD .skip
noncomputable def hd_blindstampref18_Raises_3 : List Item := (findLoop 3 400 [.code bd_blindstampref18_Raises]).getD []
def lv_blindstampref18_Raises : Nat → Option (List Nat) := fun i => cond (Nat.beq i 3) (some [8, 0, 7, 5, 4]) (none)
def cu_blindstampref18_Raises : Nat → Bool := fun i => false
def VC_blindstampref18_Raises (g : Nat → AV) (x0 x1 x2 : AV) (H : Heap) (Q : AV → Heap → Prop) : Prop :=
  doW (nRes H (⟨0, 4, Heap.gen H 0 4, 0⟩ : Ref) (qBox env.P (⟨0, 4, Heap.gen H 0 4, 0⟩ : Ref) 28 (some x1))) fun v1 H1 =>
  doW (nRes H1 (⟨0, 5, Heap.gen H1 0 5, 0⟩ : Ref) (qBox env.P (⟨0, 5, Heap.gen H1 0 5, 0⟩ : Ref) 24 (some x2))) fun v2 H2 =>
  GoL env Try.f129 0 hd_blindstampref18_Raises_3 [(8, (.v (.int .i64 0))), (0, x0), (7, (.v (.slice none 0 0))), (5, v2), (4, v1)] H2 Q
theorem vq_blindstampref18_Raises : VC_blindstampref18_Raises = fun g x0 x1 x2 H Q => wp env Try.f129 none 0 lv_blindstampref18_Raises cu_blindstampref18_Raises Q 500 [.code bd_blindstampref18_Raises] (ofL g [(0, x0), (1, x1), (2, x2)]) H := by kernel_rfl
theorem vc_blindstampref18_Raises (x0 x1 x2 : AV) (H : Heap) (Q : AV → Heap → Prop) (h : ∀ g, VC_blindstampref18_Raises g x0 x1 x2 H Q) : GoL env Try.f129 0 [.code bd_blindstampref18_Raises] [(0, x0), (1, x1), (2, x2)] H Q := ⟨fun g => wp_ok (by have h := h g; rw [vq_blindstampref18_Raises] at h; exact h)⟩
def VC_blindstampref18_Raises_3 (g : Nat → AV) (x8 x0 x7 x5 x4 : AV) (H : Heap) (Q : AV → Heap → Prop) : Prop :=
  doQ (qBuiltin env.P false (Heap.get H) (⟨0, 11, Heap.gen H 0 11, 0⟩ : Ref) .len #[63] [x0]) fun v1 =>
  doQ (qBin env.P .lss 3 (.tmp 9) (.tmp 11) (some x8) (some v1)) fun v2 =>
  br (some v2) (
   doQ (qIndexAddr env.P (Heap.get H) 63 (some x0) (some x8)) fun v3 =>
   doQ (qFieldAddr env.P 49 (some v3) 0) fun v4 =>
   doQ (qLoad env.P (Heap.get H) 5 (some v4)) fun v5 =>
   doQ (qBin env.P .eql 5 (.tmp 19) (.const (.int .u8 3)) (some v5) (some (a8 3))) fun v6 =>
   gQ v6 true (qVal (some x0)) fun v7 =>
   gQ v6 true (qVal (some x8)) fun v8 =>
   gQ v6 true (qIndexAddr env.P (Heap.get H) 63 (some v7) (some v8)) fun v9 =>
   gQ v6 true (qFieldAddr env.P 49 (some v9) 3) fun v10 =>
   gQ v6 true (qLoad env.P (Heap.get H) 30 (some v10)) fun v11 =>
   gQ v6 true (qLoad env.P (Heap.get H) 28 (some x4)) fun v12 =>
   gW v6 true H (callRes env false (limf env) (limt env 0) H (⟨0, 28, Heap.gen H 0 28, 0⟩ : Ref) (some (.fn (.func 152) [] [])) [v11, v12]) fun v13 H1 =>
   doQ (pickF (some v6) (some v13) (some (.v (.bool false)))) fun v14 =>
   gQ v14 true (qVal (some x0)) fun v15 =>
   gQ v14 true (qVal (some x8)) fun v16 =>
   gQ v14 true (qIndexAddr env.P (Heap.get H1) 63 (some v15) (some v16)) fun v17 =>
   gQ v14 true (qFieldAddr env.P 49 (some v17) 1) fun v18 =>
   gQ v14 true (qFieldAddr env.P 26 (some v18) 0) fun v19 =>
   gQ v14 true (qLoad env.P (Heap.get H1) 24 (some v19)) fun v20 =>
   gQ v14 true (qLoad env.P (Heap.get H1) 24 (some x5)) fun v21 =>
   gW v14 true H1 (callRes env false (limf env) (limt env 0) H1 (⟨0, 38, Heap.gen H1 0 38, 0⟩ : Ref) (some (.fn (.func 131) [] [])) [v20, v21]) fun v22 H2 =>
   doQ (pickF (some v14) (some v22) (some (.v (.bool false)))) fun v23 =>
   br (some v23) (
    doQ (qIndexAddr env.P (Heap.get H2) 63 (some x0) (some x8)) fun v24 =>
    doQ (qFieldAddr env.P 49 (some v24) 5) fun v25 =>
    doQ (qLoad env.P (Heap.get H2) 24 (some v25)) fun v26 =>
    doW (bsRes env.P false true H2 (⟨0, 46, Heap.gen H2 0 46, 0⟩ : Ref) 72 1 (some [(0, v26)])) fun v27 H3 =>
    doW (appRes env.P true H3 (⟨0, 47, Heap.gen H3 0 47, 0⟩ : Ref) (some 72) (some 72) x7 v27) fun v28 H4 =>
    doQ (qBin env.P .add 3 (.tmp 13) (.const (.int .i64 1)) (some x8) (some (.v (.int .i64 1)))) fun v29 =>
    GoL env Try.f129 0 hd_blindstampref18_Raises_3 [(8, v29), (0, x0), (7, v28), (5, x5), (4, x4)] H4 Q) (
    doQ (qBin env.P .add 3 (.tmp 13) (.const (.int .i64 1)) (some x8) (some (.v (.int .i64 1)))) fun v24 =>
    GoL env Try.f129 0 hd_blindstampref18_Raises_3 [(8, v24), (0, x0), (7, x7), (5, x5), (4, x4)] H2 Q)) (
   Q x7 H)
theorem vq_blindstampref18_Raises_3 : VC_blindstampref18_Raises_3 = fun g x8 x0 x7 x5 x4 H Q => wp env Try.f129 none 0 lv_blindstampref18_Raises cu_blindstampref18_Raises Q 500 (bodyOf hd_blindstampref18_Raises_3) (ofL g [(8, x8), (0, x0), (7, x7), (5, x5), (4, x4)]) H := by kernel_rfl
theorem vc_blindstampref18_Raises_3 (x8 x0 x7 x5 x4 : AV) (H : Heap) (Q : AV → Heap → Prop) (h : ∀ g, VC_blindstampref18_Raises_3 g x8 x0 x7 x5 x4 H Q) : GoL env Try.f129 0 hd_blindstampref18_Raises_3 [(8, x8), (0, x0), (7, x7), (5, x5), (4, x4)] H Q := goL_body fun g => wp_ok (by have h := h g; rw [vq_blindstampref18_Raises_3] at h; exact h)

/- blindstampref18_among -/
noncomputable def bd_blindstampref18_among : Code := (Try.f130.body).getD .skip
noncomputable def hd_blindstampref18_among_2 : List Item := (findLoop 2 400 [.code bd_blindstampref18_among]).getD []
def lv_blindstampref18_among : Nat → Option (List Nat) := fun i => cond (Nat.beq i 2) (some [5, 3, 0]) (none)
def cu_blindstampref18_among : Nat → Bool := fun i => false
def VC_blindstampref18_among (g : Nat → AV) (x0 x1 : AV) (H : Heap) (Q : AV → Heap → Prop) : Prop :=
  doW (nRes H (⟨0, 3, Heap.gen H 0 3, 0⟩ : Ref) (qBox env.P (⟨0, 3, Heap.gen H 0 3, 0⟩ : Ref) 24 (some x1))) fun v1 H1 =>
  GoL env Try.f130 0 hd_blindstampref18_among_2 [(5, (.v (.int .i64 0))), (3, v1), (0, x0)] H1 Q
theorem vq_blindstampref18_among : VC_blindstampref18_among = fun g x0 x1 H Q => wp env Try.f130 none 0 lv_blindstampref18_among cu_blindstampref18_among Q 500 [.code bd_blindstampref18_among] (ofL g [(0, x0), (1, x1)]) H := by kernel_rfl
theorem vc_blindstampref18_among (x0 x1 : AV) (H : Heap) (Q : AV → Heap → Prop) (h : ∀ g, VC_blindstampref18_among g x0 x1 H Q) : GoL env Try.f130 0 [.code bd_blindstampref18_among] [(0, x0), (1, x1)] H Q := ⟨fun g => wp_ok (by have h := h g; rw [vq_blindstampref18_among] at h; exact h)⟩
def VC_blindstampref18_among_2 (g : Nat → AV) (x5 x3 x0 : AV) (H : Heap) (Q : AV → Heap → Prop) : Prop :=
  doQ (qBuiltin env.P false (Heap.get H) (⟨0, 8, Heap.gen H 0 8, 0⟩ : Ref) .len #[72] [x0]) fun v1 =>
  doQ (qBin env.P .lss 3 (.tmp 6) (.tmp 8) (some x5) (some v1)) fun v2 =>
  br (some v2) (
   doQ (qIndexAddr env.P (Heap.get H) 72 (some x0) (some x5)) fun v3 =>
   doQ (qLoad env.P (Heap.get H) 24 (some v3)) fun v4 =>
   doQ (qLoad env.P (Heap.get H) 24 (some x3)) fun v5 =>
   doQ (qBin env.P .eql 24 (.tmp 15) (.tmp 16) (some v4) (some v5)) fun v6 =>
   br (some v6) (
    Q (.v (.bool true)) H) (
    doQ (qBin env.P .add 3 (.tmp 10) (.const (.int .i64 1)) (some x5) (some (.v (.int .i64 1)))) fun v7 =>
    GoL env Try.f130 0 hd_blindstampref18_among_2 [(5, v7), (3, x3), (0, x0)] H Q)) (
   Q (.v (.bool false)) H)
theorem vq_blindstampref18_among_2 : VC_blindstampref18_among_2 = fun g x5 x3 x0 H Q => wp env Try.f130 none 0 lv_blindstampref18_among cu_blindstampref18_among Q 500 (bodyOf hd_blindstampref18_among_2) (ofL g [(5, x5), (3, x3), (0, x0)]) H := by kernel_rfl
theorem vc_blindstampref18_among_2 (x5 x3 x0 : AV) (H : Heap) (Q : AV → Heap → Prop) (h : ∀ g, VC_blindstampref18_among_2 g x5 x3 x0 H Q) : GoL env Try.f130 0 hd_blindstampref18_among_2 [(5, x5), (3, x3), (0, x0)] H Q := goL_body fun g => wp_ok (by have h := h g; rw [vq_blindstampref18_among_2] at h; exact h)

/- blindstampref01_Leq -/
noncomputable def bd_blindstampref01_Leq : Code := (Try.f131.body).getD .skip
noncomputable def hd_blindstampref01_Leq_2 : List Item := (findLoop 2 400 [.code bd_blindstampref01_Leq]).getD []
def lv_blindstampref01_Leq : Nat → Option (List Nat) := fun i => cond (Nat.beq i 2) (some [5, 3, 2]) (none)
def cu_blindstampref01_Leq : Nat → Bool := fun i => false
def VC_blindstampref01_Leq (g : Nat → AV) (x0 x1 : AV) (H : Heap) (Q : AV → Heap → Prop) : Prop :=
  doW (nRes H (⟨0, 2, Heap.gen H 0 2, 0⟩ : Ref) (qBox env.P (⟨0, 2, Heap.gen H 0 2, 0⟩ : Ref) 24 (some x0))) fun v1 H1 =>
  doW (nRes H1 (⟨0, 3, Heap.gen H1 0 3, 0⟩ : Ref) (qBox env.P (⟨0, 3, Heap.gen H1 0 3, 0⟩ : Ref) 24 (some x1))) fun v2 H2 =>
  GoL env Try.f131 0 hd_blindstampref01_Leq_2 [(5, (.v (.int .i64 0))), (3, v2), (2, v1)] H2 Q
theorem vq_blindstampref01_Leq : VC_blindstampref01_Leq = fun g x0 x1 H Q => wp env Try.f131 none 0 lv_blindstampref01_Leq cu_blindstampref01_Leq Q 500 [.code bd_blindstampref01_Leq] (ofL g [(0, x0), (1, x1)]) H := by kernel_rfl
theorem vc_blindstampref01_Leq (x0 x1 : AV) (H : Heap) (Q : AV → Heap → Prop) (h : ∀ g, VC_blindstampref01_Leq g x0 x1 H Q) : GoL env Try.f131 0 [.code bd_blindstampref01_Leq] [(0, x0), (1, x1)] H Q := ⟨fun g => wp_ok (by have h := h g; rw [vq_blindstampref01_Leq] at h; exact h)⟩
def VC_blindstampref01_Leq_2 (g : Nat → AV) (x5 x3 x2 : AV) (H : Heap) (Q : AV → Heap → Prop) : Prop :=
  doQ (qBin env.P .lss 3 (.tmp 6) (.const (.int .i64 32)) (some x5) (some (.v (.int .i64 32)))) fun v1 =>
  br (some v1) (
   doQ (qLoad env.P (Heap.get H) 24 (some x2)) fun v2 =>
   doW (callRes env true (limf env) (limt env 0) H (⟨0, 12, Heap.gen H 0 12, 0⟩ : Ref) (some (.fn (.func 153) [] [])) [v2, x5]) fun v3 H1 =>
   gQ v3 true (qLoad env.P (Heap.get H1) 24 (some x3)) fun v4 =>
   gQ v3 true (qVal (some x5)) fun v5 =>
   gW v3 true H1 (callRes env true (limf env) (limt env 0) H1 (⟨0, 16, Heap.gen H1 0 16, 0⟩ : Ref) (some (.fn (.func 153) [] [])) [v4, v5]) fun v6 H2 =>
   gQ v3 true (qUn env.P .not (some v6)) fun v7 =>
   doQ (pickF (some v3) (some v7) (some (.v (.bool false)))) fun v8 =>
   br (some v8) (
    Q (.v (.bool false)) H2) (
    doQ (qBin env.P .add 3 (.tmp 8) (.const (.int .i64 1)) (some x5) (some (.v (.int .i64 1)))) fun v9 =>
    GoL env Try.f131 0 hd_blindstampref01_Leq_2 [(5, v9), (3, x3), (2, x2)] H2 Q)) (
   doQ (qFieldAddr env.P 24 (some x2) 0) fun v2 =>
   doQ (qLoad env.P (Heap.get H) 5 (some v2)) fun v3 =>
   doQ (qFieldAddr env.P 24 (some x3) 0) fun v4 =>
   doQ (qLoad env.P (Heap.get H) 5 (some v4)) fun v5 =>
   doQ (qBin env.P .leq 5 (.tmp 20) (.tmp 22) (some v3) (some v5)) fun v6 =>
   Q v6 H)
theorem vq_blindstampref01_Leq_2 : VC_blindstampref01_Leq_2 = fun g x5 x3 x2 H Q => wp env Try.f131 none 0 lv_blindstampref01_Leq cu_blindstampref01_Leq Q 500 (bodyOf hd_blindstampref01_Leq_2) (ofL g [(5, x5), (3, x3), (2, x2)]) H := by kernel_rfl
theorem vc_blindstampref01_Leq_2 (x5 x3 x2 : AV) (H : Heap) (Q : AV → Heap → Prop) (h : ∀ g, VC_blindstampref01_Leq_2 g x5 x3 x2 H Q) : GoL env Try.f131 0 hd_blindstampref01_Leq_2 [(5, x5), (3, x3), (2, x2)] H Q := goL_body fun g => wp_ok (by have h := h g; rw [vq_blindstampref01_Leq_2] at h; exact h)

/- blindstampref05_All -/
noncomputable def bd_blindstampref05_All : Code := (Try.f132.body).getD .skip
noncomputable def hd_blindstampref05_All_3 : List Item := (findLoop 3 400 [.code bd_blindstampref05_All]).getD []
def lv_blindstampref05_All : Nat → Option (List Nat) := fun i => cond (Nat.beq i 3) (some [4, 1, 3]) (none)
def cu_blindstampref05_All : Nat → Bool := fun i => false
def VC_blindstampref05_All (g : Nat → AV) (x0 : AV) (H : Heap) (Q : AV → Heap → Prop) : Prop :=
  doW (nRes H (⟨0, 1, Heap.gen H 0 1, 0⟩ : Ref) (qBox env.P (⟨0, 1, Heap.gen H 0 1, 0⟩ : Ref) 30 (some x0))) fun v1 H1 =>
  GoL env Try.f132 0 hd_blindstampref05_All_3 [(4, (.v (.int .i64 0))), (1, v1), (3, (.v (.slice none 0 0)))] H1 Q
theorem vq_blindstampref05_All : VC_blindstampref05_All = fun g x0 H Q => wp env Try.f132 none 0 lv_blindstampref05_All cu_blindstampref05_All Q 500 [.code bd_blindstampref05_All] (ofL g [(0, x0)]) H := by kernel_rfl
theorem vc_blindstampref05_All (x0 : AV) (H : Heap) (Q : AV → Heap → Prop) (h : ∀ g, VC_blindstampref05_All g x0 H Q) : GoL env Try.f132 0 [.code bd_blindstampref05_All] [(0, x0)] H Q := ⟨fun g => wp_ok (by have h := h g; rw [vq_blindstampref05_All] at h; exact h)⟩
def VC_blindstampref05_All_3 (g : Nat → AV) (x4 x1 x3 : AV) (H : Heap) (Q : AV → Heap → Prop) : Prop :=
  doQ (qFieldAddr env.P 30 (some x1) 1) fun v1 =>
  doQ (qLoad env.P (Heap.get H) 3 (some v1)) fun v2 =>
  doQ (qBin env.P .lss 3 (.tmp 5) (.tmp 7) (some x4) (some v2)) fun v3 =>
  br (some v3) (
   doQ (qFieldAddr env.P 30 (some x1) 0) fun v4 =>
   doQ (qFieldAddr env.P 28 (some v4) 0) fun v5 =>
   doQ (qLoad env.P (Heap.get H) 26 (some v5)) fun v6 =>
   doQ (qFieldAddr env.P 30 (some x1) 0) fun v7 =>
   doQ (qFieldAddr env.P 28 (some v7) 1) fun v8 =>
   doQ (qLoad env.P (Heap.get H) 3 (some v8)) fun v9 =>
   doQ (qBin env.P .add 3 (.tmp 17) (.tmp 18) (some v9) (some x4)) fun v10 =>
   doQ (qBuild env.P 28 (some [(0, v6), (1, v10)])) fun v11 =>
   doW (bsRes env.P false true H (⟨0, 21, Heap.gen H 0 21, 0⟩ : Ref) 176 1 (some [(0, v11)])) fun v12 H1 =>
   doW (appRes env.P true H1 (⟨0, 22, Heap.gen H1 0 22, 0⟩ : Ref) (some 176) (some 176) x3 v12) fun v13 H2 =>
   doQ (qBin env.P .add 3 (.tmp 9) (.const (.int .i64 1)) (some x4) (some (.v (.int .i64 1)))) fun v14 =>
   GoL env Try.f132 0 hd_blindstampref05_All_3 [(4, v14), (1, x1), (3, v13)] H2 Q) (
   Q x3 H)
theorem vq_blindstampref05_All_3 : VC_blindstampref05_All_3 = fun g x4 x1 x3 H Q => wp env Try.f132 none 0 lv_blindstampref05_All cu_blindstampref05_All Q 500 (bodyOf hd_blindstampref05_All_3) (ofL g [(4, x4), (1, x1), (3, x3)]) H := by kernel_rfl
theorem vc_blindstampref05_All_3 (x4 x1 x3 : AV) (H : Heap) (Q : AV → Heap → Prop) (h : ∀ g, VC_blindstampref05_All_3 g x4 x1 x3 H Q) : GoL env Try.f132 0 hd_blindstampref05_All_3 [(4, x4), (1, x1), (3, x3)] H Q := goL_body fun g => wp_ok (by have h := h g; rw [vq_blindstampref05_All_3] at h; exact h)

/- chain_raisesF1 -/
noncomputable def bd_chain_raisesF1 : Code := (Try.f150.body).getD .skip
noncomputable def hd_chain_raisesF1_1 : List Item := (findLoop 1 400 [.code bd_chain_raisesF1]).getD []
def lv_chain_raisesF1 : Nat → Option (List Nat) := fun i => cond (Nat.beq i 1) (some [11, 0, 3, 2, 9, 10]) (none)
def cu_chain_raisesF1 : Nat → Bool := fun i => false
def VC_chain_raisesF1 (dep : Nat) (g : Nat → AV) (x0 x1 x2 x3 : AV) (H : Heap) (Q : AV → Heap → Prop) : Prop :=
  doQ (qLoad env.P (Heap.get H) 63 (some x1)) fun v1 =>
  doQ (qBuiltin env.P false (Heap.get H) (⟨(dep + 1), 10, Heap.gen H (dep + 1) 10, 0⟩ : Ref) .len #[63] [v1]) fun v2 =>
  GoL env Try.f150 (dep + 1) hd_chain_raisesF1_1 [(11, (.v (.int .i64 0))), (0, x0), (3, x3), (2, x2), (9, v1), (10, v2)] H Q
theorem vq_chain_raisesF1 (dep : Nat) : VC_chain_raisesF1 dep = fun g x0 x1 x2 x3 H Q => wp env Try.f150 none (dep + 1) lv_chain_raisesF1 cu_chain_raisesF1 Q 500 [.code bd_chain_raisesF1] (ofL g [(0, x0), (1, x1), (2, x2), (3, x3)]) H := by kernel_rfl
theorem vc_chain_raisesF1 (dep : Nat) (x0 x1 x2 x3 : AV) (H : Heap) (Q : AV → Heap → Prop) (h : ∀ g, VC_chain_raisesF1 dep g x0 x1 x2 x3 H Q) : GoL env Try.f150 (dep + 1) [.code bd_chain_raisesF1] [(0, x0), (1, x1), (2, x2), (3, x3)] H Q := ⟨fun g => wp_ok (by have h := h g; rw [vq_chain_raisesF1] at h; exact h)⟩
def VC_chain_raisesF1_1 (dep : Nat) (g : Nat → AV) (x11 x0 x3 x2 x9 x10 : AV) (H : Heap) (Q : AV → Heap → Prop) : Prop :=
  doQ (qBin env.P .lss 3 (.tmp 11) (.tmp 10) (some x11) (some x10)) fun v1 =>
  br (some v1) (
   doQ (qIndexAddr env.P (Heap.get H) 63 (some x9) (some x11)) fun v2 =>
   doQ (qLoad env.P (Heap.get H) 49 (some v2)) fun v3 =>
   doW (nRes H (⟨(dep + 1), 6, Heap.gen H (dep + 1) 6, 0⟩ : Ref) (qAlloc env.P (⟨(dep + 1), 6, Heap.gen H (dep + 1) 6, 0⟩ : Ref) 49)) fun v4 H1 =>
   doW (wStore env.P H1 49 (some v4) (some v3)) fun v5 H2 =>
   doQ (qFieldAddr env.P 49 (some v4) 3) fun v6 =>
   doQ (qLoad env.P (Heap.get H2) 30 (some v6)) fun v7 =>
   doQ (qLoad env.P (Heap.get H2) 28 (some x2)) fun v8 =>
   doW (callRes env true (limf env) (limt env (dep + 1)) H2 (⟨(dep + 1), 19, Heap.gen H2 (dep + 1) 19, 0⟩ : Ref) (some (.fn (.func 39) [] [])) [v7, v8]) fun v9 H3 =>
   doQ (qExtract (some v9) 0) fun v10 =>
   doQ (qExtract (some v9) 1) fun v11 =>
   doQ (qFieldAddr env.P 49 (some v4) 0) fun v12 =>
   doQ (qLoad env.P (Heap.get H3) 5 (some v12)) fun v13 =>
   doQ (qBin env.P .eql 5 (.tmp 23) (.const (.int .u8 3)) (some v13) (some (a8 3))) fun v14 =>
   gQ v14 true (qVal (some v11)) fun v15 =>
   doQ (pickF (some v14) (some v15) (some (.v (.bool false)))) fun v16 =>
   gQ v16 true (qFieldAddr env.P 49 (some v4) 1) fun v17 =>
   gQ v16 true (qFieldAddr env.P 26 (some v17) 0) fun v18 =>
   gQ v16 true (qLoad env.P (Heap.get H3) 24 (some v18)) fun v19 =>
   gQ v16 true (qLoad env.P (Heap.get H3) 24 (some x3)) fun v20 =>
   gW v16 true H3 (callRes env true (limf env) (limt env (dep + 1)) H3 (⟨(dep + 1), 33, Heap.gen H3 (dep + 1) 33, 0⟩ : Ref) (some (.fn (.func 38) [] [])) [v19, v20]) fun v21 H4 =>
   doQ (pickF (some v16) (some v21) (some (.v (.bool false)))) fun v22 =>
   gQ v22 true (qVal (some x0)) fun v23 =>
   gQ v22 true (qFieldAddr env.P 49 (some v4) 5) fun v24 =>
   gQ v22 true (qLoad env.P (Heap.get H4) 24 (some v24)) fun v25 =>
   gW v22 true H4 (callRes env true (limf env) (limt env (dep + 1)) H4 (⟨(dep + 1), 39, Heap.gen H4 (dep + 1) 39, 0⟩ : Ref) (some v23) [v25]) fun v26 H5 =>
   gQ v22 true (qUn env.P .not (some v26)) fun v27 =>
   doQ (pickF (some v22) (some v27) (some (.v (.bool false)))) fun v28 =>
   br (some v28) (
    Q (.v (.tuple #[])) H5) (
    doQ (qBin env.P .add 3 (.tmp 11) (.const (.int .i64 1)) (some x11) (some (.v (.int .i64 1)))) fun v29 =>
    GoL env Try.f150 (dep + 1) hd_chain_raisesF1_1 [(11, v29), (0, x0), (3, x3), (2, x2), (9, x9), (10, x10)] H5 Q)) (
   Q (.v (.tuple #[])) H)
theorem vq_chain_raisesF1_1 (dep : Nat) : VC_chain_raisesF1_1 dep = fun g x11 x0 x3 x2 x9 x10 H Q => wp env Try.f150 none (dep + 1) lv_chain_raisesF1 cu_chain_raisesF1 Q 500 (bodyOf hd_chain_raisesF1_1) (ofL g [(11, x11), (0, x0), (3, x3), (2, x2), (9, x9), (10, x10)]) H := by kernel_rfl
theorem vc_chain_raisesF1_1 (dep : Nat) (x11 x0 x3 x2 x9 x10 : AV) (H : Heap) (Q : AV → Heap → Prop) (h : ∀ g, VC_chain_raisesF1_1 dep g x11 x0 x3 x2 x9 x10 H Q) : GoL env Try.f150 (dep + 1) hd_chain_raisesF1_1 [(11, x11), (0, x0), (3, x3), (2, x2), (9, x9), (10, x10)] H Q := goL_body fun g => wp_ok (by have h := h g; rw [vq_chain_raisesF1_1] at h; exact h)

/- slices_Index___blindstamp_api_Label_blindstamp_api_Label_ -/
noncomputable def bd_slices_Index___blindstamp_api_Label_blindstamp_api_Label_ : Code := (Try.f151.body).getD .skip
noncomputable def hd_slices_Index___blindstamp_api_Label_blindstamp_api_Label__2 : List Item := (findLoop 2 400 [.code bd_slices_Index___blindstamp_api_Label_blindstamp_api_Label_]).getD []
def lv_slices_Index___blindstamp_api_Label_blindstamp_api_Label_ : Nat → Option (List Nat) := fun i => cond (Nat.beq i 2) (some [8, 0, 3, 7]) (none)
def cu_slices_Index___blindstamp_api_Label_blindstamp_api_Label_ : Nat → Bool := fun i => false
def VC_slices_Index___blindstamp_api_Label_blindstamp_api_Label_ (g : Nat → AV) (x0 x1 : AV) (H : Heap) (Q : AV → Heap → Prop) : Prop :=
  doW (nRes H (⟨0, 3, Heap.gen H 0 3, 0⟩ : Ref) (qBox env.P (⟨0, 3, Heap.gen H 0 3, 0⟩ : Ref) 24 (some x1))) fun v1 H1 =>
  doQ (qBuiltin env.P false (Heap.get H1) (⟨0, 7, Heap.gen H1 0 7, 0⟩ : Ref) .len #[72] [x0]) fun v2 =>
  GoL env Try.f151 0 hd_slices_Index___blindstamp_api_Label_blindstamp_api_Label__2 [(8, (.v (.int .i64 0))), (0, x0), (3, v1), (7, v2)] H1 Q
theorem vq_slices_Index___blindstamp_api_Label_blindstamp_api_Label_ : VC_slices_Index___blindstamp_api_Label_blindstamp_api_Label_ = fun g x0 x1 H Q => wp env Try.f151 none 0 lv_slices_Index___blindstamp_api_Label_blindstamp_api_Label_ cu_slices_Index___blindstamp_api_Label_blindstamp_api_Label_ Q 500 [.code bd_slices_Index___blindstamp_api_Label_blindstamp_api_Label_] (ofL g [(0, x0), (1, x1)]) H := by kernel_rfl
theorem vc_slices_Index___blindstamp_api_Label_blindstamp_api_Label_ (x0 x1 : AV) (H : Heap) (Q : AV → Heap → Prop) (h : ∀ g, VC_slices_Index___blindstamp_api_Label_blindstamp_api_Label_ g x0 x1 H Q) : GoL env Try.f151 0 [.code bd_slices_Index___blindstamp_api_Label_blindstamp_api_Label_] [(0, x0), (1, x1)] H Q := ⟨fun g => wp_ok (by have h := h g; rw [vq_slices_Index___blindstamp_api_Label_blindstamp_api_Label_] at h; exact h)⟩
def VC_slices_Index___blindstamp_api_Label_blindstamp_api_Label__2 (g : Nat → AV) (x8 x0 x3 x7 : AV) (H : Heap) (Q : AV → Heap → Prop) : Prop :=
  doQ (qBin env.P .lss 3 (.tmp 8) (.tmp 7) (some x8) (some x7)) fun v1 =>
  br (some v1) (
   doQ (qLoad env.P (Heap.get H) 24 (some x3)) fun v2 =>
   doQ (qIndexAddr env.P (Heap.get H) 72 (some x0) (some x8)) fun v3 =>
   doQ (qLoad env.P (Heap.get H) 24 (some v3)) fun v4 =>
   doQ (qBin env.P .eql 24 (.tmp 11) (.tmp 15) (some v2) (some v4)) fun v5 =>
   br (some v5) (
    Q x8 H) (
    doQ (qBin env.P .add 3 (.tmp 8) (.const (.int .i64 1)) (some x8) (some (.v (.int .i64 1)))) fun v6 =>
    GoL env Try.f151 0 hd_slices_Index___blindstamp_api_Label_blindstamp_api_Label__2 [(8, v6), (0, x0), (3, x3), (7, x7)] H Q)) (
   Q (.v (.int .i64 (-1))) H)
theorem vq_slices_Index___blindstamp_api_Label_blindstamp_api_Label__2 : VC_slices_Index___blindstamp_api_Label_blindstamp_api_Label__2 = fun g x8 x0 x3 x7 H Q => wp env Try.f151 none 0 lv_slices_Index___blindstamp_api_Label_blindstamp_api_Label_ cu_slices_Index___blindstamp_api_Label_blindstamp_api_Label_ Q 500 (bodyOf hd_slices_Index___blindstamp_api_Label_blindstamp_api_Label__2) (ofL g [(8, x8), (0, x0), (3, x3), (7, x7)]) H := by kernel_rfl
theorem vc_slices_Index___blindstamp_api_Label_blindstamp_api_Label__2 (x8 x0 x3 x7 : AV) (H : Heap) (Q : AV → Heap → Prop) (h : ∀ g, VC_slices_Index___blindstamp_api_Label_blindstamp_api_Label__2 g x8 x0 x3 x7 H Q) : GoL env Try.f151 0 hd_slices_Index___blindstamp_api_Label_blindstamp_api_Label__2 [(8, x8), (0, x0), (3, x3), (7, x7)] H Q := goL_body fun g => wp_ok (by have h := h g; rw [vq_slices_Index___blindstamp_api_Label_blindstamp_api_Label__2] at h; exact h)

/- blindstampref18_has -/
noncomputable def bd_blindstampref18_has : Code := (Try.f152.body).getD .skip
def lv_blindstampref18_has : Nat → Option (List Nat) := fun i => none
def cu_blindstampref18_has : Nat → Bool := fun i => false
def VC_blindstampref18_has (g : Nat → AV) (x0 x1 : AV) (H : Heap) (Q : AV → Heap → Prop) : Prop :=
  doW (nRes H (⟨0, 2, Heap.gen H 0 2, 0⟩ : Ref) (qBox env.P (⟨0, 2, Heap.gen H 0 2, 0⟩ : Ref) 30 (some x0))) fun v1 H1 =>
  doW (nRes H1 (⟨0, 3, Heap.gen H1 0 3, 0⟩ : Ref) (qBox env.P (⟨0, 3, Heap.gen H1 0 3, 0⟩ : Ref) 28 (some x1))) fun v2 H2 =>
  doQ (qFieldAddr env.P 30 (some v1) 0) fun v3 =>
  doQ (qFieldAddr env.P 28 (some v3) 0) fun v4 =>
  doQ (qLoad env.P (Heap.get H2) 26 (some v4)) fun v5 =>
  doQ (qFieldAddr env.P 28 (some v2) 0) fun v6 =>
  doQ (qLoad env.P (Heap.get H2) 26 (some v6)) fun v7 =>
  doQ (qBin env.P .eql 26 (.tmp 7) (.tmp 9) (some v5) (some v7)) fun v8 =>
  gQ v8 true (qFieldAddr env.P 28 (some v2) 1) fun v9 =>
  gQ v8 true (qLoad env.P (Heap.get H2) 3 (some v9)) fun v10 =>
  gQ v8 true (qFieldAddr env.P 30 (some v1) 0) fun v11 =>
  gQ v8 true (qFieldAddr env.P 28 (some v11) 1) fun v12 =>
  gQ v8 true (qLoad env.P (Heap.get H2) 3 (some v12)) fun v13 =>
  gQ v8 true (qBin env.P .geq 3 (.tmp 13) (.tmp 16) (some v10) (some v13)) fun v14 =>
  doQ (pickF (some v8) (some v14) (some (.v (.bool false)))) fun v15 =>
  gQ v15 true (qFieldAddr env.P 28 (some v2) 1) fun v16 =>
  gQ v15 true (qLoad env.P (Heap.get H2) 3 (some v16)) fun v17 =>
  gQ v15 true (qFieldAddr env.P 30 (some v1) 0) fun v18 =>
  gQ v15 true (qFieldAddr env.P 28 (some v18) 1) fun v19 =>
  gQ v15 true (qLoad env.P (Heap.get H2) 3 (some v19)) fun v20 =>
  gQ v15 true (qFieldAddr env.P 30 (some v1) 1) fun v21 =>
  gQ v15 true (qLoad env.P (Heap.get H2) 3 (some v21)) fun v22 =>
  gQ v15 true (qBin env.P .add 3 (.tmp 24) (.tmp 26) (some v20) (some v22)) fun v23 =>
  gQ v15 true (qBin env.P .lss 3 (.tmp 21) (.tmp 27) (some v17) (some v23)) fun v24 =>
  doQ (pickF (some v15) (some v24) (some (.v (.bool false)))) fun v25 =>
  Q v25 H2
theorem vq_blindstampref18_has : VC_blindstampref18_has = fun g x0 x1 H Q => wp env Try.f152 none 0 lv_blindstampref18_has cu_blindstampref18_has Q 500 [.code bd_blindstampref18_has] (ofL g [(0, x0), (1, x1)]) H := by kernel_rfl
theorem vc_blindstampref18_has (x0 x1 : AV) (H : Heap) (Q : AV → Heap → Prop) (h : ∀ g, VC_blindstampref18_has g x0 x1 H Q) : GoL env Try.f152 0 [.code bd_blindstampref18_has] [(0, x0), (1, x1)] H Q := ⟨fun g => wp_ok (by have h := h g; rw [vq_blindstampref18_has] at h; exact h)⟩

/- blindstampref01_has -/
noncomputable def bd_blindstampref01_has : Code := (Try.f153.body).getD .skip
def lv_blindstampref01_has : Nat → Option (List Nat) := fun i => none
def cu_blindstampref01_has : Nat → Bool := fun i => false
def VC_blindstampref01_has (g : Nat → AV) (x0 x1 : AV) (H : Heap) (Q : AV → Heap → Prop) : Prop :=
  doW (nRes H (⟨0, 2, Heap.gen H 0 2, 0⟩ : Ref) (qBox env.P (⟨0, 2, Heap.gen H 0 2, 0⟩ : Ref) 24 (some x0))) fun v1 H1 =>
  doQ (qFieldAddr env.P 24 (some v1) 1) fun v2 =>
  doQ (qLoad env.P (Heap.get H1) 22 (some v2)) fun v3 =>
  doQ (qConvert env.P (Heap.get H1) (⟨0, 8, Heap.gen H1 0 8, 0⟩ : Ref) 3 190 (some x1)) fun v4 =>
  doQ (qBin env.P .shr 22 (.tmp 6) (.tmp 8) (some v3) (some v4)) fun v5 =>
  doQ (qBin env.P .rem 22 (.tmp 9) (.const (.int .u32 2)) (some v5) (some (a32 2))) fun v6 =>
  doQ (qBin env.P .eql 22 (.tmp 10) (.const (.int .u32 1)) (some v6) (some (a32 1))) fun v7 =>
  Q v7 H1
theorem vq_blindstampref01_has : VC_blindstampref01_has = fun g x0 x1 H Q => wp env Try.f153 none 0 lv_blindstampref01_has cu_blindstampref01_has Q 500 [.code bd_blindstampref01_has] (ofL g [(0, x0), (1, x1)]) H := by kernel_rfl
theorem vc_blindstampref01_has (x0 x1 : AV) (H : Heap) (Q : AV → Heap → Prop) (h : ∀ g, VC_blindstampref01_has g x0 x1 H Q) : GoL env Try.f153 0 [.code bd_blindstampref01_has] [(0, x0), (1, x1)] H Q := ⟨fun g => wp_ok (by have h := h g; rw [vq_blindstampref01_has] at h; exact h)⟩

end Go.Proofs.Ytjampffmlnplcaa
