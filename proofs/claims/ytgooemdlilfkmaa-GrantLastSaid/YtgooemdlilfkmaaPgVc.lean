/-
  What is to be shown of each function, computed from its code. No statement of a seat is proved here.
-/
import Derived.Test.YtgooemdlilfkmaaPgTy
set_option linter.unusedVariables false
set_option maxRecDepth 1000000
namespace Go.Proofs.Ytgooemdlilfkmaa
open Go.Ab

/- policy_Quota -/
noncomputable def bd_policy_Quota : Code := (Try.f12.body).getD .skip
def lv_policy_Quota : Nat → Option (List Nat) := fun i => none
def cu_policy_Quota : Nat → Bool := fun i => false
def VC_policy_Quota (g : Nat → AV) (x0 x1 : AV) (H : Heap) (Q : AV → Heap → Prop) : Prop :=
  doW (nRes H (⟨0, 2, Heap.gen H 0 2, 0⟩ : Ref) (qBox env.P (⟨0, 2, Heap.gen H 0 2, 0⟩ : Ref) 33 (some x0))) fun v1 H1 =>
  doW (nRes H1 (⟨0, 3, Heap.gen H1 0 3, 0⟩ : Ref) (qBox env.P (⟨0, 3, Heap.gen H1 0 3, 0⟩ : Ref) 24 (some x1))) fun v2 H2 =>
  doW (nRes H2 (⟨0, 4, Heap.gen H2 0 4, 0⟩ : Ref) (qAlloc env.P (⟨0, 4, Heap.gen H2 0 4, 0⟩ : Ref) 26)) fun v3 H3 =>
  doQ (qLoad env.P (Heap.get H3) 33 (some v1)) fun v4 =>
  doQ (qLoad env.P (Heap.get H3) 24 (some v2)) fun v5 =>
  doW (callRes env true (limf env) (limt env 0) H3 (⟨0, 11, Heap.gen H3 0 11, 0⟩ : Ref) (some (.fn (.func 44) [] [])) [v4, v5]) fun v6 H4 =>
  doQ (qBin env.P .neq 27 (.tmp 12) (.const (.int .i64 0)) (some v6) (some (.v (.int .i64 0)))) fun v7 =>
  br (some v7) (
   doQ (qBuild env.P 26 (some [])) fun v8 =>
   doW (wStore env.P H4 26 (some v3) (some v8)) fun v9 H5 =>
   doQ (readCell env.P H5 v3 26) fun v10 =>
   Q (.tup [v10, v6]) H5) (
   doQ (qFieldAddr env.P 33 (some v1) 1) fun v8 =>
   doQ (qLoad env.P (Heap.get H4) 31 (some v8)) fun v9 =>
   doQ (qLoad env.P (Heap.get H4) 24 (some v2)) fun v10 =>
   doW (callRes env true (limf env) (limt env 0) H4 (⟨0, 20, Heap.gen H4 0 20, 0⟩ : Ref) (some (.fn (.func 45) [] [])) [v9, v10, (.fn (.func 46) [] [])]) fun v11 H5 =>
   doQ (qExtract (some v11) 0) fun v12 =>
   doQ (qExtract (some v11) 1) fun v13 =>
   doW (nRes H5 (⟨0, 7, Heap.gen H5 0 7, 0⟩ : Ref) (qAlloc env.P (⟨0, 7, Heap.gen H5 0 7, 0⟩ : Ref) 26)) fun v14 H6 =>
   doW (wStore env.P H6 26 (some v14) (some v12)) fun v15 H7 =>
   doQ (qUn env.P .not (some v13)) fun v16 =>
   br (some v16) (
    doQ (qLoad env.P (Heap.get H7) 24 (some v2)) fun v17 =>
    doQ (qFieldAddr env.P 26 (some v14) 0) fun v18 =>
    doW (wStore env.P H7 24 (some v18) (some v17)) fun v19 H8 =>
    doQ (qLoad env.P (Heap.get H8) 26 (some v14)) fun v20 =>
    doW (wStore env.P H8 26 (some v3) (some v20)) fun v21 H9 =>
    doQ (readCell env.P H9 v3 26) fun v22 =>
    Q (.tup [v22, (.v (.int .i64 0))]) H9) (
    doQ (qLoad env.P (Heap.get H7) 26 (some v14)) fun v17 =>
    doW (wStore env.P H7 26 (some v3) (some v17)) fun v18 H8 =>
    doQ (readCell env.P H8 v3 26) fun v19 =>
    Q (.tup [v19, (.v (.int .i64 0))]) H8))
theorem vq_policy_Quota : VC_policy_Quota = fun g x0 x1 H Q => wp env Try.f12 none 0 lv_policy_Quota cu_policy_Quota Q 500 [.code bd_policy_Quota] (ofL g [(0, x0), (1, x1)]) H := by kernel_rfl
theorem vc_policy_Quota (x0 x1 : AV) (H : Heap) (Q : AV → Heap → Prop) (h : ∀ g, VC_policy_Quota g x0 x1 H Q) : GoL env Try.f12 0 [.code bd_policy_Quota] [(0, x0), (1, x1)] H Q := ⟨fun g => wp_ok (by have h := h g; rw [vq_policy_Quota] at h; exact h)⟩

/- policy_May -/
noncomputable def bd_policy_May : Code := (Try.f15.body).getD .skip
def lv_policy_May : Nat → Option (List Nat) := fun i => none
def cu_policy_May : Nat → Bool := fun i => false
def VC_policy_May (g : Nat → AV) (x0 x1 x2 : AV) (H : Heap) (Q : AV → Heap → Prop) : Prop :=
  doW (nRes H (⟨0, 3, Heap.gen H 0 3, 0⟩ : Ref) (qBox env.P (⟨0, 3, Heap.gen H 0 3, 0⟩ : Ref) 33 (some x0))) fun v1 H1 =>
  doW (nRes H1 (⟨0, 5, Heap.gen H1 0 5, 0⟩ : Ref) (qBox env.P (⟨0, 5, Heap.gen H1 0 5, 0⟩ : Ref) 24 (some x2))) fun v2 H2 =>
  doQ (qLoad env.P (Heap.get H2) 33 (some v1)) fun v3 =>
  doQ (qLoad env.P (Heap.get H2) 24 (some v2)) fun v4 =>
  doW (callRes env true (limf env) (limt env 0) H2 (⟨0, 12, Heap.gen H2 0 12, 0⟩ : Ref) (some (.fn (.func 44) [] [])) [v3, v4]) fun v5 H3 =>
  doQ (qBin env.P .neq 27 (.tmp 13) (.const (.int .i64 0)) (some v5) (some (.v (.int .i64 0)))) fun v6 =>
  br (some v6) (
   Q (.tup [(.v (.bool false)), v5]) H3) (
   doQ (qBin env.P .lss 3 (.tmp 16) (.const (.int .i64 0)) (some x1) (some (.v (.int .i64 0)))) fun v7 =>
   gQ v7 false (qVal (some x1)) fun v8 =>
   gQ v7 false (qFieldAddr env.P 33 (some v1) 0) fun v9 =>
   gQ v7 false (qLoad env.P (Heap.get H3) 30 (some v9)) fun v10 =>
   gQ v7 false (qBuiltin env.P false (Heap.get H3) (⟨0, 22, Heap.gen H3 0 22, 0⟩ : Ref) .len #[30] [v10]) fun v11 =>
   gQ v7 false (qBin env.P .geq 3 (.tmp 19) (.tmp 22) (some v8) (some v11)) fun v12 =>
   doQ (pickF (some v7) (some (.v (.bool true))) (some v12)) fun v13 =>
   br (some v13) (
    Q (.tup [(.v (.bool false)), (.v (.int .i64 0))]) H3) (
    doQ (qFieldAddr env.P 33 (some v1) 0) fun v14 =>
    doQ (qLoad env.P (Heap.get H3) 30 (some v14)) fun v15 =>
    doQ (qIndexAddr env.P (Heap.get H3) 30 (some v15) (some x1)) fun v16 =>
    doQ (qLoad env.P (Heap.get H3) 39 (some v16)) fun v17 =>
    doW (nRes H3 (⟨0, 9, Heap.gen H3 0 9, 0⟩ : Ref) (qAlloc env.P (⟨0, 9, Heap.gen H3 0 9, 0⟩ : Ref) 39)) fun v18 H4 =>
    doW (wStore env.P H4 39 (some v18) (some v17)) fun v19 H5 =>
    doQ (qFieldAddr env.P 39 (some v18) 1) fun v20 =>
    doQ (qLoad env.P (Heap.get H5) 4 (some v20)) fun v21 =>
    gQ v21 true (qLoad env.P (Heap.get H5) 24 (some v2)) fun v22 =>
    gQ v21 true (qFieldAddr env.P 39 (some v18) 0) fun v23 =>
    gQ v21 true (qLoad env.P (Heap.get H5) 24 (some v23)) fun v24 =>
    gW v21 true H5 (callRes env true (limf env) (limt env 0) H5 (⟨0, 36, Heap.gen H5 0 36, 0⟩ : Ref) (some (.fn (.func 19) [] [])) [v22, v24]) fun v25 H6 =>
    doQ (pickF (some v21) (some v25) (some (.v (.bool false)))) fun v26 =>
    Q (.tup [v26, (.v (.int .i64 0))]) H6))
theorem vq_policy_May : VC_policy_May = fun g x0 x1 x2 H Q => wp env Try.f15 none 0 lv_policy_May cu_policy_May Q 500 [.code bd_policy_May] (ofL g [(0, x0), (1, x1), (2, x2)]) H := by kernel_rfl
theorem vc_policy_May (x0 x1 x2 : AV) (H : Heap) (Q : AV → Heap → Prop) (h : ∀ g, VC_policy_May g x0 x1 x2 H Q) : GoL env Try.f15 0 [.code bd_policy_May] [(0, x0), (1, x1), (2, x2)] H Q := ⟨fun g => wp_ok (by have h := h g; rw [vq_policy_May] at h; exact h)⟩

/- policy_Check -/
noncomputable def bd_policy_Check : Code := (Try.f17.body).getD .skip
noncomputable def hd_policy_Check_3 : List Item := (findLoop 3 400 [.code bd_policy_Check]).getD []
noncomputable def hd_policy_Check_8 : List Item := (findLoop 8 400 [.code bd_policy_Check]).getD []
noncomputable def hd_policy_Check_14 : List Item := (findLoop 14 400 [.code bd_policy_Check]).getD []
def lv_policy_Check : Nat → Option (List Nat) := fun i => cond (Nat.beq i 3) (some [27, 3, 25, 1, 26]) (cond (Nat.beq i 8) (some [40, 1, 3, 38, 39]) (cond (Nat.beq i 14) (some [87, 8, 85, 1, 3, 86]) (none)))
def cu_policy_Check : Nat → Bool := fun i => false
def VC_policy_Check (g : Nat → AV) (x0 : AV) (H : Heap) (Q : AV → Heap → Prop) : Prop :=
  doW (nRes H (⟨0, 1, Heap.gen H 0 1, 0⟩ : Ref) (qBox env.P (⟨0, 1, Heap.gen H 0 1, 0⟩ : Ref) 33 (some x0))) fun v1 H1 =>
  doQ (qFieldAddr env.P 33 (some v1) 0) fun v2 =>
  doQ (qLoad env.P (Heap.get H1) 30 (some v2)) fun v3 =>
  doQ (qBuiltin env.P false (Heap.get H1) (⟨0, 13, Heap.gen H1 0 13, 0⟩ : Ref) .len #[30] [v3]) fun v4 =>
  doQ (qBin env.P .leq 3 (.tmp 13) (.const (.int .i64 8)) (some v4) (some (.v (.int .i64 8)))) fun v5 =>
  doQ (qFieldAddr env.P 33 (some v1) 1) fun v6 =>
  doQ (qLoad env.P (Heap.get H1) 31 (some v6)) fun v7 =>
  doQ (qBuiltin env.P false (Heap.get H1) (⟨0, 17, Heap.gen H1 0 17, 0⟩ : Ref) .len #[31] [v7]) fun v8 =>
  doQ (qBin env.P .leq 3 (.tmp 17) (.const (.int .i64 8)) (some v8) (some (.v (.int .i64 8)))) fun v9 =>
  doQ (qFieldAddr env.P 33 (some v1) 2) fun v10 =>
  doQ (qLoad env.P (Heap.get H1) 3 (some v10)) fun v11 =>
  doW (callRes env false (limf env) (limt env 0) H1 (⟨0, 21, Heap.gen H1 0 21, 0⟩ : Ref) (some (.fn (.func 49) [] [])) [v11, (.v (.int .i64 64))]) fun v12 H2 =>
  doW (bsRes env.P true false H2 (⟨0, 22, Heap.gen H2 0 22, 0⟩ : Ref) 114 3 (some [(0, v5), (1, v9), (2, v12)])) fun v13 H3 =>
  doW (callRes env false (limf env) (limt env 0) H3 (⟨0, 23, Heap.gen H3 0 23, 0⟩ : Ref) (some (.fn (.func 48) [] [])) [v13]) fun v14 H4 =>
  doQ (qFieldAddr env.P 33 (some v1) 0) fun v15 =>
  doQ (qLoad env.P (Heap.get H4) 30 (some v15)) fun v16 =>
  doQ (qBuiltin env.P false (Heap.get H4) (⟨0, 26, Heap.gen H4 0 26, 0⟩ : Ref) .len #[30] [v16]) fun v17 =>
  GoL env Try.f17 0 hd_policy_Check_3 [(27, (.v (.int .i64 0))), (3, v14), (25, v16), (1, v1), (26, v17)] H4 Q
theorem vq_policy_Check : VC_policy_Check = fun g x0 H Q => wp env Try.f17 none 0 lv_policy_Check cu_policy_Check Q 500 [.code bd_policy_Check] (ofL g [(0, x0)]) H := by kernel_rfl
theorem vc_policy_Check (x0 : AV) (H : Heap) (Q : AV → Heap → Prop) (h : ∀ g, VC_policy_Check g x0 H Q) : GoL env Try.f17 0 [.code bd_policy_Check] [(0, x0)] H Q := ⟨fun g => wp_ok (by have h := h g; rw [vq_policy_Check] at h; exact h)⟩
def VC_policy_Check_3 (g : Nat → AV) (x27 x3 x25 x1 x26 : AV) (H : Heap) (Q : AV → Heap → Prop) : Prop :=
  doQ (qBin env.P .lss 3 (.tmp 27) (.tmp 26) (some x27) (some x26)) fun v1 =>
  br (some v1) (
   doQ (qIndexAddr env.P (Heap.get H) 30 (some x25) (some x27)) fun v2 =>
   doQ (qLoad env.P (Heap.get H) 39 (some v2)) fun v3 =>
   doW (nRes H (⟨0, 5, Heap.gen H 0 5, 0⟩ : Ref) (qAlloc env.P (⟨0, 5, Heap.gen H 0 5, 0⟩ : Ref) 39)) fun v4 H1 =>
   doW (wStore env.P H1 39 (some v4) (some v3)) fun v5 H2 =>
   gQ x3 true (qLoad env.P (Heap.get H2) 39 (some v4)) fun v6 =>
   gW x3 true H2 (callRes env true (limf env) (limt env 0) H2 (⟨0, 34, Heap.gen H2 0 34, 0⟩ : Ref) (some (.fn (.func 50) [] [])) [v6]) fun v7 H3 =>
   doQ (pickF (some x3) (some v7) (some (.v (.bool false)))) fun v8 =>
   doQ (qBin env.P .add 3 (.tmp 27) (.const (.int .i64 1)) (some x27) (some (.v (.int .i64 1)))) fun v9 =>
   GoL env Try.f17 0 hd_policy_Check_3 [(27, v9), (3, v8), (25, x25), (1, x1), (26, x26)] H3 Q) (
   doQ (qFieldAddr env.P 33 (some x1) 1) fun v2 =>
   doQ (qLoad env.P (Heap.get H) 31 (some v2)) fun v3 =>
   doQ (qBuiltin env.P false (Heap.get H) (⟨0, 39, Heap.gen H 0 39, 0⟩ : Ref) .len #[31] [v3]) fun v4 =>
   GoL env Try.f17 0 hd_policy_Check_8 [(40, (.v (.int .i64 0))), (1, x1), (3, x3), (38, v3), (39, v4)] H Q)
theorem vq_policy_Check_3 : VC_policy_Check_3 = fun g x27 x3 x25 x1 x26 H Q => wp env Try.f17 none 0 lv_policy_Check cu_policy_Check Q 500 (bodyOf hd_policy_Check_3) (ofL g [(27, x27), (3, x3), (25, x25), (1, x1), (26, x26)]) H := by kernel_rfl
theorem vc_policy_Check_3 (x27 x3 x25 x1 x26 : AV) (H : Heap) (Q : AV → Heap → Prop) (h : ∀ g, VC_policy_Check_3 g x27 x3 x25 x1 x26 H Q) : GoL env Try.f17 0 hd_policy_Check_3 [(27, x27), (3, x3), (25, x25), (1, x1), (26, x26)] H Q := goL_body fun g => wp_ok (by have h := h g; rw [vq_policy_Check_3] at h; exact h)
def VC_policy_Check_8 (g : Nat → AV) (x40 x1 x3 x38 x39 : AV) (H : Heap) (Q : AV → Heap → Prop) : Prop :=
  doQ (qBin env.P .lss 3 (.tmp 40) (.tmp 39) (some x40) (some x39)) fun v1 =>
  br (some v1) (
   doQ (qIndexAddr env.P (Heap.get H) 31 (some x38) (some x40)) fun v2 =>
   doQ (qLoad env.P (Heap.get H) 26 (some v2)) fun v3 =>
   doW (nRes H (⟨0, 7, Heap.gen H 0 7, 0⟩ : Ref) (qAlloc env.P (⟨0, 7, Heap.gen H 0 7, 0⟩ : Ref) 26)) fun v4 H1 =>
   doW (wStore env.P H1 26 (some v4) (some v3)) fun v5 H2 =>
   gQ x3 true (qFieldAddr env.P 26 (some v4) 0) fun v6 =>
   gQ x3 true (qLoad env.P (Heap.get H2) 24 (some v6)) fun v7 =>
   gW x3 true H2 (callRes env false (limf env) (limt env 0) H2 (⟨0, 49, Heap.gen H2 0 49, 0⟩ : Ref) (some (.fn (.func 51) [] [])) [v7]) fun v8 H3 =>
   gQ x3 true (qBin env.P .eql 27 (.tmp 49) (.const (.int .i64 0)) (some v8) (some (.v (.int .i64 0)))) fun v9 =>
   gQ x3 true (qFieldAddr env.P 26 (some v4) 1) fun v10 =>
   gQ x3 true (qLoad env.P (Heap.get H3) 3 (some v10)) fun v11 =>
   gW x3 true H3 (callRes env false (limf env) (limt env 0) H3 (⟨0, 53, Heap.gen H3 0 53, 0⟩ : Ref) (some (.fn (.func 49) [] [])) [v11, (.v (.int .i64 64))]) fun v12 H4 =>
   gQ x3 true (qFieldAddr env.P 26 (some v4) 2) fun v13 =>
   gQ x3 true (qLoad env.P (Heap.get H4) 3 (some v13)) fun v14 =>
   gW x3 true H4 (callRes env false (limf env) (limt env 0) H4 (⟨0, 56, Heap.gen H4 0 56, 0⟩ : Ref) (some (.fn (.func 49) [] [])) [v14, (.v (.int .i64 256))]) fun v15 H5 =>
   gQ x3 true (qFieldAddr env.P 26 (some v4) 3) fun v16 =>
   gQ x3 true (qLoad env.P (Heap.get H5) 3 (some v16)) fun v17 =>
   gW x3 true H5 (callRes env false (limf env) (limt env 0) H5 (⟨0, 59, Heap.gen H5 0 59, 0⟩ : Ref) (some (.fn (.func 49) [] [])) [v17, (.v (.int .i64 4096))]) fun v18 H6 =>
   gQ x3 true (qVal (some x40)) fun v19 =>
   gQ x3 true (qBin env.P .eql 3 (.tmp 60) (.const (.int .i64 0)) (some v19) (some (.v (.int .i64 0)))) fun v20 =>
   gQ x3 true (qVal (some v20)) fun v21 =>
   gQ v21 false (qFieldAddr env.P 33 (some x1) 1) fun v22 =>
   gQ v21 false (qLoad env.P (Heap.get H6) 31 (some v22)) fun v23 =>
   gQ v21 false (qVal (some x40)) fun v24 =>
   gQ v21 false (qBin env.P .sub 3 (.tmp 65) (.const (.int .i64 1)) (some v24) (some (.v (.int .i64 1)))) fun v25 =>
   gQ v21 false (qBuiltin env.P true (Heap.get H6) (⟨0, 67, Heap.gen H6 0 67, 0⟩ : Ref) .max #[3, 3] [v25, (.v (.int .i64 0))]) fun v26 =>
   gQ v21 false (qIndexAddr env.P (Heap.get H6) 31 (some v23) (some v26)) fun v27 =>
   gQ v21 false (qFieldAddr env.P 26 (some v27) 0) fun v28 =>
   gQ v21 false (qLoad env.P (Heap.get H6) 24 (some v28)) fun v29 =>
   gQ v21 false (qFieldAddr env.P 26 (some v4) 0) fun v30 =>
   gQ v21 false (qLoad env.P (Heap.get H6) 24 (some v30)) fun v31 =>
   gW v21 false H6 (callRes env false (limf env) (limt env 0) H6 (⟨0, 73, Heap.gen H6 0 73, 0⟩ : Ref) (some (.fn (.func 21) [] [])) [v29, v31]) fun v32 H7 =>
   gQ x3 true (pickF (some v21) (some (.v (.bool true))) (some v32)) fun v33 =>
   gW x3 true H7 (bsRes env.P true false H7 (⟨0, 75, Heap.gen H7 0 75, 0⟩ : Ref) 114 5 (some [(0, v9), (1, v12), (2, v15), (3, v18), (4, v33)])) fun v34 H8 =>
   gW x3 true H8 (callRes env false (limf env) (limt env 0) H8 (⟨0, 76, Heap.gen H8 0 76, 0⟩ : Ref) (some (.fn (.func 48) [] [])) [v34]) fun v35 H9 =>
   doQ (pickF (some x3) (some v35) (some (.v (.bool false)))) fun v36 =>
   doQ (qBin env.P .add 3 (.tmp 40) (.const (.int .i64 1)) (some x40) (some (.v (.int .i64 1)))) fun v37 =>
   GoL env Try.f17 0 hd_policy_Check_8 [(40, v37), (1, x1), (3, v36), (38, x38), (39, x39)] H9 Q) (
   doQ (qFieldAddr env.P 33 (some x1) 1) fun v2 =>
   doQ (qLoad env.P (Heap.get H) 31 (some v2)) fun v3 =>
   doQ (qFieldAddr env.P 33 (some x1) 1) fun v4 =>
   doQ (qLoad env.P (Heap.get H) 31 (some v4)) fun v5 =>
   doQ (qBuiltin env.P false (Heap.get H) (⟨0, 83, Heap.gen H 0 83, 0⟩ : Ref) .len #[31] [v5]) fun v6 =>
   doQ (qBuiltin env.P false (Heap.get H) (⟨0, 84, Heap.gen H 0 84, 0⟩ : Ref) .min #[3, 3] [v6, (.v (.int .i64 8))]) fun v7 =>
   doQ (qSlice env.P (Heap.get H) 31 (some v3) (some none) (oi v7) (some none)) fun v8 =>
   doQ (qBuiltin env.P false (Heap.get H) (⟨0, 86, Heap.gen H 0 86, 0⟩ : Ref) .len #[31] [v8]) fun v9 =>
   GoL env Try.f17 0 hd_policy_Check_14 [(87, (.v (.int .i64 0))), (8, (.v (.int .i64 0))), (85, v8), (1, x1), (3, x3), (86, v9)] H Q)
theorem vq_policy_Check_8 : VC_policy_Check_8 = fun g x40 x1 x3 x38 x39 H Q => wp env Try.f17 none 0 lv_policy_Check cu_policy_Check Q 500 (bodyOf hd_policy_Check_8) (ofL g [(40, x40), (1, x1), (3, x3), (38, x38), (39, x39)]) H := by kernel_rfl
theorem vc_policy_Check_8 (x40 x1 x3 x38 x39 : AV) (H : Heap) (Q : AV → Heap → Prop) (h : ∀ g, VC_policy_Check_8 g x40 x1 x3 x38 x39 H Q) : GoL env Try.f17 0 hd_policy_Check_8 [(40, x40), (1, x1), (3, x3), (38, x38), (39, x39)] H Q := goL_body fun g => wp_ok (by have h := h g; rw [vq_policy_Check_8] at h; exact h)
def VC_policy_Check_14 (g : Nat → AV) (x87 x8 x85 x1 x3 x86 : AV) (H : Heap) (Q : AV → Heap → Prop) : Prop :=
  doQ (qBin env.P .lss 3 (.tmp 87) (.tmp 86) (some x87) (some x86)) fun v1 =>
  br (some v1) (
   doQ (qIndexAddr env.P (Heap.get H) 31 (some x85) (some x87)) fun v2 =>
   doQ (qLoad env.P (Heap.get H) 26 (some v2)) fun v3 =>
   doW (nRes H (⟨0, 10, Heap.gen H 0 10, 0⟩ : Ref) (qAlloc env.P (⟨0, 10, Heap.gen H 0 10, 0⟩ : Ref) 26)) fun v4 H1 =>
   doW (wStore env.P H1 26 (some v4) (some v3)) fun v5 H2 =>
   doQ (qFieldAddr env.P 26 (some v4) 3) fun v6 =>
   doQ (qLoad env.P (Heap.get H2) 3 (some v6)) fun v7 =>
   doQ (qBuiltin env.P false (Heap.get H2) (⟨0, 94, Heap.gen H2 0 94, 0⟩ : Ref) .max #[3, 3] [v7, (.v (.int .i64 0))]) fun v8 =>
   doQ (qBuiltin env.P false (Heap.get H2) (⟨0, 95, Heap.gen H2 0 95, 0⟩ : Ref) .min #[3, 3] [v8, (.v (.int .i64 4096))]) fun v9 =>
   doQ (qBin env.P .add 3 (.tmp 91) (.tmp 95) (some x8) (some v9)) fun v10 =>
   doQ (qBin env.P .add 3 (.tmp 87) (.const (.int .i64 1)) (some x87) (some (.v (.int .i64 1)))) fun v11 =>
   GoL env Try.f17 0 hd_policy_Check_14 [(87, v11), (8, v10), (85, x85), (1, x1), (3, x3), (86, x86)] H2 Q) (
   doQ (qUn env.P .not (some x3)) fun v2 =>
   gQ v2 false (qLoad env.P (Heap.get H) 33 (some x1)) fun v3 =>
   gW v2 false H (callRes env true (limf env) (limt env 0) H (⟨0, 102, Heap.gen H 0 102, 0⟩ : Ref) (some (.fn (.func 52) [] [])) [v3]) fun v4 H1 =>
   gQ v2 false (qBin env.P .gtr 3 (.tmp 102) (.const (.int .i64 2048)) (some v4) (some (.v (.int .i64 2048)))) fun v5 =>
   doQ (pickF (some v2) (some (.v (.bool true))) (some v5)) fun v6 =>
   gQ v6 false (qVal (some x8)) fun v7 =>
   gQ v6 false (qBin env.P .gtr 3 (.tmp 106) (.const (.int .i64 8192)) (some v7) (some (.v (.int .i64 8192)))) fun v8 =>
   doQ (pickF (some v6) (some (.v (.bool true))) (some v8)) fun v9 =>
   br (some v9) (
    Q (.v (.int .i64 8)) H1) (
    Q (.v (.int .i64 0)) H1))
theorem vq_policy_Check_14 : VC_policy_Check_14 = fun g x87 x8 x85 x1 x3 x86 H Q => wp env Try.f17 none 0 lv_policy_Check cu_policy_Check Q 500 (bodyOf hd_policy_Check_14) (ofL g [(87, x87), (8, x8), (85, x85), (1, x1), (3, x3), (86, x86)]) H := by kernel_rfl
theorem vc_policy_Check_14 (x87 x8 x85 x1 x3 x86 : AV) (H : Heap) (Q : AV → Heap → Prop) (h : ∀ g, VC_policy_Check_14 g x87 x8 x85 x1 x3 x86 H Q) : GoL env Try.f17 0 hd_policy_Check_14 [(87, x87), (8, x8), (85, x85), (1, x1), (3, x3), (86, x86)] H Q := goL_body fun g => wp_ok (by have h := h g; rw [vq_policy_Check_14] at h; exact h)

/- blindstampref06_Great -/
noncomputable def bd_blindstampref06_Great : Code := (Try.f18.body).getD .skip
def lv_blindstampref06_Great : Nat → Option (List Nat) := fun i => none
def cu_blindstampref06_Great : Nat → Bool := fun i => false
def VC_blindstampref06_Great (g : Nat → AV) (x0 : AV) (H : Heap) (Q : AV → Heap → Prop) : Prop :=
  doW (nRes H (⟨0, 1, Heap.gen H 0 1, 0⟩ : Ref) (qBox env.P (⟨0, 1, Heap.gen H 0 1, 0⟩ : Ref) 33 (some x0))) fun v1 H1 =>
  doQ (qFieldAddr env.P 33 (some v1) 0) fun v2 =>
  doQ (qLoad env.P (Heap.get H1) 30 (some v2)) fun v3 =>
  doQ (qBuiltin env.P false (Heap.get H1) (⟨0, 5, Heap.gen H1 0 5, 0⟩ : Ref) .len #[30] [v3]) fun v4 =>
  doQ (qBin env.P .gtr 3 (.tmp 5) (.const (.int .i64 100)) (some v4) (some (.v (.int .i64 100)))) fun v5 =>
  gQ v5 false (qFieldAddr env.P 33 (some v1) 1) fun v6 =>
  gQ v5 false (qLoad env.P (Heap.get H1) 31 (some v6)) fun v7 =>
  gQ v5 false (qBuiltin env.P false (Heap.get H1) (⟨0, 10, Heap.gen H1 0 10, 0⟩ : Ref) .len #[31] [v7]) fun v8 =>
  gQ v5 false (qBin env.P .gtr 3 (.tmp 10) (.const (.int .i64 100)) (some v8) (some (.v (.int .i64 100)))) fun v9 =>
  doQ (pickF (some v5) (some (.v (.bool true))) (some v9)) fun v10 =>
  Q v10 H1
theorem vq_blindstampref06_Great : VC_blindstampref06_Great = fun g x0 H Q => wp env Try.f18 none 0 lv_blindstampref06_Great cu_blindstampref06_Great Q 500 [.code bd_blindstampref06_Great] (ofL g [(0, x0)]) H := by kernel_rfl
theorem vc_blindstampref06_Great (x0 : AV) (H : Heap) (Q : AV → Heap → Prop) (h : ∀ g, VC_blindstampref06_Great g x0 H Q) : GoL env Try.f18 0 [.code bd_blindstampref06_Great] [(0, x0)] H Q := ⟨fun g => wp_ok (by have h := h g; rw [vq_blindstampref06_Great] at h; exact h)⟩

/- label_Leq -/
noncomputable def bd_label_Leq : Code := (Try.f19.body).getD .skip
def lv_label_Leq : Nat → Option (List Nat) := fun i => none
def cu_label_Leq : Nat → Bool := fun i => false
def VC_label_Leq (g : Nat → AV) (x0 x1 : AV) (H : Heap) (Q : AV → Heap → Prop) : Prop :=
  doW (nRes H (⟨0, 2, Heap.gen H 0 2, 0⟩ : Ref) (qBox env.P (⟨0, 2, Heap.gen H 0 2, 0⟩ : Ref) 24 (some x0))) fun v1 H1 =>
  doW (nRes H1 (⟨0, 3, Heap.gen H1 0 3, 0⟩ : Ref) (qBox env.P (⟨0, 3, Heap.gen H1 0 3, 0⟩ : Ref) 24 (some x1))) fun v2 H2 =>
  doQ (qFieldAddr env.P 24 (some v1) 0) fun v3 =>
  doQ (qLoad env.P (Heap.get H2) 5 (some v3)) fun v4 =>
  doQ (qFieldAddr env.P 24 (some v2) 0) fun v5 =>
  doQ (qLoad env.P (Heap.get H2) 5 (some v5)) fun v6 =>
  doQ (qBin env.P .leq 5 (.tmp 6) (.tmp 8) (some v4) (some v6)) fun v7 =>
  gQ v7 true (qFieldAddr env.P 24 (some v1) 1) fun v8 =>
  gQ v7 true (qLoad env.P (Heap.get H2) 22 (some v8)) fun v9 =>
  gQ v7 true (qFieldAddr env.P 24 (some v2) 1) fun v10 =>
  gQ v7 true (qLoad env.P (Heap.get H2) 22 (some v10)) fun v11 =>
  gQ v7 true (qBin env.P .andNot 22 (.tmp 12) (.tmp 14) (some v9) (some v11)) fun v12 =>
  gQ v7 true (qBin env.P .eql 22 (.tmp 15) (.const (.int .u32 0)) (some v12) (some (a32 0))) fun v13 =>
  doQ (pickF (some v7) (some v13) (some (.v (.bool false)))) fun v14 =>
  Q v14 H2
theorem vq_label_Leq : VC_label_Leq = fun g x0 x1 H Q => wp env Try.f19 none 0 lv_label_Leq cu_label_Leq Q 500 [.code bd_label_Leq] (ofL g [(0, x0), (1, x1)]) H := by kernel_rfl
theorem vc_label_Leq (x0 x1 : AV) (H : Heap) (Q : AV → Heap → Prop) (h : ∀ g, VC_label_Leq g x0 x1 H Q) : GoL env Try.f19 0 [.code bd_label_Leq] [(0, x0), (1, x1)] H Q := ⟨fun g => wp_ok (by have h := h g; rw [vq_label_Leq] at h; exact h)⟩

/- blindstampref06_Twin -/
noncomputable def bd_blindstampref06_Twin : Code := (Try.f20.body).getD .skip
def lv_blindstampref06_Twin : Nat → Option (List Nat) := fun i => none
def cu_blindstampref06_Twin : Nat → Bool := fun i => false
def VC_blindstampref06_Twin (g : Nat → AV) (x0 : AV) (H : Heap) (Q : AV → Heap → Prop) : Prop :=
  doW (nRes H (⟨0, 1, Heap.gen H 0 1, 0⟩ : Ref) (qBox env.P (⟨0, 1, Heap.gen H 0 1, 0⟩ : Ref) 33 (some x0))) fun v1 H1 =>
  doW (nRes H1 (⟨0, 2, Heap.gen H1 0 2, 0⟩ : Ref) (qAlloc env.P (⟨0, 2, Heap.gen H1 0 2, 0⟩ : Ref) 33)) fun v2 H2 =>
  doQ (qFieldAddr env.P 33 (some v1) 0) fun v3 =>
  doQ (qLoad env.P (Heap.get H2) 30 (some v3)) fun v4 =>
  doW (appRes env.P false H2 (⟨0, 5, Heap.gen H2 0 5, 0⟩ : Ref) (some 30) (some 30) (.v (.slice none 0 0)) v4) fun v5 H3 =>
  doQ (qFieldAddr env.P 33 (some v1) 1) fun v6 =>
  doQ (qLoad env.P (Heap.get H3) 31 (some v6)) fun v7 =>
  doW (appRes env.P false H3 (⟨0, 8, Heap.gen H3 0 8, 0⟩ : Ref) (some 31) (some 31) (.v (.slice none 0 0)) v7) fun v8 H4 =>
  doQ (qFieldAddr env.P 33 (some v1) 2) fun v9 =>
  doQ (qLoad env.P (Heap.get H4) 3 (some v9)) fun v10 =>
  doQ (qBuild env.P 33 (some [(0, v5), (1, v8), (2, v10)])) fun v11 =>
  doW (wStore env.P H4 33 (some v2) (some v11)) fun v12 H5 =>
  doQ (readCell env.P H5 v2 33) fun v13 =>
  Q v13 H5
theorem vq_blindstampref06_Twin : VC_blindstampref06_Twin = fun g x0 H Q => wp env Try.f20 none 0 lv_blindstampref06_Twin cu_blindstampref06_Twin Q 500 [.code bd_blindstampref06_Twin] (ofL g [(0, x0)]) H := by kernel_rfl
theorem vc_blindstampref06_Twin (x0 : AV) (H : Heap) (Q : AV → Heap → Prop) (h : ∀ g, VC_blindstampref06_Twin g x0 H Q) : GoL env Try.f20 0 [.code bd_blindstampref06_Twin] [(0, x0)] H Q := ⟨fun g => wp_ok (by have h := h g; rw [vq_blindstampref06_Twin] at h; exact h)⟩

/- label_Ahead -/
noncomputable def bd_label_Ahead : Code := (Try.f21.body).getD .skip
def lv_label_Ahead : Nat → Option (List Nat) := fun i => none
def cu_label_Ahead : Nat → Bool := fun i => false
def VC_label_Ahead (g : Nat → AV) (x0 x1 : AV) (H : Heap) (Q : AV → Heap → Prop) : Prop :=
  doW (nRes H (⟨0, 2, Heap.gen H 0 2, 0⟩ : Ref) (qBox env.P (⟨0, 2, Heap.gen H 0 2, 0⟩ : Ref) 24 (some x0))) fun v1 H1 =>
  doW (nRes H1 (⟨0, 3, Heap.gen H1 0 3, 0⟩ : Ref) (qBox env.P (⟨0, 3, Heap.gen H1 0 3, 0⟩ : Ref) 24 (some x1))) fun v2 H2 =>
  doQ (qFieldAddr env.P 24 (some v2) 0) fun v3 =>
  doQ (qLoad env.P (Heap.get H2) 5 (some v3)) fun v4 =>
  doQ (qFieldAddr env.P 24 (some v1) 1) fun v5 =>
  doQ (qLoad env.P (Heap.get H2) 22 (some v5)) fun v6 =>
  doQ (qBuild env.P 24 (some [(0, v4), (1, v6)])) fun v7 =>
  doW (nRes H2 (⟨0, 5, Heap.gen H2 0 5, 0⟩ : Ref) (qAlloc env.P (⟨0, 5, Heap.gen H2 0 5, 0⟩ : Ref) 24)) fun v8 H3 =>
  doW (wStore env.P H3 24 (some v8) (some v7)) fun v9 H4 =>
  doQ (qFieldAddr env.P 24 (some v1) 0) fun v10 =>
  doQ (qLoad env.P (Heap.get H4) 5 (some v10)) fun v11 =>
  doQ (qFieldAddr env.P 24 (some v2) 0) fun v12 =>
  doQ (qLoad env.P (Heap.get H4) 5 (some v12)) fun v13 =>
  doQ (qBin env.P .lss 5 (.tmp 12) (.tmp 14) (some v11) (some v13)) fun v14 =>
  gQ v14 false (qLoad env.P (Heap.get H4) 24 (some v1)) fun v15 =>
  gQ v14 false (qLoad env.P (Heap.get H4) 24 (some v8)) fun v16 =>
  gQ v14 false (qBin env.P .eql 24 (.tmp 17) (.tmp 18) (some v15) (some v16)) fun v17 =>
  gQ v14 false (qVal (some v17)) fun v18 =>
  gQ v18 true (qFieldAddr env.P 24 (some v1) 1) fun v19 =>
  gQ v18 true (qLoad env.P (Heap.get H4) 22 (some v19)) fun v20 =>
  gQ v18 true (qFieldAddr env.P 24 (some v2) 1) fun v21 =>
  gQ v18 true (qLoad env.P (Heap.get H4) 22 (some v21)) fun v22 =>
  gQ v18 true (qBin env.P .lss 22 (.tmp 22) (.tmp 24) (some v20) (some v22)) fun v23 =>
  gQ v14 false (pickF (some v18) (some v23) (some (.v (.bool false)))) fun v24 =>
  doQ (pickF (some v14) (some (.v (.bool true))) (some v24)) fun v25 =>
  Q v25 H4
theorem vq_label_Ahead : VC_label_Ahead = fun g x0 x1 H Q => wp env Try.f21 none 0 lv_label_Ahead cu_label_Ahead Q 500 [.code bd_label_Ahead] (ofL g [(0, x0), (1, x1)]) H := by kernel_rfl
theorem vc_label_Ahead (x0 x1 : AV) (H : Heap) (Q : AV → Heap → Prop) (h : ∀ g, VC_label_Ahead g x0 x1 H Q) : GoL env Try.f21 0 [.code bd_label_Ahead] [(0, x0), (1, x1)] H Q := ⟨fun g => wp_ok (by have h := h g; rw [vq_label_Ahead] at h; exact h)⟩

/- policy_Blocks -/
noncomputable def bd_policy_Blocks : Code := (Try.f22.body).getD .skip
def lv_policy_Blocks : Nat → Option (List Nat) := fun i => none
def cu_policy_Blocks : Nat → Bool := fun i => false
def VC_policy_Blocks (g : Nat → AV) (x0 : AV) (H : Heap) (Q : AV → Heap → Prop) : Prop :=
  doW (nRes H (⟨0, 1, Heap.gen H 0 1, 0⟩ : Ref) (qBox env.P (⟨0, 1, Heap.gen H 0 1, 0⟩ : Ref) 33 (some x0))) fun v1 H1 =>
  doQ (qLoad env.P (Heap.get H1) 33 (some v1)) fun v2 =>
  doW (callRes env true (limf env) (limt env 0) H1 (⟨0, 6, Heap.gen H1 0 6, 0⟩ : Ref) (some (.fn (.func 17) [] [])) [v2]) fun v3 H2 =>
  doQ (qBin env.P .neq 27 (.tmp 7) (.const (.int .i64 0)) (some v3) (some (.v (.int .i64 0)))) fun v4 =>
  br (some v4) (
   Q (.tup [(.v (.int .i64 0)), v3]) H2) (
   doQ (qLoad env.P (Heap.get H2) 33 (some v1)) fun v5 =>
   doW (callRes env true (limf env) (limt env 0) H2 (⟨0, 11, Heap.gen H2 0 11, 0⟩ : Ref) (some (.fn (.func 52) [] [])) [v5]) fun v6 H3 =>
   Q (.tup [v6, (.v (.int .i64 0))]) H3)
theorem vq_policy_Blocks : VC_policy_Blocks = fun g x0 H Q => wp env Try.f22 none 0 lv_policy_Blocks cu_policy_Blocks Q 500 [.code bd_policy_Blocks] (ofL g [(0, x0)]) H := by kernel_rfl
theorem vc_policy_Blocks (x0 : AV) (H : Heap) (Q : AV → Heap → Prop) (h : ∀ g, VC_policy_Blocks g x0 H Q) : GoL env Try.f22 0 [.code bd_policy_Blocks] [(0, x0)] H Q := ⟨fun g => wp_ok (by have h := h g; rw [vq_policy_Blocks] at h; exact h)⟩

/- blindstampref06_Blocks -/
noncomputable def bd_blindstampref06_Blocks : Code := (Try.f23.body).getD .skip
def lv_blindstampref06_Blocks : Nat → Option (List Nat) := fun i => none
def cu_blindstampref06_Blocks : Nat → Bool := fun i => false
def VC_blindstampref06_Blocks (g : Nat → AV) (x0 : AV) (H : Heap) (Q : AV → Heap → Prop) : Prop :=
  doW (nRes H (⟨0, 1, Heap.gen H 0 1, 0⟩ : Ref) (qBox env.P (⟨0, 1, Heap.gen H 0 1, 0⟩ : Ref) 33 (some x0))) fun v1 H1 =>
  doQ (qLoad env.P (Heap.get H1) 33 (some v1)) fun v2 =>
  doW (callRes env true (limf env) (limt env 0) H1 (⟨0, 5, Heap.gen H1 0 5, 0⟩ : Ref) (some (.fn (.func 53) [] [])) [v2]) fun v3 H2 =>
  doQ (qUn env.P .not (some v3)) fun v4 =>
  br (some v4) (
   Q (.tup [(.v (.int .i64 0)), (.v (.int .i64 8))]) H2) (
   doQ (qLoad env.P (Heap.get H2) 33 (some v1)) fun v5 =>
   doW (callRes env true (limf env) (limt env 0) H2 (⟨0, 8, Heap.gen H2 0 8, 0⟩ : Ref) (some (.fn (.func 54) [] [])) [v5]) fun v6 H3 =>
   Q (.tup [v6, (.v (.int .i64 0))]) H3)
theorem vq_blindstampref06_Blocks : VC_blindstampref06_Blocks = fun g x0 H Q => wp env Try.f23 none 0 lv_blindstampref06_Blocks cu_blindstampref06_Blocks Q 500 [.code bd_blindstampref06_Blocks] (ofL g [(0, x0)]) H := by kernel_rfl
theorem vc_blindstampref06_Blocks (x0 : AV) (H : Heap) (Q : AV → Heap → Prop) (h : ∀ g, VC_blindstampref06_Blocks g x0 H Q) : GoL env Try.f23 0 [.code bd_blindstampref06_Blocks] [(0, x0)] H Q := ⟨fun g => wp_ok (by have h := h g; rw [vq_blindstampref06_Blocks] at h; exact h)⟩

/- blindstampref06_May -/
noncomputable def bd_blindstampref06_May : Code := (Try.f24.body).getD .skip
def lv_blindstampref06_May : Nat → Option (List Nat) := fun i => none
def cu_blindstampref06_May : Nat → Bool := fun i => false
def VC_blindstampref06_May (g : Nat → AV) (x0 x1 x2 : AV) (H : Heap) (Q : AV → Heap → Prop) : Prop :=
  doW (nRes H (⟨0, 3, Heap.gen H 0 3, 0⟩ : Ref) (qBox env.P (⟨0, 3, Heap.gen H 0 3, 0⟩ : Ref) 33 (some x0))) fun v1 H1 =>
  doW (nRes H1 (⟨0, 5, Heap.gen H1 0 5, 0⟩ : Ref) (qBox env.P (⟨0, 5, Heap.gen H1 0 5, 0⟩ : Ref) 24 (some x2))) fun v2 H2 =>
  doQ (qLoad env.P (Heap.get H2) 33 (some v1)) fun v3 =>
  doW (callRes env true (limf env) (limt env 0) H2 (⟨0, 9, Heap.gen H2 0 9, 0⟩ : Ref) (some (.fn (.func 53) [] [])) [v3]) fun v4 H3 =>
  doQ (qUn env.P .not (some v4)) fun v5 =>
  gQ v5 false (qLoad env.P (Heap.get H3) 24 (some v2)) fun v6 =>
  gW v5 false H3 (callRes env true (limf env) (limt env 0) H3 (⟨0, 13, Heap.gen H3 0 13, 0⟩ : Ref) (some (.fn (.func 55) [] [])) [v6]) fun v7 H4 =>
  gQ v5 false (qUn env.P .not (some v7)) fun v8 =>
  doQ (pickF (some v5) (some (.v (.bool true))) (some v8)) fun v9 =>
  br (some v9) (
   Q (.tup [(.v (.bool false)), (.v (.int .i64 8))]) H4) (
   doQ (qLoad env.P (Heap.get H4) 33 (some v1)) fun v10 =>
   doQ (qLoad env.P (Heap.get H4) 24 (some v2)) fun v11 =>
   doW (callRes env true (limf env) (limt env 0) H4 (⟨0, 19, Heap.gen H4 0 19, 0⟩ : Ref) (some (.fn (.func 56) [] [])) [v10, x1, v11]) fun v12 H5 =>
   Q (.tup [v12, (.v (.int .i64 0))]) H5)
theorem vq_blindstampref06_May : VC_blindstampref06_May = fun g x0 x1 x2 H Q => wp env Try.f24 none 0 lv_blindstampref06_May cu_blindstampref06_May Q 500 [.code bd_blindstampref06_May] (ofL g [(0, x0), (1, x1), (2, x2)]) H := by kernel_rfl
theorem vc_blindstampref06_May (x0 x1 x2 : AV) (H : Heap) (Q : AV → Heap → Prop) (h : ∀ g, VC_blindstampref06_May g x0 x1 x2 H Q) : GoL env Try.f24 0 [.code bd_blindstampref06_May] [(0, x0), (1, x1), (2, x2)] H Q := ⟨fun g => wp_ok (by have h := h g; rw [vq_blindstampref06_May] at h; exact h)⟩

/- blindstampref06_Quota -/
noncomputable def bd_blindstampref06_Quota : Code := (Try.f25.body).getD .skip
def lv_blindstampref06_Quota : Nat → Option (List Nat) := fun i => none
def cu_blindstampref06_Quota : Nat → Bool := fun i => false
def VC_blindstampref06_Quota (g : Nat → AV) (x0 x1 : AV) (H : Heap) (Q : AV → Heap → Prop) : Prop :=
  doW (nRes H (⟨0, 2, Heap.gen H 0 2, 0⟩ : Ref) (qBox env.P (⟨0, 2, Heap.gen H 0 2, 0⟩ : Ref) 33 (some x0))) fun v1 H1 =>
  doW (nRes H1 (⟨0, 3, Heap.gen H1 0 3, 0⟩ : Ref) (qBox env.P (⟨0, 3, Heap.gen H1 0 3, 0⟩ : Ref) 24 (some x1))) fun v2 H2 =>
  doW (nRes H2 (⟨0, 4, Heap.gen H2 0 4, 0⟩ : Ref) (qAlloc env.P (⟨0, 4, Heap.gen H2 0 4, 0⟩ : Ref) 26)) fun v3 H3 =>
  doQ (qLoad env.P (Heap.get H3) 33 (some v1)) fun v4 =>
  doW (callRes env true (limf env) (limt env 0) H3 (⟨0, 7, Heap.gen H3 0 7, 0⟩ : Ref) (some (.fn (.func 53) [] [])) [v4]) fun v5 H4 =>
  doQ (qUn env.P .not (some v5)) fun v6 =>
  gQ v6 false (qLoad env.P (Heap.get H4) 24 (some v2)) fun v7 =>
  gW v6 false H4 (callRes env true (limf env) (limt env 0) H4 (⟨0, 11, Heap.gen H4 0 11, 0⟩ : Ref) (some (.fn (.func 55) [] [])) [v7]) fun v8 H5 =>
  gQ v6 false (qUn env.P .not (some v8)) fun v9 =>
  doQ (pickF (some v6) (some (.v (.bool true))) (some v9)) fun v10 =>
  br (some v10) (
   doQ (qBuild env.P 26 (some [])) fun v11 =>
   doW (wStore env.P H5 26 (some v3) (some v11)) fun v12 H6 =>
   doQ (readCell env.P H6 v3 26) fun v13 =>
   Q (.tup [v13, (.v (.int .i64 8))]) H6) (
   doQ (qLoad env.P (Heap.get H5) 33 (some v1)) fun v11 =>
   doQ (qLoad env.P (Heap.get H5) 24 (some v2)) fun v12 =>
   doW (callRes env true (limf env) (limt env 0) H5 (⟨0, 17, Heap.gen H5 0 17, 0⟩ : Ref) (some (.fn (.func 57) [] [])) [v11, v12]) fun v13 H6 =>
   doW (wStore env.P H6 26 (some v3) (some v13)) fun v14 H7 =>
   doQ (readCell env.P H7 v3 26) fun v15 =>
   Q (.tup [v15, (.v (.int .i64 0))]) H7)
theorem vq_blindstampref06_Quota : VC_blindstampref06_Quota = fun g x0 x1 H Q => wp env Try.f25 none 0 lv_blindstampref06_Quota cu_blindstampref06_Quota Q 500 [.code bd_blindstampref06_Quota] (ofL g [(0, x0), (1, x1)]) H := by kernel_rfl
theorem vc_blindstampref06_Quota (x0 x1 : AV) (H : Heap) (Q : AV → Heap → Prop) (h : ∀ g, VC_blindstampref06_Quota g x0 x1 H Q) : GoL env Try.f25 0 [.code bd_blindstampref06_Quota] [(0, x0), (1, x1)] H Q := ⟨fun g => wp_ok (by have h := h g; rw [vq_blindstampref06_Quota] at h; exact h)⟩

/- policy_Twin -/
noncomputable def bd_policy_Twin : Code := (Try.f26.body).getD .skip
def lv_policy_Twin : Nat → Option (List Nat) := fun i => none
def cu_policy_Twin : Nat → Bool := fun i => false
def VC_policy_Twin (g : Nat → AV) (x0 : AV) (H : Heap) (Q : AV → Heap → Prop) : Prop :=
  doW (nRes H (⟨0, 1, Heap.gen H 0 1, 0⟩ : Ref) (qBox env.P (⟨0, 1, Heap.gen H 0 1, 0⟩ : Ref) 33 (some x0))) fun v1 H1 =>
  doW (nRes H1 (⟨0, 2, Heap.gen H1 0 2, 0⟩ : Ref) (qAlloc env.P (⟨0, 2, Heap.gen H1 0 2, 0⟩ : Ref) 33)) fun v2 H2 =>
  doQ (qFieldAddr env.P 33 (some v1) 0) fun v3 =>
  doQ (qLoad env.P (Heap.get H2) 30 (some v3)) fun v4 =>
  doW (callRes env false (limf env) (limt env 0) H2 (⟨0, 5, Heap.gen H2 0 5, 0⟩ : Ref) (some (.fn (.func 58) [] [])) [v4]) fun v5 H3 =>
  doQ (qFieldAddr env.P 33 (some v1) 1) fun v6 =>
  doQ (qLoad env.P (Heap.get H3) 31 (some v6)) fun v7 =>
  doW (callRes env false (limf env) (limt env 0) H3 (⟨0, 8, Heap.gen H3 0 8, 0⟩ : Ref) (some (.fn (.func 59) [] [])) [v7]) fun v8 H4 =>
  doQ (qFieldAddr env.P 33 (some v1) 0) fun v9 =>
  doW (wStore env.P H4 30 (some v9) (some v5)) fun v10 H5 =>
  doQ (qFieldAddr env.P 33 (some v1) 1) fun v11 =>
  doW (wStore env.P H5 31 (some v11) (some v8)) fun v12 H6 =>
  doQ (qLoad env.P (Heap.get H6) 33 (some v1)) fun v13 =>
  doW (wStore env.P H6 33 (some v2) (some v13)) fun v14 H7 =>
  doQ (readCell env.P H7 v2 33) fun v15 =>
  Q v15 H7
theorem vq_policy_Twin : VC_policy_Twin = fun g x0 H Q => wp env Try.f26 none 0 lv_policy_Twin cu_policy_Twin Q 500 [.code bd_policy_Twin] (ofL g [(0, x0)]) H := by kernel_rfl
theorem vc_policy_Twin (x0 : AV) (H : Heap) (Q : AV → Heap → Prop) (h : ∀ g, VC_policy_Twin g x0 H Q) : GoL env Try.f26 0 [.code bd_policy_Twin] [(0, x0)] H Q := ⟨fun g => wp_ok (by have h := h g; rw [vq_policy_Twin] at h; exact h)⟩

/- blindstampref06_Check -/
noncomputable def bd_blindstampref06_Check : Code := (Try.f27.body).getD .skip
def lv_blindstampref06_Check : Nat → Option (List Nat) := fun i => none
def cu_blindstampref06_Check : Nat → Bool := fun i => false
def VC_blindstampref06_Check (g : Nat → AV) (x0 : AV) (H : Heap) (Q : AV → Heap → Prop) : Prop :=
  doW (nRes H (⟨0, 1, Heap.gen H 0 1, 0⟩ : Ref) (qBox env.P (⟨0, 1, Heap.gen H 0 1, 0⟩ : Ref) 33 (some x0))) fun v1 H1 =>
  doQ (qLoad env.P (Heap.get H1) 33 (some v1)) fun v2 =>
  doW (callRes env true (limf env) (limt env 0) H1 (⟨0, 4, Heap.gen H1 0 4, 0⟩ : Ref) (some (.fn (.func 53) [] [])) [v2]) fun v3 H2 =>
  doQ (qUn env.P .not (some v3)) fun v4 =>
  br (some v4) (
   Q (.v (.int .i64 8)) H2) (
   Q (.v (.int .i64 0)) H2)
theorem vq_blindstampref06_Check : VC_blindstampref06_Check = fun g x0 H Q => wp env Try.f27 none 0 lv_blindstampref06_Check cu_blindstampref06_Check Q 500 [.code bd_blindstampref06_Check] (ofL g [(0, x0)]) H := by kernel_rfl
theorem vc_blindstampref06_Check (x0 : AV) (H : Heap) (Q : AV → Heap → Prop) (h : ∀ g, VC_blindstampref06_Check g x0 H Q) : GoL env Try.f27 0 [.code bd_blindstampref06_Check] [(0, x0)] H Q := ⟨fun g => wp_ok (by have h := h g; rw [vq_blindstampref06_Check] at h; exact h)⟩

/- policy_Same -/
noncomputable def bd_policy_Same : Code := (Try.f28.body).getD .skip
def lv_policy_Same : Nat → Option (List Nat) := fun i => none
def cu_policy_Same : Nat → Bool := fun i => false
def VC_policy_Same (g : Nat → AV) (x0 x1 : AV) (H : Heap) (Q : AV → Heap → Prop) : Prop :=
  doW (nRes H (⟨0, 2, Heap.gen H 0 2, 0⟩ : Ref) (qBox env.P (⟨0, 2, Heap.gen H 0 2, 0⟩ : Ref) 33 (some x0))) fun v1 H1 =>
  doW (nRes H1 (⟨0, 3, Heap.gen H1 0 3, 0⟩ : Ref) (qBox env.P (⟨0, 3, Heap.gen H1 0 3, 0⟩ : Ref) 33 (some x1))) fun v2 H2 =>
  doQ (qFieldAddr env.P 33 (some v1) 0) fun v3 =>
  doQ (qLoad env.P (Heap.get H2) 30 (some v3)) fun v4 =>
  doQ (qFieldAddr env.P 33 (some v2) 0) fun v5 =>
  doQ (qLoad env.P (Heap.get H2) 30 (some v5)) fun v6 =>
  doW (callRes env true (limf env) (limt env 0) H2 (⟨0, 9, Heap.gen H2 0 9, 0⟩ : Ref) (some (.fn (.func 60) [] [])) [v4, v6]) fun v7 H3 =>
  gQ v7 true (qFieldAddr env.P 33 (some v1) 1) fun v8 =>
  gQ v7 true (qLoad env.P (Heap.get H3) 31 (some v8)) fun v9 =>
  gQ v7 true (qFieldAddr env.P 33 (some v2) 1) fun v10 =>
  gQ v7 true (qLoad env.P (Heap.get H3) 31 (some v10)) fun v11 =>
  gW v7 true H3 (callRes env true (limf env) (limt env 0) H3 (⟨0, 15, Heap.gen H3 0 15, 0⟩ : Ref) (some (.fn (.func 61) [] [])) [v9, v11]) fun v12 H4 =>
  doQ (pickF (some v7) (some v12) (some (.v (.bool false)))) fun v13 =>
  gQ v13 true (qFieldAddr env.P 33 (some v1) 2) fun v14 =>
  gQ v13 true (qLoad env.P (Heap.get H4) 3 (some v14)) fun v15 =>
  gQ v13 true (qFieldAddr env.P 33 (some v2) 2) fun v16 =>
  gQ v13 true (qLoad env.P (Heap.get H4) 3 (some v16)) fun v17 =>
  gQ v13 true (qBin env.P .eql 3 (.tmp 19) (.tmp 21) (some v15) (some v17)) fun v18 =>
  doQ (pickF (some v13) (some v18) (some (.v (.bool false)))) fun v19 =>
  Q v19 H4
theorem vq_policy_Same : VC_policy_Same = fun g x0 x1 H Q => wp env Try.f28 none 0 lv_policy_Same cu_policy_Same Q 500 [.code bd_policy_Same] (ofL g [(0, x0), (1, x1)]) H := by kernel_rfl
theorem vc_policy_Same (x0 x1 : AV) (H : Heap) (Q : AV → Heap → Prop) (h : ∀ g, VC_policy_Same g x0 x1 H Q) : GoL env Try.f28 0 [.code bd_policy_Same] [(0, x0), (1, x1)] H Q := ⟨fun g => wp_ok (by have h := h g; rw [vq_policy_Same] at h; exact h)⟩

/- blindstampref06_Same -/
noncomputable def bd_blindstampref06_Same : Code := (Try.f29.body).getD .skip
noncomputable def hd_blindstampref06_Same_4 : List Item := (findLoop 4 400 [.code bd_blindstampref06_Same]).getD []
noncomputable def hd_blindstampref06_Same_9 : List Item := (findLoop 9 400 [.code bd_blindstampref06_Same]).getD []
def lv_blindstampref06_Same : Nat → Option (List Nat) := fun i => cond (Nat.beq i 4) (some [5, 3, 2]) (cond (Nat.beq i 9) (some [6, 3, 2]) (none))
def cu_blindstampref06_Same : Nat → Bool := fun i => false
def VC_blindstampref06_Same (g : Nat → AV) (x0 x1 : AV) (H : Heap) (Q : AV → Heap → Prop) : Prop :=
  doW (nRes H (⟨0, 2, Heap.gen H 0 2, 0⟩ : Ref) (qBox env.P (⟨0, 2, Heap.gen H 0 2, 0⟩ : Ref) 33 (some x0))) fun v1 H1 =>
  doW (nRes H1 (⟨0, 3, Heap.gen H1 0 3, 0⟩ : Ref) (qBox env.P (⟨0, 3, Heap.gen H1 0 3, 0⟩ : Ref) 33 (some x1))) fun v2 H2 =>
  doQ (qFieldAddr env.P 33 (some v1) 0) fun v3 =>
  doQ (qLoad env.P (Heap.get H2) 30 (some v3)) fun v4 =>
  doQ (qBuiltin env.P false (Heap.get H2) (⟨0, 9, Heap.gen H2 0 9, 0⟩ : Ref) .len #[30] [v4]) fun v5 =>
  doQ (qFieldAddr env.P 33 (some v2) 0) fun v6 =>
  doQ (qLoad env.P (Heap.get H2) 30 (some v6)) fun v7 =>
  doQ (qBuiltin env.P false (Heap.get H2) (⟨0, 12, Heap.gen H2 0 12, 0⟩ : Ref) .len #[30] [v7]) fun v8 =>
  doQ (qBin env.P .neq 3 (.tmp 9) (.tmp 12) (some v5) (some v8)) fun v9 =>
  gQ v9 false (qFieldAddr env.P 33 (some v1) 1) fun v10 =>
  gQ v9 false (qLoad env.P (Heap.get H2) 31 (some v10)) fun v11 =>
  gQ v9 false (qBuiltin env.P false (Heap.get H2) (⟨0, 17, Heap.gen H2 0 17, 0⟩ : Ref) .len #[31] [v11]) fun v12 =>
  gQ v9 false (qFieldAddr env.P 33 (some v2) 1) fun v13 =>
  gQ v9 false (qLoad env.P (Heap.get H2) 31 (some v13)) fun v14 =>
  gQ v9 false (qBuiltin env.P false (Heap.get H2) (⟨0, 20, Heap.gen H2 0 20, 0⟩ : Ref) .len #[31] [v14]) fun v15 =>
  gQ v9 false (qBin env.P .neq 3 (.tmp 17) (.tmp 20) (some v12) (some v15)) fun v16 =>
  doQ (pickF (some v9) (some (.v (.bool true))) (some v16)) fun v17 =>
  gQ v17 false (qFieldAddr env.P 33 (some v1) 2) fun v18 =>
  gQ v17 false (qLoad env.P (Heap.get H2) 3 (some v18)) fun v19 =>
  gQ v17 false (qFieldAddr env.P 33 (some v2) 2) fun v20 =>
  gQ v17 false (qLoad env.P (Heap.get H2) 3 (some v20)) fun v21 =>
  gQ v17 false (qBin env.P .neq 3 (.tmp 25) (.tmp 27) (some v19) (some v21)) fun v22 =>
  doQ (pickF (some v17) (some (.v (.bool true))) (some v22)) fun v23 =>
  br (some v23) (
   Q (.v (.bool false)) H2) (
   GoL env Try.f29 0 hd_blindstampref06_Same_4 [(5, (.v (.int .i64 0))), (3, v2), (2, v1)] H2 Q)
theorem vq_blindstampref06_Same : VC_blindstampref06_Same = fun g x0 x1 H Q => wp env Try.f29 none 0 lv_blindstampref06_Same cu_blindstampref06_Same Q 500 [.code bd_blindstampref06_Same] (ofL g [(0, x0), (1, x1)]) H := by kernel_rfl
theorem vc_blindstampref06_Same (x0 x1 : AV) (H : Heap) (Q : AV → Heap → Prop) (h : ∀ g, VC_blindstampref06_Same g x0 x1 H Q) : GoL env Try.f29 0 [.code bd_blindstampref06_Same] [(0, x0), (1, x1)] H Q := ⟨fun g => wp_ok (by have h := h g; rw [vq_blindstampref06_Same] at h; exact h)⟩
def VC_blindstampref06_Same_4 (g : Nat → AV) (x5 x3 x2 : AV) (H : Heap) (Q : AV → Heap → Prop) : Prop :=
  doQ (qFieldAddr env.P 33 (some x2) 0) fun v1 =>
  doQ (qLoad env.P (Heap.get H) 30 (some v1)) fun v2 =>
  doQ (qBuiltin env.P false (Heap.get H) (⟨0, 33, Heap.gen H 0 33, 0⟩ : Ref) .len #[30] [v2]) fun v3 =>
  doQ (qBin env.P .lss 3 (.tmp 30) (.tmp 33) (some x5) (some v3)) fun v4 =>
  br (some v4) (
   doQ (qFieldAddr env.P 33 (some x2) 0) fun v5 =>
   doQ (qLoad env.P (Heap.get H) 30 (some v5)) fun v6 =>
   doQ (qIndexAddr env.P (Heap.get H) 30 (some v6) (some x5)) fun v7 =>
   doQ (qLoad env.P (Heap.get H) 39 (some v7)) fun v8 =>
   doQ (qFieldAddr env.P 33 (some x3) 0) fun v9 =>
   doQ (qLoad env.P (Heap.get H) 30 (some v9)) fun v10 =>
   doQ (qIndexAddr env.P (Heap.get H) 30 (some v10) (some x5)) fun v11 =>
   doQ (qLoad env.P (Heap.get H) 39 (some v11)) fun v12 =>
   doQ (qBin env.P .neq 39 (.tmp 41) (.tmp 46) (some v8) (some v12)) fun v13 =>
   br (some v13) (
    Q (.v (.bool false)) H) (
    doQ (qBin env.P .add 3 (.tmp 35) (.const (.int .i64 1)) (some x5) (some (.v (.int .i64 1)))) fun v14 =>
    GoL env Try.f29 0 hd_blindstampref06_Same_4 [(5, v14), (3, x3), (2, x2)] H Q)) (
   GoL env Try.f29 0 hd_blindstampref06_Same_9 [(6, (.v (.int .i64 0))), (3, x3), (2, x2)] H Q)
theorem vq_blindstampref06_Same_4 : VC_blindstampref06_Same_4 = fun g x5 x3 x2 H Q => wp env Try.f29 none 0 lv_blindstampref06_Same cu_blindstampref06_Same Q 500 (bodyOf hd_blindstampref06_Same_4) (ofL g [(5, x5), (3, x3), (2, x2)]) H := by kernel_rfl
theorem vc_blindstampref06_Same_4 (x5 x3 x2 : AV) (H : Heap) (Q : AV → Heap → Prop) (h : ∀ g, VC_blindstampref06_Same_4 g x5 x3 x2 H Q) : GoL env Try.f29 0 hd_blindstampref06_Same_4 [(5, x5), (3, x3), (2, x2)] H Q := goL_body fun g => wp_ok (by have h := h g; rw [vq_blindstampref06_Same_4] at h; exact h)
def VC_blindstampref06_Same_9 (g : Nat → AV) (x6 x3 x2 : AV) (H : Heap) (Q : AV → Heap → Prop) : Prop :=
  doQ (qFieldAddr env.P 33 (some x2) 1) fun v1 =>
  doQ (qLoad env.P (Heap.get H) 31 (some v1)) fun v2 =>
  doQ (qBuiltin env.P false (Heap.get H) (⟨0, 51, Heap.gen H 0 51, 0⟩ : Ref) .len #[31] [v2]) fun v3 =>
  doQ (qBin env.P .lss 3 (.tmp 48) (.tmp 51) (some x6) (some v3)) fun v4 =>
  br (some v4) (
   doQ (qFieldAddr env.P 33 (some x2) 1) fun v5 =>
   doQ (qLoad env.P (Heap.get H) 31 (some v5)) fun v6 =>
   doQ (qIndexAddr env.P (Heap.get H) 31 (some v6) (some x6)) fun v7 =>
   doQ (qLoad env.P (Heap.get H) 26 (some v7)) fun v8 =>
   doQ (qFieldAddr env.P 33 (some x3) 1) fun v9 =>
   doQ (qLoad env.P (Heap.get H) 31 (some v9)) fun v10 =>
   doQ (qIndexAddr env.P (Heap.get H) 31 (some v10) (some x6)) fun v11 =>
   doQ (qLoad env.P (Heap.get H) 26 (some v11)) fun v12 =>
   doQ (qBin env.P .neq 26 (.tmp 59) (.tmp 64) (some v8) (some v12)) fun v13 =>
   br (some v13) (
    Q (.v (.bool false)) H) (
    doQ (qBin env.P .add 3 (.tmp 53) (.const (.int .i64 1)) (some x6) (some (.v (.int .i64 1)))) fun v14 =>
    GoL env Try.f29 0 hd_blindstampref06_Same_9 [(6, v14), (3, x3), (2, x2)] H Q)) (
   Q (.v (.bool true)) H)
theorem vq_blindstampref06_Same_9 : VC_blindstampref06_Same_9 = fun g x6 x3 x2 H Q => wp env Try.f29 none 0 lv_blindstampref06_Same cu_blindstampref06_Same Q 500 (bodyOf hd_blindstampref06_Same_9) (ofL g [(6, x6), (3, x3), (2, x2)]) H := by kernel_rfl
theorem vc_blindstampref06_Same_9 (x6 x3 x2 : AV) (H : Heap) (Q : AV → Heap → Prop) (h : ∀ g, VC_blindstampref06_Same_9 g x6 x3 x2 H Q) : GoL env Try.f29 0 hd_blindstampref06_Same_9 [(6, x6), (3, x3), (2, x2)] H Q := goL_body fun g => wp_ok (by have h := h g; rw [vq_blindstampref06_Same_9] at h; exact h)

/- grant_Put -/
noncomputable def bd_grant_Put : Code := (Try.f30.body).getD .skip
def lv_grant_Put : Nat → Option (List Nat) := fun i => none
def cu_grant_Put : Nat → Bool := fun i => false
def VC_grant_Put (g : Nat → AV) (x0 : AV) (H : Heap) (Q : AV → Heap → Prop) : Prop :=
  doW (nRes H (⟨0, 1, Heap.gen H 0 1, 0⟩ : Ref) (qBox env.P (⟨0, 1, Heap.gen H 0 1, 0⟩ : Ref) 59 (some x0))) fun v1 H1 =>
  doQ (qLoad env.P (Heap.get H1) 59 (some v1)) fun v2 =>
  doW (callRes env true (limf env) (limt env 0) H1 (⟨0, 9, Heap.gen H1 0 9, 0⟩ : Ref) (some (.fn (.func 38) [] [])) [v2]) fun v3 H2 =>
  doQ (qBin env.P .neq 27 (.tmp 10) (.const (.int .i64 0)) (some v3) (some (.v (.int .i64 0)))) fun v4 =>
  br (some v4) (
   Q (.tup [(.v (.slice none 0 0)), v3]) H2) (
   doQ (qFieldAddr env.P 59 (some v1) 1) fun v5 =>
   doQ (qFieldAddr env.P 39 (some v5) 1) fun v6 =>
   doQ (qLoad env.P (Heap.get H2) 4 (some v6)) fun v7 =>
   br (some v7) (
    doQ (qFieldAddr env.P 59 (some v1) 1) fun v8 =>
    doQ (qFieldAddr env.P 39 (some v8) 0) fun v9 =>
    doQ (qLoad env.P (Heap.get H2) 24 (some v9)) fun v10 =>
    doQ (qBuild env.P 104 (some [(0, v10)])) fun v11 =>
    doW (callRes env true (limf env) (limt env 0) H2 (⟨0, 21, Heap.gen H2 0 21, 0⟩ : Ref) (some (.fn (.func 62) [] [])) [v11]) fun v12 H3 =>
    doQ (qExtract (some v12) 0) fun v13 =>
    doQ (qExtract (some v12) 1) fun v14 =>
    doQ (qFieldAddr env.P 59 (some v1) 0) fun v15 =>
    doQ (qLoad env.P (Heap.get H3) 3 (some v15)) fun v16 =>
    doQ (qConvert env.P (Heap.get H3) (⟨0, 26, Heap.gen H3 0 26, 0⟩ : Ref) 3 5 (some v16)) fun v17 =>
    doW (bsRes env.P true false H3 (⟨0, 28, Heap.gen H3 0 28, 0⟩ : Ref) 60 2 (some [(0, v17), (1, (a8 1))])) fun v18 H4 =>
    doQ (qBuiltin env.P false (Heap.get H4) (⟨0, 31, Heap.gen H4 0 31, 0⟩ : Ref) .len #[60] [v13]) fun v19 =>
    doQ (qBin env.P .sub 3 (.tmp 31) (.const (.int .i64 1)) (some v19) (some (.v (.int .i64 1)))) fun v20 =>
    doQ (qSlice env.P (Heap.get H4) 60 (some v13) (some none) (oi v20) (some none)) fun v21 =>
    doW (appRes env.P true H4 (⟨0, 34, Heap.gen H4 0 34, 0⟩ : Ref) (some 60) (some 60) v18 v21) fun v22 H5 =>
    Q (.tup [v22, v14]) H5) (
    doQ (qFieldAddr env.P 59 (some v1) 1) fun v8 =>
    doQ (qFieldAddr env.P 39 (some v8) 0) fun v9 =>
    doQ (qLoad env.P (Heap.get H2) 24 (some v9)) fun v10 =>
    doQ (qBuild env.P 104 (some [(0, v10)])) fun v11 =>
    doW (callRes env true (limf env) (limt env 0) H2 (⟨0, 21, Heap.gen H2 0 21, 0⟩ : Ref) (some (.fn (.func 62) [] [])) [v11]) fun v12 H3 =>
    doQ (qExtract (some v12) 0) fun v13 =>
    doQ (qExtract (some v12) 1) fun v14 =>
    doQ (qFieldAddr env.P 59 (some v1) 0) fun v15 =>
    doQ (qLoad env.P (Heap.get H3) 3 (some v15)) fun v16 =>
    doQ (qConvert env.P (Heap.get H3) (⟨0, 26, Heap.gen H3 0 26, 0⟩ : Ref) 3 5 (some v16)) fun v17 =>
    doW (bsRes env.P true false H3 (⟨0, 28, Heap.gen H3 0 28, 0⟩ : Ref) 60 2 (some [(0, v17), (1, (a8 0))])) fun v18 H4 =>
    doQ (qBuiltin env.P false (Heap.get H4) (⟨0, 31, Heap.gen H4 0 31, 0⟩ : Ref) .len #[60] [v13]) fun v19 =>
    doQ (qBin env.P .sub 3 (.tmp 31) (.const (.int .i64 1)) (some v19) (some (.v (.int .i64 1)))) fun v20 =>
    doQ (qSlice env.P (Heap.get H4) 60 (some v13) (some none) (oi v20) (some none)) fun v21 =>
    doW (appRes env.P true H4 (⟨0, 34, Heap.gen H4 0 34, 0⟩ : Ref) (some 60) (some 60) v18 v21) fun v22 H5 =>
    Q (.tup [v22, v14]) H5))
theorem vq_grant_Put : VC_grant_Put = fun g x0 H Q => wp env Try.f30 none 0 lv_grant_Put cu_grant_Put Q 500 [.code bd_grant_Put] (ofL g [(0, x0)]) H := by kernel_rfl
theorem vc_grant_Put (x0 : AV) (H : Heap) (Q : AV → Heap → Prop) (h : ∀ g, VC_grant_Put g x0 H Q) : GoL env Try.f30 0 [.code bd_grant_Put] [(0, x0)] H Q := ⟨fun g => wp_ok (by have h := h g; rw [vq_grant_Put] at h; exact h)⟩

/- blindstampref07_Put -/
noncomputable def bd_blindstampref07_Put : Code := (Try.f31.body).getD .skip
def lv_blindstampref07_Put : Nat → Option (List Nat) := fun i => none
def cu_blindstampref07_Put : Nat → Bool := fun i => false
def VC_blindstampref07_Put (g : Nat → AV) (x0 : AV) (H : Heap) (Q : AV → Heap → Prop) : Prop :=
  doW (nRes H (⟨0, 1, Heap.gen H 0 1, 0⟩ : Ref) (qBox env.P (⟨0, 1, Heap.gen H 0 1, 0⟩ : Ref) 59 (some x0))) fun v1 H1 =>
  doQ (qLoad env.P (Heap.get H1) 59 (some v1)) fun v2 =>
  doW (callRes env true (limf env) (limt env 0) H1 (⟨0, 5, Heap.gen H1 0 5, 0⟩ : Ref) (some (.fn (.func 63) [] [])) [v2]) fun v3 H2 =>
  doQ (qUn env.P .not (some v3)) fun v4 =>
  br (some v4) (
   Q (.tup [(.v (.slice none 0 0)), (.v (.int .i64 8))]) H2) (
   doQ (qLoad env.P (Heap.get H2) 59 (some v1)) fun v5 =>
   doW (callRes env true (limf env) (limt env 0) H2 (⟨0, 8, Heap.gen H2 0 8, 0⟩ : Ref) (some (.fn (.func 64) [] [])) [v5]) fun v6 H3 =>
   Q (.tup [v6, (.v (.int .i64 0))]) H3)
theorem vq_blindstampref07_Put : VC_blindstampref07_Put = fun g x0 H Q => wp env Try.f31 none 0 lv_blindstampref07_Put cu_blindstampref07_Put Q 500 [.code bd_blindstampref07_Put] (ofL g [(0, x0)]) H := by kernel_rfl
theorem vc_blindstampref07_Put (x0 : AV) (H : Heap) (Q : AV → Heap → Prop) (h : ∀ g, VC_blindstampref07_Put g x0 H Q) : GoL env Try.f31 0 [.code bd_blindstampref07_Put] [(0, x0)] H Q := ⟨fun g => wp_ok (by have h := h g; rw [vq_blindstampref07_Put] at h; exact h)⟩

/- grant_Get -/
noncomputable def bd_grant_Get : Code := (Try.f32.body).getD .skip
def lv_grant_Get : Nat → Option (List Nat) := fun i => none
def cu_grant_Get : Nat → Bool := fun i => false
def VC_grant_Get (g : Nat → AV) (x0 : AV) (H : Heap) (Q : AV → Heap → Prop) : Prop :=
  doW (nRes H (⟨0, 2, Heap.gen H 0 2, 0⟩ : Ref) (qAlloc env.P (⟨0, 2, Heap.gen H 0 2, 0⟩ : Ref) 59)) fun v1 H1 =>
  doQ (qBuiltin env.P false (Heap.get H1) (⟨0, 8, Heap.gen H1 0 8, 0⟩ : Ref) .len #[60] [x0]) fun v2 =>
  doQ (qBin env.P .neq 3 (.tmp 8) (.const (.int .i64 7)) (some v2) (some (.v (.int .i64 7)))) fun v3 =>
  gQ v3 false (qVal (some x0)) fun v4 =>
  gQ v3 false (qIndexAddr env.P (Heap.get H1) 60 (some v4) (some (.v (.int .i64 1)))) fun v5 =>
  gQ v3 false (qLoad env.P (Heap.get H1) 5 (some v5)) fun v6 =>
  gQ v3 false (qBin env.P .gtr 5 (.tmp 13) (.const (.int .u8 1)) (some v6) (some (a8 1))) fun v7 =>
  doQ (pickF (some v3) (some (.v (.bool true))) (some v7)) fun v8 =>
  br (some v8) (
   doQ (qBuild env.P 59 (some [])) fun v9 =>
   doW (wStore env.P H1 59 (some v1) (some v9)) fun v10 H2 =>
   doQ (readCell env.P H2 v1 59) fun v11 =>
   Q (.tup [v11, (.v (.int .i64 8))]) H2) (
   doQ (qSlice env.P (Heap.get H1) 60 (some x0) (oi (.v (.int .i64 2))) (oi (.v (.int .i64 7))) (oi (.v (.int .i64 7)))) fun v9 =>
   doW (bsRes env.P false true H1 (⟨0, 20, Heap.gen H1 0 20, 0⟩ : Ref) 60 1 (some [(0, (a8 0))])) fun v10 H2 =>
   doW (appRes env.P true H2 (⟨0, 21, Heap.gen H2 0 21, 0⟩ : Ref) (some 60) (some 60) v9 v10) fun v11 H3 =>
   doW (callRes env true (limf env) (limt env 0) H3 (⟨0, 22, Heap.gen H3 0 22, 0⟩ : Ref) (some (.fn (.func 65) [] [])) [v11]) fun v12 H4 =>
   doQ (qExtract (some v12) 0) fun v13 =>
   doQ (qExtract (some v12) 1) fun v14 =>
   doW (nRes H4 (⟨0, 4, Heap.gen H4 0 4, 0⟩ : Ref) (qAlloc env.P (⟨0, 4, Heap.gen H4 0 4, 0⟩ : Ref) 104)) fun v15 H5 =>
   doW (wStore env.P H5 104 (some v15) (some v13)) fun v16 H6 =>
   doQ (qIndexAddr env.P (Heap.get H6) 60 (some x0) (some (.v (.int .i64 0)))) fun v17 =>
   doQ (qLoad env.P (Heap.get H6) 5 (some v17)) fun v18 =>
   doQ (qConvert env.P (Heap.get H6) (⟨0, 28, Heap.gen H6 0 28, 0⟩ : Ref) 5 3 (some v18)) fun v19 =>
   doQ (qFieldAddr env.P 104 (some v15) 0) fun v20 =>
   doQ (qLoad env.P (Heap.get H6) 24 (some v20)) fun v21 =>
   doQ (qIndexAddr env.P (Heap.get H6) 60 (some x0) (some (.v (.int .i64 1)))) fun v22 =>
   doQ (qLoad env.P (Heap.get H6) 5 (some v22)) fun v23 =>
   doQ (qBin env.P .eql 5 (.tmp 33) (.const (.int .u8 1)) (some v23) (some (a8 1))) fun v24 =>
   doQ (qBuild env.P 39 (some [(0, v21), (1, v24)])) fun v25 =>
   doQ (qBuild env.P 59 (some [(0, v19), (1, v25)])) fun v26 =>
   doW (nRes H6 (⟨0, 6, Heap.gen H6 0 6, 0⟩ : Ref) (qAlloc env.P (⟨0, 6, Heap.gen H6 0 6, 0⟩ : Ref) 59)) fun v27 H7 =>
   doW (wStore env.P H7 59 (some v27) (some v26)) fun v28 H8 =>
   doQ (qBin env.P .neq 27 (.tmp 37) (.const (.int .i64 0)) (some v14) (some (.v (.int .i64 0)))) fun v29 =>
   gQ v29 false (qLoad env.P (Heap.get H8) 59 (some v27)) fun v30 =>
   gW v29 false H8 (callRes env true (limf env) (limt env 0) H8 (⟨0, 41, Heap.gen H8 0 41, 0⟩ : Ref) (some (.fn (.func 38) [] [])) [v30]) fun v31 H9 =>
   gQ v29 false (qBin env.P .neq 27 (.tmp 41) (.const (.int .i64 0)) (some v31) (some (.v (.int .i64 0)))) fun v32 =>
   doQ (pickF (some v29) (some (.v (.bool true))) (some v32)) fun v33 =>
   br (some v33) (
    doQ (qBuild env.P 59 (some [])) fun v34 =>
    doW (wStore env.P H9 59 (some v1) (some v34)) fun v35 H10 =>
    doQ (readCell env.P H10 v1 59) fun v36 =>
    Q (.tup [v36, (.v (.int .i64 8))]) H10) (
    doQ (qLoad env.P (Heap.get H9) 59 (some v27)) fun v34 =>
    doW (wStore env.P H9 59 (some v1) (some v34)) fun v35 H10 =>
    doQ (readCell env.P H10 v1 59) fun v36 =>
    Q (.tup [v36, (.v (.int .i64 0))]) H10))
theorem vq_grant_Get : VC_grant_Get = fun g x0 H Q => wp env Try.f32 none 0 lv_grant_Get cu_grant_Get Q 500 [.code bd_grant_Get] (ofL g [(0, x0)]) H := by kernel_rfl
theorem vc_grant_Get (x0 : AV) (H : Heap) (Q : AV → Heap → Prop) (h : ∀ g, VC_grant_Get g x0 H Q) : GoL env Try.f32 0 [.code bd_grant_Get] [(0, x0)] H Q := ⟨fun g => wp_ok (by have h := h g; rw [vq_grant_Get] at h; exact h)⟩

/- blindstampref07_Get -/
noncomputable def bd_blindstampref07_Get : Code := (Try.f33.body).getD .skip
noncomputable def hd_blindstampref07_Get_5 : List Item := (findLoop 5 400 [.code bd_blindstampref07_Get]).getD []
def lv_blindstampref07_Get : Nat → Option (List Nat) := fun i => cond (Nat.beq i 5) (some [5, 0, 4, 2]) (none)
def cu_blindstampref07_Get : Nat → Bool := fun i => false
def VC_blindstampref07_Get (g : Nat → AV) (x0 : AV) (H : Heap) (Q : AV → Heap → Prop) : Prop :=
  doW (nRes H (⟨0, 2, Heap.gen H 0 2, 0⟩ : Ref) (qAlloc env.P (⟨0, 2, Heap.gen H 0 2, 0⟩ : Ref) 59)) fun v1 H1 =>
  doQ (qBuiltin env.P false (Heap.get H1) (⟨0, 8, Heap.gen H1 0 8, 0⟩ : Ref) .len #[60] [x0]) fun v2 =>
  doQ (qBin env.P .neq 3 (.tmp 8) (.const (.int .i64 7)) (some v2) (some (.v (.int .i64 7)))) fun v3 =>
  gQ v3 false (qVal (some x0)) fun v4 =>
  gQ v3 false (qIndexAddr env.P (Heap.get H1) 60 (some v4) (some (.v (.int .i64 1)))) fun v5 =>
  gQ v3 false (qLoad env.P (Heap.get H1) 5 (some v5)) fun v6 =>
  gQ v3 false (qBin env.P .gtr 5 (.tmp 13) (.const (.int .u8 1)) (some v6) (some (a8 1))) fun v7 =>
  doQ (pickF (some v3) (some (.v (.bool true))) (some v7)) fun v8 =>
  br (some v8) (
   doQ (qBuild env.P 59 (some [])) fun v9 =>
   doW (wStore env.P H1 59 (some v1) (some v9)) fun v10 H2 =>
   doQ (readCell env.P H2 v1 59) fun v11 =>
   Q (.tup [v11, (.v (.int .i64 8))]) H2) (
   GoL env Try.f33 0 hd_blindstampref07_Get_5 [(5, (.v (.int .i64 3))), (0, x0), (4, (.v (.int .i64 0))), (2, v1)] H1 Q)
theorem vq_blindstampref07_Get : VC_blindstampref07_Get = fun g x0 H Q => wp env Try.f33 none 0 lv_blindstampref07_Get cu_blindstampref07_Get Q 500 [.code bd_blindstampref07_Get] (ofL g [(0, x0)]) H := by kernel_rfl
theorem vc_blindstampref07_Get (x0 : AV) (H : Heap) (Q : AV → Heap → Prop) (h : ∀ g, VC_blindstampref07_Get g x0 H Q) : GoL env Try.f33 0 [.code bd_blindstampref07_Get] [(0, x0)] H Q := ⟨fun g => wp_ok (by have h := h g; rw [vq_blindstampref07_Get] at h; exact h)⟩
def VC_blindstampref07_Get_5 (g : Nat → AV) (x5 x0 x4 x2 : AV) (H : Heap) (Q : AV → Heap → Prop) : Prop :=
  doQ (qBin env.P .lss 3 (.tmp 17) (.const (.int .i64 7)) (some x5) (some (.v (.int .i64 7)))) fun v1 =>
  br (some v1) (
   doQ (qBin env.P .mul 3 (.const (.int .i64 256)) (.tmp 21) (some (.v (.int .i64 256))) (some x4)) fun v2 =>
   doQ (qIndexAddr env.P (Heap.get H) 60 (some x0) (some x5)) fun v3 =>
   doQ (qLoad env.P (Heap.get H) 5 (some v3)) fun v4 =>
   doQ (qConvert env.P (Heap.get H) (⟨0, 27, Heap.gen H 0 27, 0⟩ : Ref) 5 3 (some v4)) fun v5 =>
   doQ (qBin env.P .add 3 (.tmp 22) (.tmp 27) (some v2) (some v5)) fun v6 =>
   doQ (qBin env.P .add 3 (.tmp 19) (.const (.int .i64 1)) (some x5) (some (.v (.int .i64 1)))) fun v7 =>
   GoL env Try.f33 0 hd_blindstampref07_Get_5 [(5, v7), (0, x0), (4, v6), (2, x2)] H Q) (
   doQ (qIndexAddr env.P (Heap.get H) 60 (some x0) (some (.v (.int .i64 0)))) fun v2 =>
   doQ (qLoad env.P (Heap.get H) 5 (some v2)) fun v3 =>
   doQ (qConvert env.P (Heap.get H) (⟨0, 32, Heap.gen H 0 32, 0⟩ : Ref) 5 3 (some v3)) fun v4 =>
   doQ (qIndexAddr env.P (Heap.get H) 60 (some x0) (some (.v (.int .i64 2)))) fun v5 =>
   doQ (qLoad env.P (Heap.get H) 5 (some v5)) fun v6 =>
   doQ (qConvert env.P (Heap.get H) (⟨0, 37, Heap.gen H 0 37, 0⟩ : Ref) 3 22 (some x4)) fun v7 =>
   doQ (qBuild env.P 24 (some [(0, v6), (1, v7)])) fun v8 =>
   doQ (qIndexAddr env.P (Heap.get H) 60 (some x0) (some (.v (.int .i64 1)))) fun v9 =>
   doQ (qLoad env.P (Heap.get H) 5 (some v9)) fun v10 =>
   doQ (qBin env.P .eql 5 (.tmp 41) (.const (.int .u8 1)) (some v10) (some (a8 1))) fun v11 =>
   doQ (qBuild env.P 39 (some [(0, v8), (1, v11)])) fun v12 =>
   doQ (qBuild env.P 59 (some [(0, v4), (1, v12)])) fun v13 =>
   doW (nRes H (⟨0, 6, Heap.gen H 0 6, 0⟩ : Ref) (qAlloc env.P (⟨0, 6, Heap.gen H 0 6, 0⟩ : Ref) 59)) fun v14 H1 =>
   doW (wStore env.P H1 59 (some v14) (some v13)) fun v15 H2 =>
   doQ (qLoad env.P (Heap.get H2) 59 (some v14)) fun v16 =>
   doW (callRes env true (limf env) (limt env 0) H2 (⟨0, 46, Heap.gen H2 0 46, 0⟩ : Ref) (some (.fn (.func 63) [] [])) [v16]) fun v17 H3 =>
   doQ (qUn env.P .not (some v17)) fun v18 =>
   br (some v18) (
    doQ (qBuild env.P 59 (some [])) fun v19 =>
    doW (wStore env.P H3 59 (some x2) (some v19)) fun v20 H4 =>
    doQ (readCell env.P H4 x2 59) fun v21 =>
    Q (.tup [v21, (.v (.int .i64 8))]) H4) (
    doQ (qLoad env.P (Heap.get H3) 59 (some v14)) fun v19 =>
    doW (wStore env.P H3 59 (some x2) (some v19)) fun v20 H4 =>
    doQ (readCell env.P H4 x2 59) fun v21 =>
    Q (.tup [v21, (.v (.int .i64 0))]) H4))
theorem vq_blindstampref07_Get_5 : VC_blindstampref07_Get_5 = fun g x5 x0 x4 x2 H Q => wp env Try.f33 none 0 lv_blindstampref07_Get cu_blindstampref07_Get Q 500 (bodyOf hd_blindstampref07_Get_5) (ofL g [(5, x5), (0, x0), (4, x4), (2, x2)]) H := by kernel_rfl
theorem vc_blindstampref07_Get_5 (x5 x0 x4 x2 : AV) (H : Heap) (Q : AV → Heap → Prop) (h : ∀ g, VC_blindstampref07_Get_5 g x5 x0 x4 x2 H Q) : GoL env Try.f33 0 hd_blindstampref07_Get_5 [(5, x5), (0, x0), (4, x4), (2, x2)] H Q := goL_body fun g => wp_ok (by have h := h g; rw [vq_blindstampref07_Get_5] at h; exact h)

/- grant_Apply -/
noncomputable def bd_grant_Apply : Code := (Try.f34.body).getD .skip
def lv_grant_Apply : Nat → Option (List Nat) := fun i => none
def cu_grant_Apply : Nat → Bool := fun i => false
def VC_grant_Apply (g : Nat → AV) (x0 x1 : AV) (H : Heap) (Q : AV → Heap → Prop) : Prop :=
  doW (nRes H (⟨0, 2, Heap.gen H 0 2, 0⟩ : Ref) (qBox env.P (⟨0, 2, Heap.gen H 0 2, 0⟩ : Ref) 33 (some x0))) fun v1 H1 =>
  doW (nRes H1 (⟨0, 3, Heap.gen H1 0 3, 0⟩ : Ref) (qBox env.P (⟨0, 3, Heap.gen H1 0 3, 0⟩ : Ref) 59 (some x1))) fun v2 H2 =>
  doW (nRes H2 (⟨0, 4, Heap.gen H2 0 4, 0⟩ : Ref) (qAlloc env.P (⟨0, 4, Heap.gen H2 0 4, 0⟩ : Ref) 33)) fun v3 H3 =>
  doQ (qLoad env.P (Heap.get H3) 33 (some v1)) fun v4 =>
  doW (callRes env false (limf env) (limt env 0) H3 (⟨0, 11, Heap.gen H3 0 11, 0⟩ : Ref) (some (.fn (.func 17) [] [])) [v4]) fun v5 H4 =>
  doQ (qLoad env.P (Heap.get H4) 59 (some v2)) fun v6 =>
  doW (callRes env false (limf env) (limt env 0) H4 (⟨0, 13, Heap.gen H4 0 13, 0⟩ : Ref) (some (.fn (.func 38) [] [])) [v6]) fun v7 H5 =>
  doQ (qBuiltin env.P true (Heap.get H5) (⟨0, 14, Heap.gen H5 0 14, 0⟩ : Ref) .max #[27, 27] [v5, v7]) fun v8 =>
  doQ (qBin env.P .neq 27 (.tmp 15) (.const (.int .i64 0)) (some v8) (some (.v (.int .i64 0)))) fun v9 =>
  br (some v9) (
   doQ (qBuild env.P 33 (some [])) fun v10 =>
   doW (wStore env.P H5 33 (some v3) (some v10)) fun v11 H6 =>
   doQ (readCell env.P H6 v3 33) fun v12 =>
   Q (.tup [v12, v8]) H6) (
   doQ (qLoad env.P (Heap.get H5) 33 (some v1)) fun v10 =>
   doQ (qLoad env.P (Heap.get H5) 59 (some v2)) fun v11 =>
   doW (callRes env true (limf env) (limt env 0) H5 (⟨0, 21, Heap.gen H5 0 21, 0⟩ : Ref) (some (.fn (.func 66) [] [])) [v10, v11]) fun v12 H6 =>
   doQ (qAssert env.P (some v12) 33 true) fun v13 =>
   doQ (qExtract (some v13) 0) fun v14 =>
   doQ (qExtract (some v13) 1) fun v15 =>
   doW (nRes H6 (⟨0, 8, Heap.gen H6 0 8, 0⟩ : Ref) (qAlloc env.P (⟨0, 8, Heap.gen H6 0 8, 0⟩ : Ref) 33)) fun v16 H7 =>
   doW (wStore env.P H7 33 (some v16) (some v14)) fun v17 H8 =>
   br (some v15) (
    doQ (qLoad env.P (Heap.get H8) 33 (some v16)) fun v18 =>
    doW (wStore env.P H8 33 (some v3) (some v18)) fun v19 H9 =>
    doQ (readCell env.P H9 v3 33) fun v20 =>
    Q (.tup [v20, (.v (.int .i64 0))]) H9) (
    doQ (qBuild env.P 33 (some [])) fun v18 =>
    doQ (qAssert env.P (some v12) 27 false) fun v19 =>
    doW (wStore env.P H8 33 (some v3) (some v18)) fun v20 H9 =>
    doQ (readCell env.P H9 v3 33) fun v21 =>
    Q (.tup [v21, v19]) H9))
theorem vq_grant_Apply : VC_grant_Apply = fun g x0 x1 H Q => wp env Try.f34 none 0 lv_grant_Apply cu_grant_Apply Q 500 [.code bd_grant_Apply] (ofL g [(0, x0), (1, x1)]) H := by kernel_rfl
theorem vc_grant_Apply (x0 x1 : AV) (H : Heap) (Q : AV → Heap → Prop) (h : ∀ g, VC_grant_Apply g x0 x1 H Q) : GoL env Try.f34 0 [.code bd_grant_Apply] [(0, x0), (1, x1)] H Q := ⟨fun g => wp_ok (by have h := h g; rw [vq_grant_Apply] at h; exact h)⟩

/- blindstampref07_Apply -/
noncomputable def bd_blindstampref07_Apply : Code := (Try.f35.body).getD .skip
def lv_blindstampref07_Apply : Nat → Option (List Nat) := fun i => none
def cu_blindstampref07_Apply : Nat → Bool := fun i => false
def VC_blindstampref07_Apply (g : Nat → AV) (x0 x1 : AV) (H : Heap) (Q : AV → Heap → Prop) : Prop :=
  doW (nRes H (⟨0, 2, Heap.gen H 0 2, 0⟩ : Ref) (qBox env.P (⟨0, 2, Heap.gen H 0 2, 0⟩ : Ref) 33 (some x0))) fun v1 H1 =>
  doW (nRes H1 (⟨0, 3, Heap.gen H1 0 3, 0⟩ : Ref) (qBox env.P (⟨0, 3, Heap.gen H1 0 3, 0⟩ : Ref) 59 (some x1))) fun v2 H2 =>
  doW (nRes H2 (⟨0, 4, Heap.gen H2 0 4, 0⟩ : Ref) (qAlloc env.P (⟨0, 4, Heap.gen H2 0 4, 0⟩ : Ref) 33)) fun v3 H3 =>
  doQ (qLoad env.P (Heap.get H3) 33 (some v1)) fun v4 =>
  doW (callRes env true (limf env) (limt env 0) H3 (⟨0, 9, Heap.gen H3 0 9, 0⟩ : Ref) (some (.fn (.func 53) [] [])) [v4]) fun v5 H4 =>
  doQ (qUn env.P .not (some v5)) fun v6 =>
  gQ v6 false (qLoad env.P (Heap.get H4) 59 (some v2)) fun v7 =>
  gW v6 false H4 (callRes env true (limf env) (limt env 0) H4 (⟨0, 13, Heap.gen H4 0 13, 0⟩ : Ref) (some (.fn (.func 63) [] [])) [v7]) fun v8 H5 =>
  gQ v6 false (qUn env.P .not (some v8)) fun v9 =>
  doQ (pickF (some v6) (some (.v (.bool true))) (some v9)) fun v10 =>
  br (some v10) (
   doQ (qBuild env.P 33 (some [])) fun v11 =>
   doW (wStore env.P H5 33 (some v3) (some v11)) fun v12 H6 =>
   doQ (readCell env.P H6 v3 33) fun v13 =>
   Q (.tup [v13, (.v (.int .i64 8))]) H6) (
   doQ (qLoad env.P (Heap.get H5) 33 (some v1)) fun v11 =>
   doQ (qLoad env.P (Heap.get H5) 59 (some v2)) fun v12 =>
   doW (callRes env true (limf env) (limt env 0) H5 (⟨0, 20, Heap.gen H5 0 20, 0⟩ : Ref) (some (.fn (.func 67) [] [])) [v11, v12]) fun v13 H6 =>
   doQ (qExtract (some v13) 0) fun v14 =>
   doQ (qExtract (some v13) 1) fun v15 =>
   doW (nRes H6 (⟨0, 6, Heap.gen H6 0 6, 0⟩ : Ref) (qAlloc env.P (⟨0, 6, Heap.gen H6 0 6, 0⟩ : Ref) 33)) fun v16 H7 =>
   doW (wStore env.P H7 33 (some v16) (some v14)) fun v17 H8 =>
   doQ (qBin env.P .neq 3 (.tmp 23) (.const (.int .i64 0)) (some v15) (some (.v (.int .i64 0)))) fun v18 =>
   br (some v18) (
    doQ (qBuild env.P 33 (some [])) fun v19 =>
    doW (wStore env.P H8 33 (some v3) (some v19)) fun v20 H9 =>
    doQ (readCell env.P H9 v3 33) fun v21 =>
    Q (.tup [v21, v15]) H9) (
    doQ (qLoad env.P (Heap.get H8) 33 (some v16)) fun v19 =>
    doW (wStore env.P H8 33 (some v3) (some v19)) fun v20 H9 =>
    doQ (readCell env.P H9 v3 33) fun v21 =>
    Q (.tup [v21, (.v (.int .i64 0))]) H9))
theorem vq_blindstampref07_Apply : VC_blindstampref07_Apply = fun g x0 x1 H Q => wp env Try.f35 none 0 lv_blindstampref07_Apply cu_blindstampref07_Apply Q 500 [.code bd_blindstampref07_Apply] (ofL g [(0, x0), (1, x1)]) H := by kernel_rfl
theorem vc_blindstampref07_Apply (x0 x1 : AV) (H : Heap) (Q : AV → Heap → Prop) (h : ∀ g, VC_blindstampref07_Apply g x0 x1 H Q) : GoL env Try.f35 0 [.code bd_blindstampref07_Apply] [(0, x0), (1, x1)] H Q := ⟨fun g => wp_ok (by have h := h g; rw [vq_blindstampref07_Apply] at h; exact h)⟩

/- grant_Run -/
noncomputable def bd_grant_Run : Code := (Try.f36.body).getD .skip
noncomputable def hd_grant_Run_9 : List Item := (findLoop 9 400 [.code bd_grant_Run]).getD []
def lv_grant_Run : Nat → Option (List Nat) := fun i => cond (Nat.beq i 9) (some [27, 8, 2, 25, 4, 26]) (none)
def cu_grant_Run : Nat → Bool := fun i => false
def VC_grant_Run (g : Nat → AV) (x0 x1 : AV) (H : Heap) (Q : AV → Heap → Prop) : Prop :=
  doW (nRes H (⟨0, 2, Heap.gen H 0 2, 0⟩ : Ref) (qBox env.P (⟨0, 2, Heap.gen H 0 2, 0⟩ : Ref) 33 (some x0))) fun v1 H1 =>
  doW (nRes H1 (⟨0, 4, Heap.gen H1 0 4, 0⟩ : Ref) (qAlloc env.P (⟨0, 4, Heap.gen H1 0 4, 0⟩ : Ref) 33)) fun v2 H2 =>
  doQ (qLoad env.P (Heap.get H2) 33 (some v1)) fun v3 =>
  doW (callRes env true (limf env) (limt env 0) H2 (⟨0, 14, Heap.gen H2 0 14, 0⟩ : Ref) (some (.fn (.func 17) [] [])) [v3]) fun v4 H3 =>
  doQ (qBin env.P .neq 27 (.tmp 15) (.const (.int .i64 0)) (some v4) (some (.v (.int .i64 0)))) fun v5 =>
  br (some v5) (
   doQ (qBuild env.P 33 (some [])) fun v6 =>
   doW (wStore env.P H3 33 (some v2) (some v6)) fun v7 H4 =>
   doQ (readCell env.P H4 v2 33) fun v8 =>
   Q (.tup [v8, (.v (.slice none 0 0)), v4]) H4) (
   doQ (qBuiltin env.P false (Heap.get H3) (⟨0, 20, Heap.gen H3 0 20, 0⟩ : Ref) .len #[70] [x1]) fun v6 =>
   doQ (qBin env.P .gtr 3 (.tmp 20) (.const (.int .i64 2048)) (some v6) (some (.v (.int .i64 2048)))) fun v7 =>
   br (some v7) (
    doQ (qBuild env.P 33 (some [])) fun v8 =>
    doW (wStore env.P H3 33 (some v2) (some v8)) fun v9 H4 =>
    doQ (readCell env.P H4 v2 33) fun v10 =>
    Q (.tup [v10, (.v (.slice none 0 0)), (.v (.int .i64 4))]) H4) (
    doQ (qLoad env.P (Heap.get H3) 33 (some v1)) fun v8 =>
    doW (callRes env true (limf env) (limt env 0) H3 (⟨0, 24, Heap.gen H3 0 24, 0⟩ : Ref) (some (.fn (.func 26) [] [])) [v8]) fun v9 H4 =>
    doW (wStore env.P H4 33 (some v1) (some v9)) fun v10 H5 =>
    doQ (qBuiltin env.P false (Heap.get H5) (⟨0, 26, Heap.gen H5 0 26, 0⟩ : Ref) .len #[70] [x1]) fun v11 =>
    GoL env Try.f36 0 hd_grant_Run_9 [(27, (.v (.int .i64 0))), (8, (.v (.slice none 0 0))), (2, v1), (25, x1), (4, v2), (26, v11)] H5 Q))
theorem vq_grant_Run : VC_grant_Run = fun g x0 x1 H Q => wp env Try.f36 none 0 lv_grant_Run cu_grant_Run Q 500 [.code bd_grant_Run] (ofL g [(0, x0), (1, x1)]) H := by kernel_rfl
theorem vc_grant_Run (x0 x1 : AV) (H : Heap) (Q : AV → Heap → Prop) (h : ∀ g, VC_grant_Run g x0 x1 H Q) : GoL env Try.f36 0 [.code bd_grant_Run] [(0, x0), (1, x1)] H Q := ⟨fun g => wp_ok (by have h := h g; rw [vq_grant_Run] at h; exact h)⟩
def VC_grant_Run_9 (g : Nat → AV) (x27 x8 x2 x25 x4 x26 : AV) (H : Heap) (Q : AV → Heap → Prop) : Prop :=
  doQ (qBin env.P .lss 3 (.tmp 27) (.tmp 26) (some x27) (some x26)) fun v1 =>
  br (some v1) (
   doQ (qIndexAddr env.P (Heap.get H) 70 (some x25) (some x27)) fun v2 =>
   doQ (qLoad env.P (Heap.get H) 59 (some v2)) fun v3 =>
   doW (nRes H (⟨0, 10, Heap.gen H 0 10, 0⟩ : Ref) (qAlloc env.P (⟨0, 10, Heap.gen H 0 10, 0⟩ : Ref) 59)) fun v4 H1 =>
   doW (wStore env.P H1 59 (some v4) (some v3)) fun v5 H2 =>
   doQ (qLoad env.P (Heap.get H2) 33 (some x2)) fun v6 =>
   doQ (qLoad env.P (Heap.get H2) 59 (some v4)) fun v7 =>
   doW (callRes env true (limf env) (limt env 0) H2 (⟨0, 34, Heap.gen H2 0 34, 0⟩ : Ref) (some (.fn (.func 34) [] [])) [v6, v7]) fun v8 H3 =>
   doQ (qExtract (some v8) 0) fun v9 =>
   doQ (qExtract (some v8) 1) fun v10 =>
   doW (nRes H3 (⟨0, 11, Heap.gen H3 0 11, 0⟩ : Ref) (qAlloc env.P (⟨0, 11, Heap.gen H3 0 11, 0⟩ : Ref) 33)) fun v11 H4 =>
   doW (wStore env.P H4 33 (some v11) (some v9)) fun v12 H5 =>
   doQ (qBin env.P .eql 27 (.tmp 37) (.const (.int .i64 0)) (some v10) (some (.v (.int .i64 0)))) fun v13 =>
   br (some v13) (
    doQ (qLoad env.P (Heap.get H5) 33 (some v11)) fun v14 =>
    doW (wStore env.P H5 33 (some x2) (some v14)) fun v15 H6 =>
    doW (bsRes env.P false true H6 (⟨0, 42, Heap.gen H6 0 42, 0⟩ : Ref) 75 1 (some [(0, v10)])) fun v16 H7 =>
    doW (appRes env.P true H7 (⟨0, 43, Heap.gen H7 0 43, 0⟩ : Ref) (some 75) (some 75) x8 v16) fun v17 H8 =>
    doQ (qBin env.P .add 3 (.tmp 27) (.const (.int .i64 1)) (some x27) (some (.v (.int .i64 1)))) fun v18 =>
    GoL env Try.f36 0 hd_grant_Run_9 [(27, v18), (8, v17), (2, x2), (25, x25), (4, x4), (26, x26)] H8 Q) (
    doW (bsRes env.P false true H5 (⟨0, 42, Heap.gen H5 0 42, 0⟩ : Ref) 75 1 (some [(0, v10)])) fun v14 H6 =>
    doW (appRes env.P true H6 (⟨0, 43, Heap.gen H6 0 43, 0⟩ : Ref) (some 75) (some 75) x8 v14) fun v15 H7 =>
    doQ (qBin env.P .add 3 (.tmp 27) (.const (.int .i64 1)) (some x27) (some (.v (.int .i64 1)))) fun v16 =>
    GoL env Try.f36 0 hd_grant_Run_9 [(27, v16), (8, v15), (2, x2), (25, x25), (4, x4), (26, x26)] H7 Q)) (
   doQ (qLoad env.P (Heap.get H) 33 (some x2)) fun v2 =>
   doW (wStore env.P H 33 (some x4) (some v2)) fun v3 H1 =>
   doQ (readCell env.P H1 x4 33) fun v4 =>
   Q (.tup [v4, x8, (.v (.int .i64 0))]) H1)
theorem vq_grant_Run_9 : VC_grant_Run_9 = fun g x27 x8 x2 x25 x4 x26 H Q => wp env Try.f36 none 0 lv_grant_Run cu_grant_Run Q 500 (bodyOf hd_grant_Run_9) (ofL g [(27, x27), (8, x8), (2, x2), (25, x25), (4, x4), (26, x26)]) H := by kernel_rfl
theorem vc_grant_Run_9 (x27 x8 x2 x25 x4 x26 : AV) (H : Heap) (Q : AV → Heap → Prop) (h : ∀ g, VC_grant_Run_9 g x27 x8 x2 x25 x4 x26 H Q) : GoL env Try.f36 0 hd_grant_Run_9 [(27, x27), (8, x8), (2, x2), (25, x25), (4, x4), (26, x26)] H Q := goL_body fun g => wp_ok (by have h := h g; rw [vq_grant_Run_9] at h; exact h)

/- blindstampref07_Run -/
noncomputable def bd_blindstampref07_Run : Code := (Try.f37.body).getD .skip
noncomputable def hd_blindstampref07_Run_8 : List Item := (findLoop 8 400 [.code bd_blindstampref07_Run]).getD []
def lv_blindstampref07_Run : Nat → Option (List Nat) := fun i => cond (Nat.beq i 8) (some [8, 7, 2, 1, 4]) (none)
def cu_blindstampref07_Run : Nat → Bool := fun i => false
def VC_blindstampref07_Run (g : Nat → AV) (x0 x1 : AV) (H : Heap) (Q : AV → Heap → Prop) : Prop :=
  doW (nRes H (⟨0, 2, Heap.gen H 0 2, 0⟩ : Ref) (qBox env.P (⟨0, 2, Heap.gen H 0 2, 0⟩ : Ref) 33 (some x0))) fun v1 H1 =>
  doW (nRes H1 (⟨0, 4, Heap.gen H1 0 4, 0⟩ : Ref) (qAlloc env.P (⟨0, 4, Heap.gen H1 0 4, 0⟩ : Ref) 33)) fun v2 H2 =>
  doQ (qLoad env.P (Heap.get H2) 33 (some v1)) fun v3 =>
  doW (callRes env true (limf env) (limt env 0) H2 (⟨0, 11, Heap.gen H2 0 11, 0⟩ : Ref) (some (.fn (.func 53) [] [])) [v3]) fun v4 H3 =>
  doQ (qUn env.P .not (some v4)) fun v5 =>
  br (some v5) (
   doQ (qBuild env.P 33 (some [])) fun v6 =>
   doW (wStore env.P H3 33 (some v2) (some v6)) fun v7 H4 =>
   doQ (readCell env.P H4 v2 33) fun v8 =>
   Q (.tup [v8, (.v (.slice none 0 0)), (.v (.int .i64 8))]) H4) (
   doQ (qBuiltin env.P false (Heap.get H3) (⟨0, 15, Heap.gen H3 0 15, 0⟩ : Ref) .len #[70] [x1]) fun v6 =>
   doQ (qBin env.P .gtr 3 (.tmp 15) (.const (.int .i64 2048)) (some v6) (some (.v (.int .i64 2048)))) fun v7 =>
   br (some v7) (
    doQ (qBuild env.P 33 (some [])) fun v8 =>
    doW (wStore env.P H3 33 (some v2) (some v8)) fun v9 H4 =>
    doQ (readCell env.P H4 v2 33) fun v10 =>
    Q (.tup [v10, (.v (.slice none 0 0)), (.v (.int .i64 4))]) H4) (
    doQ (qLoad env.P (Heap.get H3) 33 (some v1)) fun v8 =>
    doW (callRes env true (limf env) (limt env 0) H3 (⟨0, 19, Heap.gen H3 0 19, 0⟩ : Ref) (some (.fn (.func 20) [] [])) [v8]) fun v9 H4 =>
    doW (wStore env.P H4 33 (some v1) (some v9)) fun v10 H5 =>
    GoL env Try.f37 0 hd_blindstampref07_Run_8 [(8, (.v (.int .i64 0))), (7, (.v (.slice none 0 0))), (2, v1), (1, x1), (4, v2)] H5 Q))
theorem vq_blindstampref07_Run : VC_blindstampref07_Run = fun g x0 x1 H Q => wp env Try.f37 none 0 lv_blindstampref07_Run cu_blindstampref07_Run Q 500 [.code bd_blindstampref07_Run] (ofL g [(0, x0), (1, x1)]) H := by kernel_rfl
theorem vc_blindstampref07_Run (x0 x1 : AV) (H : Heap) (Q : AV → Heap → Prop) (h : ∀ g, VC_blindstampref07_Run g x0 x1 H Q) : GoL env Try.f37 0 [.code bd_blindstampref07_Run] [(0, x0), (1, x1)] H Q := ⟨fun g => wp_ok (by have h := h g; rw [vq_blindstampref07_Run] at h; exact h)⟩
def VC_blindstampref07_Run_8 (g : Nat → AV) (x8 x7 x2 x1 x4 : AV) (H : Heap) (Q : AV → Heap → Prop) : Prop :=
  doQ (qBuiltin env.P false (Heap.get H) (⟨0, 22, Heap.gen H 0 22, 0⟩ : Ref) .len #[70] [x1]) fun v1 =>
  doQ (qBin env.P .lss 3 (.tmp 20) (.tmp 22) (some x8) (some v1)) fun v2 =>
  br (some v2) (
   doQ (qIndexAddr env.P (Heap.get H) 70 (some x1) (some x8)) fun v3 =>
   doQ (qLoad env.P (Heap.get H) 59 (some v3)) fun v4 =>
   doW (callRes env true (limf env) (limt env 0) H (⟨0, 30, Heap.gen H 0 30, 0⟩ : Ref) (some (.fn (.func 63) [] [])) [v4]) fun v5 H1 =>
   br (some v5) (
    doQ (qLoad env.P (Heap.get H1) 33 (some x2)) fun v6 =>
    doQ (qIndexAddr env.P (Heap.get H1) 70 (some x1) (some x8)) fun v7 =>
    doQ (qLoad env.P (Heap.get H1) 59 (some v7)) fun v8 =>
    doW (callRes env false (limf env) (limt env 0) H1 (⟨0, 37, Heap.gen H1 0 37, 0⟩ : Ref) (some (.fn (.func 67) [] [])) [v6, v8]) fun v9 H2 =>
    doQ (qExtract (some v9) 0) fun v10 =>
    doQ (qExtract (some v9) 1) fun v11 =>
    doW (wStore env.P H2 33 (some x2) (some v10)) fun v12 H3 =>
    doW (bsRes env.P false true H3 (⟨0, 42, Heap.gen H3 0 42, 0⟩ : Ref) 78 1 (some [(0, v11)])) fun v13 H4 =>
    doW (appRes env.P true H4 (⟨0, 43, Heap.gen H4 0 43, 0⟩ : Ref) (some 78) (some 78) x7 v13) fun v14 H5 =>
    doQ (qBin env.P .add 3 (.tmp 24) (.const (.int .i64 1)) (some x8) (some (.v (.int .i64 1)))) fun v15 =>
    GoL env Try.f37 0 hd_blindstampref07_Run_8 [(8, v15), (7, v14), (2, x2), (1, x1), (4, x4)] H5 Q) (
    doW (bsRes env.P false true H1 (⟨0, 42, Heap.gen H1 0 42, 0⟩ : Ref) 78 1 (some [(0, (.v (.int .i64 8)))])) fun v6 H2 =>
    doW (appRes env.P true H2 (⟨0, 43, Heap.gen H2 0 43, 0⟩ : Ref) (some 78) (some 78) x7 v6) fun v7 H3 =>
    doQ (qBin env.P .add 3 (.tmp 24) (.const (.int .i64 1)) (some x8) (some (.v (.int .i64 1)))) fun v8 =>
    GoL env Try.f37 0 hd_blindstampref07_Run_8 [(8, v8), (7, v7), (2, x2), (1, x1), (4, x4)] H3 Q)) (
   doQ (qLoad env.P (Heap.get H) 33 (some x2)) fun v3 =>
   doW (wStore env.P H 33 (some x4) (some v3)) fun v4 H1 =>
   doQ (readCell env.P H1 x4 33) fun v5 =>
   Q (.tup [v5, x7, (.v (.int .i64 0))]) H1)
theorem vq_blindstampref07_Run_8 : VC_blindstampref07_Run_8 = fun g x8 x7 x2 x1 x4 H Q => wp env Try.f37 none 0 lv_blindstampref07_Run cu_blindstampref07_Run Q 500 (bodyOf hd_blindstampref07_Run_8) (ofL g [(8, x8), (7, x7), (2, x2), (1, x1), (4, x4)]) H := by kernel_rfl
theorem vc_blindstampref07_Run_8 (x8 x7 x2 x1 x4 : AV) (H : Heap) (Q : AV → Heap → Prop) (h : ∀ g, VC_blindstampref07_Run_8 g x8 x7 x2 x1 x4 H Q) : GoL env Try.f37 0 hd_blindstampref07_Run_8 [(8, x8), (7, x7), (2, x2), (1, x1), (4, x4)] H Q := goL_body fun g => wp_ok (by have h := h g; rw [vq_blindstampref07_Run_8] at h; exact h)

/- grant_Check -/
noncomputable def bd_grant_Check : Code := (Try.f38.body).getD .skip
def lv_grant_Check : Nat → Option (List Nat) := fun i => none
def cu_grant_Check : Nat → Bool := fun i => false
def VC_grant_Check (g : Nat → AV) (x0 : AV) (H : Heap) (Q : AV → Heap → Prop) : Prop :=
  doW (nRes H (⟨0, 1, Heap.gen H 0 1, 0⟩ : Ref) (qBox env.P (⟨0, 1, Heap.gen H 0 1, 0⟩ : Ref) 59 (some x0))) fun v1 H1 =>
  doQ (qFieldAddr env.P 59 (some v1) 1) fun v2 =>
  doQ (qFieldAddr env.P 39 (some v2) 1) fun v3 =>
  doQ (qLoad env.P (Heap.get H1) 4 (some v3)) fun v4 =>
  gQ v4 false (qFieldAddr env.P 59 (some v1) 1) fun v5 =>
  gQ v4 false (qFieldAddr env.P 39 (some v5) 0) fun v6 =>
  gQ v4 false (qLoad env.P (Heap.get H1) 24 (some v6)) fun v7 =>
  gW v4 false H1 (callRes env false (limf env) (limt env 0) H1 (⟨0, 11, Heap.gen H1 0 11, 0⟩ : Ref) (some (.fn (.func 68) [] [])) []) fun v8 H2 =>
  gQ v4 false (qBin env.P .eql 24 (.tmp 10) (.tmp 11) (some v7) (some v8)) fun v9 =>
  doQ (pickF (some v4) (some (.v (.bool true))) (some v9)) fun v10 =>
  doQ (qFieldAddr env.P 59 (some v1) 0) fun v11 =>
  doQ (qLoad env.P (Heap.get H2) 3 (some v11)) fun v12 =>
  doQ (qBin env.P .lss 3 (.tmp 15) (.const (.int .i64 0)) (some v12) (some (.v (.int .i64 0)))) fun v13 =>
  gQ v13 false (qFieldAddr env.P 59 (some v1) 0) fun v14 =>
  gQ v13 false (qLoad env.P (Heap.get H2) 3 (some v14)) fun v15 =>
  gQ v13 false (qBin env.P .geq 3 (.tmp 19) (.const (.int .i64 8)) (some v15) (some (.v (.int .i64 8)))) fun v16 =>
  doQ (pickF (some v13) (some (.v (.bool true))) (some v16)) fun v17 =>
  gQ v17 false (qFieldAddr env.P 59 (some v1) 1) fun v18 =>
  gQ v17 false (qFieldAddr env.P 39 (some v18) 0) fun v19 =>
  gQ v17 false (qLoad env.P (Heap.get H2) 24 (some v19)) fun v20 =>
  gW v17 false H2 (callRes env true (limf env) (limt env 0) H2 (⟨0, 26, Heap.gen H2 0 26, 0⟩ : Ref) (some (.fn (.func 51) [] [])) [v20]) fun v21 H3 =>
  gQ v17 false (qBin env.P .neq 27 (.tmp 26) (.const (.int .i64 0)) (some v21) (some (.v (.int .i64 0)))) fun v22 =>
  doQ (pickF (some v17) (some (.v (.bool true))) (some v22)) fun v23 =>
  gQ v23 false (qVal (some v10)) fun v24 =>
  gQ v23 false (qUn env.P .not (some v24)) fun v25 =>
  doQ (pickF (some v23) (some (.v (.bool true))) (some v25)) fun v26 =>
  br (some v26) (
   Q (.v (.int .i64 8)) H3) (
   Q (.v (.int .i64 0)) H3)
theorem vq_grant_Check : VC_grant_Check = fun g x0 H Q => wp env Try.f38 none 0 lv_grant_Check cu_grant_Check Q 500 [.code bd_grant_Check] (ofL g [(0, x0)]) H := by kernel_rfl
theorem vc_grant_Check (x0 : AV) (H : Heap) (Q : AV → Heap → Prop) (h : ∀ g, VC_grant_Check g x0 H Q) : GoL env Try.f38 0 [.code bd_grant_Check] [(0, x0)] H Q := ⟨fun g => wp_ok (by have h := h g; rw [vq_grant_Check] at h; exact h)⟩

/- blindstampref07_Check -/
noncomputable def bd_blindstampref07_Check : Code := (Try.f39.body).getD .skip
def lv_blindstampref07_Check : Nat → Option (List Nat) := fun i => none
def cu_blindstampref07_Check : Nat → Bool := fun i => false
def VC_blindstampref07_Check (g : Nat → AV) (x0 : AV) (H : Heap) (Q : AV → Heap → Prop) : Prop :=
  doW (nRes H (⟨0, 1, Heap.gen H 0 1, 0⟩ : Ref) (qBox env.P (⟨0, 1, Heap.gen H 0 1, 0⟩ : Ref) 59 (some x0))) fun v1 H1 =>
  doQ (qLoad env.P (Heap.get H1) 59 (some v1)) fun v2 =>
  doW (callRes env true (limf env) (limt env 0) H1 (⟨0, 4, Heap.gen H1 0 4, 0⟩ : Ref) (some (.fn (.func 63) [] [])) [v2]) fun v3 H2 =>
  doQ (qUn env.P .not (some v3)) fun v4 =>
  br (some v4) (
   Q (.v (.int .i64 8)) H2) (
   Q (.v (.int .i64 0)) H2)
theorem vq_blindstampref07_Check : VC_blindstampref07_Check = fun g x0 H Q => wp env Try.f39 none 0 lv_blindstampref07_Check cu_blindstampref07_Check Q 500 [.code bd_blindstampref07_Check] (ofL g [(0, x0)]) H := by kernel_rfl
theorem vc_blindstampref07_Check (x0 : AV) (H : Heap) (Q : AV → Heap → Prop) (h : ∀ g, VC_blindstampref07_Check g x0 H Q) : GoL env Try.f39 0 [.code bd_blindstampref07_Check] [(0, x0)] H Q := ⟨fun g => wp_ok (by have h := h g; rw [vq_blindstampref07_Check] at h; exact h)⟩

/- policy_asked -/
noncomputable def bd_policy_asked : Code := (Try.f44.body).getD .skip
def lv_policy_asked : Nat → Option (List Nat) := fun i => none
def cu_policy_asked : Nat → Bool := fun i => false
def VC_policy_asked (g : Nat → AV) (x0 x1 : AV) (H : Heap) (Q : AV → Heap → Prop) : Prop :=
  doW (nRes H (⟨0, 2, Heap.gen H 0 2, 0⟩ : Ref) (qBox env.P (⟨0, 2, Heap.gen H 0 2, 0⟩ : Ref) 33 (some x0))) fun v1 H1 =>
  doW (nRes H1 (⟨0, 3, Heap.gen H1 0 3, 0⟩ : Ref) (qBox env.P (⟨0, 3, Heap.gen H1 0 3, 0⟩ : Ref) 24 (some x1))) fun v2 H2 =>
  doQ (qLoad env.P (Heap.get H2) 33 (some v1)) fun v3 =>
  doW (callRes env false (limf env) (limt env 0) H2 (⟨0, 6, Heap.gen H2 0 6, 0⟩ : Ref) (some (.fn (.func 17) [] [])) [v3]) fun v4 H3 =>
  doQ (qLoad env.P (Heap.get H3) 24 (some v2)) fun v5 =>
  doW (callRes env false (limf env) (limt env 0) H3 (⟨0, 8, Heap.gen H3 0 8, 0⟩ : Ref) (some (.fn (.func 51) [] [])) [v5]) fun v6 H4 =>
  doQ (qBuiltin env.P true (Heap.get H4) (⟨0, 9, Heap.gen H4 0 9, 0⟩ : Ref) .max #[27, 27] [v4, v6]) fun v7 =>
  Q v7 H4
theorem vq_policy_asked : VC_policy_asked = fun g x0 x1 H Q => wp env Try.f44 none 0 lv_policy_asked cu_policy_asked Q 500 [.code bd_policy_asked] (ofL g [(0, x0), (1, x1)]) H := by kernel_rfl
theorem vc_policy_asked (x0 x1 : AV) (H : Heap) (Q : AV → Heap → Prop) (h : ∀ g, VC_policy_asked g x0 x1 H Q) : GoL env Try.f44 0 [.code bd_policy_asked] [(0, x0), (1, x1)] H Q := ⟨fun g => wp_ok (by have h := h g; rw [vq_policy_asked] at h; exact h)⟩

/- policy_find_blindstamp_api_Quota_blindstamp_api_Label_ -/
noncomputable def bd_policy_find_blindstamp_api_Quota_blindstamp_api_Label_ : Code := (Try.f45.body).getD .skip
def lv_policy_find_blindstamp_api_Quota_blindstamp_api_Label_ : Nat → Option (List Nat) := fun i => none
def cu_policy_find_blindstamp_api_Quota_blindstamp_api_Label_ : Nat → Bool := fun i => false
def VC_policy_find_blindstamp_api_Quota_blindstamp_api_Label_ (g : Nat → AV) (x0 x1 x2 : AV) (H : Heap) (Q : AV → Heap → Prop) : Prop :=
  doW (nRes H (⟨0, 4, Heap.gen H 0 4, 0⟩ : Ref) (qBox env.P (⟨0, 4, Heap.gen H 0 4, 0⟩ : Ref) 24 (some x1))) fun v1 H1 =>
  doW (nRes H1 (⟨0, 5, Heap.gen H1 0 5, 0⟩ : Ref) (qBox env.P (⟨0, 5, Heap.gen H1 0 5, 0⟩ : Ref) 89 (some x2))) fun v2 H2 =>
  doW (nRes H2 (⟨0, 6, Heap.gen H2 0 6, 0⟩ : Ref) (qAlloc env.P (⟨0, 6, Heap.gen H2 0 6, 0⟩ : Ref) 26)) fun v3 H3 =>
  doQ (qFunc (.func 70) (some []) (some [v2, v1])) fun v4 =>
  doW (callRes env true (limf env) (limt env 0) H3 (⟨0, 11, Heap.gen H3 0 11, 0⟩ : Ref) (some (.fn (.func 69) [] [])) [x0, v4]) fun v5 H4 =>
  doQ (qBin env.P .lss 3 (.tmp 12) (.const (.int .i64 0)) (some v5) (some (.v (.int .i64 0)))) fun v6 =>
  br (some v6) (
   doQ (qLoad env.P (Heap.get H4) 26 (some v3)) fun v7 =>
   doW (wStore env.P H4 26 (some v3) (some v7)) fun v8 H5 =>
   doQ (readCell env.P H5 v3 26) fun v9 =>
   Q (.tup [v9, (.v (.bool false))]) H5) (
   doQ (qIndexAddr env.P (Heap.get H4) 31 (some x0) (some v5)) fun v7 =>
   doQ (qLoad env.P (Heap.get H4) 26 (some v7)) fun v8 =>
   doW (wStore env.P H4 26 (some v3) (some v8)) fun v9 H5 =>
   doQ (readCell env.P H5 v3 26) fun v10 =>
   Q (.tup [v10, (.v (.bool true))]) H5)
theorem vq_policy_find_blindstamp_api_Quota_blindstamp_api_Label_ : VC_policy_find_blindstamp_api_Quota_blindstamp_api_Label_ = fun g x0 x1 x2 H Q => wp env Try.f45 none 0 lv_policy_find_blindstamp_api_Quota_blindstamp_api_Label_ cu_policy_find_blindstamp_api_Quota_blindstamp_api_Label_ Q 500 [.code bd_policy_find_blindstamp_api_Quota_blindstamp_api_Label_] (ofL g [(0, x0), (1, x1), (2, x2)]) H := by kernel_rfl
theorem vc_policy_find_blindstamp_api_Quota_blindstamp_api_Label_ (x0 x1 x2 : AV) (H : Heap) (Q : AV → Heap → Prop) (h : ∀ g, VC_policy_find_blindstamp_api_Quota_blindstamp_api_Label_ g x0 x1 x2 H Q) : GoL env Try.f45 0 [.code bd_policy_find_blindstamp_api_Quota_blindstamp_api_Label_] [(0, x0), (1, x1), (2, x2)] H Q := ⟨fun g => wp_ok (by have h := h g; rw [vq_policy_find_blindstamp_api_Quota_blindstamp_api_Label_] at h; exact h)⟩

/- policy_QuotaF1 -/
noncomputable def bd_policy_QuotaF1 : Code := (Try.f46.body).getD .skip
def lv_policy_QuotaF1 : Nat → Option (List Nat) := fun i => none
def cu_policy_QuotaF1 : Nat → Bool := fun i => false
def VC_policy_QuotaF1 (g : Nat → AV) (x0 : AV) (H : Heap) (Q : AV → Heap → Prop) : Prop :=
  doW (nRes H (⟨0, 1, Heap.gen H 0 1, 0⟩ : Ref) (qBox env.P (⟨0, 1, Heap.gen H 0 1, 0⟩ : Ref) 26 (some x0))) fun v1 H1 =>
  doW (nRes H1 (⟨0, 2, Heap.gen H1 0 2, 0⟩ : Ref) (qAlloc env.P (⟨0, 2, Heap.gen H1 0 2, 0⟩ : Ref) 24)) fun v2 H2 =>
  doQ (qFieldAddr env.P 26 (some v1) 0) fun v3 =>
  doQ (qLoad env.P (Heap.get H2) 24 (some v3)) fun v4 =>
  doW (wStore env.P H2 24 (some v2) (some v4)) fun v5 H3 =>
  doQ (readCell env.P H3 v2 24) fun v6 =>
  Q v6 H3
theorem vq_policy_QuotaF1 : VC_policy_QuotaF1 = fun g x0 H Q => wp env Try.f46 none 0 lv_policy_QuotaF1 cu_policy_QuotaF1 Q 500 [.code bd_policy_QuotaF1] (ofL g [(0, x0)]) H := by kernel_rfl
theorem vc_policy_QuotaF1 (x0 : AV) (H : Heap) (Q : AV → Heap → Prop) (h : ∀ g, VC_policy_QuotaF1 g x0 H Q) : GoL env Try.f46 0 [.code bd_policy_QuotaF1] [(0, x0)] H Q := ⟨fun g => wp_ok (by have h := h g; rw [vq_policy_QuotaF1] at h; exact h)⟩

/- policy_all -/
noncomputable def bd_policy_all : Code := (Try.f48.body).getD .skip
def lv_policy_all : Nat → Option (List Nat) := fun i => none
def cu_policy_all : Nat → Bool := fun i => false
def VC_policy_all (g : Nat → AV) (x0 : AV) (H : Heap) (Q : AV → Heap → Prop) : Prop :=
  doW (callRes env true (limf env) (limt env 0) H (⟨0, 4, Heap.gen H 0 4, 0⟩ : Ref) (some (.fn (.func 71) [] [])) [x0, (.v (.bool false))]) fun v1 H1 =>
  doQ (qUn env.P .not (some v1)) fun v2 =>
  Q v2 H1
theorem vq_policy_all : VC_policy_all = fun g x0 H Q => wp env Try.f48 none 0 lv_policy_all cu_policy_all Q 500 [.code bd_policy_all] (ofL g [(0, x0)]) H := by kernel_rfl
theorem vc_policy_all (x0 : AV) (H : Heap) (Q : AV → Heap → Prop) (h : ∀ g, VC_policy_all g x0 H Q) : GoL env Try.f48 0 [.code bd_policy_all] [(0, x0)] H Q := ⟨fun g => wp_ok (by have h := h g; rw [vq_policy_all] at h; exact h)⟩

/- policy_from -/
noncomputable def bd_policy_from : Code := (Try.f49.body).getD .skip
def lv_policy_from : Nat → Option (List Nat) := fun i => none
def cu_policy_from : Nat → Bool := fun i => false
def VC_policy_from (g : Nat → AV) (x0 x1 : AV) (H : Heap) (Q : AV → Heap → Prop) : Prop :=
  doQ (qBin env.P .geq 3 (.tmp 5) (.const (.int .i64 0)) (some x0) (some (.v (.int .i64 0)))) fun v1 =>
  gQ v1 true (qVal (some x0)) fun v2 =>
  gQ v1 true (qVal (some x1)) fun v3 =>
  gQ v1 true (qBin env.P .leq 3 (.tmp 8) (.tmp 9) (some v2) (some v3)) fun v4 =>
  doQ (pickF (some v1) (some v4) (some (.v (.bool false)))) fun v5 =>
  Q v5 H
theorem vq_policy_from : VC_policy_from = fun g x0 x1 H Q => wp env Try.f49 none 0 lv_policy_from cu_policy_from Q 500 [.code bd_policy_from] (ofL g [(0, x0), (1, x1)]) H := by kernel_rfl
theorem vc_policy_from (x0 x1 : AV) (H : Heap) (Q : AV → Heap → Prop) (h : ∀ g, VC_policy_from g x0 x1 H Q) : GoL env Try.f49 0 [.code bd_policy_from] [(0, x0), (1, x1)] H Q := ⟨fun g => wp_ok (by have h := h g; rw [vq_policy_from] at h; exact h)⟩

/- policy_clear -/
noncomputable def bd_policy_clear : Code := (Try.f50.body).getD .skip
def lv_policy_clear : Nat → Option (List Nat) := fun i => none
def cu_policy_clear : Nat → Bool := fun i => false
def VC_policy_clear (g : Nat → AV) (x0 : AV) (H : Heap) (Q : AV → Heap → Prop) : Prop :=
  doW (nRes H (⟨0, 1, Heap.gen H 0 1, 0⟩ : Ref) (qBox env.P (⟨0, 1, Heap.gen H 0 1, 0⟩ : Ref) 39 (some x0))) fun v1 H1 =>
  doQ (qFieldAddr env.P 39 (some v1) 0) fun v2 =>
  doQ (qLoad env.P (Heap.get H1) 24 (some v2)) fun v3 =>
  doW (callRes env false (limf env) (limt env 0) H1 (⟨0, 5, Heap.gen H1 0 5, 0⟩ : Ref) (some (.fn (.func 51) [] [])) [v3]) fun v4 H2 =>
  doQ (qBin env.P .eql 27 (.tmp 5) (.const (.int .i64 0)) (some v4) (some (.v (.int .i64 0)))) fun v5 =>
  gQ v5 true (qFieldAddr env.P 39 (some v1) 1) fun v6 =>
  gQ v5 true (qLoad env.P (Heap.get H2) 4 (some v6)) fun v7 =>
  gQ v5 true (qVal (some v7)) fun v8 =>
  gQ v8 false (qFieldAddr env.P 39 (some v1) 0) fun v9 =>
  gQ v8 false (qLoad env.P (Heap.get H2) 24 (some v9)) fun v10 =>
  gW v8 false H2 (callRes env false (limf env) (limt env 0) H2 (⟨0, 13, Heap.gen H2 0 13, 0⟩ : Ref) (some (.fn (.func 68) [] [])) []) fun v11 H3 =>
  gQ v8 false (qBin env.P .eql 24 (.tmp 12) (.tmp 13) (some v10) (some v11)) fun v12 =>
  gQ v5 true (pickF (some v8) (some (.v (.bool true))) (some v12)) fun v13 =>
  doQ (pickF (some v5) (some v13) (some (.v (.bool false)))) fun v14 =>
  Q v14 H3
theorem vq_policy_clear : VC_policy_clear = fun g x0 H Q => wp env Try.f50 none 0 lv_policy_clear cu_policy_clear Q 500 [.code bd_policy_clear] (ofL g [(0, x0)]) H := by kernel_rfl
theorem vc_policy_clear (x0 : AV) (H : Heap) (Q : AV → Heap → Prop) (h : ∀ g, VC_policy_clear g x0 H Q) : GoL env Try.f50 0 [.code bd_policy_clear] [(0, x0)] H Q := ⟨fun g => wp_ok (by have h := h g; rw [vq_policy_clear] at h; exact h)⟩

/- label_Check -/
noncomputable def bd_label_Check : Code := (Try.f51.body).getD .skip
def lv_label_Check : Nat → Option (List Nat) := fun i => none
def cu_label_Check : Nat → Bool := fun i => false
def VC_label_Check (g : Nat → AV) (x0 : AV) (H : Heap) (Q : AV → Heap → Prop) : Prop :=
  doW (nRes H (⟨0, 1, Heap.gen H 0 1, 0⟩ : Ref) (qBox env.P (⟨0, 1, Heap.gen H 0 1, 0⟩ : Ref) 24 (some x0))) fun v1 H1 =>
  doQ (qFieldAddr env.P 24 (some v1) 0) fun v2 =>
  doQ (qLoad env.P (Heap.get H1) 5 (some v2)) fun v3 =>
  doQ (qBin env.P .gtr 5 (.tmp 4) (.const (.int .u8 15)) (some v3) (some (a8 15))) fun v4 =>
  br (some v4) (
   Q (.v (.int .i64 8)) H1) (
   Q (.v (.int .i64 0)) H1)
theorem vq_label_Check : VC_label_Check = fun g x0 H Q => wp env Try.f51 none 0 lv_label_Check cu_label_Check Q 500 [.code bd_label_Check] (ofL g [(0, x0)]) H := by kernel_rfl
theorem vc_label_Check (x0 : AV) (H : Heap) (Q : AV → Heap → Prop) (h : ∀ g, VC_label_Check g x0 H Q) : GoL env Try.f51 0 [.code bd_label_Check] [(0, x0)] H Q := ⟨fun g => wp_ok (by have h := h g; rw [vq_label_Check] at h; exact h)⟩

/- policy_blocks -/
noncomputable def bd_policy_blocks : Code := (Try.f52.body).getD .skip
noncomputable def hd_policy_blocks_3 : List Item := (findLoop 3 400 [.code bd_policy_blocks]).getD []
def lv_policy_blocks : Nat → Option (List Nat) := fun i => cond (Nat.beq i 3) (some [11, 3, 9, 10]) (none)
def cu_policy_blocks : Nat → Bool := fun i => false
def VC_policy_blocks (g : Nat → AV) (x0 : AV) (H : Heap) (Q : AV → Heap → Prop) : Prop :=
  doW (nRes H (⟨0, 1, Heap.gen H 0 1, 0⟩ : Ref) (qBox env.P (⟨0, 1, Heap.gen H 0 1, 0⟩ : Ref) 33 (some x0))) fun v1 H1 =>
  doQ (qFieldAddr env.P 33 (some v1) 2) fun v2 =>
  doQ (qLoad env.P (Heap.get H1) 3 (some v2)) fun v3 =>
  doQ (qFieldAddr env.P 33 (some v1) 1) fun v4 =>
  doQ (qLoad env.P (Heap.get H1) 31 (some v4)) fun v5 =>
  doQ (qBuiltin env.P false (Heap.get H1) (⟨0, 10, Heap.gen H1 0 10, 0⟩ : Ref) .len #[31] [v5]) fun v6 =>
  GoL env Try.f52 0 hd_policy_blocks_3 [(11, (.v (.int .i64 0))), (3, v3), (9, v5), (10, v6)] H1 Q
theorem vq_policy_blocks : VC_policy_blocks = fun g x0 H Q => wp env Try.f52 none 0 lv_policy_blocks cu_policy_blocks Q 500 [.code bd_policy_blocks] (ofL g [(0, x0)]) H := by kernel_rfl
theorem vc_policy_blocks (x0 : AV) (H : Heap) (Q : AV → Heap → Prop) (h : ∀ g, VC_policy_blocks g x0 H Q) : GoL env Try.f52 0 [.code bd_policy_blocks] [(0, x0)] H Q := ⟨fun g => wp_ok (by have h := h g; rw [vq_policy_blocks] at h; exact h)⟩
def VC_policy_blocks_3 (g : Nat → AV) (x11 x3 x9 x10 : AV) (H : Heap) (Q : AV → Heap → Prop) : Prop :=
  doQ (qBin env.P .lss 3 (.tmp 11) (.tmp 10) (some x11) (some x10)) fun v1 =>
  br (some v1) (
   doQ (qIndexAddr env.P (Heap.get H) 31 (some x9) (some x11)) fun v2 =>
   doQ (qLoad env.P (Heap.get H) 26 (some v2)) fun v3 =>
   doW (nRes H (⟨0, 5, Heap.gen H 0 5, 0⟩ : Ref) (qAlloc env.P (⟨0, 5, Heap.gen H 0 5, 0⟩ : Ref) 26)) fun v4 H1 =>
   doW (wStore env.P H1 26 (some v4) (some v3)) fun v5 H2 =>
   doQ (qFieldAddr env.P 26 (some v4) 1) fun v6 =>
   doQ (qLoad env.P (Heap.get H2) 3 (some v6)) fun v7 =>
   doQ (qFieldAddr env.P 26 (some v4) 2) fun v8 =>
   doQ (qLoad env.P (Heap.get H2) 3 (some v8)) fun v9 =>
   doQ (qBin env.P .mul 3 (.const (.int .i64 4)) (.tmp 19) (some (.v (.int .i64 4))) (some v9)) fun v10 =>
   doQ (qBin env.P .add 3 (.tmp 17) (.tmp 20) (some v7) (some v10)) fun v11 =>
   doQ (qBin env.P .add 3 (.tmp 15) (.tmp 21) (some x3) (some v11)) fun v12 =>
   doQ (qBin env.P .add 3 (.tmp 11) (.const (.int .i64 1)) (some x11) (some (.v (.int .i64 1)))) fun v13 =>
   GoL env Try.f52 0 hd_policy_blocks_3 [(11, v13), (3, v12), (9, x9), (10, x10)] H2 Q) (
   Q x3 H)
theorem vq_policy_blocks_3 : VC_policy_blocks_3 = fun g x11 x3 x9 x10 H Q => wp env Try.f52 none 0 lv_policy_blocks cu_policy_blocks Q 500 (bodyOf hd_policy_blocks_3) (ofL g [(11, x11), (3, x3), (9, x9), (10, x10)]) H := by kernel_rfl
theorem vc_policy_blocks_3 (x11 x3 x9 x10 : AV) (H : Heap) (Q : AV → Heap → Prop) (h : ∀ g, VC_policy_blocks_3 g x11 x3 x9 x10 H Q) : GoL env Try.f52 0 hd_policy_blocks_3 [(11, x11), (3, x3), (9, x9), (10, x10)] H Q := goL_body fun g => wp_ok (by have h := h g; rw [vq_policy_blocks_3] at h; exact h)

/- blindstampref06_Right -/
noncomputable def bd_blindstampref06_Right : Code := (Try.f53.body).getD .skip
noncomputable def hd_blindstampref06_Right_4 : List Item := (findLoop 4 400 [.code bd_blindstampref06_Right]).getD []
noncomputable def hd_blindstampref06_Right_9 : List Item := (findLoop 9 400 [.code bd_blindstampref06_Right]).getD []
noncomputable def hd_blindstampref06_Right_15 : List Item := (findLoop 15 400 [.code bd_blindstampref06_Right]).getD []
def lv_blindstampref06_Right : Nat → Option (List Nat) := fun i => cond (Nat.beq i 4) (some [3, 1]) (cond (Nat.beq i 9) (some [4, 1]) (cond (Nat.beq i 15) (some [6, 1, 5]) (none)))
def cu_blindstampref06_Right : Nat → Bool := fun i => false
def VC_blindstampref06_Right (g : Nat → AV) (x0 : AV) (H : Heap) (Q : AV → Heap → Prop) : Prop :=
  doW (nRes H (⟨0, 1, Heap.gen H 0 1, 0⟩ : Ref) (qBox env.P (⟨0, 1, Heap.gen H 0 1, 0⟩ : Ref) 33 (some x0))) fun v1 H1 =>
  doQ (qFieldAddr env.P 33 (some v1) 0) fun v2 =>
  doQ (qLoad env.P (Heap.get H1) 30 (some v2)) fun v3 =>
  doQ (qBuiltin env.P false (Heap.get H1) (⟨0, 9, Heap.gen H1 0 9, 0⟩ : Ref) .len #[30] [v3]) fun v4 =>
  doQ (qBin env.P .gtr 3 (.tmp 9) (.const (.int .i64 8)) (some v4) (some (.v (.int .i64 8)))) fun v5 =>
  gQ v5 false (qFieldAddr env.P 33 (some v1) 1) fun v6 =>
  gQ v5 false (qLoad env.P (Heap.get H1) 31 (some v6)) fun v7 =>
  gQ v5 false (qBuiltin env.P false (Heap.get H1) (⟨0, 14, Heap.gen H1 0 14, 0⟩ : Ref) .len #[31] [v7]) fun v8 =>
  gQ v5 false (qBin env.P .gtr 3 (.tmp 14) (.const (.int .i64 8)) (some v8) (some (.v (.int .i64 8)))) fun v9 =>
  doQ (pickF (some v5) (some (.v (.bool true))) (some v9)) fun v10 =>
  gQ v10 false (qFieldAddr env.P 33 (some v1) 2) fun v11 =>
  gQ v10 false (qLoad env.P (Heap.get H1) 3 (some v11)) fun v12 =>
  gQ v10 false (qBin env.P .lss 3 (.tmp 19) (.const (.int .i64 0)) (some v12) (some (.v (.int .i64 0)))) fun v13 =>
  doQ (pickF (some v10) (some (.v (.bool true))) (some v13)) fun v14 =>
  gQ v14 false (qFieldAddr env.P 33 (some v1) 2) fun v15 =>
  gQ v14 false (qLoad env.P (Heap.get H1) 3 (some v15)) fun v16 =>
  gQ v14 false (qBin env.P .gtr 3 (.tmp 24) (.const (.int .i64 64)) (some v16) (some (.v (.int .i64 64)))) fun v17 =>
  doQ (pickF (some v14) (some (.v (.bool true))) (some v17)) fun v18 =>
  br (some v18) (
   Q (.v (.bool false)) H1) (
   GoL env Try.f53 0 hd_blindstampref06_Right_4 [(3, (.v (.int .i64 0))), (1, v1)] H1 Q)
theorem vq_blindstampref06_Right : VC_blindstampref06_Right = fun g x0 H Q => wp env Try.f53 none 0 lv_blindstampref06_Right cu_blindstampref06_Right Q 500 [.code bd_blindstampref06_Right] (ofL g [(0, x0)]) H := by kernel_rfl
theorem vc_blindstampref06_Right (x0 : AV) (H : Heap) (Q : AV → Heap → Prop) (h : ∀ g, VC_blindstampref06_Right g x0 H Q) : GoL env Try.f53 0 [.code bd_blindstampref06_Right] [(0, x0)] H Q := ⟨fun g => wp_ok (by have h := h g; rw [vq_blindstampref06_Right] at h; exact h)⟩
def VC_blindstampref06_Right_4 (g : Nat → AV) (x3 x1 : AV) (H : Heap) (Q : AV → Heap → Prop) : Prop :=
  doQ (qFieldAddr env.P 33 (some x1) 0) fun v1 =>
  doQ (qLoad env.P (Heap.get H) 30 (some v1)) fun v2 =>
  doQ (qBuiltin env.P false (Heap.get H) (⟨0, 30, Heap.gen H 0 30, 0⟩ : Ref) .len #[30] [v2]) fun v3 =>
  doQ (qBin env.P .lss 3 (.tmp 27) (.tmp 30) (some x3) (some v3)) fun v4 =>
  br (some v4) (
   doQ (qFieldAddr env.P 33 (some x1) 0) fun v5 =>
   doQ (qLoad env.P (Heap.get H) 30 (some v5)) fun v6 =>
   doQ (qIndexAddr env.P (Heap.get H) 30 (some v6) (some x3)) fun v7 =>
   doQ (qLoad env.P (Heap.get H) 39 (some v7)) fun v8 =>
   doW (callRes env true (limf env) (limt env 0) H (⟨0, 39, Heap.gen H 0 39, 0⟩ : Ref) (some (.fn (.func 72) [] [])) [v8]) fun v9 H1 =>
   doQ (qUn env.P .not (some v9)) fun v10 =>
   br (some v10) (
    Q (.v (.bool false)) H1) (
    doQ (qBin env.P .add 3 (.tmp 32) (.const (.int .i64 1)) (some x3) (some (.v (.int .i64 1)))) fun v11 =>
    GoL env Try.f53 0 hd_blindstampref06_Right_4 [(3, v11), (1, x1)] H1 Q)) (
   GoL env Try.f53 0 hd_blindstampref06_Right_9 [(4, (.v (.int .i64 0))), (1, x1)] H Q)
theorem vq_blindstampref06_Right_4 : VC_blindstampref06_Right_4 = fun g x3 x1 H Q => wp env Try.f53 none 0 lv_blindstampref06_Right cu_blindstampref06_Right Q 500 (bodyOf hd_blindstampref06_Right_4) (ofL g [(3, x3), (1, x1)]) H := by kernel_rfl
theorem vc_blindstampref06_Right_4 (x3 x1 : AV) (H : Heap) (Q : AV → Heap → Prop) (h : ∀ g, VC_blindstampref06_Right_4 g x3 x1 H Q) : GoL env Try.f53 0 hd_blindstampref06_Right_4 [(3, x3), (1, x1)] H Q := goL_body fun g => wp_ok (by have h := h g; rw [vq_blindstampref06_Right_4] at h; exact h)
def VC_blindstampref06_Right_9 (g : Nat → AV) (x4 x1 : AV) (H : Heap) (Q : AV → Heap → Prop) : Prop :=
  doQ (qFieldAddr env.P 33 (some x1) 1) fun v1 =>
  doQ (qLoad env.P (Heap.get H) 31 (some v1)) fun v2 =>
  doQ (qBuiltin env.P false (Heap.get H) (⟨0, 44, Heap.gen H 0 44, 0⟩ : Ref) .len #[31] [v2]) fun v3 =>
  doQ (qBin env.P .lss 3 (.tmp 41) (.tmp 44) (some x4) (some v3)) fun v4 =>
  br (some v4) (
   doQ (qFieldAddr env.P 33 (some x1) 1) fun v5 =>
   doQ (qLoad env.P (Heap.get H) 31 (some v5)) fun v6 =>
   doQ (qIndexAddr env.P (Heap.get H) 31 (some v6) (some x4)) fun v7 =>
   doQ (qLoad env.P (Heap.get H) 26 (some v7)) fun v8 =>
   doW (callRes env false (limf env) (limt env 0) H (⟨0, 53, Heap.gen H 0 53, 0⟩ : Ref) (some (.fn (.func 73) [] [])) [v8]) fun v9 H1 =>
   doQ (qUn env.P .not (some v9)) fun v10 =>
   gQ v10 false (qVal (some x4)) fun v11 =>
   gQ v10 false (qBin env.P .gtr 3 (.tmp 56) (.const (.int .i64 0)) (some v11) (some (.v (.int .i64 0)))) fun v12 =>
   gQ v10 false (qVal (some v12)) fun v13 =>
   gQ v13 true (qFieldAddr env.P 33 (some x1) 1) fun v14 =>
   gQ v13 true (qLoad env.P (Heap.get H1) 31 (some v14)) fun v15 =>
   gQ v13 true (qVal (some x4)) fun v16 =>
   gQ v13 true (qBin env.P .sub 3 (.tmp 61) (.const (.int .i64 1)) (some v16) (some (.v (.int .i64 1)))) fun v17 =>
   gQ v13 true (qIndexAddr env.P (Heap.get H1) 31 (some v15) (some v17)) fun v18 =>
   gQ v13 true (qFieldAddr env.P 26 (some v18) 0) fun v19 =>
   gQ v13 true (qLoad env.P (Heap.get H1) 24 (some v19)) fun v20 =>
   gQ v13 true (qFieldAddr env.P 33 (some x1) 1) fun v21 =>
   gQ v13 true (qLoad env.P (Heap.get H1) 31 (some v21)) fun v22 =>
   gQ v13 true (qVal (some x4)) fun v23 =>
   gQ v13 true (qIndexAddr env.P (Heap.get H1) 31 (some v22) (some v23)) fun v24 =>
   gQ v13 true (qFieldAddr env.P 26 (some v24) 0) fun v25 =>
   gQ v13 true (qLoad env.P (Heap.get H1) 24 (some v25)) fun v26 =>
   gW v13 true H1 (callRes env false (limf env) (limt env 0) H1 (⟨0, 72, Heap.gen H1 0 72, 0⟩ : Ref) (some (.fn (.func 74) [] [])) [v20, v26]) fun v27 H2 =>
   gQ v13 true (qUn env.P .not (some v27)) fun v28 =>
   gQ v10 false (pickF (some v13) (some v28) (some (.v (.bool false)))) fun v29 =>
   doQ (pickF (some v10) (some (.v (.bool true))) (some v29)) fun v30 =>
   br (some v30) (
    Q (.v (.bool false)) H2) (
    doQ (qBin env.P .add 3 (.tmp 46) (.const (.int .i64 1)) (some x4) (some (.v (.int .i64 1)))) fun v31 =>
    GoL env Try.f53 0 hd_blindstampref06_Right_9 [(4, v31), (1, x1)] H2 Q)) (
   GoL env Try.f53 0 hd_blindstampref06_Right_15 [(6, (.v (.int .i64 0))), (1, x1), (5, (.v (.int .i64 0)))] H Q)
theorem vq_blindstampref06_Right_9 : VC_blindstampref06_Right_9 = fun g x4 x1 H Q => wp env Try.f53 none 0 lv_blindstampref06_Right cu_blindstampref06_Right Q 500 (bodyOf hd_blindstampref06_Right_9) (ofL g [(4, x4), (1, x1)]) H := by kernel_rfl
theorem vc_blindstampref06_Right_9 (x4 x1 : AV) (H : Heap) (Q : AV → Heap → Prop) (h : ∀ g, VC_blindstampref06_Right_9 g x4 x1 H Q) : GoL env Try.f53 0 hd_blindstampref06_Right_9 [(4, x4), (1, x1)] H Q := goL_body fun g => wp_ok (by have h := h g; rw [vq_blindstampref06_Right_9] at h; exact h)
def VC_blindstampref06_Right_15 (g : Nat → AV) (x6 x1 x5 : AV) (H : Heap) (Q : AV → Heap → Prop) : Prop :=
  doQ (qFieldAddr env.P 33 (some x1) 1) fun v1 =>
  doQ (qLoad env.P (Heap.get H) 31 (some v1)) fun v2 =>
  doQ (qBuiltin env.P false (Heap.get H) (⟨0, 79, Heap.gen H 0 79, 0⟩ : Ref) .len #[31] [v2]) fun v3 =>
  doQ (qBin env.P .lss 3 (.tmp 76) (.tmp 79) (some x6) (some v3)) fun v4 =>
  br (some v4) (
   doQ (qFieldAddr env.P 33 (some x1) 1) fun v5 =>
   doQ (qLoad env.P (Heap.get H) 31 (some v5)) fun v6 =>
   doQ (qIndexAddr env.P (Heap.get H) 31 (some v6) (some x6)) fun v7 =>
   doQ (qFieldAddr env.P 26 (some v7) 3) fun v8 =>
   doQ (qLoad env.P (Heap.get H) 3 (some v8)) fun v9 =>
   doQ (qBin env.P .add 3 (.tmp 83) (.tmp 89) (some x5) (some v9)) fun v10 =>
   doQ (qBin env.P .add 3 (.tmp 81) (.const (.int .i64 1)) (some x6) (some (.v (.int .i64 1)))) fun v11 =>
   GoL env Try.f53 0 hd_blindstampref06_Right_15 [(6, v11), (1, x1), (5, v10)] H Q) (
   doQ (qLoad env.P (Heap.get H) 33 (some x1)) fun v5 =>
   doW (callRes env true (limf env) (limt env 0) H (⟨0, 92, Heap.gen H 0 92, 0⟩ : Ref) (some (.fn (.func 54) [] [])) [v5]) fun v6 H1 =>
   doQ (qBin env.P .leq 3 (.tmp 92) (.const (.int .i64 2048)) (some v6) (some (.v (.int .i64 2048)))) fun v7 =>
   gQ v7 true (qVal (some x5)) fun v8 =>
   gQ v7 true (qBin env.P .leq 3 (.tmp 95) (.const (.int .i64 8192)) (some v8) (some (.v (.int .i64 8192)))) fun v9 =>
   doQ (pickF (some v7) (some v9) (some (.v (.bool false)))) fun v10 =>
   Q v10 H1)
theorem vq_blindstampref06_Right_15 : VC_blindstampref06_Right_15 = fun g x6 x1 x5 H Q => wp env Try.f53 none 0 lv_blindstampref06_Right cu_blindstampref06_Right Q 500 (bodyOf hd_blindstampref06_Right_15) (ofL g [(6, x6), (1, x1), (5, x5)]) H := by kernel_rfl
theorem vc_blindstampref06_Right_15 (x6 x1 x5 : AV) (H : Heap) (Q : AV → Heap → Prop) (h : ∀ g, VC_blindstampref06_Right_15 g x6 x1 x5 H Q) : GoL env Try.f53 0 hd_blindstampref06_Right_15 [(6, x6), (1, x1), (5, x5)] H Q := goL_body fun g => wp_ok (by have h := h g; rw [vq_blindstampref06_Right_15] at h; exact h)

/- blindstampref06_Sum -/
noncomputable def bd_blindstampref06_Sum : Code := (Try.f54.body).getD .skip
noncomputable def hd_blindstampref06_Sum_3 : List Item := (findLoop 3 400 [.code bd_blindstampref06_Sum]).getD []
def lv_blindstampref06_Sum : Nat → Option (List Nat) := fun i => cond (Nat.beq i 3) (some [4, 1, 3]) (none)
def cu_blindstampref06_Sum : Nat → Bool := fun i => false
def VC_blindstampref06_Sum (g : Nat → AV) (x0 : AV) (H : Heap) (Q : AV → Heap → Prop) : Prop :=
  doW (nRes H (⟨0, 1, Heap.gen H 0 1, 0⟩ : Ref) (qBox env.P (⟨0, 1, Heap.gen H 0 1, 0⟩ : Ref) 33 (some x0))) fun v1 H1 =>
  doQ (qFieldAddr env.P 33 (some v1) 2) fun v2 =>
  doQ (qLoad env.P (Heap.get H1) 3 (some v2)) fun v3 =>
  GoL env Try.f54 0 hd_blindstampref06_Sum_3 [(4, (.v (.int .i64 0))), (1, v1), (3, v3)] H1 Q
theorem vq_blindstampref06_Sum : VC_blindstampref06_Sum = fun g x0 H Q => wp env Try.f54 none 0 lv_blindstampref06_Sum cu_blindstampref06_Sum Q 500 [.code bd_blindstampref06_Sum] (ofL g [(0, x0)]) H := by kernel_rfl
theorem vc_blindstampref06_Sum (x0 : AV) (H : Heap) (Q : AV → Heap → Prop) (h : ∀ g, VC_blindstampref06_Sum g x0 H Q) : GoL env Try.f54 0 [.code bd_blindstampref06_Sum] [(0, x0)] H Q := ⟨fun g => wp_ok (by have h := h g; rw [vq_blindstampref06_Sum] at h; exact h)⟩
def VC_blindstampref06_Sum_3 (g : Nat → AV) (x4 x1 x3 : AV) (H : Heap) (Q : AV → Heap → Prop) : Prop :=
  doQ (qFieldAddr env.P 33 (some x1) 1) fun v1 =>
  doQ (qLoad env.P (Heap.get H) 31 (some v1)) fun v2 =>
  doQ (qBuiltin env.P false (Heap.get H) (⟨0, 10, Heap.gen H 0 10, 0⟩ : Ref) .len #[31] [v2]) fun v3 =>
  doQ (qBin env.P .lss 3 (.tmp 7) (.tmp 10) (some x4) (some v3)) fun v4 =>
  br (some v4) (
   doQ (qFieldAddr env.P 33 (some x1) 1) fun v5 =>
   doQ (qLoad env.P (Heap.get H) 31 (some v5)) fun v6 =>
   doQ (qIndexAddr env.P (Heap.get H) 31 (some v6) (some x4)) fun v7 =>
   doQ (qFieldAddr env.P 26 (some v7) 1) fun v8 =>
   doQ (qLoad env.P (Heap.get H) 3 (some v8)) fun v9 =>
   doQ (qBin env.P .add 3 (.tmp 14) (.tmp 20) (some x3) (some v9)) fun v10 =>
   doQ (qFieldAddr env.P 33 (some x1) 1) fun v11 =>
   doQ (qLoad env.P (Heap.get H) 31 (some v11)) fun v12 =>
   doQ (qIndexAddr env.P (Heap.get H) 31 (some v12) (some x4)) fun v13 =>
   doQ (qFieldAddr env.P 26 (some v13) 2) fun v14 =>
   doQ (qLoad env.P (Heap.get H) 3 (some v14)) fun v15 =>
   doQ (qBin env.P .mul 3 (.const (.int .i64 4)) (.tmp 27) (some (.v (.int .i64 4))) (some v15)) fun v16 =>
   doQ (qBin env.P .add 3 (.tmp 21) (.tmp 28) (some v10) (some v16)) fun v17 =>
   doQ (qBin env.P .add 3 (.tmp 12) (.const (.int .i64 1)) (some x4) (some (.v (.int .i64 1)))) fun v18 =>
   GoL env Try.f54 0 hd_blindstampref06_Sum_3 [(4, v18), (1, x1), (3, v17)] H Q) (
   Q x3 H)
theorem vq_blindstampref06_Sum_3 : VC_blindstampref06_Sum_3 = fun g x4 x1 x3 H Q => wp env Try.f54 none 0 lv_blindstampref06_Sum cu_blindstampref06_Sum Q 500 (bodyOf hd_blindstampref06_Sum_3) (ofL g [(4, x4), (1, x1), (3, x3)]) H := by kernel_rfl
theorem vc_blindstampref06_Sum_3 (x4 x1 x3 : AV) (H : Heap) (Q : AV → Heap → Prop) (h : ∀ g, VC_blindstampref06_Sum_3 g x4 x1 x3 H Q) : GoL env Try.f54 0 hd_blindstampref06_Sum_3 [(4, x4), (1, x1), (3, x3)] H Q := goL_body fun g => wp_ok (by have h := h g; rw [vq_blindstampref06_Sum_3] at h; exact h)

/- blindstampref01_May -/
noncomputable def bd_blindstampref01_May : Code := (Try.f55.body).getD .skip
def lv_blindstampref01_May : Nat → Option (List Nat) := fun i => none
def cu_blindstampref01_May : Nat → Bool := fun i => false
def VC_blindstampref01_May (g : Nat → AV) (x0 : AV) (H : Heap) (Q : AV → Heap → Prop) : Prop :=
  doW (nRes H (⟨0, 1, Heap.gen H 0 1, 0⟩ : Ref) (qBox env.P (⟨0, 1, Heap.gen H 0 1, 0⟩ : Ref) 24 (some x0))) fun v1 H1 =>
  doQ (qFieldAddr env.P 24 (some v1) 0) fun v2 =>
  doQ (qLoad env.P (Heap.get H1) 5 (some v2)) fun v3 =>
  doQ (qBin env.P .leq 5 (.tmp 4) (.const (.int .u8 15)) (some v3) (some (a8 15))) fun v4 =>
  Q v4 H1
theorem vq_blindstampref01_May : VC_blindstampref01_May = fun g x0 H Q => wp env Try.f55 none 0 lv_blindstampref01_May cu_blindstampref01_May Q 500 [.code bd_blindstampref01_May] (ofL g [(0, x0)]) H := by kernel_rfl
theorem vc_blindstampref01_May (x0 : AV) (H : Heap) (Q : AV → Heap → Prop) (h : ∀ g, VC_blindstampref01_May g x0 H Q) : GoL env Try.f55 0 [.code bd_blindstampref01_May] [(0, x0)] H Q := ⟨fun g => wp_ok (by have h := h g; rw [vq_blindstampref01_May] at h; exact h)⟩

/- blindstampref06_Opens -/
noncomputable def bd_blindstampref06_Opens : Code := (Try.f56.body).getD .skip
def lv_blindstampref06_Opens : Nat → Option (List Nat) := fun i => none
def cu_blindstampref06_Opens : Nat → Bool := fun i => false
def VC_blindstampref06_Opens (g : Nat → AV) (x0 x1 x2 : AV) (H : Heap) (Q : AV → Heap → Prop) : Prop :=
  doW (nRes H (⟨0, 3, Heap.gen H 0 3, 0⟩ : Ref) (qBox env.P (⟨0, 3, Heap.gen H 0 3, 0⟩ : Ref) 33 (some x0))) fun v1 H1 =>
  doW (nRes H1 (⟨0, 5, Heap.gen H1 0 5, 0⟩ : Ref) (qBox env.P (⟨0, 5, Heap.gen H1 0 5, 0⟩ : Ref) 24 (some x2))) fun v2 H2 =>
  doQ (qBin env.P .geq 3 (.tmp 7) (.const (.int .i64 0)) (some x1) (some (.v (.int .i64 0)))) fun v3 =>
  gQ v3 true (qVal (some x1)) fun v4 =>
  gQ v3 true (qFieldAddr env.P 33 (some v1) 0) fun v5 =>
  gQ v3 true (qLoad env.P (Heap.get H2) 30 (some v5)) fun v6 =>
  gQ v3 true (qBuiltin env.P false (Heap.get H2) (⟨0, 13, Heap.gen H2 0 13, 0⟩ : Ref) .len #[30] [v6]) fun v7 =>
  gQ v3 true (qBin env.P .lss 3 (.tmp 10) (.tmp 13) (some v4) (some v7)) fun v8 =>
  doQ (pickF (some v3) (some v8) (some (.v (.bool false)))) fun v9 =>
  gQ v9 true (qFieldAddr env.P 33 (some v1) 0) fun v10 =>
  gQ v9 true (qLoad env.P (Heap.get H2) 30 (some v10)) fun v11 =>
  gQ v9 true (qVal (some x1)) fun v12 =>
  gQ v9 true (qIndexAddr env.P (Heap.get H2) 30 (some v11) (some v12)) fun v13 =>
  gQ v9 true (qFieldAddr env.P 39 (some v13) 1) fun v14 =>
  gQ v9 true (qLoad env.P (Heap.get H2) 4 (some v14)) fun v15 =>
  doQ (pickF (some v9) (some v15) (some (.v (.bool false)))) fun v16 =>
  gQ v16 true (qLoad env.P (Heap.get H2) 24 (some v2)) fun v17 =>
  gQ v16 true (qFieldAddr env.P 33 (some v1) 0) fun v18 =>
  gQ v16 true (qLoad env.P (Heap.get H2) 30 (some v18)) fun v19 =>
  gQ v16 true (qVal (some x1)) fun v20 =>
  gQ v16 true (qIndexAddr env.P (Heap.get H2) 30 (some v19) (some v20)) fun v21 =>
  gQ v16 true (qFieldAddr env.P 39 (some v21) 0) fun v22 =>
  gQ v16 true (qLoad env.P (Heap.get H2) 24 (some v22)) fun v23 =>
  gW v16 true H2 (callRes env false (limf env) (limt env 0) H2 (⟨0, 32, Heap.gen H2 0 32, 0⟩ : Ref) (some (.fn (.func 75) [] [])) [v17, v23]) fun v24 H3 =>
  doQ (pickF (some v16) (some v24) (some (.v (.bool false)))) fun v25 =>
  Q v25 H3
theorem vq_blindstampref06_Opens : VC_blindstampref06_Opens = fun g x0 x1 x2 H Q => wp env Try.f56 none 0 lv_blindstampref06_Opens cu_blindstampref06_Opens Q 500 [.code bd_blindstampref06_Opens] (ofL g [(0, x0), (1, x1), (2, x2)]) H := by kernel_rfl
theorem vc_blindstampref06_Opens (x0 x1 x2 : AV) (H : Heap) (Q : AV → Heap → Prop) (h : ∀ g, VC_blindstampref06_Opens g x0 x1 x2 H Q) : GoL env Try.f56 0 [.code bd_blindstampref06_Opens] [(0, x0), (1, x1), (2, x2)] H Q := ⟨fun g => wp_ok (by have h := h g; rw [vq_blindstampref06_Opens] at h; exact h)⟩

/- blindstampref06_Of -/
noncomputable def bd_blindstampref06_Of : Code := (Try.f57.body).getD .skip
noncomputable def hd_blindstampref06_Of_2 : List Item := (findLoop 2 400 [.code bd_blindstampref06_Of]).getD []
def lv_blindstampref06_Of : Nat → Option (List Nat) := fun i => cond (Nat.beq i 2) (some [4, 5, 2, 3]) (none)
def cu_blindstampref06_Of : Nat → Bool := fun i => false
def VC_blindstampref06_Of (g : Nat → AV) (x0 x1 : AV) (H : Heap) (Q : AV → Heap → Prop) : Prop :=
  doW (nRes H (⟨0, 2, Heap.gen H 0 2, 0⟩ : Ref) (qBox env.P (⟨0, 2, Heap.gen H 0 2, 0⟩ : Ref) 33 (some x0))) fun v1 H1 =>
  doW (nRes H1 (⟨0, 3, Heap.gen H1 0 3, 0⟩ : Ref) (qBox env.P (⟨0, 3, Heap.gen H1 0 3, 0⟩ : Ref) 24 (some x1))) fun v2 H2 =>
  doW (nRes H2 (⟨0, 4, Heap.gen H2 0 4, 0⟩ : Ref) (qAlloc env.P (⟨0, 4, Heap.gen H2 0 4, 0⟩ : Ref) 26)) fun v3 H3 =>
  GoL env Try.f57 0 hd_blindstampref06_Of_2 [(4, v3), (5, (.v (.int .i64 0))), (2, v1), (3, v2)] H3 Q
theorem vq_blindstampref06_Of : VC_blindstampref06_Of = fun g x0 x1 H Q => wp env Try.f57 none 0 lv_blindstampref06_Of cu_blindstampref06_Of Q 500 [.code bd_blindstampref06_Of] (ofL g [(0, x0), (1, x1)]) H := by kernel_rfl
theorem vc_blindstampref06_Of (x0 x1 : AV) (H : Heap) (Q : AV → Heap → Prop) (h : ∀ g, VC_blindstampref06_Of g x0 x1 H Q) : GoL env Try.f57 0 [.code bd_blindstampref06_Of] [(0, x0), (1, x1)] H Q := ⟨fun g => wp_ok (by have h := h g; rw [vq_blindstampref06_Of] at h; exact h)⟩
def VC_blindstampref06_Of_2 (g : Nat → AV) (x4 x5 x2 x3 : AV) (H : Heap) (Q : AV → Heap → Prop) : Prop :=
  doQ (qFieldAddr env.P 33 (some x2) 1) fun v1 =>
  doQ (qLoad env.P (Heap.get H) 31 (some v1)) fun v2 =>
  doQ (qBuiltin env.P false (Heap.get H) (⟨0, 9, Heap.gen H 0 9, 0⟩ : Ref) .len #[31] [v2]) fun v3 =>
  doQ (qBin env.P .lss 3 (.tmp 6) (.tmp 9) (some x5) (some v3)) fun v4 =>
  br (some v4) (
   doQ (qFieldAddr env.P 33 (some x2) 1) fun v5 =>
   doQ (qLoad env.P (Heap.get H) 31 (some v5)) fun v6 =>
   doQ (qIndexAddr env.P (Heap.get H) 31 (some v6) (some x5)) fun v7 =>
   doQ (qFieldAddr env.P 26 (some v7) 0) fun v8 =>
   doQ (qLoad env.P (Heap.get H) 24 (some v8)) fun v9 =>
   doQ (qLoad env.P (Heap.get H) 24 (some x3)) fun v10 =>
   doQ (qBin env.P .eql 24 (.tmp 18) (.tmp 19) (some v9) (some v10)) fun v11 =>
   br (some v11) (
    doQ (qFieldAddr env.P 33 (some x2) 1) fun v12 =>
    doQ (qLoad env.P (Heap.get H) 31 (some v12)) fun v13 =>
    doQ (qIndexAddr env.P (Heap.get H) 31 (some v13) (some x5)) fun v14 =>
    doQ (qLoad env.P (Heap.get H) 26 (some v14)) fun v15 =>
    doW (wStore env.P H 26 (some x4) (some v15)) fun v16 H1 =>
    doQ (readCell env.P H1 x4 26) fun v17 =>
    Q v17 H1) (
    doQ (qBin env.P .add 3 (.tmp 11) (.const (.int .i64 1)) (some x5) (some (.v (.int .i64 1)))) fun v12 =>
    GoL env Try.f57 0 hd_blindstampref06_Of_2 [(4, x4), (5, v12), (2, x2), (3, x3)] H Q)) (
   doQ (qLoad env.P (Heap.get H) 24 (some x3)) fun v5 =>
   doQ (qBuild env.P 26 (some [(0, v5)])) fun v6 =>
   doW (wStore env.P H 26 (some x4) (some v6)) fun v7 H1 =>
   doQ (readCell env.P H1 x4 26) fun v8 =>
   Q v8 H1)
theorem vq_blindstampref06_Of_2 : VC_blindstampref06_Of_2 = fun g x4 x5 x2 x3 H Q => wp env Try.f57 none 0 lv_blindstampref06_Of cu_blindstampref06_Of Q 500 (bodyOf hd_blindstampref06_Of_2) (ofL g [(4, x4), (5, x5), (2, x2), (3, x3)]) H := by kernel_rfl
theorem vc_blindstampref06_Of_2 (x4 x5 x2 x3 : AV) (H : Heap) (Q : AV → Heap → Prop) (h : ∀ g, VC_blindstampref06_Of_2 g x4 x5 x2 x3 H Q) : GoL env Try.f57 0 hd_blindstampref06_Of_2 [(4, x4), (5, x5), (2, x2), (3, x3)] H Q := goL_body fun g => wp_ok (by have h := h g; rw [vq_blindstampref06_Of_2] at h; exact h)

/- slices_Clone___blindstamp_api_Clear_blindstamp_api_Clear_ -/
noncomputable def bd_slices_Clone___blindstamp_api_Clear_blindstamp_api_Clear_ : Code := (Try.f58.body).getD .skip
def lv_slices_Clone___blindstamp_api_Clear_blindstamp_api_Clear_ : Nat → Option (List Nat) := fun i => none
def cu_slices_Clone___blindstamp_api_Clear_blindstamp_api_Clear_ : Nat → Bool := fun i => false
def VC_slices_Clone___blindstamp_api_Clear_blindstamp_api_Clear_ (g : Nat → AV) (x0 : AV) (H : Heap) (Q : AV → Heap → Prop) : Prop :=
  doQ (qBin env.P .eql 30 (.tmp 3) (.const (.slice none 0 0)) (some x0) (some (.v (.slice none 0 0)))) fun v1 =>
  br (some v1) (
   Q (.v (.slice none 0 0)) H) (
   doW (bsRes env.P false true H (⟨0, 5, Heap.gen H 0 5, 0⟩ : Ref) 30 0 (some [])) fun v2 H1 =>
   doW (appRes env.P true H1 (⟨0, 7, Heap.gen H1 0 7, 0⟩ : Ref) (some 30) (some 30) v2 x0) fun v3 H2 =>
   Q v3 H2)
theorem vq_slices_Clone___blindstamp_api_Clear_blindstamp_api_Clear_ : VC_slices_Clone___blindstamp_api_Clear_blindstamp_api_Clear_ = fun g x0 H Q => wp env Try.f58 none 0 lv_slices_Clone___blindstamp_api_Clear_blindstamp_api_Clear_ cu_slices_Clone___blindstamp_api_Clear_blindstamp_api_Clear_ Q 500 [.code bd_slices_Clone___blindstamp_api_Clear_blindstamp_api_Clear_] (ofL g [(0, x0)]) H := by kernel_rfl
theorem vc_slices_Clone___blindstamp_api_Clear_blindstamp_api_Clear_ (x0 : AV) (H : Heap) (Q : AV → Heap → Prop) (h : ∀ g, VC_slices_Clone___blindstamp_api_Clear_blindstamp_api_Clear_ g x0 H Q) : GoL env Try.f58 0 [.code bd_slices_Clone___blindstamp_api_Clear_blindstamp_api_Clear_] [(0, x0)] H Q := ⟨fun g => wp_ok (by have h := h g; rw [vq_slices_Clone___blindstamp_api_Clear_blindstamp_api_Clear_] at h; exact h)⟩

/- slices_Clone___blindstamp_api_Quota_blindstamp_api_Quota_ -/
noncomputable def bd_slices_Clone___blindstamp_api_Quota_blindstamp_api_Quota_ : Code := (Try.f59.body).getD .skip
def lv_slices_Clone___blindstamp_api_Quota_blindstamp_api_Quota_ : Nat → Option (List Nat) := fun i => none
def cu_slices_Clone___blindstamp_api_Quota_blindstamp_api_Quota_ : Nat → Bool := fun i => false
def VC_slices_Clone___blindstamp_api_Quota_blindstamp_api_Quota_ (g : Nat → AV) (x0 : AV) (H : Heap) (Q : AV → Heap → Prop) : Prop :=
  doQ (qBin env.P .eql 31 (.tmp 3) (.const (.slice none 0 0)) (some x0) (some (.v (.slice none 0 0)))) fun v1 =>
  br (some v1) (
   Q (.v (.slice none 0 0)) H) (
   doW (bsRes env.P false true H (⟨0, 5, Heap.gen H 0 5, 0⟩ : Ref) 31 0 (some [])) fun v2 H1 =>
   doW (appRes env.P true H1 (⟨0, 7, Heap.gen H1 0 7, 0⟩ : Ref) (some 31) (some 31) v2 x0) fun v3 H2 =>
   Q v3 H2)
theorem vq_slices_Clone___blindstamp_api_Quota_blindstamp_api_Quota_ : VC_slices_Clone___blindstamp_api_Quota_blindstamp_api_Quota_ = fun g x0 H Q => wp env Try.f59 none 0 lv_slices_Clone___blindstamp_api_Quota_blindstamp_api_Quota_ cu_slices_Clone___blindstamp_api_Quota_blindstamp_api_Quota_ Q 500 [.code bd_slices_Clone___blindstamp_api_Quota_blindstamp_api_Quota_] (ofL g [(0, x0)]) H := by kernel_rfl
theorem vc_slices_Clone___blindstamp_api_Quota_blindstamp_api_Quota_ (x0 : AV) (H : Heap) (Q : AV → Heap → Prop) (h : ∀ g, VC_slices_Clone___blindstamp_api_Quota_blindstamp_api_Quota_ g x0 H Q) : GoL env Try.f59 0 [.code bd_slices_Clone___blindstamp_api_Quota_blindstamp_api_Quota_] [(0, x0)] H Q := ⟨fun g => wp_ok (by have h := h g; rw [vq_slices_Clone___blindstamp_api_Quota_blindstamp_api_Quota_] at h; exact h)⟩

/- slices_Equal___blindstamp_api_Clear_blindstamp_api_Clear_ -/
noncomputable def bd_slices_Equal___blindstamp_api_Clear_blindstamp_api_Clear_ : Code := (Try.f60.body).getD .skip
noncomputable def hd_slices_Equal___blindstamp_api_Clear_blindstamp_api_Clear__4 : List Item := (findLoop 4 400 [.code bd_slices_Equal___blindstamp_api_Clear_blindstamp_api_Clear_]).getD []
def lv_slices_Equal___blindstamp_api_Clear_blindstamp_api_Clear_ : Nat → Option (List Nat) := fun i => cond (Nat.beq i 4) (some [13, 1, 0, 12]) (none)
def cu_slices_Equal___blindstamp_api_Clear_blindstamp_api_Clear_ : Nat → Bool := fun i => false
def VC_slices_Equal___blindstamp_api_Clear_blindstamp_api_Clear_ (g : Nat → AV) (x0 x1 : AV) (H : Heap) (Q : AV → Heap → Prop) : Prop :=
  doQ (qBuiltin env.P false (Heap.get H) (⟨0, 7, Heap.gen H 0 7, 0⟩ : Ref) .len #[30] [x0]) fun v1 =>
  doQ (qBuiltin env.P false (Heap.get H) (⟨0, 9, Heap.gen H 0 9, 0⟩ : Ref) .len #[30] [x1]) fun v2 =>
  doQ (qBin env.P .neq 3 (.tmp 7) (.tmp 9) (some v1) (some v2)) fun v3 =>
  br (some v3) (
   Q (.v (.bool false)) H) (
   doQ (qBuiltin env.P false (Heap.get H) (⟨0, 12, Heap.gen H 0 12, 0⟩ : Ref) .len #[30] [x0]) fun v4 =>
   GoL env Try.f60 0 hd_slices_Equal___blindstamp_api_Clear_blindstamp_api_Clear__4 [(13, (.v (.int .i64 0))), (1, x1), (0, x0), (12, v4)] H Q)
theorem vq_slices_Equal___blindstamp_api_Clear_blindstamp_api_Clear_ : VC_slices_Equal___blindstamp_api_Clear_blindstamp_api_Clear_ = fun g x0 x1 H Q => wp env Try.f60 none 0 lv_slices_Equal___blindstamp_api_Clear_blindstamp_api_Clear_ cu_slices_Equal___blindstamp_api_Clear_blindstamp_api_Clear_ Q 500 [.code bd_slices_Equal___blindstamp_api_Clear_blindstamp_api_Clear_] (ofL g [(0, x0), (1, x1)]) H := by kernel_rfl
theorem vc_slices_Equal___blindstamp_api_Clear_blindstamp_api_Clear_ (x0 x1 : AV) (H : Heap) (Q : AV → Heap → Prop) (h : ∀ g, VC_slices_Equal___blindstamp_api_Clear_blindstamp_api_Clear_ g x0 x1 H Q) : GoL env Try.f60 0 [.code bd_slices_Equal___blindstamp_api_Clear_blindstamp_api_Clear_] [(0, x0), (1, x1)] H Q := ⟨fun g => wp_ok (by have h := h g; rw [vq_slices_Equal___blindstamp_api_Clear_blindstamp_api_Clear_] at h; exact h)⟩
def VC_slices_Equal___blindstamp_api_Clear_blindstamp_api_Clear__4 (g : Nat → AV) (x13 x1 x0 x12 : AV) (H : Heap) (Q : AV → Heap → Prop) : Prop :=
  doQ (qBin env.P .lss 3 (.tmp 13) (.tmp 12) (some x13) (some x12)) fun v1 =>
  br (some v1) (
   doQ (qIndexAddr env.P (Heap.get H) 30 (some x0) (some x13)) fun v2 =>
   doQ (qLoad env.P (Heap.get H) 39 (some v2)) fun v3 =>
   doQ (qIndexAddr env.P (Heap.get H) 30 (some x1) (some x13)) fun v4 =>
   doQ (qLoad env.P (Heap.get H) 39 (some v4)) fun v5 =>
   doQ (qBin env.P .neq 39 (.tmp 19) (.tmp 23) (some v3) (some v5)) fun v6 =>
   br (some v6) (
    Q (.v (.bool false)) H) (
    doQ (qBin env.P .add 3 (.tmp 13) (.const (.int .i64 1)) (some x13) (some (.v (.int .i64 1)))) fun v7 =>
    GoL env Try.f60 0 hd_slices_Equal___blindstamp_api_Clear_blindstamp_api_Clear__4 [(13, v7), (1, x1), (0, x0), (12, x12)] H Q)) (
   Q (.v (.bool true)) H)
theorem vq_slices_Equal___blindstamp_api_Clear_blindstamp_api_Clear__4 : VC_slices_Equal___blindstamp_api_Clear_blindstamp_api_Clear__4 = fun g x13 x1 x0 x12 H Q => wp env Try.f60 none 0 lv_slices_Equal___blindstamp_api_Clear_blindstamp_api_Clear_ cu_slices_Equal___blindstamp_api_Clear_blindstamp_api_Clear_ Q 500 (bodyOf hd_slices_Equal___blindstamp_api_Clear_blindstamp_api_Clear__4) (ofL g [(13, x13), (1, x1), (0, x0), (12, x12)]) H := by kernel_rfl
theorem vc_slices_Equal___blindstamp_api_Clear_blindstamp_api_Clear__4 (x13 x1 x0 x12 : AV) (H : Heap) (Q : AV → Heap → Prop) (h : ∀ g, VC_slices_Equal___blindstamp_api_Clear_blindstamp_api_Clear__4 g x13 x1 x0 x12 H Q) : GoL env Try.f60 0 hd_slices_Equal___blindstamp_api_Clear_blindstamp_api_Clear__4 [(13, x13), (1, x1), (0, x0), (12, x12)] H Q := goL_body fun g => wp_ok (by have h := h g; rw [vq_slices_Equal___blindstamp_api_Clear_blindstamp_api_Clear__4] at h; exact h)

/- slices_Equal___blindstamp_api_Quota_blindstamp_api_Quota_ -/
noncomputable def bd_slices_Equal___blindstamp_api_Quota_blindstamp_api_Quota_ : Code := (Try.f61.body).getD .skip
noncomputable def hd_slices_Equal___blindstamp_api_Quota_blindstamp_api_Quota__4 : List Item := (findLoop 4 400 [.code bd_slices_Equal___blindstamp_api_Quota_blindstamp_api_Quota_]).getD []
def lv_slices_Equal___blindstamp_api_Quota_blindstamp_api_Quota_ : Nat → Option (List Nat) := fun i => cond (Nat.beq i 4) (some [13, 1, 0, 12]) (none)
def cu_slices_Equal___blindstamp_api_Quota_blindstamp_api_Quota_ : Nat → Bool := fun i => false
def VC_slices_Equal___blindstamp_api_Quota_blindstamp_api_Quota_ (g : Nat → AV) (x0 x1 : AV) (H : Heap) (Q : AV → Heap → Prop) : Prop :=
  doQ (qBuiltin env.P false (Heap.get H) (⟨0, 7, Heap.gen H 0 7, 0⟩ : Ref) .len #[31] [x0]) fun v1 =>
  doQ (qBuiltin env.P false (Heap.get H) (⟨0, 9, Heap.gen H 0 9, 0⟩ : Ref) .len #[31] [x1]) fun v2 =>
  doQ (qBin env.P .neq 3 (.tmp 7) (.tmp 9) (some v1) (some v2)) fun v3 =>
  br (some v3) (
   Q (.v (.bool false)) H) (
   doQ (qBuiltin env.P false (Heap.get H) (⟨0, 12, Heap.gen H 0 12, 0⟩ : Ref) .len #[31] [x0]) fun v4 =>
   GoL env Try.f61 0 hd_slices_Equal___blindstamp_api_Quota_blindstamp_api_Quota__4 [(13, (.v (.int .i64 0))), (1, x1), (0, x0), (12, v4)] H Q)
theorem vq_slices_Equal___blindstamp_api_Quota_blindstamp_api_Quota_ : VC_slices_Equal___blindstamp_api_Quota_blindstamp_api_Quota_ = fun g x0 x1 H Q => wp env Try.f61 none 0 lv_slices_Equal___blindstamp_api_Quota_blindstamp_api_Quota_ cu_slices_Equal___blindstamp_api_Quota_blindstamp_api_Quota_ Q 500 [.code bd_slices_Equal___blindstamp_api_Quota_blindstamp_api_Quota_] (ofL g [(0, x0), (1, x1)]) H := by kernel_rfl
theorem vc_slices_Equal___blindstamp_api_Quota_blindstamp_api_Quota_ (x0 x1 : AV) (H : Heap) (Q : AV → Heap → Prop) (h : ∀ g, VC_slices_Equal___blindstamp_api_Quota_blindstamp_api_Quota_ g x0 x1 H Q) : GoL env Try.f61 0 [.code bd_slices_Equal___blindstamp_api_Quota_blindstamp_api_Quota_] [(0, x0), (1, x1)] H Q := ⟨fun g => wp_ok (by have h := h g; rw [vq_slices_Equal___blindstamp_api_Quota_blindstamp_api_Quota_] at h; exact h)⟩
def VC_slices_Equal___blindstamp_api_Quota_blindstamp_api_Quota__4 (g : Nat → AV) (x13 x1 x0 x12 : AV) (H : Heap) (Q : AV → Heap → Prop) : Prop :=
  doQ (qBin env.P .lss 3 (.tmp 13) (.tmp 12) (some x13) (some x12)) fun v1 =>
  br (some v1) (
   doQ (qIndexAddr env.P (Heap.get H) 31 (some x0) (some x13)) fun v2 =>
   doQ (qLoad env.P (Heap.get H) 26 (some v2)) fun v3 =>
   doQ (qIndexAddr env.P (Heap.get H) 31 (some x1) (some x13)) fun v4 =>
   doQ (qLoad env.P (Heap.get H) 26 (some v4)) fun v5 =>
   doQ (qBin env.P .neq 26 (.tmp 19) (.tmp 23) (some v3) (some v5)) fun v6 =>
   br (some v6) (
    Q (.v (.bool false)) H) (
    doQ (qBin env.P .add 3 (.tmp 13) (.const (.int .i64 1)) (some x13) (some (.v (.int .i64 1)))) fun v7 =>
    GoL env Try.f61 0 hd_slices_Equal___blindstamp_api_Quota_blindstamp_api_Quota__4 [(13, v7), (1, x1), (0, x0), (12, x12)] H Q)) (
   Q (.v (.bool true)) H)
theorem vq_slices_Equal___blindstamp_api_Quota_blindstamp_api_Quota__4 : VC_slices_Equal___blindstamp_api_Quota_blindstamp_api_Quota__4 = fun g x13 x1 x0 x12 H Q => wp env Try.f61 none 0 lv_slices_Equal___blindstamp_api_Quota_blindstamp_api_Quota_ cu_slices_Equal___blindstamp_api_Quota_blindstamp_api_Quota_ Q 500 (bodyOf hd_slices_Equal___blindstamp_api_Quota_blindstamp_api_Quota__4) (ofL g [(13, x13), (1, x1), (0, x0), (12, x12)]) H := by kernel_rfl
theorem vc_slices_Equal___blindstamp_api_Quota_blindstamp_api_Quota__4 (x13 x1 x0 x12 : AV) (H : Heap) (Q : AV → Heap → Prop) (h : ∀ g, VC_slices_Equal___blindstamp_api_Quota_blindstamp_api_Quota__4 g x13 x1 x0 x12 H Q) : GoL env Try.f61 0 hd_slices_Equal___blindstamp_api_Quota_blindstamp_api_Quota__4 [(13, x13), (1, x1), (0, x0), (12, x12)] H Q := goL_body fun g => wp_ok (by have h := h g; rw [vq_slices_Equal___blindstamp_api_Quota_blindstamp_api_Quota__4] at h; exact h)

/- ids_PutHandle -/
noncomputable def bd_ids_PutHandle : Code := (Try.f62.body).getD .skip
def lv_ids_PutHandle : Nat → Option (List Nat) := fun i => none
def cu_ids_PutHandle : Nat → Bool := fun i => false
def VC_ids_PutHandle (g : Nat → AV) (x0 : AV) (H : Heap) (Q : AV → Heap → Prop) : Prop :=
  doW (nRes H (⟨0, 1, Heap.gen H 0 1, 0⟩ : Ref) (qBox env.P (⟨0, 1, Heap.gen H 0 1, 0⟩ : Ref) 104 (some x0))) fun v1 H1 =>
  doQ (qLoad env.P (Heap.get H1) 104 (some v1)) fun v2 =>
  doW (callRes env true (limf env) (limt env 0) H1 (⟨0, 6, Heap.gen H1 0 6, 0⟩ : Ref) (some (.fn (.func 76) [] [])) [v2]) fun v3 H2 =>
  doQ (qBin env.P .neq 27 (.tmp 7) (.const (.int .i64 0)) (some v3) (some (.v (.int .i64 0)))) fun v4 =>
  br (some v4) (
   Q (.tup [(.v (.slice none 0 0)), v3]) H2) (
   doQ (qFieldAddr env.P 104 (some v1) 0) fun v5 =>
   doQ (qFieldAddr env.P 24 (some v5) 0) fun v6 =>
   doQ (qLoad env.P (Heap.get H2) 5 (some v6)) fun v7 =>
   doW (bsRes env.P true false H2 (⟨0, 13, Heap.gen H2 0 13, 0⟩ : Ref) 60 1 (some [(0, v7)])) fun v8 H3 =>
   doQ (qFieldAddr env.P 104 (some v1) 0) fun v9 =>
   doQ (qFieldAddr env.P 24 (some v9) 1) fun v10 =>
   doQ (qLoad env.P (Heap.get H3) 22 (some v10)) fun v11 =>
   doQ (qConvert env.P (Heap.get H3) (⟨0, 17, Heap.gen H3 0 17, 0⟩ : Ref) 22 3 (some v11)) fun v12 =>
   doW (callRes env false (limf env) (limt env 0) H3 (⟨0, 18, Heap.gen H3 0 18, 0⟩ : Ref) (some (.fn (.func 77) [] [])) [v12, (.v (.int .i64 4))]) fun v13 H4 =>
   doW (appRes env.P false H4 (⟨0, 19, Heap.gen H4 0 19, 0⟩ : Ref) (some 60) (some 60) v8 v13) fun v14 H5 =>
   doQ (qFieldAddr env.P 104 (some v1) 1) fun v15 =>
   doQ (qLoad env.P (Heap.get H5) 5 (some v15)) fun v16 =>
   doW (bsRes env.P true false H5 (⟨0, 22, Heap.gen H5 0 22, 0⟩ : Ref) 60 1 (some [(0, v16)])) fun v17 H6 =>
   doW (appRes env.P true H6 (⟨0, 23, Heap.gen H6 0 23, 0⟩ : Ref) (some 60) (some 60) v14 v17) fun v18 H7 =>
   Q (.tup [v18, (.v (.int .i64 0))]) H7)
theorem vq_ids_PutHandle : VC_ids_PutHandle = fun g x0 H Q => wp env Try.f62 none 0 lv_ids_PutHandle cu_ids_PutHandle Q 500 [.code bd_ids_PutHandle] (ofL g [(0, x0)]) H := by kernel_rfl
theorem vc_ids_PutHandle (x0 : AV) (H : Heap) (Q : AV → Heap → Prop) (h : ∀ g, VC_ids_PutHandle g x0 H Q) : GoL env Try.f62 0 [.code bd_ids_PutHandle] [(0, x0)] H Q := ⟨fun g => wp_ok (by have h := h g; rw [vq_ids_PutHandle] at h; exact h)⟩

/- blindstampref07_May -/
noncomputable def bd_blindstampref07_May : Code := (Try.f63.body).getD .skip
def lv_blindstampref07_May : Nat → Option (List Nat) := fun i => none
def cu_blindstampref07_May : Nat → Bool := fun i => false
def VC_blindstampref07_May (g : Nat → AV) (x0 : AV) (H : Heap) (Q : AV → Heap → Prop) : Prop :=
  doW (nRes H (⟨0, 1, Heap.gen H 0 1, 0⟩ : Ref) (qBox env.P (⟨0, 1, Heap.gen H 0 1, 0⟩ : Ref) 59 (some x0))) fun v1 H1 =>
  doQ (qFieldAddr env.P 59 (some v1) 0) fun v2 =>
  doQ (qLoad env.P (Heap.get H1) 3 (some v2)) fun v3 =>
  doQ (qBin env.P .geq 3 (.tmp 4) (.const (.int .i64 0)) (some v3) (some (.v (.int .i64 0)))) fun v4 =>
  gQ v4 true (qFieldAddr env.P 59 (some v1) 0) fun v5 =>
  gQ v4 true (qLoad env.P (Heap.get H1) 3 (some v5)) fun v6 =>
  gQ v4 true (qBin env.P .lss 3 (.tmp 8) (.const (.int .i64 8)) (some v6) (some (.v (.int .i64 8)))) fun v7 =>
  doQ (pickF (some v4) (some v7) (some (.v (.bool false)))) fun v8 =>
  gQ v8 true (qFieldAddr env.P 59 (some v1) 1) fun v9 =>
  gQ v8 true (qLoad env.P (Heap.get H1) 39 (some v9)) fun v10 =>
  gW v8 true H1 (callRes env true (limf env) (limt env 0) H1 (⟨0, 14, Heap.gen H1 0 14, 0⟩ : Ref) (some (.fn (.func 72) [] [])) [v10]) fun v11 H2 =>
  doQ (pickF (some v8) (some v11) (some (.v (.bool false)))) fun v12 =>
  Q v12 H2
theorem vq_blindstampref07_May : VC_blindstampref07_May = fun g x0 H Q => wp env Try.f63 none 0 lv_blindstampref07_May cu_blindstampref07_May Q 500 [.code bd_blindstampref07_May] (ofL g [(0, x0)]) H := by kernel_rfl
theorem vc_blindstampref07_May (x0 : AV) (H : Heap) (Q : AV → Heap → Prop) (h : ∀ g, VC_blindstampref07_May g x0 H Q) : GoL env Try.f63 0 [.code bd_blindstampref07_May] [(0, x0)] H Q := ⟨fun g => wp_ok (by have h := h g; rw [vq_blindstampref07_May] at h; exact h)⟩

/- blindstampref07_Bytes -/
noncomputable def bd_blindstampref07_Bytes : Code := (Try.f64.body).getD .skip
def lv_blindstampref07_Bytes : Nat → Option (List Nat) := fun i => none
def cu_blindstampref07_Bytes : Nat → Bool := fun i => false
def VC_blindstampref07_Bytes (g : Nat → AV) (x0 : AV) (H : Heap) (Q : AV → Heap → Prop) : Prop :=
  doW (nRes H (⟨0, 1, Heap.gen H 0 1, 0⟩ : Ref) (qBox env.P (⟨0, 1, Heap.gen H 0 1, 0⟩ : Ref) 59 (some x0))) fun v1 H1 =>
  doQ (qFieldAddr env.P 59 (some v1) 0) fun v2 =>
  doQ (qLoad env.P (Heap.get H1) 3 (some v2)) fun v3 =>
  doQ (qConvert env.P (Heap.get H1) (⟨0, 6, Heap.gen H1 0 6, 0⟩ : Ref) 3 5 (some v3)) fun v4 =>
  doW (bsRes env.P false true H1 (⟨0, 7, Heap.gen H1 0 7, 0⟩ : Ref) 60 2 (some [(0, v4), (1, (a8 0))])) fun v5 H2 =>
  doQ (qFieldAddr env.P 59 (some v1) 1) fun v6 =>
  doQ (qFieldAddr env.P 39 (some v6) 1) fun v7 =>
  doQ (qLoad env.P (Heap.get H2) 4 (some v7)) fun v8 =>
  br (some v8) (
   doQ (qIndexAddr env.P (Heap.get H2) 60 (some v5) (some (.v (.int .i64 1)))) fun v9 =>
   doW (wStore env.P H2 5 (some v9) (some (a8 1))) fun v10 H3 =>
   doQ (qFieldAddr env.P 59 (some v1) 1) fun v11 =>
   doQ (qFieldAddr env.P 39 (some v11) 0) fun v12 =>
   doQ (qLoad env.P (Heap.get H3) 24 (some v12)) fun v13 =>
   doQ (qBuild env.P 104 (some [(0, v13)])) fun v14 =>
   doW (callRes env true (limf env) (limt env 0) H3 (⟨0, 18, Heap.gen H3 0 18, 0⟩ : Ref) (some (.fn (.func 78) [] [])) [v14]) fun v15 H4 =>
   doQ (qSlice env.P (Heap.get H4) 60 (some v15) (some none) (oi (.v (.int .i64 5))) (some none)) fun v16 =>
   doW (appRes env.P true H4 (⟨0, 20, Heap.gen H4 0 20, 0⟩ : Ref) (some 60) (some 60) v5 v16) fun v17 H5 =>
   Q v17 H5) (
   doQ (qFieldAddr env.P 59 (some v1) 1) fun v9 =>
   doQ (qFieldAddr env.P 39 (some v9) 0) fun v10 =>
   doQ (qLoad env.P (Heap.get H2) 24 (some v10)) fun v11 =>
   doQ (qBuild env.P 104 (some [(0, v11)])) fun v12 =>
   doW (callRes env true (limf env) (limt env 0) H2 (⟨0, 18, Heap.gen H2 0 18, 0⟩ : Ref) (some (.fn (.func 78) [] [])) [v12]) fun v13 H3 =>
   doQ (qSlice env.P (Heap.get H3) 60 (some v13) (some none) (oi (.v (.int .i64 5))) (some none)) fun v14 =>
   doW (appRes env.P true H3 (⟨0, 20, Heap.gen H3 0 20, 0⟩ : Ref) (some 60) (some 60) v5 v14) fun v15 H4 =>
   Q v15 H4)
theorem vq_blindstampref07_Bytes : VC_blindstampref07_Bytes = fun g x0 H Q => wp env Try.f64 none 0 lv_blindstampref07_Bytes cu_blindstampref07_Bytes Q 500 [.code bd_blindstampref07_Bytes] (ofL g [(0, x0)]) H := by kernel_rfl
theorem vc_blindstampref07_Bytes (x0 : AV) (H : Heap) (Q : AV → Heap → Prop) (h : ∀ g, VC_blindstampref07_Bytes g x0 H Q) : GoL env Try.f64 0 [.code bd_blindstampref07_Bytes] [(0, x0)] H Q := ⟨fun g => wp_ok (by have h := h g; rw [vq_blindstampref07_Bytes] at h; exact h)⟩

/- ids_GetHandle -/
noncomputable def bd_ids_GetHandle : Code := (Try.f65.body).getD .skip
def lv_ids_GetHandle : Nat → Option (List Nat) := fun i => none
def cu_ids_GetHandle : Nat → Bool := fun i => false
def VC_ids_GetHandle (g : Nat → AV) (x0 : AV) (H : Heap) (Q : AV → Heap → Prop) : Prop :=
  doW (nRes H (⟨0, 2, Heap.gen H 0 2, 0⟩ : Ref) (qAlloc env.P (⟨0, 2, Heap.gen H 0 2, 0⟩ : Ref) 104)) fun v1 H1 =>
  doQ (qBuiltin env.P false (Heap.get H1) (⟨0, 6, Heap.gen H1 0 6, 0⟩ : Ref) .len #[60] [x0]) fun v2 =>
  doQ (qBin env.P .neq 3 (.tmp 6) (.const (.int .i64 6)) (some v2) (some (.v (.int .i64 6)))) fun v3 =>
  br (some v3) (
   doQ (qBuild env.P 104 (some [])) fun v4 =>
   doW (wStore env.P H1 104 (some v1) (some v4)) fun v5 H2 =>
   doQ (readCell env.P H2 v1 104) fun v6 =>
   Q (.tup [v6, (.v (.int .i64 8))]) H2) (
   doW (callRes env true (limf env) (limt env 0) H1 (⟨0, 10, Heap.gen H1 0 10, 0⟩ : Ref) (some (.fn (.func 79) [] [])) [x0]) fun v4 H2 =>
   doW (nRes H2 (⟨0, 4, Heap.gen H2 0 4, 0⟩ : Ref) (qAlloc env.P (⟨0, 4, Heap.gen H2 0 4, 0⟩ : Ref) 120)) fun v5 H3 =>
   doW (wStore env.P H3 120 (some v5) (some v4)) fun v6 H4 =>
   doQ (qFieldAddr env.P 120 (some v5) 1) fun v7 =>
   doQ (qLoad env.P (Heap.get H4) 27 (some v7)) fun v8 =>
   doQ (qBin env.P .neq 27 (.tmp 12) (.const (.int .i64 0)) (some v8) (some (.v (.int .i64 0)))) fun v9 =>
   br (some v9) (
    doQ (qBuild env.P 104 (some [])) fun v10 =>
    doQ (qFieldAddr env.P 120 (some v5) 1) fun v11 =>
    doQ (qLoad env.P (Heap.get H4) 27 (some v11)) fun v12 =>
    doW (wStore env.P H4 104 (some v1) (some v10)) fun v13 H5 =>
    apartV [(v11, v1)] [v1] [] H5 ∧
    (doQ (readCell env.P H5 v1 104) fun v14 =>
    Q (.tup [v14, v12]) H5)) (
    doQ (qFieldAddr env.P 120 (some v5) 0) fun v10 =>
    doQ (qLoad env.P (Heap.get H4) 104 (some v10)) fun v11 =>
    doW (wStore env.P H4 104 (some v1) (some v11)) fun v12 H5 =>
    doQ (readCell env.P H5 v1 104) fun v13 =>
    Q (.tup [v13, (.v (.int .i64 0))]) H5))
theorem vq_ids_GetHandle : VC_ids_GetHandle = fun g x0 H Q => wp env Try.f65 none 0 lv_ids_GetHandle cu_ids_GetHandle Q 500 [.code bd_ids_GetHandle] (ofL g [(0, x0)]) H := by kernel_rfl
theorem vc_ids_GetHandle (x0 : AV) (H : Heap) (Q : AV → Heap → Prop) (h : ∀ g, VC_ids_GetHandle g x0 H Q) : GoL env Try.f65 0 [.code bd_ids_GetHandle] [(0, x0)] H Q := ⟨fun g => wp_ok (by have h := h g; rw [vq_ids_GetHandle] at h; exact h)⟩

/- grant_apply -/
noncomputable def bd_grant_apply : Code := (Try.f66.body).getD .skip
def lv_grant_apply : Nat → Option (List Nat) := fun i => none
def cu_grant_apply : Nat → Bool := fun i => false
def VC_grant_apply (g : Nat → AV) (x0 x1 : AV) (H : Heap) (Q : AV → Heap → Prop) : Prop :=
  doW (nRes H (⟨0, 2, Heap.gen H 0 2, 0⟩ : Ref) (qBox env.P (⟨0, 2, Heap.gen H 0 2, 0⟩ : Ref) 33 (some x0))) fun v1 H1 =>
  doW (nRes H1 (⟨0, 3, Heap.gen H1 0 3, 0⟩ : Ref) (qBox env.P (⟨0, 3, Heap.gen H1 0 3, 0⟩ : Ref) 59 (some x1))) fun v2 H2 =>
  doQ (qFieldAddr env.P 59 (some v2) 0) fun v3 =>
  doQ (qLoad env.P (Heap.get H2) 3 (some v3)) fun v4 =>
  doQ (qFieldAddr env.P 33 (some v1) 0) fun v5 =>
  doQ (qLoad env.P (Heap.get H2) 30 (some v5)) fun v6 =>
  doQ (qBuiltin env.P false (Heap.get H2) (⟨0, 10, Heap.gen H2 0 10, 0⟩ : Ref) .len #[30] [v6]) fun v7 =>
  doQ (qBin env.P .geq 3 (.tmp 7) (.tmp 10) (some v4) (some v7)) fun v8 =>
  br (some v8) (
   doQ (qIface env.P 27 (some (.v (.int .i64 2)))) fun v9 =>
   Q v9 H2) (
   doQ (qFieldAddr env.P 33 (some v1) 2) fun v9 =>
   doQ (qLoad env.P (Heap.get H2) 3 (some v9)) fun v10 =>
   doQ (qBin env.P .eql 3 (.tmp 15) (.const (.int .i64 0)) (some v10) (some (.v (.int .i64 0)))) fun v11 =>
   br (some v11) (
    doQ (qIface env.P 27 (some (.v (.int .i64 9)))) fun v12 =>
    Q v12 H2) (
    doQ (qLoad env.P (Heap.get H2) 33 (some v1)) fun v12 =>
    doW (callRes env true (limf env) (limt env 0) H2 (⟨0, 19, Heap.gen H2 0 19, 0⟩ : Ref) (some (.fn (.func 26) [] [])) [v12]) fun v13 H3 =>
    doW (wStore env.P H3 33 (some v1) (some v13)) fun v14 H4 =>
    doQ (qFieldAddr env.P 33 (some v1) 0) fun v15 =>
    doQ (qLoad env.P (Heap.get H4) 30 (some v15)) fun v16 =>
    doQ (qFieldAddr env.P 59 (some v2) 0) fun v17 =>
    doQ (qLoad env.P (Heap.get H4) 3 (some v17)) fun v18 =>
    doQ (qFieldAddr env.P 59 (some v2) 1) fun v19 =>
    doQ (qLoad env.P (Heap.get H4) 39 (some v19)) fun v20 =>
    doQ (qIndexAddr env.P (Heap.get H4) 30 (some v16) (some v18)) fun v21 =>
    doW (wStore env.P H4 39 (some v21) (some v20)) fun v22 H5 =>
    doQ (qFieldAddr env.P 33 (some v1) 2) fun v23 =>
    doQ (qLoad env.P (Heap.get H5) 3 (some v23)) fun v24 =>
    doQ (qBin env.P .sub 3 (.tmp 28) (.const (.int .i64 1)) (some v24) (some (.v (.int .i64 1)))) fun v25 =>
    doQ (qFieldAddr env.P 33 (some v1) 2) fun v26 =>
    doW (wStore env.P H5 3 (some v26) (some v25)) fun v27 H6 =>
    doQ (qLoad env.P (Heap.get H6) 33 (some v1)) fun v28 =>
    doQ (qIface env.P 33 (some v28)) fun v29 =>
    Q v29 H6))
theorem vq_grant_apply : VC_grant_apply = fun g x0 x1 H Q => wp env Try.f66 none 0 lv_grant_apply cu_grant_apply Q 500 [.code bd_grant_apply] (ofL g [(0, x0), (1, x1)]) H := by kernel_rfl
theorem vc_grant_apply (x0 x1 : AV) (H : Heap) (Q : AV → Heap → Prop) (h : ∀ g, VC_grant_apply g x0 x1 H Q) : GoL env Try.f66 0 [.code bd_grant_apply] [(0, x0), (1, x1)] H Q := ⟨fun g => wp_ok (by have h := h g; rw [vq_grant_apply] at h; exact h)⟩

/- blindstampref07_Behind -/
noncomputable def bd_blindstampref07_Behind : Code := (Try.f67.body).getD .skip
def lv_blindstampref07_Behind : Nat → Option (List Nat) := fun i => none
def cu_blindstampref07_Behind : Nat → Bool := fun i => false
def VC_blindstampref07_Behind (g : Nat → AV) (x0 x1 : AV) (H : Heap) (Q : AV → Heap → Prop) : Prop :=
  doW (nRes H (⟨0, 2, Heap.gen H 0 2, 0⟩ : Ref) (qBox env.P (⟨0, 2, Heap.gen H 0 2, 0⟩ : Ref) 33 (some x0))) fun v1 H1 =>
  doW (nRes H1 (⟨0, 3, Heap.gen H1 0 3, 0⟩ : Ref) (qBox env.P (⟨0, 3, Heap.gen H1 0 3, 0⟩ : Ref) 59 (some x1))) fun v2 H2 =>
  doW (nRes H2 (⟨0, 4, Heap.gen H2 0 4, 0⟩ : Ref) (qAlloc env.P (⟨0, 4, Heap.gen H2 0 4, 0⟩ : Ref) 33)) fun v3 H3 =>
  doQ (qFieldAddr env.P 59 (some v2) 0) fun v4 =>
  doQ (qLoad env.P (Heap.get H3) 3 (some v4)) fun v5 =>
  doQ (qFieldAddr env.P 33 (some v1) 0) fun v6 =>
  doQ (qLoad env.P (Heap.get H3) 30 (some v6)) fun v7 =>
  doQ (qBuiltin env.P false (Heap.get H3) (⟨0, 10, Heap.gen H3 0 10, 0⟩ : Ref) .len #[30] [v7]) fun v8 =>
  doQ (qBin env.P .geq 3 (.tmp 7) (.tmp 10) (some v5) (some v8)) fun v9 =>
  br (some v9) (
   doQ (qLoad env.P (Heap.get H3) 33 (some v1)) fun v10 =>
   doW (wStore env.P H3 33 (some v3) (some v10)) fun v11 H4 =>
   doQ (readCell env.P H4 v3 33) fun v12 =>
   Q (.tup [v12, (.v (.int .i64 2))]) H4) (
   doQ (qFieldAddr env.P 33 (some v1) 2) fun v10 =>
   doQ (qLoad env.P (Heap.get H3) 3 (some v10)) fun v11 =>
   doQ (qBin env.P .eql 3 (.tmp 14) (.const (.int .i64 0)) (some v11) (some (.v (.int .i64 0)))) fun v12 =>
   br (some v12) (
    doQ (qLoad env.P (Heap.get H3) 33 (some v1)) fun v13 =>
    doW (wStore env.P H3 33 (some v3) (some v13)) fun v14 H4 =>
    doQ (readCell env.P H4 v3 33) fun v15 =>
    Q (.tup [v15, (.v (.int .i64 9))]) H4) (
    doQ (qLoad env.P (Heap.get H3) 33 (some v1)) fun v13 =>
    doW (callRes env true (limf env) (limt env 0) H3 (⟨0, 18, Heap.gen H3 0 18, 0⟩ : Ref) (some (.fn (.func 20) [] [])) [v13]) fun v14 H4 =>
    doW (wStore env.P H4 33 (some v1) (some v14)) fun v15 H5 =>
    doQ (qFieldAddr env.P 33 (some v1) 0) fun v16 =>
    doQ (qLoad env.P (Heap.get H5) 30 (some v16)) fun v17 =>
    doQ (qFieldAddr env.P 59 (some v2) 0) fun v18 =>
    doQ (qLoad env.P (Heap.get H5) 3 (some v18)) fun v19 =>
    doQ (qFieldAddr env.P 59 (some v2) 1) fun v20 =>
    doQ (qLoad env.P (Heap.get H5) 39 (some v20)) fun v21 =>
    doQ (qIndexAddr env.P (Heap.get H5) 30 (some v17) (some v19)) fun v22 =>
    doW (wStore env.P H5 39 (some v22) (some v21)) fun v23 H6 =>
    doQ (qFieldAddr env.P 33 (some v1) 2) fun v24 =>
    doQ (qLoad env.P (Heap.get H6) 3 (some v24)) fun v25 =>
    doQ (qBin env.P .sub 3 (.tmp 27) (.const (.int .i64 1)) (some v25) (some (.v (.int .i64 1)))) fun v26 =>
    doQ (qFieldAddr env.P 33 (some v1) 2) fun v27 =>
    doW (wStore env.P H6 3 (some v27) (some v26)) fun v28 H7 =>
    doQ (qLoad env.P (Heap.get H7) 33 (some v1)) fun v29 =>
    doW (wStore env.P H7 33 (some v3) (some v29)) fun v30 H8 =>
    doQ (readCell env.P H8 v3 33) fun v31 =>
    Q (.tup [v31, (.v (.int .i64 0))]) H8))
theorem vq_blindstampref07_Behind : VC_blindstampref07_Behind = fun g x0 x1 H Q => wp env Try.f67 none 0 lv_blindstampref07_Behind cu_blindstampref07_Behind Q 500 [.code bd_blindstampref07_Behind] (ofL g [(0, x0), (1, x1)]) H := by kernel_rfl
theorem vc_blindstampref07_Behind (x0 x1 : AV) (H : Heap) (Q : AV → Heap → Prop) (h : ∀ g, VC_blindstampref07_Behind g x0 x1 H Q) : GoL env Try.f67 0 [.code bd_blindstampref07_Behind] [(0, x0), (1, x1)] H Q := ⟨fun g => wp_ok (by have h := h g; rw [vq_blindstampref07_Behind] at h; exact h)⟩

/- label_Least -/
noncomputable def bd_label_Least : Code := (Try.f68.body).getD .skip
def lv_label_Least : Nat → Option (List Nat) := fun i => none
def cu_label_Least : Nat → Bool := fun i => false
def VC_label_Least (g : Nat → AV) (H : Heap) (Q : AV → Heap → Prop) : Prop :=
  doW (nRes H (⟨0, 0, Heap.gen H 0 0, 0⟩ : Ref) (qAlloc env.P (⟨0, 0, Heap.gen H 0 0, 0⟩ : Ref) 24)) fun v1 H1 =>
  doQ (qBuild env.P 24 (some [])) fun v2 =>
  doW (wStore env.P H1 24 (some v1) (some v2)) fun v3 H2 =>
  doQ (readCell env.P H2 v1 24) fun v4 =>
  Q v4 H2
theorem vq_label_Least : VC_label_Least = fun g  H Q => wp env Try.f68 none 0 lv_label_Least cu_label_Least Q 500 [.code bd_label_Least] (ofL g []) H := by kernel_rfl
theorem vc_label_Least (H : Heap) (Q : AV → Heap → Prop) (h : ∀ g, VC_label_Least g  H Q) : GoL env Try.f68 0 [.code bd_label_Least] [] H Q := ⟨fun g => wp_ok (by have h := h g; rw [vq_label_Least] at h; exact h)⟩

/- slices_IndexFunc___blindstamp_api_Quota_blindstamp_api_Quota_ -/
noncomputable def bd_slices_IndexFunc___blindstamp_api_Quota_blindstamp_api_Quota_ : Code := (Try.f69.body).getD .skip
noncomputable def hd_slices_IndexFunc___blindstamp_api_Quota_blindstamp_api_Quota__2 : List Item := (findLoop 2 400 [.code bd_slices_IndexFunc___blindstamp_api_Quota_blindstamp_api_Quota_]).getD []
def lv_slices_IndexFunc___blindstamp_api_Quota_blindstamp_api_Quota_ : Nat → Option (List Nat) := fun i => cond (Nat.beq i 2) (some [8, 0, 1, 7]) (none)
def cu_slices_IndexFunc___blindstamp_api_Quota_blindstamp_api_Quota_ : Nat → Bool := fun i => false
def VC_slices_IndexFunc___blindstamp_api_Quota_blindstamp_api_Quota_ (g : Nat → AV) (x0 x1 : AV) (H : Heap) (Q : AV → Heap → Prop) : Prop :=
  doQ (qBuiltin env.P false (Heap.get H) (⟨0, 7, Heap.gen H 0 7, 0⟩ : Ref) .len #[31] [x0]) fun v1 =>
  GoL env Try.f69 0 hd_slices_IndexFunc___blindstamp_api_Quota_blindstamp_api_Quota__2 [(8, (.v (.int .i64 0))), (0, x0), (1, x1), (7, v1)] H Q
theorem vq_slices_IndexFunc___blindstamp_api_Quota_blindstamp_api_Quota_ : VC_slices_IndexFunc___blindstamp_api_Quota_blindstamp_api_Quota_ = fun g x0 x1 H Q => wp env Try.f69 none 0 lv_slices_IndexFunc___blindstamp_api_Quota_blindstamp_api_Quota_ cu_slices_IndexFunc___blindstamp_api_Quota_blindstamp_api_Quota_ Q 500 [.code bd_slices_IndexFunc___blindstamp_api_Quota_blindstamp_api_Quota_] (ofL g [(0, x0), (1, x1)]) H := by kernel_rfl
theorem vc_slices_IndexFunc___blindstamp_api_Quota_blindstamp_api_Quota_ (x0 x1 : AV) (H : Heap) (Q : AV → Heap → Prop) (h : ∀ g, VC_slices_IndexFunc___blindstamp_api_Quota_blindstamp_api_Quota_ g x0 x1 H Q) : GoL env Try.f69 0 [.code bd_slices_IndexFunc___blindstamp_api_Quota_blindstamp_api_Quota_] [(0, x0), (1, x1)] H Q := ⟨fun g => wp_ok (by have h := h g; rw [vq_slices_IndexFunc___blindstamp_api_Quota_blindstamp_api_Quota_] at h; exact h)⟩
def VC_slices_IndexFunc___blindstamp_api_Quota_blindstamp_api_Quota__2 (g : Nat → AV) (x8 x0 x1 x7 : AV) (H : Heap) (Q : AV → Heap → Prop) : Prop :=
  doQ (qBin env.P .lss 3 (.tmp 8) (.tmp 7) (some x8) (some x7)) fun v1 =>
  br (some v1) (
   doQ (qIndexAddr env.P (Heap.get H) 31 (some x0) (some x8)) fun v2 =>
   doQ (qLoad env.P (Heap.get H) 26 (some v2)) fun v3 =>
   doW (callRes env true (limf env) (limt env 0) H (⟨0, 16, Heap.gen H 0 16, 0⟩ : Ref) (some x1) [v3]) fun v4 H1 =>
   br (some v4) (
    Q x8 H1) (
    doQ (qBin env.P .add 3 (.tmp 8) (.const (.int .i64 1)) (some x8) (some (.v (.int .i64 1)))) fun v5 =>
    GoL env Try.f69 0 hd_slices_IndexFunc___blindstamp_api_Quota_blindstamp_api_Quota__2 [(8, v5), (0, x0), (1, x1), (7, x7)] H1 Q)) (
   Q (.v (.int .i64 (-1))) H)
theorem vq_slices_IndexFunc___blindstamp_api_Quota_blindstamp_api_Quota__2 : VC_slices_IndexFunc___blindstamp_api_Quota_blindstamp_api_Quota__2 = fun g x8 x0 x1 x7 H Q => wp env Try.f69 none 0 lv_slices_IndexFunc___blindstamp_api_Quota_blindstamp_api_Quota_ cu_slices_IndexFunc___blindstamp_api_Quota_blindstamp_api_Quota_ Q 500 (bodyOf hd_slices_IndexFunc___blindstamp_api_Quota_blindstamp_api_Quota__2) (ofL g [(8, x8), (0, x0), (1, x1), (7, x7)]) H := by kernel_rfl
theorem vc_slices_IndexFunc___blindstamp_api_Quota_blindstamp_api_Quota__2 (x8 x0 x1 x7 : AV) (H : Heap) (Q : AV → Heap → Prop) (h : ∀ g, VC_slices_IndexFunc___blindstamp_api_Quota_blindstamp_api_Quota__2 g x8 x0 x1 x7 H Q) : GoL env Try.f69 0 hd_slices_IndexFunc___blindstamp_api_Quota_blindstamp_api_Quota__2 [(8, x8), (0, x0), (1, x1), (7, x7)] H Q := goL_body fun g => wp_ok (by have h := h g; rw [vq_slices_IndexFunc___blindstamp_api_Quota_blindstamp_api_Quota__2] at h; exact h)

/- policy_find_blindstamp_api_Quota_blindstamp_api_Label_F1 -/
noncomputable def bd_policy_find_blindstamp_api_Quota_blindstamp_api_Label_F1 : Code := (Try.f70.body).getD .skip
def lv_policy_find_blindstamp_api_Quota_blindstamp_api_Label_F1 : Nat → Option (List Nat) := fun i => none
def cu_policy_find_blindstamp_api_Quota_blindstamp_api_Label_F1 : Nat → Bool := fun i => false
def VC_policy_find_blindstamp_api_Quota_blindstamp_api_Label_F1 (g : Nat → AV) (x0 x1 x2 : AV) (H : Heap) (Q : AV → Heap → Prop) : Prop :=
  doW (nRes H (⟨0, 3, Heap.gen H 0 3, 0⟩ : Ref) (qBox env.P (⟨0, 3, Heap.gen H 0 3, 0⟩ : Ref) 26 (some x0))) fun v1 H1 =>
  doQ (qLoad env.P (Heap.get H1) 89 (some x1)) fun v2 =>
  doQ (qLoad env.P (Heap.get H1) 26 (some v1)) fun v3 =>
  doW (callRes env false (limf env) (limt env 0) H1 (⟨0, 7, Heap.gen H1 0 7, 0⟩ : Ref) (some v2) [v3]) fun v4 H2 =>
  doQ (qLoad env.P (Heap.get H2) 24 (some x2)) fun v5 =>
  doQ (qBin env.P .eql 24 (.tmp 7) (.tmp 8) (some v4) (some v5)) fun v6 =>
  Q v6 H2
theorem vq_policy_find_blindstamp_api_Quota_blindstamp_api_Label_F1 : VC_policy_find_blindstamp_api_Quota_blindstamp_api_Label_F1 = fun g x0 x1 x2 H Q => wp env Try.f70 none 0 lv_policy_find_blindstamp_api_Quota_blindstamp_api_Label_F1 cu_policy_find_blindstamp_api_Quota_blindstamp_api_Label_F1 Q 500 [.code bd_policy_find_blindstamp_api_Quota_blindstamp_api_Label_F1] (ofL g [(0, x0), (1, x1), (2, x2)]) H := by kernel_rfl
theorem vc_policy_find_blindstamp_api_Quota_blindstamp_api_Label_F1 (x0 x1 x2 : AV) (H : Heap) (Q : AV → Heap → Prop) (h : ∀ g, VC_policy_find_blindstamp_api_Quota_blindstamp_api_Label_F1 g x0 x1 x2 H Q) : GoL env Try.f70 0 [.code bd_policy_find_blindstamp_api_Quota_blindstamp_api_Label_F1] [(0, x0), (1, x1), (2, x2)] H Q := ⟨fun g => wp_ok (by have h := h g; rw [vq_policy_find_blindstamp_api_Quota_blindstamp_api_Label_F1] at h; exact h)⟩

/- slices_Contains___bool_bool_ -/
noncomputable def bd_slices_Contains___bool_bool_ : Code := (Try.f71.body).getD .skip
def lv_slices_Contains___bool_bool_ : Nat → Option (List Nat) := fun i => none
def cu_slices_Contains___bool_bool_ : Nat → Bool := fun i => false
def VC_slices_Contains___bool_bool_ (g : Nat → AV) (x0 x1 : AV) (H : Heap) (Q : AV → Heap → Prop) : Prop :=
  doW (callRes env true (limf env) (limt env 0) H (⟨0, 7, Heap.gen H 0 7, 0⟩ : Ref) (some (.fn (.func 80) [] [])) [x0, x1]) fun v1 H1 =>
  doQ (qBin env.P .geq 3 (.tmp 7) (.const (.int .i64 0)) (some v1) (some (.v (.int .i64 0)))) fun v2 =>
  Q v2 H1
theorem vq_slices_Contains___bool_bool_ : VC_slices_Contains___bool_bool_ = fun g x0 x1 H Q => wp env Try.f71 none 0 lv_slices_Contains___bool_bool_ cu_slices_Contains___bool_bool_ Q 500 [.code bd_slices_Contains___bool_bool_] (ofL g [(0, x0), (1, x1)]) H := by kernel_rfl
theorem vc_slices_Contains___bool_bool_ (x0 x1 : AV) (H : Heap) (Q : AV → Heap → Prop) (h : ∀ g, VC_slices_Contains___bool_bool_ g x0 x1 H Q) : GoL env Try.f71 0 [.code bd_slices_Contains___bool_bool_] [(0, x0), (1, x1)] H Q := ⟨fun g => wp_ok (by have h := h g; rw [vq_slices_Contains___bool_bool_] at h; exact h)⟩

/- blindstampref06_MayClear -/
noncomputable def bd_blindstampref06_MayClear : Code := (Try.f72.body).getD .skip
def lv_blindstampref06_MayClear : Nat → Option (List Nat) := fun i => none
def cu_blindstampref06_MayClear : Nat → Bool := fun i => false
def VC_blindstampref06_MayClear (g : Nat → AV) (x0 : AV) (H : Heap) (Q : AV → Heap → Prop) : Prop :=
  doW (nRes H (⟨0, 1, Heap.gen H 0 1, 0⟩ : Ref) (qBox env.P (⟨0, 1, Heap.gen H 0 1, 0⟩ : Ref) 39 (some x0))) fun v1 H1 =>
  doQ (qFieldAddr env.P 39 (some v1) 0) fun v2 =>
  doQ (qLoad env.P (Heap.get H1) 24 (some v2)) fun v3 =>
  doW (callRes env true (limf env) (limt env 0) H1 (⟨0, 5, Heap.gen H1 0 5, 0⟩ : Ref) (some (.fn (.func 55) [] [])) [v3]) fun v4 H2 =>
  gQ v4 true (qFieldAddr env.P 39 (some v1) 1) fun v5 =>
  gQ v4 true (qLoad env.P (Heap.get H2) 4 (some v5)) fun v6 =>
  gQ v4 true (qVal (some v6)) fun v7 =>
  gQ v7 false (qFieldAddr env.P 39 (some v1) 0) fun v8 =>
  gQ v7 false (qLoad env.P (Heap.get H2) 24 (some v8)) fun v9 =>
  gQ v7 false (qBuild env.P 24 (some [])) fun v10 =>
  gQ v7 false (qBin env.P .eql 24 (.tmp 11) (.tmp 12) (some v9) (some v10)) fun v11 =>
  gQ v4 true (pickF (some v7) (some (.v (.bool true))) (some v11)) fun v12 =>
  doQ (pickF (some v4) (some v12) (some (.v (.bool false)))) fun v13 =>
  Q v13 H2
theorem vq_blindstampref06_MayClear : VC_blindstampref06_MayClear = fun g x0 H Q => wp env Try.f72 none 0 lv_blindstampref06_MayClear cu_blindstampref06_MayClear Q 500 [.code bd_blindstampref06_MayClear] (ofL g [(0, x0)]) H := by kernel_rfl
theorem vc_blindstampref06_MayClear (x0 : AV) (H : Heap) (Q : AV → Heap → Prop) (h : ∀ g, VC_blindstampref06_MayClear g x0 H Q) : GoL env Try.f72 0 [.code bd_blindstampref06_MayClear] [(0, x0)] H Q := ⟨fun g => wp_ok (by have h := h g; rw [vq_blindstampref06_MayClear] at h; exact h)⟩

/- blindstampref06_one -/
noncomputable def bd_blindstampref06_one : Code := (Try.f73.body).getD .skip
def lv_blindstampref06_one : Nat → Option (List Nat) := fun i => none
def cu_blindstampref06_one : Nat → Bool := fun i => false
def VC_blindstampref06_one (g : Nat → AV) (x0 : AV) (H : Heap) (Q : AV → Heap → Prop) : Prop :=
  doW (nRes H (⟨0, 1, Heap.gen H 0 1, 0⟩ : Ref) (qBox env.P (⟨0, 1, Heap.gen H 0 1, 0⟩ : Ref) 26 (some x0))) fun v1 H1 =>
  doQ (qFieldAddr env.P 26 (some v1) 0) fun v2 =>
  doQ (qLoad env.P (Heap.get H1) 24 (some v2)) fun v3 =>
  doW (callRes env true (limf env) (limt env 0) H1 (⟨0, 5, Heap.gen H1 0 5, 0⟩ : Ref) (some (.fn (.func 55) [] [])) [v3]) fun v4 H2 =>
  gQ v4 true (qFieldAddr env.P 26 (some v1) 1) fun v5 =>
  gQ v4 true (qLoad env.P (Heap.get H2) 3 (some v5)) fun v6 =>
  gQ v4 true (qBin env.P .geq 3 (.tmp 8) (.const (.int .i64 0)) (some v6) (some (.v (.int .i64 0)))) fun v7 =>
  doQ (pickF (some v4) (some v7) (some (.v (.bool false)))) fun v8 =>
  gQ v8 true (qFieldAddr env.P 26 (some v1) 1) fun v9 =>
  gQ v8 true (qLoad env.P (Heap.get H2) 3 (some v9)) fun v10 =>
  gQ v8 true (qBin env.P .leq 3 (.tmp 13) (.const (.int .i64 64)) (some v10) (some (.v (.int .i64 64)))) fun v11 =>
  doQ (pickF (some v8) (some v11) (some (.v (.bool false)))) fun v12 =>
  gQ v12 true (qFieldAddr env.P 26 (some v1) 2) fun v13 =>
  gQ v12 true (qLoad env.P (Heap.get H2) 3 (some v13)) fun v14 =>
  gQ v12 true (qBin env.P .geq 3 (.tmp 18) (.const (.int .i64 0)) (some v14) (some (.v (.int .i64 0)))) fun v15 =>
  doQ (pickF (some v12) (some v15) (some (.v (.bool false)))) fun v16 =>
  gQ v16 true (qFieldAddr env.P 26 (some v1) 2) fun v17 =>
  gQ v16 true (qLoad env.P (Heap.get H2) 3 (some v17)) fun v18 =>
  gQ v16 true (qBin env.P .leq 3 (.tmp 23) (.const (.int .i64 256)) (some v18) (some (.v (.int .i64 256)))) fun v19 =>
  doQ (pickF (some v16) (some v19) (some (.v (.bool false)))) fun v20 =>
  gQ v20 true (qFieldAddr env.P 26 (some v1) 3) fun v21 =>
  gQ v20 true (qLoad env.P (Heap.get H2) 3 (some v21)) fun v22 =>
  gQ v20 true (qBin env.P .geq 3 (.tmp 28) (.const (.int .i64 0)) (some v22) (some (.v (.int .i64 0)))) fun v23 =>
  doQ (pickF (some v20) (some v23) (some (.v (.bool false)))) fun v24 =>
  gQ v24 true (qFieldAddr env.P 26 (some v1) 3) fun v25 =>
  gQ v24 true (qLoad env.P (Heap.get H2) 3 (some v25)) fun v26 =>
  gQ v24 true (qBin env.P .leq 3 (.tmp 33) (.const (.int .i64 4096)) (some v26) (some (.v (.int .i64 4096)))) fun v27 =>
  doQ (pickF (some v24) (some v27) (some (.v (.bool false)))) fun v28 =>
  Q v28 H2
theorem vq_blindstampref06_one : VC_blindstampref06_one = fun g x0 H Q => wp env Try.f73 none 0 lv_blindstampref06_one cu_blindstampref06_one Q 500 [.code bd_blindstampref06_one] (ofL g [(0, x0)]) H := by kernel_rfl
theorem vc_blindstampref06_one (x0 : AV) (H : Heap) (Q : AV → Heap → Prop) (h : ∀ g, VC_blindstampref06_one g x0 H Q) : GoL env Try.f73 0 [.code bd_blindstampref06_one] [(0, x0)] H Q := ⟨fun g => wp_ok (by have h := h g; rw [vq_blindstampref06_one] at h; exact h)⟩

/- blindstampref01_Ahead -/
noncomputable def bd_blindstampref01_Ahead : Code := (Try.f74.body).getD .skip
def lv_blindstampref01_Ahead : Nat → Option (List Nat) := fun i => none
def cu_blindstampref01_Ahead : Nat → Bool := fun i => false
def VC_blindstampref01_Ahead (g : Nat → AV) (x0 x1 : AV) (H : Heap) (Q : AV → Heap → Prop) : Prop :=
  doW (nRes H (⟨0, 2, Heap.gen H 0 2, 0⟩ : Ref) (qBox env.P (⟨0, 2, Heap.gen H 0 2, 0⟩ : Ref) 24 (some x0))) fun v1 H1 =>
  doW (nRes H1 (⟨0, 3, Heap.gen H1 0 3, 0⟩ : Ref) (qBox env.P (⟨0, 3, Heap.gen H1 0 3, 0⟩ : Ref) 24 (some x1))) fun v2 H2 =>
  doQ (qFieldAddr env.P 24 (some v1) 0) fun v3 =>
  doQ (qLoad env.P (Heap.get H2) 5 (some v3)) fun v4 =>
  doQ (qConvert env.P (Heap.get H2) (⟨0, 7, Heap.gen H2 0 7, 0⟩ : Ref) 5 3 (some v4)) fun v5 =>
  doQ (qBin env.P .mul 3 (.tmp 7) (.const (.int .i64 4294967296)) (some v5) (some (.v (.int .i64 4294967296)))) fun v6 =>
  doQ (qFieldAddr env.P 24 (some v1) 1) fun v7 =>
  doQ (qLoad env.P (Heap.get H2) 22 (some v7)) fun v8 =>
  doQ (qConvert env.P (Heap.get H2) (⟨0, 11, Heap.gen H2 0 11, 0⟩ : Ref) 22 3 (some v8)) fun v9 =>
  doQ (qBin env.P .add 3 (.tmp 8) (.tmp 11) (some v6) (some v9)) fun v10 =>
  doQ (qFieldAddr env.P 24 (some v2) 0) fun v11 =>
  doQ (qLoad env.P (Heap.get H2) 5 (some v11)) fun v12 =>
  doQ (qConvert env.P (Heap.get H2) (⟨0, 15, Heap.gen H2 0 15, 0⟩ : Ref) 5 3 (some v12)) fun v13 =>
  doQ (qBin env.P .mul 3 (.tmp 15) (.const (.int .i64 4294967296)) (some v13) (some (.v (.int .i64 4294967296)))) fun v14 =>
  doQ (qFieldAddr env.P 24 (some v2) 1) fun v15 =>
  doQ (qLoad env.P (Heap.get H2) 22 (some v15)) fun v16 =>
  doQ (qConvert env.P (Heap.get H2) (⟨0, 19, Heap.gen H2 0 19, 0⟩ : Ref) 22 3 (some v16)) fun v17 =>
  doQ (qBin env.P .add 3 (.tmp 16) (.tmp 19) (some v14) (some v17)) fun v18 =>
  doQ (qBin env.P .lss 3 (.tmp 12) (.tmp 20) (some v10) (some v18)) fun v19 =>
  Q v19 H2
theorem vq_blindstampref01_Ahead : VC_blindstampref01_Ahead = fun g x0 x1 H Q => wp env Try.f74 none 0 lv_blindstampref01_Ahead cu_blindstampref01_Ahead Q 500 [.code bd_blindstampref01_Ahead] (ofL g [(0, x0), (1, x1)]) H := by kernel_rfl
theorem vc_blindstampref01_Ahead (x0 x1 : AV) (H : Heap) (Q : AV → Heap → Prop) (h : ∀ g, VC_blindstampref01_Ahead g x0 x1 H Q) : GoL env Try.f74 0 [.code bd_blindstampref01_Ahead] [(0, x0), (1, x1)] H Q := ⟨fun g => wp_ok (by have h := h g; rw [vq_blindstampref01_Ahead] at h; exact h)⟩

/- blindstampref01_Leq -/
noncomputable def bd_blindstampref01_Leq : Code := (Try.f75.body).getD .skip
noncomputable def hd_blindstampref01_Leq_2 : List Item := (findLoop 2 400 [.code bd_blindstampref01_Leq]).getD []
def lv_blindstampref01_Leq : Nat → Option (List Nat) := fun i => cond (Nat.beq i 2) (some [5, 3, 2]) (none)
def cu_blindstampref01_Leq : Nat → Bool := fun i => false
def VC_blindstampref01_Leq (g : Nat → AV) (x0 x1 : AV) (H : Heap) (Q : AV → Heap → Prop) : Prop :=
  doW (nRes H (⟨0, 2, Heap.gen H 0 2, 0⟩ : Ref) (qBox env.P (⟨0, 2, Heap.gen H 0 2, 0⟩ : Ref) 24 (some x0))) fun v1 H1 =>
  doW (nRes H1 (⟨0, 3, Heap.gen H1 0 3, 0⟩ : Ref) (qBox env.P (⟨0, 3, Heap.gen H1 0 3, 0⟩ : Ref) 24 (some x1))) fun v2 H2 =>
  GoL env Try.f75 0 hd_blindstampref01_Leq_2 [(5, (.v (.int .i64 0))), (3, v2), (2, v1)] H2 Q
theorem vq_blindstampref01_Leq : VC_blindstampref01_Leq = fun g x0 x1 H Q => wp env Try.f75 none 0 lv_blindstampref01_Leq cu_blindstampref01_Leq Q 500 [.code bd_blindstampref01_Leq] (ofL g [(0, x0), (1, x1)]) H := by kernel_rfl
theorem vc_blindstampref01_Leq (x0 x1 : AV) (H : Heap) (Q : AV → Heap → Prop) (h : ∀ g, VC_blindstampref01_Leq g x0 x1 H Q) : GoL env Try.f75 0 [.code bd_blindstampref01_Leq] [(0, x0), (1, x1)] H Q := ⟨fun g => wp_ok (by have h := h g; rw [vq_blindstampref01_Leq] at h; exact h)⟩
def VC_blindstampref01_Leq_2 (g : Nat → AV) (x5 x3 x2 : AV) (H : Heap) (Q : AV → Heap → Prop) : Prop :=
  doQ (qBin env.P .lss 3 (.tmp 6) (.const (.int .i64 32)) (some x5) (some (.v (.int .i64 32)))) fun v1 =>
  br (some v1) (
   doQ (qLoad env.P (Heap.get H) 24 (some x2)) fun v2 =>
   doW (callRes env true (limf env) (limt env 0) H (⟨0, 12, Heap.gen H 0 12, 0⟩ : Ref) (some (.fn (.func 81) [] [])) [v2, x5]) fun v3 H1 =>
   gQ v3 true (qLoad env.P (Heap.get H1) 24 (some x3)) fun v4 =>
   gQ v3 true (qVal (some x5)) fun v5 =>
   gW v3 true H1 (callRes env true (limf env) (limt env 0) H1 (⟨0, 16, Heap.gen H1 0 16, 0⟩ : Ref) (some (.fn (.func 81) [] [])) [v4, v5]) fun v6 H2 =>
   gQ v3 true (qUn env.P .not (some v6)) fun v7 =>
   doQ (pickF (some v3) (some v7) (some (.v (.bool false)))) fun v8 =>
   br (some v8) (
    Q (.v (.bool false)) H2) (
    doQ (qBin env.P .add 3 (.tmp 8) (.const (.int .i64 1)) (some x5) (some (.v (.int .i64 1)))) fun v9 =>
    GoL env Try.f75 0 hd_blindstampref01_Leq_2 [(5, v9), (3, x3), (2, x2)] H2 Q)) (
   doQ (qFieldAddr env.P 24 (some x2) 0) fun v2 =>
   doQ (qLoad env.P (Heap.get H) 5 (some v2)) fun v3 =>
   doQ (qFieldAddr env.P 24 (some x3) 0) fun v4 =>
   doQ (qLoad env.P (Heap.get H) 5 (some v4)) fun v5 =>
   doQ (qBin env.P .leq 5 (.tmp 20) (.tmp 22) (some v3) (some v5)) fun v6 =>
   Q v6 H)
theorem vq_blindstampref01_Leq_2 : VC_blindstampref01_Leq_2 = fun g x5 x3 x2 H Q => wp env Try.f75 none 0 lv_blindstampref01_Leq cu_blindstampref01_Leq Q 500 (bodyOf hd_blindstampref01_Leq_2) (ofL g [(5, x5), (3, x3), (2, x2)]) H := by kernel_rfl
theorem vc_blindstampref01_Leq_2 (x5 x3 x2 : AV) (H : Heap) (Q : AV → Heap → Prop) (h : ∀ g, VC_blindstampref01_Leq_2 g x5 x3 x2 H Q) : GoL env Try.f75 0 hd_blindstampref01_Leq_2 [(5, x5), (3, x3), (2, x2)] H Q := goL_body fun g => wp_ok (by have h := h g; rw [vq_blindstampref01_Leq_2] at h; exact h)

/- ids_CheckHandle -/
noncomputable def bd_ids_CheckHandle : Code := (Try.f76.body).getD .skip
def lv_ids_CheckHandle : Nat → Option (List Nat) := fun i => none
def cu_ids_CheckHandle : Nat → Bool := fun i => false
def VC_ids_CheckHandle (g : Nat → AV) (x0 : AV) (H : Heap) (Q : AV → Heap → Prop) : Prop :=
  doW (nRes H (⟨0, 1, Heap.gen H 0 1, 0⟩ : Ref) (qBox env.P (⟨0, 1, Heap.gen H 0 1, 0⟩ : Ref) 104 (some x0))) fun v1 H1 =>
  doQ (qFieldAddr env.P 104 (some v1) 0) fun v2 =>
  doQ (qLoad env.P (Heap.get H1) 24 (some v2)) fun v3 =>
  doW (callRes env true (limf env) (limt env 0) H1 (⟨0, 5, Heap.gen H1 0 5, 0⟩ : Ref) (some (.fn (.func 51) [] [])) [v3]) fun v4 H2 =>
  doQ (qBin env.P .eql 27 (.tmp 5) (.const (.int .i64 0)) (some v4) (some (.v (.int .i64 0)))) fun v5 =>
  gQ v5 true (qFieldAddr env.P 104 (some v1) 1) fun v6 =>
  gQ v5 true (qLoad env.P (Heap.get H2) 5 (some v6)) fun v7 =>
  gQ v5 true (qBin env.P .lss 5 (.tmp 9) (.const (.int .u8 8)) (some v7) (some (a8 8))) fun v8 =>
  doQ (pickF (some v5) (some v8) (some (.v (.bool false)))) fun v9 =>
  doW (callRes env true (limf env) (limt env 0) H2 (⟨0, 12, Heap.gen H2 0 12, 0⟩ : Ref) (some (.fn (.func 82) [] [])) [v9]) fun v10 H3 =>
  Q v10 H3
theorem vq_ids_CheckHandle : VC_ids_CheckHandle = fun g x0 H Q => wp env Try.f76 none 0 lv_ids_CheckHandle cu_ids_CheckHandle Q 500 [.code bd_ids_CheckHandle] (ofL g [(0, x0)]) H := by kernel_rfl
theorem vc_ids_CheckHandle (x0 : AV) (H : Heap) (Q : AV → Heap → Prop) (h : ∀ g, VC_ids_CheckHandle g x0 H Q) : GoL env Try.f76 0 [.code bd_ids_CheckHandle] [(0, x0)] H Q := ⟨fun g => wp_ok (by have h := h g; rw [vq_ids_CheckHandle] at h; exact h)⟩

/- ids_number -/
noncomputable def bd_ids_number : Code := (Try.f77.body).getD .skip
noncomputable def hd_ids_number_2 : List Item := (findLoop 2 400 [.code bd_ids_number]).getD []
def lv_ids_number : Nat → Option (List Nat) := fun i => cond (Nat.beq i 2) (some [5, 0, 4]) (none)
def cu_ids_number : Nat → Bool := fun i => false
def VC_ids_number (g : Nat → AV) (x0 x1 : AV) (H : Heap) (Q : AV → Heap → Prop) : Prop :=
  doQ (qBin env.P .sub 3 (.tmp 6) (.const (.int .i64 1)) (some x1) (some (.v (.int .i64 1)))) fun v1 =>
  GoL env Try.f77 0 hd_ids_number_2 [(5, v1), (0, x0), (4, (.v (.slice none 0 0)))] H Q
theorem vq_ids_number : VC_ids_number = fun g x0 x1 H Q => wp env Try.f77 none 0 lv_ids_number cu_ids_number Q 500 [.code bd_ids_number] (ofL g [(0, x0), (1, x1)]) H := by kernel_rfl
theorem vc_ids_number (x0 x1 : AV) (H : Heap) (Q : AV → Heap → Prop) (h : ∀ g, VC_ids_number g x0 x1 H Q) : GoL env Try.f77 0 [.code bd_ids_number] [(0, x0), (1, x1)] H Q := ⟨fun g => wp_ok (by have h := h g; rw [vq_ids_number] at h; exact h)⟩
def VC_ids_number_2 (g : Nat → AV) (x5 x0 x4 : AV) (H : Heap) (Q : AV → Heap → Prop) : Prop :=
  doQ (qBin env.P .geq 3 (.tmp 8) (.const (.int .i64 0)) (some x5) (some (.v (.int .i64 0)))) fun v1 =>
  br (some v1) (
   doQ (qBin env.P .mul 3 (.const (.int .i64 8)) (.tmp 14) (some (.v (.int .i64 8))) (some x5)) fun v2 =>
   doQ (qBin env.P .shr 3 (.tmp 13) (.tmp 15) (some x0) (some v2)) fun v3 =>
   doQ (qConvert env.P (Heap.get H) (⟨0, 17, Heap.gen H 0 17, 0⟩ : Ref) 3 5 (some v3)) fun v4 =>
   doW (bsRes env.P false true H (⟨0, 18, Heap.gen H 0 18, 0⟩ : Ref) 60 1 (some [(0, v4)])) fun v5 H1 =>
   doW (appRes env.P true H1 (⟨0, 19, Heap.gen H1 0 19, 0⟩ : Ref) (some 60) (some 60) x4 v5) fun v6 H2 =>
   doQ (qBin env.P .sub 3 (.tmp 10) (.const (.int .i64 1)) (some x5) (some (.v (.int .i64 1)))) fun v7 =>
   GoL env Try.f77 0 hd_ids_number_2 [(5, v7), (0, x0), (4, v6)] H2 Q) (
   Q x4 H)
theorem vq_ids_number_2 : VC_ids_number_2 = fun g x5 x0 x4 H Q => wp env Try.f77 none 0 lv_ids_number cu_ids_number Q 500 (bodyOf hd_ids_number_2) (ofL g [(5, x5), (0, x0), (4, x4)]) H := by kernel_rfl
theorem vc_ids_number_2 (x5 x0 x4 : AV) (H : Heap) (Q : AV → Heap → Prop) (h : ∀ g, VC_ids_number_2 g x5 x0 x4 H Q) : GoL env Try.f77 0 hd_ids_number_2 [(5, x5), (0, x0), (4, x4)] H Q := goL_body fun g => wp_ok (by have h := h g; rw [vq_ids_number_2] at h; exact h)

/- blindstampref05_Named -/
noncomputable def bd_blindstampref05_Named : Code := (Try.f78.body).getD .skip
def lv_blindstampref05_Named : Nat → Option (List Nat) := fun i => none
def cu_blindstampref05_Named : Nat → Bool := fun i => false
def VC_blindstampref05_Named (g : Nat → AV) (x0 : AV) (H : Heap) (Q : AV → Heap → Prop) : Prop :=
  doW (nRes H (⟨0, 1, Heap.gen H 0 1, 0⟩ : Ref) (qBox env.P (⟨0, 1, Heap.gen H 0 1, 0⟩ : Ref) 104 (some x0))) fun v1 H1 =>
  doQ (qFieldAddr env.P 104 (some v1) 0) fun v2 =>
  doQ (qFieldAddr env.P 24 (some v2) 0) fun v3 =>
  doQ (qLoad env.P (Heap.get H1) 5 (some v3)) fun v4 =>
  doW (bsRes env.P true false H1 (⟨0, 7, Heap.gen H1 0 7, 0⟩ : Ref) 60 1 (some [(0, v4)])) fun v5 H2 =>
  doQ (qFieldAddr env.P 104 (some v1) 0) fun v6 =>
  doQ (qFieldAddr env.P 24 (some v6) 1) fun v7 =>
  doQ (qLoad env.P (Heap.get H2) 22 (some v7)) fun v8 =>
  doQ (qConvert env.P (Heap.get H2) (⟨0, 11, Heap.gen H2 0 11, 0⟩ : Ref) 22 3 (some v8)) fun v9 =>
  doW (callRes env false (limf env) (limt env 0) H2 (⟨0, 12, Heap.gen H2 0 12, 0⟩ : Ref) (some (.fn (.func 83) [] [])) [v9, (.v (.int .i64 4))]) fun v10 H3 =>
  doW (appRes env.P true H3 (⟨0, 13, Heap.gen H3 0 13, 0⟩ : Ref) (some 60) (some 60) v5 v10) fun v11 H4 =>
  doQ (qFieldAddr env.P 104 (some v1) 1) fun v12 =>
  doQ (qLoad env.P (Heap.get H4) 5 (some v12)) fun v13 =>
  doW (bsRes env.P false true H4 (⟨0, 17, Heap.gen H4 0 17, 0⟩ : Ref) 60 1 (some [(0, v13)])) fun v14 H5 =>
  doW (appRes env.P true H5 (⟨0, 18, Heap.gen H5 0 18, 0⟩ : Ref) (some 60) (some 60) v11 v14) fun v15 H6 =>
  Q v15 H6
theorem vq_blindstampref05_Named : VC_blindstampref05_Named = fun g x0 H Q => wp env Try.f78 none 0 lv_blindstampref05_Named cu_blindstampref05_Named Q 500 [.code bd_blindstampref05_Named] (ofL g [(0, x0)]) H := by kernel_rfl
theorem vc_blindstampref05_Named (x0 : AV) (H : Heap) (Q : AV → Heap → Prop) (h : ∀ g, VC_blindstampref05_Named g x0 H Q) : GoL env Try.f78 0 [.code bd_blindstampref05_Named] [(0, x0)] H Q := ⟨fun g => wp_ok (by have h := h g; rw [vq_blindstampref05_Named] at h; exact h)⟩

/- ids_named -/
noncomputable def bd_ids_named : Code := (Try.f79.body).getD .skip
def lv_ids_named : Nat → Option (List Nat) := fun i => none
def cu_ids_named : Nat → Bool := fun i => false
def VC_ids_named (g : Nat → AV) (x0 : AV) (H : Heap) (Q : AV → Heap → Prop) : Prop :=
  doW (nRes H (⟨0, 2, Heap.gen H 0 2, 0⟩ : Ref) (qAlloc env.P (⟨0, 2, Heap.gen H 0 2, 0⟩ : Ref) 120)) fun v1 H1 =>
  doQ (qIndexAddr env.P (Heap.get H1) 60 (some x0) (some (.v (.int .i64 0)))) fun v2 =>
  doQ (qLoad env.P (Heap.get H1) 5 (some v2)) fun v3 =>
  doQ (qSlice env.P (Heap.get H1) 60 (some x0) (oi (.v (.int .i64 1))) (oi (.v (.int .i64 5))) (some none)) fun v4 =>
  doW (callRes env false (limf env) (limt env 0) H1 (⟨0, 9, Heap.gen H1 0 9, 0⟩ : Ref) (some (.fn (.func 84) [] [])) [v4]) fun v5 H2 =>
  doQ (qConvert env.P (Heap.get H2) (⟨0, 10, Heap.gen H2 0 10, 0⟩ : Ref) 3 22 (some v5)) fun v6 =>
  doQ (qBuild env.P 24 (some [(0, v3), (1, v6)])) fun v7 =>
  doQ (qIndexAddr env.P (Heap.get H2) 60 (some x0) (some (.v (.int .i64 5)))) fun v8 =>
  doQ (qLoad env.P (Heap.get H2) 5 (some v8)) fun v9 =>
  doQ (qBuild env.P 104 (some [(0, v7), (1, v9)])) fun v10 =>
  doQ (qBuild env.P 120 (some [(0, v10)])) fun v11 =>
  doW (nRes H2 (⟨0, 3, Heap.gen H2 0 3, 0⟩ : Ref) (qAlloc env.P (⟨0, 3, Heap.gen H2 0 3, 0⟩ : Ref) 120)) fun v12 H3 =>
  doW (wStore env.P H3 120 (some v12) (some v11)) fun v13 H4 =>
  doQ (qFieldAddr env.P 120 (some v12) 0) fun v14 =>
  doQ (qLoad env.P (Heap.get H4) 104 (some v14)) fun v15 =>
  doW (callRes env true (limf env) (limt env 0) H4 (⟨0, 19, Heap.gen H4 0 19, 0⟩ : Ref) (some (.fn (.func 76) [] [])) [v15]) fun v16 H5 =>
  doQ (qFieldAddr env.P 120 (some v12) 1) fun v17 =>
  doW (wStore env.P H5 27 (some v17) (some v16)) fun v18 H6 =>
  doQ (qLoad env.P (Heap.get H6) 120 (some v12)) fun v19 =>
  doW (wStore env.P H6 120 (some v1) (some v19)) fun v20 H7 =>
  doQ (readCell env.P H7 v1 120) fun v21 =>
  Q v21 H7
theorem vq_ids_named : VC_ids_named = fun g x0 H Q => wp env Try.f79 none 0 lv_ids_named cu_ids_named Q 500 [.code bd_ids_named] (ofL g [(0, x0)]) H := by kernel_rfl
theorem vc_ids_named (x0 : AV) (H : Heap) (Q : AV → Heap → Prop) (h : ∀ g, VC_ids_named g x0 H Q) : GoL env Try.f79 0 [.code bd_ids_named] [(0, x0)] H Q := ⟨fun g => wp_ok (by have h := h g; rw [vq_ids_named] at h; exact h)⟩

/- slices_Index___bool_bool_ -/
noncomputable def bd_slices_Index___bool_bool_ : Code := (Try.f80.body).getD .skip
noncomputable def hd_slices_Index___bool_bool__2 : List Item := (findLoop 2 400 [.code bd_slices_Index___bool_bool_]).getD []
def lv_slices_Index___bool_bool_ : Nat → Option (List Nat) := fun i => cond (Nat.beq i 2) (some [8, 0, 1, 7]) (none)
def cu_slices_Index___bool_bool_ : Nat → Bool := fun i => false
def VC_slices_Index___bool_bool_ (g : Nat → AV) (x0 x1 : AV) (H : Heap) (Q : AV → Heap → Prop) : Prop :=
  doQ (qBuiltin env.P false (Heap.get H) (⟨0, 7, Heap.gen H 0 7, 0⟩ : Ref) .len #[114] [x0]) fun v1 =>
  GoL env Try.f80 0 hd_slices_Index___bool_bool__2 [(8, (.v (.int .i64 0))), (0, x0), (1, x1), (7, v1)] H Q
theorem vq_slices_Index___bool_bool_ : VC_slices_Index___bool_bool_ = fun g x0 x1 H Q => wp env Try.f80 none 0 lv_slices_Index___bool_bool_ cu_slices_Index___bool_bool_ Q 500 [.code bd_slices_Index___bool_bool_] (ofL g [(0, x0), (1, x1)]) H := by kernel_rfl
theorem vc_slices_Index___bool_bool_ (x0 x1 : AV) (H : Heap) (Q : AV → Heap → Prop) (h : ∀ g, VC_slices_Index___bool_bool_ g x0 x1 H Q) : GoL env Try.f80 0 [.code bd_slices_Index___bool_bool_] [(0, x0), (1, x1)] H Q := ⟨fun g => wp_ok (by have h := h g; rw [vq_slices_Index___bool_bool_] at h; exact h)⟩
def VC_slices_Index___bool_bool__2 (g : Nat → AV) (x8 x0 x1 x7 : AV) (H : Heap) (Q : AV → Heap → Prop) : Prop :=
  doQ (qBin env.P .lss 3 (.tmp 8) (.tmp 7) (some x8) (some x7)) fun v1 =>
  br (some v1) (
   doQ (qIndexAddr env.P (Heap.get H) 114 (some x0) (some x8)) fun v2 =>
   doQ (qLoad env.P (Heap.get H) 4 (some v2)) fun v3 =>
   doQ (qBin env.P .eql 4 (.tmp 11) (.tmp 15) (some x1) (some v3)) fun v4 =>
   br (some v4) (
    Q x8 H) (
    doQ (qBin env.P .add 3 (.tmp 8) (.const (.int .i64 1)) (some x8) (some (.v (.int .i64 1)))) fun v5 =>
    GoL env Try.f80 0 hd_slices_Index___bool_bool__2 [(8, v5), (0, x0), (1, x1), (7, x7)] H Q)) (
   Q (.v (.int .i64 (-1))) H)
theorem vq_slices_Index___bool_bool__2 : VC_slices_Index___bool_bool__2 = fun g x8 x0 x1 x7 H Q => wp env Try.f80 none 0 lv_slices_Index___bool_bool_ cu_slices_Index___bool_bool_ Q 500 (bodyOf hd_slices_Index___bool_bool__2) (ofL g [(8, x8), (0, x0), (1, x1), (7, x7)]) H := by kernel_rfl
theorem vc_slices_Index___bool_bool__2 (x8 x0 x1 x7 : AV) (H : Heap) (Q : AV → Heap → Prop) (h : ∀ g, VC_slices_Index___bool_bool__2 g x8 x0 x1 x7 H Q) : GoL env Try.f80 0 hd_slices_Index___bool_bool__2 [(8, x8), (0, x0), (1, x1), (7, x7)] H Q := goL_body fun g => wp_ok (by have h := h g; rw [vq_slices_Index___bool_bool__2] at h; exact h)

/- blindstampref01_has -/
noncomputable def bd_blindstampref01_has : Code := (Try.f81.body).getD .skip
def lv_blindstampref01_has : Nat → Option (List Nat) := fun i => none
def cu_blindstampref01_has : Nat → Bool := fun i => false
def VC_blindstampref01_has (g : Nat → AV) (x0 x1 : AV) (H : Heap) (Q : AV → Heap → Prop) : Prop :=
  doW (nRes H (⟨0, 2, Heap.gen H 0 2, 0⟩ : Ref) (qBox env.P (⟨0, 2, Heap.gen H 0 2, 0⟩ : Ref) 24 (some x0))) fun v1 H1 =>
  doQ (qFieldAddr env.P 24 (some v1) 1) fun v2 =>
  doQ (qLoad env.P (Heap.get H1) 22 (some v2)) fun v3 =>
  doQ (qConvert env.P (Heap.get H1) (⟨0, 8, Heap.gen H1 0 8, 0⟩ : Ref) 3 126 (some x1)) fun v4 =>
  doQ (qBin env.P .shr 22 (.tmp 6) (.tmp 8) (some v3) (some v4)) fun v5 =>
  doQ (qBin env.P .rem 22 (.tmp 9) (.const (.int .u32 2)) (some v5) (some (a32 2))) fun v6 =>
  doQ (qBin env.P .eql 22 (.tmp 10) (.const (.int .u32 1)) (some v6) (some (a32 1))) fun v7 =>
  Q v7 H1
theorem vq_blindstampref01_has : VC_blindstampref01_has = fun g x0 x1 H Q => wp env Try.f81 none 0 lv_blindstampref01_has cu_blindstampref01_has Q 500 [.code bd_blindstampref01_has] (ofL g [(0, x0), (1, x1)]) H := by kernel_rfl
theorem vc_blindstampref01_has (x0 x1 : AV) (H : Heap) (Q : AV → Heap → Prop) (h : ∀ g, VC_blindstampref01_has g x0 x1 H Q) : GoL env Try.f81 0 [.code bd_blindstampref01_has] [(0, x0), (1, x1)] H Q := ⟨fun g => wp_ok (by have h := h g; rw [vq_blindstampref01_has] at h; exact h)⟩

/- ids_right -/
noncomputable def bd_ids_right : Code := (Try.f82.body).getD .skip
def lv_ids_right : Nat → Option (List Nat) := fun i => none
def cu_ids_right : Nat → Bool := fun i => false
def VC_ids_right (g : Nat → AV) (x0 : AV) (H : Heap) (Q : AV → Heap → Prop) : Prop :=
  br (some x0) (
   Q (.v (.int .i64 0)) H) (
   Q (.v (.int .i64 8)) H)
theorem vq_ids_right : VC_ids_right = fun g x0 H Q => wp env Try.f82 none 0 lv_ids_right cu_ids_right Q 500 [.code bd_ids_right] (ofL g [(0, x0)]) H := by kernel_rfl
theorem vc_ids_right (x0 : AV) (H : Heap) (Q : AV → Heap → Prop) (h : ∀ g, VC_ids_right g x0 H Q) : GoL env Try.f82 0 [.code bd_ids_right] [(0, x0)] H Q := ⟨fun g => wp_ok (by have h := h g; rw [vq_ids_right] at h; exact h)⟩

/- blindstampref05_wide -/
noncomputable def bd_blindstampref05_wide : Code := (Try.f83.body).getD .skip
noncomputable def hd_blindstampref05_wide_3 : List Item := (findLoop 3 400 [.code bd_blindstampref05_wide]).getD []
def lv_blindstampref05_wide : Nat → Option (List Nat) := fun i => cond (Nat.beq i 3) (some [6, 0, 5, 1]) (none)
def cu_blindstampref05_wide : Nat → Bool := fun i => false
def VC_blindstampref05_wide (g : Nat → AV) (x0 x1 : AV) (H : Heap) (Q : AV → Heap → Prop) : Prop :=
  GoL env Try.f83 0 hd_blindstampref05_wide_3 [(6, (.v (.int .i64 0))), (0, x0), (5, (.v (.slice none 0 0))), (1, x1)] H Q
theorem vq_blindstampref05_wide : VC_blindstampref05_wide = fun g x0 x1 H Q => wp env Try.f83 none 0 lv_blindstampref05_wide cu_blindstampref05_wide Q 500 [.code bd_blindstampref05_wide] (ofL g [(0, x0), (1, x1)]) H := by kernel_rfl
theorem vc_blindstampref05_wide (x0 x1 : AV) (H : Heap) (Q : AV → Heap → Prop) (h : ∀ g, VC_blindstampref05_wide g x0 x1 H Q) : GoL env Try.f83 0 [.code bd_blindstampref05_wide] [(0, x0), (1, x1)] H Q := ⟨fun g => wp_ok (by have h := h g; rw [vq_blindstampref05_wide] at h; exact h)⟩
def VC_blindstampref05_wide_3 (g : Nat → AV) (x6 x0 x5 x1 : AV) (H : Heap) (Q : AV → Heap → Prop) : Prop :=
  doQ (qBin env.P .lss 3 (.tmp 7) (.tmp 8) (some x6) (some x1)) fun v1 =>
  br (some v1) (
   doQ (qBin env.P .rem 3 (.tmp 12) (.const (.int .i64 256)) (some x0) (some (.v (.int .i64 256)))) fun v2 =>
   doQ (qConvert env.P (Heap.get H) (⟨0, 14, Heap.gen H 0 14, 0⟩ : Ref) 3 5 (some v2)) fun v3 =>
   doW (bsRes env.P false true H (⟨0, 15, Heap.gen H 0 15, 0⟩ : Ref) 60 1 (some [(0, v3)])) fun v4 H1 =>
   doW (appRes env.P true H1 (⟨0, 17, Heap.gen H1 0 17, 0⟩ : Ref) (some 60) (some 60) v4 x5) fun v5 H2 =>
   doQ (qBin env.P .quo 3 (.tmp 18) (.const (.int .i64 256)) (some x0) (some (.v (.int .i64 256)))) fun v6 =>
   doQ (qBin env.P .add 3 (.tmp 10) (.const (.int .i64 1)) (some x6) (some (.v (.int .i64 1)))) fun v7 =>
   GoL env Try.f83 0 hd_blindstampref05_wide_3 [(6, v7), (0, v6), (5, v5), (1, x1)] H2 Q) (
   Q x5 H)
theorem vq_blindstampref05_wide_3 : VC_blindstampref05_wide_3 = fun g x6 x0 x5 x1 H Q => wp env Try.f83 none 0 lv_blindstampref05_wide cu_blindstampref05_wide Q 500 (bodyOf hd_blindstampref05_wide_3) (ofL g [(6, x6), (0, x0), (5, x5), (1, x1)]) H := by kernel_rfl
theorem vc_blindstampref05_wide_3 (x6 x0 x5 x1 : AV) (H : Heap) (Q : AV → Heap → Prop) (h : ∀ g, VC_blindstampref05_wide_3 g x6 x0 x5 x1 H Q) : GoL env Try.f83 0 hd_blindstampref05_wide_3 [(6, x6), (0, x0), (5, x5), (1, x1)] H Q := goL_body fun g => wp_ok (by have h := h g; rw [vq_blindstampref05_wide_3] at h; exact h)

/- ids_read -/
noncomputable def bd_ids_read : Code := (Try.f84.body).getD .skip
noncomputable def hd_ids_read_2 : List Item := (findLoop 2 400 [.code bd_ids_read]).getD []
def lv_ids_read : Nat → Option (List Nat) := fun i => cond (Nat.beq i 2) (some [7, 2, 5, 6]) (none)
def cu_ids_read : Nat → Bool := fun i => false
def VC_ids_read (g : Nat → AV) (x0 : AV) (H : Heap) (Q : AV → Heap → Prop) : Prop :=
  doQ (qBuiltin env.P false (Heap.get H) (⟨0, 6, Heap.gen H 0 6, 0⟩ : Ref) .len #[60] [x0]) fun v1 =>
  GoL env Try.f84 0 hd_ids_read_2 [(7, (.v (.int .i64 0))), (2, (.v (.int .i64 0))), (5, x0), (6, v1)] H Q
theorem vq_ids_read : VC_ids_read = fun g x0 H Q => wp env Try.f84 none 0 lv_ids_read cu_ids_read Q 500 [.code bd_ids_read] (ofL g [(0, x0)]) H := by kernel_rfl
theorem vc_ids_read (x0 : AV) (H : Heap) (Q : AV → Heap → Prop) (h : ∀ g, VC_ids_read g x0 H Q) : GoL env Try.f84 0 [.code bd_ids_read] [(0, x0)] H Q := ⟨fun g => wp_ok (by have h := h g; rw [vq_ids_read] at h; exact h)⟩
def VC_ids_read_2 (g : Nat → AV) (x7 x2 x5 x6 : AV) (H : Heap) (Q : AV → Heap → Prop) : Prop :=
  doQ (qBin env.P .lss 3 (.tmp 7) (.tmp 6) (some x7) (some x6)) fun v1 =>
  br (some v1) (
   doQ (qIndexAddr env.P (Heap.get H) 60 (some x5) (some x7)) fun v2 =>
   doQ (qLoad env.P (Heap.get H) 5 (some v2)) fun v3 =>
   doQ (qBin env.P .shl 3 (.tmp 11) (.const (.int .u64 8)) (some x2) (some (.v (.int .u64 8)))) fun v4 =>
   doQ (qConvert env.P (Heap.get H) (⟨0, 14, Heap.gen H 0 14, 0⟩ : Ref) 5 3 (some v3)) fun v5 =>
   doQ (qBin env.P .or 3 (.tmp 12) (.tmp 14) (some v4) (some v5)) fun v6 =>
   doQ (qBin env.P .add 3 (.tmp 7) (.const (.int .i64 1)) (some x7) (some (.v (.int .i64 1)))) fun v7 =>
   GoL env Try.f84 0 hd_ids_read_2 [(7, v7), (2, v6), (5, x5), (6, x6)] H Q) (
   Q x2 H)
theorem vq_ids_read_2 : VC_ids_read_2 = fun g x7 x2 x5 x6 H Q => wp env Try.f84 none 0 lv_ids_read cu_ids_read Q 500 (bodyOf hd_ids_read_2) (ofL g [(7, x7), (2, x2), (5, x5), (6, x6)]) H := by kernel_rfl
theorem vc_ids_read_2 (x7 x2 x5 x6 : AV) (H : Heap) (Q : AV → Heap → Prop) (h : ∀ g, VC_ids_read_2 g x7 x2 x5 x6 H Q) : GoL env Try.f84 0 hd_ids_read_2 [(7, x7), (2, x2), (5, x5), (6, x6)] H Q := goL_body fun g => wp_ok (by have h := h g; rw [vq_ids_read_2] at h; exact h)

end Go.Proofs.Ytgooemdlilfkmaa
