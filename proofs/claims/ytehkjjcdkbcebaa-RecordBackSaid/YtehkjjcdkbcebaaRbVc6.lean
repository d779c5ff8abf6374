/-
  What is to be shown of each function, computed from its code. No statement of a seat is proved here.
-/
import Derived.Test.YtehkjjcdkbcebaaRbTy
set_option linter.unusedVariables false
set_option maxRecDepth 1000000
namespace Go.Proofs.Ytehkjjcdkbcebaa
open Go.Ab
noncomputable def bd_record_Put : Code := (Try.f41.body).getD .skip
noncomputable def rh_record_Put_10008 : List Item := (findRange 10008 400 [.code bd_record_Put]).getD []
noncomputable def ra_record_Put_10008 : Code := rfA rh_record_Put_10008
noncomputable def rb_record_Put_10008 : Code := rfB rh_record_Put_10008
noncomputable def rk_record_Put_10008 : List Item := rfK rh_record_Put_10008
def lv_record_Put : Nat → Option (List Nat) := fun i => cond (Nat.beq i 10008) (some [34, 6, 10, 5, 4]) (none)
def cu_record_Put : Nat → Bool := fun i => false
def VC_record_Put (g : Nat → AV) (x0 x1 x2 : AV) (H : Heap) (Q : AV → Heap → Prop) : Prop :=
 doW (nRes H (⟨0, 3, Heap.gen H 0 3, 0⟩ : Ref) (qBox env.P (⟨0, 3, Heap.gen H 0 3, 0⟩ : Ref) 75 (some x0))) fun v1 H1 =>
 doW (nRes H1 (⟨0, 4, Heap.gen H1 0 4, 0⟩ : Ref) (qBox env.P (⟨0, 4, Heap.gen H1 0 4, 0⟩ : Ref) 3 (some x1))) fun v2 H2 =>
 doW (nRes H2 (⟨0, 5, Heap.gen H2 0 5, 0⟩ : Ref) (qBox env.P (⟨0, 5, Heap.gen H2 0 5, 0⟩ : Ref) 3 (some x2))) fun v3 H3 =>
 doW (nRes H3 (⟨0, 6, Heap.gen H3 0 6, 0⟩ : Ref) (qAlloc env.P (⟨0, 6, Heap.gen H3 0 6, 0⟩ : Ref) 76)) fun v4 H4 =>
 doQ (qLoad env.P (Heap.get H4) 75 (some v1)) fun v5 =>
 doQ (qBuild env.P 136 (some [(0, v5)])) fun v6 =>
 doW (callRes env true (limf env) (limt env 0) H4 (⟨0, 17, Heap.gen H4 0 17, 0⟩ : Ref) (some (.fn (.func 74) [] [])) [v6]) fun v7 H5 =>
 doQ (qExtract (some v7) 0) fun v8 =>
 doQ (qExtract (some v7) 1) fun v9 =>
 doQ (qUn env.P .not (some v9)) fun v10 =>
 br (some v10) (
 doW (wStore env.P H5 76 (some v4) (some (.v (.slice none 0 0)))) fun v11 H6 =>
 doQ (readCell env.P H6 v4 76) fun v12 =>
 Q (.tup [v12, (.v (.int .i64 8))]) H6) (
 doQ (qLoad env.P (Heap.get H5) 75 (some v1)) fun v11 =>
 doW (callRes env true (limf env) (limt env 0) H5 (⟨0, 24, Heap.gen H5 0 24, 0⟩ : Ref) (some (.fn (.func 46) [] [])) [v11]) fun v12 H6 =>
 doQ (qExtract (some v12) 0) fun v13 =>
 doQ (qExtract (some v12) 1) fun v14 =>
 doW (nRes H6 (⟨0, 10, Heap.gen H6 0 10, 0⟩ : Ref) (qAlloc env.P (⟨0, 10, Heap.gen H6 0 10, 0⟩ : Ref) 3)) fun v15 H7 =>
 doW (wStore env.P H7 3 (some v15) (some v13)) fun v16 H8 =>
 doQ (qLoad env.P (Heap.get H8) 3 (some v2)) fun v17 =>
 doQ (qLoad env.P (Heap.get H8) 3 (some v3)) fun v18 =>
 doQ (qLoad env.P (Heap.get H8) 3 (some v15)) fun v19 =>
 doQ (qBuild env.P 80 (some [(0, v17), (1, v18), (3, v19)])) fun v20 =>
 doW (callRes env true (limf env) (limt env 0) H8 (⟨0, 31, Heap.gen H8 0 31, 0⟩ : Ref) (some (.fn (.func 75) [] [])) [v20]) fun v21 H9 =>
 doQ (qUn env.P .not (some v21)) fun v22 =>
 br (some v22) (
 doW (wStore env.P H9 76 (some v4) (some (.v (.slice none 0 0)))) fun v23 H10 =>
 doQ (readCell env.P H10 v4 76) fun v24 =>
 Q (.tup [v24, (.v (.int .i64 2))]) H10) (
 doW (callRes env true (limf env) (limt env 0) H9 (⟨0, 34, Heap.gen H9 0 34, 0⟩ : Ref) (some (.fn (.func 76) [] [])) [v8, (.v (.int .i64 119))]) fun v23 H10 =>
    GoL env Try.f41 0 rh_record_Put_10008 [(34, v23), (6, v4), (10, v15), (5, v3), (4, v2)] H10 Q))
theorem vq_record_Put : VC_record_Put = fun g x0 x1 x2 H Q => wp env Try.f41 none 0 lv_record_Put cu_record_Put Q 500 [.code bd_record_Put] (ofL g [(0, x0), (1, x1), (2, x2)]) H := by kernel_rfl
theorem vc_record_Put (x0 x1 x2 : AV) (H : Heap) (Q : AV → Heap → Prop) (h : ∀ g, VC_record_Put g x0 x1 x2 H Q) : GoL env Try.f41 0 [.code bd_record_Put] [(0, x0), (1, x1), (2, x2)] H Q := ⟨fun g => wp_ok (by have h := h g; rw [vq_record_Put] at h; exact h)⟩
def VC_record_Put_10008K (g : Nat → AV) (x6 : AV) (H : Heap) (Q : AV → Heap → Prop) : Prop :=
 doQ (qLoad env.P (Heap.get H) 76 (some x6)) fun v1 =>
 doW (wStore env.P H 76 (some x6) (some v1)) fun v2 H1 =>
 doQ (readCell env.P H1 x6 76) fun v3 =>
 Q (.tup [v3, (.v (.int .i64 0))]) H1
theorem vq_record_Put_10008K : VC_record_Put_10008K = fun g x6 H Q => wp env Try.f41 none 0 lv_record_Put cu_record_Put Q 500 rk_record_Put_10008 (ofL g [(6, x6)]) H := by kernel_rfl
theorem vc_record_Put_10008K (x6 : AV) (H : Heap) (Q : AV → Heap → Prop) (h : ∀ g, VC_record_Put_10008K g x6 H Q) : GoL env Try.f41 0 rk_record_Put_10008 [(6, x6)] H Q := ⟨fun g => wp_ok (by have h := h g; rw [vq_record_Put_10008K] at h; exact h)⟩
def VC_record_Put_10008 (r : Ref) (g : Nat → AV) (x6 x10 x5 x4 x35 : AV) (H : Heap) (Q : AV → Heap → Prop) : Prop :=
  bgP (lpAt H r) fun i1 =>
 doQ (qLoad env.P (Heap.get (Heap.put H r (some (lpBlk 1 i1)))) 3 (some x4)) fun v2 =>
 doW (callRes env false (limf env) (limt env 2) (Heap.put H r (some (lpBlk 1 i1))) (⟨2, 37, Heap.gen (Heap.put H r (some (lpBlk 1 i1))) 2 37, 0⟩ : Ref) (some (.fn (.func 77) [] [])) [v2, (.v (.int .i64 4))]) fun v3 H1 =>
 doQ (qLoad env.P (Heap.get H1) 3 (some x5)) fun v4 =>
 doW (callRes env false (limf env) (limt env 2) H1 (⟨2, 39, Heap.gen H1 2 39, 0⟩ : Ref) (some (.fn (.func 77) [] [])) [v4, (.v (.int .i64 3))]) fun v5 H2 =>
 doQ (qLoad env.P (Heap.get H2) 76 (some x6)) fun v6 =>
 doQ (qBuiltin env.P false (Heap.get H2) (⟨2, 41, Heap.gen H2 2 41, 0⟩ : Ref) .len #[76] [v6]) fun v7 =>
 doQ (qConvert env.P (Heap.get H2) (⟨2, 42, Heap.gen H2 2 42, 0⟩ : Ref) 3 5 (some v7)) fun v8 =>
 doQ (qLoad env.P (Heap.get H2) 3 (some x10)) fun v9 =>
 doQ (qConvert env.P (Heap.get H2) (⟨2, 44, Heap.gen H2 2 44, 0⟩ : Ref) 3 5 (some v9)) fun v10 =>
 doW (bsRes env.P true false H2 (⟨2, 45, Heap.gen H2 2 45, 0⟩ : Ref) 34 2 (some [(0, v8), (1, v10)])) fun v11 H3 =>
 doW (bsRes env.P true false H3 (⟨2, 47, Heap.gen H3 2 47, 0⟩ : Ref) 76 4 (some [(0, v3), (1, v5), (2, v11), (3, x35)])) fun v12 H4 =>
 doW (callRes env false (limf env) (limt env 2) H4 (⟨2, 48, Heap.gen H4 2 48, 0⟩ : Ref) (some (.fn (.func 53) [] [])) [v12]) fun v13 H5 =>
 doQ (qLoad env.P (Heap.get H5) 76 (some x6)) fun v14 =>
 doQ (qBuiltin env.P false (Heap.get H5) (⟨2, 52, Heap.gen H5 2 52, 0⟩ : Ref) .len #[34] [v13]) fun v15 =>
 doQ (qBin env.P .sub 3 (.const (.int .i64 128)) (.tmp 52) (some (.v (.int .i64 128))) (some v15)) fun v16 =>
 doW (appRes env.P true H5 (⟨2, 54, Heap.gen H5 2 54, 0⟩ : Ref) (some 34) (some 3) v13 v16) fun v17 H6 =>
 doW (bsRes env.P true true H6 (⟨2, 55, Heap.gen H6 2 55, 0⟩ : Ref) 76 1 (some [(0, v17)])) fun v18 H7 =>
 doW (appRes env.P true H7 (⟨2, 56, Heap.gen H7 2 56, 0⟩ : Ref) (some 76) (some 76) v14 v18) fun v19 H8 =>
 doW (wStore env.P H8 76 (some x6) (some v19)) fun v20 H9 =>
  apartV [(x6, v13), (x6, v17)] [x6] [v17] H9 ∧
 (Q (.v (.int .i64 0)) H9)
theorem vq_record_Put_10008 (r : Ref) : VC_record_Put_10008 r = fun g x6 x10 x5 x4 x35 H Q => wp env Try.f41 (some r) 2 lv_record_Put cu_record_Put Q 500 [.code ra_record_Put_10008, .beginRound, .code rb_record_Put_10008] (ofL g [(6, x6), (10, x10), (5, x5), (4, x4), (35, x35)]) H := by kernel_rfl
theorem vc_record_Put_10008 (r : Ref) (x6 x10 x5 x4 x35 : AV) (H : Heap) (Q : AV → Heap → Prop) (h : ∀ g, VC_record_Put_10008 r g x6 x10 x5 x4 x35 H Q) : GoX env Try.f41 (some r) 2 [.code ra_record_Put_10008, .beginRound, .code rb_record_Put_10008] [(6, x6), (10, x10), (5, x5), (4, x4), (35, x35)] H Q := ⟨fun g => wp_ok (by have h := h g; rw [vq_record_Put_10008] at h; exact h)⟩
noncomputable def bd_record_Get : Code := (Try.f42.body).getD .skip
noncomputable def hd_record_Get_8 : List Item := (findLoop 8 400 [.code bd_record_Get]).getD []
def lv_record_Get : Nat → Option (List Nat) := fun i => cond (Nat.beq i 8) (some [29, 5, 27, 2, 3, 0, 28]) (none)
def cu_record_Get : Nat → Bool := fun i => false
def VC_record_Get (g : Nat → AV) (x0 : AV) (H : Heap) (Q : AV → Heap → Prop) : Prop :=
 doW (nRes H (⟨0, 2, Heap.gen H 0 2, 0⟩ : Ref) (qAlloc env.P (⟨0, 2, Heap.gen H 0 2, 0⟩ : Ref) 75)) fun v1 H1 =>
 doW (nRes H1 (⟨0, 3, Heap.gen H1 0 3, 0⟩ : Ref) (qAlloc env.P (⟨0, 3, Heap.gen H1 0 3, 0⟩ : Ref) 80)) fun v2 H2 =>
 doQ (qBuiltin env.P false (Heap.get H2) (⟨0, 11, Heap.gen H2 0 11, 0⟩ : Ref) .len #[76] [x0]) fun v3 =>
 doQ (qBin env.P .eql 3 (.tmp 11) (.const (.int .i64 0)) (some v3) (some (.v (.int .i64 0)))) fun v4 =>
 br (some v4) (
 doQ (qLoad env.P (Heap.get H2) 75 (some v1)) fun v5 =>
 doQ (qLoad env.P (Heap.get H2) 80 (some v2)) fun v6 =>
 doW (wStore env.P H2 75 (some v1) (some v5)) fun v7 H3 =>
 doW (wStore env.P H3 80 (some v2) (some v6)) fun v8 H4 =>
   apartV [(v2, v1)] [v1, v2] [] H4 ∧
 (doQ (readCell env.P H4 v1 75) fun v9 =>
 doQ (readCell env.P H4 v2 80) fun v10 =>
 Q (.tup [v9, v10, (.v (.int .i64 8))]) H4)) (
 doQ (qIndexAddr env.P (Heap.get H2) 76 (some x0) (some (.v (.int .i64 0)))) fun v5 =>
 doQ (qLoad env.P (Heap.get H2) 34 (some v5)) fun v6 =>
 doW (callRes env true (limf env) (limt env 0) H2 (⟨0, 19, Heap.gen H2 0 19, 0⟩ : Ref) (some (.fn (.func 44) [] [])) [v6]) fun v7 H3 =>
 doQ (qExtract (some v7) 0) fun v8 =>
 doQ (qExtract (some v7) 1) fun v9 =>
 doW (wStore env.P H3 80 (some v2) (some v8)) fun v10 H4 =>
 doQ (qBin env.P .neq 36 (.tmp 22) (.const (.int .i64 0)) (some v9) (some (.v (.int .i64 0)))) fun v11 =>
 br (some v11) (
 doQ (qLoad env.P (Heap.get H4) 75 (some v1)) fun v12 =>
 doQ (qBuild env.P 80 (some [])) fun v13 =>
 doW (wStore env.P H4 75 (some v1) (some v12)) fun v14 H5 =>
 doW (wStore env.P H5 80 (some v2) (some v13)) fun v15 H6 =>
 doQ (readCell env.P H6 v1 75) fun v16 =>
 doQ (readCell env.P H6 v2 80) fun v17 =>
 Q (.tup [v16, v17, v9]) H6) (
 doQ (qBuiltin env.P false (Heap.get H4) (⟨0, 28, Heap.gen H4 0 28, 0⟩ : Ref) .len #[76] [x0]) fun v12 =>
    GoL env Try.f42 0 hd_record_Get_8 [(29, (.v (.int .i64 0))), (5, (.v (.slice none 0 0))), (27, x0), (2, v1), (3, v2), (0, x0), (28, v12)] H4 Q))
theorem vq_record_Get : VC_record_Get = fun g x0 H Q => wp env Try.f42 none 0 lv_record_Get cu_record_Get Q 500 [.code bd_record_Get] (ofL g [(0, x0)]) H := by kernel_rfl
theorem vc_record_Get (x0 : AV) (H : Heap) (Q : AV → Heap → Prop) (h : ∀ g, VC_record_Get g x0 H Q) : GoL env Try.f42 0 [.code bd_record_Get] [(0, x0)] H Q := ⟨fun g => wp_ok (by have h := h g; rw [vq_record_Get] at h; exact h)⟩
def VC_record_Get_8 (g : Nat → AV) (x29 x5 x27 x2 x3 x0 x28 : AV) (H : Heap) (Q : AV → Heap → Prop) : Prop :=
 doQ (qBin env.P .lss 3 (.tmp 29) (.tmp 28) (some x29) (some x28)) fun v1 =>
 br (some v1) (
 doQ (qIndexAddr env.P (Heap.get H) 76 (some x27) (some x29)) fun v2 =>
 doQ (qLoad env.P (Heap.get H) 34 (some v2)) fun v3 =>
 doQ (qBuiltin env.P false (Heap.get H) (⟨0, 36, Heap.gen H 0 36, 0⟩ : Ref) .len #[34] [v3]) fun v4 =>
 doQ (qBuiltin env.P false (Heap.get H) (⟨0, 37, Heap.gen H 0 37, 0⟩ : Ref) .min #[3, 3] [v4, (.v (.int .i64 9))]) fun v5 =>
 doQ (qSlice env.P (Heap.get H) 34 (some v3) (oi v5) (some none) (some none)) fun v6 =>
 doW (appRes env.P true H (⟨0, 39, Heap.gen H 0 39, 0⟩ : Ref) (some 34) (some 34) x5 v6) fun v7 H1 =>
 doQ (qBin env.P .add 3 (.tmp 29) (.const (.int .i64 1)) (some x29) (some (.v (.int .i64 1)))) fun v8 =>
   GoL env Try.f42 0 hd_record_Get_8 [(29, v8), (5, v7), (27, x27), (2, x2), (3, x3), (0, x0), (28, x28)] H1 Q) (
 doQ (qBuiltin env.P false (Heap.get H) (⟨0, 42, Heap.gen H 0 42, 0⟩ : Ref) .len #[34] [x5]) fun v2 =>
 doQ (qBin env.P .lss 3 (.tmp 42) (.const (.int .i64 8)) (some v2) (some (.v (.int .i64 8)))) fun v3 =>
 br (some v3) (
 doQ (qLoad env.P (Heap.get H) 75 (some x2)) fun v4 =>
 doQ (qBuild env.P 80 (some [])) fun v5 =>
 doW (wStore env.P H 75 (some x2) (some v4)) fun v6 H1 =>
 doW (wStore env.P H1 80 (some x3) (some v5)) fun v7 H2 =>
 doQ (readCell env.P H2 x2 75) fun v8 =>
 doQ (readCell env.P H2 x3 80) fun v9 =>
 Q (.tup [v8, v9, (.v (.int .i64 8))]) H2) (
 doW (callRes env true (limf env) (limt env 0) H (⟨0, 47, Heap.gen H 0 47, 0⟩ : Ref) (some (.fn (.func 78) [] [])) [x5]) fun v4 H1 =>
 doW (wStore env.P H1 75 (some x2) (some v4)) fun v5 H2 =>
 doQ (qLoad env.P (Heap.get H2) 75 (some x2)) fun v6 =>
 doQ (qFieldAddr env.P 80 (some x3) 0) fun v7 =>
 doQ (qLoad env.P (Heap.get H2) 3 (some v7)) fun v8 =>
 doQ (qFieldAddr env.P 80 (some x3) 1) fun v9 =>
 doQ (qLoad env.P (Heap.get H2) 3 (some v9)) fun v10 =>
 doW (callRes env true (limf env) (limt env 0) H2 (⟨0, 54, Heap.gen H2 0 54, 0⟩ : Ref) (some (.fn (.func 41) [] [])) [v6, v8, v10]) fun v11 H3 =>
 doQ (qExtract (some v11) 0) fun v12 =>
 doQ (qExtract (some v11) 1) fun v13 =>
 doQ (qBin env.P .neq 36 (.tmp 57) (.const (.int .i64 0)) (some v13) (some (.v (.int .i64 0)))) fun v14 =>
 gQ v14 false (qVal (some v12)) fun v15 =>
 gQ v14 false (qVal (some x0)) fun v16 =>
 gW v14 false H3 (callRes env true (limf env) (limt env 0) H3 (⟨0, 62, Heap.gen H3 0 62, 0⟩ : Ref) (some (.fn (.func 79) [] [])) [v15, v16, (.fn (.func 80) [] [])]) fun v17 H4 =>
 gQ v14 false (qUn env.P .not (some v17)) fun v18 =>
 doQ (pickF (some v14) (some (.v (.bool true))) (some v18)) fun v19 =>
 br (some v19) (
 doQ (qBuild env.P 75 (some [])) fun v20 =>
 doQ (qBuild env.P 80 (some [])) fun v21 =>
 doW (wStore env.P H4 75 (some x2) (some v20)) fun v22 H5 =>
 doW (wStore env.P H5 80 (some x3) (some v21)) fun v23 H6 =>
 doQ (readCell env.P H6 x2 75) fun v24 =>
 doQ (readCell env.P H6 x3 80) fun v25 =>
 Q (.tup [v24, v25, (.v (.int .i64 8))]) H6) (
 doQ (qLoad env.P (Heap.get H4) 75 (some x2)) fun v20 =>
 doQ (qLoad env.P (Heap.get H4) 80 (some x3)) fun v21 =>
 doW (wStore env.P H4 75 (some x2) (some v20)) fun v22 H5 =>
 doW (wStore env.P H5 80 (some x3) (some v21)) fun v23 H6 =>
     apartV [(x3, x2)] [x2, x3] [] H6 ∧
 (doQ (readCell env.P H6 x2 75) fun v24 =>
 doQ (readCell env.P H6 x3 80) fun v25 =>
 Q (.tup [v24, v25, (.v (.int .i64 0))]) H6))))
theorem vq_record_Get_8 : VC_record_Get_8 = fun g x29 x5 x27 x2 x3 x0 x28 H Q => wp env Try.f42 none 0 lv_record_Get cu_record_Get Q 500 (bodyOf hd_record_Get_8) (ofL g [(29, x29), (5, x5), (27, x27), (2, x2), (3, x3), (0, x0), (28, x28)]) H := by kernel_rfl
theorem vc_record_Get_8 (x29 x5 x27 x2 x3 x0 x28 : AV) (H : Heap) (Q : AV → Heap → Prop) (h : ∀ g, VC_record_Get_8 g x29 x5 x27 x2 x3 x0 x28 H Q) : GoL env Try.f42 0 hd_record_Get_8 [(29, x29), (5, x5), (27, x27), (2, x2), (3, x3), (0, x0), (28, x28)] H Q := goL_body fun g => wp_ok (by have h := h g; rw [vq_record_Get_8] at h; exact h)
noncomputable def bd_record_Head : Code := (Try.f44.body).getD .skip
def lv_record_Head : Nat → Option (List Nat) := fun i => none
def cu_record_Head : Nat → Bool := fun i => false
def VC_record_Head (g : Nat → AV) (x0 : AV) (H : Heap) (Q : AV → Heap → Prop) : Prop :=
 doW (nRes H (⟨0, 2, Heap.gen H 0 2, 0⟩ : Ref) (qAlloc env.P (⟨0, 2, Heap.gen H 0 2, 0⟩ : Ref) 80)) fun v1 H1 =>
 doQ (qBuiltin env.P false (Heap.get H1) (⟨0, 6, Heap.gen H1 0 6, 0⟩ : Ref) .len #[34] [x0]) fun v2 =>
 doQ (qBin env.P .neq 3 (.tmp 6) (.const (.int .i64 128)) (some v2) (some (.v (.int .i64 128)))) fun v3 =>
 br (some v3) (
 doQ (qBuild env.P 80 (some [])) fun v4 =>
 doW (wStore env.P H1 80 (some v1) (some v4)) fun v5 H2 =>
 doQ (readCell env.P H2 v1 80) fun v6 =>
 Q (.tup [v6, (.v (.int .i64 8))]) H2) (
 doQ (qSlice env.P (Heap.get H1) 34 (some x0) (some none) (oi (.v (.int .i64 4))) (some none)) fun v4 =>
 doW (callRes env false (limf env) (limt env 0) H1 (⟨0, 11, Heap.gen H1 0 11, 0⟩ : Ref) (some (.fn (.func 81) [] [])) [v4]) fun v5 H2 =>
 doQ (qSlice env.P (Heap.get H2) 34 (some x0) (oi (.v (.int .i64 4))) (oi (.v (.int .i64 7))) (some none)) fun v6 =>
 doW (callRes env false (limf env) (limt env 0) H2 (⟨0, 14, Heap.gen H2 0 14, 0⟩ : Ref) (some (.fn (.func 81) [] [])) [v6]) fun v7 H3 =>
 doQ (qIndexAddr env.P (Heap.get H3) 34 (some x0) (some (.v (.int .i64 7)))) fun v8 =>
 doQ (qLoad env.P (Heap.get H3) 5 (some v8)) fun v9 =>
 doQ (qConvert env.P (Heap.get H3) (⟨0, 18, Heap.gen H3 0 18, 0⟩ : Ref) 5 3 (some v9)) fun v10 =>
 doQ (qIndexAddr env.P (Heap.get H3) 34 (some x0) (some (.v (.int .i64 8)))) fun v11 =>
 doQ (qLoad env.P (Heap.get H3) 5 (some v11)) fun v12 =>
 doQ (qConvert env.P (Heap.get H3) (⟨0, 22, Heap.gen H3 0 22, 0⟩ : Ref) 5 3 (some v12)) fun v13 =>
 doQ (qBuild env.P 80 (some [(0, v5), (1, v7), (2, v10), (3, v13)])) fun v14 =>
 doW (nRes H3 (⟨0, 4, Heap.gen H3 0 4, 0⟩ : Ref) (qAlloc env.P (⟨0, 4, Heap.gen H3 0 4, 0⟩ : Ref) 80)) fun v15 H4 =>
 doW (wStore env.P H4 80 (some v15) (some v14)) fun v16 H5 =>
 doQ (qLoad env.P (Heap.get H5) 80 (some v15)) fun v17 =>
 doW (callRes env true (limf env) (limt env 0) H5 (⟨0, 25, Heap.gen H5 0 25, 0⟩ : Ref) (some (.fn (.func 75) [] [])) [v17]) fun v18 H6 =>
 doQ (qUn env.P .not (some v18)) fun v19 =>
 br (some v19) (
 doQ (qBuild env.P 80 (some [])) fun v20 =>
 doW (wStore env.P H6 80 (some v1) (some v20)) fun v21 H7 =>
 doQ (readCell env.P H7 v1 80) fun v22 =>
 Q (.tup [v22, (.v (.int .i64 8))]) H7) (
 doQ (qLoad env.P (Heap.get H6) 80 (some v15)) fun v20 =>
 doW (wStore env.P H6 80 (some v1) (some v20)) fun v21 H7 =>
 doQ (readCell env.P H7 v1 80) fun v22 =>
 Q (.tup [v22, (.v (.int .i64 0))]) H7))
theorem vq_record_Head : VC_record_Head = fun g x0 H Q => wp env Try.f44 none 0 lv_record_Head cu_record_Head Q 500 [.code bd_record_Head] (ofL g [(0, x0)]) H := by kernel_rfl
theorem vc_record_Head (x0 : AV) (H : Heap) (Q : AV → Heap → Prop) (h : ∀ g, VC_record_Head g x0 H Q) : GoL env Try.f44 0 [.code bd_record_Head] [(0, x0)] H Q := ⟨fun g => wp_ok (by have h := h g; rw [vq_record_Head] at h; exact h)⟩
noncomputable def bd_record_may : Code := (Try.f75.body).getD .skip
def lv_record_may : Nat → Option (List Nat) := fun i => none
def cu_record_may : Nat → Bool := fun i => false
def VC_record_may (g : Nat → AV) (x0 : AV) (H : Heap) (Q : AV → Heap → Prop) : Prop :=
 doW (nRes H (⟨0, 1, Heap.gen H 0 1, 0⟩ : Ref) (qBox env.P (⟨0, 1, Heap.gen H 0 1, 0⟩ : Ref) 80 (some x0))) fun v1 H1 =>
 doQ (qFieldAddr env.P 80 (some v1) 0) fun v2 =>
 doQ (qLoad env.P (Heap.get H1) 3 (some v2)) fun v3 =>
 doQ (qBin env.P .geq 3 (.tmp 4) (.const (.int .i64 1)) (some v3) (some (.v (.int .i64 1)))) fun v4 =>
 gQ v4 true (qFieldAddr env.P 80 (some v1) 0) fun v5 =>
 gQ v4 true (qLoad env.P (Heap.get H1) 3 (some v5)) fun v6 =>
 gQ v4 true (qBin env.P .lss 3 (.tmp 8) (.const (.int .i64 2147483648)) (some v6) (some (.v (.int .i64 2147483648)))) fun v7 =>
 doQ (pickF (some v4) (some v7) (some (.v (.bool false)))) fun v8 =>
 gQ v8 true (qFieldAddr env.P 80 (some v1) 1) fun v9 =>
 gQ v8 true (qLoad env.P (Heap.get H1) 3 (some v9)) fun v10 =>
 gQ v8 true (qBin env.P .geq 3 (.tmp 13) (.const (.int .i64 1)) (some v10) (some (.v (.int .i64 1)))) fun v11 =>
 doQ (pickF (some v8) (some v11) (some (.v (.bool false)))) fun v12 =>
 gQ v12 true (qFieldAddr env.P 80 (some v1) 1) fun v13 =>
 gQ v12 true (qLoad env.P (Heap.get H1) 3 (some v13)) fun v14 =>
 gQ v12 true (qBin env.P .lss 3 (.tmp 18) (.const (.int .i64 16777216)) (some v14) (some (.v (.int .i64 16777216)))) fun v15 =>
 doQ (pickF (some v12) (some v15) (some (.v (.bool false)))) fun v16 =>
 gQ v16 true (qFieldAddr env.P 80 (some v1) 3) fun v17 =>
 gQ v16 true (qLoad env.P (Heap.get H1) 3 (some v17)) fun v18 =>
 gQ v16 true (qBin env.P .geq 3 (.tmp 23) (.const (.int .i64 1)) (some v18) (some (.v (.int .i64 1)))) fun v19 =>
 doQ (pickF (some v16) (some v19) (some (.v (.bool false)))) fun v20 =>
 gQ v20 true (qFieldAddr env.P 80 (some v1) 3) fun v21 =>
 gQ v20 true (qLoad env.P (Heap.get H1) 3 (some v21)) fun v22 =>
 gQ v20 true (qBin env.P .leq 3 (.tmp 28) (.const (.int .i64 4)) (some v22) (some (.v (.int .i64 4)))) fun v23 =>
 doQ (pickF (some v20) (some v23) (some (.v (.bool false)))) fun v24 =>
 gQ v24 true (qFieldAddr env.P 80 (some v1) 2) fun v25 =>
 gQ v24 true (qLoad env.P (Heap.get H1) 3 (some v25)) fun v26 =>
 gQ v24 true (qBin env.P .geq 3 (.tmp 33) (.const (.int .i64 0)) (some v26) (some (.v (.int .i64 0)))) fun v27 =>
 doQ (pickF (some v24) (some v27) (some (.v (.bool false)))) fun v28 =>
 gQ v28 true (qFieldAddr env.P 80 (some v1) 2) fun v29 =>
 gQ v28 true (qLoad env.P (Heap.get H1) 3 (some v29)) fun v30 =>
 gQ v28 true (qFieldAddr env.P 80 (some v1) 3) fun v31 =>
 gQ v28 true (qLoad env.P (Heap.get H1) 3 (some v31)) fun v32 =>
 gQ v28 true (qBin env.P .lss 3 (.tmp 38) (.tmp 40) (some v30) (some v32)) fun v33 =>
 doQ (pickF (some v28) (some v33) (some (.v (.bool false)))) fun v34 =>
 Q v34 H1
theorem vq_record_may : VC_record_may = fun g x0 H Q => wp env Try.f75 none 0 lv_record_may cu_record_may Q 500 [.code bd_record_may] (ofL g [(0, x0)]) H := by kernel_rfl
theorem vc_record_may (x0 : AV) (H : Heap) (Q : AV → Heap → Prop) (h : ∀ g, VC_record_may g x0 H Q) : GoL env Try.f75 0 [.code bd_record_may] [(0, x0)] H Q := ⟨fun g => wp_ok (by have h := h g; rw [vq_record_may] at h; exact h)⟩
noncomputable def bd_record_number : Code := (Try.f77.body).getD .skip
noncomputable def hd_record_number_2 : List Item := (findLoop 2 400 [.code bd_record_number]).getD []
def lv_record_number : Nat → Option (List Nat) := fun i => cond (Nat.beq i 2) (some [5, 0, 4]) (none)
def cu_record_number : Nat → Bool := fun i => false
def VC_record_number (g : Nat → AV) (x0 x1 : AV) (H : Heap) (Q : AV → Heap → Prop) : Prop :=
 doQ (qBin env.P .sub 3 (.tmp 6) (.const (.int .i64 1)) (some x1) (some (.v (.int .i64 1)))) fun v1 =>
  GoL env Try.f77 0 hd_record_number_2 [(5, v1), (0, x0), (4, (.v (.slice none 0 0)))] H Q
theorem vq_record_number : VC_record_number = fun g x0 x1 H Q => wp env Try.f77 none 0 lv_record_number cu_record_number Q 500 [.code bd_record_number] (ofL g [(0, x0), (1, x1)]) H := by kernel_rfl
theorem vc_record_number (x0 x1 : AV) (H : Heap) (Q : AV → Heap → Prop) (h : ∀ g, VC_record_number g x0 x1 H Q) : GoL env Try.f77 0 [.code bd_record_number] [(0, x0), (1, x1)] H Q := ⟨fun g => wp_ok (by have h := h g; rw [vq_record_number] at h; exact h)⟩
def VC_record_number_2 (g : Nat → AV) (x5 x0 x4 : AV) (H : Heap) (Q : AV → Heap → Prop) : Prop :=
 doQ (qBin env.P .geq 3 (.tmp 8) (.const (.int .i64 0)) (some x5) (some (.v (.int .i64 0)))) fun v1 =>
 br (some v1) (
 doQ (qBin env.P .mul 3 (.const (.int .i64 8)) (.tmp 14) (some (.v (.int .i64 8))) (some x5)) fun v2 =>
 doQ (qBin env.P .shr 3 (.tmp 13) (.tmp 15) (some x0) (some v2)) fun v3 =>
 doQ (qConvert env.P (Heap.get H) (⟨0, 17, Heap.gen H 0 17, 0⟩ : Ref) 3 5 (some v3)) fun v4 =>
 doW (bsRes env.P false true H (⟨0, 18, Heap.gen H 0 18, 0⟩ : Ref) 34 1 (some [(0, v4)])) fun v5 H1 =>
 doW (appRes env.P true H1 (⟨0, 19, Heap.gen H1 0 19, 0⟩ : Ref) (some 34) (some 34) x4 v5) fun v6 H2 =>
 doQ (qBin env.P .sub 3 (.tmp 10) (.const (.int .i64 1)) (some x5) (some (.v (.int .i64 1)))) fun v7 =>
   GoL env Try.f77 0 hd_record_number_2 [(5, v7), (0, x0), (4, v6)] H2 Q) (
 Q x4 H)
theorem vq_record_number_2 : VC_record_number_2 = fun g x5 x0 x4 H Q => wp env Try.f77 none 0 lv_record_number cu_record_number Q 500 (bodyOf hd_record_number_2) (ofL g [(5, x5), (0, x0), (4, x4)]) H := by kernel_rfl
theorem vc_record_number_2 (x5 x0 x4 : AV) (H : Heap) (Q : AV → Heap → Prop) (h : ∀ g, VC_record_number_2 g x5 x0 x4 H Q) : GoL env Try.f77 0 hd_record_number_2 [(5, x5), (0, x0), (4, x4)] H Q := goL_body fun g => wp_ok (by have h := h g; rw [vq_record_number_2] at h; exact h)
noncomputable def bd_record_parse : Code := (Try.f78.body).getD .skip
def lv_record_parse : Nat → Option (List Nat) := fun i => none
def cu_record_parse : Nat → Bool := fun i => false
def VC_record_parse (g : Nat → AV) (x0 : AV) (H : Heap) (Q : AV → Heap → Prop) : Prop :=
 doW (nRes H (⟨0, 2, Heap.gen H 0 2, 0⟩ : Ref) (qAlloc env.P (⟨0, 2, Heap.gen H 0 2, 0⟩ : Ref) 75)) fun v1 H1 =>
 doQ (qIndexAddr env.P (Heap.get H1) 34 (some x0) (some (.v (.int .i64 0)))) fun v2 =>
 doQ (qLoad env.P (Heap.get H1) 5 (some v2)) fun v3 =>
 doQ (qFieldAddr env.P 75 (some v1) 0) fun v4 =>
 doW (wStore env.P H1 5 (some v4) (some v3)) fun v5 H2 =>
 doQ (qSlice env.P (Heap.get H2) 34 (some x0) (oi (.v (.int .i64 1))) (some none) (some none)) fun v6 =>
 doQ (qFieldAddr env.P 75 (some v1) 0) fun v7 =>
 doQ (qLoad env.P (Heap.get H2) 5 (some v7)) fun v8 =>
 doQ (qBin env.P .eql 5 (.tmp 10) (.const (.int .u8 1)) (some v8) (some (a8 1))) fun v9 =>
 br (some v9) (
 doQ (qSlice env.P (Heap.get H2) 34 (some v6) (some none) (oi (.v (.int .i64 6))) (some none)) fun v10 =>
 doW (callRes env true (limf env) (limt env 0) H2 (⟨0, 16, Heap.gen H2 0 16, 0⟩ : Ref) (some (.fn (.func 57) [] [])) [v10]) fun v11 H3 =>
 doQ (qExtract (some v11) 0) fun v12 =>
 doQ (qExtract (some v11) 1) fun v13 =>
 doQ (qFieldAddr env.P 75 (some v1) 2) fun v14 =>
 doQ (qFieldAddr env.P 33 (some v14) 1) fun v15 =>
 doW (wStore env.P H3 26 (some v15) (some v12)) fun v16 H4 =>
 doQ (qIndexAddr env.P (Heap.get H4) 34 (some v6) (some (.v (.int .i64 6)))) fun v17 =>
 doQ (qLoad env.P (Heap.get H4) 5 (some v17)) fun v18 =>
 doQ (qConvert env.P (Heap.get H4) (⟨0, 24, Heap.gen H4 0 24, 0⟩ : Ref) 5 3 (some v18)) fun v19 =>
 doQ (qFieldAddr env.P 75 (some v1) 1) fun v20 =>
 doW (wStore env.P H4 3 (some v20) (some v19)) fun v21 H5 =>
 doQ (qLoad env.P (Heap.get H5) 75 (some v1)) fun v22 =>
 doW (wStore env.P H5 75 (some v1) (some v22)) fun v23 H6 =>
 doQ (readCell env.P H6 v1 75) fun v24 =>
 Q v24 H6) (
 doQ (qBin env.P .eql 5 (.tmp 10) (.const (.int .u8 2)) (some v8) (some (a8 2))) fun v10 =>
 br (some v10) (
 doQ (qSlice env.P (Heap.get H2) 34 (some v6) (some none) (oi (.v (.int .i64 2))) (some none)) fun v11 =>
 doW (callRes env true (limf env) (limt env 0) H2 (⟨0, 30, Heap.gen H2 0 30, 0⟩ : Ref) (some (.fn (.func 81) [] [])) [v11]) fun v12 H3 =>
 doQ (qFieldAddr env.P 75 (some v1) 3) fun v13 =>
 doW (wStore env.P H3 36 (some v13) (some v12)) fun v14 H4 =>
 doQ (qSlice env.P (Heap.get H4) 34 (some v6) (oi (.v (.int .i64 2))) (some none) (some none)) fun v15 =>
 doW (callRes env true (limf env) (limt env 0) H4 (⟨0, 35, Heap.gen H4 0 35, 0⟩ : Ref) (some (.fn (.func 15) [] [])) [v15]) fun v16 H5 =>
 doQ (qExtract (some v16) 0) fun v17 =>
 doQ (qExtract (some v16) 1) fun v18 =>
 doQ (qExtract (some v16) 2) fun v19 =>
 doQ (qFieldAddr env.P 75 (some v1) 2) fun v20 =>
 doW (wStore env.P H5 33 (some v20) (some v17)) fun v21 H6 =>
 doQ (qLoad env.P (Heap.get H6) 75 (some v1)) fun v22 =>
 doW (wStore env.P H6 75 (some v1) (some v22)) fun v23 H7 =>
 doQ (readCell env.P H7 v1 75) fun v24 =>
 Q v24 H7) (
 doQ (qBin env.P .eql 5 (.tmp 10) (.const (.int .u8 3)) (some v8) (some (a8 3))) fun v11 =>
 br (some v11) (
 doQ (qSlice env.P (Heap.get H2) 34 (some v6) (some none) (oi (.v (.int .i64 7))) (some none)) fun v12 =>
 doW (callRes env true (limf env) (limt env 0) H2 (⟨0, 45, Heap.gen H2 0 45, 0⟩ : Ref) (some (.fn (.func 129) [] [])) [v12]) fun v13 H3 =>
 doQ (qExtract (some v13) 0) fun v14 =>
 doQ (qExtract (some v13) 1) fun v15 =>
 doQ (qFieldAddr env.P 75 (some v1) 4) fun v16 =>
 doW (wStore env.P H3 73 (some v16) (some v14)) fun v17 H4 =>
 doQ (qLoad env.P (Heap.get H4) 75 (some v1)) fun v18 =>
 doW (wStore env.P H4 75 (some v1) (some v18)) fun v19 H5 =>
 doQ (readCell env.P H5 v1 75) fun v20 =>
 Q v20 H5) (
 doQ (qLoad env.P (Heap.get H2) 75 (some v1)) fun v12 =>
 doW (wStore env.P H2 75 (some v1) (some v12)) fun v13 H3 =>
 doQ (readCell env.P H3 v1 75) fun v14 =>
 Q v14 H3)))
theorem vq_record_parse : VC_record_parse = fun g x0 H Q => wp env Try.f78 none 0 lv_record_parse cu_record_parse Q 500 [.code bd_record_parse] (ofL g [(0, x0)]) H := by kernel_rfl
theorem vc_record_parse (x0 : AV) (H : Heap) (Q : AV → Heap → Prop) (h : ∀ g, VC_record_parse g x0 H Q) : GoL env Try.f78 0 [.code bd_record_parse] [(0, x0)] H Q := ⟨fun g => wp_ok (by have h := h g; rw [vq_record_parse] at h; exact h)⟩
noncomputable def bd_slices_EqualFunc_____byte_____byte___byte___byte_ : Code := (Try.f79.body).getD .skip
noncomputable def hd_slices_EqualFunc_____byte_____byte___byte___byte__4 : List Item := (findLoop 4 400 [.code bd_slices_EqualFunc_____byte_____byte___byte___byte_]).getD []
def lv_slices_EqualFunc_____byte_____byte___byte___byte_ : Nat → Option (List Nat) := fun i => cond (Nat.beq i 4) (some [17, 2, 1, 15, 16]) (none)
def cu_slices_EqualFunc_____byte_____byte___byte___byte_ : Nat → Bool := fun i => false
def VC_slices_EqualFunc_____byte_____byte___byte___byte_ (g : Nat → AV) (x0 x1 x2 : AV) (H : Heap) (Q : AV → Heap → Prop) : Prop :=
 doQ (qBuiltin env.P false (Heap.get H) (⟨0, 11, Heap.gen H 0 11, 0⟩ : Ref) .len #[76] [x0]) fun v1 =>
 doQ (qBuiltin env.P false (Heap.get H) (⟨0, 13, Heap.gen H 0 13, 0⟩ : Ref) .len #[76] [x1]) fun v2 =>
 doQ (qBin env.P .neq 3 (.tmp 11) (.tmp 13) (some v1) (some v2)) fun v3 =>
 br (some v3) (
 Q (.v (.bool false)) H) (
 doQ (qBuiltin env.P false (Heap.get H) (⟨0, 16, Heap.gen H 0 16, 0⟩ : Ref) .len #[76] [x0]) fun v4 =>
   GoL env Try.f79 0 hd_slices_EqualFunc_____byte_____byte___byte___byte__4 [(17, (.v (.int .i64 0))), (2, x2), (1, x1), (15, x0), (16, v4)] H Q)
theorem vq_slices_EqualFunc_____byte_____byte___byte___byte_ : VC_slices_EqualFunc_____byte_____byte___byte___byte_ = fun g x0 x1 x2 H Q => wp env Try.f79 none 0 lv_slices_EqualFunc_____byte_____byte___byte___byte_ cu_slices_EqualFunc_____byte_____byte___byte___byte_ Q 500 [.code bd_slices_EqualFunc_____byte_____byte___byte___byte_] (ofL g [(0, x0), (1, x1), (2, x2)]) H := by kernel_rfl
theorem vc_slices_EqualFunc_____byte_____byte___byte___byte_ (x0 x1 x2 : AV) (H : Heap) (Q : AV → Heap → Prop) (h : ∀ g, VC_slices_EqualFunc_____byte_____byte___byte___byte_ g x0 x1 x2 H Q) : GoL env Try.f79 0 [.code bd_slices_EqualFunc_____byte_____byte___byte___byte_] [(0, x0), (1, x1), (2, x2)] H Q := ⟨fun g => wp_ok (by have h := h g; rw [vq_slices_EqualFunc_____byte_____byte___byte___byte_] at h; exact h)⟩
def VC_slices_EqualFunc_____byte_____byte___byte___byte__4 (g : Nat → AV) (x17 x2 x1 x15 x16 : AV) (H : Heap) (Q : AV → Heap → Prop) : Prop :=
 doQ (qBin env.P .lss 3 (.tmp 17) (.tmp 16) (some x17) (some x16)) fun v1 =>
 br (some v1) (
 doQ (qIndexAddr env.P (Heap.get H) 76 (some x15) (some x17)) fun v2 =>
 doQ (qLoad env.P (Heap.get H) 34 (some v2)) fun v3 =>
 doQ (qIndexAddr env.P (Heap.get H) 76 (some x1) (some x17)) fun v4 =>
 doQ (qLoad env.P (Heap.get H) 34 (some v4)) fun v5 =>
 doW (callRes env true (limf env) (limt env 0) H (⟨0, 29, Heap.gen H 0 29, 0⟩ : Ref) (some x2) [v3, v5]) fun v6 H1 =>
 doQ (qUn env.P .not (some v6)) fun v7 =>
 br (some v7) (
 Q (.v (.bool false)) H1) (
 doQ (qBin env.P .add 3 (.tmp 17) (.const (.int .i64 1)) (some x17) (some (.v (.int .i64 1)))) fun v8 =>
    GoL env Try.f79 0 hd_slices_EqualFunc_____byte_____byte___byte___byte__4 [(17, v8), (2, x2), (1, x1), (15, x15), (16, x16)] H1 Q)) (
 Q (.v (.bool true)) H)
theorem vq_slices_EqualFunc_____byte_____byte___byte___byte__4 : VC_slices_EqualFunc_____byte_____byte___byte___byte__4 = fun g x17 x2 x1 x15 x16 H Q => wp env Try.f79 none 0 lv_slices_EqualFunc_____byte_____byte___byte___byte_ cu_slices_EqualFunc_____byte_____byte___byte___byte_ Q 500 (bodyOf hd_slices_EqualFunc_____byte_____byte___byte___byte__4) (ofL g [(17, x17), (2, x2), (1, x1), (15, x15), (16, x16)]) H := by kernel_rfl
theorem vc_slices_EqualFunc_____byte_____byte___byte___byte__4 (x17 x2 x1 x15 x16 : AV) (H : Heap) (Q : AV → Heap → Prop) (h : ∀ g, VC_slices_EqualFunc_____byte_____byte___byte___byte__4 g x17 x2 x1 x15 x16 H Q) : GoL env Try.f79 0 hd_slices_EqualFunc_____byte_____byte___byte___byte__4 [(17, x17), (2, x2), (1, x1), (15, x15), (16, x16)] H Q := goL_body fun g => wp_ok (by have h := h g; rw [vq_slices_EqualFunc_____byte_____byte___byte___byte__4] at h; exact h)
noncomputable def bd_record_read : Code := (Try.f81.body).getD .skip
noncomputable def hd_record_read_2 : List Item := (findLoop 2 400 [.code bd_record_read]).getD []
def lv_record_read : Nat → Option (List Nat) := fun i => cond (Nat.beq i 2) (some [7, 2, 5, 6]) (none)
def cu_record_read : Nat → Bool := fun i => false
def VC_record_read (g : Nat → AV) (x0 : AV) (H : Heap) (Q : AV → Heap → Prop) : Prop :=
 doQ (qBuiltin env.P false (Heap.get H) (⟨0, 6, Heap.gen H 0 6, 0⟩ : Ref) .len #[34] [x0]) fun v1 =>
  GoL env Try.f81 0 hd_record_read_2 [(7, (.v (.int .i64 0))), (2, (.v (.int .i64 0))), (5, x0), (6, v1)] H Q
theorem vq_record_read : VC_record_read = fun g x0 H Q => wp env Try.f81 none 0 lv_record_read cu_record_read Q 500 [.code bd_record_read] (ofL g [(0, x0)]) H := by kernel_rfl
theorem vc_record_read (x0 : AV) (H : Heap) (Q : AV → Heap → Prop) (h : ∀ g, VC_record_read g x0 H Q) : GoL env Try.f81 0 [.code bd_record_read] [(0, x0)] H Q := ⟨fun g => wp_ok (by have h := h g; rw [vq_record_read] at h; exact h)⟩
def VC_record_read_2 (g : Nat → AV) (x7 x2 x5 x6 : AV) (H : Heap) (Q : AV → Heap → Prop) : Prop :=
 doQ (qBin env.P .lss 3 (.tmp 7) (.tmp 6) (some x7) (some x6)) fun v1 =>
 br (some v1) (
 doQ (qIndexAddr env.P (Heap.get H) 34 (some x5) (some x7)) fun v2 =>
 doQ (qLoad env.P (Heap.get H) 5 (some v2)) fun v3 =>
 doQ (qBin env.P .shl 3 (.tmp 11) (.const (.int .u64 8)) (some x2) (some (.v (.int .u64 8)))) fun v4 =>
 doQ (qConvert env.P (Heap.get H) (⟨0, 14, Heap.gen H 0 14, 0⟩ : Ref) 5 3 (some v3)) fun v5 =>
 doQ (qBin env.P .or 3 (.tmp 12) (.tmp 14) (some v4) (some v5)) fun v6 =>
 doQ (qBin env.P .add 3 (.tmp 7) (.const (.int .i64 1)) (some x7) (some (.v (.int .i64 1)))) fun v7 =>
   GoL env Try.f81 0 hd_record_read_2 [(7, v7), (2, v6), (5, x5), (6, x6)] H Q) (
 Q x2 H)
theorem vq_record_read_2 : VC_record_read_2 = fun g x7 x2 x5 x6 H Q => wp env Try.f81 none 0 lv_record_read cu_record_read Q 500 (bodyOf hd_record_read_2) (ofL g [(7, x7), (2, x2), (5, x5), (6, x6)]) H := by kernel_rfl
theorem vc_record_read_2 (x7 x2 x5 x6 : AV) (H : Heap) (Q : AV → Heap → Prop) (h : ∀ g, VC_record_read_2 g x7 x2 x5 x6 H Q) : GoL env Try.f81 0 hd_record_read_2 [(7, x7), (2, x2), (5, x5), (6, x6)] H Q := goL_body fun g => wp_ok (by have h := h g; rw [vq_record_read_2] at h; exact h)
noncomputable def bd_grant_Get : Code := (Try.f129.body).getD .skip
def lv_grant_Get : Nat → Option (List Nat) := fun i => none
def cu_grant_Get : Nat → Bool := fun i => false
def VC_grant_Get (g : Nat → AV) (x0 : AV) (H : Heap) (Q : AV → Heap → Prop) : Prop :=
 doW (nRes H (⟨0, 2, Heap.gen H 0 2, 0⟩ : Ref) (qAlloc env.P (⟨0, 2, Heap.gen H 0 2, 0⟩ : Ref) 73)) fun v1 H1 =>
 doQ (qBuiltin env.P false (Heap.get H1) (⟨0, 8, Heap.gen H1 0 8, 0⟩ : Ref) .len #[34] [x0]) fun v2 =>
 doQ (qBin env.P .neq 3 (.tmp 8) (.const (.int .i64 7)) (some v2) (some (.v (.int .i64 7)))) fun v3 =>
 gQ v3 false (qVal (some x0)) fun v4 =>
 gQ v3 false (qIndexAddr env.P (Heap.get H1) 34 (some v4) (some (.v (.int .i64 1)))) fun v5 =>
 gQ v3 false (qLoad env.P (Heap.get H1) 5 (some v5)) fun v6 =>
 gQ v3 false (qBin env.P .gtr 5 (.tmp 13) (.const (.int .u8 1)) (some v6) (some (a8 1))) fun v7 =>
 doQ (pickF (some v3) (some (.v (.bool true))) (some v7)) fun v8 =>
 br (some v8) (
 doQ (qBuild env.P 73 (some [])) fun v9 =>
 doW (wStore env.P H1 73 (some v1) (some v9)) fun v10 H2 =>
 doQ (readCell env.P H2 v1 73) fun v11 =>
 Q (.tup [v11, (.v (.int .i64 8))]) H2) (
 doQ (qSlice env.P (Heap.get H1) 34 (some x0) (oi (.v (.int .i64 2))) (oi (.v (.int .i64 7))) (oi (.v (.int .i64 7)))) fun v9 =>
 doW (bsRes env.P false true H1 (⟨0, 20, Heap.gen H1 0 20, 0⟩ : Ref) 34 1 (some [(0, (a8 0))])) fun v10 H2 =>
 doW (appRes env.P true H2 (⟨0, 21, Heap.gen H2 0 21, 0⟩ : Ref) (some 34) (some 34) v9 v10) fun v11 H3 =>
 doW (callRes env true (limf env) (limt env 0) H3 (⟨0, 22, Heap.gen H3 0 22, 0⟩ : Ref) (some (.fn (.func 57) [] [])) [v11]) fun v12 H4 =>
 doQ (qExtract (some v12) 0) fun v13 =>
 doQ (qExtract (some v12) 1) fun v14 =>
 doW (nRes H4 (⟨0, 4, Heap.gen H4 0 4, 0⟩ : Ref) (qAlloc env.P (⟨0, 4, Heap.gen H4 0 4, 0⟩ : Ref) 26)) fun v15 H5 =>
 doW (wStore env.P H5 26 (some v15) (some v13)) fun v16 H6 =>
 doQ (qIndexAddr env.P (Heap.get H6) 34 (some x0) (some (.v (.int .i64 0)))) fun v17 =>
 doQ (qLoad env.P (Heap.get H6) 5 (some v17)) fun v18 =>
 doQ (qConvert env.P (Heap.get H6) (⟨0, 28, Heap.gen H6 0 28, 0⟩ : Ref) 5 3 (some v18)) fun v19 =>
 doQ (qFieldAddr env.P 26 (some v15) 0) fun v20 =>
 doQ (qLoad env.P (Heap.get H6) 24 (some v20)) fun v21 =>
 doQ (qIndexAddr env.P (Heap.get H6) 34 (some x0) (some (.v (.int .i64 1)))) fun v22 =>
 doQ (qLoad env.P (Heap.get H6) 5 (some v22)) fun v23 =>
 doQ (qBin env.P .eql 5 (.tmp 33) (.const (.int .u8 1)) (some v23) (some (a8 1))) fun v24 =>
 doQ (qBuild env.P 71 (some [(0, v21), (1, v24)])) fun v25 =>
 doQ (qBuild env.P 73 (some [(0, v19), (1, v25)])) fun v26 =>
 doW (nRes H6 (⟨0, 6, Heap.gen H6 0 6, 0⟩ : Ref) (qAlloc env.P (⟨0, 6, Heap.gen H6 0 6, 0⟩ : Ref) 73)) fun v27 H7 =>
 doW (wStore env.P H7 73 (some v27) (some v26)) fun v28 H8 =>
 doQ (qBin env.P .neq 36 (.tmp 37) (.const (.int .i64 0)) (some v14) (some (.v (.int .i64 0)))) fun v29 =>
 gQ v29 false (qLoad env.P (Heap.get H8) 73 (some v27)) fun v30 =>
 gW v29 false H8 (callRes env true (limf env) (limt env 0) H8 (⟨0, 41, Heap.gen H8 0 41, 0⟩ : Ref) (some (.fn (.func 135) [] [])) [v30]) fun v31 H9 =>
 gQ v29 false (qBin env.P .neq 36 (.tmp 41) (.const (.int .i64 0)) (some v31) (some (.v (.int .i64 0)))) fun v32 =>
 doQ (pickF (some v29) (some (.v (.bool true))) (some v32)) fun v33 =>
 br (some v33) (
 doQ (qBuild env.P 73 (some [])) fun v34 =>
 doW (wStore env.P H9 73 (some v1) (some v34)) fun v35 H10 =>
 doQ (readCell env.P H10 v1 73) fun v36 =>
 Q (.tup [v36, (.v (.int .i64 8))]) H10) (
 doQ (qLoad env.P (Heap.get H9) 73 (some v27)) fun v34 =>
 doW (wStore env.P H9 73 (some v1) (some v34)) fun v35 H10 =>
 doQ (readCell env.P H10 v1 73) fun v36 =>
 Q (.tup [v36, (.v (.int .i64 0))]) H10))
theorem vq_grant_Get : VC_grant_Get = fun g x0 H Q => wp env Try.f129 none 0 lv_grant_Get cu_grant_Get Q 500 [.code bd_grant_Get] (ofL g [(0, x0)]) H := by kernel_rfl
theorem vc_grant_Get (x0 : AV) (H : Heap) (Q : AV → Heap → Prop) (h : ∀ g, VC_grant_Get g x0 H Q) : GoL env Try.f129 0 [.code bd_grant_Get] [(0, x0)] H Q := ⟨fun g => wp_ok (by have h := h g; rw [vq_grant_Get] at h; exact h)⟩
end Go.Proofs.Ytehkjjcdkbcebaa
