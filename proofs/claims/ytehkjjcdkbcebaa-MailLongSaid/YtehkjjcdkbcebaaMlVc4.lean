/-
  What is to be shown of each function, computed from its code. No statement of a seat is proved here.
-/
import Derived.Test.YtehkjjcdkbcebaaMlTy
set_option linter.unusedVariables false
set_option maxRecDepth 1000000
namespace Go.Proofs.Ytehkjjcdkbcebaa
open Go.Ab
noncomputable def bd_mail_Put : Code := (Try.f33.body).getD .skip
def lv_mail_Put : Nat → Option (List Nat) := fun i => none
def cu_mail_Put : Nat → Bool := fun i => false
def VC_mail_Put (g : Nat → AV) (x0 : AV) (H : Heap) (Q : AV → Heap → Prop) : Prop :=
 doW (nRes H (⟨0, 1, Heap.gen H 0 1, 0⟩ : Ref) (qBox env.P (⟨0, 1, Heap.gen H 0 1, 0⟩ : Ref) 60 (some x0))) fun v1 H1 =>
 doW (callRes env false (limf env) (limt env 0) H1 (⟨0, 12, Heap.gen H1 0 12, 0⟩ : Ref) (some (.fn (.func 72) [] [])) []) fun v2 H2 =>
 doQ (qFieldAddr env.P 60 (some v1) 0) fun v3 =>
 doQ (qLoad env.P (Heap.get H2) 5 (some v3)) fun v4 =>
 doQ (qLookup env.P (Heap.get H2) 128 (some v2) (some v4) true) fun v5 =>
 doQ (qExtract (some v5) 0) fun v6 =>
 doQ (qExtract (some v5) 1) fun v7 =>
 doW (nRes H2 (⟨0, 4, Heap.gen H2 0 4, 0⟩ : Ref) (qAlloc env.P (⟨0, 4, Heap.gen H2 0 4, 0⟩ : Ref) 126)) fun v8 H3 =>
 doW (wStore env.P H3 126 (some v8) (some v6)) fun v9 H4 =>
 doQ (qFieldAddr env.P 60 (some v1) 0) fun v10 =>
 doQ (qLoad env.P (Heap.get H4) 5 (some v10)) fun v11 =>
 doQ (qBin env.P .eql 5 (.tmp 19) (.const (.int .u8 8)) (some v11) (some (a8 8))) fun v12 =>
 gQ v12 false (qFieldAddr env.P 60 (some v1) 0) fun v13 =>
 gQ v12 false (qLoad env.P (Heap.get H4) 5 (some v13)) fun v14 =>
 gQ v12 false (qBin env.P .eql 5 (.tmp 23) (.const (.int .u8 2)) (some v14) (some (a8 2))) fun v15 =>
 gQ v12 false (qVal (some v15)) fun v16 =>
 gQ v16 true (qFieldAddr env.P 60 (some v1) 8) fun v17 =>
 gQ v16 true (qLoad env.P (Heap.get H4) 58 (some v17)) fun v18 =>
 gQ v16 true (qBuiltin env.P false (Heap.get H4) (⟨0, 28, Heap.gen H4 0 28, 0⟩ : Ref) .len #[58] [v18]) fun v19 =>
 gQ v16 true (qBin env.P .eql 3 (.tmp 28) (.const (.int .i64 1)) (some v19) (some (.v (.int .i64 1)))) fun v20 =>
 gQ v12 false (pickF (some v16) (some v20) (some (.v (.bool false)))) fun v21 =>
 doQ (pickF (some v12) (some (.v (.bool true))) (some v21)) fun v22 =>
 gQ v22 false (qFieldAddr env.P 60 (some v1) 8) fun v23 =>
 gQ v22 false (qLoad env.P (Heap.get H4) 58 (some v23)) fun v24 =>
 gQ v22 false (qBuiltin env.P false (Heap.get H4) (⟨0, 35, Heap.gen H4 0 35, 0⟩ : Ref) .len #[58] [v24]) fun v25 =>
 gQ v22 false (qBin env.P .eql 3 (.tmp 35) (.const (.int .i64 0)) (some v25) (some (.v (.int .i64 0)))) fun v26 =>
 gQ v22 false (qVal (some v26)) fun v27 =>
 gQ v27 true (qFieldAddr env.P 60 (some v1) 0) fun v28 =>
 gQ v27 true (qLoad env.P (Heap.get H4) 5 (some v28)) fun v29 =>
 gQ v27 true (qBin env.P .neq 5 (.tmp 39) (.const (.int .u8 2)) (some v29) (some (a8 2))) fun v30 =>
 gQ v22 false (pickF (some v27) (some v30) (some (.v (.bool false)))) fun v31 =>
 doQ (pickF (some v22) (some (.v (.bool true))) (some v31)) fun v32 =>
 doQ (qUn env.P .not (some v7)) fun v33 =>
 gQ v33 false (qVal (some v32)) fun v34 =>
 gQ v33 false (qUn env.P .not (some v34)) fun v35 =>
 doQ (pickF (some v33) (some (.v (.bool true))) (some v35)) fun v36 =>
 br (some v36) (
 Q (.tup [(.v (.slice none 0 0)), (.v (.int .i64 8))]) H4) (
 doQ (qFieldAddr env.P 60 (some v1) 0) fun v37 =>
 doQ (qLoad env.P (Heap.get H4) 5 (some v37)) fun v38 =>
 doW (bsRes env.P false true H4 (⟨0, 51, Heap.gen H4 0 51, 0⟩ : Ref) 34 1 (some [(0, v38)])) fun v39 H5 =>
 doQ (qBuild env.P 132 (some [(0, v39)])) fun v40 =>
 doW (nRes H5 (⟨0, 53, Heap.gen H5 0 53, 0⟩ : Ref) (qBox env.P (⟨0, 53, Heap.gen H5 0 53, 0⟩ : Ref) 132 (some v40))) fun v41 H6 =>
 doQ (qLoad env.P (Heap.get H6) 60 (some v1)) fun v42 =>
 doW (nRes H6 (⟨0, 8, Heap.gen H6 0 8, 0⟩ : Ref) (qAlloc env.P (⟨0, 8, Heap.gen H6 0 8, 0⟩ : Ref) 60)) fun v43 H7 =>
 doW (wStore env.P H7 60 (some v43) (some v42)) fun v44 H8 =>
 doQ (qFieldAddr env.P 126 (some v8) 0) fun v45 =>
 doQ (qLoad env.P (Heap.get H8) 124 (some v45)) fun v46 =>
 doW (callRes env true (limf env) (limt env 0) H8 (⟨0, 58, Heap.gen H8 0 58, 0⟩ : Ref) (some v46) [v41, v43]) fun v47 H9 =>
 doQ (qNil (some v41)) fun v48 =>
 doQ (qFieldAddr env.P 132 (some v48) 2) fun v49 =>
 doQ (qLoad env.P (Heap.get H9) 4 (some v49)) fun v50 =>
 gQ v50 false (qFieldAddr env.P 126 (some v8) 1) fun v51 =>
 gQ v50 false (qLoad env.P (Heap.get H9) 61 (some v51)) fun v52 =>
 gQ v50 false (qLoad env.P (Heap.get H9) 60 (some v1)) fun v53 =>
 gW v50 false H9 (callRes env true (limf env) (limt env 0) H9 (⟨0, 67, Heap.gen H9 0 67, 0⟩ : Ref) (some v52) [v53]) fun v54 H10 =>
 gQ v50 false (qUn env.P .not (some v54)) fun v55 =>
 doQ (pickF (some v50) (some (.v (.bool true))) (some v55)) fun v56 =>
 br (some v56) (
 Q (.tup [(.v (.slice none 0 0)), (.v (.int .i64 8))]) H10) (
 doQ (qNil (some v41)) fun v57 =>
 doQ (qFieldAddr env.P 132 (some v57) 0) fun v58 =>
 doQ (qLoad env.P (Heap.get H10) 34 (some v58)) fun v59 =>
 doW (callRes env true (limf env) (limt env 0) H10 (⟨0, 75, Heap.gen H10 0 75, 0⟩ : Ref) (some (.fn (.func 34) [] [])) [v59]) fun v60 H11 =>
 doQ (qExtract (some v60) 0) fun v61 =>
 doQ (qExtract (some v60) 1) fun v62 =>
 doW (nRes H11 (⟨0, 9, Heap.gen H11 0 9, 0⟩ : Ref) (qAlloc env.P (⟨0, 9, Heap.gen H11 0 9, 0⟩ : Ref) 60)) fun v63 H12 =>
 doW (wStore env.P H12 60 (some v63) (some v61)) fun v64 H13 =>
 doQ (qBin env.P .neq 36 (.tmp 78) (.const (.int .i64 0)) (some v62) (some (.v (.int .i64 0)))) fun v65 =>
 gQ v65 false (qLoad env.P (Heap.get H13) 60 (some v63)) fun v66 =>
 gQ v65 false (qLoad env.P (Heap.get H13) 60 (some v1)) fun v67 =>
 gW v65 false H13 (callRes env true (limf env) (limt env 0) H13 (⟨0, 83, Heap.gen H13 0 83, 0⟩ : Ref) (some (.fn (.func 73) [] [])) [v66, v67]) fun v68 H14 =>
 gQ v65 false (qUn env.P .not (some v68)) fun v69 =>
 doQ (pickF (some v65) (some (.v (.bool true))) (some v69)) fun v70 =>
 br (some v70) (
 Q (.tup [(.v (.slice none 0 0)), (.v (.int .i64 8))]) H14) (
 doQ (qNil (some v41)) fun v71 =>
 doQ (qFieldAddr env.P 132 (some v71) 0) fun v72 =>
 doQ (qLoad env.P (Heap.get H14) 34 (some v72)) fun v73 =>
 Q (.tup [v73, (.v (.int .i64 0))]) H14)))
theorem vq_mail_Put : VC_mail_Put = fun g x0 H Q => wp env Try.f33 none 0 lv_mail_Put cu_mail_Put Q 500 [.code bd_mail_Put] (ofL g [(0, x0)]) H := by kernel_rfl
theorem vc_mail_Put (x0 : AV) (H : Heap) (Q : AV → Heap → Prop) (h : ∀ g, VC_mail_Put g x0 H Q) : GoL env Try.f33 0 [.code bd_mail_Put] [(0, x0)] H Q := ⟨fun g => wp_ok (by have h := h g; rw [vq_mail_Put] at h; exact h)⟩
noncomputable def bd_mail_Get : Code := (Try.f34.body).getD .skip
def lv_mail_Get : Nat → Option (List Nat) := fun i => none
def cu_mail_Get : Nat → Bool := fun i => false
def VC_mail_Get (g : Nat → AV) (x0 : AV) (H : Heap) (Q : AV → Heap → Prop) : Prop :=
 doW (nRes H (⟨0, 2, Heap.gen H 0 2, 0⟩ : Ref) (qAlloc env.P (⟨0, 2, Heap.gen H 0 2, 0⟩ : Ref) 60)) fun v1 H1 =>
 doQ (qBuiltin env.P false (Heap.get H1) (⟨0, 8, Heap.gen H1 0 8, 0⟩ : Ref) .len #[34] [x0]) fun v2 =>
 doQ (qBin env.P .eql 3 (.tmp 8) (.const (.int .i64 0)) (some v2) (some (.v (.int .i64 0)))) fun v3 =>
 br (some v3) (
 doQ (qLoad env.P (Heap.get H1) 60 (some v1)) fun v4 =>
 doW (wStore env.P H1 60 (some v1) (some v4)) fun v5 H2 =>
 doQ (readCell env.P H2 v1 60) fun v6 =>
 Q (.tup [v6, (.v (.int .i64 90))]) H2) (
 doW (callRes env false (limf env) (limt env 0) H1 (⟨0, 12, Heap.gen H1 0 12, 0⟩ : Ref) (some (.fn (.func 72) [] [])) []) fun v4 H2 =>
 doQ (qIndexAddr env.P (Heap.get H2) 34 (some x0) (some (.v (.int .i64 0)))) fun v5 =>
 doQ (qLoad env.P (Heap.get H2) 5 (some v5)) fun v6 =>
 doQ (qLookup env.P (Heap.get H2) 128 (some v4) (some v6) true) fun v7 =>
 doQ (qExtract (some v7) 0) fun v8 =>
 doQ (qExtract (some v7) 1) fun v9 =>
 doW (nRes H2 (⟨0, 4, Heap.gen H2 0 4, 0⟩ : Ref) (qAlloc env.P (⟨0, 4, Heap.gen H2 0 4, 0⟩ : Ref) 126)) fun v10 H3 =>
 doW (wStore env.P H3 126 (some v10) (some v8)) fun v11 H4 =>
 doQ (qUn env.P .not (some v9)) fun v12 =>
 br (some v12) (
 doQ (qLoad env.P (Heap.get H4) 60 (some v1)) fun v13 =>
 doW (wStore env.P H4 60 (some v1) (some v13)) fun v14 H5 =>
 doQ (readCell env.P H5 v1 60) fun v15 =>
 Q (.tup [v15, (.v (.int .i64 90))]) H5) (
 doQ (qIndexAddr env.P (Heap.get H4) 34 (some x0) (some (.v (.int .i64 0)))) fun v13 =>
 doQ (qLoad env.P (Heap.get H4) 5 (some v13)) fun v14 =>
 doQ (qFieldAddr env.P 60 (some v1) 0) fun v15 =>
 doW (wStore env.P H4 5 (some v15) (some v14)) fun v16 H5 =>
 doQ (qSlice env.P (Heap.get H5) 34 (some x0) (oi (.v (.int .i64 1))) (some none) (some none)) fun v17 =>
 doQ (qBuild env.P 132 (some [(0, v17), (1, (.v (.bool true)))])) fun v18 =>
 doW (nRes H5 (⟨0, 29, Heap.gen H5 0 29, 0⟩ : Ref) (qBox env.P (⟨0, 29, Heap.gen H5 0 29, 0⟩ : Ref) 132 (some v18))) fun v19 H6 =>
 doQ (qFieldAddr env.P 126 (some v10) 0) fun v20 =>
 doQ (qLoad env.P (Heap.get H6) 124 (some v20)) fun v21 =>
 doW (callRes env true (limf env) (limt env 0) H6 (⟨0, 33, Heap.gen H6 0 33, 0⟩ : Ref) (some v21) [v19, v1]) fun v22 H7 =>
 doQ (qNil (some v19)) fun v23 =>
 doQ (qFieldAddr env.P 132 (some v23) 2) fun v24 =>
 doQ (qLoad env.P (Heap.get H7) 4 (some v24)) fun v25 =>
 gQ v25 false (qVal (some v19)) fun v26 =>
 gQ v25 false (qNil (some v26)) fun v27 =>
 gQ v25 false (qFieldAddr env.P 132 (some v27) 0) fun v28 =>
 gQ v25 false (qLoad env.P (Heap.get H7) 34 (some v28)) fun v29 =>
 gQ v25 false (qBuiltin env.P false (Heap.get H7) (⟨0, 43, Heap.gen H7 0 43, 0⟩ : Ref) .len #[34] [v29]) fun v30 =>
 gQ v25 false (qBin env.P .gtr 3 (.tmp 43) (.const (.int .i64 0)) (some v30) (some (.v (.int .i64 0)))) fun v31 =>
 doQ (pickF (some v25) (some (.v (.bool true))) (some v31)) fun v32 =>
 gQ v32 false (qFieldAddr env.P 126 (some v10) 1) fun v33 =>
 gQ v32 false (qLoad env.P (Heap.get H7) 61 (some v33)) fun v34 =>
 gQ v32 false (qLoad env.P (Heap.get H7) 60 (some v1)) fun v35 =>
 gW v32 false H7 (callRes env true (limf env) (limt env 0) H7 (⟨0, 50, Heap.gen H7 0 50, 0⟩ : Ref) (some v34) [v35]) fun v36 H8 =>
 gQ v32 false (qUn env.P .not (some v36)) fun v37 =>
 doQ (pickF (some v32) (some (.v (.bool true))) (some v37)) fun v38 =>
 br (some v38) (
 doQ (qBuild env.P 60 (some [])) fun v39 =>
 doW (wStore env.P H8 60 (some v1) (some v39)) fun v40 H9 =>
 doQ (readCell env.P H9 v1 60) fun v41 =>
 Q (.tup [v41, (.v (.int .i64 90))]) H9) (
 doQ (qLoad env.P (Heap.get H8) 60 (some v1)) fun v39 =>
 doW (wStore env.P H8 60 (some v1) (some v39)) fun v40 H9 =>
 doQ (readCell env.P H9 v1 60) fun v41 =>
 Q (.tup [v41, (.v (.int .i64 0))]) H9)))
theorem vq_mail_Get : VC_mail_Get = fun g x0 H Q => wp env Try.f34 none 0 lv_mail_Get cu_mail_Get Q 500 [.code bd_mail_Get] (ofL g [(0, x0)]) H := by kernel_rfl
theorem vc_mail_Get (x0 : AV) (H : Heap) (Q : AV → Heap → Prop) (h : ∀ g, VC_mail_Get g x0 H Q) : GoL env Try.f34 0 [.code bd_mail_Get] [(0, x0)] H Q := ⟨fun g => wp_ok (by have h := h g; rw [vq_mail_Get] at h; exact h)⟩
noncomputable def bd_blindstampref10_Great : Code := (Try.f32.body).getD .skip
noncomputable def hd_blindstampref10_Great_2 : List Item := (findLoop 2 400 [.code bd_blindstampref10_Great]).getD []
def lv_blindstampref10_Great : Nat → Option (List Nat) := fun i => cond (Nat.beq i 2) (some [3, 1]) (none)
def cu_blindstampref10_Great : Nat → Bool := fun i => false
def VC_blindstampref10_Great (g : Nat → AV) (x0 : AV) (H : Heap) (Q : AV → Heap → Prop) : Prop :=
 doW (nRes H (⟨0, 1, Heap.gen H 0 1, 0⟩ : Ref) (qBox env.P (⟨0, 1, Heap.gen H 0 1, 0⟩ : Ref) 60 (some x0))) fun v1 H1 =>
  GoL env Try.f32 0 hd_blindstampref10_Great_2 [(3, (.v (.int .i64 0))), (1, v1)] H1 Q
theorem vq_blindstampref10_Great : VC_blindstampref10_Great = fun g x0 H Q => wp env Try.f32 none 0 lv_blindstampref10_Great cu_blindstampref10_Great Q 500 [.code bd_blindstampref10_Great] (ofL g [(0, x0)]) H := by kernel_rfl
theorem vc_blindstampref10_Great (x0 : AV) (H : Heap) (Q : AV → Heap → Prop) (h : ∀ g, VC_blindstampref10_Great g x0 H Q) : GoL env Try.f32 0 [.code bd_blindstampref10_Great] [(0, x0)] H Q := ⟨fun g => wp_ok (by have h := h g; rw [vq_blindstampref10_Great] at h; exact h)⟩
def VC_blindstampref10_Great_2 (g : Nat → AV) (x3 x1 : AV) (H : Heap) (Q : AV → Heap → Prop) : Prop :=
 doQ (qFieldAddr env.P 60 (some x1) 8) fun v1 =>
 doQ (qLoad env.P (Heap.get H) 58 (some v1)) fun v2 =>
 doQ (qBuiltin env.P false (Heap.get H) (⟨0, 7, Heap.gen H 0 7, 0⟩ : Ref) .len #[58] [v2]) fun v3 =>
 doQ (qBin env.P .lss 3 (.tmp 4) (.tmp 7) (some x3) (some v3)) fun v4 =>
 gQ v4 true (qVal (some x3)) fun v5 =>
 gQ v4 true (qBin env.P .lss 3 (.tmp 10) (.const (.int .i64 20)) (some v5) (some (.v (.int .i64 20)))) fun v6 =>
 doQ (pickF (some v4) (some v6) (some (.v (.bool false)))) fun v7 =>
 br (some v7) (
 doQ (qFieldAddr env.P 60 (some x1) 8) fun v8 =>
 doQ (qLoad env.P (Heap.get H) 58 (some v8)) fun v9 =>
 doQ (qIndexAddr env.P (Heap.get H) 58 (some v9) (some x3)) fun v10 =>
 doQ (qFieldAddr env.P 33 (some v10) 6) fun v11 =>
 doQ (qLoad env.P (Heap.get H) 31 (some v11)) fun v12 =>
 doQ (qBuiltin env.P false (Heap.get H) (⟨0, 21, Heap.gen H 0 21, 0⟩ : Ref) .len #[31] [v12]) fun v13 =>
 doQ (qBin env.P .gtr 3 (.tmp 21) (.const (.int .i64 500)) (some v13) (some (.v (.int .i64 500)))) fun v14 =>
 br (some v14) (
 Q (.v (.bool true)) H) (
 doQ (qBin env.P .add 3 (.tmp 13) (.const (.int .i64 1)) (some x3) (some (.v (.int .i64 1)))) fun v15 =>
    GoL env Try.f32 0 hd_blindstampref10_Great_2 [(3, v15), (1, x1)] H Q)) (
 doQ (qFieldAddr env.P 60 (some x1) 8) fun v8 =>
 doQ (qLoad env.P (Heap.get H) 58 (some v8)) fun v9 =>
 doQ (qBuiltin env.P false (Heap.get H) (⟨0, 25, Heap.gen H 0 25, 0⟩ : Ref) .len #[58] [v9]) fun v10 =>
 doQ (qBin env.P .gtr 3 (.tmp 25) (.const (.int .i64 10)) (some v10) (some (.v (.int .i64 10)))) fun v11 =>
 Q v11 H)
theorem vq_blindstampref10_Great_2 : VC_blindstampref10_Great_2 = fun g x3 x1 H Q => wp env Try.f32 none 0 lv_blindstampref10_Great cu_blindstampref10_Great Q 500 (bodyOf hd_blindstampref10_Great_2) (ofL g [(3, x3), (1, x1)]) H := by kernel_rfl
theorem vc_blindstampref10_Great_2 (x3 x1 : AV) (H : Heap) (Q : AV → Heap → Prop) (h : ∀ g, VC_blindstampref10_Great_2 g x3 x1 H Q) : GoL env Try.f32 0 hd_blindstampref10_Great_2 [(3, x3), (1, x1)] H Q := goL_body fun g => wp_ok (by have h := h g; rw [vq_blindstampref10_Great_2] at h; exact h)
noncomputable def bd_mail_Same : Code := (Try.f73.body).getD .skip
def lv_mail_Same : Nat → Option (List Nat) := fun i => none
def cu_mail_Same : Nat → Bool := fun i => false
def VC_mail_Same (g : Nat → AV) (x0 x1 : AV) (H : Heap) (Q : AV → Heap → Prop) : Prop :=
 doW (nRes H (⟨0, 2, Heap.gen H 0 2, 0⟩ : Ref) (qBox env.P (⟨0, 2, Heap.gen H 0 2, 0⟩ : Ref) 60 (some x0))) fun v1 H1 =>
 doW (nRes H1 (⟨0, 3, Heap.gen H1 0 3, 0⟩ : Ref) (qBox env.P (⟨0, 3, Heap.gen H1 0 3, 0⟩ : Ref) 60 (some x1))) fun v2 H2 =>
 doQ (qLoad env.P (Heap.get H2) 60 (some v1)) fun v3 =>
 doQ (qLoad env.P (Heap.get H2) 60 (some v2)) fun v4 =>
 doW (nRes H2 (⟨0, 5, Heap.gen H2 0 5, 0⟩ : Ref) (qAlloc env.P (⟨0, 5, Heap.gen H2 0 5, 0⟩ : Ref) 60)) fun v5 H3 =>
 doW (nRes H3 (⟨0, 6, Heap.gen H3 0 6, 0⟩ : Ref) (qAlloc env.P (⟨0, 6, Heap.gen H3 0 6, 0⟩ : Ref) 60)) fun v6 H4 =>
 doW (wStore env.P H4 60 (some v5) (some v3)) fun v7 H5 =>
 doW (wStore env.P H5 60 (some v6) (some v4)) fun v8 H6 =>
  apartV [(v2, v5)] [v5, v6] [] H6 ∧
 (doQ (qFieldAddr env.P 60 (some v5) 8) fun v9 =>
 doW (wStore env.P H6 58 (some v9) (some (.v (.slice none 0 0)))) fun v10 H7 =>
 doQ (qFieldAddr env.P 60 (some v6) 8) fun v11 =>
 doW (wStore env.P H7 58 (some v11) (some (.v (.slice none 0 0)))) fun v12 H8 =>
 doQ (qFieldAddr env.P 60 (some v5) 0) fun v13 =>
 doQ (qLoad env.P (Heap.get H8) 5 (some v13)) fun v14 =>
 doQ (qFieldAddr env.P 60 (some v6) 0) fun v15 =>
 doQ (qLoad env.P (Heap.get H8) 5 (some v15)) fun v16 =>
 doQ (qBin env.P .eql 5 (.tmp 13) (.tmp 15) (some v14) (some v16)) fun v17 =>
 gQ v17 true (qFieldAddr env.P 60 (some v5) 1) fun v18 =>
 gQ v17 true (qLoad env.P (Heap.get H8) 3 (some v18)) fun v19 =>
 gQ v17 true (qFieldAddr env.P 60 (some v6) 1) fun v20 =>
 gQ v17 true (qLoad env.P (Heap.get H8) 3 (some v20)) fun v21 =>
 gQ v17 true (qBin env.P .eql 3 (.tmp 19) (.tmp 21) (some v19) (some v21)) fun v22 =>
 doQ (pickF (some v17) (some v22) (some (.v (.bool false)))) fun v23 =>
 gQ v23 true (qFieldAddr env.P 60 (some v5) 2) fun v24 =>
 gQ v23 true (qLoad env.P (Heap.get H8) 3 (some v24)) fun v25 =>
 gQ v23 true (qFieldAddr env.P 60 (some v6) 2) fun v26 =>
 gQ v23 true (qLoad env.P (Heap.get H8) 3 (some v26)) fun v27 =>
 gQ v23 true (qBin env.P .eql 3 (.tmp 26) (.tmp 28) (some v25) (some v27)) fun v28 =>
 doQ (pickF (some v23) (some v28) (some (.v (.bool false)))) fun v29 =>
 gQ v29 true (qFieldAddr env.P 60 (some v5) 3) fun v30 =>
 gQ v29 true (qLoad env.P (Heap.get H8) 36 (some v30)) fun v31 =>
 gQ v29 true (qFieldAddr env.P 60 (some v6) 3) fun v32 =>
 gQ v29 true (qLoad env.P (Heap.get H8) 36 (some v32)) fun v33 =>
 gQ v29 true (qBin env.P .eql 36 (.tmp 33) (.tmp 35) (some v31) (some v33)) fun v34 =>
 doQ (pickF (some v29) (some v34) (some (.v (.bool false)))) fun v35 =>
 gQ v35 true (qFieldAddr env.P 60 (some v5) 4) fun v36 =>
 gQ v35 true (qLoad env.P (Heap.get H8) 3 (some v36)) fun v37 =>
 gQ v35 true (qFieldAddr env.P 60 (some v6) 4) fun v38 =>
 gQ v35 true (qLoad env.P (Heap.get H8) 3 (some v38)) fun v39 =>
 gQ v35 true (qBin env.P .eql 3 (.tmp 40) (.tmp 42) (some v37) (some v39)) fun v40 =>
 doQ (pickF (some v35) (some v40) (some (.v (.bool false)))) fun v41 =>
 gQ v41 true (qFieldAddr env.P 60 (some v5) 5) fun v42 =>
 gQ v41 true (qLoad env.P (Heap.get H8) 3 (some v42)) fun v43 =>
 gQ v41 true (qFieldAddr env.P 60 (some v6) 5) fun v44 =>
 gQ v41 true (qLoad env.P (Heap.get H8) 3 (some v44)) fun v45 =>
 gQ v41 true (qBin env.P .eql 3 (.tmp 47) (.tmp 49) (some v43) (some v45)) fun v46 =>
 doQ (pickF (some v41) (some v46) (some (.v (.bool false)))) fun v47 =>
 gQ v47 true (qFieldAddr env.P 60 (some v5) 6) fun v48 =>
 gQ v47 true (qLoad env.P (Heap.get H8) 5 (some v48)) fun v49 =>
 gQ v47 true (qFieldAddr env.P 60 (some v6) 6) fun v50 =>
 gQ v47 true (qLoad env.P (Heap.get H8) 5 (some v50)) fun v51 =>
 gQ v47 true (qBin env.P .eql 5 (.tmp 54) (.tmp 56) (some v49) (some v51)) fun v52 =>
 doQ (pickF (some v47) (some v52) (some (.v (.bool false)))) fun v53 =>
 gQ v53 true (qFieldAddr env.P 60 (some v5) 7) fun v54 =>
 gQ v53 true (qLoad env.P (Heap.get H8) 57 (some v54)) fun v55 =>
 gQ v53 true (qFieldAddr env.P 60 (some v6) 7) fun v56 =>
 gQ v53 true (qLoad env.P (Heap.get H8) 57 (some v56)) fun v57 =>
 gQ v53 true (qBin env.P .eql 57 (.tmp 61) (.tmp 63) (some v55) (some v57)) fun v58 =>
 doQ (pickF (some v53) (some v58) (some (.v (.bool false)))) fun v59 =>
 gQ v59 true (qFieldAddr env.P 60 (some v1) 8) fun v60 =>
 gQ v59 true (qLoad env.P (Heap.get H8) 58 (some v60)) fun v61 =>
 gQ v59 true (qFieldAddr env.P 60 (some v2) 8) fun v62 =>
 gQ v59 true (qLoad env.P (Heap.get H8) 58 (some v62)) fun v63 =>
 gW v59 true H8 (callRes env true (limf env) (limt env 0) H8 (⟨0, 72, Heap.gen H8 0 72, 0⟩ : Ref) (some (.fn (.func 126) [] [])) [v61, v63, (.fn (.func 30) [] [])]) fun v64 H9 =>
 doQ (pickF (some v59) (some v64) (some (.v (.bool false)))) fun v65 =>
 Q v65 H9)
theorem vq_mail_Same : VC_mail_Same = fun g x0 x1 H Q => wp env Try.f73 none 0 lv_mail_Same cu_mail_Same Q 500 [.code bd_mail_Same] (ofL g [(0, x0), (1, x1)]) H := by kernel_rfl
theorem vc_mail_Same (x0 x1 : AV) (H : Heap) (Q : AV → Heap → Prop) (h : ∀ g, VC_mail_Same g x0 x1 H Q) : GoL env Try.f73 0 [.code bd_mail_Same] [(0, x0), (1, x1)] H Q := ⟨fun g => wp_ok (by have h := h g; rw [vq_mail_Same] at h; exact h)⟩
noncomputable def bd_mail_kindsF1 : Code := (Try.f111.body).getD .skip
def lv_mail_kindsF1 : Nat → Option (List Nat) := fun i => none
def cu_mail_kindsF1 : Nat → Bool := fun i => false
def VC_mail_kindsF1 (g : Nat → AV) (x0 : AV) (H : Heap) (Q : AV → Heap → Prop) : Prop :=
 doW (nRes H (⟨0, 1, Heap.gen H 0 1, 0⟩ : Ref) (qBox env.P (⟨0, 1, Heap.gen H 0 1, 0⟩ : Ref) 60 (some x0))) fun v1 H1 =>
 Q (.v (.bool true)) H1
theorem vq_mail_kindsF1 : VC_mail_kindsF1 = fun g x0 H Q => wp env Try.f111 none 0 lv_mail_kindsF1 cu_mail_kindsF1 Q 500 [.code bd_mail_kindsF1] (ofL g [(0, x0)]) H := by kernel_rfl
theorem vc_mail_kindsF1 (x0 : AV) (H : Heap) (Q : AV → Heap → Prop) (h : ∀ g, VC_mail_kindsF1 g x0 H Q) : GoL env Try.f111 0 [.code bd_mail_kindsF1] [(0, x0)] H Q := ⟨fun g => wp_ok (by have h := h g; rw [vq_mail_kindsF1] at h; exact h)⟩
noncomputable def bd_mail_kindsF2 : Code := (Try.f112.body).getD .skip
def lv_mail_kindsF2 : Nat → Option (List Nat) := fun i => none
def cu_mail_kindsF2 : Nat → Bool := fun i => false
def VC_mail_kindsF2 (g : Nat → AV) (x0 : AV) (H : Heap) (Q : AV → Heap → Prop) : Prop :=
 doW (nRes H (⟨0, 1, Heap.gen H 0 1, 0⟩ : Ref) (qBox env.P (⟨0, 1, Heap.gen H 0 1, 0⟩ : Ref) 60 (some x0))) fun v1 H1 =>
 doQ (qFieldAddr env.P 60 (some v1) 6) fun v2 =>
 doQ (qLoad env.P (Heap.get H1) 5 (some v2)) fun v3 =>
 doQ (qBin env.P .eql 5 (.tmp 4) (.const (.int .u8 1)) (some v3) (some (a8 1))) fun v4 =>
 gQ v4 false (qFieldAddr env.P 60 (some v1) 6) fun v5 =>
 gQ v4 false (qLoad env.P (Heap.get H1) 5 (some v5)) fun v6 =>
 gQ v4 false (qBin env.P .eql 5 (.tmp 8) (.const (.int .u8 2)) (some v6) (some (a8 2))) fun v7 =>
 doQ (pickF (some v4) (some (.v (.bool true))) (some v7)) fun v8 =>
 Q v8 H1
theorem vq_mail_kindsF2 : VC_mail_kindsF2 = fun g x0 H Q => wp env Try.f112 none 0 lv_mail_kindsF2 cu_mail_kindsF2 Q 500 [.code bd_mail_kindsF2] (ofL g [(0, x0)]) H := by kernel_rfl
theorem vc_mail_kindsF2 (x0 : AV) (H : Heap) (Q : AV → Heap → Prop) (h : ∀ g, VC_mail_kindsF2 g x0 H Q) : GoL env Try.f112 0 [.code bd_mail_kindsF2] [(0, x0)] H Q := ⟨fun g => wp_ok (by have h := h g; rw [vq_mail_kindsF2] at h; exact h)⟩
noncomputable def bd_mail_kindsF3 : Code := (Try.f113.body).getD .skip
def lv_mail_kindsF3 : Nat → Option (List Nat) := fun i => none
def cu_mail_kindsF3 : Nat → Bool := fun i => false
def VC_mail_kindsF3 (dep : Nat) (g : Nat → AV) (x0 x1 : AV) (H : Heap) (Q : AV → Heap → Prop) : Prop :=
 doQ (qNil (some x1)) fun v1 =>
 doQ (qFieldAddr env.P 60 (some v1) 1) fun v2 =>
 doW (callRes env true (limf env) (limt env (dep + 1)) H (⟨(dep + 1), 8, Heap.gen H (dep + 1) 8, 0⟩ : Ref) (some (.fn (.func 114) [] [])) [x0, v2, (.v (.int .i64 1))]) fun v3 H1 =>
 Q (.v (.tuple #[])) H1
theorem vq_mail_kindsF3 (dep : Nat) : VC_mail_kindsF3 dep = fun g x0 x1 H Q => wp env Try.f113 none (dep + 1) lv_mail_kindsF3 cu_mail_kindsF3 Q 500 [.code bd_mail_kindsF3] (ofL g [(0, x0), (1, x1)]) H := by kernel_rfl
theorem vc_mail_kindsF3 (dep : Nat) (x0 x1 : AV) (H : Heap) (Q : AV → Heap → Prop) (h : ∀ g, VC_mail_kindsF3 dep g x0 x1 H Q) : GoL env Try.f113 (dep + 1) [.code bd_mail_kindsF3] [(0, x0), (1, x1)] H Q := ⟨fun g => wp_ok (by have h := h g; rw [vq_mail_kindsF3] at h; exact h)⟩
noncomputable def bd___blindstamp_mail_pen__number : Code := (Try.f114.body).getD .skip
noncomputable def hd___blindstamp_mail_pen__number_3 : List Item := (findLoop 3 400 [.code bd___blindstamp_mail_pen__number]).getD []
noncomputable def hd___blindstamp_mail_pen__number_10 : List Item := (findLoop 10 400 [.code bd___blindstamp_mail_pen__number]).getD []
def lv___blindstamp_mail_pen__number : Nat → Option (List Nat) := fun i => cond (Nat.beq i 3) (some [6, 1, 0]) (cond (Nat.beq i 10) (some [87, 1, 85, 2, 0, 86]) (none))
def cu___blindstamp_mail_pen__number : Nat → Bool := fun i => false
def VC___blindstamp_mail_pen__number (dep : Nat) (g : Nat → AV) (x0 x1 x2 : AV) (H : Heap) (Q : AV → Heap → Prop) : Prop :=
 doQ (qNil (some x0)) fun v1 =>
 doQ (qFieldAddr env.P 132 (some v1) 1) fun v2 =>
 doQ (qLoad env.P (Heap.get H) 4 (some v2)) fun v3 =>
 doQ (qUn env.P .not (some v3)) fun v4 =>
 br (some v4) (
 doQ (qNil (some x0)) fun v5 =>
 doQ (qFieldAddr env.P 132 (some v5) 2) fun v6 =>
 doQ (qLoad env.P (Heap.get H) 4 (some v6)) fun v7 =>
 gQ v7 false (qVal (some x1)) fun v8 =>
 gQ v7 false (qNil (some v8)) fun v9 =>
 gQ v7 false (qLoad env.P (Heap.get H) 3 (some v9)) fun v10 =>
 gQ v7 false (qBin env.P .lss 3 (.tmp 22) (.const (.int .i64 0)) (some v10) (some (.v (.int .i64 0)))) fun v11 =>
 doQ (pickF (some v7) (some (.v (.bool true))) (some v11)) fun v12 =>
 gQ v12 false (qVal (some x1)) fun v13 =>
 gQ v12 false (qNil (some v13)) fun v14 =>
 gQ v12 false (qLoad env.P (Heap.get H) 3 (some v14)) fun v15 =>
 gQ v12 false (qVal (some x2)) fun v16 =>
 gQ v12 false (qBin env.P .mul 3 (.const (.int .i64 8)) (.tmp 29) (some (.v (.int .i64 8))) (some v16)) fun v17 =>
 gQ v12 false (qBin env.P .shl 3 (.const (.int .i64 1)) (.tmp 30) (some (.v (.int .i64 1))) (some v17)) fun v18 =>
 gQ v12 false (qBin env.P .geq 3 (.tmp 28) (.tmp 31) (some v15) (some v18)) fun v19 =>
 doQ (pickF (some v12) (some (.v (.bool true))) (some v19)) fun v20 =>
 doQ (qNil (some x0)) fun v21 =>
 doQ (qFieldAddr env.P 132 (some v21) 2) fun v22 =>
 doW (wStore env.P H 4 (some v22) (some v20)) fun v23 H1 =>
 doQ (qBin env.P .sub 3 (.tmp 36) (.const (.int .i64 1)) (some x2) (some (.v (.int .i64 1)))) fun v24 =>
   GoL env Try.f114 (dep + 1) hd___blindstamp_mail_pen__number_3 [(6, v24), (1, x1), (0, x0)] H1 Q) (
 doQ (qNil (some x0)) fun v5 =>
 doQ (qFieldAddr env.P 132 (some v5) 2) fun v6 =>
 doQ (qLoad env.P (Heap.get H) 4 (some v6)) fun v7 =>
 gQ v7 false (qVal (some x0)) fun v8 =>
 gQ v7 false (qNil (some v8)) fun v9 =>
 gQ v7 false (qFieldAddr env.P 132 (some v9) 0) fun v10 =>
 gQ v7 false (qLoad env.P (Heap.get H) 34 (some v10)) fun v11 =>
 gQ v7 false (qBuiltin env.P false (Heap.get H) (⟨(dep + 1), 68, Heap.gen H (dep + 1) 68, 0⟩ : Ref) .len #[34] [v11]) fun v12 =>
 gQ v7 false (qVal (some x2)) fun v13 =>
 gQ v7 false (qBin env.P .lss 3 (.tmp 68) (.tmp 69) (some v12) (some v13)) fun v14 =>
 doQ (pickF (some v7) (some (.v (.bool true))) (some v14)) fun v15 =>
 doQ (qNil (some x0)) fun v16 =>
 doQ (qFieldAddr env.P 132 (some v16) 2) fun v17 =>
 doW (wStore env.P H 4 (some v17) (some v15)) fun v18 H1 =>
 doQ (qNil (some x0)) fun v19 =>
 doQ (qFieldAddr env.P 132 (some v19) 2) fun v20 =>
 doQ (qLoad env.P (Heap.get H1) 4 (some v20)) fun v21 =>
 br (some v21) (
 Q (.v (.tuple #[])) H1) (
 doQ (qNil (some x1)) fun v22 =>
 doW (wStore env.P H1 3 (some v22) (some (.v (.int .i64 0)))) fun v23 H2 =>
 doQ (qNil (some x0)) fun v24 =>
 doQ (qFieldAddr env.P 132 (some v24) 0) fun v25 =>
 doQ (qLoad env.P (Heap.get H2) 34 (some v25)) fun v26 =>
 doQ (qSlice env.P (Heap.get H2) 34 (some v26) (some none) (oi x2) (some none)) fun v27 =>
 doQ (qBuiltin env.P false (Heap.get H2) (⟨(dep + 1), 86, Heap.gen H2 (dep + 1) 86, 0⟩ : Ref) .len #[34] [v27]) fun v28 =>
    GoL env Try.f114 (dep + 1) hd___blindstamp_mail_pen__number_10 [(87, (.v (.int .i64 0))), (1, x1), (85, v27), (2, x2), (0, x0), (86, v28)] H2 Q))
theorem vq___blindstamp_mail_pen__number (dep : Nat) : VC___blindstamp_mail_pen__number dep = fun g x0 x1 x2 H Q => wp env Try.f114 none (dep + 1) lv___blindstamp_mail_pen__number cu___blindstamp_mail_pen__number Q 500 [.code bd___blindstamp_mail_pen__number] (ofL g [(0, x0), (1, x1), (2, x2)]) H := by kernel_rfl
theorem vc___blindstamp_mail_pen__number (dep : Nat) (x0 x1 x2 : AV) (H : Heap) (Q : AV → Heap → Prop) (h : ∀ g, VC___blindstamp_mail_pen__number dep g x0 x1 x2 H Q) : GoL env Try.f114 (dep + 1) [.code bd___blindstamp_mail_pen__number] [(0, x0), (1, x1), (2, x2)] H Q := ⟨fun g => wp_ok (by have h := h g; rw [vq___blindstamp_mail_pen__number] at h; exact h)⟩
def VC___blindstamp_mail_pen__number_3 (dep : Nat) (g : Nat → AV) (x6 x1 x0 : AV) (H : Heap) (Q : AV → Heap → Prop) : Prop :=
 doQ (qBin env.P .geq 3 (.tmp 38) (.const (.int .i64 0)) (some x6) (some (.v (.int .i64 0)))) fun v1 =>
 br (some v1) (
 doQ (qNil (some x0)) fun v2 =>
 doQ (qFieldAddr env.P 132 (some v2) 0) fun v3 =>
 doQ (qLoad env.P (Heap.get H) 34 (some v3)) fun v4 =>
 doQ (qNil (some x1)) fun v5 =>
 doQ (qLoad env.P (Heap.get H) 3 (some v5)) fun v6 =>
 doQ (qBin env.P .mul 3 (.const (.int .i64 8)) (.tmp 50) (some (.v (.int .i64 8))) (some x6)) fun v7 =>
 doQ (qBin env.P .shr 3 (.tmp 49) (.tmp 51) (some v6) (some v7)) fun v8 =>
 doQ (qConvert env.P (Heap.get H) (⟨(dep + 1), 53, Heap.gen H (dep + 1) 53, 0⟩ : Ref) 3 5 (some v8)) fun v9 =>
 doW (bsRes env.P true false H (⟨(dep + 1), 54, Heap.gen H (dep + 1) 54, 0⟩ : Ref) 34 1 (some [(0, v9)])) fun v10 H1 =>
 doW (appRes env.P true H1 (⟨(dep + 1), 55, Heap.gen H1 (dep + 1) 55, 0⟩ : Ref) (some 34) (some 34) v4 v10) fun v11 H2 =>
 doQ (qNil (some x0)) fun v12 =>
 doQ (qFieldAddr env.P 132 (some v12) 0) fun v13 =>
 doW (wStore env.P H2 34 (some v13) (some v11)) fun v14 H3 =>
 doQ (qBin env.P .sub 3 (.tmp 40) (.const (.int .i64 1)) (some x6) (some (.v (.int .i64 1)))) fun v15 =>
   GoL env Try.f114 (dep + 1) hd___blindstamp_mail_pen__number_3 [(6, v15), (1, x1), (0, x0)] H3 Q) (
 Q (.v (.tuple #[])) H)
theorem vq___blindstamp_mail_pen__number_3 (dep : Nat) : VC___blindstamp_mail_pen__number_3 dep = fun g x6 x1 x0 H Q => wp env Try.f114 none (dep + 1) lv___blindstamp_mail_pen__number cu___blindstamp_mail_pen__number Q 500 (bodyOf hd___blindstamp_mail_pen__number_3) (ofL g [(6, x6), (1, x1), (0, x0)]) H := by kernel_rfl
theorem vc___blindstamp_mail_pen__number_3 (dep : Nat) (x6 x1 x0 : AV) (H : Heap) (Q : AV → Heap → Prop) (h : ∀ g, VC___blindstamp_mail_pen__number_3 dep g x6 x1 x0 H Q) : GoL env Try.f114 (dep + 1) hd___blindstamp_mail_pen__number_3 [(6, x6), (1, x1), (0, x0)] H Q := goL_body fun g => wp_ok (by have h := h g; rw [vq___blindstamp_mail_pen__number_3] at h; exact h)
def VC___blindstamp_mail_pen__number_10 (dep : Nat) (g : Nat → AV) (x87 x1 x85 x2 x0 x86 : AV) (H : Heap) (Q : AV → Heap → Prop) : Prop :=
 doQ (qBin env.P .lss 3 (.tmp 87) (.tmp 86) (some x87) (some x86)) fun v1 =>
 br (some v1) (
 doQ (qIndexAddr env.P (Heap.get H) 34 (some x85) (some x87)) fun v2 =>
 doQ (qLoad env.P (Heap.get H) 5 (some v2)) fun v3 =>
 doQ (qNil (some x1)) fun v4 =>
 doQ (qLoad env.P (Heap.get H) 3 (some v4)) fun v5 =>
 doQ (qBin env.P .shl 3 (.tmp 94) (.const (.int .u64 8)) (some v5) (some (.v (.int .u64 8)))) fun v6 =>
 doQ (qConvert env.P (Heap.get H) (⟨(dep + 1), 97, Heap.gen H (dep + 1) 97, 0⟩ : Ref) 5 3 (some v3)) fun v7 =>
 doQ (qBin env.P .or 3 (.tmp 95) (.tmp 97) (some v6) (some v7)) fun v8 =>
 doQ (qNil (some x1)) fun v9 =>
 doW (wStore env.P H 3 (some v9) (some v8)) fun v10 H1 =>
 doQ (qBin env.P .add 3 (.tmp 87) (.const (.int .i64 1)) (some x87) (some (.v (.int .i64 1)))) fun v11 =>
   GoL env Try.f114 (dep + 1) hd___blindstamp_mail_pen__number_10 [(87, v11), (1, x1), (85, x85), (2, x2), (0, x0), (86, x86)] H1 Q) (
 doQ (qNil (some x0)) fun v2 =>
 doQ (qFieldAddr env.P 132 (some v2) 0) fun v3 =>
 doQ (qLoad env.P (Heap.get H) 34 (some v3)) fun v4 =>
 doQ (qSlice env.P (Heap.get H) 34 (some v4) (oi x2) (some none) (some none)) fun v5 =>
 doQ (qNil (some x0)) fun v6 =>
 doQ (qFieldAddr env.P 132 (some v6) 0) fun v7 =>
 doW (wStore env.P H 34 (some v7) (some v5)) fun v8 H1 =>
 Q (.v (.tuple #[])) H1)
theorem vq___blindstamp_mail_pen__number_10 (dep : Nat) : VC___blindstamp_mail_pen__number_10 dep = fun g x87 x1 x85 x2 x0 x86 H Q => wp env Try.f114 none (dep + 1) lv___blindstamp_mail_pen__number cu___blindstamp_mail_pen__number Q 500 (bodyOf hd___blindstamp_mail_pen__number_10) (ofL g [(87, x87), (1, x1), (85, x85), (2, x2), (0, x0), (86, x86)]) H := by kernel_rfl
theorem vc___blindstamp_mail_pen__number_10 (dep : Nat) (x87 x1 x85 x2 x0 x86 : AV) (H : Heap) (Q : AV → Heap → Prop) (h : ∀ g, VC___blindstamp_mail_pen__number_10 dep g x87 x1 x85 x2 x0 x86 H Q) : GoL env Try.f114 (dep + 1) hd___blindstamp_mail_pen__number_10 [(87, x87), (1, x1), (85, x85), (2, x2), (0, x0), (86, x86)] H Q := goL_body fun g => wp_ok (by have h := h g; rw [vq___blindstamp_mail_pen__number_10] at h; exact h)
noncomputable def bd_mail_kindsF4 : Code := (Try.f115.body).getD .skip
def lv_mail_kindsF4 : Nat → Option (List Nat) := fun i => none
def cu_mail_kindsF4 : Nat → Bool := fun i => false
def VC_mail_kindsF4 (dep : Nat) (g : Nat → AV) (x0 x1 : AV) (H : Heap) (Q : AV → Heap → Prop) : Prop :=
 doQ (qNil (some x1)) fun v1 =>
 doQ (qFieldAddr env.P 60 (some v1) 8) fun v2 =>
 doW (callRes env true (limf env) (limt env (dep + 1)) H (⟨(dep + 1), 8, Heap.gen H (dep + 1) 8, 0⟩ : Ref) (some (.fn (.func 116) [] [])) [x0, v2, (.v (.int .i64 1))]) fun v3 H1 =>
 Q (.v (.tuple #[])) H1
theorem vq_mail_kindsF4 (dep : Nat) : VC_mail_kindsF4 dep = fun g x0 x1 H Q => wp env Try.f115 none (dep + 1) lv_mail_kindsF4 cu_mail_kindsF4 Q 500 [.code bd_mail_kindsF4] (ofL g [(0, x0), (1, x1)]) H := by kernel_rfl
theorem vc_mail_kindsF4 (dep : Nat) (x0 x1 : AV) (H : Heap) (Q : AV → Heap → Prop) (h : ∀ g, VC_mail_kindsF4 dep g x0 x1 H Q) : GoL env Try.f115 (dep + 1) [.code bd_mail_kindsF4] [(0, x0), (1, x1)] H Q := ⟨fun g => wp_ok (by have h := h g; rw [vq_mail_kindsF4] at h; exact h)⟩
noncomputable def bd___blindstamp_mail_pen__ops : Code := (Try.f116.body).getD .skip
noncomputable def hd___blindstamp_mail_pen__ops_1 : List Item := (findLoop 1 400 [.code bd___blindstamp_mail_pen__ops]).getD []
def lv___blindstamp_mail_pen__ops : Nat → Option (List Nat) := fun i => cond (Nat.beq i 1) (some [6, 0, 1, 2]) (none)
def cu___blindstamp_mail_pen__ops : Nat → Bool := fun i => false
def VC___blindstamp_mail_pen__ops (dep : Nat) (g : Nat → AV) (x0 x1 x2 : AV) (H : Heap) (Q : AV → Heap → Prop) : Prop :=
  GoL env Try.f116 (dep + 1) hd___blindstamp_mail_pen__ops_1 [(6, (.v (.int .i64 0))), (0, x0), (1, x1), (2, x2)] H Q
theorem vq___blindstamp_mail_pen__ops (dep : Nat) : VC___blindstamp_mail_pen__ops dep = fun g x0 x1 x2 H Q => wp env Try.f116 none (dep + 1) lv___blindstamp_mail_pen__ops cu___blindstamp_mail_pen__ops Q 500 [.code bd___blindstamp_mail_pen__ops] (ofL g [(0, x0), (1, x1), (2, x2)]) H := by kernel_rfl
theorem vc___blindstamp_mail_pen__ops (dep : Nat) (x0 x1 x2 : AV) (H : Heap) (Q : AV → Heap → Prop) (h : ∀ g, VC___blindstamp_mail_pen__ops dep g x0 x1 x2 H Q) : GoL env Try.f116 (dep + 1) [.code bd___blindstamp_mail_pen__ops] [(0, x0), (1, x1), (2, x2)] H Q := ⟨fun g => wp_ok (by have h := h g; rw [vq___blindstamp_mail_pen__ops] at h; exact h)⟩
def VC___blindstamp_mail_pen__ops_1 (dep : Nat) (g : Nat → AV) (x6 x0 x1 x2 : AV) (H : Heap) (Q : AV → Heap → Prop) : Prop :=
 doQ (qBin env.P .lss 3 (.tmp 12) (.tmp 13) (some x6) (some x2)) fun v1 =>
 gQ v1 true (qVal (some x0)) fun v2 =>
 gQ v1 true (qNil (some v2)) fun v3 =>
 gQ v1 true (qFieldAddr env.P 132 (some v3) 2) fun v4 =>
 gQ v1 true (qLoad env.P (Heap.get H) 4 (some v4)) fun v5 =>
 gQ v1 true (qUn env.P .not (some v5)) fun v6 =>
 doQ (pickF (some v1) (some v6) (some (.v (.bool false)))) fun v7 =>
 br (some v7) (
 doQ (qNil (some x0)) fun v8 =>
 doQ (qFieldAddr env.P 132 (some v8) 1) fun v9 =>
 doQ (qLoad env.P (Heap.get H) 4 (some v9)) fun v10 =>
 doQ (qUn env.P .not (some v10)) fun v11 =>
 br (some v11) (
 doQ (qNil (some x1)) fun v12 =>
 doQ (qLoad env.P (Heap.get H) 58 (some v12)) fun v13 =>
 doQ (qIndexAddr env.P (Heap.get H) 58 (some v13) (some x6)) fun v14 =>
 doQ (qLoad env.P (Heap.get H) 33 (some v14)) fun v15 =>
 doW (callRes env true (limf env) (limt env (dep + 1)) H (⟨(dep + 1), 36, Heap.gen H (dep + 1) 36, 0⟩ : Ref) (some (.fn (.func 14) [] [])) [v15]) fun v16 H1 =>
 doQ (qExtract (some v16) 0) fun v17 =>
 doQ (qExtract (some v16) 1) fun v18 =>
 doQ (qNil (some x0)) fun v19 =>
 doQ (qFieldAddr env.P 132 (some v19) 0) fun v20 =>
 doQ (qLoad env.P (Heap.get H1) 34 (some v20)) fun v21 =>
 doW (appRes env.P true H1 (⟨(dep + 1), 46, Heap.gen H1 (dep + 1) 46, 0⟩ : Ref) (some 34) (some 34) v21 v17) fun v22 H2 =>
 doQ (qBin env.P .neq 36 (.tmp 47) (.const (.int .i64 0)) (some v18) (some (.v (.int .i64 0)))) fun v23 =>
 doQ (qNil (some x0)) fun v24 =>
 doQ (qFieldAddr env.P 132 (some v24) 0) fun v25 =>
 doW (wStore env.P H2 34 (some v25) (some v22)) fun v26 H3 =>
 doQ (qNil (some x0)) fun v27 =>
 doQ (qFieldAddr env.P 132 (some v27) 2) fun v28 =>
 doW (wStore env.P H3 4 (some v28) (some v23)) fun v29 H4 =>
 doQ (qBin env.P .add 3 (.tmp 22) (.const (.int .i64 1)) (some x6) (some (.v (.int .i64 1)))) fun v30 =>
    GoL env Try.f116 (dep + 1) hd___blindstamp_mail_pen__ops_1 [(6, v30), (0, x0), (1, x1), (2, x2)] H4 Q) (
 doQ (qNil (some x0)) fun v12 =>
 doQ (qFieldAddr env.P 132 (some v12) 0) fun v13 =>
 doQ (qLoad env.P (Heap.get H) 34 (some v13)) fun v14 =>
 doW (callRes env true (limf env) (limt env (dep + 1)) H (⟨(dep + 1), 58, Heap.gen H (dep + 1) 58, 0⟩ : Ref) (some (.fn (.func 15) [] [])) [v14]) fun v15 H1 =>
 doQ (qExtract (some v15) 0) fun v16 =>
 doQ (qExtract (some v15) 1) fun v17 =>
 doQ (qExtract (some v15) 2) fun v18 =>
 doW (nRes H1 (⟨(dep + 1), 9, Heap.gen H1 (dep + 1) 9, 0⟩ : Ref) (qAlloc env.P (⟨(dep + 1), 9, Heap.gen H1 (dep + 1) 9, 0⟩ : Ref) 33)) fun v19 H2 =>
 doW (wStore env.P H2 33 (some v19) (some v16)) fun v20 H3 =>
 doQ (qBin env.P .neq 36 (.tmp 63) (.const (.int .i64 0)) (some v18) (some (.v (.int .i64 0)))) fun v21 =>
 doQ (qNil (some x0)) fun v22 =>
 doQ (qFieldAddr env.P 132 (some v22) 2) fun v23 =>
 doW (wStore env.P H3 4 (some v23) (some v21)) fun v24 H4 =>
 doQ (qNil (some x0)) fun v25 =>
 doQ (qFieldAddr env.P 132 (some v25) 2) fun v26 =>
 doQ (qLoad env.P (Heap.get H4) 4 (some v26)) fun v27 =>
 doQ (qUn env.P .not (some v27)) fun v28 =>
 br (some v28) (
 doQ (qNil (some x1)) fun v29 =>
 doQ (qLoad env.P (Heap.get H4) 58 (some v29)) fun v30 =>
 doQ (qLoad env.P (Heap.get H4) 33 (some v19)) fun v31 =>
 doW (bsRes env.P true false H4 (⟨(dep + 1), 78, Heap.gen H4 (dep + 1) 78, 0⟩ : Ref) 58 1 (some [(0, v31)])) fun v32 H5 =>
 doW (appRes env.P true H5 (⟨(dep + 1), 79, Heap.gen H5 (dep + 1) 79, 0⟩ : Ref) (some 58) (some 58) v30 v32) fun v33 H6 =>
 doQ (qNil (some x0)) fun v34 =>
 doQ (qFieldAddr env.P 132 (some v34) 0) fun v35 =>
 doQ (qLoad env.P (Heap.get H6) 34 (some v35)) fun v36 =>
 doQ (qSlice env.P (Heap.get H6) 34 (some v36) (oi v17) (some none) (some none)) fun v37 =>
 doQ (qNil (some x1)) fun v38 =>
 doW (wStore env.P H6 58 (some v38) (some v33)) fun v39 H7 =>
 doQ (qNil (some x0)) fun v40 =>
 doQ (qFieldAddr env.P 132 (some v40) 0) fun v41 =>
 doW (wStore env.P H7 34 (some v41) (some v37)) fun v42 H8 =>
     apartV [(v30, v35), (v30, v36), (v36, v38)] [v38, v41] [] H8 ∧
 (doQ (qBin env.P .add 3 (.tmp 22) (.const (.int .i64 1)) (some x6) (some (.v (.int .i64 1)))) fun v43 =>
     GoL env Try.f116 (dep + 1) hd___blindstamp_mail_pen__ops_1 [(6, v43), (0, x0), (1, x1), (2, x2)] H8 Q)) (
 doQ (qBin env.P .add 3 (.tmp 22) (.const (.int .i64 1)) (some x6) (some (.v (.int .i64 1)))) fun v29 =>
     GoL env Try.f116 (dep + 1) hd___blindstamp_mail_pen__ops_1 [(6, v29), (0, x0), (1, x1), (2, x2)] H4 Q))) (
 Q (.v (.tuple #[])) H)
theorem vq___blindstamp_mail_pen__ops_1 (dep : Nat) : VC___blindstamp_mail_pen__ops_1 dep = fun g x6 x0 x1 x2 H Q => wp env Try.f116 none (dep + 1) lv___blindstamp_mail_pen__ops cu___blindstamp_mail_pen__ops Q 500 (bodyOf hd___blindstamp_mail_pen__ops_1) (ofL g [(6, x6), (0, x0), (1, x1), (2, x2)]) H := by kernel_rfl
theorem vc___blindstamp_mail_pen__ops_1 (dep : Nat) (x6 x0 x1 x2 : AV) (H : Heap) (Q : AV → Heap → Prop) (h : ∀ g, VC___blindstamp_mail_pen__ops_1 dep g x6 x0 x1 x2 H Q) : GoL env Try.f116 (dep + 1) hd___blindstamp_mail_pen__ops_1 [(6, x6), (0, x0), (1, x1), (2, x2)] H Q := goL_body fun g => wp_ok (by have h := h g; rw [vq___blindstamp_mail_pen__ops_1] at h; exact h)
noncomputable def bd_mail_kindsF5 : Code := (Try.f117.body).getD .skip
def lv_mail_kindsF5 : Nat → Option (List Nat) := fun i => none
def cu_mail_kindsF5 : Nat → Bool := fun i => false
def VC_mail_kindsF5 (g : Nat → AV) (x0 : AV) (H : Heap) (Q : AV → Heap → Prop) : Prop :=
 doW (nRes H (⟨0, 1, Heap.gen H 0 1, 0⟩ : Ref) (qBox env.P (⟨0, 1, Heap.gen H 0 1, 0⟩ : Ref) 60 (some x0))) fun v1 H1 =>
 doQ (qFieldAddr env.P 60 (some v1) 8) fun v2 =>
 doQ (qLoad env.P (Heap.get H1) 58 (some v2)) fun v3 =>
 doQ (qIndexAddr env.P (Heap.get H1) 58 (some v3) (some (.v (.int .i64 0)))) fun v4 =>
 doQ (qLoad env.P (Heap.get H1) 33 (some v4)) fun v5 =>
 doW (callRes env true (limf env) (limt env 0) H1 (⟨0, 7, Heap.gen H1 0 7, 0⟩ : Ref) (some (.fn (.func 22) [] [])) [v5]) fun v6 H2 =>
 Q v6 H2
theorem vq_mail_kindsF5 : VC_mail_kindsF5 = fun g x0 H Q => wp env Try.f117 none 0 lv_mail_kindsF5 cu_mail_kindsF5 Q 500 [.code bd_mail_kindsF5] (ofL g [(0, x0)]) H := by kernel_rfl
theorem vc_mail_kindsF5 (x0 : AV) (H : Heap) (Q : AV → Heap → Prop) (h : ∀ g, VC_mail_kindsF5 g x0 H Q) : GoL env Try.f117 0 [.code bd_mail_kindsF5] [(0, x0)] H Q := ⟨fun g => wp_ok (by have h := h g; rw [vq_mail_kindsF5] at h; exact h)⟩
noncomputable def bd_mail_kindsF6 : Code := (Try.f118.body).getD .skip
def lv_mail_kindsF6 : Nat → Option (List Nat) := fun i => none
def cu_mail_kindsF6 : Nat → Bool := fun i => false
def VC_mail_kindsF6 (dep : Nat) (g : Nat → AV) (x0 x1 : AV) (H : Heap) (Q : AV → Heap → Prop) : Prop :=
 doQ (qNil (some x1)) fun v1 =>
 doQ (qFieldAddr env.P 60 (some v1) 4) fun v2 =>
 doW (callRes env true (limf env) (limt env (dep + 1)) H (⟨(dep + 1), 8, Heap.gen H (dep + 1) 8, 0⟩ : Ref) (some (.fn (.func 114) [] [])) [x0, v2, (.v (.int .i64 3))]) fun v3 H1 =>
 Q (.v (.tuple #[])) H1
theorem vq_mail_kindsF6 (dep : Nat) : VC_mail_kindsF6 dep = fun g x0 x1 H Q => wp env Try.f118 none (dep + 1) lv_mail_kindsF6 cu_mail_kindsF6 Q 500 [.code bd_mail_kindsF6] (ofL g [(0, x0), (1, x1)]) H := by kernel_rfl
theorem vc_mail_kindsF6 (dep : Nat) (x0 x1 : AV) (H : Heap) (Q : AV → Heap → Prop) (h : ∀ g, VC_mail_kindsF6 dep g x0 x1 H Q) : GoL env Try.f118 (dep + 1) [.code bd_mail_kindsF6] [(0, x0), (1, x1)] H Q := ⟨fun g => wp_ok (by have h := h g; rw [vq_mail_kindsF6] at h; exact h)⟩
noncomputable def bd_mail_asked : Code := (Try.f119.body).getD .skip
def lv_mail_asked : Nat → Option (List Nat) := fun i => none
def cu_mail_asked : Nat → Bool := fun i => false
def VC_mail_asked (dep : Nat) (g : Nat → AV) (x0 x1 : AV) (H : Heap) (Q : AV → Heap → Prop) : Prop :=
 doQ (qNil (some x1)) fun v1 =>
 doQ (qFieldAddr env.P 60 (some v1) 6) fun v2 =>
 doQ (qLoad env.P (Heap.get H) 5 (some v2)) fun v3 =>
 doQ (qConvert env.P (Heap.get H) (⟨(dep + 1), 9, Heap.gen H (dep + 1) 9, 0⟩ : Ref) 5 3 (some v3)) fun v4 =>
 doW (nRes H (⟨(dep + 1), 4, Heap.gen H (dep + 1) 4, 0⟩ : Ref) (qAlloc env.P (⟨(dep + 1), 4, Heap.gen H (dep + 1) 4, 0⟩ : Ref) 3)) fun v5 H1 =>
 doW (wStore env.P H1 3 (some v5) (some v4)) fun v6 H2 =>
 doW (callRes env true (limf env) (limt env (dep + 1)) H2 (⟨(dep + 1), 11, Heap.gen H2 (dep + 1) 11, 0⟩ : Ref) (some (.fn (.func 114) [] [])) [x0, v5, (.v (.int .i64 1))]) fun v7 H3 =>
 doQ (qLoad env.P (Heap.get H3) 3 (some v5)) fun v8 =>
 doQ (qConvert env.P (Heap.get H3) (⟨(dep + 1), 14, Heap.gen H3 (dep + 1) 14, 0⟩ : Ref) 3 5 (some v8)) fun v9 =>
 doQ (qNil (some x1)) fun v10 =>
 doQ (qFieldAddr env.P 60 (some v10) 6) fun v11 =>
 doW (wStore env.P H3 5 (some v11) (some v9)) fun v12 H4 =>
 Q (.v (.tuple #[])) H4
theorem vq_mail_asked (dep : Nat) : VC_mail_asked dep = fun g x0 x1 H Q => wp env Try.f119 none (dep + 1) lv_mail_asked cu_mail_asked Q 500 [.code bd_mail_asked] (ofL g [(0, x0), (1, x1)]) H := by kernel_rfl
theorem vc_mail_asked (dep : Nat) (x0 x1 : AV) (H : Heap) (Q : AV → Heap → Prop) (h : ∀ g, VC_mail_asked dep g x0 x1 H Q) : GoL env Try.f119 (dep + 1) [.code bd_mail_asked] [(0, x0), (1, x1)] H Q := ⟨fun g => wp_ok (by have h := h g; rw [vq_mail_asked] at h; exact h)⟩
noncomputable def bd_mail_kindsF7 : Code := (Try.f120.body).getD .skip
def lv_mail_kindsF7 : Nat → Option (List Nat) := fun i => none
def cu_mail_kindsF7 : Nat → Bool := fun i => false
def VC_mail_kindsF7 (dep : Nat) (g : Nat → AV) (x0 x1 : AV) (H : Heap) (Q : AV → Heap → Prop) : Prop :=
 Q (.v (.tuple #[])) H
theorem vq_mail_kindsF7 (dep : Nat) : VC_mail_kindsF7 dep = fun g x0 x1 H Q => wp env Try.f120 none (dep + 1) lv_mail_kindsF7 cu_mail_kindsF7 Q 500 [.code bd_mail_kindsF7] (ofL g [(0, x0), (1, x1)]) H := by kernel_rfl
theorem vc_mail_kindsF7 (dep : Nat) (x0 x1 : AV) (H : Heap) (Q : AV → Heap → Prop) (h : ∀ g, VC_mail_kindsF7 dep g x0 x1 H Q) : GoL env Try.f120 (dep + 1) [.code bd_mail_kindsF7] [(0, x0), (1, x1)] H Q := ⟨fun g => wp_ok (by have h := h g; rw [vq_mail_kindsF7] at h; exact h)⟩
noncomputable def bd_mail_told : Code := (Try.f121.body).getD .skip
def lv_mail_told : Nat → Option (List Nat) := fun i => none
def cu_mail_told : Nat → Bool := fun i => false
def VC_mail_told (dep : Nat) (g : Nat → AV) (x0 x1 : AV) (H : Heap) (Q : AV → Heap → Prop) : Prop :=
 doQ (qNil (some x1)) fun v1 =>
 doQ (qFieldAddr env.P 60 (some v1) 3) fun v2 =>
 doQ (qLoad env.P (Heap.get H) 36 (some v2)) fun v3 =>
 doW (nRes H (⟨(dep + 1), 4, Heap.gen H (dep + 1) 4, 0⟩ : Ref) (qAlloc env.P (⟨(dep + 1), 4, Heap.gen H (dep + 1) 4, 0⟩ : Ref) 3)) fun v4 H1 =>
 doW (wStore env.P H1 3 (some v4) (some v3)) fun v5 H2 =>
 doW (callRes env true (limf env) (limt env (dep + 1)) H2 (⟨(dep + 1), 10, Heap.gen H2 (dep + 1) 10, 0⟩ : Ref) (some (.fn (.func 114) [] [])) [x0, v4, (.v (.int .i64 2))]) fun v6 H3 =>
 doQ (qLoad env.P (Heap.get H3) 3 (some v4)) fun v7 =>
 doQ (qNil (some x1)) fun v8 =>
 doQ (qFieldAddr env.P 60 (some v8) 3) fun v9 =>
 doW (wStore env.P H3 36 (some v9) (some v7)) fun v10 H4 =>
 Q (.v (.tuple #[])) H4
theorem vq_mail_told (dep : Nat) : VC_mail_told dep = fun g x0 x1 H Q => wp env Try.f121 none (dep + 1) lv_mail_told cu_mail_told Q 500 [.code bd_mail_told] (ofL g [(0, x0), (1, x1)]) H := by kernel_rfl
theorem vc_mail_told (dep : Nat) (x0 x1 : AV) (H : Heap) (Q : AV → Heap → Prop) (h : ∀ g, VC_mail_told dep g x0 x1 H Q) : GoL env Try.f121 (dep + 1) [.code bd_mail_told] [(0, x0), (1, x1)] H Q := ⟨fun g => wp_ok (by have h := h g; rw [vq_mail_told] at h; exact h)⟩
noncomputable def bd_mail_kindsF8 : Code := (Try.f122.body).getD .skip
def lv_mail_kindsF8 : Nat → Option (List Nat) := fun i => none
def cu_mail_kindsF8 : Nat → Bool := fun i => false
def VC_mail_kindsF8 (dep : Nat) (g : Nat → AV) (x0 x1 : AV) (H : Heap) (Q : AV → Heap → Prop) : Prop :=
 doQ (qNil (some x1)) fun v1 =>
 doQ (qFieldAddr env.P 60 (some v1) 2) fun v2 =>
 doW (callRes env true (limf env) (limt env (dep + 1)) H (⟨(dep + 1), 8, Heap.gen H (dep + 1) 8, 0⟩ : Ref) (some (.fn (.func 114) [] [])) [x0, v2, (.v (.int .i64 3))]) fun v3 H1 =>
 doW (callRes env true (limf env) (limt env (dep + 1)) H1 (⟨(dep + 1), 11, Heap.gen H1 (dep + 1) 11, 0⟩ : Ref) (some (.fn (.func 121) [] [])) [x0, x1]) fun v4 H2 =>
 Q (.v (.tuple #[])) H2
theorem vq_mail_kindsF8 (dep : Nat) : VC_mail_kindsF8 dep = fun g x0 x1 H Q => wp env Try.f122 none (dep + 1) lv_mail_kindsF8 cu_mail_kindsF8 Q 500 [.code bd_mail_kindsF8] (ofL g [(0, x0), (1, x1)]) H := by kernel_rfl
theorem vc_mail_kindsF8 (dep : Nat) (x0 x1 : AV) (H : Heap) (Q : AV → Heap → Prop) (h : ∀ g, VC_mail_kindsF8 dep g x0 x1 H Q) : GoL env Try.f122 (dep + 1) [.code bd_mail_kindsF8] [(0, x0), (1, x1)] H Q := ⟨fun g => wp_ok (by have h := h g; rw [vq_mail_kindsF8] at h; exact h)⟩
noncomputable def bd_mail_kindsF9 : Code := (Try.f123.body).getD .skip
def lv_mail_kindsF9 : Nat → Option (List Nat) := fun i => none
def cu_mail_kindsF9 : Nat → Bool := fun i => false
def VC_mail_kindsF9 (g : Nat → AV) (x0 : AV) (H : Heap) (Q : AV → Heap → Prop) : Prop :=
 doW (nRes H (⟨0, 1, Heap.gen H 0 1, 0⟩ : Ref) (qBox env.P (⟨0, 1, Heap.gen H 0 1, 0⟩ : Ref) 60 (some x0))) fun v1 H1 =>
 doQ (qFieldAddr env.P 60 (some v1) 2) fun v2 =>
 doQ (qLoad env.P (Heap.get H1) 3 (some v2)) fun v3 =>
 doQ (qBin env.P .gtr 3 (.tmp 4) (.const (.int .i64 0)) (some v3) (some (.v (.int .i64 0)))) fun v4 =>
 Q v4 H1
theorem vq_mail_kindsF9 : VC_mail_kindsF9 = fun g x0 H Q => wp env Try.f123 none 0 lv_mail_kindsF9 cu_mail_kindsF9 Q 500 [.code bd_mail_kindsF9] (ofL g [(0, x0)]) H := by kernel_rfl
theorem vc_mail_kindsF9 (x0 : AV) (H : Heap) (Q : AV → Heap → Prop) (h : ∀ g, VC_mail_kindsF9 g x0 H Q) : GoL env Try.f123 0 [.code bd_mail_kindsF9] [(0, x0)] H Q := ⟨fun g => wp_ok (by have h := h g; rw [vq_mail_kindsF9] at h; exact h)⟩
noncomputable def bd_mail_kindsF10 : Code := (Try.f124.body).getD .skip
def lv_mail_kindsF10 : Nat → Option (List Nat) := fun i => none
def cu_mail_kindsF10 : Nat → Bool := fun i => false
def VC_mail_kindsF10 (dep : Nat) (g : Nat → AV) (x0 x1 : AV) (H : Heap) (Q : AV → Heap → Prop) : Prop :=
 doQ (qNil (some x1)) fun v1 =>
 doQ (qFieldAddr env.P 60 (some v1) 4) fun v2 =>
 doW (callRes env true (limf env) (limt env (dep + 1)) H (⟨(dep + 1), 9, Heap.gen H (dep + 1) 9, 0⟩ : Ref) (some (.fn (.func 114) [] [])) [x0, v2, (.v (.int .i64 3))]) fun v3 H1 =>
 doQ (qNil (some x1)) fun v4 =>
 doQ (qFieldAddr env.P 60 (some v4) 5) fun v5 =>
 doW (callRes env true (limf env) (limt env (dep + 1)) H1 (⟨(dep + 1), 14, Heap.gen H1 (dep + 1) 14, 0⟩ : Ref) (some (.fn (.func 114) [] [])) [x0, v5, (.v (.int .i64 3))]) fun v6 H2 =>
 doQ (qNil (some x1)) fun v7 =>
 doQ (qFieldAddr env.P 60 (some v7) 8) fun v8 =>
 doQ (qLoad env.P (Heap.get H2) 58 (some v8)) fun v9 =>
 doQ (qBuiltin env.P false (Heap.get H2) (⟨(dep + 1), 19, Heap.gen H2 (dep + 1) 19, 0⟩ : Ref) .len #[58] [v9]) fun v10 =>
 doW (nRes H2 (⟨(dep + 1), 4, Heap.gen H2 (dep + 1) 4, 0⟩ : Ref) (qAlloc env.P (⟨(dep + 1), 4, Heap.gen H2 (dep + 1) 4, 0⟩ : Ref) 3)) fun v11 H3 =>
 doW (wStore env.P H3 3 (some v11) (some v10)) fun v12 H4 =>
 doW (callRes env true (limf env) (limt env (dep + 1)) H4 (⟨(dep + 1), 21, Heap.gen H4 (dep + 1) 21, 0⟩ : Ref) (some (.fn (.func 114) [] [])) [x0, v11, (.v (.int .i64 1))]) fun v13 H5 =>
 doQ (qNil (some x0)) fun v14 =>
 doQ (qFieldAddr env.P 132 (some v14) 2) fun v15 =>
 doQ (qLoad env.P (Heap.get H5) 4 (some v15)) fun v16 =>
 gQ v16 false (qLoad env.P (Heap.get H5) 3 (some v11)) fun v17 =>
 gQ v16 false (qBin env.P .gtr 3 (.tmp 28) (.const (.int .i64 3)) (some v17) (some (.v (.int .i64 3)))) fun v18 =>
 doQ (pickF (some v16) (some (.v (.bool true))) (some v18)) fun v19 =>
 doQ (qNil (some x0)) fun v20 =>
 doQ (qFieldAddr env.P 132 (some v20) 2) fun v21 =>
 doW (wStore env.P H5 4 (some v21) (some v19)) fun v22 H6 =>
 doQ (qNil (some x1)) fun v23 =>
 doQ (qFieldAddr env.P 60 (some v23) 8) fun v24 =>
 doQ (qLoad env.P (Heap.get H6) 3 (some v11)) fun v25 =>
 doW (callRes env true (limf env) (limt env (dep + 1)) H6 (⟨(dep + 1), 38, Heap.gen H6 (dep + 1) 38, 0⟩ : Ref) (some (.fn (.func 116) [] [])) [x0, v24, v25]) fun v26 H7 =>
 Q (.v (.tuple #[])) H7
theorem vq_mail_kindsF10 (dep : Nat) : VC_mail_kindsF10 dep = fun g x0 x1 H Q => wp env Try.f124 none (dep + 1) lv_mail_kindsF10 cu_mail_kindsF10 Q 500 [.code bd_mail_kindsF10] (ofL g [(0, x0), (1, x1)]) H := by kernel_rfl
theorem vc_mail_kindsF10 (dep : Nat) (x0 x1 : AV) (H : Heap) (Q : AV → Heap → Prop) (h : ∀ g, VC_mail_kindsF10 dep g x0 x1 H Q) : GoL env Try.f124 (dep + 1) [.code bd_mail_kindsF10] [(0, x0), (1, x1)] H Q := ⟨fun g => wp_ok (by have h := h g; rw [vq_mail_kindsF10] at h; exact h)⟩
noncomputable def bd_mail_kindsF11 : Code := (Try.f125.body).getD .skip
noncomputable def hd_mail_kindsF11_2 : List Item := (findLoop 2 400 [.code bd_mail_kindsF11]).getD []
def lv_mail_kindsF11 : Nat → Option (List Nat) := fun i => cond (Nat.beq i 2) (some [8, 1, 0]) (none)
def cu_mail_kindsF11 : Nat → Bool := fun i => false
def VC_mail_kindsF11 (dep : Nat) (g : Nat → AV) (x0 x1 : AV) (H : Heap) (Q : AV → Heap → Prop) : Prop :=
 doW (callRes env true (limf env) (limt env (dep + 1)) H (⟨(dep + 1), 7, Heap.gen H (dep + 1) 7, 0⟩ : Ref) (some (.fn (.func 119) [] [])) [x0, x1]) fun v1 H1 =>
  GoL env Try.f125 (dep + 1) hd_mail_kindsF11_2 [(8, (.v (.int .i64 0))), (1, x1), (0, x0)] H1 Q
theorem vq_mail_kindsF11 (dep : Nat) : VC_mail_kindsF11 dep = fun g x0 x1 H Q => wp env Try.f125 none (dep + 1) lv_mail_kindsF11 cu_mail_kindsF11 Q 500 [.code bd_mail_kindsF11] (ofL g [(0, x0), (1, x1)]) H := by kernel_rfl
theorem vc_mail_kindsF11 (dep : Nat) (x0 x1 : AV) (H : Heap) (Q : AV → Heap → Prop) (h : ∀ g, VC_mail_kindsF11 dep g x0 x1 H Q) : GoL env Try.f125 (dep + 1) [.code bd_mail_kindsF11] [(0, x0), (1, x1)] H Q := ⟨fun g => wp_ok (by have h := h g; rw [vq_mail_kindsF11] at h; exact h)⟩
def VC_mail_kindsF11_2 (dep : Nat) (g : Nat → AV) (x8 x1 x0 : AV) (H : Heap) (Q : AV → Heap → Prop) : Prop :=
 doQ (qBin env.P .lss 3 (.tmp 8) (.const (.int .i64 4)) (some x8) (some (.v (.int .i64 4)))) fun v1 =>
 br (some v1) (
 doQ (qNil (some x1)) fun v2 =>
 doQ (qFieldAddr env.P 60 (some v2) 7) fun v3 =>
 doQ (qIndexAddr env.P (Heap.get H) 57 (some v3) (some x8)) fun v4 =>
 doW (callRes env true (limf env) (limt env (dep + 1)) H (⟨(dep + 1), 17, Heap.gen H (dep + 1) 17, 0⟩ : Ref) (some (.fn (.func 114) [] [])) [x0, v4, (.v (.int .i64 3))]) fun v5 H1 =>
 doQ (qBin env.P .add 3 (.tmp 8) (.const (.int .i64 1)) (some x8) (some (.v (.int .i64 1)))) fun v6 =>
   GoL env Try.f125 (dep + 1) hd_mail_kindsF11_2 [(8, v6), (1, x1), (0, x0)] H1 Q) (
 Q (.v (.tuple #[])) H)
theorem vq_mail_kindsF11_2 (dep : Nat) : VC_mail_kindsF11_2 dep = fun g x8 x1 x0 H Q => wp env Try.f125 none (dep + 1) lv_mail_kindsF11 cu_mail_kindsF11 Q 500 (bodyOf hd_mail_kindsF11_2) (ofL g [(8, x8), (1, x1), (0, x0)]) H := by kernel_rfl
theorem vc_mail_kindsF11_2 (dep : Nat) (x8 x1 x0 : AV) (H : Heap) (Q : AV → Heap → Prop) (h : ∀ g, VC_mail_kindsF11_2 dep g x8 x1 x0 H Q) : GoL env Try.f125 (dep + 1) hd_mail_kindsF11_2 [(8, x8), (1, x1), (0, x0)] H Q := goL_body fun g => wp_ok (by have h := h g; rw [vq_mail_kindsF11_2] at h; exact h)
noncomputable def bd_slices_EqualFunc___blindstamp_api_Op___blindstamp_api_Op_blindstamp_api_Op_blindstamp_api_Op_ : Code := (Try.f126.body).getD .skip
noncomputable def hd_slices_EqualFunc___blindstamp_api_Op___blindstamp_api_Op_blindstamp_api_Op_blindstamp_api_Op__4 : List Item := (findLoop 4 400 [.code bd_slices_EqualFunc___blindstamp_api_Op___blindstamp_api_Op_blindstamp_api_Op_blindstamp_api_Op_]).getD []
def lv_slices_EqualFunc___blindstamp_api_Op___blindstamp_api_Op_blindstamp_api_Op_blindstamp_api_Op_ : Nat → Option (List Nat) := fun i => cond (Nat.beq i 4) (some [17, 2, 1, 15, 16]) (none)
def cu_slices_EqualFunc___blindstamp_api_Op___blindstamp_api_Op_blindstamp_api_Op_blindstamp_api_Op_ : Nat → Bool := fun i => false
def VC_slices_EqualFunc___blindstamp_api_Op___blindstamp_api_Op_blindstamp_api_Op_blindstamp_api_Op_ (g : Nat → AV) (x0 x1 x2 : AV) (H : Heap) (Q : AV → Heap → Prop) : Prop :=
 doQ (qBuiltin env.P false (Heap.get H) (⟨0, 11, Heap.gen H 0 11, 0⟩ : Ref) .len #[58] [x0]) fun v1 =>
 doQ (qBuiltin env.P false (Heap.get H) (⟨0, 13, Heap.gen H 0 13, 0⟩ : Ref) .len #[58] [x1]) fun v2 =>
 doQ (qBin env.P .neq 3 (.tmp 11) (.tmp 13) (some v1) (some v2)) fun v3 =>
 br (some v3) (
 Q (.v (.bool false)) H) (
 doQ (qBuiltin env.P false (Heap.get H) (⟨0, 16, Heap.gen H 0 16, 0⟩ : Ref) .len #[58] [x0]) fun v4 =>
   GoL env Try.f126 0 hd_slices_EqualFunc___blindstamp_api_Op___blindstamp_api_Op_blindstamp_api_Op_blindstamp_api_Op__4 [(17, (.v (.int .i64 0))), (2, x2), (1, x1), (15, x0), (16, v4)] H Q)
theorem vq_slices_EqualFunc___blindstamp_api_Op___blindstamp_api_Op_blindstamp_api_Op_blindstamp_api_Op_ : VC_slices_EqualFunc___blindstamp_api_Op___blindstamp_api_Op_blindstamp_api_Op_blindstamp_api_Op_ = fun g x0 x1 x2 H Q => wp env Try.f126 none 0 lv_slices_EqualFunc___blindstamp_api_Op___blindstamp_api_Op_blindstamp_api_Op_blindstamp_api_Op_ cu_slices_EqualFunc___blindstamp_api_Op___blindstamp_api_Op_blindstamp_api_Op_blindstamp_api_Op_ Q 500 [.code bd_slices_EqualFunc___blindstamp_api_Op___blindstamp_api_Op_blindstamp_api_Op_blindstamp_api_Op_] (ofL g [(0, x0), (1, x1), (2, x2)]) H := by kernel_rfl
theorem vc_slices_EqualFunc___blindstamp_api_Op___blindstamp_api_Op_blindstamp_api_Op_blindstamp_api_Op_ (x0 x1 x2 : AV) (H : Heap) (Q : AV → Heap → Prop) (h : ∀ g, VC_slices_EqualFunc___blindstamp_api_Op___blindstamp_api_Op_blindstamp_api_Op_blindstamp_api_Op_ g x0 x1 x2 H Q) : GoL env Try.f126 0 [.code bd_slices_EqualFunc___blindstamp_api_Op___blindstamp_api_Op_blindstamp_api_Op_blindstamp_api_Op_] [(0, x0), (1, x1), (2, x2)] H Q := ⟨fun g => wp_ok (by have h := h g; rw [vq_slices_EqualFunc___blindstamp_api_Op___blindstamp_api_Op_blindstamp_api_Op_blindstamp_api_Op_] at h; exact h)⟩
def VC_slices_EqualFunc___blindstamp_api_Op___blindstamp_api_Op_blindstamp_api_Op_blindstamp_api_Op__4 (g : Nat → AV) (x17 x2 x1 x15 x16 : AV) (H : Heap) (Q : AV → Heap → Prop) : Prop :=
 doQ (qBin env.P .lss 3 (.tmp 17) (.tmp 16) (some x17) (some x16)) fun v1 =>
 br (some v1) (
 doQ (qIndexAddr env.P (Heap.get H) 58 (some x15) (some x17)) fun v2 =>
 doQ (qLoad env.P (Heap.get H) 33 (some v2)) fun v3 =>
 doW (nRes H (⟨0, 8, Heap.gen H 0 8, 0⟩ : Ref) (qAlloc env.P (⟨0, 8, Heap.gen H 0 8, 0⟩ : Ref) 33)) fun v4 H1 =>
 doW (wStore env.P H1 33 (some v4) (some v3)) fun v5 H2 =>
 doQ (qIndexAddr env.P (Heap.get H2) 58 (some x1) (some x17)) fun v6 =>
 doQ (qLoad env.P (Heap.get H2) 33 (some v6)) fun v7 =>
 doW (nRes H2 (⟨0, 9, Heap.gen H2 0 9, 0⟩ : Ref) (qAlloc env.P (⟨0, 9, Heap.gen H2 0 9, 0⟩ : Ref) 33)) fun v8 H3 =>
 doW (wStore env.P H3 33 (some v8) (some v7)) fun v9 H4 =>
 doQ (qLoad env.P (Heap.get H4) 33 (some v4)) fun v10 =>
 doQ (qLoad env.P (Heap.get H4) 33 (some v8)) fun v11 =>
 doW (callRes env true (limf env) (limt env 0) H4 (⟨0, 29, Heap.gen H4 0 29, 0⟩ : Ref) (some x2) [v10, v11]) fun v12 H5 =>
 doQ (qUn env.P .not (some v12)) fun v13 =>
 br (some v13) (
 Q (.v (.bool false)) H5) (
 doQ (qBin env.P .add 3 (.tmp 17) (.const (.int .i64 1)) (some x17) (some (.v (.int .i64 1)))) fun v14 =>
    GoL env Try.f126 0 hd_slices_EqualFunc___blindstamp_api_Op___blindstamp_api_Op_blindstamp_api_Op_blindstamp_api_Op__4 [(17, v14), (2, x2), (1, x1), (15, x15), (16, x16)] H5 Q)) (
 Q (.v (.bool true)) H)
theorem vq_slices_EqualFunc___blindstamp_api_Op___blindstamp_api_Op_blindstamp_api_Op_blindstamp_api_Op__4 : VC_slices_EqualFunc___blindstamp_api_Op___blindstamp_api_Op_blindstamp_api_Op_blindstamp_api_Op__4 = fun g x17 x2 x1 x15 x16 H Q => wp env Try.f126 none 0 lv_slices_EqualFunc___blindstamp_api_Op___blindstamp_api_Op_blindstamp_api_Op_blindstamp_api_Op_ cu_slices_EqualFunc___blindstamp_api_Op___blindstamp_api_Op_blindstamp_api_Op_blindstamp_api_Op_ Q 500 (bodyOf hd_slices_EqualFunc___blindstamp_api_Op___blindstamp_api_Op_blindstamp_api_Op_blindstamp_api_Op__4) (ofL g [(17, x17), (2, x2), (1, x1), (15, x15), (16, x16)]) H := by kernel_rfl
theorem vc_slices_EqualFunc___blindstamp_api_Op___blindstamp_api_Op_blindstamp_api_Op_blindstamp_api_Op__4 (x17 x2 x1 x15 x16 : AV) (H : Heap) (Q : AV → Heap → Prop) (h : ∀ g, VC_slices_EqualFunc___blindstamp_api_Op___blindstamp_api_Op_blindstamp_api_Op_blindstamp_api_Op__4 g x17 x2 x1 x15 x16 H Q) : GoL env Try.f126 0 hd_slices_EqualFunc___blindstamp_api_Op___blindstamp_api_Op_blindstamp_api_Op_blindstamp_api_Op__4 [(17, x17), (2, x2), (1, x1), (15, x15), (16, x16)] H Q := goL_body fun g => wp_ok (by have h := h g; rw [vq_slices_EqualFunc___blindstamp_api_Op___blindstamp_api_Op_blindstamp_api_Op_blindstamp_api_Op__4] at h; exact h)
end Go.Proofs.Ytehkjjcdkbcebaa
