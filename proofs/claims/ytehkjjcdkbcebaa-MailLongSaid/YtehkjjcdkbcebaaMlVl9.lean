/-
  What is to be shown of each function, computed from its code. No statement of a seat is proved here.
-/
import Derived.Test.YtehkjjcdkbcebaaMlTy
set_option linter.unusedVariables false
set_option maxRecDepth 1000000
namespace Go.Proofs.Ytehkjjcdkbcebaa
open Go.Ab
noncomputable def bd_blindstamplaw10_MailLong : Code := (Try.f9.body).getD .skip
noncomputable def hd_blindstamplaw10_MailLong_10 : List Item := (findLoop 10 400 [.code bd_blindstamplaw10_MailLong]).getD []
def lv_blindstamplaw10_MailLong : Nat → Option (List Nat) := fun i => cond (Nat.beq i 10) (some [5, 11, 2, 10, 3, 6, 8]) (none)
def cu_blindstamplaw10_MailLong : Nat → Bool := fun i => false
def VC_blindstamplaw10_MailLong (g : Nat → AV) (x0 x1 : AV) (H : Heap) (Q : AV → Heap → Prop) : Prop :=
 doW (nRes H (⟨0, 2, Heap.gen H 0 2, 0⟩ : Ref) (qBox env.P (⟨0, 2, Heap.gen H 0 2, 0⟩ : Ref) 60 (some x0))) fun v1 H1 =>
 doW (nRes H1 (⟨0, 3, Heap.gen H1 0 3, 0⟩ : Ref) (qBox env.P (⟨0, 3, Heap.gen H1 0 3, 0⟩ : Ref) 60 (some x1))) fun v2 H2 =>
 doW (callRes env true (limf env) (limt env 0) H2 (⟨0, 12, Heap.gen H2 0 12, 0⟩ : Ref) (some (.fn (.func 31) [] [])) []) fun v3 H3 =>
 doQ (qLoad env.P (Heap.get H3) 60 (some v1)) fun v4 =>
 doW (callRes env true (limf env) (limt env 0) H3 (⟨0, 14, Heap.gen H3 0 14, 0⟩ : Ref) (some (.fn (.func 32) [] [])) [v4]) fun v5 H4 =>
 gQ v5 false (qLoad env.P (Heap.get H4) 60 (some v2)) fun v6 =>
 gW v5 false H4 (callRes env true (limf env) (limt env 0) H4 (⟨0, 17, Heap.gen H4 0 17, 0⟩ : Ref) (some (.fn (.func 32) [] [])) [v6]) fun v7 H5 =>
 doQ (pickF (some v5) (some (.v (.bool true))) (some v7)) fun v8 =>
 gQ v8 false (qVal (some v3)) fun v9 =>
 gQ v8 false (qUn env.P .not (some v9)) fun v10 =>
 doQ (pickF (some v8) (some (.v (.bool true))) (some v10)) fun v11 =>
 br (some v11) (
 Q v3 H5) (
 doQ (qLoad env.P (Heap.get H5) 60 (some v1)) fun v12 =>
 doW (callRes env true (limf env) (limt env 0) H5 (⟨0, 26, Heap.gen H5 0 26, 0⟩ : Ref) (some (.fn (.func 33) [] [])) [v12]) fun v13 H6 =>
 doQ (qExtract (some v13) 0) fun v14 =>
 doQ (qExtract (some v13) 1) fun v15 =>
 doQ (qLoad env.P (Heap.get H6) 60 (some v2)) fun v16 =>
 doW (callRes env true (limf env) (limt env 0) H6 (⟨0, 31, Heap.gen H6 0 31, 0⟩ : Ref) (some (.fn (.func 33) [] [])) [v16]) fun v17 H7 =>
 doQ (qExtract (some v17) 0) fun v18 =>
 doQ (qExtract (some v17) 1) fun v19 =>
 doQ (qBin env.P .neq 36 (.tmp 34) (.const (.int .i64 0)) (some v15) (some (.v (.int .i64 0)))) fun v20 =>
 gQ v20 false (qVal (some v19)) fun v21 =>
 gQ v20 false (qBin env.P .neq 36 (.tmp 37) (.const (.int .i64 0)) (some v21) (some (.v (.int .i64 0)))) fun v22 =>
 doQ (pickF (some v20) (some (.v (.bool true))) (some v22)) fun v23 =>
 gQ v23 false (qFieldAddr env.P 60 (some v1) 0) fun v24 =>
 gQ v23 false (qLoad env.P (Heap.get H7) 5 (some v24)) fun v25 =>
 gQ v23 false (qFieldAddr env.P 60 (some v2) 0) fun v26 =>
 gQ v23 false (qLoad env.P (Heap.get H7) 5 (some v26)) fun v27 =>
 gQ v23 false (qBin env.P .neq 5 (.tmp 42) (.tmp 44) (some v25) (some v27)) fun v28 =>
 doQ (pickF (some v23) (some (.v (.bool true))) (some v28)) fun v29 =>
 gQ v29 false (qFieldAddr env.P 60 (some v1) 8) fun v30 =>
 gQ v29 false (qLoad env.P (Heap.get H7) 58 (some v30)) fun v31 =>
 gQ v29 false (qBuiltin env.P false (Heap.get H7) (⟨0, 50, Heap.gen H7 0 50, 0⟩ : Ref) .len #[58] [v31]) fun v32 =>
 gQ v29 false (qFieldAddr env.P 60 (some v2) 8) fun v33 =>
 gQ v29 false (qLoad env.P (Heap.get H7) 58 (some v33)) fun v34 =>
 gQ v29 false (qBuiltin env.P false (Heap.get H7) (⟨0, 53, Heap.gen H7 0 53, 0⟩ : Ref) .len #[58] [v34]) fun v35 =>
 gQ v29 false (qBin env.P .neq 3 (.tmp 50) (.tmp 53) (some v32) (some v35)) fun v36 =>
 doQ (pickF (some v29) (some (.v (.bool true))) (some v36)) fun v37 =>
 br (some v37) (
 gQ v3 true (qVal (some v14)) fun v38 =>
 gQ v3 true (qBuiltin env.P false (Heap.get H7) (⟨0, 59, Heap.gen H7 0 59, 0⟩ : Ref) .len #[34] [v38]) fun v39 =>
 gQ v3 true (qBin env.P .leq 3 (.tmp 59) (.const (.int .i64 900)) (some v39) (some (.v (.int .i64 900)))) fun v40 =>
 doQ (pickF (some v3) (some v40) (some (.v (.bool false)))) fun v41 =>
 gQ v41 true (qVal (some v18)) fun v42 =>
 gQ v41 true (qBuiltin env.P false (Heap.get H7) (⟨0, 64, Heap.gen H7 0 64, 0⟩ : Ref) .len #[34] [v42]) fun v43 =>
 gQ v41 true (qBin env.P .leq 3 (.tmp 64) (.const (.int .i64 900)) (some v43) (some (.v (.int .i64 900)))) fun v44 =>
 doQ (pickF (some v41) (some v44) (some (.v (.bool false)))) fun v45 =>
 Q v45 H7) (
    GoL env Try.f9 0 hd_blindstamplaw10_MailLong_10 [(5, v3), (11, (.v (.int .i64 0))), (2, v1), (10, (.v (.int .i64 0))), (3, v2), (6, v14), (8, v18)] H7 Q))
theorem vq_blindstamplaw10_MailLong : VC_blindstamplaw10_MailLong = fun g x0 x1 H Q => wp env Try.f9 none 0 lv_blindstamplaw10_MailLong cu_blindstamplaw10_MailLong Q 500 [.code bd_blindstamplaw10_MailLong] (ofL g [(0, x0), (1, x1)]) H := by kernel_rfl
theorem vc_blindstamplaw10_MailLong (x0 x1 : AV) (H : Heap) (Q : AV → Heap → Prop) (h : ∀ g, VC_blindstamplaw10_MailLong g x0 x1 H Q) : GoL env Try.f9 0 [.code bd_blindstamplaw10_MailLong] [(0, x0), (1, x1)] H Q := ⟨fun g => wp_ok (by have h := h g; rw [vq_blindstamplaw10_MailLong] at h; exact h)⟩
def VC_blindstamplaw10_MailLong_10 (g : Nat → AV) (x5 x11 x2 x10 x3 x6 x8 : AV) (H : Heap) (Q : AV → Heap → Prop) : Prop :=
 doQ (qFieldAddr env.P 60 (some x2) 8) fun v1 =>
 doQ (qLoad env.P (Heap.get H) 58 (some v1)) fun v2 =>
 doQ (qBuiltin env.P false (Heap.get H) (⟨0, 70, Heap.gen H 0 70, 0⟩ : Ref) .len #[58] [v2]) fun v3 =>
 doQ (qBin env.P .lss 3 (.tmp 67) (.tmp 70) (some x11) (some v3)) fun v4 =>
 br (some v4) (
 doQ (qFieldAddr env.P 60 (some x2) 8) fun v5 =>
 doQ (qLoad env.P (Heap.get H) 58 (some v5)) fun v6 =>
 doQ (qIndexAddr env.P (Heap.get H) 58 (some v6) (some x11)) fun v7 =>
 doQ (qFieldAddr env.P 33 (some v7) 0) fun v8 =>
 doQ (qLoad env.P (Heap.get H) 5 (some v8)) fun v9 =>
 doQ (qFieldAddr env.P 60 (some x3) 8) fun v10 =>
 doQ (qLoad env.P (Heap.get H) 58 (some v10)) fun v11 =>
 doQ (qIndexAddr env.P (Heap.get H) 58 (some v11) (some x11)) fun v12 =>
 doQ (qFieldAddr env.P 33 (some v12) 0) fun v13 =>
 doQ (qLoad env.P (Heap.get H) 5 (some v13)) fun v14 =>
 doQ (qBin env.P .neq 5 (.tmp 79) (.tmp 85) (some v9) (some v14)) fun v15 =>
 gQ v15 false (qFieldAddr env.P 60 (some x2) 8) fun v16 =>
 gQ v15 false (qLoad env.P (Heap.get H) 58 (some v16)) fun v17 =>
 gQ v15 false (qVal (some x11)) fun v18 =>
 gQ v15 false (qIndexAddr env.P (Heap.get H) 58 (some v17) (some v18)) fun v19 =>
 gQ v15 false (qFieldAddr env.P 33 (some v19) 3) fun v20 =>
 gQ v15 false (qFieldAddr env.P 30 (some v20) 1) fun v21 =>
 gQ v15 false (qLoad env.P (Heap.get H) 3 (some v21)) fun v22 =>
 gQ v15 false (qFieldAddr env.P 60 (some x3) 8) fun v23 =>
 gQ v15 false (qLoad env.P (Heap.get H) 58 (some v23)) fun v24 =>
 gQ v15 false (qVal (some x11)) fun v25 =>
 gQ v15 false (qIndexAddr env.P (Heap.get H) 58 (some v24) (some v25)) fun v26 =>
 gQ v15 false (qFieldAddr env.P 33 (some v26) 3) fun v27 =>
 gQ v15 false (qFieldAddr env.P 30 (some v27) 1) fun v28 =>
 gQ v15 false (qLoad env.P (Heap.get H) 3 (some v28)) fun v29 =>
 gQ v15 false (qBin env.P .neq 3 (.tmp 94) (.tmp 101) (some v22) (some v29)) fun v30 =>
 doQ (pickF (some v15) (some (.v (.bool true))) (some v30)) fun v31 =>
 br (some v31) (
 Q x5 H) (
 doQ (qFieldAddr env.P 60 (some x2) 8) fun v32 =>
 doQ (qLoad env.P (Heap.get H) 58 (some v32)) fun v33 =>
 doQ (qIndexAddr env.P (Heap.get H) 58 (some v33) (some x11)) fun v34 =>
 doQ (qFieldAddr env.P 33 (some v34) 0) fun v35 =>
 doQ (qLoad env.P (Heap.get H) 5 (some v35)) fun v36 =>
 doQ (qFieldAddr env.P 60 (some x2) 8) fun v37 =>
 doQ (qLoad env.P (Heap.get H) 58 (some v37)) fun v38 =>
 doQ (qIndexAddr env.P (Heap.get H) 58 (some v38) (some x11)) fun v39 =>
 doQ (qFieldAddr env.P 33 (some v39) 3) fun v40 =>
 doQ (qFieldAddr env.P 30 (some v40) 1) fun v41 =>
 doQ (qLoad env.P (Heap.get H) 3 (some v41)) fun v42 =>
 doW (callRes env false (limf env) (limt env 0) H (⟨0, 119, Heap.gen H 0 119, 0⟩ : Ref) (some (.fn (.func 17) [] [])) [v36, v42]) fun v43 H1 =>
 doQ (qBin env.P .add 3 (.tmp 105) (.tmp 119) (some x10) (some v43)) fun v44 =>
 doQ (qBin env.P .add 3 (.tmp 72) (.const (.int .i64 1)) (some x11) (some (.v (.int .i64 1)))) fun v45 =>
    GoL env Try.f9 0 hd_blindstamplaw10_MailLong_10 [(5, x5), (11, v45), (2, x2), (10, v44), (3, x3), (6, x6), (8, x8)] H1 Q)) (
 gQ x5 true (qVal (some x6)) fun v5 =>
 gQ x5 true (qBuiltin env.P false (Heap.get H) (⟨0, 124, Heap.gen H 0 124, 0⟩ : Ref) .len #[34] [v5]) fun v6 =>
 gQ x5 true (qVal (some x8)) fun v7 =>
 gQ x5 true (qBuiltin env.P false (Heap.get H) (⟨0, 126, Heap.gen H 0 126, 0⟩ : Ref) .len #[34] [v7]) fun v8 =>
 gQ x5 true (qBin env.P .eql 3 (.tmp 124) (.tmp 126) (some v6) (some v8)) fun v9 =>
 doQ (pickF (some x5) (some v9) (some (.v (.bool false)))) fun v10 =>
 gQ v10 true (qVal (some x6)) fun v11 =>
 gQ v10 true (qBuiltin env.P false (Heap.get H) (⟨0, 131, Heap.gen H 0 131, 0⟩ : Ref) .len #[34] [v11]) fun v12 =>
 gQ v10 true (qBin env.P .leq 3 (.tmp 131) (.const (.int .i64 900)) (some v12) (some (.v (.int .i64 900)))) fun v13 =>
 doQ (pickF (some v10) (some v13) (some (.v (.bool false)))) fun v14 =>
 gQ v14 true (qVal (some x6)) fun v15 =>
 gQ v14 true (qBuiltin env.P false (Heap.get H) (⟨0, 136, Heap.gen H 0 136, 0⟩ : Ref) .len #[34] [v15]) fun v16 =>
 gQ v14 true (qVal (some x10)) fun v17 =>
 gQ v14 true (qBin env.P .gtr 3 (.tmp 136) (.tmp 137) (some v16) (some v17)) fun v18 =>
 doQ (pickF (some v14) (some v18) (some (.v (.bool false)))) fun v19 =>
 Q v19 H)
theorem vq_blindstamplaw10_MailLong_10 : VC_blindstamplaw10_MailLong_10 = fun g x5 x11 x2 x10 x3 x6 x8 H Q => wp env Try.f9 none 0 lv_blindstamplaw10_MailLong cu_blindstamplaw10_MailLong Q 500 (bodyOf hd_blindstamplaw10_MailLong_10) (ofL g [(5, x5), (11, x11), (2, x2), (10, x10), (3, x3), (6, x6), (8, x8)]) H := by kernel_rfl
theorem vc_blindstamplaw10_MailLong_10 (x5 x11 x2 x10 x3 x6 x8 : AV) (H : Heap) (Q : AV → Heap → Prop) (h : ∀ g, VC_blindstamplaw10_MailLong_10 g x5 x11 x2 x10 x3 x6 x8 H Q) : GoL env Try.f9 0 hd_blindstamplaw10_MailLong_10 [(5, x5), (11, x11), (2, x2), (10, x10), (3, x3), (6, x6), (8, x8)] H Q := goL_body fun g => wp_ok (by have h := h g; rw [vq_blindstamplaw10_MailLong_10] at h; exact h)
end Go.Proofs.Ytehkjjcdkbcebaa
