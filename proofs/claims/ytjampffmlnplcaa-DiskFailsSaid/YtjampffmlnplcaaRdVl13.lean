/-
  What is to be shown of each function, computed from its code. No statement of a seat is proved here.
-/
import Derived.Test.YtjampffmlnplcaaRdTy
set_option linter.unusedVariables false
set_option maxRecDepth 1000000
namespace Go.Proofs.Ytjampffmlnplcaa
open Go.Ab
noncomputable def bd_blindstamplaw12_DiskFails : Code := (Try.f13.body).getD .skip
noncomputable def hd_blindstamplaw12_DiskFails_10 : List Item := (findLoop 10 400 [.code bd_blindstamplaw12_DiskFails]).getD []
def lv_blindstamplaw12_DiskFails : Nat → Option (List Nat) := fun i => cond (Nat.beq i 10) (some [13, 1, 12, 10, 2, 8, 3, 7]) (none)
def cu_blindstamplaw12_DiskFails : Nat → Bool := fun i => false
def VC_blindstamplaw12_DiskFails (g : Nat → AV) (x0 x1 x2 : AV) (H : Heap) (Q : AV → Heap → Prop) : Prop :=
 doW (nRes H (⟨0, 3, Heap.gen H 0 3, 0⟩ : Ref) (qBox env.P (⟨0, 3, Heap.gen H 0 3, 0⟩ : Ref) 93 (some x0))) fun v1 H1 =>
 doW (callRes env true (limf env) (limt env 0) H1 (⟨0, 18, Heap.gen H1 0 18, 0⟩ : Ref) (some (.fn (.func 59) [] [])) []) fun v2 H2 =>
 doQ (qLoad env.P (Heap.get H2) 93 (some v1)) fun v3 =>
 doW (callRes env true (limf env) (limt env 0) H2 (⟨0, 20, Heap.gen H2 0 20, 0⟩ : Ref) (some (.fn (.func 61) [] [])) [v3]) fun v4 H3 =>
 gQ v4 false (qVal (some x1)) fun v5 =>
 gQ v4 false (qBuiltin env.P false (Heap.get H3) (⟨0, 23, Heap.gen H3 0 23, 0⟩ : Ref) .len #[106] [v5]) fun v6 =>
 gQ v4 false (qBin env.P .gtr 3 (.tmp 23) (.const (.int .i64 30)) (some v6) (some (.v (.int .i64 30)))) fun v7 =>
 doQ (pickF (some v4) (some (.v (.bool true))) (some v7)) fun v8 =>
 gQ v8 false (qVal (some x2)) fun v9 =>
 gQ v8 false (qBin env.P .lss 3 (.tmp 27) (.const (.int .i64 0)) (some v9) (some (.v (.int .i64 0)))) fun v10 =>
 doQ (pickF (some v8) (some (.v (.bool true))) (some v10)) fun v11 =>
 gQ v11 false (qVal (some x2)) fun v12 =>
 gQ v11 false (qBin env.P .gtr 3 (.tmp 31) (.const (.int .i64 100)) (some v12) (some (.v (.int .i64 100)))) fun v13 =>
 doQ (pickF (some v11) (some (.v (.bool true))) (some v13)) fun v14 =>
 gQ v14 false (qVal (some v2)) fun v15 =>
 gQ v14 false (qUn env.P .not (some v15)) fun v16 =>
 doQ (pickF (some v14) (some (.v (.bool true))) (some v16)) fun v17 =>
 br (some v17) (
 Q v2 H3) (
 doQ (qLoad env.P (Heap.get H3) 93 (some v1)) fun v18 =>
 doW (callRes env true (limf env) (limt env 0) H3 (⟨0, 42, Heap.gen H3 0 42, 0⟩ : Ref) (some (.fn (.func 54) [] [])) [v18, x2]) fun v19 H4 =>
 doQ (qExtract (some v19) 0) fun v20 =>
 doQ (qExtract (some v19) 1) fun v21 =>
 doW (nRes H4 (⟨0, 8, Heap.gen H4 0 8, 0⟩ : Ref) (qAlloc env.P (⟨0, 8, Heap.gen H4 0 8, 0⟩ : Ref) 93)) fun v22 H5 =>
 doW (wStore env.P H5 93 (some v22) (some v20)) fun v23 H6 =>
 doQ (qLoad env.P (Heap.get H6) 93 (some v1)) fun v24 =>
 doW (callRes env true (limf env) (limt env 0) H6 (⟨0, 47, Heap.gen H6 0 47, 0⟩ : Ref) (some (.fn (.func 54) [] [])) [v24, (.v (.int .i64 (-1)))]) fun v25 H7 =>
 doQ (qExtract (some v25) 0) fun v26 =>
 doQ (qExtract (some v25) 1) fun v27 =>
 doW (nRes H7 (⟨0, 10, Heap.gen H7 0 10, 0⟩ : Ref) (qAlloc env.P (⟨0, 10, Heap.gen H7 0 10, 0⟩ : Ref) 93)) fun v28 H8 =>
 doW (wStore env.P H8 93 (some v28) (some v26)) fun v29 H9 =>
 doQ (qBin env.P .neq 35 (.tmp 50) (.const (.int .i64 0)) (some v21) (some (.v (.int .i64 0)))) fun v30 =>
 gQ v30 false (qVal (some v27)) fun v31 =>
 gQ v30 false (qBin env.P .neq 35 (.tmp 53) (.const (.int .i64 0)) (some v31) (some (.v (.int .i64 0)))) fun v32 =>
 doQ (pickF (some v30) (some (.v (.bool true))) (some v32)) fun v33 =>
 br (some v33) (
 gQ v2 true (qVal (some v21)) fun v34 =>
 gQ v2 true (qVal (some v27)) fun v35 =>
 gQ v2 true (qBin env.P .eql 35 (.tmp 58) (.tmp 59) (some v34) (some v35)) fun v36 =>
 doQ (pickF (some v2) (some v36) (some (.v (.bool false)))) fun v37 =>
 Q v37 H9) (
    GoL env Try.f13 0 hd_blindstamplaw12_DiskFails_10 [(13, (.v (.int .i64 0))), (1, x1), (12, (.v (.int .i64 0))), (10, v28), (2, x2), (8, v22), (3, v1), (7, v2)] H9 Q))
theorem vq_blindstamplaw12_DiskFails : VC_blindstamplaw12_DiskFails = fun g x0 x1 x2 H Q => wp env Try.f13 none 0 lv_blindstamplaw12_DiskFails cu_blindstamplaw12_DiskFails Q 500 [.code bd_blindstamplaw12_DiskFails] (ofL g [(0, x0), (1, x1), (2, x2)]) H := by kernel_rfl
theorem vc_blindstamplaw12_DiskFails (x0 x1 x2 : AV) (H : Heap) (Q : AV → Heap → Prop) (h : ∀ g, VC_blindstamplaw12_DiskFails g x0 x1 x2 H Q) : GoL env Try.f13 0 [.code bd_blindstamplaw12_DiskFails] [(0, x0), (1, x1), (2, x2)] H Q := ⟨fun g => wp_ok (by have h := h g; rw [vq_blindstamplaw12_DiskFails] at h; exact h)⟩
def VC_blindstamplaw12_DiskFails_10 (g : Nat → AV) (x13 x1 x12 x10 x2 x8 x3 x7 : AV) (H : Heap) (Q : AV → Heap → Prop) : Prop :=
 doQ (qBuiltin env.P false (Heap.get H) (⟨0, 64, Heap.gen H 0 64, 0⟩ : Ref) .len #[106] [x1]) fun v1 =>
 doQ (qBin env.P .lss 3 (.tmp 62) (.tmp 64) (some x13) (some v1)) fun v2 =>
 br (some v2) (
 doQ (qLoad env.P (Heap.get H) 93 (some x8)) fun v3 =>
 doQ (qIndexAddr env.P (Heap.get H) 106 (some x1) (some x13)) fun v4 =>
 doQ (qLoad env.P (Heap.get H) 3 (some v4)) fun v5 =>
 doQ (qBin env.P .add 3 (.tmp 74) (.const (.int .i64 1)) (some x13) (some (.v (.int .i64 1)))) fun v6 =>
 doQ (qConvert env.P (Heap.get H) (⟨0, 76, Heap.gen H 0 76, 0⟩ : Ref) 3 5 (some v6)) fun v7 =>
 doW (callRes env false (limf env) (limt env 0) H (⟨0, 77, Heap.gen H 0 77, 0⟩ : Ref) (some (.fn (.func 57) [] [])) [v7]) fun v8 H1 =>
 doW (callRes env false (limf env) (limt env 0) H1 (⟨0, 78, Heap.gen H1 0 78, 0⟩ : Ref) (some (.fn (.func 55) [] [])) [v3, v5, v8]) fun v9 H2 =>
 doQ (qExtract (some v9) 0) fun v10 =>
 doQ (qExtract (some v9) 1) fun v11 =>
 doW (nRes H2 (⟨0, 14, Heap.gen H2 0 14, 0⟩ : Ref) (qAlloc env.P (⟨0, 14, Heap.gen H2 0 14, 0⟩ : Ref) 93)) fun v12 H3 =>
 doW (wStore env.P H3 93 (some v12) (some v10)) fun v13 H4 =>
 doQ (qBin env.P .neq 35 (.tmp 81) (.const (.int .i64 0)) (some v11) (some (.v (.int .i64 0)))) fun v14 =>
 br (some v14) (
 doQ (qBin env.P .neq 35 (.tmp 83) (.const (.int .i64 2)) (some v11) (some (.v (.int .i64 2)))) fun v15 =>
 gQ v15 false (qVal (some x1)) fun v16 =>
 gQ v15 false (qVal (some x13)) fun v17 =>
 gQ v15 false (qIndexAddr env.P (Heap.get H4) 106 (some v16) (some v17)) fun v18 =>
 gQ v15 false (qLoad env.P (Heap.get H4) 3 (some v18)) fun v19 =>
 gQ v15 false (qBin env.P .geq 3 (.tmp 89) (.const (.int .i64 0)) (some v19) (some (.v (.int .i64 0)))) fun v20 =>
 gQ v15 false (qVal (some v20)) fun v21 =>
 gQ v21 true (qVal (some x1)) fun v22 =>
 gQ v21 true (qVal (some x13)) fun v23 =>
 gQ v21 true (qIndexAddr env.P (Heap.get H4) 106 (some v22) (some v23)) fun v24 =>
 gQ v21 true (qLoad env.P (Heap.get H4) 3 (some v24)) fun v25 =>
 gQ v21 true (qBin env.P .lss 3 (.tmp 95) (.const (.int .i64 6146)) (some v25) (some (.v (.int .i64 6146)))) fun v26 =>
 gQ v15 false (pickF (some v21) (some v26) (some (.v (.bool false)))) fun v27 =>
 doQ (pickF (some v15) (some (.v (.bool true))) (some v27)) fun v28 =>
 br (some v28) (
 Q (.v (.bool false)) H4) (
 doQ (qBin env.P .add 3 (.tmp 66) (.const (.int .i64 1)) (some x13) (some (.v (.int .i64 1)))) fun v29 =>
     GoL env Try.f13 0 hd_blindstamplaw12_DiskFails_10 [(13, v29), (1, x1), (12, x12), (10, x10), (2, x2), (8, x8), (3, x3), (7, x7)] H4 Q)) (
 doQ (qLoad env.P (Heap.get H4) 93 (some v12)) fun v15 =>
 doW (wStore env.P H4 93 (some x8) (some v15)) fun v16 H5 =>
 doQ (qBin env.P .lss 3 (.tmp 100) (.tmp 101) (some x12) (some x2)) fun v17 =>
 br (some v17) (
 doQ (qLoad env.P (Heap.get H5) 93 (some x10)) fun v18 =>
 doQ (qIndexAddr env.P (Heap.get H5) 106 (some x1) (some x13)) fun v19 =>
 doQ (qLoad env.P (Heap.get H5) 3 (some v19)) fun v20 =>
 doQ (qBin env.P .add 3 (.tmp 109) (.const (.int .i64 1)) (some x13) (some (.v (.int .i64 1)))) fun v21 =>
 doQ (qConvert env.P (Heap.get H5) (⟨0, 111, Heap.gen H5 0 111, 0⟩ : Ref) 3 5 (some v21)) fun v22 =>
 doW (callRes env false (limf env) (limt env 0) H5 (⟨0, 112, Heap.gen H5 0 112, 0⟩ : Ref) (some (.fn (.func 57) [] [])) [v22]) fun v23 H6 =>
 doW (callRes env false (limf env) (limt env 0) H6 (⟨0, 113, Heap.gen H6 0 113, 0⟩ : Ref) (some (.fn (.func 55) [] [])) [v18, v20, v23]) fun v24 H7 =>
 doQ (qExtract (some v24) 0) fun v25 =>
 doQ (qExtract (some v24) 1) fun v26 =>
 doW (nRes H7 (⟨0, 16, Heap.gen H7 0 16, 0⟩ : Ref) (qAlloc env.P (⟨0, 16, Heap.gen H7 0 16, 0⟩ : Ref) 93)) fun v27 H8 =>
 doW (wStore env.P H8 93 (some v27) (some v25)) fun v28 H9 =>
 doQ (qBin env.P .neq 35 (.tmp 116) (.const (.int .i64 0)) (some v26) (some (.v (.int .i64 0)))) fun v29 =>
 br (some v29) (
 Q (.v (.bool false)) H9) (
 doQ (qLoad env.P (Heap.get H9) 93 (some v27)) fun v30 =>
 doW (wStore env.P H9 93 (some x10) (some v30)) fun v31 H10 =>
 doQ (qBin env.P .add 3 (.tmp 119) (.const (.int .i64 1)) (some x12) (some (.v (.int .i64 1)))) fun v32 =>
 doQ (qBin env.P .add 3 (.tmp 66) (.const (.int .i64 1)) (some x13) (some (.v (.int .i64 1)))) fun v33 =>
      GoL env Try.f13 0 hd_blindstamplaw12_DiskFails_10 [(13, v33), (1, x1), (12, v32), (10, x10), (2, x2), (8, x8), (3, x3), (7, x7)] H10 Q)) (
 doQ (qBin env.P .add 3 (.tmp 119) (.const (.int .i64 1)) (some x12) (some (.v (.int .i64 1)))) fun v18 =>
 doQ (qBin env.P .add 3 (.tmp 66) (.const (.int .i64 1)) (some x13) (some (.v (.int .i64 1)))) fun v19 =>
     GoL env Try.f13 0 hd_blindstamplaw12_DiskFails_10 [(13, v19), (1, x1), (12, v18), (10, x10), (2, x2), (8, x8), (3, x3), (7, x7)] H5 Q))) (
 gQ x7 true (qFieldAddr env.P 93 (some x8) 3) fun v3 =>
 gQ x7 true (qLoad env.P (Heap.get H) 4 (some v3)) fun v4 =>
 gQ x7 true (qVal (some x12)) fun v5 =>
 gQ x7 true (qVal (some x2)) fun v6 =>
 gQ x7 true (qBin env.P .gtr 3 (.tmp 125) (.tmp 126) (some v5) (some v6)) fun v7 =>
 gQ x7 true (qBin env.P .eql 4 (.tmp 124) (.tmp 127) (some v4) (some v7)) fun v8 =>
 doQ (pickF (some x7) (some v8) (some (.v (.bool false)))) fun v9 =>
 gQ v9 true (qFieldAddr env.P 93 (some x8) 1) fun v10 =>
 gQ v9 true (qLoad env.P (Heap.get H) 3 (some v10)) fun v11 =>
 gQ v9 true (qFieldAddr env.P 93 (some x3) 1) fun v12 =>
 gQ v9 true (qLoad env.P (Heap.get H) 3 (some v12)) fun v13 =>
 gQ v9 true (qBin env.P .add 3 (.tmp 134) (.const (.int .i64 1)) (some v13) (some (.v (.int .i64 1)))) fun v14 =>
 gQ v9 true (qBin env.P .eql 3 (.tmp 132) (.tmp 135) (some v11) (some v14)) fun v15 =>
 doQ (pickF (some v9) (some v15) (some (.v (.bool false)))) fun v16 =>
 gQ v16 true (qFieldAddr env.P 93 (some x8) 0) fun v17 =>
 gQ v16 true (qLoad env.P (Heap.get H) 91 (some v17)) fun v18 =>
 gQ v16 true (qBuild env.P 93 (some [(0, v18)])) fun v19 =>
 gQ v16 true (qFieldAddr env.P 93 (some x10) 0) fun v20 =>
 gQ v16 true (qLoad env.P (Heap.get H) 91 (some v20)) fun v21 =>
 gQ v16 true (qBuild env.P 93 (some [(0, v21)])) fun v22 =>
 gW v16 true H (callRes env true (limf env) (limt env 0) H (⟨0, 145, Heap.gen H 0 145, 0⟩ : Ref) (some (.fn (.func 62) [] [])) [v19, v22]) fun v23 H1 =>
 doQ (pickF (some v16) (some v23) (some (.v (.bool false)))) fun v24 =>
 Q v24 H1)
theorem vq_blindstamplaw12_DiskFails_10 : VC_blindstamplaw12_DiskFails_10 = fun g x13 x1 x12 x10 x2 x8 x3 x7 H Q => wp env Try.f13 none 0 lv_blindstamplaw12_DiskFails cu_blindstamplaw12_DiskFails Q 500 (bodyOf hd_blindstamplaw12_DiskFails_10) (ofL g [(13, x13), (1, x1), (12, x12), (10, x10), (2, x2), (8, x8), (3, x3), (7, x7)]) H := by kernel_rfl
theorem vc_blindstamplaw12_DiskFails_10 (x13 x1 x12 x10 x2 x8 x3 x7 : AV) (H : Heap) (Q : AV → Heap → Prop) (h : ∀ g, VC_blindstamplaw12_DiskFails_10 g x13 x1 x12 x10 x2 x8 x3 x7 H Q) : GoL env Try.f13 0 hd_blindstamplaw12_DiskFails_10 [(13, x13), (1, x1), (12, x12), (10, x10), (2, x2), (8, x8), (3, x3), (7, x7)] H Q := goL_body fun g => wp_ok (by have h := h g; rw [vq_blindstamplaw12_DiskFails_10] at h; exact h)
end Go.Proofs.Ytjampffmlnplcaa
