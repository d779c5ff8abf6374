/-
  What is to be shown of each function, computed from its code. No statement of a seat is proved here.
-/
import Derived.Test.YtehkjjcdkbcebaaRbTy
set_option linter.unusedVariables false
set_option maxRecDepth 1000000
namespace Go.Proofs.Ytehkjjcdkbcebaa
open Go.Ab
noncomputable def bd_blindstamplaw11_RecordBack : Code := (Try.f10.body).getD .skip
noncomputable def hd_blindstamplaw11_RecordBack_11 : List Item := (findLoop 11 400 [.code bd_blindstamplaw11_RecordBack]).getD []
def lv_blindstamplaw11_RecordBack : Nat → Option (List Nat) := fun i => cond (Nat.beq i 11) (some [17, 12, 2, 1, 11, 4, 3, 5]) (none)
def cu_blindstamplaw11_RecordBack : Nat → Bool := fun i => false
def VC_blindstamplaw11_RecordBack (g : Nat → AV) (x0 x1 x2 x3 x4 : AV) (H : Heap) (Q : AV → Heap → Prop) : Prop :=
 doW (nRes H (⟨0, 5, Heap.gen H 0 5, 0⟩ : Ref) (qBox env.P (⟨0, 5, Heap.gen H 0 5, 0⟩ : Ref) 75 (some x0))) fun v1 H1 =>
 doW (callRes env true (limf env) (limt env 0) H1 (⟨0, 31, Heap.gen H1 0 31, 0⟩ : Ref) (some (.fn (.func 40) [] [])) []) fun v2 H2 =>
 doQ (qFieldAddr env.P 75 (some v1) 2) fun v3 =>
 doQ (qFieldAddr env.P 33 (some v3) 6) fun v4 =>
 doQ (qLoad env.P (Heap.get H2) 31 (some v4)) fun v5 =>
 doQ (qBuiltin env.P false (Heap.get H2) (⟨0, 35, Heap.gen H2 0 35, 0⟩ : Ref) .len #[31] [v5]) fun v6 =>
 doQ (qBin env.P .gtr 3 (.tmp 35) (.const (.int .i64 1000)) (some v6) (some (.v (.int .i64 1000)))) fun v7 =>
 gQ v7 false (qVal (some v2)) fun v8 =>
 gQ v7 false (qUn env.P .not (some v8)) fun v9 =>
 doQ (pickF (some v7) (some (.v (.bool true))) (some v9)) fun v10 =>
 br (some v10) (
 Q v2 H2) (
 doQ (qLoad env.P (Heap.get H2) 75 (some v1)) fun v11 =>
 doW (callRes env true (limf env) (limt env 0) H2 (⟨0, 46, Heap.gen H2 0 46, 0⟩ : Ref) (some (.fn (.func 41) [] [])) [v11, x1, x2]) fun v12 H3 =>
 doQ (qExtract (some v12) 0) fun v13 =>
 doQ (qExtract (some v12) 1) fun v14 =>
 doQ (qBin env.P .neq 36 (.tmp 49) (.const (.int .i64 0)) (some v14) (some (.v (.int .i64 0)))) fun v15 =>
 br (some v15) (
 gQ v2 true (qVal (some v13)) fun v16 =>
 gQ v2 true (qBuiltin env.P false (Heap.get H3) (⟨0, 54, Heap.gen H3 0 54, 0⟩ : Ref) .len #[76] [v16]) fun v17 =>
 gQ v2 true (qBin env.P .eql 3 (.tmp 54) (.const (.int .i64 0)) (some v17) (some (.v (.int .i64 0)))) fun v18 =>
 doQ (pickF (some v2) (some v18) (some (.v (.bool false)))) fun v19 =>
 Q v19 H3) (
 doW (callRes env true (limf env) (limt env 0) H3 (⟨0, 59, Heap.gen H3 0 59, 0⟩ : Ref) (some (.fn (.func 42) [] [])) [v13]) fun v16 H4 =>
 doQ (qExtract (some v16) 0) fun v17 =>
 doQ (qExtract (some v16) 1) fun v18 =>
 doQ (qExtract (some v16) 2) fun v19 =>
 doW (nRes H4 (⟨0, 14, Heap.gen H4 0 14, 0⟩ : Ref) (qAlloc env.P (⟨0, 14, Heap.gen H4 0 14, 0⟩ : Ref) 75)) fun v20 H5 =>
 doW (nRes H5 (⟨0, 15, Heap.gen H5 0 15, 0⟩ : Ref) (qAlloc env.P (⟨0, 15, Heap.gen H5 0 15, 0⟩ : Ref) 80)) fun v21 H6 =>
 doW (wStore env.P H6 75 (some v20) (some v17)) fun v22 H7 =>
 doW (wStore env.P H7 80 (some v21) (some v18)) fun v23 H8 =>
 doQ (qBin env.P .neq 36 (.tmp 63) (.const (.int .i64 0)) (some v19) (some (.v (.int .i64 0)))) fun v24 =>
 gQ v24 false (qLoad env.P (Heap.get H8) 75 (some v20)) fun v25 =>
 gQ v24 false (qLoad env.P (Heap.get H8) 75 (some v1)) fun v26 =>
 gW v24 false H8 (callRes env true (limf env) (limt env 0) H8 (⟨0, 68, Heap.gen H8 0 68, 0⟩ : Ref) (some (.fn (.func 43) [] [])) [v25, v26]) fun v27 H9 =>
 gQ v24 false (qUn env.P .not (some v27)) fun v28 =>
 doQ (pickF (some v24) (some (.v (.bool true))) (some v28)) fun v29 =>
 gQ v29 false (qLoad env.P (Heap.get H9) 80 (some v21)) fun v30 =>
 gQ v29 false (qVal (some x1)) fun v31 =>
 gQ v29 false (qVal (some x2)) fun v32 =>
 gQ v29 false (qVal (some v13)) fun v33 =>
 gQ v29 false (qBuiltin env.P false (Heap.get H9) (⟨0, 76, Heap.gen H9 0 76, 0⟩ : Ref) .len #[76] [v33]) fun v34 =>
 gQ v29 false (qBuild env.P 80 (some [(0, v31), (1, v32), (3, v34)])) fun v35 =>
 gQ v29 false (qBin env.P .neq 80 (.tmp 72) (.tmp 77) (some v30) (some v35)) fun v36 =>
 doQ (pickF (some v29) (some (.v (.bool true))) (some v36)) fun v37 =>
 br (some v37) (
 Q (.v (.bool false)) H9) (
     GoL env Try.f10 0 hd_blindstamplaw11_RecordBack_11 [(17, (.v (.int .i64 0))), (12, v13), (2, x2), (1, x1), (11, v2), (4, x4), (3, x3), (5, v1)] H9 Q)))
theorem vq_blindstamplaw11_RecordBack : VC_blindstamplaw11_RecordBack = fun g x0 x1 x2 x3 x4 H Q => wp env Try.f10 none 0 lv_blindstamplaw11_RecordBack cu_blindstamplaw11_RecordBack Q 500 [.code bd_blindstamplaw11_RecordBack] (ofL g [(0, x0), (1, x1), (2, x2), (3, x3), (4, x4)]) H := by kernel_rfl
theorem vc_blindstamplaw11_RecordBack (x0 x1 x2 x3 x4 : AV) (H : Heap) (Q : AV → Heap → Prop) (h : ∀ g, VC_blindstamplaw11_RecordBack g x0 x1 x2 x3 x4 H Q) : GoL env Try.f10 0 [.code bd_blindstamplaw11_RecordBack] [(0, x0), (1, x1), (2, x2), (3, x3), (4, x4)] H Q := ⟨fun g => wp_ok (by have h := h g; rw [vq_blindstamplaw11_RecordBack] at h; exact h)⟩
def VC_blindstamplaw11_RecordBack_11 (g : Nat → AV) (x17 x12 x2 x1 x11 x4 x3 x5 : AV) (H : Heap) (Q : AV → Heap → Prop) : Prop :=
 doQ (qBuiltin env.P false (Heap.get H) (⟨0, 82, Heap.gen H 0 82, 0⟩ : Ref) .len #[76] [x12]) fun v1 =>
 doQ (qBin env.P .lss 3 (.tmp 80) (.tmp 82) (some x17) (some v1)) fun v2 =>
 br (some v2) (
 doQ (qIndexAddr env.P (Heap.get H) 76 (some x12) (some x17)) fun v3 =>
 doQ (qLoad env.P (Heap.get H) 34 (some v3)) fun v4 =>
 doW (callRes env true (limf env) (limt env 0) H (⟨0, 91, Heap.gen H 0 91, 0⟩ : Ref) (some (.fn (.func 44) [] [])) [v4]) fun v5 H1 =>
 doQ (qExtract (some v5) 0) fun v6 =>
 doQ (qExtract (some v5) 1) fun v7 =>
 doW (nRes H1 (⟨0, 18, Heap.gen H1 0 18, 0⟩ : Ref) (qAlloc env.P (⟨0, 18, Heap.gen H1 0 18, 0⟩ : Ref) 80)) fun v8 H2 =>
 doW (wStore env.P H2 80 (some v8) (some v6)) fun v9 H3 =>
 doQ (qBin env.P .neq 36 (.tmp 94) (.const (.int .i64 0)) (some v7) (some (.v (.int .i64 0)))) fun v10 =>
 gQ v10 false (qLoad env.P (Heap.get H3) 80 (some v8)) fun v11 =>
 gQ v10 false (qVal (some x1)) fun v12 =>
 gQ v10 false (qVal (some x2)) fun v13 =>
 gQ v10 false (qVal (some x17)) fun v14 =>
 gQ v10 false (qVal (some x12)) fun v15 =>
 gQ v10 false (qBuiltin env.P false (Heap.get H3) (⟨0, 102, Heap.gen H3 0 102, 0⟩ : Ref) .len #[76] [v15]) fun v16 =>
 gQ v10 false (qBuild env.P 80 (some [(0, v12), (1, v13), (2, v14), (3, v16)])) fun v17 =>
 gQ v10 false (qBin env.P .neq 80 (.tmp 97) (.tmp 103) (some v11) (some v17)) fun v18 =>
 doQ (pickF (some v10) (some (.v (.bool true))) (some v18)) fun v19 =>
 gQ v19 false (qVal (some x12)) fun v20 =>
 gQ v19 false (qVal (some x17)) fun v21 =>
 gQ v19 false (qIndexAddr env.P (Heap.get H3) 76 (some v20) (some v21)) fun v22 =>
 gQ v19 false (qLoad env.P (Heap.get H3) 34 (some v22)) fun v23 =>
 gQ v19 false (qBuiltin env.P false (Heap.get H3) (⟨0, 111, Heap.gen H3 0 111, 0⟩ : Ref) .len #[34] [v23]) fun v24 =>
 gQ v19 false (qBin env.P .neq 3 (.tmp 111) (.const (.int .i64 128)) (some v24) (some (.v (.int .i64 128)))) fun v25 =>
 doQ (pickF (some v19) (some (.v (.bool true))) (some v25)) fun v26 =>
 br (some v26) (
 Q (.v (.bool false)) H3) (
 doQ (qBin env.P .add 3 (.tmp 84) (.const (.int .i64 1)) (some x17) (some (.v (.int .i64 1)))) fun v27 =>
    GoL env Try.f10 0 hd_blindstamplaw11_RecordBack_11 [(17, v27), (12, x12), (2, x2), (1, x1), (11, x11), (4, x4), (3, x3), (5, x5)] H3 Q)) (
 doQ (qBuiltin env.P false (Heap.get H) (⟨0, 115, Heap.gen H 0 115, 0⟩ : Ref) .len #[76] [x12]) fun v3 =>
 doQ (qBin env.P .lss 3 (.tmp 115) (.const (.int .i64 2)) (some v3) (some (.v (.int .i64 2)))) fun v4 =>
 gQ v4 false (qVal (some x4)) fun v5 =>
 gQ v4 false (qBin env.P .lss 3 (.tmp 118) (.const (.int .i64 0)) (some v5) (some (.v (.int .i64 0)))) fun v6 =>
 doQ (pickF (some v4) (some (.v (.bool true))) (some v6)) fun v7 =>
 gQ v7 false (qVal (some x4)) fun v8 =>
 gQ v7 false (qVal (some x12)) fun v9 =>
 gQ v7 false (qBuiltin env.P false (Heap.get H) (⟨0, 124, Heap.gen H 0 124, 0⟩ : Ref) .len #[76] [v9]) fun v10 =>
 gQ v7 false (qBin env.P .geq 3 (.tmp 122) (.tmp 124) (some v8) (some v10)) fun v11 =>
 doQ (pickF (some v7) (some (.v (.bool true))) (some v11)) fun v12 =>
 br (some v12) (
 Q x11 H) (
 doQ (qSlice env.P (Heap.get H) 76 (some x12) (some none) (oi x4) (some none)) fun v13 =>
 doW (appRes env.P false H (⟨0, 132, Heap.gen H 0 132, 0⟩ : Ref) (some 76) (some 76) (.v (.slice none 0 0)) v13) fun v14 H1 =>
 doQ (qBin env.P .add 3 (.tmp 134) (.const (.int .i64 1)) (some x4) (some (.v (.int .i64 1)))) fun v15 =>
 doQ (qSlice env.P (Heap.get H1) 76 (some x12) (oi v15) (some none) (some none)) fun v16 =>
 doW (appRes env.P true H1 (⟨0, 137, Heap.gen H1 0 137, 0⟩ : Ref) (some 76) (some 76) v14 v16) fun v17 H2 =>
 doW (callRes env false (limf env) (limt env 0) H2 (⟨0, 138, Heap.gen H2 0 138, 0⟩ : Ref) (some (.fn (.func 42) [] [])) [v17]) fun v18 H3 =>
 doQ (qExtract (some v18) 0) fun v19 =>
 doQ (qExtract (some v18) 1) fun v20 =>
 doQ (qExtract (some v18) 2) fun v21 =>
 doW (nRes H3 (⟨0, 20, Heap.gen H3 0 20, 0⟩ : Ref) (qAlloc env.P (⟨0, 20, Heap.gen H3 0 20, 0⟩ : Ref) 75)) fun v22 H4 =>
 doW (nRes H4 (⟨0, 21, Heap.gen H4 0 21, 0⟩ : Ref) (qAlloc env.P (⟨0, 21, Heap.gen H4 0 21, 0⟩ : Ref) 80)) fun v23 H5 =>
 doW (wStore env.P H5 75 (some v22) (some v19)) fun v24 H6 =>
 doW (wStore env.P H6 80 (some v23) (some v20)) fun v25 H7 =>
    apartV [(x3, x4)] [v22, v23] [] H7 ∧
 (doW (appRes env.P true H7 (⟨0, 143, Heap.gen H7 0 143, 0⟩ : Ref) (some 76) (some 76) (.v (.slice none 0 0)) x12) fun v26 H8 =>
 doQ (qBin env.P .add 3 (.tmp 147) (.const (.int .i64 1)) (some x4) (some (.v (.int .i64 1)))) fun v27 =>
 doQ (qBuiltin env.P true (Heap.get H8) (⟨0, 150, Heap.gen H8 0 150, 0⟩ : Ref) .len #[76] [x12]) fun v28 =>
 doQ (qBin env.P .rem 3 (.tmp 148) (.tmp 150) (some v27) (some v28)) fun v29 =>
 doQ (qBin env.P .add 3 (.tmp 153) (.const (.int .i64 1)) (some x4) (some (.v (.int .i64 1)))) fun v30 =>
 doQ (qBuiltin env.P true (Heap.get H8) (⟨0, 156, Heap.gen H8 0 156, 0⟩ : Ref) .len #[76] [x12]) fun v31 =>
 doQ (qBin env.P .rem 3 (.tmp 154) (.tmp 156) (some v30) (some v31)) fun v32 =>
 doQ (qIndexAddr env.P (Heap.get H8) 76 (some v26) (some v32)) fun v33 =>
 doQ (qLoad env.P (Heap.get H8) 34 (some v33)) fun v34 =>
 doQ (qIndexAddr env.P (Heap.get H8) 76 (some v26) (some x4)) fun v35 =>
 doQ (qLoad env.P (Heap.get H8) 34 (some v35)) fun v36 =>
 doQ (qIndexAddr env.P (Heap.get H8) 76 (some v26) (some x4)) fun v37 =>
 doW (wStore env.P H8 34 (some v37) (some v34)) fun v38 H9 =>
 doQ (qIndexAddr env.P (Heap.get H9) 76 (some v26) (some v29)) fun v39 =>
 doW (wStore env.P H9 34 (some v39) (some v36)) fun v40 H10 =>
 doW (callRes env true (limf env) (limt env 0) H10 (⟨0, 168, Heap.gen H10 0 168, 0⟩ : Ref) (some (.fn (.func 42) [] [])) [v26]) fun v41 H11 =>
 doQ (qExtract (some v41) 0) fun v42 =>
 doQ (qExtract (some v41) 1) fun v43 =>
 doQ (qExtract (some v41) 2) fun v44 =>
 doW (nRes H11 (⟨0, 24, Heap.gen H11 0 24, 0⟩ : Ref) (qAlloc env.P (⟨0, 24, Heap.gen H11 0 24, 0⟩ : Ref) 75)) fun v45 H12 =>
 doW (nRes H12 (⟨0, 25, Heap.gen H12 0 25, 0⟩ : Ref) (qAlloc env.P (⟨0, 25, Heap.gen H12 0 25, 0⟩ : Ref) 80)) fun v46 H13 =>
 doW (wStore env.P H13 75 (some v45) (some v42)) fun v47 H14 =>
 doW (wStore env.P H14 80 (some v46) (some v43)) fun v48 H15 =>
 doQ (qLoad env.P (Heap.get H15) 75 (some x5)) fun v49 =>
 doW (callRes env true (limf env) (limt env 0) H15 (⟨0, 176, Heap.gen H15 0 176, 0⟩ : Ref) (some (.fn (.func 41) [] [])) [v49, x3, x2]) fun v50 H16 =>
 doQ (qExtract (some v50) 0) fun v51 =>
 doQ (qExtract (some v50) 1) fun v52 =>
 doQ (qLoad env.P (Heap.get H16) 75 (some x5)) fun v53 =>
 doW (callRes env true (limf env) (limt env 0) H16 (⟨0, 183, Heap.gen H16 0 183, 0⟩ : Ref) (some (.fn (.func 41) [] [])) [v53, x1, x3]) fun v54 H17 =>
 doQ (qExtract (some v54) 0) fun v55 =>
 doQ (qExtract (some v54) 1) fun v56 =>
 doQ (qBin env.P .neq 36 (.tmp 186) (.const (.int .i64 8)) (some v21) (some (.v (.int .i64 8)))) fun v57 =>
 gQ v57 false (qVal (some v44)) fun v58 =>
 gQ v57 false (qBin env.P .neq 36 (.tmp 189) (.const (.int .i64 8)) (some v58) (some (.v (.int .i64 8)))) fun v59 =>
 doQ (pickF (some v57) (some (.v (.bool true))) (some v59)) fun v60 =>
 br (some v60) (
 Q (.v (.bool false)) H17) (
 gQ x11 true (qVal (some v52)) fun v61 =>
 gQ x11 true (qBin env.P .neq 36 (.tmp 194) (.const (.int .i64 0)) (some v61) (some (.v (.int .i64 0)))) fun v62 =>
 gQ x11 true (qVal (some v62)) fun v63 =>
 gQ v63 false (qVal (some x3)) fun v64 =>
 gQ v63 false (qVal (some x1)) fun v65 =>
 gQ v63 false (qBin env.P .eql 3 (.tmp 197) (.tmp 198) (some v64) (some v65)) fun v66 =>
 gQ x11 true (pickF (some v63) (some (.v (.bool true))) (some v66)) fun v67 =>
 gQ x11 true (qVal (some v67)) fun v68 =>
 gQ v68 false (qVal (some x12)) fun v69 =>
 gQ v68 false (qVal (some v51)) fun v70 =>
 gQ v68 false (qVal (some x4)) fun v71 =>
 gW v68 false H17 (callRes env true (limf env) (limt env 0) H17 (⟨0, 205, Heap.gen H17 0 205, 0⟩ : Ref) (some (.fn (.func 45) [] [])) [v69, v70, v71]) fun v72 H18 =>
 gQ x11 true (pickF (some v68) (some (.v (.bool true))) (some v72)) fun v73 =>
 doQ (pickF (some x11) (some v73) (some (.v (.bool false)))) fun v74 =>
 gQ v74 true (qVal (some v56)) fun v75 =>
 gQ v74 true (qBin env.P .neq 36 (.tmp 209) (.const (.int .i64 0)) (some v75) (some (.v (.int .i64 0)))) fun v76 =>
 gQ v74 true (qVal (some v76)) fun v77 =>
 gQ v77 false (qVal (some x3)) fun v78 =>
 gQ v77 false (qVal (some x2)) fun v79 =>
 gQ v77 false (qBin env.P .eql 3 (.tmp 212) (.tmp 213) (some v78) (some v79)) fun v80 =>
 gQ v74 true (pickF (some v77) (some (.v (.bool true))) (some v80)) fun v81 =>
 gQ v74 true (qVal (some v81)) fun v82 =>
 gQ v82 false (qVal (some x12)) fun v83 =>
 gQ v82 false (qVal (some v55)) fun v84 =>
 gQ v82 false (qVal (some x4)) fun v85 =>
 gW v82 false H18 (callRes env true (limf env) (limt env 0) H18 (⟨0, 220, Heap.gen H18 0 220, 0⟩ : Ref) (some (.fn (.func 45) [] [])) [v83, v84, v85]) fun v86 H19 =>
 gQ v74 true (pickF (some v82) (some (.v (.bool true))) (some v86)) fun v87 =>
 doQ (pickF (some v74) (some v87) (some (.v (.bool false)))) fun v88 =>
 Q v88 H19))))
theorem vq_blindstamplaw11_RecordBack_11 : VC_blindstamplaw11_RecordBack_11 = fun g x17 x12 x2 x1 x11 x4 x3 x5 H Q => wp env Try.f10 none 0 lv_blindstamplaw11_RecordBack cu_blindstamplaw11_RecordBack Q 500 (bodyOf hd_blindstamplaw11_RecordBack_11) (ofL g [(17, x17), (12, x12), (2, x2), (1, x1), (11, x11), (4, x4), (3, x3), (5, x5)]) H := by kernel_rfl
theorem vc_blindstamplaw11_RecordBack_11 (x17 x12 x2 x1 x11 x4 x3 x5 : AV) (H : Heap) (Q : AV → Heap → Prop) (h : ∀ g, VC_blindstamplaw11_RecordBack_11 g x17 x12 x2 x1 x11 x4 x3 x5 H Q) : GoL env Try.f10 0 hd_blindstamplaw11_RecordBack_11 [(17, x17), (12, x12), (2, x2), (1, x1), (11, x11), (4, x4), (3, x3), (5, x5)] H Q := goL_body fun g => wp_ok (by have h := h g; rw [vq_blindstamplaw11_RecordBack_11] at h; exact h)
noncomputable def bd_blindstamplaw11_mixed : Code := (Try.f45.body).getD .skip
def lv_blindstamplaw11_mixed : Nat → Option (List Nat) := fun i => none
def cu_blindstamplaw11_mixed : Nat → Bool := fun i => false
def VC_blindstamplaw11_mixed (g : Nat → AV) (x0 x1 x2 : AV) (H : Heap) (Q : AV → Heap → Prop) : Prop :=
 doW (appRes env.P true H (⟨0, 12, Heap.gen H 0 12, 0⟩ : Ref) (some 76) (some 76) (.v (.slice none 0 0)) x0) fun v1 H1 =>
 doQ (qBuiltin env.P false (Heap.get H1) (⟨0, 14, Heap.gen H1 0 14, 0⟩ : Ref) .len #[76] [x1]) fun v2 =>
 doQ (qBuiltin env.P false (Heap.get H1) (⟨0, 16, Heap.gen H1 0 16, 0⟩ : Ref) .len #[76] [x0]) fun v3 =>
 doQ (qBin env.P .neq 3 (.tmp 14) (.tmp 16) (some v2) (some v3)) fun v4 =>
 br (some v4) (
 Q (.v (.bool false)) H1) (
 doQ (qIndexAddr env.P (Heap.get H1) 76 (some x1) (some x2)) fun v5 =>
 doQ (qLoad env.P (Heap.get H1) 34 (some v5)) fun v6 =>
 doQ (qIndexAddr env.P (Heap.get H1) 76 (some v1) (some x2)) fun v7 =>
 doW (wStore env.P H1 34 (some v7) (some v6)) fun v8 H2 =>
 doW (callRes env true (limf env) (limt env 0) H2 (⟨0, 27, Heap.gen H2 0 27, 0⟩ : Ref) (some (.fn (.func 42) [] [])) [v1]) fun v9 H3 =>
 doQ (qExtract (some v9) 0) fun v10 =>
 doQ (qExtract (some v9) 1) fun v11 =>
 doQ (qExtract (some v9) 2) fun v12 =>
 doW (nRes H3 (⟨0, 8, Heap.gen H3 0 8, 0⟩ : Ref) (qAlloc env.P (⟨0, 8, Heap.gen H3 0 8, 0⟩ : Ref) 75)) fun v13 H4 =>
 doW (nRes H4 (⟨0, 9, Heap.gen H4 0 9, 0⟩ : Ref) (qAlloc env.P (⟨0, 9, Heap.gen H4 0 9, 0⟩ : Ref) 80)) fun v14 H5 =>
 doW (wStore env.P H5 75 (some v13) (some v10)) fun v15 H6 =>
 doW (wStore env.P H6 80 (some v14) (some v11)) fun v16 H7 =>
 doQ (qBin env.P .eql 36 (.tmp 31) (.const (.int .i64 8)) (some v12) (some (.v (.int .i64 8)))) fun v17 =>
 Q v17 H7)
theorem vq_blindstamplaw11_mixed : VC_blindstamplaw11_mixed = fun g x0 x1 x2 H Q => wp env Try.f45 none 0 lv_blindstamplaw11_mixed cu_blindstamplaw11_mixed Q 500 [.code bd_blindstamplaw11_mixed] (ofL g [(0, x0), (1, x1), (2, x2)]) H := by kernel_rfl
theorem vc_blindstamplaw11_mixed (x0 x1 x2 : AV) (H : Heap) (Q : AV → Heap → Prop) (h : ∀ g, VC_blindstamplaw11_mixed g x0 x1 x2 H Q) : GoL env Try.f45 0 [.code bd_blindstamplaw11_mixed] [(0, x0), (1, x1), (2, x2)] H Q := ⟨fun g => wp_ok (by have h := h g; rw [vq_blindstamplaw11_mixed] at h; exact h)⟩
end Go.Proofs.Ytehkjjcdkbcebaa
