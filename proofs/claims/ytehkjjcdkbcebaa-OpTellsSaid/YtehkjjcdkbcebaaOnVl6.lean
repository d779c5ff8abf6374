/-
  What is to be shown of each function, computed from its code. No statement of a seat is proved here.
-/
import Derived.Test.YtehkjjcdkbcebaaOnTy
set_option linter.unusedVariables false
set_option maxRecDepth 1000000
namespace Go.Proofs.Ytehkjjcdkbcebaa
open Go.Ab

/- w09_OpTells -/
noncomputable def bd_w09_OpTells : Code := (Try.f6.body).getD .skip
noncomputable def hd_w09_OpTells_13 : List Item := (findLoop 13 400 [.code bd_w09_OpTells]).getD []
noncomputable def hd_w09_OpTells_17 : List Item := (findLoop 17 400 [.code bd_w09_OpTells]).getD []
def lv_w09_OpTells : Nat → Option (List Nat) := fun i => cond (Nat.beq i 13) (some [26, 23, 17, 2, 12, 5, 11, 25, 24]) (cond (Nat.beq i 17) (some [27, 17, 2, 12, 5, 11, 25, 24]) (none))
def cu_w09_OpTells : Nat → Bool := fun i => false
def VC_w09_OpTells (g : Nat → AV) (x0 x1 x2 x3 x4 : AV) (H : Heap) (Q : AV → Heap → Prop) : Prop :=
  doW (nRes H (⟨0, 5, Heap.gen H 0 5, 0⟩ : Ref) (qBox env.P (⟨0, 5, Heap.gen H 0 5, 0⟩ : Ref) 33 (some x0))) fun v1 H1 =>
  doW (nRes H1 (⟨0, 6, Heap.gen H1 0 6, 0⟩ : Ref) (qBox env.P (⟨0, 6, Heap.gen H1 0 6, 0⟩ : Ref) 33 (some x1))) fun v2 H2 =>
  doQ (qFieldAddr env.P 33 (some v1) 6) fun v3 =>
  doQ (qLoad env.P (Heap.get H2) 31 (some v3)) fun v4 =>
  doQ (qBuiltin env.P false (Heap.get H2) (⟨0, 30, Heap.gen H2 0 30, 0⟩ : Ref) .len #[31] [v4]) fun v5 =>
  doQ (qBin env.P .gtr 3 (.tmp 30) (.const (.int .i64 1000)) (some v5) (some (.v (.int .i64 1000)))) fun v6 =>
  gQ v6 false (qFieldAddr env.P 33 (some v2) 6) fun v7 =>
  gQ v6 false (qLoad env.P (Heap.get H2) 31 (some v7)) fun v8 =>
  gQ v6 false (qBuiltin env.P false (Heap.get H2) (⟨0, 35, Heap.gen H2 0 35, 0⟩ : Ref) .len #[31] [v8]) fun v9 =>
  gQ v6 false (qBin env.P .gtr 3 (.tmp 35) (.const (.int .i64 1000)) (some v9) (some (.v (.int .i64 1000)))) fun v10 =>
  doQ (pickF (some v6) (some (.v (.bool true))) (some v10)) fun v11 =>
  gQ v11 false (qVal (some x2)) fun v12 =>
  gQ v11 false (qBuiltin env.P false (Heap.get H2) (⟨0, 40, Heap.gen H2 0 40, 0⟩ : Ref) .len #[34] [v12]) fun v13 =>
  gQ v11 false (qBin env.P .gtr 3 (.tmp 40) (.const (.int .i64 1000)) (some v13) (some (.v (.int .i64 1000)))) fun v14 =>
  doQ (pickF (some v11) (some (.v (.bool true))) (some v14)) fun v15 =>
  br (some v15) (
   Q (.v (.bool true)) H2) (
   doQ (qLoad env.P (Heap.get H2) 33 (some v1)) fun v16 =>
   doW (callRes env true (limf env) (limt env 0) H2 (⟨0, 44, Heap.gen H2 0 44, 0⟩ : Ref) (some (.fn (.func 23) [] [])) [v16]) fun v17 H3 =>
   doW (nRes H3 (⟨0, 11, Heap.gen H3 0 11, 0⟩ : Ref) (qAlloc env.P (⟨0, 11, Heap.gen H3 0 11, 0⟩ : Ref) 33)) fun v18 H4 =>
   doW (wStore env.P H4 33 (some v18) (some v17)) fun v19 H5 =>
   doW (appRes env.P true H5 (⟨0, 46, Heap.gen H5 0 46, 0⟩ : Ref) (some 34) (some 34) (.v (.slice none 0 0)) x2) fun v20 H6 =>
   doQ (qLoad env.P (Heap.get H6) 33 (some v18)) fun v21 =>
   doW (callRes env true (limf env) (limt env 0) H6 (⟨0, 49, Heap.gen H6 0 49, 0⟩ : Ref) (some (.fn (.func 14) [] [])) [v21]) fun v22 H7 =>
   doQ (qExtract (some v22) 0) fun v23 =>
   doQ (qExtract (some v22) 1) fun v24 =>
   doQ (qLoad env.P (Heap.get H7) 33 (some v1)) fun v25 =>
   doW (callRes env true (limf env) (limt env 0) H7 (⟨0, 54, Heap.gen H7 0 54, 0⟩ : Ref) (some (.fn (.func 24) [] [])) [v25]) fun v26 H8 =>
   doQ (qExtract (some v26) 0) fun v27 =>
   doQ (qExtract (some v26) 1) fun v28 =>
   doW (callRes env true (limf env) (limt env 0) H8 (⟨0, 59, Heap.gen H8 0 59, 0⟩ : Ref) (some (.fn (.func 15) [] [])) [v20]) fun v29 H9 =>
   doQ (qExtract (some v29) 0) fun v30 =>
   doQ (qExtract (some v29) 1) fun v31 =>
   doQ (qExtract (some v29) 2) fun v32 =>
   doW (nRes H9 (⟨0, 17, Heap.gen H9 0 17, 0⟩ : Ref) (qAlloc env.P (⟨0, 17, Heap.gen H9 0 17, 0⟩ : Ref) 33)) fun v33 H10 =>
   doW (wStore env.P H10 33 (some v33) (some v30)) fun v34 H11 =>
   doW (callRes env true (limf env) (limt env 0) H11 (⟨0, 65, Heap.gen H11 0 65, 0⟩ : Ref) (some (.fn (.func 25) [] [])) [x2]) fun v35 H12 =>
   doQ (qExtract (some v35) 0) fun v36 =>
   doQ (qExtract (some v35) 1) fun v37 =>
   doQ (qExtract (some v35) 2) fun v38 =>
   doW (nRes H12 (⟨0, 20, Heap.gen H12 0 20, 0⟩ : Ref) (qAlloc env.P (⟨0, 20, Heap.gen H12 0 20, 0⟩ : Ref) 33)) fun v39 H13 =>
   doW (wStore env.P H13 33 (some v39) (some v36)) fun v40 H14 =>
   doQ (qLoad env.P (Heap.get H14) 33 (some v18)) fun v41 =>
   doW (callRes env true (limf env) (limt env 0) H14 (⟨0, 70, Heap.gen H14 0 70, 0⟩ : Ref) (some (.fn (.func 26) [] [])) [v41]) fun v42 H15 =>
   doW (nRes H15 (⟨0, 23, Heap.gen H15 0 23, 0⟩ : Ref) (qAlloc env.P (⟨0, 23, Heap.gen H15 0 23, 0⟩ : Ref) 33)) fun v43 H16 =>
   doW (wStore env.P H16 33 (some v43) (some v42)) fun v44 H17 =>
   doQ (qConvert env.P (Heap.get H17) (⟨0, 72, Heap.gen H17 0 72, 0⟩ : Ref) 34 9 (some v23)) fun v45 =>
   doQ (qConvert env.P (Heap.get H17) (⟨0, 74, Heap.gen H17 0 74, 0⟩ : Ref) 34 9 (some v27)) fun v46 =>
   doQ (qBin env.P .eql 9 (.tmp 72) (.tmp 74) (some v45) (some v46)) fun v47 =>
   gQ v47 true (qVal (some v24)) fun v48 =>
   gQ v47 true (qVal (some v28)) fun v49 =>
   gQ v47 true (qBin env.P .eql 3 (.tmp 77) (.tmp 78) (some v48) (some v49)) fun v50 =>
   doQ (pickF (some v47) (some v50) (some (.v (.bool false)))) fun v51 =>
   gQ v51 true (qLoad env.P (Heap.get H17) 33 (some v33)) fun v52 =>
   gQ v51 true (qLoad env.P (Heap.get H17) 33 (some v39)) fun v53 =>
   gW v51 true H17 (callRes env false (limf env) (limt env 0) H17 (⟨0, 84, Heap.gen H17 0 84, 0⟩ : Ref) (some (.fn (.func 16) [] [])) [v52, v53]) fun v54 H18 =>
   doQ (pickF (some v51) (some v54) (some (.v (.bool false)))) fun v55 =>
   gQ v55 true (qVal (some v31)) fun v56 =>
   gQ v55 true (qVal (some v37)) fun v57 =>
   gQ v55 true (qBin env.P .eql 3 (.tmp 87) (.tmp 88) (some v56) (some v57)) fun v58 =>
   doQ (pickF (some v55) (some v58) (some (.v (.bool false)))) fun v59 =>
   gQ v59 true (qVal (some v32)) fun v60 =>
   gQ v59 true (qVal (some v38)) fun v61 =>
   gQ v59 true (qBin env.P .eql 3 (.tmp 92) (.tmp 93) (some v60) (some v61)) fun v62 =>
   doQ (pickF (some v59) (some v62) (some (.v (.bool false)))) fun v63 =>
   gQ v63 true (qLoad env.P (Heap.get H18) 33 (some v18)) fun v64 =>
   gW v63 true H18 (callRes env false (limf env) (limt env 0) H18 (⟨0, 98, Heap.gen H18 0 98, 0⟩ : Ref) (some (.fn (.func 21) [] [])) [v64]) fun v65 H19 =>
   gQ v63 true (qLoad env.P (Heap.get H19) 33 (some v1)) fun v66 =>
   gW v63 true H19 (callRes env false (limf env) (limt env 0) H19 (⟨0, 100, Heap.gen H19 0 100, 0⟩ : Ref) (some (.fn (.func 27) [] [])) [v66]) fun v67 H20 =>
   gQ v63 true (qBin env.P .eql 3 (.tmp 98) (.tmp 100) (some v65) (some v67)) fun v68 =>
   doQ (pickF (some v63) (some v68) (some (.v (.bool false)))) fun v69 =>
   doQ (qLoad env.P (Heap.get H20) 33 (some v18)) fun v70 =>
   doW (callRes env false (limf env) (limt env 0) H20 (⟨0, 104, Heap.gen H20 0 104, 0⟩ : Ref) (some (.fn (.func 22) [] [])) [v70]) fun v71 H21 =>
   doQ (qLoad env.P (Heap.get H21) 33 (some v1)) fun v72 =>
   doW (callRes env false (limf env) (limt env 0) H21 (⟨0, 106, Heap.gen H21 0 106, 0⟩ : Ref) (some (.fn (.func 28) [] [])) [v72]) fun v73 H22 =>
   doQ (qBin env.P .eql 4 (.tmp 104) (.tmp 106) (some v71) (some v73)) fun v74 =>
   gQ v74 true (qVal (some x3)) fun v75 =>
   gQ v74 true (qVal (some x4)) fun v76 =>
   gW v74 true H22 (callRes env false (limf env) (limt env 0) H22 (⟨0, 111, Heap.gen H22 0 111, 0⟩ : Ref) (some (.fn (.func 17) [] [])) [v75, v76]) fun v77 H23 =>
   gQ v74 true (qVal (some x3)) fun v78 =>
   gQ v74 true (qVal (some x4)) fun v79 =>
   gW v74 true H23 (callRes env false (limf env) (limt env 0) H23 (⟨0, 114, Heap.gen H23 0 114, 0⟩ : Ref) (some (.fn (.func 29) [] [])) [v78, v79]) fun v80 H24 =>
   gQ v74 true (qBin env.P .eql 3 (.tmp 111) (.tmp 114) (some v77) (some v80)) fun v81 =>
   doQ (pickF (some v74) (some v81) (some (.v (.bool false)))) fun v82 =>
   gQ v82 true (qLoad env.P (Heap.get H24) 33 (some v18)) fun v83 =>
   gQ v82 true (qLoad env.P (Heap.get H24) 33 (some v2)) fun v84 =>
   gW v82 true H24 (callRes env false (limf env) (limt env 0) H24 (⟨0, 120, Heap.gen H24 0 120, 0⟩ : Ref) (some (.fn (.func 30) [] [])) [v83, v84]) fun v85 H25 =>
   gQ v82 true (qLoad env.P (Heap.get H25) 33 (some v1)) fun v86 =>
   gQ v82 true (qLoad env.P (Heap.get H25) 33 (some v2)) fun v87 =>
   gW v82 true H25 (callRes env false (limf env) (limt env 0) H25 (⟨0, 123, Heap.gen H25 0 123, 0⟩ : Ref) (some (.fn (.func 16) [] [])) [v86, v87]) fun v88 H26 =>
   gQ v82 true (qBin env.P .eql 4 (.tmp 120) (.tmp 123) (some v85) (some v88)) fun v89 =>
   doQ (pickF (some v82) (some v89) (some (.v (.bool false)))) fun v90 =>
   gQ v90 true (qLoad env.P (Heap.get H26) 33 (some v18)) fun v91 =>
   gQ v90 true (qLoad env.P (Heap.get H26) 33 (some v1)) fun v92 =>
   gW v90 true H26 (callRes env false (limf env) (limt env 0) H26 (⟨0, 129, Heap.gen H26 0 129, 0⟩ : Ref) (some (.fn (.func 30) [] [])) [v91, v92]) fun v93 H27 =>
   doQ (pickF (some v90) (some v93) (some (.v (.bool false)))) fun v94 =>
   gQ v94 true (qLoad env.P (Heap.get H27) 33 (some v43)) fun v95 =>
   gQ v94 true (qLoad env.P (Heap.get H27) 33 (some v1)) fun v96 =>
   gW v94 true H27 (callRes env false (limf env) (limt env 0) H27 (⟨0, 134, Heap.gen H27 0 134, 0⟩ : Ref) (some (.fn (.func 16) [] [])) [v95, v96]) fun v97 H28 =>
   doQ (pickF (some v94) (some v97) (some (.v (.bool false)))) fun v98 =>
   GoL env Try.f6 0 hd_w09_OpTells_13 [(26, (.v (.int .i64 0))), (23, v43), (17, v33), (2, x2), (12, v20), (5, v1), (11, v18), (25, v98), (24, v69)] H28 Q)
theorem vq_w09_OpTells : VC_w09_OpTells = fun g x0 x1 x2 x3 x4 H Q => wp env Try.f6 none 0 lv_w09_OpTells cu_w09_OpTells Q 500 [.code bd_w09_OpTells] (ofL g [(0, x0), (1, x1), (2, x2), (3, x3), (4, x4)]) H := by kernel_rfl
theorem vc_w09_OpTells (x0 x1 x2 x3 x4 : AV) (H : Heap) (Q : AV → Heap → Prop) (h : ∀ g, VC_w09_OpTells g x0 x1 x2 x3 x4 H Q) : GoL env Try.f6 0 [.code bd_w09_OpTells] [(0, x0), (1, x1), (2, x2), (3, x3), (4, x4)] H Q := ⟨fun g => wp_ok (by have h := h g; rw [vq_w09_OpTells] at h; exact h)⟩
def VC_w09_OpTells_13 (g : Nat → AV) (x26 x23 x17 x2 x12 x5 x11 x25 x24 : AV) (H : Heap) (Q : AV → Heap → Prop) : Prop :=
  doQ (qFieldAddr env.P 33 (some x23) 6) fun v1 =>
  doQ (qLoad env.P (Heap.get H) 31 (some v1)) fun v2 =>
  doQ (qBuiltin env.P false (Heap.get H) (⟨0, 139, Heap.gen H 0 139, 0⟩ : Ref) .len #[31] [v2]) fun v3 =>
  doQ (qBin env.P .lss 3 (.tmp 136) (.tmp 139) (some x26) (some v3)) fun v4 =>
  br (some v4) (
   doQ (qFieldAddr env.P 33 (some x23) 6) fun v5 =>
   doQ (qLoad env.P (Heap.get H) 31 (some v5)) fun v6 =>
   doQ (qFieldAddr env.P 33 (some x23) 6) fun v7 =>
   doQ (qLoad env.P (Heap.get H) 31 (some v7)) fun v8 =>
   doQ (qIndexAddr env.P (Heap.get H) 31 (some v8) (some x26)) fun v9 =>
   doQ (qLoad env.P (Heap.get H) 21 (some v9)) fun v10 =>
   doQ (qBin env.P .add 21 (.tmp 150) (.const (.int .i32 1)) (some v10) (some (.v (.int .i32 1)))) fun v11 =>
   doQ (qIndexAddr env.P (Heap.get H) 31 (some v6) (some x26)) fun v12 =>
   doW (wStore env.P H 21 (some v12) (some v11)) fun v13 H1 =>
   doQ (qBin env.P .add 3 (.tmp 141) (.const (.int .i64 1)) (some x26) (some (.v (.int .i64 1)))) fun v14 =>
   GoL env Try.f6 0 hd_w09_OpTells_13 [(26, v14), (23, x23), (17, x17), (2, x2), (12, x12), (5, x5), (11, x11), (25, x25), (24, x24)] H1 Q) (
   GoL env Try.f6 0 hd_w09_OpTells_17 [(27, (.v (.int .i64 0))), (17, x17), (2, x2), (12, x12), (5, x5), (11, x11), (25, x25), (24, x24)] H Q)
theorem vq_w09_OpTells_13 : VC_w09_OpTells_13 = fun g x26 x23 x17 x2 x12 x5 x11 x25 x24 H Q => wp env Try.f6 none 0 lv_w09_OpTells cu_w09_OpTells Q 500 (bodyOf hd_w09_OpTells_13) (ofL g [(26, x26), (23, x23), (17, x17), (2, x2), (12, x12), (5, x5), (11, x11), (25, x25), (24, x24)]) H := by kernel_rfl
theorem vc_w09_OpTells_13 (x26 x23 x17 x2 x12 x5 x11 x25 x24 : AV) (H : Heap) (Q : AV → Heap → Prop) (h : ∀ g, VC_w09_OpTells_13 g x26 x23 x17 x2 x12 x5 x11 x25 x24 H Q) : GoL env Try.f6 0 hd_w09_OpTells_13 [(26, x26), (23, x23), (17, x17), (2, x2), (12, x12), (5, x5), (11, x11), (25, x25), (24, x24)] H Q := goL_body fun g => wp_ok (by have h := h g; rw [vq_w09_OpTells_13] at h; exact h)
def VC_w09_OpTells_17 (g : Nat → AV) (x27 x17 x2 x12 x5 x11 x25 x24 : AV) (H : Heap) (Q : AV → Heap → Prop) : Prop :=
  doQ (qFieldAddr env.P 33 (some x17) 6) fun v1 =>
  doQ (qLoad env.P (Heap.get H) 31 (some v1)) fun v2 =>
  doQ (qBuiltin env.P false (Heap.get H) (⟨0, 156, Heap.gen H 0 156, 0⟩ : Ref) .len #[31] [v2]) fun v3 =>
  doQ (qBin env.P .lss 3 (.tmp 153) (.tmp 156) (some x27) (some v3)) fun v4 =>
  br (some v4) (
   doQ (qFieldAddr env.P 33 (some x17) 6) fun v5 =>
   doQ (qLoad env.P (Heap.get H) 31 (some v5)) fun v6 =>
   doQ (qFieldAddr env.P 33 (some x17) 6) fun v7 =>
   doQ (qLoad env.P (Heap.get H) 31 (some v7)) fun v8 =>
   doQ (qIndexAddr env.P (Heap.get H) 31 (some v8) (some x27)) fun v9 =>
   doQ (qLoad env.P (Heap.get H) 21 (some v9)) fun v10 =>
   doQ (qBin env.P .add 21 (.tmp 167) (.const (.int .i32 1)) (some v10) (some (.v (.int .i32 1)))) fun v11 =>
   doQ (qIndexAddr env.P (Heap.get H) 31 (some v6) (some x27)) fun v12 =>
   doW (wStore env.P H 21 (some v12) (some v11)) fun v13 H1 =>
   doQ (qBin env.P .add 3 (.tmp 158) (.const (.int .i64 1)) (some x27) (some (.v (.int .i64 1)))) fun v14 =>
   GoL env Try.f6 0 hd_w09_OpTells_17 [(27, v14), (17, x17), (2, x2), (12, x12), (5, x5), (11, x11), (25, x25), (24, x24)] H1 Q) (
   gQ x24 true (qVal (some x25)) fun v5 =>
   doQ (pickF (some x24) (some v5) (some (.v (.bool false)))) fun v6 =>
   gQ v6 true (qLoad env.P (Heap.get H) 33 (some x11)) fun v7 =>
   gQ v6 true (qLoad env.P (Heap.get H) 33 (some x5)) fun v8 =>
   gW v6 true H (callRes env true (limf env) (limt env 0) H (⟨0, 177, Heap.gen H 0 177, 0⟩ : Ref) (some (.fn (.func 16) [] [])) [v7, v8]) fun v9 H1 =>
   doQ (pickF (some v6) (some v9) (some (.v (.bool false)))) fun v10 =>
   gQ v10 true (qVal (some x12)) fun v11 =>
   gQ v10 true (qConvert env.P (Heap.get H1) (⟨0, 181, Heap.gen H1 0 181, 0⟩ : Ref) 34 9 (some v11)) fun v12 =>
   gQ v10 true (qVal (some x2)) fun v13 =>
   gQ v10 true (qConvert env.P (Heap.get H1) (⟨0, 183, Heap.gen H1 0 183, 0⟩ : Ref) 34 9 (some v13)) fun v14 =>
   gQ v10 true (qBin env.P .eql 9 (.tmp 181) (.tmp 183) (some v12) (some v14)) fun v15 =>
   doQ (pickF (some v10) (some v15) (some (.v (.bool false)))) fun v16 =>
   Q v16 H1)
theorem vq_w09_OpTells_17 : VC_w09_OpTells_17 = fun g x27 x17 x2 x12 x5 x11 x25 x24 H Q => wp env Try.f6 none 0 lv_w09_OpTells cu_w09_OpTells Q 500 (bodyOf hd_w09_OpTells_17) (ofL g [(27, x27), (17, x17), (2, x2), (12, x12), (5, x5), (11, x11), (25, x25), (24, x24)]) H := by kernel_rfl
theorem vc_w09_OpTells_17 (x27 x17 x2 x12 x5 x11 x25 x24 : AV) (H : Heap) (Q : AV → Heap → Prop) (h : ∀ g, VC_w09_OpTells_17 g x27 x17 x2 x12 x5 x11 x25 x24 H Q) : GoL env Try.f6 0 hd_w09_OpTells_17 [(27, x27), (17, x17), (2, x2), (12, x12), (5, x5), (11, x11), (25, x25), (24, x24)] H Q := goL_body fun g => wp_ok (by have h := h g; rw [vq_w09_OpTells_17] at h; exact h)

end Go.Proofs.Ytehkjjcdkbcebaa
