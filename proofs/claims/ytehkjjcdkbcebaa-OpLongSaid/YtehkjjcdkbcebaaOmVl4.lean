/-
  What is to be shown of each function, computed from its code. No statement of a seat is proved here.
-/
import Derived.Test.YtehkjjcdkbcebaaOmTy
set_option linter.unusedVariables false
set_option maxRecDepth 1000000
namespace Go.Proofs.Ytehkjjcdkbcebaa
open Go.Ab

/- blindstamplaw09_OpLong -/
noncomputable def bd_blindstamplaw09_OpLong : Code := (Try.f4.body).getD .skip
def lv_blindstamplaw09_OpLong : Nat → Option (List Nat) := fun i => none
def cu_blindstamplaw09_OpLong : Nat → Bool := fun i => false
def VC_blindstamplaw09_OpLong (g : Nat → AV) (x0 x1 x2 : AV) (H : Heap) (Q : AV → Heap → Prop) : Prop :=
  doW (nRes H (⟨0, 3, Heap.gen H 0 3, 0⟩ : Ref) (qBox env.P (⟨0, 3, Heap.gen H 0 3, 0⟩ : Ref) 33 (some x0))) fun v1 H1 =>
  doW (callRes env true (limf env) (limt env 0) H1 (⟨0, 16, Heap.gen H1 0 16, 0⟩ : Ref) (some (.fn (.func 13) [] [])) []) fun v2 H2 =>
  doQ (qFieldAddr env.P 33 (some v1) 6) fun v3 =>
  doQ (qLoad env.P (Heap.get H2) 31 (some v3)) fun v4 =>
  doQ (qBuiltin env.P false (Heap.get H2) (⟨0, 19, Heap.gen H2 0 19, 0⟩ : Ref) .len #[31] [v4]) fun v5 =>
  doQ (qBin env.P .gtr 3 (.tmp 19) (.const (.int .i64 1000)) (some v5) (some (.v (.int .i64 1000)))) fun v6 =>
  gQ v6 false (qVal (some x1)) fun v7 =>
  gQ v6 false (qBuiltin env.P false (Heap.get H2) (⟨0, 23, Heap.gen H2 0 23, 0⟩ : Ref) .len #[31] [v7]) fun v8 =>
  gQ v6 false (qFieldAddr env.P 33 (some v1) 6) fun v9 =>
  gQ v6 false (qLoad env.P (Heap.get H2) 31 (some v9)) fun v10 =>
  gQ v6 false (qBuiltin env.P false (Heap.get H2) (⟨0, 26, Heap.gen H2 0 26, 0⟩ : Ref) .len #[31] [v10]) fun v11 =>
  gQ v6 false (qBin env.P .lss 3 (.tmp 23) (.tmp 26) (some v8) (some v11)) fun v12 =>
  doQ (pickF (some v6) (some (.v (.bool true))) (some v12)) fun v13 =>
  gQ v13 false (qVal (some v2)) fun v14 =>
  gQ v13 false (qUn env.P .not (some v14)) fun v15 =>
  doQ (pickF (some v13) (some (.v (.bool true))) (some v15)) fun v16 =>
  br (some v16) (
   Q v2 H2) (
   doQ (qLoad env.P (Heap.get H2) 33 (some v1)) fun v17 =>
   doW (callRes env true (limf env) (limt env 0) H2 (⟨0, 36, Heap.gen H2 0 36, 0⟩ : Ref) (some (.fn (.func 14) [] [])) [v17]) fun v18 H3 =>
   doQ (qExtract (some v18) 0) fun v19 =>
   doQ (qExtract (some v18) 1) fun v20 =>
   doQ (qBin env.P .neq 36 (.tmp 39) (.const (.int .i64 0)) (some v20) (some (.v (.int .i64 0)))) fun v21 =>
   br (some v21) (
    gQ v2 true (qVal (some v19)) fun v22 =>
    gQ v2 true (qBuiltin env.P false (Heap.get H3) (⟨0, 44, Heap.gen H3 0 44, 0⟩ : Ref) .len #[34] [v22]) fun v23 =>
    gQ v2 true (qBin env.P .eql 3 (.tmp 44) (.const (.int .i64 0)) (some v23) (some (.v (.int .i64 0)))) fun v24 =>
    doQ (pickF (some v2) (some v24) (some (.v (.bool false)))) fun v25 =>
    Q v25 H3) (
    doQ (qBuiltin env.P false (Heap.get H3) (⟨0, 48, Heap.gen H3 0 48, 0⟩ : Ref) .len #[34] [v19]) fun v22 =>
    doQ (qFieldAddr env.P 33 (some v1) 0) fun v23 =>
    doQ (qLoad env.P (Heap.get H3) 5 (some v23)) fun v24 =>
    doQ (qFieldAddr env.P 33 (some v1) 3) fun v25 =>
    doQ (qFieldAddr env.P 30 (some v25) 1) fun v26 =>
    doQ (qLoad env.P (Heap.get H3) 3 (some v26)) fun v27 =>
    doW (callRes env true (limf env) (limt env 0) H3 (⟨0, 54, Heap.gen H3 0 54, 0⟩ : Ref) (some (.fn (.func 17) [] [])) [v24, v27]) fun v28 H4 =>
    doQ (qBin env.P .neq 3 (.tmp 48) (.tmp 54) (some v22) (some v28)) fun v29 =>
    br (some v29) (
     Q (.v (.bool false)) H4) (
     doQ (qBin env.P .geq 3 (.tmp 56) (.const (.int .i64 0)) (some x2) (some (.v (.int .i64 0)))) fun v30 =>
     gQ v30 true (qVal (some x2)) fun v31 =>
     gQ v30 true (qVal (some v19)) fun v32 =>
     gQ v30 true (qBuiltin env.P false (Heap.get H4) (⟨0, 61, Heap.gen H4 0 61, 0⟩ : Ref) .len #[34] [v32]) fun v33 =>
     gQ v30 true (qBin env.P .lss 3 (.tmp 59) (.tmp 61) (some v31) (some v33)) fun v34 =>
     doQ (pickF (some v30) (some v34) (some (.v (.bool false)))) fun v35 =>
     br (some v35) (
      doQ (qSlice env.P (Heap.get H4) 34 (some v19) (some none) (oi x2) (some none)) fun v36 =>
      doW (callRes env true (limf env) (limt env 0) H4 (⟨0, 68, Heap.gen H4 0 68, 0⟩ : Ref) (some (.fn (.func 15) [] [])) [v36]) fun v37 H5 =>
      doQ (qExtract (some v37) 0) fun v38 =>
      doQ (qExtract (some v37) 1) fun v39 =>
      doQ (qExtract (some v37) 2) fun v40 =>
      doW (nRes H5 (⟨0, 10, Heap.gen H5 0 10, 0⟩ : Ref) (qAlloc env.P (⟨0, 10, Heap.gen H5 0 10, 0⟩ : Ref) 33)) fun v41 H6 =>
      doW (wStore env.P H6 33 (some v41) (some v38)) fun v42 H7 =>
      doQ (qBin env.P .neq 36 (.tmp 72) (.const (.int .i64 8)) (some v40) (some (.v (.int .i64 8)))) fun v43 =>
      br (some v43) (
       Q (.v (.bool false)) H7) (
       doQ (qLoad env.P (Heap.get H7) 33 (some v1)) fun v44 =>
       doW (nRes H7 (⟨0, 13, Heap.gen H7 0 13, 0⟩ : Ref) (qAlloc env.P (⟨0, 13, Heap.gen H7 0 13, 0⟩ : Ref) 33)) fun v45 H8 =>
       doW (wStore env.P H8 33 (some v45) (some v44)) fun v46 H9 =>
       doQ (qFieldAddr env.P 33 (some v1) 6) fun v47 =>
       doQ (qLoad env.P (Heap.get H9) 31 (some v47)) fun v48 =>
       doQ (qBuiltin env.P false (Heap.get H9) (⟨0, 78, Heap.gen H9 0 78, 0⟩ : Ref) .len #[31] [v48]) fun v49 =>
       doQ (qSlice env.P (Heap.get H9) 31 (some x1) (some none) (oi v49) (some none)) fun v50 =>
       doW (appRes env.P true H9 (⟨0, 80, Heap.gen H9 0 80, 0⟩ : Ref) (some 31) (some 31) (.v (.slice none 0 0)) v50) fun v51 H10 =>
       doQ (qFieldAddr env.P 33 (some v45) 6) fun v52 =>
       doW (wStore env.P H10 31 (some v52) (some v51)) fun v53 H11 =>
       doQ (qLoad env.P (Heap.get H11) 33 (some v45)) fun v54 =>
       doW (callRes env true (limf env) (limt env 0) H11 (⟨0, 84, Heap.gen H11 0 84, 0⟩ : Ref) (some (.fn (.func 14) [] [])) [v54]) fun v55 H12 =>
       doQ (qExtract (some v55) 0) fun v56 =>
       doQ (qExtract (some v55) 1) fun v57 =>
       gQ v2 true (qVal (some v57)) fun v58 =>
       gQ v2 true (qBin env.P .neq 36 (.tmp 89) (.const (.int .i64 0)) (some v58) (some (.v (.int .i64 0)))) fun v59 =>
       gQ v2 true (qVal (some v59)) fun v60 =>
       gQ v60 false (qVal (some v56)) fun v61 =>
       gQ v60 false (qBuiltin env.P false (Heap.get H12) (⟨0, 93, Heap.gen H12 0 93, 0⟩ : Ref) .len #[34] [v61]) fun v62 =>
       gQ v60 false (qVal (some v19)) fun v63 =>
       gQ v60 false (qBuiltin env.P false (Heap.get H12) (⟨0, 95, Heap.gen H12 0 95, 0⟩ : Ref) .len #[34] [v63]) fun v64 =>
       gQ v60 false (qBin env.P .eql 3 (.tmp 93) (.tmp 95) (some v62) (some v64)) fun v65 =>
       gQ v2 true (pickF (some v60) (some (.v (.bool true))) (some v65)) fun v66 =>
       doQ (pickF (some v2) (some v66) (some (.v (.bool false)))) fun v67 =>
       Q v67 H12)) (
      doQ (qLoad env.P (Heap.get H4) 33 (some v1)) fun v36 =>
      doW (nRes H4 (⟨0, 13, Heap.gen H4 0 13, 0⟩ : Ref) (qAlloc env.P (⟨0, 13, Heap.gen H4 0 13, 0⟩ : Ref) 33)) fun v37 H5 =>
      doW (wStore env.P H5 33 (some v37) (some v36)) fun v38 H6 =>
      doQ (qFieldAddr env.P 33 (some v1) 6) fun v39 =>
      doQ (qLoad env.P (Heap.get H6) 31 (some v39)) fun v40 =>
      doQ (qBuiltin env.P false (Heap.get H6) (⟨0, 78, Heap.gen H6 0 78, 0⟩ : Ref) .len #[31] [v40]) fun v41 =>
      doQ (qSlice env.P (Heap.get H6) 31 (some x1) (some none) (oi v41) (some none)) fun v42 =>
      doW (appRes env.P true H6 (⟨0, 80, Heap.gen H6 0 80, 0⟩ : Ref) (some 31) (some 31) (.v (.slice none 0 0)) v42) fun v43 H7 =>
      doQ (qFieldAddr env.P 33 (some v37) 6) fun v44 =>
      doW (wStore env.P H7 31 (some v44) (some v43)) fun v45 H8 =>
      doQ (qLoad env.P (Heap.get H8) 33 (some v37)) fun v46 =>
      doW (callRes env true (limf env) (limt env 0) H8 (⟨0, 84, Heap.gen H8 0 84, 0⟩ : Ref) (some (.fn (.func 14) [] [])) [v46]) fun v47 H9 =>
      doQ (qExtract (some v47) 0) fun v48 =>
      doQ (qExtract (some v47) 1) fun v49 =>
      gQ v2 true (qVal (some v49)) fun v50 =>
      gQ v2 true (qBin env.P .neq 36 (.tmp 89) (.const (.int .i64 0)) (some v50) (some (.v (.int .i64 0)))) fun v51 =>
      gQ v2 true (qVal (some v51)) fun v52 =>
      gQ v52 false (qVal (some v48)) fun v53 =>
      gQ v52 false (qBuiltin env.P false (Heap.get H9) (⟨0, 93, Heap.gen H9 0 93, 0⟩ : Ref) .len #[34] [v53]) fun v54 =>
      gQ v52 false (qVal (some v19)) fun v55 =>
      gQ v52 false (qBuiltin env.P false (Heap.get H9) (⟨0, 95, Heap.gen H9 0 95, 0⟩ : Ref) .len #[34] [v55]) fun v56 =>
      gQ v52 false (qBin env.P .eql 3 (.tmp 93) (.tmp 95) (some v54) (some v56)) fun v57 =>
      gQ v2 true (pickF (some v52) (some (.v (.bool true))) (some v57)) fun v58 =>
      doQ (pickF (some v2) (some v58) (some (.v (.bool false)))) fun v59 =>
      Q v59 H9))))
theorem vq_blindstamplaw09_OpLong : VC_blindstamplaw09_OpLong = fun g x0 x1 x2 H Q => wp env Try.f4 none 0 lv_blindstamplaw09_OpLong cu_blindstamplaw09_OpLong Q 500 [.code bd_blindstamplaw09_OpLong] (ofL g [(0, x0), (1, x1), (2, x2)]) H := by kernel_rfl
theorem vc_blindstamplaw09_OpLong (x0 x1 x2 : AV) (H : Heap) (Q : AV → Heap → Prop) (h : ∀ g, VC_blindstamplaw09_OpLong g x0 x1 x2 H Q) : GoL env Try.f4 0 [.code bd_blindstamplaw09_OpLong] [(0, x0), (1, x1), (2, x2)] H Q := ⟨fun g => wp_ok (by have h := h g; rw [vq_blindstamplaw09_OpLong] at h; exact h)⟩

end Go.Proofs.Ytehkjjcdkbcebaa
