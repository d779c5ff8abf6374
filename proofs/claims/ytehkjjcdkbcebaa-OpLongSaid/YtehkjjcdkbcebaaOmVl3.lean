/-
  What is to be shown of each function, computed from its code. No statement of a seat is proved here.
-/
import Derived.Test.YtehkjjcdkbcebaaOmTy
set_option linter.unusedVariables false
set_option maxRecDepth 1000000
namespace Go.Proofs.Ytehkjjcdkbcebaa
open Go.Ab

/- blindstamplaw09_OpBack -/
noncomputable def bd_blindstamplaw09_OpBack : Code := (Try.f3.body).getD .skip
def lv_blindstamplaw09_OpBack : Nat → Option (List Nat) := fun i => none
def cu_blindstamplaw09_OpBack : Nat → Bool := fun i => false
def VC_blindstamplaw09_OpBack (g : Nat → AV) (x0 x1 : AV) (H : Heap) (Q : AV → Heap → Prop) : Prop :=
  doW (nRes H (⟨0, 2, Heap.gen H 0 2, 0⟩ : Ref) (qBox env.P (⟨0, 2, Heap.gen H 0 2, 0⟩ : Ref) 33 (some x0))) fun v1 H1 =>
  doW (callRes env true (limf env) (limt env 0) H1 (⟨0, 16, Heap.gen H1 0 16, 0⟩ : Ref) (some (.fn (.func 13) [] [])) []) fun v2 H2 =>
  doQ (qFieldAddr env.P 33 (some v1) 6) fun v3 =>
  doQ (qLoad env.P (Heap.get H2) 31 (some v3)) fun v4 =>
  doQ (qBuiltin env.P false (Heap.get H2) (⟨0, 19, Heap.gen H2 0 19, 0⟩ : Ref) .len #[31] [v4]) fun v5 =>
  doQ (qBin env.P .gtr 3 (.tmp 19) (.const (.int .i64 1000)) (some v5) (some (.v (.int .i64 1000)))) fun v6 =>
  gQ v6 false (qVal (some x1)) fun v7 =>
  gQ v6 false (qBuiltin env.P false (Heap.get H2) (⟨0, 23, Heap.gen H2 0 23, 0⟩ : Ref) .len #[34] [v7]) fun v8 =>
  gQ v6 false (qBin env.P .gtr 3 (.tmp 23) (.const (.int .i64 1000)) (some v8) (some (.v (.int .i64 1000)))) fun v9 =>
  doQ (pickF (some v6) (some (.v (.bool true))) (some v9)) fun v10 =>
  gQ v10 false (qVal (some v2)) fun v11 =>
  gQ v10 false (qUn env.P .not (some v11)) fun v12 =>
  doQ (pickF (some v10) (some (.v (.bool true))) (some v12)) fun v13 =>
  br (some v13) (
   Q v2 H2) (
   doQ (qLoad env.P (Heap.get H2) 33 (some v1)) fun v14 =>
   doW (callRes env true (limf env) (limt env 0) H2 (⟨0, 33, Heap.gen H2 0 33, 0⟩ : Ref) (some (.fn (.func 14) [] [])) [v14]) fun v15 H3 =>
   doQ (qExtract (some v15) 0) fun v16 =>
   doQ (qExtract (some v15) 1) fun v17 =>
   doQ (qBin env.P .eql 36 (.tmp 36) (.const (.int .i64 0)) (some v17) (some (.v (.int .i64 0)))) fun v18 =>
   br (some v18) (
    doW (appRes env.P true H3 (⟨0, 40, Heap.gen H3 0 40, 0⟩ : Ref) (some 34) (some 34) (.v (.slice none 0 0)) v16) fun v19 H4 =>
    doW (appRes env.P true H4 (⟨0, 42, Heap.gen H4 0 42, 0⟩ : Ref) (some 34) (some 34) v19 x1) fun v20 H5 =>
    doW (callRes env true (limf env) (limt env 0) H5 (⟨0, 43, Heap.gen H5 0 43, 0⟩ : Ref) (some (.fn (.func 15) [] [])) [v20]) fun v21 H6 =>
    doQ (qExtract (some v21) 0) fun v22 =>
    doQ (qExtract (some v21) 1) fun v23 =>
    doQ (qExtract (some v21) 2) fun v24 =>
    doW (nRes H6 (⟨0, 8, Heap.gen H6 0 8, 0⟩ : Ref) (qAlloc env.P (⟨0, 8, Heap.gen H6 0 8, 0⟩ : Ref) 33)) fun v25 H7 =>
    doW (wStore env.P H7 33 (some v25) (some v22)) fun v26 H8 =>
    doQ (qBin env.P .neq 36 (.tmp 47) (.const (.int .i64 0)) (some v24) (some (.v (.int .i64 0)))) fun v27 =>
    gQ v27 false (qVal (some v23)) fun v28 =>
    gQ v27 false (qVal (some v16)) fun v29 =>
    gQ v27 false (qBuiltin env.P false (Heap.get H8) (⟨0, 52, Heap.gen H8 0 52, 0⟩ : Ref) .len #[34] [v29]) fun v30 =>
    gQ v27 false (qBin env.P .neq 3 (.tmp 50) (.tmp 52) (some v28) (some v30)) fun v31 =>
    doQ (pickF (some v27) (some (.v (.bool true))) (some v31)) fun v32 =>
    gQ v32 false (qLoad env.P (Heap.get H8) 33 (some v25)) fun v33 =>
    gQ v32 false (qLoad env.P (Heap.get H8) 33 (some v1)) fun v34 =>
    gW v32 false H8 (callRes env true (limf env) (limt env 0) H8 (⟨0, 58, Heap.gen H8 0 58, 0⟩ : Ref) (some (.fn (.func 16) [] [])) [v33, v34]) fun v35 H9 =>
    gQ v32 false (qUn env.P .not (some v35)) fun v36 =>
    doQ (pickF (some v32) (some (.v (.bool true))) (some v36)) fun v37 =>
    br (some v37) (
     Q (.v (.bool false)) H9) (
     doW (callRes env true (limf env) (limt env 0) H9 (⟨0, 63, Heap.gen H9 0 63, 0⟩ : Ref) (some (.fn (.func 15) [] [])) [x1]) fun v38 H10 =>
     doQ (qExtract (some v38) 0) fun v39 =>
     doQ (qExtract (some v38) 1) fun v40 =>
     doQ (qExtract (some v38) 2) fun v41 =>
     doW (nRes H10 (⟨0, 11, Heap.gen H10 0 11, 0⟩ : Ref) (qAlloc env.P (⟨0, 11, Heap.gen H10 0 11, 0⟩ : Ref) 33)) fun v42 H11 =>
     doW (wStore env.P H11 33 (some v42) (some v39)) fun v43 H12 =>
     doQ (qBin env.P .neq 36 (.tmp 67) (.const (.int .i64 0)) (some v41) (some (.v (.int .i64 0)))) fun v44 =>
     br (some v44) (
      gQ v2 true (qVal (some v40)) fun v45 =>
      gQ v2 true (qBin env.P .eql 3 (.tmp 71) (.const (.int .i64 0)) (some v45) (some (.v (.int .i64 0)))) fun v46 =>
      doQ (pickF (some v2) (some v46) (some (.v (.bool false)))) fun v47 =>
      gQ v47 true (qLoad env.P (Heap.get H12) 33 (some v42)) fun v48 =>
      gQ v47 true (qBuild env.P 33 (some [])) fun v49 =>
      gW v47 true H12 (callRes env true (limf env) (limt env 0) H12 (⟨0, 77, Heap.gen H12 0 77, 0⟩ : Ref) (some (.fn (.func 16) [] [])) [v48, v49]) fun v50 H13 =>
      doQ (pickF (some v47) (some v50) (some (.v (.bool false)))) fun v51 =>
      Q v51 H13) (
      doQ (qLoad env.P (Heap.get H12) 33 (some v42)) fun v45 =>
      doW (callRes env true (limf env) (limt env 0) H12 (⟨0, 81, Heap.gen H12 0 81, 0⟩ : Ref) (some (.fn (.func 14) [] [])) [v45]) fun v46 H13 =>
      doQ (qExtract (some v46) 0) fun v47 =>
      doQ (qExtract (some v46) 1) fun v48 =>
      gQ v2 true (qVal (some v48)) fun v49 =>
      gQ v2 true (qBin env.P .eql 36 (.tmp 86) (.const (.int .i64 0)) (some v49) (some (.v (.int .i64 0)))) fun v50 =>
      doQ (pickF (some v2) (some v50) (some (.v (.bool false)))) fun v51 =>
      gQ v51 true (qVal (some v40)) fun v52 =>
      gQ v51 true (qVal (some x1)) fun v53 =>
      gQ v51 true (qBuiltin env.P false (Heap.get H13) (⟨0, 92, Heap.gen H13 0 92, 0⟩ : Ref) .len #[34] [v53]) fun v54 =>
      gQ v51 true (qBin env.P .leq 3 (.tmp 90) (.tmp 92) (some v52) (some v54)) fun v55 =>
      doQ (pickF (some v51) (some v55) (some (.v (.bool false)))) fun v56 =>
      gQ v56 true (qVal (some v47)) fun v57 =>
      gQ v56 true (qConvert env.P (Heap.get H13) (⟨0, 97, Heap.gen H13 0 97, 0⟩ : Ref) 34 9 (some v57)) fun v58 =>
      gQ v56 true (qVal (some x1)) fun v59 =>
      gQ v56 true (qVal (some v40)) fun v60 =>
      gQ v56 true (qSlice env.P (Heap.get H13) 34 (some v59) (some none) (oi v60) (some none)) fun v61 =>
      gQ v56 true (qConvert env.P (Heap.get H13) (⟨0, 101, Heap.gen H13 0 101, 0⟩ : Ref) 34 9 (some v61)) fun v62 =>
      gQ v56 true (qBin env.P .eql 9 (.tmp 97) (.tmp 101) (some v58) (some v62)) fun v63 =>
      doQ (pickF (some v56) (some v63) (some (.v (.bool false)))) fun v64 =>
      Q v64 H13))) (
    doW (callRes env true (limf env) (limt env 0) H3 (⟨0, 63, Heap.gen H3 0 63, 0⟩ : Ref) (some (.fn (.func 15) [] [])) [x1]) fun v19 H4 =>
    doQ (qExtract (some v19) 0) fun v20 =>
    doQ (qExtract (some v19) 1) fun v21 =>
    doQ (qExtract (some v19) 2) fun v22 =>
    doW (nRes H4 (⟨0, 11, Heap.gen H4 0 11, 0⟩ : Ref) (qAlloc env.P (⟨0, 11, Heap.gen H4 0 11, 0⟩ : Ref) 33)) fun v23 H5 =>
    doW (wStore env.P H5 33 (some v23) (some v20)) fun v24 H6 =>
    doQ (qBin env.P .neq 36 (.tmp 67) (.const (.int .i64 0)) (some v22) (some (.v (.int .i64 0)))) fun v25 =>
    br (some v25) (
     gQ v2 true (qVal (some v21)) fun v26 =>
     gQ v2 true (qBin env.P .eql 3 (.tmp 71) (.const (.int .i64 0)) (some v26) (some (.v (.int .i64 0)))) fun v27 =>
     doQ (pickF (some v2) (some v27) (some (.v (.bool false)))) fun v28 =>
     gQ v28 true (qLoad env.P (Heap.get H6) 33 (some v23)) fun v29 =>
     gQ v28 true (qBuild env.P 33 (some [])) fun v30 =>
     gW v28 true H6 (callRes env true (limf env) (limt env 0) H6 (⟨0, 77, Heap.gen H6 0 77, 0⟩ : Ref) (some (.fn (.func 16) [] [])) [v29, v30]) fun v31 H7 =>
     doQ (pickF (some v28) (some v31) (some (.v (.bool false)))) fun v32 =>
     Q v32 H7) (
     doQ (qLoad env.P (Heap.get H6) 33 (some v23)) fun v26 =>
     doW (callRes env true (limf env) (limt env 0) H6 (⟨0, 81, Heap.gen H6 0 81, 0⟩ : Ref) (some (.fn (.func 14) [] [])) [v26]) fun v27 H7 =>
     doQ (qExtract (some v27) 0) fun v28 =>
     doQ (qExtract (some v27) 1) fun v29 =>
     gQ v2 true (qVal (some v29)) fun v30 =>
     gQ v2 true (qBin env.P .eql 36 (.tmp 86) (.const (.int .i64 0)) (some v30) (some (.v (.int .i64 0)))) fun v31 =>
     doQ (pickF (some v2) (some v31) (some (.v (.bool false)))) fun v32 =>
     gQ v32 true (qVal (some v21)) fun v33 =>
     gQ v32 true (qVal (some x1)) fun v34 =>
     gQ v32 true (qBuiltin env.P false (Heap.get H7) (⟨0, 92, Heap.gen H7 0 92, 0⟩ : Ref) .len #[34] [v34]) fun v35 =>
     gQ v32 true (qBin env.P .leq 3 (.tmp 90) (.tmp 92) (some v33) (some v35)) fun v36 =>
     doQ (pickF (some v32) (some v36) (some (.v (.bool false)))) fun v37 =>
     gQ v37 true (qVal (some v28)) fun v38 =>
     gQ v37 true (qConvert env.P (Heap.get H7) (⟨0, 97, Heap.gen H7 0 97, 0⟩ : Ref) 34 9 (some v38)) fun v39 =>
     gQ v37 true (qVal (some x1)) fun v40 =>
     gQ v37 true (qVal (some v21)) fun v41 =>
     gQ v37 true (qSlice env.P (Heap.get H7) 34 (some v40) (some none) (oi v41) (some none)) fun v42 =>
     gQ v37 true (qConvert env.P (Heap.get H7) (⟨0, 101, Heap.gen H7 0 101, 0⟩ : Ref) 34 9 (some v42)) fun v43 =>
     gQ v37 true (qBin env.P .eql 9 (.tmp 97) (.tmp 101) (some v39) (some v43)) fun v44 =>
     doQ (pickF (some v37) (some v44) (some (.v (.bool false)))) fun v45 =>
     Q v45 H7)))
theorem vq_blindstamplaw09_OpBack : VC_blindstamplaw09_OpBack = fun g x0 x1 H Q => wp env Try.f3 none 0 lv_blindstamplaw09_OpBack cu_blindstamplaw09_OpBack Q 500 [.code bd_blindstamplaw09_OpBack] (ofL g [(0, x0), (1, x1)]) H := by kernel_rfl
theorem vc_blindstamplaw09_OpBack (x0 x1 : AV) (H : Heap) (Q : AV → Heap → Prop) (h : ∀ g, VC_blindstamplaw09_OpBack g x0 x1 H Q) : GoL env Try.f3 0 [.code bd_blindstamplaw09_OpBack] [(0, x0), (1, x1)] H Q := ⟨fun g => wp_ok (by have h := h g; rw [vq_blindstamplaw09_OpBack] at h; exact h)⟩

end Go.Proofs.Ytehkjjcdkbcebaa
