/-
  What is to be shown of each function, computed from its code. No statement of a seat is proved here.
-/
import Derived.Test.YtehkjjcdkbcebaaOmTy
set_option linter.unusedVariables false
set_option maxRecDepth 1000000
namespace Go.Proofs.Ytehkjjcdkbcebaa
open Go.Ab

/- blindstamplaw11_RecordLong -/
noncomputable def bd_blindstamplaw11_RecordLong : Code := (Try.f11.body).getD .skip
def lv_blindstamplaw11_RecordLong : Nat → Option (List Nat) := fun i => none
def cu_blindstamplaw11_RecordLong : Nat → Bool := fun i => false
def VC_blindstamplaw11_RecordLong (g : Nat → AV) (x0 x1 : AV) (H : Heap) (Q : AV → Heap → Prop) : Prop :=
  doW (nRes H (⟨0, 2, Heap.gen H 0 2, 0⟩ : Ref) (qBox env.P (⟨0, 2, Heap.gen H 0 2, 0⟩ : Ref) 75 (some x0))) fun v1 H1 =>
  doW (nRes H1 (⟨0, 3, Heap.gen H1 0 3, 0⟩ : Ref) (qBox env.P (⟨0, 3, Heap.gen H1 0 3, 0⟩ : Ref) 75 (some x1))) fun v2 H2 =>
  doW (callRes env true (limf env) (limt env 0) H2 (⟨0, 11, Heap.gen H2 0 11, 0⟩ : Ref) (some (.fn (.func 40) [] [])) []) fun v3 H3 =>
  doQ (qFieldAddr env.P 75 (some v1) 2) fun v4 =>
  doQ (qFieldAddr env.P 33 (some v4) 6) fun v5 =>
  doQ (qLoad env.P (Heap.get H3) 31 (some v5)) fun v6 =>
  doQ (qBuiltin env.P false (Heap.get H3) (⟨0, 15, Heap.gen H3 0 15, 0⟩ : Ref) .len #[31] [v6]) fun v7 =>
  doQ (qBin env.P .gtr 3 (.tmp 15) (.const (.int .i64 1000)) (some v7) (some (.v (.int .i64 1000)))) fun v8 =>
  gQ v8 false (qFieldAddr env.P 75 (some v2) 2) fun v9 =>
  gQ v8 false (qFieldAddr env.P 33 (some v9) 6) fun v10 =>
  gQ v8 false (qLoad env.P (Heap.get H3) 31 (some v10)) fun v11 =>
  gQ v8 false (qBuiltin env.P false (Heap.get H3) (⟨0, 21, Heap.gen H3 0 21, 0⟩ : Ref) .len #[31] [v11]) fun v12 =>
  gQ v8 false (qBin env.P .gtr 3 (.tmp 21) (.const (.int .i64 1000)) (some v12) (some (.v (.int .i64 1000)))) fun v13 =>
  doQ (pickF (some v8) (some (.v (.bool true))) (some v13)) fun v14 =>
  gQ v14 false (qVal (some v3)) fun v15 =>
  gQ v14 false (qUn env.P .not (some v15)) fun v16 =>
  doQ (pickF (some v14) (some (.v (.bool true))) (some v16)) fun v17 =>
  br (some v17) (
   Q v3 H3) (
   doQ (qLoad env.P (Heap.get H3) 75 (some v1)) fun v18 =>
   doW (callRes env true (limf env) (limt env 0) H3 (⟨0, 31, Heap.gen H3 0 31, 0⟩ : Ref) (some (.fn (.func 46) [] [])) [v18]) fun v19 H4 =>
   doQ (qExtract (some v19) 0) fun v20 =>
   doQ (qExtract (some v19) 1) fun v21 =>
   doQ (qLoad env.P (Heap.get H4) 75 (some v2)) fun v22 =>
   doW (callRes env true (limf env) (limt env 0) H4 (⟨0, 36, Heap.gen H4 0 36, 0⟩ : Ref) (some (.fn (.func 46) [] [])) [v22]) fun v23 H5 =>
   doQ (qExtract (some v23) 0) fun v24 =>
   doQ (qExtract (some v23) 1) fun v25 =>
   doQ (qBin env.P .neq 36 (.tmp 39) (.const (.int .i64 0)) (some v21) (some (.v (.int .i64 0)))) fun v26 =>
   gQ v26 false (qVal (some v25)) fun v27 =>
   gQ v26 false (qBin env.P .neq 36 (.tmp 42) (.const (.int .i64 0)) (some v27) (some (.v (.int .i64 0)))) fun v28 =>
   doQ (pickF (some v26) (some (.v (.bool true))) (some v28)) fun v29 =>
   br (some v29) (
    gQ v3 true (qVal (some v20)) fun v30 =>
    gQ v3 true (qBin env.P .leq 3 (.tmp 47) (.const (.int .i64 3)) (some v30) (some (.v (.int .i64 3)))) fun v31 =>
    doQ (pickF (some v3) (some v31) (some (.v (.bool false)))) fun v32 =>
    gQ v32 true (qVal (some v24)) fun v33 =>
    gQ v32 true (qBin env.P .leq 3 (.tmp 51) (.const (.int .i64 3)) (some v33) (some (.v (.int .i64 3)))) fun v34 =>
    doQ (pickF (some v32) (some v34) (some (.v (.bool false)))) fun v35 =>
    Q v35 H5) (
    doQ (qFieldAddr env.P 75 (some v1) 0) fun v30 =>
    doQ (qLoad env.P (Heap.get H5) 5 (some v30)) fun v31 =>
    doQ (qFieldAddr env.P 75 (some v2) 0) fun v32 =>
    doQ (qLoad env.P (Heap.get H5) 5 (some v32)) fun v33 =>
    doQ (qBin env.P .eql 5 (.tmp 55) (.tmp 57) (some v31) (some v33)) fun v34 =>
    gQ v34 true (qFieldAddr env.P 75 (some v1) 2) fun v35 =>
    gQ v34 true (qFieldAddr env.P 33 (some v35) 0) fun v36 =>
    gQ v34 true (qLoad env.P (Heap.get H5) 5 (some v36)) fun v37 =>
    gQ v34 true (qFieldAddr env.P 75 (some v2) 2) fun v38 =>
    gQ v34 true (qFieldAddr env.P 33 (some v38) 0) fun v39 =>
    gQ v34 true (qLoad env.P (Heap.get H5) 5 (some v39)) fun v40 =>
    gQ v34 true (qBin env.P .eql 5 (.tmp 62) (.tmp 65) (some v37) (some v40)) fun v41 =>
    doQ (pickF (some v34) (some v41) (some (.v (.bool false)))) fun v42 =>
    gQ v42 true (qFieldAddr env.P 75 (some v1) 2) fun v43 =>
    gQ v42 true (qFieldAddr env.P 33 (some v43) 3) fun v44 =>
    gQ v42 true (qFieldAddr env.P 30 (some v44) 1) fun v45 =>
    gQ v42 true (qLoad env.P (Heap.get H5) 3 (some v45)) fun v46 =>
    gQ v42 true (qFieldAddr env.P 75 (some v2) 2) fun v47 =>
    gQ v42 true (qFieldAddr env.P 33 (some v47) 3) fun v48 =>
    gQ v42 true (qFieldAddr env.P 30 (some v48) 1) fun v49 =>
    gQ v42 true (qLoad env.P (Heap.get H5) 3 (some v49)) fun v50 =>
    gQ v42 true (qBin env.P .eql 3 (.tmp 72) (.tmp 76) (some v46) (some v50)) fun v51 =>
    doQ (pickF (some v42) (some v51) (some (.v (.bool false)))) fun v52 =>
    gQ v3 true (qVal (some v20)) fun v53 =>
    gQ v3 true (qBin env.P .geq 3 (.tmp 81) (.const (.int .i64 1)) (some v53) (some (.v (.int .i64 1)))) fun v54 =>
    doQ (pickF (some v3) (some v54) (some (.v (.bool false)))) fun v55 =>
    gQ v55 true (qVal (some v20)) fun v56 =>
    gQ v55 true (qBin env.P .leq 3 (.tmp 85) (.const (.int .i64 3)) (some v56) (some (.v (.int .i64 3)))) fun v57 =>
    doQ (pickF (some v55) (some v57) (some (.v (.bool false)))) fun v58 =>
    gQ v58 true (qFieldAddr env.P 75 (some v1) 0) fun v59 =>
    gQ v58 true (qLoad env.P (Heap.get H5) 5 (some v59)) fun v60 =>
    gQ v58 true (qBin env.P .eql 5 (.tmp 90) (.const (.int .u8 2)) (some v60) (some (a8 2))) fun v61 =>
    gQ v58 true (qVal (some v61)) fun v62 =>
    gQ v62 false (qVal (some v20)) fun v63 =>
    gQ v62 false (qBin env.P .eql 3 (.tmp 93) (.const (.int .i64 1)) (some v63) (some (.v (.int .i64 1)))) fun v64 =>
    gQ v58 true (pickF (some v62) (some (.v (.bool true))) (some v64)) fun v65 =>
    doQ (pickF (some v58) (some v65) (some (.v (.bool false)))) fun v66 =>
    gQ v66 true (qVal (some v52)) fun v67 =>
    gQ v66 true (qUn env.P .not (some v67)) fun v68 =>
    gQ v66 true (qVal (some v68)) fun v69 =>
    gQ v69 false (qVal (some v20)) fun v70 =>
    gQ v69 false (qVal (some v24)) fun v71 =>
    gQ v69 false (qBin env.P .eql 3 (.tmp 101) (.tmp 102) (some v70) (some v71)) fun v72 =>
    gQ v66 true (pickF (some v69) (some (.v (.bool true))) (some v72)) fun v73 =>
    doQ (pickF (some v66) (some v73) (some (.v (.bool false)))) fun v74 =>
    Q v74 H5))
theorem vq_blindstamplaw11_RecordLong : VC_blindstamplaw11_RecordLong = fun g x0 x1 H Q => wp env Try.f11 none 0 lv_blindstamplaw11_RecordLong cu_blindstamplaw11_RecordLong Q 500 [.code bd_blindstamplaw11_RecordLong] (ofL g [(0, x0), (1, x1)]) H := by kernel_rfl
theorem vc_blindstamplaw11_RecordLong (x0 x1 : AV) (H : Heap) (Q : AV → Heap → Prop) (h : ∀ g, VC_blindstamplaw11_RecordLong g x0 x1 H Q) : GoL env Try.f11 0 [.code bd_blindstamplaw11_RecordLong] [(0, x0), (1, x1)] H Q := ⟨fun g => wp_ok (by have h := h g; rw [vq_blindstamplaw11_RecordLong] at h; exact h)⟩

end Go.Proofs.Ytehkjjcdkbcebaa
