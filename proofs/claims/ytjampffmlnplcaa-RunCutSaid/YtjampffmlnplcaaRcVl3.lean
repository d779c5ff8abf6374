/-
  What is to be shown of each function, computed from its code. No statement of a seat is proved here.
-/
import Derived.Test.YtjampffmlnplcaaRcTy
set_option linter.unusedVariables false
set_option maxRecDepth 1000000
namespace Go.Proofs.Ytjampffmlnplcaa
open Go.Ab

/- blindstamplaw16_RunJoin -/
noncomputable def bd_blindstamplaw16_RunJoin : Code := (Try.f3.body).getD .skip
def lv_blindstamplaw16_RunJoin : Nat → Option (List Nat) := fun i => none
def cu_blindstamplaw16_RunJoin : Nat → Bool := fun i => false
def VC_blindstamplaw16_RunJoin (g : Nat → AV) (x0 x1 : AV) (H : Heap) (Q : AV → Heap → Prop) : Prop :=
  doW (nRes H (⟨0, 2, Heap.gen H 0 2, 0⟩ : Ref) (qBox env.P (⟨0, 2, Heap.gen H 0 2, 0⟩ : Ref) 33 (some x0))) fun v1 H1 =>
  doW (nRes H1 (⟨0, 3, Heap.gen H1 0 3, 0⟩ : Ref) (qBox env.P (⟨0, 3, Heap.gen H1 0 3, 0⟩ : Ref) 33 (some x1))) fun v2 H2 =>
  doW (callRes env true (limf env) (limt env 0) H2 (⟨0, 11, Heap.gen H2 0 11, 0⟩ : Ref) (some (.fn (.func 15) [] [])) []) fun v3 H3 =>
  doQ (qFieldAddr env.P 33 (some v1) 2) fun v4 =>
  doQ (qLoad env.P (Heap.get H3) 31 (some v4)) fun v5 =>
  doQ (qBuiltin env.P false (Heap.get H3) (⟨0, 14, Heap.gen H3 0 14, 0⟩ : Ref) .len #[31] [v5]) fun v6 =>
  doQ (qBin env.P .gtr 3 (.tmp 14) (.const (.int .i64 1000)) (some v6) (some (.v (.int .i64 1000)))) fun v7 =>
  gQ v7 false (qFieldAddr env.P 33 (some v2) 2) fun v8 =>
  gQ v7 false (qLoad env.P (Heap.get H3) 31 (some v8)) fun v9 =>
  gQ v7 false (qBuiltin env.P false (Heap.get H3) (⟨0, 19, Heap.gen H3 0 19, 0⟩ : Ref) .len #[31] [v9]) fun v10 =>
  gQ v7 false (qBin env.P .gtr 3 (.tmp 19) (.const (.int .i64 1000)) (some v10) (some (.v (.int .i64 1000)))) fun v11 =>
  doQ (pickF (some v7) (some (.v (.bool true))) (some v11)) fun v12 =>
  gQ v12 false (qVal (some v3)) fun v13 =>
  gQ v12 false (qUn env.P .not (some v13)) fun v14 =>
  doQ (pickF (some v12) (some (.v (.bool true))) (some v14)) fun v15 =>
  br (some v15) (
   Q v3 H3) (
   doQ (qLoad env.P (Heap.get H3) 33 (some v1)) fun v16 =>
   doQ (qLoad env.P (Heap.get H3) 33 (some v2)) fun v17 =>
   doW (callRes env true (limf env) (limt env 0) H3 (⟨0, 30, Heap.gen H3 0 30, 0⟩ : Ref) (some (.fn (.func 16) [] [])) [v16, v17]) fun v18 H4 =>
   doQ (qExtract (some v18) 0) fun v19 =>
   doQ (qExtract (some v18) 1) fun v20 =>
   doW (nRes H4 (⟨0, 6, Heap.gen H4 0 6, 0⟩ : Ref) (qAlloc env.P (⟨0, 6, Heap.gen H4 0 6, 0⟩ : Ref) 33)) fun v21 H5 =>
   doW (wStore env.P H5 33 (some v21) (some v19)) fun v22 H6 =>
   doQ (qBin env.P .neq 35 (.tmp 33) (.const (.int .i64 0)) (some v20) (some (.v (.int .i64 0)))) fun v23 =>
   br (some v23) (
    gQ v3 true (qFieldAddr env.P 33 (some v21) 2) fun v24 =>
    gQ v3 true (qLoad env.P (Heap.get H6) 31 (some v24)) fun v25 =>
    gQ v3 true (qBuiltin env.P false (Heap.get H6) (⟨0, 39, Heap.gen H6 0 39, 0⟩ : Ref) .len #[31] [v25]) fun v26 =>
    gQ v3 true (qBin env.P .eql 3 (.tmp 39) (.const (.int .i64 0)) (some v26) (some (.v (.int .i64 0)))) fun v27 =>
    doQ (pickF (some v3) (some v27) (some (.v (.bool false)))) fun v28 =>
    Q v28 H6) (
    doQ (qLoad env.P (Heap.get H6) 33 (some v21)) fun v24 =>
    doQ (qFieldAddr env.P 33 (some v1) 0) fun v25 =>
    doQ (qFieldAddr env.P 30 (some v25) 1) fun v26 =>
    doQ (qLoad env.P (Heap.get H6) 3 (some v26)) fun v27 =>
    doW (callRes env true (limf env) (limt env 0) H6 (⟨0, 47, Heap.gen H6 0 47, 0⟩ : Ref) (some (.fn (.func 17) [] [])) [v24, v27]) fun v28 H7 =>
    doQ (qExtract (some v28) 0) fun v29 =>
    doQ (qExtract (some v28) 1) fun v30 =>
    doQ (qExtract (some v28) 2) fun v31 =>
    doW (nRes H7 (⟨0, 8, Heap.gen H7 0 8, 0⟩ : Ref) (qAlloc env.P (⟨0, 8, Heap.gen H7 0 8, 0⟩ : Ref) 33)) fun v32 H8 =>
    doW (nRes H8 (⟨0, 9, Heap.gen H8 0 9, 0⟩ : Ref) (qAlloc env.P (⟨0, 9, Heap.gen H8 0 9, 0⟩ : Ref) 33)) fun v33 H9 =>
    doW (wStore env.P H9 33 (some v32) (some v29)) fun v34 H10 =>
    doW (wStore env.P H10 33 (some v33) (some v30)) fun v35 H11 =>
    gQ v3 true (qVal (some v31)) fun v36 =>
    gQ v3 true (qBin env.P .eql 35 (.tmp 53) (.const (.int .i64 0)) (some v36) (some (.v (.int .i64 0)))) fun v37 =>
    doQ (pickF (some v3) (some v37) (some (.v (.bool false)))) fun v38 =>
    gQ v38 true (qLoad env.P (Heap.get H11) 33 (some v32)) fun v39 =>
    gQ v38 true (qLoad env.P (Heap.get H11) 33 (some v1)) fun v40 =>
    gW v38 true H11 (callRes env true (limf env) (limt env 0) H11 (⟨0, 59, Heap.gen H11 0 59, 0⟩ : Ref) (some (.fn (.func 18) [] [])) [v39, v40]) fun v41 H12 =>
    doQ (pickF (some v38) (some v41) (some (.v (.bool false)))) fun v42 =>
    gQ v42 true (qLoad env.P (Heap.get H12) 33 (some v33)) fun v43 =>
    gQ v42 true (qLoad env.P (Heap.get H12) 33 (some v2)) fun v44 =>
    gW v42 true H12 (callRes env true (limf env) (limt env 0) H12 (⟨0, 64, Heap.gen H12 0 64, 0⟩ : Ref) (some (.fn (.func 18) [] [])) [v43, v44]) fun v45 H13 =>
    doQ (pickF (some v42) (some v45) (some (.v (.bool false)))) fun v46 =>
    gQ v46 true (qFieldAddr env.P 33 (some v21) 1) fun v47 =>
    gQ v46 true (qLoad env.P (Heap.get H13) 28 (some v47)) fun v48 =>
    gQ v46 true (qFieldAddr env.P 33 (some v1) 1) fun v49 =>
    gQ v46 true (qLoad env.P (Heap.get H13) 28 (some v49)) fun v50 =>
    gQ v46 true (qBin env.P .eql 28 (.tmp 68) (.tmp 70) (some v48) (some v50)) fun v51 =>
    doQ (pickF (some v46) (some v51) (some (.v (.bool false)))) fun v52 =>
    gQ v52 true (qFieldAddr env.P 33 (some v21) 0) fun v53 =>
    gQ v52 true (qFieldAddr env.P 30 (some v53) 0) fun v54 =>
    gQ v52 true (qLoad env.P (Heap.get H13) 28 (some v54)) fun v55 =>
    gQ v52 true (qFieldAddr env.P 33 (some v1) 0) fun v56 =>
    gQ v52 true (qFieldAddr env.P 30 (some v56) 0) fun v57 =>
    gQ v52 true (qLoad env.P (Heap.get H13) 28 (some v57)) fun v58 =>
    gQ v52 true (qBin env.P .eql 28 (.tmp 76) (.tmp 79) (some v55) (some v58)) fun v59 =>
    doQ (pickF (some v52) (some v59) (some (.v (.bool false)))) fun v60 =>
    Q v60 H13))
theorem vq_blindstamplaw16_RunJoin : VC_blindstamplaw16_RunJoin = fun g x0 x1 H Q => wp env Try.f3 none 0 lv_blindstamplaw16_RunJoin cu_blindstamplaw16_RunJoin Q 500 [.code bd_blindstamplaw16_RunJoin] (ofL g [(0, x0), (1, x1)]) H := by kernel_rfl
theorem vc_blindstamplaw16_RunJoin (x0 x1 : AV) (H : Heap) (Q : AV → Heap → Prop) (h : ∀ g, VC_blindstamplaw16_RunJoin g x0 x1 H Q) : GoL env Try.f3 0 [.code bd_blindstamplaw16_RunJoin] [(0, x0), (1, x1)] H Q := ⟨fun g => wp_ok (by have h := h g; rw [vq_blindstamplaw16_RunJoin] at h; exact h)⟩

end Go.Proofs.Ytjampffmlnplcaa
