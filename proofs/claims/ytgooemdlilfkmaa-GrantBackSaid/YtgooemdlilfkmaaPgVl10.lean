/-
  What is to be shown of each law, computed from its code. No statement of a seat is proved here.
-/
import Derived.Test.YtgooemdlilfkmaaPgTy
set_option linter.unusedVariables false
set_option maxRecDepth 1000000
namespace Go.Proofs.Ytgooemdlilfkmaa
open Go.Ab

/- blindstamplaw07_GrantBack -/
noncomputable def bd_blindstamplaw07_GrantBack : Code := (Try.f10.body).getD .skip
def lv_blindstamplaw07_GrantBack : Nat → Option (List Nat) := fun i => none
def cu_blindstamplaw07_GrantBack : Nat → Bool := fun i => false
def VC_blindstamplaw07_GrantBack (g : Nat → AV) (x0 x1 : AV) (H : Heap) (Q : AV → Heap → Prop) : Prop :=
  doW (nRes H (⟨0, 2, Heap.gen H 0 2, 0⟩ : Ref) (qBox env.P (⟨0, 2, Heap.gen H 0 2, 0⟩ : Ref) 59 (some x0))) fun v1 H1 =>
  doW (callRes env true (limf env) (limt env 0) H1 (⟨0, 14, Heap.gen H1 0 14, 0⟩ : Ref) (some (.fn (.func 40) [] [])) []) fun v2 H2 =>
  doQ (qBuiltin env.P false (Heap.get H2) (⟨0, 16, Heap.gen H2 0 16, 0⟩ : Ref) .len #[60] [x1]) fun v3 =>
  doQ (qBin env.P .gtr 3 (.tmp 16) (.const (.int .i64 1000)) (some v3) (some (.v (.int .i64 1000)))) fun v4 =>
  gQ v4 false (qVal (some v2)) fun v5 =>
  gQ v4 false (qUn env.P .not (some v5)) fun v6 =>
  doQ (pickF (some v4) (some (.v (.bool true))) (some v6)) fun v7 =>
  br (some v7) (
   Q v2 H2) (
   doQ (qLoad env.P (Heap.get H2) 59 (some v1)) fun v8 =>
   doW (callRes env true (limf env) (limt env 0) H2 (⟨0, 25, Heap.gen H2 0 25, 0⟩ : Ref) (some (.fn (.func 30) [] [])) [v8]) fun v9 H3 =>
   doQ (qExtract (some v9) 0) fun v10 =>
   doQ (qExtract (some v9) 1) fun v11 =>
   doQ (qBin env.P .eql 27 (.tmp 28) (.const (.int .i64 0)) (some v11) (some (.v (.int .i64 0)))) fun v12 =>
   br (some v12) (
    doW (callRes env true (limf env) (limt env 0) H3 (⟨0, 32, Heap.gen H3 0 32, 0⟩ : Ref) (some (.fn (.func 32) [] [])) [v10]) fun v13 H4 =>
    doQ (qExtract (some v13) 0) fun v14 =>
    doQ (qExtract (some v13) 1) fun v15 =>
    doW (nRes H4 (⟨0, 8, Heap.gen H4 0 8, 0⟩ : Ref) (qAlloc env.P (⟨0, 8, Heap.gen H4 0 8, 0⟩ : Ref) 59)) fun v16 H5 =>
    doW (wStore env.P H5 59 (some v16) (some v14)) fun v17 H6 =>
    doQ (qBuiltin env.P false (Heap.get H6) (⟨0, 36, Heap.gen H6 0 36, 0⟩ : Ref) .len #[60] [v10]) fun v18 =>
    doQ (qBin env.P .neq 3 (.tmp 36) (.const (.int .i64 7)) (some v18) (some (.v (.int .i64 7)))) fun v19 =>
    gQ v19 false (qVal (some v15)) fun v20 =>
    gQ v19 false (qBin env.P .neq 27 (.tmp 39) (.const (.int .i64 0)) (some v20) (some (.v (.int .i64 0)))) fun v21 =>
    doQ (pickF (some v19) (some (.v (.bool true))) (some v21)) fun v22 =>
    gQ v22 false (qLoad env.P (Heap.get H6) 59 (some v16)) fun v23 =>
    gQ v22 false (qLoad env.P (Heap.get H6) 59 (some v1)) fun v24 =>
    gQ v22 false (qBin env.P .neq 59 (.tmp 43) (.tmp 44) (some v23) (some v24)) fun v25 =>
    doQ (pickF (some v22) (some (.v (.bool true))) (some v25)) fun v26 =>
    br (some v26) (
     Q (.v (.bool false)) H6) (
     doW (callRes env true (limf env) (limt env 0) H6 (⟨0, 49, Heap.gen H6 0 49, 0⟩ : Ref) (some (.fn (.func 32) [] [])) [x1]) fun v27 H7 =>
     doQ (qExtract (some v27) 0) fun v28 =>
     doQ (qExtract (some v27) 1) fun v29 =>
     doW (nRes H7 (⟨0, 10, Heap.gen H7 0 10, 0⟩ : Ref) (qAlloc env.P (⟨0, 10, Heap.gen H7 0 10, 0⟩ : Ref) 59)) fun v30 H8 =>
     doW (wStore env.P H8 59 (some v30) (some v28)) fun v31 H9 =>
     doQ (qBin env.P .neq 27 (.tmp 52) (.const (.int .i64 0)) (some v29) (some (.v (.int .i64 0)))) fun v32 =>
     br (some v32) (
      gQ v2 true (qLoad env.P (Heap.get H9) 59 (some v30)) fun v33 =>
      gQ v2 true (qBuild env.P 59 (some [])) fun v34 =>
      gQ v2 true (qBin env.P .eql 59 (.tmp 56) (.tmp 57) (some v33) (some v34)) fun v35 =>
      doQ (pickF (some v2) (some v35) (some (.v (.bool false)))) fun v36 =>
      Q v36 H9) (
      doQ (qLoad env.P (Heap.get H9) 59 (some v30)) fun v33 =>
      doW (callRes env true (limf env) (limt env 0) H9 (⟨0, 62, Heap.gen H9 0 62, 0⟩ : Ref) (some (.fn (.func 30) [] [])) [v33]) fun v34 H10 =>
      doQ (qExtract (some v34) 0) fun v35 =>
      doQ (qExtract (some v34) 1) fun v36 =>
      gQ v2 true (qVal (some v36)) fun v37 =>
      gQ v2 true (qBin env.P .eql 27 (.tmp 67) (.const (.int .i64 0)) (some v37) (some (.v (.int .i64 0)))) fun v38 =>
      doQ (pickF (some v2) (some v38) (some (.v (.bool false)))) fun v39 =>
      gQ v39 true (qVal (some v35)) fun v40 =>
      gQ v39 true (qConvert env.P (Heap.get H10) (⟨0, 72, Heap.gen H10 0 72, 0⟩ : Ref) 60 9 (some v40)) fun v41 =>
      gQ v39 true (qVal (some x1)) fun v42 =>
      gQ v39 true (qConvert env.P (Heap.get H10) (⟨0, 74, Heap.gen H10 0 74, 0⟩ : Ref) 60 9 (some v42)) fun v43 =>
      gQ v39 true (qBin env.P .eql 9 (.tmp 72) (.tmp 74) (some v41) (some v43)) fun v44 =>
      doQ (pickF (some v39) (some v44) (some (.v (.bool false)))) fun v45 =>
      Q v45 H10))) (
    doW (callRes env true (limf env) (limt env 0) H3 (⟨0, 49, Heap.gen H3 0 49, 0⟩ : Ref) (some (.fn (.func 32) [] [])) [x1]) fun v13 H4 =>
    doQ (qExtract (some v13) 0) fun v14 =>
    doQ (qExtract (some v13) 1) fun v15 =>
    doW (nRes H4 (⟨0, 10, Heap.gen H4 0 10, 0⟩ : Ref) (qAlloc env.P (⟨0, 10, Heap.gen H4 0 10, 0⟩ : Ref) 59)) fun v16 H5 =>
    doW (wStore env.P H5 59 (some v16) (some v14)) fun v17 H6 =>
    doQ (qBin env.P .neq 27 (.tmp 52) (.const (.int .i64 0)) (some v15) (some (.v (.int .i64 0)))) fun v18 =>
    br (some v18) (
     gQ v2 true (qLoad env.P (Heap.get H6) 59 (some v16)) fun v19 =>
     gQ v2 true (qBuild env.P 59 (some [])) fun v20 =>
     gQ v2 true (qBin env.P .eql 59 (.tmp 56) (.tmp 57) (some v19) (some v20)) fun v21 =>
     doQ (pickF (some v2) (some v21) (some (.v (.bool false)))) fun v22 =>
     Q v22 H6) (
     doQ (qLoad env.P (Heap.get H6) 59 (some v16)) fun v19 =>
     doW (callRes env true (limf env) (limt env 0) H6 (⟨0, 62, Heap.gen H6 0 62, 0⟩ : Ref) (some (.fn (.func 30) [] [])) [v19]) fun v20 H7 =>
     doQ (qExtract (some v20) 0) fun v21 =>
     doQ (qExtract (some v20) 1) fun v22 =>
     gQ v2 true (qVal (some v22)) fun v23 =>
     gQ v2 true (qBin env.P .eql 27 (.tmp 67) (.const (.int .i64 0)) (some v23) (some (.v (.int .i64 0)))) fun v24 =>
     doQ (pickF (some v2) (some v24) (some (.v (.bool false)))) fun v25 =>
     gQ v25 true (qVal (some v21)) fun v26 =>
     gQ v25 true (qConvert env.P (Heap.get H7) (⟨0, 72, Heap.gen H7 0 72, 0⟩ : Ref) 60 9 (some v26)) fun v27 =>
     gQ v25 true (qVal (some x1)) fun v28 =>
     gQ v25 true (qConvert env.P (Heap.get H7) (⟨0, 74, Heap.gen H7 0 74, 0⟩ : Ref) 60 9 (some v28)) fun v29 =>
     gQ v25 true (qBin env.P .eql 9 (.tmp 72) (.tmp 74) (some v27) (some v29)) fun v30 =>
     doQ (pickF (some v25) (some v30) (some (.v (.bool false)))) fun v31 =>
     Q v31 H7)))
theorem vq_blindstamplaw07_GrantBack : VC_blindstamplaw07_GrantBack = fun g x0 x1 H Q => wp env Try.f10 0 lv_blindstamplaw07_GrantBack cu_blindstamplaw07_GrantBack Q 500 [.code bd_blindstamplaw07_GrantBack] (ofL g [(0, x0), (1, x1)]) H := by kernel_rfl
theorem vc_blindstamplaw07_GrantBack (x0 x1 : AV) (H : Heap) (Q : AV → Heap → Prop) (h : ∀ g, VC_blindstamplaw07_GrantBack g x0 x1 H Q) : GoL env Try.f10 0 [.code bd_blindstamplaw07_GrantBack] [(0, x0), (1, x1)] H Q := ⟨fun g => wp_ok (by have h := h g; rw [vq_blindstamplaw07_GrantBack] at h; exact h)⟩

end Go.Proofs.Ytgooemdlilfkmaa
