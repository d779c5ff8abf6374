/-
  What is to be shown of each law, computed from its code. No statement of a seat is proved here.
-/
import Derived.Test.YtgooemdlilfkmaaPgTy
set_option linter.unusedVariables false
set_option maxRecDepth 1000000
namespace Go.Proofs.Ytgooemdlilfkmaa
open Go.Ab

/- blindstamplaw07_GrantWrites -/
noncomputable def bd_blindstamplaw07_GrantWrites : Code := (Try.f7.body).getD .skip
def lv_blindstamplaw07_GrantWrites : Nat → Option (List Nat) := fun i => none
def cu_blindstamplaw07_GrantWrites : Nat → Bool := fun i => false
def VC_blindstamplaw07_GrantWrites (g : Nat → AV) (x0 x1 : AV) (H : Heap) (Q : AV → Heap → Prop) : Prop :=
  doW (nRes H (⟨0, 2, Heap.gen H 0 2, 0⟩ : Ref) (qBox env.P (⟨0, 2, Heap.gen H 0 2, 0⟩ : Ref) 59 (some x0))) fun v1 H1 =>
  doQ (qBuiltin env.P false (Heap.get H1) (⟨0, 15, Heap.gen H1 0 15, 0⟩ : Ref) .len #[60] [x1]) fun v2 =>
  doQ (qBin env.P .gtr 3 (.tmp 15) (.const (.int .i64 1000)) (some v2) (some (.v (.int .i64 1000)))) fun v3 =>
  br (some v3) (
   Q (.v (.bool true)) H1) (
   doW (appRes env.P true H1 (⟨0, 18, Heap.gen H1 0 18, 0⟩ : Ref) (some 60) (some 60) (.v (.slice none 0 0)) x1) fun v4 H2 =>
   doW (bsRes env.P false true H2 (⟨0, 19, Heap.gen H2 0 19, 0⟩ : Ref) 60 1 (some [(0, (a8 7))])) fun v5 H3 =>
   doW (appRes env.P true H3 (⟨0, 20, Heap.gen H3 0 20, 0⟩ : Ref) (some 60) (some 60) v4 v5) fun v6 H4 =>
   doQ (qLoad env.P (Heap.get H4) 59 (some v1)) fun v7 =>
   doW (callRes env true (limf env) (limt env 0) H4 (⟨0, 23, Heap.gen H4 0 23, 0⟩ : Ref) (some (.fn (.func 30) [] [])) [v7]) fun v8 H5 =>
   doQ (qExtract (some v8) 0) fun v9 =>
   doQ (qExtract (some v8) 1) fun v10 =>
   doQ (qLoad env.P (Heap.get H5) 59 (some v1)) fun v11 =>
   doW (callRes env true (limf env) (limt env 0) H5 (⟨0, 28, Heap.gen H5 0 28, 0⟩ : Ref) (some (.fn (.func 31) [] [])) [v11]) fun v12 H6 =>
   doQ (qExtract (some v12) 0) fun v13 =>
   doQ (qExtract (some v12) 1) fun v14 =>
   doQ (qBuiltin env.P false (Heap.get H6) (⟨0, 34, Heap.gen H6 0 34, 0⟩ : Ref) .len #[60] [x1]) fun v15 =>
   doQ (qSlice env.P (Heap.get H6) 60 (some v6) (some none) (oi v15) (some none)) fun v16 =>
   doW (callRes env true (limf env) (limt env 0) H6 (⟨0, 36, Heap.gen H6 0 36, 0⟩ : Ref) (some (.fn (.func 32) [] [])) [v16]) fun v17 H7 =>
   doQ (qExtract (some v17) 0) fun v18 =>
   doQ (qExtract (some v17) 1) fun v19 =>
   doW (nRes H7 (⟨0, 10, Heap.gen H7 0 10, 0⟩ : Ref) (qAlloc env.P (⟨0, 10, Heap.gen H7 0 10, 0⟩ : Ref) 59)) fun v20 H8 =>
   doW (wStore env.P H8 59 (some v20) (some v18)) fun v21 H9 =>
   doW (callRes env true (limf env) (limt env 0) H9 (⟨0, 41, Heap.gen H9 0 41, 0⟩ : Ref) (some (.fn (.func 33) [] [])) [x1]) fun v22 H10 =>
   doQ (qExtract (some v22) 0) fun v23 =>
   doQ (qExtract (some v22) 1) fun v24 =>
   doW (nRes H10 (⟨0, 12, Heap.gen H10 0 12, 0⟩ : Ref) (qAlloc env.P (⟨0, 12, Heap.gen H10 0 12, 0⟩ : Ref) 59)) fun v25 H11 =>
   doW (wStore env.P H11 59 (some v25) (some v23)) fun v26 H12 =>
   doQ (qConvert env.P (Heap.get H12) (⟨0, 45, Heap.gen H12 0 45, 0⟩ : Ref) 60 9 (some v9)) fun v27 =>
   doQ (qConvert env.P (Heap.get H12) (⟨0, 47, Heap.gen H12 0 47, 0⟩ : Ref) 60 9 (some v13)) fun v28 =>
   doQ (qBin env.P .eql 9 (.tmp 45) (.tmp 47) (some v27) (some v28)) fun v29 =>
   gQ v29 true (qVal (some v10)) fun v30 =>
   gQ v29 true (qVal (some v14)) fun v31 =>
   gQ v29 true (qBin env.P .eql 3 (.tmp 50) (.tmp 51) (some v30) (some v31)) fun v32 =>
   doQ (pickF (some v29) (some v32) (some (.v (.bool false)))) fun v33 =>
   gQ v33 true (qLoad env.P (Heap.get H12) 59 (some v20)) fun v34 =>
   gQ v33 true (qLoad env.P (Heap.get H12) 59 (some v25)) fun v35 =>
   gQ v33 true (qBin env.P .eql 59 (.tmp 55) (.tmp 56) (some v34) (some v35)) fun v36 =>
   doQ (pickF (some v33) (some v36) (some (.v (.bool false)))) fun v37 =>
   gQ v37 true (qVal (some v19)) fun v38 =>
   gQ v37 true (qVal (some v24)) fun v39 =>
   gQ v37 true (qBin env.P .eql 3 (.tmp 60) (.tmp 61) (some v38) (some v39)) fun v40 =>
   doQ (pickF (some v37) (some v40) (some (.v (.bool false)))) fun v41 =>
   gQ v41 true (qVal (some v6)) fun v42 =>
   gQ v41 true (qConvert env.P (Heap.get H12) (⟨0, 66, Heap.gen H12 0 66, 0⟩ : Ref) 60 9 (some v42)) fun v43 =>
   gQ v41 true (qVal (some x1)) fun v44 =>
   gQ v41 true (qConvert env.P (Heap.get H12) (⟨0, 68, Heap.gen H12 0 68, 0⟩ : Ref) 60 9 (some v44)) fun v45 =>
   gQ v41 true (qBin env.P .add 9 (.tmp 68) (.const (.string ⟨#[7]⟩)) (some v45) (some (.v (.string ⟨#[7]⟩)))) fun v46 =>
   gQ v41 true (qBin env.P .eql 9 (.tmp 66) (.tmp 69) (some v43) (some v46)) fun v47 =>
   doQ (pickF (some v41) (some v47) (some (.v (.bool false)))) fun v48 =>
   Q v48 H12)
theorem vq_blindstamplaw07_GrantWrites : VC_blindstamplaw07_GrantWrites = fun g x0 x1 H Q => wp env Try.f7 0 lv_blindstamplaw07_GrantWrites cu_blindstamplaw07_GrantWrites Q 500 [.code bd_blindstamplaw07_GrantWrites] (ofL g [(0, x0), (1, x1)]) H := by kernel_rfl
theorem vc_blindstamplaw07_GrantWrites (x0 x1 : AV) (H : Heap) (Q : AV → Heap → Prop) (h : ∀ g, VC_blindstamplaw07_GrantWrites g x0 x1 H Q) : GoL env Try.f7 0 [.code bd_blindstamplaw07_GrantWrites] [(0, x0), (1, x1)] H Q := ⟨fun g => wp_ok (by have h := h g; rw [vq_blindstamplaw07_GrantWrites] at h; exact h)⟩

end Go.Proofs.Ytgooemdlilfkmaa
