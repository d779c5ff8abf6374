/-
  What is to be shown of each function, computed from its code. No statement of a seat is proved here.
-/
import Derived.Test.YtjampffmlnplcaaRcTy
set_option linter.unusedVariables false
set_option maxRecDepth 1000000
namespace Go.Proofs.Ytjampffmlnplcaa
open Go.Ab

/- run_Join -/
noncomputable def bd_run_Join : Code := (Try.f16.body).getD .skip
def lv_run_Join : Nat → Option (List Nat) := fun i => none
def cu_run_Join : Nat → Bool := fun i => false
def VC_run_Join (g : Nat → AV) (x0 x1 : AV) (H : Heap) (Q : AV → Heap → Prop) : Prop :=
  doW (nRes H (⟨0, 2, Heap.gen H 0 2, 0⟩ : Ref) (qBox env.P (⟨0, 2, Heap.gen H 0 2, 0⟩ : Ref) 33 (some x0))) fun v1 H1 =>
  doW (nRes H1 (⟨0, 3, Heap.gen H1 0 3, 0⟩ : Ref) (qBox env.P (⟨0, 3, Heap.gen H1 0 3, 0⟩ : Ref) 33 (some x1))) fun v2 H2 =>
  doW (nRes H2 (⟨0, 4, Heap.gen H2 0 4, 0⟩ : Ref) (qAlloc env.P (⟨0, 4, Heap.gen H2 0 4, 0⟩ : Ref) 33)) fun v3 H3 =>
  doQ (qLoad env.P (Heap.get H3) 33 (some v1)) fun v4 =>
  doW (callRes env false (limf env) (limt env 0) H3 (⟨0, 12, Heap.gen H3 0 12, 0⟩ : Ref) (some (.fn (.func 19) [] [])) [v4]) fun v5 H4 =>
  doQ (qLoad env.P (Heap.get H4) 33 (some v2)) fun v6 =>
  doW (callRes env false (limf env) (limt env 0) H4 (⟨0, 14, Heap.gen H4 0 14, 0⟩ : Ref) (some (.fn (.func 19) [] [])) [v6]) fun v7 H5 =>
  doQ (qBuiltin env.P true (Heap.get H5) (⟨0, 15, Heap.gen H5 0 15, 0⟩ : Ref) .max #[35, 35] [v5, v7]) fun v8 =>
  doQ (qBin env.P .neq 35 (.tmp 16) (.const (.int .i64 0)) (some v8) (some (.v (.int .i64 0)))) fun v9 =>
  br (some v9) (
   doQ (qBuild env.P 33 (some [])) fun v10 =>
   doW (wStore env.P H5 33 (some v3) (some v10)) fun v11 H6 =>
   doQ (readCell env.P H6 v3 33) fun v12 =>
   Q (.tup [v12, v8]) H6) (
   doQ (qFieldAddr env.P 33 (some v1) 0) fun v10 =>
   doQ (qFieldAddr env.P 30 (some v10) 0) fun v11 =>
   doQ (qLoad env.P (Heap.get H5) 28 (some v11)) fun v12 =>
   doQ (qFieldAddr env.P 33 (some v1) 0) fun v13 =>
   doQ (qFieldAddr env.P 30 (some v13) 1) fun v14 =>
   doQ (qLoad env.P (Heap.get H5) 3 (some v14)) fun v15 =>
   doQ (qFieldAddr env.P 33 (some v2) 0) fun v16 =>
   doQ (qFieldAddr env.P 30 (some v16) 1) fun v17 =>
   doQ (qLoad env.P (Heap.get H5) 3 (some v17)) fun v18 =>
   doQ (qBin env.P .add 3 (.tmp 25) (.tmp 28) (some v15) (some v18)) fun v19 =>
   doQ (qBuild env.P 30 (some [(0, v12), (1, v19)])) fun v20 =>
   doQ (qFieldAddr env.P 33 (some v1) 1) fun v21 =>
   doQ (qLoad env.P (Heap.get H5) 28 (some v21)) fun v22 =>
   doQ (qLoad env.P (Heap.get H5) 33 (some v1)) fun v23 =>
   doQ (qLoad env.P (Heap.get H5) 33 (some v2)) fun v24 =>
   doW (bsRes env.P true false H5 (⟨0, 35, Heap.gen H5 0 35, 0⟩ : Ref) 156 2 (some [(0, v23), (1, v24)])) fun v25 H6 =>
   doW (callRes env false (limf env) (limt env 0) H6 (⟨0, 36, Heap.gen H6 0 36, 0⟩ : Ref) (some (.fn (.func 72) [] [])) [v25]) fun v26 H7 =>
   doQ (qBuild env.P 33 (some [(0, v20), (1, v22), (2, v26)])) fun v27 =>
   doW (nRes H7 (⟨0, 7, Heap.gen H7 0 7, 0⟩ : Ref) (qAlloc env.P (⟨0, 7, Heap.gen H7 0 7, 0⟩ : Ref) 33)) fun v28 H8 =>
   doW (wStore env.P H8 33 (some v28) (some v27)) fun v29 H9 =>
   doQ (qLoad env.P (Heap.get H9) 33 (some v28)) fun v30 =>
   doQ (qFieldAddr env.P 33 (some v1) 0) fun v31 =>
   doQ (qFieldAddr env.P 30 (some v31) 1) fun v32 =>
   doQ (qLoad env.P (Heap.get H9) 3 (some v32)) fun v33 =>
   doW (callRes env true (limf env) (limt env 0) H9 (⟨0, 43, Heap.gen H9 0 43, 0⟩ : Ref) (some (.fn (.func 17) [] [])) [v30, v33]) fun v34 H10 =>
   doQ (qExtract (some v34) 0) fun v35 =>
   doQ (qExtract (some v34) 1) fun v36 =>
   doQ (qExtract (some v34) 2) fun v37 =>
   doW (nRes H10 (⟨0, 8, Heap.gen H10 0 8, 0⟩ : Ref) (qAlloc env.P (⟨0, 8, Heap.gen H10 0 8, 0⟩ : Ref) 33)) fun v38 H11 =>
   doW (nRes H11 (⟨0, 9, Heap.gen H11 0 9, 0⟩ : Ref) (qAlloc env.P (⟨0, 9, Heap.gen H11 0 9, 0⟩ : Ref) 33)) fun v39 H12 =>
   doW (wStore env.P H12 33 (some v38) (some v35)) fun v40 H13 =>
   doW (wStore env.P H13 33 (some v39) (some v36)) fun v41 H14 =>
   doQ (qBin env.P .neq 35 (.tmp 47) (.const (.int .i64 0)) (some v37) (some (.v (.int .i64 0)))) fun v42 =>
   gQ v42 false (qLoad env.P (Heap.get H14) 33 (some v38)) fun v43 =>
   gQ v42 false (qLoad env.P (Heap.get H14) 33 (some v1)) fun v44 =>
   gW v42 false H14 (callRes env true (limf env) (limt env 0) H14 (⟨0, 52, Heap.gen H14 0 52, 0⟩ : Ref) (some (.fn (.func 18) [] [])) [v43, v44]) fun v45 H15 =>
   gQ v42 false (qUn env.P .not (some v45)) fun v46 =>
   doQ (pickF (some v42) (some (.v (.bool true))) (some v46)) fun v47 =>
   gQ v47 false (qLoad env.P (Heap.get H15) 33 (some v39)) fun v48 =>
   gQ v47 false (qLoad env.P (Heap.get H15) 33 (some v2)) fun v49 =>
   gW v47 false H15 (callRes env true (limf env) (limt env 0) H15 (⟨0, 58, Heap.gen H15 0 58, 0⟩ : Ref) (some (.fn (.func 18) [] [])) [v48, v49]) fun v50 H16 =>
   gQ v47 false (qUn env.P .not (some v50)) fun v51 =>
   doQ (pickF (some v47) (some (.v (.bool true))) (some v51)) fun v52 =>
   br (some v52) (
    doQ (qBuild env.P 33 (some [])) fun v53 =>
    doW (wStore env.P H16 33 (some v3) (some v53)) fun v54 H17 =>
    doQ (readCell env.P H17 v3 33) fun v55 =>
    Q (.tup [v55, (.v (.int .i64 2))]) H17) (
    doQ (qLoad env.P (Heap.get H16) 33 (some v28)) fun v53 =>
    doW (wStore env.P H16 33 (some v3) (some v53)) fun v54 H17 =>
    doQ (readCell env.P H17 v3 33) fun v55 =>
    Q (.tup [v55, (.v (.int .i64 0))]) H17))
theorem vq_run_Join : VC_run_Join = fun g x0 x1 H Q => wp env Try.f16 none 0 lv_run_Join cu_run_Join Q 500 [.code bd_run_Join] (ofL g [(0, x0), (1, x1)]) H := by kernel_rfl
theorem vc_run_Join (x0 x1 : AV) (H : Heap) (Q : AV → Heap → Prop) (h : ∀ g, VC_run_Join g x0 x1 H Q) : GoL env Try.f16 0 [.code bd_run_Join] [(0, x0), (1, x1)] H Q := ⟨fun g => wp_ok (by have h := h g; rw [vq_run_Join] at h; exact h)⟩

/- run_Cut -/
noncomputable def bd_run_Cut : Code := (Try.f17.body).getD .skip
def lv_run_Cut : Nat → Option (List Nat) := fun i => none
def cu_run_Cut : Nat → Bool := fun i => false
def VC_run_Cut (g : Nat → AV) (x0 x1 : AV) (H : Heap) (Q : AV → Heap → Prop) : Prop :=
  doW (nRes H (⟨0, 2, Heap.gen H 0 2, 0⟩ : Ref) (qBox env.P (⟨0, 2, Heap.gen H 0 2, 0⟩ : Ref) 33 (some x0))) fun v1 H1 =>
  doW (nRes H1 (⟨0, 4, Heap.gen H1 0 4, 0⟩ : Ref) (qAlloc env.P (⟨0, 4, Heap.gen H1 0 4, 0⟩ : Ref) 33)) fun v2 H2 =>
  doW (nRes H2 (⟨0, 5, Heap.gen H2 0 5, 0⟩ : Ref) (qAlloc env.P (⟨0, 5, Heap.gen H2 0 5, 0⟩ : Ref) 33)) fun v3 H3 =>
  doQ (qLoad env.P (Heap.get H3) 33 (some v1)) fun v4 =>
  doW (callRes env true (limf env) (limt env 0) H3 (⟨0, 12, Heap.gen H3 0 12, 0⟩ : Ref) (some (.fn (.func 19) [] [])) [v4]) fun v5 H4 =>
  doQ (qBin env.P .neq 35 (.tmp 13) (.const (.int .i64 0)) (some v5) (some (.v (.int .i64 0)))) fun v6 =>
  br (some v6) (
   doQ (qLoad env.P (Heap.get H4) 33 (some v2)) fun v7 =>
   doQ (qLoad env.P (Heap.get H4) 33 (some v3)) fun v8 =>
   doW (wStore env.P H4 33 (some v2) (some v7)) fun v9 H5 =>
   doW (wStore env.P H5 33 (some v3) (some v8)) fun v10 H6 =>
   apartV [(v3, v2)] [v2, v3] [] H6 ∧
   (doQ (readCell env.P H6 v2 33) fun v11 =>
   doQ (readCell env.P H6 v3 33) fun v12 =>
   Q (.tup [v11, v12, v5]) H6)) (
   doQ (qFieldAddr env.P 33 (some v1) 0) fun v7 =>
   doQ (qLoad env.P (Heap.get H4) 30 (some v7)) fun v8 =>
   doW (callRes env true (limf env) (limt env 0) H4 (⟨0, 22, Heap.gen H4 0 22, 0⟩ : Ref) (some (.fn (.func 73) [] [])) [v8, x1]) fun v9 H5 =>
   doQ (qExtract (some v9) 0) fun v10 =>
   doQ (qExtract (some v9) 1) fun v11 =>
   doQ (qExtract (some v9) 2) fun v12 =>
   doW (nRes H5 (⟨0, 8, Heap.gen H5 0 8, 0⟩ : Ref) (qAlloc env.P (⟨0, 8, Heap.gen H5 0 8, 0⟩ : Ref) 30)) fun v13 H6 =>
   doW (nRes H6 (⟨0, 9, Heap.gen H6 0 9, 0⟩ : Ref) (qAlloc env.P (⟨0, 9, Heap.gen H6 0 9, 0⟩ : Ref) 30)) fun v14 H7 =>
   doW (wStore env.P H7 30 (some v13) (some v10)) fun v15 H8 =>
   doW (wStore env.P H8 30 (some v14) (some v11)) fun v16 H9 =>
   doQ (qBin env.P .neq 35 (.tmp 26) (.const (.int .i64 0)) (some v12) (some (.v (.int .i64 0)))) fun v17 =>
   br (some v17) (
    doQ (qLoad env.P (Heap.get H9) 33 (some v2)) fun v18 =>
    doQ (qLoad env.P (Heap.get H9) 33 (some v3)) fun v19 =>
    doW (wStore env.P H9 33 (some v2) (some v18)) fun v20 H10 =>
    doW (wStore env.P H10 33 (some v3) (some v19)) fun v21 H11 =>
    apartV [(v3, v2)] [v2, v3] [] H11 ∧
    (doQ (readCell env.P H11 v2 33) fun v22 =>
    doQ (readCell env.P H11 v3 33) fun v23 =>
    Q (.tup [v22, v23, v12]) H11)) (
    doQ (qLoad env.P (Heap.get H9) 30 (some v13)) fun v18 =>
    doQ (qBin env.P .sub 3 (.tmp 33) (.const (.int .i64 1)) (some x1) (some (.v (.int .i64 1)))) fun v19 =>
    doW (callRes env true (limf env) (limt env 0) H9 (⟨0, 35, Heap.gen H9 0 35, 0⟩ : Ref) (some (.fn (.func 74) [] [])) [v18, v19]) fun v20 H10 =>
    doQ (qExtract (some v20) 0) fun v21 =>
    doQ (qExtract (some v20) 1) fun v22 =>
    doW (nRes H10 (⟨0, 10, Heap.gen H10 0 10, 0⟩ : Ref) (qAlloc env.P (⟨0, 10, Heap.gen H10 0 10, 0⟩ : Ref) 28)) fun v23 H11 =>
    doW (wStore env.P H11 28 (some v23) (some v21)) fun v24 H12 =>
    doQ (qLoad env.P (Heap.get H12) 30 (some v13)) fun v25 =>
    doQ (qFieldAddr env.P 33 (some v1) 1) fun v26 =>
    doQ (qLoad env.P (Heap.get H12) 28 (some v26)) fun v27 =>
    doQ (qFieldAddr env.P 33 (some v1) 2) fun v28 =>
    doQ (qLoad env.P (Heap.get H12) 31 (some v28)) fun v29 =>
    doQ (qSlice env.P (Heap.get H12) 31 (some v29) (some none) (oi x1) (some none)) fun v30 =>
    doQ (qBuild env.P 123 (some [(0, v25), (1, v27), (2, v30)])) fun v31 =>
    doW (callRes env false (limf env) (limt env 0) H12 (⟨0, 46, Heap.gen H12 0 46, 0⟩ : Ref) (some (.fn (.func 75) [] [])) [v31]) fun v32 H13 =>
    doQ (qLoad env.P (Heap.get H13) 30 (some v14)) fun v33 =>
    doQ (qLoad env.P (Heap.get H13) 28 (some v23)) fun v34 =>
    doQ (qFieldAddr env.P 33 (some v1) 2) fun v35 =>
    doQ (qLoad env.P (Heap.get H13) 31 (some v35)) fun v36 =>
    doQ (qSlice env.P (Heap.get H13) 31 (some v36) (oi x1) (some none) (some none)) fun v37 =>
    doQ (qBuild env.P 123 (some [(0, v33), (1, v34), (2, v37)])) fun v38 =>
    doW (callRes env false (limf env) (limt env 0) H13 (⟨0, 54, Heap.gen H13 0 54, 0⟩ : Ref) (some (.fn (.func 75) [] [])) [v38]) fun v39 H14 =>
    doW (wStore env.P H14 33 (some v2) (some v32)) fun v40 H15 =>
    doW (wStore env.P H15 33 (some v3) (some v39)) fun v41 H16 =>
    doQ (readCell env.P H16 v2 33) fun v42 =>
    doQ (readCell env.P H16 v3 33) fun v43 =>
    Q (.tup [v42, v43, v22]) H16))
theorem vq_run_Cut : VC_run_Cut = fun g x0 x1 H Q => wp env Try.f17 none 0 lv_run_Cut cu_run_Cut Q 500 [.code bd_run_Cut] (ofL g [(0, x0), (1, x1)]) H := by kernel_rfl
theorem vc_run_Cut (x0 x1 : AV) (H : Heap) (Q : AV → Heap → Prop) (h : ∀ g, VC_run_Cut g x0 x1 H Q) : GoL env Try.f17 0 [.code bd_run_Cut] [(0, x0), (1, x1)] H Q := ⟨fun g => wp_ok (by have h := h g; rw [vq_run_Cut] at h; exact h)⟩

/- run_Same -/
noncomputable def bd_run_Same : Code := (Try.f18.body).getD .skip
def lv_run_Same : Nat → Option (List Nat) := fun i => none
def cu_run_Same : Nat → Bool := fun i => false
def VC_run_Same (g : Nat → AV) (x0 x1 : AV) (H : Heap) (Q : AV → Heap → Prop) : Prop :=
  doW (nRes H (⟨0, 2, Heap.gen H 0 2, 0⟩ : Ref) (qBox env.P (⟨0, 2, Heap.gen H 0 2, 0⟩ : Ref) 33 (some x0))) fun v1 H1 =>
  doW (nRes H1 (⟨0, 3, Heap.gen H1 0 3, 0⟩ : Ref) (qBox env.P (⟨0, 3, Heap.gen H1 0 3, 0⟩ : Ref) 33 (some x1))) fun v2 H2 =>
  doQ (qFieldAddr env.P 33 (some v1) 0) fun v3 =>
  doQ (qLoad env.P (Heap.get H2) 30 (some v3)) fun v4 =>
  doQ (qFieldAddr env.P 33 (some v2) 0) fun v5 =>
  doQ (qLoad env.P (Heap.get H2) 30 (some v5)) fun v6 =>
  doQ (qBin env.P .eql 30 (.tmp 6) (.tmp 8) (some v4) (some v6)) fun v7 =>
  gQ v7 true (qFieldAddr env.P 33 (some v1) 1) fun v8 =>
  gQ v7 true (qLoad env.P (Heap.get H2) 28 (some v8)) fun v9 =>
  gQ v7 true (qFieldAddr env.P 33 (some v2) 1) fun v10 =>
  gQ v7 true (qLoad env.P (Heap.get H2) 28 (some v10)) fun v11 =>
  gQ v7 true (qBin env.P .eql 28 (.tmp 12) (.tmp 14) (some v9) (some v11)) fun v12 =>
  doQ (pickF (some v7) (some v12) (some (.v (.bool false)))) fun v13 =>
  gQ v13 true (qFieldAddr env.P 33 (some v1) 2) fun v14 =>
  gQ v13 true (qLoad env.P (Heap.get H2) 31 (some v14)) fun v15 =>
  gQ v13 true (qFieldAddr env.P 33 (some v2) 2) fun v16 =>
  gQ v13 true (qLoad env.P (Heap.get H2) 31 (some v16)) fun v17 =>
  gW v13 true H2 (callRes env true (limf env) (limt env 0) H2 (⟨0, 22, Heap.gen H2 0 22, 0⟩ : Ref) (some (.fn (.func 76) [] [])) [v15, v17]) fun v18 H3 =>
  doQ (pickF (some v13) (some v18) (some (.v (.bool false)))) fun v19 =>
  Q v19 H3
theorem vq_run_Same : VC_run_Same = fun g x0 x1 H Q => wp env Try.f18 none 0 lv_run_Same cu_run_Same Q 500 [.code bd_run_Same] (ofL g [(0, x0), (1, x1)]) H := by kernel_rfl
theorem vc_run_Same (x0 x1 : AV) (H : Heap) (Q : AV → Heap → Prop) (h : ∀ g, VC_run_Same g x0 x1 H Q) : GoL env Try.f18 0 [.code bd_run_Same] [(0, x0), (1, x1)] H Q := ⟨fun g => wp_ok (by have h := h g; rw [vq_run_Same] at h; exact h)⟩

/- run_Check -/
noncomputable def bd_run_Check : Code := (Try.f19.body).getD .skip
def lv_run_Check : Nat → Option (List Nat) := fun i => none
def cu_run_Check : Nat → Bool := fun i => false
def VC_run_Check (g : Nat → AV) (x0 : AV) (H : Heap) (Q : AV → Heap → Prop) : Prop :=
  doW (nRes H (⟨0, 1, Heap.gen H 0 1, 0⟩ : Ref) (qBox env.P (⟨0, 1, Heap.gen H 0 1, 0⟩ : Ref) 33 (some x0))) fun v1 H1 =>
  doQ (qFieldAddr env.P 33 (some v1) 1) fun v2 =>
  doQ (qLoad env.P (Heap.get H1) 28 (some v2)) fun v3 =>
  doQ (qBuild env.P 28 (some [])) fun v4 =>
  doQ (qBin env.P .eql 28 (.tmp 5) (.tmp 6) (some v3) (some v4)) fun v5 =>
  gQ v5 false (qFieldAddr env.P 33 (some v1) 1) fun v6 =>
  gQ v5 false (qLoad env.P (Heap.get H1) 28 (some v6)) fun v7 =>
  gW v5 false H1 (callRes env true (limf env) (limt env 0) H1 (⟨0, 11, Heap.gen H1 0 11, 0⟩ : Ref) (some (.fn (.func 77) [] [])) [v7]) fun v8 H2 =>
  gQ v5 false (qBin env.P .eql 35 (.tmp 11) (.const (.int .i64 0)) (some v8) (some (.v (.int .i64 0)))) fun v9 =>
  gQ v5 false (qVal (some v9)) fun v10 =>
  gQ v10 true (qFieldAddr env.P 33 (some v1) 1) fun v11 =>
  gQ v10 true (qFieldAddr env.P 28 (some v11) 1) fun v12 =>
  gQ v10 true (qLoad env.P (Heap.get H2) 3 (some v12)) fun v13 =>
  gQ v10 true (qFieldAddr env.P 33 (some v1) 0) fun v14 =>
  gQ v10 true (qFieldAddr env.P 30 (some v14) 0) fun v15 =>
  gQ v10 true (qFieldAddr env.P 28 (some v15) 1) fun v16 =>
  gQ v10 true (qLoad env.P (Heap.get H2) 3 (some v16)) fun v17 =>
  gQ v10 true (qBin env.P .lss 3 (.tmp 16) (.tmp 20) (some v13) (some v17)) fun v18 =>
  gQ v5 false (pickF (some v10) (some v18) (some (.v (.bool false)))) fun v19 =>
  doQ (pickF (some v5) (some (.v (.bool true))) (some v19)) fun v20 =>
  doQ (qFieldAddr env.P 33 (some v1) 0) fun v21 =>
  doQ (qLoad env.P (Heap.get H2) 30 (some v21)) fun v22 =>
  doW (callRes env true (limf env) (limt env 0) H2 (⟨0, 26, Heap.gen H2 0 26, 0⟩ : Ref) (some (.fn (.func 78) [] [])) [v22]) fun v23 H3 =>
  doQ (qBin env.P .neq 35 (.tmp 26) (.const (.int .i64 0)) (some v23) (some (.v (.int .i64 0)))) fun v24 =>
  gQ v24 false (qVal (some v20)) fun v25 =>
  gQ v24 false (qUn env.P .not (some v25)) fun v26 =>
  doQ (pickF (some v24) (some (.v (.bool true))) (some v26)) fun v27 =>
  gQ v27 false (qFieldAddr env.P 33 (some v1) 2) fun v28 =>
  gQ v27 false (qLoad env.P (Heap.get H3) 31 (some v28)) fun v29 =>
  gQ v27 false (qBuiltin env.P false (Heap.get H3) (⟨0, 35, Heap.gen H3 0 35, 0⟩ : Ref) .len #[31] [v29]) fun v30 =>
  gQ v27 false (qFieldAddr env.P 33 (some v1) 0) fun v31 =>
  gQ v27 false (qFieldAddr env.P 30 (some v31) 1) fun v32 =>
  gQ v27 false (qLoad env.P (Heap.get H3) 3 (some v32)) fun v33 =>
  gQ v27 false (qBin env.P .neq 3 (.tmp 35) (.tmp 38) (some v30) (some v33)) fun v34 =>
  doQ (pickF (some v27) (some (.v (.bool true))) (some v34)) fun v35 =>
  gQ v35 false (qFieldAddr env.P 33 (some v1) 2) fun v36 =>
  gQ v35 false (qLoad env.P (Heap.get H3) 31 (some v36)) fun v37 =>
  gW v35 false H3 (callRes env true (limf env) (limt env 0) H3 (⟨0, 44, Heap.gen H3 0 44, 0⟩ : Ref) (some (.fn (.func 79) [] [])) [v37]) fun v38 H4 =>
  gQ v35 false (qBin env.P .neq 35 (.tmp 44) (.const (.int .i64 0)) (some v38) (some (.v (.int .i64 0)))) fun v39 =>
  doQ (pickF (some v35) (some (.v (.bool true))) (some v39)) fun v40 =>
  br (some v40) (
   Q (.v (.int .i64 8)) H4) (
   Q (.v (.int .i64 0)) H4)
theorem vq_run_Check : VC_run_Check = fun g x0 H Q => wp env Try.f19 none 0 lv_run_Check cu_run_Check Q 500 [.code bd_run_Check] (ofL g [(0, x0)]) H := by kernel_rfl
theorem vc_run_Check (x0 : AV) (H : Heap) (Q : AV → Heap → Prop) (h : ∀ g, VC_run_Check g x0 H Q) : GoL env Try.f19 0 [.code bd_run_Check] [(0, x0)] H Q := ⟨fun g => wp_ok (by have h := h g; rw [vq_run_Check] at h; exact h)⟩

/- run_At -/
noncomputable def bd_run_At : Code := (Try.f20.body).getD .skip
def lv_run_At : Nat → Option (List Nat) := fun i => none
def cu_run_At : Nat → Bool := fun i => false
def VC_run_At (g : Nat → AV) (x0 x1 : AV) (H : Heap) (Q : AV → Heap → Prop) : Prop :=
  doW (nRes H (⟨0, 2, Heap.gen H 0 2, 0⟩ : Ref) (qBox env.P (⟨0, 2, Heap.gen H 0 2, 0⟩ : Ref) 33 (some x0))) fun v1 H1 =>
  doW (nRes H1 (⟨0, 4, Heap.gen H1 0 4, 0⟩ : Ref) (qAlloc env.P (⟨0, 4, Heap.gen H1 0 4, 0⟩ : Ref) 28)) fun v2 H2 =>
  doW (nRes H2 (⟨0, 5, Heap.gen H2 0 5, 0⟩ : Ref) (qAlloc env.P (⟨0, 5, Heap.gen H2 0 5, 0⟩ : Ref) 28)) fun v3 H3 =>
  doQ (qLoad env.P (Heap.get H3) 33 (some v1)) fun v4 =>
  doW (callRes env true (limf env) (limt env 0) H3 (⟨0, 10, Heap.gen H3 0 10, 0⟩ : Ref) (some (.fn (.func 19) [] [])) [v4]) fun v5 H4 =>
  doQ (qBin env.P .neq 35 (.tmp 11) (.const (.int .i64 0)) (some v5) (some (.v (.int .i64 0)))) fun v6 =>
  br (some v6) (
   doQ (qLoad env.P (Heap.get H4) 28 (some v2)) fun v7 =>
   doQ (qLoad env.P (Heap.get H4) 28 (some v3)) fun v8 =>
   doW (wStore env.P H4 28 (some v2) (some v7)) fun v9 H5 =>
   doW (wStore env.P H5 28 (some v3) (some v8)) fun v10 H6 =>
   apartV [(v3, v2)] [v2, v3] [] H6 ∧
   (doQ (readCell env.P H6 v2 28) fun v11 =>
   doQ (readCell env.P H6 v3 28) fun v12 =>
   Q (.tup [v11, v12, (.v (.int .i32 0)), v5]) H6)) (
   doQ (qFieldAddr env.P 33 (some v1) 0) fun v7 =>
   doQ (qLoad env.P (Heap.get H4) 30 (some v7)) fun v8 =>
   doW (callRes env true (limf env) (limt env 0) H4 (⟨0, 20, Heap.gen H4 0 20, 0⟩ : Ref) (some (.fn (.func 74) [] [])) [v8, x1]) fun v9 H5 =>
   doQ (qExtract (some v9) 0) fun v10 =>
   doQ (qExtract (some v9) 1) fun v11 =>
   doW (wStore env.P H5 28 (some v2) (some v10)) fun v12 H6 =>
   doQ (qBin env.P .neq 35 (.tmp 23) (.const (.int .i64 0)) (some v11) (some (.v (.int .i64 0)))) fun v13 =>
   br (some v13) (
    doQ (qLoad env.P (Heap.get H6) 28 (some v2)) fun v14 =>
    doQ (qLoad env.P (Heap.get H6) 28 (some v3)) fun v15 =>
    doW (wStore env.P H6 28 (some v2) (some v14)) fun v16 H7 =>
    doW (wStore env.P H7 28 (some v3) (some v15)) fun v17 H8 =>
    apartV [(v3, v2)] [v2, v3] [] H8 ∧
    (doQ (readCell env.P H8 v2 28) fun v18 =>
    doQ (readCell env.P H8 v3 28) fun v19 =>
    Q (.tup [v18, v19, (.v (.int .i32 0)), v11]) H8)) (
    doQ (qFieldAddr env.P 33 (some v1) 1) fun v14 =>
    doQ (qLoad env.P (Heap.get H6) 28 (some v14)) fun v15 =>
    doW (wStore env.P H6 28 (some v3) (some v15)) fun v16 H7 =>
    doQ (qBin env.P .gtr 3 (.tmp 30) (.const (.int .i64 0)) (some x1) (some (.v (.int .i64 0)))) fun v17 =>
    br (some v17) (
     doQ (qFieldAddr env.P 33 (some v1) 0) fun v18 =>
     doQ (qLoad env.P (Heap.get H7) 30 (some v18)) fun v19 =>
     doQ (qBin env.P .sub 3 (.tmp 35) (.const (.int .i64 1)) (some x1) (some (.v (.int .i64 1)))) fun v20 =>
     doW (callRes env true (limf env) (limt env 0) H7 (⟨0, 37, Heap.gen H7 0 37, 0⟩ : Ref) (some (.fn (.func 74) [] [])) [v19, v20]) fun v21 H8 =>
     doQ (qExtract (some v21) 0) fun v22 =>
     doQ (qExtract (some v21) 1) fun v23 =>
     doW (wStore env.P H8 28 (some v3) (some v22)) fun v24 H9 =>
     doQ (qLoad env.P (Heap.get H9) 28 (some v2)) fun v25 =>
     doQ (qLoad env.P (Heap.get H9) 28 (some v3)) fun v26 =>
     doQ (qFieldAddr env.P 33 (some v1) 2) fun v27 =>
     doQ (qLoad env.P (Heap.get H9) 31 (some v27)) fun v28 =>
     doQ (qIndexAddr env.P (Heap.get H9) 31 (some v28) (some x1)) fun v29 =>
     doQ (qLoad env.P (Heap.get H9) 21 (some v29)) fun v30 =>
     doW (wStore env.P H9 28 (some v2) (some v25)) fun v31 H10 =>
     doW (wStore env.P H10 28 (some v3) (some v26)) fun v32 H11 =>
     apartV [(v3, v2), (v27, v2), (v28, v2), (v29, v2), (v27, v3), (v28, v3), (v29, v3)] [v2, v3] [] H11 ∧
     (doQ (readCell env.P H11 v2 28) fun v33 =>
     doQ (readCell env.P H11 v3 28) fun v34 =>
     Q (.tup [v33, v34, v30, v23]) H11)) (
     doQ (qLoad env.P (Heap.get H7) 28 (some v2)) fun v18 =>
     doQ (qLoad env.P (Heap.get H7) 28 (some v3)) fun v19 =>
     doQ (qFieldAddr env.P 33 (some v1) 2) fun v20 =>
     doQ (qLoad env.P (Heap.get H7) 31 (some v20)) fun v21 =>
     doQ (qIndexAddr env.P (Heap.get H7) 31 (some v21) (some x1)) fun v22 =>
     doQ (qLoad env.P (Heap.get H7) 21 (some v22)) fun v23 =>
     doW (wStore env.P H7 28 (some v2) (some v18)) fun v24 H8 =>
     doW (wStore env.P H8 28 (some v3) (some v19)) fun v25 H9 =>
     apartV [(v3, v2), (v20, v2), (v21, v2), (v22, v2), (v20, v3), (v21, v3), (v22, v3)] [v2, v3] [] H9 ∧
     (doQ (readCell env.P H9 v2 28) fun v26 =>
     doQ (readCell env.P H9 v3 28) fun v27 =>
     Q (.tup [v26, v27, v23, v11]) H9))))
theorem vq_run_At : VC_run_At = fun g x0 x1 H Q => wp env Try.f20 none 0 lv_run_At cu_run_At Q 500 [.code bd_run_At] (ofL g [(0, x0), (1, x1)]) H := by kernel_rfl
theorem vc_run_At (x0 x1 : AV) (H : Heap) (Q : AV → Heap → Prop) (h : ∀ g, VC_run_At g x0 x1 H Q) : GoL env Try.f20 0 [.code bd_run_At] [(0, x0), (1, x1)] H Q := ⟨fun g => wp_ok (by have h := h g; rw [vq_run_At] at h; exact h)⟩

/- run_row -/
noncomputable def bd_run_row : Code := (Try.f72.body).getD .skip
noncomputable def hd_run_row_2 : List Item := (findLoop 2 400 [.code bd_run_row]).getD []
def lv_run_row : Nat → Option (List Nat) := fun i => cond (Nat.beq i 2) (some [7, 2, 5, 6]) (none)
def cu_run_row : Nat → Bool := fun i => false
def VC_run_row (g : Nat → AV) (x0 : AV) (H : Heap) (Q : AV → Heap → Prop) : Prop :=
  doQ (qBuiltin env.P false (Heap.get H) (⟨0, 6, Heap.gen H 0 6, 0⟩ : Ref) .len #[156] [x0]) fun v1 =>
  GoL env Try.f72 0 hd_run_row_2 [(7, (.v (.int .i64 0))), (2, (.v (.slice none 0 0))), (5, x0), (6, v1)] H Q
theorem vq_run_row : VC_run_row = fun g x0 H Q => wp env Try.f72 none 0 lv_run_row cu_run_row Q 500 [.code bd_run_row] (ofL g [(0, x0)]) H := by kernel_rfl
theorem vc_run_row (x0 : AV) (H : Heap) (Q : AV → Heap → Prop) (h : ∀ g, VC_run_row g x0 H Q) : GoL env Try.f72 0 [.code bd_run_row] [(0, x0)] H Q := ⟨fun g => wp_ok (by have h := h g; rw [vq_run_row] at h; exact h)⟩
def VC_run_row_2 (g : Nat → AV) (x7 x2 x5 x6 : AV) (H : Heap) (Q : AV → Heap → Prop) : Prop :=
  doQ (qBin env.P .lss 3 (.tmp 7) (.tmp 6) (some x7) (some x6)) fun v1 =>
  br (some v1) (
   doQ (qIndexAddr env.P (Heap.get H) 156 (some x5) (some x7)) fun v2 =>
   doQ (qLoad env.P (Heap.get H) 33 (some v2)) fun v3 =>
   doW (nRes H (⟨0, 4, Heap.gen H 0 4, 0⟩ : Ref) (qAlloc env.P (⟨0, 4, Heap.gen H 0 4, 0⟩ : Ref) 33)) fun v4 H1 =>
   doW (wStore env.P H1 33 (some v4) (some v3)) fun v5 H2 =>
   doQ (qFieldAddr env.P 33 (some v4) 2) fun v6 =>
   doQ (qLoad env.P (Heap.get H2) 31 (some v6)) fun v7 =>
   doW (appRes env.P true H2 (⟨0, 14, Heap.gen H2 0 14, 0⟩ : Ref) (some 31) (some 31) x2 v7) fun v8 H3 =>
   doQ (qBin env.P .add 3 (.tmp 7) (.const (.int .i64 1)) (some x7) (some (.v (.int .i64 1)))) fun v9 =>
   GoL env Try.f72 0 hd_run_row_2 [(7, v9), (2, v8), (5, x5), (6, x6)] H3 Q) (
   Q x2 H)
theorem vq_run_row_2 : VC_run_row_2 = fun g x7 x2 x5 x6 H Q => wp env Try.f72 none 0 lv_run_row cu_run_row Q 500 (bodyOf hd_run_row_2) (ofL g [(7, x7), (2, x2), (5, x5), (6, x6)]) H := by kernel_rfl
theorem vc_run_row_2 (x7 x2 x5 x6 : AV) (H : Heap) (Q : AV → Heap → Prop) (h : ∀ g, VC_run_row_2 g x7 x2 x5 x6 H Q) : GoL env Try.f72 0 hd_run_row_2 [(7, x7), (2, x2), (5, x5), (6, x6)] H Q := goL_body fun g => wp_ok (by have h := h g; rw [vq_run_row_2] at h; exact h)

/- ids_Cut -/
noncomputable def bd_ids_Cut : Code := (Try.f73.body).getD .skip
def lv_ids_Cut : Nat → Option (List Nat) := fun i => none
def cu_ids_Cut : Nat → Bool := fun i => false
def VC_ids_Cut (g : Nat → AV) (x0 x1 : AV) (H : Heap) (Q : AV → Heap → Prop) : Prop :=
  doW (nRes H (⟨0, 2, Heap.gen H 0 2, 0⟩ : Ref) (qBox env.P (⟨0, 2, Heap.gen H 0 2, 0⟩ : Ref) 30 (some x0))) fun v1 H1 =>
  doW (nRes H1 (⟨0, 4, Heap.gen H1 0 4, 0⟩ : Ref) (qAlloc env.P (⟨0, 4, Heap.gen H1 0 4, 0⟩ : Ref) 30)) fun v2 H2 =>
  doW (nRes H2 (⟨0, 5, Heap.gen H2 0 5, 0⟩ : Ref) (qAlloc env.P (⟨0, 5, Heap.gen H2 0 5, 0⟩ : Ref) 30)) fun v3 H3 =>
  doQ (qLoad env.P (Heap.get H3) 30 (some v1)) fun v4 =>
  doW (callRes env true (limf env) (limt env 0) H3 (⟨0, 11, Heap.gen H3 0 11, 0⟩ : Ref) (some (.fn (.func 74) [] [])) [v4, x1]) fun v5 H4 =>
  doQ (qExtract (some v5) 0) fun v6 =>
  doQ (qExtract (some v5) 1) fun v7 =>
  doW (nRes H4 (⟨0, 7, Heap.gen H4 0 7, 0⟩ : Ref) (qAlloc env.P (⟨0, 7, Heap.gen H4 0 7, 0⟩ : Ref) 28)) fun v8 H5 =>
  doW (wStore env.P H5 28 (some v8) (some v6)) fun v9 H6 =>
  doQ (qBin env.P .eql 35 (.tmp 14) (.const (.int .i64 0)) (some v7) (some (.v (.int .i64 0)))) fun v10 =>
  gQ v10 true (qVal (some x1)) fun v11 =>
  gQ v10 true (qBin env.P .eql 3 (.tmp 17) (.const (.int .i64 0)) (some v11) (some (.v (.int .i64 0)))) fun v12 =>
  doQ (pickF (some v10) (some v12) (some (.v (.bool false)))) fun v13 =>
  br (some v13) (
   doQ (qBin env.P .neq 35 (.tmp 20) (.const (.int .i64 0)) (some (.v (.int .i64 2))) (some (.v (.int .i64 0)))) fun v14 =>
   br (some v14) (
    doQ (qLoad env.P (Heap.get H6) 30 (some v2)) fun v15 =>
    doQ (qLoad env.P (Heap.get H6) 30 (some v3)) fun v16 =>
    doW (wStore env.P H6 30 (some v2) (some v15)) fun v17 H7 =>
    doW (wStore env.P H7 30 (some v3) (some v16)) fun v18 H8 =>
    apartV [(v3, v2)] [v2, v3] [] H8 ∧
    (doQ (readCell env.P H8 v2 30) fun v19 =>
    doQ (readCell env.P H8 v3 30) fun v20 =>
    Q (.tup [v19, v20, (.v (.int .i64 2))]) H8)) (
    doQ (qFieldAddr env.P 30 (some v1) 0) fun v15 =>
    doQ (qLoad env.P (Heap.get H6) 28 (some v15)) fun v16 =>
    doQ (qBuild env.P 30 (some [(0, v16), (1, x1)])) fun v17 =>
    doQ (qLoad env.P (Heap.get H6) 28 (some v8)) fun v18 =>
    doQ (qFieldAddr env.P 30 (some v1) 1) fun v19 =>
    doQ (qLoad env.P (Heap.get H6) 3 (some v19)) fun v20 =>
    doQ (qBin env.P .sub 3 (.tmp 31) (.tmp 32) (some v20) (some x1)) fun v21 =>
    doQ (qBuild env.P 30 (some [(0, v18), (1, v21)])) fun v22 =>
    doW (wStore env.P H6 30 (some v2) (some v17)) fun v23 H7 =>
    doW (wStore env.P H7 30 (some v3) (some v22)) fun v24 H8 =>
    apartV [(v8, v2), (v19, v2)] [v2, v3] [] H8 ∧
    (doQ (readCell env.P H8 v2 30) fun v25 =>
    doQ (readCell env.P H8 v3 30) fun v26 =>
    Q (.tup [v25, v26, (.v (.int .i64 0))]) H8))) (
   doQ (qBin env.P .neq 35 (.tmp 20) (.const (.int .i64 0)) (some v7) (some (.v (.int .i64 0)))) fun v14 =>
   br (some v14) (
    doQ (qLoad env.P (Heap.get H6) 30 (some v2)) fun v15 =>
    doQ (qLoad env.P (Heap.get H6) 30 (some v3)) fun v16 =>
    doW (wStore env.P H6 30 (some v2) (some v15)) fun v17 H7 =>
    doW (wStore env.P H7 30 (some v3) (some v16)) fun v18 H8 =>
    apartV [(v3, v2)] [v2, v3] [] H8 ∧
    (doQ (readCell env.P H8 v2 30) fun v19 =>
    doQ (readCell env.P H8 v3 30) fun v20 =>
    Q (.tup [v19, v20, v7]) H8)) (
    doQ (qFieldAddr env.P 30 (some v1) 0) fun v15 =>
    doQ (qLoad env.P (Heap.get H6) 28 (some v15)) fun v16 =>
    doQ (qBuild env.P 30 (some [(0, v16), (1, x1)])) fun v17 =>
    doQ (qLoad env.P (Heap.get H6) 28 (some v8)) fun v18 =>
    doQ (qFieldAddr env.P 30 (some v1) 1) fun v19 =>
    doQ (qLoad env.P (Heap.get H6) 3 (some v19)) fun v20 =>
    doQ (qBin env.P .sub 3 (.tmp 31) (.tmp 32) (some v20) (some x1)) fun v21 =>
    doQ (qBuild env.P 30 (some [(0, v18), (1, v21)])) fun v22 =>
    doW (wStore env.P H6 30 (some v2) (some v17)) fun v23 H7 =>
    doW (wStore env.P H7 30 (some v3) (some v22)) fun v24 H8 =>
    apartV [(v8, v2), (v19, v2)] [v2, v3] [] H8 ∧
    (doQ (readCell env.P H8 v2 30) fun v25 =>
    doQ (readCell env.P H8 v3 30) fun v26 =>
    Q (.tup [v25, v26, (.v (.int .i64 0))]) H8)))
theorem vq_ids_Cut : VC_ids_Cut = fun g x0 x1 H Q => wp env Try.f73 none 0 lv_ids_Cut cu_ids_Cut Q 500 [.code bd_ids_Cut] (ofL g [(0, x0), (1, x1)]) H := by kernel_rfl
theorem vc_ids_Cut (x0 x1 : AV) (H : Heap) (Q : AV → Heap → Prop) (h : ∀ g, VC_ids_Cut g x0 x1 H Q) : GoL env Try.f73 0 [.code bd_ids_Cut] [(0, x0), (1, x1)] H Q := ⟨fun g => wp_ok (by have h := h g; rw [vq_ids_Cut] at h; exact h)⟩

/- ids_At -/
noncomputable def bd_ids_At : Code := (Try.f74.body).getD .skip
def lv_ids_At : Nat → Option (List Nat) := fun i => none
def cu_ids_At : Nat → Bool := fun i => false
def VC_ids_At (g : Nat → AV) (x0 x1 : AV) (H : Heap) (Q : AV → Heap → Prop) : Prop :=
  doW (nRes H (⟨0, 2, Heap.gen H 0 2, 0⟩ : Ref) (qBox env.P (⟨0, 2, Heap.gen H 0 2, 0⟩ : Ref) 30 (some x0))) fun v1 H1 =>
  doW (nRes H1 (⟨0, 4, Heap.gen H1 0 4, 0⟩ : Ref) (qAlloc env.P (⟨0, 4, Heap.gen H1 0 4, 0⟩ : Ref) 28)) fun v2 H2 =>
  doQ (qLoad env.P (Heap.get H2) 30 (some v1)) fun v3 =>
  doW (callRes env true (limf env) (limt env 0) H2 (⟨0, 8, Heap.gen H2 0 8, 0⟩ : Ref) (some (.fn (.func 78) [] [])) [v3]) fun v4 H3 =>
  doQ (qBin env.P .neq 35 (.tmp 9) (.const (.int .i64 0)) (some v4) (some (.v (.int .i64 0)))) fun v5 =>
  br (some v5) (
   doQ (qBuild env.P 28 (some [])) fun v6 =>
   doW (wStore env.P H3 28 (some v2) (some v6)) fun v7 H4 =>
   doQ (readCell env.P H4 v2 28) fun v8 =>
   Q (.tup [v8, v4]) H4) (
   doQ (qBin env.P .lss 3 (.tmp 13) (.const (.int .i64 0)) (some x1) (some (.v (.int .i64 0)))) fun v6 =>
   gQ v6 false (qVal (some x1)) fun v7 =>
   gQ v6 false (qFieldAddr env.P 30 (some v1) 1) fun v8 =>
   gQ v6 false (qLoad env.P (Heap.get H3) 3 (some v8)) fun v9 =>
   gQ v6 false (qBin env.P .geq 3 (.tmp 16) (.tmp 18) (some v7) (some v9)) fun v10 =>
   doQ (pickF (some v6) (some (.v (.bool true))) (some v10)) fun v11 =>
   br (some v11) (
    doQ (qBuild env.P 28 (some [])) fun v12 =>
    doW (wStore env.P H3 28 (some v2) (some v12)) fun v13 H4 =>
    doQ (readCell env.P H4 v2 28) fun v14 =>
    Q (.tup [v14, (.v (.int .i64 2))]) H4) (
    doQ (qFieldAddr env.P 30 (some v1) 0) fun v12 =>
    doQ (qLoad env.P (Heap.get H3) 28 (some v12)) fun v13 =>
    doW (callRes env true (limf env) (limt env 0) H3 (⟨0, 25, Heap.gen H3 0 25, 0⟩ : Ref) (some (.fn (.func 92) [] [])) [v13, x1]) fun v14 H4 =>
    doW (wStore env.P H4 28 (some v2) (some v14)) fun v15 H5 =>
    doQ (readCell env.P H5 v2 28) fun v16 =>
    Q (.tup [v16, (.v (.int .i64 0))]) H5))
theorem vq_ids_At : VC_ids_At = fun g x0 x1 H Q => wp env Try.f74 none 0 lv_ids_At cu_ids_At Q 500 [.code bd_ids_At] (ofL g [(0, x0), (1, x1)]) H := by kernel_rfl
theorem vc_ids_At (x0 x1 : AV) (H : Heap) (Q : AV → Heap → Prop) (h : ∀ g, VC_ids_At g x0 x1 H Q) : GoL env Try.f74 0 [.code bd_ids_At] [(0, x0), (1, x1)] H Q := ⟨fun g => wp_ok (by have h := h g; rw [vq_ids_At] at h; exact h)⟩

/- _blindstamp_run_part__run -/
noncomputable def bd__blindstamp_run_part__run : Code := (Try.f75.body).getD .skip
def lv__blindstamp_run_part__run : Nat → Option (List Nat) := fun i => none
def cu__blindstamp_run_part__run : Nat → Bool := fun i => false
def VC__blindstamp_run_part__run (g : Nat → AV) (x0 : AV) (H : Heap) (Q : AV → Heap → Prop) : Prop :=
  doW (nRes H (⟨0, 1, Heap.gen H 0 1, 0⟩ : Ref) (qBox env.P (⟨0, 1, Heap.gen H 0 1, 0⟩ : Ref) 123 (some x0))) fun v1 H1 =>
  doW (nRes H1 (⟨0, 2, Heap.gen H1 0 2, 0⟩ : Ref) (qAlloc env.P (⟨0, 2, Heap.gen H1 0 2, 0⟩ : Ref) 33)) fun v2 H2 =>
  doQ (qFieldAddr env.P 123 (some v1) 0) fun v3 =>
  doQ (qLoad env.P (Heap.get H2) 30 (some v3)) fun v4 =>
  doQ (qFieldAddr env.P 123 (some v1) 1) fun v5 =>
  doQ (qLoad env.P (Heap.get H2) 28 (some v5)) fun v6 =>
  doQ (qFieldAddr env.P 123 (some v1) 2) fun v7 =>
  doQ (qLoad env.P (Heap.get H2) 31 (some v7)) fun v8 =>
  doW (callRes env false (limf env) (limt env 0) H2 (⟨0, 9, Heap.gen H2 0 9, 0⟩ : Ref) (some (.fn (.func 81) [] [])) [v8]) fun v9 H3 =>
  doQ (qBuild env.P 33 (some [(0, v4), (1, v6), (2, v9)])) fun v10 =>
  doW (wStore env.P H3 33 (some v2) (some v10)) fun v11 H4 =>
  doQ (readCell env.P H4 v2 33) fun v12 =>
  Q v12 H4
theorem vq__blindstamp_run_part__run : VC__blindstamp_run_part__run = fun g x0 H Q => wp env Try.f75 none 0 lv__blindstamp_run_part__run cu__blindstamp_run_part__run Q 500 [.code bd__blindstamp_run_part__run] (ofL g [(0, x0)]) H := by kernel_rfl
theorem vc__blindstamp_run_part__run (x0 : AV) (H : Heap) (Q : AV → Heap → Prop) (h : ∀ g, VC__blindstamp_run_part__run g x0 H Q) : GoL env Try.f75 0 [.code bd__blindstamp_run_part__run] [(0, x0)] H Q := ⟨fun g => wp_ok (by have h := h g; rw [vq__blindstamp_run_part__run] at h; exact h)⟩

/- slices_Equal___int32_int32_ -/
noncomputable def bd_slices_Equal___int32_int32_ : Code := (Try.f76.body).getD .skip
noncomputable def hd_slices_Equal___int32_int32__4 : List Item := (findLoop 4 400 [.code bd_slices_Equal___int32_int32_]).getD []
def lv_slices_Equal___int32_int32_ : Nat → Option (List Nat) := fun i => cond (Nat.beq i 4) (some [13, 1, 0, 12]) (none)
def cu_slices_Equal___int32_int32_ : Nat → Bool := fun i => false
def VC_slices_Equal___int32_int32_ (g : Nat → AV) (x0 x1 : AV) (H : Heap) (Q : AV → Heap → Prop) : Prop :=
  doQ (qBuiltin env.P false (Heap.get H) (⟨0, 7, Heap.gen H 0 7, 0⟩ : Ref) .len #[31] [x0]) fun v1 =>
  doQ (qBuiltin env.P false (Heap.get H) (⟨0, 9, Heap.gen H 0 9, 0⟩ : Ref) .len #[31] [x1]) fun v2 =>
  doQ (qBin env.P .neq 3 (.tmp 7) (.tmp 9) (some v1) (some v2)) fun v3 =>
  br (some v3) (
   Q (.v (.bool false)) H) (
   doQ (qBuiltin env.P false (Heap.get H) (⟨0, 12, Heap.gen H 0 12, 0⟩ : Ref) .len #[31] [x0]) fun v4 =>
   GoL env Try.f76 0 hd_slices_Equal___int32_int32__4 [(13, (.v (.int .i64 0))), (1, x1), (0, x0), (12, v4)] H Q)
theorem vq_slices_Equal___int32_int32_ : VC_slices_Equal___int32_int32_ = fun g x0 x1 H Q => wp env Try.f76 none 0 lv_slices_Equal___int32_int32_ cu_slices_Equal___int32_int32_ Q 500 [.code bd_slices_Equal___int32_int32_] (ofL g [(0, x0), (1, x1)]) H := by kernel_rfl
theorem vc_slices_Equal___int32_int32_ (x0 x1 : AV) (H : Heap) (Q : AV → Heap → Prop) (h : ∀ g, VC_slices_Equal___int32_int32_ g x0 x1 H Q) : GoL env Try.f76 0 [.code bd_slices_Equal___int32_int32_] [(0, x0), (1, x1)] H Q := ⟨fun g => wp_ok (by have h := h g; rw [vq_slices_Equal___int32_int32_] at h; exact h)⟩
def VC_slices_Equal___int32_int32__4 (g : Nat → AV) (x13 x1 x0 x12 : AV) (H : Heap) (Q : AV → Heap → Prop) : Prop :=
  doQ (qBin env.P .lss 3 (.tmp 13) (.tmp 12) (some x13) (some x12)) fun v1 =>
  br (some v1) (
   doQ (qIndexAddr env.P (Heap.get H) 31 (some x0) (some x13)) fun v2 =>
   doQ (qLoad env.P (Heap.get H) 21 (some v2)) fun v3 =>
   doQ (qIndexAddr env.P (Heap.get H) 31 (some x1) (some x13)) fun v4 =>
   doQ (qLoad env.P (Heap.get H) 21 (some v4)) fun v5 =>
   doQ (qBin env.P .neq 21 (.tmp 19) (.tmp 23) (some v3) (some v5)) fun v6 =>
   br (some v6) (
    Q (.v (.bool false)) H) (
    doQ (qBin env.P .add 3 (.tmp 13) (.const (.int .i64 1)) (some x13) (some (.v (.int .i64 1)))) fun v7 =>
    GoL env Try.f76 0 hd_slices_Equal___int32_int32__4 [(13, v7), (1, x1), (0, x0), (12, x12)] H Q)) (
   Q (.v (.bool true)) H)
theorem vq_slices_Equal___int32_int32__4 : VC_slices_Equal___int32_int32__4 = fun g x13 x1 x0 x12 H Q => wp env Try.f76 none 0 lv_slices_Equal___int32_int32_ cu_slices_Equal___int32_int32_ Q 500 (bodyOf hd_slices_Equal___int32_int32__4) (ofL g [(13, x13), (1, x1), (0, x0), (12, x12)]) H := by kernel_rfl
theorem vc_slices_Equal___int32_int32__4 (x13 x1 x0 x12 : AV) (H : Heap) (Q : AV → Heap → Prop) (h : ∀ g, VC_slices_Equal___int32_int32__4 g x13 x1 x0 x12 H Q) : GoL env Try.f76 0 hd_slices_Equal___int32_int32__4 [(13, x13), (1, x1), (0, x0), (12, x12)] H Q := goL_body fun g => wp_ok (by have h := h g; rw [vq_slices_Equal___int32_int32__4] at h; exact h)

/- ids_Check -/
noncomputable def bd_ids_Check : Code := (Try.f77.body).getD .skip
def lv_ids_Check : Nat → Option (List Nat) := fun i => none
def cu_ids_Check : Nat → Bool := fun i => false
def VC_ids_Check (g : Nat → AV) (x0 : AV) (H : Heap) (Q : AV → Heap → Prop) : Prop :=
  doW (nRes H (⟨0, 1, Heap.gen H 0 1, 0⟩ : Ref) (qBox env.P (⟨0, 1, Heap.gen H 0 1, 0⟩ : Ref) 28 (some x0))) fun v1 H1 =>
  doQ (qFieldAddr env.P 28 (some v1) 0) fun v2 =>
  doQ (qLoad env.P (Heap.get H1) 26 (some v2)) fun v3 =>
  doW (callRes env true (limf env) (limt env 0) H1 (⟨0, 5, Heap.gen H1 0 5, 0⟩ : Ref) (some (.fn (.func 113) [] [])) [v3]) fun v4 H2 =>
  doQ (qBin env.P .eql 35 (.tmp 5) (.const (.int .i64 0)) (some v4) (some (.v (.int .i64 0)))) fun v5 =>
  gQ v5 true (qFieldAddr env.P 28 (some v1) 1) fun v6 =>
  gQ v5 true (qLoad env.P (Heap.get H2) 3 (some v6)) fun v7 =>
  gQ v5 true (qBin env.P .geq 3 (.tmp 9) (.const (.int .i64 1)) (some v7) (some (.v (.int .i64 1)))) fun v8 =>
  doQ (pickF (some v5) (some v8) (some (.v (.bool false)))) fun v9 =>
  gQ v9 true (qFieldAddr env.P 28 (some v1) 1) fun v10 =>
  gQ v9 true (qLoad env.P (Heap.get H2) 3 (some v10)) fun v11 =>
  gQ v9 true (qBin env.P .leq 3 (.tmp 14) (.const (.int .i64 1099511627776)) (some v11) (some (.v (.int .i64 1099511627776)))) fun v12 =>
  doQ (pickF (some v9) (some v12) (some (.v (.bool false)))) fun v13 =>
  doW (callRes env true (limf env) (limt env 0) H2 (⟨0, 17, Heap.gen H2 0 17, 0⟩ : Ref) (some (.fn (.func 112) [] [])) [v13]) fun v14 H3 =>
  Q v14 H3
theorem vq_ids_Check : VC_ids_Check = fun g x0 H Q => wp env Try.f77 none 0 lv_ids_Check cu_ids_Check Q 500 [.code bd_ids_Check] (ofL g [(0, x0)]) H := by kernel_rfl
theorem vc_ids_Check (x0 : AV) (H : Heap) (Q : AV → Heap → Prop) (h : ∀ g, VC_ids_Check g x0 H Q) : GoL env Try.f77 0 [.code bd_ids_Check] [(0, x0)] H Q := ⟨fun g => wp_ok (by have h := h g; rw [vq_ids_Check] at h; exact h)⟩

/- ids_CheckSpan -/
noncomputable def bd_ids_CheckSpan : Code := (Try.f78.body).getD .skip
def lv_ids_CheckSpan : Nat → Option (List Nat) := fun i => none
def cu_ids_CheckSpan : Nat → Bool := fun i => false
def VC_ids_CheckSpan (g : Nat → AV) (x0 : AV) (H : Heap) (Q : AV → Heap → Prop) : Prop :=
  doW (nRes H (⟨0, 1, Heap.gen H 0 1, 0⟩ : Ref) (qBox env.P (⟨0, 1, Heap.gen H 0 1, 0⟩ : Ref) 30 (some x0))) fun v1 H1 =>
  doQ (qFieldAddr env.P 30 (some v1) 0) fun v2 =>
  doQ (qLoad env.P (Heap.get H1) 28 (some v2)) fun v3 =>
  doW (callRes env true (limf env) (limt env 0) H1 (⟨0, 5, Heap.gen H1 0 5, 0⟩ : Ref) (some (.fn (.func 77) [] [])) [v3]) fun v4 H2 =>
  doQ (qBin env.P .eql 35 (.tmp 5) (.const (.int .i64 0)) (some v4) (some (.v (.int .i64 0)))) fun v5 =>
  gQ v5 true (qFieldAddr env.P 30 (some v1) 1) fun v6 =>
  gQ v5 true (qLoad env.P (Heap.get H2) 3 (some v6)) fun v7 =>
  gQ v5 true (qBin env.P .geq 3 (.tmp 9) (.const (.int .i64 1)) (some v7) (some (.v (.int .i64 1)))) fun v8 =>
  doQ (pickF (some v5) (some v8) (some (.v (.bool false)))) fun v9 =>
  gQ v9 true (qFieldAddr env.P 30 (some v1) 1) fun v10 =>
  gQ v9 true (qLoad env.P (Heap.get H2) 3 (some v10)) fun v11 =>
  gQ v9 true (qBin env.P .leq 3 (.tmp 14) (.const (.int .i64 64)) (some v11) (some (.v (.int .i64 64)))) fun v12 =>
  doQ (pickF (some v9) (some v12) (some (.v (.bool false)))) fun v13 =>
  gQ v13 true (qFieldAddr env.P 30 (some v1) 0) fun v14 =>
  gQ v13 true (qFieldAddr env.P 28 (some v14) 1) fun v15 =>
  gQ v13 true (qLoad env.P (Heap.get H2) 3 (some v15)) fun v16 =>
  gQ v13 true (qFieldAddr env.P 30 (some v1) 1) fun v17 =>
  gQ v13 true (qLoad env.P (Heap.get H2) 3 (some v17)) fun v18 =>
  gQ v13 true (qBin env.P .add 3 (.tmp 20) (.tmp 22) (some v16) (some v18)) fun v19 =>
  gQ v13 true (qBin env.P .sub 3 (.tmp 23) (.const (.int .i64 1)) (some v19) (some (.v (.int .i64 1)))) fun v20 =>
  gQ v13 true (qBin env.P .leq 3 (.tmp 24) (.const (.int .i64 1099511627776)) (some v20) (some (.v (.int .i64 1099511627776)))) fun v21 =>
  doQ (pickF (some v13) (some v21) (some (.v (.bool false)))) fun v22 =>
  doW (callRes env true (limf env) (limt env 0) H2 (⟨0, 27, Heap.gen H2 0 27, 0⟩ : Ref) (some (.fn (.func 112) [] [])) [v22]) fun v23 H3 =>
  Q v23 H3
theorem vq_ids_CheckSpan : VC_ids_CheckSpan = fun g x0 H Q => wp env Try.f78 none 0 lv_ids_CheckSpan cu_ids_CheckSpan Q 500 [.code bd_ids_CheckSpan] (ofL g [(0, x0)]) H := by kernel_rfl
theorem vc_ids_CheckSpan (x0 : AV) (H : Heap) (Q : AV → Heap → Prop) (h : ∀ g, VC_ids_CheckSpan g x0 H Q) : GoL env Try.f78 0 [.code bd_ids_CheckSpan] [(0, x0)] H Q := ⟨fun g => wp_ok (by have h := h g; rw [vq_ids_CheckSpan] at h; exact h)⟩

/- runes_Check -/
noncomputable def bd_runes_Check : Code := (Try.f79.body).getD .skip
def lv_runes_Check : Nat → Option (List Nat) := fun i => none
def cu_runes_Check : Nat → Bool := fun i => false
def VC_runes_Check (g : Nat → AV) (x0 : AV) (H : Heap) (Q : AV → Heap → Prop) : Prop :=
  doQ (qBuiltin env.P false (Heap.get H) (⟨0, 6, Heap.gen H 0 6, 0⟩ : Ref) .len #[31] [x0]) fun v1 =>
  doQ (qBin env.P .gtr 3 (.tmp 6) (.const (.int .i64 64)) (some v1) (some (.v (.int .i64 64)))) fun v2 =>
  br (some v2) (
   Q (.v (.int .i64 4)) H) (
   doW (callRes env true (limf env) (limt env 0) H (⟨0, 11, Heap.gen H 0 11, 0⟩ : Ref) (some (.fn (.func 116) [] [])) [x0, (.fn (.func 114) [] [])]) fun v3 H1 =>
   br (some v3) (
    Q (.v (.int .i64 8)) H1) (
    Q (.v (.int .i64 0)) H1))
theorem vq_runes_Check : VC_runes_Check = fun g x0 H Q => wp env Try.f79 none 0 lv_runes_Check cu_runes_Check Q 500 [.code bd_runes_Check] (ofL g [(0, x0)]) H := by kernel_rfl
theorem vc_runes_Check (x0 : AV) (H : Heap) (Q : AV → Heap → Prop) (h : ∀ g, VC_runes_Check g x0 H Q) : GoL env Try.f79 0 [.code bd_runes_Check] [(0, x0)] H Q := ⟨fun g => wp_ok (by have h := h g; rw [vq_runes_Check] at h; exact h)⟩

/- slices_Clone___int32_int32_ -/
noncomputable def bd_slices_Clone___int32_int32_ : Code := (Try.f81.body).getD .skip
def lv_slices_Clone___int32_int32_ : Nat → Option (List Nat) := fun i => none
def cu_slices_Clone___int32_int32_ : Nat → Bool := fun i => false
def VC_slices_Clone___int32_int32_ (g : Nat → AV) (x0 : AV) (H : Heap) (Q : AV → Heap → Prop) : Prop :=
  doQ (qBin env.P .eql 31 (.tmp 3) (.const (.slice none 0 0)) (some x0) (some (.v (.slice none 0 0)))) fun v1 =>
  br (some v1) (
   Q (.v (.slice none 0 0)) H) (
   doW (bsRes env.P false true H (⟨0, 5, Heap.gen H 0 5, 0⟩ : Ref) 31 0 (some [])) fun v2 H1 =>
   doW (appRes env.P true H1 (⟨0, 7, Heap.gen H1 0 7, 0⟩ : Ref) (some 31) (some 31) v2 x0) fun v3 H2 =>
   Q v3 H2)
theorem vq_slices_Clone___int32_int32_ : VC_slices_Clone___int32_int32_ = fun g x0 H Q => wp env Try.f81 none 0 lv_slices_Clone___int32_int32_ cu_slices_Clone___int32_int32_ Q 500 [.code bd_slices_Clone___int32_int32_] (ofL g [(0, x0)]) H := by kernel_rfl
theorem vc_slices_Clone___int32_int32_ (x0 : AV) (H : Heap) (Q : AV → Heap → Prop) (h : ∀ g, VC_slices_Clone___int32_int32_ g x0 H Q) : GoL env Try.f81 0 [.code bd_slices_Clone___int32_int32_] [(0, x0)] H Q := ⟨fun g => wp_ok (by have h := h g; rw [vq_slices_Clone___int32_int32_] at h; exact h)⟩

/- blindstampref04_Same -/
noncomputable def bd_blindstampref04_Same : Code := (Try.f87.body).getD .skip
noncomputable def hd_blindstampref04_Same_4 : List Item := (findLoop 4 400 [.code bd_blindstampref04_Same]).getD []
def lv_blindstampref04_Same : Nat → Option (List Nat) := fun i => cond (Nat.beq i 4) (some [5, 1, 0]) (none)
def cu_blindstampref04_Same : Nat → Bool := fun i => false
def VC_blindstampref04_Same (g : Nat → AV) (x0 x1 : AV) (H : Heap) (Q : AV → Heap → Prop) : Prop :=
  doQ (qBuiltin env.P false (Heap.get H) (⟨0, 7, Heap.gen H 0 7, 0⟩ : Ref) .len #[31] [x0]) fun v1 =>
  doQ (qBuiltin env.P false (Heap.get H) (⟨0, 9, Heap.gen H 0 9, 0⟩ : Ref) .len #[31] [x1]) fun v2 =>
  doQ (qBin env.P .neq 3 (.tmp 7) (.tmp 9) (some v1) (some v2)) fun v3 =>
  br (some v3) (
   Q (.v (.bool false)) H) (
   GoL env Try.f87 0 hd_blindstampref04_Same_4 [(5, (.v (.int .i64 0))), (1, x1), (0, x0)] H Q)
theorem vq_blindstampref04_Same : VC_blindstampref04_Same = fun g x0 x1 H Q => wp env Try.f87 none 0 lv_blindstampref04_Same cu_blindstampref04_Same Q 500 [.code bd_blindstampref04_Same] (ofL g [(0, x0), (1, x1)]) H := by kernel_rfl
theorem vc_blindstampref04_Same (x0 x1 : AV) (H : Heap) (Q : AV → Heap → Prop) (h : ∀ g, VC_blindstampref04_Same g x0 x1 H Q) : GoL env Try.f87 0 [.code bd_blindstampref04_Same] [(0, x0), (1, x1)] H Q := ⟨fun g => wp_ok (by have h := h g; rw [vq_blindstampref04_Same] at h; exact h)⟩
def VC_blindstampref04_Same_4 (g : Nat → AV) (x5 x1 x0 : AV) (H : Heap) (Q : AV → Heap → Prop) : Prop :=
  doQ (qBuiltin env.P false (Heap.get H) (⟨0, 13, Heap.gen H 0 13, 0⟩ : Ref) .len #[31] [x0]) fun v1 =>
  doQ (qBin env.P .lss 3 (.tmp 11) (.tmp 13) (some x5) (some v1)) fun v2 =>
  br (some v2) (
   doQ (qIndexAddr env.P (Heap.get H) 31 (some x0) (some x5)) fun v3 =>
   doQ (qLoad env.P (Heap.get H) 21 (some v3)) fun v4 =>
   doQ (qIndexAddr env.P (Heap.get H) 31 (some x1) (some x5)) fun v5 =>
   doQ (qLoad env.P (Heap.get H) 21 (some v5)) fun v6 =>
   doQ (qBin env.P .neq 21 (.tmp 20) (.tmp 24) (some v4) (some v6)) fun v7 =>
   br (some v7) (
    Q (.v (.bool false)) H) (
    doQ (qBin env.P .add 3 (.tmp 15) (.const (.int .i64 1)) (some x5) (some (.v (.int .i64 1)))) fun v8 =>
    GoL env Try.f87 0 hd_blindstampref04_Same_4 [(5, v8), (1, x1), (0, x0)] H Q)) (
   Q (.v (.bool true)) H)
theorem vq_blindstampref04_Same_4 : VC_blindstampref04_Same_4 = fun g x5 x1 x0 H Q => wp env Try.f87 none 0 lv_blindstampref04_Same cu_blindstampref04_Same Q 500 (bodyOf hd_blindstampref04_Same_4) (ofL g [(5, x5), (1, x1), (0, x0)]) H := by kernel_rfl
theorem vc_blindstampref04_Same_4 (x5 x1 x0 : AV) (H : Heap) (Q : AV → Heap → Prop) (h : ∀ g, VC_blindstampref04_Same_4 g x5 x1 x0 H Q) : GoL env Try.f87 0 hd_blindstampref04_Same_4 [(5, x5), (1, x1), (0, x0)] H Q := goL_body fun g => wp_ok (by have h := h g; rw [vq_blindstampref04_Same_4] at h; exact h)

/- ids_next -/
noncomputable def bd_ids_next : Code := (Try.f92.body).getD .skip
def lv_ids_next : Nat → Option (List Nat) := fun i => none
def cu_ids_next : Nat → Bool := fun i => false
def VC_ids_next (g : Nat → AV) (x0 x1 : AV) (H : Heap) (Q : AV → Heap → Prop) : Prop :=
  doW (nRes H (⟨0, 2, Heap.gen H 0 2, 0⟩ : Ref) (qBox env.P (⟨0, 2, Heap.gen H 0 2, 0⟩ : Ref) 28 (some x0))) fun v1 H1 =>
  doW (nRes H1 (⟨0, 4, Heap.gen H1 0 4, 0⟩ : Ref) (qAlloc env.P (⟨0, 4, Heap.gen H1 0 4, 0⟩ : Ref) 28)) fun v2 H2 =>
  doQ (qFieldAddr env.P 28 (some v1) 1) fun v3 =>
  doQ (qLoad env.P (Heap.get H2) 3 (some v3)) fun v4 =>
  doQ (qBin env.P .add 3 (.tmp 6) (.tmp 7) (some v4) (some x1)) fun v5 =>
  doQ (qFieldAddr env.P 28 (some v1) 1) fun v6 =>
  doW (wStore env.P H2 3 (some v6) (some v5)) fun v7 H3 =>
  doQ (qLoad env.P (Heap.get H3) 28 (some v1)) fun v8 =>
  doW (wStore env.P H3 28 (some v2) (some v8)) fun v9 H4 =>
  doQ (readCell env.P H4 v2 28) fun v10 =>
  Q v10 H4
theorem vq_ids_next : VC_ids_next = fun g x0 x1 H Q => wp env Try.f92 none 0 lv_ids_next cu_ids_next Q 500 [.code bd_ids_next] (ofL g [(0, x0), (1, x1)]) H := by kernel_rfl
theorem vc_ids_next (x0 x1 : AV) (H : Heap) (Q : AV → Heap → Prop) (h : ∀ g, VC_ids_next g x0 x1 H Q) : GoL env Try.f92 0 [.code bd_ids_next] [(0, x0), (1, x1)] H Q := ⟨fun g => wp_ok (by have h := h g; rw [vq_ids_next] at h; exact h)⟩

/- ids_right -/
noncomputable def bd_ids_right : Code := (Try.f112.body).getD .skip
def lv_ids_right : Nat → Option (List Nat) := fun i => none
def cu_ids_right : Nat → Bool := fun i => false
def VC_ids_right (g : Nat → AV) (x0 : AV) (H : Heap) (Q : AV → Heap → Prop) : Prop :=
  br (some x0) (
   Q (.v (.int .i64 0)) H) (
   Q (.v (.int .i64 8)) H)
theorem vq_ids_right : VC_ids_right = fun g x0 H Q => wp env Try.f112 none 0 lv_ids_right cu_ids_right Q 500 [.code bd_ids_right] (ofL g [(0, x0)]) H := by kernel_rfl
theorem vc_ids_right (x0 : AV) (H : Heap) (Q : AV → Heap → Prop) (h : ∀ g, VC_ids_right g x0 H Q) : GoL env Try.f112 0 [.code bd_ids_right] [(0, x0)] H Q := ⟨fun g => wp_ok (by have h := h g; rw [vq_ids_right] at h; exact h)⟩

/- ids_CheckHandle -/
noncomputable def bd_ids_CheckHandle : Code := (Try.f113.body).getD .skip
def lv_ids_CheckHandle : Nat → Option (List Nat) := fun i => none
def cu_ids_CheckHandle : Nat → Bool := fun i => false
def VC_ids_CheckHandle (g : Nat → AV) (x0 : AV) (H : Heap) (Q : AV → Heap → Prop) : Prop :=
  doW (nRes H (⟨0, 1, Heap.gen H 0 1, 0⟩ : Ref) (qBox env.P (⟨0, 1, Heap.gen H 0 1, 0⟩ : Ref) 26 (some x0))) fun v1 H1 =>
  doQ (qFieldAddr env.P 26 (some v1) 0) fun v2 =>
  doQ (qLoad env.P (Heap.get H1) 24 (some v2)) fun v3 =>
  doW (callRes env true (limf env) (limt env 0) H1 (⟨0, 5, Heap.gen H1 0 5, 0⟩ : Ref) (some (.fn (.func 125) [] [])) [v3]) fun v4 H2 =>
  doQ (qBin env.P .eql 35 (.tmp 5) (.const (.int .i64 0)) (some v4) (some (.v (.int .i64 0)))) fun v5 =>
  gQ v5 true (qFieldAddr env.P 26 (some v1) 1) fun v6 =>
  gQ v5 true (qLoad env.P (Heap.get H2) 5 (some v6)) fun v7 =>
  gQ v5 true (qBin env.P .lss 5 (.tmp 9) (.const (.int .u8 8)) (some v7) (some (a8 8))) fun v8 =>
  doQ (pickF (some v5) (some v8) (some (.v (.bool false)))) fun v9 =>
  doW (callRes env true (limf env) (limt env 0) H2 (⟨0, 12, Heap.gen H2 0 12, 0⟩ : Ref) (some (.fn (.func 112) [] [])) [v9]) fun v10 H3 =>
  Q v10 H3
theorem vq_ids_CheckHandle : VC_ids_CheckHandle = fun g x0 H Q => wp env Try.f113 none 0 lv_ids_CheckHandle cu_ids_CheckHandle Q 500 [.code bd_ids_CheckHandle] (ofL g [(0, x0)]) H := by kernel_rfl
theorem vc_ids_CheckHandle (x0 : AV) (H : Heap) (Q : AV → Heap → Prop) (h : ∀ g, VC_ids_CheckHandle g x0 H Q) : GoL env Try.f113 0 [.code bd_ids_CheckHandle] [(0, x0)] H Q := ⟨fun g => wp_ok (by have h := h g; rw [vq_ids_CheckHandle] at h; exact h)⟩

/- runes_CheckF1 -/
noncomputable def bd_runes_CheckF1 : Code := (Try.f114.body).getD .skip
def lv_runes_CheckF1 : Nat → Option (List Nat) := fun i => none
def cu_runes_CheckF1 : Nat → Bool := fun i => false
def VC_runes_CheckF1 (g : Nat → AV) (x0 : AV) (H : Heap) (Q : AV → Heap → Prop) : Prop :=
  doQ (qBin env.P .neq 21 (.tmp 3) (.const (.int .i32 (-1))) (some x0) (some (.v (.int .i32 (-1))))) fun v1 =>
  gQ v1 true (qVal (some x0)) fun v2 =>
  gW v1 true H (callRes env true (limf env) (limt env 0) H (⟨0, 7, Heap.gen H 0 7, 0⟩ : Ref) (some (.fn (.func 115) [] [])) [v2]) fun v3 H1 =>
  gQ v1 true (qUn env.P .not (some v3)) fun v4 =>
  doQ (pickF (some v1) (some v4) (some (.v (.bool false)))) fun v5 =>
  Q v5 H1
theorem vq_runes_CheckF1 : VC_runes_CheckF1 = fun g x0 H Q => wp env Try.f114 none 0 lv_runes_CheckF1 cu_runes_CheckF1 Q 500 [.code bd_runes_CheckF1] (ofL g [(0, x0)]) H := by kernel_rfl
theorem vc_runes_CheckF1 (x0 : AV) (H : Heap) (Q : AV → Heap → Prop) (h : ∀ g, VC_runes_CheckF1 g x0 H Q) : GoL env Try.f114 0 [.code bd_runes_CheckF1] [(0, x0)] H Q := ⟨fun g => wp_ok (by have h := h g; rw [vq_runes_CheckF1] at h; exact h)⟩

/- unicode_utf8_ValidRune -/
noncomputable def bd_unicode_utf8_ValidRune : Code := (Try.f115.body).getD .skip
def lv_unicode_utf8_ValidRune : Nat → Option (List Nat) := fun i => none
def cu_unicode_utf8_ValidRune : Nat → Bool := fun i => false
def VC_unicode_utf8_ValidRune (g : Nat → AV) (x0 : AV) (H : Heap) (Q : AV → Heap → Prop) : Prop :=
  doQ (qBin env.P .leq 21 (.const (.int .i32 0)) (.tmp 4) (some (.v (.int .i32 0))) (some x0)) fun v1 =>
  gQ v1 true (qVal (some x0)) fun v2 =>
  gQ v1 true (qBin env.P .lss 21 (.tmp 7) (.const (.int .i32 55296)) (some v2) (some (.v (.int .i32 55296)))) fun v3 =>
  doQ (pickF (some v1) (some v3) (some (.v (.bool false)))) fun v4 =>
  br (some v4) (
   Q (.v (.bool true)) H) (
   doQ (qBin env.P .lss 21 (.const (.int .i32 57343)) (.tmp 11) (some (.v (.int .i32 57343))) (some x0)) fun v5 =>
   gQ v5 true (qVal (some x0)) fun v6 =>
   gQ v5 true (qBin env.P .leq 21 (.tmp 14) (.const (.int .i32 1114111)) (some v6) (some (.v (.int .i32 1114111)))) fun v7 =>
   doQ (pickF (some v5) (some v7) (some (.v (.bool false)))) fun v8 =>
   br (some v8) (
    Q (.v (.bool true)) H) (
    Q (.v (.bool false)) H))
theorem vq_unicode_utf8_ValidRune : VC_unicode_utf8_ValidRune = fun g x0 H Q => wp env Try.f115 none 0 lv_unicode_utf8_ValidRune cu_unicode_utf8_ValidRune Q 500 [.code bd_unicode_utf8_ValidRune] (ofL g [(0, x0)]) H := by kernel_rfl
theorem vc_unicode_utf8_ValidRune (x0 : AV) (H : Heap) (Q : AV → Heap → Prop) (h : ∀ g, VC_unicode_utf8_ValidRune g x0 H Q) : GoL env Try.f115 0 [.code bd_unicode_utf8_ValidRune] [(0, x0)] H Q := ⟨fun g => wp_ok (by have h := h g; rw [vq_unicode_utf8_ValidRune] at h; exact h)⟩

/- slices_ContainsFunc___int32_rune_ -/
noncomputable def bd_slices_ContainsFunc___int32_rune_ : Code := (Try.f116.body).getD .skip
def lv_slices_ContainsFunc___int32_rune_ : Nat → Option (List Nat) := fun i => none
def cu_slices_ContainsFunc___int32_rune_ : Nat → Bool := fun i => false
def VC_slices_ContainsFunc___int32_rune_ (g : Nat → AV) (x0 x1 : AV) (H : Heap) (Q : AV → Heap → Prop) : Prop :=
  doW (callRes env true (limf env) (limt env 0) H (⟨0, 7, Heap.gen H 0 7, 0⟩ : Ref) (some (.fn (.func 139) [] [])) [x0, x1]) fun v1 H1 =>
  doQ (qBin env.P .geq 3 (.tmp 7) (.const (.int .i64 0)) (some v1) (some (.v (.int .i64 0)))) fun v2 =>
  Q v2 H1
theorem vq_slices_ContainsFunc___int32_rune_ : VC_slices_ContainsFunc___int32_rune_ = fun g x0 x1 H Q => wp env Try.f116 none 0 lv_slices_ContainsFunc___int32_rune_ cu_slices_ContainsFunc___int32_rune_ Q 500 [.code bd_slices_ContainsFunc___int32_rune_] (ofL g [(0, x0), (1, x1)]) H := by kernel_rfl
theorem vc_slices_ContainsFunc___int32_rune_ (x0 x1 : AV) (H : Heap) (Q : AV → Heap → Prop) (h : ∀ g, VC_slices_ContainsFunc___int32_rune_ g x0 x1 H Q) : GoL env Try.f116 0 [.code bd_slices_ContainsFunc___int32_rune_] [(0, x0), (1, x1)] H Q := ⟨fun g => wp_ok (by have h := h g; rw [vq_slices_ContainsFunc___int32_rune_] at h; exact h)⟩

/- label_Check -/
noncomputable def bd_label_Check : Code := (Try.f125.body).getD .skip
def lv_label_Check : Nat → Option (List Nat) := fun i => none
def cu_label_Check : Nat → Bool := fun i => false
def VC_label_Check (g : Nat → AV) (x0 : AV) (H : Heap) (Q : AV → Heap → Prop) : Prop :=
  doW (nRes H (⟨0, 1, Heap.gen H 0 1, 0⟩ : Ref) (qBox env.P (⟨0, 1, Heap.gen H 0 1, 0⟩ : Ref) 24 (some x0))) fun v1 H1 =>
  doQ (qFieldAddr env.P 24 (some v1) 0) fun v2 =>
  doQ (qLoad env.P (Heap.get H1) 5 (some v2)) fun v3 =>
  doQ (qBin env.P .gtr 5 (.tmp 4) (.const (.int .u8 15)) (some v3) (some (a8 15))) fun v4 =>
  br (some v4) (
   Q (.v (.int .i64 8)) H1) (
   Q (.v (.int .i64 0)) H1)
theorem vq_label_Check : VC_label_Check = fun g x0 H Q => wp env Try.f125 none 0 lv_label_Check cu_label_Check Q 500 [.code bd_label_Check] (ofL g [(0, x0)]) H := by kernel_rfl
theorem vc_label_Check (x0 : AV) (H : Heap) (Q : AV → Heap → Prop) (h : ∀ g, VC_label_Check g x0 H Q) : GoL env Try.f125 0 [.code bd_label_Check] [(0, x0)] H Q := ⟨fun g => wp_ok (by have h := h g; rw [vq_label_Check] at h; exact h)⟩

/- slices_IndexFunc___int32_rune_ -/
noncomputable def bd_slices_IndexFunc___int32_rune_ : Code := (Try.f139.body).getD .skip
noncomputable def hd_slices_IndexFunc___int32_rune__2 : List Item := (findLoop 2 400 [.code bd_slices_IndexFunc___int32_rune_]).getD []
def lv_slices_IndexFunc___int32_rune_ : Nat → Option (List Nat) := fun i => cond (Nat.beq i 2) (some [8, 0, 1, 7]) (none)
def cu_slices_IndexFunc___int32_rune_ : Nat → Bool := fun i => false
def VC_slices_IndexFunc___int32_rune_ (g : Nat → AV) (x0 x1 : AV) (H : Heap) (Q : AV → Heap → Prop) : Prop :=
  doQ (qBuiltin env.P false (Heap.get H) (⟨0, 7, Heap.gen H 0 7, 0⟩ : Ref) .len #[31] [x0]) fun v1 =>
  GoL env Try.f139 0 hd_slices_IndexFunc___int32_rune__2 [(8, (.v (.int .i64 0))), (0, x0), (1, x1), (7, v1)] H Q
theorem vq_slices_IndexFunc___int32_rune_ : VC_slices_IndexFunc___int32_rune_ = fun g x0 x1 H Q => wp env Try.f139 none 0 lv_slices_IndexFunc___int32_rune_ cu_slices_IndexFunc___int32_rune_ Q 500 [.code bd_slices_IndexFunc___int32_rune_] (ofL g [(0, x0), (1, x1)]) H := by kernel_rfl
theorem vc_slices_IndexFunc___int32_rune_ (x0 x1 : AV) (H : Heap) (Q : AV → Heap → Prop) (h : ∀ g, VC_slices_IndexFunc___int32_rune_ g x0 x1 H Q) : GoL env Try.f139 0 [.code bd_slices_IndexFunc___int32_rune_] [(0, x0), (1, x1)] H Q := ⟨fun g => wp_ok (by have h := h g; rw [vq_slices_IndexFunc___int32_rune_] at h; exact h)⟩
def VC_slices_IndexFunc___int32_rune__2 (g : Nat → AV) (x8 x0 x1 x7 : AV) (H : Heap) (Q : AV → Heap → Prop) : Prop :=
  doQ (qBin env.P .lss 3 (.tmp 8) (.tmp 7) (some x8) (some x7)) fun v1 =>
  br (some v1) (
   doQ (qIndexAddr env.P (Heap.get H) 31 (some x0) (some x8)) fun v2 =>
   doQ (qLoad env.P (Heap.get H) 21 (some v2)) fun v3 =>
   doW (callRes env true (limf env) (limt env 0) H (⟨0, 16, Heap.gen H 0 16, 0⟩ : Ref) (some x1) [v3]) fun v4 H1 =>
   br (some v4) (
    Q x8 H1) (
    doQ (qBin env.P .add 3 (.tmp 8) (.const (.int .i64 1)) (some x8) (some (.v (.int .i64 1)))) fun v5 =>
    GoL env Try.f139 0 hd_slices_IndexFunc___int32_rune__2 [(8, v5), (0, x0), (1, x1), (7, x7)] H1 Q)) (
   Q (.v (.int .i64 (-1))) H)
theorem vq_slices_IndexFunc___int32_rune__2 : VC_slices_IndexFunc___int32_rune__2 = fun g x8 x0 x1 x7 H Q => wp env Try.f139 none 0 lv_slices_IndexFunc___int32_rune_ cu_slices_IndexFunc___int32_rune_ Q 500 (bodyOf hd_slices_IndexFunc___int32_rune__2) (ofL g [(8, x8), (0, x0), (1, x1), (7, x7)]) H := by kernel_rfl
theorem vc_slices_IndexFunc___int32_rune__2 (x8 x0 x1 x7 : AV) (H : Heap) (Q : AV → Heap → Prop) (h : ∀ g, VC_slices_IndexFunc___int32_rune__2 g x8 x0 x1 x7 H Q) : GoL env Try.f139 0 hd_slices_IndexFunc___int32_rune__2 [(8, x8), (0, x0), (1, x1), (7, x7)] H Q := goL_body fun g => wp_ok (by have h := h g; rw [vq_slices_IndexFunc___int32_rune__2] at h; exact h)

/- blindstampref16_Same -/
noncomputable def bd_blindstampref16_Same : Code := (Try.f30.body).getD .skip
def lv_blindstampref16_Same : Nat → Option (List Nat) := fun i => none
def cu_blindstampref16_Same : Nat → Bool := fun i => false
def VC_blindstampref16_Same (g : Nat → AV) (x0 x1 : AV) (H : Heap) (Q : AV → Heap → Prop) : Prop :=
  doW (nRes H (⟨0, 2, Heap.gen H 0 2, 0⟩ : Ref) (qBox env.P (⟨0, 2, Heap.gen H 0 2, 0⟩ : Ref) 33 (some x0))) fun v1 H1 =>
  doW (nRes H1 (⟨0, 3, Heap.gen H1 0 3, 0⟩ : Ref) (qBox env.P (⟨0, 3, Heap.gen H1 0 3, 0⟩ : Ref) 33 (some x1))) fun v2 H2 =>
  doQ (qFieldAddr env.P 33 (some v1) 0) fun v3 =>
  doQ (qLoad env.P (Heap.get H2) 30 (some v3)) fun v4 =>
  doQ (qFieldAddr env.P 33 (some v2) 0) fun v5 =>
  doQ (qLoad env.P (Heap.get H2) 30 (some v5)) fun v6 =>
  doQ (qBin env.P .eql 30 (.tmp 6) (.tmp 8) (some v4) (some v6)) fun v7 =>
  gQ v7 true (qFieldAddr env.P 33 (some v1) 1) fun v8 =>
  gQ v7 true (qLoad env.P (Heap.get H2) 28 (some v8)) fun v9 =>
  gQ v7 true (qFieldAddr env.P 33 (some v2) 1) fun v10 =>
  gQ v7 true (qLoad env.P (Heap.get H2) 28 (some v10)) fun v11 =>
  gQ v7 true (qBin env.P .eql 28 (.tmp 12) (.tmp 14) (some v9) (some v11)) fun v12 =>
  doQ (pickF (some v7) (some v12) (some (.v (.bool false)))) fun v13 =>
  gQ v13 true (qFieldAddr env.P 33 (some v1) 2) fun v14 =>
  gQ v13 true (qLoad env.P (Heap.get H2) 31 (some v14)) fun v15 =>
  gQ v13 true (qFieldAddr env.P 33 (some v2) 2) fun v16 =>
  gQ v13 true (qLoad env.P (Heap.get H2) 31 (some v16)) fun v17 =>
  gW v13 true H2 (callRes env true (limf env) (limt env 0) H2 (⟨0, 22, Heap.gen H2 0 22, 0⟩ : Ref) (some (.fn (.func 87) [] [])) [v15, v17]) fun v18 H3 =>
  doQ (pickF (some v13) (some v18) (some (.v (.bool false)))) fun v19 =>
  Q v19 H3
theorem vq_blindstampref16_Same : VC_blindstampref16_Same = fun g x0 x1 H Q => wp env Try.f30 none 0 lv_blindstampref16_Same cu_blindstampref16_Same Q 500 [.code bd_blindstampref16_Same] (ofL g [(0, x0), (1, x1)]) H := by kernel_rfl
theorem vc_blindstampref16_Same (x0 x1 : AV) (H : Heap) (Q : AV → Heap → Prop) (h : ∀ g, VC_blindstampref16_Same g x0 x1 H Q) : GoL env Try.f30 0 [.code bd_blindstampref16_Same] [(0, x0), (1, x1)] H Q := ⟨fun g => wp_ok (by have h := h g; rw [vq_blindstampref16_Same] at h; exact h)⟩

end Go.Proofs.Ytjampffmlnplcaa
