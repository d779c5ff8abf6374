/-
  What is to be shown of each function, computed from its code. No statement of a seat is proved here.
-/
import Derived.Test.YtehkjjcdkbcebaaRbTy
set_option linter.unusedVariables false
set_option maxRecDepth 1000000
namespace Go.Proofs.Ytehkjjcdkbcebaa
open Go.Ab
noncomputable def bd_record_Same : Code := (Try.f43.body).getD .skip
def lv_record_Same : Nat → Option (List Nat) := fun i => none
def cu_record_Same : Nat → Bool := fun i => false
def VC_record_Same (g : Nat → AV) (x0 x1 : AV) (H : Heap) (Q : AV → Heap → Prop) : Prop :=
 doW (nRes H (⟨0, 2, Heap.gen H 0 2, 0⟩ : Ref) (qBox env.P (⟨0, 2, Heap.gen H 0 2, 0⟩ : Ref) 75 (some x0))) fun v1 H1 =>
 doW (nRes H1 (⟨0, 3, Heap.gen H1 0 3, 0⟩ : Ref) (qBox env.P (⟨0, 3, Heap.gen H1 0 3, 0⟩ : Ref) 75 (some x1))) fun v2 H2 =>
 doQ (qFieldAddr env.P 75 (some v1) 0) fun v3 =>
 doQ (qLoad env.P (Heap.get H2) 5 (some v3)) fun v4 =>
 doQ (qFieldAddr env.P 75 (some v2) 0) fun v5 =>
 doQ (qLoad env.P (Heap.get H2) 5 (some v5)) fun v6 =>
 doQ (qBin env.P .eql 5 (.tmp 6) (.tmp 8) (some v4) (some v6)) fun v7 =>
 gQ v7 true (qFieldAddr env.P 75 (some v1) 1) fun v8 =>
 gQ v7 true (qLoad env.P (Heap.get H2) 3 (some v8)) fun v9 =>
 gQ v7 true (qFieldAddr env.P 75 (some v2) 1) fun v10 =>
 gQ v7 true (qLoad env.P (Heap.get H2) 3 (some v10)) fun v11 =>
 gQ v7 true (qBin env.P .eql 3 (.tmp 12) (.tmp 14) (some v9) (some v11)) fun v12 =>
 doQ (pickF (some v7) (some v12) (some (.v (.bool false)))) fun v13 =>
 gQ v13 true (qFieldAddr env.P 75 (some v1) 2) fun v14 =>
 gQ v13 true (qLoad env.P (Heap.get H2) 33 (some v14)) fun v15 =>
 gQ v13 true (qFieldAddr env.P 75 (some v2) 2) fun v16 =>
 gQ v13 true (qLoad env.P (Heap.get H2) 33 (some v16)) fun v17 =>
 gW v13 true H2 (callRes env true (limf env) (limt env 0) H2 (⟨0, 22, Heap.gen H2 0 22, 0⟩ : Ref) (some (.fn (.func 30) [] [])) [v15, v17]) fun v18 H3 =>
 doQ (pickF (some v13) (some v18) (some (.v (.bool false)))) fun v19 =>
 gQ v19 true (qFieldAddr env.P 75 (some v1) 3) fun v20 =>
 gQ v19 true (qLoad env.P (Heap.get H3) 36 (some v20)) fun v21 =>
 gQ v19 true (qFieldAddr env.P 75 (some v2) 3) fun v22 =>
 gQ v19 true (qLoad env.P (Heap.get H3) 36 (some v22)) fun v23 =>
 gQ v19 true (qBin env.P .eql 36 (.tmp 26) (.tmp 28) (some v21) (some v23)) fun v24 =>
 doQ (pickF (some v19) (some v24) (some (.v (.bool false)))) fun v25 =>
 gQ v25 true (qFieldAddr env.P 75 (some v1) 4) fun v26 =>
 gQ v25 true (qLoad env.P (Heap.get H3) 73 (some v26)) fun v27 =>
 gQ v25 true (qFieldAddr env.P 75 (some v2) 4) fun v28 =>
 gQ v25 true (qLoad env.P (Heap.get H3) 73 (some v28)) fun v29 =>
 gQ v25 true (qBin env.P .eql 73 (.tmp 33) (.tmp 35) (some v27) (some v29)) fun v30 =>
 doQ (pickF (some v25) (some v30) (some (.v (.bool false)))) fun v31 =>
 Q v31 H3
theorem vq_record_Same : VC_record_Same = fun g x0 x1 H Q => wp env Try.f43 none 0 lv_record_Same cu_record_Same Q 500 [.code bd_record_Same] (ofL g [(0, x0), (1, x1)]) H := by kernel_rfl
theorem vc_record_Same (x0 x1 : AV) (H : Heap) (Q : AV → Heap → Prop) (h : ∀ g, VC_record_Same g x0 x1 H Q) : GoL env Try.f43 0 [.code bd_record_Same] [(0, x0), (1, x1)] H Q := ⟨fun g => wp_ok (by have h := h g; rw [vq_record_Same] at h; exact h)⟩
noncomputable def bd_record_Count : Code := (Try.f46.body).getD .skip
def lv_record_Count : Nat → Option (List Nat) := fun i => none
def cu_record_Count : Nat → Bool := fun i => false
def VC_record_Count (g : Nat → AV) (x0 : AV) (H : Heap) (Q : AV → Heap → Prop) : Prop :=
 doW (nRes H (⟨0, 1, Heap.gen H 0 1, 0⟩ : Ref) (qBox env.P (⟨0, 1, Heap.gen H 0 1, 0⟩ : Ref) 75 (some x0))) fun v1 H1 =>
 doQ (qLoad env.P (Heap.get H1) 75 (some v1)) fun v2 =>
 doQ (qBuild env.P 136 (some [(0, v2)])) fun v3 =>
 doW (callRes env true (limf env) (limt env 0) H1 (⟨0, 9, Heap.gen H1 0 9, 0⟩ : Ref) (some (.fn (.func 74) [] [])) [v3]) fun v4 H2 =>
 doQ (qExtract (some v4) 0) fun v5 =>
 doQ (qExtract (some v4) 1) fun v6 =>
 doQ (qUn env.P .not (some v6)) fun v7 =>
 br (some v7) (
 Q (.tup [(.v (.int .i64 0)), (.v (.int .i64 8))]) H2) (
 doQ (qBuiltin env.P false (Heap.get H2) (⟨0, 15, Heap.gen H2 0 15, 0⟩ : Ref) .len #[34] [v5]) fun v8 =>
 doQ (qBin env.P .add 3 (.tmp 15) (.const (.int .i64 119)) (some v8) (some (.v (.int .i64 119)))) fun v9 =>
 doQ (qBin env.P .sub 3 (.tmp 16) (.const (.int .i64 1)) (some v9) (some (.v (.int .i64 1)))) fun v10 =>
 doQ (qBin env.P .quo 3 (.tmp 17) (.const (.int .i64 119)) (some v10) (some (.v (.int .i64 119)))) fun v11 =>
 Q (.tup [v11, (.v (.int .i64 0))]) H2)
theorem vq_record_Count : VC_record_Count = fun g x0 H Q => wp env Try.f46 none 0 lv_record_Count cu_record_Count Q 500 [.code bd_record_Count] (ofL g [(0, x0)]) H := by kernel_rfl
theorem vc_record_Count (x0 : AV) (H : Heap) (Q : AV → Heap → Prop) (h : ∀ g, VC_record_Count g x0 H Q) : GoL env Try.f46 0 [.code bd_record_Count] [(0, x0)] H Q := ⟨fun g => wp_ok (by have h := h g; rw [vq_record_Count] at h; exact h)⟩
noncomputable def bd__blindstamp_record_told__bytes : Code := (Try.f74.body).getD .skip
def lv__blindstamp_record_told__bytes : Nat → Option (List Nat) := fun i => none
def cu__blindstamp_record_told__bytes : Nat → Bool := fun i => false
def VC__blindstamp_record_told__bytes (g : Nat → AV) (x0 : AV) (H : Heap) (Q : AV → Heap → Prop) : Prop :=
 doW (nRes H (⟨0, 1, Heap.gen H 0 1, 0⟩ : Ref) (qBox env.P (⟨0, 1, Heap.gen H 0 1, 0⟩ : Ref) 136 (some x0))) fun v1 H1 =>
 doQ (qFieldAddr env.P 136 (some v1) 0) fun v2 =>
 doQ (qFieldAddr env.P 75 (some v2) 0) fun v3 =>
 doQ (qLoad env.P (Heap.get H1) 5 (some v3)) fun v4 =>
 doQ (qBuild env.P 75 (some [(0, v4)])) fun v5 =>
 doW (nRes H1 (⟨0, 4, Heap.gen H1 0 4, 0⟩ : Ref) (qAlloc env.P (⟨0, 4, Heap.gen H1 0 4, 0⟩ : Ref) 75)) fun v6 H2 =>
 doW (wStore env.P H2 75 (some v6) (some v5)) fun v7 H3 =>
 doQ (qFieldAddr env.P 136 (some v1) 0) fun v8 =>
 doQ (qFieldAddr env.P 75 (some v8) 0) fun v9 =>
 doQ (qLoad env.P (Heap.get H3) 5 (some v9)) fun v10 =>
 doQ (qBin env.P .eql 5 (.tmp 12) (.const (.int .u8 1)) (some v10) (some (a8 1))) fun v11 =>
 br (some v11) (
 doQ (qFieldAddr env.P 136 (some v1) 0) fun v12 =>
 doQ (qFieldAddr env.P 75 (some v12) 2) fun v13 =>
 doQ (qFieldAddr env.P 33 (some v13) 1) fun v14 =>
 doQ (qLoad env.P (Heap.get H3) 26 (some v14)) fun v15 =>
 doQ (qFieldAddr env.P 136 (some v1) 0) fun v16 =>
 doQ (qFieldAddr env.P 75 (some v16) 1) fun v17 =>
 doQ (qLoad env.P (Heap.get H3) 3 (some v17)) fun v18 =>
 doQ (qFieldAddr env.P 75 (some v6) 2) fun v19 =>
 doQ (qFieldAddr env.P 33 (some v19) 1) fun v20 =>
 doW (wStore env.P H3 26 (some v20) (some v15)) fun v21 H4 =>
 doQ (qFieldAddr env.P 75 (some v6) 1) fun v22 =>
 doW (wStore env.P H4 3 (some v22) (some v18)) fun v23 H5 =>
   apartV [(v17, v20)] [v20, v22] [] H5 ∧
 (doQ (qFieldAddr env.P 136 (some v1) 0) fun v24 =>
 doQ (qFieldAddr env.P 75 (some v24) 2) fun v25 =>
 doQ (qFieldAddr env.P 33 (some v25) 1) fun v26 =>
 doQ (qLoad env.P (Heap.get H5) 26 (some v26)) fun v27 =>
 doW (callRes env true (limf env) (limt env 0) H5 (⟨0, 30, Heap.gen H5 0 30, 0⟩ : Ref) (some (.fn (.func 51) [] [])) [v27]) fun v28 H6 =>
 doQ (qExtract (some v28) 0) fun v29 =>
 doQ (qExtract (some v28) 1) fun v30 =>
 doQ (qFieldAddr env.P 136 (some v1) 0) fun v31 =>
 doQ (qFieldAddr env.P 75 (some v31) 1) fun v32 =>
 doQ (qLoad env.P (Heap.get H6) 3 (some v32)) fun v33 =>
 doQ (qBin env.P .geq 3 (.tmp 35) (.const (.int .i64 0)) (some v33) (some (.v (.int .i64 0)))) fun v34 =>
 gQ v34 true (qFieldAddr env.P 136 (some v1) 0) fun v35 =>
 gQ v34 true (qFieldAddr env.P 75 (some v35) 1) fun v36 =>
 gQ v34 true (qLoad env.P (Heap.get H6) 3 (some v36)) fun v37 =>
 gQ v34 true (qBin env.P .leq 3 (.tmp 40) (.const (.int .i64 255)) (some v37) (some (.v (.int .i64 255)))) fun v38 =>
 doQ (pickF (some v34) (some v38) (some (.v (.bool false)))) fun v39 =>
 doQ (qFieldAddr env.P 136 (some v1) 0) fun v40 =>
 doQ (qFieldAddr env.P 75 (some v40) 1) fun v41 =>
 doQ (qLoad env.P (Heap.get H6) 3 (some v41)) fun v42 =>
 doQ (qConvert env.P (Heap.get H6) (⟨0, 47, Heap.gen H6 0 47, 0⟩ : Ref) 3 5 (some v42)) fun v43 =>
 doW (bsRes env.P false true H6 (⟨0, 48, Heap.gen H6 0 48, 0⟩ : Ref) 34 1 (some [(0, v43)])) fun v44 H7 =>
 doW (appRes env.P true H7 (⟨0, 49, Heap.gen H7 0 49, 0⟩ : Ref) (some 34) (some 34) v29 v44) fun v45 H8 =>
 doQ (qFieldAddr env.P 136 (some v1) 0) fun v46 =>
 doQ (qFieldAddr env.P 75 (some v46) 0) fun v47 =>
 doQ (qLoad env.P (Heap.get H8) 5 (some v47)) fun v48 =>
 doW (bsRes env.P false true H8 (⟨0, 111, Heap.gen H8 0 111, 0⟩ : Ref) 34 1 (some [(0, v48)])) fun v49 H9 =>
 doW (appRes env.P true H9 (⟨0, 113, Heap.gen H9 0 113, 0⟩ : Ref) (some 34) (some 34) v49 v45) fun v50 H10 =>
 gQ v39 true (qVal (some v30)) fun v51 =>
 gQ v39 true (qBin env.P .eql 36 (.tmp 116) (.const (.int .i64 0)) (some v51) (some (.v (.int .i64 0)))) fun v52 =>
 doQ (pickF (some v39) (some v52) (some (.v (.bool false)))) fun v53 =>
 gQ v53 true (qFieldAddr env.P 136 (some v1) 0) fun v54 =>
 gQ v53 true (qLoad env.P (Heap.get H10) 75 (some v54)) fun v55 =>
 gQ v53 true (qLoad env.P (Heap.get H10) 75 (some v6)) fun v56 =>
 gW v53 true H10 (callRes env true (limf env) (limt env 0) H10 (⟨0, 123, Heap.gen H10 0 123, 0⟩ : Ref) (some (.fn (.func 43) [] [])) [v55, v56]) fun v57 H11 =>
 doQ (pickF (some v53) (some v57) (some (.v (.bool false)))) fun v58 =>
 Q (.tup [v50, v58]) H11)) (
 doQ (qBin env.P .eql 5 (.tmp 12) (.const (.int .u8 2)) (some v10) (some (a8 2))) fun v12 =>
 br (some v12) (
 doQ (qFieldAddr env.P 136 (some v1) 0) fun v13 =>
 doQ (qFieldAddr env.P 75 (some v13) 2) fun v14 =>
 doQ (qLoad env.P (Heap.get H3) 33 (some v14)) fun v15 =>
 doQ (qFieldAddr env.P 136 (some v1) 0) fun v16 =>
 doQ (qFieldAddr env.P 75 (some v16) 3) fun v17 =>
 doQ (qLoad env.P (Heap.get H3) 36 (some v17)) fun v18 =>
 doQ (qFieldAddr env.P 75 (some v6) 2) fun v19 =>
 doW (wStore env.P H3 33 (some v19) (some v15)) fun v20 H4 =>
 doQ (qFieldAddr env.P 75 (some v6) 3) fun v21 =>
 doW (wStore env.P H4 36 (some v21) (some v18)) fun v22 H5 =>
    apartV [(v17, v19)] [v19, v21] [] H5 ∧
 (doQ (qFieldAddr env.P 136 (some v1) 0) fun v23 =>
 doQ (qFieldAddr env.P 75 (some v23) 2) fun v24 =>
 doQ (qLoad env.P (Heap.get H5) 33 (some v24)) fun v25 =>
 doW (callRes env true (limf env) (limt env 0) H5 (⟨0, 64, Heap.gen H5 0 64, 0⟩ : Ref) (some (.fn (.func 14) [] [])) [v25]) fun v26 H6 =>
 doQ (qExtract (some v26) 0) fun v27 =>
 doQ (qExtract (some v26) 1) fun v28 =>
 doQ (qFieldAddr env.P 136 (some v1) 0) fun v29 =>
 doQ (qFieldAddr env.P 75 (some v29) 2) fun v30 =>
 doQ (qLoad env.P (Heap.get H6) 33 (some v30)) fun v31 =>
 doW (callRes env true (limf env) (limt env 0) H6 (⟨0, 70, Heap.gen H6 0 70, 0⟩ : Ref) (some (.fn (.func 22) [] [])) [v31]) fun v32 H7 =>
 gQ v32 true (qFieldAddr env.P 136 (some v1) 0) fun v33 =>
 gQ v32 true (qFieldAddr env.P 75 (some v33) 3) fun v34 =>
 gQ v32 true (qLoad env.P (Heap.get H7) 36 (some v34)) fun v35 =>
 gQ v32 true (qBin env.P .geq 36 (.tmp 74) (.const (.int .i64 0)) (some v35) (some (.v (.int .i64 0)))) fun v36 =>
 doQ (pickF (some v32) (some v36) (some (.v (.bool false)))) fun v37 =>
 gQ v37 true (qFieldAddr env.P 136 (some v1) 0) fun v38 =>
 gQ v37 true (qFieldAddr env.P 75 (some v38) 3) fun v39 =>
 gQ v37 true (qLoad env.P (Heap.get H7) 36 (some v39)) fun v40 =>
 gQ v37 true (qBin env.P .lss 36 (.tmp 80) (.const (.int .i64 65536)) (some v40) (some (.v (.int .i64 65536)))) fun v41 =>
 doQ (pickF (some v37) (some v41) (some (.v (.bool false)))) fun v42 =>
 doQ (qFieldAddr env.P 136 (some v1) 0) fun v43 =>
 doQ (qFieldAddr env.P 75 (some v43) 3) fun v44 =>
 doQ (qLoad env.P (Heap.get H7) 36 (some v44)) fun v45 =>
 doQ (qBin env.P .shr 36 (.tmp 85) (.const (.int .u64 8)) (some v45) (some (.v (.int .u64 8)))) fun v46 =>
 doQ (qConvert env.P (Heap.get H7) (⟨0, 87, Heap.gen H7 0 87, 0⟩ : Ref) 36 5 (some v46)) fun v47 =>
 doQ (qFieldAddr env.P 136 (some v1) 0) fun v48 =>
 doQ (qFieldAddr env.P 75 (some v48) 3) fun v49 =>
 doQ (qLoad env.P (Heap.get H7) 36 (some v49)) fun v50 =>
 doQ (qConvert env.P (Heap.get H7) (⟨0, 91, Heap.gen H7 0 91, 0⟩ : Ref) 36 5 (some v50)) fun v51 =>
 doW (bsRes env.P false true H7 (⟨0, 92, Heap.gen H7 0 92, 0⟩ : Ref) 34 2 (some [(0, v47), (1, v51)])) fun v52 H8 =>
 doW (appRes env.P true H8 (⟨0, 94, Heap.gen H8 0 94, 0⟩ : Ref) (some 34) (some 34) v52 v27) fun v53 H9 =>
 doQ (qFieldAddr env.P 136 (some v1) 0) fun v54 =>
 doQ (qFieldAddr env.P 75 (some v54) 0) fun v55 =>
 doQ (qLoad env.P (Heap.get H9) 5 (some v55)) fun v56 =>
 doW (bsRes env.P false true H9 (⟨0, 111, Heap.gen H9 0 111, 0⟩ : Ref) 34 1 (some [(0, v56)])) fun v57 H10 =>
 doW (appRes env.P true H10 (⟨0, 113, Heap.gen H10 0 113, 0⟩ : Ref) (some 34) (some 34) v57 v53) fun v58 H11 =>
 gQ v42 true (qVal (some v28)) fun v59 =>
 gQ v42 true (qBin env.P .eql 36 (.tmp 116) (.const (.int .i64 0)) (some v59) (some (.v (.int .i64 0)))) fun v60 =>
 doQ (pickF (some v42) (some v60) (some (.v (.bool false)))) fun v61 =>
 gQ v61 true (qFieldAddr env.P 136 (some v1) 0) fun v62 =>
 gQ v61 true (qLoad env.P (Heap.get H11) 75 (some v62)) fun v63 =>
 gQ v61 true (qLoad env.P (Heap.get H11) 75 (some v6)) fun v64 =>
 gW v61 true H11 (callRes env true (limf env) (limt env 0) H11 (⟨0, 123, Heap.gen H11 0 123, 0⟩ : Ref) (some (.fn (.func 43) [] [])) [v63, v64]) fun v65 H12 =>
 doQ (pickF (some v61) (some v65) (some (.v (.bool false)))) fun v66 =>
 Q (.tup [v58, v66]) H12)) (
 doQ (qBin env.P .eql 5 (.tmp 12) (.const (.int .u8 3)) (some v10) (some (a8 3))) fun v13 =>
 br (some v13) (
 doQ (qFieldAddr env.P 136 (some v1) 0) fun v14 =>
 doQ (qFieldAddr env.P 75 (some v14) 4) fun v15 =>
 doQ (qLoad env.P (Heap.get H3) 73 (some v15)) fun v16 =>
 doQ (qFieldAddr env.P 75 (some v6) 4) fun v17 =>
 doW (wStore env.P H3 73 (some v17) (some v16)) fun v18 H4 =>
 doQ (qFieldAddr env.P 136 (some v1) 0) fun v19 =>
 doQ (qFieldAddr env.P 75 (some v19) 4) fun v20 =>
 doQ (qLoad env.P (Heap.get H4) 73 (some v20)) fun v21 =>
 doW (callRes env true (limf env) (limt env 0) H4 (⟨0, 105, Heap.gen H4 0 105, 0⟩ : Ref) (some (.fn (.func 127) [] [])) [v21]) fun v22 H5 =>
 doQ (qExtract (some v22) 0) fun v23 =>
 doQ (qExtract (some v22) 1) fun v24 =>
 doQ (qFieldAddr env.P 136 (some v1) 0) fun v25 =>
 doQ (qFieldAddr env.P 75 (some v25) 0) fun v26 =>
 doQ (qLoad env.P (Heap.get H5) 5 (some v26)) fun v27 =>
 doW (bsRes env.P false true H5 (⟨0, 111, Heap.gen H5 0 111, 0⟩ : Ref) 34 1 (some [(0, v27)])) fun v28 H6 =>
 doW (appRes env.P true H6 (⟨0, 113, Heap.gen H6 0 113, 0⟩ : Ref) (some 34) (some 34) v28 v23) fun v29 H7 =>
 gQ (.v (.bool true)) true (qVal (some v24)) fun v30 =>
 gQ (.v (.bool true)) true (qBin env.P .eql 36 (.tmp 116) (.const (.int .i64 0)) (some v30) (some (.v (.int .i64 0)))) fun v31 =>
 doQ (pickF (some (.v (.bool true))) (some v31) (some (.v (.bool false)))) fun v32 =>
 gQ v32 true (qFieldAddr env.P 136 (some v1) 0) fun v33 =>
 gQ v32 true (qLoad env.P (Heap.get H7) 75 (some v33)) fun v34 =>
 gQ v32 true (qLoad env.P (Heap.get H7) 75 (some v6)) fun v35 =>
 gW v32 true H7 (callRes env true (limf env) (limt env 0) H7 (⟨0, 123, Heap.gen H7 0 123, 0⟩ : Ref) (some (.fn (.func 43) [] [])) [v34, v35]) fun v36 H8 =>
 doQ (pickF (some v32) (some v36) (some (.v (.bool false)))) fun v37 =>
 Q (.tup [v29, v37]) H8) (
 doQ (qFieldAddr env.P 136 (some v1) 0) fun v14 =>
 doQ (qFieldAddr env.P 75 (some v14) 0) fun v15 =>
 doQ (qLoad env.P (Heap.get H3) 5 (some v15)) fun v16 =>
 doW (bsRes env.P false true H3 (⟨0, 111, Heap.gen H3 0 111, 0⟩ : Ref) 34 1 (some [(0, v16)])) fun v17 H4 =>
 doW (appRes env.P true H4 (⟨0, 113, Heap.gen H4 0 113, 0⟩ : Ref) (some 34) (some 34) v17 (.v (.slice none 0 0))) fun v18 H5 =>
 gQ (.v (.bool false)) true (qVal (some (.v (.int .i64 0)))) fun v19 =>
 gQ (.v (.bool false)) true (qBin env.P .eql 36 (.tmp 116) (.const (.int .i64 0)) (some v19) (some (.v (.int .i64 0)))) fun v20 =>
 doQ (pickF (some (.v (.bool false))) (some v20) (some (.v (.bool false)))) fun v21 =>
 gQ v21 true (qFieldAddr env.P 136 (some v1) 0) fun v22 =>
 gQ v21 true (qLoad env.P (Heap.get H5) 75 (some v22)) fun v23 =>
 gQ v21 true (qLoad env.P (Heap.get H5) 75 (some v6)) fun v24 =>
 gW v21 true H5 (callRes env true (limf env) (limt env 0) H5 (⟨0, 123, Heap.gen H5 0 123, 0⟩ : Ref) (some (.fn (.func 43) [] [])) [v23, v24]) fun v25 H6 =>
 doQ (pickF (some v21) (some v25) (some (.v (.bool false)))) fun v26 =>
 Q (.tup [v18, v26]) H6)))
theorem vq__blindstamp_record_told__bytes : VC__blindstamp_record_told__bytes = fun g x0 H Q => wp env Try.f74 none 0 lv__blindstamp_record_told__bytes cu__blindstamp_record_told__bytes Q 500 [.code bd__blindstamp_record_told__bytes] (ofL g [(0, x0)]) H := by kernel_rfl
theorem vc__blindstamp_record_told__bytes (x0 : AV) (H : Heap) (Q : AV → Heap → Prop) (h : ∀ g, VC__blindstamp_record_told__bytes g x0 H Q) : GoL env Try.f74 0 [.code bd__blindstamp_record_told__bytes] [(0, x0)] H Q := ⟨fun g => wp_ok (by have h := h g; rw [vq__blindstamp_record_told__bytes] at h; exact h)⟩
noncomputable def bd_grant_Put : Code := (Try.f127.body).getD .skip
def lv_grant_Put : Nat → Option (List Nat) := fun i => none
def cu_grant_Put : Nat → Bool := fun i => false
def VC_grant_Put (g : Nat → AV) (x0 : AV) (H : Heap) (Q : AV → Heap → Prop) : Prop :=
 doW (nRes H (⟨0, 1, Heap.gen H 0 1, 0⟩ : Ref) (qBox env.P (⟨0, 1, Heap.gen H 0 1, 0⟩ : Ref) 73 (some x0))) fun v1 H1 =>
 doQ (qLoad env.P (Heap.get H1) 73 (some v1)) fun v2 =>
 doW (callRes env true (limf env) (limt env 0) H1 (⟨0, 9, Heap.gen H1 0 9, 0⟩ : Ref) (some (.fn (.func 135) [] [])) [v2]) fun v3 H2 =>
 doQ (qBin env.P .neq 36 (.tmp 10) (.const (.int .i64 0)) (some v3) (some (.v (.int .i64 0)))) fun v4 =>
 br (some v4) (
 Q (.tup [(.v (.slice none 0 0)), v3]) H2) (
 doQ (qFieldAddr env.P 73 (some v1) 1) fun v5 =>
 doQ (qFieldAddr env.P 71 (some v5) 1) fun v6 =>
 doQ (qLoad env.P (Heap.get H2) 4 (some v6)) fun v7 =>
 br (some v7) (
 doQ (qFieldAddr env.P 73 (some v1) 1) fun v8 =>
 doQ (qFieldAddr env.P 71 (some v8) 0) fun v9 =>
 doQ (qLoad env.P (Heap.get H2) 24 (some v9)) fun v10 =>
 doQ (qBuild env.P 26 (some [(0, v10)])) fun v11 =>
 doW (callRes env true (limf env) (limt env 0) H2 (⟨0, 21, Heap.gen H2 0 21, 0⟩ : Ref) (some (.fn (.func 51) [] [])) [v11]) fun v12 H3 =>
 doQ (qExtract (some v12) 0) fun v13 =>
 doQ (qExtract (some v12) 1) fun v14 =>
 doQ (qFieldAddr env.P 73 (some v1) 0) fun v15 =>
 doQ (qLoad env.P (Heap.get H3) 3 (some v15)) fun v16 =>
 doQ (qConvert env.P (Heap.get H3) (⟨0, 26, Heap.gen H3 0 26, 0⟩ : Ref) 3 5 (some v16)) fun v17 =>
 doW (bsRes env.P true false H3 (⟨0, 28, Heap.gen H3 0 28, 0⟩ : Ref) 34 2 (some [(0, v17), (1, (a8 1))])) fun v18 H4 =>
 doQ (qBuiltin env.P false (Heap.get H4) (⟨0, 31, Heap.gen H4 0 31, 0⟩ : Ref) .len #[34] [v13]) fun v19 =>
 doQ (qBin env.P .sub 3 (.tmp 31) (.const (.int .i64 1)) (some v19) (some (.v (.int .i64 1)))) fun v20 =>
 doQ (qSlice env.P (Heap.get H4) 34 (some v13) (some none) (oi v20) (some none)) fun v21 =>
 doW (appRes env.P true H4 (⟨0, 34, Heap.gen H4 0 34, 0⟩ : Ref) (some 34) (some 34) v18 v21) fun v22 H5 =>
 Q (.tup [v22, v14]) H5) (
 doQ (qFieldAddr env.P 73 (some v1) 1) fun v8 =>
 doQ (qFieldAddr env.P 71 (some v8) 0) fun v9 =>
 doQ (qLoad env.P (Heap.get H2) 24 (some v9)) fun v10 =>
 doQ (qBuild env.P 26 (some [(0, v10)])) fun v11 =>
 doW (callRes env true (limf env) (limt env 0) H2 (⟨0, 21, Heap.gen H2 0 21, 0⟩ : Ref) (some (.fn (.func 51) [] [])) [v11]) fun v12 H3 =>
 doQ (qExtract (some v12) 0) fun v13 =>
 doQ (qExtract (some v12) 1) fun v14 =>
 doQ (qFieldAddr env.P 73 (some v1) 0) fun v15 =>
 doQ (qLoad env.P (Heap.get H3) 3 (some v15)) fun v16 =>
 doQ (qConvert env.P (Heap.get H3) (⟨0, 26, Heap.gen H3 0 26, 0⟩ : Ref) 3 5 (some v16)) fun v17 =>
 doW (bsRes env.P true false H3 (⟨0, 28, Heap.gen H3 0 28, 0⟩ : Ref) 34 2 (some [(0, v17), (1, (a8 0))])) fun v18 H4 =>
 doQ (qBuiltin env.P false (Heap.get H4) (⟨0, 31, Heap.gen H4 0 31, 0⟩ : Ref) .len #[34] [v13]) fun v19 =>
 doQ (qBin env.P .sub 3 (.tmp 31) (.const (.int .i64 1)) (some v19) (some (.v (.int .i64 1)))) fun v20 =>
 doQ (qSlice env.P (Heap.get H4) 34 (some v13) (some none) (oi v20) (some none)) fun v21 =>
 doW (appRes env.P true H4 (⟨0, 34, Heap.gen H4 0 34, 0⟩ : Ref) (some 34) (some 34) v18 v21) fun v22 H5 =>
 Q (.tup [v22, v14]) H5))
theorem vq_grant_Put : VC_grant_Put = fun g x0 H Q => wp env Try.f127 none 0 lv_grant_Put cu_grant_Put Q 500 [.code bd_grant_Put] (ofL g [(0, x0)]) H := by kernel_rfl
theorem vc_grant_Put (x0 : AV) (H : Heap) (Q : AV → Heap → Prop) (h : ∀ g, VC_grant_Put g x0 H Q) : GoL env Try.f127 0 [.code bd_grant_Put] [(0, x0)] H Q := ⟨fun g => wp_ok (by have h := h g; rw [vq_grant_Put] at h; exact h)⟩
noncomputable def bd_grant_Check : Code := (Try.f135.body).getD .skip
def lv_grant_Check : Nat → Option (List Nat) := fun i => none
def cu_grant_Check : Nat → Bool := fun i => false
def VC_grant_Check (g : Nat → AV) (x0 : AV) (H : Heap) (Q : AV → Heap → Prop) : Prop :=
 doW (nRes H (⟨0, 1, Heap.gen H 0 1, 0⟩ : Ref) (qBox env.P (⟨0, 1, Heap.gen H 0 1, 0⟩ : Ref) 73 (some x0))) fun v1 H1 =>
 doQ (qFieldAddr env.P 73 (some v1) 1) fun v2 =>
 doQ (qFieldAddr env.P 71 (some v2) 1) fun v3 =>
 doQ (qLoad env.P (Heap.get H1) 4 (some v3)) fun v4 =>
 gQ v4 false (qFieldAddr env.P 73 (some v1) 1) fun v5 =>
 gQ v4 false (qFieldAddr env.P 71 (some v5) 0) fun v6 =>
 gQ v4 false (qLoad env.P (Heap.get H1) 24 (some v6)) fun v7 =>
 gW v4 false H1 (callRes env false (limf env) (limt env 0) H1 (⟨0, 11, Heap.gen H1 0 11, 0⟩ : Ref) (some (.fn (.func 91) [] [])) []) fun v8 H2 =>
 gQ v4 false (qBin env.P .eql 24 (.tmp 10) (.tmp 11) (some v7) (some v8)) fun v9 =>
 doQ (pickF (some v4) (some (.v (.bool true))) (some v9)) fun v10 =>
 doQ (qFieldAddr env.P 73 (some v1) 0) fun v11 =>
 doQ (qLoad env.P (Heap.get H2) 3 (some v11)) fun v12 =>
 doQ (qBin env.P .lss 3 (.tmp 15) (.const (.int .i64 0)) (some v12) (some (.v (.int .i64 0)))) fun v13 =>
 gQ v13 false (qFieldAddr env.P 73 (some v1) 0) fun v14 =>
 gQ v13 false (qLoad env.P (Heap.get H2) 3 (some v14)) fun v15 =>
 gQ v13 false (qBin env.P .geq 3 (.tmp 19) (.const (.int .i64 8)) (some v15) (some (.v (.int .i64 8)))) fun v16 =>
 doQ (pickF (some v13) (some (.v (.bool true))) (some v16)) fun v17 =>
 gQ v17 false (qFieldAddr env.P 73 (some v1) 1) fun v18 =>
 gQ v17 false (qFieldAddr env.P 71 (some v18) 0) fun v19 =>
 gQ v17 false (qLoad env.P (Heap.get H2) 24 (some v19)) fun v20 =>
 gW v17 false H2 (callRes env true (limf env) (limt env 0) H2 (⟨0, 26, Heap.gen H2 0 26, 0⟩ : Ref) (some (.fn (.func 97) [] [])) [v20]) fun v21 H3 =>
 gQ v17 false (qBin env.P .neq 36 (.tmp 26) (.const (.int .i64 0)) (some v21) (some (.v (.int .i64 0)))) fun v22 =>
 doQ (pickF (some v17) (some (.v (.bool true))) (some v22)) fun v23 =>
 gQ v23 false (qVal (some v10)) fun v24 =>
 gQ v23 false (qUn env.P .not (some v24)) fun v25 =>
 doQ (pickF (some v23) (some (.v (.bool true))) (some v25)) fun v26 =>
 br (some v26) (
 Q (.v (.int .i64 8)) H3) (
 Q (.v (.int .i64 0)) H3)
theorem vq_grant_Check : VC_grant_Check = fun g x0 H Q => wp env Try.f135 none 0 lv_grant_Check cu_grant_Check Q 500 [.code bd_grant_Check] (ofL g [(0, x0)]) H := by kernel_rfl
theorem vc_grant_Check (x0 : AV) (H : Heap) (Q : AV → Heap → Prop) (h : ∀ g, VC_grant_Check g x0 H Q) : GoL env Try.f135 0 [.code bd_grant_Check] [(0, x0)] H Q := ⟨fun g => wp_ok (by have h := h g; rw [vq_grant_Check] at h; exact h)⟩
end Go.Proofs.Ytehkjjcdkbcebaa
