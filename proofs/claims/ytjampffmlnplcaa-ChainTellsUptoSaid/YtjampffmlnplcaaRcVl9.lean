/-
  What is to be shown of each function, computed from its code. No statement of a seat is proved here.
-/
import Derived.Test.YtjampffmlnplcaaRcTy
set_option linter.unusedVariables false
set_option maxRecDepth 1000000
namespace Go.Proofs.Ytjampffmlnplcaa
open Go.Ab

/- blindstamplaw18_ChainTells -/
noncomputable def bd_blindstamplaw18_ChainTells : Code := (Try.f9.body).getD .skip
def lv_blindstamplaw18_ChainTells : Nat → Option (List Nat) := fun i => none
def cu_blindstamplaw18_ChainTells : Nat → Bool := fun i => false
def VC_blindstamplaw18_ChainTells (g : Nat → AV) (x0 x1 x2 x3 : AV) (H : Heap) (Q : AV → Heap → Prop) : Prop :=
  doW (nRes H (⟨0, 5, Heap.gen H 0 5, 0⟩ : Ref) (qBox env.P (⟨0, 5, Heap.gen H 0 5, 0⟩ : Ref) 49 (some x1))) fun v1 H1 =>
  doW (nRes H1 (⟨0, 6, Heap.gen H1 0 6, 0⟩ : Ref) (qBox env.P (⟨0, 6, Heap.gen H1 0 6, 0⟩ : Ref) 28 (some x2))) fun v2 H2 =>
  doW (nRes H2 (⟨0, 7, Heap.gen H2 0 7, 0⟩ : Ref) (qBox env.P (⟨0, 7, Heap.gen H2 0 7, 0⟩ : Ref) 24 (some x3))) fun v3 H3 =>
  doW (callRes env true (limf env) (limt env 0) H3 (⟨0, 25, Heap.gen H3 0 25, 0⟩ : Ref) (some (.fn (.func 36) [] [])) [x0, (.v (.int .i64 40))]) fun v4 H4 =>
  gQ v4 true (qVal (some x0)) fun v5 =>
  gQ v4 true (qBuiltin env.P false (Heap.get H4) (⟨0, 28, Heap.gen H4 0 28, 0⟩ : Ref) .len #[63] [v5]) fun v6 =>
  gQ v4 true (qBin env.P .leq 3 (.tmp 28) (.const (.int .i64 2048)) (some v6) (some (.v (.int .i64 2048)))) fun v7 =>
  doQ (pickF (some v4) (some v7) (some (.v (.bool false)))) fun v8 =>
  gQ v8 false (qVal (some x0)) fun v9 =>
  gQ v8 false (qBuiltin env.P false (Heap.get H4) (⟨0, 33, Heap.gen H4 0 33, 0⟩ : Ref) .len #[63] [v9]) fun v10 =>
  gQ v8 false (qBin env.P .gtr 3 (.tmp 33) (.const (.int .i64 2060)) (some v10) (some (.v (.int .i64 2060)))) fun v11 =>
  doQ (pickF (some v8) (some (.v (.bool true))) (some v11)) fun v12 =>
  gQ v12 false (qFieldAddr env.P 49 (some v1) 6) fun v13 =>
  gQ v12 false (qLoad env.P (Heap.get H4) 31 (some v13)) fun v14 =>
  gQ v12 false (qBuiltin env.P false (Heap.get H4) (⟨0, 39, Heap.gen H4 0 39, 0⟩ : Ref) .len #[31] [v14]) fun v15 =>
  gQ v12 false (qBin env.P .gtr 3 (.tmp 39) (.const (.int .i64 300)) (some v15) (some (.v (.int .i64 300)))) fun v16 =>
  doQ (pickF (some v12) (some (.v (.bool true))) (some v16)) fun v17 =>
  br (some v17) (
   Q (.v (.bool true)) H4) (
   doW (callRes env true (limf env) (limt env 0) H4 (⟨0, 43, Heap.gen H4 0 43, 0⟩ : Ref) (some (.fn (.func 48) [] [])) [x0]) fun v18 H5 =>
   doQ (qLoad env.P (Heap.get H5) 49 (some v1)) fun v19 =>
   doW (callRes env true (limf env) (limt env 0) H5 (⟨0, 45, Heap.gen H5 0 45, 0⟩ : Ref) (some (.fn (.func 25) [] [])) [v19]) fun v20 H6 =>
   doW (nRes H6 (⟨0, 10, Heap.gen H6 0 10, 0⟩ : Ref) (qAlloc env.P (⟨0, 10, Heap.gen H6 0 10, 0⟩ : Ref) 49)) fun v21 H7 =>
   doW (wStore env.P H7 49 (some v21) (some v20)) fun v22 H8 =>
   doQ (qLoad env.P (Heap.get H8) 28 (some v2)) fun v23 =>
   doQ (qLoad env.P (Heap.get H8) 24 (some v3)) fun v24 =>
   doW (callRes env true (limf env) (limt env 0) H8 (⟨0, 50, Heap.gen H8 0 50, 0⟩ : Ref) (some (.fn (.func 41) [] [])) [v18, v23, v24]) fun v25 H9 =>
   doQ (qExtract (some v25) 0) fun v26 =>
   doQ (qExtract (some v25) 1) fun v27 =>
   doQ (qLoad env.P (Heap.get H9) 28 (some v2)) fun v28 =>
   doQ (qLoad env.P (Heap.get H9) 24 (some v3)) fun v29 =>
   doW (callRes env true (limf env) (limt env 0) H9 (⟨0, 57, Heap.gen H9 0 57, 0⟩ : Ref) (some (.fn (.func 49) [] [])) [x0, v28, v29]) fun v30 H10 =>
   doQ (qExtract (some v30) 0) fun v31 =>
   doQ (qExtract (some v30) 1) fun v32 =>
   doQ (qLoad env.P (Heap.get H10) 28 (some v2)) fun v33 =>
   doQ (qLoad env.P (Heap.get H10) 24 (some v3)) fun v34 =>
   doW (callRes env true (limf env) (limt env 0) H10 (⟨0, 64, Heap.gen H10 0 64, 0⟩ : Ref) (some (.fn (.func 37) [] [])) [v18, v33, v34]) fun v35 H11 =>
   doQ (qExtract (some v35) 0) fun v36 =>
   doQ (qExtract (some v35) 1) fun v37 =>
   doQ (qLoad env.P (Heap.get H11) 28 (some v2)) fun v38 =>
   doQ (qLoad env.P (Heap.get H11) 24 (some v3)) fun v39 =>
   doW (callRes env true (limf env) (limt env 0) H11 (⟨0, 71, Heap.gen H11 0 71, 0⟩ : Ref) (some (.fn (.func 50) [] [])) [x0, v38, v39]) fun v40 H12 =>
   doQ (qExtract (some v40) 0) fun v41 =>
   doQ (qExtract (some v40) 1) fun v42 =>
   doQ (qLoad env.P (Heap.get H12) 49 (some v21)) fun v43 =>
   doW (callRes env true (limf env) (limt env 0) H12 (⟨0, 77, Heap.gen H12 0 77, 0⟩ : Ref) (some (.fn (.func 44) [] [])) [v18, v43]) fun v44 H13 =>
   doQ (qExtract (some v44) 0) fun v45 =>
   doQ (qExtract (some v44) 1) fun v46 =>
   doQ (qLoad env.P (Heap.get H13) 49 (some v1)) fun v47 =>
   doW (callRes env true (limf env) (limt env 0) H13 (⟨0, 83, Heap.gen H13 0 83, 0⟩ : Ref) (some (.fn (.func 51) [] [])) [x0, v47]) fun v48 H14 =>
   doQ (qExtract (some v48) 0) fun v49 =>
   doQ (qExtract (some v48) 1) fun v50 =>
   doW (callRes env true (limf env) (limt env 0) H14 (⟨0, 88, Heap.gen H14 0 88, 0⟩ : Ref) (some (.fn (.func 46) [] [])) [v26, v31]) fun v51 H15 =>
   gQ v51 true (qVal (some v27)) fun v52 =>
   gQ v51 true (qVal (some v32)) fun v53 =>
   gQ v51 true (qBin env.P .eql 3 (.tmp 90) (.tmp 91) (some v52) (some v53)) fun v54 =>
   doQ (pickF (some v51) (some v54) (some (.v (.bool false)))) fun v55 =>
   gQ v55 true (qVal (some v36)) fun v56 =>
   gQ v55 true (qVal (some v41)) fun v57 =>
   gQ v55 true (qBin env.P .eql 4 (.tmp 95) (.tmp 96) (some v56) (some v57)) fun v58 =>
   doQ (pickF (some v55) (some v58) (some (.v (.bool false)))) fun v59 =>
   gQ v59 true (qVal (some v37)) fun v60 =>
   gQ v59 true (qVal (some v42)) fun v61 =>
   gQ v59 true (qBin env.P .eql 3 (.tmp 100) (.tmp 101) (some v60) (some v61)) fun v62 =>
   doQ (pickF (some v59) (some v62) (some (.v (.bool false)))) fun v63 =>
   gQ v63 true (qVal (some v45)) fun v64 =>
   gQ v63 true (qVal (some v49)) fun v65 =>
   gQ v63 true (qBin env.P .eql 4 (.tmp 105) (.tmp 106) (some v64) (some v65)) fun v66 =>
   doQ (pickF (some v63) (some v66) (some (.v (.bool false)))) fun v67 =>
   gQ v67 true (qVal (some v46)) fun v68 =>
   gQ v67 true (qVal (some v50)) fun v69 =>
   gQ v67 true (qBin env.P .eql 3 (.tmp 110) (.tmp 111) (some v68) (some v69)) fun v70 =>
   doQ (pickF (some v67) (some v70) (some (.v (.bool false)))) fun v71 =>
   gQ v71 true (qVal (some v18)) fun v72 =>
   gW v71 true H15 (callRes env true (limf env) (limt env 0) H15 (⟨0, 116, Heap.gen H15 0 116, 0⟩ : Ref) (some (.fn (.func 47) [] [])) [v72]) fun v73 H16 =>
   gQ v71 true (qVal (some x0)) fun v74 =>
   gW v71 true H16 (callRes env true (limf env) (limt env 0) H16 (⟨0, 118, Heap.gen H16 0 118, 0⟩ : Ref) (some (.fn (.func 52) [] [])) [v74]) fun v75 H17 =>
   gQ v71 true (qBin env.P .eql 3 (.tmp 116) (.tmp 118) (some v73) (some v75)) fun v76 =>
   doQ (pickF (some v71) (some v76) (some (.v (.bool false)))) fun v77 =>
   gQ v77 true (qVal (some v18)) fun v78 =>
   gQ v77 true (qVal (some x0)) fun v79 =>
   gW v77 true H17 (callRes env true (limf env) (limt env 0) H17 (⟨0, 125, Heap.gen H17 0 125, 0⟩ : Ref) (some (.fn (.func 53) [] [])) [v78, v79]) fun v80 H18 =>
   doQ (pickF (some v77) (some v80) (some (.v (.bool false)))) fun v81 =>
   gQ v81 true (qLoad env.P (Heap.get H18) 49 (some v21)) fun v82 =>
   gQ v81 true (qLoad env.P (Heap.get H18) 49 (some v1)) fun v83 =>
   gW v81 true H18 (callRes env true (limf env) (limt env 0) H18 (⟨0, 130, Heap.gen H18 0 130, 0⟩ : Ref) (some (.fn (.func 34) [] [])) [v82, v83]) fun v84 H19 =>
   doQ (pickF (some v81) (some v84) (some (.v (.bool false)))) fun v85 =>
   Q v85 H19)
theorem vq_blindstamplaw18_ChainTells : VC_blindstamplaw18_ChainTells = fun g x0 x1 x2 x3 H Q => wp env Try.f9 none 0 lv_blindstamplaw18_ChainTells cu_blindstamplaw18_ChainTells Q 500 [.code bd_blindstamplaw18_ChainTells] (ofL g [(0, x0), (1, x1), (2, x2), (3, x3)]) H := by kernel_rfl
theorem vc_blindstamplaw18_ChainTells (x0 x1 x2 x3 : AV) (H : Heap) (Q : AV → Heap → Prop) (h : ∀ g, VC_blindstamplaw18_ChainTells g x0 x1 x2 x3 H Q) : GoL env Try.f9 0 [.code bd_blindstamplaw18_ChainTells] [(0, x0), (1, x1), (2, x2), (3, x3)] H Q := ⟨fun g => wp_ok (by have h := h g; rw [vq_blindstamplaw18_ChainTells] at h; exact h)⟩

end Go.Proofs.Ytjampffmlnplcaa
