/-
  What is to be shown of each function, computed from its code. No statement of a seat is proved here.
-/
import Derived.Test.YtjampffmlnplcaaRcTy
set_option linter.unusedVariables false
set_option maxRecDepth 1000000
namespace Go.Proofs.Ytjampffmlnplcaa
open Go.Ab

/- blindstamplaw18_ChainTower -/
noncomputable def bd_blindstamplaw18_ChainTower : Code := (Try.f10.body).getD .skip
def lv_blindstamplaw18_ChainTower : Nat → Option (List Nat) := fun i => none
def cu_blindstamplaw18_ChainTower : Nat → Bool := fun i => false
def VC_blindstamplaw18_ChainTower (g : Nat → AV) (x0 x1 x2 x3 x4 : AV) (H : Heap) (Q : AV → Heap → Prop) : Prop :=
  doW (nRes H (⟨0, 6, Heap.gen H 0 6, 0⟩ : Ref) (qBox env.P (⟨0, 6, Heap.gen H 0 6, 0⟩ : Ref) 49 (some x1))) fun v1 H1 =>
  doW (nRes H1 (⟨0, 7, Heap.gen H1 0 7, 0⟩ : Ref) (qBox env.P (⟨0, 7, Heap.gen H1 0 7, 0⟩ : Ref) 28 (some x2))) fun v2 H2 =>
  doW (nRes H2 (⟨0, 8, Heap.gen H2 0 8, 0⟩ : Ref) (qBox env.P (⟨0, 8, Heap.gen H2 0 8, 0⟩ : Ref) 24 (some x3))) fun v3 H3 =>
  doW (nRes H3 (⟨0, 9, Heap.gen H3 0 9, 0⟩ : Ref) (qBox env.P (⟨0, 9, Heap.gen H3 0 9, 0⟩ : Ref) 24 (some x4))) fun v4 H4 =>
  doW (callRes env true (limf env) (limt env 0) H4 (⟨0, 25, Heap.gen H4 0 25, 0⟩ : Ref) (some (.fn (.func 35) [] [])) []) fun v5 H5 =>
  doW (callRes env true (limf env) (limt env 0) H5 (⟨0, 27, Heap.gen H5 0 27, 0⟩ : Ref) (some (.fn (.func 36) [] [])) [x0, (.v (.int .i64 40))]) fun v6 H6 =>
  gQ v6 false (qFieldAddr env.P 49 (some v1) 6) fun v7 =>
  gQ v6 false (qLoad env.P (Heap.get H6) 31 (some v7)) fun v8 =>
  gQ v6 false (qBuiltin env.P false (Heap.get H6) (⟨0, 31, Heap.gen H6 0 31, 0⟩ : Ref) .len #[31] [v8]) fun v9 =>
  gQ v6 false (qBin env.P .gtr 3 (.tmp 31) (.const (.int .i64 300)) (some v9) (some (.v (.int .i64 300)))) fun v10 =>
  doQ (pickF (some v6) (some (.v (.bool true))) (some v10)) fun v11 =>
  gQ v11 false (qVal (some v5)) fun v12 =>
  gQ v11 false (qUn env.P .not (some v12)) fun v13 =>
  doQ (pickF (some v11) (some (.v (.bool true))) (some v13)) fun v14 =>
  br (some v14) (
   Q v5 H6) (
   doQ (qLoad env.P (Heap.get H6) 28 (some v2)) fun v15 =>
   doQ (qLoad env.P (Heap.get H6) 24 (some v3)) fun v16 =>
   doW (callRes env true (limf env) (limt env 0) H6 (⟨0, 43, Heap.gen H6 0 43, 0⟩ : Ref) (some (.fn (.func 37) [] [])) [x0, v15, v16]) fun v17 H7 =>
   doQ (qExtract (some v17) 0) fun v18 =>
   doQ (qExtract (some v17) 1) fun v19 =>
   doQ (qLoad env.P (Heap.get H7) 28 (some v2)) fun v20 =>
   doQ (qLoad env.P (Heap.get H7) 24 (some v4)) fun v21 =>
   doW (callRes env true (limf env) (limt env 0) H7 (⟨0, 50, Heap.gen H7 0 50, 0⟩ : Ref) (some (.fn (.func 37) [] [])) [x0, v20, v21]) fun v22 H8 =>
   doQ (qExtract (some v22) 0) fun v23 =>
   doQ (qExtract (some v22) 1) fun v24 =>
   doQ (qLoad env.P (Heap.get H8) 49 (some v1)) fun v25 =>
   doW (callRes env true (limf env) (limt env 0) H8 (⟨0, 56, Heap.gen H8 0 56, 0⟩ : Ref) (some (.fn (.func 44) [] [])) [x0, v25]) fun v26 H9 =>
   doQ (qExtract (some v26) 0) fun v27 =>
   doQ (qExtract (some v26) 1) fun v28 =>
   doQ (qBin env.P .neq 35 (.tmp 59) (.const (.int .i64 0)) (some v19) (some (.v (.int .i64 0)))) fun v29 =>
   gQ v29 false (qVal (some v24)) fun v30 =>
   gQ v29 false (qBin env.P .neq 35 (.tmp 62) (.const (.int .i64 0)) (some v30) (some (.v (.int .i64 0)))) fun v31 =>
   doQ (pickF (some v29) (some (.v (.bool true))) (some v31)) fun v32 =>
   gQ v32 false (qVal (some v28)) fun v33 =>
   gQ v32 false (qBin env.P .neq 35 (.tmp 66) (.const (.int .i64 0)) (some v33) (some (.v (.int .i64 0)))) fun v34 =>
   doQ (pickF (some v32) (some (.v (.bool true))) (some v34)) fun v35 =>
   br (some v35) (
    Q v5 H9) (
    gQ v18 true (qLoad env.P (Heap.get H9) 24 (some v3)) fun v36 =>
    gQ v18 true (qLoad env.P (Heap.get H9) 24 (some v4)) fun v37 =>
    gW v18 true H9 (callRes env true (limf env) (limt env 0) H9 (⟨0, 74, Heap.gen H9 0 74, 0⟩ : Ref) (some (.fn (.func 38) [] [])) [v36, v37]) fun v38 H10 =>
    doQ (pickF (some v18) (some v38) (some (.v (.bool false)))) fun v39 =>
    gQ v39 true (qVal (some v23)) fun v40 =>
    gQ v39 true (qUn env.P .not (some v40)) fun v41 =>
    doQ (pickF (some v39) (some v41) (some (.v (.bool false)))) fun v42 =>
    br (some v42) (
     Q (.v (.bool false)) H10) (
     doW (appRes env.P false H10 (⟨0, 81, Heap.gen H10 0 81, 0⟩ : Ref) (some 63) (some 63) (.v (.slice none 0 0)) x0) fun v43 H11 =>
     doQ (qLoad env.P (Heap.get H11) 49 (some v1)) fun v44 =>
     doW (bsRes env.P true false H11 (⟨0, 83, Heap.gen H11 0 83, 0⟩ : Ref) 63 1 (some [(0, v44)])) fun v45 H12 =>
     doW (appRes env.P true H12 (⟨0, 84, Heap.gen H12 0 84, 0⟩ : Ref) (some 63) (some 63) v43 v45) fun v46 H13 =>
     doQ (qLoad env.P (Heap.get H13) 28 (some v2)) fun v47 =>
     doQ (qLoad env.P (Heap.get H13) 24 (some v3)) fun v48 =>
     doW (callRes env true (limf env) (limt env 0) H13 (⟨0, 89, Heap.gen H13 0 89, 0⟩ : Ref) (some (.fn (.func 37) [] [])) [v46, v47, v48]) fun v49 H14 =>
     doQ (qExtract (some v49) 0) fun v50 =>
     doQ (qExtract (some v49) 1) fun v51 =>
     doQ (qUn env.P .not (some v27)) fun v52 =>
     br (some v52) (
      gQ v5 true (qVal (some v51)) fun v53 =>
      gQ v5 true (qBin env.P .eql 35 (.tmp 96) (.const (.int .i64 8)) (some v53) (some (.v (.int .i64 8)))) fun v54 =>
      doQ (pickF (some v5) (some v54) (some (.v (.bool false)))) fun v55 =>
      Q v55 H14) (
      doQ (qLoad env.P (Heap.get H14) 28 (some v2)) fun v53 =>
      doQ (qLoad env.P (Heap.get H14) 24 (some v3)) fun v54 =>
      doW (callRes env true (limf env) (limt env 0) H14 (⟨0, 103, Heap.gen H14 0 103, 0⟩ : Ref) (some (.fn (.func 41) [] [])) [x0, v53, v54]) fun v55 H15 =>
      doQ (qExtract (some v55) 0) fun v56 =>
      doQ (qExtract (some v55) 1) fun v57 =>
      doQ (qLoad env.P (Heap.get H15) 28 (some v2)) fun v58 =>
      doQ (qLoad env.P (Heap.get H15) 24 (some v3)) fun v59 =>
      doW (callRes env true (limf env) (limt env 0) H15 (⟨0, 110, Heap.gen H15 0 110, 0⟩ : Ref) (some (.fn (.func 41) [] [])) [v46, v58, v59]) fun v60 H16 =>
      doQ (qExtract (some v60) 0) fun v61 =>
      doQ (qExtract (some v60) 1) fun v62 =>
      doQ (qBin env.P .neq 35 (.tmp 113) (.const (.int .i64 0)) (some v51) (some (.v (.int .i64 0)))) fun v63 =>
      gQ v63 false (qVal (some v57)) fun v64 =>
      gQ v63 false (qBin env.P .neq 35 (.tmp 116) (.const (.int .i64 0)) (some v64) (some (.v (.int .i64 0)))) fun v65 =>
      doQ (pickF (some v63) (some (.v (.bool true))) (some v65)) fun v66 =>
      gQ v66 false (qVal (some v62)) fun v67 =>
      gQ v66 false (qBin env.P .neq 35 (.tmp 120) (.const (.int .i64 0)) (some v67) (some (.v (.int .i64 0)))) fun v68 =>
      doQ (pickF (some v66) (some (.v (.bool true))) (some v68)) fun v69 =>
      gQ v69 false (qVal (some v50)) fun v70 =>
      gQ v69 false (qVal (some v70)) fun v71 =>
      gQ v71 true (qVal (some v18)) fun v72 =>
      gQ v71 true (qUn env.P .not (some v72)) fun v73 =>
      gQ v69 false (pickF (some v71) (some v73) (some (.v (.bool false)))) fun v74 =>
      doQ (pickF (some v69) (some (.v (.bool true))) (some v74)) fun v75 =>
      br (some v75) (
       Q (.v (.bool false)) H16) (
       gQ v5 true (qFieldAddr env.P 49 (some v1) 1) fun v76 =>
       gQ v5 true (qFieldAddr env.P 26 (some v76) 0) fun v77 =>
       gQ v5 true (qLoad env.P (Heap.get H16) 24 (some v77)) fun v78 =>
       gQ v5 true (qLoad env.P (Heap.get H16) 24 (some v3)) fun v79 =>
       gW v5 true H16 (callRes env true (limf env) (limt env 0) H16 (⟨0, 136, Heap.gen H16 0 136, 0⟩ : Ref) (some (.fn (.func 38) [] [])) [v78, v79]) fun v80 H17 =>
       gQ v5 true (qVal (some v80)) fun v81 =>
       gQ v81 false (qVal (some v18)) fun v82 =>
       gQ v81 false (qVal (some v50)) fun v83 =>
       gQ v81 false (qBin env.P .eql 4 (.tmp 138) (.tmp 139) (some v82) (some v83)) fun v84 =>
       gQ v81 false (qVal (some v84)) fun v85 =>
       gQ v85 true (qVal (some v56)) fun v86 =>
       gQ v85 true (qVal (some v61)) fun v87 =>
       gW v85 true H17 (callRes env true (limf env) (limt env 0) H17 (⟨0, 144, Heap.gen H17 0 144, 0⟩ : Ref) (some (.fn (.func 46) [] [])) [v86, v87]) fun v88 H18 =>
       gQ v81 false (pickF (some v85) (some v88) (some (.v (.bool false)))) fun v89 =>
       gQ v5 true (pickF (some v81) (some (.v (.bool true))) (some v89)) fun v90 =>
       doQ (pickF (some v5) (some v90) (some (.v (.bool false)))) fun v91 =>
       Q v91 H18)))))
theorem vq_blindstamplaw18_ChainTower : VC_blindstamplaw18_ChainTower = fun g x0 x1 x2 x3 x4 H Q => wp env Try.f10 none 0 lv_blindstamplaw18_ChainTower cu_blindstamplaw18_ChainTower Q 500 [.code bd_blindstamplaw18_ChainTower] (ofL g [(0, x0), (1, x1), (2, x2), (3, x3), (4, x4)]) H := by kernel_rfl
theorem vc_blindstamplaw18_ChainTower (x0 x1 x2 x3 x4 : AV) (H : Heap) (Q : AV → Heap → Prop) (h : ∀ g, VC_blindstamplaw18_ChainTower g x0 x1 x2 x3 x4 H Q) : GoL env Try.f10 0 [.code bd_blindstamplaw18_ChainTower] [(0, x0), (1, x1), (2, x2), (3, x3), (4, x4)] H Q := ⟨fun g => wp_ok (by have h := h g; rw [vq_blindstamplaw18_ChainTower] at h; exact h)⟩

end Go.Proofs.Ytjampffmlnplcaa
