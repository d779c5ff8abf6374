/-
  What is to be shown of each function, computed from its code. No statement of a seat is proved here.
-/
import Derived.Test.YtjampffmlnplcaaRcTy
set_option linter.unusedVariables false
set_option maxRecDepth 1000000
namespace Go.Proofs.Ytjampffmlnplcaa
open Go.Ab

/- blindstamplaw16_RunCut -/
noncomputable def bd_blindstamplaw16_RunCut : Code := (Try.f4.body).getD .skip
def lv_blindstamplaw16_RunCut : Nat → Option (List Nat) := fun i => none
def cu_blindstamplaw16_RunCut : Nat → Bool := fun i => false
def VC_blindstamplaw16_RunCut (g : Nat → AV) (x0 x1 x2 : AV) (H : Heap) (Q : AV → Heap → Prop) : Prop :=
  doW (nRes H (⟨0, 3, Heap.gen H 0 3, 0⟩ : Ref) (qBox env.P (⟨0, 3, Heap.gen H 0 3, 0⟩ : Ref) 33 (some x0))) fun v1 H1 =>
  doW (callRes env true (limf env) (limt env 0) H1 (⟨0, 25, Heap.gen H1 0 25, 0⟩ : Ref) (some (.fn (.func 15) [] [])) []) fun v2 H2 =>
  doQ (qFieldAddr env.P 33 (some v1) 2) fun v3 =>
  doQ (qLoad env.P (Heap.get H2) 31 (some v3)) fun v4 =>
  doQ (qBuiltin env.P false (Heap.get H2) (⟨0, 28, Heap.gen H2 0 28, 0⟩ : Ref) .len #[31] [v4]) fun v5 =>
  doQ (qBin env.P .gtr 3 (.tmp 28) (.const (.int .i64 1000)) (some v5) (some (.v (.int .i64 1000)))) fun v6 =>
  gQ v6 false (qVal (some v2)) fun v7 =>
  gQ v6 false (qUn env.P .not (some v7)) fun v8 =>
  doQ (pickF (some v6) (some (.v (.bool true))) (some v8)) fun v9 =>
  br (some v9) (
   Q v2 H2) (
   doQ (qLoad env.P (Heap.get H2) 33 (some v1)) fun v10 =>
   doW (callRes env true (limf env) (limt env 0) H2 (⟨0, 38, Heap.gen H2 0 38, 0⟩ : Ref) (some (.fn (.func 17) [] [])) [v10, x1]) fun v11 H3 =>
   doQ (qExtract (some v11) 0) fun v12 =>
   doQ (qExtract (some v11) 1) fun v13 =>
   doQ (qExtract (some v11) 2) fun v14 =>
   doW (nRes H3 (⟨0, 8, Heap.gen H3 0 8, 0⟩ : Ref) (qAlloc env.P (⟨0, 8, Heap.gen H3 0 8, 0⟩ : Ref) 33)) fun v15 H4 =>
   doW (nRes H4 (⟨0, 9, Heap.gen H4 0 9, 0⟩ : Ref) (qAlloc env.P (⟨0, 9, Heap.gen H4 0 9, 0⟩ : Ref) 33)) fun v16 H5 =>
   doW (wStore env.P H5 33 (some v15) (some v12)) fun v17 H6 =>
   doW (wStore env.P H6 33 (some v16) (some v13)) fun v18 H7 =>
   doQ (qBin env.P .neq 35 (.tmp 42) (.const (.int .i64 0)) (some v14) (some (.v (.int .i64 0)))) fun v19 =>
   br (some v19) (
    gQ v2 true (qFieldAddr env.P 33 (some v15) 2) fun v20 =>
    gQ v2 true (qLoad env.P (Heap.get H7) 31 (some v20)) fun v21 =>
    gQ v2 true (qBuiltin env.P false (Heap.get H7) (⟨0, 48, Heap.gen H7 0 48, 0⟩ : Ref) .len #[31] [v21]) fun v22 =>
    gQ v2 true (qFieldAddr env.P 33 (some v16) 2) fun v23 =>
    gQ v2 true (qLoad env.P (Heap.get H7) 31 (some v23)) fun v24 =>
    gQ v2 true (qBuiltin env.P false (Heap.get H7) (⟨0, 51, Heap.gen H7 0 51, 0⟩ : Ref) .len #[31] [v24]) fun v25 =>
    gQ v2 true (qBin env.P .add 3 (.tmp 48) (.tmp 51) (some v22) (some v25)) fun v26 =>
    gQ v2 true (qBin env.P .eql 3 (.tmp 52) (.const (.int .i64 0)) (some v26) (some (.v (.int .i64 0)))) fun v27 =>
    doQ (pickF (some v2) (some v27) (some (.v (.bool false)))) fun v28 =>
    Q v28 H7) (
    doQ (qLoad env.P (Heap.get H7) 33 (some v15)) fun v20 =>
    doQ (qLoad env.P (Heap.get H7) 33 (some v16)) fun v21 =>
    doW (callRes env true (limf env) (limt env 0) H7 (⟨0, 58, Heap.gen H7 0 58, 0⟩ : Ref) (some (.fn (.func 16) [] [])) [v20, v21]) fun v22 H8 =>
    doQ (qExtract (some v22) 0) fun v23 =>
    doQ (qExtract (some v22) 1) fun v24 =>
    doW (nRes H8 (⟨0, 11, Heap.gen H8 0 11, 0⟩ : Ref) (qAlloc env.P (⟨0, 11, Heap.gen H8 0 11, 0⟩ : Ref) 33)) fun v25 H9 =>
    doW (wStore env.P H9 33 (some v25) (some v23)) fun v26 H10 =>
    doQ (qBin env.P .neq 35 (.tmp 61) (.const (.int .i64 0)) (some v24) (some (.v (.int .i64 0)))) fun v27 =>
    gQ v27 false (qLoad env.P (Heap.get H10) 33 (some v25)) fun v28 =>
    gQ v27 false (qLoad env.P (Heap.get H10) 33 (some v1)) fun v29 =>
    gW v27 false H10 (callRes env true (limf env) (limt env 0) H10 (⟨0, 66, Heap.gen H10 0 66, 0⟩ : Ref) (some (.fn (.func 18) [] [])) [v28, v29]) fun v30 H11 =>
    gQ v27 false (qUn env.P .not (some v30)) fun v31 =>
    doQ (pickF (some v27) (some (.v (.bool true))) (some v31)) fun v32 =>
    gQ v32 false (qLoad env.P (Heap.get H11) 33 (some v15)) fun v33 =>
    gW v32 false H11 (callRes env true (limf env) (limt env 0) H11 (⟨0, 71, Heap.gen H11 0 71, 0⟩ : Ref) (some (.fn (.func 19) [] [])) [v33]) fun v34 H12 =>
    gQ v32 false (qBin env.P .neq 35 (.tmp 71) (.const (.int .i64 0)) (some v34) (some (.v (.int .i64 0)))) fun v35 =>
    doQ (pickF (some v32) (some (.v (.bool true))) (some v35)) fun v36 =>
    gQ v36 false (qLoad env.P (Heap.get H12) 33 (some v16)) fun v37 =>
    gW v36 false H12 (callRes env true (limf env) (limt env 0) H12 (⟨0, 76, Heap.gen H12 0 76, 0⟩ : Ref) (some (.fn (.func 19) [] [])) [v37]) fun v38 H13 =>
    gQ v36 false (qBin env.P .neq 35 (.tmp 76) (.const (.int .i64 0)) (some v38) (some (.v (.int .i64 0)))) fun v39 =>
    doQ (pickF (some v36) (some (.v (.bool true))) (some v39)) fun v40 =>
    br (some v40) (
     Q (.v (.bool false)) H13) (
     doQ (qLoad env.P (Heap.get H13) 33 (some v1)) fun v41 =>
     doW (callRes env true (limf env) (limt env 0) H13 (⟨0, 82, Heap.gen H13 0 82, 0⟩ : Ref) (some (.fn (.func 20) [] [])) [v41, x2]) fun v42 H14 =>
     doQ (qExtract (some v42) 0) fun v43 =>
     doQ (qExtract (some v42) 1) fun v44 =>
     doQ (qExtract (some v42) 2) fun v45 =>
     doQ (qExtract (some v42) 3) fun v46 =>
     doW (nRes H14 (⟨0, 13, Heap.gen H14 0 13, 0⟩ : Ref) (qAlloc env.P (⟨0, 13, Heap.gen H14 0 13, 0⟩ : Ref) 28)) fun v47 H15 =>
     doW (nRes H15 (⟨0, 14, Heap.gen H15 0 14, 0⟩ : Ref) (qAlloc env.P (⟨0, 14, Heap.gen H15 0 14, 0⟩ : Ref) 28)) fun v48 H16 =>
     doW (wStore env.P H16 28 (some v47) (some v43)) fun v49 H17 =>
     doW (wStore env.P H17 28 (some v48) (some v44)) fun v50 H18 =>
     doQ (qBin env.P .neq 35 (.tmp 87) (.const (.int .i64 0)) (some v46) (some (.v (.int .i64 0)))) fun v51 =>
     br (some v51) (
      gQ v2 true (qVal (some v46)) fun v52 =>
      gQ v2 true (qBin env.P .eql 35 (.tmp 91) (.const (.int .i64 2)) (some v52) (some (.v (.int .i64 2)))) fun v53 =>
      doQ (pickF (some v2) (some v53) (some (.v (.bool false)))) fun v54 =>
      gQ v54 true (qVal (some x2)) fun v55 =>
      gQ v54 true (qBin env.P .lss 3 (.tmp 95) (.const (.int .i64 0)) (some v55) (some (.v (.int .i64 0)))) fun v56 =>
      gQ v54 true (qVal (some v56)) fun v57 =>
      gQ v57 false (qVal (some x2)) fun v58 =>
      gQ v57 false (qFieldAddr env.P 33 (some v1) 0) fun v59 =>
      gQ v57 false (qFieldAddr env.P 30 (some v59) 1) fun v60 =>
      gQ v57 false (qLoad env.P (Heap.get H18) 3 (some v60)) fun v61 =>
      gQ v57 false (qBin env.P .geq 3 (.tmp 98) (.tmp 101) (some v58) (some v61)) fun v62 =>
      gQ v54 true (pickF (some v57) (some (.v (.bool true))) (some v62)) fun v63 =>
      doQ (pickF (some v54) (some v63) (some (.v (.bool false)))) fun v64 =>
      Q v64 H18) (
      doQ (qBin env.P .lss 3 (.tmp 105) (.tmp 106) (some x2) (some x1)) fun v52 =>
      br (some v52) (
       doQ (qLoad env.P (Heap.get H18) 33 (some v15)) fun v53 =>
       doW (callRes env true (limf env) (limt env 0) H18 (⟨0, 111, Heap.gen H18 0 111, 0⟩ : Ref) (some (.fn (.func 20) [] [])) [v53, x2]) fun v54 H19 =>
       doQ (qExtract (some v54) 0) fun v55 =>
       doQ (qExtract (some v54) 1) fun v56 =>
       doQ (qExtract (some v54) 2) fun v57 =>
       doQ (qExtract (some v54) 3) fun v58 =>
       doW (nRes H19 (⟨0, 17, Heap.gen H19 0 17, 0⟩ : Ref) (qAlloc env.P (⟨0, 17, Heap.gen H19 0 17, 0⟩ : Ref) 28)) fun v59 H20 =>
       doW (nRes H20 (⟨0, 18, Heap.gen H20 0 18, 0⟩ : Ref) (qAlloc env.P (⟨0, 18, Heap.gen H20 0 18, 0⟩ : Ref) 28)) fun v60 H21 =>
       doW (wStore env.P H21 28 (some v59) (some v55)) fun v61 H22 =>
       doW (wStore env.P H22 28 (some v60) (some v56)) fun v62 H23 =>
       gQ v2 true (qVal (some v58)) fun v63 =>
       gQ v2 true (qBin env.P .eql 35 (.tmp 118) (.const (.int .i64 0)) (some v63) (some (.v (.int .i64 0)))) fun v64 =>
       doQ (pickF (some v2) (some v64) (some (.v (.bool false)))) fun v65 =>
       gQ v65 true (qLoad env.P (Heap.get H23) 28 (some v59)) fun v66 =>
       gQ v65 true (qLoad env.P (Heap.get H23) 28 (some v47)) fun v67 =>
       gQ v65 true (qBin env.P .eql 28 (.tmp 122) (.tmp 123) (some v66) (some v67)) fun v68 =>
       doQ (pickF (some v65) (some v68) (some (.v (.bool false)))) fun v69 =>
       gQ v69 true (qLoad env.P (Heap.get H23) 28 (some v60)) fun v70 =>
       gQ v69 true (qLoad env.P (Heap.get H23) 28 (some v48)) fun v71 =>
       gQ v69 true (qBin env.P .eql 28 (.tmp 127) (.tmp 128) (some v70) (some v71)) fun v72 =>
       doQ (pickF (some v69) (some v72) (some (.v (.bool false)))) fun v73 =>
       gQ v73 true (qVal (some v57)) fun v74 =>
       gQ v73 true (qVal (some v45)) fun v75 =>
       gQ v73 true (qBin env.P .eql 21 (.tmp 132) (.tmp 133) (some v74) (some v75)) fun v76 =>
       doQ (pickF (some v73) (some v76) (some (.v (.bool false)))) fun v77 =>
       Q v77 H23) (
       doQ (qLoad env.P (Heap.get H18) 33 (some v16)) fun v53 =>
       doQ (qBin env.P .sub 3 (.tmp 138) (.tmp 139) (some x2) (some x1)) fun v54 =>
       doW (callRes env true (limf env) (limt env 0) H18 (⟨0, 141, Heap.gen H18 0 141, 0⟩ : Ref) (some (.fn (.func 20) [] [])) [v53, v54]) fun v55 H19 =>
       doQ (qExtract (some v55) 0) fun v56 =>
       doQ (qExtract (some v55) 1) fun v57 =>
       doQ (qExtract (some v55) 2) fun v58 =>
       doQ (qExtract (some v55) 3) fun v59 =>
       doW (nRes H19 (⟨0, 21, Heap.gen H19 0 21, 0⟩ : Ref) (qAlloc env.P (⟨0, 21, Heap.gen H19 0 21, 0⟩ : Ref) 28)) fun v60 H20 =>
       doW (nRes H20 (⟨0, 22, Heap.gen H20 0 22, 0⟩ : Ref) (qAlloc env.P (⟨0, 22, Heap.gen H20 0 22, 0⟩ : Ref) 28)) fun v61 H21 =>
       doW (wStore env.P H21 28 (some v60) (some v56)) fun v62 H22 =>
       doW (wStore env.P H22 28 (some v61) (some v57)) fun v63 H23 =>
       gQ v2 true (qVal (some v59)) fun v64 =>
       gQ v2 true (qBin env.P .eql 35 (.tmp 148) (.const (.int .i64 0)) (some v64) (some (.v (.int .i64 0)))) fun v65 =>
       doQ (pickF (some v2) (some v65) (some (.v (.bool false)))) fun v66 =>
       gQ v66 true (qLoad env.P (Heap.get H23) 28 (some v60)) fun v67 =>
       gQ v66 true (qLoad env.P (Heap.get H23) 28 (some v47)) fun v68 =>
       gQ v66 true (qBin env.P .eql 28 (.tmp 152) (.tmp 153) (some v67) (some v68)) fun v69 =>
       doQ (pickF (some v66) (some v69) (some (.v (.bool false)))) fun v70 =>
       gQ v70 true (qLoad env.P (Heap.get H23) 28 (some v61)) fun v71 =>
       gQ v70 true (qLoad env.P (Heap.get H23) 28 (some v48)) fun v72 =>
       gQ v70 true (qBin env.P .eql 28 (.tmp 157) (.tmp 158) (some v71) (some v72)) fun v73 =>
       doQ (pickF (some v70) (some v73) (some (.v (.bool false)))) fun v74 =>
       gQ v74 true (qVal (some v58)) fun v75 =>
       gQ v74 true (qVal (some v45)) fun v76 =>
       gQ v74 true (qBin env.P .eql 21 (.tmp 162) (.tmp 163) (some v75) (some v76)) fun v77 =>
       doQ (pickF (some v74) (some v77) (some (.v (.bool false)))) fun v78 =>
       Q v78 H23)))))
theorem vq_blindstamplaw16_RunCut : VC_blindstamplaw16_RunCut = fun g x0 x1 x2 H Q => wp env Try.f4 none 0 lv_blindstamplaw16_RunCut cu_blindstamplaw16_RunCut Q 500 [.code bd_blindstamplaw16_RunCut] (ofL g [(0, x0), (1, x1), (2, x2)]) H := by kernel_rfl
theorem vc_blindstamplaw16_RunCut (x0 x1 x2 : AV) (H : Heap) (Q : AV → Heap → Prop) (h : ∀ g, VC_blindstamplaw16_RunCut g x0 x1 x2 H Q) : GoL env Try.f4 0 [.code bd_blindstamplaw16_RunCut] [(0, x0), (1, x1), (2, x2)] H Q := ⟨fun g => wp_ok (by have h := h g; rw [vq_blindstamplaw16_RunCut] at h; exact h)⟩

end Go.Proofs.Ytjampffmlnplcaa
