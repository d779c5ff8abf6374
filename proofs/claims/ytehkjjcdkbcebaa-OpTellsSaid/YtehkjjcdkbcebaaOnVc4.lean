/-
  What is to be shown of each function, computed from its code. No statement of a seat is proved here.
-/
import Derived.Test.YtehkjjcdkbcebaaOnTy
set_option linter.unusedVariables false
set_option maxRecDepth 1000000
namespace Go.Proofs.Ytehkjjcdkbcebaa
open Go.Ab
noncomputable section

/- q9_Twin -/
def bd_q9_Twin : Code := (Try.f23.body).getD .skip
def lv_q9_Twin : Nat → Option (List Nat) := fun i => none
def cu_q9_Twin : Nat → Bool := fun i => false
def VC_q9_Twin (g : Nat → AV) (x0 : AV) (H : Heap) (Q : AV → Heap → Prop) : Prop :=
  doW (nRes H (⟨0, 1, Heap.gen H 0 1, 0⟩ : Ref) (qBox env.P (⟨0, 1, Heap.gen H 0 1, 0⟩ : Ref) 33 (some x0))) fun v1 H1 =>
  doW (nRes H1 (⟨0, 2, Heap.gen H1 0 2, 0⟩ : Ref) (qAlloc env.P (⟨0, 2, Heap.gen H1 0 2, 0⟩ : Ref) 33)) fun v2 H2 =>
  doQ (qFieldAddr env.P 33 (some v1) 6) fun v3 =>
  doQ (qLoad env.P (Heap.get H2) 31 (some v3)) fun v4 =>
  doW (appRes env.P true H2 (⟨0, 5, Heap.gen H2 0 5, 0⟩ : Ref) (some 31) (some 31) (.v (.slice none 0 0)) v4) fun v5 H3 =>
  doQ (qFieldAddr env.P 33 (some v1) 6) fun v6 =>
  doW (wStore env.P H3 31 (some v6) (some v5)) fun v7 H4 =>
  doQ (qLoad env.P (Heap.get H4) 33 (some v1)) fun v8 =>
  doW (wStore env.P H4 33 (some v2) (some v8)) fun v9 H5 =>
  doQ (readCell env.P H5 v2 33) fun v10 =>
  Q v10 H5
theorem vq_q9_Twin : VC_q9_Twin = fun g x0 H Q => wp env Try.f23 none 0 lv_q9_Twin cu_q9_Twin Q 500 [.code bd_q9_Twin] (ofL g [(0, x0)]) H := by kernel_rfl
theorem vc_q9_Twin (x0 : AV) (H : Heap) (Q : AV → Heap → Prop) (h : ∀ g, VC_q9_Twin g x0 H Q) : GoL env Try.f23 0 [.code bd_q9_Twin] [(0, x0)] H Q := ⟨fun g => wp_ok (by have h := h g; rw [vq_q9_Twin] at h; exact h)⟩

/- q9_Put -/
def bd_q9_Put : Code := (Try.f24.body).getD .skip
def lv_q9_Put : Nat → Option (List Nat) := fun i => none
def cu_q9_Put : Nat → Bool := fun i => false
def VC_q9_Put (g : Nat → AV) (x0 : AV) (H : Heap) (Q : AV → Heap → Prop) : Prop :=
  doW (nRes H (⟨0, 1, Heap.gen H 0 1, 0⟩ : Ref) (qBox env.P (⟨0, 1, Heap.gen H 0 1, 0⟩ : Ref) 33 (some x0))) fun v1 H1 =>
  doQ (qLoad env.P (Heap.get H1) 33 (some v1)) fun v2 =>
  doW (callRes env true (limf env) (limt env 0) H1 (⟨0, 5, Heap.gen H1 0 5, 0⟩ : Ref) (some (.fn (.func 65) [] [])) [v2]) fun v3 H2 =>
  doQ (qUn env.P .not (some v3)) fun v4 =>
  br (some v4) (
   Q (.tup [(.v (.slice none 0 0)), (.v (.int .i64 8))]) H2) (
   doQ (qLoad env.P (Heap.get H2) 33 (some v1)) fun v5 =>
   doW (callRes env true (limf env) (limt env 0) H2 (⟨0, 8, Heap.gen H2 0 8, 0⟩ : Ref) (some (.fn (.func 66) [] [])) [v5]) fun v6 H3 =>
   Q (.tup [v6, (.v (.int .i64 0))]) H3)
theorem vq_q9_Put : VC_q9_Put = fun g x0 H Q => wp env Try.f24 none 0 lv_q9_Put cu_q9_Put Q 500 [.code bd_q9_Put] (ofL g [(0, x0)]) H := by kernel_rfl
theorem vc_q9_Put (x0 : AV) (H : Heap) (Q : AV → Heap → Prop) (h : ∀ g, VC_q9_Put g x0 H Q) : GoL env Try.f24 0 [.code bd_q9_Put] [(0, x0)] H Q := ⟨fun g => wp_ok (by have h := h g; rw [vq_q9_Put] at h; exact h)⟩

/- q9_Get -/
def bd_q9_Get : Code := (Try.f25.body).getD .skip
def lv_q9_Get : Nat → Option (List Nat) := fun i => none
def cu_q9_Get : Nat → Bool := fun i => false
def VC_q9_Get (g : Nat → AV) (x0 : AV) (H : Heap) (Q : AV → Heap → Prop) : Prop :=
  doW (nRes H (⟨0, 2, Heap.gen H 0 2, 0⟩ : Ref) (qAlloc env.P (⟨0, 2, Heap.gen H 0 2, 0⟩ : Ref) 33)) fun v1 H1 =>
  doQ (qBuiltin env.P false (Heap.get H1) (⟨0, 10, Heap.gen H1 0 10, 0⟩ : Ref) .len #[34] [x0]) fun v2 =>
  doQ (qBin env.P .lss 3 (.tmp 10) (.const (.int .i64 24)) (some v2) (some (.v (.int .i64 24)))) fun v3 =>
  br (some v3) (
   doQ (qBuild env.P 33 (some [])) fun v4 =>
   doW (wStore env.P H1 33 (some v1) (some v4)) fun v5 H2 =>
   doQ (readCell env.P H2 v1 33) fun v6 =>
   Q (.tup [v6, (.v (.int .i64 0)), (.v (.int .i64 8))]) H2) (
   doQ (qIndexAddr env.P (Heap.get H1) 34 (some x0) (some (.v (.int .i64 0)))) fun v4 =>
   doQ (qLoad env.P (Heap.get H1) 5 (some v4)) fun v5 =>
   doQ (qIndexAddr env.P (Heap.get H1) 34 (some x0) (some (.v (.int .i64 23)))) fun v6 =>
   doQ (qLoad env.P (Heap.get H1) 5 (some v6)) fun v7 =>
   doQ (qConvert env.P (Heap.get H1) (⟨0, 19, Heap.gen H1 0 19, 0⟩ : Ref) 5 3 (some v7)) fun v8 =>
   doW (callRes env false (limf env) (limt env 0) H1 (⟨0, 20, Heap.gen H1 0 20, 0⟩ : Ref) (some (.fn (.func 29) [] [])) [v5, v8]) fun v9 H2 =>
   doQ (qBin env.P .eql 3 (.tmp 21) (.const (.int .i64 0)) (some v9) (some (.v (.int .i64 0)))) fun v10 =>
   gQ v10 false (qVal (some x0)) fun v11 =>
   gQ v10 false (qBuiltin env.P false (Heap.get H2) (⟨0, 25, Heap.gen H2 0 25, 0⟩ : Ref) .len #[34] [v11]) fun v12 =>
   gQ v10 false (qVal (some v9)) fun v13 =>
   gQ v10 false (qBin env.P .lss 3 (.tmp 25) (.tmp 26) (some v12) (some v13)) fun v14 =>
   doQ (pickF (some v10) (some (.v (.bool true))) (some v14)) fun v15 =>
   br (some v15) (
    doQ (qBuild env.P 33 (some [])) fun v16 =>
    doW (wStore env.P H2 33 (some v1) (some v16)) fun v17 H3 =>
    doQ (readCell env.P H3 v1 33) fun v18 =>
    Q (.tup [v18, (.v (.int .i64 0)), (.v (.int .i64 8))]) H3) (
    doQ (qIndexAddr env.P (Heap.get H2) 34 (some x0) (some (.v (.int .i64 0)))) fun v16 =>
    doQ (qLoad env.P (Heap.get H2) 5 (some v16)) fun v17 =>
    doQ (qSlice env.P (Heap.get H2) 34 (some x0) (oi (.v (.int .i64 1))) (oi (.v (.int .i64 7))) (some none)) fun v18 =>
    doW (callRes env false (limf env) (limt env 0) H2 (⟨0, 35, Heap.gen H2 0 35, 0⟩ : Ref) (some (.fn (.func 67) [] [])) [v18]) fun v19 H3 =>
    doQ (qIndexAddr env.P (Heap.get H3) 34 (some x0) (some (.v (.int .i64 7)))) fun v20 =>
    doQ (qLoad env.P (Heap.get H3) 5 (some v20)) fun v21 =>
    doQ (qConvert env.P (Heap.get H3) (⟨0, 39, Heap.gen H3 0 39, 0⟩ : Ref) 5 3 (some v21)) fun v22 =>
    doQ (qBin env.P .mul 3 (.const (.int .i64 65536)) (.tmp 39) (some (.v (.int .i64 65536))) (some v22)) fun v23 =>
    doQ (qIndexAddr env.P (Heap.get H3) 34 (some x0) (some (.v (.int .i64 8)))) fun v24 =>
    doQ (qLoad env.P (Heap.get H3) 5 (some v24)) fun v25 =>
    doQ (qConvert env.P (Heap.get H3) (⟨0, 44, Heap.gen H3 0 44, 0⟩ : Ref) 5 3 (some v25)) fun v26 =>
    doQ (qBin env.P .mul 3 (.const (.int .i64 256)) (.tmp 44) (some (.v (.int .i64 256))) (some v26)) fun v27 =>
    doQ (qBin env.P .add 3 (.tmp 40) (.tmp 45) (some v23) (some v27)) fun v28 =>
    doQ (qIndexAddr env.P (Heap.get H3) 34 (some x0) (some (.v (.int .i64 9)))) fun v29 =>
    doQ (qLoad env.P (Heap.get H3) 5 (some v29)) fun v30 =>
    doQ (qConvert env.P (Heap.get H3) (⟨0, 50, Heap.gen H3 0 50, 0⟩ : Ref) 5 3 (some v30)) fun v31 =>
    doQ (qBin env.P .add 3 (.tmp 46) (.tmp 50) (some v28) (some v31)) fun v32 =>
    doQ (qSlice env.P (Heap.get H3) 34 (some x0) (oi (.v (.int .i64 10))) (oi (.v (.int .i64 23))) (some none)) fun v33 =>
    doW (callRes env false (limf env) (limt env 0) H3 (⟨0, 54, Heap.gen H3 0 54, 0⟩ : Ref) (some (.fn (.func 68) [] [])) [v33]) fun v34 H4 =>
    doQ (qIndexAddr env.P (Heap.get H4) 34 (some x0) (some (.v (.int .i64 23)))) fun v35 =>
    doQ (qLoad env.P (Heap.get H4) 5 (some v35)) fun v36 =>
    doQ (qConvert env.P (Heap.get H4) (⟨0, 58, Heap.gen H4 0 58, 0⟩ : Ref) 5 3 (some v36)) fun v37 =>
    doQ (qBuild env.P 30 (some [(0, v34), (1, v37)])) fun v38 =>
    doQ (qBuild env.P 33 (some [(0, v17), (1, v19), (2, v32), (3, v38)])) fun v39 =>
    doW (nRes H4 (⟨0, 6, Heap.gen H4 0 6, 0⟩ : Ref) (qAlloc env.P (⟨0, 6, Heap.gen H4 0 6, 0⟩ : Ref) 33)) fun v40 H5 =>
    doW (wStore env.P H5 33 (some v40) (some v39)) fun v41 H6 =>
    doQ (qFieldAddr env.P 33 (some v40) 0) fun v42 =>
    doQ (qLoad env.P (Heap.get H6) 5 (some v42)) fun v43 =>
    doQ (qBin env.P .eql 5 (.tmp 62) (.const (.int .u8 1)) (some v43) (some (a8 1))) fun v44 =>
    br (some v44) (
     doQ (qSlice env.P (Heap.get H6) 34 (some x0) (oi (.v (.int .i64 24))) (oi (.v (.int .i64 37))) (some none)) fun v45 =>
     doW (callRes env true (limf env) (limt env 0) H6 (⟨0, 66, Heap.gen H6 0 66, 0⟩ : Ref) (some (.fn (.func 68) [] [])) [v45]) fun v46 H7 =>
     doQ (qFieldAddr env.P 33 (some v40) 4) fun v47 =>
     doW (wStore env.P H7 28 (some v47) (some v46)) fun v48 H8 =>
     doQ (qSlice env.P (Heap.get H8) 34 (some x0) (oi (.v (.int .i64 37))) (oi v9) (some none)) fun v49 =>
     doW (callRes env true (limf env) (limt env 0) H8 (⟨0, 72, Heap.gen H8 0 72, 0⟩ : Ref) (some (.fn (.func 69) [] [])) [v49]) fun v50 H9 =>
     doQ (qExtract (some v50) 0) fun v51 =>
     doQ (qExtract (some v50) 1) fun v52 =>
     doQ (qBin env.P .neq 3 (.tmp 75) (.const (.int .i64 0)) (some v52) (some (.v (.int .i64 0)))) fun v53 =>
     br (some v53) (
      doQ (qBuild env.P 33 (some [])) fun v54 =>
      doW (wStore env.P H9 33 (some v1) (some v54)) fun v55 H10 =>
      doQ (readCell env.P H10 v1 33) fun v56 =>
      Q (.tup [v56, (.v (.int .i64 0)), (.v (.int .i64 8))]) H10) (
      doQ (qFieldAddr env.P 33 (some v40) 6) fun v54 =>
      doW (wStore env.P H9 31 (some v54) (some v51)) fun v55 H10 =>
      doQ (qFieldAddr env.P 33 (some v40) 0) fun v56 =>
      doQ (qLoad env.P (Heap.get H10) 5 (some v56)) fun v57 =>
      doQ (qBin env.P .eql 5 (.tmp 81) (.const (.int .u8 3)) (some v57) (some (a8 3))) fun v58 =>
      br (some v58) (
       doQ (qSlice env.P (Heap.get H10) 34 (some x0) (oi (.v (.int .i64 24))) (oi (.v (.int .i64 29))) (some none)) fun v59 =>
       doW (appRes env.P true H10 (⟨0, 85, Heap.gen H10 0 85, 0⟩ : Ref) (some 34) (some 34) (.v (.slice none 0 0)) v59) fun v60 H11 =>
       doW (bsRes env.P false true H11 (⟨0, 86, Heap.gen H11 0 86, 0⟩ : Ref) 34 1 (some [(0, (a8 0))])) fun v61 H12 =>
       doW (appRes env.P true H12 (⟨0, 87, Heap.gen H12 0 87, 0⟩ : Ref) (some 34) (some 34) v60 v61) fun v62 H13 =>
       doW (callRes env true (limf env) (limt env 0) H13 (⟨0, 88, Heap.gen H13 0 88, 0⟩ : Ref) (some (.fn (.func 67) [] [])) [v62]) fun v63 H14 =>
       doQ (qField env.P 26 (some v63) 0) fun v64 =>
       doQ (qFieldAddr env.P 33 (some v40) 5) fun v65 =>
       doW (wStore env.P H14 24 (some v65) (some v64)) fun v66 H15 =>
       doQ (qLoad env.P (Heap.get H15) 33 (some v40)) fun v67 =>
       doW (callRes env false (limf env) (limt env 0) H15 (⟨0, 92, Heap.gen H15 0 92, 0⟩ : Ref) (some (.fn (.func 65) [] [])) [v67]) fun v68 H16 =>
       doQ (qUn env.P .not (some v68)) fun v69 =>
       gQ v69 false (qLoad env.P (Heap.get H16) 33 (some v40)) fun v70 =>
       gW v69 false H16 (callRes env false (limf env) (limt env 0) H16 (⟨0, 96, Heap.gen H16 0 96, 0⟩ : Ref) (some (.fn (.func 66) [] [])) [v70]) fun v71 H17 =>
       gQ v69 false (qConvert env.P (Heap.get H17) (⟨0, 97, Heap.gen H17 0 97, 0⟩ : Ref) 34 9 (some v71)) fun v72 =>
       gQ v69 false (qVal (some x0)) fun v73 =>
       gQ v69 false (qVal (some v9)) fun v74 =>
       gQ v69 false (qSlice env.P (Heap.get H17) 34 (some v73) (some none) (oi v74) (some none)) fun v75 =>
       gQ v69 false (qConvert env.P (Heap.get H17) (⟨0, 101, Heap.gen H17 0 101, 0⟩ : Ref) 34 9 (some v75)) fun v76 =>
       gQ v69 false (qBin env.P .neq 9 (.tmp 97) (.tmp 101) (some v72) (some v76)) fun v77 =>
       doQ (pickF (some v69) (some (.v (.bool true))) (some v77)) fun v78 =>
       br (some v78) (
        doQ (qBuild env.P 33 (some [])) fun v79 =>
        doW (wStore env.P H17 33 (some v1) (some v79)) fun v80 H18 =>
        doQ (readCell env.P H18 v1 33) fun v81 =>
        Q (.tup [v81, (.v (.int .i64 0)), (.v (.int .i64 8))]) H18) (
        doQ (qLoad env.P (Heap.get H17) 33 (some v40)) fun v79 =>
        doW (wStore env.P H17 33 (some v1) (some v79)) fun v80 H18 =>
        doQ (readCell env.P H18 v1 33) fun v81 =>
        Q (.tup [v81, v9, (.v (.int .i64 0))]) H18)) (
       doQ (qLoad env.P (Heap.get H10) 33 (some v40)) fun v59 =>
       doW (callRes env false (limf env) (limt env 0) H10 (⟨0, 92, Heap.gen H10 0 92, 0⟩ : Ref) (some (.fn (.func 65) [] [])) [v59]) fun v60 H11 =>
       doQ (qUn env.P .not (some v60)) fun v61 =>
       gQ v61 false (qLoad env.P (Heap.get H11) 33 (some v40)) fun v62 =>
       gW v61 false H11 (callRes env false (limf env) (limt env 0) H11 (⟨0, 96, Heap.gen H11 0 96, 0⟩ : Ref) (some (.fn (.func 66) [] [])) [v62]) fun v63 H12 =>
       gQ v61 false (qConvert env.P (Heap.get H12) (⟨0, 97, Heap.gen H12 0 97, 0⟩ : Ref) 34 9 (some v63)) fun v64 =>
       gQ v61 false (qVal (some x0)) fun v65 =>
       gQ v61 false (qVal (some v9)) fun v66 =>
       gQ v61 false (qSlice env.P (Heap.get H12) 34 (some v65) (some none) (oi v66) (some none)) fun v67 =>
       gQ v61 false (qConvert env.P (Heap.get H12) (⟨0, 101, Heap.gen H12 0 101, 0⟩ : Ref) 34 9 (some v67)) fun v68 =>
       gQ v61 false (qBin env.P .neq 9 (.tmp 97) (.tmp 101) (some v64) (some v68)) fun v69 =>
       doQ (pickF (some v61) (some (.v (.bool true))) (some v69)) fun v70 =>
       br (some v70) (
        doQ (qBuild env.P 33 (some [])) fun v71 =>
        doW (wStore env.P H12 33 (some v1) (some v71)) fun v72 H13 =>
        doQ (readCell env.P H13 v1 33) fun v73 =>
        Q (.tup [v73, (.v (.int .i64 0)), (.v (.int .i64 8))]) H13) (
        doQ (qLoad env.P (Heap.get H12) 33 (some v40)) fun v71 =>
        doW (wStore env.P H12 33 (some v1) (some v71)) fun v72 H13 =>
        doQ (readCell env.P H13 v1 33) fun v73 =>
        Q (.tup [v73, v9, (.v (.int .i64 0))]) H13)))) (
     doQ (qFieldAddr env.P 33 (some v40) 0) fun v45 =>
     doQ (qLoad env.P (Heap.get H6) 5 (some v45)) fun v46 =>
     doQ (qBin env.P .eql 5 (.tmp 81) (.const (.int .u8 3)) (some v46) (some (a8 3))) fun v47 =>
     br (some v47) (
      doQ (qSlice env.P (Heap.get H6) 34 (some x0) (oi (.v (.int .i64 24))) (oi (.v (.int .i64 29))) (some none)) fun v48 =>
      doW (appRes env.P true H6 (⟨0, 85, Heap.gen H6 0 85, 0⟩ : Ref) (some 34) (some 34) (.v (.slice none 0 0)) v48) fun v49 H7 =>
      doW (bsRes env.P false true H7 (⟨0, 86, Heap.gen H7 0 86, 0⟩ : Ref) 34 1 (some [(0, (a8 0))])) fun v50 H8 =>
      doW (appRes env.P true H8 (⟨0, 87, Heap.gen H8 0 87, 0⟩ : Ref) (some 34) (some 34) v49 v50) fun v51 H9 =>
      doW (callRes env true (limf env) (limt env 0) H9 (⟨0, 88, Heap.gen H9 0 88, 0⟩ : Ref) (some (.fn (.func 67) [] [])) [v51]) fun v52 H10 =>
      doQ (qField env.P 26 (some v52) 0) fun v53 =>
      doQ (qFieldAddr env.P 33 (some v40) 5) fun v54 =>
      doW (wStore env.P H10 24 (some v54) (some v53)) fun v55 H11 =>
      doQ (qLoad env.P (Heap.get H11) 33 (some v40)) fun v56 =>
      doW (callRes env false (limf env) (limt env 0) H11 (⟨0, 92, Heap.gen H11 0 92, 0⟩ : Ref) (some (.fn (.func 65) [] [])) [v56]) fun v57 H12 =>
      doQ (qUn env.P .not (some v57)) fun v58 =>
      gQ v58 false (qLoad env.P (Heap.get H12) 33 (some v40)) fun v59 =>
      gW v58 false H12 (callRes env false (limf env) (limt env 0) H12 (⟨0, 96, Heap.gen H12 0 96, 0⟩ : Ref) (some (.fn (.func 66) [] [])) [v59]) fun v60 H13 =>
      gQ v58 false (qConvert env.P (Heap.get H13) (⟨0, 97, Heap.gen H13 0 97, 0⟩ : Ref) 34 9 (some v60)) fun v61 =>
      gQ v58 false (qVal (some x0)) fun v62 =>
      gQ v58 false (qVal (some v9)) fun v63 =>
      gQ v58 false (qSlice env.P (Heap.get H13) 34 (some v62) (some none) (oi v63) (some none)) fun v64 =>
      gQ v58 false (qConvert env.P (Heap.get H13) (⟨0, 101, Heap.gen H13 0 101, 0⟩ : Ref) 34 9 (some v64)) fun v65 =>
      gQ v58 false (qBin env.P .neq 9 (.tmp 97) (.tmp 101) (some v61) (some v65)) fun v66 =>
      doQ (pickF (some v58) (some (.v (.bool true))) (some v66)) fun v67 =>
      br (some v67) (
       doQ (qBuild env.P 33 (some [])) fun v68 =>
       doW (wStore env.P H13 33 (some v1) (some v68)) fun v69 H14 =>
       doQ (readCell env.P H14 v1 33) fun v70 =>
       Q (.tup [v70, (.v (.int .i64 0)), (.v (.int .i64 8))]) H14) (
       doQ (qLoad env.P (Heap.get H13) 33 (some v40)) fun v68 =>
       doW (wStore env.P H13 33 (some v1) (some v68)) fun v69 H14 =>
       doQ (readCell env.P H14 v1 33) fun v70 =>
       Q (.tup [v70, v9, (.v (.int .i64 0))]) H14)) (
      doQ (qLoad env.P (Heap.get H6) 33 (some v40)) fun v48 =>
      doW (callRes env false (limf env) (limt env 0) H6 (⟨0, 92, Heap.gen H6 0 92, 0⟩ : Ref) (some (.fn (.func 65) [] [])) [v48]) fun v49 H7 =>
      doQ (qUn env.P .not (some v49)) fun v50 =>
      gQ v50 false (qLoad env.P (Heap.get H7) 33 (some v40)) fun v51 =>
      gW v50 false H7 (callRes env false (limf env) (limt env 0) H7 (⟨0, 96, Heap.gen H7 0 96, 0⟩ : Ref) (some (.fn (.func 66) [] [])) [v51]) fun v52 H8 =>
      gQ v50 false (qConvert env.P (Heap.get H8) (⟨0, 97, Heap.gen H8 0 97, 0⟩ : Ref) 34 9 (some v52)) fun v53 =>
      gQ v50 false (qVal (some x0)) fun v54 =>
      gQ v50 false (qVal (some v9)) fun v55 =>
      gQ v50 false (qSlice env.P (Heap.get H8) 34 (some v54) (some none) (oi v55) (some none)) fun v56 =>
      gQ v50 false (qConvert env.P (Heap.get H8) (⟨0, 101, Heap.gen H8 0 101, 0⟩ : Ref) 34 9 (some v56)) fun v57 =>
      gQ v50 false (qBin env.P .neq 9 (.tmp 97) (.tmp 101) (some v53) (some v57)) fun v58 =>
      doQ (pickF (some v50) (some (.v (.bool true))) (some v58)) fun v59 =>
      br (some v59) (
       doQ (qBuild env.P 33 (some [])) fun v60 =>
       doW (wStore env.P H8 33 (some v1) (some v60)) fun v61 H9 =>
       doQ (readCell env.P H9 v1 33) fun v62 =>
       Q (.tup [v62, (.v (.int .i64 0)), (.v (.int .i64 8))]) H9) (
       doQ (qLoad env.P (Heap.get H8) 33 (some v40)) fun v60 =>
       doW (wStore env.P H8 33 (some v1) (some v60)) fun v61 H9 =>
       doQ (readCell env.P H9 v1 33) fun v62 =>
       Q (.tup [v62, v9, (.v (.int .i64 0))]) H9)))))
theorem vq_q9_Get : VC_q9_Get = fun g x0 H Q => wp env Try.f25 none 0 lv_q9_Get cu_q9_Get Q 500 [.code bd_q9_Get] (ofL g [(0, x0)]) H := by kernel_rfl
theorem vc_q9_Get (x0 : AV) (H : Heap) (Q : AV → Heap → Prop) (h : ∀ g, VC_q9_Get g x0 H Q) : GoL env Try.f25 0 [.code bd_q9_Get] [(0, x0)] H Q := ⟨fun g => wp_ok (by have h := h g; rw [vq_q9_Get] at h; exact h)⟩

/- q9_Check -/
def bd_q9_Check : Code := (Try.f27.body).getD .skip
def lv_q9_Check : Nat → Option (List Nat) := fun i => none
def cu_q9_Check : Nat → Bool := fun i => false
def VC_q9_Check (g : Nat → AV) (x0 : AV) (H : Heap) (Q : AV → Heap → Prop) : Prop :=
  doW (nRes H (⟨0, 1, Heap.gen H 0 1, 0⟩ : Ref) (qBox env.P (⟨0, 1, Heap.gen H 0 1, 0⟩ : Ref) 33 (some x0))) fun v1 H1 =>
  doQ (qLoad env.P (Heap.get H1) 33 (some v1)) fun v2 =>
  doW (callRes env true (limf env) (limt env 0) H1 (⟨0, 4, Heap.gen H1 0 4, 0⟩ : Ref) (some (.fn (.func 65) [] [])) [v2]) fun v3 H2 =>
  doQ (qUn env.P .not (some v3)) fun v4 =>
  br (some v4) (
   Q (.v (.int .i64 8)) H2) (
   Q (.v (.int .i64 0)) H2)
theorem vq_q9_Check : VC_q9_Check = fun g x0 H Q => wp env Try.f27 none 0 lv_q9_Check cu_q9_Check Q 500 [.code bd_q9_Check] (ofL g [(0, x0)]) H := by kernel_rfl
theorem vc_q9_Check (x0 : AV) (H : Heap) (Q : AV → Heap → Prop) (h : ∀ g, VC_q9_Check g x0 H Q) : GoL env Try.f27 0 [.code bd_q9_Check] [(0, x0)] H Q := ⟨fun g => wp_ok (by have h := h g; rw [vq_q9_Check] at h; exact h)⟩

/- q9_Plain -/
def bd_q9_Plain : Code := (Try.f28.body).getD .skip
def hd_q9_Plain_2 : List Item := (findLoop 2 400 [.code bd_q9_Plain]).getD []
def lv_q9_Plain : Nat → Option (List Nat) := fun i => cond (Nat.beq i 2) (some [3, 1]) (none)
def cu_q9_Plain : Nat → Bool := fun i => false
def VC_q9_Plain (g : Nat → AV) (x0 : AV) (H : Heap) (Q : AV → Heap → Prop) : Prop :=
  doW (nRes H (⟨0, 1, Heap.gen H 0 1, 0⟩ : Ref) (qBox env.P (⟨0, 1, Heap.gen H 0 1, 0⟩ : Ref) 33 (some x0))) fun v1 H1 =>
  GoL env Try.f28 0 hd_q9_Plain_2 [(3, (.v (.int .i64 0))), (1, v1)] H1 Q
theorem vq_q9_Plain : VC_q9_Plain = fun g x0 H Q => wp env Try.f28 none 0 lv_q9_Plain cu_q9_Plain Q 500 [.code bd_q9_Plain] (ofL g [(0, x0)]) H := by kernel_rfl
theorem vc_q9_Plain (x0 : AV) (H : Heap) (Q : AV → Heap → Prop) (h : ∀ g, VC_q9_Plain g x0 H Q) : GoL env Try.f28 0 [.code bd_q9_Plain] [(0, x0)] H Q := ⟨fun g => wp_ok (by have h := h g; rw [vq_q9_Plain] at h; exact h)⟩
def VC_q9_Plain_2 (g : Nat → AV) (x3 x1 : AV) (H : Heap) (Q : AV → Heap → Prop) : Prop :=
  doQ (qFieldAddr env.P 33 (some x1) 6) fun v1 =>
  doQ (qLoad env.P (Heap.get H) 31 (some v1)) fun v2 =>
  doQ (qBuiltin env.P false (Heap.get H) (⟨0, 7, Heap.gen H 0 7, 0⟩ : Ref) .len #[31] [v2]) fun v3 =>
  doQ (qBin env.P .lss 3 (.tmp 4) (.tmp 7) (some x3) (some v3)) fun v4 =>
  br (some v4) (
   doQ (qFieldAddr env.P 33 (some x1) 6) fun v5 =>
   doQ (qLoad env.P (Heap.get H) 31 (some v5)) fun v6 =>
   doQ (qIndexAddr env.P (Heap.get H) 31 (some v6) (some x3)) fun v7 =>
   doQ (qLoad env.P (Heap.get H) 21 (some v7)) fun v8 =>
   doQ (qBin env.P .eql 21 (.tmp 15) (.const (.int .i32 (-1))) (some v8) (some (.v (.int .i32 (-1))))) fun v9 =>
   br (some v9) (
    Q (.v (.bool false)) H) (
    doQ (qBin env.P .add 3 (.tmp 9) (.const (.int .i64 1)) (some x3) (some (.v (.int .i64 1)))) fun v10 =>
    GoL env Try.f28 0 hd_q9_Plain_2 [(3, v10), (1, x1)] H Q)) (
   Q (.v (.bool true)) H)
theorem vq_q9_Plain_2 : VC_q9_Plain_2 = fun g x3 x1 H Q => wp env Try.f28 none 0 lv_q9_Plain cu_q9_Plain Q 500 (bodyOf hd_q9_Plain_2) (ofL g [(3, x3), (1, x1)]) H := by kernel_rfl
theorem vc_q9_Plain_2 (x3 x1 : AV) (H : Heap) (Q : AV → Heap → Prop) (h : ∀ g, VC_q9_Plain_2 g x3 x1 H Q) : GoL env Try.f28 0 hd_q9_Plain_2 [(3, x3), (1, x1)] H Q := goL_body fun g => wp_ok (by have h := h g; rw [vq_q9_Plain_2] at h; exact h)

/- q9_Size -/
def bd_q9_Size : Code := (Try.f29.body).getD .skip
def lv_q9_Size : Nat → Option (List Nat) := fun i => none
def cu_q9_Size : Nat → Bool := fun i => false
def VC_q9_Size (g : Nat → AV) (x0 x1 : AV) (H : Heap) (Q : AV → Heap → Prop) : Prop :=
  doQ (qBin env.P .lss 3 (.tmp 5) (.const (.int .i64 1)) (some x1) (some (.v (.int .i64 1)))) fun v1 =>
  gQ v1 false (qVal (some x1)) fun v2 =>
  gQ v1 false (qBin env.P .gtr 3 (.tmp 8) (.const (.int .i64 64)) (some v2) (some (.v (.int .i64 64)))) fun v3 =>
  doQ (pickF (some v1) (some (.v (.bool true))) (some v3)) fun v4 =>
  br (some v4) (
   Q (.v (.int .i64 0)) H) (
   doQ (qBin env.P .eql 5 (.tmp 11) (.const (.int .u8 1)) (some x0) (some (a8 1))) fun v5 =>
   br (some v5) (
    doQ (qBin env.P .mul 3 (.const (.int .i64 4)) (.tmp 13) (some (.v (.int .i64 4))) (some x1)) fun v6 =>
    doQ (qBin env.P .add 3 (.const (.int .i64 37)) (.tmp 14) (some (.v (.int .i64 37))) (some v6)) fun v7 =>
    Q v7 H) (
    doQ (qBin env.P .eql 5 (.tmp 16) (.const (.int .u8 2)) (some x0) (some (a8 2))) fun v6 =>
    br (some v6) (
     Q (.v (.int .i64 24)) H) (
     doQ (qBin env.P .eql 5 (.tmp 18) (.const (.int .u8 3)) (some x0) (some (a8 3))) fun v7 =>
     br (some v7) (
      Q (.v (.int .i64 29)) H) (
      Q (.v (.int .i64 0)) H))))
theorem vq_q9_Size : VC_q9_Size = fun g x0 x1 H Q => wp env Try.f29 none 0 lv_q9_Size cu_q9_Size Q 500 [.code bd_q9_Size] (ofL g [(0, x0), (1, x1)]) H := by kernel_rfl
theorem vc_q9_Size (x0 x1 : AV) (H : Heap) (Q : AV → Heap → Prop) (h : ∀ g, VC_q9_Size g x0 x1 H Q) : GoL env Try.f29 0 [.code bd_q9_Size] [(0, x0), (1, x1)] H Q := ⟨fun g => wp_ok (by have h := h g; rw [vq_q9_Size] at h; exact h)⟩

/- q9_May -/
def bd_q9_May : Code := (Try.f65.body).getD .skip
def lv_q9_May : Nat → Option (List Nat) := fun i => none
def cu_q9_May : Nat → Bool := fun i => false
def VC_q9_May (g : Nat → AV) (x0 : AV) (H : Heap) (Q : AV → Heap → Prop) : Prop :=
  doW (nRes H (⟨0, 1, Heap.gen H 0 1, 0⟩ : Ref) (qBox env.P (⟨0, 1, Heap.gen H 0 1, 0⟩ : Ref) 33 (some x0))) fun v1 H1 =>
  doQ (qFieldAddr env.P 33 (some v1) 1) fun v2 =>
  doQ (qLoad env.P (Heap.get H1) 26 (some v2)) fun v3 =>
  doW (callRes env true (limf env) (limt env 0) H1 (⟨0, 6, Heap.gen H1 0 6, 0⟩ : Ref) (some (.fn (.func 101) [] [])) [v3]) fun v4 H2 =>
  doQ (qUn env.P .not (some v4)) fun v5 =>
  gQ v5 false (qFieldAddr env.P 33 (some v1) 2) fun v6 =>
  gQ v5 false (qLoad env.P (Heap.get H2) 3 (some v6)) fun v7 =>
  gQ v5 false (qBin env.P .lss 3 (.tmp 10) (.const (.int .i64 1)) (some v7) (some (.v (.int .i64 1)))) fun v8 =>
  doQ (pickF (some v5) (some (.v (.bool true))) (some v8)) fun v9 =>
  gQ v9 false (qFieldAddr env.P 33 (some v1) 2) fun v10 =>
  gQ v9 false (qLoad env.P (Heap.get H2) 3 (some v10)) fun v11 =>
  gQ v9 false (qBin env.P .geq 3 (.tmp 15) (.const (.int .i64 16777216)) (some v11) (some (.v (.int .i64 16777216)))) fun v12 =>
  doQ (pickF (some v9) (some (.v (.bool true))) (some v12)) fun v13 =>
  gQ v13 false (qFieldAddr env.P 33 (some v1) 3) fun v14 =>
  gQ v13 false (qLoad env.P (Heap.get H2) 30 (some v14)) fun v15 =>
  gW v13 false H2 (callRes env true (limf env) (limt env 0) H2 (⟨0, 21, Heap.gen H2 0 21, 0⟩ : Ref) (some (.fn (.func 102) [] [])) [v15]) fun v16 H3 =>
  gQ v13 false (qUn env.P .not (some v16)) fun v17 =>
  doQ (pickF (some v13) (some (.v (.bool true))) (some v17)) fun v18 =>
  br (some v18) (
   Q (.v (.bool false)) H3) (
   doQ (qFieldAddr env.P 33 (some v1) 5) fun v19 =>
   doQ (qLoad env.P (Heap.get H3) 24 (some v19)) fun v20 =>
   doQ (qBuild env.P 24 (some [])) fun v21 =>
   doQ (qBin env.P .eql 24 (.tmp 25) (.tmp 26) (some v20) (some v21)) fun v22 =>
   doQ (qFieldAddr env.P 33 (some v1) 0) fun v23 =>
   doQ (qLoad env.P (Heap.get H3) 5 (some v23)) fun v24 =>
   doQ (qBin env.P .eql 5 (.tmp 29) (.const (.int .u8 1)) (some v24) (some (a8 1))) fun v25 =>
   br (some v25) (
    gQ v22 true (qFieldAddr env.P 33 (some v1) 4) fun v26 =>
    gQ v22 true (qLoad env.P (Heap.get H3) 28 (some v26)) fun v27 =>
    gW v22 true H3 (callRes env true (limf env) (limt env 0) H3 (⟨0, 35, Heap.gen H3 0 35, 0⟩ : Ref) (some (.fn (.func 103) [] [])) [v27]) fun v28 H4 =>
    gQ v22 true (qVal (some v28)) fun v29 =>
    gQ v29 false (qFieldAddr env.P 33 (some v1) 4) fun v30 =>
    gQ v29 false (qLoad env.P (Heap.get H4) 28 (some v30)) fun v31 =>
    gW v29 false H4 (callRes env true (limf env) (limt env 0) H4 (⟨0, 39, Heap.gen H4 0 39, 0⟩ : Ref) (some (.fn (.func 104) [] [])) [v31]) fun v32 H5 =>
    gQ v22 true (pickF (some v29) (some (.v (.bool true))) (some v32)) fun v33 =>
    doQ (pickF (some v22) (some v33) (some (.v (.bool false)))) fun v34 =>
    gQ v34 true (qFieldAddr env.P 33 (some v1) 3) fun v35 =>
    gQ v34 true (qFieldAddr env.P 30 (some v35) 0) fun v36 =>
    gQ v34 true (qFieldAddr env.P 28 (some v36) 0) fun v37 =>
    gQ v34 true (qLoad env.P (Heap.get H5) 26 (some v37)) fun v38 =>
    gQ v34 true (qFieldAddr env.P 33 (some v1) 1) fun v39 =>
    gQ v34 true (qLoad env.P (Heap.get H5) 26 (some v39)) fun v40 =>
    gQ v34 true (qBin env.P .eql 26 (.tmp 46) (.tmp 48) (some v38) (some v40)) fun v41 =>
    doQ (pickF (some v34) (some v41) (some (.v (.bool false)))) fun v42 =>
    gQ v42 true (qFieldAddr env.P 33 (some v1) 6) fun v43 =>
    gQ v42 true (qLoad env.P (Heap.get H5) 31 (some v43)) fun v44 =>
    gQ v42 true (qBuiltin env.P false (Heap.get H5) (⟨0, 54, Heap.gen H5 0 54, 0⟩ : Ref) .len #[31] [v44]) fun v45 =>
    gQ v42 true (qFieldAddr env.P 33 (some v1) 3) fun v46 =>
    gQ v42 true (qFieldAddr env.P 30 (some v46) 1) fun v47 =>
    gQ v42 true (qLoad env.P (Heap.get H5) 3 (some v47)) fun v48 =>
    gQ v42 true (qBin env.P .eql 3 (.tmp 54) (.tmp 57) (some v45) (some v48)) fun v49 =>
    doQ (pickF (some v42) (some v49) (some (.v (.bool false)))) fun v50 =>
    gQ v50 true (qFieldAddr env.P 33 (some v1) 6) fun v51 =>
    gQ v50 true (qLoad env.P (Heap.get H5) 31 (some v51)) fun v52 =>
    gW v50 true H5 (callRes env true (limf env) (limt env 0) H5 (⟨0, 63, Heap.gen H5 0 63, 0⟩ : Ref) (some (.fn (.func 105) [] [])) [v52]) fun v53 H6 =>
    gQ v50 true (qBin env.P .eql 3 (.tmp 63) (.const (.int .i64 0)) (some v53) (some (.v (.int .i64 0)))) fun v54 =>
    doQ (pickF (some v50) (some v54) (some (.v (.bool false)))) fun v55 =>
    Q v55 H6) (
    doQ (qFieldAddr env.P 33 (some v1) 4) fun v26 =>
    doQ (qLoad env.P (Heap.get H3) 28 (some v26)) fun v27 =>
    doW (callRes env true (limf env) (limt env 0) H3 (⟨0, 68, Heap.gen H3 0 68, 0⟩ : Ref) (some (.fn (.func 103) [] [])) [v27]) fun v28 H4 =>
    doQ (qUn env.P .not (some v28)) fun v29 =>
    gQ v29 false (qFieldAddr env.P 33 (some v1) 6) fun v30 =>
    gQ v29 false (qLoad env.P (Heap.get H4) 31 (some v30)) fun v31 =>
    gQ v29 false (qBuiltin env.P false (Heap.get H4) (⟨0, 73, Heap.gen H4 0 73, 0⟩ : Ref) .len #[31] [v31]) fun v32 =>
    gQ v29 false (qBin env.P .gtr 3 (.tmp 73) (.const (.int .i64 0)) (some v32) (some (.v (.int .i64 0)))) fun v33 =>
    doQ (pickF (some v29) (some (.v (.bool true))) (some v33)) fun v34 =>
    br (some v34) (
     Q (.v (.bool false)) H4) (
     doQ (qFieldAddr env.P 33 (some v1) 0) fun v35 =>
     doQ (qLoad env.P (Heap.get H4) 5 (some v35)) fun v36 =>
     doQ (qBin env.P .eql 5 (.tmp 77) (.const (.int .u8 2)) (some v36) (some (a8 2))) fun v37 =>
     gQ v37 true (qVal (some v22)) fun v38 =>
     doQ (pickF (some v37) (some v38) (some (.v (.bool false)))) fun v39 =>
     gQ v39 false (qFieldAddr env.P 33 (some v1) 0) fun v40 =>
     gQ v39 false (qLoad env.P (Heap.get H4) 5 (some v40)) fun v41 =>
     gQ v39 false (qBin env.P .eql 5 (.tmp 84) (.const (.int .u8 3)) (some v41) (some (a8 3))) fun v42 =>
     gQ v39 false (qVal (some v42)) fun v43 =>
     gQ v43 true (qFieldAddr env.P 33 (some v1) 5) fun v44 =>
     gQ v43 true (qLoad env.P (Heap.get H4) 24 (some v44)) fun v45 =>
     gW v43 true H4 (callRes env true (limf env) (limt env 0) H4 (⟨0, 89, Heap.gen H4 0 89, 0⟩ : Ref) (some (.fn (.func 106) [] [])) [v45]) fun v46 H5 =>
     gQ v39 false (pickF (some v43) (some v46) (some (.v (.bool false)))) fun v47 =>
     doQ (pickF (some v39) (some (.v (.bool true))) (some v47)) fun v48 =>
     Q v48 H5)))
theorem vq_q9_May : VC_q9_May = fun g x0 H Q => wp env Try.f65 none 0 lv_q9_May cu_q9_May Q 500 [.code bd_q9_May] (ofL g [(0, x0)]) H := by kernel_rfl
theorem vc_q9_May (x0 : AV) (H : Heap) (Q : AV → Heap → Prop) (h : ∀ g, VC_q9_May g x0 H Q) : GoL env Try.f65 0 [.code bd_q9_May] [(0, x0)] H Q := ⟨fun g => wp_ok (by have h := h g; rw [vq_q9_May] at h; exact h)⟩

/- q9_Bytes -/
def bd_q9_Bytes : Code := (Try.f66.body).getD .skip
def lv_q9_Bytes : Nat → Option (List Nat) := fun i => none
def cu_q9_Bytes : Nat → Bool := fun i => false
def VC_q9_Bytes (g : Nat → AV) (x0 : AV) (H : Heap) (Q : AV → Heap → Prop) : Prop :=
  doW (nRes H (⟨0, 1, Heap.gen H 0 1, 0⟩ : Ref) (qBox env.P (⟨0, 1, Heap.gen H 0 1, 0⟩ : Ref) 33 (some x0))) fun v1 H1 =>
  doQ (qFieldAddr env.P 33 (some v1) 0) fun v2 =>
  doQ (qLoad env.P (Heap.get H1) 5 (some v2)) fun v3 =>
  doW (bsRes env.P true false H1 (⟨0, 6, Heap.gen H1 0 6, 0⟩ : Ref) 34 1 (some [(0, v3)])) fun v4 H2 =>
  doQ (qFieldAddr env.P 33 (some v1) 1) fun v5 =>
  doQ (qLoad env.P (Heap.get H2) 26 (some v5)) fun v6 =>
  doW (callRes env false (limf env) (limt env 0) H2 (⟨0, 9, Heap.gen H2 0 9, 0⟩ : Ref) (some (.fn (.func 107) [] [])) [v6]) fun v7 H3 =>
  doW (appRes env.P true H3 (⟨0, 10, Heap.gen H3 0 10, 0⟩ : Ref) (some 34) (some 34) v4 v7) fun v8 H4 =>
  doQ (qFieldAddr env.P 33 (some v1) 2) fun v9 =>
  doQ (qLoad env.P (Heap.get H4) 3 (some v9)) fun v10 =>
  doQ (qBin env.P .quo 3 (.tmp 13) (.const (.int .i64 65536)) (some v10) (some (.v (.int .i64 65536)))) fun v11 =>
  doQ (qConvert env.P (Heap.get H4) (⟨0, 15, Heap.gen H4 0 15, 0⟩ : Ref) 3 5 (some v11)) fun v12 =>
  doQ (qFieldAddr env.P 33 (some v1) 2) fun v13 =>
  doQ (qLoad env.P (Heap.get H4) 3 (some v13)) fun v14 =>
  doQ (qBin env.P .quo 3 (.tmp 17) (.const (.int .i64 256)) (some v14) (some (.v (.int .i64 256)))) fun v15 =>
  doQ (qBin env.P .rem 3 (.tmp 18) (.const (.int .i64 256)) (some v15) (some (.v (.int .i64 256)))) fun v16 =>
  doQ (qConvert env.P (Heap.get H4) (⟨0, 20, Heap.gen H4 0 20, 0⟩ : Ref) 3 5 (some v16)) fun v17 =>
  doQ (qFieldAddr env.P 33 (some v1) 2) fun v18 =>
  doQ (qLoad env.P (Heap.get H4) 3 (some v18)) fun v19 =>
  doQ (qBin env.P .rem 3 (.tmp 22) (.const (.int .i64 256)) (some v19) (some (.v (.int .i64 256)))) fun v20 =>
  doQ (qConvert env.P (Heap.get H4) (⟨0, 24, Heap.gen H4 0 24, 0⟩ : Ref) 3 5 (some v20)) fun v21 =>
  doW (bsRes env.P false true H4 (⟨0, 25, Heap.gen H4 0 25, 0⟩ : Ref) 34 3 (some [(0, v12), (1, v17), (2, v21)])) fun v22 H5 =>
  doW (appRes env.P true H5 (⟨0, 26, Heap.gen H5 0 26, 0⟩ : Ref) (some 34) (some 34) v8 v22) fun v23 H6 =>
  doQ (qFieldAddr env.P 33 (some v1) 3) fun v24 =>
  doQ (qFieldAddr env.P 30 (some v24) 0) fun v25 =>
  doQ (qLoad env.P (Heap.get H6) 28 (some v25)) fun v26 =>
  doW (callRes env true (limf env) (limt env 0) H6 (⟨0, 31, Heap.gen H6 0 31, 0⟩ : Ref) (some (.fn (.func 108) [] [])) [v26]) fun v27 H7 =>
  doW (appRes env.P true H7 (⟨0, 32, Heap.gen H7 0 32, 0⟩ : Ref) (some 34) (some 34) v23 v27) fun v28 H8 =>
  doQ (qFieldAddr env.P 33 (some v1) 3) fun v29 =>
  doQ (qFieldAddr env.P 30 (some v29) 1) fun v30 =>
  doQ (qLoad env.P (Heap.get H8) 3 (some v30)) fun v31 =>
  doQ (qConvert env.P (Heap.get H8) (⟨0, 37, Heap.gen H8 0 37, 0⟩ : Ref) 3 5 (some v31)) fun v32 =>
  doW (bsRes env.P false true H8 (⟨0, 38, Heap.gen H8 0 38, 0⟩ : Ref) 34 1 (some [(0, v32)])) fun v33 H9 =>
  doW (appRes env.P true H9 (⟨0, 39, Heap.gen H9 0 39, 0⟩ : Ref) (some 34) (some 34) v28 v33) fun v34 H10 =>
  doQ (qFieldAddr env.P 33 (some v1) 0) fun v35 =>
  doQ (qLoad env.P (Heap.get H10) 5 (some v35)) fun v36 =>
  doQ (qBin env.P .eql 5 (.tmp 41) (.const (.int .u8 1)) (some v36) (some (a8 1))) fun v37 =>
  br (some v37) (
   doQ (qFieldAddr env.P 33 (some v1) 4) fun v38 =>
   doQ (qLoad env.P (Heap.get H10) 28 (some v38)) fun v39 =>
   doW (callRes env true (limf env) (limt env 0) H10 (⟨0, 45, Heap.gen H10 0 45, 0⟩ : Ref) (some (.fn (.func 103) [] [])) [v39]) fun v40 H11 =>
   br (some v40) (
    doW (appRes env.P true H11 (⟨0, 47, Heap.gen H11 0 47, 0⟩ : Ref) (some 34) (some 3) v34 (.v (.int .i64 13))) fun v41 H12 =>
    doQ (qFieldAddr env.P 33 (some v1) 6) fun v42 =>
    doQ (qLoad env.P (Heap.get H12) 31 (some v42)) fun v43 =>
    doW (callRes env true (limf env) (limt env 0) H12 (⟨0, 56, Heap.gen H12 0 56, 0⟩ : Ref) (some (.fn (.func 109) [] [])) [v43]) fun v44 H13 =>
    doW (appRes env.P true H13 (⟨0, 57, Heap.gen H13 0 57, 0⟩ : Ref) (some 34) (some 34) v41 v44) fun v45 H14 =>
    doQ (qFieldAddr env.P 33 (some v1) 0) fun v46 =>
    doQ (qLoad env.P (Heap.get H14) 5 (some v46)) fun v47 =>
    doQ (qBin env.P .eql 5 (.tmp 59) (.const (.int .u8 3)) (some v47) (some (a8 3))) fun v48 =>
    br (some v48) (
     doQ (qFieldAddr env.P 33 (some v1) 5) fun v49 =>
     doQ (qLoad env.P (Heap.get H14) 24 (some v49)) fun v50 =>
     doQ (qBuild env.P 26 (some [(0, v50)])) fun v51 =>
     doW (callRes env true (limf env) (limt env 0) H14 (⟨0, 65, Heap.gen H14 0 65, 0⟩ : Ref) (some (.fn (.func 107) [] [])) [v51]) fun v52 H15 =>
     doQ (qSlice env.P (Heap.get H15) 34 (some v52) (some none) (oi (.v (.int .i64 5))) (some none)) fun v53 =>
     doW (appRes env.P true H15 (⟨0, 67, Heap.gen H15 0 67, 0⟩ : Ref) (some 34) (some 34) v45 v53) fun v54 H16 =>
     Q v54 H16) (
     Q v45 H14)) (
    doQ (qFieldAddr env.P 33 (some v1) 4) fun v41 =>
    doQ (qLoad env.P (Heap.get H11) 28 (some v41)) fun v42 =>
    doW (callRes env true (limf env) (limt env 0) H11 (⟨0, 51, Heap.gen H11 0 51, 0⟩ : Ref) (some (.fn (.func 108) [] [])) [v42]) fun v43 H12 =>
    doW (appRes env.P true H12 (⟨0, 52, Heap.gen H12 0 52, 0⟩ : Ref) (some 34) (some 34) v34 v43) fun v44 H13 =>
    doQ (qFieldAddr env.P 33 (some v1) 6) fun v45 =>
    doQ (qLoad env.P (Heap.get H13) 31 (some v45)) fun v46 =>
    doW (callRes env true (limf env) (limt env 0) H13 (⟨0, 56, Heap.gen H13 0 56, 0⟩ : Ref) (some (.fn (.func 109) [] [])) [v46]) fun v47 H14 =>
    doW (appRes env.P true H14 (⟨0, 57, Heap.gen H14 0 57, 0⟩ : Ref) (some 34) (some 34) v44 v47) fun v48 H15 =>
    doQ (qFieldAddr env.P 33 (some v1) 0) fun v49 =>
    doQ (qLoad env.P (Heap.get H15) 5 (some v49)) fun v50 =>
    doQ (qBin env.P .eql 5 (.tmp 59) (.const (.int .u8 3)) (some v50) (some (a8 3))) fun v51 =>
    br (some v51) (
     doQ (qFieldAddr env.P 33 (some v1) 5) fun v52 =>
     doQ (qLoad env.P (Heap.get H15) 24 (some v52)) fun v53 =>
     doQ (qBuild env.P 26 (some [(0, v53)])) fun v54 =>
     doW (callRes env true (limf env) (limt env 0) H15 (⟨0, 65, Heap.gen H15 0 65, 0⟩ : Ref) (some (.fn (.func 107) [] [])) [v54]) fun v55 H16 =>
     doQ (qSlice env.P (Heap.get H16) 34 (some v55) (some none) (oi (.v (.int .i64 5))) (some none)) fun v56 =>
     doW (appRes env.P true H16 (⟨0, 67, Heap.gen H16 0 67, 0⟩ : Ref) (some 34) (some 34) v48 v56) fun v57 H17 =>
     Q v57 H17) (
     Q v48 H15))) (
   doQ (qFieldAddr env.P 33 (some v1) 0) fun v38 =>
   doQ (qLoad env.P (Heap.get H10) 5 (some v38)) fun v39 =>
   doQ (qBin env.P .eql 5 (.tmp 59) (.const (.int .u8 3)) (some v39) (some (a8 3))) fun v40 =>
   br (some v40) (
    doQ (qFieldAddr env.P 33 (some v1) 5) fun v41 =>
    doQ (qLoad env.P (Heap.get H10) 24 (some v41)) fun v42 =>
    doQ (qBuild env.P 26 (some [(0, v42)])) fun v43 =>
    doW (callRes env true (limf env) (limt env 0) H10 (⟨0, 65, Heap.gen H10 0 65, 0⟩ : Ref) (some (.fn (.func 107) [] [])) [v43]) fun v44 H11 =>
    doQ (qSlice env.P (Heap.get H11) 34 (some v44) (some none) (oi (.v (.int .i64 5))) (some none)) fun v45 =>
    doW (appRes env.P true H11 (⟨0, 67, Heap.gen H11 0 67, 0⟩ : Ref) (some 34) (some 34) v34 v45) fun v46 H12 =>
    Q v46 H12) (
    Q v34 H10))
theorem vq_q9_Bytes : VC_q9_Bytes = fun g x0 H Q => wp env Try.f66 none 0 lv_q9_Bytes cu_q9_Bytes Q 500 [.code bd_q9_Bytes] (ofL g [(0, x0)]) H := by kernel_rfl
theorem vc_q9_Bytes (x0 : AV) (H : Heap) (Q : AV → Heap → Prop) (h : ∀ g, VC_q9_Bytes g x0 H Q) : GoL env Try.f66 0 [.code bd_q9_Bytes] [(0, x0)] H Q := ⟨fun g => wp_ok (by have h := h g; rw [vq_q9_Bytes] at h; exact h)⟩

/- q9_handle -/
def bd_q9_handle : Code := (Try.f67.body).getD .skip
def hd_q9_handle_3 : List Item := (findLoop 3 400 [.code bd_q9_handle]).getD []
def lv_q9_handle : Nat → Option (List Nat) := fun i => cond (Nat.beq i 3) (some [4, 0, 3, 2]) (none)
def cu_q9_handle : Nat → Bool := fun i => false
def VC_q9_handle (g : Nat → AV) (x0 : AV) (H : Heap) (Q : AV → Heap → Prop) : Prop :=
  doW (nRes H (⟨0, 2, Heap.gen H 0 2, 0⟩ : Ref) (qAlloc env.P (⟨0, 2, Heap.gen H 0 2, 0⟩ : Ref) 26)) fun v1 H1 =>
  GoL env Try.f67 0 hd_q9_handle_3 [(4, (.v (.int .i64 1))), (0, x0), (3, (.v (.int .i64 0))), (2, v1)] H1 Q
theorem vq_q9_handle : VC_q9_handle = fun g x0 H Q => wp env Try.f67 none 0 lv_q9_handle cu_q9_handle Q 500 [.code bd_q9_handle] (ofL g [(0, x0)]) H := by kernel_rfl
theorem vc_q9_handle (x0 : AV) (H : Heap) (Q : AV → Heap → Prop) (h : ∀ g, VC_q9_handle g x0 H Q) : GoL env Try.f67 0 [.code bd_q9_handle] [(0, x0)] H Q := ⟨fun g => wp_ok (by have h := h g; rw [vq_q9_handle] at h; exact h)⟩
def VC_q9_handle_3 (g : Nat → AV) (x4 x0 x3 x2 : AV) (H : Heap) (Q : AV → Heap → Prop) : Prop :=
  doQ (qBin env.P .lss 3 (.tmp 5) (.const (.int .i64 5)) (some x4) (some (.v (.int .i64 5)))) fun v1 =>
  br (some v1) (
   doQ (qBin env.P .mul 3 (.const (.int .i64 256)) (.tmp 9) (some (.v (.int .i64 256))) (some x3)) fun v2 =>
   doQ (qIndexAddr env.P (Heap.get H) 34 (some x0) (some x4)) fun v3 =>
   doQ (qLoad env.P (Heap.get H) 5 (some v3)) fun v4 =>
   doQ (qConvert env.P (Heap.get H) (⟨0, 15, Heap.gen H 0 15, 0⟩ : Ref) 5 3 (some v4)) fun v5 =>
   doQ (qBin env.P .add 3 (.tmp 10) (.tmp 15) (some v2) (some v5)) fun v6 =>
   doQ (qBin env.P .add 3 (.tmp 7) (.const (.int .i64 1)) (some x4) (some (.v (.int .i64 1)))) fun v7 =>
   GoL env Try.f67 0 hd_q9_handle_3 [(4, v7), (0, x0), (3, v6), (2, x2)] H Q) (
   doQ (qIndexAddr env.P (Heap.get H) 34 (some x0) (some (.v (.int .i64 0)))) fun v2 =>
   doQ (qLoad env.P (Heap.get H) 5 (some v2)) fun v3 =>
   doQ (qConvert env.P (Heap.get H) (⟨0, 21, Heap.gen H 0 21, 0⟩ : Ref) 3 22 (some x3)) fun v4 =>
   doQ (qBuild env.P 24 (some [(0, v3), (1, v4)])) fun v5 =>
   doQ (qIndexAddr env.P (Heap.get H) 34 (some x0) (some (.v (.int .i64 5)))) fun v6 =>
   doQ (qLoad env.P (Heap.get H) 5 (some v6)) fun v7 =>
   doQ (qBuild env.P 26 (some [(0, v5), (1, v7)])) fun v8 =>
   doW (wStore env.P H 26 (some x2) (some v8)) fun v9 H1 =>
   doQ (readCell env.P H1 x2 26) fun v10 =>
   Q v10 H1)
theorem vq_q9_handle_3 : VC_q9_handle_3 = fun g x4 x0 x3 x2 H Q => wp env Try.f67 none 0 lv_q9_handle cu_q9_handle Q 500 (bodyOf hd_q9_handle_3) (ofL g [(4, x4), (0, x0), (3, x3), (2, x2)]) H := by kernel_rfl
theorem vc_q9_handle_3 (x4 x0 x3 x2 : AV) (H : Heap) (Q : AV → Heap → Prop) (h : ∀ g, VC_q9_handle_3 g x4 x0 x3 x2 H Q) : GoL env Try.f67 0 hd_q9_handle_3 [(4, x4), (0, x0), (3, x3), (2, x2)] H Q := goL_body fun g => wp_ok (by have h := h g; rw [vq_q9_handle_3] at h; exact h)

/- q9_id -/
def bd_q9_id : Code := (Try.f68.body).getD .skip
def hd_q9_id_3 : List Item := (findLoop 3 400 [.code bd_q9_id]).getD []
def lv_q9_id : Nat → Option (List Nat) := fun i => cond (Nat.beq i 3) (some [4, 0, 3, 2]) (none)
def cu_q9_id : Nat → Bool := fun i => false
def VC_q9_id (g : Nat → AV) (x0 : AV) (H : Heap) (Q : AV → Heap → Prop) : Prop :=
  doW (nRes H (⟨0, 2, Heap.gen H 0 2, 0⟩ : Ref) (qAlloc env.P (⟨0, 2, Heap.gen H 0 2, 0⟩ : Ref) 28)) fun v1 H1 =>
  GoL env Try.f68 0 hd_q9_id_3 [(4, (.v (.int .i64 6))), (0, x0), (3, (.v (.int .i64 0))), (2, v1)] H1 Q
theorem vq_q9_id : VC_q9_id = fun g x0 H Q => wp env Try.f68 none 0 lv_q9_id cu_q9_id Q 500 [.code bd_q9_id] (ofL g [(0, x0)]) H := by kernel_rfl
theorem vc_q9_id (x0 : AV) (H : Heap) (Q : AV → Heap → Prop) (h : ∀ g, VC_q9_id g x0 H Q) : GoL env Try.f68 0 [.code bd_q9_id] [(0, x0)] H Q := ⟨fun g => wp_ok (by have h := h g; rw [vq_q9_id] at h; exact h)⟩
def VC_q9_id_3 (g : Nat → AV) (x4 x0 x3 x2 : AV) (H : Heap) (Q : AV → Heap → Prop) : Prop :=
  doQ (qBin env.P .lss 3 (.tmp 5) (.const (.int .i64 13)) (some x4) (some (.v (.int .i64 13)))) fun v1 =>
  br (some v1) (
   doQ (qBin env.P .mul 3 (.const (.int .i64 256)) (.tmp 9) (some (.v (.int .i64 256))) (some x3)) fun v2 =>
   doQ (qIndexAddr env.P (Heap.get H) 34 (some x0) (some x4)) fun v3 =>
   doQ (qLoad env.P (Heap.get H) 5 (some v3)) fun v4 =>
   doQ (qConvert env.P (Heap.get H) (⟨0, 15, Heap.gen H 0 15, 0⟩ : Ref) 5 3 (some v4)) fun v5 =>
   doQ (qBin env.P .add 3 (.tmp 10) (.tmp 15) (some v2) (some v5)) fun v6 =>
   doQ (qBin env.P .add 3 (.tmp 7) (.const (.int .i64 1)) (some x4) (some (.v (.int .i64 1)))) fun v7 =>
   GoL env Try.f68 0 hd_q9_id_3 [(4, v7), (0, x0), (3, v6), (2, x2)] H Q) (
   doQ (qSlice env.P (Heap.get H) 34 (some x0) (some none) (oi (.v (.int .i64 6))) (some none)) fun v2 =>
   doW (callRes env true (limf env) (limt env 0) H (⟨0, 19, Heap.gen H 0 19, 0⟩ : Ref) (some (.fn (.func 67) [] [])) [v2]) fun v3 H1 =>
   doQ (qBuild env.P 28 (some [(0, v3), (1, x3)])) fun v4 =>
   doW (wStore env.P H1 28 (some x2) (some v4)) fun v5 H2 =>
   doQ (readCell env.P H2 x2 28) fun v6 =>
   Q v6 H2)
theorem vq_q9_id_3 : VC_q9_id_3 = fun g x4 x0 x3 x2 H Q => wp env Try.f68 none 0 lv_q9_id cu_q9_id Q 500 (bodyOf hd_q9_id_3) (ofL g [(4, x4), (0, x0), (3, x3), (2, x2)]) H := by kernel_rfl
theorem vc_q9_id_3 (x4 x0 x3 x2 : AV) (H : Heap) (Q : AV → Heap → Prop) (h : ∀ g, VC_q9_id_3 g x4 x0 x3 x2 H Q) : GoL env Try.f68 0 hd_q9_id_3 [(4, x4), (0, x0), (3, x3), (2, x2)] H Q := goL_body fun g => wp_ok (by have h := h g; rw [vq_q9_id_3] at h; exact h)

/- q4_Get -/
def bd_q4_Get : Code := (Try.f69.body).getD .skip
def hd_q4_Get_5 : List Item := (findLoop 5 400 [.code bd_q4_Get]).getD []
def lv_q4_Get : Nat → Option (List Nat) := fun i => cond (Nat.beq i 5) (some [5, 4, 0]) (none)
def cu_q4_Get : Nat → Bool := fun i => false
def VC_q4_Get (g : Nat → AV) (x0 : AV) (H : Heap) (Q : AV → Heap → Prop) : Prop :=
  doQ (qBuiltin env.P false (Heap.get H) (⟨0, 8, Heap.gen H 0 8, 0⟩ : Ref) .len #[34] [x0]) fun v1 =>
  doQ (qBin env.P .gtr 3 (.tmp 8) (.const (.int .i64 256)) (some v1) (some (.v (.int .i64 256)))) fun v2 =>
  br (some v2) (
   Q (.tup [(.v (.slice none 0 0)), (.v (.int .i64 4))]) H) (
   GoL env Try.f69 0 hd_q4_Get_5 [(5, (.v (.int .i64 0))), (4, (.v (.slice none 0 0))), (0, x0)] H Q)
theorem vq_q4_Get : VC_q4_Get = fun g x0 H Q => wp env Try.f69 none 0 lv_q4_Get cu_q4_Get Q 500 [.code bd_q4_Get] (ofL g [(0, x0)]) H := by kernel_rfl
theorem vc_q4_Get (x0 : AV) (H : Heap) (Q : AV → Heap → Prop) (h : ∀ g, VC_q4_Get g x0 H Q) : GoL env Try.f69 0 [.code bd_q4_Get] [(0, x0)] H Q := ⟨fun g => wp_ok (by have h := h g; rw [vq_q4_Get] at h; exact h)⟩
def VC_q4_Get_5 (g : Nat → AV) (x5 x4 x0 : AV) (H : Heap) (Q : AV → Heap → Prop) : Prop :=
  doQ (qBin env.P .add 3 (.tmp 10) (.const (.int .i64 3)) (some x5) (some (.v (.int .i64 3)))) fun v1 =>
  doQ (qBuiltin env.P false (Heap.get H) (⟨0, 13, Heap.gen H 0 13, 0⟩ : Ref) .len #[34] [x0]) fun v2 =>
  doQ (qBin env.P .lss 3 (.tmp 11) (.tmp 13) (some v1) (some v2)) fun v3 =>
  br (some v3) (
   doQ (qIndexAddr env.P (Heap.get H) 34 (some x0) (some x5)) fun v4 =>
   doQ (qLoad env.P (Heap.get H) 5 (some v4)) fun v5 =>
   doQ (qConvert env.P (Heap.get H) (⟨0, 21, Heap.gen H 0 21, 0⟩ : Ref) 5 3 (some v5)) fun v6 =>
   doQ (qBin env.P .mul 3 (.const (.int .i64 16777216)) (.tmp 21) (some (.v (.int .i64 16777216))) (some v6)) fun v7 =>
   doQ (qBin env.P .add 3 (.tmp 24) (.const (.int .i64 1)) (some x5) (some (.v (.int .i64 1)))) fun v8 =>
   doQ (qIndexAddr env.P (Heap.get H) 34 (some x0) (some v8)) fun v9 =>
   doQ (qLoad env.P (Heap.get H) 5 (some v9)) fun v10 =>
   doQ (qConvert env.P (Heap.get H) (⟨0, 28, Heap.gen H 0 28, 0⟩ : Ref) 5 3 (some v10)) fun v11 =>
   doQ (qBin env.P .mul 3 (.const (.int .i64 65536)) (.tmp 28) (some (.v (.int .i64 65536))) (some v11)) fun v12 =>
   doQ (qBin env.P .add 3 (.tmp 22) (.tmp 29) (some v7) (some v12)) fun v13 =>
   doQ (qBin env.P .add 3 (.tmp 32) (.const (.int .i64 2)) (some x5) (some (.v (.int .i64 2)))) fun v14 =>
   doQ (qIndexAddr env.P (Heap.get H) 34 (some x0) (some v14)) fun v15 =>
   doQ (qLoad env.P (Heap.get H) 5 (some v15)) fun v16 =>
   doQ (qConvert env.P (Heap.get H) (⟨0, 36, Heap.gen H 0 36, 0⟩ : Ref) 5 3 (some v16)) fun v17 =>
   doQ (qBin env.P .mul 3 (.const (.int .i64 256)) (.tmp 36) (some (.v (.int .i64 256))) (some v17)) fun v18 =>
   doQ (qBin env.P .add 3 (.tmp 30) (.tmp 37) (some v13) (some v18)) fun v19 =>
   doQ (qBin env.P .add 3 (.tmp 40) (.const (.int .i64 3)) (some x5) (some (.v (.int .i64 3)))) fun v20 =>
   doQ (qIndexAddr env.P (Heap.get H) 34 (some x0) (some v20)) fun v21 =>
   doQ (qLoad env.P (Heap.get H) 5 (some v21)) fun v22 =>
   doQ (qConvert env.P (Heap.get H) (⟨0, 44, Heap.gen H 0 44, 0⟩ : Ref) 5 3 (some v22)) fun v23 =>
   doQ (qBin env.P .add 3 (.tmp 38) (.tmp 44) (some v19) (some v23)) fun v24 =>
   doQ (qBin env.P .eql 3 (.tmp 46) (.const (.int .i64 4294967295)) (some v24) (some (.v (.int .i64 4294967295)))) fun v25 =>
   br (some v25) (
    doW (bsRes env.P false true H (⟨0, 49, Heap.gen H 0 49, 0⟩ : Ref) 31 1 (some [(0, (.v (.int .i32 (-1))))])) fun v26 H1 =>
    doW (appRes env.P true H1 (⟨0, 50, Heap.gen H1 0 50, 0⟩ : Ref) (some 31) (some 31) x4 v26) fun v27 H2 =>
    doQ (qBin env.P .add 3 (.tmp 15) (.const (.int .i64 4)) (some x5) (some (.v (.int .i64 4)))) fun v28 =>
    GoL env Try.f69 0 hd_q4_Get_5 [(5, v28), (4, v27), (0, x0)] H2 Q) (
    doW (callRes env true (limf env) (limt env 0) H (⟨0, 52, Heap.gen H 0 52, 0⟩ : Ref) (some (.fn (.func 110) [] [])) [v24]) fun v26 H1 =>
    br (some v26) (
     doQ (qConvert env.P (Heap.get H1) (⟨0, 55, Heap.gen H1 0 55, 0⟩ : Ref) 3 21 (some v24)) fun v27 =>
     doW (bsRes env.P false true H1 (⟨0, 56, Heap.gen H1 0 56, 0⟩ : Ref) 31 1 (some [(0, v27)])) fun v28 H2 =>
     doW (appRes env.P true H2 (⟨0, 57, Heap.gen H2 0 57, 0⟩ : Ref) (some 31) (some 31) x4 v28) fun v29 H3 =>
     doQ (qBin env.P .add 3 (.tmp 15) (.const (.int .i64 4)) (some x5) (some (.v (.int .i64 4)))) fun v30 =>
     GoL env Try.f69 0 hd_q4_Get_5 [(5, v30), (4, v29), (0, x0)] H3 Q) (
     Q (.tup [(.v (.slice none 0 0)), (.v (.int .i64 8))]) H1))) (
   doQ (qBuiltin env.P false (Heap.get H) (⟨0, 59, Heap.gen H 0 59, 0⟩ : Ref) .len #[34] [x0]) fun v4 =>
   doQ (qBin env.P .rem 3 (.tmp 59) (.const (.int .i64 4)) (some v4) (some (.v (.int .i64 4)))) fun v5 =>
   doQ (qBin env.P .neq 3 (.tmp 60) (.const (.int .i64 0)) (some v5) (some (.v (.int .i64 0)))) fun v6 =>
   br (some v6) (
    Q (.tup [(.v (.slice none 0 0)), (.v (.int .i64 8))]) H) (
    Q (.tup [x4, (.v (.int .i64 0))]) H))
theorem vq_q4_Get_5 : VC_q4_Get_5 = fun g x5 x4 x0 H Q => wp env Try.f69 none 0 lv_q4_Get cu_q4_Get Q 500 (bodyOf hd_q4_Get_5) (ofL g [(5, x5), (4, x4), (0, x0)]) H := by kernel_rfl
theorem vc_q4_Get_5 (x5 x4 x0 : AV) (H : Heap) (Q : AV → Heap → Prop) (h : ∀ g, VC_q4_Get_5 g x5 x4 x0 H Q) : GoL env Try.f69 0 hd_q4_Get_5 [(5, x5), (4, x4), (0, x0)] H Q := goL_body fun g => wp_ok (by have h := h g; rw [vq_q4_Get_5] at h; exact h)

/- q5_MayHandle -/
def bd_q5_MayHandle : Code := (Try.f101.body).getD .skip
def lv_q5_MayHandle : Nat → Option (List Nat) := fun i => none
def cu_q5_MayHandle : Nat → Bool := fun i => false
def VC_q5_MayHandle (g : Nat → AV) (x0 : AV) (H : Heap) (Q : AV → Heap → Prop) : Prop :=
  doW (nRes H (⟨0, 1, Heap.gen H 0 1, 0⟩ : Ref) (qBox env.P (⟨0, 1, Heap.gen H 0 1, 0⟩ : Ref) 26 (some x0))) fun v1 H1 =>
  doQ (qFieldAddr env.P 26 (some v1) 0) fun v2 =>
  doQ (qLoad env.P (Heap.get H1) 24 (some v2)) fun v3 =>
  doW (callRes env true (limf env) (limt env 0) H1 (⟨0, 5, Heap.gen H1 0 5, 0⟩ : Ref) (some (.fn (.func 106) [] [])) [v3]) fun v4 H2 =>
  gQ v4 true (qFieldAddr env.P 26 (some v1) 1) fun v5 =>
  gQ v4 true (qLoad env.P (Heap.get H2) 5 (some v5)) fun v6 =>
  gQ v4 true (qBin env.P .lss 5 (.tmp 8) (.const (.int .u8 8)) (some v6) (some (a8 8))) fun v7 =>
  doQ (pickF (some v4) (some v7) (some (.v (.bool false)))) fun v8 =>
  Q v8 H2
theorem vq_q5_MayHandle : VC_q5_MayHandle = fun g x0 H Q => wp env Try.f101 none 0 lv_q5_MayHandle cu_q5_MayHandle Q 500 [.code bd_q5_MayHandle] (ofL g [(0, x0)]) H := by kernel_rfl
theorem vc_q5_MayHandle (x0 : AV) (H : Heap) (Q : AV → Heap → Prop) (h : ∀ g, VC_q5_MayHandle g x0 H Q) : GoL env Try.f101 0 [.code bd_q5_MayHandle] [(0, x0)] H Q := ⟨fun g => wp_ok (by have h := h g; rw [vq_q5_MayHandle] at h; exact h)⟩

/- q5_MaySpan -/
def bd_q5_MaySpan : Code := (Try.f102.body).getD .skip
def lv_q5_MaySpan : Nat → Option (List Nat) := fun i => none
def cu_q5_MaySpan : Nat → Bool := fun i => false
def VC_q5_MaySpan (g : Nat → AV) (x0 : AV) (H : Heap) (Q : AV → Heap → Prop) : Prop :=
  doW (nRes H (⟨0, 1, Heap.gen H 0 1, 0⟩ : Ref) (qBox env.P (⟨0, 1, Heap.gen H 0 1, 0⟩ : Ref) 30 (some x0))) fun v1 H1 =>
  doQ (qFieldAddr env.P 30 (some v1) 0) fun v2 =>
  doQ (qLoad env.P (Heap.get H1) 28 (some v2)) fun v3 =>
  doW (callRes env true (limf env) (limt env 0) H1 (⟨0, 5, Heap.gen H1 0 5, 0⟩ : Ref) (some (.fn (.func 104) [] [])) [v3]) fun v4 H2 =>
  gQ v4 true (qFieldAddr env.P 30 (some v1) 1) fun v5 =>
  gQ v4 true (qLoad env.P (Heap.get H2) 3 (some v5)) fun v6 =>
  gQ v4 true (qBin env.P .geq 3 (.tmp 8) (.const (.int .i64 1)) (some v6) (some (.v (.int .i64 1)))) fun v7 =>
  doQ (pickF (some v4) (some v7) (some (.v (.bool false)))) fun v8 =>
  gQ v8 true (qFieldAddr env.P 30 (some v1) 1) fun v9 =>
  gQ v8 true (qLoad env.P (Heap.get H2) 3 (some v9)) fun v10 =>
  gQ v8 true (qBin env.P .leq 3 (.tmp 13) (.const (.int .i64 64)) (some v10) (some (.v (.int .i64 64)))) fun v11 =>
  doQ (pickF (some v8) (some v11) (some (.v (.bool false)))) fun v12 =>
  gQ v12 true (qFieldAddr env.P 30 (some v1) 0) fun v13 =>
  gQ v12 true (qFieldAddr env.P 28 (some v13) 1) fun v14 =>
  gQ v12 true (qLoad env.P (Heap.get H2) 3 (some v14)) fun v15 =>
  gQ v12 true (qFieldAddr env.P 30 (some v1) 1) fun v16 =>
  gQ v12 true (qLoad env.P (Heap.get H2) 3 (some v16)) fun v17 =>
  gQ v12 true (qBin env.P .sub 3 (.const (.int .i64 1099511627777)) (.tmp 21) (some (.v (.int .i64 1099511627777))) (some v17)) fun v18 =>
  gQ v12 true (qBin env.P .leq 3 (.tmp 19) (.tmp 22) (some v15) (some v18)) fun v19 =>
  doQ (pickF (some v12) (some v19) (some (.v (.bool false)))) fun v20 =>
  Q v20 H2
theorem vq_q5_MaySpan : VC_q5_MaySpan = fun g x0 H Q => wp env Try.f102 none 0 lv_q5_MaySpan cu_q5_MaySpan Q 500 [.code bd_q5_MaySpan] (ofL g [(0, x0)]) H := by kernel_rfl
theorem vc_q5_MaySpan (x0 : AV) (H : Heap) (Q : AV → Heap → Prop) (h : ∀ g, VC_q5_MaySpan g x0 H Q) : GoL env Try.f102 0 [.code bd_q5_MaySpan] [(0, x0)] H Q := ⟨fun g => wp_ok (by have h := h g; rw [vq_q5_MaySpan] at h; exact h)⟩

/- q9_zero -/
def bd_q9_zero : Code := (Try.f103.body).getD .skip
def lv_q9_zero : Nat → Option (List Nat) := fun i => none
def cu_q9_zero : Nat → Bool := fun i => false
def VC_q9_zero (g : Nat → AV) (x0 : AV) (H : Heap) (Q : AV → Heap → Prop) : Prop :=
  doW (nRes H (⟨0, 1, Heap.gen H 0 1, 0⟩ : Ref) (qBox env.P (⟨0, 1, Heap.gen H 0 1, 0⟩ : Ref) 28 (some x0))) fun v1 H1 =>
  doQ (qLoad env.P (Heap.get H1) 28 (some v1)) fun v2 =>
  doQ (qBuild env.P 28 (some [])) fun v3 =>
  doQ (qBin env.P .eql 28 (.tmp 3) (.tmp 4) (some v2) (some v3)) fun v4 =>
  Q v4 H1
theorem vq_q9_zero : VC_q9_zero = fun g x0 H Q => wp env Try.f103 none 0 lv_q9_zero cu_q9_zero Q 500 [.code bd_q9_zero] (ofL g [(0, x0)]) H := by kernel_rfl
theorem vc_q9_zero (x0 : AV) (H : Heap) (Q : AV → Heap → Prop) (h : ∀ g, VC_q9_zero g x0 H Q) : GoL env Try.f103 0 [.code bd_q9_zero] [(0, x0)] H Q := ⟨fun g => wp_ok (by have h := h g; rw [vq_q9_zero] at h; exact h)⟩

/- q5_May -/
def bd_q5_May : Code := (Try.f104.body).getD .skip
def lv_q5_May : Nat → Option (List Nat) := fun i => none
def cu_q5_May : Nat → Bool := fun i => false
def VC_q5_May (g : Nat → AV) (x0 : AV) (H : Heap) (Q : AV → Heap → Prop) : Prop :=
  doW (nRes H (⟨0, 1, Heap.gen H 0 1, 0⟩ : Ref) (qBox env.P (⟨0, 1, Heap.gen H 0 1, 0⟩ : Ref) 28 (some x0))) fun v1 H1 =>
  doQ (qFieldAddr env.P 28 (some v1) 0) fun v2 =>
  doQ (qLoad env.P (Heap.get H1) 26 (some v2)) fun v3 =>
  doW (callRes env true (limf env) (limt env 0) H1 (⟨0, 5, Heap.gen H1 0 5, 0⟩ : Ref) (some (.fn (.func 101) [] [])) [v3]) fun v4 H2 =>
  gQ v4 true (qFieldAddr env.P 28 (some v1) 1) fun v5 =>
  gQ v4 true (qLoad env.P (Heap.get H2) 3 (some v5)) fun v6 =>
  gQ v4 true (qBin env.P .geq 3 (.tmp 8) (.const (.int .i64 1)) (some v6) (some (.v (.int .i64 1)))) fun v7 =>
  doQ (pickF (some v4) (some v7) (some (.v (.bool false)))) fun v8 =>
  gQ v8 true (qFieldAddr env.P 28 (some v1) 1) fun v9 =>
  gQ v8 true (qLoad env.P (Heap.get H2) 3 (some v9)) fun v10 =>
  gQ v8 true (qBin env.P .leq 3 (.tmp 13) (.const (.int .i64 1099511627776)) (some v10) (some (.v (.int .i64 1099511627776)))) fun v11 =>
  doQ (pickF (some v8) (some v11) (some (.v (.bool false)))) fun v12 =>
  Q v12 H2
theorem vq_q5_May : VC_q5_May = fun g x0 H Q => wp env Try.f104 none 0 lv_q5_May cu_q5_May Q 500 [.code bd_q5_May] (ofL g [(0, x0)]) H := by kernel_rfl
theorem vc_q5_May (x0 : AV) (H : Heap) (Q : AV → Heap → Prop) (h : ∀ g, VC_q5_May g x0 H Q) : GoL env Try.f104 0 [.code bd_q5_May] [(0, x0)] H Q := ⟨fun g => wp_ok (by have h := h g; rw [vq_q5_May] at h; exact h)⟩

/- q4_Check -/
def bd_q4_Check : Code := (Try.f105.body).getD .skip
def hd_q4_Check_4 : List Item := (findLoop 4 400 [.code bd_q4_Check]).getD []
def lv_q4_Check : Nat → Option (List Nat) := fun i => cond (Nat.beq i 4) (some [3, 0]) (none)
def cu_q4_Check : Nat → Bool := fun i => false
def VC_q4_Check (g : Nat → AV) (x0 : AV) (H : Heap) (Q : AV → Heap → Prop) : Prop :=
  doQ (qBuiltin env.P false (Heap.get H) (⟨0, 5, Heap.gen H 0 5, 0⟩ : Ref) .len #[31] [x0]) fun v1 =>
  doQ (qBin env.P .gtr 3 (.tmp 5) (.const (.int .i64 64)) (some v1) (some (.v (.int .i64 64)))) fun v2 =>
  br (some v2) (
   Q (.v (.int .i64 4)) H) (
   GoL env Try.f105 0 hd_q4_Check_4 [(3, (.v (.int .i64 0))), (0, x0)] H Q)
theorem vq_q4_Check : VC_q4_Check = fun g x0 H Q => wp env Try.f105 none 0 lv_q4_Check cu_q4_Check Q 500 [.code bd_q4_Check] (ofL g [(0, x0)]) H := by kernel_rfl
theorem vc_q4_Check (x0 : AV) (H : Heap) (Q : AV → Heap → Prop) (h : ∀ g, VC_q4_Check g x0 H Q) : GoL env Try.f105 0 [.code bd_q4_Check] [(0, x0)] H Q := ⟨fun g => wp_ok (by have h := h g; rw [vq_q4_Check] at h; exact h)⟩
def VC_q4_Check_4 (g : Nat → AV) (x3 x0 : AV) (H : Heap) (Q : AV → Heap → Prop) : Prop :=
  doQ (qBuiltin env.P false (Heap.get H) (⟨0, 9, Heap.gen H 0 9, 0⟩ : Ref) .len #[31] [x0]) fun v1 =>
  doQ (qBin env.P .lss 3 (.tmp 7) (.tmp 9) (some x3) (some v1)) fun v2 =>
  br (some v2) (
   doQ (qIndexAddr env.P (Heap.get H) 31 (some x0) (some x3)) fun v3 =>
   doQ (qLoad env.P (Heap.get H) 21 (some v3)) fun v4 =>
   doQ (qBin env.P .neq 21 (.tmp 16) (.const (.int .i32 (-1))) (some v4) (some (.v (.int .i32 (-1))))) fun v5 =>
   gQ v5 true (qVal (some x0)) fun v6 =>
   gQ v5 true (qVal (some x3)) fun v7 =>
   gQ v5 true (qIndexAddr env.P (Heap.get H) 31 (some v6) (some v7)) fun v8 =>
   gQ v5 true (qLoad env.P (Heap.get H) 21 (some v8)) fun v9 =>
   gQ v5 true (qConvert env.P (Heap.get H) (⟨0, 23, Heap.gen H 0 23, 0⟩ : Ref) 21 3 (some v9)) fun v10 =>
   gW v5 true H (callRes env true (limf env) (limt env 0) H (⟨0, 24, Heap.gen H 0 24, 0⟩ : Ref) (some (.fn (.func 110) [] [])) [v10]) fun v11 H1 =>
   gQ v5 true (qUn env.P .not (some v11)) fun v12 =>
   doQ (pickF (some v5) (some v12) (some (.v (.bool false)))) fun v13 =>
   br (some v13) (
    Q (.v (.int .i64 8)) H1) (
    doQ (qBin env.P .add 3 (.tmp 11) (.const (.int .i64 1)) (some x3) (some (.v (.int .i64 1)))) fun v14 =>
    GoL env Try.f105 0 hd_q4_Check_4 [(3, v14), (0, x0)] H1 Q)) (
   Q (.v (.int .i64 0)) H)
theorem vq_q4_Check_4 : VC_q4_Check_4 = fun g x3 x0 H Q => wp env Try.f105 none 0 lv_q4_Check cu_q4_Check Q 500 (bodyOf hd_q4_Check_4) (ofL g [(3, x3), (0, x0)]) H := by kernel_rfl
theorem vc_q4_Check_4 (x3 x0 : AV) (H : Heap) (Q : AV → Heap → Prop) (h : ∀ g, VC_q4_Check_4 g x3 x0 H Q) : GoL env Try.f105 0 hd_q4_Check_4 [(3, x3), (0, x0)] H Q := goL_body fun g => wp_ok (by have h := h g; rw [vq_q4_Check_4] at h; exact h)

/- q1_May -/
def bd_q1_May : Code := (Try.f106.body).getD .skip
def lv_q1_May : Nat → Option (List Nat) := fun i => none
def cu_q1_May : Nat → Bool := fun i => false
def VC_q1_May (g : Nat → AV) (x0 : AV) (H : Heap) (Q : AV → Heap → Prop) : Prop :=
  doW (nRes H (⟨0, 1, Heap.gen H 0 1, 0⟩ : Ref) (qBox env.P (⟨0, 1, Heap.gen H 0 1, 0⟩ : Ref) 24 (some x0))) fun v1 H1 =>
  doQ (qFieldAddr env.P 24 (some v1) 0) fun v2 =>
  doQ (qLoad env.P (Heap.get H1) 5 (some v2)) fun v3 =>
  doQ (qBin env.P .leq 5 (.tmp 4) (.const (.int .u8 15)) (some v3) (some (a8 15))) fun v4 =>
  Q v4 H1
theorem vq_q1_May : VC_q1_May = fun g x0 H Q => wp env Try.f106 none 0 lv_q1_May cu_q1_May Q 500 [.code bd_q1_May] (ofL g [(0, x0)]) H := by kernel_rfl
theorem vc_q1_May (x0 : AV) (H : Heap) (Q : AV → Heap → Prop) (h : ∀ g, VC_q1_May g x0 H Q) : GoL env Try.f106 0 [.code bd_q1_May] [(0, x0)] H Q := ⟨fun g => wp_ok (by have h := h g; rw [vq_q1_May] at h; exact h)⟩

/- q5_Named -/
def bd_q5_Named : Code := (Try.f107.body).getD .skip
def lv_q5_Named : Nat → Option (List Nat) := fun i => none
def cu_q5_Named : Nat → Bool := fun i => false
def VC_q5_Named (g : Nat → AV) (x0 : AV) (H : Heap) (Q : AV → Heap → Prop) : Prop :=
  doW (nRes H (⟨0, 1, Heap.gen H 0 1, 0⟩ : Ref) (qBox env.P (⟨0, 1, Heap.gen H 0 1, 0⟩ : Ref) 26 (some x0))) fun v1 H1 =>
  doQ (qFieldAddr env.P 26 (some v1) 0) fun v2 =>
  doQ (qFieldAddr env.P 24 (some v2) 0) fun v3 =>
  doQ (qLoad env.P (Heap.get H1) 5 (some v3)) fun v4 =>
  doW (bsRes env.P true false H1 (⟨0, 7, Heap.gen H1 0 7, 0⟩ : Ref) 34 1 (some [(0, v4)])) fun v5 H2 =>
  doQ (qFieldAddr env.P 26 (some v1) 0) fun v6 =>
  doQ (qFieldAddr env.P 24 (some v6) 1) fun v7 =>
  doQ (qLoad env.P (Heap.get H2) 22 (some v7)) fun v8 =>
  doQ (qConvert env.P (Heap.get H2) (⟨0, 11, Heap.gen H2 0 11, 0⟩ : Ref) 22 3 (some v8)) fun v9 =>
  doW (callRes env false (limf env) (limt env 0) H2 (⟨0, 12, Heap.gen H2 0 12, 0⟩ : Ref) (some (.fn (.func 134) [] [])) [v9, (.v (.int .i64 4))]) fun v10 H3 =>
  doW (appRes env.P true H3 (⟨0, 13, Heap.gen H3 0 13, 0⟩ : Ref) (some 34) (some 34) v5 v10) fun v11 H4 =>
  doQ (qFieldAddr env.P 26 (some v1) 1) fun v12 =>
  doQ (qLoad env.P (Heap.get H4) 5 (some v12)) fun v13 =>
  doW (bsRes env.P false true H4 (⟨0, 17, Heap.gen H4 0 17, 0⟩ : Ref) 34 1 (some [(0, v13)])) fun v14 H5 =>
  doW (appRes env.P true H5 (⟨0, 18, Heap.gen H5 0 18, 0⟩ : Ref) (some 34) (some 34) v11 v14) fun v15 H6 =>
  Q v15 H6
theorem vq_q5_Named : VC_q5_Named = fun g x0 H Q => wp env Try.f107 none 0 lv_q5_Named cu_q5_Named Q 500 [.code bd_q5_Named] (ofL g [(0, x0)]) H := by kernel_rfl
theorem vc_q5_Named (x0 : AV) (H : Heap) (Q : AV → Heap → Prop) (h : ∀ g, VC_q5_Named g x0 H Q) : GoL env Try.f107 0 [.code bd_q5_Named] [(0, x0)] H Q := ⟨fun g => wp_ok (by have h := h g; rw [vq_q5_Named] at h; exact h)⟩

/- q5_Bytes -/
def bd_q5_Bytes : Code := (Try.f108.body).getD .skip
def lv_q5_Bytes : Nat → Option (List Nat) := fun i => none
def cu_q5_Bytes : Nat → Bool := fun i => false
def VC_q5_Bytes (g : Nat → AV) (x0 : AV) (H : Heap) (Q : AV → Heap → Prop) : Prop :=
  doW (nRes H (⟨0, 1, Heap.gen H 0 1, 0⟩ : Ref) (qBox env.P (⟨0, 1, Heap.gen H 0 1, 0⟩ : Ref) 28 (some x0))) fun v1 H1 =>
  doQ (qFieldAddr env.P 28 (some v1) 0) fun v2 =>
  doQ (qLoad env.P (Heap.get H1) 26 (some v2)) fun v3 =>
  doW (callRes env false (limf env) (limt env 0) H1 (⟨0, 5, Heap.gen H1 0 5, 0⟩ : Ref) (some (.fn (.func 107) [] [])) [v3]) fun v4 H2 =>
  doQ (qFieldAddr env.P 28 (some v1) 1) fun v5 =>
  doQ (qLoad env.P (Heap.get H2) 3 (some v5)) fun v6 =>
  doW (callRes env false (limf env) (limt env 0) H2 (⟨0, 8, Heap.gen H2 0 8, 0⟩ : Ref) (some (.fn (.func 134) [] [])) [v6, (.v (.int .i64 7))]) fun v7 H3 =>
  doW (appRes env.P true H3 (⟨0, 9, Heap.gen H3 0 9, 0⟩ : Ref) (some 34) (some 34) v4 v7) fun v8 H4 =>
  Q v8 H4
theorem vq_q5_Bytes : VC_q5_Bytes = fun g x0 H Q => wp env Try.f108 none 0 lv_q5_Bytes cu_q5_Bytes Q 500 [.code bd_q5_Bytes] (ofL g [(0, x0)]) H := by kernel_rfl
theorem vc_q5_Bytes (x0 : AV) (H : Heap) (Q : AV → Heap → Prop) (h : ∀ g, VC_q5_Bytes g x0 H Q) : GoL env Try.f108 0 [.code bd_q5_Bytes] [(0, x0)] H Q := ⟨fun g => wp_ok (by have h := h g; rw [vq_q5_Bytes] at h; exact h)⟩

/- q4_Wide -/
def bd_q4_Wide : Code := (Try.f109.body).getD .skip
def hd_q4_Wide_3 : List Item := (findLoop 3 400 [.code bd_q4_Wide]).getD []
def lv_q4_Wide : Nat → Option (List Nat) := fun i => cond (Nat.beq i 3) (some [4, 3, 0]) (none)
def cu_q4_Wide : Nat → Bool := fun i => false
def VC_q4_Wide (g : Nat → AV) (x0 : AV) (H : Heap) (Q : AV → Heap → Prop) : Prop :=
  GoL env Try.f109 0 hd_q4_Wide_3 [(4, (.v (.int .i64 0))), (3, (.v (.slice none 0 0))), (0, x0)] H Q
theorem vq_q4_Wide : VC_q4_Wide = fun g x0 H Q => wp env Try.f109 none 0 lv_q4_Wide cu_q4_Wide Q 500 [.code bd_q4_Wide] (ofL g [(0, x0)]) H := by kernel_rfl
theorem vc_q4_Wide (x0 : AV) (H : Heap) (Q : AV → Heap → Prop) (h : ∀ g, VC_q4_Wide g x0 H Q) : GoL env Try.f109 0 [.code bd_q4_Wide] [(0, x0)] H Q := ⟨fun g => wp_ok (by have h := h g; rw [vq_q4_Wide] at h; exact h)⟩
def VC_q4_Wide_3 (g : Nat → AV) (x4 x3 x0 : AV) (H : Heap) (Q : AV → Heap → Prop) : Prop :=
  doQ (qBuiltin env.P false (Heap.get H) (⟨0, 8, Heap.gen H 0 8, 0⟩ : Ref) .len #[31] [x0]) fun v1 =>
  doQ (qBin env.P .lss 3 (.tmp 6) (.tmp 8) (some x4) (some v1)) fun v2 =>
  br (some v2) (
   doQ (qIndexAddr env.P (Heap.get H) 31 (some x0) (some x4)) fun v3 =>
   doQ (qLoad env.P (Heap.get H) 21 (some v3)) fun v4 =>
   doQ (qConvert env.P (Heap.get H) (⟨0, 16, Heap.gen H 0 16, 0⟩ : Ref) 21 3 (some v4)) fun v5 =>
   doQ (qBin env.P .lss 3 (.tmp 17) (.const (.int .i64 0)) (some v5) (some (.v (.int .i64 0)))) fun v6 =>
   br (some v6) (
    doQ (qBin env.P .quo 3 (.tmp 20) (.const (.int .i64 16777216)) (some (.v (.int .i64 4294967295))) (some (.v (.int .i64 16777216)))) fun v7 =>
    doQ (qConvert env.P (Heap.get H) (⟨0, 22, Heap.gen H 0 22, 0⟩ : Ref) 3 5 (some v7)) fun v8 =>
    doQ (qBin env.P .quo 3 (.tmp 23) (.const (.int .i64 65536)) (some (.v (.int .i64 4294967295))) (some (.v (.int .i64 65536)))) fun v9 =>
    doQ (qBin env.P .rem 3 (.tmp 24) (.const (.int .i64 256)) (some v9) (some (.v (.int .i64 256)))) fun v10 =>
    doQ (qConvert env.P (Heap.get H) (⟨0, 26, Heap.gen H 0 26, 0⟩ : Ref) 3 5 (some v10)) fun v11 =>
    doQ (qBin env.P .quo 3 (.tmp 27) (.const (.int .i64 256)) (some (.v (.int .i64 4294967295))) (some (.v (.int .i64 256)))) fun v12 =>
    doQ (qBin env.P .rem 3 (.tmp 28) (.const (.int .i64 256)) (some v12) (some (.v (.int .i64 256)))) fun v13 =>
    doQ (qConvert env.P (Heap.get H) (⟨0, 30, Heap.gen H 0 30, 0⟩ : Ref) 3 5 (some v13)) fun v14 =>
    doQ (qBin env.P .rem 3 (.tmp 31) (.const (.int .i64 256)) (some (.v (.int .i64 4294967295))) (some (.v (.int .i64 256)))) fun v15 =>
    doQ (qConvert env.P (Heap.get H) (⟨0, 33, Heap.gen H 0 33, 0⟩ : Ref) 3 5 (some v15)) fun v16 =>
    doW (bsRes env.P false true H (⟨0, 34, Heap.gen H 0 34, 0⟩ : Ref) 34 4 (some [(0, v8), (1, v11), (2, v14), (3, v16)])) fun v17 H1 =>
    doW (appRes env.P true H1 (⟨0, 35, Heap.gen H1 0 35, 0⟩ : Ref) (some 34) (some 34) x3 v17) fun v18 H2 =>
    doQ (qBin env.P .add 3 (.tmp 10) (.const (.int .i64 1)) (some x4) (some (.v (.int .i64 1)))) fun v19 =>
    GoL env Try.f109 0 hd_q4_Wide_3 [(4, v19), (3, v18), (0, x0)] H2 Q) (
    doQ (qBin env.P .quo 3 (.tmp 20) (.const (.int .i64 16777216)) (some v5) (some (.v (.int .i64 16777216)))) fun v7 =>
    doQ (qConvert env.P (Heap.get H) (⟨0, 22, Heap.gen H 0 22, 0⟩ : Ref) 3 5 (some v7)) fun v8 =>
    doQ (qBin env.P .quo 3 (.tmp 23) (.const (.int .i64 65536)) (some v5) (some (.v (.int .i64 65536)))) fun v9 =>
    doQ (qBin env.P .rem 3 (.tmp 24) (.const (.int .i64 256)) (some v9) (some (.v (.int .i64 256)))) fun v10 =>
    doQ (qConvert env.P (Heap.get H) (⟨0, 26, Heap.gen H 0 26, 0⟩ : Ref) 3 5 (some v10)) fun v11 =>
    doQ (qBin env.P .quo 3 (.tmp 27) (.const (.int .i64 256)) (some v5) (some (.v (.int .i64 256)))) fun v12 =>
    doQ (qBin env.P .rem 3 (.tmp 28) (.const (.int .i64 256)) (some v12) (some (.v (.int .i64 256)))) fun v13 =>
    doQ (qConvert env.P (Heap.get H) (⟨0, 30, Heap.gen H 0 30, 0⟩ : Ref) 3 5 (some v13)) fun v14 =>
    doQ (qBin env.P .rem 3 (.tmp 31) (.const (.int .i64 256)) (some v5) (some (.v (.int .i64 256)))) fun v15 =>
    doQ (qConvert env.P (Heap.get H) (⟨0, 33, Heap.gen H 0 33, 0⟩ : Ref) 3 5 (some v15)) fun v16 =>
    doW (bsRes env.P false true H (⟨0, 34, Heap.gen H 0 34, 0⟩ : Ref) 34 4 (some [(0, v8), (1, v11), (2, v14), (3, v16)])) fun v17 H1 =>
    doW (appRes env.P true H1 (⟨0, 35, Heap.gen H1 0 35, 0⟩ : Ref) (some 34) (some 34) x3 v17) fun v18 H2 =>
    doQ (qBin env.P .add 3 (.tmp 10) (.const (.int .i64 1)) (some x4) (some (.v (.int .i64 1)))) fun v19 =>
    GoL env Try.f109 0 hd_q4_Wide_3 [(4, v19), (3, v18), (0, x0)] H2 Q)) (
   Q x3 H)
theorem vq_q4_Wide_3 : VC_q4_Wide_3 = fun g x4 x3 x0 H Q => wp env Try.f109 none 0 lv_q4_Wide cu_q4_Wide Q 500 (bodyOf hd_q4_Wide_3) (ofL g [(4, x4), (3, x3), (0, x0)]) H := by kernel_rfl
theorem vc_q4_Wide_3 (x4 x3 x0 : AV) (H : Heap) (Q : AV → Heap → Prop) (h : ∀ g, VC_q4_Wide_3 g x4 x3 x0 H Q) : GoL env Try.f109 0 hd_q4_Wide_3 [(4, x4), (3, x3), (0, x0)] H Q := goL_body fun g => wp_ok (by have h := h g; rw [vq_q4_Wide_3] at h; exact h)

/- q4_Is -/
def bd_q4_Is : Code := (Try.f110.body).getD .skip
def lv_q4_Is : Nat → Option (List Nat) := fun i => none
def cu_q4_Is : Nat → Bool := fun i => false
def VC_q4_Is (g : Nat → AV) (x0 : AV) (H : Heap) (Q : AV → Heap → Prop) : Prop :=
  doQ (qBin env.P .geq 3 (.tmp 3) (.const (.int .i64 0)) (some x0) (some (.v (.int .i64 0)))) fun v1 =>
  gQ v1 true (qVal (some x0)) fun v2 =>
  gQ v1 true (qBin env.P .leq 3 (.tmp 6) (.const (.int .i64 1114111)) (some v2) (some (.v (.int .i64 1114111)))) fun v3 =>
  doQ (pickF (some v1) (some v3) (some (.v (.bool false)))) fun v4 =>
  gQ v4 true (qVal (some x0)) fun v5 =>
  gQ v4 true (qBin env.P .lss 3 (.tmp 10) (.const (.int .i64 55296)) (some v5) (some (.v (.int .i64 55296)))) fun v6 =>
  gQ v4 true (qVal (some v6)) fun v7 =>
  gQ v7 false (qVal (some x0)) fun v8 =>
  gQ v7 false (qBin env.P .gtr 3 (.tmp 13) (.const (.int .i64 57343)) (some v8) (some (.v (.int .i64 57343)))) fun v9 =>
  gQ v4 true (pickF (some v7) (some (.v (.bool true))) (some v9)) fun v10 =>
  doQ (pickF (some v4) (some v10) (some (.v (.bool false)))) fun v11 =>
  Q v11 H
theorem vq_q4_Is : VC_q4_Is = fun g x0 H Q => wp env Try.f110 none 0 lv_q4_Is cu_q4_Is Q 500 [.code bd_q4_Is] (ofL g [(0, x0)]) H := by kernel_rfl
theorem vc_q4_Is (x0 : AV) (H : Heap) (Q : AV → Heap → Prop) (h : ∀ g, VC_q4_Is g x0 H Q) : GoL env Try.f110 0 [.code bd_q4_Is] [(0, x0)] H Q := ⟨fun g => wp_ok (by have h := h g; rw [vq_q4_Is] at h; exact h)⟩

/- q5_wide -/
def bd_q5_wide : Code := (Try.f134.body).getD .skip
def hd_q5_wide_3 : List Item := (findLoop 3 400 [.code bd_q5_wide]).getD []
def lv_q5_wide : Nat → Option (List Nat) := fun i => cond (Nat.beq i 3) (some [6, 0, 5, 1]) (none)
def cu_q5_wide : Nat → Bool := fun i => false
def VC_q5_wide (g : Nat → AV) (x0 x1 : AV) (H : Heap) (Q : AV → Heap → Prop) : Prop :=
  GoL env Try.f134 0 hd_q5_wide_3 [(6, (.v (.int .i64 0))), (0, x0), (5, (.v (.slice none 0 0))), (1, x1)] H Q
theorem vq_q5_wide : VC_q5_wide = fun g x0 x1 H Q => wp env Try.f134 none 0 lv_q5_wide cu_q5_wide Q 500 [.code bd_q5_wide] (ofL g [(0, x0), (1, x1)]) H := by kernel_rfl
theorem vc_q5_wide (x0 x1 : AV) (H : Heap) (Q : AV → Heap → Prop) (h : ∀ g, VC_q5_wide g x0 x1 H Q) : GoL env Try.f134 0 [.code bd_q5_wide] [(0, x0), (1, x1)] H Q := ⟨fun g => wp_ok (by have h := h g; rw [vq_q5_wide] at h; exact h)⟩
def VC_q5_wide_3 (g : Nat → AV) (x6 x0 x5 x1 : AV) (H : Heap) (Q : AV → Heap → Prop) : Prop :=
  doQ (qBin env.P .lss 3 (.tmp 7) (.tmp 8) (some x6) (some x1)) fun v1 =>
  br (some v1) (
   doQ (qBin env.P .rem 3 (.tmp 12) (.const (.int .i64 256)) (some x0) (some (.v (.int .i64 256)))) fun v2 =>
   doQ (qConvert env.P (Heap.get H) (⟨0, 14, Heap.gen H 0 14, 0⟩ : Ref) 3 5 (some v2)) fun v3 =>
   doW (bsRes env.P false true H (⟨0, 15, Heap.gen H 0 15, 0⟩ : Ref) 34 1 (some [(0, v3)])) fun v4 H1 =>
   doW (appRes env.P true H1 (⟨0, 17, Heap.gen H1 0 17, 0⟩ : Ref) (some 34) (some 34) v4 x5) fun v5 H2 =>
   doQ (qBin env.P .quo 3 (.tmp 18) (.const (.int .i64 256)) (some x0) (some (.v (.int .i64 256)))) fun v6 =>
   doQ (qBin env.P .add 3 (.tmp 10) (.const (.int .i64 1)) (some x6) (some (.v (.int .i64 1)))) fun v7 =>
   GoL env Try.f134 0 hd_q5_wide_3 [(6, v7), (0, v6), (5, v5), (1, x1)] H2 Q) (
   Q x5 H)
theorem vq_q5_wide_3 : VC_q5_wide_3 = fun g x6 x0 x5 x1 H Q => wp env Try.f134 none 0 lv_q5_wide cu_q5_wide Q 500 (bodyOf hd_q5_wide_3) (ofL g [(6, x6), (0, x0), (5, x5), (1, x1)]) H := by kernel_rfl
theorem vc_q5_wide_3 (x6 x0 x5 x1 : AV) (H : Heap) (Q : AV → Heap → Prop) (h : ∀ g, VC_q5_wide_3 g x6 x0 x5 x1 H Q) : GoL env Try.f134 0 hd_q5_wide_3 [(6, x6), (0, x0), (5, x5), (1, x1)] H Q := goL_body fun g => wp_ok (by have h := h g; rw [vq_q5_wide_3] at h; exact h)

end
end Go.Proofs.Ytehkjjcdkbcebaa
