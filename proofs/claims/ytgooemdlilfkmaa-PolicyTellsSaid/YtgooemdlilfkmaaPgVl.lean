/-
  What is to be shown of each law, computed from its code. No statement of a seat is proved here.
-/
import Derived.Test.YtgooemdlilfkmaaPgTy
set_option linter.unusedVariables false
set_option maxRecDepth 1000000
namespace Go.Proofs.Ytgooemdlilfkmaa
open Go.Ab

/- blindstamplaw06_PolicyApart -/
noncomputable def bd_blindstamplaw06_PolicyApart : Code := (Try.f5.body).getD .skip
noncomputable def hd_blindstamplaw06_PolicyApart_8 : List Item := (findLoop 8 400 [.code bd_blindstamplaw06_PolicyApart]).getD []
def lv_blindstamplaw06_PolicyApart : Nat → Option (List Nat) := fun i => cond (Nat.beq i 8) (some [10, 8, 3, 4, 9, 7, 5]) (none)
def cu_blindstamplaw06_PolicyApart : Nat → Bool := fun i => false
def VC_blindstamplaw06_PolicyApart (g : Nat → AV) (x0 x1 x2 : AV) (H : Heap) (Q : AV → Heap → Prop) : Prop :=
  doW (nRes H (⟨0, 3, Heap.gen H 0 3, 0⟩ : Ref) (qBox env.P (⟨0, 3, Heap.gen H 0 3, 0⟩ : Ref) 33 (some x0))) fun v1 H1 =>
  doW (nRes H1 (⟨0, 4, Heap.gen H1 0 4, 0⟩ : Ref) (qBox env.P (⟨0, 4, Heap.gen H1 0 4, 0⟩ : Ref) 26 (some x1))) fun v2 H2 =>
  doW (nRes H2 (⟨0, 5, Heap.gen H2 0 5, 0⟩ : Ref) (qBox env.P (⟨0, 5, Heap.gen H2 0 5, 0⟩ : Ref) 24 (some x2))) fun v3 H3 =>
  doW (callRes env true (limf env) (limt env 0) H3 (⟨0, 15, Heap.gen H3 0 15, 0⟩ : Ref) (some (.fn (.func 16) [] [])) []) fun v4 H4 =>
  doQ (qLoad env.P (Heap.get H4) 33 (some v1)) fun v5 =>
  doW (callRes env true (limf env) (limt env 0) H4 (⟨0, 17, Heap.gen H4 0 17, 0⟩ : Ref) (some (.fn (.func 18) [] [])) [v5]) fun v6 H5 =>
  gQ v6 false (qVal (some v4)) fun v7 =>
  gQ v6 false (qUn env.P .not (some v7)) fun v8 =>
  doQ (pickF (some v6) (some (.v (.bool true))) (some v8)) fun v9 =>
  br (some v9) (
   Q v4 H5) (
   doQ (qLoad env.P (Heap.get H5) 33 (some v1)) fun v10 =>
   doW (callRes env true (limf env) (limt env 0) H5 (⟨0, 24, Heap.gen H5 0 24, 0⟩ : Ref) (some (.fn (.func 20) [] [])) [v10]) fun v11 H6 =>
   doW (nRes H6 (⟨0, 8, Heap.gen H6 0 8, 0⟩ : Ref) (qAlloc env.P (⟨0, 8, Heap.gen H6 0 8, 0⟩ : Ref) 33)) fun v12 H7 =>
   doW (wStore env.P H7 33 (some v12) (some v11)) fun v13 H8 =>
   doQ (qFieldAddr env.P 33 (some v12) 1) fun v14 =>
   doW (wStore env.P H8 31 (some v14) (some (.v (.slice none 0 0)))) fun v15 H9 =>
   GoL env Try.f5 0 hd_blindstamplaw06_PolicyApart_8 [(10, (.v (.int .i64 0))), (8, v12), (3, v1), (4, v2), (9, (.v (.bool false))), (7, v4), (5, v3)] H9 Q)
theorem vq_blindstamplaw06_PolicyApart : VC_blindstamplaw06_PolicyApart = fun g x0 x1 x2 H Q => wp env Try.f5 0 lv_blindstamplaw06_PolicyApart cu_blindstamplaw06_PolicyApart Q 500 [.code bd_blindstamplaw06_PolicyApart] (ofL g [(0, x0), (1, x1), (2, x2)]) H := by kernel_rfl
theorem vc_blindstamplaw06_PolicyApart (x0 x1 x2 : AV) (H : Heap) (Q : AV → Heap → Prop) (h : ∀ g, VC_blindstamplaw06_PolicyApart g x0 x1 x2 H Q) : GoL env Try.f5 0 [.code bd_blindstamplaw06_PolicyApart] [(0, x0), (1, x1), (2, x2)] H Q := ⟨fun g => wp_ok (by have h := h g; rw [vq_blindstamplaw06_PolicyApart] at h; exact h)⟩
def VC_blindstamplaw06_PolicyApart_8 (g : Nat → AV) (x10 x8 x3 x4 x9 x7 x5 : AV) (H : Heap) (Q : AV → Heap → Prop) : Prop :=
  doQ (qFieldAddr env.P 33 (some x3) 1) fun v1 =>
  doQ (qLoad env.P (Heap.get H) 31 (some v1)) fun v2 =>
  doQ (qBuiltin env.P false (Heap.get H) (⟨0, 29, Heap.gen H 0 29, 0⟩ : Ref) .len #[31] [v2]) fun v3 =>
  doQ (qBin env.P .lss 3 (.tmp 26) (.tmp 29) (some x10) (some v3)) fun v4 =>
  br (some v4) (
   doQ (qUn env.P .not (some x9)) fun v5 =>
   gQ v5 true (qFieldAddr env.P 26 (some x4) 0) fun v6 =>
   gQ v5 true (qLoad env.P (Heap.get H) 24 (some v6)) fun v7 =>
   gQ v5 true (qFieldAddr env.P 33 (some x3) 1) fun v8 =>
   gQ v5 true (qLoad env.P (Heap.get H) 31 (some v8)) fun v9 =>
   gQ v5 true (qVal (some x10)) fun v10 =>
   gQ v5 true (qIndexAddr env.P (Heap.get H) 31 (some v9) (some v10)) fun v11 =>
   gQ v5 true (qFieldAddr env.P 26 (some v11) 0) fun v12 =>
   gQ v5 true (qLoad env.P (Heap.get H) 24 (some v12)) fun v13 =>
   gW v5 true H (callRes env false (limf env) (limt env 0) H (⟨0, 44, Heap.gen H 0 44, 0⟩ : Ref) (some (.fn (.func 21) [] [])) [v7, v13]) fun v14 H1 =>
   doQ (pickF (some v5) (some v14) (some (.v (.bool false)))) fun v15 =>
   br (some v15) (
    doQ (qFieldAddr env.P 33 (some x8) 1) fun v16 =>
    doQ (qLoad env.P (Heap.get H1) 31 (some v16)) fun v17 =>
    doQ (qLoad env.P (Heap.get H1) 26 (some x4)) fun v18 =>
    doW (bsRes env.P false true H1 (⟨0, 49, Heap.gen H1 0 49, 0⟩ : Ref) 31 1 (some [(0, v18)])) fun v19 H2 =>
    doW (appRes env.P true H2 (⟨0, 50, Heap.gen H2 0 50, 0⟩ : Ref) (some 31) (some 31) v17 v19) fun v20 H3 =>
    doQ (qFieldAddr env.P 33 (some x8) 1) fun v21 =>
    doW (wStore env.P H3 31 (some v21) (some v20)) fun v22 H4 =>
    doQ (qFieldAddr env.P 33 (some x3) 1) fun v23 =>
    doQ (qLoad env.P (Heap.get H4) 31 (some v23)) fun v24 =>
    doQ (qIndexAddr env.P (Heap.get H4) 31 (some v24) (some x10)) fun v25 =>
    doQ (qFieldAddr env.P 26 (some v25) 0) fun v26 =>
    doQ (qLoad env.P (Heap.get H4) 24 (some v26)) fun v27 =>
    doQ (qFieldAddr env.P 26 (some x4) 0) fun v28 =>
    doQ (qLoad env.P (Heap.get H4) 24 (some v28)) fun v29 =>
    doQ (qBin env.P .neq 24 (.tmp 57) (.tmp 59) (some v27) (some v29)) fun v30 =>
    br (some v30) (
     doQ (qFieldAddr env.P 33 (some x8) 1) fun v31 =>
     doQ (qLoad env.P (Heap.get H4) 31 (some v31)) fun v32 =>
     doQ (qFieldAddr env.P 33 (some x3) 1) fun v33 =>
     doQ (qLoad env.P (Heap.get H4) 31 (some v33)) fun v34 =>
     doQ (qIndexAddr env.P (Heap.get H4) 31 (some v34) (some x10)) fun v35 =>
     doQ (qLoad env.P (Heap.get H4) 26 (some v35)) fun v36 =>
     doW (bsRes env.P true false H4 (⟨0, 68, Heap.gen H4 0 68, 0⟩ : Ref) 31 1 (some [(0, v36)])) fun v37 H5 =>
     doW (appRes env.P true H5 (⟨0, 69, Heap.gen H5 0 69, 0⟩ : Ref) (some 31) (some 31) v32 v37) fun v38 H6 =>
     doQ (qFieldAddr env.P 33 (some x8) 1) fun v39 =>
     doW (wStore env.P H6 31 (some v39) (some v38)) fun v40 H7 =>
     doQ (qBin env.P .add 3 (.tmp 31) (.const (.int .i64 1)) (some x10) (some (.v (.int .i64 1)))) fun v41 =>
     GoL env Try.f5 0 hd_blindstamplaw06_PolicyApart_8 [(10, v41), (8, x8), (3, x3), (4, x4), (9, (.v (.bool true))), (7, x7), (5, x5)] H7 Q) (
     doQ (qBin env.P .add 3 (.tmp 31) (.const (.int .i64 1)) (some x10) (some (.v (.int .i64 1)))) fun v31 =>
     GoL env Try.f5 0 hd_blindstamplaw06_PolicyApart_8 [(10, v31), (8, x8), (3, x3), (4, x4), (9, (.v (.bool true))), (7, x7), (5, x5)] H4 Q)) (
    doQ (qFieldAddr env.P 33 (some x3) 1) fun v16 =>
    doQ (qLoad env.P (Heap.get H1) 31 (some v16)) fun v17 =>
    doQ (qIndexAddr env.P (Heap.get H1) 31 (some v17) (some x10)) fun v18 =>
    doQ (qFieldAddr env.P 26 (some v18) 0) fun v19 =>
    doQ (qLoad env.P (Heap.get H1) 24 (some v19)) fun v20 =>
    doQ (qFieldAddr env.P 26 (some x4) 0) fun v21 =>
    doQ (qLoad env.P (Heap.get H1) 24 (some v21)) fun v22 =>
    doQ (qBin env.P .neq 24 (.tmp 57) (.tmp 59) (some v20) (some v22)) fun v23 =>
    br (some v23) (
     doQ (qFieldAddr env.P 33 (some x8) 1) fun v24 =>
     doQ (qLoad env.P (Heap.get H1) 31 (some v24)) fun v25 =>
     doQ (qFieldAddr env.P 33 (some x3) 1) fun v26 =>
     doQ (qLoad env.P (Heap.get H1) 31 (some v26)) fun v27 =>
     doQ (qIndexAddr env.P (Heap.get H1) 31 (some v27) (some x10)) fun v28 =>
     doQ (qLoad env.P (Heap.get H1) 26 (some v28)) fun v29 =>
     doW (bsRes env.P true false H1 (⟨0, 68, Heap.gen H1 0 68, 0⟩ : Ref) 31 1 (some [(0, v29)])) fun v30 H2 =>
     doW (appRes env.P true H2 (⟨0, 69, Heap.gen H2 0 69, 0⟩ : Ref) (some 31) (some 31) v25 v30) fun v31 H3 =>
     doQ (qFieldAddr env.P 33 (some x8) 1) fun v32 =>
     doW (wStore env.P H3 31 (some v32) (some v31)) fun v33 H4 =>
     doQ (qBin env.P .add 3 (.tmp 31) (.const (.int .i64 1)) (some x10) (some (.v (.int .i64 1)))) fun v34 =>
     GoL env Try.f5 0 hd_blindstamplaw06_PolicyApart_8 [(10, v34), (8, x8), (3, x3), (4, x4), (9, x9), (7, x7), (5, x5)] H4 Q) (
     doQ (qBin env.P .add 3 (.tmp 31) (.const (.int .i64 1)) (some x10) (some (.v (.int .i64 1)))) fun v24 =>
     GoL env Try.f5 0 hd_blindstamplaw06_PolicyApart_8 [(10, v24), (8, x8), (3, x3), (4, x4), (9, x9), (7, x7), (5, x5)] H1 Q))) (
   doQ (qUn env.P .not (some x9)) fun v5 =>
   br (some v5) (
    doQ (qFieldAddr env.P 33 (some x8) 1) fun v6 =>
    doQ (qLoad env.P (Heap.get H) 31 (some v6)) fun v7 =>
    doQ (qLoad env.P (Heap.get H) 26 (some x4)) fun v8 =>
    doW (bsRes env.P false true H (⟨0, 76, Heap.gen H 0 76, 0⟩ : Ref) 31 1 (some [(0, v8)])) fun v9 H1 =>
    doW (appRes env.P true H1 (⟨0, 77, Heap.gen H1 0 77, 0⟩ : Ref) (some 31) (some 31) v7 v9) fun v10 H2 =>
    doQ (qFieldAddr env.P 33 (some x8) 1) fun v11 =>
    doW (wStore env.P H2 31 (some v11) (some v10)) fun v12 H3 =>
    doQ (qLoad env.P (Heap.get H3) 33 (some x3)) fun v13 =>
    doQ (qLoad env.P (Heap.get H3) 24 (some x5)) fun v14 =>
    doW (callRes env true (limf env) (limt env 0) H3 (⟨0, 82, Heap.gen H3 0 82, 0⟩ : Ref) (some (.fn (.func 12) [] [])) [v13, v14]) fun v15 H4 =>
    doQ (qExtract (some v15) 0) fun v16 =>
    doQ (qExtract (some v15) 1) fun v17 =>
    doW (nRes H4 (⟨0, 11, Heap.gen H4 0 11, 0⟩ : Ref) (qAlloc env.P (⟨0, 11, Heap.gen H4 0 11, 0⟩ : Ref) 26)) fun v18 H5 =>
    doW (wStore env.P H5 26 (some v18) (some v16)) fun v19 H6 =>
    doQ (qLoad env.P (Heap.get H6) 33 (some x8)) fun v20 =>
    doQ (qLoad env.P (Heap.get H6) 24 (some x5)) fun v21 =>
    doW (callRes env true (limf env) (limt env 0) H6 (⟨0, 88, Heap.gen H6 0 88, 0⟩ : Ref) (some (.fn (.func 12) [] [])) [v20, v21]) fun v22 H7 =>
    doQ (qExtract (some v22) 0) fun v23 =>
    doQ (qExtract (some v22) 1) fun v24 =>
    doW (nRes H7 (⟨0, 13, Heap.gen H7 0 13, 0⟩ : Ref) (qAlloc env.P (⟨0, 13, Heap.gen H7 0 13, 0⟩ : Ref) 26)) fun v25 H8 =>
    doW (wStore env.P H8 26 (some v25) (some v23)) fun v26 H9 =>
    doQ (qBin env.P .neq 27 (.tmp 91) (.const (.int .i64 0)) (some v17) (some (.v (.int .i64 0)))) fun v27 =>
    gQ v27 false (qVal (some v24)) fun v28 =>
    gQ v27 false (qBin env.P .neq 27 (.tmp 94) (.const (.int .i64 0)) (some v28) (some (.v (.int .i64 0)))) fun v29 =>
    doQ (pickF (some v27) (some (.v (.bool true))) (some v29)) fun v30 =>
    br (some v30) (
     Q x7 H9) (
     gQ x7 true (qLoad env.P (Heap.get H9) 24 (some x5)) fun v31 =>
     gQ x7 true (qFieldAddr env.P 26 (some x4) 0) fun v32 =>
     gQ x7 true (qLoad env.P (Heap.get H9) 24 (some v32)) fun v33 =>
     gQ x7 true (qBin env.P .eql 24 (.tmp 100) (.tmp 102) (some v31) (some v33)) fun v34 =>
     gQ x7 true (qVal (some v34)) fun v35 =>
     gQ v35 true (qLoad env.P (Heap.get H9) 26 (some v25)) fun v36 =>
     gQ v35 true (qLoad env.P (Heap.get H9) 26 (some x4)) fun v37 =>
     gQ v35 true (qBin env.P .eql 26 (.tmp 105) (.tmp 106) (some v36) (some v37)) fun v38 =>
     gQ x7 true (pickF (some v35) (some v38) (some (.v (.bool false)))) fun v39 =>
     gQ x7 true (qVal (some v39)) fun v40 =>
     gQ v40 false (qLoad env.P (Heap.get H9) 24 (some x5)) fun v41 =>
     gQ v40 false (qFieldAddr env.P 26 (some x4) 0) fun v42 =>
     gQ v40 false (qLoad env.P (Heap.get H9) 24 (some v42)) fun v43 =>
     gQ v40 false (qBin env.P .neq 24 (.tmp 110) (.tmp 112) (some v41) (some v43)) fun v44 =>
     gQ v40 false (qVal (some v44)) fun v45 =>
     gQ v45 true (qLoad env.P (Heap.get H9) 26 (some v18)) fun v46 =>
     gQ v45 true (qLoad env.P (Heap.get H9) 26 (some v25)) fun v47 =>
     gQ v45 true (qBin env.P .eql 26 (.tmp 115) (.tmp 116) (some v46) (some v47)) fun v48 =>
     gQ v40 false (pickF (some v45) (some v48) (some (.v (.bool false)))) fun v49 =>
     gQ x7 true (pickF (some v40) (some (.v (.bool true))) (some v49)) fun v50 =>
     doQ (pickF (some x7) (some v50) (some (.v (.bool false)))) fun v51 =>
     Q v51 H9)) (
    doQ (qLoad env.P (Heap.get H) 33 (some x3)) fun v6 =>
    doQ (qLoad env.P (Heap.get H) 24 (some x5)) fun v7 =>
    doW (callRes env true (limf env) (limt env 0) H (⟨0, 82, Heap.gen H 0 82, 0⟩ : Ref) (some (.fn (.func 12) [] [])) [v6, v7]) fun v8 H1 =>
    doQ (qExtract (some v8) 0) fun v9 =>
    doQ (qExtract (some v8) 1) fun v10 =>
    doW (nRes H1 (⟨0, 11, Heap.gen H1 0 11, 0⟩ : Ref) (qAlloc env.P (⟨0, 11, Heap.gen H1 0 11, 0⟩ : Ref) 26)) fun v11 H2 =>
    doW (wStore env.P H2 26 (some v11) (some v9)) fun v12 H3 =>
    doQ (qLoad env.P (Heap.get H3) 33 (some x8)) fun v13 =>
    doQ (qLoad env.P (Heap.get H3) 24 (some x5)) fun v14 =>
    doW (callRes env true (limf env) (limt env 0) H3 (⟨0, 88, Heap.gen H3 0 88, 0⟩ : Ref) (some (.fn (.func 12) [] [])) [v13, v14]) fun v15 H4 =>
    doQ (qExtract (some v15) 0) fun v16 =>
    doQ (qExtract (some v15) 1) fun v17 =>
    doW (nRes H4 (⟨0, 13, Heap.gen H4 0 13, 0⟩ : Ref) (qAlloc env.P (⟨0, 13, Heap.gen H4 0 13, 0⟩ : Ref) 26)) fun v18 H5 =>
    doW (wStore env.P H5 26 (some v18) (some v16)) fun v19 H6 =>
    doQ (qBin env.P .neq 27 (.tmp 91) (.const (.int .i64 0)) (some v10) (some (.v (.int .i64 0)))) fun v20 =>
    gQ v20 false (qVal (some v17)) fun v21 =>
    gQ v20 false (qBin env.P .neq 27 (.tmp 94) (.const (.int .i64 0)) (some v21) (some (.v (.int .i64 0)))) fun v22 =>
    doQ (pickF (some v20) (some (.v (.bool true))) (some v22)) fun v23 =>
    br (some v23) (
     Q x7 H6) (
     gQ x7 true (qLoad env.P (Heap.get H6) 24 (some x5)) fun v24 =>
     gQ x7 true (qFieldAddr env.P 26 (some x4) 0) fun v25 =>
     gQ x7 true (qLoad env.P (Heap.get H6) 24 (some v25)) fun v26 =>
     gQ x7 true (qBin env.P .eql 24 (.tmp 100) (.tmp 102) (some v24) (some v26)) fun v27 =>
     gQ x7 true (qVal (some v27)) fun v28 =>
     gQ v28 true (qLoad env.P (Heap.get H6) 26 (some v18)) fun v29 =>
     gQ v28 true (qLoad env.P (Heap.get H6) 26 (some x4)) fun v30 =>
     gQ v28 true (qBin env.P .eql 26 (.tmp 105) (.tmp 106) (some v29) (some v30)) fun v31 =>
     gQ x7 true (pickF (some v28) (some v31) (some (.v (.bool false)))) fun v32 =>
     gQ x7 true (qVal (some v32)) fun v33 =>
     gQ v33 false (qLoad env.P (Heap.get H6) 24 (some x5)) fun v34 =>
     gQ v33 false (qFieldAddr env.P 26 (some x4) 0) fun v35 =>
     gQ v33 false (qLoad env.P (Heap.get H6) 24 (some v35)) fun v36 =>
     gQ v33 false (qBin env.P .neq 24 (.tmp 110) (.tmp 112) (some v34) (some v36)) fun v37 =>
     gQ v33 false (qVal (some v37)) fun v38 =>
     gQ v38 true (qLoad env.P (Heap.get H6) 26 (some v11)) fun v39 =>
     gQ v38 true (qLoad env.P (Heap.get H6) 26 (some v18)) fun v40 =>
     gQ v38 true (qBin env.P .eql 26 (.tmp 115) (.tmp 116) (some v39) (some v40)) fun v41 =>
     gQ v33 false (pickF (some v38) (some v41) (some (.v (.bool false)))) fun v42 =>
     gQ x7 true (pickF (some v33) (some (.v (.bool true))) (some v42)) fun v43 =>
     doQ (pickF (some x7) (some v43) (some (.v (.bool false)))) fun v44 =>
     Q v44 H6)))
theorem vq_blindstamplaw06_PolicyApart_8 : VC_blindstamplaw06_PolicyApart_8 = fun g x10 x8 x3 x4 x9 x7 x5 H Q => wp env Try.f5 0 lv_blindstamplaw06_PolicyApart cu_blindstamplaw06_PolicyApart Q 500 (bodyOf hd_blindstamplaw06_PolicyApart_8) (ofL g [(10, x10), (8, x8), (3, x3), (4, x4), (9, x9), (7, x7), (5, x5)]) H := by kernel_rfl
theorem vc_blindstamplaw06_PolicyApart_8 (x10 x8 x3 x4 x9 x7 x5 : AV) (H : Heap) (Q : AV → Heap → Prop) (h : ∀ g, VC_blindstamplaw06_PolicyApart_8 g x10 x8 x3 x4 x9 x7 x5 H Q) : GoL env Try.f5 0 hd_blindstamplaw06_PolicyApart_8 [(10, x10), (8, x8), (3, x3), (4, x4), (9, x9), (7, x7), (5, x5)] H Q := goL_body fun g => wp_ok (by have h := h g; rw [vq_blindstamplaw06_PolicyApart_8] at h; exact h)

/- blindstamplaw06_PolicyTells -/
noncomputable def bd_blindstamplaw06_PolicyTells : Code := (Try.f6.body).getD .skip
noncomputable def hd_blindstamplaw06_PolicyTells_13 : List Item := (findLoop 13 400 [.code bd_blindstamplaw06_PolicyTells]).getD []
noncomputable def hd_blindstamplaw06_PolicyTells_17 : List Item := (findLoop 17 400 [.code bd_blindstamplaw06_PolicyTells]).getD []
def lv_blindstamplaw06_PolicyTells : Nat → Option (List Nat) := fun i => cond (Nat.beq i 13) (some [24, 22, 4, 9, 23]) (cond (Nat.beq i 17) (some [25, 22, 4, 9, 23]) (none))
def cu_blindstamplaw06_PolicyTells : Nat → Bool := fun i => false
def VC_blindstamplaw06_PolicyTells (g : Nat → AV) (x0 x1 x2 x3 : AV) (H : Heap) (Q : AV → Heap → Prop) : Prop :=
  doW (nRes H (⟨0, 4, Heap.gen H 0 4, 0⟩ : Ref) (qBox env.P (⟨0, 4, Heap.gen H 0 4, 0⟩ : Ref) 33 (some x0))) fun v1 H1 =>
  doW (nRes H1 (⟨0, 5, Heap.gen H1 0 5, 0⟩ : Ref) (qBox env.P (⟨0, 5, Heap.gen H1 0 5, 0⟩ : Ref) 33 (some x1))) fun v2 H2 =>
  doW (nRes H2 (⟨0, 7, Heap.gen H2 0 7, 0⟩ : Ref) (qBox env.P (⟨0, 7, Heap.gen H2 0 7, 0⟩ : Ref) 24 (some x3))) fun v3 H3 =>
  doQ (qLoad env.P (Heap.get H3) 33 (some v1)) fun v4 =>
  doW (callRes env true (limf env) (limt env 0) H3 (⟨0, 27, Heap.gen H3 0 27, 0⟩ : Ref) (some (.fn (.func 18) [] [])) [v4]) fun v5 H4 =>
  gQ v5 false (qLoad env.P (Heap.get H4) 33 (some v2)) fun v6 =>
  gW v5 false H4 (callRes env true (limf env) (limt env 0) H4 (⟨0, 30, Heap.gen H4 0 30, 0⟩ : Ref) (some (.fn (.func 18) [] [])) [v6]) fun v7 H5 =>
  doQ (pickF (some v5) (some (.v (.bool true))) (some v7)) fun v8 =>
  br (some v8) (
   Q (.v (.bool true)) H5) (
   doQ (qLoad env.P (Heap.get H5) 33 (some v1)) fun v9 =>
   doW (callRes env true (limf env) (limt env 0) H5 (⟨0, 33, Heap.gen H5 0 33, 0⟩ : Ref) (some (.fn (.func 20) [] [])) [v9]) fun v10 H6 =>
   doW (nRes H6 (⟨0, 9, Heap.gen H6 0 9, 0⟩ : Ref) (qAlloc env.P (⟨0, 9, Heap.gen H6 0 9, 0⟩ : Ref) 33)) fun v11 H7 =>
   doW (wStore env.P H7 33 (some v11) (some v10)) fun v12 H8 =>
   doQ (qLoad env.P (Heap.get H8) 33 (some v11)) fun v13 =>
   doW (callRes env true (limf env) (limt env 0) H8 (⟨0, 36, Heap.gen H8 0 36, 0⟩ : Ref) (some (.fn (.func 22) [] [])) [v13]) fun v14 H9 =>
   doQ (qExtract (some v14) 0) fun v15 =>
   doQ (qExtract (some v14) 1) fun v16 =>
   doQ (qLoad env.P (Heap.get H9) 33 (some v1)) fun v17 =>
   doW (callRes env true (limf env) (limt env 0) H9 (⟨0, 41, Heap.gen H9 0 41, 0⟩ : Ref) (some (.fn (.func 23) [] [])) [v17]) fun v18 H10 =>
   doQ (qExtract (some v18) 0) fun v19 =>
   doQ (qExtract (some v18) 1) fun v20 =>
   doQ (qLoad env.P (Heap.get H10) 33 (some v11)) fun v21 =>
   doQ (qLoad env.P (Heap.get H10) 24 (some v3)) fun v22 =>
   doW (callRes env true (limf env) (limt env 0) H10 (⟨0, 48, Heap.gen H10 0 48, 0⟩ : Ref) (some (.fn (.func 15) [] [])) [v21, x2, v22]) fun v23 H11 =>
   doQ (qExtract (some v23) 0) fun v24 =>
   doQ (qExtract (some v23) 1) fun v25 =>
   doQ (qLoad env.P (Heap.get H11) 33 (some v1)) fun v26 =>
   doQ (qLoad env.P (Heap.get H11) 24 (some v3)) fun v27 =>
   doW (callRes env true (limf env) (limt env 0) H11 (⟨0, 55, Heap.gen H11 0 55, 0⟩ : Ref) (some (.fn (.func 24) [] [])) [v26, x2, v27]) fun v28 H12 =>
   doQ (qExtract (some v28) 0) fun v29 =>
   doQ (qExtract (some v28) 1) fun v30 =>
   doQ (qLoad env.P (Heap.get H12) 33 (some v11)) fun v31 =>
   doQ (qLoad env.P (Heap.get H12) 24 (some v3)) fun v32 =>
   doW (callRes env true (limf env) (limt env 0) H12 (⟨0, 61, Heap.gen H12 0 61, 0⟩ : Ref) (some (.fn (.func 12) [] [])) [v31, v32]) fun v33 H13 =>
   doQ (qExtract (some v33) 0) fun v34 =>
   doQ (qExtract (some v33) 1) fun v35 =>
   doW (nRes H13 (⟨0, 18, Heap.gen H13 0 18, 0⟩ : Ref) (qAlloc env.P (⟨0, 18, Heap.gen H13 0 18, 0⟩ : Ref) 26)) fun v36 H14 =>
   doW (wStore env.P H14 26 (some v36) (some v34)) fun v37 H15 =>
   doQ (qLoad env.P (Heap.get H15) 33 (some v1)) fun v38 =>
   doQ (qLoad env.P (Heap.get H15) 24 (some v3)) fun v39 =>
   doW (callRes env true (limf env) (limt env 0) H15 (⟨0, 67, Heap.gen H15 0 67, 0⟩ : Ref) (some (.fn (.func 25) [] [])) [v38, v39]) fun v40 H16 =>
   doQ (qExtract (some v40) 0) fun v41 =>
   doQ (qExtract (some v40) 1) fun v42 =>
   doW (nRes H16 (⟨0, 20, Heap.gen H16 0 20, 0⟩ : Ref) (qAlloc env.P (⟨0, 20, Heap.gen H16 0 20, 0⟩ : Ref) 26)) fun v43 H17 =>
   doW (wStore env.P H17 26 (some v43) (some v41)) fun v44 H18 =>
   doQ (qLoad env.P (Heap.get H18) 33 (some v11)) fun v45 =>
   doW (callRes env true (limf env) (limt env 0) H18 (⟨0, 71, Heap.gen H18 0 71, 0⟩ : Ref) (some (.fn (.func 26) [] [])) [v45]) fun v46 H19 =>
   doW (nRes H19 (⟨0, 22, Heap.gen H19 0 22, 0⟩ : Ref) (qAlloc env.P (⟨0, 22, Heap.gen H19 0 22, 0⟩ : Ref) 33)) fun v47 H20 =>
   doW (wStore env.P H20 33 (some v47) (some v46)) fun v48 H21 =>
   doQ (qBin env.P .eql 3 (.tmp 72) (.tmp 73) (some v15) (some v19)) fun v49 =>
   gQ v49 true (qVal (some v16)) fun v50 =>
   gQ v49 true (qVal (some v20)) fun v51 =>
   gQ v49 true (qBin env.P .eql 3 (.tmp 76) (.tmp 77) (some v50) (some v51)) fun v52 =>
   doQ (pickF (some v49) (some v52) (some (.v (.bool false)))) fun v53 =>
   gQ v53 true (qVal (some v24)) fun v54 =>
   gQ v53 true (qVal (some v29)) fun v55 =>
   gQ v53 true (qBin env.P .eql 4 (.tmp 81) (.tmp 82) (some v54) (some v55)) fun v56 =>
   doQ (pickF (some v53) (some v56) (some (.v (.bool false)))) fun v57 =>
   gQ v57 true (qVal (some v25)) fun v58 =>
   gQ v57 true (qVal (some v30)) fun v59 =>
   gQ v57 true (qBin env.P .eql 3 (.tmp 86) (.tmp 87) (some v58) (some v59)) fun v60 =>
   doQ (pickF (some v57) (some v60) (some (.v (.bool false)))) fun v61 =>
   gQ v61 true (qLoad env.P (Heap.get H21) 26 (some v36)) fun v62 =>
   gQ v61 true (qLoad env.P (Heap.get H21) 26 (some v43)) fun v63 =>
   gQ v61 true (qBin env.P .eql 26 (.tmp 91) (.tmp 92) (some v62) (some v63)) fun v64 =>
   doQ (pickF (some v61) (some v64) (some (.v (.bool false)))) fun v65 =>
   gQ v65 true (qVal (some v35)) fun v66 =>
   gQ v65 true (qVal (some v42)) fun v67 =>
   gQ v65 true (qBin env.P .eql 3 (.tmp 96) (.tmp 97) (some v66) (some v67)) fun v68 =>
   doQ (pickF (some v65) (some v68) (some (.v (.bool false)))) fun v69 =>
   gQ v69 true (qLoad env.P (Heap.get H21) 33 (some v11)) fun v70 =>
   gW v69 true H21 (callRes env false (limf env) (limt env 0) H21 (⟨0, 102, Heap.gen H21 0 102, 0⟩ : Ref) (some (.fn (.func 17) [] [])) [v70]) fun v71 H22 =>
   gQ v69 true (qLoad env.P (Heap.get H22) 33 (some v1)) fun v72 =>
   gW v69 true H22 (callRes env false (limf env) (limt env 0) H22 (⟨0, 104, Heap.gen H22 0 104, 0⟩ : Ref) (some (.fn (.func 27) [] [])) [v72]) fun v73 H23 =>
   gQ v69 true (qBin env.P .eql 3 (.tmp 102) (.tmp 104) (some v71) (some v73)) fun v74 =>
   doQ (pickF (some v69) (some v74) (some (.v (.bool false)))) fun v75 =>
   gQ v75 true (qLoad env.P (Heap.get H23) 33 (some v11)) fun v76 =>
   gQ v75 true (qLoad env.P (Heap.get H23) 33 (some v2)) fun v77 =>
   gW v75 true H23 (callRes env false (limf env) (limt env 0) H23 (⟨0, 110, Heap.gen H23 0 110, 0⟩ : Ref) (some (.fn (.func 28) [] [])) [v76, v77]) fun v78 H24 =>
   gQ v75 true (qLoad env.P (Heap.get H24) 33 (some v1)) fun v79 =>
   gQ v75 true (qLoad env.P (Heap.get H24) 33 (some v2)) fun v80 =>
   gW v75 true H24 (callRes env false (limf env) (limt env 0) H24 (⟨0, 113, Heap.gen H24 0 113, 0⟩ : Ref) (some (.fn (.func 29) [] [])) [v79, v80]) fun v81 H25 =>
   gQ v75 true (qBin env.P .eql 4 (.tmp 110) (.tmp 113) (some v78) (some v81)) fun v82 =>
   doQ (pickF (some v75) (some v82) (some (.v (.bool false)))) fun v83 =>
   gQ v83 true (qLoad env.P (Heap.get H25) 33 (some v11)) fun v84 =>
   gQ v83 true (qLoad env.P (Heap.get H25) 33 (some v1)) fun v85 =>
   gW v83 true H25 (callRes env false (limf env) (limt env 0) H25 (⟨0, 119, Heap.gen H25 0 119, 0⟩ : Ref) (some (.fn (.func 28) [] [])) [v84, v85]) fun v86 H26 =>
   doQ (pickF (some v83) (some v86) (some (.v (.bool false)))) fun v87 =>
   gQ v87 true (qLoad env.P (Heap.get H26) 33 (some v47)) fun v88 =>
   gQ v87 true (qLoad env.P (Heap.get H26) 33 (some v1)) fun v89 =>
   gW v87 true H26 (callRes env false (limf env) (limt env 0) H26 (⟨0, 124, Heap.gen H26 0 124, 0⟩ : Ref) (some (.fn (.func 29) [] [])) [v88, v89]) fun v90 H27 =>
   doQ (pickF (some v87) (some v90) (some (.v (.bool false)))) fun v91 =>
   GoL env Try.f6 0 hd_blindstamplaw06_PolicyTells_13 [(24, (.v (.int .i64 0))), (22, v47), (4, v1), (9, v11), (23, v91)] H27 Q)
theorem vq_blindstamplaw06_PolicyTells : VC_blindstamplaw06_PolicyTells = fun g x0 x1 x2 x3 H Q => wp env Try.f6 0 lv_blindstamplaw06_PolicyTells cu_blindstamplaw06_PolicyTells Q 500 [.code bd_blindstamplaw06_PolicyTells] (ofL g [(0, x0), (1, x1), (2, x2), (3, x3)]) H := by kernel_rfl
theorem vc_blindstamplaw06_PolicyTells (x0 x1 x2 x3 : AV) (H : Heap) (Q : AV → Heap → Prop) (h : ∀ g, VC_blindstamplaw06_PolicyTells g x0 x1 x2 x3 H Q) : GoL env Try.f6 0 [.code bd_blindstamplaw06_PolicyTells] [(0, x0), (1, x1), (2, x2), (3, x3)] H Q := ⟨fun g => wp_ok (by have h := h g; rw [vq_blindstamplaw06_PolicyTells] at h; exact h)⟩
def VC_blindstamplaw06_PolicyTells_13 (g : Nat → AV) (x24 x22 x4 x9 x23 : AV) (H : Heap) (Q : AV → Heap → Prop) : Prop :=
  doQ (qFieldAddr env.P 33 (some x22) 0) fun v1 =>
  doQ (qLoad env.P (Heap.get H) 30 (some v1)) fun v2 =>
  doQ (qBuiltin env.P false (Heap.get H) (⟨0, 129, Heap.gen H 0 129, 0⟩ : Ref) .len #[30] [v2]) fun v3 =>
  doQ (qBin env.P .lss 3 (.tmp 126) (.tmp 129) (some x24) (some v3)) fun v4 =>
  br (some v4) (
   doQ (qFieldAddr env.P 33 (some x22) 0) fun v5 =>
   doQ (qLoad env.P (Heap.get H) 30 (some v5)) fun v6 =>
   doQ (qFieldAddr env.P 33 (some x22) 0) fun v7 =>
   doQ (qLoad env.P (Heap.get H) 30 (some v7)) fun v8 =>
   doQ (qIndexAddr env.P (Heap.get H) 30 (some v8) (some x24)) fun v9 =>
   doQ (qFieldAddr env.P 39 (some v9) 1) fun v10 =>
   doQ (qLoad env.P (Heap.get H) 4 (some v10)) fun v11 =>
   doQ (qUn env.P .not (some v11)) fun v12 =>
   doQ (qIndexAddr env.P (Heap.get H) 30 (some v6) (some x24)) fun v13 =>
   doQ (qFieldAddr env.P 39 (some v13) 1) fun v14 =>
   doW (wStore env.P H 4 (some v14) (some v12)) fun v15 H1 =>
   doQ (qBin env.P .add 3 (.tmp 131) (.const (.int .i64 1)) (some x24) (some (.v (.int .i64 1)))) fun v16 =>
   GoL env Try.f6 0 hd_blindstamplaw06_PolicyTells_13 [(24, v16), (22, x22), (4, x4), (9, x9), (23, x23)] H1 Q) (
   GoL env Try.f6 0 hd_blindstamplaw06_PolicyTells_17 [(25, (.v (.int .i64 0))), (22, x22), (4, x4), (9, x9), (23, x23)] H Q)
theorem vq_blindstamplaw06_PolicyTells_13 : VC_blindstamplaw06_PolicyTells_13 = fun g x24 x22 x4 x9 x23 H Q => wp env Try.f6 0 lv_blindstamplaw06_PolicyTells cu_blindstamplaw06_PolicyTells Q 500 (bodyOf hd_blindstamplaw06_PolicyTells_13) (ofL g [(24, x24), (22, x22), (4, x4), (9, x9), (23, x23)]) H := by kernel_rfl
theorem vc_blindstamplaw06_PolicyTells_13 (x24 x22 x4 x9 x23 : AV) (H : Heap) (Q : AV → Heap → Prop) (h : ∀ g, VC_blindstamplaw06_PolicyTells_13 g x24 x22 x4 x9 x23 H Q) : GoL env Try.f6 0 hd_blindstamplaw06_PolicyTells_13 [(24, x24), (22, x22), (4, x4), (9, x9), (23, x23)] H Q := goL_body fun g => wp_ok (by have h := h g; rw [vq_blindstamplaw06_PolicyTells_13] at h; exact h)
def VC_blindstamplaw06_PolicyTells_17 (g : Nat → AV) (x25 x22 x4 x9 x23 : AV) (H : Heap) (Q : AV → Heap → Prop) : Prop :=
  doQ (qFieldAddr env.P 33 (some x22) 1) fun v1 =>
  doQ (qLoad env.P (Heap.get H) 31 (some v1)) fun v2 =>
  doQ (qBuiltin env.P false (Heap.get H) (⟨0, 148, Heap.gen H 0 148, 0⟩ : Ref) .len #[31] [v2]) fun v3 =>
  doQ (qBin env.P .lss 3 (.tmp 145) (.tmp 148) (some x25) (some v3)) fun v4 =>
  br (some v4) (
   doQ (qFieldAddr env.P 33 (some x22) 1) fun v5 =>
   doQ (qLoad env.P (Heap.get H) 31 (some v5)) fun v6 =>
   doQ (qIndexAddr env.P (Heap.get H) 31 (some v6) (some x25)) fun v7 =>
   doQ (qFieldAddr env.P 26 (some v7) 2) fun v8 =>
   doW (wStore env.P H 3 (some v8) (some (.v (.int .i64 (-7))))) fun v9 H1 =>
   doQ (qBin env.P .add 3 (.tmp 150) (.const (.int .i64 1)) (some x25) (some (.v (.int .i64 1)))) fun v10 =>
   GoL env Try.f6 0 hd_blindstamplaw06_PolicyTells_17 [(25, v10), (22, x22), (4, x4), (9, x9), (23, x23)] H1 Q) (
   gQ x23 true (qLoad env.P (Heap.get H) 33 (some x9)) fun v5 =>
   gQ x23 true (qLoad env.P (Heap.get H) 33 (some x4)) fun v6 =>
   gW x23 true H (callRes env true (limf env) (limt env 0) H (⟨0, 161, Heap.gen H 0 161, 0⟩ : Ref) (some (.fn (.func 29) [] [])) [v5, v6]) fun v7 H1 =>
   doQ (pickF (some x23) (some v7) (some (.v (.bool false)))) fun v8 =>
   Q v8 H1)
theorem vq_blindstamplaw06_PolicyTells_17 : VC_blindstamplaw06_PolicyTells_17 = fun g x25 x22 x4 x9 x23 H Q => wp env Try.f6 0 lv_blindstamplaw06_PolicyTells cu_blindstamplaw06_PolicyTells Q 500 (bodyOf hd_blindstamplaw06_PolicyTells_17) (ofL g [(25, x25), (22, x22), (4, x4), (9, x9), (23, x23)]) H := by kernel_rfl
theorem vc_blindstamplaw06_PolicyTells_17 (x25 x22 x4 x9 x23 : AV) (H : Heap) (Q : AV → Heap → Prop) (h : ∀ g, VC_blindstamplaw06_PolicyTells_17 g x25 x22 x4 x9 x23 H Q) : GoL env Try.f6 0 hd_blindstamplaw06_PolicyTells_17 [(25, x25), (22, x22), (4, x4), (9, x9), (23, x23)] H Q := goL_body fun g => wp_ok (by have h := h g; rw [vq_blindstamplaw06_PolicyTells_17] at h; exact h)

/- blindstamplaw07_GrantWrites -/
noncomputable def bd_blindstamplaw07_GrantWrites : Code := (Try.f7.body).getD .skip
def lv_blindstamplaw07_GrantWrites : Nat → Option (List Nat) := fun i => none
def cu_blindstamplaw07_GrantWrites : Nat → Bool := fun i => false
def VC_blindstamplaw07_GrantWrites (g : Nat → AV) (x0 x1 : AV) (H : Heap) (Q : AV → Heap → Prop) : Prop :=
  doW (nRes H (⟨0, 2, Heap.gen H 0 2, 0⟩ : Ref) (qBox env.P (⟨0, 2, Heap.gen H 0 2, 0⟩ : Ref) 59 (some x0))) fun v1 H1 =>
  doQ (qBuiltin env.P false (Heap.get H1) (⟨0, 15, Heap.gen H1 0 15, 0⟩ : Ref) .len #[60] [x1]) fun v2 =>
  doQ (qBin env.P .gtr 3 (.tmp 15) (.const (.int .i64 1000)) (some v2) (some (.v (.int .i64 1000)))) fun v3 =>
  br (some v3) (
   Q (.v (.bool true)) H1) (
   doW (appRes env.P true H1 (⟨0, 18, Heap.gen H1 0 18, 0⟩ : Ref) (some 60) (some 60) (.v (.slice none 0 0)) x1) fun v4 H2 =>
   doW (bsRes env.P false true H2 (⟨0, 19, Heap.gen H2 0 19, 0⟩ : Ref) 60 1 (some [(0, (a8 7))])) fun v5 H3 =>
   doW (appRes env.P true H3 (⟨0, 20, Heap.gen H3 0 20, 0⟩ : Ref) (some 60) (some 60) v4 v5) fun v6 H4 =>
   doQ (qLoad env.P (Heap.get H4) 59 (some v1)) fun v7 =>
   doW (callRes env true (limf env) (limt env 0) H4 (⟨0, 23, Heap.gen H4 0 23, 0⟩ : Ref) (some (.fn (.func 30) [] [])) [v7]) fun v8 H5 =>
   doQ (qExtract (some v8) 0) fun v9 =>
   doQ (qExtract (some v8) 1) fun v10 =>
   doQ (qLoad env.P (Heap.get H5) 59 (some v1)) fun v11 =>
   doW (callRes env true (limf env) (limt env 0) H5 (⟨0, 28, Heap.gen H5 0 28, 0⟩ : Ref) (some (.fn (.func 31) [] [])) [v11]) fun v12 H6 =>
   doQ (qExtract (some v12) 0) fun v13 =>
   doQ (qExtract (some v12) 1) fun v14 =>
   doQ (qBuiltin env.P false (Heap.get H6) (⟨0, 34, Heap.gen H6 0 34, 0⟩ : Ref) .len #[60] [x1]) fun v15 =>
   doQ (qSlice env.P (Heap.get H6) 60 (some v6) (some none) (oi v15) (some none)) fun v16 =>
   doW (callRes env true (limf env) (limt env 0) H6 (⟨0, 36, Heap.gen H6 0 36, 0⟩ : Ref) (some (.fn (.func 32) [] [])) [v16]) fun v17 H7 =>
   doQ (qExtract (some v17) 0) fun v18 =>
   doQ (qExtract (some v17) 1) fun v19 =>
   doW (nRes H7 (⟨0, 10, Heap.gen H7 0 10, 0⟩ : Ref) (qAlloc env.P (⟨0, 10, Heap.gen H7 0 10, 0⟩ : Ref) 59)) fun v20 H8 =>
   doW (wStore env.P H8 59 (some v20) (some v18)) fun v21 H9 =>
   doW (callRes env true (limf env) (limt env 0) H9 (⟨0, 41, Heap.gen H9 0 41, 0⟩ : Ref) (some (.fn (.func 33) [] [])) [x1]) fun v22 H10 =>
   doQ (qExtract (some v22) 0) fun v23 =>
   doQ (qExtract (some v22) 1) fun v24 =>
   doW (nRes H10 (⟨0, 12, Heap.gen H10 0 12, 0⟩ : Ref) (qAlloc env.P (⟨0, 12, Heap.gen H10 0 12, 0⟩ : Ref) 59)) fun v25 H11 =>
   doW (wStore env.P H11 59 (some v25) (some v23)) fun v26 H12 =>
   doQ (qConvert env.P (Heap.get H12) (⟨0, 45, Heap.gen H12 0 45, 0⟩ : Ref) 60 9 (some v9)) fun v27 =>
   doQ (qConvert env.P (Heap.get H12) (⟨0, 47, Heap.gen H12 0 47, 0⟩ : Ref) 60 9 (some v13)) fun v28 =>
   doQ (qBin env.P .eql 9 (.tmp 45) (.tmp 47) (some v27) (some v28)) fun v29 =>
   gQ v29 true (qVal (some v10)) fun v30 =>
   gQ v29 true (qVal (some v14)) fun v31 =>
   gQ v29 true (qBin env.P .eql 3 (.tmp 50) (.tmp 51) (some v30) (some v31)) fun v32 =>
   doQ (pickF (some v29) (some v32) (some (.v (.bool false)))) fun v33 =>
   gQ v33 true (qLoad env.P (Heap.get H12) 59 (some v20)) fun v34 =>
   gQ v33 true (qLoad env.P (Heap.get H12) 59 (some v25)) fun v35 =>
   gQ v33 true (qBin env.P .eql 59 (.tmp 55) (.tmp 56) (some v34) (some v35)) fun v36 =>
   doQ (pickF (some v33) (some v36) (some (.v (.bool false)))) fun v37 =>
   gQ v37 true (qVal (some v19)) fun v38 =>
   gQ v37 true (qVal (some v24)) fun v39 =>
   gQ v37 true (qBin env.P .eql 3 (.tmp 60) (.tmp 61) (some v38) (some v39)) fun v40 =>
   doQ (pickF (some v37) (some v40) (some (.v (.bool false)))) fun v41 =>
   gQ v41 true (qVal (some v6)) fun v42 =>
   gQ v41 true (qConvert env.P (Heap.get H12) (⟨0, 66, Heap.gen H12 0 66, 0⟩ : Ref) 60 9 (some v42)) fun v43 =>
   gQ v41 true (qVal (some x1)) fun v44 =>
   gQ v41 true (qConvert env.P (Heap.get H12) (⟨0, 68, Heap.gen H12 0 68, 0⟩ : Ref) 60 9 (some v44)) fun v45 =>
   gQ v41 true (qBin env.P .add 9 (.tmp 68) (.const (.string ⟨#[7]⟩)) (some v45) (some (.v (.string ⟨#[7]⟩)))) fun v46 =>
   gQ v41 true (qBin env.P .eql 9 (.tmp 66) (.tmp 69) (some v43) (some v46)) fun v47 =>
   doQ (pickF (some v41) (some v47) (some (.v (.bool false)))) fun v48 =>
   Q v48 H12)
theorem vq_blindstamplaw07_GrantWrites : VC_blindstamplaw07_GrantWrites = fun g x0 x1 H Q => wp env Try.f7 0 lv_blindstamplaw07_GrantWrites cu_blindstamplaw07_GrantWrites Q 500 [.code bd_blindstamplaw07_GrantWrites] (ofL g [(0, x0), (1, x1)]) H := by kernel_rfl
theorem vc_blindstamplaw07_GrantWrites (x0 x1 : AV) (H : Heap) (Q : AV → Heap → Prop) (h : ∀ g, VC_blindstamplaw07_GrantWrites g x0 x1 H Q) : GoL env Try.f7 0 [.code bd_blindstamplaw07_GrantWrites] [(0, x0), (1, x1)] H Q := ⟨fun g => wp_ok (by have h := h g; rw [vq_blindstamplaw07_GrantWrites] at h; exact h)⟩

/- blindstamplaw07_GrantTells -/
noncomputable def bd_blindstamplaw07_GrantTells : Code := (Try.f8.body).getD .skip
noncomputable def hd_blindstamplaw07_GrantTells_10 : List Item := (findLoop 10 400 [.code bd_blindstamplaw07_GrantTells]).getD []
noncomputable def hd_blindstamplaw07_GrantTells_14 : List Item := (findLoop 14 400 [.code bd_blindstamplaw07_GrantTells]).getD []
noncomputable def hd_blindstamplaw07_GrantTells_18 : List Item := (findLoop 18 400 [.code bd_blindstamplaw07_GrantTells]).getD []
def lv_blindstamplaw07_GrantTells : Nat → Option (List Nat) := fun i => cond (Nat.beq i 10) (some [19, 16, 13, 8, 12, 3, 7, 18]) (cond (Nat.beq i 14) (some [20, 8, 12, 3, 7, 18]) (cond (Nat.beq i 18) (some [21, 12, 3, 7, 18]) (none)))
def cu_blindstamplaw07_GrantTells : Nat → Bool := fun i => false
def VC_blindstamplaw07_GrantTells (g : Nat → AV) (x0 x1 x2 : AV) (H : Heap) (Q : AV → Heap → Prop) : Prop :=
  doW (nRes H (⟨0, 3, Heap.gen H 0 3, 0⟩ : Ref) (qBox env.P (⟨0, 3, Heap.gen H 0 3, 0⟩ : Ref) 33 (some x0))) fun v1 H1 =>
  doW (nRes H1 (⟨0, 4, Heap.gen H1 0 4, 0⟩ : Ref) (qBox env.P (⟨0, 4, Heap.gen H1 0 4, 0⟩ : Ref) 59 (some x1))) fun v2 H2 =>
  doQ (qLoad env.P (Heap.get H2) 33 (some v1)) fun v3 =>
  doW (callRes env true (limf env) (limt env 0) H2 (⟨0, 23, Heap.gen H2 0 23, 0⟩ : Ref) (some (.fn (.func 18) [] [])) [v3]) fun v4 H3 =>
  gQ v4 false (qVal (some x2)) fun v5 =>
  gQ v4 false (qBuiltin env.P false (Heap.get H3) (⟨0, 26, Heap.gen H3 0 26, 0⟩ : Ref) .len #[70] [v5]) fun v6 =>
  gQ v4 false (qBin env.P .gtr 3 (.tmp 26) (.const (.int .i64 300)) (some v6) (some (.v (.int .i64 300)))) fun v7 =>
  gQ v4 false (qVal (some v7)) fun v8 =>
  gQ v8 true (qVal (some x2)) fun v9 =>
  gQ v8 true (qBuiltin env.P false (Heap.get H3) (⟨0, 30, Heap.gen H3 0 30, 0⟩ : Ref) .len #[70] [v9]) fun v10 =>
  gQ v8 true (qBin env.P .leq 3 (.tmp 30) (.const (.int .i64 2048)) (some v10) (some (.v (.int .i64 2048)))) fun v11 =>
  gQ v4 false (pickF (some v8) (some v11) (some (.v (.bool false)))) fun v12 =>
  doQ (pickF (some v4) (some (.v (.bool true))) (some v12)) fun v13 =>
  gQ v13 false (qVal (some x2)) fun v14 =>
  gQ v13 false (qBuiltin env.P false (Heap.get H3) (⟨0, 36, Heap.gen H3 0 36, 0⟩ : Ref) .len #[70] [v14]) fun v15 =>
  gQ v13 false (qBin env.P .gtr 3 (.tmp 36) (.const (.int .i64 2060)) (some v15) (some (.v (.int .i64 2060)))) fun v16 =>
  doQ (pickF (some v13) (some (.v (.bool true))) (some v16)) fun v17 =>
  br (some v17) (
   Q (.v (.bool true)) H3) (
   doQ (qLoad env.P (Heap.get H3) 33 (some v1)) fun v18 =>
   doW (callRes env true (limf env) (limt env 0) H3 (⟨0, 40, Heap.gen H3 0 40, 0⟩ : Ref) (some (.fn (.func 20) [] [])) [v18]) fun v19 H4 =>
   doW (nRes H4 (⟨0, 7, Heap.gen H4 0 7, 0⟩ : Ref) (qAlloc env.P (⟨0, 7, Heap.gen H4 0 7, 0⟩ : Ref) 33)) fun v20 H5 =>
   doW (wStore env.P H5 33 (some v20) (some v19)) fun v21 H6 =>
   doQ (qLoad env.P (Heap.get H6) 33 (some v20)) fun v22 =>
   doQ (qLoad env.P (Heap.get H6) 59 (some v2)) fun v23 =>
   doW (callRes env true (limf env) (limt env 0) H6 (⟨0, 44, Heap.gen H6 0 44, 0⟩ : Ref) (some (.fn (.func 34) [] [])) [v22, v23]) fun v24 H7 =>
   doQ (qExtract (some v24) 0) fun v25 =>
   doQ (qExtract (some v24) 1) fun v26 =>
   doW (nRes H7 (⟨0, 8, Heap.gen H7 0 8, 0⟩ : Ref) (qAlloc env.P (⟨0, 8, Heap.gen H7 0 8, 0⟩ : Ref) 33)) fun v27 H8 =>
   doW (wStore env.P H8 33 (some v27) (some v25)) fun v28 H9 =>
   doQ (qLoad env.P (Heap.get H9) 33 (some v1)) fun v29 =>
   doQ (qLoad env.P (Heap.get H9) 59 (some v2)) fun v30 =>
   doW (callRes env true (limf env) (limt env 0) H9 (⟨0, 50, Heap.gen H9 0 50, 0⟩ : Ref) (some (.fn (.func 35) [] [])) [v29, v30]) fun v31 H10 =>
   doQ (qExtract (some v31) 0) fun v32 =>
   doQ (qExtract (some v31) 1) fun v33 =>
   doW (nRes H10 (⟨0, 10, Heap.gen H10 0 10, 0⟩ : Ref) (qAlloc env.P (⟨0, 10, Heap.gen H10 0 10, 0⟩ : Ref) 33)) fun v34 H11 =>
   doW (wStore env.P H11 33 (some v34) (some v32)) fun v35 H12 =>
   doQ (qLoad env.P (Heap.get H12) 33 (some v20)) fun v36 =>
   doW (callRes env true (limf env) (limt env 0) H12 (⟨0, 56, Heap.gen H12 0 56, 0⟩ : Ref) (some (.fn (.func 36) [] [])) [v36, x2]) fun v37 H13 =>
   doQ (qExtract (some v37) 0) fun v38 =>
   doQ (qExtract (some v37) 1) fun v39 =>
   doQ (qExtract (some v37) 2) fun v40 =>
   doW (nRes H13 (⟨0, 12, Heap.gen H13 0 12, 0⟩ : Ref) (qAlloc env.P (⟨0, 12, Heap.gen H13 0 12, 0⟩ : Ref) 33)) fun v41 H14 =>
   doW (wStore env.P H14 33 (some v41) (some v38)) fun v42 H15 =>
   doQ (qLoad env.P (Heap.get H15) 33 (some v1)) fun v43 =>
   doW (callRes env true (limf env) (limt env 0) H15 (⟨0, 63, Heap.gen H15 0 63, 0⟩ : Ref) (some (.fn (.func 37) [] [])) [v43, x2]) fun v44 H16 =>
   doQ (qExtract (some v44) 0) fun v45 =>
   doQ (qExtract (some v44) 1) fun v46 =>
   doQ (qExtract (some v44) 2) fun v47 =>
   doW (nRes H16 (⟨0, 15, Heap.gen H16 0 15, 0⟩ : Ref) (qAlloc env.P (⟨0, 15, Heap.gen H16 0 15, 0⟩ : Ref) 33)) fun v48 H17 =>
   doW (wStore env.P H17 33 (some v48) (some v45)) fun v49 H18 =>
   doQ (qLoad env.P (Heap.get H18) 33 (some v27)) fun v50 =>
   doQ (qLoad env.P (Heap.get H18) 33 (some v34)) fun v51 =>
   doW (callRes env false (limf env) (limt env 0) H18 (⟨0, 69, Heap.gen H18 0 69, 0⟩ : Ref) (some (.fn (.func 29) [] [])) [v50, v51]) fun v52 H19 =>
   gQ v52 true (qVal (some v26)) fun v53 =>
   gQ v52 true (qVal (some v33)) fun v54 =>
   gQ v52 true (qBin env.P .eql 3 (.tmp 71) (.tmp 72) (some v53) (some v54)) fun v55 =>
   doQ (pickF (some v52) (some v55) (some (.v (.bool false)))) fun v56 =>
   gQ v56 true (qLoad env.P (Heap.get H19) 33 (some v41)) fun v57 =>
   gQ v56 true (qLoad env.P (Heap.get H19) 33 (some v48)) fun v58 =>
   gW v56 true H19 (callRes env false (limf env) (limt env 0) H19 (⟨0, 78, Heap.gen H19 0 78, 0⟩ : Ref) (some (.fn (.func 29) [] [])) [v57, v58]) fun v59 H20 =>
   doQ (pickF (some v56) (some v59) (some (.v (.bool false)))) fun v60 =>
   gQ v60 true (qVal (some v40)) fun v61 =>
   gQ v60 true (qVal (some v47)) fun v62 =>
   gQ v60 true (qBin env.P .eql 3 (.tmp 81) (.tmp 82) (some v61) (some v62)) fun v63 =>
   doQ (pickF (some v60) (some v63) (some (.v (.bool false)))) fun v64 =>
   gQ v64 true (qVal (some v39)) fun v65 =>
   gQ v64 true (qBuiltin env.P false (Heap.get H20) (⟨0, 87, Heap.gen H20 0 87, 0⟩ : Ref) .len #[75] [v65]) fun v66 =>
   gQ v64 true (qVal (some v46)) fun v67 =>
   gQ v64 true (qBuiltin env.P false (Heap.get H20) (⟨0, 89, Heap.gen H20 0 89, 0⟩ : Ref) .len #[78] [v67]) fun v68 =>
   gQ v64 true (qBin env.P .eql 3 (.tmp 87) (.tmp 89) (some v66) (some v68)) fun v69 =>
   doQ (pickF (some v64) (some v69) (some (.v (.bool false)))) fun v70 =>
   gQ v70 true (qLoad env.P (Heap.get H20) 59 (some v2)) fun v71 =>
   gW v70 true H20 (callRes env false (limf env) (limt env 0) H20 (⟨0, 94, Heap.gen H20 0 94, 0⟩ : Ref) (some (.fn (.func 38) [] [])) [v71]) fun v72 H21 =>
   gQ v70 true (qLoad env.P (Heap.get H21) 59 (some v2)) fun v73 =>
   gW v70 true H21 (callRes env false (limf env) (limt env 0) H21 (⟨0, 96, Heap.gen H21 0 96, 0⟩ : Ref) (some (.fn (.func 39) [] [])) [v73]) fun v74 H22 =>
   gQ v70 true (qBin env.P .eql 3 (.tmp 94) (.tmp 96) (some v72) (some v74)) fun v75 =>
   doQ (pickF (some v70) (some v75) (some (.v (.bool false)))) fun v76 =>
   GoL env Try.f8 0 hd_blindstamplaw07_GrantTells_10 [(19, (.v (.int .i64 0))), (16, v46), (13, v39), (8, v27), (12, v41), (3, v1), (7, v20), (18, v76)] H22 Q)
theorem vq_blindstamplaw07_GrantTells : VC_blindstamplaw07_GrantTells = fun g x0 x1 x2 H Q => wp env Try.f8 0 lv_blindstamplaw07_GrantTells cu_blindstamplaw07_GrantTells Q 500 [.code bd_blindstamplaw07_GrantTells] (ofL g [(0, x0), (1, x1), (2, x2)]) H := by kernel_rfl
theorem vc_blindstamplaw07_GrantTells (x0 x1 x2 : AV) (H : Heap) (Q : AV → Heap → Prop) (h : ∀ g, VC_blindstamplaw07_GrantTells g x0 x1 x2 H Q) : GoL env Try.f8 0 [.code bd_blindstamplaw07_GrantTells] [(0, x0), (1, x1), (2, x2)] H Q := ⟨fun g => wp_ok (by have h := h g; rw [vq_blindstamplaw07_GrantTells] at h; exact h)⟩
def VC_blindstamplaw07_GrantTells_10 (g : Nat → AV) (x19 x16 x13 x8 x12 x3 x7 x18 : AV) (H : Heap) (Q : AV → Heap → Prop) : Prop :=
  doQ (qBuiltin env.P false (Heap.get H) (⟨0, 101, Heap.gen H 0 101, 0⟩ : Ref) .len #[75] [x13]) fun v1 =>
  doQ (qBin env.P .lss 3 (.tmp 99) (.tmp 101) (some x19) (some v1)) fun v2 =>
  gQ v2 true (qVal (some x18)) fun v3 =>
  doQ (pickF (some v2) (some v3) (some (.v (.bool false)))) fun v4 =>
  br (some v4) (
   doQ (qIndexAddr env.P (Heap.get H) 75 (some x13) (some x19)) fun v5 =>
   doQ (qLoad env.P (Heap.get H) 27 (some v5)) fun v6 =>
   doQ (qIndexAddr env.P (Heap.get H) 78 (some x16) (some x19)) fun v7 =>
   doQ (qLoad env.P (Heap.get H) 3 (some v7)) fun v8 =>
   doQ (qBin env.P .eql 3 (.tmp 111) (.tmp 115) (some v6) (some v8)) fun v9 =>
   doQ (qBin env.P .add 3 (.tmp 106) (.const (.int .i64 1)) (some x19) (some (.v (.int .i64 1)))) fun v10 =>
   GoL env Try.f8 0 hd_blindstamplaw07_GrantTells_10 [(19, v10), (16, x16), (13, x13), (8, x8), (12, x12), (3, x3), (7, x7), (18, v9)] H Q) (
   GoL env Try.f8 0 hd_blindstamplaw07_GrantTells_14 [(20, (.v (.int .i64 0))), (8, x8), (12, x12), (3, x3), (7, x7), (18, x18)] H Q)
theorem vq_blindstamplaw07_GrantTells_10 : VC_blindstamplaw07_GrantTells_10 = fun g x19 x16 x13 x8 x12 x3 x7 x18 H Q => wp env Try.f8 0 lv_blindstamplaw07_GrantTells cu_blindstamplaw07_GrantTells Q 500 (bodyOf hd_blindstamplaw07_GrantTells_10) (ofL g [(19, x19), (16, x16), (13, x13), (8, x8), (12, x12), (3, x3), (7, x7), (18, x18)]) H := by kernel_rfl
theorem vc_blindstamplaw07_GrantTells_10 (x19 x16 x13 x8 x12 x3 x7 x18 : AV) (H : Heap) (Q : AV → Heap → Prop) (h : ∀ g, VC_blindstamplaw07_GrantTells_10 g x19 x16 x13 x8 x12 x3 x7 x18 H Q) : GoL env Try.f8 0 hd_blindstamplaw07_GrantTells_10 [(19, x19), (16, x16), (13, x13), (8, x8), (12, x12), (3, x3), (7, x7), (18, x18)] H Q := goL_body fun g => wp_ok (by have h := h g; rw [vq_blindstamplaw07_GrantTells_10] at h; exact h)
def VC_blindstamplaw07_GrantTells_14 (g : Nat → AV) (x20 x8 x12 x3 x7 x18 : AV) (H : Heap) (Q : AV → Heap → Prop) : Prop :=
  doQ (qFieldAddr env.P 33 (some x8) 0) fun v1 =>
  doQ (qLoad env.P (Heap.get H) 30 (some v1)) fun v2 =>
  doQ (qBuiltin env.P false (Heap.get H) (⟨0, 120, Heap.gen H 0 120, 0⟩ : Ref) .len #[30] [v2]) fun v3 =>
  doQ (qBin env.P .lss 3 (.tmp 117) (.tmp 120) (some x20) (some v3)) fun v4 =>
  br (some v4) (
   doQ (qFieldAddr env.P 33 (some x8) 0) fun v5 =>
   doQ (qLoad env.P (Heap.get H) 30 (some v5)) fun v6 =>
   doQ (qFieldAddr env.P 33 (some x8) 0) fun v7 =>
   doQ (qLoad env.P (Heap.get H) 30 (some v7)) fun v8 =>
   doQ (qIndexAddr env.P (Heap.get H) 30 (some v8) (some x20)) fun v9 =>
   doQ (qFieldAddr env.P 39 (some v9) 1) fun v10 =>
   doQ (qLoad env.P (Heap.get H) 4 (some v10)) fun v11 =>
   doQ (qUn env.P .not (some v11)) fun v12 =>
   doQ (qIndexAddr env.P (Heap.get H) 30 (some v6) (some x20)) fun v13 =>
   doQ (qFieldAddr env.P 39 (some v13) 1) fun v14 =>
   doW (wStore env.P H 4 (some v14) (some v12)) fun v15 H1 =>
   doQ (qBin env.P .add 3 (.tmp 122) (.const (.int .i64 1)) (some x20) (some (.v (.int .i64 1)))) fun v16 =>
   GoL env Try.f8 0 hd_blindstamplaw07_GrantTells_14 [(20, v16), (8, x8), (12, x12), (3, x3), (7, x7), (18, x18)] H1 Q) (
   GoL env Try.f8 0 hd_blindstamplaw07_GrantTells_18 [(21, (.v (.int .i64 0))), (12, x12), (3, x3), (7, x7), (18, x18)] H Q)
theorem vq_blindstamplaw07_GrantTells_14 : VC_blindstamplaw07_GrantTells_14 = fun g x20 x8 x12 x3 x7 x18 H Q => wp env Try.f8 0 lv_blindstamplaw07_GrantTells cu_blindstamplaw07_GrantTells Q 500 (bodyOf hd_blindstamplaw07_GrantTells_14) (ofL g [(20, x20), (8, x8), (12, x12), (3, x3), (7, x7), (18, x18)]) H := by kernel_rfl
theorem vc_blindstamplaw07_GrantTells_14 (x20 x8 x12 x3 x7 x18 : AV) (H : Heap) (Q : AV → Heap → Prop) (h : ∀ g, VC_blindstamplaw07_GrantTells_14 g x20 x8 x12 x3 x7 x18 H Q) : GoL env Try.f8 0 hd_blindstamplaw07_GrantTells_14 [(20, x20), (8, x8), (12, x12), (3, x3), (7, x7), (18, x18)] H Q := goL_body fun g => wp_ok (by have h := h g; rw [vq_blindstamplaw07_GrantTells_14] at h; exact h)
def VC_blindstamplaw07_GrantTells_18 (g : Nat → AV) (x21 x12 x3 x7 x18 : AV) (H : Heap) (Q : AV → Heap → Prop) : Prop :=
  doQ (qFieldAddr env.P 33 (some x12) 0) fun v1 =>
  doQ (qLoad env.P (Heap.get H) 30 (some v1)) fun v2 =>
  doQ (qBuiltin env.P false (Heap.get H) (⟨0, 139, Heap.gen H 0 139, 0⟩ : Ref) .len #[30] [v2]) fun v3 =>
  doQ (qBin env.P .lss 3 (.tmp 136) (.tmp 139) (some x21) (some v3)) fun v4 =>
  br (some v4) (
   doQ (qFieldAddr env.P 33 (some x12) 0) fun v5 =>
   doQ (qLoad env.P (Heap.get H) 30 (some v5)) fun v6 =>
   doQ (qFieldAddr env.P 33 (some x12) 0) fun v7 =>
   doQ (qLoad env.P (Heap.get H) 30 (some v7)) fun v8 =>
   doQ (qIndexAddr env.P (Heap.get H) 30 (some v8) (some x21)) fun v9 =>
   doQ (qFieldAddr env.P 39 (some v9) 1) fun v10 =>
   doQ (qLoad env.P (Heap.get H) 4 (some v10)) fun v11 =>
   doQ (qUn env.P .not (some v11)) fun v12 =>
   doQ (qIndexAddr env.P (Heap.get H) 30 (some v6) (some x21)) fun v13 =>
   doQ (qFieldAddr env.P 39 (some v13) 1) fun v14 =>
   doW (wStore env.P H 4 (some v14) (some v12)) fun v15 H1 =>
   doQ (qBin env.P .add 3 (.tmp 141) (.const (.int .i64 1)) (some x21) (some (.v (.int .i64 1)))) fun v16 =>
   GoL env Try.f8 0 hd_blindstamplaw07_GrantTells_18 [(21, v16), (12, x12), (3, x3), (7, x7), (18, x18)] H1 Q) (
   gQ x18 true (qLoad env.P (Heap.get H) 33 (some x7)) fun v5 =>
   gQ x18 true (qLoad env.P (Heap.get H) 33 (some x3)) fun v6 =>
   gW x18 true H (callRes env true (limf env) (limt env 0) H (⟨0, 159, Heap.gen H 0 159, 0⟩ : Ref) (some (.fn (.func 29) [] [])) [v5, v6]) fun v7 H1 =>
   doQ (pickF (some x18) (some v7) (some (.v (.bool false)))) fun v8 =>
   Q v8 H1)
theorem vq_blindstamplaw07_GrantTells_18 : VC_blindstamplaw07_GrantTells_18 = fun g x21 x12 x3 x7 x18 H Q => wp env Try.f8 0 lv_blindstamplaw07_GrantTells cu_blindstamplaw07_GrantTells Q 500 (bodyOf hd_blindstamplaw07_GrantTells_18) (ofL g [(21, x21), (12, x12), (3, x3), (7, x7), (18, x18)]) H := by kernel_rfl
theorem vc_blindstamplaw07_GrantTells_18 (x21 x12 x3 x7 x18 : AV) (H : Heap) (Q : AV → Heap → Prop) (h : ∀ g, VC_blindstamplaw07_GrantTells_18 g x21 x12 x3 x7 x18 H Q) : GoL env Try.f8 0 hd_blindstamplaw07_GrantTells_18 [(21, x21), (12, x12), (3, x3), (7, x7), (18, x18)] H Q := goL_body fun g => wp_ok (by have h := h g; rw [vq_blindstamplaw07_GrantTells_18] at h; exact h)

/- blindstamplaw07_GrantLast -/
noncomputable def bd_blindstamplaw07_GrantLast : Code := (Try.f9.body).getD .skip
noncomputable def hd_blindstamplaw07_GrantLast_11 : List Item := (findLoop 11 400 [.code bd_blindstamplaw07_GrantLast]).getD []
noncomputable def hd_blindstamplaw07_GrantLast_18 : List Item := (findLoop 18 400 [.code bd_blindstamplaw07_GrantLast]).getD []
noncomputable def hd_blindstamplaw07_GrantLast_26 : List Item := (findLoop 26 400 [.code bd_blindstamplaw07_GrantLast]).getD []
def lv_blindstamplaw07_GrantLast : Nat → Option (List Nat) := fun i => cond (Nat.beq i 11) (some [12, 11, 3, 9, 8, 7, 1, 2]) (cond (Nat.beq i 18) (some [13, 3, 8, 11, 7, 1, 2, 9]) (cond (Nat.beq i 26) (some [15, 14, 1, 2, 9, 8, 7]) (none)))
def cu_blindstamplaw07_GrantLast : Nat → Bool := fun i => false
def VC_blindstamplaw07_GrantLast (g : Nat → AV) (x0 x1 x2 : AV) (H : Heap) (Q : AV → Heap → Prop) : Prop :=
  doW (nRes H (⟨0, 3, Heap.gen H 0 3, 0⟩ : Ref) (qBox env.P (⟨0, 3, Heap.gen H 0 3, 0⟩ : Ref) 33 (some x0))) fun v1 H1 =>
  doW (callRes env true (limf env) (limt env 0) H1 (⟨0, 16, Heap.gen H1 0 16, 0⟩ : Ref) (some (.fn (.func 40) [] [])) []) fun v2 H2 =>
  doQ (qLoad env.P (Heap.get H2) 33 (some v1)) fun v3 =>
  doW (callRes env true (limf env) (limt env 0) H2 (⟨0, 18, Heap.gen H2 0 18, 0⟩ : Ref) (some (.fn (.func 18) [] [])) [v3]) fun v4 H3 =>
  gQ v4 false (qVal (some x1)) fun v5 =>
  gQ v4 false (qBuiltin env.P false (Heap.get H3) (⟨0, 21, Heap.gen H3 0 21, 0⟩ : Ref) .len #[70] [v5]) fun v6 =>
  gQ v4 false (qBin env.P .gtr 3 (.tmp 21) (.const (.int .i64 300)) (some v6) (some (.v (.int .i64 300)))) fun v7 =>
  doQ (pickF (some v4) (some (.v (.bool true))) (some v7)) fun v8 =>
  gQ v8 false (qVal (some v2)) fun v9 =>
  gQ v8 false (qUn env.P .not (some v9)) fun v10 =>
  doQ (pickF (some v8) (some (.v (.bool true))) (some v10)) fun v11 =>
  br (some v11) (
   Q v2 H3) (
   doQ (qLoad env.P (Heap.get H3) 33 (some v1)) fun v12 =>
   doW (callRes env true (limf env) (limt env 0) H3 (⟨0, 32, Heap.gen H3 0 32, 0⟩ : Ref) (some (.fn (.func 36) [] [])) [v12, x1]) fun v13 H4 =>
   doQ (qExtract (some v13) 0) fun v14 =>
   doQ (qExtract (some v13) 1) fun v15 =>
   doQ (qExtract (some v13) 2) fun v16 =>
   doW (nRes H4 (⟨0, 8, Heap.gen H4 0 8, 0⟩ : Ref) (qAlloc env.P (⟨0, 8, Heap.gen H4 0 8, 0⟩ : Ref) 33)) fun v17 H5 =>
   doW (wStore env.P H5 33 (some v17) (some v14)) fun v18 H6 =>
   doQ (qBin env.P .neq 27 (.tmp 36) (.const (.int .i64 0)) (some v16) (some (.v (.int .i64 0)))) fun v19 =>
   br (some v19) (
    gQ v2 true (qVal (some v15)) fun v20 =>
    gQ v2 true (qBuiltin env.P false (Heap.get H6) (⟨0, 41, Heap.gen H6 0 41, 0⟩ : Ref) .len #[75] [v20]) fun v21 =>
    gQ v2 true (qBin env.P .eql 3 (.tmp 41) (.const (.int .i64 0)) (some v21) (some (.v (.int .i64 0)))) fun v22 =>
    doQ (pickF (some v2) (some v22) (some (.v (.bool false)))) fun v23 =>
    gQ v23 true (qLoad env.P (Heap.get H6) 33 (some v1)) fun v24 =>
    gW v23 true H6 (callRes env true (limf env) (limt env 0) H6 (⟨0, 46, Heap.gen H6 0 46, 0⟩ : Ref) (some (.fn (.func 17) [] [])) [v24]) fun v25 H7 =>
    gQ v23 true (qVal (some v16)) fun v26 =>
    gQ v23 true (qBin env.P .eql 27 (.tmp 46) (.tmp 47) (some v25) (some v26)) fun v27 =>
    doQ (pickF (some v23) (some v27) (some (.v (.bool false)))) fun v28 =>
    Q v28 H7) (
    doQ (qLoad env.P (Heap.get H6) 33 (some v17)) fun v20 =>
    doW (callRes env true (limf env) (limt env 0) H6 (⟨0, 51, Heap.gen H6 0 51, 0⟩ : Ref) (some (.fn (.func 17) [] [])) [v20]) fun v21 H7 =>
    doQ (qBin env.P .neq 27 (.tmp 51) (.const (.int .i64 0)) (some v21) (some (.v (.int .i64 0)))) fun v22 =>
    gQ v22 false (qVal (some v15)) fun v23 =>
    gQ v22 false (qBuiltin env.P false (Heap.get H7) (⟨0, 55, Heap.gen H7 0 55, 0⟩ : Ref) .len #[75] [v23]) fun v24 =>
    gQ v22 false (qVal (some x1)) fun v25 =>
    gQ v22 false (qBuiltin env.P false (Heap.get H7) (⟨0, 57, Heap.gen H7 0 57, 0⟩ : Ref) .len #[70] [v25]) fun v26 =>
    gQ v22 false (qBin env.P .neq 3 (.tmp 55) (.tmp 57) (some v24) (some v26)) fun v27 =>
    doQ (pickF (some v22) (some (.v (.bool true))) (some v27)) fun v28 =>
    gQ v28 false (qFieldAddr env.P 33 (some v17) 0) fun v29 =>
    gQ v28 false (qLoad env.P (Heap.get H7) 30 (some v29)) fun v30 =>
    gQ v28 false (qBuiltin env.P false (Heap.get H7) (⟨0, 63, Heap.gen H7 0 63, 0⟩ : Ref) .len #[30] [v30]) fun v31 =>
    gQ v28 false (qFieldAddr env.P 33 (some v1) 0) fun v32 =>
    gQ v28 false (qLoad env.P (Heap.get H7) 30 (some v32)) fun v33 =>
    gQ v28 false (qBuiltin env.P false (Heap.get H7) (⟨0, 66, Heap.gen H7 0 66, 0⟩ : Ref) .len #[30] [v33]) fun v34 =>
    gQ v28 false (qBin env.P .neq 3 (.tmp 63) (.tmp 66) (some v31) (some v34)) fun v35 =>
    doQ (pickF (some v28) (some (.v (.bool true))) (some v35)) fun v36 =>
    gQ v36 false (qFieldAddr env.P 33 (some v17) 1) fun v37 =>
    gQ v36 false (qLoad env.P (Heap.get H7) 31 (some v37)) fun v38 =>
    gQ v36 false (qBuiltin env.P false (Heap.get H7) (⟨0, 72, Heap.gen H7 0 72, 0⟩ : Ref) .len #[31] [v38]) fun v39 =>
    gQ v36 false (qFieldAddr env.P 33 (some v1) 1) fun v40 =>
    gQ v36 false (qLoad env.P (Heap.get H7) 31 (some v40)) fun v41 =>
    gQ v36 false (qBuiltin env.P false (Heap.get H7) (⟨0, 75, Heap.gen H7 0 75, 0⟩ : Ref) .len #[31] [v41]) fun v42 =>
    gQ v36 false (qBin env.P .neq 3 (.tmp 72) (.tmp 75) (some v39) (some v42)) fun v43 =>
    doQ (pickF (some v36) (some (.v (.bool true))) (some v43)) fun v44 =>
    br (some v44) (
     Q (.v (.bool false)) H7) (
     GoL env Try.f9 0 hd_blindstamplaw07_GrantLast_11 [(12, (.v (.int .i64 0))), (11, (.v (.int .i64 0))), (3, v1), (9, v15), (8, v17), (7, v2), (1, x1), (2, x2)] H7 Q)))
theorem vq_blindstamplaw07_GrantLast : VC_blindstamplaw07_GrantLast = fun g x0 x1 x2 H Q => wp env Try.f9 0 lv_blindstamplaw07_GrantLast cu_blindstamplaw07_GrantLast Q 500 [.code bd_blindstamplaw07_GrantLast] (ofL g [(0, x0), (1, x1), (2, x2)]) H := by kernel_rfl
theorem vc_blindstamplaw07_GrantLast (x0 x1 x2 : AV) (H : Heap) (Q : AV → Heap → Prop) (h : ∀ g, VC_blindstamplaw07_GrantLast g x0 x1 x2 H Q) : GoL env Try.f9 0 [.code bd_blindstamplaw07_GrantLast] [(0, x0), (1, x1), (2, x2)] H Q := ⟨fun g => wp_ok (by have h := h g; rw [vq_blindstamplaw07_GrantLast] at h; exact h)⟩
def VC_blindstamplaw07_GrantLast_11 (g : Nat → AV) (x12 x11 x3 x9 x8 x7 x1 x2 : AV) (H : Heap) (Q : AV → Heap → Prop) : Prop :=
  doQ (qBuiltin env.P false (Heap.get H) (⟨0, 80, Heap.gen H 0 80, 0⟩ : Ref) .len #[70] [x1]) fun v1 =>
  doQ (qBin env.P .lss 3 (.tmp 78) (.tmp 80) (some x12) (some v1)) fun v2 =>
  br (some v2) (
   doQ (qIndexAddr env.P (Heap.get H) 75 (some x9) (some x12)) fun v3 =>
   doQ (qLoad env.P (Heap.get H) 27 (some v3)) fun v4 =>
   doQ (qBin env.P .eql 27 (.tmp 87) (.const (.int .i64 0)) (some v4) (some (.v (.int .i64 0)))) fun v5 =>
   br (some v5) (
    doQ (qBin env.P .add 3 (.tmp 89) (.const (.int .i64 1)) (some x11) (some (.v (.int .i64 1)))) fun v6 =>
    doQ (qBin env.P .add 3 (.tmp 82) (.const (.int .i64 1)) (some x12) (some (.v (.int .i64 1)))) fun v7 =>
    GoL env Try.f9 0 hd_blindstamplaw07_GrantLast_11 [(12, v7), (11, v6), (3, x3), (9, x9), (8, x8), (7, x7), (1, x1), (2, x2)] H Q) (
    doQ (qIndexAddr env.P (Heap.get H) 75 (some x9) (some x12)) fun v6 =>
    doQ (qLoad env.P (Heap.get H) 27 (some v6)) fun v7 =>
    doQ (qBin env.P .eql 27 (.tmp 94) (.const (.int .i64 9)) (some v7) (some (.v (.int .i64 9)))) fun v8 =>
    gQ v8 true (qVal (some x11)) fun v9 =>
    gQ v8 true (qFieldAddr env.P 33 (some x3) 2) fun v10 =>
    gQ v8 true (qLoad env.P (Heap.get H) 3 (some v10)) fun v11 =>
    gQ v8 true (qBin env.P .neq 3 (.tmp 97) (.tmp 99) (some v9) (some v11)) fun v12 =>
    doQ (pickF (some v8) (some v12) (some (.v (.bool false)))) fun v13 =>
    br (some v13) (
     Q (.v (.bool false)) H) (
     doQ (qBin env.P .add 3 (.tmp 82) (.const (.int .i64 1)) (some x12) (some (.v (.int .i64 1)))) fun v14 =>
     GoL env Try.f9 0 hd_blindstamplaw07_GrantLast_11 [(12, v14), (11, x11), (3, x3), (9, x9), (8, x8), (7, x7), (1, x1), (2, x2)] H Q))) (
   GoL env Try.f9 0 hd_blindstamplaw07_GrantLast_18 [(13, (.v (.int .i64 0))), (3, x3), (8, x8), (11, x11), (7, x7), (1, x1), (2, x2), (9, x9)] H Q)
theorem vq_blindstamplaw07_GrantLast_11 : VC_blindstamplaw07_GrantLast_11 = fun g x12 x11 x3 x9 x8 x7 x1 x2 H Q => wp env Try.f9 0 lv_blindstamplaw07_GrantLast cu_blindstamplaw07_GrantLast Q 500 (bodyOf hd_blindstamplaw07_GrantLast_11) (ofL g [(12, x12), (11, x11), (3, x3), (9, x9), (8, x8), (7, x7), (1, x1), (2, x2)]) H := by kernel_rfl
theorem vc_blindstamplaw07_GrantLast_11 (x12 x11 x3 x9 x8 x7 x1 x2 : AV) (H : Heap) (Q : AV → Heap → Prop) (h : ∀ g, VC_blindstamplaw07_GrantLast_11 g x12 x11 x3 x9 x8 x7 x1 x2 H Q) : GoL env Try.f9 0 hd_blindstamplaw07_GrantLast_11 [(12, x12), (11, x11), (3, x3), (9, x9), (8, x8), (7, x7), (1, x1), (2, x2)] H Q := goL_body fun g => wp_ok (by have h := h g; rw [vq_blindstamplaw07_GrantLast_11] at h; exact h)
def VC_blindstamplaw07_GrantLast_18 (g : Nat → AV) (x13 x3 x8 x11 x7 x1 x2 x9 : AV) (H : Heap) (Q : AV → Heap → Prop) : Prop :=
  doQ (qFieldAddr env.P 33 (some x3) 1) fun v1 =>
  doQ (qLoad env.P (Heap.get H) 31 (some v1)) fun v2 =>
  doQ (qBuiltin env.P false (Heap.get H) (⟨0, 105, Heap.gen H 0 105, 0⟩ : Ref) .len #[31] [v2]) fun v3 =>
  doQ (qBin env.P .lss 3 (.tmp 102) (.tmp 105) (some x13) (some v3)) fun v4 =>
  br (some v4) (
   doQ (qFieldAddr env.P 33 (some x8) 1) fun v5 =>
   doQ (qLoad env.P (Heap.get H) 31 (some v5)) fun v6 =>
   doQ (qIndexAddr env.P (Heap.get H) 31 (some v6) (some x13)) fun v7 =>
   doQ (qLoad env.P (Heap.get H) 26 (some v7)) fun v8 =>
   doQ (qFieldAddr env.P 33 (some x3) 1) fun v9 =>
   doQ (qLoad env.P (Heap.get H) 31 (some v9)) fun v10 =>
   doQ (qIndexAddr env.P (Heap.get H) 31 (some v10) (some x13)) fun v11 =>
   doQ (qLoad env.P (Heap.get H) 26 (some v11)) fun v12 =>
   doQ (qBin env.P .neq 26 (.tmp 113) (.tmp 118) (some v8) (some v12)) fun v13 =>
   br (some v13) (
    Q (.v (.bool false)) H) (
    doQ (qBin env.P .add 3 (.tmp 107) (.const (.int .i64 1)) (some x13) (some (.v (.int .i64 1)))) fun v14 =>
    GoL env Try.f9 0 hd_blindstamplaw07_GrantLast_18 [(13, v14), (3, x3), (8, x8), (11, x11), (7, x7), (1, x1), (2, x2), (9, x9)] H Q)) (
   doQ (qFieldAddr env.P 33 (some x3) 2) fun v5 =>
   doQ (qLoad env.P (Heap.get H) 3 (some v5)) fun v6 =>
   doQ (qBin env.P .gtr 3 (.tmp 120) (.tmp 122) (some x11) (some v6)) fun v7 =>
   gQ v7 false (qFieldAddr env.P 33 (some x8) 2) fun v8 =>
   gQ v7 false (qLoad env.P (Heap.get H) 3 (some v8)) fun v9 =>
   gQ v7 false (qFieldAddr env.P 33 (some x3) 2) fun v10 =>
   gQ v7 false (qLoad env.P (Heap.get H) 3 (some v10)) fun v11 =>
   gQ v7 false (qVal (some x11)) fun v12 =>
   gQ v7 false (qBin env.P .sub 3 (.tmp 128) (.tmp 129) (some v11) (some v12)) fun v13 =>
   gQ v7 false (qBin env.P .neq 3 (.tmp 126) (.tmp 130) (some v9) (some v13)) fun v14 =>
   doQ (pickF (some v7) (some (.v (.bool true))) (some v14)) fun v15 =>
   gQ v15 false (qVal (some x2)) fun v16 =>
   gQ v15 false (qBin env.P .lss 3 (.tmp 134) (.const (.int .i64 0)) (some v16) (some (.v (.int .i64 0)))) fun v17 =>
   doQ (pickF (some v15) (some (.v (.bool true))) (some v17)) fun v18 =>
   gQ v18 false (qVal (some x2)) fun v19 =>
   gQ v18 false (qFieldAddr env.P 33 (some x3) 0) fun v20 =>
   gQ v18 false (qLoad env.P (Heap.get H) 30 (some v20)) fun v21 =>
   gQ v18 false (qBuiltin env.P false (Heap.get H) (⟨0, 141, Heap.gen H 0 141, 0⟩ : Ref) .len #[30] [v21]) fun v22 =>
   gQ v18 false (qBin env.P .geq 3 (.tmp 138) (.tmp 141) (some v19) (some v22)) fun v23 =>
   doQ (pickF (some v18) (some (.v (.bool true))) (some v23)) fun v24 =>
   br (some v24) (
    gQ x7 true (qVal (some x11)) fun v25 =>
    gQ x7 true (qFieldAddr env.P 33 (some x3) 2) fun v26 =>
    gQ x7 true (qLoad env.P (Heap.get H) 3 (some v26)) fun v27 =>
    gQ x7 true (qBin env.P .leq 3 (.tmp 146) (.tmp 148) (some v25) (some v27)) fun v28 =>
    doQ (pickF (some x7) (some v28) (some (.v (.bool false)))) fun v29 =>
    gQ v29 true (qFieldAddr env.P 33 (some x8) 2) fun v30 =>
    gQ v29 true (qLoad env.P (Heap.get H) 3 (some v30)) fun v31 =>
    gQ v29 true (qFieldAddr env.P 33 (some x3) 2) fun v32 =>
    gQ v29 true (qLoad env.P (Heap.get H) 3 (some v32)) fun v33 =>
    gQ v29 true (qVal (some x11)) fun v34 =>
    gQ v29 true (qBin env.P .sub 3 (.tmp 155) (.tmp 156) (some v33) (some v34)) fun v35 =>
    gQ v29 true (qBin env.P .eql 3 (.tmp 153) (.tmp 157) (some v31) (some v35)) fun v36 =>
    doQ (pickF (some v29) (some v36) (some (.v (.bool false)))) fun v37 =>
    Q v37 H) (
    doQ (qFieldAddr env.P 33 (some x3) 0) fun v25 =>
    doQ (qLoad env.P (Heap.get H) 30 (some v25)) fun v26 =>
    doQ (qIndexAddr env.P (Heap.get H) 30 (some v26) (some x2)) fun v27 =>
    doQ (qLoad env.P (Heap.get H) 39 (some v27)) fun v28 =>
    doW (nRes H (⟨0, 14, Heap.gen H 0 14, 0⟩ : Ref) (qAlloc env.P (⟨0, 14, Heap.gen H 0 14, 0⟩ : Ref) 39)) fun v29 H1 =>
    doW (wStore env.P H1 39 (some v29) (some v28)) fun v30 H2 =>
    GoL env Try.f9 0 hd_blindstamplaw07_GrantLast_26 [(15, (.v (.int .i64 0))), (14, v29), (1, x1), (2, x2), (9, x9), (8, x8), (7, x7)] H2 Q))
theorem vq_blindstamplaw07_GrantLast_18 : VC_blindstamplaw07_GrantLast_18 = fun g x13 x3 x8 x11 x7 x1 x2 x9 H Q => wp env Try.f9 0 lv_blindstamplaw07_GrantLast cu_blindstamplaw07_GrantLast Q 500 (bodyOf hd_blindstamplaw07_GrantLast_18) (ofL g [(13, x13), (3, x3), (8, x8), (11, x11), (7, x7), (1, x1), (2, x2), (9, x9)]) H := by kernel_rfl
theorem vc_blindstamplaw07_GrantLast_18 (x13 x3 x8 x11 x7 x1 x2 x9 : AV) (H : Heap) (Q : AV → Heap → Prop) (h : ∀ g, VC_blindstamplaw07_GrantLast_18 g x13 x3 x8 x11 x7 x1 x2 x9 H Q) : GoL env Try.f9 0 hd_blindstamplaw07_GrantLast_18 [(13, x13), (3, x3), (8, x8), (11, x11), (7, x7), (1, x1), (2, x2), (9, x9)] H Q := goL_body fun g => wp_ok (by have h := h g; rw [vq_blindstamplaw07_GrantLast_18] at h; exact h)
def VC_blindstamplaw07_GrantLast_26 (g : Nat → AV) (x15 x14 x1 x2 x9 x8 x7 : AV) (H : Heap) (Q : AV → Heap → Prop) : Prop :=
  doQ (qBuiltin env.P false (Heap.get H) (⟨0, 167, Heap.gen H 0 167, 0⟩ : Ref) .len #[70] [x1]) fun v1 =>
  doQ (qBin env.P .lss 3 (.tmp 165) (.tmp 167) (some x15) (some v1)) fun v2 =>
  br (some v2) (
   doQ (qIndexAddr env.P (Heap.get H) 75 (some x9) (some x15)) fun v3 =>
   doQ (qLoad env.P (Heap.get H) 27 (some v3)) fun v4 =>
   doQ (qBin env.P .eql 27 (.tmp 174) (.const (.int .i64 0)) (some v4) (some (.v (.int .i64 0)))) fun v5 =>
   gQ v5 true (qVal (some x1)) fun v6 =>
   gQ v5 true (qVal (some x15)) fun v7 =>
   gQ v5 true (qIndexAddr env.P (Heap.get H) 70 (some v6) (some v7)) fun v8 =>
   gQ v5 true (qFieldAddr env.P 59 (some v8) 0) fun v9 =>
   gQ v5 true (qLoad env.P (Heap.get H) 3 (some v9)) fun v10 =>
   gQ v5 true (qVal (some x2)) fun v11 =>
   gQ v5 true (qBin env.P .eql 3 (.tmp 181) (.tmp 182) (some v10) (some v11)) fun v12 =>
   doQ (pickF (some v5) (some v12) (some (.v (.bool false)))) fun v13 =>
   br (some v13) (
    doQ (qIndexAddr env.P (Heap.get H) 70 (some x1) (some x15)) fun v14 =>
    doQ (qFieldAddr env.P 59 (some v14) 1) fun v15 =>
    doQ (qLoad env.P (Heap.get H) 39 (some v15)) fun v16 =>
    doW (wStore env.P H 39 (some x14) (some v16)) fun v17 H1 =>
    doQ (qBin env.P .add 3 (.tmp 169) (.const (.int .i64 1)) (some x15) (some (.v (.int .i64 1)))) fun v18 =>
    GoL env Try.f9 0 hd_blindstamplaw07_GrantLast_26 [(15, v18), (14, x14), (1, x1), (2, x2), (9, x9), (8, x8), (7, x7)] H1 Q) (
    doQ (qBin env.P .add 3 (.tmp 169) (.const (.int .i64 1)) (some x15) (some (.v (.int .i64 1)))) fun v14 =>
    GoL env Try.f9 0 hd_blindstamplaw07_GrantLast_26 [(15, v14), (14, x14), (1, x1), (2, x2), (9, x9), (8, x8), (7, x7)] H Q)) (
   gQ x7 true (qFieldAddr env.P 33 (some x8) 0) fun v3 =>
   gQ x7 true (qLoad env.P (Heap.get H) 30 (some v3)) fun v4 =>
   gQ x7 true (qVal (some x2)) fun v5 =>
   gQ x7 true (qIndexAddr env.P (Heap.get H) 30 (some v4) (some v5)) fun v6 =>
   gQ x7 true (qLoad env.P (Heap.get H) 39 (some v6)) fun v7 =>
   gQ x7 true (qLoad env.P (Heap.get H) 39 (some x14)) fun v8 =>
   gQ x7 true (qBin env.P .eql 39 (.tmp 196) (.tmp 197) (some v7) (some v8)) fun v9 =>
   doQ (pickF (some x7) (some v9) (some (.v (.bool false)))) fun v10 =>
   Q v10 H)
theorem vq_blindstamplaw07_GrantLast_26 : VC_blindstamplaw07_GrantLast_26 = fun g x15 x14 x1 x2 x9 x8 x7 H Q => wp env Try.f9 0 lv_blindstamplaw07_GrantLast cu_blindstamplaw07_GrantLast Q 500 (bodyOf hd_blindstamplaw07_GrantLast_26) (ofL g [(15, x15), (14, x14), (1, x1), (2, x2), (9, x9), (8, x8), (7, x7)]) H := by kernel_rfl
theorem vc_blindstamplaw07_GrantLast_26 (x15 x14 x1 x2 x9 x8 x7 : AV) (H : Heap) (Q : AV → Heap → Prop) (h : ∀ g, VC_blindstamplaw07_GrantLast_26 g x15 x14 x1 x2 x9 x8 x7 H Q) : GoL env Try.f9 0 hd_blindstamplaw07_GrantLast_26 [(15, x15), (14, x14), (1, x1), (2, x2), (9, x9), (8, x8), (7, x7)] H Q := goL_body fun g => wp_ok (by have h := h g; rw [vq_blindstamplaw07_GrantLast_26] at h; exact h)

/- blindstamplaw07_GrantBack -/
noncomputable def bd_blindstamplaw07_GrantBack : Code := (Try.f10.body).getD .skip
def lv_blindstamplaw07_GrantBack : Nat → Option (List Nat) := fun i => none
def cu_blindstamplaw07_GrantBack : Nat → Bool := fun i => false
def VC_blindstamplaw07_GrantBack (g : Nat → AV) (x0 x1 : AV) (H : Heap) (Q : AV → Heap → Prop) : Prop :=
  doW (nRes H (⟨0, 2, Heap.gen H 0 2, 0⟩ : Ref) (qBox env.P (⟨0, 2, Heap.gen H 0 2, 0⟩ : Ref) 59 (some x0))) fun v1 H1 =>
  doW (callRes env true (limf env) (limt env 0) H1 (⟨0, 14, Heap.gen H1 0 14, 0⟩ : Ref) (some (.fn (.func 40) [] [])) []) fun v2 H2 =>
  doQ (qBuiltin env.P false (Heap.get H2) (⟨0, 16, Heap.gen H2 0 16, 0⟩ : Ref) .len #[60] [x1]) fun v3 =>
  doQ (qBin env.P .gtr 3 (.tmp 16) (.const (.int .i64 1000)) (some v3) (some (.v (.int .i64 1000)))) fun v4 =>
  gQ v4 false (qVal (some v2)) fun v5 =>
  gQ v4 false (qUn env.P .not (some v5)) fun v6 =>
  doQ (pickF (some v4) (some (.v (.bool true))) (some v6)) fun v7 =>
  br (some v7) (
   Q v2 H2) (
   doQ (qLoad env.P (Heap.get H2) 59 (some v1)) fun v8 =>
   doW (callRes env true (limf env) (limt env 0) H2 (⟨0, 25, Heap.gen H2 0 25, 0⟩ : Ref) (some (.fn (.func 30) [] [])) [v8]) fun v9 H3 =>
   doQ (qExtract (some v9) 0) fun v10 =>
   doQ (qExtract (some v9) 1) fun v11 =>
   doQ (qBin env.P .eql 27 (.tmp 28) (.const (.int .i64 0)) (some v11) (some (.v (.int .i64 0)))) fun v12 =>
   br (some v12) (
    doW (callRes env true (limf env) (limt env 0) H3 (⟨0, 32, Heap.gen H3 0 32, 0⟩ : Ref) (some (.fn (.func 32) [] [])) [v10]) fun v13 H4 =>
    doQ (qExtract (some v13) 0) fun v14 =>
    doQ (qExtract (some v13) 1) fun v15 =>
    doW (nRes H4 (⟨0, 8, Heap.gen H4 0 8, 0⟩ : Ref) (qAlloc env.P (⟨0, 8, Heap.gen H4 0 8, 0⟩ : Ref) 59)) fun v16 H5 =>
    doW (wStore env.P H5 59 (some v16) (some v14)) fun v17 H6 =>
    doQ (qBuiltin env.P false (Heap.get H6) (⟨0, 36, Heap.gen H6 0 36, 0⟩ : Ref) .len #[60] [v10]) fun v18 =>
    doQ (qBin env.P .neq 3 (.tmp 36) (.const (.int .i64 7)) (some v18) (some (.v (.int .i64 7)))) fun v19 =>
    gQ v19 false (qVal (some v15)) fun v20 =>
    gQ v19 false (qBin env.P .neq 27 (.tmp 39) (.const (.int .i64 0)) (some v20) (some (.v (.int .i64 0)))) fun v21 =>
    doQ (pickF (some v19) (some (.v (.bool true))) (some v21)) fun v22 =>
    gQ v22 false (qLoad env.P (Heap.get H6) 59 (some v16)) fun v23 =>
    gQ v22 false (qLoad env.P (Heap.get H6) 59 (some v1)) fun v24 =>
    gQ v22 false (qBin env.P .neq 59 (.tmp 43) (.tmp 44) (some v23) (some v24)) fun v25 =>
    doQ (pickF (some v22) (some (.v (.bool true))) (some v25)) fun v26 =>
    br (some v26) (
     Q (.v (.bool false)) H6) (
     doW (callRes env true (limf env) (limt env 0) H6 (⟨0, 49, Heap.gen H6 0 49, 0⟩ : Ref) (some (.fn (.func 32) [] [])) [x1]) fun v27 H7 =>
     doQ (qExtract (some v27) 0) fun v28 =>
     doQ (qExtract (some v27) 1) fun v29 =>
     doW (nRes H7 (⟨0, 10, Heap.gen H7 0 10, 0⟩ : Ref) (qAlloc env.P (⟨0, 10, Heap.gen H7 0 10, 0⟩ : Ref) 59)) fun v30 H8 =>
     doW (wStore env.P H8 59 (some v30) (some v28)) fun v31 H9 =>
     doQ (qBin env.P .neq 27 (.tmp 52) (.const (.int .i64 0)) (some v29) (some (.v (.int .i64 0)))) fun v32 =>
     br (some v32) (
      gQ v2 true (qLoad env.P (Heap.get H9) 59 (some v30)) fun v33 =>
      gQ v2 true (qBuild env.P 59 (some [])) fun v34 =>
      gQ v2 true (qBin env.P .eql 59 (.tmp 56) (.tmp 57) (some v33) (some v34)) fun v35 =>
      doQ (pickF (some v2) (some v35) (some (.v (.bool false)))) fun v36 =>
      Q v36 H9) (
      doQ (qLoad env.P (Heap.get H9) 59 (some v30)) fun v33 =>
      doW (callRes env true (limf env) (limt env 0) H9 (⟨0, 62, Heap.gen H9 0 62, 0⟩ : Ref) (some (.fn (.func 30) [] [])) [v33]) fun v34 H10 =>
      doQ (qExtract (some v34) 0) fun v35 =>
      doQ (qExtract (some v34) 1) fun v36 =>
      gQ v2 true (qVal (some v36)) fun v37 =>
      gQ v2 true (qBin env.P .eql 27 (.tmp 67) (.const (.int .i64 0)) (some v37) (some (.v (.int .i64 0)))) fun v38 =>
      doQ (pickF (some v2) (some v38) (some (.v (.bool false)))) fun v39 =>
      gQ v39 true (qVal (some v35)) fun v40 =>
      gQ v39 true (qConvert env.P (Heap.get H10) (⟨0, 72, Heap.gen H10 0 72, 0⟩ : Ref) 60 9 (some v40)) fun v41 =>
      gQ v39 true (qVal (some x1)) fun v42 =>
      gQ v39 true (qConvert env.P (Heap.get H10) (⟨0, 74, Heap.gen H10 0 74, 0⟩ : Ref) 60 9 (some v42)) fun v43 =>
      gQ v39 true (qBin env.P .eql 9 (.tmp 72) (.tmp 74) (some v41) (some v43)) fun v44 =>
      doQ (pickF (some v39) (some v44) (some (.v (.bool false)))) fun v45 =>
      Q v45 H10))) (
    doW (callRes env true (limf env) (limt env 0) H3 (⟨0, 49, Heap.gen H3 0 49, 0⟩ : Ref) (some (.fn (.func 32) [] [])) [x1]) fun v13 H4 =>
    doQ (qExtract (some v13) 0) fun v14 =>
    doQ (qExtract (some v13) 1) fun v15 =>
    doW (nRes H4 (⟨0, 10, Heap.gen H4 0 10, 0⟩ : Ref) (qAlloc env.P (⟨0, 10, Heap.gen H4 0 10, 0⟩ : Ref) 59)) fun v16 H5 =>
    doW (wStore env.P H5 59 (some v16) (some v14)) fun v17 H6 =>
    doQ (qBin env.P .neq 27 (.tmp 52) (.const (.int .i64 0)) (some v15) (some (.v (.int .i64 0)))) fun v18 =>
    br (some v18) (
     gQ v2 true (qLoad env.P (Heap.get H6) 59 (some v16)) fun v19 =>
     gQ v2 true (qBuild env.P 59 (some [])) fun v20 =>
     gQ v2 true (qBin env.P .eql 59 (.tmp 56) (.tmp 57) (some v19) (some v20)) fun v21 =>
     doQ (pickF (some v2) (some v21) (some (.v (.bool false)))) fun v22 =>
     Q v22 H6) (
     doQ (qLoad env.P (Heap.get H6) 59 (some v16)) fun v19 =>
     doW (callRes env true (limf env) (limt env 0) H6 (⟨0, 62, Heap.gen H6 0 62, 0⟩ : Ref) (some (.fn (.func 30) [] [])) [v19]) fun v20 H7 =>
     doQ (qExtract (some v20) 0) fun v21 =>
     doQ (qExtract (some v20) 1) fun v22 =>
     gQ v2 true (qVal (some v22)) fun v23 =>
     gQ v2 true (qBin env.P .eql 27 (.tmp 67) (.const (.int .i64 0)) (some v23) (some (.v (.int .i64 0)))) fun v24 =>
     doQ (pickF (some v2) (some v24) (some (.v (.bool false)))) fun v25 =>
     gQ v25 true (qVal (some v21)) fun v26 =>
     gQ v25 true (qConvert env.P (Heap.get H7) (⟨0, 72, Heap.gen H7 0 72, 0⟩ : Ref) 60 9 (some v26)) fun v27 =>
     gQ v25 true (qVal (some x1)) fun v28 =>
     gQ v25 true (qConvert env.P (Heap.get H7) (⟨0, 74, Heap.gen H7 0 74, 0⟩ : Ref) 60 9 (some v28)) fun v29 =>
     gQ v25 true (qBin env.P .eql 9 (.tmp 72) (.tmp 74) (some v27) (some v29)) fun v30 =>
     doQ (pickF (some v25) (some v30) (some (.v (.bool false)))) fun v31 =>
     Q v31 H7)))
theorem vq_blindstamplaw07_GrantBack : VC_blindstamplaw07_GrantBack = fun g x0 x1 H Q => wp env Try.f10 0 lv_blindstamplaw07_GrantBack cu_blindstamplaw07_GrantBack Q 500 [.code bd_blindstamplaw07_GrantBack] (ofL g [(0, x0), (1, x1)]) H := by kernel_rfl
theorem vc_blindstamplaw07_GrantBack (x0 x1 : AV) (H : Heap) (Q : AV → Heap → Prop) (h : ∀ g, VC_blindstamplaw07_GrantBack g x0 x1 H Q) : GoL env Try.f10 0 [.code bd_blindstamplaw07_GrantBack] [(0, x0), (1, x1)] H Q := ⟨fun g => wp_ok (by have h := h g; rw [vq_blindstamplaw07_GrantBack] at h; exact h)⟩

end Go.Proofs.Ytgooemdlilfkmaa
