/-
  What is to be shown of each law, computed from its code. No statement of a seat is proved here.
-/
import Derived.Test.YtgooemdlilfkmaaPgTy
set_option linter.unusedVariables false
set_option maxRecDepth 1000000
namespace Go.Proofs.Ytgooemdlilfkmaa
open Go.Ab

/- blindstamplaw06_PolicyApart -/
noncomputable def bd_blindstamplaw06_PolicyApart : Code := (Try.f5.body).getD .skip
noncomputable def hd_blindstamplaw06_PolicyApart_8 : List Item := (findLoop 8 400 [.code bd_blindstamplaw06_PolicyApart]).getD []
def lv_blindstamplaw06_PolicyApart : Nat → Option (List Nat) := fun i => cond (Nat.beq i 8) (some [10, 8, 3, 4, 9, 7, 5]) (none)
def cu_blindstamplaw06_PolicyApart : Nat → Bool := fun i => false
def VC_blindstamplaw06_PolicyApart (g : Nat → AV) (x0 x1 x2 : AV) (H : Heap) (Q : AV → Heap → Prop) : Prop :=
  doW (nRes H (⟨0, 3, Heap.gen H 0 3, 0⟩ : Ref) (qBox env.P (⟨0, 3, Heap.gen H 0 3, 0⟩ : Ref) 33 (some x0))) fun v1 H1 =>
  doW (nRes H1 (⟨0, 4, Heap.gen H1 0 4, 0⟩ : Ref) (qBox env.P (⟨0, 4, Heap.gen H1 0 4, 0⟩ : Ref) 26 (some x1))) fun v2 H2 =>
  doW (nRes H2 (⟨0, 5, Heap.gen H2 0 5, 0⟩ : Ref) (qBox env.P (⟨0, 5, Heap.gen H2 0 5, 0⟩ : Ref) 24 (some x2))) fun v3 H3 =>
  doW (callRes env true (limf env) (limt env 0) H3 (⟨0, 15, Heap.gen H3 0 15, 0⟩ : Ref) (some (.fn (.func 16) [] [])) []) fun v4 H4 =>
  doQ (qLoad env.P (Heap.get H4) 33 (some v1)) fun v5 =>
  doW (callRes env true (limf env) (limt env 0) H4 (⟨0, 17, Heap.gen H4 0 17, 0⟩ : Ref) (some (.fn (.func 18) [] [])) [v5]) fun v6 H5 =>
  gQ v6 false (qVal (some v4)) fun v7 =>
  gQ v6 false (qUn env.P .not (some v7)) fun v8 =>
  doQ (pickF (some v6) (some (.v (.bool true))) (some v8)) fun v9 =>
  br (some v9) (
   Q v4 H5) (
   doQ (qLoad env.P (Heap.get H5) 33 (some v1)) fun v10 =>
   doW (callRes env true (limf env) (limt env 0) H5 (⟨0, 24, Heap.gen H5 0 24, 0⟩ : Ref) (some (.fn (.func 20) [] [])) [v10]) fun v11 H6 =>
   doW (nRes H6 (⟨0, 8, Heap.gen H6 0 8, 0⟩ : Ref) (qAlloc env.P (⟨0, 8, Heap.gen H6 0 8, 0⟩ : Ref) 33)) fun v12 H7 =>
   doW (wStore env.P H7 33 (some v12) (some v11)) fun v13 H8 =>
   doQ (qFieldAddr env.P 33 (some v12) 1) fun v14 =>
   doW (wStore env.P H8 31 (some v14) (some (.v (.slice none 0 0)))) fun v15 H9 =>
   GoL env Try.f5 0 hd_blindstamplaw06_PolicyApart_8 [(10, (.v (.int .i64 0))), (8, v12), (3, v1), (4, v2), (9, (.v (.bool false))), (7, v4), (5, v3)] H9 Q)
theorem vq_blindstamplaw06_PolicyApart : VC_blindstamplaw06_PolicyApart = fun g x0 x1 x2 H Q => wp env Try.f5 0 lv_blindstamplaw06_PolicyApart cu_blindstamplaw06_PolicyApart Q 500 [.code bd_blindstamplaw06_PolicyApart] (ofL g [(0, x0), (1, x1), (2, x2)]) H := by kernel_rfl
theorem vc_blindstamplaw06_PolicyApart (x0 x1 x2 : AV) (H : Heap) (Q : AV → Heap → Prop) (h : ∀ g, VC_blindstamplaw06_PolicyApart g x0 x1 x2 H Q) : GoL env Try.f5 0 [.code bd_blindstamplaw06_PolicyApart] [(0, x0), (1, x1), (2, x2)] H Q := ⟨fun g => wp_ok (by have h := h g; rw [vq_blindstamplaw06_PolicyApart] at h; exact h)⟩
def VC_blindstamplaw06_PolicyApart_8 (g : Nat → AV) (x10 x8 x3 x4 x9 x7 x5 : AV) (H : Heap) (Q : AV → Heap → Prop) : Prop :=
  doQ (qFieldAddr env.P 33 (some x3) 1) fun v1 =>
  doQ (qLoad env.P (Heap.get H) 31 (some v1)) fun v2 =>
  doQ (qBuiltin env.P false (Heap.get H) (⟨0, 29, Heap.gen H 0 29, 0⟩ : Ref) .len #[31] [v2]) fun v3 =>
  doQ (qBin env.P .lss 3 (.tmp 26) (.tmp 29) (some x10) (some v3)) fun v4 =>
  br (some v4) (
   doQ (qUn env.P .not (some x9)) fun v5 =>
   gQ v5 true (qFieldAddr env.P 26 (some x4) 0) fun v6 =>
   gQ v5 true (qLoad env.P (Heap.get H) 24 (some v6)) fun v7 =>
   gQ v5 true (qFieldAddr env.P 33 (some x3) 1) fun v8 =>
   gQ v5 true (qLoad env.P (Heap.get H) 31 (some v8)) fun v9 =>
   gQ v5 true (qVal (some x10)) fun v10 =>
   gQ v5 true (qIndexAddr env.P (Heap.get H) 31 (some v9) (some v10)) fun v11 =>
   gQ v5 true (qFieldAddr env.P 26 (some v11) 0) fun v12 =>
   gQ v5 true (qLoad env.P (Heap.get H) 24 (some v12)) fun v13 =>
   gW v5 true H (callRes env false (limf env) (limt env 0) H (⟨0, 44, Heap.gen H 0 44, 0⟩ : Ref) (some (.fn (.func 21) [] [])) [v7, v13]) fun v14 H1 =>
   doQ (pickF (some v5) (some v14) (some (.v (.bool false)))) fun v15 =>
   br (some v15) (
    doQ (qFieldAddr env.P 33 (some x8) 1) fun v16 =>
    doQ (qLoad env.P (Heap.get H1) 31 (some v16)) fun v17 =>
    doQ (qLoad env.P (Heap.get H1) 26 (some x4)) fun v18 =>
    doW (bsRes env.P false true H1 (⟨0, 49, Heap.gen H1 0 49, 0⟩ : Ref) 31 1 (some [(0, v18)])) fun v19 H2 =>
    doW (appRes env.P true H2 (⟨0, 50, Heap.gen H2 0 50, 0⟩ : Ref) (some 31) (some 31) v17 v19) fun v20 H3 =>
    doQ (qFieldAddr env.P 33 (some x8) 1) fun v21 =>
    doW (wStore env.P H3 31 (some v21) (some v20)) fun v22 H4 =>
    doQ (qFieldAddr env.P 33 (some x3) 1) fun v23 =>
    doQ (qLoad env.P (Heap.get H4) 31 (some v23)) fun v24 =>
    doQ (qIndexAddr env.P (Heap.get H4) 31 (some v24) (some x10)) fun v25 =>
    doQ (qFieldAddr env.P 26 (some v25) 0) fun v26 =>
    doQ (qLoad env.P (Heap.get H4) 24 (some v26)) fun v27 =>
    doQ (qFieldAddr env.P 26 (some x4) 0) fun v28 =>
    doQ (qLoad env.P (Heap.get H4) 24 (some v28)) fun v29 =>
    doQ (qBin env.P .neq 24 (.tmp 57) (.tmp 59) (some v27) (some v29)) fun v30 =>
    br (some v30) (
     doQ (qFieldAddr env.P 33 (some x8) 1) fun v31 =>
     doQ (qLoad env.P (Heap.get H4) 31 (some v31)) fun v32 =>
     doQ (qFieldAddr env.P 33 (some x3) 1) fun v33 =>
     doQ (qLoad env.P (Heap.get H4) 31 (some v33)) fun v34 =>
     doQ (qIndexAddr env.P (Heap.get H4) 31 (some v34) (some x10)) fun v35 =>
     doQ (qLoad env.P (Heap.get H4) 26 (some v35)) fun v36 =>
     doW (bsRes env.P true false H4 (⟨0, 68, Heap.gen H4 0 68, 0⟩ : Ref) 31 1 (some [(0, v36)])) fun v37 H5 =>
     doW (appRes env.P true H5 (⟨0, 69, Heap.gen H5 0 69, 0⟩ : Ref) (some 31) (some 31) v32 v37) fun v38 H6 =>
     doQ (qFieldAddr env.P 33 (some x8) 1) fun v39 =>
     doW (wStore env.P H6 31 (some v39) (some v38)) fun v40 H7 =>
     doQ (qBin env.P .add 3 (.tmp 31) (.const (.int .i64 1)) (some x10) (some (.v (.int .i64 1)))) fun v41 =>
     GoL env Try.f5 0 hd_blindstamplaw06_PolicyApart_8 [(10, v41), (8, x8), (3, x3), (4, x4), (9, (.v (.bool true))), (7, x7), (5, x5)] H7 Q) (
     doQ (qBin env.P .add 3 (.tmp 31) (.const (.int .i64 1)) (some x10) (some (.v (.int .i64 1)))) fun v31 =>
     GoL env Try.f5 0 hd_blindstamplaw06_PolicyApart_8 [(10, v31), (8, x8), (3, x3), (4, x4), (9, (.v (.bool true))), (7, x7), (5, x5)] H4 Q)) (
    doQ (qFieldAddr env.P 33 (some x3) 1) fun v16 =>
    doQ (qLoad env.P (Heap.get H1) 31 (some v16)) fun v17 =>
    doQ (qIndexAddr env.P (Heap.get H1) 31 (some v17) (some x10)) fun v18 =>
    doQ (qFieldAddr env.P 26 (some v18) 0) fun v19 =>
    doQ (qLoad env.P (Heap.get H1) 24 (some v19)) fun v20 =>
    doQ (qFieldAddr env.P 26 (some x4) 0) fun v21 =>
    doQ (qLoad env.P (Heap.get H1) 24 (some v21)) fun v22 =>
    doQ (qBin env.P .neq 24 (.tmp 57) (.tmp 59) (some v20) (some v22)) fun v23 =>
    br (some v23) (
     doQ (qFieldAddr env.P 33 (some x8) 1) fun v24 =>
     doQ (qLoad env.P (Heap.get H1) 31 (some v24)) fun v25 =>
     doQ (qFieldAddr env.P 33 (some x3) 1) fun v26 =>
     doQ (qLoad env.P (Heap.get H1) 31 (some v26)) fun v27 =>
     doQ (qIndexAddr env.P (Heap.get H1) 31 (some v27) (some x10)) fun v28 =>
     doQ (qLoad env.P (Heap.get H1) 26 (some v28)) fun v29 =>
     doW (bsRes env.P true false H1 (⟨0, 68, Heap.gen H1 0 68, 0⟩ : Ref) 31 1 (some [(0, v29)])) fun v30 H2 =>
     doW (appRes env.P true H2 (⟨0, 69, Heap.gen H2 0 69, 0⟩ : Ref) (some 31) (some 31) v25 v30) fun v31 H3 =>
     doQ (qFieldAddr env.P 33 (some x8) 1) fun v32 =>
     doW (wStore env.P H3 31 (some v32) (some v31)) fun v33 H4 =>
     doQ (qBin env.P .add 3 (.tmp 31) (.const (.int .i64 1)) (some x10) (some (.v (.int .i64 1)))) fun v34 =>
     GoL env Try.f5 0 hd_blindstamplaw06_PolicyApart_8 [(10, v34), (8, x8), (3, x3), (4, x4), (9, x9), (7, x7), (5, x5)] H4 Q) (
     doQ (qBin env.P .add 3 (.tmp 31) (.const (.int .i64 1)) (some x10) (some (.v (.int .i64 1)))) fun v24 =>
     GoL env Try.f5 0 hd_blindstamplaw06_PolicyApart_8 [(10, v24), (8, x8), (3, x3), (4, x4), (9, x9), (7, x7), (5, x5)] H1 Q))) (
   doQ (qUn env.P .not (some x9)) fun v5 =>
   br (some v5) (
    doQ (qFieldAddr env.P 33 (some x8) 1) fun v6 =>
    doQ (qLoad env.P (Heap.get H) 31 (some v6)) fun v7 =>
    doQ (qLoad env.P (Heap.get H) 26 (some x4)) fun v8 =>
    doW (bsRes env.P false true H (⟨0, 76, Heap.gen H 0 76, 0⟩ : Ref) 31 1 (some [(0, v8)])) fun v9 H1 =>
    doW (appRes env.P true H1 (⟨0, 77, Heap.gen H1 0 77, 0⟩ : Ref) (some 31) (some 31) v7 v9) fun v10 H2 =>
    doQ (qFieldAddr env.P 33 (some x8) 1) fun v11 =>
    doW (wStore env.P H2 31 (some v11) (some v10)) fun v12 H3 =>
    doQ (qLoad env.P (Heap.get H3) 33 (some x3)) fun v13 =>
    doQ (qLoad env.P (Heap.get H3) 24 (some x5)) fun v14 =>
    doW (callRes env true (limf env) (limt env 0) H3 (⟨0, 82, Heap.gen H3 0 82, 0⟩ : Ref) (some (.fn (.func 12) [] [])) [v13, v14]) fun v15 H4 =>
    doQ (qExtract (some v15) 0) fun v16 =>
    doQ (qExtract (some v15) 1) fun v17 =>
    doW (nRes H4 (⟨0, 11, Heap.gen H4 0 11, 0⟩ : Ref) (qAlloc env.P (⟨0, 11, Heap.gen H4 0 11, 0⟩ : Ref) 26)) fun v18 H5 =>
    doW (wStore env.P H5 26 (some v18) (some v16)) fun v19 H6 =>
    doQ (qLoad env.P (Heap.get H6) 33 (some x8)) fun v20 =>
    doQ (qLoad env.P (Heap.get H6) 24 (some x5)) fun v21 =>
    doW (callRes env true (limf env) (limt env 0) H6 (⟨0, 88, Heap.gen H6 0 88, 0⟩ : Ref) (some (.fn (.func 12) [] [])) [v20, v21]) fun v22 H7 =>
    doQ (qExtract (some v22) 0) fun v23 =>
    doQ (qExtract (some v22) 1) fun v24 =>
    doW (nRes H7 (⟨0, 13, Heap.gen H7 0 13, 0⟩ : Ref) (qAlloc env.P (⟨0, 13, Heap.gen H7 0 13, 0⟩ : Ref) 26)) fun v25 H8 =>
    doW (wStore env.P H8 26 (some v25) (some v23)) fun v26 H9 =>
    doQ (qBin env.P .neq 27 (.tmp 91) (.const (.int .i64 0)) (some v17) (some (.v (.int .i64 0)))) fun v27 =>
    gQ v27 false (qVal (some v24)) fun v28 =>
    gQ v27 false (qBin env.P .neq 27 (.tmp 94) (.const (.int .i64 0)) (some v28) (some (.v (.int .i64 0)))) fun v29 =>
    doQ (pickF (some v27) (some (.v (.bool true))) (some v29)) fun v30 =>
    br (some v30) (
     Q x7 H9) (
     gQ x7 true (qLoad env.P (Heap.get H9) 24 (some x5)) fun v31 =>
     gQ x7 true (qFieldAddr env.P 26 (some x4) 0) fun v32 =>
     gQ x7 true (qLoad env.P (Heap.get H9) 24 (some v32)) fun v33 =>
     gQ x7 true (qBin env.P .eql 24 (.tmp 100) (.tmp 102) (some v31) (some v33)) fun v34 =>
     gQ x7 true (qVal (some v34)) fun v35 =>
     gQ v35 true (qLoad env.P (Heap.get H9) 26 (some v25)) fun v36 =>
     gQ v35 true (qLoad env.P (Heap.get H9) 26 (some x4)) fun v37 =>
     gQ v35 true (qBin env.P .eql 26 (.tmp 105) (.tmp 106) (some v36) (some v37)) fun v38 =>
     gQ x7 true (pickF (some v35) (some v38) (some (.v (.bool false)))) fun v39 =>
     gQ x7 true (qVal (some v39)) fun v40 =>
     gQ v40 false (qLoad env.P (Heap.get H9) 24 (some x5)) fun v41 =>
     gQ v40 false (qFieldAddr env.P 26 (some x4) 0) fun v42 =>
     gQ v40 false (qLoad env.P (Heap.get H9) 24 (some v42)) fun v43 =>
     gQ v40 false (qBin env.P .neq 24 (.tmp 110) (.tmp 112) (some v41) (some v43)) fun v44 =>
     gQ v40 false (qVal (some v44)) fun v45 =>
     gQ v45 true (qLoad env.P (Heap.get H9) 26 (some v18)) fun v46 =>
     gQ v45 true (qLoad env.P (Heap.get H9) 26 (some v25)) fun v47 =>
     gQ v45 true (qBin env.P .eql 26 (.tmp 115) (.tmp 116) (some v46) (some v47)) fun v48 =>
     gQ v40 false (pickF (some v45) (some v48) (some (.v (.bool false)))) fun v49 =>
     gQ x7 true (pickF (some v40) (some (.v (.bool true))) (some v49)) fun v50 =>
     doQ (pickF (some x7) (some v50) (some (.v (.bool false)))) fun v51 =>
     Q v51 H9)) (
    doQ (qLoad env.P (Heap.get H) 33 (some x3)) fun v6 =>
    doQ (qLoad env.P (Heap.get H) 24 (some x5)) fun v7 =>
    doW (callRes env true (limf env) (limt env 0) H (⟨0, 82, Heap.gen H 0 82, 0⟩ : Ref) (some (.fn (.func 12) [] [])) [v6, v7]) fun v8 H1 =>
    doQ (qExtract (some v8) 0) fun v9 =>
    doQ (qExtract (some v8) 1) fun v10 =>
    doW (nRes H1 (⟨0, 11, Heap.gen H1 0 11, 0⟩ : Ref) (qAlloc env.P (⟨0, 11, Heap.gen H1 0 11, 0⟩ : Ref) 26)) fun v11 H2 =>
    doW (wStore env.P H2 26 (some v11) (some v9)) fun v12 H3 =>
    doQ (qLoad env.P (Heap.get H3) 33 (some x8)) fun v13 =>
    doQ (qLoad env.P (Heap.get H3) 24 (some x5)) fun v14 =>
    doW (callRes env true (limf env) (limt env 0) H3 (⟨0, 88, Heap.gen H3 0 88, 0⟩ : Ref) (some (.fn (.func 12) [] [])) [v13, v14]) fun v15 H4 =>
    doQ (qExtract (some v15) 0) fun v16 =>
    doQ (qExtract (some v15) 1) fun v17 =>
    doW (nRes H4 (⟨0, 13, Heap.gen H4 0 13, 0⟩ : Ref) (qAlloc env.P (⟨0, 13, Heap.gen H4 0 13, 0⟩ : Ref) 26)) fun v18 H5 =>
    doW (wStore env.P H5 26 (some v18) (some v16)) fun v19 H6 =>
    doQ (qBin env.P .neq 27 (.tmp 91) (.const (.int .i64 0)) (some v10) (some (.v (.int .i64 0)))) fun v20 =>
    gQ v20 false (qVal (some v17)) fun v21 =>
    gQ v20 false (qBin env.P .neq 27 (.tmp 94) (.const (.int .i64 0)) (some v21) (some (.v (.int .i64 0)))) fun v22 =>
    doQ (pickF (some v20) (some (.v (.bool true))) (some v22)) fun v23 =>
    br (some v23) (
     Q x7 H6) (
     gQ x7 true (qLoad env.P (Heap.get H6) 24 (some x5)) fun v24 =>
     gQ x7 true (qFieldAddr env.P 26 (some x4) 0) fun v25 =>
     gQ x7 true (qLoad env.P (Heap.get H6) 24 (some v25)) fun v26 =>
     gQ x7 true (qBin env.P .eql 24 (.tmp 100) (.tmp 102) (some v24) (some v26)) fun v27 =>
     gQ x7 true (qVal (some v27)) fun v28 =>
     gQ v28 true (qLoad env.P (Heap.get H6) 26 (some v18)) fun v29 =>
     gQ v28 true (qLoad env.P (Heap.get H6) 26 (some x4)) fun v30 =>
     gQ v28 true (qBin env.P .eql 26 (.tmp 105) (.tmp 106) (some v29) (some v30)) fun v31 =>
     gQ x7 true (pickF (some v28) (some v31) (some (.v (.bool false)))) fun v32 =>
     gQ x7 true (qVal (some v32)) fun v33 =>
     gQ v33 false (qLoad env.P (Heap.get H6) 24 (some x5)) fun v34 =>
     gQ v33 false (qFieldAddr env.P 26 (some x4) 0) fun v35 =>
     gQ v33 false (qLoad env.P (Heap.get H6) 24 (some v35)) fun v36 =>
     gQ v33 false (qBin env.P .neq 24 (.tmp 110) (.tmp 112) (some v34) (some v36)) fun v37 =>
     gQ v33 false (qVal (some v37)) fun v38 =>
     gQ v38 true (qLoad env.P (Heap.get H6) 26 (some v11)) fun v39 =>
     gQ v38 true (qLoad env.P (Heap.get H6) 26 (some v18)) fun v40 =>
     gQ v38 true (qBin env.P .eql 26 (.tmp 115) (.tmp 116) (some v39) (some v40)) fun v41 =>
     gQ v33 false (pickF (some v38) (some v41) (some (.v (.bool false)))) fun v42 =>
     gQ x7 true (pickF (some v33) (some (.v (.bool true))) (some v42)) fun v43 =>
     doQ (pickF (some x7) (some v43) (some (.v (.bool false)))) fun v44 =>
     Q v44 H6)))
theorem vq_blindstamplaw06_PolicyApart_8 : VC_blindstamplaw06_PolicyApart_8 = fun g x10 x8 x3 x4 x9 x7 x5 H Q => wp env Try.f5 0 lv_blindstamplaw06_PolicyApart cu_blindstamplaw06_PolicyApart Q 500 (bodyOf hd_blindstamplaw06_PolicyApart_8) (ofL g [(10, x10), (8, x8), (3, x3), (4, x4), (9, x9), (7, x7), (5, x5)]) H := by kernel_rfl
theorem vc_blindstamplaw06_PolicyApart_8 (x10 x8 x3 x4 x9 x7 x5 : AV) (H : Heap) (Q : AV → Heap → Prop) (h : ∀ g, VC_blindstamplaw06_PolicyApart_8 g x10 x8 x3 x4 x9 x7 x5 H Q) : GoL env Try.f5 0 hd_blindstamplaw06_PolicyApart_8 [(10, x10), (8, x8), (3, x3), (4, x4), (9, x9), (7, x7), (5, x5)] H Q := goL_body fun g => wp_ok (by have h := h g; rw [vq_blindstamplaw06_PolicyApart_8] at h; exact h)

end Go.Proofs.Ytgooemdlilfkmaa
