/-
  What is to be shown of the law, computed from its code. No statement of a seat is proved here.
-/
import Derived.Test.YtgooemdlilfkmaaPgTy
set_option linter.unusedVariables false
set_option maxRecDepth 1000000
namespace Go.Proofs.Ytgooemdlilfkmaa
open Go.Ab

/- blindstamplaw07_GrantLast -/
noncomputable def bd_blindstamplaw07_GrantLast : Code := (Try.f9.body).getD .skip
noncomputable def hd_blindstamplaw07_GrantLast_11 : List Item := (findLoop 11 400 [.code bd_blindstamplaw07_GrantLast]).getD []
noncomputable def hd_blindstamplaw07_GrantLast_18 : List Item := (findLoop 18 400 [.code bd_blindstamplaw07_GrantLast]).getD []
noncomputable def hd_blindstamplaw07_GrantLast_26 : List Item := (findLoop 26 400 [.code bd_blindstamplaw07_GrantLast]).getD []
def lv_blindstamplaw07_GrantLast : Nat → Option (List Nat) := fun i => cond (Nat.beq i 11) (some [12, 11, 3, 9, 8, 7, 1, 2]) (cond (Nat.beq i 18) (some [13, 3, 8, 11, 7, 1, 2, 9]) (cond (Nat.beq i 26) (some [15, 14, 1, 2, 9, 8, 7]) (none)))
def cu_blindstamplaw07_GrantLast : Nat → Bool := fun i => false
def VC_blindstamplaw07_GrantLast (g : Nat → AV) (x0 x1 x2 : AV) (H : Heap) (Q : AV → Heap → Prop) : Prop :=
  doW (nRes H (⟨0, 3, Heap.gen H 0 3, 0⟩ : Ref) (qBox env.P (⟨0, 3, Heap.gen H 0 3, 0⟩ : Ref) 33 (some x0))) fun v1 H1 =>
  doW (callRes env true (limf env) (limt env 0) H1 (⟨0, 16, Heap.gen H1 0 16, 0⟩ : Ref) (some (.fn (.func 40) [] [])) []) fun v2 H2 =>
  doQ (qLoad env.P (Heap.get H2) 33 (some v1)) fun v3 =>
  doW (callRes env true (limf env) (limt env 0) H2 (⟨0, 18, Heap.gen H2 0 18, 0⟩ : Ref) (some (.fn (.func 18) [] [])) [v3]) fun v4 H3 =>
  gQ v4 false (qVal (some x1)) fun v5 =>
  gQ v4 false (qBuiltin env.P false (Heap.get H3) (⟨0, 21, Heap.gen H3 0 21, 0⟩ : Ref) .len #[70] [v5]) fun v6 =>
  gQ v4 false (qBin env.P .gtr 3 (.tmp 21) (.const (.int .i64 300)) (some v6) (some (.v (.int .i64 300)))) fun v7 =>
  doQ (pickF (some v4) (some (.v (.bool true))) (some v7)) fun v8 =>
  gQ v8 false (qVal (some v2)) fun v9 =>
  gQ v8 false (qUn env.P .not (some v9)) fun v10 =>
  doQ (pickF (some v8) (some (.v (.bool true))) (some v10)) fun v11 =>
  br (some v11) (
   Q v2 H3) (
   doQ (qLoad env.P (Heap.get H3) 33 (some v1)) fun v12 =>
   doW (callRes env true (limf env) (limt env 0) H3 (⟨0, 32, Heap.gen H3 0 32, 0⟩ : Ref) (some (.fn (.func 36) [] [])) [v12, x1]) fun v13 H4 =>
   doQ (qExtract (some v13) 0) fun v14 =>
   doQ (qExtract (some v13) 1) fun v15 =>
   doQ (qExtract (some v13) 2) fun v16 =>
   doW (nRes H4 (⟨0, 8, Heap.gen H4 0 8, 0⟩ : Ref) (qAlloc env.P (⟨0, 8, Heap.gen H4 0 8, 0⟩ : Ref) 33)) fun v17 H5 =>
   doW (wStore env.P H5 33 (some v17) (some v14)) fun v18 H6 =>
   doQ (qBin env.P .neq 27 (.tmp 36) (.const (.int .i64 0)) (some v16) (some (.v (.int .i64 0)))) fun v19 =>
   br (some v19) (
    gQ v2 true (qVal (some v15)) fun v20 =>
    gQ v2 true (qBuiltin env.P false (Heap.get H6) (⟨0, 41, Heap.gen H6 0 41, 0⟩ : Ref) .len #[75] [v20]) fun v21 =>
    gQ v2 true (qBin env.P .eql 3 (.tmp 41) (.const (.int .i64 0)) (some v21) (some (.v (.int .i64 0)))) fun v22 =>
    doQ (pickF (some v2) (some v22) (some (.v (.bool false)))) fun v23 =>
    gQ v23 true (qLoad env.P (Heap.get H6) 33 (some v1)) fun v24 =>
    gW v23 true H6 (callRes env true (limf env) (limt env 0) H6 (⟨0, 46, Heap.gen H6 0 46, 0⟩ : Ref) (some (.fn (.func 17) [] [])) [v24]) fun v25 H7 =>
    gQ v23 true (qVal (some v16)) fun v26 =>
    gQ v23 true (qBin env.P .eql 27 (.tmp 46) (.tmp 47) (some v25) (some v26)) fun v27 =>
    doQ (pickF (some v23) (some v27) (some (.v (.bool false)))) fun v28 =>
    Q v28 H7) (
    doQ (qLoad env.P (Heap.get H6) 33 (some v17)) fun v20 =>
    doW (callRes env true (limf env) (limt env 0) H6 (⟨0, 51, Heap.gen H6 0 51, 0⟩ : Ref) (some (.fn (.func 17) [] [])) [v20]) fun v21 H7 =>
    doQ (qBin env.P .neq 27 (.tmp 51) (.const (.int .i64 0)) (some v21) (some (.v (.int .i64 0)))) fun v22 =>
    gQ v22 false (qVal (some v15)) fun v23 =>
    gQ v22 false (qBuiltin env.P false (Heap.get H7) (⟨0, 55, Heap.gen H7 0 55, 0⟩ : Ref) .len #[75] [v23]) fun v24 =>
    gQ v22 false (qVal (some x1)) fun v25 =>
    gQ v22 false (qBuiltin env.P false (Heap.get H7) (⟨0, 57, Heap.gen H7 0 57, 0⟩ : Ref) .len #[70] [v25]) fun v26 =>
    gQ v22 false (qBin env.P .neq 3 (.tmp 55) (.tmp 57) (some v24) (some v26)) fun v27 =>
    doQ (pickF (some v22) (some (.v (.bool true))) (some v27)) fun v28 =>
    gQ v28 false (qFieldAddr env.P 33 (some v17) 0) fun v29 =>
    gQ v28 false (qLoad env.P (Heap.get H7) 30 (some v29)) fun v30 =>
    gQ v28 false (qBuiltin env.P false (Heap.get H7) (⟨0, 63, Heap.gen H7 0 63, 0⟩ : Ref) .len #[30] [v30]) fun v31 =>
    gQ v28 false (qFieldAddr env.P 33 (some v1) 0) fun v32 =>
    gQ v28 false (qLoad env.P (Heap.get H7) 30 (some v32)) fun v33 =>
    gQ v28 false (qBuiltin env.P false (Heap.get H7) (⟨0, 66, Heap.gen H7 0 66, 0⟩ : Ref) .len #[30] [v33]) fun v34 =>
    gQ v28 false (qBin env.P .neq 3 (.tmp 63) (.tmp 66) (some v31) (some v34)) fun v35 =>
    doQ (pickF (some v28) (some (.v (.bool true))) (some v35)) fun v36 =>
    gQ v36 false (qFieldAddr env.P 33 (some v17) 1) fun v37 =>
    gQ v36 false (qLoad env.P (Heap.get H7) 31 (some v37)) fun v38 =>
    gQ v36 false (qBuiltin env.P false (Heap.get H7) (⟨0, 72, Heap.gen H7 0 72, 0⟩ : Ref) .len #[31] [v38]) fun v39 =>
    gQ v36 false (qFieldAddr env.P 33 (some v1) 1) fun v40 =>
    gQ v36 false (qLoad env.P (Heap.get H7) 31 (some v40)) fun v41 =>
    gQ v36 false (qBuiltin env.P false (Heap.get H7) (⟨0, 75, Heap.gen H7 0 75, 0⟩ : Ref) .len #[31] [v41]) fun v42 =>
    gQ v36 false (qBin env.P .neq 3 (.tmp 72) (.tmp 75) (some v39) (some v42)) fun v43 =>
    doQ (pickF (some v36) (some (.v (.bool true))) (some v43)) fun v44 =>
    br (some v44) (
     Q (.v (.bool false)) H7) (
     GoL env Try.f9 0 hd_blindstamplaw07_GrantLast_11 [(12, (.v (.int .i64 0))), (11, (.v (.int .i64 0))), (3, v1), (9, v15), (8, v17), (7, v2), (1, x1), (2, x2)] H7 Q)))
theorem vq_blindstamplaw07_GrantLast : VC_blindstamplaw07_GrantLast = fun g x0 x1 x2 H Q => wp env Try.f9 none 0 lv_blindstamplaw07_GrantLast cu_blindstamplaw07_GrantLast Q 500 [.code bd_blindstamplaw07_GrantLast] (ofL g [(0, x0), (1, x1), (2, x2)]) H := by kernel_rfl
theorem vc_blindstamplaw07_GrantLast (x0 x1 x2 : AV) (H : Heap) (Q : AV → Heap → Prop) (h : ∀ g, VC_blindstamplaw07_GrantLast g x0 x1 x2 H Q) : GoL env Try.f9 0 [.code bd_blindstamplaw07_GrantLast] [(0, x0), (1, x1), (2, x2)] H Q := ⟨fun g => wp_ok (by have h := h g; rw [vq_blindstamplaw07_GrantLast] at h; exact h)⟩
def VC_blindstamplaw07_GrantLast_11 (g : Nat → AV) (x12 x11 x3 x9 x8 x7 x1 x2 : AV) (H : Heap) (Q : AV → Heap → Prop) : Prop :=
  doQ (qBuiltin env.P false (Heap.get H) (⟨0, 80, Heap.gen H 0 80, 0⟩ : Ref) .len #[70] [x1]) fun v1 =>
  doQ (qBin env.P .lss 3 (.tmp 78) (.tmp 80) (some x12) (some v1)) fun v2 =>
  br (some v2) (
   doQ (qIndexAddr env.P (Heap.get H) 75 (some x9) (some x12)) fun v3 =>
   doQ (qLoad env.P (Heap.get H) 27 (some v3)) fun v4 =>
   doQ (qBin env.P .eql 27 (.tmp 87) (.const (.int .i64 0)) (some v4) (some (.v (.int .i64 0)))) fun v5 =>
   br (some v5) (
    doQ (qBin env.P .add 3 (.tmp 89) (.const (.int .i64 1)) (some x11) (some (.v (.int .i64 1)))) fun v6 =>
    doQ (qBin env.P .add 3 (.tmp 82) (.const (.int .i64 1)) (some x12) (some (.v (.int .i64 1)))) fun v7 =>
    GoL env Try.f9 0 hd_blindstamplaw07_GrantLast_11 [(12, v7), (11, v6), (3, x3), (9, x9), (8, x8), (7, x7), (1, x1), (2, x2)] H Q) (
    doQ (qIndexAddr env.P (Heap.get H) 75 (some x9) (some x12)) fun v6 =>
    doQ (qLoad env.P (Heap.get H) 27 (some v6)) fun v7 =>
    doQ (qBin env.P .eql 27 (.tmp 94) (.const (.int .i64 9)) (some v7) (some (.v (.int .i64 9)))) fun v8 =>
    gQ v8 true (qVal (some x11)) fun v9 =>
    gQ v8 true (qFieldAddr env.P 33 (some x3) 2) fun v10 =>
    gQ v8 true (qLoad env.P (Heap.get H) 3 (some v10)) fun v11 =>
    gQ v8 true (qBin env.P .neq 3 (.tmp 97) (.tmp 99) (some v9) (some v11)) fun v12 =>
    doQ (pickF (some v8) (some v12) (some (.v (.bool false)))) fun v13 =>
    br (some v13) (
     Q (.v (.bool false)) H) (
     doQ (qBin env.P .add 3 (.tmp 82) (.const (.int .i64 1)) (some x12) (some (.v (.int .i64 1)))) fun v14 =>
     GoL env Try.f9 0 hd_blindstamplaw07_GrantLast_11 [(12, v14), (11, x11), (3, x3), (9, x9), (8, x8), (7, x7), (1, x1), (2, x2)] H Q))) (
   GoL env Try.f9 0 hd_blindstamplaw07_GrantLast_18 [(13, (.v (.int .i64 0))), (3, x3), (8, x8), (11, x11), (7, x7), (1, x1), (2, x2), (9, x9)] H Q)
theorem vq_blindstamplaw07_GrantLast_11 : VC_blindstamplaw07_GrantLast_11 = fun g x12 x11 x3 x9 x8 x7 x1 x2 H Q => wp env Try.f9 none 0 lv_blindstamplaw07_GrantLast cu_blindstamplaw07_GrantLast Q 500 (bodyOf hd_blindstamplaw07_GrantLast_11) (ofL g [(12, x12), (11, x11), (3, x3), (9, x9), (8, x8), (7, x7), (1, x1), (2, x2)]) H := by kernel_rfl
theorem vc_blindstamplaw07_GrantLast_11 (x12 x11 x3 x9 x8 x7 x1 x2 : AV) (H : Heap) (Q : AV → Heap → Prop) (h : ∀ g, VC_blindstamplaw07_GrantLast_11 g x12 x11 x3 x9 x8 x7 x1 x2 H Q) : GoL env Try.f9 0 hd_blindstamplaw07_GrantLast_11 [(12, x12), (11, x11), (3, x3), (9, x9), (8, x8), (7, x7), (1, x1), (2, x2)] H Q := goL_body fun g => wp_ok (by have h := h g; rw [vq_blindstamplaw07_GrantLast_11] at h; exact h)
def VC_blindstamplaw07_GrantLast_18 (g : Nat → AV) (x13 x3 x8 x11 x7 x1 x2 x9 : AV) (H : Heap) (Q : AV → Heap → Prop) : Prop :=
  doQ (qFieldAddr env.P 33 (some x3) 1) fun v1 =>
  doQ (qLoad env.P (Heap.get H) 31 (some v1)) fun v2 =>
  doQ (qBuiltin env.P false (Heap.get H) (⟨0, 105, Heap.gen H 0 105, 0⟩ : Ref) .len #[31] [v2]) fun v3 =>
  doQ (qBin env.P .lss 3 (.tmp 102) (.tmp 105) (some x13) (some v3)) fun v4 =>
  br (some v4) (
   doQ (qFieldAddr env.P 33 (some x8) 1) fun v5 =>
   doQ (qLoad env.P (Heap.get H) 31 (some v5)) fun v6 =>
   doQ (qIndexAddr env.P (Heap.get H) 31 (some v6) (some x13)) fun v7 =>
   doQ (qLoad env.P (Heap.get H) 26 (some v7)) fun v8 =>
   doQ (qFieldAddr env.P 33 (some x3) 1) fun v9 =>
   doQ (qLoad env.P (Heap.get H) 31 (some v9)) fun v10 =>
   doQ (qIndexAddr env.P (Heap.get H) 31 (some v10) (some x13)) fun v11 =>
   doQ (qLoad env.P (Heap.get H) 26 (some v11)) fun v12 =>
   doQ (qBin env.P .neq 26 (.tmp 113) (.tmp 118) (some v8) (some v12)) fun v13 =>
   br (some v13) (
    Q (.v (.bool false)) H) (
    doQ (qBin env.P .add 3 (.tmp 107) (.const (.int .i64 1)) (some x13) (some (.v (.int .i64 1)))) fun v14 =>
    GoL env Try.f9 0 hd_blindstamplaw07_GrantLast_18 [(13, v14), (3, x3), (8, x8), (11, x11), (7, x7), (1, x1), (2, x2), (9, x9)] H Q)) (
   doQ (qFieldAddr env.P 33 (some x3) 2) fun v5 =>
   doQ (qLoad env.P (Heap.get H) 3 (some v5)) fun v6 =>
   doQ (qBin env.P .gtr 3 (.tmp 120) (.tmp 122) (some x11) (some v6)) fun v7 =>
   gQ v7 false (qFieldAddr env.P 33 (some x8) 2) fun v8 =>
   gQ v7 false (qLoad env.P (Heap.get H) 3 (some v8)) fun v9 =>
   gQ v7 false (qFieldAddr env.P 33 (some x3) 2) fun v10 =>
   gQ v7 false (qLoad env.P (Heap.get H) 3 (some v10)) fun v11 =>
   gQ v7 false (qVal (some x11)) fun v12 =>
   gQ v7 false (qBin env.P .sub 3 (.tmp 128) (.tmp 129) (some v11) (some v12)) fun v13 =>
   gQ v7 false (qBin env.P .neq 3 (.tmp 126) (.tmp 130) (some v9) (some v13)) fun v14 =>
   doQ (pickF (some v7) (some (.v (.bool true))) (some v14)) fun v15 =>
   gQ v15 false (qVal (some x2)) fun v16 =>
   gQ v15 false (qBin env.P .lss 3 (.tmp 134) (.const (.int .i64 0)) (some v16) (some (.v (.int .i64 0)))) fun v17 =>
   doQ (pickF (some v15) (some (.v (.bool true))) (some v17)) fun v18 =>
   gQ v18 false (qVal (some x2)) fun v19 =>
   gQ v18 false (qFieldAddr env.P 33 (some x3) 0) fun v20 =>
   gQ v18 false (qLoad env.P (Heap.get H) 30 (some v20)) fun v21 =>
   gQ v18 false (qBuiltin env.P false (Heap.get H) (⟨0, 141, Heap.gen H 0 141, 0⟩ : Ref) .len #[30] [v21]) fun v22 =>
   gQ v18 false (qBin env.P .geq 3 (.tmp 138) (.tmp 141) (some v19) (some v22)) fun v23 =>
   doQ (pickF (some v18) (some (.v (.bool true))) (some v23)) fun v24 =>
   br (some v24) (
    gQ x7 true (qVal (some x11)) fun v25 =>
    gQ x7 true (qFieldAddr env.P 33 (some x3) 2) fun v26 =>
    gQ x7 true (qLoad env.P (Heap.get H) 3 (some v26)) fun v27 =>
    gQ x7 true (qBin env.P .leq 3 (.tmp 146) (.tmp 148) (some v25) (some v27)) fun v28 =>
    doQ (pickF (some x7) (some v28) (some (.v (.bool false)))) fun v29 =>
    gQ v29 true (qFieldAddr env.P 33 (some x8) 2) fun v30 =>
    gQ v29 true (qLoad env.P (Heap.get H) 3 (some v30)) fun v31 =>
    gQ v29 true (qFieldAddr env.P 33 (some x3) 2) fun v32 =>
    gQ v29 true (qLoad env.P (Heap.get H) 3 (some v32)) fun v33 =>
    gQ v29 true (qVal (some x11)) fun v34 =>
    gQ v29 true (qBin env.P .sub 3 (.tmp 155) (.tmp 156) (some v33) (some v34)) fun v35 =>
    gQ v29 true (qBin env.P .eql 3 (.tmp 153) (.tmp 157) (some v31) (some v35)) fun v36 =>
    doQ (pickF (some v29) (some v36) (some (.v (.bool false)))) fun v37 =>
    Q v37 H) (
    doQ (qFieldAddr env.P 33 (some x3) 0) fun v25 =>
    doQ (qLoad env.P (Heap.get H) 30 (some v25)) fun v26 =>
    doQ (qIndexAddr env.P (Heap.get H) 30 (some v26) (some x2)) fun v27 =>
    doQ (qLoad env.P (Heap.get H) 39 (some v27)) fun v28 =>
    doW (nRes H (⟨0, 14, Heap.gen H 0 14, 0⟩ : Ref) (qAlloc env.P (⟨0, 14, Heap.gen H 0 14, 0⟩ : Ref) 39)) fun v29 H1 =>
    doW (wStore env.P H1 39 (some v29) (some v28)) fun v30 H2 =>
    GoL env Try.f9 0 hd_blindstamplaw07_GrantLast_26 [(15, (.v (.int .i64 0))), (14, v29), (1, x1), (2, x2), (9, x9), (8, x8), (7, x7)] H2 Q))
theorem vq_blindstamplaw07_GrantLast_18 : VC_blindstamplaw07_GrantLast_18 = fun g x13 x3 x8 x11 x7 x1 x2 x9 H Q => wp env Try.f9 none 0 lv_blindstamplaw07_GrantLast cu_blindstamplaw07_GrantLast Q 500 (bodyOf hd_blindstamplaw07_GrantLast_18) (ofL g [(13, x13), (3, x3), (8, x8), (11, x11), (7, x7), (1, x1), (2, x2), (9, x9)]) H := by kernel_rfl
theorem vc_blindstamplaw07_GrantLast_18 (x13 x3 x8 x11 x7 x1 x2 x9 : AV) (H : Heap) (Q : AV → Heap → Prop) (h : ∀ g, VC_blindstamplaw07_GrantLast_18 g x13 x3 x8 x11 x7 x1 x2 x9 H Q) : GoL env Try.f9 0 hd_blindstamplaw07_GrantLast_18 [(13, x13), (3, x3), (8, x8), (11, x11), (7, x7), (1, x1), (2, x2), (9, x9)] H Q := goL_body fun g => wp_ok (by have h := h g; rw [vq_blindstamplaw07_GrantLast_18] at h; exact h)
def VC_blindstamplaw07_GrantLast_26 (g : Nat → AV) (x15 x14 x1 x2 x9 x8 x7 : AV) (H : Heap) (Q : AV → Heap → Prop) : Prop :=
  doQ (qBuiltin env.P false (Heap.get H) (⟨0, 167, Heap.gen H 0 167, 0⟩ : Ref) .len #[70] [x1]) fun v1 =>
  doQ (qBin env.P .lss 3 (.tmp 165) (.tmp 167) (some x15) (some v1)) fun v2 =>
  br (some v2) (
   doQ (qIndexAddr env.P (Heap.get H) 75 (some x9) (some x15)) fun v3 =>
   doQ (qLoad env.P (Heap.get H) 27 (some v3)) fun v4 =>
   doQ (qBin env.P .eql 27 (.tmp 174) (.const (.int .i64 0)) (some v4) (some (.v (.int .i64 0)))) fun v5 =>
   gQ v5 true (qVal (some x1)) fun v6 =>
   gQ v5 true (qVal (some x15)) fun v7 =>
   gQ v5 true (qIndexAddr env.P (Heap.get H) 70 (some v6) (some v7)) fun v8 =>
   gQ v5 true (qFieldAddr env.P 59 (some v8) 0) fun v9 =>
   gQ v5 true (qLoad env.P (Heap.get H) 3 (some v9)) fun v10 =>
   gQ v5 true (qVal (some x2)) fun v11 =>
   gQ v5 true (qBin env.P .eql 3 (.tmp 181) (.tmp 182) (some v10) (some v11)) fun v12 =>
   doQ (pickF (some v5) (some v12) (some (.v (.bool false)))) fun v13 =>
   br (some v13) (
    doQ (qIndexAddr env.P (Heap.get H) 70 (some x1) (some x15)) fun v14 =>
    doQ (qFieldAddr env.P 59 (some v14) 1) fun v15 =>
    doQ (qLoad env.P (Heap.get H) 39 (some v15)) fun v16 =>
    doW (wStore env.P H 39 (some x14) (some v16)) fun v17 H1 =>
    doQ (qBin env.P .add 3 (.tmp 169) (.const (.int .i64 1)) (some x15) (some (.v (.int .i64 1)))) fun v18 =>
    GoL env Try.f9 0 hd_blindstamplaw07_GrantLast_26 [(15, v18), (14, x14), (1, x1), (2, x2), (9, x9), (8, x8), (7, x7)] H1 Q) (
    doQ (qBin env.P .add 3 (.tmp 169) (.const (.int .i64 1)) (some x15) (some (.v (.int .i64 1)))) fun v14 =>
    GoL env Try.f9 0 hd_blindstamplaw07_GrantLast_26 [(15, v14), (14, x14), (1, x1), (2, x2), (9, x9), (8, x8), (7, x7)] H Q)) (
   gQ x7 true (qFieldAddr env.P 33 (some x8) 0) fun v3 =>
   gQ x7 true (qLoad env.P (Heap.get H) 30 (some v3)) fun v4 =>
   gQ x7 true (qVal (some x2)) fun v5 =>
   gQ x7 true (qIndexAddr env.P (Heap.get H) 30 (some v4) (some v5)) fun v6 =>
   gQ x7 true (qLoad env.P (Heap.get H) 39 (some v6)) fun v7 =>
   gQ x7 true (qLoad env.P (Heap.get H) 39 (some x14)) fun v8 =>
   gQ x7 true (qBin env.P .eql 39 (.tmp 196) (.tmp 197) (some v7) (some v8)) fun v9 =>
   doQ (pickF (some x7) (some v9) (some (.v (.bool false)))) fun v10 =>
   Q v10 H)
theorem vq_blindstamplaw07_GrantLast_26 : VC_blindstamplaw07_GrantLast_26 = fun g x15 x14 x1 x2 x9 x8 x7 H Q => wp env Try.f9 none 0 lv_blindstamplaw07_GrantLast cu_blindstamplaw07_GrantLast Q 500 (bodyOf hd_blindstamplaw07_GrantLast_26) (ofL g [(15, x15), (14, x14), (1, x1), (2, x2), (9, x9), (8, x8), (7, x7)]) H := by kernel_rfl
theorem vc_blindstamplaw07_GrantLast_26 (x15 x14 x1 x2 x9 x8 x7 : AV) (H : Heap) (Q : AV → Heap → Prop) (h : ∀ g, VC_blindstamplaw07_GrantLast_26 g x15 x14 x1 x2 x9 x8 x7 H Q) : GoL env Try.f9 0 hd_blindstamplaw07_GrantLast_26 [(15, x15), (14, x14), (1, x1), (2, x2), (9, x9), (8, x8), (7, x7)] H Q := goL_body fun g => wp_ok (by have h := h g; rw [vq_blindstamplaw07_GrantLast_26] at h; exact h)
end Go.Proofs.Ytgooemdlilfkmaa
