/-
  What is to be shown of each function, computed from its code. No statement of a seat is proved here.
-/
import Derived.Test.YtjampffmlnplcaaRcTy
set_option linter.unusedVariables false
set_option maxRecDepth 1000000
namespace Go.Proofs.Ytjampffmlnplcaa
open Go.Ab

/- blindstamplaw18_ChainHides -/
noncomputable def bd_blindstamplaw18_ChainHides : Code := (Try.f7.body).getD .skip
noncomputable def hd_blindstamplaw18_ChainHides_9 : List Item := (findLoop 9 400 [.code bd_blindstamplaw18_ChainHides]).getD []
def lv_blindstamplaw18_ChainHides : Nat → Option (List Nat) := fun i => cond (Nat.beq i 9) (some [11, 5, 0, 10, 8, 4, 7]) (none)
def cu_blindstamplaw18_ChainHides : Nat → Bool := fun i => false
def VC_blindstamplaw18_ChainHides (g : Nat → AV) (x0 x1 x2 : AV) (H : Heap) (Q : AV → Heap → Prop) : Prop :=
  doW (nRes H (⟨0, 4, Heap.gen H 0 4, 0⟩ : Ref) (qBox env.P (⟨0, 4, Heap.gen H 0 4, 0⟩ : Ref) 28 (some x1))) fun v1 H1 =>
  doW (nRes H1 (⟨0, 5, Heap.gen H1 0 5, 0⟩ : Ref) (qBox env.P (⟨0, 5, Heap.gen H1 0 5, 0⟩ : Ref) 24 (some x2))) fun v2 H2 =>
  doW (callRes env true (limf env) (limt env 0) H2 (⟨0, 14, Heap.gen H2 0 14, 0⟩ : Ref) (some (.fn (.func 35) [] [])) []) fun v3 H3 =>
  doW (callRes env true (limf env) (limt env 0) H3 (⟨0, 16, Heap.gen H3 0 16, 0⟩ : Ref) (some (.fn (.func 36) [] [])) [x0, (.v (.int .i64 40))]) fun v4 H4 =>
  gQ v4 false (qVal (some v3)) fun v5 =>
  gQ v4 false (qUn env.P .not (some v5)) fun v6 =>
  doQ (pickF (some v4) (some (.v (.bool true))) (some v6)) fun v7 =>
  br (some v7) (
   Q v3 H4) (
   doQ (qLoad env.P (Heap.get H4) 28 (some v1)) fun v8 =>
   doQ (qLoad env.P (Heap.get H4) 24 (some v2)) fun v9 =>
   doW (callRes env true (limf env) (limt env 0) H4 (⟨0, 26, Heap.gen H4 0 26, 0⟩ : Ref) (some (.fn (.func 37) [] [])) [x0, v8, v9]) fun v10 H5 =>
   doQ (qExtract (some v10) 0) fun v11 =>
   doQ (qExtract (some v10) 1) fun v12 =>
   doQ (qBin env.P .neq 35 (.tmp 29) (.const (.int .i64 0)) (some v12) (some (.v (.int .i64 0)))) fun v13 =>
   br (some v13) (
    gQ v3 true (qVal (some v11)) fun v14 =>
    gQ v3 true (qUn env.P .not (some v14)) fun v15 =>
    doQ (pickF (some v3) (some v15) (some (.v (.bool false)))) fun v16 =>
    Q v16 H5) (
    doQ (qFieldAddr env.P 28 (some v1) 0) fun v14 =>
    doQ (qFieldAddr env.P 26 (some v14) 0) fun v15 =>
    doQ (qLoad env.P (Heap.get H5) 24 (some v15)) fun v16 =>
    doQ (qLoad env.P (Heap.get H5) 24 (some v2)) fun v17 =>
    doW (callRes env true (limf env) (limt env 0) H5 (⟨0, 40, Heap.gen H5 0 40, 0⟩ : Ref) (some (.fn (.func 38) [] [])) [v16, v17]) fun v18 H6 =>
    GoL env Try.f7 0 hd_blindstamplaw18_ChainHides_9 [(11, (.v (.int .i64 0))), (5, v2), (0, x0), (10, v18), (8, v11), (4, v1), (7, v3)] H6 Q))
theorem vq_blindstamplaw18_ChainHides : VC_blindstamplaw18_ChainHides = fun g x0 x1 x2 H Q => wp env Try.f7 none 0 lv_blindstamplaw18_ChainHides cu_blindstamplaw18_ChainHides Q 500 [.code bd_blindstamplaw18_ChainHides] (ofL g [(0, x0), (1, x1), (2, x2)]) H := by kernel_rfl
theorem vc_blindstamplaw18_ChainHides (x0 x1 x2 : AV) (H : Heap) (Q : AV → Heap → Prop) (h : ∀ g, VC_blindstamplaw18_ChainHides g x0 x1 x2 H Q) : GoL env Try.f7 0 [.code bd_blindstamplaw18_ChainHides] [(0, x0), (1, x1), (2, x2)] H Q := ⟨fun g => wp_ok (by have h := h g; rw [vq_blindstamplaw18_ChainHides] at h; exact h)⟩
def VC_blindstamplaw18_ChainHides_9 (g : Nat → AV) (x11 x5 x0 x10 x8 x4 x7 : AV) (H : Heap) (Q : AV → Heap → Prop) : Prop :=
  doQ (qBuiltin env.P false (Heap.get H) (⟨0, 43, Heap.gen H 0 43, 0⟩ : Ref) .len #[63] [x0]) fun v1 =>
  doQ (qBin env.P .lss 3 (.tmp 41) (.tmp 43) (some x11) (some v1)) fun v2 =>
  br (some v2) (
   doQ (qIndexAddr env.P (Heap.get H) 63 (some x0) (some x11)) fun v3 =>
   doQ (qFieldAddr env.P 49 (some v3) 3) fun v4 =>
   doQ (qLoad env.P (Heap.get H) 30 (some v4)) fun v5 =>
   doQ (qLoad env.P (Heap.get H) 28 (some x4)) fun v6 =>
   doW (callRes env false (limf env) (limt env 0) H (⟨0, 54, Heap.gen H 0 54, 0⟩ : Ref) (some (.fn (.func 39) [] [])) [v5, v6]) fun v7 H1 =>
   doQ (qExtract (some v7) 0) fun v8 =>
   doQ (qExtract (some v7) 1) fun v9 =>
   doQ (qIndexAddr env.P (Heap.get H1) 63 (some x0) (some x11)) fun v10 =>
   doQ (qFieldAddr env.P 49 (some v10) 0) fun v11 =>
   doQ (qLoad env.P (Heap.get H1) 5 (some v11)) fun v12 =>
   doQ (qBin env.P .neq 5 (.tmp 61) (.const (.int .u8 3)) (some v12) (some (a8 3))) fun v13 =>
   gQ v13 false (qVal (some v9)) fun v14 =>
   gQ v13 false (qUn env.P .not (some v14)) fun v15 =>
   doQ (pickF (some v13) (some (.v (.bool true))) (some v15)) fun v16 =>
   br (some v16) (
    doQ (qBin env.P .add 3 (.tmp 45) (.const (.int .i64 1)) (some x11) (some (.v (.int .i64 1)))) fun v17 =>
    GoL env Try.f7 0 hd_blindstamplaw18_ChainHides_9 [(11, v17), (5, x5), (0, x0), (10, x10), (8, x8), (4, x4), (7, x7)] H1 Q) (
    gQ x8 true (qVal (some x0)) fun v17 =>
    gQ x8 true (qVal (some x11)) fun v18 =>
    gQ x8 true (qIndexAddr env.P (Heap.get H1) 63 (some v17) (some v18)) fun v19 =>
    gQ x8 true (qFieldAddr env.P 49 (some v19) 1) fun v20 =>
    gQ x8 true (qFieldAddr env.P 26 (some v20) 0) fun v21 =>
    gQ x8 true (qLoad env.P (Heap.get H1) 24 (some v21)) fun v22 =>
    gQ x8 true (qLoad env.P (Heap.get H1) 24 (some x5)) fun v23 =>
    gW x8 true H1 (callRes env false (limf env) (limt env 0) H1 (⟨0, 76, Heap.gen H1 0 76, 0⟩ : Ref) (some (.fn (.func 38) [] [])) [v22, v23]) fun v24 H2 =>
    gQ x8 true (qUn env.P .not (some v24)) fun v25 =>
    doQ (pickF (some x8) (some v25) (some (.v (.bool false)))) fun v26 =>
    br (some v26) (
     Q (.v (.bool false)) H2) (
     gQ x10 true (qVal (some x0)) fun v27 =>
     gQ x10 true (qVal (some x11)) fun v28 =>
     gQ x10 true (qIndexAddr env.P (Heap.get H2) 63 (some v27) (some v28)) fun v29 =>
     gQ x10 true (qFieldAddr env.P 49 (some v29) 5) fun v30 =>
     gQ x10 true (qLoad env.P (Heap.get H2) 24 (some v30)) fun v31 =>
     gQ x10 true (qLoad env.P (Heap.get H2) 24 (some x5)) fun v32 =>
     gW x10 true H2 (callRes env false (limf env) (limt env 0) H2 (⟨0, 87, Heap.gen H2 0 87, 0⟩ : Ref) (some (.fn (.func 38) [] [])) [v31, v32]) fun v33 H3 =>
     doQ (pickF (some x10) (some v33) (some (.v (.bool false)))) fun v34 =>
     doQ (qBin env.P .add 3 (.tmp 45) (.const (.int .i64 1)) (some x11) (some (.v (.int .i64 1)))) fun v35 =>
     GoL env Try.f7 0 hd_blindstamplaw18_ChainHides_9 [(11, v35), (5, x5), (0, x0), (10, v34), (8, x8), (4, x4), (7, x7)] H3 Q))) (
   gQ x7 true (qVal (some x8)) fun v3 =>
   gQ x7 true (qVal (some x10)) fun v4 =>
   gQ x7 true (qBin env.P .eql 4 (.tmp 91) (.tmp 92) (some v3) (some v4)) fun v5 =>
   doQ (pickF (some x7) (some v5) (some (.v (.bool false)))) fun v6 =>
   Q v6 H)
theorem vq_blindstamplaw18_ChainHides_9 : VC_blindstamplaw18_ChainHides_9 = fun g x11 x5 x0 x10 x8 x4 x7 H Q => wp env Try.f7 none 0 lv_blindstamplaw18_ChainHides cu_blindstamplaw18_ChainHides Q 500 (bodyOf hd_blindstamplaw18_ChainHides_9) (ofL g [(11, x11), (5, x5), (0, x0), (10, x10), (8, x8), (4, x4), (7, x7)]) H := by kernel_rfl
theorem vc_blindstamplaw18_ChainHides_9 (x11 x5 x0 x10 x8 x4 x7 : AV) (H : Heap) (Q : AV → Heap → Prop) (h : ∀ g, VC_blindstamplaw18_ChainHides_9 g x11 x5 x0 x10 x8 x4 x7 H Q) : GoL env Try.f7 0 hd_blindstamplaw18_ChainHides_9 [(11, x11), (5, x5), (0, x0), (10, x10), (8, x8), (4, x4), (7, x7)] H Q := goL_body fun g => wp_ok (by have h := h g; rw [vq_blindstamplaw18_ChainHides_9] at h; exact h)

end Go.Proofs.Ytjampffmlnplcaa
