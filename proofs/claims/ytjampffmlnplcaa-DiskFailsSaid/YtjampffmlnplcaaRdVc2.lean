/-
  What is to be shown of each function, computed from its code. No statement of a seat is proved here.
-/
import Derived.Test.YtjampffmlnplcaaRdTy
set_option linter.unusedVariables false
set_option maxRecDepth 1000000
namespace Go.Proofs.Ytjampffmlnplcaa
open Go.Ab
noncomputable def bd_slices_Insert___blindstamp_api_Sector_blindstamp_api_Sector_ : Code := (Try.f101.body).getD .skip
def lv_slices_Insert___blindstamp_api_Sector_blindstamp_api_Sector_ : Nat → Option (List Nat) := fun i => none
def cu_slices_Insert___blindstamp_api_Sector_blindstamp_api_Sector_ : Nat → Bool := fun i => false
def VC_slices_Insert___blindstamp_api_Sector_blindstamp_api_Sector_ (dep : Nat) (g : Nat → AV) (x0 x1 x2 : AV) (H : Heap) (Q : AV → Heap → Prop) : Prop :=
 doQ (qSlice env.P (Heap.get H) 91 (some x0) (oi x1) (some none) (some none)) fun v1 =>
 doQ (qBuiltin env.P false (Heap.get H) (⟨(dep + 1), 14, Heap.gen H (dep + 1) 14, 0⟩ : Ref) .len #[91] [x2]) fun v2 =>
 doQ (qBin env.P .eql 3 (.tmp 15) (.const (.int .i64 0)) (some v2) (some (.v (.int .i64 0)))) fun v3 =>
 br (some v3) (
 Q x0 H) (
 doQ (qBuiltin env.P false (Heap.get H) (⟨(dep + 1), 19, Heap.gen H (dep + 1) 19, 0⟩ : Ref) .len #[91] [x0]) fun v4 =>
 doQ (qBin env.P .eql 3 (.tmp 20) (.tmp 21) (some x1) (some v4)) fun v5 =>
 br (some v5) (
 doW (appRes env.P true H (⟨(dep + 1), 25, Heap.gen H (dep + 1) 25, 0⟩ : Ref) (some 91) (some 91) x0 x2) fun v6 H1 =>
 Q v6 H1) (
 doQ (qBin env.P .add 3 (.tmp 26) (.tmp 27) (some v4) (some v2)) fun v6 =>
 doQ (qBuiltin env.P false (Heap.get H) (⟨(dep + 1), 30, Heap.gen H (dep + 1) 30, 0⟩ : Ref) .cap #[91] [x0]) fun v7 =>
 doQ (qBin env.P .gtr 3 (.tmp 28) (.tmp 30) (some v6) (some v7)) fun v8 =>
 br (some v8) (
 doQ (qSlice env.P (Heap.get H) 91 (some x0) (some none) (oi x1) (some none)) fun v9 =>
 doQ (qBin env.P .add 3 (.tmp 35) (.tmp 36) (some v4) (some v2)) fun v10 =>
 doQ (qBin env.P .sub 3 (.tmp 37) (.tmp 38) (some v10) (some x1)) fun v11 =>
 doW (appRes env.P true H (⟨(dep + 1), 40, Heap.gen H (dep + 1) 40, 0⟩ : Ref) (some 91) (some 3) v9 v11) fun v12 H1 =>
 doQ (qSlice env.P (Heap.get H1) 91 (some v12) (oi x1) (some none) (some none)) fun v13 =>
 doW (wCopy env.P H1 (some 91) v13 x2) fun v14 H2 =>
 doQ (qBin env.P .add 3 (.tmp 47) (.tmp 48) (some x1) (some v2)) fun v15 =>
 doQ (qSlice env.P (Heap.get H2) 91 (some v12) (oi v15) (some none) (some none)) fun v16 =>
 doQ (qSlice env.P (Heap.get H2) 91 (some x0) (oi x1) (some none) (some none)) fun v17 =>
 doW (wCopy env.P H2 (some 91) v16 v17) fun v18 H3 =>
 Q v12 H3) (
 doQ (qBin env.P .add 3 (.tmp 57) (.tmp 58) (some v4) (some v2)) fun v9 =>
 doQ (qSlice env.P (Heap.get H) 91 (some x0) (some none) (oi v9) (some none)) fun v10 =>
 doQ (qBin env.P .add 3 (.tmp 63) (.tmp 64) (some x1) (some v2)) fun v11 =>
 doQ (qSlice env.P (Heap.get H) 91 (some v10) (oi v11) (some none) (some none)) fun v12 =>
 doW (callRes env true (limf env) (limt env (dep + 1)) H (⟨(dep + 1), 67, Heap.gen H (dep + 1) 67, 0⟩ : Ref) (some (.fn (.func 136) [] [])) [x2, v12]) fun v13 H1 =>
 doQ (qUn env.P .not (some v13)) fun v14 =>
 br (some v14) (
 doQ (qBin env.P .add 3 (.tmp 70) (.tmp 71) (some x1) (some v2)) fun v15 =>
 doQ (qSlice env.P (Heap.get H1) 91 (some v10) (oi v15) (some none) (some none)) fun v16 =>
 doQ (qSlice env.P (Heap.get H1) 91 (some v10) (oi x1) (some none) (some none)) fun v17 =>
 doW (wCopy env.P H1 (some 91) v16 v17) fun v18 H2 =>
 doQ (qSlice env.P (Heap.get H2) 91 (some v10) (oi x1) (some none) (some none)) fun v19 =>
 doW (wCopy env.P H2 (some 91) v19 x2) fun v20 H3 =>
 Q v10 H3) (
 doQ (qSlice env.P (Heap.get H1) 91 (some v10) (oi v4) (some none) (some none)) fun v15 =>
 doW (wCopy env.P H1 (some 91) v15 x2) fun v16 H2 =>
 doQ (qSlice env.P (Heap.get H2) 91 (some v10) (oi x1) (some none) (some none)) fun v17 =>
 doW (callRes env true (limf env) (limt env (dep + 1)) H2 (⟨(dep + 1), 93, Heap.gen H2 (dep + 1) 93, 0⟩ : Ref) (some (.fn (.func 137) [] [])) [v17, v2]) fun v18 H3 =>
 Q v10 H3))))
theorem vq_slices_Insert___blindstamp_api_Sector_blindstamp_api_Sector_ (dep : Nat) : VC_slices_Insert___blindstamp_api_Sector_blindstamp_api_Sector_ dep = fun g x0 x1 x2 H Q => wp env Try.f101 none (dep + 1) lv_slices_Insert___blindstamp_api_Sector_blindstamp_api_Sector_ cu_slices_Insert___blindstamp_api_Sector_blindstamp_api_Sector_ Q 500 [.code bd_slices_Insert___blindstamp_api_Sector_blindstamp_api_Sector_] (ofL g [(0, x0), (1, x1), (2, x2)]) H := by kernel_rfl
theorem vc_slices_Insert___blindstamp_api_Sector_blindstamp_api_Sector_ (dep : Nat) (x0 x1 x2 : AV) (H : Heap) (Q : AV → Heap → Prop) (h : ∀ g, VC_slices_Insert___blindstamp_api_Sector_blindstamp_api_Sector_ dep g x0 x1 x2 H Q) : GoL env Try.f101 (dep + 1) [.code bd_slices_Insert___blindstamp_api_Sector_blindstamp_api_Sector_] [(0, x0), (1, x1), (2, x2)] H Q := ⟨fun g => wp_ok (by have h := h g; rw [vq_slices_Insert___blindstamp_api_Sector_blindstamp_api_Sector_] at h; exact h)⟩
end Go.Proofs.Ytjampffmlnplcaa
