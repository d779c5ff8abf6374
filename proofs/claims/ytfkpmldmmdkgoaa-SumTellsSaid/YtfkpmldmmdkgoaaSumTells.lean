/-
  'Rows.SumTellsSaid' is proved. No conditions.
-/
import Derived.Test.YtfkpmldmmdkgoaaSumRef
set_option linter.unusedVariables false
set_option linter.unusedSimpArgs false
set_option maxRecDepth 1000000
namespace Go.Proofs.Ytfkpmldmmdkgoaa.sumTells
open Go.Ab Go.ChangeShapes Go.WideShapes Go.RowKit

set_option maxHeartbeats 2000000 in
theorem law0 (l : List UInt8) (x : AV) (hx : Sl 1 (by8 l) x) (s : UInt32) : limf env 6 [x, a32 s] = some (aB true) := by
  refine limf_of (fn := Try.f6) (c := bd_blindstamplaw03_SumTells) rfl (by kernel_rfl) (by kernel_rfl) (by kernel_rfl) (by kernel_rfl) ?_
  refine vc_blindstamplaw03_SumTells _ _ _ _ fun g => ?_
  simp [VC_blindstamplaw03_SumTells, hx.len]
  by_cases h1 : (10000 : Int) < l.length
  · simp [h1]; refine handed0 ?_; simp [depth_eq]
  simp [h1]
  have h := app_ownN (P := env.P) (t := 22) (t' := 22) elT_22 (by simp) [] 0 12 (own_nil 1 []) (hx.els _) (by simp [roomB]; omega) Fr.nil
  obtain ⟨s1, H1, a1, o1, f1, p1⟩ := h
  refine doW_of a1 ?_
  refine doW_of (bs_plain (z := 1) (by' := 1) (zz := a8 0) (es := by8 [1, 2, 3]) (by simp) (by simp) (by simp [viewParts, depth_eq]) rfl (by simp) (by simp) (by simp [fillSlice, by8])) ?_
  simp only [Bool.false_eq_true, if_false]
  have o1' := o1.cons f1 0 13 (some ⟨1, by8 [1, 2, 3], true, false⟩)
  have f1' := f1.cons 0 13 (some ⟨1, by8 [1, 2, 3], true, false⟩)
  have hE := osl_els (H := (⟨0, 13, H1.gen 0 13, 0⟩, some ⟨1, by8 [1, 2, 3], true, false⟩) :: H1) (r := ⟨0, 13, H1.gen 0 13, 0⟩) (z := 1) (n := 3) (es := by8 [1, 2, 3]) (fz := false) (by simp) (by simp) (some 3)
  have h := app_ownN (P := env.P) (t := 22) (t' := 22) elT_22 (by simp) _ 0 14 o1' hE (by simp [roomB]; omega) f1'
  obtain ⟨s2, H2, a2, o2, f2, p2⟩ := h
  refine doW_of a2 ?_
  rw [List.nil_append, by8_append] at o2
  refine doW_callF (y := .isl 1 (by8 (bytesOf s)) (some 3)) rfl (by simp [depth_eq]) (sum_Bytes _) rfl (fun r => rfl) ?_
  have hS : Sl 1 (by8 (bytesOf s)) (.isl 1 (by8 (bytesOf s)) (some 3)) := .inr ⟨_, rfl, by simp [bytesOf]⟩
  have h := o2.slice_to (P := env.P) (t := 22) elem_22 (n := l.length) (by simp)
  obtain ⟨y, y', e1, v1, sy⟩ := h
  rw [by8_take, List.take_left] at sy
  simp [hx.len, e1]
  refine doW_call (xs := [y']) (y := a32 (crc l)) rfl (by simp [v1]) (sum_Of sy (by omega)) rfl ?_
  refine doW_call (xs := [x]) (y := a32 (crc l)) rfl (by simp [depth_eq, hx.view]) (ref_Of hx (by omega)) rfl ?_
  simp [hS.conv (P := env.P) (src := 22) (dst := 9) (by simp) (by simp)]
  refine doW_callF (y := .isl 1 (by8 (bytesOf s)) (some 3)) rfl (by simp [depth_eq]) (ref_Bytes _) rfl (fun r => rfl) ?_
  simp [hS.conv (P := env.P) (src := 22) (dst := 9) (by simp) (by simp), hx.len, e1]
  refine doW_call (xs := [y']) (y := aB (rightB l)) rfl (by simp [v1]) (sum_Right sy (by omega)) rfl ?_
  simp
  refine doW_call (xs := [x]) (y := aB (rightB l)) rfl (by simp [depth_eq, hx.view]) (ref_Right hx (by omega)) rfl ?_
  have hc : ∀ xo yo, qBin env.P .add 9 xo yo (some (sB l)) (some (.v (.string ⟨#[1, 2, 3]⟩))) = some (sB (l ++ [1, 2, 3]), []) := fun xo yo => qBin_add_sB env.P 9 xo yo l [1, 2, 3] (by simp; omega)
  simp [o2.conv (P := env.P) (src := 22) (dst := 9) (by simp) (by simp), hx.conv (P := env.P) (src := 22) (dst := 9) (by simp) (by simp), hc]
  refine handed0 ?_
  simp [depth_eq]

theorem law (xs : List AV) (h : ShVs env.P 20 Try.f6.params.toList xs) : limf env 6 xs = some (aB true) := by
  rw [show Try.f6.params.toList = [22, 25] from by kernel_rfl] at h
  obtain ⟨x0, xs, rfl, h0, h⟩ := shvs_cons h
  obtain ⟨x1, xs, rfl, h1, h⟩ := shvs_cons h
  obtain rfl := shvs_nil h
  obtain ⟨l, x, e, hx⟩ := sh_bytes telem_22 (by simp) (by simp) (by simp) (h0.cell (by simp))
  cases e
  obtain ⟨s, _, e⟩ := rep_32 (P := env.P) (t := 25) (by simp) _ _ (h1.cell (by simp))
  cases e
  exact law0 l _ hx s

theorem own : ownKnob Try.prog.godebug = none := by kernel_rfl

theorem kids : Kids Try.prog (· < Try.prog.types.size) := kids_rows (by kernel_rfl) (by kernel_rfl)

theorem envOk : env.Ok (regionOk env) := env_ok (by kernel_rfl) fnsFit

theorem lifted (os : Os) (started : os.Started) (H : Type) (enc : TypeId × Value → H) :
    ReturnsInHanded {} Try.checked os 6 .any (Rows.sumTellsSpec.pre6 enc Try.prog Try.f6 Rows.sumTellsRow.domain false) (Rows.sumTellsSpec.post enc Try.prog Try.f6 false true false false) := by
  refine returnsInHanded_of_change (C := Try.checked) own started (by kernel_rfl) Try.func6
    (ChangeSpec.witness6 (enc := enc) (C := Try.checked) false ⟨#[], #[.slice none 0 0, .int .u32 0], []⟩ 8 (by kernel_rfl) (by kernel_rfl) (by kernel_rfl) (by kernel_rfl)) ?_
  intro W base args ds gs before hval hW _ _
  exact open_contract (E := env) envOk kids (slices_full_of Try.prog (by kernel_rfl)) (m := 20) (fun t ht => of_decide_eq_true (List.all_eq_true.1 (show Try.f6.params.toList.all (fun t => decide (t < Try.prog.types.size)) = true by kernel_rfl) t ht)) (by kernel_rfl) rfl
    (fun ds hd => by match ds, hd with | [_, _], _ => rfl) (by kernel_rfl) law W base args ds gs before hval hW

theorem over : Rows.sumTellsRow.holds Try.pinned (OpenSpec.ofChange Rows.sumTellsSpec) :=
  OpenClaim.holds_of_wide 6 Try.f6 rfl rfl rfl rfl rfl rfl rfl ⟨rfl, rfl, rfl, rfl, rfl⟩ rfl rfl rfl rfl rfl (by kernel_rfl) Try.func6 (by kernel_rfl)
    (of_decide_eq_true (by kernel_rfl)) (by unfold Func.isWrapper; first | (rw [if_pos (by decide +kernel)]; kernel_rfl) | (rw [if_neg (by decide +kernel)]; exact ⟨rfl, rfl⟩))
    (fun os started H enc _ => lifted os started H enc)

theorem proved : Rows.SumTellsSaid :=
  over
end Go.Proofs.Ytfkpmldmmdkgoaa.sumTells
