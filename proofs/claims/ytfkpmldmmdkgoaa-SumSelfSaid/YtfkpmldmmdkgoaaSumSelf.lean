/-
  'Rows.SumSelfSaid' is proved. No conditions.
-/
import Derived.Test.YtfkpmldmmdkgoaaSumFns
set_option linter.unusedVariables false
set_option linter.unusedSimpArgs false
set_option maxRecDepth 1000000
namespace Go.Proofs.Ytfkpmldmmdkgoaa.sumSelf
open Go.Ab Go.ChangeShapes Go.WideShapes Go.RowKit

theorem alive : limf env 8 [] = some (aB true) := limf_run_of (n := 20000) (by kernel_rfl)

set_option maxHeartbeats 1000000 in
theorem law0 (l : List UInt8) (x : AV) (hx : Sl 1 (by8 l) x) (s : UInt32) : limf env 7 [x, a32 s] = some (aB true) := by
  refine limf_of (fn := Try.f7) (c := bd_blindstamplaw03_SumSelf) rfl (by kernel_rfl) (by kernel_rfl) (by kernel_rfl) (by kernel_rfl) ?_
  refine vc_blindstamplaw03_SumSelf _ _ _ _ fun g => ?_
  simp [VC_blindstamplaw03_SumSelf]
  refine doW_call (y := aB true) rfl (by simp) alive rfl ?_
  simp [hx.len]
  by_cases h1 : (10000 : Int) < l.length
  · simp [h1]; refine handed0 ?_; simp [depth_eq]
  simp [h1]
  refine doW_call (y := a32 (crc l)) rfl (by simp [depth_eq, hx.view]) (sum_Of hx (by omega)) rfl ?_
  have h := app_ownN (P := env.P) (t := 22) (t' := 22) elT_22 (by simp) [] 0 21 (own_nil 1 []) (hx.els _) (by simp [roomB]; omega) Fr.nil
  obtain ⟨s1, H1, a1, o1, f1, p1⟩ := h
  refine doW_of a1 ?_
  refine doW_callF (y := .isl 1 (by8 (bytesOf (crc l))) (some 3)) rfl (by simp [depth_eq]) (sum_Bytes _) rfl (fun r => rfl) ?_
  have h := app_ownN (P := env.P) (t := 22) (t' := 22) elT_22 (by simp) H1 0 24 o1 (isl_els 1 (by8 (bytesOf (crc l))) (some 3) H1.get) (by simp [roomB, bytesOf]; omega) f1
  obtain ⟨s2, H2, a2, o2, f2, p2⟩ := h
  refine doW_of a2 ?_
  have h := app_ownN (P := env.P) (t := 22) (t' := 22) elT_22 (by simp) H2 0 26 (own_nil 1 H2) (hx.els _) (by simp [roomB]; omega) f2
  obtain ⟨s3, H3, a3, o3, f3, p3⟩ := h
  refine doW_of a3 ?_
  refine doW_callF (y := .isl 1 (by8 (bytesOf s)) (some 3)) rfl (by simp [depth_eq]) (sum_Bytes _) rfl (fun r => rfl) ?_
  have h := app_ownN (P := env.P) (t := 22) (t' := 22) elT_22 (by simp) H3 0 29 o3 (isl_els 1 (by8 (bytesOf s)) (some 3) H3.get) (by simp [roomB, bytesOf]; omega) f3
  obtain ⟨s4, H4, a4, o4, f4, p4⟩ := h
  refine doW_of a4 ?_
  rw [List.nil_append, by8_append] at o2
  rw [List.nil_append, by8_append] at o4
  have hk3 := (o2.keep (s := aNil) (s' := s3) p3 (by simp [AV.at?]))
  have hk4 := (hk3.1.keep (s := s3) (s' := s4) p4 (fun q hq e => hk3.2 q hq e))
  obtain ⟨y2, v2, y2s⟩ := hk4.1.viewL
  obtain ⟨y4, v4, y4s⟩ := o4.viewL
  simp
  refine doW_call (y := a32 0) (xs := [y2]) rfl (by simp [v2]) (by rw [sum_Of y2s (by simp [bytesOf]; omega), crc_self]) rfl ?_
  simp
  refine doW_call (y := aB true) (xs := [y2]) rfl (by simp [v2]) (by rw [sum_Right y2s (by simp [bytesOf]; omega), right_append]; congr 2; have hc := crc_sm l; unfold Sm at hc; simp [← UInt32.toNat_inj]; omega) rfl ?_
  simp
  refine doW_call (y := aB (decide (s % 16777216 = crc l))) (xs := [y4]) rfl (by simp [v4]) (by rw [sum_Right y4s (by simp [bytesOf]; omega), right_append]) rfl ?_
  have hlt : crc l < 16777216 := by rw [UInt32.lt_iff_toNat_lt]; exact crc_sm l
  simp [hlt]
  refine handed0 ?_
  simp [depth_eq]

theorem law (xs : List AV) (h : ShVs env.P 20 Try.f7.params.toList xs) : limf env 7 xs = some (aB true) := by
  rw [show Try.f7.params.toList = [22, 25] from by kernel_rfl] at h
  obtain ⟨x0, xs, rfl, h0, h⟩ := shvs_cons h
  obtain ⟨x1, xs, rfl, h1, h⟩ := shvs_cons h
  obtain rfl := shvs_nil h
  obtain ⟨l, x, e, hx⟩ := sh_bytes telem_22 (by simp) (by simp) (by simp) (h0.cell (by simp))
  cases e
  obtain ⟨s, _, e⟩ := rep_32 (P := env.P) (t := 25) (by simp) _ _ (h1.cell (by simp))
  cases e
  exact law0 l _ hx s

theorem own : ownKnob Try.prog.godebug = none := by kernel_rfl

theorem kids : Kids Try.prog (· < Try.prog.types.size) := kids_rows (by kernel_rfl) (by kernel_rfl)

theorem envOk : env.Ok (regionOk env) := env_ok (by kernel_rfl) fnsFit

theorem lifted (os : Os) (started : os.Started) (H : Type) (enc : TypeId × Value → H) :
    ReturnsInHanded {} Try.checked os 7 .any (Rows.sumSelfSpec.pre6 enc Try.prog Try.f7 Rows.sumSelfRow.domain false) (Rows.sumSelfSpec.post enc Try.prog Try.f7 false true false false) := by
  refine returnsInHanded_of_change (C := Try.checked) own started (by kernel_rfl) Try.func7
    (ChangeSpec.witness6 (enc := enc) (C := Try.checked) false ⟨#[], #[.slice none 0 0, .int .u32 0], []⟩ 8 (by kernel_rfl) (by kernel_rfl) (by kernel_rfl) (by kernel_rfl)) ?_
  intro W base args ds gs before hval hW _ _
  exact open_contract (E := env) envOk kids (slices_full_of Try.prog (by kernel_rfl)) (m := 20) (fun t ht => of_decide_eq_true (List.all_eq_true.1 (show Try.f7.params.toList.all (fun t => decide (t < Try.prog.types.size)) = true by kernel_rfl) t ht)) (by kernel_rfl) rfl
    (fun ds hd => by match ds, hd with | [_, _], _ => rfl) (by kernel_rfl) law W base args ds gs before hval hW

theorem over : Rows.sumSelfRow.holds Try.pinned (OpenSpec.ofChange Rows.sumSelfSpec) :=
  OpenClaim.holds_of_wide 7 Try.f7 rfl rfl rfl rfl rfl rfl rfl ⟨rfl, rfl, rfl, rfl, rfl⟩ rfl rfl rfl rfl rfl (by kernel_rfl) Try.func7 (by kernel_rfl)
    (of_decide_eq_true (by kernel_rfl)) (by unfold Func.isWrapper; first | (rw [if_pos (by decide +kernel)]; kernel_rfl) | (rw [if_neg (by decide +kernel)]; exact ⟨rfl, rfl⟩))
    (fun os started H enc _ => lifted os started H enc)

theorem proved : Rows.SumSelfSaid :=
  over
end Go.Proofs.Ytfkpmldmmdkgoaa.sumSelf
