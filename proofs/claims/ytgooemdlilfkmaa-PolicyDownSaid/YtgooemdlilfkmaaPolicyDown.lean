/-
  'Rows.PolicyDownSaid': the law's run. No conditions.
-/
import Derived.Test.YtgooemdlilfkmaaPolMay
set_option linter.unusedVariables false
set_option linter.unusedSimpArgs false
set_option maxRecDepth 1000000
namespace Go.Proofs.Ytgooemdlilfkmaa.policyDown
open Go.Ab Go.ChangeShapes Go.WideShapes Go.RowKit

theorem alive : limf env 16 [] = some (aB true) := limf_run_of (n := 40000) (by kernel_rfl)

theorem and_down {d b k : UInt32} (h1 : d &&& ~~~b = 0) (h2 : b &&& ~~~k = 0) : d &&& ~~~k = 0 := by
  apply UInt32.toBitVec_inj.1
  have e1 := congrArg UInt32.toBitVec h1
  have e2 := congrArg UInt32.toBitVec h2
  simp only [UInt32.toBitVec_and, UInt32.toBitVec_not] at *
  apply BitVec.eq_of_getElem_eq
  intro i hi
  have f1 := congrArg (fun v : BitVec 32 => v.getLsbD i) e1
  have f2 := congrArg (fun v : BitVec 32 => v.getLsbD i) e2
  simp [hi] at f1 f2 ⊢
  intro h
  exact f2 (f1 h)

theorem opens_down {us : List Clear} {user : Int} {a c : UInt8} {b d : UInt32} (h : opensB us user a b = true) (hc : c ≤ a) (hd : d &&& ~~~b = 0) : opensB us user c d = true := by
  unfold opensB at h ⊢
  split at h
  · rename_i h0
    simp only [Bool.and_eq_true, decide_eq_true_eq] at h
    simp [h.1, UInt8.le_trans hc h.2.1, and_down hd h.2.2, h0]
  · cases h

set_option maxHeartbeats 2000000 in
theorem law0 {xu xq : AV} {us : List Clear} {qs : List Quota} {gr : Int} (hu : Sl 3 (encCs us) xu) (hq : Sl 5 (encQs qs) xq) (user : Int) (a : UInt8) (b : UInt32) (c : UInt8) (d : UInt32) :
    limf env 4 [.agg [xu, xq, aI gr], aI user, .agg [a8 a, a32 b], .agg [a8 c, a32 d]] = some (aB true) := by
  refine limf_of (fn := Try.f4) (c := bd_blindstamplaw06_PolicyDown) rfl (by kernel_rfl) (by kernel_rfl) (by kernel_rfl) (by kernel_rfl) ?_
  refine vc_blindstamplaw06_PolicyDown _ _ _ _ _ _ fun g => ?_
  simp [VC_blindstamplaw06_PolicyDown, hu.cells, hq.cells]
  refine doW_call (xs := []) (y := aB true) rfl (by simp) alive rfl ?_
  simp
  have hG := ref_Great gr hu hq
  generalize hbg : (decide (100 < (us.length : Int)) || decide (100 < (qs.length : Int))) = bg at hG
  refine doW_call (xs := [.agg [xu, xq, aI gr]]) (y := aB bg) rfl (by simp [depth_eq, hu.view, hq.view]) hG rfl ?_
  cases bg
  · have hg : ¬ ((100 : Int) < us.length ∨ (100 : Int) < qs.length) := by simpa using hbg
    have hM1 := policy_May (gr := gr) hu hq (by omega) (by omega) user a b
    have hM2 := policy_May (gr := gr) hu hq (by omega) (by omega) user c d
    simp
    refine doW_call (xs := [.agg [xu, xq, aI gr], aI user, .agg [a8 a, a32 b]]) rfl (by simp [depth_eq, hu.view, hq.view]) hM1 rfl ?_
    simp
    refine doW_call (xs := [.agg [xu, xq, aI gr], aI user, .agg [a8 c, a32 d]]) rfl (by simp [depth_eq, hu.view, hq.view]) hM2 rfl ?_
    simp
    generalize hx : opensB us user a b = x1
    generalize hy : opensB us user c d = y1
    have hb0 : 0 ≤ bad (mayB us qs gr) := by unfold bad; split <;> decide
    have hl0 : 0 ≤ lcheck a := by unfold lcheck; split <;> decide
    by_cases h1 : askedE us qs gr a = 0
    · have hbad : bad (mayB us qs gr) = 0 := by unfold askedE at h1; split at h1 <;> omega
      have hCk := policy_Check (gr := gr) hu hq (by omega) (by omega)
      rw [hbad] at hCk
      by_cases h2 : askedE us qs gr c = 0
      · cases x1
        · by_cases hc : c ≤ a <;> by_cases hd : d &&& ~~~b = 0 <;> simp [h1, h2, hc, hd] <;> (refine handed0 rfl ?_; simp [depth_eq])
        · have h0 := hx
          unfold opensB at h0
          split at h0
          · rename_i hr
            obtain ⟨n, rfl⟩ := Int.eq_ofNat_of_zero_le hr.1
            have hn : n < us.length := by omega
            simp only [Int.toNat_natCast, Bool.and_eq_true, decide_eq_true_eq] at h0
            have hlen := hu.len
            have hyy : c ≤ a → d &&& ~~~b = 0 → y1 = true := fun hc hd => by rw [← hy]; exact opens_down hx hc hd
            obtain ⟨cc, rfl, _⟩ := hu.isl (i := n) (by simpa using hn)
            by_cases hc : c ≤ a
            · by_cases hd : d &&& ~~~b = 0
              · have := hyy hc hd
                subst this
                simp [h1, h2, hc, hd, hlen, hn, read_CL hn, h0]
                refine handed0 rfl ?_
                simp [depth_eq]
              · simp [h1, h2, hc, hd, hlen, hn, read_CL hn, h0]
                refine handed0 rfl ?_
                simp [depth_eq]
            · simp [h1, h2, hc, hlen, hn, read_CL hn, h0]
              refine handed0 rfl ?_
              simp [depth_eq]
          · cases h0
      · by_cases hc : c ≤ a
        · by_cases hd : d &&& ~~~b = 0
          · simp [h1, h2, hc, hd]
            refine doW_call (xs := [.agg [xu, xq, aI gr]]) (y := aI 0) rfl (by simp [depth_eq, hu.view, hq.view]) hCk rfl ?_
            simp [h1, h2, hc, hd]
            refine handed0 rfl ?_
            simp [depth_eq]
          · simp [h1, h2, hc, hd]
            refine handed0 rfl ?_
            simp [depth_eq]
        · simp [h1, h2, hc]
          refine handed0 rfl ?_
          simp [depth_eq]
    · by_cases h2 : askedE us qs gr c = 0
      · simp [h1, h2]
        refine handed0 rfl ?_
        simp [depth_eq]
      · simp [h1, h2]
        refine handed0 rfl ?_
        simp [depth_eq]
  · simp
    refine handed0 rfl ?_
    simp [depth_eq]

theorem rep_Lab : Rep env.P 24 (fun _ => True) (fun p : UInt8 × UInt32 => [a8 p.1, a32 p.2]) := by
  intro n xs h
  have h := sh_struct (P := env.P) fieldTys_24 h
  obtain ⟨m, x, r, rfl, h1, y, r', rfl, h2, rfl⟩ := h
  obtain ⟨v, _, rfl⟩ := rep_8 (P := env.P) (t := 5) (by simp) _ _ h1
  obtain ⟨w, _, rfl⟩ := rep_32 (P := env.P) (t := 22) (by simp) _ _ h2
  exact ⟨(v, w), trivial, rfl⟩
theorem rep_Cl : Rep env.P 39 (fun _ => True) Clear.enc := by
  intro n xs h
  have h := sh_struct (P := env.P) fieldTys_39 h
  obtain ⟨m, x, r, rfl, h1, y, r', rfl, h2, rfl⟩ := h
  obtain ⟨p, _, rfl⟩ := rep_Lab _ _ h1
  obtain ⟨b, _, rfl⟩ := rep_bool (P := env.P) (t := 4) (by simp) _ _ h2
  exact ⟨⟨p.1, p.2, b⟩, trivial, rfl⟩
theorem rep_Qu : Rep env.P 26 (fun _ => True) Quota.enc := by
  intro n xs h
  have h := sh_struct (P := env.P) fieldTys_26 h
  obtain ⟨m, x, r, rfl, h1, y, r', rfl, h2, z, r'', rfl, h3, w, r3, rfl, h4, rfl⟩ := h
  obtain ⟨p, _, rfl⟩ := rep_Lab _ _ h1
  obtain ⟨i, _, rfl⟩ := rep_i64 (P := env.P) (t := 3) (by simp) _ _ h2
  obtain ⟨j, _, rfl⟩ := rep_i64 (P := env.P) (t := 3) (by simp) _ _ h3
  obtain ⟨k, _, rfl⟩ := rep_i64 (P := env.P) (t := 3) (by simp) _ _ h4
  exact ⟨⟨p.1, p.2, i, j, k⟩, trivial, rfl⟩

theorem law (xs : List AV) (h : ShVs env.P 20 Try.f4.params.toList xs) : limf env 4 xs = some (aB true) := by
  rw [show Try.f4.params.toList = [33, 3, 24, 24] from by kernel_rfl] at h
  obtain ⟨x0, xs, rfl, h0, h⟩ := shvs_cons h
  obtain ⟨x1, xs, rfl, h1, h⟩ := shvs_cons h
  obtain ⟨x2, xs, rfl, h2, h⟩ := shvs_cons h
  obtain ⟨x3, xs, rfl, h3, h⟩ := shvs_cons h
  obtain rfl := shvs_nil h
  obtain ⟨y0, e, h0'⟩ := h0.agg (by simp)
  clear h0; subst e
  have h0 := sh_struct (P := env.P) fieldTys_33 h0'
  obtain ⟨m, u, r, rfl, hu, q, r', rfl, hq, g, r'', rfl, hg, rfl⟩ := h0
  have hu := sh_slice (P := env.P) telem_30 tsize_39 tagg_39 rep_Cl hu
  obtain ⟨us, xu, _, rfl, su⟩ := hu
  have hq := sh_slice (P := env.P) telem_31 tsize_26 tagg_26 rep_Qu hq
  obtain ⟨qs, xq, _, rfl, sq⟩ := hq
  obtain ⟨gr, _, rfl⟩ := rep_i64 (P := env.P) (t := 3) (by simp) _ _ hg
  obtain ⟨i, _, e⟩ := rep_i64 (P := env.P) (t := 3) (by simp) _ _ (h1.cell (by simp))
  cases e
  obtain ⟨y2, e, h2'⟩ := h2.agg (by simp)
  clear h2; subst e
  obtain ⟨p, _, rfl⟩ := rep_Lab _ _ h2'
  obtain ⟨y3, e, h3'⟩ := h3.agg (by simp)
  clear h3; subst e
  obtain ⟨p', _, rfl⟩ := rep_Lab _ _ h3'
  exact law0 (us := us) (qs := qs) su sq i p.1 p.2 p'.1 p'.2

theorem own : ownKnob Try.prog.godebug = none := by kernel_rfl

theorem kids : Kids Try.prog (· < Try.prog.types.size) := kids_rows (by kernel_rfl) (by kernel_rfl)

theorem envOk : env.Ok (regionOk env) := env_ok (by kernel_rfl) fnsFit

theorem lifted (os : Os) (started : os.Started) (H : Type) (enc : TypeId × Value → H) :
    ReturnsInHanded {} Try.checked os 4 .any (Rows.policyDownSpec.pre6 enc Try.prog Try.f4 Rows.policyDownRow.domain false) (Rows.policyDownSpec.post enc Try.prog Try.f4 false true false false) := by
  refine returnsInHanded_of_change (C := Try.checked) own started (by kernel_rfl) Try.func4
    (ChangeSpec.witness6 (enc := enc) (C := Try.checked) false ⟨#[], #[.agg #[.slice none 0 0, .slice none 0 0, .int .i64 0], .int .i64 0, .agg #[.int .u8 0, .int .u32 0], .agg #[.int .u8 0, .int .u32 0]], []⟩ 8 (by kernel_rfl) (by kernel_rfl) (by kernel_rfl) (by kernel_rfl)) ?_
  intro W base args ds gs before hval hW _ _
  exact open_contract (E := env) envOk kids (slices_full_of Try.prog (by kernel_rfl)) (m := 20) (fun t ht => of_decide_eq_true (List.all_eq_true.1 (show Try.f4.params.toList.all (fun t => decide (t < Try.prog.types.size)) = true by kernel_rfl) t ht)) (by kernel_rfl) rfl
    (fun ds hd => by match ds, hd with | [_, _, _, _], _ => rfl) (by kernel_rfl) law W base args ds gs before hval hW

theorem over : Rows.policyDownRow.holds Try.pinned (OpenSpec.ofChange Rows.policyDownSpec) :=
  OpenClaim.holds_of_wide 4 Try.f4 rfl rfl rfl rfl rfl rfl rfl ⟨rfl, rfl, rfl, rfl, rfl⟩ rfl rfl rfl rfl rfl (by kernel_rfl) Try.func4 (by kernel_rfl)
    (of_decide_eq_true (by kernel_rfl)) (by unfold Func.isWrapper; first | (rw [if_pos (by decide +kernel)]; kernel_rfl) | (rw [if_neg (by decide +kernel)]; exact ⟨rfl, rfl⟩))
    (fun os started H enc _ => lifted os started H enc)

theorem proved : Rows.PolicyDownSaid :=
  over
end Go.Proofs.Ytgooemdlilfkmaa.policyDown
