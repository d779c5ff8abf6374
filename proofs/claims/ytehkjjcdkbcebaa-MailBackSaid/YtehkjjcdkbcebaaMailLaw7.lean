/-
  Mail there and back: the law's own run. No statement of a seat is proved here.
-/
import Derived.Test.YtehkjjcdkbcebaaMailGreat
import Derived.Test.YtehkjjcdkbcebaaMlVl7
set_option linter.unusedVariables false
set_option linter.unusedSimpArgs false
set_option linter.unusedSectionVars false
set_option linter.unnecessarySimpa false
set_option maxRecDepth 100000
namespace Go.Proofs.Ytehkjjcdkbcebaa
open Go.Ab
attribute [local simp] depth_eq callRes_V callG_frz callG_own keep thr appRes_G appFine_n appFine_s appG_n appG_s roomB appRes_I islFine_some islG_ne List.take_of_length_le
theorem get_put {b : List UInt8} {m : Mai} {ol : List (Opn × AV)} (h : getM b = some (m, ol)) : putOk m ol = true ∧ b = m.kind :: (kindW m.kind.toNat m ol).1 ∧ goodO ol ∧ ol.length ≤ 3 := by
  obtain ⟨h1, h2, h3, h4, h5, h6, h7, h8⟩ := getM_ok h
  refine ⟨?_, h6, h1, h2⟩
  have e1 : (kindAt m.kind.toNat).isSome = true := by
    cases hk : kindAt m.kind.toNat with
    | none => exact absurd hk h3
    | some _ => rfl
  have e2 : manyB m ol = true := by
    by_cases c8 : m.kind = 8
    · simp [manyB, c8]
    · by_cases c2 : m.kind = 2
      · have := h4 (by rw [c2]; rfl)
        simp [manyB, c2, this]
      · have := h5 (fun h => c2 (UInt8.toNat_inj.1 h)) (fun h => c8 (UInt8.toNat_inj.1 h))
        simp [manyB, c2, this]
  have e3 : backB m ol (getM (m.kind :: (kindW m.kind.toNat m ol).1)) = true := by
    rw [← h6, h]
    simp only [backB, sameM_refl, sameOs_of, Bool.and_self]
  simp only [putOk, e1, e2, e3, h7, h8, Bool.not_false, Bool.and_self]
theorem opsW_len : ∀ {l : List (Opn × AV)}, (opsW l).1.length ≤ 293 * l.length
  | [] => Nat.le_refl _
  | p :: l => by
    have ih := @opsW_len l
    unfold opsW
    split
    · rename_i h
      have h1 := opBytes_len h
      have h2 := sizeK_le h
      simp only [List.length_append, List.length_cons]
      omega
    · simp
theorem kindW_len {n : Nat} {m : Mai} {l : List (Opn × AV)} (h : (kindW n m l).2 = false) : (kindW n m l).1.length ≤ 20 + 293 * l.length := by
  have := @opsW_len l
  unfold kindW
  split <;> simp <;> omega
theorem back_law7 {x xb : AV} {l : List (Opn × AV)} {b : List UInt8} (m : Mai) (hx : Sl 17 (encOs l) x) (ha : ∀ p ∈ l, Sl 1 (rows p.1.l) p.2) (hb : Sl 1 (by8 b) xb) : limf env 7 [m.val x, xb] = some (aB true) := by
  refine limf_of (fn := Try.f7) (c := bd_blindstamplaw10_MailBack) rfl (by kernel_rfl) (by kernel_rfl) (by kernel_rfl) (by kernel_rfl) ?_; refine vc_blindstamplaw10_MailBack _ _ _ _ fun g => ?_
  have al : limf env 31 [] = some (aB true) := limf_spec rfl
  have hxr := hx.r
  have hbr := hb.r
  obtain ⟨_, hgr, gb, rfl, hsm⟩ := s_Great hx ha m
  unfold Mai.val at hgr ⊢
  cases gb with
  | true => simp [new_ne, ne_new, new_ne1, ne_new1, gen_put', *, VC_blindstamplaw10_MailBack]
  | false =>
  obtain ⟨hl10, hl5⟩ := hsm rfl
  have hok : ∀ p ∈ l, okO p := fun p hp => ⟨ha p hp, by have := hl5 p hp; omega⟩
  by_cases g2 : (3000 : Int) < b.length
  · simp [new_ne, ne_new, new_ne1, ne_new1, gen_put', *, VC_blindstamplaw10_MailBack]
  obtain ⟨y, hput, hpi⟩ := s_MailPut hx hl10 hok m
  have hchk := s_MailCheck hx hl10 hok m
  have hget2 := s_MailGet hb (by omega)
  -- the second half's facts
  have second : (getM b = none ∧ limf env 34 [xb] = some (.tup [(zMail 0).val aNil, aI 90])) ∨ ∃ (p : Mai) (ol : List (Opn × AV)) (z : AV), limf env 34 [xb] = some (.tup [p.val (opsV ol), aI 0]) ∧ limf env 33 [p.val (opsV ol)] = some (.tup [z, aI 0]) ∧ Sl 1 (by8 b) z := by
    cases hg : getM b with
    | none => rw [hg] at hget2; exact .inl ⟨rfl, hget2⟩
    | some s =>
      obtain ⟨p, ol⟩ := s
      rw [hg] at hget2
      obtain ⟨e1, e2, e3, e4⟩ := get_put hg
      obtain ⟨y2, hy2, hp2⟩ := s_MailPut (opsV_sl ol) (by omega) (goodO_ok e3) p
      unfold putIs at hp2
      rw [e1, if_pos rfl, ← e2] at hp2
      obtain ⟨z, rfl, hz⟩ := hp2
      exact .inr ⟨p, ol, z, hget2, hy2, hz⟩
  clear hget2 hsm
  have hSz := s_R10Same (x := aNil) (y := aNil) (l := []) (m := []) (.inl ⟨rfl, rfl⟩) (.inl ⟨rfl, rfl⟩) (by simp) rfl (by simp) (by simp) (zMail 0)
  have hcb := fun g r => Sl.conv (P := env.P) (src := 34) (dst := 9) hb (by kernel_rfl) (by kernel_rfl) g r
  unfold Mai.val at hput hchk
  unfold Mai.val zMail at hSz
  cases ho : putOk m l with
  | false =>
    unfold putIs at hpi
    rw [ho, if_neg (by decide)] at hpi
    subst hpi
    clear hchk
    rcases second with ⟨_, h2⟩ | ⟨p, ol, z, h2, hp2, hz⟩
    · unfold Mai.val zMail at h2
      simp [new_ne, ne_new, new_ne1, ne_new1, gen_put', *, VC_blindstamplaw10_MailBack]
    · have hor := (opsV_sl ol).r
      have hzr := hz.r
      have hcz := fun g r => Sl.conv (P := env.P) (src := 34) (dst := 9) hz (by kernel_rfl) (by kernel_rfl) g r
      unfold Mai.val at h2 hp2
      simp [new_ne, ne_new, new_ne1, ne_new1, gen_put', *, VC_blindstamplaw10_MailBack]
  | true =>
    unfold putIs at hpi
    rw [ho, if_pos rfl] at hpi
    obtain ⟨w, rfl, hw⟩ := hpi
    have hbk : backB m l (getM (m.kind :: (kindW m.kind.toNat m l).1)) = true := by
      have := ho
      simp only [putOk, Bool.and_eq_true] at this
      exact this.2
    have hnb : (kindW m.kind.toNat m l).2 = false := by
      have := ho
      simp only [putOk, Bool.and_eq_true, Bool.not_eq_true'] at this
      exact this.1.1.2
    have hmany : manyB m l = true := by
      have := ho
      simp only [putOk, Bool.and_eq_true] at this
      exact this.1.1.1.2
    have hlw := kindW_len (m := m) hnb
    have hget1 := s_MailGet hw (by simp only [List.length_cons]; omega)
    cases hg : getM (m.kind :: (kindW m.kind.toNat m l).1) with
    | none => rw [hg] at hbk; cases hbk
    | some s =>
      obtain ⟨m', l'⟩ := s
      rw [hg] at hbk hget1
      simp only [backB, Bool.and_eq_true] at hbk
      obtain rfl := sameM_eq hbk.1
      have hmp := sameOs_eq hbk.2
      obtain ⟨b2, b3, -⟩ := getM_ok hg
      have hsame := s_R10Same (opsV_sl l') hx (by omega) hmp (goodO_ok b2) hok m'
      rw [ho, if_pos rfl] at hchk
      have hwr := hw.r
      have hor1 := (opsV_sl l').r
      simp only [mailA, Mai.val] at hget1
      unfold Mai.val at hsame
      clear hbk hmp hg b2 b3 hlw hmany hnb ho
      generalize opsV l' = ov at *
      rcases second with ⟨_, h2⟩ | ⟨p, ol, z, h2, hp2, hz⟩
      · unfold Mai.val zMail at h2
        simp [new_ne, ne_new, new_ne1, ne_new1, gen_put', *, VC_blindstamplaw10_MailBack]
      · have hor := (opsV_sl ol).r
        have hzr := hz.r
        have hcz := fun g r => Sl.conv (P := env.P) (src := 34) (dst := 9) hz (by kernel_rfl) (by kernel_rfl) g r
        unfold Mai.val at h2 hp2
        simp [new_ne, ne_new, new_ne1, ne_new1, gen_put', *, VC_blindstamplaw10_MailBack]
end Go.Proofs.Ytehkjjcdkbcebaa
