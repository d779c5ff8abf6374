/-
  What mail.Put answers. No statement of a seat is proved here.
-/
import Derived.Test.YtehkjjcdkbcebaaMailSame
set_option linter.unusedVariables false
set_option linter.unusedSimpArgs false
set_option linter.unusedSectionVars false
set_option linter.unnecessarySimpa false
set_option maxRecDepth 100000
namespace Go.Proofs.Ytehkjjcdkbcebaa
open Go.Ab
attribute [local simp] depth_eq callRes_V callG_frz callG_own keep thr appRes_G appFine_n appFine_s appG_n appG_s roomB appRes_I islFine_some islG_ne List.take_of_length_le
theorem limfQ_of {E : Env} {f : FuncId} {fn : Func} {c : Code} {args : List AV} {R : AV → Prop} (hsp : E.spec f args = none) (hal : E.allowed f = true) (hf : E.P.funcs[f]? = some fn) (hc : fn.body = some c) (hl : Nat.ble args.length fn.ntmps = true)
    (h : GoL E fn 0 [.code c] (argsL 0 args) [] fun x H => ∃ y, handed E f x H y ∧ R y) : ∃ y, limf E f args = some y ∧ R y := by
  obtain ⟨x, H, ⟨y, hQ, hR⟩, n, hn⟩ := h.h (fun _ => AV.undef) args fun i => (ofL_args args i).symm
  refine ⟨y, limf_eq.2 ⟨n, fun m hm => ?_⟩, hR⟩
  obtain ⟨st, h1, h2, h3⟩ := hn m hm
  subst h3
  unfold pureCall
  rw [hsp]
  unfold callIn
  simp only [hal, if_true, hf, hc, if_pos (Nat.le_of_ble_eq_true hl), h1, h2, Option.map_some]
  unfold handed at hQ
  split
  · rename_i h1
    rw [if_pos h1] at hQ
    rw [if_pos hQ.1]
    exact hQ.2
  · rename_i h1
    rw [if_neg h1] at hQ
    exact hQ
def manyB (m : Mai) (l : List (Opn × AV)) : Bool := decide (m.kind = 8) || (decide (m.kind = 2) && decide (l.length = 1)) || (decide (l.length = 0) && !decide (m.kind = 2))
def backB (m : Mai) (l : List (Opn × AV)) : Option (Mai × List (Opn × AV)) → Bool
  | some (m', l') => sameM m' m && sameOs l' l
  | none => false
def putOk (m : Mai) (l : List (Opn × AV)) : Bool := (kindAt m.kind.toNat).isSome && manyB m l && !(kindW m.kind.toNat m l).2 && kindMay m.kind.toNat m l && backB m l (getM (m.kind :: (kindW m.kind.toNat m l).1))
def putIs (m : Mai) (l : List (Opn × AV)) (y : AV) : Prop := if putOk m l then ∃ z, y = .tup [z, aI 0] ∧ Sl 1 (by8 (m.kind :: (kindW m.kind.toNat m l).1)) z else y = .tup [aNil, aI 8]
theorem putIs_bad {m : Mai} {l : List (Opn × AV)} (h : putOk m l = false) : putIs m l (.tup [aNil, aI 8]) := by
  unfold putIs; rw [h]; rfl
theorem getM_ok {b : List UInt8} {m : Mai} {ol : List (Opn × AV)} (h : getM b = some (m, ol)) : goodO ol ∧ ol.length ≤ 3 ∧ kindAt m.kind.toNat ≠ none ∧ (m.kind.toNat = 2 → ol.length = 1) ∧ (m.kind.toNat ≠ 2 → m.kind.toNat ≠ 8 → ol = []) ∧ b = m.kind :: (kindW m.kind.toNat m ol).1 ∧ (kindW m.kind.toNat m ol).2 = false ∧ kindMay m.kind.toNat m ol = true := by
  cases b with
  | nil => cases h
  | cons k l =>
    have h : (match kindR k.toNat (some (l, zMail k, [])) with | some (l', m, ol) => if l' = [] then (if kindMay k.toNat m ol then some (m, ol) else none) else none | none => none) = some (m, ol) := h
    cases hr : kindR k.toNat (some (l, zMail k, [])) with
    | none => rw [hr] at h; cases h
    | some s =>
      obtain ⟨l', m1, ol1⟩ := s
      rw [hr] at h
      simp only at h
      split at h
      · rename_i hl
        split at h
        · rename_i hm
          cases h
          obtain ⟨b1, b2, b3, b4, b5, b6, b7⟩ := kind_back hr
          subst b1
          refine ⟨b2, b3, fun e => ?_, b4, b5, by rw [b6, hl, List.append_nil], b7, hm⟩
          rw [kindR_none e] at hr
          cases hr
        · cases h
      · cases h
theorem goodO_ok {ol : List (Opn × AV)} (h : goodO ol) : ∀ p ∈ ol, okO p := fun p hp => by
  obtain ⟨c1, c2⟩ := h p hp
  refine ⟨by rw [c2]; exact runG_sl _, ?_⟩
  rcases (opB_parts c1) with ⟨_, _, _, _, h64, ⟨_, _, _, h, _⟩ | ⟨_, _, _, h⟩ | ⟨_, _, h, _⟩⟩
  · omega
  · rw [h]; simp
  · rw [h]; simp
theorem s_MailPut {x : AV} {l : List (Opn × AV)} (hx : Sl 17 (encOs l) x) (hl : l.length ≤ 10) (ha : ∀ p ∈ l, okO p) (m : Mai) : ∃ y, limf env 33 [m.val x] = some y ∧ putIs m l y := by
  refine limfQ_of (fn := Try.f33) (c := bd_mail_Put) rfl (by kernel_rfl) (by kernel_rfl) (by kernel_rfl) (by kernel_rfl) ?_
  refine vc_mail_Put _ _ _ fun g => ?_
  have hk := s_kinds
  have hxr := hx.r
  have hfind := fun (g : Get) (r : Ref) => s_find g r m.kind
  have him : ∀ (r : Ref) (es : List AV), importA r 8 (.fsl 0 es none) [] = (.mp { r with k := 0 }, [⟨0, es, false, false⟩]) := fun r es => rfl
  cases hka : kindAt m.kind.toNat with
  | none =>
    have hb := putIs_bad (m := m) (l := l) (by simp [putOk, hka])
    have hkv : kindV m.kind.toNat = .agg [.v .nilFunc, .v .nilFunc] := by unfold kindV; rw [hka]
    have h0 : (AV.v .nilFunc).one = true := rfl
    rw [hka, hkv] at hfind
    have h8 : ¬ m.kind = 8 := by intro h; rw [h] at hka; cases hka
    have h2 : ¬ m.kind = 2 := by intro h; rw [h] at hka; cases hka
    clear hkv hka
    unfold Mai.val
    by_cases hz : l.length = 0
    · simp [new_ne, ne_new, new_ne1, ne_new1, gen_put', *, VC_mail_Put]
    · simp [new_ne, ne_new, new_ne1, ne_new1, gen_put', *, VC_mail_Put]
  | some i =>
    obtain ⟨d, mf, K⟩ := kind_ok (n := m.kind.toNat) (by rw [hka]; rfl)
    rw [hka, K.v] at hfind
    have hT := callRes_T (f := d) K.md
    have hmm := K.mm
    unfold fnA at hfind
    have ho1 : (AV.fn (.func d) [] []).one = true := rfl
    have ho2 : (AV.fn (.func mf) [] []).one = true := rfl
    have ho0 : (AV.v Value.nilFunc).one = true := rfl
    cases hmy : manyB m l with
    | false =>
      have hb := putIs_bad (m := m) (l := l) (by simp [putOk, hmy])
      have h8 : decide (m.kind = 8) = false := by cases h : decide (m.kind = 8) with
        | false => rfl
        | true => simp [manyB, h] at hmy
      unfold Mai.val
      cases h2 : decide (m.kind = 2) with
      | true =>
        have h1 : ¬ (l.length : Int) = 1 := by
          intro h
          have h : l.length = 1 := by omega
          simp [manyB, h2, h] at hmy
        clear K hka hmy
        by_cases h0 : l = []
        · subst h0
          simp [new_ne, ne_new, new_ne1, ne_new1, gen_put', *, VC_mail_Put]
        · simp [new_ne, ne_new, new_ne1, ne_new1, gen_put', *, VC_mail_Put]
      | false =>
        have h0 : ¬ l = [] := by intro h; simp [manyB, h2, h] at hmy
        clear K hka hmy
        simp [new_ne, ne_new, new_ne1, ne_new1, gen_put', *, VC_mail_Put]
    | true =>
      have hall : (m.kind.toNat = 2 → l.length = 1) := by
        intro h
        have h2 : m.kind = 2 := UInt8.toNat_inj.1 h
        have h8 : ¬ (m.kind = 8) := by rw [h2]; decide
        simp [manyB, h2] at hmy
        exact hmy
      have cases3 : (decide (m.kind = 8) = true ∧ 0 = 0 ∧ 1 = 1) ∨ (decide (m.kind = 8) = false ∧ decide (m.kind = 2) = true ∧ (l.length : Int) = 1) ∨ (decide (m.kind = 8) = false ∧ decide (m.kind = 2) = false ∧ (l.length : Int) = 0) := by
        cases h8 : decide (m.kind = 8) with
        | true => exact .inl ⟨rfl, rfl, rfl⟩
        | false =>
          cases h2 : decide (m.kind = 2) with
          | true => simp [manyB, h8, h2] at hmy; exact .inr (.inl ⟨rfl, rfl, by omega⟩)
          | false => simp [manyB, h8, h2] at hmy; exact .inr (.inr ⟨rfl, rfl, by rw [hmy]; rfl⟩)
      have hput : putOk m l = (!(kindW m.kind.toNat m l).2 && kindMay m.kind.toNat m l && backB m l (getM (m.kind :: (kindW m.kind.toNat m l).1))) := by
        simp [putOk, hka, hmy]
      clear hmy hka
      unfold Mai.val
      rcases cases3 with ⟨c1, c2, c3⟩ | ⟨c1, c2, c3⟩ | ⟨c1, c2, c3⟩
      all_goals
        simp [new_ne, ne_new, new_ne1, ne_new1, gen_put', *, VC_mail_Put]
        clear c1 c2 c3
        refine doW_ex (K.wr (r := ⟨0, 53, 0, 0⟩) (rm := ⟨0, 8, 0, 0⟩) (bs := [m.kind]) (m := m) (xo := x) (ol := l) ⟨⟨⟨0, 51, 0, 0⟩, some 1, ⟨rfl, rfl, by decide, .inr ⟨rfl, rfl⟩, by simp⟩, .inl rfl⟩, (by simp (maxDischargeDepth := 12) [Fr_cons, Fr_consK, Fr.nil, Fr_put, new_ne, ne_new, new_ne1, ne_new1, get_new, get_new1, gen_put', *]), rfl, by decide, spot_mk _ _ _ _ (by decide)⟩ (by simp) hx ha hl hall) fun y H9 hd => ?_
        obtain ⟨bs', hD, hbs⟩ := hd
        obtain ⟨q, c, hP, hq⟩ := hD.mw.pen
        have hb4 := hD.old ⟨0, 4, 0, 0⟩ _ (spot_mk _ _ _ _ (by decide)) (by decide) (by decide) rfl
        have hb1 := hD.old ⟨0, 1, 0, 0⟩ _ (spot_mk _ _ _ _ (by decide)) (by decide) (by decide) rfl
        have hF := hD.mw.fr
        have hmay := K.may m hx ha hall
        unfold Mai.val at hmay
        obtain ⟨box, row, ne, cap, few⟩ := hP
        clear hD
        cases hw : (kindW m.kind.toNat m l).2 with
        | true =>
          have hb := putIs_bad (m := m) (l := l) (by rw [hput, hw]; rfl)
          rw [hw] at box
          clear hmay hput hbs K
          simp [new_ne, ne_new, new_ne1, ne_new1, gen_put', *]
        | false =>
          have hbs := hbs hw
          rw [hw] at box
          subst hbs
          cases hmy : kindMay m.kind.toNat m l with
          | false =>
            have hb := putIs_bad (m := m) (l := l) (by rw [hput, hmy]; simp)
            rw [hmy] at hmay
            clear hput K hmy hw
            simp [new_ne, ne_new, new_ne1, ne_new1, gen_put', *]
          | true =>
            have hsl : Sl 1 (by8 ([m.kind] ++ (kindW m.kind.toNat m l).1)) (.isl 1 (by8 ([m.kind] ++ (kindW m.kind.toNat m l).1)) c) := by
              rw [Sl_isl]
              refine ⟨rfl, ?_⟩
              rcases cap with rfl | ⟨rfl, h1⟩
              · exact Nat.le_refl _
              · rw [by8_len, h1]; exact Nat.le_refl _
            have hget := s_MailGet hsl few
            have hpq := hput
            rw [hw, hmy] at hput
            rw [hmy] at hmay
            clear K hpq cap hmy
            simp only [List.singleton_append] at hget hsl box row few
            simp only [Bool.not_false, Bool.true_and, Bool.and_self] at hput
            have few' : (m.kind :: (kindW m.kind.toNat m l).1).length < 1000000 := few
            have hpis : ∀ z, putOk m l = true → Sl 1 (by8 (m.kind :: (kindW m.kind.toNat m l).1)) z → putIs m l (.tup [z, aI 0]) := fun z h hz => by
              unfold putIs; rw [h, if_pos rfl]; exact ⟨z, rfl, hz⟩
            have hbl : (by8 (m.kind :: (kindW m.kind.toNat m l).1)).length = (m.kind :: (kindW m.kind.toNat m l).1).length := by8_len _
            generalize hB : m.kind :: (kindW m.kind.toNat m l).1 = B at *
            clear hB hw
            cases hg : getM B with
            | none =>
              have hb := putIs_bad (m := m) (l := l) (by rw [hput, hg]; rfl)
              rw [hg] at hget
              clear hpis hput hg
              unfold mailA Mai.val zMail at hget
              simp [new_ne, ne_new, new_ne1, ne_new1, gen_put', *]
            | some s =>
              obtain ⟨m', l'⟩ := s
              obtain ⟨b2, b3, -⟩ := getM_ok hg
              have hsame := s_MailSame (opsV_sl l') hx (by omega) (goodO_ok b2) ha m' m
              have hput : putOk m l = (sameM m' m && sameOs l' l) := by rw [hput, hg]; rfl
              rw [hg] at hget
              have hpz := hpis (.isl 1 (by8 B) c)
              clear hpis hg b2 b3
              simp only [mailA, Mai.val] at hget
              unfold Mai.val at hsame
              have hor := (opsV_sl l').r
              have hlq : (H9.get q).isSome = true := by rw [row]; rfl
              have hsp : ∀ t, t ≠ 51 ∧ t ≠ 55 ∧ t ≠ 46 → (⟨0, t, 0, 0⟩ : Ref) ≠ q := fun t h => spot_ne (spot_mk _ _ _ _ h) hq
              have hs1 := hsp 1 (by decide)
              have hs1' := hs1.symm
              have ne' := ne.symm
              clear hsp
              have hsp0 : opsV l' = aNil ∨ opsV l' = .isl 17 (encOs l') none := by unfold opsV; split <;> simp
              generalize opsV l' = ov at *
              cases hbb : (sameM m' m && sameOs l' l) with
              | false =>
                have hb := putIs_bad (m := m) (l := l) (by rw [hput, hbb])
                rw [hbb] at hsame
                clear hpz hput hbb
                rcases hsp0 with rfl | rfl
                · simp [new_ne, ne_new, new_ne1, ne_new1, gen_put', *, Heap.get_put]
                · simp [new_ne, ne_new, new_ne1, ne_new1, gen_put', *, Heap.get_put]
              | true =>
                have hpz := hpz (by rw [hput, hbb]) hsl
                rw [hbb] at hsame
                clear hput hbb
                rcases hsp0 with rfl | rfl
                · simp [new_ne, ne_new, new_ne1, ne_new1, gen_put', *, Heap.get_put]
                · simp [new_ne, ne_new, new_ne1, ne_new1, gen_put', *, Heap.get_put]
end Go.Proofs.Ytehkjjcdkbcebaa
