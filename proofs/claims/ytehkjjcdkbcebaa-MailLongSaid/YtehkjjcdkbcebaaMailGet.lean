/-
  What mail.Get answers. No statement of a seat is proved here.
-/
import Derived.Test.YtehkjjcdkbcebaaMailDo
set_option linter.unusedVariables false
set_option linter.unusedSimpArgs false
set_option linter.unusedSectionVars false
set_option linter.unnecessarySimpa false
set_option maxRecDepth 100000
namespace Go.Proofs.Ytehkjjcdkbcebaa
open Go.Ab
attribute [local simp] depth_eq callRes_V callG_frz callG_own keep thr appRes_G appFine_n appFine_s appG_n appG_s roomB appRes_I islFine_some islG_ne List.take_of_length_le
def opsV (ol : List (Opn × AV)) : AV := if ol = [] then aNil else .isl 17 (encOs ol) none
theorem opsV_sl (ol : List (Opn × AV)) : Sl 17 (encOs ol) (opsV ol) := by
  unfold opsV
  split
  · rename_i h; subst h; exact .inl ⟨rfl, rfl⟩
  · exact .inr ⟨none, rfl, Nat.le_refl _⟩
theorem doW_ex {w : WRes} {P : AV → Heap → Prop} (h : ∃ y H', w = some (y, H') ∧ P y H') {K : AV → Heap → Prop} {mk : Mk K} (hK : ∀ y H', P y H' → K y H') : doW w K mk := by
  obtain ⟨y, H', hw, hp⟩ := h
  exact doW_of hw (hK y H' hp)
def getM : List UInt8 → Option (Mai × List (Opn × AV))
  | [] => none
  | k :: l => match kindR k.toNat (some (l, zMail k, [])) with
    | some (l', m, ol) => if l' = [] then (if kindMay k.toNat m ol then some (m, ol) else none) else none
    | none => none
def mailA : Option (Mai × List (Opn × AV)) → AV
  | some (m, ol) => .tup [m.val (opsV ol), aI 0]
  | none => .tup [(zMail 0).val aNil, aI 90]
theorem kindR_none {n : Nat} (h : kindAt n = none) (st : RSt) : kindR n st = none := by
  have : n = 0 ∨ 10 < n := by
    unfold kindAt at h
    split at h
    · omega
    · split at h
      · cases h
      · omega
  unfold kindR
  split <;> first | rfl | omega
theorem s_MailGet {b : List UInt8} {x : AV} (hx : Sl 1 (by8 b) x) (hl : b.length < 1000000) : limf env 34 [x] = some (mailA (getM b)) := by
  refine limf_of (fn := Try.f34) (c := bd_mail_Get) rfl (by kernel_rfl) (by kernel_rfl) (by kernel_rfl) (by kernel_rfl) ?_; refine vc_mail_Get _ _ _ fun g => ?_
  have hk := s_kinds
  cases b with
  | nil =>
    unfold getM mailA Mai.val zMail
    simp [new_ne, ne_new, new_ne1, ne_new1, gen_put', *, VC_mail_Get, hx.r]
  | cons k l =>
    have hfind := fun (g : Get) (r : Ref) => s_find g r k
    have hsf := fun g => slice_from (P := env.P) (t := 34) (z := 1) (by kernel_rfl) g hx (n := (1 : Int)) (by omega) (by simp; omega)
    have hz : ¬ ((l.length : Int) + 1 = 0) := by omega
    simp only [List.length_cons] at hl
    have him : ∀ (r : Ref) (es : List AV), importA r 8 (.fsl 0 es none) [] = (.mp { r with k := 0 }, [⟨0, es, false, false⟩]) := fun r es => rfl
    cases hka : kindAt k.toNat with
    | none =>
      have e : getM (k :: l) = none := by
        show (match kindR k.toNat (some (l, zMail k, [])) with | some (l', m, ol) => _ | none => none) = none
        rw [kindR_none hka]
      have hkv : kindV k.toNat = .agg [.v .nilFunc, .v .nilFunc] := by unfold kindV; rw [hka]
      rw [hka, hkv] at hfind
      clear hkv hka hsf
      rw [e]
      unfold mailA Mai.val zMail
      simp [new_ne, ne_new, new_ne1, ne_new1, gen_put', *, VC_mail_Get, hx.r, hx.idx]
      rfl
    | some i =>
      obtain ⟨d, mf, K⟩ := kind_ok (n := k.toNat) (by rw [hka]; rfl)
      rw [hka, K.v] at hfind
      have hT := callRes_T (f := d) K.md
      have hmm := K.mm
      obtain ⟨y1, hy1, hyS⟩ := hsf (Heap.get [])
      have hb1 : ∀ n, (by8 (k :: l)).drop n = by8 ((k :: l).drop n) := fun n => by simp [by8]
      unfold fnA at hfind
      have ho1 : (AV.fn (.func d) [] []).one = true := rfl
      have ho2 : (AV.fn (.func mf) [] []).one = true := rfl
      have ho0 : (AV.v Value.nilFunc).one = true := rfl
      simp [new_ne, ne_new, new_ne1, ne_new1, gen_put', *, VC_mail_Get, hx.r, hx.idx]
      obtain ⟨y1, hy1, hyS⟩ := hsf _
      refine doQ_of hy1 ?_
      rw [hb1] at hyS
      simp only [show (1 : Int).toNat = 1 from rfl, List.drop_succ_cons, List.drop_zero] at hyS
      have hyr := hyS.r
      clear hy1 hsf hb1
      simp [new_ne, ne_new, new_ne1, ne_new1, gen_put', *]
      refine doW_ex (K.rd (r := ⟨0, 29, 0, 0⟩) (rm := ⟨0, 2, 0, 0⟩) (st := some (l, zMail k, [])) ⟨⟨y1, ⟨rfl, hyS, by omega⟩⟩, ⟨aNil, rfl, .inl ⟨rfl, rfl⟩⟩, by simp (maxDischargeDepth := 12) [Fr_cons, Fr_consK, Fr.nil, Fr_put, new_ne, ne_new, new_ne1, ne_new1, get_new, get_new1, gen_put', *], by decide, by decide, by decide⟩ (fun _ _ _ e => by cases e; rfl)) fun y H7 hd => ?_
      have hbox := hd.old ⟨0, 4, 0, 0⟩ _ (by decide) (by decide) (by decide) rfl
      have hM := hd.mr
      clear hd
      cases hkr : kindR k.toNat (some (l, zMail k, [])) with
      | none =>
        have e : getM (k :: l) = none := by
          show (match kindR k.toNat (some (l, zMail k, [])) with | some (l', m, ol) => _ | none => none) = none
          rw [hkr]
        rw [hkr] at hM
        obtain ⟨l', m', ol', ⟨xb, ⟨box, sl, few⟩⟩, ⟨xo, mail, ops⟩, hF, hne, s1, s2⟩ := hM
        rw [e]
        have lb : (H7.get ⟨0, 2, 0, 0⟩).isSome = true := by rw [mail]; rfl
        unfold mailA Mai.val zMail
        unfold Mai.blk at mail
        clear ops sl hyS
        simp [new_ne, ne_new, new_ne1, ne_new1, gen_put', *]
      | some s =>
        obtain ⟨l', m, ol⟩ := s
        rw [hkr] at hM
        obtain ⟨b1, b2, b3, b4, b5, b6, b7⟩ := kind_back hkr
        obtain ⟨⟨xb, ⟨box, sl, few⟩⟩, ⟨xo, mail, ops⟩, hF, hne, s1, s2⟩ := (hM : MR _ _ _ l' false m ol)
        have hall : ∀ p ∈ ol, okO p := fun p hp => by
          obtain ⟨c1, c2⟩ := b2 p hp
          refine ⟨by rw [c2]; exact runG_sl _, ?_⟩
          rcases (opB_parts c1) with ⟨_, _, _, _, h64, ⟨_, _, _, h, _⟩ | ⟨_, _, _, h⟩ | ⟨_, _, h, _⟩⟩
          · omega
          · rw [h]; simp
          · rw [h]; simp
        have hmay := K.may m (opsV_sl ol) hall b4
        have hsr := sl.r
        have lb : (H7.get ⟨0, 2, 0, 0⟩).isSome = true := by rw [mail]; rfl
        by_cases hl' : l' = []
        · subst hl'
          have e : getM (k :: l) = if kindMay k.toNat m ol then some (m, ol) else none := by
            show (match kindR k.toNat (some (l, zMail k, [])) with | some (l', m, ol) => _ | none => none) = _
            rw [hkr]
            simp only [if_true]
          have hvg : ∀ (g : Get) n, (∀ q b, q.t = 79 → H7.get q = some b → g q = some b) → view g (n + 1) xo = some (opsV ol) := by
            intro g n hg
            rcases ops with ⟨rfl, rfl⟩ | ⟨qo, rfl, hq, h79, hne⟩
            · rfl
            · unfold opsV
              rw [if_neg hne, view_osl (hg qo _ h79 hq), if_pos ⟨rfl, by simp⟩]
              simp
          have hvx : ∀ n, view H7.get (n + 1) xo = some (opsV ol) := fun n => hvg _ n fun q b _ h => h
          have hvy : ∀ n b, view (H7.put ⟨0, 2, 0, 0⟩ b).get (n + 1) xo = some (opsV ol) := fun n b => hvg _ n fun q b h h2 => by
            rw [Heap.get_put, if_neg (by rintro rfl; exact absurd h (by decide))]; exact h2
          have hxo : xo.one = true := by rcases ops with ⟨_, rfl⟩ | ⟨qo, rfl, _⟩ <;> rfl
          clear hvg
          clear hyS hkr b1 b2 b3 b4 b5 b6 b7 hall sl
          cases hmy : kindMay k.toNat m ol with
          | false =>
            rw [hmy] at hmay e
            rw [show getM (k :: l) = none from e]
            clear e
            unfold mailA
            unfold Mai.val at hmay ⊢
            unfold Mai.blk at mail
            unfold zMail
            simp [new_ne, ne_new, new_ne1, ne_new1, gen_put', *]
          | true =>
            rw [hmy] at hmay e
            rw [show getM (k :: l) = some (m, ol) from e]
            clear e
            unfold mailA
            unfold Mai.val at hmay ⊢
            unfold Mai.blk at mail
            simp [new_ne, ne_new, new_ne1, ne_new1, gen_put', *]
        · have e : getM (k :: l) = none := by
            show (match kindR k.toNat (some (l, zMail k, [])) with | some (l', m, ol) => _ | none => none) = _
            rw [hkr]
            simp only [if_neg hl']
          have hpos : 0 < l'.length := List.length_pos_iff.2 hl'
          rw [e]
          unfold mailA Mai.val zMail
          unfold Mai.blk at mail
          clear hyS hkr b1 b2 b3 b4 b5 b6 b7 hall hmay ops sl
          simp [new_ne, ne_new, new_ne1, ne_new1, gen_put', *]
end Go.Proofs.Ytehkjjcdkbcebaa
