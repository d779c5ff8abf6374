/-
  Mail compared. No statement of a seat is proved here.
-/
import Derived.Test.YtehkjjcdkbcebaaMailGet
set_option linter.unusedVariables false
set_option linter.unusedSimpArgs false
set_option linter.unusedSectionVars false
set_option linter.unnecessarySimpa false
set_option maxRecDepth 100000
namespace Go.Proofs.Ytehkjjcdkbcebaa
open Go.Ab
attribute [local simp] depth_eq callRes_V callG_frz callG_own keep thr appRes_G appFine_n appFine_s appG_n appG_s roomB appRes_I islFine_some islG_ne List.take_of_length_le
def sameOs : List (Opn × AV) → List (Opn × AV) → Bool
  | [], [] => true
  | p :: s, q :: t => sameB p.1 q.1 && sameOs s t
  | _, _ => false
theorem sameB_eq {a b : Opn} (h : sameB a b = true) : a = b := by
  obtain ⟨a_1, ⟨a_2, a_3, a_4⟩, a_5, ⟨⟨⟨a_6, a_7, a_8⟩, a_9⟩, a_10⟩, ⟨⟨a_11, a_12, a_13⟩, a_14⟩, ⟨a_15, a_16⟩, al⟩ := a
  obtain ⟨b_1, ⟨b_2, b_3, b_4⟩, b_5, ⟨⟨⟨b_6, b_7, b_8⟩, b_9⟩, b_10⟩, ⟨⟨b_11, b_12, b_13⟩, b_14⟩, ⟨b_15, b_16⟩, bl⟩ := b
  simp [sameB] at h
  simp [h]
theorem sameB_refl (a : Opn) : sameB a a = true := by simp [sameB]
theorem sameOs_eq : ∀ {l m : List (Opn × AV)}, sameOs l m = true → l.map (·.1) = m.map (·.1)
  | [], [], _ => rfl
  | p :: s, q :: t, h => by
    simp only [sameOs, Bool.and_eq_true] at h
    simp only [List.map_cons, sameB_eq h.1, sameOs_eq h.2]
  | [], q :: t, h => by cases h
  | p :: s, [], h => by cases h
theorem sameOs_of : ∀ {l m : List (Opn × AV)}, l.map (·.1) = m.map (·.1) → sameOs l m = true
  | [], [], _ => rfl
  | p :: s, q :: t, h => by
    simp only [List.map_cons, List.cons.injEq] at h
    simp only [sameOs, h.1, sameB_refl, sameOs_of h.2, Bool.and_self]
  | [], q :: t, h => by cases h
  | p :: s, [], h => by cases h
theorem s_sameE {p q : Opn × AV} (hp : okO p) (hq : okO q) : limf env 30 [encO p, encO q] = some (aB (sameB p.1 q.1)) := by
  obtain ⟨⟨a_1, ⟨a_2, a_3, a_4⟩, a_5, ⟨⟨⟨a_6, a_7, a_8⟩, a_9⟩, a_10⟩, ⟨⟨a_11, a_12, a_13⟩, a_14⟩, ⟨a_15, a_16⟩, al⟩, xa⟩ := p
  obtain ⟨⟨b_1, ⟨b_2, b_3, b_4⟩, b_5, ⟨⟨⟨b_6, b_7, b_8⟩, b_9⟩, b_10⟩, ⟨⟨b_11, b_12, b_13⟩, b_14⟩, ⟨b_15, b_16⟩, bl⟩, xb⟩ := q
  have h := hp.2
  simp only at h
  exact s_OpSame a_1 a_2 a_3 a_4 a_5 a_6 a_7 a_8 a_9 a_10 a_11 a_12 a_13 a_14 a_15 a_16 b_1 b_2 b_3 b_4 b_5 b_6 b_7 b_8 b_9 b_10 b_11 b_12 b_13 b_14 b_15 b_16 hp.1 hq.1 (by omega)
theorem eqF_loop {x y : AV} {l m : List (Opn × AV)} (hx : Sl 17 (encOs l) x) (hy : Sl 17 (encOs m) y) (hl : l.length < 100000) (hlm : l.length = m.length) (ha : ∀ p ∈ l, okO p) (hb : ∀ p ∈ m, okO p) {Q : AV → Heap → Prop} :
    ∀ (s t : List (Opn × AV)) (k : Nat) (i : Int) (H : Heap), l.drop k = s → m.drop k = t → k ≤ l.length → i = k → Fr H → (∀ v H', v = aB (sameOs s t) → Q v H') →
    GoL env Try.f126 0 hd_slices_EqualFunc___blindstamp_api_Op___blindstamp_api_Op_blindstamp_api_Op_blindstamp_api_Op__4 [(17, aI i), (2, .fn (.func 30) [] []), (1, y), (15, x), (16, aI l.length)] H Q := by
  intro s
  induction s with
  | nil =>
    rintro t k i H hs ht hk rfl hF hQ
    obtain rfl := drop_nil hs hk
    have et : t = [] := by rw [← ht, hlm]; exact List.drop_length
    subst et
    have hQ' := fun v H' h => hQ v H' h
    clear hQ
    refine vc_slices_EqualFunc___blindstamp_api_Op___blindstamp_api_Op_blindstamp_api_Op_blindstamp_api_Op__4 _ _ _ _ _ _ _ fun g => ?_
    simp [new_ne, ne_new, new_ne1, ne_new1, gen_put', *, VC_slices_EqualFunc___blindstamp_api_Op___blindstamp_api_Op_blindstamp_api_Op_blindstamp_api_Op__4]
    all_goals exact hQ' _ _ rfl
  | cons p s ih =>
    rintro t k i H hs ht hk rfl hF hQ
    obtain ⟨hlt, hg, hs', hg'⟩ := drop_cons hs
    have hlt2 : k < m.length := by omega
    obtain ⟨q, t', rfl⟩ : ∃ q t', t = q :: t' := by
      cases t with
      | nil => exact absurd ht (by intro h; have := congrArg List.length h; simp at this; omega)
      | cons q t' => exact ⟨q, t', rfl⟩
    obtain ⟨_, hg2, ht', hg2'⟩ := drop_cons ht
    have hp := ha p (hg ▸ List.getElem_mem _)
    have hq := hb q (hg2 ▸ List.getElem_mem _)
    have hsm := s_sameE hp hq
    have e3 := IntWalk.i64_in ((k : Int) + 1) (by omega)
    have ih' := fun H' hF' => ih t' (k + 1) ((k : Int) + 1) H' hs' ht' (by omega) (by simp) hF'
    have hpr := hp.1.r
    have hqr := hq.1.r
    clear ih
    obtain ⟨⟨a_1, ⟨a_2, a_3, a_4⟩, a_5, ⟨⟨⟨a_6, a_7, a_8⟩, a_9⟩, a_10⟩, ⟨⟨a_11, a_12, a_13⟩, a_14⟩, ⟨a_15, a_16⟩, al⟩, xa⟩ := p
    obtain ⟨⟨b_1, ⟨b_2, b_3, b_4⟩, b_5, ⟨⟨⟨b_6, b_7, b_8⟩, b_9⟩, b_10⟩, ⟨⟨b_11, b_12, b_13⟩, b_14⟩, ⟨b_15, b_16⟩, bl⟩, xb⟩ := q
    simp only [encO] at hsm
    refine vc_slices_EqualFunc___blindstamp_api_Op___blindstamp_api_Op_blindstamp_api_Op_blindstamp_api_Op__4 _ _ _ _ _ _ _ fun g => ?_
    clear hp hq ha hb hlm
    cases hv : sameB (⟨a_1, ⟨a_2, a_3, a_4⟩, a_5, ⟨⟨⟨a_6, a_7, a_8⟩, a_9⟩, a_10⟩, ⟨⟨a_11, a_12, a_13⟩, a_14⟩, ⟨a_15, a_16⟩, al⟩ : Opn) (⟨b_1, ⟨b_2, b_3, b_4⟩, b_5, ⟨⟨⟨b_6, b_7, b_8⟩, b_9⟩, b_10⟩, ⟨⟨b_11, b_12, b_13⟩, b_14⟩, ⟨b_15, b_16⟩, bl⟩ : Opn) with
    | false =>
      have hQ' := fun v H' (h : v = aB false) => hQ v H' (by simp [sameOs, hv, h])
      rw [hv] at hsm
      clear hQ ih' hv
      simp [new_ne, ne_new, new_ne1, ne_new1, gen_put', *, VC_slices_EqualFunc___blindstamp_api_Op___blindstamp_api_Op_blindstamp_api_Op_blindstamp_api_Op__4, hx.idx, hy.idx, encOs, encO]
      all_goals exact hQ' _ _ rfl
    | true =>
      have hQ' := fun v H' (h : v = aB (sameOs s t')) => hQ v H' (by simp [sameOs, hv, h])
      rw [hv] at hsm
      clear hQ hv
      simp [new_ne, ne_new, new_ne1, ne_new1, gen_put', *, VC_slices_EqualFunc___blindstamp_api_Op___blindstamp_api_Op_blindstamp_api_Op_blindstamp_api_Op__4, hx.idx, hy.idx, encOs, encO]
      all_goals exact ih' _ (by simp (maxDischargeDepth := 12) [Fr_cons, Fr_consK, Fr.nil, Fr_put, new_ne, ne_new, new_ne1, ne_new1, get_new, get_new1, gen_put', *]) hQ'
theorem s_EqF {x y : AV} {l m : List (Opn × AV)} (hx : Sl 17 (encOs l) x) (hy : Sl 17 (encOs m) y) (hl : l.length < 100000) (ha : ∀ p ∈ l, okO p) (hb : ∀ p ∈ m, okO p) :
    limf env 126 [x, y, .fn (.func 30) [] []] = some (aB (sameOs l m)) := by
  refine limf_of (fn := Try.f126) (c := bd_slices_EqualFunc___blindstamp_api_Op___blindstamp_api_Op_blindstamp_api_Op_blindstamp_api_Op_) rfl (by kernel_rfl) (by kernel_rfl) (by kernel_rfl) (by kernel_rfl) ?_; refine vc_slices_EqualFunc___blindstamp_api_Op___blindstamp_api_Op_blindstamp_api_Op_blindstamp_api_Op_ _ _ _ _ _ fun g => ?_
  have h1 := hx.len
  have h2 := hy.len
  by_cases hlm : l.length = m.length
  · have h2' : m.length = l.length := hlm.symm
    have hlm' : (m.length : Int) = l.length := by omega
    have go := eqF_loop hx hy hl hlm ha hb (Q := fun v H => handed env 126 v H (aB (sameOs l m))) l m 0 0 [] rfl rfl (by omega) rfl (by simp (maxDischargeDepth := 12) [Fr_cons, Fr_consK, Fr.nil, Fr_put, new_ne, ne_new, new_ne1, ne_new1, get_new, get_new1, gen_put', *]) (fun v H' e => by subst e; simp)
    clear hlm
    simp [new_ne, ne_new, new_ne1, ne_new1, gen_put', *, VC_slices_EqualFunc___blindstamp_api_Op___blindstamp_api_Op_blindstamp_api_Op_blindstamp_api_Op_]
    all_goals exact go
  · have e : sameOs l m = false := by
      cases h : sameOs l m with
      | false => rfl
      | true => exact absurd (by simpa using congrArg List.length (sameOs_eq h)) hlm
    have hlm' : ¬ (l.length : Int) = m.length := by omega
    simp [new_ne, ne_new, new_ne1, ne_new1, gen_put', *, VC_slices_EqualFunc___blindstamp_api_Op___blindstamp_api_Op_blindstamp_api_Op_blindstamp_api_Op_]
def sameM (a b : Mai) : Bool := decide (a.kind = b.kind) && (decide (a.user = b.user) && (decide (a.serial = b.serial) && (decide (a.code = b.code) && (decide (a.fromN = b.fromN) && (decide (a.total = b.total) && (decide (a.asked = b.asked) &&
  (decide (a.t0 = b.t0) && (decide (a.t1 = b.t1) && (decide (a.t2 = b.t2) && decide (a.t3 = b.t3))))))))))
theorem sameM_refl (a : Mai) : sameM a a = true := by simp [sameM]
theorem s_MailSame {x y : AV} {l m : List (Opn × AV)} (hx : Sl 17 (encOs l) x) (hy : Sl 17 (encOs m) y) (hl : l.length < 100000) (ha : ∀ p ∈ l, okO p) (hb : ∀ p ∈ m, okO p) (a b : Mai) :
    limf env 73 [a.val x, b.val y] = some (aB (sameM a b && sameOs l m)) := by
  refine limf_of (fn := Try.f73) (c := bd_mail_Same) rfl (by kernel_rfl) (by kernel_rfl) (by kernel_rfl) (by kernel_rfl) ?_; refine vc_mail_Same _ _ _ _ fun g => ?_
  have hq := s_EqF hx hy hl ha hb
  have hr := hx.r
  have hr2 := hy.r
  obtain ⟨a_1, a_2, a_3, a_4, a_5, a_6, a_7, a_8, a_9, a_10, a_11⟩ := a
  obtain ⟨b_1, b_2, b_3, b_4, b_5, b_6, b_7, b_8, b_9, b_10, b_11⟩ := b
  unfold sameM Mai.val
  have hrf : (∀ r i j, refNeV x (.ptr r i j) = true) ∧ ∀ r i j, refNeV y (.ptr r i j) = true := by
    constructor
    · rcases hx with ⟨rfl, _⟩ | ⟨c, rfl, _⟩ <;> exact fun _ _ _ => rfl
    · rcases hy with ⟨rfl, _⟩ | ⟨c, rfl, _⟩ <;> exact fun _ _ _ => rfl
  obtain ⟨hrf, hrf2⟩ := hrf
  cases c1 : decide (a_1 = b_1) with
  | false => simp [new_ne, ne_new, new_ne1, ne_new1, gen_put', *, VC_mail_Same, eqA, eqFs, eqRep]
  | true =>
  cases c2 : decide (a_2 = b_2) with
  | false => simp [new_ne, ne_new, new_ne1, ne_new1, gen_put', *, VC_mail_Same, eqA, eqFs, eqRep]
  | true =>
  cases c3 : decide (a_3 = b_3) with
  | false => simp [new_ne, ne_new, new_ne1, ne_new1, gen_put', *, VC_mail_Same, eqA, eqFs, eqRep]
  | true =>
  cases c4 : decide (a_4 = b_4) with
  | false => simp [new_ne, ne_new, new_ne1, ne_new1, gen_put', *, VC_mail_Same, eqA, eqFs, eqRep]
  | true =>
  cases c5 : decide (a_5 = b_5) with
  | false => simp [new_ne, ne_new, new_ne1, ne_new1, gen_put', *, VC_mail_Same, eqA, eqFs, eqRep]
  | true =>
  cases c6 : decide (a_6 = b_6) with
  | false => simp [new_ne, ne_new, new_ne1, ne_new1, gen_put', *, VC_mail_Same, eqA, eqFs, eqRep]
  | true =>
  cases c7 : decide (a_7 = b_7) with
  | false => simp [new_ne, ne_new, new_ne1, ne_new1, gen_put', *, VC_mail_Same, eqA, eqFs, eqRep]
  | true =>
  cases c8 : (decide (a_8 = b_8) && (decide (a_9 = b_9) && (decide (a_10 = b_10) && decide (a_11 = b_11)))) with
  | false => simp [new_ne, ne_new, new_ne1, ne_new1, gen_put', *, VC_mail_Same, eqA, eqFs, eqRep]
  | true => simp [new_ne, ne_new, new_ne1, ne_new1, gen_put', *, VC_mail_Same, eqA, eqFs, eqRep]
end Go.Proofs.Ytehkjjcdkbcebaa
