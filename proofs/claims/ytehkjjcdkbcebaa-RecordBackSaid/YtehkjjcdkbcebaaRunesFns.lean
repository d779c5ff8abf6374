/-
  Rows of runes: what the functions answer. No statement of a seat is proved here.
-/
import Derived.Test.YtehkjjcdkbcebaaIdsFns
set_option linter.unusedVariables false
set_option linter.unusedSimpArgs false
set_option linter.unusedSectionVars false
set_option linter.unnecessarySimpa false
set_option maxRecDepth 100000
namespace Go.Proofs.Ytehkjjcdkbcebaa
open Go.Ab
attribute [local simp] depth_eq callRes_V callG_frz callG_own keep thr appRes_G appFine_n appFine_s appG_n appG_s roomB appRes_I islFine_some islG_ne List.take_of_length_le
def validB (n : Int) : Bool := (decide (0 ≤ n) && decide (n < 55296)) || (decide (57343 < n) && decide (n ≤ 1114111))
@[simp] theorem s_Valid (n : Int) : limf env 131 [.v (.int .i32 n)] = some (aB (validB n)) := by
  refine limf_of (fn := Try.f131) (c := bd_unicode_utf8_ValidRune) rfl (by kernel_rfl) (by kernel_rfl) (by kernel_rfl) (by kernel_rfl) ?_; refine vc_unicode_utf8_ValidRune _ _ _ fun g => ?_
  simp [new_ne, ne_new, new_ne1, ne_new1, gen_put', *, VC_unicode_utf8_ValidRune, validB]
  repeat' ((first | refine br_of (fun h => ?_) (fun h => ?_) | refine gQ_oft (fun h => ?_) (fun h => ?_) | refine gQ_off (fun h => ?_) (fun h => ?_) | refine gW_oft (fun h => ?_) (fun h => ?_) | refine gW_off (fun h => ?_) (fun h => ?_)) <;> (try simp only [decide_eq_true_eq, decide_eq_false_iff_not, Bool.not_eq_true', Bool.not_eq_false', Bool.and_eq_true, Bool.or_eq_true] at h) <;> (try simp [new_ne, ne_new, new_ne1, ne_new1, gen_put', *]))
  all_goals (try grind)
@[simp] theorem s_wrong (n : Int) : limf env 130 [.v (.int .i32 n)] = some (aB (!runeB n)) := by
  refine limf_of (fn := Try.f130) (c := bd_runes_CheckF1) rfl (by kernel_rfl) (by kernel_rfl) (by kernel_rfl) (by kernel_rfl) ?_; refine vc_runes_CheckF1 _ _ _ fun g => ?_
  by_cases h : n = -1
  · subst h; simp [new_ne, ne_new, new_ne1, ne_new1, gen_put', *, VC_runes_CheckF1, runeB]
  · simp [new_ne, ne_new, new_ne1, ne_new1, gen_put', *, VC_runes_CheckF1, runeB, validB]
def idxBad : List Int → Nat → Int
  | [], _ => -1
  | n :: l, k => if runeB n then idxBad l (k + 1) else k
theorem idxBad_iff (l : List Int) : ∀ k : Nat, (0 ≤ idxBad l k ↔ l.all runeB = false) := by
  induction l with
  | nil => intro k; simp [idxBad]
  | cons n l ih =>
    intro k
    unfold idxBad
    cases h : runeB n with
    | true => rw [if_pos rfl, ih, List.all_cons, h, Bool.true_and]
    | false => simp [h]
theorem wrong_loop {x0 : AV} {Q : AV → Heap → Prop} {l : List Int} (hx : Sl 1 (rows l) x0) (hl : l.length < 4611686018427387904) : ∀ (s : List Int) (k : Nat) (i : Int) (H : Heap), l.drop k = s → k ≤ l.length → i = k →
    (∀ y H', y = aI (idxBad s k) → Q y H') →
    GoL env Try.f136 0 hd_slices_IndexFunc___int32_rune__2 [(8, aI i), (0, x0), (1, .fn (.func 130) [] []), (7, aI l.length)] H Q := by
  intro s
  induction s with
  | nil =>
    rintro k i H hs hk rfl hQ
    obtain rfl := drop_nil hs hk
    refine vc_slices_IndexFunc___int32_rune__2 _ _ _ _ _ _ fun g => ?_
    simp [new_ne, ne_new, new_ne1, ne_new1, gen_put', *, VC_slices_IndexFunc___int32_rune__2]
    all_goals exact hQ _ _ rfl
  | cons b s ih =>
    rintro k i H hs hk rfl hQ
    obtain ⟨hlt, hg, hs', hg'⟩ := drop_cons hs
    refine vc_slices_IndexFunc___int32_rune__2 _ _ _ _ _ _ fun g => ?_
    have e3 := IntWalk.i64_in ((k : Int) + 1) (by omega)
    cases hb : runeB b with
    | true =>
      simp [new_ne, ne_new, new_ne1, ne_new1, gen_put', *, VC_slices_IndexFunc___int32_rune__2, hx.idx, rows, aR]
      exact ih (k + 1) _ _ hs' (by omega) (by simp) (fun y H' e => hQ y H' (by simp [e, idxBad, hb]))
    | false =>
      simp [new_ne, ne_new, new_ne1, ne_new1, gen_put', *, VC_slices_IndexFunc___int32_rune__2, hx.idx, rows, aR]
      exact hQ _ _ (by simp [idxBad, hb])
section
variable {x : AV} {l : List Int} (hx : Sl 1 (rows l) x) (hl : l.length < 4611686018427387904)
include hx hl
theorem s_IndexBad : limf env 136 [x, .fn (.func 130) [] []] = some (aI (idxBad l 0)) := by
  refine limf_of (fn := Try.f136) (c := bd_slices_IndexFunc___int32_rune_) rfl (by kernel_rfl) (by kernel_rfl) (by kernel_rfl) (by kernel_rfl) ?_; refine vc_slices_IndexFunc___int32_rune_ _ _ _ _ fun g => ?_
  have h := hx.len
  simp [new_ne, ne_new, new_ne1, ne_new1, gen_put', *, VC_slices_IndexFunc___int32_rune_]
  exact wrong_loop hx hl l 0 _ _ rfl (by omega) rfl (fun y H' e => by simp [e])
theorem s_HasBad : limf env 132 [x, .fn (.func 130) [] []] = some (aB (!l.all runeB)) := by
  refine limf_of (fn := Try.f132) (c := bd_slices_ContainsFunc___int32_rune_) rfl (by kernel_rfl) (by kernel_rfl) (by kernel_rfl) (by kernel_rfl) ?_; refine vc_slices_ContainsFunc___int32_rune_ _ _ _ _ fun g => ?_
  have h := s_IndexBad hx hl
  have e : decide (0 ≤ idxBad l 0) = !l.all runeB := by
    have := idxBad_iff l 0
    cases h : l.all runeB <;> simp [h] at this ⊢ <;> omega
  simp [new_ne, ne_new, new_ne1, ne_new1, gen_put', *, VC_slices_ContainsFunc___int32_rune_, hx.r]
theorem s_RuCheck : limf env 86 [x] = some (aI (rowE l)) := by
  refine limf_of (fn := Try.f86) (c := bd_runes_Check) rfl (by kernel_rfl) (by kernel_rfl) (by kernel_rfl) (by kernel_rfl) ?_; refine vc_runes_Check _ _ _ fun g => ?_
  have h := s_HasBad hx hl
  have h2 := hx.len
  by_cases h64 : 64 < l.length
  · have : (64 : Int) < l.length := by omega
    simp [new_ne, ne_new, new_ne1, ne_new1, gen_put', *, VC_runes_Check, rowE, hx.r]
  · have : ¬ (64 : Int) < l.length := by omega
    cases hb : l.all runeB <;> simp [new_ne, ne_new, new_ne1, ne_new1, gen_put', *, VC_runes_Check, rowE, hx.r]
end
theorem equal_loop {x0 x1 : AV} {Q : AV → Heap → Prop} {l m : List Int} (hx : Sl 1 (rows l) x0) (hy : Sl 1 (rows m) x1) (hl : l.length < 4611686018427387904) (hlm : m.length = l.length) : ∀ (s t : List Int) (k : Nat) (i : Int) (H : Heap), l.drop k = s → m.drop k = t → k ≤ l.length → i = k →
    (∀ y H', y = aB (decide (s = t)) → Q y H') →
    GoL env Try.f71 0 hd_slices_Equal___int32_int32__4 [(13, aI i), (1, x1), (0, x0), (12, aI l.length)] H Q := by
  intro s
  induction s with
  | nil =>
    rintro t k i H hs ht hk rfl hQ
    obtain rfl := drop_nil hs hk
    rw [← hlm, List.drop_length] at ht
    subst ht
    refine vc_slices_Equal___int32_int32__4 _ _ _ _ _ _ fun g => ?_
    simp [new_ne, ne_new, new_ne1, ne_new1, gen_put', *, VC_slices_Equal___int32_int32__4]
    all_goals exact hQ _ _ rfl
  | cons b s ih =>
    rintro t k i H hs ht hk rfl hQ
    obtain ⟨hlt, hg, hs', hg'⟩ := drop_cons hs
    cases t with
    | nil => have := congrArg List.length ht; simp at this; omega
    | cons c t =>
    obtain ⟨hlt2, hg2, ht', hg2'⟩ := drop_cons ht
    refine vc_slices_Equal___int32_int32__4 _ _ _ _ _ _ fun g => ?_
    have e3 := IntWalk.i64_in ((k : Int) + 1) (by omega)
    by_cases hb : b = c
    · subst hb
      simp [new_ne, ne_new, new_ne1, ne_new1, gen_put', *, VC_slices_Equal___int32_int32__4, hx.idx, hy.idx, rows, aR]
      exact ih t (k + 1) _ _ hs' ht' (by omega) (by simp) (fun y H' e => hQ y H' (by simp [e]))
    · simp [new_ne, ne_new, new_ne1, ne_new1, gen_put', *, VC_slices_Equal___int32_int32__4, hx.idx, hy.idx, rows, aR]
      all_goals exact hQ _ _ (by simp [hb])
section
variable {x y : AV} {l m : List Int} (hx : Sl 1 (rows l) x) (hy : Sl 1 (rows m) y) (hl : l.length < 4611686018427387904)
include hx hy hl
theorem s_RuEqual : limf env 71 [x, y] = some (aB (decide (l = m))) := by
  refine limf_of (fn := Try.f71) (c := bd_slices_Equal___int32_int32_) rfl (by kernel_rfl) (by kernel_rfl) (by kernel_rfl) (by kernel_rfl) ?_; refine vc_slices_Equal___int32_int32_ _ _ _ _ fun g => ?_
  have h1 := hx.len
  have h2 := hy.len
  by_cases h : m.length = l.length
  · have h' : (m.length : Int) = l.length := by omega
    simp [new_ne, ne_new, new_ne1, ne_new1, gen_put', *, VC_slices_Equal___int32_int32_]
    exact equal_loop hx hy hl h l m 0 0 _ rfl rfl (by omega) rfl (fun y H' e => by simp [e])
  · have h' : ¬ (l.length : Int) = m.length := by omega
    have hne : l ≠ m := fun e => h (by rw [e])
    have h'' : ¬ (m.length : Int) = l.length := by omega
    simp [new_ne, ne_new, new_ne1, ne_new1, gen_put', *, VC_slices_Equal___int32_int32_]
end
end Go.Proofs.Ytehkjjcdkbcebaa
