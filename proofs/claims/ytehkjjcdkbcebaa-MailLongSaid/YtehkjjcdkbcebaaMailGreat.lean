/-
  Mail that is not great. No statement of a seat is proved here.
-/
import Derived.Test.YtehkjjcdkbcebaaMailPut
set_option linter.unusedVariables false
set_option linter.unusedSimpArgs false
set_option linter.unusedSectionVars false
set_option linter.unnecessarySimpa false
set_option maxRecDepth 100000
namespace Go.Proofs.Ytehkjjcdkbcebaa
open Go.Ab
attribute [local simp] depth_eq callRes_V callG_frz callG_own keep thr appRes_G appFine_n appFine_s appG_n appG_s roomB appRes_I islFine_some islG_ne List.take_of_length_le
def smallM (l : List (Opn × AV)) : Prop := l.length ≤ 10 ∧ ∀ p ∈ l, p.1.l.length ≤ 500
theorem g10_loop {x : AV} {l : List (Opn × AV)} (hx : Sl 17 (encOs l) x) (ha : ∀ p ∈ l, Sl 1 (rows p.1.l) p.2) (m : Mai) {r1 : Ref} {H : Heap} (h1 : H.get r1 = some (m.blk x)) {Q : AV → Heap → Prop} :
    ∀ (s : List (Opn × AV)) (k : Nat) (i : Int), l.drop k = s → k ≤ l.length → i = k → k ≤ 20 → (∀ p ∈ l.take k, p.1.l.length ≤ 500) → (∀ b, (b = false → smallM l) → Q (aB b) H) →
    GoL env Try.f32 0 hd_blindstampref10_Great_2 [(3, aI i), (1, .ptr r1 0 0)] H Q := by
  intro s
  have hlen := hx.len
  induction s with
  | nil =>
    rintro k i hs hk rfl h20 hall hQ
    obtain rfl := drop_nil hs hk
    rw [List.take_length] at hall
    have hQ' := hQ (decide ((10 : Int) < l.length)) (fun h => ⟨by rw [decide_eq_false_iff_not] at h; omega, hall⟩)
    clear hQ
    unfold Mai.blk at h1
    refine vc_blindstampref10_Great_2 _ _ _ _ fun g => ?_
    simp [new_ne, ne_new, new_ne1, ne_new1, gen_put', *, VC_blindstampref10_Great_2]
    all_goals exact hQ'
  | cons p s ih =>
    rintro k i hs hk rfl h20 hall hQ
    obtain ⟨hlt, hg, hs', hg'⟩ := drop_cons hs
    refine vc_blindstampref10_Great_2 _ _ _ _ fun g => ?_
    unfold Mai.blk at h1
    by_cases hk20 : (k : Int) < 20
    · have hp := ha p (hg ▸ List.getElem_mem _)
      have e3 := IntWalk.i64_in ((k : Int) + 1) (by omega)
      have ih' := fun (h : p.1.l.length ≤ 500) => ih (k + 1) ((k : Int) + 1) hs' (by omega) (by simp) (by omega) (fun q hq => by
        rw [List.take_add_one, hg'] at hq
        rcases List.mem_append.1 hq with hq | hq
        · exact hall q hq
        · simp at hq; rw [hq]; exact h) hQ
      have hpr := hp.r
      have hQt := hQ true (fun h => by cases h)
      clear ih hQ hall hp ha
      obtain ⟨⟨a_1, ⟨a_2, a_3, a_4⟩, a_5, ⟨⟨⟨a_6, a_7, a_8⟩, a_9⟩, a_10⟩, ⟨⟨a_11, a_12, a_13⟩, a_14⟩, ⟨a_15, a_16⟩, al⟩, xa⟩ := p
      simp only at ih' hpr
      by_cases h5 : (500 : Int) < al.length
      · clear ih'
        simp [new_ne, ne_new, new_ne1, ne_new1, gen_put', *, VC_blindstampref10_Great_2, hx.idx, encOs, encO]
        all_goals exact hQt
      · have ih' := ih' (by omega)
        clear hQt
        simp [new_ne, ne_new, new_ne1, ne_new1, gen_put', *, VC_blindstampref10_Great_2, hx.idx, encOs, encO]
        all_goals exact ih'
    · have h10 : (10 : Int) < l.length := by omega
      have hQt := hQ true (fun h => by cases h)
      clear ih hQ hall ha
      simp [new_ne, ne_new, new_ne1, ne_new1, gen_put', *, VC_blindstampref10_Great_2]
      all_goals exact hQt
theorem s_Great {x : AV} {l : List (Opn × AV)} (hx : Sl 17 (encOs l) x) (ha : ∀ p ∈ l, Sl 1 (rows p.1.l) p.2) (m : Mai) : ∃ y, limf env 32 [m.val x] = some y ∧ ∃ b, y = aB b ∧ (b = false → smallM l) := by
  have hr := hx.r
  have main : ∀ (Q : AV → Heap → Prop), (∀ b H, (b = false → smallM l) → Q (aB b) H) → GoL env Try.f32 0 [.code bd_blindstampref10_Great] (argsL 0 [m.val x]) [] Q := by
    intro Q hQ
    have go := g10_loop hx ha m (r1 := ⟨0, 1, 0, 0⟩) (H := [(⟨0, 1, 0, 0⟩, some (m.blk x))]) rfl (Q := Q) l 0 0 rfl (by omega) rfl (by omega) (by simp) (fun b hb => hQ b _ hb)
    clear hQ
    refine vc_blindstampref10_Great _ _ _ fun g => ?_
    unfold Mai.blk at go
    unfold Mai.val
    simp [new_ne, ne_new, new_ne1, ne_new1, gen_put', *, VC_blindstampref10_Great]
    all_goals exact go
  refine limfQ_of (fn := Try.f32) (c := bd_blindstampref10_Great) rfl (by kernel_rfl) (by kernel_rfl) (by kernel_rfl) (by kernel_rfl) (main _ fun b H hb => ⟨aB b, by simp, b, rfl, hb⟩)
end Go.Proofs.Ytehkjjcdkbcebaa
