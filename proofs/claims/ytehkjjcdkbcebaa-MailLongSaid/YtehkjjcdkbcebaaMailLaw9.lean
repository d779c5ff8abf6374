/-
  How long mail is: the law's own run. No statement of a seat is proved here.
-/
import Derived.Test.YtehkjjcdkbcebaaMailLaw7
import Derived.Test.YtehkjjcdkbcebaaOpSz
import Derived.Test.YtehkjjcdkbcebaaMlVl9
set_option linter.unusedVariables false
set_option linter.unusedSimpArgs false
set_option linter.unusedSectionVars false
set_option linter.unnecessarySimpa false
set_option maxRecDepth 100000
namespace Go.Proofs.Ytehkjjcdkbcebaa
open Go.Ab
attribute [local simp] depth_eq callRes_V callG_frz callG_own keep thr appRes_G appFine_n appFine_s appG_n appG_s roomB appRes_I islFine_some islG_ne List.take_of_length_le
def sumK (l : List (Opn × AV)) : Nat := (l.map fun p => sizeK p.1).sum
theorem opsW_sum : ∀ {l : List (Opn × AV)}, (opsW l).2 = false → (opsW l).1.length = sumK l ∧ ∀ p ∈ l, opB p.1 = true
  | [], _ => ⟨rfl, fun p hp => by simp at hp⟩
  | p :: l, h => by
    have ih := @opsW_sum l
    unfold opsW at h ⊢
    split at h
    · rename_i h1
      rw [if_pos h1]
      obtain ⟨e1, e2⟩ := ih h
      refine ⟨?_, fun q hq => ?_⟩
      · simp only [List.length_append, opBytes_len h1, e1, sumK, List.map_cons, List.sum_cons]
      · rcases List.mem_cons.1 hq with rfl | hq
        · exact h1
        · exact e2 q hq
    · cases h
def headK (n : Nat) : Nat := match n with
  | 1 => 1 | 3 => 3 | 4 => 1 | 6 => 2 | 7 => 5 | 8 => 7 | 9 => 13 | 10 => 2 | _ => 0
theorem kindW_sum {n : Nat} {m : Mai} {l : List (Opn × AV)} (h : (kindW n m l).2 = false) (hl : n ≠ 2 → n ≠ 8 → l = []) : (kindW n m l).1.length = headK n + sumK l ∧ ∀ p ∈ l, opB p.1 = true := by
  have h0 : ∀ {k : Nat} {w : List UInt8}, (n ≠ 2 ∧ n ≠ 8) → w.length = k → w.length = k + sumK l ∧ ∀ p ∈ l, opB p.1 = true := fun hn hw => by
    obtain rfl := hl hn.1 hn.2
    exact ⟨by rw [hw]; rfl, fun p hp => by simp at hp⟩
  unfold kindW headK at *
  split at h
  · exact h0 (by decide) (by simp)
  · obtain ⟨e1, e2⟩ := opsW_sum h
    exact ⟨by simp only [e1]; omega, e2⟩
  · exact h0 (by decide) (by simp)
  · exact h0 (by decide) (by simp)
  · exact h0 (by decide) (by simp)
  · exact h0 (by decide) (by simp)
  · exact h0 (by decide) (by simp)
  · simp only [Bool.or_eq_false_iff] at h
    obtain ⟨e1, e2⟩ := opsW_sum h.2
    exact ⟨by simp only [List.length_append, be_len, List.length_singleton, e1]; omega, e2⟩
  · exact h0 (by decide) (by simp)
  · exact h0 (by decide) (by simp)
  · cases h
theorem put_len {m : Mai} {l : List (Opn × AV)} (h : putOk m l = true) : (kindW m.kind.toNat m l).1.length = headK m.kind.toNat + sumK l ∧ (∀ p ∈ l, opB p.1 = true) ∧ (kindW m.kind.toNat m l).1.length ≤ 899 := by
  simp only [putOk, Bool.and_eq_true, Bool.not_eq_true'] at h
  obtain ⟨⟨⟨⟨h1, h2⟩, h3⟩, h4⟩, h5⟩ := h
  have hl : m.kind.toNat ≠ 2 → m.kind.toNat ≠ 8 → l = [] := fun n2 n8 => by
    have e2 : ¬ m.kind = 2 := fun h => n2 (by rw [h]; rfl)
    have e8 : ¬ m.kind = 8 := fun h => n8 (by rw [h]; rfl)
    simpa [manyB, e2, e8] using h2
  obtain ⟨e1, e2⟩ := kindW_sum h3 hl
  refine ⟨e1, e2, ?_⟩
  have hw := kindW_len h3
  cases hg : getM (m.kind :: (kindW m.kind.toNat m l).1) with
  | none => rw [hg] at h5; cases h5
  | some s =>
    obtain ⟨m', l'⟩ := s
    rw [hg] at h5
    simp only [backB, Bool.and_eq_true] at h5
    obtain ⟨b2, b3, -⟩ := getM_ok hg
    have hmp := congrArg List.length (sameOs_eq h5.2)
    simp only [List.length_map] at hmp
    omega
theorem sumK_take {l : List (Opn × AV)} {k : Nat} {p : Opn × AV} (h : l[k]? = some p) : sumK (l.take (k + 1)) = sumK (l.take k) + sizeK p.1 := by
  unfold sumK
  rw [List.take_add_one, h]
  simp
theorem sumK_le (l : List (Opn × AV)) (k : Nat) : sumK (l.take k) ≤ sumK l := by
  have h : sumK (l.take k ++ l.drop k) = sumK (l.take k) + sumK (l.drop k) := by simp only [sumK, List.map_append, List.sum_append]
  rw [List.take_append_drop] at h
  omega
theorem l9_loop {x1 x2 z1 z2 : AV} {l1 l2 : List (Opn × AV)} {b1 b2 : List UInt8} {c : Nat} (hx1 : Sl 17 (encOs l1) x1) (hx2 : Sl 17 (encOs l2) x2) (hz1 : Sl 1 (by8 b1) z1) (hz2 : Sl 1 (by8 b2) z2)
    (hl : l1.length = l2.length) (hb1 : b1.length = c + 1 + sumK l1) (hb2 : b2.length = c + 1 + sumK l2) (h9 : b1.length ≤ 900) (ho1 : ∀ p ∈ l1, opB p.1 = true) (h10 : l1.length ≤ 10) (m1 m2 : Mai)
    {r1 r2 : Ref} {H : Heap} (h1 : H.get r1 = some (m1.blk x1)) (h2 : H.get r2 = some (m2.blk x2)) {Q : AV → Heap → Prop} (hQ : Q (aB true) H) :
    ∀ (s : List (Opn × AV)) (k : Nat) (i t : Int), l1.drop k = s → k ≤ l1.length → i = k → t = (sumK (l1.take k) : Nat) → sumK (l1.take k) = sumK (l2.take k) →
    GoL env Try.f9 0 hd_blindstamplaw10_MailLong_10 [(5, aB true), (11, aI i), (2, .ptr r1 0 0), (10, aI t), (3, .ptr r2 0 0), (6, z1), (8, z2)] H Q := by
  intro s
  have hlen := hx1.len
  have hzr1 := hz1.r
  have hzr2 := hz2.r
  induction s with
  | nil =>
    rintro k i t hs hk rfl rfl he
    obtain rfl := drop_nil hs hk
    rw [List.take_length, hl, List.take_length] at he
    rw [List.take_length]
    have e1 : b1.length = b2.length := by omega
    have e2 : (b1.length : Int) ≤ 900 := by omega
    have e3 : ((sumK l1 : Nat) : Int) < b1.length := by omega
    rw [by8_len, ← e1] at hzr2
    clear ho1 hx2 hb2 hb1 he e1
    unfold Mai.blk at h1 h2
    refine vc_blindstamplaw10_MailLong_10 _ _ _ _ _ _ _ _ _ fun g => ?_
    simp [new_ne, ne_new, new_ne1, ne_new1, gen_put', *, VC_blindstamplaw10_MailLong_10]
    all_goals exact hQ
  | cons p s ih =>
    rintro k i t hs hk rfl rfl he
    obtain ⟨hlt, hg, hs', hg'⟩ := drop_cons hs
    obtain ⟨q, hq⟩ : ∃ q, l2[k]? = some q := ⟨l2[k]'(by omega), List.getElem?_eq_getElem _⟩
    have hlt2 : k < l2.length := by omega
    have hgq : l2[k] = q := by rw [List.getElem?_eq_getElem hlt2] at hq; exact Option.some.inj hq
    have hop := ho1 p (hg ▸ List.getElem_mem _)
    have hsz := s_OpSizeB hop
    have hsk := sizeK_le hop
    have hsum := sumK_take hg'
    have hsle := sumK_le l1 (k + 1)
    have e3 := IntWalk.i64_in ((k : Int) + 1) (by have := hlt; omega)
    have e4 := IntWalk.i64_in ((sumK (l1.take k) : Nat) + (sizeK p.1 : Nat) : Int) (by omega)
    have hs2 := sumK_take hq
    have ih' := fun (h : p.1.kind = q.1.kind) (h' : p.1.s.many = q.1.s.many) => ih (k + 1) ((k : Int) + 1) ((sumK (l1.take k) : Nat) + (sizeK p.1 : Nat)) hs' (by omega) (by simp) (by rw [hsum]; simp) (by
      rw [hsum, hs2, he]; unfold sizeK; rw [h, h'])
    clear ih ho1 hop hsk hsum hsle hs2 he hb1 hb2
    unfold Mai.blk at h1 h2
    obtain ⟨⟨a_1, ⟨a_2, a_3, a_4⟩, a_5, ⟨⟨⟨a_6, a_7, a_8⟩, a_9⟩, a_10⟩, ⟨⟨a_11, a_12, a_13⟩, a_14⟩, ⟨a_15, a_16⟩, al⟩, xa⟩ := p
    obtain ⟨⟨b_1, ⟨b_2, b_3, b_4⟩, b_5, ⟨⟨⟨b_6, b_7, b_8⟩, b_9⟩, b_10⟩, ⟨⟨b_11, b_12, b_13⟩, b_14⟩, ⟨b_15, b_16⟩, bl⟩, xb⟩ := q
    simp only at ih' hsz e4
    generalize sizeK _ = sk at *
    refine vc_blindstamplaw10_MailLong_10 _ _ _ _ _ _ _ _ _ fun g => ?_
    by_cases c1 : a_1 = b_1
    · by_cases c2 : a_10 = b_10
      · have ih' := ih' c1 c2
        subst c1 c2
        simp [new_ne, ne_new, new_ne1, ne_new1, gen_put', *, VC_blindstamplaw10_MailLong_10, hx1.idx, hx2.idx, encOs, encO]
        all_goals exact ih'
      · clear ih'
        simp [new_ne, ne_new, new_ne1, ne_new1, gen_put', *, VC_blindstamplaw10_MailLong_10, hx1.idx, hx2.idx, encOs, encO]
        all_goals exact hQ
    · clear ih'
      simp [new_ne, ne_new, new_ne1, ne_new1, gen_put', *, VC_blindstamplaw10_MailLong_10, hx1.idx, hx2.idx, encOs, encO]
      all_goals exact hQ
theorem long_law9 {x1 x2 : AV} {l1 l2 : List (Opn × AV)} (m1 m2 : Mai) (hx1 : Sl 17 (encOs l1) x1) (ha1 : ∀ p ∈ l1, Sl 1 (rows p.1.l) p.2) (hx2 : Sl 17 (encOs l2) x2) (ha2 : ∀ p ∈ l2, Sl 1 (rows p.1.l) p.2) :
    limf env 9 [m1.val x1, m2.val x2] = some (aB true) := by
  refine limf_of (fn := Try.f9) (c := bd_blindstamplaw10_MailLong) rfl (by kernel_rfl) (by kernel_rfl) (by kernel_rfl) (by kernel_rfl) ?_; refine vc_blindstamplaw10_MailLong _ _ _ _ fun g => ?_
  have al : limf env 31 [] = some (aB true) := limf_spec rfl
  have hxr1 := hx1.r
  have hxr2 := hx2.r
  obtain ⟨_, hgr1, gb1, rfl, hsm1⟩ := s_Great hx1 ha1 m1
  obtain ⟨_, hgr2, gb2, rfl, hsm2⟩ := s_Great hx2 ha2 m2
  unfold Mai.val at hgr1 hgr2 ⊢
  cases gb1 with
  | true => simp [new_ne, ne_new, new_ne1, ne_new1, gen_put', *, VC_blindstamplaw10_MailLong]
  | false =>
  cases gb2 with
  | true => simp [new_ne, ne_new, new_ne1, ne_new1, gen_put', *, VC_blindstamplaw10_MailLong]
  | false =>
  obtain ⟨hl10, hl5⟩ := hsm1 rfl
  obtain ⟨hk10, hk5⟩ := hsm2 rfl
  have hok1 : ∀ p ∈ l1, okO p := fun p hp => ⟨ha1 p hp, by have := hl5 p hp; omega⟩
  have hok2 : ∀ p ∈ l2, okO p := fun p hp => ⟨ha2 p hp, by have := hk5 p hp; omega⟩
  obtain ⟨y1, hput1, hp1⟩ := s_MailPut hx1 hl10 hok1 m1
  obtain ⟨y2, hput2, hp2⟩ := s_MailPut hx2 hk10 hok2 m2
  unfold Mai.val at hput1 hput2
  have aux : ∀ {m : Mai} {l : List (Opn × AV)} {y : AV}, putIs m l y → (y = .tup [aNil, aI 8]) ∨ ∃ z b, y = .tup [z, aI 0] ∧ Sl 1 (by8 b) z ∧ putOk m l = true ∧ b.length = headK m.kind.toNat + 1 + sumK l ∧ b.length ≤ 900 := by
    intro m l y h
    unfold putIs at h
    split at h
    · rename_i ho
      obtain ⟨z, rfl, hz⟩ := h
      obtain ⟨e1, e2, e3⟩ := put_len ho
      exact .inr ⟨z, _, rfl, hz, ho, by rw [List.length_cons, e1]; omega, by rw [List.length_cons]; omega⟩
    · exact .inl h
  rcases aux hp1 with rfl | ⟨z1, b1, rfl, hz1, ho1, hb1, h91⟩
  · rcases aux hp2 with rfl | ⟨z2, b2, rfl, hz2, ho2, hb2, h92⟩
    · clear hp1 hp2 hsm1 hsm2 hl5 hk5 hok1 hok2
      simp [new_ne, ne_new, new_ne1, ne_new1, gen_put', *, VC_blindstamplaw10_MailLong]
    · have hzr2 := hz2.r
      have : (b2.length : Int) ≤ 900 := by omega
      clear hp1 hp2 hsm1 hsm2 hl5 hk5 hok1 hok2 hb2
      simp [new_ne, ne_new, new_ne1, ne_new1, gen_put', *, VC_blindstamplaw10_MailLong]
  · have hzr1 := hz1.r
    have hi1 : (b1.length : Int) ≤ 900 := by omega
    rcases aux hp2 with rfl | ⟨z2, b2, rfl, hz2, ho2, hb2, h92⟩
    · clear hp1 hp2 hsm1 hsm2 hl5 hk5 hok1 hok2 hb1
      simp [new_ne, ne_new, new_ne1, ne_new1, gen_put', *, VC_blindstamplaw10_MailLong]
    · have hzr2 := hz2.r
      have hi2 : (b2.length : Int) ≤ 900 := by omega
      obtain ⟨-, hob, -⟩ := put_len ho1
      by_cases ck : m1.kind = m2.kind
      · by_cases cl : l1.length = l2.length
        · have hb2' : b2.length = headK m1.kind.toNat + 1 + sumK l2 := by rw [ck]; exact hb2
          have go := fun (r1 r2 : Ref) (H : Heap) h1 h2 => l9_loop hx1 hx2 hz1 hz2 cl hb1 hb2' h91 hob hl10 m1 m2 (r1 := r1) (r2 := r2) (H := H) h1 h2 (Q := fun x H => handed env 9 x H (aB true)) (by simp) l1 0 0 0 rfl (by omega) rfl (by simp [sumK]) (by simp [sumK])
          have go1 := go ⟨0, 2, 0, 0⟩ ⟨0, 3, 0, 0⟩
          clear go hp1 hp2 hsm1 hsm2 hl5 hk5 hok1 hok2 hb2 hb1 hob hz1 hz2 hx1 hx2 ho1 ho2 hb2'
          have cli : (l1.length : Int) = l2.length := by omega
          unfold Mai.blk at go1
          rw [ck] at go1 hput1 hgr1
          rw [ck]
          clear ck
          simp [new_ne, ne_new, new_ne1, ne_new1, gen_put', *, VC_blindstamplaw10_MailLong]
          all_goals (refine go1 _ ?_ ?_ <;> rfl)
        · have cli : ¬ (l1.length : Int) = l2.length := by omega
          rw [ck] at hput1 hgr1
          rw [ck]
          clear ck
          clear hp1 hp2 hsm1 hsm2 hl5 hk5 hok1 hok2 hb1 hb2 hob ho1 ho2
          simp [new_ne, ne_new, new_ne1, ne_new1, gen_put', *, VC_blindstamplaw10_MailLong]
      · clear hp1 hp2 hsm1 hsm2 hl5 hk5 hok1 hok2 hb1 hb2 hob ho1 ho2
        simp [new_ne, ne_new, new_ne1, ne_new1, gen_put', *, VC_blindstamplaw10_MailLong]
end Go.Proofs.Ytehkjjcdkbcebaa
