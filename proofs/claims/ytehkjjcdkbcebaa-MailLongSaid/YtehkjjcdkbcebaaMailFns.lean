/-
  Mail: what a kind does with a pen. No statement of a seat is proved here.
-/
import Derived.Test.YtehkjjcdkbcebaaPenFns
import Derived.Test.YtehkjjcdkbcebaaChMath
set_option linter.unusedVariables false
set_option linter.unusedSimpArgs false
set_option linter.unusedSectionVars false
set_option linter.unnecessarySimpa false
set_option maxRecDepth 100000
namespace Go.Proofs.Ytehkjjcdkbcebaa
open Go.Ab
attribute [local simp] depth_eq callRes_V callG_frz callG_own keep thr appRes_G appFine_n appFine_s appG_n appG_s roomB appRes_I islFine_some islG_ne List.take_of_length_le
structure Mai where
  kind : UInt8
  user : Int
  serial : Int
  code : Int
  fromN : Int
  total : Int
  asked : UInt8
  t0 : Int
  t1 : Int
  t2 : Int
  t3 : Int
def Mai.blk (m : Mai) (xo : AV) : Blk := ⟨12, [.agg [a8 m.kind, aI m.user, aI m.serial, aI m.code, aI m.fromN, aI m.total, a8 m.asked, aI m.t0, aI m.t1, aI m.t2, aI m.t3, xo]], false, false⟩
theorem cell_user (rm : Ref) (m : Mai) (xo : AV) : NumCell rm 0 1 (fun v => ({ m with user := v } : Mai).blk xo) := ⟨fun g v h => by simp [Mai.blk] at h; simp [h], fun H v w h => by simp [Mai.blk] at h ⊢; simp [h]⟩
theorem cell_serial (rm : Ref) (m : Mai) (xo : AV) : NumCell rm 0 2 (fun v => ({ m with serial := v } : Mai).blk xo) := ⟨fun g v h => by simp [Mai.blk] at h; simp [h], fun H v w h => by simp [Mai.blk] at h ⊢; simp [h]⟩
theorem cell_fromN (rm : Ref) (m : Mai) (xo : AV) : NumCell rm 0 4 (fun v => ({ m with fromN := v } : Mai).blk xo) := ⟨fun g v h => by simp [Mai.blk] at h; simp [h], fun H v w h => by simp [Mai.blk] at h ⊢; simp [h]⟩
theorem cell_total (rm : Ref) (m : Mai) (xo : AV) : NumCell rm 0 5 (fun v => ({ m with total := v } : Mai).blk xo) := ⟨fun g v h => by simp [Mai.blk] at h; simp [h], fun H v w h => by simp [Mai.blk] at h ⊢; simp [h]⟩
theorem cell_t0 (rm : Ref) (m : Mai) (xo : AV) : NumCell rm 0 7 (fun v => ({ m with t0 := v } : Mai).blk xo) := ⟨fun g v h => by simp [Mai.blk] at h; simp [h], fun H v w h => by simp [Mai.blk] at h ⊢; simp [h]⟩
theorem cell_t1 (rm : Ref) (m : Mai) (xo : AV) : NumCell rm 0 8 (fun v => ({ m with t1 := v } : Mai).blk xo) := ⟨fun g v h => by simp [Mai.blk] at h; simp [h], fun H v w h => by simp [Mai.blk] at h ⊢; simp [h]⟩
theorem cell_t2 (rm : Ref) (m : Mai) (xo : AV) : NumCell rm 0 9 (fun v => ({ m with t2 := v } : Mai).blk xo) := ⟨fun g v h => by simp [Mai.blk] at h; simp [h], fun H v w h => by simp [Mai.blk] at h ⊢; simp [h]⟩
theorem cell_t3 (rm : Ref) (m : Mai) (xo : AV) : NumCell rm 0 10 (fun v => ({ m with t3 := v } : Mai).blk xo) := ⟨fun g v h => by simp [Mai.blk] at h; simp [h], fun H v w h => by simp [Mai.blk] at h ⊢; simp [h]⟩
theorem cell_box (rn : Ref) : NumCell rn 0 0 (fun v => ⟨1, [aI v], false, false⟩) := ⟨fun g v h => by simp [h], fun H v w h => by simp [h]⟩
def spot (p : Ref) : Prop := p.t ≠ 51 ∧ p.t ≠ 55 ∧ p.t ≠ 46
theorem spot_mk (d t g k : Nat) (h : t ≠ 51 ∧ t ≠ 55 ∧ t ≠ 46) : spot ⟨d, t, g, k⟩ := h
structure MW (H : Heap) (r rm : Ref) (bs : List UInt8) (bad : Bool) (b : Blk) : Prop where
  pen : ∃ q c, PenW H r q c bs bad ∧ (q.t = 51 ∨ q.t = 55 ∨ q.t = 46)
  fr : Fr H
  mail : H.get rm = some b
  ne : rm ≠ r
  s1 : spot rm
theorem spot_ne {p q : Ref} (h : spot p) (hq : q.t = 51 ∨ q.t = 55 ∨ q.t = 46) : p ≠ q := by
  rintro rfl
  obtain ⟨h1, h2, h3⟩ := h
  rcases hq with h | h | h
  · exact h1 h
  · exact h2 h
  · exact h3 h
theorem MW.cons {H : Heap} {r rm : Ref} {bs : List UInt8} {bad : Bool} {b : Blk} (h : MW H r rm bs bad b) (d t : Nat) (b0 : Option Blk) : MW ((⟨d, t, H.gen d t, 0⟩, b0) :: H) r rm bs bad b := by
  obtain ⟨⟨q, c, ⟨box, row, ne, cap, few⟩, hq⟩, fr, mail, hne, s1⟩ := h
  refine ⟨⟨q, c, ⟨?_, ?_, ne, cap, few⟩, hq⟩, fr.cons d t b0, ?_, hne, s1⟩
  · rw [Heap.get_cons, if_neg (live_ne fr (by rw [box]; rfl) _ _ _)]; exact box
  · rw [Heap.get_cons, if_neg (live_ne fr (by rw [row]; rfl) _ _ _)]; exact row
  · rw [Heap.get_cons, if_neg (live_ne fr (by rw [mail]; rfl) _ _ _)]; exact mail
theorem MW.put {H : Heap} {r rm : Ref} {bs : List UInt8} {bad : Bool} {b : Blk} (h : MW H r rm bs bad b) (b' : Blk) : MW (H.put rm (some b')) r rm bs bad b' := by
  obtain ⟨⟨q, c, ⟨box, row, ne, cap, few⟩, hq⟩, fr, mail, hne, s1⟩ := h
  refine ⟨⟨q, c, ⟨?_, ?_, ne, cap, few⟩, hq⟩, Fr_put fr (by rw [mail]; rfl) _, by rw [Heap.get_put, if_pos rfl], hne, s1⟩
  · rw [Heap.get_put, if_neg hne.symm]; exact box
  · rw [Heap.get_put, if_neg (fun e => spot_ne s1 hq e.symm)]; exact row
theorem num_mw (dep : Nat) {H : Heap} {r rm : Ref} {bs : List UInt8} {bad : Bool} {b : Blk} (hM : MW H r rm bs bad b) {ii jj : Nat} {blk : Int → Blk} {n : Int} (hN : NumCell rm ii jj blk) (hn : b = blk n) (hfew : bs.length < 900000) (many : Nat) {w : Int} (hw : w = many) (hm : many = 1 ∨ many = 2 ∨ many = 3) {K : AV → Heap → Prop} {mk : Mk K}
    (h : ∀ y H', MW H' r rm (bs ++ be many n) (bad || numBad many n) b → (∀ p k, spot p → p ≠ r → H.get p = some k → H'.get p = some k) → K y H') : doW (limt env dep (.fn 114) [.ptr r 0 0, .ptr rm ii jj, aI w] H) K mk := by
  subst hw
  obtain ⟨⟨q, c, hP, hq⟩, hF, hm', hne, hs⟩ := hM
  have h2 := spot_ne hs hq
  obtain ⟨y, H', hy, ⟨⟨q', hP', ht'⟩, hF', ho⟩⟩ := number_w dep hN (by rw [hm', hn]) hne h2 hF hP hfew many hm
  refine doW_of hy (h y H' ⟨⟨q', none, hP', ?_⟩, hF', ho rm _ hne h2 hm', hne, hs⟩ (fun p k hp hr hk => ho p k hr (spot_ne hp hq) hk))
  rcases ht' with e | e
  · rw [e]; exact hq
  · exact .inr (.inl e)
theorem num_bw (dep : Nat) {H : Heap} {r rm rn : Ref} {bs : List UInt8} {bad : Bool} {b : Blk} (hM : MW H r rm bs bad b) {n : Int} (hn : H.get rn = some ⟨1, [aI n], false, false⟩) (hr : rn ≠ r) (hsn : spot rn) (hfew : bs.length < 900000) (many : Nat) {w : Int} (hw : w = many) (hm : many = 1 ∨ many = 2 ∨ many = 3) {K : AV → Heap → Prop} {mk : Mk K}
    (h : ∀ y H', MW H' r rm (bs ++ be many n) (bad || numBad many n) b → H'.get rn = some ⟨1, [aI n], false, false⟩ → (∀ p k, spot p → p ≠ r → H.get p = some k → H'.get p = some k) → K y H') : doW (limt env dep (.fn 114) [.ptr r 0 0, .ptr rn 0 0, aI w] H) K mk := by
  subst hw
  obtain ⟨⟨q, c, hP, hq⟩, hF, hm', hne, hs⟩ := hM
  have h2 := spot_ne hsn hq
  obtain ⟨y, H', hy, ⟨⟨q', hP', ht'⟩, hF', ho⟩⟩ := number_w dep (cell_box rn) hn hr h2 hF hP hfew many hm
  refine doW_of hy (h y H' ⟨⟨q', none, hP', ?_⟩, hF', ho rm _ hne (spot_ne hs hq) hm', hne, hs⟩ (ho rn _ hr h2 hn) (fun p k hp hr hk => ho p k hr (spot_ne hp hq) hk))
  rcases ht' with e | e
  · rw [e]; exact hq
  · exact .inr (.inl e)
structure DoW (H H' : Heap) (r rm : Ref) (bs : List UInt8) (bad : Bool) (b : Blk) : Prop where
  mw : MW H' r rm bs bad b
  old : ∀ p k, spot p → p ≠ r → p ≠ rm → H.get p = some k → H'.get p = some k
section
variable (dep : Nat) {H : Heap} {r rm : Ref} {bs : List UInt8} {bad : Bool} {m : Mai} {xo : AV} (hM : MW H r rm bs bad (m.blk xo)) (hfew : bs.length < 850000)
include hM hfew
theorem do_open : ∃ y H', limt env dep (.fn 113) [.ptr r 0 0, .ptr rm 0 0] H = some (y, H') ∧ DoW H H' r rm (bs ++ be 1 m.user) (bad || numBad 1 m.user) (m.blk xo) := by
  refine limtQ_of (fn := Try.f113) (c := bd_mail_kindsF3) (by kernel_rfl) (by kernel_rfl) (by kernel_rfl) (by kernel_rfl) (by kernel_rfl) ?_
  refine vc_mail_kindsF3 _ _ _ _ _ fun g => ?_
  have hT := callRes_T (f := 114) (by kernel_rfl)
  simp [new_ne, ne_new, new_ne1, ne_new1, gen_put', *, VC_mail_kindsF3, hT]
  refine num_mw (dep + 1) hM (cell_user rm m xo) rfl (by omega) 1 rfl (.inl rfl) fun y H' hM' ho => ?_
  exact ⟨hM', fun p k hp hr _ hk => ho p k hp hr hk⟩
theorem do_pull : ∃ y H', limt env dep (.fn 118) [.ptr r 0 0, .ptr rm 0 0] H = some (y, H') ∧ DoW H H' r rm (bs ++ be 3 m.fromN) (bad || numBad 3 m.fromN) (m.blk xo) := by
  refine limtQ_of (fn := Try.f118) (c := bd_mail_kindsF6) (by kernel_rfl) (by kernel_rfl) (by kernel_rfl) (by kernel_rfl) (by kernel_rfl) ?_
  refine vc_mail_kindsF6 _ _ _ _ _ fun g => ?_
  have hT := callRes_T (f := 114) (by kernel_rfl)
  simp [new_ne, ne_new, new_ne1, ne_new1, gen_put', *, VC_mail_kindsF6, hT]
  refine num_mw (dep + 1) hM (cell_fromN rm m xo) rfl (by omega) 3 rfl (.inr (.inr rfl)) fun y H' hM' ho => ?_
  exact ⟨hM', fun p k hp hr _ hk => ho p k hp hr hk⟩
theorem do_close : ∃ y H', limt env dep (.fn 120) [.ptr r 0 0, .ptr rm 0 0] H = some (y, H') ∧ DoW H H' r rm bs bad (m.blk xo) := by
  refine limtQ_of (fn := Try.f120) (c := bd_mail_kindsF7) (by kernel_rfl) (by kernel_rfl) (by kernel_rfl) (by kernel_rfl) (by kernel_rfl) ?_
  refine vc_mail_kindsF7 _ _ _ _ _ fun g => ?_
  exact ⟨hM, fun p k _ _ _ hk => hk⟩
theorem do_told : ∃ y H', limt env dep (.fn 121) [.ptr r 0 0, .ptr rm 0 0] H = some (y, H') ∧ DoW H H' r rm (bs ++ be 2 m.code) (bad || numBad 2 m.code) (m.blk xo) := by
  refine limtQ_of (fn := Try.f121) (c := bd_mail_told) (by kernel_rfl) (by kernel_rfl) (by kernel_rfl) (by kernel_rfl) (by kernel_rfl) ?_
  refine vc_mail_told _ _ _ _ _ fun g => ?_
  have hT := callRes_T (f := 114) (by kernel_rfl)
  have hm := hM.mail
  unfold Mai.blk at hm
  simp [new_ne, ne_new, new_ne1, ne_new1, gen_put', *, VC_mail_told, hT]
  have l1 : (H.get r).isSome = true := by obtain ⟨q, c, hP, _⟩ := hM.pen; rw [hP.box]; rfl
  have l2 : (H.get rm).isSome = true := by rw [hm]; rfl
  refine num_bw (dep + 1) (hM.cons _ _ _) (rn := ⟨dep + 1, 4, H.gen (dep + 1) 4, 0⟩) (n := m.code) (by simp) (live_ne hM.fr l1 _ _ _) (spot_mk _ _ _ _ (by decide)) (by omega) 2 rfl (.inr (.inl rfl)) fun y H' hM' hn' ho => ?_
  have hm' := hM'.mail
  unfold Mai.blk at hm'
  have hput := hM'.put (m.blk xo)
  unfold Mai.blk at hput
  have hres : DoW H (H'.put rm (some (m.blk xo))) r rm (bs ++ be 2 m.code) (bad || numBad 2 m.code) (m.blk xo) := ⟨hM'.put _, fun p k hp hr hrm hk => by
    rw [Heap.get_put, if_neg hrm]
    exact ho p k hp hr (by rw [Heap.get_cons, if_neg (live_ne hM.fr (by rw [hk]; rfl) _ _ _)]; exact hk)⟩
  clear hM ho hM' hput
  unfold Mai.blk at hres
  simp [*]
  exact hres
theorem do_asked : ∃ y H', limt env dep (.fn 119) [.ptr r 0 0, .ptr rm 0 0] H = some (y, H') ∧ DoW H H' r rm (bs ++ [m.asked]) bad (m.blk xo) := by
  refine limtQ_of (fn := Try.f119) (c := bd_mail_asked) (by kernel_rfl) (by kernel_rfl) (by kernel_rfl) (by kernel_rfl) (by kernel_rfl) ?_
  refine vc_mail_asked _ _ _ _ _ fun g => ?_
  have hT := callRes_T (f := 114) (by kernel_rfl)
  have hm := hM.mail
  unfold Mai.blk at hm
  simp [new_ne, ne_new, new_ne1, ne_new1, gen_put', *, VC_mail_asked, hT]
  have l1 : (H.get r).isSome = true := by obtain ⟨q, c, hP, _⟩ := hM.pen; rw [hP.box]; rfl
  have l2 : (H.get rm).isSome = true := by rw [hm]; rfl
  have hlt := m.asked.toNat_lt
  refine num_bw (dep + 1) (hM.cons _ _ _) (rn := ⟨dep + 1, 4, H.gen (dep + 1) 4, 0⟩) (n := (m.asked.toNat : Int)) (by simp) (live_ne hM.fr l1 _ _ _) (spot_mk _ _ _ _ (by decide)) (by omega) 1 rfl (.inl rfl) fun y H' hM' hn' ho => ?_
  have e1 : be 1 (m.asked.toNat : Int) = [m.asked] := by simp [be]
  have e2 : numBad 1 (m.asked.toNat : Int) = false := by
    have : ¬ (256 ≤ m.asked.toNat) := by omega
    simp [numBad]; omega
  rw [e1, e2, Bool.or_false] at hM'
  have hm' := hM'.mail
  unfold Mai.blk at hm'
  have hres : DoW H (H'.put rm (some (m.blk xo))) r rm (bs ++ [m.asked]) bad (m.blk xo) := ⟨hM'.put _, fun p k hp hr hrm hk => by
    rw [Heap.get_put, if_neg hrm]
    exact ho p k hp hr (by rw [Heap.get_cons, if_neg (live_ne hM.fr (by rw [hk]; rfl) _ _ _)]; exact hk)⟩
  clear hM ho hM' e1 e2 hlt
  unfold Mai.blk at hres
  simp [*]
  exact hres
theorem do_answer (hfew2 : bs.length < 800000) : ∃ y H', limt env dep (.fn 122) [.ptr r 0 0, .ptr rm 0 0] H = some (y, H') ∧ DoW H H' r rm (bs ++ (be 3 m.serial ++ be 2 m.code)) (bad || (numBad 3 m.serial || numBad 2 m.code)) (m.blk xo) := by
  refine limtQ_of (fn := Try.f122) (c := bd_mail_kindsF8) (by kernel_rfl) (by kernel_rfl) (by kernel_rfl) (by kernel_rfl) (by kernel_rfl) ?_
  refine vc_mail_kindsF8 _ _ _ _ _ fun g => ?_
  have hT := callRes_T (f := 114) (by kernel_rfl)
  have hT2 := callRes_T (f := 121) (by kernel_rfl)
  simp [new_ne, ne_new, new_ne1, ne_new1, gen_put', *, VC_mail_kindsF8, hT, hT2]
  refine num_mw (dep + 1) hM (cell_serial rm m xo) rfl (by omega) 3 rfl (.inr (.inr rfl)) fun y H' hM' ho => ?_
  obtain ⟨y2, H2, hy2, hM2, ho2⟩ := do_told (dep + 1) hM' (by have := be_len 3 m.serial; simp; omega)
  rw [List.append_assoc, Bool.or_assoc] at hM2
  have hres : DoW H H2 r rm (bs ++ (be 3 m.serial ++ be 2 m.code)) (bad || (numBad 3 m.serial || numBad 2 m.code)) (m.blk xo) := ⟨hM2, fun p k hp hr hrm hk => ho2 p k hp hr hrm (ho p k hp hr hk)⟩
  clear hM hM' hM2 ho ho2
  simp [hT, hT2, hy2]
  all_goals exact hres
end
end Go.Proofs.Ytehkjjcdkbcebaa
