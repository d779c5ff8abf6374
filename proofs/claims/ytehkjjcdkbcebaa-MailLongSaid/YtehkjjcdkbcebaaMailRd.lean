/-
  Mail: what a kind reads. No statement of a seat is proved here.
-/
import Derived.Test.YtehkjjcdkbcebaaMailOps
set_option linter.unusedVariables false
set_option linter.unusedSimpArgs false
set_option linter.unusedSectionVars false
set_option linter.unnecessarySimpa false
set_option maxRecDepth 100000
namespace Go.Proofs.Ytehkjjcdkbcebaa
open Go.Ab
attribute [local simp] depth_eq callRes_V callG_frz callG_own keep thr appRes_G appFine_n appFine_s appG_n appG_s roomB appRes_I islFine_some islG_ne List.take_of_length_le
def OpsAt (H : Heap) (xo : AV) (ol : List (Opn × AV)) : Prop := (ol = [] ∧ xo = aNil) ∨ ∃ qo, xo = .osl qo 0 ol.length none ∧ H.get qo = some ⟨17, encOs ol, true, false⟩ ∧ qo.t = 79 ∧ ol ≠ []
structure MR (H : Heap) (r rm : Ref) (l : List UInt8) (bad : Bool) (m : Mai) (ol : List (Opn × AV)) : Prop where
  pen : ∃ xb, PenR H r xb l bad
  mail : ∃ xo, H.get rm = some (m.blk xo) ∧ OpsAt H xo ol
  fr : Fr H
  ne : rm ≠ r
  s1 : rm.t ≠ 79
  s2 : r.t ≠ 79
abbrev RSt := Option (List UInt8 × Mai × List (Opn × AV))
def MRo (H : Heap) (r rm : Ref) : RSt → Prop
  | some (l, m, ol) => MR H r rm l false m ol
  | none => ∃ l m ol, MR H r rm l true m ol
structure RdW (H H' : Heap) (r rm : Ref) (st : RSt) : Prop where
  mr : MRo H' r rm st
  old : ∀ p k, p.t ≠ 79 → p ≠ r → p ≠ rm → H.get p = some k → H'.get p = some k
theorem MRo.any {H : Heap} {r rm : Ref} {st : RSt} (h : MRo H r rm st) : ∃ l m ol, MR H r rm l st.isNone m ol := by
  cases st with
  | none => exact h
  | some s => exact ⟨s.1, s.2.1, s.2.2, h⟩
theorem MR.cons {H : Heap} {r rm : Ref} {l : List UInt8} {bad : Bool} {m : Mai} {ol : List (Opn × AV)} (h : MR H r rm l bad m ol) (d t : Nat) (b0 : Option Blk) : MR ((⟨d, t, H.gen d t, 0⟩, b0) :: H) r rm l bad m ol := by
  obtain ⟨⟨xb, ⟨box, sl, few⟩⟩, ⟨xo, mail, ops⟩, fr, hne, s1, s2⟩ := h
  refine ⟨⟨xb, ⟨?_, sl, few⟩⟩, ⟨xo, ?_, ?_⟩, fr.cons d t b0, hne, s1, s2⟩
  · rw [Heap.get_cons, if_neg (live_ne fr (by rw [box]; rfl) _ _ _)]; exact box
  · rw [Heap.get_cons, if_neg (live_ne fr (by rw [mail]; rfl) _ _ _)]; exact mail
  · rcases ops with h | ⟨qo, h1, h2, h3⟩
    · exact .inl h
    · exact .inr ⟨qo, h1, by rw [Heap.get_cons, if_neg (live_ne fr (by rw [h2]; rfl) _ _ _)]; exact h2, h3⟩
theorem MRo.cons {H : Heap} {r rm : Ref} {st : RSt} (h : MRo H r rm st) (d t : Nat) (b0 : Option Blk) : MRo ((⟨d, t, H.gen d t, 0⟩, b0) :: H) r rm st := by
  cases st with
  | none => obtain ⟨l, m, ol, h⟩ := h; exact ⟨l, m, ol, h.cons d t b0⟩
  | some s => exact MR.cons h d t b0
theorem OpsAt.old {H H' : Heap} {xo : AV} {ol : List (Opn × AV)} {r rm : Ref} (h : OpsAt H xo ol) (h1 : rm.t ≠ 79) (h2 : r.t ≠ 79) (ho : ∀ p b, p ≠ r → p ≠ rm → H.get p = some b → H'.get p = some b) : OpsAt H' xo ol := by
  rcases h with h | ⟨qo, e1, e2, e3, e4⟩
  · exact .inl h
  · refine .inr ⟨qo, e1, ho _ _ ?_ ?_ e2, e3, e4⟩
    · rintro rfl; exact h2 e3
    · rintro rfl; exact h1 e3
theorem MR.put {H : Heap} {r rm : Ref} {l : List UInt8} {bad : Bool} {m : Mai} {ol : List (Opn × AV)} (h : MR H r rm l bad m ol) (m' : Mai) {mm : Mai} {xo : AV} (hx : H.get rm = some (mm.blk xo)) : MR (H.put rm (some (m'.blk xo))) r rm l bad m' ol := by
  obtain ⟨⟨xb, ⟨box, sl, few⟩⟩, ⟨xo', mail, ops⟩, fr, hne, s1, s2⟩ := h
  have e : xo' = xo := by rw [hx] at mail; simp [Mai.blk] at mail; simp only [mail]
  subst e
  refine ⟨⟨xb, ⟨by rw [Heap.get_put, if_neg hne.symm]; exact box, sl, few⟩⟩, ⟨xo', by rw [Heap.get_put, if_pos rfl], ops.old s1 s2 fun p b _ hp h => by rw [Heap.get_put, if_neg hp]; exact h⟩, Fr_put fr (by rw [hx]; rfl) _, hne, s1, s2⟩
def rN (many : Nat) (set : Mai → Int → Mai) (st : RSt) : RSt := st.bind fun (l, m, ol) => if l.length < many then none else some (l.drop many, set m (val (l.take many)), ol)
theorem num_mr (dep : Nat) {H : Heap} {r rm : Ref} {st : RSt} (hM : MRo H r rm st) {j : Nat} (set : Mai → Int → Mai) (hN : ∀ m xo, NumCell rm 0 j (fun v => (set m v).blk xo)) (hget : ∀ m, ∃ n, set m n = m) (many : Nat) {w : Int} (hw : w = many) (hm : many = 1 ∨ many = 2 ∨ many = 3) {K : AV → Heap → Prop} {mk : Mk K}
    (h : ∀ y H', MRo H' r rm (rN many set st) → (∀ p k, p ≠ r → p ≠ rm → H.get p = some k → H'.get p = some k) → K y H') : doW (limt env dep (.fn 114) [.ptr r 0 0, .ptr rm 0 j, aI w] H) K mk := by
  subst hw
  obtain ⟨l, m, ol, ⟨⟨xb, hP⟩, ⟨xo, mail, ops⟩, fr, hne, s1, s2⟩⟩ := hM.any
  obtain ⟨n, hn⟩ := hget m
  obtain ⟨y, H', hy, hD⟩ := number_r dep (hN m xo) (by rw [hn]; exact mail) hne fr hP many hm
  refine doW_of hy (h y H' ?_ hD.old)
  have ops' := ops.old s1 s2 hD.old
  have hnum := hD.num
  have hpen := hD.pen
  cases st with
  | none =>
    simp only [Option.isNone_none, Bool.true_or, if_true] at hnum hpen
    exact ⟨l, m, ol, hpen, ⟨xo, by rw [hn] at hnum; exact hnum, ops'⟩, hD.fr, hne, s1, s2⟩
  | some s =>
    obtain ⟨l0, m0, ol0⟩ := s
    obtain ⟨⟨xb0, hP0⟩, ⟨xo0, mail0, ops0⟩, _, _, _, _⟩ := (hM : MR H r rm l0 false m0 ol0)
    obtain ⟨n0, hn0⟩ := hget m0
    obtain ⟨y0, H0, hy0, hD0⟩ := number_r dep (hN m0 xo0) (by rw [hn0]; exact mail0) hne fr hP0 many hm
    have e : H0 = H' := by rw [hy] at hy0; cases hy0; rfl
    subst e
    have hnum := hD0.num
    have hpen := hD0.pen
    have ops' := ops0.old s1 s2 hD0.old
    simp only [Bool.false_or, decide_eq_true_eq] at hnum hpen
    by_cases hl : l0.length < many
    · simp only [hl, if_true, decide_true] at hnum hpen
      have e : rN many set (some (l0, m0, ol0)) = none := by simp [rN, hl]
      rw [e]
      exact ⟨l0, m0, ol0, hpen, ⟨xo0, by rw [hn0] at hnum; exact hnum, ops'⟩, hD.fr, hne, s1, s2⟩
    · simp only [hl, if_false, decide_false] at hnum hpen
      have e : rN many set (some (l0, m0, ol0)) = some (l0.drop many, set m0 (val (l0.take many)), ol0) := by simp [rN, hl]
      rw [e]
      exact ⟨hpen, ⟨xo0, hnum, ops'⟩, hD.fr, hne, s1, s2⟩
theorem num_br (dep : Nat) {H : Heap} {r rm rn : Ref} {st : RSt} (hM : MRo H r rm st) {n : Int} (hn : H.get rn = some ⟨1, [aI n], false, false⟩) (hr : rn ≠ r) (hrm : rn ≠ rm) (hs : rn.t ≠ 79) (many : Nat) {w : Int} (hw : w = many) (hm : many = 1 ∨ many = 2 ∨ many = 3) {K : AV → Heap → Prop} {mk : Mk K}
    (h : ∀ y H' v, MRo H' r rm (rN many (fun m _ => m) st) → H'.get rn = some ⟨1, [aI v], false, false⟩ → (∀ l m ol, st = some (l, m, ol) → many ≤ l.length → v = val (l.take many)) → (st = none → v = n) → (∀ l m ol, st = some (l, m, ol) → l.length < many → v = n) → (∀ p k, p ≠ r → p ≠ rn → H.get p = some k → H'.get p = some k) → K y H') : doW (limt env dep (.fn 114) [.ptr r 0 0, .ptr rn 0 0, aI w] H) K mk := by
  subst hw
  cases st with
  | none =>
    obtain ⟨l, m, ol, ⟨⟨xb, hP⟩, ⟨xo, mail, ops⟩, fr, hne, s1, s2⟩⟩ := hM
    obtain ⟨y, H', hy, hD⟩ := number_r dep (cell_box rn) hn hr fr hP many hm
    have hnum := hD.num
    have hpen := hD.pen
    simp only [Bool.true_or, if_true] at hnum hpen
    exact doW_of hy (h y H' n ⟨l, m, ol, hpen, ⟨xo, hD.old _ _ hne hrm.symm mail, ops.old hs s2 hD.old⟩, hD.fr, hne, s1, s2⟩ hnum (fun _ _ _ e => by cases e) (fun _ => rfl) (fun _ _ _ e => by cases e) hD.old)
  | some s =>
    obtain ⟨l, m, ol⟩ := s
    obtain ⟨⟨xb, hP⟩, ⟨xo, mail, ops⟩, fr, hne, s1, s2⟩ := (hM : MR H r rm l false m ol)
    obtain ⟨y, H', hy, hD⟩ := number_r dep (cell_box rn) hn hr fr hP many hm
    have hnum := hD.num
    have hpen := hD.pen
    simp only [Bool.false_or, decide_eq_true_eq] at hnum hpen
    by_cases hl : l.length < many
    · simp only [hl, if_true, decide_true] at hnum hpen
      have e : rN many (fun m _ => m) (some (l, m, ol)) = none := by simp [rN, hl]
      refine doW_of hy (h y H' n ?_ hnum (fun l0 _ _ e h => by cases e; omega) (fun _ => rfl) (fun _ _ _ _ _ => rfl) hD.old)
      rw [e]
      exact ⟨l, m, ol, hpen, ⟨xo, hD.old _ _ hne hrm.symm mail, ops.old hs s2 hD.old⟩, hD.fr, hne, s1, s2⟩
    · simp only [hl, if_false, decide_false] at hnum hpen
      have e : rN many (fun m _ => m) (some (l, m, ol)) = some (l.drop many, m, ol) := by simp [rN, hl]
      refine doW_of hy (h y H' _ ?_ hnum (fun l0 _ _ e h => by cases e; rfl) (fun e => by cases e) (fun l0 _ _ e h => by cases e; exact absurd h hl) hD.old)
      rw [e]
      exact ⟨hpen, ⟨xo, hD.old _ _ hne hrm.symm mail, ops.old hs s2 hD.old⟩, hD.fr, hne, s1, s2⟩
theorem set_fin {H : Heap} {r rm : Ref} {st : RSt} {many : Nat} (hM : MRo H r rm (rN many (fun m _ => m) st)) (set : Mai → Int → Mai) {v : Int} {m : Mai} {xo : AV} (hx : H.get rm = some (m.blk xo)) (hv : ∀ l m ol, st = some (l, m, ol) → many ≤ l.length → v = val (l.take many)) :
    MRo (H.put rm (some ((set m v).blk xo))) r rm (rN many set st) := by
  cases st with
  | none =>
    obtain ⟨l, m2, ol, h⟩ := (hM : ∃ l m ol, MR H r rm l true m ol)
    exact ⟨l, _, ol, h.put (set m v) hx⟩
  | some s =>
    obtain ⟨l, m2, ol⟩ := s
    by_cases hl : l.length < many
    · have e : rN many (fun m _ => m) (some (l, m2, ol)) = none := by simp [rN, hl]
      have e2 : rN many set (some (l, m2, ol)) = none := by simp [rN, hl]
      rw [e] at hM
      rw [e2]
      obtain ⟨l, m2, ol, h⟩ := (hM : ∃ l m ol, MR H r rm l true m ol)
      exact ⟨l, _, ol, h.put (set m v) hx⟩
    · have e : rN many (fun m _ => m) (some (l, m2, ol)) = some (l.drop many, m2, ol) := by simp [rN, hl]
      have e2 : rN many set (some (l, m2, ol)) = some (l.drop many, set m2 (val (l.take many)), ol) := by simp [rN, hl]
      rw [e] at hM
      rw [e2, ← hv l m2 ol rfl (by omega)]
      have hM : MR H r rm (l.drop many) false m2 ol := hM
      obtain ⟨xo', hm', _⟩ := hM.mail
      have e3 : m2 = m := by
        rw [hx] at hm'
        obtain ⟨k, u, se, co, fr, to, a, t0, t1, t2, t3⟩ := m
        obtain ⟨k', u', se', co', fr', to', a', t0', t1', t2', t3'⟩ := m2
        simp [Mai.blk, a8] at hm'
        have e1 : k' = k := UInt8.toNat_inj.1 (by omega)
        have e2 : a' = a := UInt8.toNat_inj.1 (by omega)
        simp [hm', e1, e2]
      subst e3
      exact hM.put (set m2 v) hx
section
variable (dep : Nat) {H : Heap} {r rm : Ref} {st : RSt} (hM : MRo H r rm st)
include hM
theorem rd_open : ∃ y H', limt env dep (.fn 113) [.ptr r 0 0, .ptr rm 0 0] H = some (y, H') ∧ RdW H H' r rm (rN 1 (fun m v => { m with user := v }) st) := by
  refine limtQ_of (fn := Try.f113) (c := bd_mail_kindsF3) (by kernel_rfl) (by kernel_rfl) (by kernel_rfl) (by kernel_rfl) (by kernel_rfl) ?_
  refine vc_mail_kindsF3 _ _ _ _ _ fun g => ?_
  have hT := callRes_T (f := 114) (by kernel_rfl)
  simp [new_ne, ne_new, new_ne1, ne_new1, gen_put', *, VC_mail_kindsF3, hT]
  refine num_mr (dep + 1) hM (fun m v => { m with user := v }) (fun m xo => cell_user rm m xo) (fun m => ⟨m.user, rfl⟩) 1 rfl (.inl rfl) fun y H' hM' ho => ?_
  exact ⟨hM', fun p k _ hr hrm hk => ho p k hr hrm hk⟩
theorem rd_pull : ∃ y H', limt env dep (.fn 118) [.ptr r 0 0, .ptr rm 0 0] H = some (y, H') ∧ RdW H H' r rm (rN 3 (fun m v => { m with fromN := v }) st) := by
  refine limtQ_of (fn := Try.f118) (c := bd_mail_kindsF6) (by kernel_rfl) (by kernel_rfl) (by kernel_rfl) (by kernel_rfl) (by kernel_rfl) ?_
  refine vc_mail_kindsF6 _ _ _ _ _ fun g => ?_
  have hT := callRes_T (f := 114) (by kernel_rfl)
  simp [new_ne, ne_new, new_ne1, ne_new1, gen_put', *, VC_mail_kindsF6, hT]
  refine num_mr (dep + 1) hM (fun m v => { m with fromN := v }) (fun m xo => cell_fromN rm m xo) (fun m => ⟨m.fromN, rfl⟩) 3 rfl (.inr (.inr rfl)) fun y H' hM' ho => ?_
  exact ⟨hM', fun p k _ hr hrm hk => ho p k hr hrm hk⟩
theorem rd_close : ∃ y H', limt env dep (.fn 120) [.ptr r 0 0, .ptr rm 0 0] H = some (y, H') ∧ RdW H H' r rm st := by
  refine limtQ_of (fn := Try.f120) (c := bd_mail_kindsF7) (by kernel_rfl) (by kernel_rfl) (by kernel_rfl) (by kernel_rfl) (by kernel_rfl) ?_
  refine vc_mail_kindsF7 _ _ _ _ _ fun g => ?_
  exact ⟨hM, fun p k _ _ _ hk => hk⟩
theorem rd_told : ∃ y H', limt env dep (.fn 121) [.ptr r 0 0, .ptr rm 0 0] H = some (y, H') ∧ RdW H H' r rm (rN 2 (fun m v => { m with code := v }) st) := by
  refine limtQ_of (fn := Try.f121) (c := bd_mail_told) (by kernel_rfl) (by kernel_rfl) (by kernel_rfl) (by kernel_rfl) (by kernel_rfl) ?_
  refine vc_mail_told _ _ _ _ _ fun g => ?_
  have hT := callRes_T (f := 114) (by kernel_rfl)
  obtain ⟨l, m, ol, ⟨⟨xb, hP⟩, ⟨xo, hm, ops⟩, fr, hne, s1, s2⟩⟩ := hM.any
  have l1 : (H.get r).isSome = true := by rw [hP.box]; rfl
  have l2 : (H.get rm).isSome = true := by rw [hm]; rfl
  unfold Mai.blk at hm
  simp [new_ne, ne_new, new_ne1, ne_new1, gen_put', *, VC_mail_told, hT]
  refine num_br (dep + 1) (hM.cons _ _ _) (rn := ⟨dep + 1, 4, H.gen (dep + 1) 4, 0⟩) (n := m.code) (by simp) (live_ne fr l1 _ _ _) (live_ne fr l2 _ _ _) (show (4 : Nat) ≠ 79 by decide) 2 rfl (.inr (.inl rfl)) fun y H' v hM' hn' hv1 hv2 hv3 ho => ?_
  obtain ⟨l', m', ol', hR⟩ := hM'.any
  obtain ⟨xo', hm', _⟩ := hR.mail
  have hres : RdW H (H'.put rm (some (({ m' with code := v } : Mai).blk xo'))) r rm (rN 2 (fun m v => { m with code := v }) st) := ⟨set_fin hM' (fun m v => { m with code := v }) hm' (fun l m ol e h => hv1 l m ol e h), fun p k h79 hr hrm hk => by
    rw [Heap.get_put, if_neg hrm]
    refine ho p k hr ?_ (by rw [Heap.get_cons, if_neg (live_ne fr (by rw [hk]; rfl) _ _ _)]; exact hk)
    exact (live_ne fr (by rw [hk]; rfl) _ _ _).symm⟩
  unfold Mai.blk at hm' hres
  clear hM hM' hv1 hv2 hv3 ho hR hm ops hP
  simp [*]
  all_goals exact hres
theorem rd_asked : ∃ y H', limt env dep (.fn 119) [.ptr r 0 0, .ptr rm 0 0] H = some (y, H') ∧ RdW H H' r rm (rN 1 (fun m v => { m with asked := u8 v }) st) := by
  refine limtQ_of (fn := Try.f119) (c := bd_mail_asked) (by kernel_rfl) (by kernel_rfl) (by kernel_rfl) (by kernel_rfl) (by kernel_rfl) ?_
  refine vc_mail_asked _ _ _ _ _ fun g => ?_
  have hT := callRes_T (f := 114) (by kernel_rfl)
  obtain ⟨l, m, ol, ⟨⟨xb, hP⟩, ⟨xo, hm, ops⟩, fr, hne, s1, s2⟩⟩ := hM.any
  have l1 : (H.get r).isSome = true := by rw [hP.box]; rfl
  have l2 : (H.get rm).isSome = true := by rw [hm]; rfl
  unfold Mai.blk at hm
  simp [new_ne, ne_new, new_ne1, ne_new1, gen_put', *, VC_mail_asked, hT]
  refine num_br (dep + 1) (hM.cons _ _ _) (rn := ⟨dep + 1, 4, H.gen (dep + 1) 4, 0⟩) (n := (m.asked.toNat : Int)) (by simp) (live_ne fr l1 _ _ _) (live_ne fr l2 _ _ _) (show (4 : Nat) ≠ 79 by decide) 1 rfl (.inl rfl) fun y H' v hM' hn' hv1 hv2 hv3 ho => ?_
  obtain ⟨l', m', ol', hR⟩ := hM'.any
  obtain ⟨xo', hm', _⟩ := hR.mail
  have hres : RdW H (H'.put rm (some (({ m' with asked := u8 v } : Mai).blk xo'))) r rm (rN 1 (fun m v => { m with asked := u8 v }) st) := ⟨set_fin hM' (fun m v => { m with asked := u8 v }) hm' (fun l m ol e h => hv1 l m ol e h), fun p k h79 hr hrm hk => by
    rw [Heap.get_put, if_neg hrm]
    refine ho p k hr ?_ (by rw [Heap.get_cons, if_neg (live_ne fr (by rw [hk]; rfl) _ _ _)]; exact hk)
    exact (live_ne fr (by rw [hk]; rfl) _ _ _).symm⟩
  unfold Mai.blk at hm' hres
  clear hM hM' hv1 hv2 hv3 ho hR hm ops hP
  simp [*]
  all_goals exact hres
theorem rd_answer : ∃ y H', limt env dep (.fn 122) [.ptr r 0 0, .ptr rm 0 0] H = some (y, H') ∧ RdW H H' r rm (rN 2 (fun m v => { m with code := v }) (rN 3 (fun m v => { m with serial := v }) st)) := by
  refine limtQ_of (fn := Try.f122) (c := bd_mail_kindsF8) (by kernel_rfl) (by kernel_rfl) (by kernel_rfl) (by kernel_rfl) (by kernel_rfl) ?_
  refine vc_mail_kindsF8 _ _ _ _ _ fun g => ?_
  have hT := callRes_T (f := 114) (by kernel_rfl)
  have hT2 := callRes_T (f := 121) (by kernel_rfl)
  simp [new_ne, ne_new, new_ne1, ne_new1, gen_put', *, VC_mail_kindsF8, hT, hT2]
  refine num_mr (dep + 1) hM (fun m v => { m with serial := v }) (fun m xo => cell_serial rm m xo) (fun m => ⟨m.serial, rfl⟩) 3 rfl (.inr (.inr rfl)) fun y H' hM' ho => ?_
  obtain ⟨y2, H2, hy2, hM2, ho2⟩ := rd_told (dep + 1) hM'
  have hres : RdW H H2 r rm (rN 2 (fun m v => { m with code := v }) (rN 3 (fun m v => { m with serial := v }) st)) := ⟨hM2, fun p k h79 hr hrm hk => ho2 p k h79 hr hrm (ho p k hr hrm hk)⟩
  clear hM hM' hM2 ho ho2
  simp [hT, hT2, hy2]
  all_goals exact hres
theorem rd_toldN : ∃ y H', limt env dep (.fn 125) [.ptr r 0 0, .ptr rm 0 0] H = some (y, H') ∧ RdW H H' r rm (rN 3 (fun m v => { m with t3 := v }) (rN 3 (fun m v => { m with t2 := v }) (rN 3 (fun m v => { m with t1 := v }) (rN 3 (fun m v => { m with t0 := v }) (rN 1 (fun m v => { m with asked := u8 v }) st))))) := by
  refine limtQ_of (fn := Try.f125) (c := bd_mail_kindsF11) (by kernel_rfl) (by kernel_rfl) (by kernel_rfl) (by kernel_rfl) (by kernel_rfl) ?_
  refine vc_mail_kindsF11 _ _ _ _ _ fun g => ?_
  have hT := callRes_T (f := 119) (by kernel_rfl)
  have hN := callRes_T (f := 114) (by kernel_rfl)
  obtain ⟨y1, H1, hy1, hM1, ho1⟩ := rd_asked (dep + 1) hM
  simp [new_ne, ne_new, new_ne1, ne_new1, gen_put', *, VC_mail_kindsF11, hT]
  clear hy1
  refine vc_mail_kindsF11_2 _ _ _ _ _ _ fun g => ?_
  simp [new_ne, ne_new, new_ne1, ne_new1, gen_put', *, VC_mail_kindsF11_2, hN]
  refine num_mr (dep + 1) hM1 (fun m v => { m with t0 := v }) (fun m xo => cell_t0 rm m xo) (fun m => ⟨m.t0, rfl⟩) 3 rfl (.inr (.inr rfl)) fun y H2 hM2 ho2 => ?_
  simp [hN]
  refine vc_mail_kindsF11_2 _ _ _ _ _ _ fun g => ?_
  simp [new_ne, ne_new, new_ne1, ne_new1, gen_put', *, VC_mail_kindsF11_2, hN]
  refine num_mr (dep + 1) hM2 (fun m v => { m with t1 := v }) (fun m xo => cell_t1 rm m xo) (fun m => ⟨m.t1, rfl⟩) 3 rfl (.inr (.inr rfl)) fun y H3 hM3 ho3 => ?_
  simp [hN]
  refine vc_mail_kindsF11_2 _ _ _ _ _ _ fun g => ?_
  simp [new_ne, ne_new, new_ne1, ne_new1, gen_put', *, VC_mail_kindsF11_2, hN]
  refine num_mr (dep + 1) hM3 (fun m v => { m with t2 := v }) (fun m xo => cell_t2 rm m xo) (fun m => ⟨m.t2, rfl⟩) 3 rfl (.inr (.inr rfl)) fun y H4 hM4 ho4 => ?_
  simp [hN]
  refine vc_mail_kindsF11_2 _ _ _ _ _ _ fun g => ?_
  simp [new_ne, ne_new, new_ne1, ne_new1, gen_put', *, VC_mail_kindsF11_2, hN]
  refine num_mr (dep + 1) hM4 (fun m v => { m with t3 := v }) (fun m xo => cell_t3 rm m xo) (fun m => ⟨m.t3, rfl⟩) 3 rfl (.inr (.inr rfl)) fun y H5 hM5 ho5 => ?_
  simp [hN]
  refine vc_mail_kindsF11_2 _ _ _ _ _ _ fun g => ?_
  simp [new_ne, ne_new, new_ne1, ne_new1, gen_put', *, VC_mail_kindsF11_2, hN]
  exact ⟨hM5, fun p k h79 hr hrm hk => ho5 p k hr hrm (ho4 p k hr hrm (ho3 p k hr hrm (ho2 p k hr hrm (ho1 p k h79 hr hrm hk))))⟩
end
end Go.Proofs.Ytehkjjcdkbcebaa
