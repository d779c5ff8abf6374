/-
  Mail: operations read. No statement of a seat is proved here.
-/
import Derived.Test.YtehkjjcdkbcebaaMailRd
set_option linter.unusedVariables false
set_option linter.unusedSimpArgs false
set_option linter.unusedSectionVars false
set_option linter.unnecessarySimpa false
set_option maxRecDepth 100000
namespace Go.Proofs.Ytehkjjcdkbcebaa
open Go.Ab
attribute [local simp] depth_eq callRes_V callG_frz callG_own keep thr appRes_G appFine_n appFine_s appG_n appG_s roomB appRes_I islFine_some islG_ne List.take_of_length_le
def opR (st : RSt) : RSt := st.bind fun (l, m, ol) => if getOk l then some (l.drop (sizeR l), m, ol ++ [(rawO l, runG (rawO l).l)]) else none
def opsR : Nat → RSt → RSt
  | 0, st => st
  | k + 1, st => opsR k (opR st)
theorem opsR_none (k : Nat) : opsR k none = none := by
  induction k with
  | zero => rfl
  | succ k ih => exact ih
theorem opr_step (dep : Nat) {H : Heap} {r rm : Ref} {l : List UInt8} {m : Mai} {ol : List (Opn × AV)} (hM : MR H r rm l false m ol) (k : Nat) (w : Int) (hw : (k : Int) < w) (hk : k < 1000) (hol : ol.length < 1000) {Q : AV → Heap → Prop}
    (hQ : ∀ H', MRo H' r rm (opR (some (l, m, ol))) → (∀ p k, p.t ≠ 79 → p ≠ r → p ≠ rm → H.get p = some k → H'.get p = some k) → GoL env Try.f116 (dep + 1) hd___blindstamp_mail_pen__ops_1 [(6, aI ((k : Int) + 1)), (0, .ptr r 0 0), (1, .ptr rm 0 11), (2, aI w)] H' Q) :
    GoL env Try.f116 (dep + 1) hd___blindstamp_mail_pen__ops_1 [(6, aI k), (0, .ptr r 0 0), (1, .ptr rm 0 11), (2, aI w)] H Q := by
  refine vc___blindstamp_mail_pen__ops_1 _ _ _ _ _ _ _ fun g => ?_
  obtain ⟨⟨xb, ⟨box, sl, few⟩⟩, ⟨xo, mail, ops⟩, hF, hne, s1, s2⟩ := hM
  have hget := s_OpGet sl (by omega)
  have l1 : (H.get r).isSome = true := by rw [box]; rfl
  have l3 : (H.get rm).isSome = true := by rw [mail]; rfl
  have hne' := hne.symm
  have hr := sl.r
  have w2 := IntWalk.i64_in ((k : Int) + 1) (by omega)
  have hw' : ((k : Int) < w) = True := by simp [hw]
  clear hw
  cases hg : getOk l with
  | false =>
    have e : opR (some (l, m, ol)) = none := by simp [opR, hg]
    rw [e] at hQ
    clear e
    have hQ' : ∀ H', (∃ l m ol, MR H' r rm l true m ol) → (∀ p k, p.t ≠ 79 → p ≠ r → p ≠ rm → H.get p = some k → H'.get p = some k) → GoL env Try.f116 (dep + 1) hd___blindstamp_mail_pen__ops_1 [(6, aI ((k : Int) + 1)), (0, .ptr r 0 0), (1, .ptr rm 0 11), (2, aI w)] H' Q := hQ
    clear hQ
    rw [getAns, hg, if_neg (by decide), getZ] at hget
    unfold Mai.blk at mail
    simp [new_ne, ne_new, new_ne1, ne_new1, gen_put', *, VC___blindstamp_mail_pen__ops_1]
    refine hQ' _ ⟨l, m, ol, ⟨⟨xb, ⟨?_, sl, few⟩⟩, ⟨xo, ?_, ?_⟩, (by simp (maxDischargeDepth := 12) [Heap.get_put, Fr_cons, Fr_consK, Fr.nil, Fr_put, new_ne, ne_new, new_ne1, ne_new1, get_new, get_new1, gen_put', *]), hne, s1, s2⟩⟩ (fun p b h79 hp1 hp2 hb => ?_)
    · simp [Heap.get_put, new_ne, ne_new, *]
    · unfold Mai.blk; simp [Heap.get_put, new_ne, ne_new, *]
    · refine ops.old s1 s2 fun p b hp1 hp2 hb => ?_
      have lp : (H.get p).isSome = true := by rw [hb]; rfl
      have hp1' := hp1.symm
      simp [Heap.get_put, new_ne, ne_new, *]
    · have lp : (H.get p).isSome = true := by rw [hb]; rfl
      have hp1' := hp1.symm
      simp [Heap.get_put, new_ne, ne_new, *]
  | true =>
    have e : opR (some (l, m, ol)) = some (l.drop (sizeR l), m, ol ++ [(rawO l, runG (rawO l).l)]) := by simp [opR, hg]
    rw [e] at hQ
    clear e
    obtain ⟨_, _, hsz, _⟩ := bytes_raw hg
    rw [getAns, hg, if_pos rfl] at hget
    have e8 : ∀ n, (by8 l).drop n = by8 (l.drop n) := fun n => by simp [by8]
    generalize sizeR l = sz at *
    have hrl := (runG_sl (rawO l).l).r
    have hrv := runG_cases (rawO l).l
    have hQ' : ∀ H', MR H' r rm (l.drop sz) false m (ol ++ [(rawO l, runG (rawO l).l)]) → (∀ p k, p.t ≠ 79 → p ≠ r → p ≠ rm → H.get p = some k → H'.get p = some k) → GoL env Try.f116 (dep + 1) hd___blindstamp_mail_pen__ops_1 [(6, aI ((k : Int) + 1)), (0, .ptr r 0 0), (1, .ptr rm 0 11), (2, aI w)] H' Q := hQ
    clear hQ hg
    generalize rawO l = o at *
    generalize runG o.l = rl at *
    obtain ⟨a_1, ⟨a_2, a_3, a_4⟩, a_5, ⟨⟨⟨a_6, a_7, a_8⟩, a_9⟩, a_10⟩, ⟨⟨a_11, a_12, a_13⟩, a_14⟩, ⟨a_15, a_16⟩, al⟩ := o
    simp only [opnV, List.cons_append, List.nil_append] at hget
    clear hrv
    have hsf := fun g => slice_from (P := env.P) (t := 34) (z := 1) (by kernel_rfl) g sl (n := (sz : Int)) (by omega) (by simp; omega)
    have hrf : (∀ r i j, refNeV xb (.ptr r i j) = true) ∧ ∀ r a b c, refNeV (.osl r a b c) xb = true := by
      rcases sl with ⟨rfl, _⟩ | ⟨c, rfl, _⟩ <;> exact ⟨fun _ _ _ => rfl, fun _ _ _ _ => rfl⟩
    obtain ⟨hrf, hrf2⟩ := hrf
    unfold Mai.blk at mail
    rcases ops with ⟨rfl, rfl⟩ | ⟨qo, rfl, hqo, hq79, hqn⟩
    · simp [new_ne, ne_new, new_ne1, ne_new1, gen_put', *, VC___blindstamp_mail_pen__ops_1]
      obtain ⟨xd, hxd, hxS⟩ := hsf _
      refine doQ_of hxd ?_
      rw [Int.toNat_natCast, e8] at hxS
      have hrd := hxS.r
      clear hxd hsf e8 hget box
      simp [new_ne, ne_new, new_ne1, ne_new1, gen_put', *, Heap.get_put]
      refine hQ' _ ⟨⟨xd, ⟨?_, hxS, by simp; omega⟩⟩, ⟨.osl ⟨dep + 1, 79, H.gen (dep + 1) 79, 0⟩ 0 1 none, ?_, .inr ⟨⟨dep + 1, 79, H.gen (dep + 1) 79, 0⟩, rfl, ?_, rfl, by simp⟩⟩, (by simp (maxDischargeDepth := 12) [Heap.get_put, Fr_cons, Fr_consK, Fr.nil, Fr_put, new_ne, ne_new, new_ne1, ne_new1, get_new, get_new1, gen_put', *]), hne, s1, s2⟩ (fun p b h79 hp1 hp2 hb => ?_)
      · simp [Heap.get_put, new_ne, ne_new, *]
      · unfold Mai.blk; simp [Heap.get_put, new_ne, ne_new, *]
      · simp [Heap.get_put, new_ne, ne_new, encOs, encO, *]
      · have lp : (H.get p).isSome = true := by rw [hb]; rfl
        have hp1' := hp1.symm
        have hp2' := hp2.symm
        simp [Heap.get_put, new_ne, ne_new, *]
    · have hq1 : qo ≠ r := by rintro rfl; exact s2 hq79
      have hq2 : qo ≠ rm := by rintro rfl; exact s1 hq79
      have hq1' := hq1.symm
      have hq2' := hq2.symm
      have l4 : (H.get qo).isSome = true := by rw [hqo]; rfl
      have f1 : (ol.length + 1) * 112 ≤ 140737488355328 := by omega
      have f2 : (encOs ol).length = ol.length := by simp
      simp [new_ne, ne_new, new_ne1, ne_new1, gen_put', *, VC___blindstamp_mail_pen__ops_1]
      obtain ⟨xd, hxd, hxS⟩ := hsf _
      refine doQ_of hxd ?_
      rw [Int.toNat_natCast, e8] at hxS
      have hrd := hxS.r
      clear hxd hsf e8 hget box
      simp [new_ne, ne_new, new_ne1, ne_new1, gen_put', *, Heap.get_put]
      refine hQ' _ ⟨⟨xd, ⟨?_, hxS, by simp; omega⟩⟩, ⟨.osl ⟨qo.d, 79, H.gen qo.d 79, 0⟩ 0 (ol.length + 1) none, ?_, .inr ⟨⟨qo.d, 79, H.gen qo.d 79, 0⟩, by simp, ?_, rfl, by simp⟩⟩, (by simp (maxDischargeDepth := 12) [Heap.get_put, Fr_cons, Fr_consK, Fr.nil, Fr_put, new_ne, ne_new, new_ne1, ne_new1, get_new, get_new1, gen_put', *]), hne, s1, s2⟩ (fun p b h79 hp1 hp2 hb => ?_)
      · simp [Heap.get_put, new_ne, ne_new, *]
      · unfold Mai.blk; simp [Heap.get_put, new_ne, ne_new, *]
      · simp [Heap.get_put, new_ne, ne_new, encOs, encO, *]
      · have lp : (H.get p).isSome = true := by rw [hb]; rfl
        have hp1' := hp1.symm
        have hp2' := hp2.symm
        have hpq : p ≠ qo := by rintro rfl; exact h79 hq79
        have hpq' := hpq.symm
        simp [Heap.get_put, new_ne, ne_new, *]
theorem ops_r_done (dep : Nat) {r rm : Ref} {w : Int} {Q : AV → Heap → Prop} (i : Int) {H : Heap} (hM : MRo H r rm none) (hQ : ∀ y, Q y H) : GoL env Try.f116 (dep + 1) hd___blindstamp_mail_pen__ops_1 [(6, aI i), (0, .ptr r 0 0), (1, .ptr rm 0 11), (2, aI w)] H Q := by
  refine vc___blindstamp_mail_pen__ops_1 _ _ _ _ _ _ _ fun g => ?_
  obtain ⟨l, m, ol, ⟨⟨xb, ⟨box, sl, few⟩⟩, _, _, _, _, _⟩⟩ := hM
  by_cases hi : i < w
  · simp [new_ne, ne_new, new_ne1, ne_new1, gen_put', *, VC___blindstamp_mail_pen__ops_1]
  · simp [new_ne, ne_new, new_ne1, ne_new1, gen_put', *, VC___blindstamp_mail_pen__ops_1]
theorem MR.putpen {H : Heap} {r rm : Ref} {l : List UInt8} {bad : Bool} {m : Mai} {ol : List (Opn × AV)} (h : MR H r rm l bad m ol) (bad' : Bool) {xb : AV} (hx : H.get r = some ⟨3, [.agg [xb, aB true, aB bad]], false, false⟩) : MR (H.put r (some ⟨3, [.agg [xb, aB true, aB bad']], false, false⟩)) r rm l bad' m ol := by
  obtain ⟨⟨xb', ⟨box, sl, few⟩⟩, ⟨xo, mail, ops⟩, fr, hne, s1, s2⟩ := h
  have e : xb = xb' := by rw [hx] at box; simp at box; exact box
  subst e
  exact ⟨⟨xb, ⟨by rw [Heap.get_put, if_pos rfl], sl, few⟩⟩, ⟨xo, by rw [Heap.get_put, if_neg hne]; exact mail, ops.old s1 s2 fun p b hp _ h => by rw [Heap.get_put, if_neg hp]; exact h⟩, Fr_put fr (by rw [hx]; rfl) _, hne, s1, s2⟩
theorem OpsAt.len {H : Heap} {xo : AV} {ol : List (Opn × AV)} (h : OpsAt H xo ol) : lenAV xo = some ol.length := by
  rcases h with ⟨rfl, rfl⟩ | ⟨qo, rfl, _⟩
  · rfl
  · simp
theorem ops_r_loop (dep : Nat) {r rm : Ref} {w : Int} {Q : AV → Heap → Prop} :
    ∀ (n k : Nat) (i : Int) (st : RSt) (H : Heap), w = (k + n : Nat) → k + n < 1000 → i = k → (∀ l m ol, st = some (l, m, ol) → ol.length ≤ k) → MRo H r rm st →
    (∀ y H', MRo H' r rm (opsR n st) → (∀ p k, p.t ≠ 79 → p ≠ r → p ≠ rm → H.get p = some k → H'.get p = some k) → Q y H') →
    GoL env Try.f116 (dep + 1) hd___blindstamp_mail_pen__ops_1 [(6, aI i), (0, .ptr r 0 0), (1, .ptr rm 0 11), (2, aI w)] H Q := by
  intro n
  induction n with
  | zero =>
    rintro k i st H hw hk rfl hol hM hQ
    cases st with
    | none => exact ops_r_done dep _ hM fun y => hQ y H hM fun p k _ _ _ h => h
    | some s =>
      obtain ⟨l, m, ol⟩ := s
      have hQ' := fun y => hQ y H hM fun p k _ _ _ h => h
      clear hQ
      obtain ⟨⟨xb, ⟨box, sl, few⟩⟩, _, _, _, _, _⟩ := (hM : MR H r rm l false m ol)
      have hw' : ¬ ((k : Int) < w) := by omega
      refine vc___blindstamp_mail_pen__ops_1 _ _ _ _ _ _ _ fun g => ?_
      simp [new_ne, ne_new, new_ne1, ne_new1, gen_put', *, VC___blindstamp_mail_pen__ops_1]
  | succ n ih =>
    rintro k i st H hw hk rfl hol hM hQ
    cases st with
    | none => exact ops_r_done dep _ hM fun y => hQ y H (by rw [opsR_none]; exact hM) fun p k _ _ _ h => h
    | some s =>
      obtain ⟨l, m, ol⟩ := s
      have ho := hol l m ol rfl
      refine opr_step dep (hM : MR H r rm l false m ol) k w (by omega) (by omega) (by omega) fun H' hM' ho' => ?_
      refine ih (k + 1) _ (opR (some (l, m, ol))) H' (by omega) (by omega) (by simp) (fun l' m' ol' e => ?_) hM' fun y H2 hM2 ho2 => hQ y H2 hM2 fun p k h79 hp hr h => ho2 p k h79 hp hr (ho' p k h79 hp hr h)
      simp only [opR, Option.bind_some] at e
      split at e
      · cases e; simp; omega
      · cases e
theorem ops_r (dep : Nat) {H : Heap} {r rm : Ref} {st : RSt} (hM : MRo H r rm st) {w : Int} (n : Nat) (hw : w = n) (hn : n < 1000) (hol : ∀ l m ol, st = some (l, m, ol) → ol = []) :
    ∃ y H', limt env dep (.fn 116) [.ptr r 0 0, .ptr rm 0 11, aI w] H = some (y, H') ∧ RdW H H' r rm (opsR n st) := by
  refine limtQ_of (fn := Try.f116) (c := bd___blindstamp_mail_pen__ops) (by kernel_rfl) (by kernel_rfl) (by kernel_rfl) (by kernel_rfl) (by kernel_rfl) ?_
  refine vc___blindstamp_mail_pen__ops _ _ _ _ _ _ fun g => ?_
  exact ops_r_loop dep n 0 _ st H (by omega) (by omega) rfl (fun l m ol e => by rw [hol l m ol e]; exact Nat.le_refl _) hM fun y H' hM' ho => ⟨hM', ho⟩
theorem ops_rb (dep : Nat) {H : Heap} {r rm : Ref} (hM : MRo H r rm none) (w : Int) :
    ∃ y H', limt env dep (.fn 116) [.ptr r 0 0, .ptr rm 0 11, aI w] H = some (y, H') ∧ RdW H H' r rm none := by
  refine limtQ_of (fn := Try.f116) (c := bd___blindstamp_mail_pen__ops) (by kernel_rfl) (by kernel_rfl) (by kernel_rfl) (by kernel_rfl) (by kernel_rfl) ?_
  refine vc___blindstamp_mail_pen__ops _ _ _ _ _ _ fun g => ?_
  exact ops_r_done dep _ hM fun y => ⟨hM, fun p k _ _ _ h => h⟩
theorem rd_submit (dep : Nat) {H : Heap} {r rm : Ref} {st : RSt} (hM : MRo H r rm st) (hol : ∀ l m ol, st = some (l, m, ol) → ol = []) :
    ∃ y H', limt env dep (.fn 115) [.ptr r 0 0, .ptr rm 0 0] H = some (y, H') ∧ RdW H H' r rm (opsR 1 st) := by
  refine limtQ_of (fn := Try.f115) (c := bd_mail_kindsF4) (by kernel_rfl) (by kernel_rfl) (by kernel_rfl) (by kernel_rfl) (by kernel_rfl) ?_
  refine vc_mail_kindsF4 _ _ _ _ _ fun g => ?_
  have hT := callRes_T (f := 116) (by kernel_rfl)
  obtain ⟨y, H', hy, hd⟩ := ops_r (dep + 1) hM (w := 1) 1 rfl (by omega) hol
  clear hM
  simp [new_ne, ne_new, new_ne1, ne_new1, gen_put', *, VC_mail_kindsF4, hT]
def pageR (st : RSt) : RSt := st.bind fun (l, m, ol) => if l.length < 1 then none else if 3 < val (l.take 1) then none else opsR (val (l.take 1)).toNat (some (l.drop 1, m, ol))
theorem rd_page (dep : Nat) {H : Heap} {r rm : Ref} {st : RSt} (hM : MRo H r rm st) (hol : ∀ l m ol, st = some (l, m, ol) → ol = []) :
    ∃ y H', limt env dep (.fn 124) [.ptr r 0 0, .ptr rm 0 0] H = some (y, H') ∧ RdW H H' r rm (pageR (rN 3 (fun m v => { m with total := v }) (rN 3 (fun m v => { m with fromN := v }) st))) := by
  refine limtQ_of (fn := Try.f124) (c := bd_mail_kindsF10) (by kernel_rfl) (by kernel_rfl) (by kernel_rfl) (by kernel_rfl) (by kernel_rfl) ?_
  refine vc_mail_kindsF10 _ _ _ _ _ fun g => ?_
  have hN := callRes_T (f := 114) (by kernel_rfl)
  have hT := callRes_T (f := 116) (by kernel_rfl)
  simp [new_ne, ne_new, new_ne1, ne_new1, gen_put', *, VC_mail_kindsF10, hN]
  refine num_mr (dep + 1) hM (fun m v => { m with fromN := v }) (fun m xo => cell_fromN rm m xo) (fun m => ⟨m.fromN, rfl⟩) 3 rfl (.inr (.inr rfl)) fun y1 H1 hM1 ho1 => ?_
  have hol1 : ∀ l m ol, rN 3 (fun m v => { m with fromN := v }) st = some (l, m, ol) → ol = [] := by
    intro l m ol e
    cases st with
    | none => cases e
    | some s =>
      simp only [rN, Option.bind_some] at e
      split at e
      · cases e
      · cases e; exact hol _ _ _ rfl
  generalize rN 3 (fun m v => { m with fromN := v }) st = st1 at *
  simp [hN]
  refine num_mr (dep + 1) hM1 (fun m v => { m with total := v }) (fun m xo => cell_total rm m xo) (fun m => ⟨m.total, rfl⟩) 3 rfl (.inr (.inr rfl)) fun y2 H2 hM2 ho2 => ?_
  have hol2 : ∀ l m ol, rN 3 (fun m v => { m with total := v }) st1 = some (l, m, ol) → ol = [] := by
    intro l m ol e
    cases st1 with
    | none => cases e
    | some s =>
      simp only [rN, Option.bind_some] at e
      split at e
      · cases e
      · cases e; exact hol1 _ _ _ rfl
  generalize rN 3 (fun m v => { m with total := v }) st1 = st2 at *
  have ho12 : ∀ p k, p.t ≠ 79 → p ≠ r → p ≠ rm → H.get p = some k → H2.get p = some k := fun p k h79 hp hr h => ho2 p k hp hr (ho1 p k hp hr h)
  clear hM hM1 ho1 ho2 hol hol1
  obtain ⟨l, m, ol, ⟨⟨xb, hP⟩, ⟨xo, hm, ops⟩, fr, hne, s1, s2⟩⟩ := hM2.any
  have l1 : (H2.get r).isSome = true := by rw [hP.box]; rfl
  have l2 : (H2.get rm).isSome = true := by rw [hm]; rfl
  unfold Mai.blk at hm
  have hne' := hne.symm
  have hlen := ops.len
  simp [hN, *]
  refine num_br (dep + 1) (hM2.cons _ _ _) (rn := ⟨dep + 1, 4, H2.gen (dep + 1) 4, 0⟩) (n := (ol.length : Int)) (by simp) (live_ne fr l1 _ _ _) (live_ne fr l2 _ _ _) (show (4 : Nat) ≠ 79 by decide) 1 rfl (.inl rfl) fun y H5 v hM5 hn5 hv1 hv2 hv3 ho5 => ?_
  have ne4 := live_ne fr l1 (dep + 1) 4 0
  have ho : ∀ p k, p.t ≠ 79 → p ≠ r → p ≠ rm → H.get p = some k → H5.get p = some k := fun p k h79 hp hr h => by
    have h2 := ho12 p k h79 hp hr h
    have lp : (H2.get p).isSome = true := by rw [h2]; rfl
    exact ho5 p k hp (live_ne fr lp _ _ _).symm (by rw [Heap.get_cons, if_neg (live_ne fr lp _ _ _)]; exact h2)
  clear hM2 ho12 ho5 hm hP ops hlen
  generalize hr4 : (⟨dep + 1, 4, H2.gen (dep + 1) 4, 0⟩ : Ref) = r4 at *
  clear hr4
  obtain ⟨l5, m5, ol5, hR5⟩ := hM5.any
  obtain ⟨xb5, hP5⟩ := hR5.pen
  obtain ⟨xo5, hm5, hops5⟩ := hR5.mail
  have box5 := hP5.box
  have l5' : (H5.get r).isSome = true := by rw [box5]; rfl
  -- the rest, by what was read
  have toBad : ∀ bad, (rN 1 (fun m _ => m) st2).isNone = bad → MRo (H5.put r (some ⟨3, [.agg [xb5, aB true, aB true]], false, false⟩)) r rm none := by
    rintro bad rfl
    exact ⟨l5, m5, ol5, hR5.putpen true box5⟩
  have oldP : ∀ b p k, p.t ≠ 79 → p ≠ r → p ≠ rm → H.get p = some k → (H5.put r b).get p = some k := fun b p k h79 hp hr h => by
    rw [Heap.get_put, if_neg hp]; exact ho p k h79 hp hr h
  have bads : pageR st2 = none → ∀ w, ∃ y H7, limt env (dep + 1) (.fn 116) [.ptr r 0 0, .ptr rm 0 11, aI w] (H5.put r (some ⟨3, [.agg [xb5, aB true, aB true]], false, false⟩)) = some (y, H7) ∧ RdW H H7 r rm (pageR st2) := by
    intro e w
    obtain ⟨y, H7, hy, hd⟩ := ops_rb (dep + 1) (toBad _ rfl) w
    rw [e]
    exact ⟨y, H7, hy, hd.mr, fun p k h79 hp hr h => hd.old p k h79 hp hr (oldP _ p k h79 hp hr h)⟩
  unfold Mai.blk at hm5
  cases hb : (rN 1 (fun m _ => m) st2) with
  | none =>
    have e : pageR st2 = none := by
      cases st2 with
      | none => rfl
      | some s =>
        simp only [rN, Option.bind_some] at hb
        split at hb
        · rename_i h
          show (if s.1.length < 1 then none else _) = none
          rw [if_pos h]
        · cases hb
    obtain ⟨y7, H7, hy7, hd7⟩ := bads e v
    rw [hb] at box5 toBad
    rw [e] at hd7 ⊢
    clear bads toBad hb hM5 hR5 hP5 hv1 hv2 hv3
    simp only [Option.isNone_none] at box5
    simp [hT, *]
  | some s5 =>
    rw [hb] at box5 hM5 hR5
    cases st2 with
    | none => cases hb
    | some s =>
      obtain ⟨l0, m0, ol0⟩ := s
      obtain rfl := hol2 _ _ _ rfl
      have hl1 : ¬ l0.length < 1 := by
        intro h
        simp only [rN, Option.bind_some, if_pos h] at hb
        cases hb
      obtain rfl : s5 = (l0.drop 1, m0, []) := by
        simp only [rN, Option.bind_some, if_neg hl1] at hb
        cases hb; rfl
      have hv := hv1 _ _ _ rfl (by omega)
      have hvb := val_bound (l0.take 1)
      by_cases h3 : 3 < v
      · have e : pageR (some (l0, m0, [])) = none := by
          show (if l0.length < 1 then none else if 3 < val (l0.take 1) then none else _) = none
          rw [if_neg hl1, ← hv, if_pos h3]
        obtain ⟨y7, H7, hy7, hd7⟩ := bads e v
        rw [e] at hd7 ⊢
        clear bads toBad hb hM5 hR5 hP5 hv1 hv2 hv3 hv hvb
        simp only [Option.isNone_some] at box5
        simp [hT, *]
      · have e : pageR (some (l0, m0, [])) = opsR v.toNat (some (l0.drop 1, m0, [])) := by
          show (if l0.length < 1 then none else if 3 < val (l0.take 1) then none else opsR (val (l0.take 1)).toNat _) = _
          rw [if_neg hl1, ← hv, if_neg h3]
        have hM6 : MRo (H5.put r (some ⟨3, [.agg [xb5, aB true, aB false]], false, false⟩)) r rm (some (l0.drop 1, m0, [])) :=
          MR.putpen (hM5 : MR H5 r rm (l0.drop 1) false m0 []) false (by simpa using box5)
        obtain ⟨y7, H7, hy7, hd⟩ := ops_r (dep + 1) hM6 (w := v) v.toNat (by omega) (by omega) (fun _ _ _ e => by cases e; rfl)
        have hd7 : RdW H H7 r rm (pageR (some (l0, m0, []))) := by
          rw [e]
          exact ⟨hd.mr, fun p k h79 hp hr h => hd.old p k h79 hp hr (oldP _ p k h79 hp hr h)⟩
        clear bads toBad hb hM5 hR5 hP5 hv1 hv2 hv3 hv hvb e hd hM6
        simp only [Option.isNone_some] at box5
        simp [hT, *]
end Go.Proofs.Ytehkjjcdkbcebaa
