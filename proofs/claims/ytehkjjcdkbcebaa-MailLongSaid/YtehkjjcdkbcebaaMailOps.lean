/-
  Mail: what a kind writes that has many parts. No statement of a seat is proved here.
-/
import Derived.Test.YtehkjjcdkbcebaaMailFns
import Derived.Test.YtehkjjcdkbcebaaOpGet
import Derived.Test.YtehkjjcdkbcebaaOpPutA
import Derived.Test.YtehkjjcdkbcebaaOpRead2
set_option linter.unusedVariables false
set_option linter.unusedSimpArgs false
set_option linter.unusedSectionVars false
set_option linter.unnecessarySimpa false
set_option maxRecDepth 100000
namespace Go.Proofs.Ytehkjjcdkbcebaa
open Go.Ab
attribute [local simp] depth_eq callRes_V callG_frz callG_own keep thr appRes_G appFine_n appFine_s appG_n appG_s roomB appRes_I islFine_some islG_ne List.take_of_length_le
theorem do_toldN (dep : Nat) {H : Heap} {r rm : Ref} {bs : List UInt8} {bad : Bool} {m : Mai} {xo : AV} (hM : MW H r rm bs bad (m.blk xo)) (hfew : bs.length < 800000) :
    ∃ y H', limt env dep (.fn 125) [.ptr r 0 0, .ptr rm 0 0] H = some (y, H') ∧ DoW H H' r rm (bs ++ ([m.asked] ++ (be 3 m.t0 ++ (be 3 m.t1 ++ (be 3 m.t2 ++ be 3 m.t3))))) (bad || (numBad 3 m.t0 || (numBad 3 m.t1 || (numBad 3 m.t2 || numBad 3 m.t3)))) (m.blk xo) := by
  refine limtQ_of (fn := Try.f125) (c := bd_mail_kindsF11) (by kernel_rfl) (by kernel_rfl) (by kernel_rfl) (by kernel_rfl) (by kernel_rfl) ?_
  refine vc_mail_kindsF11 _ _ _ _ _ fun g => ?_
  have hT := callRes_T (f := 119) (by kernel_rfl)
  have hN := callRes_T (f := 114) (by kernel_rfl)
  obtain ⟨y1, H1, hy1, hM1, ho1⟩ := do_asked (dep + 1) hM (by omega)
  simp [new_ne, ne_new, new_ne1, ne_new1, gen_put', *, VC_mail_kindsF11, hT]
  clear hy1
  refine vc_mail_kindsF11_2 _ _ _ _ _ _ fun g => ?_
  simp [new_ne, ne_new, new_ne1, ne_new1, gen_put', *, VC_mail_kindsF11_2, hN]
  refine num_mw (dep + 1) hM1 (cell_t0 rm m xo) rfl (by simp; omega) 3 rfl (.inr (.inr rfl)) fun y H2 hM2 ho2 => ?_
  simp [hN]
  refine vc_mail_kindsF11_2 _ _ _ _ _ _ fun g => ?_
  simp [new_ne, ne_new, new_ne1, ne_new1, gen_put', *, VC_mail_kindsF11_2, hN]
  refine num_mw (dep + 1) hM2 (cell_t1 rm m xo) rfl (by simp; omega) 3 rfl (.inr (.inr rfl)) fun y H3 hM3 ho3 => ?_
  simp [hN]
  refine vc_mail_kindsF11_2 _ _ _ _ _ _ fun g => ?_
  simp [new_ne, ne_new, new_ne1, ne_new1, gen_put', *, VC_mail_kindsF11_2, hN]
  refine num_mw (dep + 1) hM3 (cell_t2 rm m xo) rfl (by simp; omega) 3 rfl (.inr (.inr rfl)) fun y H4 hM4 ho4 => ?_
  simp [hN]
  refine vc_mail_kindsF11_2 _ _ _ _ _ _ fun g => ?_
  simp [new_ne, ne_new, new_ne1, ne_new1, gen_put', *, VC_mail_kindsF11_2, hN]
  refine num_mw (dep + 1) hM4 (cell_t3 rm m xo) rfl (by simp; omega) 3 rfl (.inr (.inr rfl)) fun y H5 hM5 ho5 => ?_
  simp [hN]
  refine vc_mail_kindsF11_2 _ _ _ _ _ _ fun g => ?_
  simp [new_ne, ne_new, new_ne1, ne_new1, gen_put', *, VC_mail_kindsF11_2, hN]
  simp only [List.append_assoc, Bool.or_assoc] at hM5
  exact ⟨hM5, fun p k hp hr hrm hk => ho5 p k hp hr (ho4 p k hp hr (ho3 p k hp hr (ho2 p k hp hr (ho1 p k hp hr hrm hk))))⟩
def opsW : List (Opn × AV) → List UInt8 × Bool
  | [] => ([], false)
  | p :: l => if opB p.1 then (opBytes p.1 ++ (opsW l).1, (opsW l).2) else ([], true)
theorem opw_step (dep : Nat) {H : Heap} {r rm : Ref} {bs : List UInt8} {m : Mai} {xo : AV} (hM : MW H r rm bs false (m.blk xo)) {l : List (Opn × AV)} (hx : Sl 17 (encOs l) xo) (hl : l.length < 1000) {k : Nat} (hlt : k < l.length) {p : Opn × AV} (hg : l[k]? = some p) (hg' : l[k] = p) (hp : okO p) (hfew : bs.length < 900000) (w : Int) (hw : (k : Int) < w) {Q : AV → Heap → Prop}
    (hQ : ∀ H', MW H' r rm (bs ++ if opB p.1 then opBytes p.1 else []) (!opB p.1) (m.blk xo) → (∀ p k, spot p → p ≠ r → H.get p = some k → H'.get p = some k) → GoL env Try.f116 (dep + 1) hd___blindstamp_mail_pen__ops_1 [(6, aI ((k : Int) + 1)), (0, .ptr r 0 0), (1, .ptr rm 0 11), (2, aI w)] H' Q) :
    GoL env Try.f116 (dep + 1) hd___blindstamp_mail_pen__ops_1 [(6, aI k), (0, .ptr r 0 0), (1, .ptr rm 0 11), (2, aI w)] H Q := by
  refine vc___blindstamp_mail_pen__ops_1 _ _ _ _ _ _ _ fun g => ?_
  obtain ⟨⟨q, c, ⟨box, row, ne, cap, few⟩, hq⟩, hF, mail, hne, s1⟩ := hM
  obtain ⟨⟨a_1, ⟨a_2, a_3, a_4⟩, a_5, ⟨⟨⟨a_6, a_7, a_8⟩, a_9⟩, a_10⟩, ⟨⟨a_11, a_12, a_13⟩, a_14⟩, ⟨a_15, a_16⟩, al⟩, xa⟩ := p
  obtain ⟨hp1, hp2⟩ := hp
  have hput := s_OpPut a_1 a_2 a_3 a_4 a_5 a_6 a_7 a_8 a_9 a_10 a_11 a_12 a_13 a_14 a_15 a_16 hp1 hp2
  have l1 : (H.get r).isSome = true := by rw [box]; rfl
  have l2 : (H.get q).isSome = true := by rw [row]; rfl
  have l3 : (H.get rm).isSome = true := by rw [mail]; rfl
  have ne' := ne.symm
  have hne' := hne.symm
  have hrq := spot_ne s1 hq
  have hrq' := hrq.symm
  have w2 := IntWalk.i64_in ((k : Int) + 1) (by omega)
  have hw' : ((k : Int) < w) = True := by simp [hw]
  clear hw
  simp only at hp1 hp2 hQ
  cases ho : opB (⟨a_1, ⟨a_2, a_3, a_4⟩, a_5, ⟨⟨⟨a_6, a_7, a_8⟩, a_9⟩, a_10⟩, ⟨⟨a_11, a_12, a_13⟩, a_14⟩, ⟨a_15, a_16⟩, al⟩ : Opn) with
  | false =>
    rw [putA, ho, if_neg (by decide)] at hput
    rw [ho] at hQ
    simp only [Bool.false_eq_true, if_false, List.append_nil, Bool.not_false] at hQ
    unfold Mai.blk at mail
    rcases cap with rfl | ⟨rfl, c1⟩
    all_goals
      simp [new_ne, ne_new, new_ne1, ne_new1, gen_put', *, VC___blindstamp_mail_pen__ops_1, hx.idx, encOs, encO, hp1.r]
      refine hQ _ ⟨⟨q, _, ⟨(by simp [Heap.get_put, *]; rfl), ?_, ne, ?_, few⟩, hq⟩, (by simp (maxDischargeDepth := 12) [Heap.get_put, Fr_cons, Fr_consK, Fr.nil, Fr_put, new_ne, ne_new, new_ne1, ne_new1, get_new, get_new1, gen_put', *]), ?_, hne, s1⟩ (fun p b hp1 hp2 hb => ?_)
      · simp [Heap.get_put, *]
      · first | exact .inl rfl | exact .inr ⟨rfl, c1⟩
      · unfold Mai.blk; simp [Heap.get_put, *]
      · have h3 := spot_ne hp1 hq
        simp [Heap.get_put, *]
  | true =>
    have hlen := opBytes_len ho
    have hsk := sizeK_le ho
    rw [putA, ho, if_pos rfl] at hput
    rw [ho] at hQ
    simp only [if_true, Bool.not_true] at hQ
    clear ho hp2
    have f1 : bs.length + (opBytes (⟨a_1, ⟨a_2, a_3, a_4⟩, a_5, ⟨⟨⟨a_6, a_7, a_8⟩, a_9⟩, a_10⟩, ⟨⟨a_11, a_12, a_13⟩, a_14⟩, ⟨a_15, a_16⟩, al⟩ : Opn)).length ≤ 140737488355328 := by omega
    have f2 : (bs ++ opBytes (⟨a_1, ⟨a_2, a_3, a_4⟩, a_5, ⟨⟨⟨a_6, a_7, a_8⟩, a_9⟩, a_10⟩, ⟨⟨a_11, a_12, a_13⟩, a_14⟩, ⟨a_15, a_16⟩, al⟩ : Opn)).length < 1000000 := by rw [List.length_append]; omega
    have f3 : by8 (opBytes (⟨a_1, ⟨a_2, a_3, a_4⟩, a_5, ⟨⟨⟨a_6, a_7, a_8⟩, a_9⟩, a_10⟩, ⟨⟨a_11, a_12, a_13⟩, a_14⟩, ⟨a_15, a_16⟩, al⟩ : Opn)) ≠ [] := by
      intro e
      have := congrArg List.length e
      have h3 : (by8 (opBytes (⟨a_1, ⟨a_2, a_3, a_4⟩, a_5, ⟨⟨⟨a_6, a_7, a_8⟩, a_9⟩, a_10⟩, ⟨⟨a_11, a_12, a_13⟩, a_14⟩, ⟨a_15, a_16⟩, al⟩ : Opn))).length = (opBytes (⟨a_1, ⟨a_2, a_3, a_4⟩, a_5, ⟨⟨⟨a_6, a_7, a_8⟩, a_9⟩, a_10⟩, ⟨⟨a_11, a_12, a_13⟩, a_14⟩, ⟨a_15, a_16⟩, al⟩ : Opn)).length := by simp
      simp only [List.length_nil] at this
      omega
    have f4 : c = some 1 → 1 < 1 + (opBytes (⟨a_1, ⟨a_2, a_3, a_4⟩, a_5, ⟨⟨⟨a_6, a_7, a_8⟩, a_9⟩, a_10⟩, ⟨⟨a_11, a_12, a_13⟩, a_14⟩, ⟨a_15, a_16⟩, al⟩ : Opn)).length := by omega
    have f5 : (by8 (opBytes (⟨a_1, ⟨a_2, a_3, a_4⟩, a_5, ⟨⟨⟨a_6, a_7, a_8⟩, a_9⟩, a_10⟩, ⟨⟨a_11, a_12, a_13⟩, a_14⟩, ⟨a_15, a_16⟩, al⟩ : Opn))).length = (opBytes (⟨a_1, ⟨a_2, a_3, a_4⟩, a_5, ⟨⟨⟨a_6, a_7, a_8⟩, a_9⟩, a_10⟩, ⟨⟨a_11, a_12, a_13⟩, a_14⟩, ⟨a_15, a_16⟩, al⟩ : Opn)).length := by simp
    have e8 : by8 (bs ++ opBytes (⟨a_1, ⟨a_2, a_3, a_4⟩, a_5, ⟨⟨⟨a_6, a_7, a_8⟩, a_9⟩, a_10⟩, ⟨⟨a_11, a_12, a_13⟩, a_14⟩, ⟨a_15, a_16⟩, al⟩ : Opn)) = by8 bs ++ by8 (opBytes (⟨a_1, ⟨a_2, a_3, a_4⟩, a_5, ⟨⟨⟨a_6, a_7, a_8⟩, a_9⟩, a_10⟩, ⟨⟨a_11, a_12, a_13⟩, a_14⟩, ⟨a_15, a_16⟩, al⟩ : Opn)) := by simp [by8]
    have e9 : (bs ++ opBytes (⟨a_1, ⟨a_2, a_3, a_4⟩, a_5, ⟨⟨⟨a_6, a_7, a_8⟩, a_9⟩, a_10⟩, ⟨⟨a_11, a_12, a_13⟩, a_14⟩, ⟨a_15, a_16⟩, al⟩ : Opn)).length = bs.length + (opBytes (⟨a_1, ⟨a_2, a_3, a_4⟩, a_5, ⟨⟨⟨a_6, a_7, a_8⟩, a_9⟩, a_10⟩, ⟨⟨a_11, a_12, a_13⟩, a_14⟩, ⟨a_15, a_16⟩, al⟩ : Opn)).length := by simp
    have e10 : (by8 bs).length = bs.length := by simp
    generalize opBytes (⟨a_1, ⟨a_2, a_3, a_4⟩, a_5, ⟨⟨⟨a_6, a_7, a_8⟩, a_9⟩, a_10⟩, ⟨⟨a_11, a_12, a_13⟩, a_14⟩, ⟨a_15, a_16⟩, al⟩ : Opn) = X at *
    clear hsk hlen
    unfold Mai.blk at mail
    rcases cap with rfl | ⟨rfl, c1⟩
    · obtain ⟨qd, qt, qg, qk⟩ := q
      clear f4
      simp [new_ne, ne_new, new_ne1, ne_new1, gen_put', *, VC___blindstamp_mail_pen__ops_1, hx.idx, encOs, encO, hp1.r]
      refine hQ _ ⟨⟨⟨qd, qt, H.gen qd qt, 0⟩, none, ⟨?_, ?_, ?_, .inl rfl, ?_⟩, hq⟩, (by simp (maxDischargeDepth := 12) [Heap.get_put, Fr_cons, Fr_consK, Fr.nil, Fr_put, new_ne, ne_new, new_ne1, ne_new1, get_new, get_new1, gen_put', *]), ?_, hne, s1⟩ (fun p b hp1 hp2 hb => ?_)
      · rw [e9]; simp [Heap.get_put, new_ne, ne_new, *]
      · rw [e8]; simp [Heap.get_put, new_ne, ne_new, *]
      · exact live_ne hF l1 _ _ _
      · exact f2
      · unfold Mai.blk; simp [Heap.get_put, new_ne, ne_new, *]
      · have h3 := spot_ne hp1 hq
        have h3' := h3.symm
        have lp : (H.get p).isSome = true := by rw [hb]; rfl
        have hp2' := hp2.symm
        simp [Heap.get_put, new_ne, ne_new, *]
    · have f4' : 0 < X.length := List.length_pos_iff.2 (by rintro rfl; exact f3 rfl)
      rw [c1] at f1
      clear f4
      simp [new_ne, ne_new, new_ne1, ne_new1, gen_put', *, VC___blindstamp_mail_pen__ops_1, hx.idx, encOs, encO, hp1.r]
      refine hQ _ ⟨⟨⟨dep + 1, 46, H.gen (dep + 1) 46, 0⟩, none, ⟨?_, ?_, ?_, .inl rfl, ?_⟩, .inr (.inr rfl)⟩, (by simp (maxDischargeDepth := 12) [Heap.get_put, Fr_cons, Fr_consK, Fr.nil, Fr_put, new_ne, ne_new, new_ne1, ne_new1, get_new, get_new1, gen_put', *]), ?_, hne, s1⟩ (fun p b hp1 hp2 hb => ?_)
      · rw [e9]; simp [Heap.get_put, new_ne, ne_new, *]
      · rw [e8]; simp [Heap.get_put, new_ne, ne_new, *]
      · exact live_ne hF l1 _ _ _
      · exact f2
      · unfold Mai.blk; simp [Heap.get_put, new_ne, ne_new, *]
      · have lp : (H.get p).isSome = true := by rw [hb]; rfl
        have hp2' := hp2.symm
        simp [Heap.get_put, new_ne, ne_new, *]
theorem ops_w_loop (dep : Nat) {r rm : Ref} {m : Mai} {xo : AV} {l : List (Opn × AV)} (hx : Sl 17 (encOs l) xo) (hall : ∀ p ∈ l, okO p) (hl : l.length < 1000) {Q : AV → Heap → Prop} :
    ∀ (s : List (Opn × AV)) (k : Nat) (i : Int) (bs : List UInt8) (bad : Bool) (H : Heap), l.drop k = s → k ≤ l.length → i = k → bs.length + 300 * s.length < 900000 → MW H r rm bs bad (m.blk xo) →
    (∀ y H', MW H' r rm (bs ++ if bad then [] else (opsW s).1) (bad || (opsW s).2) (m.blk xo) → (∀ p k, spot p → p ≠ r → H.get p = some k → H'.get p = some k) → Q y H') →
    GoL env Try.f116 (dep + 1) hd___blindstamp_mail_pen__ops_1 [(6, aI i), (0, .ptr r 0 0), (1, .ptr rm 0 11), (2, aI l.length)] H Q := by
  have done : ∀ (i : Int) (bs : List UInt8) (H : Heap), MW H r rm bs true (m.blk xo) → (∀ y, Q y H) → GoL env Try.f116 (dep + 1) hd___blindstamp_mail_pen__ops_1 [(6, aI i), (0, .ptr r 0 0), (1, .ptr rm 0 11), (2, aI l.length)] H Q := by
    intro i bs H hM hQ
    refine vc___blindstamp_mail_pen__ops_1 _ _ _ _ _ _ _ fun g => ?_
    obtain ⟨⟨q, c, ⟨box, row, ne, cap, few⟩, hq⟩, hF, mail, hne, s1⟩ := hM
    by_cases hi : i < l.length
    · simp [new_ne, ne_new, new_ne1, ne_new1, gen_put', *, VC___blindstamp_mail_pen__ops_1]
    · simp [new_ne, ne_new, new_ne1, ne_new1, gen_put', *, VC___blindstamp_mail_pen__ops_1]
  intro s
  induction s with
  | nil =>
    rintro k i bs bad H hs hk rfl hf hM hQ
    obtain rfl := drop_nil hs hk
    cases bad with
    | true => exact done _ _ _ hM fun y => hQ y H (by simpa using hM) fun p k _ _ h => h
    | false =>
      have hQ' := fun y => hQ y H (by simpa [opsW] using hM) fun p k _ _ h => h
      clear hQ
      refine vc___blindstamp_mail_pen__ops_1 _ _ _ _ _ _ _ fun g => ?_
      simp [new_ne, ne_new, new_ne1, ne_new1, gen_put', *, VC___blindstamp_mail_pen__ops_1]
  | cons p s ih =>
    rintro k i bs bad H hs hk rfl hf hM hQ
    obtain ⟨hlt, hg, hs', hg'⟩ := drop_cons hs
    cases bad with
    | true => exact done _ _ _ hM fun y => hQ y H (by simpa using hM) fun p k _ _ h => h
    | false =>
      have hsk : (if opB p.1 then opBytes p.1 else []).length ≤ 293 := by
        split
        · rename_i h
          have h1 := opBytes_len h
          have h2 := sizeK_le h
          omega
        · simp
      simp only [List.length_cons] at hf
      refine opw_step dep hM hx hl hlt hg' hg (hall p (hg ▸ List.getElem_mem _)) (by omega) _ (by omega) fun H' hM' ho' => ?_
      refine ih (k + 1) _ _ _ H' hs' (by omega) (by simp) (by rw [List.length_append]; omega) hM' fun y H2 hM2 ho2 => hQ y H2 ?_ fun p k hp hr h => ho2 p k hp hr (ho' p k hp hr h)
      cases hb : opB p.1 <;> simpa [hb, opsW] using hM2
theorem ops_w (dep : Nat) {H : Heap} {r rm : Ref} {bs : List UInt8} {bad : Bool} {m : Mai} {xo : AV} {l : List (Opn × AV)} (hM : MW H r rm bs bad (m.blk xo)) (hx : Sl 17 (encOs l) xo) (hall : ∀ p ∈ l, okO p) (hl : l.length < 1000) (hf : bs.length < 500000) {w : Int} (hw : w = l.length) :
    ∃ y H', limt env dep (.fn 116) [.ptr r 0 0, .ptr rm 0 11, aI w] H = some (y, H') ∧ DoW H H' r rm (bs ++ if bad then [] else (opsW l).1) (bad || (opsW l).2) (m.blk xo) := by
  subst hw
  refine limtQ_of (fn := Try.f116) (c := bd___blindstamp_mail_pen__ops) (by kernel_rfl) (by kernel_rfl) (by kernel_rfl) (by kernel_rfl) (by kernel_rfl) ?_
  refine vc___blindstamp_mail_pen__ops _ _ _ _ _ _ fun g => ?_
  exact ops_w_loop dep hx hall hl l 0 _ bs bad H rfl (by omega) rfl (by omega) hM fun y H' hM' ho => ⟨hM', fun p k hp hr _ h => ho p k hp hr h⟩
theorem do_submit (dep : Nat) {H : Heap} {r rm : Ref} {bs : List UInt8} {bad : Bool} {m : Mai} {xo : AV} {l : List (Opn × AV)} (hM : MW H r rm bs bad (m.blk xo)) (hx : Sl 17 (encOs l) xo) (hall : ∀ p ∈ l, okO p) (hl : l.length = 1) (hf : bs.length < 500000) :
    ∃ y H', limt env dep (.fn 115) [.ptr r 0 0, .ptr rm 0 0] H = some (y, H') ∧ DoW H H' r rm (bs ++ if bad then [] else (opsW l).1) (bad || (opsW l).2) (m.blk xo) := by
  refine limtQ_of (fn := Try.f115) (c := bd_mail_kindsF4) (by kernel_rfl) (by kernel_rfl) (by kernel_rfl) (by kernel_rfl) (by kernel_rfl) ?_
  refine vc_mail_kindsF4 _ _ _ _ _ fun g => ?_
  have hT := callRes_T (f := 116) (by kernel_rfl)
  obtain ⟨y, H', hy, hd⟩ := ops_w (dep + 1) hM hx hall (by omega) hf (w := 1) (by omega)
  clear hM
  simp [new_ne, ne_new, new_ne1, ne_new1, gen_put', *, VC_mail_kindsF4, hT]
theorem do_page (dep : Nat) {H : Heap} {r rm : Ref} {bs : List UInt8} {m : Mai} {xo : AV} {l : List (Opn × AV)} (hM : MW H r rm bs false (m.blk xo)) (hx : Sl 17 (encOs l) xo) (hall : ∀ p ∈ l, okO p) (hl : l.length ≤ 10) (hf : bs.length < 400000) :
    ∃ y H', limt env dep (.fn 124) [.ptr r 0 0, .ptr rm 0 0] H = some (y, H') ∧ ∃ bs', DoW H H' r rm bs' (numBad 3 m.fromN || numBad 3 m.total || decide (3 < l.length) || (opsW l).2) (m.blk xo) ∧
      ((numBad 3 m.fromN || numBad 3 m.total || decide (3 < l.length) || (opsW l).2) = false → bs' = bs ++ (be 3 m.fromN ++ (be 3 m.total ++ ([u8 (l.length : Int)] ++ (opsW l).1)))) := by
  refine limtQ_of (fn := Try.f124) (c := bd_mail_kindsF10) (by kernel_rfl) (by kernel_rfl) (by kernel_rfl) (by kernel_rfl) (by kernel_rfl) ?_
  refine vc_mail_kindsF10 _ _ _ _ _ fun g => ?_
  have hN := callRes_T (f := 114) (by kernel_rfl)
  have hT := callRes_T (f := 116) (by kernel_rfl)
  simp [new_ne, ne_new, new_ne1, ne_new1, gen_put', *, VC_mail_kindsF10, hN]
  refine num_mw (dep + 1) hM (cell_fromN rm m xo) rfl (by omega) 3 rfl (.inr (.inr rfl)) fun y1 H1 hM1 ho1 => ?_
  simp [hN]
  refine num_mw (dep + 1) hM1 (cell_total rm m xo) rfl (by simp; omega) 3 rfl (.inr (.inr rfl)) fun y2 H2 hM2 ho2 => ?_
  have hm2 := hM2.mail
  unfold Mai.blk at hm2
  have l1 : (H2.get r).isSome = true := by obtain ⟨q, c, hP, _⟩ := hM2.pen; rw [hP.box]; rfl
  have l2 : (H2.get rm).isSome = true := by rw [hm2]; rfl
  have hlen := hx.len
  clear hM hM1
  have hxr := hx.r
  simp [hN, *]
  have hw : ((l.length : Int)) = ((l.length : Nat) : Int) := rfl
  refine num_bw (dep + 1) (hM2.cons _ _ _) (rn := ⟨dep + 1, 4, H2.gen (dep + 1) 4, 0⟩) (n := (l.length : Int)) (by simp) (live_ne hM2.fr l1 _ _ _) (spot_mk _ _ _ _ (by decide)) (by simp; omega) 1 rfl (.inl rfl) fun y H3 hM3 hn3 ho3 => ?_
  have e1 : be 1 (l.length : Int) = [u8 (l.length : Int)] := by simp [be]
  have e2 : numBad 1 (l.length : Int) = false := by
    simp [numBad]; omega
  have ne4 := live_ne hM2.fr l1 (dep + 1) 4 0
  have ho : ∀ p k, spot p → p ≠ r → p ≠ rm → H.get p = some k → H3.get p = some k := fun p k hp hr _ h => ho3 p k hp hr (by
    have h2 := ho2 p k hp hr (ho1 p k hp hr h)
    rw [Heap.get_cons, if_neg (live_ne hM2.fr (by rw [h2]; rfl) _ _ _)]; exact h2)
  simp only [Bool.false_or, e1, e2, Bool.or_false] at hM3
  clear hM2 ho1 ho2 ho3 e1 e2 hm2
  generalize hr4 : (⟨dep + 1, 4, H2.gen (dep + 1) 4, 0⟩ : Ref) = r4 at *
  clear hr4
  obtain ⟨q, c, hP, hq⟩ := hM3.pen
  have box := hP.box
  have l3 : (H3.get r).isSome = true := by rw [box]; rfl
  have hM4 : MW (H3.put r (some ⟨3, [.agg [.osl q 0 (bs ++ be 3 m.fromN ++ be 3 m.total ++ [u8 (l.length : Int)]).length c, aB false, aB (numBad 3 m.fromN || numBad 3 m.total || decide (3 < l.length))]], false, false⟩)) r rm (bs ++ be 3 m.fromN ++ be 3 m.total ++ [u8 (l.length : Int)]) (numBad 3 m.fromN || numBad 3 m.total || decide (3 < l.length)) (m.blk xo) :=
    ⟨⟨q, c, ⟨by rw [Heap.get_put, if_pos rfl], by rw [Heap.get_put, if_neg hP.ne]; exact hP.row, hP.ne, hP.cap, hP.few⟩, hq⟩, Fr_put hM3.fr l3 _, by rw [Heap.get_put, if_neg hM3.ne]; exact hM3.mail, hM3.ne, hM3.s1⟩
  obtain ⟨y5, H5, hy5, hD⟩ := ops_w (dep + 1) hM4 hx hall (by omega) (by simp; omega) (w := (l.length : Int)) rfl
  have fin : DoW H H5 r rm (bs ++ be 3 m.fromN ++ be 3 m.total ++ [u8 (l.length : Int)] ++ if (numBad 3 m.fromN || numBad 3 m.total || decide (3 < l.length)) then [] else (opsW l).1) (numBad 3 m.fromN || numBad 3 m.total || decide (3 < l.length) || (opsW l).2) (m.blk xo) :=
    ⟨hD.mw, fun p k hp hr hrm h => hD.old p k hp hr hrm (by rw [Heap.get_put, if_neg hr]; exact ho p k hp hr hrm h)⟩
  have hmail := hM3.mail
  unfold Mai.blk at hmail
  have fin2 : ∃ bs', DoW H H5 r rm bs' (numBad 3 m.fromN || numBad 3 m.total || decide (3 < l.length) || (opsW l).2) (m.blk xo) ∧
      ((numBad 3 m.fromN || numBad 3 m.total || decide (3 < l.length) || (opsW l).2) = false → bs' = bs ++ (be 3 m.fromN ++ (be 3 m.total ++ ([u8 (l.length : Int)] ++ (opsW l).1)))) := by
    refine ⟨_, fin, fun h => ?_⟩
    simp only [Bool.or_eq_false_iff] at h
    obtain ⟨⟨⟨h1, h2⟩, h3⟩, _⟩ := h
    rw [h1, h2, h3]
    simp
  clear fin hD hM3 hM4 ho hP hq
  simp only [List.singleton_append] at fin2
  have hnr := ne4
  have hb3 : decide ((3 : Int) < l.length) = decide (3 < l.length) := decide_eq_decide.2 (by omega)
  generalize (bs ++ be 3 m.fromN ++ be 3 m.total ++ [u8 (l.length : Int)]).length = wl at *
  generalize (numBad 3 m.fromN || numBad 3 m.total) = nb at *
  cases nb with
  | true =>
    simp only [Bool.true_or] at hy5 fin2
    simp [hT, *]
    simpa using fin2
  | false =>
    simp only [Bool.false_or] at hy5 fin2
    simp [hT, *]
    simpa using fin2
end Go.Proofs.Ytehkjjcdkbcebaa
