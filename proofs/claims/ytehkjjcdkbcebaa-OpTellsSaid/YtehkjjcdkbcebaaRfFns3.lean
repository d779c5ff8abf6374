/-
  The document's answers on operations' bytes: those of operations. No statement of a seat is proved here.
-/
import Derived.Test.YtehkjjcdkbcebaaRfFns2
import Derived.Test.YtehkjjcdkbcebaaOpSame
set_option linter.unusedVariables false
set_option linter.unusedSimpArgs false
set_option linter.unnecessarySimpa false
set_option maxRecDepth 100000
namespace Go.Proofs.Ytehkjjcdkbcebaa
open Go.Ab
attribute [local simp] depth_eq callRes_V callG_data callG_frz callG_own keep thr appRes_G appFine_n appFine_s appG_n appG_s roomB appRes_I islFine_some islG_ne List.take_of_length_le sB_lit

theorem app_mk13 (H : Heap) (r q : Ref) {es : List AV} {fz : Bool} (hq : H.get q = some ⟨1, es, true, fz⟩) (hm : es.length = 24) :
    appRes env.P true H r (some 34) (some 3) (.osl q 0 24 none) (aI 13) = some (.osl ⟨q.d, q.t, H.gen q.d q.t, 0⟩ 0 37 none, (⟨q.d, q.t, H.gen q.d q.t, 0⟩, some ⟨1, es ++ [a8 0, a8 0, a8 0, a8 0, a8 0, a8 0, a8 0, a8 0, a8 0, a8 0, a8 0, a8 0, a8 0], true, fz⟩) :: H.put q none) := by
  have h := appRes_makeO (P := env.P) (t := 34) (t' := 3) (by kernel_rfl) (by kernel_rfl) (by kernel_rfl) H r q 13 24 (es := es) (fz := fz) (by rw [elZ_34]; exact hq) hm.symm (by decide) (by decide) (by simp)
  rw [elZ_34] at h
  rw [h]
  have e : elZero env.P 34 = a8 0 := by kernel_rfl
  rw [e]
  rfl
theorem s_R9Bytes (a_1 : UInt8) (a_2 : UInt8) (a_3 : UInt32) (a_4 : UInt8) (a_5 : Int) (a_6 : UInt8) (a_7 : UInt32) (a_8 : UInt8) (a_9 : Int) (a_10 : Int) (a_11 : UInt8) (a_12 : UInt32) (a_13 : UInt8) (a_14 : Int) (a_15 : UInt8) (a_16 : UInt32) {x : AV} {l : List Int} (hx : Sl 1 (rows l) x) (hl : l.length < 100000) (ho : opB (⟨a_1, ⟨a_2, a_3, a_4⟩, a_5, ⟨⟨⟨a_6, a_7, a_8⟩, a_9⟩, a_10⟩, ⟨⟨a_11, a_12, a_13⟩, a_14⟩, ⟨a_15, a_16⟩, l⟩ : Opn) = true) : limf env 66 [.agg [a8 a_1, a8 a_2, a32 a_3, a8 a_4, aI a_5, a8 a_6, a32 a_7, a8 a_8, aI a_9, aI a_10, a8 a_11, a32 a_12, a8 a_13, aI a_14, a8 a_15, a32 a_16, x]] = some (.isl 1 (by8 (opBytes (⟨a_1, ⟨a_2, a_3, a_4⟩, a_5, ⟨⟨⟨a_6, a_7, a_8⟩, a_9⟩, a_10⟩, ⟨⟨a_11, a_12, a_13⟩, a_14⟩, ⟨a_15, a_16⟩, l⟩ : Opn))) none) := by
  refine limf_of (fn := Try.f66) (c := bd_q9_Bytes) rfl (by kernel_rfl) (by kernel_rfl) (by kernel_rfl) (by kernel_rfl) ?_; refine vc_q9_Bytes _ _ _ fun g => ?_
  have hr := hx.r
  have hp := opB_parts ho
  simp only at hp
  obtain ⟨hs0, hs1, ⟨hf0, hf1⟩, hm0, hm1, hk⟩ := hp
  have t1 := fun t xo yo => quoLit t xo yo (n := a_5) 65536 (by decide) (by omega) (by omega)
  have t2 := fun t xo yo => quoLit t xo yo (n := a_5) 256 (by decide) (by omega) (by omega)
  have t3 := fun t xo yo => rem256 t xo yo (n := a_5 / 256) (by omega)
  have t4 := fun t xo yo => rem256 t xo yo (n := a_5) (by omega)
  have b1 := s_R5Bytes a_6 a_7 a_8 a_9 (by omega) (by omega)
  have hC : commonB (⟨a_1, ⟨a_2, a_3, a_4⟩, a_5, ⟨⟨⟨a_6, a_7, a_8⟩, a_9⟩, a_10⟩, ⟨⟨a_11, a_12, a_13⟩, a_14⟩, ⟨a_15, a_16⟩, l⟩ : Opn) = a_1 :: (hBytes ⟨a_2, a_3, a_4⟩ ++ ([u8 (a_5 / 65536), u8 (a_5 / 256), u8 a_5] ++ (iBytes ⟨⟨a_6, a_7, a_8⟩, a_9⟩ ++ [u8 a_10]))) := by simp [commonB, be_3]
  unfold opBytes
  rw [hC]
  have lh := hBytes_len ⟨a_2, a_3, a_4⟩
  have li := iBytes_len ⟨⟨a_6, a_7, a_8⟩, a_9⟩
  rcases hk with ⟨rfl, hto, ha, hl2, hrow⟩ | ⟨rfl, hto, ha, hl2⟩ | ⟨rfl, ha, hl2, h15⟩
  · obtain ⟨hE, h64, hRr⟩ := rowB_E hrow
    have hR : ∀ n ∈ l, runeB n = true := by
      have := hrow
      simp only [rowB, Bool.and_eq_true, List.all_eq_true] at this
      exact this.2
    have hW := s_R4Wide hx hl hR
    have hlb := rBytes_len l
    have hne : by8 (rBytes l) ≠ [] := by
      intro e
      have := congrArg List.length e
      rw [by8_len, List.length_nil] at this
      omega
    rw [outI_ne 1 hne] at hW
    have hlb2 : (by8 (rBytes l)).length = 4 * l.length := by rw [by8_len, hlb]
    have e8 : ∀ A : List UInt8, by8 (A ++ rBytes l) = by8 A ++ by8 (rBytes l) := fun A => by simp [by8]
    rw [if_pos rfl]
    have f1 : 37 + 4 * l.length ≤ 140737488355328 := by omega
    clear hE hRr hrow hlb hR ho
    rcases Bool.eq_false_or_eq_true (zeroA ⟨⟨a_11, a_12, a_13⟩, a_14⟩) with hz | hz
    · have ha0 : afterB ⟨⟨a_11, a_12, a_13⟩, a_14⟩ = List.replicate 13 0 := by unfold afterB; rw [if_pos hz]
      rw [ha0]
      have eL : by8 (1 :: (hBytes ⟨a_2, a_3, a_4⟩ ++ ([u8 (a_5 / 65536), u8 (a_5 / 256), u8 a_5] ++ (iBytes ⟨⟨a_6, a_7, a_8⟩, a_9⟩ ++ [u8 a_10]))) ++ (List.replicate 13 0 ++ rBytes l)) = by8 (1 :: (hBytes ⟨a_2, a_3, a_4⟩ ++ ([u8 (a_5 / 65536), u8 (a_5 / 256), u8 a_5] ++ (iBytes ⟨⟨a_6, a_7, a_8⟩, a_9⟩ ++ [u8 a_10]))) ++ List.replicate 13 0) ++ by8 (rBytes l) := by rw [← List.append_assoc, e8]
      rw [eL]
      clear e8 eL
      generalize by8 (rBytes l) = W at *
      simp [new_ne, ne_new, new_ne1, ne_new1, gen_put', *, VC_q9_Bytes, by8, u8_mod, hBytes, iBytes, be_4, be_7]
      refine doW_of (app_mk13 _ _ _ rfl rfl) ?_
      simp [*]
      refine ⟨by omega, ?_⟩
      rw [List.take_of_length_le]
      · simp [be_4, be_7]
      · simp only [List.length_cons]; omega
    · have ha0 : afterB ⟨⟨a_11, a_12, a_13⟩, a_14⟩ = iBytes ⟨⟨a_11, a_12, a_13⟩, a_14⟩ := by unfold afterB; rw [if_neg (by rw [hz]; decide)]
      rw [ha0]
      have eL : by8 (1 :: (hBytes ⟨a_2, a_3, a_4⟩ ++ ([u8 (a_5 / 65536), u8 (a_5 / 256), u8 a_5] ++ (iBytes ⟨⟨a_6, a_7, a_8⟩, a_9⟩ ++ [u8 a_10]))) ++ (iBytes ⟨⟨a_11, a_12, a_13⟩, a_14⟩ ++ rBytes l)) = by8 (1 :: (hBytes ⟨a_2, a_3, a_4⟩ ++ ([u8 (a_5 / 65536), u8 (a_5 / 256), u8 a_5] ++ (iBytes ⟨⟨a_6, a_7, a_8⟩, a_9⟩ ++ [u8 a_10]))) ++ iBytes ⟨⟨a_11, a_12, a_13⟩, a_14⟩) ++ by8 (rBytes l) := by rw [← List.append_assoc, e8]
      rw [eL]
      have hb2 := s_R5Bytes a_11 a_12 a_13 a_14 (by rcases ha with h | h; · rw [h] at hz; cases hz
                                                    · omega) (by rcases ha with h | h; · rw [h] at hz; cases hz
                                                                 · omega)
      clear e8 eL
      generalize by8 (rBytes l) = W at *
      simp [new_ne, ne_new, new_ne1, ne_new1, gen_put', *, VC_q9_Bytes, by8, u8_mod, hBytes, iBytes, be_4, be_7]
      exact ⟨by omega, List.take_of_length_le (by simp; omega)⟩
  · simp [new_ne, ne_new, new_ne1, ne_new1, gen_put', *, VC_q9_Bytes, by8, u8_mod, hBytes, iBytes, be_4, be_7]
  · simp [new_ne, ne_new, new_ne1, ne_new1, gen_put', *, VC_q9_Bytes, by8, u8_mod, hBytes, iBytes, be_4, be_7]
theorem s_R9Put (a_1 : UInt8) (a_2 : UInt8) (a_3 : UInt32) (a_4 : UInt8) (a_5 : Int) (a_6 : UInt8) (a_7 : UInt32) (a_8 : UInt8) (a_9 : Int) (a_10 : Int) (a_11 : UInt8) (a_12 : UInt32) (a_13 : UInt8) (a_14 : Int) (a_15 : UInt8) (a_16 : UInt32) {x : AV} {l : List Int} (hx : Sl 1 (rows l) x) (hl : l.length < 100000) (hR : ∀ a ∈ l, -2147483648 ≤ a ∧ a ≤ 2147483647) : limf env 24 [.agg [a8 a_1, a8 a_2, a32 a_3, a8 a_4, aI a_5, a8 a_6, a32 a_7, a8 a_8, aI a_9, aI a_10, a8 a_11, a32 a_12, a8 a_13, aI a_14, a8 a_15, a32 a_16, x]] = some (putA (⟨a_1, ⟨a_2, a_3, a_4⟩, a_5, ⟨⟨⟨a_6, a_7, a_8⟩, a_9⟩, a_10⟩, ⟨⟨a_11, a_12, a_13⟩, a_14⟩, ⟨a_15, a_16⟩, l⟩ : Opn)) := by
  refine limf_of (fn := Try.f24) (c := bd_q9_Put) rfl (by kernel_rfl) (by kernel_rfl) (by kernel_rfl) (by kernel_rfl) ?_; refine vc_q9_Put _ _ _ fun g => ?_
  have hr := hx.r
  have hM := s_R9May a_1 a_2 a_3 a_4 a_5 a_6 a_7 a_8 a_9 a_10 a_11 a_12 a_13 a_14 a_15 a_16 hx (by omega) hR
  unfold putA
  cases ho : opB (⟨a_1, ⟨a_2, a_3, a_4⟩, a_5, ⟨⟨⟨a_6, a_7, a_8⟩, a_9⟩, a_10⟩, ⟨⟨a_11, a_12, a_13⟩, a_14⟩, ⟨a_15, a_16⟩, l⟩ : Opn) with
  | false => simp [new_ne, ne_new, new_ne1, ne_new1, gen_put', *, VC_q9_Put]
  | true =>
    have hB := s_R9Bytes a_1 a_2 a_3 a_4 a_5 a_6 a_7 a_8 a_9 a_10 a_11 a_12 a_13 a_14 a_15 a_16 hx hl ho
    generalize by8 (opBytes (⟨a_1, ⟨a_2, a_3, a_4⟩, a_5, ⟨⟨⟨a_6, a_7, a_8⟩, a_9⟩, a_10⟩, ⟨⟨a_11, a_12, a_13⟩, a_14⟩, ⟨a_15, a_16⟩, l⟩ : Opn)) = W at *
    simp [new_ne, ne_new, new_ne1, ne_new1, gen_put', *, VC_q9_Put]
theorem s_R9Check (a_1 : UInt8) (a_2 : UInt8) (a_3 : UInt32) (a_4 : UInt8) (a_5 : Int) (a_6 : UInt8) (a_7 : UInt32) (a_8 : UInt8) (a_9 : Int) (a_10 : Int) (a_11 : UInt8) (a_12 : UInt32) (a_13 : UInt8) (a_14 : Int) (a_15 : UInt8) (a_16 : UInt32) {x : AV} {l : List Int} (hx : Sl 1 (rows l) x) (hl : l.length < 100000) (hR : ∀ a ∈ l, -2147483648 ≤ a ∧ a ≤ 2147483647) : limf env 27 [.agg [a8 a_1, a8 a_2, a32 a_3, a8 a_4, aI a_5, a8 a_6, a32 a_7, a8 a_8, aI a_9, aI a_10, a8 a_11, a32 a_12, a8 a_13, aI a_14, a8 a_15, a32 a_16, x]] = some (aI (bad (opB (⟨a_1, ⟨a_2, a_3, a_4⟩, a_5, ⟨⟨⟨a_6, a_7, a_8⟩, a_9⟩, a_10⟩, ⟨⟨a_11, a_12, a_13⟩, a_14⟩, ⟨a_15, a_16⟩, l⟩ : Opn)))) := by
  refine limf_of (fn := Try.f27) (c := bd_q9_Check) rfl (by kernel_rfl) (by kernel_rfl) (by kernel_rfl) (by kernel_rfl) ?_; refine vc_q9_Check _ _ _ fun g => ?_
  have hr := hx.r
  have hM := s_R9May a_1 a_2 a_3 a_4 a_5 a_6 a_7 a_8 a_9 a_10 a_11 a_12 a_13 a_14 a_15 a_16 hx (by omega) hR
  cases ho : opB (⟨a_1, ⟨a_2, a_3, a_4⟩, a_5, ⟨⟨⟨a_6, a_7, a_8⟩, a_9⟩, a_10⟩, ⟨⟨a_11, a_12, a_13⟩, a_14⟩, ⟨a_15, a_16⟩, l⟩ : Opn) <;> simp [new_ne, ne_new, new_ne1, ne_new1, gen_put', *, VC_q9_Check]
/-- How many bytes one has; 0: there is none. -/
def sizeA (k : UInt8) (m : Int) : Int := if m < 1 then 0 else if 64 < m then 0 else if k = 1 then 37 + 4 * m else if k = 2 then 24 else if k = 3 then 29 else 0
theorem s_R9Size (k : UInt8) (m : Int) : limf env 29 [a8 k, aI m] = some (aI (sizeA k m)) := by
  refine limf_of (fn := Try.f29) (c := bd_q9_Size) rfl (by kernel_rfl) (by kernel_rfl) (by kernel_rfl) (by kernel_rfl) ?_; refine vc_q9_Size _ _ _ _ fun g => ?_
  unfold sizeA
  by_cases h1 : m < 1
  · simp [new_ne, ne_new, new_ne1, ne_new1, gen_put', *, VC_q9_Size]
  · by_cases h2 : 64 < m
    · simp [new_ne, ne_new, new_ne1, ne_new1, gen_put', *, VC_q9_Size]
    · have w1 := IntWalk.i64_in (4 * m) (by omega)
      have w2 := IntWalk.i64_in (37 + 4 * m) (by omega)
      by_cases k1 : k = 1
      · simp [new_ne, ne_new, new_ne1, ne_new1, gen_put', *, VC_q9_Size]
      · by_cases k2 : k = 2
        · simp [new_ne, ne_new, new_ne1, ne_new1, gen_put', *, VC_q9_Size]
        · by_cases k3 : k = 3 <;> simp [new_ne, ne_new, new_ne1, ne_new1, gen_put', *, VC_q9_Size]
theorem plain_loop {l : List Int} {x : AV} (hx : Sl 1 (rows l) x) (hl : l.length < 100000) (a_1 : UInt8) (a_2 : UInt8) (a_3 : UInt32) (a_4 : UInt8) (a_5 : Int) (a_6 : UInt8) (a_7 : UInt32) (a_8 : UInt8) (a_9 : Int) (a_10 : Int) (a_11 : UInt8) (a_12 : UInt32) (a_13 : UInt8) (a_14 : Int) (a_15 : UInt8) (a_16 : UInt32) {r : Ref} {H : Heap} (hB : H.get r = some ⟨17, [.agg [a8 a_1, a8 a_2, a32 a_3, a8 a_4, aI a_5, a8 a_6, a32 a_7, a8 a_8, aI a_9, aI a_10, a8 a_11, a32 a_12, a8 a_13, aI a_14, a8 a_15, a32 a_16, x]], false, false⟩) {Q : AV → Heap → Prop} :
    ∀ (s : List Int) (k : Nat) (i : Int), l.drop k = s → k ≤ l.length → i = k → (∀ y, y = aB (!decide (-1 ∈ s)) → Q y H) →
    GoL env Try.f28 0 hd_q9_Plain_2 [(3, aI i), (1, .ptr r 0 0)] H Q := by
  intro s
  induction s with
  | nil =>
    rintro k i hs hk rfl hQ
    obtain rfl := drop_nil hs hk
    refine vc_q9_Plain_2 _ _ _ _ fun g => ?_
    have hr := hx.r
    simp [new_ne, ne_new, new_ne1, ne_new1, gen_put', *, VC_q9_Plain_2]
    all_goals exact hQ _ (by simp)
  | cons n s ih =>
    rintro k i hs hk rfl hQ
    obtain ⟨hlt, hg, hs', hg'⟩ := drop_cons hs
    refine vc_q9_Plain_2 _ _ _ _ fun g => ?_
    have e3 := IntWalk.i64_in ((k : Int) + 1) (by omega)
    have hr := hx.r
    by_cases hA : n = -1
    · have hQ' := hQ (aB false) (by simp [hA])
      clear hQ ih
      simp [new_ne, ne_new, new_ne1, ne_new1, gen_put', *, VC_q9_Plain_2, hx.idx, rows, aR]
      all_goals exact hQ'
    · have hA' : ¬ -1 = n := fun h => hA h.symm
      have ih' := ih (k + 1) ((k : Int) + 1) hs' (by omega) (by simp) (fun y ey => hQ y (by rw [ey]; simp [hA']))
      clear ih hQ
      simp [new_ne, ne_new, new_ne1, ne_new1, gen_put', *, VC_q9_Plain_2, hx.idx, rows, aR]
      all_goals exact ih'
theorem s_R9Plain (a_1 : UInt8) (a_2 : UInt8) (a_3 : UInt32) (a_4 : UInt8) (a_5 : Int) (a_6 : UInt8) (a_7 : UInt32) (a_8 : UInt8) (a_9 : Int) (a_10 : Int) (a_11 : UInt8) (a_12 : UInt32) (a_13 : UInt8) (a_14 : Int) (a_15 : UInt8) (a_16 : UInt32) {x : AV} {l : List Int} (hx : Sl 1 (rows l) x) (hl : l.length < 100000) : limf env 28 [.agg [a8 a_1, a8 a_2, a32 a_3, a8 a_4, aI a_5, a8 a_6, a32 a_7, a8 a_8, aI a_9, aI a_10, a8 a_11, a32 a_12, a8 a_13, aI a_14, a8 a_15, a32 a_16, x]] = some (aB (!decide (-1 ∈ l))) := by
  refine limf_of (fn := Try.f28) (c := bd_q9_Plain) rfl (by kernel_rfl) (by kernel_rfl) (by kernel_rfl) (by kernel_rfl) ?_; refine vc_q9_Plain _ _ _ fun g => ?_
  have hr := hx.r
  simp [new_ne, ne_new, new_ne1, ne_new1, gen_put', *, VC_q9_Plain]
  exact plain_loop hx hl a_1 a_2 a_3 a_4 a_5 a_6 a_7 a_8 a_9 a_10 a_11 a_12 a_13 a_14 a_15 a_16 (by simp) l 0 _ rfl (by omega) rfl (fun y e => by simp [e])
theorem s_R9Twin (a_1 : UInt8) (a_2 : UInt8) (a_3 : UInt32) (a_4 : UInt8) (a_5 : Int) (a_6 : UInt8) (a_7 : UInt32) (a_8 : UInt8) (a_9 : Int) (a_10 : Int) (a_11 : UInt8) (a_12 : UInt32) (a_13 : UInt8) (a_14 : Int) (a_15 : UInt8) (a_16 : UInt32) {x : AV} {l : List Int} (hx : Sl 1 (rows l) x) (hl : l.length < 100000) : limf env 23 [.agg [a8 a_1, a8 a_2, a32 a_3, a8 a_4, aI a_5, a8 a_6, a32 a_7, a8 a_8, aI a_9, aI a_10, a8 a_11, a32 a_12, a8 a_13, aI a_14, a8 a_15, a32 a_16, x]] = some (.agg [a8 a_1, a8 a_2, a32 a_3, a8 a_4, aI a_5, a8 a_6, a32 a_7, a8 a_8, aI a_9, aI a_10, a8 a_11, a32 a_12, a8 a_13, aI a_14, a8 a_15, a32 a_16, outI 1 (rows l)]) := by
  refine limf_of (fn := Try.f23) (c := bd_q9_Twin) rfl (by kernel_rfl) (by kernel_rfl) (by kernel_rfl) (by kernel_rfl) ?_; refine vc_q9_Twin _ _ _ fun g => ?_
  have hr := hx.r
  have f1 : l.length ≤ 35184372088832 ∧ l.length * 4 ≤ 140737488355328 := by omega
  by_cases he : rows l = []
  · simp [new_ne, ne_new, new_ne1, ne_new1, gen_put', *, VC_q9_Twin, hx.elsOf, outI]
  · rw [outI_ne 1 he]
    simp [new_ne, ne_new, new_ne1, ne_new1, gen_put', *, VC_q9_Twin, hx.elsOf]
theorem s_R9SameG (a_1 : UInt8) (a_2 : UInt8) (a_3 : UInt32) (a_4 : UInt8) (a_5 : Int) (a_6 : UInt8) (a_7 : UInt32) (a_8 : UInt8) (a_9 : Int) (a_10 : Int) (a_11 : UInt8) (a_12 : UInt32) (a_13 : UInt8) (a_14 : Int) (a_15 : UInt8) (a_16 : UInt32) (b_1 : UInt8) (b_2 : UInt8) (b_3 : UInt32) (b_4 : UInt8) (b_5 : Int) (b_6 : UInt8) (b_7 : UInt32) (b_8 : UInt8) (b_9 : Int) (b_10 : Int) (b_11 : UInt8) (b_12 : UInt32) (b_13 : UInt8) (b_14 : Int) (b_15 : UInt8) (b_16 : UInt32) {x y : AV} {l m : List Int} (hx : Sl 1 (rows l) x) (hy : Sl 1 (rows m) y) (hl : l.length < 1000000000) (hm : m.length < 1000000000) : limf env 16 [.agg [a8 a_1, a8 a_2, a32 a_3, a8 a_4, aI a_5, a8 a_6, a32 a_7, a8 a_8, aI a_9, aI a_10, a8 a_11, a32 a_12, a8 a_13, aI a_14, a8 a_15, a32 a_16, x], .agg [a8 b_1, a8 b_2, a32 b_3, a8 b_4, aI b_5, a8 b_6, a32 b_7, a8 b_8, aI b_9, aI b_10, a8 b_11, a32 b_12, a8 b_13, aI b_14, a8 b_15, a32 b_16, y]] = some (aB (sameB (⟨a_1, ⟨a_2, a_3, a_4⟩, a_5, ⟨⟨⟨a_6, a_7, a_8⟩, a_9⟩, a_10⟩, ⟨⟨a_11, a_12, a_13⟩, a_14⟩, ⟨a_15, a_16⟩, l⟩ : Opn) (⟨b_1, ⟨b_2, b_3, b_4⟩, b_5, ⟨⟨⟨b_6, b_7, b_8⟩, b_9⟩, b_10⟩, ⟨⟨b_11, b_12, b_13⟩, b_14⟩, ⟨b_15, b_16⟩, m⟩ : Opn))) := by
  refine limf_of (fn := Try.f16) (c := bd_q9_Same) rfl (by kernel_rfl) (by kernel_rfl) (by kernel_rfl) (by kernel_rfl) ?_; refine vc_q9_Same _ _ _ _ fun g => ?_
  have hq := s_RuSame hx hy (by omega)
  have hr := hx.r
  have hr2 := hy.r
  unfold sameB
  cases c1 : decide (a_1 = b_1) with
  | false => simp [new_ne, ne_new, new_ne1, ne_new1, gen_put', *, VC_q9_Same, eqA, eqFs]
  | true =>
  cases c2 : (decide (a_2 = b_2) && decide (a_3 = b_3) && decide (a_4 = b_4)) with
  | false => simp [new_ne, ne_new, new_ne1, ne_new1, gen_put', *, VC_q9_Same, eqA, eqFs]
  | true =>
  cases c3 : decide (a_5 = b_5) with
  | false => simp [new_ne, ne_new, new_ne1, ne_new1, gen_put', *, VC_q9_Same, eqA, eqFs]
  | true =>
  cases c4 : (decide (a_6 = b_6) && decide (a_7 = b_7) && decide (a_8 = b_8) && decide (a_9 = b_9) && decide (a_10 = b_10)) with
  | false => simp [new_ne, ne_new, new_ne1, ne_new1, gen_put', *, VC_q9_Same, eqA, eqFs]
  | true =>
  cases c5 : (decide (a_11 = b_11) && decide (a_12 = b_12) && decide (a_13 = b_13) && decide (a_14 = b_14)) with
  | false => simp [new_ne, ne_new, new_ne1, ne_new1, gen_put', *, VC_q9_Same, eqA, eqFs]
  | true =>
  cases c6 : (decide (a_15 = b_15) && decide (a_16 = b_16)) with
  | false => simp [new_ne, ne_new, new_ne1, ne_new1, gen_put', *, VC_q9_Same, eqA, eqFs]
  | true => simp [new_ne, ne_new, new_ne1, ne_new1, gen_put', *, VC_q9_Same, eqA, eqFs]
end Go.Proofs.Ytehkjjcdkbcebaa
