/-
  The document's answers on bytes: what they tell. No statement of a seat is proved here.
-/
import Derived.Test.YtehkjjcdkbcebaaRfFns3
import Derived.Test.YtehkjjcdkbcebaaRdFns3
set_option linter.unusedVariables false
set_option linter.unusedSimpArgs false
set_option linter.unnecessarySimpa false
set_option maxRecDepth 100000
namespace Go.Proofs.Ytehkjjcdkbcebaa
open Go.Ab
attribute [local simp] depth_eq callRes_V callG_data callG_frz callG_own keep thr appRes_G appFine_n appFine_s appG_n appG_s roomB appRes_I islFine_some islG_ne List.take_of_length_le sB_lit

theorem s_R9handle {v : AV} {l : List UInt8} (hv : Sl 1 (by8 l) v) (hl : l.length = 6) : limf env 67 [v] = some (.agg [a8 (hanOf l).lv, a32 (hanOf l).cats, a8 (hanOf l).num]) := by
  obtain ⟨a, b, c, d, e, f, rfl⟩ := six_of hl
  obtain ⟨cp, rfl, hc⟩ := sl_isl hv (by simp [by8])
  refine limf_of (fn := Try.f67) (c := bd_q9_handle) rfl (by kernel_rfl) (by kernel_rfl) (by kernel_rfl) (by kernel_rfl) ?_; refine vc_q9_handle _ _ _ fun g => ?_
  have q1 := b.toNat_lt
  have q2 := c.toNat_lt
  have q3 := d.toNat_lt
  have q4 := e.toNat_lt
  have w1 := IntWalk.i64_in ((b.toNat : Int)) (by omega)
  have w2 := IntWalk.i64_in (256 * (b.toNat : Int)) (by omega)
  have w3 := IntWalk.i64_in (256 * (b.toNat : Int) + c.toNat) (by omega)
  have w4 := IntWalk.i64_in (256 * (256 * (b.toNat : Int) + c.toNat)) (by omega)
  have w5 := IntWalk.i64_in (256 * (256 * (b.toNat : Int) + c.toNat) + d.toNat) (by omega)
  have w6 := IntWalk.i64_in (256 * (256 * (256 * (b.toNat : Int) + c.toNat) + d.toNat)) (by omega)
  have w7 := IntWalk.i64_in (256 * (256 * (256 * (b.toNat : Int) + c.toNat) + d.toNat) + e.toNat) (by omega)
  have hV : val [b, c, d, e] = 256 * (256 * (256 * (b.toNat : Int) + c.toNat) + d.toNat) + e.toNat := by simp [val, valF]
  have hH : hanOf [a, b, c, d, e, f] = ⟨a, u32 (val [b, c, d, e]), f⟩ := rfl
  rw [hH, hV]
  simp [new_ne, ne_new, new_ne1, ne_new1, gen_put', *, VC_q9_handle]
  refine vc_q9_handle_3 _ _ _ _ _ _ fun g => ?_
  simp [new_ne, ne_new, new_ne1, ne_new1, gen_put', *, VC_q9_handle_3, by8]
  refine vc_q9_handle_3 _ _ _ _ _ _ fun g => ?_
  simp [new_ne, ne_new, new_ne1, ne_new1, gen_put', *, VC_q9_handle_3, by8]
  refine vc_q9_handle_3 _ _ _ _ _ _ fun g => ?_
  simp [new_ne, ne_new, new_ne1, ne_new1, gen_put', *, VC_q9_handle_3, by8]
  refine vc_q9_handle_3 _ _ _ _ _ _ fun g => ?_
  simp [new_ne, ne_new, new_ne1, ne_new1, gen_put', *, VC_q9_handle_3, by8]
  refine vc_q9_handle_3 _ _ _ _ _ _ fun g => ?_
  simp [new_ne, ne_new, new_ne1, ne_new1, gen_put', *, VC_q9_handle_3, by8]
theorem rid_loop {x0 : AV} {l : List UInt8} (hx : Sl 1 (by8 l) x0) (hl : l.length = 13) {r : Ref} {c0 : Blk} {H : Heap} (hB : H.get r = some ⟨4, [.agg [a8 0, a32 0, a8 0, aI 0]], false, false⟩) {Q : AV → Heap → Prop}
    (hQ : ∀ n, n = val (l.drop 6) → GoL env Try.f68 0 hd_q9_id_3 [(4, aI 13), (0, x0), (3, aI n), (2, .ptr r 0 0)] H Q) :
    ∀ (s : List UInt8) (k : Nat) (i a : Int), l.drop k = s → k ≤ l.length → i = k → 6 ≤ k → 0 ≤ a → a < 256 ^ (k - 6) → valF a s = val (l.drop 6) →
    GoL env Try.f68 0 hd_q9_id_3 [(4, aI i), (0, x0), (3, aI a), (2, .ptr r 0 0)] H Q := by
  intro s
  induction s with
  | nil =>
    rintro k i a hs hk rfl h6 h0 h1 hV
    obtain rfl := drop_nil hs hk
    rw [hl]
    exact hQ a hV
  | cons b s ih =>
    rintro k i a hs hk rfl h6 h0 h1 hV
    obtain ⟨hlt, hg, hs', hg'⟩ := drop_cons hs
    have hb := b.toNat_lt
    have h2 : (256 : Int) ^ (k - 6) ≤ 256 ^ 6 := by
      have := pow256_le (k := k - 6) 6 (by omega)
      exact this
    refine vc_q9_id_3 _ _ _ _ _ _ fun g => ?_
    have w1 := IntWalk.i64_in (256 * a) (by omega)
    have w2 := IntWalk.i64_in (256 * a + b.toNat) (by omega)
    have w3 := IntWalk.i64_in ((k : Int) + 1) (by omega)
    have lt : (k : Int) < 13 := by omega
    have ih' := ih (k + 1) ((k : Int) + 1) (256 * a + b.toNat) hs' (by omega) (by simp) (by omega) (by omega) (by
      rw [show k + 1 - 6 = (k - 6) + 1 by omega, Int.pow_succ]; omega) (by rw [← hV]; rfl)
    clear ih hQ
    simp [new_ne, ne_new, new_ne1, ne_new1, gen_put', *, VC_q9_id_3, hx.idx]
    all_goals exact ih'
theorem s_R9id {v : AV} {l : List UInt8} (hv : Sl 1 (by8 l) v) (hl : l.length = 13) : limf env 68 [v] = some (.agg [a8 (iddOf l).h.lv, a32 (iddOf l).h.cats, a8 (iddOf l).h.num, aI (iddOf l).n]) := by
  refine limf_of (fn := Try.f68) (c := bd_q9_id) rfl (by kernel_rfl) (by kernel_rfl) (by kernel_rfl) (by kernel_rfl) ?_; refine vc_q9_id _ _ _ fun g => ?_
  simp [new_ne, ne_new, new_ne1, ne_new1, gen_put', *, VC_q9_id]
  refine rid_loop hv hl (c0 := default) (by simp) (fun n hn => ?_) (l.drop 6) 6 6 0 rfl (by omega) rfl (by omega) (by omega) (by simp) rfl
  refine vc_q9_id_3 _ _ _ _ _ _ fun g => ?_
  have e : iddOf l = ⟨hanOf l, n⟩ := by rw [hn]; rfl
  have eh : hanOf (l.take 6) = hanOf l := by
    obtain ⟨a, b, c, d, e, f, g, i, j, k, m, n, o, rfl⟩ := thirteen_of hl
    rfl
  rw [e]
  clear hn e
  obtain ⟨cp, rfl, hc⟩ := sl_isl hv (by simp; omega)
  have hh := fun c hc => s_R9handle (v := .isl 1 (by8 (l.take 6)) c) (l := l.take 6) (.inr ⟨c, rfl, hc⟩) (by simp; omega)
  rw [eh] at hh
  have e8 : by8 (l.take 6) = (by8 l).take 6 := by simp [by8]
  rw [e8] at hh
  have h13 : (by8 l).length = 13 := by rw [by8_len, hl]
  have hh2 := hh cp (by rw [h13] at hc; rw [List.length_take, h13]; cases cp with | none => simp | some c => simp at hc ⊢; omega)
  clear hh
  generalize hanOf l = ha at *
  simp [new_ne, ne_new, new_ne1, ne_new1, gen_put', *, VC_q9_id_3]
theorem word_rune (a b c d : UInt8) : word a b c d = (if val [a, b, c, d] = 4294967295 then -1 else if val [a, b, c, d] < 2147483648 then val [a, b, c, d] else val [a, b, c, d] - 4294967296) ∧ 0 ≤ val [a, b, c, d] ∧ val [a, b, c, d] < 4294967296 := by
  have h := val_bound [a, b, c, d]
  simp only [List.length_cons, List.length_nil] at h
  have h1 : val [a, b, c, d] < 4294967296 := by have := h.2; simpa using this
  refine ⟨?_, h.1, h1⟩
  unfold word
  rw [IntKind.wrap_i32]
  split
  · omega
  · split <;> omega
theorem four_w (a b c d : UInt8) : IntKind.i64.wrap (16777216 * (a.toNat : Int)) = 16777216 * (a.toNat : Int) ∧ IntKind.i64.wrap (65536 * (b.toNat : Int)) = 65536 * (b.toNat : Int) ∧
    IntKind.i64.wrap (16777216 * (a.toNat : Int) + 65536 * (b.toNat : Int)) = 16777216 * (a.toNat : Int) + 65536 * (b.toNat : Int) ∧ IntKind.i64.wrap (256 * (c.toNat : Int)) = 256 * (c.toNat : Int) ∧
    IntKind.i64.wrap (16777216 * (a.toNat : Int) + 65536 * (b.toNat : Int) + 256 * (c.toNat : Int)) = 16777216 * (a.toNat : Int) + 65536 * (b.toNat : Int) + 256 * (c.toNat : Int) ∧
    16777216 * (a.toNat : Int) + 65536 * (b.toNat : Int) + 256 * (c.toNat : Int) + (d.toNat : Int) = val [a, b, c, d] ∧ IntKind.i64.wrap (val [a, b, c, d]) = val [a, b, c, d] := by
  have qa := a.toNat_lt
  have qb := b.toNat_lt
  have qc := c.toNat_lt
  have qd := d.toNat_lt
  have eV : 16777216 * (a.toNat : Int) + 65536 * (b.toNat : Int) + 256 * (c.toNat : Int) + (d.toNat : Int) = val [a, b, c, d] := by simp [val, valF]; omega
  exact ⟨IntWalk.i64_in _ (by omega), IntWalk.i64_in _ (by omega), IntWalk.i64_in _ (by omega), IntWalk.i64_in _ (by omega), IntWalk.i64_in _ (by omega), eV, IntWalk.i64_in _ (by omega)⟩
/-- A loop's row, as it is built: nil, or the call's own. -/
theorem r4get_loop {bs : List UInt8} {x0 : AV} (hx : Sl 1 (by8 bs) x0) (hl : bs.length < 1000000) (h4 : bs.length % 4 = 0) {Q : AV → Heap → Prop} :
    ∀ (m k : Nat) (s : List UInt8) (i : Int) (out : List Int) (x4 : AV) (H : Heap), bs.drop k = s → s.length = 4 * m → k ≤ bs.length → i = k → out.length ≤ k → Fr H → OwnAt [50, 57] 1 (rows out) H x4 → (out = [] → x4 = aNil) →
    (∀ y H', (words s).all runeB = true → OwnAt [50, 57] 1 (rows (out ++ words s)) H' y → (out ++ words s = [] → y = aNil) → Q (.tup [y, aI 0]) H') → ((words s).all runeB = false → ∀ H', Q (.tup [aNil, aI 8]) H') →
    GoL env Try.f69 0 hd_q4_Get_5 [(5, aI i), (4, x4), (0, x0)] H Q := by
  intro m
  induction m with
  | zero =>
    rintro k s i out x4 H hs hm hk rfl ho hF hO hN hQ hQ2
    obtain rfl : s = [] := List.length_eq_zero_iff.1 (by omega)
    have hd := congrArg List.length hs
    rw [List.length_drop, List.length_nil] at hd
    have e1 : ¬ ((k : Int) + 3 < bs.length) := by omega
    have w1 := IntWalk.i64_in ((k : Int) + 3) (by omega)
    have e2 : (bs.length : Int).tmod 4 = 0 := by rw [Int.tmod_eq_emod_of_nonneg (by omega)]; omega
    have hrm := fun t xo yo => qBin_rem env.P t xo yo .i64 (bs.length : Int) 4 (by decide)
    rw [e2] at hrm
    have hr := hx.r
    have hQ' := hQ x4 H rfl (by simpa [words] using hO) (by simpa [words] using hN)
    refine vc_q4_Get_5 _ _ _ _ _ fun g => ?_
    clear hQ hQ2 hO hN
    simp [new_ne, ne_new, new_ne1, ne_new1, gen_put', *, VC_q4_Get_5]
    all_goals exact hQ'
  | succ m ih =>
    rintro k s i out x4 H hs hm hk rfl ho hF hO hN hQ hQ2
    match s, hm with
    | a :: b :: c :: d :: s, hm =>
    simp only [List.length_cons] at hm
    have hd := congrArg List.length hs
    rw [List.length_drop] at hd
    simp only [List.length_cons] at hd
    have hs' : bs.drop (k + 4) = s := by rw [← List.drop_drop, hs]; rfl
    have hw : words (a :: b :: c :: d :: s) = word a b c d :: words s := rfl
    rw [hw] at hQ hQ2
    have g0 : ∀ j, (bs.drop k)[j]? = bs[k + j]? := fun j => List.getElem?_drop
    rw [hs] at g0
    have ga : bs[k]? = some a := (g0 0).symm
    have gb : bs[k + 1]? = some b := (g0 1).symm
    have gc : bs[k + 2]? = some c := (g0 2).symm
    have gd : bs[k + 3]? = some d := (g0 3).symm
    clear g0
    have w1 := IntWalk.i64_in ((k : Int) + 1) (by omega)
    have w2 := IntWalk.i64_in ((k : Int) + 2) (by omega)
    have w3 := IntWalk.i64_in ((k : Int) + 3) (by omega)
    have w4 := IntWalk.i64_in ((k : Int) + 4) (by omega)
    have l1 : (k : Int) < bs.length ∧ (k : Int) + 1 < bs.length ∧ (k : Int) + 2 < bs.length ∧ (k : Int) + 3 < bs.length := by omega
    have l2 : 0 ≤ (k : Int) ∧ 0 ≤ (k : Int) + 1 ∧ 0 ≤ (k : Int) + 2 ∧ 0 ≤ (k : Int) + 3 := by omega
    have l3 : ((k : Int) + 1).toNat = k + 1 ∧ ((k : Int) + 2).toNat = k + 2 ∧ ((k : Int) + 3).toNat = k + 3 := by omega
    have f1 : out.length + 1 ≤ 35184372088832 := by omega
    have f2 : (out.length + 1) * 4 ≤ 140737488355328 := by omega
    have a1 : k + 4 ≤ bs.length := by omega
    have a2 : (out ++ [word a b c d]).length ≤ k + 4 := by simp; omega
    have a3 : s.length = 4 * m := by omega
    obtain ⟨v1, v2, v3, v4, v5, eV, v6⟩ := four_w a b c d
    obtain ⟨hwd, u0, u1⟩ := word_rune a b c d
    have l1 : (k : Int) < bs.length ∧ (k : Int) + 1 < bs.length ∧ (k : Int) + 2 < bs.length ∧ (k : Int) + 3 < bs.length := by omega
    have l2 : 0 ≤ (k : Int) ∧ 0 ≤ (k : Int) + 1 ∧ 0 ≤ (k : Int) + 2 ∧ 0 ≤ (k : Int) + 3 := by omega
    have l3 : ((k : Int) + 1).toNat = k + 1 ∧ ((k : Int) + 2).toNat = k + 2 ∧ ((k : Int) + 3).toNat = k + 3 := by omega
    have hr := hx.r
    have hih := fun x5' H' => ih (k + 4) s ((k : Int) + 4) (out ++ [word a b c d]) x5' H' hs' a3 a1 (by simp) a2
    have hst : ∀ (t g m : Nat) (H' : Heap), t = 50 ∨ t = 57 → m = out.length + 1 → H'.get ⟨0, t, g, 0⟩ = some ⟨1, rows out ++ [aR (word a b c d)], true, false⟩ → OwnAt [50, 57] 1 (rows (out ++ [word a b c d])) H' (.osl ⟨0, t, g, 0⟩ 0 m none) := by
      intro t g m H' ht hm h
      subst hm
      have e : rows (out ++ [word a b c d]) = rows out ++ [aR (word a b c d)] := by simp [rows]
      rw [e]
      exact .inr ⟨t, g, by simpa using ht, by simp, h⟩
    have hfit : runeB (word a b c d) = true → ∀ x5' H', Fr H' → OwnAt [50, 57] 1 (rows (out ++ [word a b c d])) H' x5' → GoL env Try.f69 0 hd_q4_Get_5 [(5, aI ((k : Int) + 4)), (4, x5'), (0, x0)] H' Q := fun hb x5' H' hF' hO' => hih x5' H' hF' hO' (fun e => by simp at e)
      (fun y H' h1 h2 h3 => hQ y H' (by simp [hb, h1]) (by simpa using h2) (fun e => by simp at e)) (fun h1 H' => hQ2 (by simp [hb, h1]) H')
    have hbadc : runeB (word a b c d) = false → ∀ H', Q (.tup [aNil, aI 8]) H' := fun hb H' => hQ2 (by simp [hb]) H'
    clear a1 a2 a3 hih hQ hQ2 ih hs hs' hw hd hm hl
    generalize words s = ws at *
    by_cases hm1 : val [a, b, c, d] = 4294967295
    · have hW : word a b c d = -1 := by rw [hwd, if_pos hm1]
      rw [hW] at hst hfit hbadc
      have hfit' := hfit (by decide)
      clear hfit hbadc hwd
      refine vc_q4_Get_5 _ _ _ _ _ fun g => ?_
      rcases hO with ⟨rfl, hz⟩ | ⟨t, gg, ht, rfl, hrr⟩
      · have hz' : out = [] := by simpa using hz
        subst hz'
        have hst' := hst 50 (H.gen 0 50) 1
        clear hst
        simp [new_ne, ne_new, new_ne1, ne_new1, gen_put', *, VC_q4_Get_5, hx.idx]
        exact hfit' _ _ (by simp (maxDischargeDepth := 12) [Heap.get_put, Fr_cons, Fr_consK, Fr.nil, Fr_put, new_ne, ne_new, new_ne1, ne_new1, get_new, get_new1, gen_put', *]) (hst' _ (.inl rfl) rfl (by simp [aR]))
      · have l6 : (H.get ⟨0, t, gg, 0⟩).isSome = true := by rw [hrr]; rfl
        have ht' : t = 50 ∨ t = 57 := by simpa using ht
        have n49 : t ≠ 49 := by rintro rfl; simp at ht
        have n49' : ¬ 49 = t := fun e => n49 e.symm
        have f4 : appFine 1 4 out.length true none (some ⟨1, rows out, true, false⟩) (some [.v (.int .i32 (-1))]) := by
          rw [appFine_n]; refine ⟨rfl, by simp, .inr ⟨?_, rfl⟩⟩; simpa using f2
        have hst' := fun m H' => hst t (H.gen 0 t) m H' ht'
        clear hst ht
        simp [new_ne, ne_new, new_ne1, ne_new1, gen_put', *, VC_q4_Get_5, hx.idx]
        exact hfit' _ _ (by simp (maxDischargeDepth := 12) [Heap.get_put, Fr_cons, Fr_consK, Fr.nil, Fr_put, new_ne, ne_new, new_ne1, ne_new1, get_new, get_new1, gen_put', *]) (hst' _ _ (by simp) (by simp [aR]))
    · cases hv : validB (val [a, b, c, d]) with
      | false =>
        have hq : runeB (word a b c d) = false := by
          rw [hwd, if_neg hm1]
          simp only [validB, Bool.or_eq_false_iff, Bool.and_eq_false_iff, decide_eq_false_iff_not] at hv
          simp only [runeB, Bool.or_eq_false_iff, Bool.and_eq_false_iff, decide_eq_false_iff_not]
          split <;> omega
        have hQ' := hbadc hq H
        have hI := s_R4Is (val [a, b, c, d])
        rw [hv] at hI
        clear hfit hst hbadc hwd hq hO hN
        refine vc_q4_Get_5 _ _ _ _ _ fun g => ?_
        simp [new_ne, ne_new, new_ne1, ne_new1, gen_put', *, VC_q4_Get_5, hx.idx]
        all_goals exact hQ'
      | true =>
        have hb : val [a, b, c, d] < 2147483648 ∧ runeB (val [a, b, c, d]) = true := by
          simp only [validB, Bool.or_eq_true, Bool.and_eq_true, decide_eq_true_eq] at hv
          simp only [runeB, Bool.or_eq_true, Bool.and_eq_true, decide_eq_true_eq]
          omega
        have hW : word a b c d = val [a, b, c, d] := by rw [hwd, if_neg hm1, if_pos hb.1]
        rw [hW] at hst hfit hbadc
        have hfit' := hfit hb.2
        have hI := s_R4Is (val [a, b, c, d])
        rw [hv] at hI
        have hcv : IntKind.i32.wrap (val [a, b, c, d]) = val [a, b, c, d] := by rw [IntKind.wrap_i32]; omega
        have hcv2 := fun (g : Get) (r : Ref) => qConv_int (P := env.P) (g := g) (r := r) (src := 3) (dst := 21) .i32 (k' := .i64) (by kernel_rfl) (by kernel_rfl) (val [a, b, c, d])
        rw [hcv] at hcv2
        clear hfit hbadc hwd hb hW hv hcv
        generalize val [a, b, c, d] = w at *
        refine vc_q4_Get_5 _ _ _ _ _ fun g => ?_
        rcases hO with ⟨rfl, hz⟩ | ⟨t, gg, ht, rfl, hrr⟩
        · have hz' : out = [] := by simpa using hz
          subst hz'
          have hst' := hst 57 (H.gen 0 57) 1
          clear hst
          simp [new_ne, ne_new, new_ne1, ne_new1, gen_put', *, VC_q4_Get_5, hx.idx]
          exact hfit' _ _ (by simp (maxDischargeDepth := 12) [Heap.get_put, Fr_cons, Fr_consK, Fr.nil, Fr_put, new_ne, ne_new, new_ne1, ne_new1, get_new, get_new1, gen_put', *]) (hst' _ (.inr rfl) rfl (by simp [aR]))
        · have l6 : (H.get ⟨0, t, gg, 0⟩).isSome = true := by rw [hrr]; rfl
          have ht' : t = 50 ∨ t = 57 := by simpa using ht
          have n49 : t ≠ 56 := by rintro rfl; simp at ht
          have n49' : ¬ 56 = t := fun e => n49 e.symm
          have f4 : appFine 1 4 out.length true none (some ⟨1, rows out, true, false⟩) (some [.v (.int .i32 w)]) := by
            rw [appFine_n]; refine ⟨rfl, by simp, .inr ⟨?_, rfl⟩⟩; simpa using f2
          have hst' := fun m H' => hst t (H.gen 0 t) m H' ht'
          clear hst ht
          simp [new_ne, ne_new, new_ne1, ne_new1, gen_put', *, VC_q4_Get_5, hx.idx]
          exact hfit' _ _ (by simp (maxDischargeDepth := 12) [Heap.get_put, Fr_cons, Fr_consK, Fr.nil, Fr_put, new_ne, ne_new, new_ne1, ne_new1, get_new, get_new1, gen_put', *]) (hst' _ _ (by simp) (by simp [aR]))
end Go.Proofs.Ytehkjjcdkbcebaa
