/-
  Records there and back: the law's own run. No statement of a seat is proved here.
-/
import Derived.Test.YtehkjjcdkbcebaaRecMath
import Derived.Test.YtehkjjcdkbcebaaRbVl10
set_option linter.unusedVariables false
set_option linter.unusedSimpArgs false
set_option linter.unusedSectionVars false
set_option linter.unnecessarySimpa false
set_option maxRecDepth 100000
namespace Go.Proofs.Ytehkjjcdkbcebaa
open Go.Ab
attribute [local simp] depth_eq callRes_V callG_frz callG_own keep thr appRes_G appFine_n appFine_s appG_n appG_s roomB appRes_I islFine_some islG_ne List.take_of_length_le
theorem rec_alive : limf env 40 [] = some (aB true) := limf_spec rfl
theorem writeAt_blk {B : List (List UInt8)} {k : Nat} (hk : k < B.length) (b : List UInt8) : writeAt (blkVs B) k 0 [.isl 1 (by8 b) none] = some (blkVs (B.set k b)) := by
  have h : (blkVs B)[k]? = some (blkV B[k]) := by simp [blkVs, List.getElem?_eq_getElem hk]
  unfold writeAt
  rw [h]
  show some ((blkVs B).set k (blkV b)) = _
  simp [blkVs, List.map_set]
theorem blkVs_get {B : List (List UInt8)} {k : Nat} {b : List UInt8} (h : B[k]? = some b) : (blkVs B)[k]? = some (.isl 1 (by8 b) none) := by simp [blkVs, h, blkV]
theorem read_blk {B : List (List UInt8)} {k : Nat} {b : List UInt8} (h : B[k]? = some b) : readAt (blkVs B) k 0 1 false = some (.isl 1 (by8 b) none) := by
  unfold readAt
  rw [blkVs_get h]
  rfl
theorem badG_eq : badG = .tup [.agg [a8 0, aI 0, a8 0, a8 0, a32 0, a8 0, aI 0, a8 0, a32 0, a8 0, aI 0, aI 0, a8 0, a32 0, a8 0, aI 0, a8 0, a32 0, aNil, aI 0, aI 0, a8 0, a32 0, aB false], .agg [aI 0, aI 0, aI 0, aI 0], aI 8] := rfl
theorem cat_small {B : List (List UInt8)} (h : ∀ b ∈ B, b.length = 128) (hl : B.length ≤ 4) : (catB B).length < 100000 := by
  have : ∀ B : List (List UInt8), (∀ b ∈ B, b.length = 128) → (catB B).length ≤ 128 * B.length := by
    intro B
    induction B with
    | nil => intro _; simp [catB]
    | cons b B ih =>
      intro h
      have h1 := ih fun x hx => h x (List.mem_cons_of_mem _ hx)
      have h2 := h b (List.mem_cons_self ..)
      have e : catB (b :: B) = b.drop 9 ++ catB B := rfl
      rw [e, List.length_append, List.length_drop, List.length_cons]
      omega
  have := this B h
  omega
theorem s_getN {l : List (List UInt8)} (h4 : l.length ≤ 4) (hc : ∀ b ∈ l, b.length = 128) (hn : getR l = none) : limf env 42 [.isl 1 (blkVs l) none] = some badG := by
  have h := s_RecGet (x0 := .isl 1 (blkVs l) none) (l := l.map fun b => (b, blkV b)) (by rw [blkV_bV]; exact Sl.mk _ _) (blkV_ok _) (by simp; omega) (by rw [blkV_byB]; exact cat_small hc h4)
  rw [blkV_byB] at h
  rw [h]
  unfold getRA
  rw [hn]
theorem s_mixed {B X : List (List UInt8)} {k : Nat} {b : List UInt8} (hl : X.length = B.length) (hB : 2 ≤ B.length) (hk : X[k]? = some b) (h4 : B.length ≤ 4) (hc : ∀ b ∈ B, b.length = 128) (hb : b.length = 128) (hn : getR (B.set k b) = none) :
    limf env 45 [.isl 1 (blkVs B) none, .isl 1 (blkVs X) none, aI k] = some (aB true) := by
  refine limf_of (fn := Try.f45) (c := bd_blindstamplaw11_mixed) rfl (by kernel_rfl) (by kernel_rfl) (by kernel_rfl) (by kernel_rfl) ?_; refine vc_blindstamplaw11_mixed _ _ _ _ _ fun g => ?_
  have hkl : k < X.length := (List.getElem?_eq_some_iff.1 hk).1
  have hG := s_getN (l := B.set k b) (by simpa using h4) (fun x hx => by rcases List.mem_or_eq_of_mem_set hx with h | h; exact hc x h; rw [h]; exact hb) hn
  have hne : blkVs B ≠ [] := by intro e; have := congrArg List.length e; simp at this; rw [this] at hB; simp at hB
  have hw := writeAt_blk (B := B) (k := k) (by omega) b
  have hX := read_blk hk
  have h1 : (k : Int) < X.length := by omega
  have h2 : (k : Int) < B.length := by omega
  have h3 : (B.length : Int) ≤ 4 := by omega
  have h5 : B.length * 24 ≤ 140737488355328 := by omega
  have hli : (X.length : Int) = B.length := by omega
  rw [badG_eq] at hG
  clear hn hc hb hk
  simp [new_ne, ne_new, new_ne1, ne_new1, gen_put', *, VC_blindstamplaw11_mixed]
theorem blkVs_take (B : List (List UInt8)) (k : Nat) : (blkVs B).take k = blkVs (B.take k) := by simp [blkVs, List.map_take]
theorem blkVs_drop (B : List (List UInt8)) (k : Nat) : (blkVs B).drop k = blkVs (B.drop k) := by simp [blkVs, List.map_drop]
theorem blkVs_app (B C : List (List UInt8)) : blkVs B ++ blkVs C = blkVs (B ++ C) := by simp [blkVs]
theorem blkVs_ne {B : List (List UInt8)} (h : B ≠ []) : blkVs B ≠ [] := by simpa [blkVs] using h
theorem wAppend_nilN (P : Program) (H : Heap) (t t' : Option TypeId) (v : AV) : wAppend P H t t' (.v (.slice none 0 0)) v = none := by
  unfold wAppend
  cases t.bind (telem P) with
  | none => rfl
  | some e =>
    dsimp only
    split
    · rfl
    · cases tsize P e <;> cases tbytes P e <;> cases tzero P e <;> cases newOf P H.get e v <;> dsimp only <;> (try rfl)
      all_goals (first | rfl | (split <;> rfl))
theorem appRes_nilF {P : Program} {H : Heap} {r : Ref} {t t' : Option TypeId} {v : AV} {p : AV × Heap} (h : appRes P true H r t t' aNil v = some p) : appRes P false H r t t' aNil v = some p := by
  unfold appRes at h ⊢
  rw [show aNil = .v (.slice none 0 0) from rfl] at h ⊢
  rw [wAppend_nilN] at h ⊢
  unfold orW at h ⊢
  split at h
  · exact h
  · cases h
theorem blocks128 {r : Rcd} {st nu : Int} (hI : recIs r = true) (hh : headB st nu 0 (recN r) = true) : ∀ b ∈ blocksR r st nu, b.length = 128 := by
  intro b hb
  obtain ⟨i, hi⟩ := List.mem_iff_getElem?.1 hb
  have := (List.getElem?_eq_some_iff.1 hi).1
  rw [blocksR_len hI] at this
  exact (blocksR_head hh hi this).2.2
section
variable {r : Rcd} {x : AV} (hx : Sl 1 (rows r.op.l) x) (hl : r.op.l.length ≤ 1000) {st nu : Int} (hI : recIs r = true) (hh : headB st nu 0 (recN r) = true)
include hx hl hI hh
theorem back_end (other kk : Int) {H : Heap} {r5 : Ref} (h5 : H.get r5 = some ⟨24, [r.val x], false, false⟩) (hF : Fr H) {Q : AV → Heap → Prop} (hQ : ∀ H', Q (aB true) H') {i : Int} (hi : i = recN r) :
    GoL env Try.f10 0 hd_blindstamplaw11_RecordBack_11 [(17, aI i), (12, .isl 1 (blkVs (blocksR r st nu)) none), (2, aI nu), (1, aI st), (11, aB true), (4, aI kk), (3, aI other), (5, .ptr r5 0 0)] H Q := by
  subst hi
  have hlen := blocksR_len hI st nu
  have hn := recN_le hI
  refine vc_blindstamplaw11_RecordBack_11 _ _ _ _ _ _ _ _ _ _ fun g => ?_
  by_cases h2 : recN r < 2
  · have h2' : ((recN r : Nat) : Int) < 2 := by omega
    simp [new_ne, ne_new, new_ne1, ne_new1, gen_put', *, VC_blindstamplaw11_RecordBack_11]
  have h2' : ¬ ((recN r : Nat) : Int) < 2 := by omega
  by_cases hk0 : kk < 0
  · simp [new_ne, ne_new, new_ne1, ne_new1, gen_put', *, VC_blindstamplaw11_RecordBack_11]
  by_cases hk1 : kk ≥ (recN r : Nat)
  · have hk1' : (recN r : Int) ≤ kk := hk1
    simp [new_ne, ne_new, new_ne1, ne_new1, gen_put', *, VC_blindstamplaw11_RecordBack_11]
  obtain ⟨k, rfl⟩ := Int.eq_ofNat_of_zero_le (show 0 ≤ kk by omega)
  have hk : k < recN r := by omega
  have hk2 : ¬ (recN r : Int) ≤ k := by omega
  have hk3 : ¬ (k : Int) < 0 := by omega
  have hk4 : (k : Int) + 1 ≤ recN r := by omega
  have hk5 : (0 : Int) ≤ (k : Int) + 1 := by omega
  have hk6 : (k : Int) ≤ recN r := by omega
  have hn0 : recN r ≠ 0 := by omega
  have w1 : IntKind.i64.wrap ((k : Int) + 1) = ((k + 1 : Nat) : Int) := by rw [IntWalk.i64_in _ (by omega)]; omega
  clear hk0 hk1
  have hp1 := s_RecPut r hx (by omega) other nu
  have hp2 := s_RecPut r hx (by omega) st other
  unfold putRA at hp1 hp2
  rw [hI, if_pos rfl] at hp1 hp2
  have hless := getR_less hI hh (by omega) hk
  have h128 := blocks128 hI hh
  have hj : (k + 1) % recN r < recN r := Nat.mod_lt _ (by omega)
  have hkj : k ≠ (k + 1) % recN r := by
    by_cases e : k + 1 = recN r
    · rw [e, Nat.mod_self]; omega
    · rw [Nat.mod_eq_of_lt (by omega)]; omega
  obtain ⟨bk, hbk⟩ : ∃ b, (blocksR r st nu)[k]? = some b := ⟨_, List.getElem?_eq_getElem (by omega)⟩
  obtain ⟨bj, hbj⟩ : ∃ b, (blocksR r st nu)[(k + 1) % recN r]? = some b := ⟨_, List.getElem?_eq_getElem (by omega)⟩
  have hturn := getR_turned hI hh (by omega) hk hj hkj hbk hbj
  have m1 : ¬ other = st → headB other nu 0 (recN r) = true → limf env 45 [.isl 1 (blkVs (blocksR r st nu)) none, .isl 1 (blkVs (blocksR r other nu)) none, aI k] = some (aB true) := by
    intro hne ho
    have hl2 := blocksR_len hI other nu
    obtain ⟨b, hb⟩ : ∃ b, (blocksR r other nu)[k]? = some b := ⟨_, List.getElem?_eq_getElem (by omega)⟩
    exact s_mixed (by omega) (by omega) hb (by omega) h128 (blocksR_head ho hb hk).2.2 (getR_mixed hI hh (by omega) ho (.inl hne) hk hb)
  have m2 : ¬ other = nu → headB st other 0 (recN r) = true → limf env 45 [.isl 1 (blkVs (blocksR r st nu)) none, .isl 1 (blkVs (blocksR r st other)) none, aI k] = some (aB true) := by
    intro hne ho
    have hl2 := blocksR_len hI st other
    obtain ⟨b, hb⟩ : ∃ b, (blocksR r st other)[k]? = some b := ⟨_, List.getElem?_eq_getElem (by omega)⟩
    exact s_mixed (by omega) (by omega) hb (by omega) h128 (blocksR_head ho hb hk).2.2 (getR_mixed hI hh (by omega) ho (.inr hne) hk hb)
  generalize hj0 : (k + 1) % recN r = j at *
  have g1 := s_getN (l := (blocksR r st nu).take k ++ (blocksR r st nu).drop (k + 1)) (by simp; omega) (fun b hb => by
    rcases List.mem_append.1 hb with h | h
    · exact h128 b (List.mem_of_mem_take h)
    · exact h128 b (List.mem_of_mem_drop h)) hless
  have g2 := s_getN (l := ((blocksR r st nu).set k bj).set j bk) (by simp; omega) (fun b hb => by
    rcases List.mem_or_eq_of_mem_set hb with h | h
    · rcases List.mem_or_eq_of_mem_set h with h | h
      · exact h128 b h
      · rw [h]; exact h128 _ (List.mem_of_getElem? hbj)
    · rw [h]; exact h128 _ (List.mem_of_getElem? hbk)) hturn
  have hnl : ((blocksR r st nu).take k ++ (blocksR r st nu).drop (k + 1)) ≠ [] := by intro e; have := congrArg List.length e; rw [List.length_append, List.length_take, List.length_drop, List.length_nil] at this; omega
  have hne0 : blkVs (blocksR r st nu) ≠ [] := by intro e; have := congrArg List.length e; rw [blkVs_len, List.length_nil] at this; omega
  clear hless hturn h128
  generalize hX1 : blocksR r other nu = X1 at *
  generalize hX2 : blocksR r st other = X2 at *
  generalize hBd : blocksR r st nu = B at *
  have s2 : Sl 1 (blkVs (B.take k)) (.isl 1 (blkVs (B.take k)) none) := Sl.mk _ _
  have s4 : Sl 1 (blkVs (B.drop (k + 1))) (.isl 1 (blkVs (B.drop (k + 1))) none) := Sl.mk _ _
  have hap := app_ownN (P := env.P) (t := 76) (t' := 76) (z := 1) (by' := 24) (by kernel_rfl) (by kernel_rfl) H 0 132 (own_nil 1 H) (s2.els H.get) (by rw [blkVs_len]; show (0 + (B.take k).length) * 24 ≤ 140737488355328; rw [List.length_take]; omega) hF
  obtain ⟨v14, H1, a1, a2, a3, a4⟩ := hap
  rw [List.nil_append] at a2
  replace a1 := appRes_nilF a1
  have hap2 := app_ownN (P := env.P) (t := 76) (t' := 76) (z := 1) (by' := 24) (by kernel_rfl) (by kernel_rfl) H1 0 137 a2 (s4.els H1.get) (by rw [blkVs_len, blkVs_len]; show ((B.take k).length + (B.drop (k + 1)).length) * 24 ≤ 140737488355328; rw [List.length_take, List.length_drop]; omega) a3
  obtain ⟨v17, H2, b1, b2, b3, b4⟩ := hap2
  rw [blkVs_app] at b2
  have h51 := a4 _ _ h5 (by simp [AV.at?])
  have h52 := b4 _ _ h51.1 h51.2
  obtain ⟨q, rfl, hq⟩ := b2.osl (blkVs_ne hnl)
  have hq5 : q ≠ r5 := fun e => h52.2 (by rw [e]; rfl)
  have h5' := h52.1
  rw [badG_eq] at g1 g2
  clear a2 b2 a4 b4 s2 s4 h51 h52 h5
  have hb24 : recN r * 24 ≤ 140737488355328 := by omega
  have hj' : (j : Int) < recN r := by omega
  have hk' : (k : Int) < recN r := by omega
  have hrem0 : ((k : Int) + 1).tmod (recN r : Int) = j := by
    rw [Int.tmod_eq_emod_of_nonneg (by omega)]
    have : (((k + 1) % recN r : Nat) : Int) = ((k : Int) + 1) % (recN r : Int) := by simp
    rw [← this, hj0]
  have hrem : ∀ xo yo, qBin env.P .rem 3 xo yo (some (.v (.int .i64 ((k : Int) + 1)))) (some (aI (recN r))) = some (aI j, []) := by
    intro xo yo
    have := qBin_rem (P := env.P) (t := 3) (xo := xo) (yo := yo) (k := .i64) (a := (k : Int) + 1) (b := recN r) (by omega)
    rw [hrem0] at this
    exact this
  have hrem2 : ∀ xo yo, qBin env.P .rem 3 xo yo (some (aI ((k : Int) + 1))) (some (aI (recN r))) = some (aI j, []) := hrem
  have q1 := read_blk hbj
  have q2 := read_blk hbk
  have q3 := writeAt_blk (B := B) (k := k) (by omega) bj
  have q4 := writeAt_blk (B := B.set k bj) (k := j) (by simp; omega) bk
  have hr := hx.r
  unfold Rcd.val at hp1 hp2 h5'
  clear hrem0 hbk hbj hj0 hI hh
  generalize headB other nu 0 (recN r) = e1 at *
  generalize headB st other 0 (recN r) = e2 at *
  have n1 : other = st ∨ (¬ other = st ∧ (e1 = true → limf env 45 [.isl 1 (blkVs B) none, .isl 1 (blkVs X1) none, aI k] = some (aB true))) := by
    by_cases c : other = st
    · exact .inl c
    · exact .inr ⟨c, m1 c⟩
  have n2 : other = nu ∨ (¬ other = nu ∧ (e2 = true → limf env 45 [.isl 1 (blkVs B) none, .isl 1 (blkVs X2) none, aI k] = some (aB true))) := by
    by_cases c : other = nu
    · exact .inl c
    · exact .inr ⟨c, m2 c⟩
  clear m1 m2 hX1 hX2 hBd
  have fin : ∀ (o1 o2 : Bool), decide (other = st) = o1 → decide (other = nu) = o2 → (o1 = false → e1 = true → limf env 45 [.isl 1 (blkVs B) none, .isl 1 (blkVs X1) none, aI k] = some (aB true)) →
      (o2 = false → e2 = true → limf env 45 [.isl 1 (blkVs B) none, .isl 1 (blkVs X2) none, aI k] = some (aB true)) →
      VC_blindstamplaw11_RecordBack_11 g (aI (recN r)) (.isl 1 (blkVs B) none) (aI nu) (aI st) (aB true) (aI k) (aI other) (.ptr r5 0 0) H Q := by
    intro o1 o2 f1 f2 f3 f4
    clear n1 n2
    cases e1 <;> cases e2 <;> cases o1 <;> cases o2 <;> simp only [forall_const, true_implies, Bool.false_eq_true, false_implies, Bool.true_eq_false, if_true, if_false, reduceIte] at f3 f4 hp1 hp2
    all_goals (simp only [decide_eq_true_eq, decide_eq_false_iff_not] at f1 f2)
    all_goals (try (obtain rfl := f1))
    all_goals (try (obtain rfl := f2))
    all_goals (simp [new_ne, ne_new, new_ne1, ne_new1, gen_put', *, VC_blindstamplaw11_RecordBack_11, blkVs_take, blkVs_drop])
  rcases n1 with n1 | ⟨n1, n1'⟩ <;> rcases n2 with n2 | ⟨n2, n2'⟩
  · exact fin true true (decide_eq_true n1) (decide_eq_true n2) (by simp) (by simp)
  · exact fin true false (decide_eq_true n1) (decide_eq_false n2) (by simp) (fun _ => n2')
  · exact fin false true (decide_eq_false n1) (decide_eq_true n2) (fun _ => n1') (by simp)
  · exact fin false false (decide_eq_false n1) (decide_eq_false n2) (fun _ => n1') (fun _ => n2')
theorem back_loop (other kk : Int) {r5 : Ref} {Q : AV → Heap → Prop} (hQ : ∀ H', Q (aB true) H') : ∀ (s : List (List UInt8)) (k : Nat) (i : Int) (H : Heap), (blocksR r st nu).drop k = s → k ≤ (blocksR r st nu).length → i = k →
    H.get r5 = some ⟨24, [r.val x], false, false⟩ → Fr H →
    GoL env Try.f10 0 hd_blindstamplaw11_RecordBack_11 [(17, aI i), (12, .isl 1 (blkVs (blocksR r st nu)) none), (2, aI nu), (1, aI st), (11, aB true), (4, aI kk), (3, aI other), (5, .ptr r5 0 0)] H Q := by
  intro s
  induction s with
  | nil =>
    rintro k i H hs hk rfl h5 hF
    obtain rfl := drop_nil hs hk
    exact back_end hx hl hI hh other kk h5 hF hQ (by rw [blocksR_len hI])
  | cons b s ih =>
    rintro k i H hs hk rfl h5 hF
    obtain ⟨hlt, hg, hs', hg'⟩ := drop_cons hs
    have hlen := blocksR_len hI st nu
    have hn := recN_le hI
    obtain ⟨e1, e2, e3⟩ := blocksR_head hh hg' (by omega)
    have hd := s_recHead (x := .isl 1 (by8 b) none) (b := b) (Sl.mk _ _)
    rw [e1, e2, if_pos rfl] at hd
    unfold Hd.val at hd
    have q1 := read_blk hg'
    have c1 : (k : Int) < recN r := by omega
    have c2 : b.length = 128 := e3
    have w1 := IntWalk.i64_in ((k : Int) + 1) (by omega)
    have l5 : (H.get r5).isSome = true := by rw [h5]; rfl
    have ih' := fun H => ih (k + 1) ((k : Int) + 1) H hs' (by omega) (by simp)
    clear ih hs hg hs' hg' e1 e2 e3 hI hh
    refine vc_blindstamplaw11_RecordBack_11 _ _ _ _ _ _ _ _ _ _ fun g => ?_
    generalize blocksR r st nu = B at *
    simp [new_ne, ne_new, new_ne1, ne_new1, gen_put', *, VC_blindstamplaw11_RecordBack_11, eqA, eqFs]
    exact ih' _ (by simp (maxDischargeDepth := 12) [Fr_cons, Fr_consK, Fr.nil, Fr_put, new_ne, ne_new, new_ne1, ne_new1, get_new, get_new1, gen_put', *]) (by simp (maxDischargeDepth := 12) [Fr_cons, Fr_consK, Fr.nil, Fr_put, new_ne, ne_new, new_ne1, ne_new1, get_new, get_new1, gen_put', *])
end
theorem s_sameV (r : Rcd) {x y : AV} (hx : Sl 1 (rows r.op.l) x) (hy : Sl 1 (rows r.op.l) y) (hl : r.op.l.length < 1000000000) : limf env 43 [r.val x, r.val y] = some (aB true) := by
  obtain ⟨k, u, ⟨a_1, ⟨a_2, a_3, a_4⟩, a_5, ⟨⟨⟨a_6, a_7, a_8⟩, a_9⟩, a_10⟩, ⟨⟨a_11, a_12, a_13⟩, a_14⟩, ⟨a_15, a_16⟩, l⟩, c, g1, v, w, o⟩ := r
  have h := s_RecSame k k u u a_1 a_2 a_3 a_4 a_5 a_6 a_7 a_8 a_9 a_10 a_11 a_12 a_13 a_14 a_15 a_16 a_1 a_2 a_3 a_4 a_5 a_6 a_7 a_8 a_9 a_10 a_11 a_12 a_13 a_14 a_15 a_16 c c g1 g1 v v w w o o hx hy hl
  rw [sameR_refl] at h
  exact h
theorem back_law (r : Rcd) {x : AV} (hx : Sl 1 (rows r.op.l) x) (st nu other kk : Int) : limf env 10 [r.val x, aI st, aI nu, aI other, aI kk] = some (aB true) := by
  refine limf_of (fn := Try.f10) (c := bd_blindstamplaw11_RecordBack) rfl (by kernel_rfl) (by kernel_rfl) (by kernel_rfl) (by kernel_rfl) ?_; refine vc_blindstamplaw11_RecordBack _ _ _ _ _ _ _ fun g => ?_
  have al := rec_alive
  have hr := hx.r
  by_cases q1 : (1000 : Int) < r.op.l.length
  · unfold Rcd.val
    simp [new_ne, ne_new, new_ne1, ne_new1, gen_put', *, VC_blindstamplaw11_RecordBack]
  have hp := s_RecPut r hx (by omega) st nu
  unfold putRA at hp
  cases hI : recIs r with
  | false =>
    rw [hI, if_neg (by decide)] at hp
    unfold Rcd.val at hp ⊢
    clear hI
    simp [new_ne, ne_new, new_ne1, ne_new1, gen_put', *, VC_blindstamplaw11_RecordBack]
  | true =>
    cases hh : headB st nu 0 (recN r) with
    | false =>
      rw [hI, hh, if_pos rfl, if_neg (by decide)] at hp
      unfold Rcd.val at hp ⊢
      clear hI hh
      simp [new_ne, ne_new, new_ne1, ne_new1, gen_put', *, VC_blindstamplaw11_RecordBack]
    | true =>
      rw [hI, hh, if_pos rfl, if_pos rfl] at hp
      have hlen := blocksR_len hI st nu
      have hn := recN_le hI
      have hgo := fun H => back_loop hx (by omega) hI hh other kk (r5 := ⟨0, 5, 0, 0⟩) (Q := fun v H => handed env 10 v H (aB true)) (fun H' => by simp) (blocksR r st nu) 0 0 H rfl (by omega) rfl
      have hG := s_RecGet (x0 := .isl 1 (blkVs (blocksR r st nu)) none) (l := (blocksR r st nu).map fun b => (b, blkV b)) (by rw [blkV_bV]; exact Sl.mk _ _) (blkV_ok _) (by simp; omega) (by rw [blkV_byB]; exact cat_small (blocks128 hI hh) (by omega))
      rw [blkV_byB] at hG
      unfold getRA at hG
      rw [getR_blocks hI hh] at hG
      have hS := s_sameV r (runG_sl r.op.l) hx (by omega)
      have hrr := (runG_sl r.op.l).r
      unfold Rcd.val at hp hS hgo ⊢
      simp only at hG
      unfold Rcd.val Hd.val at hG
      generalize runG r.op.l = ro at *
      generalize hB : blocksR r st nu = B at *
      clear hI hh hB
      simp [new_ne, ne_new, new_ne1, ne_new1, gen_put', *, VC_blindstamplaw11_RecordBack, eqA, eqFs]
      exact hgo _ (by simp (maxDischargeDepth := 12) [Fr_cons, Fr_consK, Fr.nil, Fr_put, new_ne, ne_new, new_ne1, ne_new1, get_new, get_new1, gen_put', *]) (by simp (maxDischargeDepth := 12) [Fr_cons, Fr_consK, Fr.nil, Fr_put, new_ne, ne_new, new_ne1, ne_new1, get_new, get_new1, gen_put', *])
end Go.Proofs.Ytehkjjcdkbcebaa
