/-
  Pens: numbers written and read. No statement of a seat is proved here.
-/
import Derived.Test.YtehkjjcdkbcebaaRdFns3
import Derived.Test.YtehkjjcdkbcebaaMlVc4
set_option linter.unusedVariables false
set_option linter.unusedSimpArgs false
set_option linter.unusedSectionVars false
set_option linter.unnecessarySimpa false
set_option maxRecDepth 100000
namespace Go.Proofs.Ytehkjjcdkbcebaa
open Go.Ab
attribute [local simp] depth_eq callRes_V callG_frz callG_own keep thr appRes_G appFine_n appFine_s appG_n appG_s roomB appRes_I islFine_some islG_ne List.take_of_length_le
structure NumCell (rn : Ref) (i j : Nat) (blk : Int → Blk) : Prop where
  load : ∀ (g : Get) v, g rn = some (blk v) → qLoad env.P g 3 (some (.ptr rn i j)) = some (aI v, [])
  store : ∀ (H : Heap) v w, H.get rn = some (blk v) → wStore env.P H 3 (some (.ptr rn i j)) (some (aI w)) = some (.undef, H.put rn (some (blk w)))
structure PenW (H : Heap) (r q : Ref) (c : Option Nat) (bs : List UInt8) (bad : Bool) : Prop where
  box : H.get r = some ⟨3, [.agg [.osl q 0 bs.length c, aB false, aB bad]], false, false⟩
  row : H.get q = some ⟨1, by8 bs, true, false⟩
  ne : q ≠ r
  cap : c = none ∨ (c = some 1 ∧ bs.length = 1)
  few : bs.length < 1000000
theorem pen_step (dep : Nat) {H : Heap} {r q rn : Ref} {c : Option Nat} {bs : List UInt8} {bad : Bool} {ii jj : Nat} {blk : Int → Blk} {n : Int} (hN : NumCell rn ii jj blk) (hn : H.get rn = some (blk n)) (h1 : rn ≠ r) (h2 : rn ≠ q) (hF : Fr H) (hP : PenW H r q c bs bad) (i : Nat) (hi : i ≤ 2) (hfw : bs.length + 1 < 1000000) {Q : AV → Heap → Prop}
    (hQ : ∀ q' H', H.get q' = none → PenW H' r q' none (bs ++ [u8 (n / 256 ^ i)]) bad → Fr H' → (∀ p b, p ≠ r → p ≠ q → H.get p = some b → H'.get p = some b) → (q'.t = q.t ∨ q'.t = 55) → GoL env Try.f114 (dep + 1) hd___blindstamp_mail_pen__number_3 [(6, aI ((i : Int) - 1)), (1, .ptr rn ii jj), (0, .ptr r 0 0)] H' Q) :
    GoL env Try.f114 (dep + 1) hd___blindstamp_mail_pen__number_3 [(6, aI (i : Int)), (1, .ptr rn ii jj), (0, .ptr r 0 0)] H Q := by
  refine vc___blindstamp_mail_pen__number_3 _ _ _ _ _ _ fun g => ?_
  obtain ⟨box, row, ne, cap, few⟩ := hP
  have hl := hN.load H.get n hn
  have l1 : (H.get r).isSome = true := by rw [box]; rfl
  have l2 : (H.get q).isSome = true := by rw [row]; rfl
  have ne' := ne.symm
  have w1 := IntWalk.i64_in (8 * (i : Int)) (by omega)
  have w2 := IntWalk.i64_in ((i : Int) - 1) (by omega)
  have hsh := fun t xo yo => qBin_shr env.P t xo yo .i64 n (8 * (i : Int)) (yk := .i64) (by omega)
  have hpw : n.fdiv (2 ^ min (8 * (i : Int)).toNat IntKind.i64.bits) = n / 256 ^ i := by
    have : i = 0 ∨ i = 1 ∨ i = 2 := by omega
    rcases this with rfl | rfl | rfl
    · exact Int.fdiv_eq_ediv_of_nonneg _ (by decide)
    · exact Int.fdiv_eq_ediv_of_nonneg _ (by decide)
    · exact Int.fdiv_eq_ediv_of_nonneg _ (by decide)
  rw [hpw] at hsh
  clear hpw
  generalize n / 256 ^ i = d at *
  have f1 : bs.length + 1 ≤ 140737488355328 := by omega
  have hbl : (by8 bs).length = bs.length := by simp
  have e8 : by8 (bs ++ [u8 d]) = by8 bs ++ [a8 (u8 d)] := by simp [by8]
  rcases cap with rfl | ⟨rfl, c1⟩
  · obtain ⟨qd, qt, qg, qk⟩ := q
    simp [new_ne, ne_new, new_ne1, ne_new1, gen_put', *, VC___blindstamp_mail_pen__number_3]
    refine hQ ⟨qd, qt, H.gen qd qt, 0⟩ _ (get_new hF _ _ _) ⟨?_, ?_, ?_, .inl rfl, ?_⟩ (by simp (maxDischargeDepth := 12) [Heap.get_put, Fr_cons, Fr_consK, Fr.nil, Fr_put, new_ne, ne_new, new_ne1, ne_new1, get_new, get_new1, gen_put', *]) (fun p b hp1 hp2 hb => ?_) (.inl rfl)
    · simp [Heap.get_put, new_ne, ne_new, *]
    · rw [e8]; simp
    · exact live_ne hF l1 _ _ _
    · simpa using hfw
    · have lp : (H.get p).isSome = true := by rw [hb]; rfl
      have hp1' := hp1.symm
      have hp2' := hp2.symm
      simp [Heap.get_put, new_ne, ne_new, *]
  · simp [new_ne, ne_new, new_ne1, ne_new1, gen_put', *, VC___blindstamp_mail_pen__number_3]
    refine hQ ⟨dep + 1, 55, H.gen (dep + 1) 55, 0⟩ _ (get_new hF _ _ _) ⟨?_, ?_, ?_, .inl rfl, ?_⟩ (by simp (maxDischargeDepth := 12) [Heap.get_put, Fr_cons, Fr_consK, Fr.nil, Fr_put, new_ne, ne_new, new_ne1, ne_new1, get_new, get_new1, gen_put', *]) (fun p b hp1 hp2 hb => ?_) (.inr rfl)
    · simp [Heap.get_put, new_ne, ne_new, *]
    · rw [e8]; simp
    · exact live_ne hF l1 _ _ _
    · simpa using hfw
    · have lp : (H.get p).isSome = true := by rw [hb]; rfl
      have hp1' := hp1.symm
      simp [Heap.get_put, new_ne, ne_new, *]
structure NumW (H H' : Heap) (r q : Ref) (bs : List UInt8) (bad : Bool) : Prop where
  pen : ∃ q', PenW H' r q' none bs bad ∧ (q'.t = q.t ∨ q'.t = 55)
  fr : Fr H'
  old : ∀ p b, p ≠ r → p ≠ q → H.get p = some b → H'.get p = some b
def numBad (many : Nat) (n : Int) : Bool := decide (n < 0) || decide (256 ^ many ≤ n)
theorem number_w (dep : Nat) {H : Heap} {r q rn : Ref} {c : Option Nat} {bs : List UInt8} {bad : Bool} {ii jj : Nat} {blk : Int → Blk} {n : Int} (hN : NumCell rn ii jj blk) (hn : H.get rn = some (blk n)) (h1 : rn ≠ r) (h2 : rn ≠ q) (hF : Fr H) (hP : PenW H r q c bs bad) (hfew : bs.length < 900000) (many : Nat) (hm : many = 1 ∨ many = 2 ∨ many = 3) :
    ∃ y H', limt env dep (.fn 114) [.ptr r 0 0, .ptr rn ii jj, aI many] H = some (y, H') ∧ NumW H H' r q (bs ++ be many n) (bad || numBad many n) := by
  refine limtQ_of (fn := Try.f114) (c := bd___blindstamp_mail_pen__number) (by kernel_rfl) (by kernel_rfl) (by kernel_rfl) (by kernel_rfl) (by kernel_rfl) ?_
  refine vc___blindstamp_mail_pen__number _ _ _ _ _ _ fun g => ?_
  obtain ⟨box, row, ne, cap, few⟩ := hP
  have hl := hN.load H.get n hn
  have ne' := ne.symm
  have h1' := h1.symm
  have l1 : (H.get r).isSome = true := by rw [box]; rfl
  have l2 : (H.get q).isSome = true := by rw [row]; rfl
  have go : ∀ bad', bad' = (bad || numBad many n) → GoL env Try.f114 (dep + 1) hd___blindstamp_mail_pen__number_3 [(6, aI ((many : Int) - 1)), (1, .ptr rn ii jj), (0, .ptr r 0 0)]
      (H.put r (some ⟨3, [.agg [.osl q 0 bs.length c, aB false, aB bad']], false, false⟩)) fun y H' => NumW H H' r q (bs ++ be many n) (bad || numBad many n) := by
    intro bad' hb
    rw [← hb]
    have hP0 : PenW (H.put r (some ⟨3, [.agg [.osl q 0 bs.length c, aB false, aB bad']], false, false⟩)) r q c bs bad' := ⟨by rw [Heap.get_put, if_pos rfl], by rw [Heap.get_put, if_neg ne]; exact row, ne, cap, few⟩
    have hF0 : Fr (H.put r (some ⟨3, [.agg [.osl q 0 bs.length c, aB false, aB bad']], false, false⟩)) := Fr_put hF l1 _
    have hn0 : (H.put r (some ⟨3, [.agg [.osl q 0 bs.length c, aB false, aB bad']], false, false⟩)).get rn = some (blk n) := by rw [Heap.get_put, if_neg h1]; exact hn
    have ho0 : ∀ p b, p ≠ r → p ≠ q → H.get p = some b → (H.put r (some ⟨3, [.agg [.osl q 0 bs.length c, aB false, aB bad']], false, false⟩)).get p = some b := fun p b hp _ h => by rw [Heap.get_put, if_neg hp]; exact h
    generalize H.put r (some ⟨3, [.agg [.osl q 0 bs.length c, aB false, aB bad']], false, false⟩) = H0 at *
    have exit_ : ∀ (H1 : Heap) (y : Heap → Prop), y H1 → GoL env Try.f114 (dep + 1) hd___blindstamp_mail_pen__number_3 [(6, aI (-1)), (1, .ptr rn ii jj), (0, .ptr r 0 0)] H1 fun _ H' => y H' := by
      intro H1 y hy
      refine vc___blindstamp_mail_pen__number_3 _ _ _ _ _ _ fun g => ?_
      simp [new_ne, ne_new, new_ne1, ne_new1, gen_put', *, VC___blindstamp_mail_pen__number_3]
    have last : ∀ (H1 : Heap) (q1 : Ref) (c1 : Option Nat) (bs1 : List UInt8), PenW H1 r q1 c1 bs1 bad' → Fr H1 → (∀ p b, p ≠ r → p ≠ q → H.get p = some b → H1.get p = some b) → H1.get rn = some (blk n) → rn ≠ q1 → (q1 = q ∨ H.get q1 = none) → (q1.t = q.t ∨ q1.t = 55) → bs1.length + 1 < 1000000 → bs1 ++ [u8 n] = bs ++ be many n →
        GoL env Try.f114 (dep + 1) hd___blindstamp_mail_pen__number_3 [(6, aI 0), (1, .ptr rn ii jj), (0, .ptr r 0 0)] H1 fun y H' => NumW H H' r q (bs ++ be many n) bad' := by
      intro H1 q1 c1 bs1 hP1 hF1 ho1 hn1 hr1 hq1 ht1 hf1 hbe
      refine pen_step dep hN hn1 h1 hr1 hF1 hP1 0 (by omega) hf1 (fun q' H' _ hP' hF' ho' ht' => ?_)
      refine exit_ H' _ ⟨⟨q', ?_, ?_⟩, hF', fun p b hp hpq hb' => ?_⟩
      · rw [← hbe]; simpa using hP'
      · rcases ht' with h | h
        · rw [h]; exact ht1
        · exact .inr h
      · refine ho' p b hp ?_ (ho1 p b hp hpq hb')
        rintro rfl
        rcases hq1 with rfl | hq1
        · exact hpq rfl
        · rw [hq1] at hb'; cases hb'
    have fresh : ∀ (q1 : Ref), H0.get q1 = none → q1 ≠ r → H.get q1 = none := by
      intro q1 h hr
      by_cases hq : q1 = q
      · subst hq; rw [hP0.row] at h; cases h
      · cases hb' : H.get q1 with
        | none => rfl
        | some b => rw [ho0 q1 b hr hq hb'] at h; cases h
    rcases hm with rfl | rfl | rfl
    · exact last H0 q c bs hP0 hF0 ho0 hn0 h2 (.inl rfl) (.inl rfl) (by omega) rfl
    · refine pen_step dep hN hn0 h1 h2 hF0 hP0 1 (by omega) (by omega) (fun q1 H1 hq1 hP1 hF1 ho1 ht1 => ?_)
      have nq : q1 ≠ q := by rintro rfl; rw [hP0.row] at hq1; cases hq1
      have nr : rn ≠ q1 := by rintro rfl; rw [hn0] at hq1; cases hq1
      exact last H1 q1 none _ hP1 hF1 (fun p b hp hpq h => ho1 p b hp hpq (ho0 p b hp hpq h)) (ho1 _ _ h1 h2 hn0) nr (.inr (fresh q1 hq1 hP1.ne)) ht1 (by simp; omega) (by simp [be])
    · refine pen_step dep hN hn0 h1 h2 hF0 hP0 2 (by omega) (by omega) (fun q1 H1 hq1 hP1 hF1 ho1 ht1 => ?_)
      have nr : rn ≠ q1 := by rintro rfl; rw [hn0] at hq1; cases hq1
      refine pen_step dep hN (ho1 _ _ h1 h2 hn0) h1 nr hF1 hP1 1 (by omega) (by simp; omega) (fun q2 H2 hq2 hP2 hF2 ho2 ht2 => ?_)
      have nr2 : rn ≠ q2 := by rintro rfl; rw [ho1 _ _ h1 h2 hn0] at hq2; cases hq2
      have f1 := fresh q1 hq1 hP1.ne
      have ho2' : ∀ p b, p ≠ r → p ≠ q → H.get p = some b → H2.get p = some b := fun p b hp hpq h => by
        refine ho2 p b hp ?_ (ho1 p b hp hpq (ho0 p b hp hpq h))
        rintro rfl; rw [f1] at h; cases h
      have f2 : q2 = q ∨ H.get q2 = none := by
        by_cases hq : q2 = q
        · exact .inl hq
        · right
          cases hb' : H.get q2 with
          | none => rfl
          | some b => rw [ho1 q2 b hP2.ne hq (ho0 q2 b hP2.ne hq hb')] at hq2; cases hq2
      exact last H2 q2 none _ hP2 hF2 ho2' (ho2 _ _ h1 nr (ho1 _ _ h1 h2 hn0)) nr2 f2 (by
        rcases ht2 with h | h
        · rw [h]; exact ht1
        · exact .inr h) (by simp; omega) (by simp [be, show n / 256 / 256 = n / 65536 by omega])
  have w1 : IntKind.i64.wrap (8 * (many : Int)) = 8 * many := IntWalk.i64_in _ (by omega)
  have w2 : IntKind.i64.wrap ((many : Int) - 1) = many - 1 := IntWalk.i64_in _ (by omega)
  have hshl : ∀ t xo yo, qBin env.P .shl t xo yo (some (.v (.int .i64 1))) (some (.v (.int .i64 (8 * (many : Int))))) = some (.v (.int .i64 (256 ^ many)), []) := by
    intro t xo yo
    rw [qBin_shl env.P t xo yo .i64 1 _ (by omega)]
    rcases hm with rfl | rfl | rfl <;> rfl
  cases bad with
  | true =>
    have go' := go true rfl
    clear go
    simp [new_ne, ne_new, new_ne1, ne_new1, gen_put', *, VC___blindstamp_mail_pen__number]
    all_goals exact go'
  | false =>
    by_cases h0 : n < 0
    · have go' := go true (by simp [numBad, h0])
      clear go
      simp [new_ne, ne_new, new_ne1, ne_new1, gen_put', *, VC___blindstamp_mail_pen__number]
      all_goals simpa using go'
    · by_cases h3 : (256 : Int) ^ many ≤ n
      · have go' := go true (by simp [numBad, h3])
        clear go
        simp [new_ne, ne_new, new_ne1, ne_new1, gen_put', *, VC___blindstamp_mail_pen__number]
        all_goals simpa using go'
      · have go' := go false (by simp [numBad, h0, h3])
        clear go
        simp [new_ne, ne_new, new_ne1, ne_new1, gen_put', *, VC___blindstamp_mail_pen__number]
        all_goals simpa using go'
structure PenR (H : Heap) (r : Ref) (xb : AV) (l : List UInt8) (bad : Bool) : Prop where
  box : H.get r = some ⟨3, [.agg [xb, aB true, aB bad]], false, false⟩
  sl : Sl 1 (by8 l) xb
  few : l.length < 1000000
structure NumR (H H' : Heap) (r rn : Ref) (blk : Int → Blk) (n : Int) (l : List UInt8) (bad : Bool) : Prop where
  pen : ∃ xb, PenR H' r xb l bad
  num : H'.get rn = some (blk n)
  fr : Fr H'
  old : ∀ p b, p ≠ r → p ≠ rn → H.get p = some b → H'.get p = some b
theorem rd_loop (dep : Nat) {r rn : Ref} {ii jj : Nat} {blk : Int → Blk} (hN : NumCell rn ii jj blk) {l : List UInt8} {x85 : AV} (hx : Sl 1 (by8 l) x85) (hl : l.length ≤ 3) {many : Int} {Q : AV → Heap → Prop} :
    ∀ (s : List UInt8) (k : Nat) (i a : Int) (H : Heap), l.drop k = s → k ≤ l.length → i = k → 0 ≤ a → a < 256 ^ k → H.get rn = some (blk a) → Fr H →
    (∀ H', H'.get rn = some (blk (valF a s)) → Fr H' → (∀ p b, p ≠ rn → H.get p = some b → H'.get p = some b) → GoL env Try.f114 (dep + 1) hd___blindstamp_mail_pen__number_10 [(87, aI l.length), (1, .ptr rn ii jj), (85, x85), (2, aI many), (0, .ptr r 0 0), (86, aI l.length)] H' Q) →
    GoL env Try.f114 (dep + 1) hd___blindstamp_mail_pen__number_10 [(87, aI i), (1, .ptr rn ii jj), (85, x85), (2, aI many), (0, .ptr r 0 0), (86, aI l.length)] H Q := by
  intro s
  induction s with
  | nil =>
    rintro k i a H hs hk rfl h0 h1 hn hF hQ
    obtain rfl := drop_nil hs hk
    exact hQ H hn hF (fun p b _ h => h)
  | cons b s ih =>
    rintro k i a H hs hk rfl h0 h1 hn hF hQ
    obtain ⟨hlt, hg, hs', hg'⟩ := drop_cons hs
    have hb := b.toNat_lt
    have h2 := pow256_le (k := k) 6 (by omega)
    have e := or_byte h0 (by omega) b
    have e2 := IntWalk.i64_in (a * 256) (by omega)
    have e3 := IntWalk.i64_in ((k : Int) + 1) (by omega)
    have hld := hN.load H.get a hn
    have hst := hN.store H a (256 * a + b.toNat) hn
    have l1 : (H.get rn).isSome = true := by rw [hn]; rfl
    have ih' := ih (k + 1) ((k : Int) + 1) (256 * a + b.toNat) (H.put rn (some (blk (256 * a + b.toNat)))) hs' (by omega) (by simp) (by omega) (by rw [Int.pow_succ]; omega) (by rw [Heap.get_put, if_pos rfl]) (Fr_put hF l1 _)
      (fun H' hn' hF' ho' => hQ H' hn' hF' (fun p b hp h => ho' p b hp (by rw [Heap.get_put, if_neg hp]; exact h)))
    refine vc___blindstamp_mail_pen__number_10 _ _ _ _ _ _ _ _ _ fun g => ?_
    clear ih hQ
    simp [new_ne, ne_new, new_ne1, ne_new1, gen_put', *, VC___blindstamp_mail_pen__number_10, qBin_shl, hx.idx]
    all_goals exact ih'
theorem number_r (dep : Nat) {H : Heap} {r rn : Ref} {xb : AV} {l : List UInt8} {bad : Bool} {ii jj : Nat} {blk : Int → Blk} {n : Int} (hN : NumCell rn ii jj blk) (hn : H.get rn = some (blk n)) (h1 : rn ≠ r) (hF : Fr H) (hP : PenR H r xb l bad) (many : Nat) (hm : many = 1 ∨ many = 2 ∨ many = 3) :
    ∃ y H', limt env dep (.fn 114) [.ptr r 0 0, .ptr rn ii jj, aI many] H = some (y, H') ∧
      NumR H H' r rn blk (if (bad || decide (l.length < many)) then n else val (l.take many)) (if (bad || decide (l.length < many)) then l else l.drop many) (bad || decide (l.length < many)) := by
  refine limtQ_of (fn := Try.f114) (c := bd___blindstamp_mail_pen__number) (by kernel_rfl) (by kernel_rfl) (by kernel_rfl) (by kernel_rfl) (by kernel_rfl) ?_
  refine vc___blindstamp_mail_pen__number _ _ _ _ _ _ fun g => ?_
  obtain ⟨box, sl, few⟩ := hP
  have l1 : (H.get r).isSome = true := by rw [box]; rfl
  have l2 : (H.get rn).isSome = true := by rw [hn]; rfl
  have h1' := h1.symm
  have hr := sl.r
  have hbadQ : (bad || decide (l.length < many)) = true → ∀ y : AV, NumR H (H.put r (some ⟨3, [.agg [xb, aB true, aB true]], false, false⟩)) r rn blk n l true := fun _ _ =>
    ⟨⟨xb, by rw [Heap.get_put, if_pos rfl], sl, few⟩, by rw [Heap.get_put, if_neg h1]; exact hn, Fr_put hF l1 _, fun p b hp _ h => by rw [Heap.get_put, if_neg hp]; exact h⟩
  cases bad with
  | true =>
    have hq := hbadQ rfl (aI 0)
    clear hbadQ
    simp [new_ne, ne_new, new_ne1, ne_new1, gen_put', *, VC___blindstamp_mail_pen__number]
    all_goals exact hq
  | false =>
    by_cases hlt : l.length < many
    · have hlt' : (l.length : Int) < many := by omega
      have hq := hbadQ (by simp [hlt]) (aI 0)
      clear hbadQ
      simp [new_ne, ne_new, new_ne1, ne_new1, gen_put', *, VC___blindstamp_mail_pen__number]
      all_goals exact hq
    · have hlt' : ¬ (l.length : Int) < many := by omega
      clear hbadQ
      have hmI := IntWalk.i64_in (many : Int) (by omega)
      have hst0 := hN.store (H.put r (some ⟨3, [.agg [xb, aB true, aB false]], false, false⟩)) n 0 (by rw [Heap.get_put, if_neg h1]; exact hn)
      have hif : (false || decide (l.length < many)) = false := by simp [hlt]
      rw [hif]
      simp only [Bool.false_eq_true, if_false]
      have htk : (l.take many).length = many := by rw [List.length_take]; omega
      have e8 : ∀ n, (by8 l).take n = by8 (l.take n) := fun n => by simp [by8]
      have e9 : ∀ n, (by8 l).drop n = by8 (l.drop n) := fun n => by simp [by8]
      have loop := fun (x85 : AV) (hx : Sl 1 (by8 (l.take many)) x85) => rd_loop dep (r := r) hN hx (by omega) (many := (many : Int)) (Q := fun y H' => NumR H H' r rn blk (val (l.take many)) (l.drop many) false) (l.take many) 0 0 0
        ((H.put r (some ⟨3, [.agg [xb, aB true, aB false]], false, false⟩)).put rn (some (blk 0))) rfl (by omega) rfl (by omega) (by simp) (by rw [Heap.get_put, if_pos rfl]) (Fr_put (Fr_put hF l1 _) (by rw [Heap.get_put, if_neg h1]; exact l2) _)
        (fun H' hn' hF' ho' => by
          have hb' : H'.get r = some ⟨3, [.agg [xb, aB true, aB false]], false, false⟩ := ho' r _ h1' (by rw [Heap.get_put, if_neg h1', Heap.get_put, if_pos rfl])
          refine vc___blindstamp_mail_pen__number_10 _ _ _ _ _ _ _ _ _ fun g => ?_
          have hsf := slice_from (P := env.P) (t := 34) (z := 1) (by kernel_rfl) H'.get sl (n := (many : Int)) (by omega) (by simp; omega)
          obtain ⟨xd, hxd, hxS⟩ := hsf
          rw [Int.toNat_natCast, e9] at hxS
          have l3 : (H'.get r).isSome = true := by rw [hb']; rfl
          have hrd := hxS.r
          have hfin : NumR H (H'.put r (some ⟨3, [.agg [xd, aB true, aB false]], false, false⟩)) r rn blk (val (l.take many)) (l.drop many) false := by
            refine ⟨⟨xd, by rw [Heap.get_put, if_pos rfl], hxS, by simp; omega⟩, by rw [Heap.get_put, if_neg h1]; exact hn', Fr_put hF' l3 _, fun p b hp hpn h => ?_⟩
            rw [Heap.get_put, if_neg hp]
            exact ho' p b hpn (by rw [Heap.get_put, if_neg hpn, Heap.get_put, if_neg hp]; exact h)
          clear hn' ho' hst0 e8 e9
          simp [new_ne, ne_new, new_ne1, ne_new1, gen_put', *, VC___blindstamp_mail_pen__number_10]
          all_goals exact hfin)
      clear e9 hif
      simp [new_ne, ne_new, new_ne1, ne_new1, gen_put', *, VC___blindstamp_mail_pen__number]
      obtain ⟨y, hy, hyS⟩ := slice_to (P := env.P) (t := 34) (z := 1) (by kernel_rfl) _ sl (n := (many : Int)) (by omega) (by simp; omega)
      refine doQ_of hy ?_
      rw [Int.toNat_natCast, e8] at hyS
      have hyr := hyS.r
      have hgo := loop y hyS
      rw [htk] at hgo
      have hlen : (by8 (l.take many)).length = many := by rw [by8_len, htk]
      clear loop hy
      simp [*]
      all_goals exact hgo
end Go.Proofs.Ytehkjjcdkbcebaa
