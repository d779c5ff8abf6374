/-
  Mail's kinds: what each does, in one. No statement of a seat is proved here.
-/
import Derived.Test.YtehkjjcdkbcebaaMailKinds
set_option linter.unusedVariables false
set_option linter.unusedSimpArgs false
set_option linter.unusedSectionVars false
set_option linter.unnecessarySimpa false
set_option maxRecDepth 100000
namespace Go.Proofs.Ytehkjjcdkbcebaa
open Go.Ab
def zMail (k : UInt8) : Mai := ⟨k, 0, 0, 0, 0, 0, 0, 0, 0, 0, 0⟩
def kindR (n : Nat) (st : RSt) : RSt := match n with
  | 1 => rN 1 (fun m v => { m with user := v }) st
  | 2 => opsR 1 st
  | 3 => rN 3 (fun m v => { m with fromN := v }) st
  | 4 => rN 1 (fun m v => { m with asked := u8 v }) st
  | 5 => st
  | 6 => rN 2 (fun m v => { m with code := v }) st
  | 7 => rN 2 (fun m v => { m with code := v }) (rN 3 (fun m v => { m with serial := v }) st)
  | 8 => pageR (rN 3 (fun m v => { m with total := v }) (rN 3 (fun m v => { m with fromN := v }) st))
  | 9 => rN 3 (fun m v => { m with t3 := v }) (rN 3 (fun m v => { m with t2 := v }) (rN 3 (fun m v => { m with t1 := v }) (rN 3 (fun m v => { m with t0 := v }) (rN 1 (fun m v => { m with asked := u8 v }) st))))
  | 10 => rN 2 (fun m v => { m with code := v }) st
  | _ => none
def kindW (n : Nat) (m : Mai) (ol : List (Opn × AV)) : List UInt8 × Bool := match n with
  | 1 => (be 1 m.user, numBad 1 m.user)
  | 2 => opsW ol
  | 3 => (be 3 m.fromN, numBad 3 m.fromN)
  | 4 => ([m.asked], false)
  | 5 => ([], false)
  | 6 => (be 2 m.code, numBad 2 m.code)
  | 7 => (be 3 m.serial ++ be 2 m.code, numBad 3 m.serial || numBad 2 m.code)
  | 8 => (be 3 m.fromN ++ (be 3 m.total ++ ([u8 (ol.length : Int)] ++ (opsW ol).1)), numBad 3 m.fromN || numBad 3 m.total || decide (3 < ol.length) || (opsW ol).2)
  | 9 => ([m.asked] ++ (be 3 m.t0 ++ (be 3 m.t1 ++ (be 3 m.t2 ++ be 3 m.t3))), numBad 3 m.t0 || (numBad 3 m.t1 || (numBad 3 m.t2 || numBad 3 m.t3)))
  | 10 => (be 2 m.code, numBad 2 m.code)
  | _ => ([], true)
def kindMay (n : Nat) (m : Mai) (ol : List (Opn × AV)) : Bool := match n with
  | 2 => (match ol with | [p] => !decide (-1 ∈ p.1.l) | _ => false)
  | 4 => decide (m.asked = 1) || decide (m.asked = 2)
  | 7 => decide (0 < m.serial)
  | 9 => decide (m.asked = 1) || decide (m.asked = 2)
  | _ => true
structure KindOk (n : Nat) (d mf : Nat) : Prop where
  v : kindV n = .agg [fnA d, fnA mf]
  md : (env.mode d == 2) = true
  mm : (env.mode mf == 2) = false
  rd : ∀ {H : Heap} {r rm : Ref} {st : RSt}, MRo H r rm st → (∀ l m ol, st = some (l, m, ol) → ol = []) → ∃ y H', limt env 0 (.fn d) [.ptr r 0 0, .ptr rm 0 0] H = some (y, H') ∧ RdW H H' r rm (kindR n st)
  wr : ∀ {H : Heap} {r rm : Ref} {bs : List UInt8} {m : Mai} {xo : AV} {ol : List (Opn × AV)}, MW H r rm bs false (m.blk xo) → bs.length < 1000 → Sl 17 (encOs ol) xo → (∀ p ∈ ol, okO p) → ol.length ≤ 10 → (n = 2 → ol.length = 1) →
    ∃ y H', limt env 0 (.fn d) [.ptr r 0 0, .ptr rm 0 0] H = some (y, H') ∧ ∃ bs', DoW H H' r rm bs' (kindW n m ol).2 (m.blk xo) ∧ ((kindW n m ol).2 = false → bs' = bs ++ (kindW n m ol).1)
  may : ∀ (m : Mai) {xo : AV} {ol : List (Opn × AV)}, Sl 17 (encOs ol) xo → (∀ p ∈ ol, okO p) → (n = 2 → ol.length = 1) → limf env mf [m.val xo] = some (aB (kindMay n m ol))
theorem kind_1 : KindOk 1 113 111 := by
  refine ⟨rfl, by kernel_rfl, by kernel_rfl, fun hM _ => rd_open 0 hM, fun {H r rm bs m xo ol} hM hf hx ha h1 h2 => ?_, fun m {xo ol} hx _ _ => may_any m hx⟩
  obtain ⟨y, H', hy, hd⟩ := do_open 0 hM (by omega)
  rw [Bool.false_or] at hd
  exact ⟨y, H', hy, _, hd, fun _ => rfl⟩
theorem kind_2 : KindOk 2 115 117 := by
  refine ⟨rfl, by kernel_rfl, by kernel_rfl, fun hM ho => rd_submit 0 hM ho, fun {H r rm bs m xo ol} hM hf hx ha h1 h2 => ?_, fun m {xo ol} hx ha h2 => ?_⟩
  · obtain ⟨y, H', hy, hd⟩ := do_submit 0 hM hx ha (h2 rfl) (by omega)
    rw [Bool.false_or] at hd
    exact ⟨y, H', hy, _, hd, fun _ => rfl⟩
  · obtain ⟨p, hp⟩ := List.length_eq_one_iff.1 (h2 rfl)
    have h := may_plain m hx hp (ha p (by rw [hp]; exact List.mem_singleton.2 rfl))
    subst hp
    exact h
theorem kind_3 : KindOk 3 118 111 := by
  refine ⟨rfl, by kernel_rfl, by kernel_rfl, fun hM _ => rd_pull 0 hM, fun {H r rm bs m xo ol} hM hf hx ha h1 h2 => ?_, fun m {xo ol} hx _ _ => may_any m hx⟩
  obtain ⟨y, H', hy, hd⟩ := do_pull 0 hM (by omega)
  rw [Bool.false_or] at hd
  exact ⟨y, H', hy, _, hd, fun _ => rfl⟩
theorem kind_4 : KindOk 4 119 112 := by
  refine ⟨rfl, by kernel_rfl, by kernel_rfl, fun hM _ => rd_asked 0 hM, fun {H r rm bs m xo ol} hM hf hx ha h1 h2 => ?_, fun m {xo ol} hx _ _ => may_asks m hx⟩
  obtain ⟨y, H', hy, hd⟩ := do_asked 0 hM (by omega)
  exact ⟨y, H', hy, _, hd, fun _ => rfl⟩
theorem kind_5 : KindOk 5 120 111 := by
  refine ⟨rfl, by kernel_rfl, by kernel_rfl, fun hM _ => rd_close 0 hM, fun {H r rm bs m xo ol} hM hf hx ha h1 h2 => ?_, fun m {xo ol} hx _ _ => may_any m hx⟩
  obtain ⟨y, H', hy, hd⟩ := do_close 0 hM (by omega)
  exact ⟨y, H', hy, _, hd, fun _ => (List.append_nil _).symm⟩
theorem kind_6 : KindOk 6 121 111 := by
  refine ⟨rfl, by kernel_rfl, by kernel_rfl, fun hM _ => rd_told 0 hM, fun {H r rm bs m xo ol} hM hf hx ha h1 h2 => ?_, fun m {xo ol} hx _ _ => may_any m hx⟩
  obtain ⟨y, H', hy, hd⟩ := do_told 0 hM (by omega)
  rw [Bool.false_or] at hd
  exact ⟨y, H', hy, _, hd, fun _ => rfl⟩
theorem kind_7 : KindOk 7 122 123 := by
  refine ⟨rfl, by kernel_rfl, by kernel_rfl, fun hM _ => rd_answer 0 hM, fun {H r rm bs m xo ol} hM hf hx ha h1 h2 => ?_, fun m {xo ol} hx _ _ => may_serial m hx⟩
  obtain ⟨y, H', hy, hd⟩ := do_answer 0 hM (by omega) (by omega)
  rw [Bool.false_or] at hd
  exact ⟨y, H', hy, _, hd, fun _ => rfl⟩
theorem kind_8 : KindOk 8 124 111 := by
  refine ⟨rfl, by kernel_rfl, by kernel_rfl, fun hM ho => rd_page 0 hM ho, fun {H r rm bs m xo ol} hM hf hx ha h1 h2 => ?_, fun m {xo ol} hx _ _ => may_any m hx⟩
  exact do_page 0 hM hx ha h1 (by omega)
theorem kind_9 : KindOk 9 125 112 := by
  refine ⟨rfl, by kernel_rfl, by kernel_rfl, fun hM _ => rd_toldN 0 hM, fun {H r rm bs m xo ol} hM hf hx ha h1 h2 => ?_, fun m {xo ol} hx _ _ => may_asks m hx⟩
  obtain ⟨y, H', hy, hd⟩ := do_toldN 0 hM (by omega)
  rw [Bool.false_or] at hd
  exact ⟨y, H', hy, _, hd, fun _ => rfl⟩
theorem kind_10 : KindOk 10 121 111 := by
  refine ⟨rfl, by kernel_rfl, by kernel_rfl, fun hM _ => rd_told 0 hM, fun {H r rm bs m xo ol} hM hf hx ha h1 h2 => ?_, fun m {xo ol} hx _ _ => may_any m hx⟩
  obtain ⟨y, H', hy, hd⟩ := do_told 0 hM (by omega)
  rw [Bool.false_or] at hd
  exact ⟨y, H', hy, _, hd, fun _ => rfl⟩
theorem kind_ok {n : Nat} (h : (kindAt n).isSome = true) : ∃ d mf, KindOk n d mf := by
  have : n = 1 ∨ n = 2 ∨ n = 3 ∨ n = 4 ∨ n = 5 ∨ n = 6 ∨ n = 7 ∨ n = 8 ∨ n = 9 ∨ n = 10 := by
    unfold kindAt at h
    split at h
    · cases h
    · split at h
      · omega
      · cases h
  rcases this with rfl | rfl | rfl | rfl | rfl | rfl | rfl | rfl | rfl | rfl
  · exact ⟨_, _, kind_1⟩
  · exact ⟨_, _, kind_2⟩
  · exact ⟨_, _, kind_3⟩
  · exact ⟨_, _, kind_4⟩
  · exact ⟨_, _, kind_5⟩
  · exact ⟨_, _, kind_6⟩
  · exact ⟨_, _, kind_7⟩
  · exact ⟨_, _, kind_8⟩
  · exact ⟨_, _, kind_9⟩
  · exact ⟨_, _, kind_10⟩
theorem val_be_take {l : List UInt8} {k : Nat} (h : ¬ l.length < k) : be k (val (l.take k)) = l.take k ∧ numBad k (val (l.take k)) = false := by
  have hl : (l.take k).length = k := by rw [List.length_take]; omega
  refine ⟨be_val' hl, ?_⟩
  have hb := val_bound (l.take k)
  rw [hl] at hb
  simp only [numBad, Bool.or_eq_false_iff, decide_eq_false_iff_not]
  omega
theorem u8_val1 {l : List UInt8} (h : ¬ l.length < 1) : [u8 (val (l.take 1))] = l.take 1 := by
  have := (val_be_take h).1
  simpa [be] using this
theorem rN_some {many : Nat} {set : Mai → Int → Mai} {st : RSt} {l' : List UInt8} {m' : Mai} {ol' : List (Opn × AV)} (h : rN many set st = some (l', m', ol')) :
    ∃ l m, st = some (l, m, ol') ∧ ¬ l.length < many ∧ l' = l.drop many ∧ m' = set m (val (l.take many)) := by
  cases st with
  | none => cases h
  | some s =>
    obtain ⟨l, m, ol⟩ := s
    simp only [rN, Option.bind_some] at h
    split at h
    · cases h
    · rename_i hl; cases h; exact ⟨l, m, rfl, hl, rfl, rfl⟩
theorem opR_some {st : RSt} {l' : List UInt8} {m' : Mai} {ol' : List (Opn × AV)} (h : opR st = some (l', m', ol')) :
    ∃ l ol o, st = some (l, m', ol) ∧ opB o = true ∧ l = opBytes o ++ l' ∧ ol' = ol ++ [(o, runG o.l)] := by
  cases st with
  | none => cases h
  | some s =>
    obtain ⟨l, m, ol⟩ := s
    simp only [opR, Option.bind_some] at h
    split at h
    · rename_i hg
      obtain ⟨e1, e2, e3, e4⟩ := bytes_raw hg
      cases h
      exact ⟨l, ol, rawO l, rfl, e2, by rw [e1, List.take_append_drop], rfl⟩
    · cases h
def goodO (ol : List (Opn × AV)) : Prop := ∀ p ∈ ol, opB p.1 = true ∧ p.2 = runG p.1.l
theorem opsR_some (k : Nat) : ∀ {st : RSt} {l' : List UInt8} {m' : Mai} {ol' : List (Opn × AV)}, opsR k st = some (l', m', ol') →
    ∃ l ol nl, st = some (l, m', ol) ∧ ol' = ol ++ nl ∧ nl.length = k ∧ goodO nl ∧ l = (opsW nl).1 ++ l' ∧ (opsW nl).2 = false := by
  induction k with
  | zero => intro st l' m' ol' h; exact ⟨l', ol', [], h, (List.append_nil _).symm, rfl, fun p hp => by simp at hp, rfl, rfl⟩
  | succ k ih =>
    intro st l' m' ol' h
    obtain ⟨l1, ol1, nl, e1, e2, e3, e4, e5, e6⟩ := ih (h : opsR k (opR st) = _)
    obtain ⟨l, ol, o, f1, f2, f3, f4⟩ := opR_some e1
    refine ⟨l, ol, (o, runG o.l) :: nl, f1, by rw [e2, f4, List.append_assoc]; rfl, by simp [e3], ?_, ?_, ?_⟩
    · intro p hp
      rcases List.mem_cons.1 hp with rfl | hp
      · exact ⟨f2, rfl⟩
      · exact e4 p hp
    · simp only [opsW, f2, if_true]; rw [f3, e5, List.append_assoc]
    · simp only [opsW, f2, if_true]; exact e6
theorem pageR_some {st : RSt} {l' : List UInt8} {m' : Mai} {ol' : List (Opn × AV)} (h : pageR st = some (l', m', ol')) :
    ∃ l m ol, st = some (l, m, ol) ∧ ¬ l.length < 1 ∧ ¬ 3 < val (l.take 1) ∧ opsR (val (l.take 1)).toNat (some (l.drop 1, m, ol)) = some (l', m', ol') := by
  cases st with
  | none => cases h
  | some s =>
    obtain ⟨l, m, ol⟩ := s
    simp only [pageR, Option.bind_some] at h
    split at h
    · cases h
    · split at h
      · cases h
      · rename_i h1 h3; exact ⟨l, m, ol, rfl, h1, h3, h⟩
theorem kind_back {n : Nat} {k : UInt8} {l l' : List UInt8} {m : Mai} {ol : List (Opn × AV)} (h : kindR n (some (l, zMail k, [])) = some (l', m, ol)) :
    m.kind = k ∧ goodO ol ∧ ol.length ≤ 3 ∧ (n = 2 → ol.length = 1) ∧ (n ≠ 2 → n ≠ 8 → ol = []) ∧ l = (kindW n m ol).1 ++ l' ∧ (kindW n m ol).2 = false := by
  have g0 : goodO [] := fun p hp => by simp at hp
  unfold kindR at h
  split at h
  · obtain ⟨l1, m1, e1, e2, e3, e4⟩ := rN_some h
    cases e1
    obtain ⟨f1, f2⟩ := val_be_take e2
    subst e4 e3
    exact ⟨rfl, g0, by simp, by simp, fun _ _ => rfl, by simp only [kindW, f1, List.take_append_drop], f2⟩
  · obtain ⟨l1, ol1, nl, e1, e2, e3, e4, e5, e6⟩ := opsR_some 1 h
    cases e1
    rw [List.nil_append] at e2
    subst e2
    exact ⟨rfl, e4, by omega, fun _ => e3, fun h => absurd rfl h, e5, e6⟩
  · obtain ⟨l1, m1, e1, e2, e3, e4⟩ := rN_some h
    cases e1
    obtain ⟨f1, f2⟩ := val_be_take e2
    subst e4 e3
    exact ⟨rfl, g0, by simp, by simp, fun _ _ => rfl, by simp only [kindW, f1, List.take_append_drop], f2⟩
  · obtain ⟨l1, m1, e1, e2, e3, e4⟩ := rN_some h
    cases e1
    have f1 := u8_val1 e2
    subst e4 e3
    exact ⟨rfl, g0, by simp, by simp, fun _ _ => rfl, by simp only [kindW, f1, List.take_append_drop], rfl⟩
  · cases h
    exact ⟨rfl, g0, by simp, by simp, fun _ _ => rfl, rfl, rfl⟩
  · obtain ⟨l1, m1, e1, e2, e3, e4⟩ := rN_some h
    cases e1
    obtain ⟨f1, f2⟩ := val_be_take e2
    subst e4 e3
    exact ⟨rfl, g0, by simp, by simp, fun _ _ => rfl, by simp only [kindW, f1, List.take_append_drop], f2⟩
  · obtain ⟨l2, m2, e1, e2, e3, e4⟩ := rN_some h
    obtain ⟨l1, m1, d1, d2, d3, d4⟩ := rN_some e1
    cases d1
    obtain ⟨f1, f2⟩ := val_be_take e2
    obtain ⟨c1, c2⟩ := val_be_take d2
    subst e4 e3 d4
    refine ⟨rfl, g0, by simp, by simp, fun _ _ => rfl, ?_, ?_⟩
    · simp only [kindW, f1, c1, List.append_assoc, List.take_append_drop]
      rw [d3, List.take_append_drop]
    · simp only [kindW, f2, c2, Bool.or_self]
  · obtain ⟨l3, m3, ol3, g1, g2, g3, g4⟩ := pageR_some h
    obtain ⟨l2, m2, e1, e2, e3, e4⟩ := rN_some g1
    obtain ⟨l1, m1, d1, d2, d3, d4⟩ := rN_some e1
    cases d1
    obtain ⟨l5, ol5, nl, b1, b2, b3, b4, b5, b6⟩ := opsR_some _ g4
    cases b1
    rw [List.nil_append] at b2
    subst b2
    obtain ⟨f1, f2⟩ := val_be_take e2
    obtain ⟨c1, c2⟩ := val_be_take d2
    have hb := val_bound (l3.take 1)
    have hlen : ((ol.length : Nat) : Int) = val (l3.take 1) := by rw [b3]; omega
    have hu := u8_val1 g2
    rw [← hlen] at hu
    subst e4 d4
    refine ⟨rfl, b4, by omega, fun h => absurd h (by decide), fun _ h => absurd rfl h, ?_, ?_⟩
    · simp only [kindW, f1, c1, List.append_assoc]
      rw [← b5, hu, List.take_append_drop, e3, List.take_append_drop, d3, List.take_append_drop]
    · have : decide (3 < ol.length) = false := by rw [decide_eq_false_iff_not]; omega
      simp only [kindW, f2, c2, this, b6, Bool.or_self]
  · obtain ⟨l5, m5, p1, p2, p3, p4⟩ := rN_some h
    obtain ⟨l4, m4, q1, q2, q3, q4⟩ := rN_some p1
    obtain ⟨l3, m3, r1, r2, r3, r4⟩ := rN_some q1
    obtain ⟨l2, m2, e1, e2, e3, e4⟩ := rN_some r1
    obtain ⟨l1, m1, d1, d2, d3, d4⟩ := rN_some e1
    cases d1
    obtain ⟨a1, a2⟩ := val_be_take p2
    obtain ⟨b1, b2⟩ := val_be_take q2
    obtain ⟨c1, c2⟩ := val_be_take r2
    obtain ⟨f1, f2⟩ := val_be_take e2
    have u1 := u8_val1 d2
    subst p4 q4 r4 e4 d4
    refine ⟨rfl, g0, by simp, by simp, fun _ _ => rfl, ?_, ?_⟩
    · simp only [kindW, a1, b1, c1, f1, u1, List.append_assoc]
      rw [p3, List.take_append_drop, q3, List.take_append_drop, r3, List.take_append_drop, e3, List.take_append_drop, d3, List.take_append_drop]
    · simp only [kindW, a2, b2, c2, f2, Bool.or_self]
  · obtain ⟨l1, m1, e1, e2, e3, e4⟩ := rN_some h
    cases e1
    obtain ⟨f1, f2⟩ := val_be_take e2
    subst e4 e3
    exact ⟨rfl, g0, by simp, by simp, fun _ _ => rfl, by simp only [kindW, f1, List.take_append_drop], f2⟩
  · cases h
end Go.Proofs.Ytehkjjcdkbcebaa
