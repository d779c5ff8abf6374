/-
  Several grants: what is left behind them. No statement of a seat is proved here.
-/
import Derived.Test.YtgooemdlilfkmaaGlRun
set_option linter.unusedVariables false
set_option linter.unusedSimpArgs false
set_option linter.unusedSectionVars false
namespace Go.Proofs.Ytgooemdlilfkmaa
open Go.Ab

theorem sumQ_less (l : List Quota) : ∀ n : Int, sumQ (n - 1) l = sumQ n l - 1 := by
  induction l with
  | nil => intro n; rfl
  | cons q l ih =>
    intro n
    show sumQ (n - 1 + q.opens + 4 * q.ops) l = sumQ (n + q.opens + 4 * q.ops) l - 1
    rw [← ih]
    congr 1
    omega
theorem may_bounds {us : List Clear} {qs : List Quota} {gr : Int} (h : mayB us qs gr = true) : us.length ≤ 8 ∧ qs.length ≤ 8 ∧ 0 ≤ gr ∧ gr ≤ 64 := by
  rw [mayB_sum] at h
  simp only [Bool.and_eq_true, decide_eq_true_eq] at h
  omega
theorem applyE_zero {us : List Clear} {qs : List Quota} {gr user : Int} {v : UInt8} {c : UInt32} {ok : Bool} (h : applyE us qs gr user v c ok = 0) : mayB us qs gr = true ∧ clearB v c ok = true ∧ 0 ≤ user ∧ user < us.length ∧ gr ≠ 0 := by
  unfold applyE at h
  split at h
  · rename_i hm
    rw [Bool.and_eq_true] at hm
    obtain ⟨hm, hg⟩ := hm
    simp only [mayG, Bool.and_eq_true, decide_eq_true_eq] at hg
    split at h
    · cases h
    · split at h
      · cases h
      · exact ⟨hm, hg.2, hg.1.1, by omega, by assumption⟩
  · cases h
theorem step_may {us : List Clear} {qs : List Quota} {gr user : Int} {v : UInt8} {c : UInt32} {ok : Bool} (h : applyE us qs gr user v c ok = 0) : mayB (us.set user.toNat ⟨v, c, ok⟩) qs (gr - 1) = true ∧ IntKind.i64.wrap (gr - 1) = gr - 1 ∧ 1 ≤ gr := by
  obtain ⟨hm, hc, h0, h1, hg⟩ := applyE_zero h
  have hb := may_bounds hm
  refine ⟨?_, IntWalk.i64_in _ (by omega), by omega⟩
  rw [mayB_sum] at hm ⊢
  simp only [Bool.and_eq_true, decide_eq_true_eq, List.all_eq_true, List.length_set] at hm ⊢
  rw [sumQ_less]
  refine ⟨⟨⟨⟨hm.1.1.1.1, by omega, by omega⟩, ?_⟩, hm.1.2⟩, by omega, hm.2.2⟩
  intro x hx
  rcases List.mem_or_eq_of_mem_set hx with hx | rfl
  · exact hm.1.1.2 x hx
  · exact hc
/-- How many errors are none. -/
def cameF (l : List Int) : Int := l.foldr (fun e n => if e = 0 then n + 1 else n) 0
@[simp] theorem cameF_cons (e : Int) (l : List Int) : cameF (e :: l) = if e = 0 then cameF l + 1 else cameF l := rfl
theorem runF_cons (qs : List Quota) (g : Gr) (l : List Gr) (us : List Clear) (gr : Int) : runF qs (g :: l) us gr = if applyE us qs gr g.user g.lv g.cats g.ok = 0 then (0 :: (runF qs l (us.set g.user.toNat ⟨g.lv, g.cats, g.ok⟩) (IntKind.i64.wrap (gr - 1))).1, (runF qs l (us.set g.user.toNat ⟨g.lv, g.cats, g.ok⟩) (IntKind.i64.wrap (gr - 1))).2) else (applyE us qs gr g.user g.lv g.cats g.ok :: (runF qs l us gr).1, (runF qs l us gr).2) := rfl
theorem runF_facts (qs : List Quota) (l : List Gr) : ∀ (us : List Clear) (gr : Int), mayB us qs gr = true → (runF qs l us gr).1.length = l.length ∧ (runF qs l us gr).2.1.length = us.length ∧ mayB (runF qs l us gr).2.1 qs (runF qs l us gr).2.2 = true ∧ (runF qs l us gr).2.2 = gr - cameF (runF qs l us gr).1 ∧ 0 ≤ cameF (runF qs l us gr).1 ∧ cameF (runF qs l us gr).1 ≤ gr := by
  induction l with
  | nil =>
    intro us gr hm
    have hb := may_bounds hm
    exact ⟨rfl, rfl, hm, by simp [runF, cameF], by simp [runF, cameF], by simp [runF, cameF]; omega⟩
  | cons g l ih =>
    intro us gr hm
    rw [runF_cons]
    by_cases he : applyE us qs gr g.user g.lv g.cats g.ok = 0
    · obtain ⟨h1, h2, h3⟩ := step_may he
      rw [if_pos he, h2]
      have := ih _ _ h1
      simp only [List.length_cons, cameF_cons, if_true, List.length_set] at this ⊢
      exact ⟨by omega, this.2.1, this.2.2.1, by omega, by omega, by omega⟩
    · rw [if_neg he]
      have := ih _ _ hm
      simp only [List.length_cons, cameF_cons, if_neg he] at this ⊢
      exact ⟨by omega, this.2.1, this.2.2.1, by omega, by omega, by omega⟩
/-- What is wanted of a user: the last one that came, or what was there. -/
def wantF (user : Int) : List Gr → List Int → Clear → Clear
  | g :: l, e :: es, w => wantF user l es (if e = 0 ∧ g.user = user then ⟨g.lv, g.cats, g.ok⟩ else w)
  | _, _, w => w
theorem want_run (qs : List Quota) (user : Int) (h0 : 0 ≤ user) (l : List Gr) : ∀ (us : List Clear) (gr : Int) (w : Clear), mayB us qs gr = true → us[user.toNat]? = some w → (runF qs l us gr).2.1[user.toNat]? = some (wantF user l (runF qs l us gr).1 w) := by
  induction l with
  | nil => intro us gr w _ h; exact h
  | cons g l ih =>
    intro us gr w hm h
    rw [runF_cons]
    by_cases he : applyE us qs gr g.user g.lv g.cats g.ok = 0
    · obtain ⟨h1, h2, h3⟩ := step_may he
      obtain ⟨_, _, hu0, hu1, _⟩ := applyE_zero he
      rw [if_pos he, h2]
      show _ = some (wantF user l _ (if (0 : Int) = 0 ∧ g.user = user then _ else w))
      refine ih _ _ _ h1 ?_
      by_cases hu : g.user = user
      · rw [if_pos ⟨rfl, hu⟩, ← hu, List.getElem?_set_self (by omega)]
      · rw [if_neg (fun h => hu h.2), List.getElem?_set_ne (by omega), h]
    · rw [if_neg he]
      show _ = some (wantF user l _ (if applyE us qs gr g.user g.lv g.cats g.ok = 0 ∧ g.user = user then _ else w))
      rw [if_neg (fun h => he h.1)]
      exact ih _ _ _ hm h
theorem applyE_full {us : List Clear} {qs : List Quota} {gr user : Int} {v : UInt8} {c : UInt32} {ok : Bool} (h : applyE us qs gr user v c ok = 9) : gr = 0 := by
  unfold applyE at h
  split at h
  · split at h
    · cases h
    · split at h
      · assumption
      · cases h
  · cases h
end Go.Proofs.Ytgooemdlilfkmaa
