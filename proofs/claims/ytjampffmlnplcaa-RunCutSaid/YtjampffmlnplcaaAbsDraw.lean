/-
  A region that draws its order: whichever comes, what the order of the text gives. No statement of a seat is proved here.
-/
import Derived.Test.YtjampffmlnplcaaAbsLoc
set_option linter.unusedVariables false
set_option linter.unusedSimpArgs false
namespace Go.Ab

/- ## What comes before what -/
theorem mask_bit {acc : List Nat} {i : Nat} : ∀ (js : List Nat), (maskOf acc js).testBit i = true → ∃ j ∈ js, i = j ∨ (acc.getD j 0).testBit i = true := by
  intro js
  induction js with
  | nil => intro h; simp [maskOf] at h
  | cons j js ih =>
    intro h
    simp only [maskOf, Nat.testBit_or, Bool.or_eq_true] at h
    rcases h with (h | h) | h
    · rw [Nat.testBit_two_pow] at h
      exact ⟨j, List.mem_cons_self .., .inl (by simpa using h : j = i).symm⟩
    · exact ⟨j, List.mem_cons_self .., .inr h⟩
    · obtain ⟨k, hk, h⟩ := ih h
      exact ⟨k, List.mem_cons_of_mem _ hk, h⟩

theorem ancs_acc : ∀ (os : List Oper) (acc : List Nat) (i : Nat), i < acc.length → (ancsFrom os acc).getD i 0 = acc.getD i 0 := by
  intro os
  induction os with
  | nil => intro acc i h; rfl
  | cons o os ih =>
    intro acc i h
    simp only [ancsFrom]
    rw [ih _ i (by simp; omega)]
    simp [List.getD, List.getElem?_append_left h]

theorem ancs_at : ∀ (os : List Oper) (acc : List Nat) (i : Nat) (o : Oper), os[i]? = some o →
    ∀ j, ((ancsFrom os acc).getD (acc.length + i) 0).testBit j = true → ∃ e ∈ edgesOf o, j = e ∨ (e < acc.length + i ∧ ((ancsFrom os acc).getD e 0).testBit j = true) := by
  intro os
  induction os with
  | nil => intro acc i o h; simp at h
  | cons o' os ih =>
    intro acc i o h j hj
    cases i with
    | zero =>
      simp at h
      subst h
      simp only [ancsFrom, Nat.add_zero] at hj ⊢
      rw [ancs_acc os _ acc.length (by simp)] at hj
      simp only [List.getD, List.getElem?_append_right (Nat.le_refl _), Nat.sub_self, List.getElem?_cons_zero, Option.getD_some] at hj
      obtain ⟨e, he, hj⟩ := mask_bit _ hj
      refine ⟨e, he, ?_⟩
      rcases hj with h | h
      · exact .inl h
      · right
        rcases Nat.lt_or_ge e acc.length with hlt | hge
        · refine ⟨hlt, ?_⟩
          have h2 := ancs_acc os (acc ++ [maskOf acc (edgesOf o')]) e (by simp; omega)
          simp only [List.getD, List.getElem?_append_left hlt] at h h2 ⊢
          rw [h2]
          exact h
        · rw [List.getD, List.getElem?_eq_none hge] at h
          simp at h
    | succ i =>
      simp only [ancsFrom] at hj ⊢
      have := ih (acc ++ [maskOf acc (edgesOf o')]) i o (by simpa using h) j (by
        rw [List.length_append, List.length_singleton]
        rwa [show acc.length + 1 + i = acc.length + (i + 1) by omega])
      rw [List.length_append, List.length_singleton] at this
      rwa [show acc.length + 1 + i = acc.length + (i + 1) by omega] at this

theorem anc_of {ops : Array Oper} {i j : Nat} {o : Oper} (ho : ops[i]? = some o) (hj : ((ancsFrom ops.toList []).getD i 0).testBit j = true) : ∃ e ∈ edgesOf o, j = e ∨ (e < i ∧ ((ancsFrom ops.toList []).getD e 0).testBit j = true) := by
  have := ancs_at ops.toList [] i o (by simpa using ho) j (by simpa using hj)
  simpa using this

/-- What has come has all come that was to come before it. -/
def Closed (ops : Array Oper) (L : Nat → Bool) : Prop := ∀ (i : Nat) (o : Oper), L i = true → ops[i]? = some o → ∀ e ∈ edgesOf o, L e = true

theorem anc_listed {ops : Array Oper} {L : Nat → Bool} (hc : Closed ops L) : ∀ (i : Nat) (o : Oper), ops[i]? = some o → (∀ e ∈ edgesOf o, L e = true) → ∀ j, ((ancsFrom ops.toList []).getD i 0).testBit j = true → L j = true := by
  intro i
  induction i using Nat.strongRecOn with | ind i ih =>
  intro o ho hed j hj
  obtain ⟨e, he, h | ⟨hlt, h⟩⟩ := anc_of ho hj
  · rw [h]; exact hed e he
  · have hi : i < ops.size := (Array.getElem?_eq_some_iff.1 ho).1
    have hoe : ops[e]? = some (ops[e]'(by omega)) := Array.getElem?_eq_getElem (by omega)
    exact ih e hlt _ hoe (hc e _ (hed e he) hoe) j h

/- ## What is asked, in words -/
structure RegB (ops : Array Oper) : Prop where
  edges : ∀ (i : Nat) (o : Oper), ops[i]? = some o → ∀ e ∈ edgesOf o, e < i
  distinct : ∀ (i j : Nat) (oi oj : Oper) (d : Tmp), ops[i]? = some oi → ops[j]? = some oj → oi.dst = some d → oj.dst = some d → i = j
  reads : ∀ (i j : Nat) (oi oj : Oper) (d : Tmp), ops[i]? = some oi → ops[j]? = some oj → j ≠ i → oj.dst = some d → d ∈ oi.looksAt ops → (j < i ∧ ((ancsFrom ops.toList []).getD i 0).testBit j = true) ∨ (i < j ∧ ((ancsFrom ops.toList []).getD j 0).testBit i = true)

structure RegOk (E : Env) (ops : Array Oper) : Prop extends RegB ops where
  site : ∀ (i : Nat) (o : Oper), ops[i]? = some o → heapish o.op = true → wKind E o = false → o.dst.isSome = true
  writes : ∀ (i j : Nat) (oi oj : Oper), ops[i]? = some oi → ops[j]? = some oj → j < i → heapish oi.op = true → heapish oj.op = true → lk E ops i = true → ((ancsFrom ops.toList []).getD i 0).testBit j = true

theorem lk_of {E : Env} {ops : Array Oper} {i j : Nat} {o : Oper} (ho : ops[j]? = some o) (hw : wKind E o = true) (hji : j ≤ i) : lk E ops i = true := by
  unfold lk
  rw [List.any_eq_true]
  exact ⟨j, List.mem_range.2 (by omega), by rw [ho]; exact hw⟩

theorem lk_false {E : Env} {ops : Array Oper} {i : Nat} (h : lk E ops i = false) {j : Nat} {o : Oper} (ho : ops[j]? = some o) (hji : j ≤ i) : wKind E o = false := by
  cases hw : wKind E o with
  | false => rfl
  | true => rw [lk_of ho hw hji] at h; cases h

theorem lk_ex {E : Env} {ops : Array Oper} {i : Nat} (h : lk E ops i = true) : ∃ j o, j ≤ i ∧ ops[j]? = some o ∧ wKind E o = true := by
  unfold lk at h
  rw [List.any_eq_true] at h
  obtain ⟨k, hk, h⟩ := h
  have hk' := List.mem_range.1 hk
  split at h
  · rename_i o ho; exact ⟨k, o, by omega, ho, h⟩
  · cases h

theorem lk_mono {E : Env} {ops : Array Oper} {i j : Nat} (h : lk E ops j = true) (hji : j ≤ i) : lk E ops i = true := by
  unfold lk at h
  rw [List.any_eq_true] at h
  obtain ⟨k, hk, h⟩ := h
  have hk' := List.mem_range.1 hk
  split at h
  · rename_i o ho; exact lk_of ho h (by omega)
  · cases h

theorem base_ok {ops : Array Oper} (one : ∀ (i : Nat) (o : Oper), ops[i]? = some o → (edgesOf o).all (· < i) = true)
    (two : ∀ (i j : Nat) (oi oj : Oper), ops[i]? = some oi → ops[j]? = some oj → j < i → basePair ops (ancsFrom ops.toList []) oi oj i j = true) : RegB ops := by
  have pair : ∀ (i j : Nat) (oi oj : Oper), ops[i]? = some oi → ops[j]? = some oj → j < i → (oj.dst.isNone = true ∨ oi.dst ≠ oj.dst) ∧ (∀ d, oj.dst = some d → d ∈ oi.looksAt ops → ((ancsFrom ops.toList []).getD i 0).testBit j = true) ∧
      (∀ d, oi.dst = some d → d ∈ oj.looksAt ops → ((ancsFrom ops.toList []).getD i 0).testBit j = true) := by
    intro i j oi oj hi hj hlt
    have := two i j oi oj hi hj hlt
    unfold basePair at this
    simp only [Bool.and_eq_true] at this
    obtain ⟨⟨h1, h2⟩, h3⟩ := this
    refine ⟨?_, ?_, ?_⟩
    · simpa using h1
    · intro d hd hl
      rw [hd] at h2
      simp only [Bool.or_eq_true, Bool.not_eq_true'] at h2
      rcases h2 with h2 | h2
      · have : (oi.looksAt ops).contains d = true := List.contains_iff_mem.2 hl
        rw [h2] at this; cases this
      · exact h2
    · intro d hd hl
      rw [hd] at h3
      simp only [Bool.or_eq_true, Bool.not_eq_true'] at h3
      rcases h3 with h3 | h3
      · have : (oj.looksAt ops).contains d = true := List.contains_iff_mem.2 hl
        rw [h3] at this; cases this
      · exact h3
  refine ⟨?_, ?_, ?_⟩
  · intro i o ho e he
    have := one i o ho
    simp only [List.all_eq_true, decide_eq_true_eq] at this
    exact this e he
  · intro i j oi oj d hi hj hdi hdj
    rcases Nat.lt_trichotomy i j with h | h | h
    · exfalso
      rcases (pair j i oj oi hj hi h).1 with h1 | h1
      · rw [hdi] at h1; cases h1
      · exact h1 (by rw [hdi, hdj])
    · exact h
    · exfalso
      rcases (pair i j oi oj hi hj h).1 with h1 | h1
      · rw [hdj] at h1; cases h1
      · exact h1 (by rw [hdi, hdj])
  · intro i j oi oj d hi hj hne hd hl
    rcases Nat.lt_or_gt_of_ne hne with h | h
    · exact .inl ⟨h, (pair i j oi oj hi hj h).2.1 d hd hl⟩
    · exact .inr ⟨h, (pair j i oj oi hj hi h).2.2 d hd hl⟩

theorem regionOk_ok {E : Env} {ops : Array Oper} (h : regionOk E ops = true) : RegOk E ops := by
  unfold regionOk at h
  simp only [List.all_eq_true, List.mem_range] at h
  have one : ∀ (i : Nat) (o : Oper), ops[i]? = some o → (edgesOf o).all (· < i) = true ∧ (!heapish o.op || wKind E o || o.dst.isSome) = true ∧ ∀ (j : Nat) (oj : Oper), j < i → ops[j]? = some oj → pairOk E ops (ancsFrom ops.toList []) o oj i j = true := by
    intro i o ho
    have hi : i < ops.size := (Array.getElem?_eq_some_iff.1 ho).1
    have := h i hi
    rw [ho] at this
    simp only [Bool.and_eq_true, List.all_eq_true, List.mem_range] at this
    refine ⟨by simpa using this.1.1, by simpa using this.1.2, fun j oj hj hoj => ?_⟩
    have h2 := this.2 j hj
    rw [hoj] at h2
    exact h2
  have split : ∀ (i j : Nat) (oi oj : Oper), ops[i]? = some oi → ops[j]? = some oj → j < i → basePair ops (ancsFrom ops.toList []) oi oj i j = true ∧ (heapish oi.op = true → heapish oj.op = true → lk E ops i = true → ((ancsFrom ops.toList []).getD i 0).testBit j = true) := by
    intro i j oi oj hi hj hlt
    have := (one i oi hi).2.2 j oj hlt hj
    unfold pairOk at this
    rw [Bool.and_eq_true] at this
    refine ⟨this.1, fun a b c => ?_⟩
    have h4 := this.2
    rw [a, b, c] at h4
    simpa using h4
  refine ⟨base_ok (fun i o ho => (one i o ho).1) fun i j oi oj hi hj hlt => (split i j oi oj hi hj hlt).1, ?_, fun i j oi oj hi hj hlt => (split i j oi oj hi hj hlt).2⟩
  intro i o ho h1 h2
  have := (one i o ho).2.1
  rw [h1, h2] at this
  simpa using this

/- ## The run in the order of the text -/
theorem runOps_sts {E : Env} {pc : FuncId → List AV → Option AV} {tc : Tgt → List AV → Heap → WRes} {nt dep : Nat} {ops : Array Oper} : ∀ (l : List Oper) (st st' : St), runOps E pc tc nt dep true ops l st = some st' →
    ∃ f : Nat → St, f 0 = st ∧ f l.length = st' ∧ ∀ i o, l[i]? = some o → evalOp E pc tc nt dep true ops o (f i) = some (f (i + 1)) := by
  intro l
  induction l with
  | nil =>
    intro st st' h
    simp only [runOps, Option.some.injEq] at h
    exact ⟨fun _ => st, rfl, h, fun i o hi => by simp at hi⟩
  | cons o l ih =>
    intro st st' h
    simp only [runOps] at h
    split at h
    · rename_i st1 h1
      obtain ⟨f, h2, h3, h4⟩ := ih st1 st' h
      refine ⟨fun n => match n with | 0 => st | n + 1 => f n, rfl, h3, ?_⟩
      intro i o' hi
      cases i with
      | zero => simp at hi; subst hi; simp only; rw [h2]; exact h1
      | succ i => exact h4 i o' (by simpa using hi)
    · cases h

/-- One step of the text's run, seen apart. -/
inductive Kinds (E : Env) (pc : FuncId → List AV → Option AV) (nt dep : Nat) (ops : Array Oper) (o : Oper) (st st2 : St) : Prop
  | no (hw : wanted ops st.tm o = some false) (tm' : List AV) (ht : setDst nt st.tm o.dst AV.undef = some tm') (he : st2 = ⟨tm', st.hp⟩)
  | quiet (hw : wanted ops st.tm o = some true) (x : AV) (bs : List Blk) (hq : evalQ E pc true st.hp.get st.tm ⟨dep, o.dst.getD 0, st.hp.gen dep (o.dst.getD 0), 0⟩ o = some (x, bs)) (tm' : List AV)
      (ht : setDst nt st.tm o.dst x = some tm') (he : st2 = ⟨tm', keyed ⟨dep, o.dst.getD 0, st.hp.gen dep (o.dst.getD 0), 0⟩ 0 bs st.hp⟩)
  | write (hk : wKind E o = true)

theorem kinds_of {E : Env} {pc : FuncId → List AV → Option AV} {tc : Tgt → List AV → Heap → WRes} {nt dep : Nat} {ops : Array Oper} {o : Oper} {st st2 : St} (h : evalOp E pc tc nt dep true ops o st = some st2) : Kinds E pc nt dep ops o st st2 := by
  unfold evalOp at h
  split at h
  · cases h
  · rename_i hw
    simp only [Option.map_eq_some_iff] at h
    obtain ⟨tm', ht, rfl⟩ := h
    exact .no hw tm' ht rfl
  · rename_i hw
    split at h
    · rename_i x bs hq
      simp only [Option.map_eq_some_iff] at h
      obtain ⟨tm', ht, rfl⟩ := h
      exact .quiet hw x bs hq tm' ht rfl
    · split at h
      · cases h
      · rename_i hk
        refine .write ?_
        simpa using hk

theorem wKind_heapish {E : Env} {o : Oper} (h : wKind E o = true) : heapish o.op = true := by
  unfold wKind at h
  have two : (E.frz o && bsOp o.op) = true → heapish o.op = true := by
    intro h
    replace h := (Bool.and_eq_true_iff.1 h).2
    unfold bsOp at h
    split at h
    · rename_i hop; rw [hop]; rfl
    · cases h
  by_cases h2 : (E.frz o && bsOp o.op) = true
  · exact two h2
  replace h := (Bool.or_eq_true_iff.1 h).resolve_right h2
  replace h := (Bool.and_eq_true_iff.1 h).2
  unfold wOp at h
  split at h
  · rename_i hop; rw [hop]; rfl
  · rename_i hop; rw [hop]; rfl
  · rename_i hop; rw [hop]; rfl
  · rename_i hop; rw [hop]; rfl
  · rename_i hop; rw [hop]; rfl
  · rename_i c hop
    rw [hop]
    unfold heapish
    split at h
    · rename_i hc; simp [hc]
    · rename_i hc; simp [hc]
    · rename_i hc; simp [hc]
    · rename_i hc; simp [hc]
    · cases h
  · cases h

/-- An operation that does not look at memory. -/
theorem plain_ok {E : Env} {pc : FuncId → List AV → Option AV} {g : Get} {tm : List AV} {r : Ref} {o : Oper} (hh : heapish o.op = false) {x : AV} {bs : List Blk} (h : evalQ E pc true g tm r o = some (x, bs)) :
    bs = [] ∧ ∀ g' r', evalQ E pc true g' tm r' o = some (x, bs) := by
  have v : ∀ {y : Option AV}, qVal y = some (x, bs) → bs = [] := fun h => (qVal_ok h).2
  unfold evalQ at h ⊢
  split at h
  · exact ⟨v h, fun _ _ => h⟩
  · exact ⟨v h, fun _ _ => h⟩
  · refine ⟨?_, fun _ _ => h⟩
    unfold qPick at h
    split at h
    · exact v h
    · exact v h
    · cases h
  · rename_i hop; rw [hop] at hh; simp [heapish] at hh
  · rename_i hop; rw [hop] at hh; simp [heapish] at hh
  · refine ⟨?_, fun _ _ => h⟩
    unfold qBuild at h
    (repeat' split at h) <;> (try simp_all) <;> (try (obtain ⟨_, _, _, h⟩ := h; exact h))
  · rename_i hop; rw [hop] at hh; simp [heapish] at hh
  · rename_i hop; rw [hop] at hh; simp [heapish] at hh
  · refine ⟨?_, fun _ _ => h⟩
    unfold qNil at h
    (repeat' split at h) <;> (try simp_all) <;> (try (obtain ⟨_, _, _, h⟩ := h; exact h))
  · refine ⟨?_, fun _ _ => h⟩
    unfold qBin at h
    (repeat' split at h) <;> first | exact v h | (simp_all; done)
  · exact ⟨v h, fun _ _ => h⟩
  · rename_i hop; rw [hop] at hh; simp [heapish] at hh
  · refine ⟨?_, fun _ _ => h⟩
    unfold qIface at h
    (repeat' split at h) <;> (try simp_all) <;> (try (obtain ⟨_, _, _, h⟩ := h; exact h))
  · refine ⟨?_, fun _ _ => h⟩
    unfold qFunc at h
    (repeat' split at h) <;> (try simp_all) <;> (try (obtain ⟨_, _, _, h⟩ := h; exact h))
  · rename_i hop; rw [hop] at hh; simp [heapish] at hh
  · rename_i hop; rw [hop] at hh; simp [heapish] at hh
  · rename_i hop; rw [hop] at hh; simp [heapish] at hh
  · rename_i hop; rw [hop] at hh; simp [heapish] at hh
  · refine ⟨?_, fun _ _ => h⟩
    unfold qFieldAddr at h
    (repeat' split at h) <;> (try simp_all) <;> (try (obtain ⟨_, _, _, h⟩ := h; exact h))
  · refine ⟨?_, fun _ _ => h⟩
    unfold qField at h
    (repeat' split at h) <;> first | exact v h | (simp_all; done)
  · rename_i hop; rw [hop] at hh; simp [heapish] at hh
  · refine ⟨?_, fun _ _ => h⟩
    unfold qIndex at h
    (repeat' split at h) <;> first | exact v h | (simp_all; done)
  · refine ⟨?_, fun _ _ => h⟩
    unfold qAssert at h
    (repeat' split at h) <;> (try simp_all) <;> (try (obtain ⟨_, _, _, h⟩ := h; exact h))
  · refine ⟨?_, fun _ _ => h⟩
    unfold qExtract at h
    (repeat' split at h) <;> first | exact v h | (simp_all; done)
  · rename_i c hop
    rw [hop] at hh
    simp only [heapish] at hh
    split at h
    · cases h
    · rename_i args hargs
      split at h
      · rename_i hc; rw [hc] at hh; simp at hh
      · cases h
      · rename_i b hc
        rw [hc] at hh
        unfold qBuiltin at h
        split at h
        · have hl : lenTmp c = false := by simpa using hh
          unfold lenTmp at hl
          rw [hl] at h
          simp at h
        · rename_i hnm
          refine ⟨?_, fun _ _ => by simpa [hargs, hc, qBuiltin] using h⟩
          unfold qLen at h
          (repeat' split at h) <;> (try simp_all) <;> (try (obtain ⟨_, _, _, h⟩ := h; exact h)) <;> (try (obtain ⟨n, _, h⟩ := Option.bind_eq_some_iff.1 h; simp at h; exact h.2))
        · exact ⟨v h, fun _ _ => by simpa [hargs, hc, qBuiltin] using h⟩
        · exact ⟨v h, fun _ _ => by simpa [hargs, hc, qBuiltin] using h⟩
        · simp at hh
        · simp at hh
        · cases h
  · cases h

end Go.Ab
