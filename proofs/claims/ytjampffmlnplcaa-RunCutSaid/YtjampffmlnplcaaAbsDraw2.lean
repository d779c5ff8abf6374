/-
  A region that draws its order: whichever comes, what the order of the text gives: the theorem. No statement of a seat is proved here.
-/
import Derived.Test.YtjampffmlnplcaaAbsDraw
set_option linter.unusedVariables false
set_option linter.unusedSimpArgs false
namespace Go.Ab

/-- What an operation of the text's run makes: under which name. -/
def keyAt (ops : Array Oper) (dep : Nat) (sts : Nat → St) (i : Nat) : Ref := ⟨dep, (dstOf ops i).getD 0, (sts i).hp.gen dep ((dstOf ops i).getD 0), 0⟩

/-- The blocks that it makes, where it only reads what was there. -/
def newAt (E : Env) (pc : FuncId → List AV → Option AV) (ops : Array Oper) (dep : Nat) (sts : Nat → St) (i : Nat) : List Blk :=
  match ops[i]? with
  | none => []
  | some o => if heapish o.op && !lk E ops i then
      match wanted ops (sts i).tm o with
      | some true => (match evalQ E pc true (sts i).hp.get (sts i).tm (keyAt ops dep sts i) o with
        | some (_, bs) => bs
        | none => [])
      | _ => []
    else []

def gF (g0 : Get) (key : Nat → Ref) (new : Nat → List Blk) (L : Nat → Bool) : Nat → Get
  | 0 => g0
  | i + 1 => if L i then addK (gF g0 key new L i) (key i) (new i) else gF g0 key new L i

/-- Is it a name of the i-th? -/
def mt (key : Nat → Ref) (new : Nat → List Blk) (i : Nat) (q : Ref) : Prop := q.d = (key i).d ∧ q.t = (key i).t ∧ q.g = (key i).g ∧ q.k < (new i).length

theorem gF_miss {g0 : Get} {key : Nat → Ref} {new : Nat → List Blk} {L : Nat → Bool} {q : Ref} : ∀ n, (∀ i, i < n → L i = true → ¬ mt key new i q) → gF g0 key new L n q = g0 q := by
  intro n
  induction n with
  | zero => intro _; rfl
  | succ n ih =>
    intro h
    simp only [gF]
    split
    · rename_i hL
      exact (if_neg (h n (Nat.lt_succ_self n) hL)).trans (ih fun i hi => h i (Nat.lt_succ_of_lt hi))
    · exact ih fun i hi => h i (Nat.lt_succ_of_lt hi)

theorem gF_hit {g0 : Get} {key : Nat → Ref} {new : Nat → List Blk} {L : Nat → Bool} {q : Ref} (huniq : ∀ i j, mt key new i q → mt key new j q → i = j) {i : Nat} (hm : mt key new i q) (hL : L i = true) :
    ∀ n, i < n → gF g0 key new L n q = (new i)[q.k]? := by
  intro n
  induction n with
  | zero => intro h; omega
  | succ n ih =>
    intro h
    simp only [gF]
    by_cases hin : i = n
    · subst hin
      rw [if_pos hL]
      exact if_pos hm
    · have : gF g0 key new L n q = (new i)[q.k]? := ih (by omega)
      split
      · exact (if_neg (fun hn => hin (huniq i n hm hn))).trans this
      · exact this

section
variable {E : Env} {pc : FuncId → List AV → Option AV} {tc : Tgt → List AV → Heap → WRes} {nt dep : Nat} {ops : Array Oper} {sts : Nat → St}

/-- The temporaries where the operations of L have come. -/
def TS (ops : Array Oper) (sts : Nat → St) (L : Nat → Bool) (tm : List AV) : Prop :=
  ∀ t, (∀ i, i < ops.size → L i = true → dstOf ops i = some t → tget tm t = tget (sts (i + 1)).tm t) ∧ ((∀ i, i < ops.size → L i = true → dstOf ops i ≠ some t) → tget tm t = tget (sts 0).tm t)

theorem setDst_tget {tm tm' : List AV} {dst : Option Tmp} {x : AV} (h : setDst nt tm dst x = some tm') (t : Nat) : tget tm' t = if dst = some t then x else tget tm t := by
  unfold setDst at h
  split at h
  · injection h with h; subst h; simp
  · rename_i d
    obtain ⟨_, h⟩ := Option.ite_none_right_eq_some.1 h
    injection h with h
    subst h
    rw [tget_tset]
    by_cases htd : t = d
    · subst htd; simp
    · rw [if_neg htd, if_neg (by intro e; injection e with e; exact htd e.symm)]

theorem setDst_same {tm tm' tm1 : List AV} {dst : Option Tmp} {x : AV} (h : setDst nt tm dst x = some tm') : ∃ tm1', setDst nt tm1 dst x = some tm1' := by
  unfold setDst at h ⊢
  cases dst with
  | none => exact ⟨_, rfl⟩
  | some d =>
    simp only at h ⊢
    obtain ⟨hd, _⟩ := Option.ite_none_right_eq_some.1 h
    rw [if_pos hd]
    exact ⟨_, rfl⟩

/-- The value that an operation of the text's run leaves. -/
theorem step_val {o : Oper} {i : Nat} (hrun : evalOp E pc tc nt dep true ops o (sts i) = some (sts (i + 1))) : ∃ x, setDst nt (sts i).tm o.dst x = some (sts (i + 1)).tm := by
  unfold evalOp at hrun
  split at hrun
  · cases hrun
  · simp only [Option.map_eq_some_iff] at hrun
    obtain ⟨tm', ht, he⟩ := hrun
    exact ⟨_, by rw [← he]; exact ht⟩
  · split at hrun
    · simp only [Option.map_eq_some_iff] at hrun
      obtain ⟨tm', ht, he⟩ := hrun
      exact ⟨_, by rw [← he]; exact ht⟩
    · split at hrun
      · cases hrun
      · split at hrun
        · simp only [Option.map_eq_some_iff] at hrun
          obtain ⟨tm', ht, he⟩ := hrun
          exact ⟨_, by rw [← he]; exact ht⟩
        · cases hrun

section
variable (hR : RegB ops) (hrun : ∀ i o, ops[i]? = some o → evalOp E pc tc nt dep true ops o (sts i) = some (sts (i + 1)))
include hR hrun

omit hrun in
theorem dst_ne {i j : Nat} {t : Nat} (hi : dstOf ops i = some t) (hj : dstOf ops j = some t) : i = j := by
  simp only [dstOf, Option.bind_eq_some_iff] at hi hj
  obtain ⟨oi, h1, h2⟩ := hi
  obtain ⟨oj, h3, h4⟩ := hj
  exact hR.distinct i j oi oj t h1 h3 h2 h4

theorem ts_text : ∀ i, i ≤ ops.size → TS ops sts (fun j => decide (j < i)) (sts i).tm := by
  intro i
  induction i with
  | zero => intro _ t; exact ⟨fun j _ hj => by simp at hj, fun _ => rfl⟩
  | succ i ih =>
    intro hle t
    have hlt : i < ops.size := hle
    have ho := Array.getElem?_eq_getElem hlt
    obtain ⟨x, hx⟩ := step_val (hrun i _ ho)
    have hd : dstOf ops i = ops[i].dst := by simp [dstOf, ho]
    have hg := setDst_tget hx t
    obtain ⟨h1, h2⟩ := ih (by omega) t
    refine ⟨fun j hj hjL hjd => ?_, fun hno => ?_⟩
    · simp only [decide_eq_true_eq] at hjL
      by_cases hji : j = i
      · subst hji; rfl
      · have hne : ops[i].dst ≠ some t := by
          intro e
          rw [← hd] at e
          exact hji (dst_ne hR hjd e)
        rw [hg, if_neg hne]
        exact h1 j hj (by simp; omega) hjd
    · have hne : ops[i].dst ≠ some t := by rw [← hd]; exact hno i hlt (by simp)
      rw [hg, if_neg hne]
      exact h2 fun j hj hjL => hno j hj (by simp at hjL ⊢; omega)

/-- What an operation that comes now reads is what it read in the text's run. -/
theorem reads_same {L : Nat → Bool} (hc : Closed ops L) {i : Nat} {o : Oper} (ho : ops[i]? = some o) (hi : L i = false) (hed : ∀ e ∈ edgesOf o, L e = true) {tm : List AV} (hT : TS ops sts L tm) {t : Nat} (ht : t ∈ o.looksAt ops) :
    tget tm t = tget (sts i).tm t := by
  have hlt : i < ops.size := (Array.getElem?_eq_some_iff.1 ho).1
  obtain ⟨h1, h2⟩ := hT t
  obtain ⟨h3, h4⟩ := ts_text hR hrun i (by omega) t
  by_cases hex : ∃ j, j < ops.size ∧ L j = true ∧ dstOf ops j = some t
  · obtain ⟨j, hj, hjL, hjd⟩ := hex
    have hjd' := hjd
    simp only [dstOf, Option.bind_eq_some_iff] at hjd'
    obtain ⟨oj, hoj, hojd⟩ := hjd'
    have hne : j ≠ i := by intro e; rw [e, hi] at hjL; cases hjL
    rcases hR.reads i j o oj t ho hoj hne hojd ht with ⟨hlt', _⟩ | ⟨_, hanc⟩
    · rw [h1 j hj hjL hjd, h3 j hj (by simpa using hlt') hjd]
    · have := anc_listed hc j oj hoj (fun e he => hc j oj hjL hoj e he) i hanc
      rw [hi] at this
      cases this
  · rw [h2 fun j hj hjL hjd => hex ⟨j, hj, hjL, hjd⟩]
    refine (h4 fun j hj hjL hjd => ?_).symm
    simp only [decide_eq_true_eq] at hjL
    have hjd' := hjd
    simp only [dstOf, Option.bind_eq_some_iff] at hjd'
    obtain ⟨oj, hoj, hojd⟩ := hjd'
    rcases hR.reads i j o oj t ho hoj (by omega) hojd ht with ⟨_, hanc⟩ | ⟨hgt, _⟩
    · exact hex ⟨j, hj, anc_listed hc i o ho hed j hanc, hjd⟩
    · omega

omit hrun in
/-- The temporaries behind it. -/
theorem ts_next {L L' : Nat → Bool} {i : Nat} {o : Oper} (ho : ops[i]? = some o) (hL' : ∀ j, L' j = true ↔ (L j = true ∨ j = i)) (hi : L i = false) {tm tm' : List AV} (hT : TS ops sts L tm) {x : AV} (hx : setDst nt (sts i).tm o.dst x = some (sts (i + 1)).tm)
    (hx' : setDst nt tm o.dst x = some tm') : TS ops sts L' tm' := by
  intro t
  have hlt : i < ops.size := (Array.getElem?_eq_some_iff.1 ho).1
  have hd : dstOf ops i = o.dst := by simp [dstOf, ho]
  obtain ⟨h1, h2⟩ := hT t
  have g1 := setDst_tget hx t
  have g2 := setDst_tget hx' t
  refine ⟨fun j hj hjL hjd => ?_, fun hno => ?_⟩
  · rcases (hL' j).1 hjL with h | h
    · have hji : j ≠ i := by intro e; rw [e, hi] at h; cases h
      have hne : o.dst ≠ some t := by rw [← hd]; intro e; exact hji (dst_ne hR hjd e)
      rw [g2, if_neg hne]
      exact h1 j hj h hjd
    · subst h
      rw [hd] at hjd
      rw [g2, if_pos hjd, g1, if_pos hjd]
  · have hne : o.dst ≠ some t := by rw [← hd]; exact hno i hlt ((hL' i).2 (.inr rfl))
    rw [g2, if_neg hne]
    exact h2 fun j hj hjL => hno j hj ((hL' j).2 (.inl hjL))

end

variable (hR : RegOk E ops) (hrun : ∀ i o, ops[i]? = some o → evalOp E pc tc nt dep true ops o (sts i) = some (sts (i + 1)))
include hR hrun

/- ## Names of what is made -/
abbrev key' (ops : Array Oper) (dep : Nat) (sts : Nat → St) : Nat → Ref := keyAt ops dep sts
abbrev new' (E : Env) (pc : FuncId → List AV → Option AV) (ops : Array Oper) (dep : Nat) (sts : Nat → St) : Nat → List Blk := newAt E pc ops dep sts

omit hR hrun in
theorem new_made {i : Nat} (h : newAt E pc ops dep sts i ≠ []) : ∃ o, ops[i]? = some o ∧ heapish o.op = true ∧ lk E ops i = false := by
  unfold newAt at h
  split at h
  · exact absurd rfl h
  · rename_i o ho
    split at h
    · rename_i hc
      simp only [Bool.and_eq_true, Bool.not_eq_true'] at hc
      exact ⟨o, ho, hc.1, hc.2⟩
    · exact absurd rfl h

omit hrun in
theorem mt_uniq {q : Ref} (i j : Nat) (h : mt (keyAt ops dep sts) (newAt E pc ops dep sts) i q) (h' : mt (keyAt ops dep sts) (newAt E pc ops dep sts) j q) : i = j := by
  have ne : ∀ {i}, mt (keyAt ops dep sts) (newAt E pc ops dep sts) i q → newAt E pc ops dep sts i ≠ [] := by
    intro i h e
    have := h.2.2.2
    rw [e] at this
    simp at this
  obtain ⟨oi, h1, h2, h3⟩ := new_made (ne h)
  obtain ⟨oj, h4, h5, h6⟩ := new_made (ne h')
  obtain ⟨di, hdi⟩ := Option.isSome_iff_exists.1 (hR.site i oi h1 h2 (lk_false h3 h1 (Nat.le_refl _)))
  obtain ⟨dj, hdj⟩ := Option.isSome_iff_exists.1 (hR.site j oj h4 h5 (lk_false h6 h4 (Nat.le_refl _)))
  have e1 : q.t = di := by have := h.2.1; simpa [keyAt, dstOf, h1, hdi] using this
  have e2 : q.t = dj := by have := h'.2.1; simpa [keyAt, dstOf, h4, hdj] using this
  exact hR.distinct i j oi oj di h1 h4 hdi (by rw [hdj, ← e1, ← e2])

/-- No operation that may write has come in the text's run. -/
def noW (E : Env) (ops : Array Oper) (n : Nat) : Prop := ∀ j o, j < n → ops[j]? = some o → wKind E o = false

omit hR hrun in
theorem noW_lk {n : Nat} (hw : noW E ops (n + 1)) : lk E ops n = false := by
  cases h : lk E ops n with
  | false => rfl
  | true =>
    unfold lk at h
    rw [List.any_eq_true] at h
    obtain ⟨k, hk, h⟩ := h
    have hk' := List.mem_range.1 hk
    split at h
    · rename_i o ho; rw [hw k o hk' ho] at h; cases h
    · cases h

omit hR in
/-- The text's memory, as far as nothing was written. -/
theorem text_hp {n : Nat} (hn : n ≤ ops.size) (hw : noW E ops n) : (sts n).hp.get = gF (sts 0).hp.get (keyAt ops dep sts) (newAt E pc ops dep sts) (fun _ => true) n := by
  induction n with
  | zero => rfl
  | succ n ih =>
    have ho := Array.getElem?_eq_getElem (show n < ops.size from hn)
    have ih' := ih (by omega) (fun j o hj => hw j o (by omega))
    simp only [gF, if_true]
    rw [← ih']
    have hd : dstOf ops n = ops[n].dst := by simp [dstOf, ho]
    have hk : keyAt ops dep sts n = ⟨dep, ops[n].dst.getD 0, (sts n).hp.gen dep (ops[n].dst.getD 0), 0⟩ := by simp [keyAt, hd]
    rcases kinds_of (hrun n _ ho) with ⟨hwn, tm', ht, he⟩ | ⟨hwn, x, bs, hq, tm', ht, he⟩ | hwk
    · have : newAt E pc ops dep sts n = [] := by
        unfold newAt
        rw [ho]
        simp only [hwn]
        split <;> rfl
      rw [this, addK_nil, he]
    · have hnw := noW_lk hw
      rw [he]
      simp only
      rw [Heap.get_keyed0, ← hk]
      congr 1
      unfold newAt
      rw [ho]
      simp only [hwn, hk, hq, hnw, Bool.not_false, Bool.and_true]
      cases hh : heapish ops[n].op with
      | true => rfl
      | false =>
        rw [(plain_ok hh hq).1]
        rfl
    · exact absurd hwk (by rw [hw n _ (Nat.lt_succ_self n) ho]; simp)

omit hR in
/-- A place's count is as it was, where nothing was made at it. -/
theorem text_gen {n : Nat} (hn : n ≤ ops.size) (hw : noW E ops n) (d t : Nat) : (sts 0).hp.gen d t ≤ (sts n).hp.gen d t ∧
    ((∀ j, j < n → newAt E pc ops dep sts j ≠ [] → ¬ (d = dep ∧ t = (dstOf ops j).getD 0)) → (sts n).hp.gen d t = (sts 0).hp.gen d t) ∧
    ∀ j, j < n → newAt E pc ops dep sts j ≠ [] → d = dep → t = (dstOf ops j).getD 0 → (keyAt ops dep sts j).g < (sts n).hp.gen d t := by
  induction n with
  | zero => exact ⟨Nat.le_refl _, fun _ => rfl, fun j hj => by omega⟩
  | succ n ih =>
    have ho := Array.getElem?_eq_getElem (show n < ops.size from hn)
    obtain ⟨i1, i2, i3⟩ := ih (by omega) (fun j o hj => hw j o (by omega))
    have hd : dstOf ops n = ops[n].dst := by simp [dstOf, ho]
    have hk : keyAt ops dep sts n = ⟨dep, ops[n].dst.getD 0, (sts n).hp.gen dep (ops[n].dst.getD 0), 0⟩ := by simp [keyAt, hd]
    have same : (sts (n + 1)).hp = (sts n).hp → newAt E pc ops dep sts n = [] → (sts 0).hp.gen d t ≤ (sts (n + 1)).hp.gen d t ∧
        ((∀ j, j < n + 1 → newAt E pc ops dep sts j ≠ [] → ¬ (d = dep ∧ t = (dstOf ops j).getD 0)) → (sts (n + 1)).hp.gen d t = (sts 0).hp.gen d t) ∧
        ∀ j, j < n + 1 → newAt E pc ops dep sts j ≠ [] → d = dep → t = (dstOf ops j).getD 0 → (keyAt ops dep sts j).g < (sts (n + 1)).hp.gen d t := by
      intro e1 e2
      rw [e1]
      refine ⟨i1, fun h => i2 fun j hj => h j (by omega), fun j hj hne => ?_⟩
      have : j ≠ n := by intro e; rw [e] at hne; exact hne e2
      exact i3 j (by omega) hne
    rcases kinds_of (hrun n _ ho) with ⟨hwn, tm', ht, he⟩ | ⟨hwn, x, bs, hq, tm', ht, he⟩ | hwk
    · refine same (by rw [he]) ?_
      unfold newAt
      rw [ho]
      simp only [hwn]
      split <;> rfl
    · have hnw := noW_lk hw
      have hbs : newAt E pc ops dep sts n = bs := by
        unfold newAt
        rw [ho]
        simp only [hwn, hk, hq, hnw, Bool.not_false, Bool.and_true]
        cases hh : heapish ops[n].op with
        | true => rfl
        | false => rw [(plain_ok hh hq).1]; rfl
      by_cases hb : bs = []
      · refine same ?_ (by rw [hbs, hb])
        rw [he, hb]
        rfl
      · rw [he]
        simp only
        rw [Heap.gen_keyed]
        simp only [ne_eq, hb, not_false_eq_true, and_true]
        by_cases hdt : d = dep ∧ t = ops[n].dst.getD 0
        · rw [if_pos hdt]
          obtain ⟨rfl, rfl⟩ := hdt
          refine ⟨by omega, fun h => ?_, fun j hj hne h1 h2 => ?_⟩
          · exact absurd ⟨rfl, by rw [hd]⟩ (h n (Nat.lt_succ_self n) (by rw [hbs]; exact hb))
          · by_cases hjn : j = n
            · rw [hjn, hk]; exact Nat.lt_succ_self _
            · have := i3 j (by omega) hne rfl h2
              omega
        · rw [if_neg hdt]
          refine ⟨i1, fun h => i2 fun j hj => h j (by omega), fun j hj hne h1 h2 => ?_⟩
          by_cases hjn : j = n
          · subst hjn
            exact absurd ⟨h1, by rw [h2, hd]⟩ hdt
          · exact i3 j (by omega) hne h1 h2
    · exact absurd hwk (by rw [hw n _ (Nat.lt_succ_self n) ho]; simp)

/-- A name of what is made in the region is new. -/
theorem key_fresh {ι : Map} (hD : Dom ι (sts 0).hp) {i : Nat} {o : Oper} (ho : ops[i]? = some o) (hh : heapish o.op = true) (hnw : wKind E o = false) (hw : noW E ops i) (k : Nat) : ι { keyAt ops dep sts i with k := k } = none := by
  have hi : i < ops.size := (Array.getElem?_eq_some_iff.1 ho).1
  obtain ⟨d, hd⟩ := Option.isSome_iff_exists.1 (hR.site i o ho hh hnw)
  have hds : dstOf ops i = some d := by simp [dstOf, ho, hd]
  obtain ⟨_, h2, _⟩ := text_gen (pc := pc) (tc := tc) (nt := nt) (dep := dep) hrun (Nat.le_of_lt hi) hw dep d
  have hg : (sts i).hp.gen dep d = (sts 0).hp.gen dep d := h2 fun j hj hne hc => by
    obtain ⟨oj, hoj, hhj, hnj⟩ := new_made hne
    obtain ⟨dj, hdj⟩ := Option.isSome_iff_exists.1 (hR.site j oj hoj hhj (lk_false hnj hoj (Nat.le_refl _)))
    have : d = dj := by have := hc.2; simpa [dstOf, hoj, hdj] using this
    exact absurd (hR.distinct i j o oj d ho hoj hd (by rw [hdj, this])) (by omega)
  have hk : keyAt ops dep sts i = ⟨dep, d, (sts 0).hp.gen dep d, 0⟩ := by simp [keyAt, hds, hg]
  rw [hk]
  exact hD.fresh dep d k

end
end Go.Ab
