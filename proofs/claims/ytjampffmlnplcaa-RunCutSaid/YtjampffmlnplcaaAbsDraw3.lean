/-
  A region that draws its order: the step and the end. No statement of a seat is proved here.
-/
import Derived.Test.YtjampffmlnplcaaAbsDraw2
import Derived.Test.YtjampffmlnplcaaAbsRun
set_option linter.unusedVariables false
set_option linter.unusedSimpArgs false
namespace Go.Ab

theorem evalO_looks {ops : Array Oper} {o : Oper} {tm tm' : List AV} (h : ∀ t ∈ o.looksAt ops, tget tm t = tget tm' t) : agreeOn tm tm' o.op.operands.toList := by
  intro x hx
  cases x with
  | tmp t =>
    simp only [evalO]
    rw [h t]
    unfold Oper.looksAt
    exact List.mem_append_left _ (List.mem_filterMap.2 ⟨_, hx, rfl⟩)
  | _ => rfl

theorem wanted_looks {ops : Array Oper} {o : Oper} {tm tm' : List AV} (h : ∀ t ∈ o.looksAt ops, tget tm t = tget tm' t) : wanted ops tm o = wanted ops tm' o := by
  unfold wanted
  cases hg : o.guard with
  | none => rfl
  | some p =>
    obtain ⟨j, b⟩ := p
    simp only
    cases hd : (ops[j]?).bind (·.dst) with
    | none => rfl
    | some t =>
      simp only
      rw [h t]
      unfold Oper.looksAt
      rw [hg]
      simp [hd]

theorem countP_less {p p' : Nat → Bool} {i : Nat} (h1 : ∀ j, p' j = true → p j = true) (h2 : p i = true) (h3 : p' i = false) : ∀ l : List Nat, i ∈ l → l.countP p' < l.countP p := by
  intro l hi
  have mono : ∀ l : List Nat, l.countP p' ≤ l.countP p := fun l => List.countP_mono_left fun x _ => h1 x
  induction l with
  | nil => cases hi
  | cons a l ih =>
    simp only [List.countP_cons]
    by_cases ha : a = i
    · subst ha
      have := mono l
      rw [h2, h3]
      simp
      omega
    · have := ih (by simpa [Ne.symm ha] using hi)
      have h4 : (if p' a = true then 1 else 0) ≤ (if p a = true then 1 else 0) := by
        by_cases hp : p' a = true
        · rw [if_pos hp, if_pos (h1 a hp)]; exact Nat.le_refl _
        · rw [if_neg hp]; exact Nat.zero_le _
      omega

theorem evalOp_tm {E : Env} {pc : FuncId → List AV → Option AV} {tc : Tgt → List AV → Heap → WRes} {nt dep : Nat} {ops : Array Oper} {o : Oper} {st st' : St} {tm1 : List AV} (h : ∀ t ∈ o.looksAt ops, tget tm1 t = tget st.tm t)
    (hev : evalOp E pc tc nt dep true ops o st = some st') : ∃ x tm1', setDst nt st.tm o.dst x = some st'.tm ∧ setDst nt tm1 o.dst x = some tm1' ∧ evalOp E pc tc nt dep true ops o ⟨tm1, st.hp⟩ = some ⟨tm1', st'.hp⟩ := by
  have hag := evalO_looks h
  have hwd := wanted_looks h
  unfold evalOp at hev ⊢
  simp only
  rw [hwd, evalQ_tm hag, evalW_tm hag]
  have fin : ∀ {x : AV} {H : Heap}, (setDst nt st.tm o.dst x).map (fun tm => (⟨tm, H⟩ : St)) = some st' → ∃ x' tm1', setDst nt st.tm o.dst x' = some st'.tm ∧ setDst nt tm1 o.dst x' = some tm1' ∧ (setDst nt tm1 o.dst x).map (fun tm => (⟨tm, H⟩ : St)) = some ⟨tm1', st'.hp⟩ := by
    intro x H hm
    obtain ⟨tm', ht, rfl⟩ := Option.map_eq_some_iff.1 hm
    obtain ⟨tm1', h1⟩ := setDst_same (tm1 := tm1) ht
    exact ⟨x, tm1', ht, h1, by rw [h1]; rfl⟩
  revert hev
  generalize wanted ops st.tm o = W
  generalize evalQ E pc true st.hp.get st.tm ⟨dep, o.dst.getD 0, st.hp.gen dep (o.dst.getD 0), 0⟩ o = X
  generalize evalW E pc tc st.hp st.tm ⟨dep, o.dst.getD 0, st.hp.gen dep (o.dst.getD 0), 0⟩ o = Y
  intro hev
  rcases W with _ | ⟨_ | _⟩
  · cases hev
  · exact fin hev
  · rcases X with _ | ⟨x, bs⟩
    · simp only at hev ⊢
      by_cases hk : (true && !wKind E o) = true
      · rw [if_pos hk] at hev; cases hev
      · rw [if_neg hk] at hev ⊢
        rcases Y with _ | ⟨x, H⟩
        · cases hev
        · exact fin hev
    · exact fin hev

section
variable {E : Env} {pc : FuncId → List AV → Option AV} {tc : Tgt → List AV → Heap → WRes} {nt dep : Nat} {ops : Array Oper} {sts : Nat → St}
variable (hR : RegOk E ops) (hrun : ∀ i o, ops[i]? = some o → evalOp E pc tc nt dep true ops o (sts i) = some (sts (i + 1)))

abbrev gL (E : Env) (pc : FuncId → List AV → Option AV) (ops : Array Oper) (dep : Nat) (sts : Nat → St) (L : Nat → Bool) (n : Nat) : Get := gF (sts 0).hp.get (keyAt ops dep sts) (newAt E pc ops dep sts) L n

/-- Before anything is written: whichever have come. -/
structure Early (E : Env) (pc : FuncId → List AV → Option AV) (ops : Array Oper) (dep : Nat) (sts : Nat → St) (M : Mem) (ι : Map) (w : World) (L : Nat → Bool) (M1 : Mem) (ι1 : Map) (w1 : World) : Prop where
  quiet : ∀ i o, L i = true → ops[i]? = some o → heapish o.op = true → lk E ops i = false
  sim : Sim M1 ι1 (gL E pc ops dep sts L ops.size) w1
  fwd : Fwd M ι (sts 0).hp.get w M1 ι1 (gL E pc ops dep sts L ops.size) w1
  dom : ∀ q, ι q = none → (∀ i, i < ops.size → L i = true → ¬ mt (keyAt ops dep sts) (newAt E pc ops dep sts) i q) → ι1 q = none

/-- Behind the first that may write: those that see memory came in the text's order. -/
structure Late (E : Env) (ops : Array Oper) (sts : Nat → St) (M : Mem) (ι : Map) (w : World) (L : Nat → Bool) (M1 : Mem) (ι1 : Map) (w1 : World) (k : Nat) : Prop where
  le : k ≤ ops.size
  wrote : ∃ j o, j < k ∧ ops[j]? = some o ∧ wKind E o = true
  upto : ∀ i o, ops[i]? = some o → heapish o.op = true → (L i = true ↔ i < k)
  sim : Sim M1 ι1 (sts k).hp.get w1
  dom : Dom ι1 (sts k).hp
  fwd : Fwd M ι (sts 0).hp.get w M1 ι1 (sts k).hp.get w1

structure Inv (E : Env) (pc : FuncId → List AV → Option AV) (nt : Nat) (ops : Array Oper) (dep : Nat) (sts : Nat → St) (M : Mem) (ι : Map) (w : World) (ds : List Deferred) (L : Nat → Bool) (a1 : Act) (w1 : World) : Prop where
  closed : Closed ops L
  defers : a1.defers = ds
  at_ : ∃ M1 ι1 tm1, TS ops sts L tm1 ∧ TR M1 ι1 tm1 a1 ∧ a1.tmps.size = nt ∧ (Early E pc ops dep sts M ι w L M1 ι1 w1 ∨ ∃ k, Late E ops sts M ι w L M1 ι1 w1 k)

theorem Closed.next {L L' : Nat → Bool} {i : Nat} {o : Oper} (hc : Closed ops L) (ho : ops[i]? = some o) (hed : ∀ e ∈ edgesOf o, L e = true) (hL' : ∀ j, L' j = true ↔ (L j = true ∨ j = i)) : Closed ops L' := by
  intro j oj hj hoj e he
  rcases (hL' j).1 hj with h | h
  · exact (hL' e).2 (.inl (hc j oj h hoj e he))
  · subst h
    rw [ho] at hoj
    injection hoj with hoj
    subst hoj
    exact (hL' e).2 (.inl (hed e he))

theorem keyed_nil (r : Ref) (H : Heap) : keyed r 0 [] H = H := rfl

include hrun in
/-- Where nothing sees memory, it stays. -/
theorem hp_still {k : Nat} : ∀ n, k ≤ n → n ≤ ops.size → (∀ j o, k ≤ j → j < n → ops[j]? = some o → heapish o.op = false) → (sts n).hp = (sts k).hp := by
  intro n
  induction n with
  | zero => intro h _ _; rw [Nat.le_zero.1 h]
  | succ n ih =>
    intro hk hn h
    rcases Nat.lt_or_ge n k with hlt | hge
    · rw [show k = n + 1 by omega]
    · have ho := Array.getElem?_eq_getElem (show n < ops.size from hn)
      have hh := h n _ hge (Nat.lt_succ_self n) ho
      rw [← ih hge (by omega) fun j o a b => h j o a (by omega)]
      rcases kinds_of (hrun n _ ho) with ⟨_, tm', ht, he⟩ | ⟨_, x, bs, hq, tm', ht, he⟩ | hwk
      · rw [he]
      · rw [he, (plain_ok hh hq).1]; rfl
      · rw [wKind_heapish hwk] at hh; cases hh

theorem noW_of {i : Nat} {o : Oper} (ho : ops[i]? = some o) (hh : heapish o.op = true) (hnw : lk E ops i = false) : noW E ops i :=
  fun j oj hj hoj => lk_false hnw hoj (Nat.le_of_lt hj)

include hR hrun in
theorem mt_fresh {ι : Map} (hD : Dom ι (sts 0).hp) {i : Nat} {q : Ref} (hm : mt (keyAt ops dep sts) (newAt E pc ops dep sts) i q) : ι q = none := by
  have hne : newAt E pc ops dep sts i ≠ [] := by
    intro e
    have := hm.2.2.2
    rw [e] at this
    simp at this
  obtain ⟨o, ho, hh, hnw⟩ := new_made hne
  have := key_fresh (pc := pc) (tc := tc) (nt := nt) hR hrun hD ho hh (lk_false hnw ho (Nat.le_refl _)) (noW_of ho hh hnw) q.k
  rwa [show ({ keyAt ops dep sts i with k := q.k } : Ref) = q by
    obtain ⟨h1, h2, h3, h4⟩ := hm
    cases q
    simp_all] at this

include hR in
/-- What is made where i comes too. -/
theorem gL_add {L L' : Nat → Bool} {i : Nat} (hi : i < ops.size) (hL' : ∀ j, L' j = true ↔ (L j = true ∨ j = i)) : gL E pc ops dep sts L' ops.size = addK (gL E pc ops dep sts L ops.size) (keyAt ops dep sts i) (newAt E pc ops dep sts i) := by
  funext q
  unfold addK
  have uniq : ∀ i j, mt (keyAt ops dep sts) (newAt E pc ops dep sts) i q → mt (keyAt ops dep sts) (newAt E pc ops dep sts) j q → i = j := fun i j => mt_uniq hR i j
  split
  · rename_i hm
    exact gF_hit uniq (i := i) hm ((hL' i).2 (.inr rfl)) ops.size hi
  · rename_i hm
    by_cases hex : ∃ j, j < ops.size ∧ L j = true ∧ mt (keyAt ops dep sts) (newAt E pc ops dep sts) j q
    · obtain ⟨j, hj, hjL, hjm⟩ := hex
      rw [gL, gF_hit uniq hjm ((hL' j).2 (.inl hjL)) _ hj, gL, gF_hit uniq hjm hjL _ hj]
    · rw [gL, gF_miss, gL, gF_miss]
      · intro j hj hjL hjm
        exact hex ⟨j, hj, hjL, hjm⟩
      · intro j hj hjL hjm
        rcases (hL' j).1 hjL with h | h
        · exact hex ⟨j, hj, h, hjm⟩
        · subst h; exact hm hjm

include hR in
/-- The same, where what sees memory is the same. -/
theorem gL_same {L : Nat → Bool} {n : Nat} (hn : n ≤ ops.size) (h : ∀ j o, j < ops.size → ops[j]? = some o → heapish o.op = true → lk E ops j = false → (L j = true ↔ j < n)) : gL E pc ops dep sts (fun _ => true) n = gL E pc ops dep sts L ops.size := by
  funext q
  have uniq : ∀ i j, mt (keyAt ops dep sts) (newAt E pc ops dep sts) i q → mt (keyAt ops dep sts) (newAt E pc ops dep sts) j q → i = j := fun i j => mt_uniq hR i j
  have made : ∀ {j}, mt (keyAt ops dep sts) (newAt E pc ops dep sts) j q → ∃ o, ops[j]? = some o ∧ heapish o.op = true ∧ lk E ops j = false := by
    intro j hm
    refine new_made (pc := pc) (dep := dep) (sts := sts) ?_
    intro e
    have := hm.2.2.2
    rw [e] at this
    simp at this
  by_cases hex : ∃ j, mt (keyAt ops dep sts) (newAt E pc ops dep sts) j q
  · obtain ⟨j, hjm⟩ := hex
    obtain ⟨o, ho, hh, hnw⟩ := made hjm
    have hj : j < ops.size := (Array.getElem?_eq_some_iff.1 ho).1
    have hiff := h j o hj ho hh hnw
    by_cases hjn : j < n
    · rw [gL, gF_hit uniq hjm rfl _ hjn, gL, gF_hit uniq hjm (hiff.2 hjn) _ hj]
    · rw [gL, gF_miss, gL, gF_miss]
      · intro i hi hiL him
        have := uniq i j him hjm
        subst this
        exact hjn (hiff.1 hiL)
      · intro i hi hiL him
        have := uniq i j him hjm
        omega
  · rw [gL, gF_miss _ (fun i _ _ him => hex ⟨i, him⟩), gL, gF_miss _ (fun i _ _ him => hex ⟨i, him⟩)]

include hrun in
/-- The names on hand are of the text's memory. -/
theorem dom_text {M : Mem} {ι ι1 : Map} (hD : Dom ι (sts 0).hp) {L : Nat → Bool} {n : Nat} (hn : n ≤ ops.size) (hw : noW E ops n)
    (hdom : ∀ q, ι q = none → (∀ i, i < ops.size → L i = true → ¬ mt (keyAt ops dep sts) (newAt E pc ops dep sts) i q) → ι1 q = none)
    (hmap : ∀ q l, ι q = some l → ι1 q = some l) (h : ∀ j o, j < ops.size → ops[j]? = some o → heapish o.op = true → lk E ops j = false → L j = true → j < n) : Dom ι1 (sts n).hp := by
  intro q l hq
  obtain ⟨h1, h2, h3⟩ := text_gen (pc := pc) (tc := tc) (nt := nt) (dep := dep) hrun hn hw q.d q.t
  cases hι : ι q with
  | some l0 => exact Nat.lt_of_lt_of_le (hD q l0 hι) h1
  | none =>
    by_cases hex : ∃ i, i < ops.size ∧ L i = true ∧ mt (keyAt ops dep sts) (newAt E pc ops dep sts) i q
    · obtain ⟨i, hi, hiL, him⟩ := hex
      have hne : newAt E pc ops dep sts i ≠ [] := by
        intro e
        have := him.2.2.2
        rw [e] at this
        simp at this
      obtain ⟨o, ho, hh, hnw⟩ := new_made hne
      have := h3 i (h i o hi ho hh hnw hiL) hne him.1 him.2.1
      rw [him.2.2.1]
      exact this
    · rw [hdom q hι fun i hi hiL him => hex ⟨i, hi, hiL, him⟩] at hq
      cases hq

variable {M : Mem} {ι : Map} {w : World} {ds : List Deferred}

include hR hrun in
/-- One that comes: it fits. -/
theorem inv_step (hpc : ∀ f xs y, pc f xs = some y → PureOk E.P f xs y) (htc : ∀ f xs H y H', tc f xs H = some (y, H') → ThrOk E.P f xs H y H') {ro : Option Nat} {Q : Exit → Act → World → Prop}
    (hS0 : Sim M ι (sts 0).hp.get w) (hD0 : Dom ι (sts 0).hp) {L L' : Nat → Bool} {i : Nat} {o : Oper} (ho : ops[i]? = some o) (hi : L i = false) (hed : ∀ e ∈ edgesOf o, L e = true)
    (hL' : ∀ j, L' j = true ↔ (L j = true ∨ j = i)) {a1 : Act} {w1 : World} (hI : Inv E pc nt ops dep sts M ι w ds L a1 w1) {K : Act → World → Prop} (hK : ∀ a' w', Inv E pc nt ops dep sts M ι w ds L' a' w' → K a' w') :
    if Region.wanted o (yielded ops a1.tmps) then o.wpIn (FW ro) 0 E.P a1 w1 K Q else K (a1.put o.dst undef) w1 := by
  obtain ⟨hc, hds, M1, ι1, tm1, hTS, hTR, hnt, hcase⟩ := hI
  have hlt : i < ops.size := (Array.getElem?_eq_some_iff.1 ho).1
  have hc' : Closed ops L' := Closed.next hc ho hed hL'
  have hlook : ∀ t ∈ o.looksAt ops, tget tm1 t = tget (sts i).tm t := fun t ht => reads_same hR.toRegB hrun hc ho hi hed hTS ht
  have hag := evalO_looks hlook
  have hwd := wanted_looks hlook
  have step := hrun i o ho
  have anc := anc_listed hc i o ho hed
  cases hb : (heapish o.op && lk E ops i) with
  | true =>
    obtain ⟨hh, hwk⟩ := Bool.and_eq_true_iff.1 hb
    -- all that see memory, before it, have come
    have before : ∀ j oj, j < i → ops[j]? = some oj → heapish oj.op = true → L j = true := fun j oj hj hoj hhj => anc j (hR.writes i j o oj ho hoj hj hh hhj hwk)
    have hO : StOk M1 ι1 ⟨tm1, (sts i).hp⟩ nt a1 w1 ∧ Fwd M ι (sts 0).hp.get w M1 ι1 (sts i).hp.get w1 ∧ ∀ j oj, ops[j]? = some oj → heapish oj.op = true → (L j = true → j < i) := by
      rcases hcase with hE | ⟨k, hE⟩
      · have hw : noW E ops i := by
          intro j oj hj hoj
          cases hw : wKind E oj with
          | false => rfl
          | true => have := lk_false (hE.quiet j oj (before j oj hj hoj (wKind_heapish hw)) hoj (wKind_heapish hw)) hoj (Nat.le_refl _); rw [hw] at this; cases this
        have hle : ∀ j oj, ops[j]? = some oj → heapish oj.op = true → (L j = true → j < i) := by
          intro j oj hoj hhj hjL
          rcases Nat.lt_trichotomy j i with h | h | h
          · exact h
          · subst h; rw [hi] at hjL; cases hjL
          · have := lk_mono hwk (Nat.le_of_lt h)
            rw [hE.quiet j oj hjL hoj hhj] at this
            cases this
        have hg : (sts i).hp.get = gL E pc ops dep sts L ops.size := by
          rw [text_hp (pc := pc) hrun (Nat.le_of_lt hlt) hw]
          exact gL_same hR (Nat.le_of_lt hlt) fun j oj hj hoj hhj _ => ⟨hle j oj hoj hhj, fun hji => before j oj hji hoj hhj⟩
        refine ⟨⟨by rw [hg]; exact hE.sim, ?_, hTR, hnt⟩, by rw [hg]; exact hE.fwd, hle⟩
        exact dom_text (M := M) (tc := tc) (nt := nt) hrun hD0 (Nat.le_of_lt hlt) hw hE.dom hE.fwd.map fun j oj _ hoj hhj _ => hle j oj hoj hhj
      · have hki : k ≤ i := by
          rcases Nat.lt_or_ge i k with h | h
          · rw [(hE.upto i o ho hh).2 h] at hi; cases hi
          · exact h
        have hst : (sts i).hp = (sts k).hp := hp_still hrun i hki (Nat.le_of_lt hlt) fun j oj hkj hji hoj => by
          cases hhj : heapish oj.op with
          | false => rfl
          | true => have := (hE.upto j oj hoj hhj).1 (before j oj hji hoj hhj); omega
        refine ⟨⟨by rw [hst]; exact hE.sim, by rw [hst]; exact hE.dom, hTR, hnt⟩, by rw [hst]; exact hE.fwd, fun j oj hoj hhj hjL => ?_⟩
        have := (hE.upto j oj hoj hhj).1 hjL
        omega
    obtain ⟨hO, hF, hle⟩ := hO
    obtain ⟨x, tm1', hx, hx', hev⟩ := evalOp_tm hlook step
    refine evalOp_ok (E := E) (Q := Q) hO hpc htc hev fun a' w' ⟨⟨M', ι', hO', hF'⟩, hd'⟩ => hK a' w' ⟨hc', hd'.trans hds, M', ι', tm1', ?_, hO'.tr, hO'.nt, .inr ⟨i + 1, ?_⟩⟩
    · exact ts_next hR.toRegB ho hL' hi hTS hx hx'
    · obtain ⟨j0, o0, hj0, ho0, hw0⟩ := lk_ex hwk
      refine ⟨hlt, ⟨j0, o0, by omega, ho0, hw0⟩, fun j oj hoj hhj => ⟨fun hj => ?_, fun hj => ?_⟩, hO'.sim, hO'.dom, hF.trans hF'⟩
      · rcases (hL' j).1 hj with h | h
        · exact Nat.lt_succ_of_lt (hle j oj hoj hhj h)
        · omega
      · rcases Nat.lt_or_ge j i with h | h
        · exact (hL' j).2 (.inl (before j oj h hoj hhj))
        · exact (hL' j).2 (.inr (by omega))
  | false =>
    have hnl : heapish o.op = true → lk E ops i = false := by
      intro hh
      rw [hh, Bool.true_and] at hb
      exact hb
    have hk : keyAt ops dep sts i = ⟨dep, o.dst.getD 0, (sts i).hp.gen dep (o.dst.getD 0), 0⟩ := by simp [keyAt, dstOf, ho]
    -- nothing made, nothing changed
    have still : ∀ (u : Value) (x : AV) (tm1' : List AV) (w' : World) (M' : Mem) (ι' : Map), newAt E pc ops dep sts i = [] → (hcase : (Early E pc ops dep sts M ι w L M1 ι1 w1 → Early E pc ops dep sts M ι w L M' ι' w') ∧ ∀ k, Late E ops sts M ι w L M1 ι1 w1 k → Late E ops sts M ι w L M' ι' w' k) →
        (heapish o.op = false ∨ ∀ k, ¬ Late E ops sts M ι w L M1 ι1 w1 k) → setDst nt (sts i).tm o.dst x = some (sts (i + 1)).tm → setDst nt tm1 o.dst x = some tm1' → TR M' ι' tm1' (a1.put o.dst u) → (a1.put o.dst u).tmps.size = nt →
        Inv E pc nt ops dep sts M ι w ds L' (a1.put o.dst u) w' := by
      intro u x tm1' w' M' ι' hnil hcs hor hx hx' htr hn
      refine ⟨hc', (put_defers _ _ _).trans hds, M', ι', tm1', ts_next hR.toRegB ho hL' hi hTS hx hx', htr, hn, ?_⟩
      rcases hcase with hE | ⟨k, hE⟩
      · have hE' := hcs.1 hE
        have hg : gL E pc ops dep sts L' ops.size = gL E pc ops dep sts L ops.size := by rw [gL_add hR hlt hL', hnil, addK_nil]
        refine .inl ⟨fun j oj hj hoj hhj => ?_, by rw [hg]; exact hE'.sim, by rw [hg]; exact hE'.fwd, fun q hq hno => hE'.dom q hq fun j hj hjL => hno j hj ((hL' j).2 (.inl hjL))⟩
        rcases (hL' j).1 hj with h | h
        · exact hE'.quiet j oj h hoj hhj
        · subst h; rw [ho] at hoj; injection hoj with hoj; rw [← hoj] at hhj; exact hnl hhj
      · have hE' := hcs.2 k hE
        refine .inr ⟨k, hE'.le, hE'.wrote, fun j oj hoj hhj => ?_, hE'.sim, hE'.dom, hE'.fwd⟩
        rcases hor with hor | hor
        · rw [← hE'.upto j oj hoj hhj, hL' j]
          constructor
          · rintro (h | h)
            · exact h
            · subst h; rw [ho] at hoj; injection hoj with hoj; rw [← hoj, hor] at hhj; cases hhj
          · exact .inl
        · exact absurd hE (hor k)
    have noLate : heapish o.op = true → ∀ k, ¬ Late E ops sts M ι w L M1 ι1 w1 k := by
      intro hh k hE
      obtain ⟨j, oj, hjk, hoj, hwj⟩ := hE.wrote
      rcases Nat.lt_or_ge i k with h | h
      · rw [(hE.upto i o ho hh).2 h] at hi; cases hi
      · have := lk_of hoj hwj (show j ≤ i by omega)
        rw [hnl hh] at this; cases this
    have hor : heapish o.op = false ∨ ∀ k, ¬ Late E ops sts M ι w L M1 ι1 w1 k := by
      cases hh : heapish o.op with
      | false => exact .inl rfl
      | true => exact .inr (noLate hh)
    rcases kinds_of step with ⟨hw, tm', ht, he⟩ | ⟨hw, x, bs, hq, tm', ht, he⟩ | hwk'
    · rw [← hwd] at hw
      rw [wanted_ok hTR hw]
      simp only [Bool.false_eq_true, if_false]
      have hx : setDst nt (sts i).tm o.dst AV.undef = some (sts (i + 1)).tm := by rw [he]; exact ht
      obtain ⟨tm1', hx'⟩ := setDst_same (tm1 := tm1) hx
      obtain ⟨h1, h2⟩ := hTR.put hnt hx' (u := undef) (.v rfl)
      refine hK _ _ (still undef AV.undef tm1' w1 M1 ι1 ?_ ⟨id, fun _ => id⟩ hor hx hx' h1 h2)
      unfold newAt
      rw [ho]
      rw [hwd] at hw
      simp only [hw]
      split <;> rfl
    · have hw' := hw
      rw [← hwd] at hw
      rw [wanted_ok hTR hw]
      simp only [if_true]
      have hx : setDst nt (sts i).tm o.dst x = some (sts (i + 1)).tm := by rw [he]; exact ht
      obtain ⟨tm1', hx'⟩ := setDst_same (tm1 := tm1) hx
      cases hh : heapish o.op with
      | false =>
        obtain ⟨hbs, hall⟩ := plain_ok hh hq
        subst hbs
        have hnil : newAt E pc ops dep sts i = [] := by
          unfold newAt
          rw [ho]
          simp [hh]
        rcases hcase with hE | ⟨k, hE⟩
        · have hfree : ∀ k, ι1 { (⟨dep + 1, 0, (sts 0).hp.gen (dep + 1) 0, 0⟩ : Ref) with k := k } = none := fun k => hE.dom _ (hD0.fresh _ _ k) fun j _ _ hm => by
            have := hm.1
            simp only [keyAt] at this
            omega
          have hq' : evalQ E pc true (gL E pc ops dep sts L ops.size) tm1 ⟨dep + 1, 0, (sts 0).hp.gen (dep + 1) 0, 0⟩ o = some (x, []) := by rw [evalQ_tm hag]; exact hall _ _
          refine evalQ_ok (E := E) (o := o) hE.sim hTR rfl hfree hpc hq' ro K Q fun u w' ⟨M', ι', h1, h2, h3, h4⟩ => hK _ _ ?_
          rw [addK_nil] at h2 h3
          obtain ⟨h5, h6⟩ := (hTR.mono h3.mem h3.map).put hnt hx' h1
          refine still u x tm1' w' M' ι' hnil ⟨fun _ => ⟨hE.quiet, h2, hE.fwd.trans h3, fun q hq hno => h4 q (hE.dom q hq hno) (fun k hk => by simp at hk)⟩, fun k hl => ?_⟩ (.inl hh) hx hx' h5 h6
          obtain ⟨j, oj, hjk, hoj, hwj⟩ := hl.wrote
          have := lk_false (hE.quiet j oj ((hl.upto j oj hoj (wKind_heapish hwj)).2 hjk) hoj (wKind_heapish hwj)) hoj (Nat.le_refl _)
          rw [hwj] at this; cases this
        · have hq' : evalQ E pc true (sts k).hp.get tm1 ⟨dep, 0, (sts k).hp.gen dep 0, 0⟩ o = some (x, []) := by rw [evalQ_tm hag]; exact hall _ _
          refine evalQ_ok (E := E) (o := o) hE.sim hTR rfl (fun k' => hE.dom.fresh dep 0 k') hpc hq' ro K Q fun u w' hout => hK _ _ ?_
          obtain ⟨M', ι', h1, h2, h3, h4⟩ := hout.toW hE.dom
          rw [keyed_nil] at h2 h3 h4
          obtain ⟨h5, h6⟩ := (hTR.mono h3.mem h3.map).put hnt hx' h1
          refine ⟨hc', (put_defers _ _ _).trans hds, M', ι', tm1', ts_next hR.toRegB ho hL' hi hTS hx hx', h5, h6, .inr ⟨k, hE.le, hE.wrote, fun j oj hoj hhj => ?_, h2, h4, hE.fwd.trans h3⟩⟩
          rw [← hE.upto j oj hoj hhj, hL' j]
          constructor
          · rintro (h | h)
            · exact h
            · subst h; rw [ho] at hoj; injection hoj with hoj; rw [← hoj, hh] at hhj; cases hhj
          · exact .inl
      | true =>
        rcases hcase with hE | ⟨k, hE⟩
        · have hlk := hnl hh
          have hwk := lk_false hlk ho (Nat.le_refl _)
          have hnw := noW_of ho hh hlk
          have hbs : newAt E pc ops dep sts i = bs := by
            unfold newAt
            rw [ho]
            simp only [hw', hk, hq, hh, hlk, Bool.not_false, Bool.and_true, if_true]
          rw [← hk, text_hp (pc := pc) hrun (Nat.le_of_lt hlt) hnw] at hq
          have hloc : Loc' ι1 (gF (sts 0).hp.get (keyAt ops dep sts) (newAt E pc ops dep sts) (fun _ => true) i) (gL E pc ops dep sts L ops.size) := by
            intro q b hg hne
            have uniq : ∀ i j, mt (keyAt ops dep sts) (newAt E pc ops dep sts) i q → mt (keyAt ops dep sts) (newAt E pc ops dep sts) j q → i = j := fun i j => mt_uniq hR i j
            by_cases hex : ∃ j, mt (keyAt ops dep sts) (newAt E pc ops dep sts) j q
            · obtain ⟨j, hjm⟩ := hex
              have hf : ι q = none := mt_fresh (tc := tc) (nt := nt) hR hrun hD0 hjm
              have hjs : j < ops.size := by
                have : newAt E pc ops dep sts j ≠ [] := by
                  intro e
                  have := hjm.2.2.2
                  rw [e] at this
                  simp at this
                obtain ⟨oj, hoj, _⟩ := new_made this
                exact (Array.getElem?_eq_some_iff.1 hoj).1
              cases hjL : L j with
              | false => exact absurd (hE.dom q hf fun i' _ hL him => by rw [uniq i' j him hjm, hjL] at hL; cases hL) hne
              | true =>
                by_cases hji : j < i
                · rw [gF_hit uniq hjm rfl _ hji] at hg
                  rw [gL, gF_hit uniq hjm hjL _ hjs]; exact hg
                · rw [gF_miss _ (fun i' hi' _ him => by have := uniq i' j him hjm; omega), hS0.none_of hf] at hg
                  cases hg
            · rw [gF_miss _ (fun i' _ _ him => hex ⟨i', him⟩)] at hg
              rw [gL, gF_miss _ (fun i' _ _ him => hex ⟨i', him⟩)]
              exact hg
          rw [← evalQ_tm hag] at hq
          have hq' := evalQ_loc hE.sim hloc hTR hq
          have hfree : ∀ k, ι1 { keyAt ops dep sts i with k := k } = none := fun k => hE.dom _ (key_fresh (pc := pc) (tc := tc) (nt := nt) hR hrun hD0 ho hh hwk hnw k) fun j _ hjL hm => by
            have hne : newAt E pc ops dep sts j ≠ [] := by
              intro e
              have := hm.2.2.2
              rw [e] at this
              simp at this
            obtain ⟨oj, hoj, hhj, hnj⟩ := new_made hne
            obtain ⟨dj, hdj⟩ := Option.isSome_iff_exists.1 (hR.site j oj hoj hhj (lk_false hnj hoj (Nat.le_refl _)))
            obtain ⟨di, hdi⟩ := Option.isSome_iff_exists.1 (hR.site i o ho hh hwk)
            have : di = dj := by have := hm.2.1; simpa [keyAt, dstOf, hoj, hdj, ho, hdi] using this
            have := hR.distinct i j o oj di ho hoj hdi (by rw [hdj, this])
            subst this
            rw [hi] at hjL; cases hjL
          refine evalQ_ok (E := E) (o := o) hE.sim hTR (by simp [keyAt]) hfree hpc hq' ro K Q fun u w' ⟨M', ι', h1, h2, h3, h4⟩ => hK _ _ ?_
          obtain ⟨h5, h6⟩ := (hTR.mono h3.mem h3.map).put hnt hx' h1
          have hg' : gL E pc ops dep sts L' ops.size = addK (gL E pc ops dep sts L ops.size) (keyAt ops dep sts i) bs := by rw [gL_add hR hlt hL', hbs]
          refine ⟨hc', (put_defers _ _ _).trans hds, M', ι', tm1', ts_next hR.toRegB ho hL' hi hTS hx hx', h5, h6, .inl ⟨fun j oj hj hoj hhj => ?_, by rw [hg']; exact h2, by rw [hg']; exact hE.fwd.trans h3, fun q hq hno => ?_⟩⟩
          · rcases (hL' j).1 hj with h | h
            · exact hE.quiet j oj h hoj hhj
            · subst h; exact hlk
          · refine h4 q (hE.dom q hq fun j hj hjL => hno j hj ((hL' j).2 (.inl hjL))) fun k hk' e => ?_
            refine hno i hlt ((hL' i).2 (.inr rfl)) ?_
            rw [e]
            exact ⟨rfl, rfl, rfl, by rw [hbs]; exact hk'⟩
        · exact absurd hE (noLate hh k)
    · have h1 := hnl (wKind_heapish hwk')
      rw [lk_of ho hwk' (Nat.le_refl i)] at h1; cases h1


include hR hrun in
/-- All have come. -/
theorem inv_end (hD0 : Dom ι (sts 0).hp) {L : Nat → Bool} (hall : ∀ i, i < ops.size → L i = true) {a a1 : Act} {w1 : World} (hds : a.defers = ds) (hI : Inv E pc nt ops dep sts M ι w ds L a1 w1) : StepTo M ι (sts 0) a w nt (sts ops.size) a1 w1 := by
  obtain ⟨hc, hd1, M1, ι1, tm1, hTS, hTR, hnt, hcase⟩ := hI
  have htm : ∀ t, tget tm1 t = tget (sts ops.size).tm t := by
    intro t
    obtain ⟨h1, h2⟩ := hTS t
    obtain ⟨h3, h4⟩ := ts_text hR.toRegB hrun ops.size (Nat.le_refl _) t
    by_cases hex : ∃ j, j < ops.size ∧ dstOf ops j = some t
    · obtain ⟨j, hj, hd⟩ := hex
      rw [h1 j hj (hall j hj) hd, h3 j hj (by simpa using hj) hd]
    · rw [h2 fun j hj _ hd => hex ⟨j, hj, hd⟩, h4 fun j hj _ hd => hex ⟨j, hj, hd⟩]
  have hTR' : TR M1 ι1 (sts ops.size).tm a1 := ⟨fun t => by rw [← htm]; exact hTR.at_ t⟩
  rcases hcase with hE | ⟨k, hE⟩
  · have hw : noW E ops ops.size := fun j o hj hoj => by
      cases hw : wKind E o with
      | false => rfl
      | true => have := lk_false (hE.quiet j o (hall j hj) hoj (wKind_heapish hw)) hoj (Nat.le_refl _); rw [hw] at this; cases this
    have hg : (sts ops.size).hp.get = gL E pc ops dep sts L ops.size := by
      rw [text_hp (pc := pc) hrun (Nat.le_refl _) hw]
      exact gL_same hR (Nat.le_refl _) fun j o hj _ _ _ => ⟨fun _ => hj, fun _ => hall j hj⟩
    refine ⟨⟨M1, ι1, ⟨by rw [hg]; exact hE.sim, ?_, hTR', hnt⟩, by rw [hg]; exact hE.fwd⟩, hd1.trans hds.symm⟩
    exact dom_text (M := M) (tc := tc) (nt := nt) hrun hD0 (Nat.le_refl _) hw hE.dom hE.fwd.map fun j o hj _ _ _ _ => hj
  · have hst : (sts ops.size).hp = (sts k).hp := hp_still hrun ops.size hE.le (Nat.le_refl _) fun j o hkj hj hoj => by
      cases hh : heapish o.op with
      | false => rfl
      | true => have := (hE.upto j o hoj hh).1 (hall j hj); omega
    exact ⟨⟨M1, ι1, ⟨by rw [hst]; exact hE.sim, by rw [hst]; exact hE.dom, hTR', hnt⟩, by rw [hst]; exact hE.fwd⟩, hd1.trans hds.symm⟩

include hR in
/-- Where none is ready all have come. -/
theorem all_listed {listed : Array Bool} (hsz : listed.size = ops.size) (h : Region.ready .any ops listed = []) : ∀ i, i < ops.size → listed.getD i false = true := by
  intro i
  induction i using Nat.strongRecOn with | ind i ih =>
  intro hi
  cases hl : listed.getD i false with
  | true => rfl
  | false =>
    exfalso
    have ho := Array.getElem?_eq_getElem hi
    have hl' : listed.getD i true = false := by
      have : i < listed.size := by omega
      simpa [Array.getD, this] using hl
    have : i ∈ Region.ready .any ops listed := by
      rw [mem_ready]
      refine ⟨hl', _, ho, fun e he hb => ?_⟩
      have hmem : e.on ∈ edgesOf ops[i] := by
        unfold edgesOf
        exact List.mem_map.2 ⟨e, List.mem_filter.2 ⟨by simpa using he, hb⟩, rfl⟩
      have hlt := hR.edges i _ ho _ hmem
      exact ih e.on hlt (by omega)
    rw [h] at this
    cases this

include hR hrun in
theorem any_ok (hpc : ∀ f xs y, pc f xs = some y → PureOk E.P f xs y) (htc : ∀ f xs H y H', tc f xs H = some (y, H') → ThrOk E.P f xs H y H') {ro : Option Nat} {a0 : Act} (hds : a0.defers = ds) {Q : Exit → Act → World → Prop}
    (hS0 : Sim M ι (sts 0).hp.get w) (hD0 : Dom ι (sts 0).hp) (hQ : ∀ a' w', StepTo M ι (sts 0) a0 w nt (sts ops.size) a' w' → Q .normal a' w') : ∀ (fuel : Nat) (listed : Array Bool) (a1 : Act) (w1 : World), listed.size = ops.size →
    (List.range ops.size).countP (fun i => !listed.getD i false) ≤ fuel → Inv E pc nt ops dep sts M ι w ds (fun i => listed.getD i false) a1 w1 → wpAnyIn (FW ro) 0 E.P .any ops Q fuel listed a1 w1 := by
  intro fuel
  induction fuel with
  | zero =>
    intro listed a1 w1 hsz hf hI
    have hall : ∀ i, i < ops.size → listed.getD i false = true := by
      intro i hi
      cases hl : listed.getD i false with
      | true => rfl
      | false =>
        exfalso
        have : 0 < (List.range ops.size).countP (fun i => !listed.getD i false) := List.countP_pos_iff.2 ⟨i, List.mem_range.2 hi, by rw [hl]; rfl⟩
        omega
    refine ⟨?_, hQ _ _ (inv_end hR hrun hD0 hall hds hI)⟩
    refine List.eq_nil_iff_forall_not_mem.2 fun i hi => ?_
    rw [mem_ready] at hi
    obtain ⟨h0, o, ho, _⟩ := hi
    have hlt : i < ops.size := (Array.getElem?_eq_some_iff.1 ho).1
    have h1 := hall i hlt
    have : i < listed.size := by omega
    simp [Array.getD, this] at h0 h1
    rw [h1] at h0
    cases h0
  | succ fuel ih =>
    intro listed a1 w1 hsz hf hI
    refine ⟨fun hr => hQ _ _ (inv_end hR hrun hD0 (all_listed hR hsz hr) hds hI), fun i hi => ?_⟩
    rw [mem_ready] at hi
    obtain ⟨h0, o, ho, hed⟩ := hi
    have hlt : i < ops.size := (Array.getElem?_eq_some_iff.1 ho).1
    have hil : i < listed.size := by omega
    have hi0 : listed.getD i false = false := by simpa [Array.getD, hil] using h0
    have hedge : ∀ e ∈ edgesOf o, (fun i => listed.getD i false) e = true := by
      intro e he
      unfold edgesOf at he
      obtain ⟨d, hd, rfl⟩ := List.mem_map.1 he
      obtain ⟨h1, h2⟩ := List.mem_filter.1 hd
      exact hed d (by simpa using h1) h2
    have hL' : ∀ j, (fun j => (listed.setIfInBounds i true).getD j false) j = true ↔ ((fun j => listed.getD j false) j = true ∨ j = i) := by
      intro j
      simp only
      by_cases hji : j = i
      · subst hji
        simp [hil]
      · rw [getD_set_ne false (Ne.symm hji)]
        simp [hji]
    have := inv_step (E := E) (tc := tc) (ro := ro) (K := wpAnyIn (FW ro) 0 E.P .any ops Q fuel (listed.setIfInBounds i true)) (Q := Q) hR hrun hpc htc hS0 hD0 (L := fun i => listed.getD i false) ho hi0 hedge hL' hI fun a' w' hI' => by
      refine ih _ a' w' (by simp [hsz]) ?_ hI'
      have := countP_less (p := fun j => !listed.getD j false) (p' := fun j => !(listed.setIfInBounds i true).getD j false) (i := i) (fun j hj => by
        simp only [Bool.not_eq_true'] at hj ⊢
        cases hl : listed.getD j false with
        | false => rfl
        | true => have := (hL' j).2 (.inl hl); simp only at this; rw [this] at hj; cases hj) (by simp only [hi0, Bool.not_false]) (by have := (hL' i).2 (.inr rfl); simp only at this ⊢; rw [this]; rfl) (List.range ops.size) (List.mem_range.2 hlt)
      omega
    unfold wpOpIn
    rw [ho]
    simp only
    split
    · rename_i hw
      rw [if_pos hw] at this
      exact this
    · rename_i hw
      rw [if_neg hw] at this
      exact ⟨fun _ _ => trivial, this⟩

end

/-- A region that draws its order. -/
theorem draws_ok {E : Env} (hm : E.P.follows .mixedOrders = true) {ops : Array Oper} (hok : regionOk E ops = true) {pc : FuncId → List AV → Option AV} (hpc : ∀ f xs y, pc f xs = some y → PureOk E.P f xs y)
    {tc : Tgt → List AV → Heap → WRes} (htc : ∀ f xs H y H', tc f xs H = some (y, H') → ThrOk E.P f xs H y H') {nt dep id : Nat} {st st' : St} {M : Mem} {ι : Map} {a : Act} {w : World} {ro : Option Nat} {Q : Exit → Act → World → Prop}
    (h : runOps E pc tc nt dep true ops ops.toList st = some st') (hO : StOk M ι st nt a w) (hQ : ∀ a' w', StepTo M ι st a w nt st' a' w' → Q .normal a' w') : (Code.region id ops true).wpIn (FW ro) 0 E.P Q a w := by
  obtain ⟨sts, h1, h2, h3⟩ := runOps_sts ops.toList st st' h
  rw [Array.length_toList] at h2
  have hR := regionOk_ok hok
  have hrun : ∀ i o, ops[i]? = some o → evalOp E pc tc nt dep true ops o (sts i) = some (sts (i + 1)) := fun i o ho => h3 i o (by simpa using ho)
  subst h1
  refine wpIn_region_any hm ?_
  have hF0 : Fwd M ι (sts 0).hp.get w M ι (sts 0).hp.get { w with drawn := w.drawn + 1 } :=
    ⟨rfl, rfl, rfl, Nat.le_refl _, fun _ _ _ => rfl, fun _ _ _ h => h, fun _ _ h => h, fun r k l h h' => .inr ⟨r, k, l, h, h', rfl⟩, fun _ _ _ h => .inl h⟩
  have hno : ∀ i, (Array.replicate ops.size false).getD i false = false := by
    intro i
    simp only [Array.getD_eq_getD_getElem?, Array.getElem?_replicate]
    split <;> rfl
  have hmiss : ∀ n, gF (sts 0).hp.get (keyAt ops dep sts) (newAt E pc ops dep sts) (fun i => (Array.replicate ops.size false).getD i false) n = (sts 0).hp.get := by
    intro n
    funext q
    refine gF_miss n fun i _ hi => ?_
    exact absurd ((hno i).symm.trans hi) (by simp)
  refine any_ok (tc := tc) (M := M) (ι := ι) (w := w) (a0 := a) hR hrun hpc htc rfl hO.sim hO.dom (fun a' w' hs => hQ a' w' (h2 ▸ hs)) ops.size _ a _ (by simp) ?_ ?_
  · exact Nat.le_trans List.countP_le_length (by simp)
  · refine ⟨fun i o hi => ?_, rfl, M, ι, (sts 0).tm, ?_, hO.tr, hO.nt, .inl ⟨fun i o hi => ?_, ?_, ?_, fun q hq _ => hq⟩⟩
    · exact absurd ((hno i).symm.trans hi) (by simp)
    · exact fun t => ⟨fun i _ hi => absurd ((hno i).symm.trans hi) (by simp), fun _ => rfl⟩
    · exact absurd ((hno i).symm.trans hi) (by simp)
    · rw [gL, hmiss]; exact hO.sim.drew rfl
    · rw [gL, hmiss]; exact hF0

end Go.Ab
