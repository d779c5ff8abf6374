/-
  The abstract machine against the model's. No statement of a seat is proved here.
-/
import Derived.Test.YtjampffmlnplcaaAbsOp
set_option linter.unusedVariables false
set_option linter.unusedSimpArgs false
namespace Go.Ab

section
variable {E : Env} {M : Mem} {ι : Map} {w : World} {a : Act}

theorem StepTo.trans {st st1 st2 : St} {nt : Nat} {a1 a2 : Act} {w1 w2 : World} (h : StepTo M ι st a w nt st1 a1 w1) (h' : ∀ M1 ι1, StOk M1 ι1 st1 nt a1 w1 → StepTo M1 ι1 st1 a1 w1 nt st2 a2 w2) : StepTo M ι st a w nt st2 a2 w2 := by
  obtain ⟨⟨M1, ι1, h1, h2⟩, e1⟩ := h
  obtain ⟨⟨M2, ι2, h3, h4⟩, e2⟩ := h' M1 ι1 h1
  exact ⟨⟨M2, ι2, h3, h2.trans h4⟩, e2.trans e1⟩

/-- A region in the order of the text. -/
theorem runOps_ok {pc : FuncId → List AV → Option AV} (hpc : ∀ f xs y, pc f xs = some y → PureOk E.P f xs y)
    {tc : Tgt → List AV → Heap → WRes} (htc : ∀ f xs H y H', tc f xs H = some (y, H') → ThrOk E.P f xs H y H') {nt dep : Nat} {draw : Bool} {ops : Array Oper} {ro : Option Nat} {Q : Exit → Act → World → Prop} {st' : St} :
    ∀ (l : List Oper) (st : St) (M : Mem) (ι : Map) (a : Act) (w : World), runOps E pc tc nt dep draw ops l st = some st' → StOk M ι st nt a w →
      (∀ a' w', StepTo M ι st a w nt st' a' w' → Q .normal a' w') → wpListIn (FW ro) 0 E.P ops Q l a w := by
  intro l
  induction l with
  | nil =>
    intro st M ι a w h hO hQ
    simp only [runOps, Option.some.injEq] at h
    subst h
    exact hQ _ _ (StepTo.refl hO)
  | cons o l ih =>
    intro st M ι a w h hO hQ
    simp only [runOps] at h
    split at h
    · rename_i st1 h1
      have := evalOp_ok (E := E) (Q := Q) (ro := ro) hO hpc htc h1 (K := wpListIn (FW ro) 0 E.P ops Q l) fun a1 w1 ⟨⟨M1, ι1, hO1, hF1⟩, e1⟩ =>
        ih st1 M1 ι1 a1 w1 h hO1 fun a' w' ⟨⟨M2, ι2, hO2, hF2⟩, e2⟩ => hQ a' w' ⟨⟨M2, ι2, hO2, hF1.trans hF2⟩, e2.trans e1⟩
      unfold wpListIn
      split
      · rename_i hw
        rw [if_pos hw] at this
        exact this
      · rename_i hw
        rw [if_neg hw] at this
        exact ⟨fun _ _ => trivial, this⟩
    · cases h

/-- What is asked of a program's functions, and of what is taken by contract. -/
structure Env.Ok (E : Env) (ok : Array Oper → Bool) : Prop where
  fns : ∀ f, E.allowed f = true → ∃ fn, E.P.funcs[f]? = some fn ∧ (fn.name == "runtime.NumGoroutine") = false ∧ ∀ c, fn.body = some c → codeOk ok c = true
  specs : ∀ f args y, E.spec f args = some y → PureOk E.P f args y
  same : E.ok = ok
  draws : ∀ (ops : Array Oper), ok ops = true → ∀ {pc : FuncId → List AV → Option AV}, (∀ f xs y, pc f xs = some y → PureOk E.P f xs y) →
    ∀ {tc : Tgt → List AV → Heap → WRes}, (∀ f xs H y H', tc f xs H = some (y, H') → ThrOk E.P f xs H y H') → ∀ (nt dep id : Nat) (st st' : St) (M : Mem) (ι : Map) (a : Act) (w : World) (ro : Option Nat) (Q : Exit → Act → World → Prop),
    runOps E pc tc nt dep true ops ops.toList st = some st' → apartOk E ops st' = true → StOk M ι st nt a w → (∀ a' w', StepTo M ι st a w nt st' a' w' → Q .normal a' w') → (Code.region id ops true).wpIn (FW ro) 0 E.P Q a w

theorem exitTo_ok {ok : Array Oper → Bool} {id : Nat} : ∀ {k k' : List Item}, exitTo id k = some k' → (∀ i ∈ k, itemOk ok i = true) → ∀ i ∈ k', itemOk ok i = true := by
  intro k
  induction k with
  | nil => intro k' h; simp [exitTo] at h
  | cons x k ih =>
    intro k' h hk
    have hk' : ∀ i ∈ k, itemOk ok i = true := fun i hi => hk i (List.mem_cons_of_mem _ hi)
    cases x with
    | inBlock id' =>
      simp only [exitTo] at h
      split at h
      · injection h with h; subst h; exact hk'
      · exact ih h hk'
    | _ => exact ih (by simpa [exitTo] using h) hk'

theorem stepsW {P : Program} {ro : Option Nat} {m m' : Machine} (h : StepsIn (Machine.fenced P (FW ro)) P m m') : Steps P m m' := StepsIn.steps h

/-- Run of a region, as steps. -/
theorem steps_of_wp {P : Program} {c : Code} {a : Act} {w : World} {R : Act → World → Prop} (b : Frame) (h : c.wpIn (FW b.roundOf) 0 P (fun e a w => e = .normal ∧ R a w) a w) (k : List Item) (cs : List Frame) :
    ∃ a' w', R a' w' ∧ Steps P (lone (b.atR a (.code c :: k)) cs w) (lone (b.atR a' k) cs w') := by
  obtain ⟨e, a', w', ⟨he, hR⟩, harr⟩ := h b k cs rfl trivial (fun _ h => by simp [FW, Fence.wide] at h)
  subst he
  exact ⟨a', w', hR, stepsW harr⟩

/- ## Loops over functions, in memory -/
theorem lpAt_blk {H : Heap} {r : Ref} {n : Nat} {inf : AV} (h : lpAt H r = some (n, inf)) : ∃ st a f, H.get r = some ⟨0, [.v (.int .i64 st), inf], a, f⟩ ∧ st.toNat = n := by
  unfold lpAt at h
  split at h
  · rename_i st inf' a f hg
    cases h
    exact ⟨st, a, f, hg, rfl⟩
  · cases h

/-- The record's parts that stay. -/
structure SameLoop (r r' : Loop) : Prop where
  tmps : r'.tmps = r.tmps
  params : r'.params = r.params
  assign : r'.assign = r.assign
  body : r'.body = r.body

theorem loop_turn {H : Heap} {r : Ref} {l : Loc} {n : Nat} {inf : AV} (hS : Sim M ι H.get w) (hD : Dom ι H) (hr : ι r = some l) (ha : lpAt H r = some (n, inf)) :
    ∃ nt ps assign body tm lr, inf = .lp 0 nt ps assign body tm ∧ w.heap[l.b]? = some (.loop lr) ∧ lr.params = ps.toArray ∧ lr.assign = assign ∧ lr.body = body ∧ lr.tmps.size = nt ∧ (∀ t, VR M ι (tget tm t) (lr.tmps.getD t undef)) ∧ stateOf n lr ∧
      (∀ n' lr', SameLoop lr lr' → stateOf n' lr' → Sim M ι (H.put r (some (lpBlk n' inf))).get (setBlk w l.b (.loop lr')) ∧ Fwd M ι H.get w M ι (H.put r (some (lpBlk n' inf))).get (setBlk w l.b (.loop lr')) ∧ Dom ι (H.put r (some (lpBlk n' inf)))) ∧
      ∀ lr', Sim M ι (H.put r none).get (setBlk w l.b (.loop lr')) ∧ Fwd M ι H.get w M ι (H.put r none).get (setBlk w l.b (.loop lr')) ∧ Dom ι (H.put r none) := by
  obtain ⟨st, a, f, hg, hst⟩ := lpAt_blk ha
  obtain ⟨l', hl', hb⟩ := hS.live r _ hg
  rw [hr] at hl'; cases hl'
  rcases hb.objOk rfl with ⟨n0, nt, ps, as, bd, tm, lr, h1, h2, h3, h4, h5, h6, h7, h8, h9, h10⟩ | ⟨_, _, _, _, h3, _⟩
  case inr => simp at h3
  simp only [List.cons.injEq, AV.v.injEq, Value.int.injEq, true_and, and_true] at h3
  obtain ⟨e1, e2⟩ := h3
  subst e2
  have hn : n0 = n := by rw [← hst, e1]; simp
  subst hn
  have hlt : l.b < w.heap.size := (Array.getElem?_eq_some_iff.1 h4).1
  have hM : ∀ o x, M l.b o = some x → False := by
    intro o x hx
    have := hS.mem _ _ _ hx
    simp [World.cell?, h4] at this
  have hlz : l.esz = 0 := hb.esz
  have others : ∀ lr' b' , ∀ q k, (H.put r b').get q = some k → q ≠ r → ∃ l1, ι q = some l1 ∧ BlkOk M ι (setBlk w l.b (.loop lr')) l1 k := by
    intro lr' b' q k hq hne
    rw [Heap.get_put, if_neg hne] at hq
    obtain ⟨l1, hl1, hb1⟩ := hS.live q k hq
    have hnb : l.b ≠ l1.b := fun e => hne (hS.inj q r k _ l1 l hq hg hl1 hr e.symm)
    exact ⟨l1, hl1, hb1.keep (fun _ _ _ h => h) (fun _ _ h => h) (setBlk_other hnb) hb1.frozen⟩
  have hmem : ∀ lr', ∀ b o x, M b o = some x → (setBlk w l.b (.loop lr')).cell? ⟨b, o, none⟩ = some x := by
    intro lr' b o x hx
    have hne : l.b ≠ b := fun e => hM o x (e ▸ hx)
    rw [World.cell?_of_block (w := w) (setBlk_other hne)]
    exact hS.mem b o x hx
  have back : ∀ (b' : Option Blk) q k, (H.put r b').get q = some k → ∃ k0, H.get q = some k0 := by
    intro b' q k hq
    rw [Heap.get_put] at hq
    split at hq
    · rename_i e; exact ⟨_, e ▸ hg⟩
    · exact ⟨k, hq⟩
  have inj : ∀ (b' : Option Blk) q q' k k' l1 l2, (H.put r b').get q = some k → (H.put r b').get q' = some k' → ι q = some l1 → ι q' = some l2 → l1.b = l2.b → q = q' := by
    intro b' q q' k k' l1 l2 h1 h2 h3 h4 h5
    obtain ⟨k0, g1⟩ := back b' q k h1
    obtain ⟨k1, g2⟩ := back b' q' k' h2
    exact hS.inj q q' k0 k1 l1 l2 g1 g2 h3 h4 h5
  have fwd : ∀ (b' : Option Blk) lr', Fwd M ι H.get w M ι (H.put r b').get (setBlk w l.b (.loop lr')) := by
    intro b' lr'
    refine ⟨rfl, rfl, rfl, by simp [setBlk], fun b _ hno => setBlk_other (hno r _ l hg hr), fun _ _ _ h => h, fun _ _ h => h, fun q k l1 h1 h2 => ?_, fun _ _ _ h => .inl h⟩
    obtain ⟨k0, g1⟩ := back b' q k h1
    exact .inr ⟨q, k0, l1, g1, h2, rfl⟩
  have dom : ∀ b' : Option Blk, Dom ι (H.put r b') := by
    intro b' q lq hq
    rw [Heap.gen_put _ _ _ (by rw [hg]; rfl)]
    exact hD q lq hq
  refine ⟨nt, ps, as, bd, tm, lr, rfl, h4, h5, h6, h7, h8, h9, h10, fun n' lr' hs hst' => ⟨⟨hmem lr', fun q k hq => ?_, inj _⟩, fwd _ lr', dom _⟩, fun lr' => ⟨⟨hmem lr', fun q k hq => ?_, inj _⟩, fwd _ lr', dom _⟩⟩
  · by_cases hqr : q = r
    · subst hqr
      rw [Heap.get_put, if_pos rfl] at hq
      cases hq
      refine ⟨l, hr, ObjOk.blk (.inl ⟨n', nt, ps, as, bd, tm, lr', rfl, rfl, rfl, setBlk_same hlt, by rw [hs.params]; exact h5, by rw [hs.assign]; exact h6, by rw [hs.body]; exact h7, by rw [hs.tmps]; exact h8, by rw [hs.tmps]; exact h9, hst'⟩) hlz hM⟩
    · exact others lr' _ q k hq hqr
  · by_cases hqr : q = r
    · rw [Heap.get_put, if_pos hqr] at hq
      cases hq
    · exact others lr' _ q k hq hqr

/-- A loop begun. -/
theorem loop_new {H : Heap} {d nt : Nat} {tm : List AV} {a : Act} {ps : Array Tmp} {assign body : Code} {fn : FuncId} (hS : Sim M ι H.get w) (hD : Dom ι H) (hT : TR M ι tm a) (hn : a.tmps.size = nt) {w1 : World}
    (hw : w1 = (w.alloc (.deferred (some []))).alloc (.loop { state := .ready, pending := none, fn, tmps := a.tmps, params := ps, assign, body, defers := w.heap.size })) :
    let r : Ref := ⟨d, nt, H.gen d nt, 0⟩
    let ι1 := updM ι r ⟨w.heap.size + 1, 0, 0⟩
    Sim M ι1 (Heap.get ((r, some (lpBlk 0 (.lp 0 nt ps.toList assign body tm))) :: H)) w1 ∧ Fwd M ι H.get w M ι1 (Heap.get ((r, some (lpBlk 0 (.lp 0 nt ps.toList assign body tm))) :: H)) w1 ∧
      Dom ι1 ((r, some (lpBlk 0 (.lp 0 nt ps.toList assign body tm))) :: H) ∧ w1.heap[w.heap.size]? = some (.deferred (some [])) := by
  intro r ι1
  have hq : ι r = none := hD.fresh d nt 0
  have hle := updM_le (l := ⟨w.heap.size + 1, 0, 0⟩) hq
  have hheap : w1.heap = (w.heap.push (.deferred (some []))).push (.loop { state := .ready, pending := none, fn, tmps := a.tmps, params := ps, assign, body, defers := w.heap.size }) := by rw [hw]; rfl
  have hold : ∀ b, b < w.heap.size → w1.heap[b]? = w.heap[b]? := by
    intro b hb
    rw [hheap, Array.getElem?_push_lt (by simp; omega), ← Array.getElem?_eq_getElem, Array.getElem?_push_lt hb, ← Array.getElem?_eq_getElem]
  have hD0 : w1.heap[w.heap.size]? = some (.deferred (some [])) := by rw [hheap, Array.getElem?_push_lt (by simp), ← Array.getElem?_eq_getElem]; simp
  have hL0 : w1.heap[w.heap.size + 1]? = some (.loop { state := .ready, pending := none, fn, tmps := a.tmps, params := ps, assign, body, defers := w.heap.size }) := by rw [hheap, Array.getElem?_push]; simp
  have hMlt : ∀ b o x, M b o = some x → b < w.heap.size := fun b o x h => World.block_lt_of_cell? w ⟨b, o, none⟩ (hS.mem b o x h)
  have hget : ∀ q, Heap.get ((r, some (lpBlk 0 (.lp 0 nt ps.toList assign body tm))) :: H) q = if r = q then some (lpBlk 0 (.lp 0 nt ps.toList assign body tm)) else H.get q := fun q => rfl
  refine ⟨⟨fun b o x h => ?_, fun q k h => ?_, fun q q' k k' l1 l2 h1 h2 h3 h4 h5 => ?_⟩, ⟨by rw [hw]; rfl, by rw [hw]; rfl, by rw [hw]; rfl, by rw [hheap]; simp; omega, fun b hb _ => hold b hb, fun _ _ _ h => h, hle, fun q k l1 h1 h2 => ?_, fun _ _ _ h => .inl h⟩, fun q l1 h => ?_, hD0⟩
  · rw [World.cell?_of_block (w := w) (hold b (hMlt b o x h))]
    exact hS.mem b o x h
  · rw [hget] at h
    split at h
    · rename_i e
      subst e
      cases h
      refine ⟨⟨w.heap.size + 1, 0, 0⟩, by simp [ι1, updM], ObjOk.blk (.inl ⟨0, nt, ps.toList, assign, body, tm, _, rfl, rfl, rfl, hL0, by simp, rfl, rfl, hn, fun t => (hT.at_ t).mono (fun _ _ _ h => h) ι1 hle, ⟨rfl, rfl⟩⟩) rfl ?_⟩
      intro o x hx
      have := hMlt _ _ _ hx
      simp only at this
      omega
    · obtain ⟨l1, hl1, hb1⟩ := hS.live q k h
      exact ⟨l1, hle q l1 hl1, hb1.keep (fun _ _ _ h => h) hle (hold _ hb1.lt) hb1.frozen⟩
  · have one : ∀ {q : Ref} {k l1}, Heap.get ((r, some (lpBlk 0 (.lp 0 nt ps.toList assign body tm))) :: H) q = some k → ι1 q = some l1 → (q = r ∧ l1.b = w.heap.size + 1) ∨ (q ≠ r ∧ H.get q = some k ∧ ι q = some l1 ∧ l1.b < w.heap.size) := by
      intro q k l1 h h'
      rw [hget] at h
      split at h
      · rename_i e
        subst e
        simp only [ι1, updM, if_true] at h'
        cases h'
        exact .inl ⟨rfl, rfl⟩
      · rename_i e
        simp only [ι1, updM] at h'
        rw [if_neg (Ne.symm e)] at h'
        obtain ⟨l2, hl2, hb2⟩ := hS.live q k h
        rw [h'] at hl2; cases hl2
        exact .inr ⟨Ne.symm e, h, h', hb2.lt⟩
    rcases one h1 h3 with ⟨e1, e2⟩ | ⟨e1, e2, e3, e4⟩ <;> rcases one h2 h4 with ⟨f1, f2⟩ | ⟨f1, f2, f3, f4⟩
    · rw [e1, f1]
    · omega
    · omega
    · exact hS.inj q q' k k' l1 l2 e2 f2 e3 f3 h5
  · rw [hget] at h1
    simp only [ι1, updM] at h2
    split at h1
    · rename_i e
      rw [if_pos e.symm] at h2
      cases h2
      exact .inl (Nat.le_succ _)
    · rename_i e
      rw [if_neg (Ne.symm e)] at h2
      exact .inr ⟨q, k, l1, h1, h2, rfl⟩
  · simp only [ι1, updM] at h
    simp only [Heap.gen]
    by_cases hqr : q = r
    · subst hqr
      rw [if_pos ⟨rfl, rfl⟩]
      exact Nat.lt_succ_self _
    · rw [if_neg hqr] at h
      have := hD q l1 h
      split
      · rename_i hc; rw [← hc.1, ← hc.2] at this; exact Nat.lt_succ_of_lt this
      · exact this

theorem tget_args : ∀ (args : List AV) (t : Nat), tget args t = (args[t]?).getD AV.undef := by
  intro args
  induction args with
  | nil => intro t; simp [tget]
  | cons x l ih =>
    intro t
    cases t with
    | zero => simp [tget]
    | succ t => simp [tget, ih]

/-- One result. -/
def rsem (tmps : Array Value) : ResultVar → Sem Value
  | .tmp t => pure (tmps.getD t undef)
  | .cell b t => asAddr (tmps.getD b undef) >>= fun x => loadVar t x

theorem results_eq (fn : Func) (tmps : Array Value) : results fn tmps = fn.results.mapM (rsem tmps) >>= fun vs => pure (if h : vs.size = 1 then vs[0] else .tuple vs) := by
  unfold results
  congr 1

theorem results_ok {fn : Func} {st : St} {nt : Nat} (hO : StOk M ι st nt a w) {x : AV} (h : resultsA E.P fn st = some x) : ∃ v, (results fn a.tmps).run E.P w = .ok v w ∧ VR M ι x v := by
  have one : ∀ (rv : ResultVar) (y : AV), readResult E.P st rv = some y → ∃ v, (rsem a.tmps rv).run E.P w = .ok v w ∧ VR M ι y v := by
    intro rv y hy
    cases rv with
    | tmp t =>
      simp only [readResult, Option.some.injEq] at hy
      subst hy
      exact ⟨_, rfl, hO.tr.at_ t⟩
    | cell b t =>
      simp only [readResult] at hy
      split at hy
      · rename_i r i j g n hb hg hn
        split at hy
        · rename_i k hk
          have hv := hO.tr.at_ b
          rw [hb] at hv
          obtain ⟨v, h1, h2⟩ := load_ok hg hn hO.sim hv hk hy
          refine ⟨v, ?_, h2⟩
          simp only [rsem]
          generalize a.tmps.getD b undef = u at hv h1 ⊢
          cases hv
          simpa [asAddr, Instr.loadAt, Instr.sureAddr] using h1
        · cases hy
      · cases hy
  have many : ∀ (rs : List ResultVar) (ys : List AV), rs.mapM (readResult E.P st) = some ys → ∃ vs, (rs.mapM (rsem a.tmps)).run E.P w = .ok vs w ∧ VRs M ι ys vs := by
    intro rs
    induction rs with
    | nil => intro ys h; simp at h; subst h; exact ⟨[], rfl, VRs.nil⟩
    | cons r rs ih =>
      intro ys h
      simp only [List.mapM_cons, Option.pure_def, Option.bind_eq_bind, Option.bind_eq_some_iff] at h
      obtain ⟨y, hy, ys', hys, h⟩ := h
      simp at h
      subst h
      obtain ⟨v, h1, h2⟩ := one r y hy
      obtain ⟨vs, h3, h4⟩ := ih ys' hys
      refine ⟨v :: vs, ?_, VRs.cons h2 h4⟩
      rw [List.mapM_cons]
      simp only [Sem.run_bind, h1, Result.andThen_ok, h3, Sem.run_pure]
  unfold resultsA at h
  have fin : ∀ ys, fn.results.toList.mapM (readResult E.P st) = some ys → ∃ vs : List Value, (results fn a.tmps).run E.P w = .ok (if h : vs.toArray.size = 1 then vs.toArray[0] else .tuple vs.toArray) w ∧ VRs M ι ys vs := by
    intro ys hys
    obtain ⟨vs, h1, h2⟩ := many _ ys hys
    refine ⟨vs, ?_, h2⟩
    rw [results_eq]
    simp only [Array.mapM_eq_mapM_toList, Sem.run_bind, Sem.run_map, h1, Result.andThen_ok, Sem.run_pure]
  split at h
  · rename_i hys
    injection h with h
    subst h
    obtain ⟨vs, h1, h2⟩ := fin _ hys
    have : vs = [] := List.eq_nil_of_length_eq_zero (by rw [← h2.1]; rfl)
    subst this
    exact ⟨_, h1, .v rfl⟩
  · rename_i y hys
    injection h with h
    subst h
    obtain ⟨vs, h1, h2⟩ := fin _ hys
    obtain ⟨v, rfl⟩ := len1 h2.1.symm
    exact ⟨v, by simpa using h1, h2.2 0 y v rfl rfl⟩
  · rename_i ys hne0 hne1 hys
    injection h with h
    subst h
    obtain ⟨vs, h1, h2⟩ := fin _ hys
    have hl : vs.length ≠ 1 := by
      intro h
      rw [← h2.1] at h
      obtain ⟨y, hy⟩ := len1 h
      exact hne1 y hy
    refine ⟨.tuple vs.toArray, ?_, .tup ?_ (by simpa using h2.1) fun i c u hc hu => h2.2 i c u hc (by simpa using hu)⟩
    · rw [h1, dif_neg (by simpa using hl)]
    · intro e
      exact hne0 e
  · cases h

/- ## What a run leaves -/
/-- The marks of loops among an activation's deferred calls. -/
def marks (ds : List Nat) : List Deferred := ds.map fun D => { target := .collected D, args := #[] }

/-- Where these lie: nothing was deferred in a round. -/
def MarksOk (w w' : World) (ds : List Nat) : Prop := ds.Nodup ∧ ∀ D ∈ ds, w.heap.size ≤ D ∧ w'.heap[D]? = some (.deferred (some []))

theorem not_live {M : Mem} {ι : Map} {g : Get} {w : World} (hS : Sim M ι g w) {D : Nat} {x : Option (List Deferred)} (h : w.heap[D]? = some (.deferred x)) : ∀ r k l, g r = some k → ι r = some l → l.b ≠ D := by
  intro r k l hg hl e
  obtain ⟨l', hl', hb⟩ := hS.live r k hg
  rw [hl] at hl'; cases hl'
  rcases Nat.eq_zero_or_pos k.esz with ez | ez
  · rcases (hb.objOk ez).obj with ⟨_, h2⟩ | ⟨_, _, h2⟩
    · rw [e, h] at h2; cases h2
    · rw [e, h] at h2; cases h2
  · obtain ⟨_, _, _, h2, _⟩ := (hb.cellsOk ez).heap
    rw [e, h] at h2; cases h2

theorem MarksOk.fwd {w w1 w2 : World} {ds : List Nat} {M1 ι1 g1 M2 ι2 g2} (h : MarksOk w w1 ds) (hS : Sim M1 ι1 g1 w1) (hF : Fwd M1 ι1 g1 w1 M2 ι2 g2 w2) : MarksOk w w2 ds :=
  ⟨h.1, fun D hD => ⟨(h.2 D hD).1, by
    have h2 := (h.2 D hD).2
    rw [hF.chg D (Array.getElem?_eq_some_iff.1 h2).1 (not_live hS h2)]
    exact h2⟩⟩

theorem MarksOk.append {w w1 w2 : World} {ds ds2 : List Nat} (hs : w.heap.size ≤ w1.heap.size) (h : MarksOk w w2 ds) (h' : ∀ D ∈ ds, D < w1.heap.size) (h2 : MarksOk w1 w2 ds2) : MarksOk w w2 (ds2 ++ ds) := by
  refine ⟨List.nodup_append.2 ⟨h2.1, h.1, fun a ha b hb e => ?_⟩, fun D hD => ?_⟩
  · have := (h2.2 a ha).1
    have := h' b hb
    omega
  · rcases List.mem_append.1 hD with h3 | h3
    · exact ⟨Nat.le_trans hs (h2.2 D h3).1, (h2.2 D h3).2⟩
    · exact h.2 D h3

/-- A run of a function's frame, or of a round's, to its end. -/
def Done (P : Program) (rd : Option Ref) (M : Mem) (ι : Map) (st : St) (a : Act) (w : World) (nt : Nat) (st' : St) (b : Frame) (cs : List Frame) (m : Machine) : Prop := match rd with
  | none => b.roundOf = none → ∃ a' w' todo ds, (∃ M' ι', StOk M' ι' st' nt a' w' ∧ Fwd M ι st.hp.get w M' ι' st'.hp.get w') ∧ a'.defers = marks ds ++ a.defers ∧ MarksOk w w' ds ∧
      Steps P m (lone { b.atR a' todo with mode := .returning } cs w')
  | some r => ∀ l c cs', ι r = some l → b.roundOf = some l.b → b.kind = .normal → cs = c :: cs' → ∃ n inf w', lpAt st'.hp r = some (n, inf) ∧ n ≠ 1 ∧
      (∃ M' ι', Sim M' ι' st'.hp.get w' ∧ Fwd M ι st.hp.get w M' ι' st'.hp.get w' ∧ Dom ι' st'.hp) ∧ Steps P m (lone (c.finish (.bool (n == 0))) cs' w')

theorem Done.of_steps {P : Program} {rd : Option Ref} {M M1 : Mem} {ι ι1 : Map} {st st1 st' : St} {a a1 : Act} {w w1 : World} {nt : Nat} {b : Frame} {cs : List Frame} {m m1 : Machine} {ds : List Nat}
    (hs : b.roundOf = none ∨ rd ≠ none → Steps P m m1) (hS1 : Sim M1 ι1 st1.hp.get w1) (hF : Fwd M ι st.hp.get w M1 ι1 st1.hp.get w1) (hd : a1.defers = marks ds ++ a.defers) (hm : MarksOk w w1 ds) (h : Done P rd M1 ι1 st1 a1 w1 nt st' b cs m1) : Done P rd M ι st a w nt st' b cs m := by
  unfold Done at h ⊢
  cases rd with
  | none =>
    intro hb
    obtain ⟨a', w', todo, ds2, ⟨M', ι', hO, hF2⟩, hd2, hm2, hst⟩ := h hb
    refine ⟨a', w', todo, ds2 ++ ds, ⟨M', ι', hO, hF.trans hF2⟩, ?_, (hm.fwd hS1 hF2).append hF.size (fun D hD => (Array.getElem?_eq_some_iff.1 (hm.2 D hD).2).1) hm2, (hs (.inl hb)).trans hst⟩
    rw [hd2, hd]
    simp [marks]
  | some r =>
    intro l c cs' hr hb hk hcs
    obtain ⟨n, inf, w', h1, h2, ⟨M', ι', h3, h4, h5⟩, hst⟩ := h l c cs' (hF.map r l hr) hb hk hcs
    exact ⟨n, inf, w', h1, h2, ⟨M', ι', h3, hF.trans h4, h5⟩, (hs (.inr (by simp))).trans hst⟩

theorem marksOk_nil {w w' : World} : MarksOk w w' [] := ⟨List.nodup_nil, fun D h => by cases h⟩

def RunOk (E : Env) (ok : Array Oper → Bool) (n : Nat) : Prop :=
  ∀ (rd : Option Ref) (nt dep : Nat) (items : List Item) (st st' : St), runA E n rd nt dep items st = some st' → (∀ i ∈ items, itemOk ok i = true) → ∀ (M : Mem) (ι : Map) (a : Act) (w : World), StOk M ι st nt a w →
    ∀ (b : Frame) (cs : List Frame), Done E.P rd M ι st a w nt st' b cs (lone (b.atR a items) cs w)

/-- A frame on its way out comes to the marks. -/
theorem leave_marks {P : Program} {fr : Frame} {cs : List Frame} : ∀ (ds : List Nat) (w : World), fr.mode = .returning → ds.Nodup → (∀ D ∈ ds, w.heap[D]? = some (.deferred (some []))) →
    ∃ w', Steps P (lone { fr with defers := marks ds } cs w) (lone { fr with defers := [] } cs w') ∧ w'.os = w.os ∧ w'.tape = w.tape ∧ w'.output = w.output ∧ w'.heap.size = w.heap.size ∧ ∀ b, b ∉ ds → w'.heap[b]? = w.heap[b]? := by
  intro ds
  induction ds with
  | nil => intro w _ _ _; exact ⟨w, Steps.refl _ _, rfl, rfl, rfl, rfl, fun _ _ => rfl⟩
  | cons D ds ih =>
    intro w hm hnd hh
    have h1 := run_takeDeferred (P := P) (hh D (List.mem_cons_self ..))
    have hstep := step_collected (P := P) (fr := { fr with defers := marks (D :: ds) }) (cs := cs) (w := w) (d := { target := .collected D, args := #[] }) (r := D) (ds := marks ds) (by simp [hm]) rfl rfl h1
    obtain ⟨w', h2, h3, h4, h5, h6, h7⟩ := ih (w.putObj D (.deferred none)) hm (List.nodup_cons.1 hnd).2 (fun D' hD' => by
      rw [World.putObj_heap_other (by intro e; subst e; exact (List.nodup_cons.1 hnd).1 hD')]
      exact hh D' (List.mem_cons_of_mem _ hD'))
    refine ⟨w', Steps.trans (.one hstep) (by simpa using h2), h3, h4, h5, by rw [h6]; simp, fun b hb => ?_⟩
    rw [h7 b (fun h => hb (List.mem_cons_of_mem _ h)), World.putObj_heap_other (by intro e; subst e; exact hb (List.mem_cons_self ..))]

theorem Sim.other {M : Mem} {ι : Map} {g : Get} {w w' : World} (hS : Sim M ι g w) {ds : List Nat} (hds : ∀ D ∈ ds, w.heap[D]? = some (.deferred (some []))) (h : ∀ b, b ∉ ds → w'.heap[b]? = w.heap[b]?) : Sim M ι g w' := by
  refine ⟨fun b o x hx => ?_, fun r k hr => ?_, hS.inj⟩
  · have h1 := hS.mem b o x hx
    have hb : b ∉ ds := by
      intro hb
      have := hds b hb
      simp [World.cell?, this] at h1
    rw [World.cell?_of_block (w := w) (h b hb)]
    exact h1
  · obtain ⟨l, hl, hb⟩ := hS.live r k hr
    exact ⟨l, hl, hb.keep (fun _ _ _ h => h) (fun _ _ h => h) (h l.b fun hD => not_live hS (hds _ hD) r k l hr hl rfl) hb.frozen⟩

theorem callIn_ok {ok : Array Oper → Bool} (hE : E.Ok ok) {n : Nat} (hn : RunOk E ok n) {dep : Nat} {f : FuncId} {args : List AV} {H H' : Heap} {x : AV} (h : callIn E (runA E n) dep f args H = some (x, H')) : ThrOk E.P (.fn f) args H x H' := by
  unfold callIn at h
  obtain ⟨hal, h⟩ := Option.ite_none_right_eq_some.1 h
  obtain ⟨fn, hfn, hname, hbody⟩ := hE.fns f hal
  rw [hfn] at h
  simp only at h
  split at h
  · rename_i c hc
    obtain ⟨hlen, h⟩ := Option.ite_none_right_eq_some.1 h
    split at h
    · rename_i st hst
      simp only [Option.map_eq_some_iff] at h
      obtain ⟨x', hx', h⟩ := h
      injection h with h1 h2
      subst h1; subst h2
      refine ⟨⟨fn, hfn, hname, by rw [hc]; rfl⟩, ?_⟩
      intro M ι w us hS hD hv cs
      have hul := hv.1
      have hO : StOk M ι ⟨args, H⟩ fn.ntmps { tmps := us.toArray ++ Array.replicate (fn.ntmps - us.toArray.size) undef, defers := [] } w := by
        refine ⟨hS, hD, ⟨?_⟩, by simp; omega⟩
        intro t
        rw [tget_args, Array.getD_eq_getD_getElem?]
        rcases Nat.lt_or_ge t args.length with ht | ht
        · rw [List.getElem?_eq_getElem ht, Array.getElem?_append_left (by simp; omega), Option.getD_some]
          have hu : us[t]? = some (us[t]'(by omega)) := List.getElem?_eq_getElem _
          simp only [List.getElem?_toArray, hu, Option.getD_some]
          exact hv.2 t _ _ (List.getElem?_eq_getElem ht) hu
        · rw [List.getElem?_eq_none ht, Array.getElem?_append_right (by simp; omega)]
          have : ∀ k : Nat, ((Array.replicate (fn.ntmps - us.toArray.size) undef)[k]?).getD undef = undef := by
            intro k
            rw [Array.getElem?_replicate]
            split <;> rfl
          rw [this]
          exact .v rfl
      let b : Frame := { (default : Frame) with fn := f, kind := .normal }
      have henter : Frame.enter E.P f us.toArray .normal = b.atR { tmps := us.toArray ++ Array.replicate (fn.ntmps - us.toArray.size) undef, defers := [] } [.code c] := by
        simp [Frame.enter, Frame.atR, hfn, hc, b]
        rfl
      obtain ⟨a', w', todo, ds, ⟨M', ι', hO', hF⟩, hdf, hmk, hsteps⟩ := hn none fn.ntmps dep [.code c] ⟨args, H⟩ st hst (by intro i hi; simp at hi; subst hi; exact hbody c hc) M ι _ w hO b cs rfl
      rw [← henter] at hsteps
      simp only [List.append_nil] at hdf
      obtain ⟨w2, h2, h3, h4, h5, h6, h7⟩ := leave_marks (P := E.P) (fr := { b.atR a' todo with mode := .returning }) (cs := cs) ds w' rfl hmk.1 (fun D hD => (hmk.2 D hD).2)
      have hfr : { { b.atR a' todo with mode := .returning } with defers := marks ds } = { b.atR a' todo with mode := .returning } := by rw [← show a'.defers = marks ds from hdf]; rfl
      rw [hfr] at h2
      have hS2 := hO'.sim.other (fun D hD => (hmk.2 D hD).2) h7
      have hF2 : Fwd M ι H.get w M' ι' st.hp.get w2 := by
        refine ⟨h3.trans hF.os, h4.trans hF.tape, h5.trans hF.output, by rw [h6]; exact hF.size, fun b0 hb0 hno => ?_, hF.mem, hF.map, hF.live, hF.new⟩
        rw [h7 b0 fun hD => absurd (hmk.2 b0 hD).1 (by omega)]
        exact hF.chg b0 hb0 hno
      obtain ⟨v, hr, hvr⟩ := results_ok (w := w2) ⟨hS2, hO'.dom, hO'.tr, hO'.nt⟩ hx'
      exact ⟨.returned v, w2, { { b.atR a' todo with mode := .returning } with defers := [] }, ⟨v, rfl, M', ι', hvr, hS2, hF2, hO'.dom⟩, Steps.trans hsteps h2, rfl, rfl, rfl, rfl, fn, hfn, hr⟩
    · cases h
  · cases h

end
end Go.Ab
