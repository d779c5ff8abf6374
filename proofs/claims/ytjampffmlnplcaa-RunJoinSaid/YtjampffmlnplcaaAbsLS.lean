/-
  Regions where stores, and what looks at memory at one place, come in any order. No statement of a seat is proved here.
-/
import Derived.Test.YtjampffmlnplcaaAbsDraw3
set_option linter.unusedVariables false
set_option linter.unusedSimpArgs false
namespace Go.Ab

/- ## What is asked, in words -/
structure LsOk (E : Env) (ops : Array Oper) : Prop extends RegB ops where
  made : ∀ (i : Nat) (o : Oper), ops[i]? = some o → cls E o = 3 → o.dst.isSome = true
  stay : ∀ (i : Nat) (o : Oper), ops[i]? = some o → cls E o ≠ 0 → cls E o ≠ 3 → ∃ t, spotT E o = some t ∧ ∀ k, dstOf ops k = some t → k < i
  must : ∀ (i j : Nat) (oi oj : Oper), ops[i]? = some oi → ops[j]? = some oj → j < i → mustOrder E oi oj = true → ((ancsFrom ops.toList []).getD i 0).testBit j = true
  meet : ∀ (i j : Nat) (oi oj : Oper), ops[i]? = some oi → ops[j]? = some oj → j < i → mayMeet (cls E oi) (cls E oj) = true → ((ancsFrom ops.toList []).getD i 0).testBit j = true ∨ settled E ops oi oj = true

theorem cls_le (E : Env) (o : Oper) : cls E o ≤ 4 := by unfold cls; (repeat' split) <;> omega

theorem lsOk_ok {E : Env} {ops : Array Oper} (h : lsOk E ops = true) : LsOk E ops := by
  unfold lsOk at h
  rw [Bool.and_eq_true] at h
  replace h := h.2
  simp only [List.all_eq_true, List.mem_range] at h
  have one : ∀ (i : Nat) (o : Oper), ops[i]? = some o → (edgesOf o).all (· < i) = true ∧ lsOne E ops i o = true ∧ ∀ (j : Nat) (oj : Oper), j < i → ops[j]? = some oj → lsPair E ops (ancsFrom ops.toList []) o oj i j = true := by
    intro i o ho
    have hi : i < ops.size := (Array.getElem?_eq_some_iff.1 ho).1
    have := h i hi
    rw [ho] at this
    simp only [Bool.and_eq_true, List.all_eq_true, List.mem_range] at this
    refine ⟨by simpa using this.1.1, this.1.2, fun j oj hj hoj => ?_⟩
    have h2 := this.2 j hj
    rw [hoj] at h2
    exact h2
  have pair : ∀ (i j : Nat) (oi oj : Oper), ops[i]? = some oi → ops[j]? = some oj → j < i → basePair ops (ancsFrom ops.toList []) oi oj i j = true ∧
      (!mustOrder E oi oj || ((ancsFrom ops.toList []).getD i 0).testBit j) = true ∧ (!mayMeet (cls E oi) (cls E oj) || ((ancsFrom ops.toList []).getD i 0).testBit j || settled E ops oi oj) = true := by
    intro i j oi oj hi hj hlt
    have := (one i oi hi).2.2 j oj hlt hj
    unfold lsPair at this
    rw [Bool.and_eq_true, Bool.and_eq_true] at this
    exact ⟨this.1.1, this.1.2, this.2⟩
  refine ⟨base_ok (fun i o ho => (one i o ho).1) fun i j oi oj hi hj hlt => (pair i j oi oj hi hj hlt).1, ?_, ?_, ?_, ?_⟩
  · intro i o ho hc
    have := (one i o ho).2.1
    unfold lsOne at this
    rw [hc] at this
    exact this
  · intro i o ho h0 h3
    have := (one i o ho).2.1
    unfold lsOne at this
    have hs : stable ops i (spotT E o) = true := by
      split at this
      · exact absurd (by assumption) h0
      · exact absurd (by assumption) h3
      · exact this
    unfold stable at hs
    split at hs
    · rename_i t ht
      refine ⟨t, ht, fun k hk => ?_⟩
      simp only [List.all_eq_true, List.mem_range] at hs
      have hks : k < ops.size := by
        unfold dstOf at hk
        cases hx : ops[k]? with
        | none => rw [hx] at hk; cases hk
        | some x => exact (Array.getElem?_eq_some_iff.1 hx).1
      have := hs k hks
      rw [hk] at this
      simpa using this
    · cases hs
  · intro i j oi oj hi hj hlt hm
    have := (pair i j oi oj hi hj hlt).2.1
    rw [hm] at this
    simpa using this
  · intro i j oi oj hi hj hlt hm
    have := (pair i j oi oj hi hj hlt).2.2
    rw [hm] at this
    simpa using this

/- ## What a step does to memory -/
def Made (H H' : Heap) (q : Ref) : Prop := H.gen q.d q.t ≤ q.g ∧ q.g < H'.gen q.d q.t

structure Mild (H H' : Heap) : Prop where
  gen : ∀ d t, H.gen d t ≤ H'.gen d t
  born : ∀ q, H'.get q ≠ none → H.get q ≠ none ∨ Made H H' q
  arr : ∀ q b b', H.get q = some b → q.g < H.gen q.d q.t → H'.get q = some b' → b'.arr = b.arr

theorem Mild.refl (H : Heap) : Mild H H := ⟨fun _ _ => Nat.le_refl _, fun _ h => .inl h, fun q b b' h _ h' => by rw [h] at h'; cases h'; rfl⟩

theorem Mild.keyed (H : Heap) (d t : Nat) (bs : List Blk) : Mild H (keyed ⟨d, t, H.gen d t, 0⟩ 0 bs H) := by
  refine ⟨fun d' t' => ?_, fun q h => ?_, fun q b b' h hg h' => ?_⟩
  · rw [Heap.gen_keyed]; split
    · rename_i hc; obtain ⟨rfl, rfl, _⟩ := hc; exact Nat.le_succ _
    · exact Nat.le_refl _
  · rw [Heap.get_keyed0] at h
    unfold addK at h
    split at h
    · rename_i hc
      obtain ⟨h1, h2, h3, h4⟩ := hc
      refine .inr ⟨?_, ?_⟩
      · rw [h1, h2, h3]; exact Nat.le_refl _
      · rw [Heap.gen_keyed, if_pos ⟨h1, h2, by intro e; rw [e] at h4; simp at h4⟩, h3]; exact Nat.lt_succ_self _
    · exact .inl h
  · rw [Heap.get_keyed0] at h'
    unfold addK at h'
    split at h'
    · rename_i hc
      obtain ⟨h1, h2, h3, h4⟩ := hc
      rw [h1, h2, h3] at hg
      exact absurd hg (Nat.lt_irrefl _)
    · rw [h] at h'; cases h'; rfl

theorem frz_arr {g : Get} {R : List Ref} {q : Ref} {b b' : Blk} (h : g q = some b) (h' : frzG g R q = some b') : b'.arr = b.arr := by
  unfold frzG at h'
  split at h'
  · rw [h] at h'; simp at h'; rw [← h']
  · rw [h] at h'; cases h'; rfl
theorem frz_none {g : Get} {R : List Ref} {q : Ref} : frzG g R q ≠ none → g q ≠ none := by
  unfold frzG
  split
  · intro h e; rw [e] at h; exact h rfl
  · exact id

theorem Mild.put {H : Heap} {R : List Ref} {r : Ref} {b : Blk} {es : List AV} (hr : (freezeAll H R).get r = some b) : Mild H ((freezeAll H R).put r (some { b with es })) := by
  refine ⟨fun d t => ?_, fun q h => ?_, fun q b1 b' h hg h' => ?_⟩
  · rw [Heap.gen_put _ _ _ (by rw [hr]; rfl), Heap.gen_freezeAll]; exact Nat.le_refl _
  · rw [Heap.get_put] at h
    split at h
    · rename_i e; subst e; exact .inl (frz_none (R := R) (by rw [← Heap.get_freezeAll, hr]; simp))
    · exact .inl (frz_none (R := R) (by rw [← Heap.get_freezeAll]; exact h))
  · rw [Heap.get_put] at h'
    split at h'
    · rename_i e; subst e
      cases h'
      rw [Heap.get_freezeAll] at hr
      exact (frz_arr h hr : b.arr = b1.arr)
    · rw [Heap.get_freezeAll] at h'
      exact frz_arr h h'

theorem wStore_mild {P : Program} {H H' : Heap} {t : TypeId} {a x : Option AV} {y : AV} (h : wStore P H t a x = some (y, H')) : Mild H H' := by
  unfold wStore at h
  split at h
  · split at h
    · rename_i r' i j x' n _ b hb
      obtain ⟨⟨hxn, hx1, hfr⟩, h⟩ := Option.ite_none_right_eq_some.1 h
      split at h
      · split at h
        · rename_i y' hy'
          split at h
          · cases h
          · rename_i hnr
            obtain ⟨hy1, h⟩ := Option.ite_none_right_eq_some.1 h
            simp only [Option.map_eq_some_iff] at h
            obtain ⟨es', hes, h⟩ := h
            cases h
            exact Mild.put (by rw [Heap.get_freezeAll]; unfold frzG; rw [if_neg hnr]; exact hb)
        · cases h
      · simp only [Option.map_eq_some_iff] at h
        obtain ⟨es', hes, h⟩ := h
        cases h
        exact Mild.put (R := []) hb
    · cases h
  · cases h

/-- What an append that takes the block over leaves. -/
theorem wAppend_shape {P : Program} {H H' : Heap} {t t' : Option TypeId} {s x y : AV} (h : wAppend P H t t' s x = some (y, H')) :
    ∃ r b z es f, refOf s = some r ∧ H.get r = some b ∧ b.arr = true ∧ H' = (⟨r.d, r.t, H.gen r.d r.t, 0⟩, some ⟨z, es, true, f⟩) :: H.put r none := by
  unfold wAppend at h
  split at h
  · cases h
  · split at h
    · cases h
    · split at h
      · split at h
        · cases h
        · split at h
          · split at h
            · rename_i r' off len b hb
              obtain ⟨⟨_, harr, _⟩, h⟩ := Option.ite_none_right_eq_some.1 h
              cases h
              exact ⟨_, b, _, _, _, rfl, hb, harr, rfl⟩
            · cases h
          · cases h
      · cases h

theorem app_get {H : Heap} {r : Ref} {o : Option Blk} (q : Ref) : Heap.get ((⟨r.d, r.t, H.gen r.d r.t, 0⟩, o) :: H.put r none) q = if (⟨r.d, r.t, H.gen r.d r.t, 0⟩ : Ref) = q then o else if q = r then none else H.get q := by
  simp only [Heap.get, Heap.get_put]

theorem app_gen {H : Heap} {r : Ref} {o : Option Blk} (hr : (H.get r).isSome = true) (d t : Nat) : Heap.gen ((⟨r.d, r.t, H.gen r.d r.t, 0⟩, o) :: H.put r none) d t = if r.d = d ∧ r.t = t then H.gen d t + 1 else H.gen d t := by
  simp only [Heap.gen]
  rw [Heap.gen_put _ _ _ hr]
  split
  · rename_i h; rw [h.1, h.2]
  · rfl

theorem wAppend_mild {P : Program} {H H' : Heap} {t t' : Option TypeId} {s x y : AV} (h : wAppend P H t t' s x = some (y, H')) : Mild H H' ∧ ∃ r, refOf s = some r ∧ ∀ q, H'.get q ≠ H.get q → Made H H' q ∨ q = r := by
  obtain ⟨r, b, z, es, f, hs, hb, harr, rfl⟩ := wAppend_shape h
  have hr : (H.get r).isSome = true := by rw [hb]; rfl
  have hmade : ∀ q, (⟨r.d, r.t, H.gen r.d r.t, 0⟩ : Ref) = q → Made H ((⟨r.d, r.t, H.gen r.d r.t, 0⟩, some ⟨z, es, true, f⟩) :: H.put r none) q := by
    intro q e
    subst e
    refine ⟨Nat.le_refl _, ?_⟩
    rw [app_gen hr, if_pos ⟨rfl, rfl⟩]
    exact Nat.lt_succ_self _
  refine ⟨⟨fun d t => ?_, fun q hq => ?_, fun q b1 b' h1 hg h' => ?_⟩, r, hs, fun q hq => ?_⟩
  · rw [app_gen hr]; split <;> omega
  · rw [app_get] at hq
    split at hq
    · rename_i e; exact .inr (hmade q e)
    · split at hq
      · exact absurd rfl hq
      · exact .inl hq
  · rw [app_get] at h'
    split at h'
    · rename_i e
      subst e
      exact absurd hg (Nat.lt_irrefl _)
    · split at h'
      · cases h'
      · rw [h1] at h'; cases h'; rfl
  · rw [app_get] at hq
    split at hq
    · rename_i e; exact .inl (hmade q e)
    · split at hq
      · rename_i e; exact .inr e
      · exact absurd rfl hq

def Seen (g g' : Get) (v : AV) : Prop := ∀ q, refOf v = some q → g q ≠ none → g' q = g q

theorem seen_at {g g' : Get} {v : AV} (h : Seen g g' v) {q : Ref} (hv : refOf v = some q) {b : Blk} (hb : g q = some b) : g' q = some b := by rw [h q hv (by rw [hb]; simp), hb]

theorem qLoad_seen {P : Program} {g g' : Get} {t : TypeId} {v x : AV} {bs : List Blk} (h : qLoad P g t (some v) = some (x, bs)) (hg : Seen g g' v) : bs = [] ∧ qLoad P g' t (some v) = some (x, bs) := by
  unfold qLoad at h ⊢
  cases v <;> (try (simp at h; done))
  · rename_i r i j
    cases h1 : tagg P t <;> cases h2 : tsize P t <;> rw [h1, h2] at h <;> (try (simp at h; done))
    simp only at h ⊢
    cases hb : g r with
    | none => rw [hb] at h; simp at h
    | some b =>
      rw [hb] at h
      rw [seen_at hg rfl hb]
      exact ⟨(qVal_ok h).2, h⟩
  · cases h1 : tagg P t <;> cases h2 : tsize P t <;> rw [h1, h2] at h <;> (try (simp at h; done))
    exact ⟨(qVal_ok h).2, h⟩

theorem qIndexAddr_seen {P : Program} {g g' : Get} {t : TypeId} {v x : AV} {ix : Option AV} {bs : List Blk} (h : qIndexAddr P g t (some v) ix = some (x, bs)) (hg : Seen g g' v) : bs = [] ∧ qIndexAddr P g' t (some v) ix = some (x, bs) := by
  unfold qIndexAddr at h ⊢
  cases hk : ix.bind intOf with
  | none => rw [hk] at h; simp at h
  | some k =>
  rw [hk] at h
  simp only at h ⊢
  cases he : telem P t with
  | some e =>
    rw [he] at h
    simp only at h ⊢
    cases hz : tsize P e with
    | none => rw [hz] at h; cases v <;> simp at h
    | some z =>
    rw [hz] at h
    cases v <;> (try (simp at h; done))
    · simp only at h ⊢
      exact ⟨by obtain ⟨_, h⟩ := Option.ite_none_right_eq_some.1 h; cases h; rfl, h⟩
    · rename_i r off len cap
      simp only at h ⊢
      cases hb : g r with
      | none => rw [hb] at h; simp at h
      | some b =>
        rw [hb] at h
        rw [seen_at hg rfl hb]
        exact ⟨by obtain ⟨_, h⟩ := Option.ite_none_right_eq_some.1 h; cases h; rfl, h⟩
  | none =>
    rw [he] at h
    simp only at h ⊢
    refine ⟨?_, h⟩
    cases ha : tarr P t with
    | none => rw [ha] at h; simp at h
    | some p =>
    rw [ha] at h
    cases hz : tsize P p.2 with
    | none => simp only [hz] at h; cases v <;> simp at h
    | some z =>
    simp only [hz] at h
    cases v <;> (try (simp at h; done))
    · obtain ⟨_, h⟩ := Option.ite_none_right_eq_some.1 h; cases h; rfl
    · obtain ⟨_, h⟩ := Option.ite_none_right_eq_some.1 h; cases h; rfl

theorem qSlice_seen {P : Program} {g g' : Get} {t : TypeId} {v x : AV} {lo hi mx : Option (Option Int)} {bs : List Blk} (h : qSlice P g t (some v) lo hi mx = some (x, bs)) (hg : Seen g g' v) : bs = [] ∧ qSlice P g' t (some v) lo hi mx = some (x, bs) := by
  have nil : ∀ {c : Prop} [Decidable c] {o : Option (Nat × Nat × Option Nat)} {f : Nat × Nat × Option Nat → AV × List Blk}, (∀ p, (f p).2 = []) → (if c then o.map f else none) = some (x, bs) → bs = [] := by
    intro c _ o f hf h
    obtain ⟨_, h⟩ := Option.ite_none_right_eq_some.1 h
    obtain ⟨p, _, h⟩ := Option.map_eq_some_iff.1 h
    have := hf p
    rw [h] at this
    exact this
  unfold qSlice at h ⊢
  cases lo <;> cases hi <;> cases mx <;> (try (simp at h; done))
  simp only at h ⊢
  cases v <;> (try (simp at h; done))
  · rename_i y
    cases y <;> (try (simp at h; done))
    · simp only at h ⊢
      exact ⟨nil (fun _ => rfl) h, h⟩
    · split at h
      · rename_i e
        simp only [Option.some.injEq, AV.v.injEq, Value.slice.injEq] at e
        obtain ⟨rfl, rfl, rfl⟩ := e
        exact ⟨nil (fun _ => rfl) h, h⟩
      · rename_i e; simp at e
      · rename_i e; simp at e
      · rename_i e; simp at e
      · cases h
  · simp only at h ⊢
    exact ⟨nil (fun _ => rfl) h, h⟩
  · rename_i r off len cap
    simp only at h ⊢
    cases hb : g r with
    | none => rw [hb] at h; simp at h
    | some b =>
      rw [hb] at h
      rw [seen_at hg rfl hb]
      exact ⟨nil (fun _ => rfl) h, h⟩

theorem elemsOf_seen {g g' : Get} {v : AV} {p : Nat × List AV} (h : elemsOf g v = some p) (hg : Seen g g' v) : elemsOf g' v = some p := by
  unfold elemsOf at h ⊢
  cases v <;> (try (simp at h; done))
  · rename_i y
    cases y <;> first | exact h | (simp at h; done)
  · exact h
  · rename_i r off len cap
    simp only at h ⊢
    cases hb : g r with
    | none => rw [hb] at h; simp at h
    | some b =>
      rw [hb] at h
      rw [seen_at hg rfl hb]
      exact h

theorem qConvert_seen {P : Program} {g g' : Get} {r r' : Ref} {src dst : TypeId} {v x : AV} {bs : List Blk} (hd : isByteSlice P dst = false) (h : qConvert P g r src dst (some v) = some (x, bs)) (hg : Seen g g' v) :
    bs = [] ∧ qConvert P g' r' src dst (some v) = some (x, bs) := by
  have other : ∀ {y : AV}, y = v → (if isByteSlice P src && isStr P dst then
      match elemsOf g y with
      | some (_, es) => (es.mapM byteOf).map fun l => ((AV.v (.string ⟨l.toArray⟩), []) : AV × List Blk)
      | none => none
    else if src == dst && isByteSlice P src then
      match y with
      | .osl r' _ _ _ => if (g r').isSome then some (y, []) else none
      | _ => none
    else none) = some (x, bs) → bs = [] ∧ (if isByteSlice P src && isStr P dst then
      match elemsOf g' y with
      | some (_, es) => (es.mapM byteOf).map fun l => ((AV.v (.string ⟨l.toArray⟩), []) : AV × List Blk)
      | none => none
    else if src == dst && isByteSlice P src then
      match y with
      | .osl r' _ _ _ => if (g' r').isSome then some (y, []) else none
      | _ => none
    else none) = some (x, bs) := by
    intro y e h
    split at h
    · rename_i hc
      rw [if_pos hc]
      cases he : elemsOf g y with
      | none => rw [he] at h; simp at h
      | some p =>
        rw [he] at h
        rw [elemsOf_seen he (e ▸ hg)]
        refine ⟨?_, h⟩
        obtain ⟨_, _, h⟩ := Option.map_eq_some_iff.1 h
        cases h; rfl
    · rename_i hc
      split at h
      · rename_i hc2
        simp only [Bool.and_eq_true, beq_iff_eq] at hc2
        rw [hc2.1, hd] at hc2
        simp at hc2
      · cases h
  unfold qConvert at h ⊢
  cases v
  case v y =>
    cases y
    case string s =>
      simp only [hd, Bool.and_false, Bool.false_eq_true, if_false] at h ⊢
      exact ⟨by obtain ⟨_, h⟩ := Option.ite_none_right_eq_some.1 h; cases h; rfl, h⟩
    case slice a l c =>
      rcases a with _ | a
      · rcases l with _ | l
        · rcases c with _ | c
          · exact ⟨by obtain ⟨_, h⟩ := Option.ite_none_right_eq_some.1 h; cases h; rfl, h⟩
          · exact ⟨(qVal_ok h).2, h⟩
        · exact ⟨(qVal_ok h).2, h⟩
      · exact ⟨(qVal_ok h).2, h⟩
    all_goals exact ⟨(qVal_ok h).2, h⟩
  all_goals exact other rfl h

theorem wBuildSlice_mild {P : Program} {H H' : Heap} {d t0 : Nat} {t : TypeId} {n : Nat} {vs : List (Nat × AV)} {x : AV} (h : wBuildSlice P H ⟨d, t0, H.gen d t0, 0⟩ t n (some vs) = some (x, H')) : Mild H H' ∧ ∀ q, H'.get q ≠ H.get q → Made H H' q ∨ q ∈ refsAll H.get (vs.map (·.2)) := by
  simp only [wBuildSlice, Option.map_eq_some_iff] at h
  obtain ⟨b, hb, h⟩ := h
  injection h with e1 e2
  subst e2
  generalize hR : refsAll H.get (vs.map (·.2)) = R
  have hget : ∀ q, Heap.get ((⟨d, t0, H.gen d t0, 0⟩, some b) :: freezeAll H R) q = if (⟨d, t0, H.gen d t0, 0⟩ : Ref) = q then some b else frzG H.get R q := by
    intro q; simp only [Heap.get, Heap.get_freezeAll]
  have hgen : ∀ d' t', Heap.gen ((⟨d, t0, H.gen d t0, 0⟩, some b) :: freezeAll H R) d' t' = if d = d' ∧ t0 = t' then H.gen d t0 + 1 else H.gen d' t' := by
    intro d' t'; simp only [Heap.gen, Heap.gen_freezeAll]
  have hmade : ∀ q, (⟨d, t0, H.gen d t0, 0⟩ : Ref) = q → Made H ((⟨d, t0, H.gen d t0, 0⟩, some b) :: freezeAll H R) q := by
    intro q e
    subst e
    refine ⟨Nat.le_refl _, ?_⟩
    rw [hgen, if_pos ⟨rfl, rfl⟩]
    exact Nat.lt_succ_self _
  refine ⟨⟨fun d' t' => ?_, fun q hq => ?_, fun q b1 b' h1 hg h' => ?_⟩, fun q hq => ?_⟩
  · rw [hgen]; split
    · rename_i e; rw [← e.1, ← e.2]; exact Nat.le_succ _
    · exact Nat.le_refl _
  · rw [hget] at hq
    split at hq
    · rename_i e; exact .inr (hmade q e)
    · exact .inl (frz_none hq)
  · rw [hget] at h'
    split at h'
    · rename_i e; subst e; exact absurd hg (Nat.lt_irrefl _)
    · exact frz_arr h1 h'
  · rw [hget] at hq
    split at hq
    · rename_i e; exact .inl (hmade q e)
    · unfold frzG at hq
      split at hq
      · rename_i hm; exact .inr hm
      · exact absurd rfl hq

theorem qLookup_seen {P : Program} {g g' : Get} {t : TypeId} {v x : AV} {k : Option AV} {ok : Bool} {bs : List Blk} (h : qLookup P g t (some v) k ok = some (x, bs)) (hg : Seen g g' v) : bs = [] ∧ qLookup P g' t (some v) k ok = some (x, bs) := by
  unfold qLookup at h ⊢
  cases v <;> (try (simp at h; done))
  rename_i r
  cases ht : tmap P t with
  | none => rw [ht] at h; simp at h
  | some p =>
  obtain ⟨kt, et⟩ := p
  cases hk : k.bind toValue with
  | none => rw [ht, hk] at h; simp at h
  | some kv =>
  rw [ht, hk] at h
  simp only at h ⊢
  cases hm : mapAt g r with
  | none => rw [hm] at h; simp at h
  | some ents =>
  have hm' : mapAt g' r = some ents := by
    unfold mapAt at hm ⊢
    cases hb : g r with
    | none => rw [hb] at hm; simp at hm
    | some b => rw [hb] at hm; rw [seen_at hg rfl hb]; exact hm
  rw [hm'] 
  rw [hm] at h
  refine ⟨?_, h⟩
  simp only at h
  split at h
  · split at h
    · obtain ⟨_, _, h⟩ := Option.map_eq_some_iff.1 h; cases h; rfl
    · obtain ⟨_, _, h⟩ := Option.map_eq_some_iff.1 h; cases h; rfl
    · cases h
  · cases h

/-- What makes, and looks at nothing, makes the same in any memory. -/
theorem blind_ok {E : Env} {pc : FuncId → List AV → Option AV} {draw : Bool} {g g' : Get} {tm : List AV} {r : Ref} {o : Oper} (hb : blind E o = true) {x : AV} {bs : List Blk} (h : evalQ E pc draw g tm r o = some (x, bs)) :
    evalQ E pc draw g' tm r o = some (x, bs) := by
  unfold blind at hb
  replace hb := (Bool.and_eq_true_iff.1 hb).2
  split at hb
  · rename_i hop
    unfold evalQ at h ⊢
    simp only [hop] at h ⊢
    exact h
  · rename_i hop
    unfold evalQ at h ⊢
    simp only [hop] at h ⊢
    exact h
  · rename_i c hop
    obtain ⟨h1, h2⟩ := Bool.and_eq_true_iff.1 hb
    split at h2
    · rename_i f hc
      have h3 : c.args.toList = [] := by simpa using h1
      unfold evalQ at h ⊢
      simp only [hop, h3, hc, List.mapM_nil, Option.pure_def, evalO, qCall, List.nil_append, refsAll, List.flatMap_nil] at h ⊢
      exact h
    · cases h2
  · cases hb

theorem look_nil {E : Env} {pc : FuncId → List AV → Option AV} {draw : Bool} {g : Get} {tm : List AV} {r : Ref} {o : Oper} {t : Tmp} (hl : lookT E.P o.op = some t) {x : AV} {bs : List Blk} (h : evalQ E pc draw g tm r o = some (x, bs)) :
    bs = [] ∧ ∀ g' r', Seen g g' (tget tm t) → evalQ E pc draw g' tm r' o = some (x, bs) := by
  unfold lookT at hl
  split at hl
  · rename_i ty t' hop
    cases hl
    unfold evalQ at h ⊢
    simp only [hop] at h ⊢
    exact ⟨(qLoad_seen h (fun _ _ _ => rfl)).1, fun g' r' hg => (qLoad_seen h hg).2⟩
  · rename_i ty t' ix hop
    cases hl
    unfold evalQ at h ⊢
    simp only [hop] at h ⊢
    exact ⟨(qIndexAddr_seen h (fun _ _ _ => rfl)).1, fun g' r' hg => (qIndexAddr_seen h hg).2⟩
  · rename_i ty t' lo hi mx hop
    cases hl
    unfold evalQ at h ⊢
    simp only [hop] at h ⊢
    exact ⟨(qSlice_seen h (fun _ _ _ => rfl)).1, fun g' r' hg => (qSlice_seen h hg).2⟩
  · rename_i src dst t' hop
    split at hl
    · cases hl
    · rename_i hbs
      cases hl
      unfold evalQ at h ⊢
      simp only [hop] at h ⊢
      have hbs' : isByteSlice E.P dst = false := by simpa using hbs
      exact ⟨(qConvert_seen (r' := r) hbs' h (fun _ _ _ => rfl)).1, fun g' r' hg => (qConvert_seen hbs' h hg).2⟩
  · rename_i ty t' k ok hop
    cases hl
    unfold evalQ at h ⊢
    simp only [hop] at h ⊢
    exact ⟨(qLookup_seen h (fun _ _ _ => rfl)).1, fun g' r' hg => (qLookup_seen h hg).2⟩
  · rename_i c hop
    split at hl
    · rename_i hc
      split at hl
      · rename_i t' hargs
        cases hl
        unfold evalQ at h ⊢
        simp only [hop, hargs, hc, List.mapM_cons, List.mapM_nil, evalO, Option.pure_def, Option.bind_eq_bind, Option.bind_some] at h ⊢
        cases hv : tget tm t with
        | mp q =>
          rw [hv] at h
          simp only [qBuiltin] at h ⊢
          obtain ⟨hd, h⟩ := Option.ite_none_left_eq_some.1 h
          simp only [if_neg hd]
          refine ⟨?_, fun g' r' hg => ?_⟩
          · unfold qLenMap at h
            split at h
            · cases h; rfl
            · cases h
          · unfold qLenMap at h ⊢
            split at h
            · rename_i p ents ht hm
              have hm' : mapAt g' q = some ents := by
                unfold mapAt at hm ⊢
                cases hb : g q with
                | none => rw [hb] at hm; simp at hm
                | some b => rw [hb] at hm; rw [seen_at hg rfl hb]; exact hm
              simp only [ht, hm']
              exact h
            · cases h
        | _ =>
          rw [hv] at h
          simp only [qBuiltin] at h ⊢
          refine ⟨?_, fun g' r' hg => h⟩
          unfold qLen at h
          (repeat' split at h) <;> (try simp_all) <;> (try (obtain ⟨_, _, _, h⟩ := h; exact h)) <;> (try (obtain ⟨n, _, h⟩ := Option.bind_eq_some_iff.1 h; simp at h; exact h.2))
      · cases hl
    · cases hl
  · cases hl

end Go.Ab
