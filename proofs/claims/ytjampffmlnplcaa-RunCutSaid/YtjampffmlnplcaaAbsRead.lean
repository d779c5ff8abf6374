/-
  A call that shares the heap and leaves it as it was. No statement of a seat is proved here.
-/
import Derived.Test.YtjampffmlnplcaaAbsCall
set_option linter.unusedVariables false
set_option linter.unusedSimpArgs false
namespace Go.Ab

/-- What stands for the same data, by the old names. -/
theorem VR.cut {M M' : Mem} {ι : Map} {e : AV} {u0 : Value} (h0 : VR M ι e u0) : ∀ {ι' : Map} {u : Value}, VR M' ι' e u → (∀ q l, ι q = some l → ι' q = some l) → VR M' ι e u := by
  induction h0 with
  | v h => intro ι' u h hi; cases h with | v hs => exact .v hs
  | agg hl _ ih =>
    intro ι' u h hi
    cases h with | agg hl' hh =>
    refine .agg hl' fun i c u hc hu => ?_
    have hlt := (List.getElem?_eq_some_iff.1 hc).1
    exact ih i c _ hc (Array.getElem?_eq_getElem (by omega)) (hh i c u hc hu) hi
  | tup hz hl _ ih =>
    intro ι' u h hi
    cases h with | tup h0' hl' hh =>
    refine .tup h0' hl' fun i c u hc hu => ?_
    have hlt := (List.getElem?_eq_some_iff.1 hc).1
    exact ih i c _ hc (Array.getElem?_eq_getElem (by omega)) (hh i c u hc hu) hi
  | isl cell hs hc hk hm he _ ih =>
    intro ι' u h hi
    cases h with | isl cell hs hc hk hm he hh => exact .isl cell hs hc hk hm he hh
  | osl hr hb hs ha hc hn hk hz =>
    intro ι' u h hi
    have h1 := hi _ _ hr
    cases h with | osl hr' hb' hs' ha' hc' hn' hk' hz' =>
    rw [h1] at hr'
    cases hr'
    exact .osl hr hb' hs' ha' hc' hn' hk' hz'
  | ptr hr hz =>
    intro ι' u h hi
    have h1 := hi _ _ hr
    cases h with | ptr hr' hz' =>
    rw [h1] at hr'
    cases hr'
    exact .ptr hr hz'
  | iptr cell hm he _ ih =>
    intro ι' u h hi
    cases h with | iptr cell hm he hh => exact .iptr cell hm he hh
  | fn ha hb _ _ ih ih' =>
    intro ι' u h hi
    cases h with | fn ha' hb' hh hh' =>
    refine .fn ha' hb' (fun i c u hc hu => ?_) fun i c u hc hu => ?_
    · have hlt := (List.getElem?_eq_some_iff.1 hc).1
      exact ih i c _ hc (Array.getElem?_eq_getElem (by omega)) (hh i c u hc hu) hi
    · have hlt := (List.getElem?_eq_some_iff.1 hc).1
      exact ih' i c _ hc (Array.getElem?_eq_getElem (by omega)) (hh' i c u hc hu) hi
  | ifc _ ih => intro ι' u h hi; cases h with | ifc hh => exact .ifc (ih hh hi)
  | yld hr hz =>
    intro ι' u h hi
    have h1 := hi _ _ hr
    cases h with | yld hr' hz' =>
    rw [h1] at hr'
    cases hr'
    exact .yld hr hz'
  | mp hr hz =>
    intro ι' u h hi
    have h1 := hi _ _ hr
    cases h with | mp hr' hz' =>
    rw [h1] at hr'
    cases hr'
    exact .mp hr hz'

section
variable {M M' : Mem} {ι ι' : Map} {w w' : World} {l : Loc} {k : Blk}

theorem CellsOk.cut (c0 : CellsOk M ι w l k) (c : CellsOk M' ι' w' l k) (hi : ∀ q l, ι q = some l → ι' q = some l) : CellsOk M' ι w' l k := by
  obtain ⟨arr0, _, _, _, _, _, h0⟩ := c0.heap
  obtain ⟨arr, T, fz, h1, h2, h3, h4⟩ := c.heap
  refine ⟨c.esz, ⟨arr, T, fz, h1, h2, h3, fun i j e x he hx => ?_⟩, c.len, c.cells, c.frozen⟩
  obtain ⟨u0, _, _, v0⟩ := h0 i j e x he hx
  obtain ⟨u, a1, a2, v1⟩ := h4 i j e x he hx
  refine ⟨u, a1, a2, v0.cut v1 ?_⟩
  unfold Blk.map
  split
  · exact fun _ _ h => h
  · exact hi

theorem LoopOk.cut (c0 : LoopOk M ι w l k) (c : LoopOk M' ι' w' l k) (hi : ∀ q l, ι q = some l → ι' q = some l) : LoopOk M' ι w' l k := by
  obtain ⟨n0, nt0, ps0, as0, bd0, tm0, r0, _, _, e0, _, _, _, _, _, v0, _⟩ := c0
  obtain ⟨n, nt, ps, as, bd, tm, r, h1, h2, e, h3, h4, h5, h6, h7, v, h8⟩ := c
  rw [e] at e0
  simp only [List.cons.injEq, AV.lp.injEq] at e0
  obtain ⟨_, ⟨_, _, _, _, _, rfl⟩, _⟩ := e0
  exact ⟨n, nt, ps, as, bd, tm, r, h1, h2, e, h3, h4, h5, h6, h7, fun t => (v0 t).cut (v t) hi, h8⟩

theorem MapOk.cut (c0 : MapOk M ι w l k) (c : MapOk M' ι' w' l k) (hi : ∀ q l, ι q = some l → ι' q = some l) : MapOk M' ι w' l k := by
  obtain ⟨ents0, entries0, _, _, e0, _, s0, v0⟩ := c0
  obtain ⟨ents, entries, h1, h2, e, h3, s, v⟩ := c
  rw [e] at e0
  simp only [List.cons.injEq, true_and] at e0
  subst e0
  refine ⟨ents, entries, h1, h2, e, h3, s, fun i ent en hent hen => ?_⟩
  obtain ⟨ka, va, q1, q2, q3, q4⟩ := v i ent en hent hen
  have hlt := (List.getElem?_eq_some_iff.1 hent).1
  obtain ⟨ka0, va0, p1, _, p3, _⟩ := v0 i ent _ hent (Array.getElem?_eq_getElem (by omega))
  rw [q1] at p1
  simp only [AV.tup.injEq, List.cons.injEq] at p1
  obtain ⟨_, rfl, _⟩ := p1
  exact ⟨ka, va, q1, q2, p3.cut q3 hi, q4⟩

theorem ObjOk.cut (c0 : ObjOk M ι w l k) (c : ObjOk M' ι' w' l k) (hi : ∀ q l, ι q = some l → ι' q = some l) : ObjOk M' ι w' l k := by
  rcases c0 with c0 | c0 <;> rcases c with c | c
  · exact .inl (c0.cut c hi)
  · obtain ⟨_, _, _, _, _, _, _, _, _, e0, _⟩ := c0
    obtain ⟨_, _, _, _, e, _⟩ := c
    rw [e] at e0; simp at e0
  · obtain ⟨_, _, _, _, _, _, _, _, _, e0, _⟩ := c
    obtain ⟨_, _, _, _, e, _⟩ := c0
    rw [e] at e0; simp at e0
  · exact .inr (c0.cut c hi)

theorem BlkOk.cut (c0 : BlkOk M ι w l k) (c : BlkOk M' ι' w' l k) (hi : ∀ q l, ι q = some l → ι' q = some l) : BlkOk M' ι w' l k :=
  ⟨c.esz, fun h => (c0.cellsOk h).cut (c.cellsOk h) hi, fun h => (c0.objOk h).cut (c.objOk h) hi, c.frozen⟩

/-- A call that left all blocks as they were: one may go on from the heap ahead of it. -/
theorem reader_ok {H H' : Heap} (hS : Sim M ι H.get w) (hD : Dom ι H) {y : AV} {v : Value} (hf : flat depth y = true) (hk : ∀ q k, H.get q = some k → H'.get q = some k) (h : WOut M ι H w y H' v w') : WOut M ι H w y H v w' := by
  obtain ⟨M1, ι1, hv, hS', hF, hD'⟩ := h
  refine ⟨M1, ι, flat_ok depth y v hf hv, ⟨hS'.mem, fun q k hq => ?_, hS.inj⟩, ⟨hF.os, hF.tape, hF.output, hF.size, hF.chg, hF.mem, fun _ _ h => h, fun q k l h1 h2 => .inr ⟨q, k, l, h1, h2, rfl⟩, hF.new⟩, hD⟩
  obtain ⟨l, hl, hb⟩ := hS.live q k hq
  obtain ⟨l', hl', hb'⟩ := hS'.live q k (hk q k hq)
  have := hF.map q l hl
  rw [this] at hl'
  cases hl'
  exact ⟨l, hl, hb.cut hb' hF.map⟩

theorem vsame_ok {u v : Value} (h : vsame u v = true) : u = v := by
  unfold vsame at h
  split at h
  · simp at h; rw [h]
  · simp at h; rw [h.1, h.2]
  · simp at h; rw [h]
  · simp only [Bool.and_eq_true] at h
    rw [Nat.eq_of_beq_eq_true h.1, Nat.eq_of_beq_eq_true h.2]
  · rfl
  · rfl
  · cases h

theorem all_same {f : AV → AV → Bool} (hf : ∀ x y, f x y = true → x = y) : ∀ (xs ys : List AV), xs.length = ys.length → ((xs.zip ys).all fun p => f p.1 p.2) = true → xs = ys := by
  intro xs
  induction xs with
  | nil => intro ys h _; exact (List.eq_nil_of_length_eq_zero h.symm).symm
  | cons x xs ih =>
    intro ys h ha
    cases ys with
    | nil => simp at h
    | cons y ys =>
      simp only [List.zip_cons_cons, List.all_cons, Bool.and_eq_true] at ha
      rw [hf x y ha.1, ih ys (by simpa using h) ha.2]

theorem rsame_ok {r r' : Ref} (h : rsame r r' = true) : r = r' := by
  unfold rsame at h
  simp only [Bool.and_eq_true] at h
  cases r; cases r'
  simp only [Ref.mk.injEq]
  exact ⟨Nat.eq_of_beq_eq_true h.1.2, Nat.eq_of_beq_eq_true h.1.1.1, Nat.eq_of_beq_eq_true h.1.1.2, Nat.eq_of_beq_eq_true h.2⟩

theorem bsame_ok : ∀ (n : Nat) (x y : AV), bsame n x y = true → x = y := by
  intro n
  induction n with
  | zero => intro x y h; simp [bsame] at h
  | succ n ih =>
    intro x y h
    unfold bsame at h
    split at h
    · rw [vsame_ok h]
    · simp only [Bool.and_eq_true] at h
      rw [all_same ih _ _ (Nat.eq_of_beq_eq_true h.1) h.2]
    · simp only [Bool.and_eq_true] at h
      rw [all_same ih _ _ (Nat.eq_of_beq_eq_true h.1) h.2]
    · simp only [Bool.and_eq_true, decide_eq_true_eq] at h
      rw [all_same ih _ _ (Nat.eq_of_beq_eq_true h.1.2) h.2, Nat.eq_of_beq_eq_true h.1.1.1, h.1.1.2]
    · simp only [Bool.and_eq_true, decide_eq_true_eq] at h
      rw [rsame_ok h.1.1.1, Nat.eq_of_beq_eq_true h.1.1.2, Nat.eq_of_beq_eq_true h.1.2, h.2]
    · simp only [Bool.and_eq_true] at h
      rw [rsame_ok h.1.1, Nat.eq_of_beq_eq_true h.1.2, Nat.eq_of_beq_eq_true h.2]
    · rw [rsame_ok h]
    · simp only [Bool.and_eq_true] at h
      rw [Nat.eq_of_beq_eq_true h.1.1, all_same ih _ _ (Nat.eq_of_beq_eq_true h.1.2.1) h.1.2.2, all_same ih _ _ (Nat.eq_of_beq_eq_true h.2.1) h.2.2]
    · simp only [Bool.and_eq_true] at h
      rw [Nat.eq_of_beq_eq_true h.1, ih _ _ h.2]
    · cases h

theorem blkSame_ok {k k' : Blk} (h : blkSame k k' = true) : k = k' := by
  unfold blkSame at h
  simp only [Bool.and_eq_true, beq_iff_eq] at h
  cases k; cases k'
  simp only [Blk.mk.injEq]
  exact ⟨Nat.eq_of_beq_eq_true h.1.1.1.1, all_same (bsame_ok 8) _ _ (Nat.eq_of_beq_eq_true h.1.2) h.2, h.1.1.1.2, h.1.1.2⟩

theorem get_mem : ∀ (H : Heap) (q : Ref) (k : Blk), H.get q = some k → ∃ b, (q, b) ∈ H := by
  intro H
  induction H with
  | nil => intro q k h; cases h
  | cons p H ih =>
    obtain ⟨r, b⟩ := p
    intro q k h
    simp only [Heap.get] at h
    split at h
    · rename_i e; subst e; exact ⟨b, List.mem_cons_self ..⟩
    · obtain ⟨b', hb⟩ := ih q k h
      exact ⟨b', List.mem_cons_of_mem _ hb⟩

theorem heapSame_ok {H H' : Heap} (h : heapSame H H' = true) (q : Ref) (k : Blk) (hq : H.get q = some k) : H'.get q = some k := by
  obtain ⟨b, hb⟩ := get_mem H q k hq
  have := List.all_eq_true.1 h _ hb
  simp only [hq] at this
  split at this
  · cases this
  · rename_i k' hk'
    rw [hk', blkSame_ok this]

theorem wRead_cases {b : Bool} {H H' : Heap} {res : WRes} {y : AV} (h : wRead b H res = some (y, H')) : res = some (y, H') ∨ ∃ H1, H' = H ∧ res = some (y, H1) ∧ flat depth y = true ∧ heapSame H H1 = true := by
  unfold wRead at h
  split at h
  · rename_i y1 H1
    obtain ⟨hc, h⟩ := Option.ite_none_right_eq_some.1 h
    cases h
    exact .inr ⟨H1, rfl, rfl, (Bool.and_eq_true_iff.1 hc).1, (Bool.and_eq_true_iff.1 hc).2⟩
  · exact .inl h
end
end Go.Ab
