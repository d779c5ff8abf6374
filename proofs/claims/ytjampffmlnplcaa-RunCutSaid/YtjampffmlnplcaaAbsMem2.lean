/-
  Memory: a new block, a write, memory that is not written from here on. No statement of a seat is proved here.
-/
import Derived.Test.YtjampffmlnplcaaAbsMem
set_option linter.unusedVariables false
set_option linter.unusedSimpArgs false
namespace Go.Ab

/- ## A new block -/

structure Grew (w w' : World) (o : Obj) : Prop where
  os : w'.os = w.os
  tape : w'.tape = w.tape
  output : w'.output = w.output
  heap : w'.heap = w.heap.push o

theorem Grew.cell {w w' : World} {o : Obj} (h : Grew w w' o) {a : Addr} {x : Value} (hx : w.cell? a = some x) : w'.cell? a = some x := by
  have hb := World.block_lt_of_cell? w a hx
  unfold World.cell? at hx ⊢
  rw [h.heap, Array.getElem?_push_lt hb, ← Array.getElem?_eq_getElem hb]
  exact hx

theorem Grew.old {w w' : World} {o : Obj} (h : Grew w w' o) (b : Nat) (hb : b < w.heap.size) : w'.heap[b]? = w.heap[b]? := by
  rw [h.heap, Array.getElem?_push_lt hb, ← Array.getElem?_eq_getElem hb]

def updM (ι : Map) (q : Ref) (l : Loc) : Map := fun r => if r = q then some l else ι r
def updG (g : Get) (q : Ref) (k : Blk) : Get := fun r => if r = q then some k else g r

theorem updM_le {ι : Map} {q : Ref} {l : Loc} (hq : ι q = none) : ∀ r l', ι r = some l' → updM ι q l r = some l' := by
  intro r l' h
  unfold updM
  split
  · subst_vars; rw [hq] at h; cases h
  · exact h

theorem Sim.none_of {M ι g w} (h : Sim M ι g w) {q : Ref} (hq : ι q = none) : g q = none := by
  cases hg : g q with
  | none => rfl
  | some k => obtain ⟨l, hl, _⟩ := h.live q k hg; rw [hq] at hl; cases hl

theorem CellsOk.lt {M ι w l k} (h : CellsOk M ι w l k) : l.b < w.heap.size := by
  obtain ⟨arr, T, fz, hh, _⟩ := h.heap
  exact (Array.getElem?_eq_some_iff.1 hh).1

theorem ObjOk.lt {M ι w l k} (h : ObjOk M ι w l k) : l.b < w.heap.size := by
  rcases h.obj with ⟨_, hh⟩ | ⟨_, _, hh⟩
  · exact (Array.getElem?_eq_some_iff.1 hh).1
  · exact (Array.getElem?_eq_some_iff.1 hh).1

theorem BlkOk.lt {M ι w l k} (h : BlkOk M ι w l k) : l.b < w.heap.size := by
  rcases Nat.eq_zero_or_pos k.esz with e | e
  · exact (h.objOk e).lt
  · exact (h.cellsOk e).lt

theorem BlkOk.cells_of {M ι w l k} (h : BlkOk M ι w l k) {arr : Array Value} {T : TypeId} {fz : Nat × Nat} (hh : w.heap[l.b]? = some (.cells arr T fz)) : CellsOk M ι w l k ∧ 0 < k.esz := by
  rcases Nat.eq_zero_or_pos k.esz with e | e
  · rcases (h.objOk e).obj with ⟨_, h2⟩ | ⟨_, _, h2⟩
    · rw [hh] at h2; cases h2
    · rw [hh] at h2; cases h2
  · exact ⟨h.cellsOk e, e⟩

theorem CellsOk.keep {M ι w l k M' ι' w'} (h : CellsOk M ι w l k) (hM : ∀ b o x, M b o = some x → M' b o = some x) (hι : ∀ r l, ι r = some l → ι' r = some l)
    (hb : w'.heap[l.b]? = w.heap[l.b]?) (hf : ∀ o x, M' l.b o = some x → k.frz = true ∧ o < k.es.length * k.esz) : CellsOk M' ι' w' l k := by
  obtain ⟨arr, T, fz, hh, h1, h2, h3⟩ := h.heap
  refine ⟨h.esz, ⟨arr, T, fz, hb ▸ hh, h1, h2, ?_⟩, h.len, h.cells, hf⟩
  intro i j e x he hx
  obtain ⟨u, hu, ho, hv⟩ := h3 i j e x he hx
  refine ⟨u, hu, ho, hv.mono hM _ ?_⟩
  intro r l' hl
  unfold Blk.map at hl ⊢
  split
  · rename_i ha; rw [if_pos ha] at hl; exact hl
  · rename_i ha; rw [if_neg ha] at hl; exact hι r l' hl

theorem BlkOk.keep {M ι w l k M' ι' w'} (h : BlkOk M ι w l k) (hM : ∀ b o x, M b o = some x → M' b o = some x) (hι : ∀ r l, ι r = some l → ι' r = some l)
    (hb : w'.heap[l.b]? = w.heap[l.b]?) (hf : ∀ o x, M' l.b o = some x → k.frz = true ∧ o < k.es.length * k.esz) : BlkOk M' ι' w' l k :=
  ⟨h.esz, fun e => (h.cellsOk e).keep hM hι hb hf, fun e => (h.objOk e).mono hM hι hb, hf⟩

theorem Sim.alloc {M ι g w} (hS : Sim M ι g w) {q : Ref} (hq : ι q = none) {w' : World} {arr : Array Value} {T : TypeId} {fz : Nat × Nat} (hw : Grew w w' (.cells arr T fz))
    (k : Blk) (hz : 0 < k.esz) (n : Nat) (hsz : arr.size = n * k.esz) (hfz : ∀ o, o < arr.size → ¬ (fz.1 ≤ o ∧ (o < fz.2 ∨ fz.2 < fz.1))) (hlen : k.es.length ≤ n) (hcells : ∀ e ∈ k.es, e.cells.length = k.esz)
    (hc : ∀ (i j : Nat) e x, k.es[i]? = some e → e.cells[j]? = some x → ∃ u, arr[i * k.esz + j]? = some u ∧ u.oneCell' = true ∧ VR M (k.map ι) x u) :
    Sim M (updM ι q ⟨w.heap.size, k.esz, n⟩) (updG g q k) w' ∧ Fwd M ι g w M (updM ι q ⟨w.heap.size, k.esz, n⟩) (updG g q k) w' := by
  have hle := updM_le (l := ⟨w.heap.size, k.esz, n⟩) hq
  have hMlt : ∀ b o x, M b o = some x → b < w.heap.size := fun b o x h => World.block_lt_of_cell? w ⟨b, o, none⟩ (hS.mem b o x h)
  have hnew : w'.heap[w.heap.size]? = some (.cells arr T fz) := by rw [hw.heap]; simp
  refine ⟨⟨fun b o x h => hw.cell (hS.mem b o x h), ?_, ?_⟩, ⟨hw.os, hw.tape, hw.output, by rw [hw.heap]; simp, fun b hb _ => hw.old b hb, fun _ _ _ h => h, hle, ?_, fun _ _ _ h => .inl h⟩⟩
  · intro r k' hr
    unfold updG at hr
    split at hr
    · rename_i e
      subst e
      cases hr
      refine ⟨⟨w.heap.size, k.esz, n⟩, by simp [updM], CellsOk.blk ⟨rfl, ⟨arr, T, fz, hnew, hsz, hfz, ?_⟩, hlen, hcells, ?_⟩ hz⟩
      · intro i j e x he hx
        obtain ⟨u, hu, ho, hv⟩ := hc i j e x he hx
        refine ⟨u, hu, ho, hv.mono (fun _ _ _ h => h) _ ?_⟩
        intro r' l' hl
        unfold Blk.map at hl ⊢
        split
        · rename_i ha; rw [if_pos ha] at hl; exact hl
        · rename_i ha; rw [if_neg ha] at hl; exact hle r' l' hl
      · intro o x h
        exact absurd (hMlt _ _ _ h) (Nat.lt_irrefl _)
    · obtain ⟨l, hl, hb⟩ := hS.live r k' hr
      exact ⟨l, hle r l hl, hb.keep (fun _ _ _ h => h) hle (hw.old _ hb.lt) hb.frozen⟩
  · intro r r' k1 k2 l1 l2 h1 h2 h3 h4 h5
    unfold updG at h1 h2
    unfold updM at h3 h4
    by_cases e1 : r = q <;> by_cases e2 : r' = q
    · rw [e1, e2]
    · rw [if_pos e1] at h3; rw [if_neg e2] at h2 h4
      obtain ⟨l, hl, hb⟩ := hS.live r' k2 h2
      rw [hl] at h4; cases h4; cases h3
      exact absurd hb.lt (by rw [← h5]; exact Nat.lt_irrefl _)
    · rw [if_neg e1] at h1 h3; rw [if_pos e2] at h4
      obtain ⟨l, hl, hb⟩ := hS.live r k1 h1
      rw [hl] at h3; cases h3; cases h4
      exact absurd hb.lt (by rw [h5]; exact Nat.lt_irrefl _)
    · rw [if_neg e1] at h1 h3; rw [if_neg e2] at h2 h4
      exact hS.inj r r' k1 k2 l1 l2 h1 h2 h3 h4 h5
  · intro r k' l hr hl
    unfold updG at hr
    unfold updM at hl
    split at hr
    · rename_i e; rw [if_pos e] at hl; cases hl; exact .inl (Nat.le_refl _)
    · rename_i e; rw [if_neg e] at hl; exact .inr ⟨r, k', l, hr, hl, rfl⟩

/- ## A write -/

def setBlk (w : World) (b : Nat) (o : Obj) : World := { w with heap := w.heap.setIfInBounds b o }

theorem setBlk_same {w : World} {b : Nat} {o : Obj} (hb : b < w.heap.size) : (setBlk w b o).heap[b]? = some o := by simp [setBlk, hb]
theorem setBlk_other {w : World} {b b' : Nat} {o : Obj} (h : b ≠ b') : (setBlk w b o).heap[b']? = w.heap[b']? := by simp [setBlk, Array.getElem?_setIfInBounds_ne h]

/-- What 'storeCells' leaves in a row. -/
def putCells (arr : Array Value) (o : Nat) (us : List Value) : Array Value := (arr.toList.take o ++ us ++ arr.toList.drop (o + us.length)).toArray

theorem putCells_at {arr : Array Value} {o : Nat} {us : List Value} (h : o + us.length ≤ arr.size) (i : Nat) :
    (putCells arr o us)[i]? = if o ≤ i ∧ i < o + us.length then us[i - o]? else arr[i]? := by
  unfold putCells
  simp only [List.getElem?_toArray]
  have ho : (arr.toList.take o).length = o := by simp; omega
  rcases Nat.lt_or_ge i o with h1 | h1
  · rw [List.append_assoc, List.getElem?_append_left (by omega), List.getElem?_take, if_pos h1, if_neg (by omega)]
    simp
  · rcases Nat.lt_or_ge i (o + us.length) with h2 | h2
    · rw [List.append_assoc, List.getElem?_append_right (by omega), List.getElem?_append_left (by omega), if_pos ⟨h1, h2⟩, ho]
    · rw [List.getElem?_append_right (by simp; omega), List.getElem?_drop, if_neg (by omega)]
      simp only [List.length_append, ho, Array.getElem?_toList]
      congr 1
      omega

theorem putCells_size {arr : Array Value} {o : Nat} {us : List Value} (h : o + us.length ≤ arr.size) : (putCells arr o us).size = arr.size := by
  simp [putCells]; omega

theorem run_storeCells_gen {P : Program} {b : Nat} {T : TypeId} {fz : Nat × Nat} (o : Nat) : ∀ (us : List Value) (i : Nat) (arr : Array Value) (w : World), w.heap[b]? = some (.cells arr T fz) →
    o + i + us.length ≤ arr.size → (∀ j, j < arr.size → ¬ (fz.1 ≤ j ∧ (j < fz.2 ∨ fz.2 < fz.1))) → (∀ u ∈ us, u.oneCell' = true) →
    (storeCells ⟨b, o, none⟩ us i).run P w = .ok () (setBlk w b (.cells (putCells arr (o + i) us) T fz)) := by
  intro us
  induction us with
  | nil =>
    intro i arr w hw hs hf h1
    have hb := (Array.getElem?_eq_some_iff.1 hw).1
    have e : putCells arr (o + i) [] = arr := by simp [putCells]
    have e2 : setBlk w b (.cells arr T fz) = w := by
      have : w.heap.setIfInBounds b (.cells arr T fz) = w.heap := by
        apply Array.ext_getElem?
        intro k
        by_cases hk : b = k
        · subst hk; rw [hw, Array.getElem?_setIfInBounds_self_of_lt hb]
        · rw [Array.getElem?_setIfInBounds_ne hk]
      unfold setBlk
      rw [this]
    simp [storeCells, e, e2]
  | cons u us ih =>
    intro i arr w hw hs hf h1
    have hb := (Array.getElem?_eq_some_iff.1 hw).1
    simp only [List.length_cons] at hs
    have hc : w.cell? ⟨b, o + i, none⟩ = some arr[o + i] := by rw [cell_of_heap hw]; exact Array.getElem?_eq_getElem (by omega)
    have hfr : w.frozen? ⟨b, o + i, none⟩ = false := by
      have := hf (o + i) (by omega)
      simp only [World.frozen?, hw]
      simp only [Bool.and_eq_false_iff, decide_eq_false_iff_not]
      by_cases h : fz.1 ≤ o + i
      · exact .inr fun h' => this ⟨h, .inl h'⟩
      · exact .inl h
    have hset : w.setCell ⟨b, o + i, none⟩ u = setBlk w b (.cells (arr.setIfInBounds (o + i) u) T fz) := by
      unfold World.setCell setBlk
      congr 1
      apply Array.ext_getElem?
      intro k
      rw [Array.getElem?_modify]
      by_cases hk : b = k
      · subst hk; rw [hw, Array.getElem?_setIfInBounds_self_of_lt hb]; simp
      · simp [hk, Array.getElem?_setIfInBounds_ne hk]
    have hone := h1 u (by simp)
    have ih' := ih (i + 1) (arr.setIfInBounds (o + i) u) (setBlk w b (.cells (arr.setIfInBounds (o + i) u) T fz)) (setBlk_same hb) (by simp; omega) (by simpa using hf) (fun v hv => h1 v (by simp [hv]))
    simp only [storeCells, Sem.run_bind, add_none, run_store P w _ u _ hone, hc, hfr, hset]
    simp only [Bool.false_eq_true, ↓reduceIte, Result.andThen_ok]
    rw [ih']
    congr 1
    unfold setBlk
    simp only [Array.setIfInBounds_setIfInBounds]
    congr 3
    apply Array.ext_getElem?
    intro k
    rw [putCells_at (by simp; omega), putCells_at (by simp; omega)]
    by_cases h2 : k = o + i
    · subst h2
      rw [if_neg (by omega), if_pos ⟨Nat.le_refl _, by simp⟩]
      simp [show o + i < arr.size by omega]
    · by_cases h3 : o + (i + 1) ≤ k ∧ k < o + (i + 1) + us.length
      · rw [if_pos h3, if_pos (by simp; omega)]
        rw [show k - (o + i) = (k - (o + (i + 1))) + 1 by omega]
        simp
      · rw [if_neg h3, if_neg (by simp; omega)]
        rw [Array.getElem?_setIfInBounds_ne (by omega)]

/-- A block's content replaced, in both worlds. -/
theorem Sim.mark {M ι g w} (hS : Sim M ι g w) {r : Ref} {k : Blk} {l : Loc} (hk : g r = some k) (hl : ι r = some l) {arr : Array Value} {T : TypeId} {fz0 fz : Nat × Nat} {w' : World}
    (hh : w.heap[l.b]? = some (.cells arr T fz0)) (hw : w' = setBlk w l.b (.cells arr T fz)) (hfz : ∀ o, o < arr.size → ¬ (fz.1 ≤ o ∧ (o < fz.2 ∨ fz.2 < fz.1))) : Sim M ι g w' ∧ Fwd M ι g w M ι g w' := by
  obtain ⟨l', hl', hb⟩ := hS.live r k hk
  rw [hl] at hl'; cases hl'
  have hlt := hb.lt
  have hnew : w'.heap[l.b]? = some (.cells arr T fz) := by rw [hw]; exact setBlk_same hlt
  have hold : ∀ b, l.b ≠ b → w'.heap[b]? = w.heap[b]? := fun b hne => by rw [hw]; exact setBlk_other hne
  have hcell : ∀ b o, w'.cell? ⟨b, o, none⟩ = w.cell? ⟨b, o, none⟩ := by
    intro b o
    by_cases hne : l.b = b
    · subst hne; rw [cell_of_heap hnew, cell_of_heap hh]
    · exact World.cell?_of_block (hold b hne)
  refine ⟨⟨fun b o x h => by rw [hcell]; exact hS.mem b o x h, ?_, hS.inj⟩, ?_⟩
  · intro r' k1 hr
    obtain ⟨l1, hl1, hb1⟩ := hS.live r' k1 hr
    refine ⟨l1, hl1, ?_⟩
    by_cases hne : l.b = l1.b
    · obtain ⟨hc1, hz1⟩ := hb1.cells_of (hne ▸ hh)
      obtain ⟨arr1, T1, fz1, g1, g2, g3, g4⟩ := hc1.heap
      rw [← hne, hh] at g1
      injection g1 with g1; injection g1 with e1 e2 e3
      subst e1; subst e2
      exact CellsOk.blk ⟨hb1.esz, ⟨arr, T, fz, by rw [← hne]; exact hnew, g2, hfz, g4⟩, hc1.len, hc1.cells, hb1.frozen⟩ hz1
    · exact hb1.keep (fun _ _ _ h => h) (fun _ _ h => h) (hold _ hne) hb1.frozen
  · refine ⟨by rw [hw]; rfl, by rw [hw]; rfl, by rw [hw]; rfl, by rw [hw]; simp [setBlk], fun b hb' hno => hold b (hno r k l hk hl), fun _ _ _ h => h, fun _ _ h => h, fun r k l h h' => .inr ⟨r, k, l, h, h', rfl⟩, fun _ _ _ h => .inl h⟩

theorem Sim.write {M ι g w} (hS : Sim M ι g w) {r : Ref} {k k' : Blk} {l : Loc} (hk : g r = some k) (hl : ι r = some l) (hz : 0 < l.esz) {arr : Array Value} {T : TypeId} {fz : Nat × Nat} {w' : World}
    (hw : w' = setBlk w l.b (.cells arr T fz)) (hesz : k'.esz = k.esz) (harr : k'.arr = k.arr) (hsz : arr.size = l.n * k.esz) (hfz : ∀ o, o < arr.size → ¬ (fz.1 ≤ o ∧ (o < fz.2 ∨ fz.2 < fz.1)))
    (hlen : k'.es.length ≤ l.n) (hcells : ∀ e ∈ k'.es, e.cells.length = k.esz) (hfrz : ∀ o x, M l.b o = some x → False)
    (hc : ∀ (i j : Nat) e x, k'.es[i]? = some e → e.cells[j]? = some x → ∃ u, arr[i * k.esz + j]? = some u ∧ u.oneCell' = true ∧ VR M (k'.map ι) x u) :
    Sim M ι (updG g r k') w' ∧ Fwd M ι g w M ι (updG g r k') w' := by
  obtain ⟨l', hl', hb⟩ := hS.live r k hk
  rw [hl] at hl'; cases hl'
  have hlt := hb.lt
  refine ⟨⟨?_, ?_, ?_⟩, ?_⟩
  · intro b o x h
    have hne : l.b ≠ b := fun e => hfrz o x (e ▸ h)
    rw [World.cell?_of_block (w := w) (by rw [hw]; exact setBlk_other hne)]
    exact hS.mem b o x h
  · intro r' k1 hr
    unfold updG at hr
    split at hr
    · rename_i e
      subst e
      cases hr
      refine ⟨l, hl, CellsOk.blk ⟨by rw [hb.esz, hesz], ⟨arr, T, fz, by rw [hw]; exact setBlk_same hlt, by rw [hesz]; exact hsz, hfz, by rw [hesz]; exact hc⟩, hlen, by rw [hesz]; exact hcells, fun o x h => (hfrz o x h).elim⟩ (by rw [hesz, ← hb.esz]; exact hz)⟩
    · rename_i hne
      obtain ⟨l1, hl1, hb1⟩ := hS.live r' k1 hr
      have hnb : l.b ≠ l1.b := fun e => hne (hS.inj r' r k1 k l1 l hr hk hl1 hl e.symm)
      exact ⟨l1, hl1, hb1.keep (fun _ _ _ h => h) (fun _ _ h => h) (by rw [hw]; exact setBlk_other hnb) hb1.frozen⟩
  · intro r1 r2 k1 k2 l1 l2 h1 h2 h3 h4 h5
    have back : ∀ {r1 : Ref} {k1 : Blk}, updG g r k' r1 = some k1 → ∃ k, g r1 = some k := by
      intro r1 k1 h
      unfold updG at h
      split at h
      · rename_i e; exact ⟨k, e ▸ hk⟩
      · exact ⟨k1, h⟩
    obtain ⟨_, h1'⟩ := back h1
    obtain ⟨_, h2'⟩ := back h2
    exact hS.inj r1 r2 _ _ l1 l2 h1' h2' h3 h4 h5
  · refine ⟨by rw [hw]; rfl, by rw [hw]; rfl, by rw [hw]; rfl, by rw [hw]; simp [setBlk], ?_, fun _ _ _ h => h, fun _ _ h => h, ?_, fun _ _ _ h => .inl h⟩
    · intro b _ hno
      rw [hw]
      exact setBlk_other (hno r k l hk hl)
    · intro r1 k1 l1 h1 h2
      unfold updG at h1
      split at h1
      · rename_i e; subst e; exact .inr ⟨r1, k, l1, hk, h2, rfl⟩
      · exact .inr ⟨r1, k1, l1, h1, h2, rfl⟩

end Go.Ab
