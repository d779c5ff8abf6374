/-
  Memory: what a read gives, what a new block and a write leave. No statement of a seat is proved here.
-/
import Derived.Test.YtjampffmlnplcaaAbsSim
set_option linter.unusedVariables false
set_option linter.unusedSimpArgs false
namespace Go.Ab

/- ## Reading -/

theorem cell_of_heap {w : World} {b o : Nat} {arr : Array Value} {T : TypeId} {fz : Nat × Nat} (h : w.heap[b]? = some (.cells arr T fz)) : w.cell? ⟨b, o, none⟩ = arr[o]? := by
  simp [World.cell?, h]

theorem add_none (b o n : Nat) : (⟨b, o, none⟩ : Addr).add n = ⟨b, o + n, none⟩ := by
  unfold Addr.add; split <;> simp_all

theorem addr_eta {a : Addr} (h : a.spot = none) : a = ⟨a.block, a.off, none⟩ := by cases a; simp_all

theorem tsize_info {P : Program} {t : TypeId} {n : Nat} (h : tsize P t = some n) : ∃ i, P.info? t = some i ∧ i.size = n := by
  simpa [tsize] using h

theorem run_sizeOf {P : Program} {t : TypeId} {n : Nat} (h : tsize P t = some n) (w : World) : (sizeOf t).run P w = .ok n w := by
  obtain ⟨i, hi, rfl⟩ := tsize_info h
  simp [sizeOf, typeInfo, hi]

theorem run_und {P : Program} {t : TypeId} {d : TypeDesc} (h : P.underlying t = some d) (w : World) : (underlying t).run P w = .ok d w := by
  simp [underlying, h]

theorem run_isAgg {P : Program} {t : TypeId} {b : Bool} (h : tagg P t = some b) (w : World) : (isAgg t).run P w = .ok b w := by
  simp only [tagg, Option.map_eq_some_iff] at h
  obtain ⟨d, hd, rfl⟩ := h
  simp only [isAgg, Sem.run_bind, run_und hd, Result.andThen_ok]
  cases d <;> rfl

theorem run_zero {P : Program} {t : TypeId} {z : AV} (h : tzero P t = some z) (w : World) : ∃ u, (zeroValue t).run P w = .ok u w ∧ ofValue u = some z := by
  simp only [tzero, Option.bind_eq_some_iff] at h
  obtain ⟨u, ⟨i, hi, hz⟩, hu⟩ := h
  exact ⟨u, by simp [zeroValue, typeInfo, hi, hz], hu⟩

/-- A row of cells, as the abstract machine knows it. -/
def Cells (M : Mem) (ι : Map) (w : World) (b o : Nat) (xs : List AV) : Prop :=
  ∀ (j : Nat) x, xs[j]? = some x → ∃ u, w.cell? ⟨b, o + j, none⟩ = some u ∧ u.oneCell' = true ∧ VR M ι x u

theorem Cells.values {M ι w b o} {xs : List AV} (h : Cells M ι w b o xs) : ∃ us : List Value, VRs M ι xs us ∧ (∀ u ∈ us, u.oneCell' = true) ∧ ∀ (j : Nat) u, us[j]? = some u → w.cell? ⟨b, o + j, none⟩ = some u := by
  induction xs generalizing o with
  | nil => exact ⟨[], VRs.nil, by simp, by simp⟩
  | cons x xs ih =>
    obtain ⟨u, hu, h1, hr⟩ := h 0 x rfl
    obtain ⟨us, h2, h3, h4⟩ := ih (o := o + 1) fun j y hy => by
      have := h (j + 1) y (by simpa using hy)
      rwa [show o + (j + 1) = o + 1 + j by omega] at this
    refine ⟨u :: us, VRs.cons hr h2, by simpa [h1] using h3, ?_⟩
    intro j v hv
    cases j with
    | zero => simp at hv; subst hv; exact hu
    | succ j =>
      simp at hv
      have := h4 j v hv
      rwa [show o + (j + 1) = o + 1 + j by omega]

theorem Cells.sub {M ι w b o} {xs : List AV} (h : Cells M ι w b o xs) (j n : Nat) : Cells M ι w b (o + j) ((xs.drop j).take n) := by
  intro i x hx
  rw [List.getElem?_take] at hx
  split at hx
  · rw [List.getElem?_drop] at hx
    obtain ⟨u, h1, h2⟩ := h _ x hx
    exact ⟨u, by rwa [show o + j + i = o + (j + i) by omega], h2⟩
  · cases hx

/-- 'loadVar' at known cells. -/
theorem run_loadVar_cells {P : Program} {t : TypeId} {ag : Bool} {n : Nat} (hg : tagg P t = some ag) (hn : tsize P t = some n) {M ι w b o} {cs : List AV} {j : Nat} {y : AV}
    (hc : Cells M ι w b o cs)
    (hr : (if ag then (if j + n ≤ cs.length ∧ 0 < n then some (AV.agg ((cs.drop j).take n)) else none) else cs[j]?) = some y) :
    ∃ u, (loadVar t ⟨b, o + j, none⟩).run P w = .ok u w ∧ VR M ι y u := by
  cases ag with
  | false =>
    simp at hr
    obtain ⟨u, hu, _, hv⟩ := hc j y hr
    exact ⟨u, by simp [loadVar, run_isAgg hg, hu], hv⟩
  | true =>
    simp at hr
    obtain ⟨⟨h1, h2⟩, rfl⟩ := hr
    obtain ⟨us, hvs, _, hcell⟩ := (hc.sub j n).values
    have hlen : us.length = n := by rw [← hvs.1]; simp; omega
    refine ⟨.agg us.toArray, ?_, VR.agg_iff.2 (by simpa using hvs)⟩
    have hl := run_loadCells_list (P := P) w ⟨b, o + j, none⟩ us (fun k v hk => by rw [add_none]; exact hcell k v hk)
    rw [hlen] at hl
    simp [loadVar, run_isAgg hg, run_sizeOf hn, hl]

theorem CellsOk.cell {M ι w l k} (h : CellsOk M ι w l k) (i : Nat) {e : AV} (he : k.es[i]? = some e) : Cells M (k.map ι) w l.b (i * k.esz) e.cells := by
  obtain ⟨arr, T, fz, hh, _, _, hc⟩ := h.heap
  intro j x hx
  obtain ⟨u, hu, h1, h2⟩ := hc i j e x he hx
  exact ⟨u, by rw [cell_of_heap hh]; exact hu, h1, h2⟩

theorem Blk.map_le (k : Blk) (ι : Map) : ∀ r l, k.map ι r = some l → ι r = some l := by
  intro r l h
  unfold Blk.map at h
  split at h
  · cases h
  · exact h

/-- A load through a pointer. -/
theorem load_ok {P : Program} {t : TypeId} {ag : Bool} {n : Nat} (hg : tagg P t = some ag) (hn : tsize P t = some n) {M ι g w} (hS : Sim M ι g w)
    {r : Ref} {i j : Nat} {k : Blk} {y : AV} {a : Value} (ha : VR M ι (.ptr r i j) a) (hk : g r = some k) (hr : readAt k.es i j n ag = some y) :
    ∃ u, (Instr.loadAt t a).run P w = .ok u w ∧ VR M ι y u := by
  cases ha with | ptr hl hz =>
  have hb := hS.at hl hz hk
  unfold readAt at hr
  split at hr
  · cases hr
  · rename_i e he
    obtain ⟨u, h1, h2⟩ := run_loadVar_cells hg hn (hb.cell i he) hr
    refine ⟨u, ?_, h2.mono (fun _ _ _ h => h) ι (k.map_le ι)⟩
    rw [← hb.esz] at h1
    simp [Instr.loadAt, Instr.sureAddr, h1]

theorem Cells.of_mem {M : Mem} {w : World} (hm : ∀ b o x, M b o = some x → w.cell? ⟨b, o, none⟩ = some x) {esz b o i : Nat} {es : List AV} {cell : Nat → Nat → Value}
    (h1 : ∀ i j, i < es.length → j < esz → M b (o + (i * esz + j)) = some (cell i j) ∧ (cell i j).oneCell' = true)
    (he : ∀ e ∈ es, e.cells.length = esz) (h : ∀ (i j : Nat) e x, es[i]? = some e → e.cells[j]? = some x → VR M noMap x (cell i j)) {e : AV} (hi : es[i]? = some e) : Cells M noMap w b (o + i * esz) e.cells := by
  intro j x hx
  have hj : j < esz := by
    rw [← he e (List.mem_of_getElem? hi)]
    exact (List.getElem?_eq_some_iff.1 hx).1
  have hlt : i < es.length := (List.getElem?_eq_some_iff.1 hi).1
  refine ⟨cell i j, ?_, (h1 i j hlt hj).2, h i j e x hi hx⟩
  rw [show o + i * esz + j = o + (i * esz + j) by omega]
  exact hm _ _ _ (h1 i j hlt hj).1

theorem iload_ok {P : Program} {t : TypeId} {ag : Bool} {n : Nat} (hg : tagg P t = some ag) (hn : tsize P t = some n) {M ι w} (hm : ∀ b o x, M b o = some x → w.cell? ⟨b, o, none⟩ = some x)
    {esz i j : Nat} {es : List AV} {y : AV} {a : Value} (ha : VR M ι (.iptr esz es i j) a) (hr : readAt es i j n ag = some y) :
    ∃ u, (Instr.loadAt t a).run P w = .ok u w ∧ VR M ι y u := by
  cases ha with | iptr cell h1 he h =>
  rename_i b o
  unfold readAt at hr
  split at hr
  · cases hr
  · rename_i e hi
    obtain ⟨u, h2, h3⟩ := run_loadVar_cells hg hn (Cells.of_mem hm h1 he h hi) hr
    refine ⟨u, ?_, h3.up ι⟩
    rw [show o + i * esz + j = o + (i * esz + j) by omega] at h2
    simp [Instr.loadAt, Instr.sureAddr, h2]

end Go.Ab
