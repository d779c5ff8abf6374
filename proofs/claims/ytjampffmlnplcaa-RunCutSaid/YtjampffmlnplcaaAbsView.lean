/-
  Memory that is not written from here on: what is seen of it. No statement of a seat is proved here.
-/
import Derived.Test.YtjampffmlnplcaaAbsMem2
set_option linter.unusedVariables false
set_option linter.unusedSimpArgs false
namespace Go.Ab
open Classical

def viewed (ι : Map) (g : Get) (R : List Ref) (b o : Nat) : Prop := ∃ r ∈ R, ∃ k l, g r = some k ∧ ι r = some l ∧ l.b = b ∧ o < k.es.length * k.esz

noncomputable def addM (M : Mem) (ι : Map) (g : Get) (w : World) (R : List Ref) : Mem := fun b o =>
  match M b o with
  | some x => some x
  | none => if viewed ι g R b o then w.cell? ⟨b, o, none⟩ else none

theorem addM_le {M ι g w R} : ∀ b o x, M b o = some x → addM M ι g w R b o = some x := by
  intro b o x h; simp [addM, h]

theorem addM_sound {M ι g w R} (hm : ∀ b o x, M b o = some x → w.cell? ⟨b, o, none⟩ = some x) : ∀ b o x, addM M ι g w R b o = some x → w.cell? ⟨b, o, none⟩ = some x := by
  intro b o x h
  unfold addM at h
  split at h
  · rename_i y hy; cases h; exact hm b o _ hy
  · split at h
    · exact h
    · cases h

theorem addM_cases {M ι g w R b o x} (h : addM M ι g w R b o = some x) : M b o = some x ∨ viewed ι g R b o := by
  unfold addM at h
  split at h
  · rename_i y hy; cases h; exact .inl hy
  · split at h
    · rename_i hv; exact .inr hv
    · cases h

theorem idx_lt {n esz i j : Nat} (hi : i < n) (hj : j < esz) : i * esz + j < n * esz := by
  have : (i + 1) * esz ≤ n * esz := Nat.mul_le_mul_right _ hi
  rw [Nat.add_mul] at this
  omega

/-- Of a block that is seen every cell lies in the memory that is not written. -/
theorem addM_blk {M ι g w R} (hS : Sim M ι g w) {r : Ref} {k : Blk} {l : Loc} (hr : r ∈ R) (hk : g r = some k) (hl : ι r = some l) {i j : Nat} (hi : i < k.es.length) (hj : j < k.esz) :
    ∃ u, addM M ι g w R l.b (i * k.esz + j) = some u ∧ u.oneCell' = true ∧ w.cell? ⟨l.b, i * k.esz + j, none⟩ = some u ∧
      ∀ e x, k.es[i]? = some e → e.cells[j]? = some x → VR M (k.map ι) x u := by
  obtain ⟨l', hl', hb⟩ := hS.live r k hk
  rw [hl] at hl'; cases hl'
  replace hb := hb.cellsOk (by omega)
  obtain ⟨arr, T, fz, hh, h1, h2, h3⟩ := hb.heap
  have hei : k.es[i]? = some k.es[i] := List.getElem?_eq_getElem hi
  have hcl := hb.cells k.es[i] (List.getElem_mem hi)
  have hxj : k.es[i].cells[j]? = some (k.es[i].cells[j]'(by omega)) := List.getElem?_eq_getElem _
  obtain ⟨u, hu, ho, hv⟩ := h3 i j _ _ hei hxj
  have hc : w.cell? ⟨l.b, i * k.esz + j, none⟩ = some u := by rw [cell_of_heap hh]; exact hu
  refine ⟨u, ?_, ho, hc, ?_⟩
  · unfold addM
    split
    · rename_i y hy; have := hS.mem _ _ _ hy; rw [hc] at this; cases this; rfl
    · rw [if_pos ⟨r, hr, k, l, hk, hl, rfl, idx_lt hi hj⟩]; exact hc
  · intro e x he hx
    rw [hei] at he; cases he
    rw [hxj] at hx; cases hx
    exact hv

theorem view_single {g : Get} {n : Nat} {x y : AV} (h : view g (n + 1) x = some y) (hx : ∀ cs, x ≠ .agg cs) : x.cells = [x] ∧ y.cells = [y] := by
  refine ⟨by cases x <;> first | rfl | exact absurd rfl (hx _), ?_⟩
  cases x with
  | agg cs => exact absurd rfl (hx cs)
  | v x => simp [view] at h; subst h; rfl
  | tup cs => simp only [view, Option.map_eq_some_iff] at h; obtain ⟨_, _, rfl⟩ := h; rfl
  | isl => simp [view] at h; subst h; rfl
  | iptr => simp [view] at h; subst h; rfl
  | fsl => simp [view] at h
  | osl r off len cap =>
    simp only [view] at h
    split at h
    · split at h
      · cases h; rfl
      · cases h
    · cases h
  | ptr r i j =>
    simp only [view] at h
    split at h
    · split at h
      · cases h; rfl
      · simp only [Option.map_eq_some_iff] at h; obtain ⟨_, _, rfl⟩ := h; rfl
    · cases h
  | fn f a b =>
    simp only [view] at h
    split at h
    · cases h; rfl
    · cases h
  | ifc t x => simp only [view, Option.map_eq_some_iff] at h; obtain ⟨_, _, rfl⟩ := h; rfl
  | yld => simp [view] at h
  | mp => simp [view] at h
  | lp => simp [view] at h

/-- The cells of what is seen are what is seen of the cells. -/
theorem view_cells {g : Get} {n : Nat} {e e' : AV} (h : view g (n + 1) e = some e') :
    e'.cells.length = e.cells.length ∧ ∀ (j : Nat) x', e'.cells[j]? = some x' → ∃ m x, m ≤ n + 1 ∧ e.cells[j]? = some x ∧ view g m x = some x' ∧ ∀ r ∈ viewRefs g m x, r ∈ viewRefs g (n + 1) e := by
  by_cases hx : ∃ cs, e = .agg cs
  · obtain ⟨cs, rfl⟩ := hx
    simp only [view, Option.map_eq_some_iff] at h
    obtain ⟨ys, hys, rfl⟩ := h
    refine ⟨by simp [AV.cells, mapM_len hys], ?_⟩
    intro j x' hj
    obtain ⟨x, hx, hf⟩ := mapM_at hys j x' (by simpa [AV.cells] using hj)
    refine ⟨n, x, by omega, by simpa [AV.cells] using hx, hf, ?_⟩
    intro r hr
    simp only [viewRefs, List.mem_flatMap]
    exact ⟨x, List.mem_of_getElem? hx, hr⟩
  · obtain ⟨h1, h2⟩ := view_single h (fun cs hc => hx ⟨cs, hc⟩)
    refine ⟨by rw [h1, h2]; rfl, ?_⟩
    intro j x' hj
    rw [h2] at hj
    cases j with
    | zero =>
      simp at hj
      subst hj
      exact ⟨n + 1, e, Nat.le_refl _, by rw [h1]; rfl, h, fun r hr => hr⟩
    | succ j => simp at hj

theorem view_ok {M ι g w R} (hS : Sim M ι g w) : ∀ (n : Nat) (x y : AV) (u : Value), view g n x = some y → (∀ r ∈ viewRefs g n x, r ∈ R) → VR M ι x u → VR (addM M ι g w R) noMap y u := by
  intro n
  induction n using Nat.strongRecOn with | ind n ih =>
  intro x y u h hR hv
  cases n with
  | zero => simp [view] at h
  | succ n =>
    have lists : ∀ {cs ys : List AV} {us : List Value}, cs.mapM (view g n) = some ys → (∀ r ∈ cs.flatMap (viewRefs g n), r ∈ R) → VRs M ι cs us → VRs (addM M ι g w R) noMap ys us := by
      intro cs ys us hys hR hvs
      refine ⟨by rw [mapM_len hys]; exact hvs.1, fun i y' u hy hu => ?_⟩
      obtain ⟨x, hx, hf⟩ := mapM_at hys i y' hy
      exact ih n (by omega) x y' u hf (fun r hr => hR r (List.mem_flatMap.2 ⟨x, List.mem_of_getElem? hx, hr⟩)) (hvs.2 i x u hx hu)
    cases x with
    | v x => simp [view] at h; subst h; cases hv with | v hs => exact .v hs
    | agg cs =>
      simp only [view, Option.map_eq_some_iff] at h
      obtain ⟨ys, hys, rfl⟩ := h
      cases hv with | agg hl hh =>
      exact VR.agg_iff.2 (lists hys (by simpa [viewRefs] using hR) (VR.agg_iff.1 (.agg hl hh)))
    | tup cs =>
      simp only [view, Option.map_eq_some_iff] at h
      obtain ⟨ys, hys, rfl⟩ := h
      cases hv with | tup h0 hl hh =>
      rename_i vs
      have := lists (us := vs.toList) hys (by simpa [viewRefs] using hR) ⟨by simpa using hl, fun i x u hx hu => hh i x u hx (by simpa using hu)⟩
      refine .tup ?_ (by simpa using this.1) fun i c u hc hu => this.2 i c u hc (by simpa using hu)
      intro e
      subst e
      have h1 := mapM_len hys
      exact h0 (List.eq_nil_of_length_eq_zero (by simpa using h1.symm))
    | isl esz es cap =>
      simp [view] at h; subst h
      cases hv with | isl cell hs hc hk hm he hh =>
      exact (VR.isl (M := M) (ι := noMap) cell hs hc hk hm he hh).mono addM_le _ (fun _ _ h => h)
    | iptr esz es i j =>
      simp [view] at h; subst h
      cases hv with | iptr cell hm he hh =>
      exact (VR.iptr (M := M) (ι := noMap) cell hm he hh).mono addM_le _ (fun _ _ h => h)
    | fsl => simp [view] at h
    | osl r off len cap =>
      simp only [view] at h
      split at h
      · rename_i k hk
        split at h
        · rename_i hh
          cases h
          obtain ⟨harr, hlen⟩ := hh
          cases hv with | osl hr hb hs ha hc hn hkk hzl =>
          rename_i l a c
          have hrR : r ∈ R := hR r (by simp [viewRefs])
          have hbk := hS.at hr hzl hk
          have hll : ((k.es.drop off).take len).length = len := by simp; omega
          have hat : ∀ i, i < len → ((k.es.drop off).take len)[i]? = k.es[off + i]? := by
            intro i hi
            rw [List.getElem?_take, if_pos hi, List.getElem?_drop]
          have haddr : 0 < len → a.off = off * k.esz := by
            intro h0
            rcases ha with h | h
            · omega
            · rw [h, hbk.esz]
          have key : ∀ i j, i < len → j < k.esz → ∃ u, addM M ι g w R a.block (a.off + (i * k.esz + j)) = some u ∧ u.oneCell' = true ∧ ∀ e x, k.es[off + i]? = some e → e.cells[j]? = some x → VR M (k.map ι) x u := by
            intro i j hi hj
            obtain ⟨u, h1, h2, _, h3⟩ := addM_blk hS hrR hk hr (i := off + i) (j := j) (by omega) hj
            refine ⟨u, ?_, h2, h3⟩
            rw [haddr (by omega), hb, show off * k.esz + (i * k.esz + j) = (off + i) * k.esz + j by rw [Nat.add_mul]; omega]
            exact h1
          let cell : Nat → Nat → Value := fun i j => (addM M ι g w R a.block (a.off + (i * k.esz + j))).getD undef
          have := VR.isl (M := addM M ι g w R) (ι := noMap) (esz := k.esz) (es := (k.es.drop off).take len) (cap := cap) (a := a) (c := c) cell (.inl hs) (by omega) hkk
            (by
              intro i j hi hj
              rw [hll] at hi
              obtain ⟨u, h1, h2, _⟩ := key i j hi hj
              simp [cell, h1, h2])
            (by
              intro e he
              exact hbk.cells e (List.mem_of_mem_drop (List.mem_of_mem_take he)))
            (by
              intro i j e x hi hx
              have hi' : i < len := by have := (List.getElem?_eq_some_iff.1 hi).1; omega
              rw [hat i hi'] at hi
              have hj : j < k.esz := by
                rw [← hbk.cells e (List.mem_of_getElem? hi)]
                exact (List.getElem?_eq_some_iff.1 hx).1
              obtain ⟨u, h1, h2, h3⟩ := key i j hi' hj
              have := h3 e x hi hx
              rw [Blk.map, if_pos harr] at this
              simp only [cell, h1, Option.getD_some]
              exact this.mono addM_le _ (fun _ _ h => h))
          rw [hll] at this
          exact this
        · cases h
      · cases h
    | ptr r i j =>
      cases hv with | ptr hr hzl =>
      rename_i l
      simp only [view] at h
      split at h
      · rename_i k hk
        have hrR : r ∈ R := hR r (by simp [viewRefs])
        have hbk := hS.at hr hzl hk
        let cell : Nat → Nat → Value := fun i j => (addM M ι g w R l.b (0 + (i * k.esz + j))).getD undef
        have hcell : ∀ i j, i < k.es.length → j < k.esz → addM M ι g w R l.b (0 + (i * k.esz + j)) = some (cell i j) ∧ (cell i j).oneCell' = true ∧ ∀ e x, k.es[i]? = some e → e.cells[j]? = some x → VR M (k.map ι) x (cell i j) := by
          intro i j hi hj
          obtain ⟨u, h1, h2, _, h3⟩ := addM_blk hS hrR hk hr hi hj
          rw [Nat.zero_add] at *
          simp only [cell, Nat.zero_add, h1, Option.getD_some]
          exact ⟨trivial, h2, h3⟩
        split at h
        · rename_i harr
          cases h
          have := VR.iptr (M := addM M ι g w R) (ι := noMap) (esz := k.esz) (es := k.es) (i := i) (j := j) (b := l.b) (o := 0) cell (fun i j hi hj => ⟨(hcell i j hi hj).1, (hcell i j hi hj).2.1⟩) hbk.cells
            (by
              intro i j e x hi hx
              have hi' := (List.getElem?_eq_some_iff.1 hi).1
              have hj : j < k.esz := by
                rw [← hbk.cells e (List.mem_of_getElem? hi)]
                exact (List.getElem?_eq_some_iff.1 hx).1
              have := (hcell i j hi' hj).2.2 e x hi hx
              rw [Blk.map, if_pos harr] at this
              exact this.mono addM_le _ (fun _ _ h => h))
          rw [Nat.zero_add] at this
          rw [hbk.esz]
          exact this
        · rename_i harr
          simp only [Option.map_eq_some_iff] at h
          obtain ⟨es', hes, rfl⟩ := h
          cases n with
          | zero =>
            cases hke : k.es with
            | nil =>
              rw [hke] at hes
              simp at hes
              subst hes
              have := VR.iptr (M := addM M ι g w R) (ι := noMap) (esz := k.esz) (es := []) (i := i) (j := j) (b := l.b) (o := 0) cell (by intro i j hi; simp at hi) (by simp) (by intro i j e x hi; simp at hi)
              rw [Nat.zero_add] at this
              rw [hbk.esz]
              exact this
            | cons e es =>
              rw [hke] at hes
              simp [view] at hes
          | succ n =>
            have hlen := mapM_len hes
            have := VR.iptr (M := addM M ι g w R) (ι := noMap) (esz := k.esz) (es := es') (i := i) (j := j) (b := l.b) (o := 0) cell
              (fun i j hi hj => ⟨(hcell i j (hlen ▸ hi) hj).1, (hcell i j (hlen ▸ hi) hj).2.1⟩)
              (by
                intro e' he'
                obtain ⟨i', hi', rfl⟩ := List.getElem_of_mem he'
                obtain ⟨e, he, hf⟩ := mapM_at hes i' _ (List.getElem?_eq_getElem hi')
                rw [(view_cells hf).1]
                exact hbk.cells e (List.mem_of_getElem? he))
              (by
                intro i' j' e' x' hi' hx'
                obtain ⟨e, he, hf⟩ := mapM_at hes i' e' hi'
                obtain ⟨m, x, hm, hx, hfx, hsub⟩ := (view_cells hf).2 j' x' hx'
                have hlt := (List.getElem?_eq_some_iff.1 he).1
                have hj : j' < k.esz := by
                  rw [← hbk.cells e (List.mem_of_getElem? he)]
                  exact (List.getElem?_eq_some_iff.1 hx).1
                have hvx := (hcell i' j' hlt hj).2.2 e x he hx
                rw [Blk.map, if_neg harr] at hvx
                refine ih m (by omega) x x' _ hfx ?_ hvx
                intro r' hr'
                refine hR r' ?_
                simp only [viewRefs, hk, if_neg harr, List.mem_cons, List.mem_flatMap]
                exact .inr ⟨e, List.mem_of_getElem? he, hsub r' hr'⟩)
            rw [Nat.zero_add] at this
            rw [hbk.esz]
            exact this
      · cases h
    | fn f a b =>
      simp only [view] at h
      split at h
      · rename_i a' b' ha' hb'
        cases h
        cases hv with | fn hla hlb hha hhb =>
        rename_i va vb
        simp only [viewRefs, List.mem_append] at hR
        have h1 := lists (us := va.toList) ha' (fun r hr => hR r (.inl hr)) ⟨by simpa using hla, fun i x u hx hu => hha i x u hx (by simpa using hu)⟩
        have h2 := lists (us := vb.toList) hb' (fun r hr => hR r (.inr hr)) ⟨by simpa using hlb, fun i x u hx hu => hhb i x u hx (by simpa using hu)⟩
        exact .fn (by simpa using h1.1) (by simpa using h2.1) (fun i c u hc hu => h1.2 i c u hc (by simpa using hu)) (fun i c u hc hu => h2.2 i c u hc (by simpa using hu))
      · cases h
    | ifc t x =>
      simp only [view, Option.map_eq_some_iff] at h
      obtain ⟨y, hy, rfl⟩ := h
      cases hv with | ifc hv =>
      exact .ifc (ih n (by omega) x y _ hy (by simpa [viewRefs] using hR) hv)
    | yld => simp [view] at h
    | mp => simp [view] at h
    | lp => simp [view] at h

/- ## Blocks that are not written from here on -/

def frzG (g : Get) (R : List Ref) : Get := fun r => if r ∈ R then (g r).map fun k => { k with frz := true } else g r

theorem frz_ok {M ι g w R} (hS : Sim M ι g w) : Sim (addM M ι g w R) ι (frzG g R) w ∧ Fwd M ι g w (addM M ι g w R) ι (frzG g R) w := by
  have back : ∀ {r k}, frzG g R r = some k → ∃ k0, g r = some k0 ∧ k = { k0 with frz := k.frz } ∧ (r ∈ R → k.frz = true) ∧ (k0.frz = true → k.frz = true) := by
    intro r k h
    unfold frzG at h
    split at h
    · simp only [Option.map_eq_some_iff] at h
      obtain ⟨k0, hk0, rfl⟩ := h
      exact ⟨k0, hk0, rfl, fun _ => rfl, fun _ => rfl⟩
    · rename_i hr
      exact ⟨k, h, rfl, fun h' => absurd h' hr, fun h => h⟩
  refine ⟨⟨addM_sound hS.mem, ?_, ?_⟩, ⟨rfl, rfl, rfl, Nat.le_refl _, fun _ _ _ => rfl, addM_le, fun _ _ h => h, ?_, ?_⟩⟩
  · intro r k h
    obtain ⟨k0, h0, hk, hr, hm⟩ := back h
    obtain ⟨l, hl, hb⟩ := hS.live r k0 h0
    refine ⟨l, hl, ?_⟩
    have h1 : k.es = k0.es := by rw [hk]
    have h2 : k.esz = k0.esz := by rw [hk]
    have h3 : k.arr = k0.arr := by rw [hk]
    have hfrz : ∀ o x, addM M ι g w R l.b o = some x → k.frz = true ∧ o < k.es.length * k.esz := by
      intro o x hx
      rw [h1, h2]
      rcases addM_cases hx with h | ⟨r', hr', k', l', hg', hl', hb', ho⟩
      · exact ⟨hm (hb.frozen o x h).1, (hb.frozen o x h).2⟩
      · have e := hS.inj r' r k' k0 l' l hg' h0 hl' hl hb'
        subst e
        rw [h0] at hg'; cases hg'
        exact ⟨hr hr', ho⟩
    refine ⟨by rw [h2]; exact hb.esz, fun hz => ?_, fun hz => ?_, hfrz⟩
    · replace hb := hb.cellsOk (by rw [← h2]; exact hz)
      obtain ⟨arr, T, fz, hh, h4, h5, h6⟩ := hb.heap
      refine ⟨by rw [h2]; exact hb.esz, ⟨arr, T, fz, hh, by rw [h2]; exact h4, h5, ?_⟩, by rw [h1]; exact hb.len, by rw [h1, h2]; exact hb.cells, hfrz⟩
      intro i j e x he hx
      rw [h1] at he
      rw [h2]
      obtain ⟨u, hu, ho, hv⟩ := h6 i j e x he hx
      refine ⟨u, hu, ho, ?_⟩
      have : k.map ι = k0.map ι := by unfold Blk.map; rw [h3]
      rw [this]
      exact hv.mono addM_le _ (fun _ _ h => h)
    · exact ((hb.objOk (by rw [← h2]; exact hz)).mono (M' := addM M ι g w R) addM_le (fun _ _ h => h) rfl).same h2 h3 h1
  · intro r r' k k' l l' h h' hl hl' hb
    obtain ⟨k0, h0, _⟩ := back h
    obtain ⟨k1, h1, _⟩ := back h'
    exact hS.inj r r' _ _ l l' h0 h1 hl hl' hb
  · intro r k l h hl
    obtain ⟨k0, h0, _⟩ := back h
    exact .inr ⟨r, k0, l, h0, hl, rfl⟩
  · intro b o x hx
    rcases addM_cases hx with h | ⟨r', hr', k', l', hg', hl', hb', ho⟩
    · exact .inl h
    · exact .inr (.inr ⟨r', k', l', hg', hl', hb'⟩)

theorem frzG_all {g : Get} {R : List Ref} (h : allFrz g R = true) : frzG g R = g := by
  funext r
  unfold frzG
  split
  · rename_i hr
    simp only [allFrz, List.all_eq_true] at h
    have := h r hr
    cases hg : g r with
    | none => rfl
    | some k =>
      rw [hg] at this
      simp at this
      simp [← this]
  · rfl

end Go.Ab
