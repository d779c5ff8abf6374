/-
  What the abstract machine's quiet operations give is what the model's give: the third part. No statement of a seat is proved here.
-/
import Derived.Test.YtjampffmlnplcaaAbsOps2
set_option linter.unusedVariables false
set_option linter.unusedSimpArgs false
namespace Go.Ab

section
variable {P : Program} {M : Mem} {ι : Map} {g : Get} {w : World} {r : Ref}

/- ## Elements that are read -/

/-- Where the elements of a slice or a string stand, in every world whose memory is w's. -/
structure Src (P : Program) (M : Mem) (w : World) (u : Value) (z : Nat) (es : List AV) (us : List Value) : Prop where
  len : us.length = es.length * z
  els : ∀ e ∈ es, e.cells.length = z
  one : ∀ x ∈ us, x.oneCell' = true
  vr : ∀ (i j : Nat) e x, es[i]? = some e → e.cells[j]? = some x → ∃ u, us[i * z + j]? = some u ∧ VR M noMap x u
  lenOf : ∀ w' : World, (Builtin.lenOf u).run P w' = .ok es.length w'
  first : ∀ (n : Nat) (w' : World), n ≤ es.length → w'.heap = w.heap → (Builtin.firstCells z n u).run P w' = .ok (us.take (n * z)).toArray w'

theorem rows_flat {es : List AV} {z : Nat} (h : ∀ e ∈ es, e.cells.length = z) (cell : Nat → Nat → Value) :
    ∃ us : List Value, us.length = es.length * z ∧ ∀ i j, i < es.length → j < z → us[i * z + j]? = some (cell i j) := by
  refine ⟨(List.range (es.length * z)).map fun k => cell (k / z) (k % z), by simp, ?_⟩
  intro i j hi hj
  have hz : 0 < z := by omega
  have := idx_lt hi hj
  rw [List.getElem?_map, List.getElem?_range this]
  simp only [Option.map_some, Option.some.injEq]
  rw [Nat.mul_comm i z, Nat.mul_add_div hz, Nat.div_eq_of_lt hj, Nat.mul_add_mod, Nat.mod_eq_of_lt hj, Nat.add_zero]

/-- A row of elements in memory, as a source. -/
theorem src_row {es : List AV} {z : Nat} (hels : ∀ e ∈ es, e.cells.length = z) (hz : 0 < z ∨ es = []) {a : Addr} {c : Nat} (hs : a.spot = none ∨ es = []) (cell : Nat → Nat → Value)
    (hc : ∀ i j, i < es.length → j < z → w.cell? ⟨a.block, a.off + (i * z + j), none⟩ = some (cell i j) ∧ (cell i j).oneCell' = true)
    (hv : ∀ (i j : Nat) e x, es[i]? = some e → e.cells[j]? = some x → VR M noMap x (cell i j)) : ∃ us, Src P M w (.slice (some a) es.length c) z es us := by
  obtain ⟨us, h1, h2⟩ := rows_flat hels cell
  have hdiv : ∀ k, k < us.length → 0 < z ∧ k / z < es.length ∧ k % z < z ∧ k / z * z + k % z = k := by
    intro k hk
    rw [h1] at hk
    have hz' : 0 < z := by
      rcases hz with h | h
      · exact h
      · subst h; simp at hk
    exact ⟨hz', (Nat.div_lt_iff_lt_mul hz').2 hk, Nat.mod_lt _ hz', by rw [Nat.mul_comm]; exact Nat.div_add_mod k z⟩
  refine ⟨us, h1, hels, ?_, ?_, fun w' => by simp [Builtin.lenOf], ?_⟩
  · intro x hx
    obtain ⟨k, hk, hkx⟩ := List.getElem_of_mem hx
    obtain ⟨hz', ha, hb, e⟩ := hdiv k hk
    have := h2 _ _ ha hb
    rw [e, List.getElem?_eq_getElem hk, hkx] at this
    injection this with this
    rw [this]
    exact (hc _ _ ha hb).2
  · intro i j e x he hx
    have hi := (List.getElem?_eq_some_iff.1 he).1
    have hj : j < z := by
      rw [← hels e (List.mem_of_getElem? he)]
      exact (List.getElem?_eq_some_iff.1 hx).1
    exact ⟨cell i j, h2 i j hi hj, hv i j e x he hx⟩
  · intro n w' hn hw'
    have hle : n * z ≤ us.length := by rw [h1]; exact Nat.mul_le_mul_right _ hn
    refine run_firstCells_some (P := P) w' z n a es.length c (us.take (n * z)) (by simp; omega) ?_
    intro j v hj
    rw [List.getElem?_take] at hj
    split at hj
    · rename_i hlt
      obtain ⟨hz', ha, hb, e⟩ := hdiv j (by omega)
      have := h2 _ _ ha hb
      rw [e, hj] at this
      cases this
      have hs := hs.resolve_right (by intro e; subst e; simp at ha)
      rw [addr_eta hs, add_none]
      have := (hc _ _ ha hb).1
      rw [e] at this
      rw [World.cell?_of_block (w := w) (by rw [hw'])]
      exact this
    · cases hj

theorem getElems (es : List AV) (off len : Nat) (hl : off + len ≤ es.length) : ((es.drop off).take len).length = len ∧ ∀ i, i < len → ((es.drop off).take len)[i]? = es[off + i]? :=
  ⟨by simp; omega, fun i hi => by rw [List.getElem?_take, if_pos hi, List.getElem?_drop]⟩

theorem elemsOf_ok (hS : Sim M ι g w) {x : AV} {u : Value} (hx : VR M ι x u) {z : Nat} {es : List AV} (hz : 0 < z) (h : elemsOf g x = some (z, es)) : ∃ us, Src P M w u z es us := by
  unfold elemsOf at h
  split at h
  · rename_i s
    cases h
    cases hx
    refine ⟨s.data.toList.map fun b => .int .u8 b.toNat, ?_, ?_, ?_, ?_, ?_, ?_⟩
    · simp
    · intro e he
      simp only [List.mem_map] at he
      obtain ⟨b, _, rfl⟩ := he
      rfl
    · intro x hx
      simp only [List.mem_map] at hx
      obtain ⟨b, _, rfl⟩ := hx
      rfl
    · intro i j e x he hx
      simp only [List.getElem?_map, Option.map_eq_some_iff] at he
      obtain ⟨b, hb, rfl⟩ := he
      cases j with
      | succ j => simp [AV.cells] at hx
      | zero =>
        simp [AV.cells] at hx
        subst hx
        exact ⟨.int .u8 b.toNat, by simp [hb], .v rfl⟩
    · intro w'
      simp only [Builtin.lenOf, Sem.run_pure, List.length_map, Array.length_toList]
      rfl
    · intro n w' hn hw'
      simp only [Builtin.firstCells, Nat.mul_one, Sem.run_pure]
      congr 1
      apply Array.ext'
      simp only [Array.toList_map, ByteArray.data_extract, Array.toList_extract]
      rw [List.extract_eq_take_drop]
      simp [List.map_take]
  · rename_i esz es' cap
    cases h
    cases hx with | isl cell hs hc hk hm he hh =>
    rename_i a c
    exact src_row he (.inl hz) hs cell (fun i j hi hj => ⟨hS.mem _ _ _ (hm i j hi hj).1, (hm i j hi hj).2⟩) hh
  · rename_i r' off len cap
    split at h
    · rename_i b hb
      split at h
      · rename_i hc
        cases h
        obtain ⟨harr, hlen⟩ := hc
        cases hx with | osl hr hbb hs ha hcc hn hk hzl =>
        rename_i l a c
        have hbk := hS.at hr hzl hb
        obtain ⟨h1, h2⟩ := getElems b.es off len hlen
        have haddr : 0 < len → a.off = off * b.esz := by
          intro h0
          rcases ha with h | h
          · omega
          · rw [h, hbk.esz]
        have key : ∀ i j, i < len → j < b.esz → ∃ u, w.cell? ⟨a.block, a.off + (i * b.esz + j), none⟩ = some u ∧ u.oneCell' = true ∧ ∀ e x, b.es[off + i]? = some e → e.cells[j]? = some x → VR M noMap x u := by
          intro i j hi hj
          have he : b.es[off + i]? = some b.es[off + i] := List.getElem?_eq_getElem (by omega)
          have hcl := hbk.cells b.es[off + i] (List.getElem_mem _)
          obtain ⟨u, hu, h1, h2⟩ := hbk.cell (off + i) he j _ (List.getElem?_eq_getElem (by omega : j < b.es[off + i].cells.length))
          refine ⟨u, ?_, h1, ?_⟩
          · rw [haddr (by omega), hbb, show off * b.esz + (i * b.esz + j) = (off + i) * b.esz + j by rw [Nat.add_mul]; omega]
            exact hu
          · intro e x he' hx'
            rw [he] at he'; cases he'
            rw [List.getElem?_eq_getElem (by omega : j < b.es[off + i].cells.length)] at hx'; cases hx'
            rw [Blk.map, if_pos harr] at h2
            exact h2
        let cell : Nat → Nat → Value := fun i j => (w.cell? ⟨a.block, a.off + (i * b.esz + j), none⟩).getD undef
        have := src_row (P := P) (M := M) (w := w) (es := (b.es.drop off).take len) (z := b.esz) (a := a) (c := c)
          (by intro e he; exact hbk.cells e (List.mem_of_mem_drop (List.mem_of_mem_take he))) (.inl hz) (.inl hs) cell
          (by
            intro i j hi hj
            rw [h1] at hi
            obtain ⟨u, h3, h4, _⟩ := key i j hi hj
            simp [cell, h3, h4])
          (by
            intro i j e x he hx
            have hi : i < len := by have := (List.getElem?_eq_some_iff.1 he).1; omega
            rw [h2 i hi] at he
            have hj : j < b.esz := by
              rw [← hbk.cells e (List.mem_of_getElem? he)]
              exact (List.getElem?_eq_some_iff.1 hx).1
            obtain ⟨u, h3, h4, h5⟩ := key i j hi hj
            simp only [cell, h3, Option.getD_some]
            exact h5 e x he hx)
        rw [h1] at this
        exact this
      · cases h
    · cases h
  · cases h

/- ## Slices of slices -/
inductive OptI : Option Value → Option Int → Prop
  | none : OptI none none
  | some (k n) : OptI (some (.int k n)) (some n)

theorem optInt_ok {tm : List AV} {a : Act} (h : TR M ι tm a) {o : Option Operand} {x : Option Int} (hx : optInt tm o = some x) : OptI (o.map a.eval) x := by
  cases o with
  | none => simp only [optInt, Option.some.injEq] at hx; subst hx; exact .none
  | some o =>
    simp only [optInt] at hx
    split at hx
    · rename_i n hn
      injection hx with hx
      subst hx
      simp only [Option.bind_eq_some_iff] at hn
      obtain ⟨y, hy, hi⟩ := hn
      obtain ⟨k, hk⟩ := intOf_ok (evalO_ok h hy) hi
      rw [Option.map_some, hk]
      exact .some k n
    · cases hx

/-- The bounds, where they fit. -/
theorem bounds_ok {len c : Nat} {cap : Option Nat} (hlc : len ≤ c) (hk : ∀ k, cap = some k → c = k) {lo hi mx : Option Int} {l h : Nat} {c' : Option Nat} (hb : bounds len cap lo hi mx = some (l, h, c'))
    {vlo vhi vmx : Option Value} (h1 : OptI vlo lo) (h2 : OptI vhi hi) (h3 : OptI vmx mx) :
    l ≤ h ∧ h ≤ len ∧ ∃ m, h ≤ m ∧ m ≤ c ∧ (∀ k, c' = some k → m - l = k) ∧ (Instr.sliceBounds true len c vlo vhi vmx).run P w = .ok (l, h, m) w := by
  have bd : ∀ (k : IntKind) (i : Int) (y : Nat) (code : BoundsCode), 0 ≤ i → i ≤ y → (Instr.sliceBound (.int k i) y code).run P w = .ok i.toNat w := fun k i y code => run_sliceBound w k i y code
  cases h3 with
  | some km m =>
    cases h2 with
    | none => simp [bounds] at hb
    | some kh hh =>
      simp only [bounds] at hb
      obtain ⟨⟨c1, c2, c3, c4, c5⟩, hb⟩ := Option.ite_none_right_eq_some.1 hb
      simp only [Option.some.injEq, Prod.mk.injEq] at hb
      obtain ⟨rfl, rfl, rfl⟩ := hb
      have hmc : m ≤ c := by
        cases cap with
        | none => simp at c4; omega
        | some k => have := hk k rfl; simp at c4; omega
      have em : ((m.toNat : Nat) : Int) = m := Int.toNat_of_nonneg (by omega)
      have eh : ((hh.toNat : Nat) : Int) = hh := Int.toNat_of_nonneg (by omega)
      refine ⟨by omega, by omega, m.toNat, by omega, by omega, by intro k hk'; cases hk'; rfl, ?_⟩
      cases h1 with
      | none =>
        simp only [Option.getD_none] at c1 c2
        simp only [Instr.sliceBounds, Sem.run_bind, bd km m c _ (by omega) (by omega), Result.andThen_ok, bd kh hh m.toNat _ (by omega) (by omega), Sem.run_pure, Option.getD_none]
        rfl
      | some kl ll =>
        simp only [Option.getD_some] at c1 c2
        simp only [Instr.sliceBounds, Sem.run_bind, bd km m c _ (by omega) (by omega), Result.andThen_ok, bd kh hh m.toNat _ (by omega) (by omega), bd kl ll hh.toNat _ (by omega) (by omega), Sem.run_pure, Option.getD_some]
  | none =>
    simp only [bounds] at hb
    obtain ⟨⟨c1, c2, c3⟩, hb⟩ := Option.ite_none_right_eq_some.1 hb
    simp only [Option.some.injEq, Prod.mk.injEq] at hb
    obtain ⟨rfl, rfl, rfl⟩ := hb
    refine ⟨by omega, by omega, c, by omega, Nat.le_refl _, ?_, ?_⟩
    · intro k hk'
      simp only [Option.map_eq_some_iff] at hk'
      obtain ⟨k0, hk0, rfl⟩ := hk'
      rw [hk k0 hk0]
    · cases h2 with
      | none =>
        simp only [Option.getD_none] at c2 c3 ⊢
        cases h1 with
        | none => simp [Instr.sliceBounds]
        | some kl ll =>
          simp only [Option.getD_some] at c1 c2 ⊢
          simp only [Instr.sliceBounds, Sem.run_bind, Sem.run_pure, Result.andThen_ok, bd kl ll len _ (by omega) (by omega)]
          simp
      | some kh hh =>
        simp only [Option.getD_some] at c2 c3 ⊢
        have eh : ((hh.toNat : Nat) : Int) = hh := Int.toNat_of_nonneg (by omega)
        cases h1 with
        | none =>
          simp only [Option.getD_none] at c1 c2 ⊢
          simp only [Instr.sliceBounds, Sem.run_bind, Sem.run_pure, Result.andThen_ok, bd kh hh c _ (by omega) (by omega)]
          simp
        | some kl ll =>
          simp only [Option.getD_some] at c1 c2 ⊢
          simp only [Instr.sliceBounds, Sem.run_bind, Sem.run_pure, Result.andThen_ok, bd kh hh c _ (by omega) (by omega), bd kl ll hh.toNat _ (by omega) (by omega)]

/-- A slice's new address. -/
theorem sliced_addr {a : Addr} {l m s : Nat} (hs : a.spot = none) : (if m = l then some a else some (a.add (l * s))) = some (if m = l then a else a.add (l * s)) := by split <;> rfl

theorem run_slice_of {t e : TypeId} (hu : P.underlying t = some (.slice e)) {s : Nat} (hs : tsize P e = some s) {a : Option Addr} {len c l h m : Nat} {vlo vhi vmx : Option Value}
    (hb : (Instr.sliceBounds true len c vlo vhi vmx).run P w = .ok (l, h, m) w) :
    (Instr.sliceAt t (.slice a len c) vlo vhi vmx).run P w = .ok (.slice (if m = l then a else a.map (·.add (l * s))) (h - l) (m - l)) w := by
  simp [Instr.sliceAt, run_und hu, Instr.slice, hb, run_sizeOf hs]

theorem qSlice_ok (hS : Sim M ι g w) {t : TypeId} {y x : AV} {u0 : Value} (hy : VR M ι y u0) {lo hi mx : Option Int} {vlo vhi vmx : Option Value}
    (h1 : OptI vlo lo) (h2 : OptI vhi hi) (h3 : OptI vmx mx)
    {bs : List Blk} (h : qSlice P g t (some y) (some lo) (some hi) (some mx) = some (x, bs)) :
    bs = [] ∧ ∃ u, (Instr.sliceAt t u0 vlo vhi vmx).run P w = .ok u w ∧ VR M ι x u := by
  simp only [qSlice] at h
  split at h
  · -- nil
    rename_i e
    cases e
    cases hy
    obtain ⟨ht, h⟩ := Option.ite_none_right_eq_some.1 h
    simp only [Option.map_eq_some_iff] at h
    obtain ⟨⟨l, hh, c'⟩, hb, e⟩ := h
    cases e
    obtain ⟨s, hs⟩ := Option.isSome_iff_exists.1 ht
    simp only [Option.bind_eq_some_iff] at hs
    obtain ⟨e, he, hs⟩ := hs
    obtain ⟨b1, b2, m, b3, b4, b5, b6⟩ := bounds_ok (P := P) (w := w) (Nat.le_refl 0) (by intro k hk; cases hk; rfl) hb h1 h2 h3
    have e1 : l = 0 := by omega
    have e2 : hh = 0 := by omega
    have e3 : m = 0 := by omega
    subst e1; subst e2; subst e3
    exact ⟨rfl, _, run_slice_of (telem_ok he) hs b6, .v rfl⟩
  · -- a string
    rename_i s e
    cases e
    cases hy
    obtain ⟨ht, h'⟩ := Option.ite_none_right_eq_some.1 h
    clear h
    simp only [Bool.and_eq_true, Option.isNone_iff_eq_none] at ht
    obtain ⟨ht, rfl⟩ := ht
    cases h3
    obtain ⟨⟨l, hh, c'⟩, hb, e⟩ := Option.map_eq_some_iff.1 h'
    cases e
    have hu := isStr_ok ht
    have bd : ∀ (k : IntKind) (i : Int) (y : Nat) (code : BoundsCode), 0 ≤ i → i ≤ y → (Instr.sliceBound (.int k i) y code).run P w = .ok i.toNat w := fun k i y code => run_sliceBound w k i y code
    simp only [bounds] at hb
    obtain ⟨⟨c1, c2, c3⟩, hb⟩ := Option.ite_none_right_eq_some.1 hb
    simp only [Option.some.injEq, Prod.mk.injEq] at hb
    obtain ⟨rfl, rfl, rfl⟩ := hb
    refine ⟨rfl, .string (s.extract (lo.getD 0).toNat (hi.getD s.size).toNat), ?_, .v rfl⟩
    cases h2 with
    | none =>
      simp only [Option.getD_none] at c2 c3; try simp only [Option.getD_none, Option.getD_some]
      cases h1 with
      | none => simp [Instr.sliceAt, run_und hu, Instr.slice, Instr.sliceBounds]
      | some kl ll =>
        simp only [Option.getD_some] at c1 c2; try simp only [Option.getD_none, Option.getD_some]
        simp [Instr.sliceAt, run_und hu, Instr.slice, Instr.sliceBounds, bd kl ll s.size _ c1 c2]
    | some kh hh =>
      simp only [Option.getD_some] at c2 c3; try simp only [Option.getD_none, Option.getD_some]
      have eh : ((hh.toNat : Nat) : Int) = hh := Int.toNat_of_nonneg (by omega)
      cases h1 with
      | none =>
        simp only [Option.getD_none] at c1 c2; try simp only [Option.getD_none, Option.getD_some]
        simp [Instr.sliceAt, run_und hu, Instr.slice, Instr.sliceBounds, bd kh hh s.size _ c2 c3]
      | some kl ll =>
        simp only [Option.getD_some] at c1 c2; try simp only [Option.getD_none, Option.getD_some]
        simp [Instr.sliceAt, run_und hu, Instr.slice, Instr.sliceBounds, bd kh hh s.size _ (by omega) c3, bd kl ll hh.toNat _ c1 (by omega)]
  · -- a slice of memory that nobody writes
    rename_i esz es cap e
    cases e
    obtain ⟨ht, h⟩ := Option.ite_none_right_eq_some.1 h
    simp only [Option.map_eq_some_iff] at h
    obtain ⟨⟨l, hh, c'⟩, hb, e⟩ := h
    cases e
    simp only [Option.bind_eq_some_iff] at ht
    obtain ⟨e, he, hs⟩ := ht
    cases hy with | isl cell hsp hc hk hm hes hh' =>
    rename_i a c
    obtain ⟨b1, b2, m, b3, b4, b5, b6⟩ := bounds_ok (P := P) (w := w) hc hk hb h1 h2 h3
    refine ⟨rfl, _, run_slice_of (telem_ok he) hs b6, ?_⟩
    obtain ⟨g1, g2⟩ := getElems es l (hh - l) (by omega)
    have := VR.isl (M := M) (ι := ι) (esz := esz) (es := (es.drop l).take (hh - l)) (cap := c') (a := (if m = l then a else a.add (l * esz))) (c := m - l) (fun i j => cell (l + i) j)
      (by
        rcases hsp with hsp | hsp
        · left
          split
          · exact hsp
          · rw [addr_eta hsp, add_none]
        · right; subst hsp; simp) (by omega) b5
      (by
        intro i j hi hj
        rw [g1] at hi
        have hsp := hsp.resolve_right (by intro e; subst e; simp at b2 hc; omega)
        rw [if_neg (by omega), addr_eta hsp, add_none]
        have := hm (l + i) j (by omega) hj
        rw [show a.off + ((l + i) * esz + j) = a.off + l * esz + (i * esz + j) by rw [Nat.add_mul]; omega] at this
        exact this)
      (by intro e he; exact hes e (List.mem_of_mem_drop (List.mem_of_mem_take he)))
      (by
        intro i j e x hi hx
        have hi' : i < hh - l := by have := (List.getElem?_eq_some_iff.1 hi).1; omega
        rw [g2 i hi'] at hi
        exact hh' (l + i) j e x hi hx)
    rw [g1] at this
    have e2 : (if m = l then some a else (some a).map (·.add (l * esz))) = some (if m = l then a else a.add (l * esz)) := by split <;> rfl
    rw [e2]
    exact this
  · -- a slice of a block of the call's own
    rename_i r' off len cap e
    cases e
    split at h
    · rename_i b hb'
      obtain ⟨ht, h⟩ := Option.ite_none_right_eq_some.1 h
      simp only [Option.map_eq_some_iff] at h
      obtain ⟨⟨l, hh, c'⟩, hb, e⟩ := h
      cases e
      simp only [Option.bind_eq_some_iff] at ht
      obtain ⟨e, he, hs⟩ := ht
      cases hy with | osl hr hbb hsp ha hc hn hk hzl =>
      rename_i lo' a c
      obtain ⟨l', hl', hbk⟩ := hS.live r' b hb'
      rw [hr] at hl'; cases hl'
      obtain ⟨b1, b2, m, b3, b4, b5, b6⟩ := bounds_ok (P := P) (w := w) hc hk hb h1 h2 h3
      refine ⟨rfl, _, run_slice_of (telem_ok he) hs b6, ?_⟩
      have e2 : (if m = l then some a else (some a).map (·.add (l * b.esz))) = some (if m = l then a else a.add (l * b.esz)) := by split <;> rfl
      rw [e2]
      show VR M ι (.osl r' (off + l) (hh - l) c') _
      by_cases hml : m = l
      · rw [if_pos hml]
        exact .osl hr hbb hsp (.inl (by omega)) (by omega) (.inl (by omega)) b5 hzl
      · rw [if_neg hml, addr_eta hsp, add_none]
        refine .osl hr hbb rfl (.inr ?_) (by omega) (.inr ?_) b5 hzl
        · rcases ha with h | h
          · omega
          · simp only [h, hbk.esz, Nat.add_mul]
        · rcases hn with h | h
          · omega
          · omega
    · cases h
  · cases h

end
end Go.Ab
