/-
  What the abstract machine's quiet operations give is what the model's give: appends, and what is left. No statement of a seat is proved here.
-/
import Derived.Test.YtjampffmlnplcaaAbsOps4
set_option linter.unusedVariables false
set_option linter.unusedSimpArgs false
namespace Go.Ab

section
variable {P : Program} {M : Mem} {ι : Map} {g : Get} {w : World} {r : Ref}

/-- What is appended, as the model sees it: n elements, the cells 'us'. -/
inductive App (P : Program) (w : World) (t' : Option TypeId) (x : Value) (e z : Nat) (n : Nat) (us : List Value) : Prop
  | src {d : TypeDesc} (ht : t'.bind P.underlying = some d) (hd : ∀ k, d ≠ .int k) (hl : ∀ w' : World, (Builtin.lenOf x).run P w' = .ok n w')
      (hf : ∀ w' : World, w'.heap = w.heap → (Builtin.firstCells z n x).run P w' = .ok us.toArray w')
  | zeros {k kx : IntKind} (u : Value) (ht : t'.bind P.underlying = some (.int k)) (hx : x = .int kx n) (hn : n ≤ roomB) (hu : ∀ w' : World, (zeroValue e).run P w' = .ok u w') (hz : u.cells.size = z)
      (hus : us = (List.replicate n u.cells.toList).flatten)

theorem wrap_room {n : Nat} (h : n ≤ roomB) : IntKind.i64.wrap (n : Int) = n := by
  unfold roomB at h
  exact IntWalk.i64_in n ⟨by omega, by omega⟩

theorem zeros_cells {u : Value} {n : Nat} : (Builtin.zeroCells u.cells n).toList = (List.replicate n u.cells.toList).flatten := by
  unfold Builtin.zeroCells
  rcases Nat.eq_zero_or_pos u.cells.size with h | h
  · have : u.cells.toList = [] := by simpa using Array.eq_empty_of_size_eq_zero h
    simp [h, this]
  · exact flatten_mod h

/-- An append that appends nothing. -/
theorem run_append_none {ts : Array TypeId} {t : TypeId} {ty : TypeId} (ht : ts[0]? = some t) {e z by' : Nat} (hu : P.underlying t = some (.slice e)) (hz : tsize P e = some z) (hb : tbytes P e = some by')
    {a : Option Addr} {len c : Nat} (hlc : len ≤ c) {x : Value} (hA : App P w ts[1]? x e z 0 []) :
    (Builtin.append_ ts ty #[.slice a len c, x]).run P w = .ok (.slice a len c) w := by
  simp only [tbytes, Option.map_eq_some_iff] at hb
  obtain ⟨i, hi, rfl⟩ := hb
  cases hA with
  | src hd hm hl hf =>
    rename_i d
    simp only [Option.bind_eq_some_iff] at hd
    obtain ⟨t', ht', hd⟩ := hd
    have hf' := hf w rfl
    have hmt : (match d with | .int _ => true | _ => false) = false := by cases d <;> first | rfl | exact absurd rfl (hm _)
    cases a <;> simp [hmt, Builtin.append_, ht, ht', run_und hu, run_und hd, run_sizeOf hz, hl, hlc, hf', storeCells]
  | zeros u hd hx hn hu' hz' hus =>
    rename_i k kx
    subst hx
    simp only [Option.bind_eq_some_iff] at hd
    obtain ⟨t', ht', hd⟩ := hd
    have hw : IntKind.i64.wrap 0 = 0 := by simpa using wrap_room hn
    cases a <;> simp [Builtin.append_, ht, ht', run_und hu, run_und hd, run_sizeOf hz, asInt, asIntOf, hw, typeInfo, hi, hlc, storeCells]

/-- An append for which there is no room: a new row. -/
theorem run_append_new {ts : Array TypeId} {t : TypeId} {ty : TypeId} (ht : ts[0]? = some t) {e z by' : Nat} (hu : P.underlying t = some (.slice e)) (hz : tsize P e = some z) (hb : tbytes P e = some by')
    {zv : Value} (hzv : ∀ w' : World, (zeroValue e).run P w' = .ok zv w') (hzs : zv.cells.size = z)
    {a : Option Addr} {len c n : Nat} {x : Value} {olds us : List Value} (hold : ∀ w' : World, w'.heap = w.heap → (Builtin.firstCells z len (.slice a len c)).run P w' = .ok olds.toArray w')
    (hA : App P w ts[1]? x e z n us) (hgt : c < len + n) (hroom : (len + n) * by' ≤ roomB) (hpos : 0 < by') :
    ∃ cap w', len + n ≤ cap ∧ (Builtin.append_ ts ty #[.slice a len c, x]).run P w = .ok (.slice (some ⟨w.heap.size, 0, none⟩) (len + n) cap) w' ∧
      Grew w w' (.cells (olds.toArray ++ us.toArray ++ Builtin.zeroCells zv.cells (cap - (len + n))) e (0, 0)) := by
  simp only [tbytes, Option.map_eq_some_iff] at hb
  obtain ⟨i, hi, rfl⟩ := hb
  have hn63 : ¬ (9223372036854775807 < (len : Int) + (n : Int)) := by
    have : (len + n) * 1 ≤ (len + n) * i.bytes := Nat.mul_le_mul_left _ hpos
    unfold roomB at hroom
    omega
  have h48 : ¬ (281474976710656 < Builtin.nextslicecap (len + n) c * i.bytes) := by
    have := growslice_fits (need := len + n) (old := c) (bytes := i.bytes) hgt (by unfold roomB at hroom; exact hroom)
    omega
  have hno : ¬ (len + n ≤ c) := by omega
  have holds := hold w.drew rfl
  obtain ⟨A, hA0⟩ : ∃ A, A = olds.toArray := ⟨_, rfl⟩
  rw [← hA0] at holds ⊢
  refine ⟨grownCap w (len + n) c e, w.drew.alloc (.cells (A ++ us.toArray ++ Builtin.zeroCells zv.cells (grownCap w (len + n) c e - (len + n))) e (0, 0)), grownCap_ge _ _ _ _, ?_, ⟨rfl, rfl, rfl, rfl⟩⟩
  cases hA with
  | src hd hm hl hf =>
    rename_i d
    simp only [Option.bind_eq_some_iff] at hd
    obtain ⟨t', ht', hd⟩ := hd
    have hf' := hf w.drew rfl
    obtain ⟨B, hB0⟩ : ∃ B, B = us.toArray := ⟨_, rfl⟩
    rw [← hB0] at hf' ⊢
    have hmt : (match d with | .int _ => true | _ => false) = false := by cases d <;> first | rfl | exact absurd rfl (hm _)
    simp [hmt, Builtin.append_, ht, ht', run_und hu, run_und hd, run_sizeOf hz, hl, hno, hf', holds, hn63, h48, typeInfo, hi, Question.forced, hzv, newRow, grownCap]
  | zeros u hd hx hn hu' hz' hus =>
    rename_i k kx
    subst hx
    simp only [Option.bind_eq_some_iff] at hd
    obtain ⟨t', ht', hd⟩ := hd
    have hw := wrap_room hn
    have e1 : u = zv := by
      have h1 := hu' w
      rw [hzv w] at h1
      cases h1
      rfl
    subst e1
    have hnb : ¬ ((n : Int) < 0) := by omega
    have hmk : ¬ (281474976710656 < (n : Int) * (i.bytes : Int)) := by
      have h1 : n * i.bytes ≤ (len + n) * i.bytes := Nat.mul_le_mul_right _ (by omega)
      unfold roomB at hroom
      have h2 : ((n * i.bytes : Nat) : Int) = (n : Int) * (i.bytes : Int) := by simp
      omega
    have hus' : us.toArray = if n * z = 0 then #[] else Builtin.zeroCells u.cells n := by
      rw [hus, ← zeros_cells]
      by_cases h : n * z = 0
      · rw [if_pos h]
        have : (Builtin.zeroCells u.cells n).size = 0 := by rw [size_zeroCells, hz', h]
        rw [Array.toArray_toList]
        exact Array.eq_empty_of_size_eq_zero this
      · rw [if_neg h]
    rw [hus']
    by_cases h : n * z = 0
    · simp [Builtin.append_, ht, ht', run_und hu, run_und hd, run_sizeOf hz, asInt, asIntOf, hw, hnb, hmk, typeInfo, hi, hno, hn63, h48, h, holds, Question.forced, hzv, newRow, grownCap]
    · simp [Builtin.append_, ht, ht', run_und hu, run_und hd, run_sizeOf hz, asInt, asIntOf, hw, hnb, hmk, typeInfo, hi, hno, hn63, h48, h, holds, Question.forced, hzv, newRow, grownCap]

/-- An append for which there is room. -/
theorem run_append_in {ts : Array TypeId} {t : TypeId} {ty : TypeId} (ht : ts[0]? = some t) {e z by' : Nat} (hu : P.underlying t = some (.slice e)) (hz : tsize P e = some z) (hb : tbytes P e = some by')
    {b o len c n : Nat} {x : Value} {us : List Value} (hA : App P w ts[1]? x e z n us) (hle : len + n ≤ c) (hroom : (len + n) * by' ≤ roomB)
    {arr : Array Value} {T : TypeId} {fz : Nat × Nat} (hw : w.heap[b]? = some (.cells arr T fz)) (hs : o + len * z + us.length ≤ arr.size) (hfz : ∀ j, j < arr.size → ¬ (fz.1 ≤ j ∧ (j < fz.2 ∨ fz.2 < fz.1))) (h1 : ∀ u ∈ us, u.oneCell' = true) :
    (Builtin.append_ ts ty #[.slice (some ⟨b, o, none⟩) len c, x]).run P w = .ok (.slice (some ⟨b, o, none⟩) (len + n) c) (setBlk w b (.cells (putCells arr (o + len * z) us) T fz)) := by
  simp only [tbytes, Option.map_eq_some_iff] at hb
  obtain ⟨i, hi, rfl⟩ := hb
  have hst := run_storeCells_gen (P := P) (o + len * z) us 0 arr w hw (by simpa using hs) hfz h1
  rw [Nat.add_zero] at hst
  cases hA with
  | src hd hm hl hf =>
    rename_i d
    simp only [Option.bind_eq_some_iff] at hd
    obtain ⟨t', ht', hd⟩ := hd
    have hf' := hf w rfl
    have hmt : (match d with | .int _ => true | _ => false) = false := by cases d <;> first | rfl | exact absurd rfl (hm _)
    simp [hmt, Builtin.append_, ht, ht', run_und hu, run_und hd, run_sizeOf hz, hl, hle, hf', add_none, hst]
  | zeros u hd hx hn hu' hz' hus =>
    rename_i k kx
    subst hx
    simp only [Option.bind_eq_some_iff] at hd
    obtain ⟨t', ht', hd⟩ := hd
    have hw := wrap_room hn
    have hnb : ¬ ((n : Int) < 0) := by omega
    have hmk : ¬ (281474976710656 < (n : Int) * (i.bytes : Int)) := by
      have h1 : n * i.bytes ≤ (len + n) * i.bytes := Nat.mul_le_mul_right _ (by omega)
      unfold roomB at hroom
      have h2 : ((n * i.bytes : Nat) : Int) = (n : Int) * (i.bytes : Int) := by simp
      omega
    have hus' : us = (if n * z = 0 then #[] else Builtin.zeroCells u.cells n).toList := by
      rw [hus, ← zeros_cells]
      by_cases h : n * z = 0
      · rw [if_pos h]
        have : (Builtin.zeroCells u.cells n).size = 0 := by rw [size_zeroCells, hz', h]
        rw [Array.eq_empty_of_size_eq_zero this]
      · rw [if_neg h]
    by_cases h : n * z = 0
    · rw [if_pos h] at hus'
      simp only [Array.toList_empty] at hus'
      rw [hus'] at hst ⊢
      simp [Builtin.append_, ht, ht', run_und hu, run_und hd, run_sizeOf hz, asInt, asIntOf, hw, hnb, hmk, typeInfo, hi, hle, h, add_none, hst]
    · rw [if_neg h] at hus'
      rw [hus'] at hst ⊢
      simp [Builtin.append_, ht, ht', run_und hu, run_und hd, run_sizeOf hz, asInt, asIntOf, hw, hnb, hmk, typeInfo, hi, hle, h, hu', add_none, hst]

end
end Go.Ab
