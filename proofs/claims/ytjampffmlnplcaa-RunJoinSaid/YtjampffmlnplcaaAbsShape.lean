/-
  The shapes of the arguments' data, type by type. No statement of a seat is proved here.
-/
import Derived.Test.YtjampffmlnplcaaAbsOpen
import Derived.Test.YtjampffmlnplcaaAbsHeap
set_option linter.unusedVariables false
set_option linter.unusedSimpArgs false
namespace Go.Ab

/-- The data of a type, cell by cell: 'ok' of something that 'enc' writes. -/
def Rep {α : Type} (P : Program) (t : TypeId) (ok : α → Prop) (enc : α → List AV) : Prop := ∀ n xs, ShC P n t xs → ∃ a, ok a ∧ xs = enc a

def isBool (P : Program) (t : TypeId) : Bool := match P.underlying t with | some .bool => true | _ => false
def fieldTys (P : Program) (t : TypeId) : Option (List TypeId) := match P.underlying t with | some (.struct fs) => some (fs.toList.map (·.type)) | _ => none

theorem rep_bool {P : Program} {t : TypeId} (h : isBool P t = true) : Rep P t (fun _ => True) fun b : Bool => [aB b] := by
  intro n xs hx
  cases n with
  | zero => exact hx.elim
  | succ n =>
    unfold isBool at h
    unfold ShC at hx
    split at h
    · rename_i hu; rw [hu] at hx; obtain ⟨b, rfl⟩ := hx; exact ⟨b, trivial, rfl⟩
    · cases h
theorem rep_int {P : Program} {t : TypeId} {k : IntKind} (h : intKind P t = some k) : Rep P t (fun i : Int => k.min ≤ i ∧ i ≤ k.max) fun i : Int => [.v (.int k i)] := by
  intro n xs hx
  cases n with
  | zero => exact hx.elim
  | succ n =>
    unfold ShC at hx
    rw [intKind_some h] at hx
    obtain ⟨i, hi, rfl⟩ := hx
    exact ⟨i, hi, rfl⟩
theorem rep_i64 {P : Program} {t : TypeId} (h : intKind P t = some .i64) : Rep P t (fun i : Int => -9223372036854775808 ≤ i ∧ i ≤ 9223372036854775807) fun i : Int => [aI i] := fun n xs hx => by
  obtain ⟨i, hi, rfl⟩ := rep_int h n xs hx; exact ⟨i, hi, rfl⟩
theorem rep_i32 {P : Program} {t : TypeId} (h : intKind P t = some .i32) : Rep P t (fun i : Int => -2147483648 ≤ i ∧ i ≤ 2147483647) fun i : Int => [.v (.int .i32 i)] := fun n xs hx => by
  obtain ⟨i, hi, rfl⟩ := rep_int h n xs hx; exact ⟨i, hi, rfl⟩
theorem rep_8 {P : Program} {t : TypeId} (h : intKind P t = some .u8) : Rep P t (fun _ => True) fun b : UInt8 => [a8 b] := fun n xs hx => by
  obtain ⟨i, hi, rfl⟩ := rep_int h n xs hx
  refine ⟨u8 i, trivial, ?_⟩
  have h1 : (0 : Int) ≤ i := hi.1
  have h2 : i ≤ 255 := hi.2
  unfold a8
  show [AV.v (.int .u8 i)] = [AV.v (.int .u8 ((u8 i).toNat : Int))]
  rw [u8_toNat', Int.emod_eq_of_lt h1 (by omega), Int.toNat_of_nonneg h1]
theorem rep_32 {P : Program} {t : TypeId} (h : intKind P t = some .u32) : Rep P t (fun _ => True) fun b : UInt32 => [a32 b] := fun n xs hx => by
  obtain ⟨i, hi, rfl⟩ := rep_int h n xs hx
  refine ⟨u32 i, trivial, ?_⟩
  have h1 : (0 : Int) ≤ i := hi.1
  have h2 : i ≤ 4294967295 := hi.2
  unfold a32
  show [AV.v (.int .u32 i)] = [AV.v (.int .u32 ((u32 i).toNat : Int))]
  rw [u32_toNat', Int.emod_eq_of_lt h1 (by omega), Int.toNat_of_nonneg h1]
theorem rep_str {P : Program} {t : TypeId} (h : isStr P t = true) : Rep P t (fun _ => True) fun s : ByteArray => [aS s] := by
  intro n xs hx
  cases n with
  | zero => exact hx.elim
  | succ n =>
    unfold isStr at h
    unfold ShC at hx
    split at h
    · rename_i hu; rw [hu] at hx; obtain ⟨b, rfl⟩ := hx; exact ⟨b, trivial, rfl⟩
    · cases h

theorem list_of {α : Type} {ok : α → Prop} {enc : α → List AV} : ∀ (es : List (List AV)), (∀ x ∈ es, ∃ a, ok a ∧ x = enc a) → ∃ l : List α, (∀ a ∈ l, ok a) ∧ es = l.map enc := by
  intro es
  induction es with
  | nil => intro _; exact ⟨[], by simp, rfl⟩
  | cons x es ih =>
    intro h
    obtain ⟨a, ha, rfl⟩ := h x (List.mem_cons_self ..)
    obtain ⟨l, hl, rfl⟩ := ih fun x hx => h x (List.mem_cons_of_mem _ hx)
    refine ⟨a :: l, ?_, rfl⟩
    intro b hb
    rcases List.mem_cons.1 hb with rfl | hb
    · exact ha
    · exact hl b hb

theorem telem_und {P : Program} {t e : TypeId} (h : telem P t = some e) : P.underlying t = some (.slice e) := by
  unfold telem at h
  split at h
  · cases h; assumption
  · cases h

/-- A slice's data. -/
theorem sh_slice {α : Type} {P : Program} {t e : TypeId} {z : Nat} {ag : Bool} {ok : α → Prop} {enc : α → List AV} (he : telem P t = some e) (hz : tsize P e = some z) (ha : tagg P e = some ag) (hR : Rep P e ok enc) {n : Nat} {xs : List AV} (h : ShC P n t xs) :
    ∃ (l : List α) (x : AV), (∀ a ∈ l, ok a) ∧ xs = [x] ∧ Sl z (l.map fun a => mkEl ag (enc a)) x := by
  cases n with
  | zero => exact h.elim
  | succ n =>
    unfold ShC at h
    rw [telem_und he] at h
    rcases h with rfl | ⟨es, rfl, hall⟩
    · exact ⟨[], aNil, by simp, rfl, .inl ⟨rfl, rfl⟩⟩
    · obtain ⟨l, hl, rfl⟩ := list_of es fun x hx => hR n x (hall x hx)
      have hc : P.cellsOf e = z := by
        unfold tsize at hz
        unfold Program.cellsOf
        rw [hz]; rfl
      refine ⟨l, _, hl, rfl, ?_⟩
      rw [hc, ha, List.map_map]
      exact Sl.mk z _

theorem sh_bytes {P : Program} {t e : TypeId} (he : telem P t = some e) (hk : intKind P e = some .u8) (hz : tsize P e = some 1) (ha : tagg P e = some false) {n : Nat} {xs : List AV} (h : ShC P n t xs) : ∃ (l : List UInt8) (x : AV), xs = [x] ∧ Sl 1 (by8 l) x := by
  obtain ⟨l, x, _, rfl, hs⟩ := sh_slice he hz ha (rep_8 hk) h
  exact ⟨l, x, rfl, hs⟩

/-- An argument that is one cell. -/
theorem ShV.cell {P : Program} {n : Nat} {t : TypeId} {x : AV} (ha : tagg P t = some false) (h : ShV P n t x) : ShC P n t [x] := by
  unfold ShV at h; rw [ha] at h; exact h
theorem ShV.agg {P : Program} {n : Nat} {t : TypeId} {x : AV} (ha : tagg P t = some true) (h : ShV P n t x) : ∃ xs, x = .agg xs ∧ ShC P n t xs := by
  unfold ShV at h; rw [ha] at h; exact h

theorem rep_arr {α : Type} {P : Program} {t e : TypeId} {k : Nat} {ok : α → Prop} {enc : α → List AV} (ht : tarr P t = some (k, e)) (hR : Rep P e ok enc) : Rep P t (fun l : List α => l.length = k ∧ ∀ a ∈ l, ok a) fun l => l.flatMap enc := by
  intro n xs h
  cases n with
  | zero => exact h.elim
  | succ n =>
    have hu : P.underlying t = some (.array k e) := by
      unfold tarr at ht
      split at ht
      · cases ht; assumption
      · cases ht
    unfold ShC at h
    rw [hu] at h
    dsimp only at h
    clear hu ht
    induction k generalizing xs with
    | zero => simp only [ShRep] at h; subst h; exact ⟨[], ⟨rfl, by simp⟩, rfl⟩
    | succ k ih =>
      obtain ⟨a, b, rfl, ha, hb⟩ := h
      obtain ⟨y, hy, rfl⟩ := hR n a ha
      obtain ⟨l, ⟨h1, h2⟩, rfl⟩ := ih b hb
      refine ⟨y :: l, ⟨by simp [h1], ?_⟩, rfl⟩
      intro a ha
      rcases List.mem_cons.1 ha with rfl | ha
      · exact hy
      · exact h2 a ha

/-- A struct's data, field by field. -/
def ShTs (S : TypeId → List AV → Prop) : List TypeId → List AV → Prop
  | [], xs => xs = []
  | t :: ts, xs => ∃ a b, xs = a ++ b ∧ S t a ∧ ShTs S ts b
theorem sh_struct {P : Program} {t : TypeId} {ts : List TypeId} (ht : fieldTys P t = some ts) {n : Nat} {xs : List AV} (h : ShC P n t xs) : ∃ m, ShTs (ShC P m) ts xs := by
  cases n with
  | zero => exact h.elim
  | succ n =>
    unfold fieldTys at ht
    split at ht
    · rename_i fs hu
      cases ht
      unfold ShC at h
      rw [hu] at h
      refine ⟨n, ?_⟩
      dsimp only at h
      generalize fs.toList = l at h
      induction l generalizing xs with
      | nil => exact h
      | cons f l ih =>
        obtain ⟨a, b, rfl, ha, hb⟩ := h
        exact ⟨a, b, rfl, ha, ih hb⟩
    · cases ht

end Go.Ab
