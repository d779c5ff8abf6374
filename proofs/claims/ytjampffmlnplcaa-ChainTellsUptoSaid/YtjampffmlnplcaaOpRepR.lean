/-
  The arguments' data: operations whose runes are of their type's range, of bounded length. No statement of a seat is proved here.
-/
import Derived.Test.YtjampffmlnplcaaOpRep
import Derived.Test.YtjampffmlnplcaaAbsUpto
set_option linter.unusedVariables false
set_option linter.unusedSimpArgs false
set_option maxRecDepth 1000000
namespace Go.Proofs.Ytjampffmlnplcaa
open Go.Ab Go.ChangeShapes Go.WideShapes Go.RowKit

theorem rep_OpnR : Rep env.P 49 (fun p : Opn × AV => Sl 1 (rows p.1.l) p.2 ∧ ∀ a ∈ p.1.l, -2147483648 ≤ a ∧ a ≤ 2147483647) encOc := by
  intro n xs h
  have h := sh_struct (P := env.P) fieldTys_49 h
  obtain ⟨m, x1, r1, rfl, h1, x2, r2, rfl, h2, x3, r3, rfl, h3, x4, r4, rfl, h4, x5, r5, rfl, h5, x6, r6, rfl, h6, x7, r7, rfl, h7, rfl⟩ := h
  obtain ⟨k, _, rfl⟩ := rep_8 (P := env.P) (t := 5) (by simp) _ _ h1
  obtain ⟨hh, _, rfl⟩ := rep_Han _ _ h2
  obtain ⟨se, _, rfl⟩ := rep_i64 (P := env.P) (t := 3) (by simp) _ _ h3
  obtain ⟨s, _, rfl⟩ := rep_Spn _ _ h4
  obtain ⟨a, _, rfl⟩ := rep_Idd _ _ h5
  obtain ⟨t, _, rfl⟩ := rep_Lab _ _ h6
  obtain ⟨l, y, hr, rfl, sl⟩ := shc_Rows h7
  exact ⟨(⟨k, hh, se, s, a, ⟨t.1, t.2⟩, l⟩, y), ⟨sl, hr⟩, rfl⟩
theorem sh_OpsR {n : Nat} {x : AV} (h : ShV env.P n 63 x) : ∃ l : List (Opn × AV), (∀ p ∈ l, Sl 1 (rows p.1.l) p.2 ∧ ∀ a ∈ p.1.l, -2147483648 ≤ a ∧ a ≤ 2147483647) ∧ Sl 17 (encOs l) x := by
  obtain ⟨l, x', hl, e, s⟩ := sh_slice (P := env.P) telem_63 tsize_49 tagg_49 rep_OpnR (h.cell (by simp))
  cases e
  exact ⟨l, hl, s⟩
theorem sh_OpR {n : Nat} {x : AV} (h : ShV env.P n 49 x) : ∃ p : Opn × AV, (Sl 1 (rows p.1.l) p.2 ∧ ∀ a ∈ p.1.l, -2147483648 ≤ a ∧ a ≤ 2147483647) ∧ x = .agg (encOc p) := by
  obtain ⟨y, rfl, h'⟩ := h.agg (by simp)
  obtain ⟨q, hq, rfl⟩ := rep_OpnR _ _ h'
  exact ⟨q, hq, rfl⟩
theorem slim_Ops {N : Nat} {l : List (Opn × AV)} {x : AV} (hx : Sl 17 (encOs l) x) (hall : ∀ p ∈ l, Sl 1 (rows p.1.l) p.2) (h : Slim N x) : ∀ p ∈ l, p.1.l.length ≤ N := by
  intro p hp
  have h1 := (h.sl hx).2 (encO p) (List.mem_map_of_mem hp)
  have h2 := h1.parts p.2 (by simp)
  have h3 := (h2.sl (hall p hp)).1
  simpa [rows] using h3

/- ## The bulk of what is read -/
section
variable {H : Type}
theorem bulk_pos (d : DataW H) : 1 ≤ Rows.uptoBulk d := by
  cases d with
  | lit l => cases l <;> simp [Rows.uptoBulk]
  | nil => simp [Rows.uptoBulk]
  | ptr d => simp [Rows.uptoBulk]
  | slice a b => simp [Rows.uptoBulk]
  | agg a => simp [Rows.uptoBulk]
  | iface a d => simp [Rows.uptoBulk]
  | map e => simp [Rows.uptoBulk]
  | held h => simp [Rows.uptoBulk]
theorem bulkAll_len (ds : List (DataW H)) : ds.length ≤ Rows.uptoBulkAll ds := by
  induction ds with
  | nil => simp
  | cons d ds ih =>
    have := bulk_pos d
    simp only [Rows.uptoBulkAll, List.length_cons]
    omega
theorem bulkAll_mem {d : DataW H} {ds : List (DataW H)} (h : d ∈ ds) : Rows.uptoBulk d ≤ Rows.uptoBulkAll ds := by
  induction ds with
  | nil => cases h
  | cons e ds ih =>
    simp only [Rows.uptoBulkAll]
    rcases List.mem_cons.1 h with rfl | h
    · omega
    · have := ih h; omega
theorem bulk_slice (es sp : List (DataW H)) : es.length ≤ Rows.uptoBulk (.slice es sp) ∧ ∀ d ∈ es, Rows.uptoBulk d ≤ Rows.uptoBulk (.slice es sp) := by
  have e : Rows.uptoBulk (.slice es sp) = Rows.uptoBulkAll es + Rows.uptoBulkAll sp + 1 := by simp [Rows.uptoBulk]
  rw [e]
  refine ⟨by have := bulkAll_len es; omega, fun d hd => by have := bulkAll_mem hd; omega⟩
theorem bulk_agg (ps : List (DataW H)) : ∀ d ∈ ps, Rows.uptoBulk d ≤ Rows.uptoBulk (.agg ps) := by
  have e : Rows.uptoBulk (.agg ps) = Rows.uptoBulkAll ps + 1 := by simp [Rows.uptoBulk]
  rw [e]
  exact fun d hd => by have := bulkAll_mem hd; omega
theorem bulk_small {ds gs : List (DataW H)} (h : Rows.uptoSmall H (ds ++ gs) = true) : ∀ d ∈ ds, Rows.uptoBulk d ≤ 1048576 := by
  intro d hd
  have h1 : Rows.uptoBulkAll (ds ++ gs) ≤ 1048576 := of_decide_eq_true h
  exact Nat.le_trans (bulkAll_mem (List.mem_append_left _ hd)) h1
end
end Go.Proofs.Ytjampffmlnplcaa
