/-
  The arguments' data: operations, lists of them. No statement of a seat is proved here.
-/
import Derived.Test.YtjampffmlnplcaaIdRep
import Derived.Test.YtjampffmlnplcaaChMath
set_option linter.unusedVariables false
set_option linter.unusedSimpArgs false
set_option maxRecDepth 1000000
namespace Go.Proofs.Ytjampffmlnplcaa
open Go.Ab Go.ChangeShapes Go.WideShapes Go.RowKit

def encOc (p : Opn × AV) : List AV := [a8 p.1.kind, a8 p.1.h.lv, a32 p.1.h.cats, a8 p.1.h.num, aI p.1.serial, a8 p.1.s.f.h.lv, a32 p.1.s.f.h.cats, a8 p.1.s.f.h.num, aI p.1.s.f.n, aI p.1.s.many,
  a8 p.1.a.h.lv, a32 p.1.a.h.cats, a8 p.1.a.h.num, aI p.1.a.n, a8 p.1.to.lv, a32 p.1.to.cats, p.2]
theorem rep_Opn : Rep env.P 49 (fun p : Opn × AV => Sl 1 (rows p.1.l) p.2) encOc := by
  intro n xs h
  have h := sh_struct (P := env.P) fieldTys_49 h
  obtain ⟨m, x1, r1, rfl, h1, x2, r2, rfl, h2, x3, r3, rfl, h3, x4, r4, rfl, h4, x5, r5, rfl, h5, x6, r6, rfl, h6, x7, r7, rfl, h7, rfl⟩ := h
  obtain ⟨k, _, rfl⟩ := rep_8 (P := env.P) (t := 5) (by simp) _ _ h1
  obtain ⟨hh, _, rfl⟩ := rep_Han _ _ h2
  obtain ⟨se, _, rfl⟩ := rep_i64 (P := env.P) (t := 3) (by simp) _ _ h3
  obtain ⟨s, _, rfl⟩ := rep_Spn _ _ h4
  obtain ⟨a, _, rfl⟩ := rep_Idd _ _ h5
  obtain ⟨t, _, rfl⟩ := rep_Lab _ _ h6
  obtain ⟨l, y, _, rfl, sl⟩ := shc_Rows h7
  exact ⟨(⟨k, hh, se, s, a, ⟨t.1, t.2⟩, l⟩, y), sl, rfl⟩
theorem sh_Ops {n : Nat} {x : AV} (h : ShV env.P n 63 x) : ∃ l : List (Opn × AV), (∀ p ∈ l, Sl 1 (rows p.1.l) p.2) ∧ Sl 17 (encOs l) x := by
  obtain ⟨l, x', hl, e, s⟩ := sh_slice (P := env.P) telem_63 tsize_49 tagg_49 rep_Opn (h.cell (by simp))
  cases e
  exact ⟨l, hl, s⟩
theorem sh_Op {n : Nat} {x : AV} (h : ShV env.P n 49 x) : ∃ p : Opn × AV, Sl 1 (rows p.1.l) p.2 ∧ x = .agg (encOc p) := by
  obtain ⟨y, rfl, h'⟩ := h.agg (by simp)
  obtain ⟨q, hq, rfl⟩ := rep_Opn _ _ h'
  exact ⟨q, hq, rfl⟩
theorem sh_Id {n : Nat} {x : AV} (h : ShV env.P n 28 x) : ∃ i : Idd, x = .agg i.enc := by
  obtain ⟨y, rfl, h'⟩ := h.agg (by simp)
  obtain ⟨q, _, rfl⟩ := rep_Idd _ _ h'
  exact ⟨q, rfl⟩
theorem sh_Lab {n : Nat} {x : AV} (h : ShV env.P n 24 x) : ∃ (a : UInt8) (b : UInt32), x = .agg [a8 a, a32 b] := by
  obtain ⟨y, rfl, h'⟩ := h.agg (by simp)
  obtain ⟨q, _, rfl⟩ := rep_Lab _ _ h'
  exact ⟨q.1, q.2, rfl⟩
end Go.Proofs.Ytjampffmlnplcaa
