/-
  The arguments' data: labels, handles, ids, spans, rows, operations. No statement of a seat is proved here.
-/
import Derived.Test.YtehkjjcdkbcebaaRbTy
import Derived.Test.YtehkjjcdkbcebaaOpMath
set_option linter.unusedVariables false
set_option linter.unusedSimpArgs false
set_option maxRecDepth 1000000
namespace Go.Ab
def Han.enc (h : Han) : List AV := [a8 h.lv, a32 h.cats, a8 h.num]
def Idd.enc (i : Idd) : List AV := [a8 i.h.lv, a32 i.h.cats, a8 i.h.num, aI i.n]
def Spn.enc (s : Spn) : List AV := [a8 s.f.h.lv, a32 s.f.h.cats, a8 s.f.h.num, aI s.f.n, aI s.many]
end Go.Ab
namespace Go.Proofs.Ytehkjjcdkbcebaa
open Go.Ab Go.ChangeShapes Go.WideShapes Go.RowKit
theorem rep_Lab : Rep env.P 24 (fun _ => True) (fun p : UInt8 × UInt32 => [a8 p.1, a32 p.2]) := by
  intro n xs h
  have h := sh_struct (P := env.P) fieldTys_24 h
  obtain ⟨m, x, r, rfl, h1, y, r', rfl, h2, rfl⟩ := h
  obtain ⟨v, _, rfl⟩ := rep_8 (P := env.P) (t := 5) (by simp) _ _ h1
  obtain ⟨w, _, rfl⟩ := rep_32 (P := env.P) (t := 22) (by simp) _ _ h2
  exact ⟨(v, w), trivial, rfl⟩
theorem rep_Han : Rep env.P 26 (fun _ => True) Han.enc := by
  intro n xs h
  have h := sh_struct (P := env.P) fieldTys_26 h
  obtain ⟨m, x, r, rfl, h1, y, r', rfl, h2, rfl⟩ := h
  obtain ⟨p, _, rfl⟩ := rep_Lab _ _ h1
  obtain ⟨w, _, rfl⟩ := rep_8 (P := env.P) (t := 5) (by simp) _ _ h2
  exact ⟨⟨p.1, p.2, w⟩, trivial, rfl⟩
theorem rep_Idd : Rep env.P 28 (fun _ => True) Idd.enc := by
  intro n xs h
  have h := sh_struct (P := env.P) fieldTys_28 h
  obtain ⟨m, x, r, rfl, h1, y, r', rfl, h2, rfl⟩ := h
  obtain ⟨p, _, rfl⟩ := rep_Han _ _ h1
  obtain ⟨i, _, rfl⟩ := rep_i64 (P := env.P) (t := 3) (by simp) _ _ h2
  exact ⟨⟨p, i⟩, trivial, rfl⟩
theorem rep_Spn : Rep env.P 30 (fun _ => True) Spn.enc := by
  intro n xs h
  have h := sh_struct (P := env.P) fieldTys_30 h
  obtain ⟨m, x, r, rfl, h1, y, r', rfl, h2, rfl⟩ := h
  obtain ⟨p, _, rfl⟩ := rep_Idd _ _ h1
  obtain ⟨i, _, rfl⟩ := rep_i64 (P := env.P) (t := 3) (by simp) _ _ h2
  exact ⟨⟨p, i⟩, trivial, rfl⟩
theorem shc_Rows {n : Nat} {xs : List AV} (h : ShC env.P n 31 xs) : ∃ (l : List Int) (x : AV), (∀ a ∈ l, -2147483648 ≤ a ∧ a ≤ 2147483647) ∧ xs = [x] ∧ Sl 1 (rows l) x := by
  obtain ⟨l, x, hl, rfl, s⟩ := sh_slice (P := env.P) telem_31 tsize_21 tagg_21 (rep_i32 (by simp)) h
  exact ⟨l, x, hl, rfl, s⟩
def encOc (p : Opn × AV) : List AV := [a8 p.1.kind, a8 p.1.h.lv, a32 p.1.h.cats, a8 p.1.h.num, aI p.1.serial, a8 p.1.s.f.h.lv, a32 p.1.s.f.h.cats, a8 p.1.s.f.h.num, aI p.1.s.f.n, aI p.1.s.many,
  a8 p.1.a.h.lv, a32 p.1.a.h.cats, a8 p.1.a.h.num, aI p.1.a.n, a8 p.1.to.lv, a32 p.1.to.cats, p.2]
theorem rep_Opn : Rep env.P 33 (fun p : Opn × AV => Sl 1 (rows p.1.l) p.2) encOc := by
  intro n xs h
  have h := sh_struct (P := env.P) fieldTys_33 h
  obtain ⟨m, x1, r1, rfl, h1, x2, r2, rfl, h2, x3, r3, rfl, h3, x4, r4, rfl, h4, x5, r5, rfl, h5, x6, r6, rfl, h6, x7, r7, rfl, h7, rfl⟩ := h
  obtain ⟨k, _, rfl⟩ := rep_8 (P := env.P) (t := 5) (by simp) _ _ h1
  obtain ⟨hh, _, rfl⟩ := rep_Han _ _ h2
  obtain ⟨se, _, rfl⟩ := rep_i64 (P := env.P) (t := 3) (by simp) _ _ h3
  obtain ⟨s, _, rfl⟩ := rep_Spn _ _ h4
  obtain ⟨a, _, rfl⟩ := rep_Idd _ _ h5
  obtain ⟨t, _, rfl⟩ := rep_Lab _ _ h6
  obtain ⟨l, y, _, rfl, sl⟩ := shc_Rows h7
  exact ⟨(⟨k, hh, se, s, a, ⟨t.1, t.2⟩, l⟩, y), sl, rfl⟩
theorem own : ownKnob Try.prog.godebug = none := by kernel_rfl
theorem kids : Kids Try.prog (· < Try.prog.types.size) := kids_rows (by kernel_rfl) (by kernel_rfl)
end Go.Proofs.Ytehkjjcdkbcebaa
