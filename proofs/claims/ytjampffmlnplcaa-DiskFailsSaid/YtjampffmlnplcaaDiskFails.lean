/-
  'Rows.DiskFailsSaid' is proved: the law returns true. No conditions.
-/
import Derived.Test.YtjampffmlnplcaaDskFails
import Derived.Test.YtjampffmlnplcaaDskRep
set_option linter.unusedVariables false
set_option maxRecDepth 1000000
namespace Go.Proofs.Ytjampffmlnplcaa.diskFails
open Go.Ab Go.ChangeShapes Go.WideShapes Go.RowKit
theorem law (xs : List AV) (h : ShVs env.P 20 Try.f13.params.toList xs) : limf env 13 xs = some (aB true) := by
  rw [show Try.f13.params.toList = [93, 106, 3] from by kernel_rfl] at h
  obtain ⟨x0, xs, rfl, h0, h⟩ := shvs_cons h
  obtain ⟨x1, xs, rfl, h1, h⟩ := shvs_cons h
  obtain ⟨x2, xs, rfl, h2, h⟩ := shvs_cons h
  obtain rfl := shvs_nil h
  obtain ⟨l, y, st, lf, dd, hok, hy, rfl⟩ := sh_Dsk h0
  obtain ⟨ql, X1, _, e, hX1⟩ := sh_slice (P := env.P) telem_106 tsize_3 tagg_3 (rep_i64 (P := env.P) (t := 3) (by simp)) (h1.cell (by simp))
  cases e
  obtain ⟨r, _, rfl⟩ := sh_int h2
  exact fails_law hy hok hX1 r
theorem lifted (os : Os) (started : os.Started) (H : Type) (enc : TypeId × Value → H) :
    ReturnsInHanded {} Try.checked os 13 .any (Rows.diskFailsSpec.pre6 enc Try.prog Try.f13 Rows.diskFailsRow.domain false) (Rows.diskFailsSpec.post enc Try.prog Try.f13 false true false false) := by
  refine returnsInHanded_of_change (C := Try.checked) own started (by kernel_rfl) Try.func13
    (ChangeSpec.witness6 (enc := enc) (C := Try.checked) false ⟨#[], #[.agg #[.slice none 0 0, .int .i64 0, .int .i64 0, .bool false], .slice none 0 0, .int .i64 0], []⟩ 8 (by kernel_rfl) (by kernel_rfl) (by kernel_rfl) (by kernel_rfl)) ?_
  intro W base args ds gs before hval hW _ _
  exact open_contract (E := env) envOk kids (slices_full_of Try.prog (by kernel_rfl)) (m := 20) (fun t ht => of_decide_eq_true (List.all_eq_true.1 (show Try.f13.params.toList.all (fun t => decide (t < Try.prog.types.size)) = true by kernel_rfl) t ht)) (by kernel_rfl) rfl
    (fun ds hd => by match ds, hd with | [_, _, _], _ => rfl) (by kernel_rfl) law W base args ds gs before hval hW
theorem over : Rows.diskFailsRow.holds Try.pinned (OpenSpec.ofChange Rows.diskFailsSpec) :=
  OpenClaim.holds_of_wide 13 Try.f13 rfl rfl rfl rfl rfl rfl rfl ⟨rfl, rfl, rfl, rfl, rfl⟩ rfl rfl rfl rfl rfl (by kernel_rfl) Try.func13 (by kernel_rfl)
    (of_decide_eq_true (by kernel_rfl)) (by unfold Func.isWrapper; first | (rw [if_pos (by decide +kernel)]; kernel_rfl) | (rw [if_neg (by decide +kernel)]; exact ⟨rfl, rfl⟩))
    (fun os started H enc _ => lifted os started H enc)
theorem proved : Rows.DiskFailsSaid :=
  over
end Go.Proofs.Ytjampffmlnplcaa.diskFails
