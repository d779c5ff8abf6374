/-
  'Rows.ChainTowerSaid' is proved: the law returns true. No conditions.
-/
import Derived.Test.YtjampffmlnplcaaChTower
import Derived.Test.YtjampffmlnplcaaOpRep
set_option linter.unusedVariables false
set_option maxRecDepth 1000000
namespace Go.Proofs.Ytjampffmlnplcaa.chainTower
open Go.Ab Go.ChangeShapes Go.WideShapes Go.RowKit

theorem law (xs : List AV) (h : ShVs env.P 20 Try.f10.params.toList xs) : limf env 10 xs = some (aB true) := by
  rw [show Try.f10.params.toList = [63, 49, 28, 24, 24] from by kernel_rfl] at h
  obtain ⟨x0, xs, rfl, h0, h⟩ := shvs_cons h
  obtain ⟨x1, xs, rfl, h1, h⟩ := shvs_cons h
  obtain ⟨x2, xs, rfl, h2, h⟩ := shvs_cons h
  obtain ⟨x3, xs, rfl, h3, h⟩ := shvs_cons h
  obtain ⟨x4, xs, rfl, h4, h⟩ := shvs_cons h
  obtain rfl := shvs_nil h
  obtain ⟨l, hl, sl⟩ := sh_Ops h0
  obtain ⟨p, hp, rfl⟩ := sh_Op h1
  obtain ⟨i, rfl⟩ := sh_Id h2
  obtain ⟨a, b, rfl⟩ := sh_Lab h3
  obtain ⟨c, d, rfl⟩ := sh_Lab h4
  exact tower_law sl hl _ _ _ _ _ _ _ _ _ _ _ _ _ _ _ _ hp _ _ _ _ a b c d

theorem lifted (os : Os) (started : os.Started) (H : Type) (enc : TypeId × Value → H) :
    ReturnsInHanded {} Try.checked os 10 .any (Rows.chainTowerSpec.pre6 enc Try.prog Try.f10 Rows.chainTowerRow.domain false) (Rows.chainTowerSpec.post enc Try.prog Try.f10 false true false false) := by
  refine returnsInHanded_of_change (C := Try.checked) own started (by kernel_rfl) Try.func10
    (ChangeSpec.witness6 (enc := enc) (C := Try.checked) false ⟨#[], #[.slice none 0 0, .agg #[.int .u8 0, .int .u8 0, .int .u32 0, .int .u8 0, .int .i64 0, .int .u8 0, .int .u32 0, .int .u8 0, .int .i64 0, .int .i64 0, .int .u8 0, .int .u32 0, .int .u8 0, .int .i64 0, .int .u8 0, .int .u32 0, .slice none 0 0], .agg #[.int .u8 0, .int .u32 0, .int .u8 0, .int .i64 0], .agg #[.int .u8 0, .int .u32 0], .agg #[.int .u8 0, .int .u32 0]], []⟩ 8 (by kernel_rfl) (by kernel_rfl) (by kernel_rfl) (by kernel_rfl)) ?_
  intro W base args ds gs before hval hW _ _
  exact open_contract (E := env) envOk kids (slices_full_of Try.prog (by kernel_rfl)) (m := 20) (fun t ht => of_decide_eq_true (List.all_eq_true.1 (show Try.f10.params.toList.all (fun t => decide (t < Try.prog.types.size)) = true by kernel_rfl) t ht)) (by kernel_rfl) rfl
    (fun ds hd => by match ds, hd with | [_, _, _, _, _], _ => rfl) (by kernel_rfl) law W base args ds gs before hval hW

theorem over : Rows.chainTowerRow.holds Try.pinned (OpenSpec.ofChange Rows.chainTowerSpec) :=
  OpenClaim.holds_of_wide 10 Try.f10 rfl rfl rfl rfl rfl rfl rfl ⟨rfl, rfl, rfl, rfl, rfl⟩ rfl rfl rfl rfl rfl (by kernel_rfl) Try.func10 (by kernel_rfl)
    (of_decide_eq_true (by kernel_rfl)) (by unfold Func.isWrapper; first | (rw [if_pos (by decide +kernel)]; kernel_rfl) | (rw [if_neg (by decide +kernel)]; exact ⟨rfl, rfl⟩))
    (fun os started H enc _ => lifted os started H enc)

theorem proved : Rows.ChainTowerSaid :=
  over
end Go.Proofs.Ytjampffmlnplcaa.chainTower
