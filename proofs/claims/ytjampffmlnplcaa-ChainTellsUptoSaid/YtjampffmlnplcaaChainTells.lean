/-
  'Rows.ChainTellsUptoSaid' is proved: the law returns true where what it reads is of bulk at most 1048576.
-/
import Derived.Test.YtjampffmlnplcaaChTells
import Derived.Test.YtjampffmlnplcaaOpRepR
set_option linter.unusedVariables false
set_option maxRecDepth 1000000
namespace Go.Proofs.Ytjampffmlnplcaa.chainTells
open Go.Ab Go.ChangeShapes Go.WideShapes Go.RowKit

theorem law (xs : List AV) (h : ShVs env.P 20 Try.f9.params.toList xs) (hs : ∀ x ∈ xs, Slim 1048576 x) : limf env 9 xs = some (aB true) := by
  rw [show Try.f9.params.toList = [63, 49, 28, 24] from by kernel_rfl] at h
  obtain ⟨x0, xs, rfl, h0, h⟩ := shvs_cons h
  obtain ⟨x1, xs, rfl, h1, h⟩ := shvs_cons h
  obtain ⟨x2, xs, rfl, h2, h⟩ := shvs_cons h
  obtain ⟨x3, xs, rfl, h3, h⟩ := shvs_cons h
  obtain rfl := shvs_nil h
  obtain ⟨l, hl, sl⟩ := sh_OpsR h0
  obtain ⟨p, hp, rfl⟩ := sh_OpR h1
  obtain ⟨i, rfl⟩ := sh_Id h2
  obtain ⟨a, b, rfl⟩ := sh_Lab h3
  have hN := slim_Ops sl (fun p hp => (hl p hp).1) (hs x0 (by simp))
  exact tells_law sl (fun p hp => (hl p hp).1) (fun p hp => (hl p hp).2) hN _ _ _ _ _ _ _ _ _ _ _ _ _ _ _ _ hp.1 hp.2 _ _ _ _ a b

/-- What is handed in to show that the law can be called. -/
def wit : Input := ⟨#[], #[.slice none 0 0, .agg #[.int .u8 0, .int .u8 0, .int .u32 0, .int .u8 0, .int .i64 0, .int .u8 0, .int .u32 0, .int .u8 0, .int .i64 0, .int .i64 0, .int .u8 0, .int .u32 0, .int .u8 0, .int .i64 0, .int .u8 0, .int .u32 0, .slice none 0 0], .agg #[.int .u8 0, .int .u32 0, .int .u8 0, .int .i64 0], .agg #[.int .u8 0, .int .u32 0]], []⟩
theorem lifted (os : Os) (started : os.Started) (H : Type) (enc : TypeId × Value → H) (F0 : Stop.Interp) :
    ReturnsInHanded {} Try.checked os 9 .any ((Rows.OpenSpec.upto Rows.chainTellsSpec).pre6 enc Try.prog Try.f9 Rows.chainTellsUptoRow.domain false) (((Rows.OpenSpec.upto Rows.chainTellsSpec).at F0).post enc Try.prog Try.f9 false true false false) := by
  refine returnsInHanded_of_cond (C := Try.checked) (s := Rows.OpenSpec.upto Rows.chainTellsSpec) (k := Rows.uptoSmall) rfl own started (by kernel_rfl) Try.func9
    (OpenSpec.witness (enc := enc) (C := Try.checked) (s := Rows.OpenSpec.upto Rows.chainTellsSpec) (k := Rows.uptoSmall) rfl false wit 8 (by kernel_rfl) (by kernel_rfl) (by kernel_rfl)
      (x := (DataW.whole enc Try.prog (World.plainHolding Try.prog os wit).memory Try.f9.params.toList [] false wit.args.toList 8).get (by kernel_rfl)) (Option.some_get _).symm (by kernel_rfl) (by kernel_rfl)) ?_
  intro W base args ds gs before hval hW _ hk _
  exact open_contractU (E := env) envOk kids (slices_full_of Try.prog (by kernel_rfl)) (s := (Rows.OpenSpec.upto Rows.chainTellsSpec).at F0) (m := 20) (fun t ht => of_decide_eq_true (List.all_eq_true.1 (show Try.f9.params.toList.all (fun t => decide (t < Try.prog.types.size)) = true by kernel_rfl) t ht)) (by kernel_rfl) rfl
    (fun ds hd => by match ds, hd with | [_, _, _, _], _ => rfl) (by kernel_rfl) bulk_slice bulk_agg law W base args ds gs before hval hW (bulk_small hk)

theorem over : Rows.chainTellsUptoRow.holds Try.pinned (Rows.OpenSpec.upto Rows.chainTellsSpec) :=
  OpenClaim.holds_of_cond 9 Try.f9 rfl rfl rfl rfl rfl rfl rfl ⟨rfl, rfl, rfl, rfl, rfl⟩ rfl rfl rfl rfl rfl (by kernel_rfl) Try.func9 (by kernel_rfl)
    (of_decide_eq_true (by kernel_rfl)) (by unfold Func.isWrapper; first | (rw [if_pos (by decide +kernel)]; kernel_rfl) | (rw [if_neg (by decide +kernel)]; exact ⟨rfl, rfl⟩))
    (fun os started H enc _ F0 => lifted os started H enc F0)

theorem proved : Rows.ChainTellsUptoSaid :=
  over
end Go.Proofs.Ytjampffmlnplcaa.chainTells
