/-
  'Rows.AuditNamesSaid' is proved: the law returns true. No conditions.
-/
import Derived.Test.YtdbiffjdomokfaaGreatAuNames
import Derived.Test.YtdbiffjdomokfaaGreatMAuRep
set_option linter.unusedVariables false
set_option maxRecDepth 1000000
namespace Go.Proofs.YtdbiffjdomokfaaGreat.auditNames
open Go.Ab Go.ChangeShapes Go.WideShapes Go.RowKit
theorem own:ownKnob Tryz.prog.godebug=none:=by kernel_rfl
theorem kids:Kids Tryz.prog (· < Tryz.prog.types.size):=kids_rows (by kernel_rfl) (by kernel_rfl)
theorem lifted(os:Os)(started:os.Started)(H:Type)(enc:TypeId × Value→H) :
 ReturnsInHanded {} Tryz.checked os 3 .any (Rows.auditNamesSpec.pre6 enc Tryz.prog Tryz.f3 Rows.auditNamesRow.domain false) (Rows.auditNamesSpec.post enc Tryz.prog Tryz.f3 false true false false):=by
 refine returnsInHanded_of_change (C:=Tryz.checked) own started (by kernel_rfl) Tryz.func3
  (ChangeSpec.witness6 (enc:=enc) (C:=Tryz.checked) false ⟨#[], #[],[]⟩ 8 (by kernel_rfl) (by kernel_rfl) (by kernel_rfl) (by kernel_rfl)) ?_
 intro W base args ds gs before hval hW _ _
 obtain⟨n,hn⟩:=uK.1 JI
 exact zK (E:=env) VA kids (slices_full_of Tryz.prog (by kernel_rfl)) (by kernel_rfl) rfl rfl (by kernel_rfl) (hn n (Nat.le_refl _)) W args ds gs before hW
theorem oX:Rows.auditNamesRow.holds Tryz.pinned (OpenSpec.ofChange Rows.auditNamesSpec) :=
 OpenClaim.holds_of_wide 3 Tryz.f3 rfl rfl rfl rfl rfl rfl rfl ⟨rfl,rfl,rfl,rfl,rfl⟩ rfl rfl rfl rfl rfl (by kernel_rfl) Tryz.func3 (by kernel_rfl)
  (of_decide_eq_true (by kernel_rfl)) (by unfold Func.isWrapper;first | (rw[if_pos (by decide +kernel)];kernel_rfl) | (rw[if_neg (by decide +kernel)];exact⟨rfl,rfl⟩))
  (fun os started H enc _=>lifted os started H enc)
theorem proved:Rows.AuditNamesSaid :=
 oX
end Go.Proofs.YtdbiffjdomokfaaGreat.auditNames
