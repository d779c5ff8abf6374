/-
  'Rows.StoreDaysSaid' is proved: the law returns true. No conditions.
-/
import Derived.Test.YtiidajnodhkidaaGreatStRep
import Derived.Test.YtiidajnodhkidaaGreatMStOk
set_option linter.unusedVariables false
set_option maxRecDepth 1000000
namespace Go.Proofs.YtiidajnodhkidaaGreat.storeDays
open Go.Ab Go.ChangeShapes Go.WideShapes Go.RowKit
theorem law(xs:List AV)(h:ShVs env.P 20 Tryz.f4.params.toList xs):limf env 4 xs=some (aB true):=by
 rw[show Tryz.f4.params.toList=[3,59] from by kernel_rfl]at h
 obtain⟨x0,xs,rfl,h0,h⟩:=CI h
 obtain⟨x1,xs,rfl,h1,h⟩:=CI h
 obtain rfl:=Lt h
 obtain⟨n,_,rfl⟩:=SH h0
 obtain⟨l,hl,hx⟩:=OS h1
 exact M8 hx hl n
theorem lifted(os:Os)(started:os.Started)(H:Type)(enc:TypeId × Value→H) :
 ReturnsInHanded {} Tryz.checked os 4 .any (Rows.storeDaysSpec.pre6 enc Tryz.prog Tryz.f4 Rows.storeDaysRow.domain false) (Rows.storeDaysSpec.post enc Tryz.prog Tryz.f4 false true false false):=by
 refine returnsInHanded_of_change (C:=Tryz.checked) own started (by kernel_rfl) Tryz.func4
  (ChangeSpec.witness6 (enc:=enc) (C:=Tryz.checked) false ⟨#[], #[.int .i64 0,.slice none 0 0],[]⟩ 8 (by kernel_rfl) (by kernel_rfl) (by kernel_rfl) (by kernel_rfl)) ?_
 intro W base args ds gs before hval hW _ _
 exact Bm (E:=env) M5 kids (slices_full_of Tryz.prog (by kernel_rfl)) (m:=20) (fun t ht=>of_decide_eq_true (List.all_eq_true.1 (show Tryz.f4.params.toList.all (fun t=>decide (t<Tryz.prog.types.size))=true by kernel_rfl) t ht)) (by kernel_rfl) rfl
  (fun ds hd=>by match ds,hd with | [_,_],_=>rfl) (by kernel_rfl) law W base args ds gs before hval hW
theorem over:Rows.storeDaysRow.holds Tryz.pinned (OpenSpec.ofChange Rows.storeDaysSpec) :=
 OpenClaim.holds_of_wide 4 Tryz.f4 rfl rfl rfl rfl rfl rfl rfl ⟨rfl,rfl,rfl,rfl,rfl⟩ rfl rfl rfl rfl rfl (by kernel_rfl) Tryz.func4 (by kernel_rfl)
  (of_decide_eq_true (by kernel_rfl)) (by unfold Func.isWrapper;first | (rw[if_pos (by decide +kernel)];kernel_rfl) | (rw[if_neg (by decide +kernel)];exact⟨rfl,rfl⟩))
  (fun os started H enc _=>lifted os started H enc)
theorem proved:Rows.StoreDaysSaid :=
 over
end Go.Proofs.YtiidajnodhkidaaGreat.storeDays
