/-
  'Rows.SlotsApartSaid' is proved: the law returns true. No conditions.
-/
import Derived.Test.YtmjkpdknicjjgaaMSlotApart
import Derived.Test.YtmjkpdknicjjgaaMLgVl7
set_option linter.unusedVariables false
set_option maxRecDepth 1000000
namespace Go.Proofs.Ytmjkpdknicjjgaa.slotsApart
open Go.Ab Go.ChangeShapes Go.WideShapes Go.RowKit
theorem law (xs:List AV) (h:ShVs env.P 20 Try.f8.params.toList xs):limf env 8 xs=some (aB true):=by
 rw [show Try.f8.params.toList=[24,3,5] from by kernel_rfl] at h
 obtain ⟨x0,xs,rfl,h0,h⟩:=vI h
 obtain ⟨x1,xs,rfl,h1,h⟩:=vI h
 obtain ⟨x2,xs,rfl,h2,h⟩:=vI h
 obtain rfl:=JC h
 obtain ⟨l,y,st,lf,dd,hok,hy,rfl⟩:=P5 h0
 obtain ⟨q,_,rfl⟩:=P4 h1
 obtain ⟨v,rfl⟩:=MB h2
 exact I4 hy hok q v
theorem lifted (os:Os) (started:os.Started) (H:Type) (enc:TypeId × Value→H) :
 ReturnsInHanded {} Try.checked os 8 .any (Rows.slotsApartSpec.pre6 enc Try.prog Try.f8 Rows.slotsApartRow.domain false) (Rows.slotsApartSpec.post enc Try.prog Try.f8 false true false false):=by
 refine returnsInHanded_of_change (C:=Try.checked) own started (by kernel_rfl) Try.func8
  (ChangeSpec.witness6 (enc:=enc) (C:=Try.checked) false ⟨#[], #[.agg #[.slice none 0 0,.int .i64 0,.int .i64 0,.bool false],.int .i64 0,.int .u8 0],[]⟩ 8 (by kernel_rfl) (by kernel_rfl) (by kernel_rfl) (by kernel_rfl)) ?_
 intro W base args ds gs before hval hW _ _
 exact zT (E:=env) K0 kids (slices_full_of Try.prog (by kernel_rfl)) (m:=20) (fun t ht=>of_decide_eq_true (List.all_eq_true.1 (show Try.f8.params.toList.all (fun t=>decide (t<Try.prog.types.size))=true by kernel_rfl) t ht)) (by kernel_rfl) rfl
  (fun ds hd=>by match ds,hd with | [_,_,_],_=>rfl) (by kernel_rfl) law W base args ds gs before hval hW
theorem over:Rows.slotsApartRow.holds Try.pinned (OpenSpec.ofChange Rows.slotsApartSpec) :=
 OpenClaim.holds_of_wide 8 Try.f8 rfl rfl rfl rfl rfl rfl rfl ⟨rfl,rfl,rfl,rfl,rfl⟩ rfl rfl rfl rfl rfl (by kernel_rfl) Try.func8 (by kernel_rfl)
  (of_decide_eq_true (by kernel_rfl)) (by unfold Func.isWrapper;first | (rw [if_pos (by decide +kernel)];kernel_rfl) | (rw [if_neg (by decide +kernel)];exact ⟨rfl,rfl⟩))
  (fun os started H enc _=>lifted os started H enc)
theorem proved:Rows.SlotsApartSaid :=
 over
end Go.Proofs.Ytmjkpdknicjjgaa.slotsApart
