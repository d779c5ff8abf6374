/-
  'Rows.SlotsKeepSaid' is proved: the law returns true. No conditions.
-/
import Derived.Test.YtmjkpdknicjjgaaSlotLaw
import Derived.Test.YtmjkpdknicjjgaaMRcRep
import Derived.Test.YtmjkpdknicjjgaaLogOk
set_option linter.unusedVariables false
set_option maxRecDepth 1000000
namespace Go.Proofs.Ytmjkpdknicjjgaa.slotsKeep
open Go.Ab Go.ChangeShapes Go.WideShapes Go.RowKit
theorem law (xs:List AV) (h:ShVs env.P 20 Try.f7.params.toList xs):limf env 7 xs=some (aB true):=by
 rw [show Try.f7.params.toList=[50,50,3,50] from by kernel_rfl] at h
 obtain ⟨x0,xs,rfl,h0,h⟩:=sC h
 obtain ⟨x1,xs,rfl,h1,h⟩:=sC h
 obtain ⟨x2,xs,rfl,h2,h⟩:=sC h
 obtain ⟨x3,xs,rfl,h3,h⟩:=sC h
 obtain rfl:=J9 h
 obtain ⟨a,oa,ha⟩:=C4 h0
 obtain ⟨b,ob,hb⟩:=C4 h1
 obtain ⟨n,_,rfl⟩:=Qy h2
 obtain ⟨c,oc,hc⟩:=C4 h3
 exact Lb ha hb hc oa ob oc n
theorem lifted (os:Os) (started:os.Started) (H:Type) (enc:TypeId × Value→H) :
 ReturnsInHanded {} Try.checked os 7 .any (Rows.slotsKeepSpec.pre6 enc Try.prog Try.f7 Rows.slotsKeepRow.domain false) (Rows.slotsKeepSpec.post enc Try.prog Try.f7 false true false false):=by
 refine returnsInHanded_of_change (C:=Try.checked) own started (by kernel_rfl) Try.func7
  (ChangeSpec.witness6 (enc:=enc) (C:=Try.checked) false ⟨#[], #[.slice none 0 0,.slice none 0 0,.int .i64 0,.slice none 0 0],[]⟩ 8 (by kernel_rfl) (by kernel_rfl) (by kernel_rfl) (by kernel_rfl)) ?_
 intro W base args ds gs before hval hW _ _
 exact z5 (E:=env) Lw kids (slices_full_of Try.prog (by kernel_rfl)) (m:=20) (fun t ht=>of_decide_eq_true (List.all_eq_true.1 (show Try.f7.params.toList.all (fun t=>decide (t<Try.prog.types.size))=true by kernel_rfl) t ht)) (by kernel_rfl) rfl
  (fun ds hd=>by match ds,hd with | [_,_,_,_],_=>rfl) (by kernel_rfl) law W base args ds gs before hval hW
theorem over:Rows.slotsKeepRow.holds Try.pinned (OpenSpec.ofChange Rows.slotsKeepSpec) :=
 OpenClaim.holds_of_wide 7 Try.f7 rfl rfl rfl rfl rfl rfl rfl ⟨rfl,rfl,rfl,rfl,rfl⟩ rfl rfl rfl rfl rfl (by kernel_rfl) Try.func7 (by kernel_rfl)
  (of_decide_eq_true (by kernel_rfl)) (by unfold Func.isWrapper;first | (rw [if_pos (by decide +kernel)];kernel_rfl) | (rw [if_neg (by decide +kernel)];exact ⟨rfl,rfl⟩))
  (fun os started H enc _=>lifted os started H enc)
theorem proved:Rows.SlotsKeepSaid :=
 over
end Go.Proofs.Ytmjkpdknicjjgaa.slotsKeep
