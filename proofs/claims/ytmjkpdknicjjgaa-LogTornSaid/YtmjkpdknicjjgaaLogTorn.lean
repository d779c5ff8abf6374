/-
  'Rows.LogTornSaid' is proved: the law returns true. No conditions.
-/
import Derived.Test.YtmjkpdknicjjgaaTorn0
import Derived.Test.YtmjkpdknicjjgaaMRcRep
import Derived.Test.YtmjkpdknicjjgaaLogOk
set_option linter.unusedVariables false
set_option maxRecDepth 1000000
namespace Go.Proofs.Ytmjkpdknicjjgaa.logTorn
open Go.Ab Go.ChangeShapes Go.WideShapes Go.RowKit
theorem law (xs:List AV) (h:ShVs env.P 20 Try.f5.params.toList xs):limf env 5 xs=some (aB true):=by
 rw [show Try.f5.params.toList=[50,3,50] from by kernel_rfl] at h
 obtain ⟨x0,xs,rfl,h0,h⟩:=vk h
 obtain ⟨x1,xs,rfl,h1,h⟩:=vk h
 obtain ⟨x2,xs,rfl,h2,h⟩:=vk h
 obtain rfl:=Je h
 obtain ⟨l,hl,hx⟩:=F9 h0
 obtain ⟨n,_,rfl⟩:=Pq h1
 obtain ⟨m,hm,hy⟩:=F9 h2
 exact I4 hx hl hy hm n
theorem lifted (os:Os) (started:os.Started) (H:Type) (enc:TypeId × Value→H) :
 ReturnsInHanded {} Try.checked os 5 .any (Rows.logTornSpec.pre6 enc Try.prog Try.f5 Rows.logTornRow.domain false) (Rows.logTornSpec.post enc Try.prog Try.f5 false true false false):=by
 refine returnsInHanded_of_change (C:=Try.checked) own started (by kernel_rfl) Try.func5
  (ChangeSpec.witness6 (enc:=enc) (C:=Try.checked) false ⟨#[], #[.slice none 0 0,.int .i64 0,.slice none 0 0],[]⟩ 8 (by kernel_rfl) (by kernel_rfl) (by kernel_rfl) (by kernel_rfl)) ?_
 intro W base args ds gs before hval hW _ _
 exact zo (E:=env) KB kids (slices_full_of Try.prog (by kernel_rfl)) (m:=20) (fun t ht=>of_decide_eq_true (List.all_eq_true.1 (show Try.f5.params.toList.all (fun t=>decide (t<Try.prog.types.size))=true by kernel_rfl) t ht)) (by kernel_rfl) rfl
  (fun ds hd=>by match ds,hd with | [_,_,_],_=>rfl) (by kernel_rfl) law W base args ds gs before hval hW
theorem over:Rows.logTornRow.holds Try.pinned (OpenSpec.ofChange Rows.logTornSpec) :=
 OpenClaim.holds_of_wide 5 Try.f5 rfl rfl rfl rfl rfl rfl rfl ⟨rfl,rfl,rfl,rfl,rfl⟩ rfl rfl rfl rfl rfl (by kernel_rfl) Try.func5 (by kernel_rfl)
  (of_decide_eq_true (by kernel_rfl)) (by unfold Func.isWrapper;first | (rw [if_pos (by decide +kernel)];kernel_rfl) | (rw [if_neg (by decide +kernel)];exact ⟨rfl,rfl⟩))
  (fun os started H enc _=>lifted os started H enc)
theorem proved:Rows.LogTornSaid :=
 over
end Go.Proofs.Ytmjkpdknicjjgaa.logTorn
