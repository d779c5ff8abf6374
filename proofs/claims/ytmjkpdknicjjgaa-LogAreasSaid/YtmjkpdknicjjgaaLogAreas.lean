/-
  'Rows.LogAreasSaid' is proved: the law returns true. No conditions.
-/
import Derived.Test.YtmjkpdknicjjgaaLogAreas0
import Derived.Test.YtmjkpdknicjjgaaMRcRep
set_option linter.unusedVariables false
set_option maxRecDepth 1000000
namespace Go.Proofs.Ytmjkpdknicjjgaa.logAreas
open Go.Ab Go.ChangeShapes Go.WideShapes Go.RowKit
theorem law (xs:List AV) (h:ShVs env.P 20 Try.f4.params.toList xs):limf env 4 xs=some (aB true):=by
 rw [show Try.f4.params.toList=[50,3,3,48,3] from by kernel_rfl] at h
 obtain ⟨x0,xs,rfl,h0,h⟩:=pk h
 obtain ⟨x1,xs,rfl,h1,h⟩:=pk h
 obtain ⟨x2,xs,rfl,h2,h⟩:=pk h
 obtain ⟨x3,xs,rfl,h3,h⟩:=pk h
 obtain ⟨x4,xs,rfl,h4,h⟩:=pk h
 obtain rfl:=Iw h
 obtain ⟨l,hl,hx⟩:=Lm h0
 obtain ⟨ar,_,rfl⟩:=FF h1
 obtain ⟨ot,_,rfl⟩:=FF h2
 obtain ⟨p,hp,rfl⟩:=OH h3
 obtain ⟨pl,_,rfl⟩:=FF h4
 exact HJ hx hl p.1 hp ar ot pl
theorem lifted (os:Os) (started:os.Started) (H:Type) (enc:TypeId × Value→H) :
 ReturnsInHanded {} Try.checked os 4 .any (Rows.logAreasSpec.pre6 enc Try.prog Try.f4 Rows.logAreasRow.domain false) (Rows.logAreasSpec.post enc Try.prog Try.f4 false true false false):=by
 refine returnsInHanded_of_change (C:=Try.checked) own started (by kernel_rfl) Try.func4
  (ChangeSpec.witness6 (enc:=enc) (C:=Try.checked) false ⟨#[], #[.slice none 0 0,.int .i64 0,.int .i64 0,.agg #[.int .u8 0,.int .i64 0,.int .u8 0,.int .u8 0,.int .u32 0,.int .u8 0,.int .i64 0,.int .u8 0,.int .u32 0,.int .u8 0,.int .i64 0,.int .i64 0,.int .u8 0,.int .u32 0,.int .u8 0,.int .i64 0,.int .u8 0,.int .u32 0,.slice none 0 0,.int .i64 0,.int .i64 0,.int .u8 0,.int .u32 0,.bool false],.int .i64 0],[]⟩ 8 (by kernel_rfl) (by kernel_rfl) (by kernel_rfl) (by kernel_rfl)) ?_
 intro W base args ds gs before hval hW _ _
 exact yP (E:=env) JV kids (slices_full_of Try.prog (by kernel_rfl)) (m:=20) (fun t ht=>of_decide_eq_true (List.all_eq_true.1 (show Try.f4.params.toList.all (fun t=>decide (t<Try.prog.types.size))=true by kernel_rfl) t ht)) (by kernel_rfl) rfl
  (fun ds hd=>by match ds,hd with | [_,_,_,_,_],_=>rfl) (by kernel_rfl) law W base args ds gs before hval hW
theorem over:Rows.logAreasRow.holds Try.pinned (OpenSpec.ofChange Rows.logAreasSpec) :=
 OpenClaim.holds_of_wide 4 Try.f4 rfl rfl rfl rfl rfl rfl rfl ⟨rfl,rfl,rfl,rfl,rfl⟩ rfl rfl rfl rfl rfl (by kernel_rfl) Try.func4 (by kernel_rfl)
  (of_decide_eq_true (by kernel_rfl)) (by unfold Func.isWrapper;first | (rw [if_pos (by decide +kernel)];kernel_rfl) | (rw [if_neg (by decide +kernel)];exact ⟨rfl,rfl⟩))
  (fun os started H enc _=>lifted os started H enc)
theorem proved:Rows.LogAreasSaid :=
 over
end Go.Proofs.Ytmjkpdknicjjgaa.logAreas
