/-
  'Rows.RunTellsSaid' is proved: the law returns true. No conditions.
-/
import Derived.Test.YtjampffmlnplcaaRnAll
import Derived.Test.YtjampffmlnplcaaRnRep
set_option linter.unusedVariables false
set_option maxRecDepth 1000000
namespace Go.Proofs.Ytjampffmlnplcaa.runTells
open Go.Ab Go.ChangeShapes Go.WideShapes Go.RowKit
theorem law(xs:List AV)(h:ShVs env.P 20 Try.f6.params.toList xs):limf env 6 xs=some (aB true):=by
 rw[show Try.f6.params.toList=[33,33,49,3] from by kernel_rfl]at h
 obtain⟨x0,xs,rfl,h0,h⟩:=lE h
 obtain⟨x1,xs,rfl,h1,h⟩:=lE h
 obtain⟨x2,xs,rfl,h2,h⟩:=lE h
 obtain⟨x3,xs,rfl,h3,h⟩:=lE h
 obtain rfl:=xd h
 obtain⟨s,a,l,y,hl,sl,rfl⟩:=Bi h0
 obtain⟨s',a',l',y',hl',sl',rfl⟩:=Bi h1
 obtain⟨p,⟨sp,hp⟩,rfl⟩:=Bj h2
 obtain⟨i,_,rfl⟩:=Bh h3
 exact Bm _ _ _ _ _ _ _ _ _ _ _ _ _ _ _ _ _ _ _ _ _ _ _ _ _ _ _ _ _ _ _ _ _ _ _ sl sl' sp hl hl' hp
theorem lifted(os:Os)(started:os.Started)(H:Type)(enc:TypeId × Value→H) :
 ReturnsInHanded {} Try.checked os 6 .any (Rows.runTellsSpec.pre6 enc Try.prog Try.f6 Rows.runTellsRow.domain false) (Rows.runTellsSpec.post enc Try.prog Try.f6 false true false false):=by
 refine returnsInHanded_of_change (C:=Try.checked) own started (by kernel_rfl) Try.func6
  (ChangeSpec.witness6 (enc:=enc) (C:=Try.checked) false ⟨#[], #[.agg #[.int .u8 0,.int .u32 0,.int .u8 0,.int .i64 0,.int .i64 0,.int .u8 0,.int .u32 0,.int .u8 0,.int .i64 0,.slice none 0 0],.agg #[.int .u8 0,.int .u32 0,.int .u8 0,.int .i64 0,.int .i64 0,.int .u8 0,.int .u32 0,.int .u8 0,.int .i64 0,.slice none 0 0],.agg #[.int .u8 0,.int .u8 0,.int .u32 0,.int .u8 0,.int .i64 0,.int .u8 0,.int .u32 0,.int .u8 0,.int .i64 0,.int .i64 0,.int .u8 0,.int .u32 0,.int .u8 0,.int .i64 0,.int .u8 0,.int .u32 0,.slice none 0 0],.int .i64 0],[]⟩ 8 (by kernel_rfl) (by kernel_rfl) (by kernel_rfl) (by kernel_rfl)) ?_
 intro W base args ds gs before hval hW _ _
 exact o9 (E:=env) Ei kids (slices_full_of Try.prog (by kernel_rfl)) (m:=20) (fun t ht=>of_decide_eq_true (List.all_eq_true.1 (show Try.f6.params.toList.all (fun t=>decide (t<Try.prog.types.size))=true by kernel_rfl) t ht)) (by kernel_rfl) rfl
  (fun ds hd=>by match ds,hd with | [_,_,_,_],_=>rfl) (by kernel_rfl) law W base args ds gs before hval hW
theorem over:Rows.runTellsRow.holds Try.pinned (OpenSpec.ofChange Rows.runTellsSpec) :=
 OpenClaim.holds_of_wide 6 Try.f6 rfl rfl rfl rfl rfl rfl rfl ⟨rfl,rfl,rfl,rfl,rfl⟩ rfl rfl rfl rfl rfl (by kernel_rfl) Try.func6 (by kernel_rfl)
  (of_decide_eq_true (by kernel_rfl)) (by unfold Func.isWrapper;first | (rw[if_pos (by decide +kernel)];kernel_rfl) | (rw[if_neg (by decide +kernel)];exact⟨rfl,rfl⟩))
  (fun os started H enc _=>lifted os started H enc)
theorem proved:Rows.RunTellsSaid :=
 over
end Go.Proofs.Ytjampffmlnplcaa.runTells
