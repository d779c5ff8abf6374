/-
  'Rows.GrantTellsSaid' is proved: the law returns true. No conditions.
-/
import Derived.Test.YtgooemdlilfkmaaGtAll
import Derived.Test.YtgooemdlilfkmaaGlRep
set_option linter.unusedVariables false
set_option maxRecDepth 1000000
namespace Go.Proofs.Ytgooemdlilfkmaa.grantTells
open Go.Ab Go.ChangeShapes Go.WideShapes Go.RowKit
theorem law(xs:List AV)(h:ShVs env.P 20 Try.f8.params.toList xs):limf env 8 xs=some (aB true):=by
 rw[show Try.f8.params.toList=[33,59,70] from by kernel_rfl]at h
 obtain⟨x0,xs,rfl,h0,h⟩:=mA h
 obtain⟨x1,xs,rfl,h1,h⟩:=mA h
 obtain⟨x2,xs,rfl,h2,h⟩:=mA h
 obtain rfl:=vp h
 obtain⟨us,qs,gr,xu,xq,rfl,su,sq⟩:=zD h0
 obtain⟨⟨u,v,c,o⟩,rfl⟩:=BS h1
 obtain⟨l,sl⟩:=zE h2
 exact sI su sq sl u v c o
theorem lifted(os:Os)(started:os.Started)(H:Type)(enc:TypeId × Value→H) :
 ReturnsInHanded {} Try.checked os 8 .any (Rows.grantTellsSpec.pre6 enc Try.prog Try.f8 Rows.grantTellsRow.domain false) (Rows.grantTellsSpec.post enc Try.prog Try.f8 false true false false):=by
 refine returnsInHanded_of_change (C:=Try.checked) own started (by kernel_rfl) Try.func8
  (ChangeSpec.witness6 (enc:=enc) (C:=Try.checked) false ⟨#[], #[.agg #[.slice none 0 0,.slice none 0 0,.int .i64 0],.agg #[.int .i64 0,.int .u8 0,.int .u32 0,.bool false],.slice none 0 0],[]⟩ 8 (by kernel_rfl) (by kernel_rfl) (by kernel_rfl) (by kernel_rfl)) ?_
 intro W base args ds gs before hval hW _ _
 exact oK (E:=env) Cz kids (slices_full_of Try.prog (by kernel_rfl)) (m:=20) (fun t ht=>of_decide_eq_true (List.all_eq_true.1 (show Try.f8.params.toList.all (fun t=>decide (t<Try.prog.types.size))=true by kernel_rfl) t ht)) (by kernel_rfl) rfl
  (fun ds hd=>by match ds,hd with | [_,_,_],_=>rfl) (by kernel_rfl) law W base args ds gs before hval hW
theorem over:Rows.grantTellsRow.holds Try.pinned (OpenSpec.ofChange Rows.grantTellsSpec) :=
 OpenClaim.holds_of_wide 8 Try.f8 rfl rfl rfl rfl rfl rfl rfl ⟨rfl,rfl,rfl,rfl,rfl⟩ rfl rfl rfl rfl rfl (by kernel_rfl) Try.func8 (by kernel_rfl)
  (of_decide_eq_true (by kernel_rfl)) (by unfold Func.isWrapper;first | (rw[if_pos (by decide +kernel)];kernel_rfl) | (rw[if_neg (by decide +kernel)];exact⟨rfl,rfl⟩))
  (fun os started H enc _=>lifted os started H enc)
theorem proved:Rows.GrantTellsSaid :=
 over
end Go.Proofs.Ytgooemdlilfkmaa.grantTells
