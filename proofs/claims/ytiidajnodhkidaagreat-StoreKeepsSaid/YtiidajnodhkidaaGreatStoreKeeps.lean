/-
  'Rows.StoreKeepsSaid' is proved: the law returns true. No conditions.
-/
import Derived.Test.YtiidajnodhkidaaGreatMStRepS
import Derived.Test.YtiidajnodhkidaaGreatStKeep
set_option linter.unusedVariables false
set_option maxRecDepth 1000000
namespace Go.Proofs.YtiidajnodhkidaaGreat.storeKeeps
open Go.Ab Go.ChangeShapes Go.WideShapes Go.RowKit
theorem law(xs:List AV)(h:ShVs env.P 20 Tryz.f7.params.toList xs):limf env 7 xs=some (aB true):=by
 rw[show Tryz.f7.params.toList=[29,25] from by kernel_rfl]at h
 obtain⟨x0,xs,rfl,h0,h⟩:=CF h
 obtain⟨x1,xs,rfl,h1,h⟩:=CF h
 obtain rfl:=Lr h
 obtain⟨d,R,ro,g,k,a,hs,hd,hR,hro,rfl⟩:=Su h0
 obtain⟨l,hl,hx⟩:=OK h1
 exact JV hx hl hd hs hro hR g k a
theorem lifted(os:Os)(started:os.Started)(H:Type)(enc:TypeId × Value→H) :
 ReturnsInHanded {} Tryz.checked os 7 .any (Rows.storeKeepsSpec.pre6 enc Tryz.prog Tryz.f7 Rows.storeKeepsRow.domain false) (Rows.storeKeepsSpec.post enc Tryz.prog Tryz.f7 false true false false):=by
 refine returnsInHanded_of_change (C:=Tryz.checked) own started (by kernel_rfl) Tryz.func7
  (ChangeSpec.witness6 (enc:=enc) (C:=Tryz.checked) false ⟨#[], #[.agg #[.slice none 0 0,.int .i64 0,.int .i64 0,.bool false,.slice none 0 0,.int .i64 0,.int .i64 0,.int .i64 0],.slice none 0 0],[]⟩ 8 (by kernel_rfl) (by kernel_rfl) (by kernel_rfl) (by kernel_rfl)) ?_
 intro W base args ds gs before hval hW _ _
 exact Be (E:=env) MY kids (slices_full_of Tryz.prog (by kernel_rfl)) (m:=20) (fun t ht=>of_decide_eq_true (List.all_eq_true.1 (show Tryz.f7.params.toList.all (fun t=>decide (t<Tryz.prog.types.size))=true by kernel_rfl) t ht)) (by kernel_rfl) rfl
  (fun ds hd=>by match ds,hd with | [_,_],_=>rfl) (by kernel_rfl) law W base args ds gs before hval hW
theorem over:Rows.storeKeepsRow.holds Tryz.pinned (OpenSpec.ofChange Rows.storeKeepsSpec) :=
 OpenClaim.holds_of_wide 7 Tryz.f7 rfl rfl rfl rfl rfl rfl rfl ⟨rfl,rfl,rfl,rfl,rfl⟩ rfl rfl rfl rfl rfl (by kernel_rfl) Tryz.func7 (by kernel_rfl)
  (of_decide_eq_true (by kernel_rfl)) (by unfold Func.isWrapper;first | (rw[if_pos (by decide +kernel)];kernel_rfl) | (rw[if_neg (by decide +kernel)];exact⟨rfl,rfl⟩))
  (fun os started H enc _=>lifted os started H enc)
theorem proved:Rows.StoreKeepsSaid :=
 over
end Go.Proofs.YtiidajnodhkidaaGreat.storeKeeps
