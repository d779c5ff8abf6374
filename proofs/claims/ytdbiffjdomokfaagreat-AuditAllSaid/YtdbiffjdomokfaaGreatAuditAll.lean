/-
  'Rows.AuditAllSaid' is proved: the law returns true. No conditions.
-/
import Derived.Test.YtdbiffjdomokfaaGreatMAuAll2
import Derived.Test.YtdbiffjdomokfaaGreatMAuRep
import Derived.Test.YtdbiffjdomokfaaGreatMAuSent2
set_option linter.unusedVariables false
set_option maxRecDepth 1000000
namespace Go.Proofs.YtdbiffjdomokfaaGreat.auditAll
open Go.Ab Go.ChangeShapes Go.WideShapes Go.RowKit
theorem law(xs:List AV)(h:Jl env.P 20 Tryz.f5.params.toList xs):bj env 5 xs=some (aB true):=by
 rw[show Tryz.f5.params.toList=[29,31,35] from by kernel_rfl]at h
 obtain⟨x0,xs,rfl,h0,h⟩:=zj h
 obtain⟨x1,xs,rfl,h1,h⟩:=zj h
 obtain⟨x2,xs,rfl,h2,h⟩:=zj h
 obtain rfl:=Mb h
 obtain⟨us,qs,gr,xu,xq,rfl,hu,hq⟩:=R2 h0
 obtain⟨l,hl,hx⟩:=Ph h1
 obtain⟨y2,rfl,h2'⟩:=h2.agg (by simp)
 obtain⟨⟨v1,v2⟩,_,rfl⟩:=vE _ _ h2'
 exact Om (gr:=gr) hu hq hx hl v1 v2
theorem lifted(os:Os)(started:os.Started)(H:Type)(enc:TypeId × Value→H) :
 ReturnsInHanded {} Tryz.checked os 5 .any (Rows.auditAllSpec.pre6 enc Tryz.prog Tryz.f5 Rows.auditAllRow.domain false) (Rows.auditAllSpec.post enc Tryz.prog Tryz.f5 false true false false):=by
 refine returnsInHanded_of_change (C:=Tryz.checked) own started (by kernel_rfl) Tryz.func5
  (ChangeSpec.witness6 (enc:=enc) (C:=Tryz.checked) false ⟨#[], #[.agg #[.slice none 0 0,.slice none 0 0,.int .i64 0],.slice none 0 0,.agg #[.int .u8 0,.int .u32 0]],[]⟩ 8 (by kernel_rfl) (by kernel_rfl) (by kernel_rfl) (by kernel_rfl)) ?_
 intro W base args ds gs before hval hW _ _
 exact Db (E:=env) Xr kids (slices_full_of Tryz.prog (by kernel_rfl)) (m:=20) (fun t ht=>of_decide_eq_true (List.all_eq_true.1 (show Tryz.f5.params.toList.all (fun t=>decide (t<Tryz.prog.types.size))=true by kernel_rfl) t ht)) (by kernel_rfl) rfl
  (fun ds hd=>by match ds,hd with | [_,_,_],_=>rfl) (by kernel_rfl) law W base args ds gs before hval hW
theorem pz:Rows.auditAllRow.holds Tryz.pinned (OpenSpec.ofChange Rows.auditAllSpec) :=
 OpenClaim.holds_of_wide 5 Tryz.f5 rfl rfl rfl rfl rfl rfl rfl ⟨rfl,rfl,rfl,rfl,rfl⟩ rfl rfl rfl rfl rfl (by kernel_rfl) Tryz.func5 SW
  (of_decide_eq_true (by kernel_rfl)) (by unfold Func.isWrapper;first | (rw[if_pos (by decide +kernel)];kernel_rfl) | (rw[if_neg (by decide +kernel)];exact⟨rfl,rfl⟩))
  (fun os started H enc _=>lifted os started H enc)
theorem proved:Rows.AuditAllSaid :=
 pz
end Go.Proofs.YtdbiffjdomokfaaGreat.auditAll
