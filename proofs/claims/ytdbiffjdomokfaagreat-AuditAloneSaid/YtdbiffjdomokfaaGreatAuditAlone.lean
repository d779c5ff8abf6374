/-
  'Rows.AuditAloneSaid' is proved: the law returns true. No conditions.
-/
import Derived.Test.YtdbiffjdomokfaaGreatAuAlone2
import Derived.Test.YtdbiffjdomokfaaGreatMAuRep
import Derived.Test.YtdbiffjdomokfaaGreatMAuSent2
set_option linter.unusedVariables false
set_option maxRecDepth 1000000
namespace Go.Proofs.YtdbiffjdomokfaaGreat.auditAlone
open Go.Ab Go.ChangeShapes Go.WideShapes Go.RowKit
theorem law(xs:List AV)(h:J7 env.P 20 Tryz.f6.params.toList xs):bj env 6 xs=some (aB true):=by
 rw[show Tryz.f6.params.toList=[29,31,35,48] from by kernel_rfl]at h
 obtain⟨x0,xs,rfl,h0,h⟩:=vZ h
 obtain⟨x1,xs,rfl,h1,h⟩:=vZ h
 obtain⟨x2,xs,rfl,h2,h⟩:=vZ h
 obtain⟨x3,xs,rfl,h3,h⟩:=vZ h
 obtain rfl:=M6 h
 obtain⟨us,qs,gr,xu,xq,rfl,hu,hq⟩:=SL h0
 obtain⟨l,hl,hx⟩:=P2 h1
 obtain⟨y2,rfl,h2'⟩:=h2.agg (by simp)
 obtain⟨⟨v1,v2⟩,_,rfl⟩:=wh _ _ h2'
 obtain⟨other,ho⟩:=M7 h3
 exact Is (gr:=gr) hu hq hx hl v1 v2 ho
theorem lifted(os:Os)(started:os.Started)(H:Type)(enc:TypeId × Value→H) :
 ReturnsInHanded {} Tryz.checked os 6 .any (Rows.auditAloneSpec.pre6 enc Tryz.prog Tryz.f6 Rows.auditAloneRow.domain false) (Rows.auditAloneSpec.post enc Tryz.prog Tryz.f6 false true false false):=by
 refine returnsInHanded_of_change (C:=Tryz.checked) own started (by kernel_rfl) Tryz.func6
  (ChangeSpec.witness6 (enc:=enc) (C:=Tryz.checked) false ⟨#[], #[.agg #[.slice none 0 0,.slice none 0 0,.int .i64 0],.slice none 0 0,.agg #[.int .u8 0,.int .u32 0],.slice none 0 0],[]⟩ 8 (by kernel_rfl) (by kernel_rfl) (by kernel_rfl) (by kernel_rfl)) ?_
 intro W base args ds gs before hval hW _ _
 exact DJ (E:=env) Yd kids (slices_full_of Tryz.prog (by kernel_rfl)) (m:=20) (fun t ht=>of_decide_eq_true (List.all_eq_true.1 (show Tryz.f6.params.toList.all (fun t=>decide (t<Tryz.prog.types.size))=true by kernel_rfl) t ht)) (by kernel_rfl) rfl
  (fun ds hd=>by match ds,hd with | [_,_,_,_],_=>rfl) (by kernel_rfl) law W base args ds gs before hval hW
theorem pP:Rows.auditAloneRow.holds Tryz.pinned (OpenSpec.ofChange Rows.auditAloneSpec) :=
 OpenClaim.holds_of_wide 6 Tryz.f6 rfl rfl rfl rfl rfl rfl rfl ⟨rfl,rfl,rfl,rfl,rfl⟩ rfl rfl rfl rfl rfl (by kernel_rfl) Tryz.func6 TA
  (of_decide_eq_true (by kernel_rfl)) (by unfold Func.isWrapper;first | (rw[if_pos (by decide +kernel)];kernel_rfl) | (rw[if_neg (by decide +kernel)];exact⟨rfl,rfl⟩))
  (fun os started H enc _=>lifted os started H enc)
theorem proved:Rows.AuditAloneSaid :=
 pP
end Go.Proofs.YtdbiffjdomokfaaGreat.auditAlone
