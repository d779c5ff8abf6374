/-
  'Rows.LedgerOnceSaid' is proved: the law returns true. No conditions.
-/
import Derived.Test.YtmkmimgokagimaaGreatLeOnce4
import Derived.Test.YtmkmimgokagimaaGreatMLeRep
import Derived.Test.YtmkmimgokagimaaGreatLeJoin7
set_option linter.unusedVariables false
set_option maxRecDepth 1000000
namespace Go.Proofs.YtmkmimgokagimaaGreat.ledgerOnce
open Go.Ab Go.ChangeShapes Go.WideShapes Go.RowKit
theorem law(xs:List AV)(h:ShVs env.P 20 Tryz.f7.params.toList xs):limf env 7 xs=some (aB true):=by
 rw[show Tryz.f7.params.toList=[25,26,29,3] from by kernel_rfl]at h
 obtain⟨x0,xs,rfl,h0,h⟩:=rW h
 obtain⟨x1,xs,rfl,h1,h⟩:=rW h
 obtain⟨x2,xs,rfl,h2,h⟩:=rW h
 obtain⟨x3,xs,rfl,h3,h⟩:=rW h
 obtain rfl:=HW h
 obtain⟨us,qs,gr,xu,xq,rfl,hu,hq⟩:=Oc h0
 obtain⟨l,hl,hx⟩:=K0 h1
 obtain⟨y,rfl,h2'⟩:=h2.agg (by simp)
 obtain⟨⟨v1,v2⟩,_,rfl⟩:=tk _ _ h2'
 obtain⟨many,_,e3⟩:=mr (P:=env.P) (t:=3) (by simp) _ _ (h3.cell (by simp))
 cases e3
 exact IT (gr:=gr) hu hq hx hl v1 v2 many
theorem lifted(os:Os)(started:os.Started)(H:Type)(enc:TypeId × Value→H) :
 ReturnsInHanded {} Tryz.checked os 7 .any (Rows.ledgerOnceSpec.pre6 enc Tryz.prog Tryz.f7 Rows.ledgerOnceRow.domain false) (Rows.ledgerOnceSpec.post enc Tryz.prog Tryz.f7 false true false false):=by
 refine returnsInHanded_of_change (C:=Tryz.checked) own started (by kernel_rfl) Tryz.func7
  (ChangeSpec.witness6 (enc:=enc) (C:=Tryz.checked) false ⟨#[], #[.agg #[.slice none 0 0,.slice none 0 0,.int .i64 0],.slice none 0 0,.agg #[.int .u8 0,.int .u32 0],.int .i64 0],[]⟩ 8 (by kernel_rfl) (by kernel_rfl) (by kernel_rfl) (by kernel_rfl)) ?_
 intro W base args ds gs before hval hW _ _
 exact zw (E:=env) S5 kids (slices_full_of Tryz.prog (by kernel_rfl)) (m:=20) (fun t ht=>of_decide_eq_true (List.all_eq_true.1 (show Tryz.f7.params.toList.all (fun t=>decide (t<Tryz.prog.types.size))=true by kernel_rfl) t ht)) (by kernel_rfl) rfl
  (fun ds hd=>by match ds,hd with | [_,_,_,_],_=>rfl) (by kernel_rfl) law W base args ds gs before hval hW
theorem over:Rows.ledgerOnceRow.holds Tryz.pinned (OpenSpec.ofChange Rows.ledgerOnceSpec) :=
 OpenClaim.holds_of_wide 7 Tryz.f7 rfl rfl rfl rfl rfl rfl rfl ⟨rfl,rfl,rfl,rfl,rfl⟩ rfl rfl rfl rfl rfl (by kernel_rfl) Tryz.func7 O8
  (of_decide_eq_true (by kernel_rfl)) (by unfold Func.isWrapper;first | (rw[if_pos (by decide +kernel)];kernel_rfl) | (rw[if_neg (by decide +kernel)];exact⟨rfl,rfl⟩))
  (fun os started H enc _=>lifted os started H enc)
theorem proved:Rows.LedgerOnceSaid :=
 over
end Go.Proofs.YtmkmimgokagimaaGreat.ledgerOnce
