/-
  'Rows.LedgerGoesSaid' is proved: the law returns true. No conditions.
-/
import Derived.Test.YtmkmimgokagimaaGreatLeGoes
import Derived.Test.YtmkmimgokagimaaGreatMLeRep
import Derived.Test.YtmkmimgokagimaaGreatLeJoin5
set_option linter.unusedVariables false
set_option maxRecDepth 1000000
namespace Go.Proofs.YtmkmimgokagimaaGreat.ledgerGoes
open Go.Ab Go.ChangeShapes Go.WideShapes Go.RowKit
theorem law(xs:List AV)(h:ShVs env.P 20 Tryz.f5.params.toList xs):limf env 5 xs=some (aB true):=by
 rw[show Tryz.f5.params.toList=[25,26,62] from by kernel_rfl]at h
 obtain⟨x0,xs,rfl,h0,h⟩:=vu h
 obtain⟨x1,xs,rfl,h1,h⟩:=vu h
 obtain⟨x2,xs,rfl,h2,h⟩:=vu h
 obtain rfl:=HF h
 obtain⟨us,qs,gr,xu,xq,rfl,hu,hq⟩:=N5 h0
 obtain⟨l,hl,hx⟩:=KS h1
 obtain⟨⟨⟨k,u,⟨a_1,⟨a_2,a_3,a_4⟩,a_5,⟨⟨⟨a_6,a_7,a_8⟩,a_9⟩,a_10⟩,⟨⟨a_11,a_12,a_13⟩,a_14⟩,⟨a_15,a_16⟩,al⟩,c,g1,v,w,o⟩,x⟩,hax,rfl⟩:=N4 h2
 exact I3 (gr:=gr) hu hq hx hl k u a_1 a_2 a_3 a_4 a_5 a_6 a_7 a_8 a_9 a_10 a_11 a_12 a_13 a_14 a_15 a_16 c g1 v w o hax
theorem lifted(os:Os)(started:os.Started)(H:Type)(enc:TypeId × Value→H) :
 ReturnsInHanded {} Tryz.checked os 5 .any (Rows.ledgerGoesSpec.pre6 enc Tryz.prog Tryz.f5 Rows.ledgerGoesRow.domain false) (Rows.ledgerGoesSpec.post enc Tryz.prog Tryz.f5 false true false false):=by
 refine returnsInHanded_of_change (C:=Tryz.checked) own started (by kernel_rfl) Tryz.func5
  (ChangeSpec.witness6 (enc:=enc) (C:=Tryz.checked) false ⟨#[], #[.agg #[.slice none 0 0,.slice none 0 0,.int .i64 0],.slice none 0 0,.agg #[.int .u8 0,.int .i64 0,.int .u8 0,.int .u8 0,.int .u32 0,.int .u8 0,.int .i64 0,.int .u8 0,.int .u32 0,.int .u8 0,.int .i64 0,.int .i64 0,.int .u8 0,.int .u32 0,.int .u8 0,.int .i64 0,.int .u8 0,.int .u32 0,.slice none 0 0,.int .i64 0,.int .i64 0,.int .u8 0,.int .u32 0,.bool false]],[]⟩ 8 (by kernel_rfl) (by kernel_rfl) (by kernel_rfl) (by kernel_rfl)) ?_
 intro W base args ds gs before hval hW _ _
 exact zg (E:=env) SP kids (slices_full_of Tryz.prog (by kernel_rfl)) (m:=20) (fun t ht=>of_decide_eq_true (List.all_eq_true.1 (show Tryz.f5.params.toList.all (fun t=>decide (t<Tryz.prog.types.size))=true by kernel_rfl) t ht)) (by kernel_rfl) rfl
  (fun ds hd=>by match ds,hd with | [_,_,_],_=>rfl) (by kernel_rfl) law W base args ds gs before hval hW
theorem over:Rows.ledgerGoesRow.holds Tryz.pinned (OpenSpec.ofChange Rows.ledgerGoesSpec) :=
 OpenClaim.holds_of_wide 5 Tryz.f5 rfl rfl rfl rfl rfl rfl rfl ⟨rfl,rfl,rfl,rfl,rfl⟩ rfl rfl rfl rfl rfl (by kernel_rfl) Tryz.func5 OT
  (of_decide_eq_true (by kernel_rfl)) (by unfold Func.isWrapper;first | (rw[if_pos (by decide +kernel)];kernel_rfl) | (rw[if_neg (by decide +kernel)];exact⟨rfl,rfl⟩))
  (fun os started H enc _=>lifted os started H enc)
theorem proved:Rows.LedgerGoesSaid :=
 over
end Go.Proofs.YtmkmimgokagimaaGreat.ledgerGoes
