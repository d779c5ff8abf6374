/-
  'Rows.LedgerAloneSaid' is proved: the law returns true. No conditions.
-/
import Derived.Test.YtmkmimgokagimaaGreatLeAlone2
import Derived.Test.YtmkmimgokagimaaGreatMLeRep
import Derived.Test.YtmkmimgokagimaaGreatMAliveLd
set_option linter.unusedVariables false
set_option maxRecDepth 1000000
namespace Go.Proofs.YtmkmimgokagimaaGreat.ledgerAlone
open Go.Ab Go.ChangeShapes Go.WideShapes Go.RowKit
theorem law(xs:List AV)(h:ShVs env.P 20 Tryz.f8.params.toList xs):limf env 8 xs=some (aB true):=by
 rw[show Tryz.f8.params.toList=[25,26,38,31,3,29] from by kernel_rfl]at h
 obtain⟨x0,xs,rfl,h0,h⟩:=pr h
 obtain⟨x1,xs,rfl,h1,h⟩:=pr h
 obtain⟨x2,xs,rfl,h2,h⟩:=pr h
 obtain⟨x3,xs,rfl,h3,h⟩:=pr h
 obtain⟨x4,xs,rfl,h4,h⟩:=pr h
 obtain⟨x5,xs,rfl,h5,h⟩:=pr h
 obtain rfl:=KM h
 obtain⟨us,qs,gr,xu,xq,rfl,hu,hq⟩:=QS h0
 obtain⟨l,hl,hx⟩:=NG h1
 obtain⟨y2,rfl,h2'⟩:=h2.agg (by simp)
 obtain⟨⟨⟨a_1,⟨a_2,a_3,a_4⟩,a_5,⟨⟨⟨a_6,a_7,a_8⟩,a_9⟩,a_10⟩,⟨⟨a_11,a_12,a_13⟩,a_14⟩,⟨a_15,a_16⟩,al⟩,x⟩,hax,rfl⟩:=IB _ _ h2'
 obtain⟨y3,rfl,h3'⟩:=h3.agg (by simp)
 obtain⟨⟨k_1,k_2,k_3⟩,_,rfl⟩:=Ea _ _ h3'
 obtain⟨serial,_,e4⟩:=nD (P:=env.P) (t:=3) (by simp) _ _ (h4.cell (by simp))
 cases e4
 obtain⟨y5,rfl,h5'⟩:=h5.agg (by simp)
 obtain⟨⟨v1,v2⟩,_,rfl⟩:=vN _ _ h5'
 exact Kf (gr:=gr) hu hq hx (Jn rfl) hl a_1 a_2 a_3 a_4 a_5 a_6 a_7 a_8 a_9 a_10 a_11 a_12 a_13 a_14 a_15 a_16 hax k_1 k_2 k_3 serial v1 v2
theorem lifted(os:Os)(started:os.Started)(H:Type)(enc:TypeId × Value→H) :
 ReturnsInHanded {} Tryz.checked os 8 .any (Rows.ledgerAloneSpec.pre6 enc Tryz.prog Tryz.f8 Rows.ledgerAloneRow.domain false) (Rows.ledgerAloneSpec.post enc Tryz.prog Tryz.f8 false true false false):=by
 refine returnsInHanded_of_change (C:=Tryz.checked) own started (by kernel_rfl) Tryz.func8
  (ChangeSpec.witness6 (enc:=enc) (C:=Tryz.checked) false ⟨#[], #[.agg #[.slice none 0 0,.slice none 0 0,.int .i64 0],.slice none 0 0,.agg #[.int .u8 0,.int .u8 0,.int .u32 0,.int .u8 0,.int .i64 0,.int .u8 0,.int .u32 0,.int .u8 0,.int .i64 0,.int .i64 0,.int .u8 0,.int .u32 0,.int .u8 0,.int .i64 0,.int .u8 0,.int .u32 0,.slice none 0 0],.agg #[.int .u8 0,.int .u32 0,.int .u8 0],.int .i64 0,.agg #[.int .u8 0,.int .u32 0]],[]⟩ 8 (by kernel_rfl) (by kernel_rfl) (by kernel_rfl) (by kernel_rfl)) ?_
 intro W base args ds gs before hval hW _ _
 exact BN (E:=env) VT kids (slices_full_of Tryz.prog (by kernel_rfl)) (m:=20) (fun t ht=>of_decide_eq_true (List.all_eq_true.1 (show Tryz.f8.params.toList.all (fun t=>decide (t<Tryz.prog.types.size))=true by kernel_rfl) t ht)) (by kernel_rfl) rfl
  (fun ds hd=>by match ds,hd with | [_,_,_,_,_,_],_=>rfl) (by kernel_rfl) law W base args ds gs before hval hW
theorem over:Rows.ledgerAloneRow.holds Tryz.pinned (OpenSpec.ofChange Rows.ledgerAloneSpec) :=
 OpenClaim.holds_of_wide 8 Tryz.f8 rfl rfl rfl rfl rfl rfl rfl ⟨rfl,rfl,rfl,rfl,rfl⟩ rfl rfl rfl rfl rfl (by kernel_rfl) Tryz.func8 RI
  (of_decide_eq_true (by kernel_rfl)) (by unfold Func.isWrapper;first | (rw[if_pos (by decide +kernel)];kernel_rfl) | (rw[if_neg (by decide +kernel)];exact⟨rfl,rfl⟩))
  (fun os started H enc _=>lifted os started H enc)
theorem proved:Rows.LedgerAloneSaid :=
 over
end Go.Proofs.YtmkmimgokagimaaGreat.ledgerAlone
