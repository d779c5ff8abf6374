/-
  'Rows.AdmitOnceSaid' is proved: the law returns true. No conditions.
-/
import Derived.Test.YtmkmimgokagimaaGreatLeAdm6
import Derived.Test.YtmkmimgokagimaaGreatMLeRep
import Derived.Test.YtmkmimgokagimaaGreatLeJoin11
set_option linter.unusedVariables false
set_option maxRecDepth 1000000
namespace Go.Proofs.YtmkmimgokagimaaGreat.admitOnce
open Go.Ab Go.ChangeShapes Go.WideShapes Go.RowKit
theorem law(xs:List AV)(h:ShVs env.P 20 Tryz.f11.params.toList xs):limf env 11 xs=some (aB true):=by
 rw[show Tryz.f11.params.toList=[25,26,31,3,38] from by kernel_rfl]at h
 obtain⟨x0,xs,rfl,h0,h⟩:=rj h
 obtain⟨x1,xs,rfl,h1,h⟩:=rj h
 obtain⟨x2,xs,rfl,h2,h⟩:=rj h
 obtain⟨x3,xs,rfl,h3,h⟩:=rj h
 obtain⟨x4,xs,rfl,h4,h⟩:=rj h
 obtain rfl:=K1 h
 obtain⟨us,qs,gr,xu,xq,rfl,hu,hq⟩:=RE h0
 obtain⟨l,hl,hx⟩:=Oh h1
 obtain⟨y2,rfl,h2'⟩:=h2.agg (by simp)
 obtain⟨⟨h_1,h_2,h_3⟩,_,rfl⟩:=EA _ _ h2'
 obtain⟨user,_,e3⟩:=na (P:=env.P) (t:=3) (by simp) _ _ (h3.cell (by simp))
 cases e3
 obtain⟨y4,rfl,h4'⟩:=h4.agg (by simp)
 obtain⟨⟨⟨a_1,⟨a_2,a_3,a_4⟩,a_5,⟨⟨⟨a_6,a_7,a_8⟩,a_9⟩,a_10⟩,⟨⟨a_11,a_12,a_13⟩,a_14⟩,⟨a_15,a_16⟩,al⟩,x⟩,hax,rfl⟩:=I0 _ _ h4'
 exact PX (gr:=gr) hu hq hx (JI rfl) hl h_1 h_2 h_3 user a_1 a_2 a_3 a_4 a_5 a_6 a_7 a_8 a_9 a_10 a_11 a_12 a_13 a_14 a_15 a_16 hax
theorem lifted(os:Os)(started:os.Started)(H:Type)(enc:TypeId × Value→H) :
 ReturnsInHanded {} Tryz.checked os 11 .any (Rows.admitOnceSpec.pre6 enc Tryz.prog Tryz.f11 Rows.admitOnceRow.domain false) (Rows.admitOnceSpec.post enc Tryz.prog Tryz.f11 false true false false):=by
 refine returnsInHanded_of_change (C:=Tryz.checked) own started (by kernel_rfl) Tryz.func11
  (ChangeSpec.witness6 (enc:=enc) (C:=Tryz.checked) false ⟨#[], #[.agg #[.slice none 0 0,.slice none 0 0,.int .i64 0],.slice none 0 0,.agg #[.int .u8 0,.int .u32 0,.int .u8 0],.int .i64 0,.agg #[.int .u8 0,.int .u8 0,.int .u32 0,.int .u8 0,.int .i64 0,.int .u8 0,.int .u32 0,.int .u8 0,.int .i64 0,.int .i64 0,.int .u8 0,.int .u32 0,.int .u8 0,.int .i64 0,.int .u8 0,.int .u32 0,.slice none 0 0]],[]⟩ 8 (by kernel_rfl) (by kernel_rfl) (by kernel_rfl) (by kernel_rfl)) ?_
 intro W base args ds gs before hval hW _ _
 exact Ck (E:=env) W7 kids (slices_full_of Tryz.prog (by kernel_rfl)) (m:=20) (fun t ht=>of_decide_eq_true (List.all_eq_true.1 (show Tryz.f11.params.toList.all (fun t=>decide (t<Tryz.prog.types.size))=true by kernel_rfl) t ht)) (by kernel_rfl) rfl
  (fun ds hd=>by match ds,hd with | [_,_,_,_,_],_=>rfl) (by kernel_rfl) law W base args ds gs before hval hW
theorem over:Rows.admitOnceRow.holds Tryz.pinned (OpenSpec.ofChange Rows.admitOnceSpec) :=
 OpenClaim.holds_of_wide 11 Tryz.f11 rfl rfl rfl rfl rfl rfl rfl ⟨rfl,rfl,rfl,rfl,rfl⟩ rfl rfl rfl rfl rfl (by kernel_rfl) Tryz.func11 SA
  (of_decide_eq_true (by kernel_rfl)) (by unfold Func.isWrapper;first | (rw[if_pos (by decide +kernel)];kernel_rfl) | (rw[if_neg (by decide +kernel)];exact⟨rfl,rfl⟩))
  (fun os started H enc _=>lifted os started H enc)
theorem proved:Rows.AdmitOnceSaid :=
 over
end Go.Proofs.YtmkmimgokagimaaGreat.admitOnce
