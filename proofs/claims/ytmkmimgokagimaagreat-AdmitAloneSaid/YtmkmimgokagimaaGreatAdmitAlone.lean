/-
  'Rows.AdmitAloneSaid' is proved: the law returns true. No conditions.
-/
import Derived.Test.YtmkmimgokagimaaGreatLeAdm8
import Derived.Test.YtmkmimgokagimaaGreatMLeRep
import Derived.Test.YtmkmimgokagimaaGreatLeJoin12
set_option linter.unusedVariables false
set_option maxRecDepth 1000000
namespace Go.Proofs.YtmkmimgokagimaaGreat.admitAlone
open Go.Ab Go.ChangeShapes Go.WideShapes Go.RowKit
theorem law(xs:List AV)(h:MU env.P 20 Tryz.f12.params.toList xs):bj env 12 xs=some (aB true):=by
 rw[show Tryz.f12.params.toList=[25,26,31,3,38,36] from by kernel_rfl]at h
 obtain⟨x0,xs,rfl,h0,h⟩:=rA h
 obtain⟨x1,xs,rfl,h1,h⟩:=rA h
 obtain⟨x2,xs,rfl,h2,h⟩:=rA h
 obtain⟨x3,xs,rfl,h3,h⟩:=rA h
 obtain⟨x4,xs,rfl,h4,h⟩:=rA h
 obtain⟨x5,xs,rfl,h5,h⟩:=rA h
 obtain rfl:=P3 h
 obtain⟨us,qs,gr,xu,xq,rfl,hu,hq⟩:=VG h0
 obtain⟨l,hl,hx⟩:=SM h1
 obtain⟨y2,rfl,h2'⟩:=h2.agg (by simp)
 obtain⟨⟨fb,fq,kb⟩,_,rfl⟩:=It _ _ h2'
 obtain⟨user,_,e3⟩:=oZ (P:=env.P) (t:=3) (by simp) _ _ (h3.cell (by simp))
 cases e3
 obtain⟨y4,rfl,h4'⟩:=h4.agg (by simp)
 obtain⟨⟨⟨ba,⟨aO,aN,aT⟩,aV,⟨⟨⟨aX,aW,aY⟩,aZ⟩,an⟩,⟨⟨ay,ax,aw⟩,au⟩,⟨aA,az⟩,al⟩,x⟩,hax,rfl⟩:=Na _ _ h4'
 obtain⟨ol,x5',_,e5,s5⟩:=JG (h5.cell (by simp))
 cases e5
 exact MT (gr:=gr) hu hq hx (OZ rfl) hl fb fq kb user ba aO aN aT aV aX aW aY aZ an ay ax aw au aA az hax s5
theorem lifted(os:Os)(started:os.Started)(H:Type)(enc:TypeId × Value→H) :
 ReturnsInHanded {} Tryz.checked os 12 .any (Rows.admitAloneSpec.pre6 enc Tryz.prog Tryz.f12 Rows.admitAloneRow.domain false) (Rows.admitAloneSpec.post enc Tryz.prog Tryz.f12 false true false false):=by
 refine returnsInHanded_of_change (C:=Tryz.checked) own started (by kernel_rfl) Tryz.func12
  (ChangeSpec.witness6 (enc:=enc) (C:=Tryz.checked) false ⟨#[], #[.agg #[.slice none 0 0,.slice none 0 0,.int .i64 0],.slice none 0 0,.agg #[.int .u8 0,.int .u32 0,.int .u8 0],.int .i64 0,.agg #[.int .u8 0,.int .u8 0,.int .u32 0,.int .u8 0,.int .i64 0,.int .u8 0,.int .u32 0,.int .u8 0,.int .i64 0,.int .i64 0,.int .u8 0,.int .u32 0,.int .u8 0,.int .i64 0,.int .u8 0,.int .u32 0,.slice none 0 0],.slice none 0 0],[]⟩ 8 (by kernel_rfl) (by kernel_rfl) (by kernel_rfl) (by kernel_rfl)) ?_
 intro W base args ds gs before hval hW _ _
 exact GN (E:=env) abj kids (slices_full_of Tryz.prog (by kernel_rfl)) (m:=20) (fun t ht=>of_decide_eq_true (List.all_eq_true.1 (show Tryz.f12.params.toList.all (fun t=>decide (t<Tryz.prog.types.size))=true by kernel_rfl) t ht)) (by kernel_rfl) rfl
  (fun ds hd=>by match ds,hd with | [_,_,_,_,_,_],_=>rfl) (by kernel_rfl) law W base args ds gs before hval hW
theorem sR:Rows.admitAloneRow.holds Tryz.pinned (OpenSpec.ofChange Rows.admitAloneSpec) :=
 OpenClaim.holds_of_wide 12 Tryz.f12 rfl rfl rfl rfl rfl rfl rfl ⟨rfl,rfl,rfl,rfl,rfl⟩ rfl rfl rfl rfl rfl (by kernel_rfl) Tryz.func12 WC
  (of_decide_eq_true (by kernel_rfl)) (by unfold Func.isWrapper;first | (rw[if_pos (by decide +kernel)];kernel_rfl) | (rw[if_neg (by decide +kernel)];exact⟨rfl,rfl⟩))
  (fun os started H enc _=>lifted os started H enc)
theorem proved:Rows.AdmitAloneSaid :=
 sR
end Go.Proofs.YtmkmimgokagimaaGreat.admitAlone
