/-
  'Rows.SlotsTellUptoSaid' is proved: the law returns true where what it reads is of bulk at most 1048576.
-/
import Derived.Test.YtmjkpdknicjjgaaGreatMSlLaw2
set_option linter.unusedVariables false
set_option linter.unusedSimpArgs false
set_option linter.unusedSectionVars false
set_option linter.unnecessarySimpa false
set_option maxRecDepth 1000000
namespace Go.Proofs.YtmjkpdknicjjgaaGreat.slotsTell
open Go.Ab Go.ChangeShapes Go.WideShapes Go.RowKit
theorem law(b:List AV)(h:QK bp.P 20 Tryz.f4.params.toList b)(g : ∀x∈b,uB 1048576 x):ar bp 4 b=some (aB true):=by
 rw[show Tryz.f4.params.toList=[24,50] from by kernel_rfl]at h;obtain⟨x0,b,rfl,m,h⟩:=J2 h;obtain⟨i,b,rfl,k,h⟩:=J2 h;obtain rfl:=Vk h;obtain⟨l,y,st,lf,dd,c,e,rfl⟩:=acs m;obtain⟨o,a,f⟩:=Vn k;have n:=Vg e c (g (cz y st lf dd) (by simp));have j:=Sw f a (g i (by simp));exact acr (d:=⟨l,y,st,lf,dd⟩) e c (λs h=>by have:=n s h;omega) f (λp hp=>⟨(a p hp).1,by have:=j p hp;omega⟩) (λp hp=>(a p hp).2)
def wit:Input:=⟨#[], #[.agg #[.slice none 0 0,.int .i64 0,.int .i64 0,.bool false],.slice none 0 0],[]⟩
theorem lifted(e:Os)(a:e.Started)(H:Type)(enc:TypeId × Value->H)(f:Stop.Interp) :
 ReturnsInHanded {} Tryz.checked e 4 .any ((Rows.OpenSpec.upto Rows.slotsTellSpec).pre6 enc Tryz.prog Tryz.f4 Rows.slotsTellUptoRow.domain false) (((Rows.OpenSpec.upto Rows.slotsTellSpec).at f).post enc Tryz.prog Tryz.f4 false true false false):=by
 refine returnsInHanded_of_cond (C:=Tryz.checked) (s:=Rows.OpenSpec.upto Rows.slotsTellSpec) (k:=Rows.uptoSmall) rfl own a (by kernel_rfl) Tryz.func4
  (OpenSpec.witness (enc:=enc) (C:=Tryz.checked) (s:=Rows.OpenSpec.upto Rows.slotsTellSpec) (k:=Rows.uptoSmall) rfl false wit 8 (by kernel_rfl) (by kernel_rfl) (by kernel_rfl)
   (x:=(DataW.whole enc Tryz.prog (World.plainHolding Tryz.prog e wit).memory Tryz.f4.params.toList [] false wit.args.toList 8).get (by kernel_rfl)) (Option.some_get _).symm (by kernel_rfl) (by kernel_rfl)) ?_
 intro W d args ds g b c h _ i _;exact Iq (E:=bp) adO kids (slices_full_of Tryz.prog (by kernel_rfl)) (s:=(Rows.OpenSpec.upto Rows.slotsTellSpec).at f) (m:=20) (λt j=>iQA (gf.1 (show Tryz.f4.params.toList.all (λt=>decide (t<Tryz.prog.types.size))=true by kernel_rfl) t j)) (by kernel_rfl) rfl
  (λds hd=>by match ds,hd with | [_,_],_=>rfl) (by kernel_rfl) Qz Xo law W d args ds g b c h (Qy i)
theorem rR:Rows.slotsTellUptoRow.holds Tryz.pinned (Rows.OpenSpec.upto Rows.slotsTellSpec):=
 OpenClaim.holds_of_cond 4 Tryz.f4 rfl rfl rfl rfl rfl rfl rfl ⟨rfl,rfl,rfl,rfl,rfl⟩ rfl rfl rfl rfl rfl (by kernel_rfl) Tryz.func4 (by kernel_rfl)
  (iQA (by kernel_rfl)) (by unfold Func.isWrapper;first | (rw[if_pos (by decide +kernel)];kernel_rfl) | (rw[if_neg (by decide +kernel)];exact⟨rfl,rfl⟩))
  (λc a H enc _ b=>lifted c a H enc b)
theorem proved:Rows.SlotsTellUptoSaid:=
 rR
end Go.Proofs.YtmjkpdknicjjgaaGreat.slotsTell
