/-
  Policies compared, on. No statement of a seat is proved here.
-/
import Derived.Test.YtgooemdlilfkmaaPolSame
set_option linter.unusedVariables false
set_option linter.unusedSimpArgs false
set_option linter.unusedSectionVars false
set_option linter.unnecessarySimpa false
set_option maxRecDepth 100000
namespace Go.Proofs.Ytgooemdlilfkmaa
open Go.Ab
attribute [local simp] cA bA keep thr
section
variable{xu xq yu yq:AV}{us us':List Clear}{qs qs':List Quota}{gr gr':Int}(hu:Sl 3 (av us) xu)(hq:Sl 5 (ay qs) xq)(hu':Sl 3 (av us') yu)(hq':Sl 5 (ay qs') yq)(hql:qs.length<4611686018427387904)(hul:us.length<4611686018427387904)
include hu hq hu' hq' hql hul
theorem BT{r1 r2:Ref}{Q:AV→Heap→Prop}(hlen:qs.length=qs'.length) : ∀(s:List Quota)(k:Nat)(i:Int)(H:Heap),qs.drop k=s→k≤qs.length→i=k →
 Fr H→H.get r1=some ⟨3,[.agg [xu,xq,aI gr]],false,false⟩→H.get r2=some ⟨3,[.agg [yu,yq,aI gr']],false,false⟩→(∀y H',y=aB (decide (s=qs'.drop k))→Q y H') →
 GoL env Try.f29 0 cm [(6,aI i),(3,.ptr r2 0 0),(2,.ptr r1 0 0)] H Q:=by
 intro s
 induction s with
 | nil =>
  rintro k i H hs hk rfl hF h1 h2 hQ
  obtain rfl:=drop_nil hs hk
  refine eI _ _ _ _ _ fun g=>?_
  simp[ae,af,ab,ad,aa, *,c9,hq.r]
  all_goals exact hQ _ _ (by simp[hlen])
 | cons c s ih =>
  rintro k i H hs hk rfl hF h1 h2 hQ
  obtain⟨hlt,hg,hs',hg'⟩:=drop_cons hs
  have hlt2:k<qs'.length:=by omega
  refine eI _ _ _ _ _ fun g=>?_
  have e:=IntWalk.i64_in ((k:Int)+1) (by omega)
  have ih':=ih (k+1) _ H hs' (by omega) rfl hF h1 h2
  clear hlen
  simp[ae,af,ab,ad,aa, *,c9,hq.r,hq'.r,hq.idx,hq'.idx,Quota.enc,eqA,eqFs]
  by_cases hc:c=qs'[k]
  ·have hc':=(Quota.eq_iff _ _).1 hc
   simp[hc',e]
   exact ih' fun y H' ey=>hQ _ _ (by simp[ey,lD hlt2,hc])
  ·have hc':=fun h=>hc ((Quota.eq_iff _ _).2 h)
   have h2:(decide (c.lv=qs'[k].lv)&&decide (c.cats=qs'[k].cats)&&(decide (c.opens=qs'[k].opens)&&(decide (c.ops=qs'[k].ops)&&decide (c.cells=qs'[k].cells))))=false:=by
    rw[Bool.eq_false_iff];intro h;simp only[Bool.and_eq_true,decide_eq_true_eq]at h;exact hc' h
   have h3:=congrArg (fun b => !b) h2
   simp only[Bool.not_and,Bool.not_false]at h3
   simp[h3]
   exact hQ _ _ (by simp[lD hlt2,hc])
theorem BU{r1 r2:Ref}{Q:AV→Heap→Prop}(hlen:us.length=us'.length)(hlen':qs.length=qs'.length) : ∀(s:List Clear)(k:Nat)(i:Int)(H:Heap),us.drop k=s→k≤us.length→i=k →
 Fr H→H.get r1=some ⟨3,[.agg [xu,xq,aI gr]],false,false⟩→H.get r2=some ⟨3,[.agg [yu,yq,aI gr']],false,false⟩→(∀y H',y=aB (decide (s=us'.drop k)&&decide (qs=qs'))→Q y H') →
 GoL env Try.f29 0 cp [(5,aI i),(3,.ptr r2 0 0),(2,.ptr r1 0 0)] H Q:=by
 intro s
 induction s with
 | nil =>
  rintro k i H hs hk rfl hF h1 h2 hQ
  obtain rfl:=drop_nil hs hk
  refine eJ _ _ _ _ _ fun g=>?_
  simp[ae,af,ab,ad,aa, *,da,hu.r]
  exact BT (gr:=gr) (gr':=gr') hu hq hu' hq' hql hul hlen' qs 0 _ _ rfl (by omega) rfl hF h1 h2 fun y H' e=>hQ _ _ (by simp[e,hlen])
 | cons c s ih =>
  rintro k i H hs hk rfl hF h1 h2 hQ
  obtain⟨hlt,hg,hs',hg'⟩:=drop_cons hs
  have hlt2:k<us'.length:=by omega
  refine eJ _ _ _ _ _ fun g=>?_
  have e:=IntWalk.i64_in ((k:Int)+1) (by omega)
  have ih':=ih (k+1) _ H hs' (by omega) rfl hF h1 h2
  clear hlen hlen'
  simp[ae,af,ab,ad,aa, *,da,hu.r,hu'.r,hu.idx,hu'.idx,Clear.enc,eqA,eqFs]
  by_cases hc:c=us'[k]
  ·have hc':=(Clear.eq_iff _ _).1 hc
   simp[hc',e]
   exact ih' fun y H' ey=>hQ _ _ (by simp[ey,lD hlt2,hc])
  ·have hc':=fun h=>hc ((Clear.eq_iff _ _).2 h)
   have h2:(decide (c.lv=us'[k].lv)&&decide (c.cats=us'[k].cats)&&decide (c.ok=us'[k].ok))=false:=by
    rw[Bool.eq_false_iff];intro h;simp only[Bool.and_eq_true,decide_eq_true_eq]at h;exact hc' h
   have h3:=congrArg (fun b => !b) h2
   simp only[Bool.not_and,Bool.not_false]at h3
   simp[h3]
   exact hQ _ _ (by simp[lD hlt2,hc])
@[simp] theorem qB:limf env 29 [.agg [xu,xq,aI gr],.agg [yu,yq,aI gr']]=some (aB (decide (us=us')&&(decide (qs=qs')&&decide (gr=gr')))):=by
 refine aH (fn:=Try.f29) (c:=cI) rfl (by kernel_rfl) (by kernel_rfl) (by kernel_rfl) (by kernel_rfl) ?_;refine jj _ _ _ _ fun g=>?_
 by_cases h1:us.length=us'.length
 ·by_cases h2:qs.length=qs'.length
  ·have h1':(us.length:Int)=us'.length:=by omega
   have h2':(qs.length:Int)=qs'.length:=by omega
   clear h1 h2
   simp[ae,af,ab,ad,aa, *,cJ,hu.r,hq.r,hu'.r,hq'.r]
   by_cases hg:gr=gr'
   ·simp[hg]
    exact BU (gr:=gr') (gr':=gr') hu hq hu' hq' hql hul (by omega) (by omega) us 0 _ _ rfl (by omega) rfl (by simp(maxDischargeDepth:=12) [an,ai,Fr.nil,au,ae,af,ab,ad,al,ah,aa, *]) (by simp) (by simp) fun y H' e=>by simp[e]
   ·simp[hg]
  ·have h2' : ¬(qs.length:Int)=qs'.length:=by omega
   have h1':(us.length:Int)=us'.length:=by omega
   have hne : ¬qs=qs':=fun e=>h2 (by rw[e])
   clear h1 h2
   simp[ae,af,ab,ad,aa, *,cJ,hu.r,hq.r,hu'.r,hq'.r]
 ·have h1' : ¬(us.length:Int)=us'.length:=by omega
  have hne : ¬us=us':=fun e=>h1 (by rw[e])
  clear h1
  simp[ae,af,ab,ad,aa, *,cJ,hu.r,hq.r,hu'.r,hq'.r]
end
end Go.Proofs.Ytgooemdlilfkmaa
