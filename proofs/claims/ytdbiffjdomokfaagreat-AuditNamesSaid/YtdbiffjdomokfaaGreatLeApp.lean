/-
  Grants applied: what these functions answer. No statement of a seat is proved here.
-/
import Derived.Test.YtdbiffjdomokfaaGreatMLeTwin
import Derived.Test.YtdbiffjdomokfaaGreatRecFns
set_option linter.unusedVariables false
set_option linter.unusedSimpArgs false
set_option linter.unusedSectionVars false
set_option linter.unnecessarySimpa false
set_option maxRecDepth 100000
namespace Go.Proofs.YtdbiffjdomokfaaGreat
open Go.Ab
attribute [local simp] bK bw bo bM bL dc kS bU bx bH dJ dI cp bX bh cC List.take_of_length_le FX
def JX(P:Program)(t:TypeId):Bool:=match P.underlying t with
 | some (.interface _)=>false
 | some _=>true
 | none=>false
theorem yj{P:Program}{t:TypeId}(h:JX P t=true)(x:AV):nL P t (some x)=some (.ifc t x,[]):=by
 unfold JX at h
 unfold nL
 cases hu:P.underlying t with
 | none=>rw[hu]at h;cases h
 | some d=>rw[hu]at h;cases d<;>first | rfl | cases h
theorem vL{P:Program}{t want:TypeId}(h:JX P want=true)(y:AV)(ok:Bool):nZ P (some (.ifc t y)) want ok=(if t=want then some ((if ok then .tup [y,.v (.bool true)] else y),[]) else if ok then (ej P want).map fun z=>(.tup [z,.v (.bool false)],[]) else none):=by
 unfold JX at h
 unfold nZ
 cases hu:P.underlying want with
 | none=>rw[hu]at h;cases h
 | some d=>rw[hu]at h;cases d<;>first | rfl | cases h
@[simp] theorem Vh:JX env.P 29=true:=by kernel_rfl
@[simp] theorem Vi:JX env.P 23=true:=by kernel_rfl
attribute [local simp] yj vL
section
variable{xu xq:AV}{us:List Clear}{qs:List bI}{gr:Int}(hu:Sl 3 (fD us) xu)(hq:Sl 5 (fQ qs) xq)(hql:qs.length * 32≤140737488355328)(hul:us.length * 12≤140737488355328)
include hu hq hql hul
theorem KK(user:Int)(v:UInt8)(c:UInt32)(ok:Bool)(h0:0≤user)(h1:user<us.length)(hg:gr≠0) : ∃yq,Sl 5 (fQ qs) yq ∧
 bj env 97 [.agg [xu,xq,aI gr],.agg [aI user,a8 v,aF c,aB ok]]=some (.ifc 29 (.agg [.cm 3 (fD (us.set user.toNat ⟨v,c,ok⟩)) none,yq,aI (IntKind.i64.wrap (gr - 1))])):=by
 have hT:=Ii (gr:=gr) hu hq hql hul
 obtain⟨cu,rfl,_⟩:=hu.QY (by intro e;have:=congrArg List.length e;simp at this;subst this;simp at h1;omega)
 have hne:fD us≠[]:=by intro e;have:=congrArg List.length e;simp at this;subst this;simp at h1;omega
 rw[nR 3 cu hne]at hT
 have oq:=pF hq
 generalize m7 xq=yq at *
 have hw:gK (fD us) user.toNat 0 [a8 v,aF c,aB ok]=some (fD (us.set user.toNat ⟨v,c,ok⟩)):=by
  have hlt:user.toNat<us.length:=by omega
  simp[Ez,List.getElem?_eq_getElem hlt,Clear.enc,List.map_set]
 have hlen:(fD us).length=us.length:=by simp
 have h1' : ¬(us.length:Int)≤user:=by omega
 rcases oq with ⟨rfl,h2⟩ | rfl | ⟨rfl,h2⟩
 ·refine⟨dg,.inl ⟨rfl,h2⟩,?_⟩
  refine aJ (fn:=Tryz.f97) (c:=jt) rfl (by kernel_rfl) (by kernel_rfl) (by kernel_rfl) (by kernel_rfl) ?_;refine kG _ _ _ _ fun g=>?_
  simp[ah,ai,ae,af,ad, *,jz,hq.r,bo]
 ·refine⟨.cm 5 (fQ qs) none,Sl.mk _ _,?_⟩
  refine aJ (fn:=Tryz.f97) (c:=jt) rfl (by kernel_rfl) (by kernel_rfl) (by kernel_rfl) (by kernel_rfl) ?_;refine kG _ _ _ _ fun g=>?_
  simp[ah,ai,ae,af,ad, *,jz,hq.r,bo]
 ·refine⟨.cm 5 [] (some 0),.inr ⟨some 0,by rw[h2],by rw[h2];simp⟩,?_⟩
  refine aJ (fn:=Tryz.f97) (c:=jt) rfl (by kernel_rfl) (by kernel_rfl) (by kernel_rfl) (by kernel_rfl) ?_;refine kG _ _ _ _ fun g=>?_
  simp[ah,ai,ae,af,ad, *,jz,hq.r,bo]
theorem Je(user:Int)(v:UInt8)(c:UInt32)(ok:Bool)(h1:(us.length:Int)≤user):bj env 97 [.agg [xu,xq,aI gr],.agg [aI user,a8 v,aF c,aB ok]]=some (.ifc 23 (aI 2)):=by
 refine aJ (fn:=Tryz.f97) (c:=jt) rfl (by kernel_rfl) (by kernel_rfl) (by kernel_rfl) (by kernel_rfl) ?_;refine kG _ _ _ _ fun g=>?_
 have hlen:(fD us).length=us.length:=by simp
 simp[ah,ai,ae,af,ad, *,jz,hu.r,hq.r]
theorem Jd(user:Int)(v:UInt8)(c:UInt32)(ok:Bool)(h1 : ¬(us.length:Int)≤user)(hg:gr=0):bj env 97 [.agg [xu,xq,aI gr],.agg [aI user,a8 v,aF c,aB ok]]=some (.ifc 23 (aI 9)):=by
 subst hg
 refine aJ (fn:=Tryz.f97) (c:=jt) rfl (by kernel_rfl) (by kernel_rfl) (by kernel_rfl) (by kernel_rfl) ?_;refine kG _ _ _ _ fun g=>?_
 have hlen:(fD us).length=us.length:=by simp
 simp[ah,ai,ae,af,ad, *,jz,hu.r,hq.r]
end
def uh(us:List Clear)(qs:List bI)(gr:Int)(user:Int)(v:UInt8)(c:UInt32)(ok:Bool):Int :=
 if DO us qs gr&&vM user v c ok then (if (us.length:Int)≤user then 2 else if gr=0 then 9 else 0) else 8
section
variable{xu xq:AV}{us:List Clear}{qs:List bI}{gr:Int}(hu:Sl 3 (fD us) xu)(hq:Sl 5 (fQ qs) xq)(hql:qs.length * 32≤140737488355328)(hul:us.length * 12≤140737488355328)
include hu hq hql hul
theorem Jj(user:Int)(v:UInt8)(c:UInt32)(ok:Bool)(h:uh us qs gr user v c ok≠0):bj env 80 [.agg [xu,xq,aI gr],.agg [aI user,a8 v,aF c,aB ok]]=some (.tup [.agg [dg,dg,aI 0],aI (uh us qs gr user v c ok)]):=by
 have hC:=wJ (gr:=gr) hu hq (by omega) (by omega)
 have hG:=E7 user v c ok
 refine aJ (fn:=Tryz.f80) (c:=pK) rfl (by kernel_rfl) (by kernel_rfl) (by kernel_rfl) (by kernel_rfl) ?_;refine ti _ _ _ _ fun g=>?_
 unfold uh at h ⊢
 cases hm:DO us qs gr with
 | false =>
  cases hg:vM user v c ok<;>simp[ah,ai,ae,af,ad, *,jA,hu.r,hq.r,bad]
 | true =>
  cases hg:vM user v c ok with
  | false=>simp[ah,ai,ae,af,ad, *,jA,hu.r,hq.r,bad]
  | true =>
   rw[hm,hg]at h
   simp only[Bool.and_self,if_true]at h ⊢
   by_cases h1:(us.length:Int)≤user
   ·have hA:=Je (gr:=gr) hu hq hql hul user v c ok h1
    simp[ah,ai,ae,af,ad, *,jA,hu.r,hq.r,bad]
   ·have h0:gr=0:=Decidable.by_contra fun e=>h (by rw[if_neg h1,if_neg e])
    have hA:=Jd (gr:=gr) hu hq hql hul user v c ok h1 h0
    subst h0
    simp[ah,ai,ae,af,ad, *,jA,hu.r,hq.r,bad]
theorem E8(user:Int)(v:UInt8)(c:UInt32)(ok:Bool)(h:uh us qs gr user v c ok=0) : ∃yq,Sl 5 (fQ qs) yq ∧
 bj env 80 [.agg [xu,xq,aI gr],.agg [aI user,a8 v,aF c,aB ok]]=some (.tup [.agg [.cm 3 (fD (us.set user.toNat ⟨v,c,ok⟩)) none,yq,aI (IntKind.i64.wrap (gr - 1))],aI 0]):=by
 have hC:=wJ (gr:=gr) hu hq (by omega) (by omega)
 have hG:=E7 user v c ok
 unfold uh at h
 split at h
 ·rename_i hm
  rw[Bool.and_eq_true]at hm
  obtain⟨hm,hg⟩:=hm
  split at h
  ·cases h
  ·rename_i h1
   split at h
   ·cases h
   ·rename_i h2
    have hg':=hg
    simp only[vM,Bool.and_eq_true,decide_eq_true_eq]at hg'
    obtain⟨yq,hyq,hA⟩:=KK (gr:=gr) hu hq hql hul user v c ok hg'.1.1 (by omega) h2
    refine⟨yq,hyq,?_⟩
    clear hg' h
    refine aJ (fn:=Tryz.f80) (c:=pK) rfl (by kernel_rfl) (by kernel_rfl) (by kernel_rfl) (by kernel_rfl) ?_;refine ti _ _ _ _ fun g=>?_
    rw[hm]at hC
    rw[hg]at hG
    clear hm hg
    generalize us.set user.toNat ⟨v,c,ok⟩=us' at *
    simp[ah,ai,ae,af,ad, *,jA,hu.r,hq.r,hyq.r,bad]
 ·cases h
end
end Go.Proofs.YtdbiffjdomokfaaGreat
