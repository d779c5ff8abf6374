/-
  Grants applied: what these functions answer. No statement of a seat is proved here.
-/
import Derived.Test.YtdbiffjdomokfaaGreatMLeTwin
import Derived.Test.YtdbiffjdomokfaaGreatRecFns
set_option linter.unusedVariables false
set_option linter.unusedSimpArgs false
set_option linter.unusedSectionVars false
set_option linter.unnecessarySimpa false
set_option maxRecDepth 100000
namespace Go.Proofs.YtdbiffjdomokfaaGreat
open Go.Ab
attribute [local simp] bD bq bo bF bE cZ ld bQ bx bA dx dw cg bT aY ct List.take_of_length_le GX
def Le(P:Program)(t:TypeId):Bool:=match P.underlying t with
 | some (.interface _)=>false
 | some _=>true
 | none=>false
theorem zn{P:Program}{t:TypeId}(h:Le P t=true)(x:AV):oz P t (some x)=some (.ifc t x,[]):=by
 unfold Le at h
 unfold oz
 cases hu:P.underlying t with
 | none=>rw[hu]at h;cases h
 | some d=>rw[hu]at h;cases d<;>first | rfl | cases h
theorem wS{P:Program}{t want:TypeId}(h:Le P want=true)(y:AV)(ok:Bool):oO P (some (.ifc t y)) want ok=(if t=want then some ((if ok then .tup [y,.v (.bool true)] else y),[]) else if ok then (eD P want).map fun z=>(.tup [z,.v (.bool false)],[]) else none):=by
 unfold Le at h
 unfold oO
 cases hu:P.underlying want with
 | none=>rw[hu]at h;cases h
 | some d=>rw[hu]at h;cases d<;>first | rfl | cases h
@[simp] theorem W9:Le env.P 29=true:=by kernel_rfl
@[simp] theorem Xa:Le env.P 23=true:=by kernel_rfl
attribute [local simp] zn wS
section
variable{xu xq:AV}{us:List Clear}{qs:List bz}{gr:Int}(hu:Sl 3 (eZ us) xu)(hq:Sl 5 (ff qs) xq)(hql:qs.length * 32≤140737488355328)(hul:us.length * 12≤140737488355328)
include hu hq hql hul
theorem Mg(user:Int)(v:UInt8)(c:UInt32)(ok:Bool)(h0:0≤user)(h1:user<us.length)(hg:gr≠0) : ∃yq,Sl 5 (ff qs) yq ∧
 bj env 97 [.agg [xu,xq,aI gr],.agg [aI user,a8 v,aF c,aB ok]]=some (.ifc 29 (.agg [.cw 3 (eZ (us.set user.toNat ⟨v,c,ok⟩)) none,yq,aI (IntKind.i64.wrap (gr - 1))])):=by
 have hT:=Jx (gr:=gr) hu hq hql hul
 obtain⟨cu,rfl,_⟩:=hu.SX (by intro e;have:=congrArg List.length e;simp at this;subst this;simp at h1;omega)
 have hne:eZ us≠[]:=by intro e;have:=congrArg List.length e;simp at this;subst this;simp at h1;omega
 rw[oF 3 cu hne]at hT
 have oq:=qb hq
 generalize nN xq=yq at *
 have hw:hX (eZ us) user.toNat 0 [a8 v,aF c,aB ok]=some (eZ (us.set user.toNat ⟨v,c,ok⟩)):=by
  have hlt:user.toNat<us.length:=by omega
  simp[Fy,List.getElem?_eq_getElem hlt,Clear.enc,List.map_set]
 have hlen:(eZ us).length=us.length:=by simp
 have h1' : ¬(us.length:Int)≤user:=by omega
 rcases oq with ⟨rfl,h2⟩ | rfl | ⟨rfl,h2⟩
 ·refine⟨cW,.inl ⟨rfl,h2⟩,?_⟩
  refine aL (fn:=Tryz.f97) (c:=jN) rfl (by kernel_rfl) (by kernel_rfl) (by kernel_rfl) (by kernel_rfl) ?_;refine la _ _ _ _ fun g=>?_
  simp[ah,ai,ae,af,ad, *,jS,hq.r,bo]
 ·refine⟨.cw 5 (ff qs) none,Sl.mk _ _,?_⟩
  refine aL (fn:=Tryz.f97) (c:=jN) rfl (by kernel_rfl) (by kernel_rfl) (by kernel_rfl) (by kernel_rfl) ?_;refine la _ _ _ _ fun g=>?_
  simp[ah,ai,ae,af,ad, *,jS,hq.r,bo]
 ·refine⟨.cw 5 [] (some 0),.inr ⟨some 0,by rw[h2],by rw[h2];simp⟩,?_⟩
  refine aL (fn:=Tryz.f97) (c:=jN) rfl (by kernel_rfl) (by kernel_rfl) (by kernel_rfl) (by kernel_rfl) ?_;refine la _ _ _ _ fun g=>?_
  simp[ah,ai,ae,af,ad, *,jS,hq.r,bo]
theorem Ku(user:Int)(v:UInt8)(c:UInt32)(ok:Bool)(h1:(us.length:Int)≤user):bj env 97 [.agg [xu,xq,aI gr],.agg [aI user,a8 v,aF c,aB ok]]=some (.ifc 23 (aI 2)):=by
 refine aL (fn:=Tryz.f97) (c:=jN) rfl (by kernel_rfl) (by kernel_rfl) (by kernel_rfl) (by kernel_rfl) ?_;refine la _ _ _ _ fun g=>?_
 have hlen:(eZ us).length=us.length:=by simp
 simp[ah,ai,ae,af,ad, *,jS,hu.r,hq.r]
theorem Kt(user:Int)(v:UInt8)(c:UInt32)(ok:Bool)(h1 : ¬(us.length:Int)≤user)(hg:gr=0):bj env 97 [.agg [xu,xq,aI gr],.agg [aI user,a8 v,aF c,aB ok]]=some (.ifc 23 (aI 9)):=by
 subst hg
 refine aL (fn:=Tryz.f97) (c:=jN) rfl (by kernel_rfl) (by kernel_rfl) (by kernel_rfl) (by kernel_rfl) ?_;refine la _ _ _ _ fun g=>?_
 have hlen:(eZ us).length=us.length:=by simp
 simp[ah,ai,ae,af,ad, *,jS,hu.r,hq.r]
end
def vj(us:List Clear)(qs:List bz)(gr:Int)(user:Int)(v:UInt8)(c:UInt32)(ok:Bool):Int :=
 if EO us qs gr&&wT user v c ok then (if (us.length:Int)≤user then 2 else if gr=0 then 9 else 0) else 8
section
variable{xu xq:AV}{us:List Clear}{qs:List bz}{gr:Int}(hu:Sl 3 (eZ us) xu)(hq:Sl 5 (ff qs) xq)(hql:qs.length * 32≤140737488355328)(hul:us.length * 12≤140737488355328)
include hu hq hql hul
theorem KA(user:Int)(v:UInt8)(c:UInt32)(ok:Bool)(h:vj us qs gr user v c ok≠0):bj env 80 [.agg [xu,xq,aI gr],.agg [aI user,a8 v,aF c,aB ok]]=some (.tup [.agg [cW,cW,aI 0],aI (vj us qs gr user v c ok)]):=by
 have hC:=xN (gr:=gr) hu hq (by omega) (by omega)
 have hG:=F7 user v c ok
 refine aL (fn:=Tryz.f80) (c:=qj) rfl (by kernel_rfl) (by kernel_rfl) (by kernel_rfl) (by kernel_rfl) ?_;refine uo _ _ _ _ fun g=>?_
 unfold vj at h ⊢
 cases hm:EO us qs gr with
 | false =>
  cases hg:wT user v c ok<;>simp[ah,ai,ae,af,ad, *,jT,hu.r,hq.r,bad]
 | true =>
  cases hg:wT user v c ok with
  | false=>simp[ah,ai,ae,af,ad, *,jT,hu.r,hq.r,bad]
  | true =>
   rw[hm,hg]at h
   simp only[Bool.and_self,if_true]at h ⊢
   by_cases h1:(us.length:Int)≤user
   ·have hA:=Ku (gr:=gr) hu hq hql hul user v c ok h1
    simp[ah,ai,ae,af,ad, *,jT,hu.r,hq.r,bad]
   ·have h0:gr=0:=Decidable.by_contra fun e=>h (by rw[if_neg h1,if_neg e])
    have hA:=Kt (gr:=gr) hu hq hql hul user v c ok h1 h0
    subst h0
    simp[ah,ai,ae,af,ad, *,jT,hu.r,hq.r,bad]
theorem F8(user:Int)(v:UInt8)(c:UInt32)(ok:Bool)(h:vj us qs gr user v c ok=0) : ∃yq,Sl 5 (ff qs) yq ∧
 bj env 80 [.agg [xu,xq,aI gr],.agg [aI user,a8 v,aF c,aB ok]]=some (.tup [.agg [.cw 3 (eZ (us.set user.toNat ⟨v,c,ok⟩)) none,yq,aI (IntKind.i64.wrap (gr - 1))],aI 0]):=by
 have hC:=xN (gr:=gr) hu hq (by omega) (by omega)
 have hG:=F7 user v c ok
 unfold vj at h
 split at h
 ·rename_i hm
  rw[Bool.and_eq_true]at hm
  obtain⟨hm,hg⟩:=hm
  split at h
  ·cases h
  ·rename_i h1
   split at h
   ·cases h
   ·rename_i h2
    have hg':=hg
    simp only[wT,Bool.and_eq_true,decide_eq_true_eq]at hg'
    obtain⟨yq,hyq,hA⟩:=Mg (gr:=gr) hu hq hql hul user v c ok hg'.1.1 (by omega) h2
    refine⟨yq,hyq,?_⟩
    clear hg' h
    refine aL (fn:=Tryz.f80) (c:=qj) rfl (by kernel_rfl) (by kernel_rfl) (by kernel_rfl) (by kernel_rfl) ?_;refine uo _ _ _ _ fun g=>?_
    rw[hm]at hC
    rw[hg]at hG
    clear hm hg
    generalize us.set user.toNat ⟨v,c,ok⟩=us' at *
    simp[ah,ai,ae,af,ad, *,jT,hu.r,hq.r,hyq.r,bad]
 ·cases h
end
end Go.Proofs.YtdbiffjdomokfaaGreat
