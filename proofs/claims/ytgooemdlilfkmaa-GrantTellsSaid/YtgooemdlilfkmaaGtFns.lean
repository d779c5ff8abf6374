/-
  Grants applied: what these functions answer, as the caller's own. No statement of a seat is proved here.
-/
import Derived.Test.YtgooemdlilfkmaaPolTwin
import Derived.Test.YtgooemdlilfkmaaGrFns
set_option linter.unusedVariables false
set_option linter.unusedSimpArgs false
set_option linter.unusedSectionVars false
set_option linter.unnecessarySimpa false
set_option maxRecDepth 100000
namespace Go.Proofs.Ytgooemdlilfkmaa
open Go.Ab
attribute [local simp] cA bA gZ own3 cV fB keep thr iv gv gu lI lH eo List.take_of_length_le kT kW
def ifcT(P:Program)(t:TypeId):Bool:=match P.underlying t with
 | some (.interface _)=>false
 | some _=>true
 | none=>false
theorem jT{P:Program}{t:TypeId}(h:ifcT P t=true)(x:AV):jU P t (some x)=some (.ifc t x,[]):=by
 unfold ifcT at h
 unfold jU
 cases hu:P.underlying t with
 | none=>rw[hu]at h;cases h
 | some d=>rw[hu]at h;cases d<;>first | rfl | cases h
theorem iS{P:Program}{t want:TypeId}(h:ifcT P want=true)(y:AV)(ok:Bool):iz P (some (.ifc t y)) want ok=(if t=want then some ((if ok then .tup [y,.v (.bool true)] else y),[]) else if ok then (fp P want).map fun z=>(.tup [z,.v (.bool false)],[]) else none):=by
 unfold ifcT at h
 unfold iz
 cases hu:P.underlying want with
 | none=>rw[hu]at h;cases h
 | some d=>rw[hu]at h;cases d<;>first | rfl | cases h
@[simp] theorem Ci:ifcT env.P 33=true:=by kernel_rfl
@[simp] theorem Cj:ifcT env.P 27=true:=by kernel_rfl
attribute [local simp] jT iS
@[simp] theorem aw(us:List Clear)(n:Nat):(av us).all (flat (n+2))=true:=by
 simp[List.all_eq_true,Clear.enc]
@[simp] theorem bg(qs:List Quota)(n:Nat):(ay qs).all (flat (n+2))=true:=by
 simp[List.all_eq_true,Quota.enc]
section
variable{xu xq:AV}{us:List Clear}{qs:List Quota}{gr:Int}(hu:Sl 3 (av us) xu)(hq:Sl 5 (ay qs) xq)(hql:qs.length * 32≤140737488355328)(hul:us.length * 12≤140737488355328)
include hu hq hql hul
def polO(us:List Clear)(yq:AV)(gr user:Int)(v:UInt8)(c:UInt32)(ok:Bool):AV := .agg [.fsl 3 (av (us.set user.toNat ⟨v,c,ok⟩)) none,yq,aI (IntKind.i64.wrap (gr - 1))]
theorem tn(user:Int)(v:UInt8)(c:UInt32)(ok:Bool)(h0:0≤user)(h1:user<us.length)(hg:gr≠0) :
 limf env 66 [.agg [xu,xq,aI gr],.agg [aI user,a8 v,a32 c,aB ok]]=some (.ifc 33 (polO us (gY xq) gr user v c ok)):=by
 have hT:=wX (gr:=gr) hu hq hql hul
 obtain⟨cu,rfl,_⟩:=hu.islN (by intro e;have:=congrArg List.length e;simp at this;subst this;simp at h1;omega)
 have hne:av us≠[]:=by intro e;have:=congrArg List.length e;simp at this;subst this;simp at h1;omega
 rw[je 3 cu hne]at hT
 have oq:=kr hq
 generalize gY xq=yq at *
 have hw:dk (av us) user.toNat 0 [a8 v,a32 c,aB ok]=some (av (us.set user.toNat ⟨v,c,ok⟩)):=by
  have hlt:user.toNat<us.length:=by omega
  simp[jh,List.getElem?_eq_getElem hlt,Clear.enc,List.map_set]
 have hlen:(av us).length=us.length:=by simp
 have h1' : ¬(us.length:Int)≤user:=by omega
 have hlen2:(av (us.set user.toNat ⟨v,c,ok⟩)).length=us.length:=by simp
 unfold polO
 generalize av (us.set user.toNat ⟨v,c,ok⟩)=es at *
 rcases oq with ⟨rfl,h2⟩ | rfl | ⟨rfl,h2⟩
 ·refine aH (fn:=Try.f66) (c:=dK) rfl (by kernel_rfl) (by kernel_rfl) (by kernel_rfl) (by kernel_rfl) ?_;refine eH _ _ _ _ fun g=>?_
  simp[ae,af,ab,ad,aa, *,dL,hq.r,cV]
 ·refine aH (fn:=Try.f66) (c:=dK) rfl (by kernel_rfl) (by kernel_rfl) (by kernel_rfl) (by kernel_rfl) ?_;refine eH _ _ _ _ fun g=>?_
  simp[ae,af,ab,ad,aa, *,dL,hq.r,cV]
 ·refine aH (fn:=Try.f66) (c:=dK) rfl (by kernel_rfl) (by kernel_rfl) (by kernel_rfl) (by kernel_rfl) ?_;refine eH _ _ _ _ fun g=>?_
  simp[ae,af,ab,ad,aa, *,dL,hq.r,cV]
theorem tv(user:Int)(v:UInt8)(c:UInt32)(ok:Bool)(h1:(us.length:Int)≤user):limf env 66 [.agg [xu,xq,aI gr],.agg [aI user,a8 v,a32 c,aB ok]]=some (.ifc 27 (aI 2)):=by
 refine aH (fn:=Try.f66) (c:=dK) rfl (by kernel_rfl) (by kernel_rfl) (by kernel_rfl) (by kernel_rfl) ?_;refine eH _ _ _ _ fun g=>?_
 have hlen:(av us).length=us.length:=by simp
 simp[ae,af,ab,ad,aa, *,dL,hu.r,hq.r]
theorem tp(user:Int)(v:UInt8)(c:UInt32)(ok:Bool)(h1 : ¬(us.length:Int)≤user)(hg:gr=0):limf env 66 [.agg [xu,xq,aI gr],.agg [aI user,a8 v,a32 c,aB ok]]=some (.ifc 27 (aI 9)):=by
 subst hg
 refine aH (fn:=Try.f66) (c:=dK) rfl (by kernel_rfl) (by kernel_rfl) (by kernel_rfl) (by kernel_rfl) ?_;refine eH _ _ _ _ fun g=>?_
 have hlen:(av us).length=us.length:=by simp
 simp[ae,af,ab,ad,aa, *,dL,hu.r,hq.r]
end
def ch(us:List Clear)(qs:List Quota)(gr:Int)(user:Int)(v:UInt8)(c:UInt32)(ok:Bool):Int :=
 if mayB us qs gr&&mayG user v c ok then (if (us.length:Int)≤user then 2 else if gr=0 then 9 else 0) else 8
section
variable{xu xq:AV}{us:List Clear}{qs:List Quota}{gr:Int}(hu:Sl 3 (av us) xu)(hq:Sl 5 (ay qs) xq)(hql:qs.length * 32≤140737488355328)(hul:us.length * 12≤140737488355328)
include hu hq hql hul
theorem pO(user:Int)(v:UInt8)(c:UInt32)(ok:Bool)(h:ch us qs gr user v c ok≠0):limf env 34 [.agg [xu,xq,aI gr],.agg [aI user,a8 v,a32 c,aB ok]]=some (.tup [.agg [aNil,aNil,aI 0],aI (ch us qs gr user v c ok)]):=by
 have hC:=mC (gr:=gr) hu hq (by omega) (by omega)
 have hG:=bI user v c ok
 refine aH (fn:=Try.f34) (c:=iE) rfl (by kernel_rfl) (by kernel_rfl) (by kernel_rfl) (by kernel_rfl) ?_;refine kC _ _ _ _ fun g=>?_
 unfold ch at h ⊢
 cases hm:mayB us qs gr with
 | false =>
  cases hg:mayG user v c ok<;>simp[ae,af,ab,ad,aa, *,dM,hu.r,hq.r,bad]
 | true =>
  cases hg:mayG user v c ok with
  | false=>simp[ae,af,ab,ad,aa, *,dM,hu.r,hq.r,bad]
  | true =>
   rw[hm,hg]at h
   simp only[Bool.and_self,if_true]at h ⊢
   by_cases h1:(us.length:Int)≤user
   ·have hA:=tv (gr:=gr) hu hq hql hul user v c ok h1
    simp[ae,af,ab,ad,aa, *,dM,hu.r,hq.r,bad]
   ·have h0:gr=0:=Decidable.by_contra fun e=>h (by rw[if_neg h1,if_neg e])
    have hA:=tp (gr:=gr) hu hq hql hul user v c ok h1 h0
    subst h0
    simp[ae,af,ab,ad,aa, *,dM,hu.r,hq.r,bad]
theorem pN(user:Int)(v:UInt8)(c:UInt32)(ok:Bool)(h:ch us qs gr user v c ok=0) :
 limf env 34 [.agg [xu,xq,aI gr],.agg [aI user,a8 v,a32 c,aB ok]]=some (.tup [polO us (gY xq) gr user v c ok,aI 0]):=by
 have hC:=mC (gr:=gr) hu hq (by omega) (by omega)
 have hG:=bI user v c ok
 unfold ch at h
 split at h
 ·rename_i hm
  rw[Bool.and_eq_true]at hm
  obtain⟨hm,hg⟩:=hm
  split at h
  ·cases h
  ·rename_i h1
   split at h
   ·cases h
   ·rename_i h2
    have hg':=hg
    simp only[mayG,Bool.and_eq_true,decide_eq_true_eq]at hg'
    have hA:=tn (gr:=gr) hu hq hql hul user v c ok hg'.1.1 (by omega) h2
    have hne:(us.set user.toNat ⟨v,c,ok⟩).length=us.length:=by simp
    have oq:=kr hq
    clear hg' h
    rw[hm]at hC
    rw[hg]at hG
    clear hm hg
    unfold polO at *
    have fl:=aw (us.set user.toNat ⟨v,c,ok⟩)
    have fq:=bg qs
    generalize us.set user.toNat ⟨v,c,ok⟩=us' at *
    generalize gY xq=yq at *
    rcases oq with ⟨rfl,h2⟩ | rfl | ⟨rfl,h2⟩<;>(refine aH (fn:=Try.f34) (c:=iE) rfl (by kernel_rfl) (by kernel_rfl) (by kernel_rfl) (by kernel_rfl) ?_;refine kC _ _ _ _ fun g=>?_)<;>simp[ae,af,ab,ad,aa, *,dM,hu.r,hq.r,bad]
 ·cases h
end
end Go.Proofs.Ytgooemdlilfkmaa
