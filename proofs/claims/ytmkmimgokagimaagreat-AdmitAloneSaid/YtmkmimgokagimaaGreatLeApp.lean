/-
  Grants applied: what these functions answer. No statement of a seat is proved here.
-/
import Derived.Test.YtmkmimgokagimaaGreatMLeTwin
import Derived.Test.YtmkmimgokagimaaGreatRecFns
set_option linter.unusedVariables false
set_option linter.unusedSimpArgs false
set_option linter.unusedSectionVars false
set_option linter.unnecessarySimpa false
set_option maxRecDepth 100000
namespace Go.Proofs.YtmkmimgokagimaaGreat
open Go.Ab
attribute [local simp] bJ bw bt bG bF cL kN bX bx bD cR cQ cr bY bh ct List.take_of_length_le KC
def O2(P:Program)(t:TypeId):Bool:=match P.underlying t with
 | some (.interface _)=>false
 | some _=>true
 | none=>false
theorem Cq{P:Program}{t:TypeId}(h:O2 P t=true)(x:AV):pU P t (some x)=some (.ifc t x,[]):=by
 unfold O2 at h
 unfold pU
 cases hu:P.underlying t with
 | none=>rw[hu]at h;cases h
 | some d=>rw[hu]at h;cases d<;>first | rfl | cases h
theorem z6{P:Program}{t want:TypeId}(h:O2 P want=true)(y:AV)(ok:Bool):qm P (some (.ifc t y)) want ok=(if t=want then some ((if ok then .tup [y,.v (.bool true)] else y),[]) else if ok then (eS P want).map fun z=>(.tup [z,.v (.bool false)],[]) else none):=by
 unfold O2 at h
 unfold qm
 cases hu:P.underlying want with
 | none=>rw[hu]at h;cases h
 | some d=>rw[hu]at h;cases d<;>first | rfl | cases h
@[simp] theorem aa1:O2 env.P 25=true:=by kernel_rfl
@[simp] theorem aa2:O2 env.P 42=true:=by kernel_rfl
attribute [local simp] Cq z6
section
variable{xu xq:AV}{us:List Clear}{qs:List bn}{gr:Int}(hu:Sl 3 (ed us) xu)(hq:Sl 5 (ef qs) xq)(hql:qs.length * 32≤140737488355328)(hul:us.length * 12≤140737488355328)
include hu hq hql hul
theorem P9(user:Int)(v:UInt8)(c:UInt32)(ok:Bool)(h0:0≤user)(h1:user<us.length)(hg:gr≠0) : ∃yq,Sl 5 (ef qs) yq ∧
 bj env 203 [.agg [xu,xq,aI gr],.agg [aI user,a8 v,aF c,aB ok]]=some (.ifc 25 (.agg [.ck 3 (ed (us.set user.toNat ⟨v,c,ok⟩)) none,yq,aI (IntKind.i64.wrap (gr - 1))])):=by
 have hT:=M9 (gr:=gr) hu hq hql hul
 obtain⟨cu,rfl,_⟩:=hu.WD (by intro e;have:=congrArg List.length e;simp at this;subst this;simp at h1;omega)
 have hne:ed us≠[]:=by intro e;have:=congrArg List.length e;simp at this;subst this;simp at h1;omega
 rw[p6 3 cu hne]at hT
 have oq:=sb hq
 generalize pj xq=yq at *
 have hw:iC (ed us) user.toNat 0 [a8 v,aF c,aB ok]=some (ed (us.set user.toNat ⟨v,c,ok⟩)):=by
  have hlt:user.toNat<us.length:=by omega
  simp[Jh,List.getElem?_eq_getElem hlt,Clear.enc,List.map_set]
 have hlen:(ed us).length=us.length:=by simp
 have h1' : ¬(us.length:Int)≤user:=by omega
 rcases oq with ⟨rfl,h2⟩ | rfl | ⟨rfl,h2⟩
 ·refine⟨cp,.inl ⟨rfl,h2⟩,?_⟩
  refine aG (fn:=Tryz.f203) (c:=kD) rfl (by kernel_rfl) (by kernel_rfl) (by kernel_rfl) (by kernel_rfl) ?_;refine mh _ _ _ _ fun g=>?_
  simp[ah,ai,ae,af,ab, *,kI,hq.r,bt]
 ·refine⟨.ck 5 (ef qs) none,Sl.mk _ _,?_⟩
  refine aG (fn:=Tryz.f203) (c:=kD) rfl (by kernel_rfl) (by kernel_rfl) (by kernel_rfl) (by kernel_rfl) ?_;refine mh _ _ _ _ fun g=>?_
  simp[ah,ai,ae,af,ab, *,kI,hq.r,bt]
 ·refine⟨.ck 5 [] (some 0),.inr ⟨some 0,by rw[h2],by rw[h2];simp⟩,?_⟩
  refine aG (fn:=Tryz.f203) (c:=kD) rfl (by kernel_rfl) (by kernel_rfl) (by kernel_rfl) (by kernel_rfl) ?_;refine mh _ _ _ _ fun g=>?_
  simp[ah,ai,ae,af,ab, *,kI,hq.r,bt]
theorem Ob(user:Int)(v:UInt8)(c:UInt32)(ok:Bool)(h1:(us.length:Int)≤user):bj env 203 [.agg [xu,xq,aI gr],.agg [aI user,a8 v,aF c,aB ok]]=some (.ifc 42 (aI 2)):=by
 refine aG (fn:=Tryz.f203) (c:=kD) rfl (by kernel_rfl) (by kernel_rfl) (by kernel_rfl) (by kernel_rfl) ?_;refine mh _ _ _ _ fun g=>?_
 have hlen:(ed us).length=us.length:=by simp
 simp[ah,ai,ae,af,ab, *,kI,hu.r,hq.r]
theorem Oa(user:Int)(v:UInt8)(c:UInt32)(ok:Bool)(h1 : ¬(us.length:Int)≤user)(hg:gr=0):bj env 203 [.agg [xu,xq,aI gr],.agg [aI user,a8 v,aF c,aB ok]]=some (.ifc 42 (aI 9)):=by
 subst hg
 refine aG (fn:=Tryz.f203) (c:=kD) rfl (by kernel_rfl) (by kernel_rfl) (by kernel_rfl) (by kernel_rfl) ?_;refine mh _ _ _ _ fun g=>?_
 have hlen:(ed us).length=us.length:=by simp
 simp[ah,ai,ae,af,ab, *,kI,hu.r,hq.r]
end
def yB(us:List Clear)(qs:List bn)(gr:Int)(user:Int)(v:UInt8)(c:UInt32)(ok:Bool):Int :=
 if GM us qs gr&&z7 user v c ok then (if (us.length:Int)≤user then 2 else if gr=0 then 9 else 0) else 8
section
variable{xu xq:AV}{us:List Clear}{qs:List bn}{gr:Int}(hu:Sl 3 (ed us) xu)(hq:Sl 5 (ef qs) xq)(hql:qs.length * 32≤140737488355328)(hul:us.length * 12≤140737488355328)
include hu hq hql hul
theorem Oi(user:Int)(v:UInt8)(c:UInt32)(ok:Bool)(h:yB us qs gr user v c ok≠0):bj env 152 [.agg [xu,xq,aI gr],.agg [aI user,a8 v,aF c,aB ok]]=some (.tup [.agg [cp,cp,aI 0],aI (yB us qs gr user v c ok)]):=by
 have hC:=AT (gr:=gr) hu hq (by omega) (by omega)
 have hG:=JN user v c ok
 refine aG (fn:=Tryz.f152) (c:=sC) rfl (by kernel_rfl) (by kernel_rfl) (by kernel_rfl) (by kernel_rfl) ?_;refine xF _ _ _ _ fun g=>?_
 unfold yB at h ⊢
 cases hm:GM us qs gr with
 | false =>
  cases hg:z7 user v c ok<;>simp[ah,ai,ae,af,ab, *,kJ,hu.r,hq.r,bad]
 | true =>
  cases hg:z7 user v c ok with
  | false=>simp[ah,ai,ae,af,ab, *,kJ,hu.r,hq.r,bad]
  | true =>
   rw[hm,hg]at h
   simp only[Bool.and_self,if_true]at h ⊢
   by_cases h1:(us.length:Int)≤user
   ·have hA:=Ob (gr:=gr) hu hq hql hul user v c ok h1
    simp[ah,ai,ae,af,ab, *,kJ,hu.r,hq.r,bad]
   ·have h0:gr=0:=Decidable.by_contra fun e=>h (by rw[if_neg h1,if_neg e])
    have hA:=Oa (gr:=gr) hu hq hql hul user v c ok h1 h0
    subst h0
    simp[ah,ai,ae,af,ab, *,kJ,hu.r,hq.r,bad]
theorem JO(user:Int)(v:UInt8)(c:UInt32)(ok:Bool)(h:yB us qs gr user v c ok=0) : ∃yq,Sl 5 (ef qs) yq ∧
 bj env 152 [.agg [xu,xq,aI gr],.agg [aI user,a8 v,aF c,aB ok]]=some (.tup [.agg [.ck 3 (ed (us.set user.toNat ⟨v,c,ok⟩)) none,yq,aI (IntKind.i64.wrap (gr - 1))],aI 0]):=by
 have hC:=AT (gr:=gr) hu hq (by omega) (by omega)
 have hG:=JN user v c ok
 unfold yB at h
 split at h
 ·rename_i hm
  rw[Bool.and_eq_true]at hm
  obtain⟨hm,hg⟩:=hm
  split at h
  ·cases h
  ·rename_i h1
   split at h
   ·cases h
   ·rename_i h2
    have hg':=hg
    simp only[z7,Bool.and_eq_true,decide_eq_true_eq]at hg'
    obtain⟨yq,hyq,hA⟩:=P9 (gr:=gr) hu hq hql hul user v c ok hg'.1.1 (by omega) h2
    refine⟨yq,hyq,?_⟩
    clear hg' h
    refine aG (fn:=Tryz.f152) (c:=sC) rfl (by kernel_rfl) (by kernel_rfl) (by kernel_rfl) (by kernel_rfl) ?_;refine xF _ _ _ _ fun g=>?_
    rw[hm]at hC
    rw[hg]at hG
    clear hm hg
    generalize us.set user.toNat ⟨v,c,ok⟩=us' at *
    simp[ah,ai,ae,af,ab, *,kJ,hu.r,hq.r,hyq.r,bad]
 ·cases h
end
end Go.Proofs.YtmkmimgokagimaaGreat
