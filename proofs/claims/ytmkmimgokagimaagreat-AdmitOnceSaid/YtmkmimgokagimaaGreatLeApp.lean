/-
  Grants applied: what these functions answer. No statement of a seat is proved here.
-/
import Derived.Test.YtmkmimgokagimaaGreatMLeTwin
import Derived.Test.YtmkmimgokagimaaGreatRecFns
set_option linter.unusedVariables false
set_option linter.unusedSimpArgs false
set_option linter.unusedSectionVars false
set_option linter.unnecessarySimpa false
set_option maxRecDepth 100000
namespace Go.Proofs.YtmkmimgokagimaaGreat
open Go.Ab
attribute [local simp] bj aL aF bg bf keep thr bx aT bc da cZ cJ bD aD bM List.take_of_length_le E6
def ifcT(P:Program)(t:TypeId):Bool:=match P.underlying t with
 | some (.interface _)=>false
 | some _=>true
 | none=>false
theorem zj{P:Program}{t:TypeId}(h:ifcT P t=true)(x:AV):o4 P t (some x)=some (.ifc t x,[]):=by
 unfold ifcT at h
 unfold o4
 cases hu:P.underlying t with
 | none=>rw[hu]at h;cases h
 | some d=>rw[hu]at h;cases d<;>first | rfl | cases h
theorem wo{P:Program}{t want:TypeId}(h:ifcT P want=true)(y:AV)(ok:Bool):om P (some (.ifc t y)) want ok=(if t=want then some ((if ok then .tup [y,.v (.bool true)] else y),[]) else if ok then (fC P want).map fun z=>(.tup [z,.v (.bool false)],[]) else none):=by
 unfold ifcT at h
 unfold om
 cases hu:P.underlying want with
 | none=>rw[hu]at h;cases h
 | some d=>rw[hu]at h;cases d<;>first | rfl | cases h
@[simp] theorem U2:ifcT env.P 25=true:=by kernel_rfl
@[simp] theorem U3:ifcT env.P 42=true:=by kernel_rfl
attribute [local simp] zj wo
section
variable{xu xq:AV}{us:List Clear}{qs:List Quota}{gr:Int}(hu:Sl 3 (eN us) xu)(hq:Sl 5 (eQ qs) xq)(hql:qs.length * 32≤140737488355328)(hul:us.length * 12≤140737488355328)
include hu hq hql hul
theorem K7(user:Int)(v:UInt8)(c:UInt32)(ok:Bool)(h0:0≤user)(h1:user<us.length)(hg:gr≠0) : ∃yq,Sl 5 (eQ qs) yq ∧
 limf env 203 [.agg [xu,xq,aI gr],.agg [aI user,a8 v,a32 c,aB ok]]=some (.ifc 25 (.agg [.isl 3 (eN (us.set user.toNat ⟨v,c,ok⟩)) none,yq,aI (IntKind.i64.wrap (gr - 1))])):=by
 have hT:=IP (gr:=gr) hu hq hql hul
 obtain⟨cu,rfl,_⟩:=hu.islN (by intro e;have:=congrArg List.length e;simp at this;subst this;simp at h1;omega)
 have hne:eN us≠[]:=by intro e;have:=congrArg List.length e;simp at this;subst this;simp at h1;omega
 rw[nw 3 cu hne]at hT
 have oq:=pq hq
 generalize nZ xq=yq at *
 have hw:gT (eN us) user.toNat 0 [a8 v,a32 c,aB ok]=some (eN (us.set user.toNat ⟨v,c,ok⟩)):=by
  have hlt:user.toNat<us.length:=by omega
  simp[Ec,List.getElem?_eq_getElem hlt,Clear.enc,List.map_set]
 have hlen:(eN us).length=us.length:=by simp
 have h1' : ¬(us.length:Int)≤user:=by omega
 rcases oq with ⟨rfl,h2⟩ | rfl | ⟨rfl,h2⟩
 ·refine⟨aNil,.inl ⟨rfl,h2⟩,?_⟩
  refine aw (fn:=Tryz.f203) (c:=ij) rfl (by kernel_rfl) (by kernel_rfl) (by kernel_rfl) (by kernel_rfl) ?_;refine jC _ _ _ _ fun g=>?_
  simp[af,ah,ad,ae,ab, *,il,hq.r,aF]
 ·refine⟨.isl 5 (eQ qs) none,Sl.mk _ _,?_⟩
  refine aw (fn:=Tryz.f203) (c:=ij) rfl (by kernel_rfl) (by kernel_rfl) (by kernel_rfl) (by kernel_rfl) ?_;refine jC _ _ _ _ fun g=>?_
  simp[af,ah,ad,ae,ab, *,il,hq.r,aF]
 ·refine⟨.isl 5 [] (some 0),.inr ⟨some 0,by rw[h2],by rw[h2];simp⟩,?_⟩
  refine aw (fn:=Tryz.f203) (c:=ij) rfl (by kernel_rfl) (by kernel_rfl) (by kernel_rfl) (by kernel_rfl) ?_;refine jC _ _ _ _ fun g=>?_
  simp[af,ah,ad,ae,ab, *,il,hq.r,aF]
theorem II(user:Int)(v:UInt8)(c:UInt32)(ok:Bool)(h1:(us.length:Int)≤user):limf env 203 [.agg [xu,xq,aI gr],.agg [aI user,a8 v,a32 c,aB ok]]=some (.ifc 42 (aI 2)):=by
 refine aw (fn:=Tryz.f203) (c:=ij) rfl (by kernel_rfl) (by kernel_rfl) (by kernel_rfl) (by kernel_rfl) ?_;refine jC _ _ _ _ fun g=>?_
 have hlen:(eN us).length=us.length:=by simp
 simp[af,ah,ad,ae,ab, *,il,hu.r,hq.r]
theorem IH(user:Int)(v:UInt8)(c:UInt32)(ok:Bool)(h1 : ¬(us.length:Int)≤user)(hg:gr=0):limf env 203 [.agg [xu,xq,aI gr],.agg [aI user,a8 v,a32 c,aB ok]]=some (.ifc 42 (aI 9)):=by
 subst hg
 refine aw (fn:=Tryz.f203) (c:=ij) rfl (by kernel_rfl) (by kernel_rfl) (by kernel_rfl) (by kernel_rfl) ?_;refine jC _ _ _ _ fun g=>?_
 have hlen:(eN us).length=us.length:=by simp
 simp[af,ah,ad,ae,ab, *,il,hu.r,hq.r]
end
def xI(us:List Clear)(qs:List Quota)(gr:Int)(user:Int)(v:UInt8)(c:UInt32)(ok:Bool):Int :=
 if polB us qs gr&&mayG user v c ok then (if (us.length:Int)≤user then 2 else if gr=0 then 9 else 0) else 8
section
variable{xu xq:AV}{us:List Clear}{qs:List Quota}{gr:Int}(hu:Sl 3 (eN us) xu)(hq:Sl 5 (eQ qs) xq)(hql:qs.length * 32≤140737488355328)(hul:us.length * 12≤140737488355328)
include hu hq hql hul
theorem IQ(user:Int)(v:UInt8)(c:UInt32)(ok:Bool)(h:xI us qs gr user v c ok≠0):limf env 152 [.agg [xu,xq,aI gr],.agg [aI user,a8 v,a32 c,aB ok]]=some (.tup [.agg [aNil,aNil,aI 0],aI (xI us qs gr user v c ok)]):=by
 have hC:=yw (gr:=gr) hu hq (by omega) (by omega)
 have hG:=F1 user v c ok
 refine aw (fn:=Tryz.f152) (c:=oD) rfl (by kernel_rfl) (by kernel_rfl) (by kernel_rfl) (by kernel_rfl) ?_;refine tg _ _ _ _ fun g=>?_
 unfold xI at h ⊢
 cases hm:polB us qs gr with
 | false =>
  cases hg:mayG user v c ok<;>simp[af,ah,ad,ae,ab, *,im,hu.r,hq.r,bad]
 | true =>
  cases hg:mayG user v c ok with
  | false=>simp[af,ah,ad,ae,ab, *,im,hu.r,hq.r,bad]
  | true =>
   rw[hm,hg]at h
   simp only[Bool.and_self,if_true]at h ⊢
   by_cases h1:(us.length:Int)≤user
   ·have hA:=II (gr:=gr) hu hq hql hul user v c ok h1
    simp[af,ah,ad,ae,ab, *,im,hu.r,hq.r,bad]
   ·have h0:gr=0:=Decidable.by_contra fun e=>h (by rw[if_neg h1,if_neg e])
    have hA:=IH (gr:=gr) hu hq hql hul user v c ok h1 h0
    subst h0
    simp[af,ah,ad,ae,ab, *,im,hu.r,hq.r,bad]
theorem F2(user:Int)(v:UInt8)(c:UInt32)(ok:Bool)(h:xI us qs gr user v c ok=0) : ∃yq,Sl 5 (eQ qs) yq ∧
 limf env 152 [.agg [xu,xq,aI gr],.agg [aI user,a8 v,a32 c,aB ok]]=some (.tup [.agg [.isl 3 (eN (us.set user.toNat ⟨v,c,ok⟩)) none,yq,aI (IntKind.i64.wrap (gr - 1))],aI 0]):=by
 have hC:=yw (gr:=gr) hu hq (by omega) (by omega)
 have hG:=F1 user v c ok
 unfold xI at h
 split at h
 ·rename_i hm
  rw[Bool.and_eq_true]at hm
  obtain⟨hm,hg⟩:=hm
  split at h
  ·cases h
  ·rename_i h1
   split at h
   ·cases h
   ·rename_i h2
    have hg':=hg
    simp only[mayG,Bool.and_eq_true,decide_eq_true_eq]at hg'
    obtain⟨yq,hyq,hA⟩:=K7 (gr:=gr) hu hq hql hul user v c ok hg'.1.1 (by omega) h2
    refine⟨yq,hyq,?_⟩
    clear hg' h
    refine aw (fn:=Tryz.f152) (c:=oD) rfl (by kernel_rfl) (by kernel_rfl) (by kernel_rfl) (by kernel_rfl) ?_;refine tg _ _ _ _ fun g=>?_
    rw[hm]at hC
    rw[hg]at hG
    clear hm hg
    generalize us.set user.toNat ⟨v,c,ok⟩=us' at *
    simp[af,ah,ad,ae,ab, *,im,hu.r,hq.r,hyq.r,bad]
 ·cases h
end
end Go.Proofs.YtmkmimgokagimaaGreat
