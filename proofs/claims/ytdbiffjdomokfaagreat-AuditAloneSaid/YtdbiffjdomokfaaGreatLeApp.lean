/-
  Grants applied: what these functions answer. No statement of a seat is proved here.
-/
import Derived.Test.YtdbiffjdomokfaaGreatMLeTwin
import Derived.Test.YtdbiffjdomokfaaGreatRecFns
set_option linter.unusedVariables false
set_option linter.unusedSimpArgs false
set_option linter.unusedSectionVars false
set_option linter.unnecessarySimpa false
set_option maxRecDepth 100000
namespace Go.Proofs.YtdbiffjdomokfaaGreat
open Go.Ab
attribute [local simp] bD bp bl bC bB cV lj bP bt bA dc db cg bR aV cm List.take_of_length_le HD
def L4(P:Program)(t:TypeId):Bool:=match P.underlying t with
 | some (.interface _)=>false
 | some _=>true
 | none=>false
theorem zN{P:Program}{t:TypeId}(h:L4 P t=true)(x:AV):oL P t (some x)=some (.ifc t x,[]):=by
 unfold L4 at h
 unfold oL
 cases hu:P.underlying t with
 | none=>rw[hu]at h;cases h
 | some d=>rw[hu]at h;cases d<;>first | rfl | cases h
theorem xv{P:Program}{t want:TypeId}(h:L4 P want=true)(y:AV)(ok:Bool):o3 P (some (.ifc t y)) want ok=(if t=want then some ((if ok then .tup [y,.v (.bool true)] else y),[]) else if ok then (eG P want).map fun z=>(.tup [z,.v (.bool false)],[]) else none):=by
 unfold L4 at h
 unfold o3
 cases hu:P.underlying want with
 | none=>rw[hu]at h;cases h
 | some d=>rw[hu]at h;cases d<;>first | rfl | cases h
@[simp] theorem XT:L4 env.P 29=true:=by kernel_rfl
@[simp] theorem XU:L4 env.P 23=true:=by kernel_rfl
attribute [local simp] zN xv
section
variable{xu xq:AV}{us:List Clear}{qs:List bu}{gr:Int}(hu:Sl 3 (eW us) xu)(hq:Sl 5 (eY qs) xq)(hql:qs.length * 32≤140737488355328)(hul:us.length * 12≤140737488355328)
include hu hq hql hul
theorem Nb(user:Int)(v:UInt8)(c:UInt32)(ok:Bool)(h0:0≤user)(h1:user<us.length)(hg:gr≠0) : ∃yq,Sl 5 (eY qs) yq ∧
 bj env 97 [.agg [xu,xq,aI gr],.agg [aI user,a8 v,aG c,aB ok]]=some (.ifc 29 (.agg [.cw 3 (eW (us.set user.toNat ⟨v,c,ok⟩)) none,yq,aI (IntKind.i64.wrap (gr - 1))])):=by
 have hT:=Kj (gr:=gr) hu hq hql hul
 obtain⟨cu,rfl,_⟩:=hu.TB (by intro e;have:=congrArg List.length e;simp at this;subst this;simp at h1;omega)
 have hne:eW us≠[]:=by intro e;have:=congrArg List.length e;simp at this;subst this;simp at h1;omega
 rw[oR 3 cu hne]at hT
 have oq:=qz hq
 generalize nY xq=yq at *
 have hw:fb (eW us) user.toNat 0 [a8 v,aG c,aB ok]=some (eW (us.set user.toNat ⟨v,c,ok⟩)):=by
  have hlt:user.toNat<us.length:=by omega
  simp[Ge,List.getElem?_eq_getElem hlt,Clear.enc,List.map_set]
 have hlen:(eW us).length=us.length:=by simp
 have h1' : ¬(us.length:Int)≤user:=by omega
 rcases oq with ⟨rfl,h2⟩ | rfl | ⟨rfl,h2⟩
 ·refine⟨cP,.inl ⟨rfl,h2⟩,?_⟩
  refine aK (fn:=Tryz.f97) (c:=jO) rfl (by kernel_rfl) (by kernel_rfl) (by kernel_rfl) (by kernel_rfl) ?_;refine ly _ _ _ _ fun g=>?_
  simp[ah,ai,ae,af,ad, *,jT,hq.r,bl]
 ·refine⟨.cw 5 (eY qs) none,Sl.mk _ _,?_⟩
  refine aK (fn:=Tryz.f97) (c:=jO) rfl (by kernel_rfl) (by kernel_rfl) (by kernel_rfl) (by kernel_rfl) ?_;refine ly _ _ _ _ fun g=>?_
  simp[ah,ai,ae,af,ad, *,jT,hq.r,bl]
 ·refine⟨.cw 5 [] (some 0),.inr ⟨some 0,by rw[h2],by rw[h2];simp⟩,?_⟩
  refine aK (fn:=Tryz.f97) (c:=jO) rfl (by kernel_rfl) (by kernel_rfl) (by kernel_rfl) (by kernel_rfl) ?_;refine ly _ _ _ _ fun g=>?_
  simp[ah,ai,ae,af,ad, *,jT,hq.r,bl]
theorem Lj(user:Int)(v:UInt8)(c:UInt32)(ok:Bool)(h1:(us.length:Int)≤user):bj env 97 [.agg [xu,xq,aI gr],.agg [aI user,a8 v,aG c,aB ok]]=some (.ifc 23 (aI 2)):=by
 refine aK (fn:=Tryz.f97) (c:=jO) rfl (by kernel_rfl) (by kernel_rfl) (by kernel_rfl) (by kernel_rfl) ?_;refine ly _ _ _ _ fun g=>?_
 have hlen:(eW us).length=us.length:=by simp
 simp[ah,ai,ae,af,ad, *,jT,hu.r,hq.r]
theorem Li(user:Int)(v:UInt8)(c:UInt32)(ok:Bool)(h1 : ¬(us.length:Int)≤user)(hg:gr=0):bj env 97 [.agg [xu,xq,aI gr],.agg [aI user,a8 v,aG c,aB ok]]=some (.ifc 23 (aI 9)):=by
 subst hg
 refine aK (fn:=Tryz.f97) (c:=jO) rfl (by kernel_rfl) (by kernel_rfl) (by kernel_rfl) (by kernel_rfl) ?_;refine ly _ _ _ _ fun g=>?_
 have hlen:(eW us).length=us.length:=by simp
 simp[ah,ai,ae,af,ad, *,jT,hu.r,hq.r]
end
def vK(us:List Clear)(qs:List bu)(gr:Int)(user:Int)(v:UInt8)(c:UInt32)(ok:Bool):Int :=
 if DI us qs gr&&xw user v c ok then (if (us.length:Int)≤user then 2 else if gr=0 then 9 else 0) else 8
section
variable{xu xq:AV}{us:List Clear}{qs:List bu}{gr:Int}(hu:Sl 3 (eW us) xu)(hq:Sl 5 (eY qs) xq)(hql:qs.length * 32≤140737488355328)(hul:us.length * 12≤140737488355328)
include hu hq hql hul
theorem Lp(user:Int)(v:UInt8)(c:UInt32)(ok:Bool)(h:vK us qs gr user v c ok≠0):bj env 80 [.agg [xu,xq,aI gr],.agg [aI user,a8 v,aG c,aB ok]]=some (.tup [.agg [cP,cP,aI 0],aI (vK us qs gr user v c ok)]):=by
 have hC:=yr (gr:=gr) hu hq (by omega) (by omega)
 have hG:=GN user v c ok
 refine aK (fn:=Tryz.f80) (c:=qE) rfl (by kernel_rfl) (by kernel_rfl) (by kernel_rfl) (by kernel_rfl) ?_;refine uP _ _ _ _ fun g=>?_
 unfold vK at h ⊢
 cases hm:DI us qs gr with
 | false =>
  cases hg:xw user v c ok<;>simp[ah,ai,ae,af,ad, *,jU,hu.r,hq.r,bad]
 | true =>
  cases hg:xw user v c ok with
  | false=>simp[ah,ai,ae,af,ad, *,jU,hu.r,hq.r,bad]
  | true =>
   rw[hm,hg]at h
   simp only[Bool.and_self,if_true]at h ⊢
   by_cases h1:(us.length:Int)≤user
   ·have hA:=Lj (gr:=gr) hu hq hql hul user v c ok h1
    simp[ah,ai,ae,af,ad, *,jU,hu.r,hq.r,bad]
   ·have h0:gr=0:=Decidable.by_contra fun e=>h (by rw[if_neg h1,if_neg e])
    have hA:=Li (gr:=gr) hu hq hql hul user v c ok h1 h0
    subst h0
    simp[ah,ai,ae,af,ad, *,jU,hu.r,hq.r,bad]
theorem GO(user:Int)(v:UInt8)(c:UInt32)(ok:Bool)(h:vK us qs gr user v c ok=0) : ∃yq,Sl 5 (eY qs) yq ∧
 bj env 80 [.agg [xu,xq,aI gr],.agg [aI user,a8 v,aG c,aB ok]]=some (.tup [.agg [.cw 3 (eW (us.set user.toNat ⟨v,c,ok⟩)) none,yq,aI (IntKind.i64.wrap (gr - 1))],aI 0]):=by
 have hC:=yr (gr:=gr) hu hq (by omega) (by omega)
 have hG:=GN user v c ok
 unfold vK at h
 split at h
 ·rename_i hm
  rw[Bool.and_eq_true]at hm
  obtain⟨hm,hg⟩:=hm
  split at h
  ·cases h
  ·rename_i h1
   split at h
   ·cases h
   ·rename_i h2
    have hg':=hg
    simp only[xw,Bool.and_eq_true,decide_eq_true_eq]at hg'
    obtain⟨yq,hyq,hA⟩:=Nb (gr:=gr) hu hq hql hul user v c ok hg'.1.1 (by omega) h2
    refine⟨yq,hyq,?_⟩
    clear hg' h
    refine aK (fn:=Tryz.f80) (c:=qE) rfl (by kernel_rfl) (by kernel_rfl) (by kernel_rfl) (by kernel_rfl) ?_;refine uP _ _ _ _ fun g=>?_
    rw[hm]at hC
    rw[hg]at hG
    clear hm hg
    generalize us.set user.toNat ⟨v,c,ok⟩=us' at *
    simp[ah,ai,ae,af,ad, *,jU,hu.r,hq.r,hyq.r,bad]
 ·cases h
end
end Go.Proofs.YtdbiffjdomokfaaGreat
