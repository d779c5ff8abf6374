/-
  Rows of runes: what the functions answer. No statement of a seat is proved here.
-/
import Derived.Test.YtmjkpdknicjjgaaMIdsFns
set_option linter.unusedVariables false
set_option linter.unusedSimpArgs false
set_option linter.unusedSectionVars false
set_option linter.unnecessarySimpa false
set_option maxRecDepth 100000
namespace Go.Proofs.Ytmjkpdknicjjgaa
open Go.Ab
attribute [local simp] cb bC bG bF keep thr cy bB bH eF eE bX cx aO cZ List.take_of_length_le
def GM (n:Int):Bool:=(decide (0≤n)&&decide (n<55296))||(decide (57343<n)&&decide (n≤1114111))
@[simp] theorem Up (n:Int):limf env 108 [.v (.int .i32 n)]=some (aB (GM n)):=by
 refine aG (fn:=Try.f108) (c:=fK) rfl (by kernel_rfl) (by kernel_rfl) (by kernel_rfl) (by kernel_rfl) ?_;refine ny _ _ _ fun g=>?_
 simp [af,ah,ad,ae,aa, *,fL,GM]
 repeat' ((first | refine tI (fun h=>?_) (fun h=>?_) | refine oB (fun h=>?_) (fun h=>?_) | refine oC (fun h=>?_) (fun h=>?_) | refine oz (fun h=>?_) (fun h=>?_) | refine oA (fun h=>?_) (fun h=>?_))<;>(try simp only [decide_eq_true_eq,decide_eq_false_iff_not,Bool.not_eq_true',Bool.not_eq_false',Bool.and_eq_true,Bool.or_eq_true] at h)<;>(try simp [af,ah,ad,ae,aa, *]))
 all_goals (try grind)
@[simp] theorem Um (n:Int):limf env 107 [.v (.int .i32 n)]=some (aB (!rF n)):=by
 refine aG (fn:=Try.f107) (c:=lL) rfl (by kernel_rfl) (by kernel_rfl) (by kernel_rfl) (by kernel_rfl) ?_;refine uN _ _ _ fun g=>?_
 by_cases h:n = -1
 ·subst h;simp [af,ah,ad,ae,aa, *,ji,rF]
 ·simp [af,ah,ad,ae,aa, *,ji,rF,GM]
def sV:List Int→Nat→Int
 | [],_ => -1
 | n :: l,k=>if rF n then sV l (k+1) else k
theorem F4 (l:List Int) : ∀k:Nat,(0≤sV l k↔l.all rF=false):=by
 induction l with
 | nil=>intro k;simp [sV]
 | cons n l ih =>
  intro k
  unfold sV
  cases h:rF n with
  | true=>rw [if_pos rfl,ih,List.all_cons,h,Bool.true_and]
  | false=>simp [h]
theorem Fi {x0:AV} {Q:AV→Heap→Prop} {l:List Int} (hx:Sl 1 (rows l) x0) (hl:l.length<4611686018427387904) : ∀(s:List Int) (k:Nat) (i:Int) (H:Heap),l.drop k=s→k≤l.length→i=k →
 (∀y H',y=aI (sV s k)→Q y H') →
 GoL env Try.f112 0 bR [(8,aI i),(0,x0),(1,.fn (.func 107) [] []),(7,aI l.length)] H Q:=by
 intro s
 induction s with
 | nil =>
  rintro k i H hs hk rfl hQ
  obtain rfl:=drop_nil hs hk
  refine fb _ _ _ _ _ _ fun g=>?_
  simp [af,ah,ad,ae,aa, *,bS]
  all_goals exact hQ _ _ rfl
 | cons b s ih =>
  rintro k i H hs hk rfl hQ
  obtain ⟨hlt,hg,hs',hg'⟩:=drop_cons hs
  refine fb _ _ _ _ _ _ fun g=>?_
  have e3:=IntWalk.i64_in ((k:Int)+1) (by omega)
  cases hb:rF b with
  | true =>
   simp [af,ah,ad,ae,aa, *,bS,hx.idx,rows,aR]
   exact ih (k+1) _ _ hs' (by omega) (by simp) (fun y H' e=>hQ y H' (by simp [e,sV,hb]))
  | false =>
   simp [af,ah,ad,ae,aa, *,bS,hx.idx,rows,aR]
   exact hQ _ _ (by simp [sV,hb])
section
variable {x:AV} {l:List Int} (hx:Sl 1 (rows l) x) (hl:l.length<4611686018427387904)
include hx hl
theorem FC:limf env 112 [x,.fn (.func 107) [] []]=some (aI (sV l 0)):=by
 refine aG (fn:=Try.f112) (c:=cR) rfl (by kernel_rfl) (by kernel_rfl) (by kernel_rfl) (by kernel_rfl) ?_;refine jF _ _ _ _ fun g=>?_
 have h:=hx.len
 simp [af,ah,ad,ae,aa, *,dQ]
 exact Fi hx hl l 0 _ _ rfl (by omega) rfl (fun y H' e=>by simp [e])
theorem Kp:limf env 109 [x,.fn (.func 107) [] []]=some (aB (!l.all rF)):=by
 refine aG (fn:=Try.f109) (c:=dv) rfl (by kernel_rfl) (by kernel_rfl) (by kernel_rfl) (by kernel_rfl) ?_;refine iP _ _ _ _ fun g=>?_
 have h:=FC hx hl
 have e:decide (0≤sV l 0) = !l.all rF:=by
  have:=F4 l 0
  cases h:l.all rF<;>simp [h] at this ⊢ <;> omega
 simp [af,ah,ad,ae,aa, *,dw,hx.r]
theorem vT:limf env 89 [x]=some (aI (rowE l)):=by
 refine aG (fn:=Try.f89) (c:=nI) rfl (by kernel_rfl) (by kernel_rfl) (by kernel_rfl) (by kernel_rfl) ?_;refine xw _ _ _ fun g=>?_
 have h:=Kp hx hl
 have h2:=hx.len
 by_cases h64:64<l.length
 ·have:(64:Int)<l.length:=by omega
  simp [af,ah,ad,ae,aa, *,kN,rowE,hx.r]
 ·have : ¬(64:Int)<l.length:=by omega
  cases hb:l.all rF<;>simp [af,ah,ad,ae,aa, *,kN,rowE,hx.r]
end
theorem Ge {x0 x1:AV} {Q:AV→Heap→Prop} {l m:List Int} (hx:Sl 1 (rows l) x0) (hy:Sl 1 (rows m) x1) (hl:l.length<4611686018427387904) (hlm:m.length=l.length) : ∀(s t:List Int) (k:Nat) (i:Int) (H:Heap),l.drop k=s→m.drop k=t→k≤l.length→i=k →
 (∀y H',y=aB (decide (s=t))→Q y H') →
 GoL env Try.f92 0 cr [(13,aI i),(1,x1),(0,x0),(12,aI l.length)] H Q:=by
 intro s
 induction s with
 | nil =>
  rintro t k i H hs ht hk rfl hQ
  obtain rfl:=drop_nil hs hk
  rw [←hlm,List.drop_length] at ht
  subst ht
  refine fP _ _ _ _ _ _ fun g=>?_
  simp [af,ah,ad,ae,aa, *,cu]
  all_goals exact hQ _ _ rfl
 | cons b s ih =>
  rintro t k i H hs ht hk rfl hQ
  obtain ⟨hlt,hg,hs',hg'⟩:=drop_cons hs
  cases t with
  | nil=>have:=congrArg List.length ht;simp at this;omega
  | cons c t =>
  obtain ⟨hlt2,hg2,ht',hg2'⟩:=drop_cons ht
  refine fP _ _ _ _ _ _ fun g=>?_
  have e3:=IntWalk.i64_in ((k:Int)+1) (by omega)
  by_cases hb:b=c
  ·subst hb
   simp [af,ah,ad,ae,aa, *,cu,hx.idx,hy.idx,rows,aR]
   exact ih t (k+1) _ _ hs' ht' (by omega) (by simp) (fun y H' e=>hQ y H' (by simp [e]))
  ·simp [af,ah,ad,ae,aa, *,cu,hx.idx,hy.idx,rows,aR]
   all_goals exact hQ _ _ (by simp [hb])
theorem G8 {x0 x1:AV} {Q:AV→Heap→Prop} {l m:List Int} (hx:Sl 1 (rows l) x0) (hy:Sl 1 (rows m) x1) (hl:l.length<4611686018427387904) (hlm:m.length=l.length) : ∀(s t:List Int) (k:Nat) (i:Int) (H:Heap),l.drop k=s→m.drop k=t→k≤l.length→i=k →
 (∀y H',y=aB (decide (s=t))→Q y H') →
 GoL env Try.f70 0 dt [(5,aI i),(1,x1),(0,x0)] H Q:=by
 intro s
 induction s with
 | nil =>
  rintro t k i H hs ht hk rfl hQ
  obtain rfl:=drop_nil hs hk
  rw [←hlm,List.drop_length] at ht
  subst ht
  refine iR _ _ _ _ _ fun g=>?_
  simp [af,ah,ad,ae,aa, *,dx,hx.len]
  all_goals exact hQ _ _ rfl
 | cons b s ih =>
  rintro t k i H hs ht hk rfl hQ
  obtain ⟨hlt,hg,hs',hg'⟩:=drop_cons hs
  cases t with
  | nil=>have:=congrArg List.length ht;simp at this;omega
  | cons c t =>
  obtain ⟨hlt2,hg2,ht',hg2'⟩:=drop_cons ht
  refine iR _ _ _ _ _ fun g=>?_
  have e3:=IntWalk.i64_in ((k:Int)+1) (by omega)
  by_cases hb:b=c
  ·subst hb
   simp [af,ah,ad,ae,aa, *,dx,hx.idx,hy.idx,hx.len,rows,aR]
   exact ih t (k+1) _ _ hs' ht' (by omega) (by simp) (fun y H' e=>hQ y H' (by simp [e]))
  ·simp [af,ah,ad,ae,aa, *,dx,hx.idx,hy.idx,hx.len,rows,aR]
   all_goals exact hQ _ _ (by simp [hb])
section
variable {x y:AV} {l m:List Int} (hx:Sl 1 (rows l) x) (hy:Sl 1 (rows m) y) (hl:l.length<4611686018427387904)
include hx hy hl
theorem Ho:limf env 92 [x,y]=some (aB (decide (l=m))):=by
 refine aG (fn:=Try.f92) (c:=dg) rfl (by kernel_rfl) (by kernel_rfl) (by kernel_rfl) (by kernel_rfl) ?_;refine kV _ _ _ _ fun g=>?_
 have h1:=hx.len
 have h2:=hy.len
 by_cases h:m.length=l.length
 ·have h':(m.length:Int)=l.length:=by omega
  simp [af,ah,ad,ae,aa, *,dh]
  exact Ge hx hy hl h l m 0 0 _ rfl rfl (by omega) rfl (fun y H' e=>by simp [e])
 ·have h' : ¬(l.length:Int)=m.length:=by omega
  have hne:l≠m:=fun e=>h (by rw [e])
  have h'' : ¬(m.length:Int)=l.length:=by omega
  simp [af,ah,ad,ae,aa, *,dh]
theorem Kg:limf env 70 [x,y]=some (aB (decide (l=m))):=by
 refine aG (fn:=Try.f70) (c:=eW) rfl (by kernel_rfl) (by kernel_rfl) (by kernel_rfl) (by kernel_rfl) ?_;refine oU _ _ _ _ fun g=>?_
 have h1:=hx.len
 have h2:=hy.len
 by_cases h:m.length=l.length
 ·have h':(m.length:Int)=l.length:=by omega
  simp [af,ah,ad,ae,aa, *,eX]
  exact G8 hx hy hl h l m 0 0 _ rfl rfl (by omega) rfl (fun y H' e=>by simp [e])
 ·have h' : ¬(l.length:Int)=m.length:=by omega
  have hne:l≠m:=fun e=>h (by rw [e])
  have h'' : ¬(m.length:Int)=l.length:=by omega
  simp [af,ah,ad,ae,aa, *,eX]
end
end Go.Proofs.Ytmjkpdknicjjgaa
