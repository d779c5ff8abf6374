/-
  Rows of runes: what the functions answer. No statement of a seat is proved here.
-/
import Derived.Test.YtmjkpdknicjjgaaMIdsFns
set_option linter.unusedVariables false
set_option linter.unusedSimpArgs false
set_option linter.unusedSectionVars false
set_option linter.unnecessarySimpa false
set_option maxRecDepth 100000
namespace Go.Proofs.Ytmjkpdknicjjgaa
open Go.Ab
attribute [local simp] bZ bD bI bH keep thr cz bA bJ eL eK bX cy aW cY List.take_of_length_le
def Fk (n:Int):Bool:=(decide (0≤n)&&decide (n<55296))||(decide (57343<n)&&decide (n≤1114111))
@[simp] theorem Su (n:Int):limf env 108 [.v (.int .i32 n)]=some (aB (Fk n)):=by
 refine aH (fn:=Try.f108) (c:=fG) rfl (by kernel_rfl) (by kernel_rfl) (by kernel_rfl) (by kernel_rfl) ?_;refine mS _ _ _ fun g=>?_
 simp [af,ah,ad,ae,aa, *,fH,Fk]
 repeat' ((first | refine sQ (fun h=>?_) (fun h=>?_) | refine nI (fun h=>?_) (fun h=>?_) | refine nJ (fun h=>?_) (fun h=>?_) | refine nG (fun h=>?_) (fun h=>?_) | refine nH (fun h=>?_) (fun h=>?_))<;>(try simp only [decide_eq_true_eq,decide_eq_false_iff_not,Bool.not_eq_true',Bool.not_eq_false',Bool.and_eq_true,Bool.or_eq_true] at h)<;>(try simp [af,ah,ad,ae,aa, *]))
 all_goals (try grind)
@[simp] theorem Sq (n:Int):limf env 107 [.v (.int .i32 n)]=some (aB (!qO n)):=by
 refine aH (fn:=Try.f107) (c:=k5) rfl (by kernel_rfl) (by kernel_rfl) (by kernel_rfl) (by kernel_rfl) ?_;refine tK _ _ _ fun g=>?_
 by_cases h:n = -1
 ·subst h;simp [af,ah,ad,ae,aa, *,iU,qO]
 ·simp [af,ah,ad,ae,aa, *,iU,qO,Fk]
def sb:List Int→Nat→Int
 | [],_ => -1
 | n :: l,k=>if qO n then sb l (k+1) else k
theorem EF (l:List Int) : ∀k:Nat,(0≤sb l k↔l.all qO=false):=by
 induction l with
 | nil=>intro k;simp [sb]
 | cons n l ih =>
  intro k
  unfold sb
  cases h:qO n with
  | true=>rw [if_pos rfl,ih,List.all_cons,h,Bool.true_and]
  | false=>simp [h]
theorem DY {x0:AV} {Q:AV→Heap→Prop} {l:List Int} (hx:Sl 1 (rows l) x0) (hl:l.length<4611686018427387904) : ∀(s:List Int) (k:Nat) (i:Int) (H:Heap),l.drop k=s→k≤l.length→i=k →
 (∀y H',y=aI (sb s k)→Q y H') →
 GoL env Try.f112 0 bO [(8,aI i),(0,x0),(1,.fn (.func 107) [] []),(7,aI l.length)] H Q:=by
 intro s
 induction s with
 | nil =>
  rintro k i H hs hk rfl hQ
  obtain rfl:=drop_nil hs hk
  refine eV _ _ _ _ _ _ fun g=>?_
  simp [af,ah,ad,ae,aa, *,bP]
  all_goals exact hQ _ _ rfl
 | cons b s ih =>
  rintro k i H hs hk rfl hQ
  obtain ⟨hlt,hg,hs',hg'⟩:=drop_cons hs
  refine eV _ _ _ _ _ _ fun g=>?_
  have e3:=IntWalk.i64_in ((k:Int)+1) (by omega)
  cases hb:qO b with
  | true =>
   simp [af,ah,ad,ae,aa, *,bP,hx.idx,rows,aR]
   exact ih (k+1) _ _ hs' (by omega) (by simp) (fun y H' e=>hQ y H' (by simp [e,sb,hb]))
  | false =>
   simp [af,ah,ad,ae,aa, *,bP,hx.idx,rows,aR]
   exact hQ _ _ (by simp [sb,hb])
section
variable {x:AV} {l:List Int} (hx:Sl 1 (rows l) x) (hl:l.length<4611686018427387904)
include hx hl
theorem Eg:limf env 112 [x,.fn (.func 107) [] []]=some (aI (sb l 0)):=by
 refine aH (fn:=Try.f112) (c:=cO) rfl (by kernel_rfl) (by kernel_rfl) (by kernel_rfl) (by kernel_rfl) ?_;refine jq _ _ _ _ fun g=>?_
 have h:=hx.len
 simp [af,ah,ad,ae,aa, *,dP]
 exact DY hx hl l 0 _ _ rfl (by omega) rfl (fun y H' e=>by simp [e])
theorem IM:limf env 109 [x,.fn (.func 107) [] []]=some (aB (!l.all qO)):=by
 refine aH (fn:=Try.f109) (c:=dp) rfl (by kernel_rfl) (by kernel_rfl) (by kernel_rfl) (by kernel_rfl) ?_;refine iF _ _ _ _ fun g=>?_
 have h:=Eg hx hl
 have e:decide (0≤sb l 0) = !l.all qO:=by
  have:=EF l 0
  cases h:l.all qO<;>simp [h] at this ⊢ <;> omega
 simp [af,ah,ad,ae,aa, *,dq,hx.r]
theorem uQ:limf env 89 [x]=some (aI (rowE l)):=by
 refine aH (fn:=Try.f89) (c:=mZ) rfl (by kernel_rfl) (by kernel_rfl) (by kernel_rfl) (by kernel_rfl) ?_;refine wm _ _ _ fun g=>?_
 have h:=IM hx hl
 have h2:=hx.len
 by_cases h64:64<l.length
 ·have:(64:Int)<l.length:=by omega
  simp [af,ah,ad,ae,aa, *,ko,rowE,hx.r]
 ·have : ¬(64:Int)<l.length:=by omega
  cases hb:l.all qO<;>simp [af,ah,ad,ae,aa, *,ko,rowE,hx.r]
end
theorem EO {x0 x1:AV} {Q:AV→Heap→Prop} {l m:List Int} (hx:Sl 1 (rows l) x0) (hy:Sl 1 (rows m) x1) (hl:l.length<4611686018427387904) (hlm:m.length=l.length) : ∀(s t:List Int) (k:Nat) (i:Int) (H:Heap),l.drop k=s→m.drop k=t→k≤l.length→i=k →
 (∀y H',y=aB (decide (s=t))→Q y H') →
 GoL env Try.f92 0 cf [(13,aI i),(1,x1),(0,x0),(12,aI l.length)] H Q:=by
 intro s
 induction s with
 | nil =>
  rintro t k i H hs ht hk rfl hQ
  obtain rfl:=drop_nil hs hk
  rw [←hlm,List.drop_length] at ht
  subst ht
  refine fL _ _ _ _ _ _ fun g=>?_
  simp [af,ah,ad,ae,aa, *,ch]
  all_goals exact hQ _ _ rfl
 | cons b s ih =>
  rintro t k i H hs ht hk rfl hQ
  obtain ⟨hlt,hg,hs',hg'⟩:=drop_cons hs
  cases t with
  | nil=>have:=congrArg List.length ht;simp at this;omega
  | cons c t =>
  obtain ⟨hlt2,hg2,ht',hg2'⟩:=drop_cons ht
  refine fL _ _ _ _ _ _ fun g=>?_
  have e3:=IntWalk.i64_in ((k:Int)+1) (by omega)
  by_cases hb:b=c
  ·subst hb
   simp [af,ah,ad,ae,aa, *,ch,hx.idx,hy.idx,rows,aR]
   exact ih t (k+1) _ _ hs' ht' (by omega) (by simp) (fun y H' e=>hQ y H' (by simp [e]))
  ·simp [af,ah,ad,ae,aa, *,ch,hx.idx,hy.idx,rows,aR]
   all_goals exact hQ _ _ (by simp [hb])
theorem FI {x0 x1:AV} {Q:AV→Heap→Prop} {l m:List Int} (hx:Sl 1 (rows l) x0) (hy:Sl 1 (rows m) x1) (hl:l.length<4611686018427387904) (hlm:m.length=l.length) : ∀(s t:List Int) (k:Nat) (i:Int) (H:Heap),l.drop k=s→m.drop k=t→k≤l.length→i=k →
 (∀y H',y=aB (decide (s=t))→Q y H') →
 GoL env Try.f70 0 dm [(5,aI i),(1,x1),(0,x0)] H Q:=by
 intro s
 induction s with
 | nil =>
  rintro t k i H hs ht hk rfl hQ
  obtain rfl:=drop_nil hs hk
  rw [←hlm,List.drop_length] at ht
  subst ht
  refine iH _ _ _ _ _ fun g=>?_
  simp [af,ah,ad,ae,aa, *,dt,hx.len]
  all_goals exact hQ _ _ rfl
 | cons b s ih =>
  rintro t k i H hs ht hk rfl hQ
  obtain ⟨hlt,hg,hs',hg'⟩:=drop_cons hs
  cases t with
  | nil=>have:=congrArg List.length ht;simp at this;omega
  | cons c t =>
  obtain ⟨hlt2,hg2,ht',hg2'⟩:=drop_cons ht
  refine iH _ _ _ _ _ fun g=>?_
  have e3:=IntWalk.i64_in ((k:Int)+1) (by omega)
  by_cases hb:b=c
  ·subst hb
   simp [af,ah,ad,ae,aa, *,dt,hx.idx,hy.idx,hx.len,rows,aR]
   exact ih t (k+1) _ _ hs' ht' (by omega) (by simp) (fun y H' e=>hQ y H' (by simp [e]))
  ·simp [af,ah,ad,ae,aa, *,dt,hx.idx,hy.idx,hx.len,rows,aR]
   all_goals exact hQ _ _ (by simp [hb])
section
variable {x y:AV} {l m:List Int} (hx:Sl 1 (rows l) x) (hy:Sl 1 (rows m) y) (hl:l.length<4611686018427387904)
include hx hy hl
theorem FT:limf env 92 [x,y]=some (aB (decide (l=m))):=by
 refine aH (fn:=Try.f92) (c:=dc) rfl (by kernel_rfl) (by kernel_rfl) (by kernel_rfl) (by kernel_rfl) ?_;refine kA _ _ _ _ fun g=>?_
 have h1:=hx.len
 have h2:=hy.len
 by_cases h:m.length=l.length
 ·have h':(m.length:Int)=l.length:=by omega
  simp [af,ah,ad,ae,aa, *,de]
  exact EO hx hy hl h l m 0 0 _ rfl rfl (by omega) rfl (fun y H' e=>by simp [e])
 ·have h' : ¬(l.length:Int)=m.length:=by omega
  have hne:l≠m:=fun e=>h (by rw [e])
  have h'' : ¬(m.length:Int)=l.length:=by omega
  simp [af,ah,ad,ae,aa, *,de]
theorem ID:limf env 70 [x,y]=some (aB (decide (l=m))):=by
 refine aH (fn:=Try.f70) (c:=eQ) rfl (by kernel_rfl) (by kernel_rfl) (by kernel_rfl) (by kernel_rfl) ?_;refine nZ _ _ _ _ fun g=>?_
 have h1:=hx.len
 have h2:=hy.len
 by_cases h:m.length=l.length
 ·have h':(m.length:Int)=l.length:=by omega
  simp [af,ah,ad,ae,aa, *,eR]
  exact FI hx hy hl h l m 0 0 _ rfl rfl (by omega) rfl (fun y H' e=>by simp [e])
 ·have h' : ¬(l.length:Int)=m.length:=by omega
  have hne:l≠m:=fun e=>h (by rw [e])
  have h'' : ¬(m.length:Int)=l.length:=by omega
  simp [af,ah,ad,ae,aa, *,eR]
end
end Go.Proofs.Ytmjkpdknicjjgaa
