/-
  Rows of runes: what the functions answer. No statement of a seat is proved here.
-/
import Derived.Test.YtmjkpdknicjjgaaMIdsFns
set_option linter.unusedVariables false
set_option linter.unusedSimpArgs false
set_option linter.unusedSectionVars false
set_option linter.unnecessarySimpa false
set_option maxRecDepth 100000
namespace Go.Proofs.Ytmjkpdknicjjgaa
open Go.Ab
attribute [local simp] bU bB bD bC keep thr cg bA bE ek ej bW cf aO cW List.take_of_length_le
def Gp (n:Int):Bool:=(decide (0≤n)&&decide (n<55296))||(decide (57343<n)&&decide (n≤1114111))
@[simp] theorem TW (n:Int):limf env 108 [.v (.int .i32 n)]=some (aB (Gp n)):=by
 refine aG (fn:=Try.f108) (c:=fJ) rfl (by kernel_rfl) (by kernel_rfl) (by kernel_rfl) (by kernel_rfl) ?_;refine nw _ _ _ fun g=>?_
 simp [af,ah,ad,ae,aa, *,fK,Gp]
 repeat' ((first | refine rJ (fun h=>?_) (fun h=>?_) | refine mC (fun h=>?_) (fun h=>?_) | refine mD (fun h=>?_) (fun h=>?_) | refine mA (fun h=>?_) (fun h=>?_) | refine mB (fun h=>?_) (fun h=>?_))<;>(try simp only [decide_eq_true_eq,decide_eq_false_iff_not,Bool.not_eq_true',Bool.not_eq_false',Bool.and_eq_true,Bool.or_eq_true] at h)<;>(try simp [af,ah,ad,ae,aa, *]))
 all_goals (try grind)
@[simp] theorem TT (n:Int):limf env 107 [.v (.int .i32 n)]=some (aB (!ry n)):=by
 refine aG (fn:=Try.f107) (c:=lJ) rfl (by kernel_rfl) (by kernel_rfl) (by kernel_rfl) (by kernel_rfl) ?_;refine uB _ _ _ fun g=>?_
 by_cases h:n = -1
 ·subst h;simp [af,ah,ad,ae,aa, *,je,ry]
 ·simp [af,ah,ad,ae,aa, *,je,ry,Gp]
def sK:List Int→Nat→Int
 | [],_ => -1
 | n :: l,k=>if ry n then sK l (k+1) else k
theorem FH (l:List Int) : ∀k:Nat,(0≤sK l k↔l.all ry=false):=by
 induction l with
 | nil=>intro k;simp [sK]
 | cons n l ih =>
  intro k
  unfold sK
  cases h:ry n with
  | true=>rw [if_pos rfl,ih,List.all_cons,h,Bool.true_and]
  | false=>simp [h]
theorem EV {x0:AV} {Q:AV→Heap→Prop} {l:List Int} (hx:Sl 1 (rows l) x0) (hl:l.length<4611686018427387904) : ∀(s:List Int) (k:Nat) (i:Int) (H:Heap),l.drop k=s→k≤l.length→i=k →
 (∀y H',y=aI (sK s k)→Q y H') →
 GoL env Try.f112 0 bN [(8,aI i),(0,x0),(1,.fn (.func 107) [] []),(7,aI l.length)] H Q:=by
 intro s
 induction s with
 | nil =>
  rintro k i H hs hk rfl hQ
  obtain rfl:=drop_nil hs hk
  refine eZ _ _ _ _ _ _ fun g=>?_
  simp [af,ah,ad,ae,aa, *,bO]
  all_goals exact hQ _ _ rfl
 | cons b s ih =>
  rintro k i H hs hk rfl hQ
  obtain ⟨hlt,hg,hs',hg'⟩:=drop_cons hs
  refine eZ _ _ _ _ _ _ fun g=>?_
  have e3:=IntWalk.i64_in ((k:Int)+1) (by omega)
  cases hb:ry b with
  | true =>
   simp [af,ah,ad,ae,aa, *,bO,hx.idx,rows,aR]
   exact ih (k+1) _ _ hs' (by omega) (by simp) (fun y H' e=>hQ y H' (by simp [e,sK,hb]))
  | false =>
   simp [af,ah,ad,ae,aa, *,bO,hx.idx,rows,aR]
   exact hQ _ _ (by simp [sK,hb])
section
variable {x:AV} {l:List Int} (hx:Sl 1 (rows l) x) (hl:l.length<4611686018427387904)
include hx hl
theorem Fe:limf env 112 [x,.fn (.func 107) [] []]=some (aI (sK l 0)):=by
 refine aG (fn:=Try.f112) (c:=cO) rfl (by kernel_rfl) (by kernel_rfl) (by kernel_rfl) (by kernel_rfl) ?_;refine jD _ _ _ _ fun g=>?_
 have h:=hx.len
 simp [af,ah,ad,ae,aa, *,dN]
 exact EV hx hl l 0 _ _ rfl (by omega) rfl (fun y H' e=>by simp [e])
theorem JS:limf env 109 [x,.fn (.func 107) [] []]=some (aB (!l.all ry)):=by
 refine aG (fn:=Try.f109) (c:=du) rfl (by kernel_rfl) (by kernel_rfl) (by kernel_rfl) (by kernel_rfl) ?_;refine iL _ _ _ _ fun g=>?_
 have h:=Fe hx hl
 have e:decide (0≤sK l 0) = !l.all ry:=by
  have:=FH l 0
  cases h:l.all ry<;>simp [h] at this ⊢ <;> omega
 simp [af,ah,ad,ae,aa, *,dv,hx.r]
theorem vK:limf env 89 [x]=some (aI (rowE l)):=by
 refine aG (fn:=Try.f89) (c:=nG) rfl (by kernel_rfl) (by kernel_rfl) (by kernel_rfl) (by kernel_rfl) ?_;refine xj _ _ _ fun g=>?_
 have h:=JS hx hl
 have h2:=hx.len
 by_cases h64:64<l.length
 ·have:(64:Int)<l.length:=by omega
  simp [af,ah,ad,ae,aa, *,kH,rowE,hx.r]
 ·have : ¬(64:Int)<l.length:=by omega
  cases hb:l.all ry<;>simp [af,ah,ad,ae,aa, *,kH,rowE,hx.r]
end
theorem FT {x0 x1:AV} {Q:AV→Heap→Prop} {l m:List Int} (hx:Sl 1 (rows l) x0) (hy:Sl 1 (rows m) x1) (hl:l.length<4611686018427387904) (hlm:m.length=l.length) : ∀(s t:List Int) (k:Nat) (i:Int) (H:Heap),l.drop k=s→m.drop k=t→k≤l.length→i=k →
 (∀y H',y=aB (decide (s=t))→Q y H') →
 GoL env Try.f92 0 cr [(13,aI i),(1,x1),(0,x0),(12,aI l.length)] H Q:=by
 intro s
 induction s with
 | nil =>
  rintro t k i H hs ht hk rfl hQ
  obtain rfl:=drop_nil hs hk
  rw [←hlm,List.drop_length] at ht
  subst ht
  refine fO _ _ _ _ _ _ fun g=>?_
  simp [af,ah,ad,ae,aa, *,cu]
  all_goals exact hQ _ _ rfl
 | cons b s ih =>
  rintro t k i H hs ht hk rfl hQ
  obtain ⟨hlt,hg,hs',hg'⟩:=drop_cons hs
  cases t with
  | nil=>have:=congrArg List.length ht;simp at this;omega
  | cons c t =>
  obtain ⟨hlt2,hg2,ht',hg2'⟩:=drop_cons ht
  refine fO _ _ _ _ _ _ fun g=>?_
  have e3:=IntWalk.i64_in ((k:Int)+1) (by omega)
  by_cases hb:b=c
  ·subst hb
   simp [af,ah,ad,ae,aa, *,cu,hx.idx,hy.idx,rows,aR]
   exact ih t (k+1) _ _ hs' ht' (by omega) (by simp) (fun y H' e=>hQ y H' (by simp [e]))
  ·simp [af,ah,ad,ae,aa, *,cu,hx.idx,hy.idx,rows,aR]
   all_goals exact hQ _ _ (by simp [hb])
theorem GM {x0 x1:AV} {Q:AV→Heap→Prop} {l m:List Int} (hx:Sl 1 (rows l) x0) (hy:Sl 1 (rows m) x1) (hl:l.length<4611686018427387904) (hlm:m.length=l.length) : ∀(s t:List Int) (k:Nat) (i:Int) (H:Heap),l.drop k=s→m.drop k=t→k≤l.length→i=k →
 (∀y H',y=aB (decide (s=t))→Q y H') →
 GoL env Try.f70 0 dq [(5,aI i),(1,x1),(0,x0)] H Q:=by
 intro s
 induction s with
 | nil =>
  rintro t k i H hs ht hk rfl hQ
  obtain rfl:=drop_nil hs hk
  rw [←hlm,List.drop_length] at ht
  subst ht
  refine iM _ _ _ _ _ fun g=>?_
  simp [af,ah,ad,ae,aa, *,dw,hx.len]
  all_goals exact hQ _ _ rfl
 | cons b s ih =>
  rintro t k i H hs ht hk rfl hQ
  obtain ⟨hlt,hg,hs',hg'⟩:=drop_cons hs
  cases t with
  | nil=>have:=congrArg List.length ht;simp at this;omega
  | cons c t =>
  obtain ⟨hlt2,hg2,ht',hg2'⟩:=drop_cons ht
  refine iM _ _ _ _ _ fun g=>?_
  have e3:=IntWalk.i64_in ((k:Int)+1) (by omega)
  by_cases hb:b=c
  ·subst hb
   simp [af,ah,ad,ae,aa, *,dw,hx.idx,hy.idx,hx.len,rows,aR]
   exact ih t (k+1) _ _ hs' ht' (by omega) (by simp) (fun y H' e=>hQ y H' (by simp [e]))
  ·simp [af,ah,ad,ae,aa, *,dw,hx.idx,hy.idx,hx.len,rows,aR]
   all_goals exact hQ _ _ (by simp [hb])
section
variable {x y:AV} {l m:List Int} (hx:Sl 1 (rows l) x) (hy:Sl 1 (rows m) y) (hl:l.length<4611686018427387904)
include hx hy hl
theorem G0:limf env 92 [x,y]=some (aB (decide (l=m))):=by
 refine aG (fn:=Try.f92) (c:=dg) rfl (by kernel_rfl) (by kernel_rfl) (by kernel_rfl) (by kernel_rfl) ?_;refine kQ _ _ _ _ fun g=>?_
 have h1:=hx.len
 have h2:=hy.len
 by_cases h:m.length=l.length
 ·have h':(m.length:Int)=l.length:=by omega
  simp [af,ah,ad,ae,aa, *,dh]
  exact FT hx hy hl h l m 0 0 _ rfl rfl (by omega) rfl (fun y H' e=>by simp [e])
 ·have h' : ¬(l.length:Int)=m.length:=by omega
  have hne:l≠m:=fun e=>h (by rw [e])
  have h'' : ¬(m.length:Int)=l.length:=by omega
  simp [af,ah,ad,ae,aa, *,dh]
theorem JJ:limf env 70 [x,y]=some (aB (decide (l=m))):=by
 refine aG (fn:=Try.f70) (c:=eT) rfl (by kernel_rfl) (by kernel_rfl) (by kernel_rfl) (by kernel_rfl) ?_;refine oN _ _ _ _ fun g=>?_
 have h1:=hx.len
 have h2:=hy.len
 by_cases h:m.length=l.length
 ·have h':(m.length:Int)=l.length:=by omega
  simp [af,ah,ad,ae,aa, *,eU]
  exact GM hx hy hl h l m 0 0 _ rfl rfl (by omega) rfl (fun y H' e=>by simp [e])
 ·have h' : ¬(l.length:Int)=m.length:=by omega
  have hne:l≠m:=fun e=>h (by rw [e])
  have h'' : ¬(m.length:Int)=l.length:=by omega
  simp [af,ah,ad,ae,aa, *,eU]
end
end Go.Proofs.Ytmjkpdknicjjgaa
