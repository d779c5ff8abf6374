/-
  Rows of runes: what the functions answer. No statement of a seat is proved here.
-/
import Derived.Test.YtiidajnodhkidaaGreatMIdBytes
set_option linter.unusedVariables false
set_option linter.unusedSimpArgs false
set_option linter.unusedSectionVars false
set_option linter.unnecessarySimpa false
set_option maxRecDepth 100000
namespace Go.Proofs.YtiidajnodhkidaaGreat
open Go.Ab
attribute [local simp] ct bK bO bN keep thr cC bD bP eE eD cN cB aV dk List.take_of_length_le
def Ih(n:Int):Bool:=(decide (0≤n)&&decide (n<55296))||(decide (57343<n)&&decide (n≤1114111))
@[simp] theorem WJ(n:Int):limf env 187 [.v (.int .i32 n)]=some (aB (Ih n)):=by
 refine aH (fn:=Tryz.f187) (c:=jG) rfl (by kernel_rfl) (by kernel_rfl) (by kernel_rfl) (by kernel_rfl) ?_;refine om _ _ _ fun g=>?_
 simp[af,ah,ad,ae,aa, *,jH,Ih]
 repeat' ((first | refine td (fun h=>?_) (fun h=>?_) | refine nr (fun h=>?_) (fun h=>?_) | refine nv (fun h=>?_) (fun h=>?_) | refine nn (fun h=>?_) (fun h=>?_) | refine np (fun h=>?_) (fun h=>?_))<;>(try simp only[decide_eq_true_eq,decide_eq_false_iff_not,Bool.not_eq_true',Bool.not_eq_false',Bool.and_eq_true,Bool.or_eq_true]at h)<;>(try simp[af,ah,ad,ae,aa, *]))
 all_goals (try grind)
@[simp] theorem WE(n:Int):limf env 186 [.v (.int .i32 n)]=some (aB (!sQ n)):=by
 refine aH (fn:=Tryz.f186) (c:=qf) rfl (by kernel_rfl) (by kernel_rfl) (by kernel_rfl) (by kernel_rfl) ?_;refine we _ _ _ fun g=>?_
 by_cases h:n = -1
 ·subst h;simp[af,ah,ad,ae,aa, *,my,sQ]
 ·simp[af,ah,ad,ae,aa, *,my,sQ,Ih]
def tX:List Int→Nat→Int
 | [],_ => -1
 | n :: l,k=>if sQ n then tX l (k+1) else k
theorem Hu(l:List Int) : ∀k:Nat,(0≤tX l k↔l.all sQ=false):=by
 induction l with
 | nil=>intro k;simp[tX]
 | cons n l ih =>
  intro k
  unfold tX
  cases h:sQ n with
  | true=>rw[if_pos rfl,ih,List.all_cons,h,Bool.true_and]
  | false=>simp[h]
theorem Gy{x0:AV}{Q:AV→Heap→Prop}{l:List Int}(hx:Sl 1 (rows l) x0)(hl:l.length<4611686018427387904) : ∀(s:List Int)(k:Nat)(i:Int)(H:Heap),l.drop k=s→k≤l.length→i=k →
 (∀y H',y=aI (tX s k)→Q y H') →
 GoL env Tryz.f198 0 dw [(8,aI i),(0,x0),(1,.fn (.func 186) [] []),(7,aI l.length)] H Q:=by
 intro s
 induction s with
 | nil =>
  rintro k i H hs hk rfl hQ
  obtain rfl:=drop_nil hs hk
  refine fY _ _ _ _ _ _ fun g=>?_
  simp[af,ah,ad,ae,aa, *,dx]
  all_goals exact hQ _ _ rfl
 | cons b s ih =>
  rintro k i H hs hk rfl hQ
  obtain⟨hlt,hg,hs',hg'⟩:=drop_cons hs
  refine fY _ _ _ _ _ _ fun g=>?_
  have e3:=IntWalk.i64_in ((k:Int)+1) (by omega)
  cases hb:sQ b with
  | true =>
   simp[af,ah,ad,ae,aa, *,dx,hx.idx,rows,aR]
   exact ih (k+1) _ _ hs' (by omega) (by simp) (fun y H' e=>hQ y H' (by simp[e,tX,hb]))
  | false =>
   simp[af,ah,ad,ae,aa, *,dx,hx.idx,rows,aR]
   exact hQ _ _ (by simp[tX,hb])
section
variable{x:AV}{l:List Int}(hx:Sl 1 (rows l) x)(hl:l.length<4611686018427387904)
include hx hl
theorem GU:limf env 198 [x,.fn (.func 186) [] []]=some (aI (tX l 0)):=by
 refine aH (fn:=Tryz.f198) (c:=eO) rfl (by kernel_rfl) (by kernel_rfl) (by kernel_rfl) (by kernel_rfl) ?_;refine kn _ _ _ _ fun g=>?_
 have h:=hx.len
 simp[af,ah,ad,ae,aa, *,gJ]
 exact Gy hx hl l 0 _ _ rfl (by omega) rfl (fun y H' e=>by simp[e])
theorem LK:limf env 188 [x,.fn (.func 186) [] []]=some (aB (!l.all sQ)):=by
 refine aH (fn:=Tryz.f188) (c:=fU) rfl (by kernel_rfl) (by kernel_rfl) (by kernel_rfl) (by kernel_rfl) ?_;refine jz _ _ _ _ fun g=>?_
 have h:=GU hx hl
 have e:decide (0≤tX l 0) = !l.all sQ:=by
  have:=Hu l 0
  cases h:l.all sQ<;>simp[h]at this ⊢ <;> omega
 simp[af,ah,ad,ae,aa, *,fV,hx.r]
theorem xn:limf env 159 [x]=some (aI (rowE l)):=by
 refine aH (fn:=Tryz.f159) (c:=sh) rfl (by kernel_rfl) (by kernel_rfl) (by kernel_rfl) (by kernel_rfl) ?_;refine yM _ _ _ fun g=>?_
 have h:=LK hx hl
 have h2:=hx.len
 by_cases h64:64<l.length
 ·have:(64:Int)<l.length:=by omega
  simp[af,ah,ad,ae,aa, *,oH,rowE,hx.r]
 ·have : ¬(64:Int)<l.length:=by omega
  cases hb:l.all sQ<;>simp[af,ah,ad,ae,aa, *,oH,rowE,hx.r]
end
theorem HG{x0 x1:AV}{Q:AV→Heap→Prop}{l m:List Int}(hx:Sl 1 (rows l) x0)(hy:Sl 1 (rows m) x1)(hl:l.length<4611686018427387904)(hlm:m.length=l.length) : ∀(s t:List Int)(k:Nat)(i:Int)(H:Heap),l.drop k=s→m.drop k=t→k≤l.length→i=k →
 (∀y H',y=aB (decide (s=t))→Q y H') →
 GoL env Tryz.f128 0 dJ [(13,aI i),(1,x1),(0,x0),(12,aI l.length)] H Q:=by
 intro s
 induction s with
 | nil =>
  rintro t k i H hs ht hk rfl hQ
  obtain rfl:=drop_nil hs hk
  rw[←hlm,List.drop_length]at ht
  subst ht
  refine gS _ _ _ _ _ _ fun g=>?_
  simp[af,ah,ad,ae,aa, *,dL]
  all_goals exact hQ _ _ rfl
 | cons b s ih =>
  rintro t k i H hs ht hk rfl hQ
  obtain⟨hlt,hg,hs',hg'⟩:=drop_cons hs
  cases t with
  | nil=>have:=congrArg List.length ht;simp at this;omega
  | cons c t =>
  obtain⟨hlt2,hg2,ht',hg2'⟩:=drop_cons ht
  refine gS _ _ _ _ _ _ fun g=>?_
  have e3:=IntWalk.i64_in ((k:Int)+1) (by omega)
  by_cases hb:b=c
  ·subst hb
   simp[af,ah,ad,ae,aa, *,dL,hx.idx,hy.idx,rows,aR]
   exact ih t (k+1) _ _ hs' ht' (by omega) (by simp) (fun y H' e=>hQ y H' (by simp[e]))
  ·simp[af,ah,ad,ae,aa, *,dL,hx.idx,hy.idx,rows,aR]
   all_goals exact hQ _ _ (by simp[hb])
theorem IG{x0 x1:AV}{Q:AV→Heap→Prop}{l m:List Int}(hx:Sl 1 (rows l) x0)(hy:Sl 1 (rows m) x1)(hl:l.length<4611686018427387904)(hlm:m.length=l.length) : ∀(s t:List Int)(k:Nat)(i:Int)(H:Heap),l.drop k=s→m.drop k=t→k≤l.length→i=k →
 (∀y H',y=aB (decide (s=t))→Q y H') →
 GoL env Tryz.f127 0 fm [(5,aI i),(1,x1),(0,x0)] H Q:=by
 intro s
 induction s with
 | nil =>
  rintro t k i H hs ht hk rfl hQ
  obtain rfl:=drop_nil hs hk
  rw[←hlm,List.drop_length]at ht
  subst ht
  refine jB _ _ _ _ _ fun g=>?_
  simp[af,ah,ad,ae,aa, *,fq,hx.len]
  all_goals exact hQ _ _ rfl
 | cons b s ih =>
  rintro t k i H hs ht hk rfl hQ
  obtain⟨hlt,hg,hs',hg'⟩:=drop_cons hs
  cases t with
  | nil=>have:=congrArg List.length ht;simp at this;omega
  | cons c t =>
  obtain⟨hlt2,hg2,ht',hg2'⟩:=drop_cons ht
  refine jB _ _ _ _ _ fun g=>?_
  have e3:=IntWalk.i64_in ((k:Int)+1) (by omega)
  by_cases hb:b=c
  ·subst hb
   simp[af,ah,ad,ae,aa, *,fq,hx.idx,hy.idx,hx.len,rows,aR]
   exact ih t (k+1) _ _ hs' ht' (by omega) (by simp) (fun y H' e=>hQ y H' (by simp[e]))
  ·simp[af,ah,ad,ae,aa, *,fq,hx.idx,hy.idx,hx.len,rows,aR]
   all_goals exact hQ _ _ (by simp[hb])
section
variable{x y:AV}{l m:List Int}(hx:Sl 1 (rows l) x)(hy:Sl 1 (rows m) y)(hl:l.length<4611686018427387904)
include hx hy hl
theorem IX:limf env 128 [x,y]=some (aB (decide (l=m))):=by
 refine aH (fn:=Tryz.f128) (c:=fy) rfl (by kernel_rfl) (by kernel_rfl) (by kernel_rfl) (by kernel_rfl) ?_;refine lI _ _ _ _ fun g=>?_
 have h1:=hx.len
 have h2:=hy.len
 by_cases h:m.length=l.length
 ·have h':(m.length:Int)=l.length:=by omega
  simp[af,ah,ad,ae,aa, *,fA]
  exact HG hx hy hl h l m 0 0 _ rfl rfl (by omega) rfl (fun y H' e=>by simp[e])
 ·have h' : ¬(l.length:Int)=m.length:=by omega
  have hne:l≠m:=fun e=>h (by rw[e])
  have h'' : ¬(m.length:Int)=l.length:=by omega
  simp[af,ah,ad,ae,aa, *,fA]
theorem LA:limf env 127 [x,y]=some (aB (decide (l=m))):=by
 refine aH (fn:=Tryz.f127) (c:=iI) rfl (by kernel_rfl) (by kernel_rfl) (by kernel_rfl) (by kernel_rfl) ?_;refine pr _ _ _ _ fun g=>?_
 have h1:=hx.len
 have h2:=hy.len
 by_cases h:m.length=l.length
 ·have h':(m.length:Int)=l.length:=by omega
  simp[af,ah,ad,ae,aa, *,iJ]
  exact IG hx hy hl h l m 0 0 _ rfl rfl (by omega) rfl (fun y H' e=>by simp[e])
 ·have h' : ¬(l.length:Int)=m.length:=by omega
  have hne:l≠m:=fun e=>h (by rw[e])
  have h'' : ¬(m.length:Int)=l.length:=by omega
  simp[af,ah,ad,ae,aa, *,iJ]
end
end Go.Proofs.YtiidajnodhkidaaGreat
