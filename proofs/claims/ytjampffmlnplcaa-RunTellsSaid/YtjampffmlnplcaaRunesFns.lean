/-
  Rows of runes: what the functions answer. No statement of a seat is proved here.
-/
import Derived.Test.YtjampffmlnplcaaIdsFns
set_option linter.unusedVariables false
set_option linter.unusedSimpArgs false
set_option linter.unusedSectionVars false
set_option linter.unnecessarySimpa false
set_option maxRecDepth 100000
namespace Go.Proofs.Ytjampffmlnplcaa
open Go.Ab
attribute [local simp] fK ek eo keep thr fL ew eu ky ku dJ List.take_of_length_le
def ly(n:Int):Bool:=(decide (0≤n)&&decide (n<55296))||(decide (57343<n)&&decide (n≤1114111))
@[simp] theorem DE(n:Int):limf env 115 [.v (.int .i32 n)]=some (aB (ly n)):=by
 refine aC (fn:=Try.f115) (c:=ep) rfl (by kernel_rfl) (by kernel_rfl) (by kernel_rfl) (by kernel_rfl) ?_;refine ig _ _ _ fun g=>?_
 simp[ar,au,ae,af,ab, *,ey,ly]
 repeat' ((first | refine pH (fun h=>?_) (fun h=>?_) | refine lX (fun h=>?_) (fun h=>?_) | refine lY (fun h=>?_) (fun h=>?_) | refine lV (fun h=>?_) (fun h=>?_) | refine lW (fun h=>?_) (fun h=>?_))<;>(try simp only[decide_eq_true_eq,decide_eq_false_iff_not,Bool.not_eq_true',Bool.not_eq_false',Bool.and_eq_true,Bool.or_eq_true]at h)<;>(try simp[ar,au,ae,af,ab, *]))
 all_goals (try grind)
@[simp] theorem DB(n:Int):limf env 114 [.v (.int .i32 n)]=some (aB (!ik n)):=by
 refine aC (fn:=Try.f114) (c:=jD) rfl (by kernel_rfl) (by kernel_rfl) (by kernel_rfl) (by kernel_rfl) ?_;refine mO _ _ _ fun g=>?_
 by_cases h:n = -1
 ·subst h;simp[ar,au,ae,af,ab, *,gg,ik]
 ·simp[ar,au,ae,af,ab, *,gg,ik,ly]
def lU:List Int→Nat→Int
 | [],_ => -1
 | n :: l,k=>if ik n then lU l (k+1) else k
theorem tX(l:List Int) : ∀k:Nat,(0≤lU l k↔l.all ik=false):=by
 induction l with
 | nil=>intro k;simp[lU]
 | cons n l ih =>
  intro k
  unfold lU
  cases h:ik n with
  | true=>rw[if_pos rfl,ih,List.all_cons,h,Bool.true_and]
  | false=>simp[h]
theorem ti{x0:AV}{Q:AV→Heap→Prop}{l:List Int}(hx:Sl 1 (rows l) x0)(hl:l.length<4611686018427387904) : ∀(s:List Int)(k:Nat)(i:Int)(H:Heap),l.drop k=s→k≤l.length→i=k →
 (∀y H',y=aI (lU s k)→Q y H') →
 GoL env Try.f139 0 bj [(8,aI i),(0,x0),(1,.fn (.func 114) [] []),(7,aI l.length)] H Q:=by
 intro s
 induction s with
 | nil =>
  rintro k i H hs hk rfl hQ
  obtain rfl:=drop_nil hs hk
  refine cE _ _ _ _ _ _ fun g=>?_
  simp[ar,au,ae,af,ab, *,bo]
  all_goals exact hQ _ _ rfl
 | cons b s ih =>
  rintro k i H hs hk rfl hQ
  obtain⟨hlt,hg,hs',hg'⟩:=drop_cons hs
  refine cE _ _ _ _ _ _ fun g=>?_
  have e3:=IntWalk.i64_in ((k:Int)+1) (by omega)
  cases hb:ik b with
  | true =>
   simp[ar,au,ae,af,ab, *,bo,hx.idx,rows,aR]
   exact ih (k+1) _ _ hs' (by omega) (by simp) (fun y H' e=>hQ y H' (by simp[e,lU,hb]))
  | false =>
   simp[ar,au,ae,af,ab, *,bo,hx.idx,rows,aR]
   exact hQ _ _ (by simp[lU,hb])
theorem BK:qBin env.P .eql 31 (.tmp 3) (.const (.slice none 0 0)) (some (.v (.slice none 0 0))) (some (.v (.slice none 0 0)))=some (aB true,[]):=by kernel_rfl
theorem tz(c:Option Nat){l:List Int}(he:0<l.length)(hul:l.length * 4≤140737488355328):limf env 81 [.isl 1 (rows l) c]=some (.fsl 1 (rows l) none):=by
 refine aC (fn:=Try.f81) (c:=ck) rfl (by kernel_rfl) (by kernel_rfl) (by kernel_rfl) (by kernel_rfl) ?_;refine da _ _ _ fun g=>?_
 have he':=fD he
 have he2:l≠[]:=by rintro rfl;simp at he
 simp[ar,au,ae,af,ab, *,bg]
section
variable{x:AV}{l:List Int}(hx:Sl 1 (rows l) x)(hl:l.length<4611686018427387904)
include hx hl
theorem tD:limf env 139 [x,.fn (.func 114) [] []]=some (aI (lU l 0)):=by
 refine aC (fn:=Try.f139) (c:=bU) rfl (by kernel_rfl) (by kernel_rfl) (by kernel_rfl) (by kernel_rfl) ?_;refine eT _ _ _ _ fun g=>?_
 have h:=hx.len
 simp[ar,au,ae,af,ab, *,cO]
 exact ti hx hl l 0 _ _ rfl (by omega) rfl (fun y H' e=>by simp[e])
theorem xm:limf env 116 [x,.fn (.func 114) [] []]=some (aB (!l.all ik)):=by
 refine aC (fn:=Try.f116) (c:=cA) rfl (by kernel_rfl) (by kernel_rfl) (by kernel_rfl) (by kernel_rfl) ?_;refine dZ _ _ _ _ fun g=>?_
 have h:=tD hx hl
 have e:decide (0≤lU l 0) = !l.all ik:=by
  have:=tX l 0
  cases h:l.all ik<;>simp[h]at this ⊢ <;> omega
 simp[ar,au,ae,af,ab, *,cB,hx.r]
theorem p5:limf env 79 [x]=some (aI (rowE l)):=by
 refine aC (fn:=Try.f79) (c:=kX) rfl (by kernel_rfl) (by kernel_rfl) (by kernel_rfl) (by kernel_rfl) ?_;refine nS _ _ _ fun g=>?_
 have h:=xm hx hl
 have h2:=hx.len
 by_cases h64:64<l.length
 ·have:(64:Int)<l.length:=by omega
  simp[ar,au,ae,af,ab, *,iz,rowE,hx.r]
 ·have : ¬(64:Int)<l.length:=by omega
  cases hb:l.all ik<;>simp[ar,au,ae,af,ab, *,iz,rowE,hx.r]
theorem p4(hul:l.length * 4≤140737488355328):limf env 81 [x]=some (nF x):=by
 refine aC (fn:=Try.f81) (c:=ck) rfl (by kernel_rfl) (by kernel_rfl) (by kernel_rfl) (by kernel_rfl) ?_;refine da _ _ _ fun g=>?_
 rcases hx with ⟨rfl,h⟩ | ⟨c,rfl,hc⟩
 ·have hn:=BK
  simp[ar,au,ae,af,ab, *,bg]
 ·by_cases he:l=[]
  ·subst he
   simp[ar,au,ae,af,ab, *,bg,rows]
  ·have he':rows l≠[]:=by simpa using he
   have hp:0<l.length:=List.length_pos_iff.2 he
   rw[nE 1 c he']
   simp[ar,au,ae,af,ab, *,bg]
end
theorem uh{x0 x1:AV}{Q:AV→Heap→Prop}{l m:List Int}(hx:Sl 1 (rows l) x0)(hy:Sl 1 (rows m) x1)(hl:l.length<4611686018427387904)(hlm:m.length=l.length) : ∀(s t:List Int)(k:Nat)(i:Int)(H:Heap),l.drop k=s→m.drop k=t→k≤l.length→i=k →
 (∀y H',y=aB (decide (s=t))→Q y H') →
 GoL env Try.f76 0 bC [(13,aI i),(1,x1),(0,x0),(12,aI l.length)] H Q:=by
 intro s
 induction s with
 | nil =>
  rintro t k i H hs ht hk rfl hQ
  obtain rfl:=drop_nil hs hk
  rw[←hlm,List.drop_length]at ht
  subst ht
  refine cS _ _ _ _ _ _ fun g=>?_
  simp[ar,au,ae,af,ab, *,bD]
  all_goals exact hQ _ _ rfl
 | cons b s ih =>
  rintro t k i H hs ht hk rfl hQ
  obtain⟨hlt,hg,hs',hg'⟩:=drop_cons hs
  cases t with
  | nil=>have:=congrArg List.length ht;simp at this;omega
  | cons c t =>
  obtain⟨hlt2,hg2,ht',hg2'⟩:=drop_cons ht
  refine cS _ _ _ _ _ _ fun g=>?_
  have e3:=IntWalk.i64_in ((k:Int)+1) (by omega)
  by_cases hb:b=c
  ·subst hb
   simp[ar,au,ae,af,ab, *,bD,hx.idx,hy.idx,rows,aR]
   exact ih t (k+1) _ _ hs' ht' (by omega) (by simp) (fun y H' e=>hQ y H' (by simp[e]))
  ·simp[ar,au,ae,af,ab, *,bD,hx.idx,hy.idx,rows,aR]
   all_goals exact hQ _ _ (by simp[hb])
theorem u3{x0 x1:AV}{Q:AV→Heap→Prop}{l m:List Int}(hx:Sl 1 (rows l) x0)(hy:Sl 1 (rows m) x1)(hl:l.length<4611686018427387904)(hlm:m.length=l.length) : ∀(s t:List Int)(k:Nat)(i:Int)(H:Heap),l.drop k=s→m.drop k=t→k≤l.length→i=k →
 (∀y H',y=aB (decide (s=t))→Q y H') →
 GoL env Try.f87 0 cd [(5,aI i),(1,x1),(0,x0)] H Q:=by
 intro s
 induction s with
 | nil =>
  rintro t k i H hs ht hk rfl hQ
  obtain rfl:=drop_nil hs hk
  rw[←hlm,List.drop_length]at ht
  subst ht
  refine eb _ _ _ _ _ fun g=>?_
  simp[ar,au,ae,af,ab, *,cf,hx.len]
  all_goals exact hQ _ _ rfl
 | cons b s ih =>
  rintro t k i H hs ht hk rfl hQ
  obtain⟨hlt,hg,hs',hg'⟩:=drop_cons hs
  cases t with
  | nil=>have:=congrArg List.length ht;simp at this;omega
  | cons c t =>
  obtain⟨hlt2,hg2,ht',hg2'⟩:=drop_cons ht
  refine eb _ _ _ _ _ fun g=>?_
  have e3:=IntWalk.i64_in ((k:Int)+1) (by omega)
  by_cases hb:b=c
  ·subst hb
   simp[ar,au,ae,af,ab, *,cf,hx.idx,hy.idx,hx.len,rows,aR]
   exact ih t (k+1) _ _ hs' ht' (by omega) (by simp) (fun y H' e=>hQ y H' (by simp[e]))
  ·simp[ar,au,ae,af,ab, *,cf,hx.idx,hy.idx,hx.len,rows,aR]
   all_goals exact hQ _ _ (by simp[hb])
section
variable{x y:AV}{l m:List Int}(hx:Sl 1 (rows l) x)(hy:Sl 1 (rows m) y)(hl:l.length<4611686018427387904)
include hx hy hl
theorem u9:limf env 76 [x,y]=some (aB (decide (l=m))):=by
 refine aC (fn:=Try.f76) (c:=ch) rfl (by kernel_rfl) (by kernel_rfl) (by kernel_rfl) (by kernel_rfl) ?_;refine fN _ _ _ _ fun g=>?_
 have h1:=hx.len
 have h2:=hy.len
 by_cases h:m.length=l.length
 ·have h':(m.length:Int)=l.length:=by omega
  simp[ar,au,ae,af,ab, *,cp]
  exact uh hx hy hl h l m 0 0 _ rfl rfl (by omega) rfl (fun y H' e=>by simp[e])
 ·have h' : ¬(l.length:Int)=m.length:=by omega
  have hne:l≠m:=fun e=>h (by rw[e])
  have h'' : ¬(m.length:Int)=l.length:=by omega
  simp[ar,au,ae,af,ab, *,cp]
theorem sL:limf env 87 [x,y]=some (aB (decide (l=m))):=by
 refine aC (fn:=Try.f87) (c:=du) rfl (by kernel_rfl) (by kernel_rfl) (by kernel_rfl) (by kernel_rfl) ?_;refine iZ _ _ _ _ fun g=>?_
 have h1:=hx.len
 have h2:=hy.len
 by_cases h:m.length=l.length
 ·have h':(m.length:Int)=l.length:=by omega
  simp[ar,au,ae,af,ab, *,dx]
  exact u3 hx hy hl h l m 0 0 _ rfl rfl (by omega) rfl (fun y H' e=>by simp[e])
 ·have h' : ¬(l.length:Int)=m.length:=by omega
  have hne:l≠m:=fun e=>h (by rw[e])
  have h'' : ¬(m.length:Int)=l.length:=by omega
  simp[ar,au,ae,af,ab, *,dx]
end
end Go.Proofs.Ytjampffmlnplcaa
