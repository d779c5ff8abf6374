/-
  Labels, handles, ids, spans, runes: what the functions answer. No statement of a seat is proved here.
-/
import Derived.Test.YtdbiffjdomokfaaGreatAuVc1
import Derived.Test.YtdbiffjdomokfaaGreatMLePol
import Derived.Test.YtdbiffjdomokfaaGreatAuVc3
set_option linter.unusedVariables false
set_option linter.unusedSimpArgs false
set_option linter.unusedSectionVars false
set_option linter.unnecessarySimpa false
set_option maxRecDepth 100000
namespace Go.Proofs.YtdbiffjdomokfaaGreat
open Go.Ab
attribute [local simp] bD bq bo bF bE cZ ld bQ bx bA dx dw cg bT aY ct List.take_of_length_le
@[simp] theorem Mx(a:UInt8)(b:UInt32):bj env 33 [.agg [a8 a,aF b]]=some (aI (bad (decide (a≤15)))):=by
 refine aL (fn:=Tryz.f33) (c:=qh) rfl (by kernel_rfl) (by kernel_rfl) (by kernel_rfl) (by kernel_rfl) ?_;refine uj _ _ _ fun g=>?_
 simp[ah,ai,ae,af,ad, *,qu]
 repeat' ((first | refine k5 (fun h=>?_) (fun h=>?_) | refine ku (fun h=>?_) (fun h=>?_) | refine ky (fun h=>?_) (fun h=>?_) | refine kq (fun h=>?_) (fun h=>?_) | refine kr (fun h=>?_) (fun h=>?_))<;>(try simp only[decide_eq_true_eq,decide_eq_false_iff_not,Bool.not_eq_true',Bool.not_eq_false',Bool.and_eq_true,Bool.or_eq_true]at h)<;>(try simp[ah,ai,ae,af,ad, *]))
 all_goals (try grind [bad])
@[simp] theorem YE(b:Bool):bj env 136 [aB b]=some (aI (bad b)):=by
 refine aL (fn:=Tryz.f136) (c:=yT) rfl (by kernel_rfl) (by kernel_rfl) (by kernel_rfl) (by kernel_rfl) ?_;refine Ez _ _ _ fun g=>?_
 cases b<;>simp[ah,ai,ae,af,ad, *,yZ,bad]
@[simp] theorem OD(a:UInt8)(b:UInt32)(n:UInt8):bj env 117 [.agg [a8 a,aF b,a8 n]]=some (aI (bad (lV ⟨a,b,n⟩))):=by
 refine aL (fn:=Tryz.f117) (c:=qi) rfl (by kernel_rfl) (by kernel_rfl) (by kernel_rfl) (by kernel_rfl) ?_;refine wP _ _ _ fun g=>?_
 simp[ah,ai,ae,af,ad, *,qv,lV]
 repeat' ((first | refine k5 (fun h=>?_) (fun h=>?_) | refine ku (fun h=>?_) (fun h=>?_) | refine ky (fun h=>?_) (fun h=>?_) | refine kq (fun h=>?_) (fun h=>?_) | refine kr (fun h=>?_) (fun h=>?_))<;>(try simp only[decide_eq_true_eq,decide_eq_false_iff_not,Bool.not_eq_true',Bool.not_eq_false',Bool.and_eq_true,Bool.or_eq_true]at h)<;>(try simp[ah,ai,ae,af,ad, *]))
@[simp] theorem Wm(a:UInt8)(b:UInt32)(n:UInt8)(k:Int):bj env 137 [.agg [a8 a,aF b,a8 n,aI k]]=some (aI (bad (Ed ⟨⟨a,b,n⟩,k⟩))):=by
 refine aL (fn:=Tryz.f137) (c:=yU) rfl (by kernel_rfl) (by kernel_rfl) (by kernel_rfl) (by kernel_rfl) ?_;refine EA _ _ _ fun g=>?_
 simp[ah,ai,ae,af,ad, *,y3,Ed]
 repeat' ((first | refine k5 (fun h=>?_) (fun h=>?_) | refine ku (fun h=>?_) (fun h=>?_) | refine ky (fun h=>?_) (fun h=>?_) | refine kq (fun h=>?_) (fun h=>?_) | refine kr (fun h=>?_) (fun h=>?_))<;>(try simp only[decide_eq_true_eq,decide_eq_false_iff_not,Bool.not_eq_true',Bool.not_eq_false',Bool.and_eq_true,Bool.or_eq_true]at h)<;>(try simp[ah,ai,ae,af,ad, *]))
@[simp] theorem QR(a:UInt8)(b:UInt32)(n:UInt8)(k m:Int):bj env 131 [.agg [a8 a,aF b,a8 n,aI k,aI m]]=some (aI (bad (je ⟨⟨⟨a,b,n⟩,k⟩,m⟩))):=by
 refine aL (fn:=Tryz.f131) (c:=sJ) rfl (by kernel_rfl) (by kernel_rfl) (by kernel_rfl) (by kernel_rfl) ?_;refine zh _ _ _ fun g=>?_
 cases hb:Ed ⟨⟨a,b,n⟩,k⟩ with
 | false=>simp[ah,ai,ae,af,ad, *,jR,je]
 | true =>
  have hn:=G1 hb
  simp only at hn
  by_cases h1:1≤m
  ·by_cases h2:m≤64
   ·have w1:=IntWalk.i64_in (k+m) (by omega)
    have w2:=IntWalk.i64_in (k+m - 1) (by omega)
    simp[ah,ai,ae,af,ad, *,jR,je]
   ·simp[ah,ai,ae,af,ad, *,jR,je]
  ·simp[ah,ai,ae,af,ad, *,jR,je]
@[simp] theorem ZG(a:UInt8)(b:UInt32)(n:UInt8)(k m:Int):bj env 164 [.agg [a8 a,aF b,a8 n,aI k],aI m]=some (.agg [a8 a,aF b,a8 n,aI (IntKind.i64.wrap (k+m))]):=by
 refine aL (fn:=Tryz.f164) (c:=Am) rfl (by kernel_rfl) (by kernel_rfl) (by kernel_rfl) (by kernel_rfl) ?_;refine FM _ _ _ _ fun g=>?_
 simp[ah,ai,ae,af,ad, *,Ap]
def OQ(s:Aq)(m:Int):Int:=if je s then (if m<0∨s.many≤m then 2 else 0) else 8
@[simp] theorem Wn(a:UInt8)(b:UInt32)(n:UInt8)(k m j:Int):bj env 145 [.agg [a8 a,aF b,a8 n,aI k,aI m],aI j] =
 some (if OQ ⟨⟨⟨a,b,n⟩,k⟩,m⟩ j=0 then .tup [.agg [a8 a,aF b,a8 n,aI (k+j)],aI 0] else .tup [.agg [a8 0,aF 0,a8 0,aI 0],aI (OQ ⟨⟨⟨a,b,n⟩,k⟩,m⟩ j)]):=by
 refine aL (fn:=Tryz.f145) (c:=Eo) rfl (by kernel_rfl) (by kernel_rfl) (by kernel_rfl) (by kernel_rfl) ?_;refine Kh _ _ _ _ fun g=>?_
 cases hb:je ⟨⟨⟨a,b,n⟩,k⟩,m⟩ with
 | false=>simp[ah,ai,ae,af,ad, *,sO,OQ]
 | true =>
  have hn:=lF hb
  simp only at hn
  by_cases h1:j<0
  ·simp[ah,ai,ae,af,ad, *,sO,OQ]
  ·by_cases h2:m≤j
   ·simp[ah,ai,ae,af,ad, *,sO,OQ]
   ·have w1:=IntWalk.i64_in (k+j) (by omega)
    simp[ah,ai,ae,af,ad, *,sO,OQ]
end Go.Proofs.YtdbiffjdomokfaaGreat
namespace Go.Proofs.YtdbiffjdomokfaaGreat
open Go.Ab
attribute [local simp] bD bq bo bF bE cZ ld bQ bx bA dx dw cg bT aY ct List.take_of_length_le
@[simp] theorem Ud(n:Int)(h0:0≤n):bj env 118 [aI n,aI 4]=some (.cw 1 (hU (be 4 n)) none):=by
 refine aL (fn:=Tryz.f118) (c:=oQ) rfl (by kernel_rfl) (by kernel_rfl) (by kernel_rfl) (by kernel_rfl) ?_;refine vU _ _ _ _ fun g=>?_
 have w5:IntKind.i64.wrap (-1) = -1:=rfl
 have w4:IntKind.i64.wrap 0=0:=rfl
 simp[ah,ai,ae,af,ad, *,rU]
 refine dc _ _ _ _ _ fun g=>?_
 simp[ah,ai,ae,af,ad, *,cL,fp,eN]
 refine dc _ _ _ _ _ fun g=>?_
 simp[ah,ai,ae,af,ad, *,cL,fp,eN]
 refine dc _ _ _ _ _ fun g=>?_
 simp[ah,ai,ae,af,ad, *,cL,fp,eN]
 refine dc _ _ _ _ _ fun g=>?_
 simp[ah,ai,ae,af,ad, *,cL,fp,eN]
 refine dc _ _ _ _ _ fun g=>?_
 simp[ah,ai,ae,af,ad, *,cL,Ji,hU]
@[simp] theorem Ks(n:Int)(h0:0≤n):bj env 118 [aI n,aI 7]=some (.cw 1 (hU (be 7 n)) none):=by
 refine aL (fn:=Tryz.f118) (c:=oQ) rfl (by kernel_rfl) (by kernel_rfl) (by kernel_rfl) (by kernel_rfl) ?_;refine vU _ _ _ _ fun g=>?_
 have w5:IntKind.i64.wrap (-1) = -1:=rfl
 have w4:IntKind.i64.wrap 0=0:=rfl
 simp[ah,ai,ae,af,ad, *,rU]
 refine dc _ _ _ _ _ fun g=>?_
 simp[ah,ai,ae,af,ad, *,cL,fp,eN]
 refine dc _ _ _ _ _ fun g=>?_
 simp[ah,ai,ae,af,ad, *,cL,fp,eN]
 refine dc _ _ _ _ _ fun g=>?_
 simp[ah,ai,ae,af,ad, *,cL,fp,eN]
 refine dc _ _ _ _ _ fun g=>?_
 simp[ah,ai,ae,af,ad, *,cL,fp,eN]
 refine dc _ _ _ _ _ fun g=>?_
 simp[ah,ai,ae,af,ad, *,cL,fp,eN]
 refine dc _ _ _ _ _ fun g=>?_
 simp[ah,ai,ae,af,ad, *,cL,fp,eN]
 refine dc _ _ _ _ _ fun g=>?_
 simp[ah,ai,ae,af,ad, *,cL,fp,eN]
 refine dc _ _ _ _ _ fun g=>?_
 simp[ah,ai,ae,af,ad, *,cL,aae,hU]
def gP(h:AO):List UInt8:=h.lv :: (be 4 h.cats.toNat++[h.num])
@[simp] theorem Ta(h:AO):(gP h).length=6:=by simp[gP]
@[simp] theorem F5(a:UInt8)(b:UInt32)(n:UInt8):bj env 98 [.agg [a8 a,aF b,a8 n]]=some (if lV ⟨a,b,n⟩ then .tup [.fsl 1 (hU (gP ⟨a,b,n⟩)) none,aI 0] else .tup [cW,aI 8]):=by
 refine aL (fn:=Tryz.f98) (c:=sI) rfl (by kernel_rfl) (by kernel_rfl) (by kernel_rfl) (by kernel_rfl) ?_;refine zg _ _ _ fun g=>?_
 cases h:lV ⟨a,b,n⟩ with
 | true=>simp[ah,ai,ae,af,ad, *,oL,bad,hU,gP]
 | false=>simp[ah,ai,ae,af,ad, *,oL,bad]
def iC(i:fl):List UInt8:=gP i.h++be 7 i.n
@[simp] theorem S7(i:fl):(iC i).length=13:=by simp[iC]
@[simp] theorem ZL(a:UInt8)(b:UInt32)(n:UInt8)(k:Int):bj env 119 [.agg [a8 a,aF b,a8 n,aI k]]=some (if Ed ⟨⟨a,b,n⟩,k⟩ then .tup [.cw 1 (hU (iC ⟨⟨a,b,n⟩,k⟩)) none,aI 0] else .tup [cW,aI 8]):=by
 refine aL (fn:=Tryz.f119) (c:=CE) rfl (by kernel_rfl) (by kernel_rfl) (by kernel_rfl) (by kernel_rfl) ?_;refine HT _ _ _ fun g=>?_
 cases h:Ed ⟨⟨a,b,n⟩,k⟩ with
 | true =>
  have hn:=G1 h
  have h7:=Ks k (by simp only at hn;omega)
  have hh:lV ⟨a,b,n⟩=true:=by simp only[Ed,Bool.and_eq_true]at h;exact h.1
  simp only at hn
  simp[ah,ai,ae,af,ad, *,xg,bad,hU,iC]
 | false=>simp[ah,ai,ae,af,ad, *,xg,bad]
end Go.Proofs.YtdbiffjdomokfaaGreat
namespace Go.Proofs.YtdbiffjdomokfaaGreat
open Go.Ab
attribute [local simp] bD bq bo bF bE cZ ld bQ bx bA dx dw cg bT aY ct List.take_of_length_le
def HV(n:Int):Bool:=(decide (0≤n)&&decide (n<55296))||(decide (57343<n)&&decide (n≤1114111))
@[simp] theorem YG(n:Int):bj env 161 [.v (.int .i32 n)]=some (aB (HV n)):=by
 refine aL (fn:=Tryz.f161) (c:=lW) rfl (by kernel_rfl) (by kernel_rfl) (by kernel_rfl) (by kernel_rfl) ?_;refine qz _ _ _ fun g=>?_
 simp[ah,ai,ae,af,ad, *,lX,HV]
 repeat' ((first | refine k5 (fun h=>?_) (fun h=>?_) | refine ku (fun h=>?_) (fun h=>?_) | refine ky (fun h=>?_) (fun h=>?_) | refine kq (fun h=>?_) (fun h=>?_) | refine kr (fun h=>?_) (fun h=>?_))<;>(try simp only[decide_eq_true_eq,decide_eq_false_iff_not,Bool.not_eq_true',Bool.not_eq_false',Bool.and_eq_true,Bool.or_eq_true]at h)<;>(try simp[ah,ai,ae,af,ad, *]))
 all_goals (try grind)
@[simp] theorem YD(n:Int):bj env 160 [.v (.int .i32 n)]=some (aB (!pW n)):=by
 refine aL (fn:=Tryz.f160) (c:=sG) rfl (by kernel_rfl) (by kernel_rfl) (by kernel_rfl) (by kernel_rfl) ?_;refine zd _ _ _ fun g=>?_
 by_cases h:n = -1
 ·subst h;simp[ah,ai,ae,af,ad, *,oK,pW]
 ·simp[ah,ai,ae,af,ad, *,oK,pW,HV]
def ti:List Int→Nat→Int
 | [],_ => -1
 | n :: l,k=>if pW n then ti l (k+1) else k
theorem IU(l:List Int) : ∀k:Nat,(0≤ti l k↔l.all pW=false):=by
 induction l with
 | nil=>intro k;simp[ti]
 | cons n l ih =>
  intro k
  unfold ti
  cases h:pW n with
  | true=>rw[if_pos rfl,ih,List.all_cons,h,Bool.true_and]
  | false=>simp[h]
theorem HO{x0:AV}{Q:AV→ab→Prop}{l:List Int}(hx:Sl 1 (rows l) x0)(hl:l.length<4611686018427387904) : ∀(s:List Int)(k:Nat)(i:Int)(H:ab),l.drop k=s→k≤l.length→i=k →
 (∀y H',y=aI (ti s k)→Q y H') →
 bP env Tryz.f170 0 dQ [(8,aI i),(0,x0),(1,.fn (.func 160) [] []),(7,aI l.length)] H Q:=by
 intro s
 induction s with
 | nil =>
  rintro k i H hs hk rfl hQ
  obtain rfl:=drop_nil hs hk
  refine ig _ _ _ _ _ _ fun g=>?_
  simp[ah,ai,ae,af,ad, *,dS]
  all_goals exact hQ _ _ rfl
 | cons b s ih =>
  rintro k i H hs hk rfl hQ
  obtain⟨hlt,hg,hs',hg'⟩:=drop_cons hs
  refine ig _ _ _ _ _ _ fun g=>?_
  have e3:=IntWalk.i64_in ((k:Int)+1) (by omega)
  cases hb:pW b with
  | true =>
   simp[ah,ai,ae,af,ad, *,dS,hx.idx,rows,aR]
   exact ih (k+1) _ _ hs' (by omega) (by simp) (fun y H' e=>hQ y H' (by simp[e,ti,hb]))
  | false =>
   simp[ah,ai,ae,af,ad, *,dS,hx.idx,rows,aR]
   exact hQ _ _ (by simp[ti,hb])
theorem SE:aE env.P .eql 48 (.tmp 3) (.const (.slice none 0 0)) (some (.v (.slice none 0 0))) (some (.v (.slice none 0 0)))=some (aB true,[]):=by kernel_rfl
section
variable{x:AV}{l:List Int}(hx:Sl 1 (rows l) x)(hl:l.length<4611686018427387904)
include hx hl
theorem Il:bj env 170 [x,.fn (.func 160) [] []]=some (aI (ti l 0)):=by
 refine aL (fn:=Tryz.f170) (c:=fc) rfl (by kernel_rfl) (by kernel_rfl) (by kernel_rfl) (by kernel_rfl) ?_;refine m4 _ _ _ _ fun g=>?_
 have h:=hx.len
 simp[ah,ai,ae,af,ad, *,iU]
 exact HO hx hl l 0 _ _ rfl (by omega) rfl (fun y H' e=>by simp[e])
theorem MA:bj env 162 [x,.fn (.func 160) [] []]=some (aB (!l.all pW)):=by
 refine aL (fn:=Tryz.f162) (c:=gX) rfl (by kernel_rfl) (by kernel_rfl) (by kernel_rfl) (by kernel_rfl) ?_;refine lZ _ _ _ _ fun g=>?_
 have h:=Il hx hl
 have e:decide (0≤ti l 0) = !l.all pW:=by
  have:=IU l 0
  cases h:l.all pW<;>simp[h]at this ⊢ <;> omega
 simp[ah,ai,ae,af,ad, *,gZ,hx.r]
theorem zk:bj env 139 [x]=some (aI (C4 l)):=by
 refine aL (fn:=Tryz.f139) (c:=u6) rfl (by kernel_rfl) (by kernel_rfl) (by kernel_rfl) (by kernel_rfl) ?_;refine A8 _ _ _ fun g=>?_
 have h:=MA hx hl
 have h2:=hx.len
 by_cases h64:64<l.length
 ·have:(64:Int)<l.length:=by omega
  simp[ah,ai,ae,af,ad, *,qp,C4,hx.r]
 ·have : ¬(64:Int)<l.length:=by omega
  cases hb:l.all pW<;>simp[ah,ai,ae,af,ad, *,qp,C4,hx.r]
theorem DS(hul:l.length * 4≤140737488355328):bj env 95 [x]=some (nN x):=by
 refine aL (fn:=Tryz.f95) (c:=jM) rfl (by kernel_rfl) (by kernel_rfl) (by kernel_rfl) (by kernel_rfl) ?_;refine ov _ _ _ fun g=>?_
 rcases hx with ⟨rfl,h⟩ | ⟨c,rfl,hc⟩
 ·have hn:=SE
  simp[ah,ai,ae,af,ad, *,eK]
 ·by_cases he:l=[]
  ·subst he
   simp[ah,ai,ae,af,ad, *,eK,rows]
  ·have he':rows l≠[]:=by simpa using he
   have hp:0<l.length:=List.length_pos_iff.2 he
   rw[oF 1 c he']
   simp[ah,ai,ae,af,ad, *,eK]
end
theorem I5{x0 x1:AV}{Q:AV→ab→Prop}{l m:List Int}(hx:Sl 1 (rows l) x0)(hy:Sl 1 (rows m) x1)(hl:l.length<4611686018427387904)(hlm:m.length=l.length) : ∀(s t:List Int)(k:Nat)(i:Int)(H:ab),l.drop k=s→m.drop k=t→k≤l.length→i=k →
 (∀y H',y=aB (decide (s=t))→Q y H') →
 bP env Tryz.f141 0 ei [(13,aI i),(1,x1),(0,x0),(12,aI l.length)] H Q:=by
 intro s
 induction s with
 | nil =>
  rintro t k i H hs ht hk rfl hQ
  obtain rfl:=drop_nil hs hk
  rw[←hlm,List.drop_length]at ht
  subst ht
  refine jc _ _ _ _ _ _ fun g=>?_
  simp[ah,ai,ae,af,ad, *,ep]
  all_goals exact hQ _ _ rfl
 | cons b s ih =>
  rintro t k i H hs ht hk rfl hQ
  obtain⟨hlt,hg,hs',hg'⟩:=drop_cons hs
  cases t with
  | nil=>have:=congrArg List.length ht;simp at this;omega
  | cons c t =>
  obtain⟨hlt2,hg2,ht',hg2'⟩:=drop_cons ht
  refine jc _ _ _ _ _ _ fun g=>?_
  have e3:=IntWalk.i64_in ((k:Int)+1) (by omega)
  by_cases hb:b=c
  ·subst hb
   simp[ah,ai,ae,af,ad, *,ep,hx.idx,hy.idx,rows,aR]
   exact ih t (k+1) _ _ hs' ht' (by omega) (by simp) (fun y H' e=>hQ y H' (by simp[e]))
  ·simp[ah,ai,ae,af,ad, *,ep,hx.idx,hy.idx,rows,aR]
   all_goals exact hQ _ _ (by simp[hb])
section
variable{x y:AV}{l m:List Int}(hx:Sl 1 (rows l) x)(hy:Sl 1 (rows m) y)(hl:l.length<4611686018427387904)
include hx hy hl
theorem Kw:bj env 141 [x,y]=some (aB (decide (l=m))):=by
 refine aL (fn:=Tryz.f141) (c:=gh) rfl (by kernel_rfl) (by kernel_rfl) (by kernel_rfl) (by kernel_rfl) ?_;refine ot _ _ _ _ fun g=>?_
 have h1:=hx.len
 have h2:=hy.len
 by_cases h:m.length=l.length
 ·have h':(m.length:Int)=l.length:=by omega
  simp[ah,ai,ae,af,ad, *,gk]
  exact I5 hx hy hl h l m 0 0 _ rfl rfl (by omega) rfl (fun y H' e=>by simp[e])
 ·have h' : ¬(l.length:Int)=m.length:=by omega
  have hne:l≠m:=fun e=>h (by rw[e])
  have h'' : ¬(m.length:Int)=l.length:=by omega
  simp[ah,ai,ae,af,ad, *,gk]
end
end Go.Proofs.YtdbiffjdomokfaaGreat
namespace Go.Proofs.YtdbiffjdomokfaaGreat
open Go.Ab
attribute [local simp] bD bq bo bF bE cZ ld bQ bx bA dx dw cg bT aY ct List.take_of_length_le
def eO(l:List Int):List UInt8:=l.flatMap fun n=>be 4 n
theorem sX(l:List Int):(eO l).length=4 * l.length:=by
 induction l with
 | nil=>rfl
 | cons n l ih=>show(be 4 n++eO l).length=_;rw[List.length_append,ih,Oc,List.length_cons];omega
theorem KE{l:List Int}{x13:AV}(hx:Sl 1 (rows l) x13)(hl:l.length<100000)(hR : ∀n∈l, -2147483648≤n∧n≤2147483647){Q:AV→ab→Prop} :
 ∀(s:List Int)(k:Nat)(i:Int)(acc:List Int)(x5:AV)(H:ab),l.drop k=s→k≤l.length→i=k→acc.length=k→Fr H→CL [32] 1 (hU (eO acc)) H x5→(acc=[]→x5=cW) →
 (∀y H',CL [32] 1 (hU (eO (acc++s))) H' y→(acc++s=[]→y=cW)→Q (.tup [y,aI 0]) H') →
 bP env Tryz.f121 0 nH [(15,aI i),(5,x5),(13,x13),(14,aI l.length)] H Q:=by
 intro s
 induction s with
 | nil =>
  rintro k i acc x5 H hs hk rfl ha hF hO hN hQ
  obtain rfl:=drop_nil hs hk
  refine uh _ _ _ _ _ _ fun g=>?_
  have hQ':=hQ x5 H (by simpa using hO) (by simpa using hN)
  clear hQ hO hN
  simp[ah,ai,ae,af,ad, *,nU,hx.len]
  all_goals exact hQ'
 | cons n s ih =>
  rintro k i acc x5 H hs hk rfl ha hF hO hN hQ
  obtain⟨hlt,hg,hs',hg'⟩:=drop_cons hs
  have hn:=hR n (by rw[←hg];exact List.getElem_mem _)
  have e3:=IntWalk.i64_in ((k:Int)+1) (by omega)
  refine uh _ _ _ _ _ _ fun g=>?_
  have hrd:dX (rows l) k 0 1 false=some (.v (.int .i32 n)):=by simp[rows,hg',aR]
  have q24:n.fdiv (2 ^ min 24 IntKind.i32.bits)=n / 16777216:=by rw[show(2:Int) ^ min 24 IntKind.i32.bits=16777216 from rfl];exact eN n 16777216
  have q16:n.fdiv (2 ^ min 16 IntKind.i32.bits)=n / 65536:=by rw[show(2:Int) ^ min 16 IntKind.i32.bits=65536 from rfl];exact eN n 65536
  have q8:n.fdiv (2 ^ min 8 IntKind.i32.bits)=n / 256:=by rw[show(2:Int) ^ min 8 IntKind.i32.bits=256 from rfl];exact eN n 256
  have hih:=fun x5' H'=>ih (k+1) ((k:Int)+1) (acc++[n]) x5' H' hs' (by omega) (by simp) (by simp;omega)
  have hQ' : ∀y H',CL [32] 1 (hU (eO ((acc++[n])++s))) H' y→((acc++[n])++s=[]→y=cW)→Q (.tup [y,aI 0]) H':=fun y H' h hn=>hQ y H' (by simpa using h) (fun e=>by simp at e)
  have hbl:=sX acc
  have hb8:(hU (eO acc)).length=4 * acc.length:=by rw[show(hU (eO acc)).length=(eO acc).length from by simp,hbl]
  have hst : ∀(g m:Nat)(H':ab),m=4 * acc.length+4→H'.get ⟨0,32,g,0⟩=some ⟨1,hU (eO acc)++[a8 (u8 (n / 16777216)),a8 (u8 (n / 65536)),a8 (u8 (n / 256)),a8 (u8 n)],true,false⟩→CL [32] 1 (hU (eO (acc++[n]))) H' (.cH ⟨0,32,g,0⟩ 0 m none):=by
   intro g m H' hm h
   subst hm
   have e:hU (eO (acc++[n]))=hU (eO acc)++[a8 (u8 (n / 16777216)),a8 (u8 (n / 65536)),a8 (u8 (n / 256)),a8 (u8 n)]:=by simp[eO,Ji,hU]
   rw[e]
   exact .inr ⟨32,g,by simp,by rw[List.length_append,hb8];rfl,h⟩
  clear hQ hN ih
  rcases hO with ⟨rfl,hz⟩ | ⟨t,gg,ht,rfl,hr⟩
  ·have hz':acc=[]:=by
    have:=congrArg List.length hz
    rw[hb8]at this
    simp only[List.length_nil]at this
    exact List.eq_nil_of_length_eq_zero (by omega)
   subst hz'
   have hst':=hst (H.gen 0 32) 4
   clear hst
   simp[ah,ai,ae,af,ad, *,nU,hx.r,hx.idx,fp,eN]
   exact hih _ _ (by simp(maxDischargeDepth:=12) [ab.get_put,aq,an,Fr.nil,aD,ah,ai,ae,af,ar,ao,ad, *]) (hst' _ rfl (by simp[eO])) (fun e=>by simp at e) hQ'
  ·rw[List.mem_singleton]at ht
   subst ht
   have l6:(H.get ⟨0,32,gg,0⟩).isSome=true:=by rw[hr];rfl
   have f4:lQ 1 1 (hU (eO acc)).length true none (some ⟨1,hU (eO acc),true,false⟩) (some [a8 (u8 (n / 16777216)),a8 (u8 (n / 65536)),a8 (u8 (n / 256)),a8 (u8 n)]):=by
    rw[bx,hb8];refine⟨rfl,hb8.symm ▸ rfl,.inr ⟨?_,rfl⟩⟩;simp;omega
   have hst':=fun H'=>hst (H.gen 0 32) ((hU (eO acc)).length+4) H' (by rw[hb8])
   clear hst ha hb8 hbl
   generalize hU (eO acc)=bs at *
   simp[ah,ai,ae,af,ad, *,nU,hx.r,hx.idx,fp,eN]
   exact hih _ _ (by simp(maxDischargeDepth:=12) [ab.get_put,aq,an,Fr.nil,aD,ah,ai,ae,af,ar,ao,ad, *]) (hst' _ (by simp)) (fun e=>by simp at e) hQ'
theorem Pr{l:List Int}{x:AV}(hx:Sl 1 (rows l) x)(hl:l.length<100000)(hR : ∀n∈l, -2147483648≤n∧n≤2147483647):bj env 121 [x]=some (if C4 l=0 then .tup [KT 1 (hU (eO l)),aI 0] else .tup [cW,aI (C4 l)]):=by
 refine aL (fn:=Tryz.f121) (c:=tu) rfl (by kernel_rfl) (by kernel_rfl) (by kernel_rfl) (by kernel_rfl) ?_;refine Ew _ _ _ fun g=>?_
 have hc:=zk hx (by omega)
 have hn:=hx.len
 by_cases h:C4 l=0
 ·rw[if_pos h]
  rw[h]at hc
  have hloop:=fun H Q=>KE hx hl hR (H:=H) (Q:=Q) l 0 0 [] cW rfl (by omega) rfl rfl
  have hfin : ∀y H',CL [32] 1 (hU (eO ([]++l))) H' y→([]++l=[]→y=cW)→view H'.get 8 (.tup [y,aI 0])=some (.tup [KT 1 (hU (eO l)),aI 0]):=by
   intro y H' ho hnil
   rw[List.nil_append]at ho hnil
   rcases ho with ⟨rfl,hz⟩ | ⟨t,gg,ht,rfl,hr⟩
   ·rw[hz];simp[KT]
   ·have hne:hU (eO l)≠[]:=by
     intro e
     have h1:=congrArg List.length e
     have h2:=sX l
     have h3:(hU (eO l)).length=(eO l).length:=by simp
     simp only[List.length_nil]at h1
     have:l=[]:=List.eq_nil_of_length_eq_zero (by omega)
     cases hnil this
    rw[JH 1 hne]
    generalize hU (eO l)=bs at *
    simp[hr]
  have run:=fun H hF=>hloop H (fun x H=>view H.get 8 x=some (.tup [KT 1 (hU (eO l)),aI 0])) hF (.inl ⟨rfl,rfl⟩) (fun _=>rfl) hfin
  clear hloop hfin h
  generalize KT 1 (hU (eO l))=yo at *
  simp[ah,ai,ae,af,ad, *,tB,hx.r]
  all_goals exact run _ (by simp(maxDischargeDepth:=12) [aq,an,Fr.nil,aD,ah,ai,ae,af,ar,ao,ad, *])
 ·rw[if_neg h]
  simp[ah,ai,ae,af,ad, *,tB,hx.r]
end Go.Proofs.YtdbiffjdomokfaaGreat
