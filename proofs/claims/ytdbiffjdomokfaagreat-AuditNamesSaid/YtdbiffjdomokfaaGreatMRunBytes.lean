/-
  Labels, handles, ids, spans, runes: what the functions answer. No statement of a seat is proved here.
-/
import Derived.Test.YtdbiffjdomokfaaGreatAuVc1
import Derived.Test.YtdbiffjdomokfaaGreatMLePol
import Derived.Test.YtdbiffjdomokfaaGreatAuVc3
set_option linter.unusedVariables false
set_option linter.unusedSimpArgs false
set_option linter.unusedSectionVars false
set_option linter.unnecessarySimpa false
set_option maxRecDepth 100000
namespace Go.Proofs.YtdbiffjdomokfaaGreat
open Go.Ab
attribute [local simp] bK bw bo bM bL dc kS bU bx bH dJ dI cp bX bh cC List.take_of_length_le
@[simp] theorem KZ(a:UInt8)(b:UInt32):bj env 33 [.agg [a8 a,aF b]]=some (aI (bad (decide (a≤15)))):=by
 refine aJ (fn:=Tryz.f33) (c:=pI) rfl (by kernel_rfl) (by kernel_rfl) (by kernel_rfl) (by kernel_rfl) ?_;refine tf _ _ _ fun g=>?_
 simp[ah,ai,ae,af,ad, *,pR]
 repeat' ((first | refine kP (fun h=>?_) (fun h=>?_) | refine kp (fun h=>?_) (fun h=>?_) | refine kq (fun h=>?_) (fun h=>?_) | refine kn (fun h=>?_) (fun h=>?_) | refine ko (fun h=>?_) (fun h=>?_))<;>(try simp only[decide_eq_true_eq,decide_eq_false_iff_not,Bool.not_eq_true',Bool.not_eq_false',Bool.and_eq_true,Bool.or_eq_true]at h)<;>(try simp[ah,ai,ae,af,ad, *]))
 all_goals (try grind [bad])
@[simp] theorem WX(b:Bool):bj env 136 [aB b]=some (aI (bad b)):=by
 refine aJ (fn:=Tryz.f136) (c:=xJ) rfl (by kernel_rfl) (by kernel_rfl) (by kernel_rfl) (by kernel_rfl) ?_;refine Dw _ _ _ fun g=>?_
 cases b<;>simp[ah,ai,ae,af,ad, *,xP,bad]
@[simp] theorem MP(a:UInt8)(b:UInt32)(n:UInt8):bj env 117 [.agg [a8 a,aF b,a8 n]]=some (aI (bad (mm ⟨a,b,n⟩))):=by
 refine aJ (fn:=Tryz.f117) (c:=pJ) rfl (by kernel_rfl) (by kernel_rfl) (by kernel_rfl) (by kernel_rfl) ?_;refine vI _ _ _ fun g=>?_
 simp[ah,ai,ae,af,ad, *,pS,mm]
 repeat' ((first | refine kP (fun h=>?_) (fun h=>?_) | refine kp (fun h=>?_) (fun h=>?_) | refine kq (fun h=>?_) (fun h=>?_) | refine kn (fun h=>?_) (fun h=>?_) | refine ko (fun h=>?_) (fun h=>?_))<;>(try simp only[decide_eq_true_eq,decide_eq_false_iff_not,Bool.not_eq_true',Bool.not_eq_false',Bool.and_eq_true,Bool.or_eq_true]at h)<;>(try simp[ah,ai,ae,af,ad, *]))
@[simp] theorem Uv(a:UInt8)(b:UInt32)(n:UInt8)(k:Int):bj env 137 [.agg [a8 a,aF b,a8 n,aI k]]=some (aI (bad (C9 ⟨⟨a,b,n⟩,k⟩))):=by
 refine aJ (fn:=Tryz.f137) (c:=xK) rfl (by kernel_rfl) (by kernel_rfl) (by kernel_rfl) (by kernel_rfl) ?_;refine Dx _ _ _ fun g=>?_
 simp[ah,ai,ae,af,ad, *,xQ,C9]
 repeat' ((first | refine kP (fun h=>?_) (fun h=>?_) | refine kp (fun h=>?_) (fun h=>?_) | refine kq (fun h=>?_) (fun h=>?_) | refine kn (fun h=>?_) (fun h=>?_) | refine ko (fun h=>?_) (fun h=>?_))<;>(try simp only[decide_eq_true_eq,decide_eq_false_iff_not,Bool.not_eq_true',Bool.not_eq_false',Bool.and_eq_true,Bool.or_eq_true]at h)<;>(try simp[ah,ai,ae,af,ad, *]))
@[simp] theorem OY(a:UInt8)(b:UInt32)(n:UInt8)(k m:Int):bj env 131 [.agg [a8 a,aF b,a8 n,aI k,aI m]]=some (aI (bad (iO ⟨⟨⟨a,b,n⟩,k⟩,m⟩))):=by
 refine aJ (fn:=Tryz.f131) (c:=rO) rfl (by kernel_rfl) (by kernel_rfl) (by kernel_rfl) (by kernel_rfl) ?_;refine yd _ _ _ fun g=>?_
 cases hb:C9 ⟨⟨a,b,n⟩,k⟩ with
 | false=>simp[ah,ai,ae,af,ad, *,jy,iO]
 | true =>
  have hn:=F1 hb
  simp only at hn
  by_cases h1:1≤m
  ·by_cases h2:m≤64
   ·have w1:=IntWalk.i64_in (k+m) (by omega)
    have w2:=IntWalk.i64_in (k+m - 1) (by omega)
    simp[ah,ai,ae,af,ad, *,jy,iO]
   ·simp[ah,ai,ae,af,ad, *,jy,iO]
  ·simp[ah,ai,ae,af,ad, *,jy,iO]
@[simp] theorem X1(a:UInt8)(b:UInt32)(n:UInt8)(k m:Int):bj env 164 [.agg [a8 a,aF b,a8 n,aI k],aI m]=some (.agg [a8 a,aF b,a8 n,aI (IntKind.i64.wrap (k+m))]):=by
 refine aJ (fn:=Tryz.f164) (c:=zh) rfl (by kernel_rfl) (by kernel_rfl) (by kernel_rfl) (by kernel_rfl) ?_;refine EN _ _ _ _ fun g=>?_
 simp[ah,ai,ae,af,ad, *,zk]
def M7(s:zL)(m:Int):Int:=if iO s then (if m<0∨s.many≤m then 2 else 0) else 8
@[simp] theorem Uw(a:UInt8)(b:UInt32)(n:UInt8)(k m j:Int):bj env 145 [.agg [a8 a,aF b,a8 n,aI k,aI m],aI j] =
 some (if M7 ⟨⟨⟨a,b,n⟩,k⟩,m⟩ j=0 then .tup [.agg [a8 a,aF b,a8 n,aI (k+j)],aI 0] else .tup [.agg [a8 0,aF 0,a8 0,aI 0],aI (M7 ⟨⟨⟨a,b,n⟩,k⟩,m⟩ j)]):=by
 refine aJ (fn:=Tryz.f145) (c:=Dl) rfl (by kernel_rfl) (by kernel_rfl) (by kernel_rfl) (by kernel_rfl) ?_;refine I1 _ _ _ _ fun g=>?_
 cases hb:iO ⟨⟨⟨a,b,n⟩,k⟩,m⟩ with
 | false=>simp[ah,ai,ae,af,ad, *,rT,M7]
 | true =>
  have hn:=kU hb
  simp only at hn
  by_cases h1:j<0
  ·simp[ah,ai,ae,af,ad, *,rT,M7]
  ·by_cases h2:m≤j
   ·simp[ah,ai,ae,af,ad, *,rT,M7]
   ·have w1:=IntWalk.i64_in (k+j) (by omega)
    simp[ah,ai,ae,af,ad, *,rT,M7]
end Go.Proofs.YtdbiffjdomokfaaGreat
namespace Go.Proofs.YtdbiffjdomokfaaGreat
open Go.Ab
attribute [local simp] bK bw bo bM bL dc kS bU bx bH dJ dI cp bX bh cC List.take_of_length_le
@[simp] theorem R9(n:Int)(h0:0≤n):bj env 118 [aI n,aI 4]=some (.cm 1 (gJ (be 4 n)) none):=by
 refine aJ (fn:=Tryz.f118) (c:=n8) rfl (by kernel_rfl) (by kernel_rfl) (by kernel_rfl) (by kernel_rfl) ?_;refine uW _ _ _ _ fun g=>?_
 have w5:IntKind.i64.wrap (-1) = -1:=rfl
 have w4:IntKind.i64.wrap 0=0:=rfl
 simp[ah,ai,ae,af,ad, *,qZ]
 refine cU _ _ _ _ _ fun g=>?_
 simp[ah,ai,ae,af,ad, *,cH,eZ,eC]
 refine cU _ _ _ _ _ fun g=>?_
 simp[ah,ai,ae,af,ad, *,cH,eZ,eC]
 refine cU _ _ _ _ _ fun g=>?_
 simp[ah,ai,ae,af,ad, *,cH,eZ,eC]
 refine cU _ _ _ _ _ fun g=>?_
 simp[ah,ai,ae,af,ad, *,cH,eZ,eC]
 refine cU _ _ _ _ _ fun g=>?_
 simp[ah,ai,ae,af,ad, *,cH,HQ,gJ]
@[simp] theorem Jc(n:Int)(h0:0≤n):bj env 118 [aI n,aI 7]=some (.cm 1 (gJ (be 7 n)) none):=by
 refine aJ (fn:=Tryz.f118) (c:=n8) rfl (by kernel_rfl) (by kernel_rfl) (by kernel_rfl) (by kernel_rfl) ?_;refine uW _ _ _ _ fun g=>?_
 have w5:IntKind.i64.wrap (-1) = -1:=rfl
 have w4:IntKind.i64.wrap 0=0:=rfl
 simp[ah,ai,ae,af,ad, *,qZ]
 refine cU _ _ _ _ _ fun g=>?_
 simp[ah,ai,ae,af,ad, *,cH,eZ,eC]
 refine cU _ _ _ _ _ fun g=>?_
 simp[ah,ai,ae,af,ad, *,cH,eZ,eC]
 refine cU _ _ _ _ _ fun g=>?_
 simp[ah,ai,ae,af,ad, *,cH,eZ,eC]
 refine cU _ _ _ _ _ fun g=>?_
 simp[ah,ai,ae,af,ad, *,cH,eZ,eC]
 refine cU _ _ _ _ _ fun g=>?_
 simp[ah,ai,ae,af,ad, *,cH,eZ,eC]
 refine cU _ _ _ _ _ fun g=>?_
 simp[ah,ai,ae,af,ad, *,cH,eZ,eC]
 refine cU _ _ _ _ _ fun g=>?_
 simp[ah,ai,ae,af,ad, *,cH,eZ,eC]
 refine cU _ _ _ _ _ fun g=>?_
 simp[ah,ai,ae,af,ad, *,cH,YA,gJ]
def gy(h:zU):List UInt8:=h.lv :: (be 4 h.cats.toNat++[h.num])
@[simp] theorem Q8(h:zU):(gy h).length=6:=by simp[gy]
@[simp] theorem E5(a:UInt8)(b:UInt32)(n:UInt8):bj env 98 [.agg [a8 a,aF b,a8 n]]=some (if mm ⟨a,b,n⟩ then .tup [.fsl 1 (gJ (gy ⟨a,b,n⟩)) none,aI 0] else .tup [dg,aI 8]):=by
 refine aJ (fn:=Tryz.f98) (c:=rN) rfl (by kernel_rfl) (by kernel_rfl) (by kernel_rfl) (by kernel_rfl) ?_;refine yc _ _ _ fun g=>?_
 cases h:mm ⟨a,b,n⟩ with
 | true=>simp[ah,ai,ae,af,ad, *,nX,bad,gJ,gy]
 | false=>simp[ah,ai,ae,af,ad, *,nX,bad]
def ia(i:eY):List UInt8:=gy i.h++be 7 i.n
@[simp] theorem Q5(i:eY):(ia i).length=13:=by simp[ia]
@[simp] theorem X6(a:UInt8)(b:UInt32)(n:UInt8)(k:Int):bj env 119 [.agg [a8 a,aF b,a8 n,aI k]]=some (if C9 ⟨⟨a,b,n⟩,k⟩ then .tup [.cm 1 (gJ (ia ⟨⟨a,b,n⟩,k⟩)) none,aI 0] else .tup [dg,aI 8]):=by
 refine aJ (fn:=Tryz.f119) (c:=BD) rfl (by kernel_rfl) (by kernel_rfl) (by kernel_rfl) (by kernel_rfl) ?_;refine GI _ _ _ fun g=>?_
 cases h:C9 ⟨⟨a,b,n⟩,k⟩ with
 | true =>
  have hn:=F1 h
  have h7:=Jc k (by simp only at hn;omega)
  have hh:mm ⟨a,b,n⟩=true:=by simp only[C9,Bool.and_eq_true]at h;exact h.1
  simp only at hn
  simp[ah,ai,ae,af,ad, *,wa,bad,gJ,ia]
 | false=>simp[ah,ai,ae,af,ad, *,wa,bad]
end Go.Proofs.YtdbiffjdomokfaaGreat
namespace Go.Proofs.YtdbiffjdomokfaaGreat
open Go.Ab
attribute [local simp] bK bw bo bM bL dc kS bU bx bH dJ dI cp bX bh cC List.take_of_length_le
def GK(n:Int):Bool:=(decide (0≤n)&&decide (n<55296))||(decide (57343<n)&&decide (n≤1114111))
@[simp] theorem WZ(n:Int):bj env 161 [.v (.int .i32 n)]=some (aB (GK n)):=by
 refine aJ (fn:=Tryz.f161) (c:=ld) rfl (by kernel_rfl) (by kernel_rfl) (by kernel_rfl) (by kernel_rfl) ?_;refine pV _ _ _ fun g=>?_
 simp[ah,ai,ae,af,ad, *,lf,GK]
 repeat' ((first | refine kP (fun h=>?_) (fun h=>?_) | refine kp (fun h=>?_) (fun h=>?_) | refine kq (fun h=>?_) (fun h=>?_) | refine kn (fun h=>?_) (fun h=>?_) | refine ko (fun h=>?_) (fun h=>?_))<;>(try simp only[decide_eq_true_eq,decide_eq_false_iff_not,Bool.not_eq_true',Bool.not_eq_false',Bool.and_eq_true,Bool.or_eq_true]at h)<;>(try simp[ah,ai,ae,af,ad, *]))
 all_goals (try grind)
@[simp] theorem WW(n:Int):bj env 160 [.v (.int .i32 n)]=some (aB (!pt n)):=by
 refine aJ (fn:=Tryz.f160) (c:=rL) rfl (by kernel_rfl) (by kernel_rfl) (by kernel_rfl) (by kernel_rfl) ?_;refine xZ _ _ _ fun g=>?_
 by_cases h:n = -1
 ·subst h;simp[ah,ai,ae,af,ad, *,nW,pt]
 ·simp[ah,ai,ae,af,ad, *,nW,pt,GK]
def sh:List Int→Nat→Int
 | [],_ => -1
 | n :: l,k=>if pt n then sh l (k+1) else k
theorem Hr(l:List Int) : ∀k:Nat,(0≤sh l k↔l.all pt=false):=by
 induction l with
 | nil=>intro k;simp[sh]
 | cons n l ih =>
  intro k
  unfold sh
  cases h:pt n with
  | true=>rw[if_pos rfl,ih,List.all_cons,h,Bool.true_and]
  | false=>simp[h]
theorem GC{x0:AV}{Q:AV→ab→Prop}{l:List Int}(hx:Sl 1 (rows l) x0)(hl:l.length<4611686018427387904) : ∀(s:List Int)(k:Nat)(i:Int)(H:ab),l.drop k=s→k≤l.length→i=k →
 (∀y H',y=aI (sh s k)→Q y H') →
 bW env Tryz.f170 0 dL [(8,aI i),(0,x0),(1,.fn (.func 160) [] []),(7,aI l.length)] H Q:=by
 intro s
 induction s with
 | nil =>
  rintro k i H hs hk rfl hQ
  obtain rfl:=drop_nil hs hk
  refine gP _ _ _ _ _ _ fun g=>?_
  simp[ah,ai,ae,af,ad, *,dN]
  all_goals exact hQ _ _ rfl
 | cons b s ih =>
  rintro k i H hs hk rfl hQ
  obtain⟨hlt,hg,hs',hg'⟩:=drop_cons hs
  refine gP _ _ _ _ _ _ fun g=>?_
  have e3:=IntWalk.i64_in ((k:Int)+1) (by omega)
  cases hb:pt b with
  | true =>
   simp[ah,ai,ae,af,ad, *,dN,hx.idx,rows,aR]
   exact ih (k+1) _ _ hs' (by omega) (by simp) (fun y H' e=>hQ y H' (by simp[e,sh,hb]))
  | false =>
   simp[ah,ai,ae,af,ad, *,dN,hx.idx,rows,aR]
   exact hQ _ _ (by simp[sh,hb])
theorem QH:aE env.P .eql 48 (.tmp 3) (.const (.slice none 0 0)) (some (.v (.slice none 0 0))) (some (.v (.slice none 0 0)))=some (aB true,[]):=by kernel_rfl
section
variable{x:AV}{l:List Int}(hx:Sl 1 (rows l) x)(hl:l.length<4611686018427387904)
include hx hl
theorem GZ:bj env 170 [x,.fn (.func 160) [] []]=some (aI (sh l 0)):=by
 refine aJ (fn:=Tryz.f170) (c:=eR) rfl (by kernel_rfl) (by kernel_rfl) (by kernel_rfl) (by kernel_rfl) ?_;refine mw _ _ _ _ fun g=>?_
 have h:=hx.len
 simp[ah,ai,ae,af,ad, *,iE]
 exact GC hx hl l 0 _ _ rfl (by omega) rfl (fun y H' e=>by simp[e])
theorem K2:bj env 162 [x,.fn (.func 160) [] []]=some (aB (!l.all pt)):=by
 refine aJ (fn:=Tryz.f162) (c:=gD) rfl (by kernel_rfl) (by kernel_rfl) (by kernel_rfl) (by kernel_rfl) ?_;refine lj _ _ _ _ fun g=>?_
 have h:=GZ hx hl
 have e:decide (0≤sh l 0) = !l.all pt:=by
  have:=Hr l 0
  cases h:l.all pt<;>simp[h]at this ⊢ <;> omega
 simp[ah,ai,ae,af,ad, *,gH,hx.r]
theorem yg:bj env 139 [x]=some (aI (B3 l)):=by
 refine aJ (fn:=Tryz.f139) (c:=tX) rfl (by kernel_rfl) (by kernel_rfl) (by kernel_rfl) (by kernel_rfl) ?_;refine z7 _ _ _ fun g=>?_
 have h:=K2 hx hl
 have h2:=hx.len
 by_cases h64:64<l.length
 ·have:(64:Int)<l.length:=by omega
  simp[ah,ai,ae,af,ad, *,pP,B3,hx.r]
 ·have : ¬(64:Int)<l.length:=by omega
  cases hb:l.all pt<;>simp[ah,ai,ae,af,ad, *,pP,B3,hx.r]
theorem CO(hul:l.length * 4≤140737488355328):bj env 95 [x]=some (m7 x):=by
 refine aJ (fn:=Tryz.f95) (c:=jr) rfl (by kernel_rfl) (by kernel_rfl) (by kernel_rfl) (by kernel_rfl) ?_;refine nH _ _ _ fun g=>?_
 rcases hx with ⟨rfl,h⟩ | ⟨c,rfl,hc⟩
 ·have hn:=QH
  simp[ah,ai,ae,af,ad, *,eB]
 ·by_cases he:l=[]
  ·subst he
   simp[ah,ai,ae,af,ad, *,eB,rows]
  ·have he':rows l≠[]:=by simpa using he
   have hp:0<l.length:=List.length_pos_iff.2 he
   rw[nR 1 c he']
   simp[ah,ai,ae,af,ad, *,eB]
end
theorem HD{x0 x1:AV}{Q:AV→ab→Prop}{l m:List Int}(hx:Sl 1 (rows l) x0)(hy:Sl 1 (rows m) x1)(hl:l.length<4611686018427387904)(hlm:m.length=l.length) : ∀(s t:List Int)(k:Nat)(i:Int)(H:ab),l.drop k=s→m.drop k=t→k≤l.length→i=k →
 (∀y H',y=aB (decide (s=t))→Q y H') →
 bW env Tryz.f141 0 dX [(13,aI i),(1,x1),(0,x0),(12,aI l.length)] H Q:=by
 intro s
 induction s with
 | nil =>
  rintro t k i H hs ht hk rfl hQ
  obtain rfl:=drop_nil hs hk
  rw[←hlm,List.drop_length]at ht
  subst ht
  refine iM _ _ _ _ _ _ fun g=>?_
  simp[ah,ai,ae,af,ad, *,ed]
  all_goals exact hQ _ _ rfl
 | cons b s ih =>
  rintro t k i H hs ht hk rfl hQ
  obtain⟨hlt,hg,hs',hg'⟩:=drop_cons hs
  cases t with
  | nil=>have:=congrArg List.length ht;simp at this;omega
  | cons c t =>
  obtain⟨hlt2,hg2,ht',hg2'⟩:=drop_cons ht
  refine iM _ _ _ _ _ _ fun g=>?_
  have e3:=IntWalk.i64_in ((k:Int)+1) (by omega)
  by_cases hb:b=c
  ·subst hb
   simp[ah,ai,ae,af,ad, *,ed,hx.idx,hy.idx,rows,aR]
   exact ih t (k+1) _ _ hs' ht' (by omega) (by simp) (fun y H' e=>hQ y H' (by simp[e]))
  ·simp[ah,ai,ae,af,ad, *,ed,hx.idx,hy.idx,rows,aR]
   all_goals exact hQ _ _ (by simp[hb])
section
variable{x y:AV}{l m:List Int}(hx:Sl 1 (rows l) x)(hy:Sl 1 (rows m) y)(hl:l.length<4611686018427387904)
include hx hy hl
theorem Jf:bj env 141 [x,y]=some (aB (decide (l=m))):=by
 refine aJ (fn:=Tryz.f141) (c:=fN) rfl (by kernel_rfl) (by kernel_rfl) (by kernel_rfl) (by kernel_rfl) ?_;refine nG _ _ _ _ fun g=>?_
 have h1:=hx.len
 have h2:=hy.len
 by_cases h:m.length=l.length
 ·have h':(m.length:Int)=l.length:=by omega
  simp[ah,ai,ae,af,ad, *,fP]
  exact HD hx hy hl h l m 0 0 _ rfl rfl (by omega) rfl (fun y H' e=>by simp[e])
 ·have h' : ¬(l.length:Int)=m.length:=by omega
  have hne:l≠m:=fun e=>h (by rw[e])
  have h'' : ¬(m.length:Int)=l.length:=by omega
  simp[ah,ai,ae,af,ad, *,fP]
end
end Go.Proofs.YtdbiffjdomokfaaGreat
namespace Go.Proofs.YtdbiffjdomokfaaGreat
open Go.Ab
attribute [local simp] bK bw bo bM bL dc kS bU bx bH dJ dI cp bX bh cC List.take_of_length_le
def eD(l:List Int):List UInt8:=l.flatMap fun n=>be 4 n
theorem r6(l:List Int):(eD l).length=4 * l.length:=by
 induction l with
 | nil=>rfl
 | cons n l ih=>show(be 4 n++eD l).length=_;rw[List.length_append,ih,Mu,List.length_cons];omega
theorem Jn{l:List Int}{x13:AV}(hx:Sl 1 (rows l) x13)(hl:l.length<100000)(hR : ∀n∈l, -2147483648≤n∧n≤2147483647){Q:AV→ab→Prop} :
 ∀(s:List Int)(k:Nat)(i:Int)(acc:List Int)(x5:AV)(H:ab),l.drop k=s→k≤l.length→i=k→acc.length=k→Fr H→BK [32] 1 (gJ (eD acc)) H x5→(acc=[]→x5=dg) →
 (∀y H',BK [32] 1 (gJ (eD (acc++s))) H' y→(acc++s=[]→y=dg)→Q (.tup [y,aI 0]) H') →
 bW env Tryz.f121 0 mZ [(15,aI i),(5,x5),(13,x13),(14,aI l.length)] H Q:=by
 intro s
 induction s with
 | nil =>
  rintro k i acc x5 H hs hk rfl ha hF hO hN hQ
  obtain rfl:=drop_nil hs hk
  refine ta _ _ _ _ _ _ fun g=>?_
  have hQ':=hQ x5 H (by simpa using hO) (by simpa using hN)
  clear hQ hO hN
  simp[ah,ai,ae,af,ad, *,nf,hx.len]
  all_goals exact hQ'
 | cons n s ih =>
  rintro k i acc x5 H hs hk rfl ha hF hO hN hQ
  obtain⟨hlt,hg,hs',hg'⟩:=drop_cons hs
  have hn:=hR n (by rw[←hg];exact List.getElem_mem _)
  have e3:=IntWalk.i64_in ((k:Int)+1) (by omega)
  refine ta _ _ _ _ _ _ fun g=>?_
  have hrd:eQ (rows l) k 0 1 false=some (.v (.int .i32 n)):=by simp[rows,hg',aR]
  have q24:n.fdiv (2 ^ min 24 IntKind.i32.bits)=n / 16777216:=by rw[show(2:Int) ^ min 24 IntKind.i32.bits=16777216 from rfl];exact eC n 16777216
  have q16:n.fdiv (2 ^ min 16 IntKind.i32.bits)=n / 65536:=by rw[show(2:Int) ^ min 16 IntKind.i32.bits=65536 from rfl];exact eC n 65536
  have q8:n.fdiv (2 ^ min 8 IntKind.i32.bits)=n / 256:=by rw[show(2:Int) ^ min 8 IntKind.i32.bits=256 from rfl];exact eC n 256
  have hih:=fun x5' H'=>ih (k+1) ((k:Int)+1) (acc++[n]) x5' H' hs' (by omega) (by simp) (by simp;omega)
  have hQ' : ∀y H',BK [32] 1 (gJ (eD ((acc++[n])++s))) H' y→((acc++[n])++s=[]→y=dg)→Q (.tup [y,aI 0]) H':=fun y H' h hn=>hQ y H' (by simpa using h) (fun e=>by simp at e)
  have hbl:=r6 acc
  have hb8:(gJ (eD acc)).length=4 * acc.length:=by rw[show(gJ (eD acc)).length=(eD acc).length from by simp,hbl]
  have hst : ∀(g m:Nat)(H':ab),m=4 * acc.length+4→H'.get ⟨0,32,g,0⟩=some ⟨1,gJ (eD acc)++[a8 (u8 (n / 16777216)),a8 (u8 (n / 65536)),a8 (u8 (n / 256)),a8 (u8 n)],true,false⟩→BK [32] 1 (gJ (eD (acc++[n]))) H' (.cG ⟨0,32,g,0⟩ 0 m none):=by
   intro g m H' hm h
   subst hm
   have e:gJ (eD (acc++[n]))=gJ (eD acc)++[a8 (u8 (n / 16777216)),a8 (u8 (n / 65536)),a8 (u8 (n / 256)),a8 (u8 n)]:=by simp[eD,HQ,gJ]
   rw[e]
   exact .inr ⟨32,g,by simp,by rw[List.length_append,hb8];rfl,h⟩
  clear hQ hN ih
  rcases hO with ⟨rfl,hz⟩ | ⟨t,gg,ht,rfl,hr⟩
  ·have hz':acc=[]:=by
    have:=congrArg List.length hz
    rw[hb8]at this
    simp only[List.length_nil]at this
    exact List.eq_nil_of_length_eq_zero (by omega)
   subst hz'
   have hst':=hst (H.gen 0 32) 4
   clear hst
   simp[ah,ai,ae,af,ad, *,nf,hx.r,hx.idx,eZ,eC]
   exact hih _ _ (by simp(maxDischargeDepth:=12) [ab.get_put,aq,an,Fr.nil,aD,ah,ai,ae,af,ar,ao,ad, *]) (hst' _ rfl (by simp[eD])) (fun e=>by simp at e) hQ'
  ·rw[List.mem_singleton]at ht
   subst ht
   have l6:(H.get ⟨0,32,gg,0⟩).isSome=true:=by rw[hr];rfl
   have f4:lV 1 1 (gJ (eD acc)).length true none (some ⟨1,gJ (eD acc),true,false⟩) (some [a8 (u8 (n / 16777216)),a8 (u8 (n / 65536)),a8 (u8 (n / 256)),a8 (u8 n)]):=by
    rw[bx,hb8];refine⟨rfl,hb8.symm ▸ rfl,.inr ⟨?_,rfl⟩⟩;simp;omega
   have hst':=fun H'=>hst (H.gen 0 32) ((gJ (eD acc)).length+4) H' (by rw[hb8])
   clear hst ha hb8 hbl
   generalize gJ (eD acc)=bs at *
   simp[ah,ai,ae,af,ad, *,nf,hx.r,hx.idx,eZ,eC]
   exact hih _ _ (by simp(maxDischargeDepth:=12) [ab.get_put,aq,an,Fr.nil,aD,ah,ai,ae,af,ar,ao,ad, *]) (hst' _ (by simp)) (fun e=>by simp at e) hQ'
theorem NC{l:List Int}{x:AV}(hx:Sl 1 (rows l) x)(hl:l.length<100000)(hR : ∀n∈l, -2147483648≤n∧n≤2147483647):bj env 121 [x]=some (if B3 l=0 then .tup [JC 1 (gJ (eD l)),aI 0] else .tup [dg,aI (B3 l)]):=by
 refine aJ (fn:=Tryz.f121) (c:=sn) rfl (by kernel_rfl) (by kernel_rfl) (by kernel_rfl) (by kernel_rfl) ?_;refine Dt _ _ _ fun g=>?_
 have hc:=yg hx (by omega)
 have hn:=hx.len
 by_cases h:B3 l=0
 ·rw[if_pos h]
  rw[h]at hc
  have hloop:=fun H Q=>Jn hx hl hR (H:=H) (Q:=Q) l 0 0 [] dg rfl (by omega) rfl rfl
  have hfin : ∀y H',BK [32] 1 (gJ (eD ([]++l))) H' y→([]++l=[]→y=dg)→view H'.get 8 (.tup [y,aI 0])=some (.tup [JC 1 (gJ (eD l)),aI 0]):=by
   intro y H' ho hnil
   rw[List.nil_append]at ho hnil
   rcases ho with ⟨rfl,hz⟩ | ⟨t,gg,ht,rfl,hr⟩
   ·rw[hz];simp[JC]
   ·have hne:gJ (eD l)≠[]:=by
     intro e
     have h1:=congrArg List.length e
     have h2:=r6 l
     have h3:(gJ (eD l)).length=(eD l).length:=by simp
     simp only[List.length_nil]at h1
     have:l=[]:=List.eq_nil_of_length_eq_zero (by omega)
     cases hnil this
    rw[Iq 1 hne]
    generalize gJ (eD l)=bs at *
    simp[hr]
  have run:=fun H hF=>hloop H (fun x H=>view H.get 8 x=some (.tup [JC 1 (gJ (eD l)),aI 0])) hF (.inl ⟨rfl,rfl⟩) (fun _=>rfl) hfin
  clear hloop hfin h
  generalize JC 1 (gJ (eD l))=yo at *
  simp[ah,ai,ae,af,ad, *,sx,hx.r]
  all_goals exact run _ (by simp(maxDischargeDepth:=12) [aq,an,Fr.nil,aD,ah,ai,ae,af,ar,ao,ad, *])
 ·rw[if_neg h]
  simp[ah,ai,ae,af,ad, *,sx,hx.r]
end Go.Proofs.YtdbiffjdomokfaaGreat
