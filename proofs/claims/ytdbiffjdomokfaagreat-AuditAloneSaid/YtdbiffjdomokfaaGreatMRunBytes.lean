/-
  Labels, handles, ids, spans, runes: what the functions answer. No statement of a seat is proved here.
-/
import Derived.Test.YtdbiffjdomokfaaGreatAuVc1
import Derived.Test.YtdbiffjdomokfaaGreatMLePol
import Derived.Test.YtdbiffjdomokfaaGreatAuVc3
set_option linter.unusedVariables false
set_option linter.unusedSimpArgs false
set_option linter.unusedSectionVars false
set_option linter.unnecessarySimpa false
set_option maxRecDepth 100000
namespace Go.Proofs.YtdbiffjdomokfaaGreat
open Go.Ab
attribute [local simp] bD bp bl bC bB cV lj bP bt bA dc db cg bR aV cm List.take_of_length_le
@[simp] theorem Nr(a:UInt8)(b:UInt32):bj env 33 [.agg [a8 a,aG b]]=some (aI (bad (decide (a≤15)))):=by
 refine aK (fn:=Tryz.f33) (c:=qC) rfl (by kernel_rfl) (by kernel_rfl) (by kernel_rfl) (by kernel_rfl) ?_;refine uO _ _ _ fun g=>?_
 simp[ah,ai,ae,af,ad, *,qL]
 repeat' ((first | refine kO (fun h=>?_) (fun h=>?_) | refine kC (fun h=>?_) (fun h=>?_) | refine kD (fun h=>?_) (fun h=>?_) | refine kA (fun h=>?_) (fun h=>?_) | refine kB (fun h=>?_) (fun h=>?_))<;>(try simp only[decide_eq_true_eq,decide_eq_false_iff_not,Bool.not_eq_true',Bool.not_eq_false',Bool.and_eq_true,Bool.or_eq_true]at h)<;>(try simp[ah,ai,ae,af,ad, *]))
 all_goals (try grind [bad])
@[simp] theorem Zr(b:Bool):bj env 136 [aB b]=some (aI (bad b)):=by
 refine aK (fn:=Tryz.f136) (c:=zl) rfl (by kernel_rfl) (by kernel_rfl) (by kernel_rfl) (by kernel_rfl) ?_;refine Fc _ _ _ fun g=>?_
 cases b<;>simp[ah,ai,ae,af,ad, *,zq,bad]
@[simp] theorem Pn(a:UInt8)(b:UInt32)(n:UInt8):bj env 117 [.agg [a8 a,aG b,a8 n]]=some (aI (bad (m8 ⟨a,b,n⟩))):=by
 refine aK (fn:=Tryz.f117) (c:=qD) rfl (by kernel_rfl) (by kernel_rfl) (by kernel_rfl) (by kernel_rfl) ?_;refine xp _ _ _ fun g=>?_
 simp[ah,ai,ae,af,ad, *,qM,m8]
 repeat' ((first | refine kO (fun h=>?_) (fun h=>?_) | refine kC (fun h=>?_) (fun h=>?_) | refine kD (fun h=>?_) (fun h=>?_) | refine kA (fun h=>?_) (fun h=>?_) | refine kB (fun h=>?_) (fun h=>?_))<;>(try simp only[decide_eq_true_eq,decide_eq_false_iff_not,Bool.not_eq_true',Bool.not_eq_false',Bool.and_eq_true,Bool.or_eq_true]at h)<;>(try simp[ah,ai,ae,af,ad, *]))
@[simp] theorem W3(a:UInt8)(b:UInt32)(n:UInt8)(k:Int):bj env 137 [.agg [a8 a,aG b,a8 n,aI k]]=some (aI (bad (EP ⟨⟨a,b,n⟩,k⟩))):=by
 refine aK (fn:=Tryz.f137) (c:=zm) rfl (by kernel_rfl) (by kernel_rfl) (by kernel_rfl) (by kernel_rfl) ?_;refine Fe _ _ _ fun g=>?_
 simp[ah,ai,ae,af,ad, *,zr,EP]
 repeat' ((first | refine kO (fun h=>?_) (fun h=>?_) | refine kC (fun h=>?_) (fun h=>?_) | refine kD (fun h=>?_) (fun h=>?_) | refine kA (fun h=>?_) (fun h=>?_) | refine kB (fun h=>?_) (fun h=>?_))<;>(try simp only[decide_eq_true_eq,decide_eq_false_iff_not,Bool.not_eq_true',Bool.not_eq_false',Bool.and_eq_true,Bool.or_eq_true]at h)<;>(try simp[ah,ai,ae,af,ad, *]))
@[simp] theorem RB(a:UInt8)(b:UInt32)(n:UInt8)(k m:Int):bj env 131 [.agg [a8 a,aG b,a8 n,aI k,aI m]]=some (aI (bad (jg ⟨⟨⟨a,b,n⟩,k⟩,m⟩))):=by
 refine aK (fn:=Tryz.f131) (c:=sZ) rfl (by kernel_rfl) (by kernel_rfl) (by kernel_rfl) (by kernel_rfl) ?_;refine zH _ _ _ fun g=>?_
 cases hb:EP ⟨⟨a,b,n⟩,k⟩ with
 | false=>simp[ah,ai,ae,af,ad, *,jS,jg]
 | true =>
  have hn:=HH hb
  simp only at hn
  by_cases h1:1≤m
  ·by_cases h2:m≤64
   ·have w1:=IntWalk.i64_in (k+m) (by omega)
    have w2:=IntWalk.i64_in (k+m - 1) (by omega)
    simp[ah,ai,ae,af,ad, *,jS,jg]
   ·simp[ah,ai,ae,af,ad, *,jS,jg]
  ·simp[ah,ai,ae,af,ad, *,jS,jg]
@[simp] theorem aav(a:UInt8)(b:UInt32)(n:UInt8)(k m:Int):bj env 164 [.agg [a8 a,aG b,a8 n,aI k],aI m]=some (.agg [a8 a,aG b,a8 n,aI (IntKind.i64.wrap (k+m))]):=by
 refine aK (fn:=Tryz.f164) (c:=AO) rfl (by kernel_rfl) (by kernel_rfl) (by kernel_rfl) (by kernel_rfl) ?_;refine Gu _ _ _ _ fun g=>?_
 simp[ah,ai,ae,af,ad, *,AR]
def PB(s:Ao)(m:Int):Int:=if jg s then (if m<0∨s.many≤m then 2 else 0) else 8
@[simp] theorem W4(a:UInt8)(b:UInt32)(n:UInt8)(k m j:Int):bj env 145 [.agg [a8 a,aG b,a8 n,aI k,aI m],aI j] =
 some (if PB ⟨⟨⟨a,b,n⟩,k⟩,m⟩ j=0 then .tup [.agg [a8 a,aG b,a8 n,aI (k+j)],aI 0] else .tup [.agg [a8 0,aG 0,a8 0,aI 0],aI (PB ⟨⟨⟨a,b,n⟩,k⟩,m⟩ j)]):=by
 refine aK (fn:=Tryz.f145) (c:=E2) rfl (by kernel_rfl) (by kernel_rfl) (by kernel_rfl) (by kernel_rfl) ?_;refine K4 _ _ _ _ fun g=>?_
 cases hb:jg ⟨⟨⟨a,b,n⟩,k⟩,m⟩ with
 | false=>simp[ah,ai,ae,af,ad, *,te,PB]
 | true =>
  have hn:=ko hb
  simp only at hn
  by_cases h1:j<0
  ·simp[ah,ai,ae,af,ad, *,te,PB]
  ·by_cases h2:m≤j
   ·simp[ah,ai,ae,af,ad, *,te,PB]
   ·have w1:=IntWalk.i64_in (k+j) (by omega)
    simp[ah,ai,ae,af,ad, *,te,PB]
end Go.Proofs.YtdbiffjdomokfaaGreat
namespace Go.Proofs.YtdbiffjdomokfaaGreat
open Go.Ab
attribute [local simp] bD bp bl bC bB cV lj bP bt bA dc db cg bR aV cm List.take_of_length_le
@[simp] theorem UR(n:Int)(h0:0≤n):bj env 118 [aI n,aI 4]=some (.cw 1 (ia (be 4 n)) none):=by
 refine aK (fn:=Tryz.f118) (c:=o5) rfl (by kernel_rfl) (by kernel_rfl) (by kernel_rfl) (by kernel_rfl) ?_;refine wJ _ _ _ _ fun g=>?_
 have w5:IntKind.i64.wrap (-1) = -1:=rfl
 have w4:IntKind.i64.wrap 0=0:=rfl
 simp[ah,ai,ae,af,ad, *,sj]
 refine dg _ _ _ _ _ fun g=>?_
 simp[ah,ai,ae,af,ad, *,cQ,fq,eO]
 refine dg _ _ _ _ _ fun g=>?_
 simp[ah,ai,ae,af,ad, *,cQ,fq,eO]
 refine dg _ _ _ _ _ fun g=>?_
 simp[ah,ai,ae,af,ad, *,cQ,fq,eO]
 refine dg _ _ _ _ _ fun g=>?_
 simp[ah,ai,ae,af,ad, *,cQ,fq,eO]
 refine dg _ _ _ _ _ fun g=>?_
 simp[ah,ai,ae,af,ad, *,cQ,J3,ia]
@[simp] theorem Lh(n:Int)(h0:0≤n):bj env 118 [aI n,aI 7]=some (.cw 1 (ia (be 7 n)) none):=by
 refine aK (fn:=Tryz.f118) (c:=o5) rfl (by kernel_rfl) (by kernel_rfl) (by kernel_rfl) (by kernel_rfl) ?_;refine wJ _ _ _ _ fun g=>?_
 have w5:IntKind.i64.wrap (-1) = -1:=rfl
 have w4:IntKind.i64.wrap 0=0:=rfl
 simp[ah,ai,ae,af,ad, *,sj]
 refine dg _ _ _ _ _ fun g=>?_
 simp[ah,ai,ae,af,ad, *,cQ,fq,eO]
 refine dg _ _ _ _ _ fun g=>?_
 simp[ah,ai,ae,af,ad, *,cQ,fq,eO]
 refine dg _ _ _ _ _ fun g=>?_
 simp[ah,ai,ae,af,ad, *,cQ,fq,eO]
 refine dg _ _ _ _ _ fun g=>?_
 simp[ah,ai,ae,af,ad, *,cQ,fq,eO]
 refine dg _ _ _ _ _ fun g=>?_
 simp[ah,ai,ae,af,ad, *,cQ,fq,eO]
 refine dg _ _ _ _ _ fun g=>?_
 simp[ah,ai,ae,af,ad, *,cQ,fq,eO]
 refine dg _ _ _ _ _ fun g=>?_
 simp[ah,ai,ae,af,ad, *,cQ,fq,eO]
 refine dg _ _ _ _ _ fun g=>?_
 simp[ah,ai,ae,af,ad, *,cQ,aa2,ia]
def gU(h:vU):List UInt8:=h.lv :: (be 4 h.cats.toNat++[h.num])
@[simp] theorem TO(h:vU):(gU h).length=6:=by simp[gU]
@[simp] theorem GL(a:UInt8)(b:UInt32)(n:UInt8):bj env 98 [.agg [a8 a,aG b,a8 n]]=some (if m8 ⟨a,b,n⟩ then .tup [.fsl 1 (ia (gU ⟨a,b,n⟩)) none,aI 0] else .tup [cP,aI 8]):=by
 refine aK (fn:=Tryz.f98) (c:=sY) rfl (by kernel_rfl) (by kernel_rfl) (by kernel_rfl) (by kernel_rfl) ?_;refine zG _ _ _ fun g=>?_
 cases h:m8 ⟨a,b,n⟩ with
 | true=>simp[ah,ai,ae,af,ad, *,oX,bad,ia,gU]
 | false=>simp[ah,ai,ae,af,ad, *,oX,bad]
def iD(i:eE):List UInt8:=gU i.h++be 7 i.n
@[simp] theorem TL(i:eE):(iD i).length=13:=by simp[iD]
@[simp] theorem aaz(a:UInt8)(b:UInt32)(n:UInt8)(k:Int):bj env 119 [.agg [a8 a,aG b,a8 n,aI k]]=some (if EP ⟨⟨a,b,n⟩,k⟩ then .tup [.cw 1 (ia (iD ⟨⟨a,b,n⟩,k⟩)) none,aI 0] else .tup [cP,aI 8]):=by
 refine aK (fn:=Tryz.f119) (c:=Da) rfl (by kernel_rfl) (by kernel_rfl) (by kernel_rfl) (by kernel_rfl) ?_;refine IK _ _ _ fun g=>?_
 cases h:EP ⟨⟨a,b,n⟩,k⟩ with
 | true =>
  have hn:=HH h
  have h7:=Lh k (by simp only at hn;omega)
  have hh:m8 ⟨a,b,n⟩=true:=by simp only[EP,Bool.and_eq_true]at h;exact h.1
  simp only at hn
  simp[ah,ai,ae,af,ad, *,xO,bad,ia,iD]
 | false=>simp[ah,ai,ae,af,ad, *,xO,bad]
end Go.Proofs.YtdbiffjdomokfaaGreat
namespace Go.Proofs.YtdbiffjdomokfaaGreat
open Go.Ab
attribute [local simp] bD bp bl bC bB cV lj bP bt bA dc db cg bR aV cm List.take_of_length_le
def IM(n:Int):Bool:=(decide (0≤n)&&decide (n<55296))||(decide (57343<n)&&decide (n≤1114111))
@[simp] theorem Zt(n:Int):bj env 161 [.v (.int .i32 n)]=some (aB (IM n)):=by
 refine aK (fn:=Tryz.f161) (c:=l4) rfl (by kernel_rfl) (by kernel_rfl) (by kernel_rfl) (by kernel_rfl) ?_;refine qP _ _ _ fun g=>?_
 simp[ah,ai,ae,af,ad, *,ma,IM]
 repeat' ((first | refine kO (fun h=>?_) (fun h=>?_) | refine kC (fun h=>?_) (fun h=>?_) | refine kD (fun h=>?_) (fun h=>?_) | refine kA (fun h=>?_) (fun h=>?_) | refine kB (fun h=>?_) (fun h=>?_))<;>(try simp only[decide_eq_true_eq,decide_eq_false_iff_not,Bool.not_eq_true',Bool.not_eq_false',Bool.and_eq_true,Bool.or_eq_true]at h)<;>(try simp[ah,ai,ae,af,ad, *]))
 all_goals (try grind)
@[simp] theorem Zq(n:Int):bj env 160 [.v (.int .i32 n)]=some (aB (!qj n)):=by
 refine aK (fn:=Tryz.f160) (c:=sW) rfl (by kernel_rfl) (by kernel_rfl) (by kernel_rfl) (by kernel_rfl) ?_;refine zD _ _ _ fun g=>?_
 by_cases h:n = -1
 ·subst h;simp[ah,ai,ae,af,ad, *,oW,qj]
 ·simp[ah,ai,ae,af,ad, *,oW,qj,IM]
def tG:List Int→Nat→Int
 | [],_ => -1
 | n :: l,k=>if qj n then tG l (k+1) else k
theorem JD(l:List Int) : ∀k:Nat,(0≤tG l k↔l.all qj=false):=by
 induction l with
 | nil=>intro k;simp[tG]
 | cons n l ih =>
  intro k
  unfold tG
  cases h:qj n with
  | true=>rw[if_pos rfl,ih,List.all_cons,h,Bool.true_and]
  | false=>simp[h]
theorem IF{x0:AV}{Q:AV→ab→Prop}{l:List Int}(hx:Sl 1 (rows l) x0)(hl:l.length<4611686018427387904) : ∀(s:List Int)(k:Nat)(i:Int)(H:ab),l.drop k=s→k≤l.length→i=k →
 (∀y H',y=aI (tG s k)→Q y H') →
 bT env Tryz.f170 0 dS [(8,aI i),(0,x0),(1,.fn (.func 160) [] []),(7,aI l.length)] H Q:=by
 intro s
 induction s with
 | nil =>
  rintro k i H hs hk rfl hQ
  obtain rfl:=drop_nil hs hk
  refine ij _ _ _ _ _ _ fun g=>?_
  simp[ah,ai,ae,af,ad, *,dU]
  all_goals exact hQ _ _ rfl
 | cons b s ih =>
  rintro k i H hs hk rfl hQ
  obtain⟨hlt,hg,hs',hg'⟩:=drop_cons hs
  refine ij _ _ _ _ _ _ fun g=>?_
  have e3:=IntWalk.i64_in ((k:Int)+1) (by omega)
  cases hb:qj b with
  | true =>
   simp[ah,ai,ae,af,ad, *,dU,hx.idx,rows,aR]
   exact ih (k+1) _ _ hs' (by omega) (by simp) (fun y H' e=>hQ y H' (by simp[e,tG,hb]))
  | false =>
   simp[ah,ai,ae,af,ad, *,dU,hx.idx,rows,aR]
   exact hQ _ _ (by simp[tG,hb])
theorem Tj:aE env.P .eql 48 (.tmp 3) (.const (.slice none 0 0)) (some (.v (.slice none 0 0))) (some (.v (.slice none 0 0)))=some (aB true,[]):=by kernel_rfl
section
variable{x:AV}{l:List Int}(hx:Sl 1 (rows l) x)(hl:l.length<4611686018427387904)
include hx hl
theorem I4:bj env 170 [x,.fn (.func 160) [] []]=some (aI (tG l 0)):=by
 refine aK (fn:=Tryz.f170) (c:=ff) rfl (by kernel_rfl) (by kernel_rfl) (by kernel_rfl) (by kernel_rfl) ?_;refine nd _ _ _ _ fun g=>?_
 have h:=hx.len
 simp[ah,ai,ae,af,ad, *,iU]
 exact IF hx hl l 0 _ _ rfl (by omega) rfl (fun y H' e=>by simp[e])
theorem Nu:bj env 162 [x,.fn (.func 160) [] []]=some (aB (!l.all qj)):=by
 refine aK (fn:=Tryz.f162) (c:=hU) rfl (by kernel_rfl) (by kernel_rfl) (by kernel_rfl) (by kernel_rfl) ?_;refine mc _ _ _ _ fun g=>?_
 have h:=I4 hx hl
 have e:decide (0≤tG l 0) = !l.all qj:=by
  have:=JD l 0
  cases h:l.all qj<;>simp[h]at this ⊢ <;> omega
 simp[ah,ai,ae,af,ad, *,hY,hx.r]
theorem zK:bj env 139 [x]=some (aI (Dz l)):=by
 refine aK (fn:=Tryz.f139) (c:=vC) rfl (by kernel_rfl) (by kernel_rfl) (by kernel_rfl) (by kernel_rfl) ?_;refine Bz _ _ _ fun g=>?_
 have h:=Nu hx hl
 have h2:=hx.len
 by_cases h64:64<l.length
 ·have:(64:Int)<l.length:=by omega
  simp[ah,ai,ae,af,ad, *,qJ,Dz,hx.r]
 ·have : ¬(64:Int)<l.length:=by omega
  cases hb:l.all qj<;>simp[ah,ai,ae,af,ad, *,qJ,Dz,hx.r]
theorem Es(hul:l.length * 4≤140737488355328):bj env 95 [x]=some (nY x):=by
 refine aK (fn:=Tryz.f95) (c:=jN) rfl (by kernel_rfl) (by kernel_rfl) (by kernel_rfl) (by kernel_rfl) ?_;refine oI _ _ _ fun g=>?_
 rcases hx with ⟨rfl,h⟩ | ⟨c,rfl,hc⟩
 ·have hn:=Tj
  simp[ah,ai,ae,af,ad, *,eN]
 ·by_cases he:l=[]
  ·subst he
   simp[ah,ai,ae,af,ad, *,eN,rows]
  ·have he':rows l≠[]:=by simpa using he
   have hp:0<l.length:=List.length_pos_iff.2 he
   rw[oR 1 c he']
   simp[ah,ai,ae,af,ad, *,eN]
end
theorem JP{x0 x1:AV}{Q:AV→ab→Prop}{l m:List Int}(hx:Sl 1 (rows l) x0)(hy:Sl 1 (rows m) x1)(hl:l.length<4611686018427387904)(hlm:m.length=l.length) : ∀(s t:List Int)(k:Nat)(i:Int)(H:ab),l.drop k=s→m.drop k=t→k≤l.length→i=k →
 (∀y H',y=aB (decide (s=t))→Q y H') →
 bT env Tryz.f141 0 ek [(13,aI i),(1,x1),(0,x0),(12,aI l.length)] H Q:=by
 intro s
 induction s with
 | nil =>
  rintro t k i H hs ht hk rfl hQ
  obtain rfl:=drop_nil hs hk
  rw[←hlm,List.drop_length]at ht
  subst ht
  refine jd _ _ _ _ _ _ fun g=>?_
  simp[ah,ai,ae,af,ad, *,ew]
  all_goals exact hQ _ _ rfl
 | cons b s ih =>
  rintro t k i H hs ht hk rfl hQ
  obtain⟨hlt,hg,hs',hg'⟩:=drop_cons hs
  cases t with
  | nil=>have:=congrArg List.length ht;simp at this;omega
  | cons c t =>
  obtain⟨hlt2,hg2,ht',hg2'⟩:=drop_cons ht
  refine jd _ _ _ _ _ _ fun g=>?_
  have e3:=IntWalk.i64_in ((k:Int)+1) (by omega)
  by_cases hb:b=c
  ·subst hb
   simp[ah,ai,ae,af,ad, *,ew,hx.idx,hy.idx,rows,aR]
   exact ih t (k+1) _ _ hs' ht' (by omega) (by simp) (fun y H' e=>hQ y H' (by simp[e]))
  ·simp[ah,ai,ae,af,ad, *,ew,hx.idx,hy.idx,rows,aR]
   all_goals exact hQ _ _ (by simp[hb])
section
variable{x y:AV}{l m:List Int}(hx:Sl 1 (rows l) x)(hy:Sl 1 (rows m) y)(hl:l.length<4611686018427387904)
include hx hy hl
theorem Ll:bj env 141 [x,y]=some (aB (decide (l=m))):=by
 refine aK (fn:=Tryz.f141) (c:=gh) rfl (by kernel_rfl) (by kernel_rfl) (by kernel_rfl) (by kernel_rfl) ?_;refine oH _ _ _ _ fun g=>?_
 have h1:=hx.len
 have h2:=hy.len
 by_cases h:m.length=l.length
 ·have h':(m.length:Int)=l.length:=by omega
  simp[ah,ai,ae,af,ad, *,gk]
  exact JP hx hy hl h l m 0 0 _ rfl rfl (by omega) rfl (fun y H' e=>by simp[e])
 ·have h' : ¬(l.length:Int)=m.length:=by omega
  have hne:l≠m:=fun e=>h (by rw[e])
  have h'' : ¬(m.length:Int)=l.length:=by omega
  simp[ah,ai,ae,af,ad, *,gk]
end
end Go.Proofs.YtdbiffjdomokfaaGreat
namespace Go.Proofs.YtdbiffjdomokfaaGreat
open Go.Ab
attribute [local simp] bD bp bl bC bB cV lj bP bt bA dc db cg bR aV cm List.take_of_length_le
def eP(l:List Int):List UInt8:=l.flatMap fun n=>be 4 n
theorem tv(l:List Int):(eP l).length=4 * l.length:=by
 induction l with
 | nil=>rfl
 | cons n l ih=>show(be 4 n++eP l).length=_;rw[List.length_append,ih,O0,List.length_cons];omega
theorem Lt{l:List Int}{x13:AV}(hx:Sl 1 (rows l) x13)(hl:l.length<100000)(hR : ∀n∈l, -2147483648≤n∧n≤2147483647){Q:AV→ab→Prop} :
 ∀(s:List Int)(k:Nat)(i:Int)(acc:List Int)(x5:AV)(H:ab),l.drop k=s→k≤l.length→i=k→acc.length=k→Fr H→Dg [32] 1 (ia (eP acc)) H x5→(acc=[]→x5=cP) →
 (∀y H',Dg [32] 1 (ia (eP (acc++s))) H' y→(acc++s=[]→y=cP)→Q (.tup [y,aI 0]) H') →
 bT env Tryz.f121 0 nS [(15,aI i),(5,x5),(13,x13),(14,aI l.length)] H Q:=by
 intro s
 induction s with
 | nil =>
  rintro k i acc x5 H hs hk rfl ha hF hO hN hQ
  obtain rfl:=drop_nil hs hk
  refine uM _ _ _ _ _ _ fun g=>?_
  have hQ':=hQ x5 H (by simpa using hO) (by simpa using hN)
  clear hQ hO hN
  simp[ah,ai,ae,af,ad, *,og,hx.len]
  all_goals exact hQ'
 | cons n s ih =>
  rintro k i acc x5 H hs hk rfl ha hF hO hN hQ
  obtain⟨hlt,hg,hs',hg'⟩:=drop_cons hs
  have hn:=hR n (by rw[←hg];exact List.getElem_mem _)
  have e3:=IntWalk.i64_in ((k:Int)+1) (by omega)
  refine uM _ _ _ _ _ _ fun g=>?_
  have hrd:eL (rows l) k 0 1 false=some (.v (.int .i32 n)):=by simp[rows,hg',aR]
  have q24:n.fdiv (2 ^ min 24 IntKind.i32.bits)=n / 16777216:=by rw[show(2:Int) ^ min 24 IntKind.i32.bits=16777216 from rfl];exact eO n 16777216
  have q16:n.fdiv (2 ^ min 16 IntKind.i32.bits)=n / 65536:=by rw[show(2:Int) ^ min 16 IntKind.i32.bits=65536 from rfl];exact eO n 65536
  have q8:n.fdiv (2 ^ min 8 IntKind.i32.bits)=n / 256:=by rw[show(2:Int) ^ min 8 IntKind.i32.bits=256 from rfl];exact eO n 256
  have hih:=fun x5' H'=>ih (k+1) ((k:Int)+1) (acc++[n]) x5' H' hs' (by omega) (by simp) (by simp;omega)
  have hQ' : ∀y H',Dg [32] 1 (ia (eP ((acc++[n])++s))) H' y→((acc++[n])++s=[]→y=cP)→Q (.tup [y,aI 0]) H':=fun y H' h hn=>hQ y H' (by simpa using h) (fun e=>by simp at e)
  have hbl:=tv acc
  have hb8:(ia (eP acc)).length=4 * acc.length:=by rw[show(ia (eP acc)).length=(eP acc).length from by simp,hbl]
  have hst : ∀(g m:Nat)(H':ab),m=4 * acc.length+4→H'.get ⟨0,32,g,0⟩=some ⟨1,ia (eP acc)++[a8 (u8 (n / 16777216)),a8 (u8 (n / 65536)),a8 (u8 (n / 256)),a8 (u8 n)],true,false⟩→Dg [32] 1 (ia (eP (acc++[n]))) H' (.cM ⟨0,32,g,0⟩ 0 m none):=by
   intro g m H' hm h
   subst hm
   have e:ia (eP (acc++[n]))=ia (eP acc)++[a8 (u8 (n / 16777216)),a8 (u8 (n / 65536)),a8 (u8 (n / 256)),a8 (u8 n)]:=by simp[eP,J3,ia]
   rw[e]
   exact .inr ⟨32,g,by simp,by rw[List.length_append,hb8];rfl,h⟩
  clear hQ hN ih
  rcases hO with ⟨rfl,hz⟩ | ⟨t,gg,ht,rfl,hr⟩
  ·have hz':acc=[]:=by
    have:=congrArg List.length hz
    rw[hb8]at this
    simp only[List.length_nil]at this
    exact List.eq_nil_of_length_eq_zero (by omega)
   subst hz'
   have hst':=hst (H.gen 0 32) 4
   clear hst
   simp[ah,ai,ae,af,ad, *,og,hx.r,hx.idx,fq,eO]
   exact hih _ _ (by simp(maxDischargeDepth:=12) [ab.get_put,aq,an,Fr.nil,aD,ah,ai,ae,af,ar,ao,ad, *]) (hst' _ rfl (by simp[eP])) (fun e=>by simp at e) hQ'
  ·rw[List.mem_singleton]at ht
   subst ht
   have l6:(H.get ⟨0,32,gg,0⟩).isSome=true:=by rw[hr];rfl
   have f4:mN 1 1 (ia (eP acc)).length true none (some ⟨1,ia (eP acc),true,false⟩) (some [a8 (u8 (n / 16777216)),a8 (u8 (n / 65536)),a8 (u8 (n / 256)),a8 (u8 n)]):=by
    rw[bt,hb8];refine⟨rfl,hb8.symm ▸ rfl,.inr ⟨?_,rfl⟩⟩;simp;omega
   have hst':=fun H'=>hst (H.gen 0 32) ((ia (eP acc)).length+4) H' (by rw[hb8])
   clear hst ha hb8 hbl
   generalize ia (eP acc)=bs at *
   simp[ah,ai,ae,af,ad, *,og,hx.r,hx.idx,fq,eO]
   exact hih _ _ (by simp(maxDischargeDepth:=12) [ab.get_put,aq,an,Fr.nil,aD,ah,ai,ae,af,ar,ao,ad, *]) (hst' _ (by simp)) (fun e=>by simp at e) hQ'
theorem Qa{l:List Int}{x:AV}(hx:Sl 1 (rows l) x)(hl:l.length<100000)(hR : ∀n∈l, -2147483648≤n∧n≤2147483647):bj env 121 [x]=some (if Dz l=0 then .tup [LK 1 (ia (eP l)),aI 0] else .tup [cP,aI (Dz l)]):=by
 refine aK (fn:=Tryz.f121) (c:=tL) rfl (by kernel_rfl) (by kernel_rfl) (by kernel_rfl) (by kernel_rfl) ?_;refine E9 _ _ _ fun g=>?_
 have hc:=zK hx (by omega)
 have hn:=hx.len
 by_cases h:Dz l=0
 ·rw[if_pos h]
  rw[h]at hc
  have hloop:=fun H Q=>Lt hx hl hR (H:=H) (Q:=Q) l 0 0 [] cP rfl (by omega) rfl rfl
  have hfin : ∀y H',Dg [32] 1 (ia (eP ([]++l))) H' y→([]++l=[]→y=cP)→view H'.get 8 (.tup [y,aI 0])=some (.tup [LK 1 (ia (eP l)),aI 0]):=by
   intro y H' ho hnil
   rw[List.nil_append]at ho hnil
   rcases ho with ⟨rfl,hz⟩ | ⟨t,gg,ht,rfl,hr⟩
   ·rw[hz];simp[LK]
   ·have hne:ia (eP l)≠[]:=by
     intro e
     have h1:=congrArg List.length e
     have h2:=tv l
     have h3:(ia (eP l)).length=(eP l).length:=by simp
     simp only[List.length_nil]at h1
     have:l=[]:=List.eq_nil_of_length_eq_zero (by omega)
     cases hnil this
    rw[Kt 1 hne]
    generalize ia (eP l)=bs at *
    simp[hr]
  have run:=fun H hF=>hloop H (fun x H=>view H.get 8 x=some (.tup [LK 1 (ia (eP l)),aI 0])) hF (.inl ⟨rfl,rfl⟩) (fun _=>rfl) hfin
  clear hloop hfin h
  generalize LK 1 (ia (eP l))=yo at *
  simp[ah,ai,ae,af,ad, *,tU,hx.r]
  all_goals exact run _ (by simp(maxDischargeDepth:=12) [aq,an,Fr.nil,aD,ah,ai,ae,af,ar,ao,ad, *])
 ·rw[if_neg h]
  simp[ah,ai,ae,af,ad, *,tU,hx.r]
end Go.Proofs.YtdbiffjdomokfaaGreat
