/-
  Disks by the document: what the functions answer. No statement of a seat is proved here.
-/
import Derived.Test.YtiidajnodhkidaaGreatDskPut
import Derived.Test.YtiidajnodhkidaaGreatAbsRules
import Derived.Test.YtiidajnodhkidaaGreatStVc1
set_option linter.unusedVariables false
set_option linter.unusedSimpArgs false
set_option linter.unusedSectionVars false
set_option linter.unnecessarySimpa false
set_option maxRecDepth 100000
namespace Go.Proofs.YtiidajnodhkidaaGreat
open Go.Ab
attribute [local simp] cx bP bT bS keep thr cF bH bU eF eE cM cE aY dq List.take_of_length_le
theorem Ga{E:Env}{f:FuncId}{fn:Func}{c:Code}{args:List AV}{R:AV→Prop}(hsp:E.spec f args=none)(hal:E.allowed f=true)(hf:E.P.funcs[f]?=some fn)(hc:fn.body=some c)(hl:Nat.ble args.length fn.ntmps=true)
 (h:GoL E fn 0 [.code c] (Fu 0 args) [] fun x H =>∃y,gX E f x H y∧R y) : ∃y,limf E f args=some y∧R y:=by
 obtain⟨x,H,⟨y,hQ,hR⟩,n,hn⟩:=h.h (fun _=>AV.undef) args fun i=>(Bp args i).symm
 refine⟨y,vg.2 ⟨n,fun m hm=>?_⟩,hR⟩
 obtain⟨st,h1,h2,h3⟩:=hn m hm
 subst h3
 unfold dB
 rw[hsp]
 unfold qP
 simp only[hal,if_true,hf,hc,if_pos (Nat.le_of_ble_eq_true hl),h1,h2,Option.map_some]
 unfold gX at hQ
 split
 ·rename_i h1
  rw[if_pos h1]at hQ
  rw[if_pos hQ.1]
  exact hQ.2
 ·rename_i h1
  rw[if_neg h1]at hQ
  exact hQ
section
variable{l:List Sec}{x:AV}{st lf:Int}{dd:Bool}(hx:Sl 2 (encS l) x)(hok : ∀s∈l,rO s)
include hx hok
end
def keyS(l:List Sec):List (Int × List UInt8):=l.map fun s=>(s.pos,s.bs)
end Go.Proofs.YtiidajnodhkidaaGreat
namespace Go.Proofs.YtiidajnodhkidaaGreat
open Go.Ab
attribute [local simp] cx bP bT bS keep thr cF bH bU eF eE cM cE aY dq List.take_of_length_le
def zer:List UInt8:=List.replicate 128 0
def rdR:List Sec→Int→List UInt8
 | [],_=>zer
 | p :: l,q=>if p.pos<q then rdR l q else if p.pos=q then p.bs else zer
def wrR(q:Int)(b:List UInt8):List Sec→List Sec
 | []=>[newS q b]
 | p :: l=>if p.pos<q then twS p :: wrR q b l else if p.pos=q then newS q b :: twL l else newS q b :: twS p :: twL l
theorem F0(p:Sec)(l:List Sec)(q:Int):nth (p :: l) q=if p.pos<q then nth l q+1 else 0:=by
 unfold nth
 by_cases h:p.pos<q
 ·rw[List.takeWhile_cons_of_pos (p:=fun s:Sec=>decide (s.pos<q)) (decide_eq_true h),if_pos h,List.length_cons]
 ·rw[List.takeWhile_cons_of_neg (p:=fun s:Sec=>decide (s.pos<q)) (by rw[decide_eq_true_eq];exact h),if_neg h];rfl
theorem S5(l:List Sec)(q:Int):rdB l q=rdR l q:=by
 induction l with
 | nil=>rfl
 | cons p l ih =>
  unfold rdB rdR
  rw[F0]
  by_cases h:p.pos<q
  ·rw[if_pos h,if_pos h,←ih];rfl
  ·rw[if_neg h,if_neg h]
   by_cases e:p.pos=q
   ·simp[jT,e]
   ·simp[jT,e,zer]
theorem R4(l:List Sec)(q:Int)(b:List UInt8):wrL l q b=wrR q b l:=by
 induction l with
 | nil=>rfl
 | cons p l ih =>
  unfold wrL wrR
  rw[F0]
  by_cases h:p.pos<q
  ·rw[if_pos h,if_pos h,←ih]
   unfold wrL
   have e:jT (p :: l) q (nth l q+1)=jT l q (nth l q):=rfl
   rw[e]
   split<;>rfl
  ·rw[if_neg h,if_neg h]
   by_cases e:p.pos=q
   ·simp[jT,e,twL]
   ·simp[jT,e,twL]
theorem Je(l:List Sec)(q:Int):rdR (twL l) q=rdR l q:=by
 induction l with
 | nil=>rfl
 | cons p l ih =>
  show(if p.pos<q then rdR (twL l) q else if p.pos=q then p.bs else zer)=_
  rw[ih];rfl
theorem W6(q r:Int)(b:List UInt8) : ∀l,rdR (wrR q b l) r=if r=q then b else rdR l r:=by
 intro l
 induction l with
 | nil =>
  show(if q<r then zer else if q=r then b else zer)=_
  by_cases h:r=q
  ·subst h;simp
  ·have h' : ¬q=r:=fun e=>h e.symm
   simp[h,h',rdR]
 | cons p l ih =>
  unfold wrR
  by_cases h:p.pos<q
  ·rw[if_pos h]
   show(if p.pos<r then rdR (wrR q b l) r else if p.pos=r then p.bs else zer)=_
   rw[ih]
   simp only[rdR]
   grind
  ·rw[if_neg h]
   by_cases e:p.pos=q
   ·rw[if_pos e]
    show(if q<r then rdR (twL l) r else if q=r then b else zer)=_
    rw[Je]
    simp only[rdR]
    grind
   ·rw[if_neg e]
    show(if q<r then rdR (twL (p :: l)) r else if q=r then b else zer)=_
    rw[Je]
    simp only[rdR]
    grind
theorem Um(q:Int)(b:List UInt8)(hq:q<6146)(hb:b.length=128) : ∀(l:List Sec)(a:Int),a<q→ascS a l=true→ascS a (wrR q b l)=true:=by
 intro l
 induction l with
 | nil=>intro a ha _;simp[wrR,ascS,newS,hb];omega
 | cons p l ih =>
  intro a ha h
  have h':=h
  simp[ascS]at h
  have u1:=h.1.1.1
  have u2:=h.1.1.2
  have u3:=h.1.2
  unfold wrR
  by_cases h1:p.pos<q
  ·rw[if_pos h1]
   have:=ih p.pos h1 h.2
   simp[ascS,twS,this,u3]
   exact⟨decide_eq_false (by omega),by omega⟩
  ·rw[if_neg h1]
   by_cases e:p.pos=q
   ·rw[if_pos e]
    have h3:ascS q (twL l)=true:=by rw[zS,←e];exact h.2
    simp[ascS,newS,hb,h3]
    exact⟨decide_eq_false (by omega),by omega⟩
   ·rw[if_neg e]
    have h3:ascS p.pos (twL l)=true:=by rw[zS];exact h.2
    simp[ascS,newS,twS,hb,h3,u3]
    exact⟨⟨decide_eq_false (by omega),by omega⟩,decide_eq_false (by omega),by omega⟩
theorem Wb(q:Int)(b:List UInt8) : ∀(l:List Sec),∀s∈wrR q b l,rO s:=by
 have hn:rO (newS q b):=Sl.mk _ _
 intro l
 induction l with
 | nil=>intro s hs;simp[wrR]at hs;subst hs;exact hn
 | cons p l ih =>
  intro s hs
  unfold wrR at hs
  split at hs
  ·rcases List.mem_cons.1 hs with rfl | hs
   ·exact Sl.mk _ _
   ·exact ih s hs
  ·split at hs
   ·rcases List.mem_cons.1 hs with rfl | hs
    ·exact hn
    ·exact zT l s hs
   ·rcases List.mem_cons.1 hs with rfl | hs
    ·exact hn
    ·exact zT (p :: l) s hs
theorem NW(l:List Sec):keyS (twL l)=keyS l:=by simp[keyS,twL,twS]
theorem Ou{l:List Sec}{x:AV}(hx:Sl 2 (encS l) x):Sl 2 (encS (twL l)) (vw (twA x l)):=by
 rcases uR hx with ⟨h,e⟩ | h | ⟨h,e⟩
 ·rw[h,e];exact .inl ⟨rfl,rfl⟩
 ·rw[h];exact Sl.mk _ _
 ·rw[h,e];exact .inr ⟨some 0,rfl,by simp⟩
end Go.Proofs.YtiidajnodhkidaaGreat
namespace Go.Ab
def bad(b:Bool):Int:=if b then 0 else 8
@[simp] theorem V8(b:Bool):bad b=0↔b=true:=by cases b<;>simp[bad]
@[simp] theorem wY:bad true=0:=id rfl
@[simp] theorem DQ:bad false=8:=id rfl
structure Han where
 lv:UInt8
 cats:UInt32
 num:UInt8
deriving DecidableEq
structure Idd where
 h:Han
 n:Int
deriving DecidableEq
structure Spn where
 f:Idd
 many:Int
deriving DecidableEq
def iH(h:Han):Bool:=decide (h.lv≤15)&&decide (h.num<8)
def idB(i:Idd):Bool:=iH i.h&&(decide (1≤i.n)&&decide (i.n≤1099511627776))
def qh(s:Spn):Bool:=idB s.f&&(decide (1≤s.many)&&(decide (s.many≤64)&&decide (s.f.n+s.many - 1≤1099511627776)))
theorem J1{i:Idd}(h:idB i=true):1≤i.n∧i.n≤1099511627776:=by
 simp[idB]at h;exact h.2
theorem Iy{s:Spn}(h:qh s=true):1≤s.f.n∧1≤s.many∧s.many≤64∧s.f.n+s.many - 1≤1099511627776:=by
 simp[qh]at h
 have:=J1 h.1
 exact⟨this.1,h.2.1,h.2.2.1,h.2.2.2⟩
theorem Lr{s:Spn}(h:qh s=true):idB s.f=true:=by
 simp[qh]at h;exact h.1
def o8:Idd:=⟨⟨0,0,0⟩,0⟩
def aR(n:Int):AV := .v (.int .i32 n)
def rows(l:List Int):List AV:=l.map aR
@[simp] theorem Vp(l:List Int):(rows l).length=l.length:=by simp[rows]
def sO(n:Int):Bool:=decide (n = -1)||(decide (0≤n)&&decide (n<55296))||(decide (57343<n)&&decide (n≤1114111))
def rowB(l:List Int):Bool:=decide (l.length≤64)&&l.all sO
def rowE(l:List Int):Int:=if 64<l.length then 4 else if l.all sO then 0 else 8
@[simp] theorem VB(n:Int):(aR n).cells=[aR n]:=id rfl
@[simp] theorem Yl(n:Int):(aR n).one=true:=id rfl
@[simp] theorem Wd(g:Get)(k:Nat)(n:Int):view g (k+1) (aR n)=some (aR n):=id rfl
theorem CQ(l:List Int):rowE l=0↔rowB l=true:=by
 unfold rowE rowB
 by_cases h:64<l.length
 ·simp[h,Nat.not_le.2 h]
 ·have h':l.length≤64:=Nat.not_lt.1 h
  rw[if_neg h]
  cases l.all sO<;>simp[h']
end Go.Ab
namespace Go.Proofs.YtiidajnodhkidaaGreat
open Go.Ab
attribute [local simp] cx bP bT bS keep thr cF bH bU eF eE cM cE aY dq List.take_of_length_le
@[simp] theorem Vm(a:UInt8)(b:UInt32):limf env 155 [.agg [a8 a,a32 b]]=some (aI (bad (decide (a≤15)))):=by
 refine aG (fn:=Tryz.f155) (c:=si) rfl (by kernel_rfl) (by kernel_rfl) (by kernel_rfl) (by kernel_rfl) ?_;refine yX _ _ _ fun g=>?_
 simp[af,ah,ad,ae,aa, *,sF]
 repeat' ((first | refine vk (fun h=>?_) (fun h=>?_) | refine oO (fun h=>?_) (fun h=>?_) | refine oP (fun h=>?_) (fun h=>?_) | refine oM (fun h=>?_) (fun h=>?_) | refine oN (fun h=>?_) (fun h=>?_))<;>(try simp only[decide_eq_true_eq,decide_eq_false_iff_not,Bool.not_eq_true',Bool.not_eq_false',Bool.and_eq_true,Bool.or_eq_true]at h)<;>(try simp[af,ah,ad,ae,aa, *]))
 all_goals (try grind [bad])
@[simp] theorem WU(b:Bool):limf env 154 [aB b]=some (aI (bad b)):=by
 refine aG (fn:=Tryz.f154) (c:=vP) rfl (by kernel_rfl) (by kernel_rfl) (by kernel_rfl) (by kernel_rfl) ?_;refine Cu _ _ _ fun g=>?_
 cases b<;>simp[af,ah,ad,ae,aa, *,vW,bad]
@[simp] theorem LP(a:UInt8)(b:UInt32)(n:UInt8):limf env 120 [.agg [a8 a,a32 b,a8 n]]=some (aI (bad (iH ⟨a,b,n⟩))):=by
 refine aG (fn:=Tryz.f120) (c:=nR) rfl (by kernel_rfl) (by kernel_rfl) (by kernel_rfl) (by kernel_rfl) ?_;refine tn _ _ _ fun g=>?_
 simp[af,ah,ad,ae,aa, *,nT,iH]
 repeat' ((first | refine vk (fun h=>?_) (fun h=>?_) | refine oO (fun h=>?_) (fun h=>?_) | refine oP (fun h=>?_) (fun h=>?_) | refine oM (fun h=>?_) (fun h=>?_) | refine oN (fun h=>?_) (fun h=>?_))<;>(try simp only[decide_eq_true_eq,decide_eq_false_iff_not,Bool.not_eq_true',Bool.not_eq_false',Bool.and_eq_true,Bool.or_eq_true]at h)<;>(try simp[af,ah,ad,ae,aa, *]))
@[simp] theorem Vn(a:UInt8)(b:UInt32)(n:UInt8)(k:Int):limf env 158 [.agg [a8 a,a32 b,a8 n,aI k]]=some (aI (bad (idB ⟨⟨a,b,n⟩,k⟩))):=by
 refine aG (fn:=Tryz.f158) (c:=vQ) rfl (by kernel_rfl) (by kernel_rfl) (by kernel_rfl) (by kernel_rfl) ?_;refine Cv _ _ _ fun g=>?_
 simp[af,ah,ad,ae,aa, *,vX,idB]
 repeat' ((first | refine vk (fun h=>?_) (fun h=>?_) | refine oO (fun h=>?_) (fun h=>?_) | refine oP (fun h=>?_) (fun h=>?_) | refine oM (fun h=>?_) (fun h=>?_) | refine oN (fun h=>?_) (fun h=>?_))<;>(try simp only[decide_eq_true_eq,decide_eq_false_iff_not,Bool.not_eq_true',Bool.not_eq_false',Bool.and_eq_true,Bool.or_eq_true]at h)<;>(try simp[af,ah,ad,ae,aa, *]))
@[simp] theorem Pm(a:UInt8)(b:UInt32)(n:UInt8)(k m:Int):limf env 156 [.agg [a8 a,a32 b,a8 n,aI k,aI m]]=some (aI (bad (qh ⟨⟨⟨a,b,n⟩,k⟩,m⟩))):=by
 refine aG (fn:=Tryz.f156) (c:=p9) rfl (by kernel_rfl) (by kernel_rfl) (by kernel_rfl) (by kernel_rfl) ?_;refine wi _ _ _ fun g=>?_
 cases hb:idB ⟨⟨a,b,n⟩,k⟩ with
 | false=>simp[af,ah,ad,ae,aa, *,iO,qh]
 | true =>
  have hn:=J1 hb
  simp only at hn
  by_cases h1:1≤m
  ·by_cases h2:m≤64
   ·have w1:=IntWalk.i64_in (k+m) (by omega)
    have w2:=IntWalk.i64_in (k+m - 1) (by omega)
    simp[af,ah,ad,ae,aa, *,iO,qh]
   ·simp[af,ah,ad,ae,aa, *,iO,qh]
  ·simp[af,ah,ad,ae,aa, *,iO,qh]
end Go.Proofs.YtiidajnodhkidaaGreat
