/-
  Disks by the document: what the functions answer. No statement of a seat is proved here.
-/
import Derived.Test.YtiidajnodhkidaaGreatDskPut
set_option linter.unusedVariables false
set_option linter.unusedSimpArgs false
set_option linter.unusedSectionVars false
set_option linter.unnecessarySimpa false
set_option maxRecDepth 100000
namespace Go.Proofs.YtiidajnodhkidaaGreat
open Go.Ab
attribute [local simp] ct bK bO bN keep thr cC bD bP eE eD cN cB aV dk List.take_of_length_le
theorem Bz{E:Env}{f:FuncId}{fn:Func}{c:Code}{args:List AV}{R:AV→Prop}(hsp:E.spec f args=none)(hal:E.allowed f=true)(hf:E.P.funcs[f]?=some fn)(hc:fn.body=some c)(hl:Nat.ble args.length fn.ntmps=true)
 (h:GoL E fn 0 [.code c] (Fs 0 args) [] fun x H =>∃y,ia E f x H y∧R y) : ∃y,limf E f args=some y∧R y:=by
 obtain⟨x,H,⟨y,hQ,hR⟩,n,hn⟩:=h.h (fun _=>AV.undef) args fun i=>(Bh args i).symm
 refine⟨y,vg.2 ⟨n,fun m hm=>?_⟩,hR⟩
 obtain⟨st,h1,h2,h3⟩:=hn m hm
 subst h3
 unfold dC
 rw[hsp]
 unfold qX
 simp only[hal,if_true,hf,hc,if_pos (Nat.le_of_ble_eq_true hl),h1,h2,Option.map_some]
 unfold ia at hQ
 split
 ·rename_i h1
  rw[if_pos h1]at hQ
  rw[if_pos hQ.1]
  exact hQ.2
 ·rename_i h1
  rw[if_neg h1]at hQ
  exact hQ
section
variable{l:List Sec}{x:AV}{st lf:Int}{dd:Bool}(hx:Sl 2 (encS l) x)(hok : ∀s∈l,oL s)
include hx hok
theorem HA{r1:Ref}{Q:AV→Heap→Prop}{H:Heap}(h1:H.get r1=some ⟨4,[dsk x st lf dd],false,false⟩)(hQ : ∀t:Bool,(t=false→l.length≤200)→Q (aB t) H) : ∀(j k:Nat)(n:Int),k+j=300→k≤l.length→0≤n→n≤10000 * k →
 GoL env Tryz.f23 0 eY [(4,aI k),(1,.ptr r1 0 0),(3,aI n)] H Q:=by
 intro j
 induction j with
 | zero =>
  intro k n hk hkl h0 hn
  refine jt _ _ _ _ _ fun g=>?_
  simp only[dsk]at h1
  obtain rfl:k=300:=by omega
  simp[af,ah,ad,ae,aa, *,eZ,hx.r]
  repeat' ((first | refine td (fun h=>?_) (fun h=>?_) | refine nr (fun h=>?_) (fun h=>?_) | refine nv (fun h=>?_) (fun h=>?_) | refine nn (fun h=>?_) (fun h=>?_) | refine np (fun h=>?_) (fun h=>?_))<;>(try simp only[decide_eq_true_eq,decide_eq_false_iff_not,Bool.not_eq_true',Bool.not_eq_false',Bool.and_eq_true,Bool.or_eq_true]at h)<;>(try simp[af,ah,ad,ae,aa, *,hx.r]))
  all_goals first | exact hQ true (fun h=>by cases h) | exact hQ _ (fun _=>by omega)
 | succ j ih =>
  intro k n hk hkl h0 hn
  have e3:=IntWalk.i64_in ((k:Int)+1) (by omega)
  refine jt _ _ _ _ _ fun g=>?_
  simp only[dsk]at h1
  have k3:(k:Int)<300:=by omega
  by_cases hlt:k<l.length
  ·have hp:=(hok l[k] (List.getElem_mem _)).r
   have hrd:ee (encS l) k 1 1 false=some l[k].av:=by simp[encS,hlt,Sec.enc]
   simp[af,ah,ad,ae,aa, *,eZ,hx.r,hx.idx]
   obtain⟨m,hm⟩ : ∃m:Int,m=if 10000<(l[k].bs.length:Int) then 10000 else (l[k].bs.length:Int):=⟨_,rfl⟩
   have hm0:0≤m∧m≤10000:=by rw[hm];split<;>omega
   have e4:=IntWalk.i64_in (n+m) (by omega)
   rw[←hm,e4]
   have h5:=ih (k+1) (n+m) (by omega) (by omega) (by omega) (by omega)
   rw[show((k+1:Nat):Int)=(k:Int)+1 from by omega]at h5
   exact h5
  ·simp[af,ah,ad,ae,aa, *,eZ,hx.r,hx.idx]
   repeat' ((first | refine td (fun h=>?_) (fun h=>?_) | refine nr (fun h=>?_) (fun h=>?_) | refine nv (fun h=>?_) (fun h=>?_) | refine nn (fun h=>?_) (fun h=>?_) | refine np (fun h=>?_) (fun h=>?_))<;>(try simp only[decide_eq_true_eq,decide_eq_false_iff_not,Bool.not_eq_true',Bool.not_eq_false',Bool.and_eq_true,Bool.or_eq_true]at h)<;>(try simp[af,ah,ad,ae,aa, *,hx.r]))
   all_goals first | exact hQ true (fun h=>by cases h) | exact hQ _ (fun _=>by omega)
theorem O5 : ∃t:Bool,limf env 23 [dsk x st lf dd]=some (aB t)∧(t=false→l.length≤200):=by
 have h : ∃y,limf env 23 [dsk x st lf dd]=some y ∧∃t:Bool,y=aB t∧(t=false→l.length≤200):=by
  refine Bz (fn:=Tryz.f23) (c:=ib) (by kernel_rfl) (by kernel_rfl) (by kernel_rfl) (by kernel_rfl) (by kernel_rfl) ?_
  refine oN _ _ _ fun g=>?_
  suffices h : ∀Q:AV→Heap→Prop,(∀t:Bool,(t=false→l.length≤200)→Q (aB t) [(⟨0,1,0,0⟩,some ⟨4,[dsk x st lf dd],false,false⟩)])→ij g (dsk x st lf dd) [] Q from
   h _ fun t ht=>⟨aB t,by simp,t,rfl,ht⟩
  intro Q hQ
  have hl:=HA (st:=st) (lf:=lf) (dd:=dd) hx hok (r1:=⟨0,1,0,0⟩) (H:=[(⟨0,1,0,0⟩,some ⟨4,[dsk x st lf dd],false,false⟩)]) (Q:=Q) (by simp) hQ 300 0 0 (by omega) (by omega) (by omega) (by omega)
  clear hQ
  simp only[dsk]at hl ⊢
  simp[af,ah,ad,ae,aa, *,ij,hx.r]
  exact hl
 obtain⟨y,h1,t,rfl,h2⟩:=h
 exact⟨t,h1,h2⟩
end
def keyS(l:List Sec):List (Int × List UInt8):=l.map fun s=>(s.pos,s.bs)
end Go.Proofs.YtiidajnodhkidaaGreat
namespace Go.Proofs.YtiidajnodhkidaaGreat
open Go.Ab
attribute [local simp] ct bK bO bN keep thr cC bD bP eE eD cN cB aV dk List.take_of_length_le
def zer:List UInt8:=List.replicate 128 0
def rdR:List Sec→Int→List UInt8
 | [],_=>zer
 | p :: l,q=>if p.pos<q then rdR l q else if p.pos=q then p.bs else zer
def wrR(q:Int)(b:List UInt8):List Sec→List Sec
 | []=>[newS q b]
 | p :: l=>if p.pos<q then twS p :: wrR q b l else if p.pos=q then newS q b :: twL l else newS q b :: twS p :: twL l
theorem F3(p:Sec)(l:List Sec)(q:Int):nth (p :: l) q=if p.pos<q then nth l q+1 else 0:=by
 unfold nth
 by_cases h:p.pos<q
 ·rw[List.takeWhile_cons_of_pos (p:=fun s:Sec=>decide (s.pos<q)) (decide_eq_true h),if_pos h,List.length_cons]
 ·rw[List.takeWhile_cons_of_neg (p:=fun s:Sec=>decide (s.pos<q)) (by rw[decide_eq_true_eq];exact h),if_neg h];rfl
theorem SQ(l:List Sec)(q:Int):rdB l q=rdR l q:=by
 induction l with
 | nil=>rfl
 | cons p l ih =>
  unfold rdB rdR
  rw[F3]
  by_cases h:p.pos<q
  ·rw[if_pos h,if_pos h,←ih];rfl
  ·rw[if_neg h,if_neg h]
   by_cases e:p.pos=q
   ·simp[jX,e]
   ·simp[jX,e,zer]
theorem RQ(l:List Sec)(q:Int)(b:List UInt8):wrL l q b=wrR q b l:=by
 induction l with
 | nil=>rfl
 | cons p l ih =>
  unfold wrL wrR
  rw[F3]
  by_cases h:p.pos<q
  ·rw[if_pos h,if_pos h,←ih]
   unfold wrL
   have e:jX (p :: l) q (nth l q+1)=jX l q (nth l q):=rfl
   rw[e]
   split<;>rfl
  ·rw[if_neg h,if_neg h]
   by_cases e:p.pos=q
   ·simp[jX,e,twL]
   ·simp[jX,e,twL]
theorem LQ(l:List Sec)(q:Int):rdR (twL l) q=rdR l q:=by
 induction l with
 | nil=>rfl
 | cons p l ih =>
  show(if p.pos<q then rdR (twL l) q else if p.pos=q then p.bs else zer)=_
  rw[ih];rfl
theorem WR(q r:Int)(b:List UInt8) : ∀l,rdR (wrR q b l) r=if r=q then b else rdR l r:=by
 intro l
 induction l with
 | nil =>
  show(if q<r then zer else if q=r then b else zer)=_
  by_cases h:r=q
  ·subst h;simp
  ·have h' : ¬q=r:=fun e=>h e.symm
   simp[h,h',rdR]
 | cons p l ih =>
  unfold wrR
  by_cases h:p.pos<q
  ·rw[if_pos h]
   show(if p.pos<r then rdR (wrR q b l) r else if p.pos=r then p.bs else zer)=_
   rw[ih]
   simp only[rdR]
   grind
  ·rw[if_neg h]
   by_cases e:p.pos=q
   ·rw[if_pos e]
    show(if q<r then rdR (twL l) r else if q=r then b else zer)=_
    rw[LQ]
    simp only[rdR]
    grind
   ·rw[if_neg e]
    show(if q<r then rdR (twL (p :: l)) r else if q=r then b else zer)=_
    rw[LQ]
    simp only[rdR]
    grind
theorem Ud(q:Int)(b:List UInt8)(hq:q<6146)(hb:b.length=128) : ∀(l:List Sec)(a:Int),a<q→ascS a l=true→ascS a (wrR q b l)=true:=by
 intro l
 induction l with
 | nil=>intro a ha _;simp[wrR,ascS,newS,hb];omega
 | cons p l ih =>
  intro a ha h
  have h':=h
  simp[ascS]at h
  have u1:=h.1.1.1
  have u2:=h.1.1.2
  have u3:=h.1.2
  unfold wrR
  by_cases h1:p.pos<q
  ·rw[if_pos h1]
   have:=ih p.pos h1 h.2
   simp[ascS,twS,this,u3]
   exact⟨decide_eq_false (by omega),by omega⟩
  ·rw[if_neg h1]
   by_cases e:p.pos=q
   ·rw[if_pos e]
    have h3:ascS q (twL l)=true:=by rw[Cw,←e];exact h.2
    simp[ascS,newS,hb,h3]
    exact⟨decide_eq_false (by omega),by omega⟩
   ·rw[if_neg e]
    have h3:ascS p.pos (twL l)=true:=by rw[Cw];exact h.2
    simp[ascS,newS,twS,hb,h3,u3]
    exact⟨⟨decide_eq_false (by omega),by omega⟩,decide_eq_false (by omega),by omega⟩
theorem V1(q:Int)(b:List UInt8) : ∀(l:List Sec),∀s∈wrR q b l,oL s:=by
 have hn:oL (newS q b):=Sl.mk _ _
 intro l
 induction l with
 | nil=>intro s hs;simp[wrR]at hs;subst hs;exact hn
 | cons p l ih =>
  intro s hs
  unfold wrR at hs
  split at hs
  ·rcases List.mem_cons.1 hs with rfl | hs
   ·exact Sl.mk _ _
   ·exact ih s hs
  ·split at hs
   ·rcases List.mem_cons.1 hs with rfl | hs
    ·exact hn
    ·exact Cx l s hs
   ·rcases List.mem_cons.1 hs with rfl | hs
    ·exact hn
    ·exact Cx (p :: l) s hs
theorem Tu(l:List Sec):keyS (twL l)=keyS l:=by simp[keyS,twL,twS]
theorem RS{l:List Sec}{x:AV}(hx:Sl 2 (encS l) x):Sl 2 (encS (twL l)) (vw (twA x l)):=by
 rcases uR hx with ⟨h,e⟩ | h | ⟨h,e⟩
 ·rw[h,e];exact .inl ⟨rfl,rfl⟩
 ·rw[h];exact Sl.mk _ _
 ·rw[h,e];exact .inr ⟨some 0,rfl,by simp⟩
end Go.Proofs.YtiidajnodhkidaaGreat
