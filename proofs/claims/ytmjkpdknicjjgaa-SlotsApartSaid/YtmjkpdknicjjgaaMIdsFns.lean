/-
  Disks read and written, by place. No statement of a seat is proved here.
-/
import Derived.Test.YtmjkpdknicjjgaaDskRef
import Derived.Test.YtmjkpdknicjjgaaLgVc1
import Derived.Test.YtmjkpdknicjjgaaMLgVl7
set_option linter.unusedVariables false
set_option linter.unusedSimpArgs false
set_option linter.unusedSectionVars false
set_option linter.unnecessarySimpa false
set_option maxRecDepth 100000
namespace Go.Proofs.Ytmjkpdknicjjgaa
open Go.Ab
attribute [local simp] bU bB bD bC keep thr cg bA bE ek ej bW cf aO cW List.take_of_length_le
def zer:List UInt8:=List.replicate 128 0
def rdR:List Sec→Int→List UInt8
 | [],_=>zer
 | p :: l,q=>if p.pos<q then rdR l q else if p.pos=q then p.bs else zer
def wrR (q:Int) (b:List UInt8):List Sec→List Sec
 | []=>[newS q b]
 | p :: l=>if p.pos<q then twS p :: wrR q b l else if p.pos=q then newS q b :: twL l else newS q b :: twS p :: twL l
theorem El (p:Sec) (l:List Sec) (q:Int):nth (p :: l) q=if p.pos<q then nth l q+1 else 0:=by
 unfold nth
 by_cases h:p.pos<q
 ·rw [List.takeWhile_cons_of_pos (p:=fun s:Sec=>decide (s.pos<q)) (decide_eq_true h),if_pos h,List.length_cons]
 ·rw [List.takeWhile_cons_of_neg (p:=fun s:Sec=>decide (s.pos<q)) (by rw [decide_eq_true_eq];exact h),if_neg h];rfl
theorem Qm (l:List Sec) (q:Int):rdB l q=rdR l q:=by
 induction l with
 | nil=>rfl
 | cons p l ih =>
  unfold rdB rdR
  rw [El]
  by_cases h:p.pos<q
  ·rw [if_pos h,if_pos h,←ih];rfl
  ·rw [if_neg h,if_neg h]
   by_cases e:p.pos=q
   ·simp [jm,e]
   ·simp [jm,e,zer]
theorem Px (l:List Sec) (q:Int) (b:List UInt8):wrL l q b=wrR q b l:=by
 induction l with
 | nil=>rfl
 | cons p l ih =>
  unfold wrL wrR
  rw [El]
  by_cases h:p.pos<q
  ·rw [if_pos h,if_pos h,←ih]
   unfold wrL
   have e:jm (p :: l) q (nth l q+1)=jm l q (nth l q):=rfl
   rw [e]
   split<;>rfl
  ·rw [if_neg h,if_neg h]
   by_cases e:p.pos=q
   ·simp [jm,e,twL]
   ·simp [jm,e,twL]
theorem J0 (l:List Sec) (q:Int):rdR (twL l) q=rdR l q:=by
 induction l with
 | nil=>rfl
 | cons p l ih =>
  show (if p.pos<q then rdR (twL l) q else if p.pos=q then p.bs else zer)=_
  rw [ih];rfl
theorem T3 (q r:Int) (b:List UInt8) : ∀l,rdR (wrR q b l) r=if r=q then b else rdR l r:=by
 intro l
 induction l with
 | nil =>
  show (if q<r then zer else if q=r then b else zer)=_
  by_cases h:r=q
  ·subst h;simp
  ·have h' : ¬q=r:=fun e=>h e.symm
   simp [h,h',rdR]
 | cons p l ih =>
  unfold wrR
  by_cases h:p.pos<q
  ·rw [if_pos h]
   show (if p.pos<r then rdR (wrR q b l) r else if p.pos=r then p.bs else zer)=_
   rw [ih]
   simp only [rdR]
   grind
  ·rw [if_neg h]
   by_cases e:p.pos=q
   ·rw [if_pos e]
    show (if q<r then rdR (twL l) r else if q=r then b else zer)=_
    rw [J0]
    simp only [rdR]
    grind
   ·rw [if_neg e]
    show (if q<r then rdR (twL (p :: l)) r else if q=r then b else zer)=_
    rw [J0]
    simp only [rdR]
    grind
theorem Rr (q:Int) (b:List UInt8) (hq:q<6146) (hb:b.length=128) : ∀(l:List Sec) (a:Int),a<q→ascS a l=true→ascS a (wrR q b l)=true:=by
 intro l
 induction l with
 | nil=>intro a ha _;simp [wrR,ascS,newS,hb];omega
 | cons p l ih =>
  intro a ha h
  have h':=h
  simp [ascS] at h
  have u1:=h.1.1.1
  have u2:=h.1.1.2
  have u3:=h.1.2
  unfold wrR
  by_cases h1:p.pos<q
  ·rw [if_pos h1]
   have:=ih p.pos h1 h.2
   simp [ascS,twS,this,u3]
   exact ⟨decide_eq_false (by omega),by omega⟩
  ·rw [if_neg h1]
   by_cases e:p.pos=q
   ·rw [if_pos e]
    have h3:ascS q (twL l)=true:=by rw [Bc,←e];exact h.2
    simp [ascS,newS,hb,h3]
    exact ⟨decide_eq_false (by omega),by omega⟩
   ·rw [if_neg e]
    have h3:ascS p.pos (twL l)=true:=by rw [Bc];exact h.2
    simp [ascS,newS,twS,hb,h3,u3]
    exact ⟨⟨decide_eq_false (by omega),by omega⟩,decide_eq_false (by omega),by omega⟩
theorem Tb (q:Int) (b:List UInt8) : ∀(l:List Sec),∀s∈wrR q b l,sU s:=by
 have hn:sU (newS q b):=Sl.mk _ _
 intro l
 induction l with
 | nil=>intro s hs;simp [wrR] at hs;subst hs;exact hn
 | cons p l ih =>
  intro s hs
  unfold wrR at hs
  split at hs
  ·rcases List.mem_cons.1 hs with rfl | hs
   ·exact Sl.mk _ _
   ·exact ih s hs
  ·split at hs
   ·rcases List.mem_cons.1 hs with rfl | hs
    ·exact hn
    ·exact Bd l s hs
   ·rcases List.mem_cons.1 hs with rfl | hs
    ·exact hn
    ·exact Bd (p :: l) s hs
theorem Pz {l:List Sec} {x:AV} (hx:Sl 2 (encS l) x):Sl 2 (encS (twL l)) (vw (twA x l)):=by
 rcases vD hx with ⟨h,e⟩ | h | ⟨h,e⟩
 ·rw [h,e];exact .inl ⟨rfl,rfl⟩
 ·rw [h];exact Sl.mk _ _
 ·rw [h,e];exact .inr ⟨some 0,rfl,by simp⟩
end Go.Proofs.Ytmjkpdknicjjgaa
set_option linter.unusedVariables false
set_option linter.unusedSimpArgs false
set_option linter.unusedSectionVars false
set_option linter.unnecessarySimpa false
set_option maxRecDepth 100000
namespace Go.Proofs.Ytmjkpdknicjjgaa
open Go.Ab
attribute [local simp] bU bB bD bC keep thr cg bA bE ek ej bW cf aO cW List.take_of_length_le
@[simp] theorem So (a:UInt8) (b:UInt32):limf env 85 [.agg [a8 a,a32 b]]=some (aI (bad (decide (a≤15)))):=by
 refine aG (fn:=Try.f85) (c:=nK) rfl (by kernel_rfl) (by kernel_rfl) (by kernel_rfl) (by kernel_rfl) ?_;refine xp _ _ _ fun g=>?_
 simp [af,ah,ad,ae,aa, *,nT]
 repeat' ((first | refine rJ (fun h=>?_) (fun h=>?_) | refine mC (fun h=>?_) (fun h=>?_) | refine mD (fun h=>?_) (fun h=>?_) | refine mA (fun h=>?_) (fun h=>?_) | refine mB (fun h=>?_) (fun h=>?_))<;>(try simp only [decide_eq_true_eq,decide_eq_false_iff_not,Bool.not_eq_true',Bool.not_eq_false',Bool.and_eq_true,Bool.or_eq_true] at h)<;>(try simp [af,ah,ad,ae,aa, *]))
 all_goals (try grind [bad])
@[simp] theorem TU (b:Bool):limf env 84 [aB b]=some (aI (bad b)):=by
 refine aG (fn:=Try.f84) (c:=qn) rfl (by kernel_rfl) (by kernel_rfl) (by kernel_rfl) (by kernel_rfl) ?_;refine AY _ _ _ fun g=>?_
 cases b<;>simp [af,ah,ad,ae,aa, *,qy,bad]
@[simp] theorem JV (a:UInt8) (b:UInt32) (n:UInt8):limf env 71 [.agg [a8 a,a32 b,a8 n]]=some (aI (bad (gN ⟨a,b,n⟩))):=by
 refine aG (fn:=Try.f71) (c:=jX) rfl (by kernel_rfl) (by kernel_rfl) (by kernel_rfl) (by kernel_rfl) ?_;refine sd _ _ _ fun g=>?_
 simp [af,ah,ad,ae,aa, *,j5,gN]
 repeat' ((first | refine rJ (fun h=>?_) (fun h=>?_) | refine mC (fun h=>?_) (fun h=>?_) | refine mD (fun h=>?_) (fun h=>?_) | refine mA (fun h=>?_) (fun h=>?_) | refine mB (fun h=>?_) (fun h=>?_))<;>(try simp only [decide_eq_true_eq,decide_eq_false_iff_not,Bool.not_eq_true',Bool.not_eq_false',Bool.and_eq_true,Bool.or_eq_true] at h)<;>(try simp [af,ah,ad,ae,aa, *]))
@[simp] theorem Sp (a:UInt8) (b:UInt32) (n:UInt8) (k:Int):limf env 88 [.agg [a8 a,a32 b,a8 n,aI k]]=some (aI (bad (idB ⟨⟨a,b,n⟩,k⟩))):=by
 refine aG (fn:=Try.f88) (c:=qo) rfl (by kernel_rfl) (by kernel_rfl) (by kernel_rfl) (by kernel_rfl) ?_;refine AZ _ _ _ fun g=>?_
 simp [af,ah,ad,ae,aa, *,qz,idB]
 repeat' ((first | refine rJ (fun h=>?_) (fun h=>?_) | refine mC (fun h=>?_) (fun h=>?_) | refine mD (fun h=>?_) (fun h=>?_) | refine mA (fun h=>?_) (fun h=>?_) | refine mB (fun h=>?_) (fun h=>?_))<;>(try simp only [decide_eq_true_eq,decide_eq_false_iff_not,Bool.not_eq_true',Bool.not_eq_false',Bool.and_eq_true,Bool.or_eq_true] at h)<;>(try simp [af,ah,ad,ae,aa, *]))
@[simp] theorem MX (a:UInt8) (b:UInt32) (n:UInt8) (k m:Int):limf env 86 [.agg [a8 a,a32 b,a8 n,aI k,aI m]]=some (aI (bad (pL ⟨⟨⟨a,b,n⟩,k⟩,m⟩))):=by
 refine aG (fn:=Try.f86) (c:=lM) rfl (by kernel_rfl) (by kernel_rfl) (by kernel_rfl) (by kernel_rfl) ?_;refine uE _ _ _ fun g=>?_
 cases hb:idB ⟨⟨a,b,n⟩,k⟩ with
 | false=>simp [af,ah,ad,ae,aa, *,fy,pL]
 | true =>
  have hn:=Ih hb
  simp only at hn
  by_cases h1:1≤m
  ·by_cases h2:m≤64
   ·have w1:=IntWalk.i64_in (k+m) (by omega)
    have w2:=IntWalk.i64_in (k+m - 1) (by omega)
    simp [af,ah,ad,ae,aa, *,fy,pL]
   ·simp [af,ah,ad,ae,aa, *,fy,pL]
  ·simp [af,ah,ad,ae,aa, *,fy,pL]
end Go.Proofs.Ytmjkpdknicjjgaa
