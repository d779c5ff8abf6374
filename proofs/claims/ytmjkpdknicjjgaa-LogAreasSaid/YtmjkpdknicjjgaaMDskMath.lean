/-
  Disks by the document: what the functions answer. No statement of a seat is proved here.
-/
import Derived.Test.YtmjkpdknicjjgaaDskPut
set_option linter.unusedVariables false
set_option linter.unusedSimpArgs false
set_option linter.unusedSectionVars false
set_option linter.unnecessarySimpa false
set_option maxRecDepth 100000
namespace Go.Proofs.Ytmjkpdknicjjgaa
open Go.Ab
attribute [local simp] bZ bD bI bH keep thr cz bA bJ eL eK bX cy aW cY List.take_of_length_le
theorem Jz {E:Env} {f:FuncId} {fn:Func} {c:Code} {args:List AV} {R:AV→Prop} (hsp:E.spec f args=none) (hal:E.allowed f=true) (hf:E.P.funcs[f]?=some fn) (hc:fn.body=some c) (hl:Nat.ble args.length fn.ntmps=true)
 (h:GoL E fn 0 [.code c] (CX 0 args) [] fun x H => ∃y,iN E f x H y∧R y) : ∃y,limf E f args=some y∧R y:=by
 obtain ⟨x,H,⟨y,hQ,hR⟩,n,hn⟩:=h.h (fun _=>AV.undef) args fun i=>(yS args i).symm
 refine ⟨y,sM.2 ⟨n,fun m hm=>?_⟩,hR⟩
 obtain ⟨st,h1,h2,h3⟩:=hn m hm
 subst h3
 unfold cM
 rw [hsp]
 unfold pB
 simp only [hal,if_true,hf,hc,if_pos (Nat.le_of_ble_eq_true hl),h1,h2,Option.map_some]
 unfold iN at hQ
 split
 ·rename_i h1
  rw [if_pos h1] at hQ
  rw [if_pos hQ.1]
  exact hQ.2
 ·rename_i h1
  rw [if_neg h1] at hQ
  exact hQ
end Go.Proofs.Ytmjkpdknicjjgaa
set_option linter.unusedVariables false
set_option linter.unusedSimpArgs false
set_option linter.unusedSectionVars false
set_option linter.unnecessarySimpa false
set_option maxRecDepth 100000
namespace Go.Proofs.Ytmjkpdknicjjgaa
open Go.Ab
attribute [local simp] bZ bD bI bH keep thr cz bA bJ eL eK bX cy aW cY List.take_of_length_le
def zer:List UInt8:=List.replicate 128 0
def rdR:List Sec→Int→List UInt8
 | [],_=>zer
 | p :: l,q=>if p.pos<q then rdR l q else if p.pos=q then p.bs else zer
def wrR (q:Int) (b:List UInt8):List Sec→List Sec
 | []=>[newS q b]
 | p :: l=>if p.pos<q then twS p :: wrR q b l else if p.pos=q then newS q b :: twL l else newS q b :: twS p :: twL l
theorem Dv (p:Sec) (l:List Sec) (q:Int):nth (p :: l) q=if p.pos<q then nth l q+1 else 0:=by
 unfold nth
 by_cases h:p.pos<q
 ·rw [List.takeWhile_cons_of_pos (p:=fun s:Sec=>decide (s.pos<q)) (decide_eq_true h),if_pos h,List.length_cons]
 ·rw [List.takeWhile_cons_of_neg (p:=fun s:Sec=>decide (s.pos<q)) (by rw [decide_eq_true_eq];exact h),if_neg h];rfl
theorem O2 (l:List Sec) (q:Int):rdB l q=rdR l q:=by
 induction l with
 | nil=>rfl
 | cons p l ih =>
  unfold rdB rdR
  rw [Dv]
  by_cases h:p.pos<q
  ·rw [if_pos h,if_pos h,←ih];rfl
  ·rw [if_neg h,if_neg h]
   by_cases e:p.pos=q
   ·simp [jc,e]
   ·simp [jc,e,zer]
theorem N9 (l:List Sec) (q:Int) (b:List UInt8):wrL l q b=wrR q b l:=by
 induction l with
 | nil=>rfl
 | cons p l ih =>
  unfold wrL wrR
  rw [Dv]
  by_cases h:p.pos<q
  ·rw [if_pos h,if_pos h,←ih]
   unfold wrL
   have e:jc (p :: l) q (nth l q+1)=jc l q (nth l q):=rfl
   rw [e]
   split<;>rfl
  ·rw [if_neg h,if_neg h]
   by_cases e:p.pos=q
   ·simp [jc,e,twL]
   ·simp [jc,e,twL]
theorem IV (l:List Sec) (q:Int):rdR (twL l) q=rdR l q:=by
 induction l with
 | nil=>rfl
 | cons p l ih =>
  show (if p.pos<q then rdR (twL l) q else if p.pos=q then p.bs else zer)=_
  rw [ih];rfl
theorem Sy (q r:Int) (b:List UInt8) : ∀l,rdR (wrR q b l) r=if r=q then b else rdR l r:=by
 intro l
 induction l with
 | nil =>
  show (if q<r then zer else if q=r then b else zer)=_
  by_cases h:r=q
  ·subst h;simp
  ·have h' : ¬q=r:=fun e=>h e.symm
   simp [h,h',rdR]
 | cons p l ih =>
  unfold wrR
  by_cases h:p.pos<q
  ·rw [if_pos h]
   show (if p.pos<r then rdR (wrR q b l) r else if p.pos=r then p.bs else zer)=_
   rw [ih]
   simp only [rdR]
   grind
  ·rw [if_neg h]
   by_cases e:p.pos=q
   ·rw [if_pos e]
    show (if q<r then rdR (twL l) r else if q=r then b else zer)=_
    rw [IV]
    simp only [rdR]
    grind
   ·rw [if_neg e]
    show (if q<r then rdR (twL (p :: l)) r else if q=r then b else zer)=_
    rw [IV]
    simp only [rdR]
    grind
theorem P8 (q:Int) (b:List UInt8) (hq:q<6146) (hb:b.length=128) : ∀(l:List Sec) (a:Int),a<q→ascS a l=true→ascS a (wrR q b l)=true:=by
 intro l
 induction l with
 | nil=>intro a ha _;simp [wrR,ascS,newS,hb];omega
 | cons p l ih =>
  intro a ha h
  have h':=h
  simp [ascS] at h
  have u1:=h.1.1.1
  have u2:=h.1.1.2
  have u3:=h.1.2
  unfold wrR
  by_cases h1:p.pos<q
  ·rw [if_pos h1]
   have:=ih p.pos h1 h.2
   simp [ascS,twS,this,u3]
   exact ⟨decide_eq_false (by omega),by omega⟩
  ·rw [if_neg h1]
   by_cases e:p.pos=q
   ·rw [if_pos e]
    have h3:ascS q (twL l)=true:=by rw [z5,←e];exact h.2
    simp [ascS,newS,hb,h3]
    exact ⟨decide_eq_false (by omega),by omega⟩
   ·rw [if_neg e]
    have h3:ascS p.pos (twL l)=true:=by rw [z5];exact h.2
    simp [ascS,newS,twS,hb,h3,u3]
    exact ⟨⟨decide_eq_false (by omega),by omega⟩,decide_eq_false (by omega),by omega⟩
theorem RL (q:Int) (b:List UInt8) : ∀(l:List Sec),∀s∈wrR q b l,w9 s:=by
 have hn:w9 (newS q b):=Sl.mk _ _
 intro l
 induction l with
 | nil=>intro s hs;simp [wrR] at hs;subst hs;exact hn
 | cons p l ih =>
  intro s hs
  unfold wrR at hs
  split at hs
  ·rcases List.mem_cons.1 hs with rfl | hs
   ·exact Sl.mk _ _
   ·exact ih s hs
  ·split at hs
   ·rcases List.mem_cons.1 hs with rfl | hs
    ·exact hn
    ·exact z6 l s hs
   ·rcases List.mem_cons.1 hs with rfl | hs
    ·exact hn
    ·exact z6 (p :: l) s hs
theorem Ob {l:List Sec} {x:AV} (hx:Sl 2 (encS l) x):Sl 2 (encS (twL l)) (vw (twA x l)):=by
 rcases uM hx with ⟨h,e⟩ | h | ⟨h,e⟩
 ·rw [h,e];exact .inl ⟨rfl,rfl⟩
 ·rw [h];exact Sl.mk _ _
 ·rw [h,e];exact .inr ⟨some 0,rfl,by simp⟩
end Go.Proofs.Ytmjkpdknicjjgaa
