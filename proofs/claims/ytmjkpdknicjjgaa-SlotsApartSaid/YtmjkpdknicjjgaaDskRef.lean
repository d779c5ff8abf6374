/-
  Disks by the document: what the functions answer. No statement of a seat is proved here.
-/
import Derived.Test.YtmjkpdknicjjgaaDskPut
set_option linter.unusedVariables false
set_option linter.unusedSimpArgs false
set_option linter.unusedSectionVars false
set_option linter.unnecessarySimpa false
set_option maxRecDepth 100000
namespace Go.Proofs.Ytmjkpdknicjjgaa
open Go.Ab
attribute [local simp] bU bB bD bC keep thr cg bA bE ek ej bW cf aO cW List.take_of_length_le
theorem KE {E:Env} {f:FuncId} {fn:Func} {c:Code} {args:List AV} {R:AV→Prop} (hsp:E.spec f args=none) (hal:E.allowed f=true) (hf:E.P.funcs[f]?=some fn) (hc:fn.body=some c) (hl:Nat.ble args.length fn.ntmps=true)
 (h:GoL E fn 0 [.code c] (DR 0 args) [] fun x H => ∃y,iq E f x H y∧R y) : ∃y,limf E f args=some y∧R y:=by
 obtain ⟨x,H,⟨y,hQ,hR⟩,n,hn⟩:=h.h (fun _=>AV.undef) args fun i=>(zW args i).symm
 refine ⟨y,tp.2 ⟨n,fun m hm=>?_⟩,hR⟩
 obtain ⟨st,h1,h2,h3⟩:=hn m hm
 subst h3
 unfold cM
 rw [hsp]
 unfold ql
 simp only [hal,if_true,hf,hc,if_pos (Nat.le_of_ble_eq_true hl),h1,h2,Option.map_some]
 unfold iq at hQ
 split
 ·rename_i h1
  rw [if_pos h1] at hQ
  rw [if_pos hQ.1]
  exact hQ.2
 ·rename_i h1
  rw [if_neg h1] at hQ
  exact hQ
section
variable {l:List Sec} {x:AV} {st lf:Int} {dd:Bool} (hx:Sl 2 (encS l) x) (hok : ∀s∈l,sU s)
include hx hok
theorem FM {r1:Ref} {Q:AV→Heap→Prop} {H:Heap} (h1:H.get r1=some ⟨4,[dsk x st lf dd],false,false⟩) (hQ : ∀t:Bool,(t=false→l.length≤200)→Q (aB t) H) : ∀(j k:Nat) (n:Int),k+j=300→k≤l.length→0≤n→n≤10000 * k →
 GoL env Try.f26 0 c9 [(4,aI k),(1,.ptr r1 0 0),(3,aI n)] H Q:=by
 intro j
 induction j with
 | zero =>
  intro k n hk hkl h0 hn
  refine iC _ _ _ _ _ fun g=>?_
  simp only [dsk] at h1
  obtain rfl:k=300:=by omega
  simp [af,ah,ad,ae,aa, *,da,hx.r]
  repeat' ((first | refine rJ (fun h=>?_) (fun h=>?_) | refine mC (fun h=>?_) (fun h=>?_) | refine mD (fun h=>?_) (fun h=>?_) | refine mA (fun h=>?_) (fun h=>?_) | refine mB (fun h=>?_) (fun h=>?_))<;>(try simp only [decide_eq_true_eq,decide_eq_false_iff_not,Bool.not_eq_true',Bool.not_eq_false',Bool.and_eq_true,Bool.or_eq_true] at h)<;>(try simp [af,ah,ad,ae,aa, *,hx.r]))
  all_goals first | exact hQ true (fun h=>by cases h) | exact hQ _ (fun _=>by omega)
 | succ j ih =>
  intro k n hk hkl h0 hn
  have e3:=IntWalk.i64_in ((k:Int)+1) (by omega)
  refine iC _ _ _ _ _ fun g=>?_
  simp only [dsk] at h1
  have k3:(k:Int)<300:=by omega
  by_cases hlt:k<l.length
  ·have hp:=(hok l[k] (List.getElem_mem _)).r
   have hrd:ee (encS l) k 1 1 false=some l[k].av:=by simp [encS,hlt,Sec.enc]
   simp [af,ah,ad,ae,aa, *,da,hx.r,hx.idx]
   obtain ⟨m,hm⟩ : ∃m:Int,m=if 10000<(l[k].bs.length:Int) then 10000 else (l[k].bs.length:Int):=⟨_,rfl⟩
   have hm0:0≤m∧m≤10000:=by rw [hm];split<;>omega
   have e4:=IntWalk.i64_in (n+m) (by omega)
   rw [←hm,e4]
   have h5:=ih (k+1) (n+m) (by omega) (by omega) (by omega) (by omega)
   rw [show ((k+1:Nat):Int)=(k:Int)+1 from by omega] at h5
   exact h5
  ·simp [af,ah,ad,ae,aa, *,da,hx.r,hx.idx]
   repeat' ((first | refine rJ (fun h=>?_) (fun h=>?_) | refine mC (fun h=>?_) (fun h=>?_) | refine mD (fun h=>?_) (fun h=>?_) | refine mA (fun h=>?_) (fun h=>?_) | refine mB (fun h=>?_) (fun h=>?_))<;>(try simp only [decide_eq_true_eq,decide_eq_false_iff_not,Bool.not_eq_true',Bool.not_eq_false',Bool.and_eq_true,Bool.or_eq_true] at h)<;>(try simp [af,ah,ad,ae,aa, *,hx.r]))
   all_goals first | exact hQ true (fun h=>by cases h) | exact hQ _ (fun _=>by omega)
theorem MT : ∃t:Bool,limf env 26 [dsk x st lf dd]=some (aB t)∧(t=false→l.length≤200):=by
 have h : ∃y,limf env 26 [dsk x st lf dd]=some y ∧ ∃t:Bool,y=aB t∧(t=false→l.length≤200):=by
  refine KE (fn:=Try.f26) (c:=eB) (by kernel_rfl) (by kernel_rfl) (by kernel_rfl) (by kernel_rfl) (by kernel_rfl) ?_
  refine n8 _ _ _ fun g=>?_
  suffices h : ∀Q:AV→Heap→Prop,(∀t:Bool,(t=false→l.length≤200)→Q (aB t) [(⟨0,1,0,0⟩,some ⟨4,[dsk x st lf dd],false,false⟩)])→eC g (dsk x st lf dd) [] Q from
   h _ fun t ht=>⟨aB t,by simp,t,rfl,ht⟩
  intro Q hQ
  have hl:=FM (st:=st) (lf:=lf) (dd:=dd) hx hok (r1:=⟨0,1,0,0⟩) (H:=[(⟨0,1,0,0⟩,some ⟨4,[dsk x st lf dd],false,false⟩)]) (Q:=Q) (by simp) hQ 300 0 0 (by omega) (by omega) (by omega) (by omega)
  clear hQ
  simp only [dsk] at hl ⊢
  simp [af,ah,ad,ae,aa, *,eC,hx.r]
  exact hl
 obtain ⟨y,h1,t,rfl,h2⟩:=h
 exact ⟨t,h1,h2⟩
end
end Go.Proofs.Ytmjkpdknicjjgaa
