/-
  Handles, ids, spans: what the functions compute. No statement of a seat is proved here.
-/
import Derived.Test.YtmjkpdknicjjgaaAbsRules
import Derived.Test.YtmjkpdknicjjgaaLgVc1
set_option linter.unusedVariables false
set_option linter.unusedSimpArgs false
namespace Go.Ab
def bad (b:Bool):Int:=if b then 0 else 8
@[simp] theorem RG (b:Bool):bad b=0↔b=true:=by cases b<;>simp [bad]
@[simp] theorem uw:bad true=0:=id rfl
@[simp] theorem Bg:bad false=8:=id rfl
structure Han where
 lv:UInt8
 cats:UInt32
 num:UInt8
deriving DecidableEq
structure Idd where
 h:Han
 n:Int
deriving DecidableEq
structure Spn where
 f:Idd
 many:Int
deriving DecidableEq
def gA (h:Han):Bool:=decide (h.lv≤15)&&decide (h.num<8)
def idB (i:Idd):Bool:=gA i.h&&(decide (1≤i.n)&&decide (i.n≤1099511627776))
def o4 (s:Spn):Bool:=idB s.f&&(decide (1≤s.many)&&(decide (s.many≤64)&&decide (s.f.n+s.many - 1≤1099511627776)))
theorem G2 {i:Idd} (h:idB i=true):1≤i.n∧i.n≤1099511627776:=by
 simp [idB] at h;exact h.2
theorem FC {s:Spn} (h:o4 s=true):1≤s.f.n∧1≤s.many∧s.many≤64∧s.f.n+s.many - 1≤1099511627776:=by
 simp [o4] at h
 have:=G2 h.1
 exact ⟨this.1,h.2.1,h.2.2.1,h.2.2.2⟩
theorem Iv {s:Spn} (h:o4 s=true):idB s.f=true:=by
 simp [o4] at h;exact h.1
def nR:Idd:=⟨⟨0,0,0⟩,0⟩
def aR (n:Int):AV := .v (.int .i32 n)
def rows (l:List Int):List AV:=l.map aR
@[simp] theorem Q2 (l:List Int):(rows l).length=l.length:=by simp [rows]
def qO (n:Int):Bool:=decide (n = -1)||(decide (0≤n)&&decide (n<55296))||(decide (57343<n)&&decide (n≤1114111))
def rowB (l:List Int):Bool:=decide (l.length≤64)&&l.all qO
def rowE (l:List Int):Int:=if 64<l.length then 4 else if l.all qO then 0 else 8
@[simp] theorem Re (n:Int):(aR n).cells=[aR n]:=id rfl
@[simp] theorem TT (n:Int):(aR n).one=true:=id rfl
@[simp] theorem RP (g:Get) (k:Nat) (n:Int):view g (k+1) (aR n)=some (aR n):=id rfl
theorem Aj (l:List Int):rowE l=0↔rowB l=true:=by
 unfold rowE rowB
 by_cases h:64<l.length
 ·simp [h,Nat.not_le.2 h]
 ·have h':l.length≤64:=Nat.not_lt.1 h
  rw [if_neg h]
  cases l.all qO<;>simp [h']
end Go.Ab
set_option linter.unusedVariables false
set_option linter.unusedSimpArgs false
set_option linter.unusedSectionVars false
set_option linter.unnecessarySimpa false
set_option maxRecDepth 100000
namespace Go.Proofs.Ytmjkpdknicjjgaa
open Go.Ab
attribute [local simp] bZ bD bI bH keep thr cz bA bJ eL eK bX cy aW cY List.take_of_length_le
@[simp] theorem QZ (a:UInt8) (b:UInt32):limf env 85 [.agg [a8 a,a32 b]]=some (aI (bad (decide (a≤15)))):=by
 refine aH (fn:=Try.f85) (c:=na) rfl (by kernel_rfl) (by kernel_rfl) (by kernel_rfl) (by kernel_rfl) ?_;refine wy _ _ _ fun g=>?_
 simp [af,ah,ad,ae,aa, *,nk]
 repeat' ((first | refine sQ (fun h=>?_) (fun h=>?_) | refine nI (fun h=>?_) (fun h=>?_) | refine nJ (fun h=>?_) (fun h=>?_) | refine nG (fun h=>?_) (fun h=>?_) | refine nH (fun h=>?_) (fun h=>?_))<;>(try simp only [decide_eq_true_eq,decide_eq_false_iff_not,Bool.not_eq_true',Bool.not_eq_false',Bool.and_eq_true,Bool.or_eq_true] at h)<;>(try simp [af,ah,ad,ae,aa, *]))
 all_goals (try grind [bad])
@[simp] theorem Sr (b:Bool):limf env 84 [aB b]=some (aI (bad b)):=by
 refine aH (fn:=Try.f84) (c:=pD) rfl (by kernel_rfl) (by kernel_rfl) (by kernel_rfl) (by kernel_rfl) ?_;refine zY _ _ _ fun g=>?_
 cases b<;>simp [af,ah,ad,ae,aa, *,pL,bad]
@[simp] theorem IQ (a:UInt8) (b:UInt32) (n:UInt8):limf env 71 [.agg [a8 a,a32 b,a8 n]]=some (aI (bad (gA ⟨a,b,n⟩))):=by
 refine aH (fn:=Try.f71) (c:=jM) rfl (by kernel_rfl) (by kernel_rfl) (by kernel_rfl) (by kernel_rfl) ?_;refine rF _ _ _ fun g=>?_
 simp [af,ah,ad,ae,aa, *,jQ,gA]
 repeat' ((first | refine sQ (fun h=>?_) (fun h=>?_) | refine nI (fun h=>?_) (fun h=>?_) | refine nJ (fun h=>?_) (fun h=>?_) | refine nG (fun h=>?_) (fun h=>?_) | refine nH (fun h=>?_) (fun h=>?_))<;>(try simp only [decide_eq_true_eq,decide_eq_false_iff_not,Bool.not_eq_true',Bool.not_eq_false',Bool.and_eq_true,Bool.or_eq_true] at h)<;>(try simp [af,ah,ad,ae,aa, *]))
@[simp] theorem Q0 (a:UInt8) (b:UInt32) (n:UInt8) (k:Int):limf env 88 [.agg [a8 a,a32 b,a8 n,aI k]]=some (aI (bad (idB ⟨⟨a,b,n⟩,k⟩))):=by
 refine aH (fn:=Try.f88) (c:=pE) rfl (by kernel_rfl) (by kernel_rfl) (by kernel_rfl) (by kernel_rfl) ?_;refine zZ _ _ _ fun g=>?_
 simp [af,ah,ad,ae,aa, *,pM,idB]
 repeat' ((first | refine sQ (fun h=>?_) (fun h=>?_) | refine nI (fun h=>?_) (fun h=>?_) | refine nJ (fun h=>?_) (fun h=>?_) | refine nG (fun h=>?_) (fun h=>?_) | refine nH (fun h=>?_) (fun h=>?_))<;>(try simp only [decide_eq_true_eq,decide_eq_false_iff_not,Bool.not_eq_true',Bool.not_eq_false',Bool.and_eq_true,Bool.or_eq_true] at h)<;>(try simp [af,ah,ad,ae,aa, *]))
@[simp] theorem LG (a:UInt8) (b:UInt32) (n:UInt8) (k m:Int):limf env 86 [.agg [a8 a,a32 b,a8 n,aI k,aI m]]=some (aI (bad (o4 ⟨⟨⟨a,b,n⟩,k⟩,m⟩))):=by
 refine aH (fn:=Try.f86) (c:=k8) rfl (by kernel_rfl) (by kernel_rfl) (by kernel_rfl) (by kernel_rfl) ?_;refine tN _ _ _ fun g=>?_
 cases hb:idB ⟨⟨a,b,n⟩,k⟩ with
 | false=>simp [af,ah,ad,ae,aa, *,fw,o4]
 | true =>
  have hn:=G2 hb
  simp only at hn
  by_cases h1:1≤m
  ·by_cases h2:m≤64
   ·have w1:=IntWalk.i64_in (k+m) (by omega)
    have w2:=IntWalk.i64_in (k+m - 1) (by omega)
    simp [af,ah,ad,ae,aa, *,fw,o4]
   ·simp [af,ah,ad,ae,aa, *,fw,o4]
  ·simp [af,ah,ad,ae,aa, *,fw,o4]
end Go.Proofs.Ytmjkpdknicjjgaa
