/-
  Labels, handles, ids, spans, runes: what the functions answer. No statement of a seat is proved here.
-/
import Derived.Test.YtjampffmlnplcaaRnVc1
import Derived.Test.YtjampffmlnplcaaIdMath
set_option linter.unusedVariables false
set_option linter.unusedSimpArgs false
set_option linter.unusedSectionVars false
set_option linter.unnecessarySimpa false
set_option maxRecDepth 100000
namespace Go.Proofs.Ytjampffmlnplcaa
open Go.Ab
attribute [local simp] fK ek eo keep thr fL ew eu ky ku dJ List.take_of_length_le
@[simp] theorem CG(a:UInt8)(b:UInt32):limf env 125 [.agg [a8 a,a32 b]]=some (aI (bad (decide (a≤15)))):=by
 refine aC (fn:=Try.f125) (c:=kZ) rfl (by kernel_rfl) (by kernel_rfl) (by kernel_rfl) (by kernel_rfl) ?_;refine nU _ _ _ fun g=>?_
 simp[ar,au,ae,af,ab, *,k6]
 repeat' ((first | refine pH (fun h=>?_) (fun h=>?_) | refine lX (fun h=>?_) (fun h=>?_) | refine lY (fun h=>?_) (fun h=>?_) | refine lV (fun h=>?_) (fun h=>?_) | refine lW (fun h=>?_) (fun h=>?_))<;>(try simp only[decide_eq_true_eq,decide_eq_false_iff_not,Bool.not_eq_true',Bool.not_eq_false',Bool.and_eq_true,Bool.or_eq_true]at h)<;>(try simp[ar,au,ae,af,ab, *]))
 all_goals (try grind [bad])
@[simp] theorem DD(b:Bool):limf env 112 [aB b]=some (aI (bad b)):=by
 refine aC (fn:=Try.f112) (c:=mI) rfl (by kernel_rfl) (by kernel_rfl) (by kernel_rfl) (by kernel_rfl) ?_;refine pS _ _ _ fun g=>?_
 cases b<;>simp[ar,au,ae,af,ab, *,mK,bad]
@[simp] theorem xn(a:UInt8)(b:UInt32)(n:UInt8):limf env 113 [.agg [a8 a,a32 b,a8 n]]=some (aI (bad (qp ⟨a,b,n⟩))):=by
 refine aC (fn:=Try.f113) (c:=ia) rfl (by kernel_rfl) (by kernel_rfl) (by kernel_rfl) (by kernel_rfl) ?_;refine lx _ _ _ fun g=>?_
 simp[ar,au,ae,af,ab, *,ic,qp]
 repeat' ((first | refine pH (fun h=>?_) (fun h=>?_) | refine lX (fun h=>?_) (fun h=>?_) | refine lY (fun h=>?_) (fun h=>?_) | refine lV (fun h=>?_) (fun h=>?_) | refine lW (fun h=>?_) (fun h=>?_))<;>(try simp only[decide_eq_true_eq,decide_eq_false_iff_not,Bool.not_eq_true',Bool.not_eq_false',Bool.and_eq_true,Bool.or_eq_true]at h)<;>(try simp[ar,au,ae,af,ab, *]))
@[simp] theorem CH(a:UInt8)(b:UInt32)(n:UInt8)(k:Int):limf env 77 [.agg [a8 a,a32 b,a8 n,aI k]]=some (aI (bad (idB ⟨⟨a,b,n⟩,k⟩))):=by
 refine aC (fn:=Try.f77) (c:=mJ) rfl (by kernel_rfl) (by kernel_rfl) (by kernel_rfl) (by kernel_rfl) ?_;refine pT _ _ _ fun g=>?_
 simp[ar,au,ae,af,ab, *,mL,idB]
 repeat' ((first | refine pH (fun h=>?_) (fun h=>?_) | refine lX (fun h=>?_) (fun h=>?_) | refine lY (fun h=>?_) (fun h=>?_) | refine lV (fun h=>?_) (fun h=>?_) | refine lW (fun h=>?_) (fun h=>?_))<;>(try simp only[decide_eq_true_eq,decide_eq_false_iff_not,Bool.not_eq_true',Bool.not_eq_false',Bool.and_eq_true,Bool.or_eq_true]at h)<;>(try simp[ar,au,ae,af,ab, *]))
@[simp] theorem zu(a:UInt8)(b:UInt32)(n:UInt8)(k m:Int):limf env 78 [.agg [a8 a,a32 b,a8 n,aI k,aI m]]=some (aI (bad (fm ⟨⟨⟨a,b,n⟩,k⟩,m⟩))):=by
 refine aC (fn:=Try.f78) (c:=jE) rfl (by kernel_rfl) (by kernel_rfl) (by kernel_rfl) (by kernel_rfl) ?_;refine mP _ _ _ fun g=>?_
 cases hb:idB ⟨⟨a,b,n⟩,k⟩ with
 | false=>simp[ar,au,ae,af,ab, *,dz,fm]
 | true =>
  have hn:=zU hb
  simp only at hn
  by_cases h1:1≤m
  ·by_cases h2:m≤64
   ·have w1:=IntWalk.i64_in (k+m) (by omega)
    have w2:=IntWalk.i64_in (k+m - 1) (by omega)
    simp[ar,au,ae,af,ab, *,dz,fm]
   ·simp[ar,au,ae,af,ab, *,dz,fm]
  ·simp[ar,au,ae,af,ab, *,dz,fm]
@[simp] theorem Ev(a:UInt8)(b:UInt32)(n:UInt8)(k m:Int):limf env 92 [.agg [a8 a,a32 b,a8 n,aI k],aI m]=some (.agg [a8 a,a32 b,a8 n,aI (IntKind.i64.wrap (k+m))]):=by
 refine aC (fn:=Try.f92) (c:=nN) rfl (by kernel_rfl) (by kernel_rfl) (by kernel_rfl) (by kernel_rfl) ?_;refine qT _ _ _ _ fun g=>?_
 simp[ar,au,ae,af,ab, *,nP]
def atE(s:Spn)(m:Int):Int:=if fm s then (if m<0∨s.many≤m then 2 else 0) else 8
@[simp] theorem zt(a:UInt8)(b:UInt32)(n:UInt8)(k m j:Int):limf env 74 [.agg [a8 a,a32 b,a8 n,aI k,aI m],aI j] =
 some (if atE ⟨⟨⟨a,b,n⟩,k⟩,m⟩ j=0 then .tup [.agg [a8 a,a32 b,a8 n,aI (k+j)],aI 0] else .tup [.agg [a8 0,a32 0,a8 0,aI 0],aI (atE ⟨⟨⟨a,b,n⟩,k⟩,m⟩ j)]):=by
 refine aC (fn:=Try.f74) (c:=qH) rfl (by kernel_rfl) (by kernel_rfl) (by kernel_rfl) (by kernel_rfl) ?_;refine uK _ _ _ _ fun g=>?_
 cases hb:fm ⟨⟨⟨a,b,n⟩,k⟩,m⟩ with
 | false=>simp[ar,au,ae,af,ab, *,kD,atE]
 | true =>
  have hn:=dL hb
  simp only at hn
  by_cases h1:j<0
  ·simp[ar,au,ae,af,ab, *,kD,atE]
  ·by_cases h2:m≤j
   ·simp[ar,au,ae,af,ab, *,kD,atE]
   ·have w1:=IntWalk.i64_in (k+j) (by omega)
    simp[ar,au,ae,af,ab, *,kD,atE]
end Go.Proofs.Ytjampffmlnplcaa
