/-
  Labels: what the functions answer. No statement of a seat is proved here.
-/
import Derived.Test.YtgooemdlilfkmaaGtVc
import Derived.Test.YtgooemdlilfkmaaPolMath
import Derived.Test.YtgooemdlilfkmaaAbsRules
set_option linter.unusedVariables false
set_option linter.unusedSimpArgs false
set_option maxRecDepth 100000
namespace Go.Proofs.Ytgooemdlilfkmaa
open Go.Ab
attribute [local simp] cA bA keep thr
@[simp] theorem AT(a:UInt8)(b:UInt32):limf env 51 [.agg [a8 a,a32 b]]=some (aI (p6 a)):=by
 refine aH (fn:=Try.f51) (c:=kG) rfl (by kernel_rfl) (by kernel_rfl) (by kernel_rfl) (by kernel_rfl) ?_;refine ni _ _ _ fun g=>?_
 simp[ae,af,ab,ad,aa, *,kM]
 repeat' ((first | refine jM (fun h=>?_) (fun h=>?_) | refine gn (fun h=>?_) (fun h=>?_) | refine gp (fun h=>?_) (fun h=>?_) | refine gl (fun h=>?_) (fun h=>?_) | refine gm (fun h=>?_) (fun h=>?_))<;>(try simp only[decide_eq_true_eq,decide_eq_false_iff_not,Bool.not_eq_true',Bool.not_eq_false',Bool.and_eq_true,Bool.or_eq_true]at h)<;>(try simp[ae,af,ab,ad,aa, *,p6]))
@[simp] theorem BY(a:UInt8)(b:UInt32)(c:UInt8)(d:UInt32):limf env 21 [.agg [a8 a,a32 b],.agg [a8 c,a32 d]]=some (aB (qk a b c d)):=by
 refine aH (fn:=Try.f21) (c:=kH) rfl (by kernel_rfl) (by kernel_rfl) (by kernel_rfl) (by kernel_rfl) ?_;refine nj _ _ _ _ fun g=>?_
 simp[ae,af,ab,ad,aa, *,kN,fH,eqA,eqFs]
 repeat' ((first | refine jM (fun h=>?_) (fun h=>?_) | refine gn (fun h=>?_) (fun h=>?_) | refine gp (fun h=>?_) (fun h=>?_) | refine gl (fun h=>?_) (fun h=>?_) | refine gm (fun h=>?_) (fun h=>?_))<;>(try simp only[decide_eq_true_eq,decide_eq_false_iff_not,Bool.not_eq_true',Bool.not_eq_false',Bool.and_eq_true,Bool.or_eq_true]at h)<;>(try simp[ae,af,ab,ad,aa, *,qk,fH,eqA,eqFs]))
@[simp] theorem BX:limf env 68 []=some (.agg [a8 0,a32 0]):=by
 refine aH (fn:=Try.f68) (c:=kF) rfl (by kernel_rfl) (by kernel_rfl) (by kernel_rfl) (by kernel_rfl) ?_;refine nh _ _ fun g=>?_
 simp[ae,af,ab,ad,aa, *,kL,fH]
@[simp] theorem CU(n m:Int):limf env 49 [aI n,aI m]=some (aB (decide (0≤n)&&decide (n≤m))):=by
 refine aH (fn:=Try.f49) (c:=kD) rfl (by kernel_rfl) (by kernel_rfl) (by kernel_rfl) (by kernel_rfl) ?_;refine nf _ _ _ _ fun g=>?_
 simp[ae,af,ab,ad,aa, *,kJ]
 repeat' ((first | refine jM (fun h=>?_) (fun h=>?_) | refine gn (fun h=>?_) (fun h=>?_) | refine gp (fun h=>?_) (fun h=>?_) | refine gl (fun h=>?_) (fun h=>?_) | refine gm (fun h=>?_) (fun h=>?_))<;>(try simp only[decide_eq_true_eq,decide_eq_false_iff_not,Bool.not_eq_true',Bool.not_eq_false',Bool.and_eq_true,Bool.or_eq_true]at h)<;>(try simp[ae,af,ab,ad,aa, *]))
@[simp] theorem CY(a:UInt8)(b:UInt32):limf env 55 [.agg [a8 a,a32 b]]=some (aB (decide (a≤15))):=by
 refine aH (fn:=Try.f55) (c:=fM) rfl (by kernel_rfl) (by kernel_rfl) (by kernel_rfl) (by kernel_rfl) ?_;refine jD _ _ _ fun g=>?_
 simp[ae,af,ab,ad,aa, *,fQ]
@[simp] theorem BV(v:UInt8)(c:UInt32)(ok:Bool):limf env 50 [.agg [a8 v,a32 c,aB ok]]=some (aB (jf v c ok)):=by
 refine aH (fn:=Try.f50) (c:=j2) rfl (by kernel_rfl) (by kernel_rfl) (by kernel_rfl) (by kernel_rfl) ?_;refine mw _ _ _ fun g=>?_
 simp[ae,af,ab,ad,aa, *,j5,fH,eqA,eqFs]
 repeat' ((first | refine jM (fun h=>?_) (fun h=>?_) | refine gn (fun h=>?_) (fun h=>?_) | refine gp (fun h=>?_) (fun h=>?_) | refine gl (fun h=>?_) (fun h=>?_) | refine gm (fun h=>?_) (fun h=>?_))<;>(try simp only[decide_eq_true_eq,decide_eq_false_iff_not,Bool.not_eq_true',Bool.not_eq_false',Bool.and_eq_true,Bool.or_eq_true]at h)<;>(try simp[ae,af,ab,ad,aa, *,jf,fH,eqA,eqFs]))
@[simp] theorem xC(v:UInt8)(c:UInt32)(ok:Bool):limf env 72 [.agg [a8 v,a32 c,aB ok]]=some (aB (jf v c ok)):=by
 refine aH (fn:=Try.f72) (c:=eg) rfl (by kernel_rfl) (by kernel_rfl) (by kernel_rfl) (by kernel_rfl) ?_;refine gM _ _ _ fun g=>?_
 simp[ae,af,ab,ad,aa, *,ej,fH,eqA,eqFs]
 repeat' ((first | refine jM (fun h=>?_) (fun h=>?_) | refine gn (fun h=>?_) (fun h=>?_) | refine gp (fun h=>?_) (fun h=>?_) | refine gl (fun h=>?_) (fun h=>?_) | refine gm (fun h=>?_) (fun h=>?_))<;>(try simp only[decide_eq_true_eq,decide_eq_false_iff_not,Bool.not_eq_true',Bool.not_eq_false',Bool.and_eq_true,Bool.or_eq_true]at h)<;>(try simp[ae,af,ab,ad,aa, *,jf,fH,eqA,eqFs]))
end Go.Proofs.Ytgooemdlilfkmaa
