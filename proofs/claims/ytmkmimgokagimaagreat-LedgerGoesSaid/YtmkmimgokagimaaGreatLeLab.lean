/-
  Labels: what the functions answer. No statement of a seat is proved here.
-/
import Derived.Test.YtmkmimgokagimaaGreatLeVc7
import Derived.Test.YtmkmimgokagimaaGreatLeVc1
import Derived.Test.YtmkmimgokagimaaGreatMLePol
import Derived.Test.YtmkmimgokagimaaGreatAbsRules
set_option linter.unusedVariables false
set_option linter.unusedSimpArgs false
set_option maxRecDepth 100000
namespace Go.Proofs.YtmkmimgokagimaaGreat
open Go.Ab
attribute [local simp] bx aZ keep thr
@[simp] theorem Fq(a:UInt8)(b:UInt32):limf env 76 [.agg [a8 a,a32 b]]=some (aI (vX a)):=by
 refine aA (fn:=Tryz.f76) (c:=ny) rfl (by kernel_rfl) (by kernel_rfl) (by kernel_rfl) (by kernel_rfl) ?_;refine qM _ _ _ fun g=>?_
 simp[af,ah,ad,ae,ab, *,nE]
 repeat' ((first | refine mP (fun h=>?_) (fun h=>?_) | refine kD (fun h=>?_) (fun h=>?_) | refine kE (fun h=>?_) (fun h=>?_) | refine kB (fun h=>?_) (fun h=>?_) | refine kC (fun h=>?_) (fun h=>?_))<;>(try simp only[decide_eq_true_eq,decide_eq_false_iff_not,Bool.not_eq_true',Bool.not_eq_false',Bool.and_eq_true,Bool.or_eq_true]at h)<;>(try simp[af,ah,ad,ae,ab, *,vX]))
@[simp] theorem At(a:UInt8)(b:UInt32)(c:UInt8)(d:UInt32):limf env 47 [.agg [a8 a,a32 b],.agg [a8 c,a32 d]]=some (aB (leqB a b c d)):=by
 refine aA (fn:=Tryz.f47) (c:=pZ) rfl (by kernel_rfl) (by kernel_rfl) (by kernel_rfl) (by kernel_rfl) ?_;refine tO _ _ _ _ fun g=>?_
 simp[af,ah,ad,ae,ab, *,qi]
 repeat' ((first | refine mP (fun h=>?_) (fun h=>?_) | refine kD (fun h=>?_) (fun h=>?_) | refine kE (fun h=>?_) (fun h=>?_) | refine kB (fun h=>?_) (fun h=>?_) | refine kC (fun h=>?_) (fun h=>?_))<;>(try simp only[decide_eq_true_eq,decide_eq_false_iff_not,Bool.not_eq_true',Bool.not_eq_false',Bool.and_eq_true,Bool.or_eq_true]at h)<;>(try simp[af,ah,ad,ae,ab, *,leqB]))
@[simp] theorem Sb(a:UInt8)(b:UInt32)(c:UInt8)(d:UInt32):limf env 169 [.agg [a8 a,a32 b],.agg [a8 c,a32 d]]=some (aB (Ha a b c d)):=by
 refine aA (fn:=Tryz.f169) (c:=q7) rfl (by kernel_rfl) (by kernel_rfl) (by kernel_rfl) (by kernel_rfl) ?_;refine w8 _ _ _ _ fun g=>?_
 simp[af,ah,ad,ae,ab, *,rl,kG,eqA,eqFs]
 repeat' ((first | refine mP (fun h=>?_) (fun h=>?_) | refine kD (fun h=>?_) (fun h=>?_) | refine kE (fun h=>?_) (fun h=>?_) | refine kB (fun h=>?_) (fun h=>?_) | refine kC (fun h=>?_) (fun h=>?_))<;>(try simp only[decide_eq_true_eq,decide_eq_false_iff_not,Bool.not_eq_true',Bool.not_eq_false',Bool.and_eq_true,Bool.or_eq_true]at h)<;>(try simp[af,ah,ad,ae,ab, *,Ha,kG,eqA,eqFs]))
@[simp] theorem K2:limf env 185 []=some (.agg [a8 0,a32 0]):=by
 refine aA (fn:=Tryz.f185) (c:=nx) rfl (by kernel_rfl) (by kernel_rfl) (by kernel_rfl) (by kernel_rfl) ?_;refine qL _ _ fun g=>?_
 simp[af,ah,ad,ae,ab, *,nD,kG]
@[simp] theorem To(n m:Int):limf env 167 [aI n,aI m]=some (aB (decide (0≤n)&&decide (n≤m))):=by
 refine aA (fn:=Tryz.f167) (c:=qY) rfl (by kernel_rfl) (by kernel_rfl) (by kernel_rfl) (by kernel_rfl) ?_;refine wY _ _ _ _ fun g=>?_
 simp[af,ah,ad,ae,ab, *,re]
 repeat' ((first | refine mP (fun h=>?_) (fun h=>?_) | refine kD (fun h=>?_) (fun h=>?_) | refine kE (fun h=>?_) (fun h=>?_) | refine kB (fun h=>?_) (fun h=>?_) | refine kC (fun h=>?_) (fun h=>?_))<;>(try simp only[decide_eq_true_eq,decide_eq_false_iff_not,Bool.not_eq_true',Bool.not_eq_false',Bool.and_eq_true,Bool.or_eq_true]at h)<;>(try simp[af,ah,ad,ae,ab, *]))
@[simp] theorem R6(v:UInt8)(c:UInt32)(ok:Bool):limf env 168 [.agg [a8 v,a32 c,aB ok]]=some (aB (Ds v c ok)):=by
 refine aA (fn:=Tryz.f168) (c:=pT) rfl (by kernel_rfl) (by kernel_rfl) (by kernel_rfl) (by kernel_rfl) ?_;refine vi _ _ _ fun g=>?_
 simp[af,ah,ad,ae,ab, *,qb,kG,eqA,eqFs]
 repeat' ((first | refine mP (fun h=>?_) (fun h=>?_) | refine kD (fun h=>?_) (fun h=>?_) | refine kE (fun h=>?_) (fun h=>?_) | refine kB (fun h=>?_) (fun h=>?_) | refine kC (fun h=>?_) (fun h=>?_))<;>(try simp only[decide_eq_true_eq,decide_eq_false_iff_not,Bool.not_eq_true',Bool.not_eq_false',Bool.and_eq_true,Bool.or_eq_true]at h)<;>(try simp[af,ah,ad,ae,ab, *,Ds,kG,eqA,eqFs]))
end Go.Proofs.YtmkmimgokagimaaGreat
