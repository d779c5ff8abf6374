/-
  The functions of grant: what they answer. No statement of a seat is proved here.
-/
import Derived.Test.YtgooemdlilfkmaaPolFns
import Derived.Test.YtgooemdlilfkmaaAbsRules
set_option linter.unusedVariables false
set_option linter.unusedSimpArgs false
set_option linter.unusedSectionVars false
set_option linter.unnecessarySimpa false
set_option maxRecDepth 100000
namespace Go.Proofs.Ytgooemdlilfkmaa
open Go.Ab
attribute [local simp] cA bA cV fB keep thr iv gv gu lI lH eo List.take_of_length_le
def mayG(user:Int)(v:UInt8)(c:UInt32)(ok:Bool):Bool:=decide (0≤user)&&decide (user<8)&&jf v c ok
@[simp] theorem bI(user:Int)(v:UInt8)(c:UInt32)(ok:Bool):limf env 38 [.agg [aI user,a8 v,a32 c,aB ok]]=some (aI (bad (mayG user v c ok))):=by
 refine aH (fn:=Try.f38) (c:=kI) rfl (by kernel_rfl) (by kernel_rfl) (by kernel_rfl) (by kernel_rfl) ?_;refine nk _ _ _ fun g=>?_
 cases ok
 ·simp[ae,af,ab,ad,aa, *,iG,eqA,eqFs]
  repeat' ((first | refine jM (fun h=>?_) (fun h=>?_) | refine gn (fun h=>?_) (fun h=>?_) | refine gp (fun h=>?_) (fun h=>?_) | refine gl (fun h=>?_) (fun h=>?_) | refine gm (fun h=>?_) (fun h=>?_))<;>(try simp only[decide_eq_true_eq,decide_eq_false_iff_not,Bool.not_eq_true',Bool.not_eq_false',Bool.and_eq_true,Bool.or_eq_true]at h)<;>(try simp[ae,af,ab,ad,aa, *,eqA,eqFs,mayG,jf,bad]))
  all_goals (try grind)
 ·simp[ae,af,ab,ad,aa, *,iG,eqA,eqFs]
  repeat' ((first | refine jM (fun h=>?_) (fun h=>?_) | refine gn (fun h=>?_) (fun h=>?_) | refine gp (fun h=>?_) (fun h=>?_) | refine gl (fun h=>?_) (fun h=>?_) | refine gm (fun h=>?_) (fun h=>?_))<;>(try simp only[decide_eq_true_eq,decide_eq_false_iff_not,Bool.not_eq_true',Bool.not_eq_false',Bool.and_eq_true,Bool.or_eq_true]at h)<;>(try simp[ae,af,ab,ad,aa, *,eqA,eqFs,mayG,jf,bad]))
  all_goals (try grind)
@[simp] theorem oC(user:Int)(v:UInt8)(c:UInt32)(ok:Bool):limf env 63 [.agg [aI user,a8 v,a32 c,aB ok]]=some (aB (mayG user v c ok)):=by
 refine aH (fn:=Try.f63) (c:=fK) rfl (by kernel_rfl) (by kernel_rfl) (by kernel_rfl) (by kernel_rfl) ?_;refine jA _ _ _ fun g=>?_
 simp[ae,af,ab,ad,aa, *,fN]
 repeat' ((first | refine jM (fun h=>?_) (fun h=>?_) | refine gn (fun h=>?_) (fun h=>?_) | refine gp (fun h=>?_) (fun h=>?_) | refine gl (fun h=>?_) (fun h=>?_) | refine gm (fun h=>?_) (fun h=>?_))<;>(try simp only[decide_eq_true_eq,decide_eq_false_iff_not,Bool.not_eq_true',Bool.not_eq_false',Bool.and_eq_true,Bool.or_eq_true]at h)<;>(try simp[ae,af,ab,ad,aa, *,mayG]))
end Go.Proofs.Ytgooemdlilfkmaa
