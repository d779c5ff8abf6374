/-
  The document's functions of policy: what they answer. No statement of a seat is proved here.
-/
import Derived.Test.YtgooemdlilfkmaaPolFns2
set_option linter.unusedVariables false
set_option linter.unusedSimpArgs false
set_option maxRecDepth 100000
namespace Go.Proofs.Ytgooemdlilfkmaa
open Go.Ab
attribute [local simp] cA bA keep thr
section
variable{xu xq:AV}{us:List Clear}{qs:List Quota}{gr:Int}(hu:Sl 3 (av us) xu)(hq:Sl 5 (ay qs) xq)(hql:qs.length<4611686018427387904)(hul:us.length<4611686018427387904)
include hu hq hql hul
end
@[simp] theorem CX(q:Quota):limf env 73 [.agg [a8 q.lv,a32 q.cats,aI q.opens,aI q.ops,aI q.cells]]=some (aB (qOwn q)):=by
 refine aH (fn:=Try.f73) (c:=fL) rfl (by kernel_rfl) (by kernel_rfl) (by kernel_rfl) (by kernel_rfl) ?_;refine jB _ _ _ fun g=>?_
 simp[ae,af,ab,ad,aa, *,fO]
 repeat' ((first | refine jM (fun h=>?_) (fun h=>?_) | refine gn (fun h=>?_) (fun h=>?_) | refine gp (fun h=>?_) (fun h=>?_) | refine gl (fun h=>?_) (fun h=>?_) | refine gm (fun h=>?_) (fun h=>?_))<;>(try simp only[decide_eq_true_eq,decide_eq_false_iff_not,Bool.not_eq_true',Bool.not_eq_false',Bool.and_eq_true,Bool.or_eq_true]at h)<;>(try simp[ae,af,ab,ad,aa, *,qOwn]))
@[simp] theorem AS(a:UInt8)(b:UInt32)(c:UInt8)(d:UInt32):limf env 74 [.agg [a8 a,a32 b],.agg [a8 c,a32 d]]=some (aB (qk a b c d)):=by
 refine aH (fn:=Try.f74) (c:=fg) rfl (by kernel_rfl) (by kernel_rfl) (by kernel_rfl) (by kernel_rfl) ?_;refine iM _ _ _ _ fun g=>?_
 have h1:=a.toNat_lt
 have h2:=b.toNat_lt
 have h3:=c.toNat_lt
 have h4:=d.toNat_lt
 have e1:IntKind.i64.wrap ((a.toNat:Int) * 4294967296)=(a.toNat:Int) * 4294967296:=IntWalk.i64_in _ (by omega)
 have e2:IntKind.i64.wrap ((c.toNat:Int) * 4294967296)=(c.toNat:Int) * 4294967296:=IntWalk.i64_in _ (by omega)
 have e3:IntKind.i64.wrap ((a.toNat:Int) * 4294967296+b.toNat)=(a.toNat:Int) * 4294967296+b.toNat:=IntWalk.i64_in _ (by omega)
 have e4:IntKind.i64.wrap ((c.toNat:Int) * 4294967296+d.toNat)=(c.toNat:Int) * 4294967296+d.toNat:=IntWalk.i64_in _ (by omega)
 simp[ae,af,ab,ad,aa, *,fm,qk]
 rw[Bool.eq_iff_iff]
 simp only[Bool.or_eq_true,Bool.and_eq_true,decide_eq_true_eq,UInt8.lt_iff_toNat_lt,UInt32.lt_iff_toNat_lt,←UInt8.toNat_inj]
 omega
end Go.Proofs.Ytgooemdlilfkmaa
