/-
  Policies compared, and a label's quota by the document: what these functions answer. No statement of a seat is proved here.
-/
import Derived.Test.YtgooemdlilfkmaaPolRef2
set_option linter.unusedVariables false
set_option linter.unusedSimpArgs false
set_option linter.unusedSectionVars false
set_option linter.unnecessarySimpa false
set_option maxRecDepth 100000
namespace Go.Proofs.Ytgooemdlilfkmaa
open Go.Ab
attribute [local simp] cA bA keep thr
section
variable{xu xq:AV}{us:List Clear}{qs:List Quota}{gr:Int}(hu:Sl 3 (av us) xu)(hq:Sl 5 (ay qs) xq)(hql:qs.length<4611686018427387904)(hul:us.length<4611686018427387904)
include hu hq hql hul
end
theorem Clear.eq_iff(a b:Clear):a=b↔(a.lv=b.lv∧a.cats=b.cats)∧a.ok=b.ok:=by
 cases a;cases b;simp[and_assoc]
theorem Quota.eq_iff(a b:Quota):a=b↔(a.lv=b.lv∧a.cats=b.cats)∧a.opens=b.opens∧a.ops=b.ops∧a.cells=b.cells:=by
 cases a;cases b;simp[and_assoc]
section
variable{xa xb:AV}{cs ds:List Clear}(ha:Sl 3 (av cs) xa)(hb:Sl 3 (av ds) xb)(hal:cs.length<4611686018427387904)(hlen:cs.length=ds.length)
include ha hb hal hlen
end
section
variable{xa xb:AV}{cs ds:List Quota}(ha:Sl 5 (ay cs) xa)(hb:Sl 5 (ay ds) xb)(hal:cs.length<4611686018427387904)(hlen:cs.length=ds.length)
include ha hb hal hlen
end
end Go.Proofs.Ytgooemdlilfkmaa
