/-
  The arguments' data: steps of a store, and rows of them. No statement of a seat is proved here.
-/
import Derived.Test.YtiidajnodhkidaaGreatMRcRep
import Derived.Test.YtiidajnodhkidaaGreatStDays
set_option linter.unusedVariables false
set_option linter.unusedSimpArgs false
set_option maxRecDepth 1000000
namespace Go.Proofs.YtiidajnodhkidaaGreat
open Go.Ab Go.ChangeShapes Go.WideShapes Go.RowKit
def stpC(s:Stp):List AV:=[a8 s.k]++(rcdC (s.r,s.x)++[aI s.n])
theorem Pr:Rep env.P 63 (fun p:Stp=>Sl 1 (rows p.r.op.l) p.x) stpC:=by
 intro n xs h
 have h:=kn (P:=env.P) E0 h
 obtain⟨m,x1,r1,rfl,h1,x2,r2,rfl,h2,x3,r3,rfl,h3,rfl⟩:=h
 obtain⟨k,_,rfl⟩:=I7 (P:=env.P) (t:=5) (by simp) _ _ h1
 obtain⟨q,hq,rfl⟩:=Pt _ _ h2
 obtain⟨i,_,rfl⟩:=qy (P:=env.P) (t:=3) (by simp) _ _ h3
 exact⟨⟨k,q.1,q.2,i⟩,hq,rfl⟩
theorem OS{n:Nat}{x:AV}(h:ShV env.P n 59 x) : ∃(l:List Stp),(∀p∈l,Sl 1 (rows p.r.op.l) p.x)∧Sl 26 (encT l) x:=by
 obtain⟨l,z,hl,e,s⟩:=FJ (P:=env.P) Ll Lh OM Pr (h.cell (by simp))
 cases e
 exact⟨l,hl,s⟩
end Go.Proofs.YtiidajnodhkidaaGreat
