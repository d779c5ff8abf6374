/-
  The arguments' data: operations whose runes are of their type's range, of bounded length. No statement of a seat is proved here.
-/
import Derived.Test.YtjampffmlnplcaaIdRep
import Derived.Test.YtjampffmlnplcaaOpMath
set_option linter.unusedVariables false
set_option linter.unusedSimpArgs false
set_option maxRecDepth 1000000
namespace Go.Proofs.Ytjampffmlnplcaa
open Go.Ab Go.ChangeShapes Go.WideShapes Go.RowKit
def B7(p:Opn × AV):List AV:=[a8 p.1.kind,a8 p.1.h.lv,a32 p.1.h.cats,a8 p.1.h.num,aI p.1.serial,a8 p.1.s.f.h.lv,a32 p.1.s.f.h.cats,a8 p.1.s.f.h.num,aI p.1.s.f.n,aI p.1.s.many,
 a8 p.1.a.h.lv,a32 p.1.a.h.cats,a8 p.1.a.h.num,aI p.1.a.n,a8 p.1.to.lv,a32 p.1.to.cats,p.2]
theorem xr:Rep env.P 49 (fun p:Opn × AV=>Sl 1 (rows p.1.l) p.2 ∧∀a∈p.1.l, -2147483648≤a∧a≤2147483647) B7:=by
 intro n xs h
 have h:=iI (P:=env.P) sb h
 obtain⟨m,x1,r1,rfl,h1,x2,r2,rfl,h2,x3,r3,rfl,h3,x4,r4,rfl,h4,x5,r5,rfl,h5,x6,r6,rfl,h6,x7,r7,rfl,h7,rfl⟩:=h
 obtain⟨k,_,rfl⟩:=zA (P:=env.P) (t:=5) (by simp) _ _ h1
 obtain⟨hh,_,rfl⟩:=vn _ _ h2
 obtain⟨se,_,rfl⟩:=o2 (P:=env.P) (t:=3) (by simp) _ _ h3
 obtain⟨s,_,rfl⟩:=vj _ _ h4
 obtain⟨a,_,rfl⟩:=rF _ _ h5
 obtain⟨t,_,rfl⟩:=vk _ _ h6
 obtain⟨l,y,hr,rfl,sl⟩:=sJ h7
 exact⟨(⟨k,hh,se,s,a,⟨t.1,t.2⟩,l⟩,y),⟨sl,hr⟩,rfl⟩
theorem Bj{n:Nat}{x:AV}(h:ShV env.P n 49 x) : ∃p:Opn × AV,(Sl 1 (rows p.1.l) p.2 ∧∀a∈p.1.l, -2147483648≤a∧a≤2147483647)∧x = .agg (B7 p):=by
 obtain⟨y,rfl,h'⟩:=h.agg (by simp)
 obtain⟨q,hq,rfl⟩:=xr _ _ h'
 exact⟨q,hq,rfl⟩
end Go.Proofs.Ytjampffmlnplcaa
