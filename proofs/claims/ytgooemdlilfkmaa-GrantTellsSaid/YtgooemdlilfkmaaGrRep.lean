/-
  The arguments' data: grants, bytes. No statement of a seat is proved here.
-/
import Derived.Test.YtgooemdlilfkmaaPolRep
set_option linter.unusedVariables false
set_option linter.unusedSimpArgs false
set_option maxRecDepth 1000000
namespace Go.Proofs.Ytgooemdlilfkmaa
open Go.Ab Go.ChangeShapes Go.WideShapes Go.RowKit
structure Gr where
 user:Int
 lv:UInt8
 cats:UInt32
 ok:Bool
deriving DecidableEq
def Gr.enc(g:Gr):List AV:=[aI g.user,a8 g.lv,a32 g.cats,aB g.ok]
theorem wY:Rep env.P 59 (fun _=>True) Gr.enc:=by
 intro n xs h
 have h:=jQ (P:=env.P) qT h
 obtain⟨m,x,r,rfl,h1,y,r',rfl,h2,rfl⟩:=h
 obtain⟨i,_,rfl⟩:=mF (P:=env.P) (t:=3) (by simp) _ _ h1
 obtain⟨p,_,rfl⟩:=wZ _ _ h2
 exact⟨⟨i,p.lv,p.cats,p.ok⟩,trivial,rfl⟩
theorem BS{n:Nat}{x:AV}(h:ShV env.P n 59 x) : ∃g:Gr,x = .agg g.enc:=by
 obtain⟨y,rfl,h'⟩:=h.agg (by simp)
 obtain⟨q,_,rfl⟩:=wY _ _ h'
 exact⟨q,rfl⟩
end Go.Proofs.Ytgooemdlilfkmaa
