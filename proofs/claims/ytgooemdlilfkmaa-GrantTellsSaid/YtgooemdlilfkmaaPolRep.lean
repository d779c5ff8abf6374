/-
  The arguments' data: labels, clearances, quotas, policies, grants. No statement of a seat is proved here.
-/
import Derived.Test.YtgooemdlilfkmaaPolMath
import Derived.Test.YtgooemdlilfkmaaGtTy
set_option linter.unusedVariables false
set_option linter.unusedSimpArgs false
set_option maxRecDepth 1000000
namespace Go.Proofs.Ytgooemdlilfkmaa
open Go.Ab Go.ChangeShapes Go.WideShapes Go.RowKit
theorem tI:Rep env.P 24 (fun _=>True) (fun p:UInt8 × UInt32=>[a8 p.1,a32 p.2]):=by
 intro n xs h
 have h:=jQ (P:=env.P) qX h
 obtain⟨m,x,r,rfl,h1,y,r',rfl,h2,rfl⟩:=h
 obtain⟨v,_,rfl⟩:=B0 (P:=env.P) (t:=5) (by simp) _ _ h1
 obtain⟨w,_,rfl⟩:=zK (P:=env.P) (t:=22) (by simp) _ _ h2
 exact⟨(v,w),trivial,rfl⟩
theorem wZ:Rep env.P 39 (fun _=>True) Clear.enc:=by
 intro n xs h
 have h:=jQ (P:=env.P) qU h
 obtain⟨m,x,r,rfl,h1,y,r',rfl,h2,rfl⟩:=h
 obtain⟨p,_,rfl⟩:=tI _ _ h1
 obtain⟨b,_,rfl⟩:=vE (P:=env.P) (t:=4) (by simp) _ _ h2
 exact⟨⟨p.1,p.2,b⟩,trivial,rfl⟩
theorem zJ:Rep env.P 26 (fun _=>True) Quota.enc:=by
 intro n xs h
 have h:=jQ (P:=env.P) qW h
 obtain⟨m,x,r,rfl,h1,y,r',rfl,h2,z,r'',rfl,h3,w,r3,rfl,h4,rfl⟩:=h
 obtain⟨p,_,rfl⟩:=tI _ _ h1
 obtain⟨i,_,rfl⟩:=mF (P:=env.P) (t:=3) (by simp) _ _ h2
 obtain⟨j,_,rfl⟩:=mF (P:=env.P) (t:=3) (by simp) _ _ h3
 obtain⟨k,_,rfl⟩:=mF (P:=env.P) (t:=3) (by simp) _ _ h4
 exact⟨⟨p.1,p.2,i,j,k⟩,trivial,rfl⟩
theorem zD{n:Nat}{x:AV}(h:ShV env.P n 33 x) : ∃(us:List Clear) (qs:List Quota) (gr:Int) (xu xq:AV),x = .agg [xu,xq,aI gr]∧Sl 3 (av us) xu∧Sl 5 (ay qs) xq:=by
 obtain⟨y0,rfl,h0'⟩:=h.agg (by simp)
 have h0:=jQ (P:=env.P) qV h0'
 obtain⟨m,u,r,rfl,hu,q,r',rfl,hq,g,r'',rfl,hg,rfl⟩:=h0
 have hu:=oA (P:=env.P) vm vi xy wZ hu
 obtain⟨us,xu,_,rfl,su⟩:=hu
 have hq:=oA (P:=env.P) vl vj xz zJ hq
 obtain⟨qs,xq,_,rfl,sq⟩:=hq
 obtain⟨gr,_,rfl⟩:=mF (P:=env.P) (t:=3) (by simp) _ _ hg
 exact⟨us,qs,gr,xu,xq,rfl,su,sq⟩
theorem own:ownKnob Try.prog.godebug=none:=by kernel_rfl
theorem kids:Kids Try.prog (· < Try.prog.types.size):=kids_rows (by kernel_rfl) (by kernel_rfl)
theorem Cz:env.Ok (ob env):=Ah (by kernel_rfl) Ad
end Go.Proofs.Ytgooemdlilfkmaa
