/-
  The arguments' data: labels, handles, ids, spans, rows. No statement of a seat is proved here.
-/
import Derived.Test.YtjampffmlnplcaaRnTy
import Derived.Test.YtjampffmlnplcaaIdMath
set_option linter.unusedVariables false
set_option linter.unusedSimpArgs false
set_option maxRecDepth 1000000
namespace Go.Ab
def Han.enc(h:Han):List AV:=[a8 h.lv,a32 h.cats,a8 h.num]
def Idd.enc(i:Idd):List AV:=[a8 i.h.lv,a32 i.h.cats,a8 i.h.num,aI i.n]
def Spn.enc(s:Spn):List AV:=[a8 s.f.h.lv,a32 s.f.h.cats,a8 s.f.h.num,aI s.f.n,aI s.many]
end Go.Ab
namespace Go.Proofs.Ytjampffmlnplcaa
open Go.Ab Go.ChangeShapes Go.WideShapes Go.RowKit
theorem vk:Rep env.P 24 (fun _=>True) (fun p:UInt8 × UInt32=>[a8 p.1,a32 p.2]):=by
 intro n xs h
 have h:=iI (P:=env.P) sh h
 obtain⟨m,x,r,rfl,h1,y,r',rfl,h2,rfl⟩:=h
 obtain⟨v,_,rfl⟩:=zA (P:=env.P) (t:=5) (by simp) _ _ h1
 obtain⟨w,_,rfl⟩:=Bq (P:=env.P) (t:=22) (by simp) _ _ h2
 exact⟨(v,w),trivial,rfl⟩
theorem vn:Rep env.P 26 (fun _=>True) Han.enc:=by
 intro n xs h
 have h:=iI (P:=env.P) sg h
 obtain⟨m,x,r,rfl,h1,y,r',rfl,h2,rfl⟩:=h
 obtain⟨p,_,rfl⟩:=vk _ _ h1
 obtain⟨w,_,rfl⟩:=zA (P:=env.P) (t:=5) (by simp) _ _ h2
 exact⟨⟨p.1,p.2,w⟩,trivial,rfl⟩
theorem rF:Rep env.P 28 (fun _=>True) Idd.enc:=by
 intro n xs h
 have h:=iI (P:=env.P) sf h
 obtain⟨m,x,r,rfl,h1,y,r',rfl,h2,rfl⟩:=h
 obtain⟨p,_,rfl⟩:=vn _ _ h1
 obtain⟨i,_,rfl⟩:=o2 (P:=env.P) (t:=3) (by simp) _ _ h2
 exact⟨⟨p,i⟩,trivial,rfl⟩
theorem vj:Rep env.P 30 (fun _=>True) Spn.enc:=by
 intro n xs h
 have h:=iI (P:=env.P) sd h
 obtain⟨m,x,r,rfl,h1,y,r',rfl,h2,rfl⟩:=h
 obtain⟨p,_,rfl⟩:=rF _ _ h1
 obtain⟨i,_,rfl⟩:=o2 (P:=env.P) (t:=3) (by simp) _ _ h2
 exact⟨⟨p,i⟩,trivial,rfl⟩
theorem sJ{n:Nat}{xs:List AV}(h:ShC env.P n 31 xs) : ∃(l:List Int) (x:AV),(∀a∈l, -2147483648≤a∧a≤2147483647)∧xs=[x]∧Sl 1 (rows l) x:=by
 obtain⟨l,x,hl,rfl,s⟩:=xe (P:=env.P) w8 w7 zg (zy (by simp)) h
 exact⟨l,x,hl,rfl,s⟩
theorem Bh{n:Nat}{x:AV}(h:ShV env.P n 3 x) : ∃i:Int,(-9223372036854775808≤i∧i≤9223372036854775807)∧x=aI i:=by
 obtain⟨i,hi,e⟩:=o2 (P:=env.P) (t:=3) (by simp) _ _ (h.cell (by simp))
 cases e
 exact⟨i,hi,rfl⟩
theorem Bi{n:Nat}{x:AV}(h:ShV env.P n 33 x) : ∃(s:Spn) (a:Idd) (l:List Int) (y:AV),(∀a∈l, -2147483648≤a∧a≤2147483647)∧Sl 1 (rows l) y∧x = .agg (s.enc++(a.enc++[y])):=by
 obtain⟨y0,rfl,h0'⟩:=h.agg (by simp)
 have h0:=iI (P:=env.P) sc h0'
 obtain⟨m,u,r,rfl,hu,q,r',rfl,hq,g,r'',rfl,hg,rfl⟩:=h0
 obtain⟨s,_,rfl⟩:=vj _ _ hu
 obtain⟨a,_,rfl⟩:=rF _ _ hq
 obtain⟨l,y,hl,rfl,sl⟩:=sJ hg
 exact⟨s,a,l,y,hl,sl,rfl⟩
theorem own:ownKnob Try.prog.godebug=none:=by kernel_rfl
theorem kids:Kids Try.prog (· < Try.prog.types.size):=kids_rows (by kernel_rfl) (by kernel_rfl)
theorem Ei:env.Ok (oF env):=B6 (by kernel_rfl) B0
end Go.Proofs.Ytjampffmlnplcaa
