/-
  That the functions are fit. No statement of a seat is proved here.
-/
import Derived.Test.YtiidajnodhkidaaGreatStTy
import Derived.Test.YtiidajnodhkidaaGreatDskFns
import Derived.Test.YtiidajnodhkidaaGreatMOpMath
import Derived.Test.YtiidajnodhkidaaGreatLogSame
import Derived.Test.YtiidajnodhkidaaGreatMStTurn
set_option linter.unusedVariables false
set_option maxRecDepth 1000000
namespace Go.Proofs.YtiidajnodhkidaaGreat
open Go.Ab
theorem MY:env.Ok (Dr env):=Kv F5 (by kernel_rfl) Ko (fun f t h=>by cases h) (fun f args H y H' h=>by
 by_cases e:f=112
 ·rw[if_pos e]at h
  rw[e]
  exact ins.J5 args H y H' h
 ·rw[if_neg e]at h;cases h)
end Go.Proofs.YtiidajnodhkidaaGreat
set_option linter.unusedSimpArgs false
namespace Go.Proofs.YtiidajnodhkidaaGreat
open Go.Ab Go.ChangeShapes Go.WideShapes Go.RowKit
theorem Pg:Rep env.P 78 oL (fun s:Sec=>[aI s.pos,s.av]):=by
 intro n xs h
 have h:=iL (P:=env.P) xW h
 obtain⟨m,x,r,rfl,h1,y,r',rfl,h2,rfl⟩:=h
 obtain⟨i,_,rfl⟩:=mj (P:=env.P) (t:=3) (by simp) _ _ h1
 obtain⟨l,z,rfl,hs⟩:=Lt (P:=env.P) (t:=76) (e:=5) (by simp) (by simp) (by simp) (by simp) h2
 exact⟨⟨i,l,z⟩,hs,rfl⟩
end Go.Proofs.YtiidajnodhkidaaGreat
namespace Go.Ab
def Han.enc(h:Han):List AV:=[a8 h.lv,a32 h.cats,a8 h.num]
def Idd.enc(i:Idd):List AV:=[a8 i.h.lv,a32 i.h.cats,a8 i.h.num,aI i.n]
def Spn.enc(s:Spn):List AV:=[a8 s.f.h.lv,a32 s.f.h.cats,a8 s.f.h.num,aI s.f.n,aI s.many]
end Go.Ab
namespace Go.Proofs.YtiidajnodhkidaaGreat
open Go.Ab Go.ChangeShapes Go.WideShapes Go.RowKit
theorem Em:Rep env.P 36 (fun _=>True) (fun p:UInt8 × UInt32=>[a8 p.1,a32 p.2]):=by
 intro n xs h
 have h:=iL (P:=env.P) E3 h
 obtain⟨m,x,r,rfl,h1,y,r',rfl,h2,rfl⟩:=h
 obtain⟨v,_,rfl⟩:=Jc (P:=env.P) (t:=5) (by simp) _ _ h1
 obtain⟨w,_,rfl⟩:=SJ (P:=env.P) (t:=34) (by simp) _ _ h2
 exact⟨(v,w),trivial,rfl⟩
theorem Jb:Rep env.P 38 (fun _=>True) Han.enc:=by
 intro n xs h
 have h:=iL (P:=env.P) E2 h
 obtain⟨m,x,r,rfl,h1,y,r',rfl,h2,rfl⟩:=h
 obtain⟨p,_,rfl⟩:=Em _ _ h1
 obtain⟨w,_,rfl⟩:=Jc (P:=env.P) (t:=5) (by simp) _ _ h2
 exact⟨⟨p.1,p.2,w⟩,trivial,rfl⟩
theorem Ja:Rep env.P 40 (fun _=>True) Idd.enc:=by
 intro n xs h
 have h:=iL (P:=env.P) E1 h
 obtain⟨m,x,r,rfl,h1,y,r',rfl,h2,rfl⟩:=h
 obtain⟨p,_,rfl⟩:=Jb _ _ h1
 obtain⟨i,_,rfl⟩:=mj (P:=env.P) (t:=3) (by simp) _ _ h2
 exact⟨⟨p,i⟩,trivial,rfl⟩
theorem Pf:Rep env.P 42 (fun _=>True) Spn.enc:=by
 intro n xs h
 have h:=iL (P:=env.P) E0 h
 obtain⟨m,x,r,rfl,h1,y,r',rfl,h2,rfl⟩:=h
 obtain⟨p,_,rfl⟩:=Ja _ _ h1
 obtain⟨i,_,rfl⟩:=mj (P:=env.P) (t:=3) (by simp) _ _ h2
 exact⟨⟨p,i⟩,trivial,rfl⟩
theorem Ls{n:Nat}{xs:List AV}(h:ShC env.P n 43 xs) : ∃(l:List Int) (x:AV),(∀a∈l, -2147483648≤a∧a≤2147483647)∧xs=[x]∧Sl 1 (rows l) x:=by
 obtain⟨l,x,hl,rfl,s⟩:=tC (P:=env.P) Ll Lj OG (Pe (by simp)) h
 exact⟨l,x,hl,rfl,s⟩
def TP(p:Opn × AV):List AV:=[a8 p.1.kind,a8 p.1.h.lv,a32 p.1.h.cats,a8 p.1.h.num,aI p.1.serial,a8 p.1.s.f.h.lv,a32 p.1.s.f.h.cats,a8 p.1.s.f.h.num,aI p.1.s.f.n,aI p.1.s.many,
 a8 p.1.a.h.lv,a32 p.1.a.h.cats,a8 p.1.a.h.num,aI p.1.a.n,a8 p.1.to.lv,a32 p.1.to.cats,p.2]
theorem Ph:Rep env.P 45 (fun p:Opn × AV=>Sl 1 (rows p.1.l) p.2) TP:=by
 intro n xs h
 have h:=iL (P:=env.P) EZ h
 obtain⟨m,x1,r1,rfl,h1,x2,r2,rfl,h2,x3,r3,rfl,h3,x4,r4,rfl,h4,x5,r5,rfl,h5,x6,r6,rfl,h6,x7,r7,rfl,h7,rfl⟩:=h
 obtain⟨k,_,rfl⟩:=Jc (P:=env.P) (t:=5) (by simp) _ _ h1
 obtain⟨hh,_,rfl⟩:=Jb _ _ h2
 obtain⟨se,_,rfl⟩:=mj (P:=env.P) (t:=3) (by simp) _ _ h3
 obtain⟨s,_,rfl⟩:=Pf _ _ h4
 obtain⟨a,_,rfl⟩:=Ja _ _ h5
 obtain⟨t,_,rfl⟩:=Em _ _ h6
 obtain⟨l,y,_,rfl,sl⟩:=Ls h7
 exact⟨(⟨k,hh,se,s,a,⟨t.1,t.2⟩,l⟩,y),sl,rfl⟩
theorem own:ownKnob Tryz.prog.godebug=none:=by kernel_rfl
theorem kids:Kids Tryz.prog (· < Tryz.prog.types.size):=kids_rows (by kernel_rfl) (by kernel_rfl)
end Go.Proofs.YtiidajnodhkidaaGreat
namespace Go.Proofs.YtiidajnodhkidaaGreat
open Go.Ab Go.ChangeShapes Go.WideShapes Go.RowKit
theorem Pk:Rep env.P 47 (fun _=>True) (fun p:UInt8 × UInt32 × Bool=>[a8 p.1,a32 p.2.1,aB p.2.2]):=by
 intro n xs h
 have h:=iL (P:=env.P) EY h
 obtain⟨m,x,r,rfl,h1,y,r',rfl,h2,rfl⟩:=h
 obtain⟨q,_,rfl⟩:=Em _ _ h1
 obtain⟨b,_,rfl⟩:=FQ (P:=env.P) (t:=4) (by simp) _ _ h2
 exact⟨(q.1,q.2,b),trivial,rfl⟩
def rcdC(p:Rcd × AV):List AV:=[a8 p.1.kind,aI p.1.user]++(TP (p.1.op,p.2)++[aI p.1.code,aI p.1.gu,a8 p.1.gv,a32 p.1.gc,aB p.1.gok])
theorem I9:Rep env.P 51 (fun p:Rcd × AV=>Sl 1 (rows p.1.op.l) p.2) rcdC:=by
 intro n xs h
 have h:=iL (P:=env.P) EW h
 obtain⟨m,x1,r1,rfl,h1,x2,r2,rfl,h2,x3,r3,rfl,h3,x4,r4,rfl,h4,x5,r5,rfl,h5,rfl⟩:=h
 obtain⟨k,_,rfl⟩:=Jc (P:=env.P) (t:=5) (by simp) _ _ h1
 obtain⟨u,_,rfl⟩:=mj (P:=env.P) (t:=3) (by simp) _ _ h2
 obtain⟨q,hq,rfl⟩:=Ph _ _ h3
 obtain⟨c,_,rfl⟩:=mj (P:=env.P) (t:=30) (by simp) _ _ h4
 have h6:=iL (P:=env.P) EX h5
 obtain⟨m,y1,s1,rfl,i1,y2,s2,rfl,i2,rfl⟩:=h6
 obtain⟨g,_,rfl⟩:=mj (P:=env.P) (t:=3) (by simp) _ _ i1
 obtain⟨z,_,rfl⟩:=Pk _ _ i2
 exact⟨(⟨k,u,q.1,c,g,z.1,z.2.1,z.2.2⟩,q.2),hq,rfl⟩
theorem OK{n:Nat}{x:AV}(h:ShV env.P n 25 x) : ∃(l:List (Rcd × AV)),(∀p∈l,Sl 1 (rows p.1.op.l) p.2)∧Sl 24 (bG l) x:=by
 obtain⟨l,z,hl,e,s⟩:=tC (P:=env.P) FH FF Ir I9 (h.cell (by simp))
 cases e
 exact⟨l,hl,s⟩
end Go.Proofs.YtiidajnodhkidaaGreat
namespace Go.Proofs.YtiidajnodhkidaaGreat
open Go.Ab Go.ChangeShapes Go.WideShapes Go.RowKit
theorem Pj:Rep env.P 24 (fun p:List Sec × Dk=>(∀s∈p.2.l,oL s)∧Sl 2 (encS p.2.l) p.2.x) (fun p=>[p.2.x,aI p.2.st,aI p.2.lf,aB p.2.dd]):=by
 intro n xs h
 have h:=iL (P:=env.P) E6 h
 obtain⟨m,x1,r1,rfl,h1,x2,r2,rfl,h2,x3,r3,rfl,h3,x4,r4,rfl,h4,rfl⟩:=h
 obtain⟨l,z,hl,rfl,s⟩:=tC (P:=env.P) FI FE Iq Pg h1
 obtain⟨st,_,rfl⟩:=mj (P:=env.P) (t:=3) (by simp) _ _ h2
 obtain⟨lf,_,rfl⟩:=mj (P:=env.P) (t:=3) (by simp) _ _ h3
 obtain⟨b,_,rfl⟩:=FQ (P:=env.P) (t:=4) (by simp) _ _ h4
 exact⟨([],⟨l,z,st,lf,b⟩),⟨hl,s⟩,rfl⟩
theorem Su{n:Nat}{x:AV}(h:ShV env.P n 29 x) : ∃(d:Dk) (R:List (Rcd × AV)) (ro:AV) (g k at':Int),(∀s∈d.l,oL s)∧Sl 2 (encS d.l) d.x∧(∀p∈R,Sl 1 (rows p.1.op.l) p.2)∧Sl 24 (bG R) ro∧x=stV d ro g k at':=by
 obtain⟨y,rfl,h'⟩:=h.agg (by simp)
 have h:=iL (P:=env.P) E4 h'
 obtain⟨m,x1,r1,rfl,h1,x2,r2,rfl,h2,x3,r3,rfl,h3,x4,r4,rfl,h4,rfl⟩:=h
 obtain⟨q,⟨hq,hs⟩,rfl⟩:=Pj _ _ h1
 obtain⟨R,ro,hR,rfl,hro⟩:=tC (P:=env.P) FH FF Ir I9 h2
 have h3:=iL (P:=env.P) E5 h3
 obtain⟨m,y1,s1,rfl,i1,y2,s2,rfl,i2,rfl⟩:=h3
 obtain⟨g,_,rfl⟩:=mj (P:=env.P) (t:=3) (by simp) _ _ i1
 obtain⟨k,_,rfl⟩:=mj (P:=env.P) (t:=3) (by simp) _ _ i2
 obtain⟨a,_,rfl⟩:=mj (P:=env.P) (t:=3) (by simp) _ _ h4
 exact⟨q.2,R,ro,g,k,a,hq,hs,hR,hro,rfl⟩
end Go.Proofs.YtiidajnodhkidaaGreat
