/-
  The arguments' data: labels, handles, ids, spans, rows, operations. No statement of a seat is proved here.
-/
import Derived.Test.YtmjkpdknicjjgaaLgTy
import Derived.Test.YtmjkpdknicjjgaaMOpMath
import Derived.Test.YtmjkpdknicjjgaaLogSame
set_option linter.unusedVariables false
set_option linter.unusedSimpArgs false
set_option maxRecDepth 1000000
namespace Go.Ab
def Han.enc (h:Han):List AV:=[a8 h.lv,a32 h.cats,a8 h.num]
def Idd.enc (i:Idd):List AV:=[a8 i.h.lv,a32 i.h.cats,a8 i.h.num,aI i.n]
def Spn.enc (s:Spn):List AV:=[a8 s.f.h.lv,a32 s.f.h.cats,a8 s.f.h.num,aI s.f.n,aI s.many]
end Go.Ab
namespace Go.Proofs.Ytmjkpdknicjjgaa
open Go.Ab Go.ChangeShapes Go.WideShapes Go.RowKit
theorem Dd:Rep env.P 33 (fun _=>True) (fun p:UInt8 × UInt32=>[a8 p.1,a32 p.2]):=by
 intro n xs h
 have h:=kX (P:=env.P) DU h
 obtain ⟨m,x,r,rfl,h1,y,r',rfl,h2,rfl⟩:=h
 obtain ⟨v,_,rfl⟩:=Kv (P:=env.P) (t:=5) (by simp) _ _ h1
 obtain ⟨w,_,rfl⟩:=QK (P:=env.P) (t:=31) (by simp) _ _ h2
 exact ⟨(v,w),trivial,rfl⟩
theorem HC:Rep env.P 35 (fun _=>True) Han.enc:=by
 intro n xs h
 have h:=kX (P:=env.P) DT h
 obtain ⟨m,x,r,rfl,h1,y,r',rfl,h2,rfl⟩:=h
 obtain ⟨p,_,rfl⟩:=Dd _ _ h1
 obtain ⟨w,_,rfl⟩:=Kv (P:=env.P) (t:=5) (by simp) _ _ h2
 exact ⟨⟨p.1,p.2,w⟩,trivial,rfl⟩
theorem HB:Rep env.P 37 (fun _=>True) Idd.enc:=by
 intro n xs h
 have h:=kX (P:=env.P) DS h
 obtain ⟨m,x,r,rfl,h1,y,r',rfl,h2,rfl⟩:=h
 obtain ⟨p,_,rfl⟩:=HC _ _ h1
 obtain ⟨i,_,rfl⟩:=rH (P:=env.P) (t:=3) (by simp) _ _ h2
 exact ⟨⟨p,i⟩,trivial,rfl⟩
theorem NC:Rep env.P 39 (fun _=>True) Spn.enc:=by
 intro n xs h
 have h:=kX (P:=env.P) DR h
 obtain ⟨m,x,r,rfl,h1,y,r',rfl,h2,rfl⟩:=h
 obtain ⟨p,_,rfl⟩:=HB _ _ h1
 obtain ⟨i,_,rfl⟩:=rH (P:=env.P) (t:=3) (by simp) _ _ h2
 exact ⟨⟨p,i⟩,trivial,rfl⟩
theorem Ka {n:Nat} {xs:List AV} (h:ShC env.P n 40 xs) : ∃(l:List Int) (x:AV),(∀a∈l, -2147483648≤a∧a≤2147483647)∧xs=[x]∧Sl 1 (rows l) x:=by
 obtain ⟨l,x,hl,rfl,s⟩:=Eu (P:=env.P) J3 J0 Nb (NB (by simp)) h
 exact ⟨l,x,hl,rfl,s⟩
theorem Qy {n:Nat} {x:AV} (h:ShV env.P n 3 x) : ∃i:Int,(-9223372036854775808≤i∧i≤9223372036854775807)∧x=aI i:=by
 obtain ⟨i,hi,e⟩:=rH (P:=env.P) (t:=3) (by simp) _ _ (h.cell (by simp))
 cases e
 exact ⟨i,hi,rfl⟩
def RE (p:Opn × AV):List AV:=[a8 p.1.kind,a8 p.1.h.lv,a32 p.1.h.cats,a8 p.1.h.num,aI p.1.serial,a8 p.1.s.f.h.lv,a32 p.1.s.f.h.cats,a8 p.1.s.f.h.num,aI p.1.s.f.n,aI p.1.s.many,
 a8 p.1.a.h.lv,a32 p.1.a.h.cats,a8 p.1.a.h.num,aI p.1.a.n,a8 p.1.to.lv,a32 p.1.to.cats,p.2]
theorem NF:Rep env.P 42 (fun p:Opn × AV=>Sl 1 (rows p.1.l) p.2) RE:=by
 intro n xs h
 have h:=kX (P:=env.P) DQ h
 obtain ⟨m,x1,r1,rfl,h1,x2,r2,rfl,h2,x3,r3,rfl,h3,x4,r4,rfl,h4,x5,r5,rfl,h5,x6,r6,rfl,h6,x7,r7,rfl,h7,rfl⟩:=h
 obtain ⟨k,_,rfl⟩:=Kv (P:=env.P) (t:=5) (by simp) _ _ h1
 obtain ⟨hh,_,rfl⟩:=HC _ _ h2
 obtain ⟨se,_,rfl⟩:=rH (P:=env.P) (t:=3) (by simp) _ _ h3
 obtain ⟨s,_,rfl⟩:=NC _ _ h4
 obtain ⟨a,_,rfl⟩:=HB _ _ h5
 obtain ⟨t,_,rfl⟩:=Dd _ _ h6
 obtain ⟨l,y,_,rfl,sl⟩:=Ka h7
 exact ⟨(⟨k,hh,se,s,a,⟨t.1,t.2⟩,l⟩,y),sl,rfl⟩
theorem own:ownKnob Try.prog.godebug=none:=by kernel_rfl
theorem kids:Kids Try.prog (· < Try.prog.types.size):=kids_rows (by kernel_rfl) (by kernel_rfl)
end Go.Proofs.Ytmjkpdknicjjgaa
set_option linter.unusedVariables false
set_option linter.unusedSimpArgs false
set_option maxRecDepth 1000000
namespace Go.Proofs.Ytmjkpdknicjjgaa
open Go.Ab Go.ChangeShapes Go.WideShapes Go.RowKit
theorem NG:Rep env.P 44 (fun _=>True) (fun p:UInt8 × UInt32 × Bool=>[a8 p.1,a32 p.2.1,aB p.2.2]):=by
 intro n xs h
 have h:=kX (P:=env.P) DP h
 obtain ⟨m,x,r,rfl,h1,y,r',rfl,h2,rfl⟩:=h
 obtain ⟨q,_,rfl⟩:=Dd _ _ h1
 obtain ⟨b,_,rfl⟩:=Ku (P:=env.P) (t:=4) (by simp) _ _ h2
 exact ⟨(q.1,q.2,b),trivial,rfl⟩
def rcdC (p:Rcd × AV):List AV:=[a8 p.1.kind,aI p.1.user]++(RE (p.1.op,p.2)++[aI p.1.code,aI p.1.gu,a8 p.1.gv,a32 p.1.gc,aB p.1.gok])
theorem ND:Rep env.P 48 (fun p:Rcd × AV=>Sl 1 (rows p.1.op.l) p.2) rcdC:=by
 intro n xs h
 have h:=kX (P:=env.P) DN h
 obtain ⟨m,x1,r1,rfl,h1,x2,r2,rfl,h2,x3,r3,rfl,h3,x4,r4,rfl,h4,x5,r5,rfl,h5,rfl⟩:=h
 obtain ⟨k,_,rfl⟩:=Kv (P:=env.P) (t:=5) (by simp) _ _ h1
 obtain ⟨u,_,rfl⟩:=rH (P:=env.P) (t:=3) (by simp) _ _ h2
 obtain ⟨q,hq,rfl⟩:=NF _ _ h3
 obtain ⟨c,_,rfl⟩:=rH (P:=env.P) (t:=25) (by simp) _ _ h4
 have h6:=kX (P:=env.P) DO h5
 obtain ⟨m,y1,s1,rfl,i1,y2,s2,rfl,i2,rfl⟩:=h6
 obtain ⟨g,_,rfl⟩:=rH (P:=env.P) (t:=3) (by simp) _ _ i1
 obtain ⟨z,_,rfl⟩:=NG _ _ i2
 exact ⟨(⟨k,u,q.1,c,g,z.1,z.2.1,z.2.2⟩,q.2),hq,rfl⟩
theorem C4 {n:Nat} {x:AV} (h:ShV env.P n 50 x) : ∃(l:List (Rcd × AV)),(∀p∈l,Sl 1 (rows p.1.op.l) p.2)∧Sl 24 (eA l) x:=by
 obtain ⟨l,z,hl,e,s⟩:=Eu (P:=env.P) J2 JY M9 ND (h.cell (by simp))
 cases e
 exact ⟨l,hl,s⟩
end Go.Proofs.Ytmjkpdknicjjgaa
