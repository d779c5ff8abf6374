/-
  The arguments' data: labels, handles, ids, spans, rows, operations. No statement of a seat is proved here.
-/
import Derived.Test.YtmkmimgokagimaaGreatLeTy
import Derived.Test.YtmkmimgokagimaaGreatMOpFns
import Derived.Test.YtmkmimgokagimaaGreatLeTw
import Derived.Test.YtmkmimgokagimaaGreatMLePol
import Derived.Test.YtmkmimgokagimaaGreatAliveAd
set_option linter.unusedVariables false
set_option linter.unusedSimpArgs false
set_option linter.unusedSectionVars false
set_option linter.unnecessarySimpa false
set_option maxRecDepth 1000000
namespace Go.Ab
def nY.enc(h:nY):List AV:=[a8 h.lv,aF h.cats,a8 h.num]
def eJ.enc(i:eJ):List AV:=[a8 i.h.lv,aF i.h.cats,a8 i.h.num,aI i.n]
def CZ.enc(s:CZ):List AV:=[a8 s.f.h.lv,aF s.f.h.cats,a8 s.f.h.num,aI s.f.n,aI s.many]
end Go.Ab
namespace Go.Proofs.YtmkmimgokagimaaGreat
open Go.Ab Go.ChangeShapes Go.WideShapes Go.RowKit
theorem AU:Lu env.P 29 (fun _=>True) (fun p:UInt8 × UInt32=>[a8 p.1,aF p.2]):=by
 intro n xs h
 have h:=kn (P:=env.P) KY h
 obtain⟨m,x,r,rfl,h1,y,r',rfl,h2,rfl⟩:=h
 obtain⟨v,_,rfl⟩:=Nc (P:=env.P) (t:=5) (by simp) _ _ h1
 obtain⟨w,_,rfl⟩:=VT (P:=env.P) (t:=27) (by simp) _ _ h2
 exact⟨(v,w),trivial,rfl⟩
theorem It:Lu env.P 31 (fun _=>True) nY.enc:=by
 intro n xs h
 have h:=kn (P:=env.P) KX h
 obtain⟨m,x,r,rfl,h1,y,r',rfl,h2,rfl⟩:=h
 obtain⟨p,_,rfl⟩:=AU _ _ h1
 obtain⟨w,_,rfl⟩:=Nc (P:=env.P) (t:=5) (by simp) _ _ h2
 exact⟨⟨p.1,p.2,w⟩,trivial,rfl⟩
theorem Nb:Lu env.P 33 (fun _=>True) eJ.enc:=by
 intro n xs h
 have h:=kn (P:=env.P) KW h
 obtain⟨m,x,r,rfl,h1,y,r',rfl,h2,rfl⟩:=h
 obtain⟨p,_,rfl⟩:=It _ _ h1
 obtain⟨i,_,rfl⟩:=oZ (P:=env.P) (t:=3) (by simp) _ _ h2
 exact⟨⟨p,i⟩,trivial,rfl⟩
theorem S3:Lu env.P 35 (fun _=>True) CZ.enc:=by
 intro n xs h
 have h:=kn (P:=env.P) KV h
 obtain⟨m,x,r,rfl,h1,y,r',rfl,h2,rfl⟩:=h
 obtain⟨p,_,rfl⟩:=Nb _ _ h1
 obtain⟨i,_,rfl⟩:=oZ (P:=env.P) (t:=3) (by simp) _ _ h2
 exact⟨⟨p,i⟩,trivial,rfl⟩
theorem JG{n:Nat}{xs:List AV}(h:Aq env.P n 36 xs) : ∃(l:List Int) (x:AV),(∀a∈l, -2147483648≤a∧a≤2147483647)∧xs=[x]∧Sl 1 (rows l) x:=by
 obtain⟨l,x,hl,rfl,s⟩:=AR (P:=env.P) PR PQ SJ (S2 (by simp)) h
 exact⟨l,x,hl,rfl,s⟩
def Vr(p:bz × AV):List AV:=[a8 p.1.kind,a8 p.1.h.lv,aF p.1.h.cats,a8 p.1.h.num,aI p.1.serial,a8 p.1.s.f.h.lv,aF p.1.s.f.h.cats,a8 p.1.s.f.h.num,aI p.1.s.f.n,aI p.1.s.many,
 a8 p.1.a.h.lv,aF p.1.a.h.cats,a8 p.1.a.h.num,aI p.1.a.n,a8 p.1.to.lv,aF p.1.to.cats,p.2]
theorem Na:Lu env.P 38 (fun p:bz × AV=>Sl 1 (rows p.1.l) p.2) Vr:=by
 intro n xs h
 have h:=kn (P:=env.P) KU h
 obtain⟨m,x1,r1,rfl,h1,x2,r2,rfl,h2,x3,r3,rfl,h3,x4,r4,rfl,h4,x5,r5,rfl,h5,x6,r6,rfl,h6,x7,r7,rfl,h7,rfl⟩:=h
 obtain⟨k,_,rfl⟩:=Nc (P:=env.P) (t:=5) (by simp) _ _ h1
 obtain⟨hh,_,rfl⟩:=It _ _ h2
 obtain⟨se,_,rfl⟩:=oZ (P:=env.P) (t:=3) (by simp) _ _ h3
 obtain⟨s,_,rfl⟩:=S3 _ _ h4
 obtain⟨a,_,rfl⟩:=Nb _ _ h5
 obtain⟨t,_,rfl⟩:=AU _ _ h6
 obtain⟨l,y,_,rfl,sl⟩:=JG h7
 exact⟨(⟨k,hh,se,s,a,⟨t.1,t.2⟩,l⟩,y),sl,rfl⟩
theorem own:ownKnob Tryz.prog.godebug=none:=by kernel_rfl
theorem kids:Kids Tryz.prog (· < Tryz.prog.types.size):=kids_rows (by kernel_rfl) (by kernel_rfl)
end Go.Proofs.YtmkmimgokagimaaGreat
namespace Go.Proofs.YtmkmimgokagimaaGreat
open Go.Ab Go.ChangeShapes Go.WideShapes Go.RowKit
theorem abj:env.Ok (CM env):=NH (dn adAlive.alive Kk) (by kernel_rfl) My (fun f t h=>by cases h) (fun f args H y H' h=>by cases h)
theorem S5:Lu env.P 58 (fun _=>True) (fun p:UInt8 × UInt32 × Bool=>[a8 p.1,aF p.2.1,aB p.2.2]):=by
 intro n xs h
 have h:=kn (P:=env.P) Di h
 obtain⟨m,x,r,rfl,h1,y,r',rfl,h2,rfl⟩:=h
 obtain⟨q,_,rfl⟩:=AU _ _ h1
 obtain⟨b,_,rfl⟩:=JW (P:=env.P) (t:=4) (by simp) _ _ h2
 exact⟨(q.1,q.2,b),trivial,rfl⟩
def ad1(p:fY × AV):List AV:=[a8 p.1.kind,aI p.1.user]++(Vr (p.1.op,p.2)++[aI p.1.code,aI p.1.gu,a8 p.1.gv,aF p.1.gc,aB p.1.gok])
theorem S4:Lu env.P 62 (fun p:fY × AV=>Sl 1 (rows p.1.op.l) p.2) ad1:=by
 intro n xs h
 have h:=kn (P:=env.P) KS h
 obtain⟨m,x1,r1,rfl,h1,x2,r2,rfl,h2,x3,r3,rfl,h3,x4,r4,rfl,h4,x5,r5,rfl,h5,rfl⟩:=h
 obtain⟨k,_,rfl⟩:=Nc (P:=env.P) (t:=5) (by simp) _ _ h1
 obtain⟨u,_,rfl⟩:=oZ (P:=env.P) (t:=3) (by simp) _ _ h2
 obtain⟨q,hq,rfl⟩:=Na _ _ h3
 obtain⟨c,_,rfl⟩:=oZ (P:=env.P) (t:=42) (by simp) _ _ h4
 have h6:=kn (P:=env.P) KT h5
 obtain⟨m,y1,s1,rfl,i1,y2,s2,rfl,i2,rfl⟩:=h6
 obtain⟨g,_,rfl⟩:=oZ (P:=env.P) (t:=3) (by simp) _ _ i1
 obtain⟨z,_,rfl⟩:=S5 _ _ i2
 exact⟨(⟨k,u,q.1,c,g,z.1,z.2.1,z.2.2⟩,q.2),hq,rfl⟩
theorem SM{n:Nat}{x:AV}(h:PB env.P n 26 x) : ∃(l:List (fY × AV)),(∀p∈l,Sl 1 (rows p.1.op.l) p.2)∧Sl 24 (cW l) x:=by
 obtain⟨l,z,hl,e,s⟩:=AR (P:=env.P) PS PN SH S4 (h.cell (by simp))
 cases e
 exact⟨l,hl,s⟩
theorem VS:Lu env.P 58 (fun _=>True) Clear.enc:=by
 intro n xs h
 have h:=kn (P:=env.P) Di h
 obtain⟨m,x,r,rfl,h1,y,r',rfl,h2,rfl⟩:=h
 obtain⟨p,_,rfl⟩:=AU _ _ h1
 obtain⟨b,_,rfl⟩:=JW (P:=env.P) (t:=4) (by simp) _ _ h2
 exact⟨⟨p.1,p.2,b⟩,trivial,rfl⟩
theorem VQ:Lu env.P 81 (fun _=>True) bn.enc:=by
 intro n xs h
 have h:=kn (P:=env.P) KR h
 obtain⟨m,x,r,rfl,h1,y,r',rfl,h2,z,r'',rfl,h3,w,r3,rfl,h4,rfl⟩:=h
 obtain⟨p,_,rfl⟩:=AU _ _ h1
 obtain⟨i,_,rfl⟩:=oZ (P:=env.P) (t:=3) (by simp) _ _ h2
 obtain⟨j,_,rfl⟩:=oZ (P:=env.P) (t:=3) (by simp) _ _ h3
 obtain⟨k,_,rfl⟩:=oZ (P:=env.P) (t:=3) (by simp) _ _ h4
 exact⟨⟨p.1,p.2,i,j,k⟩,trivial,rfl⟩
theorem VG{n:Nat}{x:AV}(h:PB env.P n 25 x) : ∃(us:List Clear) (qs:List bn) (gr:Int) (xu xq:AV),x = .agg [xu,xq,aI gr]∧Sl 3 (ed us) xu∧Sl 5 (ef qs) xq:=by
 obtain⟨y0,rfl,h0'⟩:=h.agg (by simp)
 have h0:=kn (P:=env.P) KZ h0'
 obtain⟨m,u,r,rfl,hu,q,r',rfl,hq,g,r'',rfl,hg,rfl⟩:=h0
 have hu:=AR (P:=env.P) PU PO SI VS hu
 obtain⟨us,xu,_,rfl,su⟩:=hu
 have hq:=AR (P:=env.P) PT PM SG VQ hq
 obtain⟨qs,xq,_,rfl,sq⟩:=hq
 obtain⟨gr,_,rfl⟩:=oZ (P:=env.P) (t:=3) (by simp) _ _ hg
 exact⟨us,qs,gr,xu,xq,rfl,su,sq⟩
end Go.Proofs.YtmkmimgokagimaaGreat
