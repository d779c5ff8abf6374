/-
  The arguments' data: labels, handles, ids, spans, rows, operations. No statement of a seat is proved here.
-/
import Derived.Test.YtmkmimgokagimaaGreatLeTy
import Derived.Test.YtmkmimgokagimaaGreatMOpFns
import Derived.Test.YtmkmimgokagimaaGreatLeTw
import Derived.Test.YtmkmimgokagimaaGreatMLePol
import Derived.Test.YtmkmimgokagimaaGreatAliveLd
set_option linter.unnecessarySimpa false
set_option linter.unusedVariables false
set_option linter.unusedSimpArgs false
set_option maxRecDepth 1000000
namespace Go.Ab
def Han.enc(h:Han):List AV:=[a8 h.lv,a32 h.cats,a8 h.num]
def Idd.enc(i:Idd):List AV:=[a8 i.h.lv,a32 i.h.cats,a8 i.h.num,aI i.n]
def Spn.enc(s:Spn):List AV:=[a8 s.f.h.lv,a32 s.f.h.cats,a8 s.f.h.num,aI s.f.n,aI s.many]
end Go.Ab
namespace Go.Proofs.YtmkmimgokagimaaGreat
open Go.Ab Go.ChangeShapes Go.WideShapes Go.RowKit
theorem vC:Rep env.P 29 (fun _=>True) (fun p:UInt8 × UInt32=>[a8 p.1,a32 p.2]):=by
 intro n xs h
 have h:=iv (P:=env.P) Cg h
 obtain⟨m,x,r,rfl,h1,y,r',rfl,h2,rfl⟩:=h
 obtain⟨v,_,rfl⟩:=Ig (P:=env.P) (t:=5) (by simp) _ _ h1
 obtain⟨w,_,rfl⟩:=Oh (P:=env.P) (t:=27) (by simp) _ _ h2
 exact⟨(v,w),trivial,rfl⟩
theorem FD:Rep env.P 31 (fun _=>True) Han.enc:=by
 intro n xs h
 have h:=iv (P:=env.P) Cf h
 obtain⟨m,x,r,rfl,h1,y,r',rfl,h2,rfl⟩:=h
 obtain⟨p,_,rfl⟩:=vC _ _ h1
 obtain⟨w,_,rfl⟩:=Ig (P:=env.P) (t:=5) (by simp) _ _ h2
 exact⟨⟨p.1,p.2,w⟩,trivial,rfl⟩
theorem FC:Rep env.P 33 (fun _=>True) Idd.enc:=by
 intro n xs h
 have h:=iv (P:=env.P) Ce h
 obtain⟨m,x,r,rfl,h1,y,r',rfl,h2,rfl⟩:=h
 obtain⟨p,_,rfl⟩:=FD _ _ h1
 obtain⟨i,_,rfl⟩:=nj (P:=env.P) (t:=3) (by simp) _ _ h2
 exact⟨⟨p,i⟩,trivial,rfl⟩
theorem K8:Rep env.P 35 (fun _=>True) Spn.enc:=by
 intro n xs h
 have h:=iv (P:=env.P) Cd h
 obtain⟨m,x,r,rfl,h1,y,r',rfl,h2,rfl⟩:=h
 obtain⟨p,_,rfl⟩:=FC _ _ h1
 obtain⟨i,_,rfl⟩:=nj (P:=env.P) (t:=3) (by simp) _ _ h2
 exact⟨⟨p,i⟩,trivial,rfl⟩
theorem HG{n:Nat}{xs:List AV}(h:ShC env.P n 36 xs) : ∃(l:List Int) (x:AV),(∀a∈l, -2147483648≤a∧a≤2147483647)∧xs=[x]∧Sl 1 (rows l) x:=by
 obtain⟨l,x,hl,rfl,s⟩:=uW (P:=env.P) Hz Hy KL (K7 (by simp)) h
 exact⟨l,x,hl,rfl,s⟩
def Pa(p:Opn × AV):List AV:=[a8 p.1.kind,a8 p.1.h.lv,a32 p.1.h.cats,a8 p.1.h.num,aI p.1.serial,a8 p.1.s.f.h.lv,a32 p.1.s.f.h.cats,a8 p.1.s.f.h.num,aI p.1.s.f.n,aI p.1.s.many,
 a8 p.1.a.h.lv,a32 p.1.a.h.cats,a8 p.1.a.h.num,aI p.1.a.n,a8 p.1.to.lv,a32 p.1.to.cats,p.2]
theorem K9:Rep env.P 38 (fun p:Opn × AV=>Sl 1 (rows p.1.l) p.2) Pa:=by
 intro n xs h
 have h:=iv (P:=env.P) Cc h
 obtain⟨m,x1,r1,rfl,h1,x2,r2,rfl,h2,x3,r3,rfl,h3,x4,r4,rfl,h4,x5,r5,rfl,h5,x6,r6,rfl,h6,x7,r7,rfl,h7,rfl⟩:=h
 obtain⟨k,_,rfl⟩:=Ig (P:=env.P) (t:=5) (by simp) _ _ h1
 obtain⟨hh,_,rfl⟩:=FD _ _ h2
 obtain⟨se,_,rfl⟩:=nj (P:=env.P) (t:=3) (by simp) _ _ h3
 obtain⟨s,_,rfl⟩:=K8 _ _ h4
 obtain⟨a,_,rfl⟩:=FC _ _ h5
 obtain⟨t,_,rfl⟩:=vC _ _ h6
 obtain⟨l,y,_,rfl,sl⟩:=HG h7
 exact⟨(⟨k,hh,se,s,a,⟨t.1,t.2⟩,l⟩,y),sl,rfl⟩
theorem own:ownKnob Tryz.prog.godebug=none:=by kernel_rfl
theorem kids:Kids Tryz.prog (· < Tryz.prog.types.size):=kids_rows (by kernel_rfl) (by kernel_rfl)
end Go.Proofs.YtmkmimgokagimaaGreat
namespace Go.Proofs.YtmkmimgokagimaaGreat
open Go.Ab Go.ChangeShapes Go.WideShapes Go.RowKit
theorem SP:env.Ok (yv env):=GS (eI ldAlive.alive C6) (by kernel_rfl) GH (fun f t h=>by cases h) (fun f args H y H' h=>by cases h)
theorem La:Rep env.P 58 (fun _=>True) (fun p:UInt8 × UInt32 × Bool=>[a8 p.1,a32 p.2.1,aB p.2.2]):=by
 intro n xs h
 have h:=iv (P:=env.P) we h
 obtain⟨m,x,r,rfl,h1,y,r',rfl,h2,rfl⟩:=h
 obtain⟨q,_,rfl⟩:=vC _ _ h1
 obtain⟨b,_,rfl⟩:=CU (P:=env.P) (t:=4) (by simp) _ _ h2
 exact⟨(q.1,q.2,b),trivial,rfl⟩
def rcdC(p:Rcd × AV):List AV:=[a8 p.1.kind,aI p.1.user]++(Pa (p.1.op,p.2)++[aI p.1.code,aI p.1.gu,a8 p.1.gv,a32 p.1.gc,aB p.1.gok])
theorem FB:Rep env.P 62 (fun p:Rcd × AV=>Sl 1 (rows p.1.op.l) p.2) rcdC:=by
 intro n xs h
 have h:=iv (P:=env.P) Ca h
 obtain⟨m,x1,r1,rfl,h1,x2,r2,rfl,h2,x3,r3,rfl,h3,x4,r4,rfl,h4,x5,r5,rfl,h5,rfl⟩:=h
 obtain⟨k,_,rfl⟩:=Ig (P:=env.P) (t:=5) (by simp) _ _ h1
 obtain⟨u,_,rfl⟩:=nj (P:=env.P) (t:=3) (by simp) _ _ h2
 obtain⟨q,hq,rfl⟩:=K9 _ _ h3
 obtain⟨c,_,rfl⟩:=nj (P:=env.P) (t:=42) (by simp) _ _ h4
 have h6:=iv (P:=env.P) Cb h5
 obtain⟨m,y1,s1,rfl,i1,y2,s2,rfl,i2,rfl⟩:=h6
 obtain⟨g,_,rfl⟩:=nj (P:=env.P) (t:=3) (by simp) _ _ i1
 obtain⟨z,_,rfl⟩:=La _ _ i2
 exact⟨(⟨k,u,q.1,c,g,z.1,z.2.1,z.2.2⟩,q.2),hq,rfl⟩
theorem N4{n:Nat}{x:AV}(h:ShV env.P n 62 x) : ∃p:Rcd × AV,Sl 1 (rows p.1.op.l) p.2∧x=p.1.val p.2:=by
 obtain⟨y,rfl,h'⟩:=h.agg (by simp)
 obtain⟨q,hq,rfl⟩:=FB _ _ h'
 exact⟨q,hq,rfl⟩
theorem KS{n:Nat}{x:AV}(h:ShV env.P n 26 x) : ∃(l:List (Rcd × AV)),(∀p∈l,Sl 1 (rows p.1.op.l) p.2)∧Sl 24 (dA l) x:=by
 obtain⟨l,z,hl,e,s⟩:=uW (P:=env.P) HA Hv KJ FB (h.cell (by simp))
 cases e
 exact⟨l,hl,s⟩
theorem Og:Rep env.P 58 (fun _=>True) Clear.enc:=by
 intro n xs h
 have h:=iv (P:=env.P) we h
 obtain⟨m,x,r,rfl,h1,y,r',rfl,h2,rfl⟩:=h
 obtain⟨p,_,rfl⟩:=vC _ _ h1
 obtain⟨b,_,rfl⟩:=CU (P:=env.P) (t:=4) (by simp) _ _ h2
 exact⟨⟨p.1,p.2,b⟩,trivial,rfl⟩
theorem Of:Rep env.P 81 (fun _=>True) Quota.enc:=by
 intro n xs h
 have h:=iv (P:=env.P) B9 h
 obtain⟨m,x,r,rfl,h1,y,r',rfl,h2,z,r'',rfl,h3,w,r3,rfl,h4,rfl⟩:=h
 obtain⟨p,_,rfl⟩:=vC _ _ h1
 obtain⟨i,_,rfl⟩:=nj (P:=env.P) (t:=3) (by simp) _ _ h2
 obtain⟨j,_,rfl⟩:=nj (P:=env.P) (t:=3) (by simp) _ _ h3
 obtain⟨k,_,rfl⟩:=nj (P:=env.P) (t:=3) (by simp) _ _ h4
 exact⟨⟨p.1,p.2,i,j,k⟩,trivial,rfl⟩
theorem N5{n:Nat}{x:AV}(h:ShV env.P n 25 x) : ∃(us:List Clear) (qs:List Quota) (gr:Int) (xu xq:AV),x = .agg [xu,xq,aI gr]∧Sl 3 (gY us) xu∧Sl 5 (iq qs) xq:=by
 obtain⟨y0,rfl,h0'⟩:=h.agg (by simp)
 have h0:=iv (P:=env.P) Ch h0'
 obtain⟨m,u,r,rfl,hu,q,r',rfl,hq,g,r'',rfl,hg,rfl⟩:=h0
 have hu:=uW (P:=env.P) HC Hw KK Og hu
 obtain⟨us,xu,_,rfl,su⟩:=hu
 have hq:=uW (P:=env.P) HB Hu KI Of hq
 obtain⟨qs,xq,_,rfl,sq⟩:=hq
 obtain⟨gr,_,rfl⟩:=nj (P:=env.P) (t:=3) (by simp) _ _ hg
 exact⟨us,qs,gr,xu,xq,rfl,su,sq⟩
end Go.Proofs.YtmkmimgokagimaaGreat
