/-
  The arguments' data: labels, handles, ids, spans, rows, operations. No statement of a seat is proved here.
-/
import Derived.Test.YtmkmimgokagimaaGreatLeTy
import Derived.Test.YtmkmimgokagimaaGreatMOpFns
import Derived.Test.YtmkmimgokagimaaGreatLeTw
import Derived.Test.YtmkmimgokagimaaGreatMLePol
import Derived.Test.YtmkmimgokagimaaGreatMAliveLd
set_option linter.unusedVariables false
set_option linter.unusedSimpArgs false
set_option linter.unusedSectionVars false
set_option linter.unnecessarySimpa false
set_option maxRecDepth 1000000
namespace Go.Ab
def Han.enc(h:Han):List AV:=[a8 h.lv,a32 h.cats,a8 h.num]
def Idd.enc(i:Idd):List AV:=[a8 i.h.lv,a32 i.h.cats,a8 i.h.num,aI i.n]
def Spn.enc(s:Spn):List AV:=[a8 s.f.h.lv,a32 s.f.h.cats,a8 s.f.h.num,aI s.f.n,aI s.many]
end Go.Ab
namespace Go.Proofs.YtmkmimgokagimaaGreat
open Go.Ab Go.ChangeShapes Go.WideShapes Go.RowKit
theorem vN:Rep env.P 29 (fun _=>True) (fun p:UInt8 × UInt32=>[a8 p.1,a32 p.2]):=by
 intro n xs h
 have h:=ja (P:=env.P) EU h
 obtain⟨m,x,r,rfl,h1,y,r',rfl,h2,rfl⟩:=h
 obtain⟨v,_,rfl⟩:=La (P:=env.P) (t:=5) (by simp) _ _ h1
 obtain⟨w,_,rfl⟩:=Q4 (P:=env.P) (t:=27) (by simp) _ _ h2
 exact⟨(v,w),trivial,rfl⟩
theorem Ea:Rep env.P 31 (fun _=>True) Han.enc:=by
 intro n xs h
 have h:=ja (P:=env.P) ET h
 obtain⟨m,x,r,rfl,h1,y,r',rfl,h2,rfl⟩:=h
 obtain⟨p,_,rfl⟩:=vN _ _ h1
 obtain⟨w,_,rfl⟩:=La (P:=env.P) (t:=5) (by simp) _ _ h2
 exact⟨⟨p.1,p.2,w⟩,trivial,rfl⟩
theorem IC:Rep env.P 33 (fun _=>True) Idd.enc:=by
 intro n xs h
 have h:=ja (P:=env.P) ES h
 obtain⟨m,x,r,rfl,h1,y,r',rfl,h2,rfl⟩:=h
 obtain⟨p,_,rfl⟩:=Ea _ _ h1
 obtain⟨i,_,rfl⟩:=nD (P:=env.P) (t:=3) (by simp) _ _ h2
 exact⟨⟨p,i⟩,trivial,rfl⟩
theorem NV:Rep env.P 35 (fun _=>True) Spn.enc:=by
 intro n xs h
 have h:=ja (P:=env.P) ER h
 obtain⟨m,x,r,rfl,h1,y,r',rfl,h2,rfl⟩:=h
 obtain⟨p,_,rfl⟩:=IC _ _ h1
 obtain⟨i,_,rfl⟩:=nD (P:=env.P) (t:=3) (by simp) _ _ h2
 exact⟨⟨p,i⟩,trivial,rfl⟩
theorem KN{n:Nat}{xs:List AV}(h:ShC env.P n 36 xs) : ∃(l:List Int) (x:AV),(∀a∈l, -2147483648≤a∧a≤2147483647)∧xs=[x]∧Sl 1 (rows l) x:=by
 obtain⟨l,x,hl,rfl,s⟩:=xJ (P:=env.P) KG KF Ny (NU (by simp)) h
 exact⟨l,x,hl,rfl,s⟩
def RZ(p:Opn × AV):List AV:=[a8 p.1.kind,a8 p.1.h.lv,a32 p.1.h.cats,a8 p.1.h.num,aI p.1.serial,a8 p.1.s.f.h.lv,a32 p.1.s.f.h.cats,a8 p.1.s.f.h.num,aI p.1.s.f.n,aI p.1.s.many,
 a8 p.1.a.h.lv,a32 p.1.a.h.cats,a8 p.1.a.h.num,aI p.1.a.n,a8 p.1.to.lv,a32 p.1.to.cats,p.2]
theorem IB:Rep env.P 38 (fun p:Opn × AV=>Sl 1 (rows p.1.l) p.2) RZ:=by
 intro n xs h
 have h:=ja (P:=env.P) EP h
 obtain⟨m,x1,r1,rfl,h1,x2,r2,rfl,h2,x3,r3,rfl,h3,x4,r4,rfl,h4,x5,r5,rfl,h5,x6,r6,rfl,h6,x7,r7,rfl,h7,rfl⟩:=h
 obtain⟨k,_,rfl⟩:=La (P:=env.P) (t:=5) (by simp) _ _ h1
 obtain⟨hh,_,rfl⟩:=Ea _ _ h2
 obtain⟨se,_,rfl⟩:=nD (P:=env.P) (t:=3) (by simp) _ _ h3
 obtain⟨s,_,rfl⟩:=NV _ _ h4
 obtain⟨a,_,rfl⟩:=IC _ _ h5
 obtain⟨t,_,rfl⟩:=vN _ _ h6
 obtain⟨l,y,_,rfl,sl⟩:=KN h7
 exact⟨(⟨k,hh,se,s,a,⟨t.1,t.2⟩,l⟩,y),sl,rfl⟩
theorem own:ownKnob Tryz.prog.godebug=none:=by kernel_rfl
theorem kids:Kids Tryz.prog (· < Tryz.prog.types.size):=kids_rows (by kernel_rfl) (by kernel_rfl)
end Go.Proofs.YtmkmimgokagimaaGreat
namespace Go.Proofs.YtmkmimgokagimaaGreat
open Go.Ab Go.ChangeShapes Go.WideShapes Go.RowKit
theorem VT:env.Ok (Bc env):=JT (fg ldAlive.alive FR) (by kernel_rfl) JI (fun f t h=>by cases h) (fun f args H y H' h=>by cases h)
theorem NX:Rep env.P 58 (fun _=>True) (fun p:UInt8 × UInt32 × Bool=>[a8 p.1,a32 p.2.1,aB p.2.2]):=by
 intro n xs h
 have h:=ja (P:=env.P) yZ h
 obtain⟨m,x,r,rfl,h1,y,r',rfl,h2,rfl⟩:=h
 obtain⟨q,_,rfl⟩:=vN _ _ h1
 obtain⟨b,_,rfl⟩:=FE (P:=env.P) (t:=4) (by simp) _ _ h2
 exact⟨(q.1,q.2,b),trivial,rfl⟩
def rcdC(p:Rcd × AV):List AV:=[a8 p.1.kind,aI p.1.user]++(RZ (p.1.op,p.2)++[aI p.1.code,aI p.1.gu,a8 p.1.gv,a32 p.1.gc,aB p.1.gok])
theorem NW:Rep env.P 62 (fun p:Rcd × AV=>Sl 1 (rows p.1.op.l) p.2) rcdC:=by
 intro n xs h
 have h:=ja (P:=env.P) EN h
 obtain⟨m,x1,r1,rfl,h1,x2,r2,rfl,h2,x3,r3,rfl,h3,x4,r4,rfl,h4,x5,r5,rfl,h5,rfl⟩:=h
 obtain⟨k,_,rfl⟩:=La (P:=env.P) (t:=5) (by simp) _ _ h1
 obtain⟨u,_,rfl⟩:=nD (P:=env.P) (t:=3) (by simp) _ _ h2
 obtain⟨q,hq,rfl⟩:=IB _ _ h3
 obtain⟨c,_,rfl⟩:=nD (P:=env.P) (t:=42) (by simp) _ _ h4
 have h6:=ja (P:=env.P) EO h5
 obtain⟨m,y1,s1,rfl,i1,y2,s2,rfl,i2,rfl⟩:=h6
 obtain⟨g,_,rfl⟩:=nD (P:=env.P) (t:=3) (by simp) _ _ i1
 obtain⟨z,_,rfl⟩:=NX _ _ i2
 exact⟨(⟨k,u,q.1,c,g,z.1,z.2.1,z.2.2⟩,q.2),hq,rfl⟩
theorem NG{n:Nat}{x:AV}(h:ShV env.P n 26 x) : ∃(l:List (Rcd × AV)),(∀p∈l,Sl 1 (rows p.1.op.l) p.2)∧Sl 24 (dR l) x:=by
 obtain⟨l,z,hl,e,s⟩:=xJ (P:=env.P) KH KD Nw NW (h.cell (by simp))
 cases e
 exact⟨l,hl,s⟩
theorem Q3:Rep env.P 58 (fun _=>True) Clear.enc:=by
 intro n xs h
 have h:=ja (P:=env.P) yZ h
 obtain⟨m,x,r,rfl,h1,y,r',rfl,h2,rfl⟩:=h
 obtain⟨p,_,rfl⟩:=vN _ _ h1
 obtain⟨b,_,rfl⟩:=FE (P:=env.P) (t:=4) (by simp) _ _ h2
 exact⟨⟨p.1,p.2,b⟩,trivial,rfl⟩
theorem Q2:Rep env.P 81 (fun _=>True) Quota.enc:=by
 intro n xs h
 have h:=ja (P:=env.P) EM h
 obtain⟨m,x,r,rfl,h1,y,r',rfl,h2,z,r'',rfl,h3,w,r3,rfl,h4,rfl⟩:=h
 obtain⟨p,_,rfl⟩:=vN _ _ h1
 obtain⟨i,_,rfl⟩:=nD (P:=env.P) (t:=3) (by simp) _ _ h2
 obtain⟨j,_,rfl⟩:=nD (P:=env.P) (t:=3) (by simp) _ _ h3
 obtain⟨k,_,rfl⟩:=nD (P:=env.P) (t:=3) (by simp) _ _ h4
 exact⟨⟨p.1,p.2,i,j,k⟩,trivial,rfl⟩
theorem QS{n:Nat}{x:AV}(h:ShV env.P n 25 x) : ∃(us:List Clear) (qs:List Quota) (gr:Int) (xu xq:AV),x = .agg [xu,xq,aI gr]∧Sl 3 (eg us) xu∧Sl 5 (eK qs) xq:=by
 obtain⟨y0,rfl,h0'⟩:=h.agg (by simp)
 have h0:=ja (P:=env.P) EV h0'
 obtain⟨m,u,r,rfl,hu,q,r',rfl,hq,g,r'',rfl,hg,rfl⟩:=h0
 have hu:=xJ (P:=env.P) KJ KE Nx Q3 hu
 obtain⟨us,xu,_,rfl,su⟩:=hu
 have hq:=xJ (P:=env.P) KI KC Nv Q2 hq
 obtain⟨qs,xq,_,rfl,sq⟩:=hq
 obtain⟨gr,_,rfl⟩:=nD (P:=env.P) (t:=3) (by simp) _ _ hg
 exact⟨us,qs,gr,xu,xq,rfl,su,sq⟩
end Go.Proofs.YtmkmimgokagimaaGreat
