/-
  The arguments' data: labels, handles, ids, spans, rows, operations. No statement of a seat is proved here.
-/
import Derived.Test.YtmkmimgokagimaaGreatLeTy
import Derived.Test.YtmkmimgokagimaaGreatMOpFns
import Derived.Test.YtmkmimgokagimaaGreatLeTw
import Derived.Test.YtmkmimgokagimaaGreatMLePol
import Derived.Test.YtmkmimgokagimaaGreatAliveAd
set_option linter.unusedVariables false
set_option linter.unusedSimpArgs false
set_option linter.unusedSectionVars false
set_option linter.unnecessarySimpa false
set_option maxRecDepth 1000000
namespace Go.Ab
def Han.enc(h:Han):List AV:=[a8 h.lv,a32 h.cats,a8 h.num]
def Idd.enc(i:Idd):List AV:=[a8 i.h.lv,a32 i.h.cats,a8 i.h.num,aI i.n]
def Spn.enc(s:Spn):List AV:=[a8 s.f.h.lv,a32 s.f.h.cats,a8 s.f.h.num,aI s.f.n,aI s.many]
end Go.Ab
namespace Go.Proofs.YtmkmimgokagimaaGreat
open Go.Ab Go.ChangeShapes Go.WideShapes Go.RowKit
theorem zg:Rep env.P 29 (fun _=>True) (fun p:UInt8 × UInt32=>[a8 p.1,a32 p.2]):=by
 intro n xs h
 have h:=iM (P:=env.P) Fk h
 obtain⟨m,x,r,rfl,h1,y,r',rfl,h2,rfl⟩:=h
 obtain⟨v,_,rfl⟩:=Ls (P:=env.P) (t:=5) (by simp) _ _ h1
 obtain⟨w,_,rfl⟩:=RU (P:=env.P) (t:=27) (by simp) _ _ h2
 exact⟨(v,w),trivial,rfl⟩
theorem EA:Rep env.P 31 (fun _=>True) Han.enc:=by
 intro n xs h
 have h:=iM (P:=env.P) Fj h
 obtain⟨m,x,r,rfl,h1,y,r',rfl,h2,rfl⟩:=h
 obtain⟨p,_,rfl⟩:=zg _ _ h1
 obtain⟨w,_,rfl⟩:=Ls (P:=env.P) (t:=5) (by simp) _ _ h2
 exact⟨⟨p.1,p.2,w⟩,trivial,rfl⟩
theorem I1:Rep env.P 33 (fun _=>True) Idd.enc:=by
 intro n xs h
 have h:=iM (P:=env.P) Fi h
 obtain⟨m,x,r,rfl,h1,y,r',rfl,h2,rfl⟩:=h
 obtain⟨p,_,rfl⟩:=EA _ _ h1
 obtain⟨i,_,rfl⟩:=na (P:=env.P) (t:=3) (by simp) _ _ h2
 exact⟨⟨p,i⟩,trivial,rfl⟩
theorem OB:Rep env.P 35 (fun _=>True) Spn.enc:=by
 intro n xs h
 have h:=iM (P:=env.P) Fh h
 obtain⟨m,x,r,rfl,h1,y,r',rfl,h2,rfl⟩:=h
 obtain⟨p,_,rfl⟩:=I1 _ _ h1
 obtain⟨i,_,rfl⟩:=na (P:=env.P) (t:=3) (by simp) _ _ h2
 exact⟨⟨p,i⟩,trivial,rfl⟩
theorem K2{n:Nat}{xs:List AV}(h:ShC env.P n 36 xs) : ∃(l:List Int) (x:AV),(∀a∈l, -2147483648≤a∧a≤2147483647)∧xs=[x]∧Sl 1 (rows l) x:=by
 obtain⟨l,x,hl,rfl,s⟩:=yv (P:=env.P) KV KU Oa (OA (by simp)) h
 exact⟨l,x,hl,rfl,s⟩
def SS(p:Opn × AV):List AV:=[a8 p.1.kind,a8 p.1.h.lv,a32 p.1.h.cats,a8 p.1.h.num,aI p.1.serial,a8 p.1.s.f.h.lv,a32 p.1.s.f.h.cats,a8 p.1.s.f.h.num,aI p.1.s.f.n,aI p.1.s.many,
 a8 p.1.a.h.lv,a32 p.1.a.h.cats,a8 p.1.a.h.num,aI p.1.a.n,a8 p.1.to.lv,a32 p.1.to.cats,p.2]
theorem I0:Rep env.P 38 (fun p:Opn × AV=>Sl 1 (rows p.1.l) p.2) SS:=by
 intro n xs h
 have h:=iM (P:=env.P) Fg h
 obtain⟨m,x1,r1,rfl,h1,x2,r2,rfl,h2,x3,r3,rfl,h3,x4,r4,rfl,h4,x5,r5,rfl,h5,x6,r6,rfl,h6,x7,r7,rfl,h7,rfl⟩:=h
 obtain⟨k,_,rfl⟩:=Ls (P:=env.P) (t:=5) (by simp) _ _ h1
 obtain⟨hh,_,rfl⟩:=EA _ _ h2
 obtain⟨se,_,rfl⟩:=na (P:=env.P) (t:=3) (by simp) _ _ h3
 obtain⟨s,_,rfl⟩:=OB _ _ h4
 obtain⟨a,_,rfl⟩:=I1 _ _ h5
 obtain⟨t,_,rfl⟩:=zg _ _ h6
 obtain⟨l,y,_,rfl,sl⟩:=K2 h7
 exact⟨(⟨k,hh,se,s,a,⟨t.1,t.2⟩,l⟩,y),sl,rfl⟩
theorem own:ownKnob Tryz.prog.godebug=none:=by kernel_rfl
theorem kids:Kids Tryz.prog (· < Tryz.prog.types.size):=kids_rows (by kernel_rfl) (by kernel_rfl)
end Go.Proofs.YtmkmimgokagimaaGreat
namespace Go.Proofs.YtmkmimgokagimaaGreat
open Go.Ab Go.ChangeShapes Go.WideShapes Go.RowKit
theorem W7:env.Ok (BJ env):=Ke (cK adAlive.alive Gi) (by kernel_rfl) J3 (fun f t h=>by cases h) (fun f args H y H' h=>by cases h)
theorem OD:Rep env.P 58 (fun _=>True) (fun p:UInt8 × UInt32 × Bool=>[a8 p.1,a32 p.2.1,aB p.2.2]):=by
 intro n xs h
 have h:=iM (P:=env.P) zQ h
 obtain⟨m,x,r,rfl,h1,y,r',rfl,h2,rfl⟩:=h
 obtain⟨q,_,rfl⟩:=zg _ _ h1
 obtain⟨b,_,rfl⟩:=F5 (P:=env.P) (t:=4) (by simp) _ _ h2
 exact⟨(q.1,q.2,b),trivial,rfl⟩
def rcdC(p:Rcd × AV):List AV:=[a8 p.1.kind,aI p.1.user]++(SS (p.1.op,p.2)++[aI p.1.code,aI p.1.gu,a8 p.1.gv,a32 p.1.gc,aB p.1.gok])
theorem OC:Rep env.P 62 (fun p:Rcd × AV=>Sl 1 (rows p.1.op.l) p.2) rcdC:=by
 intro n xs h
 have h:=iM (P:=env.P) Fe h
 obtain⟨m,x1,r1,rfl,h1,x2,r2,rfl,h2,x3,r3,rfl,h3,x4,r4,rfl,h4,x5,r5,rfl,h5,rfl⟩:=h
 obtain⟨k,_,rfl⟩:=Ls (P:=env.P) (t:=5) (by simp) _ _ h1
 obtain⟨u,_,rfl⟩:=na (P:=env.P) (t:=3) (by simp) _ _ h2
 obtain⟨q,hq,rfl⟩:=I0 _ _ h3
 obtain⟨c,_,rfl⟩:=na (P:=env.P) (t:=42) (by simp) _ _ h4
 have h6:=iM (P:=env.P) Ff h5
 obtain⟨m,y1,s1,rfl,i1,y2,s2,rfl,i2,rfl⟩:=h6
 obtain⟨g,_,rfl⟩:=na (P:=env.P) (t:=3) (by simp) _ _ i1
 obtain⟨z,_,rfl⟩:=OD _ _ i2
 exact⟨(⟨k,u,q.1,c,g,z.1,z.2.1,z.2.2⟩,q.2),hq,rfl⟩
theorem Oh{n:Nat}{x:AV}(h:ShV env.P n 26 x) : ∃(l:List (Rcd × AV)),(∀p∈l,Sl 1 (rows p.1.op.l) p.2)∧Sl 24 (dX l) x:=by
 obtain⟨l,z,hl,e,s⟩:=yv (P:=env.P) KW KS N8 OC (h.cell (by simp))
 cases e
 exact⟨l,hl,s⟩
theorem RT:Rep env.P 58 (fun _=>True) Clear.enc:=by
 intro n xs h
 have h:=iM (P:=env.P) zQ h
 obtain⟨m,x,r,rfl,h1,y,r',rfl,h2,rfl⟩:=h
 obtain⟨p,_,rfl⟩:=zg _ _ h1
 obtain⟨b,_,rfl⟩:=F5 (P:=env.P) (t:=4) (by simp) _ _ h2
 exact⟨⟨p.1,p.2,b⟩,trivial,rfl⟩
theorem RS:Rep env.P 81 (fun _=>True) Quota.enc:=by
 intro n xs h
 have h:=iM (P:=env.P) Fc h
 obtain⟨m,x,r,rfl,h1,y,r',rfl,h2,z,r'',rfl,h3,w,r3,rfl,h4,rfl⟩:=h
 obtain⟨p,_,rfl⟩:=zg _ _ h1
 obtain⟨i,_,rfl⟩:=na (P:=env.P) (t:=3) (by simp) _ _ h2
 obtain⟨j,_,rfl⟩:=na (P:=env.P) (t:=3) (by simp) _ _ h3
 obtain⟨k,_,rfl⟩:=na (P:=env.P) (t:=3) (by simp) _ _ h4
 exact⟨⟨p.1,p.2,i,j,k⟩,trivial,rfl⟩
theorem RE{n:Nat}{x:AV}(h:ShV env.P n 25 x) : ∃(us:List Clear) (qs:List Quota) (gr:Int) (xu xq:AV),x = .agg [xu,xq,aI gr]∧Sl 3 (eN us) xu∧Sl 5 (eQ qs) xq:=by
 obtain⟨y0,rfl,h0'⟩:=h.agg (by simp)
 have h0:=iM (P:=env.P) Fl h0'
 obtain⟨m,u,r,rfl,hu,q,r',rfl,hq,g,r'',rfl,hg,rfl⟩:=h0
 have hu:=yv (P:=env.P) KY KT N9 RT hu
 obtain⟨us,xu,_,rfl,su⟩:=hu
 have hq:=yv (P:=env.P) KX KR N7 RS hq
 obtain⟨qs,xq,_,rfl,sq⟩:=hq
 obtain⟨gr,_,rfl⟩:=na (P:=env.P) (t:=3) (by simp) _ _ hg
 exact⟨us,qs,gr,xu,xq,rfl,su,sq⟩
end Go.Proofs.YtmkmimgokagimaaGreat
