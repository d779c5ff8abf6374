/-
  Records of two lists compared. No statement of a seat is proved here.
-/
import Derived.Test.YtiidajnodhkidaaGreatLogScan
import Derived.Test.YtiidajnodhkidaaGreatMStOk
import Derived.Test.YtiidajnodhkidaaGreatMOpMath
set_option linter.unusedVariables false
set_option linter.unusedSimpArgs false
set_option linter.unusedSectionVars false
set_option linter.unnecessarySimpa false
set_option maxRecDepth 100000
namespace Go.Proofs.YtiidajnodhkidaaGreat
open Go.Ab
attribute [local simp] cx bP bT bS keep thr cF bH bU eF eE cM cE aY dq List.take_of_length_le
theorem SM(a_1:UInt8)(a_2:UInt8)(a_3:UInt32)(a_4:UInt8)(a_5:Int)(a_6:UInt8)(a_7:UInt32)(a_8:UInt8)(a_9:Int)(a_10:Int)(a_11:UInt8)(a_12:UInt32)(a_13:UInt8)(a_14:Int)(a_15:UInt8)(a_16:UInt32)(b_1:UInt8)(b_2:UInt8)(b_3:UInt32)(b_4:UInt8)(b_5:Int)(b_6:UInt8)(b_7:UInt32)(b_8:UInt8)(b_9:Int)(b_10:Int)(b_11:UInt8)(b_12:UInt32)(b_13:UInt8)(b_14:Int)(b_15:UInt8)(b_16:UInt32){x y:AV}{l m:List Int}(hx:Sl 1 (rows l) x)(hy:Sl 1 (rows m) y)(hl:l.length<1000000000)(hm:m.length<1000000000):limf env 85 [.agg [a8 a_1,a8 a_2,a32 a_3,a8 a_4,aI a_5,a8 a_6,a32 a_7,a8 a_8,aI a_9,aI a_10,a8 a_11,a32 a_12,a8 a_13,aI a_14,a8 a_15,a32 a_16,x],.agg [a8 b_1,a8 b_2,a32 b_3,a8 b_4,aI b_5,a8 b_6,a32 b_7,a8 b_8,aI b_9,aI b_10,a8 b_11,a32 b_12,a8 b_13,aI b_14,a8 b_15,a32 b_16,y]]=some (aB (zb (⟨a_1,⟨a_2,a_3,a_4⟩,a_5,⟨⟨⟨a_6,a_7,a_8⟩,a_9⟩,a_10⟩,⟨⟨a_11,a_12,a_13⟩,a_14⟩,⟨a_15,a_16⟩,l⟩:Opn) (⟨b_1,⟨b_2,b_3,b_4⟩,b_5,⟨⟨⟨b_6,b_7,b_8⟩,b_9⟩,b_10⟩,⟨⟨b_11,b_12,b_13⟩,b_14⟩,⟨b_15,b_16⟩,m⟩:Opn))):=by
 refine aG (fn:=Tryz.f85) (c:=kL) rfl (by kernel_rfl) (by kernel_rfl) (by kernel_rfl) (by kernel_rfl) ?_;refine pa _ _ _ _ fun g=>?_
 have hq:=LC hx hy (by omega)
 have hr:=hx.r
 have hr2:=hy.r
 unfold zb
 cases c1:decide (a_1=b_1) with
 | false=>simp[af,ah,ad,ae,aa, *,cY,eqA,eqFs]
 | true =>
 cases c2:(decide (a_2=b_2)&&decide (a_3=b_3)&&decide (a_4=b_4)) with
 | false=>simp[af,ah,ad,ae,aa, *,cY,eqA,eqFs]
 | true =>
 cases c3:decide (a_5=b_5) with
 | false=>simp[af,ah,ad,ae,aa, *,cY,eqA,eqFs]
 | true =>
 cases c4:(decide (a_6=b_6)&&decide (a_7=b_7)&&decide (a_8=b_8)&&decide (a_9=b_9)&&decide (a_10=b_10)) with
 | false=>simp[af,ah,ad,ae,aa, *,cY,eqA,eqFs]
 | true =>
 cases c5:(decide (a_11=b_11)&&decide (a_12=b_12)&&decide (a_13=b_13)&&decide (a_14=b_14)) with
 | false=>simp[af,ah,ad,ae,aa, *,cY,eqA,eqFs]
 | true =>
 cases c6:(decide (a_15=b_15)&&decide (a_16=b_16)) with
 | false=>simp[af,ah,ad,ae,aa, *,cY,eqA,eqFs]
 | true=>simp[af,ah,ad,ae,aa, *,cY,eqA,eqFs]
theorem Pc(k1 k2:UInt8)(u1 u2:Int)(a_1:UInt8)(a_2:UInt8)(a_3:UInt32)(a_4:UInt8)(a_5:Int)(a_6:UInt8)(a_7:UInt32)(a_8:UInt8)(a_9:Int)(a_10:Int)(a_11:UInt8)(a_12:UInt32)(a_13:UInt8)(a_14:Int)(a_15:UInt8)(a_16:UInt32)(b_1:UInt8)(b_2:UInt8)(b_3:UInt32)(b_4:UInt8)(b_5:Int)(b_6:UInt8)(b_7:UInt32)(b_8:UInt8)(b_9:Int)(b_10:Int)(b_11:UInt8)(b_12:UInt32)(b_13:UInt8)(b_14:Int)(b_15:UInt8)(b_16:UInt32)(c1 c2 g1 g2:Int)(v1 v2:UInt8)(w1 w2:UInt32)(o1 o2:Bool){x y:AV}{l m:List Int}(hx:Sl 1 (rows l) x)(hy:Sl 1 (rows m) y)(hl:l.length<1000000000)(hm:m.length<1000000000) :
 limf env 52 [.agg [a8 k1,aI u1,a8 a_1,a8 a_2,a32 a_3,a8 a_4,aI a_5,a8 a_6,a32 a_7,a8 a_8,aI a_9,aI a_10,a8 a_11,a32 a_12,a8 a_13,aI a_14,a8 a_15,a32 a_16,x,aI c1,aI g1,a8 v1,a32 w1,aB o1],.agg [a8 k2,aI u2,a8 b_1,a8 b_2,a32 b_3,a8 b_4,aI b_5,a8 b_6,a32 b_7,a8 b_8,aI b_9,aI b_10,a8 b_11,a32 b_12,a8 b_13,aI b_14,a8 b_15,a32 b_16,y,aI c2,aI g2,a8 v2,a32 w2,aB o2]] =
  some (aB (lZ ⟨k1,u1,(⟨a_1,⟨a_2,a_3,a_4⟩,a_5,⟨⟨⟨a_6,a_7,a_8⟩,a_9⟩,a_10⟩,⟨⟨a_11,a_12,a_13⟩,a_14⟩,⟨a_15,a_16⟩,l⟩:Opn),c1,g1,v1,w1,o1⟩ ⟨k2,u2,(⟨b_1,⟨b_2,b_3,b_4⟩,b_5,⟨⟨⟨b_6,b_7,b_8⟩,b_9⟩,b_10⟩,⟨⟨b_11,b_12,b_13⟩,b_14⟩,⟨b_15,b_16⟩,m⟩:Opn),c2,g2,v2,w2,o2⟩)):=by
 refine aG (fn:=Tryz.f52) (c:=kK) rfl (by kernel_rfl) (by kernel_rfl) (by kernel_rfl) (by kernel_rfl) ?_;refine o9 _ _ _ _ fun g=>?_
 have hq:=SM a_1 a_2 a_3 a_4 a_5 a_6 a_7 a_8 a_9 a_10 a_11 a_12 a_13 a_14 a_15 a_16 b_1 b_2 b_3 b_4 b_5 b_6 b_7 b_8 b_9 b_10 b_11 b_12 b_13 b_14 b_15 b_16 hx hy hl hm
 have hr:=hx.r
 have hr2:=hy.r
 unfold lZ
 cases e1:decide (k1=k2) with
 | false=>simp[af,ah,ad,ae,aa, *,dR,eqA,eqFs]
 | true =>
 cases e2:decide (u1=u2) with
 | false=>simp[af,ah,ad,ae,aa, *,dR,eqA,eqFs]
 | true =>
 cases e3:zb (⟨a_1,⟨a_2,a_3,a_4⟩,a_5,⟨⟨⟨a_6,a_7,a_8⟩,a_9⟩,a_10⟩,⟨⟨a_11,a_12,a_13⟩,a_14⟩,⟨a_15,a_16⟩,l⟩:Opn) (⟨b_1,⟨b_2,b_3,b_4⟩,b_5,⟨⟨⟨b_6,b_7,b_8⟩,b_9⟩,b_10⟩,⟨⟨b_11,b_12,b_13⟩,b_14⟩,⟨b_15,b_16⟩,m⟩:Opn) with
 | false=>simp[af,ah,ad,ae,aa, *,dR,eqA,eqFs]
 | true =>
 cases e4:decide (c1=c2) with
 | false=>simp[af,ah,ad,ae,aa, *,dR,eqA,eqFs]
 | true=>simp[af,ah,ad,ae,aa, *,dR,eqA,eqFs]
def okRc(p:Rcd × AV):Prop:=Sl 1 (rows p.1.op.l) p.2∧p.1.op.l.length<1000000
def bB(l:List (Rcd × AV)):List AV:=l.map fun p=>p.1.val p.2
@[simp] theorem jf(l:List (Rcd × AV)):(bB l).length=l.length:=by simp[bB]
def rcs(l:List (Rcd × AV)):List Rcd:=l.map (·.1)
@[simp] theorem xA(l:List (Rcd × AV)):(rcs l).length=l.length:=by simp[rcs]
theorem IE(a b:Rcd):lZ a b=true↔a=b:=⟨wJ,fun h=>by rw[h];exact GN b⟩
theorem WY{p q:Rcd × AV}(hp:okRc p)(hq:okRc q):limf env 52 [p.1.val p.2,q.1.val q.2]=some (aB (lZ p.1 q.1)):=by
 obtain⟨⟨k,u,⟨a_1,⟨a_2,a_3,a_4⟩,a_5,⟨⟨⟨a_6,a_7,a_8⟩,a_9⟩,a_10⟩,⟨⟨a_11,a_12,a_13⟩,a_14⟩,⟨a_15,a_16⟩,l⟩,c,g,v,w,o⟩,x⟩:=p
 obtain⟨⟨k',u',⟨b_1,⟨b_2,b_3,b_4⟩,b_5,⟨⟨⟨b_6,b_7,b_8⟩,b_9⟩,b_10⟩,⟨⟨b_11,b_12,b_13⟩,b_14⟩,⟨b_15,b_16⟩,m⟩,c',g',v',w',o'⟩,y⟩:=q
 exact Pc k k' u u' a_1 a_2 a_3 a_4 a_5 a_6 a_7 a_8 a_9 a_10 a_11 a_12 a_13 a_14 a_15 a_16 b_1 b_2 b_3 b_4 b_5 b_6 b_7 b_8 b_9 b_10 b_11 b_12 b_13 b_14 b_15 b_16 c c' g g' v v' w w' o o' hp.1 hq.1 (by have:=hp.2;simp at this;omega) (by have:=hq.2;simp at this;omega)
def kp:List Rcd→List Rcd→Bool
 | [],[]=>true
 | a :: l,b :: m=>lZ a b&&kp l m
 | _,_=>false
theorem CK : ∀(l m:List Rcd),kp l m=true↔l=m:=by
 intro l
 induction l with
 | nil=>intro m;cases m<;>simp[kp]
 | cons a l ih=>intro m;cases m with
  | nil=>simp[kp]
  | cons b m=>simp[kp,IE,ih]
theorem kR(l:List Rcd):kp l l=true:=(CK l l).2 rfl
theorem CJ{l m:List Rcd}(h:l.length≠m.length):kp l m=false:=by
 cases e:kp l m with
 | false=>rfl
 | true=>exact absurd (congrArg List.length ((CK l m).1 e)) h
section
variable{l m:List (Rcd × AV)}{x y:AV}(hx:Sl 24 (bB l) x)(hy:Sl 24 (bB m) y)(hl : ∀p∈l,okRc p)(hm : ∀p∈m,okRc p)(hbig:l.length<1000000)
include hx hy hl hm hbig
theorem CL(hlm:l.length=m.length){Q:AV→Heap→Prop}{H:Heap} : ∀(s t:List (Rcd × AV)) (k:Nat) (i:Int),l.drop k=s→m.drop k=t→k≤l.length→i=k→(Q (aB (kp (rcs s) (rcs t))) H) →
 GoL env Tryz.f21 0 eA [(5,aI i),(1,y),(0,x)] H Q:=by
 intro s
 induction s with
 | nil =>
  rintro t k i hs ht hk rfl hQ
  obtain rfl:=drop_nil hs hk
  rw[hlm,List.drop_length]at ht
  subst ht
  refine iT _ _ _ _ _ fun g=>?_
  simp[af,ah,ad,ae,aa, *,eB,hx.r]
  all_goals simpa [rcs,kp] using hQ
 | cons p s ih =>
  rintro t k i hs ht hk rfl hQ
  obtain⟨hlt,hg,hs',hg'⟩:=drop_cons hs
  have hlt2:k<m.length:=by omega
  obtain⟨q,t',rfl⟩ : ∃q t',t=q :: t':=by
   cases t with
   | nil=>have:=congrArg List.length ht;simp at this;omega
   | cons q t'=>exact⟨q,t',rfl⟩
  obtain⟨_,hgm,ht',hgm'⟩:=drop_cons ht
  have hpx:=hl p (hg ▸ List.getElem_mem _)
  have hpy:=hm q (hgm ▸ List.getElem_mem _)
  have hq:=WY hpx hpy
  have e3:=IntWalk.i64_in ((k:Int)+1) (by omega)
  have hih:=ih t' (k+1) ((k:Int)+1) hs' ht' (by omega) (by simp)
  have hr1:=hpx.1.r
  have hr2:=hpy.1.r
  have hrd1:dV (bB l) k 0 24 true=some (p.1.val p.2):=by simp[bB,hg',Rcd.val]
  have hrd2:dV (bB m) k 0 24 true=some (q.1.val q.2):=by simp[bB,hgm',Rcd.val]
  have hQ':Q (aB (lZ p.1 q.1&&kp (rcs s) (rcs t'))) H:=hQ
  clear ih hQ hl hm
  unfold Rcd.val at hq hrd1 hrd2
  generalize lZ p.1 q.1=e at *
  refine iT _ _ _ _ _ fun g=>?_
  cases e with
  | false=>simp[af,ah,ad,ae,aa, *,eB,hx.r,hx.idx,hy.r,hy.idx];simpa using hQ'
  | true =>
   rw[Bool.true_and]at hQ'
   have hih':=hih hQ'
   clear hih hQ'
   simp[af,ah,ad,ae,aa, *,eB,hx.r,hx.idx,hy.r,hy.idx]
theorem tC:limf env 21 [x,y]=some (aB (kp (rcs l) (rcs m))):=by
 refine aG (fn:=Tryz.f21) (c:=gk) rfl (by kernel_rfl) (by kernel_rfl) (by kernel_rfl) (by kernel_rfl) ?_;refine nE _ _ _ _ fun g=>?_
 by_cases hlm:l.length=m.length
 ·have h:=CL hx hy hl hm hbig hlm (Q:=fun v H=>gX env 21 v H (aB (kp (rcs l) (rcs m)))) (H:=[]) l m 0 0 rfl rfl (by omega) rfl (by simp)
  have h1:=hx.r
  have h2:=hy.r
  rw[jf]at h1 h2
  rw[hlm]at h1
  clear hl hm
  simp[af,ah,ad,ae,aa, *,gl]
  exact h
 ·have hne : ¬(l.length:Int)=m.length:=by omega
  rw[CJ (by simpa using hlm)]
  clear hl hm
  simp[af,ah,ad,ae,aa, *,gl,hx.r,hy.r]
end
section
variable{l:List (Rcd × AV)}{x:AV}(hx:Sl 24 (bB l) x)(hl : ∀p∈l,Sl 1 (rows p.1.op.l) p.2)(most:Int)
include hx hl
end
end Go.Proofs.YtiidajnodhkidaaGreat
set_option maxRecDepth 1000000
namespace Go.Ab
def Han.enc(h:Han):List AV:=[a8 h.lv,a32 h.cats,a8 h.num]
def Idd.enc(i:Idd):List AV:=[a8 i.h.lv,a32 i.h.cats,a8 i.h.num,aI i.n]
def Spn.enc(s:Spn):List AV:=[a8 s.f.h.lv,a32 s.f.h.cats,a8 s.f.h.num,aI s.f.n,aI s.many]
end Go.Ab
namespace Go.Proofs.YtiidajnodhkidaaGreat
open Go.Ab Go.ChangeShapes Go.WideShapes Go.RowKit
theorem Er:Rep env.P 36 (fun _=>True) (fun p:UInt8 × UInt32=>[a8 p.1,a32 p.2]):=by
 intro n xs h
 have h:=kn (P:=env.P) E8 h
 obtain⟨m,x,r,rfl,h1,y,r',rfl,h2,rfl⟩:=h
 obtain⟨v,_,rfl⟩:=I7 (P:=env.P) (t:=5) (by simp) _ _ h1
 obtain⟨w,_,rfl⟩:=SY (P:=env.P) (t:=34) (by simp) _ _ h2
 exact⟨(v,w),trivial,rfl⟩
theorem I6:Rep env.P 38 (fun _=>True) Han.enc:=by
 intro n xs h
 have h:=kn (P:=env.P) E7 h
 obtain⟨m,x,r,rfl,h1,y,r',rfl,h2,rfl⟩:=h
 obtain⟨p,_,rfl⟩:=Er _ _ h1
 obtain⟨w,_,rfl⟩:=I7 (P:=env.P) (t:=5) (by simp) _ _ h2
 exact⟨⟨p.1,p.2,w⟩,trivial,rfl⟩
theorem I5:Rep env.P 40 (fun _=>True) Idd.enc:=by
 intro n xs h
 have h:=kn (P:=env.P) E6 h
 obtain⟨m,x,r,rfl,h1,y,r',rfl,h2,rfl⟩:=h
 obtain⟨p,_,rfl⟩:=I6 _ _ h1
 obtain⟨i,_,rfl⟩:=qy (P:=env.P) (t:=3) (by simp) _ _ h2
 exact⟨⟨p,i⟩,trivial,rfl⟩
theorem Ps:Rep env.P 42 (fun _=>True) Spn.enc:=by
 intro n xs h
 have h:=kn (P:=env.P) E5 h
 obtain⟨m,x,r,rfl,h1,y,r',rfl,h2,rfl⟩:=h
 obtain⟨p,_,rfl⟩:=I5 _ _ h1
 obtain⟨i,_,rfl⟩:=qy (P:=env.P) (t:=3) (by simp) _ _ h2
 exact⟨⟨p,i⟩,trivial,rfl⟩
theorem Lu{n:Nat}{xs:List AV}(h:ShC env.P n 43 xs) : ∃(l:List Int) (x:AV),(∀a∈l, -2147483648≤a∧a≤2147483647)∧xs=[x]∧Sl 1 (rows l) x:=by
 obtain⟨l,x,hl,rfl,s⟩:=FJ (P:=env.P) Lm Lj OO (Pq (by simp)) h
 exact⟨l,x,hl,rfl,s⟩
theorem SH{n:Nat}{x:AV}(h:ShV env.P n 3 x) : ∃i:Int,(-9223372036854775808≤i∧i≤9223372036854775807)∧x=aI i:=by
 obtain⟨i,hi,e⟩:=qy (P:=env.P) (t:=3) (by simp) _ _ (h.cell (by simp))
 cases e
 exact⟨i,hi,rfl⟩
def T3(p:Opn × AV):List AV:=[a8 p.1.kind,a8 p.1.h.lv,a32 p.1.h.cats,a8 p.1.h.num,aI p.1.serial,a8 p.1.s.f.h.lv,a32 p.1.s.f.h.cats,a8 p.1.s.f.h.num,aI p.1.s.f.n,aI p.1.s.many,
 a8 p.1.a.h.lv,a32 p.1.a.h.cats,a8 p.1.a.h.num,aI p.1.a.n,a8 p.1.to.lv,a32 p.1.to.cats,p.2]
theorem Pu:Rep env.P 45 (fun p:Opn × AV=>Sl 1 (rows p.1.l) p.2) T3:=by
 intro n xs h
 have h:=kn (P:=env.P) E4 h
 obtain⟨m,x1,r1,rfl,h1,x2,r2,rfl,h2,x3,r3,rfl,h3,x4,r4,rfl,h4,x5,r5,rfl,h5,x6,r6,rfl,h6,x7,r7,rfl,h7,rfl⟩:=h
 obtain⟨k,_,rfl⟩:=I7 (P:=env.P) (t:=5) (by simp) _ _ h1
 obtain⟨hh,_,rfl⟩:=I6 _ _ h2
 obtain⟨se,_,rfl⟩:=qy (P:=env.P) (t:=3) (by simp) _ _ h3
 obtain⟨s,_,rfl⟩:=Ps _ _ h4
 obtain⟨a,_,rfl⟩:=I5 _ _ h5
 obtain⟨t,_,rfl⟩:=Er _ _ h6
 obtain⟨l,y,_,rfl,sl⟩:=Lu h7
 exact⟨(⟨k,hh,se,s,a,⟨t.1,t.2⟩,l⟩,y),sl,rfl⟩
theorem own:ownKnob Tryz.prog.godebug=none:=by kernel_rfl
theorem kids:Kids Tryz.prog (· < Tryz.prog.types.size):=kids_rows (by kernel_rfl) (by kernel_rfl)
end Go.Proofs.YtiidajnodhkidaaGreat
namespace Go.Proofs.YtiidajnodhkidaaGreat
open Go.Ab Go.ChangeShapes Go.WideShapes Go.RowKit
theorem Pv:Rep env.P 47 (fun _=>True) (fun p:UInt8 × UInt32 × Bool=>[a8 p.1,a32 p.2.1,aB p.2.2]):=by
 intro n xs h
 have h:=kn (P:=env.P) E3 h
 obtain⟨m,x,r,rfl,h1,y,r',rfl,h2,rfl⟩:=h
 obtain⟨q,_,rfl⟩:=Er _ _ h1
 obtain⟨b,_,rfl⟩:=LQ (P:=env.P) (t:=4) (by simp) _ _ h2
 exact⟨(q.1,q.2,b),trivial,rfl⟩
def rcdC(p:Rcd × AV):List AV:=[a8 p.1.kind,aI p.1.user]++(T3 (p.1.op,p.2)++[aI p.1.code,aI p.1.gu,a8 p.1.gv,a32 p.1.gc,aB p.1.gok])
theorem Pt:Rep env.P 51 (fun p:Rcd × AV=>Sl 1 (rows p.1.op.l) p.2) rcdC:=by
 intro n xs h
 have h:=kn (P:=env.P) E1 h
 obtain⟨m,x1,r1,rfl,h1,x2,r2,rfl,h2,x3,r3,rfl,h3,x4,r4,rfl,h4,x5,r5,rfl,h5,rfl⟩:=h
 obtain⟨k,_,rfl⟩:=I7 (P:=env.P) (t:=5) (by simp) _ _ h1
 obtain⟨u,_,rfl⟩:=qy (P:=env.P) (t:=3) (by simp) _ _ h2
 obtain⟨q,hq,rfl⟩:=Pu _ _ h3
 obtain⟨c,_,rfl⟩:=qy (P:=env.P) (t:=30) (by simp) _ _ h4
 have h6:=kn (P:=env.P) E2 h5
 obtain⟨m,y1,s1,rfl,i1,y2,s2,rfl,i2,rfl⟩:=h6
 obtain⟨g,_,rfl⟩:=qy (P:=env.P) (t:=3) (by simp) _ _ i1
 obtain⟨z,_,rfl⟩:=Pv _ _ i2
 exact⟨(⟨k,u,q.1,c,g,z.1,z.2.1,z.2.2⟩,q.2),hq,rfl⟩
end Go.Proofs.YtiidajnodhkidaaGreat
