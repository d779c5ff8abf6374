/-
  label.Greatest, and whether two trails are the same. No statement of a seat is proved here.
-/
import Derived.Test.YtdbiffjdomokfaaGreatAuJoin4
import Derived.Test.YtdbiffjdomokfaaGreatMAuFns2
set_option linter.unusedVariables false
set_option linter.unusedSimpArgs false
set_option linter.unusedSectionVars false
set_option linter.unnecessarySimpa false
set_option maxRecDepth 1000000
namespace Go.Proofs.YtdbiffjdomokfaaGreat
open Go.Ab
attribute [local simp] aU aK aG aW aV cz lT ba aO aQ cg cf bI bc ay bE gw
theorem ae0(a b:o3):gk env.P 20 67 [a8 a.h.lv,aw a.h.cats,a8 a.h.num,aI a.serial,aI a.code] [a8 b.h.lv,aw b.h.cats,a8 b.h.num,aI b.serial,aI b.code]=some (decide (a=b)):=by
 obtain⟨⟨i,d,e⟩,g,f⟩:=a
 obtain⟨⟨b1,b2,b3⟩,c,b5⟩:=b
 simp[gk,ca,and_assoc,zr]
theorem ahr:D6 env.P 67=true:=by kernel_rfl
theorem aed(a b:o3)(c d:Operand):bS env.P .neq 67 c d (some (.agg [a8 a.h.lv,aw a.h.cats,a8 a.h.num,aI a.serial,aI a.code])) (some (.agg [a8 b.h.lv,aw b.h.cats,a8 b.h.num,aI b.serial,aI b.code]))=some (aB (!decide (a=b)),[]):=by
 rw[CG ahr .neq (.inr rfl) c d (ae0 a b) rfl rfl (by kernel_rfl) (by kernel_rfl)];rfl
section
variable{x y:AV}{a b:List o3}(hx:Sl 5 (gz a) x)(hy:Sl 5 (gz b) y)(ha:a.length<=1000000)
include hx hy ha
theorem Lo(F:a.length=b.length){Q:AV->ai->Prop} : ∀(s t:List o3)(k:Nat)(i:Int)(H:ai),a.drop k=s->b.drop k=t->k<=a.length->i=k ->
 (∀H',Q (aB (decide (s=t))) H')->bB env Tryz.f17 0 iw [(5,aI i),(1,y),(0,x)] H Q:=by
 intro s
 induction s with
 | nil=>
  rintro t k i H hs f hk rfl d
  obtain rfl:=drop_nil hs hk
  obtain rfl:t=[]:=by rw[<-f,F];simp
  have l:=d H
  refine oO _ _ _ _ _ λg=>?_
  simp[af,ah,ad,ae,aa, *,kT,hx.r]
  simpa using l
 | cons e s C=>
  rintro t k i H hs f hk rfl d
  obtain⟨z,E,j,p⟩:=drop_cons hs
  match t,f,d with
  | [],f,d=>
   have:=congrArg List.length f
   simp at this;omega
  | w :: t,f,d=>
  obtain⟨m,u,q,c⟩:=drop_cons f
  have D:=IntWalk.i64_in ((k:Int)+1) (by omega)
  have A:bW (gz a) k 0 5 true=some e.enc:=by simp[gz,p,o3.enc]
  have n:bW (gz b) k 0 5 true=some w.enc:=by simp[gz,c,o3.enc]
  have o:=λH' (h:e=w)=>C t (k+1) _ H' j q (by omega) rfl (λB=>by have:=d B;rw[h]at this;simpa using this)
  have v:=λH' (h : ¬e=w)=>(by have:=d H';simpa [h] using this:Q (aB false) H')
  refine oO _ _ _ _ _ λg=>?_
  clear C d hs f j q E u p c
  simp[af,ah,ad,ae,aa, *,kT,hx.r,hy.r,hx.idx,hy.idx,z,m,A,n,o3.enc,aed,D]
  refine gU (λh=>?_) (λh=>?_)
  ·exact v _ (by simpa using h)
  ·simp[D];simpa using o _ (by simpa using h)
theorem Lq:aF env 17 [x,y]=some (aB (decide (a=b))):=by
 refine aH rfl (by kernel_rfl) (xw _ _ _ _ λg=>?_)
 by_cases f:a.length=b.length
 ·have h:=Lo hx hy ha f (Q:=λz H=>handed env 17 z H (aB (decide (a=b)))) a b 0 0 [] rfl rfl (by omega) rfl (λH'=>by simp)
  have c:(a.length:Int)=b.length:=by omega
  simp[af,ah,ad,ae,aa, *,mr,hx.r,hy.r,c]
  exact h
 ·have d : ¬a=b:=λe=>f (by rw[e])
  have c : ¬(a.length:Int)=b.length:=by omega
  simp[af,ah,ad,ae,aa, *,mr,hx.r,hy.r,c,d]
end
end Go.Proofs.YtdbiffjdomokfaaGreat
namespace Go.Proofs.YtdbiffjdomokfaaGreat
open Go.Ab
attribute [local simp] aU aK aG aW aV cz lT ba aO aQ cg cf bI bc ay bE gw
theorem OA{l:List Int}{x:AV}(m:Sl 1 (rows l) x)(O:l.length<100000)(w:UInt8)(u:UInt8)(E:UInt32)(D:UInt8)(v:Int)(p:UInt8)(A:UInt32)(F:UInt8)(o:Int)(f:Int)(d:UInt8)(b:UInt32)(e:UInt8)(a:Int)(j:UInt8)(c:UInt32){r:Ref}{H:ai}(N:H.get r=some ⟨17,[.agg [a8 w,a8 u,aw E,a8 D,aI v,a8 p,aw A,a8 F,aI o,aI f,a8 d,aw b,a8 e,aI a,a8 j,aw c,x]],false,false⟩){Q:AV->ai->Prop} :
 ∀(s:List Int)(k:Nat)(i:Int),l.drop k=s->k<=l.length->i=k->(∀y,y=aB (!decide (-1∈s))->Q y H) ->
 bB env Tryz.f53 0 gN [(3,aI i),(1,.ptr r 0 0)] H Q:=by
 intro s
 induction s with
 | nil=>
  rintro k i hs hk rfl hQ
  obtain rfl:=drop_nil hs hk
  refine nT _ _ _ _ λg=>?_
  have I:=m.r
  simp[af,ah,ad,ae,aa, *,gZ]
  all_goals exact hQ _ (by simp)
 | cons n s z=>
  rintro k i hs hk rfl hQ
  obtain⟨J,M,q,L⟩:=drop_cons hs
  refine nT _ _ _ _ λg=>?_
  have P:=IntWalk.i64_in ((k:Int)+1) (by omega)
  have I:=m.r
  by_cases G:n = -1
  ·have t:=hQ (aB false) (by simp[G])
   clear hQ z
   simp[af,ah,ad,ae,aa, *,gZ,m.idx,rows,aR]
   all_goals exact t
  ·have B : ¬ -1=n:=λh=>G h.symm
   have C:=z (k+1) ((k:Int)+1) q (by omega) (by simp) (λy K=>hQ y (by rw[K];simp[B]))
   clear z hQ
   simp[af,ah,ad,ae,aa, *,gZ,m.idx,rows,aR]
   all_goals exact C
theorem QW(o:UInt8)(m:UInt8)(t:UInt32)(q:UInt8)(n:Int)(k:UInt8)(p:UInt32)(u:UInt8)(j:Int)(h:Int)(d:UInt8)(b:UInt32)(f:UInt8)(a:Int)(i:UInt8)(c:UInt32){x:AV}{l:List Int}(v:Sl 1 (rows l) x)(w:l.length<100000):aF env 53 [.agg [a8 o,a8 m,aw t,a8 q,aI n,a8 k,aw p,a8 u,aI j,aI h,a8 d,aw b,a8 f,aI a,a8 i,aw c,x]]=some (aB (!decide (-1∈l))):=by
 refine aH rfl (by kernel_rfl) (wN _ _ _ λg=>?_)
 have z:=v.r
 simp[af,ah,ad,ae,aa, *,pF]
 exact OA v w o m t q n k p u j h d b f a i c (by simp) l 0 _ rfl (by omega) rfl (λy e=>by simp[e])
theorem Te(n:UInt8)(k:UInt8)(q:UInt32)(p:UInt8)(m:Int)(j:UInt8)(o:UInt32)(t:UInt8)(i:Int)(f:Int)(d:UInt8)(b:UInt32)(e:UInt8)(a:Int)(h:UInt8)(c:UInt32){x:AV}{l:List Int}(u:Sl 1 (rows l) x)(z:l.length<100000):aF env 26 [.agg [a8 n,a8 k,aw q,a8 p,aI m,a8 j,aw o,a8 t,aI i,aI f,a8 d,aw b,a8 e,aI a,a8 h,aw c,x]]=some (.agg [a8 n,a8 k,aw q,a8 p,aI m,a8 j,aw o,a8 t,aI i,aI f,a8 d,aw b,a8 e,aI a,a8 h,aw c,xU 1 (rows l)]):=by
 refine aH rfl (by kernel_rfl) (xH _ _ _ λg=>?_)
 have y:=u.r
 have w:l.length<=35184372088832/\l.length * 4<=140737488355328:=by omega
 by_cases v:rows l=[]
 ·simp[af,ah,ad,ae,aa, *,mv,u.kM,xU]
 ·rw[CL 1 v]
  simp[af,ah,ad,ae,aa, *,mv,u.kM]
theorem Q0(o:UInt8)(t:UInt8)(v:UInt32)(u:UInt8)(n:Int)(k:UInt8)(p:UInt32)(q:UInt8)(j:Int)(f:Int)(d:UInt8)(b:UInt32)(e:UInt8)(a:Int)(i:UInt8)(c:UInt32){x:AV}{l:List Int}(w:Sl 1 (rows l) x)(z:l.length<1000000000):aF env 50 [.agg [a8 o,a8 t,aw v,a8 u,aI n,a8 k,aw p,a8 q,aI j,aI f,a8 d,aw b,a8 e,aI a,a8 i,aw c,x]]=some (aB (nZ { (⟨o,⟨t,v,u⟩,n,⟨⟨⟨k,p,q⟩,j⟩,f⟩,⟨⟨d,b,e⟩,a⟩,⟨i,c⟩,l⟩:aN)with h:=⟨0,0,0⟩} xi)):=by
 have h:=Oc o 0 0 0 n k p q j f d b e a i c 0 0 0 0 0 0 0 0 0 0 0 0 0 0 0 0 w (y:=bZ) (m:=[]) (.inl ⟨rfl,rfl⟩) z (by simp)
 refine aH rfl (by kernel_rfl) (xD _ _ _ λg=>?_)
 simp[af,ah,ad,ae,aa, *,qp,w.r]
 rfl
theorem Tl(k:UInt8)(u:Int)(B:UInt8)(p:UInt8)(z:UInt32)(t:UInt8)(E:Int)(A:UInt8)(F:UInt32)(C:UInt8)(D:Int)(i:Int)(e:UInt8)(b:UInt32)(f:UInt8)(a:Int)(j:UInt8)(d:UInt32)(c I:Int)(v:UInt8)(w:UInt32)(o:Bool){x:AV}{l:List Int}(G:Sl 1 (rows l) x)(hl:l.length<100000)(hR:tF l) :
 aF env 37 [.agg [a8 k,aI u,a8 B,a8 p,aw z,a8 t,aI E,a8 A,aw F,a8 C,aI D,aI i,a8 e,aw b,a8 f,aI a,a8 j,aw d,x,aI c,aI I,a8 v,aw w,aB o]]=some (aB (dC ⟨k,u,(⟨B,⟨p,z,t⟩,E,⟨⟨⟨A,F,C⟩,D⟩,i⟩,⟨⟨e,b,f⟩,a⟩,⟨j,d⟩,l⟩:aN),c,I,v,w,o⟩)):=by
 have K:=Q0 B p z t E A F C D i e b f a j d G (by omega)
 have M:=Wn B p z t E A F C D i e b f a j d G (by omega) hR
 have O:=QW B p z t E A F C D i e b f a j d G hl
 have R:=Wm I v w o
 have N:=JZ p z t
 refine aH rfl (by kernel_rfl) (yC _ _ _ λg=>?_)
 have P:nZ { (⟨B,⟨p,z,t⟩,E,⟨⟨⟨A,F,C⟩,D⟩,i⟩,⟨⟨e,b,f⟩,a⟩,⟨j,d⟩,l⟩:aN)with h:=⟨0,0,0⟩} xi=nZ (⟨B,⟨p,z,t⟩,E,⟨⟨⟨A,F,C⟩,D⟩,i⟩,⟨⟨e,b,f⟩,a⟩,⟨j,d⟩,l⟩:aN) { xi with h:=⟨p,z,t⟩}:=by
  simp[nZ,xi]
 by_cases S:k=1
 ·subst S
  have J:dC ⟨1,u,(⟨B,⟨p,z,t⟩,E,⟨⟨⟨A,F,C⟩,D⟩,i⟩,⟨⟨e,b,f⟩,a⟩,⟨j,d⟩,l⟩:aN),c,I,v,w,o⟩=((decide (0<=u)&&decide (u<=255))&&(me ⟨p,z,t⟩&&(nZ { (⟨B,⟨p,z,t⟩,E,⟨⟨⟨A,F,C⟩,D⟩,i⟩,⟨⟨e,b,f⟩,a⟩,⟨j,d⟩,l⟩:aN)with h:=⟨0,0,0⟩} xi&&(decide (c=0)&&(decide (I=0)&&(decide (v=0)&&decide (w=0)&&decide (o=false))))))):=by
   rw[P];simp[dC,Cc,mC]
  rw[J]
  clear P J M O R
  generalize nZ { (⟨B,⟨p,z,t⟩,E,⟨⟨⟨A,F,C⟩,D⟩,i⟩,⟨⟨e,b,f⟩,a⟩,⟨j,d⟩,l⟩:aN)with h:=⟨0,0,0⟩} xi=n at *
  generalize me ⟨p,z,t⟩=hh at *
  cases n with
  | false=>simp[af,ah,ad,ae,aa, *,aY,G.r,K]
  | true=>
  cases hh with
  | false=>simp[af,ah,ad,ae,aa, *,aY,G.r,K,N]
  | true=>
  by_cases H:0<=u
  ·by_cases X:u<=255
   ·by_cases L:c=0
    ·simp[af,ah,ad,ae,aa, *,aY,G.r,K,N,H,X,L,gk,ca]
    ·simp[af,ah,ad,ae,aa, *,aY,G.r,K,N,H,X,L]
   ·simp[af,ah,ad,ae,aa, *,aY,G.r,K,N,H,X]
  ·simp[af,ah,ad,ae,aa, *,aY,G.r,K,N,H]
 ·by_cases H:u=0
  ·by_cases Q:k=2
   ·subst Q
    have J:dC ⟨2,u,(⟨B,⟨p,z,t⟩,E,⟨⟨⟨A,F,C⟩,D⟩,i⟩,⟨⟨e,b,f⟩,a⟩,⟨j,d⟩,l⟩:aN),c,I,v,w,o⟩=(mK (⟨B,⟨p,z,t⟩,E,⟨⟨⟨A,F,C⟩,D⟩,i⟩,⟨⟨e,b,f⟩,a⟩,⟨j,d⟩,l⟩:aN)&&(!decide (-1∈l)&&((decide (0<=c)&&decide (c<65536))&&(decide (I=0)&&(decide (v=0)&&decide (w=0)&&decide (o=false)))))):=by
     have hs : ∀q:aN,nZ q q=true:=λq=>by simp[nZ]
     simp only[dC,Cc,mC,hs,H,show ¬((2:UInt8)=1) from by decide,if_false,if_true,decide_true,nu]
     cases mK (⟨B,⟨p,z,t⟩,E,⟨⟨⟨A,F,C⟩,D⟩,i⟩,⟨⟨e,b,f⟩,a⟩,⟨j,d⟩,l⟩:aN)<;>cases decide (-1∈l)<;>cases decide (0<=c)<;>cases decide (c<65536)<;>simp
    rw[J]
    clear P J K N R
    generalize mK (⟨B,⟨p,z,t⟩,E,⟨⟨⟨A,F,C⟩,D⟩,i⟩,⟨⟨e,b,f⟩,a⟩,⟨j,d⟩,l⟩:aN)=n at *
    generalize W:decide (-1∈l)=pl at *
    clear W
    cases n with
    | false=>simp[af,ah,ad,ae,aa, *,aY,G.r,M,H]
    | true=>
    cases pl with
    | true=>simp[af,ah,ad,ae,aa, *,aY,G.r,M,O,H]
    | false=>
    by_cases L:0<=c
    ·by_cases Z:c<65536
     ·simp[af,ah,ad,ae,aa, *,aY,G.r,M,O,H,L,Z,gk,ca]
     ·simp[af,ah,ad,ae,aa, *,aY,G.r,M,O,H,L,Z]
    ·simp[af,ah,ad,ae,aa, *,aY,G.r,M,O,H,L]
   ·by_cases U:k=3
    ·subst U
     have Y:wV I v w o=(decide (0<=I)&&decide (I<8)&&ox v w o):=rfl
     have V:=Oc B p z t E A F C D i e b f a j d 0 0 0 0 0 0 0 0 0 0 0 0 0 0 0 0 G (y:=bZ) (m:=[]) (.inl ⟨rfl,rfl⟩) (by omega) (by simp)
     have J:dC ⟨3,u,(⟨B,⟨p,z,t⟩,E,⟨⟨⟨A,F,C⟩,D⟩,i⟩,⟨⟨e,b,f⟩,a⟩,⟨j,d⟩,l⟩:aN),c,I,v,w,o⟩=(nZ (⟨B,⟨p,z,t⟩,E,⟨⟨⟨A,F,C⟩,D⟩,i⟩,⟨⟨e,b,f⟩,a⟩,⟨j,d⟩,l⟩:aN) xi&&(decide (c=0)&&(decide (0<=I)&&decide (I<8)&&ox v w o))):=by
      rw[<-Y]
      simp only[dC,Cc,mC,H,show ¬((3:UInt8)=1) from by decide,show ¬((3:UInt8)=2) from by decide,if_false,if_true,decide_true,nu]
      cases wV I v w o<;>cases nZ (⟨B,⟨p,z,t⟩,E,⟨⟨⟨A,F,C⟩,D⟩,i⟩,⟨⟨e,b,f⟩,a⟩,⟨j,d⟩,l⟩:aN) xi<;>simp
     rw[J]
     have T:nZ (⟨B,⟨p,z,t⟩,E,⟨⟨⟨A,F,C⟩,D⟩,i⟩,⟨⟨e,b,f⟩,a⟩,⟨j,d⟩,l⟩:aN) ⟨0,⟨0,0,0⟩,0,⟨⟨⟨0,0,0⟩,0⟩,0⟩,⟨⟨0,0,0⟩,0⟩,⟨0,0⟩,[]⟩=nZ (⟨B,⟨p,z,t⟩,E,⟨⟨⟨A,F,C⟩,D⟩,i⟩,⟨⟨e,b,f⟩,a⟩,⟨j,d⟩,l⟩:aN) xi:=rfl
     rw[T]at V
     clear P J K N M O Y T
     generalize nZ (⟨B,⟨p,z,t⟩,E,⟨⟨⟨A,F,C⟩,D⟩,i⟩,⟨⟨e,b,f⟩,a⟩,⟨j,d⟩,l⟩:aN) xi=n at *
     generalize (decide (0<=I)&&decide (I<8)&&ox v w o)=m at *
     cases n with
     | false=>simp[af,ah,ad,ae,aa, *,aY,G.r,V,H]
     | true=>
      by_cases L:c=0
      ·simp[af,ah,ad,ae,aa, *,aY,G.r,V,R,H,L]
      ·simp[af,ah,ad,ae,aa, *,aY,G.r,V,H,L]
    ·have J:dC ⟨k,u,(⟨B,⟨p,z,t⟩,E,⟨⟨⟨A,F,C⟩,D⟩,i⟩,⟨⟨e,b,f⟩,a⟩,⟨j,d⟩,l⟩:aN),c,I,v,w,o⟩=false:=by simp[dC,S,Q,U]
     rw[J]
     clear P J K N M O R
     simp[af,ah,ad,ae,aa, *,aY,G.r,H,S,Q,U]
  ·have J:dC ⟨k,u,(⟨B,⟨p,z,t⟩,E,⟨⟨⟨A,F,C⟩,D⟩,i⟩,⟨⟨e,b,f⟩,a⟩,⟨j,d⟩,l⟩:aN),c,I,v,w,o⟩=false:=by
    simp only[dC,Cc,mC,S,if_false]
    by_cases Q:k=2
    ·simp[Q,H]
    ·by_cases U:k=3<;>simp[Q,U,H]
   rw[J]
   clear P J K N M O R
   simp[af,ah,ad,ae,aa, *,aY,G.r,H,S]
end Go.Proofs.YtdbiffjdomokfaaGreat
namespace Go.Proofs.YtdbiffjdomokfaaGreat
open Go.Ab
attribute [local simp] aU aK aG aW aV cz lT ba aO aQ cg cf bI bc ay bE gw
theorem Aj{l:List (cB × AV)}{k:Nat}{p:cB × AV}(h:l[k]?=some p)(j n:Nat)(a:Bool):bW (bh l) k j n a=bW [p.1.val p.2] 0 j n a:=by
 simp[bW,bh,h]
def iW(us:List Clear)(gr:Int):List (cB × AV)->List Clear × Int
 | []=>(us,gr)
 | p :: l=>if p.1.kind=3/\mP us gr p.1.gu=0 then iW (us.set p.1.gu.toNat ⟨p.1.gv,p.1.gc,p.1.gok⟩) (IntKind.i64.wrap (gr - 1)) l else iW us gr l
section
variable{qs:List aC}{l:List (cB × AV)}{x1:AV}(hx:Sl 24 (bh l) x1)(hql:qs.length<1000)(hl:l.length<100000)(hgu : ∀p∈l,p.1.kind=3->0<=p.1.gu)
include hx hql hl hgu
theorem Uj{r2 r4:Ref}(hn:r2≠r4){Q:AV->ai->Prop} : ∀(s:List (cB × AV)) (k:Nat) (us:List Clear) (gr:Int) (O N:AV) (H:ai),l.drop k=s->k<=l.length->Sl 3 (cW us) O->Sl 5 (cN qs) N->us.length<1000 ->
 H.get r2=some ⟨3,[.agg [O,N,aI gr]],false,false⟩->(∃a b c,H.get r4=some ⟨3,[.agg [a,b,c]],false,false⟩)->Fr H ->
 (∀H' f d,Sl 3 (cW (iW us gr s).1) f->Sl 5 (cN qs) d->Q (.agg [f,d,aI (iW us gr s).2]) H') ->
 bB env Tryz.f55 0 fJ [(5,aI k),(2,.ptr r2 0 0),(1,x1),(4,.ptr r4 0 0)] H Q:=by
 intro s
 induction s with
 | nil=>
  rintro k us gr O N H hs hk hu hq hul h2 ⟨a,b,c,B⟩ hF hQ
  obtain rfl:=drop_nil hs hk
  have C:=λH'=>hQ H' O N hu hq
  simp only[iW]at C
  refine iS _ _ _ _ _ _ λg=>?_
  have n:=cP l
  clear hQ
  simp[af,ah,ad,ae,aa, *,fO,hx.r,hu.r,hq.r,ai.get_put]
  all_goals exact C _
 | cons p s F=>
  rintro k us gr O N H hs hk hu hq hul h2 B hF hQ
  obtain⟨y,U,j,q⟩:=drop_cons hs
  have e1:=IntWalk.i64_in ((k:Int)+1) (by omega)
  have D:=Aj q
  have n:=cP l
  have hlt':(k:Int)<l.length:=by omega
  have V:=hgu p (U ▸ lM y)
  have A:(H.get r2).isSome=true:=by rw[h2];rfl
  by_cases t:p.1.kind=3
  ·by_cases E:mP us gr p.1.gu=0
   ·have J:=II (gr:=gr) hu hq hql hul p.1.gu p.1.gv p.1.gc p.1.gok (V t) E
    have i:=λH' X W Y=>F (k+1) (us.set p.1.gu.toNat ⟨p.1.gv,p.1.gc,p.1.gok⟩) (IntKind.i64.wrap (gr - 1)) _ _ H' j (by omega) (.inr ⟨none,rfl,by simp⟩) (FV 5 (cN qs)) (by simpa using hul) X W Y (λm f d z K=>by
     have:=hQ m f d
     rw[iW,if_pos ⟨t,E⟩]at this
     exact this z K)
    rw[show((k+1:Nat):Int)=(k:Int)+1 from by omega]at i
    have Z:=(FV 5 (cN qs)).r
    clear F hQ hs j U q hgu
    obtain⟨⟨k1,u,⟨a1,⟨a2,a3,a4⟩,a5,⟨⟨⟨a6,a7,L⟩,a9⟩,S⟩,⟨⟨M,P,G⟩,I⟩,⟨T,R⟩,al⟩,c,z,v,w,o⟩,x⟩:=p
    simp only at t
    subst t
    simp only at J i E
    generalize bh l=er at *
    generalize Ce 5 (cN qs)=vq at *
    generalize cW (us.set z.toNat ⟨v,w,o⟩)=ec at *
    refine iS _ _ _ _ _ _ λg=>?_
    simp[af,ah,ad,ae,aa, *,fO,hx.r,hx.idx,y,n,D,cB.val,hu.r,hq.r,Z,J,ai.get_put]
    obtain⟨ta,tb,tc,B⟩:=B
    refine i _ ?_ ⟨ta,tb,tc,?_⟩ (au hF A _)
    ·simp[ai.get_put]
    ·rw[ai.get_put,if_neg (λe=>hn e.symm)];exact B
   ·have J:=IH (gr:=gr) hu hq hql hul p.1.gu p.1.gv p.1.gc p.1.gok E
    have i:=λH' X W Y=>F (k+1) us gr _ _ H' j (by omega) hu hq hul X W Y (λm f d z K=>by
     have:=hQ m f d
     rw[iW,if_neg (λh=>E h.2)]at this
     exact this z K)
    rw[show((k+1:Nat):Int)=(k:Int)+1 from by omega]at i
    clear F hQ hs j U q hgu
    obtain⟨⟨k1,u,⟨a1,⟨a2,a3,a4⟩,a5,⟨⟨⟨a6,a7,L⟩,a9⟩,S⟩,⟨⟨M,P,G⟩,I⟩,⟨T,R⟩,al⟩,c,z,v,w,o⟩,x⟩:=p
    simp only at t
    subst t
    simp only at J E
    generalize bh l=er at *
    refine iS _ _ _ _ _ _ λg=>?_
    simp[af,ah,ad,ae,aa, *,fO,hx.r,hx.idx,y,n,D,cB.val,hu.r,hq.r,J,ai.get_put]
    obtain⟨ta,tb,tc,B⟩:=B
    refine i _ ?_ ⟨ta,tb,tc,?_⟩ (au hF A _)
    ·simp[ai.get_put]
    ·rw[ai.get_put,if_neg (λe=>hn e.symm)];exact B
  ·have i:=F (k+1) us gr _ _ H j (by omega) hu hq hul h2 B hF (λm f d z K=>by
    have:=hQ m f d
    rw[iW,if_neg (λh=>t h.1)]at this
    exact this z K)
   rw[show((k+1:Nat):Int)=(k:Int)+1 from by omega]at i
   clear F hQ hs j U q hgu
   obtain⟨⟨k1,u,⟨a1,⟨a2,a3,a4⟩,a5,⟨⟨⟨a6,a7,L⟩,a9⟩,S⟩,⟨⟨M,P,G⟩,I⟩,⟨T,R⟩,al⟩,c,z,v,w,o⟩,x⟩:=p
   simp only at t
   generalize bh l=er at *
   refine iS _ _ _ _ _ _ λg=>?_
   simp[af,ah,ad,ae,aa, *,fO,hx.r,hx.idx,y,n,D,cB.val,t]
theorem Tg{us:List Clear}{gr:Int}{e d:AV}(k:Sl 3 (cW us) e)(m:Sl 5 (cN qs) d)(i:us.length<1000) :
 ∃a b,Sl 3 (cW (iW us gr l).1) a/\Sl 5 (cN qs) b/\aF env 55 [.agg [e,d,aI gr],x1]=some (.agg [a,b,aI (iW us gr l).2]):=by
 obtain⟨y,h,a,b,o,q,rfl⟩:=q6 (fn:=Tryz.f55) (c:=y9) (f:=55) (args:=[.agg [e,d,aI gr],x1]) (E:=env)
  (R:=λy =>∃a b,Sl 3 (cW (iW us gr l).1) a/\Sl 5 (cN qs) b/\y = .agg [a,b,aI (iW us gr l).2]) (by kernel_rfl) (by kernel_rfl) (by kernel_rfl) (by kernel_rfl) (by kernel_rfl) (by
  refine yw _ _ _ _ λg=>?_
  simp[af,ah,ad,ae,aa, *,rJ,k.r,m.r]
  refine Uj hx hql hl hgu (r2:=⟨0,2,0,0⟩) (r4:=⟨0,4,0,0⟩) (by simp) l 0 us gr e d _ rfl (by omega) k m i ?_ ⟨bZ,bZ,aI 0,?_⟩ ?_ (λH' a b n j=>?_)
  ·simp
  ·simp;try rfl
  ·exact by simp(maxDischargeDepth:=12) [ai.get_put,an,aj,Fr.nil,au,af,ah,ad,ae,ao,ak,aa, *]
  ·simp[n.r,j.r]
   exact⟨n,j⟩)
 exact⟨a,b,o,q,h⟩
end
end Go.Proofs.YtdbiffjdomokfaaGreat
namespace Go.Proofs.YtdbiffjdomokfaaGreat
open Go.Ab
attribute [local simp] aU aK aG aW aV cz lT ba aO aQ cg cf bI bc ay bE gw
structure Nj where
 o:Bool
 u:Int
 s:Int
def vW(h:vI)(t:Nj)(p:cB × AV):Nj:=
 if p.1.op.h=h then (if p.1.kind=1 then ⟨true,p.1.user,t.s⟩ else if p.1.kind=2 then ⟨t.o,t.u,if t.s<p.1.op.serial then p.1.op.serial else t.s⟩ else t) else t
def lU(h:vI)(t:Nj)(l:List (cB × AV)):Nj:=l.foldl (vW h) t
section
variable{l:List (cB × AV)}{x1:AV}(hx:Sl 24 (bh l) x1)(hl:l.length<100000)
include hx hl
theorem Ry{b1 b3:UInt8}{b2:UInt32}{r3 r4 r5:Ref}(J:r5≠r4/\r5≠r3/\r4≠r3){Q:AV->ai->Prop} : ∀(s:List (cB × AV)) (k:Nat) (t:Nj) (H:ai),l.drop k=s->k<=l.length ->
 H.get r3=some ⟨3,[.agg [a8 b1,aw b2,a8 b3]],false,false⟩->(∃a b c,H.get r4=some ⟨3,[.agg [a,b,c]],false,false⟩)->H.get r5=some ⟨3,[.agg [aB t.o,aI t.u,aI t.s]],false,false⟩ ->
 (∀H' y,y=AV.agg [aB (lU ⟨b1,b2,b3⟩ t s).o,aI (lU ⟨b1,b2,b3⟩ t s).u,aI (lU ⟨b1,b2,b3⟩ t s).s]->Q y H') ->
 bB env Tryz.f57 0 cV [(6,aI k),(5,.ptr r5 0 0),(0,x1),(3,.ptr r3 0 0),(4,.ptr r4 0 0)] H Q:=by
 intro s
 induction s with
 | nil=>
  rintro k t H hs hk h3 ⟨a,b,c,q⟩ h5 hQ
  obtain rfl:=drop_nil hs hk
  have m:=λH'=>hQ H' _ rfl
  simp only[lU,List.foldl_nil]at m
  refine ga _ _ _ _ _ _ _ λg=>?_
  have h:=cP l
  clear hQ
  simp[af,ah,ad,ae,aa, *,eP,hx.r,ai.get_put]
  all_goals exact m _
 | cons p s M=>
  rintro k t H hs hk h3 q h5 hQ
  obtain⟨j,W,B,A⟩:=drop_cons hs
  have e1:=IntWalk.i64_in ((k:Int)+1) (by omega)
  have i:=Aj A
  have h:=cP l
  have K:(k:Int)<l.length:=by omega
  have d:=λt' (Z:t'=vW ⟨b1,b2,b3⟩ t p) H' g3 g4 g5=>M (k+1) t' H' B (by omega) g3 g4 g5 (λG y T=>hQ G y (by rw[T,Z];rfl))
  rw[show((k+1:Nat):Int)=(k:Int)+1 from by omega]at d
  clear M hQ hs B W A
  obtain⟨⟨L,u,⟨a1,⟨I,C,D⟩,N,⟨⟨⟨a6,a7,V⟩,a9⟩,a10⟩,⟨⟨Y,a12,P⟩,R⟩,⟨a15,a16⟩,al⟩,c,g1,v,w,o⟩,x⟩:=p
  obtain⟨ta,tb,tc,q⟩:=q
  obtain⟨t0,t1,t2⟩:=t
  simp only[vW,vI.mk.injEq]at d
  simp only at h5
  have f:(H.get r5).isSome=true:=by rw[h5];rfl
  have n35 : ¬r3=r5:=λe=>J.2.1 e.symm
  have U : ¬r4=r5:=λe=>J.1 e.symm
  generalize bh l=er at *
  by_cases E:I=b1/\C=b2/\D=b3
  ·obtain⟨rfl,rfl,rfl⟩:=E
   by_cases z:L=1
   ·subst z
    refine ga _ _ _ _ _ _ _ λg=>?_
    have d:=d ⟨true,u,t2⟩ (by simp)
    simp[af,ah,ad,ae,aa, *,eP,hx.r,hx.idx,j,h,i,cB.val,gk,ca,ai.get_put,h3,q,h5,f]
   ·by_cases n:L=2
    ·subst n
     refine ga _ _ _ _ _ _ _ λg=>?_
     have d:=d ⟨t0,t1,if t2<N then N else t2⟩ (by simp)
     simp[af,ah,ad,ae,aa, *,eP,hx.r,hx.idx,j,h,i,cB.val,gk,ca,ai.get_put,h3,q,h5,f]
    ·refine ga _ _ _ _ _ _ _ λg=>?_
     have d:=d ⟨t0,t1,t2⟩ (by simp[z,n])
     simp[af,ah,ad,ae,aa, *,eP,hx.r,hx.idx,j,h,i,cB.val,gk,ca,ai.get_put,h3,q,h5,f,z,n]
  ·refine ga _ _ _ _ _ _ _ λg=>?_
   have d:=d ⟨t0,t1,t2⟩ (by rw[if_neg E])
   have F:(!decide (I=b1) || !decide (C=b2) || !decide (D=b3))=true:=by
    by_cases X:I=b1<;>by_cases O:C=b2<;>by_cases S:D=b3<;>simp[X,O,S]at E ⊢
   simp[af,ah,ad,ae,aa, *,eP,hx.r,hx.idx,j,h,i,cB.val,gk,ca,ai.get_put,h3,q,h5,f,F]
theorem Wo(b1:UInt8)(b2:UInt32)(b3:UInt8):aF env 57 [x1,.agg [a8 b1,aw b2,a8 b3]] =
 some (.agg [aB (lU ⟨b1,b2,b3⟩ ⟨false,0,0⟩ l).o,aI (lU ⟨b1,b2,b3⟩ ⟨false,0,0⟩ l).u,aI (lU ⟨b1,b2,b3⟩ ⟨false,0,0⟩ l).s]):=by
 refine aH rfl (by kernel_rfl) (zN _ _ _ _ λg=>?_)
 simp[af,ah,ad,ae,aa, *,so,hx.r]
 refine Ry hx hl (b1:=b1) (b2:=b2) (b3:=b3) (r3:=⟨0,3,0,0⟩) (r4:=⟨0,4,0,0⟩) (r5:=⟨0,5,0,0⟩) ⟨by simp,by simp,by simp⟩ l 0 ⟨false,0,0⟩ _ rfl (by omega) ?_ ⟨aB false,aI 0,aI 0,?_⟩ ?_ (λH' y e=>?_)
 ·simp
 ·simp
 ·simp
 ·subst e
  simp
end
def vU(b:ib)(t:zM)(p:cB × AV):zM:=
 if p.1.op.h.lv=b.lv/\p.1.op.h.cats=b.cats then (if p.1.kind=1 then { t with opens:=IntKind.i64.wrap (t.opens+1)} else if p.1.kind=2 then { t with ops:=IntKind.i64.wrap (t.ops+1),cells:=if p.1.code=0/\p.1.op.kind=1 then IntKind.i64.wrap (t.cells+p.1.op.s.many) else t.cells} else t) else t
def uO(b:ib)(t:zM)(l:List (cB × AV)):zM:=l.foldl (vU b) t
section
variable{l:List (cB × AV)}{x1:AV}(hx:Sl 24 (bh l) x1)(hl:l.length<100000)
include hx hl
theorem N6{b1:UInt8}{b2:UInt32}{r3 r4 r5:Ref}(M:r5≠r4/\r5≠r3/\r4≠r3){Q:AV->ai->Prop} : ∀(s:List (cB × AV)) (k:Nat) (t:zM) (H:ai),l.drop k=s->k<=l.length ->
 H.get r3=some ⟨2,[.agg [a8 b1,aw b2]],false,false⟩->(∃a b c d e,H.get r4=some ⟨5,[.agg [a,b,c,d,e]],false,false⟩)->H.get r5=some ⟨5,[.agg [a8 b1,aw b2,aI t.opens,aI t.ops,aI t.cells]],false,false⟩ ->
 (∀H' y,y=AV.agg [a8 b1,aw b2,aI (uO ⟨b1,b2⟩ t s).opens,aI (uO ⟨b1,b2⟩ t s).ops,aI (uO ⟨b1,b2⟩ t s).cells]->Q y H') ->
 bB env Tryz.f59 0 bo [(6,aI k),(5,.ptr r5 0 0),(0,x1),(3,.ptr r3 0 0),(4,.ptr r4 0 0)] H Q:=by
 intro s
 induction s with
 | nil=>
  rintro k t H hs hk h3 ⟨a,b,c,d,e,n⟩ h5 hQ
  obtain rfl:=drop_nil hs hk
  have q:=λH'=>hQ H' _ rfl
  simp only[uO,List.foldl_nil]at q
  refine cS _ _ _ _ _ _ _ λg=>?_
  have i:=cP l
  clear hQ
  simp[af,ah,ad,ae,aa, *,cw,hx.r,ai.get_put]
  all_goals exact q _
 | cons p s P=>
  rintro k t H hs hk h3 n h5 hQ
  obtain⟨m,X,C,B⟩:=drop_cons hs
  have e1:=IntWalk.i64_in ((k:Int)+1) (by omega)
  have j:=Aj B
  have i:=cP l
  have N:(k:Int)<l.length:=by omega
  have f:=λt' (ht:t'=vU ⟨b1,b2⟩ t p) H' g3 g4 g5=>P (k+1) t' H' C (by omega) g3 g4 g5 (λI y U=>hQ I y (by rw[U,ht];rfl))
  rw[show((k+1:Nat):Int)=(k:Int)+1 from by omega]at f
  clear P hQ hs C X B
  obtain⟨⟨O,u,⟨a1,⟨K,E,a4⟩,a5,⟨⟨⟨a6,a7,W⟩,a9⟩,J⟩,⟨⟨Z,a12,S⟩,T⟩,⟨a15,a16⟩,al⟩,c,g1,v,w,o⟩,x⟩:=p
  obtain⟨ta,tb,tc,td,te,n⟩:=n
  obtain⟨t0,t1,t2⟩:=t
  simp only[vU]at f
  simp only at h5
  have h:(H.get r5).isSome=true:=by rw[h5];rfl
  have n35 : ¬r3=r5:=λe=>M.2.1 e.symm
  have V : ¬r4=r5:=λe=>M.1 e.symm
  generalize bh l=er at *
  by_cases F:K=b1/\E=b2
  ·obtain⟨rfl,rfl⟩:=F
   by_cases A:O=1
   ·subst A
    refine cS _ _ _ _ _ _ _ λg=>?_
    have f:=f ⟨IntKind.i64.wrap (t0+1),t1,t2⟩ (by simp)
    simp[af,ah,ad,ae,aa, *,cw,hx.r,hx.idx,m,i,j,cB.val,gk,ca,ai.get_put,h3,n,h5,h]
   ·by_cases z:O=2
    ·subst z
     by_cases D:c=0
     ·by_cases L:a1=1
      ·subst D L
       refine cS _ _ _ _ _ _ _ λg=>?_
       have f:=f ⟨t0,IntKind.i64.wrap (t1+1),IntKind.i64.wrap (t2+J)⟩ (by simp)
       simp[af,ah,ad,ae,aa, *,cw,hx.r,hx.idx,m,i,j,cB.val,gk,ca,ai.get_put,h3,n,h5,h]
      ·subst D
       refine cS _ _ _ _ _ _ _ λg=>?_
       have f:=f ⟨t0,IntKind.i64.wrap (t1+1),t2⟩ (by simp[L])
       simp[af,ah,ad,ae,aa, *,cw,hx.r,hx.idx,m,i,j,cB.val,gk,ca,ai.get_put,h3,n,h5,h,L]
     ·skip
      refine cS _ _ _ _ _ _ _ λg=>?_
      have f:=f ⟨t0,IntKind.i64.wrap (t1+1),t2⟩ (by simp[D])
      simp[af,ah,ad,ae,aa, *,cw,hx.r,hx.idx,m,i,j,cB.val,gk,ca,ai.get_put,h3,n,h5,h,D]
    ·skip
     refine cS _ _ _ _ _ _ _ λg=>?_
     have f:=f ⟨t0,t1,t2⟩ (by simp[A,z])
     simp[af,ah,ad,ae,aa, *,cw,hx.r,hx.idx,m,i,j,cB.val,gk,ca,ai.get_put,h3,n,h5,h,A,z]
  ·have G:(!decide (K=b1) || !decide (E=b2))=true:=by
    by_cases Y:K=b1<;>by_cases R:E=b2<;>simp[Y,R]at F ⊢
   refine cS _ _ _ _ _ _ _ λg=>?_
   have f:=f ⟨t0,t1,t2⟩ (by rw[if_neg F])
   simp[af,ah,ad,ae,aa, *,cw,hx.r,hx.idx,m,i,j,cB.val,gk,ca,ai.get_put,h3,n,h5,h,G]
theorem Gs(b1:UInt8)(b2:UInt32):aF env 59 [x1,.agg [a8 b1,aw b2]] =
 some (.agg [a8 b1,aw b2,aI (uO ⟨b1,b2⟩ ⟨0,0,0⟩ l).opens,aI (uO ⟨b1,b2⟩ ⟨0,0,0⟩ l).ops,aI (uO ⟨b1,b2⟩ ⟨0,0,0⟩ l).cells]):=by
 refine aH rfl (by kernel_rfl) (wI _ _ _ _ λg=>?_)
 simp[af,ah,ad,ae,aa, *,pC,hx.r]
 refine N6 hx hl (b1:=b1) (b2:=b2) (r3:=⟨0,3,0,0⟩) (r4:=⟨0,4,0,0⟩) (r5:=⟨0,5,0,0⟩) ⟨by simp,by simp,by simp⟩ l 0 ⟨0,0,0⟩ _ rfl (by omega) ?_ ⟨a8 0,aw 0,aI 0,aI 0,aI 0,?_⟩ ?_ (λH' y e=>?_)
 ·simp
 ·simp
 ·simp
 ·subst e
  simp
end
end Go.Proofs.YtdbiffjdomokfaaGreat
namespace Go.Proofs.YtdbiffjdomokfaaGreat
open Go.Ab
attribute [local simp] aU aK aG aW aV cz lT ba aO aQ cg cf bI bc ay bE gw
def isDone(p:cB × AV):Bool:=decide (p.1.kind=2)&&decide (p.1.code=0)
def kN(l:List (cB × AV)):List (aN × AV):=(l.filter isDone).map λp=>(p.1.op,p.2)
@[simp] theorem jy(l:List (aN × AV)):(cD l).length=l.length:=by simp[cD]
section
variable{l:List (cB × AV)}{x1:AV}(hx:Sl 24 (bh l) x1)(hl:l.length<100000)(hone : ∀p∈l,Sl 1 (rows p.1.op.l) p.2)
include hx hl hone
theorem RY{Q:AV->ai->Prop} : ∀(s:List (cB × AV)) (k:Nat) (outs:List (aN × AV)) (H:ai) (z:AV),l.drop k=s->k<=l.length->outs.length<=k->Fr H->Own 17 (cD outs) H z->(∀q,z.at?=some q->q.t=32) ->
 (∀H' P,Fr H'->Own 17 (cD (outs++kN s)) H' P->Q P H')->bB env Tryz.f89 0 fp [(4,aI k),(0,x1),(3,z)] H Q:=by
 intro s
 induction s with
 | nil=>
  rintro k outs H z hs hk ho hF d ht hQ
  obtain rfl:=drop_nil hs hk
  have I:=hQ H z hF (by simpa [kN] using d)
  have b:=cP l
  refine fm _ _ _ _ _ λg=>?_
  clear hQ
  simp[af,ah,ad,ae,aa, *,dZ,hx.r]
  all_goals exact I
 | cons p s R=>
  rintro k outs H z hs hk ho hF d ht hQ
  obtain⟨f,T,j,n⟩:=drop_cons hs
  have e1:=IntWalk.i64_in ((k:Int)+1) (by omega)
  have h:=Aj n
  have b:=cP l
  have i:=jy outs
  have V:(k:Int)<l.length:=by omega
  have m:=hone p (T ▸ lM f)
  by_cases B:isDone p=true
  ·have a:=λH' P h1 h2 d=>R (k+1) (outs++[(p.1.op,p.2)]) H' P j (by omega) (by simp;omega) h1 h2 d (λy A J S=>hQ y A J (by rw[show kN (p :: s)=(p.1.op,p.2) :: kN s from by simp[kN,B]];simpa using S))
   rw[show((k+1:Nat):Int)=(k:Int)+1 from by omega,show cD (outs++[(p.1.op,p.2)])=cD outs++[y6 (p.1.op,p.2)] from by simp[cD]]at a
   clear R hQ hs j T n hone
   obtain⟨⟨k1,u,⟨a1,⟨a2,X,Y⟩,a5,⟨⟨⟨a6,W,F⟩,a9⟩,M⟩,⟨⟨G,K,C⟩,D⟩,⟨O,L⟩,al⟩,c,J,v,w,o⟩,x⟩:=p
   simp only[isDone,aZ,decide_eq_true_eq]at B
   obtain⟨rfl,rfl⟩:=B
   simp only at m
   generalize bh l=er at *
   generalize cD outs=eo at *
   generalize outs.length=nh at *
   simp only[y6]at a
   rcases d with ⟨rfl,d⟩ | ⟨t,rfl,d⟩
   ·subst d
    simp at i
    subst i
    refine fm _ _ _ _ _ λg=>?_
    simp[af,ah,ad,ae,aa, *,dZ,hx.r,hx.idx,f,b,h,cB.val,m.r]
    refine a _ (.cC ⟨0,32,H.gen 0 32,0⟩ 0 1 none) ?_ (.inr ⟨⟨0,32,H.gen 0 32,0⟩,rfl,?_⟩) (λq U=>by cases U;rfl)
    ·exact by simp(maxDischargeDepth:=12) [ai.get_put,an,aj,Fr.nil,au,af,ah,ad,ae,ao,ak,aa, *]
    ·exact by simp(maxDischargeDepth:=12) [ai.get_put,an,aj,Fr.nil,au,af,ah,ad,ae,ao,ak,aa, *]
   ·have E:=ht t rfl
    obtain⟨N,tt,tg,tk⟩:=t
    simp only at E
    subst E
    have f6:jW 17 112 nh true none (some ⟨17,eo,true,false⟩) (some [.agg [a8 a1,a8 a2,aw X,a8 Y,aI a5,a8 a6,aw W,a8 F,aI a9,aI M,a8 G,aw K,a8 C,aI D,a8 O,aw L,x]]):=by
     simp;omega
    have l8:(H.get ⟨N,32,tg,tk⟩).isSome=true:=by rw[d];rfl
    refine fm _ _ _ _ _ λg=>?_
    simp[af,ah,ad,ae,aa, *,dZ,hx.r,hx.idx,f,b,h,cB.val,m.r,hF,l8,d,f6,i,ai.get_put]
    refine a _ (.cC ⟨N,32,H.gen N 32,0⟩ 0 (nh+1) none) ?_ (.inr ⟨⟨N,32,H.gen N 32,0⟩,by simp[i],?_⟩) (λq U=>by cases U;rfl)
    ·exact by simp(maxDischargeDepth:=12) [ai.get_put,an,aj,Fr.nil,au,af,ah,ad,ae,ao,ak,aa, *]
    ·exact by simp(maxDischargeDepth:=12) [ai.get_put,an,aj,Fr.nil,au,af,ah,ad,ae,ao,ak,aa, *]
  ·have a:=R (k+1) outs H z j (by omega) (by omega) hF d ht (λy A J S=>hQ y A J (by rw[show kN (p :: s)=kN s from by simp[kN,B]];exact S))
   rw[show((k+1:Nat):Int)=(k:Int)+1 from by omega]at a
   clear R hQ hs j T n hone
   obtain⟨⟨k1,u,⟨a1,⟨a2,X,Y⟩,a5,⟨⟨⟨a6,W,F⟩,a9⟩,M⟩,⟨⟨G,K,C⟩,D⟩,⟨O,L⟩,al⟩,c,J,v,w,o⟩,x⟩:=p
   simp only[isDone,aZ,decide_eq_true_eq]at B
   generalize bh l=er at *
   by_cases Z:k1=2
   ·subst Z
    have hc : ¬c=0:=λe=>B ⟨rfl,e⟩
    refine fm _ _ _ _ _ λg=>?_
    simp[af,ah,ad,ae,aa, *,dZ,hx.r,hx.idx,f,b,h,cB.val,hc]
   ·refine fm _ _ _ _ _ λg=>?_
    simp[af,ah,ad,ae,aa, *,dZ,hx.r,hx.idx,f,b,h,cB.val,Z]
theorem QY : ∃y,aF env 89 [x1]=some y/\Sl 17 (cD (kN l)) y:=by
 refine q6 (fn:=Tryz.f89) (c:=yg) (by kernel_rfl) (by kernel_rfl) (by kernel_rfl) (by kernel_rfl) (by kernel_rfl) ?_
 refine xz _ _ _ λg=>?_
 simp[af,ah,ad,ae,aa, *,ql]
 refine RY hx hl hone l 0 [] [] bZ rfl (by omega) (by simp) Fr.nil (.inl ⟨rfl,rfl⟩) (λq d=>by cases d) (λH' e b h=>?_)
 rw[tL]at h
 have a:=jy (kN l)
 generalize cD (kN l)=ee at *
 rcases h with ⟨rfl,h⟩ | ⟨r,rfl,h⟩
 ·simp[h]
 ·simp[h]
end
end Go.Proofs.YtdbiffjdomokfaaGreat
namespace Go.Proofs.YtdbiffjdomokfaaGreat
open Go.Ab
attribute [local simp] aU aK aG aW aV cz lT ba aO aQ cg cf bI bc ay bE gw
@[local simp] theorem tS(g:db)(k:Nat)(n:Int):ax g k (aR n)=[]:=by cases k<;>rfl
structure Hz where
 i:bR
 a:bR
 r:Int
def Hz.enc(e:Hz):AV := .agg [a8 e.i.h.lv,aw e.i.h.cats,a8 e.i.h.num,aI e.i.n,a8 e.a.h.lv,aw e.a.h.cats,a8 e.a.h.num,aI e.a.n,aR e.r]
def mg(l:List Hz):List AV:=l.map Hz.enc
@[simp] theorem qj(l:List Hz):(mg l).length=l.length:=by simp[mg]
def BQ(i:bR):List Hz->Nat->Int
 | [],_ => -1
 | e :: l,k=>if e.i=i then (k:Int) else BQ i l (k+1)
theorem GW(i:bR) : ∀(l:List Hz)(k:Nat),(0<=BQ i l k↔i∈l.map (·.i))
 | [],k=>by simp[BQ]
 | e :: l,k=>by
  rw[BQ]
  by_cases h:e.i=i
  ·rw[if_pos h];simp[h]
  ·rw[if_neg h,GW i l (k+1)]
   have : ¬i=e.i:=λe=>h e.symm
   simp[this]
section
variable{ls:List Hz}{x:AV}(hx:Sl 9 (mg ls) x)(hl:ls.length<1000000)
include hx hl
theorem NQ(a:UInt8)(b:UInt32)(d:UInt8)(f:Int){r3:Ref}{H:ai}(K:H.get r3=some ⟨4,[.agg [a8 a,aw b,a8 d,aI f]],false,false⟩){Q:AV->ai->Prop} : ∀(s:List Hz)(k:Nat),ls.drop k=s->k<=ls.length->(∀y,y=aI (BQ (⟨⟨a,b,d⟩,f⟩:bR) s k)->Q y H) ->
 bB env Tryz.f108 0 gM [(5,aI k),(3,.ptr r3 0 0),(0,x)] H Q:=by
 intro s
 induction s with
 | nil=>
  rintro k hs hk hQ
  obtain rfl:=drop_nil hs hk
  have o:=qj ls
  have u:=hQ _ rfl
  simp only[BQ]at u
  refine nS _ _ _ _ _ λg=>?_
  clear hQ
  simp[af,ah,ad,ae,aa, *,kE,hx.r]
 | cons e s z=>
  rintro k hs hk hQ
  obtain⟨w,B,q,v⟩:=drop_cons hs
  have C:=IntWalk.i64_in ((k:Int)+1) (by omega)
  have o:=qj ls
  have A:(k:Int)<ls.length:=by omega
  have t:bW (mg ls) k 0 4 true=some (.agg [a8 e.i.h.lv,aw e.i.h.cats,a8 e.i.h.num,aI e.i.n]):=by simp[bW,mg,v,Hz.enc]
  have j:=λ(h:e.i=(⟨⟨a,b,d⟩,f⟩:bR))=>hQ (aI k) (by rw[BQ,if_pos h])
  have m:=λ(h : ¬e.i=(⟨⟨a,b,d⟩,f⟩:bR))=>z (k+1) q (by omega) (λy I=>hQ y (by rw[BQ,if_neg h];exact I))
  rw[show((k+1:Nat):Int)=(k:Int)+1 from by omega]at m
  clear z hQ hs q B v
  obtain⟨⟨⟨D,F,G⟩,E⟩,L,M⟩:=e
  simp only[bR.mk.injEq,vI.mk.injEq]at j m t
  generalize mg ls=el at *
  refine nS _ _ _ _ _ λg=>?_
  simp[af,ah,ad,ae,aa, *,kE,hx.r,hx.idx,w,o,t,gk,ca]
  refine gU (λh=>?_) (λh=>?_)
  ·exact j (by simpa [and_assoc] using h)
  ·simp[C]
   exact m (by
    intro J
    have : ¬(D=a/\F=b/\G=d/\E=f):=by simpa [and_assoc] using h
    exact this (by simpa [and_assoc] using J))
theorem Gt(a:UInt8)(b:UInt32)(f:UInt8)(d:Int):aF env 108 [x,.agg [a8 a,aw b,a8 f,aI d]]=some (aI (BQ (⟨⟨a,b,f⟩,d⟩:bR) ls 0)):=by
 refine aH rfl (by kernel_rfl) (wM _ _ _ _ λg=>?_)
 simp[af,ah,ad,ae,aa, *,pE,hx.r]
 refine NQ hx hl a b f d (r3:=⟨0,3,0,0⟩) ?_ ls 0 rfl (by omega) (λy e=>?_)
 ·simp
 ·subst e;simp
theorem IF(a:UInt8)(b:UInt32)(f:UInt8)(d:Int)(v1:UInt8)(v2:UInt32):aF env 106 [x,.agg [a8 a,aw b,a8 f,aI d],.agg [a8 v1,aw v2]]=some (aB (decide ((⟨⟨a,b,f⟩,d⟩:bR)∈ls.map (·.i))&&nK ⟨a,b⟩ ⟨v1,v2⟩)):=by
 have k:=Gt hx hl a b f d
 have m:=E5 a b v1 v2
 have j:=GW (⟨⟨a,b,f⟩,d⟩:bR) ls 0
 refine aH rfl (by kernel_rfl) (xA _ _ _ _ _ λg=>?_)
 generalize BQ (⟨⟨a,b,f⟩,d⟩:bR) ls 0=n at *
 by_cases h:0<=n
 ·have hm:=j.1 h
  clear j
  simp[af,ah,ad,ae,aa, *,mu,hx.r,k,m,h,hm]
 ·have hm:=λe=>h (j.2 e)
  rw[decide_eq_false hm,xm]
  clear j hm
  simp[af,ah,ad,ae,aa, *,mu,hx.r,k,m,h]
end
def gT(s:vu)(a:bR):List Int->Nat->List Hz
 | [],_=>[]
 | r :: l,k=>⟨⟨s.f.h,IntKind.i64.wrap (s.f.n+(k:Int))⟩,if k=0 then a else ⟨s.f.h,IntKind.i64.wrap (s.f.n+((k:Int) - 1))⟩,r⟩ :: gT s a l (k+1)
theorem C3(s:vu)(a:bR) : ∀(l:List Int)(k:Nat),(gT s a l k).length=l.length
 | [],k=>rfl
 | r :: l,k=>by simp[gT,C3 s a l (k+1)]
section
variable(a_1:UInt8)(a_2:UInt32)(a_3:UInt8)(a_4:Int)(a_5:Int)(a_6:UInt8)(a_7:UInt32)(a_8:UInt8)(a_9:Int){x:AV}{l:List Int}{c:Option Nat}(hx:Sl 1 (rows l) x)(hm:(l.length:Int)=a_5)(hl:l.length<1000000)
include hx hm hl
theorem Pk{Q:AV->ai->Prop} : ∀(s:List Int)(k:Nat)(a:List Hz)(H:ai)(j:AV),l.drop k=s->k<=l.length->a.length=k->Fr H->Own 9 (mg a) H j->(∀q,j.at?=some q->q.t=45) ->
 (∀H' D,Fr H'->Own 9 (mg (a++gT ⟨⟨⟨a_1,a_2,a_3⟩,a_4⟩,a_5⟩ ⟨⟨a_6,a_7,a_8⟩,a_9⟩ s k)) H' D->Q D H') ->
 bB env Tryz.f124 0 iZ [(5,aI k),(4,aI 0),(0,.cG 10 [.agg [a8 a_1,aw a_2,a8 a_3,aI a_4,aI a_5,a8 a_6,aw a_7,a8 a_8,aI a_9,x]] c),(3,j)] H Q:=by
 intro s
 induction s with
 | nil=>
  rintro k a H j hs hk ho hF b ht hQ
  obtain rfl:=drop_nil hs hk
  have w:=hQ H j hF (by simpa [gT] using b)
  refine o7 _ _ _ _ _ _ λg=>?_
  clear hQ
  simp[af,ah,ad,ae,aa, *,jf,hx.r,hm]
  refine o8 _ _ _ _ _ λg=>?_
  simp[af,ah,ad,ae,aa, *,lG]
  all_goals exact w
 | cons n s M=>
  rintro k a H j hs hk ho hF b ht hQ
  obtain⟨P,O,u,z⟩:=drop_cons hs
  have e1:=IntWalk.i64_in ((k:Int)+1) (by omega)
  have i:(k:Int)<a_5:=by omega
  have J:=PF a_1 a_2 a_3 a_4 a_5 a_6 a_7 a_8 a_9 (k:Int) hx
  have N:=Lt a_1 a_2 a_3 a_4 a_5 a_6 a_7 a_8 a_9 (k:Int) hx (by omega) (by omega)
  have v:bW (rows l) k 0 1 false=some (aR n):=by simp[bW,rows,z,aR,AV.cells]
  have f:=λH' D R S b=>M (k+1) (a++[⟨⟨⟨a_1,a_2,a_3⟩,IntKind.i64.wrap (a_4+(k:Int))⟩,if k=0 then ⟨⟨a_6,a_7,a_8⟩,a_9⟩ else ⟨⟨a_1,a_2,a_3⟩,IntKind.i64.wrap (a_4+((k:Int) - 1))⟩,n⟩]) H' D u (by omega) (by simp[ho]) R S b
   (λF G T X=>hQ F G T (by simpa [gT] using X))
  have d:=qj a
  rw[ho]at d
  rw[show((k+1:Nat):Int)=(k:Int)+1 from by omega]at f
  have A : ∀e:Hz,mg (a++[e])=mg a++[e.enc]:=λe=>by simp[mg]
  simp only[A,Hz.enc]at f
  have y:(rows l).length=l.length:=by simp
  have U:(k:Int)<l.length:=by omega
  generalize o:(if k=0 then (⟨⟨a_6,a_7,a_8⟩,a_9⟩:bR) else ⟨⟨a_1,a_2,a_3⟩,IntKind.i64.wrap (a_4+((k:Int) - 1))⟩)=bq at *
  have m:aF env 143 [.agg [a8 a_1,aw a_2,a8 a_3,aI a_4,aI a_5,a8 a_6,aw a_7,a8 a_8,aI a_9,x],aI k]=some (.agg [a8 bq.h.lv,aw bq.h.cats,a8 bq.h.num,aI bq.n]):=by
   rw[N,<-o]
   by_cases K:k=0
   ·subst K;simp
   ·have E : ¬(k:Int)=0:=by omega
    rw[if_neg K,if_neg E]
  clear M hQ hs u O z ho A N o
  generalize mg a=eo at *
  generalize rows l=rl at *
  have L:(k:Int)<l.length:=by omega
  have Z:(0:Int)<=k:=by omega
  refine o7 _ _ _ _ _ _ λg=>?_
  rcases b with ⟨rfl,b⟩ | ⟨t,rfl,b⟩
  ·subst b
   clear d
   simp[af,ah,ad,ae,aa, *,jf,hx.r,hx.idx,J,m,v,i,y]
   refine f _ (.cC ⟨0,45,H.gen 0 45,0⟩ 0 1 none) ?_ (.inr ⟨⟨0,45,H.gen 0 45,0⟩,rfl,?_⟩) (λq I=>by cases I;rfl)
   ·exact by simp(maxDischargeDepth:=12) [ai.get_put,an,aj,Fr.nil,au,af,ah,ad,ae,ao,ak,aa, *]
   ·exact by simp(maxDischargeDepth:=12) [ai.get_put,an,aj,Fr.nil,au,af,ah,ad,ae,ao,ak,aa, *]
  ·have C:=ht t rfl
   obtain⟨B,tt,Y,tk⟩:=t
   simp only at C
   subst C
   have V:jW 9 56 k true none (some ⟨9,eo,true,false⟩) (some [.agg [a8 a_1,aw a_2,a8 a_3,aI (IntKind.i64.wrap (a_4+(k:Int))),a8 bq.h.lv,aw bq.h.cats,a8 bq.h.num,aI bq.n,aR n]]):=by
    simp;omega
   have W:(H.get ⟨B,45,Y,tk⟩).isSome=true:=by rw[b];rfl
   simp[af,ah,ad,ae,aa, *,jf,hx.r,hx.idx,J,m,v,i,y,hF,W,b,V,d,ai.get_put]
   refine f _ (.cC ⟨B,45,H.gen B 45,0⟩ 0 (k+1) none) ?_ (.inr ⟨⟨B,45,H.gen B 45,0⟩,by simp[d],?_⟩) (λq I=>by cases I;rfl)
   ·exact by simp(maxDischargeDepth:=12) [ai.get_put,an,aj,Fr.nil,au,af,ah,ad,ae,ao,ak,aa, *]
   ·exact by simp(maxDischargeDepth:=12) [ai.get_put,an,aj,Fr.nil,au,af,ah,ad,ae,ao,ak,aa, *]
theorem Tj : ∃y,aF env 124 [.cG 10 [.agg [a8 a_1,aw a_2,a8 a_3,aI a_4,aI a_5,a8 a_6,aw a_7,a8 a_8,aI a_9,x]] c]=some y/\Sl 9 (mg (gT ⟨⟨⟨a_1,a_2,a_3⟩,a_4⟩,a_5⟩ ⟨⟨a_6,a_7,a_8⟩,a_9⟩ l 0)) y:=by
 refine q6 (fn:=Tryz.f124) (c:=za) (by kernel_rfl) (by kernel_rfl) (by kernel_rfl) (by kernel_rfl) (by kernel_rfl) ?_
 refine yA _ _ _ λg=>?_
 simp[af,ah,ad,ae,aa, *,rK]
 refine o8 _ _ _ _ _ λg=>?_
 simp[af,ah,ad,ae,aa, *,lG]
 refine Pk a_1 a_2 a_3 a_4 a_5 a_6 a_7 a_8 a_9 hx hm hl l 0 [] [] bZ rfl (by omega) (by simp) Fr.nil (.inl ⟨rfl,rfl⟩) (λq d=>by cases d) (λH' e b h=>?_)
 rw[tL]at h
 have a:=qj (gT ⟨⟨⟨a_1,a_2,a_3⟩,a_4⟩,a_5⟩ ⟨⟨a_6,a_7,a_8⟩,a_9⟩ l 0)
 generalize mg (gT ⟨⟨⟨a_1,a_2,a_3⟩,a_4⟩,a_5⟩ ⟨⟨a_6,a_7,a_8⟩,a_9⟩ l 0)=ee at *
 rcases h with ⟨rfl,h⟩ | ⟨r,rfl,h⟩
 ·simp[h]
 ·simp[h]
end
theorem Zv{l:List (aN × AV)}{k:Nat}{p:aN × AV}(h:l[k]?=some p)(j n:Nat)(a:Bool):bW (cD l) k j n a=bW [y6 p] 0 j n a:=by
 simp[bW,cD,h]
def pJ(o:aN):List Hz:=if o.kind=1 then gT o.s o.a o.l 0 else []
def eO(l:List (aN × AV)):List Hz:=l.flatMap λp=>pJ p.1
structure Y4 (p:aN × AV):Prop where
 x:Sl 1 (rows p.1.l) p.2
 n:p.1.kind=1->(p.1.l.length:Int)=p.1.s.many/\p.1.l.length<100/\0<p.1.l.length
section
variable{ops:List (aN × AV)}{x0:AV}(hx:Sl 17 (cD ops) x0)(hl:ops.length<10000)(hall : ∀p∈ops,Y4 p)
include hx hl hall
theorem Rw{Q:AV->ai->Prop} : ∀(s:List (aN × AV)) (k:Nat) (outs:List Hz) (H:ai) (I:AV),ops.drop k=s->k<=ops.length->outs.length<=100 * k->Fr H->Own 9 (mg outs) H I->(∀q,I.at?=some q->q.t=38) ->
 (∀H' P,Fr H'->Own 9 (mg (outs++eO s)) H' P->Q P H') ->
 bB env Tryz.f104 0 fq [(4,aI k),(3,I),(0,x0)] H Q:=by
 intro s
 induction s with
 | nil=>
  rintro k outs H I hs hk ho hF f ht hQ
  obtain rfl:=drop_nil hs hk
  have j:=jy ops
  have N:=hQ H I hF (by simpa [eO] using f)
  refine iu _ _ _ _ _ λg=>?_
  clear hQ
  simp[af,ah,ad,ae,aa, *,fw,hx.r]
  all_goals exact N
 | cons p s R=>
  rintro k outs H I hs hk ho hF f ht hQ
  obtain⟨hlt,Z,m,A⟩:=drop_cons hs
  have e1:=IntWalk.i64_in ((k:Int)+1) (by omega)
  have j:=jy ops
  have B:=qj outs
  have h:(k:Int)<ops.length:=by omega
  have a:=Zv A
  have u:=hall p (Z ▸ lM hlt)
  by_cases L:p.1.kind=1
  ·obtain⟨Y,o,hn3⟩:=u.n L
   have b:=λH' P h1 h2 f=>R (k+1) (outs++gT p.1.s p.1.a p.1.l 0) H' P m (by omega) (by rw[oN,C3];omega) h1 h2 f (λF K g1 V=>hQ F K g1 (by rw[show eO (p :: s)=gT p.1.s p.1.a p.1.l 0++eO s from by simp[eO,pJ,L]];simpa using V))
   have d:(mg (gT p.1.s p.1.a p.1.l 0)).length=p.1.l.length:=by rw[qj,C3]
   have v:mg (gT p.1.s p.1.a p.1.l 0)≠[]:=λe=>by rw[e]at d;simp at d;omega
   rw[show((k+1:Nat):Int)=(k:Int)+1 from by omega,show mg (outs++gT p.1.s p.1.a p.1.l 0)=mg outs++mg (gT p.1.s p.1.a p.1.l 0) from by simp[mg]]at b
   clear R hQ hs m Z A hall
   obtain⟨⟨k1,⟨a2,a3,a4⟩,a5,⟨⟨⟨a6,W,C⟩,T⟩,G⟩,⟨⟨D,E,w⟩,z⟩,⟨a15,a16⟩,S⟩,x⟩:=p
   subst L
   obtain⟨y,hA,hy⟩:=Tj a6 W C T G D E w z (c:=some 1) u.x Y (Nat.lt_trans o (by decide))
   have i:=u.x
   simp only at b d v i a
   simp only[y6]at a
   generalize mg (gT ⟨⟨⟨a6,W,C⟩,T⟩,G⟩ ⟨⟨D,E,w⟩,z⟩ S 0)=en at *
   generalize cD ops=er at *
   generalize mg outs=eo at *
   obtain⟨cy,rfl,hcy⟩:=hy.W6 v
   have hbn:en.length * 56<=bI:=by simp only[d,bI];simp only at o;omega
   have O:(eo.length+en.length) * 56<=bI:=by simp only[d,B,bI];simp only at o;omega
   rcases f with ⟨rfl,f⟩ | ⟨t,rfl,f⟩
   ·subst f
    clear B O
    refine iu _ _ _ _ _ λg=>?_
    simp[af,ah,ad,ae,aa, *,fw,hx.r,hx.idx,h,j,a,i.r,hA, -ba, -bc]
    refine⟨by simp only at o;omega,b _ (.cC ⟨0,38,H.gen 0 38,0⟩ 0 S.length none) ?_ (.inr ⟨⟨0,38,H.gen 0 38,0⟩,by simp[d],?_⟩) (λq hq=>by cases hq;rfl)⟩
    ·exact by simp(maxDischargeDepth:=12) [ai.get_put,an,aj,Fr.nil,au,af,ah,ad,ae,ao,ak,aa, *]
    ·exact by simp(maxDischargeDepth:=12) [ai.get_put,an,aj,Fr.nil,au,af,ah,ad,ae,ao,ak,aa, *]
   ·have M:=ht t rfl
    obtain⟨J,tt,tg,X⟩:=t
    simp only at M
    subst M
    refine iu _ _ _ _ _ λg=>?_
    simp[af,ah,ad,ae,aa, *,fw,hx.r,hx.idx,h,j,a,i.r,hA, -ba, -bc]
    have hne5 : ¬(⟨0,5,H.gen 0 5,0⟩:Ref)=⟨J,38,tg,X⟩:=λe=>by cases e
    have U : ¬(⟨0,36,H.gen 0 36,0⟩:Ref)=⟨J,38,tg,X⟩:=λe=>by cases e
    refine tI (M9 (fz:=false) (by simp) (by simp) _ _ _ _ (hy.Je _) (es:=eo) ?_ B.symm v O) ?_
    ·simp[f]
    ·have l8:(H.get ⟨J,38,tg,X⟩).isSome=true:=by rw[f];rfl
     simp[hF,l8,f,ai.get_put,e1]
     refine b _ (.cC ⟨J,38,H.gen J 38,0⟩ 0 (eo.length+en.length) none) ?_ (.inr ⟨⟨J,38,H.gen J 38,0⟩,by simp,?_⟩) (λq hq=>by cases hq;rfl)
     ·exact by simp(maxDischargeDepth:=12) [ai.get_put,an,aj,Fr.nil,au,af,ah,ad,ae,ao,ak,aa, *]
     ·exact by simp(maxDischargeDepth:=12) [ai.get_put,an,aj,Fr.nil,au,af,ah,ad,ae,ao,ak,aa, *]
  ·have b:=R (k+1) outs H I m (by omega) (by omega) hF f ht (λF K g1 V=>hQ F K g1 (by rw[show eO (p :: s)=eO s from by simp[eO,pJ,L]];exact V))
   rw[show((k+1:Nat):Int)=(k:Int)+1 from by omega]at b
   clear R hQ hs m Z A hall
   obtain⟨⟨k1,⟨a2,a3,a4⟩,a5,⟨⟨⟨a6,W,C⟩,T⟩,G⟩,⟨⟨D,E,w⟩,z⟩,⟨a15,a16⟩,S⟩,x⟩:=p
   simp only at L
   simp only[y6]at a
   generalize cD ops=er at *
   refine iu _ _ _ _ _ λg=>?_
   simp[af,ah,ad,ae,aa, *,fw,hx.r,hx.idx,h,j,a,L]
theorem QZ : ∃y,aF env 104 [x0]=some y/\Sl 9 (mg (eO ops)) y:=by
 refine q6 (fn:=Tryz.f104) (c:=yh) (by kernel_rfl) (by kernel_rfl) (by kernel_rfl) (by kernel_rfl) (by kernel_rfl) ?_
 refine xB _ _ _ λg=>?_
 simp[af,ah,ad,ae,aa, *,qm]
 refine Rw hx hl hall ops 0 [] [] bZ rfl (by omega) (by simp) Fr.nil (.inl ⟨rfl,rfl⟩) (λq d=>by cases d) (λH' e b h=>?_)
 rw[tL]at h
 have a:=qj (eO ops)
 generalize mg (eO ops)=ee at *
 rcases h with ⟨rfl,h⟩ | ⟨r,rfl,h⟩
 ·simp[h]
 ·simp[h]
end
end Go.Proofs.YtdbiffjdomokfaaGreat
namespace Go.Proofs.YtdbiffjdomokfaaGreat
open Go.Ab
attribute [local simp] aU aK aG aW aV cz lT ba aO aQ cg cf bI bc ay bE gw tS
structure AK (p:aN × AV):Prop where
 x:Sl 1 (rows p.1.l) p.2
 may:mK p.1=true
 rng:tF p.1.l
theorem CN{o:aN}(h:mK o=true):o.l.length<=64:=by
 have hs:=k7 h
 have b:=gp hs
 simp only[mK,aZ,BO]at h
 have a:=h.2.2.2.2
 split at a
 ·simp only[GR,aZ,decide_eq_true_eq]at a
  have:=a.2.2.2.1
  omega
 ·split at a
  ·simp only[MU,yj,aZ,decide_eq_true_eq]at a
   rw[a.2.2];simp
  ·split at a
   ·simp only[J7,yj,aZ,decide_eq_true_eq]at a
    rw[a.1.2];simp
   ·exact absurd a (by decide)
theorem AK.ins{p:aN × AV}(h:AK p):Y4 p:=by
 refine⟨h.x,λb=>?_⟩
 have hl:=CN h.may
 have c:=gp (k7 h.may)
 have h:=h.may
 simp only[mK,aZ,BO,b,if_true]at h
 have a:=h.2.2.2.2
 simp only[GR,aZ,decide_eq_true_eq]at a
 have:=a.2.2.2.1
 exact⟨this,by omega,by omega⟩
theorem AK.ok{p:aN × AV}(h:AK p):HT p:=⟨h.x,by have:=CN h.may;omega⟩
theorem Ud{l:List (aN × AV)}(h : ∀p∈l,AK p):(eO l).length<=64 * l.length:=by
 induction l with
 | nil=>simp[eO]
 | cons p l a=>
  have c:=a λq b=>h q (fW _ b)
  have hp:=CN (h p gG).may
  have:(pJ p.1).length<=64:=by
   unfold pJ
   split
   ·rw[C3];exact hp
   ·simp
  rw[show eO (p :: l)=pJ p.1++eO l from by simp[eO],oN,nx]
  omega
def tf(ones:List Hz)(o:aN)(i:bR):Bool:=decide (i∈ones.map (·.i))&&nK ⟨i.h.lv,i.h.cats⟩ ⟨o.h.lv,o.h.cats⟩
def C2(ops:List (aN × AV))(o:aN):Int:=
 if (o.kind=2 /\¬(o.s.f.h.lv=o.h.lv/\o.s.f.h.cats=o.h.cats))\/(o.kind=3/\kD (opsOf ops) o=false) then 2 else if 2048<=ops.length then 4 else 0
def RK(ops:List (aN × AV))(ones:List Hz)(o:aN)(ids:List bR):Int:=
 if ids.any (λi=>decide (i∈ones.map (·.i)))=true then 2 else if 8192<(ones.length:Int)+ids.length then 4 else C2 ops o
def LY(ops:List (aN × AV))(ones:List Hz)(o:aN)(ids:List bR):Int:=
 if ids.any (λi => !tf ones o i)=true then 6 else C2 ops o
def HY(ops:List (aN × AV))(ones:List Hz)(o:aN)(ids:List bR):Int:=
 if o.kind=1 then (if o.a≠qI/\tf ones o o.a=false then 6 else if xP ⟨o.s,o.a,o.l⟩=false then 2 else RK ops ones o ids) else LY ops ones o ids
section
variable{ops:List (aN × AV)}{x0:AV}(hx:Sl 17 (cD ops) x0)(hl:ops.length<10000)(hall : ∀p∈ops,AK p)
variable{ones:List Hz}{x5:AV}(h5:Sl 9 (mg ones) x5)(hol:ones.length<1000000)
variable{ids:List bR}{x6:AV}(h6:Sl 4 (lP ids) x6)(hil:ids.length<100000)
variable(a_1:UInt8)(a_2:UInt8)(a_3:UInt32)(a_4:UInt8)(a_5:Int)(a_6:UInt8)(a_7:UInt32)(a_8:UInt8)(a_9:Int)(a_10:Int)(a_11:UInt8)(a_12:UInt32)(a_13:UInt8)(a_14:Int)(a_15:UInt8)(a_16:UInt32){al:List Int}{x:AV}(hax:Sl 1 (rows al) x)(hs:eN ⟨⟨⟨a_6,a_7,a_8⟩,a_9⟩,a_10⟩=true)
include hx hl hall h5 hol h6 hil hax hs
theorem Qh{r3:Ref}{H:ai}(q:H.get r3=some ⟨17,[.agg [a8 a_1,a8 a_2,aw a_3,a8 a_4,aI a_5,a8 a_6,aw a_7,a8 a_8,aI a_9,aI a_10,a8 a_11,aw a_12,a8 a_13,aI a_14,a8 a_15,aw a_16,x]],false,false⟩){Q:AV->ai->Prop}(k:Nat)(B:a_1=1\/k=ids.length)(D:k<=ids.length)
 (C : ∀y,y=aI (C2 ops (⟨a_1,⟨a_2,a_3,a_4⟩,a_5,⟨⟨⟨a_6,a_7,a_8⟩,a_9⟩,a_10⟩,⟨⟨a_11,a_12,a_13⟩,a_14⟩,⟨a_15,a_16⟩,al⟩:aN))->Q y H) :
 bB env Tryz.f88 0 dy [(8,aI k),(3,.ptr r3 0 0),(6,x6),(5,x5),(0,x0)] H Q:=by
 have t:=QT hx (λp hp=>(hall p hp).ok) (λp hp=>k7 (hall p hp).may) (by omega) a_1 a_2 a_3 a_4 a_5 a_6 a_7 a_8 a_9 a_10 a_11 a_12 a_13 a_14 a_15 a_16 hax hs
 have A : ∀e:C2 ops (⟨a_1,⟨a_2,a_3,a_4⟩,a_5,⟨⟨⟨a_6,a_7,a_8⟩,a_9⟩,a_10⟩,⟨⟨a_11,a_12,a_13⟩,a_14⟩,⟨a_15,a_16⟩,al⟩:aN)=C2 ops (⟨a_1,⟨a_2,a_3,a_4⟩,a_5,⟨⟨⟨a_6,a_7,a_8⟩,a_9⟩,a_10⟩,⟨⟨a_11,a_12,a_13⟩,a_14⟩,⟨a_15,a_16⟩,al⟩:aN),True:=λ_=>trivial
 clear A
 have d:=jy ops
 have f:=ye ids
 have b : ∀n,n=C2 ops (⟨a_1,⟨a_2,a_3,a_4⟩,a_5,⟨⟨⟨a_6,a_7,a_8⟩,a_9⟩,a_10⟩,⟨⟨a_11,a_12,a_13⟩,a_14⟩,⟨a_15,a_16⟩,al⟩:aN)->Q (aI n) H:=λn e=>C _ (by rw[e])
 clear C hall
 have l:((k:Int)<ids.length)->a_1=1:=λh=>B.resolve_right (by omega)
 unfold C2 at b
 simp only at b
 generalize kD (opsOf ops) (⟨a_1,⟨a_2,a_3,a_4⟩,a_5,⟨⟨⟨a_6,a_7,a_8⟩,a_9⟩,a_10⟩,⟨⟨a_11,a_12,a_13⟩,a_14⟩,⟨a_15,a_16⟩,al⟩:aN)=fb at *
 have u:((k:Int)<ids.length) \/¬((k:Int)<ids.length):=Classical.em _
 refine ny _ _ _ _ _ _ _ λg=>?_
 by_cases w:a_1=1
 ·subst w
  simp only[show ¬((1:UInt8)=2) from by decide,show ¬((1:UInt8)=3) from by decide,false_and,or_self,if_false]at b
  clear l B
  rcases u with i | i
  ·by_cases m:2048<=ops.length
   ·have c:(2048:Int)<=ops.length:=by omega
    have a:=b 4 (by rw[if_pos m])
    clear b
    simp[af,ah,ad,ae,aa, *,aL,q,hx.r,h6.r,h5.r,hax.r,t,d,f,i,c]
    all_goals exact a
   ·have c : ¬(2048:Int)<=ops.length:=by omega
    have a:=b 0 (by rw[if_neg m])
    clear b
    simp[af,ah,ad,ae,aa, *,aL,q,hx.r,h6.r,h5.r,hax.r,t,d,f,i,c]
    all_goals exact a
  ·by_cases m:2048<=ops.length
   ·have c:(2048:Int)<=ops.length:=by omega
    have a:=b 4 (by rw[if_pos m])
    clear b
    simp[af,ah,ad,ae,aa, *,aL,q,hx.r,h6.r,h5.r,hax.r,t,d,f,i,c]
    all_goals exact a
   ·have c : ¬(2048:Int)<=ops.length:=by omega
    have a:=b 0 (by rw[if_neg m])
    clear b
    simp[af,ah,ad,ae,aa, *,aL,q,hx.r,h6.r,h5.r,hax.r,t,d,f,i,c]
    all_goals exact a
 ·have i : ¬((k:Int)<ids.length):=λh=>w (l h)
  clear u l B
  by_cases v:a_1=2
  ·subst v
   simp only[show ¬((2:UInt8)=3) from by decide,false_and,or_false,true_and]at b
   by_cases j:a_6=a_2
   ·by_cases o:a_7=a_3
    ·by_cases m:2048<=ops.length
     ·have c:(2048:Int)<=ops.length:=by omega
      have a:=b 4 (by rw[if_neg (λh=>h ⟨j,o⟩),if_pos m])
      clear b
      simp[af,ah,ad,ae,aa, *,aL,q,hx.r,h6.r,h5.r,hax.r,t,d,f,i,c,j,o,gk,ca]
      all_goals exact a
     ·have c : ¬(2048:Int)<=ops.length:=by omega
      have a:=b 0 (by rw[if_neg (λh=>h ⟨j,o⟩),if_neg m])
      clear b
      simp[af,ah,ad,ae,aa, *,aL,q,hx.r,h6.r,h5.r,hax.r,t,d,f,i,c,j,o,gk,ca]
      all_goals exact a
    ·have a:=b 2 (by rw[if_pos (λh=>o h.2)])
     clear b
     simp[af,ah,ad,ae,aa, *,aL,q,hx.r,h6.r,h5.r,hax.r,t,d,f,i,j,o,gk,ca]
     all_goals exact a
   ·have a:=b 2 (by rw[if_pos (λh=>j h.1)])
    clear b
    simp[af,ah,ad,ae,aa, *,aL,q,hx.r,h6.r,h5.r,hax.r,t,d,f,i,j,gk,ca]
    all_goals exact a
  ·by_cases z:a_1=3
   ·subst z
    simp only[show ¬((3:UInt8)=2) from by decide,false_and,false_or,true_and]at b
    cases fb with
    | false=>
     have a:=b 2 (by simp)
     clear b
     simp[af,ah,ad,ae,aa, *,aL,q,hx.r,h6.r,h5.r,hax.r,t,d,f,i]
     all_goals exact a
    | true=>
     by_cases m:2048<=ops.length
     ·have c:(2048:Int)<=ops.length:=by omega
      have a:=b 4 (by simp[m])
      clear b
      simp[af,ah,ad,ae,aa, *,aL,q,hx.r,h6.r,h5.r,hax.r,t,d,f,i,c]
      all_goals exact a
     ·have c : ¬(2048:Int)<=ops.length:=by omega
      have a:=b 0 (by simp[m])
      clear b
      simp[af,ah,ad,ae,aa, *,aL,q,hx.r,h6.r,h5.r,hax.r,t,d,f,i,c]
      all_goals exact a
   ·simp only[v,z,false_and,or_self,if_false]at b
    by_cases m:2048<=ops.length
    ·have c:(2048:Int)<=ops.length:=by omega
     have a:=b 4 (by rw[if_pos m])
     clear b
     simp[af,ah,ad,ae,aa, *,aL,q,hx.r,h6.r,h5.r,hax.r,t,d,f,i,c,w,v,z]
     all_goals exact a
    ·have c : ¬(2048:Int)<=ops.length:=by omega
     have a:=b 0 (by rw[if_neg m])
     clear b
     simp[af,ah,ad,ae,aa, *,aL,q,hx.r,h6.r,h5.r,hax.r,t,d,f,i,c,w,v,z]
     all_goals exact a
theorem aav{r3:Ref}{H:ai}(u:H.get r3=some ⟨17,[.agg [a8 a_1,a8 a_2,aw a_3,a8 a_4,aI a_5,a8 a_6,aw a_7,a8 a_8,aI a_9,aI a_10,a8 a_11,aw a_12,a8 a_13,aI a_14,a8 a_15,aw a_16,x]],false,false⟩)(w : ¬a_1=1){Q:AV->ai->Prop} : ∀(s:List bR)(k:Nat),ids.drop k=s->k<=ids.length ->
 (∀y,y=aI (LY ops ones (⟨a_1,⟨a_2,a_3,a_4⟩,a_5,⟨⟨⟨a_6,a_7,a_8⟩,a_9⟩,a_10⟩,⟨⟨a_11,a_12,a_13⟩,a_14⟩,⟨a_15,a_16⟩,al⟩:aN) s)->Q y H) ->
 bB env Tryz.f88 0 dy [(8,aI k),(3,.ptr r3 0 0),(6,x6),(5,x5),(0,x0)] H Q:=by
 intro s
 induction s with
 | nil=>
  rintro k hs' hk hQ
  have v:k=ids.length:=by have:=congrArg List.length hs';simp at this;omega
  exact Qh hx hl hall h5 hol h6 hil a_1 a_2 a_3 a_4 a_5 a_6 a_7 a_8 a_9 a_10 a_11 a_12 a_13 a_14 a_15 a_16 hax hs u k (.inr v) hk (λy e=>hQ y (by rw[e];simp[LY]))
 | cons i s z=>
  rintro k hs' hk hQ
  obtain⟨C,B,c,t⟩:=drop_cons hs'
  have D:=IntWalk.i64_in ((k:Int)+1) (by omega)
  have l:=IF h5 hol i.h.lv i.h.cats i.h.num i.n a_2 a_3
  have A:=jy ops
  have o:=ye ids
  have d:(k:Int)<ids.length:=by omega
  have m:bW (lP ids) k 0 4 true=some (.agg [a8 i.h.lv,aw i.h.cats,a8 i.h.num,aI i.n]):=by simp[bW,lP,U1,t]
  have q:(decide ((⟨⟨i.h.lv,i.h.cats,i.h.num⟩,i.n⟩:bR)∈ones.map (·.i))&&nK ⟨i.h.lv,i.h.cats⟩ ⟨a_2,a_3⟩)=tf ones (⟨a_1,⟨a_2,a_3,a_4⟩,a_5,⟨⟨⟨a_6,a_7,a_8⟩,a_9⟩,a_10⟩,⟨⟨a_11,a_12,a_13⟩,a_14⟩,⟨a_15,a_16⟩,al⟩:aN) i:=rfl
  rw[q]at l
  have j:=z (k+1) c (by omega)
  rw[show((k+1:Nat):Int)=(k:Int)+1 from by omega]at j
  have a:=λ(h:tf ones (⟨a_1,⟨a_2,a_3,a_4⟩,a_5,⟨⟨⟨a_6,a_7,a_8⟩,a_9⟩,a_10⟩,⟨⟨a_11,a_12,a_13⟩,a_14⟩,⟨a_15,a_16⟩,al⟩:aN) i=true)=>j (λy e=>hQ y (by rw[e];simp[LY,h]))
  have f:=λ(h:tf ones (⟨a_1,⟨a_2,a_3,a_4⟩,a_5,⟨⟨⟨a_6,a_7,a_8⟩,a_9⟩,a_10⟩,⟨⟨a_11,a_12,a_13⟩,a_14⟩,⟨a_15,a_16⟩,al⟩:aN) i=false)=>hQ (aI 6) (by simp[LY,h])
  clear z j hQ q hs' c B t hall
  generalize tf ones (⟨a_1,⟨a_2,a_3,a_4⟩,a_5,⟨⟨⟨a_6,a_7,a_8⟩,a_9⟩,a_10⟩,⟨⟨a_11,a_12,a_13⟩,a_14⟩,⟨a_15,a_16⟩,al⟩:aN) i=sb at *
  generalize lP ids=ej at *
  refine ny _ _ _ _ _ _ _ λg=>?_
  cases sb with
  | true=>
   have b:=a rfl
   clear a f
   simp[af,ah,ad,ae,aa, *,aL,u,hx.r,h6.r,h6.idx,h5.r,hax.r,l,o,d,m,w]
   all_goals exact b
  | false=>
   have b:=f rfl
   clear a f
   simp[af,ah,ad,ae,aa, *,aL,u,hx.r,h6.r,h6.idx,h5.r,hax.r,l,o,d,m,w]
   all_goals exact b
theorem aeX{r3:Ref}{H:ai}(A:H.get r3=some ⟨17,[.agg [a8 a_1,a8 a_2,aw a_3,a8 a_4,aI a_5,a8 a_6,aw a_7,a8 a_8,aI a_9,aI a_10,a8 a_11,aw a_12,a8 a_13,aI a_14,a8 a_15,aw a_16,x]],false,false⟩)(L:a_1=1){Q:AV->ai->Prop} : ∀(s:List bR)(k:Nat),ids.drop k=s->k<=ids.length ->
 (∀y,y=aI (if s.any (λi=>decide (i∈ones.map (·.i)))=true then 2 else if 8192<(ones.length:Int)+ids.length then 4 else C2 ops (⟨a_1,⟨a_2,a_3,a_4⟩,a_5,⟨⟨⟨a_6,a_7,a_8⟩,a_9⟩,a_10⟩,⟨⟨a_11,a_12,a_13⟩,a_14⟩,⟨a_15,a_16⟩,al⟩:aN))->Q y H) ->
 bB env Tryz.f88 0 gJ [(7,aI k),(6,x6),(5,x5),(3,.ptr r3 0 0),(0,x0)] H Q:=by
 intro s
 induction s with
 | nil=>
  rintro k hs' hk hQ
  have G:k=ids.length:=by have:=congrArg List.length hs';simp at this;omega
  have d:=λM=>Qh hx hl hall h5 hol h6 hil a_1 a_2 a_3 a_4 a_5 a_6 a_7 a_8 a_9 a_10 a_11 a_12 a_13 a_14 a_15 a_16 hax hs A 0 (.inl L) (Dq _) (Q:=Q) M
  have C:=jy ops
  have c:=ye ids
  have u:=qj ones
  have E:=IntWalk.i64_in ((ones.length:Int)+(ids.length:Int)) (by omega)
  have q:((8192:Int)<(ones.length:Int)+ids.length) \/¬((8192:Int)<(ones.length:Int)+ids.length):=Classical.em _
  have l : ¬((k:Int)<ids.length):=by omega
  simp only[List.any_nil,jH,if_false]at hQ
  clear hall G
  refine nQ _ _ _ _ _ _ _ λg=>?_
  rcases q with q | q
  ·have a:=hQ (aI 4) (by rw[if_pos q])
   clear hQ d
   simp[af,ah,ad,ae,aa, *,eX,A,hx.r,h6.r,h5.r,c,u,l,E,q]
   all_goals exact a
  ·have a:=d (λy e=>hQ y (by rw[if_neg q];exact e))
   clear hQ d
   simp[af,ah,ad,ae,aa, *,eX,A,hx.r,h6.r,h5.r,c,u,l,E,q]
   all_goals exact a
 | cons i s I=>
  rintro k hs' hk hQ
  obtain⟨K,J,f,z⟩:=drop_cons hs'
  have E:=IntWalk.i64_in ((k:Int)+1) (by omega)
  have F:=Gt h5 hol i.h.lv i.h.cats i.h.num i.n
  have D:=GW i ones 0
  have C:=jy ops
  have c:=ye ids
  have j:(k:Int)<ids.length:=by omega
  have v:bW (lP ids) k 0 4 true=some (.agg [a8 i.h.lv,aw i.h.cats,a8 i.h.num,aI i.n]):=by simp[bW,lP,U1,z]
  have w:BQ (⟨⟨i.h.lv,i.h.cats,i.h.num⟩,i.n⟩:bR) ones 0=BQ i ones 0:=rfl
  rw[w]at F
  have t:=I (k+1) f (by omega)
  rw[show((k+1:Nat):Int)=(k:Int)+1 from by omega]at t
  have b:=λ(h:0<=BQ i ones 0)=>hQ (aI 2) (by rw[Fz,decide_eq_true (D.1 h)];simp)
  have o:=λ(h : ¬0<=BQ i ones 0)=>t (λy e=>hQ y (by rw[e,Fz,decide_eq_false (λm=>h (D.2 m)),Ds]))
  clear I t hQ w hs' f J z hall D
  generalize BQ i ones 0=n at *
  generalize lP ids=ej at *
  refine nQ _ _ _ _ _ _ _ λg=>?_
  by_cases B:0<=n
  ·have a:=b B
   clear b o
   simp[af,ah,ad,ae,aa, *,eX,A,hx.r,h6.r,h6.idx,h5.r,hax.r,F,c,j,v,B]
   all_goals exact a
  ·have a:=o B
   clear b o
   simp[af,ah,ad,ae,aa, *,eX,A,hx.r,h6.r,h6.idx,h5.r,hax.r,F,c,j,v,B]
   all_goals exact a
end
section
variable{ops:List (aN × AV)}{x0:AV}(hx:Sl 17 (cD ops) x0)(hl:ops.length<10000)(hall : ∀p∈ops,AK p)
variable(a_1:UInt8)(a_2:UInt8)(a_3:UInt32)(a_4:UInt8)(a_5:Int)(a_6:UInt8)(a_7:UInt32)(a_8:UInt8)(a_9:Int)(a_10:Int)(a_11:UInt8)(a_12:UInt32)(a_13:UInt8)(a_14:Int)(a_15:UInt8)(a_16:UInt32){al:List Int}{x:AV}(hax:Sl 1 (rows al) x)(hs:eN ⟨⟨⟨a_6,a_7,a_8⟩,a_9⟩,a_10⟩=true)(hrg:tF al)(hal:al.length<100000)
include hx hl hall hax hs hrg hal
theorem Oe:aF env 88 [x0,.agg [a8 a_1,a8 a_2,aw a_3,a8 a_4,aI a_5,a8 a_6,aw a_7,a8 a_8,aI a_9,aI a_10,a8 a_11,aw a_12,a8 a_13,aI a_14,a8 a_15,aw a_16,x]]=some (aI (HY ops (eO ops) (⟨a_1,⟨a_2,a_3,a_4⟩,a_5,⟨⟨⟨a_6,a_7,a_8⟩,a_9⟩,a_10⟩,⟨⟨a_11,a_12,a_13⟩,a_14⟩,⟨a_15,a_16⟩,al⟩:aN) (eU ⟨⟨⟨a_6,a_7,a_8⟩,a_9⟩,a_10⟩ a_10.toNat 0))):=by
 obtain⟨x5,n,h5⟩:=QZ hx hl (λp hp=>(hall p hp).ins)
 have hol:(eO ops).length<1000000:=by have:=Ud hall;omega
 have m:=Td a_6 a_7 a_8 a_9 a_10 hs
 have h6:=AY 4 (lP (eU ⟨⟨⟨a_6,a_7,a_8⟩,a_9⟩,a_10⟩ a_10.toNat 0))
 have B:=gp hs
 simp only at B
 have t:=EB ⟨⟨⟨a_6,a_7,a_8⟩,a_9⟩,a_10⟩ a_10.toNat 0
 have hil:(eU ⟨⟨⟨a_6,a_7,a_8⟩,a_9⟩,a_10⟩ a_10.toNat 0).length<100000:=by omega
 have l:=Tk a_6 a_7 a_8 a_9 a_10 a_11 a_12 a_13 a_14 hax (by omega) hrg
 have f:=IF h5 hol a_11 a_12 a_13 a_14 a_2 a_3
 have q:(decide ((⟨⟨a_11,a_12,a_13⟩,a_14⟩:bR)∈(eO ops).map (·.i))&&nK ⟨a_11,a_12⟩ ⟨a_2,a_3⟩)=tf (eO ops) (⟨a_1,⟨a_2,a_3,a_4⟩,a_5,⟨⟨⟨a_6,a_7,a_8⟩,a_9⟩,a_10⟩,⟨⟨a_11,a_12,a_13⟩,a_14⟩,⟨a_15,a_16⟩,al⟩:aN) ⟨⟨a_11,a_12,a_13⟩,a_14⟩:=rfl
 rw[q]at f
 clear q t B
 generalize eU ⟨⟨⟨a_6,a_7,a_8⟩,a_9⟩,a_10⟩ a_10.toNat 0=ids at *
 generalize xU 4 (lP ids)=x6 at *
 have c:=λ(r3:Ref)(H:ai) hB j Q=>aeX hx hl hall h5 hol h6 hil a_1 a_2 a_3 a_4 a_5 a_6 a_7 a_8 a_9 a_10 a_11 a_12 a_13 a_14 a_15 a_16 hax hs (r3:=r3) (H:=H) hB j (Q:=Q) ids 0 rfl (by omega)
 have b:=λ(r3:Ref)(H:ai) hB j Q=>aav hx hl hall h5 hol h6 hil a_1 a_2 a_3 a_4 a_5 a_6 a_7 a_8 a_9 a_10 a_11 a_12 a_13 a_14 a_15 a_16 hax hs (r3:=r3) (H:=H) hB j (Q:=Q) ids 0 rfl (by omega)
 generalize eO ops=ones at *
 have w:xP (⟨⟨⟨⟨a_6,a_7,a_8⟩,a_9⟩,a_10⟩,⟨⟨a_11,a_12,a_13⟩,a_14⟩,al⟩:Rn)=xP (⟨⟨⟨⟨a_6,a_7,a_8⟩,a_9⟩,a_10⟩,⟨⟨a_11,a_12,a_13⟩,a_14⟩,al⟩:Rn):=rfl
 clear w
 generalize v:HY ops ones (⟨a_1,⟨a_2,a_3,a_4⟩,a_5,⟨⟨⟨a_6,a_7,a_8⟩,a_9⟩,a_10⟩,⟨⟨a_11,a_12,a_13⟩,a_14⟩,⟨a_15,a_16⟩,al⟩:aN) ids=en
 refine aH rfl (by kernel_rfl) (wK _ _ _ _ λg=>?_)
 clear hall
 by_cases j:a_1=1
 ·subst j
  have d:(⟨⟨a_11,a_12,a_13⟩,a_14⟩:bR)=qI↔(((a_11=0/\a_12=0)/\a_13=0)/\a_14=0):=by simp[qI,and_assoc]
  have a:en=if ¬(⟨⟨a_11,a_12,a_13⟩,a_14⟩:bR)=qI/\tf ones (⟨1,⟨a_2,a_3,a_4⟩,a_5,⟨⟨⟨a_6,a_7,a_8⟩,a_9⟩,a_10⟩,⟨⟨a_11,a_12,a_13⟩,a_14⟩,⟨a_15,a_16⟩,al⟩:aN) ⟨⟨a_11,a_12,a_13⟩,a_14⟩=false then 6 else if xP (⟨⟨⟨⟨a_6,a_7,a_8⟩,a_9⟩,a_10⟩,⟨⟨a_11,a_12,a_13⟩,a_14⟩,al⟩:Rn)=false then 2 else RK ops ones (⟨1,⟨a_2,a_3,a_4⟩,a_5,⟨⟨⟨a_6,a_7,a_8⟩,a_9⟩,a_10⟩,⟨⟨a_11,a_12,a_13⟩,a_14⟩,⟨a_15,a_16⟩,al⟩:aN) ids:=v.symm
  clear v b
  replace c:=λ(r3:Ref)(H:ai) hB Q=>c r3 H hB rfl Q
  generalize tf ones (⟨1,⟨a_2,a_3,a_4⟩,a_5,⟨⟨⟨a_6,a_7,a_8⟩,a_9⟩,a_10⟩,⟨⟨a_11,a_12,a_13⟩,a_14⟩,⟨a_15,a_16⟩,al⟩:aN) ⟨⟨a_11,a_12,a_13⟩,a_14⟩=sb at *
  generalize xP (⟨⟨⟨⟨a_6,a_7,a_8⟩,a_9⟩,a_10⟩,⟨⟨a_11,a_12,a_13⟩,a_14⟩,al⟩:Rn)=rb at *
  by_cases u:(((a_11=0/\a_12=0)/\a_13=0)/\a_14=0)
  ·rw[if_neg (λh=>h.1 (d.2 u))]at a
   clear d
   obtain⟨⟨⟨rfl,rfl⟩,rfl⟩,rfl⟩:=u
   cases rb with
   | false=>
    rw[if_pos rfl]at a
    subst a
    simp[af,ah,ad,ae,aa, *,dx,hx.r,hax.r,n,m,l,h5.r,h6.r,gk,ca]
   | true=>
    rw[if_neg (by decide)]at a
    unfold RK at a
    simp[af,ah,ad,ae,aa, *,dx,hx.r,hax.r,n,m,l,h5.r,h6.r,gk,ca]
    refine c _ _ (by simp) _ (λy e=>?_)
    subst e
    simp[a]
  ·have o : ¬(⟨⟨a_11,a_12,a_13⟩,a_14⟩:bR)=qI:=λh=>u (d.1 h)
   clear d
   have k:(!decide (a_11=0) || !decide (a_12=0) || !decide (a_13=0) || !decide (a_14=0))=true:=by
    rw[Fi]
    simp only[ff,dQ,decide_eq_false_iff_not]
    constructor
    ·intro _;trivial
    ·intro _
     by_cases z:a_11=0
     ·by_cases A:a_12=0
      ·by_cases C:a_13=0
       ·exact .inr λD=>u ⟨⟨⟨z,A⟩,C⟩,D⟩
       ·exact .inl (.inr C)
      ·exact .inl (.inl (.inr A))
     ·exact .inl (.inl (.inl z))
   cases sb with
   | false=>
    rw[if_pos ⟨o,rfl⟩]at a
    subst a
    simp[af,ah,ad,ae,aa, *,dx,hx.r,hax.r,n,m,l,h5.r,h6.r,f,k,gk,ca]
   | true=>
    rw[if_neg (λh=>absurd h.2 (by decide))]at a
    clear o
    cases rb with
    | false=>
     rw[if_pos rfl]at a
     subst a
     simp[af,ah,ad,ae,aa, *,dx,hx.r,hax.r,n,m,l,h5.r,h6.r,f,k,gk,ca]
    | true=>
     rw[if_neg (by decide)]at a
     unfold RK at a
     simp[af,ah,ad,ae,aa, *,dx,hx.r,hax.r,n,m,l,h5.r,h6.r,f,k,gk,ca]
     refine c _ _ (by simp) _ (λy e=>?_)
     subst e
     simp[a]
 ·have a:en=LY ops ones (⟨a_1,⟨a_2,a_3,a_4⟩,a_5,⟨⟨⟨a_6,a_7,a_8⟩,a_9⟩,a_10⟩,⟨⟨a_11,a_12,a_13⟩,a_14⟩,⟨a_15,a_16⟩,al⟩:aN) ids:=by rw[<-v];unfold HY;rw[if_neg j]
  clear v c
  replace b:=λ(r3:Ref)(H:ai) hB Q=>b r3 H hB j Q
  simp[af,ah,ad,ae,aa, *,dx,hx.r,hax.r,n,m,l,h5.r,h6.r,j]
  refine b _ _ (by simp) _ (λy e=>?_)
  subst e
  simp[a]
end
end Go.Proofs.YtdbiffjdomokfaaGreat
namespace Go.Proofs.YtdbiffjdomokfaaGreat
open Go.Ab
attribute [local simp] aU aK aG aW aV cz lT ba aO aQ cg cf bI bc ay bE gw
def W9(o:aN):List bR:=eU o.s o.s.many.toNat 0
def Kv(l:List (cB × AV))(o:aN):Int:=HY (kN l) (eO (kN l)) o (W9 o)
def F9(l:List (cB × AV))(o:aN):zM:=uO ⟨o.h.lv,o.h.cats⟩ ⟨0,0,0⟩ l
def Gp(l:List (cB × AV))(o:aN):Nj:=lU o.h ⟨false,0,0⟩ l
def Mm(qs:List aC)(l:List (cB × AV))(o:aN):Int:=
 if Kv l o≠0 then Kv l o else if o.kind=1/\(nC qs o.h.lv o.h.cats).cells<IntKind.i64.wrap ((F9 l o).cells+o.s.many) then 9 else 0
def Aw(us:List Clear)(qs:List aC)(gr:Int)(l:List (cB × AV))(r:cB):Bool:=
 if r.kind=3 then decide (mP (iW us gr l).1 (iW us gr l).2 r.gu=0)
 else if r.kind=1 then !(Gp l r.op).o&&(oY (iW us gr l).1 r.user r.op.h.lv r.op.h.cats&&decide ((F9 l r.op).opens<(nC qs r.op.h.lv r.op.h.cats).opens))
 else (Gp l r.op).o&&(oY (iW us gr l).1 (Gp l r.op).u r.op.h.lv r.op.h.cats&&(decide (r.op.serial=IntKind.i64.wrap ((Gp l r.op).s+1))&&(decide ((F9 l r.op).ops<(nC qs r.op.h.lv r.op.h.cats).ops)&&decide (r.code=Mm qs l r.op))))
structure Dl (p:cB × AV):Prop where
 x:Sl 1 (rows p.1.op.l) p.2
 rng:tF p.1.op.l
 may:dC p.1=true
theorem xQ{r:cB}(h:dC r=true)(k:r.kind=2):mK r.op=true:=by
 simp only[dC,k,show ¬((2:UInt8)=1) from by decide,if_false,if_true,aZ]at h
 exact h.2.1
theorem RZ{l:List (cB × AV)}(h : ∀p∈l,Dl p) : ∀p∈kN l,AK p:=by
 intro p hp
 unfold kN at hp
 obtain⟨q,hq,rfl⟩:=r8.1 hp
 obtain⟨hq,a⟩:=Fl.1 hq
 simp only[isDone,aZ,decide_eq_true_eq]at a
 exact⟨(h q hq).x,xQ (h q hq).may a.1,(h q hq).rng⟩
theorem MR(l:List (cB × AV)):(kN l).length<=l.length:=by
 unfold kN;rw[p7];exact Im _ _
theorem Ul(us:List Clear)(gr:Int)(l:List (cB × AV)):(iW us gr l).1.length=us.length:=by
 induction l generalizing us gr with
 | nil=>rfl
 | cons p l a=>
  rw[iW]
  split
  ·rw[a,Js]
  ·exact a _ _
section
variable{l:List (cB × AV)}{x1:AV}(hx:Sl 24 (bh l) x1)(hl:l.length<10000)(hall : ∀p∈l,Dl p)
variable{xu xq:AV}{us:List Clear}{qs:List aC}{gr:Int}(hu:Sl 3 (cW us) xu)(hq:Sl 5 (cN qs) xq)(hql:qs.length<1000)(hul:us.length<1000)
include hx hl hall hu hq hql hul
theorem Ls(o:UInt8)(b:UInt8)(c:UInt32)(z:UInt8)(w:Int)(t:UInt8)(u:UInt32)(v:UInt8)(q:Int)(a:Int)(j:UInt8)(f:UInt32)(k:UInt8)(d:Int)(m:UInt8)(i:UInt32){x:AV}{B:List Int}(A:Sl 1 (rows B) x)(T:eN ⟨⟨⟨t,u,v⟩,q⟩,a⟩=true)(L:tF B)(M:B.length<100000) :
 aF env 61 [.agg [xu,xq,aI gr],x1,.agg [a8 o,a8 b,aw c,a8 z,aI w,a8 t,aw u,a8 v,aI q,aI a,a8 j,aw f,a8 k,aI d,a8 m,aw i,x]]=some (aI (Mm qs l (⟨o,⟨b,c,z⟩,w,⟨⟨⟨t,u,v⟩,q⟩,a⟩,⟨⟨j,f,k⟩,d⟩,⟨m,i⟩,B⟩:aN))):=by
 obtain⟨y,G,F⟩:=QY hx (by omega) (λp hp=>(hall p hp).x)
 have N:=MR l
 have D:=Oe F (by omega) (RZ hall) o b c z w t u v q a j f k d m i A T L M
 have I:=Gs hx (by omega) b c
 have J:=Tf (gr:=gr) hu hq (by omega) b c
 have Q:Mm qs l (⟨o,⟨b,c,z⟩,w,⟨⟨⟨t,u,v⟩,q⟩,a⟩,⟨⟨j,f,k⟩,d⟩,⟨m,i⟩,B⟩:aN)=if Kv l (⟨o,⟨b,c,z⟩,w,⟨⟨⟨t,u,v⟩,q⟩,a⟩,⟨⟨j,f,k⟩,d⟩,⟨m,i⟩,B⟩:aN)≠0 then Kv l (⟨o,⟨b,c,z⟩,w,⟨⟨⟨t,u,v⟩,q⟩,a⟩,⟨⟨j,f,k⟩,d⟩,⟨m,i⟩,B⟩:aN) else if o=1/\(nC qs b c).cells<IntKind.i64.wrap ((uO ⟨b,c⟩ ⟨0,0,0⟩ l).cells+a) then 9 else 0:=rfl
 have E:HY (kN l) (eO (kN l)) (⟨o,⟨b,c,z⟩,w,⟨⟨⟨t,u,v⟩,q⟩,a⟩,⟨⟨j,f,k⟩,d⟩,⟨m,i⟩,B⟩:aN) (eU ⟨⟨⟨t,u,v⟩,q⟩,a⟩ a.toNat 0)=Kv l (⟨o,⟨b,c,z⟩,w,⟨⟨⟨t,u,v⟩,q⟩,a⟩,⟨⟨j,f,k⟩,d⟩,⟨m,i⟩,B⟩:aN):=rfl
 rw[E]at D
 rw[Q]
 clear Q E hall N
 generalize Kv l (⟨o,⟨b,c,z⟩,w,⟨⟨⟨t,u,v⟩,q⟩,a⟩,⟨⟨j,f,k⟩,d⟩,⟨m,i⟩,B⟩:aN)=e at *
 generalize uO ⟨b,c⟩ ⟨0,0,0⟩ l=ul at *
 generalize nC qs b c=qo at *
 obtain⟨Y,S,P⟩:=ul
 obtain⟨U,V,W,X,R⟩:=qo
 generalize C:(if e≠0 then e else if o=1/\(⟨U,V,W,X,R⟩:aC).cells<IntKind.i64.wrap ((⟨Y,S,P⟩:zM).cells+a) then 9 else 0)=n
 simp only at C
 refine aH rfl (by kernel_rfl) (vx _ _ _ _ _ λg=>?_)
 by_cases O:e=0
 ·subst O
  rw[if_neg (by simp)]at C
  by_cases K:o=1
  ·subst K
   by_cases H:R<IntKind.i64.wrap (P+a)
   ·rw[if_pos ⟨rfl,H⟩]at C
    subst C
    simp[af,ah,ad,ae,aa, *,fv,hx.r,A.r,hu.r,hq.r,F.r,G,D,I,J,aC.enc,H]
   ·rw[if_neg (λh=>H h.2)]at C
    subst C
    simp[af,ah,ad,ae,aa, *,fv,hx.r,A.r,hu.r,hq.r,F.r,G,D,I,J,aC.enc,H]
  ·rw[if_neg (λh=>K h.1)]at C
   subst C
   simp[af,ah,ad,ae,aa, *,fv,hx.r,A.r,hu.r,hq.r,F.r,G,D,I,J,aC.enc,K]
 ·rw[if_pos O]at C
  subst C
  simp[af,ah,ad,ae,aa, *,fv,hx.r,A.r,hu.r,hq.r,F.r,G,D,I,J,aC.enc,O]
omit hx hu hq in
theorem Xb : ∀p∈l,p.1.kind=3->0<=p.1.gu:=by
 intro p hp k
 have h:=(hall p hp).may
 simp only[dC,k,show ¬((3:UInt8)=1) from by decide,show ¬((3:UInt8)=2) from by decide,if_false,if_true,aZ,wV,decide_eq_true_eq]at h
 omega
theorem QX(k:UInt8)(u:Int)(C:UInt8)(a:UInt8)(b:UInt32)(f:UInt8)(A:Int)(B:UInt8)(F:UInt32)(D:UInt8)(E:Int)(y:Int)(q:UInt8)(m:UInt32)(t:UInt8)(j:Int)(z:UInt8)(n:UInt32)(c L:Int)(v:UInt8)(w:UInt32)(o:Bool){x:AV}{N:List Int}(h:Sl 1 (rows N) x)(Z:tF N)(S:dC ⟨k,u,(⟨C,⟨a,b,f⟩,A,⟨⟨⟨B,F,D⟩,E⟩,y⟩,⟨⟨q,m,t⟩,j⟩,⟨z,n⟩,N⟩:aN),c,L,v,w,o⟩=true) :
 aF env 38 [.agg [xu,xq,aI gr],x1,.agg [a8 k,aI u,a8 C,a8 a,aw b,a8 f,aI A,a8 B,aw F,a8 D,aI E,aI y,a8 q,aw m,a8 t,aI j,a8 z,aw n,x,aI c,aI L,a8 v,aw w,aB o]]=some (aB (Aw us qs gr l ⟨k,u,(⟨C,⟨a,b,f⟩,A,⟨⟨⟨B,F,D⟩,E⟩,y⟩,⟨⟨q,m,t⟩,j⟩,⟨z,n⟩,N⟩:aN),c,L,v,w,o⟩)):=by
 obtain⟨xu',xq',d,e,H⟩:=Tg (gr:=gr) hx hql (by omega) (Xb hl hall hql hul) hu hq hul
 have V:(iW us gr l).1.length<1000:=by rw[Ul];exact hul
 have J:=Gs hx (by omega) a b
 have I:=Wo hx (by omega) a b f
 have K:=Tf (gr:=gr) hu hq (by omega) a b
 generalize Q:Aw us qs gr l ⟨k,u,(⟨C,⟨a,b,f⟩,A,⟨⟨⟨B,F,D⟩,E⟩,y⟩,⟨⟨q,m,t⟩,j⟩,⟨z,n⟩,N⟩:aN),c,L,v,w,o⟩=gb
 refine aH rfl (by kernel_rfl) (xy _ _ _ _ _ λg=>?_)
 by_cases k3:k=3
 ·subst k3
  have i:gb=decide (mP (iW us gr l).1 (iW us gr l).2 L=0):=Q.symm
  have h0:0<=L:=by
   simp only[dC,show ¬((3:UInt8)=1) from by decide,show ¬((3:UInt8)=2) from by decide,if_false,if_true,aZ,wV,decide_eq_true_eq]at S
   omega
  clear Q S hall
  by_cases T:mP (iW us gr l).1 (iW us gr l).2 L=0
  ·have Y:=II d e hql V L v w o h0 T
   rw[decide_eq_true T]at i
   subst i
   clear T
   have hv:=FV 5 (cN qs)
   generalize Ce 5 (cN qs)=vo at *
   generalize iW us gr l=nf at *
   simp[af,ah,ad,ae,aa, *,bf,hx.r,h.r,hu.r,hq.r,d.r,e.r,hv.r,H,Y]
  ·have Y:=IH d e hql V L v w o T
   rw[decide_eq_false T]at i
   subst i
   generalize mP (iW us gr l).1 (iW us gr l).2 L=be at *
   generalize iW us gr l=nf at *
   simp[af,ah,ad,ae,aa, *,bf,hx.r,h.r,hu.r,hq.r,d.r,e.r,H,Y,T]
 ·by_cases k1:k=1
  ·subst k1
   have G:=PI (gr:=(iW us gr l).2) d e (by omega) (by omega) u a b
   have i:gb=(!(lU ⟨a,b,f⟩ ⟨false,0,0⟩ l).o&&(oY (iW us gr l).1 u a b&&decide ((uO ⟨a,b⟩ ⟨0,0,0⟩ l).opens<(nC qs a b).opens))):=Q.symm
   clear Q S hall
   generalize oY (iW us gr l).1 u a b=ob at *
   generalize lU ⟨a,b,f⟩ ⟨false,0,0⟩ l=sl at *
   generalize uO ⟨a,b⟩ ⟨0,0,0⟩ l=ul at *
   generalize nC qs a b=qo at *
   generalize iW us gr l=nf at *
   obtain⟨u1,u2,u3⟩:=ul
   obtain⟨q1,q2,q3,q4,q5⟩:=qo
   obtain⟨s1,s2,s3⟩:=sl
   simp only at i
   subst i
   cases s1 with
   | true=>simp[af,ah,ad,ae,aa, *,bf,hx.r,h.r,hu.r,hq.r,d.r,e.r,H,J,I,K,G,aC.enc]
   | false=>
    cases ob with
    | false=>simp[af,ah,ad,ae,aa, *,bf,hx.r,h.r,hu.r,hq.r,d.r,e.r,H,J,I,K,G,aC.enc]
    | true=>simp[af,ah,ad,ae,aa, *,bf,hx.r,h.r,hu.r,hq.r,d.r,e.r,H,J,I,K,G,aC.enc]
  ·have X:k=2:=by
    by_cases X:k=2
    ·exact X
    ·simp[dC,k1,X,k3]at S
   subst X
   have P:=xQ S rfl
   have G:=PI (gr:=(iW us gr l).2) d e (by omega) (by omega) (lU ⟨a,b,f⟩ ⟨false,0,0⟩ l).u a b
   have U:=CN P
   have O:=k7 P
   simp only at U O
   have M:=Ls (gr:=gr) hx hl hall hu hq hql hul C a b f A B F D E y q m t j z n h O Z (by omega)
   have i:gb=((lU ⟨a,b,f⟩ ⟨false,0,0⟩ l).o&&(oY (iW us gr l).1 (lU ⟨a,b,f⟩ ⟨false,0,0⟩ l).u a b&&(decide (A=IntKind.i64.wrap ((lU ⟨a,b,f⟩ ⟨false,0,0⟩ l).s+1))&&(decide ((uO ⟨a,b⟩ ⟨0,0,0⟩ l).ops<(nC qs a b).ops)&&decide (c=Mm qs l (⟨C,⟨a,b,f⟩,A,⟨⟨⟨B,F,D⟩,E⟩,y⟩,⟨⟨q,m,t⟩,j⟩,⟨z,n⟩,N⟩:aN)))))):=Q.symm
   clear Q S hall P U O
   generalize Mm qs l (⟨C,⟨a,b,f⟩,A,⟨⟨⟨B,F,D⟩,E⟩,y⟩,⟨⟨q,m,t⟩,j⟩,⟨z,n⟩,N⟩:aN)=jr at *
   generalize oY (iW us gr l).1 (lU ⟨a,b,f⟩ ⟨false,0,0⟩ l).u a b=ob at *
   generalize lU ⟨a,b,f⟩ ⟨false,0,0⟩ l=sl at *
   generalize uO ⟨a,b⟩ ⟨0,0,0⟩ l=ul at *
   generalize nC qs a b=qo at *
   generalize iW us gr l=nf at *
   obtain⟨u1,u2,u3⟩:=ul
   obtain⟨q1,q2,q3,q4,q5⟩:=qo
   obtain⟨s1,s2,s3⟩:=sl
   simp only at i G I
   by_cases R:A=IntKind.i64.wrap (s3+1)
   ·by_cases W:u2<q4
    ·rw[decide_eq_true R,decide_eq_true W]at i
     subst i
     subst R
     cases s1 with
     | false=>simp[af,ah,ad,ae,aa, *,bf,hx.r,h.r,hu.r,hq.r,d.r,e.r,H,J,I,K,G,M,aC.enc]
     | true=>
      cases ob with
      | false=>simp[af,ah,ad,ae,aa, *,bf,hx.r,h.r,hu.r,hq.r,d.r,e.r,H,J,I,K,G,M,aC.enc]
      | true=>simp[af,ah,ad,ae,aa, *,bf,hx.r,h.r,hu.r,hq.r,d.r,e.r,H,J,I,K,G,M,aC.enc,W]
    ·rw[decide_eq_true R,decide_eq_false W]at i
     subst i
     subst R
     cases s1 with
     | false=>simp[af,ah,ad,ae,aa, *,bf,hx.r,h.r,hu.r,hq.r,d.r,e.r,H,J,I,K,G,M,aC.enc]
     | true=>
      cases ob with
      | false=>simp[af,ah,ad,ae,aa, *,bf,hx.r,h.r,hu.r,hq.r,d.r,e.r,H,J,I,K,G,M,aC.enc]
      | true=>simp[af,ah,ad,ae,aa, *,bf,hx.r,h.r,hu.r,hq.r,d.r,e.r,H,J,I,K,G,M,aC.enc,W]
   ·rw[decide_eq_false R]at i
    subst i
    cases s1 with
    | false=>simp[af,ah,ad,ae,aa, *,bf,hx.r,h.r,hu.r,hq.r,d.r,e.r,H,J,I,K,G,M,aC.enc]
    | true=>
     cases ob with
     | false=>simp[af,ah,ad,ae,aa, *,bf,hx.r,h.r,hu.r,hq.r,d.r,e.r,H,J,I,K,G,M,aC.enc]
     | true=>simp[af,ah,ad,ae,aa, *,bf,hx.r,h.r,hu.r,hq.r,d.r,e.r,H,J,I,K,G,M,aC.enc,R]
end
end Go.Proofs.YtdbiffjdomokfaaGreat
namespace Go.Proofs.YtdbiffjdomokfaaGreat
open Go.Ab
attribute [local simp] aU aK aG aW aV cz lT ba aO aQ cg cf bI bc ay bE gw
structure Jj (p:cB × AV):Prop where
 x:Sl 1 (rows p.1.op.l) p.2
 rng:tF p.1.op.l
 len:p.1.op.l.length<100000
def GM(us:List Clear)(qs:List aC)(gr:Int):List (cB × AV)->List (cB × AV)->Bool
 | _,[]=>true
 | pre,p :: s=>dC p.1&&(Aw us qs gr pre p.1&&GM us qs gr (pre++[p]) s)
def Uu(us:List Clear)(qs:List aC)(gr:Int)(l:List (cB × AV)):Bool:=tY us qs gr&&(decide (l.length<=2048)&&GM us qs gr [] l)
section
variable{l:List (cB × AV)}{x1:AV}(hx:Sl 24 (bh l) x1)(hall : ∀p∈l,Jj p)
variable{xu xq:AV}{us:List Clear}{qs:List aC}{gr:Int}(hu:Sl 3 (cW us) xu)(hq:Sl 5 (cN qs) xq)(hql:qs.length<1000)(hul:us.length<1000)
include hx hall hu hq hql hul
theorem OK(M:l.length<10000){r2:Ref}{H:ai}(J:H.get r2=some ⟨3,[.agg [xu,xq,aI gr]],false,false⟩){Q:AV->ai->Prop} : ∀(s:List (cB × AV)) (k:Nat),l.drop k=s->k<=l.length->(∀p∈l.take k,Dl p) ->
 (∀y,y=aB (GM us qs gr (l.take k) s)->Q y H) ->
 bB env Tryz.f27 0 iY [(5,aI k),(1,x1),(2,.ptr r2 0 0)] H Q:=by
 intro s
 induction s with
 | nil=>
  rintro k hs hk D hQ
  obtain rfl:=drop_nil hs hk
  have c:=cP l
  have a:=hQ _ rfl
  simp only[GM]at a
  refine o6 _ _ _ _ _ λg=>?_
  clear hQ D hall
  simp[af,ah,ad,ae,aa, *,fP,hx.r]
  all_goals exact a
 | cons p s K=>
  rintro k hs hk hgd hQ
  obtain⟨G,D,w,u⟩:=drop_cons hs
  have L:=IntWalk.i64_in ((k:Int)+1) (by omega)
  have j:=Aj u
  have c:=cP l
  have d:(k:Int)<l.length:=by omega
  have hp:=hall p (D ▸ lM G)
  obtain⟨y,B,E⟩:=Gl (P:=env.P) (t:=31) (by kernel_rfl) H.get hx (n:=(k:Int)) (by omega) (by rw[c];omega)
  have C:(bh l).take (k:Int).toNat=bh (l.take k):=by simp[bh,Jp]
  rw[C]at E
  have I:(l.take k).length<10000:=by rw[sX];omega
  have m:l.take (k+1)=l.take k++[p]:=by rw[Ju,u];rfl
  have b:=λ(h:Dl p)=>K (k+1) w (by omega) (by
   rw[m]
   intro q hq
   rcases nM.1 hq with hq | hq
   ·exact hgd q hq
   ·rw[uC]at hq;subst hq;exact h)
  rw[show((k+1:Nat):Int)=(k:Int)+1 from by omega,m]at b
  clear K hs w D u hall C m
  have v:=Tl p.1.kind p.1.user p.1.op.kind p.1.op.h.lv p.1.op.h.cats p.1.op.h.num p.1.op.serial p.1.op.s.f.h.lv p.1.op.s.f.h.cats p.1.op.s.f.h.num p.1.op.s.f.n p.1.op.s.many p.1.op.a.h.lv p.1.op.a.h.cats p.1.op.a.h.num p.1.op.a.n p.1.op.to.lv p.1.op.to.cats p.1.code p.1.gu p.1.gv p.1.gc p.1.gok hp.x hp.len hp.rng
  have o:dC ⟨p.1.kind,p.1.user,⟨p.1.op.kind,⟨p.1.op.h.lv,p.1.op.h.cats,p.1.op.h.num⟩,p.1.op.serial,⟨⟨⟨p.1.op.s.f.h.lv,p.1.op.s.f.h.cats,p.1.op.s.f.h.num⟩,p.1.op.s.f.n⟩,p.1.op.s.many⟩,⟨⟨p.1.op.a.h.lv,p.1.op.a.h.cats,p.1.op.a.h.num⟩,p.1.op.a.n⟩,⟨p.1.op.to.lv,p.1.op.to.cats⟩,p.1.op.l⟩,p.1.code,p.1.gu,p.1.gv,p.1.gc,p.1.gok⟩=dC p.1:=rfl
  rw[o]at v
  rw[GM]at hQ
  refine o6 _ _ _ _ _ λg=>?_
  by_cases f:dC p.1=true
  ·have F:=QX (gr:=gr) E I hgd hu hq hql hul p.1.kind p.1.user p.1.op.kind p.1.op.h.lv p.1.op.h.cats p.1.op.h.num p.1.op.serial p.1.op.s.f.h.lv p.1.op.s.f.h.cats p.1.op.s.f.h.num p.1.op.s.f.n p.1.op.s.many p.1.op.a.h.lv p.1.op.a.h.cats p.1.op.a.h.num p.1.op.a.n p.1.op.to.lv p.1.op.to.cats p.1.code p.1.gu p.1.gv p.1.gc p.1.gok hp.x hp.rng f
   have z:Aw us qs gr (l.take k) ⟨p.1.kind,p.1.user,⟨p.1.op.kind,⟨p.1.op.h.lv,p.1.op.h.cats,p.1.op.h.num⟩,p.1.op.serial,⟨⟨⟨p.1.op.s.f.h.lv,p.1.op.s.f.h.cats,p.1.op.s.f.h.num⟩,p.1.op.s.f.n⟩,p.1.op.s.many⟩,⟨⟨p.1.op.a.h.lv,p.1.op.a.h.cats,p.1.op.a.h.num⟩,p.1.op.a.n⟩,⟨p.1.op.to.lv,p.1.op.to.cats⟩,p.1.op.l⟩,p.1.code,p.1.gu,p.1.gv,p.1.gc,p.1.gok⟩=Aw us qs gr (l.take k) p.1:=rfl
   rw[z]at F
   have A:Dl p:=⟨hp.x,hp.rng,f⟩
   have b:=b A
   rw[f]at v
   rw[f,nu]at hQ
   have e:=hp.x
   clear o z f hgd A hp
   generalize Aw us qs gr (l.take k) p.1=gb at *
   generalize p.2=x at *
   generalize p.1=r at *
   generalize bh l=er at *
   cases gb with
   | true=>
    rw[nu]at hQ
    have a:=b hQ
    clear b hQ
    simp[af,ah,ad,ae,aa, *,fP,hx.r,hx.idx,d,c,j,cB.val,v,F,e.r,J,B,hu.r,hq.r,E.r]
    all_goals exact a
   | false=>
    rw[xm]at hQ
    have a:=hQ _ rfl
    clear b hQ
    simp[af,ah,ad,ae,aa, *,fP,hx.r,hx.idx,d,c,j,cB.val,v,F,e.r,J,B,hu.r,hq.r,E.r]
    all_goals exact a
  ·have i:dC p.1=false:=by simpa using f
   rw[i]at v
   rw[i,xm]at hQ
   have a:=hQ _ rfl
   have e:=hp.x
   clear o f i hgd hp hQ b
   generalize p.2=x at *
   generalize p.1=r at *
   generalize bh l=er at *
   simp[af,ah,ad,ae,aa, *,fP,hx.r,hx.idx,d,c,j,cB.val,v,e.r,J]
   all_goals exact a
theorem Th(f:l.length<1000000):aF env 27 [.agg [xu,xq,aI gr],x1]=some (aB (Uu us qs gr l)):=by
 have b:=Wj (gr:=gr) hu hq (by omega) (by omega)
 have d:=cP l
 refine aH rfl (by kernel_rfl) (yx _ _ _ _ λg=>?_)
 unfold Uu
 cases hp:tY us qs gr with
 | false=>
  rw[hp]at b
  simp[af,ah,ad,ae,aa, *,jY,hx.r,hu.r,hq.r,b]
 | true=>
  rw[hp]at b
  by_cases c:l.length<=2048
  ·have a : ¬(2048:Int)<l.length:=by omega
   rw[decide_eq_true c]
   simp[af,ah,ad,ae,aa, *,jY,hx.r,hu.r,hq.r,b,a]
   refine OK (gr:=gr) hx hall hu hq hql hul (by omega) (by simp) l 0 rfl (by omega) (by simp) (λy e=>?_)
   subst e
   simp
  ·have a:(2048:Int)<l.length:=by omega
   rw[decide_eq_false c]
   simp[af,ah,ad,ae,aa, *,jY,hx.r,hu.r,hq.r,b,a]
end
end Go.Proofs.YtdbiffjdomokfaaGreat
namespace Go.Proofs.YtdbiffjdomokfaaGreat
open Go.Ab
theorem U2(s:vu)(a:bR)(b:eN s=true) : ∀(l:List Int)(k:Nat),(k:Int)+l.length<=s.many->(gT s a l k).map (·.i)=(List.range l.length).map λj=>zE s.f ((k+j:Nat):Int)
 | [],k,_=>rfl
 | r :: l,k,h=>by
  have c:=gp b
  simp only[nx]at h
  rw[gT,p6,U2 s a b l (k+1) (by omega),nx,NK,p6,Jn]
  congr 1
  ·show(⟨s.f.h,IntKind.i64.wrap (s.f.n+(k:Int))⟩:bR)=⟨s.f.h,s.f.n+((k+0:Nat):Int)⟩
   rw[IntWalk.i64_in _ (by omega)];rfl
  ·refine Jy λj _=>?_
   show zE s.f _=zE s.f _
   congr 1
   simp only[NC]
   omega
theorem I5(s:vu) : ∀(n k:Nat),eU s n k=(List.range n).map λj=>zE s.f ((k+j:Nat):Int)
 | 0,k=>rfl
 | n+1,k=>by
  rw[eU,I5 s n (k+1),NK,p6,Jn]
  congr 1
  refine Jy λj _=>?_
  show zE s.f _=zE s.f _
  congr 1
  simp only[NC]
  omega
theorem OU(o:aN):W9 o=cb o.s:=by
 unfold W9 cb
 rw[I5]
 refine Jy λj _=>?_
 rw[uy]
theorem OH{o:aN}(b:mK o=true)(k:o.kind=1):(pJ o).map (·.i)=cb o.s:=by
 have c:=k7 b
 have e:=gp c
 have d:(o.l.length:Int)=o.s.many:=by
  have h:=b
  simp only[mK,aZ,BO,k,if_true,GR,decide_eq_true_eq]at h
  exact h.2.2.2.2.2.2.2.1
 unfold pJ cb
 rw[if_pos k,U2 o.s o.a c o.l 0 (by omega),show o.l.length=o.s.many.toNat by omega]
 refine Jy λj _=>?_
 rw[uy]
theorem L5(s:vu):(cb s).Nodup:=by
 unfold cb
 refine List.Pairwise.map _ (λa b c h=>c ?_) List.nodup_range
 simp only[zE,bR.mk.injEq]at h
 omega
theorem Lk{i:bR} : ∀ {ents:List (bR × AV)},cm i ents=none->(jk i (aB true) ents).length=ents.length+1
 | [],_=>rfl
 | p :: ents,h=>by
  unfold cm at h
  split at h
  ·cases h
  ·rename_i a
   unfold jk
   rw[if_neg a,nx,Lk h,nx]
theorem ON{ents:List (bR × AV)}(a:nH ents){i:bR}(h:fA ents i=false):cm i ents=none:=by
 rcases look_ok (P:=λx=>x=aB true) a i with e | ⟨x,e,rfl⟩
 ·exact e
 ·unfold fA at h
  rw[e]at h
  simp[aB]at h
theorem Hq : ∀(a:List bR)(ents:List (bR × AV)),nH ents->a.Nodup->(∀i∈a,fA ents i=false)->(tJ ents a).length=ents.length+a.length
 | [],ents,_,_,_=>by simp
 | i :: a,ents,c,b,f=>by
  rw[FC]at b
  rw[EJ,Hq a _ (AQ c) b.2 (λj d=>by
   rw[Ge,f j (fW _ d),Bool.or_false,decide_eq_false_iff_not]
   intro e;subst e;exact b.1 d),Lk (ON c (f i gG)),nx]
  omega
structure DI (ops:List (aN × AV)) (ents:List (bR × AV)):Prop where
 there : ∀i,fA ents i=decide (i∈(eO ops).map (·.i))
 len:ents.length=(eO ops).length
 right:lu [] (opsOf ops)=true
 bools:nH ents
theorem DI.nil:DI [] []:=⟨λi=>rfl,rfl,rfl,λp hp=>by cases hp⟩
theorem Uc : ∀ {l a:List (aN × AV)},opsOf l=opsOf a->eO l=eO a:=by
 intro l a h
 have : ∀l:List (aN × AV),eO l=(opsOf l).flatMap pJ:=λl=>by simp[eO,opsOf,List.flatMap_map]
 rw[this,this,h]
theorem DI.adO{ops:List (aN × AV)}{ents:List (bR × AV)}(h:DI ops ents)(o:aN)(i:bR):uS ents o i=tf (eO ops) o i:=by
 unfold uS tf
 rw[h.there i];rfl
theorem Nc{α:Type}{p q:α->Bool}(h : ∀x,p x=q x)(l:List α):l.any p=l.any q:=by
 have:p=q:=funext h
 rw[this]
theorem DI.err{ops:List (aN × AV)}{ents:List (bR × AV)}(h:DI ops ents)(C:ops.length<=2048){o:aN}(v:mK o=true):u9 ops ents o=HY ops (eO ops) o (W9 o):=by
 have F:=gp (k7 v)
 rw[OU]
 have w:(cb o.s).length=o.s.many.toNat:=by simp[cb]
 have z:ra ents o = !(cb o.s).any (λi => !tf (eO ops) o i):=by
  unfold ra
  rw[Nc λi=>by rw[h.adO o i]]
 have B:pU (opsOf ops)=0:=y7 h.right (by simpa [opsOf] using C)
 unfold u9 HY tQ
 by_cases g:o.kind=1
 ·rw[if_pos g,if_pos g]
  have p:Hy o≠0↔xP ⟨o.s,o.a,o.l⟩=false:=by
   unfold Hy
   rw[if_pos v]
   by_cases q:xP ⟨o.s,o.a,o.l⟩=true
   ·rw[if_pos ⟨g,q⟩,q];simp
   ·rw[if_neg (λb=>q b.2)];simp[q]
  have m:(cb o.s).any (fA ents)=(cb o.s).any (λi=>decide (i∈(eO ops).map (·.i))):=Nc h.there _
  have e:fY o.a=decide (o.a=qI):=by
   rw[Fi,decide_eq_true_iff];exact xj o.a
  have c:C2 ops o=if 2048<=ops.length then 4 else 0:=by
   unfold C2
   rw[if_neg]
   rw[g];rintro(⟨h,_⟩ | ⟨h,_⟩)<;>exact absurd h (by decide)
  have A:fF ents o=if o.a≠qI/\tf (eO ops) o o.a=false then 6 else if xP ⟨o.s,o.a,o.l⟩=false then 2 else if (cb o.s).any (λi=>decide (i∈(eO ops).map (·.i)))=true then 2 else if 8192<((eO ops).length:Int)+(cb o.s).length then 4 else 0:=by
   unfold fF
   rw[h.adO,m,e,h.len,w,show((o.s.many.toNat:Nat):Int)=o.s.many by omega]
   generalize tf (eO ops) o o.a=sb
   generalize (cb o.s).any (λi=>decide (i∈(eO ops).map (·.i)))=ab
   by_cases d:o.a≠qI/\sb=false
   ·rw[if_pos d,if_pos (by rw[decide_eq_false d.1,d.2];decide)]
   ·have u : ¬((!decide (o.a=qI) && !sb)=true):=by
     intro b
     rw[aZ,dQ,dQ,decide_eq_false_iff_not]at b
     exact d b
    rw[if_neg d,if_neg u]
    by_cases j:xP ⟨o.s,o.a,o.l⟩=false
    ·have n:Hy o≠0\/ab=true:=Or.inl (p.2 j)
     rw[if_pos j,if_pos n]
    ·rw[if_neg j]
     cases ab with
     | true=>
      have n:Hy o≠0\/true=true:=Or.inr rfl
      rw[if_pos rfl,if_pos n]
     | false=>
      have n : ¬(Hy o≠0\/false=true):=λb=>b.elim (λb=>j (p.1 b)) (by simp)
      rw[if_neg (show ¬(false=true) by decide),if_neg n]
  rw[A]
  unfold RK
  rw[c]
  by_cases d:o.a≠qI/\tf (eO ops) o o.a=false
  ·simp only[if_pos d];simp
  ·simp only[if_neg d]
   by_cases j:xP ⟨o.s,o.a,o.l⟩=false
   ·simp only[if_pos j];simp
   ·simp only[if_neg j]
    by_cases y:(cb o.s).any (λi=>decide (i∈(eO ops).map (·.i)))=true
    ·simp only[if_pos y];simp
    ·simp only[if_neg y]
     by_cases x:8192<((eO ops).length:Int)+(cb o.s).length
     ·simp only[if_pos x];simp
     ·simp only[if_neg x]
      by_cases e:2048<=ops.length<;>simp[e]
 ·rw[if_neg g,if_neg g]
  unfold LY
  by_cases k:o.kind=2
  ·rw[if_pos k]
   unfold yR
   rw[z]
   generalize (cb o.s).any (λi => !tf (eO ops) o i)=ab
   have c:C2 ops o=if ¬(o.s.f.h.lv=o.h.lv/\o.s.f.h.cats=o.h.cats) then 2 else if 2048<=ops.length then 4 else 0:=by
    unfold C2
    by_cases b:o.s.f.h.lv=o.h.lv/\o.s.f.h.cats=o.h.cats
    ·have E : ¬((o.kind=2 /\¬(o.s.f.h.lv=o.h.lv/\o.s.f.h.cats=o.h.cats))\/(o.kind=3/\kD (opsOf ops) o=false)):=by
      rintro(⟨_,h⟩ | ⟨h,_⟩)
      ·exact h b
      ·rw[k]at h;exact absurd h (by decide)
     rw[if_neg E,if_neg (show ¬ ¬(o.s.f.h.lv=o.h.lv/\o.s.f.h.cats=o.h.cats) from λh=>h b)]
    ·rw[if_pos (.inl ⟨k,b⟩),if_pos b]
   rw[c]
   cases ab with
   | true=>simp
   | false=>
    by_cases b:o.s.f.h.lv=o.h.lv/\o.s.f.h.cats=o.h.cats
    ·by_cases e:2048<=ops.length<;>simp[b.1,b.2,e]
    ·have D:(decide (o.s.f.h.lv=o.h.lv)&&decide (o.s.f.h.cats=o.h.cats))=false:=by
      rw[<-Bool.decide_and,decide_eq_false_iff_not];exact b
     simp[D,b]
  ·rw[if_neg k]
   have t:o.kind=3:=by
    by_cases t:o.kind=3
    ·exact t
    ·simp[mK,BO,g,k,t]at v
   unfold yS
   rw[z,B]
   generalize (cb o.s).any (λi => !tf (eO ops) o i)=ab
   unfold C2
   generalize kD (opsOf ops) o=fb
   simp only[t,show ¬((3:UInt8)=2) from by decide,false_and,false_or,true_and]
   cases ab with
   | true=>simp
   | false=>
    cases fb with
    | false=>simp
    | true=>by_cases e:2048<=ops.length<;>simp[e]
theorem R1{ops:List (aN × AV)}{ents:List (bR × AV)}{o:aN}(a:u9 ops ents o=0):tQ ops ents o=0:=by
 unfold u9 at a
 split at a
 ·cases a
 ·exact a
theorem DI.step{ops:List (aN × AV)}{ents:List (bR × AV)}(h:DI ops ents){p:aN × AV}(l:mK p.1=true)(n:u9 ops ents p.1=0):DI (ops++[p]) (yc ents p.1):=by
 have a:eO (ops++[p])=eO ops++pJ p.1:=by simp[eO]
 have c:=R1 n
 have q:kD (opsOf ops) p.1=true:=by
  unfold tQ at c
  by_cases f:p.1.kind=3
  ·rw[if_neg (by rw[f];decide),if_neg (by rw[f];decide)]at c
   unfold yS at c
   split at c
   ·cases c
   ·split at c
    ·rename_i g;exact g.2
    ·cases c
  ·unfold kD
   rw[if_neg f]
 have j:lu [] (opsOf (ops++[p]))=true:=by rw[pS];exact Ah h.right l q
 by_cases e:p.1.kind=1
 ·have k:=OH l e
  have b:yc ents p.1=tJ ents (cb p.1.s):=by unfold yc;rw[if_pos e]
  have d : ∀i∈cb p.1.s,fA ents i=false:=by
   unfold tQ at c
   rw[if_pos e]at c
   unfold fF at c
   split at c
   ·cases c
   ·split at c
    ·cases c
    ·rename_i g
     intro i o
     cases t:fA ents i with
     | false=>rfl
     | true=>exact absurd (Or.inr (FH.2 ⟨i,o,t⟩)) g
  refine⟨λi=>?_,?_,j,?_⟩
  ·rw[b,yQ,h.there i,a,Fj,k,<-Bool.decide_or]
   refine decide_eq_decide.2 ?_
   rw[nM]
   exact Or.comm
  ·rw[b,Hq _ _ h.bools (L5 _) d,a,oN,h.len,<-k,p7]
  ·rw[b];exact EK _ h.bools
 ·have b:yc ents p.1=ents:=by unfold yc;rw[if_neg e]
  have m:pJ p.1=[]:=by unfold pJ;rw[if_neg e]
  rw[b]
  refine⟨λi=>?_,?_,j,h.bools⟩
  ·rw[a,m,sV];exact h.there i
  ·rw[a,m,sV];exact h.len
theorem MN{ops a:List (aN × AV)}(h:opsOf ops=opsOf a)(o:aN)(b:List bR):HY ops (eO ops) o b=HY a (eO a) o b:=by
 have d:ops.length=a.length:=by have:=congrArg List.length h;simpa [opsOf] using this
 have c:=Uc h
 unfold HY LY RK C2
 rw[h,c,d]
end Go.Proofs.YtdbiffjdomokfaaGreat
namespace Go.Proofs.YtdbiffjdomokfaaGreat
open Go.Ab
theorem Iw : ∀(l:List aC)(n:Int),EW (n - 1) l=EW n l - 1
 | [],n=>rfl
 | q :: l,n=>by
  show EW (n - 1+q.opens+4 * q.ops) l=EW (n+q.opens+4 * q.ops) l - 1
  rw[<-Iw l,show n - 1+q.opens+4 * q.ops=n+q.opens+4 * q.ops - 1 by omega]
theorem Qq{α:Type}{p:α->Bool}{x:α}(a:p x=true) : ∀(l:List α)(n:Nat),l.all p=true->(l.set n x).all p=true
 | [],_,h=>h
 | y :: l,0,h=>by
  rw[zq,aZ]at h
  rw[List.set_cons_zero,zq,a,h.2];rfl
 | y :: l,n+1,h=>by
  rw[zq,aZ]at h
  rw[List.set_cons_succ,zq,h.1,Qq a l n h.2];rfl
theorem Oz{us:List Clear}{qs:List aC}{gr:Int}(h:tY us qs gr=true){n:Nat}{v:UInt8}{c:UInt32}{ok:Bool}(a:ox v c ok=true)(f:gr≠0):tY (us.set n ⟨v,c,ok⟩) qs (IntKind.i64.wrap (gr - 1))=true:=by
 rw[LW]at h ⊢
 simp only[aZ,decide_eq_true_eq]at h
 have e:IntKind.i64.wrap (gr - 1)=gr - 1:=IntWalk.i64_in _ (by omega)
 rw[e,Iw]
 have d:=Qq (p:=λc:Clear=>ox c.lv c.cats c.ok) (x:=⟨v,c,ok⟩) a us n h.1.1.2
 simp only[aZ,decide_eq_true_eq,Js]
 exact⟨⟨⟨⟨⟨h.1.1.1.1.1,h.1.1.1.1.2⟩,by omega,by omega⟩,d⟩,h.1.2⟩,by omega,h.2.2⟩
theorem Gn(h:vI)(t:Nj)(l:List (cB × AV))(p:cB × AV):lU h t (l++[p])=vW h (lU h t l) p:=by simp[lU]
theorem F8(v:ib)(t:zM)(l:List (cB × AV))(p:cB × AV):uO v t (l++[p])=vU v (uO v t l) p:=by simp[uO]
theorem GI(us:List Clear)(gr:Int)(l:List (cB × AV))(p:cB × AV):iW us gr (l++[p])=iW (iW us gr l).1 (iW us gr l).2 [p]:=by
 induction l generalizing us gr with
 | nil=>rfl
 | cons q l c=>
  by_cases a:q.1.kind=3/\mP us gr q.1.gu=0
  ·rw[Nr,show iW us gr (q :: (l++[p]))=_ from if_pos a,show iW us gr (q :: l)=_ from if_pos a]
   exact c _ _
  ·rw[Nr,show iW us gr (q :: (l++[p]))=_ from if_neg a,show iW us gr (q :: l)=_ from if_neg a]
   exact c _ _
theorem D8(l:List (cB × AV))(p:cB × AV):kN (l++[p])=kN l++if isDone p then [(p.1.op,p.2)] else []:=by
 unfold kN
 rw[List.filter_append,Fj]
 congr 1
 rw[o4]
 split<;>rfl
structure Ic (us0:List Clear) (qs:List aC) (gr0:Int) (pre:List (cB × AV)) (b:ji):Prop where
 us:b.us=(iW us0 gr0 pre).1
 gr:b.gr=(iW us0 gr0 pre).2
 pol:tY b.us qs b.gr=true
 ses : ∀h:vI,(s9 (cm h b.ses)).o=(lU h ⟨false,0,0⟩ pre).o/\(s9 (cm h b.ses)).u=(lU h ⟨false,0,0⟩ pre).u/\(s9 (cm h b.ses)).s=(lU h ⟨false,0,0⟩ pre).s
 num : ∀h:vI,0<=(lU h ⟨false,0,0⟩ pre).s/\(lU h ⟨false,0,0⟩ pre).s<16777216/\((lU h ⟨false,0,0⟩ pre).o=false->(lU h ⟨false,0,0⟩ pre).s=0)
 use : ∀v:ib,vC (cm v b.used)=uO v ⟨0,0,0⟩ pre
 fc:opsOf b.fc=opsOf (kN pre)
 doc : ∃E,sk [] [] b.fc=some (b.fc,E)/\DI b.fc E
theorem Ic.nil{us0:List Clear}{qs:List aC}{gr0:Int}(hp:tY us0 qs gr0=true):Ic us0 qs gr0 [] (Bz us0 gr0):=
 ⟨rfl,rfl,hp,λh=>⟨rfl,rfl,rfl⟩,λh=>⟨Jk 0,(by decide:(0:Int)<16777216),λ_=>rfl⟩,λv=>rfl,rfl,[],rfl,DI.nil⟩
theorem Gx{r:cB}(h:dC r=true)(k:r.kind=3):0<=r.gu/\ox r.gv r.gc r.gok=true/\wV r.gu r.gv r.gc r.gok=true:=by
 simp only[dC,k,show ¬((3:UInt8)=1) from by decide,show ¬((3:UInt8)=2) from by decide,if_false,if_true,aZ]at h
 have c:=h.1
 have a:=h.1
 simp only[wV,aZ,decide_eq_true_eq]at a
 exact⟨a.1.1,by simpa [ox,He] using a.2,c⟩
theorem P8{h:vI}(a:me h=true):h.lv<=15:=by
 simp only[me,aZ,decide_eq_true_eq]at a
 first | exact a.1 | exact a.1.1
theorem LG{r:cB}(h:dC r=true)(k:r.kind=1\/r.kind=2):r.op.h.lv<=15:=by
 rcases k with k | k
 ·simp only[dC,k,if_true,aZ]at h
  exact P8 h.2.1
 ·have:=xQ h k
  simp only[mK,aZ]at this
  exact P8 this.1
theorem DP{us:List Clear}{qs:List aC}{gr:Int}{a:UInt8}(hp:tY us qs gr=true)(d:a<=15):zD us qs gr a=0:=by
 have c:y3 a=0:=by unfold y3;rw[if_neg (by simpa [UInt8.not_lt] using d)]
 unfold zD
 rw[c,hp];rfl
section
variable{us0:List Clear}{qs:List aC}{gr0:Int}{pre:List (cB × AV)}{b:ji}(h:Ic us0 qs gr0 pre b)(hp:tY us0 qs gr0=true)(hl:pre.length<=2048)
include h hp hl
theorem Ic.TK{a:UInt8}(c:UInt32)(d:a<=15):qS us0 qs gr0 a c=nC qs a c:=by
 unfold qS
 rw[if_pos (DP hp d)]
theorem Ic.verdict{o:aN}(d:mK o=true)(g:o.h.lv<=15):uE us0 qs gr0 b o=Mm qs pre o:=by
 obtain⟨E,i,f⟩:=h.doc
 have c:b.fc.length<=2048:=by
  have e:=congrArg List.length h.fc
  have:=MR pre
  simp only[opsOf,p7]at e
  omega
 have a:py b.fc o=Kv pre o:=by
  unfold py Kv
  rw[i]
  dsimp only
  rw[if_pos d,f.err c d]
  exact MN h.fc o _
 unfold uE Mm F9
 rw[a,h.TK hp hl o.h.cats g,h.use]
theorem Ic.fits{r:cB}(f:dC r=true):wo us0 qs gr0 b r=Aw us0 qs gr0 pre r:=by
 unfold wo Aw
 by_cases a:r.kind=1
 ·have d:=LG f (.inl a)
  obtain⟨s1,s2,g⟩:=h.ses r.op.h
  rw[if_pos a,if_neg (by rw[a];decide),if_pos a]
  unfold ED Ao nB pf Gp F9
  rw[s1,DP h.pol d,h.TK hp hl _ d,h.use,h.us]
  rfl
 ·rw[if_neg a,if_neg a]
  by_cases c:r.kind=2
  ·have d:=LG f (.inr c)
   have i:=xQ f c
   obtain⟨s1,s2,g⟩:=h.ses r.op.h
   rw[if_pos c,if_neg (by rw[c];decide)]
   unfold C0 Ao nB pf Gp F9
   rw[s1,s2,g,DP h.pol d,h.TK hp hl _ d,h.use,h.us,h.verdict hp hl i d]
   rfl
  ·have e:r.kind=3:=by
    by_cases e:r.kind=3
    ·exact e
    ·simp[dC,a,c,e]at f
   obtain⟨k,j,hm⟩:=Gx f e
   rw[if_neg c,if_pos e]
   unfold EC w9 mP
   rw[h.pol,hm,<-h.us,<-h.gr]
   rfl
theorem Ic.step{p:cB × AV}(H:dC p.1=true)(m:wo us0 qs gr0 b p.1=true):Ic us0 qs gr0 (pre++[p]) (O6 b p):=by
 have t:p.1.kind=1\/p.1.kind=2\/p.1.kind=3:=by
  by_cases x:p.1.kind=1
  ·exact .inl x
  ·by_cases q:p.1.kind=2
   ·exact .inr (.inl q)
   ·by_cases A:p.1.kind=3
    ·exact .inr (.inr A)
    ·simp[dC,x,q,A]at H
 unfold wo at m
 unfold O6
 rcases t with x | q | A
 ·have M : ¬p.1.kind=3:=by rw[x];decide
  have n2 : ¬p.1.kind=2:=by rw[x];decide
  rw[if_pos x]at m ⊢
  have f:iW us0 gr0 (pre++[p])=iW us0 gr0 pre:=by
   rw[GI]
   exact if_neg (λh=>M h.1)
  have j:kN (pre++[p])=kN pre:=by
   rw[D8,if_neg (by simp[isDone,n2]),sV]
  have n:(lU p.1.op.h ⟨false,0,0⟩ pre).o=false:=by
   simp only[ED,aZ,dQ,nB]at m
   rw[<-(h.ses p.1.op.h).1];exact m.1
  have g : ∀d:vI,lU d ⟨false,0,0⟩ (pre++[p])=if p.1.op.h=d then ⟨true,p.1.user,(lU d ⟨false,0,0⟩ pre).s⟩ else lU d ⟨false,0,0⟩ pre:=λd=>by
   rw[Gn]
   unfold vW
   by_cases e:p.1.op.h=d
   ·rw[if_pos e,if_pos e,if_pos x]
   ·rw[if_neg e,if_neg e]
  refine⟨by rw[f];exact h.us,by rw[f];exact h.gr,h.pol,λd=>?_,λd=>?_,λv=>?_,by rw[j];exact h.fc,h.doc⟩
  ·rw[g]
   show(s9 (cm d (jk p.1.op.h (A7.av ⟨true,p.1.user,0⟩) b.ses))).o=_/\(s9 (cm d (jk p.1.op.h (A7.av ⟨true,p.1.user,0⟩) b.ses))).u=_/\(s9 (cm d (jk p.1.op.h (A7.av ⟨true,p.1.user,0⟩) b.ses))).s=_
   by_cases e:d=p.1.op.h
   ·subst e
    rw[oh,Cu,if_pos rfl]
    exact⟨rfl,rfl,((h.num p.1.op.h).2.2 n).symm⟩
   ·rw[mF e,if_neg (λk=>e k.symm)]
    exact h.ses d
  ·rw[g]
   obtain⟨J,K,P⟩:=h.num d
   split
   ·exact⟨J,K,λk=>by cases k⟩
   ·exact⟨J,K,P⟩
  ·show vC (cm v (jk ⟨p.1.op.h.lv,p.1.op.h.cats⟩ (zM.av { pf b p.1.op with opens:=IntKind.i64.wrap ((pf b p.1.op).opens+1)}) b.used))=_
   rw[F8]
   unfold vU
   by_cases e:v=⟨p.1.op.h.lv,p.1.op.h.cats⟩
   ·subst e
    rw[oh,JR,if_pos ⟨rfl,rfl⟩,if_pos x]
    unfold pf
    rw[h.use]
   ·rw[mF e,if_neg (λk=>e (by obtain⟨a,c⟩:=v;rw[k.1,k.2]))]
    exact h.use v
 ·have n1 : ¬p.1.kind=1:=by rw[q];decide
  have M : ¬p.1.kind=3:=by rw[q];decide
  rw[if_neg n1,if_pos q]at m ⊢
  have B:=xQ H q
  have D:1<=p.1.op.serial/\p.1.op.serial<16777216:=by
   simp only[mK,aZ,decide_eq_true_eq]at B
   exact⟨B.2.1,B.2.2.1⟩
  simp only[C0,aZ,decide_eq_true_eq]at m
  obtain⟨T,_,G,_,i⟩:=m
  have f:iW us0 gr0 (pre++[p])=iW us0 gr0 pre:=by
   rw[GI]
   exact if_neg (λh=>M h.1)
  obtain⟨J,K,P⟩:=h.num p.1.op.h
  have L:(nB b p.1.op).s=(lU p.1.op.h ⟨false,0,0⟩ pre).s:=(h.ses p.1.op.h).2.2
  have R:p.1.op.serial=(lU p.1.op.h ⟨false,0,0⟩ pre).s+1:=by
   rw[G,L]
   exact IntWalk.i64_in _ (by omega)
  have z:(lU p.1.op.h ⟨false,0,0⟩ pre).o=true:=by rw[<-(h.ses p.1.op.h).1];exact T
  have g : ∀d:vI,lU d ⟨false,0,0⟩ (pre++[p])=if p.1.op.h=d then ⟨(lU d ⟨false,0,0⟩ pre).o,(lU d ⟨false,0,0⟩ pre).u,p.1.op.serial⟩ else lU d ⟨false,0,0⟩ pre:=λd=>by
   rw[Gn]
   unfold vW
   by_cases e:p.1.op.h=d
   ·subst e
    rw[if_pos rfl,if_pos rfl,if_neg n1,if_pos q,if_pos (by omega)]
   ·rw[if_neg e,if_neg e]
  refine⟨by rw[f];exact h.us,by rw[f];exact h.gr,h.pol,λd=>?_,λd=>?_,λv=>?_,?_,?_⟩
  ·rw[g]
   show(s9 (cm d (jk p.1.op.h (A7.av { nB b p.1.op with s:=IntKind.i64.wrap ((nB b p.1.op).s+1)}) b.ses))).o=_/\(s9 (cm d (jk p.1.op.h (A7.av { nB b p.1.op with s:=IntKind.i64.wrap ((nB b p.1.op).s+1)}) b.ses))).u=_/\(s9 (cm d (jk p.1.op.h (A7.av { nB b p.1.op with s:=IntKind.i64.wrap ((nB b p.1.op).s+1)}) b.ses))).s=_
   by_cases e:d=p.1.op.h
   ·subst e
    rw[oh,Cu,if_pos rfl]
    exact⟨(h.ses p.1.op.h).1,(h.ses p.1.op.h).2.1,G.symm⟩
   ·rw[mF e,if_neg (λk=>e k.symm)]
    exact h.ses d
  ·rw[g]
   by_cases e:p.1.op.h=d
   ·subst e
    rw[if_pos rfl]
    exact⟨by show 0<=p.1.op.serial;omega,D.2,λk=>by simp only at k;rw[z]at k;cases k⟩
   ·rw[if_neg e];exact h.num d
  ·show vC (cm v (jk ⟨p.1.op.h.lv,p.1.op.h.cats⟩ (zM.av (Hb b p.1.op p.1.code)) b.used))=_
   rw[F8]
   unfold vU
   by_cases e:v=⟨p.1.op.h.lv,p.1.op.h.cats⟩
   ·subst e
    rw[oh,JR,if_pos ⟨rfl,rfl⟩,if_neg n1,if_pos q]
    unfold Hb pf
    rw[h.use]
   ·rw[mF e,if_neg (λk=>e (by obtain⟨a,c⟩:=v;rw[k.1,k.2]))]
    exact h.use v
  ·rw[D8]
   show opsOf (if p.1.code=0 then b.fc++[(p.1.op,uQ p.2)] else b.fc)=_
   by_cases w:p.1.code=0
   ·rw[if_pos w,if_pos (by simp[isDone,q,w]),pS,pS,h.fc]
   ·rw[if_neg w,if_neg (by simp[isDone,w]),sV,h.fc]
  ·show ∃E,sk [] [] (if p.1.code=0 then b.fc++[(p.1.op,uQ p.2)] else b.fc)=some ((if p.1.code=0 then b.fc++[(p.1.op,uQ p.2)] else b.fc),E)/\DI (if p.1.code=0 then b.fc++[(p.1.op,uQ p.2)] else b.fc) E
   by_cases w:p.1.code=0
   ·rw[if_pos w]
    obtain⟨E,O,Q⟩:=h.doc
    have C:py b.fc p.1.op=0:=by
     rw[w]at i
     unfold uE at i
     by_cases N:py b.fc p.1.op=0
     ·exact N
     ·rw[if_pos N]at i;exact i.symm
    unfold py at C
    rw[O]at C
    dsimp only at C
    rw[if_pos B]at C
    refine⟨yc E p.1.op,?_,?_⟩
    ·rw[Ha,O,fy,if_pos ⟨B,C⟩]
    ·exact Q.step (p:=(p.1.op,uQ p.2)) B C
   ·rw[if_neg w]
    exact h.doc
 ·have n1 : ¬p.1.kind=1:=by rw[A];decide
  have n2 : ¬p.1.kind=2:=by rw[A];decide
  rw[if_neg n1,if_neg n2]at m ⊢
  obtain⟨U,S,hm⟩:=Gx H A
  have l:mP b.us b.gr p.1.gu=0:=by
   simp only[EC,decide_eq_true_eq]at m
   unfold w9 at m
   rw[h.pol,hm]at m
   exact m
  have I:b.gr≠0:=by
   intro e
   unfold mP at l
   rw[e]at l
   split at l
   ·cases l
   ·cases l
  have f:iW us0 gr0 (pre++[p])=(b.us.set p.1.gu.toNat ⟨p.1.gv,p.1.gc,p.1.gok⟩,IntKind.i64.wrap (b.gr - 1)):=by
   rw[GI,<-h.us,<-h.gr]
   exact if_pos ⟨A,l⟩
  have y : ∀d:vI,lU d ⟨false,0,0⟩ (pre++[p])=lU d ⟨false,0,0⟩ pre:=λd=>by
   rw[Gn]
   unfold vW
   rw[if_neg n1,if_neg n2,ite_self]
  have F : ∀v:ib,uO v ⟨0,0,0⟩ (pre++[p])=uO v ⟨0,0,0⟩ pre:=λv=>by
   rw[F8]
   unfold vU
   rw[if_neg n1,if_neg n2,ite_self]
  have j:kN (pre++[p])=kN pre:=by
   rw[D8,if_neg (by simp[isDone,n2]),sV]
  exact⟨by rw[f];rfl,by rw[f];rfl,Oz h.pol S I,λd=>by rw[y];exact h.ses d,λd=>by rw[y];exact h.num d,λv=>by rw[F];exact h.use v,by rw[j];exact h.fc,h.doc⟩
end
theorem Us{us0:List Clear}{qs:List aC}{gr0:Int}(hp:tY us0 qs gr0=true) : ∀(s pre:List (cB × AV)) (b:ji),Ic us0 qs gr0 pre b->pre.length+s.length<=2048->GM us0 qs gr0 pre s=(Ya us0 qs gr0 b s).isSome
 | [],pre,b,_,_=>rfl
 | p :: s,pre,b,h,hl=>by
  simp only[nx]at hl
  rw[GM,Ya]
  by_cases a:dC p.1=true
  ·rw[<-h.fits hp (by omega) a,a,nu]
   by_cases c:wo us0 qs gr0 b p.1=true
   ·rw[c,nu,if_pos ⟨rfl,rfl⟩]
    exact Us hp s _ _ (h.step hp (by omega) a c) (by simp;omega)
   ·rw[if_neg (λf=>c f.2)]
    have d:wo us0 qs gr0 b p.1=false:=by simpa using c
    rw[d,xm];rfl
  ·rw[if_neg (λf=>a f.1)]
   have e:dC p.1=false:=by simpa using a
   rw[e,xm];rfl
theorem Ki(us:List Clear)(qs:List aC)(gr:Int)(l:List (cB × AV)):Uu us qs gr l=(An us qs gr l).isSome:=by
 unfold Uu An
 by_cases hp:tY us qs gr=true
 ·by_cases hl:l.length<=2048
  ·rw[hp,decide_eq_true hl,if_pos ⟨rfl,hl⟩,nu,nu]
   exact Us hp l [] _ (Ic.nil hp) (by simpa using hl)
  ·rw[if_neg (λc=>hl c.2),decide_eq_false hl]
   simp
 ·rw[if_neg (λc=>hp c.1)]
  have a:tY us qs gr=false:=by simpa using hp
  rw[a];rfl
theorem IE{us:List Clear}{qs:List aC}{gr:Int}{l:List (cB × AV)}{e g f:AV}(i:Sl 24 (bh l) e)(a : ∀p∈l,Jj p)(j:Sl 3 (cW us) g)(k:Sl 5 (cN qs) f)(d:qs.length<1000)(c:us.length<1000)(hl:l.length<1000000) :
 aF env 27 [.agg [g,f,aI gr],e]=some (aB (An us qs gr l).isSome):=by
 rw[<-Ki]
 exact Th i a j k d c hl
end Go.Proofs.YtdbiffjdomokfaaGreat
namespace Go.Proofs.YtdbiffjdomokfaaGreat
open Go.Ab
attribute [local simp] aU aK aG aW aV cz lT ba aO aQ cg cf bI bc ay bE gw tS
def oJ(v:ib)(l:List (cB × AV)):List o3:=kS (l.filter (dY v))
theorem MO{v:ib}{p:cB × AV}(a : ¬p.1.kind=3)(hl:nK ⟨p.1.op.h.lv,p.1.op.h.cats⟩ v=true)(l:List (cB × AV)):oJ v (p :: l)=⟨p.1.op.h,p.1.op.serial,p.1.code⟩ :: oJ v l:=by
 unfold oJ
 rw[o4,if_pos (by simp[dY,hl])]
 simp[kS,a]
theorem Kx{v:ib}{p:cB × AV}(h:p.1.kind=3\/nK ⟨p.1.op.h.lv,p.1.op.h.cats⟩ v=false)(l:List (cB × AV)):oJ v (p :: l)=oJ v l:=by
 unfold oJ
 by_cases a:p.1.kind=3
 ·rw[o4,if_pos (by simp[dY,a])]
  simp[kS,a]
 ·rw[o4,if_neg (by simp[dY,a,h.resolve_left a])]
section
variable{l:List (cB × AV)}{x0:AV}(hx:Sl 24 (bh l) x0)(hl:l.length<10000)
include hx hl
theorem RX{v1:UInt8}{v2:UInt32}{r3:Ref}(b:r3.t=3){Q:AV->ai->Prop} : ∀(s:List (cB × AV)) (k:Nat) (outs:List o3) (H:ai) (D:AV),l.drop k=s->k<=l.length->outs.length<=k->Fr H->H.get r3=some ⟨2,[.agg [a8 v1,aw v2]],false,false⟩->Own 5 (gz outs) H D->(∀q,D.at?=some q->q.t=50) ->
 (∀H' L,Fr H'->Own 5 (gz (outs++oJ ⟨v1,v2⟩ s)) H' L->Q L H') ->
 bB env Tryz.f29 0 eu [(6,aI k),(0,x0),(5,D),(3,.ptr r3 0 0)] H Q:=by
 intro s
 induction s with
 | nil=>
  rintro k outs H D hs hk ho hF d j ht hQ
  obtain rfl:=drop_nil hs hk
  have i:=cP l
  have E:=hQ H D hF (by simpa [oJ,kS] using j)
  refine ep _ _ _ _ _ _ λg=>?_
  clear hQ
  simp[af,ah,ad,ae,aa, *,dg,hx.r]
  all_goals exact E
 | cons p s K=>
  rintro k outs H D hs hk ho hF d j ht hQ
  obtain⟨V,T,m,A⟩:=drop_cons hs
  have e1:=IntWalk.i64_in ((k:Int)+1) (by omega)
  have n:=Aj A
  have i:=cP l
  have v:=A4 outs
  have a:(k:Int)<l.length:=by omega
  have G:=E5 p.1.op.h.lv p.1.op.h.cats v1 v2
  have B : ∀e:o3,gz (outs++[e])=gz outs++[e.enc]:=λe=>by simp[gz]
  by_cases J : ¬p.1.kind=3/\nK ⟨p.1.op.h.lv,p.1.op.h.cats⟩ ⟨v1,v2⟩=true
  ·have c:=λH' L W Y X d=>K (k+1) (outs++[⟨p.1.op.h,p.1.op.serial,p.1.code⟩]) H' L m (by omega) (by simp;omega) W Y X d (λz C N P=>hQ z C N (by rw[MO J.1 J.2];simpa using P))
   rw[show((k+1:Nat):Int)=(k:Int)+1 from by omega,B]at c
   simp only[o3.enc]at c
   clear K hQ hs m T A B
   obtain⟨F,M⟩:=J
   rw[M]at G
   generalize p.2=x at *
   generalize p.1=r at *
   generalize bh l=er at *
   generalize gz outs=eo at *
   generalize outs.length=nh at *
   rcases j with ⟨rfl,j⟩ | ⟨t,rfl,j⟩
   ·subst j
    clear v
    refine ep _ _ _ _ _ _ λg=>?_
    simp[af,ah,ad,ae,aa, *,dg,hx.r,hx.idx,a,i,n,cB.val,G,d,F]
    refine c _ (.cC ⟨0,50,H.gen 0 50,0⟩ 0 1 none) ?_ ?_ (.inr ⟨⟨0,50,H.gen 0 50,0⟩,rfl,?_⟩) (λq hq=>by cases hq;rfl)
    ·exact by simp(maxDischargeDepth:=12) [ai.get_put,an,aj,Fr.nil,au,af,ah,ad,ae,ao,ak,aa, *]
    ·have w : ¬(⟨0,50,H.gen 0 50,0⟩:Ref)=r3:=λe=>by rw[<-e]at b;cases b
     simp[d,w]
    ·exact by simp(maxDischargeDepth:=12) [ai.get_put,an,aj,Fr.nil,au,af,ah,ad,ae,ao,ak,aa, *]
   ·have I:=ht t rfl
    obtain⟨o,tt,R,S⟩:=t
    simp only at I
    subst I
    have u : ¬(⟨o,50,R,S⟩:Ref)=r3:=λe=>by rw[<-e]at b;cases b
    have y : ¬r3=(⟨o,50,R,S⟩:Ref):=λe=>u e.symm
    have Z:jW 5 32 nh true none (some ⟨5,eo,true,false⟩) (some [.agg [a8 r.op.h.lv,aw r.op.h.cats,a8 r.op.h.num,aI r.op.serial,aI r.code]]):=by
     simp;omega
    have l8:(H.get ⟨o,50,R,S⟩).isSome=true:=by rw[j];rfl
    refine ep _ _ _ _ _ _ λg=>?_
    simp[af,ah,ad,ae,aa, *,dg,hx.r,hx.idx,a,i,n,cB.val,G,d,F,hF,l8,j,Z,v,ai.get_put]
    refine c _ (.cC ⟨o,50,H.gen o 50,0⟩ 0 (nh+1) none) ?_ ?_ (.inr ⟨⟨o,50,H.gen o 50,0⟩,by simp[v],?_⟩) (λq hq=>by cases hq;rfl)
    ·exact by simp(maxDischargeDepth:=12) [ai.get_put,an,aj,Fr.nil,au,af,ah,ad,ae,ao,ak,aa, *]
    ·have w : ¬(⟨o,50,H.gen o 50,0⟩:Ref)=r3:=λe=>by rw[<-e]at b;cases b
     simp[d,w,ai.get_put,u,y]
    ·exact by simp(maxDischargeDepth:=12) [ai.get_put,an,aj,Fr.nil,au,af,ah,ad,ae,ao,ak,aa, *]
  ·have f:p.1.kind=3\/nK ⟨p.1.op.h.lv,p.1.op.h.cats⟩ ⟨v1,v2⟩=false:=by
    by_cases d:p.1.kind=3
    ·exact .inl d
    ·exact .inr (by
      cases U:nK ⟨p.1.op.h.lv,p.1.op.h.cats⟩ ⟨v1,v2⟩ with
      | false=>rfl
      | true=>exact absurd ⟨d,U⟩ J)
   have c:=K (k+1) outs H D m (by omega) (by omega) hF d j ht (λz C N P=>hQ z C N (by rw[Kx f];exact P))
   rw[show((k+1:Nat):Int)=(k:Int)+1 from by omega]at c
   clear K hQ hs m T A B J j
   generalize p.2=x at *
   generalize p.1=r at *
   generalize bh l=er at *
   by_cases O:r.kind=3
   ·clear f
    refine ep _ _ _ _ _ _ λg=>?_
    simp[af,ah,ad,ae,aa, *,dg,hx.r,hx.idx,a,i,n,cB.val,d,O]
   ·have f:=f.resolve_left O
    rw[f]at G
    refine ep _ _ _ _ _ _ λg=>?_
    simp[af,ah,ad,ae,aa, *,dg,hx.r,hx.idx,a,i,n,cB.val,d,G,O]
theorem J1(v1:UInt8)(v2:UInt32) : ∃y,aF env 29 [x0,.agg [a8 v1,aw v2]]=some y/\Sl 5 (gz (oJ ⟨v1,v2⟩ l)) y:=by
 refine q6 (fn:=Tryz.f29) (c:=vf) (by kernel_rfl) (by kernel_rfl) (by kernel_rfl) (by kernel_rfl) (by kernel_rfl) ?_
 refine uK _ _ _ _ λg=>?_
 simp[af,ah,ad,ae,aa, *,oA]
 refine RX hx hl (v1:=v1) (v2:=v2) (r3:=⟨0,3,0,0⟩) rfl l 0 [] _ bZ rfl (by omega) (by simp) ?_ ?_ (.inl ⟨rfl,rfl⟩) (λq hq=>by cases hq) (λH' d b h=>?_)
 ·exact by simp(maxDischargeDepth:=12) [ai.get_put,an,aj,Fr.nil,au,af,ah,ad,ae,ao,ak,aa, *]
 ·simp
 rw[tL]at h
 have a:=A4 (oJ ⟨v1,v2⟩ l)
 generalize gz (oJ ⟨v1,v2⟩ l)=ee at *
 rcases h with ⟨rfl,h⟩ | ⟨r,rfl,h⟩
 ·simp[h]
 ·simp[h]
end
def lO(v:ib)(p:cB × AV):Bool := !decide (p.1.kind=3)&&nK ⟨p.1.op.h.lv,p.1.op.h.cats⟩ v
def fH(v:ib)(p:cB × AV):Bool:=lO v p&&decide (p.1.kind=1)
def lz(v:ib)(p:cB × AV):Bool:=lO v p&&(!decide (p.1.kind=1)&&decide (p.1.code=0))
def ly(v:ib)(p:cB × AV):Bool:=lO v p&&(!decide (p.1.kind=1) && !decide (p.1.code=0))
def vD(p:cB × AV):Bool:=decide (p.1.kind=3)
section
variable{l:List (cB × AV)}{x0:AV}(hx:Sl 24 (bh l) x0)(hl:l.length<10000)
include hx hl
theorem RA{v1:UInt8}{v2:UInt32}{r3 r4 r5:Ref}(R:r5≠r4/\r5≠r3/\r4≠r3){Q:AV->ai->Prop} : ∀(s:List (cB × AV)) (k a b c d:Nat) (H:ai),l.drop k=s->k<=l.length->a<=k->b<=k->c<=k->d<=k ->
 H.get r3=some ⟨2,[.agg [a8 v1,aw v2]],false,false⟩->(∃a b c d,H.get r4=some ⟨4,[.agg [a,b,c,d]],false,false⟩)->H.get r5=some ⟨4,[.agg [aI a,aI b,aI c,aI d]],false,false⟩ ->
 (∀H' y,y=AV.agg [aI ((a+s.countP (fH ⟨v1,v2⟩):Nat):Int),aI ((b+s.countP (lz ⟨v1,v2⟩):Nat):Int),aI ((c+s.countP (ly ⟨v1,v2⟩):Nat):Int),aI ((d+s.countP vD:Nat):Int)]->Q y H') ->
 bB env Tryz.f30 0 bT [(6,aI k),(5,.ptr r5 0 0),(0,x0),(3,.ptr r3 0 0),(4,.ptr r4 0 0)] H Q:=by
 intro s
 induction s with
 | nil=>
  rintro k a b c d H hs hk ha hb hc hd h3 ⟨X,W,P,S,I⟩ h5 hQ
  obtain rfl:=drop_nil hs hk
  have z:=cP l
  have h:=λH'=>hQ H' _ rfl
  simp only[List.countP_nil,Bc]at h
  have L:(H.get r4).isSome=true:=by rw[I];rfl
  refine df _ _ _ _ _ _ _ λg=>?_
  clear hQ
  simp[af,ah,ad,ae,aa, *,cJ,hx.r,ai.get_put,I,h5]
  all_goals exact h _
 | cons p s K=>
  rintro k a b c d H hs hk ha hb hc hd h3 ⟨X,W,P,S,I⟩ h5 hQ
  obtain⟨U,T,G,F⟩:=drop_cons hs
  have e1:=IntWalk.i64_in ((k:Int)+1) (by omega)
  have ea:=IntWalk.i64_in ((a:Int)+1) (by omega)
  have eb:=IntWalk.i64_in ((b:Int)+1) (by omega)
  have ec:=IntWalk.i64_in ((c:Int)+1) (by omega)
  have ed:=IntWalk.i64_in ((d:Int)+1) (by omega)
  have A:=Aj F
  have z:=cP l
  have o:(k:Int)<l.length:=by omega
  have E:=E5 p.1.op.h.lv p.1.op.h.cats v1 v2
  have J:(H.get r5).isSome=true:=by rw[h5];rfl
  have i:=λZ b' O M H'=>K (k+1) Z b' O M H' G (by omega)
  rw[show((k+1:Nat):Int)=(k:Int)+1 from by omega]at i
  obtain⟨n1,n2,n3⟩:=R
  have Y:=n1.symm
  have V:=n2.symm
  have N:=n3.symm
  clear K hs G T F
  by_cases m:p.1.kind=3
  ·clear E
   have t:(p :: s).countP (fH ⟨v1,v2⟩)=s.countP (fH ⟨v1,v2⟩):=tN (by simp[fH,lz,ly,vD,lO,m])
   have w:(p :: s).countP (lz ⟨v1,v2⟩)=s.countP (lz ⟨v1,v2⟩):=tN (by simp[fH,lz,ly,vD,lO,m])
   have v:(p :: s).countP (ly ⟨v1,v2⟩)=s.countP (ly ⟨v1,v2⟩):=tN (by simp[fH,lz,ly,vD,lO,m])
   have u:(p :: s).countP (vD)=s.countP (vD)+1:=JC (by simp[fH,lz,ly,vD,lO,m])
   rw[t,w,v,u]at hQ
   have h:=λH' B C D=>i a b c (d+1) H' (by omega) (by omega) (by omega) (by omega) B C D (λn y e=>hQ n y (by rw[e,show d+1+s.countP (vD)=d+(s.countP (vD)+1) from by omega]))
   rw[show((d+1:Nat):Int)=(d:Int)+1 from by omega]at h
   clear i hQ t w v u
   generalize p.2=x at *
   generalize p.1=r at *
   generalize bh l=er at *
   refine df _ _ _ _ _ _ _ λg=>?_
   simp[af,ah,ad,ae,aa, *,cJ,hx.r,hx.idx,o,z,A,cB.val,h3,h5,m]
  ·cases f:nK ⟨p.1.op.h.lv,p.1.op.h.cats⟩ ⟨v1,v2⟩ with
   | false=>
    rw[f]at E
    have t:(p :: s).countP (fH ⟨v1,v2⟩)=s.countP (fH ⟨v1,v2⟩):=tN (by simp[fH,lz,ly,vD,lO,m,f])
    have w:(p :: s).countP (lz ⟨v1,v2⟩)=s.countP (lz ⟨v1,v2⟩):=tN (by simp[fH,lz,ly,vD,lO,m,f])
    have v:(p :: s).countP (ly ⟨v1,v2⟩)=s.countP (ly ⟨v1,v2⟩):=tN (by simp[fH,lz,ly,vD,lO,m,f])
    have u:(p :: s).countP (vD)=s.countP (vD):=tN (by simp[fH,lz,ly,vD,lO,m,f])
    rw[t,w,v,u]at hQ
    have h:=λH' B C D=>i a b c d H' (by omega) (by omega) (by omega) (by omega) B C D (λn y e=>hQ n y (by rw[e]))
    clear i hQ t w v u
    clear f
    generalize p.2=x at *
    generalize p.1=r at *
    generalize bh l=er at *
    refine df _ _ _ _ _ _ _ λg=>?_
    simp[af,ah,ad,ae,aa, *,cJ,hx.r,hx.idx,o,z,A,cB.val,h3,h5,m,E]
   | true=>
    rw[f]at E
    by_cases q:p.1.kind=1
    ·have t:(p :: s).countP (fH ⟨v1,v2⟩)=s.countP (fH ⟨v1,v2⟩)+1:=JC (by simp[fH,lz,ly,vD,lO,q,f])
     have w:(p :: s).countP (lz ⟨v1,v2⟩)=s.countP (lz ⟨v1,v2⟩):=tN (by simp[fH,lz,ly,vD,lO,q,f])
     have v:(p :: s).countP (ly ⟨v1,v2⟩)=s.countP (ly ⟨v1,v2⟩):=tN (by simp[fH,lz,ly,vD,lO,q,f])
     have u:(p :: s).countP (vD)=s.countP (vD):=tN (by simp[fH,lz,ly,vD,lO,q,f])
     rw[t,w,v,u]at hQ
     have h:=λH' B C D=>i (a+1) b c d H' (by omega) (by omega) (by omega) (by omega) B C D (λn y e=>hQ n y (by rw[e,show a+1+s.countP (fH ⟨v1,v2⟩)=a+(s.countP (fH ⟨v1,v2⟩)+1) from by omega]))
     rw[show((a+1:Nat):Int)=(a:Int)+1 from by omega]at h
     clear i hQ t w v u
     clear f m
     generalize p.2=x at *
     generalize p.1=r at *
     generalize bh l=er at *
     refine df _ _ _ _ _ _ _ λg=>?_
     simp[af,ah,ad,ae,aa, *,cJ,hx.r,hx.idx,o,z,A,cB.val,h3,h5,q,E]
    ·by_cases j:p.1.code=0
     ·have t:(p :: s).countP (fH ⟨v1,v2⟩)=s.countP (fH ⟨v1,v2⟩):=tN (by simp[fH,lz,ly,vD,lO,q,m,j,f])
      have w:(p :: s).countP (lz ⟨v1,v2⟩)=s.countP (lz ⟨v1,v2⟩)+1:=JC (by simp[fH,lz,ly,vD,lO,q,m,j,f])
      have v:(p :: s).countP (ly ⟨v1,v2⟩)=s.countP (ly ⟨v1,v2⟩):=tN (by simp[fH,lz,ly,vD,lO,q,m,j,f])
      have u:(p :: s).countP (vD)=s.countP (vD):=tN (by simp[fH,lz,ly,vD,lO,q,m,j,f])
      rw[t,w,v,u]at hQ
      have h:=λH' B C D=>i a (b+1) c d H' (by omega) (by omega) (by omega) (by omega) B C D (λn y e=>hQ n y (by rw[e,show b+1+s.countP (lz ⟨v1,v2⟩)=b+(s.countP (lz ⟨v1,v2⟩)+1) from by omega]))
      rw[show((b+1:Nat):Int)=(b:Int)+1 from by omega]at h
      clear i hQ t w v u
      clear f
      generalize p.2=x at *
      generalize p.1=r at *
      generalize bh l=er at *
      refine df _ _ _ _ _ _ _ λg=>?_
      simp[af,ah,ad,ae,aa, *,cJ,hx.r,hx.idx,o,z,A,cB.val,h3,h5,q,m,j,E]
     ·have t:(p :: s).countP (fH ⟨v1,v2⟩)=s.countP (fH ⟨v1,v2⟩):=tN (by simp[fH,lz,ly,vD,lO,q,m,j,f])
      have w:(p :: s).countP (lz ⟨v1,v2⟩)=s.countP (lz ⟨v1,v2⟩):=tN (by simp[fH,lz,ly,vD,lO,q,m,j,f])
      have v:(p :: s).countP (ly ⟨v1,v2⟩)=s.countP (ly ⟨v1,v2⟩)+1:=JC (by simp[fH,lz,ly,vD,lO,q,m,j,f])
      have u:(p :: s).countP (vD)=s.countP (vD):=tN (by simp[fH,lz,ly,vD,lO,q,m,j,f])
      rw[t,w,v,u]at hQ
      have h:=λH' B C D=>i a b (c+1) d H' (by omega) (by omega) (by omega) (by omega) B C D (λn y e=>hQ n y (by rw[e,show c+1+s.countP (ly ⟨v1,v2⟩)=c+(s.countP (ly ⟨v1,v2⟩)+1) from by omega]))
      rw[show((c+1:Nat):Int)=(c:Int)+1 from by omega]at h
      clear i hQ t w v u
      clear f
      generalize p.2=x at *
      generalize p.1=r at *
      generalize bh l=er at *
      refine df _ _ _ _ _ _ _ λg=>?_
      simp[af,ah,ad,ae,aa, *,cJ,hx.r,hx.idx,o,z,A,cB.val,h3,h5,q,m,j,E]
theorem Q3(v1:UInt8)(v2:UInt32):aF env 30 [x0,.agg [a8 v1,aw v2]]=some (.agg [aI (l.countP (fH ⟨v1,v2⟩):Nat),aI (l.countP (lz ⟨v1,v2⟩):Nat),aI (l.countP (ly ⟨v1,v2⟩):Nat),aI (l.countP vD:Nat)]):=by
 refine aH rfl (by kernel_rfl) (uJ _ _ _ _ λg=>?_)
 simp[af,ah,ad,ae,aa, *,oz,hx.r]
 refine RA hx hl (v1:=v1) (v2:=v2) (r3:=⟨0,3,0,0⟩) (r4:=⟨0,4,0,0⟩) (r5:=⟨0,5,0,0⟩) ⟨by simp,by simp,by simp⟩ l 0 0 0 0 0 _ rfl (by omega) (by omega) (by omega) (by omega) (by omega) ?_ ⟨aI 0,aI 0,aI 0,aI 0,?_⟩ ?_ (λH' y e=>?_)
 ·simp
 ·simp
 ·simp
 ·subst e
  simp
end
section
variable{l:List (cB × AV)}{x1:AV}(hx:Sl 24 (bh l) x1)(hall : ∀p∈l,Jj p)(hl:l.length<10000)
variable{xu xq:AV}{us:List Clear}{qs:List aC}{gr:Int}(hu:Sl 3 (cW us) xu)(hq:Sl 5 (cN qs) xq)(hql:qs.length<1000)(hul:us.length<1000)
include hx hall hl hu hq hql hul
def IU(v:ib)(l:List (cB × AV)):AV := .agg [aI (l.countP (fH v):Nat),aI (l.countP (lz v):Nat),aI (l.countP (ly v):Nat),aI (l.countP vD:Nat)]
theorem Od(v1:UInt8)(v2:UInt32) : ∃y,aF env 15 [.agg [xu,xq,aI gr],x1,.agg [a8 v1,aw v2]]=some y /\
 (if (An us qs gr l).isSome=true/\v1<=15 then ∃x,Sl 5 (gz (oJ ⟨v1,v2⟩ l)) x/\y = .tup [x,aI 0] else y = .tup [bZ,aI 8]):=by
 refine q6 (fn:=Tryz.f15) (c:=w7) (by kernel_rfl) (by kernel_rfl) (by kernel_rfl) (by kernel_rfl) (by kernel_rfl) ?_
 refine wH _ _ _ _ _ λg=>?_
 have e:=IE (gr:=gr) hx hall hu hq hql hul (by omega)
 have a:=PE v1 v2
 obtain⟨y,h,f⟩:=J1 hx hl v1 v2
 generalize (An us qs gr l).isSome=ob at *
 cases ob with
 | false=>simp[af,ah,ad,ae,aa, *,je,hu.r,hq.r,hx.r,e]
 | true=>
  by_cases b:v1<=15
  ·rw[decide_eq_true b]at a
   have d:=f.r
   generalize gz (oJ ⟨v1,v2⟩ l)=ee at *
   simp[af,ah,ad,ae,aa, *,je,hu.r,hq.r,hx.r,e,a,h,d,b]
   all_goals (first | exact f | exact⟨_,f,rfl⟩)
  ·rw[decide_eq_false b]at a
   simp[af,ah,ad,ae,aa, *,je,hu.r,hq.r,hx.r,e,a,b]
theorem Lr(v1:UInt8)(v2:UInt32):aF env 16 [.agg [xu,xq,aI gr],x1,.agg [a8 v1,aw v2]] =
 some (if (An us qs gr l).isSome=true/\v1<=15 then .tup [IU ⟨v1,v2⟩ l,aI 0] else .tup [.agg [aI 0,aI 0,aI 0,aI 0],aI 8]):=by
 have c:=IE (gr:=gr) hx hall hu hq hql hul (by omega)
 have a:=PE v1 v2
 have d:=Q3 hx hl v1 v2
 unfold IU
 generalize (An us qs gr l).isSome=ob at *
 generalize l.countP (fH ⟨v1,v2⟩)=m1 at *
 generalize l.countP (lz ⟨v1,v2⟩)=m2 at *
 generalize l.countP (ly ⟨v1,v2⟩)=m3 at *
 generalize l.countP vD=m4 at *
 have e:lx env.P 22 (some [])=some (.agg [aI 0,aI 0,aI 0,aI 0],[]):=by kernel_rfl
 refine aH rfl (by kernel_rfl) (vw _ _ _ _ _ λg=>?_)
 cases ob with
 | false=>simp[af,ah,ad,ae,aa, *,iz,hu.r,hq.r,hx.r,c]
 | true=>
  by_cases b:v1<=15
  ·rw[decide_eq_true b]at a
   simp[af,ah,ad,ae,aa, *,iz,hu.r,hq.r,hx.r,c,a,d,b]
  ·rw[decide_eq_false b]at a
   simp[af,ah,ad,ae,aa, *,iz,hu.r,hq.r,hx.r,c,a,b]
end
end Go.Proofs.YtdbiffjdomokfaaGreat
namespace Go.Proofs.YtdbiffjdomokfaaGreat
open Go.Ab
attribute [local simp] aU aK aG aW aV cz lT ba aO aQ cg cf bI bc ay bE gw tS
section
variable{f:cB × AV->cB × AV}(hf : ∀p,(f p).1=p.1)
include hf
theorem Uk(l:List (cB × AV)) : ∀us gr,iW us gr (l.map f)=iW us gr l:=by
 induction l with
 | nil=>intro us gr;rfl
 | cons p l a=>
  intro us gr
  rw[p6,iW,iW,hf p,a,a]
theorem S2(h:vI)(l:List (cB × AV))(t:Nj):lU h t (l.map f)=lU h t l:=by
 unfold lU
 rw[List.foldl_map]
 congr 1
 funext t p
 unfold vW
 rw[hf p]
theorem SG(v:ib)(l:List (cB × AV))(t:zM):uO v t (l.map f)=uO v t l:=by
 unfold uO
 rw[List.foldl_map]
 congr 1
 funext t p
 unfold vU
 rw[hf p]
theorem R0(l:List (cB × AV)):opsOf (kN (l.map f))=opsOf (kN l):=by
 induction l with
 | nil=>rfl
 | cons p l a=>
  have b:isDone (f p)=isDone p:=by unfold isDone;rw[hf p]
  unfold kN at a ⊢
  rw[p6,o4,o4,b]
  split
  ·simp only[opsOf,p6,hf p]at a ⊢
   rw[a]
  ·exact a
theorem RR(us:List Clear)(qs:List aC)(gr:Int)(l:List (cB × AV))(r:cB):Aw us qs gr (l.map f) r=Aw us qs gr l r:=by
 unfold Aw Mm Kv F9 Gp
 rw[Uk hf,S2 hf,SG hf,MN (R0 hf l)]
theorem Ma(us:List Clear)(qs:List aC)(gr:Int) : ∀(s pre:List (cB × AV)),GM us qs gr (pre.map f) (s.map f)=GM us qs gr pre s
 | [],pre=>rfl
 | p :: s,pre=>by
  rw[p6,GM,GM,hf p,RR hf,<-Ma us qs gr s (pre++[p]),Fj]
  rfl
theorem PW(us:List Clear)(qs:List aC)(gr:Int)(l:List (cB × AV)):(An us qs gr (l.map f)).isSome=(An us qs gr l).isSome:=by
 rw[<-Ki,<-Ki]
 unfold Uu
 rw[p7]
 have:=Ma hf us qs gr l []
 rw[Jo]at this
 rw[this]
theorem MP(v:ib)(l:List (cB × AV)):oJ v (l.map f)=oJ v l:=by
 induction l with
 | nil=>rfl
 | cons p l a=>
  have b:dY v (f p)=dY v p:=by unfold dY;rw[hf p]
  unfold oJ at a ⊢
  rw[p6,o4,o4,b]
  split
  ·simp only[kS,List.filterMap_cons,hf p]at a ⊢
   rw[a]
  ·exact a
theorem Ru(v:ib)(l:List (cB × AV)):((l.map f).filter (dY v)).length=(l.filter (dY v)).length:=by
 induction l with
 | nil=>rfl
 | cons p l a=>
  have b:dY v (f p)=dY v p:=by unfold dY;rw[hf p]
  rw[p6,o4,o4,b]
  split
  ·rw[nx,nx,a]
  ·exact a
end
theorem J6{r:cB}(h:dC r=true):(r.kind=1->r.op.serial=0)/\(r.kind≠3->r.kind≠1->r.op.serial≠0):=by
 constructor
 ·intro k
  simp only[dC,k,if_true,aZ]at h
  have d:=Ln h.2.2
  have:r.op.serial=(Cc r).op.serial:=congrArg (·.op.serial) d
  rw[this]
  simp[Cc,k,xi]
 ·intro c e
  have b:r.kind=2:=by
   by_cases b:r.kind=2
   ·exact b
   ·simp[dC,e,b,c]at h
  have a:=xQ h b
  simp only[mK,aZ,decide_eq_true_eq]at a
  have:=a.2.1
  omega
theorem Hc(v:ib) : ∀(l:List (cB × AV)),(∀p∈l,dC p.1=true)->(oJ v l).countP sn=l.countP (fH v)/\(oJ v l).countP zV=l.countP (lz v)/\(oJ v l).countP zU=l.countP (ly v)/\(l.filter (dY v)).length=(oJ v l).length+l.countP vD
 | [],_=>⟨rfl,rfl,rfl,rfl⟩
 | p :: l,h=>by
  obtain⟨i1,i2,i3,i4⟩:=Hc v l λq i=>h q (fW _ i)
  obtain⟨s1,s2⟩:=J6 (h p gG)
  by_cases a:p.1.kind=3
  ·have c : ¬p.1.kind=1:=by rw[a];decide
   rw[Kx (.inl a)]
   simp only[vP]
   have d:dY v p=true:=by simp[dY,a]
   rw[o4,if_pos d,nx]
   simp[fH,lz,ly,vD,lO,a,i1,i2,i3,i4]
   omega
  ·cases b:nK ⟨p.1.op.h.lv,p.1.op.h.cats⟩ v with
   | false=>
    rw[Kx (.inr b)]
    simp only[vP]
    have d : ¬dY v p=true:=by simp[dY,a,b]
    rw[o4,if_neg d]
    simp[fH,lz,ly,vD,lO,a,b,i1,i2,i3,i4]
   | true=>
    rw[MO a b]
    simp only[vP]
    have d:dY v p=true:=by simp[dY,b]
    rw[o4,if_pos d,nx,nx]
    by_cases c:p.1.kind=1
    ·have e:=s1 c
     simp[fH,lz,ly,vD,lO,sn,zV,zU,c,e,b,i1,i2,i3,i4]
     omega
    ·have e:=s2 a c
     by_cases g:p.1.code=0
     ·simp[fH,lz,ly,vD,lO,sn,zV,zU,c,a,e,g,b,i1,i2,i3,i4]
      omega
     ·simp[fH,lz,ly,vD,lO,sn,zV,zU,c,a,e,g,b,i1,i2,i3,i4]
      omega
theorem MV{v:ib}{l:List (cB × AV)}(h : ∀p∈l,dC p.1=true):C7 (oJ v l) (l.filter (dY v)).length=IU v l:=by
 obtain⟨i1,i2,i3,i4⟩:=Hc v l h
 have a:=Y0 (oJ v l)
 unfold C7 IU
 rw[i4,<-i1,<-i2,<-i3]
 have e:(((oJ v l).length+l.countP vD:Nat):Int) - ((oJ v l).countP sn:Nat) - ((oJ v l).countP zV:Nat) - ((oJ v l).countP zU:Nat)=(l.countP vD:Nat):=by omega
 rw[e]
end Go.Proofs.YtdbiffjdomokfaaGreat
namespace Go.Proofs.YtdbiffjdomokfaaGreat
open Go.Ab
attribute [local simp] aU aK aG aW aV cz lT ba aO aQ cg cf bI bc ay bE gw tS
def B0(p:cB × AV):cB × AV:=(p.1,xU 1 (rows p.1.op.l))
theorem Lc(p:cB × AV):(B0 p).1=p.1:=rfl
theorem Q1{p:cB × AV}(hx:Sl 1 (rows p.1.op.l) p.2)(hl:p.1.op.l.length<100000):aF env 14 [p.1.val p.2]=some ((B0 p).1.val (B0 p).2):=by
 obtain⟨⟨k,u,⟨t,⟨n,B,A⟩,q,⟨⟨⟨m,z,C⟩,j⟩,h⟩,⟨⟨e,b,f⟩,a⟩,⟨i,d⟩,l⟩,c,E,v,w,o⟩,x⟩:=p
 simp only at hx hl
 have F:=Te t n B A q m z C j h e b f a i d hx hl
 have D:=(AY 1 (rows l)).r
 refine aH rfl (by kernel_rfl) (xE _ _ _ λg=>?_)
 unfold B0 cB.val
 simp only
 generalize xU 1 (rows l)=y at *
 simp[af,ah,ad,ae,aa, *,qq,hx.r]
section
variable{l:List (cB × AV)}{x1:AV}(hx:Sl 24 (bh l) x1)(hl:l.length<10000)(hone : ∀p∈l,Jj p)
include hx hl hone
theorem T5{r3 r5:Ref}(a:r3.t=3)(b:r5.t=5){b3 b5:bA}{Q:AV->ai->Prop}
 (j : ∀H f,Fr H->H.get r3=some b3->H.get r5=some b5->Own 24 (bh (l.map B0)) H f->(∀q,f.at?=some q->q.t=33)->bB env Tryz.f4 0 cM [(8,aI l.length),(1,x1),(7,f),(5,.ptr r5 0 0),(3,.ptr r3 0 0)] H Q) :
 ∀(s:List (cB × AV)) (k:Nat) (H:ai) (f:AV),l.drop k=s->k<=l.length->Fr H->H.get r3=some b3->H.get r5=some b5->Own 24 (bh ((l.take k).map B0)) H f->(∀q,f.at?=some q->q.t=33) ->
 bB env Tryz.f4 0 cM [(8,aI k),(1,x1),(7,f),(5,.ptr r5 0 0),(3,.ptr r3 0 0)] H Q:=by
 intro s
 induction s with
 | nil=>
  rintro k H f hs hk hF v w h ht
  have N:k=l.length:=by have:=congrArg List.length hs;simp at this;omega
  subst N
  rw[FF]at h
  exact j H f hF v w h ht
 | cons p s R=>
  rintro k H f hs hk hF v w h ht
  obtain⟨B,P,A,u⟩:=drop_cons hs
  have Y:=IntWalk.i64_in ((k:Int)+1) (by omega)
  have o:bW (bh l) k 0 24 true=some (p.1.val p.2):=by rw[Aj u];simp[bW,cB.val]
  have z:=cP l
  have i:(k:Int)<l.length:=by omega
  have hp:=hone p (P ▸ lM B)
  have I:=Q1 hp.x hp.len
  have C:(l.take (k+1)).map B0=(l.take k).map B0++[B0 p]:=by rw[Ju,u];simp
  have c:=λH' X S T v U w=>R (k+1) H' X A (by omega) S T v U w
  rw[show((k+1:Nat):Int)=(k:Int)+1 from by omega,C,show bh ((l.take k).map B0++[B0 p])=bh ((l.take k).map B0)++[(B0 p).1.val (B0 p).2] from by simp[bh]]at c
  have n:(bh ((l.take k).map B0)).length=k:=by rw[cP,p7,sX];omega
  have K:=(AY 1 (rows p.1.op.l)).r
  have O:=hp.x
  clear R hs A P u hone j C
  unfold B0 at c I
  simp only at c I
  have E:=O.r
  clear hp B
  generalize xU 1 (rows p.1.op.l)=y at *
  generalize p.2=x at *
  generalize p.1=r at *
  unfold cB.val at o I c
  generalize bh l=er at *
  generalize D:bh ((l.take k).map B0)=eo at *
  have m:bh (List.map (λp=>(p.1,xU 1 (rows p.1.op.l))) (List.take k l))=eo:=D
  rw[m]at c
  clear D m
  rcases h with ⟨rfl,h⟩ | ⟨t,rfl,h⟩
  ·subst h
   clear n
   refine iq _ _ _ _ _ _ _ λg=>?_
   simp[af,ah,ad,ae,aa, *,bN,hx.r,hx.idx,i,z,o,I,K,E]
   refine c _ (.cC ⟨0,33,H.gen 0 33,0⟩ 0 1 none) ?_ ?_ ?_ (.inr ⟨⟨0,33,H.gen 0 33,0⟩,rfl,?_⟩) (λq hq=>by cases hq;rfl)
   ·exact by simp(maxDischargeDepth:=12) [ai.get_put,an,aj,Fr.nil,au,af,ah,ad,ae,ao,ak,aa, *]
   ·have n1 : ¬(⟨0,33,H.gen 0 33,0⟩:Ref)=r3:=λe=>by rw[<-e]at a;cases a
    have n2 : ¬(⟨0,32,H.gen 0 32,0⟩:Ref)=r3:=λe=>by rw[<-e]at a;cases a
    simp[v,n1,n2]
   ·have n1 : ¬(⟨0,33,H.gen 0 33,0⟩:Ref)=r5:=λe=>by rw[<-e]at b;cases b
    have n2 : ¬(⟨0,32,H.gen 0 32,0⟩:Ref)=r5:=λe=>by rw[<-e]at b;cases b
    simp[w,n1,n2]
   ·exact by simp(maxDischargeDepth:=12) [ai.get_put,an,aj,Fr.nil,au,af,ah,ad,ae,ao,ak,aa, *]
  ·have G:=ht t rfl
   obtain⟨d,tt,F,L⟩:=t
   simp only at G
   subst G
   have V : ∀e,jW 24 160 k true none (some ⟨24,eo,true,false⟩) (some [AV.agg e]):=by
    intro e
    simp;omega
   have W:(H.get ⟨d,33,F,L⟩).isSome=true:=by rw[h];rfl
   refine iq _ _ _ _ _ _ _ λg=>?_
   simp[af,ah,ad,ae,aa, *,bN,hx.r,hx.idx,i,z,o,I,K,E,hF,W,h,V,n,ai.get_put]
   refine c _ (.cC ⟨d,33,H.gen d 33,0⟩ 0 (k+1) none) ?_ ?_ ?_ (.inr ⟨⟨d,33,H.gen d 33,0⟩,by simp[n],?_⟩) (λq hq=>by cases hq;rfl)
   ·exact by simp(maxDischargeDepth:=12) [ai.get_put,an,aj,Fr.nil,au,af,ah,ad,ae,ao,ak,aa, *]
   ·have n1 : ¬(⟨d,33,H.gen d 33,0⟩:Ref)=r3:=λe=>by rw[<-e]at a;cases a
    have n2 : ¬(⟨0,32,H.gen 0 32,0⟩:Ref)=r3:=λe=>by rw[<-e]at a;cases a
    have J : ¬r3=(⟨d,33,F,L⟩:Ref):=λe=>by rw[e]at a;cases a
    have M : ¬(⟨d,33,F,L⟩:Ref)=r3:=λe=>J e.symm
    simp[v,n1,n2,ai.get_put,J,M]
   ·have n1 : ¬(⟨d,33,H.gen d 33,0⟩:Ref)=r5:=λe=>by rw[<-e]at b;cases b
    have n2 : ¬(⟨0,32,H.gen 0 32,0⟩:Ref)=r5:=λe=>by rw[<-e]at b;cases b
    have J : ¬r5=(⟨d,33,F,L⟩:Ref):=λe=>by rw[e]at b;cases b
    have M : ¬(⟨d,33,F,L⟩:Ref)=r5:=λe=>J e.symm
    simp[w,n1,n2,ai.get_put,J,M]
   ·exact by simp(maxDischargeDepth:=12) [ai.get_put,an,aj,Fr.nil,au,af,ah,ad,ae,ao,ak,aa, *]
end
theorem aaw(a b c d:Int):gk env.P 20 22 [aI a,aI b,aI c,aI d] [aI a,aI b,aI c,aI d]=some true:=by
 simp[gk,G6]
theorem acY:D6 env.P 22=true:=by kernel_rfl
theorem aeY(a b c d:Int)(e f:Operand):bS env.P .eql 22 e f (some (.agg [aI a,aI b,aI c,aI d])) (some (.agg [aI a,aI b,aI c,aI d]))=some (aB true,[]):=by
 rw[CG acY .eql (.inl rfl) e f (aaw a b c d) rfl rfl (by kernel_rfl) (by kernel_rfl)];rfl
section
variable{l:List (cB × AV)}{x1:AV}(hx:Sl 24 (bh l) x1)(hl:l.length<=25)(hall : ∀p∈l,Jj p)
variable{xu xq:AV}{us:List Clear}{qs:List aC}{gr:Int}(hu:Sl 3 (cW us) xu)(hq:Sl 5 (cN qs) xq)(hql:qs.length<1000)(hul:us.length<1000)
include hx hl hall hu hq hql hul
theorem QA(v1:UInt8)(v2:UInt32){r3 r5:Ref}(D:r3.t=3)(E:r5.t=5){H:ai}{Y:AV}(hF:Fr H)(O:H.get r3=some ⟨3,[.agg [xu,xq,aI gr]],false,false⟩)(P:H.get r5=some ⟨2,[.agg [a8 v1,aw v2]],false,false⟩)
 (h:Own 24 (bh (l.map B0)) H Y) (M : ∀q,Y.at?=some q->q.t=33) {Q:AV->ai->Prop} (hQ : ∀H',Q (aB true) H') :
 bB env Tryz.f4 0 cM [(8,aI l.length),(1,x1),(7,Y),(5,.ptr r5 0 0),(3,.ptr r3 0 0)] H Q:=by
 have k:=cP l
 have X:=cP (l.map B0)
 rw[p7]at X
 have R : ∀p∈l,Ba p:=λp hp=>⟨(hall p hp).x,by have:=(hall p hp).len;omega⟩
 have i : ∀p∈l.map B0,Ba p:=by
  intro p hp
  obtain⟨q,hq,rfl⟩:=r8.1 hp
  exact⟨AY 1 _,by have:=(hall q hq).len;simp only[B0];omega⟩
 obtain⟨yd,m,F⟩:=Od (gr:=gr) hx hall (by omega) hu hq hql hul v1 v2
 have f:=Lr (gr:=gr) hx hall (by omega) hu hq hql hul v1 v2
 have key : ∀x:AV,Sl 24 (bh (l.map B0)) x ->∃G,aF env 10 [.agg [xu,xq,aI gr],x,.agg [a8 v1,aw v2]]=some G/\(if (An us qs gr l).isSome=true/\v1<=15 then ∃x,Sl 5 (gz (oJ ⟨v1,v2⟩ l)) x/\G = .tup [x,aI 0] else G = .tup [bZ,aI 8]) /\
  aF env 7 [.agg [xu,xq,aI gr],x,.agg [a8 v1,aw v2]]=some (if (An us qs gr l).isSome=true/\v1<=15 then .tup [IU ⟨v1,v2⟩ l,aI 0] else .tup [.agg [aI 0,aI 0,aI 0,aI 0],aI 8]) /\
  aF env 18 [x,x1]=some (aB true):=by
  intro x I
  obtain⟨G,B,J⟩:=Wg (gr:=gr) hu hq (by omega) (by omega) I i (by rw[p7];omega) v1 v2
  have C:=Tz (gr:=gr) hu hq (by omega) (by omega) I i (by rw[p7];omega) v1 v2
  refine⟨G,B,?_,?_,?_⟩
  ·unfold NZ at J
   rw[PW Lc,show kS ((l.map B0).filter (dY ⟨v1,v2⟩))=oJ ⟨v1,v2⟩ l from MP Lc _ l]at J
   exact J
  ·rw[C]
   unfold Kz
   rw[PW Lc,show kS ((l.map B0).filter (dY ⟨v1,v2⟩))=oJ ⟨v1,v2⟩ l from MP Lc _ l,Ru Lc]
   cases ho:An us qs gr l with
   | none=>rfl
   | some b=>rw[MV (ZS ho)]
  ·have L:=QR I hx i R (by rw[p7];omega)
   rw[L]
   have e:PM (l.map B0)=PM l:=by simp[PM,B0]
   rw[e,(IB _ _).2 rfl]
 have n : ∀ {x y:AV},Sl 5 (gz (oJ ⟨v1,v2⟩ l)) x->Sl 5 (gz (oJ ⟨v1,v2⟩ l)) y->aF env 17 [x,y]=some (aB true):=by
  intro x y h1 h2
  have:=Lq h1 h2 (by
   have e:(oJ ⟨v1,v2⟩ l).length<=l.length:=by
    unfold oJ kS
    exact uA (NM _ _) (Im _ _)
   omega)
  rw[this,decide_eq_true rfl]
 have K:=Lq (x:=bZ) (y:=bZ) (a:=[]) (b:=[]) (.inl ⟨rfl,rfl⟩) (.inl ⟨rfl,rfl⟩) (by simp)
 rw[decide_eq_true rfl]at K
 have j:=aeY
 unfold IU at key f
 generalize ((l.countP (fH ⟨v1,v2⟩):Nat):Int)=m1 at *
 generalize ((l.countP (lz ⟨v1,v2⟩):Nat):Int)=m2 at *
 generalize ((l.countP (ly ⟨v1,v2⟩):Nat):Int)=m3 at *
 generalize ((l.countP vD:Nat):Int)=m4 at *
 generalize gz (oJ ⟨v1,v2⟩ l)=ee at *
 have V:=λT U=>j m1 m2 m3 m4 T U
 have S:=λT U=>j 0 0 0 0 T U
 clear j R i hall
 refine iq _ _ _ _ _ _ _ λg=>?_
 by_cases N:(An us qs gr l).isSome=true/\v1<=15
 ·rw[if_pos N]at F f
  obtain⟨zd,w,rfl⟩:=F
  simp only[if_pos N]at key
  clear N
  rcases h with ⟨rfl,h⟩ | ⟨t,rfl,h⟩
  ·obtain⟨G,B,⟨zp,o,rfl⟩,C,d⟩:=key bZ (.inl ⟨rfl,h⟩)
   have L:=n o w
   clear key n h M
   simp[af,ah,ad,ae,aa, *,bN,hx.r,hu.r,hq.r,k,O,P,B,m,C,f,L,d,o.r,w.r]
  ·obtain⟨G,B,⟨zp,o,rfl⟩,C,d⟩:=key (.cG 24 (bh (l.map B0)) none) (Sl.mk _ _)
   have L:=n o w
   have u:=M t rfl
   obtain⟨z,tt,A,v⟩:=t
   simp only at u
   subst u
   have l8:(H.get ⟨z,33,A,v⟩).isSome=true:=by rw[h];rfl
   clear key n M
   generalize bh (l.map B0)=eo at *
   have Z : ¬r3=(⟨z,33,A,v⟩:Ref):=λe=>by rw[e]at D;cases D
   have n4 : ¬(⟨z,33,A,v⟩:Ref)=r3:=λe=>Z e.symm
   have W : ¬r5=(⟨z,33,A,v⟩:Ref):=λe=>by rw[e]at E;cases E
   have n6 : ¬(⟨z,33,A,v⟩:Ref)=r5:=λe=>W e.symm
   rcases o.PX with ⟨rfl,he⟩ | ⟨c,rfl⟩
   ·clear he
    simp[af,ah,ad,ae,aa, *,bN,hx.r,hu.r,hq.r,k,O,P,h,B,m,C,f,L,d,w.r]
   ·simp[af,ah,ad,ae,aa, *,bN,hx.r,hu.r,hq.r,k,O,P,h,B,m,C,f,L,d,w.r]
 ·rw[if_neg N]at F f
  simp only[if_neg N]at key
  clear N n
  subst F
  rcases h with ⟨rfl,h⟩ | ⟨t,rfl,h⟩
  ·obtain⟨G,B,hyp,C,d⟩:=key bZ (.inl ⟨rfl,h⟩)
   subst hyp
   clear key h M
   simp[af,ah,ad,ae,aa, *,bN,hx.r,hu.r,hq.r,k,O,P,B,m,C,f,K,d]
  ·obtain⟨G,B,hyp,C,d⟩:=key (.cG 24 (bh (l.map B0)) none) (Sl.mk _ _)
   subst hyp
   have u:=M t rfl
   obtain⟨z,tt,A,v⟩:=t
   simp only at u
   subst u
   have l8:(H.get ⟨z,33,A,v⟩).isSome=true:=by rw[h];rfl
   clear key M
   generalize bh (l.map B0)=eo at *
   have Z : ¬r3=(⟨z,33,A,v⟩:Ref):=λe=>by rw[e]at D;cases D
   have n4 : ¬(⟨z,33,A,v⟩:Ref)=r3:=λe=>Z e.symm
   have W : ¬r5=(⟨z,33,A,v⟩:Ref):=λe=>by rw[e]at E;cases E
   have n6 : ¬(⟨z,33,A,v⟩:Ref)=r5:=λe=>W e.symm
   simp[af,ah,ad,ae,aa, *,bN,hx.r,hu.r,hq.r,k,O,P,h,B,m,C,f,K,d]
end
section
variable{xu xq:AV}{us:List Clear}{qs:List aC}{gr:Int}(hu:Sl 3 (cW us) xu)(hq:Sl 5 (cN qs) xq){l:List (cB × AV)}{x1:AV}(hx:Sl 24 (bh l) x1)(hl : ∀p∈l,Sl 1 (rows p.1.op.l) p.2/\tF p.1.op.l)
include hu hq hx hl
theorem Ph(v1:UInt8)(v2:UInt32):aF env 4 [.agg [xu,xq,aI gr],x1,.agg [a8 v1,aw v2]]=some (aB true):=by
 obtain⟨t,k,c⟩:=Tu (gr:=gr) hu hq hx (λp hp=>(hl p hp).1) 25
 refine aH rfl (by kernel_rfl) (s7 _ _ _ _ _ λg=>?_)
 cases t with
 | true=>
  clear hl
  simp[af,ah,ad,ae,aa, *,jo,hx.r,hu.r,hq.r]
 | false=>
  obtain⟨b1,b2,b3,f⟩:=c rfl
  have b:l.length<=25:=by omega
  have a : ∀p∈l,Jj p:=λp hp=>⟨(hl p hp).1,(hl p hp).2,by have:=f p (by rw[gw (by omega)];exact hp);omega⟩
  simp[af,ah,ad,ae,aa, *,jo,hx.r,hu.r,hq.r]
  refine T5 hx (by omega) a (r3:=⟨0,3,0,0⟩) (r5:=⟨0,5,0,0⟩) rfl rfl (b3:=⟨3,[.agg [xu,xq,aI gr]],false,false⟩) (b5:=⟨2,[.agg [a8 v1,aw v2]],false,false⟩) (λH m i h j d c=>?_) l 0 _ bZ rfl (by omega) ?_ ?_ ?_ (.inl ⟨rfl,by simp[bh]⟩) (λr e=>by cases e)
  ·exact QA (gr:=gr) hx b a hu hq (by omega) (by omega) v1 v2 rfl rfl i h j d c (λH'=>by simp)
  ·exact by simp(maxDischargeDepth:=12) [ai.get_put,an,aj,Fr.nil,au,af,ah,ad,ae,ao,ak,aa, *]
  ·simp
  ·simp
end
end Go.Proofs.YtdbiffjdomokfaaGreat
namespace Go.Proofs.YtdbiffjdomokfaaGreat.auditTells
open Go.Ab Go.ChangeShapes Go.WideShapes Go.RowKit
theorem law(xs:List AV)(h:Pm env.P 20 Tryz.f4.params.toList xs):aF env 4 xs=some (aB true):=by
 rw[show Tryz.f4.params.toList=[29,31,35] from by kernel_rfl]at h
 obtain⟨x0,xs,rfl,e,h⟩:=DH h
 obtain⟨j,xs,rfl,b,h⟩:=DH h
 obtain⟨i,xs,rfl,c,h⟩:=DH h
 obtain rfl:=SX h
 obtain⟨us,qs,gr,n,m,rfl,hu,g⟩:=Zj e
 obtain⟨l,d,f⟩:=SZ b
 obtain⟨k,rfl,a⟩:=c.agg (by simp)
 obtain⟨⟨v1,v2⟩,_,rfl⟩:=AX _ _ a
 exact Ph (gr:=gr) hu g f d v1 v2
theorem lifted(e:Os)(a:e.Started)(H:Type)(enc:TypeId × Value->H) :
 ReturnsInHanded {} Tryz.checked e 4 .any (Rows.auditTellsSpec.pre6 enc Tryz.prog Tryz.f4 Rows.auditTellsRow.domain false) (Rows.auditTellsSpec.post enc Tryz.prog Tryz.f4 false true false false):=by
 refine returnsInHanded_of_change (C:=Tryz.checked) own a (by kernel_rfl) Tryz.func4
  (ChangeSpec.witness6 (enc:=enc) (C:=Tryz.checked) false ⟨#[], #[.agg #[.slice none 0 0,.slice none 0 0,.int .i64 0],.slice none 0 0,.agg #[.int .u8 0,.int .u32 0]],[]⟩ 8 (by kernel_rfl) (by kernel_rfl) (by kernel_rfl) (by kernel_rfl)) ?_
 intro W d args ds g b c f _ _
 exact HS (E:=env) ae1 kids (slices_full_of Tryz.prog (by kernel_rfl)) (m:=20) (λt h=>of_decide_eq_true (fZ.1 (show Tryz.f4.params.toList.all (λt=>decide (t<Tryz.prog.types.size))=true by kernel_rfl) t h)) (by kernel_rfl) rfl
  (λds i=>by match ds,i with | [_,_,_],_=>rfl) (by kernel_rfl) law W d args ds g b c f
theorem tZ:Rows.auditTellsRow.holds Tryz.pinned (OpenSpec.ofChange Rows.auditTellsSpec):=
 OpenClaim.holds_of_wide 4 Tryz.f4 rfl rfl rfl rfl rfl rfl rfl ⟨rfl,rfl,rfl,rfl,rfl⟩ rfl rfl rfl rfl rfl (by kernel_rfl) Tryz.func4 aaa
  (of_decide_eq_true (by kernel_rfl)) (by unfold Func.isWrapper;first | (rw[if_pos (by decide +kernel)];kernel_rfl) | (rw[if_neg (by decide +kernel)];exact⟨rfl,rfl⟩))
  (λb a H enc _=>lifted b a H enc)
theorem proved:Rows.AuditTellsSaid:=
 tZ
end Go.Proofs.YtdbiffjdomokfaaGreat.auditTells
