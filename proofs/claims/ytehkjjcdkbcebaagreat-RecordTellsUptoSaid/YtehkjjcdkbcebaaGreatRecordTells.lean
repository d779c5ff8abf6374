/-
  The document's answer on records: compared, and may one be? No statement of a seat is proved here.
-/
import Derived.Test.YtehkjjcdkbcebaaGreatMR11a
set_option linter.unusedVariables false
set_option linter.unusedSimpArgs false
set_option linter.unusedSectionVars false
set_option linter.unnecessarySimpa false
set_option maxRecDepth 1000000
namespace Go.Proofs.YtehkjjcdkbcebaaGreat
open Go.Ab
section
attribute [local simp] bn aO aE aQ aP cy ld bp aG aU cZ cY aX bo ar bS fC
def oF(l:List Int):Prop :=∀a∈l, -2147483648<=a/\a<=2147483647
def rW(p:eQ × AV):Prop:=Sl 1 (rows p.1.op.l) p.2/\p.1.op.l.length<1100000
theorem PU(k1 N:UInt8)(P O:Int)(D:UInt8)(C:UInt8)(a_3:UInt32)(v:UInt8)(u:Int)(t:UInt8)(E:UInt32)(K:UInt8)(s:Int)(i:Int)(p:UInt8)(n:UInt32)(q:UInt8)(c:Int)(d:UInt8)(a:UInt32)(F:UInt8)(z:UInt8)(w:UInt32)(H:UInt8)(B:Int)(A:UInt8)(I:UInt32)(G:UInt8)(J:Int)(o:Int)(b:UInt8)(e:UInt32)(k:UInt8)(j:Int)(f:UInt8)(h:UInt32)(M L Z R:Int)(X Y:UInt8)(Q V:UInt32)(U W:Bool){x y:AV}{l m:List Int}(S:Sl 1 (rows l) x)(T:Sl 1 (rows m) y)(hl:l.length<1000000000)(hm:m.length<1000000000) :
 au env 29 [.agg [a8 k1,aI P,a8 D,a8 C,bc a_3,a8 v,aI u,a8 t,bc E,a8 K,aI s,aI i,a8 p,bc n,a8 q,aI c,a8 d,bc a,x,aI M,aI Z,a8 X,bc Q,aB U],.agg [a8 N,aI O,a8 F,a8 z,bc w,a8 H,aI B,a8 A,bc I,a8 G,aI J,aI o,a8 b,bc e,a8 k,aI j,a8 f,bc h,y,aI L,aI R,a8 Y,bc V,aB W]] =
  some (aB (l8 ⟨k1,P,(⟨D,⟨C,a_3,v⟩,u,⟨⟨⟨t,E,K⟩,s⟩,i⟩,⟨⟨p,n,q⟩,c⟩,⟨d,a⟩,l⟩:dY),M,Z,X,Q,U⟩ ⟨N,O,(⟨F,⟨z,w,H⟩,B,⟨⟨⟨A,I,G⟩,J⟩,o⟩,⟨⟨b,e,k⟩,j⟩,⟨f,h⟩,m⟩:dY),L,R,Y,V,W⟩)):=by
 refine ax rfl (by kernel_rfl) (sA _ _ _ _ λg=>?_)
 have hq:=zn D C a_3 v u t E K s i p n q c d a F z w H B A I G J o b e k j f h S T hl hm
 have hr:=S.r
 have Zs:=T.r
 unfold l8
 cases e1:decide (k1=N) with
 | false=>simp[ak, *,dW,kT,eF]
 | true=>
 cases e2:decide (P=O) with
 | false=>simp[ak, *,dW,kT,eF]
 | true=>
 cases e3:mB (⟨D,⟨C,a_3,v⟩,u,⟨⟨⟨t,E,K⟩,s⟩,i⟩,⟨⟨p,n,q⟩,c⟩,⟨d,a⟩,l⟩:dY) (⟨F,⟨z,w,H⟩,B,⟨⟨⟨A,I,G⟩,J⟩,o⟩,⟨⟨b,e,k⟩,j⟩,⟨f,h⟩,m⟩:dY) with
 | false=>simp[ak, *,dW,kT,eF]
 | true=>
 cases e4:decide (M=L) with
 | false=>simp[ak, *,dW,kT,eF]
 | true=>simp[ak, *,dW,kT,eF]
theorem JW{p q:eQ × AV}(hp:rW p)(T:rW q):au env 29 [p.1.val p.2,q.1.val q.2]=some (aB (l8 p.1 q.1)):=by
 obtain⟨⟨k,u,⟨E,⟨D,a_3,I⟩,G,⟨⟨⟨F,H,R⟩,C⟩,z⟩,⟨⟨s,e,A⟩,f⟩,⟨h,a⟩,l⟩,c,g,v,w,o⟩,x⟩:=p
 obtain⟨⟨k',U,⟨K,⟨M,J,N⟩,S,⟨⟨⟨Q,O,L⟩,P⟩,i⟩,⟨⟨d,j,b⟩,B⟩,⟨n,t⟩,m⟩,W,V,X,w',o'⟩,y⟩:=q
 exact PU k k' u U E D a_3 I G F H R C z s e A f h a K M J N S Q O L P i d j b B n t c W g V v X w w' o o' hp.1 T.1 (by have:=hp.2;simp at this;omega) (by have:=T.2;simp at this;omega)
theorem K6(k:UInt8)(s:UInt8)(a_3:UInt32)(t:UInt8)(o:Int)(n:UInt8)(p:UInt32)(q:UInt8)(j:Int)(f:Int)(e:UInt8)(b:UInt32)(i:UInt8)(c:Int)(d:UInt8)(a:UInt32){x:AV}{l:List Int}(u:Sl 1 (rows l) x)(v:l.length<1000000000):au env 94 [.agg [a8 k,a8 s,bc a_3,a8 t,aI o,a8 n,bc p,a8 q,aI j,aI f,a8 e,bc b,a8 i,aI c,a8 d,bc a,x]]=some (aB (mB { (⟨k,⟨s,a_3,t⟩,o,⟨⟨⟨n,p,q⟩,j⟩,f⟩,⟨⟨e,b,i⟩,c⟩,⟨d,a⟩,l⟩:dY)with h:=⟨0,0,0⟩} ef)):=by
 have h:=zn k 0 0 0 o n p q j f e b i c d a 0 0 0 0 0 0 0 0 0 0 0 0 0 0 0 0 u (y:=bF) (m:=[]) (.inl ⟨rfl,rfl⟩) v (by simp)
 refine ax rfl (by kernel_rfl) (sx _ _ _ λg=>?_)
 simp[ak, *,nm,u.r]
 rfl
theorem Na(k:UInt8)(u:Int)(B:UInt8)(s:UInt8)(a_3:UInt32)(p:UInt8)(A:Int)(z:UInt8)(C:UInt32)(D:UInt8)(t:Int)(e:Int)(i:UInt8)(f:UInt32)(j:UInt8)(b:Int)(d:UInt8)(a:UInt32)(c H:Int)(v:UInt8)(w:UInt32)(o:Bool){x:AV}{l:List Int}(E:Sl 1 (rows l) x)(X:l.length<100000)(W:oF l) :
 au env 51 [.agg [a8 k,aI u,a8 B,a8 s,bc a_3,a8 p,aI A,a8 z,bc C,a8 D,aI t,aI e,a8 i,bc f,a8 j,aI b,a8 d,bc a,x,aI c,aI H,a8 v,bc w,aB o]]=some (aB (b9 ⟨k,u,(⟨B,⟨s,a_3,p⟩,A,⟨⟨⟨z,C,D⟩,t⟩,e⟩,⟨⟨i,f,j⟩,b⟩,⟨d,a⟩,l⟩:dY),c,H,v,w,o⟩)):=by
 have I:=K6 B s a_3 p A z C D t e i f j b d a E (by omega)
 have J:=AG B s a_3 p A z C D t e i f j b d a E (by omega) W
 have L:=K1 B s a_3 p A z C D t e i f j b d a E X
 have P:=JV H v w o
 have K:=xZ s a_3 p
 refine ax rfl (by kernel_rfl) (tw _ _ _ λg=>?_)
 have M:mB { (⟨B,⟨s,a_3,p⟩,A,⟨⟨⟨z,C,D⟩,t⟩,e⟩,⟨⟨i,f,j⟩,b⟩,⟨d,a⟩,l⟩:dY)with h:=⟨0,0,0⟩} ef=mB (⟨B,⟨s,a_3,p⟩,A,⟨⟨⟨z,C,D⟩,t⟩,e⟩,⟨⟨i,f,j⟩,b⟩,⟨d,a⟩,l⟩:dY) { ef with h:=⟨s,a_3,p⟩}:=by
  simp[mB,ef]
 by_cases k1:k=1
 ·subst k1
  have G:b9 ⟨1,u,(⟨B,⟨s,a_3,p⟩,A,⟨⟨⟨z,C,D⟩,t⟩,e⟩,⟨⟨i,f,j⟩,b⟩,⟨d,a⟩,l⟩:dY),c,H,v,w,o⟩=((decide (0<=u)&&decide (u<=255))&&(ej ⟨s,a_3,p⟩&&(mB { (⟨B,⟨s,a_3,p⟩,A,⟨⟨⟨z,C,D⟩,t⟩,e⟩,⟨⟨i,f,j⟩,b⟩,⟨d,a⟩,l⟩:dY)with h:=⟨0,0,0⟩} ef&&(decide (c=0)&&(decide (H=0)&&(decide (v=0)&&decide (w=0)&&decide (o=false))))))):=by
   rw[M];simp[b9,Bo,l8]
  rw[G]
  clear M G J L P
  generalize mB { (⟨B,⟨s,a_3,p⟩,A,⟨⟨⟨z,C,D⟩,t⟩,e⟩,⟨⟨i,f,j⟩,b⟩,⟨d,a⟩,l⟩:dY)with h:=⟨0,0,0⟩} ef=n at *
  generalize ej ⟨s,a_3,p⟩=hh at *
  cases n with
  | false=>simp[ak, *,aA,E.r,I]
  | true=>
  cases hh with
  | false=>simp[ak, *,aA,E.r,I,K]
  | true=>
  by_cases F:0<=u
  ·by_cases T:u<=255
   ·by_cases c0:c=0
    ·simp[ak, *,aA,E.r,I,K,F,T,c0,kT,eF]
    ·simp[ak, *,aA,E.r,I,K,F,T,c0]
   ·simp[ak, *,aA,E.r,I,K,F,T]
  ·simp[ak, *,aA,E.r,I,K,F]
 ·by_cases F:u=0
  ·by_cases N:k=2
   ·subst N
    have G:b9 ⟨2,u,(⟨B,⟨s,a_3,p⟩,A,⟨⟨⟨z,C,D⟩,t⟩,e⟩,⟨⟨i,f,j⟩,b⟩,⟨d,a⟩,l⟩:dY),c,H,v,w,o⟩=(nB (⟨B,⟨s,a_3,p⟩,A,⟨⟨⟨z,C,D⟩,t⟩,e⟩,⟨⟨i,f,j⟩,b⟩,⟨d,a⟩,l⟩:dY)&&(!decide (-1∈l)&&((decide (0<=c)&&decide (c<65536))&&(decide (H=0)&&(decide (v=0)&&decide (w=0)&&decide (o=false)))))):=by
     have V : ∀q:dY,mB q q=true:=λq=>by simp[mB]
     simp only[b9,Bo,l8,V,F,show ¬((2:UInt8)=1) from by decide,if_false,if_true,decide_true,hU]
     cases nB (⟨B,⟨s,a_3,p⟩,A,⟨⟨⟨z,C,D⟩,t⟩,e⟩,⟨⟨i,f,j⟩,b⟩,⟨d,a⟩,l⟩:dY)<;>cases decide (-1∈l)<;>cases decide (0<=c)<;>cases decide (c<65536)<;>simp
    rw[G]
    clear M G I K P
    generalize nB (⟨B,⟨s,a_3,p⟩,A,⟨⟨⟨z,C,D⟩,t⟩,e⟩,⟨⟨i,f,j⟩,b⟩,⟨d,a⟩,l⟩:dY)=n at *
    generalize S:decide (-1∈l)=pl at *
    clear S
    cases n with
    | false=>simp[ak, *,aA,E.r,J,F]
    | true=>
    cases pl with
    | true=>simp[ak, *,aA,E.r,J,L,F]
    | false=>
    by_cases c0:0<=c
    ·by_cases U:c<65536
     ·simp[ak, *,aA,E.r,J,L,F,c0,U,kT,eF]
     ·simp[ak, *,aA,E.r,J,L,F,c0,U]
    ·simp[ak, *,aA,E.r,J,L,F,c0]
   ·by_cases Q:k=3
    ·subst Q
     have R:=zn B s a_3 p A z C D t e i f j b d a 0 0 0 0 0 0 0 0 0 0 0 0 0 0 0 0 E (y:=bF) (m:=[]) (.inl ⟨rfl,rfl⟩) (by omega) (by simp)
     have G:b9 ⟨3,u,(⟨B,⟨s,a_3,p⟩,A,⟨⟨⟨z,C,D⟩,t⟩,e⟩,⟨⟨i,f,j⟩,b⟩,⟨d,a⟩,l⟩:dY),c,H,v,w,o⟩=(mB (⟨B,⟨s,a_3,p⟩,A,⟨⟨⟨z,C,D⟩,t⟩,e⟩,⟨⟨i,f,j⟩,b⟩,⟨d,a⟩,l⟩:dY) ef&&(decide (c=0)&&n9 H v w o)):=by
      simp only[b9,Bo,l8,F,show ¬((3:UInt8)=1) from by decide,show ¬((3:UInt8)=2) from by decide,if_false,if_true,decide_true,hU]
      cases n9 H v w o<;>cases mB (⟨B,⟨s,a_3,p⟩,A,⟨⟨⟨z,C,D⟩,t⟩,e⟩,⟨⟨i,f,j⟩,b⟩,⟨d,a⟩,l⟩:dY) ef<;>simp
     rw[G]
     have O:mB (⟨B,⟨s,a_3,p⟩,A,⟨⟨⟨z,C,D⟩,t⟩,e⟩,⟨⟨i,f,j⟩,b⟩,⟨d,a⟩,l⟩:dY) ⟨0,⟨0,0,0⟩,0,⟨⟨⟨0,0,0⟩,0⟩,0⟩,⟨⟨0,0,0⟩,0⟩,⟨0,0⟩,[]⟩=mB (⟨B,⟨s,a_3,p⟩,A,⟨⟨⟨z,C,D⟩,t⟩,e⟩,⟨⟨i,f,j⟩,b⟩,⟨d,a⟩,l⟩:dY) ef:=rfl
     rw[O]at R
     clear M G I K J L O
     generalize mB (⟨B,⟨s,a_3,p⟩,A,⟨⟨⟨z,C,D⟩,t⟩,e⟩,⟨⟨i,f,j⟩,b⟩,⟨d,a⟩,l⟩:dY) ef=n at *
     generalize n9 H v w o=m at *
     cases n with
     | false=>simp[ak, *,aA,E.r,R,F]
     | true=>
      by_cases c0:c=0
      ·simp[ak, *,aA,E.r,R,P,F,c0]
      ·simp[ak, *,aA,E.r,R,F,c0]
    ·have G:b9 ⟨k,u,(⟨B,⟨s,a_3,p⟩,A,⟨⟨⟨z,C,D⟩,t⟩,e⟩,⟨⟨i,f,j⟩,b⟩,⟨d,a⟩,l⟩:dY),c,H,v,w,o⟩=false:=by simp[b9,k1,N,Q]
     rw[G]
     clear M G I K J L P
     simp[ak, *,aA,E.r,F,k1,N,Q]
  ·have G:b9 ⟨k,u,(⟨B,⟨s,a_3,p⟩,A,⟨⟨⟨z,C,D⟩,t⟩,e⟩,⟨⟨i,f,j⟩,b⟩,⟨d,a⟩,l⟩:dY),c,H,v,w,o⟩=false:=by
    simp only[b9,Bo,l8,k1,if_false]
    by_cases N:k=2
    ·simp[N,F]
    ·by_cases Q:k=3<;>simp[N,Q,F]
   rw[G]
   clear M G I K J L P
   simp[ak, *,aA,E.r,F,k1]
theorem EX{p:eQ × AV}(hp:rW p)(B:p.1.op.l.length<100000)(A:oF p.1.op.l):au env 51 [p.1.val p.2]=some (aB (b9 p.1)):=by
 obtain⟨⟨k,u,⟨n,⟨m,a_3,y⟩,s,⟨⟨⟨q,t,z⟩,j⟩,h⟩,⟨⟨f,b,i⟩,d⟩,⟨e,a⟩,l⟩,c,g,v,w,o⟩,x⟩:=p
 exact Na k u n m a_3 y s q t z j h f b i d e a c g v w o hp.1 B A
end
section
attribute [local simp] bn aO aE aQ aP cy ld bp aG aU cZ cY aX bo ar bS fC
attribute [local simp] s9 TM dt
theorem Gf(k:UInt8)(u:Int)(B:UInt8)(s:UInt8)(a_3:UInt32)(q:UInt8)(A:Int)(z:UInt8)(C:UInt32)(D:UInt8)(y:Int)(i:Int)(m:UInt8)(j:UInt32)(n:UInt8)(d:Int)(f:UInt8)(b:UInt32)(c E:Int)(v:UInt8)(w:UInt32)(o:Bool){x:AV}{l:List Int}(L:Sl 1 (rows l) x)(a:l.length<100000)(F:b9 ⟨k,u,(⟨B,⟨s,a_3,q⟩,A,⟨⟨⟨z,C,D⟩,y⟩,i⟩,⟨⟨m,j,n⟩,d⟩,⟨f,b⟩,l⟩:dY),c,E,v,w,o⟩=true) :
 au env 98 [.agg [a8 k,aI u,a8 B,a8 s,bc a_3,a8 q,aI A,a8 z,bc C,a8 D,aI y,aI i,a8 m,bc j,a8 n,aI d,a8 f,bc b,x,aI c,aI E,a8 v,bc w,aB o]]=some (.bl 1 (al (jL ⟨k,u,(⟨B,⟨s,a_3,q⟩,A,⟨⟨⟨z,C,D⟩,y⟩,i⟩,⟨⟨m,j,n⟩,d⟩,⟨f,b⟩,l⟩:dY),c,E,v,w,o⟩)) none):=by
 have Z:=L.r
 by_cases k1:k=1
 ·subst k1
  have X:=DL s a_3 q
  have e:jL ⟨1,u,(⟨B,⟨s,a_3,q⟩,A,⟨⟨⟨z,C,D⟩,y⟩,i⟩,⟨⟨m,j,n⟩,d⟩,⟨f,b⟩,l⟩:dY),c,E,v,w,o⟩=1 :: (bJ ⟨s,a_3,q⟩++[u8 u]):=rfl
  have N:(bJ ⟨s,a_3,q⟩).length=6:=by simp[bJ]
  have I:bJ ⟨s,a_3,q⟩≠[]:=by intro h;rw[h]at N;simp at N
  rw[e]
  clear F e a
  generalize bJ ⟨s,a_3,q⟩=hb at *
  refine ax rfl (by kernel_rfl) (jw _ _ _ λg=>?_)
  simp[ak, *,gC,al]
  done
 ·by_cases M:k=2
  ·subst M
   have G:nB (⟨B,⟨s,a_3,q⟩,A,⟨⟨⟨z,C,D⟩,y⟩,i⟩,⟨⟨m,j,n⟩,d⟩,⟨f,b⟩,l⟩:dY)=true/\0<=c/\c<65536:=by
    simp only[b9,if_neg k1,if_true,aY,decide_eq_true_eq]at F
    exact⟨F.2.1,F.1.1.2,F.1.2⟩
   obtain⟨G,c0,c1⟩:=G
   have U:=vM B s a_3 q A z C D y i m j n d f b L a G
   have e:jL ⟨2,u,(⟨B,⟨s,a_3,q⟩,A,⟨⟨⟨z,C,D⟩,y⟩,i⟩,⟨⟨m,j,n⟩,d⟩,⟨f,b⟩,l⟩:dY),c,E,v,w,o⟩=2 :: ([u8 (c / 256),u8 c]++dL (⟨B,⟨s,a_3,q⟩,A,⟨⟨⟨z,C,D⟩,y⟩,i⟩,⟨⟨m,j,n⟩,d⟩,⟨f,b⟩,l⟩:dY)):=rfl
   have H:(dL (⟨B,⟨s,a_3,q⟩,A,⟨⟨⟨z,C,D⟩,y⟩,i⟩,⟨⟨m,j,n⟩,d⟩,⟨f,b⟩,l⟩:dY)).length<=293/\24<=(dL (⟨B,⟨s,a_3,q⟩,A,⟨⟨⟨z,C,D⟩,y⟩,i⟩,⟨⟨m,j,n⟩,d⟩,⟨f,b⟩,l⟩:dY)).length:=by rw[rE G];exact⟨(qE G).2,(qE G).1⟩
   rw[e]
   clear F e a G
   generalize dL (⟨B,⟨s,a_3,q⟩,A,⟨⟨⟨z,C,D⟩,y⟩,i⟩,⟨⟨m,j,n⟩,d⟩,⟨f,b⟩,l⟩:dY)=ob at *
   have I:ob≠[]:=by rintro rfl;simp at H
   have T:=MI c0
   have S:=MD c0
   have W:=λt J K=>nH env.P t J K .i64 c 256 (by decide)
   have Q:=λt J K=>mC env.P t J K .i64 c 256 (by decide)
   have R:=IntWalk.i64_in (c / 256) (by omega)
   rw[T,R]at W
   rw[S]at Q
   have Y:3+ob.length<=140737488355328/\2<3+ob.length/\0<ob.length/\1+2=3:=by omega
   refine ax rfl (by kernel_rfl) (jw _ _ _ λg=>?_)
   simp[ak, *,gC,al,jy]
   exact⟨by omega,fC (by simp;omega)⟩
  ·by_cases O:k=3
   ·subst O
    have U:=K2 E v w o
    have e:jL ⟨3,u,(⟨B,⟨s,a_3,q⟩,A,⟨⟨⟨z,C,D⟩,y⟩,i⟩,⟨⟨m,j,n⟩,d⟩,⟨f,b⟩,l⟩:dY),c,E,v,w,o⟩=3 :: iC E v w o:=rfl
    rw[e]
    clear F e a
    have V:(iC E v w o).length=7:=by simp[iC]
    generalize iC E v w o=gb at *
    have I:gb≠[]:=by rintro rfl;simp at V
    refine ax rfl (by kernel_rfl) (jw _ _ _ λg=>?_)
    simp[ak, *,gC,al]
    done
   ·simp[b9,k1,M,O]at F
theorem BY{p:eQ × AV}(hp:rW p)(a:p.1.op.l.length<100000)(B:b9 p.1=true):au env 98 [p.1.val p.2]=some (.bl 1 (al (jL p.1)) none):=by
 obtain⟨⟨k,u,⟨q,⟨n,a_3,z⟩,t,⟨⟨⟨s,y,A⟩,m⟩,i⟩,⟨⟨h,d,j⟩,e⟩,⟨f,b⟩,l⟩,c,g,v,w,o⟩,x⟩:=p
 exact Gf k u q n a_3 z t s y A m i h d j e f b c g v w o hp.1 a B
section
variable{p:eQ × AV}(hp:rW p)(a:p.1.op.l.length<100000)
include hp a
theorem vN(b:b9 p.1=true):au env 53 [p.1.val p.2]=some (aI (jQ p.1)):=by
 have o:=BY hp a b
 have w:=hp.1.r
 have u:=tJ b
 have m:jQ p.1=((jL p.1).length+118) / 119:=rfl
 refine ax rfl (by kernel_rfl) (sC _ _ _ λg=>?_)
 unfold eQ.val at o ⊢
 generalize jL p.1=bs at *
 generalize jQ p.1=N at *
 have n:=λt e f=>nH env.P t e f .i64 (bs.length:Int) 119 (by decide)
 have k:=λt e f=>mC env.P t e f .i64 (bs.length:Int) 119 (by decide)
 have d:((bs.length:Int)).tdiv 119=((bs.length / 119:Nat):Int):=by rw[FM (by omega)];omega
 have i:((bs.length:Int)).tmod 119=((bs.length % 119:Nat):Int):=by rw[zW (by omega)];omega
 rw[d]at n
 rw[i]at k
 obtain⟨D,c⟩ : ∃D:Nat,D=bs.length / 119:=⟨_,rfl⟩
 obtain⟨M,h⟩ : ∃M:Nat,M=bs.length % 119:=⟨_,rfl⟩
 have s:=IntWalk.i64_in (D:Int) (by omega)
 have v:=IntWalk.i64_in ((D:Int)+1) (by omega)
 rw[<-c,s]at n
 rw[<-h]at k
 by_cases x:0<M
 ·have j:(N:Int)=(D:Int)+1:=by omega
  have q:(0:Int)<(M:Int):=by omega
  clear b hp m d i c h
  simp only[j]
  simp[ak, *,j3]
  done
 ·have j:(N:Int)=(D:Int):=by omega
  have q : ¬(0:Int)<(M:Int):=by omega
  clear b hp m d i c h
  simp only[j]
  simp[ak, *,j3]
  done
end
theorem ya(st nu b of:Int):au env 52 [.agg [aI st,aI nu,aI b,aI of]]=some (aB (jK st nu b of)):=by
 refine ax rfl (by kernel_rfl) (qz _ _ _ λg=>?_)
 simp[ak, *,lK]
 repeat' ((first | apply td<;>intro h | apply oN<;>intro h | apply oO<;>intro h | apply oL<;>intro h | apply oM<;>intro h)<;>(try simp only[decide_eq_true_eq,decide_eq_false_iff_not,gE,rn,aY,jh]at h)<;>(try simp[ak, *,jK]))
 all_goals (try (simp[jK];omega))
theorem It{p:eQ × AV}(hp:rW p)(a:p.1.op.l.length<100000)(c:oF p.1.op.l):au env 31 [p.1.val p.2]=some (aI (if b9 p.1 then 0 else 8)):=by
 have b:=EX hp a c
 have e:=hp.1.r
 refine ax rfl (by kernel_rfl) (rO _ _ _ λg=>?_)
 clear hp
 unfold eQ.val at b ⊢
 cases d:b9 p.1<;>rw[d]at b<;>simp[ak, *,mK]
theorem Is{p:eQ × AV}(hp:rW p)(a:p.1.op.l.length<100000)(e:oF p.1.op.l):au env 26 [p.1.val p.2]=some (if b9 p.1 then .tup [aI (jQ p.1),aI 0] else .tup [aI 0,aI 8]):=by
 have c:=EX hp a e
 have b:=vN hp a
 have f:=hp.1.r
 refine ax rfl (by kernel_rfl) (rN _ _ _ λg=>?_)
 clear hp
 unfold eQ.val at c b ⊢
 cases d:b9 p.1
 ·rw[d]at c
  clear b
  simp[ak, *,jE]
 ·rw[d]at c
  replace b:=b d
  simp[ak, *,jE]
theorem Kx{n:Int}(b:0<=n)(c:n<4294967296):IntKind.i64.wrap (n.tdiv 16777216)=n / 16777216/\IntKind.i64.wrap (n.tdiv 65536)=n / 65536/\IntKind.i64.wrap (n.tdiv 256)=n / 256/\(n / 65536).tmod 256=n / 65536 % 256/\(n / 256).tmod 256=n / 256 % 256/\n.tmod 256=n % 256:=by
 refine⟨?_,?_,?_,zW (by omega),zW (by omega),zW b⟩
 all_goals rw[FM b]
 all_goals exact IntWalk.i64_in _ (by omega)
theorem LZ{H:ab}{r q:Ref}{B:List UInt8}(e:H.get q=some ⟨1,al B,true,false⟩)(n:Nat)(h:n<=1000)(i:B.length<=1000){K:AV->ab->Prop}
 (c : ∀g d,d.get g=some ⟨1,al (B++List.replicate n 0),true,false⟩->K (.bD g 0 (B.length+n) none) d):iq (cS env.P true H r (some 27) (some 3) (.bD q 0 B.length none) (aI n)) K:=by
 have b:=Ao (P:=env.P) (t:=27) (t':=3) (by kernel_rfl) (by kernel_rfl) (by kernel_rfl) (H:=H) (r:=r) (q:=q) (es:=al B) (fz:=false) e n (by simp[aX];omega) (by rw[show pw env.P 27=1 from by kernel_rfl];simp[aX];omega)
 rw[fY,show jf env.P 27=1 from by kernel_rfl,show gN env.P 27=a8 0 from by kernel_rfl]at b
 by_cases f:n=0
 ·subst f
  rw[if_pos rfl]at b
  refine tY b (c q H ?_)
  simpa using e
 ·rw[if_neg f]at b
  refine tY b (c _ _ ?_)
  rw[ab.jr,if_pos rfl]
  simp[al]
theorem M8{st nu i of:Int}(a0:0<=st)(U:st<4294967296)(b0:0<=nu)(b1:nu<4294967296){x:AV}{bs:List UInt8}(F:Sl 1 (al bs) x)(a:bs.length<=119)(n:bs≠[]) :
 au env 99 [.agg [aI st,aI nu,aI i,aI of],x]=some (.bl 1 (al (j9 st nu of i bs)) none):=by
 obtain⟨X,rfl,N⟩:=kz F (by simpa [al] using xO.2 n)
 have O:=λt b c=>nH env.P t b c .i64 st 16777216 (by decide)
 have E:=λt b c=>nH env.P t b c .i64 st 65536 (by decide)
 have S:=λt b c=>nH env.P t b c .i64 st 256 (by decide)
 have T:=λt b c=>mC env.P t b c .i64 (st / 65536) 256 (by decide)
 have R:=λt b c=>mC env.P t b c .i64 (st / 256) 256 (by decide)
 have M:=λt b c=>mC env.P t b c .i64 st 256 (by decide)
 obtain⟨z,v,u,D,w,C⟩:=Kx a0 U
 rw[z]at O;rw[v]at E;rw[u]at S;rw[D]at T;rw[w]at R;rw[C]at M
 have G:=λt b c=>nH env.P t b c .i64 nu 65536 (by decide)
 have J:=λt b c=>nH env.P t b c .i64 nu 256 (by decide)
 have V:=λt b c=>mC env.P t b c .i64 (nu / 256) 256 (by decide)
 have I:=λt b c=>mC env.P t b c .i64 nu 256 (by decide)
 obtain⟨d1,d2,d3,d4,d5,d6⟩:=Kx b0 b1
 rw[d2]at G;rw[d3]at J;rw[d5]at V;rw[d6]at I
 clear z v u D w C d1 d2 d3 d4 d5 d6
 have L:al bs≠[]:=by simpa [al] using n
 have Y:9+bs.length<=140737488355328:=by omega
 have W:IntKind.i64.wrap (128 - (9+(bs.length:Int)))=((119 - bs.length:Nat):Int):=by rw[IntWalk.i64_in _ (by omega)];omega
 have s:(al bs).length=bs.length:=by simp
 refine ax rfl (by kernel_rfl) (tv _ _ _ _ λg=>?_)
 have f : ∀(m:Ref)(j:ab)(B:List UInt8),j.get m=some ⟨1,al B,true,false⟩->kE env 99 (.bD m 0 B.length none) j (.bl 1 (al B) none):=λm j B h=>by simp[h]
 obtain⟨e,d⟩ : ∃e,e=[u8 (st / 16777216),u8 (st / 65536),u8 (st / 256),u8 st,u8 (nu / 65536),u8 (nu / 256),u8 nu,u8 i,u8 of]:=⟨_,rfl⟩
 have A:j9 st nu of i bs=e++bs++List.replicate (119 - bs.length) 0:=by rw[d];simp[j9,qP,QT]
 have o:al (e++bs)=a8 (u8 (st / 16777216)) :: a8 (u8 (st / 65536)) :: a8 (u8 (st / 256)) :: a8 (u8 st) :: a8 (u8 (nu / 65536)) :: a8 (u8 (nu / 256)) :: a8 (u8 nu) :: a8 (u8 i) :: a8 (u8 of) :: al bs:=by rw[d];rfl
 have k:(e++bs).length=9+bs.length:=by rw[d];simp;omega
 have Q:=λ(H:ab)(r q:Ref) hq=>LZ (H:=H) (r:=r) (q:=q) (B:=e++bs) hq (119 - bs.length) (by omega) (by omega) (K:=λy j=>kE env 99 y j (.bl 1 (al (j9 st nu of i bs)) none)) (λm j h=>by
  have:=f m j _ h
  rw[gG,zU,<-A]at this
  exact this)
 rw[o,k]at Q
 clear f o k A d
 simp[ak, *,nV,jy]
end
section
attribute [local simp] bn aO aE aQ aP cy ld bp aG aU cZ cY aX bo ar bS fC
attribute [local simp] s9 TM dt
theorem Qi : ∀(m:Nat)(s:List UInt8)(k:Nat),k<(zt m s).length->119 * k<s.length/\(zt m s)[k]?=some ((s.drop (119 * k)).take 119):=by
 intro m
 induction m with
 | zero=>intro s k h;simp[zt]at h
 | succ m e=>
  intro s k h
  unfold zt at h ⊢
  by_cases b:s=[]
  ·rw[if_pos b]at h;simp at h
  ·rw[if_neg b]at h ⊢
   cases k with
   | zero=>exact⟨by have:=xO.2 b;omega,by simp⟩
   | succ k=>
    obtain⟨f,g⟩:=e (s.drop 119) k (by simpa using h)
    rw[lg]at f
    refine⟨by omega,?_⟩
    rw[HN,g,lU]
    congr 3
    omega
theorem Jo{r:eQ}(a:b9 r=true)(st nu:Int){k:Nat}(f:k<jQ r):119 * k<(jL r).length/\(bB r st nu)[k]?=some (j9 st nu (jQ r) k (((jL r).drop (119 * k)).take 119)):=by
 have g:(zt 3 (jL r)).length=jQ r:=by rw[Cm 3 (jL r) (by have:=(tJ a).1;omega)];rfl
 obtain⟨e,b⟩:=Qi 3 (jL r) k (by omega)
 refine⟨e,?_⟩
 unfold bB
 rw[zp,b]
 simp
section
variable{p:eQ × AV}(hp:rW p)(c:p.1.op.l.length<100000)(a:b9 p.1=true){st nu:Int}(a0:0<=st)(d:st<4294967296)(b0:0<=nu)(b1:nu<4294967296)
include hp c a a0 d b0 b1
theorem OJ{Q:AV->ab->Prop}(F : ∀j D,nx [39] 1 (ij (bB p.1 st nu)) D j->Q j D) : ∀(s:List (List UInt8)) (k:Nat) (j:AV) (H:ab),(bB p.1 st nu).drop k=s->k<=(bB p.1 st nu).length->Fr H ->
 H.get ⟨0,3,0,0⟩=some ⟨24,[p.1.val p.2],false,false⟩->nx [39] 1 (ij ((bB p.1 st nu).take k)) H j ->
 dZ env Tryz.f54 0 fl [(9,aI k),(3,.ptr ⟨0,3,0,0⟩ 0 0),(2,aI nu),(1,aI st),(8,j),(7,.bl 1 (al (jL p.1)) none)] H Q:=by
 intro s
 induction s with
 | nil=>
  intro k j H E P V z m
  obtain rfl:=drop_nil E P
  rw[wz]at m
  have G:=vN hp c a
  have f:=rK a st nu
  have T:=hp.1.r
  have S:=F j H m
  rw[f]
  unfold eQ.val at G z
  clear F hp m f
  refine k5 _ _ _ _ _ _ _ _ λg=>?_
  simp[ak, *,fu]
  done
 | cons b s R=>
  intro k j H E P V z m
  obtain⟨B,U,w,o⟩:=drop_cons E
  have G:=vN hp c a
  have f:=rK a st nu
  have T:=hp.1.r
  rw[f]at B
  obtain⟨c1,I⟩:=Jo a st nu B
  have q:b=j9 st nu (jQ p.1) k (((jL p.1).drop (119 * k)).take 119):=by rw[o]at I;exact Ep I
  have Zu:=tJ a
  have hN:=E1 a
  have M:jQ p.1=((jL p.1).length+118) / 119:=rfl
  obtain⟨pc,n⟩ : ∃pc,pc=((jL p.1).drop (119 * k)).take 119:=⟨_,rfl⟩
  rw[<-n]at q
  have v:pc.length<=119/\pc≠[]:=by
   rw[n]
   refine⟨by rw[lW];omega,λe=>?_⟩
   have:=congrArg List.length e
   rw[lW,lg]at this
   simp only[lV]at this
   omega
  obtain⟨A,y⟩ : ∃A:Int,(if ((k:Int)+1) * 119<((jL p.1).length:Int) then ((k:Int)+1) * 119 else ((jL p.1).length:Int))=A:=⟨_,rfl⟩
  have Zt:(0:Int)<=(k:Int) * 119/\(k:Int) * 119<=A/\A<=((jL p.1).length:Int):=by
   rw[<-y]
   split<;>omega
  have Y:((al (jL p.1)).drop ((k:Int) * 119).toNat).take (A.toNat - ((k:Int) * 119).toNat)=al pc:=by
   rw[n]
   unfold al
   rw[<-List.map_drop,<-List.map_take,show((k:Int) * 119).toNat=119 * k from by omega]
   congr 1
   split at y
   ·congr 1;omega
   ·rw[fC (by rw[lg];omega),fC (by rw[lg];omega)]
  have X:=M8 (i:=k) (of:=jQ p.1) a0 d b0 b1 (x := .bl 1 (al pc) none) (Sl.mk _ _) v.1 v.2
  rw[<-q]at X
  have h:=λj D=>R (k+1) j D w (by omega)
  have C:(bB p.1 st nu).take (k+1)=(bB p.1 st nu).take k++[b]:=by rw[y9,o];rfl
  have J:((bB p.1 st nu).take k).length=k:=by rw[lW];omega
  rw[show((k+1:Nat):Int)=(k:Int)+1 from by omega,C]at h
  have e1:=IntWalk.i64_in ((k:Int) * 119) (by omega)
  have e2:=IntWalk.i64_in ((k:Int)+1) (by omega)
  have e3:=IntWalk.i64_in (((k:Int)+1) * 119) (by omega)
  have O:(k:Int)<jQ p.1:=by omega
  generalize (bB p.1 st nu).take k=done at *
  generalize jL p.1=bs at *
  generalize jQ p.1=N at *
  unfold eQ.val at G z h
  clear q I o U E w F hp R n f C M
  refine k5 _ _ _ _ _ _ _ _ λg=>?_
  have K:(k+1) * 24<=140737488355328:=by omega
  have u:(ij done).length=k:=by simp[J]
  have L:ij (done++[b])=ij done++[.bl 1 (al b) none]:=by simp[ij,Dr]
  rw[L]at h
  rcases m with ⟨rfl,m⟩ | ⟨t,Z,W,rfl,m⟩
  ·rw[m]at h
   simp[ak, *,fu]
   refine h _ _ (by simp(maxDischargeDepth:=12) [R9, *]) (by simp[z]) (.inr ⟨39,H.gen 0 39,by simp,rfl,by simp⟩)
  ·obtain rfl:t=39:=by simpa using W
   rw[u]
   have Zs:(H.get ⟨0,39,Z,0⟩).isSome=true:=by rw[m];rfl
   generalize ij done=eo at *
   simp[ak, *,fu]
   refine h _ _ (by simp(maxDischargeDepth:=12) [ov, *]) ?_ (.inr ⟨39,H.gen 0 39,by simp,by simp[u],by simp⟩)
   simp[ab.aj,z]
theorem z6:au env 54 [p.1.val p.2,aI st,aI nu]=some (.bl 1 (ij (bB p.1 st nu)) none):=by
 have k:=BY hp c a
 have n:=hp.1.r
 have i:ij (bB p.1 st nu)≠[]:=OK (CU a st nu)
 have e:=λQ m=>OJ hp c a a0 d b0 b1 (Q:=Q) m (bB p.1 st nu) 0 bF [(⟨0,3,0,0⟩,some ⟨24,[p.1.val p.2],false,false⟩)] rfl (by omega) (by simp(maxDischargeDepth:=12) [R9, *]) (by simp) (.inl ⟨rfl,rfl⟩)
 have b : ∀f j,nx [39] 1 (ij (bB p.1 st nu)) j f->kE env 54 f j (.bl 1 (ij (bB p.1 st nu)) none):=by
  rintro f j (⟨_,h⟩ | ⟨t,q,o,rfl,h⟩)
  ·exact absurd h i
  ·generalize ij (bB p.1 st nu)=eo at *
   simp[h]
 refine ax rfl (by kernel_rfl) (qX _ _ _ _ _ λg=>?_)
 replace e:=e _ b
 clear b hp a
 generalize ij (bB p.1 st nu)=eo at *
 unfold eQ.val at k e ⊢
 simp[ak, *,md]
 exact e
end
theorem M9{p:eQ × AV}(hp:rW p)(c:p.1.op.l.length<100000)(i:oF p.1.op.l)(st nu:Int):au env 22 [p.1.val p.2,aI st,aI nu]=some (uC p.1 st nu):=by
 have b:=EX hp c i
 have m:=hp.1.r
 unfold uC
 cases a:b9 p.1
 ·rw[a]at b
  refine ax rfl (by kernel_rfl) (ky _ _ _ _ _ λg=>?_)
  clear hp
  unfold eQ.val at b ⊢
  simp[ak, *,iE]
 ·rw[a]at b
  have f:=vN hp c a
  have h:=ya st nu 0 (jQ p.1)
  cases e:jK st nu 0 (jQ p.1)
  ·rw[e]at h
   refine ax rfl (by kernel_rfl) (ky _ _ _ _ _ λg=>?_)
   clear hp
   unfold eQ.val at b f ⊢
   generalize jQ p.1=N at *
   simp[ak, *,iE]
  ·rw[e]at h
   have k:=oK.1 e
   have j:=z6 hp c a (st:=st) (nu:=nu) (by omega) (by omega) (by omega) (by omega)
   refine ax rfl (by kernel_rfl) (ky _ _ _ _ _ λg=>?_)
   clear hp k a
   generalize jQ p.1=N at *
   generalize ij (bB p.1 st nu)=eo at *
   unfold eQ.val at b f j ⊢
   simp[ak, *,iE]
end
section
attribute [local simp] bn aO aE aQ aP cy ld bp aG aU cZ cY aX bo ar bS fC
theorem DO{x:AV}{b:List UInt8}(i:Sl 1 (al b) x):au env 34 [x]=some (if iA b then .tup [(eS b).val,aI 0] else .tup [(⟨0,0,0,0⟩:Hd).val,aI 8]):=by
 have n:=i.r
 by_cases d:b.length=128
 ·have f:(b.length:Int)=128:=by omega
  obtain⟨b0,b1,b2,b3,b4,b5,b6,a,c,t,rfl⟩ : ∃b0 b1 b2 b3 b4 b5 b6 a c t,b=b0 :: b1 :: b2 :: b3 :: b4 :: b5 :: b6 :: a :: c :: t:=by
   match b,d with
   | b0 :: b1 :: b2 :: b3 :: b4 :: b5 :: b6 :: a :: c :: t,_=>exact⟨_,_,_,_,_,_,_,_,_,_,rfl⟩
  obtain⟨E,rfl,h⟩:=kz i (by simp)
  have D:=b0.toNat_lt
  have I:=b1.toNat_lt
  have q:=b2.toNat_lt
  have A:=b3.toNat_lt
  have H:=b4.toNat_lt
  have y:=b5.toNat_lt
  have p:=b6.toNat_lt
  have j:eS (b0 :: b1 :: b2 :: b3 :: b4 :: b5 :: b6 :: a :: c :: t)=⟨16777216 * (b0.toNat:Int)+65536 * b1.toNat+256 * b2.toNat+b3.toNat,65536 * (b4.toNat:Int)+256 * b5.toNat+b6.toNat,a.toNat,c.toNat⟩:=by
   simp[eS,Ab.val,we]
   constructor<;>omega
  have e:iA (b0 :: b1 :: b2 :: b3 :: b4 :: b5 :: b6 :: a :: c :: t)=jK (16777216 * (b0.toNat:Int)+65536 * b1.toNat+256 * b2.toNat+b3.toNat) (65536 * (b4.toNat:Int)+256 * b5.toNat+b6.toNat) a.toNat c.toNat:=by
   unfold iA
   rw[j,d]
   simp
  have o:(t.length:Int)+1+1+1+1+1+1+1+1+1=128:=by simp at d;omega
  have s:=IntWalk.i64_in (16777216 * (b0.toNat:Int)) (by omega)
  have F:=IntWalk.i64_in (65536 * (b1.toNat:Int)) (by omega)
  have v:=IntWalk.i64_in (256 * (b2.toNat:Int)) (by omega)
  have B:=IntWalk.i64_in (16777216 * (b0.toNat:Int)+65536 * b1.toNat) (by omega)
  have w:=IntWalk.i64_in (16777216 * (b0.toNat:Int)+65536 * b1.toNat+256 * b2.toNat) (by omega)
  have C:=IntWalk.i64_in (16777216 * (b0.toNat:Int)+65536 * b1.toNat+256 * b2.toNat+b3.toNat) (by omega)
  have z:=IntWalk.i64_in (65536 * (b4.toNat:Int)) (by omega)
  have u:=IntWalk.i64_in (256 * (b5.toNat:Int)) (by omega)
  have G:=IntWalk.i64_in (65536 * (b4.toNat:Int)+256 * b5.toNat) (by omega)
  have m:=IntWalk.i64_in (65536 * (b4.toNat:Int)+256 * b5.toNat+b6.toNat) (by omega)
  have k:=ya (16777216 * (b0.toNat:Int)+65536 * b1.toNat+256 * b2.toNat+b3.toNat) (65536 * (b4.toNat:Int)+256 * b5.toNat+b6.toNat) a.toNat c.toNat
  rw[e,j]
  unfold Hd.val
  clear e j h i n f d
  cases l:jK (16777216 * (b0.toNat:Int)+65536 * b1.toNat+256 * b2.toNat+b3.toNat) (65536 * (b4.toNat:Int)+256 * b5.toNat+b6.toNat) a.toNat c.toNat
  ·rw[l]at k
   refine ax rfl (by kernel_rfl) (jP _ _ _ λg=>?_)
   simp[ak, *,gV,al]
   done
  ·rw[l]at k
   refine ax rfl (by kernel_rfl) (jP _ _ _ λg=>?_)
   simp[ak, *,gV,al]
   done
 ·have f : ¬(b.length:Int)=128:=by omega
  have e:iA b=false:=by unfold iA;simp[d]
  rw[e]
  unfold Hd.val
  clear e
  refine ax rfl (by kernel_rfl) (jP _ _ _ λg=>?_)
  simp[ak, *,gV]
def LN(b:List UInt8):Bool:=if b.getD 0 0=1 then ej (fx ((b.drop 1).take 6)) else if b.getD 0 0=2 then kp (b.drop 3) else if b.getD 0 0=3 then Zn ((b.drop 1).take 7) else false
def MF(b:List UInt8):AV := .tup [(bf b).val (mj (bf b).op.l),aB (LN b&&b9 (bf b))]
theorem I6(b:List UInt8):nO b = .tup [.agg (wh (IQ b)++[mj (IQ b).l]),aI (if kp b then m0 b else 0),aI (if kp b then 0 else 8)]:=by
 unfold nO IQ lT
 split<;>rfl
theorem zX(l:List UInt8) : ∀a∈words l, -2147483648<=a/\a<=2147483647:=by
 intro a e
 match l,e with
 | a :: b :: c :: d :: t,e=>
  rcases eU.1 e with rfl | e
  ·unfold word
   rw[IntKind.wrap_i32]
   have:=sJ [a,b,c,d]
   simp only[ji,lV]at this
   omega
  ·exact zX t _ e
theorem E8(b:List UInt8):oF (bf b).op.l:=by
 have c:oF ef.l:=λa d=>by cases d
 have e : ∀b,oF (mm b).op.l:=λb=>by rw[(vu b).2.1];exact c
 unfold bf
 split
 ·exact c
 ·split
  ·show oF (IQ (b.drop 3)).l
   unfold IQ
   split
   ·unfold kV
    show oF (if _ then _ else _)
    split
    ·exact zX _
    ·exact λa d=>by cases d
   ·exact c
  ·split
   ·exact e _
   ·exact c
theorem K5{b:List UInt8}{x:AV}(v:Sl 1 (al b) x)(A:8<=b.length)(F:b.length<100000):au env 59 [x]=some (MF b):=by
 have k:=E8 b
 have n:=tM b
 have d:=EX (p:=(bf b,mj (bf b).op.l)) ⟨oW _,by simp only;omega⟩ (by simp only;omega) k
 unfold MF
 match b,A with
 | b0 :: b1 :: b2 :: b3 :: b4 :: b5 :: b6 :: a :: t,_=>
 obtain⟨j,rfl,f⟩:=kz v (by simp)
 rw[fY]at f
 simp only[ji]at f F
 have C:6<=(j.map (· - 1)).getD 6:=by cases j<;>simp at f ⊢ <;> omega
 have D:7<=(j.map (· - 1)).getD 7:=by cases j<;>simp at f ⊢ <;> omega
 have I:(7:Int)<=j.getD (t.length+1+1+1+1+1+1+1+1):=by omega
 have A:(8:Int)<=j.getD (t.length+1+1+1+1+1+1+1+1):=by omega
 have H:(7:Int) <= ↑t.length+1+1+1+1+1+1+1+1/\(7:Int) < ↑t.length+1+1+1+1+1+1+1+1/\(8:Int) <= ↑t.length+1+1+1+1+1+1+1+1/\(1:Int) < ↑t.length+1+1+1+1+1+1+1+1/\(2:Int) < ↑t.length+1+1+1+1+1+1+1+1/\(3:Int) <= ↑t.length+1+1+1+1+1+1+1+1:=by omega
 have N:(0:Int) < ↑t.length+1+1+1+1+1+1+1+1:=by omega
 by_cases k1:b0=1
 ·subst k1
  have e:bf (1 :: b1 :: b2 :: b3 :: b4 :: b5 :: b6 :: a :: t)=⟨1,a.toNat, { ef with h:=zD [b1,b2,b3,b4,b5,b6]},0,0,0,0,false⟩:=rfl
  have i:LN (1 :: b1 :: b2 :: b3 :: b4 :: b5 :: b6 :: a :: t)=ej (fx [b1,b2,b3,b4,b5,b6]):=rfl
  have s:=M5 (x := .bl 1 [a8 b1,a8 b2,a8 b3,a8 b4,a8 b5,a8 b6] (j.map (· - 1))) (l:=[b1,b2,b3,b4,b5,b6]) (by rw[show[a8 b1,a8 b2,a8 b3,a8 b4,a8 b5,a8 b6]=al [b1,b2,b3,b4,b5,b6] from rfl];exact Sl.Qp (by simpa using C)) rfl
  rw[e]at d ⊢
  rw[i]
  unfold zD at d ⊢
  unfold eQ.val ef at d ⊢
  simp only[yb]at d ⊢
  clear e i k n v
  generalize fx [b1,b2,b3,b4,b5,b6]=hh at *
  refine ax rfl (by kernel_rfl) (fb _ _ _ λg=>?_)
  cases q:ej hh
  ·rw[q]at s
   clear d
   simp[ak, *,de,al]
   done
  ·rw[q,if_pos rfl]at d
   simp only[if_true]
   rw[q]at s
   generalize b9 _=R at *
   simp[ak, *,de,al]
   done
 ·by_cases z:b0=2
  ·subst z
   have e:bf (2 :: b1 :: b2 :: b3 :: b4 :: b5 :: b6 :: a :: t)=⟨2,0,IQ (b3 :: b4 :: b5 :: b6 :: a :: t),val [b1,b2],0,0,0,false⟩:=rfl
   have i:LN (2 :: b1 :: b2 :: b3 :: b4 :: b5 :: b6 :: a :: t)=kp (b3 :: b4 :: b5 :: b6 :: a :: t):=rfl
   have w:val [b1,b2]=256 * (b1.toNat:Int)+b2.toNat:=by simp[val,we]
   have M:=b1.toNat_lt
   have O:=b2.toNat_lt
   have G:=IntWalk.i64_in (256 * (b1.toNat:Int)) (by omega)
   have K:=IntWalk.i64_in (256 * (b1.toNat:Int)+b2.toNat) (by omega)
   have u:Sl 1 (al (b3 :: b4 :: b5 :: b6 :: a :: t)) (.bl 1 (a8 b3 :: a8 b4 :: a8 b5 :: a8 b6 :: a8 a :: List.map a8 t) (j.map (· - 3))):=by
    rw[show a8 b3 :: a8 b4 :: a8 b5 :: a8 b6 :: a8 a :: List.map a8 t=al (b3 :: b4 :: b5 :: b6 :: a :: t) from rfl]
    exact Sl.Qp (by cases j<;>simp at f ⊢ <;> omega)
   have m:=PQ u (by simp only[ji];omega)
   rw[I6]at m
   rw[e]at d ⊢
   rw[i,w]
   rw[w]at d
   have L:((t.length:Int)+1+1+1+1+1+1+1+1).toNat - 3=t.length+5:=by omega
   have J:List.take (t.length+5) (a8 b3 :: a8 b4 :: a8 b5 :: a8 b6 :: a8 a :: List.map a8 t)=a8 b3 :: a8 b4 :: a8 b5 :: a8 b6 :: a8 a :: List.map a8 t:=fC (by simp)
   unfold eQ.val at d ⊢
   clear e i k n v w u
   generalize IQ (b3 :: b4 :: b5 :: b6 :: a :: t)=o at *
   simp only[wh]at m
   have E:=(oW o.l).r
   simp only at d ⊢
   generalize mj o.l=ro at *
   generalize (if kp (b3 :: b4 :: b5 :: b6 :: a :: t) then m0 (b3 :: b4 :: b5 :: b6 :: a :: t) else 0)=sz at *
   generalize kp (b3 :: b4 :: b5 :: b6 :: a :: t)=ok at *
   generalize b9 _=R at *
   refine ax rfl (by kernel_rfl) (fb _ _ _ λg=>?_)
   cases ok<;>simp[ak, *,de,al]
   done
  ·by_cases y:b0=3
   ·subst y
    have e:bf (3 :: b1 :: b2 :: b3 :: b4 :: b5 :: b6 :: a :: t) = { mm [b1,b2,b3,b4,b5,b6,a]with kind:=3}:=rfl
    have i:LN (3 :: b1 :: b2 :: b3 :: b4 :: b5 :: b6 :: a :: t)=(decide (b2<=1)&&n9 b1.toNat b3 (u32 (val [b4,b5,b6,a])) (decide (b2=1))):=rfl
    have B:mm [b1,b2,b3,b4,b5,b6,a]=if decide (b2<=1)&&n9 b1.toNat b3 (u32 (val [b4,b5,b6,a])) (decide (b2=1)) then ⟨0,0,ef,0,b1.toNat,b3,u32 (val [b4,b5,b6,a]),decide (b2=1)⟩ else ⟨0,0,ef,0,0,0,0,false⟩:=rfl
    have s:=PR (c:=j.map (· - 1)) (b0:=b1) (b1:=b2) (b2:=b3) (b3:=b4) (b4:=b5) (b5:=b6) (b6:=a) D
    rw[e,B]at d ⊢
    rw[i]
    clear e i B k n v
    generalize u32 (val [b4,b5,b6,a])=V at *
    generalize decide (b2=1)=OB at *
    cases q:decide (b2<=1)&&n9 b1.toNat b3 V OB
    ·rw[q]at s
     unfold eQ.val ef
     clear d
     refine ax rfl (by kernel_rfl) (fb _ _ _ λg=>?_)
     simp[ak, *,de,al,yb]
     done
    ·rw[q]at s d
     simp only[if_true]at d ⊢
     unfold eQ.val ef at d ⊢
     simp only[yb]at d ⊢
     generalize b9 _=R at *
     clear q
     refine ax rfl (by kernel_rfl) (fb _ _ _ λg=>?_)
     simp[ak, *,de,al]
     done
   ·have e:bf (b0 :: b1 :: b2 :: b3 :: b4 :: b5 :: b6 :: a :: t)=⟨b0,0,ef,0,0,0,0,false⟩:=by
     unfold bf
     simp[k1,z,y]
    have i:LN (b0 :: b1 :: b2 :: b3 :: b4 :: b5 :: b6 :: a :: t)=false:=by
     unfold LN
     simp[k1,z,y]
    rw[e,i]
    unfold eQ.val ef
    simp only[yb]
    clear d e i
    refine ax rfl (by kernel_rfl) (fb _ _ _ λg=>?_)
    simp[ak, *,de,al]
end
section
attribute [local simp] bn aO aE aQ aP cy ld bp aG aU cZ cY aX bo ar bS fC
def lZ(l:List (List UInt8)):List UInt8:=if l.all (λb=>decide (b.length=128)) then fy l else []
theorem Kr{B:List (List UInt8)}(h:B.all (λb=>decide (b.length=128))=true):(fy B).length=119 * B.length:=by
 induction B with
 | nil=>rfl
 | cons b B a=>
  simp only[tj,aY,decide_eq_true_eq]at h
  have:=a h.2
  simp only[fy,kZ,gG,lg,ji]at this ⊢
  omega
theorem LS(l:List (List UInt8))(b:List UInt8):fy (l++[b])=fy l++b.drop 9:=by simp[fy]
section
variable{f:AV}{l:List (List UInt8 × AV)}(c:Sl 1 (bV l) f)(d:okB l)(i:l.length<800)
include c d i
theorem KP{Q:AV->ab->Prop}(q:(eB l).all (λb=>decide (b.length=128))=true ->∀h v,nx [23] 1 (al (fy (eB l))) v h->(l.length=0->h=bF)->Q h v)(o:(eB l).all (λb=>decide (b.length=128))=false ->∀v,Q bF v) :
 ∀(s:List (List UInt8 × AV)) (k:Nat) (h:AV) (H:ab),l.drop k=s->k<=l.length->Fr H->(eB (l.take k)).all (λb=>decide (b.length=128))=true->nx [23] 1 (al (fy (eB (l.take k)))) H h->(k=0->h=bF) ->
 dZ env Tryz.f58 0 fW [(4,aI k),(0,f),(3,h)] H Q:=by
 intro s
 induction s with
 | nil=>
  intro k h H J U Z B w C
  obtain rfl:=drop_nil J U
  rw[wz]at B w
  have K:=q B h H w C
  have E:(bV l).length=l.length:=by simp[bV]
  clear q o w d
  refine jd _ _ _ _ _ λg=>?_
  simp[ak, *,eE,c.r]
  done
 | cons p s P=>
  intro k h H J U Z B w C
  obtain⟨G,M,F,z⟩:=drop_cons J
  have hp:Sl 1 (al p.1) p.2:=d p (by rw[<-M];exact gD G)
  have R:cG (bV l) k 0 1 false=some p.2:=by simp[bV,z,cG,hp.r]
  have E:(bV l).length=l.length:=by simp[bV]
  have S:(k:Int)<l.length:=by omega
  have e1:=IntWalk.i64_in ((k:Int)+1) (by omega)
  have D:l.take (k+1)=l.take k++[p]:=by rw[y9,z];rfl
  have u:eB (l.take (k+1))=eB (l.take k)++[p.1]:=by rw[D];simp[eB]
  have y:p.1∈eB l:=by simp only[eB,kf];exact⟨p,by rw[<-M];exact gD G,rfl⟩
  have L:=hp.r
  by_cases j:p.1.length=128
  ·obtain⟨cp,I,Y⟩:=kz hp (by simp;omega)
   have m:=λh v=>P (k+1) h v F (by omega)
   have x:(eB (l.take (k+1))).all (λb=>decide (b.length=128))=true:=by rw[u];simp only[List.all_append,B,tj,yY,j,decide_true,hU]
   have T:al (fy (eB (l.take (k+1))))=al (fy (eB (l.take k)))++(al p.1).drop 9:=by rw[u,LS];simp[al]
   have n:((al p.1).drop 9).length=119:=by simp[j]
   have V:(al p.1).drop 9≠[]:=by intro e;rw[e]at n;simp at n
   have X:(al (fy (eB (l.take k)))).length<=100000:=by
    have h1:=Kr B
    rw[show(eB (l.take k)).length=k from by simp[eB];omega]at h1
    rw[fY];omega
   have A:(p.1.length:Int)=128:=by omega
   have W:(al p.1).length=p.1.length:=fY _
   rw[show((k+1:Nat):Int)=(k:Int)+1 from by omega,T]at m
   replace m:=λh v a b=>m h v a x b (λe=>by omega)
   clear C
   rw[I]at R L
   have N:List.take 119 (List.drop 9 (al p.1))=List.drop 9 (al p.1):=fC (by omega)
   clear q o P d B u D x T M z J F I y hp
   generalize al (fy (eB (l.take k)))=eo at *
   generalize al p.1=ep at *
   refine jd _ _ _ _ _ λg=>?_
   rcases w with ⟨rfl,rfl⟩ | ⟨t,gg,ht,rfl,w⟩
   ·simp[ak, *,eE,c.r,c.idx]
    exact m _ _ (by simp(maxDischargeDepth:=12) [R9, *]) (.inr ⟨23,H.gen 0 23,by simp,by simp[n],by simp⟩)
   ·obtain rfl:t=23:=by simpa using ht
    have O:eo.length+119<=140737488355328:=by omega
    have Zs:(H.get ⟨0,23,gg,0⟩).isSome=true:=by rw[w];rfl
    simp[ak, *,eE,c.r,c.idx]
    exact m _ _ (by simp(maxDischargeDepth:=12) [ov, *]) (.inr ⟨23,H.gen 0 23,by simp,by rw[gG,n],by simp⟩)
  ·have K:=o (by rw[List.all_eq_false];exact⟨p.1,y,by simpa using j⟩) H
   have A : ¬(p.1.length:Int)=128:=by omega
   clear q o P d w B u D
   refine jd _ _ _ _ _ λg=>?_
   simp[ak, *,eE,c.r,c.idx]
   done
theorem K4:au env 58 [f]=some (iT 1 (al (lZ (eB l)))):=by
 obtain⟨y,q⟩ : ∃y,y=iT 1 (al (lZ (eB l))):=⟨_,rfl⟩
 have n:=λQ o w=>KP c d i (Q:=Q) o w l 0 bF [] rfl (by omega) Fr.nil (by simp[eB]) (.inl ⟨rfl,by simp[eB,fy]⟩) (λ_=>rfl)
 have k:(eB l).all (λb=>decide (b.length=128))=true->l.length≠0->al (fy (eB l))≠[]:=by
  intro a j e
  cases l with
  | nil=>exact j rfl
  | cons p t=>
   have o:p.1.length=128:=by simp[eB]at a;exact a.1
   have:=congrArg List.length e
   simp[eB,fy,o]at this
 replace n:=n (λv m=>kE env 58 v m y) (λa z m h s=>by
  rw[q]
  have e:lZ (eB l)=fy (eB l):=if_pos a
  rw[e]
  rcases h with ⟨rfl,h⟩ | ⟨t,x,u,rfl,h⟩
  ·rw[h]
   simp[iT]
  ·obtain rfl:t=23:=by simpa using u
   have j:=k a (λe=>by have:=s e;cases this)
   rw[rC 1 j]
   generalize al (fy (eB l))=eo at *
   simp[h]) (λa m=>by
  rw[q]
  have e:lZ (eB l)=[]:=if_neg (by rw[a];decide)
  rw[e]
  simp[iT])
 rw[<-q]
 refine ax rfl (by kernel_rfl) (sw _ _ _ λg=>?_)
 unfold nk
 exact n
end
end
section
attribute [local simp] bn aO aE aQ aP cy ld bp aG aU cZ cY aX bo ar bS fC
section
variable{x y:AV}{l m:List (List UInt8 × AV)}(c:Sl 1 (bV l) x)(d:Sl 1 (bV m) y)(f:okB l)(i:okB m)(a:l.length<1000000)
include c d f i a
theorem Io(O:l.length=m.length){Q:AV->ab->Prop}{H:ab} : ∀(s t:List (List UInt8 × AV)) (k:Nat),l.drop k=s->m.drop k=t->k<=l.length->Q (aB (decide (eB s=eB t))) H ->
 dZ env Tryz.f60 0 eb [(5,aI k),(1,y),(0,x)] H Q:=by
 have L:(bV l).length=l.length:=by simp[bV]
 have F:(bV m).length=m.length:=by simp[bV]
 intro s
 induction s with
 | nil=>
  intro t k D A M z
  obtain rfl:=drop_nil D M
  have:t=[]:=by rw[<-A];exact Bj (by omega)
  subst this
  rw[decide_eq_true rfl]at z
  clear f i
  refine fS _ _ _ _ _ λg=>?_
  simp[ak, *,ed,c.r,d.r]
 | cons p s K=>
  intro t k D A M z
  obtain⟨I,G,u,v⟩:=drop_cons D
  cases t with
  | nil=>
   have:=congrArg List.length A
   simp at this
   omega
  | cons q t=>
   obtain⟨E,J,w,o⟩:=drop_cons A
   have e:Sl 1 (al p.1) p.2:=f p (by rw[<-G];exact gD I)
   have n:Sl 1 (al q.1) q.2:=i q (by rw[<-J];exact gD E)
   have S:cG (bV l) k 0 1 false=some p.2:=by simp[bV,v,cG,e.r]
   have r2:cG (bV m) k 0 1 false=some q.2:=by simp[bV,o,cG,n.r]
   have V:=IntWalk.i64_in ((k:Int)+1) (by omega)
   have U:=λ(g:cf)(r:Ref)=>Sl.conv (P:=env.P) (src:=27) (dst:=9) e (by kernel_rfl) (by kernel_rfl) g r
   have T:=λ(g:cf)(r:Ref)=>Sl.conv (P:=env.P) (src:=27) (dst:=9) n (by kernel_rfl) (by kernel_rfl) g r
   have N:(k:Int)<l.length:=by omega
   have R:(k:Int)<m.length:=by omega
   have j:=K t (k+1) u w (by omega)
   rw[show((k+1:Nat):Int)=(k:Int)+1 from by omega]at j
   have b:(eB (p :: s)=eB (q :: t))↔(p.1=q.1/\eB s=eB t):=by simp[eB]
   by_cases C:p.1=q.1
   ·have B:decide (eB (p :: s)=eB (q :: t))=decide (eB s=eB t):=decide_eq_decide.2 (by rw[b];exact⟨λh=>h.2,λh=>⟨C,h⟩⟩)
    rw[B]at z
    replace j:=j z
    clear K f i B b D u A w G v J o e n z
    refine fS _ _ _ _ _ λg=>?_
    simp[ak, *,ed,c.r,d.r,c.idx,d.idx]
    done
   ·have B:decide (eB (p :: s)=eB (q :: t))=false:=decide_eq_false (by rw[b];exact λh=>C h.1)
    rw[B]at z
    clear K f i B b D u A w G v J o e n j
    refine fS _ _ _ _ _ λg=>?_
    simp[ak, *,ed,c.r,d.r,c.idx,d.idx]
    done
theorem DN:au env 60 [x,y]=some (aB (decide (eB l=eB m))):=by
 have o:(bV l).length=l.length:=by simp[bV]
 have k:(bV m).length=m.length:=by simp[bV]
 by_cases e:l.length=m.length
 ·have j:=λQ p=>Io c d f i a e (Q:=Q) (H:=[]) l m 0 rfl rfl (by omega) p
  have b:(l.length:Int)=m.length:=by omega
  refine ax rfl (by kernel_rfl) (kg _ _ _ _ λg=>?_)
  replace j:=j (λv q=>kE env 60 v q (aB (decide (eB l=eB m)))) (by simp)
  clear f i
  simp[ak, *,gO,c.r,d.r]
  simpa using j
 ·have n:decide (eB l=eB m)=false:=decide_eq_false (λh=>e (by have:=congrArg List.length h;simpa [eB] using this))
  have b : ¬(l.length:Int)=m.length:=by omega
  rw[n]
  clear f i n
  refine ax rfl (by kernel_rfl) (kg _ _ _ _ λg=>?_)
  simp[ak, *,gO,c.r,d.r]
theorem BX:au env 28 [x,y]=some (aB (decide (eB l=eB m))):=by
 have h:=DN c d f i a
 have b:=c.r
 have e:=d.r
 refine ax rfl (by kernel_rfl) (pf _ _ _ _ λg=>?_)
 clear f i
 simp[ak, *,ku]
end
def yD(l:List (List UInt8)):Bool := !(lZ l).isEmpty&&(iA (l.headD [])&&((LN (lZ l)&&b9 (bf (lZ l)))&&decide (bB (bf (lZ l)) (eS (l.headD [])).st (eS (l.headD [])).nu=l)))
def LO(l:List (List UInt8)):AV:=if yD l then .tup [(bf (lZ l)).val (mj (bf (lZ l)).op.l),(eS (l.headD [])).val,aI 0] else uN
theorem TD{r:eQ}(h:b9 r=true)(z:List UInt8):LN (jL r++z)=true:=by
 unfold b9 at h
 unfold jL LN
 split at h
 ·rename_i k1
  simp only[aY,decide_eq_true_eq]at h
  obtain⟨⟨e,q⟩,j,k⟩:=h
  rw[if_pos k1,Er]
  have b:(r.kind :: (bJ r.op.h++[u8 r.user]++z)).getD 0 0=1:=k1
  have n:((r.kind :: (bJ r.op.h++[u8 r.user]++z)).drop 1).take 6=bJ r.op.h:=by
   rw[List.drop_one,List.tail_cons,pS]
   exact uj (xw _)
  rw[if_pos b,n,tX,j]
 ·rename_i k1
  split at h
  ·rename_i g
   simp only[aY,decide_eq_true_eq,gE]at h
   obtain⟨⟨⟨D,e⟩,q⟩,j,k⟩:=h
   rw[if_neg k1,if_pos g,Er]
   have b:(r.kind :: ([u8 (r.code / 256),u8 r.code]++dL r.op++z)).getD 0 0=2:=g
   have p:(r.kind :: ([u8 (r.code / 256),u8 r.code]++dL r.op++z)).drop 3=dL r.op++z:=by simp
   rw[if_neg (by rw[b];decide),if_pos b,p,(Lg j z).2.2]
  ·rename_i g
   split at h
   ·rename_i s
    simp only[aY]at h
    obtain⟨e,k⟩:=h
    rw[if_neg k1,if_neg g,Er]
    have b:(r.kind :: (iC r.gu r.gv r.gc r.gok++z)).getD 0 0=3:=s
    have v:((r.kind :: (iC r.gu r.gv r.gc r.gok++z)).drop 1).take 7=iC r.gu r.gv r.gc r.gok:=by
     rw[List.drop_one,List.tail_cons]
     exact uj (by simp[iC])
    rw[if_neg (by rw[b];decide),if_neg (by rw[b];decide),if_pos b,v]
    have C:(0<=r.gu/\r.gu<8):=by simp only[n9,aY,decide_eq_true_eq]at e;exact e.1
    have w:((iC r.gu r.gv r.gc r.gok).getD 0 0).toNat=r.gu:=by
     show((u8 r.gu).toNat:Int)=r.gu
     rw[xh];omega
    have A:(iC r.gu r.gv r.gc r.gok).getD 1 0=if r.gok then 1 else 0:=rfl
    have t:(iC r.gu r.gv r.gc r.gok).getD 2 0=r.gv:=rfl
    have o:u32 (val (((iC r.gu r.gv r.gc r.gok).drop 3).take 4))=r.gc:=by
     rw[show((iC r.gu r.gv r.gc r.gok).drop 3).take 4=be 4 r.gc.toNat from fC (by simp[iC])]
     exact xi r.gc
    have B:decide ((if r.gok then (1:UInt8) else 0)=1)=r.gok:=by cases r.gok<;>rfl
    have u:decide ((if r.gok then (1:UInt8) else 0)<=1)=true:=by cases r.gok<;>rfl
    unfold Zn
    rw[w,A,t,o,B,u,e,hU]
   ·cases h
theorem TE(l:List (List UInt8)):yD l=(iA (l.headD [])&&pW l (eS (l.headD [])) (fy l))/\(yD l=true->lZ l=fy l):=by
 by_cases k:l.all (λb=>decide (b.length=128))=true
 ·have o:lZ l=fy l:=if_pos k
  refine⟨?_,λ_=>o⟩
  unfold yD pW
  rw[o]
  cases l with
  | nil=>rfl
  | cons b0 t=>
   have C:b0.length=128:=by simp at k;exact k.1
   have u:fy (b0 :: t)≠[]:=by
    intro e
    have:=congrArg List.length e
    simp[fy,C]at this
   have D:decide (8<=(fy (b0 :: t)).length)=true:=by simp[fy,C];omega
   rw[D,hU]
   have q:(fy (b0 :: t)).isEmpty=false:=by simpa using u
   rw[q,xK,hU]
   show(iA b0&&_)=(iA b0&&_)
   cases v:iA b0 with
   | false=>rfl
   | true=>
    rw[hU,hU]
    show((LN _&&b9 _)&&decide (bB _ (eS b0).st (eS b0).nu=_))=(b9 _&&jK (eS b0).st (eS b0).nu 0 _&&decide (bB _ (eS b0).st (eS b0).nu=_))
    generalize G:bf (fy (b0 :: t))=r at *
    cases g:b9 r with
    | false=>simp
    | true=>
     by_cases n:bB r (eS b0).st (eS b0).nu=b0 :: t
     ·have s : ∃z,fy (b0 :: t)=jL r++List.replicate z 0:=by
       rw[<-n]
       exact Hm _ _ _ 3 (jL r) 0 (by have:=(tJ g).1;omega)
      obtain⟨z,s⟩:=s
      have j:LN (fy (b0 :: t))=true:=by rw[s];exact TD g _
      have w:jK (eS b0).st (eS b0).nu 0 (jQ r)=true:=by
       have E:jK (eS b0).st (eS b0).nu (eS b0).ix (eS b0).of=true:=by
        unfold iA at v
        simp only[aY]at v
        exact v.2
       have p:=oK.1 E
       have F:=E1 g
       exact oK.2 ⟨p.1,p.2.1,p.2.2.1,p.2.2.2.1,by omega,by omega,by omega,by omega⟩
      rw[j,w]
     ·simp[n]
 ·have o:lZ l=[]:=if_neg k
  have B:yD l=false:=by unfold yD;rw[o];rfl
  refine⟨?_,λh=>by rw[B]at h;cases h⟩
  rw[B]
  cases j:(iA (l.headD [])&&pW l (eS (l.headD [])) (fy l)) with
  | false=>rfl
  | true=>
   exfalso
   unfold pW at j
   simp only[aY,decide_eq_true_eq]at j
   obtain⟨_,_,⟨g,w⟩,n⟩:=j
   refine k ?_
   rw[<-n]
   rw[da]
   exact λb A=>decide_eq_true (LX g w b A)
theorem QR(l:List (List UInt8)):LO l=D8 l:=by
 obtain⟨b,e⟩:=TE l
 unfold LO D8 I5
 rw[<-b]
 cases g:yD l with
 | false=>simp
 | true=>
  rw[e g]
  simp
end
section
attribute [local simp] bn aO aE aQ aP cy ld bp aG aU cZ cY aX bo ar bS fC
theorem N6{E:Env}{f:FuncId}{fn:Func}{c:Code}{args:List AV}{R:AV->Prop}(j:E.spec f args=none)(g:E.allowed f=true)(u:E.P.funcs[f]?=some fn)(s:fn.body=some c)(d:Nat.ble args.length fn.ntmps=true)
 (h:dZ E fn 0 [.code c] (An 0 args) [] λx H =>∃y,kE E f x H y/\R y) : ∃y,au E f args=some y/\R y:=by
 obtain⟨x,H,⟨y,b,t⟩,n,k⟩:=h.h (λ_=>AV.undef) args λi=>(Cs args i).symm
 refine⟨y,rH.2 ⟨n,λm v=>?_⟩,t⟩
 obtain⟨st,e,o,p⟩:=k m v
 subst p
 unfold ck
 rw[j]
 unfold qO
 simp only[g,if_true,u,s,if_pos (Bh d),e,o,Option.map_some]
 unfold kE at b
 split
 ·rename_i e
  rw[if_pos e]at b
  rw[if_pos b.1]
  exact b.2
 ·rename_i e
  rw[if_neg e]at b
  exact b
theorem K7{p:eQ × AV}(hp:rW p)(d:p.1.op.l.length<100000):au env 20 [p.1.val p.2]=some (p.1.val (iT 1 (rows p.1.op.l))):=by
 obtain⟨⟨k,u,⟨t,⟨s,a_3,C⟩,A,⟨⟨⟨z,B,D⟩,n⟩,j⟩,⟨⟨i,e,m⟩,f⟩,⟨h,b⟩,l⟩,c,g,v,w,o⟩,x⟩:=p
 have G:=MZ t s a_3 C A z B D n j i e m f h b hp.1 d
 have F:=hp.1.r
 have E:=(qh 1 (rows l)).r
 unfold eQ.val
 simp only at G F E ⊢
 clear hp
 generalize iT 1 (rows l)=y at *
 refine ax rfl (by kernel_rfl) (sy _ _ _ λg=>?_)
 simp[ak, *,np]
 done
section
variable{q:AV}{l:List (List UInt8 × AV)}(a:Sl 1 (bV l) q)(d:okB l)
include a d
theorem Gl{Q:AV->ab->Prop}{H:ab}(c : ∀t:Bool,(t=false->l.length<=40)->Q (aB t) H) : ∀(j k:Nat)(n:Int),k+j=50->k<=l.length->0<=n->n<=10000 * k ->
 dZ env Tryz.f19 0 fH [(4,aI k),(0,q),(3,aI n)] H Q:=by
 have o:(bV l).length=l.length:=by simp[bV]
 intro j
 induction j with
 | zero=>
  intro k n w e z u
  obtain rfl:k=50:=by omega
  refine lj _ _ _ _ _ λg=>?_
  simp[ak, *,fK,a.r]
  repeat' ((first | apply td<;>intro h | apply oN<;>intro h | apply oO<;>intro h | apply oL<;>intro h | apply oM<;>intro h)<;>(try simp only[decide_eq_true_eq,decide_eq_false_iff_not,gE,rn,aY,jh]at h)<;>(try simp[ak, *,a.r]))
  all_goals first | exact c true (λh=>by cases h) | exact c _ (λ_=>by omega)
 | succ j x=>
  intro k n w e z u
  have A:=IntWalk.i64_in ((k:Int)+1) (by omega)
  have B:(k:Int)<50:=by omega
  refine lj _ _ _ _ _ λg=>?_
  by_cases i:k<l.length
  ·have hp:=d l[k] (gD _)
   have f:=hp.r
   have y:cG (bV l) k 0 1 false=some l[k].2:=by simp[bV,i,cG,f]
   have b:(k:Int)<l.length:=by omega
   simp[ak, *,fK,a.r,a.idx]
   obtain⟨m,hm⟩ : ∃m:Int,m=if 10000<(l[k].1.length:Int) then 10000 else (l[k].1.length:Int):=⟨_,rfl⟩
   have s:0<=m/\m<=10000:=by rw[hm];split<;>omega
   have v:=IntWalk.i64_in (n+m) (by omega)
   rw[<-hm,v]
   have p:=x (k+1) (n+m) (by omega) (by omega) (by omega) (by omega)
   rw[show((k+1:Nat):Int)=(k:Int)+1 from by omega]at p
   exact p
  ·have b : ¬(k:Int)<l.length:=by omega
   simp[ak, *,fK,a.r,a.idx]
   repeat' ((first | apply td<;>intro h | apply oN<;>intro h | apply oO<;>intro h | apply oL<;>intro h | apply oM<;>intro h)<;>(try simp only[decide_eq_true_eq,decide_eq_false_iff_not,gE,rn,aY,jh]at h)<;>(try simp[ak, *,a.r]))
   all_goals first | exact c true (λh=>by cases h) | exact c _ (λ_=>by omega)
theorem Ir : ∃t:Bool,au env 19 [q]=some (aB t)/\(t=false->l.length<=40):=by
 have h : ∃y,au env 19 [q]=some y /\∃t:Bool,y=aB t/\(t=false->l.length<=40):=by
  refine N6 (fn:=Tryz.f19) (c:=r8) (by kernel_rfl) (by kernel_rfl) (by kernel_rfl) (by kernel_rfl) (by kernel_rfl) ?_
  refine rM _ _ _ λg=>?_
  unfold mJ
  exact Gl a d (λt b=>⟨aB t,by simp,t,rfl,b⟩) 50 0 0 (by omega) (by omega) (by omega) (by omega)
 obtain⟨y,e,t,rfl,f⟩:=h
 exact⟨t,e,f⟩
theorem Nb(Q:l.length<800):au env 24 [q]=some (D8 (eB l)):=by
 rw[<-QR]
 have H:=K4 a d Q
 have K:(bV l).length=l.length:=by simp[bV]
 have u:(lZ (eB l)).length<100000:=by
  unfold lZ
  split
  ·rename_i y
   have J:=Kr y
   rw[show(eB l).length=l.length from by simp[eB]]at J
   omega
  ·simp
 have k:lZ (eB l)≠[]->l≠[]/\(eB l).all (λb=>decide (b.length=128))=true:=by
  intro h
  have y:(eB l).all (λb=>decide (b.length=128))=true:=by
   cases y:(eB l).all (λb=>decide (b.length=128)) with
   | true=>rfl
   | false=>exact absurd (if_neg (by rw[y];decide)) h
  exact⟨λe=>h (by rw[e];rfl),y⟩
 have B:=qh 1 (al (lZ (eB l)))
 have v:=B.r
 by_cases n:lZ (eB l)=[]
 ·have A:LO (eB l)=uN:=by
   unfold LO yD
   rw[n]
   rfl
  rw[A]
  rw[n]at H
  have U:iT 1 (al [])=bF:=rfl
  rw[U]at H
  unfold uN eQ.val Hd.val pP ef
  clear k B v n d A
  refine ax rfl (by kernel_rfl) (iw _ _ _ λg=>?_)
  simp[ak, *,fL,a.r]
  done
 ·obtain⟨J,p⟩:=k n
  obtain⟨c,t,rfl⟩:=List.exists_cons_of_ne_nil J
  have o:=d c (by simp)
  have i:119<=(lZ (eB (c :: t))).length:=by
   have W:c.1.length=128:=by simp[eB]at p;exact p.1
   have:lZ (eB (c :: t))=fy (eB (c :: t)):=if_pos p
   rw[this]
   simp[eB,fy,W]
  have L:=DO o
  have m:=K5 B (by omega) u
  have V:cG (bV (c :: t)) 0 0 1 false=some c.2:=by simp[bV,cG,o.r]
  have X:(0:Int)<(c :: t).length:=by simp
  obtain⟨b,j⟩ : ∃b,b=lZ (eB (c :: t)):=⟨_,rfl⟩
  have f:LO (eB (c :: t))=if iA c.1&&((LN b&&b9 (bf b))&&decide (bB (bf b) (eS c.1).st (eS c.1).nu=eB (c :: t))) then .tup [(bf b).val (mj (bf b).op.l),(eS c.1).val,aI 0] else uN:=by
   rw[j]
   unfold LO yD
   have:(lZ (eB (c :: t))).isEmpty=false:=by simpa using n
   rw[this]
   rfl
  rw[f]
  rw[<-j]at H B v m i u
  have P:al b≠[]:=by intro e;have:=congrArg List.length e;simp at this;rw[this]at i;simp at i
  have N:(al b).length=b.length:=by simp
  have T : ¬b=[]:=by rintro rfl;simp at i
  have O:=tM b
  have hp:rW (bf b,mj (bf b).op.l):=⟨oW _,by simp only;omega⟩
  have S:=hp.1.r
  have R:(c.1=c.1):=rfl
  unfold MF at m
  have M:=o.r
  cases z:iA c.1 with
  | false=>
   rw[z,if_neg (by decide)]at L
   unfold uN eQ.val Hd.val pP ef at *
   clear f j n k d hp p
   simp only at *
   generalize iT 1 (al b)=ob at *
   generalize mj (bf b).op.l=ro at *
   generalize bf b=r at *
   refine ax rfl (by kernel_rfl) (iw _ _ _ λg=>?_)
   simp[ak, *,fL,a.r,a.idx]
   done
  | true=>
   rw[z,if_pos rfl]at L
   cases s:LN b&&b9 (bf b) with
   | false=>
    rw[s]at m
    unfold uN eQ.val Hd.val pP ef at *
    clear f j n k d hp p s
    simp only at *
    generalize iT 1 (al b)=ob at *
    generalize mj (bf b).op.l=ro at *
    generalize bf b=r at *
    generalize eS c.1=A at *
    refine ax rfl (by kernel_rfl) (iw _ _ _ λg=>?_)
    simp[ak, *,fL,a.r,a.idx]
    done
   | true=>
    rw[s]at m
    have C:b9 (bf b)=true:=by cases h:b9 (bf b)with | true=>rfl | false=>rw[h]at s;simp at s
    have I:=oK.1 (show jK (eS c.1).st (eS c.1).nu (eS c.1).ix (eS c.1).of=true by unfold iA at z;simp only[aY]at z;exact z.2)
    have E:=z6 hp (by simp only;omega) C (st:=(eS c.1).st) (nu:=(eS c.1).nu) (by omega) (by omega) (by omega) (by omega)
    simp only at E
    have w:=rK C (eS c.1).st (eS c.1).nu
    have G:=E1 C
    have F:=DN (x := .bl 1 (ij (bB (bf b) (eS c.1).st (eS c.1).nu)) none) (l:=(bB (bf b) (eS c.1).st (eS c.1).nu).map λb=>(b,Dr b)) (by rw[FA];exact Sl.mk _ _) a (Fz _) d (by rw[xM,w];omega)
    rw[Hp]at F
    generalize decide (bB (bf b) (eS c.1).st (eS c.1).nu=eB (c :: t))=D at *
    unfold uN eQ.val Hd.val pP ef at *
    clear f j n k d hp p s C I w G
    simp only at *
    generalize iT 1 (al b)=ob at *
    generalize ij (bB (bf b) (eS c.1).st (eS c.1).nu)=bv at *
    generalize mj (bf b).op.l=ro at *
    generalize bf b=r at *
    generalize eS c.1=A at *
    refine ax rfl (by kernel_rfl) (iw _ _ _ λg=>?_)
    cases D<;>simp[ak, *,fL,a.r,a.idx]
    done
end
end
end Go.Proofs.YtehkjjcdkbcebaaGreat
namespace Go.Proofs.YtehkjjcdkbcebaaGreat
open Go.Ab Go.ChangeShapes Go.WideShapes Go.RowKit
theorem Np:KB env.P 56 (λ_=>True) (λp:UInt8 × UInt32 × Bool=>[a8 p.1,bc p.2.1,aB p.2.2]):=by
 intro n d h
 have h:=m8 (P:=env.P) G4 h
 obtain⟨m,x,r,rfl,c,y,r',rfl,a,rfl⟩:=h
 obtain⟨q,_,rfl⟩:=EZ _ _ c
 obtain⟨b,_,rfl⟩:=Nn (P:=env.P) (t:=4) (by simp) _ _ a
 exact⟨(q.1,q.2,b),trivial,rfl⟩
theorem JQ{n:Nat}{x:AV}(h:L4 env.P n 60 x) : ∃p:eQ × AV,Sl 1 (rows p.1.op.l) p.2/\oF p.1.op.l/\x=p.1.val p.2:=by
 obtain⟨y,rfl,j⟩:=h.agg (by simp)
 have h:=m8 (P:=env.P) G2 j
 obtain⟨m,D,H,rfl,A,E,r2,rfl,e,G,r3,rfl,f,I,r4,rfl,s,x5,r5,rfl,q,rfl⟩:=h
 obtain⟨k,_,rfl⟩:=Gn (P:=env.P) (t:=5) (by simp) _ _ A
 obtain⟨u,_,rfl⟩:=tI (P:=env.P) (t:=3) (by simp) _ _ e
 obtain⟨⟨⟨b,o,i,d,v,w,B⟩,rx⟩,a,rfl⟩:=No _ _ f
 obtain⟨c,_,rfl⟩:=tI (P:=env.P) (t:=22) (by simp) _ _ s
 have C:=m8 (P:=env.P) G3 q
 obtain⟨m,F,s1,rfl,i1,J,s2,rfl,i2,rfl⟩:=C
 obtain⟨g,_,rfl⟩:=tI (P:=env.P) (t:=3) (by simp) _ _ i1
 obtain⟨z,_,rfl⟩:=Np _ _ i2
 exact⟨(⟨k,u,⟨b,o,i,d,v,w,B⟩,c,g,z.1,z.2.1,z.2.2⟩,rx),a.1,a.2,rfl⟩
theorem Nm:KB env.P 27 (λp:List UInt8 × AV=>Sl 1 (al p.1) p.2) (λp=>[p.2]):=by
 intro n b h
 obtain⟨l,z,rfl,a⟩:=MS (P:=env.P) (t:=27) (e:=5) (by simp) (by simp) (by simp) (by simp) h
 exact⟨(l,z),a,rfl⟩
theorem Sp{n:Nat}{x:AV}(h:L4 env.P n 61 x) : ∃l:List (List UInt8 × AV),Sl 1 (bV l) x/\okB l:=by
 obtain⟨l,z,b,e,a⟩:=BR (P:=env.P) MG MB Pz Nm (h.cell (by simp))
 cases e
 exact⟨l,a,λp hp=>b p hp⟩
theorem MM{N:Nat}{l:List (List UInt8 × AV)}{x:AV}(b:Sl 1 (bV l) x)(a:okB l)(h:pM N x) : ∀p∈l,p.1.length<=N:=by
 intro p hp
 have c:=(h.sl b).2 p.2 (EA hp)
 simpa using (c.sl (a p hp)).1
theorem DH{N:Nat}{p:eQ × AV}(a:Sl 1 (rows p.1.op.l) p.2)(h:pM N (p.1.val p.2)):p.1.op.l.length<=N:=by
 unfold eQ.val at h
 have b:=h.parts p.2 (by simp)
 simpa [rows] using (b.sl a).1
end Go.Proofs.YtehkjjcdkbcebaaGreat
namespace Go.Proofs.YtehkjjcdkbcebaaGreat
open Go.Ab
section
attribute [local simp] bn aO aE aQ aP oq q9 cy ld bp aG aU cZ cY aX bo ar bS fC
theorem Qv{b:List UInt8}{x:AV}(y:Sl 1 (al b) x)(z:8<=b.length)(D:b.length<50000000):au a9 55 [x]=some ((bf b).val (pF 1 (rows (bf b).op.l))):=by
 refine rG (fn:=Tryz.f55) (c:=rL) rfl (by kernel_rfl) (by kernel_rfl) (by kernel_rfl) (by kernel_rfl) ?_;refine xW _ _ _ λg=>?_
 match b,z with
 | b0 :: b1 :: b2 :: b3 :: b4 :: b5 :: b6 :: a :: t,_=>
 obtain⟨d,rfl,f⟩:=kz y (by simp)
 rw[fY]at f
 simp only[ji]at f D
 have j:t.length+7<=(d.map (· - 1)).getD (t.length+7):=by cases d<;>simp at f ⊢ <;> omega
 have P:(6:Int)<=(d.map (· - 1)).getD (t.length+7):=by omega
 have A:(6:Int)<=((t.length+7:Nat):Int):=by omega
 have J:(7:Int)<=(d.map (· - 1)).getD (t.length+7):=by omega
 have F:(2:Int)<=(d.map (· - 1)).getD (t.length+7):=by omega
 have O:(0:Int) < ↑t.length+1+1+1+1+1+1+1+1:=by omega
 have H:(1:Int) <= ↑t.length+1+1+1+1+1+1+1+1:=by omega
 have M:((t.length:Int)+1+1+1+1+1+1+1+1).toNat - 1=t.length+7:=by omega
 have G:List.take (t.length+7) (a8 b1 :: a8 b2 :: a8 b3 :: a8 b4 :: a8 b5 :: a8 b6 :: a8 a :: List.map a8 t)=a8 b1 :: a8 b2 :: a8 b3 :: a8 b4 :: a8 b5 :: a8 b6 :: a8 a :: List.map a8 t:=fC (by simp)
 have Q:Option.map ((λx:Nat=>x) ∘ λx=>x - 1) d=Option.map (λx=>x - 1) d:=rfl
 have u:6<=(d.map (· - 1)).getD 6:=by cases d<;>simp at f ⊢ <;> omega
 have B:7<=(d.map (· - 1)).getD 7:=by cases d<;>simp at f ⊢ <;> omega
 have w:2<=(d.map (· - 1)).getD 2:=by cases d<;>simp at f ⊢ <;> omega
 have I:(2:Int) <= ↑t.length+1+1+1+1+1+1+1:=by omega
 have N:((t.length:Int)+1+1+1+1+1+1+1).toNat - 2=t.length+5:=by omega
 have K:List.take (t.length+5) (a8 b3 :: a8 b4 :: a8 b5 :: a8 b6 :: a8 a :: List.map a8 t)=a8 b3 :: a8 b4 :: a8 b5 :: a8 b6 :: a8 a :: List.map a8 t:=fC (by simp)
 clear j
 by_cases k1:b0=1
 ·subst k1
  have e:bf (1 :: b1 :: b2 :: b3 :: b4 :: b5 :: b6 :: a :: t)=⟨1,a.toNat, { ef with h:=zD [b1,b2,b3,b4,b5,b6]},0,0,0,0,false⟩:=rfl
  rw[e]
  have n:=kO (by rfl) <| I8 (v := .bl 1 [a8 b1,a8 b2,a8 b3,a8 b4,a8 b5,a8 b6] (d.map (· - 1))) (l:=[b1,b2,b3,b4,b5,b6]) (by rw[show[a8 b1,a8 b2,a8 b3,a8 b4,a8 b5,a8 b6]=al [b1,b2,b3,b4,b5,b6] from rfl];exact Sl.Qp (by simpa using u)) rfl
  unfold eQ.val ef
  simp only[show pF 1 (rows [])=bF from rfl]
  generalize zD [b1,b2,b3,b4,b5,b6]=hh at *
  simp[ak, *,jv,al]
  omega
 ·by_cases s:b0=2
  ·subst s
   have e:bf (2 :: b1 :: b2 :: b3 :: b4 :: b5 :: b6 :: a :: t)=⟨2,0,IQ (b3 :: b4 :: b5 :: b6 :: a :: t),val [b1,b2],0,0,0,false⟩:=rfl
   rw[e]
   have E:=kO (by rfl) <| EW (l:=[b1,b2]) (x := .bl 1 [a8 b1,a8 b2] (d.map (· - 1))) (by rw[show[a8 b1,a8 b2]=al [b1,b2] from rfl];exact Sl.Qp (by simpa using w)) (by simp)
   have k:Sl 1 (al (b3 :: b4 :: b5 :: b6 :: a :: t)) (.bl 1 (a8 b3 :: a8 b4 :: a8 b5 :: a8 b6 :: a8 a :: List.map a8 t) (Option.map ((λx=>x - 2) ∘ λx=>x - 1) d)):=by
    rw[show a8 b3 :: a8 b4 :: a8 b5 :: a8 b6 :: a8 a :: List.map a8 t=al (b3 :: b4 :: b5 :: b6 :: a :: t) from rfl]
    exact Sl.Qp (by cases d<;>simp at f ⊢ <;> omega)
   have i:=kO (by rfl) <| PW k (by simp only[ji];omega)
   have p:mo (b3 :: b4 :: b5 :: b6 :: a :: t) = .tup [.agg (wh (IQ (b3 :: b4 :: b5 :: b6 :: a :: t))++[pF 1 (rows (IQ (b3 :: b4 :: b5 :: b6 :: a :: t)).l)]),aI (if kp (b3 :: b4 :: b5 :: b6 :: a :: t) then m0 (b3 :: b4 :: b5 :: b6 :: a :: t) else 0),aI (if kp (b3 :: b4 :: b5 :: b6 :: a :: t) then 0 else 8)]:=by
    unfold mo IQ lT
    split<;>rfl
   rw[p]at i
   unfold eQ.val
   generalize IQ (b3 :: b4 :: b5 :: b6 :: a :: t)=o at *
   simp only[wh]at i
   have C:=(oW o.l).r
   have m:=B9 o.l
   generalize mj o.l=ro at *
   generalize pF 1 (rows o.l)=rq at *
   generalize rows o.l=rw' at *
   generalize val [b1,b2]=cd at *
   clear p k
   rcases m with ⟨rfl,rfl⟩ | ⟨rfl,rfl⟩<;>simp[ak, *,jv,al]
  ·by_cases q:b0=3
   ·subst q
    have e:bf (3 :: b1 :: b2 :: b3 :: b4 :: b5 :: b6 :: a :: t) = { mm [b1,b2,b3,b4,b5,b6,a]with kind:=3}:=rfl
    rw[e]
    obtain⟨L,n⟩:=PX (c:=d.map (· - 1)) (b0:=b1) (b1:=b2) (b2:=b3) (b3:=b4) (b4:=b5) (b5:=b6) (b6:=a) B
    replace n:=kO (by rfl) n
    obtain⟨f1,f2,f3⟩:=vu [b1,b2,b3,b4,b5,b6,a]
    unfold eQ.val
    simp only[f1,f2,f3]
    unfold ef
    simp only[show pF 1 (rows [])=bF from rfl]
    generalize mm [b1,b2,b3,b4,b5,b6,a]=gg at *
    simp[ak, *,jv,al]
    omega
   ·have e:bf (b0 :: b1 :: b2 :: b3 :: b4 :: b5 :: b6 :: a :: t)=⟨b0,0,ef,0,0,0,0,false⟩:=by
     unfold bf
     simp[k1,s,q]
    rw[e]
    unfold eQ.val ef
    simp only[show pF 1 (rows [])=bF from rfl]
    simp[ak, *,jv,al]
def D9(l:List (List UInt8))(h:Hd)(b:List UInt8):AV:=if pW l h b then .tup [(bf b).val (pF 1 (rows (bf b).op.l)),h.val,aI 0] else uN
def Xb(H:ab)(es:List AV)(v:AV):Prop:=(v=bF/\es=[])\/(es≠[] /\∃q,v = .bD q 0 es.length none/\H.get q=some ⟨1,es,true,false⟩)
def zE(l:List (List UInt8)):AV:=match I5 l with
 | some (r,h) => .tup [r.val (pF 1 (rows r.op.l)),h.val,aI 0]
 | none=>uN
theorem V9(n:Nat)(l:List UInt8):((al l).all λe=>e.cells.all λc => !yx c&&Ax (n+1) c)=true:=by
 simp only[da,al,kf]
 rintro e ⟨b,_,rfl⟩ c a
 have a:c∈[a8 b]:=a
 rw[pT]at a
 subst a
 rfl
theorem J8(r:eQ)(st nu:Int):Ax depth (uC r st nu)=true:=by
 unfold uC
 split
 ·split
  ·show(([AV.bl 1 (ij (bB r st nu)) none,aI 0]).all (Ax 7))=true
   simp only[tj,yY,u9]
   have a:Ax 7 (aI 0)=true:=rfl
   rw[a,u9]
   show((ij (bB r st nu)).all λe=>e.cells.all λc => !yx c&&Ax 6 c)=true
   simp only[da,ij,kf]
   rintro e ⟨b,_,rfl⟩ c hc
   simp only[Dr,AV.cells,pT]at hc
   subst hc
   show(true&&_)=true
   rw[hU]
   exact V9 4 b
  ·rfl
 ·rfl
theorem GB{H:ab}{r:eQ}{ro:AV}{q:Ref}(f:(ro=bF/\rows r.op.l=[])\/(ro = .bD q 0 (rows r.op.l).length none /\∃fz,H.get q=some ⟨1,rows r.op.l,true,fz⟩))(i:r.op.l.length<2000000)(st nu:Int)(dep:Nat) :
 dA a9 dep (.fn 21) [r.val ro,aI st,aI nu] H=some (uC r st nu,H):=by
 refine Cy ?_
 show(if 21=21 then xA (au env 21) [r.val ro,aI st,aI nu] H else none)=_
 rw[if_pos rfl]
 have o : ∃y,Sl 1 (rows r.op.l) y/\view H.get 7 ro=some y/\(ad H.get 7 ro).all (vq H.get)=true:=by
  rcases f with ⟨rfl,h⟩ | ⟨rfl,fz,h⟩
  ·exact⟨bF,.inl ⟨rfl,h⟩,rfl,rfl⟩
  ·refine⟨.bl 1 (rows r.op.l) none,Sl.mk _ _,by simp[view,h],?_⟩
   have:ad H.get 7 (.bD q 0 (rows r.op.l).length none)=[q]:=by simp[ad,h]
   rw[this]
   simp only[tj,yY,u9,vq,h,hU,da]
   intro e g c a
   simp only[rows,kf]at g
   obtain⟨n,_,rfl⟩:=g
   have a:c∈[aR n]:=a
   rw[pT]at a
   subst a
   rfl
 obtain⟨y,m,b,d⟩:=o
 have j:=Ge r m i st nu
 have p:([r.val ro,aI st,aI nu]).mapM (view H.get depth)=some [r.val y,aI st,aI nu]:=by
  unfold eQ.val
  simp[b]
 have k:(ba H.get [r.val ro,aI st,aI nu]).all (vq H.get)=true:=by
  have:ba H.get [r.val ro,aI st,aI nu]=ad H.get 7 ro:=by
   unfold eQ.val
   simp[ba]
  rw[this]
  exact d
 unfold xA
 rw[p]
 simp only[j]
 rw[if_pos ⟨J8 r st nu,k⟩]
theorem LD{A:AV}{l:List (List UInt8 × AV)}(L:Sl 1 (bV l) A)(S:okB l)(hb:l.length<100000){B:List UInt8}(W:B.length<50000000)(h:Hd){x5:AV}{H:ab}{r2 r3:Ref}
 (M:yW 1 (al B) H x5) (hF:Fr H) (U:H.get r2=some ⟨24,[pP.val bF],false,false⟩) (K:H.get r3=some ⟨4,[h.val],false,false⟩) (I:r2≠r3) (u:x5.at?≠some r2) (z:x5.at?≠some r3) {Q:AV->ab->Prop} (a:pW (eB l) h B=false ->∀o,Q uN o) (c:pW (eB l) h B=true ->∀o ro,Xb o (rows (bf B).op.l) ro->Q (.tup [(bf B).val ro,h.val,aI 0]) o) :
 dZ a9 Tryz.f23 0 gU [(29,aI l.length),(5,x5),(27,A),(2,.ptr r2 0 0),(3,.ptr r3 0 0),(0,A),(28,aI l.length)] H Q:=by
 have X:=I.symm
 have V:=L.r
 have Y:(H.get r2).isSome=true:=by rw[U];rfl
 have l3:(H.get r3).isSome=true:=by rw[K];rfl
 unfold Hd.val at K
 by_cases w:8<=B.length
 ·have F:al B≠[]:=by intro e;have:=congrArg List.length e;simp at this;rw[this]at w;simp at w
  obtain⟨q,rfl,G⟩:=M.bD F
  have N:q≠r2:=λe=>u (by rw[e];rfl)
  have T:q≠r3:=λe=>z (by rw[e];rfl)
  have P:=N.symm
  have O:=T.symm
  clear u z
  rw[fY]
  have Z:(H.get q).isSome=true:=by rw[G];rfl
  have hp:=Qv (b:=B) (x := .bl 1 (al B) none) (Sl.mk _ _) w W
  have p:(bf B).op.l.length<2000000:=by have:=tM B;omega
  have J : ¬(B.length:Int)<8:=by omega
  have v:pW (eB l) h B=(b9 (bf B)&&jK h.st h.nu 0 (jQ (bf B))&&decide (bB (bf B) h.st h.nu=eB l)):=by
   unfold pW
   rw[decide_eq_true w,hU]
  rw[v]at a c
  have k:=kO (by rfl) <| VT (x := .bl 1 (ij (bB (bf B) h.st h.nu)) none) (y:=A) (l:=(bB (bf B) h.st h.nu).map λb=>(b,Dr b)) (m:=l) (by rw[FA];exact Sl.mk _ _) L (Fz _) S (by
   rw[xM,bB,vQ];have:=E6 3 (jL (bf B));omega)
  rw[Hp]at k
  clear v
  generalize bf B=r at *
  have f : ∀(dep:Nat)(H:ab)(t:Ref)(ro:AV),((ro=bF/\rows r.op.l=[]) \/∃q,ro = .bD q 0 (rows r.op.l).length none/\H.get q=some ⟨1,rows r.op.l,true,false⟩)->aT a9 true (au a9) (dA a9 dep) H t (some (.fn (.func 21) [] [])) [r.val ro,aI h.st,aI h.nu]=some (uC r h.st h.nu,H):=by
   intro dep H t ro D
   rw[Ef (by rfl)]
   rcases D with ⟨E,C⟩ | ⟨q,E,C⟩
   ·exact GB (q:=t) (.inl ⟨E,C⟩) p h.st h.nu dep
   ·exact GB (.inr ⟨E,false,C⟩) p h.st h.nu dep
  clear p
  unfold uC at f
  unfold uN pP eQ.val Hd.val ef at a
  unfold eQ.val Hd.val at c
  unfold eQ.val pP ef at *
  by_cases i:rows r.op.l=[]
  ·have d:=λdep H t=>f dep H t bF (.inl ⟨rfl,i⟩)
   clear f
   have c:=λe o=>c e o bF (.inl ⟨rfl,i⟩)
   rw[i,yi]at hp
   clear i
   cases j:b9 r with
   | false=>
    rw[j]at a d
    simp only[rl,gH,if_false,true_imp_iff,forall_const]at a d
    clear c
    clear k j
    refine eI _ _ _ _ _ _ _ _ _ λg=>?_
    simp[ak, *,cO,ab.aj]
   | true=>
    cases n:jK h.st h.nu 0 (jQ r) with
    | false=>
     rw[j,n]at a d
     simp only[rl,xc,gH,if_false,if_true,forall_const]at a d
     clear c
     clear k j n
     refine eI _ _ _ _ _ _ _ _ _ λg=>?_
     simp[ak, *,cO,ab.aj]
    | true=>
     rw[j,n]at a c d
     simp only[xa,hU,if_true]at a c d
     clear j n
     generalize decide (bB r h.st h.nu=eB l)=db at *
     refine eI _ _ _ _ _ _ _ _ _ λg=>?_
     cases db
     ·simp only[forall_const]at a
      clear c
      simp[ak, *,cO,ab.aj]
     ·simp only[forall_const]at c
      clear a
      simp[ak, *,cO,ab.aj]
  ·have d:=λdep H t q e=>f dep H t _ (.inr ⟨q,rfl,e⟩)
   clear f
   have c:=λe o q G=>c e o _ (.inr ⟨i,q,rfl,G⟩)
   rw[rD 1 i]at hp
   clear i
   generalize rows r.op.l=rw' at *
   cases j:b9 r with
   | false=>
    rw[j]at a d
    simp only[rl,gH,if_false,true_imp_iff,forall_const]at a d
    clear c
    clear k j
    refine eI _ _ _ _ _ _ _ _ _ λg=>?_
    simp[ak, *,cO,ab.aj]
   | true=>
    cases n:jK h.st h.nu 0 (jQ r) with
    | false=>
     rw[j,n]at a d
     simp only[rl,xc,gH,if_false,if_true,forall_const]at a d
     clear c
     clear k j n
     refine eI _ _ _ _ _ _ _ _ _ λg=>?_
     simp[ak, *,cO,ab.aj]
    | true=>
     rw[j,n]at a c d
     simp only[xa,hU,if_true]at a c d
     clear j n
     generalize decide (bB r h.st h.nu=eB l)=db at *
     refine eI _ _ _ _ _ _ _ _ _ λg=>?_
     cases db
     ·simp only[forall_const]at a
      clear c
      simp[ak, *,cO,ab.aj]
     ·simp only[forall_const]at c
      clear a
      simp[ak, *,cO,ab.aj]
 ·have J:(B.length:Int)<8:=by omega
  have s:=M.len
  have v:pW (eB l) h B=false:=by
   unfold pW
   rw[decide_eq_false w,rl]
  have R:=a v
  clear c a
  unfold uN pP eQ.val Hd.val ef at R
  unfold eQ.val pP ef at *
  clear v
  rw[fY]at s
  refine eI _ _ _ _ _ _ _ _ _ λg=>?_
  simp[ak, *,cO,ab.aj]
theorem IX{j:AV}{l:List (List UInt8 × AV)}(D:Sl 1 (bV l) j)(G:okB l)(M:l.length<100000)(S:(fy (eB l)).length<50000000)(h:Hd){r2 r3:Ref}(B:r2≠r3){Q:AV->ab->Prop}(m:pW (eB l) h (fy (eB l))=false ->∀b,Q uN b)(f:pW (eB l) h (fy (eB l))=true ->∀b ro,Xb b (rows (bf (fy (eB l))).op.l) ro->Q (.tup [(bf (fy (eB l))).val ro,h.val,aI 0]) b) :
 ∀(s:List (List UInt8 × AV)) (k:Nat) (i:Int) (x5:AV) (H:ab),l.drop k=s->k<=l.length->i=k->yW 1 (al (fy (eB (l.take k)))) H x5->Fr H->H.get r2=some ⟨24,[pP.val bF],false,false⟩->H.get r3=some ⟨4,[h.val],false,false⟩->x5.at?≠some r2->x5.at?≠some r3 ->
 dZ a9 Tryz.f23 0 gU [(29,aI i),(5,x5),(27,j),(2,.ptr r2 0 0),(3,.ptr r3 0 0),(0,j),(28,aI l.length)] H Q:=by
 intro s
 induction s with
 | nil=>
  rintro k i x5 H hs hk rfl ho hF h2 h3 n52 n53
  obtain rfl:=drop_nil hs hk
  rw[wz]at ho
  exact LD D G M S h ho hF h2 h3 B n52 n53 m f
 | cons p s I=>
  rintro k i x5 H hs hk rfl ho hF h2 h3 n52 n53
  obtain⟨T,R,u,w⟩:=drop_cons hs
  have hp:=G p (R ▸ gD _)
  have N:=hp.r
  have a:fy (eB (l.take (k+1)))=fy (eB (l.take k))++p.1.drop 9:=by
   unfold fy eB
   rw[y9,w]
   simp
  have c:(fy (eB (l.take (k+1)))).length<=(fy (eB l)).length:=by
   have e:eB l=eB (l.take (k+1))++eB (l.drop (k+1)):=by unfold eB;rw[<-xd,xQ]
   rw[e];unfold fy;rw[Bd,gG];omega
  rw[a]at c
  have U:=IntWalk.i64_in ((k:Int)+1) (by omega)
  have key : ∀(n:Nat)(v:AV),n=min p.1.length 9->(∃V:ab,v=v)->Sl 1 ((al p.1).drop n) v ->∃d b,cS env.P true H ⟨0,39,H.gen 0 39,0⟩ (some 27) (some 27) x5 v=some (d,b) /\
   dZ a9 Tryz.f23 0 gU [(29,aI ((k:Int)+1)),(5,d),(27,j),(2,.ptr r2 0 0),(3,.ptr r3 0 0),(0,j),(28,aI l.length)] b Q:=by
   intro n v K _ E
   have L:(al p.1).drop n=al (p.1.drop 9):=by
    rw[yJ,K]
    congr 1
    by_cases F:p.1.length<=9
    ·rw[A9 F,HC,Bj F]
    ·rw[HD (by omega)]
   rw[L]at E
   have y:=Hq (P:=env.P) (t:=27) (t':=27) (z:=1) (by':=1) (by kernel_rfl) (by kernel_rfl) H 0 39 ho (E.C4 _) (by rw[fY,fY];rw[gG]at c;show(_+_) * 1<=140737488355328;omega) hF
   obtain⟨d,b,C,x,J,o⟩:=y
   rw[Ji,<-a]at x
   exact⟨d,b,C,I (k+1) _ d b u (by omega) (by simp) x J (o _ _ h2 n52).1 (o _ _ h3 n53).1 (o _ _ h2 n52).2 (o _ _ h3 n53).2⟩
  clear I c a m f
  refine eI _ _ _ _ _ _ _ _ _ λg=>?_
  have A:=Il (P:=env.P) (t:=27) (z:=1) (by kernel_rfl) H.get hp (n:=if 9<(p.1.length:Int) then 9 else (p.1.length:Int)) (by split<;>omega) (by rw[fY];split<;>omega)
  obtain⟨v,O,q⟩:=A
  obtain⟨d,b,C,x⟩:=key _ v (by split<;>omega) ⟨H,rfl⟩ q
  clear key
  simp[ak, *,cO,D.idx,bV]
theorem N7{n:AV}{l:List (List UInt8 × AV)}(a:Sl 1 (bV l) n)(j:okB l)(y:l.length<100000)(o:(fy (eB l)).length<50000000):au a9 23 [n]=some (zE (eB l)):=by
 refine rG (fn:=Tryz.f23) (c:=uI) rfl (by kernel_rfl) (by kernel_rfl) (by kernel_rfl) (by kernel_rfl) ?_;refine Au _ _ _ λg=>?_
 have x:=a.r
 cases l with
 | nil=>
  unfold eB zE I5 uN pP eQ.val Hd.val ef
  simp[ak, *,mQ,iA]
 | cons p l=>
  have hp:=j p (jM ..)
  have i:=kO (by rfl) (DI hp)
  have w:=hp.r
  have z : ¬((l.length:Int)+1=0):=by omega
  have A:(0:Int)<(l.length:Int)+1:=by omega
  have m:(eB (p :: l)).headD []=p.1:=rfl
  unfold zE I5
  rw[m]
  cases k:iA p.1 with
  | false=>
   rw[k,if_neg (by decide)]at i
   unfold uN pP eQ.val Hd.val ef
   unfold Hd.val at i
   simp[ak, *,mQ,a.idx,bV]
  | true=>
   rw[k,if_pos rfl]at i
   rw[hU]
   have b:=λ(H:ab)=>IX a j y o (eS p.1) (r2:=⟨0,2,0,0⟩) (r3:=⟨0,3,0,0⟩) (by decide) (Q:=λv H=>(ad H.get 8 v).Nodup/\bj H.get 8 v=some (D9 (eB (p :: l)) (eS p.1) (fy (eB (p :: l))))) (by
    intro d u
    unfold D9
    rw[d]
    unfold uN pP eQ.val Hd.val ef
    simp) (by
    intro d u ro f
    unfold D9
    rw[d]
    generalize bf (fy (eB (p :: l)))=r at *
    unfold eQ.val Hd.val
    rcases f with ⟨rfl,e⟩ | ⟨t,q,rfl,e⟩
    ·rw[e];simp
    ·rw[rD 1 t]
     generalize rows r.op.l=rw' at *
     simp[e]) (p :: l) 0 0 bF H rfl (by omega) rfl (AJ _ _)
   have s:(match (if pW (eB (p :: l)) (eS p.1) (fy (eB (p :: l)))=true then some (bf (fy (eB (p :: l))),eS p.1) else none)with | some (r,h)=>AV.tup [r.val (pF 1 (rows r.op.l)),h.val,aI 0] | none=>uN)=D9 (eB (p :: l)) (eS p.1) (fy (eB (p :: l))):=by
    unfold D9
    cases pW (eB (p :: l)) (eS p.1) (fy (eB (p :: l)))<;>rfl
   rw[s]
   generalize D9 (eB (p :: l)) (eS p.1) (fy (eB (p :: l)))=ans at *
   unfold pP eQ.val ef at b
   generalize eS p.1=hd0 at *
   unfold Hd.val at *
   clear j s o m k
   rw[show(((p :: l).length:Nat):Int)=(l.length:Int)+1 from by simp]at b
   simp[ak, *,mQ,a.idx,bV]
   exact b _ (by simp(maxDischargeDepth:=12) [R9, *]) rfl rfl (by simp[AV.at?]) (by simp[AV.at?])
theorem Iq{p:eQ × AV}(hp:rW p):au env 30 [p.1.val p.2]=some (aI (if b9 p.1 then 0 else 8)):=by
 obtain⟨⟨k,u,⟨q,⟨n,a_3,A⟩,t,⟨⟨⟨s,y,B⟩,m⟩,i⟩,⟨⟨h,d,j⟩,e⟩,⟨f,a⟩,l⟩,c,C,v,w,o⟩,x⟩:=p
 obtain⟨D,F⟩:=hp
 simp only at D F
 refine ax rfl (by kernel_rfl) (As _ _ _ λg=>?_)
 have H:=xn k u q n a_3 A t s y B m i h d j e f a c C v w o D (by omega)
 have G:=D.r
 have E:wg ⟨k,u,(⟨q,⟨n,a_3,A⟩,t,⟨⟨⟨s,y,B⟩,m⟩,i⟩,⟨⟨h,d,j⟩,e⟩,⟨f,a⟩,l⟩:dY),c,C,v,w,o⟩ = .bl 1 [a8 k] (some 1) \/∃es,wg ⟨k,u,(⟨q,⟨n,a_3,A⟩,t,⟨⟨⟨s,y,B⟩,m⟩,i⟩,⟨⟨h,d,j⟩,e⟩,⟨f,a⟩,l⟩:dY),c,C,v,w,o⟩ = .bl 1 es none:=by
  unfold wg
  repeat' (split)
  all_goals (first | exact .inl rfl | exact .inr ⟨_,rfl⟩)
 generalize wg ⟨k,u,(⟨q,⟨n,a_3,A⟩,t,⟨⟨⟨s,y,B⟩,m⟩,i⟩,⟨⟨h,d,j⟩,e⟩,⟨f,a⟩,l⟩:dY),c,C,v,w,o⟩=z at *
 unfold eQ.val
 generalize b9 ⟨k,u,(⟨q,⟨n,a_3,A⟩,t,⟨⟨⟨s,y,B⟩,m⟩,i⟩,⟨⟨h,d,j⟩,e⟩,⟨f,a⟩,l⟩:dY),c,C,v,w,o⟩=b at *
 rcases E with rfl | ⟨es,rfl⟩<;>cases b<;>simp[ak, *,uJ]
theorem Sr{p:eQ × AV}(hp:rW p):au env 25 [p.1.val p.2]=some (if b9 p.1 then .tup [aI (jQ p.1),aI 0] else .tup [aI 0,aI 8]):=by
 obtain⟨⟨k,u,⟨n,⟨m,a_3,z⟩,s,⟨⟨⟨q,y,t⟩,j⟩,h⟩,⟨⟨e,b,i⟩,d⟩,⟨f,a⟩,l⟩,c,g,v,w,o⟩,x⟩:=p
 exact BW k u n m a_3 z s q y t j h e b i d f a c g v w o hp.1 (by have:=hp.2;simp at this;omega)
theorem Nc(k:UInt8)(j:UInt8)(a_3:UInt32)(p:UInt8)(n:Int)(m:UInt8)(o:UInt32)(q:UInt8)(i:Int)(f:Int)(e:UInt8)(b:UInt32)(h:UInt8)(c:Int)(d:UInt8)(a:UInt32){l:List Int}(y:l.length<100000):au env 42 [.agg [a8 k,a8 j,bc a_3,a8 p,aI n,a8 m,bc o,a8 q,aI i,aI f,a8 e,bc b,a8 h,aI c,a8 d,bc a,iT 1 (rows l)]]=some (.agg [a8 k,a8 j,bc a_3,a8 p,aI n,a8 m,bc o,a8 q,aI i,aI f,a8 e,bc b,a8 h,aI c,a8 d,bc a,pF 1 (rows l)]):=by
 refine ax rfl (by kernel_rfl) (HW _ _ _ λg=>?_)
 by_cases s:rows l=[]
 ·have t:=DJ (l:=[]) (x:=bF) (.inl ⟨rfl,rfl⟩) (by simp) (by simp)
  rw[s]
  have w:iT 1 []=bF:=rfl
  have v:pF 1 []=bF:=rfl
  rw[w,v]
  rw[Ow]at t
  simp[ak, *,xD]
 ·have t:=DJ (l:=l) (x := .bl 1 (rows l) none) (Sl.mk _ _) (by omega) (by omega)
  rw[Ee 1 none s]at t
  rw[rC 1 s,rD 1 s]
  have u:(rows l).length=l.length:=by simp
  generalize rows l=rw' at *
  simp[ak, *,xD]
theorem LF(r:eQ)(C:r.op.l.length<100000):au a9 27 [r.val (iT 1 (rows r.op.l))]=some (r.val (pF 1 (rows r.op.l))):=by
 obtain⟨k,u,⟨n,⟨m,a_3,t⟩,q,⟨⟨⟨p,s,x⟩,j⟩,h⟩,⟨⟨f,b,i⟩,d⟩,⟨e,a⟩,l⟩,c,g,v,w,o⟩:=r
 have B:=kO (by rfl) (Nc n m a_3 t q p s x j h f b i d e a C)
 have A:=(qh 1 (rows l)).r
 refine rG (fn:=Tryz.f27) (c:=te) rfl (by kernel_rfl) (by kernel_rfl) (by kernel_rfl) (by kernel_rfl) ?_;refine zj _ _ _ λg=>?_
 unfold eQ.val
 by_cases z:rows l=[]
 ·rw[z]at B A ⊢
  rw[show iT 1 ([]:List AV)=bF from rfl,yi]at *
  simp[ak, *,oV]
 ·rw[rD 1 z]at *
  generalize iT 1 (rows l)=y at *
  generalize rows l=rw' at *
  simp[ak, *,oV]
theorem Lq{H:ab}{r:eQ}{x:AV}(b:Sl 1 (rows r.op.l) x)(c:r.op.l.length<2000000)(st nu:Int)(dep:Nat)(d:Ref) :
 aT a9 true (au a9) (dA a9 dep) H d (some (.fn (.func 21) [] [])) [r.val x,aI st,aI nu]=some (uC r st nu,H):=by
 rw[Ef (by rfl)]
 refine Cy ?_
 show(if 21=21 then xA (au env 21) [r.val x,aI st,aI nu] H else none)=_
 rw[if_pos rfl]
 have e:=Ge r b c st nu
 have a:=b.r
 have g:([r.val x,aI st,aI nu]).mapM (view H.get depth)=some [r.val x,aI st,aI nu]:=by
  unfold eQ.val
  simp[a]
 have f:ba H.get [r.val x,aI st,aI nu]=[]:=by
  unfold eQ.val
  simp[ba,a]
 unfold xA
 rw[g]
 simp only[e]
 rw[if_pos ⟨J8 r st nu,by rw[f];rfl⟩]
theorem BV{p q:eQ × AV}(hp:rW p)(X:rW q):au env 32 [p.1.val p.2,q.1.val q.2]=some (aB (l8 p.1 q.1)):=by
 obtain⟨⟨k,u,⟨E,⟨D,a_3,I⟩,G,⟨⟨⟨F,H,R⟩,C⟩,z⟩,⟨⟨s,e,A⟩,f⟩,⟨h,a⟩,l⟩,c,g,v,w,o⟩,x⟩:=p
 obtain⟨⟨k',T,⟨K,⟨M,J,N⟩,S,⟨⟨⟨Q,O,L⟩,P⟩,i⟩,⟨⟨d,j,b⟩,B⟩,⟨n,t⟩,m⟩,V,U,W,w',o'⟩,y⟩:=q
 exact DK k k' u T E D a_3 I G F H R C z s e A f h a K M J N S Q O L P i d j b B n t c V g U v W w w' o o' hp.1 X.1 (by have:=hp.2;simp at this;omega)
end
section
attribute [local simp] bn aO aE aQ aP oq q9 cy ld bp aG aU cZ cY aX bo ar bS fC
def re(r:eQ)(x:AV):aJ:=⟨24,[r.val x],false,false⟩
def Kt(h:Hd):aJ:=⟨4,[h.val],false,false⟩
theorem oc.put{H:ab}{q:Ref}{b b':aJ}{g:List (Ref × aJ)}(h:oc H ((q,b) :: g) []):oc (H.put q (some b')) ((q,b') :: g) []:=by
 have n:=h.has (q,b) (by simp)
 have k:((q,b') :: g).map (·.1)=((q,b) :: g).map (·.1):=rfl
 have m:=h.nd
 simp only[tk,wy,kf,not_exists,not_and]at m n
 refine⟨Jt h.fr (by rw[n];rfl) _,λp hp=>?_,by rw[k];exact h.nd,by simp,by simp,List.Pairwise.nil⟩
 rcases eU.1 hp with rfl | hp
 ·simp[ab.aj]
 ·rw[ab.aj,if_neg (m.1 p hp)]
  exact h.has p (jI _ hp)
def DD(l:List (List UInt8 × AV)):List (List UInt8 × AV):=l.map λp=>(p.1,iT 1 (al p.1))
@[simp] theorem Xp(l:List (List UInt8 × AV)):(DD l).length=l.length:=by simp[DD]
theorem MA(l:List (List UInt8 × AV)):okB (DD l):=by
 intro p hp
 obtain⟨q,_,rfl⟩:=kf.1 hp
 exact qh _ _
theorem Ib(l:List (List UInt8 × AV)):eB (DD l)=eB l:=by simp[eB,DD]
theorem xS{m:List Int}{k:Nat}(h:k<m.length)(v:Int):fE (rows m) k 0 (aR v).cells=some (rows (m.set k v)):=by
 unfold fE rows
 rw[kJ,cw h]
 show some ((m.map aR).set k (aR v))=_
 rw[List.map_set]
theorem Gk{m:List Int}{k:Nat}(h:k<m.length):cG (rows m) k 0 1 false=some (aR m[k]):=by
 unfold cG rows
 rw[kJ,cw h]
 rfl
section
variable{a:eQ × AV}(e:rW a){l:List (List UInt8 × AV)}{t:AV}(f:Sl 1 (bV l) t)(o:okB l)(u:l.length<800){r5 d:Ref}{i:AV}{j:List (Ref × aJ)}{fz:Bool}(c:th fz 1 (bV (DD l)) i j)
 {Q:AV->ab->Prop} (s : ∀H,Q (aB true) H)
include e f o u c s
theorem VU{p:eQ}{x:Ref}{fs:List (Ref × aJ)} : ∀(n k:Nat)(m:List Int)(y:AV)(z:List (Ref × aJ)) (H:ab),k+n=m.length->m.length<1000000000->th false 1 (rows m) y z ->
 oc H (z++(x,re p y) :: (r5,re a.1 a.2) :: (d,re a.1 (iT 1 (rows a.1.op.l))) :: (j++fs)) [] ->
 dZ a9 Tryz.f4 0 cm [(37,aI k),(18,.ptr x 0 0),(4,t),(12,i),(5,.ptr r5 0 0),(11,.ptr d 0 0),(30,aB true),(29,aB true)] H Q:=by
 intro n
 induction n with
 | zero=>
  intro k m y z H A M hp b
  have L:=kO (by rfl) (JW (p:=(a.1,iT 1 (rows a.1.op.l))) (q:=a) ⟨qh 1 _,e.2⟩ e)
  have U:=kO (by rfl) (BX c.sl f (MA l) o (by simp;omega))
  rw[Ib,decide_eq_true rfl]at U
  rw[xm]at L
  have W:=b.has (r5,re a.1 a.2) (by simp)
  have C:=b.has (d,re a.1 (iT 1 (rows a.1.op.l))) (by simp)
  have w:=b.has (x,re p y) (by simp)
  obtain⟨P,N,Y,S⟩:=c.seen b (λq hq=>by simp[hq])
  have Z:=(qh 1 (rows a.1.op.l)).r
  have Zt:=e.1.r
  have X:=f.r
  have D:pr y=some m.length/\y.cells=[y]/\y.one=true:=by
   rcases hp with ⟨rfl,h,_⟩ | ⟨q,rfl,_⟩
   ·have:m=[]:=by simpa [rows] using h
    rw[this];exact⟨rfl,rfl,rfl⟩
   ·rw[show(rows m).length=m.length from by simp[rows]]
    exact⟨rfl,rfl,rfl⟩
  obtain rfl:k=m.length:=by omega
  have T:=s H
  obtain⟨Zs,Zu,V⟩:=D
  simp only[re,eQ.val]at W C w L
  clear s b hp c o f e A
  generalize iT 1 (rows a.1.op.l)=O at *
  refine iO _ _ _ _ _ _ _ _ _ _ λg=>?_
  simp[ak, *,eN]
  done
 | succ n K=>
  intro k m y z H A M hp b
  rcases hp with ⟨_,h,_⟩ | ⟨q,rfl,rfl⟩
  ·have:m=[]:=by simpa [rows] using h
   rw[this]at A;simp at A
  have B:k<m.length:=by omega
  have J:(k:Int)<m.length:=by omega
  have e3:=IntWalk.i64_in ((k:Int)+1) (by omega)
  have w:=b.has (x,re p (.bD q 0 (rows m).length none)) (by simp)
  have fq:=b.has (q,⟨1,rows m,true,false⟩) (by simp)
  have G:=Gk B
  have I:=λv=>xS B v
  simp only[show ∀v,(aR v).cells=[aR v] from λ_=>rfl]at I
  have F:=λv=>K (k+1) (m.set k v) (.bD q 0 (rows m).length none) _ (H.put q (some ⟨1,rows (m.set k v),true,false⟩)) (by simp;omega) (by simpa using M) (.inr ⟨q,by simp[rows],rfl⟩) (oc.put b)
  rw[show((k+1:Nat):Int)=(k:Int)+1 from by omega]at F
  have E:(rows m).length=m.length:=by simp[rows]
  rw[E]at w
  simp only[re,eQ.val]at w
  simp only[aR]at G I
  clear K b A c s e f o
  generalize rows m=R at *
  refine iO _ _ _ _ _ _ _ _ _ _ λg=>?_
  simp[ak, *,eN,so]
  done
end
end
section
attribute [local simp] bn aO aE aQ aP oq q9 cy ld bp aG aU cZ cY aX bo ar bS fC
section
variable{Q:AV->ab->Prop}{i a x5 x11 x18:AV}{f:List (Ref × aJ)}
theorem VV{B:eQ}{t:Ref}(A : ∀H,oc H f []->dZ a9 Tryz.f4 0 cm [(37,aI 0),(18,x18),(4,i),(12,a),(5,x5),(11,x11),(30,aB true),(29,aB true)] H Q) :
 ∀(n k:Nat)(m:List Int)(e:AV)(u:List (Ref × aJ)) (H:ab),k+n=m.length->m.length<1000000000->th false 1 (rows m) e u ->
 oc H (u++(t,re B e) :: f) [] ->
 dZ a9 Tryz.f4 0 cr [(36,aI k),(28,.ptr t 0 0),(18,x18),(4,i),(12,a),(5,x5),(11,x11),(30,aB true),(29,aB true)] H Q:=by
 intro n
 induction n with
 | zero=>
  intro k m e u H x J hp w
  have d:=w.has (t,re B e) (by simp)
  have z:pr e=some m.length/\e.cells=[e]/\e.one=true:=by
   rcases hp with ⟨rfl,h,_⟩ | ⟨q,rfl,_⟩
   ·have:m=[]:=by simpa [rows] using h
    rw[this];exact⟨rfl,rfl,rfl⟩
   ·rw[show(rows m).length=m.length from by simp[rows]]
    exact⟨rfl,rfl,rfl⟩
  obtain rfl:k=m.length:=by omega
  have K:=A H (w.sub ((Bi _ _).trans (HQ _ _)))
  obtain⟨M,N,L⟩:=z
  simp only[re,eQ.val]at d
  clear A w hp x
  refine iP _ _ _ _ _ _ _ _ _ _ _ λg=>?_
  simp[ak, *,eO]
  done
 | succ n I=>
  intro k m e u H x J hp w
  rcases hp with ⟨_,h,_⟩ | ⟨q,rfl,rfl⟩
  ·have:m=[]:=by simpa [rows] using h
   rw[this]at x;simp at x
  have y:k<m.length:=by omega
  have G:(k:Int)<m.length:=by omega
  have P:=IntWalk.i64_in ((k:Int)+1) (by omega)
  have d:=w.has (t,re B (.bD q 0 (rows m).length none)) (by simp)
  have O:=w.has (q,⟨1,rows m,true,false⟩) (by simp)
  have E:=Gk y
  have F:=λv=>xS y v
  simp only[show ∀v,(aR v).cells=[aR v] from λ_=>rfl]at F
  have D:=λv=>I (k+1) (m.set k v) (.bD q 0 (rows m).length none) _ (H.put q (some ⟨1,rows (m.set k v),true,false⟩)) (by simp;omega) (by simpa using J) (.inr ⟨q,by simp[rows],rfl⟩) (oc.put w)
  rw[show((k+1:Nat):Int)=(k:Int)+1 from by omega]at D
  have C:(rows m).length=m.length:=by simp[rows]
  rw[C]at d
  simp only[re,eQ.val]at d
  simp only[aR]at E F
  clear I w x A
  generalize rows m=R at *
  refine iP _ _ _ _ _ _ _ _ _ _ _ λg=>?_
  simp[ak, *,eO,so]
  done
theorem OH{H:ab}(h:oc H f []){t:Nat}(d:Hd){K:AV->ab->Prop}
 (g : ∀r k,oc k ((r,Kt d) :: f) []->K (.ptr r 0 0) k) :
 iq (jB H (⟨0,t,ab.gen H 0 t,0⟩:Ref) (oG env.P (⟨0,t,ab.gen H 0 t,0⟩:Ref) 69)) λv n=>iq (iu env.P n 69 (some v) (some d.val)) λw m=>K v m:=by
 have u:H.get ⟨0,t,H.gen 0 t,0⟩=none:=h.fr 0 t _ 0 (aW _)
 have e:=g ⟨0,t,H.gen 0 t,0⟩ ((⟨0,t,H.gen 0 t,0⟩,some (Kt d)) :: H) (h.new 0 t _)
 clear g
 simp only[Kt,Hd.val]at e ⊢
 simp[so]
 exact e
end
section
variable{Q:AV->ab->Prop}{i a x5 x11 x18 x28:AV}{f:List (Ref × aJ)}{l:List (List UInt8 × AV)}(j:Sl 1 (bV l) i)(p:okB l)(s:l.length<800){o:List (Ref × aJ)}{fz:Bool}(b:th fz 1 (bV (DD l)) a o)(c : ∀q∈o,q∈f)
include j p s b c
theorem VW(C : ∀H,oc H f []->dZ a9 Tryz.f4 0 cr [(36,aI 0),(28,x28),(18,x18),(4,i),(12,a),(5,x5),(11,x11),(30,aB true),(29,aB true)] H Q) :
 ∀(n k:Nat)(H:ab),k+n=l.length->oc H f [] ->
 dZ a9 Tryz.f4 0 dk [(31,aI k),(30,aB true),(4,i),(12,a),(28,x28),(18,x18),(5,x5),(11,x11),(29,aB true)] H Q:=by
 intro n
 induction n with
 | zero=>
  intro k H B x
  have U:=C H x
  have F:=j.r
  obtain rfl:k=l.length:=by omega
  have M:(bV l).length=l.length:=by simp
  clear C x b j p c
  refine iQ _ _ _ _ _ _ _ _ _ _ _ λg=>?_
  simp[ak, *,eP]
  done
 | succ n R=>
  intro k H B x
  rcases b with ⟨_,h,_⟩ | ⟨q,rfl,rfl⟩
  ·have:l=[]:=by simpa [bV,DD] using h
   rw[this]at B;simp at B
  have v:k<l.length:=by omega
  have L:(k:Int)<l.length:=by omega
  have Y:=IntWalk.i64_in ((k:Int)+1) (by omega)
  have F:=j.r
  have X:=x.has (q,⟨1,bV (DD l),true,fz⟩) (c _ (by simp))
  have hp:Sl 1 (al l[k].1) l[k].2:=p _ (gD v)
  have W:cG (bV l) k 0 1 false=some l[k].2:=by
   simp[bV,cG,cw v,hp.r]
  have m:=qh 1 (al l[k].1)
  have P:cG (bV (DD l)) k 0 1 false=some (iT 1 (al l[k].1)):=by
   simp[bV,DD,cG,cw v,m.r]
  have w:=kO (by rfl) (DI m)
  have A:=kO (by rfl) (DO hp)
  obtain⟨d,e,y⟩ : ∃(d:Hd) (e:Int),(if iA l[k].1 then AV.tup [(eS l[k].1).val,aI 0] else .tup [(⟨0,0,0,0⟩:Hd).val,aI 8]) = .tup [d.val,aI e]:=by
   split
   ·exact⟨_,_,rfl⟩
   ·exact⟨_,_,rfl⟩
  rw[y]at w A
  have t:=λH=>R (k+1) H (by omega)
  rw[show((k+1:Nat):Int)=(k:Int)+1 from by omega]at t
  have V:(bV l).length=l.length:=by simp
  have D:(bV (DD l)).length=l.length:=by simp
  have T:=hp.r
  have N:=m.r
  rw[D]at t ⊢
  unfold Hd.val at w A
  clear R C B y p c hp m
  generalize iT 1 (al l[k].1)=O at *
  generalize l[k].2=z at *
  generalize bV (DD l)=B2 at *
  generalize bV l=B1 at *
  refine iQ _ _ _ _ _ _ _ _ _ _ _ λg=>?_
  unfold eP
  simp[ak, *, -my]
  refine OH x d λJ Z K=>?_
  simp[ak, *, -my,j.idx]
  refine OH K d λI S u=>?_
  have E:=u.has (J,Kt d) (by simp)
  have G:=u.has (I,Kt d) (by simp)
  replace t:=t S (u.sub ((Bi _ _).trans (Bi _ _)))
  simp only[Kt,Hd.val]at E G
  simp[ak, *,kT,eF]
end
end
section
attribute [local simp] bn aO aE aQ aP oq q9 cy ld bp aG aU cZ cY aX bo ar bS fC
section
variable{H:ab}{a:List (Ref × aJ)}(h:oc H a [])
include h
theorem OF{t:Nat}(p:eQ){x:AV}(e:x.cells=[x]/\x.one=true){K:AV->ab->Prop}
 (c : ∀r d,oc d ((r,re p x) :: a) []->K (.ptr r 0 0) d) :
 iq (jB H (⟨0,t,ab.gen H 0 t,0⟩:Ref) (oG env.P (⟨0,t,ab.gen H 0 t,0⟩:Ref) 60)) λv g=>iq (iu env.P g 60 (some v) (some (p.val x))) λj f=>K v f:=by
 have i:H.get ⟨0,t,H.gen 0 t,0⟩=none:=h.fr 0 t _ 0 (aW _)
 have b:=c ⟨0,t,H.gen 0 t,0⟩ ((⟨0,t,H.gen 0 t,0⟩,some (re p x)) :: H) (h.new 0 t _)
 clear c
 simp only[re,eQ.val]at b ⊢
 simp[so,e.1,e.2]
 exact b
theorem OI{t u:Nat}(c:t≠u)(p:eQ){x:AV}(k:x.cells=[x]/\x.one=true)(d:Hd){K:AV->AV->ab->Prop}
 (i : ∀r q j,oc j ((q,Kt d) :: (r,re p x) :: a) []->K (.ptr r 0 0) (.ptr q 0 0) j) :
 iq (jB H (⟨0,t,ab.gen H 0 t,0⟩:Ref) (oG env.P (⟨0,t,ab.gen H 0 t,0⟩:Ref) 60)) λv g=>iq (jB g (⟨0,u,ab.gen g 0 u,0⟩:Ref) (oG env.P (⟨0,u,ab.gen g 0 u,0⟩:Ref) 69)) λw m=>
  iq (iu env.P m 60 (some v) (some (p.val x))) λz n=>iq (iu env.P n 69 (some w) (some d.val)) λw' o=>K v w o:=by
 have y:H.get ⟨0,t,H.gen 0 t,0⟩=none:=h.fr 0 t _ 0 (aW _)
 have l:=h.new 0 t (re p x)
 have e:=l.new 0 u (Kt d)
 have s:ab.gen ((⟨0,t,H.gen 0 t,0⟩,some (re p x)) :: H) 0 u=H.gen 0 u:=by simp[c]
 rw[s]at e
 have b:=i _ _ _ e
 clear i l e
 have f:=nE c
 simp only[re,Kt,eQ.val,Hd.val]at b ⊢
 simp[so,k.1,k.2,c,f]
 exact b
theorem D3(r:Ref)(p:eQ)(x:AV)(b:x.cells=[x]/\x.one=true)(d:(r,re p x)∈a){K:AV->Prop}(c:K (p.val x)) :
 ew (lz env.P (ab.get H) 60 (some (.ptr r 0 0))) K:=by
 have:=h.has _ d
 simp only[re,eQ.val]at this c ⊢
 simp[this,b.1,b.2]
 exact c
theorem Sh{t:Nat}{p:eQ}{m:List Int}{K:AV->ab->Prop}(d : ∀g c f,th false 1 (rows m) g c->oc f (c++a) []->K (p.val g) f) :
 iq (pX true H (⟨0,t,ab.gen H 0 t,0⟩:Ref) [] (some (p.val (pF 1 (rows m))))) K:=by
 by_cases e:rows m=[]
 ·have b:=d bF [] H (.inl ⟨rfl,e,rfl⟩) h
  clear d
  rw[e,yi]
  unfold eQ.val at b ⊢
  simp
  exact b
 ·have b:=d (.bD ⟨0,t,H.gen 0 t,0⟩ 0 (rows m).length none) _ _ (.inr ⟨_,rfl,rfl⟩) (h.new 0 t ⟨1,rows m,true,false⟩)
  clear d
  rw[rD 1 e]
  generalize rows m=R at *
  unfold eQ.val at b ⊢
  simp
  exact b
end
theorem WE{H:ab}{a:List (Ref × aJ)}{t:Nat}{v:Nat}{f:List AV}{B:AV}{g:List (Ref × aJ)}(h:oc H (g++a) [])(n:th false v f B g){L:List (List UInt8)}{K:AV->ab->Prop}
 (j : ∀p d e u i c k s,D8 L = .tup [eQ.val p (mj p.op.l),Hd.val d,aI e]->p.op.l.length<=64->th false 1 (rows p.op.l) u i->th k v f B c->oc s (i++(c++a)) []->K (.tup [p.val u,d.val,aI e]) s) :
 iq (pX true H (⟨0,t,ab.gen H 0 t,0⟩:Ref) (g.map (·.1)) (some (zE L))) K:=by
 obtain⟨p,d,e,w,o,D⟩ : ∃p d e,zE L = .tup [eQ.val p (pF 1 (rows p.op.l)),Hd.val d,aI e]/\D8 L = .tup [eQ.val p (mj p.op.l),Hd.val d,aI e]/\p.op.l.length<=64:=by
  unfold zE D8
  cases m:I5 L with
  | none=>exact⟨pP,⟨0,0,0,0⟩,8,rfl,rfl,by decide⟩
  | some rd=>
   obtain⟨r,C⟩:=rd
   refine⟨r,C,0,rfl,rfl,?_⟩
   unfold I5 at m
   split at m
   ·injection m with m
    injection m with E A
    rw[<-E]
    exact tM _
   ·cases m
 rw[w]
 replace j:=λu i c k s=>j p d e u i c k s o D
 by_cases z:rows p.op.l=[]
 ·have b:=j bF [] g false H (.inl ⟨rfl,z,rfl⟩) n h
  clear j w o
  rw[z,yi]
  unfold eQ.val Hd.val at b ⊢
  simp
  exact b
 ·rw[rD 1 z]
  rcases n with ⟨rfl,A,rfl⟩ | ⟨q,rfl,rfl⟩
  ·have b:=j (.bD ⟨0,t,H.gen 0 t,0⟩ 0 (rows p.op.l).length none) _ [] false _ (.inr ⟨_,rfl,rfl⟩) (.inl ⟨rfl,A,rfl⟩) (h.new 0 t ⟨1,rows p.op.l,true,false⟩)
   clear j w o
   generalize rows p.op.l=R at *
   unfold eQ.val Hd.val at b ⊢
   simp
   exact b
  ·have x:=h.has (q,⟨v,f,true,false⟩) (by simp)
   have y:=(oc.put (b':=⟨v,f,true,true⟩) h).new 0 t ⟨1,rows p.op.l,true,false⟩
   simp only at x
   rw[ab.fp _ _ _ (by rw[x];rfl)]at y
   have b:=j (.bD ⟨0,t,H.gen 0 t,0⟩ 0 (rows p.op.l).length none) _ _ true _ (.inr ⟨_,rfl,rfl⟩) (.inr ⟨q,rfl,rfl⟩) y
   clear j w o y
   generalize rows p.op.l=R at *
   unfold eQ.val Hd.val at b ⊢
   simp[x]
   exact b
end
section
attribute [local simp] bn aO aE aQ aP oq q9 cy ld bp aG aU cZ cY aX bo ar bS fC
theorem _root_.Go.Ab.Sl.Dk{z:Nat}{es:List AV}{x:AV}(h:Sl z es x):x.cells=[x]/\x.one=true:=⟨h.r.2.2.2.1,h.r.2.2.2.2.1⟩
theorem J0{fz:Bool}{z:Nat}{es:List AV}{x:AV}{b:List (Ref × aJ)}(h:th fz z es x b):x.cells=[x]/\x.one=true:=by
 rcases h with ⟨rfl,_,_⟩ | ⟨q,rfl,_⟩<;>exact⟨rfl,rfl⟩
theorem Lo(r:eQ)(st nu:Int) : ∃(L:List (List UInt8 × AV)) (y:AV) (e:Int),uC r st nu = .tup [y,aI e]/\Sl 1 (bV L) y/\okB L/\L.length<1000000:=by
 unfold uC
 split
 ·split
  ·refine⟨(bB r st nu).map λb=>(b,Dr b),_,0,rfl,by rw[FA];exact Sl.mk _ _,Fz _,?_⟩
   rw[xM,bB,vQ]
   have:=E6 3 (jL r)
   omega
  ·exact⟨[],bF,2,rfl,.inl ⟨rfl,rfl⟩,λp hp=>(uV hp).elim,by simp⟩
 ·exact⟨[],bF,8,rfl,.inl ⟨rfl,rfl⟩,λp hp=>(uV hp).elim,by simp⟩
theorem J2{b:Type}{l m:List b}(h : ∀(i:BEq b)(_:LawfulBEq b)(a:b),l.count a=m.count a):l.Perm m:=by
 classical
 exact List.perm_iff_count.2 λa=>h _ inferInstance a
section
variable{a c:eQ × AV}(f:rW a)(k:rW c)(o:a.1.op.l.length<=1000)(s:oF a.1.op.l){l:List (List UInt8 × AV)}{w:AV}(j:Sl 1 (bV l) w)(n:okB l)(t:l.length<800)(u:(fy (eB l)).length<50000000)(st nu:Int)
 {Q:AV->ab->Prop} (v : ∀H,Q (aB true) H)
include f k o s j n t u v
theorem P0{H:ab}{r5 r6 y:Ref}{V:AV}{B:List (Ref × aJ)}(h:th false 1 (bV (DD l)) V B)(b:oc H (B++[(r5,re a.1 a.2),(r6,re c.1 c.2),(y,re a.1 (iT 1 (rows a.1.op.l)))]) []) :
 dZ a9 Tryz.f4 0 bL [(13,aI l.length),(4,w),(12,V),(5,.ptr r5 0 0),(11,.ptr y 0 0),(6,.ptr r6 0 0),(3,aI nu),(2,aI st)] H Q:=by
 have R:=qh 1 (rows a.1.op.l)
 have E:rW (a.1,iT 1 (rows a.1.op.l)):=⟨R,f.2⟩
 obtain⟨PL,py,pe,ZC,I,F,Zx⟩:=Lo a.1 st nu
 have A:=λ(H:ab) dep r0=>Lq (H:=H) R (by omega) st nu dep r0
 have z:=kO (by rfl) (M9 f (by omega) s st nu)
 rw[ZC]at A z
 have ZO:=kO (by rfl) (BX I I F F Zx)
 have hG:=N7 h.sl (MA l) (by simp;omega) (by rw[Ib];exact u)
 have K:=kO (by rfl) (Nb j n t)
 rw[Ib]at hG
 obtain⟨nn,ne,ZG⟩ : ∃(nn ne:Int),(if b9 a.1 then AV.tup [aI (jQ a.1),aI 0] else .tup [aI 0,aI 8]) = .tup [aI nn,aI ne]:=by
  split
  ·exact⟨_,_,rfl⟩
  ·exact⟨_,_,rfl⟩
 have J:=kO (by rfl) (Sr E)
 have L:=kO (by rfl) (Is f (by omega) s)
 rw[ZG]at J L
 have Zz:=kO (by rfl) (Iq E)
 have ZA:=kO (by rfl) (It f (by omega) s)
 have hT:=LF a.1 (by omega)
 have X:=kO (by rfl) (BV E k)
 have Zu:=kO (by rfl) (JW f k)
 have W:=kO (by rfl) (BV E f)
 have D:=λx j=>kO (by rfl) (JW (p:=(a.1,x)) ⟨j,f.2⟩ f)
 simp only[xm]at W D X Zu
 generalize (if b9 a.1=true then (0:Int) else 8)=kk at *
 generalize l8 a.1 c.1=sac at *
 have ZS:=j.r
 have ZV:=f.1.r
 have ZQ:=k.1.r
 have ZU:=R.r
 have ZN:=I.r
 have ZJ:(bV l).length=l.length:=by simp
 obtain⟨Zy,Zw,ZP,ZR⟩:=h.seen b (λq N=>by simp[N])
 simp only[eQ.val]at A z J L Zz ZA hT X Zu W D
 refine iU _ _ _ _ _ _ _ _ _ _ λg=>?_
 unfold eZ
 simp[ak, *, -mz, -my]
 refine D3 b y a.1 _ R.Dk (by simp) ?_
 unfold eQ.val
 simp[ak, *, -mz, -my]
 refine D3 b r5 a.1 _ f.1.Dk (by simp) ?_
 unfold eQ.val
 simp[ak, *, -mz, -my]
 refine WE b h λp d e xp Zv B fz H Z ZK hp h b=>?_
 clear Zy Zw hG A z
 rw[Z]at K
 have P:=oW p.op.l
 have ZT:=P.r
 have C:=λx j=>kO (by rfl) (JW (p:=(p,x)) (q:=(p,mj p.op.l)) ⟨j,by simp only;omega⟩ ⟨P,by simp only;omega⟩)
 simp only[xm]at C
 generalize mj p.op.l=ro at *
 simp only[eQ.val,Hd.val]at K C
 unfold eQ.val Hd.val
 simp[ak, *, -mz, -my]
 refine OI b (by decide) p (J0 hp) d λG U H b=>?_
 simp[ak, *, -mz, -my]
 refine OI b (by decide) p P.Dk d λZt Zs H b=>?_
 refine D3 b y a.1 _ R.Dk (by simp) ?_
 unfold eQ.val
 simp[ak, *, -mz, -my]
 refine D3 b r5 a.1 _ f.1.Dk (by simp) ?_
 unfold eQ.val
 simp[ak, *, -mz, -my]
 refine D3 b y a.1 _ R.Dk (by simp) ?_
 unfold eQ.val
 simp[ak, *, -mz, -my, -aE, -aQ, -aP]
 refine Sh (p:=a.1) (m:=a.1.op.l) b λxk S H Y b=>?_
 refine OF b a.1 (J0 Y) λM H b=>?_
 clear hT J L K
 have f5:=b.has (r5,re a.1 a.2) (by simp)
 have f6:=b.has (r6,re c.1 c.2) (by simp)
 have ZD:=b.has (y,re a.1 (iT 1 (rows a.1.op.l))) (by simp)
 have ZF:=b.has (G,re p xp) (by simp)
 have ZH:=b.has (U,Kt d) (by simp)
 have ZB:=b.has (Zt,re p ro) (by simp)
 have ZE:=b.has (Zs,Kt d) (by simp)
 have ZI:=b.has (M,re a.1 xk) (by simp)
 obtain⟨k1,k2,k3,k4⟩:=Y.seen b (λq N=>by simp[N])
 obtain⟨p1,p2,p3,p4⟩:=hp.seen b (λq N=>by simp[N])
 have ZL:=D _ Y.sl
 have ZM:=C _ hp.sl
 simp only[re,Kt,eQ.val,Hd.val]at f5 f6 ZD ZF ZH ZB ZE ZI
 have T:=VW j n t h (λq N=>by simp[N]) (Q:=Q) (x5 := .ptr r5 0 0) (x11 := .ptr y 0 0) (x18 := .ptr G 0 0) (x28 := .ptr M 0 0) (λH b=>by
  have h1:=b.perm (fs':=S++(M,re a.1 xk) :: (Zv++(G,re p xp) :: (r5,re a.1 a.2) :: (y,re a.1 (iT 1 (rows a.1.op.l))) :: (B++[(Zs,Kt d),(Zt,re p ro),(U,Kt d),(r6,re c.1 c.2)]))) (J2 λi li x=>by
   simp only[List.count_append,List.count_cons,List.count_nil]
   ac_rfl)
  refine VV (λH b=>?_) a.1.op.l.length 0 a.1.op.l xk S H (by omega) (by omega) Y h1
  exact VU f j n t h v p.op.l.length 0 p.op.l xp Zv H (by omega) (by omega) hp b) l.length 0 H (by omega) b
 clear v b hp Y h n j f k o u D C Z
 generalize iT 1 (rows a.1.op.l)=O at *
 simp[ak, *,kT,eF]
 exact T
end
end
section
attribute [local simp] bn aO aE aQ aP oq q9 cy ld bp aG aU cZ cY aX bo ar bS fC
attribute [local simp] s9 TM dt
theorem SE{H:ab}{d:List (Ref × aJ)}(h:oc H d []){t:Nat}{A:AV}{b:List UInt8}(s:Sl 1 (al b) A)(B:b.length<2000000){K:AV->ab->Prop}
 (n : ∀q z e,th false 1 (al b) q e->Lh 1 (al b) q=iT 1 (al b)->oc z (e++d) []->K q z) :
 iq (cS env.P true H (⟨0,t,ab.gen H 0 t,0⟩:Ref) (some 27) (some 27) (.v (.slice none 0 0)) A) K:=by
 have i:=s.kq
 have k:=s.r
 by_cases a:b=[]
 ·have c:=n bF H [] (.inl ⟨rfl,by rw[a];rfl,rfl⟩) (by rw[a];rfl) h
  subst a
  clear n
  simp[i,k]
  exact c
 ·have g:al b≠[]:=by simpa [al] using a
  have c:=n (.bD ⟨0,t,H.gen 0 t,0⟩ 0 (al b).length none) ((⟨0,t,H.gen 0 t,0⟩,some ⟨1,al b,true,false⟩) :: H) _ (.inr ⟨_,rfl,rfl⟩) (by rw[rC 1 g];rfl) (h.new 0 t _)
  have x:b.length<=140737488355328:=by omega
  clear n
  rw[fY]at c
  simp[g,x,a,i,k]
  exact c
theorem P9{H:ab}{d:List (Ref × aJ)}{t:Nat}{b:List UInt8}{x:AV}{c:List (Ref × aJ)}(f:th false 1 (al b) x c)(v:Lh 1 (al b) x=iT 1 (al b))(h:oc H (c++d) []){K:AV->ab->Prop}
 (g : ∀q n,oc n ((q,⟨1,[iT 1 (al b)],true,false⟩) :: d) []->K (.bD q 0 1 (some 1)) n) :
 iq (jX env.P false true H (⟨0,t,ab.gen H 0 t,0⟩:Ref) 61 1 (some [(0,x)])) K:=by
 rcases f with ⟨rfl,e,rfl⟩ | ⟨q,rfl,rfl⟩
 ·have a:=g _ _ (h.new 0 t ⟨1,[bF],true,false⟩ |> λh=>by rw[e];exact h)
  clear g
  simp
  exact a
 ·have i:=h.has (q,⟨1,al b,true,false⟩) (by simp)
  have k:=(oc.put (b':=⟨1,al b,true,true⟩) h).new 0 t ⟨1,[iT 1 (al b)],true,false⟩
  simp only at i
  rw[ab.fp _ _ _ (by rw[i];rfl)]at k
  have a:=g _ _ (k.sub (List.Sublist.cons_cons _ (Bi _ _)))
  clear g k
  rw[<-v]at a
  simp only[Lh]at a
  generalize al b=B at *
  simp[i]
  exact a
theorem P8{H:ab}{d n:List (Ref × aJ)}{a:AV}{es:List AV}(c:th false 1 es a n)(h:oc H (n++d) []){M:AV}{b:List UInt8}(s:Sl 1 (al b) M)(C:b.length<2000000)(Zs:es.length<100000){K:AV->ab->Prop}
 (R : ∀v I g,th false 1 (es++[iT 1 (al b)]) v g->oc I (g++d) []->K v I) :
 iq (cS env.P true H (⟨0,67,ab.gen H 0 67,0⟩:Ref) (some 27) (some 27) (.v (.slice none 0 0)) M) λJ E=>iq (jX env.P false true E (⟨0,68,ab.gen E 0 68,0⟩:Ref) 61 1 (some [(0,J)])) λX k=>
  iq (cS env.P true k (⟨0,69,ab.gen k 0 69,0⟩:Ref) (some 61) (some 61) a X) λN B=>K N B:=by
 refine SE h s C λJ E V D W i=>?_
 refine P9 D W i λq k i=>?_
 have Z:=i.has (q,⟨1,[iT 1 (al b)],true,false⟩) (by simp)
 have A:yW 1 es k a:=by
  rcases c with ⟨rfl,e,rfl⟩ | ⟨r,rfl,rfl⟩
  ·exact .inl ⟨rfl,e⟩
  ·exact .inr ⟨r,rfl,i.has (r,⟨1,es,true,false⟩) (by simp)⟩
 have F : ∀p∈d,a.at?≠some p.1:=by
  intro p hp
  rcases c with ⟨rfl,e,rfl⟩ | ⟨r,rfl,rfl⟩
  ·simp[AV.at?]
  ·have:=i.nd
   simp only[Er,pR,tk,wy,kf,not_exists,not_and]at this
   intro e
   exact this.2.1 p hp (by simpa [AV.at?] using e.symm)
 have x:KD k.get 1 [iT 1 (al b)] (.bD q 0 1 (some 1)):=Qj Z rfl (some 1)
 obtain⟨s',B,S,Y,O,a4⟩:=Hq (P:=env.P) (t:=61) (t':=61) (z:=1) (by':=24) (by kernel_rfl) (by kernel_rfl) k 0 69 A x (by rw[Bf];show(_+_) * 24<=140737488355328;omega) i.fr
 refine tY S ?_
 rcases Y with ⟨_,e⟩ | ⟨r,rfl,U⟩
 ·simp at e
 ·have L : ∀p∈d,B.get p.1=some p.2/\p.1≠r:=by
   intro p hp
   obtain⟨g1,T⟩:=a4 p.1 p.2 (i.has p (by simp[hp])) (F p hp)
   exact⟨g1,λe=>T (by rw[e];rfl)⟩
  have G:=(i.sub (fs':=d) ((HQ _ _).trans (Bi _ _))).nd
  refine R _ B [(r,⟨1,es++[iT 1 (al b)],true,false⟩)] (.inr ⟨r,rfl,rfl⟩) ⟨O,λp hp=>?_,?_,by simp,by simp,List.Pairwise.nil⟩
  ·rcases eU.1 hp with rfl | hp
   ·exact U
   ·exact(L p hp).1
  ·exact wy.2 ⟨λhm=>by
    obtain⟨p,hp,e⟩:=kf.1 hm
    exact(L p hp).2 e,G⟩
section
variable{l:List (List UInt8 × AV)}{o x5 x11 y w u:AV}(f:Sl 1 (bV l) o)(m:okB l)(s:l.length<800)(j : ∀p∈l,p.1.length<2000000){d:List (Ref × aJ)}{Q:AV->ab->Prop}
include f m s j
theorem Sw(F : ∀b a H,th false 1 (bV (DD l)) b a->oc H (a++d) []->dZ a9 Tryz.f4 0 bL [(13,aI l.length),(4,o),(12,b),(5,x5),(11,x11),(6,y),(3,w),(2,u)] H Q) :
 ∀(n k:Nat)(b:AV)(a:List (Ref × aJ)) (H:ab),k+n=l.length->th false 1 (bV (DD (l.take k))) b a->oc H (a++d) [] ->
 dZ a9 Tryz.f4 0 bL [(13,aI k),(4,o),(12,b),(5,x5),(11,x11),(6,y),(3,w),(2,u)] H Q:=by
 intro n
 induction n with
 | zero=>
  intro k b a H I c z
  obtain rfl:k=l.length:=by omega
  rw[wz]at c
  exact F b a H c z
 | succ n G=>
  intro k b a H I c z
  have h:k<l.length:=by omega
  have q:(k:Int)<l.length:=by omega
  have J:=IntWalk.i64_in ((k:Int)+1) (by omega)
  have D:=f.r
  have hp:Sl 1 (al l[k].1) l[k].2:=m _ (gD h)
  have B:cG (bV l) k 0 1 false=some l[k].2:=by
   simp[bV,cG,cw h,hp.r]
  have C:=j _ (gD h)
  have x:bV (DD (l.take (k+1)))=bV (DD (l.take k))++[iT 1 (al l[k].1)]:=by
   rw[y9,cw h]
   simp only[bV,DD,xd,Option.toList_some,tk,List.map_nil]
  have i:=λv e A=>G (k+1) v e A (by omega)
  rw[x,show((k+1:Nat):Int)=(k:Int)+1 from by omega]at i
  have E:(bV (DD (l.take k))).length<100000:=by simp;omega
  have t:(bV l).length=l.length:=by simp
  clear G F x
  refine iU _ _ _ _ _ _ _ _ _ _ λg=>?_
  unfold eZ
  have M:=hp.r
  simp[f.idx,q,B,t,D]
  refine P8 c z hp C E λv A e L K=>?_
  replace i:=i v e A L K
  simp[J]
  exact i
end
theorem OG{H:ab}{d:List (Ref × aJ)}(h:oc H d []){t:Nat}(p:eQ){x:AV}(e:x.cells=[x]/\x.one=true){K:AV->ab->Prop}
 (b : ∀r c,oc c ((r,re p x) :: d) []->K (.ptr r 0 0) c) :
 iq (jB H (⟨0,t,ab.gen H 0 t,0⟩:Ref) (E5 env.P (⟨0,t,ab.gen H 0 t,0⟩:Ref) 60 (some (p.val x)))) K:=by
 have a:=b ⟨0,t,H.gen 0 t,0⟩ ((⟨0,t,H.gen 0 t,0⟩,some (re p x)) :: H) (h.new 0 t _)
 clear b
 simp only[re,eQ.val]at a ⊢
 simp[e.1,e.2]
 exact a
theorem TI{l:List (List UInt8 × AV)}(j : ∀p∈l,p.1.length<=1048576):(fy (eB l)).length<=1048576 * l.length:=by
 induction l with
 | nil=>simp[fy,eB]
 | cons p l a=>
  have e:=j p (by simp)
  have b:=a λq c=>j q (by simp[c])
  simp only[fy,eB,tk,kZ,gG,lg,ji]at b ⊢
  omega
theorem Sx{a c:eQ × AV}(e:rW a)(k:rW c)(q:oF a.1.op.l){l:List (List UInt8 × AV)}{o:AV}(f:Sl 1 (bV l) o)(m:okB l)(j : ∀p∈l,p.1.length<=1048576)(st nu:Int) :
 au a9 4 [a.1.val a.2,c.1.val c.2,aI st,aI nu,o]=some (aB true):=by
 obtain⟨t,B,h⟩:=Ir f m
 replace B:=kO (by rfl) B
 have J:=f.r
 have z:=e.1.r
 have v:=k.1.r
 have N:(rows a.1.op.l).length=a.1.op.l.length:=by simp[rows]
 have L:(rows c.1.op.l).length=c.1.op.l.length:=by simp[rows]
 rw[N]at z
 rw[L]at v
 by_cases M:a.1.op.l.length<=1000
 ·by_cases O:c.1.op.l.length<=1000
  ·have n1 : ¬(1000:Int)<a.1.op.l.length:=by omega
   have n2 : ¬(1000:Int)<c.1.op.l.length:=by omega
   cases t with
   | false=>
    have A:=kO (by rfl) (K7 e (by omega))
    have C:=qh 1 (rows a.1.op.l)
    have K:=C.r
    refine rG (fn:=Tryz.f4) (c:=cM) rfl (by kernel_rfl) (by kernel_rfl) (by kernel_rfl) (by kernel_rfl) ?_;refine dJ _ _ _ _ _ _ _ λg=>?_
    unfold cP
    refine OG oc.nil a.1 e.1.Dk λr5 H b=>?_
    refine OG b c.1 k.1.Dk λr6 H b=>?_
    have I:=b.has (r5,re a.1 a.2) (by simp)
    have D:=b.has (r6,re c.1 c.2) (by simp)
    simp only[re,eQ.val]at I D A
    simp[ak, *, -mz]
    refine D3 b r5 a.1 _ e.1.Dk (by simp) ?_
    unfold eQ.val
    simp[ak, *, -mz]
    refine OF b a.1 C.Dk λF H b=>?_
    refine Sw f m (by have:=h rfl;omega) (λp hp=>by have:=j p hp;omega) (λG E H n b=>?_) l.length 0 bF [] H (by omega) (.inl ⟨rfl,rfl,rfl⟩) b
    refine P0 e k M q f m (by have:=h rfl;omega) (by have:=h rfl;have:=TI (l:=l) j;omega) st nu (λH=>by simp) n (b.perm (J2 λi P x=>by
     simp only[List.count_append,List.count_cons,List.count_nil]
     ac_rfl))
   | true=>
    refine rG (fn:=Tryz.f4) (c:=cM) rfl (by kernel_rfl) (by kernel_rfl) (by kernel_rfl) (by kernel_rfl) ?_;refine dJ _ _ _ _ _ _ _ λg=>?_
    unfold eQ.val
    clear e k q f m j
    simp[ak, *,cP]
  ·have n1 : ¬(1000:Int)<a.1.op.l.length:=by omega
   have n2:(1000:Int)<c.1.op.l.length:=by omega
   refine rG (fn:=Tryz.f4) (c:=cM) rfl (by kernel_rfl) (by kernel_rfl) (by kernel_rfl) (by kernel_rfl) ?_;refine dJ _ _ _ _ _ _ _ λg=>?_
   unfold eQ.val
   clear e k q f m j
   simp[ak, *,cP]
 ·have n1:(1000:Int)<a.1.op.l.length:=by omega
  refine rG (fn:=Tryz.f4) (c:=cM) rfl (by kernel_rfl) (by kernel_rfl) (by kernel_rfl) (by kernel_rfl) ?_;refine dJ _ _ _ _ _ _ _ λg=>?_
  unfold eQ.val
  clear e k q f m j
  simp[ak, *,cP]
end
end Go.Proofs.YtehkjjcdkbcebaaGreat
namespace Go.Proofs.YtehkjjcdkbcebaaGreat.recordTells
open Go.Ab Go.ChangeShapes Go.WideShapes Go.RowKit
theorem Zp(b:List AV)(h:Js a9.P 20 Tryz.f4.params.toList b)(d : ∀x∈b,pM 1048576 x):au a9 4 b=some (aB true):=by
 rw[show Tryz.f4.params.toList=[60,60,3,3,61] from by kernel_rfl]at h
 obtain⟨y,b,rfl,q,h⟩:=sN h
 obtain⟨t,b,rfl,s,h⟩:=sN h
 obtain⟨u,b,rfl,j,h⟩:=sN h
 obtain⟨v,b,rfl,k,h⟩:=sN h
 obtain⟨p,b,rfl,n,h⟩:=sN h
 obtain rfl:=MP h
 obtain⟨a,g,m,rfl⟩:=JQ q
 obtain⟨c,f,_,rfl⟩:=JQ s
 obtain⟨st,_,rfl⟩:=MR j
 obtain⟨nu,_,rfl⟩:=MR k
 obtain⟨l,e,i⟩:=Sp n
 have w:=DH g (d _ (by simp))
 have n1:=DH f (d _ (by simp))
 have o:=MM e i (d p (by simp))
 exact Sx ⟨g,by omega⟩ ⟨f,by omega⟩ m e i o st nu
def YM:Input:=⟨#[], #[.agg #[.int .u8 0,.int .i64 0,.int .u8 0,.int .u8 0,.int .u32 0,.int .u8 0,.int .i64 0,.int .u8 0,.int .u32 0,.int .u8 0,.int .i64 0,.int .i64 0,.int .u8 0,.int .u32 0,.int .u8 0,.int .i64 0,.int .u8 0,.int .u32 0,.slice none 0 0,.int .i64 0,.int .i64 0,.int .u8 0,.int .u32 0,.bool false],.agg #[.int .u8 0,.int .i64 0,.int .u8 0,.int .u8 0,.int .u32 0,.int .u8 0,.int .i64 0,.int .u8 0,.int .u32 0,.int .u8 0,.int .i64 0,.int .i64 0,.int .u8 0,.int .u32 0,.int .u8 0,.int .i64 0,.int .u8 0,.int .u32 0,.slice none 0 0,.int .i64 0,.int .i64 0,.int .u8 0,.int .u32 0,.bool false],.int .i64 0,.int .i64 0,.slice none 0 0],[]⟩
theorem lifted(e:Os)(a:e.Started)(H:Type)(enc:TypeId × Value->H)(f:Stop.Interp) :
 ReturnsInHanded {} Tryz.checked e 4 .any ((Rows.OpenSpec.upto Rows.recordTellsSpec).pre6 enc Tryz.prog Tryz.f4 Rows.recordTellsUptoRow.domain false) (((Rows.OpenSpec.upto Rows.recordTellsSpec).at f).post enc Tryz.prog Tryz.f4 false true false false):=by
 refine returnsInHanded_of_cond (C:=Tryz.checked) (s:=Rows.OpenSpec.upto Rows.recordTellsSpec) (k:=Rows.uptoSmall) rfl own a (by kernel_rfl) Tryz.func4
  (OpenSpec.witness (enc:=enc) (C:=Tryz.checked) (s:=Rows.OpenSpec.upto Rows.recordTellsSpec) (k:=Rows.uptoSmall) rfl false YM 8 (by kernel_rfl) (by kernel_rfl) (by kernel_rfl)
   (x:=(DataW.whole enc Tryz.prog (World.plainHolding Tryz.prog e YM).memory Tryz.f4.params.toList [] false YM.args.toList 8).get (by kernel_rfl)) (Option.some_get _).symm (by kernel_rfl) (by kernel_rfl)) ?_
 intro W c args ds i b d j _ g _
 exact Cp (E:=a9) TB kids (slices_full_of Tryz.prog (by kernel_rfl)) (s:=(Rows.OpenSpec.upto Rows.recordTellsSpec).at f) (m:=20) (λt h=>of_decide_eq_true (da.1 (show Tryz.f4.params.toList.all (λt=>decide (t<Tryz.prog.types.size))=true by kernel_rfl) t h)) (by kernel_rfl) rfl
  (λds l=>by match ds,l with | [_,_,_,_,_],_=>rfl) (by kernel_rfl) Jk OC Zp W c args ds i b d j (Jj g)
theorem nI:Rows.recordTellsUptoRow.holds Tryz.pinned (Rows.OpenSpec.upto Rows.recordTellsSpec):=
 OpenClaim.holds_of_cond 4 Tryz.f4 rfl rfl rfl rfl rfl rfl rfl ⟨rfl,rfl,rfl,rfl,rfl⟩ rfl rfl rfl rfl rfl (by kernel_rfl) Tryz.func4 (by kernel_rfl)
  (of_decide_eq_true (by kernel_rfl)) (by unfold Func.isWrapper;first | (rw[if_pos (by decide +kernel)];kernel_rfl) | (rw[if_neg (by decide +kernel)];exact⟨rfl,rfl⟩))
  (λc a H enc _ b=>lifted c a H enc b)
theorem proved:Rows.RecordTellsUptoSaid:=
 nI
end Go.Proofs.YtehkjjcdkbcebaaGreat.recordTells
