/-
  The document's answers on grants' bytes and handles' bytes. No statement of a seat is proved here.
-/
import Derived.Test.YtmjkpdknicjjgaaGreatMDtLaw2
import Derived.Test.YtmjkpdknicjjgaaGreatMLogFns
set_option linter.unusedVariables false
set_option linter.unusedSimpArgs false
set_option linter.unusedSectionVars false
set_option linter.unnecessarySimpa false
set_option maxRecDepth 1000000
namespace Go.Proofs.YtmjkpdknicjjgaaGreat
open Go.Ab
section
attribute [local simp] aC aw ah aq ao bk jE aE ar ax bo bn aG aD ae aN cN
@[simp] theorem acB(v:UInt8)(c:UInt32)(ok:Bool):ay env 84 [.agg [a8 v,bO c,aB ok]]=some (aB (vY v c ok)):=by
 refine aM rfl (by kernel_rfl) (tH _ _ _ λg=>?_);by_cases h:v<=15
 ·cases ok
  ·by_cases a:v=0;·by_cases b:c=0<;>simp[an, *,fm,vY,h,a,b,nG,gm]
   simp[an, *,fm,vY,h,a,nG,gm]
  simp[an, *,fm,vY,h]
 simp[an, *,fm,vY,h]
@[simp] theorem PB(a:Int)(v:UInt8)(c:UInt32)(ok:Bool):ay env 55 [.agg [aI a,a8 v,bO c,aB ok]]=some (aB (ru a v c ok)):=by
 refine aM rfl (by kernel_rfl) (xQ _ _ _ λg=>?_);by_cases h:0<=a;·by_cases b:a<8<;>simp[an, *,m8,ru,h,b]
 simp[an, *,m8,ru,h]
theorem QW(a:Int)(v:UInt8)(c:UInt32)(ok:Bool):ay env 87 [.agg [aI a,a8 v,bO c,aB ok]]=some (.bq 1 (aA (kz a v c ok)) none):=by
 refine aM rfl (by kernel_rfl) (vN _ _ _ λg=>?_);have b:=Iv v c 0;have d:aA (cr ⟨v,c,0⟩)=a8 v :: (aA (be 4 c.toNat)++[a8 0]):=by simp[cr,aA]
 have e:(aA (be 4 c.toNat)).length=4:=by simp
 rw[d]at b;cases ok;·simp[an, *,lR,kz];rfl
 simp[an, *,lR,kz];rfl
theorem NS{l:List UInt8}{x:AV}(d:Sl 1 (aA l) x)(t:l.length<=7){Q:AV->aa->Prop}{H:aa} : ∀(s:List UInt8)(k:Nat)(a:Int),l.drop k=s->k<=l.length->0<=a->a<256 ^ k->(∀y,y=aI (Au a s)->Q y H) ->
 cB env Tryz.f150 0 gT [(4,aI k),(0,x),(3,aI a)] H Q:=by
 intro s;induction s with
 | nil=>intro k a c i j n b;obtain rfl:=drop_nil c i;refine nC _ _ _ _ _ λg=>?_;simp[an, *,kC,d.r];exact b _ rfl
 | cons p s h=>intro k a c i j n b;obtain⟨m,w,f,o⟩:=drop_cons c;have hp:=p.toNat_lt;have v:=Ae (k:=k) 6 (by omega);have u:=iQa (256 * a) (by omega);have q:=iQa (256 * a+p.toNat) (by omega);have z:=iQa ((k:Int)+1) (by omega);have e:=h (k+1) (256 * a+p.toNat) f (by omega) (by omega) (by rw[Bj];omega) b;rw[show((k+1:Nat):Int)=(k:Int)+1 from by omega]at e;clear h b;refine nC _ _ _ _ _ λg=>?_;simp[an, *,kC,d.r,d.idx];done
theorem W0{l:List UInt8}{x:AV}(b:Sl 1 (aA l) x)(a:l.length<=7):ay env 150 [x]=some (aI (val l)):=by
 refine aM rfl (by kernel_rfl) (uZ _ _ _ λg=>?_);unfold oR;exact NS b a l 0 0 rfl (by omega) (by omega) (by decide) (λy e=>by rw[e];simp[val])
theorem TA{l:List UInt8}{x:AV}(m:Sl 1 (aA l) x)(o:l.length=6):ay env 134 [x]=some (if fA (ik l) then .tup [.agg [a8 (ik l).lv,bO (ik l).cats,a8 (ik l).num],aI 0] else .tup [.agg [a8 0,bO 0,a8 0],aI 8]):=by
 obtain⟨a,b,c,d,e,f,rfl⟩:=JI o;obtain⟨j,rfl,n⟩:=mP m (by simp[aA]);refine aM rfl (by kernel_rfl) (ta _ _ _ λg=>?_);have k:ik [a,b,c,d,e,f]=⟨a,u32 (val [b,c,d,e]),f⟩:=rfl;have p:=W0 (l:=[b,c,d,e]) (x := .bq 1 [a8 b,a8 c,a8 d,a8 e] (j.map (· - 1))) (.inr ⟨_,rfl,by cases j with | none=>simp[aA] | some c=>simp[aA]at n ⊢;omega⟩) (by simp);have h:=Ce a (u32 (val [b,c,d,e])) f;rw[k];generalize val [b,c,d,e]=V at *;cases i:fA ⟨a,u32 V,f⟩;·rw[i]at h;simp[an, *,j4,aA];done
 rw[i]at h;simp[an, *,j4,aA];done
def gOk(b:List UInt8):Bool:=decide (b.getD 1 0<=1)&&ru (b.getD 0 0).toNat (b.getD 2 0) (u32 (val ((b.drop 3).take 4))) (decide (b.getD 1 0=1))
theorem WZ{c:Option Nat}{b0 b1 b2 b3 b4 b5 b6:UInt8}(s:7<=c.getD 7):ay env 136 [.bq 1 [a8 b0,a8 b1,a8 b2,a8 b3,a8 b4,a8 b5,a8 b6] c] =
 some (if decide (b1<=1)&&ru b0.toNat b2 (u32 (val [b3,b4,b5,b6])) (decide (b1=1)) then .tup [.agg [aI b0.toNat,a8 b2,bO (u32 (val [b3,b4,b5,b6])),aB (decide (b1=1))],aI 0] else .tup [.agg [aI 0,a8 0,bO 0,aB false],aI 8]):=by
 refine aM rfl (by kernel_rfl) (xR _ _ _ λg=>?_);have f:=b3.toNat_lt;have i:=b4.toNat_lt;have p:=b5.toNat_lt;have n:=b6.toNat_lt;have l:=iQa ((b3.toNat:Int)) (by omega);have o:=iQa (256 * (b3.toNat:Int)) (by omega);have m:=iQa (256 * (b3.toNat:Int)+b4.toNat) (by omega);have h:=iQa (256 * (256 * (b3.toNat:Int)+b4.toNat)) (by omega);have k:=iQa (256 * (256 * (b3.toNat:Int)+b4.toNat)+b5.toNat) (by omega);have j:=iQa (256 * (256 * (256 * (b3.toNat:Int)+b4.toNat)+b5.toNat)) (by omega);have q:=iQa (256 * (256 * (256 * (b3.toNat:Int)+b4.toNat)+b5.toNat)+b6.toNat) (by omega);have e:val [b3,b4,b5,b6]=256 * (256 * (256 * (b3.toNat:Int)+b4.toNat)+b5.toNat)+b6.toNat:=by simp[val,Au]
 by_cases a:b1<=1
 ·have d : ¬1<b1:=by rw[UInt8.not_lt];exact a
  have b:=PB b0.toNat b2 (u32 (val [b3,b4,b5,b6])) (decide (b1=1));rw[e]at b ⊢;simp only[a,iQF,ia];cases hm:ru b0.toNat b2 (u32 (256 * (256 * (256 * (b3.toNat:Int)+b4.toNat)+b5.toNat)+b6.toNat)) (decide (b1=1));·rw[hm]at b;simp[an, *,kB];refine bY _ _ _ _ _ _ λg=>?_;simp[an, *,bM];refine bY _ _ _ _ _ _ λg=>?_;simp[an, *,bM];refine bY _ _ _ _ _ _ λg=>?_;simp[an, *,bM];refine bY _ _ _ _ _ _ λg=>?_;simp[an, *,bM];refine bY _ _ _ _ _ _ λg=>?_;simp[an, *,bM]
  rw[hm]at b;simp[an, *,kB];refine bY _ _ _ _ _ _ λg=>?_;simp[an, *,bM];refine bY _ _ _ _ _ _ λg=>?_;simp[an, *,bM];refine bY _ _ _ _ _ _ λg=>?_;simp[an, *,bM];refine bY _ _ _ _ _ _ λg=>?_;simp[an, *,bM];refine bY _ _ _ _ _ _ λg=>?_;simp[an, *,bM]
 have d:1<b1:=by rw[<-UInt8.not_le];exact a
 simp[an, *,kB,a];done
def eN(d:Dk)(p:Int)(n:Nat):List (List UInt8):=(List.range n).map λ(i:Nat)=>d.rd (p+(i:Int))
@[simp] theorem sh(d:Dk)(p:Int)(n:Nat):(eN d p n).length=n:=by simp[eN]
theorem Ex(d:Dk)(p:Int)(n:Nat):eN d p (n+1)=eN d p n++[d.rd (p+n)]:=by simp[eN,List.range_succ]
theorem Hm{d:Dk}(c:d.may=true)(p:Int)(n:Nat) : ∀b∈eN d p n,b.length=128:=by
 intro b h;obtain⟨i,_,rfl⟩:=j6.1 h;exact aaH c _
def qu(d:Dk)(p at' nu:Int):Option (cU × Nat):=
 if 2048<=at' then none else if gZ (d.rd p)&&(decide ((dh (d.rd p)).nu=nu)&&decide (at'+(dh (d.rd p)).of<=2048)) then
  (vX (eN d p (dh (d.rd p)).of.toNat)).map λq=>(q.1,(dh (d.rd p)).of.toNat) else none
def qw:Option (cU × Nat)->AV
 | some (r,n) => .tup [r.val (lB r.op.l),aI n]
 | none => .tup [jF.val aO,aI 0]
theorem PY{b:List UInt8}(h:gZ b=true):1<=(dh b).of/\(dh b).of<=4:=by
 unfold gZ kb at h;simp at h;omega
def rZ(l:List Int):Prop :=∀a∈l, -2147483648<=a/\a<=2147483647
def xn(p:cU × AV):Prop:=Sl 1 (rows p.1.op.l) p.2/\p.1.op.l.length<1100000
theorem W2(k1 N:UInt8)(P M:Int)(B:UInt8)(z:UInt8)(a_3:UInt32)(D:UInt8)(F:Int)(I:UInt8)(G:UInt32)(J:UInt8)(H:Int)(c:Int)(b:UInt8)(e:UInt32)(j:UInt8)(f:Int)(d:UInt8)(h:UInt32)(w:UInt8)(v:UInt8)(K:UInt32)(A:UInt8)(u:Int)(E:UInt8)(t:UInt32)(C:UInt8)(s:Int)(q:Int)(k:UInt8)(i:UInt32)(p:UInt8)(a:Int)(o:UInt8)(n:UInt32)(L O V Z:Int)(X U:UInt8)(T W:UInt32)(Y R:Bool){x y:AV}{l m:List Int}(Q:Sl 1 (rows l) x)(S:Sl 1 (rows m) y)(hl:l.length<1000000000)(hm:m.length<1000000000) :
 ay env 31 [.agg [a8 k1,aI P,a8 B,a8 z,bO a_3,a8 D,aI F,a8 I,bO G,a8 J,aI H,aI c,a8 b,bO e,a8 j,aI f,a8 d,bO h,x,aI L,aI V,a8 X,bO T,aB Y],.agg [a8 N,aI M,a8 w,a8 v,bO K,a8 A,aI u,a8 E,bO t,a8 C,aI s,aI q,a8 k,bO i,a8 p,aI a,a8 o,bO n,y,aI O,aI Z,a8 U,bO W,aB R]] =
  some (aB (mJ ⟨k1,P,(⟨B,⟨z,a_3,D⟩,F,⟨⟨⟨I,G,J⟩,H⟩,c⟩,⟨⟨b,e,j⟩,f⟩,⟨d,h⟩,l⟩:fG),L,V,X,T,Y⟩ ⟨N,M,(⟨w,⟨v,K,A⟩,u,⟨⟨⟨E,t,C⟩,s⟩,q⟩,⟨⟨k,i,p⟩,a⟩,⟨o,n⟩,m⟩:fG),O,Z,U,W,R⟩)):=by
 refine aM rfl (by kernel_rfl) (wP _ _ _ _ λg=>?_);have hq:=Dt B z a_3 D F I G J H c b e j f d h w v K A u E t C s q k i p a o n Q S hl hm;have hr:=Q.r;have hr2:=S.r;unfold mJ;cases e1:decide (k1=N) with
 | false=>simp[an, *,fq,nG,gm]
 | true=>
 cases e2:decide (P=M) with| false=>simp[an, *,fq,nG,gm]| true=>
 cases e3:nR (⟨B,⟨z,a_3,D⟩,F,⟨⟨⟨I,G,J⟩,H⟩,c⟩,⟨⟨b,e,j⟩,f⟩,⟨d,h⟩,l⟩:fG) (⟨w,⟨v,K,A⟩,u,⟨⟨⟨E,t,C⟩,s⟩,q⟩,⟨⟨k,i,p⟩,a⟩,⟨o,n⟩,m⟩:fG) with| false=>simp[an, *,fq,nG,gm]| true=>
 cases e4:decide (L=O) with| false=>simp[an, *,fq,nG,gm]| true=>simp[an, *,fq,nG,gm]
theorem aer{p q:cU × AV}(hp:xn p)(T:xn q):ay env 31 [p.1.val p.2,q.1.val q.2]=some (aB (mJ p.1 q.1)):=by
 obtain⟨⟨k,u,⟨Q,⟨N,a_3,D⟩,G,⟨⟨⟨K,I,O⟩,J⟩,f⟩,⟨⟨e,d,n⟩,h⟩,⟨b,i⟩,l⟩,c,g,v,w,o⟩,x⟩:=p;obtain⟨⟨k',V,⟨L,⟨M,R,P⟩,H,⟨⟨⟨F,E,S⟩,C⟩,B⟩,⟨⟨s,j,A⟩,a⟩,⟨z,t⟩,m⟩,c',W,U,w',o'⟩,y⟩:=q;exact W2 k k' u V Q N a_3 D G K I O J f e d n h b i L M R P H F E S C B s j A a z t c c' g W v U w w' o o' hp.1 T.1 (by have:=hp.2;simp at this;omega) (by have:=T.2;simp at this;omega)
theorem Q3(q:UInt8)(t:UInt8)(a_3:UInt32)(s:UInt8)(j:Int)(o:UInt8)(k:UInt32)(p:UInt8)(n:Int)(d:Int)(c:UInt8)(b:UInt32)(i:UInt8)(e:Int)(a:UInt8)(f:UInt32){x:AV}{l:List Int}(u:Sl 1 (rows l) x)(v:l.length<1000000000):ay env 50 [.agg [a8 q,a8 t,bO a_3,a8 s,aI j,a8 o,bO k,a8 p,aI n,aI d,a8 c,bO b,a8 i,aI e,a8 a,bO f,x]]=some (aB (nR { (⟨q,⟨t,a_3,s⟩,j,⟨⟨⟨o,k,p⟩,n⟩,d⟩,⟨⟨c,b,i⟩,e⟩,⟨a,f⟩,l⟩:fG)with h:=⟨0,0,0⟩} dp)):=by
 have h:=Dt q 0 0 0 j o k p n d c b i e a f 0 0 0 0 0 0 0 0 0 0 0 0 0 0 0 0 u (y:=aO) (m:=[]) (.inl ⟨rfl,rfl⟩) v (by simp);refine aM rfl (by kernel_rfl) (wO _ _ _ λg=>?_);simp[an, *,pY,u.r];rfl
theorem TF(k:UInt8)(u:Int)(t:UInt8)(p:UInt8)(a_3:UInt32)(s:UInt8)(z:Int)(C:UInt8)(A:UInt32)(D:UInt8)(B:Int)(b:Int)(a:UInt8)(e:UInt32)(j:UInt8)(f:Int)(d:UInt8)(i:UInt32)(c H:Int)(v:UInt8)(w:UInt32)(o:Bool){x:AV}{l:List Int}(E:Sl 1 (rows l) x)(W:l.length<100000)(X:rZ l) :
 ay env 26 [.agg [a8 k,aI u,a8 t,a8 p,bO a_3,a8 s,aI z,a8 C,bO A,a8 D,aI B,aI b,a8 a,bO e,a8 j,aI f,a8 d,bO i,x,aI c,aI H,a8 v,bO w,aB o]]=some (aB (dw ⟨k,u,(⟨t,⟨p,a_3,s⟩,z,⟨⟨⟨C,A,D⟩,B⟩,b⟩,⟨⟨a,e,j⟩,f⟩,⟨d,i⟩,l⟩:fG),c,H,v,w,o⟩)):=by
 have I:=Q3 t p a_3 s z C A D B b a e j f d i E (by omega);have K:=EY t p a_3 s z C A D B b a e j f d i E (by omega) X;have L:=QV t p a_3 s z C A D B b a e j f d i E W;have Q:=PB H v w o;have J:=Ce p a_3 s;refine aM rfl (by kernel_rfl) (xN _ _ _ λg=>?_);have N:nR { (⟨t,⟨p,a_3,s⟩,z,⟨⟨⟨C,A,D⟩,B⟩,b⟩,⟨⟨a,e,j⟩,f⟩,⟨d,i⟩,l⟩:fG)with h:=⟨0,0,0⟩} dp=nR (⟨t,⟨p,a_3,s⟩,z,⟨⟨⟨C,A,D⟩,B⟩,b⟩,⟨⟨a,e,j⟩,f⟩,⟨d,i⟩,l⟩:fG) { dp with h:=⟨p,a_3,s⟩}:=by
  simp[nR,dp]
 by_cases k1:k=1
 ·subst k1;have G:dw ⟨1,u,(⟨t,⟨p,a_3,s⟩,z,⟨⟨⟨C,A,D⟩,B⟩,b⟩,⟨⟨a,e,j⟩,f⟩,⟨d,i⟩,l⟩:fG),c,H,v,w,o⟩=((decide (0<=u)&&decide (u<=255))&&(fA ⟨p,a_3,s⟩&&(nR { (⟨t,⟨p,a_3,s⟩,z,⟨⟨⟨C,A,D⟩,B⟩,b⟩,⟨⟨a,e,j⟩,f⟩,⟨d,i⟩,l⟩:fG)with h:=⟨0,0,0⟩} dp&&(decide (c=0)&&(decide (H=0)&&(decide (v=0)&&decide (w=0)&&decide (o=false))))))):=by
   rw[N];simp[dw,FE,mJ]
  rw[G];clear N G K L Q;generalize nR { (⟨t,⟨p,a_3,s⟩,z,⟨⟨⟨C,A,D⟩,B⟩,b⟩,⟨⟨a,e,j⟩,f⟩,⟨d,i⟩,l⟩:fG)with h:=⟨0,0,0⟩} dp=n at *;generalize fA ⟨p,a_3,s⟩=hh at *;cases n with
  | false=>simp[an, *,aW,E.r,I]
  | true=>
  cases hh with| false=>simp[an, *,aW,E.r,I,J]| true=>
  by_cases F:0<=u
  ·by_cases T:u<=255
   ·by_cases c0:c=0;·simp[an, *,aW,E.r,I,J,F,T,c0,nG,gm]
    simp[an, *,aW,E.r,I,J,F,T,c0]
   simp[an, *,aW,E.r,I,J,F,T]
  simp[an, *,aW,E.r,I,J,F]
 by_cases F:u=0
 ·by_cases M:k=2
  ·subst M;have G:dw ⟨2,u,(⟨t,⟨p,a_3,s⟩,z,⟨⟨⟨C,A,D⟩,B⟩,b⟩,⟨⟨a,e,j⟩,f⟩,⟨d,i⟩,l⟩:fG),c,H,v,w,o⟩=(qj (⟨t,⟨p,a_3,s⟩,z,⟨⟨⟨C,A,D⟩,B⟩,b⟩,⟨⟨a,e,j⟩,f⟩,⟨d,i⟩,l⟩:fG)&&(!decide (-1∈l)&&((decide (0<=c)&&decide (c<65536))&&(decide (H=0)&&(decide (v=0)&&decide (w=0)&&decide (o=false)))))):=by
    have V : ∀q:fG,nR q q=true:=λq=>by simp[nR]
    simp only[dw,FE,mJ,V,F,show ¬((2:UInt8)=1) from by decide,iQh,if_true,iQF,ia];cases qj (⟨t,⟨p,a_3,s⟩,z,⟨⟨⟨C,A,D⟩,B⟩,b⟩,⟨⟨a,e,j⟩,f⟩,⟨d,i⟩,l⟩:fG)<;>cases decide (-1∈l)<;>cases decide (0<=c)<;>cases decide (c<65536)<;>simp
   rw[G];clear N G I J Q;generalize qj (⟨t,⟨p,a_3,s⟩,z,⟨⟨⟨C,A,D⟩,B⟩,b⟩,⟨⟨a,e,j⟩,f⟩,⟨d,i⟩,l⟩:fG)=n at *;generalize S:decide (-1∈l)=pl at *;clear S;cases n with
   | false=>simp[an, *,aW,E.r,K,F]
   | true=>
   cases pl with| true=>simp[an, *,aW,E.r,K,L,F]| false=>
   by_cases c0:0<=c
   ·by_cases U:c<65536;·simp[an, *,aW,E.r,K,L,F,c0,U,nG,gm]
    simp[an, *,aW,E.r,K,L,F,c0,U]
   simp[an, *,aW,E.r,K,L,F,c0]
  by_cases O:k=3
  ·subst O;have R:=Dt t p a_3 s z C A D B b a e j f d i 0 0 0 0 0 0 0 0 0 0 0 0 0 0 0 0 E (y:=aO) (m:=[]) (.inl ⟨rfl,rfl⟩) (by omega) (by simp);have G:dw ⟨3,u,(⟨t,⟨p,a_3,s⟩,z,⟨⟨⟨C,A,D⟩,B⟩,b⟩,⟨⟨a,e,j⟩,f⟩,⟨d,i⟩,l⟩:fG),c,H,v,w,o⟩=(nR (⟨t,⟨p,a_3,s⟩,z,⟨⟨⟨C,A,D⟩,B⟩,b⟩,⟨⟨a,e,j⟩,f⟩,⟨d,i⟩,l⟩:fG) dp&&(decide (c=0)&&ru H v w o)):=by
    simp only[dw,FE,mJ,F,show ¬((3:UInt8)=1) from by decide,show ¬((3:UInt8)=2) from by decide,iQh,if_true,iQF,ia];cases ru H v w o<;>cases nR (⟨t,⟨p,a_3,s⟩,z,⟨⟨⟨C,A,D⟩,B⟩,b⟩,⟨⟨a,e,j⟩,f⟩,⟨d,i⟩,l⟩:fG) dp<;>simp
   rw[G];have P:nR (⟨t,⟨p,a_3,s⟩,z,⟨⟨⟨C,A,D⟩,B⟩,b⟩,⟨⟨a,e,j⟩,f⟩,⟨d,i⟩,l⟩:fG) ⟨0,⟨0,0,0⟩,0,⟨⟨⟨0,0,0⟩,0⟩,0⟩,⟨⟨0,0,0⟩,0⟩,⟨0,0⟩,[]⟩=nR (⟨t,⟨p,a_3,s⟩,z,⟨⟨⟨C,A,D⟩,B⟩,b⟩,⟨⟨a,e,j⟩,f⟩,⟨d,i⟩,l⟩:fG) dp:=rfl;rw[P]at R;clear N G I J K L P;generalize nR (⟨t,⟨p,a_3,s⟩,z,⟨⟨⟨C,A,D⟩,B⟩,b⟩,⟨⟨a,e,j⟩,f⟩,⟨d,i⟩,l⟩:fG) dp=n at *;generalize ru H v w o=m at *;cases n with
   | false=>simp[an, *,aW,E.r,R,F]
   | true=>
    by_cases c0:c=0;·simp[an, *,aW,E.r,R,Q,F,c0]
    simp[an, *,aW,E.r,R,F,c0]
  have G:dw ⟨k,u,(⟨t,⟨p,a_3,s⟩,z,⟨⟨⟨C,A,D⟩,B⟩,b⟩,⟨⟨a,e,j⟩,f⟩,⟨d,i⟩,l⟩:fG),c,H,v,w,o⟩=false:=(by simp[dw,k1,M,O]);rw[G];clear N G I J K L Q;simp[an, *,aW,E.r,F,k1,M,O]
 have G:dw ⟨k,u,(⟨t,⟨p,a_3,s⟩,z,⟨⟨⟨C,A,D⟩,B⟩,b⟩,⟨⟨a,e,j⟩,f⟩,⟨d,i⟩,l⟩:fG),c,H,v,w,o⟩=false:=by
  simp only[dw,FE,mJ,k1,iQh];by_cases M:k=2;·simp[M,F]
  by_cases O:k=3<;>simp[M,O,F]
 rw[G];clear N G I J K L Q;simp[an, *,aW,E.r,F,k1]
theorem TG{p:cU × AV}(hp:xn p)(A:p.1.op.l.length<100000)(B:rZ p.1.op.l):ay env 26 [p.1.val p.2]=some (aB (dw p.1)):=by
 obtain⟨⟨k,u,⟨z,⟨t,a_3,j⟩,m,⟨⟨⟨s,n,y⟩,q⟩,e⟩,⟨⟨d,b,i⟩,f⟩,⟨a,h⟩,l⟩,c,g,v,w,o⟩,x⟩:=p;exact TF k u z t a_3 j m s n y q e d b i f a h c g v w o hp.1 A B
end
section
attribute [local simp] aC aw ah aq ao bk jE aE ar ax bo bn aG aD ae aN cN
attribute [local simp] An bsO cZ
theorem K5(k:UInt8)(u:Int)(y:UInt8)(q:UInt8)(a_3:UInt32)(s:UInt8)(z:Int)(C:UInt8)(A:UInt32)(D:UInt8)(B:Int)(d:Int)(b:UInt8)(i:UInt32)(n:UInt8)(j:Int)(f:UInt8)(m:UInt32)(c E:Int)(v:UInt8)(w:UInt32)(o:Bool){x:AV}{l:List Int}(L:Sl 1 (rows l) x)(a:l.length<100000)(F:dw ⟨k,u,(⟨y,⟨q,a_3,s⟩,z,⟨⟨⟨C,A,D⟩,B⟩,d⟩,⟨⟨b,i,n⟩,j⟩,⟨f,m⟩,l⟩:fG),c,E,v,w,o⟩=true) :
 ay env 56 [.agg [a8 k,aI u,a8 y,a8 q,bO a_3,a8 s,aI z,a8 C,bO A,a8 D,aI B,aI d,a8 b,bO i,a8 n,aI j,a8 f,bO m,x,aI c,aI E,a8 v,bO w,aB o]]=some (.bq 1 (aA (mb ⟨k,u,(⟨y,⟨q,a_3,s⟩,z,⟨⟨⟨C,A,D⟩,B⟩,d⟩,⟨⟨b,i,n⟩,j⟩,⟨f,m⟩,l⟩:fG),c,E,v,w,o⟩)) none):=by
 have Z:=L.r;by_cases k1:k=1
 ·subst k1;have hN:=Iv q a_3 s;have e:mb ⟨1,u,(⟨y,⟨q,a_3,s⟩,z,⟨⟨⟨C,A,D⟩,B⟩,d⟩,⟨⟨b,i,n⟩,j⟩,⟨f,m⟩,l⟩:fG),c,E,v,w,o⟩=1 :: (cr ⟨q,a_3,s⟩++[u8 u]):=rfl;have O:(cr ⟨q,a_3,s⟩).length=6:=by simp[cr]
  have I:cr ⟨q,a_3,s⟩≠[]:=by intro h;rw[h]at O;simp at O
  rw[e];clear F e a;generalize cr ⟨q,a_3,s⟩=hb at *;refine aM rfl (by kernel_rfl) (lK _ _ _ λg=>?_);simp[an, *,jD,aA];done
 by_cases N:k=2
 ·subst N;have G:qj (⟨y,⟨q,a_3,s⟩,z,⟨⟨⟨C,A,D⟩,B⟩,d⟩,⟨⟨b,i,n⟩,j⟩,⟨f,m⟩,l⟩:fG)=true/\0<=c/\c<65536:=by
   simp only[dw,if_neg k1,if_true,bt,iQb]at F;exact⟨F.2.1,F.1.1.2,F.1.2⟩
  obtain⟨G,c0,X⟩:=G;have R:=z8 y q a_3 s z C A D B d b i n j f m L a G;have e:mb ⟨2,u,(⟨y,⟨q,a_3,s⟩,z,⟨⟨⟨C,A,D⟩,B⟩,d⟩,⟨⟨b,i,n⟩,j⟩,⟨f,m⟩,l⟩:fG),c,E,v,w,o⟩=2 :: ([u8 (c / 256),u8 c]++eZ (⟨y,⟨q,a_3,s⟩,z,⟨⟨⟨C,A,D⟩,B⟩,d⟩,⟨⟨b,i,n⟩,j⟩,⟨f,m⟩,l⟩:fG)):=rfl;have H:(eZ (⟨y,⟨q,a_3,s⟩,z,⟨⟨⟨C,A,D⟩,B⟩,d⟩,⟨⟨b,i,n⟩,j⟩,⟨f,m⟩,l⟩:fG)).length<=293/\24<=(eZ (⟨y,⟨q,a_3,s⟩,z,⟨⟨⟨C,A,D⟩,B⟩,d⟩,⟨⟨b,i,n⟩,j⟩,⟨f,m⟩,l⟩:fG)).length:=by rw[vx G];exact⟨(uy G).2,(uy G).1⟩
  rw[e];clear F e a G;generalize eZ (⟨y,⟨q,a_3,s⟩,z,⟨⟨⟨C,A,D⟩,B⟩,d⟩,⟨⟨b,i,n⟩,j⟩,⟨f,m⟩,l⟩:fG)=ob at *;have I:ob≠[]:=by rintro rfl;simp at H
  have V:=Tc c0;have W:=S7 c0;have Q:=λt K J=>qB env.P t K J .i64 c 256 (by decide);have S:=λt K J=>pa env.P t K J .i64 c 256 (by decide);have T:=iQa (c / 256) (by omega);rw[V,T]at Q;rw[W]at S;have Y:3+ob.length<=140737488355328/\2<3+ob.length/\0<ob.length/\1+2=3:=by omega
  refine aM rfl (by kernel_rfl) (lK _ _ _ λg=>?_);simp[an, *,jD,aA,lM];exact⟨by omega,cN (by simp;omega)⟩
 by_cases M:k=3
 ·subst M;have R:=QW E v w o;have e:mb ⟨3,u,(⟨y,⟨q,a_3,s⟩,z,⟨⟨⟨C,A,D⟩,B⟩,d⟩,⟨⟨b,i,n⟩,j⟩,⟨f,m⟩,l⟩:fG),c,E,v,w,o⟩=3 :: kz E v w o:=rfl;rw[e];clear F e a;have U:(kz E v w o).length=7:=by simp[kz]
  generalize kz E v w o=gb at *;have I:gb≠[]:=by rintro rfl;simp at U
  refine aM rfl (by kernel_rfl) (lK _ _ _ λg=>?_);simp[an, *,jD,aA];done
 simp[dw,k1,N,M]at F
theorem Gh{p:cU × AV}(hp:xn p)(a:p.1.op.l.length<100000)(B:dw p.1=true):ay env 56 [p.1.val p.2]=some (.bq 1 (aA (mb p.1)) none):=by
 obtain⟨⟨k,u,⟨A,⟨y,a_3,m⟩,n,⟨⟨⟨t,q,z⟩,s⟩,f⟩,⟨⟨e,d,j⟩,h⟩,⟨b,i⟩,l⟩,c,g,v,w,o⟩,x⟩:=p;exact K5 k u A y a_3 m n t q z s f e d j h b i c g v w o hp.1 a B
section
variable{p:cU × AV}(hp:xn p)(a:p.1.op.l.length<100000)
include hp a
theorem Du(b:dw p.1=true):ay env 27 [p.1.val p.2]=some (aI (ir p.1)):=by
 have u:=Gh hp a b;have w:=hp.1.r;have o:=yb b;have m:ir p.1=((mb p.1).length+118) / 119:=rfl;refine aM rfl (by kernel_rfl) (wQ _ _ _ λg=>?_);unfold cU.val at u ⊢;generalize mb p.1=bs at *;generalize ir p.1=N at *;have k:=λt h d=>qB env.P t h d .i64 (bs.length:Int) 119 (by decide);have n:=λt h d=>pa env.P t h d .i64 (bs.length:Int) 119 (by decide);have f:((bs.length:Int)).tdiv 119=((bs.length / 119:Nat):Int):=by rw[FB (by omega)];omega
 have i:((bs.length:Int)).tmod 119=((bs.length % 119:Nat):Int):=by rw[D5 (by omega)];omega
 rw[f]at k;rw[i]at n;obtain⟨D,e⟩ : ∃D:Nat,D=bs.length / 119:=⟨_,rfl⟩;obtain⟨M,c⟩ : ∃M:Nat,M=bs.length % 119:=⟨_,rfl⟩;have q:=iQa (D:Int) (by omega);have x:=iQa ((D:Int)+1) (by omega);rw[<-e,q]at k;rw[<-c]at n;by_cases v:0<M
 ·have j:(N:Int)=(D:Int)+1:=by omega
  have s:(0:Int)<(M:Int):=(by omega);clear b hp m f i e c;simp only[j];simp[an, *,mv];done
 have j:(N:Int)=(D:Int):=by omega
 have s : ¬(0:Int)<(M:Int):=(by omega);clear b hp m f i e c;simp only[j];simp[an, *,mv];done
end
theorem JN(st nu b of:Int):ay env 133 [.agg [aI st,aI nu,aI b,aI of]]=some (aB (kb st nu b of)):=by
 refine aM rfl (by kernel_rfl) (uj _ _ _ λg=>?_);simp[an, *,oh];repeat' ((first | apply qT<;>intro h | apply mY<;>intro h | apply mZ<;>intro h | apply mW<;>intro h | apply mX<;>intro h)<;>(try simp only[iQb,iQc,gz,pF,bt,jt]at h)<;>(try simp[an, *,kb]))
 all_goals (try (simp[kb];omega))
theorem Qh{n:Int}(b:0<=n)(c:n<4294967296):IntKind.i64.wrap (n.tdiv 16777216)=n / 16777216/\IntKind.i64.wrap (n.tdiv 65536)=n / 65536/\IntKind.i64.wrap (n.tdiv 256)=n / 256/\(n / 65536).tmod 256=n / 65536 % 256/\(n / 256).tmod 256=n / 256 % 256/\n.tmod 256=n % 256:=by
 refine⟨?_,?_,?_,D5 (by omega),D5 (by omega),D5 b⟩;all_goals rw[FB b]
 all_goals exact iQa _ (by omega)
theorem Sd{H:aa}{r q:Ref}{B:List UInt8}(d:H.get q=some ⟨1,aA B,true,false⟩)(n:Nat)(h:n<=1000)(g:B.length<=1000){K:AV->aa->Prop}
 (f : ∀c H',H'.get c=some ⟨1,aA (B++List.replicate n 0),true,false⟩->K (.bA c 0 (B.length+n) none) H'):gh (dm env.P true H r (some 57) (some 3) (.bA q 0 B.length none) (aI n)) K:=by
 have b:=Ey (P:=env.P) (t:=57) (t':=3) (by kernel_rfl) (by kernel_rfl) (by kernel_rfl) (H:=H) (r:=r) (q:=q) (es:=aA B) (fz:=false) d n (by simp[aG];omega) (by rw[show nK env.P 57=1 from by kernel_rfl];simp[aG];omega);rw[fW,show jm env.P 57=1 from by kernel_rfl,show eM env.P 57=a8 0 from by kernel_rfl]at b;by_cases e:n=0;·subst e;rw[if_pos rfl]at b;refine tk b (f q H ?_);simpa using d
 rw[if_neg e]at b;refine tk b (f _ _ ?_);rw[aa.bS,if_pos rfl];simp[aA]
theorem TE{st nu i of:Int}(a0:0<=st)(I:st<4294967296)(b0:0<=nu)(b1:nu<4294967296){x:AV}{bs:List UInt8}(F:Sl 1 (aA bs) x)(a:bs.length<=119)(m:bs≠[]) :
 ay env 88 [.agg [aI st,aI nu,aI i,aI of],x]=some (.bq 1 (aA (mD st nu of i bs)) none):=by
 obtain⟨X,rfl,U⟩:=mP F (by simpa [aA] using D1.2 m);have D:=λt c b=>qB env.P t c b .i64 st 16777216 (by decide);have L:=λt c b=>qB env.P t c b .i64 st 65536 (by decide);have O:=λt c b=>qB env.P t c b .i64 st 256 (by decide);have S:=λt c b=>pa env.P t c b .i64 (st / 65536) 256 (by decide);have Q:=λt c b=>pa env.P t c b .i64 (st / 256) 256 (by decide);have R:=λt c b=>pa env.P t c b .i64 st 256 (by decide);obtain⟨v,u,w,A,o,z⟩:=Qh a0 I;rw[v]at D;rw[u]at L;rw[w]at O;rw[A]at S;rw[o]at Q;rw[z]at R;have E:=λt c b=>qB env.P t c b .i64 nu 65536 (by decide);have J:=λt c b=>qB env.P t c b .i64 nu 256 (by decide);have G:=λt c b=>pa env.P t c b .i64 (nu / 256) 256 (by decide);have M:=λt c b=>pa env.P t c b .i64 nu 256 (by decide);obtain⟨d1,d2,d3,d4,d5,d6⟩:=Qh b0 b1;rw[d2]at E;rw[d3]at J;rw[d5]at G;rw[d6]at M;clear v u w A o z d1 d2 d3 d4 d5 d6;have T:aA bs≠[]:=by simpa [aA] using m
 have W:9+bs.length<=140737488355328:=by omega
 have V:IntKind.i64.wrap (128 - (9+(bs.length:Int)))=((119 - bs.length:Nat):Int):=by rw[iQa _ (by omega)];omega
 have C:(aA bs).length=bs.length:=by simp
 refine aM rfl (by kernel_rfl) (xM _ _ _ _ λg=>?_);have f : ∀(n:Ref)(H':aa)(B:List UInt8),H'.get n=some ⟨1,aA B,true,false⟩->dA env 88 (.bA n 0 B.length none) H' (.bq 1 (aA B) none):=λn H' B h=>by simp[h]
 obtain⟨e,d⟩ : ∃e,e=[u8 (st / 16777216),u8 (st / 65536),u8 (st / 256),u8 st,u8 (nu / 65536),u8 (nu / 256),u8 nu,u8 i,u8 of]:=⟨_,rfl⟩;have s:mD st nu of i bs=e++bs++List.replicate (119 - bs.length) 0:=by rw[d];simp[mD,uN,Ys]
 have k:aA (e++bs)=a8 (u8 (st / 16777216)) :: a8 (u8 (st / 65536)) :: a8 (u8 (st / 256)) :: a8 (u8 st) :: a8 (u8 (nu / 65536)) :: a8 (u8 (nu / 256)) :: a8 (u8 nu) :: a8 (u8 i) :: a8 (u8 of) :: aA bs:=by rw[d];rfl
 have j:(e++bs).length=9+bs.length:=by rw[d];simp;omega
 have N:=λ(H:aa)(r q:Ref) hq=>Sd (H:=H) (r:=r) (q:=q) (B:=e++bs) hq (119 - bs.length) (by omega) (by omega) (K:=λy H'=>dA env 88 y H' (.bq 1 (aA (mD st nu of i bs)) none)) (λn H' h=>by
  have:=f n H' _ h;rw[ju,AA,<-s]at this;exact this)
 rw[k,j]at N;clear f k j s d;simp[an, *,ri,lM]
theorem Xv : ∀(m:Nat)(s:List UInt8)(k:Nat),k<(DF m s).length->119 * k<s.length/\(DF m s)[k]?=some ((s.drop (119 * k)).take 119):=by
 intro m;induction m with
 | zero=>intro s k h;simp[DF]at h
 | succ m f=>
  intro s k h;unfold DF at h ⊢;by_cases b:s=[];·rw[if_pos b]at h;simp at h
  rw[if_neg b]at h ⊢;cases k with
  | zero=>exact⟨by have:=D1.2 b;omega,by simp⟩
  | succ k=>obtain⟨g,e⟩:=f (s.drop 119) k (by simpa using h);rw[nM]at g;refine⟨by omega,?_⟩;rw[FA,e,oC];congr 3;omega
theorem OW{r:cU}(a:dw r=true)(st nu:Int){k:Nat}(g:k<ir r):119 * k<(mb r).length/\(bm r st nu)[k]?=some (mD st nu (ir r) k (((mb r).drop (119 * k)).take 119)):=by
 have f:(DF 3 (mb r)).length=ir r:=by rw[GD 3 (mb r) (by have:=(yb a).1;omega)];rfl
 obtain⟨e,b⟩:=Xv 3 (mb r) k (by omega);refine⟨e,?_⟩;unfold bm;rw[Dz,b];simp
section
variable{p:cU × AV}(hp:xn p)(c:p.1.op.l.length<100000)(a:dw p.1=true){st nu:Int}(a0:0<=st)(d:st<4294967296)(b0:0<=nu)(b1:nu<4294967296)
include hp c a a0 d b0 b1
theorem Vu{Q:AV->aa->Prop}(I : ∀j H',fY [39] 1 (cR (bm p.1 st nu)) H' j->Q j H') : ∀(s:List (List UInt8)) (k:Nat) (j:AV) (H:aa),(bm p.1 st nu).drop k=s->k<=(bm p.1 st nu).length->Fr H ->
 H.get ⟨0,3,0,0⟩=some ⟨24,[p.1.val p.2],false,false⟩->fY [39] 1 (cR ((bm p.1 st nu).take k)) H j ->
 cB env Tryz.f57 0 gS [(9,aI k),(3,.ptr ⟨0,3,0,0⟩ 0 0),(2,aI nu),(1,aI st),(8,j),(7,.bq 1 (aA (mb p.1)) none)] H Q:=by
 intro s;induction s with
 | nil=>intro k j H D P V v m;obtain rfl:=drop_nil D P;rw[BT]at m;have L:=Du hp c a;have f:=jN a st nu;have Z:=hp.1.r;have U:=I j H m;rw[f];unfold cU.val at L v;clear I hp m f;refine nB _ _ _ _ _ _ _ _ λg=>?_;simp[an, *,gV];done
 | cons b s O=>
  intro k j H D P V v m;obtain⟨y,W,B,q⟩:=drop_cons D;have L:=Du hp c a;have f:=jN a st nu;have Z:=hp.1.r;rw[f]at y;obtain⟨c1,J⟩:=OW a st nu y;have o:b=mD st nu (ir p.1) k (((mb p.1).drop (119 * k)).take 119):=by rw[q]at J;exact Fq J
  have R:=yb a;have hN:=vq a;have G:ir p.1=((mb p.1).length+118) / 119:=rfl;obtain⟨pc,n⟩ : ∃pc,pc=((mb p.1).drop (119 * k)).take 119:=⟨_,rfl⟩;rw[<-n]at o;have z:pc.length<=119/\pc≠[]:=(by rw[n];refine⟨by rw[j7];omega,λe=>?_⟩;have:=iQf List.length e;rw[j7,nM]at this;simp only[k8]at this;omega);obtain⟨w,C⟩ : ∃w:Int,(if ((k:Int)+1) * 119<((mb p.1).length:Int) then ((k:Int)+1) * 119 else ((mb p.1).length:Int))=w:=⟨_,rfl⟩;have Y:(0:Int)<=(k:Int) * 119/\(k:Int) * 119<=w/\w<=((mb p.1).length:Int):=(by rw[<-C];split<;>omega);have X:((aA (mb p.1)).drop ((k:Int) * 119).toNat).take (w.toNat - ((k:Int) * 119).toNat)=aA pc:=by
   rw[n];unfold aA;rw[<-List.map_drop,<-iQR,show((k:Int) * 119).toNat=119 * k from by omega];congr 1;split at C;·congr 1;omega
   rw[cN (by rw[nM];omega),cN (by rw[nM];omega)]
  have hO:=TE (i:=k) (of:=ir p.1) a0 d b0 b1 (x := .bq 1 (aA pc) none) (Sl.mk _ _) z.1 z.2;rw[<-o]at hO;have h:=λj H'=>O (k+1) j H' B (by omega);have u:(bm p.1 st nu).take (k+1)=(bm p.1 st nu).take k++[b]:=by rw[Ft,q];rfl
  have K:((bm p.1 st nu).take k).length=k:=by rw[j7];omega
  rw[show((k+1:Nat):Int)=(k:Int)+1 from by omega,u]at h;have e1:=iQa ((k:Int) * 119) (by omega);have e2:=iQa ((k:Int)+1) (by omega);have e3:=iQa (((k:Int)+1) * 119) (by omega);have M:(k:Int)<ir p.1:=by omega
  generalize (bm p.1 st nu).take k=done at *;generalize mb p.1=bs at *;generalize ir p.1=N at *;unfold cU.val at L v h;clear o J q W D B I hp O n f u G;refine nB _ _ _ _ _ _ _ _ λg=>?_;have F:(k+1) * 24<=140737488355328:=by omega
  have A:(cR done).length=k:=(by simp[K]);have E:cR (done++[b])=cR done++[.bq 1 (aA b) none]:=(by simp[cR,ES]);rw[E]at h;rcases m with ⟨rfl,m⟩ | ⟨t,gg,S,rfl,m⟩
  ·rw[m]at h;simp[an, *,gV];refine h _ _ (by simp(maxDischargeDepth:=12) [HA, *]) (by simp[v]) (.inr ⟨39,H.gen 0 39,by simp,rfl,by simp⟩)
  obtain rfl:t=39:=(by simpa using S);rw[A];have T:(H.get ⟨0,39,gg,0⟩).isSome=true:=by rw[m];rfl
  generalize cR done=eo at *;simp[an, *,gV];refine h _ _ (by simp(maxDischargeDepth:=12) [hY, *]) ?_ (.inr ⟨39,H.gen 0 39,by simp,by simp[A],by simp⟩);simp[aa.ab,v]
theorem Ea:ay env 57 [p.1.val p.2,aI st,aI nu]=some (.bq 1 (cR (bm p.1 st nu)) none):=by
 have j:=Gh hp c a;have n:=hp.1.r;have f:cR (bm p.1 st nu)≠[]:=Vv (Hl a st nu);have e:=λQ k=>Vu hp c a a0 d b0 b1 (Q:=Q) k (bm p.1 st nu) 0 aO [(⟨0,3,0,0⟩,some ⟨24,[p.1.val p.2],false,false⟩)] rfl (by omega) (by simp(maxDischargeDepth:=12) [HA, *]) (by simp) (.inl ⟨rfl,rfl⟩);have b : ∀i H',fY [39] 1 (cR (bm p.1 st nu)) H' i->dA env 57 i H' (.bq 1 (cR (bm p.1 st nu)) none):=by
  rintro i H' (⟨_,h⟩ | ⟨t,o,m,rfl,h⟩);·exact absurd h f
  generalize cR (bm p.1 st nu)=eo at *;simp[h]
 refine aM rfl (by kernel_rfl) (uX _ _ _ _ _ λg=>?_);replace e:=e _ b;clear b hp a;generalize cR (bm p.1 st nu)=eo at *;unfold cU.val at j e ⊢;simp[an, *,oP];exact e
end
end
section
attribute [local simp] aC aw ah aq ao bk jE aE ar ax bo bn aG aD ae aN cN
theorem Q4{x:AV}{b:List UInt8}(i:Sl 1 (aA b) x):ay env 115 [x]=some (if gZ b then .tup [(dh b).val,aI 0] else .tup [(⟨0,0,0,0⟩:Hd).val,aI 8]):=by
 have o:=i.r;by_cases e:b.length=128
 ·have d:(b.length:Int)=128:=by omega
  obtain⟨b0,b1,b2,b3,b4,b5,b6,a,c,t,rfl⟩ : ∃b0 b1 b2 b3 b4 b5 b6 a c t,b=b0 :: b1 :: b2 :: b3 :: b4 :: b5 :: b6 :: a :: c :: t:=by
   match b,e with
   | b0 :: b1 :: b2 :: b3 :: b4 :: b5 :: b6 :: a :: c :: t,_=>exact⟨_,_,_,_,_,_,_,_,_,_,rfl⟩
  obtain⟨H,rfl,j⟩:=mP i (by simp);have D:=b0.toNat_lt;have p:=b1.toNat_lt;have z:=b2.toNat_lt;have F:=b3.toNat_lt;have w:=b4.toNat_lt;have I:=b5.toNat_lt;have v:=b6.toNat_lt;have h:dh (b0 :: b1 :: b2 :: b3 :: b4 :: b5 :: b6 :: a :: c :: t)=⟨16777216 * (b0.toNat:Int)+65536 * b1.toNat+256 * b2.toNat+b3.toNat,65536 * (b4.toNat:Int)+256 * b5.toNat+b6.toNat,a.toNat,c.toNat⟩:=(by simp[dh,Ab.val,Au];constructor<;>omega);have f:gZ (b0 :: b1 :: b2 :: b3 :: b4 :: b5 :: b6 :: a :: c :: t)=kb (16777216 * (b0.toNat:Int)+65536 * b1.toNat+256 * b2.toNat+b3.toNat) (65536 * (b4.toNat:Int)+256 * b5.toNat+b6.toNat) a.toNat c.toNat:=(by unfold gZ;rw[h,e];simp);have m:(t.length:Int)+1+1+1+1+1+1+1+1+1=128:=by simp at e;omega
  have C:=iQa (16777216 * (b0.toNat:Int)) (by omega);have y:=iQa (65536 * (b1.toNat:Int)) (by omega);have u:=iQa (256 * (b2.toNat:Int)) (by omega);have q:=iQa (16777216 * (b0.toNat:Int)+65536 * b1.toNat) (by omega);have B:=iQa (16777216 * (b0.toNat:Int)+65536 * b1.toNat+256 * b2.toNat) (by omega);have s:=iQa (16777216 * (b0.toNat:Int)+65536 * b1.toNat+256 * b2.toNat+b3.toNat) (by omega);have G:=iQa (65536 * (b4.toNat:Int)) (by omega);have A:=iQa (256 * (b5.toNat:Int)) (by omega);have E:=iQa (65536 * (b4.toNat:Int)+256 * b5.toNat) (by omega);have n:=iQa (65536 * (b4.toNat:Int)+256 * b5.toNat+b6.toNat) (by omega);have l:=JN (16777216 * (b0.toNat:Int)+65536 * b1.toNat+256 * b2.toNat+b3.toNat) (65536 * (b4.toNat:Int)+256 * b5.toNat+b6.toNat) a.toNat c.toNat;rw[f,h];unfold Hd.val;clear f h j i o d e;cases k:kb (16777216 * (b0.toNat:Int)+65536 * b1.toNat+256 * b2.toNat+b3.toNat) (65536 * (b4.toNat:Int)+256 * b5.toNat+b6.toNat) a.toNat c.toNat;·rw[k]at l;refine aM rfl (by kernel_rfl) (ma _ _ _ λg=>?_);simp[an, *,jY,aA];done
  rw[k]at l;refine aM rfl (by kernel_rfl) (ma _ _ _ λg=>?_);simp[an, *,jY,aA];done
 have d : ¬(b.length:Int)=128:=by omega
 have f:gZ b=false:=by unfold gZ;simp[e]
 rw[f];unfold Hd.val;clear f;refine aM rfl (by kernel_rfl) (ma _ _ _ λg=>?_);simp[an, *,jY]
def RV(b:List UInt8):Bool:=if b.getD 0 0=1 then fA (ik ((b.drop 1).take 6)) else if b.getD 0 0=2 then mM (b.drop 3) else if b.getD 0 0=3 then gOk ((b.drop 1).take 7) else false
def S9(b:List UInt8):AV := .tup [(bL b).val (lB (bL b).op.l),aB (RV b&&dw (bL b))]
theorem Ox(b:List UInt8):qR b = .tup [.agg (Av (N5 b)++[lB (N5 b).l]),aI (if mM b then pK b else 0),aI (if mM b then 0 else 8)]:=by
 unfold qR N5 oz;split<;>rfl
theorem D6(l:List UInt8) : ∀a∈words l, -2147483648<=a/\a<=2147483647:=by
 intro a e;match l,e with
 | a :: b :: c :: d :: t,e=>
  rcases ef.1 e with rfl | e
  ·unfold word;rw[iQw];have:=wX [a,b,c,d];simp only[iA,k8]at this;omega
  exact D6 t _ e
theorem JV(b:List UInt8):rZ (bL b).op.l:=by
 have c:rZ dp.l:=λa d=>by cases d
 have e : ∀b,rZ (oW b).op.l:=λb=>by rw[(zG b).2.1];exact c
 unfold bL;split;·exact c
 split
 ·show rZ (N5 (b.drop 3)).l;unfold N5;split
  ·unfold ny;show rZ (if _ then _ else _);split;·exact D6 _
   exact λa d=>by cases d
  exact c
 split;·exact e _
 exact c
theorem Q1{b:List UInt8}{x:AV}(v:Sl 1 (aA b) x)(A:8<=b.length)(F:b.length<100000):ay env 116 [x]=some (S9 b):=by
 have k:=JV b;have q:=ye b;have d:=TG (p:=(bL b,lB (bL b).op.l)) ⟨nE _,by simp only;omega⟩ (by simp only;omega) k;unfold S9;match b,A with
 | b0 :: b1 :: b2 :: b3 :: b4 :: b5 :: b6 :: a :: t,_=>
 obtain⟨j,rfl,i⟩:=mP v (by simp);rw[fW]at i;simp only[iA]at i F;have E:6<=(j.map (· - 1)).getD 6:=by cases j<;>simp at i ⊢ <;> omega
 have C:7<=(j.map (· - 1)).getD 7:=by cases j<;>simp at i ⊢ <;> omega
 have L:(7:Int)<=j.getD (t.length+1+1+1+1+1+1+1+1):=by omega
 have A:(8:Int)<=j.getD (t.length+1+1+1+1+1+1+1+1):=by omega
 have G:(7:Int) <= ↑t.length+1+1+1+1+1+1+1+1/\(7:Int) < ↑t.length+1+1+1+1+1+1+1+1/\(8:Int) <= ↑t.length+1+1+1+1+1+1+1+1/\(1:Int) < ↑t.length+1+1+1+1+1+1+1+1/\(2:Int) < ↑t.length+1+1+1+1+1+1+1+1/\(3:Int) <= ↑t.length+1+1+1+1+1+1+1+1:=by omega
 have O:(0:Int) < ↑t.length+1+1+1+1+1+1+1+1:=by omega
 by_cases k1:b0=1
 ·subst k1;have e:bL (1 :: b1 :: b2 :: b3 :: b4 :: b5 :: b6 :: a :: t)=⟨1,a.toNat, { dp with h:=DM [b1,b2,b3,b4,b5,b6]},0,0,0,0,false⟩:=rfl;have f:RV (1 :: b1 :: b2 :: b3 :: b4 :: b5 :: b6 :: a :: t)=fA (ik [b1,b2,b3,b4,b5,b6]):=rfl;have s:=TA (x := .bq 1 [a8 b1,a8 b2,a8 b3,a8 b4,a8 b5,a8 b6] (j.map (· - 1))) (l:=[b1,b2,b3,b4,b5,b6]) (by rw[show[a8 b1,a8 b2,a8 b3,a8 b4,a8 b5,a8 b6]=aA [b1,b2,b3,b4,b5,b6] from rfl];exact Sl.XE (by simpa using E)) rfl;rw[e]at d ⊢;rw[f];unfold DM at d ⊢;unfold cU.val dp at d ⊢;simp only[Cg]at d ⊢;clear e f k q v;generalize ik [b1,b2,b3,b4,b5,b6]=hh at *;refine aM rfl (by kernel_rfl) (gG _ _ _ λg=>?_);cases n:fA hh;·rw[n]at s;clear d;simp[an, *,eb,aA];done
  rw[n,if_pos rfl]at d;simp only[if_true];rw[n]at s;generalize dw _=R at *;simp[an, *,eb,aA];done
 by_cases z:b0=2
 ·subst z;have e:bL (2 :: b1 :: b2 :: b3 :: b4 :: b5 :: b6 :: a :: t)=⟨2,0,N5 (b3 :: b4 :: b5 :: b6 :: a :: t),val [b1,b2],0,0,0,false⟩:=rfl;have f:RV (2 :: b1 :: b2 :: b3 :: b4 :: b5 :: b6 :: a :: t)=mM (b3 :: b4 :: b5 :: b6 :: a :: t):=rfl;have y:val [b1,b2]=256 * (b1.toNat:Int)+b2.toNat:=by simp[val,Au]
  have H:=b1.toNat_lt;have J:=b2.toNat_lt;have N:=iQa (256 * (b1.toNat:Int)) (by omega);have K:=iQa (256 * (b1.toNat:Int)+b2.toNat) (by omega);have u:Sl 1 (aA (b3 :: b4 :: b5 :: b6 :: a :: t)) (.bq 1 (a8 b3 :: a8 b4 :: a8 b5 :: a8 b6 :: a8 a :: List.map a8 t) (j.map (· - 3))):=(by rw[show a8 b3 :: a8 b4 :: a8 b5 :: a8 b6 :: a8 a :: List.map a8 t=aA (b3 :: b4 :: b5 :: b6 :: a :: t) from rfl];exact Sl.XE (by cases j<;>simp at i ⊢ <;> omega));have m:=WY u (by simp only[iA];omega);rw[Ox]at m;rw[e]at d ⊢;rw[f,y];rw[y]at d;have I:((t.length:Int)+1+1+1+1+1+1+1+1).toNat - 3=t.length+5:=by omega
  have M:List.take (t.length+5) (a8 b3 :: a8 b4 :: a8 b5 :: a8 b6 :: a8 a :: List.map a8 t)=a8 b3 :: a8 b4 :: a8 b5 :: a8 b6 :: a8 a :: List.map a8 t:=cN (by simp);unfold cU.val at d ⊢;clear e f k q v y u;generalize N5 (b3 :: b4 :: b5 :: b6 :: a :: t)=o at *;simp only[Av]at m;have D:=(nE o.l).r;simp only at d ⊢;generalize lB o.l=ro at *;generalize (if mM (b3 :: b4 :: b5 :: b6 :: a :: t) then pK (b3 :: b4 :: b5 :: b6 :: a :: t) else 0)=sz at *;generalize mM (b3 :: b4 :: b5 :: b6 :: a :: t)=ok at *;generalize dw _=R at *;refine aM rfl (by kernel_rfl) (gG _ _ _ λg=>?_);cases ok<;>simp[an, *,eb,aA];done
 by_cases w:b0=3
 ·subst w;have e:bL (3 :: b1 :: b2 :: b3 :: b4 :: b5 :: b6 :: a :: t) = { oW [b1,b2,b3,b4,b5,b6,a]with kind:=3}:=rfl;have f:RV (3 :: b1 :: b2 :: b3 :: b4 :: b5 :: b6 :: a :: t)=(decide (b2<=1)&&ru b1.toNat b3 (u32 (val [b4,b5,b6,a])) (decide (b2=1))):=rfl;have B:oW [b1,b2,b3,b4,b5,b6,a]=if decide (b2<=1)&&ru b1.toNat b3 (u32 (val [b4,b5,b6,a])) (decide (b2=1)) then ⟨0,0,dp,0,b1.toNat,b3,u32 (val [b4,b5,b6,a]),decide (b2=1)⟩ else ⟨0,0,dp,0,0,0,0,false⟩:=rfl
  have s:=WZ (c:=j.map (· - 1)) (b0:=b1) (b1:=b2) (b2:=b3) (b3:=b4) (b4:=b5) (b5:=b6) (b6:=a) C;rw[e,B]at d ⊢;rw[f];clear e f B k q v;generalize u32 (val [b4,b5,b6,a])=V at *;generalize decide (b2=1)=OB at *;cases n:decide (b2<=1)&&ru b1.toNat b3 V OB;·rw[n]at s;unfold cU.val dp;clear d;refine aM rfl (by kernel_rfl) (gG _ _ _ λg=>?_);simp[an, *,eb,aA,Cg];done
  rw[n]at s d;simp only[if_true]at d ⊢;unfold cU.val dp at d ⊢;simp only[Cg]at d ⊢;generalize dw _=R at *;clear n;refine aM rfl (by kernel_rfl) (gG _ _ _ λg=>?_);simp[an, *,eb,aA];done
 have e:bL (b0 :: b1 :: b2 :: b3 :: b4 :: b5 :: b6 :: a :: t)=⟨b0,0,dp,0,0,0,0,false⟩:=(by unfold bL;simp[k1,z,w]);have f:RV (b0 :: b1 :: b2 :: b3 :: b4 :: b5 :: b6 :: a :: t)=false:=(by unfold RV;simp[k1,z,w]);rw[e,f];unfold cU.val dp;simp only[Cg];clear d e f;refine aM rfl (by kernel_rfl) (gG _ _ _ λg=>?_);simp[an, *,eb,aA]
def oI(l:List (List UInt8)):List UInt8:=if l.all (λb=>decide (b.length=128)) then hU l else []
theorem Qc{B:List (List UInt8)}(h:B.all (λb=>decide (b.length=128))=true):(hU B).length=119 * B.length:=by
 induction B with| nil=>rfl| cons b B a=>simp only[yB,bt,iQb]at h;have:=a h.2;simp only[hU,lU,ju,nM,iA]at this ⊢;omega
theorem R3(l:List (List UInt8))(b:List UInt8):hU (l++[b])=hU l++b.drop 9:=by simp[hU]
section
variable{x0:AV}{l:List (List UInt8 × AV)}(c:Sl 1 (bV l) x0)(d:okB l)(f:l.length<800)
include c d f
theorem QB{Q:AV->aa->Prop}(n:(gq l).all (λb=>decide (b.length=128))=true ->∀h H',fY [23] 1 (aA (hU (gq l))) H' h->(l.length=0->h=aO)->Q h H')(o:(gq l).all (λb=>decide (b.length=128))=false ->∀H',Q aO H') :
 ∀(s:List (List UInt8 × AV)) (k:Nat) (h:AV) (H:aa),l.drop k=s->k<=l.length->Fr H->(gq (l.take k)).all (λb=>decide (b.length=128))=true->fY [23] 1 (aA (hU (gq (l.take k)))) H h->(k=0->h=aO) ->
 cB env Tryz.f114 0 jd [(4,aI k),(0,x0),(3,h)] H Q:=by
 intro s;induction s with
 | nil=>
  intro k h H G R V y u A;obtain rfl:=drop_nil G R;rw[BT]at y u;have L:=n y h H u A;have F:(bV l).length=l.length:=by simp[bV]
  clear n o u d;refine kZ _ _ _ _ _ λg=>?_;simp[an, *,fP,c.r];done
 | cons p s K=>
  intro k h H G R V y u A;obtain⟨D,N,E,B⟩:=drop_cons G;have hp:Sl 1 (aA p.1) p.2:=d p (by rw[<-N];exact eO D);have J:bP (bV l) k 0 1 false=some p.2:=by simp[bV,B,bP,hp.r]
  have F:(bV l).length=l.length:=(by simp[bV]);have S:(k:Int)<l.length:=(by omega);have e1:=iQa ((k:Int)+1) (by omega);have x:l.take (k+1)=l.take k++[p]:=by rw[Ft,B];rfl
  have m:gq (l.take (k+1))=gq (l.take k)++[p.1]:=by rw[x];simp[gq]
  have v:p.1∈gq l:=by simp only[gq,j6];exact⟨p,by rw[<-N];exact eO D,rfl⟩
  have M:=hp.r;by_cases i:p.1.length=128
  ·obtain⟨cp,C,Y⟩:=mP hp (by simp;omega);have j:=λh H'=>K (k+1) h H' E (by omega);have w:(gq (l.take (k+1))).all (λb=>decide (b.length=128))=true:=by rw[m];simp only[List.all_append,y,yB,Bl,i,iQF,ia]
   have hd:aA (hU (gq (l.take (k+1))))=aA (hU (gq (l.take k)))++(aA p.1).drop 9:=by rw[m,R3];simp[aA]
   have q:((aA p.1).drop 9).length=119:=(by simp[i]);have P:(aA p.1).drop 9≠[]:=by intro e;rw[e]at q;simp at q
   have X:(aA (hU (gq (l.take k)))).length<=100000:=(by have W:=Qc y;rw[show(gq (l.take k)).length=k from by simp[gq];omega]at W;rw[fW];omega);have z:(p.1.length:Int)=128:=(by omega);have Z:(aA p.1).length=p.1.length:=fW _;rw[show((k+1:Nat):Int)=(k:Int)+1 from by omega,hd]at j;replace j:=λh H' a b=>j h H' a w b (λe=>by omega);clear A;rw[C]at J M;have O:List.take 119 (List.drop 9 (aA p.1))=List.drop 9 (aA p.1):=cN (by omega);clear n o K d y m x w hd N B G E C v hp;generalize aA (hU (gq (l.take k)))=eo at *;generalize aA p.1=ep at *;refine kZ _ _ _ _ _ λg=>?_;rcases u with ⟨rfl,rfl⟩ | ⟨t,gg,T,rfl,u⟩
   ·simp[an, *,fP,c.r,c.idx];exact j _ _ (by simp(maxDischargeDepth:=12) [HA, *]) (.inr ⟨23,H.gen 0 23,by simp,by simp[q],by simp⟩)
   obtain rfl:t=23:=(by simpa using T);have I:eo.length+119<=140737488355328:=(by omega);have U:(H.get ⟨0,23,gg,0⟩).isSome=true:=by rw[u];rfl
   simp[an, *,fP,c.r,c.idx];exact j _ _ (by simp(maxDischargeDepth:=12) [hY, *]) (.inr ⟨23,H.gen 0 23,by simp,by rw[ju,q],by simp⟩)
  have L:=o (by rw[List.all_eq_false];exact⟨p.1,v,by simpa using i⟩) H;have z : ¬(p.1.length:Int)=128:=by omega
  clear n o K d u y m x;refine kZ _ _ _ _ _ λg=>?_;simp[an, *,fP,c.r,c.idx];done
theorem QZ:ay env 114 [x0]=some (lW 1 (aA (oI (gq l)))):=by
 obtain⟨y,j⟩ : ∃y,y=lW 1 (aA (oI (gq l))):=⟨_,rfl⟩;have k:=λQ o q=>QB c d f (Q:=Q) o q l 0 aO [] rfl (by omega) Fr.nil (by simp[gq]) (.inl ⟨rfl,by simp[gq,hU]⟩) (λ_=>rfl);have i:(gq l).all (λb=>decide (b.length=128))=true->l.length≠0->aA (hU (gq l))≠[]:=by
  intro a n e;cases l with
  | nil=>exact n rfl
  | cons p t=>
   have o:p.1.length=128:=by simp[gq]at a;exact a.1
   have:=iQf List.length e;simp[gq,hU,o]at this
 replace k:=k (λv H'=>dA env 114 v H' y) (λa u H' h m=>by
  rw[j];have e:oI (gq l)=hU (gq l):=if_pos a;rw[e];rcases h with ⟨rfl,h⟩ | ⟨t,w,s,rfl,h⟩
  ·rw[h];simp[lW]
  ·obtain rfl:t=23:=(by simpa using s);have n:=i a (λe=>by have:=m e;cases this);rw[tK 1 n];generalize aA (hU (gq l))=eo at *;simp[h]) (λa H'=>by
  rw[j];have e:oI (gq l)=[]:=if_neg (by rw[a];decide);rw[e];simp[lW])
 rw[<-j];refine aM rfl (by kernel_rfl) (wN _ _ _ λg=>?_);unfold pX;exact k
end
section
variable{x y:AV}{l m:List (List UInt8 × AV)}(a:Sl 1 (bV l) x)(c:Sl 1 (bV m) y)(f:okB l)(d:okB m)(i:l.length<1000000)
include a c f d i
theorem NA(O:l.length=m.length){Q:AV->aa->Prop}{H:aa} : ∀(s t:List (List UInt8 × AV)) (k:Nat),l.drop k=s->m.drop k=t->k<=l.length->Q (aB (decide (gq s=gq t))) H ->
 cB env Tryz.f117 0 fv [(5,aI k),(1,y),(0,x)] H Q:=by
 have L:(bV l).length=l.length:=by simp[bV]
 have G:(bV m).length=m.length:=by simp[bV]
 intro s;induction s with
 | nil=>
  intro t k B z K A;obtain rfl:=drop_nil B K;have:t=[]:=by rw[<-z];exact wF (by omega)
  subst this;rw[iQg rfl]at A;clear f d;refine iW _ _ _ _ _ λg=>?_;simp[an, *,fw,a.r,c.r]
 | cons p s E=>
  intro t k B z K A;obtain⟨F,J,u,v⟩:=drop_cons B;cases t with
  | nil=>have:=iQf List.length z;simp at this;omega
  | cons q t=>
   obtain⟨D,I,w,o⟩:=drop_cons z;have j:Sl 1 (aA p.1) p.2:=f p (by rw[<-J];exact eO F);have n:Sl 1 (aA q.1) q.2:=d q (by rw[<-I];exact eO D);have r1:bP (bV l) k 0 1 false=some p.2:=by simp[bV,v,bP,j.r]
   have r2:bP (bV m) k 0 1 false=some q.2:=(by simp[bV,o,bP,n.r]);have S:=iQa ((k:Int)+1) (by omega);have T:=λ(g:cL)(r:Ref)=>Sl.conv (P:=env.P) (src:=57) (dst:=9) j (by kernel_rfl) (by kernel_rfl) g r;have R:=λ(g:cL)(r:Ref)=>Sl.conv (P:=env.P) (src:=57) (dst:=9) n (by kernel_rfl) (by kernel_rfl) g r;have N:(k:Int)<l.length:=by omega
   have M:(k:Int)<m.length:=(by omega);have e:=E t (k+1) u w (by omega);rw[show((k+1:Nat):Int)=(k:Int)+1 from by omega]at e;have b:(gq (p :: s)=gq (q :: t))↔(p.1=q.1/\gq s=gq t):=by simp[gq]
   by_cases C:p.1=q.1;·have hd:decide (gq (p :: s)=gq (q :: t))=decide (gq s=gq t):=decide_eq_decide.2 (by rw[b];exact⟨λh=>h.2,λh=>⟨C,h⟩⟩);rw[hd]at A;replace e:=e A;clear E f d hd b B u z w J v I o j n A;refine iW _ _ _ _ _ λg=>?_;simp[an, *,fw,a.r,c.r,a.idx,c.idx];done
   have hd:decide (gq (p :: s)=gq (q :: t))=false:=iQi (by rw[b];exact λh=>C h.1);rw[hd]at A;clear E f d hd b B u z w J v I o j n e;refine iW _ _ _ _ _ λg=>?_;simp[an, *,fw,a.r,c.r,a.idx,c.idx];done
theorem Q2:ay env 117 [x,y]=some (aB (decide (gq l=gq m))):=by
 have n:(bV l).length=l.length:=by simp[bV]
 have j:(bV m).length=m.length:=by simp[bV]
 by_cases e:l.length=m.length
 ·have k:=λQ o=>NA a c f d i e (Q:=Q) (H:=[]) l m 0 rfl rfl (by omega) o;have b:(l.length:Int)=m.length:=by omega
  refine aM rfl (by kernel_rfl) (mG _ _ _ _ λg=>?_);replace k:=k (λv H'=>dA env 117 v H' (aB (decide (gq l=gq m)))) (by simp);clear f d;simp[an, *,jP,a.r,c.r];simpa using k
 have hd:decide (gq l=gq m)=false:=iQi (λh=>e (by have:=iQf List.length h;simpa [gq] using this));have b : ¬(l.length:Int)=m.length:=by omega
 rw[hd];clear f d hd;refine aM rfl (by kernel_rfl) (mG _ _ _ _ λg=>?_);simp[an, *,jP,a.r,c.r]
end
def CK(l:List (List UInt8)):Bool := !(oI l).isEmpty&&(gZ (l.headD [])&&((RV (oI l)&&dw (bL (oI l)))&&decide (bm (bL (oI l)) (dh (l.headD [])).st (dh (l.headD [])).nu=l)))
def RX(l:List (List UInt8)):AV:=if CK l then .tup [(bL (oI l)).val (lB (bL (oI l)).op.l),(dh (l.headD [])).val,aI 0] else xz
theorem abQ{r:cU}(h:dw r=true)(z:List UInt8):RV (mb r++z)=true:=by
 unfold dw at h;unfold mb RV;split at h
 ·rename_i k1;simp only[bt,iQb]at h;obtain⟨⟨e,p⟩,j,k⟩:=h;rw[if_pos k1,I9];have b:(r.kind :: (cr r.op.h++[u8 r.user]++z)).getD 0 0=1:=k1;have q:((r.kind :: (cr r.op.h++[u8 r.user]++z)).drop 1).take 6=cr r.op.h:=by
   rw[iQS,List.tail_cons,qq];exact wA (BE _)
  rw[if_pos b,q,yt,j]
 rename_i k1;split at h
 ·rename_i g;simp only[bt,iQb,gz]at h;obtain⟨⟨⟨D,e⟩,p⟩,j,k⟩:=h;rw[if_neg k1,if_pos g,I9];have b:(r.kind :: ([u8 (r.code / 256),u8 r.code]++eZ r.op++z)).getD 0 0=2:=g;have u:(r.kind :: ([u8 (r.code / 256),u8 r.code]++eZ r.op++z)).drop 3=eZ r.op++z:=by simp
  rw[if_neg (by rw[b];decide),if_pos b,u,(Rh j z).2.2]
 rename_i g;split at h
 ·rename_i v;simp only[bt]at h;obtain⟨e,k⟩:=h;rw[if_neg k1,if_neg g,I9];have b:(r.kind :: (kz r.gu r.gv r.gc r.gok++z)).getD 0 0=3:=v;have o:((r.kind :: (kz r.gu r.gv r.gc r.gok++z)).drop 1).take 7=kz r.gu r.gv r.gc r.gok:=by
   rw[iQS,List.tail_cons];exact wA (by simp[kz])
  rw[if_neg (by rw[b];decide),if_neg (by rw[b];decide),if_pos b,o];have C:(0<=r.gu/\r.gu<8):=by simp only[ru,bt,iQb]at e;exact e.1
  have n:((kz r.gu r.gv r.gc r.gok).getD 0 0).toNat=r.gu:=(by show((u8 r.gu).toNat:Int)=r.gu;rw[Bu];omega);have B:(kz r.gu r.gv r.gc r.gok).getD 1 0=if r.gok then 1 else 0:=rfl
  have A:(kz r.gu r.gv r.gc r.gok).getD 2 0=r.gv:=rfl;have s:u32 (val (((kz r.gu r.gv r.gc r.gok).drop 3).take 4))=r.gc:=(by rw[show((kz r.gu r.gv r.gc r.gok).drop 3).take 4=be 4 r.gc.toNat from cN (by simp[kz])];exact Bv r.gc);have t:decide ((if r.gok then (1:UInt8) else 0)=1)=r.gok:=by cases r.gok<;>rfl
  have w:decide ((if r.gok then (1:UInt8) else 0)<=1)=true:=by cases r.gok<;>rfl
  unfold gOk;rw[n,B,A,s,t,w,e,ia]
 cases h
theorem abR(l:List (List UInt8)):CK l=(gZ (l.headD [])&&sW l (dh (l.headD [])) (hU l))/\(CK l=true->oI l=hU l):=by
 by_cases k:l.all (λb=>decide (b.length=128))=true
 ·have o:oI l=hU l:=if_pos k;refine⟨?_,λ_=>o⟩;unfold CK sW;rw[o];cases l with
  | nil=>rfl
  | cons b0 t=>
   have B:b0.length=128:=by simp at k;exact k.1
   have q:hU (b0 :: t)≠[]:=(by intro e;have:=iQf List.length e;simp[hU,B]at this);have D:decide (8<=(hU (b0 :: t)).length)=true:=by simp[hU,B];omega
   rw[D,ia];have u:(hU (b0 :: t)).isEmpty=false:=by simpa using q
   rw[u,xE,ia];show(gZ b0&&_)=(gZ b0&&_);cases v:gZ b0 with
   | false=>rfl
   | true=>
    rw[ia,ia];show((RV _&&dw _)&&decide (bm _ (dh b0).st (dh b0).nu=_))=(dw _&&kb (dh b0).st (dh b0).nu 0 _&&decide (bm _ (dh b0).st (dh b0).nu=_));generalize G:bL (hU (b0 :: t))=r at *;cases j:dw r with
    | false=>simp
    | true=>
     by_cases p:bm r (dh b0).st (dh b0).nu=b0 :: t
     ·have A : ∃z,hU (b0 :: t)=mb r++List.replicate z 0:=(by rw[<-p];exact MA _ _ _ 3 (mb r) 0 (by have:=(yb j).1;omega));obtain⟨z,A⟩:=A;have g:RV (hU (b0 :: t))=true:=by rw[A];exact abQ j _
      have s:kb (dh b0).st (dh b0).nu 0 (ir r)=true:=(by have E:kb (dh b0).st (dh b0).nu (dh b0).ix (dh b0).of=true:=(by unfold gZ at v;simp only[bt]at v;exact v.2);have n:=sf.1 E;have F:=vq j;exact sf.2 ⟨n.1,n.2.1,n.2.2.1,n.2.2.2.1,by omega,by omega,by omega,by omega⟩);rw[g,s]
     simp[p]
 have o:oI l=[]:=if_neg k;have C:CK l=false:=by unfold CK;rw[o];rfl
 refine⟨?_,λh=>by rw[C]at h;cases h⟩;rw[C];cases g:(gZ (l.headD [])&&sW l (dh (l.headD [])) (hU l)) with
 | false=>rfl
 | true=>exfalso;unfold sW at g;simp only[bt,iQb]at g;obtain⟨_,_,⟨j,s⟩,p⟩:=g;refine k ?_;rw[<-p];rw[dY];exact λb w=>iQg (tX j s b w)
theorem Yn(l:List (List UInt8)):RX l=LW l:=by
 obtain⟨e,b⟩:=abR l;unfold RX LW vX;rw[<-e];cases hd:CK l with
 | false=>simp
 | true=>rw[b hd];simp
theorem UM{E:Env}{f:FuncId}{fn:Func}{c:Code}{args:List AV}{R:AV->Prop}(g:E.spec f args=none)(j:E.allowed f=true)(u:E.P.funcs[f]?=some fn)(t:fn.body=some c)(a:Nat.ble args.length fn.ntmps=true)
 (h:cB E fn 0 [.code c] (CT 0 args) [] λx H =>∃y,dA E f x H y/\R y) : ∃y,ay E f args=some y/\R y:=by
 obtain⟨x,H,⟨y,b,p⟩,n,s⟩:=h.h (λ_=>AV.undef) args λi=>(Cp args i).symm;refine⟨y,tM.2 ⟨n,λm k=>?_⟩,p⟩;obtain⟨st,e,q,o⟩:=s m k;subst o;unfold cY;rw[g];unfold tl;simp only[j,if_true,u,t,if_pos (De a),e,q,Option.map_some];unfold dA at b;split;·rename_i e;rw[if_pos e]at b;rw[if_pos b.1];exact b.2
 rename_i e;rw[if_neg e]at b;exact b
section
variable{x0:AV}{l:List (List UInt8 × AV)}(d:Sl 1 (bV l) x0)(a:okB l)
include d a
theorem TH(O:l.length<800):ay env 93 [x0]=some (LW (gq l)):=by
 rw[<-Yn];have H:=QZ d a O;have K:(bV l).length=l.length:=by simp[bV]
 have v:(oI (gq l)).length<100000:=by
  unfold oI;split;·rename_i u;have E:=Qc u;rw[show(gq l).length=l.length from by simp[gq]]at E;omega
  simp
 have k:oI (gq l)≠[]->l≠[]/\(gq l).all (λb=>decide (b.length=128))=true:=by
  intro h;have u:(gq l).all (λb=>decide (b.length=128))=true:=by
   cases u:(gq l).all (λb=>decide (b.length=128)) with| true=>rfl| false=>exact absurd (if_neg (by rw[u];decide)) h
  exact⟨λe=>h (by rw[e];rfl),u⟩
 have A:=yg 1 (aA (oI (gq l)));have w:=A.r;by_cases n:oI (gq l)=[];·have hd:RX (gq l)=xz:=(by unfold RX CK;rw[n];rfl);rw[hd];rw[n]at H;have L:lW 1 (aA [])=aO:=rfl;rw[L]at H;unfold xz cU.val Hd.val jF dp;clear k A w n a hd;refine aM rfl (by kernel_rfl) (kq _ _ _ λg=>?_);simp[an, *,iL,d.r];done
 obtain⟨E,q⟩:=k n;obtain⟨c,t,rfl⟩:=iQz E;have o:=a c (by simp);have f:119<=(oI (gq (c :: t))).length:=by
  have Q:c.1.length=128:=by simp[gq]at q;exact q.1
  have:oI (gq (c :: t))=hU (gq (c :: t)):=if_pos q;rw[this];simp[gq,hU,Q]
 have I:=Q4 o;have m:=Q1 A (by omega) v;have M:bP (bV (c :: t)) 0 0 1 false=some c.2:=by simp[bV,bP,o.r]
 have S:(0:Int)<(c :: t).length:=(by simp);obtain⟨b,j⟩ : ∃b,b=oI (gq (c :: t)):=⟨_,rfl⟩;have i:RX (gq (c :: t))=if gZ c.1&&((RV b&&dw (bL b))&&decide (bm (bL b) (dh c.1).st (dh c.1).nu=gq (c :: t))) then .tup [(bL b).val (lB (bL b).op.l),(dh c.1).val,aI 0] else xz:=by
  rw[j];unfold RX CK;have:(oI (gq (c :: t))).isEmpty=false:=by simpa using n
  rw[this];rfl
 rw[i];rw[<-j]at H A w m f v;have U:aA b≠[]:=by intro e;have:=iQf List.length e;simp at this;rw[this]at f;simp at f
 have V:(aA b).length=b.length:=(by simp);have P : ¬b=[]:=by rintro rfl;simp at f
 have N:=ye b;have hp:xn (bL b,lB (bL b).op.l):=⟨nE _,by simp only;omega⟩;have R:=hp.1.r;have T:(c.1=c.1):=rfl;unfold S9 at m;have J:=o.r;cases y:gZ c.1 with
 | false=>rw[y,if_neg (by decide)]at I;unfold xz cU.val Hd.val jF dp at *;clear i j n k a hp q;simp only at *;generalize lW 1 (aA b)=ob at *;generalize lB (bL b).op.l=ro at *;generalize bL b=r at *;refine aM rfl (by kernel_rfl) (kq _ _ _ λg=>?_);simp[an, *,iL,d.r,d.idx];done
 | true=>
  rw[y,if_pos rfl]at I;cases p:RV b&&dw (bL b) with
  | false=>rw[p]at m;unfold xz cU.val Hd.val jF dp at *;clear i j n k a hp q p;simp only at *;generalize lW 1 (aA b)=ob at *;generalize lB (bL b).op.l=ro at *;generalize bL b=r at *;generalize dh c.1=hd at *;refine aM rfl (by kernel_rfl) (kq _ _ _ λg=>?_);simp[an, *,iL,d.r,d.idx];done
  | true=>
   rw[p]at m;have z:dw (bL b)=true:=by cases h:dw (bL b)with | true=>rfl | false=>rw[h]at p;simp at p
   have C:=sf.1 (show kb (dh c.1).st (dh c.1).nu (dh c.1).ix (dh c.1).of=true by unfold gZ at y;simp only[bt]at y;exact y.2);have B:=Ea hp (by simp only;omega) z (st:=(dh c.1).st) (nu:=(dh c.1).nu) (by omega) (by omega) (by omega) (by omega);simp only at B;have s:=jN z (dh c.1).st (dh c.1).nu;have F:=vq z;have G:=Q2 (x := .bq 1 (cR (bm (bL b) (dh c.1).st (dh c.1).nu)) none) (l:=(bm (bL b) (dh c.1).st (dh c.1).nu).map λb=>(b,ES b)) (by rw[E7];exact Sl.mk _ _) d (E6 _) a (by rw[zg,s];omega);rw[zO]at G;generalize decide (bm (bL b) (dh c.1).st (dh c.1).nu=gq (c :: t))=D at *;unfold xz cU.val Hd.val jF dp at *;clear i j n k a hp q p z C s F;simp only at *;generalize lW 1 (aA b)=ob at *;generalize cR (bm (bL b) (dh c.1).st (dh c.1).nu)=bv at *;generalize lB (bL b).op.l=ro at *;generalize bL b=r at *;generalize dh c.1=hd at *;refine aM rfl (by kernel_rfl) (kq _ _ _ λg=>?_);cases D<;>simp[an, *,iL,d.r,d.idx];done
end
def iJ(l:List (cU × AV)):List AV:=l.map λp=>p.1.val p.2
@[simp] theorem IX(l:List (cU × AV)):(iJ l).length=l.length:=by simp[iJ]
def NR(l:List (cU × AV)):List cU:=l.map (·.1)
@[simp] theorem agz(l:List (cU × AV)):(NR l).length=l.length:=by simp[NR]
theorem QL(a b:cU):mJ a b=true↔a=b:=⟨Tr,λh=>by rw[h];exact NB b⟩
def xe:List cU->List cU->Bool
 | [],[]=>true
 | a :: l,b :: m=>mJ a b&&xe l m
 | _,_=>false
theorem It : ∀(l m:List cU),xe l m=true↔l=m:=by
 intro l;induction l with
 | nil=>intro m;cases m<;>simp[xe]
 | cons a l e=>intro m;cases m with
  | nil=>simp[xe]
  | cons b m=>simp[xe,QL,e]
theorem NC(l:List cU):xe l l=true:=(It l l).2 rfl
theorem QM{l m:List cU}(h:l.length≠m.length):xe l m=false:=by
 cases e:xe l m with| false=>rfl| true=>exact absurd (iQf List.length ((It l m).1 e)) h
section
variable{l m:List (cU × AV)}{x y:AV}(c:Sl 24 (iJ l) x)(j:Sl 24 (iJ m) y)(d : ∀p∈l,xn p)(n : ∀p∈m,xn p)(f:l.length<1000000)
include c j d n f
theorem JK(C:l.length=m.length){Q:AV->aa->Prop}{H:aa} : ∀(s t:List (cU × AV)) (k:Nat) (i:Int),l.drop k=s->m.drop k=t->k<=l.length->i=k->(Q (aB (xe (NR s) (NR t))) H) ->
 cB env Tryz.f12 0 gw [(5,aI i),(1,y),(0,x)] H Q:=by
 intro s;induction s with
 | nil=>rintro t k i hs ht hk rfl hQ;obtain rfl:=drop_nil hs hk;rw[C,I8]at ht;subst ht;refine ng _ _ _ _ _ λg=>?_;simp[an, *,gx,c.r];all_goals simpa [NR,xe] using hQ
 | cons p s E=>
  rintro t k i hs ht hk rfl hQ;obtain⟨J,L,A,B⟩:=drop_cons hs;have F:k<m.length:=by omega
  obtain⟨q,t',rfl⟩ : ∃q t',t=q :: t':=by
   cases t with| nil=>have:=iQf List.length ht;simp at this;omega| cons q t'=>exact⟨q,t',rfl⟩
  obtain⟨_,z,D,u⟩:=drop_cons ht;have b:=d p (L ▸ eO _);have o:=n q (z ▸ eO _);have K:=aer b o;have N:=iQa ((k:Int)+1) (by omega);have v:=E t' (k+1) ((k:Int)+1) A D (by omega) (by simp);have M:=b.1.r;have I:=o.1.r;have w:bP (iJ l) k 0 24 true=some (p.1.val p.2):=by simp[iJ,B,cU.val]
  have h:bP (iJ m) k 0 24 true=some (q.1.val q.2):=(by simp[iJ,u,cU.val]);have a:Q (aB (mJ p.1 q.1&&xe (NR s) (NR t'))) H:=hQ;clear E hQ d n;unfold cU.val at K w h;generalize mJ p.1 q.1=e at *;refine ng _ _ _ _ _ λg=>?_;cases e with
  | false=>simp[an, *,gx,c.r,c.idx,j.r,j.idx];simpa using a
  | true=>rw[ia]at a;have G:=v a;clear v a;simp[an, *,gx,c.r,c.idx,j.r,j.idx]
theorem QP:ay env 12 [x,y]=some (aB (xe (NR l) (NR m))):=by
 refine aM rfl (by kernel_rfl) (ui _ _ _ _ λg=>?_);by_cases a:l.length=m.length;·have h:=JK c j d n f a (Q:=λv H=>dA env 12 v H (aB (xe (NR l) (NR m)))) (H:=[]) l m 0 0 rfl rfl (by omega) rfl (by simp);have b:=c.r;have i:=j.r;rw[IX]at b i;rw[a]at b;clear d n;simp[an, *,kO];exact h
 have e : ¬(l.length:Int)=m.length:=by omega
 rw[QM (by simpa using a)];clear d n;simp[an, *,kO,c.r,j.r]
end
def fI(d:Dk)(p nu most:Int):Nat->Int->Nat->List cU × Int
 | 0,at',_=>([],at')
 | m+1,at',n=>if (n:Int)<most then (match qu d (p+at') at' (nu+n+1) with
  | some (r,k)=>(r :: (fI d p nu most m (at'+k) (n+1)).1,(fI d p nu most m (at'+k) (n+1)).2)
  | none=>([],at')) else ([],at')
def rX(l:List cU):List (cU × AV):=l.map λr=>(r,lB r.op.l)
@[simp] theorem aew(l:List cU):(rX l).length=l.length:=by simp[rX]
@[simp] theorem TP(l:List cU):NR (rX l)=l:=by simp[NR,rX,MU]
theorem Di{d:Dk}{p at' nu:Int}{r:cU}{k:Nat}(h:qu d p at' nu=some (r,k)):1<=k/\k<=4/\at'+k<=2048/\r.op.l.length<1000000:=by
 unfold qu at h;split at h;·cases h
 split at h
 ·rename_i o i;simp only[bt,iQb]at i;have m:=PY i.1;cases g:vX (eN d p (dh (d.rd p)).of.toNat) with
  | none=>rw[g]at h;cases h
  | some q=>
   rw[g]at h;simp only[Option.map_some,dV,sI]at h;obtain⟨j,n⟩:=h;have:q.1.op.l.length<=64:=by
    unfold vX at g;split at g;·cases g;exact ye _
    cases g
   rw[<-j];omega
 cases h
end
section
def chain(d:Dk)(p:Int):Int->Int->List cU->Prop
 | _,_,[]=>True
 | nu,at',r :: L=>qu d (p+at') at' nu=some (r,ir r)/\chain d p (nu+1) (at'+ir r) L
theorem Ko{d:Dk}(i:d.vc){area at' nu:Int}{r:cU}(h:si d area at' nu r=0):(d.app area at' nu r).vc/\(d.app area at' nu r).may=true/\d.may=true/\(0<=area/\area<=2/\0<=at'/\at'<=2048/\1<=d.st/\1<=nu/\nu<16777216)/\dw r=true/\at'+ir r<=2048/\kb d.st nu 0 (ir r)=true:=by
 unfold si at h;split at h
 ·rename_i b;split at h
  ·rename_i f;split at h
   ·rename_i a;split at h
    ·rename_i g;have e:d.st<2147483648:=by
      have:=b;unfold Dk.may EP EO at this;simp at this;omega
     have j:=vq a;have c:kb d.st nu 0 (ir r)=true:=(by unfold kb;simp;omega);have:=ZZ (bm r d.st nu) d.tw (area * 2048+at') (aag i) (by rw[S3,b]) (by omega) (by rw[jN a];omega) (tX a c);exact⟨this.1,this.2,b,f,a,g,c⟩
    cases h
   cases h
  cases h
 cases h
end
section
attribute [local simp] aC aw ah aq ao bk jE aE ar ax bo bn aG aD ae aN cN
def fresh(n:Int):Dk:=⟨[],aO,1,n,false⟩
def Dk.again(d:Dk)(n:Int):Dk:=⟨qx d.l,vw (twA d.x d.l),d.st+1,n,false⟩
theorem Px{d:Dk}{p nu most:Int} : ∀(m:Nat)(at':Int)(n:Nat),(∀r∈(fI d p nu most m at' n).1,r.op.l.length<1000000)/\(fI d p nu most m at' n).1.length<=m:=by
 intro m;induction m with
 | zero=>intro at' n;exact⟨λr a=>(by cases a),bg _⟩
 | succ m c=>
  intro at' n;unfold fI;split
  ·split
   ·rename_i r k e;have:=c (at'+k) (n+1);refine⟨λq b=>?_,by simp;exact this.2⟩;rcases ef.1 b with rfl | b
    ·exact(Di e).2.2.2
    exact this.1 q b
   exact⟨λr a=>(by cases a),by simp⟩
  exact⟨λr a=>(by cases a),by simp⟩
theorem Gk{l:List cU}(h : ∀r∈l,r.op.l.length<1000000) : ∀p∈rX l,xn p:=by
 intro p hp;obtain⟨r,a,rfl⟩:=j6.1 hp;exact⟨nE _,yD (h r a) (by decide)⟩
end
section
attribute [local simp] aC aw ah aq ao kM o9 bk jE aE ar ax bo bn aG aD ae aN cN
def Dk.wrY(d:Dk)(q:Int)(b:List UInt8):AV:=if d.dead then Sq d.x d.l else .nsl 2 (cG (HD q b d.l)) none
theorem ahF{d:Dk}(h:d.vc)(e:d.may=true){q:Int}(f:0<=q/\q<6146){b:List UInt8}{xb:AV}(g:Sl 1 (aA b) xb)(a:b.length=128) :
 ay aK 24 [d.val,aI q,xb]=some (.tup [df (d.wrY q b) (d.wr q b).st (d.wr q b).lf (d.wr q b).dd,aI 0]):=by
 obtain⟨l,x,st,lf,dd⟩:=d;cases hd:(⟨l,x,st,lf,dd⟩:Dk).dead with
 | true=>
  have c:dd=true\/lf=0:=by unfold Dk.dead at hd;simpa using hd
  have:=Mr (st:=st) (lf:=lf) (dd:=dd) h.sl h.ok h.len g e f a c;unfold Dk.wrY Dk.wr;rw[hd];exact this
 | false=>
  have c:dd=false /\¬lf=0:=by unfold Dk.dead at hd;simpa using hd
  obtain⟨rfl,i⟩:=c;have:=RZ (st:=st) (lf:=lf) h.sl h.ok h.len g e f a i;unfold Dk.wrY Dk.wr;rw[hd];rw[Z3]at this;exact this
theorem V9{d:Dk}(h:d.vc)(q:Int)(b:List UInt8):BQ 2 (cG (d.wr q b).l) (d.wrY q b):=by
 unfold Dk.wr Dk.wrY;cases d.dead with
 | true=>have:=Po h.sl;rw[<-PD]at this;exact this
 | false=>
  refine .inr (.inr ⟨rfl,?_⟩);simp only[gj,iQh];generalize d.l=l;cases l with
  | nil=>simp[HD,cG]
  | cons p l=>unfold HD;split<;>(try split)<;>simp[cG]
end
section
attribute [local simp] aC aw ah aq ao bk jE aE ar ax bo bn aG aD ae aN cN
def aeS(g n:Int):List UInt8:=77 :: (be 4 g++(be 3 n++List.replicate 120 0))
def U4(b:List UInt8):Int:=val ((b.drop 1).take 4)
def aeL(b:List UInt8):Int:=val ((b.drop 5).take 3)
def T2(b:List UInt8)(a:Int):Int × Int:=if 1<=U4 b/\U4 b<2147483648/\U4 b % 2=a/\b=aeS (U4 b) (aeL b) then (U4 b,aeL b) else (0,0)
def Dk.mark(d:Dk)(a:Int):Int × Int:=T2 (d.rd (6144+a)) a
theorem aez{d:Dk}(f:d.may=true)(q:Int):Sb d.l q=d.rd q:=afM q d.l (-1) (vA f)
theorem ahr{d:Dk}(e:d.vc)(f:d.may=true)(q:Int):ay env 95 [d.val,aI q]=some (.bq 1 (aA (d.rd q)) none):=by
 have h:=aep (st:=d.st) (lf:=d.lf) (dd:=d.dd) e.sl e.ok (by have:=e.len;omega) (yu d.l (-1) (vA f)) q;rw[aez f]at h;exact h
section
variable{d:Dk}(e:d.vc)(f:d.may=true){area at':Int}(m:0<=area/\area<=2)(i:0<=at'/\at'<=2048){n:Nat}(o:1<=n/\n<=4)
include e f m i o
theorem ME{Q:AV->aa->Prop}(s : ∀a H',fY [26] 1 (cR (eN d (area * 2048+at') n)) H' a->Q a H') : ∀(j k:Nat)(a:AV)(H:aa),k+j=n->Fr H ->
 H.get ⟨0,4,0,0⟩=some ⟨4,[d.val],false,false⟩->fY [26] 1 (cR (eN d (area * 2048+at') k)) H a ->
 cB env Tryz.f94 0 gR [(10,aI k),(2,aI at'),(1,aI area),(4,.ptr ⟨0,4,0,0⟩ 0 0),(9,a),(3,aI n)] H Q:=by
 have G:=iQa (area * 2048) (by omega);have E:=iQa (area * 2048+at') (by omega);intro j;induction j with
 | zero=>
  rintro k a H hk hF h4 hO;obtain rfl:k=n:=by omega
  have y:=s a H hO;refine nA _ _ _ _ _ _ _ _ λg=>?_;clear e f s hO;simp[an, *,gU];done
 | succ j v=>
  rintro k a H hk hF h4 hO;have I:=iQa (area * 2048+at'+k) (by omega);have D:=iQa ((k:Int)+1) (by omega);have J:=ahr e f (area * 2048+at'+k);have c:(cR (eN d (area * 2048+at') k)).length=k:=by rw[pU,sh]
  have z:(k:Int)<n:=(by omega);have h:=λu H'=>v (k+1) u H' (by omega);rw[Ex,<-BK,show((k+1:Nat):Int)=(k:Int)+1 from by omega]at h;clear v s;have A:=e.sl.r;generalize d.rd (area * 2048+at'+k)=b at *;have w:=(Sl.mk 1 (aA b)).r;refine nA _ _ _ _ _ _ _ _ λg=>?_;generalize cR (eN d (area * 2048+at') k)=BV at *;clear e f;obtain⟨l,x,st,lf,dd⟩:=d;simp only[Dk.val,df]at *;have K:(H.get ⟨0,4,0,0⟩).isSome=true:=by rw[h4];rfl
  rcases hO with ⟨rfl,rfl⟩ | ⟨t,B,p,rfl,q⟩
  ·clear c;simp[an, *,gU];exact h _ _ (by simp(maxDischargeDepth:=12) [hY, *]) (by simp(maxDischargeDepth:=12) [hY, *]) (.inr ⟨26,H.gen 0 26,by simp,by simp,by simp⟩)
  rw[k9]at p;subst p;have F:(H.get ⟨0,26,B,0⟩).isSome=true:=by rw[q];rfl
  have C:kP 1 24 BV.length true none (some ⟨1,BV,true,false⟩) (some [.bq 1 (aA b) none]):=(by simp;omega);clear c;simp[an, *,gU];exact h _ _ (by simp(maxDischargeDepth:=12) [hY, *]) (by simp(maxDischargeDepth:=12) [hY, *]) (.inr ⟨26,H.gen 0 26,by simp,by simp,by simp⟩)
theorem QS:ay env 94 [d.val,aI area,aI at',aI n]=some (.bq 1 (cR (eN d (area * 2048+at') n)) none):=by
 refine aM rfl (by kernel_rfl) (uV _ _ _ _ _ _ λg=>?_);have q:=e.sl.r;have c:(cR (eN d (area * 2048+at') n)).length=n:=by rw[pU,sh]
 have j:=λH=>ME e f m i o (Q:=λv H=>dA env 94 v H (.bq 1 (cR (eN d (area * 2048+at') n)) none)) (λu H' s=>by
  generalize cR (eN d (area * 2048+at') n)=BV at *;rcases s with ⟨rfl,rfl⟩ | ⟨t,w,p,rfl,k⟩
  ·simp at c;omega
  simp[k]) n 0 aO H (by omega)
 have h:=λH a b=>j H a b (.inl ⟨rfl,rfl⟩);clear j c e f;generalize cR (eN d (area * 2048+at') n)=BV at *;obtain⟨l,x,st,lf,dd⟩:=d;simp only[Dk.val,df]at *;simp[an, *,oO];exact h _ (by simp(maxDischargeDepth:=12) [hY, *]) (by simp(maxDischargeDepth:=12) [hY, *])
end
def qv(d:Dk)(p at' nu:Int):Nat->Nat->Option (cU × Nat)
 | 0,_=>none
 | j+1,many=>if at'+many<=2048 then (match vX (eN d p many) with
  | some (r,h)=>if h.nu=nu then some (r,many) else qv d p at' nu j (many+1)
  | none=>qv d p at' nu j (many+1)) else none
theorem QU{l:List (List UInt8)}(a:l.length<=4)(c : ∀b∈l,b.length=128):ay env 93 [.bq 1 (cR l) none]=some (LW l):=by
 have h:=TH (x0 := .bq 1 (cR l) none) (l:=l.map λb=>(b,ES b)) (by rw[E7];exact Sl.mk _ _) (E6 _) (by simp;omega);rw[zO]at h;exact h
section
variable{d:Dk}(e:d.vc)(f:d.may=true){area at' nu:Int}(m:0<=area/\area<=2)(i:0<=at'/\at'<=2048)
include e f m i
theorem K9{Q:AV->aa->Prop} : ∀(j k:Nat)(H:aa),k+j=5->1<=k->Fr H ->
 H.get ⟨0,4,0,0⟩=some ⟨4,[d.val],false,false⟩->H.get ⟨0,8,0,0⟩=some ⟨24,[jF.val aO],false,false⟩ ->
 (∀H',Q (qw (qv d (area * 2048+at') at' nu j k)) H') ->
 cB env Tryz.f62 0 iF [(8,.ptr ⟨0,8,0,0⟩ 0 0),(10,aI k),(3,aI nu),(2,aI at'),(1,aI area),(4,.ptr ⟨0,4,0,0⟩ 0 0)] H Q:=by
 intro j;induction j with
 | zero=>
  rintro k H hk h1 hF h4 h8 hQ;obtain rfl:k=5:=by omega
  simp only[qv,qw]at hQ;refine fy _ _ _ _ _ _ _ _ λg=>?_;clear e f;unfold cU.val jF dp at *;have A:(H.get ⟨0,8,0,0⟩).isSome=true:=by rw[h8];rfl
  simp[an, *,dZ,aa.ab];done
 | succ j v=>
  rintro k H hk h1 hF h4 h8 hQ;have G:=iQa (at'+k) (by omega);have D:=iQa ((k:Int)+1) (by omega);have C:(k:Int)<=4:=by omega
  unfold qv at hQ;have A:(H.get ⟨0,8,0,0⟩).isSome=true:=by rw[h8];rfl
  by_cases y:at'+k<=2048
  ·rw[if_pos y]at hQ;have E:=QS e f m i (n:=k) ⟨h1,by omega⟩;have t:=QU (l:=eN d (area * 2048+at') k) (by rw[sh];omega) (Hm f _ _);have p:=λH'=>v (k+1) H' (by omega) (by omega);rw[show((k+1:Nat):Int)=(k:Int)+1 from by omega]at p;have z:=e.sl.r;unfold LW at t;generalize eN d (area * 2048+at') k=B at *;have F:=(Sl.mk 1 (cR B)).r;cases s:vX B with
   | none=>rw[s]at t hQ;simp only at hQ t;have p:=λH' a b c=>p H' a b c hQ;clear hQ v s e f;unfold xz at t;refine fy _ _ _ _ _ _ _ _ λg=>?_;obtain⟨l,x,st,lf,dd⟩:=d;simp only[Dk.val,df]at *;unfold cU.val Hd.val jF dp at *;generalize cR B=BV at *;simp[an, *,dZ,aa.ab];exact p _ (by simp(maxDischargeDepth:=12) [hY, *]) (by simp(maxDischargeDepth:=12) [hY, *]) (by simp(maxDischargeDepth:=12) [hY, *])
   | some q=>
    obtain⟨r,h⟩:=q;rw[s]at t hQ;simp only at hQ t;clear v s e f;have w:=(nE r.op.l).r;by_cases u:h.nu=nu;·rw[if_pos u]at hQ;simp only[qw]at hQ;refine fy _ _ _ _ _ _ _ _ λg=>?_;obtain⟨l,x,st,lf,dd⟩:=d;simp only[Dk.val,df]at *;unfold cU.val Hd.val at *;unfold jF dp at *;generalize cR B=BV at *;generalize lB r.op.l=ro at *;simp[an, *,dZ,aa.ab];done
    rw[if_neg u]at hQ;have p:=λH' a b c=>p H' a b c hQ;clear hQ;refine fy _ _ _ _ _ _ _ _ λg=>?_;obtain⟨l,x,st,lf,dd⟩:=d;simp only[Dk.val,df]at *;unfold cU.val Hd.val at *;unfold jF dp at *;generalize cR B=BV at *;generalize lB r.op.l=ro at *;simp[an, *,dZ,aa.ab];exact p _ (by simp(maxDischargeDepth:=12) [hY, *]) (by simp(maxDischargeDepth:=12) [hY, *]) (by simp(maxDischargeDepth:=12) [hY, *])
  rw[if_neg y]at hQ;simp only[qw]at hQ;refine fy _ _ _ _ _ _ _ _ λg=>?_;clear e f v;unfold cU.val jF dp at *;simp[an, *,dZ,aa.ab];done
theorem QT:ay env 62 [d.val,aI area,aI at',aI nu]=some (qw (qv d (area * 2048+at') at' nu 4 1)):=by
 refine aM rfl (by kernel_rfl) (vI _ _ _ _ _ _ λg=>?_);have t:=e.sl.r;have j : ∀H',dA env 62 (qw (qv d (area * 2048+at') at' nu 4 1)) H' (qw (qv d (area * 2048+at') at' nu 4 1)):=λH'=>by
  generalize qv d (area * 2048+at') at' nu 4 1=w;cases w with
  | none=>unfold qw cU.val jF dp;simp
  | some q=>obtain⟨r,h⟩:=q;have s:=(nE r.op.l).r;simp only[qw];unfold cU.val;simp[s]
 have p:=λH=>K9 e f m i (nu:=nu) (Q:=λv H=>dA env 62 v H (qw (qv d (area * 2048+at') at' nu 4 1))) 4 1 H rfl (by omega);have k:=λH a b c=>p H a b c j;clear p j e f;generalize qw (qv d (area * 2048+at') at' nu 4 1)=W at *;obtain⟨l,x,st,lf,dd⟩:=d;simp only[Dk.val,df]at *;unfold cU.val jF dp at *;simp[an, *,pj];exact k _ (by simp(maxDischargeDepth:=12) [hY, *]) (by simp(maxDischargeDepth:=12) [hY, *]) (by simp(maxDischargeDepth:=12) [hY, *])
end
end
end Go.Proofs.YtmjkpdknicjjgaaGreat
namespace Go.Proofs.YtmjkpdknicjjgaaGreat
open Go.Ab Go.ChangeShapes Go.WideShapes Go.RowKit
theorem TX:O3 env.P 39 (λ_=>True) (λp:UInt8 × UInt32 × Bool=>[a8 p.1,bO p.2.1,aB p.2.2]):=by
 intro n d h;have h:=np (P:=env.P) L5 h;obtain⟨m,x,r,rfl,c,y,r',rfl,a,rfl⟩:=h;obtain⟨q,_,rfl⟩:=JP _ _ c;obtain⟨b,_,rfl⟩:=Le (P:=env.P) (t:=4) (by simp) _ _ a;exact⟨(q.1,q.2,b),trivial,rfl⟩
def ahs(p:cU × AV):List AV:=[a8 p.1.kind,aI p.1.user]++(ZR (p.1.op,p.2)++[aI p.1.code,aI p.1.gu,a8 p.1.gv,bO p.1.gc,aB p.1.gok])
theorem TV:O3 env.P 43 (λp:cU × AV=>Sl 1 (rows p.1.op.l) p.2/\rZ p.1.op.l) ahs:=by
 intro n w h;have h:=np (P:=env.P) L3 h;obtain⟨m,B,r1,rfl,f,o,r2,rfl,i,A,r3,rfl,a,y,r4,rfl,d,v,r5,rfl,b,rfl⟩:=h;obtain⟨k,_,rfl⟩:=Lf (P:=env.P) (t:=5) (by simp) _ _ f;obtain⟨u,_,rfl⟩:=su (P:=env.P) (t:=3) (by simp) _ _ i;obtain⟨q,j,rfl⟩:=TW _ _ a;obtain⟨c,_,rfl⟩:=su (P:=env.P) (t:=37) (by simp) _ _ d;have e:=np (P:=env.P) L4 b;obtain⟨m,s,s1,rfl,i1,x,s2,rfl,i2,rfl⟩:=e;obtain⟨g,_,rfl⟩:=su (P:=env.P) (t:=3) (by simp) _ _ i1;obtain⟨z,_,rfl⟩:=TX _ _ i2;exact⟨(⟨k,u,q.1,c,g,z.1,z.2.1,z.2.2⟩,q.2),j,rfl⟩
theorem WJ{n:Nat}{x:AV}(h:Si env.P n 43 x) : ∃p:cU × AV,(Sl 1 (rows p.1.op.l) p.2/\rZ p.1.op.l)/\x=p.1.val p.2:=by
 obtain⟨y,rfl,a⟩:=h.agg (by simp);obtain⟨q,b,rfl⟩:=TV _ _ a;exact⟨q,b,rfl⟩
theorem Tj{N:Nat}{l:List eE}{x:AV}{st lf:Int}{dd:Bool}(d:Sl 2 (a9 l) x)(a : ∀s∈l,iQ s)(h:tx N (df x st lf dd)) : ∀s∈l,s.bs.length<=N:=by
 intro s b;have f:=h.parts x (by simp);have g:=(f.sl d).2 s.enc (Fw b);have e:=g.parts s.av (by simp);have c:=(e.sl (a s b)).1;simpa using c
theorem Th{N:Nat}{p:cU × AV}(a:Sl 1 (rows p.1.op.l) p.2)(h:tx N (p.1.val p.2)):p.1.op.l.length<=N:=by
 unfold cU.val at h;have b:=h.parts p.2 (by simp);simpa [rows] using (b.sl a).1
end Go.Proofs.YtmjkpdknicjjgaaGreat
namespace Go.Proofs.YtmjkpdknicjjgaaGreat
open Go.Ab
section
attribute [local simp] aC aw ah aq ao bk jE aE ar ax bo bn aG aD ae aN cN
theorem Ow{d:Dk}{p:Int}{a:Nat}(l:1<=a){r:cU}{h:Hd}(e:vX (eN d p a)=some (r,h)):gZ (d.rd p)=true/\(dh (d.rd p)).of=a/\(dh (d.rd p)).nu=h.nu:=by
 have c:(eN d p a)[0]?=some (d.rd p):=by
  unfold eN;rw[kR,D2 (by omega)];simp
 have k:=Ov e 0 _ c;have hd:(eN d p a).headD []=d.rd p:=by
  cases j:eN d p a with| nil=>rw[j]at c;cases c| cons b B=>rw[j]at c;simpa using c
 refine⟨?_,?_,?_⟩
 ·unfold vX at e;split at e;·rename_i g;rw[hd]at g;simp only[bt]at g;exact g.1
  cases e
 ·rw[k];simp
 rw[k]
theorem Qq(d:Dk)(p at' nu:Int) : ∀(j g:Nat),g+j=5->1<=g->qv d p at' nu j g=if gZ (d.rd p)&&(decide (g<=(dh (d.rd p)).of)&&(decide ((dh (d.rd p)).nu=nu)&&decide (at'+(dh (d.rd p)).of<=2048))) then (vX (eN d p (dh (d.rd p)).of.toNat)).map λq=>(q.1,(dh (d.rd p)).of.toNat) else none:=by
 intro j;induction j with
 | zero=>
  intro g u m;rw[if_neg];·rfl
  simp only[bt,iQb];rintro⟨h,t,_⟩;have:=PY h;omega
 | succ j s=>
  intro g u m;unfold qv;rw[s (g+1) (by omega) (by omega)];by_cases l:at'+g<=2048
  ·rw[if_pos l];cases k:vX (eN d p g) with
   | some q=>
    obtain⟨r,h⟩:=q;obtain⟨a,b,c⟩:=Ow m k;simp only;rw[a,b,c];by_cases f:h.nu=nu;·rw[if_pos f,if_pos (by simp[f,l])];simp[k]
    rw[if_neg f,if_neg (by simp[f]),if_neg (by simp[f])]
   | none=>
    simp only;by_cases v:(dh (d.rd p)).of=g
    ·rw[v,if_neg (by simp;intros;omega)];split;·simp[k]
     rfl
    have e:decide (((g+1:Nat):Int)<=(dh (d.rd p)).of)=decide ((g:Int)<=(dh (d.rd p)).of):=by
     by_cases h:(g:Int)<=(dh (d.rd p)).of;·rw[iQg h,iQg (by omega)]
     rw[iQi h,iQi (by omega)]
    rw[e]
  rw[if_neg l,if_neg];simp only[bt,iQb];rintro⟨h,t,w,x⟩;omega
theorem SN(d:Dk)(p at' nu:Int):qv d p at' nu 4 1=qu d p at' nu:=by
 rw[Qq d p at' nu 4 1 rfl (by omega)];unfold qu;cases a:gZ (d.rd p) with
 | false=>simp
 | true=>
  have b:=PY a;by_cases h:2048<=at';·rw[if_pos h,if_neg (by simp;intros;omega)]
  rw[if_neg h];simp only[ia];rw[iQg (show((1:Nat):Int)<=(dh (d.rd p)).of by omega),ia]
section
variable{d:Dk}(n:d.vc)(i:d.may=true){area nu most:Int}(o:0<=area/\area<=2)(f:0<=nu/\nu<=16777215)
include n i o
theorem Tx{at':Int}(a:0<=at'/\at'<=2048)(nu:Int):ay env 62 [d.val,aI area,aI at',aI nu]=some (qw (qu d (area * 2048+at') at' nu)):=by
 rw[<-SN];exact QT n i o a
include f
theorem VL{Q:AV->aa->Prop} : ∀(m:Nat)(at':Int)(acc:List (cU × AV)) (E:AV) (H:aa),0<=at'->at'<=2048->2049<=at'+m->(acc.length:Int)<=at'->Fr H ->
 H.get ⟨0,4,0,0⟩=some ⟨4,[d.val],false,false⟩->fY [37] 24 (iJ acc) H E->(acc=[]->E=aO) ->
 (∀y H',fY [37] 24 (iJ (acc++rX (fI d (area * 2048) nu most m at' acc.length).1)) H' y->(acc++rX (fI d (area * 2048) nu most m at' acc.length).1=[]->y=aO)->Q (.tup [y,aI (fI d (area * 2048) nu most m at' acc.length).2]) H') ->
 cB env Tryz.f30 0 jA [(11,aI at'),(10,E),(2,aI nu),(1,aI area),(4,.ptr ⟨0,4,0,0⟩ 0 0),(3,aI most)] H Q:=by
 intro m;induction m with
 | zero=>rintro at' acc E H h0 h1 h2;omega
 | succ m J=>
  rintro at' acc E H h0 h1 h2 hal hF h4 hO hN hQ;have L:=iQa (nu+acc.length) (by omega);have K:=iQa (nu+acc.length+1) (by omega);have B:=Tx n i o ⟨h0,h1⟩ (nu+acc.length+1);have b:(iJ acc).length=acc.length:=IX acc;unfold fI at hQ;refine vJ _ _ _ _ _ _ _ _ λg=>?_;have T:=n.sl.r;by_cases v:(acc.length:Int)<most
  ·rw[if_pos v]at hQ;cases A:qu d (area * 2048+at') at' (nu+acc.length+1) with
   | none=>
    rw[A]at B hQ;have a:=λH' h=>hQ E H' (by simpa [rX] using h) (by simpa [rX] using hN);simp only at a;clear hQ J A i n hN;obtain⟨l,y,st,lf,dd⟩:=d;simp only[Dk.val,df]at *;have U:(H.get ⟨0,4,0,0⟩).isSome=true:=by rw[h4];rfl
    unfold qw cU.val jF dp at B;rcases hO with ⟨rfl,I⟩ | ⟨t,G,p,rfl,s⟩
    ·have:acc=[]:=(by simpa [iJ] using I);subst this;have D:0<most:=v;simp only[k8,Int.natCast_zero,Int.add_zero]at B L K;simp[an, *,cC];all_goals exact a _ (.inl ⟨rfl,rfl⟩)
    rw[k9]at p;subst p;simp only[b]at a ⊢;have O:(H.get ⟨0,37,G,0⟩).isSome=true:=by rw[s];rfl
    simp[an, *,cC];all_goals exact a _ (.inr ⟨37,G,by simp,by rw[b],by simp(maxDischargeDepth:=12) [hY, *]⟩)
   | some q=>
    obtain⟨r,k⟩:=q;have M:=Di A;rw[A]at B hQ;simp only at hQ;have X:=iQa (at'+k) (by omega);have S : ¬k=0:=by omega
    have u:=λF H'=>J (at'+k) (acc++[(r,lB r.op.l)]) F H' (by omega) (by omega) (by omega) (by simp;omega);have C:=(nE r.op.l).r;have w:lB r.op.l=aO \/∃c,lB r.op.l = .bq 1 (rows r.op.l) c:=by
     rcases nE r.op.l with ⟨h,_⟩ | ⟨c,h,_⟩
     ·exact .inl h
     exact .inr ⟨c,h⟩
    have a : ∀y H',fY [37] 24 (iJ ((acc++[(r,lB r.op.l)])++rX (fI d (area * 2048) nu most m (at'+k) (acc++[(r,lB r.op.l)]).length).1)) H' y->((acc++[(r,lB r.op.l)])++rX (fI d (area * 2048) nu most m (at'+k) (acc++[(r,lB r.op.l)]).length).1=[]->y=aO)->Q (.tup [y,aI (fI d (area * 2048) nu most m (at'+k) (acc++[(r,lB r.op.l)]).length).2]) H':=(by intro y H' h f;rw[ju,Fy]at h ⊢;exact hQ y H' (by simpa [rX] using h) (λe=>by simp[rX]at e));have u:=λF H' N V P=>u F H' N V P (λe=>by simp at e) a;have z : ∀(g m:Nat)(H':aa),m=acc.length+1->H'.get ⟨0,37,g,0⟩=some ⟨24,iJ acc++[r.val (lB r.op.l)],true,false⟩->fY [37] 24 (iJ (acc++[(r,lB r.op.l)])) H' (.bA ⟨0,37,g,0⟩ 0 m none):=(by intro g m H' i h;subst i;exact .inr ⟨37,g,by simp,by simp,by rw[h];simp[iJ]⟩);clear J hQ a A i n hN;unfold qw at B;unfold cU.val at B z;obtain⟨l,y,st,lf,dd⟩:=d;simp only[Dk.val,df]at *;have U:(H.get ⟨0,4,0,0⟩).isSome=true:=by rw[h4];rfl
    generalize lB r.op.l=ro at *;have R:acc.length+1<=2049:=by omega
    rcases hO with ⟨rfl,I⟩ | ⟨t,G,p,rfl,s⟩
    ·have:acc=[]:=(by simpa [iJ] using I);subst this;have j:=λH'=>z (H.gen 0 37) 1 H' rfl;clear z b;have D:0<most:=v;simp only[k8,Int.natCast_zero,Int.add_zero]at B L K;rcases w with rfl | ⟨c,rfl⟩
     ·clear C;simp[an, *,cC];exact u _ _ (by simp(maxDischargeDepth:=12) [hY, *]) (by simp(maxDischargeDepth:=12) [hY, *]) (j _ (by simp(maxDischargeDepth:=12) [hY, *]))
     simp[an, *,cC];exact u _ _ (by simp(maxDischargeDepth:=12) [hY, *]) (by simp(maxDischargeDepth:=12) [hY, *]) (j _ (by simp(maxDischargeDepth:=12) [hY, *]))
    rw[k9]at p;subst p;simp only[b]at s ⊢;have O:(H.get ⟨0,37,G,0⟩).isSome=true:=by rw[s];rfl
    have j:=λH'=>z (H.gen 0 37) (acc.length+1) H' rfl;clear z;have W : ∀x:AV,kP 24 160 acc.length true none (some ⟨24,iJ acc,true,false⟩) (some [x]):=(by intro x;simp;omega);rcases w with rfl | ⟨c,rfl⟩
    ·clear C;simp[an, *,cC];exact u _ _ (by simp(maxDischargeDepth:=12) [hY, *]) (by simp(maxDischargeDepth:=12) [hY, *]) (j _ (by simp(maxDischargeDepth:=12) [hY, *]))
    simp[an, *,cC];exact u _ _ (by simp(maxDischargeDepth:=12) [hY, *]) (by simp(maxDischargeDepth:=12) [hY, *]) (j _ (by simp(maxDischargeDepth:=12) [hY, *]))
  rw[if_neg v]at hQ;have a:=λH' h=>hQ E H' (by simpa [rX] using h) (by simpa [rX] using hN);simp only at a;clear hQ J i n B hN;rcases hO with ⟨rfl,I⟩ | ⟨t,G,p,rfl,s⟩
  ·have:acc=[]:=(by simpa [iJ] using I);subst this;have D : ¬0<most:=v;simp[an, *,cC];all_goals exact a _ (.inl ⟨rfl,rfl⟩)
  rw[k9]at p;subst p;simp only[b]at a ⊢;simp[an, *,cC];all_goals exact a _ (.inr ⟨37,G,by simp,by rw[b],s⟩)
theorem aaw:ay env 30 [d.val,aI area,aI nu,aI most]=some (.tup [lW 24 (iJ (rX (fI d (area * 2048) nu most 2049 0 0).1)),aI (fI d (area * 2048) nu most 2049 0 0).2]):=by
 refine aM rfl (by kernel_rfl) (xK _ _ _ _ _ _ λg=>?_);have a:=VL n i o f (most:=most) (Q:=λv H=>dA env 30 v H (.tup [lW 24 (iJ (rX (fI d (area * 2048) nu most 2049 0 0).1)),aI (fI d (area * 2048) nu most 2049 0 0).2])) 2049 0 [] aO;have j : ∀(y:AV)(H':aa),fY [37] 24 (iJ (([]:List (cU × AV))++rX (fI d (area * 2048) nu most 2049 0 ([]:List (cU × AV)).length).1)) H' y->([]++rX (fI d (area * 2048) nu most 2049 0 ([]:List (cU × AV)).length).1=[]->y=aO) ->
  dA env 30 (.tup [y,aI (fI d (area * 2048) nu most 2049 0 ([]:List (cU × AV)).length).2]) H' (.tup [lW 24 (iJ (rX (fI d (area * 2048) nu most 2049 0 0).1)),aI (fI d (area * 2048) nu most 2049 0 0).2]):=by
  intro y H' h f;rw[k8]at h f ⊢;rw[o4]at h f;generalize fI d (area * 2048) nu most 2049 0 0=q at *;rcases h with ⟨rfl,w⟩ | ⟨t,x,u,rfl,c⟩
  ·rw[w];simp[lW]
  by_cases e:iJ (rX q.1)=[];·cases f (by simpa [iJ] using e)
  rw[tK 24 e];simp[c]
 have m:=n.sl.r;have b:=λH k s p=>a H (by omega) (by omega) (by omega) (by simp) k s p (λ_=>rfl) j;clear i n j a;generalize fI d (area * 2048) nu most 2049 0 0=q at *;obtain⟨l,y,st,lf,dd⟩:=d;simp only[Dk.val,df]at *;simp[an, *,rg];exact b _ (by simp(maxDischargeDepth:=12) [hY, *]) (by simp(maxDischargeDepth:=12) [hY, *]) (.inl ⟨rfl,rfl⟩)
end
end
section
attribute [local simp] aC aw ah aq ao kM o9 bk jE aE ar ax bo bn aG aD ae aN cN
theorem XR{b:List UInt8}{x:AV}(y:Sl 1 (aA b) x)(B:8<=b.length)(C:b.length<50000000):ay aK 91 [x]=some ((bL b).val (qi 1 (rows (bL b).op.l))):=by
 refine nF (fn:=Tryz.f91) (c:=vE) rfl (by kernel_rfl) (by kernel_rfl) (by kernel_rfl) (by kernel_rfl) ?_;refine B9 _ _ _ λg=>?_;match b,B with
 | b0 :: b1 :: b2 :: b3 :: b4 :: b5 :: b6 :: a :: t,_=>
 obtain⟨d,rfl,f⟩:=mP y (by simp);rw[fW]at f;simp only[iA]at f C;have j:t.length+7<=(d.map (· - 1)).getD (t.length+7):=by cases d<;>simp at f ⊢ <;> omega
 have L:(6:Int)<=(d.map (· - 1)).getD (t.length+7):=by omega
 have D:(6:Int)<=((t.length+7:Nat):Int):=by omega
 have J:(7:Int)<=(d.map (· - 1)).getD (t.length+7):=by omega
 have P:(2:Int)<=(d.map (· - 1)).getD (t.length+7):=by omega
 have O:(0:Int) < ↑t.length+1+1+1+1+1+1+1+1:=by omega
 have F:(1:Int) <= ↑t.length+1+1+1+1+1+1+1+1:=by omega
 have H:((t.length:Int)+1+1+1+1+1+1+1+1).toNat - 1=t.length+7:=by omega
 have Q:List.take (t.length+7) (a8 b1 :: a8 b2 :: a8 b3 :: a8 b4 :: a8 b5 :: a8 b6 :: a8 a :: List.map a8 t)=a8 b1 :: a8 b2 :: a8 b3 :: a8 b4 :: a8 b5 :: a8 b6 :: a8 a :: List.map a8 t:=cN (by simp);have G:Option.map ((λx:Nat=>x) ∘ λx=>x - 1) d=Option.map (λx=>x - 1) d:=rfl;have A:6<=(d.map (· - 1)).getD 6:=by cases d<;>simp at f ⊢ <;> omega
 have u:7<=(d.map (· - 1)).getD 7:=by cases d<;>simp at f ⊢ <;> omega
 have E:2<=(d.map (· - 1)).getD 2:=by cases d<;>simp at f ⊢ <;> omega
 have N:(2:Int) <= ↑t.length+1+1+1+1+1+1+1:=by omega
 have K:((t.length:Int)+1+1+1+1+1+1+1).toNat - 2=t.length+5:=by omega
 have M:List.take (t.length+5) (a8 b3 :: a8 b4 :: a8 b5 :: a8 b6 :: a8 a :: List.map a8 t)=a8 b3 :: a8 b4 :: a8 b5 :: a8 b6 :: a8 a :: List.map a8 t:=cN (by simp);clear j;by_cases k1:b0=1;·subst k1;have e:bL (1 :: b1 :: b2 :: b3 :: b4 :: b5 :: b6 :: a :: t)=⟨1,a.toNat, { dp with h:=DM [b1,b2,b3,b4,b5,b6]},0,0,0,0,false⟩:=rfl;rw[e];have n:=j9 (by rfl) <| Oz (v := .bq 1 [a8 b1,a8 b2,a8 b3,a8 b4,a8 b5,a8 b6] (d.map (· - 1))) (l:=[b1,b2,b3,b4,b5,b6]) (by rw[show[a8 b1,a8 b2,a8 b3,a8 b4,a8 b5,a8 b6]=aA [b1,b2,b3,b4,b5,b6] from rfl];exact Sl.XE (by simpa using A)) rfl;unfold cU.val dp;simp only[show qi 1 (rows [])=aO from rfl];generalize DM [b1,b2,b3,b4,b5,b6]=hh at *;simp[an, *,lJ,aA];omega
 by_cases s:b0=2
 ·subst s;have e:bL (2 :: b1 :: b2 :: b3 :: b4 :: b5 :: b6 :: a :: t)=⟨2,0,N5 (b3 :: b4 :: b5 :: b6 :: a :: t),val [b1,b2],0,0,0,false⟩:=rfl;rw[e];have w:=j9 (by rfl) <| JL (l:=[b1,b2]) (x := .bq 1 [a8 b1,a8 b2] (d.map (· - 1))) (by rw[show[a8 b1,a8 b2]=aA [b1,b2] from rfl];exact Sl.XE (by simpa using E)) (by simp);have k:Sl 1 (aA (b3 :: b4 :: b5 :: b6 :: a :: t)) (.bq 1 (a8 b3 :: a8 b4 :: a8 b5 :: a8 b6 :: a8 a :: List.map a8 t) (Option.map ((λx=>x - 2) ∘ λx=>x - 1) d)):=by
   rw[show a8 b3 :: a8 b4 :: a8 b5 :: a8 b6 :: a8 a :: List.map a8 t=aA (b3 :: b4 :: b5 :: b6 :: a :: t) from rfl];exact Sl.XE (by cases d<;>simp at f ⊢ <;> omega)
  have i:=j9 (by rfl) <| W4 k (by simp only[iA];omega);have p:oX (b3 :: b4 :: b5 :: b6 :: a :: t) = .tup [.agg (Av (N5 (b3 :: b4 :: b5 :: b6 :: a :: t))++[qi 1 (rows (N5 (b3 :: b4 :: b5 :: b6 :: a :: t)).l)]),aI (if mM (b3 :: b4 :: b5 :: b6 :: a :: t) then pK (b3 :: b4 :: b5 :: b6 :: a :: t) else 0),aI (if mM (b3 :: b4 :: b5 :: b6 :: a :: t) then 0 else 8)]:=(by unfold oX N5 oz;split<;>rfl);rw[p]at i;unfold cU.val;generalize N5 (b3 :: b4 :: b5 :: b6 :: a :: t)=o at *;simp only[Av]at i;have z:=(nE o.l).r;have m:=Gm o.l;generalize lB o.l=ro at *;generalize qi 1 (rows o.l)=rq at *;generalize rows o.l=rw' at *;generalize val [b1,b2]=cd at *;clear p k;rcases m with ⟨rfl,rfl⟩ | ⟨rfl,rfl⟩<;>simp[an, *,lJ,aA]
 by_cases q:b0=3;·subst q;have e:bL (3 :: b1 :: b2 :: b3 :: b4 :: b5 :: b6 :: a :: t) = { oW [b1,b2,b3,b4,b5,b6,a]with kind:=3}:=rfl;rw[e];obtain⟨I,n⟩:=W6 (c:=d.map (· - 1)) (b0:=b1) (b1:=b2) (b2:=b3) (b3:=b4) (b4:=b5) (b5:=b6) (b6:=a) u;replace n:=j9 (by rfl) n;obtain⟨f1,f2,f3⟩:=zG [b1,b2,b3,b4,b5,b6,a];unfold cU.val;simp only[f1,f2,f3];unfold dp;simp only[show qi 1 (rows [])=aO from rfl];generalize oW [b1,b2,b3,b4,b5,b6,a]=gg at *;simp[an, *,lJ,aA];omega
 have e:bL (b0 :: b1 :: b2 :: b3 :: b4 :: b5 :: b6 :: a :: t)=⟨b0,0,dp,0,0,0,0,false⟩:=(by unfold bL;simp[k1,s,q]);rw[e];unfold cU.val dp;simp only[show qi 1 (rows [])=aO from rfl];simp[an, *,lJ,aA]
def IT(l:List (List UInt8))(h:Hd)(b:List UInt8):AV:=if sW l h b then .tup [(bL b).val (qi 1 (rows (bL b).op.l)),h.val,aI 0] else xz
def afP(H:aa)(es:List AV)(v:AV):Prop:=(v=aO/\es=[])\/(es≠[] /\∃q,v = .bA q 0 es.length none/\H.get q=some ⟨1,es,true,false⟩)
def G0(l:List (List UInt8)):AV:=match vX l with
 | some (r,h) => .tup [r.val (qi 1 (rows r.op.l)),h.val,aI 0]
 | none=>xz
theorem aeN(n:Nat)(l:List UInt8):((aA l).all λe=>e.cells.all λc => !CB c&&EK (n+1) c)=true:=by
 simp only[dY,aA,j6];rintro e ⟨b,_,rfl⟩ c a;have a:c∈[a8 b]:=a;rw[k9]at a;subst a;rfl
theorem PO(r:cU)(st nu:Int):EK depth (AP r st nu)=true:=by
 unfold AP;split
 ·split;·show(([AV.bq 1 (cR (bm r st nu)) none,aI 0]).all (EK 7))=true;simp only[yB,Bl,zd];have a:EK 7 (aI 0)=true:=rfl;rw[a,zd];show((cR (bm r st nu)).all λe=>e.cells.all λc => !CB c&&EK 6 c)=true;simp only[dY,cR,j6];rintro e ⟨b,_,rfl⟩ c hc;simp only[ES,AV.cells,k9]at hc;subst hc;show(true&&_)=true;rw[ia];exact aeN 4 b
  rfl
 rfl
theorem Lu{H:aa}{r:cU}{ro:AV}{q:Ref}(b:(ro=aO/\rows r.op.l=[])\/(ro = .bA q 0 (rows r.op.l).length none /\∃fz,H.get q=some ⟨1,rows r.op.l,true,fz⟩))(m:r.op.l.length<2000000)(st nu:Int)(dep:Nat) :
 cD aK dep (.fn 22) [r.val ro,aI st,aI nu] H=some (AP r st nu,H):=by
 refine ym ?_;show(if 22=49 then sx Tryz.prog 22 40 25 [r.val ro,aI st,aI nu] H else if 22=45 then sg 2 32 5 7 [r.val ro,aI st,aI nu] H else if 22=22 then BL (ay env 22) [r.val ro,aI st,aI nu] H else none)=_;rw[if_neg (by decide),if_neg (by decide),if_pos rfl];have j : ∃y,Sl 1 (rows r.op.l) y/\view H.get 7 ro=some y/\(af H.get 7 ro).all (zE H.get)=true:=by
  rcases b with ⟨rfl,h⟩ | ⟨rfl,fz,h⟩
  ·exact⟨aO,.inl ⟨rfl,h⟩,rfl,rfl⟩
  refine⟨.bq 1 (rows r.op.l) none,Sl.mk _ _,by simp[view,h],?_⟩;have:af H.get 7 (.bA q 0 (rows r.op.l).length none)=[q]:=by simp[af,h]
  rw[this];simp only[yB,Bl,zd,zE,h,ia,dY];intro e g c a;simp only[rows,j6]at g;obtain⟨n,_,rfl⟩:=g;have a:c∈[aR n]:=a;rw[k9]at a;subst a;rfl
 obtain⟨y,p,d,f⟩:=j;have k:=K2 r p m st nu;have i:([r.val ro,aI st,aI nu]).mapM (view H.get depth)=some [r.val y,aI st,aI nu]:=by
  unfold cU.val;simp[d]
 have o:(bH H.get [r.val ro,aI st,aI nu]).all (zE H.get)=true:=by
  have:bH H.get [r.val ro,aI st,aI nu]=af H.get 7 ro:=(by unfold cU.val;simp[bH]);rw[this];exact f
 unfold BL;rw[i];simp only[k];rw[if_pos ⟨PO r st nu,o⟩]
theorem RC{x0:AV}{l:List (List UInt8 × AV)}(K:Sl 1 (bV l) x0)(O:okB l)(X:l.length<100000){B:List UInt8}(N:B.length<50000000)(h:Hd){z:AV}{H:aa}{r2 r3:Ref}
 (L:DW 1 (aA B) H z) (Y:Fr H) (R:H.get r2=some ⟨24,[jF.val aO],false,false⟩) (J:H.get r3=some ⟨4,[h.val],false,false⟩) (E:r2≠r3) (t:z.at?≠some r2) (w:z.at?≠some r3) {Q:AV->aa->Prop} (a:sW (gq l) h B=false ->∀H',Q xz H') (c:sW (gq l) h B=true ->∀H' ro,afP H' (rows (bL B).op.l) ro->Q (.tup [(bL B).val ro,h.val,aI 0]) H') :
 cB aK Tryz.f61 0 jW [(29,aI l.length),(5,z),(27,x0),(2,.ptr r2 0 0),(3,.ptr r3 0 0),(0,x0),(28,aI l.length)] H Q:=by
 have V:=E.symm;have W:=K.r;have l2:(H.get r2).isSome=true:=by rw[R];rfl
 have l3:(H.get r3).isSome=true:=by rw[J];rfl
 unfold Hd.val at J;by_cases v:8<=B.length
 ·have G:aA B≠[]:=by intro e;have:=iQf List.length e;simp at this;rw[this]at v;simp at v
  obtain⟨q,rfl,D⟩:=L.bA G;have S:q≠r2:=λe=>t (by rw[e];rfl);have M:q≠r3:=λe=>w (by rw[e];rfl);have P:=S.symm;have T:=M.symm;clear t w;rw[fW];have Z:(H.get q).isSome=true:=by rw[D];rfl
  have hp:=XR (b:=B) (x := .bq 1 (aA B) none) (Sl.mk _ _) v N;have p:(bL B).op.l.length<2000000:=by have:=ye B;omega
  have I : ¬(B.length:Int)<8:=(by omega);have u:sW (gq l) h B=(dw (bL B)&&kb h.st h.nu 0 (ir (bL B))&&decide (bm (bL B) h.st h.nu=gq l)):=(by unfold sW;rw[iQg v,ia]);rw[u]at a c;have k:=j9 (by rfl) <| aev (x := .bq 1 (cR (bm (bL B) h.st h.nu)) none) (y:=x0) (l:=(bm (bL B) h.st h.nu).map λb=>(b,ES b)) (m:=l) (by rw[E7];exact Sl.mk _ _) K (E6 _) O (by
   rw[zg,bm,Dy];have:=PI 3 (mb (bL B));omega)
  rw[zO]at k;clear u;generalize bL B=r at *;have f : ∀(dep:Nat)(H:aa)(s:Ref)(ro:AV),((ro=aO/\rows r.op.l=[]) \/∃q,ro = .bA q 0 (rows r.op.l).length none/\H.get q=some ⟨1,rows r.op.l,true,false⟩)->aV aK true (ay aK) (cD aK dep) H s (some (.fn (.func 22) [] [])) [r.val ro,aI h.st,aI h.nu]=some (AP r h.st h.nu,H):=by
   intro dep H s ro F;rw[Am (by rfl)];rcases F with ⟨C,A⟩ | ⟨q,C,A⟩
   ·exact Lu (q:=s) (.inl ⟨C,A⟩) p h.st h.nu dep
   exact Lu (.inr ⟨C,false,A⟩) p h.st h.nu dep
  clear p;unfold AP at f;unfold xz jF cU.val Hd.val dp at a;unfold cU.val Hd.val at c;unfold cU.val jF dp at *;by_cases i:rows r.op.l=[]
  ·have d:=λdep H s=>f dep H s aO (.inl ⟨rfl,i⟩);clear f;have c:=λe H'=>c e H' aO (.inl ⟨rfl,i⟩);rw[i,GG]at hp;clear i;cases j:dw r with
   | false=>rw[j]at a d;simp only[pE,gj,iQh,true_imp_iff,iQp]at a d;clear c;clear k j;refine fS _ _ _ _ _ _ _ _ _ λg=>?_;simp[an, *,dN,aa.ab]
   | true=>
    cases n:kb h.st h.nu 0 (ir r) with| false=>rw[j,n]at a d;simp only[pE,Bn,gj,iQh,if_true,iQp]at a d;clear c;clear k j n;refine fS _ _ _ _ _ _ _ _ _ λg=>?_;simp[an, *,dN,aa.ab]| true=>
     rw[j,n]at a c d;simp only[Bm,ia,if_true]at a c d;clear j n;generalize decide (bm r h.st h.nu=gq l)=db at *;refine fS _ _ _ _ _ _ _ _ _ λg=>?_;cases db;·simp only[iQp]at a;clear c;simp[an, *,dN,aa.ab]
     simp only[iQp]at c;clear a;simp[an, *,dN,aa.ab]
  have d:=λdep H s q e=>f dep H s _ (.inr ⟨q,rfl,e⟩);clear f;have c:=λe H' q D=>c e H' _ (.inr ⟨i,q,rfl,D⟩);rw[tL 1 i]at hp;clear i;generalize rows r.op.l=rw' at *;cases j:dw r with
  | false=>rw[j]at a d;simp only[pE,gj,iQh,true_imp_iff,iQp]at a d;clear c;clear k j;refine fS _ _ _ _ _ _ _ _ _ λg=>?_;simp[an, *,dN,aa.ab]
  | true=>
   cases n:kb h.st h.nu 0 (ir r) with| false=>rw[j,n]at a d;simp only[pE,Bn,gj,iQh,if_true,iQp]at a d;clear c;clear k j n;refine fS _ _ _ _ _ _ _ _ _ λg=>?_;simp[an, *,dN,aa.ab]| true=>
    rw[j,n]at a c d;simp only[Bm,ia,if_true]at a c d;clear j n;generalize decide (bm r h.st h.nu=gq l)=db at *;refine fS _ _ _ _ _ _ _ _ _ λg=>?_;cases db;·simp only[iQp]at a;clear c;simp[an, *,dN,aa.ab]
    simp only[iQp]at c;clear a;simp[an, *,dN,aa.ab]
 have I:(B.length:Int)<8:=by omega
 have o:=L.len;have u:sW (gq l) h B=false:=(by unfold sW;rw[iQi v,pE]);have U:=a u;clear c a;unfold xz jF cU.val Hd.val dp at U;unfold cU.val jF dp at *;clear u;rw[fW]at o;refine fS _ _ _ _ _ _ _ _ _ λg=>?_;simp[an, *,dN,aa.ab]
theorem Of{x0:AV}{l:List (List UInt8 × AV)}(B:Sl 1 (bV l) x0)(F:okB l)(I:l.length<100000)(J:(hU (gq l)).length<50000000)(h:Hd){r2 r3:Ref}(y:r2≠r3){Q:AV->aa->Prop}(j:sW (gq l) h (hU (gq l))=false ->∀H',Q xz H')(f:sW (gq l) h (hU (gq l))=true ->∀H' ro,afP H' (rows (bL (hU (gq l))).op.l) ro->Q (.tup [(bL (hU (gq l))).val ro,h.val,aI 0]) H') :
 ∀(s:List (List UInt8 × AV)) (k:Nat) (i:Int) (c:AV) (H:aa),l.drop k=s->k<=l.length->i=k->DW 1 (aA (hU (gq (l.take k)))) H c->Fr H->H.get r2=some ⟨24,[jF.val aO],false,false⟩->H.get r3=some ⟨4,[h.val],false,false⟩->c.at?≠some r2->c.at?≠some r3 ->
 cB aK Tryz.f61 0 jW [(29,aI i),(5,c),(27,x0),(2,.ptr r2 0 0),(3,.ptr r3 0 0),(0,x0),(28,aI l.length)] H Q:=by
 intro s;induction s with
 | nil=>rintro k i c H hs hk rfl ho hF h2 h3 n52 n53;obtain rfl:=drop_nil hs hk;rw[BT]at ho;exact RC B F I J h ho hF h2 h3 y n52 n53 j f
 | cons p s C=>
  rintro k i c H hs hk rfl ho hF h2 h3 n52 n53;obtain⟨L,N,u,w⟩:=drop_cons hs;have hp:=F p (N ▸ eO _);have K:=hp.r;have a:hU (gq (l.take (k+1)))=hU (gq (l.take k))++p.1.drop 9:=by
   unfold hU gq;rw[Ft,w];simp
  have b:(hU (gq (l.take (k+1)))).length<=(hU (gq l)).length:=by
   have e:gq l=gq (l.take (k+1))++gq (l.drop (k+1)):=by unfold gq;rw[<-xF,AB]
   rw[e];unfold hU;rw[BW,ju];omega
  rw[a]at b;have S:=iQa ((k:Int)+1) (by omega);have key : ∀(n:Nat)(v:AV),n=min p.1.length 9->(∃H0:aa,v=v)->Sl 1 ((aA p.1).drop n) v ->∃d H',dm env.P true H ⟨0,39,H.gen 0 39,0⟩ (some 57) (some 57) c v=some (d,H') /\
   cB aK Tryz.f61 0 jW [(29,aI ((k:Int)+1)),(5,d),(27,x0),(2,.ptr r2 0 0),(3,.ptr r3 0 0),(0,x0),(28,aI l.length)] H' Q:=by
   intro n v R _ E;have hd:(aA p.1).drop n=aA (p.1.drop 9):=by
    rw[CQ,R];congr 1;by_cases G:p.1.length<=9;·rw[Ay G,I8,wF G]
    rw[Ja (by omega)]
   rw[hd]at E;have o:=VE (P:=env.P) (t:=57) (t':=57) (z:=1) (by':=1) (by kernel_rfl) (by kernel_rfl) H 0 39 ho (E.Hz _) (by rw[fW,fW];rw[ju]at b;show(_+_) * 1<=140737488355328;omega) hF;obtain⟨d,H',D,A,M,m⟩:=o;rw[OQ,<-a]at A;exact⟨d,H',D,C (k+1) _ d H' u (by omega) (by simp) A M (m _ _ h2 n52).1 (m _ _ h3 n53).1 (m _ _ h2 n52).2 (m _ _ h3 n53).2⟩
  clear C b a j f;refine fS _ _ _ _ _ _ _ _ _ λg=>?_;have q:=Nw (P:=env.P) (t:=57) (z:=1) (by kernel_rfl) H.get hp (n:=if 9<(p.1.length:Int) then 9 else (p.1.length:Int)) (by split<;>omega) (by rw[fW];split<;>omega);obtain⟨v,O,x⟩:=q;obtain⟨d,H',D,A⟩:=key _ v (by split<;>omega) ⟨H,rfl⟩ x;clear key;simp[an, *,dN,B.idx,bV]
theorem UP{x0:AV}{l:List (List UInt8 × AV)}(a:Sl 1 (bV l) x0)(f:okB l)(o:l.length<100000)(m:(hU (gq l)).length<50000000):ay aK 61 [x0]=some (G0 (gq l)):=by
 refine nF (fn:=Tryz.f61) (c:=yT) rfl (by kernel_rfl) (by kernel_rfl) (by kernel_rfl) (by kernel_rfl) ?_;refine EG _ _ _ λg=>?_;have t:=a.r;cases l with
 | nil=>unfold gq G0 vX xz jF cU.val Hd.val dp;simp[an, *,pw,gZ]
 | cons p l=>
  have hp:=f p (gD ..);have d:=j9 (by rfl) (Iu hp);have s:=hp.r;have w : ¬((l.length:Int)+1=0):=by omega
  have x:(0:Int)<(l.length:Int)+1:=(by omega);have hd:(gq (p :: l)).headD []=p.1:=rfl;unfold G0 vX;rw[hd];cases k:gZ p.1 with
  | false=>rw[k,if_neg (by decide)]at d;unfold xz jF cU.val Hd.val dp;unfold Hd.val at d;simp[an, *,pw,a.idx,bV]
  | true=>
   rw[k,if_pos rfl]at d;rw[ia];have j:=λ(H:aa)=>Of a f o m (dh p.1) (r2:=⟨0,2,0,0⟩) (r3:=⟨0,3,0,0⟩) (by decide) (Q:=λv H=>(af H.get 8 v).Nodup/\bJ H.get 8 v=some (IT (gq (p :: l)) (dh p.1) (hU (gq (p :: l))))) (by
    intro b H';unfold IT;rw[b];unfold xz jF cU.val Hd.val dp;simp) (by
    intro b H' ro i;unfold IT;rw[b];generalize bL (hU (gq (p :: l)))=r at *;unfold cU.val Hd.val;rcases i with ⟨rfl,e⟩ | ⟨u,q,rfl,e⟩
    ·rw[e];simp
    rw[tL 1 u];generalize rows r.op.l=rw' at *;simp[e]) (p :: l) 0 0 aO H rfl (by omega) rfl (E1 _ _)
   have n:(match (if sW (gq (p :: l)) (dh p.1) (hU (gq (p :: l)))=true then some (bL (hU (gq (p :: l))),dh p.1) else none)with | some (r,h)=>AV.tup [r.val (qi 1 (rows r.op.l)),h.val,aI 0] | none=>xz)=IT (gq (p :: l)) (dh p.1) (hU (gq (p :: l))):=(by unfold IT;cases sW (gq (p :: l)) (dh p.1) (hU (gq (p :: l)))<;>rfl);rw[n];generalize IT (gq (p :: l)) (dh p.1) (hU (gq (p :: l)))=ans at *;unfold jF cU.val dp at j;generalize dh p.1=hd0 at *;unfold Hd.val at *;clear f n m hd k;rw[show(((p :: l).length:Nat):Int)=(l.length:Int)+1 from by simp]at j;simp[an, *,pw,a.idx,bV];exact j _ (by simp(maxDischargeDepth:=12) [HA, *]) rfl rfl (by simp[AV.at?]) (by simp[AV.at?])
end
section
attribute [local simp] aC aw ah aq ao bk jE aE ar ax bo bn aG aD ae aN cN
section
variable{d:Dk}(a:d.vc)
include a
theorem K4:ay env 25 [d.val]=some (aB d.may):=aav (st:=d.st) (lf:=d.lf) (dd:=d.dd) a.sl a.ok (by have:=a.len;omega)
end
theorem XP : ∀(l m:List eE)(a:Int),fK l=fK m->fO a l=fO a m:=by
 intro l;induction l with
 | nil=>
  intro m a h;cases m with
  | nil=>rfl
  | cons p m=>simp[fK]at h
 | cons p l g=>
  intro m a h;cases m with
  | nil=>simp[fK]at h
  | cons p' m=>simp only[fK,vG,wB,sI]at h;obtain⟨⟨k,e⟩,c⟩:=h;unfold fO;rw[k,e,g m p'.pos c]
theorem abn(q:Int) : ∀l m:List eE,fK l=fK m->V0 l q=V0 m q:=by
 intro l;induction l with
 | nil=>
  intro m h;cases m with
  | nil=>rfl
  | cons p m=>simp[fK]at h
 | cons p l e=>
  intro m h;cases m with
  | nil=>simp[fK]at h
  | cons p' m=>simp only[fK,vG,wB,sI]at h;obtain⟨⟨g,c⟩,a⟩:=h;unfold V0;rw[g,c,e m a]
theorem XO(q:Int)(b:List UInt8) : ∀l m:List eE,fK l=fK m->fK (HD q b l)=fK (HD q b m):=by
 intro l;induction l with
 | nil=>
  intro m h;cases m with
  | nil=>rfl
  | cons p m=>simp[fK]at h
 | cons p l s=>
  intro m h;cases m with
  | nil=>simp[fK]at h
  | cons p' m=>
   simp only[fK,vG,wB,sI]at h;obtain⟨⟨c,g⟩,e⟩:=h;have a:=s m e;unfold HD;rw[c];have k:fK (qx l)=fK (qx m):=by rw[DJ,DJ];exact e
   simp only[fK]at a k ⊢;split;·simp[Qy,c,g,a]
   split<;>simp[Qy,yX,c,g,k]
structure Dk.Eq (d e:Dk):Prop where
 key:fK d.l=fK e.l
 st:d.st=e.st
 lf:d.lf=e.lf
 dd:d.dd=e.dd
theorem Dk.Eq.refl(d:Dk):d.Eq d:=⟨rfl,rfl,rfl,rfl⟩
theorem Dk.Eq.may{d e:Dk}(h:d.Eq e):d.may=e.may:=by unfold Dk.may EP;rw[XP _ _ _ h.key,h.st,h.lf,h.dd]
theorem Dk.Eq.rd{d e:Dk}(h:d.Eq e):d.rd=e.rd:=by
 funext q;exact abn q _ _ h.key
theorem Dk.Eq.dead{d e:Dk}(h:d.Eq e):d.dead=e.dead:=by unfold Dk.dead;rw[h.lf,h.dd]
theorem Dk.Eq.whole{d e:Dk}(h:d.Eq e)(p at' nu:Int):qu d p at' nu=qu e p at' nu:=by
 unfold qu eN;rw[h.rd]
theorem Dk.Eq.scan{d e:Dk}(h:d.Eq e)(p nu most:Int) : ∀(m:Nat)(at':Int)(k:Nat),fI d p nu most m at' k=fI e p nu most m at' k:=by
 intro m;induction m with
 | zero=>intro at' k;rfl
 | succ m a=>intro at' k;unfold fI;rw[h.whole];simp only[a]
def Dk.wg(d:Dk)(q:Int)(b:List UInt8):Dk:=
 if d.dead then ⟨d.l,d.x,d.st,d.lf,true⟩ else ⟨rC d.l q b,.bq 2 (a9 (rC d.l q b)) none,d.st,if d.lf>0 then d.lf - 1 else d.lf,false⟩
theorem Dk.Eq.wr{d e:Dk}(h:d.Eq e)(f:d.may=true)(q:Int)(b:List UInt8):(d.wr q b).Eq (e.wg q b):=by
 unfold Dk.wr Dk.wg;rw[h.dead];cases e.dead with
 | true=>exact⟨by show fK (qx d.l)=_;rw[DJ];exact h.key,h.st,h.lf,rfl⟩
 | false=>exact⟨by
  show fK (HD q b d.l)=fK (rC e.l q b);rw[XO q b _ _ h.key];exact UN q b e.l (-1) (vA (by rw[<-h.may];exact f)),h.st,by show(if d.lf>0 then d.lf - 1 else d.lf)=_;rw[h.lf];rfl,rfl⟩
theorem Jt{d:Dk}(f:d.may=true){q:Int}(a:0<=q/\q<6146){b:List UInt8}(c:b.length=128):(d.wg q b).may=true:=by
 rw[<-((Dk.Eq.refl d).wr f q b).may];exact Jr f a c
theorem SP{d:Dk}(i:d.vc)(f:d.may=true){q:Int}(a:0<=q/\q<6146){b:List UInt8}(c:b.length=128):(d.wg q b).vc:=by
 have o:=E3 (Jt f a c);refine⟨?_,?_,by omega⟩
 ·unfold Dk.wg;split;·exact i.sl
  exact Sl.mk _ _
 unfold Dk.wg;split;·exact i.ok
 exact Wc (xb := .bq 1 (aA b) none) i.sl i.ok i.len (Sl.mk _ _) (by omega) q
theorem aho{d:Dk}(h:d.vc)(f:d.may=true){q:Int}(k:0<=q/\q<6146){b:List UInt8}{xb:AV}(e:Sl 1 (aA b) xb)(j:b.length=128) :
 ay env 58 [d.val,aI q,xb]=some (d.wg q b).val:=by
 obtain⟨l,x,st,lf,dd⟩:=d;cases hd:(⟨l,x,st,lf,dd⟩:Dk).dead with
 | true=>
  have a:dd=true\/lf=0:=by unfold Dk.dead at hd;simpa using hd
  have:=HP (st:=st) (lf:=lf) (dd:=dd) h.sl h.ok h.len e (by omega) (q:=q) a;unfold Dk.wg;rw[hd];exact this
 | false=>
  have a:dd=false /\¬lf=0:=by unfold Dk.dead at hd;simpa using hd
  obtain⟨rfl,g⟩:=a;have c : -1<=lf/\lf<2147483648:=(by unfold Dk.may EP EO at f;simp at f;omega);have:=K1 (st:=st) (lf:=lf) h.sl h.ok h.len e (by omega) (q:=q) g c;unfold Dk.wg;rw[hd];exact this
def Dk.KC(d:Dk)(q:Int):List (List UInt8)->Dk
 | []=>d
 | b :: B=>(d.wg q b).KC (q+1) B
theorem Dk.Eq.Z0 : ∀(B:List (List UInt8)) {d e:Dk} (h:d.Eq e) (f:d.may=true) (q:Int),0<=q->q+B.length<=6146->(∀b∈B,b.length=128)->(d.Z0 q B).Eq (e.KC q B):=by
 intro B;induction B with
 | nil=>intro d e h _ _ _ _ _;exact h
 | cons b B g=>intro d e h f q m k a;simp only[iA]at k;have b1:=a b (gD ..);exact g (h.wr f q b) (Jr f (by omega) b1) (q+1) (by omega) (by omega) λx c=>a x (iS _ c)
theorem SO : ∀(B:List (List UInt8)) (d:Dk) (q:Int),d.vc->d.may=true->0<=q->q+B.length<=6146->(∀b∈B,b.length=128)->(d.KC q B).vc/\(d.KC q B).may=true:=by
 intro B;induction B with
 | nil=>intro d q h f _ _ _;exact⟨h,f⟩
 | cons b B e=>intro d q h f k g a;simp only[iA]at g;have b1:=a b (gD ..);exact e (d.wg q b) (q+1) (SP h f (by omega) b1) (Jt f (by omega) b1) (by omega) (by omega) λx c=>a x (iS _ c)
theorem adB(d:Dk)(q:Int)(b:List UInt8):(d.wg q b).st=d.st:=by unfold Dk.wg;split<;>rfl
theorem Z5 : ∀(B:List (List UInt8)) (d:Dk) (q:Int),(d.KC q B).st=d.st:=by
 intro B;induction B with
 | nil=>intro d q;rfl
 | cons b B a=>intro d q;show((d.wg q b).KC (q+1) B).st=_;rw[a,adB]
section
variable{B:List (List UInt8)}(j : ∀b∈B,b.length=128)(t:B.length<=4){area at':Int}(w:0<=area/\area<=2)(u:0<=at'/\at'+B.length<=2048)
include j t w u
theorem Lm{Q:AV->aa->Prop} : ∀(s:List (List UInt8)) (k:Nat) (d:Dk) (H:aa),B.drop k=s->k<=B.length->d.vc->d.may=true->Fr H ->
 H.get ⟨0,5,0,0⟩=some ⟨4,[d.val],false,false⟩->H.get ⟨0,10,0,0⟩=some ⟨4,[qo],false,false⟩ ->
 (∀H',Q (d.KC (area * 2048+at'+k) s).val H') ->
 cB env Tryz.f28 0 jz [(12,aI k),(5,.ptr ⟨0,5,0,0⟩ 0 0),(11,.bq 1 (cR B) none),(2,aI at'),(1,aI area),(10,.ptr ⟨0,10,0,0⟩ 0 0)] H Q:=by
 have R:=iQa (area * 2048) (by omega);have P:=iQa (area * 2048+at') (by omega);have L:(cR B).length=B.length:=pU B;intro s;induction s with
 | nil=>
  rintro k d H hs hk i f hF h5 h10 hQ;obtain rfl:=drop_nil hs hk;simp only[Dk.KC]at hQ;have C:=i.sl.r;clear i f;obtain⟨l,y,st,lf,dd⟩:=d;simp only[Dk.val,df,qo]at *;have J:(H.get ⟨0,10,0,0⟩).isSome=true:=by rw[h10];rfl
  refine o6 _ _ _ _ _ _ _ _ λg=>?_;simp[an, *,lP,aa.ab];done
 | cons b s D=>
  rintro k d H hs hk i f hF h5 h10 hQ;obtain⟨x,E,A,K⟩:=drop_cons hs;have b1:=j b (E ▸ eO _);have z:0<=area * 2048+at'+k/\area * 2048+at'+k<6146:=by omega
  have S:=iQa (area * 2048+at'+k) (by omega);have N:=iQa ((k:Int)+1) (by omega);have O:=aho i f z (Sl.mk 1 (aA b)) b1;have h:=SP i f z b1;have m:=Jt f z b1;have G:=Lk (B:=B) (k:=k) (b:=b) (by rw[de x,E]);have e:=λH' a v=>D (k+1) (d.wg (area * 2048+at'+k) b) H' A (by omega) h m a v;have q : ∀H',Q ((d.wg (area * 2048+at'+k) b).KC (area * 2048+at'+((k+1:Nat):Int)) s).val H':=λH'=>by
   have:=hQ H';unfold Dk.KC at this;rw[show area * 2048+at'+((k+1:Nat):Int)=area * 2048+at'+k+1 from by omega];exact this
  have e:=λH' a v c=>e H' a v c q;rw[show((k+1:Nat):Int)=(k:Int)+1 from by omega]at e;have C:=i.sl.r;have F:=h.sl.r;have I:(k:Int)<B.length:=by omega
  clear D hQ q i f h m;generalize d.wg (area * 2048+at'+k) b=d' at *;generalize cR B=BV at *;obtain⟨l,y,st,lf,dd⟩:=d;obtain⟨T,U,st',lf',dd'⟩:=d';simp only[Dk.val,df,qo]at *;have M:(H.get ⟨0,5,0,0⟩).isSome=true:=by rw[h5];rfl
  refine o6 _ _ _ _ _ _ _ _ λg=>?_;simp[an, *,lP,aa.ab];exact e _ (by simp(maxDischargeDepth:=12) [hY, *]) (by simp(maxDischargeDepth:=12) [hY, *]) (by simp(maxDischargeDepth:=12) [hY, *])
end
def Dk.wa(d:Dk)(area at' nu:Int)(r:cU):Dk:=d.KC (area * 2048+at') (bm r d.st nu)
section
variable{d:Dk}(i:d.vc)(f:d.may=true){p:cU × AV}(hp:xn p)(o:p.1.op.l.length<100000){area at' nu:Int}(n:si d area at' nu p.1=0)
include i f hp o n
theorem TD:ay env 28 [d.val,aI area,aI at',aI nu,p.1.val p.2]=some (d.wa area at' nu p.1).val:=by
 refine aM rfl (by kernel_rfl) (xJ _ _ _ _ _ _ _ λg=>?_);obtain⟨_,_,_,G,z,m,A⟩:=Ko i n;have e:=jN z d.st nu;have j:=tX z A;have F:=vq z;obtain⟨_,_,_,_,_,_,_,_⟩:=sf.1 A;have E:=Ea (p:=p) hp o z (st:=d.st) (nu:=nu) (by omega) (by omega) (by omega) (by omega);have h:=λH a b c=>Lm j (area:=area) (at':=at') (by rw[e];omega) (by omega) (by rw[e];omega) (Q:=λv H=>dA env 28 v H (d.wa area at' nu p.1).val) (bm p.1 d.st nu) 0 d H rfl (by omega) i f a b c;have q:=SO (bm p.1 d.st nu) d (area * 2048+at') i f (by omega) (by rw[e];omega) j;unfold Dk.wa at *;rw[show area * 2048+at'+((0:Nat):Int)=area * 2048+at' from by omega,show((0:Nat):Int)=0 from rfl]at h;have D:=i.sl.r;have s:=q.1.sl.r;have k : ∀H',dA env 28 (d.KC (area * 2048+at') (bm p.1 d.st nu)).val H' (d.KC (area * 2048+at') (bm p.1 d.st nu)).val:=λH'=>by
  generalize d.KC (area * 2048+at') (bm p.1 d.st nu)=d' at *;obtain⟨I,J,st',lf',dd'⟩:=d';simp only[Dk.val,df]at *;simp[s]
 have h:=λH a b c=>h H a b c k;have C:=hp.1.r;clear k q i f j e z A m n hp;generalize d.KC (area * 2048+at') (bm p.1 d.st nu)=d' at *;obtain⟨r,x⟩:=p;simp only at *;generalize cR (bm r d.st nu)=BV at *;obtain⟨l,y,st,lf,dd⟩:=d;simp only[Dk.val,df,qo]at *;unfold cU.val at *;simp[an, *,re];exact h _ (by simp(maxDischargeDepth:=12) [hY, *]) (by simp(maxDischargeDepth:=12) [hY, *]) (by simp(maxDischargeDepth:=12) [hY, *])
end
theorem Dk.Eq.app{d e:Dk}(i:d.vc)(h:d.Eq e){area at' nu:Int}{r:cU}(n:si d area at' nu r=0):(d.app area at' nu r).Eq (e.wa area at' nu r):=by
 obtain⟨_,_,f,m,g,c,k⟩:=Ko i n;have a:=jN g d.st nu;unfold Dk.app Dk.wa;rw[<-h.st];exact Dk.Eq.Z0 _ (d:=d.tw) ⟨by show fK (qx d.l)=_;rw[DJ];exact h.key,h.st,h.lf,h.dd⟩ (by rw[S3];exact f) _ (by omega) (by rw[a];omega) (tX g k)
theorem Ks{d e:Dk}(h:d.Eq e)(area at' nu:Int)(r:cU):si d area at' nu r=si e area at' nu r:=by
 unfold si;rw[h.may,h.st]
theorem Qk{d:Dk}(i:d.vc){area at' nu:Int}{r:cU}(n:si d area at' nu r=0):(d.wa area at' nu r).vc/\(d.wa area at' nu r).may=true/\(d.wa area at' nu r).st=d.st:=by
 obtain⟨_,_,f,h,e,c,g⟩:=Ko i n;have a:=jN e d.st nu;have:=SO (bm r d.st nu) d (area * 2048+at') i f (by omega) (by rw[a];omega) (tX e g);exact⟨this.1,this.2,Z5 _ _ _⟩
end
section
attribute [local simp] aC aw ah aq ao kM o9 bk jE aE ar ax bo bn aG aD ae aN cN
theorem UO{l:List (List UInt8)}(c:l.length<=4)(g : ∀b∈l,b.length=128):ay aK 61 [.bq 1 (cR l) none]=some (G0 l):=by
 have h:=UP (x0 := .bq 1 (cR l) none) (l:=l.map λb=>(b,ES b)) (by rw[E7];exact Sl.mk _ _) (E6 _) (by simp;omega) (by rw[zO];exact yD (R2 g c) (by omega));rw[zO]at h;exact h
def vm:Option (cU × Nat)->AV
 | some (r,n) => .tup [r.val (qi 1 (rows r.op.l)),aI n]
 | none => .tup [jF.val aO,aI 0]
def EV(of:Nat):Option (cU × Hd)->AV
 | some (r,_) => .tup [r.val (qi 1 (rows r.op.l)),aI of]
 | none => .tup [jF.val aO,aI 0]
section
variable{d:Dk}(a:d.vc)(e:d.may=true){area at':Int}(o:0<=area/\area<=2)(p:0<=at'){of:Nat}(f:1<=of/\of<=4/\at'+of<=2048){hd:Hd}(m:hd.of=of)
include a e o p f m
theorem Ke{R:Option (cU × Hd)}(A:R=vX (eN d (area * 2048+at') of)) : ∀(j k:Nat)(i:Int)(s:AV)(H:aa),k+j=of->i=k->Fr H ->
 H.get ⟨0,4,0,0⟩=some ⟨4,[d.val],false,false⟩->H.get ⟨0,8,0,0⟩=some ⟨24,[jF.val aO],false,false⟩->H.get ⟨0,12,0,0⟩=some ⟨4,[hd.val],false,false⟩ ->
 fY [70] 1 (cR (eN d (area * 2048+at') k)) H s ->
 cB aK Tryz.f29 0 ov [(53,aI i),(14,s),(2,aI at'),(1,aI area),(4,.ptr ⟨0,4,0,0⟩ 0 0),(8,.ptr ⟨0,8,0,0⟩ 0 0),(12,.ptr ⟨0,12,0,0⟩ 0 0),(52,aI of)] H (λv H=>dA aK 29 v H (EV of R)):=by
 have Q:=iQa (area * 2048) (by omega);have O:=iQa (area * 2048+at') (by omega);intro j;induction j with
 | zero=>
  rintro k i s H hk rfl hF h4 h8 h12 hO;obtain rfl:k=of:=by omega
  have u:=UO (l:=eN d (area * 2048+at') k) (by rw[sh];exact f.2.1) (Hm e _ _);have c:(cR (eN d (area * 2048+at') k)).length=k:=by rw[pU,sh]
  unfold G0 at u;refine wW _ _ _ _ _ _ _ _ _ _ λg=>?_;generalize eN d (area * 2048+at') k=B at *;clear a e;rcases hO with ⟨rfl,I⟩ | ⟨t,E,n,rfl,y⟩
  ·rw[I]at c;simp at c;omega
  rw[k9]at n;subst n;unfold Hd.val at h12;unfold cU.val jF dp at h8;have S:(H.get ⟨0,8,0,0⟩).isSome=true:=by rw[h8];rfl
  generalize cR B=BV at *;rw[<-A]at u;clear A;cases R with
  | none=>simp only[EV]at u ⊢;unfold xz at u;unfold cU.val Hd.val jF dp at *;simp[an, *,kJ,aa.ab];done
  | some q=>
   obtain⟨r,h⟩:=q;simp only[EV]at u ⊢;unfold cU.val Hd.val at *;by_cases D:rows r.op.l=[];·rw[D]at u ⊢;have L:qi 1 []=aO:=rfl;rw[L]at u ⊢;simp[an, *,kJ,aa.ab];done
   rw[tL 1 D]at u ⊢;generalize rows r.op.l=rw' at *;simp[an, *,kJ,aa.ab];done
 | succ j C=>
  rintro k i s H hk rfl hF h4 h8 h12 hO;have J:0<=area * 2048+at'+k/\area * 2048+at'+k<6146:=by omega
  have T:=iQa (area * 2048+at'+k) (by omega);have N:=iQa ((k:Int)+1) (by omega);have U:=j9 (by rfl) (aeo a e J);have c:(cR (eN d (area * 2048+at') k)).length=k:=by rw[pU,sh]
  have G:k<of:=(by omega);have w:=λz H'=>C (k+1) ((k:Int)+1) z H' (by omega) (by simp);rw[Ex,<-BK]at w;clear C A;have K:=a.sl.r;generalize d.rd (area * 2048+at'+k)=b at *;have F:=(Sl.mk 1 (aA b)).r;refine wW _ _ _ _ _ _ _ _ _ _ λg=>?_;generalize cR (eN d (area * 2048+at') k)=BV at *;clear a e;obtain⟨l,x,st,lf,dd⟩:=d;simp only[Dk.val,df]at *;have V:(H.get ⟨0,4,0,0⟩).isSome=true:=by rw[h4];rfl
  rcases hO with ⟨rfl,rfl⟩ | ⟨t,E,n,rfl,y⟩
  ·clear c;simp[an, *,kJ];exact w _ _ (by simp(maxDischargeDepth:=12) [hY, *]) (by simp(maxDischargeDepth:=12) [hY, *]) (by simp(maxDischargeDepth:=12) [hY, *]) (by simp(maxDischargeDepth:=12) [hY, *]) (.inr ⟨70,H.gen 0 70,by simp,by simp,by simp⟩)
  rw[k9]at n;subst n;have P:(H.get ⟨0,70,E,0⟩).isSome=true:=by rw[y];rfl
  have M:kP 1 24 BV.length true none (some ⟨1,BV,true,false⟩) (some [.bq 1 (aA b) none]):=(by simp;omega);clear c;simp[an, *,kJ];exact w _ _ (by simp(maxDischargeDepth:=12) [hY, *]) (by simp(maxDischargeDepth:=12) [hY, *]) (by simp(maxDischargeDepth:=12) [hY, *]) (by simp(maxDischargeDepth:=12) [hY, *]) (.inr ⟨70,H.gen 0 70,by simp,by simp,by simp⟩)
end
section
variable{d:Dk}(a:d.vc)(e:d.may=true){area:Int}(o:0<=area/\area<=2)
include a e o
theorem Yo{at':Int}(p:0<=at')(nu:Int):ay aK 29 [d.val,aI area,aI at',aI nu]=some (vm (qu d (area * 2048+at') at' nu)):=by
 refine nF (fn:=Tryz.f29) (c:=zP) rfl (by kernel_rfl) (by kernel_rfl) (by kernel_rfl) (by kernel_rfl) ?_;refine FX _ _ _ _ _ _ λg=>?_;have j:=a.sl.r;unfold qu;by_cases A:2048<=at';·rw[if_pos A];clear e a;obtain⟨l,y,st,lf,dd⟩:=d;simp only[Dk.val,df]at j ⊢;unfold vm cU.val jF dp;simp[an, *,mA,aa.ab]
 rw[if_neg A];have G:0<=area * 2048+at'/\area * 2048+at'<6146:=by omega
 have L:=iQa (area * 2048) (by omega);have J:=iQa (area * 2048+at') (by omega);have u:=j9 (by rfl) (aeo a e G);generalize w:d.rd (area * 2048+at')=b at *;have n:=j9 (by rfl) (Iu (x := .bq 1 (aA b) none) (b:=b) (Sl.mk _ _));have D:=(Sl.mk 1 (aA b)).r;cases v:gZ b with
 | false=>rw[v,if_neg (by decide)]at n;simp only[pE,gj,iQh];clear e a;obtain⟨l,y,st,lf,dd⟩:=d;simp only[Dk.val,df,Hd.val]at j n u ⊢;unfold vm cU.val jF dp;simp[an, *,mA,aa.ab]
 | true=>
  rw[v,if_pos rfl]at n;have f:=PY v;have M:=iQa (at'+(dh b).of) (by omega);simp only[ia];by_cases t:(dh b).nu=nu/\at'+(dh b).of<=2048
  ·have s:(decide ((dh b).nu=nu)&&decide (at'+(dh b).of<=2048))=true:=(by simp[t]);rw[if_pos s];obtain⟨of,i⟩:=Ff (show 0<=(dh b).of by omega);rw[i];have h:=λH=>Ke a e o p (of:=of) ⟨by omega,by omega,by omega⟩ (hd:=dh b) i (R:=vX (eN d (area * 2048+at') of)) rfl of 0 0 aO H (by omega) rfl;have z:EV of (vX (eN d (area * 2048+at') of))=vm ((vX (eN d (area * 2048+at') (Int.toNat (of:Int)))).map λq=>(q.1,Int.toNat (of:Int))):=by
    rw[show Int.toNat (of:Int)=of from rfl];cases vX (eN d (area * 2048+at') of) with
    | none=>rfl
    | some q=>rfl
   rw[z]at h;clear z;have k:=t.1;have r2 : ¬(2048:Int)<at'+(of:Int):=by omega
   clear e a w s;generalize vm _=W at *;obtain⟨l,y,st,lf,dd⟩:=d;simp only[Dk.val,df]at j u h ⊢;unfold cU.val jF dp at h;generalize dh b=hd at *;obtain⟨E,F,B,C⟩:=hd;simp only at i k t;subst i k;simp only[Hd.val]at n h;simp[an, *,mA,aa.ab, -ke];exact h _ (by simp(maxDischargeDepth:=12) [hY, *]) (by simp(maxDischargeDepth:=12) [hY, *]) (by simp(maxDischargeDepth:=12) [hY, *]) (by simp(maxDischargeDepth:=12) [hY, *]) (.inl ⟨rfl,rfl⟩)
  have s:(decide ((dh b).nu=nu)&&decide (at'+(dh b).of<=2048))=false:=(by simp only[Fc,iQc];omega);rw[s];simp only[gj,iQh];clear e a w;obtain⟨l,y,st,lf,dd⟩:=d;simp only[Dk.val,df,Hd.val]at j n u ⊢;unfold vm cU.val jF dp;by_cases I:(dh b).nu=nu;·have K:(2048:Int)<at'+(dh b).of:=(by omega);simp[an, *,mA,aa.ab]
  simp[an, *,mA,aa.ab]
end
end
section
attribute [local simp] aC aw ah aq ao bk jE aE ar ax bo bn aG aD ae aN cN
def Dk.rt(d:Dk):Dk:=⟨Hy d.l,lW 2 (a9 (Hy d.l)),d.st,d.lf,d.dd⟩
theorem Y6{d:Dk}(c:d.vc)(h : ∀s∈d.l,s.bs.length<1000000000):ay env 6 [d.val]=some d.rt.val:=WX (st:=d.st) (lf:=d.lf) (dd:=d.dd) c.sl c.ok (by have:=c.len;omega) h
theorem Dv{d:Dk}(c:d.vc):d.rt.vc:=⟨yg _ _,aaA _,by show(Hy d.l).length<_;rw[W9];exact c.len⟩
theorem rt_eq(d:Dk):d.rt.Eq d:=⟨Oe _,rfl,rfl,rfl⟩
theorem PQ{d:Dk}(e:d.may=true) : ∀s∈d.l,s.bs.length<1000000000:=λs c=>by
 have:=yu d.l (-1) (vA e) s c;omega
def VJ(d:Dk)(area at' nu:Int)(r:cU):AV:=
 if si d area at' nu r=0 then .tup [(d.wa area at' nu r).rt.val,aI (at'+ir r),aI 0] else .tup [qo,aI 0,aI (si d area at' nu r)]
section
variable{d:Dk}(a:d.vc)
include a
theorem K3{p:cU × AV}(hp:xn p)(q:p.1.op.l.length<100000)(G:rZ p.1.op.l)(area at' nu:Int):ay env 8 [d.val,aI area,aI at',aI nu,p.1.val p.2]=some (VJ d area at' nu p.1):=by
 refine aM rfl (by kernel_rfl) (uW _ _ _ _ _ _ _ λg=>?_);have z:=K4 a;have K:=a.sl.r;have D:=hp.1.r;unfold VJ;cases hm:d.may with
 | false=>
  have b:si d area at' nu p.1=8:=by unfold si;rw[hm];rfl
  rw[hm]at z;rw[b,if_neg (by decide)];clear a hm hp b;obtain⟨r,x⟩:=p;obtain⟨j,y,st,lf,dd⟩:=d;simp only[Dk.val,df,qo]at *;unfold cU.val;simp[an, *,bC,aa.ab];done
 | true=>
  rw[hm]at z;by_cases w:0<=area/\area<=2/\0<=at'/\at'<=2048/\1<=d.st/\1<=nu/\nu<16777216
  ·obtain⟨k,v,m,u,t,s,o⟩:=w;have i:=TG hp q G;have n1 : ¬area<0:=by omega
   have n2 : ¬2<area:=(by omega);have R : ¬at'<0:=(by omega);have P : ¬2048<at':=(by omega);have S : ¬d.st<1:=(by omega);have V : ¬nu<1:=(by omega);have Z : ¬16777216<=nu:=(by omega);cases h:dw p.1 with
   | false=>
    have b:si d area at' nu p.1=8:=by unfold si;rw[hm,if_pos rfl,if_pos ⟨k,v,m,u,t,s,o⟩,h];rfl
    rw[h]at i;rw[b,if_neg (by decide)];clear a hm hp h b;obtain⟨r,x⟩:=p;obtain⟨j,y,st,lf,dd⟩:=d;simp only[Dk.val,df,qo]at *;unfold cU.val at *;simp[an, *,bC,aa.ab];done
   | true=>
    rw[h]at i;have B:=vq h;have H:=Du hp q h;have X:=iQa (at'+(ir p.1:Int)) (by omega);by_cases e:at'+ir p.1<=2048
    ·have b:si d area at' nu p.1=0:=by unfold si;rw[hm,if_pos rfl,if_pos ⟨k,v,m,u,t,s,o⟩,h,if_pos rfl,if_pos e]
     have U:=TD a hm hp q b;have f:=Qk a b;have hT:=Y6 f.1 (PQ f.2.1);have O:=(Dv f.1).sl.r;have h2:=f.1.sl.r;rw[b,if_pos rfl];generalize (d.wa area at' nu p.1).rt=d3 at *;generalize d.wa area at' nu p.1=d2 at *;have r2 : ¬(2048:Int)<at'+(ir p.1:Int):=by omega
     generalize (ir p.1:Int)=n at *;clear a hm hp h b f;obtain⟨r,x⟩:=p;obtain⟨j,y,st,lf,dd⟩:=d;obtain⟨I,y2,E,F,L⟩:=d2;obtain⟨C,y3,A,J,M⟩:=d3;simp only[Dk.val,df,qo]at *;unfold cU.val at *;simp[an, *,bC,aa.ab];done
    have b:si d area at' nu p.1=9:=by unfold si;rw[hm,if_pos rfl,if_pos ⟨k,v,m,u,t,s,o⟩,h,if_pos rfl,if_neg e]
    rw[b,if_neg (by decide)];have r2:(2048:Int)<at'+(ir p.1:Int):=by omega
    generalize (ir p.1:Int)=n at *;clear a hm hp h b;obtain⟨r,x⟩:=p;obtain⟨j,y,st,lf,dd⟩:=d;simp only[Dk.val,df,qo]at *;unfold cU.val at *;simp[an, *,bC,aa.ab];done
  have b:si d area at' nu p.1=2:=by unfold si;rw[hm,if_pos rfl,if_neg w]
  rw[b,if_neg (by decide)];have c:0<=area->area<=2->0<=at'->at'<=2048->1<=d.st->1<=nu->16777216<=nu:=by omega
  clear a hm hp b w;obtain⟨r,x⟩:=p;obtain⟨j,y,st,lf,dd⟩:=d;simp only[Dk.val,df,qo]at *;unfold cU.val at *;by_cases W:area<0;·clear c;simp[an, *,bC,aa.ab]
  by_cases T:2<area;·clear c;simp[an, *,bC,aa.ab]
  by_cases Y:at'<0;·clear c;simp[an, *,bC,aa.ab]
  by_cases N:2048<at';·clear c;simp[an, *,bC,aa.ab]
  by_cases Q:st<1;·clear c;simp[an, *,bC,aa.ab]
  by_cases c6:nu<1;·clear c;simp[an, *,bC,aa.ab]
  have c7:16777216<=nu:=(by omega);clear c;simp[an, *,bC,aa.ab];done
def Tq(d:Dk)(area nu most:Int):AV:=
 if d.may then (if 0<=area/\area<=2/\0<=nu/\nu<16777216/\0<=most/\most<16777216 then .tup [lW 24 (iJ (rX (fI d (area * 2048) nu most 2049 0 0).1)),aI (fI d (area * 2048) nu most 2049 0 0).2,aI 0] else .tup [aO,aI 0,aI 2]) else .tup [aO,aI 0,aI 8]
theorem QY(area nu most:Int):ay env 10 [d.val,aI area,aI nu,aI most]=some (Tq d area nu most):=by
 refine aM rfl (by kernel_rfl) (wJ _ _ _ _ _ _ λg=>?_);have e:=K4 a;have i:=a.sl.r;unfold Tq;cases hm:d.may with
 | false=>rw[hm]at e;clear a hm;obtain⟨f,y,st,lf,dd⟩:=d;simp only[Dk.val,df,qo,gj,iQh]at *;simp[an, *,cT,aa.ab];done
 | true=>
  rw[hm]at e;simp only[if_true];by_cases c:0<=area/\area<=2/\0<=nu/\nu<16777216/\0<=most/\most<16777216
  ·rw[if_pos c];obtain⟨l,C,s,A,x,u⟩:=c;have n1 : ¬area<0:=by omega
   have n2 : ¬2<area:=(by omega);have n : ¬nu<0:=(by omega);have k : ¬16777216<=nu:=(by omega);have p : ¬most<0:=(by omega);have v : ¬16777216<=most:=(by omega);have t:=aaw a hm (area:=area) (nu:=nu) (most:=most) (by omega) (by omega);have h:=(yg 24 (iJ (rX (fI d (area * 2048) nu most 2049 0 0).1))).r;generalize lW 24 (iJ (rX (fI d (area * 2048) nu most 2049 0 0).1))=o at *;generalize (fI d (area * 2048) nu most 2049 0 0).2=nx at *;clear a hm;obtain⟨f,y,st,lf,dd⟩:=d;simp only[Dk.val,df,qo]at *;simp[an, *,cT,aa.ab];done
  rw[if_neg c];have b:0<=area->area<=2->0<=nu->nu<16777216->0<=most->16777216<=most:=by omega
  clear a hm c;obtain⟨f,y,st,lf,dd⟩:=d;simp only[Dk.val,df,qo]at *;by_cases w:area<0;·clear b;simp[an, *,cT,aa.ab]
  by_cases q:2<area;·clear b;simp[an, *,cT,aa.ab]
  by_cases z:nu<0;·clear b;simp[an, *,cT,aa.ab]
  by_cases j:16777216<=nu;·clear b;simp[an, *,cT,aa.ab]
  by_cases m:most<0;·clear b;simp[an, *,cT,aa.ab]
  have B:16777216<=most:=(by omega);clear b;simp[an, *,cT,aa.ab];done
end
end
section
attribute [local simp] aC aw ah aq ao kM o9 bk jE aE ar ax bo bn aG aD ae aN cN
def Rg(r:cU)(x:AV):List AV:=[a8 r.kind,aI r.user,a8 r.op.kind,a8 r.op.h.lv,bO r.op.h.cats,a8 r.op.h.num,aI r.op.serial,a8 r.op.s.f.h.lv,bO r.op.s.f.h.cats,a8 r.op.s.f.h.num,aI r.op.s.f.n,aI r.op.s.many,a8 r.op.a.h.lv,bO r.op.a.h.cats,a8 r.op.a.h.num,aI r.op.a.n,a8 r.op.to.lv,bO r.op.to.cats,x,aI r.code,aI r.gu,a8 r.gv,bO r.gc,aB r.gok]
def HQ(r:cU):AV := .agg (Rg r (qi 1 (rows r.op.l)))
theorem TT(r:cU):Oi (HQ r)=true:=by
 show(Rg r (qi 1 (rows r.op.l))).all UZ=true;have h:UZ (qi 1 (rows r.op.l))=true:=by cases rows r.op.l<;>rfl
 simp only[Rg,yB,Bl,h];rfl
def gJ(L:List cU):List AV:=L.map HQ
@[simp] theorem nr(L:List cU):(gJ L).length=L.length:=by simp[gJ]
theorem Ra(L:List cU) : ∀e∈gJ L,Oi e=true:=by
 intro e a;obtain⟨r,_,rfl⟩:=j6.1 a;exact TT r
def Ed(L:List cU):AV:=if L=[] then aO else .nsl 24 (gJ L) none
theorem Rb(L:List cU):BQ 24 (gJ L) (Ed L):=by
 unfold Ed;by_cases h:L=[];·rw[if_pos h,h];exact .inl ⟨rfl,rfl⟩
 rw[if_neg h];exact .inr (.inr ⟨rfl,by simpa [gJ] using h⟩)
def O4(s:AV):Prop:=s = .v (.slice none 0 0) \/∃r n,s = .dsl r 0 n none
theorem TQ{H:aa}{s:AV}{L:List cU}{rs:List Ref}(h:nL 24 H s (gJ L) rs)(b:O4 s):yh 24 s (gJ L)=Ed L:=by
 unfold Ed;rcases h with ⟨rfl,c,_⟩ | ⟨r,rfl,_⟩ | ⟨r,es,rfl,a,f,i,_⟩
 ·have:L=[]:=by simpa [gJ] using c
  rw[if_pos this];rfl
 ·rcases b with h | ⟨_,_,h⟩<;>cases h
 have e:=i.len;rw[if_neg];·rfl
 rintro rfl;exact a (sK.1 (by simpa [gJ] using e))
theorem aeA{g:cL}(r:cU){x y:AV}(h:DC g x y):F2 (DC g) (Rg r x) (Rg r y):=by
 have p : ∀v:Value,DC g (.v v) (.v v):=λv => .inl ⟨rfl,rfl⟩;exact⟨p _,p _,p _,p _,p _,p _,p _,p _,p _,p _,p _,p _,p _,p _,p _,p _,p _,p _,h,p _,p _,p _,p _,p _,trivial⟩
theorem aaK(r:cU)(x:AV):(Rg r x).flatMap iX=iX x:=by
 have f : ∀b,iX (a8 b)=[]:=λ_=>rfl;have c : ∀b,iX (bO b)=[]:=λ_=>rfl;have a : ∀b,iX (aI b)=[]:=λ_=>rfl;have e : ∀b,iX (aB b)=[]:=λ_=>rfl;unfold Rg;simp only[lU,Bo,f,c,a,e,o4,oD]
def acd(es:List AV)(x:AV)(a:List (Ref × aY)):Prop:=(x=aO/\es=[]/\a=[])\/(es≠[] /\∃q,x = .bA q 0 es.length none/\a=[(q,⟨1,es,true,false⟩)])
def BI(r:cU)(x:AV):aY:=⟨24,[r.val x],false,false⟩
theorem Wd{H:aa}{g:List (Ref × aY)}{b:List u9}(h:sZ H g b){t:Nat}{r:cU}{n:Int}{K:AV->aa->Prop}
 (f : ∀ro H' c,acd (rows r.op.l) ro c->sZ H' (c++g) b->K (.tup [r.val ro,aI n]) H') :
 gh (rJ true H (⟨0,t,aa.gen H 0 t,0⟩:Ref) [] (some (.tup [r.val (qi 1 (rows r.op.l)),aI n]))) K:=by
 by_cases e:rows r.op.l=[];·have a:=f aO H [] (.inl ⟨rfl,e,rfl⟩) h;rw[e,GG];clear f;unfold cU.val at *;simp;exact a
 have a:=f (.bA ⟨0,t,H.gen 0 t,0⟩ 0 (rows r.op.l).length none) ((⟨0,t,H.gen 0 t,0⟩,some ⟨1,rows r.op.l,true,false⟩) :: H) _ (.inr ⟨e,_,rfl,rfl⟩) (h.new 0 t _);rw[tL 1 e];clear f;unfold cU.val at *;generalize rows r.op.l=rw' at *;simp;exact a
theorem TZ{H:aa}{c:List (Ref × aY)}{a:List u9}(h:sZ H c a){t:Nat}{r:cU}{x:AV}(e:x.cells=[x]/\x.one=true){K:AV->aa->Prop}
 (f : ∀q H',sZ H' ((q,BI r x) :: c) a->K (.ptr q 0 0) H') :
 gh (lD H (⟨0,t,aa.gen H 0 t,0⟩:Ref) (uD env.P (⟨0,t,aa.gen H 0 t,0⟩:Ref) 43)) λv g=>gh (iV env.P g 43 (some v) (some (r.val x))) λk H2=>K v H2:=by
 have b:=f ⟨0,t,H.gen 0 t,0⟩ ((⟨0,t,H.gen 0 t,0⟩,some (BI r x)) :: H) (h.new 0 t _);clear f;simp only[BI]at b ⊢;unfold cU.val at *;simp[gE,e.1,e.2];exact b
theorem Ly{es:List AV}{x:AV}{a:List (Ref × aY)}(h:acd es x a):x.cells=[x]/\x.one=true:=by
 rcases h with ⟨rfl,_,_⟩ | ⟨_,q,rfl,_⟩<;>exact⟨rfl,rfl⟩
theorem Xw{H:aa}{es:List AV}{x:AV}{a:List (Ref × aY)}(h:acd es x a)(b : ∀p∈a,H.get p.1=some p.2):DC H.get x (qi 1 es)/\iX x=a.map (·.1):=by
 rcases h with ⟨rfl,rfl,rfl⟩ | ⟨he,q,rfl,rfl⟩
 ·exact⟨.inl ⟨rfl,rfl⟩,rfl⟩
 have c:=b _ (iQE _);rw[tL 1 he];exact⟨.inr ⟨q,1,es,none,rfl,rfl,c,by decide⟩,rfl⟩
def AM(L:List cU)(a:Int):AV := .tup [Ed L,aI a,aI 0]
theorem D9{H:aa}{s:AV}{L:List cU}{rs:List Ref}(h:nL 24 H s (gJ L) rs)(c:O4 s)(a:Int):dA aK 9 (.tup [s,aI a,aI 0]) H (AM L a):=by
 obtain⟨b,f,e,g⟩:=h.out 4;have u:=h.nodup;rw[TQ h c]at b;rw[ke (by rfl)];unfold AM;simp[b,e,u]
section
variable{d:Dk}(i:d.vc)(j:d.may=true){area nu most:Int}(w:0<=area/\area<=2)(u:0<=nu/\nu<=16777215)(o:0<=most/\most<=16777215)
include i j w u o
theorem Mq : ∀(m:Nat)(at':Int)(a:List cU)(A:AV)(rs:List Ref)(M:List (Ref × aY)) (H:aa),0<=at'->at'<=2048->2049<=at'+m->(a.length:Int)<=at' ->
 sZ H ((⟨0,4,0,0⟩,⟨4,[d.val],false,false⟩) :: M) [⟨24,A,gJ a,rs⟩]->O4 A ->
 cB aK Tryz.f9 0 pt [(9,aI at'),(8,A),(2,aI nu),(1,aI area),(4,.ptr ⟨0,4,0,0⟩ 0 0),(3,aI most)] H
  (λv H=>dA aK 9 v H (AM (a++(fI d (area * 2048) nu most m at' a.length).1) (fI d (area * 2048) nu most m at' a.length).2)):=by
 intro m;induction m with
 | zero=>rintro at' a A rs M H h0 h1 h2;omega
 | succ m N=>
  rintro at' a A rs M H h0 h1 h2 hal hH hN;have e1:=iQa (nu+a.length) (by omega);have e2:=iQa (nu+a.length+1) (by omega);have B:=Yo i j w h0 (nu+a.length+1);have c:=hH.row _ (iQE _);have L:=c.len;simp only[nr]at L;have O:=hH.has (⟨0,4,0,0⟩,⟨4,[d.val],false,false⟩) (gD ..);simp only at O;have R:=i.sl.r;unfold fI;refine EH _ _ _ _ _ _ _ _ λg=>?_;by_cases G:(a.length:Int)<most
  ·rw[if_pos G];cases f:qu d (area * 2048+at') at' (nu+a.length+1) with
   | none=>
    rw[f]at B;simp only[oD];have n:=λH' (h:nL 24 H' A (gJ a) rs)=>D9 h hN at';have C : ∀b,nL 24 ((⟨0,12,H.gen 0 12,0⟩,b) :: H) A (gJ a) rs:=λb=>c.bk λq _ k C=>by
     rw[aa.bS,if_neg (λe=>by rw[<-e,tO hH.fr]at C;cases C)];exact C
    have n:=λb=>n _ (C b);clear N f j i hN C c hH;generalize AM a at'=W at *;obtain⟨l,y,st,lf,dd⟩:=d;simp only[Dk.val,df]at *;unfold vm cU.val jF dp at B;simp[an, *,px, -ke,gE];done
   | some q=>
    obtain⟨r,k⟩:=q;have hle:=Di f;rw[f]at B;simp only;have e3:=iQa (at'+k) (by omega);have hk0 : ¬k=0:=by omega
    have I:=λP Q V H'=>N (at'+k) (a++[r]) P Q V H' (by omega) (by omega) (by omega) (by simp;omega);rw[show a++r :: (fI d (area * 2048) nu most m (at'+k) (a.length+1)).1=a++[r]++(fI d (area * 2048) nu most m (at'+k) (a++[r]).length).1 by simp,show(fI d (area * 2048) nu most m (at'+k) (a.length+1)).2=(fI d (area * 2048) nu most m (at'+k) (a++[r]).length).2 by simp];generalize AM (a++[r]++(fI d (area * 2048) nu most m (at'+k) (a++[r]).length).1) (fI d (area * 2048) nu most m (at'+k) (a++[r]).length).2=W at *;unfold vm at B;clear N f c;have hacc:a.length<=2048:=by omega
    obtain⟨l,y,st,lf,dd⟩:=d;simp only[Dk.val,df]at O B R I;unfold px;simp[an, *, -qy, -ah, -aq, -ao];refine Wd hH λro H1 U x K=>?_;simp[an, *, -qy, -ah, -aq, -ao];refine TZ K (Ly x) λF H2 s=>?_;have J:=s.has (F,BI r ro) (by simp);have D:=Ly x;obtain⟨X,Y⟩:=Xw x (H:=H2) (λp hp=>s.has p (by simp[hp]));have S:(Rg r ro).all AV.one=true:=(by show((true&&true)&&_)=true;simp[Rg,D.2]);have E:=s.perm (Xu (F,BI r ro) U ((⟨0,4,0,0⟩,⟨4,[df y st lf dd],false,false⟩) :: M));simp only[BI]at J;unfold cU.val at J;clear hH K s O;simp[an, *, -gE];refine ab5 (T:=50) (z:=24) (by':=160) (by kernel_rfl) (by kernel_rfl) hN E (cs:=Rg r ro) (ys:=Rg r (qi 1 (rows r.op.l))) (aeA r X) (by rw[aaK,Y]) rfl (by decide) S (by simp;omega) λr2 H5 rs2 t=>?_;have e9:gJ a++[.agg (Rg r (qi 1 (rows r.op.l)))]=gJ (a++[r]):=by simp[gJ,HQ]
    rw[e9]at t;have Z:=I _ _ _ _ (t.perm (List.Perm.swap _ _ _)) (.inr ⟨_,_,rfl⟩);rw[nr]at Z;clear E X Y t;simp[e3, -ke];exact Z
  rw[if_neg G];simp only[oD];have n:=D9 c hN at';clear N j i B hN c hH;generalize AM a at'=W at *;simp[an, *,px, -ke];done
theorem Vi:ay aK 9 [d.val,aI area,aI nu,aI most]=some (AM (fI d (area * 2048) nu most 2049 0 0).1 (fI d (area * 2048) nu most 2049 0 0).2):=by
 refine nF (fn:=Tryz.f9) (c:=sy) rfl (by kernel_rfl) (by kernel_rfl) (by kernel_rfl) (by kernel_rfl) ?_;refine vR _ _ _ _ _ _ λg=>?_;have v:=j9 (by rfl) (zn i);rw[j]at v;have q:=j9 (by rfl) (vS area 2);have n:=j9 (by rfl) (vS nu 16777215);have x:=j9 (by rfl) (vS most 16777215);rw[iQg w.1,iQg w.2]at q;rw[iQg u.1,iQg u.2]at n;rw[iQg o.1,iQg o.2]at x;have b:=λa H=>Mq i j w u o 2049 0 [] aO [] a H (by omega) (by omega) (by omega) (by simp);have s:=i.sl.r;have k:=(sZ.nil.new 0 4 ⟨4,[d.val],false,false⟩);have e : ∀a H,sZ H a []->sZ H a [⟨24,aO,gJ [],[]⟩]:=λa H h=>⟨h.fr,h.has,h.nd,λt f=>(by rw[k9.1 f];exact .inl ⟨rfl,rfl,rfl⟩),λt f p hp j=>(by rw[k9.1 f]at j;cases j),List.pairwise_singleton _ _⟩;have m:=b [] _ (e _ _ k) (.inl rfl);rw[o4,k8]at m;generalize AM (fI d (area * 2048) nu most 2049 0 0).1 (fI d (area * 2048) nu most 2049 0 0).2=W at *;clear b k e j i;obtain⟨l,y,st,lf,dd⟩:=d;simp only[Dk.val,df]at *;simp[an, *,sE, -ke];exact m
end
section
variable{d:Dk}(i:d.vc)
include i
def Nz(d:Dk)(area nu most:Int):AV:=
 if d.may then (if 0<=area/\area<=2/\0<=nu/\nu<16777216/\0<=most/\most<16777216 then AM (fI d (area * 2048) nu most 2049 0 0).1 (fI d (area * 2048) nu most 2049 0 0).2 else .tup [aO,aI 0,aI 2]) else .tup [aO,aI 0,aI 8]
theorem abU(area nu most:Int):ay aK 9 [d.val,aI area,aI nu,aI most]=some (Nz d area nu most):=by
 unfold Nz;cases j:d.may with
 | true=>
  simp only[if_true];by_cases e:0<=area/\area<=2/\0<=nu/\nu<16777216/\0<=most/\most<16777216;·rw[if_pos e];exact Vi i j (by omega) (by omega) (by omega)
  rw[if_neg e];refine nF (fn:=Tryz.f9) (c:=sy) rfl (by kernel_rfl) (by kernel_rfl) (by kernel_rfl) (by kernel_rfl) ?_;refine vR _ _ _ _ _ _ λg=>?_;have a:=j9 (by rfl) (zn i);rw[j]at a;have h:=j9 (by rfl) (vS area 2);have k:=j9 (by rfl) (vS nu 16777215);have m:=j9 (by rfl) (vS most 16777215);have b:=i.sl.r;have f:((decide (0<=area)&&decide (area<=2))=true->(decide (0<=nu)&&decide (nu<=16777215))=true->(decide (0<=most)&&decide (most<=16777215))=true->False):=(by simp only[bt,iQb];omega);generalize (decide (0<=area)&&decide (area<=2))=b1 at *;generalize (decide (0<=nu)&&decide (nu<=16777215))=b2 at *;generalize (decide (0<=most)&&decide (most<=16777215))=b3 at *;clear i j e;obtain⟨l,y,st,lf,dd⟩:=d;simp only[Dk.val,df]at *;cases b1<;>cases b2<;>cases b3<;>first | (exact absurd (f rfl rfl rfl) id) | (clear f;simp[an, *,sE])
 | false=>refine nF (fn:=Tryz.f9) (c:=sy) rfl (by kernel_rfl) (by kernel_rfl) (by kernel_rfl) (by kernel_rfl) ?_;refine vR _ _ _ _ _ _ λg=>?_;have a:=j9 (by rfl) (zn i);rw[j]at a;have b:=i.sl.r;clear i j;obtain⟨l,y,st,lf,dd⟩:=d;simp only[Dk.val,df,gj,iQh]at *;simp[an, *,sE]
end
def cU.Cf(r:cU)(l:List Int):cU := { r with op := { r.op with l:=l}}
theorem NM(r:cU){l:List Int}(h:l≠[]):HQ (r.Cf l) = .agg ((Rg r (.fsl 1 (rows r.op.l) none)).set 18 (.fsl 1 (rows l) none)):=by
 unfold HQ;rw[tL 1 (by simpa [cU.Cf,rows] using h)];rfl
theorem HC{m:List Int}{k:Nat}(h:k<m.length)(v:Int):gr (rows m) k 0 [aR v]=some (rows (m.set k v)):=by
 unfold gr rows;rw[kR,de h];show some ((m.map aR).set k (aR v))=_;rw[Fo]
theorem La{H:aa}{r:Ref}{L:List cU}{rs:List Ref}(h:jR 24 H r (gJ L) rs){k:Nat}{p:cU}(hp:L[k]?=some p) :
 ∃es cell,H.get r=some ⟨24,es,false,false⟩/\es.length=L.length/\bP es k 18 1 false=some cell/\((cell=aO/\p.op.l=[])\/(p.op.l≠[] /\∃q,cell = .bA q 0 p.op.l.length none/\H.get q=some ⟨1,rows p.op.l,true,false⟩/\q∈rs/\q≠r /\
  ∀b:List Int,b.length=p.op.l.length->jR 24 (H.put q (some ⟨1,rows b,true,false⟩)) r (gJ (L.set k (p.Cf b))) rs)):=by
 have a:(gJ L)[k]?=some (HQ p):=by
  unfold gJ;rw[kR,hp];rfl
 by_cases d:p.op.l=[]
 ·obtain⟨es,xs,O,N,m,f,_⟩:=h.at a;have g:rows p.op.l=[]:=by rw[d];rfl
  rw[g,GG]at f;obtain⟨x,C,hd⟩:=F2.at f (i:=18) (y:=aO) rfl;refine⟨es,x,O,by rw[N,nr],by rw[BA m C],.inl ⟨?_,d⟩⟩;rcases hd with ⟨v,_⟩ | ⟨_,_,_,_,_,v,_⟩
  ·exact v
  cases v
 have g:rows p.op.l≠[]:=by simpa [rows] using d
 unfold HQ at a;rw[tL 1 g]at a;obtain⟨es,xs,q,O,N,m,f,S,R,P,U⟩:=h.aeH a (j:=18) rfl;have t:(rows p.op.l).length=p.op.l.length:=by simp[rows]
 refine⟨es,_,O,by rw[N,nr],BA m f,.inr ⟨d,q,by rw[t],S,R,P,λb c=>?_⟩⟩;have:=U (rows b) (by simp[rows,c]);have w:b≠[]:=λe=>by rw[e]at c;exact d (sK.1 c.symm)
 rw[<-NM p w]at this;have T:(gJ L).set k (HQ (p.Cf b))=gJ (L.set k (p.Cf b)):=by unfold gJ;rw[Fo]
 rw[T]at this;exact this
section
variable{x o:AV}{A u:Int}{z:Bool}{M J:List eE}(C:Sl 2 (a9 M) x)(F:Sl 2 (a9 J) o)(B:ay aK 11 [df o A u z,df x A u z]=some (aB true))
 {s:AV} {rs:List Ref} {r6 r13:Ref} {n:Nat} {Q:AV->aa->Prop} (I:n<1000000) (K:r6 ∉ rs) (D:r13 ∉ rs) (E : ∀H,Q (aB true) H)
include C F B I K D E
theorem aeW{k:Nat}(hk:k<n)(c : ∀(H:aa)(L:List cU),Fr H->H.get r6=some (Ew x A u z)->H.get r13=some (Ew o A u z)->nL 24 H s (gJ L) rs->L.length=n->(∀p∈L,p.op.l.length<1000000) ->
 cB aK Tryz.f3 0 cQ [(28,aI ((k:Int)+1)),(20,s),(6,.ptr r6 0 0),(13,.ptr r13 0 0),(26,aB true)] H Q) :
 ∀(m w:Nat)(H:aa)(L:List cU)(p:cU),L[k]?=some p->w+m=p.op.l.length->Fr H->H.get r6=some (Ew x A u z)->H.get r13=some (Ew o A u z)->nL 24 H s (gJ L) rs->L.length=n->(∀p∈L,p.op.l.length<1000000) ->
 cB aK Tryz.f3 0 fe [(29,aI w),(28,aI k),(20,s),(6,.ptr r6 0 0),(13,.ptr r13 0 0),(26,aB true)] H Q:=by
 intro m;have hkI:(k:Int)<n:=by omega
 induction m with
 | zero=>
  intro w H L p hp N Y i f hd j y;obtain⟨r,rfl,b⟩ : ∃r,s = .dsl r 0 n none/\jR 24 H r (gJ L) rs:=by
   rcases hd with ⟨_,h,_⟩ | ⟨_,_,h,_⟩ | ⟨r',es,h1,h2,U,O,V,i⟩
   ·have:L=[]:=(by simpa [gJ] using h);rw[this]at hp;cases hp
   ·have:L=[]:=(by simpa [gJ] using h);rw[this]at hp;cases hp
   exact⟨r',by rw[h1,O.len,nr,j],es,U,O,V,i⟩
  obtain⟨es,cell,g1,g2,g3,T⟩:=La b hp;have hnx:=c H L Y i f hd j y;have e3:=iQa ((k:Int)+1) (by omega);have S:sT cell=some w/\cell.cells=[cell]/\cell.one=true:=by
   rcases T with ⟨rfl,h⟩ | ⟨_,q,rfl,_⟩
   ·have:w=0:=by rw[h]at N;simpa using N
    subst this;exact⟨rfl,rfl,rfl⟩
   have:w=p.op.l.length:=(by omega);subst this;exact⟨rfl,rfl,rfl⟩
  obtain⟨c1,c2,c3⟩:=S;rw[j]at g2;clear T c E B hd b y C F hp i f;refine lu _ _ _ _ _ _ _ _ λg=>?_;simp[an, *,iN];done
 | succ m ih=>
  intro w H L p hp N Y i f hd j y;obtain⟨r,rfl,b⟩ : ∃r,s = .dsl r 0 n none/\jR 24 H r (gJ L) rs:=by
   rcases hd with ⟨_,h,_⟩ | ⟨_,_,h,_⟩ | ⟨r',es,h1,h2,U,O,V,i⟩
   ·have:L=[]:=(by simpa [gJ] using h);rw[this]at hp;cases hp
   ·have:L=[]:=(by simpa [gJ] using h);rw[this]at hp;cases hp
   exact⟨r',by rw[h1,O.len,nr,j],es,U,O,V,i⟩
  obtain⟨es,cell,g1,g2,g3,T⟩:=La b hp;rcases T with ⟨_,h⟩ | ⟨hne,q,rfl,g5,g6,g7,g8⟩
  ·rw[h]at N;simp at N
  have Z:w<p.op.l.length:=(by omega);have hltI:(w:Int)<p.op.l.length:=(by omega);have hpb:=y p (fZ hp);have e3:=iQa ((w:Int)+1) (by omega);have hwr:=HC Z 7;have q6:q≠r6:=λe=>K (by rw[<-e];exact g6);have X:q≠r13:=λe=>D (by rw[<-e];exact g6);have q6':r6≠q:=λe=>q6 e.symm;have P:r13≠q:=λe=>X e.symm;have d:=g8 (p.op.l.set w 7) (by simp);have a:(L.set k (p.Cf (p.op.l.set w 7))).length=n:=by simp[j]
  have hkl:k<L.length:=(dT.1 hp).1;have v:=d.row (λe=>by
   have:=iQf List.length e;rw[nr,a]at this;simp at this;omega)
  rw[nr,a]at v;have hih:=ih (w+1) (H.put q (some ⟨1,rows (p.op.l.set w 7),true,false⟩)) _ (p.Cf (p.op.l.set w 7)) (by rw[Dg hkl]) (by simp[cU.Cf];omega) (oZ Y (by rw[g5];rfl) _) (by rw[aa.ab,if_neg q6'];exact i) (by rw[aa.ab,if_neg P];exact f) v a (λt ht=>by
   rcases Jn ht with h | h
   ·exact y t h
   rw[h];simp[cU.Cf,hpb])
  rw[show((w+1:Nat):Int)=(w:Int)+1 from by omega]at hih;rw[j]at g2;clear g8 c E B hd b d y C F hp ih v a i f;refine lu _ _ _ _ _ _ _ _ λg=>?_;have hrl:(rows p.op.l).length=p.op.l.length:=by simp[rows]
  generalize rows (p.op.l.set w 7)=W at *;generalize rows p.op.l=R at *;simp only[aR]at hwr;simp[an, *,iN,gE];done
theorem aeX : ∀(m k:Nat)(H:aa)(L:List cU),k+m=n->Fr H->H.get r6=some (Ew x A u z)->H.get r13=some (Ew o A u z)->nL 24 H s (gJ L) rs->L.length=n->(∀p∈L,p.op.l.length<1000000) ->
 cB aK Tryz.f3 0 cQ [(28,aI k),(20,s),(6,.ptr r6 0 0),(13,.ptr r13 0 0),(26,aB true)] H Q:=by
 intro m;induction m with
 | zero=>
  intro k H L O y t i hd q v;have h:=hd.len;rw[nr,q]at h;have R:=E H;obtain rfl:k=n:=by omega
  have P:=C.r;have S:=F.r;simp only[Ew,df]at t i B;clear E hd C F;refine ly _ _ _ _ _ _ _ λg=>?_;simp[an, *,iO];done
 | succ m w=>
  intro k H L O y t i hd q v;have h:=hd.len;rw[nr,q]at h;have N:(k:Int)<n:=by omega
  have j:=aeW C F B I K D E (k:=k) (by omega) (λH L a b c d e f=>by
   have:=w (k+1) H L (by omega) a b c d e f;rw[show((k+1:Nat):Int)=(k:Int)+1 from by omega]at this;exact this) (L[k]'(by omega)).op.l.length 0 H L (L[k]'(by omega)) (by rw[de]) (by omega) y t i hd q v
  rw[show((0:Nat):Int)=0 from rfl]at j;clear E hd w C F B v t i;refine ly _ _ _ _ _ _ _ λg=>?_;simp[an, *,iO];first | done | exact j
end
section
variable{s s2:AV}{rs:List Ref}{st lf:Int}{dd:Bool}{r14 r6 r13:Ref}{n:Nat}{Q:AV->aa->Prop}{H0:aa}(I:n<1000000)(G:r14 ∉ rs)
include I G
theorem aeY(c : ∀H,Fr H->Spo H0 H rs->cB aK Tryz.f3 0 cQ [(28,aI 0),(20,s2),(6,.ptr r6 0 0),(13,.ptr r13 0 0),(26,aB true)] H Q) :
 ∀(m k:Nat)(H:aa)(l:List eE),k+m=n->Fr H->Spo H0 H rs->H.get r14=some (Ew s st lf dd)->nL 2 H s (cG l) rs->l.length=n->(∀s∈l,s.bs.length=128) ->
 cB aK Tryz.f3 0 fg [(27,aI k),(14,.ptr r14 0 0),(20,s2),(6,.ptr r6 0 0),(13,.ptr r13 0 0),(26,aB true)] H Q:=by
 intro m;induction m with
 | zero=>
  intro k H l hk R B v hd N P;have t:=hd.len;rw[xg,N]at t;have hq:=c H R B;obtain rfl:k=n:=by omega
  simp only[Ew,df]at v;clear c hd;refine lz _ _ _ _ _ _ _ _ λg=>?_;simp[an, *,iP];done
 | succ m Y=>
  intro k H l hk R B v hd N P;have t:=hd.len;rw[xg,N]at t;have hin:(k:Int)<n:=by omega
  have U:k<l.length:=(by omega);obtain⟨p,hp⟩ : ∃p,l[k]?=some p:=⟨_,de U⟩;have f:(cG l)[k]?=some (.agg [aI p.pos,.fsl 1 (aA p.bs) none]):=(by unfold cG;rw[kR,hp];rfl);have S:=P p (fZ hp);obtain⟨r,rfl,y⟩ : ∃r,s = .dsl r 0 n none/\jR 2 H r (cG l) rs:=by
   rcases hd with ⟨_,h,_⟩ | ⟨_,_,h,_⟩ | ⟨r',es,h1,h2,h3,h4,h5,h6⟩
   ·rw[h]at f;cases f
   ·rw[h]at f;cases f
   exact⟨r',by rw[h1,h4.len,xg,N],es,h3,h4,h5,h6⟩
  obtain⟨es,xs,q,g1,g2,g3,g4,g5,Z,g7,g8⟩:=y.aeH f (j:=1) rfl;have hrd:bP es k 1 1 false=some (.bA q 0 p.bs.length none):=(by rw[BA g3 g4,fW]);have h0:0<p.bs.length:=(by omega);have e3:=iQa ((k:Int)+1) (by omega);have hw:=KA (m:=p.bs) (i:=0) h0 (p.bs[0]+1);rw[show(a8 (p.bs[0]+1)).cells=[a8 (p.bs[0]+1)] from rfl]at hw;have q1:q≠r14:=λe=>G (by rw[<-e];exact Z);have T:r14≠q:=λe=>q1 e.symm;have d:=g8 (aA (p.bs.set 0 (p.bs[0]+1))) (by simp);have w:(cG l).set k (.agg ([aI p.pos,.fsl 1 (aA p.bs) none].set 1 (.fsl 1 (aA (p.bs.set 0 (p.bs[0]+1))) none)))=cG (l.set k ⟨p.pos,p.bs.set 0 (p.bs[0]+1),p.av⟩):=(by unfold cG;rw[Fo];rfl);rw[w]at d;have a:(cG (l.set k ⟨p.pos,p.bs.set 0 (p.bs[0]+1),p.av⟩)).length=n:=by simp[N]
  have L:=d.row (λe=>by rw[e]at a;simp at a;omega);rw[a]at L;have X:=Y (k+1) (H.put q (some ⟨1,aA (p.bs.set 0 (p.bs[0]+1)),true,false⟩)) _ (by omega) (oZ R (by rw[g5];rfl) _) (λp' b O V=>by rw[aa.ab,if_neg (λe=>O (by rw[e];exact Z))];exact B p' b O V) (by rw[aa.ab,if_neg T];exact v) L (by simp[N]) (λs hs=>by
   rcases Jn hs with h | h
   ·exact P s h
   rw[h];simp[S])
  rw[show((k+1:Nat):Int)=(k:Int)+1 from by omega]at X;have hkI:(0:Int)<p.bs.length:=by omega
  simp only[Ew,df]at v;clear g8 c hd y d w Y L a B;refine lz _ _ _ _ _ _ _ _ λg=>?_;generalize aA (p.bs.set 0 (p.bs[0]+1))=W at *;simp[an, *,iP,gE];done
end
theorem Dk.Eq.N6{d e:Dk}(h:d.Eq e){l:List eE}{x:AV}(a:fK l=fK d.l):(⟨l,x,d.st,d.lf,d.dd⟩:Dk).Eq e:=⟨by show fK l=_;rw[a];exact h.key,h.st,h.lf,h.dd⟩
theorem XC{y:AV}(st lf:Int)(dd:Bool)(e a:Int) : ∀r s bs,aj r 6 y []=(s,bs)->aj r depth (.tup [df y st lf dd,aI e,aI a]) []=(.tup [df s st lf dd,aI e,aI a],bs):=by
 intro r s bs h;have f:aj r 7 (df y st lf dd) []=(df s st lf dd,bs):=by
  unfold df;show(λp:List AV × List aY=>(AV.agg p.1,p.2)) ([y,aI st,aI lf,aB dd].foldl (λ(p:List AV × List aY) c=>let (y,bs):=aj r 6 c p.2;(p.1++[y],bs)) ([],[]))=_;simp only[rB,h];rfl
 show(λp:List AV × List aY=>(AV.tup p.1,p.2)) ([df y st lf dd,aI e,aI a].foldl (λ(p:List AV × List aY) c=>let (y,bs):=aj r 7 c p.2;(p.1++[y],bs)) ([],[]))=_;simp only[rB,f];rfl
theorem Kc{f:FuncId}(j:kM.contains f=true){H:aa}{s:AV}{es':List AV}{rs:List Ref}(h:nL 2 H s es' rs)(st lf:Int)(dd:Bool)(e a:Int):dA aK f (.tup [df s st lf dd,aI e,aI a]) H (.tup [df (yh 2 s es') st lf dd,aI e,aI a]):=by
 obtain⟨k,m,c,n⟩:=h.out 3;have g:=h.nodup;rw[ke j];unfold df;simp[k,c,g]
theorem IY{z:Nat}{H:aa}{s:AV}{es':List AV}{rs:List Ref}(h:nL z H s es' rs):BQ z es' (yh z s es'):=by
 rcases h with ⟨rfl,rfl,_⟩ | ⟨r,rfl,rfl,_⟩ | ⟨r,es,rfl,a,c,j,_⟩
 ·exact .inl ⟨rfl,rfl⟩
 ·exact .inr (.inl ⟨rfl,rfl⟩)
 refine .inr (.inr ⟨?_,?_⟩)
 ·have o:=j.len;have:es≠[]:=a;cases es with
  | nil=>exact absurd rfl this
  | cons e es=>rfl
 intro e;have o:=j.len;rw[e]at o;exact a (sK.1 (by simpa using o))
section
variable{B:List (List UInt8)}(i : ∀b∈B,b.length=128){area at':Int}(v:0<=area/\area<=2)(u:0<=at'/\at'+B.length<=2048){r10:Ref}{Q:AV->aa->Prop}
include i v u
theorem OL : ∀(s:List (List UInt8)) (k:Nat) (R:AV) (I:List eE) (st lf:Int) (dd:Bool) (rs:List Ref) (m:Dk) (H:aa),B.drop k=s->k<=B.length->H.get r10=some ⟨4,[df R st lf dd],false,false⟩->Fr H ->
 nL 2 H R (cG I) rs->r10 ∉ rs->(⟨I,aO,st,lf,dd⟩:Dk).Eq m->m.may=true ->
 (∀H' p M c h f a,nL 2 H' p (cG M) a->(⟨M,aO,c,h,f⟩:Dk).Eq (m.KC (area * 2048+at'+k) s)->Q (.tup [df p c h f,aI (at'+B.length),aI 0]) H') ->
 cB aK Tryz.f7 0 mU [(10,.ptr r10 0 0),(70,aI k),(2,aI at'),(1,aI area),(68,.bq 1 (cR B) none),(15,.bq 1 (cR B) none),(69,aI B.length)] H Q:=by
 have e1:=iQa (area * 2048) (by omega);have e2:=iQa (area * 2048+at') (by omega);have e4:=iQa (at'+B.length) (by omega);intro s;induction s with
 | nil=>
  rintro k R I st lf dd rs m H hs F hb hF hrow hn heq O hQ;obtain rfl:=drop_nil hs F;have E:=λb=>hQ (H.put r10 b) R I st lf dd rs (hrow.bk λq P k F=>by
   rw[aa.ab,if_neg (λe=>hn (by rw[<-e];exact P))];exact F) heq
  have hc:=pA hrow;simp only[df]at hb E;have l5:(H.get r10).isSome=true:=by rw[hb];rfl
  clear hQ hrow heq O i;refine uq _ _ _ _ _ _ _ _ _ λg=>?_;simp[an, *,pC,aa.ab];done
 | cons b s ih=>
  rintro k R I st lf dd rs m H hs F hb hF hrow hn heq O hQ;obtain⟨hlt,hg,X,T⟩:=drop_cons hs;have b1:=i b (by rw[<-hg];exact eO _);have P:0<=area * 2048+at'+k/\area * 2048+at'+k<6146:=by omega
  have e3:=iQa (area * 2048+at'+k) (by omega);have e5:=iQa ((k:Int)+1) (by omega);obtain⟨v1,v2,v3,v4⟩:=Lc hrow rfl;have Z:=IY hrow;have W:=IZ Z;generalize xc (yh 2 R (cG I))=y at *;obtain⟨D,hD⟩ : ∃D:Dk,D=⟨qx I,y,st,lf,dd⟩:=⟨_,rfl⟩;have C:D.Eq m:=by rw[hD];exact heq.N6 (DJ I)
  have G:D.may=true:=by rw[C.may];exact O
  have N:D.vc:=⟨by rw[hD];exact W,by rw[hD];exact Bw I,by have:=E3 G;omega⟩;have hw:=ahF N G P (Sl.mk 1 (aA b)) b1;have ho:=V9 N (area * 2048+at'+k) b;have J:=C.wr G (area * 2048+at'+k) b;have V:=Jt O P b1;have w:=λp a H'=>ih (k+1) p (D.wr (area * 2048+at'+k) b).l (D.wr (area * 2048+at'+k) b).st (D.wr (area * 2048+at'+k) b).lf (D.wr (area * 2048+at'+k) b).dd a (m.wg (area * 2048+at'+k) b) H' X (by omega);have E : ∀H' p M c h f a,nL 2 H' p (cG M) a->(⟨M,aO,c,h,f⟩:Dk).Eq ((m.wg (area * 2048+at'+k) b).KC (area * 2048+at'+((k+1:Nat):Int)) s)->Q (.tup [df p c h f,aI (at'+B.length),aI 0]) H':=(by intro H' p M c h f a h1 h2;rw[show area * 2048+at'+((k+1:Nat):Int)=area * 2048+at'+k+1 by omega]at h2;exact hQ H' p M c h f a h1 h2);have hC:=λ(r:Ref) K hr hK=>DR (H:=H) (r:=r) (K:=K) (refs:=rs) (n:=3) hr (z:=2) (by decide) (mk:=λs => .tup [df s (D.wr (area * 2048+at'+k) b).st (D.wr (area * 2048+at'+k) b).lf (D.wr (area * 2048+at'+k) b).dd,aI 0]) hw (abe _ _ _ _) ho (Dw _) hF hK;have L:(⟨(D.wr (area * 2048+at'+k) b).l,aO,(D.wr (area * 2048+at'+k) b).st,(D.wr (area * 2048+at'+k) b).lf,(D.wr (area * 2048+at'+k) b).dd⟩:Dk).Eq (m.wg (area * 2048+at'+k) b):=J.N6 rfl;have w:=λp a H' a1 a2 a3 a4=>w p a H' a1 a2 a3 a4 L V E;rw[show((k+1:Nat):Int)=(k:Int)+1 from by omega]at w;have q1:=Lk T;have hkl:(k:Int)<B.length:=by omega
  have hbv:(cR B).length=B.length:=pU B;have hbr:=(Sl.mk 1 (aA b)).r;clear ih hQ E O V i heq C J L G N hw ho hrow Z W hs X hg T b1;generalize (D.wr (area * 2048+at'+k) b).l=M at *;generalize (D.wr (area * 2048+at'+k) b).st=c at *;generalize (D.wr (area * 2048+at'+k) b).lf=h at *;generalize (D.wr (area * 2048+at'+k) b).dd=f at *;generalize D.wrY (area * 2048+at'+k) b=Y at *;subst hD;simp only[Dk.val,df]at hb hC w v1 v2;have l5:(H.get r10).isSome=true:=by rw[hb];rfl
  generalize cR B=BV at *;refine uq _ _ _ _ _ _ _ _ _ λg=>?_;simp[an, *,pC,aa.ab, -ah, -aq, -ao];refine hC _ _ ⟨_,_,rfl⟩ λH' p a hF' A F S ho=>?_;have b4:=F.same hn hb;have hc1:=pA A;have m4:r10 ∉ a:=λO=>by have:=S _ O;rw[hb]at this;cases this
  have l6:(H'.get r10).isSome=true:=by rw[b4];rfl
  have U:=w;clear hC F S ho w;simp[an, *,aa.ab,gE];exact U p a _ (by simp[aa.ab]) (oZ hF' l6 _) (A.bk λq P k F=>by rw[aa.ab,if_neg (λe=>m4 (by rw[<-e];exact P))];exact F) m4
end
theorem Iz{H:aa}{r:cU}{x:AV}(t:Sl 1 (rows r.op.l) x)(o:r.op.l.length<2000000)(st nu:Int)(dep:Nat)(e:Ref) :
 aV aK true (ay aK) (cD aK dep) H e (some (.fn (.func 22) [] [])) [r.val x,aI st,aI nu]=some (AP r st nu,H):=by
 rw[Am (by rfl)];refine ym ?_;show(if 22=49 then sx Tryz.prog 22 40 25 [r.val x,aI st,aI nu] H else if 22=45 then sg 2 32 5 7 [r.val x,aI st,aI nu] H else if 22=22 then BL (ay env 22) [r.val x,aI st,aI nu] H else none)=_;rw[if_neg (by decide),if_neg (by decide),if_pos rfl];have f:=K2 r t o st nu;have a:=t.r;have c:([r.val x,aI st,aI nu]).mapM (view H.get depth)=some [r.val x,aI st,aI nu]:=by
  unfold cU.val;simp[a]
 have g:bH H.get [r.val x,aI st,aI nu]=[]:=by
  unfold cU.val;simp[bH,a]
 unfold BL;rw[c];simp only[f];rw[if_pos ⟨PO r st nu,by rw[g];rfl⟩]
section
variable{d:Dk}(j:d.vc)(r:cU){x:AV}(t:Sl 1 (rows r.op.l) x)(o:r.op.l.length<2000000)
include j t o
theorem Mu{area at' nu:Int}(e : ¬si d area at' nu r=0):ay aK 7 [d.val,aI area,aI at',aI nu,r.val x]=some (.tup [qo,aI 0,aI (si d area at' nu r)]):=by
 refine nF (fn:=Tryz.f7) (c:=tn) rfl (by kernel_rfl) (by kernel_rfl) (by kernel_rfl) (by kernel_rfl) ?_;refine yI _ _ _ _ _ _ _ λg=>?_;have n:=j9 (by rfl) (zn j);have R:=t.r;have f:=j.sl.r;have hp:=λH A=>Iz (H:=H) t o d.st nu 0 A;have J:=j9 (by rfl) (vS area 2);have D:=j9 (by rfl) (vS at' 2048);unfold si at *;cases hm:d.may with
 | false=>rw[hm]at n;clear hm hp e;obtain⟨l,y,st,lf,dd⟩:=d;simp only[Dk.val,df,qo,gj,iQh]at n f ⊢;unfold cU.val;simp[an, *,k7]
 | true=>
  rw[hm]at n e;simp only[if_true]at e ⊢;by_cases p:0<=area/\area<=2/\0<=at'/\at'<=2048/\1<=d.st/\1<=nu/\nu<16777216
  ·rw[if_pos p]at e ⊢;obtain⟨L,K,w,G,s,N,M⟩:=p;have F:d.st<2147483648:=(by have:=hm;unfold Dk.may EP EO at this;simp at this;omega);rw[iQg L,iQg K]at J;rw[iQg w,iQg G]at D;unfold AP at hp;cases k:dw r with
   | false=>rw[k,if_neg (by decide)]at hp;simp only[gj,iQh];clear hm k e;obtain⟨l,y,st,lf,dd⟩:=d;simp only[Dk.val,df,qo]at n f hp s ⊢;unfold cU.val at hp ⊢;simp[an, *,k7]
   | true=>
    have P:=vq k;have q:kb d.st nu 0 (ir r)=true:=(by unfold kb;simp;omega);rw[k,if_pos rfl,q,if_pos rfl]at hp;rw[k,if_pos rfl]at e;have h:=jN k d.st nu;by_cases a:at'+ir r<=2048;·rw[if_pos a]at e;exact absurd rfl e
    simp only[if_true,if_neg a];have r2:(2048:Int)<at'+(ir r:Int):=by omega
    have O:=iQa (at'+(ir r:Int)) (by omega);have I:(cR (bm r d.st nu)).length=ir r:=by rw[pU,h]
    generalize cR (bm r d.st nu)=BV at *;clear hm k q e h;obtain⟨l,y,st,lf,dd⟩:=d;simp only[Dk.val,df,qo]at n f hp s ⊢;unfold cU.val at hp ⊢;simp[an, *,k7]
  rw[if_neg p];have m:((decide (0<=area)&&decide (area<=2))=true->(decide (0<=at')&&decide (at'<=2048))=true->(1<=d.st ->¬(1<=nu/\nu<16777216))):=(by simp only[bt,iQb];omega);generalize (decide (0<=area)&&decide (area<=2))=a1 at *;generalize (decide (0<=at')&&decide (at'<=2048))=a2 at *;clear hm hp p e;obtain⟨l,y,st,lf,dd⟩:=d;simp only[Dk.val,df,qo]at n f m ⊢;unfold cU.val;by_cases C:1<=st<;>by_cases z:1<=nu<;>by_cases E:nu<16777216<;>cases a1<;>cases a2<;>first | (exfalso;exact m rfl rfl C ⟨z,E⟩) | (clear m;simp[an, *,k7])
theorem OM{e:Dk}(p:d.Eq e){area at' nu:Int}(X:si d area at' nu r=0) : ∃y,ay aK 7 [d.val,aI area,aI at',aI nu,r.val x]=some y /\∃ys m st lf dd,y = .tup [df ys st lf dd,aI (at'+ir r),aI 0]/\BQ 2 (cG m) ys/\(⟨m,aO,st,lf,dd⟩:Dk).Eq (e.wa area at' nu r):=by
 refine UM (fn:=Tryz.f7) (c:=tn) (by kernel_rfl) (by kernel_rfl) (by kernel_rfl) (by kernel_rfl) (by kernel_rfl) ?_;refine yI _ _ _ _ _ _ _ λg=>?_;have hc:=j9 (by rfl) (zn j);have V:=t.r;have hxv:=j.sl.r;have hp:=λH r0=>Iz (H:=H) t o d.st nu 0 r0;have f1:=j9 (by rfl) (vS area 2);have f2:=j9 (by rfl) (vS at' 2048);obtain⟨_,_,z,⟨W,Y,Z,g4,g5,g6,g7⟩,G,L,N⟩:=Ko j X;rw[z]at hc;rw[iQg W,iQg Y]at f1;rw[iQg Z,iQg g4]at f2;have hn:=vq G;unfold AP at hp;rw[G,if_pos rfl,N,if_pos rfl]at hp;have f:=jN G d.st nu;have i:=tX G N;have U:=λH r K V hF=>Dq (st:=d.st) (lf:=d.lf) (dd:=d.dd) j.sl j.ok (PQ z) (by have:=j.len;omega) (H:=H) (r:=r) (K:=K) (refs:=[]) V hF;have w:(⟨d.l,aO,d.st,d.lf,d.dd⟩:Dk).Eq e:=p.N6 rfl;have D:e.may=true:=by rw[<-p.may];exact z
 have F:bm r e.st nu=bm r d.st nu:=by rw[p.st]
 have h:=λP rs H a b c d'=>OL (B:=bm r d.st nu) i (area:=area) (at':=at') ⟨W,Y⟩ (by rw[f];omega) (r10:=⟨0,10,0,0⟩) (Q:=λx H =>∃y,dA aK 7 x H y /\∃ys m st lf dd,y = .tup [df ys st lf dd,aI (at'+ir r),aI 0]/\BQ 2 (cG m) ys/\(⟨m,aO,st,lf,dd⟩:Dk).Eq (e.wa area at' nu r))
  (bm r d.st nu) 0 P d.l d.st d.lf d.dd rs e H rfl (by omega) a b c d' w D (λH' s1 m J R M rs1 S h2=>⟨_,Kc (by rfl) S _ _ _ _ _,_,m,J,R,M,by rw[f],IY S,by
   unfold Dk.wa;rw[F,show area * 2048+at'=area * 2048+at'+((0:Nat):Int) from by omega];exact h2⟩)
 rw[show((0:Nat):Int)=0 from rfl]at h;generalize (λ(x:AV)(H:aa) =>∃y,dA aK 7 x H y /\∃ys m st lf dd,y=AV.tup [df ys st lf dd,aI (at'+ir r),aI 0]/\BQ 2 (cG m) ys/\(⟨m,aO,st,lf,dd⟩:Dk).Eq (e.wa area at' nu r))=Q at h ⊢;have e1:=iQa (at'+(ir r:Int)) (by omega);have r2 : ¬(2048:Int)<at'+(ir r:Int):=by omega
 have hbv:(cR (bm r d.st nu)).length=ir r:=by rw[pU,f]
 have A:((bm r d.st nu).length:Int)=ir r:=by rw[f]
 rw[A]at h;clear D F w i f N G A;generalize cR (bm r d.st nu)=BV at *;generalize ir r=n at *;clear z X;obtain⟨l,y,st,lf,dd⟩:=d;simp only[Dk.val,df,qo]at *;clear j p;unfold cU.val at *;simp[an, *,k7, -ah, -aq, -ao];refine U _ _ _ ⟨_,_,rfl⟩ (by simp(maxDischargeDepth:=12) [HA, *]) λH' P rs O s I C ho=>?_;have b4:=I.same (q:=⟨0,10,0,0⟩) (by simp) (by simp;rfl);have hc1:=pA s;have T:(⟨0,10,0,0⟩:Ref) ∉ rs:=λz=>by have:=C _ z;simp at this
 have l6:(H'.get ⟨0,10,0,0⟩).isSome=true:=by rw[b4];rfl
 have E:=h;clear U I C ho h;simp[an, *,aa.ab,gE];refine E P rs _ ?_ (oZ O l6 _) (s.bk λq hq k I=>?_) T;·simp[aa.ab]
 rw[aa.ab,if_neg (λe=>T (by rw[<-e];exact hq))];exact I
end
theorem XD(e a:Int){y:AV} : ∀r s bs,aj r 7 y []=(s,bs)->aj r depth (.tup [y,aI e,aI a]) []=(.tup [s,aI e,aI a],bs):=by
 intro r s bs h;show(λp:List AV × List aY=>(AV.tup p.1,p.2)) ([y,aI e,aI a].foldl (λ(p:List AV × List aY) c=>let (y,bs):=aj r 7 c p.2;(p.1++[y],bs)) ([],[]))=_;simp only[rB,h];rfl
structure afR (fD fR:FuncId) (argsD argsR:List AV) (ys:AV) (l1:List eE) (y2:AV) (l2:List eE) (st lf:Int) (dd:Bool) (n e:Int):Prop where
 d:ay aK fD argsD=some (.tup [df ys st lf dd,aI n,aI e])
 r:ay env fR argsR=some (.tup [df y2 st lf dd,aI n,aI e])
 out:BQ 2 (cG l1) ys
 few:l1.length<1000000
 sl:Sl 2 (a9 l2) y2
 ok : ∀s∈l2,iQ s
 key:fK l1=fK l2
 b128 : ∀s∈l1,s.bs.length=128
section
variable{d:Dk}(j:d.vc)
include j
theorem MD{p:cU × AV}(hp:xn p)(m:p.1.op.l.length<100000)(k:rZ p.1.op.l)(area at' nu:Int) : ∃ys q D B st lf dd n e,afR 7 8 [d.rt.val,aI area,aI at',aI nu,p.1.val p.2] [d.val,aI area,aI at',aI nu,p.1.val p.2] ys q D B st lf dd n e:=by
 have i:=Dv j;have a:=rt_eq d;have u:=K3 j hp m k area at' nu;unfold VJ at u;by_cases g:si d area at' nu p.1=0
 ·have c:si d.rt area at' nu p.1=0:=by rw[Ks a];exact g
  rw[if_pos g]at u;obtain⟨y,A,ys,q,st,lf,dd,rfl,C,v⟩:=OM i p.1 hp.1 (by omega) a c;have b:=Qk j g;have w:(⟨q,aO,st,lf,dd⟩:Dk).may=true:=by rw[v.may];exact b.2.1
  have z:=E3 w;have t:=v.st;have h:=v.lf;have f:=v.dd;simp only at t h f z;refine⟨ys,q,_,(d.wa area at' nu p.1).rt.l,st,lf,dd,_,_,⟨A,?_,C,by omega,(Dv b.1).sl,(Dv b.1).ok,?_,yu q (-1) (vA w)⟩⟩;·rw[t,h,f];exact u
  have:=v.key;simp only at this;rw[this];exact(Oe _).symm
 have c : ¬si d.rt area at' nu p.1=0:=by rw[Ks a];exact g
 rw[if_neg g]at u;have A:=Mu i p.1 hp.1 (by omega) c;rw[Ks a]at A;exact⟨_,[],_,[],_,_,_,_,_,⟨A,u,SD,by simp,V7,by simp,rfl,by simp⟩⟩
theorem R8(area nu most:Int) : ∃L n e,ay aK 9 [d.rt.val,aI area,aI nu,aI most]=some (.tup [Ed L,aI n,aI e])/\ay env 10 [d.val,aI area,aI nu,aI most]=some (.tup [lW 24 (iJ (rX L)),aI n,aI e])/\L.length<=2049 /\∀r∈L,r.op.l.length<1000000:=by
 have b:=abU (Dv j) area nu most;have a:=QY j area nu most;unfold Nz at b;unfold Tq at a;rw[(rt_eq d).may,(rt_eq d).scan]at b;unfold AM at b;split at b
 ·rename_i c;rw[if_pos c]at a;split at b;·rename_i f;rw[if_pos f]at a;exact⟨_,_,_,b,a,(Px 2049 0 0).2,(Px 2049 0 0).1⟩
  rename_i f;rw[if_neg f]at a;exact⟨[],_,_,b,a,by simp,by simp⟩
 rename_i c;rw[if_neg c]at a;exact⟨[],_,_,b,a,by simp,by simp⟩
end
def Ul(r:cU):cU × AV:=(r,lW 1 (rows r.op.l))
theorem Ny(L:List cU):Sl 24 (iJ (L.map Ul)) (xc (Ed L)):=by
 unfold Ed;by_cases h:L=[];·rw[if_pos h,h];exact .inl ⟨rfl,rfl⟩
 rw[if_neg h];have:xc (.nsl 24 (gJ L) none) = .bq 24 (iJ (L.map Ul)) none:=by
  show AV.bq 24 ((gJ L).map Cd) none=_;congr 1;unfold gJ iJ;rw[Bk,Bk];refine List.map_congr_left λr _=>?_;show Cd (HQ r)=r.val (lW 1 (rows r.op.l));unfold HQ;cases h:rows r.op.l with
  | nil=>rfl
  | cons a b=>rfl
 rw[this];exact Sl.mk _ _
theorem Xh(L:List cU):NR (L.map Ul)=L:=by simp[NR,Ul,MU]
theorem NL{H:aa}{s:AV}{es':List AV}{rs:List Ref}(h:nL 24 H s es' rs){y:AV}(c:yh 24 s es'=y):view H.get 8 s=some (xc y)/\af H.get 8 s=rs:=by
 obtain⟨f,a,b,e⟩:=h.out 5;rw[c]at a;exact⟨a,b⟩
theorem Li{H:aa}{c:List (Ref × aY)}{a:List u9}(h:sZ H c a){t:Nat}{r:cU}{x:AV}(e:x.cells=[x]/\x.one=true){K:AV->aa->Prop}
 (f : ∀q H',sZ H' ((q,BI r x) :: c) a->K (.ptr q 0 0) H') :
 gh (lD H (⟨0,t,aa.gen H 0 t,0⟩:Ref) (HU env.P (⟨0,t,aa.gen H 0 t,0⟩:Ref) 43 (some (r.val x)))) K:=by
 have b:=f ⟨0,t,H.gen 0 t,0⟩ ((⟨0,t,H.gen 0 t,0⟩,some (BI r x)) :: H) (h.new 0 t _);clear f;simp only[BI]at b ⊢;unfold cU.val at *;simp[e.1,e.2];exact b
theorem Zi{H:aa}{b:List (Ref × aY)}{a:List u9}(h:sZ H b a)(q:Ref)(r:cU)(x:AV)(c:(q,BI r x)∈b){K:AV->Prop}(e:K (r.val x)) :
 dL (nh env.P (aa.get H) 43 (some (.ptr q 0 0))) K:=by
 have:=h.has _ c;simp only[BI]at this;unfold cU.val at *;simp[this];exact e
section
variable{d:Dk}(j:d.vc)(o : ∀s∈d.l,s.bs.length<1000000000){r:cU}{x:AV}(hp:xn (r,x))(m:r.op.l.length<=200)(k:rZ r.op.l)
include j o hp m k
theorem XH(area at' nu most:Int)(hg:ay aK 5 [d.val]=some (aB false)) :
 ay aK 3 [d.val,aI area,aI at',aI nu,aI most,r.val x]=some (aB true):=by
 refine nF (fn:=Tryz.f3) (c:=jO) rfl (by kernel_rfl) (by kernel_rfl) (by kernel_rfl) (by kernel_rfl) ?_;refine mH _ _ _ _ _ _ _ _ λg=>?_;have hTw:=j9 (by rfl) (Y6 j o);have u:=Dv j;obtain⟨ys,T,y2,l2,st',lf',dd',nx,ek,v⟩:=MD j hp (by show r.op.l.length<100000;omega) k area at' nu;have W:=j9 (by rfl) v.r;have K:=v.d;obtain⟨L,n2,e2,hSd,J,hLL,I⟩:=R8 j area nu most;replace J:=j9 (by rfl) J;have F : ∀p∈L.map Ul,xn p:=λp hp=>by
  obtain⟨q,hq,rfl⟩:=j6.1 hp;exact⟨yg _ _,yD (I q hq) (by decide)⟩
 have M:=yg 24 (iJ (rX L));have hSA:=j9 (by rfl) (QP (Ny L) M F (Gk I) (by simp;omega));rw[Xh,TP,NC]at hSA;have hkr:=M.r;generalize lW 24 (iJ (rX L))=ko at *;have X:=Is u.sl u.ok j.sl j.ok (by have:=u.len;omega) (Oe d.l) d.st d.lf d.dd;have D:=λ(Q:AV->aa->Prop) s rs r6 r13 a b c H f g h i=>aeX (s:=s) (rs:=rs) (r6:=r6) (r13:=r13) (n:=L.length) (Q:=Q) j.sl u.sl X (by omega) a b c L.length 0 H L (by omega) f g h i rfl I;have E:=λ(Q:AV->aa->Prop) s s2 rs r14 r6 r13 H a b c d e=>aeY (s:=s) (s2:=s2) (rs:=rs) (st:=st') (lf:=lf') (dd:=dd') (r14:=r14) (r6:=r6) (r13:=r13) (n:=T.length) (Q:=Q) (H0:=H) v.few a b T.length 0 H T (by omega) c (λ_ _ _ h=>h) d e rfl v.b128;have hb128:=v.b128;have e1:=Is (IZ v.out) (Bw _) v.sl v.ok (by simpa using v.few) (by rw[DJ];exact v.key) st' lf' dd';have hdr:=j.sl.r;have hor:=u.sl.r;have hy2:=v.sl.r;have hdo:=j.sl.Ur;have hoo:=u.sl.Ur;have hyo:=v.sl.Ur;have y:=v.out;have N:=hp.1.r;simp only at N;have hx1:x.cells=[x]/\x.one=true:=⟨N.2.2.2.1,N.2.2.2.2.1⟩;have V:(rows r.op.l).length=r.op.l.length:=by simp[rows]
 have h200 : ¬(200:Int)<(rows r.op.l).length:=by rw[V];omega
 have hRO:=Rb L;clear o m k F M v X V hp;generalize rows r.op.l=RW at *;obtain⟨ld,S,st,lf,dd⟩:=d;simp only[Dk.rt,Dk.val]at *;generalize lW 2 (a9 (Hy ld))=O at *;clear j u;unfold jQ;refine Zg sZ.nil hdo λr6 H t B=>?_;clear B;refine Li t hx1 λG H t=>?_;have P:=t.has (G,BI r x) (by simp);simp only[BI]at P;refine Od t r6 S st lf dd (by simp) ?_;unfold cU.val at P K W;simp only[df]at hg K W hSd J hTw e1 ⊢;simp[an, *, -o7];refine Od t r6 S st lf dd (by simp) ?_;simp only[df];simp[an, *, -o7, -qy];refine Vt t hoo λr13 H t B=>?_;clear B;refine Od t r13 O st lf dd (by simp) ?_;refine Zi t G r x (by simp) ?_;unfold cU.val;simp only[df];clear P;simp[an, *, -o7, -qy, -ah, -aq, -ao];refine t.call ⟨_,_,rfl⟩ (z:=2) (refs:=[]) (by decide) (by simp) (by simp) (mk:=λs => .tup [df s st' lf' dd',aI nx,aI ek]) (n:=3) rfl (XC _ _ _ _ _) y (Dw _) λH R C t hk hn U=>?_;clear hk hn;simp[an, *, -o7, -qy];refine Vt t (pA (t.row _ (gD ..))) λr14 H t B=>?_;clear B;refine Od t r6 S st lf dd (by simp) ?_;refine Zi t G r x (by simp) ?_;unfold cU.val;simp only[df];simp[an, *, -o7, -qy];refine Vt t hyo λr17 H t B=>?_;clear B;refine Od t r13 O st lf dd (by simp) ?_;simp only[df];simp[an, *, -o7, -qy, -ah, -aq, -ao];refine t.call ⟨_,_,rfl⟩ (z:=24) (refs:=[]) (by decide) (by simp) (by simp) (mk:=λs => .tup [s,aI n2,aI e2]) (n:=4) rfl (XD _ _) hRO (Ra _) λH s2 A t hk hn ho2=>?_;clear hk hn;simp[an, *, -o7, -qy];refine Od t r6 S st lf dd (by simp) ?_;simp only[df];simp[an, *, -o7, -qy];have Y:=t.has (r14,Ew R st' lf' dd') (by simp);have f17:=t.has (r17,Ew y2 st' lf' dd') (by simp);have w1:=Lc (t.row ⟨2,R,cG T,C⟩ (by simp)) U;have w2:=NL (t.row ⟨24,s2,gJ L,A⟩ (by simp)) ho2;have Z:=E (λx H=>dA aK 3 x H (aB true)) R s2 C r14 r6 r13 H (t.sep ⟨2,R,cG T,C⟩ (by simp) (r14,Ew R st' lf' dd') (by simp)) (λH' hF B=>by
  have w:=(t.aex (List.Perm.swap _ _ _)).aek hF B;exact D _ s2 A r6 r13 (w.sep ⟨24,s2,gJ L,A⟩ (by simp) (r6,Ew S st lf dd) (by simp)) (w.sep ⟨24,s2,gJ L,A⟩ (by simp) (r13,Ew O st lf dd) (by simp)) (λH=>by simp) H' hF (w.has (r6,Ew S st lf dd) (by simp)) (w.has (r13,Ew O st lf dd) (by simp)) (w.row ⟨24,s2,gJ L,A⟩ (by simp))) t.fr Y (t.row ⟨2,R,cG T,C⟩ (by simp))
 simp only[Ew,df]at Y f17;clear E D t K hSd y hRO U ho2;simp[an, *];exact Z
end
theorem abi{d:Dk}(n:Sl 2 (a9 d.l) d.x){r:cU}{x:AV}(hp:Sl 1 (rows r.op.l) x)(area at' nu most:Int)(b:Bool)(u:ay aK 5 [d.val]=some (aB b))(h:b=true\/200<r.op.l.length) :
 ay aK 3 [d.val,aI area,aI at',aI nu,aI most,r.val x]=some (aB true):=by
 refine nF (fn:=Tryz.f3) (c:=jO) rfl (by kernel_rfl) (by kernel_rfl) (by kernel_rfl) (by kernel_rfl) ?_;refine mH _ _ _ _ _ _ _ _ λg=>?_;have o:=n.Ur;have s:=n.r;have t:=hp.r;have m:x.cells=[x]/\x.one=true:=hp.Ur;have i:(rows r.op.l).length=r.op.l.length:=by simp[rows]
 have a:b=false->(200:Int)<(rows r.op.l).length:=λe=>by
  rw[e]at h;simp at h;rw[i];omega
 clear i h;generalize rows r.op.l=RW at *;obtain⟨v,p,st,lf,dd⟩:=d;simp only[Dk.val]at *;clear n hp;unfold jQ;refine Zg sZ.nil o λr6 H f q=>?_;clear q;refine Li f m λk H f=>?_;have j:=f.has (k,BI r x) (by simp);simp only[BI]at j;refine Od f r6 p st lf dd (by simp) ?_;unfold cU.val at j;simp only[df]at u ⊢;clear f;cases b with
 | true=>clear a;simp[an, *, -o7]
 | false=>replace a:=a rfl;simp[an, *, -o7]
theorem abj{d:Dk}(f:Sl 2 (a9 d.l) d.x)(a : ∀s∈d.l,iQ s)(g : ∀s∈d.l,s.bs.length<1000000000){r:cU}{x:AV}(hp:xn (r,x))(n:rZ r.op.l)(area at' nu most:Int) :
 ay aK 3 [d.val,aI area,aI at',aI nu,aI most,r.val x]=some (aB true):=by
 obtain⟨b,j,k⟩:=W5 (st:=d.st) (lf:=d.lf) (dd:=d.dd) f a;have c:=j9 (by rfl) j;by_cases h:b=true\/200<r.op.l.length;·exact abi f hp.1 area at' nu most b c h
 have m:b=false:=by cases b with
  | false=>rfl
  | true=>exact absurd (.inl rfl) h
 subst m;have i:r.op.l.length<=200:=by
  have : ¬200<r.op.l.length:=λe=>h (.inr e);omega
 exact XH ⟨f,a,by have:=k rfl;omega⟩ g hp i n area at' nu most c
end
end Go.Proofs.YtmjkpdknicjjgaaGreat
namespace Go.Proofs.YtmjkpdknicjjgaaGreat.logTells
open Go.Ab Go.ChangeShapes Go.WideShapes Go.RowKit
theorem law(a:List AV)(h:O2 aK.P 20 Tryz.f3.params.toList a)(c : ∀x∈a,tx 1048576 x):ay aK 3 a=some (aB true):=by
 rw[show Tryz.f3.params.toList=[24,3,3,3,3,43] from by kernel_rfl]at h;obtain⟨x0,a,rfl,k,h⟩:=tT h;obtain⟨D,a,rfl,o,h⟩:=tT h;obtain⟨w,a,rfl,t,h⟩:=tT h;obtain⟨C,a,rfl,g,h⟩:=tT h;obtain⟨B,a,rfl,n,h⟩:=tT h;obtain⟨A,a,rfl,j,h⟩:=tT h;obtain rfl:=Tn h;obtain⟨l,y,st,lf,dd,b,e,rfl⟩:=aar k;obtain⟨i,_,rfl⟩:=JJ o;obtain⟨v,_,rfl⟩:=JJ t;obtain⟨m,_,rfl⟩:=JJ g;obtain⟨u,_,rfl⟩:=JJ n;obtain⟨p,⟨hp,q⟩,rfl⟩:=WJ j;have f:=Tj e b (c (df y st lf dd) (by simp));have z:=Th hp (c _ (by simp));exact abj (d:=⟨l,y,st,lf,dd⟩) e b (λs h=>by have:=f s h;omega) (r:=p.1) (x:=p.2) ⟨hp,by show p.1.op.l.length<1100000;omega⟩ q i v m u
def wit:Input:=⟨#[], #[.agg #[.slice none 0 0,.int .i64 0,.int .i64 0,.bool false],.int .i64 0,.int .i64 0,.int .i64 0,.int .i64 0,.agg #[.int .u8 0,.int .i64 0,.int .u8 0,.int .u8 0,.int .u32 0,.int .u8 0,.int .i64 0,.int .u8 0,.int .u32 0,.int .u8 0,.int .i64 0,.int .i64 0,.int .u8 0,.int .u32 0,.int .u8 0,.int .i64 0,.int .u8 0,.int .u32 0,.slice none 0 0,.int .i64 0,.int .i64 0,.int .u8 0,.int .u32 0,.bool false]],[]⟩
theorem lifted(e:Os)(a:e.Started)(H:Type)(enc:TypeId × Value->H)(f:Stop.Interp) :
 ReturnsInHanded {} Tryz.checked e 3 .any ((Rows.OpenSpec.upto Rows.logTellsSpec).pre6 enc Tryz.prog Tryz.f3 Rows.logTellsUptoRow.domain false) (((Rows.OpenSpec.upto Rows.logTellsSpec).at f).post enc Tryz.prog Tryz.f3 false true false false):=by
 refine returnsInHanded_of_cond (C:=Tryz.checked) (s:=Rows.OpenSpec.upto Rows.logTellsSpec) (k:=Rows.uptoSmall) rfl own a (by kernel_rfl) Tryz.func3
  (OpenSpec.witness (enc:=enc) (C:=Tryz.checked) (s:=Rows.OpenSpec.upto Rows.logTellsSpec) (k:=Rows.uptoSmall) rfl false wit 8 (by kernel_rfl) (by kernel_rfl) (by kernel_rfl)
   (x:=(DataW.whole enc Tryz.prog (World.plainHolding Tryz.prog e wit).memory Tryz.f3.params.toList [] false wit.args.toList 8).get (by kernel_rfl)) (Option.some_get _).symm (by kernel_rfl) (by kernel_rfl)) ?_
 intro W d args ds j b c i _ h _;exact GI (E:=aK) abN kids (slices_full_of Tryz.prog (by kernel_rfl)) (s:=(Rows.OpenSpec.upto Rows.logTellsSpec).at f) (m:=20) (λt g=>iQB (dY.1 (show Tryz.f3.params.toList.all (λt=>decide (t<Tryz.prog.types.size))=true by kernel_rfl) t g)) (by kernel_rfl) rfl
  (λds hd=>by match ds,hd with | [_,_,_,_,_,_],_=>rfl) (by kernel_rfl) OS Vp law W d args ds j b c i (OR h)
theorem qC:Rows.logTellsUptoRow.holds Tryz.pinned (Rows.OpenSpec.upto Rows.logTellsSpec):=
 OpenClaim.holds_of_cond 3 Tryz.f3 rfl rfl rfl rfl rfl rfl rfl ⟨rfl,rfl,rfl,rfl,rfl⟩ rfl rfl rfl rfl rfl (by kernel_rfl) Tryz.func3 (by kernel_rfl)
  (iQB (by kernel_rfl)) (by unfold Func.isWrapper;first | (rw[if_pos (by decide +kernel)];kernel_rfl) | (rw[if_neg (by decide +kernel)];exact⟨rfl,rfl⟩))
  (λc a H enc _ b=>lifted c a H enc b)
theorem proved:Rows.LogTellsUptoSaid:=
 qC
end Go.Proofs.YtmjkpdknicjjgaaGreat.logTells
