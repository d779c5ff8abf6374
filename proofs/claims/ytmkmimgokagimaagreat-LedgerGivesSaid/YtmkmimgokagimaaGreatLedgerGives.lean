/-
  The document's answer on records: may one be? No statement of a seat is proved here.
-/
import Derived.Test.YtmkmimgokagimaaGreatLvJoin3
import Derived.Test.YtmkmimgokagimaaGreatMLeSer
set_option linter.unusedVariables false
set_option linter.unusedSimpArgs false
set_option linter.unusedSectionVars false
set_option linter.unnecessarySimpa false
set_option maxRecDepth 1000000
namespace Go.Proofs.YtmkmimgokagimaaGreat
open Go.Ab
section
attribute [local simp] aJ az au aG aF aX lZ aO aE aH bT bS bg aP an bA gj
theorem PN{l:List Int}{x:AV}(m:Sl 1 (rows l) x)(L:l.length<100000)(D:UInt8)(p:UInt8)(a_3:UInt32)(z:UInt8)(w:Int)(B:UInt8)(E:UInt32)(o:UInt8)(C:Int)(e:Int)(j:UInt8)(c:UInt32)(f:UInt8)(d:Int)(a:UInt8)(b:UInt32){r:Ref}{H:aa}(N:H.get r=some ⟨17,[.agg [a8 D,a8 p,af a_3,a8 z,aI w,a8 B,af E,a8 o,aI C,aI e,a8 j,af c,a8 f,aI d,a8 a,af b,x]],false,false⟩){Q:AV->aa->Prop} :
 ∀(s:List Int)(k:Nat)(i:Int),l.drop k=s->k<=l.length->i=k->(∀y,y=aB (!decide (-1∈s))->Q y H) ->
 bu env Tryz.f155 0 iv [(3,aI i),(1,.ptr r 0 0)] H Q:=by
 intro s;induction s with
 | nil=>rintro k i hs hk rfl hQ;obtain rfl:=drop_nil hs hk;refine oH _ _ _ _ λg=>?_;have G:=m.r;simp[ai, *,iG];all_goals exact hQ _ (by simp)
 | cons n s v=>
  rintro k i hs hk rfl hQ;obtain⟨K,M,t,J⟩:=drop_cons hs;refine oH _ _ _ _ λg=>?_;have O:=iQa ((k:Int)+1) (by omega);have G:=m.r;by_cases F:n = -1;·have u:=hQ (aB false) (by simp[F]);clear hQ v;simp[ai, *,iG,m.idx,rows,aR];all_goals exact u
  have A : ¬ -1=n:=λh=>F h.symm;have q:=v (k+1) ((k:Int)+1) t (by omega) (by simp) (λy I=>hQ y (by rw[I];simp[A]));clear v hQ;simp[ai, *,iG,m.idx,rows,aR];all_goals exact q
theorem So(q:UInt8)(k:UInt8)(a_3:UInt32)(n:UInt8)(m:Int)(t:UInt8)(p:UInt32)(j:UInt8)(o:Int)(f:Int)(i:UInt8)(c:UInt32)(h:UInt8)(d:Int)(a:UInt8)(b:UInt32){x:AV}{l:List Int}(u:Sl 1 (rows l) x)(v:l.length<100000):ax env 155 [.agg [a8 q,a8 k,af a_3,a8 n,aI m,a8 t,af p,a8 j,aI o,aI f,a8 i,af c,a8 h,aI d,a8 a,af b,x]]=some (aB (!decide (-1∈l))):=by
 refine ay rfl (by kernel_rfl) (xC _ _ _ λg=>?_);have w:=u.r;simp[ai, *,qj];exact PN u v q k a_3 n m t p j o f i c h d a b (by simp) l 0 _ rfl (by omega) rfl (λy e=>by simp[e])
theorem U3(p:UInt8)(j:UInt8)(a_3:UInt32)(m:UInt8)(k:Int)(q:UInt8)(o:UInt32)(i:UInt8)(n:Int)(e:Int)(h:UInt8)(c:UInt32)(f:UInt8)(d:Int)(a:UInt8)(b:UInt32){x:AV}{l:List Int}(t:Sl 1 (rows l) x)(w:l.length<100000):ax env 56 [.agg [a8 p,a8 j,af a_3,a8 m,aI k,a8 q,af o,a8 i,aI n,aI e,a8 h,af c,a8 f,aI d,a8 a,af b,x]]=some (.agg [a8 p,a8 j,af a_3,a8 m,aI k,a8 q,af o,a8 i,aI n,aI e,a8 h,af c,a8 f,aI d,a8 a,af b,ep 1 (rows l)]):=by
 refine ay rfl (by kernel_rfl) (qS _ _ _ λg=>?_);have v:=t.r;have y:l.length<=35184372088832/\l.length * 4<=140737488355328:=by omega
 by_cases u:rows l=[];·simp[ai, *,gO,t.kX,ep]
 rw[qv 1 u];simp[ai, *,gO,t.kX]
theorem Su(p:UInt8)(t:UInt8)(a_3:UInt32)(u:UInt8)(k:Int)(q:UInt8)(o:UInt32)(j:UInt8)(n:Int)(e:Int)(i:UInt8)(c:UInt32)(f:UInt8)(d:Int)(a:UInt8)(b:UInt32){x:AV}{l:List Int}(v:Sl 1 (rows l) x)(w:l.length<1000000000):ax env 154 [.agg [a8 p,a8 t,af a_3,a8 u,aI k,a8 q,af o,a8 j,aI n,aI e,a8 i,af c,a8 f,aI d,a8 a,af b,x]]=some (aB (oN { (⟨p,⟨t,a_3,u⟩,k,⟨⟨⟨q,o,j⟩,n⟩,e⟩,⟨⟨i,c,f⟩,d⟩,⟨a,b⟩,l⟩:aw)with h:=⟨0,0,0⟩} Ag)):=by
 have h:=Ps p 0 0 0 k q o j n e i c f d a b 0 0 0 0 0 0 0 0 0 0 0 0 0 0 0 0 v (y:=bI) (m:=[]) (.inl ⟨rfl,rfl⟩) w (by simp);refine ay rfl (by kernel_rfl) (yr _ _ _ λg=>?_);simp[ai, *,rp,v.r];rfl
theorem Vb(k:UInt8)(u:Int)(A:UInt8)(p:UInt8)(a_3:UInt32)(t:UInt8)(z:Int)(E:UInt8)(D:UInt32)(B:UInt8)(C:Int)(f:Int)(j:UInt8)(b:UInt32)(i:UInt8)(d:Int)(e:UInt8)(a:UInt32)(c H:Int)(v:UInt8)(w:UInt32)(o:Bool){x:AV}{l:List Int}(F:Sl 1 (rows l) x)(hl:l.length<100000)(Y:rX l) :
 ax env 85 [.agg [a8 k,aI u,a8 A,a8 p,af a_3,a8 t,aI z,a8 E,af D,a8 B,aI C,aI f,a8 j,af b,a8 i,aI d,a8 e,af a,x,aI c,aI H,a8 v,af w,aB o]]=some (aB (eu ⟨k,u,(⟨A,⟨p,a_3,t⟩,z,⟨⟨⟨E,D,B⟩,C⟩,f⟩,⟨⟨j,b,i⟩,d⟩,⟨e,a⟩,l⟩:aw),c,H,v,w,o⟩)):=by
 have J:=Su A p a_3 t z E D B C f j b i d e a F (by omega);have M:=QW A p a_3 t z E D B C f j b i d e a F (by omega) Y;have N:=So A p a_3 t z E D B C f j b i d e a F hl;have Q:=Yg H v w o;have L:=K4 p a_3 t;refine ay rfl (by kernel_rfl) (zm _ _ _ λg=>?_);have O:oN { (⟨A,⟨p,a_3,t⟩,z,⟨⟨⟨E,D,B⟩,C⟩,f⟩,⟨⟨j,b,i⟩,d⟩,⟨e,a⟩,l⟩:aw)with h:=⟨0,0,0⟩} Ag=oN (⟨A,⟨p,a_3,t⟩,z,⟨⟨⟨E,D,B⟩,C⟩,f⟩,⟨⟨j,b,i⟩,d⟩,⟨e,a⟩,l⟩:aw) { Ag with h:=⟨p,a_3,t⟩}:=by
  simp[oN,Ag]
 by_cases k1:k=1
 ·subst k1;have I:eu ⟨1,u,(⟨A,⟨p,a_3,t⟩,z,⟨⟨⟨E,D,B⟩,C⟩,f⟩,⟨⟨j,b,i⟩,d⟩,⟨e,a⟩,l⟩:aw),c,H,v,w,o⟩=((decide (0<=u)&&decide (u<=255))&&(mA ⟨p,a_3,t⟩&&(oN { (⟨A,⟨p,a_3,t⟩,z,⟨⟨⟨E,D,B⟩,C⟩,f⟩,⟨⟨j,b,i⟩,d⟩,⟨e,a⟩,l⟩:aw)with h:=⟨0,0,0⟩} Ag&&(decide (c=0)&&(decide (H=0)&&(decide (v=0)&&decide (w=0)&&decide (o=false))))))):=by
   rw[O];simp[eu,G1,nj]
  rw[I];clear O I M N Q;generalize oN { (⟨A,⟨p,a_3,t⟩,z,⟨⟨⟨E,D,B⟩,C⟩,f⟩,⟨⟨j,b,i⟩,d⟩,⟨e,a⟩,l⟩:aw)with h:=⟨0,0,0⟩} Ag=n at *;generalize mA ⟨p,a_3,t⟩=hh at *;cases n with
  | false=>simp[ai, *,aM,F.r,J]
  | true=>
  cases hh with| false=>simp[ai, *,aM,F.r,J,L]| true=>
  by_cases G:0<=u
  ·by_cases U:u<=255
   ·by_cases K:c=0;·simp[ai, *,aM,F.r,J,L,G,U,K,ia,cg]
    simp[ai, *,aM,F.r,J,L,G,U,K]
   simp[ai, *,aM,F.r,J,L,G,U]
  simp[ai, *,aM,F.r,J,L,G]
 by_cases G:u=0
 ·by_cases P:k=2
  ·subst P;have I:eu ⟨2,u,(⟨A,⟨p,a_3,t⟩,z,⟨⟨⟨E,D,B⟩,C⟩,f⟩,⟨⟨j,b,i⟩,d⟩,⟨e,a⟩,l⟩:aw),c,H,v,w,o⟩=(mz (⟨A,⟨p,a_3,t⟩,z,⟨⟨⟨E,D,B⟩,C⟩,f⟩,⟨⟨j,b,i⟩,d⟩,⟨e,a⟩,l⟩:aw)&&(!decide (-1∈l)&&((decide (0<=c)&&decide (c<65536))&&(decide (H=0)&&(decide (v=0)&&decide (w=0)&&decide (o=false)))))):=by
    have Z : ∀q:aw,oN q q=true:=λq=>by simp[oN]
    simp only[eu,G1,nj,Z,G,show ¬((2:UInt8)=1) from by decide,iQf,if_true,decide_true,m9];cases mz (⟨A,⟨p,a_3,t⟩,z,⟨⟨⟨E,D,B⟩,C⟩,f⟩,⟨⟨j,b,i⟩,d⟩,⟨e,a⟩,l⟩:aw)<;>cases decide (-1∈l)<;>cases decide (0<=c)<;>cases decide (c<65536)<;>simp
   rw[I];clear O I J L Q;generalize mz (⟨A,⟨p,a_3,t⟩,z,⟨⟨⟨E,D,B⟩,C⟩,f⟩,⟨⟨j,b,i⟩,d⟩,⟨e,a⟩,l⟩:aw)=n at *;generalize V:decide (-1∈l)=pl at *;clear V;cases n with
   | false=>simp[ai, *,aM,F.r,M,G]
   | true=>
   cases pl with| true=>simp[ai, *,aM,F.r,M,N,G]| false=>
   by_cases K:0<=c
   ·by_cases W:c<65536;·simp[ai, *,aM,F.r,M,N,G,K,W,ia,cg]
    simp[ai, *,aM,F.r,M,N,G,K,W]
   simp[ai, *,aM,F.r,M,N,G,K]
  by_cases R:k=3
  ·subst R;have X:xK H v w o=(decide (0<=H)&&decide (H<8)&&o6 v w o):=rfl;have T:=Ps A p a_3 t z E D B C f j b i d e a 0 0 0 0 0 0 0 0 0 0 0 0 0 0 0 0 F (y:=bI) (m:=[]) (.inl ⟨rfl,rfl⟩) (by omega) (by simp);have I:eu ⟨3,u,(⟨A,⟨p,a_3,t⟩,z,⟨⟨⟨E,D,B⟩,C⟩,f⟩,⟨⟨j,b,i⟩,d⟩,⟨e,a⟩,l⟩:aw),c,H,v,w,o⟩=(oN (⟨A,⟨p,a_3,t⟩,z,⟨⟨⟨E,D,B⟩,C⟩,f⟩,⟨⟨j,b,i⟩,d⟩,⟨e,a⟩,l⟩:aw) Ag&&(decide (c=0)&&(decide (0<=H)&&decide (H<8)&&o6 v w o))):=by
    rw[<-X];simp only[eu,G1,nj,G,show ¬((3:UInt8)=1) from by decide,show ¬((3:UInt8)=2) from by decide,iQf,if_true,decide_true,m9];cases xK H v w o<;>cases oN (⟨A,⟨p,a_3,t⟩,z,⟨⟨⟨E,D,B⟩,C⟩,f⟩,⟨⟨j,b,i⟩,d⟩,⟨e,a⟩,l⟩:aw) Ag<;>simp
   rw[I];have S:oN (⟨A,⟨p,a_3,t⟩,z,⟨⟨⟨E,D,B⟩,C⟩,f⟩,⟨⟨j,b,i⟩,d⟩,⟨e,a⟩,l⟩:aw) ⟨0,⟨0,0,0⟩,0,⟨⟨⟨0,0,0⟩,0⟩,0⟩,⟨⟨0,0,0⟩,0⟩,⟨0,0⟩,[]⟩=oN (⟨A,⟨p,a_3,t⟩,z,⟨⟨⟨E,D,B⟩,C⟩,f⟩,⟨⟨j,b,i⟩,d⟩,⟨e,a⟩,l⟩:aw) Ag:=rfl;rw[S]at T;clear O I J L M N X S;generalize oN (⟨A,⟨p,a_3,t⟩,z,⟨⟨⟨E,D,B⟩,C⟩,f⟩,⟨⟨j,b,i⟩,d⟩,⟨e,a⟩,l⟩:aw) Ag=n at *;generalize (decide (0<=H)&&decide (H<8)&&o6 v w o)=m at *;cases n with
   | false=>simp[ai, *,aM,F.r,T,G]
   | true=>
    by_cases K:c=0;·simp[ai, *,aM,F.r,T,Q,G,K]
    simp[ai, *,aM,F.r,T,G,K]
  have I:eu ⟨k,u,(⟨A,⟨p,a_3,t⟩,z,⟨⟨⟨E,D,B⟩,C⟩,f⟩,⟨⟨j,b,i⟩,d⟩,⟨e,a⟩,l⟩:aw),c,H,v,w,o⟩=false:=(by simp[eu,k1,P,R]);rw[I];clear O I J L M N Q;simp[ai, *,aM,F.r,G,k1,P,R]
 have I:eu ⟨k,u,(⟨A,⟨p,a_3,t⟩,z,⟨⟨⟨E,D,B⟩,C⟩,f⟩,⟨⟨j,b,i⟩,d⟩,⟨e,a⟩,l⟩:aw),c,H,v,w,o⟩=false:=by
  simp only[eu,G1,nj,k1,iQf];by_cases P:k=2;·simp[P,G]
  by_cases R:k=3<;>simp[P,R,G]
 rw[I];clear O I J L M N Q;simp[ai, *,aM,F.r,G,k1]
theorem CC{l:List (cN × AV)}{k:Nat}{p:cN × AV}(h:l[k]?=some p)(j n:Nat)(a:Bool):bL (bW l) k j n a=bL [p.1.val p.2] 0 j n a:=by
 simp[bL,bW,h]
def jC(us:List Clear)(gr:Int):List (cN × AV)->List Clear × Int
 | []=>(us,gr)
 | p :: l=>if p.1.kind=3/\nG us gr p.1.gu=0 then jC (us.set p.1.gu.toNat ⟨p.1.gv,p.1.gc,p.1.gok⟩) (IntKind.i64.wrap (gr - 1)) l else jC us gr l
section
variable{qs:List ak}{l:List (cN × AV)}{x1:AV}(m:Sl 24 (bW l) x1)(i:qs.length<1000)(q:l.length<100000)(d : ∀p∈l,p.1.kind=3->0<=p.1.gu)
include m i q d
theorem V2{r2 r4:Ref}(hn:r2≠r4){Q:AV->aa->Prop} : ∀(s:List (cN × AV)) (k:Nat) (us:List Clear) (gr:Int) (N X:AV) (H:aa),l.drop k=s->k<=l.length->Sl 3 (de us) N->Sl 5 (cR qs) X->us.length<1000 ->
 H.get r2=some ⟨3,[.agg [N,X,aI gr]],false,false⟩->(∃a b c,H.get r4=some ⟨3,[.agg [a,b,c]],false,false⟩)->Fr H ->
 (∀H' f n,Sl 3 (de (jC us gr s).1) f->Sl 5 (cR qs) n->Q (.agg [f,n,aI (jC us gr s).2]) H') ->
 bu env Tryz.f89 0 fV [(5,aI k),(2,.ptr r2 0 0),(1,x1),(4,.ptr r4 0 0)] H Q:=by
 intro s;induction s with
 | nil=>rintro k us gr N X H hs hk hu hq hul h2 ⟨a,b,c,G⟩ hF hQ;obtain rfl:=drop_nil hs hk;have E:=λH'=>hQ H' N X hu hq;simp only[jC]at E;refine jA _ _ _ _ _ _ λg=>?_;have D:=eZ l;clear hQ;simp[ai, *,gf,m.r,hu.r,hq.r,aa.get_put];all_goals exact E _
 | cons p s K=>
  rintro k us gr N X H hs hk hu hq hul h2 G hF hQ;obtain⟨z,Y,t,C⟩:=drop_cons hs;have e1:=iQa ((k:Int)+1) (by omega);have I:=CC C;have D:=eZ l;have hlt':(k:Int)<l.length:=by omega
  have hu0:=d p (Y ▸ je z);have F:(H.get r2).isSome=true:=by rw[h2];rfl
  by_cases B:p.1.kind=3
  ·by_cases J:nG us gr p.1.gu=0
   ·have S:=J1 (gr:=gr) hu hq i hul p.1.gu p.1.gv p.1.gc p.1.gok (hu0 B) J;have j:=λH' Z h6 h7=>K (k+1) (us.set p.1.gu.toNat ⟨p.1.gv,p.1.gc,p.1.gok⟩) (IntKind.i64.wrap (gr - 1)) _ _ H' t (by omega) (.inr ⟨none,rfl,by simp⟩) (Ha 5 (cR qs)) (by simpa using hul) Z h6 h7 (λy f n A V=>by
     have:=hQ y f n;rw[jC,if_pos ⟨B,J⟩]at this;exact this A V)
    rw[show((k+1:Nat):Int)=(k:Int)+1 from by omega]at j;have hvr:=(Ha 5 (cR qs)).r;clear K hQ hs t Y C d;obtain⟨⟨k1,u,⟨a1,⟨a2,a3,a4⟩,a5,⟨⟨⟨a6,a7,M⟩,a9⟩,T⟩,⟨⟨R,U,P⟩,L⟩,⟨W,O⟩,al⟩,c,A,v,w,o⟩,x⟩:=p;simp only at B;subst B;simp only at S j J;generalize bW l=er at *;generalize C7 5 (cR qs)=vq at *;generalize de (us.set A.toNat ⟨v,w,o⟩)=ec at *;refine jA _ _ _ _ _ _ λg=>?_;simp[ai, *,gf,m.r,m.idx,z,D,I,cN.val,hu.r,hq.r,hvr,S,aa.get_put];obtain⟨ta,tb,tc,G⟩:=G;refine j _ ?_ ⟨ta,tb,tc,?_⟩ (CS hF F _);·simp[aa.get_put]
    rw[aa.get_put,if_neg (λe=>hn e.symm)];exact G
   have S:=J0 (gr:=gr) hu hq i hul p.1.gu p.1.gv p.1.gc p.1.gok J;have j:=λH' Z h6 h7=>K (k+1) us gr _ _ H' t (by omega) hu hq hul Z h6 h7 (λy f n A V=>by
    have:=hQ y f n;rw[jC,if_neg (λh=>J h.2)]at this;exact this A V)
   rw[show((k+1:Nat):Int)=(k:Int)+1 from by omega]at j;clear K hQ hs t Y C d;obtain⟨⟨k1,u,⟨a1,⟨a2,a3,a4⟩,a5,⟨⟨⟨a6,a7,M⟩,a9⟩,T⟩,⟨⟨R,U,P⟩,L⟩,⟨W,O⟩,al⟩,c,A,v,w,o⟩,x⟩:=p;simp only at B;subst B;simp only at S J;generalize bW l=er at *;refine jA _ _ _ _ _ _ λg=>?_;simp[ai, *,gf,m.r,m.idx,z,D,I,cN.val,hu.r,hq.r,S,aa.get_put];obtain⟨ta,tb,tc,G⟩:=G;refine j _ ?_ ⟨ta,tb,tc,?_⟩ (CS hF F _);·simp[aa.get_put]
   rw[aa.get_put,if_neg (λe=>hn e.symm)];exact G
  have j:=K (k+1) us gr _ _ H t (by omega) hu hq hul h2 G hF (λy f n A V=>by
   have:=hQ y f n;rw[jC,if_neg (λh=>B h.1)]at this;exact this A V)
  rw[show((k+1:Nat):Int)=(k:Int)+1 from by omega]at j;clear K hQ hs t Y C d;obtain⟨⟨k1,u,⟨a1,⟨a2,a3,a4⟩,a5,⟨⟨⟨a6,a7,M⟩,a9⟩,T⟩,⟨⟨R,U,P⟩,L⟩,⟨W,O⟩,al⟩,c,A,v,w,o⟩,x⟩:=p;simp only at B;generalize bW l=er at *;refine jA _ _ _ _ _ _ λg=>?_;simp[ai, *,gf,m.r,m.idx,z,D,I,cN.val,B]
theorem U6{us:List Clear}{gr:Int}{j e:AV}(t:Sl 3 (de us) j)(u:Sl 5 (cR qs) e)(k:us.length<1000) :
 ∃a b,Sl 3 (de (jC us gr l).1) a/\Sl 5 (cR qs) b/\ax env 89 [.agg [j,e,aI gr],x1]=some (.agg [a,b,aI (jC us gr l).2]):=by
 obtain⟨y,h,a,b,v,w,rfl⟩:=vR (fn:=Tryz.f89) (c:=zU) (f:=89) (args:=[.agg [j,e,aI gr],x1]) (E:=env)
  (R:=λy =>∃a b,Sl 3 (de (jC us gr l).1) a/\Sl 5 (cR qs) b/\y = .agg [a,b,aI (jC us gr l).2]) (by kernel_rfl) (by kernel_rfl) (by kernel_rfl) (by kernel_rfl) (by kernel_rfl) (by
  refine zh _ _ _ _ λg=>?_;simp[ai, *,sJ,t.r,u.r];refine V2 m i q d (r2:=⟨0,2,0,0⟩) (r4:=⟨0,4,0,0⟩) (by simp) l 0 us gr j e _ rfl (by omega) t u k ?_ ⟨bI,bI,aI 0,?_⟩ ?_ (λH' a b o n=>?_);·simp
  ·simp;try rfl
  ·simp(maxDischargeDepth:=12) [fN, *]
  simp[o.r,n.r];exact⟨o,n⟩)
 exact⟨a,b,v,w,h⟩
end
structure OA where
 o:Bool
 u:Int
 s:Int
def wP(h:xn)(t:OA)(p:cN × AV):OA:=
 if p.1.op.h=h then (if p.1.kind=1 then ⟨true,p.1.user,t.s⟩ else if p.1.kind=2 then ⟨t.o,t.u,if t.s<p.1.op.serial then p.1.op.serial else t.s⟩ else t) else t
def mD(h:xn)(t:OA)(l:List (cN × AV)):OA:=l.foldl (wP h) t
section
variable{l:List (cN × AV)}{x1:AV}(f:Sl 24 (bW l) x1)(i:l.length<100000)
include f i
theorem S7{b1 b3:UInt8}{b2:UInt32}{r3 r4 r5:Ref}(L:r5≠r4/\r5≠r3/\r4≠r3){Q:AV->aa->Prop} : ∀(s:List (cN × AV)) (k:Nat) (t:OA) (H:aa),l.drop k=s->k<=l.length ->
 H.get r3=some ⟨3,[.agg [a8 b1,af b2,a8 b3]],false,false⟩->(∃a b c,H.get r4=some ⟨3,[.agg [a,b,c]],false,false⟩)->H.get r5=some ⟨3,[.agg [aB t.o,aI t.u,aI t.s]],false,false⟩ ->
 (∀H' y,y=AV.agg [aB (mD ⟨b1,b2,b3⟩ t s).o,aI (mD ⟨b1,b2,b3⟩ t s).u,aI (mD ⟨b1,b2,b3⟩ t s).s]->Q y H') ->
 bu env Tryz.f94 0 cW [(6,aI k),(5,.ptr r5 0 0),(0,x1),(3,.ptr r3 0 0),(4,.ptr r4 0 0)] H Q:=by
 intro s;induction s with
 | nil=>rintro k t H hs hk h3 ⟨a,b,c,B⟩ h5 hQ;obtain rfl:=drop_nil hs hk;have q:=λH'=>hQ H' _ rfl;simp only[mD,List.foldl_nil]at q;refine gC _ _ _ _ _ _ _ λg=>?_;have j:=eZ l;clear hQ;simp[ai, *,fa,f.r,aa.get_put];all_goals exact q _
 | cons p s O=>
  rintro k t H hs hk h3 B h5 hQ;obtain⟨m,W,C,D⟩:=drop_cons hs;have e1:=iQa ((k:Int)+1) (by omega);have n:=CC D;have j:=eZ l;have N:(k:Int)<l.length:=by omega
  have d:=λt' (ht:t'=wP ⟨b1,b2,b3⟩ t p) H' g3 g4 g5=>O (k+1) t' H' C (by omega) g3 g4 g5 (λG y S=>hQ G y (by rw[S,ht];rfl));rw[show((k+1:Nat):Int)=(k:Int)+1 from by omega]at d;clear O hQ hs C W D;obtain⟨⟨k1,u,⟨a1,⟨K,F,E⟩,M,⟨⟨⟨a6,a7,R⟩,a9⟩,a10⟩,⟨⟨Z,a12,Y⟩,P⟩,⟨a15,X⟩,al⟩,c,g1,v,w,o⟩,x⟩:=p;obtain⟨ta,tb,tc,B⟩:=B;obtain⟨t0,t1,t2⟩:=t;simp only[wP,xn.mk.injEq]at d;simp only at h5;have h:(H.get r5).isSome=true:=by rw[h5];rfl
  have n35 : ¬r3=r5:=λe=>L.2.1 e.symm;have V : ¬r4=r5:=λe=>L.1 e.symm;generalize bW l=er at *;by_cases I:K=b1/\F=b2/\E=b3
  ·obtain⟨rfl,rfl,rfl⟩:=I;by_cases A:k1=1;·subst A;refine gC _ _ _ _ _ _ _ λg=>?_;have d:=d ⟨true,u,t2⟩ (by simp);simp[ai, *,fa,f.r,f.idx,m,j,n,cN.val,ia,cg,aa.get_put,h3,B,h5,h]
   by_cases z:k1=2;·subst z;refine gC _ _ _ _ _ _ _ λg=>?_;have d:=d ⟨t0,t1,if t2<M then M else t2⟩ (by simp);simp[ai, *,fa,f.r,f.idx,m,j,n,cN.val,ia,cg,aa.get_put,h3,B,h5,h]
   refine gC _ _ _ _ _ _ _ λg=>?_;have d:=d ⟨t0,t1,t2⟩ (by simp[A,z]);simp[ai, *,fa,f.r,f.idx,m,j,n,cN.val,ia,cg,aa.get_put,h3,B,h5,h,A,z]
  refine gC _ _ _ _ _ _ _ λg=>?_;have d:=d ⟨t0,t1,t2⟩ (by rw[if_neg I]);have J:(!decide (K=b1) || !decide (F=b2) || !decide (E=b3))=true:=(by by_cases q1:K=b1<;>by_cases T:F=b2<;>by_cases U:E=b3<;>simp[q1,T,U]at I ⊢);simp[ai, *,fa,f.r,f.idx,m,j,n,cN.val,ia,cg,aa.get_put,h3,B,h5,h,J]
theorem Yh(b1:UInt8)(b2:UInt32)(b3:UInt8):ax env 94 [x1,.agg [a8 b1,af b2,a8 b3]] =
 some (.agg [aB (mD ⟨b1,b2,b3⟩ ⟨false,0,0⟩ l).o,aI (mD ⟨b1,b2,b3⟩ ⟨false,0,0⟩ l).u,aI (mD ⟨b1,b2,b3⟩ ⟨false,0,0⟩ l).s]):=by
 refine ay rfl (by kernel_rfl) (AA _ _ _ _ λg=>?_);simp[ai, *,tq,f.r];refine S7 f i (b1:=b1) (b2:=b2) (b3:=b3) (r3:=⟨0,3,0,0⟩) (r4:=⟨0,4,0,0⟩) (r5:=⟨0,5,0,0⟩) ⟨by simp,by simp,by simp⟩ l 0 ⟨false,0,0⟩ _ rfl (by omega) ?_ ⟨aB false,aI 0,aI 0,?_⟩ ?_ (λH' y e=>?_);·simp
 ·simp
 ·simp
 subst e;simp
end
def wN(b:jW)(t:Az)(p:cN × AV):Az:=
 if p.1.op.h.lv=b.lv/\p.1.op.h.cats=b.cats then (if p.1.kind=1 then { t with opens:=IntKind.i64.wrap (t.opens+1)} else if p.1.kind=2 then { t with ops:=IntKind.i64.wrap (t.ops+1),cells:=if p.1.code=0/\p.1.op.kind=1 then IntKind.i64.wrap (t.cells+p.1.op.s.many) else t.cells} else t) else t
def vG(b:jW)(t:Az)(l:List (cN × AV)):Az:=l.foldl (wN b) t
section
variable{l:List (cN × AV)}{x1:AV}(f:Sl 24 (bW l) x1)(i:l.length<100000)
include f i
theorem Pl{b1:UInt8}{b2:UInt32}{r3 r4 r5:Ref}(O:r5≠r4/\r5≠r3/\r4≠r3){Q:AV->aa->Prop} : ∀(s:List (cN × AV)) (k:Nat) (t:Az) (H:aa),l.drop k=s->k<=l.length ->
 H.get r3=some ⟨2,[.agg [a8 b1,af b2]],false,false⟩->(∃a b c d e,H.get r4=some ⟨5,[.agg [a,b,c,d,e]],false,false⟩)->H.get r5=some ⟨5,[.agg [a8 b1,af b2,aI t.opens,aI t.ops,aI t.cells]],false,false⟩ ->
 (∀H' y,y=AV.agg [a8 b1,af b2,aI (vG ⟨b1,b2⟩ t s).opens,aI (vG ⟨b1,b2⟩ t s).ops,aI (vG ⟨b1,b2⟩ t s).cells]->Q y H') ->
 bu env Tryz.f99 0 bc [(6,aI k),(5,.ptr r5 0 0),(0,x1),(3,.ptr r3 0 0),(4,.ptr r4 0 0)] H Q:=by
 intro s;induction s with
 | nil=>rintro k t H hs hk h3 ⟨a,b,c,d,e,z⟩ h5 hQ;obtain rfl:=drop_nil hs hk;have A:=λH'=>hQ H' _ rfl;simp only[vG,List.foldl_nil]at A;refine cU _ _ _ _ _ _ _ λg=>?_;have m:=eZ l;clear hQ;simp[ai, *,cE,f.r,aa.get_put];all_goals exact A _
 | cons p s R=>
  rintro k t H hs hk h3 z h5 hQ;obtain⟨n,X,D,E⟩:=drop_cons hs;have e1:=iQa ((k:Int)+1) (by omega);have q:=CC E;have m:=eZ l;have P:(k:Int)<l.length:=by omega
  have h:=λt' (ht:t'=wN ⟨b1,b2⟩ t p) H' g3 g4 g5=>R (k+1) t' H' D (by omega) g3 g4 g5 (λI y U=>hQ I y (by rw[U,ht];rfl));rw[show((k+1:Nat):Int)=(k:Int)+1 from by omega]at h;clear R hQ hs D X E;obtain⟨⟨k1,u,⟨a1,⟨N,G,a4⟩,a5,⟨⟨⟨a6,a7,T⟩,a9⟩,L⟩,⟨⟨a11,a12,Z⟩,S⟩,⟨a15,Y⟩,al⟩,c,g1,v,w,o⟩,x⟩:=p;obtain⟨ta,tb,tc,td,te,z⟩:=z;obtain⟨t0,t1,t2⟩:=t;simp only[wN]at h;simp only at h5;have j:(H.get r5).isSome=true:=by rw[h5];rfl
  have n35 : ¬r3=r5:=λe=>O.2.1 e.symm;have W : ¬r4=r5:=λe=>O.1 e.symm;generalize bW l=er at *;by_cases J:N=b1/\G=b2
  ·obtain⟨rfl,rfl⟩:=J;by_cases C:k1=1;·subst C;refine cU _ _ _ _ _ _ _ λg=>?_;have h:=h ⟨IntKind.i64.wrap (t0+1),t1,t2⟩ (by simp);simp[ai, *,cE,f.r,f.idx,n,m,q,cN.val,ia,cg,aa.get_put,h3,z,h5,j]
   by_cases B:k1=2
   ·subst B;by_cases F:c=0
    ·by_cases K:a1=1;·subst F K;refine cU _ _ _ _ _ _ _ λg=>?_;have h:=h ⟨t0,IntKind.i64.wrap (t1+1),IntKind.i64.wrap (t2+L)⟩ (by simp);simp[ai, *,cE,f.r,f.idx,n,m,q,cN.val,ia,cg,aa.get_put,h3,z,h5,j]
     subst F;refine cU _ _ _ _ _ _ _ λg=>?_;have h:=h ⟨t0,IntKind.i64.wrap (t1+1),t2⟩ (by simp[K]);simp[ai, *,cE,f.r,f.idx,n,m,q,cN.val,ia,cg,aa.get_put,h3,z,h5,j,K]
    skip;refine cU _ _ _ _ _ _ _ λg=>?_;have h:=h ⟨t0,IntKind.i64.wrap (t1+1),t2⟩ (by simp[F]);simp[ai, *,cE,f.r,f.idx,n,m,q,cN.val,ia,cg,aa.get_put,h3,z,h5,j,F]
   skip;refine cU _ _ _ _ _ _ _ λg=>?_;have h:=h ⟨t0,t1,t2⟩ (by simp[C,B]);simp[ai, *,cE,f.r,f.idx,n,m,q,cN.val,ia,cg,aa.get_put,h3,z,h5,j,C,B]
  have M:(!decide (N=b1) || !decide (G=b2))=true:=(by by_cases q1:N=b1<;>by_cases V:G=b2<;>simp[q1,V]at J ⊢);refine cU _ _ _ _ _ _ _ λg=>?_;have h:=h ⟨t0,t1,t2⟩ (by rw[if_neg J]);simp[ai, *,cE,f.r,f.idx,n,m,q,cN.val,ia,cg,aa.get_put,h3,z,h5,j,M]
theorem HI(b1:UInt8)(b2:UInt32):ax env 99 [x1,.agg [a8 b1,af b2]] =
 some (.agg [a8 b1,af b2,aI (vG ⟨b1,b2⟩ ⟨0,0,0⟩ l).opens,aI (vG ⟨b1,b2⟩ ⟨0,0,0⟩ l).ops,aI (vG ⟨b1,b2⟩ ⟨0,0,0⟩ l).cells]):=by
 refine ay rfl (by kernel_rfl) (xw _ _ _ _ λg=>?_);simp[ai, *,qf,f.r];refine Pl f i (b1:=b1) (b2:=b2) (r3:=⟨0,3,0,0⟩) (r4:=⟨0,4,0,0⟩) (r5:=⟨0,5,0,0⟩) ⟨by simp,by simp,by simp⟩ l 0 ⟨0,0,0⟩ _ rfl (by omega) ?_ ⟨a8 0,af 0,aI 0,aI 0,aI 0,?_⟩ ?_ (λH' y e=>?_);·simp
 ·simp
 ·simp
 subst e;simp
end
def isDone(p:cN × AV):Bool:=decide (p.1.kind=2)&&decide (p.1.code=0)
def jT(l:List (cN × AV)):List (aw × AV):=(l.filter isDone).map λp=>(p.1.op,p.2)
@[simp] theorem kg(l:List (aw × AV)):(bf l).length=l.length:=by simp[bf]
section
variable{l:List (cN × AV)}{x1:AV}(b:Sl 24 (bW l) x1)(d:l.length<100000)(a : ∀p∈l,Sl 1 (rows p.1.op.l) p.2)
include b d a
theorem Tw{Q:AV->aa->Prop} : ∀(s:List (cN × AV)) (k:Nat) (outs:List (aw × AV)) (H:aa) (z:AV),l.drop k=s->k<=l.length->outs.length<=k->Fr H->Own 17 (bf outs) H z->(∀q,z.at?=some q->q.t=32) ->
 (∀H' T,Fr H'->Own 17 (bf (outs++jT s)) H' T->Q T H')->bu env Tryz.f68 0 fD [(4,aI k),(0,x1),(3,z)] H Q:=by
 intro s;induction s with
 | nil=>rintro k outs H z hs hk ho hF i ht hQ;obtain rfl:=drop_nil hs hk;have J:=hQ H z hF (by simpa [jT] using i);have j:=eZ l;refine fA _ _ _ _ _ λg=>?_;clear hQ;simp[ai, *,ek,b.r];all_goals exact J
 | cons p s U=>
  rintro k outs H z hs hk ho hF i ht hQ;obtain⟨h,V,m,C⟩:=drop_cons hs;have e1:=iQa ((k:Int)+1) (by omega);have n:=CC C;have j:=eZ l;have y:=kg outs;have hlt':(k:Int)<l.length:=by omega
  have A:=a p (V ▸ je h);by_cases E:isDone p=true
  ·have f:=λH' T h1 h2 i=>U (k+1) (outs++[(p.1.op,p.2)]) H' T m (by omega) (by simp;omega) h1 h2 i (λB D N W=>hQ B D N (by rw[show jT (p :: s)=(p.1.op,p.2) :: jT s from by simp[jT,E]];simpa using W));rw[show((k+1:Nat):Int)=(k:Int)+1 from by omega,show bf (outs++[(p.1.op,p.2)])=bf outs++[wC (p.1.op,p.2)] from by simp[bf]]at f;clear U hQ hs m V C a;obtain⟨⟨k1,u,⟨a1,⟨a2,a3,Z⟩,a5,⟨⟨⟨Y,a7,I⟩,a9⟩,P⟩,⟨⟨O,R,M⟩,F⟩,⟨S,L⟩,al⟩,c,N,v,w,o⟩,x⟩:=p;simp only[isDone,aT,iQb]at E;obtain⟨rfl,rfl⟩:=E;simp only at A;generalize bW l=er at *;generalize bf outs=eo at *;generalize outs.length=nh at *;simp only[wC]at f;rcases i with ⟨rfl,i⟩ | ⟨t,rfl,i⟩
   ·subst i;simp at y;subst y;refine fA _ _ _ _ _ λg=>?_;simp[ai, *,ek,b.r,b.idx,h,j,n,cN.val,A.r];refine f _ (.bN ⟨0,32,H.gen 0 32,0⟩ 0 1 none) ?_ (.inr ⟨⟨0,32,H.gen 0 32,0⟩,rfl,?_⟩) (λq X=>by cases X;rfl);·simp(maxDischargeDepth:=12) [fN, *]
    simp(maxDischargeDepth:=12) [fN, *]
   have G:=ht t rfl;obtain⟨K,tt,tg,tk⟩:=t;simp only at G;subst G;have f6:ow 17 112 nh true none (some ⟨17,eo,true,false⟩) (some [.agg [a8 a1,a8 a2,af a3,a8 Z,aI a5,a8 Y,af a7,a8 I,aI a9,aI P,a8 O,af R,a8 M,aI F,a8 S,af L,x]]):=(by simp;omega);have l8:(H.get ⟨K,32,tg,tk⟩).isSome=true:=by rw[i];rfl
   refine fA _ _ _ _ _ λg=>?_;simp[ai, *,ek,b.r,b.idx,h,j,n,cN.val,A.r,hF,l8,i,f6,y,aa.get_put];refine f _ (.bN ⟨K,32,H.gen K 32,0⟩ 0 (nh+1) none) ?_ (.inr ⟨⟨K,32,H.gen K 32,0⟩,by simp[y],?_⟩) (λq X=>by cases X;rfl);·simp(maxDischargeDepth:=12) [fN, *]
   simp(maxDischargeDepth:=12) [fN, *]
  have f:=U (k+1) outs H z m (by omega) (by omega) hF i ht (λB D N W=>hQ B D N (by rw[show jT (p :: s)=jT s from by simp[jT,E]];exact W));rw[show((k+1:Nat):Int)=(k:Int)+1 from by omega]at f;clear U hQ hs m V C a;obtain⟨⟨k1,u,⟨a1,⟨a2,a3,Z⟩,a5,⟨⟨⟨Y,a7,I⟩,a9⟩,P⟩,⟨⟨O,R,M⟩,F⟩,⟨S,L⟩,al⟩,c,N,v,w,o⟩,x⟩:=p;simp only[isDone,aT,iQb]at E;generalize bW l=er at *;by_cases k2:k1=2;·subst k2;have hc : ¬c=0:=λe=>E ⟨rfl,e⟩;refine fA _ _ _ _ _ λg=>?_;simp[ai, *,ek,b.r,b.idx,h,j,n,cN.val,hc]
  refine fA _ _ _ _ _ λg=>?_;simp[ai, *,ek,b.r,b.idx,h,j,n,cN.val,k2]
theorem JX : ∃y,ax env 68 [x1]=some y/\Sl 17 (bf (jT l)) y:=by
 refine vR (fn:=Tryz.f68) (c:=yX) (by kernel_rfl) (by kernel_rfl) (by kernel_rfl) (by kernel_rfl) (by kernel_rfl) ?_;refine yl _ _ _ λg=>?_;simp[ai, *,re];refine Tw b d a l 0 [] [] bI rfl (by omega) (by simp) Fr.nil (.inl ⟨rfl,rfl⟩) (λq i=>by cases i) (λH' j e h=>?_);rw[sZ]at h;have f:=kg (jT l);generalize bf (jT l)=ee at *;rcases h with ⟨rfl,h⟩ | ⟨r,rfl,h⟩
 ·simp[h]
 simp[h]
end
@[local simp] theorem C6(g:cF)(k:Nat)(n:Int):ah g k (aR n)=[]:=by cases k<;>rfl
structure Jb where
 i:bM
 a:bM
 r:Int
def Jb.enc(e:Jb):AV := .agg [a8 e.i.h.lv,af e.i.h.cats,a8 e.i.h.num,aI e.i.n,a8 e.a.h.lv,af e.a.h.cats,a8 e.a.h.num,aI e.a.n,aR e.r]
def mV(l:List Jb):List AV:=l.map Jb.enc
@[simp] theorem q9(l:List Jb):(mV l).length=l.length:=by simp[mV]
def CJ(i:bM):List Jb->Nat->Int
 | [],_ => -1
 | e :: l,k=>if e.i=i then (k:Int) else CJ i l (k+1)
theorem Iw(i:bM) : ∀(l:List Jb)(k:Nat),(0<=CJ i l k↔i∈l.map (·.i))
 | [],k=>by simp[CJ]
 | e :: l,k=>by
  rw[CJ];by_cases h:e.i=i;·rw[if_pos h];simp[h]
  rw[if_neg h,Iw i l (k+1)];have : ¬i=e.i:=λe=>h e.symm;simp[this]
section
variable{D:List Jb}{x:AV}(u:Sl 9 (mV D) x)(E:D.length<1000000)
include u E
theorem O7(a:UInt8)(o:UInt32)(j:UInt8)(f:Int){r3:Ref}{H:aa}(h3:H.get r3=some ⟨4,[.agg [a8 a,af o,a8 j,aI f]],false,false⟩){Q:AV->aa->Prop} : ∀(s:List Jb)(k:Nat),D.drop k=s->k<=D.length->(∀y,y=aI (CJ (⟨⟨a,o,j⟩,f⟩:bM) s k)->Q y H) ->
 bu env Tryz.f199 0 iu [(5,aI k),(3,.ptr r3 0 0),(0,x)] H Q:=by
 intro s;induction s with
 | nil=>rintro k hs hk hQ;obtain rfl:=drop_nil hs hk;have L:=q9 D;have J:=hQ _ rfl;simp only[CJ]at J;refine oG _ _ _ _ _ λg=>?_;clear hQ;simp[ai, *,ld,u.r]
 | cons e s N=>
  rintro k hs hk hQ;obtain⟨M,V,G,I⟩:=drop_cons hs;have U:=iQa ((k:Int)+1) (by omega);have L:=q9 D;have O:(k:Int)<D.length:=by omega
  have K:bL (mV D) k 0 4 true=some (.agg [a8 e.i.h.lv,af e.i.h.cats,a8 e.i.h.num,aI e.i.n]):=(by simp[bL,mV,I,Jb.enc]);have q:=λ(h:e.i=(⟨⟨a,o,j⟩,f⟩:bM))=>hQ (aI k) (by rw[CJ,if_pos h]);have t:=λ(h : ¬e.i=(⟨⟨a,o,j⟩,f⟩:bM))=>N (k+1) G (by omega) (λy S=>hQ y (by rw[CJ,if_neg h];exact S));rw[show((k+1:Nat):Int)=(k:Int)+1 from by omega]at t;clear N hQ hs G V I;obtain⟨⟨⟨X,W,T⟩,R⟩,Y,Z⟩:=e;simp only[bM.mk.injEq,xn.mk.injEq]at q t K;generalize mV D=el at *;refine oG _ _ _ _ _ λg=>?_;simp[ai, *,ld,u.r,u.idx,M,L,K,ia,cg];refine ji (λh=>?_) (λh=>?_);·exact q (by simpa [iQt] using h)
  simp[U];exact t (by
   intro P;have : ¬(X=a/\W=o/\T=j/\R=f):=by simpa [iQt] using h
   exact this (by simpa [iQt] using P))
theorem HJ(a:UInt8)(f:UInt32)(i:UInt8)(h:Int):ax env 199 [x,.agg [a8 a,af f,a8 i,aI h]]=some (aI (CJ (⟨⟨a,f,i⟩,h⟩:bM) D 0)):=by
 refine ay rfl (by kernel_rfl) (xB _ _ _ _ λg=>?_);simp[ai, *,qi,u.r];refine O7 u E a f i h (r3:=⟨0,3,0,0⟩) ?_ D 0 rfl (by omega) (λy e=>?_);·simp
 subst e;simp
theorem JY(a:UInt8)(f:UInt32)(j:UInt8)(k:Int)(t:UInt8)(q:UInt32):ax env 197 [x,.agg [a8 a,af f,a8 j,aI k],.agg [a8 t,af q]]=some (aB (decide ((⟨⟨a,f,j⟩,k⟩:bM)∈D.map (·.i))&&rG ⟨a,f⟩ ⟨t,q⟩)):=by
 have G:=HJ u E a f j k;have y:=K5 a f t q;have o:=Iw (⟨⟨a,f,j⟩,k⟩:bM) D 0;refine ay rfl (by kernel_rfl) (ym _ _ _ _ _ λg=>?_);generalize CJ (⟨⟨a,f,j⟩,k⟩:bM) D 0=n at *;by_cases h:0<=n;·have F:=o.1 h;clear o;simp[ai, *,m5,u.r,G,y,h,F]
 have F:=λe=>h (o.2 e);rw[iQk F,yc];clear o F;simp[ai, *,m5,u.r,G,y,h]
end
def iA(s:wm)(a:bM):List Int->Nat->List Jb
 | [],_=>[]
 | r :: l,k=>⟨⟨s.f.h,IntKind.i64.wrap (s.f.n+(k:Int))⟩,if k=0 then a else ⟨s.f.h,IntKind.i64.wrap (s.f.n+((k:Int) - 1))⟩,r⟩ :: iA s a l (k+1)
theorem DY(s:wm)(a:bM) : ∀(l:List Int)(k:Nat),(iA s a l k).length=l.length
 | [],k=>rfl
 | r :: l,k=>by simp[iA,DY s a l (k+1)]
section
variable(m:UInt8)(b:UInt32)(a_3:UInt8)(d:Int)(A:Int)(B:UInt8)(z:UInt32)(v:UInt8)(w:Int){x:AV}{l:List Int}{c:Option Nat}(u:Sl 1 (rows l) x)(F:(l.length:Int)=A)(E:l.length<1000000)
include u F E
theorem Qz{Q:AV->aa->Prop} : ∀(s:List Int)(k:Nat)(a:List Jb)(H:aa)(y:AV),l.drop k=s->k<=l.length->a.length=k->Fr H->Own 9 (mV a) H y->(∀q,y.at?=some q->q.t=45) ->
 (∀H' S,Fr H'->Own 9 (mV (a++iA ⟨⟨⟨m,b,a_3⟩,d⟩,A⟩ ⟨⟨B,z,v⟩,w⟩ s k)) H' S->Q S H') ->
 bu env Tryz.f221 0 jF [(5,aI k),(4,aI 0),(0,.cC 10 [.agg [a8 m,af b,a8 a_3,aI d,aI A,a8 B,af z,a8 v,aI w,x]] c),(3,y)] H Q:=by
 intro s;induction s with
 | nil=>rintro k a H y hs hk ho hF f ht hQ;obtain rfl:=drop_nil hs hk;have L:=hQ H y hF (by simpa [iA] using f);refine pK _ _ _ _ _ _ λg=>?_;clear hQ;simp[ai, *,jM,u.r,F];refine pL _ _ _ _ _ λg=>?_;simp[ai, *,mj];all_goals exact L
 | cons n s X=>
  rintro k a H y hs hk ho hF f ht hQ;obtain⟨hlt,hg,I,K⟩:=drop_cons hs;have e1:=iQa ((k:Int)+1) (by omega);have o:(k:Int)<A:=by omega
  have hI:=QX m b a_3 d A B z v w (k:Int) u;have hB:=MA m b a_3 d A B z v w (k:Int) u (by omega) (by omega);have N:bL (rows l) k 0 1 false=some (aR n):=by simp[bL,rows,K,aR,AV.cells]
  have j:=λH' S h1 h2 f=>X (k+1) (a++[⟨⟨⟨m,b,a_3⟩,IntKind.i64.wrap (d+(k:Int))⟩,if k=0 then ⟨⟨B,z,v⟩,w⟩ else ⟨⟨m,b,a_3⟩,IntKind.i64.wrap (d+((k:Int) - 1))⟩,n⟩]) H' S I (by omega) (by simp[ho]) h1 h2 f
   (λW U g1 g2=>hQ W U g1 (by simpa [iA] using g2))
  have i:=q9 a;rw[ho]at i;rw[show((k+1:Nat):Int)=(k:Int)+1 from by omega]at j;have O : ∀e:Jb,mV (a++[e])=mV a++[e.enc]:=λe=>by simp[mV]
  simp only[O,Jb.enc]at j;have P:(rows l).length=l.length:=by simp
  have hlk:(k:Int)<l.length:=(by omega);generalize R:(if k=0 then (⟨⟨B,z,v⟩,w⟩:bM) else ⟨⟨m,b,a_3⟩,IntKind.i64.wrap (d+((k:Int) - 1))⟩)=bq at *;have J:ax env 237 [.agg [a8 m,af b,a8 a_3,aI d,aI A,a8 B,af z,a8 v,aI w,x],aI k]=some (.agg [a8 bq.h.lv,af bq.h.cats,a8 bq.h.num,aI bq.n]):=by
   rw[hB,<-R];by_cases Y:k=0;·subst Y;simp
   have T : ¬(k:Int)=0:=(by omega);rw[if_neg Y,if_neg T]
  clear X hQ hs I hg K ho O hB R;generalize mV a=eo at *;generalize rows l=rl at *;have Z:(k:Int)<l.length:=by omega
  have hk0:(0:Int)<=k:=(by omega);refine pK _ _ _ _ _ _ λg=>?_;rcases f with ⟨rfl,f⟩ | ⟨t,rfl,f⟩
  ·subst f;clear i;simp[ai, *,jM,u.r,u.idx,hI,J,N,o,P];refine j _ (.bN ⟨0,45,H.gen 0 45,0⟩ 0 1 none) ?_ (.inr ⟨⟨0,45,H.gen 0 45,0⟩,rfl,?_⟩) (λq V=>by cases V;rfl);·simp(maxDischargeDepth:=12) [fN, *]
   simp(maxDischargeDepth:=12) [fN, *]
  have G:=ht t rfl;obtain⟨M,tt,tg,tk⟩:=t;simp only at G;subst G;have f6:ow 9 56 k true none (some ⟨9,eo,true,false⟩) (some [.agg [a8 m,af b,a8 a_3,aI (IntKind.i64.wrap (d+(k:Int))),a8 bq.h.lv,af bq.h.cats,a8 bq.h.num,aI bq.n,aR n]]):=(by simp;omega);have l8:(H.get ⟨M,45,tg,tk⟩).isSome=true:=by rw[f];rfl
  simp[ai, *,jM,u.r,u.idx,hI,J,N,o,P,hF,l8,f,f6,i,aa.get_put];refine j _ (.bN ⟨M,45,H.gen M 45,0⟩ 0 (k+1) none) ?_ (.inr ⟨⟨M,45,H.gen M 45,0⟩,by simp[i],?_⟩) (λq V=>by cases V;rfl);·simp(maxDischargeDepth:=12) [fN, *]
  simp(maxDischargeDepth:=12) [fN, *]
theorem U9 : ∃y,ax env 221 [.cC 10 [.agg [a8 m,af b,a8 a_3,aI d,aI A,a8 B,af z,a8 v,aI w,x]] c]=some y/\Sl 9 (mV (iA ⟨⟨⟨m,b,a_3⟩,d⟩,A⟩ ⟨⟨B,z,v⟩,w⟩ l 0)) y:=by
 refine vR (fn:=Tryz.f221) (c:=zV) (by kernel_rfl) (by kernel_rfl) (by kernel_rfl) (by kernel_rfl) (by kernel_rfl) ?_;refine zk _ _ _ λg=>?_;simp[ai, *,sK];refine pL _ _ _ _ _ λg=>?_;simp[ai, *,mj];refine Qz m b a_3 d A B z v w u F E l 0 [] [] bI rfl (by omega) (by simp) Fr.nil (.inl ⟨rfl,rfl⟩) (λq f=>by cases f) (λH' i a h=>?_);rw[sZ]at h;have e:=q9 (iA ⟨⟨⟨m,b,a_3⟩,d⟩,A⟩ ⟨⟨B,z,v⟩,w⟩ l 0);generalize mV (iA ⟨⟨⟨m,b,a_3⟩,d⟩,A⟩ ⟨⟨B,z,v⟩,w⟩ l 0)=ee at *;rcases h with ⟨rfl,h⟩ | ⟨r,rfl,h⟩
 ·simp[h]
 simp[h]
end
theorem abq{l:List (aw × AV)}{k:Nat}{p:aw × AV}(h:l[k]?=some p)(j n:Nat)(a:Bool):bL (bf l) k j n a=bL [wC p] 0 j n a:=by
 simp[bL,bf,h]
def qw(o:aw):List Jb:=if o.kind=1 then iA o.s o.a o.l 0 else []
def eY(l:List (aw × AV)):List Jb:=l.flatMap λp=>qw p.1
structure aaV (p:aw × AV):Prop where
 x:Sl 1 (rows p.1.l) p.2
 n:p.1.kind=1->(p.1.l.length:Int)=p.1.s.many/\p.1.l.length<100/\0<p.1.l.length
section
variable{ops:List (aw × AV)}{x0:AV}(u:Sl 17 (bf ops) x0)(E:ops.length<10000)(C : ∀p∈ops,aaV p)
include u E C
theorem S5{Q:AV->aa->Prop} : ∀(s:List (aw × AV)) (k:Nat) (outs:List Jb) (H:aa) (O:AV),ops.drop k=s->k<=ops.length->outs.length<=100 * k->Fr H->Own 9 (mV outs) H O->(∀q,O.at?=some q->q.t=38) ->
 (∀H' x',Fr H'->Own 9 (mV (outs++eY s)) H' x'->Q x' H') ->
 bu env Tryz.f195 0 fE [(4,aI k),(3,O),(0,x0)] H Q:=by
 intro s;induction s with
 | nil=>rintro k outs H O hs hk ho hF j ht hQ;obtain rfl:=drop_nil hs hk;have K:=kg ops;have hfin:=hQ H O hF (by simpa [eY] using j);refine iW _ _ _ _ _ λg=>?_;clear hQ;simp[ai, *,fI,u.r];all_goals exact hfin
 | cons p s ih=>
  rintro k outs H O hs hk ho hF j ht hQ;obtain⟨hlt,hg,I,V⟩:=drop_cons hs;have e1:=iQa ((k:Int)+1) (by omega);have K:=kg ops;have Y:=q9 outs;have G:(k:Int)<ops.length:=by omega
  have h:=abq V;have P:=C p (hg ▸ je hlt);by_cases hd:p.1.kind=1
  ·obtain⟨hn1,J,hn3⟩:=P.n hd;have f:=λH' x' h1 h2 j=>ih (k+1) (outs++iA p.1.s p.1.a p.1.l 0) H' x' I (by omega) (by rw[mI,DY];omega) h1 h2 j (λU Z g1 g2=>hQ U Z g1 (by rw[show eY (p :: s)=iA p.1.s p.1.a p.1.l 0++eY s from by simp[eY,qw,hd]];simpa using g2));have i:(mV (iA p.1.s p.1.a p.1.l 0)).length=p.1.l.length:=by rw[q9,DY]
   have R:mV (iA p.1.s p.1.a p.1.l 0)≠[]:=λe=>by rw[e]at i;simp at i;omega
   rw[show((k+1:Nat):Int)=(k:Int)+1 from by omega,show mV (outs++iA p.1.s p.1.a p.1.l 0)=mV outs++mV (iA p.1.s p.1.a p.1.l 0) from by simp[mV]]at f;clear ih hQ hs I hg V C;obtain⟨⟨k1,⟨a2,a3,a4⟩,a5,⟨⟨⟨a6,a7,M⟩,a9⟩,W⟩,⟨⟨T,X,S⟩,L⟩,⟨a15,a16⟩,al⟩,x⟩:=p;subst hd;obtain⟨y,hA,hy⟩:=U9 a6 a7 M a9 W T X S L (c:=some 1) P.x hn1 (Nat.lt_trans J (by decide));have o:=P.x;simp only at f i R o h;simp only[wC]at h;generalize mV (iA ⟨⟨⟨a6,a7,M⟩,a9⟩,W⟩ ⟨⟨T,X,S⟩,L⟩ al 0)=en at *;generalize bf ops=er at *;generalize mV outs=eo at *;obtain⟨cy,rfl,hcy⟩:=hy.YY R;have hbn:en.length * 56<=bg:=by simp only[i,bg];simp only at J;omega
   have hbo:(eo.length+en.length) * 56<=bg:=by simp only[i,Y,bg];simp only at J;omega
   rcases j with ⟨rfl,j⟩ | ⟨t,rfl,j⟩
   ·subst j;clear Y hbo;refine iW _ _ _ _ _ λg=>?_;simp[ai, *,fI,u.r,u.idx,G,K,h,o.r,hA, -aO, -aP];refine⟨by simp only at J;omega,f _ (.bN ⟨0,38,H.gen 0 38,0⟩ 0 al.length none) ?_ (.inr ⟨⟨0,38,H.gen 0 38,0⟩,by simp[i],?_⟩) (λq hq=>by cases hq;rfl)⟩;·simp(maxDischargeDepth:=12) [fN, *]
    simp(maxDischargeDepth:=12) [fN, *]
   have e28:=ht t rfl;obtain⟨N,tt,tg,tk⟩:=t;simp only at e28;subst e28;refine iW _ _ _ _ _ λg=>?_;simp[ai, *,fI,u.r,u.idx,G,K,h,o.r,hA, -aO, -aP];have hne5 : ¬(⟨0,5,H.gen 0 5,0⟩:Ref)=⟨N,38,tg,tk⟩:=λe=>by cases e
   have hne36 : ¬(⟨0,36,H.gen 0 36,0⟩:Ref)=⟨N,38,tg,tk⟩:=λe=>by cases e
   refine tL (Oq (fz:=false) (by simp) (by simp) _ _ _ _ (hy.Ja _) (es:=eo) ?_ Y.symm R hbo) ?_;·simp[j]
   have l8:(H.get ⟨N,38,tg,tk⟩).isSome=true:=by rw[j];rfl
   simp[hF,l8,j,aa.get_put,e1];refine f _ (.bN ⟨N,38,H.gen N 38,0⟩ 0 (eo.length+en.length) none) ?_ (.inr ⟨⟨N,38,H.gen N 38,0⟩,by simp,?_⟩) (λq hq=>by cases hq;rfl);·simp(maxDischargeDepth:=12) [fN, *]
   simp(maxDischargeDepth:=12) [fN, *]
  have f:=ih (k+1) outs H O I (by omega) (by omega) hF j ht (λU Z g1 g2=>hQ U Z g1 (by rw[show eY (p :: s)=eY s from by simp[eY,qw,hd]];exact g2));rw[show((k+1:Nat):Int)=(k:Int)+1 from by omega]at f;clear ih hQ hs I hg V C;obtain⟨⟨k1,⟨a2,a3,a4⟩,a5,⟨⟨⟨a6,a7,M⟩,a9⟩,W⟩,⟨⟨T,X,S⟩,L⟩,⟨a15,a16⟩,al⟩,x⟩:=p;simp only at hd;simp only[wC]at h;generalize bf ops=er at *;refine iW _ _ _ _ _ λg=>?_;simp[ai, *,fI,u.r,u.idx,G,K,h,hd]
theorem Ss : ∃y,ax env 195 [x0]=some y/\Sl 9 (mV (eY ops)) y:=by
 refine vR (fn:=Tryz.f195) (c:=yY) (by kernel_rfl) (by kernel_rfl) (by kernel_rfl) (by kernel_rfl) (by kernel_rfl) ?_;refine yn _ _ _ λg=>?_;simp[ai, *,ri];refine S5 u E C ops 0 [] [] bI rfl (by omega) (by simp) Fr.nil (.inl ⟨rfl,rfl⟩) (λq f=>by cases f) (λH' i a h=>?_);rw[sZ]at h;have e:=q9 (eY ops);generalize mV (eY ops)=ee at *;rcases h with ⟨rfl,h⟩ | ⟨r,rfl,h⟩
 ·simp[h]
 simp[h]
end
end
section
attribute [local simp] aJ az au aG aF aX lZ aO aE aH bT bS bg aP an bA gj C6
structure Bx (p:aw × AV):Prop where
 x:Sl 1 (rows p.1.l) p.2
 may:mz p.1=true
 rng:rX p.1.l
theorem DF{o:aw}(h:mz o=true):o.l.length<=64:=by
 have S:=lS h;have e:=gS S;simp only[mz,aT,CH]at h;have a:=h.2.2.2.2;split at a;·simp only[Is,aT,iQb]at a;have:=a.2.2.2.1;omega
 split at a;·simp only[Ob,y4,aT,iQb]at a;rw[a.2.2];simp
 split at a;·simp only[Ld,y4,aT,iQb]at a;rw[a.1.2];simp
 exact absurd a (by decide)
theorem Bx.ins{p:aw × AV}(h:Bx p):aaV p:=by
 refine⟨h.x,λe=>?_⟩;have T:=DF h.may;have f:=gS (lS h.may);have h:=h.may;simp only[mz,aT,CH,e,if_true]at h;have a:=h.2.2.2.2;simp only[Is,aT,iQb]at a;have:=a.2.2.2.1;exact⟨this,by omega,by omega⟩
theorem Bx.ok{p:aw × AV}(h:Bx p):ET p:=⟨h.x,by have:=DF h.may;omega⟩
theorem VW{l:List (aw × AV)}(h : ∀p∈l,Bx p):(eY l).length<=64 * l.length:=by
 induction l with| nil=>simp[eY]| cons p l e=>
  have f:=e λq a=>h q (fO _ a);have hp:=DF (h p gy).may;have:(qw p.1).length<=64:=by
   unfold qw;split;·rw[DY];exact hp
   simp
  rw[show eY (p :: l)=qw p.1++eY l from by simp[eY],mI,qO];omega
def ug(u:List Jb)(o:aw)(i:bM):Bool:=decide (i∈u.map (·.i))&&rG ⟨i.h.lv,i.h.cats⟩ ⟨o.h.lv,o.h.cats⟩
def DX(ops:List (aw × AV))(o:aw):Int:=
 if (o.kind=2 /\¬(o.s.f.h.lv=o.h.lv/\o.s.f.h.cats=o.h.cats))\/(o.kind=3/\la (opsOf ops) o=false) then 2 else if 2048<=ops.length then 4 else 0
def P7(ops:List (aw × AV))(u:List Jb)(o:aw)(v:List bM):Int:=
 if v.any (λi=>decide (i∈u.map (·.i)))=true then 2 else if 8192<(u.length:Int)+v.length then 4 else DX ops o
def Ng(ops:List (aw × AV))(u:List Jb)(o:aw)(v:List bM):Int:=
 if v.any (λi => !ug u o i)=true then 6 else DX ops o
def JD(ops:List (aw × AV))(u:List Jb)(o:aw)(v:List bM):Int:=
 if o.kind=1 then (if o.a≠rP/\ug u o o.a=false then 6 else if yE ⟨o.s,o.a,o.l⟩=false then 2 else P7 ops u o v) else Ng ops u o v
section
variable{ops:List (aw × AV)}{x0:AV}(N:Sl 17 (bf ops) x0)(T:ops.length<10000)(K : ∀p∈ops,Bx p)
variable{u:List Jb}{V:AV}(M:Sl 9 (mV u) V)(P:u.length<1000000)
variable{v:List bM}{U:AV}(L:Sl 4 (mB v) U)(R:v.length<100000)
variable(F:UInt8)(E:UInt8)(a_3:UInt32)(I:UInt8)(J:Int)(B:UInt8)(A:UInt32)(C:UInt8)(D:Int)(b:Int)(c:UInt8)(d:UInt32)(j:UInt8)(t:Int)(w:UInt8)(z:UInt32){O:List Int}{x:AV}(G:Sl 1 (rows O) x)(S:eN ⟨⟨⟨B,A,C⟩,D⟩,b⟩=true)
include N T K M P L R G S
theorem Rz{r3:Ref}{H:aa}(h3:H.get r3=some ⟨17,[.agg [a8 F,a8 E,af a_3,a8 I,aI J,a8 B,af A,a8 C,aI D,aI b,a8 c,af d,a8 j,aI t,a8 w,af z,x]],false,false⟩){Q:AV->aa->Prop}(k:Nat)(hk:F=1\/k=v.length)(hk':k<=v.length)
 (hQ : ∀y,y=aI (DX ops (⟨F,⟨E,a_3,I⟩,J,⟨⟨⟨B,A,C⟩,D⟩,b⟩,⟨⟨c,d,j⟩,t⟩,⟨w,z⟩,O⟩:aw))->Q y H) :
 bu env Tryz.f142 0 dx [(8,aI k),(3,.ptr r3 0 0),(6,U),(5,V),(0,x0)] H Q:=by
 have hR:=Sj N (λp hp=>(K p hp).ok) (λp hp=>lS (K p hp).may) (by omega) F E a_3 I J B A C D b c d j t w z G S;have hgo : ∀e:DX ops (⟨F,⟨E,a_3,I⟩,J,⟨⟨⟨B,A,C⟩,D⟩,b⟩,⟨⟨c,d,j⟩,t⟩,⟨w,z⟩,O⟩:aw)=DX ops (⟨F,⟨E,a_3,I⟩,J,⟨⟨⟨B,A,C⟩,D⟩,b⟩,⟨⟨c,d,j⟩,t⟩,⟨w,z⟩,O⟩:aw),True:=λ_=>trivial;clear hgo;have m:=kg ops;have l:=yS v;have f : ∀n,n=DX ops (⟨F,⟨E,a_3,I⟩,J,⟨⟨⟨B,A,C⟩,D⟩,b⟩,⟨⟨c,d,j⟩,t⟩,⟨w,z⟩,O⟩:aw)->Q (aI n) H:=λn e=>hQ _ (by rw[e]);clear hQ K;have q:((k:Int)<v.length)->F=1:=λh=>hk.resolve_right (by omega);unfold DX at f;simp only at f;generalize la (opsOf ops) (⟨F,⟨E,a_3,I⟩,J,⟨⟨⟨B,A,C⟩,D⟩,b⟩,⟨⟨c,d,j⟩,t⟩,⟨w,z⟩,O⟩:aw)=fb at *;have hkt:((k:Int)<v.length) \/¬((k:Int)<v.length):=Classical.em _;refine n7 _ _ _ _ _ _ _ λg=>?_;by_cases k1:F=1
 ·subst k1;simp only[show ¬((1:UInt8)=2) from by decide,show ¬((1:UInt8)=3) from by decide,iQu,or_self,iQf]at f;clear q hk;rcases hkt with Y | Y
  ·by_cases Z:2048<=ops.length;·have i:(2048:Int)<=ops.length:=(by omega);have a:=f 4 (by rw[if_pos Z]);clear f;simp[ai, *,aD,h3,N.r,L.r,M.r,G.r,hR,m,l,Y,i];all_goals exact a
   have i : ¬(2048:Int)<=ops.length:=(by omega);have a:=f 0 (by rw[if_neg Z]);clear f;simp[ai, *,aD,h3,N.r,L.r,M.r,G.r,hR,m,l,Y,i];all_goals exact a
  by_cases Z:2048<=ops.length;·have i:(2048:Int)<=ops.length:=(by omega);have a:=f 4 (by rw[if_pos Z]);clear f;simp[ai, *,aD,h3,N.r,L.r,M.r,G.r,hR,m,l,Y,i];all_goals exact a
  have i : ¬(2048:Int)<=ops.length:=(by omega);have a:=f 0 (by rw[if_neg Z]);clear f;simp[ai, *,aD,h3,N.r,L.r,M.r,G.r,hR,m,l,Y,i];all_goals exact a
 have Y : ¬((k:Int)<v.length):=λh=>k1 (q h);clear hkt q hk;by_cases k2:F=2
 ·subst k2;simp only[show ¬((2:UInt8)=3) from by decide,iQu,iQE,iQo]at f;by_cases o:B=E
  ·by_cases hct:A=a_3
   ·by_cases Z:2048<=ops.length;·have i:(2048:Int)<=ops.length:=(by omega);have a:=f 4 (by rw[if_neg (λh=>h ⟨o,hct⟩),if_pos Z]);clear f;simp[ai, *,aD,h3,N.r,L.r,M.r,G.r,hR,m,l,Y,i,o,hct,ia,cg];all_goals exact a
    have i : ¬(2048:Int)<=ops.length:=(by omega);have a:=f 0 (by rw[if_neg (λh=>h ⟨o,hct⟩),if_neg Z]);clear f;simp[ai, *,aD,h3,N.r,L.r,M.r,G.r,hR,m,l,Y,i,o,hct,ia,cg];all_goals exact a
   have a:=f 2 (by rw[if_pos (λh=>hct h.2)]);clear f;simp[ai, *,aD,h3,N.r,L.r,M.r,G.r,hR,m,l,Y,o,hct,ia,cg];all_goals exact a
  have a:=f 2 (by rw[if_pos (λh=>o h.1)]);clear f;simp[ai, *,aD,h3,N.r,L.r,M.r,G.r,hR,m,l,Y,o,ia,cg];all_goals exact a
 by_cases k3:F=3
 ·subst k3;simp only[show ¬((3:UInt8)=2) from by decide,iQu,false_or,iQo]at f;cases fb with
  | false=>have a:=f 2 (by simp);clear f;simp[ai, *,aD,h3,N.r,L.r,M.r,G.r,hR,m,l,Y];all_goals exact a
  | true=>
   by_cases Z:2048<=ops.length;·have i:(2048:Int)<=ops.length:=(by omega);have a:=f 4 (by simp[Z]);clear f;simp[ai, *,aD,h3,N.r,L.r,M.r,G.r,hR,m,l,Y,i];all_goals exact a
   have i : ¬(2048:Int)<=ops.length:=(by omega);have a:=f 0 (by simp[Z]);clear f;simp[ai, *,aD,h3,N.r,L.r,M.r,G.r,hR,m,l,Y,i];all_goals exact a
 simp only[k2,k3,iQu,or_self,iQf]at f;by_cases Z:2048<=ops.length;·have i:(2048:Int)<=ops.length:=(by omega);have a:=f 4 (by rw[if_pos Z]);clear f;simp[ai, *,aD,h3,N.r,L.r,M.r,G.r,hR,m,l,Y,i,k1,k2,k3];all_goals exact a
 have i : ¬(2048:Int)<=ops.length:=(by omega);have a:=f 0 (by rw[if_neg Z]);clear f;simp[ai, *,aD,h3,N.r,L.r,M.r,G.r,hR,m,l,Y,i,k1,k2,k3];all_goals exact a
theorem acv{r3:Ref}{H:aa}(h3:H.get r3=some ⟨17,[.agg [a8 F,a8 E,af a_3,a8 I,aI J,a8 B,af A,a8 C,aI D,aI b,a8 c,af d,a8 j,aI t,a8 w,af z,x]],false,false⟩)(k1 : ¬F=1){Q:AV->aa->Prop} : ∀(s:List bM)(k:Nat),v.drop k=s->k<=v.length ->
 (∀y,y=aI (Ng ops u (⟨F,⟨E,a_3,I⟩,J,⟨⟨⟨B,A,C⟩,D⟩,b⟩,⟨⟨c,d,j⟩,t⟩,⟨w,z⟩,O⟩:aw) s)->Q y H) ->
 bu env Tryz.f142 0 dx [(8,aI k),(3,.ptr r3 0 0),(6,U),(5,V),(0,x0)] H Q:=by
 intro s;induction s with
 | nil=>
  rintro k hs' hk hQ;have hk':k=v.length:=by have:=iQg List.length hs';simp at this;omega
  exact Rz N T K M P L R F E a_3 I J B A C D b c d j t w z G S h3 k (.inr hk') hk (λy e=>hQ y (by rw[e];simp[Ng]))
 | cons i s ih=>
  rintro k hs' hk hQ;obtain⟨hlt,hg,l,Z⟩:=drop_cons hs';have e1:=iQa ((k:Int)+1) (by omega);have Y:=JY M P i.h.lv i.h.cats i.h.num i.n E a_3;have hRl:=kg ops;have h6l:=yS v;have m:(k:Int)<v.length:=by omega
  have hrd:bL (mB v) k 0 4 true=some (.agg [a8 i.h.lv,af i.h.cats,a8 i.h.num,aI i.n]):=(by simp[bL,mB,WV,Z]);have hss:(decide ((⟨⟨i.h.lv,i.h.cats,i.h.num⟩,i.n⟩:bM)∈u.map (·.i))&&rG ⟨i.h.lv,i.h.cats⟩ ⟨E,a_3⟩)=ug u (⟨F,⟨E,a_3,I⟩,J,⟨⟨⟨B,A,C⟩,D⟩,b⟩,⟨⟨c,d,j⟩,t⟩,⟨w,z⟩,O⟩:aw) i:=rfl;rw[hss]at Y;have q:=ih (k+1) l (by omega);rw[show((k+1:Nat):Int)=(k:Int)+1 from by omega]at q;have f:=λ(h:ug u (⟨F,⟨E,a_3,I⟩,J,⟨⟨⟨B,A,C⟩,D⟩,b⟩,⟨⟨c,d,j⟩,t⟩,⟨w,z⟩,O⟩:aw) i=true)=>q (λy e=>hQ y (by rw[e];simp[Ng,h]));have o:=λ(h:ug u (⟨F,⟨E,a_3,I⟩,J,⟨⟨⟨B,A,C⟩,D⟩,b⟩,⟨⟨c,d,j⟩,t⟩,⟨w,z⟩,O⟩:aw) i=false)=>hQ (aI 6) (by simp[Ng,h]);clear ih q hQ hss hs' l hg Z K;generalize ug u (⟨F,⟨E,a_3,I⟩,J,⟨⟨⟨B,A,C⟩,D⟩,b⟩,⟨⟨c,d,j⟩,t⟩,⟨w,z⟩,O⟩:aw) i=sb at *;generalize mB v=ej at *;refine n7 _ _ _ _ _ _ _ λg=>?_;cases sb with
  | true=>have a:=f rfl;clear f o;simp[ai, *,aD,h3,N.r,L.r,L.idx,M.r,G.r,Y,h6l,m,hrd,k1];all_goals exact a
  | false=>have a:=o rfl;clear f o;simp[ai, *,aD,h3,N.r,L.r,L.idx,M.r,G.r,Y,h6l,m,hrd,k1];all_goals exact a
theorem agO{r3:Ref}{H:aa}(h3:H.get r3=some ⟨17,[.agg [a8 F,a8 E,af a_3,a8 I,aI J,a8 B,af A,a8 C,aI D,aI b,a8 c,af d,a8 j,aI t,a8 w,af z,x]],false,false⟩)(k1:F=1){Q:AV->aa->Prop} : ∀(s:List bM)(k:Nat),v.drop k=s->k<=v.length ->
 (∀y,y=aI (if s.any (λi=>decide (i∈u.map (·.i)))=true then 2 else if 8192<(u.length:Int)+v.length then 4 else DX ops (⟨F,⟨E,a_3,I⟩,J,⟨⟨⟨B,A,C⟩,D⟩,b⟩,⟨⟨c,d,j⟩,t⟩,⟨w,z⟩,O⟩:aw))->Q y H) ->
 bu env Tryz.f142 0 iq [(7,aI k),(6,U),(5,V),(3,.ptr r3 0 0),(0,x0)] H Q:=by
 intro s;induction s with
 | nil=>
  rintro k hs' hk hQ;have hk':k=v.length:=by have:=iQg List.length hs';simp at this;omega
  have f:=λhq=>Rz N T K M P L R F E a_3 I J B A C D b c d j t w z G S h3 0 (.inl k1) (En _) (Q:=Q) hq;have hRl:=kg ops;have o:=yS v;have h5l:=q9 u;have e1:=iQa ((u.length:Int)+(v.length:Int)) (by omega);have hb:((8192:Int)<(u.length:Int)+v.length) \/¬((8192:Int)<(u.length:Int)+v.length):=Classical.em _;have q : ¬((k:Int)<v.length):=by omega
  simp only[List.any_nil,mJ,iQf]at hQ;clear K hk';refine oE _ _ _ _ _ _ _ λg=>?_;rcases hb with hb | hb
  ·have a:=hQ (aI 4) (by rw[if_pos hb]);clear hQ f;simp[ai, *,fj,h3,N.r,L.r,M.r,o,h5l,q,e1,hb];all_goals exact a
  have a:=f (λy e=>hQ y (by rw[if_neg hb];exact e));clear hQ f;simp[ai, *,fj,h3,N.r,L.r,M.r,o,h5l,q,e1,hb];all_goals exact a
 | cons i s ih=>
  rintro k hs' hk hQ;obtain⟨hlt,hg,Y,hg'⟩:=drop_cons hs';have e1:=iQa ((k:Int)+1) (by omega);have hW:=HJ M P i.h.lv i.h.cats i.h.num i.n;have hi:=Iw i u 0;have hRl:=kg ops;have o:=yS v;have Z:(k:Int)<v.length:=by omega
  have hrd:bL (mB v) k 0 4 true=some (.agg [a8 i.h.lv,af i.h.cats,a8 i.h.num,aI i.n]):=(by simp[bL,mB,WV,hg']);have hss:CJ (⟨⟨i.h.lv,i.h.cats,i.h.num⟩,i.n⟩:bM) u 0=CJ i u 0:=rfl;rw[hss]at hW;have hnx:=ih (k+1) Y (by omega);rw[show((k+1:Nat):Int)=(k:Int)+1 from by omega]at hnx;have l:=λ(h:0<=CJ i u 0)=>hQ (aI 2) (by rw[GJ,iQj (hi.1 h)];simp);have hno:=λ(h : ¬0<=CJ i u 0)=>hnx (λy e=>hQ y (by rw[e,GJ,iQk (λm=>h (hi.2 m)),Er]));clear ih hnx hQ hss hs' Y hg hg' K hi;generalize CJ i u 0=n at *;generalize mB v=ej at *;refine oE _ _ _ _ _ _ _ λg=>?_;by_cases hn:0<=n;·have a:=l hn;clear l hno;simp[ai, *,fj,h3,N.r,L.r,L.idx,M.r,G.r,hW,o,Z,hrd,hn];all_goals exact a
  have a:=hno hn;clear l hno;simp[ai, *,fj,h3,N.r,L.r,L.idx,M.r,G.r,hW,o,Z,hrd,hn];all_goals exact a
end
section
variable{ops:List (aw × AV)}{x0:AV}(N:Sl 17 (bf ops) x0)(T:ops.length<10000)(K : ∀p∈ops,Bx p)
variable(F:UInt8)(E:UInt8)(a_3:UInt32)(I:UInt8)(J:Int)(B:UInt8)(A:UInt32)(C:UInt8)(D:Int)(b:Int)(c:UInt8)(d:UInt32)(j:UInt8)(t:Int)(w:UInt8)(z:UInt32){O:List Int}{x:AV}(G:Sl 1 (rows O) x)(S:eN ⟨⟨⟨B,A,C⟩,D⟩,b⟩=true)(W:rX O)(X:O.length<100000)
include N T K G S W X
theorem Pt:ax env 142 [x0,.agg [a8 F,a8 E,af a_3,a8 I,aI J,a8 B,af A,a8 C,aI D,aI b,a8 c,af d,a8 j,aI t,a8 w,af z,x]]=some (aI (JD ops (eY ops) (⟨F,⟨E,a_3,I⟩,J,⟨⟨⟨B,A,C⟩,D⟩,b⟩,⟨⟨c,d,j⟩,t⟩,⟨w,z⟩,O⟩:aw) (ff ⟨⟨⟨B,A,C⟩,D⟩,b⟩ b.toNat 0))):=by
 obtain⟨V,o,M⟩:=Ss N T (λp hp=>(K p hp).ins);have P:(eY ops).length<1000000:=by have:=VW K;omega
 have q:=U2 B A C D b S;have L:=gT 4 (mB (ff ⟨⟨⟨B,A,C⟩,D⟩,b⟩ b.toNat 0));have hn:=gS S;simp only at hn;have hlen:=FL ⟨⟨⟨B,A,C⟩,D⟩,b⟩ b.toNat 0;have R:(ff ⟨⟨⟨B,A,C⟩,D⟩,b⟩ b.toNat 0).length<100000:=by omega
 have Y:=Va B A C D b c d j t G (by omega) W;have m:=JY M P c d j t E a_3;have Z:(decide ((⟨⟨c,d,j⟩,t⟩:bM)∈(eY ops).map (·.i))&&rG ⟨c,d⟩ ⟨E,a_3⟩)=ug (eY ops) (⟨F,⟨E,a_3,I⟩,J,⟨⟨⟨B,A,C⟩,D⟩,b⟩,⟨⟨c,d,j⟩,t⟩,⟨w,z⟩,O⟩:aw) ⟨⟨c,d,j⟩,t⟩:=rfl;rw[Z]at m;clear Z hlen hn;generalize ff ⟨⟨⟨B,A,C⟩,D⟩,b⟩ b.toNat 0=v at *;generalize ep 4 (mB v)=U at *;have k:=λ(r3:Ref)(H:aa) hB k1 Q=>agO N T K M P L R F E a_3 I J B A C D b c d j t w z G S (r3:=r3) (H:=H) hB k1 (Q:=Q) v 0 rfl (by omega);have f:=λ(r3:Ref)(H:aa) hB k1 Q=>acv N T K M P L R F E a_3 I J B A C D b c d j t w z G S (r3:=r3) (H:=H) hB k1 (Q:=Q) v 0 rfl (by omega);generalize eY ops=u at *;have hrl:yE (⟨⟨⟨⟨B,A,C⟩,D⟩,b⟩,⟨⟨c,d,j⟩,t⟩,O⟩:Rn)=yE (⟨⟨⟨⟨B,A,C⟩,D⟩,b⟩,⟨⟨c,d,j⟩,t⟩,O⟩:Rn):=rfl;clear hrl;generalize hE:JD ops u (⟨F,⟨E,a_3,I⟩,J,⟨⟨⟨B,A,C⟩,D⟩,b⟩,⟨⟨c,d,j⟩,t⟩,⟨w,z⟩,O⟩:aw) v=en;refine ay rfl (by kernel_rfl) (xz _ _ _ _ λg=>?_);clear K;by_cases k1:F=1
 ·subst k1;have l:(⟨⟨c,d,j⟩,t⟩:bM)=rP↔(((c=0/\d=0)/\j=0)/\t=0):=by simp[rP,iQt]
  have a:en=if ¬(⟨⟨c,d,j⟩,t⟩:bM)=rP/\ug u (⟨1,⟨E,a_3,I⟩,J,⟨⟨⟨B,A,C⟩,D⟩,b⟩,⟨⟨c,d,j⟩,t⟩,⟨w,z⟩,O⟩:aw) ⟨⟨c,d,j⟩,t⟩=false then 6 else if yE (⟨⟨⟨⟨B,A,C⟩,D⟩,b⟩,⟨⟨c,d,j⟩,t⟩,O⟩:Rn)=false then 2 else P7 ops u (⟨1,⟨E,a_3,I⟩,J,⟨⟨⟨B,A,C⟩,D⟩,b⟩,⟨⟨c,d,j⟩,t⟩,⟨w,z⟩,O⟩:aw) v:=hE.symm
  clear hE f;replace k:=λ(r3:Ref)(H:aa) hB Q=>k r3 H hB rfl Q;generalize ug u (⟨1,⟨E,a_3,I⟩,J,⟨⟨⟨B,A,C⟩,D⟩,b⟩,⟨⟨c,d,j⟩,t⟩,⟨w,z⟩,O⟩:aw) ⟨⟨c,d,j⟩,t⟩=sb at *;generalize yE (⟨⟨⟨⟨B,A,C⟩,D⟩,b⟩,⟨⟨c,d,j⟩,t⟩,O⟩:Rn)=rb at *;by_cases hz:(((c=0/\d=0)/\j=0)/\t=0)
  ·rw[if_neg (λh=>h.1 (l.2 hz))]at a;clear l;obtain⟨⟨⟨rfl,rfl⟩,rfl⟩,rfl⟩:=hz;cases rb with
   | false=>rw[if_pos rfl]at a;subst a;simp[ai, *,dw,N.r,G.r,o,q,Y,M.r,L.r,ia,cg]
   | true=>rw[if_neg (by decide)]at a;unfold P7 at a;simp[ai, *,dw,N.r,G.r,o,q,Y,M.r,L.r,ia,cg];refine k _ _ (by simp) _ (λy e=>?_);subst e;simp[a]
  have hzz : ¬(⟨⟨c,d,j⟩,t⟩:bM)=rP:=λh=>hz (l.1 h);clear l;have n:(!decide (c=0) || !decide (d=0) || !decide (j=0) || !decide (t=0))=true:=by
   rw[Cy];simp only[fp,dI,iQc];constructor;·intro _;trivial
   intro _;by_cases h1:c=0
   ·by_cases h2:d=0
    ·by_cases h3:j=0;·exact .inr λh4=>hz ⟨⟨⟨h1,h2⟩,h3⟩,h4⟩
     exact .inl (.inr h3)
    exact .inl (.inl (.inr h2))
   exact .inl (.inl (.inl h1))
  cases sb with| false=>rw[if_pos ⟨hzz,rfl⟩]at a;subst a;simp[ai, *,dw,N.r,G.r,o,q,Y,M.r,L.r,m,n,ia,cg]| true=>
   rw[if_neg (λh=>absurd h.2 (by decide))]at a;clear hzz;cases rb with
   | false=>rw[if_pos rfl]at a;subst a;simp[ai, *,dw,N.r,G.r,o,q,Y,M.r,L.r,m,n,ia,cg]
   | true=>rw[if_neg (by decide)]at a;unfold P7 at a;simp[ai, *,dw,N.r,G.r,o,q,Y,M.r,L.r,m,n,ia,cg];refine k _ _ (by simp) _ (λy e=>?_);subst e;simp[a]
 have a:en=Ng ops u (⟨F,⟨E,a_3,I⟩,J,⟨⟨⟨B,A,C⟩,D⟩,b⟩,⟨⟨c,d,j⟩,t⟩,⟨w,z⟩,O⟩:aw) v:=by rw[<-hE];unfold JD;rw[if_neg k1]
 clear hE k;replace f:=λ(r3:Ref)(H:aa) hB Q=>f r3 H hB k1 Q;simp[ai, *,dw,N.r,G.r,o,q,Y,M.r,L.r,k1];refine f _ _ (by simp) _ (λy e=>?_);subst e;simp[a]
end
end
section
attribute [local simp] aJ az au aG aF aX lZ aO aE aH bT bS bg aP an bA gj
def Y7(o:aw):List bM:=ff o.s o.s.many.toNat 0
def JE(l:List (cN × AV))(o:aw):Int:=JD (jT l) (eY (jT l)) o (Y7 o)
def Fy(l:List (cN × AV))(o:aw):Az:=vG ⟨o.h.lv,o.h.cats⟩ ⟨0,0,0⟩ l
def HF(l:List (cN × AV))(o:aw):OA:=mD o.h ⟨false,0,0⟩ l
def E0(qs:List ak)(l:List (cN × AV))(o:aw):Int:=
 if JE l o≠0 then JE l o else if o.kind=1/\(od qs o.h.lv o.h.cats).cells<IntKind.i64.wrap ((Fy l o).cells+o.s.many) then 9 else 0
def Bl(us:List Clear)(qs:List ak)(gr:Int)(l:List (cN × AV))(r:cN):Bool:=
 if r.kind=3 then decide (nG (jC us gr l).1 (jC us gr l).2 r.gu=0)
 else if r.kind=1 then !(HF l r.op).o&&(pD (jC us gr l).1 r.user r.op.h.lv r.op.h.cats&&decide ((Fy l r.op).opens<(od qs r.op.h.lv r.op.h.cats).opens))
 else (HF l r.op).o&&(pD (jC us gr l).1 (HF l r.op).u r.op.h.lv r.op.h.cats&&(decide (r.op.serial=IntKind.i64.wrap ((HF l r.op).s+1))&&(decide ((Fy l r.op).ops<(od qs r.op.h.lv r.op.h.cats).ops)&&decide (r.code=E0 qs l r.op))))
structure BU (p:cN × AV):Prop where
 x:Sl 1 (rows p.1.op.l) p.2
 rng:rX p.1.op.l
 may:eu p.1=true
theorem yH{r:cN}(h:eu r=true)(k:r.kind=2):mz r.op=true:=by
 simp only[eu,k,show ¬((2:UInt8)=1) from by decide,iQf,if_true,aT]at h;exact h.2.1
theorem Tx{l:List (cN × AV)}(h : ∀p∈l,BU p) : ∀p∈jT l,Bx p:=by
 intro p hp;unfold jT at hp;obtain⟨q,b,rfl⟩:=jO.1 hp;obtain⟨b,c⟩:=AR.1 b;simp only[isDone,aT,iQb]at c;exact⟨(h q b).x,yH (h q b).may c.1,(h q b).rng⟩
theorem D1(l:List (cN × AV)):(jT l).length<=l.length:=by
 unfold jT;rw[pI];exact GU _ _
theorem V4(us:List Clear)(gr:Int)(l:List (cN × AV)):(jC us gr l).1.length=us.length:=by
 induction l generalizing us gr with| nil=>rfl| cons p l c=>
  rw[jC];split;·rw[c,Kx]
  exact c _ _
section
variable{l:List (cN × AV)}{x1:AV}(d:Sl 24 (bW l) x1)(m:l.length<10000)(a : ∀p∈l,BU p)
variable{z t:AV}{us:List Clear}{qs:List ak}{gr:Int}(f:Sl 3 (de us) z)(b:Sl 5 (cR qs) t)(i:qs.length<1000)(j:us.length<1000)
include d m a f b i j
theorem FA(B:UInt8)(k:UInt8)(a_3:UInt32)(H:UInt8)(G:Int)(F:UInt8)(E:UInt32)(C:UInt8)(D:Int)(c:Int)(A:UInt8)(u:UInt32)(w:UInt8)(v:Int)(o:UInt8)(q:UInt32){x:AV}{J:List Int}(I:Sl 1 (rows J) x)(Z:eN ⟨⟨⟨F,E,C⟩,D⟩,c⟩=true)(S:rX J)(U:J.length<100000) :
 ax env 74 [.agg [z,t,aI gr],x1,.agg [a8 B,a8 k,af a_3,a8 H,aI G,a8 F,af E,a8 C,aI D,aI c,a8 A,af u,a8 w,aI v,a8 o,af q,x]]=some (aI (E0 qs l (⟨B,⟨k,a_3,H⟩,G,⟨⟨⟨F,E,C⟩,D⟩,c⟩,⟨⟨A,u,w⟩,v⟩,⟨o,q⟩,J⟩:aw))):=by
 obtain⟨y,Q,N⟩:=JX d (by omega) (λp hp=>(a p hp).x);have V:=D1 l;have M:=Pt N (by omega) (Tx a) B k a_3 H G F E C D c A u w v o q I Z S U;have R:=HI d (by omega) k a_3;have P:=U5 (gr:=gr) f b (by omega) k a_3;have X:E0 qs l (⟨B,⟨k,a_3,H⟩,G,⟨⟨⟨F,E,C⟩,D⟩,c⟩,⟨⟨A,u,w⟩,v⟩,⟨o,q⟩,J⟩:aw)=if JE l (⟨B,⟨k,a_3,H⟩,G,⟨⟨⟨F,E,C⟩,D⟩,c⟩,⟨⟨A,u,w⟩,v⟩,⟨o,q⟩,J⟩:aw)≠0 then JE l (⟨B,⟨k,a_3,H⟩,G,⟨⟨⟨F,E,C⟩,D⟩,c⟩,⟨⟨A,u,w⟩,v⟩,⟨o,q⟩,J⟩:aw) else if B=1/\(od qs k a_3).cells<IntKind.i64.wrap ((vG ⟨k,a_3⟩ ⟨0,0,0⟩ l).cells+c) then 9 else 0:=rfl
 have L:JD (jT l) (eY (jT l)) (⟨B,⟨k,a_3,H⟩,G,⟨⟨⟨F,E,C⟩,D⟩,c⟩,⟨⟨A,u,w⟩,v⟩,⟨o,q⟩,J⟩:aw) (ff ⟨⟨⟨F,E,C⟩,D⟩,c⟩ c.toNat 0)=JE l (⟨B,⟨k,a_3,H⟩,G,⟨⟨⟨F,E,C⟩,D⟩,c⟩,⟨⟨A,u,w⟩,v⟩,⟨o,q⟩,J⟩:aw):=rfl;rw[L]at M;rw[X];clear X L a V;generalize JE l (⟨B,⟨k,a_3,H⟩,G,⟨⟨⟨F,E,C⟩,D⟩,c⟩,⟨⟨A,u,w⟩,v⟩,⟨o,q⟩,J⟩:aw)=e at *;generalize vG ⟨k,a_3⟩ ⟨0,0,0⟩ l=ul at *;generalize od qs k a_3=qo at *;obtain⟨u1,u2,Y⟩:=ul;obtain⟨q1,q2,q3,q4,W⟩:=qo;generalize K:(if e≠0 then e else if B=1/\(⟨q1,q2,q3,q4,W⟩:ak).cells<IntKind.i64.wrap ((⟨u1,u2,Y⟩:Az).cells+c) then 9 else 0)=n;simp only at K;refine ay rfl (by kernel_rfl) (wx _ _ _ _ _ λg=>?_);by_cases T:e=0
 ·subst T;rw[if_neg (by simp)]at K;by_cases k1:B=1
  ·subst k1;by_cases O:W<IntKind.i64.wrap (Y+c);·rw[if_pos ⟨rfl,O⟩]at K;subst K;simp[ai, *,fH,d.r,I.r,f.r,b.r,N.r,Q,M,R,P,ak.enc,O]
   rw[if_neg (λh=>O h.2)]at K;subst K;simp[ai, *,fH,d.r,I.r,f.r,b.r,N.r,Q,M,R,P,ak.enc,O]
  rw[if_neg (λh=>k1 h.1)]at K;subst K;simp[ai, *,fH,d.r,I.r,f.r,b.r,N.r,Q,M,R,P,ak.enc,k1]
 rw[if_pos T]at K;subst K;simp[ai, *,fH,d.r,I.r,f.r,b.r,N.r,Q,M,R,P,ak.enc,T]
omit d f b in
theorem Zb : ∀p∈l,p.1.kind=3->0<=p.1.gu:=by
 intro p hp k;have h:=(a p hp).may;simp only[eu,k,show ¬((3:UInt8)=1) from by decide,show ¬((3:UInt8)=2) from by decide,iQf,if_true,aT,xK,iQb]at h;omega
theorem Sr(k:UInt8)(u:Int)(J:UInt8)(e:UInt8)(a_3:UInt32)(q:UInt8)(I:Int)(N:UInt8)(M:UInt32)(K:UInt8)(L:Int)(F:Int)(H:UInt8)(C:UInt32)(G:UInt8)(D:Int)(E:UInt8)(B:UInt32)(c T:Int)(v:UInt8)(w:UInt32)(o:Bool){x:AV}{V:List Int}(A:Sl 1 (rows V) x)(hrg:rX V)(Y:eu ⟨k,u,(⟨J,⟨e,a_3,q⟩,I,⟨⟨⟨N,M,K⟩,L⟩,F⟩,⟨⟨H,C,G⟩,D⟩,⟨E,B⟩,V⟩:aw),c,T,v,w,o⟩=true) :
 ax env 86 [.agg [z,t,aI gr],x1,.agg [a8 k,aI u,a8 J,a8 e,af a_3,a8 q,aI I,a8 N,af M,a8 K,aI L,aI F,a8 H,af C,a8 G,aI D,a8 E,af B,x,aI c,aI T,a8 v,af w,aB o]]=some (aB (Bl us qs gr l ⟨k,u,(⟨J,⟨e,a_3,q⟩,I,⟨⟨⟨N,M,K⟩,L⟩,F⟩,⟨⟨H,C,G⟩,D⟩,⟨E,B⟩,V⟩:aw),c,T,v,w,o⟩)):=by
 obtain⟨xu',xq',h,n,P⟩:=U6 (gr:=gr) d i (by omega) (Zb m a i j) f b j;have hnl:(jC us gr l).1.length<1000:=by rw[V4];exact j
 have S:=HI d (by omega) e a_3;have Q:=Yh d (by omega) e a_3 q;have R:=U5 (gr:=gr) f b (by omega) e a_3;generalize Z:Bl us qs gr l ⟨k,u,(⟨J,⟨e,a_3,q⟩,I,⟨⟨⟨N,M,K⟩,L⟩,F⟩,⟨⟨H,C,G⟩,D⟩,⟨E,B⟩,V⟩:aw),c,T,v,w,o⟩=gb;refine ay rfl (by kernel_rfl) (yj _ _ _ _ _ λg=>?_);by_cases k3:k=3
 ·subst k3;have y:gb=decide (nG (jC us gr l).1 (jC us gr l).2 T=0):=Z.symm;have h0:0<=T:=by
   simp only[eu,show ¬((3:UInt8)=1) from by decide,show ¬((3:UInt8)=2) from by decide,iQf,if_true,aT,xK,iQb]at Y;omega
  clear Z Y a;by_cases hb:nG (jC us gr l).1 (jC us gr l).2 T=0;·have hB:=J1 h n i hnl T v w o h0 hb;rw[iQj hb]at y;subst y;clear hb;have hv:=Ha 5 (cR qs);generalize C7 5 (cR qs)=vo at *;generalize jC us gr l=nf at *;simp[ai, *,aW,d.r,A.r,f.r,b.r,h.r,n.r,hv.r,P,hB]
  have hB:=J0 h n i hnl T v w o hb;rw[iQk hb]at y;subst y;generalize nG (jC us gr l).1 (jC us gr l).2 T=be at *;generalize jC us gr l=nf at *;simp[ai, *,aW,d.r,A.r,f.r,b.r,h.r,n.r,P,hB,hb]
 by_cases k1:k=1
 ·subst k1;have O:=Q0 (gr:=(jC us gr l).2) h n (by omega) (by omega) u e a_3;have y:gb=(!(mD ⟨e,a_3,q⟩ ⟨false,0,0⟩ l).o&&(pD (jC us gr l).1 u e a_3&&decide ((vG ⟨e,a_3⟩ ⟨0,0,0⟩ l).opens<(od qs e a_3).opens))):=Z.symm;clear Z Y a;generalize pD (jC us gr l).1 u e a_3=ob at *;generalize mD ⟨e,a_3,q⟩ ⟨false,0,0⟩ l=sl at *;generalize vG ⟨e,a_3⟩ ⟨0,0,0⟩ l=ul at *;generalize od qs e a_3=qo at *;generalize jC us gr l=nf at *;obtain⟨u1,u2,u3⟩:=ul;obtain⟨q1,q2,q3,q4,q5⟩:=qo;obtain⟨s1,s2,s3⟩:=sl;simp only at y;subst y;cases s1 with
  | true=>simp[ai, *,aW,d.r,A.r,f.r,b.r,h.r,n.r,P,S,Q,R,O,ak.enc]
  | false=>
   cases ob with| false=>simp[ai, *,aW,d.r,A.r,f.r,b.r,h.r,n.r,P,S,Q,R,O,ak.enc]| true=>simp[ai, *,aW,d.r,A.r,f.r,b.r,h.r,n.r,P,S,Q,R,O,ak.enc]
 have k2:k=2:=by
  by_cases k2:k=2;·exact k2
  simp[eu,k1,k2,k3]at Y
 subst k2;have W:=yH Y rfl;have O:=Q0 (gr:=(jC us gr l).2) h n (by omega) (by omega) (mD ⟨e,a_3,q⟩ ⟨false,0,0⟩ l).u e a_3;have hlo:=DF W;have X:=lS W;simp only at hlo X;have U:=FA (gr:=gr) d m a f b i j J e a_3 q I N M K L F H C G D E B A X hrg (by omega);have y:gb=((mD ⟨e,a_3,q⟩ ⟨false,0,0⟩ l).o&&(pD (jC us gr l).1 (mD ⟨e,a_3,q⟩ ⟨false,0,0⟩ l).u e a_3&&(decide (I=IntKind.i64.wrap ((mD ⟨e,a_3,q⟩ ⟨false,0,0⟩ l).s+1))&&(decide ((vG ⟨e,a_3⟩ ⟨0,0,0⟩ l).ops<(od qs e a_3).ops)&&decide (c=E0 qs l (⟨J,⟨e,a_3,q⟩,I,⟨⟨⟨N,M,K⟩,L⟩,F⟩,⟨⟨H,C,G⟩,D⟩,⟨E,B⟩,V⟩:aw)))))):=Z.symm;clear Z Y a W hlo X;generalize E0 qs l (⟨J,⟨e,a_3,q⟩,I,⟨⟨⟨N,M,K⟩,L⟩,F⟩,⟨⟨H,C,G⟩,D⟩,⟨E,B⟩,V⟩:aw)=jr at *;generalize pD (jC us gr l).1 (mD ⟨e,a_3,q⟩ ⟨false,0,0⟩ l).u e a_3=ob at *;generalize mD ⟨e,a_3,q⟩ ⟨false,0,0⟩ l=sl at *;generalize vG ⟨e,a_3⟩ ⟨0,0,0⟩ l=ul at *;generalize od qs e a_3=qo at *;generalize jC us gr l=nf at *;obtain⟨u1,u2,u3⟩:=ul;obtain⟨q1,q2,q3,q4,q5⟩:=qo;obtain⟨s1,s2,s3⟩:=sl;simp only at y O Q;by_cases e1:I=IntKind.i64.wrap (s3+1)
 ·by_cases e2:u2<q4
  ·rw[iQj e1,iQj e2]at y;subst y;subst e1;cases s1 with
   | false=>simp[ai, *,aW,d.r,A.r,f.r,b.r,h.r,n.r,P,S,Q,R,O,U,ak.enc]
   | true=>
    cases ob with| false=>simp[ai, *,aW,d.r,A.r,f.r,b.r,h.r,n.r,P,S,Q,R,O,U,ak.enc]| true=>simp[ai, *,aW,d.r,A.r,f.r,b.r,h.r,n.r,P,S,Q,R,O,U,ak.enc,e2]
  rw[iQj e1,iQk e2]at y;subst y;subst e1;cases s1 with
  | false=>simp[ai, *,aW,d.r,A.r,f.r,b.r,h.r,n.r,P,S,Q,R,O,U,ak.enc]
  | true=>
   cases ob with| false=>simp[ai, *,aW,d.r,A.r,f.r,b.r,h.r,n.r,P,S,Q,R,O,U,ak.enc]| true=>simp[ai, *,aW,d.r,A.r,f.r,b.r,h.r,n.r,P,S,Q,R,O,U,ak.enc,e2]
 rw[iQk e1]at y;subst y;cases s1 with
 | false=>simp[ai, *,aW,d.r,A.r,f.r,b.r,h.r,n.r,P,S,Q,R,O,U,ak.enc]
 | true=>
  cases ob with| false=>simp[ai, *,aW,d.r,A.r,f.r,b.r,h.r,n.r,P,S,Q,R,O,U,ak.enc]| true=>simp[ai, *,aW,d.r,A.r,f.r,b.r,h.r,n.r,P,S,Q,R,O,U,ak.enc,e1]
end
structure Cv (p:cN × AV):Prop where
 x:Sl 1 (rows p.1.op.l) p.2
 rng:rX p.1.op.l
 len:p.1.op.l.length<100000
def Im(us:List Clear)(qs:List ak)(gr:Int):List (cN × AV)->List (cN × AV)->Bool
 | _,[]=>true
 | pre,p :: s=>eu p.1&&(Bl us qs gr pre p.1&&Im us qs gr (pre++[p]) s)
def Wg(us:List Clear)(qs:List ak)(gr:Int)(l:List (cN × AV)):Bool:=uj us qs gr&&(decide (l.length<=2048)&&Im us qs gr [] l)
section
variable{l:List (cN × AV)}{x1:AV}(d:Sl 24 (bW l) x1)(b : ∀p∈l,Cv p)
variable{u o:AV}{us:List Clear}{qs:List ak}{gr:Int}(i:Sl 3 (de us) u)(c:Sl 5 (cR qs) o)(m:qs.length<1000)(j:us.length<1000)
include d b i c m j
theorem P1(X:l.length<10000){r2:Ref}{H:aa}(V:H.get r2=some ⟨3,[.agg [u,o,aI gr]],false,false⟩){Q:AV->aa->Prop} : ∀(s:List (cN × AV)) (k:Nat),l.drop k=s->k<=l.length->(∀p∈l.take k,BU p) ->
 (∀y,y=aB (Im us qs gr (l.take k) s)->Q y H) ->
 bu env Tryz.f66 0 jE [(5,aI k),(1,x1),(2,.ptr r2 0 0)] H Q:=by
 intro s;induction s with
 | nil=>rintro k hs hk O hQ;obtain rfl:=drop_nil hs hk;have w:=eZ l;have e:=hQ _ rfl;simp only[Im]at e;refine pJ _ _ _ _ _ λg=>?_;clear hQ O b;simp[ai, *,gh,d.r];all_goals exact e
 | cons p s W=>
  rintro k hs hk hgd hQ;obtain⟨S,O,J,D⟩:=drop_cons hs;have Y:=iQa ((k:Int)+1) (by omega);have E:=CC D;have w:=eZ l;have z:(k:Int)<l.length:=by omega
  have hp:=b p (O ▸ je S);obtain⟨y,L,R⟩:=HC (P:=env.P) (t:=26) (by kernel_rfl) H.get d (n:=(k:Int)) (by omega) (by rw[w];omega);have M:(bW l).take (k:Int).toNat=bW (l.take k):=by simp[bW,Kw]
  rw[M]at R;have U:(l.take k).length<10000:=by rw[nZ];omega
  have F:l.take (k+1)=l.take k++[p]:=by rw[Ev,D];rfl
  have v:=λ(h:BU p)=>W (k+1) J (by omega) (by
   rw[F];intro q c;rcases iN.1 c with c | c
   ·exact hgd q c
   rw[nc]at c;subst c;exact h)
  rw[show((k+1:Nat):Int)=(k:Int)+1 from by omega,F]at v;clear W hs J O D b M F;have I:=Vb p.1.kind p.1.user p.1.op.kind p.1.op.h.lv p.1.op.h.cats p.1.op.h.num p.1.op.serial p.1.op.s.f.h.lv p.1.op.s.f.h.cats p.1.op.s.f.h.num p.1.op.s.f.n p.1.op.s.many p.1.op.a.h.lv p.1.op.a.h.cats p.1.op.a.h.num p.1.op.a.n p.1.op.to.lv p.1.op.to.cats p.1.code p.1.gu p.1.gv p.1.gc p.1.gok hp.x hp.len hp.rng;have G:eu ⟨p.1.kind,p.1.user,⟨p.1.op.kind,⟨p.1.op.h.lv,p.1.op.h.cats,p.1.op.h.num⟩,p.1.op.serial,⟨⟨⟨p.1.op.s.f.h.lv,p.1.op.s.f.h.cats,p.1.op.s.f.h.num⟩,p.1.op.s.f.n⟩,p.1.op.s.many⟩,⟨⟨p.1.op.a.h.lv,p.1.op.a.h.cats,p.1.op.a.h.num⟩,p.1.op.a.n⟩,⟨p.1.op.to.lv,p.1.op.to.cats⟩,p.1.op.l⟩,p.1.code,p.1.gu,p.1.gv,p.1.gc,p.1.gok⟩=eu p.1:=rfl;rw[G]at I;rw[Im]at hQ;refine pJ _ _ _ _ _ λg=>?_;by_cases B:eu p.1=true
  ·have T:=Sr (gr:=gr) R U hgd i c m j p.1.kind p.1.user p.1.op.kind p.1.op.h.lv p.1.op.h.cats p.1.op.h.num p.1.op.serial p.1.op.s.f.h.lv p.1.op.s.f.h.cats p.1.op.s.f.h.num p.1.op.s.f.n p.1.op.s.many p.1.op.a.h.lv p.1.op.a.h.cats p.1.op.a.h.num p.1.op.a.n p.1.op.to.lv p.1.op.to.cats p.1.code p.1.gu p.1.gv p.1.gc p.1.gok hp.x hp.rng B;have N:Bl us qs gr (l.take k) ⟨p.1.kind,p.1.user,⟨p.1.op.kind,⟨p.1.op.h.lv,p.1.op.h.cats,p.1.op.h.num⟩,p.1.op.serial,⟨⟨⟨p.1.op.s.f.h.lv,p.1.op.s.f.h.cats,p.1.op.s.f.h.num⟩,p.1.op.s.f.n⟩,p.1.op.s.many⟩,⟨⟨p.1.op.a.h.lv,p.1.op.a.h.cats,p.1.op.a.h.num⟩,p.1.op.a.n⟩,⟨p.1.op.to.lv,p.1.op.to.cats⟩,p.1.op.l⟩,p.1.code,p.1.gu,p.1.gv,p.1.gc,p.1.gok⟩=Bl us qs gr (l.take k) p.1:=rfl;rw[N]at T;have K:BU p:=⟨hp.x,hp.rng,B⟩;have v:=v K;rw[B]at I;rw[B,m9]at hQ;have A:=hp.x;clear G N B hgd K hp;generalize Bl us qs gr (l.take k) p.1=gb at *;generalize p.2=x at *;generalize p.1=r at *;generalize bW l=er at *;cases gb with
   | true=>rw[m9]at hQ;have e:=v hQ;clear v hQ;simp[ai, *,gh,d.r,d.idx,z,w,E,cN.val,I,T,A.r,V,L,i.r,c.r,R.r];all_goals exact e
   | false=>rw[yc]at hQ;have e:=hQ _ rfl;clear v hQ;simp[ai, *,gh,d.r,d.idx,z,w,E,cN.val,I,T,A.r,V,L,i.r,c.r,R.r];all_goals exact e
  have C:eu p.1=false:=(by simpa using B);rw[C]at I;rw[C,yc]at hQ;have e:=hQ _ rfl;have A:=hp.x;clear G B C hgd hp hQ v;generalize p.2=x at *;generalize p.1=r at *;generalize bW l=er at *;simp[ai, *,gh,d.r,d.idx,z,w,E,cN.val,I,A.r,V];all_goals exact e
theorem U7(n:l.length<1000000):ax env 66 [.agg [u,o,aI gr],x1]=some (aB (Wg us qs gr l)):=by
 have f:=Ye (gr:=gr) i c (by omega) (by omega);have k:=eZ l;refine ay rfl (by kernel_rfl) (zi _ _ _ _ λg=>?_);unfold Wg;cases hp:uj us qs gr with
 | false=>rw[hp]at f;simp[ai, *,kP,d.r,i.r,c.r,f]
 | true=>
  rw[hp]at f;by_cases h:l.length<=2048;·have a : ¬(2048:Int)<l.length:=(by omega);rw[iQj h];simp[ai, *,kP,d.r,i.r,c.r,f,a];refine P1 (gr:=gr) d b i c m j (by omega) (by simp) l 0 rfl (by omega) (by simp) (λy e=>?_);subst e;simp
  have a:(2048:Int)<l.length:=(by omega);rw[iQk h];simp[ai, *,kP,d.r,i.r,c.r,f,a]
end
end
section
theorem WW(s:wm)(a:bM)(b:eN s=true) : ∀(l:List Int)(k:Nat),(k:Int)+l.length<=s.many->(iA s a l k).map (·.i)=(List.range l.length).map λj=>Aq s.f ((k+j:Nat):Int)
 | [],k,_=>rfl
 | r :: l,k,h=>by
  have c:=gS b;simp only[qO]at h;rw[iA,pG,WW s a b l (k+1) (by omega),qO,O0,pG,zb];congr 1;·show(⟨s.f.h,IntKind.i64.wrap (s.f.n+(k:Int))⟩:bM)=⟨s.f.h,s.f.n+((k+0:Nat):Int)⟩;rw[iQa _ (by omega)];rfl
  refine Gv λj _=>?_;show Aq s.f _=Aq s.f _;congr 1;simp only[OT];omega
theorem Kg(s:wm) : ∀(n k:Nat),ff s n k=(List.range n).map λj=>Aq s.f ((k+j:Nat):Int)
 | 0,k=>rfl
 | n+1,k=>by
  rw[ff,Kg s n (k+1),O0,pG,zb];congr 1;refine Gv λj _=>?_;show Aq s.f _=Aq s.f _;congr 1;simp only[OT];omega
theorem Qc(o:aw):Y7 o=ck o.s:=by
 unfold Y7 ck;rw[Kg];refine Gv λj _=>?_;rw[uR]
theorem PV{o:aw}(c:mz o=true)(k:o.kind=1):(qw o).map (·.i)=ck o.s:=by
 have b:=lS c;have e:=gS b;have d:(o.l.length:Int)=o.s.many:=by
  have h:=c;simp only[mz,aT,CH,k,if_true,Is,iQb]at h;exact h.2.2.2.2.2.2.2.1
 unfold qw ck;rw[if_pos k,WW o.s o.a b o.l 0 (by omega),show o.l.length=o.s.many.toNat by omega];refine Gv λj _=>?_;rw[uR]
theorem Nm(s:wm):(ck s).Nodup:=by
 unfold ck;refine List.Pairwise.map _ (λa b c h=>c ?_) List.nodup_range;simp only[Aq,bM.mk.injEq]at h;omega
theorem Mu{i:bM} : ∀ {ents:List (bM × AV)},cm i ents=none->(jQ i (aB true) ents).length=ents.length+1
 | [],_=>rfl
 | p :: ents,h=>by
  unfold cm at h;split at h;·cases h
  rename_i a;unfold jQ;rw[if_neg a,qO,Mu h,qO]
theorem P4{ents:List (bM × AV)}(a:ov ents){i:bM}(h:fK ents i=false):cm i ents=none:=by
 rcases look_ok (P:=λx=>x=aB true) a i with e | ⟨x,e,rfl⟩
 ·exact e
 unfold fK at h;rw[e]at h;simp[aB]at h
theorem I0 : ∀(a:List bM)(ents:List (bM × AV)),ov ents->a.Nodup->(∀i∈a,fK ents i=false)->(uM ents a).length=ents.length+a.length
 | [],ents,_,_,_=>by simp
 | i :: a,ents,c,b,d=>by
  rw[yd]at b;rw[FV,I0 a _ (BF c) b.2 (λj f=>by
   rw[Hv,d j (fO _ f),iQS,iQc];intro e;subst e;exact b.1 f),Mu (P4 c (d i gy)),qO]
  omega
structure DI (ops:List (aw × AV)) (ents:List (bM × AV)):Prop where
 there : ∀i,fK ents i=decide (i∈(eY ops).map (·.i))
 len:ents.length=(eY ops).length
 right:mb [] (opsOf ops)=true
 bools:ov ents
theorem DI.nil:DI [] []:=⟨λi=>rfl,rfl,rfl,λp hp=>by cases hp⟩
theorem VV : ∀ {l a:List (aw × AV)},opsOf l=opsOf a->eY l=eY a:=by
 intro l a h;have : ∀l:List (aw × AV),eY l=(opsOf l).flatMap qw:=λl=>by simp[eY,opsOf,List.flatMap_map]
 rw[this,this,h]
theorem DI.afI{ops:List (aw × AV)}{ents:List (bM × AV)}(h:DI ops ents)(o:aw)(i:bM):vJ ents o i=ug (eY ops) o i:=by
 unfold vJ ug;rw[h.there i];rfl
theorem Ov{a:Type}{p q:a->Bool}(h : ∀x,p x=q x)(l:List a):l.any p=l.any q:=by
 have:p=q:=funext h;rw[this]
theorem DI.err{ops:List (aw × AV)}{ents:List (bM × AV)}(h:DI ops ents)(B:ops.length<=2048){o:aw}(u:mz o=true):vX ops ents o=JD ops (eY ops) o (Y7 o):=by
 have E:=gS (lS u);rw[Qc];have v:(ck o.s).length=o.s.many.toNat:=by simp[ck]
 have w:sj ents o = !(ck o.s).any (λi => !ug (eY ops) o i):=by
  unfold sj;rw[Ov λi=>by rw[h.afI o i]]
 have z:qH (opsOf ops)=0:=zT h.right (by simpa [opsOf] using B);unfold vX JD uV;by_cases k1:o.kind=1
 ·rw[if_pos k1,if_pos k1];have j:I9 o≠0↔yE ⟨o.s,o.a,o.l⟩=false:=by
   unfold I9;rw[if_pos u];by_cases q:yE ⟨o.s,o.a,o.l⟩=true;·rw[if_pos ⟨k1,q⟩,q];simp
   rw[if_neg (λb=>q b.2)];simp[q]
  have k:(ck o.s).any (fK ents)=(ck o.s).any (λi=>decide (i∈(eY ops).map (·.i))):=Ov h.there _;have g:gB o.a=decide (o.a=rP):=(by rw[Cy,decide_eq_true_iff];exact xZ o.a);have c:DX ops o=if 2048<=ops.length then 4 else 0:=(by unfold DX;rw[if_neg];rw[k1];rintro(⟨h,_⟩ | ⟨h,_⟩)<;>exact absurd h (by decide))
  have D:fR ents o=if o.a≠rP/\ug (eY ops) o o.a=false then 6 else if yE ⟨o.s,o.a,o.l⟩=false then 2 else if (ck o.s).any (λi=>decide (i∈(eY ops).map (·.i)))=true then 2 else if 8192<((eY ops).length:Int)+(ck o.s).length then 4 else 0:=by
   unfold fR;rw[h.afI,k,g,h.len,v,show((o.s.many.toNat:Nat):Int)=o.s.many by omega];generalize ug (eY ops) o o.a=sb;generalize (ck o.s).any (λi=>decide (i∈(eY ops).map (·.i)))=ab;by_cases d:o.a≠rP/\sb=false;·rw[if_pos d,if_pos (by rw[iQk d.1,d.2];decide)]
   have t : ¬((!decide (o.a=rP) && !sb)=true):=(by intro b;rw[aT,dI,dI,iQc]at b;exact d b);rw[if_neg d,if_neg t];by_cases e:yE ⟨o.s,o.a,o.l⟩=false;·have n:I9 o≠0\/ab=true:=Or.inl (j.2 e);rw[if_pos e,if_pos n]
   rw[if_neg e];cases ab with
   | true=>have n:I9 o≠0\/true=true:=Or.inr rfl;rw[if_pos rfl,if_pos n]
   | false=>have n : ¬(I9 o≠0\/false=true):=λb=>b.elim (λb=>e (j.1 b)) (by simp);rw[if_neg (show ¬(false=true) by decide),if_neg n]
  rw[D];unfold P7;rw[c];by_cases d:o.a≠rP/\ug (eY ops) o o.a=false;·simp only[if_pos d];simp
  simp only[if_neg d];by_cases e:yE ⟨o.s,o.a,o.l⟩=false;·simp only[if_pos e];simp
  simp only[if_neg e];by_cases x:(ck o.s).any (λi=>decide (i∈(eY ops).map (·.i)))=true;·simp only[if_pos x];simp
  simp only[if_neg x];by_cases y:8192<((eY ops).length:Int)+(ck o.s).length;·simp only[if_pos y];simp
  simp only[if_neg y];by_cases g:2048<=ops.length<;>simp[g]
 rw[if_neg k1,if_neg k1];unfold Ng;by_cases m:o.kind=2
 ·rw[if_pos m];unfold zD;rw[w];generalize (ck o.s).any (λi => !ug (eY ops) o i)=ab;have c:DX ops o=if ¬(o.s.f.h.lv=o.h.lv/\o.s.f.h.cats=o.h.cats) then 2 else if 2048<=ops.length then 4 else 0:=by
   unfold DX;by_cases b:o.s.f.h.lv=o.h.lv/\o.s.f.h.cats=o.h.cats
   ·have C : ¬((o.kind=2 /\¬(o.s.f.h.lv=o.h.lv/\o.s.f.h.cats=o.h.cats))\/(o.kind=3/\la (opsOf ops) o=false)):=by
     rintro(⟨_,h⟩ | ⟨h,_⟩);·exact h b
     rw[m]at h;exact absurd h (by decide)
    rw[if_neg C,if_neg (show ¬ ¬(o.s.f.h.lv=o.h.lv/\o.s.f.h.cats=o.h.cats) from λh=>h b)]
   rw[if_pos (.inl ⟨m,b⟩),if_pos b]
  rw[c];cases ab with
  | true=>simp
  | false=>
   by_cases b:o.s.f.h.lv=o.h.lv/\o.s.f.h.cats=o.h.cats;·by_cases g:2048<=ops.length<;>simp[b.1,b.2,g]
   have A:(decide (o.s.f.h.lv=o.h.lv)&&decide (o.s.f.h.cats=o.h.cats))=false:=(by rw[<-Bool.decide_and,iQc];exact b);simp[A,b]
 rw[if_neg m];have p:o.kind=3:=by
  by_cases p:o.kind=3;·exact p
  simp[mz,CH,k1,m,p]at u
 unfold zE;rw[w,z];generalize (ck o.s).any (λi => !ug (eY ops) o i)=ab;unfold DX;generalize la (opsOf ops) o=fb;simp only[p,show ¬((3:UInt8)=2) from by decide,iQu,false_or,iQo];cases ab with
 | true=>simp
 | false=>
  cases fb with| false=>simp| true=>by_cases g:2048<=ops.length<;>simp[g]
theorem Ty{ops:List (aw × AV)}{ents:List (bM × AV)}{o:aw}(a:vX ops ents o=0):uV ops ents o=0:=by
 unfold vX at a;split at a;·cases a
 exact a
theorem DI.step{ops:List (aw × AV)}{ents:List (bM × AV)}(h:DI ops ents){p:aw × AV}(l:mz p.1=true)(n:vX ops ents p.1=0):DI (ops++[p]) (yR ents p.1):=by
 have a:eY (ops++[p])=eY ops++qw p.1:=by simp[eY]
 have c:=Ty n;have m:la (opsOf ops) p.1=true:=by
  unfold uV at c;by_cases e:p.1.kind=3
  ·rw[if_neg (by rw[e];decide),if_neg (by rw[e];decide)]at c;unfold zE at c;split at c;·cases c
   split at c;·rename_i f;exact f.2
   cases c
  unfold la;rw[if_neg e]
 have g:mb [] (opsOf (ops++[p]))=true:=by rw[qG];exact A7 h.right l m
 by_cases k1:p.1.kind=1
 ·have k:=PV l k1;have b:yR ents p.1=uM ents (ck p.1.s):=by unfold yR;rw[if_pos k1]
  have d : ∀i∈ck p.1.s,fK ents i=false:=by
   unfold uV at c;rw[if_pos k1]at c;unfold fR at c;split at c;·cases c
   split at c;·cases c
   rename_i f;intro i q;cases o:fK ents i with
   | false=>rfl
   | true=>exact absurd (Or.inr (GP.2 ⟨i,q,o⟩)) f
  refine⟨λi=>?_,?_,g,?_⟩;·rw[b,zC,h.there i,a,Ai,k,<-Bool.decide_or];refine decide_eq_decide.2 ?_;rw[iN];exact Or.comm
  ·rw[b,I0 _ _ h.bools (Nm _) d,a,mI,h.len,<-k,pI]
  rw[b];exact FX _ h.bools
 have b:yR ents p.1=ents:=by unfold yR;rw[if_neg k1]
 have j:qw p.1=[]:=by unfold qw;rw[if_neg k1]
 rw[b];refine⟨λi=>?_,?_,g,h.bools⟩;·rw[a,j,rQ];exact h.there i
 rw[a,j,rQ];exact h.len
theorem IF{ops a:List (aw × AV)}(h:opsOf ops=opsOf a)(o:aw)(b:List bM):JD ops (eY ops) o b=JD a (eY a) o b:=by
 have d:ops.length=a.length:=by have:=iQg List.length h;simpa [opsOf] using this
 have c:=VV h;unfold JD Ng P7 DX;rw[h,c,d]
end
section
theorem JR : ∀(l:List ak)(n:Int),F7 (n - 1) l=F7 n l - 1
 | [],n=>rfl
 | q :: l,n=>by
  show F7 (n - 1+q.opens+4 * q.ops) l=F7 (n+q.opens+4 * q.ops) l - 1;rw[<-JR l,show n - 1+q.opens+4 * q.ops=n+q.opens+4 * q.ops - 1 by omega]
theorem RM{a:Type}{p:a->Bool}{x:a}(c:p x=true) : ∀(l:List a)(n:Nat),l.all p=true->(l.set n x).all p=true
 | [],_,h=>h
 | y :: l,0,h=>by
  rw[vm,aT]at h;rw[Fm,vm,c,h.2];rfl
 | y :: l,n+1,h=>by
  rw[vm,aT]at h;rw[List.set_cons_succ,vm,h.1,RM c l n h.2];rfl
theorem PM{us:List Clear}{qs:List ak}{gr:Int}(h:uj us qs gr=true){n:Nat}{v:UInt8}{c:UInt32}{ok:Bool}(a:o6 v c ok=true)(i:gr≠0):uj (us.set n ⟨v,c,ok⟩) qs (IntKind.i64.wrap (gr - 1))=true:=by
 rw[Nb]at h ⊢;simp only[aT,iQb]at h;have e:IntKind.i64.wrap (gr - 1)=gr - 1:=iQa _ (by omega);rw[e,JR];have g:=RM (p:=λc:Clear=>o6 c.lv c.cats c.ok) (x:=⟨v,c,ok⟩) a us n h.1.1.2;simp only[aT,iQb,Kx];exact⟨⟨⟨⟨⟨h.1.1.1.1.1,h.1.1.1.1.2⟩,by omega,by omega⟩,g⟩,h.1.2⟩,by omega,h.2.2⟩
theorem HE(h:xn)(t:OA)(l:List (cN × AV))(p:cN × AV):mD h t (l++[p])=wP h (mD h t l) p:=by simp[mD]
theorem Hn(v:jW)(t:Az)(l:List (cN × AV))(p:cN × AV):vG v t (l++[p])=wN v (vG v t l) p:=by simp[vG]
theorem Ii(us:List Clear)(gr:Int)(l:List (cN × AV))(p:cN × AV):jC us gr (l++[p])=jC (jC us gr l).1 (jC us gr l).2 [p]:=by
 induction l generalizing us gr with| nil=>rfl| cons q l c=>
  by_cases a:q.1.kind=3/\nG us gr q.1.gu=0;·rw[Ky,show jC us gr (q :: (l++[p]))=_ from if_pos a,show jC us gr (q :: l)=_ from if_pos a];exact c _ _
  rw[Ky,show jC us gr (q :: (l++[p]))=_ from if_neg a,show jC us gr (q :: l)=_ from if_neg a];exact c _ _
theorem E9(l:List (cN × AV))(p:cN × AV):jT (l++[p])=jT l++if isDone p then [(p.1.op,p.2)] else []:=by
 unfold jT;rw[KB,Ai];congr 1;rw[AL];split<;>rfl
structure El (us0:List Clear) (qs:List ak) (gr0:Int) (d:List (cN × AV)) (b:gR):Prop where
 us:b.us=(jC us0 gr0 d).1
 gr:b.gr=(jC us0 gr0 d).2
 pol:uj b.us qs b.gr=true
 ses : ∀h:xn,(uf (cm h b.ses)).o=(mD h ⟨false,0,0⟩ d).o/\(uf (cm h b.ses)).u=(mD h ⟨false,0,0⟩ d).u/\(uf (cm h b.ses)).s=(mD h ⟨false,0,0⟩ d).s
 num : ∀h:xn,0<=(mD h ⟨false,0,0⟩ d).s/\(mD h ⟨false,0,0⟩ d).s<16777216/\((mD h ⟨false,0,0⟩ d).o=false->(mD h ⟨false,0,0⟩ d).s=0)
 use : ∀v:jW,wA (cm v b.used)=vG v ⟨0,0,0⟩ d
 cD:opsOf b.cD=opsOf (jT d)
 doc : ∃E,tp [] [] b.cD=some (b.cD,E)/\DI b.cD E
theorem El.nil{us0:List Clear}{qs:List ak}{gr0:Int}(hp:uj us0 qs gr0=true):El us0 qs gr0 [] (Cn us0 gr0):=
 ⟨rfl,rfl,hp,λh=>⟨rfl,rfl,rfl⟩,λh=>⟨Kt 0,(by decide:(0:Int)<16777216),λ_=>rfl⟩,λv=>rfl,rfl,[],rfl,DI.nil⟩
theorem HQ{r:cN}(h:eu r=true)(k:r.kind=3):0<=r.gu/\o6 r.gv r.gc r.gok=true/\xK r.gu r.gv r.gc r.gok=true:=by
 simp only[eu,k,show ¬((3:UInt8)=1) from by decide,show ¬((3:UInt8)=2) from by decide,iQf,if_true,aT]at h;have c:=h.1;have a:=h.1;simp only[xK,aT,iQb]at a;exact⟨a.1.1,by simpa [o6,IP] using a.2,c⟩
theorem Rr{h:xn}(a:mA h=true):h.lv<=15:=by
 simp only[mA,aT,iQb]at a;first | exact a.1 | exact a.1.1
theorem MR{r:cN}(h:eu r=true)(k:r.kind=1\/r.kind=2):r.op.h.lv<=15:=by
 rcases k with k | k
 ·simp only[eu,k,if_true,aT]at h;exact Rr h.2.1
 have:=yH h k;simp only[mz,aT]at this;exact Rr this.1
theorem EP{us:List Clear}{qs:List ak}{gr:Int}{a:UInt8}(hp:uj us qs gr=true)(e:a<=15):Ap us qs gr a=0:=by
 have c:zP a=0:=by unfold zP;rw[if_neg (by simpa [UInt8.not_lt] using e)]
 unfold Ap;rw[c,hp];rfl
section
variable{us0:List Clear}{qs:List ak}{gr0:Int}{d:List (cN × AV)}{b:gR}(h:El us0 qs gr0 d b)(hp:uj us0 qs gr0=true)(f:d.length<=2048)
include h hp f
theorem El.Vv{a:UInt8}(c:UInt32)(e:a<=15):rY us0 qs gr0 a c=od qs a c:=by
 unfold rY;rw[if_pos (EP hp e)]
theorem El.verdict{o:aw}(g:mz o=true)(i:o.h.lv<=15):oB us0 qs gr0 b o=E0 qs d o:=by
 obtain⟨E,j,k⟩:=h.doc;have c:b.cD.length<=2048:=by
  have e:=iQg List.length h.cD;have:=D1 d;simp only[opsOf,pI]at e;omega
 have a:qa b.cD o=JE d o:=by
  unfold qa JE;rw[j];dsimp only;rw[if_pos g,k.err c g];exact IF h.cD o _
 unfold oB E0 Fy;rw[a,h.Vv hp f o.h.cats i,h.use]
theorem El.fits{r:cN}(g:eu r=true):w8 us0 qs gr0 b r=Bl us0 qs gr0 d r:=by
 unfold w8 Bl;by_cases k1:r.kind=1;·have a:=MR g (.inl k1);obtain⟨s1,s2,i⟩:=h.ses r.op.h;rw[if_pos k1,if_neg (by rw[k1];decide),if_pos k1];unfold FN Be oc pS HF Fy;rw[s1,EP h.pol a,h.Vv hp f _ a,h.use,h.us];rfl
 rw[if_neg k1,if_neg k1];by_cases c:r.kind=2;·have a:=MR g (.inr c);have j:=yH g c;obtain⟨s1,s2,i⟩:=h.ses r.op.h;rw[if_pos c,if_neg (by rw[c];decide)];unfold DV Be oc pS HF Fy;rw[s1,s2,i,EP h.pol a,h.Vv hp f _ a,h.use,h.us,h.verdict hp f j a];rfl
 have e:r.kind=3:=by
  by_cases e:r.kind=3;·exact e
  simp[eu,k1,c,e]at g
 obtain⟨l,k,hm⟩:=HQ g e;rw[if_neg c,if_pos e];unfold FM xQ nG;rw[h.pol,hm,<-h.us,<-h.gr];rfl
theorem El.step{p:cN × AV}(I:eu p.1=true)(q:w8 us0 qs gr0 b p.1=true):El us0 qs gr0 (d++[p]) (OH b p):=by
 have x:p.1.kind=1\/p.1.kind=2\/p.1.kind=3:=by
  by_cases k1:p.1.kind=1;·exact .inl k1
  by_cases w:p.1.kind=2;·exact .inr (.inl w)
  by_cases A:p.1.kind=3;·exact .inr (.inr A)
  simp[eu,k1,w,A]at I
 unfold w8 at q;unfold OH;rcases x with k1 | w | A
 ·have J : ¬p.1.kind=3:=by rw[k1];decide
  have n2 : ¬p.1.kind=2:=by rw[k1];decide
  rw[if_pos k1]at q ⊢;have i:jC us0 gr0 (d++[p])=jC us0 gr0 d:=(by rw[Ii];exact if_neg (λh=>J h.1));have m:jT (d++[p])=jT d:=(by rw[E9,if_neg (by simp[isDone,n2]),rQ]);have t:(mD p.1.op.h ⟨false,0,0⟩ d).o=false:=(by simp only[FN,aT,dI,oc]at q;rw[<-(h.ses p.1.op.h).1];exact q.1);have j : ∀g:xn,mD g ⟨false,0,0⟩ (d++[p])=if p.1.op.h=g then ⟨true,p.1.user,(mD g ⟨false,0,0⟩ d).s⟩ else mD g ⟨false,0,0⟩ d:=λg=>by
   rw[HE];unfold wP;by_cases e:p.1.op.h=g;·rw[if_pos e,if_pos e,if_pos k1]
   rw[if_neg e,if_neg e]
  refine⟨by rw[i];exact h.us,by rw[i];exact h.gr,h.pol,λg=>?_,λg=>?_,λv=>?_,by rw[m];exact h.cD,h.doc⟩
  ·rw[j];show(uf (cm g (jQ p.1.op.h (BT.av ⟨true,p.1.user,0⟩) b.ses))).o=_/\(uf (cm g (jQ p.1.op.h (BT.av ⟨true,p.1.user,0⟩) b.ses))).u=_/\(uf (cm g (jQ p.1.op.h (BT.av ⟨true,p.1.user,0⟩) b.ses))).s=_;by_cases e:g=p.1.op.h;·subst e;rw[oW,Dp,if_pos rfl];exact⟨rfl,rfl,((h.num p.1.op.h).2.2 t).symm⟩
   rw[np e,if_neg (λl=>e l.symm)];exact h.ses g
  ·rw[j];obtain⟨N,L,P⟩:=h.num g;split;·exact⟨N,L,λl=>by cases l⟩
   exact⟨N,L,P⟩
  show wA (cm v (jQ ⟨p.1.op.h.lv,p.1.op.h.cats⟩ (Az.av { pS b p.1.op with opens:=IntKind.i64.wrap ((pS b p.1.op).opens+1)}) b.used))=_;rw[Hn];unfold wN;by_cases e:v=⟨p.1.op.h.lv,p.1.op.h.cats⟩;·subst e;rw[oW,KV,if_pos ⟨rfl,rfl⟩,if_pos k1];unfold pS;rw[h.use]
  rw[np e,if_neg (λl=>e (by obtain⟨a,c⟩:=v;rw[l.1,l.2]))];exact h.use v
 ·have n1 : ¬p.1.kind=1:=by rw[w];decide
  have J : ¬p.1.kind=3:=by rw[w];decide
  rw[if_neg n1,if_pos w]at q ⊢;have D:=yH I w;have G:1<=p.1.op.serial/\p.1.op.serial<16777216:=(by simp only[mz,aT,iQb]at D;exact⟨D.2.1,D.2.2.1⟩);simp only[DV,aT,iQb]at q;obtain⟨R,_,F,_,k⟩:=q;have i:jC us0 gr0 (d++[p])=jC us0 gr0 d:=(by rw[Ii];exact if_neg (λh=>J h.1));obtain⟨N,L,P⟩:=h.num p.1.op.h;have M:(oc b p.1.op).s=(mD p.1.op.h ⟨false,0,0⟩ d).s:=(h.ses p.1.op.h).2.2;have T:p.1.op.serial=(mD p.1.op.h ⟨false,0,0⟩ d).s+1:=(by rw[F,M];exact iQa _ (by omega));have B:(mD p.1.op.h ⟨false,0,0⟩ d).o=true:=by rw[<-(h.ses p.1.op.h).1];exact R
  have j : ∀g:xn,mD g ⟨false,0,0⟩ (d++[p])=if p.1.op.h=g then ⟨(mD g ⟨false,0,0⟩ d).o,(mD g ⟨false,0,0⟩ d).u,p.1.op.serial⟩ else mD g ⟨false,0,0⟩ d:=λg=>by
   rw[HE];unfold wP;by_cases e:p.1.op.h=g;·subst e;rw[if_pos rfl,if_pos rfl,if_neg n1,if_pos w,if_pos (by omega)]
   rw[if_neg e,if_neg e]
  refine⟨by rw[i];exact h.us,by rw[i];exact h.gr,h.pol,λg=>?_,λg=>?_,λv=>?_,?_,?_⟩
  ·rw[j];show(uf (cm g (jQ p.1.op.h (BT.av { oc b p.1.op with s:=IntKind.i64.wrap ((oc b p.1.op).s+1)}) b.ses))).o=_/\(uf (cm g (jQ p.1.op.h (BT.av { oc b p.1.op with s:=IntKind.i64.wrap ((oc b p.1.op).s+1)}) b.ses))).u=_/\(uf (cm g (jQ p.1.op.h (BT.av { oc b p.1.op with s:=IntKind.i64.wrap ((oc b p.1.op).s+1)}) b.ses))).s=_;by_cases e:g=p.1.op.h;·subst e;rw[oW,Dp,if_pos rfl];exact⟨(h.ses p.1.op.h).1,(h.ses p.1.op.h).2.1,F.symm⟩
   rw[np e,if_neg (λl=>e l.symm)];exact h.ses g
  ·rw[j];by_cases e:p.1.op.h=g;·subst e;rw[if_pos rfl];exact⟨by show 0<=p.1.op.serial;omega,G.2,λl=>by simp only at l;rw[B]at l;cases l⟩
   rw[if_neg e];exact h.num g
  ·show wA (cm v (jQ ⟨p.1.op.h.lv,p.1.op.h.cats⟩ (Az.av (IM b p.1.op p.1.code)) b.used))=_;rw[Hn];unfold wN;by_cases e:v=⟨p.1.op.h.lv,p.1.op.h.cats⟩;·subst e;rw[oW,KV,if_pos ⟨rfl,rfl⟩,if_neg n1,if_pos w];unfold IM pS;rw[h.use]
   rw[np e,if_neg (λl=>e (by obtain⟨a,c⟩:=v;rw[l.1,l.2]))];exact h.use v
  ·rw[E9];show opsOf (if p.1.code=0 then b.cD++[(p.1.op,Am p.2)] else b.cD)=_;by_cases y:p.1.code=0;·rw[if_pos y,if_pos (by simp[isDone,w,y]),qG,qG,h.cD]
   rw[if_neg y,if_neg (by simp[isDone,y]),rQ,h.cD]
  show ∃E,tp [] [] (if p.1.code=0 then b.cD++[(p.1.op,Am p.2)] else b.cD)=some ((if p.1.code=0 then b.cD++[(p.1.op,Am p.2)] else b.cD),E)/\DI (if p.1.code=0 then b.cD++[(p.1.op,Am p.2)] else b.cD) E;by_cases y:p.1.code=0
  ·rw[if_pos y];obtain⟨E,O,U⟩:=h.doc;have C:qa b.cD p.1.op=0:=by
    rw[y]at k;unfold oB at k;by_cases Q:qa b.cD p.1.op=0;·exact Q
    rw[if_pos Q]at k;exact k.symm
   unfold qa at C;rw[O]at C;dsimp only at C;rw[if_pos D]at C;refine⟨yR E p.1.op,?_,?_⟩;·rw[IL,O,eJ,if_pos ⟨D,C⟩]
   exact U.step (p:=(p.1.op,Am p.2)) D C
  rw[if_neg y];exact h.doc
 have n1 : ¬p.1.kind=1:=by rw[A];decide
 have n2 : ¬p.1.kind=2:=by rw[A];decide
 rw[if_neg n1,if_neg n2]at q ⊢;obtain⟨V,S,hm⟩:=HQ I A;have n:nG b.us b.gr p.1.gu=0:=(by simp only[FM,iQb]at q;unfold xQ at q;rw[h.pol,hm]at q;exact q);have K:b.gr≠0:=by
  intro e;unfold nG at n;rw[e]at n;split at n;·cases n
  cases n
 have i:jC us0 gr0 (d++[p])=(b.us.set p.1.gu.toNat ⟨p.1.gv,p.1.gc,p.1.gok⟩,IntKind.i64.wrap (b.gr - 1)):=(by rw[Ii,<-h.us,<-h.gr];exact if_pos ⟨A,n⟩);have z : ∀g:xn,mD g ⟨false,0,0⟩ (d++[p])=mD g ⟨false,0,0⟩ d:=λg=>by
  rw[HE];unfold wP;rw[if_neg n1,if_neg n2,ite_self]
 have H : ∀v:jW,vG v ⟨0,0,0⟩ (d++[p])=vG v ⟨0,0,0⟩ d:=λv=>by
  rw[Hn];unfold wN;rw[if_neg n1,if_neg n2,ite_self]
 have m:jT (d++[p])=jT d:=(by rw[E9,if_neg (by simp[isDone,n2]),rQ]);exact⟨by rw[i];rfl,by rw[i];rfl,PM h.pol S K,λg=>by rw[z];exact h.ses g,λg=>by rw[z];exact h.num g,λv=>by rw[H];exact h.use v,by rw[m];exact h.cD,h.doc⟩
end
theorem We{us0:List Clear}{qs:List ak}{gr0:Int}(hp:uj us0 qs gr0=true) : ∀(s d:List (cN × AV)) (b:gR),El us0 qs gr0 d b->d.length+s.length<=2048->Im us0 qs gr0 d s=(V0 us0 qs gr0 b s).isSome
 | [],d,b,_,_=>rfl
 | p :: s,d,b,h,f=>by
  simp only[qO]at f;rw[Im,V0];by_cases a:eu p.1=true
  ·rw[<-h.fits hp (by omega) a,a,m9];by_cases c:w8 us0 qs gr0 b p.1=true;·rw[c,m9,if_pos ⟨rfl,rfl⟩];exact We hp s _ _ (h.step hp (by omega) a c) (by simp;omega)
   rw[if_neg (λe=>c e.2)];have i:w8 us0 qs gr0 b p.1=false:=by simpa using c
   rw[i,yc];rfl
  rw[if_neg (λe=>a e.1)];have g:eu p.1=false:=by simpa using a
  rw[g,yc];rfl
theorem Lq(us:List Clear)(qs:List ak)(gr:Int)(l:List (cN × AV)):Wg us qs gr l=(uF us qs gr l).isSome:=by
 unfold Wg uF;by_cases hp:uj us qs gr=true
 ·by_cases f:l.length<=2048;·rw[hp,iQj f,if_pos ⟨rfl,f⟩,m9,m9];exact We hp l [] _ (El.nil hp) (by simpa using f)
  rw[if_neg (λa=>f a.2),iQk f];simp
 rw[if_neg (λa=>hp a.1)];have c:uj us qs gr=false:=by simpa using hp
 rw[c];rfl
theorem EI{us:List Clear}{qs:List ak}{gr:Int}{l:List (cN × AV)}{x1 i g:AV}(j:Sl 24 (bW l) x1)(a : ∀p∈l,Cv p)(k:Sl 3 (de us) i)(m:Sl 5 (cR qs) g)(e:qs.length<1000)(c:us.length<1000)(f:l.length<1000000) :
 ax env 66 [.agg [i,g,aI gr],x1]=some (aB (uF us qs gr l).isSome):=by
 rw[<-Lq];exact U7 j a k m e c f
end
section
section
variable{f:cN × AV->cN × AV}(a : ∀p,(f p).1=p.1)
include a
theorem V3(l:List (cN × AV)) : ∀us gr,jC us gr (l.map f)=jC us gr l:=by
 induction l with| nil=>intro us gr;rfl| cons p l b=>intro us gr;rw[pG,jC,jC,a p,b,b]
theorem UQ(h:xn)(l:List (cN × AV))(t:OA):mD h t (l.map f)=mD h t l:=by
 unfold mD;rw[List.foldl_map];congr 1;funext t p;unfold wP;rw[a p]
theorem Mg(v:jW)(l:List (cN × AV))(t:Az):vG v t (l.map f)=vG v t l:=by
 unfold vG;rw[List.foldl_map];congr 1;funext t p;unfold wN;rw[a p]
theorem E8(l:List (cN × AV)):opsOf (jT (l.map f))=opsOf (jT l):=by
 induction l with| nil=>rfl| cons p l b=>
  have c:isDone (f p)=isDone p:=by unfold isDone;rw[a p]
  unfold jT at b ⊢;rw[pG,AL,AL,c];split;·simp only[opsOf,pG,a p]at b ⊢;rw[b]
  exact b
theorem To(us:List Clear)(qs:List ak)(gr:Int)(l:List (cN × AV))(r:cN):Bl us qs gr (l.map f) r=Bl us qs gr l r:=by
 unfold Bl E0 JE Fy HF;rw[V3 a,UQ a,Mg a,IF (E8 a l)]
theorem Np(us:List Clear)(qs:List ak)(gr:Int) : ∀(s pre:List (cN × AV)),Im us qs gr (pre.map f) (s.map f)=Im us qs gr pre s
 | [],pre=>rfl
 | p :: s,pre=>by
  rw[pG,Im,Im,a p,To a,<-Np us qs gr s (pre++[p]),Ai];rfl
theorem Lk(us:List Clear)(qs:List ak)(gr:Int)(l:List (cN × AV)):(uF us qs gr (l.map f)).isSome=(uF us qs gr l).isSome:=by
 rw[<-Lq,<-Lq];unfold Wg;rw[pI];have:=Np a us qs gr l [];rw[GH]at this;rw[this]
theorem Ws(qs:List ak)(l:List (cN × AV))(o:aw):E0 qs (l.map f) o=E0 qs l o:=by
 unfold E0 JE Fy;rw[Mg a,IF (E8 a l)]
end
theorem RJ{us0:List Clear}{qs:List ak}{gr0:Int}(hp:uj us0 qs gr0=true) : ∀(s pre:List (cN × AV)) (b b':gR),El us0 qs gr0 pre b->pre.length+s.length<=2048->V0 us0 qs gr0 b s=some b'->El us0 qs gr0 (pre++s) b'
 | [],pre,b,b',h,_,e=>by
  rw[V0]at e;injection e with e
  subst e;simpa using h
 | p :: s,pre,b,b',h,d,e=>by
  simp only[qO]at d;rw[V0]at e;split at e;·rename_i c;have:=RJ hp s (pre++[p]) _ b' (h.step hp (by omega) c.1 c.2) (by simp;omega) e;simpa using this
  cases e
theorem PX{us:List Clear}{qs:List ak}{gr:Int}{l:List (cN × AV)}{b:gR}(h:uF us qs gr l=some b):uj us qs gr=true/\l.length<=2048:=by
 unfold uF at h;split at h;·assumption
 cases h
theorem Nk{us:List Clear}{qs:List ak}{gr:Int}{l:List (cN × AV)}{b:gR}(h:uF us qs gr l=some b):El us qs gr l b:=by
 obtain⟨c,d⟩:=PX h;unfold uF at h;rw[if_pos ⟨c,d⟩]at h;simpa using RJ c l [] _ b (El.nil c) (by simpa using d) h
end
section
attribute [local simp] aJ az au aG aF aX lZ aO aE aH bT bS bg aP an bA gj
theorem Sn(q:UInt8)(l:UInt8)(a_3:UInt32)(n:UInt8)(m:Int)(u:UInt8)(p:UInt32)(k:UInt8)(o:Int)(e:Int)(i:UInt8)(c:UInt32)(f:UInt8)(d:Int)(a:UInt8)(b:UInt32){x:AV}{j:List Int}(t:Sl 1 (rows j) x)(w:j.length<1000000000):ax env 56 [.agg [a8 q,a8 l,af a_3,a8 n,aI m,a8 u,af p,a8 k,aI o,aI e,a8 i,af c,a8 f,aI d,a8 a,af b,x]]=some (.agg [a8 q,a8 l,af a_3,a8 n,aI m,a8 u,af p,a8 k,aI o,aI e,a8 i,af c,a8 f,aI d,a8 a,af b,ep 1 (rows j)]):=by
 refine ay rfl (by kernel_rfl) (qS _ _ _ λg=>?_);have v:=t.len;have z:j.length * 4<=140737488355328:=by omega
 by_cases h:rows j=[];·rw[h];simp[ai, *,gO,t.r,t.kX,ep]
 rw[qv 1 h];have y:(rows j).length=j.length:=by simp[rows]
 simp[ai, *,gO,t.r,t.kX,acS]
def QN(p:aw × AV):aw × AV:=(p.1,ep 1 (rows p.1.l))
def jn(l:List (aw × AV)):List (aw × AV):=l.map QN
theorem Ic(l:List (aw × AV)):opsOf (jn l)=opsOf l:=by simp[opsOf,jn,QN]
theorem Pe(l:List (aw × AV)):(jn l).length=l.length:=pI _
theorem RZ{l:List (aw × AV)}{x0:AV}(L:Sl 17 (bf l) x0)(M : ∀p∈l,ET p)(hl:l.length<100000){Q:AV->aa->Prop} :
 ∀(s:List (aw × AV)) (k:Nat) (i:Int) (acc:List (aw × AV)) (N:AV) (H:aa),l.drop k=s->k<=l.length->i=k->acc.length=k->Fr H->qq [18] 17 (bf acc) H N->(acc=[]->N=bI) ->
 (∀y H',qq [18] 17 (bf (acc++jn s)) H' y->(acc++jn s=[]->y=bI)->Q y H') ->
 bu env Tryz.f67 0 gk [(4,aI i),(0,x0),(3,N)] H Q:=by
 intro s;induction s with
 | nil=>rintro k i acc N H hs hk rfl ha hF hO hN hQ;obtain rfl:=drop_nil hs hk;refine nI _ _ _ _ _ λg=>?_;have G:=hQ N H (by simpa [jn] using hO) (by simpa [jn] using hN);clear hQ hO hN;simp[ai, *,dk,L.len];all_goals exact G
 | cons p s ih=>
  rintro k i acc N H hs hk rfl ha hF hO hN hQ;obtain⟨hlt,hg,R,X⟩:=drop_cons hs;have hp:=M p (by rw[<-hg];exact je _);obtain⟨⟨w,⟨q,a_3,v⟩,u,⟨⟨⟨A,C,z⟩,B⟩,j⟩,⟨⟨o,b,n⟩,d⟩,⟨f,a⟩,E⟩,x⟩:=p;obtain⟨F,V⟩:=hp;simp only at F V;have e3:=iQa ((k:Int)+1) (by omega);have hc:=Sn w q a_3 v u A C z B j o b n d f a F (by omega);have hrd:bL (bf l) k 0 17 true=some (.agg [a8 w,a8 q,af a_3,a8 v,aI u,a8 A,af C,a8 z,aI B,aI j,a8 o,af b,a8 n,aI d,a8 f,af a,x]):=by simp[bf,wC,X]
  have J:=λW H'=>ih (k+1) ((k:Int)+1) (acc++[((⟨w,⟨q,a_3,v⟩,u,⟨⟨⟨A,C,z⟩,B⟩,j⟩,⟨⟨o,b,n⟩,d⟩,⟨f,a⟩,E⟩:aw),ep 1 (rows E))]) W H' R (by omega) (by simp) (by simp;omega);clear ih;have O:jn (((⟨w,⟨q,a_3,v⟩,u,⟨⟨⟨A,C,z⟩,B⟩,j⟩,⟨⟨o,b,n⟩,d⟩,⟨f,a⟩,E⟩:aw),x) :: s)=((⟨w,⟨q,a_3,v⟩,u,⟨⟨⟨A,C,z⟩,B⟩,j⟩,⟨⟨o,b,n⟩,d⟩,⟨f,a⟩,E⟩:aw),ep 1 (rows E)) :: jn s:=rfl;rw[O]at hQ;have G : ∀y H',qq [18] 17 (bf ((acc++[((⟨w,⟨q,a_3,v⟩,u,⟨⟨⟨A,C,z⟩,B⟩,j⟩,⟨⟨o,b,n⟩,d⟩,⟨f,a⟩,E⟩:aw),ep 1 (rows E))])++jn s)) H' y->(((acc++[((⟨w,⟨q,a_3,v⟩,u,⟨⟨⟨A,C,z⟩,B⟩,j⟩,⟨⟨o,b,n⟩,d⟩,⟨f,a⟩,E⟩:aw),ep 1 (rows E))])++jn s)=[]->y=bI)->Q y H':=λy H' h Z=>hQ y H' (by simpa using h) (λe=>by simp at e);clear hQ hN O;have K : ∀(g m:Nat)(H':aa),m=acc.length+1->H'.get ⟨0,18,g,0⟩=some ⟨17,bf acc++[.agg [a8 w,a8 q,af a_3,a8 v,aI u,a8 A,af C,a8 z,aI B,aI j,a8 o,af b,a8 n,aI d,a8 f,af a,ep 1 (rows E)]],true,false⟩->qq [18] 17 (bf (acc++[((⟨w,⟨q,a_3,v⟩,u,⟨⟨⟨A,C,z⟩,B⟩,j⟩,⟨⟨o,b,n⟩,d⟩,⟨f,a⟩,E⟩:aw),ep 1 (rows E))])) H' (.bN ⟨0,18,g,0⟩ 0 m none):=(by intro g m H' hm h;subst hm;exact .inr ⟨18,g,by simp,by simp[ha],by rw[h];simp[bf,wC]⟩);have P:=gT 1 (rows E);generalize ep 1 (rows E)=xo at *;refine nI _ _ _ _ _ λg=>?_;clear M;rcases hO with ⟨rfl,hz⟩ | ⟨t,gg,ht,rfl,S⟩
  ·have Y:acc=[]:=(by simpa [bf] using hz);subst Y;have D:=K (H.gen 0 18) 1;clear K;rcases P with ⟨rfl,Z⟩ | ⟨c,rfl,U⟩
   ·simp[ai, *,dk,L.r,L.idx,F.r];exact J _ _ (by simp(maxDischargeDepth:=12) [fN, *]) (D _ rfl (by simp[bf])) (λe=>by simp at e) G
   simp[ai, *,dk,L.r,L.idx,F.r];exact J _ _ (by simp(maxDischargeDepth:=12) [fN, *]) (D _ rfl (by simp[bf])) (λe=>by simp at e) G
  rw[nc]at ht;subst ht;have l6:(H.get ⟨0,18,gg,0⟩).isSome=true:=by rw[S];rfl
  have f4:ow 17 112 acc.length true none (some ⟨17,bf acc,true,false⟩) (some [.agg [a8 w,a8 q,af a_3,a8 v,aI u,a8 A,af C,a8 z,aI B,aI j,a8 o,af b,a8 n,aI d,a8 f,af a,xo]]):=(by simp;omega);have D:=K (H.gen 0 18) (acc.length+1);clear K;have T:acc.length+1=k+1:=by rw[ha]
  have I:=λH'=>D H' rfl;clear ha D T;rcases P with ⟨rfl,Z⟩ | ⟨c,rfl,U⟩
  ·simp[ai, *,dk,L.r,L.idx,F.r];exact J _ _ (by simp(maxDischargeDepth:=12) [fN, *]) (I _ (by simp)) (λe=>by simp at e) G
  simp[ai, *,dk,L.r,L.idx,F.r];exact J _ _ (by simp(maxDischargeDepth:=12) [fN, *]) (I _ (by simp)) (λe=>by simp at e) G
theorem Sg{l:List (aw × AV)}{x0:AV}(f:Sl 17 (bf l) x0)(a : ∀p∈l,ET p)(i:l.length<100000):ax env 67 [x0]=some (ep 17 (bf (jn l))):=by
 refine ay rfl (by kernel_rfl) (vB _ _ _ λg=>?_);simp[ai, *,o9];refine RZ f a i l 0 _ [] _ _ rfl (by omega) rfl rfl (by simp(maxDischargeDepth:=12) [BV, *]) (.inl ⟨rfl,rfl⟩) (λ_=>rfl) (λy H' h d=>?_);rw[sZ]at h d;rcases h with ⟨rfl,j⟩ | ⟨t,gg,k,rfl,c⟩
 ·rw[j];simp[ep]
 have b:bf (jn l)≠[]:=by
  intro e;have:jn l=[]:=by simpa [bf] using e
  cases d this
 rw[qv 17 b];rw[kg]at *;simp[c]
theorem U4(p:UInt8)(k:UInt8)(a_3:UInt32)(m:UInt8)(l:Int)(q:UInt8)(o:UInt32)(j:UInt8)(n:Int)(e:Int)(i:UInt8)(c:UInt32)(f:UInt8)(d:Int)(a:UInt8)(b:UInt32){x y:AV}{t:List Int}(u:Sl 1 (rows t) x)(v:Sl 1 (rows t) y)(w:t.length<1000000000):ax env 62 [.agg [a8 p,a8 k,af a_3,a8 m,aI l,a8 q,af o,a8 j,aI n,aI e,a8 i,af c,a8 f,aI d,a8 a,af b,x],.agg [a8 p,a8 k,af a_3,a8 m,aI l,a8 q,af o,a8 j,aI n,aI e,a8 i,af c,a8 f,aI d,a8 a,af b,y]]=some (aB true):=by
 refine ay rfl (by kernel_rfl) (qT _ _ _ _ λg=>?_);have h:=Mz u v (by omega);rw[iQj rfl]at h;simp[ai, *,cK,u.r,v.r,ia,cg]
theorem Po{l m:List (aw × AV)}{x0 x1:AV}(P:Sl 17 (bf l) x0)(T:Sl 17 (bf m) x1)(E : ∀p∈l,ET p)(G : ∀p∈m,ET p)(hl:l.length<100000)(J:m.length=l.length){Q:AV->aa->Prop}{H:aa} :
 ∀(s t:List (aw × AV)) (k:Nat) (i:Int),l.drop k=s->m.drop k=t->opsOf s=opsOf t->k<=l.length->i=k->(∀y,y=aB true->Q y H) ->
 bu env Tryz.f21 0 gl [(5,aI i),(1,x1),(0,x0)] H Q:=by
 intro s;induction s with
 | nil=>rintro t k i hs ht ho hk rfl hQ;obtain rfl:=drop_nil hs hk;refine nJ _ _ _ _ _ λg=>?_;clear ho J;simp[ai, *,ky,P.len];all_goals exact hQ _ rfl
 | cons p s V=>
  rintro t k i hs ht ho hk rfl hQ;cases t with
  | nil=>simp[opsOf]at ho
  | cons q t=>
  obtain⟨X,Y,I,O⟩:=drop_cons hs;obtain⟨U,L,K,F⟩:=drop_cons ht;have hp:=E p (by rw[<-Y];exact je _);have hq:=G q (by rw[<-L];exact je _);obtain⟨op,x⟩:=p;obtain⟨W,y⟩:=q;have M:op=W/\opsOf s=opsOf t:=by simpa [opsOf] using ho
  obtain⟨rfl,D⟩:=M;obtain⟨v,⟨j,a_3,u⟩,n,⟨⟨⟨A,C,w⟩,B⟩,e⟩,⟨⟨h,a,f⟩,c⟩,⟨d,b⟩,al⟩:=op;obtain⟨z,N⟩:=hp;obtain⟨o,_⟩:=hq;simp only at z N o;have e3:=iQa ((k:Int)+1) (by omega);have hc:=U4 v j a_3 u n A C w B e h a f c d b z o (by omega);have Z:bL (bf l) k 0 17 true=some (.agg [a8 v,a8 j,af a_3,a8 u,aI n,a8 A,af C,a8 w,aI B,aI e,a8 h,af a,a8 f,aI c,a8 d,af b,x]):=by simp[bf,wC,O]
  have S:bL (bf m) k 0 17 true=some (.agg [a8 v,a8 j,af a_3,a8 u,aI n,a8 A,af C,a8 w,aI B,aI e,a8 h,af a,a8 f,aI c,a8 d,af b,y]):=(by simp[bf,wC,F]);have R:=V t (k+1) ((k:Int)+1) I K D (by omega) (by simp) hQ;clear V hQ ho D E G;refine nJ _ _ _ _ _ λg=>?_;simp[ai, *,ky,P.r,P.idx,T.r,T.idx,z.r,o.r]
theorem Sh{l m:List (aw × AV)}{x0 x1:AV}(f:Sl 17 (bf l) x0)(h:Sl 17 (bf m) x1)(c : ∀p∈l,ET p)(a : ∀p∈m,ET p)(j:l.length<100000)(d:opsOf l=opsOf m):ax env 21 [x0,x1]=some (aB true):=by
 refine ay rfl (by kernel_rfl) (vC _ _ _ _ λg=>?_);have k:=f.len;have o:=h.len;have b:m.length=l.length:=by have:=iQg List.length d;simpa [opsOf] using this.symm
 have e:=λQ i=>Po f h c a j b (H:=[]) (Q:=Q) l m 0 0 rfl rfl d (by omega) rfl i;have n:(m.length:Int)=l.length:=by omega
 clear d b c a;simp[ai, *,pa]
end
section
attribute [local simp] aJ az au aG aF aX lZ aO aE aH bT bS bg aP an bA gj C6
theorem V1{us:List Clear}{qs:List ak}{gr:Int}{l:List (cN × AV)}(c : ∀p∈l,Cv p)(g:(uF us qs gr l).isSome=true) : ∀p∈l,BU p:=by
 obtain⟨b,e⟩:=ik.1 g;exact λp hp=>⟨(c p hp).x,(c p hp).rng,abN e p hp⟩
def qE(p:cN × AV):cN × AV:=(p.1,ep 1 (rows p.1.op.l))
theorem Mj(p:cN × AV):(qE p).1=p.1:=rfl
theorem JZ{p:cN × AV}(d:Sl 1 (rows p.1.op.l) p.2)(f:p.1.op.l.length<100000):ax env 55 [p.1.val p.2]=some ((qE p).1.val (qE p).2):=by
 obtain⟨⟨k,u,⟨D,⟨t,a_3,A⟩,z,⟨⟨⟨E,C,q⟩,B⟩,j⟩,⟨⟨n,h,m⟩,i⟩,⟨b,e⟩,l⟩,c,H,v,w,o⟩,x⟩:=p;simp only at d f;have F:=U3 D t a_3 A z E C q B j n h m i b e d f;have G:=(gT 1 (rows l)).r;refine ay rfl (by kernel_rfl) (yt _ _ _ λg=>?_);unfold qE cN.val;simp only;generalize ep 1 (rows l)=y at *;simp[ai, *,rq,d.r]
section
variable{l:List (cN × AV)}{x1:AV}(d:Sl 24 (bW l) x1)(f:l.length<10000)(a : ∀p∈l,Cv p)
include d f a
theorem Mi{Q:AV->aa->Prop}(c : ∀H h,Fr H->Own 24 (bW (l.map qE)) H h->Q h H) :
 ∀(s:List (cN × AV)) (k:Nat) (H:aa) (h:AV),l.drop k=s->k<=l.length->Fr H->Own 24 (bW ((l.take k).map qE)) H h->(∀q,h.at?=some q->q.t=18) ->
 bu env Tryz.f14 0 iZ [(4,aI k),(0,x1),(3,h)] H Q:=by
 intro s;induction s with
 | nil=>rintro k H h hs hk hF i ht;obtain rfl:=drop_nil hs hk;rw[AT]at i;have D:=c H h hF i;have v:=eZ l;clear c;refine lK _ _ _ _ _ λg=>?_;simp[ai, *,jc,d.r];all_goals exact D
 | cons p s L=>
  rintro k H h hs hk hF i ht;obtain⟨F,M,A,n⟩:=drop_cons hs;have W:=iQa ((k:Int)+1) (by omega);have o:bL (bW l) k 0 24 true=some (p.1.val p.2):=by rw[CC n];simp[bL,cN.val]
  have v:=eZ l;have m:(k:Int)<l.length:=by omega
  have hp:=a p (M ▸ je F);have w:=JZ hp.x hp.len;have G:(l.take (k+1)).map qE=(l.take k).map qE++[qE p]:=by rw[Ev,n];simp
  have b:=λH' O T V U=>L (k+1) H' O A (by omega) T V U;rw[show((k+1:Nat):Int)=(k:Int)+1 from by omega,G,show bW ((l.take k).map qE++[qE p])=bW ((l.take k).map qE)++[(qE p).1.val (qE p).2] from by simp[bW]]at b;have u:(bW ((l.take k).map qE)).length=k:=by rw[eZ,pI,nZ];omega
  have I:=(gT 1 (rows p.1.op.l)).r;have J:=hp.x;clear L hs A M n a c G;unfold qE at b w;simp only at b w;have B:=J.r;clear hp F;generalize ep 1 (rows p.1.op.l)=y at *;generalize p.2=x at *;generalize p.1=r at *;unfold cN.val at o w b;generalize bW l=er at *;generalize C:bW ((l.take k).map qE)=eo at *;have j:bW (List.map (λp=>(p.1,ep 1 (rows p.1.op.l))) (List.take k l))=eo:=C;rw[j]at b;clear C j;rcases i with ⟨rfl,i⟩ | ⟨t,rfl,i⟩
  ·subst i;clear u;refine lK _ _ _ _ _ λg=>?_;simp[ai, *,jc,d.r,d.idx,m,v,o,w,I,B];refine b _ (.bN ⟨0,18,H.gen 0 18,0⟩ 0 1 none) ?_ (.inr ⟨⟨0,18,H.gen 0 18,0⟩,rfl,?_⟩) (λq K=>by cases K;rfl);·simp(maxDischargeDepth:=12) [fN, *]
   simp(maxDischargeDepth:=12) [fN, *]
  have z:=ht t rfl;obtain⟨E,tt,S,N⟩:=t;simp only at z;subst z;have R : ∀e,ow 24 160 k true none (some ⟨24,eo,true,false⟩) (some [AV.agg e]):=(by intro e;simp;omega);have P:(H.get ⟨E,18,S,N⟩).isSome=true:=by rw[i];rfl
  refine lK _ _ _ _ _ λg=>?_;simp[ai, *,jc,d.r,d.idx,m,v,o,w,I,B,hF,P,i,R,u,aa.get_put];refine b _ (.bN ⟨E,18,H.gen E 18,0⟩ 0 (k+1) none) ?_ (.inr ⟨⟨E,18,H.gen E 18,0⟩,by simp[u],?_⟩) (λq K=>by cases K;rfl);·simp(maxDischargeDepth:=12) [fN, *]
  simp(maxDischargeDepth:=12) [fN, *]
theorem Sx : ∃y,ax env 14 [x1]=some y/\Sl 24 (bW (l.map qE)) y:=by
 refine vR (fn:=Tryz.f14) (c:=yZ) (by kernel_rfl) (by kernel_rfl) (by kernel_rfl) (by kernel_rfl) (by kernel_rfl) ?_;refine yA _ _ _ λg=>?_;simp[ai, *,ry];refine Mi d f a (λH' j e h=>?_) l 0 [] bI rfl (by omega) Fr.nil (.inl ⟨rfl,rfl⟩) (λq i=>by cases i);have b:=eZ (l.map qE);rw[pI]at b;generalize bW (l.map qE)=ee at *;rcases h with ⟨rfl,h⟩ | ⟨r,rfl,h⟩
 ·simp[h]
 simp[h]
end
end
section
attribute [local simp] aJ az au aG aF aX lZ aO aE aH bT bS bg aP an bA gj
def RV(us:List Clear)(qs:List ak)(gr:Int)(l:List (cN × AV))(o:aw):AV:=if (uF us qs gr l).isSome=true/\mz o=true then .tup [aI (E0 qs l o),aI 0] else .tup [aI 0,aI 8]
theorem VT{o:aw}(h:mz o=true):eN o.s=true/\o.h.lv<=15:=by
 simp only[mz,aT,iQb]at h;obtain⟨b,g,q,e,hm⟩:=h;refine⟨e,?_⟩;simp only[mA,aT,iQb]at b;exact b.1
section
variable{f:cN × AV->cN × AV}(m : ∀p,(f p).1=p.1)
include m
theorem aa2(us:List Clear)(qs:List ak)(gr:Int)(l:List (cN × AV))(o:aw):Mb us qs gr (l.map f) o=RV us qs gr l o:=by
 unfold RV Mb;have h:=Lk m us qs gr l;cases q:uF us qs gr (l.map f) with
 | none=>rw[q]at h;rw[if_neg (λe=>by rw[<-h]at e;cases e.1)]
 | some b=>
  rw[q]at h;simp only;by_cases g:mz o=true;·rw[if_pos g,if_pos ⟨h.symm,g⟩,(Nk q).verdict (PX q).1 (PX q).2 g (VT g).2,Ws m]
  rw[if_neg g,if_neg (λe=>g e.2)]
theorem VU(v:jW)(l:List (cN × AV)):(l.map f).filter (nm v)=(l.filter (nm v)).map f:=by
 induction l with| nil=>rfl| cons p l b=>
  have e:nm v (f p)=nm v p:=by unfold nm;rw[m p]
  rw[pG,AL,AL,e,b];split<;>rfl
theorem WA{us:List Clear}{qs:List ak}{gr:Int}{l:List (cN × AV)}{b:gR}(h:uF us qs gr (l.map f)=some b):opsOf b.cD=opsOf (jT l):=by
 rw[(Nk h).cD,E8 m]
end
section
variable{l:List (cN × AV)}{x1:AV}(d:Sl 24 (bW l) x1)(a : ∀p∈l,Cv p)
variable{t n:AV}{us:List Clear}{qs:List ak}{gr:Int}(j:Sl 3 (de us) t)(c:Sl 5 (cR qs) n)(k:qs.length<1000)(i:us.length<1000)(u:l.length<10000)
include d a j c k i u
theorem K6(E:UInt8)(z:UInt8)(a_3:UInt32)(B:UInt8)(A:Int)(F:UInt8)(D:UInt32)(y:UInt8)(C:Int)(q:Int)(w:UInt8)(h:UInt32)(v:UInt8)(o:Int)(b:UInt8)(e:UInt32){x:AV}{H:List Int}(G:Sl 1 (rows H) x)(M:H.length<100000)(J:rX H) :
 ax env 18 [.agg [t,n,aI gr],x1,.agg [a8 E,a8 z,af a_3,a8 B,aI A,a8 F,af D,a8 y,aI C,aI q,a8 w,af h,a8 v,aI o,a8 b,af e,x]]=some (RV us qs gr l (⟨E,⟨z,a_3,B⟩,A,⟨⟨⟨F,D,y⟩,C⟩,q⟩,⟨⟨w,h,v⟩,o⟩,⟨b,e⟩,H⟩:aw)):=by
 have N:=EI (gr:=gr) d a j c k i (by omega);have L:=QW E z a_3 B A F D y C q w h v o b e G (by omega) J;have I:=V1 (us:=us) (qs:=qs) (gr:=gr) a;unfold RV;refine ay rfl (by kernel_rfl) (vx _ _ _ _ _ λg=>?_);generalize (uF us qs gr l).isSome=ob at *;cases ob with
 | false=>simp[ai, *,iC,d.r,j.r,c.r,G.r,N]
 | true=>
  cases K:mz (⟨E,⟨z,a_3,B⟩,A,⟨⟨⟨F,D,y⟩,C⟩,q⟩,⟨⟨w,h,v⟩,o⟩,⟨b,e⟩,H⟩:aw) with| false=>rw[K]at L;simp[ai, *,iC,d.r,j.r,c.r,G.r,N,L]| true=>rw[K]at L;have O:=FA (gr:=gr) d u (I rfl) j c k i E z a_3 B A F D y C q w h v o b e G (VT K).1 J M;generalize E0 qs l (⟨E,⟨z,a_3,B⟩,A,⟨⟨⟨F,D,y⟩,C⟩,q⟩,⟨⟨w,h,v⟩,o⟩,⟨b,e⟩,H⟩:aw)=jb at *;clear K I;simp[ai, *,iC,d.r,j.r,c.r,G.r,N,L,O]
def Y8(us:List Clear)(qs:List ak)(gr:Int)(l:List (cN × AV)):AV:=if (uF us qs gr l).isSome=true then .tup [ep 17 (bf (jn (jT l))),aI 0] else .tup [bI,aI 8]
theorem K7:ax env 16 [.agg [t,n,aI gr],x1]=some (Y8 us qs gr l):=by
 have e:=EI (gr:=gr) d a j c k i (by omega);obtain⟨y,o,b⟩:=JX d (by omega) (λp hp=>(a p hp).x);have v:=D1 l;have h:=Sg b (λp hp=>by
  obtain⟨q,c,rfl⟩:=jO.1 hp;have:=a q (AR.1 c).1;exact⟨this.x,by have:=this.len;simp only;omega⟩) (by omega)
 have w:=(gT 17 (bf (jn (jT l)))).r;unfold Y8;refine ay rfl (by kernel_rfl) (vA _ _ _ _ λg=>?_);generalize (uF us qs gr l).isSome=ob at *;generalize ep 17 (bf (jn (jT l)))=O at *;cases ob with
 | false=>simp[ai, *,lb,d.r,j.r,c.r,e]
 | true=>simp[ai, *,lb,d.r,j.r,c.r,b.r,e,o,h]
end
section
variable{l:List (cN × AV)}{x1:AV}(i:Sl 24 (bW l) x1)(A:l.length<10000)(a : ∀p∈l,Cv p)(d:UInt8)(f:UInt32)
include i A a
theorem RY{r3:Ref}{Q:AV->aa->Prop}(hQ : ∀y H,Own 24 (bW ((l.filter (nm ⟨d,f⟩)).map qE)) H y->Q y H) :
 ∀(s:List (cN × AV)) (j:Nat) (y:AV) (H:aa),l.drop j=s->j<=l.length->Fr H->Own 24 (bW (((l.take j).filter (nm ⟨d,f⟩)).map qE)) H y->H.get r3=some ⟨2,[.agg [a8 d,af f]],false,false⟩->y.at?≠some r3 ->
 bu env Tryz.f79 0 db [(6,aI j),(0,x1),(5,y),(3,.ptr r3 0 0)] H Q:=by
 intro s;induction s with
 | nil=>intro j y H hs hj hF U h3 n5;obtain rfl:=drop_nil hs hj;rw[AT]at U;have V:=hQ y H U;have L:=eZ l;clear hQ a;refine pr _ _ _ _ _ _ λg=>?_;simp[ai, *,fG,i.r];all_goals exact V
 | cons p s ih=>
  intro j y H hs hj hF U h3 n5;obtain⟨hlt,hg,M,S⟩:=drop_cons hs;have hp:=a p (hg ▸ je hlt);have hT:=JZ hp.x hp.len;have hpr:=hp.x.r;have hOr:=(gT 1 (rows p.1.op.l)).r;have e3:=iQa ((j:Int)+1) (by omega);have F:(j:Int)<l.length:=by omega
  have L:=eZ l;have K:=CC S;have hn:H.get ⟨0,36,H.gen 0 36,0⟩=none:=hF 0 36 _ 0 (cH _);have J : ∀q b,H.get q=some b->aa.get ((⟨0,36,H.gen 0 36,0⟩,some ⟨24,[(qE p).1.val (qE p).2],true,false⟩) :: H) q=some b:=λq b T=>by
   rw[aa.fh,if_neg (λe=>by rw[<-e,hn]at T;cases T)];exact T
  have hF1:Fr ((⟨0,36,H.gen 0 36,0⟩,some ⟨24,[(qE p).1.val (qE p).2],true,false⟩) :: H):=xp hF rfl _;have h5':Own 24 (bW (((l.take j).filter (nm ⟨d,f⟩)).map qE)) ((⟨0,36,H.gen 0 36,0⟩,some ⟨24,[(qE p).1.val (qE p).2],true,false⟩) :: H) y:=by
   rcases U with ⟨rfl,e⟩ | ⟨q,rfl,k⟩
   ·exact .inl ⟨rfl,e⟩
   exact .inr ⟨q,rfl,J _ _ k⟩
  have hfl:=GU (nm ⟨d,f⟩) (l.take j);have htl:(l.take j).length<=j:=by rw[nZ];omega
  obtain⟨s',H',a1,a2,a3,a4⟩:=Xk (P:=env.P) (t:=26) (t':=26) (z:=24) (by':=160) (by kernel_rfl) (by kernel_rfl) _ 0 37 h5' (YG (r:=⟨0,36,H.gen 0 36,0⟩) (n:=1) (by rw[aa.fh,if_pos rfl]) rfl (some 1)) (by rw[eZ,pI,GV];show(_+_) * 160<=140737488355328;omega) hF1;have R:l.take (j+1)=l.take j++[p]:=by rw[Ev,S];rfl
  have h:nm ⟨d,f⟩ p=true->bu env Tryz.f79 0 db [(6,aI ((j:Int)+1)),(0,x1),(5,s'),(3,.ptr r3 0 0)] H' Q:=by
   intro T;have:=ih (j+1) s' H' M (by omega) a3 (by
    rw[R,KB,Ai,AL,if_pos T];simp only[List.filter_nil,pG,GH,bW,Ai]at a2 ⊢;exact a2) (a4 _ _ (J _ _ h3) n5).1 (a4 _ _ (J _ _ h3) n5).2
   rw[show((j+1:Nat):Int)=(j:Int)+1 from by omega]at this;exact this
  have G:nm ⟨d,f⟩ p=false->bu env Tryz.f79 0 db [(6,aI ((j:Int)+1)),(0,x1),(5,y),(3,.ptr r3 0 0)] H Q:=by
   intro T;have:=ih (j+1) y H M (by omega) hF (by
    rw[R,KB,AL,T];simpa using U) h3 n5
   rw[show((j+1:Nat):Int)=(j:Int)+1 from by omega]at this;exact this
  clear ih hQ a hp a2 a4 U h5' R J hfl htl hs M hg S;unfold qE at hT a1;obtain⟨⟨k1,u,⟨a_1,⟨I,a_3,a_4⟩,a_5,⟨⟨⟨a_6,a_7,a_8⟩,a_9⟩,a_10⟩,⟨⟨a_11,X,a_13⟩,Y⟩,⟨Z,W⟩,al⟩,c,g1,v,w,o⟩,x⟩:=p;have hL:=K5 I a_3 d f;have hoB:nm ⟨d,f⟩ (⟨k1,u,(⟨a_1,⟨I,a_3,a_4⟩,a_5,⟨⟨⟨a_6,a_7,a_8⟩,a_9⟩,a_10⟩,⟨⟨a_11,X,a_13⟩,Y⟩,⟨Z,W⟩,al⟩:aw),c,g1,v,w,o⟩,x)=(decide (k1=3)||rG ⟨I,a_3⟩ ⟨d,f⟩):=rfl;rw[hoB]at h G;generalize rG ⟨I,a_3⟩ ⟨d,f⟩=b1 at *;simp only[cN.val]at hT a1 K hpr hOr;generalize ep 1 (rows al)=O at *;generalize bW l=er at *;refine pr _ _ _ _ _ _ λg=>?_;by_cases e1:k1=3;·subst e1;have N:=h (by simp);clear G h;simp[ai, *,fG,i.r,i.idx,K,L,F];refine tL (by simpa using a1) ?_;simp[e3];exact N
  cases b1 with| true=>have N:=h (by simp);clear G h;simp[ai, *,fG,i.r,i.idx,K,L,F,e1];refine tL (by simpa using a1) ?_;simp[e3];exact N| false=>have hn2:=G (by simp[e1]);clear G h a1;simp[ai, *,fG,i.r,i.idx,K,L,F,e1];all_goals exact hn2
theorem Sp : ∃y,ax env 79 [x1,.agg [a8 d,af f]]=some y/\Sl 24 (bW ((l.filter (nm ⟨d,f⟩)).map qE)) y:=by
 refine vR (fn:=Tryz.f79) (c:=yW) (by kernel_rfl) (by kernel_rfl) (by kernel_rfl) (by kernel_rfl) (by kernel_rfl) ?_;refine yi _ _ _ _ λg=>?_;have e:=RY i A a d f (r3:=⟨0,3,0,0⟩) (Q:=λx H =>∃y,handed env 79 x H y/\Sl 24 (bW ((l.filter (nm ⟨d,f⟩)).map qE)) y) (λj H h=>by
  have b:=eZ ((l.filter (nm ⟨d,f⟩)).map qE);generalize (l.filter (nm ⟨d,f⟩)).map qE=ll at *;generalize bW ll=ee at *;rcases h with ⟨rfl,h⟩ | ⟨r,rfl,h⟩
  ·simp[h]
  simp[h,b]) l 0 bI [(⟨0,3,0,0⟩,some ⟨2,[.agg [a8 d,af f]],false,false⟩)] rfl (by omega) (by simp(maxDischargeDepth:=12) [BV, *]) (.inl ⟨rfl,rfl⟩) rfl (by simp[AV.at?])
 clear a;simp[ai, *,ra];exact e
end
section
variable{l:List (cN × AV)}{x1:AV}(i:Sl 24 (bW l) x1)(a : ∀p∈l,Cv p)
variable{E D:AV}{us:List Clear}{qs:List ak}{gr:Int}(B:Sl 3 (de us) E)(k:Sl 5 (cR qs) D)(C:qs.length<1000)(m:us.length<1000)(A:l.length<10000)
include i a B k C m A
def Rd(us:List Clear)(qs:List ak)(gr:Int)(l:List (cN × AV))(d:UInt8)(f:UInt32)(y:AV):Prop:=
 if (uF us qs gr l).isSome=true/\d<=15 then ∃z,y = .tup [z,aI 0]/\Sl 24 (bW ((l.filter (nm ⟨d,f⟩)).map qE)) z else y = .tup [bI,aI 8]
theorem Sq(d:UInt8)(f:UInt32) : ∃y,ax env 20 [.agg [E,D,aI gr],x1,.agg [a8 d,af f]]=some y/\Rd us qs gr l d f y:=by
 have e:=EI (gr:=gr) i a B k C m (by omega);obtain⟨z,n,c⟩:=Sp i A a d f;have j:=c.r;unfold Rd;generalize (uF us qs gr l).isSome=ob at *;cases ob with
 | false=>refine⟨_,?_,by rw[if_neg (by simp)]⟩;refine ay rfl (by kernel_rfl) (mM _ _ _ _ _ λg=>?_);simp[ai, *,kp,i.r,B.r,k.r,e]
 | true=>
  by_cases b:d<=15;·refine⟨_,?_,by rw[if_pos ⟨rfl,b⟩];exact⟨z,rfl,c⟩⟩;clear c;refine ay rfl (by kernel_rfl) (mM _ _ _ _ _ λg=>?_);simp[ai, *,kp,i.r,B.r,k.r,e,n,b]
  refine⟨_,?_,by rw[if_neg (λh=>b h.2)]⟩;clear c;refine ay rfl (by kernel_rfl) (mM _ _ _ _ _ λg=>?_);simp[ai, *,kp,i.r,B.r,k.r,e,b]
end
theorem B6{m:List Int}{k:Nat}(h:k<m.length)(v:Int):fP (rows m) k 0 [aR v]=some (rows (m.set k v)):=by
 unfold fP rows;rw[k5,dy h];show some ((m.map aR).set k (aR v))=_;rw[Ep]
theorem Gn{z:Nat}{H:aa}{r:Ref}{es':List AV}{rs:List Ref}(h:qp z H r es' rs){k j:Nat}{A B:List AV}{m:List Int}(C:A.length=j)(hp:es'[k]?=some (.agg (A++oP 1 (rows m) :: B))) :
 ∃es cell,H.get r=some ⟨z,es,false,false⟩/\es.length=es'.length/\bL es k j 1 false=some cell/\((cell=bI/\m=[])\/(m≠[] /\∃q,cell = .bN q 0 m.length none/\H.get q=some ⟨1,rows m,true,false⟩/\q∈rs/\q≠r /\
  ∀a:List Int,a.length=m.length->qp z (H.put q (some ⟨1,rows a,true,false⟩)) r (es'.set k (.agg (A++oP 1 (rows a) :: B))) rs)):=by
 have c : ∀y:AV,(A++y :: B)[j]?=some y:=λy=>by rw[jP (by omega),C,wH];rfl
 by_cases d:m=[]
 ·obtain⟨es,xs,v,p,l,g,_⟩:=h.at hp;have t:rows m=[]:=by rw[d];rfl
  rw[t,Nf]at g;obtain⟨x,I,D⟩:=F2.at g (i:=j) (y:=bI) (c _);refine⟨es,x,v,p,by rw[HS l I],.inl ⟨?_,d⟩⟩;rcases D with ⟨w,_⟩ | ⟨_,_,_,_,_,w,_⟩
  ·exact w
  cases w
 have t:rows m≠[]:=by simpa [rows] using d
 rw[pe 1 t]at hp;obtain⟨es,xs,q,v,p,l,g,F,J,G,E⟩:=h.ajl hp (j:=j) (c _);have o:(rows m).length=m.length:=by simp[rows]
 refine⟨es,_,v,p,HS l g,.inr ⟨d,q,by rw[o],F,J,G,λa b=>?_⟩⟩;have:=E (rows a) (by simp[rows,b]);have u:rows a≠[]:=λe=>by
  have:a=[]:=(by simpa [rows] using e);rw[this]at b;exact d (Fu.1 b.symm)
 rw[Gy _ _ (by omega),C,wH,Fm]at this;rw[pe 1 u];exact this
def Fg(j:Nat)(es':List AV):Prop :=∀e∈es',∃A m B,e = .agg (A++oP 1 (rows m) :: B)/\A.length=j/\m.length<1000000
theorem Fg.set{j:Nat}{es':List AV}(h:Fg j es'){k:Nat}{A B:List AV}{m:List Int}(c:A.length=j)(d:m.length<1000000):Fg j (es'.set k (.agg (A++oP 1 (rows m) :: B))):=by
 intro e b;rcases O2 b with a | a
 ·exact h e a
 exact⟨A,m,B,a,c,d⟩
theorem Gm{z:Nat}{H:aa}{s:AV}{es':List AV}{rs:List Ref}{n i:Nat}{e:AV}(b:uO z H s es' rs)(c:es'.length=n)(hp:es'[i]?=some e) : ∃r,s = .dsl r 0 n none/\qp z H r es' rs:=by
 rcases b with ⟨_,h,_⟩ | ⟨_,_,h,_⟩ | ⟨r',es,g,l,k,a,d,j⟩
 ·rw[h]at hp;cases hp
 ·rw[h]at hp;cases hp
 exact⟨r',by rw[g,a.len,c],es,k,a,d,j⟩
theorem yU{z:Nat}{H:aa}{s:AV}{es':List AV}{rs:List Ref}(h:uO z H s es' rs):s.cells=[s]/\s.one=true:=by
 rcases h with ⟨rfl,_,_⟩ | ⟨r,rfl,_,_,_⟩ | ⟨r,es,rfl,_⟩<;>exact⟨rfl,rfl⟩
def ZH(H0 H:aa)(rs:List Ref):Prop :=∀q b,q ∉ rs->H0.get q=some b->H.get q=some b
section
variable{s x18 x1 x9 x22:AV}{rs:List Ref}{H0:aa}{n:Nat}{Q:AV->aa->Prop}(f:n<1000000)
include f
theorem afF{k:Nat}(hk:k<n)(i : ∀(H:aa)(es':List AV),Fr H->uO 17 H s es' rs->es'.length=n->Fg 16 es'->ZH H0 H rs->bu env Tryz.f3 0 ct [(23,aI ((k:Int)+1)),(10,s),(18,x18),(1,x1),(9,x9),(22,x22)] H Q) :
 ∀(d w:Nat)(H:aa)(es' A B:List AV)(m:List Int),es'[k]?=some (.agg (A++oP 1 (rows m) :: B))->A.length=16->m.length<1000000->w+d=m.length->Fr H->uO 17 H s es' rs->es'.length=n->Fg 16 es'->ZH H0 H rs ->
 bu env Tryz.f3 0 eG [(24,aI w),(23,aI k),(10,s),(18,x18),(1,x1),(9,x9),(22,x22)] H Q:=by
 intro d;have Y:(k:Int)<n:=by omega
 have e3:=iQa ((k:Int)+1) (by omega);induction d with
 | zero=>
  intro w H es' A B m hp u F x D p l y v;obtain⟨r,rfl,c⟩:=Gm p l hp;obtain⟨es,cell,Z,J,T,C⟩:=Gn c u hp;have K:=i H es' D p l y v;have z:og cell=some w/\cell.cells=[cell]/\cell.one=true:=by
   rcases C with ⟨rfl,h⟩ | ⟨_,q,rfl,_⟩
   ·have:w=0:=by rw[h]at x;simpa using x
    subst this;exact⟨rfl,rfl,rfl⟩
   have:w=m.length:=(by omega);subst this;exact⟨rfl,rfl,rfl⟩
  obtain⟨c1,c2,c3⟩:=z;rw[l]at J;clear C i v p c y hp;refine lB _ _ _ _ _ _ _ _ _ λg=>?_;simp[ai, *,gZ];first | done | exact K
 | succ d S=>
  intro w H es' A B m hp u F x D p l y v;obtain⟨r,rfl,c⟩:=Gm p l hp;obtain⟨es,cell,Z,J,T,C⟩:=Gn c u hp;rcases C with ⟨_,h⟩ | ⟨X,q,rfl,V,g6,g7,M⟩
  ·rw[h]at x;simp at x
  have E:w<m.length:=(by omega);have P:(w:Int)<m.length:=(by omega);have e4:=iQa ((w:Int)+1) (by omega);have I:=B6 E 7;have G:k<es'.length:=(ew.1 hp).1;have j:=M (m.set w 7) (by simp);have a:(es'.set k (.agg (A++oP 1 (rows (m.set w 7)) :: B))).length=n:=by simp[l]
  have o:=j.row (λe=>by
   have:=iQg List.length e;rw[a]at this;simp at this;omega)
  rw[a]at o;have t:=S (w+1) (H.put q (some ⟨1,rows (m.set w 7),true,false⟩)) _ A B (m.set w 7) (by rw[GA G]) u (by simpa using F) (by simp;omega) (CS D (by rw[V];rfl) _) o a (y.set u (by simpa using F)) (λO b N L=>by rw[aa.get_put,if_neg (λe:O=q=>N (by rw[e];exact g6))];exact v O b N L);rw[show((w+1:Nat):Int)=(w:Int)+1 from by omega]at t;rw[l]at J;clear M i v p c j y hp S o a;refine lB _ _ _ _ _ _ _ _ _ λg=>?_;have U:(rows m).length=m.length:=by simp[rows]
  generalize rows (m.set w 7)=W at *;generalize rows m=R at *;simp only[aR]at I;simp[ai, *,gZ,G2];first | done | exact t
theorem afG(q : ∀H,Fr H->og s=some n->ZH H0 H rs->bu env Tryz.f3 0 ct [(23,aI n),(10,s),(18,x18),(1,x1),(9,x9),(22,x22)] H Q) : ∀(d k:Nat)(H:aa)(es':List AV),k+d=n->Fr H->uO 17 H s es' rs->es'.length=n->Fg 16 es'->ZH H0 H rs ->
 bu env Tryz.f3 0 ct [(23,aI k),(10,s),(18,x18),(1,x1),(9,x9),(22,x22)] H Q:=by
 intro d;induction d with
 | zero=>
  intro k H es' v p i j o l;have h:=i.len;rw[j]at h;obtain rfl:k=n:=by omega
  exact q H p h l
 | succ d u=>
  intro k H es' v p i j o l;have h:=i.len;rw[j]at h;have x:(k:Int)<n:=by omega
  obtain⟨e,he⟩ : ∃e,es'[k]?=some e:=⟨_,dy (by omega)⟩;obtain⟨A,m,B,rfl,w,hm⟩:=o _ (dJ he);have t:=afF f (k:=k) (by omega) (λH es' a b c d e=>by
   have:=u (k+1) H es' (by omega) a b c d e;rw[show((k+1:Nat):Int)=(k:Int)+1 from by omega]at this;exact this) m.length 0 H es' A B m he w hm (by omega) p i j o l
  rw[show((0:Nat):Int)=0 from rfl]at t;obtain⟨z,y⟩:=yU i;clear q i u l o he;refine lC _ _ _ _ _ _ _ _ λg=>?_;simp[ai, *,hY];first | done | exact t
end
section
variable{s x1 x9 x22:AV}{rs:List Ref}{H0:aa}{n:Nat}{Q:AV->aa->Prop}(f:n<1000000)
include f
theorem afD{k:Nat}(hk:k<n)(i : ∀(H:aa)(es':List AV),Fr H->uO 24 H s es' rs->es'.length=n->Fg 18 es'->ZH H0 H rs->bu env Tryz.f3 0 bC [(25,aI ((k:Int)+1)),(18,s),(1,x1),(9,x9),(22,x22)] H Q) :
 ∀(d w:Nat)(H:aa)(es' A B:List AV)(m:List Int),es'[k]?=some (.agg (A++oP 1 (rows m) :: B))->A.length=18->m.length<1000000->w+d=m.length->Fr H->uO 24 H s es' rs->es'.length=n->Fg 18 es'->ZH H0 H rs ->
 bu env Tryz.f3 0 eF [(26,aI w),(25,aI k),(18,s),(1,x1),(9,x9),(22,x22)] H Q:=by
 intro d;have Y:(k:Int)<n:=by omega
 have e3:=iQa ((k:Int)+1) (by omega);induction d with
 | zero=>
  intro w H es' A B m hp u F x D p l y v;obtain⟨r,rfl,c⟩:=Gm p l hp;obtain⟨es,cell,Z,J,T,C⟩:=Gn c u hp;have K:=i H es' D p l y v;have z:og cell=some w/\cell.cells=[cell]/\cell.one=true:=by
   rcases C with ⟨rfl,h⟩ | ⟨_,q,rfl,_⟩
   ·have:w=0:=by rw[h]at x;simpa using x
    subst this;exact⟨rfl,rfl,rfl⟩
   have:w=m.length:=(by omega);subst this;exact⟨rfl,rfl,rfl⟩
  obtain⟨c1,c2,c3⟩:=z;rw[l]at J;clear C i v p c y hp;refine lz _ _ _ _ _ _ _ _ λg=>?_;simp[ai, *,gX];first | done | exact K
 | succ d S=>
  intro w H es' A B m hp u F x D p l y v;obtain⟨r,rfl,c⟩:=Gm p l hp;obtain⟨es,cell,Z,J,T,C⟩:=Gn c u hp;rcases C with ⟨_,h⟩ | ⟨X,q,rfl,V,g6,g7,M⟩
  ·rw[h]at x;simp at x
  have E:w<m.length:=(by omega);have P:(w:Int)<m.length:=(by omega);have e4:=iQa ((w:Int)+1) (by omega);have I:=B6 E 7;have G:k<es'.length:=(ew.1 hp).1;have j:=M (m.set w 7) (by simp);have a:(es'.set k (.agg (A++oP 1 (rows (m.set w 7)) :: B))).length=n:=by simp[l]
  have o:=j.row (λe=>by
   have:=iQg List.length e;rw[a]at this;simp at this;omega)
  rw[a]at o;have t:=S (w+1) (H.put q (some ⟨1,rows (m.set w 7),true,false⟩)) _ A B (m.set w 7) (by rw[GA G]) u (by simpa using F) (by simp;omega) (CS D (by rw[V];rfl) _) o a (y.set u (by simpa using F)) (λO b N L=>by rw[aa.get_put,if_neg (λe:O=q=>N (by rw[e];exact g6))];exact v O b N L);rw[show((w+1:Nat):Int)=(w:Int)+1 from by omega]at t;rw[l]at J;clear M i v p c j y hp S o a;refine lz _ _ _ _ _ _ _ _ λg=>?_;have U:(rows m).length=m.length:=by simp[rows]
  generalize rows (m.set w 7)=W at *;generalize rows m=R at *;simp only[aR]at I;simp[ai, *,gX,G2];first | done | exact t
theorem afE(q : ∀H,Fr H->og s=some n->ZH H0 H rs->bu env Tryz.f3 0 bC [(25,aI n),(18,s),(1,x1),(9,x9),(22,x22)] H Q) : ∀(d k:Nat)(H:aa)(es':List AV),k+d=n->Fr H->uO 24 H s es' rs->es'.length=n->Fg 18 es'->ZH H0 H rs ->
 bu env Tryz.f3 0 bC [(25,aI k),(18,s),(1,x1),(9,x9),(22,x22)] H Q:=by
 intro d;induction d with
 | zero=>
  intro k H es' v p i j o l;have h:=i.len;rw[j]at h;obtain rfl:k=n:=by omega
  exact q H p h l
 | succ d u=>
  intro k H es' v p i j o l;have h:=i.len;rw[j]at h;have x:(k:Int)<n:=by omega
  obtain⟨e,he⟩ : ∃e,es'[k]?=some e:=⟨_,dy (by omega)⟩;obtain⟨A,m,B,rfl,w,hm⟩:=o _ (dJ he);have t:=afD f (k:=k) (by omega) (λH es' a b c d e=>by
   have:=u (k+1) H es' (by omega) a b c d e;rw[show((k+1:Nat):Int)=(k:Int)+1 from by omega]at this;exact this) m.length 0 H es' A B m he w hm (by omega) p i j o l
  rw[show((0:Nat):Int)=0 from rfl]at t;obtain⟨z,y⟩:=yU i;clear q i u l o he;refine lA _ _ _ _ _ _ _ λg=>?_;simp[ai, *,gY];first | done | exact t
end
theorem MK(l:List (aw × AV)):(mO l).map A3=bf (jn l):=by
 have e:mO l=mO (jn l):=by
  unfold mO jn;rw[zb];rfl
 rw[e,HN];intro p hp;obtain⟨q,_,rfl⟩:=jO.1 hp;rfl
theorem MJ(l:List (cN × AV)):(fB l).map A3=bW (l.map qE):=by
 have e:fB l=fB (l.map qE):=by
  unfold fB;rw[zb];rfl
 rw[e,Px];intro p hp;obtain⟨q,_,rfl⟩:=jO.1 hp;rfl
theorem Wc{y:AV}(e:Int) : ∀r s a,aj r 7 y []=(s,a)->aj r depth (.tup [y,aI e]) []=(.tup [s,aI e],a):=by
 intro r s a h;show(λp:List AV × List aQ=>(AV.tup p.1,p.2)) ([y,aI e].foldl (λ(p:List AV × List aQ) c=>let (y,a):=aj r 7 c p.2;(p.1++[y],a)) ([],[]))=_;simp only[tZ,h];rfl
section
variable{l:List (cN × AV)}{us:List Clear}{qs:List ak}{gr:Int}(d : ∀p∈l,Cv p)
include d
theorem WB : ∃(g a:List (aw × AV)) (e:Int),Y9 us qs gr (l.map qE) = .tup [CG 17 (mO g),aI e]/\Y8 us qs gr l = .tup [ep 17 (bf (jn a)),aI e]/\opsOf g=opsOf a/\a.length<=l.length /\∀p∈a,p.1.l.length<100000:=by
 unfold Y9 Y8;have h:=Lk Mj us qs gr l;cases c:uF us qs gr (l.map qE) with
 | none=>rw[c]at h;rw[if_neg (λe=>by rw[<-h]at e;cases e)];exact⟨[],[],8,rfl,rfl,rfl,by simp,by simp⟩
 | some b=>rw[c]at h;have j:(uF us qs gr l).isSome=true:=h.symm;rw[if_pos j];have f:=D1 l;refine⟨b.cD,jT l,0,rfl,rfl,WA Mj c,f,λp hp=>?_⟩;obtain⟨q,i,rfl⟩:=jO.1 hp;exact(d q (AR.1 i).1).len
theorem S3{g:UInt8}{i:UInt32}{y:AV}(a:Rd us qs gr l g i y) : ∃(f:List (cN × AV)) (z:AV) (e:Int),Re us qs gr (l.map qE) g i = .tup [CG 24 (fB (f.map qE)),aI e]/\y = .tup [z,aI e]/\Sl 24 (bW (f.map qE)) z/\f.length<=l.length /\∀p∈f,Cv p:=by
 unfold Re;unfold Rd at a;have h:=Lk Mj us qs gr l;cases j:uF us qs gr (l.map qE) with
 | none=>rw[j]at h;rw[if_neg (λe=>by rw[<-h]at e;cases e.1)]at a;exact⟨[],bI,8,rfl,a,.inl ⟨rfl,rfl⟩,by simp,by simp⟩
 | some b=>
  rw[j]at h;dsimp only;by_cases c:g<=15;·have k:(uF us qs gr l).isSome=true:=h.symm;rw[if_pos ⟨k,c⟩]at a;rw[if_pos c,VU Mj];obtain⟨z,rfl,m⟩:=a;exact⟨_,z,0,rfl,rfl,m,GU _ _,λp hp=>d p (AR.1 hp).1⟩
  rw[if_neg (λe=>c e.2)]at a;rw[if_neg c];exact⟨[],bI,8,rfl,a,.inl ⟨rfl,rfl⟩,by simp,by simp⟩
end
theorem Uq(us:List Clear)(qs:List ak)(gr:Int)(l:List (cN × AV))(o:aw) : ∃z e:Int,Mb us qs gr (l.map qE) o = .tup [aI z,aI e]/\RV us qs gr l o = .tup [aI z,aI e]:=by
 rw[aa2 Mj];unfold RV;split<;>exact⟨_,_,rfl,rfl⟩
theorem abi{l:List (aw × AV)}(h : ∀p∈l,p.1.l.length<1000000):Fg 16 (mO l):=by
 intro e a;obtain⟨p,hp,rfl⟩:=jO.1 a;exact⟨S0 p.1,p.1.l,[],rfl,rfl,h p hp⟩
theorem abh{l:List (cN × AV)}(h : ∀p∈l,p.1.op.l.length<1000000):Fg 18 (fB l):=by
 intro e a;obtain⟨p,hp,rfl⟩:=jO.1 a;exact⟨I8 p.1,p.1.op.l,I7 p.1,rfl,rfl,h p hp⟩
theorem YH{a b:List (aw × AV)}(h:opsOf a=opsOf b){n:Nat}(c : ∀p∈b,p.1.l.length<n) : ∀p∈a,p.1.l.length<n:=by
 intro p hp;have:p.1∈opsOf a:=iQW (f:=λp:aw × AV=>p.1) hp;rw[h]at this;obtain⟨q,g,e⟩:=jO.1 this;rw[<-e];exact c q g
theorem af2{H:aa}{j:List (Ref × aQ)}{e:List Fh}(h:B2 H j e){t:Nat}{a b c:AV}(m:a.cells=[a]/\a.one=true)(k:b.cells=[b]/\b.one=true)(g:c.cells=[c]/\c.one=true){K:AV->aa->Prop}
 (i : ∀r H',B2 H' ((r,⟨3,[.agg [a,b,c]],false,false⟩) :: j) e->K (.ptr r 0 0) H') :
 lE (mE H (⟨0,t,aa.gen H 0 t,0⟩:Ref) (F9 env.P (⟨0,t,aa.gen H 0 t,0⟩:Ref) 25 (some (.agg [a,b,c])))) K:=by
 have f:=i ⟨0,t,H.gen 0 t,0⟩ _ (h.new 0 t _);clear i;simp[m.1,m.2,k.1,k.2,g.1,g.2];exact f
theorem af0{H:aa}{B:List (Ref × aQ)}{v:List Fh}(h:B2 H B v){t:Nat}(u:UInt8)(k:UInt8)(a_3:UInt32)(n:UInt8)(m:Int)(w:UInt8)(q:UInt32)(j:UInt8)(o:Int)(f:Int)(i:UInt8)(c:UInt32)(g:UInt8)(e:Int)(a:UInt8)(b:UInt32){x:AV}(z:x.cells=[x]/\x.one=true){K:AV->aa->Prop}
 (A : ∀r H',B2 H' ((r,⟨17,[.agg [a8 u,a8 k,af a_3,a8 n,aI m,a8 w,af q,a8 j,aI o,aI f,a8 i,af c,a8 g,aI e,a8 a,af b,x]],false,false⟩) :: B) v->K (.ptr r 0 0) H') :
 lE (mE H (⟨0,t,aa.gen H 0 t,0⟩:Ref) (F9 env.P (⟨0,t,aa.gen H 0 t,0⟩:Ref) 38 (some (.agg [a8 u,a8 k,af a_3,a8 n,aI m,a8 w,af q,a8 j,aI o,aI f,a8 i,af c,a8 g,aI e,a8 a,af b,x])))) K:=by
 have y:=A ⟨0,t,H.gen 0 t,0⟩ _ (h.new 0 t _);clear A;simp[z.1,z.2];exact y
theorem af1{H:aa}{g:List (Ref × aQ)}{a:List Fh}(h:B2 H g a){t:Nat}(f:UInt8)(c:UInt32){K:AV->aa->Prop}
 (e : ∀r H',B2 H' ((r,⟨2,[.agg [a8 f,af c]],false,false⟩) :: g) a->K (.ptr r 0 0) H') :
 lE (mE H (⟨0,t,aa.gen H 0 t,0⟩:Ref) (F9 env.P (⟨0,t,aa.gen H 0 t,0⟩:Ref) 29 (some (.agg [a8 f,af c])))) K:=by
 have b:=e ⟨0,t,H.gen 0 t,0⟩ _ (h.new 0 t _);clear e;simp;exact b
theorem ML{z:Nat}{H:aa}{s:AV}{es':List AV}{rs:List Ref}(h:uO z H s es' rs){y:AV}(b:Ga z s es'=y):view H.get 8 s=some (Mx y)/\ah H.get 8 s=rs/\s.cells=[s]/\s.one=true:=by
 obtain⟨e,a,c,f⟩:=h.out 5;rw[b]at a;exact⟨a,c,yU h⟩
section
variable{f e:AV}{us:List Clear}{qs:List ak}{gr:Int}(c:Sl 3 (de us) f)(a:Sl 5 (cR qs) e){l:List (cN × AV)}{x1:AV}(d:Sl 24 (bW l) x1)(i : ∀p∈l,Sl 1 (rows p.1.op.l) p.2/\rX p.1.op.l)
include c a d i
theorem abU(K:UInt8)(C:UInt8)(a_3:UInt32)(J:UInt8)(I:Int)(G:UInt8)(F:UInt32)(L:UInt8)(E:Int)(v:Int)(w:UInt8)(o:UInt32)(k:UInt8)(j:Int)(u:UInt8)(m:UInt32){x:AV}{al:List Int}(P:Sl 1 (rows al) x)(hrg:rX al)(v1:UInt8)(Y:UInt32) :
 ax env 3 [.agg [f,e,aI gr],x1,.agg [a8 K,a8 C,af a_3,a8 J,aI I,a8 G,af F,a8 L,aI E,aI v,a8 w,af o,a8 k,aI j,a8 u,af m,x],.agg [a8 v1,af Y]]=some (aB true):=by
 obtain⟨t,hG,ht⟩:=Vi (gr:=gr) c a d (λp hp=>(i p hp).1) 25;have har:(rows al).length=al.length:=by simp
 have cu:=c.r;have cq:=a.r;have cx:=d.r;have ca:=P.r;have oneu:f.cells=[f]/\f.one=true:=⟨cu.2.2.2.1,cu.2.2.2.2.1⟩;have oneq:e.cells=[e]/\e.one=true:=⟨cq.2.2.2.1,cq.2.2.2.2.1⟩;have onea:x.cells=[x]/\x.one=true:=⟨ca.2.2.2.1,ca.2.2.2.2.1⟩;refine ay rfl (by kernel_rfl) (tD _ _ _ _ _ _ λg=>?_);cases t with
 | true=>clear i ht;simp[ai, *,fy,d.r,c.r,a.r,P.r,hG]
 | false=>
  obtain⟨q1,q2,q3,q4⟩:=ht rfl;clear ht;by_cases hbig:(300:Int)<al.length;·clear i q4;simp[ai, *,fy,d.r,c.r,a.r,P.r,hG,hbig]
  have hll:l.length<=25:=(by omega);have B : ∀p∈l,Cv p:=λp hp=>⟨(i p hp).1,(i p hp).2,by have:=q4 p (by rw[gj (by omega)];exact hp);omega⟩;obtain⟨y,hT,hy⟩:=Sx d (by omega) B;have W : ∀p∈l,DG p:=λp hp=>⟨(B p hp).x,by have:=(B p hp).len;omega⟩;have D : ∀p∈l.map qE,DG p:=(by intro p hp;obtain⟨q,a,rfl⟩:=jO.1 hp;exact⟨gT 1 _,by have:=(B q a).len;simp only[qE];omega⟩);have V:Jw (l.map qE):=(by intro p hp;obtain⟨q,_,rfl⟩:=jO.1 hp;rfl);have pH:=Sy (gr:=gr) c a (by omega) (by omega) hy D V;have dH:=K7 (gr:=gr) d B c a (by omega) (by omega) (by omega);have pV:=Sf (gr:=gr) c a (by omega) (by omega) hy D V K C a_3 J I G F L E v w o k j u m P (by omega);have dV:=K6 (gr:=gr) d B c a (by omega) (by omega) (by omega) K C a_3 J I G F L E v w o k j u m P (by omega) hrg;have pO:=abd (gr:=gr) c a (by omega) (by omega) hy D V v1 Y;obtain⟨yo,dO,hyo⟩:=Sq (gr:=gr) d B c a (by omega) (by omega) (by omega) v1 Y;obtain⟨T,hd,e1,i1,i2,i3,i4,i5⟩:=WB (us:=us) (qs:=qs) (gr:=gr) B;obtain⟨R,z,e3,j1,rfl,j3,j4,j5⟩:=S3 B hyo;obtain⟨vz,e2,k1,k2⟩:=Uq us qs gr l (⟨K,⟨C,a_3,J⟩,I,⟨⟨⟨G,F,L⟩,E⟩,v⟩,⟨⟨w,o,k⟩,j⟩,⟨u,m⟩,al⟩:aw);rw[i1]at pH;rw[i2]at dH;rw[k1]at pV;rw[k2]at dV;rw[j1]at pO;have hil:T.length=hd.length:=by have:=iQg List.length i3;simpa [opsOf] using this
  have Z:=YH i3 i5;have hS1:=Sh (gT 17 (bf (jn T))) (gT 17 (bf (jn hd))) (λp hp=>by
   obtain⟨q,a,rfl⟩:=jO.1 hp;exact⟨gT 1 _,by have:=Z q a;simp only[QN];omega⟩) (λp hp=>by
   obtain⟨q,a,rfl⟩:=jO.1 hp;exact⟨gT 1 _,by have:=i5 q a;simp only[QN];omega⟩) (by rw[Pe];omega) (by rw[Ic,Ic,i3])
  have O : ∀p∈R.map qE,DG p:=(by intro p hp;obtain⟨q,a,rfl⟩:=jO.1 hp;exact⟨gT 1 _,by have:=(j5 q a).len;simp only[qE];omega⟩);have htt:(R.map qE).map qE=R.map qE:=by rw[zb];rfl
  have hS2:=JU (gT 24 (bW (R.map qE))) j3 O O (by rw[pI];omega);rw[(EG _ _).2 rfl]at hS2;have hS3:=JU hy d D W (by rw[pI];omega);have er:Q6 (l.map qE)=Q6 l:=by simp[Q6,qE]
  rw[er,(EG _ _).2 rfl]at hS3;have hO1:=Nd 17 (mO T);have hO2:=Nd 24 (fB (R.map qE));have hv1:=J4 17 (mO T);have hv2:=J4 24 (fB (R.map qE));rw[MK]at hv1;rw[MJ,htt]at hv2;have hR1:Fg 16 (mO T):=abi λp hp=>by have:=Z p hp;omega
  have hR2:Fg 18 (fB (R.map qE)):=abh λp hp=>(O p hp).2;have hn1:(mO T).length<1000000:=by rw[EJ];omega
  have hn2:(fB (R.map qE)).length<1000000:=by rw[yF,pI];omega
  have cy:=hy.r;have cz:=j3.r;have cd:=(gT 17 (bf (jn hd))).r;have ca1:=(gT 17 (bf (jn T))).r;have ca2:=(gT 24 (bW (R.map qE))).r;have him1:=SI T;have him2:=SH (R.map qE);clear c a d i hy B W D V hyo i1 i2 i3 i4 i5 j1 j3 j4 j5 k1 k2 hil Z O htt er q1 q2 q3 q4 hll P hrg;generalize ep 17 (bf (jn hd))=Bd at *;generalize hAa:ep 17 (bf (jn T))=Aa at *;generalize hCc:ep 24 (bW (R.map qE))=Cc at *;generalize mO T=RO at *;generalize fB (R.map qE)=RR at *;generalize CG 17 RO=N1 at *;generalize CG 24 RR=N2 at *;replace pH:=PLift.up pH;replace pO:=PLift.up pO;unfold fy;refine af2 B2.nil oneu oneq ⟨rfl,rfl⟩ λr4 H A=>?_;refine af0 A K C a_3 J I G F L E v w o k j u m onea λr6 H A=>?_;refine af1 A v1 Y λr7 H A=>?_;have f4:=A.has (r4,⟨3,[.agg [f,e,aI gr]],false,false⟩) (by simp);have f6:=A.has (r6,⟨17,[.agg [a8 K,a8 C,af a_3,a8 J,aI I,a8 G,af F,a8 L,aI E,aI v,a8 w,af o,a8 k,aI j,a8 u,af m,x]],false,false⟩) (by simp);have f7:=A.has (r7,⟨2,[.agg [a8 v1,af Y]],false,false⟩) (by simp);simp[ai, *];obtain⟨pH⟩:=pH;simp[ai, *, -au, -aG, -aF];refine A.call ⟨_,_,rfl⟩ (z:=17) (refs:=[]) (by decide) (by simp) (by simp) (n:=4) (y:=N1) (mk:=λs => .tup [s,aI e1]) (by first | rfl | exact pH) (Wc e1) hO1 him1 λH s1 S A hk hn ho1=>?_;clear hk hn f4 f6 f7 pH;have f4:=A.has (r4,⟨3,[.agg [f,e,aI gr]],false,false⟩) (by simp);have f6:=A.has (r6,⟨17,[.agg [a8 K,a8 C,af a_3,a8 J,aI I,a8 G,af F,a8 L,aI E,aI v,a8 w,af o,a8 k,aI j,a8 u,af m,x]],false,false⟩) (by simp);have f7:=A.has (r7,⟨2,[.agg [a8 v1,af Y]],false,false⟩) (by simp);have w0:=yU (A.row _ (gy ..));simp[ai, *];obtain⟨pO⟩:=pO;simp[ai, *, -au, -aG, -aF];refine A.call ⟨_,_,rfl⟩ (z:=24) (refs:=[]) (by decide) (by simp) (by simp) (n:=4) (y:=N2) (mk:=λs => .tup [s,aI e3]) (by first | rfl | exact pO) (Wc e3) hO2 him2 λH s2 U A hk hn ho2=>?_;clear hk hn f4 f6 f7 pO;have f4:=A.has (r4,⟨3,[.agg [f,e,aI gr]],false,false⟩) (by simp);have f6:=A.has (r6,⟨17,[.agg [a8 K,a8 C,af a_3,a8 J,aI I,a8 G,af F,a8 L,aI E,aI v,a8 w,af o,a8 k,aI j,a8 u,af m,x]],false,false⟩) (by simp);have f7:=A.has (r7,⟨2,[.agg [a8 v1,af Y]],false,false⟩) (by simp);have w1:=ML (A.row ⟨17,s1,RO,S⟩ (by simp)) ho1;have w2:=ML (A.row ⟨24,s2,RR,U⟩ (by simp)) ho2;rw[hv1]at w1;rw[hv2]at w2;simp[ai, *];have M:=A.row ⟨17,s1,RO,S⟩ (by simp);have N:=A.row ⟨24,s2,RR,U⟩ (by simp);have hd12 : ∀q∈U,q ∉ S:=(KE.1 A.dis).1 _ (nc.2 rfl);have hFr:=A.fr;have one1:=yU M;have one2:=yU N;clear w1 w2 f4 f6 f7 A w0;have X : ∀(H':aa),og s2=some RR.length->bu env Tryz.f3 0 bC [(25,aI RR.length),(18,s2),(1,x1),(9,y),(22,aB true)] H' λx H=>view H.get 8 x=some (aB true):=(by intro H' el;clear M N;refine lA _ _ _ _ _ _ _ λg=>?_;simp[ai, *,gY]);have h19 : ∀(H1:aa),Fr H1->ZH H H1 S->bu env Tryz.f3 0 bC [(25,aI 0),(18,s2),(1,x1),(9,y),(22,aB true)] H1 λx H=>view H.get 8 x=some (aB true):=(by intro H1 hF1 hS;have:=afE hn2 (s:=s2) (rs:=U) (H0:=H1) (x1:=x1) (x9:=y) (x22:=aB true) (Q:=λx H=>view H.get 8 x=some (aB true)) (λH' _ el _=>X H' el) RR.length 0 H1 RR (by omega) hF1 (N.aX λq a b hb=>hS q b (hd12 q a) hb) rfl hR2 (λq b _ h=>h);rw[show((0:Nat):Int)=0 from rfl]at this;exact this);have h12:=afG hn1 (s:=s1) (rs:=S) (H0:=H) (x18:=s2) (x1:=x1) (x9:=y) (x22:=aB true) (Q:=λx H=>view H.get 8 x=some (aB true)) (λH' hF' el hS=>by
   have h:=h19 H' hF' hS;clear h19 X M N;refine lC _ _ _ _ _ _ _ _ λg=>?_;simp[ai, *,hY];first | done | exact h) RO.length 0 H RO (by omega) hFr M rfl hR1 (λq b _ h=>h)
  rw[show((0:Nat):Int)=0 from rfl]at h12;exact h12
end
end
end Go.Proofs.YtmkmimgokagimaaGreat
namespace Go.Proofs.YtmkmimgokagimaaGreat.ledgerGives
open Go.Ab Go.ChangeShapes Go.WideShapes Go.RowKit
theorem law(xs:List AV)(h:QB env.P 20 Tryz.f3.params.toList xs):ax env 3 xs=some (aB true):=by
 rw[show Tryz.f3.params.toList=[25,26,38,29] from by kernel_rfl]at h;obtain⟨x0,xs,rfl,w,h⟩:=BE h;obtain⟨x1,xs,rfl,z,h⟩:=BE h;obtain⟨F,xs,rfl,C,h⟩:=BE h;obtain⟨G,xs,rfl,B,h⟩:=BE h;obtain rfl:=UL h;obtain⟨us,qs,gr,H,J,rfl,hu,D⟩:=aa8 w;obtain⟨l,y,A⟩:=UN z;obtain⟨⟨⟨u,⟨j,a_3,p⟩,k,⟨⟨⟨v,t,i⟩,q⟩,e⟩,⟨⟨g,c,f⟩,d⟩,⟨a,b⟩,E⟩,x⟩,⟨m,n⟩,rfl⟩:=aa9 C;obtain⟨I,rfl,o⟩:=B.agg (by simp);obtain⟨⟨v1,v2⟩,_,rfl⟩:=BK _ _ o;exact abU (gr:=gr) hu D A y u j a_3 p k v t i q e g c f d a b m n v1 v2
theorem lifted(e:Os)(a:e.Started)(H:Type)(enc:TypeId × Value->H) :
 ReturnsInHanded {} Tryz.checked e 3 .any (Rows.ledgerGivesSpec.pre6 enc Tryz.prog Tryz.f3 Rows.ledgerGivesRow.domain false) (Rows.ledgerGivesSpec.post enc Tryz.prog Tryz.f3 false true false false):=by
 refine returnsInHanded_of_change (C:=Tryz.checked) own a (by kernel_rfl) Tryz.func3
  (ChangeSpec.witness6 (enc:=enc) (C:=Tryz.checked) false ⟨#[], #[.agg #[.slice none 0 0,.slice none 0 0,.int .i64 0],.slice none 0 0,.agg #[.int .u8 0,.int .u8 0,.int .u32 0,.int .u8 0,.int .i64 0,.int .u8 0,.int .u32 0,.int .u8 0,.int .i64 0,.int .i64 0,.int .u8 0,.int .u32 0,.int .u8 0,.int .i64 0,.int .u8 0,.int .u32 0,.slice none 0 0],.agg #[.int .u8 0,.int .u32 0]],[]⟩ 8 (by kernel_rfl) (by kernel_rfl) (by kernel_rfl) (by kernel_rfl)) ?_
 intro W d args ds g b c i _ _;exact Jx (E:=env) agQ kids (slices_full_of Tryz.prog (by kernel_rfl)) (m:=20) (λt h=>iQA (gx.1 (show Tryz.f3.params.toList.all (λt=>decide (t<Tryz.prog.types.size))=true by kernel_rfl) t h)) (by kernel_rfl) rfl
  (λds f=>by match ds,f with | [_,_,_,_],_=>rfl) (by kernel_rfl) law W d args ds g b c i
theorem uI:Rows.ledgerGivesRow.holds Tryz.pinned (OpenSpec.ofChange Rows.ledgerGivesSpec):=
 OpenClaim.holds_of_wide 3 Tryz.f3 rfl rfl rfl rfl rfl rfl rfl ⟨rfl,rfl,rfl,rfl,rfl⟩ rfl rfl rfl rfl rfl (by kernel_rfl) Tryz.func3 ab5
  (iQA (by kernel_rfl)) (by unfold Func.isWrapper;first | (rw[if_pos (by decide +kernel)];kernel_rfl) | (rw[if_neg (by decide +kernel)];exact⟨rfl,rfl⟩))
  (λb a H enc _=>lifted b a H enc)
theorem proved:Rows.LedgerGivesSaid:=
 uI
end Go.Proofs.YtmkmimgokagimaaGreat.ledgerGives
