/-
  One element put into an own row, whatever room the row has. No statement of a seat is proved here.
-/
import Derived.JoinedCond
import Derived.Test.YtmjkpdknicjjgaaGreatRows
import Derived.Test.YtmjkpdknicjjgaaGreatAbsRules
set_option linter.unusedVariables false
set_option linter.unusedSimpArgs false
set_option linter.unusedSectionVars false
set_option linter.unnecessarySimpa false
set_option maxRecDepth 1000000
set_option linter.defProp false
noncomputable section
namespace Go.Ab
def dy(es:List AV)(i:Nat)(v:AV):List AV:=es.take i++v :: es.drop i
@[simp] def vq(es:List AV)(i:Nat)(v:AV)(h:i<=es.length):(dy es i v).length=es.length+1:=by
 simp[dy];omega
def NC(P:Program)(t:TypeId)(H:aa)(r:Ref)(n:Nat)(i:Int)(a:Ref)(b bv:bj)(v:AV)(z by':Nat):Prop:=
 H.get r=some b/\H.get a=some bv/\(ca P t).bind (aE P)=some z/\(ca P t).bind (gP P)=some by'/\bv.es=[v] /\
 b.arr=true/\bv.arr=true/\b.esz=z/\bv.esz=z/\1<z/\0<by'/\b.gR=false/\r≠a/\n=b.es.length/\0<=i/\i<n/\(n+1) * by'<=aJ
def qH(sl:Nat)(H:aa)(r:Ref):Ref:=⟨r.d+1,sl,H.gen (r.d+1) sl,0⟩
def xI(sl:Nat)(H:aa)(r:Ref)(B:bj):aa:=(⟨r.d,r.t,H.gen r.d r.t,0⟩,some B) :: (qH sl H r,none) :: H.put r none
def oy(P:Program)(t:TypeId)(sl:Nat)(args:List AV)(H:aa):cR:=match args with
 | [.bk r 0 n none,.v (.int .i64 i),.bk a 0 1 c]=>(match H.get r,H.get a,(ca P t).bind (aE P),(ca P t).bind (gP P) with
  | some b,some bv,some z,some by'=>(match bv.es with
   | [v]=>if b.arr=true/\bv.arr=true/\b.esz=z/\bv.esz=z/\1<z/\0<by'/\b.gR=false/\r≠a/\n=b.es.length/\0<=i/\i<n/\(n+1) * by'<=aJ then
    some (.bk ⟨r.d,r.t,H.gen r.d r.t,0⟩ 0 (n+1) none,xI sl H r { b with es:=dy b.es i.toNat v}) else none
   | _=>none)
  | _,_,_,_=>none)
 | _=>none
def DR{P:Program}{t:TypeId}{sl:Nat}{args:List AV}{H H':aa}{y:AV}(h:oy P t sl args H=some (y,H')) :
 ∃r n i a c b bv v z by',args=[.bk r 0 n none,.v (.int .i64 i),.bk a 0 1 c]/\NC P t H r n i a b bv v z by' /\
  y = .bk ⟨r.d,r.t,H.gen r.d r.t,0⟩ 0 (n+1) none/\H'=xI sl H r { b with es:=dy b.es i.toNat v}:=by
 unfold oy at h;split at h
 ·rename_i r n i a c;split at h
  ·rename_i b bv z by' j l f e;split at h;·rename_i v g;obtain⟨k,h⟩:=eY.1 h;cases h;exact⟨r,n,i,a,c,b,bv,v,z,by',rfl,⟨j,l,f,e,g,k⟩,rfl,rfl⟩
   cases h
  cases h
 cases h
def oP(sl:Nat){H:aa}{r:Ref}{B:bj}(q:Ref)(a:H.get (qH sl H r)=none):(xI sl H r B).get q=if (⟨r.d,r.t,H.gen r.d r.t,0⟩:Ref)=q then some B else if q=r then none else H.get q:=by
 unfold xI;rw[aa.cL,aa.cL,aa.ab];split;·rfl
 split
 ·rename_i e;rw[<-e];split;·rfl
  exact a.symm
 rfl
def WT(sl:Nat){H:aa}{r:Ref}{B:bj}(c:(H.get r).isSome=true)(d t:Nat):H.gen d t<=(xI sl H r B).gen d t/\(r.d=d/\r.t=t->H.gen d t<(xI sl H r B).gen d t)/\(r.d+1=d/\sl=t->H.gen d t<(xI sl H r B).gen d t):=by
 unfold xI;rw[aa.nU,aa.nU,aa.ej _ _ _ c];unfold qH;simp only;by_cases a:r.d=d/\r.t=t;·obtain⟨rfl,rfl⟩:=a;rw[if_pos ⟨rfl,rfl⟩];exact⟨by omega,λ_=>by omega,λh=>by omega⟩
 rw[if_neg a];by_cases b:r.d+1=d/\sl=t;·obtain⟨rfl,rfl⟩:=b;rw[if_pos ⟨rfl,rfl⟩];exact⟨by omega,λh=>absurd h a,λ_=>by omega⟩
 rw[if_neg b];exact⟨by omega,λh=>absurd h a,λh=>absurd h b⟩
def HY{M:Mem}{ι:Map}{H F:aa}{w w':World}{r x:Ref}{sl n:Nat}{c:Option Nat}{B:bj}{u:Value}(hD:s9 ι H)(hr:(H.get r).isSome=true)(E:r.g<H.gen r.d r.t)(hX:H.get (qH sl H r)=none)
 (D : ∀q,F.get q=if q=x then some B else H.get q) (K:x=r\/H.get x=none)
 (C : ∀d t,F.gen d t<=H.gen d t\/(r.d+1=d/\sl=t/\F.gen d t<=H.gen d t+1))
 (hW:pg M ι H w (.bk x 0 n c) F u w'):pg M ι H w (.bk ⟨r.d,r.t,H.gen r.d r.t,0⟩ 0 n none) (xI sl H r B) u w':=by
 obtain⟨M',o,hv,G,s,N⟩:=hW;obtain⟨a,i⟩ : ∃a:Ref,a=⟨r.d,r.t,H.gen r.d r.t,0⟩:=⟨_,rfl⟩;have hgr:F.gen r.d r.t<=H.gen r.d r.t:=by
  rcases C r.d r.t with h | ⟨h,_⟩
  ·exact h
  omega
 have V:o a=none:=by
  cases h:o a with| none=>rfl| some l=>have:=N a l h;rw[i]at this;simp only at this;omega
 have hn1:ι a=none:=by
  cases h:ι a with| none=>rfl| some l=>have:=hD a l h;rw[i]at this;simp only at this;omega
 have hqr:a≠r:=by
  intro e;rw[<-e]at E;rw[i]at E;simp only at E;omega
 have y:F.get x=some B:=by rw[D x,if_pos rfl]
 have hB:=G.live x B y;obtain⟨J,z,S⟩:=hB;have A : ∀q l,o q=some l->iG o a J q=some l:=by
  intro q l h;unfold iG;split;·rename_i e;rw[e,V]at h;cases h
  exact h
 have p : ∀q k,q≠a->(xI sl H r B).get q=some k->F.get q=some k/\q≠x:=by
  intro q k j h;rw[oP sl q hX,<-i,if_neg (λe=>j e.symm)]at h;split at h;·cases h
  rename_i Q;have P:q≠x:=by
   intro e;rcases K with K | K
   ·exact Q (e.trans K)
   rw[e,K]at h;cases h
  exact⟨by rw[D q,if_neg P];exact h,P⟩
 have L : ∀k,(xI sl H r B).get a=some k->k=B:=by
  intro k h;rw[oP sl a hX,<-i,if_pos rfl]at h;exact(GM h).symm
 rw[<-i];refine⟨M',iG o a J,?_,⟨G.mem,?_,?_⟩,⟨s.os,s.tape,s.output,s.size,s.chg,s.mem,λq l h=>A q l (s.map q l h),?_,s.new⟩,?_⟩
 ·cases hv with | bk O W U ha hc hn Z X=>
  rw[z]at O;cases O;exact .bk (by simp[iG]) W U ha hc hn (λk Z=>by cases Z) X
 ·intro q k h;by_cases j:q=a;·subst j;have:=L k h;subst this;exact⟨J,by simp[iG],S.bD (λ_ _ _ h=>h) A rfl S.frozen⟩
  obtain⟨v,_⟩:=p q k j h;obtain⟨l,b,hb⟩:=G.live q k v;exact⟨l,A q l b,hb.bD (λ_ _ _ h=>h) A rfl hb.frozen⟩
 ·intro q I k k' l l' h Y b f e;by_cases j:q=a
  ·by_cases m:I=a;·rw[j,m]
   exfalso;obtain⟨v,R⟩:=p I k' m Y;rw[j]at b;simp only[iG,if_true]at b;cases b;unfold iG at f;rw[if_neg m]at f;exact R (G.inj x I B k' J l' y v z f e).symm
  obtain⟨v,R⟩:=p q k j h;unfold iG at b;rw[if_neg j]at b;by_cases m:I=a;·exfalso;rw[m]at f;simp only[iG,if_true]at f;cases f;exact R (G.inj q x k B l J v y b z e)
  obtain⟨h3,_⟩:=p I k' m Y;unfold iG at f;rw[if_neg m]at f;exact G.inj q I k k' l l' v h3 b f e
 ·intro q k l h b;by_cases j:q=a;·rw[j]at b;simp only[iG,if_true]at b;cases b;exact s.live x B J y z
  obtain⟨v,_⟩:=p q k j h;unfold iG at b;rw[if_neg j]at b;exact s.live q k l v b
 intro q l b;obtain⟨g1,g2,g3⟩:=WT (B:=B) sl hr q.d q.t;by_cases j:q=a
 ·have T:r.d=q.d/\r.t=q.t:=by rw[j,i];exact⟨rfl,rfl⟩
  have e2:q.g=H.gen q.d q.t:=(by rw[<-T.1,<-T.2,j,i]);rw[e2];exact g2 T
 unfold iG at b;rw[if_neg j]at b;have:=N q l b;rcases C q.d q.t with h | ⟨v,R,h3⟩
 ·omega
 have:=g3 ⟨v,R⟩;omega
def P3{P:Program}{t:TypeId}{sl:Nat}{f:FuncId}{args:List AV}{H H':aa}{y:AV}(hf : ∃fn,P.funcs[f]?=some fn/\(fn.name == "runtime.NumGoroutine")=false/\fn.body.isSome=true)
 (J : ∀(r F:Ref)(n:Nat)(i:Int)(N:Option Nat)(b bv:bj)(v:AV)(z by' c:Nat),NC P t H r n i F b bv v z by'->n<=c->H.get (qH sl H r)=none->r.g<H.gen r.d r.t ->
  ∃L O,jd P (.fn f) [.bk r 0 n (some c),.v (.int .i64 i),.bk F 0 1 N] H L O /\
   (
    (L = .bk r 0 (n+1) (some c)/\O=H.put r (some { b with es:=dy b.es i.toNat v})) \/
    (L = .bk (qH sl H r) 0 (n+1) none/\O=(qH sl H r,some { b with es:=dy b.es i.toNat v}) :: H)))
 (h:oy P t sl args H=some (y,H')):jd P (.fn f) args H y H':=by
 obtain⟨r,n,i,F,N,b,bv,v,z,by',rfl,G,rfl,rfl⟩:=DR h;refine⟨hf,λM ι w us Q E T=>?_⟩;obtain⟨hlen,m⟩:=T;match us,hlen,m with
 | [Z,u2,u3],hlen,m=>
 have S:=m 0 _ Z rfl rfl;have X:=G.1;have o:H.get (qH sl H r)=none:=by
  cases hq:H.get (qH sl H r) with| none=>rfl| some k=>obtain⟨l,K,_⟩:=Q.live _ _ hq;have:=E.fresh (r.d+1) sl 0;unfold qH at K;rw[this]at K;cases K
 have B:r.g<H.gen r.d r.t:=by
  obtain⟨l,K,_⟩:=Q.live _ _ X;exact E r l K
 cases S with | bk hr U R ha Y hn W V=>
 rename_i l a c;have D:VR M ι (.bk r 0 n (some c)) (.slice (some a) n c) := .bk hr U R ha Y hn (λk W=>by cases W;rfl) V;obtain⟨L,O,⟨_,hT⟩,C⟩:=J r F n i N b bv v z by' c G Y o B;have I:mc M ι [.bk r 0 n (some c),.v (.int .i64 i),.bk F 0 1 N] [.slice (some a) n c,u2,u3]:=by
  refine⟨rfl,λj x u p s=>?_⟩;match j,p,s with
  | 0,p,s=>cases p;cases s;exact D
  | 1,p,s=>exact m 1 x u p s
  | 2,p,s=>exact m 2 x u p s
 refine(hT M ι w _ Q E I).mono λe w' ⟨u,he,hW⟩=>⟨u,he,?_⟩;have A:(H.get r).isSome=true:=by rw[X];rfl
 rcases C with ⟨rfl,rfl⟩ | ⟨rfl,rfl⟩
 ·refine HY E A B o (x:=r) (λq=>by rw[aa.ab]) (.inl rfl) (λd t => .inl (by rw[aa.ej _ _ _ A];exact cG _)) hW
 refine HY E A B o (x:=qH sl H r) (λq=>?_) (.inr o) (λd t=>?_) hW
 ·rw[aa.cL];by_cases e:qH sl H r=q;·rw[if_pos e,if_pos e.symm]
  rw[if_neg e,if_neg (λh=>e h.symm)]
 rw[aa.nU];unfold qH;simp only;split;·rename_i h;exact .inr ⟨h.1,h.2,by rw[<-h.1,<-h.2];omega⟩
 exact .inl (cG _)
def Ou{P:Program}{t t':TypeId}(u:oT P t=true)(j:isInt P t'=true)(A:(eT P t).cells.all AV.one=true){H:aa}{r q:Ref}{b:bj}(M:H.get q=some b)(l:b.esz=jw P t)(o:b.arr=true)(a i c n:Nat)(hi:a+i<=b.es.length)(J:c<i+n)(D:(n:Int)<=aJ)(K:0<n)(G:(i+n) * oe P t<=aJ) :
 dm P true H r (some t) (some t') (.bk q a i (some c)) (aI n)=some (.bk r 0 (i+n) none,({ r with k:=0},some ⟨jw P t,(b.es.drop a).take i++List.replicate n (eT P t),true,false⟩) :: H):=by
 unfold oT at u;obtain⟨e,zz,v,x,I,p,B,N,y,C⟩:=gJ u;have L:eT P t=zz:=by unfold eT;rw[v,eD,p];rfl
 rw[L]at A ⊢;have m:(P.underlying t').isNone=false:=by
  unfold isInt at j;cases h:P.underlying t' with
  | none=>rw[h]at j;cases j
  | some d=>rfl
 have s : ¬((P.underlying t').isNone=true\/isInt P t'≠isNum (aI n)):=by rw[m,j];simp[isNum]
 have hd : ¬(jw P t≠jw P t\/jw P t=0\/oe P t=0\/zz.cells.length≠jw P t):=by simp[B,y,C]
 have g:mK P H.get e (aI n)=some (jw P t,List.replicate n zz):=by
  show(match eu P e,aE P e with | some w,some z=>if 0<=(n:Int)/\(n:Int)<=aJ/\w.cells.length=z/\w.cells.all AV.one then some (z,List.replicate (n:Int).toNat w) else none | _,_=>none)=_;rw[p,x];exact if_pos ⟨by omega,D,by simp[B,y,C],A⟩
 have E : ¬(b.esz≠jw P t\/b.arr=false):=by simp[l,o]
 have F:List.replicate n zz≠[]:=by
  intro h;have:=iQg List.length h;simp only[AA,kS]at this;omega
 have f:a+i<=b.es.length/\c<i+n/\(i+n) * oe P t<=aJ:=⟨hi,J,G⟩;simp only[dm,eG,eD,v,Option.map_some,cB,if_neg s,x,I,p,g,if_neg hd,if_neg F,M,if_neg E,AA,if_pos f];rfl
def TF{es:List AV}{i n:Nat}(b:n=es.length)(hi:i<n)(v:AV) :
 (es.take (i+1)++(es.drop i).take (n - i)++es.drop (i+1+(n - i))).take i++[v]++(es.take (i+1)++(es.drop i).take (n - i)++es.drop (i+1+(n - i))).drop (i+1)=dy es i v:=by
 subst b;have a:(es.drop i).take (es.length - i)=es.drop i:=dq (by simp);have d:es.drop (i+1+(es.length - i))=[]:=ya (by omega);have f:(es.take (i+1)).length=i+1:=by rw[ku];omega
 rw[a,d,rI];have c:(es.take (i+1)++es.drop i).take i=es.take i:=by
  rw[Ml (by omega),iQN,Aw (by omega)]
 have e:(es.take (i+1)++es.drop i).drop (i+1)=es.drop i:=by
  rw[List.drop_append_of_le_length (by omega),ya (by omega),sO]
 rw[c,e];simp[dy]
def TG{es:List AV}{i n:Nat}(d:n=es.length)(hi:i<n)(v z:AV) :
 ((
  es.take i++List.replicate (n+1 - i) z).take i++[v]++(es.take i++List.replicate (n+1 - i) z).drop (i+1)).take (i+1)++(es.drop i).take (n - i) ++
  ((es.take i++List.replicate (n+1 - i) z).take i++[v]++(es.take i++List.replicate (n+1 - i) z).drop (i+1)).drop (i+1+(n - i))=dy es i v:=by
 subst d;have c:(es.drop i).take (es.length - i)=es.drop i:=dq (by simp);have f:(es.take i).length=i:=by rw[ku];omega
 have b:(es.take i++List.replicate (es.length+1 - i) z).take i=es.take i:=by
  rw[Ml (by omega),iQN,iQU]
 rw[c,b];have e:(es.take i++[v]++(es.take i++List.replicate (es.length+1 - i) z).drop (i+1)).take (i+1)=es.take i++[v]:=by
  rw[Ml (by simp;omega),dq (by simp;omega)]
 have a:(es.take i++[v]++(es.take i++List.replicate (es.length+1 - i) z).drop (i+1)).drop (i+1+(es.length - i))=[]:=by
  apply ya;simp;omega
 rw[e,a];simp[dy]
def Zv(H:aa)(r:Ref)(a b:Option bj):(H.put r a).put r b=H.put r b:=by
 induction H with| nil=>simp[aa.put]| cons p H c=>
  obtain⟨q,x⟩:=p;by_cases h:q=r;·simp[aa.put,h]
  simp[aa.put,h,c]
def TA{E:Env}{ok:Array Oper->Bool}(b:E.Ok ok){f:FuncId}{args:List AV}{y:AV}(h:ar E f args=some y):j5 E.P f args y:=by
 obtain⟨n,a⟩:=xg.1 h;exact R1 b (a n (cG n))
def Rf(E:Env)(a:FuncId->List AV->Option AV)(d:Oper->Bool:=λ_=>false):Env := { E with spec:=a,deep:=d}
def Vd{P:Program}{l bD kj:List FuncId}{strict:Oper->Bool}{apart:Array Oper->List (Tmp × Tmp)}{gR:Oper->Bool}{F6:List (FuncId × List AV × AV)}{wide:Oper->Bool}{rR:FuncId->Option TypeId}{thrSpec:FuncId->List AV->aa->Option (AV × aa)}{sm:Oz}{sp:FuncId->List AV->Option AV}{d:Oper->Bool}
 (hspec : ∀f args y,sp f args=some y->j5 P f args y) (hm:P.follows .mixedOrders=true) (h0:FH (wj P l bD kj strict apart gR) l=true) (hover : ∀f t,rR f=some t->xP P f t) (hthr : ∀f args H y H',thrSpec f args H=some (y,H')->jd P (.fn f) args H y H') :
 (Rf (wj P l bD kj strict apart gR F6 wide rR thrSpec sm) sp d).Ok (A9 (Rf (wj P l bD kj strict apart gR F6 wide rR thrSpec sm) sp d)) where
 fns:=by
  intro f hf;have h:FH (wj P l bD kj strict apart gR F6) l=true:=h0;have hf':f∈l:=by simpa [wj,Rf] using hf
  have:=gf.1 h f hf';split at this;·rename_i fn hfn;simp only[bo,iB]at this;refine⟨fn,hfn,this.1,λc hc=>?_⟩;have h2:=this.2;rw[hc]at h2;exact h2
  cases this
 specs:=λf args y h=>hspec f args y h
 same:=rfl
 overs:=hover
 thrs:=hthr
 draws:=λops hok _ hpc _ htc nt dep id st st' M ι a w ro Q hr hap hO hQ=>by
  rcases GR.1 hok with h1 | h1
  ·exact N6 hm h1 hpc htc hr hO hQ
  exact N7 hm h1 hpc htc hr hap hO hQ
end Go.Ab
namespace Go.Ab
open Go.ChangeShapes Go.WideShapes Go.RowKit
inductive uB (N:Nat):AV->Prop
 | v (x:Value):uB N (.v x)
 | agg (xs:List AV):(∀x∈xs,uB N x)->uB N (.agg xs)
 | bg (z:Nat) (es:List AV) (c:Option Nat):es.length<=N->(∀x∈es,uB N x)->uB N (.bg z es c)
def Rh{N:Nat}(y:Value) : ∀x∈[AV.v y],uB N x:=by
 intro x a;rw[mA]at a;subst a;exact .v _
def Sv{N:Nat}{b:Bool}{a:List AV}(h : ∀x∈a,uB N x):uB N (JH b a):=by
 unfold JH;split;·exact h _ (by simp)
 exact .agg _ h
def uB.sl{N z:Nat}{es:List AV}{x:AV}(h:uB N x)(b:Sl z es x):es.length<=N /\∀e∈es,uB N e:=by
 rcases b with ⟨_,rfl⟩ | ⟨c,rfl,_⟩
 ·exact⟨uD _,λe a=>by cases a⟩
 cases h with| bg _ _ _ d f=>exact⟨d,f⟩
def uB.parts{N:Nat}{a:List AV}(h:uB N (.agg a)) : ∀x∈a,uB N x:=by
 cases h with| agg _ h=>exact h
section
variable{H:Type}{enc:TypeId × Value->H}{P:Program}{w:World}{g:Nat}{A:Nat->Bool}{B:Bool}{u:DataW H->Nat}{N:Nat}
def Nq(hs : ∀es sp,es.length<=u (.slice es sp) /\∀d∈es,u d<=u (.slice es sp))(ha : ∀ps,∀d∈ps,u d<=u (.agg ps)) : ∀(n m:Nat)(t:TypeId)(cs:List Value)(d:DataW H)(ps:List MemPlace),plain P m t=true->DataW.trod enc P w g A B n t cs=some (d,ps)->u d<=N ->
 ∃p:List AV,(Ei P m t p /\∀x∈p,uB N x)/\mc (wb w) dO p cs:=by
 intro n;induction n with
 | zero=>intro m t cs d ps _ h _;simp[DataW.trod]at h
 | succ n ih=>
  intro m t cs d ps hp h hN;cases m with
  | zero=>simp[plain]at hp
  | succ m=>
  have hp0:=hp;unfold plain at hp;unfold Ei;cases hu:P.underlying t with
  | none=>rw[hu]at hp;simp at hp
  | some dd=>
   rw[hu]at hp;unfold DataW.trod at h;rw[hu]at h;have C : ∀ {x:AV} {c:Value},VR (wb w) dO x c->mc (wb w) dO [x] [c]:=λh=>mc.cons h mc.nil;cases dd<;>dsimp only at hp ⊢ <;> try (simp at hp;done)
   ·rcases cs with _ | ⟨c,_ | ⟨c',cs⟩⟩
    ·simp at h
    ·cases c<;>first | (simp at h;done) | skip
     rename_i b;exact⟨[aB b],⟨⟨b,rfl⟩,Rh _⟩,C (.v rfl)⟩
    simp at h
   ·rename_i k;rcases cs with _ | ⟨c,_ | ⟨c',cs⟩⟩
    ·simp at h
    ·cases c<;>first | (simp at h;done) | skip
     rename_i k' i;dsimp only at h;split at h;·rename_i hk;obtain⟨rfl,hw⟩:=hk;exact⟨[.v (.int k' i)],⟨⟨i,by simpa [Lit.wf] using hw,rfl⟩,Rh _⟩,C (.v rfl)⟩
     cases h
    simp at h
   ·rcases cs with _ | ⟨c,_ | ⟨c',cs⟩⟩
    ·simp at h
    ·cases c<;>first | (simp at h;done) | skip
     rename_i s;exact⟨[aS s],⟨⟨s,rfl⟩,Rh _⟩,C (.v rfl)⟩
    simp at h
   ·rename_i e;simp only[bo,iQl,iQb]at hp;rcases cs with _ | ⟨c,_ | ⟨c',cs⟩⟩
    ·simp at h
    ·cases c<;>first | (simp at h;done) | skip
     rename_i a len cap;cases a with
     | none=>have hlc:len=0/\cap=0:=(by cases len<;>cases cap<;>simp at h ⊢);obtain⟨rfl,rfl⟩:=hlc;exact⟨[aO],⟨.inl rfl,Rh _⟩,C (.v rfl)⟩
     | some a=>
      dsimp only at h;split at h
      ·rename_i hb;simp only[iF,bI]at h;obtain⟨elems,hel,rest,_,hd⟩:=h;have hd1:=(Prod.mk.inj hd).1;subst hd1;obtain⟨w1,w2⟩:=hs (elems.map (·.1)) (rest.map (·.1));rw[AF]at w1;have hlen:elems.length=len:=by simpa using hJ hel
       have each : ∀i,i<len ->∃(p:List AV) (D:List Value),(Ei P m e p /\∀x∈p,uB N x)/\mc (wb w) dO p D/\w.cells? g (a.add (i * P.cellsOf e)) (P.cellsOf e)=some D:=(by intro i hi;obtain⟨y,I,O⟩:=lZ hel i i (by simp[hi]);simp only[iF]at O;obtain⟨D,hvs,O⟩:=O;obtain⟨p,F,J⟩:=ih m e D y.1 y.2 hp.1.2 O (wQ (w2 _ (GQ (dJ I))) hN);exact⟨p,D,F,J,hvs⟩);have : ∀k,k<=len ->∃es:List (List AV),es.length=k /\∀i p,es[i]?=some p ->∃D:List Value,(Ei P m e p /\∀x∈p,uB N x)/\mc (wb w) dO p D/\w.cells? g (a.add (i * P.cellsOf e)) (P.cellsOf e)=some D:=by
        intro k;induction k with
        | zero=>intro _;exact⟨[],rfl,λi p h=>by simp at h⟩
        | succ k ihk=>
         intro hk;obtain⟨es,F,J⟩:=ihk (by omega);obtain⟨p,D,h3⟩:=each k (by omega);refine⟨es++[p],by simp[F],λi ys I=>?_⟩;rcases fl i k with hi | hi
         ·rw[jU (by omega)]at I;exact J i ys I
         have:i=k:=(by have:=(ee.1 I).1;simp[F]at this;omega);subst this;rw[gU (by omega)]at I;simp[F]at I;subst I;exact⟨D,h3⟩
       obtain⟨es,hes,E⟩:=this len (cG _);have V : ∀p∈es,(JH ((eK P e).getD false) p).cells=p/\p.length=P.cellsOf e:=(by intro p q;obtain⟨i,hi,rfl⟩:=pW q;obtain⟨D,F,J,h3⟩:=E i es[i] (dI hi);obtain⟨W,h5⟩:=F.1.facts m e _ hp.1.2;exact⟨PX h5,W⟩);refine⟨[.bg (P.cellsOf e) (es.map (JH ((eK P e).getD false))) none],⟨.inr ⟨es,rfl,λp q=>?_⟩,?_⟩,C ?_⟩;·obtain⟨i,hi,rfl⟩:=pW q;obtain⟨D,F,_⟩:=E i es[i] (dI hi);exact F.1
       ·intro x K;rw[mA]at K;subst K;refine .bg _ _ _ (by rw[AF];omega) λy I=>?_;obtain⟨p,q,rfl⟩:=nO.1 I;obtain⟨i,hi,rfl⟩:=pW q;obtain⟨D,F,_⟩:=E i es[i] (dI hi);exact Sv F.2
       have hlm:(es.map (JH ((eK P e).getD false))).length=len:=(by simp[hes]);have L : ∀i j,i<len->j<P.cellsOf e ->∃p D,es[i]?=some p/\mc (wb w) dO p D/\(∀x∈p,x.one=true)/\p.length=P.cellsOf e/\wb w a.block (a.off+(i * P.cellsOf e+j))=D[j]?/\(a.spot=none):=by
        intro i j hi X;have hi':i<es.length:=by omega
        obtain⟨D,F,J,h3⟩:=E i es[i] (dI hi');obtain⟨W,h5⟩:=F.1.facts m e _ hp.1.2;obtain⟨hb',hvl,hc⟩:=World.cells?_some h3;have hj':=hc j X;have hsp:a.spot=none:=by
         obtain⟨vs0,g1,g2,g3⟩:=E 0 es[0] (dI (by omega));obtain⟨_,hvl0,hc0⟩:=World.cells?_some g3;have:=hc0 0 hp.2;rw[Nat.zero_mul]at this;have ha0:(a.add 0).add 0=a:=by simp[Addr.add]
         rw[ha0]at this;unfold World.cell? at this;cases hs:a.spot with
         | none=>rfl
         | some z=>
          exfalso;have hl0:0<vs0.length:=by omega
          rw[dI hl0]at this;split at this;·rw[hs]at this;simp at this
          simp at this
        refine⟨es[i],D,dI hi',J,h5,W,?_,hsp⟩;rw[<-hj'];unfold wb;congr 1;rw[kA hsp,ic,ic,GL]
       have:=VR.bg (M:=wb w) (ι:=dO) (esz:=P.cellsOf e) (es:=es.map (JH ((eK P e).getD false))) (cap:=none) (a:=a) (c:=cap)
        (λi j=>(wb w a.block (a.off+(i * P.cellsOf e+j))).getD Go.undef) ?_ (by rw[hlm];exact hb.2.1) (λk hk=>by cases hk) ?_ ?_ ?_
       ·rw[hlm]at this;exact this
       ·rcases Et len with h0 | h0
        ·right;have:es=[]:=by apply Ad;omega
         simp[this]
        left;obtain⟨_,_,_,_,_,_,_,hs⟩:=L 0 0 h0 hp.2;exact hs
       ·intro i j hi X;rw[hlm]at hi;obtain⟨p,D,F,J,h3,W,h5,_⟩:=L i j hi X;have Q:j<D.length:=by rw[<-J.1,W];exact X
        have hjx:j<p.length:=by rw[W];exact X
        rw[h5,dI Q];refine⟨rfl,?_⟩;have:=J.2 j p[j] D[j] (dI hjx) (dI Q);exact this.one (h3 _ (eE ..))
       ·intro x K;obtain⟨p,q,rfl⟩:=nO.1 K;rw[(V p q).1];exact(V p q).2
       intro i j x c K hc;rw[mr,bI]at K;obtain⟨p,q,rfl⟩:=K;have Y:p∈es:=dJ q;rw[(V p Y).1]at hc;have hi:i<len:=by have:=(ee.1 q).1;omega
       have X:j<P.cellsOf e:=by have:=(ee.1 hc).1;rw[(V p Y).2]at this;exact this
       obtain⟨xs',D,F,J,h3,W,h5,_⟩:=L i j hi X;rw[q]at F;cases F;have Q:j<D.length:=by rw[<-J.1,W];exact X
       show VR _ _ c ((wb w a.block (a.off+(i * P.cellsOf e+j))).getD Go.undef);rw[h5,dI Q];exact J.2 j c D[j] hc (dI Q)
      cases h
    simp at h
   ·rename_i k e;simp only[bo,iQl]at hp;have h:cs.length=P.cellsOf t /\∃p,((List.range k).mapM λi=>DataW.trod enc P w g A B n e ((cs.drop (i * P.cellsOf e)).take (P.cellsOf e)))=some p/\d = .agg (p.map (·.1)):=by
     dsimp only at h;split at h;·rename_i Z;simp only[bI]at h;obtain⟨p,q,hd⟩:=h;exact⟨Z,p,q,(Prod.mk.inj hd).1.symm⟩
     cases h
    obtain⟨Z,ys,hys,hd⟩:=h;subst hd;have hwy : ∀y∈ys,u y.1<=N:=λy I=>wQ (ha _ _ (GQ I)) hN;rw[hp.2]at Z;have : ∀(k' T:Nat),T+k'=k ->∃p,(Oy (Ei P m e) k' p /\∀x∈p,uB N x)/\mc (wb w) dO p (cs.drop (T * P.cellsOf e)):=by
     intro k';induction k' with
     | zero=>intro T hi;refine⟨[],⟨rfl,λx K=>by cases K⟩,?_⟩;rw[ya (by rw[Z,<-hi];simp)];exact mc.nil
     | succ k' ihk=>
      intro T hi;obtain⟨b,R,hb2⟩:=ihk (T+1) (by omega);obtain⟨y,hym,O⟩:=lZ hys T T (by rw[Fk (by omega)]);obtain⟨a,S,U⟩:=ih m e _ y.1 y.2 hp.1 O (hwy _ (dJ hym));refine⟨a++b,⟨⟨a,b,rfl,S.1,R.1⟩,λx K=>(mq.1 K).elim (S.2 x) (R.2 x)⟩,?_⟩;have:cs.drop (T * P.cellsOf e)=(cs.drop (T * P.cellsOf e)).take (P.cellsOf e)++cs.drop ((T+1) * P.cellsOf e):=by
       rw[GH,<-po,BY]
      rw[this];exact U.append hb2
    obtain⟨p,F,J⟩:=this k 0 (by omega);exact⟨p,F,by simpa using J⟩
   rename_i fs;simp only[bo,iQl,gf]at hp;have h:cs.length=P.cellsOf t /\∃p,(fs.toList.mapM λf=>DataW.trod enc P w g A B n f.type ((cs.drop f.offset).take (P.cellsOf f.type)))=some p/\d = .agg (p.map (·.1)):=by
    dsimp only at h;split at h;·rename_i Z;simp only[bI]at h;obtain⟨p,q,hd⟩:=h;exact⟨Z,p,q,(Prod.mk.inj hd).1.symm⟩
    cases h
   obtain⟨Z,ys,hys,hd⟩:=h;subst hd;have hwy : ∀y∈ys,u y.1<=N:=λy I=>wQ (ha _ _ (GQ I)) hN;have : ∀(l:List Field)(o:Nat),(∀f∈l,plain P m f.type=true)->(∀f∈l,∃y,u y.1<=N/\DataW.trod enc P w g A B n f.type ((cs.drop f.offset).take (P.cellsOf f.type))=some y)->layout P l o=some cs.length ->
    ∃p,(XM (Ei P m) l p /\∀x∈p,uB N x)/\mc (wb w) dO p (cs.drop o):=by
    intro l;induction l with
    | nil=>intro o _ _ G;simp[layout]at G;refine⟨[],⟨rfl,λx K=>by cases K⟩,?_⟩;rw[ya (by omega)];exact mc.nil
    | cons f l ihl=>
     intro o hpl htr G;unfold layout at G;split at G
     ·rename_i ho;obtain⟨b,R,hb2⟩:=ihl (o+P.cellsOf f.type) (λf O=>hpl f (j7 _ O)) (λf O=>htr f (j7 _ O)) G;obtain⟨y,hyw,O⟩:=htr f (j6 ..);obtain⟨a,S,U⟩:=ih m f.type _ y.1 y.2 (hpl f (j6 ..)) O hyw;rw[ho]at U;refine⟨a++b,⟨⟨a,b,rfl,S.1,R.1⟩,λx K=>(mq.1 K).elim (S.2 x) (R.2 x)⟩,?_⟩;have:cs.drop o=(cs.drop o).take (P.cellsOf f.type)++cs.drop (o+P.cellsOf f.type):=by
       rw[<-po,BY]
      rw[this];exact U.append hb2
     cases G
   obtain⟨p,F,J⟩:=this fs.toList 0 hp.1 (λf O=>by
    obtain⟨i,hi,rfl⟩:=pW O;obtain⟨y,hym,I⟩:=lZ hys i fs.toList[i] (dI hi);exact⟨y,hwy _ (dJ hym),I⟩) (by rw[Z];exact hp.2)
   exact⟨p,F,by simpa using J⟩
def Np(y : ∀es q,es.length<=u (.slice es q) /\∀d∈es,u d<=u (.slice es q))(D : ∀ps,∀d∈ps,u d<=u (.agg ps)){m:Nat}{t:TypeId}{v:Value}{d:DataW H}{ps:List MemPlace}(hp:plain P m t=true)(c:Value.okWide P w .any g t v){j:Nat}(h:DataW.Trod enc P w j A B t v d ps)(E:u d<=N) :
 ∃x:AV,(Uu P m t x/\uB N x)/\VR (wb w) dO x v:=by
 obtain⟨n,z⟩:=h;obtain⟨xs,⟨o,k⟩,p⟩:=Nq y D n m t v.cells.toList d ps hp z E;unfold Uu;by_cases a:eK P t=some true
 ·rw[a];have : ∃cs,v = .agg cs:=by
   unfold eK at a;unfold Value.okWide at c;cases i:P.underlying t with
   | none=>rw[i]at a;simp at a
   | some dd=>rw[i]at a c;cases dd<;>simp at a<;>(obtain⟨cs,rfl,_⟩:=c;exact⟨cs,rfl⟩)
  obtain⟨cs,rfl⟩:=this;exact⟨.agg xs,⟨⟨xs,rfl,o⟩,.agg _ k⟩,VR.qE.2 p⟩
 have l:v.cells = #[v] /\∃x,xs=[x]:=by
  have s:=o.facts m t xs hp;cases m with
  | zero=>simp[plain]at hp
  | succ m=>
  have b:=hp;unfold plain at b;unfold eK at a;unfold Value.okWide at c;cases i:P.underlying t with
  | none=>rw[i]at b;simp at b
  | some dd=>
   rw[i]at b a c;have f:P.cellsOf t=1->Cell.okWide P w .any g t v->v.cells = #[v] /\∃x,xs=[x]:=by
    intro C e;refine⟨?_,?_⟩
    ·cases v<;>try rfl
     exfalso;unfold Cell.okWide at e;rw[i]at e;cases dd<;>simp at b a<;>(simp[Cell.ok,i]at e)
    have:=s.1;rw[C]at this;match xs,this with
    | [x],_=>exact⟨x,rfl⟩
   cases dd<;>simp at b a;·exact f b c
   ·exact f b c
   ·exact f b c
   exact f b.1.1 c
 obtain⟨l,x,rfl⟩:=l;rw[l]at p;refine⟨x,⟨?_,k x (by simp)⟩,p.2 0 x v rfl rfl⟩;split;·rename_i F;exact(a F).elim
 exact o
def Tq(G : ∀es D,es.length<=u (.slice es D) /\∀d∈es,u d<=u (.slice es D))(L : ∀ps,∀d∈ps,u d<=u (.agg ps)){m:Nat}{b:Nat} : ∀ {a:List TypeId} {i:List Value} {ds:List (DataW H)} {ps:List MemPlace},a.all (plain P m)=true->(∀(j:Nat) t v,a[j]?=some t->i[j]?=some v->Value.okWide P w .any g t v) ->
 DataW.TrodAll enc P w b A B a i ds ps->(∀d∈ds,u d<=N) ->∃k:List AV,(QK P m a k /\∀x∈k,uB N x)/\mc (wb w) dO k i:=by
 intro a;induction a with
 | nil=>intro i ds ps _ _ h _;obtain⟨rfl,_,_⟩:=trodAll_nil h;exact⟨[],⟨trivial,λx F=>by cases F⟩,mc.nil⟩
 | cons t a J=>intro i ds ps hp f h C;obtain⟨v,I,d,K,p,q,rfl,rfl,rfl,o,z⟩:=trodAll_cons h;simp only[tU,bo]at hp;obtain⟨x,l,n⟩:=Np G L hp.1 (f 0 t v rfl rfl) o (C _ (j6 ..));obtain⟨k,c,s⟩:=J hp.2 (λj t v o z=>f (j+1) t v o z) z (λd hd=>C d (j7 _ hd));exact⟨x :: k,⟨⟨l.1,c.1⟩,λy E=>(fh.1 E).elim (λe=>by rw[e];exact l.2) (c.2 y)⟩,mc.cons n s⟩
end
def Iq{E:Env}{ok:Array Oper->Bool}(hE:E.Ok ok){T:TypeId->Prop}(K:Kids E.P T)(Y : ∀t e,T t->E.P.underlying t=some (.slice e)->0<E.P.cellsOf e){H:Type}{enc:TypeId × Value->H}{id:FuncId}{f:Func}{s:ChangeSpec}{apart fresh a again:Bool}{m:Nat}
 (S : ∀t∈f.params.toList,T t) (hp:f.params.toList.all (plain E.P m)=true) (Z:s.vars=[]) (M : ∀ds:List (DataW H),ds.length=f.params.toList.length->s.fn H ds = { results:=[.lit (.bool true)],args:=ds}) (D:L2 E.P f=true)
 {u:DataW H->Nat} {N:Nat} (F : ∀es J,es.length<=u (.slice es J) /\∀d∈es,u d<=u (.slice es J)) (C : ∀ps,∀d∈ps,u d<=u (.agg ps))
 (h : ∀i,QK E.P m f.params.toList i->(∀x∈i,uB N x)->ar E id i=some (.v (.bool true)))
 (W:World) (g:Nat) (args:Array Value) (ds O:List (DataW H)) (b:List MemPlace) (c : ∀(j:Nat) t v,f.params[j]?=some t->args[j]?=some v->Value.okWide E.P W .any g t v)
 (G:DataW.Whole enc E.P f.params.toList s.vars apart W args.toList ds O b) (X : ∀d∈ds,u d<=N) :
 Calls E.P id args W λe L =>∃v,e = .returned v/\s.post enc E.P f apart fresh a again W args v L:=by
 obtain⟨tb,D,V⟩:=QB D;have o:=G;obtain⟨p,q,I,hV,rfl,U,R⟩:=o;obtain⟨i,l,z⟩:=Tq F C hp (λj t v Q h2=>c j t v (by simpa using Q) (by simpa using h2)) I X;obtain⟨n,k⟩:=WJ (h i l.1 l.2);have y:ds.length=f.params.toList.length:=MH I;refine(Qv hE k (us:=args.toList) z).mono λe L ⟨he,hk⟩=>⟨_,he,?_⟩;exact Tm K Y S Z G (M ds y) D V hk
end Go.Ab
namespace Go.Ab
def bad(b:Bool):Int:=if b then 0 else 8
@[simp] def ahE(b:Bool):bad b=0↔b=true:=by cases b<;>simp[bad]
@[simp] def D5:bad true=0:=id rfl
@[simp] def Kz:bad false=8:=id rfl
structure R9 where
 lv:UInt8
 cats:UInt32
 num:UInt8
deriving DecidableEq
structure Au where
 h:R9
 n:Int
deriving DecidableEq
structure Spn where
 f:Au
 many:Int
deriving DecidableEq
def fT(h:R9):Bool:=decide (h.lv<=15)&&decide (h.num<8)
def Al(i:Au):Bool:=fT i.h&&(decide (1<=i.n)&&decide (i.n<=1099511627776))
def ov(s:Spn):Bool:=Al s.f&&(decide (1<=s.many)&&(decide (s.many<=64)&&decide (s.f.n+s.many - 1<=1099511627776)))
def Kp{i:Au}(h:Al i=true):1<=i.n/\i.n<=1099511627776:=by
 simp[Al]at h;exact h.2
def Rg{s:Spn}(h:ov s=true):1<=s.f.n/\1<=s.many/\s.many<=64/\s.f.n+s.many - 1<=1099511627776:=by
 simp[ov]at h;have:=Kp h.1;exact⟨this.1,h.2.1,h.2.2.1,h.2.2.2⟩
def Ve{s:Spn}(h:ov s=true):Al s.f=true:=by
 simp[ov]at h;exact h.1
def nm:Au:=⟨⟨0,0,0⟩,0⟩
def aR(n:Int):AV := .v (.int .i32 n)
def rows(l:List Int):List AV:=l.map aR
@[simp] def agw(l:List Int):(rows l).length=l.length:=by simp[rows]
@[simp] def Zd(l:List Int):rows l=[]↔l=[]:=by simp[rows]
def iC(n:Int):Bool:=decide (n = -1)||(decide (0<=n)&&decide (n<55296))||(decide (57343<n)&&decide (n<=1114111))
def HX(l:List Int):Bool:=decide (l.length<=64)&&l.all iC
def yG(l:List Int):Int:=if 64<l.length then 4 else if l.all iC then 0 else 8
@[simp] def agR(n:Int):(aR n).cells=[aR n]:=id rfl
@[simp] def ajI(n:Int):(aR n).one=true:=id rfl
@[simp] def ahL(g:cV)(k:Nat)(n:Int):view g (k+1) (aR n)=some (aR n):=id rfl
def EL(l:List Int):yG l=0↔HX l=true:=by
 unfold yG HX;by_cases h:64<l.length;·simp[h,Nat.not_le.2 h]
 have a:l.length<=64:=Gz.1 h;rw[if_neg h];cases l.all iC<;>simp[a]
@[simp] def aa9(l:List Int)(i n:Nat):bF (rows l) i 0 n false=(l[i]?).map aR:=by
 unfold bF rows;rw[mr];cases l[i]?<;>rfl
def gS.fr{M:Mem}{ι:Map}{H:aa}{w:World}(a:gS M ι H.get w)(c:s9 ι H):Fr H:=by
 intro d t g k f;cases h:H.get ⟨d,t,g,k⟩ with
 | none=>rfl
 | some b=>obtain⟨l,e,_⟩:=a.live _ _ h;have:=c _ l e;simp only at this;omega
def xH(H:aa)(r:Ref):Ref:=⟨r.d,r.t,H.gen r.d r.t,0⟩
def pO(a:Nat)(H:aa):Ref:=⟨1,a,H.gen 1 a,0⟩
def yX(z:Nat)(g:cV):AV->Bool
 | .v (.slice none 0 0)=>true
 | .bk r 0 0 (some 0)=>match g r with
  | some b=>b.arr&&b.esz == z&&b.es.isEmpty
  | none=>false
 | _=>false
def xl(P:Program)(t:TypeId)(sl c:Nat)(args:List AV)(H:aa):cR:=match args with
 | [.dsl r 0 n none,.v (.int .i64 i),.bk a 0 1 e]=>(match H.get r,H.get a,(ca P t).bind (aE P),(ca P t).bind (gP P) with
  | some b,some bv,some z,some by'=>(match bv.es with
   | [v]=>if b.arr=false/\bv.arr=true/\b.esz=z/\bv.esz=z/\1<z/\0<by'/\b.gR=false/\n=b.es.length/\0<=i/\i<=n/\(n+1) * by'<=aJ then
    some (.dsl ⟨r.d,r.t,H.gen r.d r.t,0⟩ 0 (n+1) none,xI sl H r ⟨z,dy b.es i.toNat v,false,false⟩) else none
   | _=>none)
  | _,_,_,_=>none)
 | [x,.v (.int .i64 0),.bk a 0 1 e]=>(match H.get a,(ca P t).bind (aE P),(ca P t).bind (gP P) with
  | some bv,some z,some by'=>(match bv.es with
   | [v]=>if yX z H.get x=true/\bv.arr=true/\bv.esz=z/\1<z/\0<by'/\by'<=aJ then
    some (.dsl (pO c H) 0 1 none,(pO c H,some ⟨z,[v],false,false⟩) :: H) else none
   | _=>none)
  | _,_,_=>none)
 | _=>none
def XG(P:Program)(t:TypeId)(H:aa)(r:Ref)(n:Nat)(a:Ref)(b bv:bj)(v:AV)(z by':Nat):Prop:=
 H.get r=some b/\H.get a=some bv/\(ca P t).bind (aE P)=some z/\(ca P t).bind (gP P)=some by'/\bv.es=[v] /\
 b.arr=true/\bv.arr=true/\b.esz=z/\bv.esz=z/\1<z/\0<by'/\b.gR=false/\r≠a/\n=b.es.length/\(n+1) * by'<=aJ
def TI(es:List AV)(v:AV):dy es es.length v=es++[v]:=by simp[dy]
def ND{es a:List AV}(p:a.length=es.length){n:Nat}(v:AV){R:AV->AV->Prop}(g : ∀(i j:Nat) e x,es[i]?=some e->e.cells[j]?=some x ->∃c x0,a[i]?=some c/\c.cells[j]?=some x0/\R x x0)
 (l : ∀x,R x x) (o:n<=es.length) : ∀(i j:Nat) e x,(dy es n v)[i]?=some e->e.cells[j]?=some x ->∃c x0,(dy a n v)[i]?=some c/\c.cells[j]?=some x0/\R x x0:=by
 intro i j e x b d;have f:(es.take n).length=n:=by rw[ku];omega
 have k:(a.take n).length=n:=by rw[ku];omega
 unfold dy at b ⊢;rcases CG i n with h | h | h
 ·rw[jU (by omega),OV h]at b;rw[jU (by omega),OV h];exact g i j e x b d
 ·subst h;rw[gU (by omega),f,pV]at b;rw[gU (by omega),k,pV];cases b;exact⟨v,x,rfl,d,l x⟩
 obtain⟨m,rfl⟩ : ∃m,i=n+m+1:=⟨i - n - 1,by omega⟩;rw[gU (by omega),f,show n+m+1 - n=m+1 by omega,GX,Ac]at b;rw[gU (by omega),k,show n+m+1 - n=m+1 by omega,GX,Ac];exact g (n+m) j e x b d
def Qs{P:Program}{t:TypeId}{sl sa:Nat}{f:FuncId}{args:List AV}{H H':aa}{y:AV}(hf : ∃fn,P.funcs[f]?=some fn/\(fn.name == "runtime.NumGoroutine")=false/\fn.body.isSome=true)
 (hins : ∀args H y H',oy P t sl args H=some (y,H')->jd P (.fn f) args H y H')
 (happ : ∀H r n s J b bv v z by',XG P t H r n s b bv v z by'->Fr H->jd P (.fn f) [.bk r 0 n none,.v (.int .i64 n),.bk s 0 1 J] H (.bk (xH H r) 0 (n+1) none) ((xH H r,some { b with es:=b.es++[v]}) :: H.put r none))
 (hnil : ∀H x s J bv v z by',H.get s=some bv->(ca P t).bind (aE P)=some z->(ca P t).bind (gP P)=some by'->bv.es=[v]->yX z H.get x=true->bv.arr=true->bv.esz=z->1<z->0<by'->by'<=aJ->Fr H ->
  jd P (.fn f) [x,.v (.int .i64 0),.bk s 0 1 J] H (.bk (pO sa H) 0 1 none) ((pO sa H,some ⟨z,[v],true,false⟩) :: H))
 (h:xl P t sl sa args H=some (y,H')):jd P (.fn f) args H y H':=by
 refine⟨hf,λM ι w us hS hD hvs=>?_⟩;have hFr:=hS.fr hD;unfold xl at h;split at h
 ·rename_i r n i s J;split at h
  ·rename_i b bv z by' S h2 h3 h4;split at h
   ·rename_i v hv;obtain⟨hc,h⟩:=eY.1 h;obtain⟨c1,c2,I,c4,c5,c6,c7,c8,c9,c10,c11⟩:=hc;cases h;have hrv:r≠s:=by
     intro e;rw[e,h2]at S;cases S;rw[c1]at c2;cases c2
    obtain⟨a,e1,e2,e3,e4⟩:=hS.Aj S c1 (by omega);obtain⟨m,X⟩ : ∃m,m=H.put r (some ⟨b.esz,a,true,b.gR⟩):=⟨_,rfl⟩;rw[<-X]at e3;have F : ∀q,m.get q=if q=r then some ⟨b.esz,a,true,b.gR⟩ else H.get q:=λq=>by rw[X,aa.ab]
    have g : ∀d t,m.gen d t=H.gen d t:=λd t=>by rw[X,aa.ej _ _ _ (by rw[S];rfl)]
    have K:s9 ι m:=λq l hl=>by rw[g];exact hD q l hl
    have Z:m.get r=some ⟨b.esz,a,true,b.gR⟩:=(by rw[F,if_pos rfl]);have L:m.get s=some bv:=by rw[F,if_neg (λe=>hrv e.symm)];exact h2
    have O : ∀q k,m.get q=some k ->∃k',H.get q=some k':=by
     intro q k hq;rw[F]at hq;split at hq;·rename_i e;rw[e];exact⟨b,S⟩
     exact⟨k,hq⟩
    have hX:H.get (qH sl H r)=none:=hFr _ _ _ _ (cG _);have hX0:m.get (qH sl m r)=none:=(e3.fr K) _ _ _ _ (cG _);have T:mc M ι [.bk r 0 n none,.v (.int .i64 i),.bk s 0 1 J] us:=by
     obtain⟨a1,a2⟩:=hvs;refine⟨a1,λj x u A E=>?_⟩;match j,A,E with
     | 0,A,E=>cases A;cases a2 0 _ u rfl E with | dsl hr W hs ha hc hn hk hz=>exact .bk hr W hs ha hc hn hk hz
     | 1,A,E=>exact a2 1 x u A E
     | 2,A,E=>exact a2 2 x u A E
    have V : ∀e∈bv.es,e.cells.length=z:=(by obtain⟨l,_,W⟩:=hS.live s bv h2;rw[<-c4];exact(W.cellsOk (by omega)).cells);have hbr : ∀e∈b.es,e.cells.length=z:=(by obtain⟨l,_,W⟩:=hS.live r b S;rw[<-I];exact(W.cellsOk (by omega)).cells);have hins':(i.toNat:Int)=i:=(by omega);obtain⟨N,rfl⟩ : ∃N:Nat,i=N:=⟨i.toNat,by omega⟩;have hNn:N<=n:=by omega
    have D : ∀(M':Mem)(p:Map),(∀b o v,M b o=some v->M' b o=some v)->(∀q l,ι q=some l->p q=some l) ->∀(i j:Nat) B Y,(dy b.es N v)[i]?=some B->B.cells[j]?=some Y ->
     ∃e1 x1,(dy a N v)[i]?=some e1/\e1.cells[j]?=some x1 /\∀u,VR M' dO x1 u->VR M' p Y u:=by
     intro M' p hM hι i j B Y c A;refine ND (R:=λY x1 =>∀u,VR M' dO x1 u->VR M' p Y u) e1 v (λi j e x c A=>?_) (λx u E=>E.up p) (by omega) i j B Y c A;have hi:i<a.length:=by rw[e1];exact(ee.1 c).1
     have g0:a[i]?=some a[i]:=dI hi;have hj:j<a[i].cells.length:=(by have h5:=(ee.1 A).1;rw[hbr e (dJ c)]at h5;rw[e2 _ (eE hi)];omega);have g1:a[i].cells[j]?=some a[i].cells[j]:=dI hj;obtain⟨u,B,Y,a1,a2,a3,a4⟩:=e4 i j _ _ g0 g1;rw[c]at a2;cases a2;rw[A]at a3;cases a3;refine⟨_,_,g0,g1,λu' hu'=>?_⟩;rw[a1]at hu';cases hu' with | Aj _=>exact a4.mono hM p hι
    have C:(dy b.es N v).length=(dy a N v).length:=(by rw[vq _ _ _ (by omega),vq _ _ _ (by omega),e1]);have hcl : ∀e∈dy b.es N v,e.cells.length=z:=by
     intro e c;unfold dy at c;rw[mq,fh]at c;rcases c with c | c | c
     ·exact hbr e (xY c)
     ·exact V e (by rw[hv,c];simp)
     exact hbr e (Dc c)
    have hq0:(⟨r.d,r.t,H.gen r.d r.t,0⟩:Ref)≠r:=(by intro e;have:=hFr r.d r.t _ 0 (cG _);rw[e,S]at this;cases this);have hqX:(⟨r.d,r.t,H.gen r.d r.t,0⟩:Ref)≠qH sl H r:=(by intro e;have:=iQg Ref.d e;simp[qH]at this);have hrs:(H.get r).isSome=true:=by rw[S];rfl
    have Q:(m.get r).isSome=true:=by rw[Z];rfl
    show Calls P f us.toArray w λe w' =>∃v,e = .returned v/\pg M ι H w (.dsl (xH H r) 0 (n+1) none) _ v w';have G:xH m r=xH H r:=by unfold xH;rw[g]
    by_cases hlt:N<n
    ·have hsp:oy P t sl [.bk r 0 n none,.v (.int .i64 N),.bk s 0 1 J] m=some (.bk (xH m r) 0 (n+1) none,xI sl m r ⟨z,dy a N v,true,false⟩):=(by simp only[oy,Z,L,h3,h4,hv];rw[if_pos ⟨trivial,c2,I,c4,c5,c6,c7,hrv,by omega,by omega,by omega,c11⟩];simp[xH,I,c7]);refine((hins _ _ _ _ hsp).2 M ι w us e3 K T).mono λe w' ⟨u,c,hW⟩=>⟨u,c,?_⟩;rw[G]at hW;refine hW.deep (k1:=⟨z,dy a N v,true,false⟩) (es':=dy b.es N v) O ?_ (by simp only;omega) rfl (λq=>?_) (λd t=>?_) C hcl D;·rw[oP sl _ hX0];exact if_pos G
     ·rw[oP sl q hX,oP sl q hX0];show(if xH H r=q then _ else _)=if q=xH H r then _ else if xH m r=q then _ else _
      rw[G];by_cases e:xH H r=q;·rw[if_pos e,if_pos e.symm];simp
      have B : ¬q=xH H r:=λh=>e h.symm;simp only[if_neg e,if_neg B];by_cases U:q=r;·simp only[if_pos U]
      simp only[if_neg U];rw[F,if_neg U]
     unfold xI qH;simp only[aa.nU,aa.ej _ _ _ hrs,aa.ej _ _ _ Q,g];exact cG _
    obtain rfl:N=n:=(by omega);have hok:XG P t m r N s ⟨b.esz,a,true,b.gR⟩ bv v z by':=⟨Z,L,h3,h4,hv,rfl,c2,I,c4,c5,c6,c7,hrv,by simp only;omega,c11⟩;refine((happ m r N s J _ bv v z by' hok (e3.fr K)).2 M ι w us e3 K T).mono λe w' ⟨u,c,hW⟩=>⟨u,c,?_⟩;rw[G]at hW;have hE:dy a N v=a++[v]:=by rw[show N=a.length by omega,TI]
    rw[hE]at D C;refine hW.deep (k1:=⟨b.esz,a++[v],true,b.gR⟩) (es':=dy b.es N v) O ?_ (by simp only;omega) rfl (λq=>?_) (λd t=>?_) C (by rw[I];exact hcl) D;·rw[aa.cL,if_pos rfl]
    ·rw[oP sl q hX,aa.cL];show(if xH H r=q then _ else _)=if q=xH H r then _ else if xH H r=q then _ else _
     by_cases e:xH H r=q;·rw[if_pos e,if_pos e.symm];simp[I,c7]
     have B : ¬q=xH H r:=λh=>e h.symm;simp only[if_neg e,if_neg B];rw[aa.ab];by_cases U:q=r;·simp only[if_pos U]
     simp only[if_neg U];rw[F,if_neg U]
    unfold xI qH xH;simp only[aa.nU,aa.ej _ _ _ hrs,aa.ej _ _ _ Q,g];split;·exact cG _
    split;·rename_i h;obtain⟨rfl,rfl⟩:=h;exact CE _
    exact cG _
   cases h
  cases h
 ·rename_i x s J _;split at h
  ·rename_i bv z by' h2 h3 h4;split at h
   ·rename_i v hv;obtain⟨hc,h⟩:=eY.1 h;obtain⟨c1,c2,I,c4,c5,c6⟩:=hc;cases h;have V : ∀e∈bv.es,e.cells.length=z:=by
     obtain⟨l,_,W⟩:=hS.live s bv h2;rw[<-I];exact(W.cellsOk (by omega)).cells
    refine((hnil H x s J bv v z by' h2 h3 h4 hv c1 c2 I c4 c5 c6 hFr).2 M ι w us hS hD hvs).mono λe w' ⟨u,c,hW⟩=>⟨u,c,?_⟩;refine hW.deep (k1:=⟨z,[v],true,false⟩) (es':=[v]) (λq k hq=>⟨k,hq⟩) ?_ (by simp only;omega) rfl (λq=>?_) (λd t=>?_) rfl (λe c=>V e (by rw[hv];exact c)) (λM' p _ _ i j e x c A=>⟨e,x,c,A,λu E=>E.up p⟩);·rw[aa.cL,if_pos rfl]
    ·rw[aa.cL,aa.cL];by_cases e:pO sa H=q;·rw[if_pos e,if_pos e.symm]
     have B : ¬q=pO sa H:=λh=>e h.symm;simp only[if_neg e,if_neg B]
    unfold pO;simp only[aa.nU];exact cG _
   cases h
  cases h
 cases h
def Xj(z b a:Nat)(H:aa)(es:List AV)(arr:Bool):aa:=(pO a H,some ⟨z,es,arr,false⟩) :: (pO b H,some ⟨z,[],true,false⟩) :: H
def Gn(z b a:Nat)(H:aa)(es:List AV)(arr:Bool)(q:Ref):(Xj z b a H es arr).get q=if pO a H=q then some ⟨z,es,arr,false⟩ else if pO b H=q then some ⟨z,[],true,false⟩ else H.get q:=by
 unfold Xj;rw[aa.cL,aa.cL]
def yY(z by' b a:Nat)(args:List AV)(H:aa):cR:=match args with
 | [.bg c (e :: es) _]=>if c=z/\0<z/\(es.length+1) * by'<=aJ then some (.dsl (pO a H) 0 (es.length+1) none,Xj z b a H (e :: es) false) else none
 | _=>none
def LV{P:Program}{z by' C a:Nat}{f:FuncId}{args:List AV}{H H':aa}{y:AV}(E : ∃fn,P.funcs[f]?=some fn/\(fn.name == "runtime.NumGoroutine")=false/\fn.body.isSome=true)
 (l : ∀H e es c,(es.length+1) * by'<=aJ->Fr H->jd P (.fn f) [.bg z (e :: es) c] H (.bk (pO a H) 0 (es.length+1) none) (Xj z C a H (e :: es) true))
 (h:yY z by' C a args H=some (y,H')):jd P (.fn f) args H y H':=by
 refine⟨E,λM ι w us B v b=>?_⟩;unfold yY at h;split at h
 ·rename_i A e es c;obtain⟨D,h⟩:=eY.1 h;obtain⟨rfl,N,G⟩:=D;cases h;have n : ∀x∈e :: es,x.cells.length=A:=by
   obtain⟨s,p⟩:=b;match us,s,p with
   | [u],s,p=>cases p 0 _ u rfl rfl with | bg cell L D O hm g h=>exact g
  refine((l H e es c G (B.fr v)).2 M ι w us B v b).mono λm w' ⟨u,g,hW⟩=>⟨u,g,?_⟩;refine hW.deep (k1:=⟨A,e :: es,true,false⟩) (es':=e :: es) (λq k K=>⟨k,K⟩) ?_ (by simp only;omega) rfl (λq=>?_) (λd t=>?_) rfl n (λM' o _ _ i j e x g F=>⟨e,x,g,F,λu I=>I.up o⟩);·rw[Gn,if_pos rfl]
  ·rw[Gn,Gn];by_cases m:pO a H=q;·rw[if_pos m,if_pos m.symm]
   have J : ¬q=pO a H:=λh=>m h.symm;simp only[if_neg m,if_neg J]
  unfold Xj pO;simp only[aa.nU];exact cG _
 cases h
end Go.Ab
namespace Go.Proofs.YtmjkpdknicjjgaaGreat.ins
open Go.Ab
def env:Env:=wj Tryz.prog [49] [] [49] (λ_=>false) (λ_=>[]) (λ_=>false) [] (λ_=>true) (λf=>if f=76 then some 22 else none)
def Ql:FH env [49]=true:=by kernel_rfl
def ac9:xP Tryz.prog 76 22:=⟨Tryz.f76,4,by kernel_rfl,by kernel_rfl,by kernel_rfl,by kernel_rfl,by kernel_rfl⟩
def abT:env.Ok (A9 env):=LQ Iz (by kernel_rfl) Ql (λf t h=>by
 split at h;·rename_i e;subst e;cases h;exact ac9
 cases h) (λf args H y H' h=>by cases h)
@[simp] def Yr:aE env.P 3=(some 1):=by kernel_rfl
@[simp] def ack:eK env.P 3=(some false):=by kernel_rfl
@[simp] def Yn:eu env.P 3=(some (.v (.int .i64 0))):=by kernel_rfl
@[simp] def ZL:ox env.P 3=(some 1):=by kernel_rfl
@[simp] def ZR:isInt env.P 3=true:=by kernel_rfl
@[simp] def TE:intKind env.P 3=(some .i64):=by kernel_rfl
@[simp] def acf:(env.P.underlying 3).isNone=false:=by kernel_rfl
@[simp] def Yq:aE env.P 4=(some 1):=by kernel_rfl
@[simp] def acj:eK env.P 4=(some false):=by kernel_rfl
@[simp] def ZK:ox env.P 4=(some 0):=by kernel_rfl
@[simp] def WR:isBool env.P 4=true:=by kernel_rfl
@[simp] def Yp:aE env.P 5=(some 1):=by kernel_rfl
@[simp] def aci:eK env.P 5=(some false):=by kernel_rfl
@[simp] def ZJ:ox env.P 5=(some 1):=by kernel_rfl
@[simp] def TD:intKind env.P 5=(some .u8):=by kernel_rfl
@[simp] def ace:(env.P.underlying 5).isNone=false:=by kernel_rfl
@[simp] def U2:aE env.P 22=(some 1):=by kernel_rfl
@[simp] def YC:eK env.P 22=(some false):=by kernel_rfl
@[simp] def MJ:ca env.P 22=(some 59):=by kernel_rfl
@[simp] def Yy:ly env.P 22=none:=by kernel_rfl
@[simp] def WN:isStr env.P 22=false:=by kernel_rfl
@[simp] def ad9:I7 env.P 22=true:=by kernel_rfl
@[simp] def aaj:oT env.P 22=true:=by kernel_rfl
@[simp] def adP:jw env.P 22=2:=by kernel_rfl
@[simp] def aal:oe env.P 22=32:=by kernel_rfl
@[simp] def TV:eT env.P 22=(.agg [(.v (.int .i64 0)),(.v (.slice none 0 0))]):=by kernel_rfl
@[simp] def U0:aE env.P 57=(some 1):=by kernel_rfl
@[simp] def YA:eK env.P 57=(some false):=by kernel_rfl
@[simp] def U7:ca env.P 57=(some 5):=by kernel_rfl
@[simp] def Yx:ly env.P 57=none:=by kernel_rfl
@[simp] def WM:isStr env.P 57=false:=by kernel_rfl
@[simp] def ad8:I7 env.P 57=true:=by kernel_rfl
@[simp] def aai:oT env.P 57=true:=by kernel_rfl
@[simp] def Qq:jw env.P 57=1:=by kernel_rfl
@[simp] def aak:oe env.P 57=1:=by kernel_rfl
@[simp] def TU:eT env.P 57=(a8 0):=by kernel_rfl
@[simp] def WQ:dD env.P 57=true:=by kernel_rfl
@[simp] def MG:aE env.P 59=(some 2):=by kernel_rfl
@[simp] def Rb:eK env.P 59=(some true):=by kernel_rfl
@[simp] def Yw:ly env.P 59=none:=by kernel_rfl
@[simp] def UW:eu env.P 59=(some (.agg [(.v (.int .i64 0)),(.v (.slice none 0 0))])):=by kernel_rfl
@[simp] def Sq:gP env.P 59=(some 32):=by kernel_rfl
@[simp] def FI:iT env.P 59=(some [3,57]):=by kernel_rfl
@[simp] def To:gZ env.P 59=(some [(0,1),(1,1)]):=by kernel_rfl
@[simp] def NP:aD env.P 59 0=(some (0,1)):=by kernel_rfl
@[simp] def NO:aD env.P 59 1=(some (1,1)):=by kernel_rfl
def Xy:Code:=(Tryz.f49.body).getD .skip
def adk:Nat->Option (List Nat):=λi=>none
def adW:Nat->Bool:=λi=>false
def QJ(dep:Nat)(g:Nat->AV)(x0 b m:AV)(H:aa)(Q:AV->aa->Prop):Prop:=
 dL (lW env.P (aa.get H) 22 (some x0) (oi b) (some none) (some none)) λB=>
 dL (cb env.P false (aa.get H) (⟨(dep+1),14,aa.gen H (dep+1) 14,0⟩:Ref) .len #[22] [m]) λi=>
 dL (bC env.P .eql 3 (.tmp 15) (.const (.int .i64 0)) (some i) (some (.v (.int .i64 0)))) λy=>
 br (some y) (
  Q x0 H) (
  dL (cb env.P false (aa.get H) (⟨(dep+1),19,aa.gen H (dep+1) 19,0⟩:Ref) .len #[22] [x0]) λo=>
  dL (bC env.P .eql 3 (.tmp 20) (.tmp 21) (some b) (some o)) λz=>
  br (some z) (
   iE (dm env.P true H (⟨(dep+1),25,aa.gen H (dep+1) 25,0⟩:Ref) (some 22) (some 22) x0 m) λt e=>
   Q t e) (
   dL (bC env.P .add 3 (.tmp 26) (.tmp 27) (some o) (some i)) λt=>
   dL (cb env.P false (aa.get H) (⟨(dep+1),30,aa.gen H (dep+1) 30,0⟩:Ref) .cap #[22] [x0]) λA=>
   dL (bC env.P .gtr 3 (.tmp 28) (.tmp 30) (some t) (some A)) λw=>
   br (some w) (
    dL (lW env.P (aa.get H) 22 (some x0) (some none) (oi b) (some none)) λs=>
    dL (bC env.P .add 3 (.tmp 35) (.tmp 36) (some o) (some i)) λa=>
    dL (bC env.P .sub 3 (.tmp 37) (.tmp 38) (some a) (some b)) λk=>
    iE (dm env.P true H (⟨(dep+1),40,aa.gen H (dep+1) 40,0⟩:Ref) (some 22) (some 3) s k) λd e=>
    dL (lW env.P (aa.get e) 22 (some d) (oi b) (some none) (some none)) λj=>
    iE (vJ env.P e (some 22) j m) λp l=>
    dL (bC env.P .add 3 (.tmp 47) (.tmp 48) (some b) (some i)) λf=>
    dL (cr env.P (aa.get l) 22 (some d) (oi f) (some none) (some none)) λh=>
    dL (cr env.P (aa.get l) 22 (some x0) (oi b) (some none) (some none)) λc=>
    iE (vJ env.P l (some 22) h c) λn u=>
    Q d u) (
    dL (bC env.P .add 3 (.tmp 57) (.tmp 58) (some o) (some i)) λs=>
    dL (lW env.P (aa.get H) 22 (some x0) (some none) (oi s) (some none)) λa=>
    dL (bC env.P .add 3 (.tmp 63) (.tmp 64) (some b) (some i)) λk=>
    dL (lW env.P (aa.get H) 22 (some a) (oi k) (some none) (some none)) λd=>
    dL (Ig env.P (aa.get H) 22 [m,d]) λj=>
    dL (Zl env.P .not (some j)) λp=>
    br (some p) (
     dL (bC env.P .add 3 (.tmp 70) (.tmp 71) (some b) (some i)) λf=>
     dL (cr env.P (aa.get H) 22 (some a) (oi f) (some none) (some none)) λh=>
     dL (cr env.P (aa.get H) 22 (some a) (oi b) (some none) (some none)) λc=>
     iE (vJ env.P H (some 22) h c) λn e=>
     dL (lW env.P (aa.get e) 22 (some a) (oi b) (some none) (some none)) λq=>
     iE (vJ env.P e (some 22) q m) λx l=>
     Q a l) (
     dL (lW env.P (aa.get H) 22 (some a) (oi o) (some none) (some none)) λf=>
     iE (vJ env.P H (some 22) f m) λh e=>
     dL (lW env.P (aa.get e) 22 (some a) (oi b) (some none) (some none)) λc=>
     iE (bm env true (ar env) (dg env (dep+1)) e (⟨(dep+1),93,aa.gen e (dep+1) 93,0⟩:Ref) (some (.fn (.func 77) [] [])) [c,i]) λn l=>
     Q a l))))
def acd(dep:Nat)(x0 b a:AV)(H:aa)(Q:AV->aa->Prop)(h : ∀g,QJ dep g x0 b a H Q):bS env Tryz.f49 (dep+1) [.code Xy] [(0,x0),(1,b),(2,a)] H Q:=⟨λg=>sQ (live:=adk) (cut:=adW) (n:=500) (Eq.mp (by kernel_rfl) (h g))⟩
attribute [local simp] aK lW vJ Ig
def run(r p:Ref)(n:Nat)(i:Int)(cv:Option Nat)(b bv:bj)(v:AV)(z by' c:Nat)(H:aa)(B:NC Tryz.prog 22 H r n i p b bv v z by')(hc:n<=c)(f:H.get (qH 40 H r)=none) :
 ∃u G,dg env r.d (.fn 49) [.bk r 0 n (some c),.v (.int .i64 i),.bk p 0 1 cv] H=some (u,G) /\
  (
   (u = .bk r 0 (n+1) (some c)/\G=H.put r (some { b with es:=dy b.es i.toNat v})) \/
   (u = .bk (qH 40 H r) 0 (n+1) none/\G=(qH 40 H r,some { b with es:=dy b.es i.toNat v}) :: H)):=by
 obtain⟨w,h2,U,K,Y,J,Q,O,h9,D,E,m,A,o,k,h16,x⟩:=B;obtain⟨i,rfl⟩:=Gx k;refine qn (fn:=Tryz.f49) (c:=Xy) (by kernel_rfl) (by kernel_rfl) (by kernel_rfl) (by kernel_rfl) (by kernel_rfl) ?_;refine acd _ _ _ _ _ _ λg=>?_;obtain⟨bz,es,ba,bf⟩:=b;obtain⟨bvz,M,bva,bvf⟩:=bv;simp only at Y J Q O h9 m o;have hz:z=2:=by
  have:(ca env.P 22).bind (aE env.P)=some z:=U;simpa using this.symm
 have C:by'=32:=by
  have:(ca env.P 22).bind (gP env.P)=some by':=K;simpa using this.symm
 subst hz C Y J Q O h9 m;subst o;clear U K D E k;have F:(es.length+1) * 32<=140737488355328:=x;have j : ∀(c:Nat)(Z:Ref)(g:cV),cb env.P false g Z .cap #[22] [.bk r 0 es.length (some c)]=some (aI c,[]):=λc Z g=>by
  simp[cb,Zp]
 have hi:i<es.length:=by omega
 have c1 : ¬(i:Int)=es.length:=by omega
 have c2:i<=es.length:=by omega
 have w1:=iQa ((es.length:Int)+1) (by omega);have w2:=iQa ((es.length:Int)+1 - i) (by omega);have w3:=iQa ((i:Int)+1) (by omega);have L:=A.symm;by_cases hfit:es.length+1<=c
 ·have S : ¬(c:Int)<(es.length:Int)+1:=by omega
  have c4:(es.length:Int)+1<=c:=(by omega);have c5:(i:Int)+1<=(es.length:Int)+1:=(by omega);have hp:=TF (es:=es) rfl hi v;have m1:(es.length+1 - i).min (es.length - i)=es.length - i:=KJ (by omega);have W:Nat.min 1 (es.length+1 - i)=1:=Aw (by omega);have d1:(0:Int)<=(es.length:Int)+1:=by omega
  have d2:(0:Int)<=(i:Int)+1:=(by omega);have d3:(i:Int)<=(es.length:Int)+1:=(by omega);have d4:i+1<=es.length:=(by omega);have d5:i+(es.length - i)<=es.length:=(by omega);have d6:i<=min (i+1) es.length+(es.length - i+(es.length - (i+1+(es.length - i)))):=(by omega);simp only[qP]at hp;simp[aj, *,QJ,Zv];refine⟨by omega,?_⟩;have y:(es.drop i).take (es.length - i)=es.drop i:=dq (by simp);have I:es.drop (i+1+(es.length - i))=[]:=ya (by omega);have s : ∀l,(es.take (i+1)++l).take i=es.take i:=λl=>by
   rw[Ml (by rw[ku];omega),iQN,Aw (by omega)]
  rw[y,I,s,rI];rfl
 have S:(c:Int)<(es.length:Int)+1:=by omega
 have hg:=TG (es:=es) rfl hi v (.agg [aI 0,aO]);have h:=Ou (P:=env.P) (t:=22) (t':=3) (by kernel_rfl) (by kernel_rfl) (by kernel_rfl) (H:=H) (r:=⟨r.d+1,40,H.gen (r.d+1) 40,0⟩) (q:=r) (b:=⟨2,es,true,false⟩) w (by kernel_rfl) rfl 0 i c (es.length+1 - i) (by simp;omega) (by omega) (by simp[aJ];omega) (by omega) (by rw[show oe env.P 22=32 from by kernel_rfl];simp only[aJ];omega);rw[show(((es.length+1 - i:Nat)):Int)=(es.length:Int)+1 - i from by omega,show i+(es.length+1 - i)=es.length+1 from by omega,show jw env.P 22=2 from by kernel_rfl,show eT env.P 22 = .agg [aI 0,aO] from by kernel_rfl]at h;have d0:i<=c:=by omega
 unfold qH at f;obtain⟨X,a⟩ : ∃X:Ref,X=⟨r.d+1,40,H.gen (r.d+1) 40,0⟩:=⟨_,rfl⟩;have T:X≠r:=by rw[a];intro e;rw[e,w]at f;cases f
 have V:X≠p:=by rw[a];intro e;rw[e,h2]at f;cases f
 have x3:r≠X:=λe=>T e.symm;have x4:p≠X:=λe=>V e.symm;unfold qH;simp only[<-a]at h f ⊢;have W:Nat.min 1 (es.length+1 - i)=1:=Aw (by omega);have m3:(es.length - i).min (es.length+1 - (i+1))=es.length - i:=Aw (by omega);have m4:(es.length - i).min (es.length - i)=es.length - i:=iQU _;have d1:(0:Int)<=(es.length:Int)+1:=by omega
 have d2:(0:Int)<=(i:Int)+1:=(by omega);have d3:(i:Int)<=(es.length:Int)+1:=(by omega);have d5:(i:Int)+1<=(es.length:Int)+1:=(by omega);have d6:i<=es.length:=(by omega);have d7:i<=i+(es.length+1 - i):=(by omega);have d8:(i:Int)<=es.length:=(by omega);simp(maxSteps:=2000000) [vZ,wa,DD,DF,DW,W,m3,m4,w,h2,f,h,T,V,x3,x4,j,c1,c2,S,w1,w2,w3,hc,hi,d0,d1,d2,d3,d5,d6,d7,d8,QJ,<-a];have y:(es.drop i).take (es.length - i)=es.drop i:=dq (by simp);obtain⟨R,N⟩ : ∃R,R=List.drop (i+1) (List.take i es++List.replicate (es.length+1 - i) (AV.agg [aI 0,aO])):=⟨_,rfl⟩;have hRl:R.length=es.length - i:=by rw[N];simp;omega
 have q0:(es.take i).length=i:=by rw[ku];omega
 have I:List.drop (i+1+(es.length - i)) (es.take i++v :: R)=[]:=ya (by simp;omega);have s:List.take (i+1) (es.take i++v :: R)=es.take i++[v]:=(by rw[show es.take i++v :: R=(es.take i++[v])++R from by simp,Ml (by simp;omega),dq (by simp;omega)]);rw[<-N,y,I,s,rI];simp[dy]
def ZT(r f:Ref)(n:Nat)(i:Int)(k:Option Nat)(b bv:bj)(v:AV)(z by' c:Nat)(H:aa)(j:NC Tryz.prog 22 H r n i f b bv v z by')(o:n<=c)(p:H.get (qH 40 H r)=none)(q:r.g<H.gen r.d r.t) :
 ∃a e,jd Tryz.prog (.fn 49) [.bk r 0 n (some c),.v (.int .i64 i),.bk f 0 1 k] H a e /\
  (
   (a = .bk r 0 (n+1) (some c)/\e=H.put r (some { b with es:=dy b.es i.toNat v})) \/
   (a = .bk (qH 40 H r) 0 (n+1) none/\e=(qH 40 H r,some { b with es:=dy b.es i.toNat v}) :: H)):=by
 obtain⟨a,e,h,l⟩:=run r f n i k b bv v z by' c H j o p;obtain⟨m,hm⟩:=qB.1 h;exact⟨a,e,zF abT (HS abT m) (hm m (cG _)),l⟩
def Ko(args:List AV)(H:aa)(y:AV)(H':aa)(h:oy Tryz.prog 22 40 args H=some (y,H')):jd Tryz.prog (.fn 49) args H y H':=
 P3 ⟨Tryz.f49,by kernel_rfl,by kernel_rfl,by kernel_rfl⟩ (λr g n i f b bv v z by' c e j d a=>ZT r g n i f b bv v z by' c H e j d a) h
end Go.Proofs.YtmjkpdknicjjgaaGreat.ins
namespace Go.Ab
structure Lab where
 lv:UInt8
 cats:UInt32
deriving DecidableEq
structure fX where
 kind:UInt8
 h:R9
 serial:Int
 s:Spn
 a:Au
 to:Lab
 l:List Int
deriving DecidableEq
def kR(a:Au):Bool:=decide (a.h.lv=0)&&decide (a.h.cats=0)&&decide (a.h.num=0)&&decide (a.n=0)
def wP(t:Lab):Bool:=decide (t.lv=0)&&decide (t.cats=0)
def HG(a b:R9):Bool:=decide (a.lv=b.lv)&&decide (a.cats=b.cats)&&decide (a.num=b.num)
def xU(a:Au):kR a=true↔a=nm:=by
 obtain⟨⟨a,b,c⟩,d⟩:=a;simp[kR,nm,and_assoc]
def Bf(o:fX):Bool:=kR o.a&&decide (o.l=[])
def JJ(o:fX):Bool:=wP o.to&&((kR o.a||Al o.a)&&(HG o.s.f.h o.h&&(decide ((o.l.length:Int)=o.s.many)&&HX o.l)))
def Qr(o:fX):Bool:=wP o.to&&Bf o
def Lu(o:fX):Bool:=Bf o&&decide (o.to.lv<=15)
def DH(o:fX):Bool:=if o.kind=1 then JJ o else if o.kind=2 then Qr o else if o.kind=3 then Lu o else false
def rG(o:fX):Bool:=fT o.h&&(decide (1<=o.serial)&&(decide (o.serial<16777216)&&(ov o.s&&DH o)))
def Io{P:Program}{t:TypeId}(d:(eK P t).isSome=true)(f:(aE P t).isSome=true)(cs:List AV)(a:Nat):AQ P t cs a=Rz cs a ((aE P t).getD 0) ((eK P t).getD false):=by
 obtain⟨b,c⟩:=gT.1 d;obtain⟨n,e⟩:=gT.1 f;simp only[AQ,c,e,cB];cases b<;>rfl
def EO{P:Program}{t:TypeId}(a:((ly P t).bind λp=>aE P p.2).isSome=true)(cs:List AV)(k:UInt8)(c:k.toNat<((ly P t).getD (0,0)).1) :
 xD P t (some (.agg cs)) (some (a8 k))=iL (AQ P ((ly P t).getD (0,0)).2 cs (k.toNat * (aE P ((ly P t).getD (0,0)).2).getD 0)):=by
 cases b:ly P t with| none=>rw[b]at a;simp at a| some p=>obtain⟨n,e⟩:=p;rw[b]at a c;simp only[eD,cB]at a c;obtain⟨s,d⟩:=gT.1 a;unfold xD a8;simp only[eD,uo,b,d,cB];rw[if_pos (by omega)];simp
@[simp] def ae8(r:Ref)(n:Nat)(f:Fn)(a b:List AV)(bs:List bj):ao r n (.fn f a b) bs=(.fn f a b,bs):=by cases n<;>rfl
end Go.Ab
namespace Go.Proofs.YtmjkpdknicjjgaaGreat
open Go.Ab Go.ChangeShapes Go.WideShapes Go.RowKit
section
variable{H:Type}
def Xn(d:DataW H):1<=Rows.uptoBulk d:=by
 cases d with| lit l=>cases l<;>simp[Rows.uptoBulk]| nil=>simp[Rows.uptoBulk]| ptr d=>simp[Rows.uptoBulk]| slice a b=>simp[Rows.uptoBulk]| agg a=>simp[Rows.uptoBulk]| iface a d=>simp[Rows.uptoBulk]| map e=>simp[Rows.uptoBulk]| held h=>simp[Rows.uptoBulk]
def On(ds:List (DataW H)):ds.length<=Rows.uptoBulkAll ds:=by
 induction ds with| nil=>simp| cons d ds a=>have:=Xn d;simp only[Rows.uptoBulkAll,gD];omega
def Bc{d:DataW H}{ds:List (DataW H)}(h:d∈ds):Rows.uptoBulk d<=Rows.uptoBulkAll ds:=by
 induction ds with| nil=>cases h| cons e ds a=>
  simp only[Rows.uptoBulkAll];rcases fh.1 h with rfl | h
  ·omega
  have:=a h;omega
def Qz(es a:List (DataW H)):es.length<=Rows.uptoBulk (.slice es a) /\∀d∈es,Rows.uptoBulk d<=Rows.uptoBulk (.slice es a):=by
 have e:Rows.uptoBulk (.slice es a)=Rows.uptoBulkAll es+Rows.uptoBulkAll a+1:=by simp[Rows.uptoBulk]
 rw[e];refine⟨by have:=On es;omega,λd hd=>by have:=Bc hd;omega⟩
def Xo(ps:List (DataW H)) : ∀d∈ps,Rows.uptoBulk d<=Rows.uptoBulk (.agg ps):=by
 have e:Rows.uptoBulk (.agg ps)=Rows.uptoBulkAll ps+1:=by simp[Rows.uptoBulk]
 rw[e];exact λd hd=>by have:=Bc hd;omega
def Qy{ds a:List (DataW H)}(h:Rows.uptoSmall H (ds++a)=true) : ∀d∈ds,Rows.uptoBulk d<=1048576:=by
 intro d hd;have b:Rows.uptoBulkAll (ds++a)<=1048576:=iQA h;exact wQ (Bc (KS _ hd)) b
end
end Go.Proofs.YtmjkpdknicjjgaaGreat
namespace Go.Ab
def F2(R:AV->AV->Prop):List AV->List AV->Prop
 | [],[]=>True
 | x :: xs,y :: a=>R x y/\F2 R xs a
 | _,_=>False
def F2.len{R:AV->AV->Prop} : ∀ {a b:List AV},F2 R a b->a.length=b.length
 | [],[],_=>rfl
 | _ :: a,_ :: b,h=>by simp only[gD];rw[F2.len h.2]
 | [],_ :: _,h=>h.elim
 | _ :: _,[],h=>h.elim
def F2.mono{R c:AV->AV->Prop} : ∀ {a b:List AV},(∀x∈a,∀y,R x y->c x y)->F2 R a b->F2 c a b
 | [],[],_,_=>trivial
 | x :: a,y :: b,d,h=>⟨d x (by simp) y h.1,F2.mono (λx e=>d x (by simp[e])) h.2⟩
 | [],_ :: _,_,h=>h.elim
 | _ :: _,[],_,h=>h.elim
def F2.mapM{R:AV->AV->Prop}{f:AV->Option AV}{h:AV->AV}(c : ∀x y,R x y->f x=some (h y)) : ∀ {a b:List AV},F2 R a b->a.mapM f=some (b.map h)
 | [],[],_=>rfl
 | x :: a,y :: b,d=>by rw[nP,c x y d.1,F2.mapM c d.2];rfl
 | [],_ :: _,h=>h.elim
 | _ :: _,[],h=>h.elim
def F2.app{R:AV->AV->Prop} : ∀ {c d b a:List AV},F2 R c d->F2 R b a->F2 R (c++b) (d++a)
 | [],[],_,_,_,h=>h
 | _ :: c,_ :: d,_,_,h,e=>⟨h.1,F2.app h.2 e⟩
 | [],_ :: _,_,_,h,_=>h.elim
 | _ :: _,[],_,_,h,_=>h.elim
def F2.split{R:AV->AV->Prop} : ∀ {A':List AV} {a B':List AV},F2 R a (A'++B') ->∃A B,a=A++B/\F2 R A A'/\F2 R B B'
 | [],a,B',h=>⟨[],a,rfl,trivial,h⟩
 | b :: A',[],B',h=>h.elim
 | b :: A',x :: a,B',h=>by
  obtain⟨A,B,d,e,c⟩:=F2.split (A':=A') h.2;exact⟨x :: A,B,by rw[d];rfl,⟨h.1,e⟩,c⟩
def F2.at{R:AV->AV->Prop} : ∀ {b a:List AV},F2 R b a ->∀ {i:Nat} {y:AV},a[i]?=some y ->∃x,b[i]?=some x/\R x y
 | [],[],_,i,y,h=>by simp at h
 | x :: b,y :: a,c,0,d,h=>by cases h;exact⟨x,rfl,c.1⟩
 | x :: b,y :: a,c,i+1,d,h=>F2.at c.2 h
 | [],_ :: _,h,_,_,_=>h.elim
 | _ :: _,[],h,_,_,_=>h.elim
def AP:AV->Bool
 | .v _ | .bg .. => true
 | _=>false
def DC(g:cV)(x y:AV):Prop:=(x=y/\AP y=true) \/∃r z l c,x = .bk r 0 l.length c/\y = .fsl z l c/\g r=some ⟨z,l,true,false⟩/\z≠0
def DE(g:cV)(x y:AV):Prop :=∃a b,x = .agg a/\y = .agg b/\F2 (DC g) a b
def kZ:AV->List Ref
 | .bk r _ _ _=>[r]
 | _=>[]
def jf:AV->List Ref
 | .agg xs=>xs.flatMap kZ
 | _=>[]
def Ri:AV->AV
 | .fsl z l c => .bg z l c
 | x=>x
def HF:AV->AV
 | .agg a => .agg (a.map Ri)
 | x=>x
def DC.view{g:cV}{x y:AV}(h:DC g x y)(n:Nat):view g (n+1) x=some (Ri y):=by
 rcases h with ⟨rfl,h⟩ | ⟨r,z,l,c,rfl,rfl,a,_⟩
 ·cases x<;>first | rfl | cases h
 simp[Ab.view,a,Ri]
def DC.export{g:cV}{x y:AV}(h:DC g x y)(n:Nat):bO g (n+1) x=some y:=by
 rcases h with ⟨rfl,h⟩ | ⟨r,z,l,c,rfl,rfl,a,_⟩
 ·cases x<;>first | rfl | cases h
 simp[bO,a]
def DC.refs{g:cV}{x y:AV}(h:DC g x y)(n:Nat):ah g (n+1) x=kZ x:=by
 rcases h with ⟨rfl,h⟩ | ⟨r,z,l,c,rfl,rfl,a,_⟩
 ·cases x<;>first | rfl | cases h
 rfl
def DC.bD{g a:cV}{x y:AV}(h:DC g x y)(d : ∀q∈kZ x,∀b,g q=some b->a q=some b):DC a x y:=by
 rcases h with h | ⟨r,z,l,c,rfl,rfl,e,f⟩
 ·exact .inl h
 exact .inr ⟨r,z,l,c,rfl,rfl,d r (by simp[kZ]) _ e,f⟩
def F2.refs{g:cV}{R:AV->AV->Prop}{f h:AV->List Ref}(b : ∀x y,R x y->f x=h x) : ∀ {a d:List AV},F2 R a d->a.flatMap f=a.flatMap h
 | [],[],_=>rfl
 | x :: a,y :: d,c=>by rw[mz,mz,b x y c.1,F2.refs (g:=g) b c.2]
 | [],_ :: _,h=>h.elim
 | _ :: _,[],h=>h.elim
def DE.view{g:cV}{x y:AV}(h:DE g x y)(n:Nat):view g (n+2) x=some (HF y):=by
 obtain⟨xs,b,rfl,rfl,h⟩:=h;show(xs.mapM (Ab.view g (n+1))).map AV.agg=_;rw[F2.mapM (R:=DC g) (f:=Ab.view g (n+1)) (h:=Ri) (λx y a=>DC.view a n) h];rfl
def DE.export{g:cV}{x y:AV}(h:DE g x y)(n:Nat):bO g (n+2) x=some y:=by
 obtain⟨xs,b,rfl,rfl,h⟩:=h;show(xs.mapM (bO g (n+1))).map AV.agg=_;rw[F2.mapM (R:=DC g) (f:=bO g (n+1)) (h:=id) (λx y a=>DC.export a n) h];simp
def DE.refs{g:cV}{x y:AV}(h:DE g x y)(n:Nat):ah g (n+2) x=jf x:=by
 obtain⟨xs,b,rfl,rfl,h⟩:=h;simp only[ah,jf];exact F2.refs (g:=g) (R:=DC g) (f:=ah g (n+1)) (h:=kZ) (λx y a=>DC.refs a n) h
def DE.bD{g a:cV}{x y:AV}(h:DE g x y)(f : ∀q∈jf x,∀b,g q=some b->a q=some b):DE a x y:=by
 obtain⟨xs,j,rfl,rfl,h⟩:=h;exact⟨xs,j,rfl,rfl,F2.mono (λx c y i=>DC.bD i λq d b e=>f q (by simp only[jf,iK];exact⟨x,c,d⟩) b e) h⟩
def DC.live{g:cV}{x y:AV}(h:DC g x y) : ∀q∈kZ x,∃b,g q=some b:=by
 rcases h with ⟨rfl,h⟩ | ⟨r,z,l,c,rfl,rfl,d,e⟩
 ·intro q a;cases x<;>first | (simp[kZ]at a;done) | cases h
 intro q a;simp[kZ]at a;subst a;exact⟨_,d⟩
def F2.live{g:cV}{R:AV->AV->Prop}{f:AV->List Ref}(d : ∀x y,R x y ->∀q∈f x,∃b,g q=some b) : ∀ {c i:List AV},F2 R c i ->∀q∈c.flatMap f,∃b,g q=some b
 | [],[],_,q,a=>by simp at a
 | x :: c,y :: i,e,q,a=>by
  rw[mz,mq]at a;rcases a with a | a
  ·exact d x y e.1 q a
  exact F2.live d e.2 q a
 | [],_ :: _,h,_,_=>h.elim
 | _ :: _,[],h,_,_=>h.elim
def DE.live{g:cV}{x y:AV}(h:DE g x y) : ∀q∈jf x,∃b,g q=some b:=by
 obtain⟨xs,c,rfl,rfl,h⟩:=h;exact F2.live (λx y a=>DC.live a) h
def wC(z:Nat)(H:aa)(s:AV)(es':List AV)(rs:List Ref):Prop:=
 (s = .v (.slice none 0 0)/\es'=[]/\rs=[])\/(∃r,s = .bk r 0 0 (some 0)/\es'=[]/\rs=[r]/\H.get r=some ⟨z,[],true,false⟩) \/
 ∃r es,s = .dsl r 0 es.length none/\es≠[]/\H.get r=some ⟨z,es,false,false⟩/\F2 (DE H.get) es es'/\rs=r :: es.flatMap jf/\rs.Nodup
def JQ(z:Nat)(es':List AV)(y:AV):Prop:=(y = .v (.slice none 0 0)/\es'=[])\/(y = .fsl z [] (some 0)/\es'=[])\/(y = .nsl z es' none/\es'≠[])
def Dx(z:Nat)(s:AV)(es':List AV):AV:=match s with
 | .bk _ _ _ c => .fsl z [] c
 | .dsl _ _ _ c => .nsl z es' c
 | s=>s
def Dn:AV->AV
 | .fsl z l c => .bg z l c
 | .nsl z es c => .bg z (es.map HF) c
 | x=>x
def wC.bD{z:Nat}{H H':aa}{s:AV}{es':List AV}{rs:List Ref}(h:wC z H s es' rs)(a : ∀q∈rs,∀b,H.get q=some b->H'.get q=some b):wC z H' s es' rs:=by
 rcases h with h | ⟨r,d,e,rfl,c⟩ | ⟨r,es,d,e,k,c,rfl,f⟩
 ·exact .inl h
 ·exact .inr (.inl ⟨r,d,e,rfl,a r (by simp) _ c⟩)
 exact .inr (.inr ⟨r,es,d,e,a r (by simp) _ k,F2.mono (λx g y l=>DE.bD l λq i b j=>a q (by simp only[fh,iK];exact .inr ⟨x,g,i⟩) b j) c,rfl,f⟩)
def wC.live{z:Nat}{H:aa}{s:AV}{es':List AV}{rs:List Ref}(h:wC z H s es' rs) : ∀q∈rs,∃b,H.get q=some b:=by
 rcases h with ⟨_,_,rfl⟩ | ⟨r,e,f,rfl,c⟩ | ⟨r,es,e,f,d,c,rfl,i⟩
 ·intro q a;cases a
 ·intro q a;simp at a;subst a;exact⟨_,c⟩
 intro q a;rcases fh.1 a with rfl | a
 ·exact⟨_,d⟩
 exact F2.live (λx y g=>DE.live g) c q a
def wC.nodup{z:Nat}{H:aa}{s:AV}{es':List AV}{rs:List Ref}(h:wC z H s es' rs):rs.Nodup:=by
 rcases h with ⟨_,_,rfl⟩ | ⟨r,c,d,rfl,b⟩ | ⟨r,es,c,d,e,b,rfl,a⟩
 ·simp
 ·simp
 exact a
def wC.out{z:Nat}{H:aa}{s:AV}{es':List AV}{rs:List Ref}(h:wC z H s es' rs)(n:Nat) :
 bO H.get (n+3) s=some (Dx z s es')/\view H.get (n+3) s=some (Dn (Dx z s es'))/\ah H.get (n+3) s=rs/\JQ z es' (Dx z s es'):=by
 rcases h with ⟨rfl,rfl,rfl⟩ | ⟨r,rfl,rfl,rfl,a⟩ | ⟨r,es,rfl,p,i,a,rfl,q⟩
 ·exact⟨rfl,rfl,rfl,.inl ⟨rfl,rfl⟩⟩
 ·refine⟨?_,?_,rfl,.inr (.inl ⟨rfl,rfl⟩)⟩;·simp[bO,a,Dx]
  simp[view,a,Dx,Dn]
 have j:=a.len;have d:es'≠[]:=(by intro e;rw[e]at j;exact p (wU.1 j));have m:=F2.mapM (R:=DE H.get) (f:=bO H.get (n+2)) (h:=id) (λx y c=>DE.export c n) a;have o:=F2.mapM (R:=DE H.get) (f:=Ab.view H.get (n+2)) (h:=HF) (λx y c=>DE.view c n) a;have k:=F2.refs (g:=H.get) (R:=DE H.get) (f:=ah H.get (n+2)) (h:=jf) (λx y c=>DE.refs c n) a;refine⟨?_,?_,?_,.inr (.inr ⟨rfl,d⟩)⟩
 ·show(match H.get r with
   | some b=>if b.arr=false/\es.length=b.es.length then (if b.gR then (b.es.mapM (view H.get (n+2))).map λes=>AV.bg b.esz es none else (b.es.mapM (bO H.get (n+2))).map λes=>AV.nsl b.esz es none) else none
   | none=>none)=_
  rw[i];simp only[m];simp[Dx]
 ·show(match H.get r with
   | some b=>if b.arr=false/\0+es.length<=b.es.length then (b.es.mapM (view H.get (n+2))).map λ(l:List AV)=>AV.bg b.esz ((l.drop 0).take es.length) none else none
   | none=>none)=_
  rw[i];simp only[o];simp[Dx,Dn];rw[j,show es'.length=(es'.map HF).length from(AF _).symm,BW]
 show(r :: (match H.get r with | some b=>b.es.flatMap (ah H.get (n+2)) | none=>[]))=_;rw[i];simp only[k]
def wC.len{z:Nat}{H:aa}{s:AV}{es':List AV}{rs:List Ref}(h:wC z H s es' rs):uW s=some es'.length:=by
 rcases h with ⟨rfl,rfl,rfl⟩ | ⟨r,rfl,rfl,rfl,a⟩ | ⟨r,es,rfl,d,c,a,rfl,b⟩
 ·rfl
 ·rfl
 simp[uW,a.len]
def At(g:cV)(r:Ref)(k:Nat)(bs:List bj):Prop :=∀i b,bs[i]?=some b->g { r with k:=k+i}=some b
def XA{g:cV}{r:Ref}{k:Nat}{a bs:List bj}(h:At g r k (a++bs)):At g r k a:=λi b hi=>h i b (by rw[jU (ee.1 hi).1];exact hi)
def Xz{g:cV}{r:Ref}{k:Nat}{a bs:List bj}(h:At g r k (a++bs)):At g r (k+a.length) bs:=λi b hi=>by
 have:=h (a.length+i) b (by rw[gU (by omega),show a.length+i - a.length=i by omega];exact hi);rw[GL];exact this
def sU(r:Ref)(k n:Nat):List Ref:=(List.range' k n).map λk => { r with k:=k}
def Ka(r:Ref)(k m n:Nat):sU r k m++sU r (k+m) n=sU r k (m+n):=by
 unfold sU;rw[<-zh];congr 1;have:=List.range'_append (s:=k) (m:=m) (n:=n) (step:=1);simpa using this
def M8(r:Ref)(k n:Nat):(sU r k n).Nodup:=by
 unfold sU;rw[List.nodup_iff_pairwise_ne,List.pairwise_map];refine List.Pairwise.imp ?_ (List.nodup_iff_pairwise_ne.1 (List.nodup_range' (s:=k) (n:=n)));intro a b h e;exact h (iQg Ref.k e)
def Kh{r q:Ref}{k n:Nat}(h:q∈sU r k n):q.d=r.d/\q.t=r.t/\q.g=r.g/\k<=q.k/\q.k<k+n:=by
 unfold sU at h;obtain⟨i,hi,rfl⟩:=nO.1 h;have:=List.mem_range'_1.1 hi;exact⟨rfl,rfl,rfl,this.1,this.2⟩
def Imp(R:cV->AV->AV->Prop)(rf:AV->List Ref)(r:Ref)(n:Nat)(y:AV):Prop :=∀bs,∃x add,ao r n y bs=(x,bs++add)/\(∀g,At g r bs.length add->R g x y)/\rf x=sU r bs.length add.length
def NH{R:cV->AV->AV->Prop}{rf:AV->List Ref}{r:Ref}{n:Nat} : ∀(b:List AV),(∀y∈b,Imp R rf r n y) ->∀(a:List AV)(bs:List bj),
 ∃d add,b.foldl (λ(p:List AV × List bj) c=>let (y,bs):=ao r n c p.2;(p.1++[y],bs)) (a,bs)=(a++d,bs++add)/\(∀g,At g r bs.length add->F2 (R g) d b)/\d.flatMap rf=sU r bs.length add.length:=by
 intro b;induction b with
 | nil=>intro _ a bs;exact⟨[],[],by simp,λg _=>trivial,by simp[sU]⟩
 | cons y b j=>
  intro h a bs;obtain⟨x,f,l,o,k⟩:=h y (by simp) bs;obtain⟨d,m,f1,f2,f3⟩:=j (λy i=>h y (by simp[i])) (a++[x]) (bs++f);refine⟨x :: d,f++m,?_,λg e=>⟨o g (XA e),f2 g ?_⟩,?_⟩;·simp only[wS,l,f1];simp
  ·have:=Xz e;rw[ja];exact this
  rw[mz,k,f3,ja,Ka,ja]
def adB:AV->Bool
 | .v _ | .bg .. => true
 | .fsl z _ _=>z != 0
 | _=>false
def WU:AV->Bool
 | .agg a=>a.all adB
 | _=>false
def ZX{y:AV}(h:adB y=true)(r:Ref)(n:Nat):Imp DC kZ r (n+1) y:=by
 intro bs;cases y<;>first | cases h | skip
 ·exact⟨_,[],by simp[ao],λg _ => .inl ⟨rfl,rfl⟩,by simp[sU,kZ]⟩
 ·exact⟨_,[],by simp[ao],λg _ => .inl ⟨rfl,rfl⟩,by simp[sU,kZ]⟩
 rename_i z l c;have a:z≠0:=by simpa [adB] using h
 refine⟨.bk { r with k:=bs.length} 0 l.length c,[⟨z,l,true,false⟩],by simp[ao,a],λg b => .inr ⟨_,z,l,c,rfl,rfl,?_,a⟩,by simp[sU,kZ]⟩;have:=b 0 _ rfl;simpa using this
def ZW{y:AV}(h:WU y=true)(r:Ref)(n:Nat):Imp DE jf r (n+2) y:=by
 intro bs;cases y<;>first | cases h | skip
 rename_i a;obtain⟨xs,add,i,j,f⟩:=NH (R:=DC) (rf:=kZ) (r:=r) (n:=n+1) a (λy b=>ZX (gf.1 h y b) r n) [] bs;refine⟨.agg xs,add,?_,λg d=>⟨xs,a,rfl,rfl,j g d⟩,f⟩;have e:ao r (n+2) (.agg a) bs=(λp:List AV × List bj=>(AV.agg p.1,p.2)) (a.foldl (λ(p:List AV × List bj) c=>let (y,bs):=ao r (n+1) c p.2;(p.1++[y],bs)) ([],bs)):=rfl;rw[e,i];rfl
def JQ.imp{z:Nat}{es':List AV}{y:AV}(j:z≠0)(h:JQ z es' y)(o : ∀e∈es',WU e=true)(r:Ref)(n:Nat)(bs:List bj) :
 ∃s add,ao r (n+3) y bs=(s,bs++add)/\(∀H:aa,At H.get r bs.length add ->∃rs,wC z H s es' rs/\(∀q∈rs,q∈sU r bs.length add.length)/\Dx z s es'=y):=by
 rcases h with ⟨rfl,rfl⟩ | ⟨rfl,rfl⟩ | ⟨rfl,d⟩
 ·exact⟨_,[],by simp[ao],λH _=>⟨[],.inl ⟨rfl,rfl,rfl⟩,(λq a=>by cases a),rfl⟩⟩
 ·refine⟨.bk { r with k:=bs.length} 0 0 (some 0),[⟨z,[],true,false⟩],by simp[ao,j],λH b=>⟨[{ r with k:=bs.length}],.inr (.inl ⟨_,rfl,rfl,rfl,by simpa using b 0 _ rfl⟩),λq a=>?_,rfl⟩⟩;simpa [sU] using a
 obtain⟨xs,add,m,u,l⟩:=NH (R:=DE) (rf:=jf) (r:=r) (n:=n+2) es' (λy i=>ZW (o y i) r n) [] bs;refine⟨.dsl { r with k:=bs.length+add.length} 0 es'.length none,add++[⟨z,xs,false,false⟩],?_,λH b=>?_⟩;·have e:ao r (n+3) (.nsl z es' none) bs=(λp:List AV × List bj=>(AV.dsl { r with k:=p.2.length} 0 es'.length none,p.2++[⟨z,p.1,false,false⟩])) (es'.foldl (λ(p:List AV × List bj) c=>let (y,bs):=ao r (n+2) c p.2;(p.1++[y],bs)) ([],bs)):=rfl;rw[e,m];simp
 have g:=u H.get (XA b);have f:=g.len;have t:=Xz b 0 _ rfl;refine⟨{ r with k:=bs.length+add.length} :: sU r bs.length add.length,.inr (.inr ⟨_,xs,by rw[f],?_,by simpa using t,g,by rw[l],?_⟩),λq a=>?_,rfl⟩;·intro e;rw[e]at f;exact d (wU.1 f.symm)
 ·refine Ax.2 ⟨λv=>?_,M8 _ _ _⟩;have:=(Kh v).2.2.2.2;simp only at this;omega
 rw[ja,Eu,<-Ka];rcases fh.1 a with rfl | a
 ·simp[sU]
 simp[a]
def lu(z:Nat)(H:aa)(r:Ref)(es':List AV)(rs:List Ref):Prop :=∃es,H.get r=some ⟨z,es,false,false⟩/\F2 (DE H.get) es es'/\rs=r :: es.flatMap jf/\rs.Nodup
def lu.row{z:Nat}{H:aa}{r:Ref}{es':List AV}{rs:List Ref}(h:lu z H r es' rs)(a:es'≠[]):wC z H (.dsl r 0 es'.length none) es' rs:=by
 obtain⟨es,g,b,f,d⟩:=h;have c:=b.len;exact .inr (.inr ⟨r,es,by rw[c],λe=>a (wU.1 (by rw[<-c,e];rfl)),g,b,f,d⟩)
def lu.bD{z:Nat}{H H':aa}{r:Ref}{es':List AV}{rs:List Ref}(h:lu z H r es' rs)(a : ∀q∈rs,∀b,H.get q=some b->H'.get q=some b):lu z H' r es' rs:=by
 obtain⟨es,i,g,rfl,c⟩:=h;exact⟨es,a r (by simp) _ i,F2.mono (λx d y j=>DE.bD j λq e b f=>a q (by simp only[fh,iK];exact .inr ⟨x,d,e⟩) b f) g,rfl,c⟩
def lu.live{z:Nat}{H:aa}{r:Ref}{es':List AV}{rs:List Ref}(h:lu z H r es' rs) : ∀q∈rs,∃b,H.get q=some b:=by
 obtain⟨es,d,c,rfl,f⟩:=h;intro q a;rcases fh.1 a with rfl | a
 ·exact⟨_,d⟩
 exact F2.live (λx y e=>DE.live e) c q a
def Il{g:cV}{a:List AV}(h:a.all AP=true):DE g (.agg a) (.agg a):=by
 refine⟨a,a,rfl,rfl,?_⟩;induction a with
 | nil=>trivial
 | cons y a b=>simp only[tU,bo]at h;exact⟨.inl ⟨rfl,h.1⟩,b h.2⟩
def ER{a:List AV}(h:a.all AP=true):jf (.agg a)=[]:=by
 show a.flatMap kZ=[];induction a with
 | nil=>rfl
 | cons y a b=>simp only[tU,bo]at h;rw[mz,b h.2];cases y<;>first | rfl | (exact absurd h.1 (by simp[AP]))
def Wg{g:cV}{es:List AV}(h : ∀e∈es,∃a,e = .agg a/\a.all AP=true):F2 (DE g) es es/\es.flatMap jf=[]:=by
 induction es with| nil=>exact⟨trivial,rfl⟩| cons e es d=>obtain⟨a,rfl,b⟩:=h e (by simp);obtain⟨f,i⟩:=d λe c=>h e (by simp[c]);exact⟨⟨Il b,f⟩,by rw[mz,i,ER b];rfl⟩
def Dl{b:Type}{l:List b}{i:Nat}{a:b}(h:l[i]?=some a):l=l.take i++a :: l.drop (i+1):=by
 obtain⟨hi,rfl⟩:=ee.1 h;rw[<-KX hi,BY]
def Mn{A B a:List AV}{i j:Nat}{v:AV}(hi:A.length=i)(b:j<a.length):fm (A ++ .agg a :: B) i j [v]=some (A ++ .agg (patch a j [v]) :: B):=by
 subst hi;unfold fm;rw[gU (cG _),pV];simp only[KW,Ji,Eu];rw[if_pos (by omega)];simp only[Fm _ _ (cG _),pV,Fi,Option.map_some]
def Kc{a b:List AV}{x v:AV}{j:Nat}(h:a.length=j):patch (a++x :: b) j [v]=a++v :: b:=by
 subst h;simp[patch]
def lu.at{z:Nat}{H:aa}{r:Ref}{es':List AV}{rs:List Ref}(h:lu z H r es' rs){i:Nat}{c:List AV}(hi:es'[i]?=some (.agg c)) :
 ∃es a,H.get r=some ⟨z,es,false,false⟩/\es.length=es'.length/\es[i]?=some (.agg a)/\F2 (DC H.get) a c /\∀q∈a.flatMap kZ,q∈rs:=by
 obtain⟨es,k,d,g,m⟩:=h;obtain⟨x,b,a,j,rfl,e,f⟩:=d.at hi;cases e;refine⟨es,a,k,d.len,b,f,λq l=>?_⟩;rw[g];simp only[fh,iK];exact .inr ⟨_,dJ b,by simpa [jf] using l⟩
def lu.set{z:Nat}{H:aa}{r:Ref}{es':List AV}{rs:List Ref}(h:lu z H r es' rs){i j:Nat}{o:List AV}(hi:es'[i]?=some (.agg o))(hj:j<o.length){q:Ref}(T:H.get q=none)(w:Nat)(hz:w≠0)(l:List AV)(c:Option Nat) :
 ∃es K,H.get r=some ⟨z,es,false,false⟩/\es.length=es'.length/\fm es i j [.bk q 0 l.length c]=some K /\
  ∀H':aa,H'.get r=some ⟨z,K,false,false⟩->H'.get q=some ⟨w,l,true,false⟩->(∀p b,p≠r->H.get p=some b->H'.get p=some b) ->
   ∃L,lu z H' r (es'.set i (.agg (patch o j [.fsl w l c]))) L /\∀p∈L,p∈rs\/p=q:=by
 have t:=h.live;obtain⟨es,W,Z,O,E⟩:=h;have R:=Dl hi;have hil:i<es'.length:=(ee.1 hi).1;have m:(es'.take i).length=i:=by rw[ku];omega
 generalize es'.take i=A' at *;generalize es'.drop (i+1)=B' at *;subst R;obtain⟨A,C,rfl,X,V⟩:=F2.split Z;match C,V with
 | x :: B,V=>
 obtain⟨⟨xs,ys',rfl,e,hX⟩,hB⟩:=V;cases e;have S:A.length=i:=by rw[X.len,m]
 obtain⟨y,hy⟩ : ∃y,o[j]?=some y:=⟨_,dI hj⟩;have U:=Dl hy;have J:(o.take j).length=j:=by rw[ku];omega
 generalize o.take j=Y1 at *;generalize o.drop (j+1)=Y2 at *;subst U;obtain⟨f,X3,rfl,F,v⟩:=F2.split hX;match X3,v with
 | x0 :: g,v=>
 have I:f.length=j:=by rw[F.len,J]
 refine⟨_,_,W,Z.len,Mn S (by simp;omega),λH' Y g2 g3=>?_⟩;rw[Kc I]at Y;have G:(A' ++ .agg (Y1++y :: Y2) :: B').set i (.agg (patch (Y1++y :: Y2) j [.fsl w l c]))=A' ++ .agg (Y1 ++ .fsl w l c :: Y2) :: B':=by
  rw[Kc J,Fm _ _ (by omega),m,pV,Fi]
 rw[G];have d : ∀p,p∈A.flatMap jf\/p∈f.flatMap kZ\/p∈g.flatMap kZ\/p∈B.flatMap jf->p∈rs/\p≠r:=by
  intro p hp;have:p∈(A ++ .agg (f++x0 :: g) :: B).flatMap jf:=by
   simp only[Fl,mz,mq,jf];rcases hp with hp | hp | hp | hp
   ·exact .inl hp
   ·exact .inr (.inl (.inl hp))
   ·exact .inr (.inl (.inr (.inr hp)))
   exact .inr (.inr hp)
  rw[O]at E;exact⟨by rw[O];exact j7 _ this,λe=>(Ax.1 E).1 (e ▸ this)⟩
 have M : ∀p,p∈A.flatMap jf\/p∈f.flatMap kZ\/p∈g.flatMap kZ\/p∈B.flatMap jf ->∀b,H.get p=some b->H'.get p=some b:=λp hp b k=>g3 p b (d p hp).2 k;have P:q≠r:=by
  intro e;rw[e,W]at T;cases T
 refine⟨r :: (A ++ .agg (f ++ .bk q 0 l.length c :: g) :: B).flatMap jf,⟨_,Y,?_,rfl,?_⟩,?_⟩;·refine F2.app (F2.mono (λx n y s=>DE.bD s λp hp b k=>M p (.inl (iK.2 ⟨x,n,hp⟩)) b k) X) ⟨⟨_,_,rfl,rfl,F2.app (F2.mono (λx n y s=>DC.bD s λp hp b k=>M p (.inr (.inl (iK.2 ⟨x,n,hp⟩))) b k) F) ⟨.inr ⟨q,w,l,c,rfl,rfl,g2,hz⟩,F2.mono (λx n y s=>DC.bD s λp hp b k=>M p (.inr (.inr (.inl (iK.2 ⟨x,n,hp⟩)))) b k) v.2⟩⟩,F2.mono (λx n y s=>DE.bD s λp hp b k=>M p (.inr (.inr (.inr (iK.2 ⟨x,n,hp⟩)))) b k) hB⟩
 ·rw[O]at E;have e1:(A ++ .agg (f++x0 :: g) :: B).flatMap jf=A.flatMap jf++(f.flatMap kZ++(kZ x0++(g.flatMap kZ++B.flatMap jf))):=by simp[jf,Fl,mz]
  have Q:(A ++ .agg (f ++ .bk q 0 l.length c :: g) :: B).flatMap jf=A.flatMap jf++(f.flatMap kZ++(q :: (g.flatMap kZ++B.flatMap jf))):=(by simp[jf,Fl,mz,kZ]);rw[e1]at E;rw[Q];have D:(r :: (A.flatMap jf++(f.flatMap kZ++(g.flatMap kZ++B.flatMap jf)))).Sublist (r :: (A.flatMap jf++(f.flatMap kZ++(kZ x0++(g.flatMap kZ++B.flatMap jf))))):=
   List.Sublist.cons_cons _ (iQT (List.Sublist.refl _) (iQT (List.Sublist.refl _) (List.sublist_append_right _ _)))
  have hn:=E.sublist D;have u:(r :: (A.flatMap jf++(f.flatMap kZ++(q :: (g.flatMap kZ++B.flatMap jf))))).Perm (q :: (r :: (A.flatMap jf++(f.flatMap kZ++(g.flatMap kZ++B.flatMap jf))))):=(by have:=List.perm_middle (a:=q) (l₁:=r :: (A.flatMap jf++f.flatMap kZ)) (l₂:=g.flatMap kZ++B.flatMap jf);simpa [qP] using this);refine u.nodup_iff.2 (Ax.2 ⟨λN=>?_,hn⟩);rcases fh.1 N with rfl | N
  ·exact P rfl
  have:q∈rs:=(d q (by simp only[mq]at N;exact N)).1;obtain⟨b,k⟩:=t q this;rw[T]at k;cases k
 intro p hp;rcases fh.1 hp with rfl | hp
 ·exact .inl (by rw[O];simp)
 have Q:(A ++ .agg (f ++ .bk q 0 l.length c :: g) :: B).flatMap jf=A.flatMap jf++(f.flatMap kZ++(q :: (g.flatMap kZ++B.flatMap jf))):=(by simp[jf,Fl,mz,kZ]);rw[Q]at hp;simp only[mq,fh]at hp;rcases hp with hp | hp | hp | hp | hp
 ·exact .inl (d p (.inl hp)).1
 ·exact .inl (d p (.inr (.inl hp))).1
 ·exact .inr hp
 ·exact .inl (d p (.inr (.inr (.inl hp)))).1
 exact .inl (d p (.inr (.inr (.inr hp)))).1
@[simp] def Us{P:Program}{t:TypeId}(h:oT P t=true)(g:cV)(r:Ref)(o n:Nat)(c:Option Nat)(b:IntKind)(k:Int) :
 bH P g t (some (.dsl r o n c)) (some (.v (.int b k)))=adC (jw P t) o n k r (g r):=by
 unfold oT at h;obtain⟨e,zz,a,d,j,i,m,f,p,l⟩:=gJ h;simp only[bH,eD,uo,a,d];cases g r<;>rfl
@[simp] def ae6(r:Ref)(o n:Nat)(c:Option Nat):uW (.dsl r o n c)=some n:=id rfl
@[simp] def afq(r:Ref)(o n:Nat)(c:Option Nat):(AV.dsl r o n c).cells=[.dsl r o n c]:=id rfl
@[simp] def aiF(r:Ref)(o n:Nat)(c:Option Nat):(AV.dsl r o n c).one=true:=id rfl
def lpO(o:Option bj):Option (Nat × AV):=match o with
 | some ⟨0,[.v (.int .i64 st),inf],_,_⟩=>some (st.toNat,inf)
 | _=>none
def rY(H:aa)(r:Ref):yQ H r=lpO (H.get r):=rfl
@[simp] def AW(st:Nat)(a:AV):lpO (some (ei st a))=some (st,a):=by
 simp[lpO,ei]
def Xw(a:AV)(K:AV->Prop)(m:Mk K):bgP (some (0,a)) K m↔K a:=by
 constructor;·rintro⟨info,e,h⟩;simp only[ef,tT,iQs]at e;subst e;exact h
 intro h;exact⟨a,rfl,h⟩
attribute [simp] Xw
def WC(H:aa)(r:Ref)(st:Nat)(a:AV):yQ (H.put r (some (ei st a))) r=some (st,a):=by
 rw[rY,aa.ab,if_pos rfl,AW]
def Kk{E:Env}{fn:Func}{dep nt:Nat}{r:Ref}{f:FuncId}{ps:List Tmp}{assign body:Code}{tm:List AV}{args:List AV}{H:aa}{Q:AV->aa->Prop}
 (k:H.get r=some (ei 0 (.lp f nt ps assign body tm))) (b:fn.ntmps=nt) (hp:args.length=ps.length) (c:ps.all (· < nt)=true) (i:codeOk E.ok assign=true) (g:codeOk E.ok body=true)
 (h:vo E fn (some r) (dep+1) [.code assign,.beginRound,.code body] (df (vT tm ps args)) H λx H'=>x = .v (.int .i64 0) /\∃a,H'.get r=some (ei 1 a)/\Q (.v (.bool true)) (H'.put r (some (ei 0 a)))) :
 ∃y H',dg E dep (.yld r) args H=some (y,H')/\Q y H':=by
 refine WI (by rw[rY,k];exact AW _ _) b hp c i g ?_;intro tm' j;obtain⟨y,H',⟨rfl,a,e,d⟩,n,b⟩:=h tm' j;exact⟨_,H',⟨0,rfl,a,_,by rw[rY,e];exact AW _ _,rfl,WC _ _ _ _,λ_=>d,λh=>absurd h (by decide),by decide⟩,n,b⟩
def Dz{s:eC}{l:List (Nat × AV)}(h : ∀p∈l,s p.1=p.2):OE s l=s:=by
 induction l with| nil=>rfl| cons p l a=>
  obtain⟨j,v⟩:=p;funext i;show cond (Nat.beq i j) v (OE s l i)=s i;rw[a λp hp=>h p (j7 _ hp)];cases b:Nat.beq i j with
  | false=>rfl
  | true=>have:=kT b;subst this;exact(h _ (j6 ..)).symm
@[simp] def aaQ(r:Ref)(o n:Nat)(c:Option Nat)(y:AV):fm [AV.bk r o n c] 0 0 [y]=some [y]:=id rfl
@[simp] def aeh(x:Value)(y:AV):fm [AV.v x] 0 0 [y]=some [y]:=id rfl
def Bb{E:Env}(dep:Nat)(H:aa)(r q:Ref)(args:List AV):bm E true (ar E) (dg E dep) H r (some (.yld q)) args=dg E dep (.yld q) args H:=by
 simp[bm,k9,lY,EU,nn]
end Go.Ab
namespace Go.Proofs.YtmjkpdknicjjgaaGreat
open Go.Ab
def fns:List FuncId:=[3,4,5,6,7,8,9,10,11,12,13,14,15,16,17,18,19,20,21,22,23,24,25,26,27,28,29,30,31,32,33,34,35,36,37,38,39,40,41,42,43,44,45,46,47,48,49,50,51,52,53,54,55,56,57,58,59,60,61,62,63,64,65,66,67,68,69,70,71,72,73,74,75,78,79,80,81,82,83,84,85,86,87,88,89,90,91,92,93,94,95,96,97,98,99,100,101,102,103,104,105,107,108,109,110,111,112,113,114,115,116,117,118,119,120,121,122,123,124,125,126,128,129,130,131,132,133,134,135,136,137,138,139,140,141,142,143,144,145,146,147,148,149,150,151,152,153,154,155]
def bD:List FuncId:=[23,43,45,66,72,85,112,131,132]
def kj:List FuncId:=[49,71,129,130]
def F6:List (FuncId × List AV × AV):=[]
def env:Env:=wj Tryz.prog fns bD kj (Hz [(19,13,18),(16,1,77777),(55,1,88888),(27,1,88888)]) (yB [(49,9,0,[(6,50),(6,54)]),(81,5,9,[(82,8)]),(15,12,0,[(20,23)]),(52,10,0,[(56,58)]),(13,5,4,[(3,2)]),(67,5,4,[(3,2)]),(48,5,4,[(6,2)]),(7,6,0,[(3,5)]),(14,5,3,[(15,2)]),(35,21,0,[(36,52),(37,52),(38,52),(41,52),(42,52),(43,52),(47,52),(48,52),(49,52)]),(145,8,4,[(148,2)]),(21,10,4,[(23,3),(25,3)])]) (Pd [(19,13,18),(16,1,77777),(55,1,88888),(27,1,88888)]) F6 (λ_=>false) (λ_=>none) (λf args H=>if f=49 then oy Tryz.prog 22 40 args H else none)
@[simp] def aV(b:Bool)(h:aa)(n n2:Nat)(a:List AV)(k:AV->aa->Prop):Prop:=iE (bm env b (ar env) (dg env 0) h (Ref.mk 0 n (aa.gen h 0 n) 0) (some (AV.fn (Fn.func n2) [] [])) a) k
@[simp] def ad(h:aa)(n:Nat)(v:AV)(k:AV->Prop):Prop:=dL (ow env.P (aa.get h) n (some v)) k
@[simp] def ae(n:Nat)(v:AV)(n2:Nat)(k:AV->Prop):Prop:=dL (iM env.P n (some v) n2) k
@[simp] def fY(n n2:Nat)(i:Int)(v:AV)(k:AV->Prop):Prop:=dL (bC env.P .add n (Operand.tmp n2) (Operand.const (Value.int IntKind.i64 i)) (some v) (some (AV.v (Value.int IntKind.i64 i)))) k
@[simp] def dH(h:aa)(n n2:Nat)(v:AV)(k:AV->aa->Prop):Prop:=iE (lY h (Ref.mk 0 n (aa.gen h 0 n) 0) (Lx env.P (Ref.mk 0 n (aa.gen h 0 n) 0) n2 (some v))) k
@[simp] def de(h:aa)(n n2:Nat)(v:AV)(k:AV->Prop):Prop:=dL (cb env.P false (aa.get h) (Ref.mk 0 n (aa.gen h 0 n) 0) .len #[n2] [v]) k
@[simp] def aC(h:aa)(n:Nat)(v a:AV)(k:AV->aa->Prop):Prop:=iE (jy env.P h n (some v) (some a)) k
@[simp] def dV(h:aa)(n n2:Nat)(k:AV->aa->Prop):Prop:=iE (lY h (Ref.mk 0 n (aa.gen h 0 n) 0) (vX env.P (Ref.mk 0 n (aa.gen h 0 n) 0) n2)) k
@[simp] def cY(h:aa)(n n2 a:Nat)(v:AV)(k:AV->Prop):Prop:=dL (bY env.P (aa.get h) (Ref.mk 0 n (aa.gen h 0 n) 0) n2 a (some v)) k
@[simp] def cu(v a:AV)(k:AV->Prop):Prop:=dL (ue (some v) (some a) (some (AV.v (Value.bool false)))) k
@[simp] def gC(n n2:Nat)(i:Int)(v:AV)(k:AV->Prop):Prop:=dL (bC env.P .neq n (Operand.tmp n2) (Operand.const (Value.int IntKind.i64 i)) (some v) (some (AV.v (Value.int IntKind.i64 i)))) k
@[simp] def an(h:aa)(n:Nat)(v:AV):=ow env.P (aa.get h) n (some v)
@[simp] def fg(b:Bool)(h:aa)(n n2:Nat)(a:List AV):=bm env b (ar env) (dg env 0) h (Ref.mk 0 n (aa.gen h 0 n) 0) (some (AV.fn (Fn.func n2) [] [])) a
@[simp] def dC(h:aa)(n n2 a:Nat)(v b:AV)(k:AV->aa->Prop):Prop:=iE (dm env.P true h (Ref.mk 0 n (aa.gen h 0 n) 0) (some n2) (some a) v b) k
@[simp] def eX(h:aa)(n:Nat)(v:AV)(i:Int)(k:AV->Prop):Prop:=dL (bH env.P (aa.get h) n (some v) (some (AV.v (Value.int IntKind.i64 i)))) k
@[simp] def dh(v a:AV)(k:AV->Prop):Prop:=dL (ue (some v) (some (AV.v (Value.bool true))) (some a)) k
@[simp] def aw(n:Nat)(v:AV)(n2:Nat):=iM env.P n (some v) n2
@[simp] def cH(h:aa)(n:Nat)(v a:AV)(k:AV->Prop):Prop:=dL (bH env.P (aa.get h) n (some v) (some a)) k
@[simp] def my(n n2:Nat)(i:Int)(v:AV)(k:AV->Prop):Prop:=dL (bC env.P .rem n (Operand.tmp n2) (Operand.const (Value.int IntKind.i64 i)) (some v) (some (AV.v (Value.int IntKind.i64 i)))) k
@[simp] def eU(n n2 a:Nat)(v b:AV)(k:AV->Prop):Prop:=dL (bC env.P .lss n (Operand.tmp n2) (Operand.tmp a) (some v) (some b)) k
@[simp] def fQ(n n2 a:Nat)(v b:AV)(k:AV->Prop):Prop:=dL (bC env.P .add n (Operand.tmp n2) (Operand.tmp a) (some v) (some b)) k
@[simp] def og(n n2:Nat)(i:Int)(v:AV):=bC env.P .geq n (Operand.tmp n2) (Operand.const (Value.int IntKind.i64 i)) (some v) (some (AV.v (Value.int IntKind.i64 i)))
@[simp] def pn(n:Nat)(i:Int)(n2:Nat)(v:AV)(k:AV->Prop):Prop:=dL (bC env.P .mul n (Operand.const (Value.int IntKind.i64 i)) (Operand.tmp n2) (some (AV.v (Value.int IntKind.i64 i))) (some v)) k
@[simp] def aN(h:aa)(v:AV)(n:Nat)(k:AV->Prop):Prop:=dL (yJ env.P h v n) k
@[simp] def pU(n n2:Nat)(i:Int)(v:AV)(k:AV->Prop):Prop:=dL (bC env.P .lss n (Operand.tmp n2) (Operand.const (Value.int IntKind.i64 i)) (some v) (some (AV.v (Value.int IntKind.i64 i)))) k
@[simp] def aQ(v:AV)(n:Nat)(k:AV->Prop):Prop:=dL (ud (some v) n) k
@[simp] def rH(n n2:Nat)(i:Int)(v:AV)(k:AV->Prop):Prop:=dL (bC env.P .quo n (Operand.tmp n2) (Operand.const (Value.int IntKind.i64 i)) (some v) (some (AV.v (Value.int IntKind.i64 i)))) k
@[simp] def sN(n n2:Nat)(i:Int)(v:AV)(k:AV->Prop):Prop:=dL (bC env.P .gtr n (Operand.tmp n2) (Operand.const (Value.int IntKind.i64 i)) (some v) (some (AV.v (Value.int IntKind.i64 i)))) k
@[simp] def tS(n n2:Nat)(i:Int)(v:AV):=bC env.P .eql n (Operand.tmp n2) (Operand.const (Value.int IntKind.i64 i)) (some v) (some (AV.v (Value.int IntKind.i64 i)))
@[simp] def mw(h:aa)(n n2 b a:Nat)(v:AV)(k:AV->aa->Prop):Prop:=iE (lb env.P false true h (Ref.mk 0 n (aa.gen h 0 n) 0) n2 b (some [(a,v)])) k
@[simp] def cS(n:Nat)(k:AV->Prop):Prop:=dL (mI env.P n (some [])) k
@[simp] def vF(n n2:Nat)(i:Int)(v:AV)(k:AV->Prop):Prop:=dL (bC env.P .eql n (Operand.tmp n2) (Operand.const (Value.int IntKind.i64 i)) (some v) (some (AV.v (Value.int IntKind.i64 i)))) k
@[simp] def vE(n n2:Nat)(i:Int)(v:AV):=bC env.P .lss n (Operand.tmp n2) (Operand.const (Value.int IntKind.i64 i)) (some v) (some (AV.v (Value.int IntKind.i64 i)))
@[simp] def wO(n n2:Nat)(i:Int)(v:AV)(k:AV->Prop):Prop:=dL (bC env.P .geq n (Operand.tmp n2) (Operand.const (Value.int IntKind.i64 i)) (some v) (some (AV.v (Value.int IntKind.i64 i)))) k
@[simp] def k7(n n2 a:Nat)(v b:AV):=bC env.P .eql n (Operand.tmp n2) (Operand.tmp a) (some v) (some b)
@[simp] def wN(n n2:Nat)(i:Int)(v:AV):=bC env.P .neq n (Operand.tmp n2) (Operand.const (Value.int IntKind.i64 i)) (some v) (some (AV.v (Value.int IntKind.i64 i)))
@[simp] def z8(n n2:Nat)(i:Int)(v:AV):=bC env.P .leq n (Operand.tmp n2) (Operand.const (Value.int IntKind.i64 i)) (some v) (some (AV.v (Value.int IntKind.i64 i)))
@[simp] def BT(n n2:Nat)(i:Int)(v:AV)(k:AV->Prop):Prop:=dL (bC env.P .sub n (Operand.tmp n2) (Operand.const (Value.int IntKind.i64 i)) (some v) (some (AV.v (Value.int IntKind.i64 i)))) k
@[simp] def C9(n:Nat)(i:Int)(n2:Nat)(v:AV)(k:AV->Prop):Prop:=dL (bC env.P .add n (Operand.const (Value.int IntKind.i64 i)) (Operand.tmp n2) (some (AV.v (Value.int IntKind.i64 i))) (some v)) k
@[simp] def xT(n n2:Nat)(v:AV)(k:AV->Prop):Prop:=dL (bC env.P .eql n (Operand.tmp n2) (.const (.int .u8 1)) (some v) (some (a8 1))) k
@[simp] def uU(n n2 a:Nat)(v b:AV)(k:AV->Prop):Prop:=dL (bC env.P .eql n (Operand.tmp n2) (Operand.tmp a) (some v) (some b)) k
@[simp] def Fg(n n2:Nat)(i:Int)(v:AV):=bC env.P .gtr n (Operand.tmp n2) (Operand.const (Value.int IntKind.i64 i)) (some v) (some (AV.v (Value.int IntKind.i64 i)))
@[simp] def z7(n n2:Nat)(v:AV)(k:AV->Prop):Prop:=dL (bC env.P .eql n (Operand.tmp n2) (.const (.int .u8 3)) (some v) (some (a8 3))) k
@[simp] def Gu(n n2:Nat)(i:Int)(v:AV)(k:AV->Prop):Prop:=dL (bC env.P .mul n (Operand.tmp n2) (Operand.const (Value.int IntKind.i64 i)) (some v) (some (AV.v (Value.int IntKind.i64 i)))) k
@[simp] def xS(h:aa)(n n2 a:Nat)(v:AV):=bY env.P (aa.get h) (Ref.mk 0 n (aa.gen h 0 n) 0) n2 a (some v)
@[simp] def z6(h:aa)(n:Nat)(v a:AV)(k:AV->Prop):Prop:=dL (cr env.P (aa.get h) n (some v) (oi a) (some none) (some none)) k
@[simp] def lA(v:AV)(k:AV->Prop):Prop:=dL (Zl env.P .not (some v)) k
@[simp] def bL(v:AV):=iL (some v)
@[simp] def BS(h:aa)(n n2:Nat)(v:AV):=cb env.P false (aa.get h) (Ref.mk 0 n (aa.gen h 0 n) 0) .len #[n2] [v]
@[simp] def Av(n n2 a:Nat)(v b:AV)(k:AV->Prop):Prop:=dL (bC env.P .neq n (Operand.tmp n2) (Operand.tmp a) (some v) (some b)) k
@[simp] def Q3(h:aa)(n n2:Nat)(i:Int)(k:AV->aa->Prop):Prop:=iE (lY h (Ref.mk 0 n (aa.gen h 0 n) 0) (yL env.P (Ref.mk 0 n (aa.gen h 0 n) 0) n2 (some (AV.v (Value.int IntKind.i64 i))) (some (AV.v (Value.int IntKind.i64 i))))) k
@[simp] def qN(n n2:Nat)(v:AV)(a:Nat)(b:AV)(k:AV->Prop):Prop:=dL (mI env.P n (some [(n2,v),(a,b)])) k
@[simp] def C8(n n2 a:Nat)(v b:AV)(k:AV->Prop):Prop:=dL (bC env.P .or n (Operand.tmp n2) (Operand.tmp a) (some v) (some b)) k
@[simp] def BR(n n2 a:Nat)(v b:AV):=bC env.P .neq n (Operand.tmp n2) (Operand.tmp a) (some v) (some b)
@[simp] def JU(n n2:Nat)(v:AV)(k:AV->Prop):Prop:=dL (bC env.P .shl n (Operand.tmp n2) (.const (.int .u64 8)) (some v) (some (.v (.int .u64 8)))) k
@[simp] def Gt(n n2:Nat)(v:AV)(k:AV->Prop):Prop:=dL (bC env.P .eql n (Operand.tmp n2) (.const (.int .u8 2)) (some v) (some (a8 2))) k
@[simp] def Ff(h:aa)(n:Nat)(v a:AV)(k:AV->Prop):Prop:=dL (cr env.P (aa.get h) n (some v) (some none) (oi a) (some none)) k
@[simp] def JT(h:aa)(n:Nat)(v:AV)(k:AV->Prop):Prop:=dL (cr env.P (aa.get h) n (some v) (some none) (oi (.v (.int .i64 5))) (some none)) k
@[simp] def Q2(n:Nat)(i:Int)(n2:Nat)(v:AV)(k:AV->Prop):Prop:=dL (bC env.P .sub n (Operand.const (Value.int IntKind.i64 i)) (Operand.tmp n2) (some (AV.v (Value.int IntKind.i64 i))) (some v)) k
@[simp] def tQ(n n2:Nat)(v:AV)(k:AV->Prop):Prop:=dL (mI env.P n (some [(n2,v)])) k
@[simp] def Uw(n n2:Nat)(i a:Int)(k:AV->Prop):Prop:=dL (bC env.P .quo n (Operand.tmp n2) (Operand.const (Value.int IntKind.i64 i)) (some (AV.v (Value.int IntKind.i64 a))) (some (AV.v (Value.int IntKind.i64 i)))) k
@[simp] def Mj(h:aa)(n:Nat)(v a:AV)(k:AV->aa->Prop):Prop:=iE (bm env true (ar env) (dg env 0) h (Ref.mk 0 n (aa.gen h 0 n) 0) (some v) [a]) k
@[simp] def Mi(h:aa)(n n2 c a:Nat)(v:AV)(b:Nat)(f:AV)(e:Nat)(d:AV)(k:AV->aa->Prop):Prop:=iE (lb env.P false true h (Ref.mk 0 n (aa.gen h 0 n) 0) n2 c (some [(a,v),(b,f),(e,d)])) k
@[simp] def QZ(n n2:Nat)(v:AV)(k:AV->Prop):Prop:=dL (bC env.P .eql n (Operand.tmp n2) (.const (.slice none 0 0)) (some v) (some (.v (.slice none 0 0)))) k
@[simp] def QY(h:aa)(n:Nat)(v:AV)(k:AV->Prop):Prop:=dL (cr env.P (aa.get h) n (some v) (oi (.v (.int .i64 1))) (oi (.v (.int .i64 5))) (some none)) k
@[simp] def JS(n n2 a:Nat)(v b:AV)(k:AV->Prop):Prop:=dL (bC env.P .gtr n (Operand.tmp n2) (Operand.tmp a) (some v) (some b)) k
@[simp] def JR(n n2 a:Nat)(v b:AV)(k:AV->Prop):Prop:=dL (bC env.P .sub n (Operand.tmp n2) (Operand.tmp a) (some v) (some b)) k
@[simp] def QX(h:aa)(n n2 a:Nat)(v:AV)(k:AV->Prop):Prop:=dL (cb env.P false (aa.get h) (Ref.mk (n+1) n2 (aa.gen h (n+1) n2) 0) .len #[a] [v]) k
@[simp] def QW(h:aa)(n n2 a:Nat)(v:AV)(k:AV->aa->Prop):Prop:=iE (dm env.P true h (Ref.mk 0 n (aa.gen h 0 n) 0) (some n2) (some a) (.v (.slice none 0 0)) v) k
@[simp] def QV(h:aa)(n n2 c a:Nat)(v:AV)(b:Nat)(i:AV)(g:Nat)(f:AV)(d:Nat)(e:AV)(k:AV->aa->Prop):Prop:=iE (lb env.P false true h (Ref.mk 0 n (aa.gen h 0 n) 0) n2 c (some [(a,v),(b,i),(g,f),(d,e)])) k
@[simp] def QU(h:aa)(n n2 b a:Nat)(v c:AV)(k:AV->aa->Prop):Prop:=iE (dm env.P true h (Ref.mk (n+1) n2 (aa.gen h (n+1) n2) 0) (some b) (some a) v c) k
@[simp] def QT(h:aa)(n n2 a:Nat)(k:AV->aa->Prop):Prop:=iE (lb env.P false true h (Ref.mk 0 n (aa.gen h 0 n) 0) n2 a (some [(0,(a8 0))])) k
@[simp] def pT(v:AV)(k:AV->Prop):Prop:=dL (Nd (some v)) k
@[simp] def QS(h:aa)(n n2:Nat)(v:AV)(k:AV->Prop):Prop:=dL (cb env.P false (aa.get h) (Ref.mk 0 n (aa.gen h 0 n) 0) .cap #[n2] [v]) k
@[simp] def QR(h:aa)(n n2 b a:Nat)(v:AV)(k:AV->aa->Prop):Prop:=iE (lb env.P true false h (Ref.mk 0 n (aa.gen h 0 n) 0) n2 b (some [(a,v)])) k
@[simp] def vD(v:AV):=Zl env.P .not (some v)
@[simp] def Uv(n n2:Nat)(v:AV)(k:AV->Prop):Prop:=dL (bC env.P .shr n (Operand.tmp n2) (.const (.int .u64 8)) (some v) (some (.v (.int .u64 8)))) k
@[simp] def Mh(h:aa)(n:Nat)(v:AV)(k:AV->aa->Prop):Prop:=iE (jy env.P h n (some v) (some (.v (.slice none 0 0)))) k
@[simp] def Mg(v a:AV):=ue (some v) (some a) (some (AV.v (Value.bool false)))
@[simp] def QQ(n n2 a:Nat)(v b:AV)(k:AV->Prop):Prop:=dL (bC env.P .shr n (Operand.tmp n2) (Operand.tmp a) (some v) (some b)) k
@[simp] def aaN(h:aa)(n n2 a:Nat)(k:AV->aa->Prop):Prop:=iE (lY h (Ref.mk (n+1) n2 (aa.gen h (n+1) n2) 0) (vX env.P (Ref.mk (n+1) n2 (aa.gen h (n+1) n2) 0) a)) k
@[simp] def aaM(n n2:Nat)(i:Int)(v:AV):=bC env.P .sub n (Operand.tmp n2) (Operand.const (Value.int IntKind.i64 i)) (some v) (some (AV.v (Value.int IntKind.i64 i)))
@[simp] def aaL(n n2:Nat)(i:Int)(v:AV):=bC env.P .rem n (Operand.tmp n2) (Operand.const (Value.int IntKind.i64 i)) (some v) (some (AV.v (Value.int IntKind.i64 i)))
@[simp] def QP(h:aa)(n:Nat)(v a:AV):=cr env.P (aa.get h) n (some v) (some none) (oi a) (some none)
@[simp] def QO(n n2 a:Nat)(v b:AV):=bC env.P .lss n (Operand.tmp n2) (Operand.tmp a) (some v) (some b)
@[simp] def aaG(h:aa)(n:Nat)(v:AV)(k:AV->aa->Prop):Prop:=iE (bm env true (ar env) (dg env 0) h (Ref.mk 0 n (aa.gen h 0 n) 0) (some v) [(.v (.int .i64 1))]) k
@[simp] def aaF(h:aa)(n n2:Nat)(v:AV)(k:AV->aa->Prop):Prop:=iE (lY h (Ref.mk 0 n (aa.gen h 0 n) 0) (yL env.P (Ref.mk 0 n (aa.gen h 0 n) 0) n2 (some v) (some v))) k
@[simp] def QN(v a:AV):=ue (some v) (some (AV.v (Value.bool true))) (some a)
@[simp] def aaE(h:aa)(n:Nat)(v:AV)(k:AV->Prop):Prop:=dL (cr env.P (aa.get h) n (some v) (oi (.v (.int .i64 24))) (oi (.v (.int .i64 29))) (some none)) k
@[simp] def aaD(n n2:Nat)(v:AV)(k:AV->Prop):Prop:=dL (bC env.P .neq n (Operand.tmp n2) (.const (.int .i32 (-1))) (some v) (some (.v (.int .i32 (-1))))) k
@[simp] def Mf(h:aa)(n:Nat)(v a:AV):=bH env.P (aa.get h) n (some v) (some a)
@[simp] def aaC(h:aa)(n:Nat)(v:AV)(k:AV->Prop):Prop:=dL (cr env.P (aa.get h) n (some v) (oi (.v (.int .i64 1))) (oi (.v (.int .i64 7))) (some none)) k
@[simp] def aaB(h:aa)(n:Nat)(v:AV)(k:AV->Prop):Prop:=dL (cr env.P (aa.get h) n (some v) (oi (.v (.int .i64 5))) (oi (.v (.int .i64 8))) (some none)) k
@[simp] def aaA(n n2:Nat)(v:AV)(k:AV->Prop):Prop:=dL (bC env.P .shr n (Operand.tmp n2) (.const (.int .u64 16)) (some v) (some (.v (.int .u64 16)))) k
@[simp] def aaz(n n2:Nat)(v:AV)(k:AV->Prop):Prop:=dL (bC env.P .shl n (Operand.tmp n2) (.const (.int .u64 16)) (some v) (some (.v (.int .u64 16)))) k
@[simp] def OH(h:aa)(n:Nat)(v:AV)(k:AV->aa->Prop):Prop:=iE (jy env.P h n (some v) (some (AV.v (Value.bool true)))) k
@[simp] def OG(n n2 a:Nat)(v b:AV):=bC env.P .add n (Operand.tmp n2) (Operand.tmp a) (some v) (some b)
@[simp] def OF(n n2 a:Nat)(v b:AV):=bC env.P .leq n (Operand.tmp n2) (Operand.tmp a) (some v) (some b)
@[simp] def CC(h:aa)(n:Nat)(v a:AV)(k:AV->aa->Prop):Prop:=iE (AH env.P h (some n) v a) k
@[simp] def KD(n:Nat):=mI env.P n (some [])
def agN:Nat->Option (List Nat):=λ_=>none
def T3:Nat->Bool:=λ_=>false
abbrev fZ:=Nat->AV
abbrev bdF(f:Func):Code:=f.body.getD .skip
abbrev sL(f:Func)(n:Nat):List Item:=(qq n 400 [.code (bdF f)]).getD []
abbrev fL(f:Func)(d:Nat)(l:List (Nat × AV))(H:aa)(Q:AV->aa->Prop):Prop:=bS env f d [.code (bdF f)] l H Q
def md{P:(Nat->AV)->Prop}{f:Func}{d:Nat}{l:List (Nat × AV)}{H:aa}{Q:AV->aa->Prop}(e:P=λg=>wp env f none d agN T3 Q 500 [.code (bdF f)] (OE g l) H)(h : ∀g,P g):fL f d l H Q:=⟨λg=>sQ (live:=agN) (cut:=T3) (n:=500) (Eq.mp (congrFun e g) (h g))⟩
def uC(v:Nat->Option (List Nat)){P:(Nat->AV)->Prop}{f:Func}{d:Nat}{l:List (Nat × AV)}{H:aa}{Q:AV->aa->Prop}(e:P=λg=>wp env f none d v T3 Q 500 [.code (bdF f)] (OE g l) H)(h : ∀g,P g):fL f d l H Q:=⟨λg=>sQ (live:=v) (cut:=T3) (n:=500) (Eq.mp (congrFun e g) (h g))⟩
def tG(v:Nat->Option (List Nat)){P:(Nat->AV)->Prop}{f:Func}{d:Nat}{b:List Item}{l:List (Nat × AV)}{H:aa}{Q:AV->aa->Prop}(e:P=λg=>wp env f none d v T3 Q 500 (QC b) (OE g l) H)(h : ∀g,P g):bS env f d b l H Q:=DU λg=>sQ (live:=v) (cut:=T3) (n:=500) (Eq.mp (congrFun e g) (h g))
def aF{f:FuncId}{fn:Func}{args:List AV}{y:AV}(d:env.spec f args=none)(e:(env.allowed f,env.P.funcs[f]?,fn.body.isSome,Nat.ble args.length fn.ntmps)=(true,some fn,true,true))(h:fL fn 0 (FO 0 args) [] λx H=>cU env f x H y):ar env f args=some y:=by
 injection e with i e
 injection e with j e
 injection e with b g
 cases a:fn.body with| none=>rw[a]at b;cases b| some c=>unfold fL bdF at h;rw[a]at h;exact xf d i j a g h
def Ql:FH env fns=true:=by kernel_rfl
@[simp] def ajq{f:FuncId}(h:kj.contains f=false):(env.mode f == 2)=false:=by
 show((if bD.contains f then (if kj.contains f then 3 else 1) else if kj.contains f then 2 else 0) == 2)=false;rw[h];split<;>rfl
@[simp] def aiH{f:FuncId}(h:kj.contains f=false):(env.mode f == 3)=false:=by
 show((if bD.contains f then (if kj.contains f then 3 else 1) else if kj.contains f then 2 else 0) == 3)=false;rw[h];split<;>rfl
def agL{f:FuncId}(h:bD.contains f=false):uJ (env.mode f)=false:=by
 show uJ (if bD.contains f then (if kj.contains f then 3 else 1) else if kj.contains f then 2 else 0)=false;rw[h];cases kj.contains f<;>rfl
@[simp] def aiL{f:FuncId}(h:bD.contains f=false)(x:AV)(H:aa)(y:AV):cU env f x H y↔view H.get depth x=some y:=Kq (agL h) x H y
def agK{f:FuncId}(h:bD.contains f=true):uJ (env.mode f)=true:=by
 show uJ (if bD.contains f then (if kj.contains f then 3 else 1) else if kj.contains f then 2 else 0)=true;rw[h];cases kj.contains f<;>rfl
@[simp] def aiK{f:FuncId}(h:bD.contains f=true)(x:AV)(H:aa)(y:AV):cU env f x H y↔(ah H.get depth x).Nodup/\bO H.get depth x=some y:=FG (agK h) x H y
@[simp] def Yr:aE env.P 3=(some 1):=by kernel_rfl
@[simp] def ack:eK env.P 3=(some false):=by kernel_rfl
@[simp] def Yn:eu env.P 3=(some (.v (.int .i64 0))):=by kernel_rfl
@[simp] def ZL:ox env.P 3=(some 1):=by kernel_rfl
@[simp] def ZR:isInt env.P 3=true:=by kernel_rfl
@[simp] def TE:intKind env.P 3=(some .i64):=by kernel_rfl
@[simp] def acf:(env.P.underlying 3).isNone=false:=by kernel_rfl
@[simp] def Yq:aE env.P 4=(some 1):=by kernel_rfl
@[simp] def acj:eK env.P 4=(some false):=by kernel_rfl
@[simp] def ZK:ox env.P 4=(some 0):=by kernel_rfl
@[simp] def WR:isBool env.P 4=true:=by kernel_rfl
@[simp] def Yp:aE env.P 5=(some 1):=by kernel_rfl
@[simp] def aci:eK env.P 5=(some false):=by kernel_rfl
@[simp] def ZJ:ox env.P 5=(some 1):=by kernel_rfl
@[simp] def TD:intKind env.P 5=(some .u8):=by kernel_rfl
@[simp] def ace:(env.P.underlying 5).isNone=false:=by kernel_rfl
@[simp] def aiJ:isStr env.P 9=true:=by kernel_rfl
@[simp] def U3:aE env.P 21=(some 1):=by kernel_rfl
@[simp] def YD:eK env.P 21=(some false):=by kernel_rfl
@[simp] def adt:intKind env.P 21=(some .i32)/\(env.P.underlying 21).isNone=false:=by repeat' first|kernel_rfl|constructor
@[simp] def U2:aE env.P 22=(some 1):=by kernel_rfl
@[simp] def YC:eK env.P 22=(some false):=by kernel_rfl
@[simp] def MJ:ca env.P 22=(some 59):=by kernel_rfl
@[simp] def Yy:ly env.P 22=none:=by kernel_rfl
@[simp] def WN:isStr env.P 22=false:=by kernel_rfl
@[simp] def ad9:I7 env.P 22=true:=by kernel_rfl
@[simp] def aaj:oT env.P 22=true:=by kernel_rfl
@[simp] def adP:jw env.P 22=2:=by kernel_rfl
@[simp] def aal:oe env.P 22=32:=by kernel_rfl
@[simp] def TV:eT env.P 22=(.agg [(.v (.int .i64 0)),(.v (.slice none 0 0))]):=by kernel_rfl
@[simp] def pZ:aE env.P 24=(some 4):=by kernel_rfl
@[simp] def aim:eK env.P 24=(some true)/\ly env.P 24=none/\eu env.P 24=(some (.agg [(.v (.slice none 0 0)),(.v (.int .i64 0)),(.v (.int .i64 0)),(.v (.bool false))])):=by repeat' first|kernel_rfl|constructor
@[simp] def N0:iT env.P 24=(some [22,3,3,4]):=by kernel_rfl
@[simp] def ae0:gZ env.P 24=(some [(0,1),(1,1),(2,1),(3,1)])/\aD env.P 24 0=(some (0,1))/\aD env.P 24 1=(some (1,1))/\aD env.P 24 2=(some (2,1))/\aD env.P 24 3=(some (3,1))/\aE env.P 25=(some 1)/\eK env.P 25=(some false)/\ox env.P 25=(some 1)/\intKind env.P 25=(some .u32)/\(env.P.underlying 25).isNone=false/\aE env.P 27=(some 2)/\eK env.P 27=(some true)/\ly env.P 27=none/\eu env.P 27=(some (.agg [(a8 0),(bR 0)]))/\ox env.P 27=none/\F9 env.P 27=true:=by repeat' first|kernel_rfl|constructor
@[simp] def NZ:iT env.P 27=(some [5,25]):=by kernel_rfl
@[simp] def aeZ:gZ env.P 27=(some [(0,1),(1,1)])/\aD env.P 27 0=(some (0,1))/\aD env.P 27 1=(some (1,1))/\aE env.P 29=(some 3)/\eK env.P 29=(some true)/\ly env.P 29=none/\eu env.P 29=(some (.agg [(a8 0),(bR 0),(a8 0)]))/\ox env.P 29=none/\F9 env.P 29=true:=by repeat' first|kernel_rfl|constructor
@[simp] def NY:iT env.P 29=(some [27,5]):=by kernel_rfl
@[simp] def aeY:gZ env.P 29=(some [(0,2),(2,1)])/\rN env.P 29 0=(some (0,27))/\aD env.P 29 0=(some (0,2))/\aD env.P 29 1=(some (2,1))/\aE env.P 31=(some 4)/\eK env.P 31=(some true)/\ly env.P 31=none/\eu env.P 31=(some (.agg [(a8 0),(bR 0),(a8 0),(.v (.int .i64 0))]))/\ox env.P 31=none/\F9 env.P 31=true:=by repeat' first|kernel_rfl|constructor
@[simp] def NX:iT env.P 31=(some [29,3]):=by kernel_rfl
@[simp] def aeX:gZ env.P 31=(some [(0,3),(3,1)])/\aD env.P 31 0=(some (0,3))/\aD env.P 31 1=(some (3,1))/\aE env.P 33=(some 5)/\eK env.P 33=(some true)/\ly env.P 33=none/\eu env.P 33=(some (.agg [(a8 0),(bR 0),(a8 0),(.v (.int .i64 0)),(.v (.int .i64 0))]))/\ox env.P 33=none/\F9 env.P 33=true:=by repeat' first|kernel_rfl|constructor
@[simp] def NW:iT env.P 33=(some [31,3]):=by kernel_rfl
@[simp] def aeW:gZ env.P 33=(some [(0,4),(4,1)])/\aD env.P 33 0=(some (0,4))/\aD env.P 33 1=(some (4,1))/\aE env.P 34=(some 1)/\eK env.P 34=(some false):=by repeat' first|kernel_rfl|constructor
@[simp] def U9:ca env.P 34=(some 21):=by kernel_rfl
@[simp] def ah2:ly env.P 34=none/\isStr env.P 34=false/\eu env.P 34=(some (.v (.slice none 0 0)))/\I7 env.P 34=true/\oT env.P 34=true/\jw env.P 34=1/\oe env.P 34=4/\eT env.P 34=(.v (.int .i32 0))/\aE env.P 36=(some 17)/\eK env.P 36=(some true)/\ly env.P 36=none/\eu env.P 36=(some (.agg [(a8 0),(a8 0),(bR 0),(a8 0),(.v (.int .i64 0)),(a8 0),(bR 0),(a8 0),(.v (.int .i64 0)),(.v (.int .i64 0)),(a8 0),(bR 0),(a8 0),(.v (.int .i64 0)),(a8 0),(bR 0),(.v (.slice none 0 0))])):=by repeat' first|kernel_rfl|constructor
@[simp] def NV:iT env.P 36=(some [5,29,3,33,31,27,34]):=by kernel_rfl
@[simp] def aeV:gZ env.P 36=(some [(0,1),(1,3),(4,1),(5,5),(10,4),(14,2),(16,1)])/\aD env.P 36 0=(some (0,1))/\aD env.P 36 1=(some (1,3))/\aD env.P 36 2=(some (4,1))/\aD env.P 36 3=(some (5,5))/\aD env.P 36 4=(some (10,4))/\aD env.P 36 5=(some (14,2))/\aD env.P 36 6=(some (16,1))/\aE env.P 37=(some 1)/\eK env.P 37=(some false)/\intKind env.P 37=(some .i64)/\(env.P.underlying 37).isNone=false/\aE env.P 39=(some 3)/\eK env.P 39=(some true)/\ly env.P 39=none/\eu env.P 39=(some (.agg [(a8 0),(bR 0),(.v (.bool false))]))/\ox env.P 39=none:=by repeat' first|kernel_rfl|constructor
@[simp] def NU:iT env.P 39=(some [27,4]):=by kernel_rfl
@[simp] def aeU:gZ env.P 39=(some [(0,2),(2,1)])/\aD env.P 39 0=(some (0,2))/\aD env.P 39 1=(some (2,1))/\aE env.P 41=(some 4)/\eK env.P 41=(some true)/\ly env.P 41=none/\eu env.P 41=(some (.agg [(.v (.int .i64 0)),(a8 0),(bR 0),(.v (.bool false))]))/\ox env.P 41=none/\F9 env.P 41=true:=by repeat' first|kernel_rfl|constructor
@[simp] def NT:iT env.P 41=(some [3,39]):=by kernel_rfl
@[simp] def aeT:gZ env.P 41=(some [(0,1),(1,3)])/\aD env.P 41 0=(some (0,1))/\aD env.P 41 1=(some (1,3)):=by repeat' first|kernel_rfl|constructor
@[simp] def U1:aE env.P 43=(some 24):=by kernel_rfl
@[simp] def YB:eK env.P 43=(some true):=by kernel_rfl
@[simp] def ahY:ly env.P 43=none/\eu env.P 43=(some (.agg [(a8 0),(.v (.int .i64 0)),(a8 0),(a8 0),(bR 0),(a8 0),(.v (.int .i64 0)),(a8 0),(bR 0),(a8 0),(.v (.int .i64 0)),(.v (.int .i64 0)),(a8 0),(bR 0),(a8 0),(.v (.int .i64 0)),(a8 0),(bR 0),(.v (.slice none 0 0)),(.v (.int .i64 0)),(.v (.int .i64 0)),(a8 0),(bR 0),(.v (.bool false))])):=by repeat' first|kernel_rfl|constructor
@[simp] def NS:iT env.P 43=(some [5,3,36,37,41]):=by kernel_rfl
@[simp] def aeS:gZ env.P 43=(some [(0,1),(1,1),(2,17),(19,1),(20,4)])/\aD env.P 43 0=(some (0,1))/\aD env.P 43 1=(some (1,1))/\aD env.P 43 2=(some (2,17))/\aD env.P 43 3=(some (19,1))/\aD env.P 43 4=(some (20,4))/\eK env.P 50=(some false):=by repeat' first|kernel_rfl|constructor
@[simp] def U8:ca env.P 50=(some 43):=by kernel_rfl
@[simp] def ahX:ly env.P 50=none/\isStr env.P 50=false/\I7 env.P 50=true/\oT env.P 50=true/\jw env.P 50=24/\oe env.P 50=160/\eT env.P 50=(.agg [(a8 0),(.v (.int .i64 0)),(a8 0),(a8 0),(bR 0),(a8 0),(.v (.int .i64 0)),(a8 0),(bR 0),(a8 0),(.v (.int .i64 0)),(.v (.int .i64 0)),(a8 0),(bR 0),(a8 0),(.v (.int .i64 0)),(a8 0),(bR 0),(.v (.slice none 0 0)),(.v (.int .i64 0)),(.v (.int .i64 0)),(a8 0),(bR 0),(.v (.bool false))]):=by repeat' first|kernel_rfl|constructor
@[simp] def U0:aE env.P 57=(some 1):=by kernel_rfl
@[simp] def YA:eK env.P 57=(some false):=by kernel_rfl
@[simp] def U7:ca env.P 57=(some 5):=by kernel_rfl
@[simp] def Yx:ly env.P 57=none:=by kernel_rfl
@[simp] def WM:isStr env.P 57=false:=by kernel_rfl
@[simp] def ad8:I7 env.P 57=true:=by kernel_rfl
@[simp] def aai:oT env.P 57=true:=by kernel_rfl
@[simp] def Qq:jw env.P 57=1:=by kernel_rfl
@[simp] def aak:oe env.P 57=1:=by kernel_rfl
@[simp] def TU:eT env.P 57=(a8 0):=by kernel_rfl
@[simp] def WQ:dD env.P 57=true:=by kernel_rfl
@[simp] def MG:aE env.P 59=(some 2):=by kernel_rfl
@[simp] def Rb:eK env.P 59=(some true):=by kernel_rfl
@[simp] def Yw:ly env.P 59=none:=by kernel_rfl
@[simp] def UW:eu env.P 59=(some (.agg [(.v (.int .i64 0)),(.v (.slice none 0 0))])):=by kernel_rfl
@[simp] def Sq:gP env.P 59=(some 32):=by kernel_rfl
@[simp] def FI:iT env.P 59=(some [3,57]):=by kernel_rfl
@[simp] def To:gZ env.P 59=(some [(0,1),(1,1)]):=by kernel_rfl
@[simp] def NP:aD env.P 59 0=(some (0,1)):=by kernel_rfl
@[simp] def NO:aD env.P 59 1=(some (1,1)):=by kernel_rfl
@[simp] def pY:aE env.P 63=(some 2):=by kernel_rfl
@[simp] def ah9:eK env.P 63=(some true)/\ly env.P 63=none/\eu env.P 63=(some (.agg [(.v (.int .i64 0)),(.v (.int .i64 0))]))/\ox env.P 63=none/\F9 env.P 63=true/\iT env.P 63=(some [3,3])/\gZ env.P 63=(some [(0,1),(1,1)])/\rN env.P 63 0=(some (0,3))/\aD env.P 63 0=(some (0,1))/\aD env.P 63 1=(some (1,1))/\aE env.P 79=(some 1)/\eK env.P 79=(some false)/\ca env.P 79=(some 57)/\ly env.P 79=none/\isStr env.P 79=false/\eu env.P 79=(some (.v (.slice none 0 0)))/\I7 env.P 79=true/\oT env.P 79=true/\jw env.P 79=1/\oe env.P 79=24/\eT env.P 79=(.v (.slice none 0 0))/\aE env.P 92=(some 4)/\ca env.P 92=none/\ly env.P 92=(some (2,63)):=by repeat' first|kernel_rfl|constructor
@[simp] def afH:eu env.P 92=(some (.agg [(.v (.int .i64 0)),(.v (.int .i64 0)),(.v (.int .i64 0)),(.v (.int .i64 0))]))/\aE env.P 102=(some 24)/\ly env.P 102=none/\eu env.P 102=(some (.agg [(a8 0),(.v (.int .i64 0)),(a8 0),(a8 0),(bR 0),(a8 0),(.v (.int .i64 0)),(a8 0),(bR 0),(a8 0),(.v (.int .i64 0)),(.v (.int .i64 0)),(a8 0),(bR 0),(a8 0),(.v (.int .i64 0)),(a8 0),(bR 0),(.v (.slice none 0 0)),(.v (.int .i64 0)),(.v (.int .i64 0)),(a8 0),(bR 0),(.v (.bool false))]))/\gZ env.P 102=(some [(0,24)])/\aD env.P 102 0=(some (0,24))/\aE env.P 108=(some 4)/\eK env.P 108=(some true)/\ly env.P 108=none/\eu env.P 108=(some (.agg [(.v (.int .i64 0)),(.v (.int .i64 0)),(.v (.int .i64 0)),(.v (.int .i64 0))]))/\gZ env.P 108=(some [(0,1),(1,1),(2,1),(3,1)])/\aD env.P 108 0=(some (0,1))/\aD env.P 108 1=(some (1,1))/\aD env.P 108 2=(some (2,1))/\aD env.P 108 3=(some (3,1))/\aE env.P 120=(some 1)/\eK env.P 120=(some false)/\intKind env.P 133=(some .u64)/\(env.P.underlying 133).isNone=false/\aE env.P 189=(some 2)/\eK env.P 189=(some true)/\rN env.P 189 0=(some (0,120))/\ly env.P 190=(some (4,189))/\aE env.P 198=(some 4):=by repeat' first|kernel_rfl|constructor
@[simp] def agd:eK env.P 198=(some true)/\ly env.P 198=none/\eu env.P 198=(some (.agg [(a8 0),(bR 0),(a8 0),(.v (.int .i64 0))]))/\gZ env.P 198=(some [(0,3),(3,1)])/\rN env.P 198 0=(some (0,29))/\aD env.P 198 0=(some (0,3))/\aD env.P 198 1=(some (3,1))/\aE env.P 202=(some 3)/\ly env.P 202=none/\eu env.P 202=(some (.agg [(.v (.slice none 0 0)),(.v (.int .i64 0)),(.v (.bool false))]))/\gZ env.P 202=(some [(0,1),(1,1),(2,1)])/\aD env.P 202 0=(some (0,1))/\aD env.P 202 1=(some (1,1))/\aD env.P 202 2=(some (2,1)):=by repeat' first|kernel_rfl|constructor
end Go.Proofs.YtmjkpdknicjjgaaGreat
namespace Go.Ab
def Je(H H':aa)(refs:List Ref):Prop :=∀q b,H.get q=some b ->∃fz,H'.get q=some { b with gR:=fz}/\(q ∉ refs->fz=b.gR)
def Je.same{H H':aa}{refs:List Ref}(h:Je H H' refs){q:Ref}(a:q ∉ refs){b:bj}(c:H.get q=some b):H'.get q=some b:=by
 obtain⟨fz,d,e⟩:=h q b c;rw[d,e a]
def W6(H:aa)(refs:List Ref):Je H (cg H refs) refs:=by
 intro q b a;rw[aa.dG];unfold uL;by_cases h:q∈refs;·exact⟨true,by simp[h,a],λc=>absurd h c⟩
 exact⟨b.gR,by simp[h,a],λ_=>rfl⟩
def Un{H:aa}(b:Fr H)(refs:List Ref):Fr (cg H refs):=by
 intro d t g k a;rw[aa.iI]at a;rw[aa.dG];have:=b d t g k a;unfold uL;split<;>simp[this]
def E6{o:Option AV}{H:aa}{r:Ref}(N : ∃d t,r=⟨d,t,H.gen d t,0⟩){z:Nat}(I:z≠0){y:AV}{es':List AV}{mk:AV->AV}{n:Nat}{K:AV->aa->Prop}{refs:List Ref}
 (R:o=some (mk y)) (m : ∀r s bs,ao r (n+3) y []=(s,bs)->ao r depth (mk y) []=(mk s,bs)) (G:JQ z es' y) (hi : ∀e∈es',WU e=true) (j:Fr H)
 (M : ∀H' s rs,Fr H'->wC z H' s es' rs->Je H H' refs->(∀q∈rs,H.get q=none)->Dx z s es'=y->K (mk s) H') :
 iE (qu true H r refs o) K:=by
 obtain⟨d,t,rfl⟩:=N;obtain⟨s,add,w,A⟩:=G.imp I hi ⟨d,t,H.gen d t,0⟩ n [];have x:=m _ _ _ w;simp only[sO,kS]at w A x;have c : ∀a:aa,Fr a->Je H a refs->(∀q,H.get q=none->a.get q=none)->(∀d t,a.gen d t=H.gen d t)->K (mk s) (keyed ⟨d,t,H.gen d t,0⟩ 0 add a):=by
  intro a u C S J;have p:At (keyed ⟨d,t,H.gen d t,0⟩ 0 add a).get ⟨d,t,H.gen d t,0⟩ 0 add:=by
   intro i b hi;have v:=(ee.1 hi).1;rw[aa.BH,if_pos ⟨rfl,rfl,rfl,by simp,by simpa using v⟩];simpa using hi
  obtain⟨rs,P,L,O⟩:=A _ p;refine M _ s rs ?_ P (λq b l=>?_) (λq f=>?_) O;·have:=Fr.keyed u add d t;rw[J]at this;exact this
  ·obtain⟨fz,B,Q⟩:=C q b l;refine⟨fz,?_,Q⟩;rw[aa.BH,if_neg (λh=>?_)];·exact B
   have:=j q.d q.t q.g q.k (by rw[h.1,h.2.1,h.2.2.1];exact cG _);rw[show(⟨q.d,q.t,q.g,q.k⟩:Ref)=q from rfl,l]at this;cases this
  obtain⟨E,F,D,_⟩:=Kh (L q f);exact j q.d q.t q.g q.k (by rw[E,F,D];exact cG _)
 subst R;simp only[qu,x];split;·exact wq rfl (c H j (λq b l=>⟨b.gR,l,λ_=>rfl⟩) (λq f=>f) λ_ _=>rfl)
 refine wq rfl (c (cg H refs) (Un j refs) (W6 H refs) (λq f=>?_) λd t=>aa.iI _ _ _ _);rw[aa.dG];unfold uL;split<;>simp[f]
structure Fe where
 z:Nat
 s:AV
 es:List AV
 rs:List Ref
structure C7 (H:aa) (fs:List (Ref × bj)) (rows:List Fe):Prop where
 fr:Fr H
 has : ∀p∈fs,H.get p.1=some p.2
 nd:(fs.map (·.1)).Nodup
 row : ∀t∈rows,wC t.z H t.s t.es t.rs
 sep : ∀t∈rows,∀p∈fs,p.1 ∉ t.rs
 dis:rows.Pairwise λt u =>∀q∈t.rs,q ∉ u.rs
def C7.nil:C7 [] [] []:=⟨Fr.nil,by simp,by simp,by simp,by simp,List.Pairwise.nil⟩
def C7.grow{H H':aa}{a:List (Ref × bj)}{rows:List Fe}(h:C7 H a rows)(e:Fr H')(c : ∀q b,H.get q=some b->H'.get q=some b):C7 H' a rows:=
 ⟨e,λp hp=>c _ _ (h.has p hp),h.nd,λt f=>(h.row t f).bD λq _ b d=>c q b d,h.sep,h.dis⟩
def C7.add{H:aa}{a:List (Ref × bj)}{rows:List Fe}(h:C7 H a rows){r:Ref}{b:bj}(d:H.get r=some b)(hd : ∀p∈a,p.1≠r)(f : ∀t∈rows,r ∉ t.rs):C7 H ((r,b) :: a) rows:=
 ⟨h.fr,λp hp=>(fh.1 hp).elim (λe=>by rw[e];exact d) (h.has p),Ax.2 ⟨λg=>by obtain⟨p,hp,e⟩:=nO.1 g;exact hd p hp e,h.nd⟩,h.row,λt c p hp=>(fh.1 hp).elim (λe=>by rw[e];exact f t c) (h.sep t c p),h.dis⟩
def C7.sub{H:aa}{c a:List (Ref × bj)}{rows:List Fe}(h:C7 H c rows)(b:a.Sublist c):C7 H a rows:=
 ⟨h.fr,λp hp=>h.has p (b.mem hp),(b.map _).nodup h.nd,h.row,λt d p hp=>h.sep t d p (b.mem hp),h.dis⟩
def C7.live{H:aa}{c:List (Ref × bj)}{rows:List Fe}(h:C7 H c rows){r:Ref}(d:H.get r=none) : ∀t∈rows,r ∉ t.rs:=λt e f=>by
 obtain⟨b,a⟩:=(h.row t e).live r f;rw[d]at a;cases a
def C7.new{H:aa}{f:List (Ref × bj)}{rows:List Fe}(h:C7 H f rows)(d t:Nat)(b:bj):C7 ((⟨d,t,H.gen d t,0⟩,some b) :: H) ((⟨d,t,H.gen d t,0⟩,b) :: f) rows:=by
 have c:H.get ⟨d,t,H.gen d t,0⟩=none:=h.fr d t _ 0 (cG _);refine(h.grow (pk h.fr rfl _) λq g a=>?_).add (by rw[aa.cL,if_pos rfl]) (λp hp e=>?_) (h.live c);·rw[aa.cL,if_neg (λe=>by rw[<-e,c]at a;cases a)];exact a
 have:=h.has p hp;rw[e,c]at this;cases this
def C7.call{o:Option AV}{H:aa}{l:List (Ref × bj)}{rows:List Fe}(h:C7 H l rows){r:Ref}(F : ∃d t,r=⟨d,t,H.gen d t,0⟩){z:Nat}(B:z≠0){y:AV}{es':List AV}{mk:AV->AV}{n:Nat}{K:AV->aa->Prop}{refs:List Ref}
 (v : ∀p∈l,p.1 ∉ refs) (m : ∀t∈rows,∀q∈t.rs,q ∉ refs)
 (G:o=some (mk y)) (g : ∀r s bs,ao r (n+3) y []=(s,bs)->ao r depth (mk y) []=(mk s,bs)) (x:JQ z es' y) (hi : ∀e∈es',WU e=true)
 (D : ∀H' s rs,C7 H' l (⟨z,s,es',rs⟩ :: rows)->Je H H' refs->(∀q∈rs,H.get q=none)->Dx z s es'=y->K (mk s) H') :
 iE (qu true H r refs o) K:=by
 refine E6 F B G g x hi h.fr λH' s rs C c i j A=>?_;refine D H' s rs ⟨C,λp hp=>i.same (v p hp) (h.has p hp),h.nd,λt a=>?_,λt a p hp=>?_,?_⟩ i j A
 ·rcases fh.1 a with rfl | a
  ·exact c
  exact(h.row t a).bD λq k b f=>i.same (m t a q k) f
 ·rcases fh.1 a with rfl | a
  ·intro w;have:=j _ w;rw[h.has p hp]at this;cases this
  exact h.sep t a p hp
 refine List.pairwise_cons.2 ⟨λu E q k w=>?_,h.dis⟩;obtain⟨b,f⟩:=(h.row u E).live q w;rw[j q k]at f;cases f
def aay(fz:Bool)(z:Nat)(es:List AV)(x:AV)(a:List (Ref × bj)):Prop:=(x = .v (.slice none 0 0)/\es=[]/\a=[]) \/∃r,x = .bk r 0 es.length none/\a=[(r,⟨z,es,true,fz⟩)]
def acQ(z:Nat)(es:List AV):AV->AV
 | .bk _ _ _ _ => .bg z es none
 | x=>x
def aay.sl{fz:Bool}{z:Nat}{es:List AV}{x:AV}{a:List (Ref × bj)}(h:aay fz z es x a):Sl z es (acQ z es x):=by
 rcases h with ⟨rfl,rfl,rfl⟩ | ⟨r,rfl,rfl⟩
 ·exact .inl ⟨rfl,rfl⟩
 exact Sl.mk z es
def aay.seen{fz:Bool}{z:Nat}{es:List AV}{x:AV}{a b:List (Ref × bj)}{H:aa}{rows:List Fe}(h:aay fz z es x a)(c:C7 H b rows)(d : ∀p∈a,p∈b):(∀n,view H.get (n+1) x=some (acQ z es x))/\(∀n,ah H.get (n+1) x=a.map (·.1))/\x.cells=[x]/\x.one=true:=by
 rcases h with ⟨rfl,rfl,rfl⟩ | ⟨r,rfl,rfl⟩
 ·exact⟨λn=>rfl,λn=>rfl,rfl,rfl⟩
 have:=c.has (r,⟨z,es,true,fz⟩) (d _ (by simp));simp only at this;exact⟨λn=>by simp[view,this,acQ],λn=>by simp[ah,this],rfl,rfl⟩
def C7.ne{H:aa}{a:List (Ref × bj)}{rows:List Fe}(h:C7 H a rows){r q:Ref}{b c:bj}(j:(r,b)∈a)(i:(q,c)∈a)(d:b≠c):r≠q:=λe=>by
 have g:=h.has _ j;have f:=h.has _ i;simp only[e]at g f;rw[g]at f;exact d (GM f)
end Go.Ab
namespace Go.Proofs.YtmjkpdknicjjgaaGreat
open Go.Ab
section
variable(dep:Nat)(g:Nat->AV)(x0 a b:AV)(H:aa)(Q:AV->aa->Prop)
def jr:=sL Tryz.f83 4
def rn:Nat->Option (List Nat):=λi=>cond (Nat.beq i 4) (some [5,1,0]) (none)
def nh:Prop:=
 de H 7 34 x0 λd=>
 de H 9 34 a λe=>
 Av 3 7 9 d e λc=>
 br (some c) (
 Q (.v (.bool false)) H) (
  bS env Tryz.f83 0 jr [(5,(.v (.int .i64 0))),(1,a),(0,x0)] H Q)
theorem yx(h : ∀g:fZ,nh x0 a H Q):fL Tryz.f83 0 [(0,x0),(1,a)] H Q:=uC rn (by kernel_rfl) h
def ju(g:Nat->AV)(c a x0:AV)(H:aa)(Q:AV->aa->Prop):Prop:=
 de H 13 34 x0 λh=>
 eU 3 11 13 c h λj=>
 br (some j) (
 cH H 34 x0 c λf=>
 ad H 21 f λe=>
 cH H 34 a c λi=>
 ad H 21 i λl=>
 Av 21 20 24 e l λk=>
 br (some k) (
 Q (.v (.bool false)) H) (
 fY 3 15 1 c λd=>
  bS env Tryz.f83 0 jr [(5,d),(1,a),(0,x0)] H Q)) (
 Q (.v (.bool true)) H)
theorem px(c a x0:AV)(H:aa)(Q:AV->aa->Prop)(h : ∀g,ju g c a x0 H Q):bS env Tryz.f83 0 jr [(5,c),(1,a),(0,x0)] H Q:=tG rn (by kernel_rfl) h
def wA:Prop:=
 dH H 1 29 x0 λf e=>
 ae 29 f 0 λm=>
 ad e 27 m λi=>
 aV true e 5 119 [i] λl h=>
 vF 37 5 0 l λc=>
 gQ c true (aw 29 f 1) λp=>
 gQ c true (an h 5 p) λo=>
 gQ c true (bC env.P .lss 5 (Operand.tmp 9) (.const (.int .u8 8)) (some o) (some (a8 8))) λk=>
 cu c k λn=>
 aV true h 12 118 [n] λd j=>
 Q d j
theorem CJ(h : ∀g:fZ,wA x0 H Q):fL Tryz.f97 0 [(0,x0)] H Q:=md (by kernel_rfl) h
def m9:Prop:=
 dH H 1 33 x0 λe w=>
 ae 33 e 0 λB=>
 ad w 31 B λA=>
 aV true w 5 122 [A] λz d=>
 vF 37 5 0 z λh=>
 gQ h true (aw 33 e 1) λD=>
 gQ h true (an d 3 D) λC=>
 gQ h true (og 3 9 1 C) λy=>
 cu h y λf=>
 gQ f true (aw 33 e 1) λo=>
 gQ f true (an d 3 o) λi=>
 gQ f true (z8 3 14 64 i) λn=>
 cu f n λc=>
 gQ c true (aw 33 e 0) λu=>
 gQ c true (aw 31 u 1) λs=>
 gQ c true (an d 3 s) λt=>
 gQ c true (aw 33 e 1) λj=>
 gQ c true (an d 3 j) λv=>
 gQ c true (OG 3 20 22 t v) λk=>
 gQ c true (aaM 3 23 1 k) λp=>
 gQ c true (z8 3 24 1099511627776 p) λm=>
 cu c m λl=>
 aV true d 27 118 [l] λq x=>
 Q q x
theorem ED(h : ∀g:fZ,m9 x0 H Q):fL Tryz.f120 0 [(0,x0)] H Q:=md (by kernel_rfl) h
def fy:=sL Tryz.f126 4
def mM:Nat->Option (List Nat):=λi=>cond (Nat.beq i 4) (some [13,1,0,12]) (none)
def jE:Prop:=
 de H 7 34 x0 λe=>
 de H 9 34 a λf=>
 Av 3 7 9 e f λc=>
 br (some c) (
 Q (.v (.bool false)) H) (
 de H 12 34 x0 λd=>
  bS env Tryz.f126 0 fy [(13,(.v (.int .i64 0))),(1,a),(0,x0),(12,d)] H Q)
theorem tf(h : ∀g:fZ,jE x0 a H Q):fL Tryz.f126 0 [(0,x0),(1,a)] H Q:=uC mM (by kernel_rfl) h
def fC(g:Nat->AV)(c a x0 d:AV)(H:aa)(Q:AV->aa->Prop):Prop:=
 eU 3 13 12 c d λh=>
 br (some h) (
 cH H 34 x0 c λj=>
 ad H 21 j λf=>
 cH H 34 a c λe=>
 ad H 21 e λi=>
 Av 21 19 23 f i λl=>
 br (some l) (
 Q (.v (.bool false)) H) (
 fY 3 13 1 c λk=>
  bS env Tryz.f126 0 fy [(13,k),(1,a),(0,x0),(12,d)] H Q)) (
 Q (.v (.bool true)) H)
theorem lT(c a x0 d:AV)(H:aa)(Q:AV->aa->Prop)(h : ∀g,fC g c a x0 d H Q):bS env Tryz.f126 0 fy [(13,c),(1,a),(0,x0),(12,d)] H Q:=tG mM (by kernel_rfl) h
def Ec:Prop:=
 dH H 1 31 x0 λk m=>
 ae 31 k 0 λs=>
 ad m 29 s λq=>
 aV true m 5 97 [q] λp j=>
 vF 37 5 0 p λd=>
 gQ d true (aw 31 k 1) λu=>
 gQ d true (an j 3 u) λt=>
 gQ d true (og 3 9 1 t) λo=>
 cu d o λc=>
 gQ c true (aw 31 k 1) λh=>
 gQ c true (an j 3 h) λe=>
 gQ c true (z8 3 14 1099511627776 e) λf=>
 cu c f λi=>
 aV true j 17 118 [i] λl n=>
 Q l n
theorem Lc(h : ∀g:fZ,Ec x0 H Q):fL Tryz.f122 0 [(0,x0)] H Q:=md (by kernel_rfl) h
def wz:Prop:=
 de H 6 34 x0 λf=>
 sN 3 6 64 f λe=>
 br (some e) (
 Q (.v (.int .i64 4)) H) (
 aV true H 11 147 [x0,(.fn (.func 145) [] [])] λd c=>
 br (some d) (
 Q (.v (.int .i64 8)) c) (
 Q (.v (.int .i64 0)) c))
theorem Hi(h : ∀g:fZ,wz x0 H Q):fL Tryz.f123 0 [(0,x0)] H Q:=md (by kernel_rfl) h
def Bm:Prop:=
 dH H 1 27 x0 λh c=>
 ae 27 h 0 λf=>
 ad c 5 f λd=>
 dL (bC env.P .gtr 5 (Operand.tmp 4) (.const (.int .u8 15)) (some d) (some (a8 15))) λe=>
 br (some e) (
 Q (.v (.int .i64 8)) c) (
 Q (.v (.int .i64 0)) c)
theorem Hn(h : ∀g:fZ,Bm x0 H Q):fL Tryz.f119 0 [(0,x0)] H Q:=md (by kernel_rfl) h
def Eb:Prop:=
 br (some x0) (
 Q (.v (.int .i64 0)) H) (
 Q (.v (.int .i64 8)) H)
theorem Lb(h : ∀g:fZ,Eb x0 H Q):fL Tryz.f118 0 [(0,x0)] H Q:=md (by kernel_rfl) h
def tC:Prop:=
 aaD 21 3 x0 λc=>
 gQ c true (bL x0) λi=>
 gW c true H (fg true H 7 146 [i]) λd e=>
 gQ c true (vD d) λh=>
 cu c h λf=>
 Q f e
theorem EA(h : ∀g:fZ,tC x0 H Q):fL Tryz.f145 0 [(0,x0)] H Q:=md (by kernel_rfl) h
def pF:Prop:=
 dL (bC env.P .leq 21 (.const (.int .i32 0)) (Operand.tmp 4) (some (.v (.int .i32 0))) (some x0)) λc=>
 gQ c true (bL x0) λi=>
 gQ c true (bC env.P .lss 21 (Operand.tmp 7) (.const (.int .i32 55296)) (some i) (some (.v (.int .i32 55296)))) λe=>
 cu c e λh=>
 br (some h) (
 Q (.v (.bool true)) H) (
 dL (bC env.P .lss 21 (.const (.int .i32 57343)) (Operand.tmp 11) (some (.v (.int .i32 57343))) (some x0)) λd=>
 gQ d true (bL x0) λk=>
 gQ d true (bC env.P .leq 21 (Operand.tmp 14) (.const (.int .i32 1114111)) (some k) (some (.v (.int .i32 1114111)))) λj=>
 cu d j λf=>
 br (some f) (
 Q (.v (.bool true)) H) (
 Q (.v (.bool false)) H))
theorem wD(h : ∀g:fZ,pF x0 H Q):fL Tryz.f146 0 [(0,x0)] H Q:=md (by kernel_rfl) h
def kB:Prop:=
 aV true H 7 155 [x0,a] λd c=>
 wO 3 7 0 d λe=>
 Q e c
theorem pN(h : ∀g:fZ,kB x0 a H Q):fL Tryz.f147 0 [(0,x0),(1,a)] H Q:=md (by kernel_rfl) h
def eI:=sL Tryz.f155 2
def lD:Nat->Option (List Nat):=λi=>cond (Nat.beq i 2) (some [8,0,1,7]) (none)
def lE:Prop:=
 de H 7 34 x0 λc=>
  bS env Tryz.f155 0 eI [(8,(.v (.int .i64 0))),(0,x0),(1,a),(7,c)] H Q
theorem rD(h : ∀g:fZ,lE x0 a H Q):fL Tryz.f155 0 [(0,x0),(1,a)] H Q:=uC lD (by kernel_rfl) h
def eJ(g:Nat->AV)(c x0 a d:AV)(H:aa)(Q:AV->aa->Prop):Prop:=
 eU 3 8 7 c d λi=>
 br (some i) (
 cH H 34 x0 c λk=>
 ad H 21 k λh=>
 Mj H 16 a h λf e=>
 br (some f) (
 Q c e) (
 fY 3 8 1 c λj=>
  bS env Tryz.f155 0 eI [(8,j),(0,x0),(1,a),(7,d)] e Q)) (
 Q (.v (.int .i64 (-1))) H)
theorem kU(c x0 a d:AV)(H:aa)(Q:AV->aa->Prop)(h : ∀g,eJ g c x0 a d H Q):bS env Tryz.f155 0 eI [(8,c),(0,x0),(1,a),(7,d)] H Q:=tG lD (by kernel_rfl) h
def uK:=sL Tryz.f98 2
def Cl:Nat->Option (List Nat):=λi=>cond (Nat.beq i 2) (some [5,0,4]) (none)
def xN:Prop:=
 BT 3 6 1 a λc=>
  bS env Tryz.f98 0 uK [(5,c),(0,x0),(4,(.v (.slice none 0 0)))] H Q
theorem Ca(h : ∀g:fZ,xN x0 a H Q):fL Tryz.f98 0 [(0,x0),(1,a)] H Q:=uC Cl (by kernel_rfl) h
def dA(g:Nat->AV)(c x0 d:AV)(H:aa)(Q:AV->aa->Prop):Prop:=
 wO 3 8 0 c λj=>
 br (some j) (
 pn 3 8 14 c λl=>
 QQ 3 13 15 x0 l λh=>
 cY H 17 3 5 h λe=>
 mw H 18 57 1 0 e λk i=>
 dC i 19 57 57 d k λn f=>
 BT 3 10 1 c λm=>
  bS env Tryz.f98 0 uK [(5,m),(0,x0),(4,n)] f Q) (
 Q d H)
theorem dQ(d x0 c:AV)(H:aa)(Q:AV->aa->Prop)(h : ∀g,dA g d x0 c H Q):bS env Tryz.f98 0 uK [(5,d),(0,x0),(4,c)] H Q:=tG Cl (by kernel_rfl) h
def tJ:=sL Tryz.f148 2
def FD:Nat->Option (List Nat):=λi=>cond (Nat.beq i 2) (some [7,2,5,6]) (none)
def FU:Prop:=
 de H 6 57 x0 λc=>
  bS env Tryz.f148 0 tJ [(7,(.v (.int .i64 0))),(2,(.v (.int .i64 0))),(5,x0),(6,c)] H Q
theorem MD(h : ∀g:fZ,FU x0 H Q):fL Tryz.f148 0 [(0,x0)] H Q:=uC FD (by kernel_rfl) h
def xM(g:Nat->AV)(c b d e:AV)(H:aa)(Q:AV->aa->Prop):Prop:=
 eU 3 7 6 c e λi=>
 br (some i) (
 cH H 57 d c λk=>
 ad H 5 k λh=>
 JU 3 11 b λf=>
 cY H 14 5 3 h λj=>
 C8 3 12 14 f j λm=>
 fY 3 7 1 c λl=>
  bS env Tryz.f148 0 tJ [(7,l),(2,m),(5,d),(6,e)] H Q) (
 Q b H)
theorem B9(e b d c:AV)(H:aa)(Q:AV->aa->Prop)(h : ∀g,xM g e b d c H Q):bS env Tryz.f148 0 tJ [(7,e),(2,b),(5,d),(6,c)] H Q:=tG FD (by kernel_rfl) h
def zY:Prop:=
 dV H 2 198 λp e=>
 eX e 57 x0 0 λD=>
 ad e 5 D λz=>
 QY e 57 x0 λv=>
 aV false e 9 148 [v] λB d=>
 cY d 10 3 25 B λF=>
 qN 27 0 z 1 F λE=>
 eX d 57 x0 5 λu=>
 ad d 5 u λy=>
 qN 29 0 E 1 y λk=>
 tQ 198 0 k λf=>
 dV d 3 198 λc t=>
 aC t 198 c f λw q=>
 ae 198 c 0 λn=>
 ad q 29 n λl=>
 aV true q 19 97 [l] λm A=>
 ae 198 c 1 λh=>
 aC A 37 h m λC o=>
 ad o 198 c λi=>
 aC o 198 p i λx s=>
 aN s p 198 λj=>
 Q j s
theorem Dg(h : ∀g:fZ,zY x0 H Q):fL Tryz.f128 0 [(0,x0)] H Q:=md (by kernel_rfl) h
def za:Prop:=
 dV H 2 29 λd n=>
 de n 6 57 x0 λw=>
 gC 3 6 6 w λu=>
 br (some u) (
 cS 29 λm=>
 aC n 29 d m λj l=>
 aN l d 29 λp=>
 Q (.tup [p,(.v (.int .i64 8))]) l) (
 aV true n 10 128 [x0] λm l=>
 dV l 4 198 λj q=>
 aC q 198 j m λp k=>
 ae 198 j 1 λx=>
 ad k 37 x λs=>
 gC 37 12 0 s λt=>
 br (some t) (
 cS 29 λe=>
 ae 198 j 1 λc=>
 ad k 37 c λh=>
 aC k 29 d e λi f=>
  qJ [(c,d)] [d] [] f /\
 (aN f d 29 λo=>
 Q (.tup [o,h]) f)) (
 ae 198 j 0 λe=>
 ad k 29 e λc=>
 aC k 29 d c λh f=>
 aN f d 29 λi=>
 Q (.tup [i,(.v (.int .i64 0))]) f))
theorem EC(h : ∀g:fZ,za x0 H Q):fL Tryz.f111 0 [(0,x0)] H Q:=md (by kernel_rfl) h
def Jb:Prop:=
 dV H 2 31 λe o=>
 de o 7 57 x0 λA=>
 gC 3 7 13 A λy=>
 br (some y) (
 cS 31 λk=>
 aC o 31 e k λt h=>
 aN h e 31 λq=>
 Q (.tup [q,(.v (.int .i64 8))]) h) (
 aV false o 11 128 [x0] λk h=>
 dL (tn env.P 198 (some k) 0) λt=>
 dL (cr env.P (aa.get h) 57 (some x0) (oi (.v (.int .i64 6))) (some none) (some none)) λq=>
 aV false h 15 148 [q] λB u=>
 qN 31 0 t 1 B λw=>
 dV u 4 31 λn z=>
 aC z 31 n w λx s=>
 ad s 31 n λj=>
 aV true s 18 122 [j] λf m=>
 gC 37 19 0 f λl=>
 br (some l) (
 cS 31 λd=>
 aC m 31 e d λp i=>
 aN i e 31 λc=>
 Q (.tup [c,f]) i) (
 ad m 31 n λd=>
 aC m 31 e d λp i=>
 aN i e 31 λc=>
 Q (.tup [c,(.v (.int .i64 0))]) i))
theorem O9(h : ∀g:fZ,Jb x0 H Q):fL Tryz.f149 0 [(0,x0)] H Q:=md (by kernel_rfl) h
def tF:Prop:=
 dH H 1 29 x0 λc p=>
 ad p 29 c λB=>
 aV true p 6 97 [B] λq k=>
 gC 37 7 0 q λw=>
 br (some w) (
 Q (.tup [(.v (.slice none 0 0)),q]) k) (
 ae 29 c 0 λz=>
 ae 27 z 0 λD=>
 ad k 5 D λC=>
 QR k 13 57 1 0 C λu e=>
 ae 29 c 0 λy=>
 ae 27 y 1 λi=>
 ad e 25 i λd=>
 cY e 17 25 3 d λh=>
 aV false e 18 98 [h,(.v (.int .i64 4))] λj t=>
 iE (dm env.P false t (Ref.mk 0 19 (aa.gen t 0 19) 0) (some 57) (some 57) u j) λn s=>
 ae 29 c 1 λl=>
 ad s 5 l λm=>
 QR s 22 57 1 0 m λf x=>
 dC x 23 57 57 n f λo A=>
 Q (.tup [o,(.v (.int .i64 0))]) A)
theorem EB(h : ∀g:fZ,tF x0 H Q):fL Tryz.f66 0 [(0,x0)] H Q:=md (by kernel_rfl) h
def C5:Prop:=
 dH H 1 31 x0 λi k=>
 ad k 31 i λu=>
 aV true k 8 122 [u] λl h=>
 gC 37 9 0 l λo=>
 br (some o) (
 Q (.tup [(.v (.slice none 0 0)),l]) h) (
 ae 31 i 0 λs=>
 ad h 29 s λw=>
 aV true h 15 66 [w] λm j=>
 aQ m 0 λn=>
 aQ m 1 λp=>
 ae 31 i 1 λe=>
 ad j 3 e λc=>
 aV true j 21 98 [c,(.v (.int .i64 7))] λd t=>
 dC t 22 57 57 n d λf q=>
 Q (.tup [f,p]) q)
theorem O8(h : ∀g:fZ,C5 x0 H Q):fL Tryz.f100 0 [(0,x0)] H Q:=md (by kernel_rfl) h
def gK:Prop:=
 dH H 3 24 x0 λc H1=>
 dV H1 6 24 λh H2=>
 ad H2 24 c λv3=>
 aV true H2 13 47 [v3,a] λv4 M=>
 gC 37 14 0 v4 λv5=>
 br (some v5) (
 cS 24 λW=>
 aC M 24 h W λv7 L=>
 aN L h 24 λN=>
 Q (.tup [N,v4]) L) (
 de M 19 57 b λW=>
 gC 3 19 128 W λv7=>
 br (some v7) (
 cS 24 λN=>
 aC M 24 h N λv9 L=>
 aN L h 24 λS=>
 Q (.tup [S,(.v (.int .i64 2))]) L) (
 ad M 24 c λN=>
 aV true M 23 23 [N] λv9 L=>
 aC L 24 c v9 λS E=>
 ae 24 c 3 λY=>
 ad E 4 Y λz=>
 gQ z false (aw 24 c 2) λU=>
 gQ z false (an E 3 U) λv14=>
 gQ z false (tS 3 29 0 v14) λV=>
 dh z V λv16=>
 br (some v16) (
 ae 24 c 3 λG=>
 OH E 4 G λR y=>
 ad y 24 c λI=>
 aC y 24 h I λA n=>
 aN n h 24 λk=>
 Q (.tup [k,(.v (.int .i64 0))]) n) (
 ae 24 c 2 λG=>
 ad E 3 G λR=>
 sN 3 36 0 R λI=>
 br (some I) (
 ae 24 c 2 λA=>
 ad E 3 A λk=>
 BT 3 39 1 k λs=>
 ae 24 c 2 λJ=>
 aC E 3 J s λO y=>
 ad y 24 c λp=>
 aV true y 45 48 [p,a] λj n=>
 aQ j 0 λe=>
 aQ j 1 λw=>
 lA w λo=>
 br (some o) (
 ae 24 c 0 λl=>
 ad n 22 l λm=>
 tQ 59 0 a λi=>
 mw n 55 22 1 0 i λf B=>
 aV true B 56 49 [m,e,f] λu H9=>
 ae 24 c 0 λD=>
 aC H9 22 D u λC d=>
 ae 24 c 0 λK=>
 ad d 22 K λx=>
 aV false d 62 46 [b] λP q=>
 cH q 22 x e λF=>
 ae 59 F 1 λX=>
 aC q 57 X P λv42 t=>
 ad t 24 c λv43=>
 aC t 24 h v43 λv44 T=>
 aN T h 24 λZ=>
 Q (.tup [Z,(.v (.int .i64 0))]) T) (
 ae 24 c 0 λl=>
 ad n 22 l λm=>
 aV false n 62 46 [b] λi B=>
 cH B 22 m e λf=>
 ae 59 f 1 λu=>
 aC B 57 u i λD H9=>
 ad H9 24 c λC=>
 aC H9 24 h C λK d=>
 aN d h 24 λx=>
 Q (.tup [x,(.v (.int .i64 0))]) d)) (
 ad E 24 c λA=>
 aV true E 45 48 [A,a] λk y=>
 aQ k 0 λs=>
 aQ k 1 λJ=>
 lA J λO=>
 br (some O) (
 ae 24 c 0 λp=>
 ad y 22 p λj=>
 tQ 59 0 a λe=>
 mw y 55 22 1 0 e λw n=>
 aV true n 56 49 [j,s,w] λo B=>
 ae 24 c 0 λl=>
 aC B 22 l o λm H9=>
 ae 24 c 0 λi=>
 ad H9 22 i λf=>
 aV false H9 62 46 [b] λu d=>
 cH d 22 f s λD=>
 ae 59 D 1 λC=>
 aC d 57 C u λK q=>
 ad q 24 c λx=>
 aC q 24 h x λP t=>
 aN t h 24 λF=>
 Q (.tup [F,(.v (.int .i64 0))]) t) (
 ae 24 c 0 λp=>
 ad y 22 p λj=>
 aV false y 62 46 [b] λe n=>
 cH n 22 j s λw=>
 ae 59 w 1 λo=>
 aC n 57 o e λl B=>
 ad B 24 c λm=>
 aC B 24 h m λi H9=>
 aN H9 h 24 λf=>
 Q (.tup [f,(.v (.int .i64 0))]) H9)))))
theorem Cb(h : ∀g:fZ,gK x0 a b H Q):fL Tryz.f24 0 [(0,x0),(1,a),(2,b)] H Q:=md (by kernel_rfl) h
def qD:=sL Tryz.f20 3
def Cm:Nat->Option (List Nat):=λi=>cond (Nat.beq i 3) (some [9,3,7,1,8]) (none)
def Cz:Prop:=
 dH H 1 24 x0 λe c=>
 ae 24 e 0 λh=>
 ad c 22 h λd=>
 de c 8 22 d λf=>
  bS env Tryz.f20 0 qD [(9,(.v (.int .i64 0))),(3,(.v (.int .i64 (-1)))),(7,d),(1,e),(8,f)] c Q
theorem Jy(h : ∀g:fZ,Cz x0 H Q):fL Tryz.f20 0 [(0,x0)] H Q:=uC Cm (by kernel_rfl) h
def uQ(g:Nat->AV)(B G E a D:AV)(H:aa)(Q:AV->aa->Prop):Prop:=
 eU 3 9 8 B D λJ=>
 br (some J) (
 cH H 22 E B λw=>
 ad H 59 w λA=>
 dV H 5 59 λf I=>
 aC I 59 f A λF p=>
 ae 59 f 0 λx=>
 ad p 3 x λC=>
 dL (bC env.P .leq 3 (Operand.tmp 14) (Operand.tmp 15) (some C) (some G)) λh=>
 gQ h false (aw 59 f 0) λt=>
 gQ h false (an p 3 t) λo=>
 gQ h false (og 3 19 6146 o) λn=>
 dh h n λc=>
 gQ c false (aw 59 f 1) λj=>
 gQ c false (an p 57 j) λq=>
 gQ c false (BS p 25 57 q) λl=>
 gQ c false (wN 3 25 128 l) λd=>
 dh c d λi=>
 br (some i) (
 Q (.v (.int .i64 8)) p) (
 ae 59 f 0 λm=>
 ad p 3 m λe=>
 fY 3 9 1 B λk=>
  bS env Tryz.f20 0 qD [(9,k),(3,e),(7,E),(1,a),(8,D)] p Q)) (
 ae 24 a 1 λw=>
 ad H 3 w λA=>
 pU 3 32 0 A λf=>
 gQ f false (aw 24 a 1) λF=>
 gQ f false (an H 3 F) λx=>
 gQ f false (og 3 36 2147483648 x) λC=>
 dh f C λh=>
 gQ h false (aw 24 a 2) λt=>
 gQ h false (an H 3 t) λo=>
 gQ h false (bC env.P .lss 3 (Operand.tmp 41) (.const (.int .i64 (-1))) (some o) (some (.v (.int .i64 (-1))))) λn=>
 dh h n λc=>
 gQ c false (aw 24 a 2) λj=>
 gQ c false (an H 3 j) λq=>
 gQ c false (og 3 46 2147483648 q) λl=>
 dh c l λd=>
 gQ d false (aw 24 a 3) λi=>
 gQ d false (an H 4 i) λm=>
 gQ d false (bL m) λe=>
 gQ e true (aw 24 a 2) λk=>
 gQ e true (an H 3 k) λz=>
 gQ e true (wN 3 54 0 z) λy=>
 gQ d false (Mg e y) λu=>
 dh d u λs=>
 br (some s) (
 Q (.v (.int .i64 8)) H) (
 Q (.v (.int .i64 0)) H))
theorem Af(d c f a e:AV)(H:aa)(Q:AV->aa->Prop)(h : ∀g,uQ g d c f a e H Q):bS env Tryz.f20 0 qD [(9,d),(3,c),(7,f),(1,a),(8,e)] H Q:=tG Cm (by kernel_rfl) h
def sf:=sL Tryz.f23 3
def DM:Nat->Option (List Nat):=λi=>cond (Nat.beq i 3) (some [10,3,2,1,9]) (none)
def vn:Prop:=
 dH H 1 24 x0 λd h=>
 dV h 2 24 λk f=>
 ae 24 d 0 λi=>
 ad f 22 i λj=>
 aV true f 7 45 [j] λe c=>
 de c 9 22 e λl=>
  bS env Tryz.f23 0 sf [(10,(.v (.int .i64 0))),(3,e),(2,k),(1,d),(9,l)] c Q
theorem Lf(h : ∀g:fZ,vn x0 H Q):fL Tryz.f23 0 [(0,x0)] H Q:=uC DM (by kernel_rfl) h
def oW(g:Nat->AV)(c e b a l:AV)(H:aa)(Q:AV->aa->Prop):Prop:=
 eU 3 10 9 c l λo=>
 br (some o) (
 cH H 22 e c λj=>
 ae 59 j 1 λk=>
 ad H 57 k λh=>
 aV true H 20 46 [h] λm d=>
 cH d 22 e c λi=>
 ae 59 i 1 λp=>
 aC d 57 p m λq f=>
 fY 3 10 1 c λn=>
  bS env Tryz.f23 0 sf [(10,n),(3,e),(2,b),(1,a),(9,l)] f Q) (
 ae 24 a 0 λj=>
 aC H 22 j e λk d=>
 ad d 24 a λh=>
 aC d 24 b h λm f=>
 aN f b 24 λi=>
 Q i f)
theorem rM(c d b a e:AV)(H:aa)(Q:AV->aa->Prop)(h : ∀g,oW g c d b a e H Q):bS env Tryz.f23 0 sf [(10,c),(3,d),(2,b),(1,a),(9,e)] H Q:=tG DM (by kernel_rfl) h
def xO:Prop:=
 dH H 2 24 x0 λh e=>
 ad e 24 h λk=>
 aV true e 7 20 [k] λf d=>
 gC 37 8 0 f λj=>
 br (some j) (
 Q f d) (
 pU 3 11 0 a λc=>
 gQ c false (bL a) λm=>
 gQ c false (og 3 14 6146 m) λl=>
 dh c l λi=>
 br (some i) (
 Q (.v (.int .i64 2)) d) (
 Q (.v (.int .i64 0)) d))
theorem Jx(h : ∀g:fZ,xO x0 a H Q):fL Tryz.f47 0 [(0,x0),(1,a)] H Q:=md (by kernel_rfl) h
def Ed:Prop:=
 dH H 2 24 x0 λf c=>
 ae 24 f 0 λi=>
 ad c 22 i λe=>
 aV true c 9 73 [e,a,(.fn (.func 74) [] [])] λd k=>
 aQ d 0 λh=>
 aQ d 1 λj=>
 Q (.tup [h,j]) k
theorem Le(h : ∀g:fZ,Ed x0 a H Q):fL Tryz.f48 0 [(0,x0),(1,a)] H Q:=md (by kernel_rfl) h
def FV:Prop:=
 de H 5 57 x0 λe=>
 aaF H 6 57 e λc d=>
 CC d 57 c x0 λh f=>
 Q c f
theorem ME(h : ∀g:fZ,FV x0 H Q):fL Tryz.f46 0 [(0,x0)] H Q:=md (by kernel_rfl) h
def bB:Prop:=
 QZ 22 3 x0 λf=>
 br (some f) (
 Q (.v (.slice none 0 0)) H) (
 iE (lb env.P false true H (Ref.mk 0 5 (aa.gen H 0 5) 0) 22 0 (some [])) λe c=>
 dC c 7 22 22 e x0 λd h=>
 Q d h)
theorem b9(h : ∀g:fZ,bB x0 H Q):fL Tryz.f45 0 [(0,x0)] H Q:=md (by kernel_rfl) h
def sv:Prop:=
 dH H 2 24 x0 λj n=>
 ad n 24 j λw=>
 aV true n 11 47 [w,a] λo i=>
 gC 37 12 0 o λs=>
 br (some s) (
 Q (.tup [(.v (.slice none 0 0)),o]) i) (
 ad i 24 j λu=>
 aV true i 18 48 [u,a] λp d=>
 aQ p 0 λx=>
 aQ p 1 λq=>
 lA q λt=>
 br (some t) (
 Q3 d 23 57 128 λc l=>
 Q (.tup [c,(.v (.int .i64 0))]) l) (
 ae 24 j 0 λc=>
 ad d 22 c λe=>
 cH d 22 e x λf=>
 ae 59 f 1 λh=>
 ad d 57 h λm=>
 aV true d 30 46 [m] λk l=>
 Q (.tup [k,(.v (.int .i64 0))]) l))
theorem Lg(h : ∀g:fZ,sv x0 a H Q):fL Tryz.f59 0 [(0,x0),(1,a)] H Q:=md (by kernel_rfl) h
def aH:=sL Tryz.f73 3
def cI:Nat->Option (List Nat):=λi=>cond (Nat.beq i 3) (some [1,0,2,10,9,8]) (none)
def cJ:Prop:=
 de H 13 22 x0 λc=>
  bS env Tryz.f73 0 aH [(1,a),(0,x0),(2,b),(10,c),(9,(.v (.int .i64 0))),(8,c)] H Q
theorem fp(h : ∀g:fZ,cJ x0 a b H Q):fL Tryz.f73 0 [(0,x0),(1,a),(2,b)] H Q:=uC cI (by kernel_rfl) h
def aT(g:Nat->AV)(a x0 b d f k:AV)(H:aa)(Q:AV->aa->Prop):Prop:=
 eU 3 15 16 f d λs=>
 br (some s) (
 fQ 3 18 19 f d λc=>
 cY H 21 3 133 c λo=>
 dL (bC env.P .shr 133 (Operand.tmp 21) (.const (.int .u64 1)) (some o) (some (.v (.int .u64 1)))) λm=>
 cY H 23 133 3 m λh=>
 cH H 22 x0 h λq=>
 ad H 59 q λp=>
 iE (bm env true (ar env) (dg env 0) H (Ref.mk 0 30 (aa.gen H 0 30) 0) (some b) [p,a]) λl i=>
 pU 3 30 0 l λn=>
 br (some n) (
 fY 3 32 1 h λe=>
  bS env Tryz.f73 0 aH [(1,a),(0,x0),(2,b),(10,d),(9,e),(8,k)] i Q) (
  bS env Tryz.f73 0 aH [(1,a),(0,x0),(2,b),(10,h),(9,f),(8,k)] i Q)) (
 eU 3 36 37 f k λc=>
 gQ c true (bL b) λo=>
 gQ c true (bL x0) λm=>
 gQ c true (bL f) λh=>
 gQ c true (Mf H 22 m h) λq=>
 gQ c true (an H 59 q) λp=>
 gQ c true (bL a) λl=>
 gW c true H (bm env true (ar env) (dg env 0) H (Ref.mk 0 46 (aa.gen H 0 46) 0) (some o) [p,l]) λn i=>
 gQ c true (tS 3 46 0 n) λe=>
 cu c e λj=>
 Q (.tup [f,j]) i)
theorem cw(a x0 b c e d:AV)(H:aa)(Q:AV->aa->Prop)(h : ∀g,aT g a x0 b c e d H Q):bS env Tryz.f73 0 aH [(1,a),(0,x0),(2,b),(10,c),(9,e),(8,d)] H Q:=tG cI (by kernel_rfl) h
def Bn:Prop:=
 dH H 2 59 x0 λh c=>
 ae 59 h 0 λf=>
 ad c 3 f λd=>
 aV true c 8 75 [d,a] λe i=>
 Q e i
theorem Hp(h : ∀g:fZ,Bn x0 a H Q):fL Tryz.f74 0 [(0,x0),(1,a)] H Q:=md (by kernel_rfl) h
def uX:Prop:=
 aV true H 8 105 [x0] λi e=>
 aV true e 10 105 [a] λd c=>
 br (some i) (
 br (some d) (
 Q (.v (.int .i64 0)) c) (
 Q (.v (.int .i64 (-1))) c)) (
 br (some d) (
 Q (.v (.int .i64 1)) c) (
 eU 3 14 15 x0 a λf=>
 br (some f) (
 Q (.v (.int .i64 (-1))) c) (
 JS 3 17 18 x0 a λh=>
 br (some h) (
 Q (.v (.int .i64 1)) c) (
 Q (.v (.int .i64 0)) c))))
theorem BO(h : ∀g:fZ,uX x0 a H Q):fL Tryz.f75 0 [(0,x0),(1,a)] H Q:=md (by kernel_rfl) h
def xn:Prop:=
 dL (bC env.P .neq 3 (Operand.tmp 3) (Operand.tmp 4) (some x0) (some x0)) λc=>
 Q c H
theorem Dh(h : ∀g:fZ,xn x0 H Q):fL Tryz.f105 0 [(0,x0)] H Q:=md (by kernel_rfl) h
def xK:Code:=(Tryz.f5.body).getD .skip
def iQ:=sL Tryz.f5 3
def qh:Nat->Option (List Nat):=λi=>cond (Nat.beq i 3) (some [4,1,3]) (none)
def mj(g:Nat->AV)(x0:AV)(H:aa)(Q:AV->aa->Prop):Prop:=
 dH H 1 24 x0 λd c=>
  bS env Tryz.f5 0 iQ [(4,(.v (.int .i64 0))),(1,d),(3,(.v (.int .i64 0)))] c Q
theorem xv(x0:AV)(H:aa)(Q:AV->aa->Prop)(h : ∀g,mj g x0 H Q):fL Tryz.f5 0 [(0,x0)] H Q:=uC qh (by kernel_rfl) h
def iU(g:Nat->AV)(i a o:AV)(H:aa)(Q:AV->aa->Prop):Prop:=
 ae 24 a 0 λq=>
 ad H 22 q λt=>
 de H 8 22 t λp=>
 eU 3 5 8 i p λk=>
 gQ k true (bL i) λs=>
 gQ k true (vE 3 11 300 s) λw=>
 cu k w λu=>
 br (some u) (
 ae 24 a 0 λj=>
 ad H 22 j λl=>
 cH H 22 l i λe=>
 ae 59 e 1 λc=>
 ad H 57 c λd=>
 de H 23 57 d λf=>
 dL (cb env.P false (aa.get H) (Ref.mk 0 24 (aa.gen H 0 24) 0) .min #[3,3] [f,(.v (.int .i64 10000))]) λh=>
 fQ 3 16 24 o h λm=>
 fY 3 14 1 i λn=>
  bS env Tryz.f5 0 iQ [(4,n),(1,a),(3,m)] H Q) (
 ae 24 a 0 λj=>
 ad H 22 j λl=>
 de H 28 22 l λe=>
 sN 3 28 200 e λc=>
 gQ c false (bL o) λd=>
 gQ c false (Fg 3 31 40000 d) λf=>
 dh c f λh=>
 Q h H)
theorem oF(d a c:AV)(H:aa)(Q:AV->aa->Prop)(h : ∀g,iU g d a c H Q):bS env Tryz.f5 0 iQ [(4,d),(1,a),(3,c)] H Q:=tG qh (by kernel_rfl) h
def jo:=sL Tryz.f11 4
def ri:Nat->Option (List Nat):=λi=>cond (Nat.beq i 4) (some [5,3,2]) (none)
def na:Prop:=
 dH H 2 24 x0 λd f=>
 dH f 3 24 a λe c=>
 ae 24 d 0 λh=>
 ad c 22 h λk=>
 de c 8 22 k λj=>
 ae 24 e 0 λn=>
 ad c 22 n λm=>
 de c 11 22 m λi=>
 Av 3 8 11 j i λl=>
 br (some l) (
 Q (.v (.bool false)) c) (
  bS env Tryz.f11 0 jo [(5,(.v (.int .i64 0))),(3,e),(2,d)] c Q)
theorem ym(h : ∀g:fZ,na x0 a H Q):fL Tryz.f11 0 [(0,x0),(1,a)] H Q:=uC ri (by kernel_rfl) h
def dM(g:Nat->AV)(s q b:AV)(H:aa)(Q:AV->aa->Prop):Prop:=
 ae 24 b 0 λK=>
 ad H 22 K λL=>
 de H 16 22 L λN=>
 eU 3 13 16 s N λM=>
 br (some M) (
 ae 24 b 0 λF=>
 ad H 22 F λC=>
 cH H 22 C s λI=>
 ae 59 I 0 λu=>
 ad H 3 u λd=>
 ae 24 q 0 λn=>
 ad H 22 n λl=>
 cH H 22 l s λh=>
 ae 59 h 0 λi=>
 ad H 3 i λp=>
 Av 3 25 31 d p λc=>
 gQ c false (aw 24 b 0) λo=>
 gQ c false (an H 22 o) λe=>
 gQ c false (bL s) λk=>
 gQ c false (Mf H 22 e k) λf=>
 gQ c false (aw 59 f 1) λj=>
 gQ c false (an H 57 j) λm=>
 gQ c false (xS H 40 57 9 m) λD=>
 gQ c false (aw 24 q 0) λy=>
 gQ c false (an H 22 y) λw=>
 gQ c false (bL s) λA=>
 gQ c false (Mf H 22 w A) λB=>
 gQ c false (aw 59 B 1) λz=>
 gQ c false (an H 57 z) λJ=>
 gQ c false (xS H 47 57 9 J) λt=>
 gQ c false (BR 9 40 47 D t) λE=>
 dh c E λG=>
 br (some G) (
 Q (.v (.bool false)) H) (
 fY 3 18 1 s λx=>
  bS env Tryz.f11 0 jo [(5,x),(3,q),(2,b)] H Q)) (
 ae 24 b 1 λF=>
 ad H 3 F λC=>
 ae 24 q 1 λI=>
 ad H 3 I λu=>
 uU 3 51 53 C u λd=>
 gQ d true (aw 24 b 2) λn=>
 gQ d true (an H 3 n) λl=>
 gQ d true (aw 24 q 2) λh=>
 gQ d true (an H 3 h) λi=>
 gQ d true (k7 3 57 59 l i) λp=>
 cu d p λc=>
 gQ c true (aw 24 b 3) λo=>
 gQ c true (an H 4 o) λe=>
 gQ c true (aw 24 q 3) λk=>
 gQ c true (an H 4 k) λf=>
 gQ c true (k7 4 64 66 e f) λj=>
 cu c j λm=>
 Q m H)
theorem pv(d c b:AV)(H:aa)(Q:AV->aa->Prop)(h : ∀g,dM g d c b H Q):bS env Tryz.f11 0 jo [(5,d),(3,c),(2,b)] H Q:=tG ri (by kernel_rfl) h
def dP:Code:=(Tryz.f49.body).getD .skip
def aY:Prop:=
 z6 H 22 x0 a λA=>
 QX H dep 14 22 b λk=>
 vF 3 15 0 k λx=>
 br (some x) (
 Q x0 H) (
 QX H dep 19 22 x0 λo=>
 uU 3 20 21 a o λy=>
 br (some y) (
 QU H dep 25 22 22 x0 b λu i=>
 Q u i) (
 fQ 3 26 27 o k λu=>
 dL (cb env.P false (aa.get H) (⟨(dep+1),30,aa.gen H (dep+1) 30,0⟩:Ref) .cap #[22] [x0]) λz=>
 JS 3 28 30 u z λv=>
 br (some v) (
 Ff H 22 x0 a λt=>
 fQ 3 35 36 o k λc=>
 JR 3 37 38 c a λl=>
 QU H dep 40 22 3 t l λe i=>
 z6 i 22 e a λm=>
 CC i 22 m b λp h=>
 fQ 3 47 48 a k λf=>
 z6 h 22 e f λj=>
 z6 h 22 x0 a λd=>
 CC h 22 j d λq n=>
 Q e n) (
 fQ 3 57 58 o k λt=>
 Ff H 22 x0 t λc=>
 fQ 3 63 64 a k λl=>
 z6 H 22 c l λe=>
 iE (bm env true (ar env) (dg env (dep+1)) H (⟨(dep+1),67,aa.gen H (dep+1) 67,0⟩:Ref) (some (.fn (.func 76) [] [])) [b,e]) λm i=>
 lA m λp=>
 br (some p) (
 fQ 3 70 71 a k λf=>
 z6 i 22 c f λj=>
 z6 i 22 c a λd=>
 CC i 22 j d λq h=>
 z6 h 22 c a λs=>
 CC h 22 s b λw n=>
 Q c n) (
 z6 i 22 c o λf=>
 CC i 22 f b λj h=>
 z6 h 22 c a λd=>
 iE (bm env true (ar env) (dg env (dep+1)) h (⟨(dep+1),93,aa.gen h (dep+1) 93,0⟩:Ref) (some (.fn (.func 77) [] [])) [d,k]) λq n=>
 Q c n))))
theorem dN(h : ∀g:fZ,aY dep x0 a b H Q):fL Tryz.f49 (dep+1) [(0,x0),(1,a),(2,b)] H Q:=md (by kernel_rfl) h
def kY:Prop:=
 dH H 1 36 x0 λh j=>
 ae 36 h 0 λR=>
 ad j 5 R λT=>
 dL (bC env.P .eql 5 (Operand.tmp 4) (.const (.int .u8 0)) (some T) (some (a8 0))) λm=>
 gQ m false (aw 36 h 0) λU=>
 gQ m false (an j 5 U) λS=>
 gQ m false (bC env.P .geq 5 (Operand.tmp 8) (.const (.int .u8 4)) (some S) (some (a8 4))) λV=>
 dh m V λi=>
 gQ i false (aw 36 h 1) λO=>
 gQ i false (an j 29 O) λF=>
 gW i false j (fg false j 14 97 [F]) λC k=>
 gQ i false (wN 37 14 0 C) λp=>
 dh i p λf=>
 gQ f false (aw 36 h 2) λI=>
 gQ f false (an k 3 I) λz=>
 gQ f false (vE 3 19 1 z) λG=>
 dh f G λe=>
 gQ e false (aw 36 h 2) λA=>
 gQ e false (an k 3 A) λo=>
 gQ e false (og 3 24 16777216 o) λt=>
 dh e t λd=>
 gQ d false (aw 36 h 3) λD=>
 gQ d false (an k 33 D) λu=>
 gW d false k (fg false k 30 120 [u]) λq M=>
 gQ d false (wN 37 30 0 q) λy=>
 dh d y λc=>
 gW c false M (fg false M 34 121 []) λx l=>
 gQ c false (aw 36 h 0) λL=>
 gQ c false (an l 5 L) λn=>
 gQ c false (xD env.P 190 (some x) (some n)) λE=>
 gQ c false (tn env.P 189 (some E) 0) λJ=>
 gQ c false (an l 36 h) λs=>
 gW c false l (bm env true (ar env) (dg env 0) l (Ref.mk 0 40 (aa.gen l 0 40) 0) (some J) [s]) λw N=>
 gQ c false (vD w) λK=>
 dh c K λB=>
 br (some B) (
 Q (.v (.int .i64 8)) N) (
 Q (.v (.int .i64 0)) N)
theorem MA(h : ∀g:fZ,kY x0 H Q):fL Tryz.f99 0 [(0,x0)] H Q:=md (by kernel_rfl) h
def xL:Prop:=
 dH H 1 36 x0 λf d=>
 ae 36 f 4 λk=>
 ad d 31 k λh=>
 cS 31 λj=>
 uU 31 4 5 h j λc=>
 gQ c true (aw 36 f 6) λn=>
 gQ c true (an d 34 n) λm=>
 gQ c true (BS d 10 34 m) λi=>
 gQ c true (tS 3 10 0 i) λl=>
 cu c l λe=>
 Q e d
theorem Ju(h : ∀g:fZ,xL x0 H Q):fL Tryz.f137 0 [(0,x0)] H Q:=md (by kernel_rfl) h
def Cy:Prop:=
 dH H 1 36 x0 λi c=>
 ae 36 i 5 λh=>
 ad c 27 h λd=>
 aV false c 5 125 [] λf j=>
 uU 27 4 5 d f λe=>
 Q e j
theorem Jt(h : ∀g:fZ,Cy x0 H Q):fL Tryz.f138 0 [(0,x0)] H Q:=md (by kernel_rfl) h
def Bl:Prop:=
 dV H 0 27 λc e=>
 cS 27 λh=>
 aC e 27 c h λi d=>
 aN d c 27 λf=>
 Q f d
theorem Hm(h : ∀g:fZ,Bl H Q):fL Tryz.f125 0 [] H Q:=md (by kernel_rfl) h
def jQ:Prop:=
 dH H 2 36 x0 λh k=>
 ae 36 h 4 λN=>
 ad k 31 N λR=>
 cS 31 λP=>
 uU 31 6 7 R P λj=>
 gQ j false (aw 36 h 4) λO=>
 gQ j false (an k 31 O) λT=>
 gW j false k (fg true k 12 122 [T]) λL F=>
 gQ j false (tS 37 12 0 L) λM=>
 dh j M λE=>
 ad F 120 a λA=>
 ad F 36 h λo=>
 Mj F 17 A o λi f=>
 gQ i true (bL E) λI=>
 cu i I λd=>
 gQ d true (aw 36 h 3) λG=>
 gQ d true (aw 33 G 0) λm=>
 gQ d true (aw 31 m 0) λy=>
 gQ d true (an f 29 y) λn=>
 gQ d true (aw 36 h 1) λs=>
 gQ d true (an f 29 s) λC=>
 gQ d true (k7 29 25 27 n C) λB=>
 cu d B λc=>
 gQ c true (aw 36 h 6) λp=>
 gQ c true (an f 34 p) λv=>
 gQ c true (BS f 33 34 v) λx=>
 gQ c true (aw 36 h 3) λu=>
 gQ c true (aw 33 u 1) λK=>
 gQ c true (an f 3 K) λl=>
 gQ c true (k7 3 33 36 x l) λD=>
 cu c D λe=>
 gQ e true (aw 36 h 6) λq=>
 gQ e true (an f 34 q) λt=>
 gW e true f (fg true f 42 123 [t]) λJ S=>
 gQ e true (tS 37 42 0 J) λz=>
 cu e z λw=>
 Q w S
theorem Js(h : ∀g:fZ,jQ x0 a H Q):fL Tryz.f139 0 [(0,x0),(1,a)] H Q:=md (by kernel_rfl) h
def Cx:Prop:=
 dH H 3 36 x0 λf e=>
 ad e 120 a λl=>
 ad e 36 f λh=>
 Mj e 7 l h λd c=>
 gQ d true (an c 120 b) λk=>
 gQ d true (an c 36 f) λn=>
 gW d true c (bm env true (ar env) (dg env 0) c (Ref.mk 0 11 (aa.gen c 0 11) 0) (some k) [n]) λm i=>
 cu d m λj=>
 Q j i
theorem Jr(h : ∀g:fZ,Cx x0 a b H Q):fL Tryz.f141 0 [(0,x0),(1,a),(2,b)] H Q:=md (by kernel_rfl) h
def Cw:Prop:=
 dH H 2 36 x0 λf d=>
 ad d 120 a λl=>
 ad d 36 f λh=>
 Mj d 6 l h λc e=>
 gQ c true (aw 36 f 5) λk=>
 gQ c true (an e 27 k) λo=>
 gW c true e (fg true e 10 119 [o]) λn i=>
 gQ c true (tS 37 10 0 n) λj=>
 cu c j λm=>
 Q m i
theorem Jq(h : ∀g:fZ,Cw x0 a H Q):fL Tryz.f143 0 [(0,x0),(1,a)] H Q:=md (by kernel_rfl) h
def dF:Prop:=
 dH H 2 36 x0 λj V=>
 dH V 3 36 a λk c=>
 ae 36 j 0 λY=>
 ad c 5 Y λX=>
 ae 36 k 0 λZ=>
 ad c 5 Z λW=>
 uU 5 6 8 X W λl=>
 gQ l true (aw 36 j 1) λT=>
 gQ l true (an c 29 T) λU=>
 gQ l true (aw 36 k 1) λK=>
 gQ l true (an c 29 K) λF=>
 gQ l true (k7 29 12 14 U F) λp=>
 cu l p λe=>
 gQ e true (aw 36 j 2) λN=>
 gQ e true (an c 3 N) λB=>
 gQ e true (aw 36 k 2) λM=>
 gQ e true (an c 3 M) λo=>
 gQ e true (k7 3 19 21 B o) λC=>
 cu e C λd=>
 gQ d true (aw 36 j 3) λt=>
 gQ d true (an c 33 t) λI=>
 gQ d true (aw 36 k 3) λG=>
 gQ d true (an c 33 G) λv=>
 gQ d true (k7 33 26 28 I v) λq=>
 cu d q λf=>
 gQ f true (aw 36 j 4) λA=>
 gQ f true (an c 31 A) λx=>
 gQ f true (aw 36 k 4) λP=>
 gQ f true (an c 31 P) λn=>
 gQ f true (k7 31 33 35 x n) λJ=>
 cu f J λi=>
 gQ i true (aw 36 j 5) λs=>
 gQ i true (an c 27 s) λw=>
 gQ i true (aw 36 k 5) λO=>
 gQ i true (an c 27 O) λD=>
 gQ i true (k7 27 40 42 w D) λy=>
 cu i y λh=>
 gQ h true (aw 36 j 6) λR=>
 gQ h true (an c 34 R) λu=>
 gQ h true (aw 36 k 6) λm=>
 gQ h true (an c 34 m) λE=>
 gW h true c (fg true c 50 83 [u,E]) λz S=>
 cu h z λL=>
 Q L S
theorem yv(h : ∀g:fZ,dF x0 a H Q):fL Tryz.f54 0 [(0,x0),(1,a)] H Q:=md (by kernel_rfl) h
def oV:Prop:=
 dH H 2 36 x0 λv1 H1=>
 dH H1 3 36 a λY S=>
 ad S 36 v1 λv3=>
 ad S 36 Y λv4=>
 dV S 5 36 λk Z=>
 dV Z 6 36 λl H4=>
 aC H4 36 k v3 λv7 H5=>
 aC H5 36 l v4 λv8 c=>
  qJ [(Y,k)] [k,l] [] c /\
 (ae 36 k 0 λv9=>
 ad c 5 v9 λO=>
 ae 36 l 0 λJ=>
 ad c 5 J λq=>
 uU 5 10 12 O q λe=>
 gQ e true (aw 36 k 1) λU=>
 gQ e true (an c 29 U) λE=>
 gQ e true (aw 36 l 1) λT=>
 gQ e true (an c 29 T) λp=>
 gQ e true (k7 29 16 18 E p) λF=>
 cu e F λd=>
 gQ d true (aw 36 k 2) λu=>
 gQ d true (an c 3 u) λM=>
 gQ d true (aw 36 l 2) λL=>
 gQ d true (an c 3 L) λw=>
 gQ d true (k7 3 23 25 M w) λs=>
 cu d s λf=>
 gQ f true (aw 36 k 3) λD=>
 gQ f true (an c 33 D) λz=>
 gQ f true (aw 36 l 3) λW=>
 gQ f true (an c 33 W) λo=>
 gQ f true (k7 33 30 32 z o) λN=>
 cu f N λj=>
 gQ j true (aw 36 k 4) λt=>
 gQ j true (an c 31 t) λy=>
 gQ j true (aw 36 l 4) λV=>
 gQ j true (an c 31 V) λG=>
 gQ j true (k7 31 37 39 y G) λB=>
 cu j B λh=>
 gQ h true (aw 36 k 5) λX=>
 gQ h true (an c 27 X) λv=>
 gQ h true (aw 36 l 5) λn=>
 gQ h true (an c 27 n) λI=>
 gQ h true (k7 27 44 46 v I) λC=>
 cu h C λi=>
 gQ i true (aw 36 k 6) λx=>
 gQ i true (an c 34 x) λK=>
 gQ i true (aw 36 l 6) λP=>
 gQ i true (an c 34 P) λR=>
 gW i true c (fg true c 54 126 [K,R]) λm H7=>
 cu i m λA=>
 Q A H7)
theorem O7(h : ∀g:fZ,oV x0 a H Q):fL Tryz.f104 0 [(0,x0),(1,a)] H Q:=md (by kernel_rfl) h
def FQ:Prop:=
 dH H 1 36 x0 λi c=>
 ae 36 i 6 λh=>
 ad c 34 h λd=>
 aV true c 5 102 [d,(.v (.int .i32 (-1)))] λf j=>
 lA f λe=>
 Q e j
theorem Mz(h : ∀g:fZ,FQ x0 H Q):fL Tryz.f68 0 [(0,x0)] H Q:=md (by kernel_rfl) h
def lF:Prop:=
 aV true H 7 124 [x0,a] λd c=>
 wO 3 7 0 d λe=>
 Q e c
theorem rE(h : ∀g:fZ,lF x0 a H Q):fL Tryz.f102 0 [(0,x0),(1,a)] H Q:=md (by kernel_rfl) h
def fx:=sL Tryz.f124 2
def mL:Nat->Option (List Nat):=λi=>cond (Nat.beq i 2) (some [8,0,1,7]) (none)
def mY:Prop:=
 de H 7 34 x0 λc=>
  bS env Tryz.f124 0 fx [(8,(.v (.int .i64 0))),(0,x0),(1,a),(7,c)] H Q
theorem te(h : ∀g:fZ,mY x0 a H Q):fL Tryz.f124 0 [(0,x0),(1,a)] H Q:=uC mL (by kernel_rfl) h
def fB(g:Nat->AV)(c x0 a d:AV)(H:aa)(Q:AV->aa->Prop):Prop:=
 eU 3 8 7 c d λh=>
 br (some h) (
 cH H 34 x0 c λj=>
 ad H 21 j λf=>
 uU 21 11 15 a f λe=>
 br (some e) (
 Q c H) (
 fY 3 8 1 c λi=>
  bS env Tryz.f124 0 fx [(8,i),(0,x0),(1,a),(7,d)] H Q)) (
 Q (.v (.int .i64 (-1))) H)
theorem lS(c x0 a d:AV)(H:aa)(Q:AV->aa->Prop)(h : ∀g,fB g c x0 a d H Q):bS env Tryz.f124 0 fx [(8,c),(0,x0),(1,a),(7,d)] H Q:=tG mL (by kernel_rfl) h
def iV:Prop:=
 dV H 2 43 λh Y=>
 dV Y 3 108 λm H2=>
 aV true H2 11 114 [x0] λU s=>
 de s 13 57 U λv4=>
 vF 3 13 0 v4 λv5=>
 br (some v5) (
 cS 43 λI=>
 cS 108 λM=>
 aC s 43 h I λz N=>
 aC N 108 m M λT u=>
 aN u h 43 λo=>
 aN u m 108 λe=>
 Q (.tup [o,e,(.v (.int .i64 8))]) u) (
 eX s 79 x0 0 λI=>
 ad s 57 I λM=>
 aV true s 21 115 [M] λz N=>
 aQ z 0 λT=>
 aQ z 1 λo=>
 dV N 6 108 λe u=>
 aC u 108 e T λW X=>
 aV true X 26 116 [U] λt H7=>
 aQ t 0 λO=>
 aQ t 1 λF=>
 dV H7 8 43 λq Z=>
 aC Z 43 q O λV H9=>
 gC 3 29 0 o λl=>
 gQ l false (bL F) λy=>
 gQ l false (vD y) λB=>
 dh l B λc=>
 gQ c false (an H9 43 q) λK=>
 gQ c false (aw 108 e 0) λC=>
 gQ c false (an H9 3 C) λA=>
 gQ c false (aw 108 e 1) λE=>
 gQ c false (an H9 3 E) λG=>
 gW c false H9 (fg true H9 41 57 [K,A,G]) λD w=>
 gQ c false (bL x0) λS=>
 gW c false w (fg true w 43 117 [D,S]) λx f=>
 gQ c false (vD x) λL=>
 dh c L λP=>
 br (some P) (
 cS 43 λi=>
 cS 108 λj=>
 aC f 43 h i λR p=>
 aC p 108 m j λJ d=>
 aN d h 43 λk=>
 aN d m 108 λn=>
 Q (.tup [k,n,(.v (.int .i64 8))]) d) (
 ad f 43 q λi=>
 ad f 108 e λj=>
 aC f 43 h i λR p=>
 aC p 108 m j λJ d=>
  qJ [(e,h)] [h,m] [] d /\
 (aN d h 43 λk=>
 aN d m 108 λn=>
 Q (.tup [k,n,(.v (.int .i64 0))]) d)))
theorem kG(h : ∀g:fZ,iV x0 H Q):fL Tryz.f93 0 [(0,x0)] H Q:=md (by kernel_rfl) h
def kg:Prop:=
 dV H 2 108 λh c=>
 de c 6 57 x0 λv2=>
 gC 3 6 128 v2 λv3=>
 br (some v3) (
 cS 108 λT=>
 aC c 108 h T λv5 j=>
 aN j h 108 λI=>
 Q (.tup [I,(.v (.int .i64 8))]) j) (
 eX c 57 x0 0 λT=>
 ad c 5 T λv5=>
 cY c 12 5 3 v5 λI=>
 pn 3 16777216 12 I λv7=>
 eX c 57 x0 1 λv8=>
 ad c 5 v8 λv9=>
 cY c 17 5 3 v9 λS=>
 pn 3 65536 17 S λK=>
 fQ 3 13 18 v7 K λp=>
 eX c 57 x0 2 λt=>
 ad c 5 t λX=>
 cY c 23 5 3 X λE=>
 pn 3 256 23 E λW=>
 fQ 3 19 24 p W λn=>
 eX c 57 x0 3 λF=>
 ad c 5 F λo=>
 cY c 29 5 3 o λu=>
 fQ 3 25 29 n u λO=>
 eX c 57 x0 4 λN=>
 ad c 5 N λx=>
 cY c 34 5 3 x λq=>
 pn 3 65536 34 q λB=>
 eX c 57 x0 5 λD=>
 ad c 5 D λA=>
 cY c 39 5 3 A λv28=>
 pn 3 256 39 v28 λm=>
 fQ 3 35 40 B m λR=>
 eX c 57 x0 6 λY=>
 ad c 5 Y λs=>
 cY c 45 5 3 s λz=>
 fQ 3 41 45 R z λZ=>
 eX c 57 x0 7 λG=>
 ad c 5 G λC=>
 cY c 50 5 3 C λL=>
 eX c 57 x0 8 λv38=>
 ad c 5 v38 λw=>
 cY c 54 5 3 w λl=>
 dL (mI env.P 108 (some [(0,O),(1,Z),(2,L),(3,l)])) λJ=>
 dV c 4 108 λe j=>
 aC j 108 e J λv43 H3=>
 ad H3 108 e λy=>
 aV true H3 57 133 [y] λM V=>
 lA M λU=>
 br (some U) (
 cS 108 λf=>
 aC V 108 h f λk i=>
 aN i h 108 λd=>
 Q (.tup [d,(.v (.int .i64 8))]) i) (
 ad V 108 e λf=>
 aC V 108 h f λk i=>
 aN i h 108 λd=>
 Q (.tup [d,(.v (.int .i64 0))]) i))
theorem mF(h : ∀g:fZ,kg x0 H Q):fL Tryz.f115 0 [(0,x0)] H Q:=md (by kernel_rfl) h
def aZ:Prop:=
 dH H 1 43 x0 λf p=>
 ae 43 f 0 λK=>
 ad p 5 K λM=>
 xT 5 4 M λL=>
 br (some L) (
 ae 43 f 2 λJ=>
 ad p 36 J λG=>
 aV true p 8 50 [G] λC q=>
 gQ C true (aw 43 f 2) λE=>
 gQ C true (aw 36 E 1) λF=>
 gQ C true (an q 29 F) λB=>
 gW C true q (fg true q 13 51 [B]) λx o=>
 cu C x λi=>
 gQ i true (aw 43 f 1) λc=>
 gQ i true (an o 3 c) λy=>
 gQ i true (og 3 17 0 y) λw=>
 cu i w λn=>
 gQ n true (aw 43 f 1) λh=>
 gQ n true (an o 3 h) λk=>
 gQ n true (z8 3 22 255 k) λs=>
 cu n s λj=>
 gQ j true (aw 43 f 3) λm=>
 gQ j true (an o 37 m) λl=>
 gQ j true (tS 37 27 0 l) λt=>
 cu j t λd=>
 gQ d true (aw 43 f 4) λe=>
 gQ d true (an o 41 e) λu=>
 gQ d true (KD 41) λA=>
 gQ d true (k7 41 32 33 u A) λD=>
 cu d D λz=>
 Q z o) (
 ae 43 f 1 λJ=>
 ad p 3 J λG=>
 gC 3 37 0 G λC=>
 br (some C) (
 Q (.v (.bool false)) p) (
 ae 43 f 0 λE=>
 ad p 5 E λF=>
 Gt 5 40 F λB=>
 br (some B) (
 ae 43 f 2 λx=>
 ad p 36 x λi=>
 aV true p 44 52 [i] λc q=>
 gQ c true (aw 43 f 2) λy=>
 gQ c true (an q 36 y) λw=>
 gW c true q (fg true q 48 53 [w]) λn o=>
 cu c n λh=>
 gQ h true (aw 43 f 3) λk=>
 gQ h true (an o 37 k) λs=>
 gQ h true (og 37 52 0 s) λj=>
 cu h j λm=>
 gQ m true (aw 43 f 3) λl=>
 gQ m true (an o 37 l) λt=>
 gQ m true (vE 37 57 65536 t) λd=>
 cu m d λe=>
 gQ e true (aw 43 f 4) λu=>
 gQ e true (an o 41 u) λA=>
 gQ e true (KD 41) λD=>
 gQ e true (k7 41 62 63 A D) λz=>
 cu e z λI=>
 Q I o) (
 ae 43 f 0 λx=>
 ad p 5 x λi=>
 z7 5 67 i λc=>
 gQ c true (aw 43 f 2) λy=>
 gQ c true (an p 36 y) λw=>
 gQ c true (KD 36) λn=>
 gW c true p (fg true p 73 54 [w,n]) λh q=>
 cu c h λk=>
 gQ k true (aw 43 f 3) λs=>
 gQ k true (an q 37 s) λj=>
 gQ k true (tS 37 77 0 j) λm=>
 cu k m λl=>
 gQ l true (aw 43 f 4) λt=>
 gQ l true (an q 41 t) λd=>
 gW l true q (fg true q 83 55 [d]) λe o=>
 cu l e λu=>
 Q u o)))
theorem zq(h : ∀g:fZ,aZ x0 H Q):fL Tryz.f26 0 [(0,x0)] H Q:=md (by kernel_rfl) h
def oY:Prop:=
 dH H 1 108 x0 λi d=>
 ae 108 i 0 λJ=>
 ad d 3 J λL=>
 wO 3 4 1 L λl=>
 gQ l true (aw 108 i 0) λM=>
 gQ l true (an d 3 M) λK=>
 gQ l true (vE 3 8 2147483648 K) λN=>
 cu l N λk=>
 gQ k true (aw 108 i 1) λI=>
 gQ k true (an d 3 I) λD=>
 gQ k true (og 3 13 1 D) λz=>
 cu k z λe=>
 gQ e true (aw 108 i 1) λq=>
 gQ e true (an d 3 q) λE=>
 gQ e true (vE 3 18 16777216 E) λx=>
 cu e x λj=>
 gQ j true (aw 108 i 3) λn=>
 gQ j true (an d 3 n) λy=>
 gQ j true (og 3 23 1 y) λo=>
 cu j o λh=>
 gQ h true (aw 108 i 3) λB=>
 gQ h true (an d 3 B) λA=>
 gQ h true (z8 3 28 4 A) λs=>
 cu h s λf=>
 gQ f true (aw 108 i 2) λv=>
 gQ f true (an d 3 v) λw=>
 gQ f true (og 3 33 0 w) λu=>
 cu f u λc=>
 gQ c true (aw 108 i 2) λm=>
 gQ c true (an d 3 m) λC=>
 gQ c true (aw 108 i 3) λF=>
 gQ c true (an d 3 F) λp=>
 gQ c true (QO 3 38 40 C p) λt=>
 cu c t λG=>
 Q G d
theorem vM(h : ∀g:fZ,oY x0 H Q):fL Tryz.f133 0 [(0,x0)] H Q:=md (by kernel_rfl) h
def nc:Prop:=
 dH H 1 43 x0 λi d=>
 ad d 43 i λk=>
 aV true d 6 56 [k] λh c=>
 de c 7 57 h λf=>
 rH 3 8 119 f λe=>
 my 3 10 119 f λm=>
 sN 3 11 0 m λl=>
 br (some l) (
 fY 3 13 1 e λj=>
 Q j c) (
 Q e c)
theorem yr(h : ∀g:fZ,nc x0 H Q):fL Tryz.f27 0 [(0,x0)] H Q:=md (by kernel_rfl) h
def iq:=sL Tryz.f57 4
def pC:Nat->Option (List Nat):=λi=>cond (Nat.beq i 4) (some [9,3,2,1,8,7]) (none)
def pJ:Prop:=
 dH H 3 43 x0 λd c=>
 ad c 43 d λf=>
 aV true c 12 56 [f] λe h=>
  bS env Tryz.f57 0 iq [(9,(.v (.int .i64 0))),(3,d),(2,b),(1,a),(8,(.v (.slice none 0 0))),(7,e)] h Q
theorem wJ(h : ∀g:fZ,pJ x0 a b H Q):fL Tryz.f57 0 [(0,x0),(1,a),(2,b)] H Q:=uC pC (by kernel_rfl) h
def iv(g:Nat->AV)(d e b a o l:AV)(H:aa)(Q:AV->aa->Prop):Prop:=
 ad H 43 e λu=>
 aV true H 15 27 [u] λv c=>
 eU 3 13 15 d v λz=>
 br (some z) (
 Gu 3 20 119 d λx=>
 de c 23 57 l λA=>
 fY 3 24 1 d λw=>
 Gu 3 25 119 w λC=>
 dL (cb env.P false (aa.get c) (Ref.mk 0 27 (aa.gen c 0 27) 0) .min #[3,3] [A,C]) λq=>
 dL (cr env.P (aa.get c) 57 (some l) (oi x) (oi q) (some none)) λs=>
 ad c 43 e λk=>
 aV true c 34 27 [k] λj y=>
 dL (mI env.P 108 (some [(0,a),(1,b),(2,d),(3,j)])) λf=>
 aV true y 37 88 [f,s] λh p=>
 mw p 38 79 1 0 h λn B=>
 dC B 39 79 79 o n λi t=>
 fY 3 17 1 d λm=>
  bS env Tryz.f57 0 iq [(9,m),(3,e),(2,b),(1,a),(8,i),(7,l)] t Q) (
 Q o c)
theorem oq(f c b a d e:AV)(H:aa)(Q:AV->aa->Prop)(h : ∀g,iv g f c b a d e H Q):bS env Tryz.f57 0 iq [(9,f),(3,c),(2,b),(1,a),(8,d),(7,e)] H Q:=tG pC (by kernel_rfl) h
def jq:=sL Tryz.f114 3
def rj:Nat->Option (List Nat):=λi=>cond (Nat.beq i 3) (some [4,0,3]) (none)
def rz:Prop:=
 bS env Tryz.f114 0 jq [(4,(.v (.int .i64 0))),(0,x0),(3,(.v (.slice none 0 0)))] H Q
theorem yn(h : ∀g:fZ,rz x0 H Q):fL Tryz.f114 0 [(0,x0)] H Q:=uC rj (by kernel_rfl) h
def gr(g:Nat->AV)(c x0 f:AV)(H:aa)(Q:AV->aa->Prop):Prop:=
 de H 7 79 x0 λm=>
 eU 3 5 7 c m λo=>
 br (some o) (
 cH H 79 x0 c λk=>
 ad H 57 k λi=>
 de H 15 57 i λn=>
 gC 3 15 128 n λq=>
 br (some q) (
 Q (.v (.slice none 0 0)) H) (
 cH H 79 x0 c λp=>
 ad H 57 p λh=>
 dL (cr env.P (aa.get H) 57 (some h) (oi (.v (.int .i64 9))) (some none) (some none)) λj=>
 dC H 23 57 57 f j λe l=>
 fY 3 9 1 c λd=>
  bS env Tryz.f114 0 jq [(4,d),(0,x0),(3,e)] l Q)) (
 Q f H)
theorem lI(d x0 c:AV)(H:aa)(Q:AV->aa->Prop)(h : ∀g,gr g d x0 c H Q):bS env Tryz.f114 0 jq [(4,d),(0,x0),(3,c)] H Q:=tG rj (by kernel_rfl) h
def eB:Prop:=
 dV H 2 43 λx R=>
 dV R 4 43 λm L=>
 eX L 57 x0 0 λU=>
 ad L 5 U λT=>
 ae 43 m 0 λV=>
 aC L 5 V T λX d=>
 eX d 57 x0 0 λW=>
 ad d 5 W λG=>
 xT 5 12 G λO=>
 br (some O) (
 aaC d 57 x0 λC=>
 aV true d 18 134 [C] λo y=>
 aQ o 0 λf=>
 aQ o 1 λc=>
 ae 43 m 2 λk=>
 ae 36 k 1 λh=>
 aC y 29 h f λp l=>
 eX l 57 x0 7 λq=>
 ad l 5 q λi=>
 cY l 26 5 3 i λe=>
 ae 43 m 1 λu=>
 aC l 3 u e λw s=>
 ad s 43 m λj=>
 vF 3 59 0 c λn=>
 gQ n true (an s 43 m) λt=>
 gW n true s (fg false s 63 26 [t]) λA E=>
 cu n A λB=>
 aC E 43 x j λJ F=>
 aN F x 43 λD=>
 Q (.tup [D,B]) F) (
 Gt 5 12 G λC=>
 br (some C) (
 eX d 57 x0 1 λo=>
 ad d 5 o λf=>
 cY d 33 5 3 f λc=>
 pn 3 256 33 c λk=>
 eX d 57 x0 2 λh=>
 ad d 5 h λp=>
 cY d 38 5 3 p λq=>
 fQ 3 34 38 k q λi=>
 ae 43 m 3 λe=>
 aC d 37 e i λu y=>
 dL (cr env.P (aa.get y) 57 (some x0) (oi (.v (.int .i64 3))) (some none) (some none)) λw=>
 aV true y 44 135 [w] λj l=>
 aQ j 0 λn=>
 aQ j 1 λt=>
 aQ j 2 λA=>
 ae 43 m 2 λB=>
 aC l 36 B n λJ s=>
 ad s 43 m λD=>
 vF 3 59 0 A λz=>
 gQ z true (an s 43 m) λK=>
 gW z true s (fg false s 63 26 [K]) λM E=>
 cu z M λI=>
 aC E 43 x D λS F=>
 aN F x 43 λN=>
 Q (.tup [N,I]) F) (
 z7 5 12 G λo=>
 br (some o) (
 dL (cr env.P (aa.get d) 57 (some x0) (oi (.v (.int .i64 1))) (oi (.v (.int .i64 8))) (some none)) λf=>
 aV true d 54 136 [f] λc y=>
 aQ c 0 λk=>
 aQ c 1 λh=>
 ae 43 m 4 λp=>
 aC y 41 p k λq l=>
 ad l 43 m λi=>
 vF 3 59 0 h λe=>
 gQ e true (an l 43 m) λu=>
 gW e true l (fg false l 63 26 [u]) λw s=>
 cu e w λj=>
 aC s 43 x i λn E=>
 aN E x 43 λt=>
 Q (.tup [t,j]) E) (
 ad d 43 m λf=>
 dL (bC env.P .eql 3 (Operand.tmp 59) (Operand.const (Value.int IntKind.i64 0)) (some (AV.v (Value.int IntKind.i64 8))) (some (AV.v (Value.int IntKind.i64 0)))) λc=>
 gQ c true (an d 43 m) λk=>
 gW c true d (fg false d 63 26 [k]) λh y=>
 cu c h λp=>
 aC y 43 x f λq l=>
 aN l x 43 λi=>
 Q (.tup [i,p]) l)))
theorem gV(h : ∀g:fZ,eB x0 H Q):fL Tryz.f116 0 [(0,x0)] H Q:=md (by kernel_rfl) h
def fM:=sL Tryz.f117 4
def ny:Nat->Option (List Nat):=λi=>cond (Nat.beq i 4) (some [5,1,0]) (none)
def j3:Prop:=
 de H 7 79 x0 λd=>
 de H 9 79 a λe=>
 Av 3 7 9 d e λc=>
 br (some c) (
 Q (.v (.bool false)) H) (
  bS env Tryz.f117 0 fM [(5,(.v (.int .i64 0))),(1,a),(0,x0)] H Q)
theorem np(h : ∀g:fZ,j3 x0 a H Q):fL Tryz.f117 0 [(0,x0),(1,a)] H Q:=uC ny (by kernel_rfl) h
def fO(g:Nat->AV)(c a x0:AV)(H:aa)(Q:AV->aa->Prop):Prop:=
 de H 13 79 x0 λj=>
 eU 3 11 13 c j λl=>
 br (some l) (
 cH H 79 x0 c λi=>
 ad H 57 i λf=>
 cY H 21 57 9 f λk=>
 cH H 79 a c λn=>
 ad H 57 n λm=>
 cY H 26 57 9 m λe=>
 Av 9 21 26 k e λh=>
 br (some h) (
 Q (.v (.bool false)) H) (
 fY 3 15 1 c λd=>
  bS env Tryz.f117 0 fM [(5,d),(1,a),(0,x0)] H Q)) (
 Q (.v (.bool true)) H)
theorem je(c a x0:AV)(H:aa)(Q:AV->aa->Prop)(h : ∀g,fO g c a x0 H Q):bS env Tryz.f117 0 fM [(5,c),(1,a),(0,x0)] H Q:=tG ny (by kernel_rfl) h
def rA:Prop:=
 dH H 1 36 x0 λc e=>
 cS 29 λj=>
 ae 36 c 1 λf=>
 aC e 29 f j λm d=>
 ad d 36 c λi=>
 cS 36 λl=>
 aV true d 7 54 [i,l] λk h=>
 Q k h
theorem yp(h : ∀g:fZ,rA x0 H Q):fL Tryz.f50 0 [(0,x0)] H Q:=md (by kernel_rfl) h
def nN:Prop:=
 dH H 1 41 x0 λi c=>
 ae 41 i 0 λm=>
 ad c 3 m λk=>
 wO 3 4 0 k λe=>
 gQ e true (aw 41 i 0) λl=>
 gQ e true (an c 3 l) λp=>
 gQ e true (vE 3 8 8 p) λo=>
 cu e o λd=>
 gQ d true (aw 41 i 1) λn=>
 gQ d true (an c 39 n) λj=>
 gW d true c (fg true c 14 84 [j]) λf q=>
 cu d f λh=>
 Q h q
theorem zw(h : ∀g:fZ,nN x0 H Q):fL Tryz.f55 0 [(0,x0)] H Q:=md (by kernel_rfl) h
def jS:Prop:=
 dH H 1 43 x0 λi C=>
 ae 43 i 0 λF=>
 ad C 5 F λD=>
 mw C 6 57 1 0 D λv c=>
 ae 43 i 0 λE=>
 ad c 5 E λI=>
 xT 5 8 I λG=>
 br (some G) (
 ae 43 i 2 λt=>
 ae 36 t 1 λy=>
 ad c 29 y λl=>
 aV true c 14 85 [l] λd o=>
 dC o 15 57 57 v d λe j=>
 ae 43 i 1 λf=>
 ad j 3 f λh=>
 cY j 19 3 5 h λm=>
 mw j 20 57 1 0 m λn A=>
 dC A 21 57 57 e n λk w=>
 Q k w) (
 ae 43 i 0 λt=>
 ad c 5 t λy=>
 Gt 5 23 y λl=>
 br (some l) (
 ae 43 i 3 λd=>
 ad c 37 d λe=>
 rH 3 27 256 e λf=>
 cY c 29 3 5 f λh=>
 ae 43 i 3 λm=>
 ad c 37 m λn=>
 my 3 31 256 n λk=>
 cY c 33 3 5 k λB=>
 iE (lb env.P false true c (Ref.mk 0 34 (aa.gen c 0 34) 0) 57 2 (some [(0,h),(1,B)])) λp o=>
 dC o 35 57 57 v p λx j=>
 ae 43 i 2 λq=>
 ad j 36 q λs=>
 aV true j 39 86 [s] λz A=>
 dC A 40 57 57 x z λu w=>
 Q u w) (
 ae 43 i 4 λd=>
 ad c 41 d λe=>
 aV true c 44 87 [e] λf o=>
 dC o 45 57 57 v f λh j=>
 Q h j))
theorem me(h : ∀g:fZ,jS x0 H Q):fL Tryz.f56 0 [(0,x0)] H Q:=md (by kernel_rfl) h
def sA:Prop:=
 dH H 2 108 x0 λe d=>
 ae 108 e 0 λZ=>
 ad d 3 Z λv3=>
 rH 3 7 16777216 v3 λv4=>
 cY d 9 3 5 v4 λv5=>
 ae 108 e 0 λv6=>
 ad d 3 v6 λv7=>
 rH 3 11 65536 v7 λW=>
 my 3 12 256 W λY=>
 cY d 14 3 5 Y λK=>
 ae 108 e 0 λD=>
 ad d 3 D λl=>
 rH 3 16 256 l λo=>
 my 3 17 256 o λN=>
 cY d 19 3 5 N λz=>
 ae 108 e 0 λM=>
 ad d 3 M λj=>
 my 3 21 256 j λA=>
 cY d 23 3 5 A λk=>
 QV d 24 57 4 0 v5 1 K 2 z 3 k λp c=>
 ae 108 e 1 λI=>
 ad c 3 I λG=>
 rH 3 27 65536 G λs=>
 cY c 29 3 5 s λm=>
 ae 108 e 1 λw=>
 ad c 3 w λy=>
 rH 3 31 256 y λv=>
 my 3 32 256 v λS=>
 cY c 34 3 5 S λi=>
 ae 108 e 1 λJ=>
 ad c 3 J λO=>
 my 3 36 256 O λn=>
 cY c 38 3 5 n λu=>
 ae 108 e 2 λR=>
 ad c 3 R λB=>
 cY c 41 3 5 B λx=>
 ae 108 e 3 λE=>
 ad c 3 E λT=>
 cY c 44 3 5 T λq=>
 iE (lb env.P false true c (Ref.mk 0 45 (aa.gen c 0 45) 0) 57 5 (some [(0,m),(1,i),(2,u),(3,x),(4,q)])) λh V=>
 dC V 46 57 57 p h λC H4=>
 dC H4 49 57 57 C a λf U=>
 de U 52 57 f λL=>
 Q2 3 128 52 L λt=>
 dC U 54 57 3 f t λF X=>
 Q F X
theorem zp(h : ∀g:fZ,sA x0 a H Q):fL Tryz.f88 0 [(0,x0),(1,a)] H Q:=md (by kernel_rfl) h
def kq:Prop:=
 dV H 2 29 λi h=>
 de h 6 57 x0 λD=>
 gC 3 6 6 D λB=>
 br (some B) (
 cS 29 λp=>
 aC h 29 i p λw e=>
 aN e i 29 λu=>
 Q (.tup [u,(.v (.int .i64 8))]) e) (
 eX h 57 x0 0 λp=>
 ad h 5 p λw=>
 QY h 57 x0 λu=>
 aV false h 14 150 [u] λE e=>
 cY e 15 3 25 E λz=>
 qN 27 0 w 1 z λA=>
 eX e 57 x0 5 λo=>
 ad e 5 o λk=>
 qN 29 0 A 1 k λn=>
 dV e 4 29 λc y=>
 aC y 29 c n λC x=>
 ad x 29 c λs=>
 aV true x 22 51 [s] λt q=>
 lA t λl=>
 br (some l) (
 cS 29 λf=>
 aC q 29 i f λm j=>
 aN j i 29 λd=>
 Q (.tup [d,(.v (.int .i64 8))]) j) (
 ad q 29 c λf=>
 aC q 29 i f λm j=>
 aN j i 29 λd=>
 Q (.tup [d,(.v (.int .i64 0))]) j))
theorem uG(h : ∀g:fZ,kq x0 H Q):fL Tryz.f134 0 [(0,x0)] H Q:=md (by kernel_rfl) h
def mh:=sL Tryz.f136 5
def rW:Nat->Option (List Nat):=λi=>cond (Nat.beq i 5) (some [5,0,4,2]) (none)
def kO:Prop:=
 dV H 2 41 λf c=>
 de c 8 57 x0 λm=>
 gC 3 8 7 m λd=>
 gQ d false (bL x0) λl=>
 gQ d false (bH env.P (aa.get c) 57 (some l) (some (AV.v (Value.int IntKind.i64 1)))) λj=>
 gQ d false (an c 5 j) λp=>
 gQ d false (bC env.P .gtr 5 (Operand.tmp 13) (.const (.int .u8 1)) (some p) (some (a8 1))) λo=>
 dh d o λi=>
 br (some i) (
 cS 41 λn=>
 aC c 41 f n λk h=>
 aN h f 41 λe=>
 Q (.tup [e,(.v (.int .i64 8))]) h) (
  bS env Tryz.f136 0 mh [(5,(.v (.int .i64 3))),(0,x0),(4,(.v (.int .i64 0))),(2,f)] c Q)
theorem zx(h : ∀g:fZ,kO x0 H Q):fL Tryz.f136 0 [(0,x0)] H Q:=uC rW (by kernel_rfl) h
def bM(g:Nat->AV)(s x0 A b:AV)(H:aa)(Q:AV->aa->Prop):Prop:=
 pU 3 17 7 s λE=>
 br (some E) (
 pn 3 256 21 A λn=>
 cH H 57 x0 s λu=>
 ad H 5 u λt=>
 cY H 27 5 3 t λw=>
 fQ 3 22 27 n w λo=>
 fY 3 19 1 s λy=>
  bS env Tryz.f136 0 mh [(5,y),(0,x0),(4,o),(2,b)] H Q) (
 eX H 57 x0 0 λn=>
 ad H 5 n λu=>
 cY H 32 5 3 u λt=>
 eX H 57 x0 2 λw=>
 ad H 5 w λo=>
 cY H 37 3 25 A λy=>
 qN 27 0 o 1 y λB=>
 eX H 57 x0 1 λC=>
 ad H 5 C λq=>
 xT 5 41 q λp=>
 qN 39 0 B 1 p λj=>
 qN 41 0 t 1 j λk=>
 dV H 6 41 λe D=>
 aC D 41 e k λF z=>
 ad z 41 e λx=>
 aV true z 46 55 [x] λh i=>
 lA h λm=>
 br (some m) (
 cS 41 λc=>
 aC i 41 b c λl f=>
 aN f b 41 λd=>
 Q (.tup [d,(.v (.int .i64 8))]) f) (
 ad i 41 e λc=>
 aC i 41 b c λl f=>
 aN f b 41 λd=>
 Q (.tup [d,(.v (.int .i64 0))]) f))
theorem bZ(d x0 c b:AV)(H:aa)(Q:AV->aa->Prop)(h : ∀g,bM g d x0 c b H Q):bS env Tryz.f136 0 mh [(5,d),(0,x0),(4,c),(2,b)] H Q:=tG rW (by kernel_rfl) h
def fF:Prop:=
 dH H 1 39 x0 λh l=>
 ae 39 h 0 λp=>
 ad l 27 p λm=>
 aV true l 5 78 [m] λc k=>
 gQ c true (aw 39 h 1) λo=>
 gQ c true (an k 4 o) λs=>
 gQ c true (bL s) λd=>
 gQ d false (aw 39 h 0) λn=>
 gQ d false (an k 27 n) λq=>
 gQ d false (KD 27) λi=>
 gQ d false (k7 27 11 12 q i) λe=>
 gQ c true (QN d e) λf=>
 cu c f λj=>
 Q j k
theorem u9(h : ∀g:fZ,fF x0 H Q):fL Tryz.f84 0 [(0,x0)] H Q:=md (by kernel_rfl) h
def ml:Prop:=
 dH H 1 41 x0 λm l=>
 ae 41 m 0 λx=>
 ad l 3 x λv=>
 cY l 6 3 5 v λu=>
 iE (lb env.P false true l (Ref.mk 0 7 (aa.gen l 0 7) 0) 57 2 (some [(0,u),(1,(a8 0))])) λq k=>
 ae 41 m 1 λz=>
 ae 39 z 1 λy=>
 ad k 4 y λt=>
 br (some t) (
 eX k 57 q 1 λp=>
 iE (jy env.P k 5 (some p) (some (a8 1))) λj i=>
 ae 41 m 1 λc=>
 ae 39 c 0 λd=>
 ad i 27 d λe=>
 tQ 29 0 e λh=>
 aV true i 18 85 [h] λf n=>
 JT n 57 f λs=>
 dC n 20 57 57 q s λo w=>
 Q o w) (
 ae 41 m 1 λp=>
 ae 39 p 0 λj=>
 ad k 27 j λc=>
 tQ 29 0 c λd=>
 aV true k 18 85 [d] λe i=>
 JT i 57 e λh=>
 dC i 20 57 57 q h λf n=>
 Q f n)
theorem xz(h : ∀g:fZ,ml x0 H Q):fL Tryz.f87 0 [(0,x0)] H Q:=md (by kernel_rfl) h
def ir:=sL Tryz.f150 3
def pE:Nat->Option (List Nat):=λi=>cond (Nat.beq i 3) (some [4,0,3]) (none)
def pL:Prop:=
 bS env Tryz.f150 0 ir [(4,(.v (.int .i64 0))),(0,x0),(3,(.v (.int .i64 0)))] H Q
theorem wL(h : ∀g:fZ,pL x0 H Q):fL Tryz.f150 0 [(0,x0)] H Q:=uC pE (by kernel_rfl) h
def kP(g:Nat->AV)(c x0 d:AV)(H:aa)(Q:AV->aa->Prop):Prop:=
 de H 7 57 x0 λi=>
 eU 3 5 7 c i λk=>
 br (some k) (
 pn 3 256 11 d λh=>
 cH H 57 x0 c λf=>
 ad H 5 f λj=>
 cY H 17 5 3 j λm=>
 fQ 3 12 17 h m λl=>
 fY 3 9 1 c λe=>
  bS env Tryz.f150 0 ir [(4,e),(0,x0),(3,l)] H Q) (
 Q d H)
theorem ot(d x0 c:AV)(H:aa)(Q:AV->aa->Prop)(h : ∀g,kP g d x0 c H Q):bS env Tryz.f150 0 ir [(4,d),(0,x0),(3,c)] H Q:=tG pE (by kernel_rfl) h
end
section
variable(dep:Nat)(g:Nat->AV)(x0 a c d b:AV)(H:aa)(Q:AV->aa->Prop)
def lg:Prop:=
 dH H 1 24 x0 λk o=>
 dV o 2 63 λf n=>
 ad n 24 k λp=>
 aV true n 5 25 [p] λs h=>
 lA s λq=>
 br (some q) (
 cS 63 λi=>
 aC h 63 f i λm e=>
 aN e f 63 λl=>
 Q (.tup [l,(.v (.int .i64 8))]) e) (
 ad h 24 k λi=>
 aV true h 9 33 [i] λm e=>
 aC e 63 f m λl j=>
 aN j f 63 λt=>
 Q (.tup [t,(.v (.int .i64 0))]) j)
theorem vK(h : ∀g:fZ,lg x0 H Q):fL Tryz.f15 0 [(0,x0)] H Q:=md (by kernel_rfl) h
def fI:Prop:=
 dH H 1 24 x0 λw A=>
 dV A 3 63 λh u=>
 ad u 24 w λB=>
 aV true u 9 25 [B] λy m=>
 lA y λD=>
 br (some D) (
 cS 63 λt=>
 aC m 63 h t λl k=>
 aN k h 63 λn=>
 Q (.tup [(.v (.slice none 0 0)),n,(.v (.int .i64 8))]) k) (
 ad m 24 w λt=>
 aV true m 14 34 [t] λl k=>
 aQ l 0 λn=>
 aQ l 1 λz=>
 aQ l 2 λo=>
 dV k 6 63 λi C=>
 aC C 63 i z λx q=>
 lA o λp=>
 br (some p) (
 cS 63 λf=>
 aC q 63 h f λs j=>
 aN j h 63 λe=>
 Q (.tup [(.v (.slice none 0 0)),e,(.v (.int .i64 8))]) j) (
 ad q 63 i λf=>
 aC q 63 h f λs j=>
 aN j h 63 λe=>
 Q (.tup [n,e,(.v (.int .i64 0))]) j))
theorem yf(h : ∀g:fZ,fI x0 H Q):fL Tryz.f17 0 [(0,x0)] H Q:=md (by kernel_rfl) h
def jl:=sL Tryz.f19 8
def re:Nat->Option (List Nat):=λi=>cond (Nat.beq i 8) (some [4,6,1,2]) (none)
def ij:Prop:=
 dH H 2 24 x0 λn u=>
 dV u 4 24 λh p=>
 ad p 24 n λw=>
 aV true p 8 25 [w] λt i=>
 lA t λx=>
 br (some x) (
 cS 24 λo=>
 aC i 24 h o λq e=>
 aN e h 24 λk=>
 Q (.tup [k,(.v (.int .i64 8))]) e) (
 ae 24 n 1 λo=>
 ad i 3 o λq=>
 pU 3 12 1 q λk=>
 br (some k) (
 cS 24 λm=>
 aC i 24 h m λj e=>
 aN e h 24 λf=>
 Q (.tup [f,(.v (.int .i64 2))]) e) (
 de i 16 50 a λm=>
 sN 3 16 2048 m λj=>
 br (some j) (
 cS 24 λf=>
 aC i 24 h f λs e=>
 aN e h 24 λl=>
 Q (.tup [l,(.v (.int .i64 4))]) e) (
  bS env Tryz.f19 0 jl [(4,h),(6,(.v (.int .i64 0))),(1,a),(2,n)] i Q)))
theorem yh(h : ∀g:fZ,ij x0 a H Q):fL Tryz.f19 0 [(0,x0),(1,a)] H Q:=uC re (by kernel_rfl) h
def eN(g:Nat->AV)(b p a c:AV)(H:aa)(Q:AV->aa->Prop):Prop:=
 de H 21 50 a λy=>
 eU 3 19 21 p y λA=>
 br (some A) (
 cH H 50 a p λo=>
 ad H 43 o λh=>
 aV true H 29 26 [h] λq j=>
 lA q λt=>
 br (some t) (
 cS 24 λl=>
 aC j 24 b l λu i=>
 aN i b 24 λn=>
 Q (.tup [n,(.v (.int .i64 8))]) i) (
 fY 3 23 1 p λl=>
  bS env Tryz.f19 0 jl [(4,b),(6,l),(1,a),(2,c)] j Q)) (
 aV true H 33 37 [a] λo j=>
 sN 3 33 2048 o λh=>
 gQ h false (an j 24 c) λq=>
 gW h false j (fg true j 37 33 [q]) λt i=>
 gQ h false (tn env.P 63 (some t) 0) λl=>
 gQ h false (tS 3 38 2147483647 l) λu=>
 dh h u λn=>
 br (some n) (
 cS 24 λf=>
 aC i 24 b f λk m=>
 aN m b 24 λe=>
 Q (.tup [e,(.v (.int .i64 9))]) m) (
 ad i 24 c λf=>
 aV true i 44 38 [f,a] λk m=>
 aV true m 45 6 [k] λe z=>
 aC z 24 b e λx w=>
 aN w b 24 λs=>
 Q (.tup [s,(.v (.int .i64 0))]) w))
theorem gh(b e a c:AV)(H:aa)(Q:AV->aa->Prop)(h : ∀g,eN g b e a c H Q):bS env Tryz.f19 0 jl [(4,b),(6,e),(1,a),(2,c)] H Q:=tG re (by kernel_rfl) h
def jN:=sL Tryz.f28 3
def rT:Nat->Option (List Nat):=λi=>cond (Nat.beq i 3) (some [12,5,11,2,1,10]) (none)
def sw:Prop:=
 dH H 5 24 x0 λf h=>
 dH h 9 43 b λm p=>
 dV p 10 24 λi e=>
 ad e 43 m λl=>
 ae 24 f 1 λj=>
 ad e 3 j λo=>
 aV true e 17 57 [l,o,d] λn k=>
  bS env Tryz.f28 0 jN [(12,(.v (.int .i64 0))),(5,f),(11,n),(2,c),(1,a),(10,i)] k Q
theorem zm(h : ∀g:fZ,sw x0 a c d b H Q):fL Tryz.f28 0 [(0,x0),(1,a),(2,c),(3,d),(4,b)] H Q:=uC rT (by kernel_rfl) h
def mi(g:Nat->AV)(e i h c a f:AV)(H:aa)(Q:AV->aa->Prop):Prop:=
 de H 20 79 h λt=>
 eU 3 18 20 e t λu=>
 br (some u) (
 ad H 24 i λl=>
 Gu 3 25 2048 a λn=>
 fQ 3 26 27 n c λm=>
 fQ 3 28 29 m e λw=>
 cH H 79 h e λv=>
 ad H 57 v λo=>
 aV false H 35 58 [l,w,o] λq j=>
 aC j 24 i q λp s=>
 fY 3 22 1 e λk=>
  bS env Tryz.f28 0 jN [(12,k),(5,i),(11,h),(2,c),(1,a),(10,f)] s Q) (
 ad H 24 i λl=>
 aC H 24 f l λn j=>
 aN j f 24 λm=>
 Q m j)
theorem pX(e j f c a i:AV)(H:aa)(Q:AV->aa->Prop)(h : ∀g,mi g e j f c a i H Q):bS env Tryz.f28 0 jN [(12,e),(5,j),(11,f),(2,c),(1,a),(10,i)] H Q:=tG rT (by kernel_rfl) h
def jO:=sL Tryz.f30 3
def rU:Nat->Option (List Nat):=λi=>cond (Nat.beq i 3) (some [11,10,2,1,4,3]) (none)
def sx:Prop:=
 dH H 4 24 x0 λf e=>
  bS env Tryz.f30 0 jO [(11,(.v (.int .i64 0))),(10,(.v (.slice none 0 0))),(2,c),(1,a),(4,f),(3,d)] e Q
theorem zn(h : ∀g:fZ,sx x0 a c d H Q):fL Tryz.f30 0 [(0,x0),(1,a),(2,c),(3,d)] H Q:=uC rU (by kernel_rfl) h
def cM(g:Nat->AV)(f e c a b d:AV)(H:aa)(Q:AV->aa->Prop):Prop:=
 de H 15 50 e λu=>
 eU 3 15 16 u d λv=>
 br (some v) (
 ad H 24 b λA=>
 de H 24 50 e λy=>
 fQ 3 22 24 c y λB=>
 fY 3 25 1 B λw=>
 aV true H 27 62 [A,a,f,w] λp s=>
 aQ p 0 λq=>
 aQ p 1 λo=>
 dV s 12 43 λh z=>
 aC z 43 h q λx i=>
 vF 3 30 0 o λj=>
 br (some j) (
 Q (.tup [e,f]) i) (
 ad i 43 h λk=>
 mw i 36 50 1 0 k λn C=>
 dC C 37 50 50 e n λl t=>
 fQ 3 38 39 f o λm=>
  bS env Tryz.f30 0 jO [(11,m),(10,l),(2,c),(1,a),(4,b),(3,d)] t Q)) (
 Q (.tup [e,f]) H)
theorem xu(e f c a b d:AV)(H:aa)(Q:AV->aa->Prop)(h : ∀g,cM g e f c a b d H Q):bS env Tryz.f30 0 jO [(11,e),(10,f),(2,c),(1,a),(4,b),(3,d)] H Q:=tG rU (by kernel_rfl) h
def lN:Prop:=
 dH H 1 24 x0 λu B=>
 dV B 2 63 λi s=>
 ad s 24 u λC=>
 aV true s 6 64 [C,(.v (.int .i64 0))] λz w=>
 dV w 3 63 λo E=>
 aC E 63 o z λG t=>
 ad t 24 u λF=>
 aV true t 8 64 [F,(.v (.int .i64 1))] λx A=>
 dV A 4 63 λn D=>
 aC D 63 n x λy h=>
 ae 63 o 0 λj=>
 ad h 3 j λl=>
 ae 63 n 0 λm=>
 ad h 3 m λq=>
 JS 3 10 12 l q λp=>
 br (some p) (
 ad h 63 o λe=>
 aC h 63 i e λk H9=>
 aN H9 i 63 λf=>
 Q f H9) (
 ad h 63 n λe=>
 aC h 63 i e λk H9=>
 aN H9 i 63 λf=>
 Q f H9)
theorem wG(h : ∀g:fZ,lN x0 H Q):fL Tryz.f33 0 [(0,x0)] H Q:=md (by kernel_rfl) h
def lL:Prop:=
 dH H 1 24 x0 λz F=>
 dV F 3 63 λj y=>
 ad y 24 z λG=>
 aV true y 9 33 [G] λD A=>
 dV A 5 63 λh I=>
 aC I 63 h D λL l=>
 ad l 24 z λK=>
 ae 63 h 0 λC=>
 ad l 3 C λE=>
 my 3 13 2 E λq=>
 C9 3 1 14 q λm=>
 ae 63 h 1 λp=>
 ad l 3 p λs=>
 aV true l 18 30 [K,m,(.v (.int .i64 0)),s] λi k=>
 aQ i 0 λe=>
 aQ i 1 λJ=>
 ad k 63 h λn=>
 de k 24 50 e λx=>
 ae 63 h 1 λf=>
 ad k 3 f λt=>
 uU 3 24 26 x t λo=>
 aC k 63 j n λB w=>
  qJ [(e,j),(f,j)] [j] [] w /\
 (aN w j 63 λu=>
 Q (.tup [e,u,o]) w)
theorem wF(h : ∀g:fZ,lL x0 H Q):fL Tryz.f34 0 [(0,x0)] H Q:=md (by kernel_rfl) h
def il:=sL Tryz.f37 3
def pA:Nat->Option (List Nat):=λi=>cond (Nat.beq i 3) (some [4,0,3]) (none)
def pH:Prop:=
 bS env Tryz.f37 0 il [(4,(.v (.int .i64 0))),(0,x0),(3,(.v (.int .i64 0)))] H Q
theorem wH(h : ∀g:fZ,pH x0 H Q):fL Tryz.f37 0 [(0,x0)] H Q:=uC pA (by kernel_rfl) h
def kN(g:Nat->AV)(b x0 d:AV)(H:aa)(Q:AV->aa->Prop):Prop:=
 de H 7 50 x0 λi=>
 eU 3 5 7 b i λk=>
 br (some k) (
 cH H 50 x0 b λf=>
 ad H 43 f λe=>
 aV true H 16 27 [e] λj h=>
 fQ 3 11 16 d j λm=>
 fY 3 9 1 b λl=>
  bS env Tryz.f37 0 il [(4,l),(0,x0),(3,m)] h Q) (
 Q d H)
theorem om(b x0 d:AV)(H:aa)(Q:AV->aa->Prop)(h : ∀g,kN g b x0 d H Q):bS env Tryz.f37 0 il [(4,b),(0,x0),(3,d)] H Q:=tG pA (by kernel_rfl) h
def jk:=sL Tryz.f38 5
def q9:Nat->Option (List Nat):=λi=>cond (Nat.beq i 5) (some [8,1,7,2,6,4]) (none)
def rp:Prop:=
 dH H 2 24 x0 λk t=>
 dV t 4 24 λy j=>
 ad j 24 k λu=>
 aV true j 10 33 [u] λo m=>
 dV m 5 63 λl x=>
 aC x 63 l o λA i=>
 ae 63 l 0 λz=>
 ad i 3 z λn=>
 fY 3 12 1 n λs=>
 de i 15 50 a λh=>
 qN 63 0 s 1 h λf=>
 dV i 6 63 λe q=>
 aC q 63 e f λp w=>
  bS env Tryz.f38 0 jk [(8,(.v (.int .i64 0))),(1,a),(7,(.v (.int .i64 0))),(2,k),(6,e),(4,y)] w Q
theorem yg(h : ∀g:fZ,rp x0 a H Q):fL Tryz.f38 0 [(0,x0),(1,a)] H Q:=uC q9 (by kernel_rfl) h
def lM(g:Nat->AV)(i a A c l b:AV)(H:aa)(Q:AV->aa->Prop):Prop:=
 de H 19 50 a λB=>
 eU 3 17 19 i B λC=>
 br (some C) (
 ad H 24 c λv=>
 ae 63 l 0 λu=>
 ad H 3 u λw=>
 my 3 25 2 w λt=>
 C9 3 1 26 t λz=>
 fY 3 29 1 i λn=>
 cH H 50 a i λp=>
 ad H 43 p λe=>
 aV false H 35 28 [v,z,A,n,e] λh q=>
 aC q 24 c h λf j=>
 cH j 50 a i λo=>
 ad j 43 o λy=>
 aV true j 41 27 [y] λs k=>
 fQ 3 36 41 A s λx=>
 fY 3 21 1 i λm=>
  bS env Tryz.f38 0 jk [(8,m),(1,a),(7,x),(2,c),(6,l),(4,b)] k Q) (
 ad H 24 c λv=>
 ae 63 l 0 λu=>
 ad H 3 u λw=>
 my 3 45 2 w λt=>
 C9 3 6144 46 t λz=>
 ad H 63 l λn=>
 aV false H 49 65 [n] λp q=>
 aV false q 50 58 [v,z,p] λe j=>
 aC j 24 b e λh k=>
 aN k b 24 λf=>
 Q f k)
theorem pq(e a f c i b:AV)(H:aa)(Q:AV->aa->Prop)(h : ∀g,lM g e a f c i b H Q):bS env Tryz.f38 0 jk [(8,e),(1,a),(7,f),(2,c),(6,i),(4,b)] H Q:=tG q9 (by kernel_rfl) h
def iP:=sL Tryz.f62 2
def qf:Nat->Option (List Nat):=λi=>cond (Nat.beq i 2) (some [8,10,3,2,1,4]) (none)
def qw:Prop:=
 dH H 4 24 x0 λh e=>
 dV e 8 43 λf i=>
  bS env Tryz.f62 0 iP [(8,f),(10,(.v (.int .i64 1))),(3,d),(2,c),(1,a),(4,h)] i Q
theorem xt(h : ∀g:fZ,qw x0 a c d H Q):fL Tryz.f62 0 [(0,x0),(1,a),(2,c),(3,d)] H Q:=uC qf (by kernel_rfl) h
def eA(g:Nat->AV)(l f d c a b:AV)(H:aa)(Q:AV->aa->Prop):Prop:=
 dL (bC env.P .leq 3 (Operand.tmp 14) (Operand.const (Value.int IntKind.i64 4)) (some f) (some (AV.v (Value.int IntKind.i64 4)))) λk=>
 gQ k true (bL c) λI=>
 gQ k true (bL f) λM=>
 gQ k true (OG 3 17 18 I M) λK=>
 gQ k true (z8 3 19 2048 K) λN=>
 cu k N λJ=>
 br (some J) (
 ad H 24 b λA=>
 aV true H 29 94 [A,a,c,f] λB o=>
 aV true o 30 93 [B] λj L=>
 aQ j 0 λz=>
 aQ j 1 λw=>
 aQ j 2 λq=>
 dV L 11 43 λi D=>
 dV D 12 108 λm O=>
 aC O 43 i z λG F=>
 aC F 108 m w λR n=>
 vF 3 34 0 q λe=>
 gQ e true (aw 108 m 1) λu=>
 gQ e true (an n 3 u) λp=>
 gQ e true (bL d) λs=>
 gQ e true (k7 3 38 39 p s) λy=>
 cu e y λx=>
 br (some x) (
 ad n 43 i λh=>
 aC n 43 l h λE C=>
 aN C l 43 λt=>
 Q (.tup [t,f]) C) (
 fY 3 22 1 f λh=>
  bS env Tryz.f62 0 iP [(8,l),(10,h),(3,d),(2,c),(1,a),(4,b)] n Q)) (
 cS 43 λA=>
 aC H 43 l A λB o=>
 aN o l 43 λj=>
 Q (.tup [j,(.v (.int .i64 0))]) o)
theorem fS(f e d c a b:AV)(H:aa)(Q:AV->aa->Prop)(h : ∀g,eA g f e d c a b H Q):bS env Tryz.f62 0 iP [(8,f),(10,e),(3,d),(2,c),(1,a),(4,b)] H Q:=tG qf (by kernel_rfl) h
def gB:Prop:=
 dH H 2 24 x0 λU S=>
 dV S 4 63 λn L=>
 ad L 24 U λX=>
 C9 3 6144 8 a λW=>
 aV true L 10 95 [X,W] λD K=>
 QY K 57 D λV=>
 aV false K 13 96 [V] λY M=>
 aaB M 57 D λO=>
 aV false M 16 96 [O] λR T=>
 qN 63 0 Y 1 R λC=>
 dV T 6 63 λh P=>
 aC P 63 h C λN l=>
 ae 63 h 0 λt=>
 ad l 3 t λF=>
 pU 3 19 1 F λi=>
 gQ i false (aw 63 h 0) λE=>
 gQ i false (an l 3 E) λp=>
 gQ i false (og 3 23 2147483648 p) λy=>
 dh i y λf=>
 gQ f false (aw 63 h 0) λu=>
 gQ f false (an l 3 u) λA=>
 gQ f false (aaL 3 28 2 A) λz=>
 gQ f false (bL a) λv=>
 gQ f false (BR 3 29 30 z v) λq=>
 dh f q λe=>
 gQ e false (an l 63 h) λx=>
 gW e false l (fg false l 35 65 [x]) λw m=>
 gQ e false (xS m 36 57 9 w) λJ=>
 gQ e false (bL D) λo=>
 gQ e false (xS m 38 57 9 o) λB=>
 gQ e false (BR 9 36 38 J B) λG=>
 dh e G λs=>
 br (some s) (
 cS 63 λj=>
 aC m 63 n j λI H9=>
 aN H9 n 63 λk=>
 Q k H9) (
 ad m 63 h λj=>
 aC m 63 n j λI H9=>
 aN H9 n 63 λk=>
 Q k H9)
theorem Ap(h : ∀g:fZ,gB x0 a H Q):fL Tryz.f64 0 [(0,x0),(1,a)] H Q:=md (by kernel_rfl) h
def qv:Prop:=
 dH H 1 63 x0 λf e=>
 ae 63 f 0 λT=>
 ad e 3 T λW=>
 rH 3 5 16777216 W λV=>
 cY e 7 3 5 V λX=>
 ae 63 f 0 λU=>
 ad e 3 U λY=>
 rH 3 9 65536 Y λO=>
 my 3 10 256 O λR=>
 cY e 12 3 5 R λF=>
 ae 63 f 0 λB=>
 ad e 3 B λl=>
 rH 3 14 256 l λo=>
 my 3 15 256 o λI=>
 cY e 17 3 5 I λy=>
 ae 63 f 0 λG=>
 ad e 3 G λj=>
 my 3 19 256 j λz=>
 cY e 21 3 5 z λk=>
 iE (lb env.P false true e (Ref.mk 0 22 (aa.gen e 0 22) 0) 57 5 (some [(0,(a8 77)),(1,X),(2,F),(3,y),(4,k)])) λp h=>
 ae 63 f 1 λD=>
 ad h 3 D λC=>
 rH 3 25 65536 C λq=>
 cY h 27 3 5 q λm=>
 ae 63 f 1 λu=>
 ad h 3 u λx=>
 rH 3 29 256 x λt=>
 my 3 30 256 t λL=>
 cY h 32 3 5 L λi=>
 ae 63 f 1 λE=>
 ad h 3 E λJ=>
 my 3 34 256 J λn=>
 cY h 36 3 5 n λs=>
 Mi h 37 57 3 0 m 1 i 2 s λK N=>
 dC N 38 57 57 p K λA M=>
 iE (dm env.P true M (Ref.mk 0 40 (aa.gen M 0 40) 0) (some 57) (some 3) A (.v (.int .i64 120))) λw S=>
 Q w S
theorem xr(h : ∀g:fZ,qv x0 H Q):fL Tryz.f65 0 [(0,x0)] H Q:=md (by kernel_rfl) h
def im:=sL Tryz.f94 3
def pB:Nat->Option (List Nat):=λi=>cond (Nat.beq i 3) (some [10,2,1,4,9,3]) (none)
def pI:Prop:=
 dH H 4 24 x0 λf e=>
  bS env Tryz.f94 0 im [(10,(.v (.int .i64 0))),(2,c),(1,a),(4,f),(9,(.v (.slice none 0 0))),(3,d)] e Q
theorem wI(h : ∀g:fZ,pI x0 a c d H Q):fL Tryz.f94 0 [(0,x0),(1,a),(2,c),(3,d)] H Q:=uC pB (by kernel_rfl) h
def iu(g:Nat->AV)(e c a b f d:AV)(H:aa)(Q:AV->aa->Prop):Prop:=
 eU 3 11 12 e d λo=>
 br (some o) (
 ad H 24 b λq=>
 Gu 3 18 2048 a λm=>
 fQ 3 19 20 m c λj=>
 fQ 3 21 22 j e λp=>
 aV true H 24 95 [q,p] λt n=>
 mw n 25 79 1 0 t λs l=>
 dC l 26 79 79 f s λi h=>
 fY 3 14 1 e λk=>
  bS env Tryz.f94 0 im [(10,k),(2,c),(1,a),(4,b),(9,i),(3,d)] h Q) (
 Q f H)
theorem oo(e c a b f d:AV)(H:aa)(Q:AV->aa->Prop)(h : ∀g,iu g e c a b f d H Q):bS env Tryz.f94 0 im [(10,e),(2,c),(1,a),(4,b),(9,f),(3,d)] H Q:=tG pB (by kernel_rfl) h
def ik:=sL Tryz.f96 3
def pz:Nat->Option (List Nat):=λi=>cond (Nat.beq i 3) (some [4,0,3]) (none)
def pG:Prop:=
 bS env Tryz.f96 0 ik [(4,(.v (.int .i64 0))),(0,x0),(3,(.v (.int .i64 0)))] H Q
theorem wE(h : ∀g:fZ,pG x0 H Q):fL Tryz.f96 0 [(0,x0)] H Q:=uC pz (by kernel_rfl) h
def kM(g:Nat->AV)(b x0 d:AV)(H:aa)(Q:AV->aa->Prop):Prop:=
 de H 7 57 x0 λi=>
 eU 3 5 7 b i λk=>
 br (some k) (
 pn 3 256 11 d λh=>
 cH H 57 x0 b λf=>
 ad H 5 f λj=>
 cY H 17 5 3 j λm=>
 fQ 3 12 17 h m λl=>
 fY 3 9 1 b λe=>
  bS env Tryz.f96 0 ik [(4,e),(0,x0),(3,l)] H Q) (
 Q d H)
theorem oh(b x0 d:AV)(H:aa)(Q:AV->aa->Prop)(h : ∀g,kM g b x0 d H Q):bS env Tryz.f96 0 ik [(4,b),(0,x0),(3,d)] H Q:=tG pz (by kernel_rfl) h
end
end Go.Proofs.YtmjkpdknicjjgaaGreat
