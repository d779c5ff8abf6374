/-
  One element put into an own row, whatever room the row has. No statement of a seat is proved here.
-/
import Derived.JoinedCond
import Derived.Test.YtmjkpdknicjjgaaGreatRows
import Derived.Test.YtmjkpdknicjjgaaGreatAbsRules
set_option linter.unusedVariables false
set_option linter.unusedSimpArgs false
set_option linter.unusedSectionVars false
set_option linter.unnecessarySimpa false
set_option maxRecDepth 1000000
set_option linter.defProp false
noncomputable section
namespace Go.Ab
def eT(es:List AV)(i:Nat)(v:AV):List AV:=es.take i++v :: es.drop i
@[simp] def Ai(es:List AV)(i:Nat)(v:AV)(h:i<=es.length):(eT es i v).length=es.length+1:=by
 simp[eT];omega
def PX(P:Program)(t:TypeId)(H:aa)(r:Ref)(n:Nat)(i:Int)(a:Ref)(b bv:aY)(v:AV)(z by':Nat):Prop:=
 H.get r=some b/\H.get a=some bv/\(cu P t).bind (aH P)=some z/\(cu P t).bind (gX P)=some by'/\bv.es=[v] /\
 b.arr=true/\bv.arr=true/\b.esz=z/\bv.esz=z/\1<z/\0<by'/\b.gB=false/\r≠a/\n=b.es.length/\0<=i/\i<n/\(n+1) * by'<=aG
def qM(sl:Nat)(H:aa)(r:Ref):Ref:=⟨r.d+1,sl,H.gen (r.d+1) sl,0⟩
def yp(sl:Nat)(H:aa)(r:Ref)(B:aY):aa:=(⟨r.d,r.t,H.gen r.d r.t,0⟩,some B) :: (qM sl H r,none) :: H.put r none
def qN(P:Program)(t:TypeId)(sl:Nat)(args:List AV)(H:aa):cJ:=match args with
 | [.bA r 0 n none,.v (.int .i64 i),.bA a 0 1 c]=>(match H.get r,H.get a,(cu P t).bind (aH P),(cu P t).bind (gX P) with
  | some b,some bv,some z,some by'=>(match bv.es with
   | [v]=>if b.arr=true/\bv.arr=true/\b.esz=z/\bv.esz=z/\1<z/\0<by'/\b.gB=false/\r≠a/\n=b.es.length/\0<=i/\i<n/\(n+1) * by'<=aG then
    some (.bA ⟨r.d,r.t,H.gen r.d r.t,0⟩ 0 (n+1) none,yp sl H r { b with es:=eT b.es i.toNat v}) else none
   | _=>none)
  | _,_,_,_=>none)
 | _=>none
def J3{P:Program}{t:TypeId}{sl:Nat}{args:List AV}{H H':aa}{y:AV}(h:qN P t sl args H=some (y,H')) :
 ∃r n i a c b bv v z by',args=[.bA r 0 n none,.v (.int .i64 i),.bA a 0 1 c]/\PX P t H r n i a b bv v z by' /\
  y = .bA ⟨r.d,r.t,H.gen r.d r.t,0⟩ 0 (n+1) none/\H'=yp sl H r { b with es:=eT b.es i.toNat v}:=by
 unfold qN at h;split at h
 ·rename_i r n i a c;split at h
  ·rename_i b bv z by' l f e k;split at h;·rename_i v j;obtain⟨g,h⟩:=eQ.1 h;cases h;exact⟨r,n,i,a,c,b,bv,v,z,by',rfl,⟨l,f,e,k,j,g⟩,rfl,rfl⟩
   cases h
  cases h
 cases h
def qO(sl:Nat){H:aa}{r:Ref}{B:aY}(q:Ref)(a:H.get (qM sl H r)=none):(yp sl H r B).get q=if (⟨r.d,r.t,H.gen r.d r.t,0⟩:Ref)=q then some B else if q=r then none else H.get q:=by
 unfold yp;rw[aa.bS,aa.bS,aa.ab];split;·rfl
 split
 ·rename_i e;rw[<-e];split;·rfl
  exact a.symm
 rfl
def UY(sl:Nat){H:aa}{r:Ref}{B:aY}(c:(H.get r).isSome=true)(d t:Nat):H.gen d t<=(yp sl H r B).gen d t/\(r.d=d/\r.t=t->H.gen d t<(yp sl H r B).gen d t)/\(r.d+1=d/\sl=t->H.gen d t<(yp sl H r B).gen d t):=by
 unfold yp;rw[aa.n8,aa.n8,aa.dK _ _ _ c];unfold qM;simp only;by_cases a:r.d=d/\r.t=t;·obtain⟨rfl,rfl⟩:=a;rw[if_pos ⟨rfl,rfl⟩];exact⟨by omega,λ_=>by omega,λh=>by omega⟩
 rw[if_neg a];by_cases b:r.d+1=d/\sl=t;·obtain⟨rfl,rfl⟩:=b;rw[if_pos ⟨rfl,rfl⟩];exact⟨by omega,λh=>absurd h a,λ_=>by omega⟩
 rw[if_neg b];exact⟨by omega,λh=>absurd h a,λh=>absurd h b⟩
def Gq{M:Mem}{ι:Map}{H F:aa}{w w':World}{r x:Ref}{sl n:Nat}{c:Option Nat}{B:aY}{u:Value}(hD:rN ι H)(hr:(H.get r).isSome=true)(E:r.g<H.gen r.d r.t)(Y:H.get (qM sl H r)=none)
 (C : ∀q,F.get q=if q=x then some B else H.get q) (L:x=r\/H.get x=none)
 (D : ∀d t,F.gen d t<=H.gen d t\/(r.d+1=d/\sl=t/\F.gen d t<=H.gen d t+1))
 (hW:oA M ι H w (.bA x 0 n c) F u w'):oA M ι H w (.bA ⟨r.d,r.t,H.gen r.d r.t,0⟩ 0 n none) (yp sl H r B) u w':=by
 obtain⟨M',o,hv,I,s,Q⟩:=hW;obtain⟨b,j⟩ : ∃b:Ref,b=⟨r.d,r.t,H.gen r.d r.t,0⟩:=⟨_,rfl⟩;have hgr:F.gen r.d r.t<=H.gen r.d r.t:=by
  rcases D r.d r.t with h | ⟨h,_⟩
  ·exact h
  omega
 have W:o b=none:=by
  cases h:o b with| none=>rfl| some l=>have:=Q b l h;rw[j]at this;simp only at this;omega
 have hn1:ι b=none:=by
  cases h:ι b with| none=>rfl| some l=>have:=hD b l h;rw[j]at this;simp only at this;omega
 have hqr:b≠r:=by
  intro e;rw[<-e]at E;rw[j]at E;simp only at E;omega
 have z:F.get x=some B:=by rw[C x,if_pos rfl]
 have hB:=I.live x B z;obtain⟨G,A,R⟩:=hB;have y : ∀q l,o q=some l->iq o b G q=some l:=by
  intro q l h;unfold iq;split;·rename_i e;rw[e,W]at h;cases h
  exact h
 have p : ∀q k,q≠b->(yp sl H r B).get q=some k->F.get q=some k/\q≠x:=by
  intro q k i h;rw[qO sl q Y,<-j,if_neg (λe=>i e.symm)]at h;split at h;·cases h
  rename_i K;have S:q≠x:=by
   intro e;rcases L with L | L
   ·exact K (e.trans L)
   rw[e,L]at h;cases h
  exact⟨by rw[C q,if_neg S];exact h,S⟩
 have O : ∀k,(yp sl H r B).get b=some k->k=B:=by
  intro k h;rw[qO sl b Y,<-j,if_pos rfl]at h;exact(Fq h).symm
 rw[<-j];refine⟨M',iq o b G,?_,⟨I.mem,?_,?_⟩,⟨s.os,s.tape,s.output,s.size,s.chg,s.mem,λq l h=>y q l (s.map q l h),?_,s.new⟩,?_⟩
 ·cases hv with | bA P U T ha hc hn hk X=>
  rw[A]at P;cases P;exact .bA (by simp[iq]) U T ha hc hn (λk hk=>by cases hk) X
 ·intro q k h;by_cases i:q=b;·subst i;have:=O k h;subst this;exact⟨G,by simp[iq],R.bk (λ_ _ _ h=>h) y rfl R.frozen⟩
  obtain⟨v,_⟩:=p q k i h;obtain⟨l,a,hb⟩:=I.live q k v;exact⟨l,y q l a,hb.bk (λ_ _ _ h=>h) y rfl hb.frozen⟩
 ·intro q J k k' l l' h h' a f e;by_cases i:q=b
  ·by_cases m:J=b;·rw[i,m]
   exfalso;obtain⟨v,N⟩:=p J k' m h';rw[i]at a;simp only[iq,if_true]at a;cases a;unfold iq at f;rw[if_neg m]at f;exact N (I.inj x J B k' G l' z v A f e).symm
  obtain⟨v,N⟩:=p q k i h;unfold iq at a;rw[if_neg i]at a;by_cases m:J=b;·exfalso;rw[m]at f;simp only[iq,if_true]at f;cases f;exact N (I.inj q x k B l G v z a A e)
  obtain⟨Z,_⟩:=p J k' m h';unfold iq at f;rw[if_neg m]at f;exact I.inj q J k k' l l' v Z a f e
 ·intro q k l h a;by_cases i:q=b;·rw[i]at a;simp only[iq,if_true]at a;cases a;exact s.live x B G z A
  obtain⟨v,_⟩:=p q k i h;unfold iq at a;rw[if_neg i]at a;exact s.live q k l v a
 intro q l a;obtain⟨g1,g2,g3⟩:=UY (B:=B) sl hr q.d q.t;by_cases i:q=b
 ·have V:r.d=q.d/\r.t=q.t:=by rw[i,j];exact⟨rfl,rfl⟩
  have e2:q.g=H.gen q.d q.t:=(by rw[<-V.1,<-V.2,i,j]);rw[e2];exact g2 V
 unfold iq at a;rw[if_neg i]at a;have:=Q q l a;rcases D q.d q.t with h | ⟨v,N,Z⟩
 ·omega
 have:=g3 ⟨v,N⟩;omega
def Oh{P:Program}{t:TypeId}{sl:Nat}{f:FuncId}{args:List AV}{H H':aa}{y:AV}(hf : ∃fn,P.funcs[f]?=some fn/\(fn.name == "runtime.NumGoroutine")=false/\fn.body.isSome=true)
 (K : ∀(r D:Ref)(n:Nat)(i:Int)(L:Option Nat)(b bv:aY)(v:AV)(z by' c:Nat),PX P t H r n i D b bv v z by'->n<=c->H.get (qM sl H r)=none->r.g<H.gen r.d r.t ->
  ∃O N,il P (.fn f) [.bA r 0 n (some c),.v (.int .i64 i),.bA D 0 1 L] H O N /\
   (
    (O = .bA r 0 (n+1) (some c)/\N=H.put r (some { b with es:=eT b.es i.toNat v})) \/
    (O = .bA (qM sl H r) 0 (n+1) none/\N=(qM sl H r,some { b with es:=eT b.es i.toNat v}) :: H)))
 (h:qN P t sl args H=some (y,H')):il P (.fn f) args H y H':=by
 obtain⟨r,n,i,D,L,b,bv,v,z,by',rfl,J,rfl,rfl⟩:=J3 h;refine⟨hf,λM ι w us U E R=>?_⟩;obtain⟨hlen,m⟩:=R;match us,hlen,m with
 | [u1,u2,u3],hlen,m=>
 have V:=m 0 _ u1 rfl rfl;have W:=J.1;have o:H.get (qM sl H r)=none:=by
  cases Z:H.get (qM sl H r) with| none=>rfl| some k=>obtain⟨l,F,_⟩:=U.live _ _ Z;have:=E.fresh (r.d+1) sl 0;unfold qM at F;rw[this]at F;cases F
 have B:r.g<H.gen r.d r.t:=by
  obtain⟨l,F,_⟩:=U.live _ _ W;exact E r l F
 cases V with | bA hr S Q ha Y hn X T=>
 rename_i l a c;have G:VR M ι (.bA r 0 n (some c)) (.slice (some a) n c) := .bA hr S Q ha Y hn (λk X=>by cases X;rfl) T;obtain⟨O,N,⟨_,hT⟩,s⟩:=K r D n i L b bv v z by' c J Y o B;have I:lI M ι [.bA r 0 n (some c),.v (.int .i64 i),.bA D 0 1 L] [.slice (some a) n c,u2,u3]:=by
  refine⟨rfl,λj x u p A=>?_⟩;match j,p,A with
  | 0,p,A=>cases p;cases A;exact G
  | 1,p,A=>exact m 1 x u p A
  | 2,p,A=>exact m 2 x u p A
 refine(hT M ι w _ U E I).mono λe w' ⟨u,he,hW⟩=>⟨u,he,?_⟩;have C:(H.get r).isSome=true:=by rw[W];rfl
 rcases s with ⟨rfl,rfl⟩ | ⟨rfl,rfl⟩
 ·refine Gq E C B o (x:=r) (λq=>by rw[aa.ab]) (.inl rfl) (λd t => .inl (by rw[aa.dK _ _ _ C];exact bg _)) hW
 refine Gq E C B o (x:=qM sl H r) (λq=>?_) (.inr o) (λd t=>?_) hW
 ·rw[aa.bS];by_cases e:qM sl H r=q;·rw[if_pos e,if_pos e.symm]
  rw[if_neg e,if_neg (λh=>e h.symm)]
 rw[aa.n8];unfold qM;simp only;split;·rename_i h;exact .inr ⟨h.1,h.2,by rw[<-h.1,<-h.2];omega⟩
 exact .inl (bg _)
def MG{P:Program}{t t':TypeId}(A:oc P t=true)(j:isInt P t'=true)(C:(eM P t).cells.all AV.one=true){H:aa}{r q:Ref}{b:aY}(G:H.get q=some b)(s:b.esz=jm P t)(o:b.arr=true)(a i c n:Nat)(hi:a+i<=b.es.length)(M:c<i+n)(E:(n:Int)<=aG)(F:0<n)(D:(i+n) * nK P t<=aG) :
 dm P true H r (some t) (some t') (.bA q a i (some c)) (aI n)=some (.bA r 0 (i+n) none,({ r with k:=0},some ⟨jm P t,(b.es.drop a).take i++List.replicate n (eM P t),true,false⟩) :: H):=by
 unfold oc at A;obtain⟨e,zz,y,x,J,p,u,N,B,v⟩:=fB A;have K:eM P t=zz:=by unfold eM;rw[y,dX,p];rfl
 rw[K]at C ⊢;have m:(P.underlying t').isNone=false:=by
  unfold isInt at j;cases h:P.underlying t' with
  | none=>rw[h]at j;cases j
  | some d=>rfl
 have l : ¬((P.underlying t').isNone=true\/isInt P t'≠isNum (aI n)):=by rw[m,j];simp[isNum]
 have hd : ¬(jm P t≠jm P t\/jm P t=0\/nK P t=0\/zz.cells.length≠jm P t):=by simp[u,B,v]
 have g:md P H.get e (aI n)=some (jm P t,List.replicate n zz):=by
  show(match eP P e,aH P e with | some w,some z=>if 0<=(n:Int)/\(n:Int)<=aG/\w.cells.length=z/\w.cells.all AV.one then some (z,List.replicate (n:Int).toNat w) else none | _,_=>none)=_;rw[p,x];exact if_pos ⟨by omega,E,by simp[u,B,v],C⟩
 have I : ¬(b.esz≠jm P t\/b.arr=false):=by simp[s,o]
 have L:List.replicate n zz≠[]:=by
  intro h;have:=iQf List.length h;simp only[AA,k8]at this;omega
 have f:a+i<=b.es.length/\c<i+n/\(i+n) * nK P t<=aG:=⟨hi,M,D⟩;simp only[dm,ei,dX,y,Option.map_some,cb,if_neg l,x,J,p,g,if_neg hd,if_neg L,G,if_neg I,AA,if_pos f];rfl
def RF{es:List AV}{i n:Nat}(a:n=es.length)(hi:i<n)(v:AV) :
 (es.take (i+1)++(es.drop i).take (n - i)++es.drop (i+1+(n - i))).take i++[v]++(es.take (i+1)++(es.drop i).take (n - i)++es.drop (i+1+(n - i))).drop (i+1)=eT es i v:=by
 subst a;have d:(es.drop i).take (es.length - i)=es.drop i:=cN (by simp);have b:es.drop (i+1+(es.length - i))=[]:=wF (by omega);have f:(es.take (i+1)).length=i+1:=by rw[j7];omega
 rw[d,b,oD];have c:(es.take (i+1)++es.drop i).take i=es.take i:=by
  rw[Kx (by omega),iQO,Ay (by omega)]
 have e:(es.take (i+1)++es.drop i).drop (i+1)=es.drop i:=by
  rw[List.drop_append_of_le_length (by omega),wF (by omega),o4]
 rw[c,e];simp[eT]
def RG{es:List AV}{i n:Nat}(b:n=es.length)(hi:i<n)(v z:AV) :
 ((
  es.take i++List.replicate (n+1 - i) z).take i++[v]++(es.take i++List.replicate (n+1 - i) z).drop (i+1)).take (i+1)++(es.drop i).take (n - i) ++
  ((es.take i++List.replicate (n+1 - i) z).take i++[v]++(es.take i++List.replicate (n+1 - i) z).drop (i+1)).drop (i+1+(n - i))=eT es i v:=by
 subst b;have e:(es.drop i).take (es.length - i)=es.drop i:=cN (by simp);have f:(es.take i).length=i:=by rw[j7];omega
 have c:(es.take i++List.replicate (es.length+1 - i) z).take i=es.take i:=by
  rw[Kx (by omega),iQO,iQV]
 rw[e,c];have a:(es.take i++[v]++(es.take i++List.replicate (es.length+1 - i) z).drop (i+1)).take (i+1)=es.take i++[v]:=by
  rw[Kx (by simp;omega),cN (by simp;omega)]
 have d:(es.take i++[v]++(es.take i++List.replicate (es.length+1 - i) z).drop (i+1)).drop (i+1+(es.length - i))=[]:=by
  apply wF;simp;omega
 rw[a,d];simp[eT]
def Xt(H:aa)(r:Ref)(a b:Option aY):(H.put r a).put r b=H.put r b:=by
 induction H with| nil=>simp[aa.put]| cons p H c=>
  obtain⟨q,x⟩:=p;by_cases h:q=r;·simp[aa.put,h]
  simp[aa.put,h,c]
def IK{E:Env}{ok:Array Oper->Bool}(a:E.Ok ok){f:FuncId}{args:List AV}{y:AV}(h:ay E f args=some y):ja E.P f args y:=by
 obtain⟨n,b⟩:=tM.1 h;exact Qd a (b n (bg n))
def Pt(E:Env)(a:FuncId->List AV->Option AV)(d:Oper->Bool:=λ_=>false):Env := { E with spec:=a,deep:=d}
def Tf{P:Program}{l bk jE:List FuncId}{strict:Oper->Bool}{apart:Array Oper->List (Tmp × Tmp)}{gB:Oper->Bool}{EL:List (FuncId × List AV × AV)}{wide:Oper->Bool}{qC:FuncId->Option TypeId}{thrSpec:FuncId->List AV->aa->Option (AV × aa)}{sm:ML}{sp:FuncId->List AV->Option AV}{d:Oper->Bool}
 (hspec : ∀f args y,sp f args=some y->ja P f args y) (hm:P.follows .mixedOrders=true) (h0:Ep (uM P l bk jE strict apart gB) l=true) (hover : ∀f t,qC f=some t->wi P f t) (hthr : ∀f args H y H',thrSpec f args H=some (y,H')->il P (.fn f) args H y H') :
 (Pt (uM P l bk jE strict apart gB EL wide qC thrSpec sm) sp d).Ok (zJ (Pt (uM P l bk jE strict apart gB EL wide qC thrSpec sm) sp d)) where
 fns:=by
  intro f hf;have h:Ep (uM P l bk jE strict apart gB EL) l=true:=h0;have hf':f∈l:=by simpa [uM,Pt] using hf
  have:=dY.1 h f hf';split at this;·rename_i fn hfn;simp only[bt,gz]at this;refine⟨fn,hfn,this.1,λc hc=>?_⟩;have h2:=this.2;rw[hc]at h2;exact h2
  cases this
 specs:=λf args y h=>hspec f args y h
 same:=rfl
 overs:=hover
 thrs:=hthr
 draws:=λops hok _ hpc _ htc nt dep id st st' M ι a w ro Q hr hap hO hQ=>by
  rcases Fv.1 hok with h1 | h1
  ·exact Mj hm h1 hpc htc hr hO hQ
  exact Ml hm h1 hpc htc hr hap hO hQ
def WG(a:List (Nat × Nat × Nat))(o:Oper):Bool:=match o.dst with
 | some d=>(match o.op with
  | .buildSlice t _ _=>a.any λ(x,y,z)=>Nat.beq x d&&Nat.beq y t&&Nat.beq z 99999
  | .call c=>(match c.callee,c.argTypes[0]? with
   | .builtin .append,some t=>a.any λ(x,y,z)=>Nat.beq x d&&Nat.beq y t&&Nat.beq z 99999
   | _,_=>false)
  | _=>false)
 | none=>false
end Go.Ab
namespace Go.Ab
open Go.ChangeShapes Go.WideShapes Go.RowKit
inductive tx (N:Nat):AV->Prop
 | v (x:Value):tx N (.v x)
 | agg (xs:List AV):(∀x∈xs,tx N x)->tx N (.agg xs)
 | bq (z:Nat) (es:List AV) (c:Option Nat):es.length<=N->(∀x∈es,tx N x)->tx N (.bq z es c)
def Pv{N:Nat}(y:Value) : ∀x∈[AV.v y],tx N x:=by
 intro x a;rw[k9]at a;subst a;exact .v _
def QH{N:Nat}{b:Bool}{a:List AV}(h : ∀x∈a,tx N x):tx N (HY b a):=by
 unfold HY;split;·exact h _ (by simp)
 exact .agg _ h
def tx.sl{N z:Nat}{es:List AV}{x:AV}(h:tx N x)(a:Sl z es x):es.length<=N /\∀e∈es,tx N e:=by
 rcases a with ⟨_,rfl⟩ | ⟨c,rfl,_⟩
 ·exact⟨s8 _,λe d=>by cases d⟩
 cases h with| bq _ _ _ f b=>exact⟨f,b⟩
def tx.parts{N:Nat}{a:List AV}(h:tx N (.agg a)) : ∀x∈a,tx N x:=by
 cases h with| agg _ h=>exact h
section
variable{H:Type}{enc:TypeId × Value->H}{P:Program}{w:World}{g:Nat}{A:Nat->Bool}{B:Bool}{u:DataW H->Nat}{N:Nat}
def LB(hs : ∀es sp,es.length<=u (.slice es sp) /\∀d∈es,u d<=u (.slice es sp))(ha : ∀ps,∀d∈ps,u d<=u (.agg ps)) : ∀(n m:Nat)(t:TypeId)(cs:List Value)(d:DataW H)(ps:List MemPlace),plain P m t=true->DataW.trod enc P w g A B n t cs=some (d,ps)->u d<=N ->
 ∃p:List AV,(C6 P m t p /\∀x∈p,tx N x)/\lI (uH w) dC p cs:=by
 intro n;induction n with
 | zero=>intro m t cs d ps _ h _;simp[DataW.trod]at h
 | succ n ih=>
  intro m t cs d ps hp h hN;cases m with
  | zero=>simp[plain]at hp
  | succ m=>
  have hp0:=hp;unfold plain at hp;unfold C6;cases hu:P.underlying t with
  | none=>rw[hu]at hp;simp at hp
  | some dd=>
   rw[hu]at hp;unfold DataW.trod at h;rw[hu]at h;have C : ∀ {x:AV} {c:Value},VR (uH w) dC x c->lI (uH w) dC [x] [c]:=λh=>lI.cons h lI.nil;cases dd<;>dsimp only at hp ⊢ <;> try (simp at hp;done)
   ·rcases cs with _ | ⟨c,_ | ⟨c',cs⟩⟩
    ·simp at h
    ·cases c<;>first | (simp at h;done) | skip
     rename_i b;exact⟨[aB b],⟨⟨b,rfl⟩,Pv _⟩,C (.v rfl)⟩
    simp at h
   ·rename_i k;rcases cs with _ | ⟨c,_ | ⟨c',cs⟩⟩
    ·simp at h
    ·cases c<;>first | (simp at h;done) | skip
     rename_i k' i;dsimp only at h;split at h;·rename_i hk;obtain⟨rfl,hw⟩:=hk;exact⟨[.v (.int k' i)],⟨⟨i,by simpa [Lit.wf] using hw,rfl⟩,Pv _⟩,C (.v rfl)⟩
     cases h
    simp at h
   ·rcases cs with _ | ⟨c,_ | ⟨c',cs⟩⟩
    ·simp at h
    ·cases c<;>first | (simp at h;done) | skip
     rename_i s;exact⟨[aS s],⟨⟨s,rfl⟩,Pv _⟩,C (.v rfl)⟩
    simp at h
   ·rename_i e;simp only[bt,iQl,iQb]at hp;rcases cs with _ | ⟨c,_ | ⟨c',cs⟩⟩
    ·simp at h
    ·cases c<;>first | (simp at h;done) | skip
     rename_i a len cap;cases a with
     | none=>have hlc:len=0/\cap=0:=(by cases len<;>cases cap<;>simp at h ⊢);obtain⟨rfl,rfl⟩:=hlc;exact⟨[aO],⟨.inl rfl,Pv _⟩,C (.v rfl)⟩
     | some a=>
      dsimp only at h;split at h
      ·rename_i hb;simp only[iz,bG]at h;obtain⟨elems,hel,rest,_,hd⟩:=h;have hd1:=(Prod.mk.inj hd).1;subst hd1;obtain⟨w1,w2⟩:=hs (elems.map (·.1)) (rest.map (·.1));rw[zg]at w1;have hlen:elems.length=len:=by simpa using gK hel
       have each : ∀i,i<len ->∃(p:List AV) (D:List Value),(C6 P m e p /\∀x∈p,tx N x)/\lI (uH w) dC p D/\w.cells? g (a.add (i * P.cellsOf e)) (P.cellsOf e)=some D:=(by intro i hi;obtain⟨y,I,O⟩:=lE hel i i (by simp[hi]);simp only[iz]at O;obtain⟨D,hvs,O⟩:=O;obtain⟨p,F,J⟩:=ih m e D y.1 y.2 hp.1.2 O (vj (w2 _ (Fw (fZ I))) hN);exact⟨p,D,F,J,hvs⟩);have : ∀k,k<=len ->∃es:List (List AV),es.length=k /\∀i p,es[i]?=some p ->∃D:List Value,(C6 P m e p /\∀x∈p,tx N x)/\lI (uH w) dC p D/\w.cells? g (a.add (i * P.cellsOf e)) (P.cellsOf e)=some D:=by
        intro k;induction k with
        | zero=>intro _;exact⟨[],rfl,λi p h=>by simp at h⟩
        | succ k ihk=>
         intro hk;obtain⟨es,F,J⟩:=ihk (by omega);obtain⟨p,D,h3⟩:=each k (by omega);refine⟨es++[p],by simp[F],λi ys I=>?_⟩;rcases eU i k with hi | hi
         ·rw[jG (by omega)]at I;exact J i ys I
         have:i=k:=(by have:=(dT.1 I).1;simp[F]at this;omega);subst this;rw[ic (by omega)]at I;simp[F]at I;subst I;exact⟨D,h3⟩
       obtain⟨es,hes,E⟩:=this len (bg _);have V : ∀p∈es,(HY ((eI P e).getD false) p).cells=p/\p.length=P.cellsOf e:=(by intro p q;obtain⟨i,hi,rfl⟩:=o5 q;obtain⟨D,F,J,h3⟩:=E i es[i] (de hi);obtain⟨Z,h5⟩:=F.1.facts m e _ hp.1.2;exact⟨Oa h5,Z⟩);refine⟨[.bq (P.cellsOf e) (es.map (HY ((eI P e).getD false))) none],⟨.inr ⟨es,rfl,λp q=>?_⟩,?_⟩,C ?_⟩;·obtain⟨i,hi,rfl⟩:=o5 q;obtain⟨D,F,_⟩:=E i es[i] (de hi);exact F.1
       ·intro x K;rw[k9]at K;subst K;refine .bq _ _ _ (by rw[zg];omega) λy I=>?_;obtain⟨p,q,rfl⟩:=j6.1 I;obtain⟨i,hi,rfl⟩:=o5 q;obtain⟨D,F,_⟩:=E i es[i] (de hi);exact QH F.2
       have hlm:(es.map (HY ((eI P e).getD false))).length=len:=(by simp[hes]);have L : ∀i j,i<len->j<P.cellsOf e ->∃p D,es[i]?=some p/\lI (uH w) dC p D/\(∀x∈p,x.one=true)/\p.length=P.cellsOf e/\uH w a.block (a.off+(i * P.cellsOf e+j))=D[j]?/\(a.spot=none):=by
        intro i j hi X;have hi':i<es.length:=by omega
        obtain⟨D,F,J,h3⟩:=E i es[i] (de hi');obtain⟨Z,h5⟩:=F.1.facts m e _ hp.1.2;obtain⟨hb',hvl,hc⟩:=World.cells?_some h3;have hj':=hc j X;have hsp:a.spot=none:=by
         obtain⟨vs0,g1,g2,g3⟩:=E 0 es[0] (de (by omega));obtain⟨_,hvl0,hc0⟩:=World.cells?_some g3;have:=hc0 0 hp.2;rw[Nat.zero_mul]at this;have ha0:(a.add 0).add 0=a:=by simp[Addr.add]
         rw[ha0]at this;unfold World.cell? at this;cases hs:a.spot with
         | none=>rfl
         | some z=>
          exfalso;have hl0:0<vs0.length:=by omega
          rw[de hl0]at this;split at this;·rw[hs]at this;simp at this
          simp at this
        refine⟨es[i],D,de hi',J,h5,Z,?_,hsp⟩;rw[<-hj'];unfold uH;congr 1;rw[kf hsp,gP,gP,Fp]
       have:=VR.bq (M:=uH w) (ι:=dC) (esz:=P.cellsOf e) (es:=es.map (HY ((eI P e).getD false))) (cap:=none) (a:=a) (c:=cap)
        (λi j=>(uH w a.block (a.off+(i * P.cellsOf e+j))).getD Go.undef) ?_ (by rw[hlm];exact hb.2.1) (λk hk=>by cases hk) ?_ ?_ ?_
       ·rw[hlm]at this;exact this
       ·rcases Dc len with h0 | h0
        ·right;have:es=[]:=by apply yG;omega
         simp[this]
        left;obtain⟨_,_,_,_,_,_,_,hs⟩:=L 0 0 h0 hp.2;exact hs
       ·intro i j hi X;rw[hlm]at hi;obtain⟨p,D,F,J,h3,Z,h5,_⟩:=L i j hi X;have R:j<D.length:=by rw[<-J.1,Z];exact X
        have hjx:j<p.length:=by rw[Z];exact X
        rw[h5,de R];refine⟨rfl,?_⟩;have:=J.2 j p[j] D[j] (de hjx) (de R);exact this.one (h3 _ (eO ..))
       ·intro x K;obtain⟨p,q,rfl⟩:=j6.1 K;rw[(V p q).1];exact(V p q).2
       intro i j x c K hc;rw[kR,bG]at K;obtain⟨p,q,rfl⟩:=K;have Y:p∈es:=fZ q;rw[(V p Y).1]at hc;have hi:i<len:=by have:=(dT.1 q).1;omega
       have X:j<P.cellsOf e:=by have:=(dT.1 hc).1;rw[(V p Y).2]at this;exact this
       obtain⟨xs',D,F,J,h3,Z,h5,_⟩:=L i j hi X;rw[q]at F;cases F;have R:j<D.length:=by rw[<-J.1,Z];exact X
       show VR _ _ c ((uH w a.block (a.off+(i * P.cellsOf e+j))).getD Go.undef);rw[h5,de R];exact J.2 j c D[j] hc (de R)
      cases h
    simp at h
   ·rename_i k e;simp only[bt,iQl]at hp;have h:cs.length=P.cellsOf t /\∃p,((List.range k).mapM λi=>DataW.trod enc P w g A B n e ((cs.drop (i * P.cellsOf e)).take (P.cellsOf e)))=some p/\d = .agg (p.map (·.1)):=by
     dsimp only at h;split at h;·rename_i W;simp only[bG]at h;obtain⟨p,q,hd⟩:=h;exact⟨W,p,q,(Prod.mk.inj hd).1.symm⟩
     cases h
    obtain⟨W,ys,hys,hd⟩:=h;subst hd;have hwy : ∀y∈ys,u y.1<=N:=λy I=>vj (ha _ _ (Fw I)) hN;rw[hp.2]at W;have : ∀(k' T:Nat),T+k'=k ->∃p,(MK (C6 P m e) k' p /\∀x∈p,tx N x)/\lI (uH w) dC p (cs.drop (T * P.cellsOf e)):=by
     intro k';induction k' with
     | zero=>intro T hi;refine⟨[],⟨rfl,λx K=>by cases K⟩,?_⟩;rw[wF (by rw[W,<-hi];simp)];exact lI.nil
     | succ k' ihk=>
      intro T hi;obtain⟨b,S,hb2⟩:=ihk (T+1) (by omega);obtain⟨y,hym,O⟩:=lE hys T T (by rw[D2 (by omega)]);obtain⟨a,Q,U⟩:=ih m e _ y.1 y.2 hp.1 O (hwy _ (fZ hym));refine⟨a++b,⟨⟨a,b,rfl,Q.1,S.1⟩,λx K=>(kQ.1 K).elim (Q.2 x) (S.2 x)⟩,?_⟩;have:cs.drop (T * P.cellsOf e)=(cs.drop (T * P.cellsOf e)).take (P.cellsOf e)++cs.drop ((T+1) * P.cellsOf e):=by
       rw[Fm,<-oC,AB]
      rw[this];exact U.append hb2
    obtain⟨p,F,J⟩:=this k 0 (by omega);exact⟨p,F,by simpa using J⟩
   rename_i fs;simp only[bt,iQl,dY]at hp;have h:cs.length=P.cellsOf t /\∃p,(fs.toList.mapM λf=>DataW.trod enc P w g A B n f.type ((cs.drop f.offset).take (P.cellsOf f.type)))=some p/\d = .agg (p.map (·.1)):=by
    dsimp only at h;split at h;·rename_i W;simp only[bG]at h;obtain⟨p,q,hd⟩:=h;exact⟨W,p,q,(Prod.mk.inj hd).1.symm⟩
    cases h
   obtain⟨W,ys,hys,hd⟩:=h;subst hd;have hwy : ∀y∈ys,u y.1<=N:=λy I=>vj (ha _ _ (Fw I)) hN;have : ∀(l:List Field)(o:Nat),(∀f∈l,plain P m f.type=true)->(∀f∈l,∃y,u y.1<=N/\DataW.trod enc P w g A B n f.type ((cs.drop f.offset).take (P.cellsOf f.type))=some y)->layout P l o=some cs.length ->
    ∃p,(VP (C6 P m) l p /\∀x∈p,tx N x)/\lI (uH w) dC p (cs.drop o):=by
    intro l;induction l with
    | nil=>intro o _ _ G;simp[layout]at G;refine⟨[],⟨rfl,λx K=>by cases K⟩,?_⟩;rw[wF (by omega)];exact lI.nil
    | cons f l ihl=>
     intro o hpl htr G;unfold layout at G;split at G
     ·rename_i ho;obtain⟨b,S,hb2⟩:=ihl (o+P.cellsOf f.type) (λf O=>hpl f (iS _ O)) (λf O=>htr f (iS _ O)) G;obtain⟨y,hyw,O⟩:=htr f (gD ..);obtain⟨a,Q,U⟩:=ih m f.type _ y.1 y.2 (hpl f (gD ..)) O hyw;rw[ho]at U;refine⟨a++b,⟨⟨a,b,rfl,Q.1,S.1⟩,λx K=>(kQ.1 K).elim (Q.2 x) (S.2 x)⟩,?_⟩;have:cs.drop o=(cs.drop o).take (P.cellsOf f.type)++cs.drop (o+P.cellsOf f.type):=by
       rw[<-oC,AB]
      rw[this];exact U.append hb2
     cases G
   obtain⟨p,F,J⟩:=this fs.toList 0 hp.1 (λf O=>by
    obtain⟨i,hi,rfl⟩:=o5 O;obtain⟨y,hym,I⟩:=lE hys i fs.toList[i] (de hi);exact⟨y,hwy _ (fZ hym),I⟩) (by rw[W];exact hp.2)
   exact⟨p,F,by simpa using J⟩
def LA(s : ∀es q,es.length<=u (.slice es q) /\∀d∈es,u d<=u (.slice es q))(C : ∀ps,∀d∈ps,u d<=u (.agg ps)){m:Nat}{t:TypeId}{v:Value}{d:DataW H}{ps:List MemPlace}(hp:plain P m t=true)(c:Value.okWide P w .any g t v){j:Nat}(h:DataW.Trod enc P w j A B t v d ps)(y:u d<=N) :
 ∃x:AV,(Si P m t x/\tx N x)/\VR (uH w) dC x v:=by
 obtain⟨n,D⟩:=h;obtain⟨xs,⟨o,k⟩,p⟩:=LB s C n m t v.cells.toList d ps hp D y;unfold Si;by_cases a:eI P t=some true
 ·rw[a];have : ∃cs,v = .agg cs:=by
   unfold eI at a;unfold Value.okWide at c;cases i:P.underlying t with
   | none=>rw[i]at a;simp at a
   | some dd=>rw[i]at a c;cases dd<;>simp at a<;>(obtain⟨cs,rfl,_⟩:=c;exact⟨cs,rfl⟩)
  obtain⟨cs,rfl⟩:=this;exact⟨.agg xs,⟨⟨xs,rfl,o⟩,.agg _ k⟩,VR.pv.2 p⟩
 have l:v.cells = #[v] /\∃x,xs=[x]:=by
  have F:=o.facts m t xs hp;cases m with
  | zero=>simp[plain]at hp
  | succ m=>
  have b:=hp;unfold plain at b;unfold eI at a;unfold Value.okWide at c;cases i:P.underlying t with
  | none=>rw[i]at b;simp at b
  | some dd=>
   rw[i]at b a c;have f:P.cellsOf t=1->Cell.okWide P w .any g t v->v.cells = #[v] /\∃x,xs=[x]:=by
    intro E e;refine⟨?_,?_⟩
    ·cases v<;>try rfl
     exfalso;unfold Cell.okWide at e;rw[i]at e;cases dd<;>simp at b a<;>(simp[Cell.ok,i]at e)
    have:=F.1;rw[E]at this;match xs,this with
    | [x],_=>exact⟨x,rfl⟩
   cases dd<;>simp at b a;·exact f b c
   ·exact f b c
   ·exact f b c
   exact f b.1.1 c
 obtain⟨l,x,rfl⟩:=l;rw[l]at p;refine⟨x,⟨?_,k x (by simp)⟩,p.2 0 x v rfl rfl⟩;split;·rename_i z;exact(a z).elim
 exact o
def Ru(E : ∀es D,es.length<=u (.slice es D) /\∀d∈es,u d<=u (.slice es D))(K : ∀ps,∀d∈ps,u d<=u (.agg ps)){m:Nat}{a:Nat} : ∀ {b:List TypeId} {f:List Value} {ds:List (DataW H)} {ps:List MemPlace},b.all (plain P m)=true->(∀(j:Nat) t v,b[j]?=some t->f[j]?=some v->Value.okWide P w .any g t v) ->
 DataW.TrodAll enc P w a A B b f ds ps->(∀d∈ds,u d<=N) ->∃k:List AV,(O2 P m b k /\∀x∈k,tx N x)/\lI (uH w) dC k f:=by
 intro b;induction b with
 | nil=>intro f ds ps _ _ h _;obtain⟨rfl,_,_⟩:=trodAll_nil h;exact⟨[],⟨trivial,λx F=>by cases F⟩,lI.nil⟩
 | cons t b I=>intro f ds ps hp c h C;obtain⟨v,J,d,G,p,q,rfl,rfl,rfl,o,s⟩:=trodAll_cons h;simp only[yB,bt]at hp;obtain⟨x,i,z⟩:=LA E K hp.1 (c 0 t v rfl rfl) o (C _ (gD ..));obtain⟨k,l,n⟩:=I hp.2 (λj t v o s=>c (j+1) t v o s) s (λd hd=>C d (iS _ hd));exact⟨x :: k,⟨⟨i.1,l.1⟩,λy L=>(ef.1 L).elim (λe=>by rw[e];exact i.2) (l.2 y)⟩,lI.cons z n⟩
end
def GI{E:Env}{ok:Array Oper->Bool}(Z:E.Ok ok){T:TypeId->Prop}(K:Kids E.P T)(hz : ∀t e,T t->E.P.underlying t=some (.slice e)->0<E.P.cellsOf e){H:Type}{enc:TypeId × Value->H}{id:FuncId}{f:Func}{s:ChangeSpec}{apart fresh a again:Bool}{m:Nat}
 (V : ∀t∈f.params.toList,T t) (hp:f.params.toList.all (plain E.P m)=true) (hv:s.vars=[]) (M : ∀ds:List (DataW H),ds.length=f.params.toList.length->s.fn H ds = { results:=[.lit (.bool true)],args:=ds}) (y:Kk E.P f=true)
 {u:DataW H->Nat} {N:Nat} (C : ∀es G,es.length<=u (.slice es G) /\∀d∈es,u d<=u (.slice es G)) (o : ∀ps,∀d∈ps,u d<=u (.agg ps))
 (h : ∀l,O2 E.P m f.params.toList l->(∀x∈l,tx N x)->ay E id l=some (.v (.bool true)))
 (W:World) (g:Nat) (args:Array Value) (ds S:List (DataW H)) (b:List MemPlace) (k : ∀(j:Nat) t v,f.params[j]?=some t->args[j]?=some v->Value.okWide E.P W .any g t v)
 (J:DataW.Whole enc E.P f.params.toList s.vars apart W args.toList ds S b) (Y : ∀d∈ds,u d<=N) :
 Calls E.P id args W λe L =>∃v,e = .returned v/\s.post enc E.P f apart fresh a again W args v L:=by
 obtain⟨tb,y,O⟩:=OU y;have z:=J;obtain⟨p,q,I,hV,rfl,Q,X⟩:=z;obtain⟨l,c,F⟩:=Ru C o hp (λj t v R U=>k j t v (by simpa using R) (by simpa using U)) I Y;obtain⟨n,i⟩:=UK (h l c.1 c.2);have D:ds.length=f.params.toList.length:=KS I;refine(OP Z i (us:=args.toList) F).mono λe L ⟨he,hk⟩=>⟨_,he,?_⟩;exact Rq K hz V hv J (M ds D) y O hk
end Go.Ab
namespace Go.Ab
def bad(b:Bool):Int:=if b then 0 else 8
@[simp] def afL(b:Bool):bad b=0↔b=true:=by cases b<;>simp[bad]
@[simp] def CS:bad true=0:=id rfl
@[simp] def I2:bad false=8:=id rfl
structure Qn where
 lv:UInt8
 cats:UInt32
 num:UInt8
deriving DecidableEq
structure yY where
 h:Qn
 n:Int
deriving DecidableEq
structure Spn where
 f:yY
 many:Int
deriving DecidableEq
def fA(h:Qn):Bool:=decide (h.lv<=15)&&decide (h.num<8)
def yP(i:yY):Bool:=fA i.h&&(decide (1<=i.n)&&decide (i.n<=1099511627776))
def nD(s:Spn):Bool:=yP s.f&&(decide (1<=s.many)&&(decide (s.many<=64)&&decide (s.f.n+s.many - 1<=1099511627776)))
def IP{i:yY}(h:yP i=true):1<=i.n/\i.n<=1099511627776:=by
 simp[yP]at h;exact h.2
def Pu{s:Spn}(h:nD s=true):1<=s.f.n/\1<=s.many/\s.many<=64/\s.f.n+s.many - 1<=1099511627776:=by
 simp[nD]at h;have:=IP h.1;exact⟨this.1,h.2.1,h.2.2.1,h.2.2.2⟩
def Tg{s:Spn}(h:nD s=true):yP s.f=true:=by
 simp[nD]at h;exact h.1
def mF:yY:=⟨⟨0,0,0⟩,0⟩
def aR(n:Int):AV := .v (.int .i32 n)
def rows(l:List Int):List AV:=l.map aR
@[simp] def aey(l:List Int):(rows l).length=l.length:=by simp[rows]
@[simp] def Xb(l:List Int):rows l=[]↔l=[]:=by simp[rows]
def ij(n:Int):Bool:=decide (n = -1)||(decide (0<=n)&&decide (n<55296))||(decide (57343<n)&&decide (n<=1114111))
def Gp(l:List Int):Bool:=decide (l.length<=64)&&l.all ij
def xh(l:List Int):Int:=if 64<l.length then 4 else if l.all ij then 0 else 8
@[simp] def ae1(n:Int):(aR n).cells=[aR n]:=id rfl
@[simp] def ahM(n:Int):(aR n).one=true:=id rfl
@[simp] def afT(g:cL)(k:Nat)(n:Int):view g (k+1) (aR n)=some (aR n):=id rfl
def Dx(l:List Int):xh l=0↔Gp l=true:=by
 unfold xh Gp;by_cases h:64<l.length;·simp[h,Nat.not_le.2 h]
 have a:l.length<=64:=Fh.1 h;rw[if_neg h];cases l.all ij<;>simp[a]
@[simp] def Zb(l:List Int)(i n:Nat):bP (rows l) i 0 n false=(l[i]?).map aR:=by
 unfold bP rows;rw[kR];cases l[i]?<;>rfl
def CB:AV->Bool
 | .v (.int .i32 _)=>true
 | _=>false
def Qx:Value->Bool
 | .int .i32 _=>true
 | _=>false
def EK:Nat->AV->Bool
 | 0,_=>false
 | n+1,x=>match x with
  | .v _=>true
  | .agg cs | .tup cs=>cs.all (EK n)
  | .bq _ es _=>es.all λe=>e.cells.all λc => !CB c&&EK n c
  | _=>false
def Wj{M:Mem}{ι:Map}{n:Nat}{x:AV}{u:Value}(h:VR M ι x u)(hi:CB x=false)(a:EK n x=true):Qx u=false:=by
 cases n with| zero=>simp[EK]at a| succ n=>
  cases h with
  | v h=>cases u<;>first | rfl | (rename_i k m;cases k<;>first | rfl | (simp[CB]at hi))
  | agg b h=>rfl
  | tup d b h=>rfl
  | bq cell c f e hm he h=>rfl
  | _=>simp[EK]at a
def aba{M M':Mem}(C : ∀b o x,M b o=some x->Qx x=false->M' b o=some x) : ∀(n:Nat)(ι:Map)(x:AV)(u:Value),EK n x=true->VR M ι x u->VR M' ι x u:=by
 intro n;induction n with
 | zero=>intro ι x u d;simp[EK]at d
 | succ n q=>
  intro ι x u d h;cases h with
  | v h=>exact .v h
  | agg s h=>simp only[EK,dY]at d;exact .agg s λi c u f p=>q _ c u (d c (fZ f)) (h i c u f p)
  | tup B s h=>simp only[EK,dY]at d;exact .tup B s λi c u f p=>q _ c u (d c (fZ f)) (h i c u f p)
  | bq cell z f E hm he h=>
   rename_i esz es cap a c;simp only[EK,dY,bt,gz]at d;have one : ∀i j,i<es.length->j<esz ->∃e x,es[i]?=some e/\e.cells[j]?=some x/\e∈es/\x∈e.cells:=by
    intro i j hi l;have t:=de hi;have m:j<es[i].cells.length:=by rw[he _ (eO hi)];exact l
    exact⟨_,_,t,de m,eO hi,eO m⟩
   refine .bq cell z f E (λi j hi l=>?_) he λi j e x g k=>?_;·obtain⟨e,x,t,m,w,y⟩:=one i j hi l;obtain⟨A,D⟩:=hm i j hi l;exact⟨C _ _ _ A (Wj (h i j e x t m) (d e w x y).1 (d e w x y).2),D⟩
   exact q _ x _ (d e (fZ g) x (fZ k)).2 (h i j e x g k)
  | _=>simp[EK]at d
def GM(r:Ref) : ∀(n m:Nat)(x:AV)(bs:List aY),EK n x=true->aj r m x bs=(x,bs):=by
 intro n;induction n with
 | zero=>intro m x bs f;simp[EK]at f
 | succ n j=>
  intro m x bs f;have e : ∀(m:Nat)(cs d:List AV)(bs:List aY),(∀c∈cs,EK n c=true)->cs.foldl (λ(p:List AV × List aY) c=>let (y,bs):=aj r m c p.2;(p.1++[y],bs)) (d,bs)=(d++cs,bs):=by
   intro m cs;induction cs with
   | nil=>intro d bs _;simp
   | cons c cs g=>intro d bs i;simp only[rB];rw[j m c bs (i c (by simp))];simp only;rw[g _ _ λc h=>i c (by simp[h])];simp
  cases m with| zero=>rfl| succ m=>
   cases x with
   | agg cs=>simp only[EK,dY]at f;simp only[aj,e m cs [] bs f,o4]
   | tup cs=>simp only[EK,dY]at f;simp only[aj,e m cs [] bs f,o4]
   | v y=>rfl
   | bq a b c=>rfl
   | _=>simp[EK]at f
def zE(g:cL)(r:Ref):Bool:=match g r with
 | some b=>b.arr&&b.es.all λe=>e.cells.all CB
 | none=>false
def VM{M ι g w R}(s:gA M ι g w)(F : ∀r∈R,zE g r=true){b o:Nat}{x:Value}(h:kA M ι g w R b o=some x):M b o=some x\/Qx x=true:=by
 rcases uQ h with E | ⟨r,C,k,l,j,q,n,z⟩
 ·exact .inl E
 refine .inr ?_;subst n;have hi:=F r C;unfold zE at hi;rw[j]at hi;simp only[bt,dY]at hi;have A:0<k.esz:=vl λe=>by rw[e]at z;simp at z
 have d:o / k.esz<k.es.length:=Nat.div_lt_of_lt_mul (by rw[C7];exact z);have f:o % k.esz<k.esz:=Nat.mod_lt _ A;obtain⟨u,t,L,K,H⟩:=CX (M:=M) s C j q d f;have G:o / k.esz * k.esz+o % k.esz=o:=by rw[C7];exact Nat.div_add_mod o k.esz
 rw[G]at t;rw[h]at t;cases t;have I:=(s.at q (by obtain⟨N,i,n⟩:=s.live r k j;rw[q]at i;cases i;rw[n.esz];exact A) j).cells;have J:=de d;have B:o % k.esz<k.es[o / k.esz].cells.length:=by rw[I _ (eO d)];exact f
 have p:=H _ _ J (de B);have a:=hi.2 _ (eO d) _ (eO B);revert p a;generalize k.es[o / k.esz].cells[o % k.esz]=y;intro p a;cases y with
 | v c=>
  cases p with | v _=>
  revert a;cases x with
  | int D m=>cases D<;>simp[CB,Qx]
  | _=>simp[CB]
 | _=>simp[CB]at a
def sF.apart{M:Mem}{ι:Map}{g:cL}{w w':World}{R:List Ref}{M':Mem}{y:AV}{v:Value}(A:gA M ι g w)(C : ∀r∈R,zE g r=true)(t:EK depth y=true)(h:sF (kA M ι g w R) w y v M' w') :
 ∃f,sF M w y v f w':=by
 classical
 obtain⟨f,d⟩ : ∃f:Mem,∀b o,f b o=(match M' b o with | some x=>if Qx x=true/\b<w.heap.size then M b o else some x | none=>none):=⟨_,λb o=>rfl⟩;have q : ∀b o x,M b o=some x->f b o=some x:=by
  intro b o x a;rw[d,h.mem b o x (sC b o x a)];dsimp only;split;·exact a
  rfl
 have c : ∀b o x,f b o=some x->M' b o=some x/\(M b o=some x \/¬(Qx x=true/\b<w.heap.size)):=by
  intro b o x a;rw[d]at a;cases hm:M' b o with
  | none=>rw[hm]at a;cases a
  | some z=>
   rw[hm]at a;dsimp only at a;split at a;·rw[h.mem b o x (sC b o x a)]at hm;cases hm;exact⟨rfl,.inl a⟩
   rename_i D;cases a;exact⟨rfl,.inr D⟩
 refine⟨f,h.os,h.tape,h.output,h.size,h.old,q,λb o x a=>h.sound b o x (c b o x a).1,λb o x a=>?_,λr=>?_⟩
 ·obtain⟨B,i | i⟩:=c b o x a;·exact .inl i
  rcases h.new b o x B with m | m
  ·rcases VM A C m with p | p
   ·exact .inl p
   exact .inr (Nat.le_of_not_lt λj=>i ⟨p,j⟩)
  exact .inr m
 obtain⟨ls,j,s,u,hi⟩:=h.res r;have e:=GM r depth depth y [] t;rw[e]at j s u ⊢;refine⟨ls,j,aba (λb o x a i=>by rw[d,a];dsimp only;rw[if_neg (by rw[i];simp)]) depth _ y v t s,λk l b E n=>?_,hi⟩;simp at n
def Qz{P:Program}{f:FuncId}{args d:List AV}{y:AV}{H:aa}(hp:ja P f d y)(l:args.mapM (view H.get depth)=some d)(i:EK depth y=true)(m:(bH H.get args).all (zE H.get)=true):il P (.fn f) args H y H:=by
 refine⟨hp.1,λM ι w us b h c=>?_⟩;have a:=hp.2 (kA M ι H.get w (bH H.get args)) w _ (uP b.mem) (FK b l c);refine a.mono λe w' ⟨v,M',he,hend⟩=>⟨v,he,?_⟩;obtain⟨M2,j⟩:=hend.apart b (dY.1 m) i;have g:=CO (r:=⟨0,0,H.gen 0 0,0⟩) b (λk=>h.fresh 0 0 k) j;rw[GM _ depth depth y [] i]at g;exact g.toW h
def BL(o:List AV->Option AV)(args:List AV)(H:aa):Option (AV × aa):=match args.mapM (view H.get depth) with
 | some xs=>(match o xs with
  | some y=>if EK depth y=true/\(bH H.get args).all (zE H.get)=true then some (y,H) else none
  | none=>none)
 | none=>none
def Sg{P:Program}{f:FuncId}{o:List AV->Option AV}(e : ∀a y,o a=some y->ja P f a y){args:List AV}{H:aa}{y:AV}{H':aa}(h:BL o args H=some (y,H')):il P (.fn f) args H y H':=by
 unfold BL at h;split at h
 ·rename_i a b;split at h;·rename_i g d;obtain⟨c,h⟩:=eQ.1 h;cases h;exact Qz (e a _ d) b c.1 c.2
  cases h
 cases h
def gA.fr{M:Mem}{ι:Map}{H:aa}{w:World}(e:gA M ι H.get w)(a:rN ι H):Fr H:=by
 intro d t g k f;cases h:H.get ⟨d,t,g,k⟩ with
 | none=>rfl
 | some b=>obtain⟨l,c,_⟩:=e.live _ _ h;have:=a _ l c;simp only at this;omega
def vW(H:aa)(r:Ref):Ref:=⟨r.d,r.t,H.gen r.d r.t,0⟩
def oU(a:Nat)(H:aa):Ref:=⟨1,a,H.gen 1 a,0⟩
def xw(z:Nat)(g:cL):AV->Bool
 | .v (.slice none 0 0)=>true
 | .bA r 0 0 (some 0)=>match g r with
  | some b=>b.arr&&b.esz == z&&b.es.isEmpty
  | none=>false
 | _=>false
def sx(P:Program)(t:TypeId)(sl c:Nat)(args:List AV)(H:aa):cJ:=match args with
 | [.dsl r 0 n none,.v (.int .i64 i),.bA a 0 1 e]=>(match H.get r,H.get a,(cu P t).bind (aH P),(cu P t).bind (gX P) with
  | some b,some bv,some z,some by'=>(match bv.es with
   | [v]=>if b.arr=false/\bv.arr=true/\b.esz=z/\bv.esz=z/\1<z/\0<by'/\b.gB=false/\n=b.es.length/\0<=i/\i<=n/\(n+1) * by'<=aG then
    some (.dsl ⟨r.d,r.t,H.gen r.d r.t,0⟩ 0 (n+1) none,yp sl H r ⟨z,eT b.es i.toNat v,false,false⟩) else none
   | _=>none)
  | _,_,_,_=>none)
 | [x,.v (.int .i64 0),.bA a 0 1 e]=>(match H.get a,(cu P t).bind (aH P),(cu P t).bind (gX P) with
  | some bv,some z,some by'=>(match bv.es with
   | [v]=>if xw z H.get x=true/\bv.arr=true/\bv.esz=z/\1<z/\0<by'/\by'<=aG then
    some (.dsl (oU c H) 0 1 none,(oU c H,some ⟨z,[v],false,false⟩) :: H) else none
   | _=>none)
  | _,_,_=>none)
 | _=>none
def VH(P:Program)(t:TypeId)(H:aa)(r:Ref)(n:Nat)(a:Ref)(b bv:aY)(v:AV)(z by':Nat):Prop:=
 H.get r=some b/\H.get a=some bv/\(cu P t).bind (aH P)=some z/\(cu P t).bind (gX P)=some by'/\bv.es=[v] /\
 b.arr=true/\bv.arr=true/\b.esz=z/\bv.esz=z/\1<z/\0<by'/\b.gB=false/\r≠a/\n=b.es.length/\(n+1) * by'<=aG
def RI(es:List AV)(v:AV):eT es es.length v=es++[v]:=by simp[eT]
def LN{es a:List AV}(o:a.length=es.length){n:Nat}(v:AV){R:AV->AV->Prop}(k : ∀(i j:Nat) e x,es[i]?=some e->e.cells[j]?=some x ->∃c x0,a[i]?=some c/\c.cells[j]?=some x0/\R x x0)
 (l : ∀x,R x x) (p:n<=es.length) : ∀(i j:Nat) e x,(eT es n v)[i]?=some e->e.cells[j]?=some x ->∃c x0,(eT a n v)[i]?=some c/\c.cells[j]?=some x0/\R x x0:=by
 intro i j e x b d;have f:(es.take n).length=n:=by rw[j7];omega
 have g:(a.take n).length=n:=by rw[j7];omega
 unfold eT at b ⊢;rcases Bq i n with h | h | h
 ·rw[jG (by omega),Na h]at b;rw[jG (by omega),Na h];exact k i j e x b d
 ·subst h;rw[ic (by omega),f,rz]at b;rw[ic (by omega),g,rz];cases b;exact⟨v,x,rfl,d,l x⟩
 obtain⟨m,rfl⟩ : ∃m,i=n+m+1:=⟨i - n - 1,by omega⟩;rw[ic (by omega),f,show n+m+1 - n=m+1 by omega,FA,yE]at b;rw[ic (by omega),g,show n+m+1 - n=m+1 by omega,FA,yE];exact k (n+m) j e x b d
def OK{P:Program}{t:TypeId}{sl sa:Nat}{f:FuncId}{args:List AV}{H H':aa}{y:AV}(hf : ∃fn,P.funcs[f]?=some fn/\(fn.name == "runtime.NumGoroutine")=false/\fn.body.isSome=true)
 (hins : ∀args H y H',qN P t sl args H=some (y,H')->il P (.fn f) args H y H')
 (happ : ∀H r n p G b bv v z by',VH P t H r n p b bv v z by'->Fr H->il P (.fn f) [.bA r 0 n none,.v (.int .i64 n),.bA p 0 1 G] H (.bA (vW H r) 0 (n+1) none) ((vW H r,some { b with es:=b.es++[v]}) :: H.put r none))
 (hnil : ∀H x p G bv v z by',H.get p=some bv->(cu P t).bind (aH P)=some z->(cu P t).bind (gX P)=some by'->bv.es=[v]->xw z H.get x=true->bv.arr=true->bv.esz=z->1<z->0<by'->by'<=aG->Fr H ->
  il P (.fn f) [x,.v (.int .i64 0),.bA p 0 1 G] H (.bA (oU sa H) 0 1 none) ((oU sa H,some ⟨z,[v],true,false⟩) :: H))
 (h:sx P t sl sa args H=some (y,H')):il P (.fn f) args H y H':=by
 refine⟨hf,λM ι w us hS hD hvs=>?_⟩;have hFr:=hS.fr hD;unfold sx at h;split at h
 ·rename_i r n i p G;split at h
  ·rename_i b bv z by' Q h2 h3 h4;split at h
   ·rename_i v hv;obtain⟨hc,h⟩:=eQ.1 h;obtain⟨c1,c2,I,c4,c5,c6,c7,c8,c9,c10,c11⟩:=hc;cases h;have hrv:r≠p:=by
     intro e;rw[e,h2]at Q;cases Q;rw[c1]at c2;cases c2
    obtain⟨a,e1,e2,e3,e4⟩:=hS.yM Q c1 (by omega);obtain⟨H0,Z⟩ : ∃H0,H0=H.put r (some ⟨b.esz,a,true,b.gB⟩):=⟨_,rfl⟩;rw[<-Z]at e3;have C : ∀q,H0.get q=if q=r then some ⟨b.esz,a,true,b.gB⟩ else H.get q:=λq=>by rw[Z,aa.ab]
    have g : ∀d t,H0.gen d t=H.gen d t:=λd t=>by rw[Z,aa.dK _ _ _ (by rw[Q];rfl)]
    have J:rN ι H0:=λq l hl=>by rw[g];exact hD q l hl
    have V:H0.get r=some ⟨b.esz,a,true,b.gB⟩:=(by rw[C,if_pos rfl]);have K:H0.get p=some bv:=by rw[C,if_neg (λe=>hrv e.symm)];exact h2
    have L : ∀q k,H0.get q=some k ->∃k',H.get q=some k':=by
     intro q k hq;rw[C]at hq;split at hq;·rename_i e;rw[e];exact⟨b,Q⟩
     exact⟨k,hq⟩
    have hX:H.get (qM sl H r)=none:=hFr _ _ _ _ (bg _);have hX0:H0.get (qM sl H0 r)=none:=(e3.fr J) _ _ _ _ (bg _);have S:lI M ι [.bA r 0 n none,.v (.int .i64 i),.bA p 0 1 G] us:=by
     obtain⟨a1,a2⟩:=hvs;refine⟨a1,λj x u s E=>?_⟩;match j,s,E with
     | 0,s,E=>cases s;cases a2 0 _ u rfl E with | dsl hr U hs ha hc hn hk hz=>exact .bA hr U hs ha hc hn hk hz
     | 1,s,E=>exact a2 1 x u s E
     | 2,s,E=>exact a2 2 x u s E
    have Y : ∀e∈bv.es,e.cells.length=z:=(by obtain⟨l,_,U⟩:=hS.live p bv h2;rw[<-c4];exact(U.cellsOk (by omega)).cells);have X : ∀e∈b.es,e.cells.length=z:=(by obtain⟨l,_,U⟩:=hS.live r b Q;rw[<-I];exact(U.cellsOk (by omega)).cells);have hins':(i.toNat:Int)=i:=(by omega);obtain⟨N,rfl⟩ : ∃N:Nat,i=N:=⟨i.toNat,by omega⟩;have hNn:N<=n:=by omega
    have D : ∀(M':Mem)(m:Map),(∀b o v,M b o=some v->M' b o=some v)->(∀q l,ι q=some l->m q=some l) ->∀(i j:Nat) A T,(eT b.es N v)[i]?=some A->A.cells[j]?=some T ->
     ∃e1 x1,(eT a N v)[i]?=some e1/\e1.cells[j]?=some x1 /\∀u,VR M' dC x1 u->VR M' m T u:=by
     intro M' m hM hι i j A T c s;refine LN (R:=λT x1 =>∀u,VR M' dC x1 u->VR M' m T u) e1 v (λi j e x c s=>?_) (λx u E=>E.up m) (by omega) i j A T c s;have hi:i<a.length:=by rw[e1];exact(dT.1 c).1
     have g0:a[i]?=some a[i]:=de hi;have hj:j<a[i].cells.length:=(by have h5:=(dT.1 s).1;rw[X e (fZ c)]at h5;rw[e2 _ (eO hi)];omega);have g1:a[i].cells[j]?=some a[i].cells[j]:=de hj;obtain⟨u,A,T,a1,a2,a3,a4⟩:=e4 i j _ _ g0 g1;rw[c]at a2;cases a2;rw[s]at a3;cases a3;refine⟨_,_,g0,g1,λu' hu'=>?_⟩;rw[a1]at hu';cases hu' with | yM _=>exact a4.mono hM m hι
    have B:(eT b.es N v).length=(eT a N v).length:=(by rw[Ai _ _ _ (by omega),Ai _ _ _ (by omega),e1]);have hcl : ∀e∈eT b.es N v,e.cells.length=z:=by
     intro e c;unfold eT at c;rw[kQ,ef]at c;rcases c with c | c | c
     ·exact X e (yF c)
     ·exact Y e (by rw[hv,c];simp)
     exact X e (BX c)
    have hq0:(⟨r.d,r.t,H.gen r.d r.t,0⟩:Ref)≠r:=(by intro e;have:=hFr r.d r.t _ 0 (bg _);rw[e,Q]at this;cases this);have hqX:(⟨r.d,r.t,H.gen r.d r.t,0⟩:Ref)≠qM sl H r:=(by intro e;have:=iQf Ref.d e;simp[qM]at this);have hrs:(H.get r).isSome=true:=by rw[Q];rfl
    have O:(H0.get r).isSome=true:=by rw[V];rfl
    show Calls P f us.toArray w λe w' =>∃v,e = .returned v/\oA M ι H w (.dsl (vW H r) 0 (n+1) none) _ v w';have F:vW H0 r=vW H r:=by unfold vW;rw[g]
    by_cases hlt:N<n
    ·have hsp:qN P t sl [.bA r 0 n none,.v (.int .i64 N),.bA p 0 1 G] H0=some (.bA (vW H0 r) 0 (n+1) none,yp sl H0 r ⟨z,eT a N v,true,false⟩):=(by simp only[qN,V,K,h3,h4,hv];rw[if_pos ⟨trivial,c2,I,c4,c5,c6,c7,hrv,by omega,by omega,by omega,c11⟩];simp[vW,I,c7]);refine((hins _ _ _ _ hsp).2 M ι w us e3 J S).mono λe w' ⟨u,c,hW⟩=>⟨u,c,?_⟩;rw[F]at hW;refine hW.deep (k1:=⟨z,eT a N v,true,false⟩) (es':=eT b.es N v) L ?_ (by simp only;omega) rfl (λq=>?_) (λd t=>?_) B hcl D;·rw[qO sl _ hX0];exact if_pos F
     ·rw[qO sl q hX,qO sl q hX0];show(if vW H r=q then _ else _)=if q=vW H r then _ else if vW H0 r=q then _ else _
      rw[F];by_cases e:vW H r=q;·rw[if_pos e,if_pos e.symm];simp
      have A : ¬q=vW H r:=λh=>e h.symm;simp only[if_neg e,if_neg A];by_cases W:q=r;·simp only[if_pos W]
      simp only[if_neg W];rw[C,if_neg W]
     unfold yp qM;simp only[aa.n8,aa.dK _ _ _ hrs,aa.dK _ _ _ O,g];exact bg _
    obtain rfl:N=n:=(by omega);have hok:VH P t H0 r N p ⟨b.esz,a,true,b.gB⟩ bv v z by':=⟨V,K,h3,h4,hv,rfl,c2,I,c4,c5,c6,c7,hrv,by simp only;omega,c11⟩;refine((happ H0 r N p G _ bv v z by' hok (e3.fr J)).2 M ι w us e3 J S).mono λe w' ⟨u,c,hW⟩=>⟨u,c,?_⟩;rw[F]at hW;have hE:eT a N v=a++[v]:=by rw[show N=a.length by omega,RI]
    rw[hE]at D B;refine hW.deep (k1:=⟨b.esz,a++[v],true,b.gB⟩) (es':=eT b.es N v) L ?_ (by simp only;omega) rfl (λq=>?_) (λd t=>?_) B (by rw[I];exact hcl) D;·rw[aa.bS,if_pos rfl]
    ·rw[qO sl q hX,aa.bS];show(if vW H r=q then _ else _)=if q=vW H r then _ else if vW H r=q then _ else _
     by_cases e:vW H r=q;·rw[if_pos e,if_pos e.symm];simp[I,c7]
     have A : ¬q=vW H r:=λh=>e h.symm;simp only[if_neg e,if_neg A];rw[aa.ab];by_cases W:q=r;·simp only[if_pos W]
     simp only[if_neg W];rw[C,if_neg W]
    unfold yp qM vW;simp only[aa.n8,aa.dK _ _ _ hrs,aa.dK _ _ _ O,g];split;·exact bg _
    split;·rename_i h;obtain⟨rfl,rfl⟩:=h;exact Bi _
    exact bg _
   cases h
  cases h
 ·rename_i x p G _;split at h
  ·rename_i bv z by' h2 h3 h4;split at h
   ·rename_i v hv;obtain⟨hc,h⟩:=eQ.1 h;obtain⟨c1,c2,I,c4,c5,c6⟩:=hc;cases h;have Y : ∀e∈bv.es,e.cells.length=z:=by
     obtain⟨l,_,U⟩:=hS.live p bv h2;rw[<-I];exact(U.cellsOk (by omega)).cells
    refine((hnil H x p G bv v z by' h2 h3 h4 hv c1 c2 I c4 c5 c6 hFr).2 M ι w us hS hD hvs).mono λe w' ⟨u,c,hW⟩=>⟨u,c,?_⟩;refine hW.deep (k1:=⟨z,[v],true,false⟩) (es':=[v]) (λq k hq=>⟨k,hq⟩) ?_ (by simp only;omega) rfl (λq=>?_) (λd t=>?_) rfl (λe c=>Y e (by rw[hv];exact c)) (λM' m _ _ i j e x c s=>⟨e,x,c,s,λu E=>E.up m⟩);·rw[aa.bS,if_pos rfl]
    ·rw[aa.bS,aa.bS];by_cases e:oU sa H=q;·rw[if_pos e,if_pos e.symm]
     have A : ¬q=oU sa H:=λh=>e h.symm;simp only[if_neg e,if_neg A]
    unfold oU;simp only[aa.n8];exact bg _
   cases h
  cases h
 cases h
def Vk(z a b:Nat)(H:aa)(es:List AV)(arr:Bool):aa:=(oU b H,some ⟨z,es,arr,false⟩) :: (oU a H,some ⟨z,[],true,false⟩) :: H
def E5(z a b:Nat)(H:aa)(es:List AV)(arr:Bool)(q:Ref):(Vk z a b H es arr).get q=if oU b H=q then some ⟨z,es,arr,false⟩ else if oU a H=q then some ⟨z,[],true,false⟩ else H.get q:=by
 unfold Vk;rw[aa.bS,aa.bS]
def sg(z by' c a:Nat)(args:List AV)(H:aa):cJ:=match args with
 | [.bq b (e :: es) _]=>if b=z/\0<z/\(es.length+1) * by'<=aG then some (.dsl (oU a H) 0 (es.length+1) none,Vk z c a H (e :: es) false) else none
 | _=>none
def Kd{P:Program}{z by' A a:Nat}{f:FuncId}{args:List AV}{H H':aa}{y:AV}(K : ∃fn,P.funcs[f]?=some fn/\(fn.name == "runtime.NumGoroutine")=false/\fn.body.isSome=true)
 (l : ∀H e es c,(es.length+1) * by'<=aG->Fr H->il P (.fn f) [.bq z (e :: es) c] H (.bA (oU a H) 0 (es.length+1) none) (Vk z A a H (e :: es) true))
 (h:sg z by' A a args H=some (y,H')):il P (.fn f) args H y H':=by
 refine⟨K,λM ι w us C B b=>?_⟩;unfold sg at h;split at h
 ·rename_i s e es c;obtain⟨D,h⟩:=eQ.1 h;obtain⟨rfl,N,I⟩:=D;cases h;have p : ∀x∈e :: es,x.cells.length=s:=by
   obtain⟨v,o⟩:=b;match us,v,o with
   | [u],v,o=>cases o 0 _ u rfl rfl with | bq cell L D O hm m h=>exact m
  refine((l H e es c I (C.fr B)).2 M ι w us C B b).mono λg w' ⟨u,m,hW⟩=>⟨u,m,?_⟩;refine hW.deep (k1:=⟨s,e :: es,true,false⟩) (es':=e :: es) (λq k J=>⟨k,J⟩) ?_ (by simp only;omega) rfl (λq=>?_) (λd t=>?_) rfl p (λM' n _ _ i j e x m G=>⟨e,x,m,G,λu E=>E.up n⟩);·rw[E5,if_pos rfl]
  ·rw[E5,E5];by_cases g:oU a H=q;·rw[if_pos g,if_pos g.symm]
   have F : ¬q=oU a H:=λh=>g h.symm;simp only[if_neg g,if_neg F]
  unfold Vk oU;simp only[aa.n8];exact bg _
 cases h
end Go.Ab
namespace Go.Proofs.YtmjkpdknicjjgaaGreat.ins
open Go.Ab
def env:Env:=uM Tryz.prog [49] [] [49] (λ_=>false) (λ_=>[]) (λ_=>false) [] (λ_=>true) (λf=>if f=76 then some 22 else none)
def OD:Ep env [49]=true:=by kernel_rfl
def aa5:wi Tryz.prog 76 22:=⟨Tryz.f76,4,by kernel_rfl,by kernel_rfl,by kernel_rfl,by kernel_rfl,by kernel_rfl⟩
def ZQ:env.Ok (zJ env):=J9 GP (by kernel_rfl) OD (λf t h=>by
 split at h;·rename_i e;subst e;cases h;exact aa5
 cases h) (λf args H y H' h=>by cases h)
@[simp] def Wt:aH env.P 3=(some 1):=by kernel_rfl
@[simp] def aam:eI env.P 3=(some false):=by kernel_rfl
@[simp] def Wo:eP env.P 3=(some (.v (.int .i64 0))):=by kernel_rfl
@[simp] def XM:nX env.P 3=(some 1):=by kernel_rfl
@[simp] def XS:isInt env.P 3=true:=by kernel_rfl
@[simp] def RE:intKind env.P 3=(some .i64):=by kernel_rfl
@[simp] def aad:(env.P.underlying 3).isNone=false:=by kernel_rfl
@[simp] def Ws:aH env.P 4=(some 1):=by kernel_rfl
@[simp] def aal:eI env.P 4=(some false):=by kernel_rfl
@[simp] def XL:nX env.P 4=(some 0):=by kernel_rfl
@[simp] def UW:isBool env.P 4=true:=by kernel_rfl
@[simp] def Wr:aH env.P 5=(some 1):=by kernel_rfl
@[simp] def aak:eI env.P 5=(some false):=by kernel_rfl
@[simp] def XK:nX env.P 5=(some 1):=by kernel_rfl
@[simp] def RD:intKind env.P 5=(some .u8):=by kernel_rfl
@[simp] def aac:(env.P.underlying 5).isNone=false:=by kernel_rfl
@[simp] def S5:aH env.P 22=(some 1):=by kernel_rfl
@[simp] def WD:eI env.P 22=(some false):=by kernel_rfl
@[simp] def KU:cu env.P 22=(some 59):=by kernel_rfl
@[simp] def WA:mC env.P 22=none:=by kernel_rfl
@[simp] def US:isStr env.P 22=false:=by kernel_rfl
@[simp] def ab7:EA env.P 22=true:=by kernel_rfl
@[simp] def Yj:oc env.P 22=true:=by kernel_rfl
@[simp] def abP:jm env.P 22=2:=by kernel_rfl
@[simp] def Yl:nK env.P 22=32:=by kernel_rfl
@[simp] def RT:eM env.P 22=(.agg [(.v (.int .i64 0)),(.v (.slice none 0 0))]):=by kernel_rfl
@[simp] def S4:aH env.P 57=(some 1):=by kernel_rfl
@[simp] def WC:eI env.P 57=(some false):=by kernel_rfl
@[simp] def Ta:cu env.P 57=(some 5):=by kernel_rfl
@[simp] def Wz:mC env.P 57=none:=by kernel_rfl
@[simp] def UR:isStr env.P 57=false:=by kernel_rfl
@[simp] def ab6:EA env.P 57=true:=by kernel_rfl
@[simp] def Yi:oc env.P 57=true:=by kernel_rfl
@[simp] def OI:jm env.P 57=1:=by kernel_rfl
@[simp] def Yk:nK env.P 57=1:=by kernel_rfl
@[simp] def RS:eM env.P 57=(a8 0):=by kernel_rfl
@[simp] def UU:dq env.P 57=true:=by kernel_rfl
@[simp] def KR:aH env.P 59=(some 2):=by kernel_rfl
@[simp] def Pp:eI env.P 59=(some true):=by kernel_rfl
@[simp] def Wy:mC env.P 59=none:=by kernel_rfl
@[simp] def S0:eP env.P 59=(some (.agg [(.v (.int .i64 0)),(.v (.slice none 0 0))])):=by kernel_rfl
@[simp] def QD:gX env.P 59=(some 32):=by kernel_rfl
@[simp] def Er:jk env.P 59=(some [3,57]):=by kernel_rfl
@[simp] def Rs:iD env.P 59=(some [(0,1),(1,1)]):=by kernel_rfl
@[simp] def L0:aF env.P 59 0=(some (0,1)):=by kernel_rfl
@[simp] def LZ:aF env.P 59 1=(some (1,1)):=by kernel_rfl
def Vz:Code:=(Tryz.f49.body).getD .skip
def abg:Nat->Option (List Nat):=λi=>none
def abV:Nat->Bool:=λi=>false
def O1(dep:Nat)(g:Nat->AV)(x0 b l:AV)(H:aa)(Q:AV->aa->Prop):Prop:=
 dL (lC env.P (aa.get H) 22 (some x0) (oi b) (some none) (some none)) λA=>
 dL (cO env.P false (aa.get H) (⟨(dep+1),14,aa.gen H (dep+1) 14,0⟩:Ref) .len #[22] [l]) λi=>
 dL (bN env.P .eql 3 (.tmp 15) (.const (.int .i64 0)) (some i) (some (.v (.int .i64 0)))) λz=>
 br (some z) (
  Q x0 H) (
  dL (cO env.P false (aa.get H) (⟨(dep+1),19,aa.gen H (dep+1) 19,0⟩:Ref) .len #[22] [x0]) λn=>
  dL (bN env.P .eql 3 (.tmp 20) (.tmp 21) (some b) (some n)) λu=>
  br (some u) (
   gh (dm env.P true H (⟨(dep+1),25,aa.gen H (dep+1) 25,0⟩:Ref) (some 22) (some 22) x0 l) λq c=>
   Q q c) (
   dL (bN env.P .add 3 (.tmp 26) (.tmp 27) (some n) (some i)) λq=>
   dL (cO env.P false (aa.get H) (⟨(dep+1),30,aa.gen H (dep+1) 30,0⟩:Ref) .cap #[22] [x0]) λt=>
   dL (bN env.P .gtr 3 (.tmp 28) (.tmp 30) (some q) (some t)) λx=>
   br (some x) (
    dL (lC env.P (aa.get H) 22 (some x0) (some none) (oi b) (some none)) λp=>
    dL (bN env.P .add 3 (.tmp 35) (.tmp 36) (some n) (some i)) λa=>
    dL (bN env.P .sub 3 (.tmp 37) (.tmp 38) (some a) (some b)) λk=>
    gh (dm env.P true H (⟨(dep+1),40,aa.gen H (dep+1) 40,0⟩:Ref) (some 22) (some 3) p k) λd c=>
    dL (lC env.P (aa.get c) 22 (some d) (oi b) (some none) (some none)) λj=>
    gh (uh env.P c (some 22) j l) λo H2=>
    dL (bN env.P .add 3 (.tmp 47) (.tmp 48) (some b) (some i)) λf=>
    dL (cm env.P (aa.get H2) 22 (some d) (oi f) (some none) (some none)) λh=>
    dL (cm env.P (aa.get H2) 22 (some x0) (oi b) (some none) (some none)) λe=>
    gh (uh env.P H2 (some 22) h e) λm w=>
    Q d w) (
    dL (bN env.P .add 3 (.tmp 57) (.tmp 58) (some n) (some i)) λp=>
    dL (lC env.P (aa.get H) 22 (some x0) (some none) (oi p) (some none)) λa=>
    dL (bN env.P .add 3 (.tmp 63) (.tmp 64) (some b) (some i)) λk=>
    dL (lC env.P (aa.get H) 22 (some a) (oi k) (some none) (some none)) λd=>
    dL (Gx env.P (aa.get H) 22 [l,d]) λj=>
    dL (Xj env.P .not (some j)) λo=>
    br (some o) (
     dL (bN env.P .add 3 (.tmp 70) (.tmp 71) (some b) (some i)) λf=>
     dL (cm env.P (aa.get H) 22 (some a) (oi f) (some none) (some none)) λh=>
     dL (cm env.P (aa.get H) 22 (some a) (oi b) (some none) (some none)) λe=>
     gh (uh env.P H (some 22) h e) λm c=>
     dL (lC env.P (aa.get c) 22 (some a) (oi b) (some none) (some none)) λs=>
     gh (uh env.P c (some 22) s l) λy H2=>
     Q a H2) (
     dL (lC env.P (aa.get H) 22 (some a) (oi n) (some none) (some none)) λf=>
     gh (uh env.P H (some 22) f l) λh c=>
     dL (lC env.P (aa.get c) 22 (some a) (oi b) (some none) (some none)) λe=>
     gh (aV env true (ay env) (cD env (dep+1)) c (⟨(dep+1),93,aa.gen c (dep+1) 93,0⟩:Ref) (some (.fn (.func 77) [] [])) [e,i]) λm H2=>
     Q a H2))))
def aab(dep:Nat)(x0 b a:AV)(H:aa)(Q:AV->aa->Prop)(h : ∀g,O1 dep g x0 b a H Q):cB env Tryz.f49 (dep+1) [.code Vz] [(0,x0),(1,b),(2,a)] H Q:=⟨λg=>lY (live:=abg) (cut:=abV) (n:=500) (Eq.mp (by kernel_rfl) (h g))⟩
attribute [local simp] aC lC uh Gx
def run(r p:Ref)(n:Nat)(i:Int)(cv:Option Nat)(b bv:aY)(v:AV)(z by' c:Nat)(H:aa)(D:PX Tryz.prog 22 H r n i p b bv v z by')(hc:n<=c)(f:H.get (qM 40 H r)=none) :
 ∃I G,cD env r.d (.fn 49) [.bA r 0 n (some c),.v (.int .i64 i),.bA p 0 1 cv] H=some (I,G) /\
  (
   (I = .bA r 0 (n+1) (some c)/\G=H.put r (some { b with es:=eT b.es i.toNat v})) \/
   (I = .bA (qM 40 H r) 0 (n+1) none/\G=(qM 40 H r,some { b with es:=eT b.es i.toNat v}) :: H)):=by
 obtain⟨x,S,K,h4,L,M,Z,W,Q,B,u,k,E,o,m,h16,F⟩:=D;obtain⟨i,rfl⟩:=Ff m;refine qK (fn:=Tryz.f49) (c:=Vz) (by kernel_rfl) (by kernel_rfl) (by kernel_rfl) (by kernel_rfl) (by kernel_rfl) ?_;refine aab _ _ _ _ _ _ λg=>?_;obtain⟨bz,es,ba,bf⟩:=b;obtain⟨bvz,V,bva,bvf⟩:=bv;simp only at L M Z W Q k o;have hz:z=2:=by
  have:(cu env.P 22).bind (aH env.P)=some z:=K;simpa using this.symm
 have w:by'=32:=by
  have:(cu env.P 22).bind (gX env.P)=some by':=h4;simpa using this.symm
 subst hz w L M Z W Q k;subst o;clear K h4 B u m;have C:(es.length+1) * 32<=140737488355328:=F;have j : ∀(c:Nat)(J:Ref)(g:cL),cO env.P false g J .cap #[22] [.bA r 0 es.length (some c)]=some (aI c,[]):=λc J g=>by
  simp[cO,Xn]
 have hi:i<es.length:=by omega
 have c1 : ¬(i:Int)=es.length:=by omega
 have c2:i<=es.length:=by omega
 have w1:=iQa ((es.length:Int)+1) (by omega);have w2:=iQa ((es.length:Int)+1 - i) (by omega);have w3:=iQa ((i:Int)+1) (by omega);have U:=E.symm;by_cases N:es.length+1<=c
 ·have O : ¬(c:Int)<(es.length:Int)+1:=by omega
  have c4:(es.length:Int)+1<=c:=(by omega);have c5:(i:Int)+1<=(es.length:Int)+1:=(by omega);have hp:=RF (es:=es) rfl hi v;have m1:(es.length+1 - i).min (es.length - i)=es.length - i:=Ja (by omega);have T:Nat.min 1 (es.length+1 - i)=1:=Ay (by omega);have d1:(0:Int)<=(es.length:Int)+1:=by omega
  have d2:(0:Int)<=(i:Int)+1:=(by omega);have d3:(i:Int)<=(es.length:Int)+1:=(by omega);have d4:i+1<=es.length:=(by omega);have d5:i+(es.length - i)<=es.length:=(by omega);have d6:i<=min (i+1) es.length+(es.length - i+(es.length - (i+1+(es.length - i)))):=(by omega);simp only[qq]at hp;simp[an, *,O1,Xt];refine⟨by omega,?_⟩;have s:(es.drop i).take (es.length - i)=es.drop i:=cN (by simp);have y:es.drop (i+1+(es.length - i))=[]:=wF (by omega);have A : ∀l,(es.take (i+1)++l).take i=es.take i:=λl=>by
   rw[Kx (by rw[j7];omega),iQO,Ay (by omega)]
  rw[s,y,A,oD];rfl
 have O:(c:Int)<(es.length:Int)+1:=by omega
 have hg:=RG (es:=es) rfl hi v (.agg [aI 0,aO]);have h:=MG (P:=env.P) (t:=22) (t':=3) (by kernel_rfl) (by kernel_rfl) (by kernel_rfl) (H:=H) (r:=⟨r.d+1,40,H.gen (r.d+1) 40,0⟩) (q:=r) (b:=⟨2,es,true,false⟩) x (by kernel_rfl) rfl 0 i c (es.length+1 - i) (by simp;omega) (by omega) (by simp[aG];omega) (by omega) (by rw[show nK env.P 22=32 from by kernel_rfl];simp only[aG];omega);rw[show(((es.length+1 - i:Nat)):Int)=(es.length:Int)+1 - i from by omega,show i+(es.length+1 - i)=es.length+1 from by omega,show jm env.P 22=2 from by kernel_rfl,show eM env.P 22 = .agg [aI 0,aO] from by kernel_rfl]at h;have d0:i<=c:=by omega
 unfold qM at f;obtain⟨X,a⟩ : ∃X:Ref,X=⟨r.d+1,40,H.gen (r.d+1) 40,0⟩:=⟨_,rfl⟩;have x1:X≠r:=by rw[a];intro e;rw[e,x]at f;cases f
 have Y:X≠p:=by rw[a];intro e;rw[e,S]at f;cases f
 have x3:r≠X:=λe=>x1 e.symm;have x4:p≠X:=λe=>Y e.symm;unfold qM;simp only[<-a]at h f ⊢;have T:Nat.min 1 (es.length+1 - i)=1:=Ay (by omega);have m3:(es.length - i).min (es.length+1 - (i+1))=es.length - i:=Ay (by omega);have m4:(es.length - i).min (es.length - i)=es.length - i:=iQV _;have d1:(0:Int)<=(es.length:Int)+1:=by omega
 have d2:(0:Int)<=(i:Int)+1:=(by omega);have d3:(i:Int)<=(es.length:Int)+1:=(by omega);have d5:(i:Int)+1<=(es.length:Int)+1:=(by omega);have d6:i<=es.length:=(by omega);have d7:i<=i+(es.length+1 - i):=(by omega);have d8:(i:Int)<=es.length:=(by omega);simp(maxSteps:=2000000) [uF,uG,Cr,Cs,CF,T,m3,m4,x,S,f,h,x1,Y,x3,x4,j,c1,c2,O,w1,w2,w3,hc,hi,d0,d1,d2,d3,d5,d6,d7,d8,O1,<-a];have s:(es.drop i).take (es.length - i)=es.drop i:=cN (by simp);obtain⟨R,hR⟩ : ∃R,R=List.drop (i+1) (List.take i es++List.replicate (es.length+1 - i) (AV.agg [aI 0,aO])):=⟨_,rfl⟩;have hRl:R.length=es.length - i:=by rw[hR];simp;omega
 have q0:(es.take i).length=i:=by rw[j7];omega
 have y:List.drop (i+1+(es.length - i)) (es.take i++v :: R)=[]:=wF (by simp;omega);have A:List.take (i+1) (es.take i++v :: R)=es.take i++[v]:=(by rw[show es.take i++v :: R=(es.take i++[v])++R from by simp,Kx (by simp;omega),cN (by simp;omega)]);rw[<-hR,s,y,A,oD];simp[eT]
def XT(r f:Ref)(n:Nat)(i:Int)(k:Option Nat)(b bv:aY)(v:AV)(z by' c:Nat)(H:aa)(j:PX Tryz.prog 22 H r n i f b bv v z by')(o:n<=c)(l:H.get (qM 40 H r)=none)(q:r.g<H.gen r.d r.t) :
 ∃e a,il Tryz.prog (.fn 49) [.bA r 0 n (some c),.v (.int .i64 i),.bA f 0 1 k] H e a /\
  (
   (e = .bA r 0 (n+1) (some c)/\a=H.put r (some { b with es:=eT b.es i.toNat v})) \/
   (e = .bA (qM 40 H r) 0 (n+1) none/\a=(qM 40 H r,some { b with es:=eT b.es i.toNat v}) :: H)):=by
 obtain⟨e,a,h,p⟩:=run r f n i k b bv v z by' c H j o l;obtain⟨m,hm⟩:=qJ.1 h;exact⟨e,a,ya ZQ (Gk ZQ m) (hm m (bg _)),p⟩
def IN(args:List AV)(H:aa)(y:AV)(H':aa)(h:qN Tryz.prog 22 40 args H=some (y,H')):il Tryz.prog (.fn 49) args H y H':=
 Oh ⟨Tryz.f49,by kernel_rfl,by kernel_rfl,by kernel_rfl⟩ (λr a n i f b bv v z by' c j e d g=>XT r a n i f b bv v z by' c H j e d g) h
end Go.Proofs.YtmjkpdknicjjgaaGreat.ins
namespace Go.Ab
structure ZY where
 lv:UInt8
 cats:UInt32
deriving DecidableEq
structure fG where
 kind:UInt8
 h:Qn
 serial:Int
 s:Spn
 a:yY
 to:ZY
 l:List Int
deriving DecidableEq
def kE(a:yY):Bool:=decide (a.h.lv=0)&&decide (a.h.cats=0)&&decide (a.h.num=0)&&decide (a.n=0)
def vi(t:ZY):Bool:=decide (t.lv=0)&&decide (t.cats=0)
def Ge(a b:Qn):Bool:=decide (a.lv=b.lv)&&decide (a.cats=b.cats)&&decide (a.num=b.num)
def wy(a:yY):kE a=true↔a=mF:=by
 obtain⟨⟨a,b,c⟩,d⟩:=a;simp[kE,mF,and_assoc]
def zR(o:fG):Bool:=kE o.a&&decide (o.l=[])
def Ia(o:fG):Bool:=vi o.to&&((kE o.a||yP o.a)&&(Ge o.s.f.h o.h&&(decide ((o.l.length:Int)=o.s.many)&&Gp o.l)))
def OJ(o:fG):Bool:=vi o.to&&zR o
def JR(o:fG):Bool:=zR o&&decide (o.to.lv<=15)
def Cu(o:fG):Bool:=if o.kind=1 then Ia o else if o.kind=2 then OJ o else if o.kind=3 then JR o else false
def qj(o:fG):Bool:=fA o.h&&(decide (1<=o.serial)&&(decide (o.serial<16777216)&&(nD o.s&&Cu o)))
def GF{P:Program}{t:TypeId}(f:(eI P t).isSome=true)(c:(aH P t).isSome=true)(cs:List AV)(a:Nat):zw P t cs a=PK cs a ((aH P t).getD 0) ((eI P t).getD false):=by
 obtain⟨b,d⟩:=ib.1 f;obtain⟨n,e⟩:=ib.1 c;simp only[zw,d,e,cb];cases b<;>rfl
def DA{P:Program}{t:TypeId}(a:((mC P t).bind λp=>aH P p.2).isSome=true)(cs:List AV)(k:UInt8)(c:k.toNat<((mC P t).getD (0,0)).1) :
 vT P t (some (.agg cs)) (some (a8 k))=jI (zw P ((mC P t).getD (0,0)).2 cs (k.toNat * (aH P ((mC P t).getD (0,0)).2).getD 0)):=by
 cases b:mC P t with| none=>rw[b]at a;simp at a| some p=>obtain⟨n,e⟩:=p;rw[b]at a c;simp only[dX,cb]at a c;obtain⟨s,d⟩:=ib.1 a;unfold vT a8;simp only[dX,tC,b,d,cb];rw[if_pos (by omega)];simp
@[simp] def ada(r:Ref)(n:Nat)(f:Fn)(a b:List AV)(bs:List aY):aj r n (.fn f a b) bs=(.fn f a b,bs):=by cases n<;>rfl
end Go.Ab
namespace Go.Proofs.YtmjkpdknicjjgaaGreat
open Go.Ab Go.ChangeShapes Go.WideShapes Go.RowKit
section
variable{H:Type}
def Vo(d:DataW H):1<=Rows.uptoBulk d:=by
 cases d with| lit l=>cases l<;>simp[Rows.uptoBulk]| nil=>simp[Rows.uptoBulk]| ptr d=>simp[Rows.uptoBulk]| slice a b=>simp[Rows.uptoBulk]| agg a=>simp[Rows.uptoBulk]| iface a d=>simp[Rows.uptoBulk]| map e=>simp[Rows.uptoBulk]| held h=>simp[Rows.uptoBulk]
def MC(ds:List (DataW H)):ds.length<=Rows.uptoBulkAll ds:=by
 induction ds with| nil=>simp| cons d ds a=>have:=Vo d;simp only[Rows.uptoBulkAll,iA];omega
def zN{d:DataW H}{ds:List (DataW H)}(h:d∈ds):Rows.uptoBulk d<=Rows.uptoBulkAll ds:=by
 induction ds with| nil=>cases h| cons e ds a=>
  simp only[Rows.uptoBulkAll];rcases ef.1 h with rfl | h
  ·omega
  have:=a h;omega
def OS(es a:List (DataW H)):es.length<=Rows.uptoBulk (.slice es a) /\∀d∈es,Rows.uptoBulk d<=Rows.uptoBulk (.slice es a):=by
 have e:Rows.uptoBulk (.slice es a)=Rows.uptoBulkAll es+Rows.uptoBulkAll a+1:=by simp[Rows.uptoBulk]
 rw[e];refine⟨by have:=MC es;omega,λd hd=>by have:=zN hd;omega⟩
def Vp(ps:List (DataW H)) : ∀d∈ps,Rows.uptoBulk d<=Rows.uptoBulk (.agg ps):=by
 have e:Rows.uptoBulk (.agg ps)=Rows.uptoBulkAll ps+1:=by simp[Rows.uptoBulk]
 rw[e];exact λd hd=>by have:=zN hd;omega
def OR{ds a:List (DataW H)}(h:Rows.uptoSmall H (ds++a)=true) : ∀d∈ds,Rows.uptoBulk d<=1048576:=by
 intro d hd;have b:Rows.uptoBulkAll (ds++a)<=1048576:=iQB h;exact vj (zN (D3 _ hd)) b
end
end Go.Proofs.YtmjkpdknicjjgaaGreat
namespace Go.Ab
def F2(R:AV->AV->Prop):List AV->List AV->Prop
 | [],[]=>True
 | x :: xs,y :: ys=>R x y/\F2 R xs ys
 | _,_=>False
def F2.len{R:AV->AV->Prop} : ∀ {a ys:List AV},F2 R a ys->a.length=ys.length
 | [],[],_=>rfl
 | _ :: a,_ :: ys,h=>by simp only[iA];rw[F2.len h.2]
 | [],_ :: _,h=>h.elim
 | _ :: _,[],h=>h.elim
def F2.mono{R b:AV->AV->Prop} : ∀ {a ys:List AV},(∀x∈a,∀y,R x y->b x y)->F2 R a ys->F2 b a ys
 | [],[],_,_=>trivial
 | x :: a,y :: ys,c,h=>⟨c x (by simp) y h.1,F2.mono (λx d=>c x (by simp[d])) h.2⟩
 | [],_ :: _,_,h=>h.elim
 | _ :: _,[],_,h=>h.elim
def F2.mapM{R:AV->AV->Prop}{f:AV->Option AV}{h:AV->AV}(c : ∀x y,R x y->f x=some (h y)) : ∀ {a ys:List AV},F2 R a ys->a.mapM f=some (ys.map h)
 | [],[],_=>rfl
 | x :: a,y :: ys,b=>by rw[na,c x y b.1,F2.mapM c b.2];rfl
 | [],_ :: _,h=>h.elim
 | _ :: _,[],h=>h.elim
def F2.app{R:AV->AV->Prop} : ∀ {c ys b a:List AV},F2 R c ys->F2 R b a->F2 R (c++b) (ys++a)
 | [],[],_,_,_,h=>h
 | _ :: c,_ :: ys,_,_,h,d=>⟨h.1,F2.app h.2 d⟩
 | [],_ :: _,_,_,h,_=>h.elim
 | _ :: _,[],_,_,h,_=>h.elim
def F2.split{R:AV->AV->Prop} : ∀ {A':List AV} {a B':List AV},F2 R a (A'++B') ->∃A B,a=A++B/\F2 R A A'/\F2 R B B'
 | [],a,B',h=>⟨[],a,rfl,trivial,h⟩
 | d :: A',[],B',h=>h.elim
 | d :: A',x :: a,B',h=>by
  obtain⟨A,B,e,c,b⟩:=F2.split (A':=A') h.2;exact⟨x :: A,B,by rw[e];rfl,⟨h.1,c⟩,b⟩
def F2.at{R:AV->AV->Prop} : ∀ {a ys:List AV},F2 R a ys ->∀ {i:Nat} {y:AV},ys[i]?=some y ->∃x,a[i]?=some x/\R x y
 | [],[],_,i,y,h=>by simp at h
 | x :: a,y :: ys,b,0,c,h=>by cases h;exact⟨x,rfl,b.1⟩
 | x :: a,y :: ys,b,i+1,c,h=>F2.at b.2 h
 | [],_ :: _,h,_,_,_=>h.elim
 | _ :: _,[],h,_,_,_=>h.elim
def zr:AV->Bool
 | .v _ | .bq .. => true
 | _=>false
def DC(g:cL)(x y:AV):Prop:=(x=y/\zr y=true) \/∃r z l c,x = .bA r 0 l.length c/\y = .fsl z l c/\g r=some ⟨z,l,true,false⟩/\z≠0
def DE(g:cL)(x y:AV):Prop :=∃a ys,x = .agg a/\y = .agg ys/\F2 (DC g) a ys
def iX:AV->List Ref
 | .bA r _ _ _=>[r]
 | _=>[]
def gf:AV->List Ref
 | .agg xs=>xs.flatMap iX
 | _=>[]
def Pw:AV->AV
 | .fsl z l c => .bq z l c
 | x=>x
def Cd:AV->AV
 | .agg ys => .agg (ys.map Pw)
 | x=>x
def DC.view{g:cL}{x y:AV}(h:DC g x y)(n:Nat):view g (n+1) x=some (Pw y):=by
 rcases h with ⟨rfl,h⟩ | ⟨r,z,l,c,rfl,rfl,a,_⟩
 ·cases x<;>first | rfl | cases h
 simp[Ab.view,a,Pw]
def DC.export{g:cL}{x y:AV}(h:DC g x y)(n:Nat):bJ g (n+1) x=some y:=by
 rcases h with ⟨rfl,h⟩ | ⟨r,z,l,c,rfl,rfl,a,_⟩
 ·cases x<;>first | rfl | cases h
 simp[bJ,a]
def DC.refs{g:cL}{x y:AV}(h:DC g x y)(n:Nat):af g (n+1) x=iX x:=by
 rcases h with ⟨rfl,h⟩ | ⟨r,z,l,c,rfl,rfl,a,_⟩
 ·cases x<;>first | rfl | cases h
 rfl
def DC.bk{g a:cL}{x y:AV}(h:DC g x y)(e : ∀q∈iX x,∀b,g q=some b->a q=some b):DC a x y:=by
 rcases h with h | ⟨r,z,l,c,rfl,rfl,f,d⟩
 ·exact .inl h
 exact .inr ⟨r,z,l,c,rfl,rfl,e r (by simp[iX]) _ f,d⟩
def F2.refs{g:cL}{R:AV->AV->Prop}{f h:AV->List Ref}(c : ∀x y,R x y->f x=h x) : ∀ {a ys:List AV},F2 R a ys->a.flatMap f=a.flatMap h
 | [],[],_=>rfl
 | x :: a,y :: ys,b=>by rw[lU,lU,c x y b.1,F2.refs (g:=g) c b.2]
 | [],_ :: _,h=>h.elim
 | _ :: _,[],h=>h.elim
def DE.view{g:cL}{x y:AV}(h:DE g x y)(n:Nat):view g (n+2) x=some (Cd y):=by
 obtain⟨xs,ys,rfl,rfl,h⟩:=h;show(xs.mapM (Ab.view g (n+1))).map AV.agg=_;rw[F2.mapM (R:=DC g) (f:=Ab.view g (n+1)) (h:=Pw) (λx y a=>DC.view a n) h];rfl
def DE.export{g:cL}{x y:AV}(h:DE g x y)(n:Nat):bJ g (n+2) x=some y:=by
 obtain⟨xs,ys,rfl,rfl,h⟩:=h;show(xs.mapM (bJ g (n+1))).map AV.agg=_;rw[F2.mapM (R:=DC g) (f:=bJ g (n+1)) (h:=id) (λx y a=>DC.export a n) h];simp
def DE.refs{g:cL}{x y:AV}(h:DE g x y)(n:Nat):af g (n+2) x=gf x:=by
 obtain⟨xs,ys,rfl,rfl,h⟩:=h;simp only[af,gf];exact F2.refs (g:=g) (R:=DC g) (f:=af g (n+1)) (h:=iX) (λx y a=>DC.refs a n) h
def DE.bk{g a:cL}{x y:AV}(h:DE g x y)(e : ∀q∈gf x,∀b,g q=some b->a q=some b):DE a x y:=by
 obtain⟨xs,ys,rfl,rfl,h⟩:=h;exact⟨xs,ys,rfl,rfl,F2.mono (λx c y i=>DC.bk i λq d b f=>e q (by simp only[gf,gC];exact⟨x,c,d⟩) b f) h⟩
def DC.live{g:cL}{x y:AV}(h:DC g x y) : ∀q∈iX x,∃b,g q=some b:=by
 rcases h with ⟨rfl,h⟩ | ⟨r,z,l,c,rfl,rfl,d,e⟩
 ·intro q a;cases x<;>first | (simp[iX]at a;done) | cases h
 intro q a;simp[iX]at a;subst a;exact⟨_,d⟩
def F2.live{g:cL}{R:AV->AV->Prop}{f:AV->List Ref}(e : ∀x y,R x y ->∀q∈f x,∃b,g q=some b) : ∀ {c ys:List AV},F2 R c ys ->∀q∈c.flatMap f,∃b,g q=some b
 | [],[],_,q,a=>by simp at a
 | x :: c,y :: ys,d,q,a=>by
  rw[lU,kQ]at a;rcases a with a | a
  ·exact e x y d.1 q a
  exact F2.live e d.2 q a
 | [],_ :: _,h,_,_=>h.elim
 | _ :: _,[],h,_,_=>h.elim
def DE.live{g:cL}{x y:AV}(h:DE g x y) : ∀q∈gf x,∃b,g q=some b:=by
 obtain⟨xs,ys,rfl,rfl,h⟩:=h;exact F2.live (λx y a=>DC.live a) h
def nL(z:Nat)(H:aa)(s:AV)(es':List AV)(rs:List Ref):Prop:=
 (s = .v (.slice none 0 0)/\es'=[]/\rs=[])\/(∃r,s = .bA r 0 0 (some 0)/\es'=[]/\rs=[r]/\H.get r=some ⟨z,[],true,false⟩) \/
 ∃r es,s = .dsl r 0 es.length none/\es≠[]/\H.get r=some ⟨z,es,false,false⟩/\F2 (DE H.get) es es'/\rs=r :: es.flatMap gf/\rs.Nodup
def BQ(z:Nat)(es':List AV)(y:AV):Prop:=(y = .v (.slice none 0 0)/\es'=[])\/(y = .fsl z [] (some 0)/\es'=[])\/(y = .nsl z es' none/\es'≠[])
def yh(z:Nat)(s:AV)(es':List AV):AV:=match s with
 | .bA _ _ _ c => .fsl z [] c
 | .dsl _ _ _ c => .nsl z es' c
 | s=>s
def xc:AV->AV
 | .fsl z l c => .bq z l c
 | .nsl z es c => .bq z (es.map Cd) c
 | x=>x
def nL.bk{z:Nat}{H H':aa}{s:AV}{es':List AV}{rs:List Ref}(h:nL z H s es' rs)(c : ∀q∈rs,∀b,H.get q=some b->H'.get q=some b):nL z H' s es' rs:=by
 rcases h with h | ⟨r,e,a,rfl,d⟩ | ⟨r,es,e,a,f,d,rfl,l⟩
 ·exact .inl h
 ·exact .inr (.inl ⟨r,e,a,rfl,c r (by simp) _ d⟩)
 exact .inr (.inr ⟨r,es,e,a,c r (by simp) _ f,F2.mono (λx g y k=>DE.bk k λq i b j=>c q (by simp only[ef,gC];exact .inr ⟨x,g,i⟩) b j) d,rfl,l⟩)
def nL.live{z:Nat}{H:aa}{s:AV}{es':List AV}{rs:List Ref}(h:nL z H s es' rs) : ∀q∈rs,∃b,H.get q=some b:=by
 rcases h with ⟨_,_,rfl⟩ | ⟨r,g,e,rfl,c⟩ | ⟨r,es,g,e,d,c,rfl,i⟩
 ·intro q a;cases a
 ·intro q a;simp at a;subst a;exact⟨_,c⟩
 intro q a;rcases ef.1 a with rfl | a
 ·exact⟨_,d⟩
 exact F2.live (λx y f=>DE.live f) c q a
def nL.nodup{z:Nat}{H:aa}{s:AV}{es':List AV}{rs:List Ref}(h:nL z H s es' rs):rs.Nodup:=by
 rcases h with ⟨_,_,rfl⟩ | ⟨r,d,a,rfl,b⟩ | ⟨r,es,d,a,e,b,rfl,c⟩
 ·simp
 ·simp
 exact c
def nL.out{z:Nat}{H:aa}{s:AV}{es':List AV}{rs:List Ref}(h:nL z H s es' rs)(n:Nat) :
 bJ H.get (n+3) s=some (yh z s es')/\view H.get (n+3) s=some (xc (yh z s es'))/\af H.get (n+3) s=rs/\BQ z es' (yh z s es'):=by
 rcases h with ⟨rfl,rfl,rfl⟩ | ⟨r,rfl,rfl,rfl,a⟩ | ⟨r,es,rfl,m,i,a,rfl,q⟩
 ·exact⟨rfl,rfl,rfl,.inl ⟨rfl,rfl⟩⟩
 ·refine⟨?_,?_,rfl,.inr (.inl ⟨rfl,rfl⟩)⟩;·simp[bJ,a,yh]
  simp[view,a,yh,xc]
 have j:=a.len;have d:es'≠[]:=(by intro e;rw[e]at j;exact m (sK.1 j));have p:=F2.mapM (R:=DE H.get) (f:=bJ H.get (n+2)) (h:=id) (λx y c=>DE.export c n) a;have o:=F2.mapM (R:=DE H.get) (f:=Ab.view H.get (n+2)) (h:=Cd) (λx y c=>DE.view c n) a;have k:=F2.refs (g:=H.get) (R:=DE H.get) (f:=af H.get (n+2)) (h:=gf) (λx y c=>DE.refs c n) a;refine⟨?_,?_,?_,.inr (.inr ⟨rfl,d⟩)⟩
 ·show(match H.get r with
   | some b=>if b.arr=false/\es.length=b.es.length then (if b.gB then (b.es.mapM (view H.get (n+2))).map λes=>AV.bq b.esz es none else (b.es.mapM (bJ H.get (n+2))).map λes=>AV.nsl b.esz es none) else none
   | none=>none)=_
  rw[i];simp only[p];simp[yh]
 ·show(match H.get r with
   | some b=>if b.arr=false/\0+es.length<=b.es.length then (b.es.mapM (view H.get (n+2))).map λ(l:List AV)=>AV.bq b.esz ((l.drop 0).take es.length) none else none
   | none=>none)=_
  rw[i];simp only[o];simp[yh,xc];rw[j,show es'.length=(es'.map Cd).length from(zg _).symm,BT]
 show(r :: (match H.get r with | some b=>b.es.flatMap (af H.get (n+2)) | none=>[]))=_;rw[i];simp only[k]
def nL.len{z:Nat}{H:aa}{s:AV}{es':List AV}{rs:List Ref}(h:nL z H s es' rs):sT s=some es'.length:=by
 rcases h with ⟨rfl,rfl,rfl⟩ | ⟨r,rfl,rfl,rfl,a⟩ | ⟨r,es,rfl,c,b,a,rfl,d⟩
 ·rfl
 ·rfl
 simp[sT,a.len]
def At(g:cL)(r:Ref)(k:Nat)(bs:List aY):Prop :=∀i b,bs[i]?=some b->g { r with k:=k+i}=some b
def VB{g:cL}{r:Ref}{k:Nat}{a bs:List aY}(h:At g r k (a++bs)):At g r k a:=λi b hi=>h i b (by rw[jG (dT.1 hi).1];exact hi)
def VA{g:cL}{r:Ref}{k:Nat}{a bs:List aY}(h:At g r k (a++bs)):At g r (k+a.length) bs:=λi b hi=>by
 have:=h (a.length+i) b (by rw[ic (by omega),show a.length+i - a.length=i by omega];exact hi);rw[Fp];exact this
def rF(r:Ref)(k n:Nat):List Ref:=(List.range' k n).map λk => { r with k:=k}
def Iy(r:Ref)(k m n:Nat):rF r k m++rF r (k+m) n=rF r k (m+n):=by
 unfold rF;rw[<-xF];congr 1;have:=List.range'_append (s:=k) (m:=m) (n:=n) (step:=1);simpa using this
def Lh(r:Ref)(k n:Nat):(rF r k n).Nodup:=by
 unfold rF;rw[List.nodup_iff_pairwise_ne,List.pairwise_map];refine List.Pairwise.imp ?_ (List.nodup_iff_pairwise_ne.1 (List.nodup_range' (s:=k) (n:=n)));intro a b h e;exact h (iQf Ref.k e)
def IG{r q:Ref}{k n:Nat}(h:q∈rF r k n):q.d=r.d/\q.t=r.t/\q.g=r.g/\k<=q.k/\q.k<k+n:=by
 unfold rF at h;obtain⟨i,hi,rfl⟩:=j6.1 h;have:=List.mem_range'_1.1 hi;exact⟨rfl,rfl,rfl,this.1,this.2⟩
def Imp(R:cL->AV->AV->Prop)(rf:AV->List Ref)(r:Ref)(n:Nat)(y:AV):Prop :=∀bs,∃x add,aj r n y bs=(x,bs++add)/\(∀g,At g r bs.length add->R g x y)/\rf x=rF r bs.length add.length
def LQ{R:cL->AV->AV->Prop}{rf:AV->List Ref}{r:Ref}{n:Nat} : ∀(ys:List AV),(∀y∈ys,Imp R rf r n y) ->∀(a:List AV)(bs:List aY),
 ∃b add,ys.foldl (λ(p:List AV × List aY) c=>let (y,bs):=aj r n c p.2;(p.1++[y],bs)) (a,bs)=(a++b,bs++add)/\(∀g,At g r bs.length add->F2 (R g) b ys)/\b.flatMap rf=rF r bs.length add.length:=by
 intro ys;induction ys with
 | nil=>intro _ a bs;exact⟨[],[],by simp,λg _=>trivial,by simp[rF]⟩
 | cons y ys f=>
  intro h a bs;obtain⟨x,d,k,i,l⟩:=h y (by simp) bs;obtain⟨b,m,f1,f2,f3⟩:=f (λy j=>h y (by simp[j])) (a++[x]) (bs++d);refine⟨x :: b,d++m,?_,λg e=>⟨i g (VB e),f2 g ?_⟩,?_⟩;·simp only[rB,k,f1];simp
  ·have:=VA e;rw[ju];exact this
  rw[lU,l,f3,ju,Iy,ju]
def UZ:AV->Bool
 | .v _ | .bq .. => true
 | .fsl z _ _=>z != 0
 | _=>false
def Oi:AV->Bool
 | .agg ys=>ys.all UZ
 | _=>false
def XX{y:AV}(h:UZ y=true)(r:Ref)(n:Nat):Imp DC iX r (n+1) y:=by
 intro bs;cases y<;>first | cases h | skip
 ·exact⟨_,[],by simp[aj],λg _ => .inl ⟨rfl,rfl⟩,by simp[rF,iX]⟩
 ·exact⟨_,[],by simp[aj],λg _ => .inl ⟨rfl,rfl⟩,by simp[rF,iX]⟩
 rename_i z l c;have a:z≠0:=by simpa [UZ] using h
 refine⟨.bA { r with k:=bs.length} 0 l.length c,[⟨z,l,true,false⟩],by simp[aj,a],λg b => .inr ⟨_,z,l,c,rfl,rfl,?_,a⟩,by simp[rF,iX]⟩;have:=b 0 _ rfl;simpa using this
def XW{y:AV}(h:Oi y=true)(r:Ref)(n:Nat):Imp DE gf r (n+2) y:=by
 intro bs;cases y<;>first | cases h | skip
 rename_i ys;obtain⟨xs,add,f,b,a⟩:=LQ (R:=DC) (rf:=iX) (r:=r) (n:=n+1) ys (λy i=>XX (dY.1 h y i) r n) [] bs;refine⟨.agg xs,add,?_,λg d=>⟨xs,ys,rfl,rfl,b g d⟩,a⟩;have e:aj r (n+2) (.agg ys) bs=(λp:List AV × List aY=>(AV.agg p.1,p.2)) (ys.foldl (λ(p:List AV × List aY) c=>let (y,bs):=aj r (n+1) c p.2;(p.1++[y],bs)) ([],bs)):=rfl;rw[e,f];rfl
def BQ.imp{z:Nat}{es':List AV}{y:AV}(o:z≠0)(h:BQ z es' y)(u : ∀e∈es',Oi e=true)(r:Ref)(n:Nat)(bs:List aY) :
 ∃s add,aj r (n+3) y bs=(s,bs++add)/\(∀H:aa,At H.get r bs.length add ->∃rs,nL z H s es' rs/\(∀q∈rs,q∈rF r bs.length add.length)/\yh z s es'=y):=by
 rcases h with ⟨rfl,rfl⟩ | ⟨rfl,rfl⟩ | ⟨rfl,f⟩
 ·exact⟨_,[],by simp[aj],λH _=>⟨[],.inl ⟨rfl,rfl,rfl⟩,(λq a=>by cases a),rfl⟩⟩
 ·refine⟨.bA { r with k:=bs.length} 0 0 (some 0),[⟨z,[],true,false⟩],by simp[aj,o],λH b=>⟨[{ r with k:=bs.length}],.inr (.inl ⟨_,rfl,rfl,rfl,by simpa using b 0 _ rfl⟩),λq a=>?_,rfl⟩⟩;simpa [rF] using a
 obtain⟨xs,add,l,t,j⟩:=LQ (R:=DE) (rf:=gf) (r:=r) (n:=n+2) es' (λy m=>XW (u y m) r n) [] bs;refine⟨.dsl { r with k:=bs.length+add.length} 0 es'.length none,add++[⟨z,xs,false,false⟩],?_,λH b=>?_⟩;·have e:aj r (n+3) (.nsl z es' none) bs=(λp:List AV × List aY=>(AV.dsl { r with k:=p.2.length} 0 es'.length none,p.2++[⟨z,p.1,false,false⟩])) (es'.foldl (λ(p:List AV × List aY) c=>let (y,bs):=aj r (n+2) c p.2;(p.1++[y],bs)) ([],bs)):=rfl;rw[e,l];simp
 have g:=t H.get (VB b);have d:=g.len;have v:=VA b 0 _ rfl;refine⟨{ r with k:=bs.length+add.length} :: rF r bs.length add.length,.inr (.inr ⟨_,xs,by rw[d],?_,by simpa using v,g,by rw[j],?_⟩),λq a=>?_,rfl⟩;·intro e;rw[e]at d;exact f (sK.1 d.symm)
 ·refine wC.2 ⟨λi=>?_,Lh _ _ _⟩;have:=(IG i).2.2.2.2;simp only at this;omega
 rw[ju,Fy,<-Iy];rcases ef.1 a with rfl | a
 ·simp[rF]
 simp[a]
def jR(z:Nat)(H:aa)(r:Ref)(es':List AV)(rs:List Ref):Prop :=∃es,H.get r=some ⟨z,es,false,false⟩/\F2 (DE H.get) es es'/\rs=r :: es.flatMap gf/\rs.Nodup
def jR.row{z:Nat}{H:aa}{r:Ref}{es':List AV}{rs:List Ref}(h:jR z H r es' rs)(a:es'≠[]):nL z H (.dsl r 0 es'.length none) es' rs:=by
 obtain⟨es,g,b,d,f⟩:=h;have c:=b.len;exact .inr (.inr ⟨r,es,by rw[c],λe=>a (sK.1 (by rw[<-c,e];rfl)),g,b,d,f⟩)
def jR.bk{z:Nat}{H H':aa}{r:Ref}{es':List AV}{rs:List Ref}(h:jR z H r es' rs)(a : ∀q∈rs,∀b,H.get q=some b->H'.get q=some b):jR z H' r es' rs:=by
 obtain⟨es,c,i,rfl,j⟩:=h;exact⟨es,a r (by simp) _ c,F2.mono (λx d y g=>DE.bk g λq e b f=>a q (by simp only[ef,gC];exact .inr ⟨x,d,e⟩) b f) i,rfl,j⟩
def jR.live{z:Nat}{H:aa}{r:Ref}{es':List AV}{rs:List Ref}(h:jR z H r es' rs) : ∀q∈rs,∃b,H.get q=some b:=by
 obtain⟨es,c,e,rfl,f⟩:=h;intro q a;rcases ef.1 a with rfl | a
 ·exact⟨_,c⟩
 exact F2.live (λx y d=>DE.live d) e q a
def GC{g:cL}{ys:List AV}(h:ys.all zr=true):DE g (.agg ys) (.agg ys):=by
 refine⟨ys,ys,rfl,rfl,?_⟩;induction ys with
 | nil=>trivial
 | cons y ys a=>simp only[yB,bt]at h;exact⟨.inl ⟨rfl,h.1⟩,a h.2⟩
def DD{ys:List AV}(h:ys.all zr=true):gf (.agg ys)=[]:=by
 show ys.flatMap iX=[];induction ys with
 | nil=>rfl
 | cons y ys a=>simp only[yB,bt]at h;rw[lU,a h.2];cases y<;>first | rfl | (exact absurd h.1 (by simp[zr]))
def Uj{g:cL}{es:List AV}(h : ∀e∈es,∃ys,e = .agg ys/\ys.all zr=true):F2 (DE g) es es/\es.flatMap gf=[]:=by
 induction es with| nil=>exact⟨trivial,rfl⟩| cons e es c=>obtain⟨ys,rfl,a⟩:=h e (by simp);obtain⟨f,b⟩:=c λe d=>h e (by simp[d]);exact⟨⟨GC a,f⟩,by rw[lU,b,DD a];rfl⟩
def Cc{b:Type}{l:List b}{i:Nat}{a:b}(h:l[i]?=some a):l=l.take i++a :: l.drop (i+1):=by
 obtain⟨hi,rfl⟩:=dT.1 h;rw[<-Nc hi,AB]
def Kz{A B a:List AV}{i j:Nat}{v:AV}(hi:A.length=i)(b:j<a.length):gr (A ++ .agg a :: B) i j [v]=some (A ++ .agg (patch a j [v]) :: B):=by
 subst hi;unfold gr;rw[ic (bg _),rz];simp only[Jm,HB,Fy];rw[if_pos (by omega)];simp only[Dd _ _ (bg _),rz,Db,Option.map_some]
def IB{a b:List AV}{x v:AV}{j:Nat}(h:a.length=j):patch (a++x :: b) j [v]=a++v :: b:=by
 subst h;simp[patch]
def jR.at{z:Nat}{H:aa}{r:Ref}{es':List AV}{rs:List Ref}(h:jR z H r es' rs){i:Nat}{ys:List AV}(hi:es'[i]?=some (.agg ys)) :
 ∃es a,H.get r=some ⟨z,es,false,false⟩/\es.length=es'.length/\es[i]?=some (.agg a)/\F2 (DC H.get) a ys /\∀q∈a.flatMap iX,q∈rs:=by
 obtain⟨es,g,c,d,l⟩:=h;obtain⟨x,b,a,f,rfl,e,k⟩:=c.at hi;cases e;refine⟨es,a,g,c.len,b,k,λq j=>?_⟩;rw[d];simp only[ef,gC];exact .inr ⟨_,fZ b,by simpa [gf] using j⟩
def jR.set{z:Nat}{H:aa}{r:Ref}{es':List AV}{rs:List Ref}(h:jR z H r es' rs){i j:Nat}{ys:List AV}(hi:es'[i]?=some (.agg ys))(hj:j<ys.length){q:Ref}(R:H.get q=none)(v:Nat)(hz:v≠0)(l:List AV)(c:Option Nat) :
 ∃es w,H.get r=some ⟨z,es,false,false⟩/\es.length=es'.length/\gr es i j [.bA q 0 l.length c]=some w /\
  ∀H':aa,H'.get r=some ⟨z,w,false,false⟩->H'.get q=some ⟨v,l,true,false⟩->(∀p b,p≠r->H.get p=some b->H'.get p=some b) ->
   ∃E,jR z H' r (es'.set i (.agg (patch ys j [.fsl v l c]))) E /\∀p∈E,p∈rs\/p=q:=by
 have t:=h.live;obtain⟨es,V,W,L,G⟩:=h;have U:=Cc hi;have hil:i<es'.length:=(dT.1 hi).1;have m:(es'.take i).length=i:=by rw[j7];omega
 generalize es'.take i=A' at *;generalize es'.drop (i+1)=B' at *;subst U;obtain⟨A,C,rfl,Y,P⟩:=F2.split W;match C,P with
 | x :: B,P=>
 obtain⟨⟨xs,ys',rfl,e,Z⟩,hB⟩:=P;cases e;have S:A.length=i:=by rw[Y.len,m]
 obtain⟨y,hy⟩ : ∃y,ys[j]?=some y:=⟨_,de hj⟩;have T:=Cc hy;have D:(ys.take j).length=j:=by rw[j7];omega
 generalize ys.take j=Y1 at *;generalize ys.drop (j+1)=Y2 at *;subst T;obtain⟨f,X3,rfl,J,s⟩:=F2.split Z;match X3,s with
 | x0 :: g,s=>
 have I:f.length=j:=by rw[J.len,D]
 refine⟨_,_,V,W.len,Kz S (by simp;omega),λH' X g2 g3=>?_⟩;rw[IB I]at X;have K:(A' ++ .agg (Y1++y :: Y2) :: B').set i (.agg (patch (Y1++y :: Y2) j [.fsl v l c]))=A' ++ .agg (Y1 ++ .fsl v l c :: Y2) :: B':=by
  rw[IB D,Dd _ _ (by omega),m,rz,Db]
 rw[K];have d : ∀p,p∈A.flatMap gf\/p∈f.flatMap iX\/p∈g.flatMap iX\/p∈B.flatMap gf->p∈rs/\p≠r:=by
  intro p hp;have:p∈(A ++ .agg (f++x0 :: g) :: B).flatMap gf:=by
   simp only[BW,lU,kQ,gf];rcases hp with hp | hp | hp | hp
   ·exact .inl hp
   ·exact .inr (.inl (.inl hp))
   ·exact .inr (.inl (.inr (.inr hp)))
   exact .inr (.inr hp)
  rw[L]at G;exact⟨by rw[L];exact iS _ this,λe=>(wC.1 G).1 (e ▸ this)⟩
 have M : ∀p,p∈A.flatMap gf\/p∈f.flatMap iX\/p∈g.flatMap iX\/p∈B.flatMap gf ->∀b,H.get p=some b->H'.get p=some b:=λp hp b k=>g3 p b (d p hp).2 k;have Q:q≠r:=by
  intro e;rw[e,V]at R;cases R
 refine⟨r :: (A ++ .agg (f ++ .bA q 0 l.length c :: g) :: B).flatMap gf,⟨_,X,?_,rfl,?_⟩,?_⟩;·refine F2.app (F2.mono (λx n y o=>DE.bk o λp hp b k=>M p (.inl (gC.2 ⟨x,n,hp⟩)) b k) Y) ⟨⟨_,_,rfl,rfl,F2.app (F2.mono (λx n y o=>DC.bk o λp hp b k=>M p (.inr (.inl (gC.2 ⟨x,n,hp⟩))) b k) J) ⟨.inr ⟨q,v,l,c,rfl,rfl,g2,hz⟩,F2.mono (λx n y o=>DC.bk o λp hp b k=>M p (.inr (.inr (.inl (gC.2 ⟨x,n,hp⟩)))) b k) s.2⟩⟩,F2.mono (λx n y o=>DE.bk o λp hp b k=>M p (.inr (.inr (.inr (gC.2 ⟨x,n,hp⟩)))) b k) hB⟩
 ·rw[L]at G;have e1:(A ++ .agg (f++x0 :: g) :: B).flatMap gf=A.flatMap gf++(f.flatMap iX++(iX x0++(g.flatMap iX++B.flatMap gf))):=by simp[gf,BW,lU]
  have O:(A ++ .agg (f ++ .bA q 0 l.length c :: g) :: B).flatMap gf=A.flatMap gf++(f.flatMap iX++(q :: (g.flatMap iX++B.flatMap gf))):=(by simp[gf,BW,lU,iX]);rw[e1]at G;rw[O];have F:(r :: (A.flatMap gf++(f.flatMap iX++(g.flatMap iX++B.flatMap gf)))).Sublist (r :: (A.flatMap gf++(f.flatMap iX++(iX x0++(g.flatMap iX++B.flatMap gf))))):=
   List.Sublist.cons_cons _ (iQU (List.Sublist.refl _) (iQU (List.Sublist.refl _) (List.sublist_append_right _ _)))
  have hn:=G.sublist F;have u:(r :: (A.flatMap gf++(f.flatMap iX++(q :: (g.flatMap iX++B.flatMap gf))))).Perm (q :: (r :: (A.flatMap gf++(f.flatMap iX++(g.flatMap iX++B.flatMap gf))))):=(by have:=List.perm_middle (a:=q) (l₁:=r :: (A.flatMap gf++f.flatMap iX)) (l₂:=g.flatMap iX++B.flatMap gf);simpa [qq] using this);refine u.nodup_iff.2 (wC.2 ⟨λN=>?_,hn⟩);rcases ef.1 N with rfl | N
  ·exact Q rfl
  have:q∈rs:=(d q (by simp only[kQ]at N;exact N)).1;obtain⟨b,k⟩:=t q this;rw[R]at k;cases k
 intro p hp;rcases ef.1 hp with rfl | hp
 ·exact .inl (by rw[L];simp)
 have O:(A ++ .agg (f ++ .bA q 0 l.length c :: g) :: B).flatMap gf=A.flatMap gf++(f.flatMap iX++(q :: (g.flatMap iX++B.flatMap gf))):=(by simp[gf,BW,lU,iX]);rw[O]at hp;simp only[kQ,ef]at hp;rcases hp with hp | hp | hp | hp | hp
 ·exact .inl (d p (.inl hp)).1
 ·exact .inl (d p (.inr (.inl hp))).1
 ·exact .inr hp
 ·exact .inl (d p (.inr (.inr (.inl hp)))).1
 exact .inl (d p (.inr (.inr (.inr hp)))).1
@[simp] def Sv{P:Program}{t:TypeId}(h:oc P t=true)(g:cL)(r:Ref)(o n:Nat)(c:Option Nat)(b:IntKind)(k:Int) :
 bK P g t (some (.dsl r o n c)) (some (.v (.int b k)))=abA (jm P t) o n k r (g r):=by
 unfold oc at h;obtain⟨e,zz,d,a,f,m,i,p,l,j⟩:=fB h;simp only[bK,dX,tC,d,a];cases g r<;>rfl
@[simp] def ac8(r:Ref)(o n:Nat)(c:Option Nat):sT (.dsl r o n c)=some n:=id rfl
@[simp] def adu(r:Ref)(o n:Nat)(c:Option Nat):(AV.dsl r o n c).cells=[.dsl r o n c]:=id rfl
@[simp] def agL(r:Ref)(o n:Nat)(c:Option Nat):(AV.dsl r o n c).one=true:=id rfl
def lpO(o:Option aY):Option (Nat × AV):=match o with
 | some ⟨0,[.v (.int .i64 st),inf],_,_⟩=>some (st.toNat,inf)
 | _=>none
def qI(H:aa)(r:Ref):xq H r=lpO (H.get r):=rfl
@[simp] def zC(st:Nat)(a:AV):lpO (some (dW st a))=some (st,a):=by
 simp[lpO,dW]
def Vx(a:AV)(K:AV->Prop)(m:Mk K):bgP (some (0,a)) K m↔K a:=by
 constructor;·rintro⟨info,e,h⟩;simp only[dV,sI,iQt]at e;subst e;exact h
 intro h;exact⟨a,rfl,h⟩
attribute [simp] Vx
def UF(H:aa)(r:Ref)(st:Nat)(a:AV):xq (H.put r (some (dW st a))) r=some (st,a):=by
 rw[qI,aa.ab,if_pos rfl,zC]
def IJ{E:Env}{fn:Func}{dep nt:Nat}{r:Ref}{f:FuncId}{ps:List Tmp}{assign body:Code}{tm:List AV}{args:List AV}{H:aa}{Q:AV->aa->Prop}
 (i:H.get r=some (dW 0 (.lp f nt ps assign body tm))) (c:fn.ntmps=nt) (hp:args.length=ps.length) (b:ps.all (· < nt)=true) (j:codeOk E.ok assign=true) (g:codeOk E.ok body=true)
 (h:tS E fn (some r) (dep+1) [.code assign,.beginRound,.code body] (cX (uA tm ps args)) H λx H'=>x = .v (.int .i64 0) /\∃a,H'.get r=some (dW 1 a)/\Q (.v (.bool true)) (H'.put r (some (dW 0 a)))) :
 ∃y H',cD E dep (.yld r) args H=some (y,H')/\Q y H':=by
 refine UJ (by rw[qI,i];exact zC _ _) c hp b j g ?_;intro tm' d;obtain⟨y,H',⟨rfl,a,k,e⟩,n,c⟩:=h tm' d;exact⟨_,H',⟨0,rfl,a,_,by rw[qI,k];exact zC _ _,rfl,UF _ _ _ _,λ_=>e,λh=>absurd h (by decide),by decide⟩,n,c⟩
def Co{s:ed}{l:List (Nat × AV)}(h : ∀p∈l,s p.1=p.2):MP s l=s:=by
 induction l with| nil=>rfl| cons p l a=>
  obtain⟨j,v⟩:=p;funext i;show cond (Nat.beq i j) v (MP s l i)=s i;rw[a λp hp=>h p (iS _ hp)];cases b:Nat.beq i j with
  | false=>rfl
  | true=>have:=kF b;subst this;exact(h _ (gD ..)).symm
@[simp] def YT(r:Ref)(o n:Nat)(c:Option Nat)(y:AV):gr [AV.bA r o n c] 0 0 [y]=some [y]:=id rfl
@[simp] def ach(x:Value)(y:AV):gr [AV.v x] 0 0 [y]=some [y]:=id rfl
def zM{E:Env}(dep:Nat)(H:aa)(r q:Ref)(args:List AV):aV E true (ay E) (cD E dep) H r (some (.yld q)) args=cD E dep (.yld q) args H:=by
 simp[aV,kT,lD,Ei,nc]
end Go.Ab
namespace Go.Proofs.YtmjkpdknicjjgaaGreat
open Go.Ab
def fns:List FuncId:=[3,4,5,6,7,8,9,10,11,12,13,14,15,16,17,18,19,20,21,22,23,24,25,26,27,28,29,30,31,32,33,34,35,36,37,38,39,40,41,42,43,44,45,46,47,48,49,50,51,52,53,54,55,56,57,58,59,60,61,62,63,64,65,66,67,68,69,70,71,72,73,74,75,78,79,80,81,82,83,84,85,86,87,88,89,90,91,92,93,94,95,96,97,98,99,100,101,102,103,104,105,107,108,109,110,111,112,113,114,115,116,117,118,119,120,121,122,123,124,125,126,128,129,130,131,132,133,134,135,136,137,138,139,140,141,142,143,144,145,146,147,148,149,150,151,152,153,154,155]
def bk:List FuncId:=[23,43,45,66,72,85,112,131,132]
def jE:List FuncId:=[49,71,129,130]
def EL:List (FuncId × List AV × AV):=[]
def env:Env:=uM Tryz.prog fns bk jE (F7 [(19,13,18),(16,1,77777),(55,1,88888),(27,1,88888)]) (wZ [(49,9,0,[(6,50),(6,54)]),(81,5,9,[(82,8)]),(15,12,0,[(20,23)]),(52,10,0,[(56,58)]),(13,5,4,[(3,2)]),(67,5,4,[(3,2)]),(48,5,4,[(6,2)]),(7,6,0,[(3,5)]),(14,5,3,[(15,2)]),(35,21,0,[(36,52),(37,52),(38,52),(41,52),(42,52),(43,52),(47,52),(48,52),(49,52)]),(145,8,4,[(148,2)]),(21,10,4,[(23,3),(25,3)])]) (Nq [(19,13,18),(16,1,77777),(55,1,88888),(27,1,88888)]) EL (λ_=>false) (λ_=>none) (λf args H=>if f=49 then qN Tryz.prog 22 40 args H else none)
@[simp] def ad(h:aa)(n:Nat)(v:AV)(k:AV->Prop):Prop:=dL (nh env.P (aa.get h) n (some v)) k
@[simp] def bI(b:Bool)(h:aa)(n n2:Nat)(a:List AV)(k:AV->aa->Prop):Prop:=gh (aV env b (ay env) (cD env 0) h (Ref.mk 0 n (aa.gen h 0 n) 0) (some (AV.fn (Fn.func n2) [] [])) a) k
@[simp] def ak(n:Nat)(v:AV)(n2:Nat)(k:AV->Prop):Prop:=dL (iB env.P n (some v) n2) k
@[simp] def eA(h:aa)(n n2:Nat)(v:AV)(k:AV->aa->Prop):Prop:=gh (lD h (Ref.mk 0 n (aa.gen h 0 n) 0) (HU env.P (Ref.mk 0 n (aa.gen h 0 n) 0) n2 (some v))) k
@[simp] def jh(n n2:Nat)(i:Int)(v:AV)(k:AV->Prop):Prop:=dL (bN env.P .add n (Operand.tmp n2) (Operand.const (Value.int IntKind.i64 i)) (some v) (some (AV.v (Value.int IntKind.i64 i)))) k
@[simp] def dO(h:aa)(n n2:Nat)(v:AV)(k:AV->Prop):Prop:=dL (cO env.P false (aa.get h) (Ref.mk 0 n (aa.gen h 0 n) 0) .len #[n2] [v]) k
@[simp] def ct(v a:AV)(k:AV->Prop):Prop:=dL (zt (some v) (some a) (some (AV.v (Value.bool false)))) k
@[simp] def dy(h:aa)(n n2 a:Nat)(v:AV)(k:AV->Prop):Prop:=dL (bX env.P (aa.get h) (Ref.mk 0 n (aa.gen h 0 n) 0) n2 a (some v)) k
@[simp] def aT(h:aa)(n:Nat)(v a:AV)(k:AV->aa->Prop):Prop:=gh (iV env.P h n (some v) (some a)) k
@[simp] def iy(h:aa)(n n2:Nat)(k:AV->aa->Prop):Prop:=gh (lD h (Ref.mk 0 n (aa.gen h 0 n) 0) (uD env.P (Ref.mk 0 n (aa.gen h 0 n) 0) n2)) k
@[simp] def au(h:aa)(n:Nat)(v:AV):=nh env.P (aa.get h) n (some v)
@[simp] def gy(b:Bool)(h:aa)(n n2:Nat)(a:List AV):=aV env b (ay env) (cD env 0) h (Ref.mk 0 n (aa.gen h 0 n) 0) (some (AV.fn (Fn.func n2) [] [])) a
@[simp] def j5(n n2:Nat)(i:Int)(v:AV)(k:AV->Prop):Prop:=dL (bN env.P .neq n (Operand.tmp n2) (Operand.const (Value.int IntKind.i64 i)) (some v) (some (AV.v (Value.int IntKind.i64 i)))) k
@[simp] def dG(h:aa)(n n2 b:Nat)(v a:AV)(k:AV->aa->Prop):Prop:=gh (dm env.P true h (Ref.mk 0 n (aa.gen h 0 n) 0) (some n2) (some b) v a) k
@[simp] def cM(v a:AV)(k:AV->Prop):Prop:=dL (zt (some v) (some (AV.v (Value.bool true))) (some a)) k
@[simp] def az(n:Nat)(v:AV)(n2:Nat):=iB env.P n (some v) n2
@[simp] def fH(h:aa)(n:Nat)(v:AV)(i:Int)(k:AV->Prop):Prop:=dL (bK env.P (aa.get h) n (some v) (some (AV.v (Value.int IntKind.i64 i)))) k
@[simp] def m9(n n2:Nat)(i:Int)(v:AV):=bN env.P .geq n (Operand.tmp n2) (Operand.const (Value.int IntKind.i64 i)) (some v) (some (AV.v (Value.int IntKind.i64 i)))
@[simp] def fJ(n n2 b:Nat)(v a:AV)(k:AV->Prop):Prop:=dL (bN env.P .add n (Operand.tmp n2) (Operand.tmp b) (some v) (some a)) k
@[simp] def fQ(n n2 b:Nat)(v a:AV)(k:AV->Prop):Prop:=dL (bN env.P .lss n (Operand.tmp n2) (Operand.tmp b) (some v) (some a)) k
@[simp] def dF(h:aa)(n:Nat)(v a:AV)(k:AV->Prop):Prop:=dL (bK env.P (aa.get h) n (some v) (some a)) k
@[simp] def qn(n:Nat)(i:Int)(n2:Nat)(v:AV)(k:AV->Prop):Prop:=dL (bN env.P .mul n (Operand.const (Value.int IntKind.i64 i)) (Operand.tmp n2) (some (AV.v (Value.int IntKind.i64 i))) (some v)) k
@[simp] def ql(n n2:Nat)(i:Int)(v:AV):=bN env.P .lss n (Operand.tmp n2) (Operand.const (Value.int IntKind.i64 i)) (some v) (some (AV.v (Value.int IntKind.i64 i)))
@[simp] def sH(n n2:Nat)(i:Int)(v:AV)(k:AV->Prop):Prop:=dL (bN env.P .rem n (Operand.tmp n2) (Operand.const (Value.int IntKind.i64 i)) (some v) (some (AV.v (Value.int IntKind.i64 i)))) k
@[simp] def sG(n n2:Nat)(i:Int)(v:AV)(k:AV->Prop):Prop:=dL (bN env.P .lss n (Operand.tmp n2) (Operand.const (Value.int IntKind.i64 i)) (some v) (some (AV.v (Value.int IntKind.i64 i)))) k
@[simp] def bj(v:AV)(n:Nat)(k:AV->Prop):Prop:=dL (sP (some v) n) k
@[simp] def bp(h:aa)(v:AV)(n:Nat)(k:AV->Prop):Prop:=dL (xj env.P h v n) k
@[simp] def vh(n n2:Nat)(i:Int)(v:AV)(k:AV->Prop):Prop:=dL (bN env.P .quo n (Operand.tmp n2) (Operand.const (Value.int IntKind.i64 i)) (some v) (some (AV.v (Value.int IntKind.i64 i)))) k
@[simp] def ud(n n2:Nat)(i:Int)(v:AV):=bN env.P .eql n (Operand.tmp n2) (Operand.const (Value.int IntKind.i64 i)) (some v) (some (AV.v (Value.int IntKind.i64 i)))
@[simp] def vg(n n2:Nat)(i:Int)(v:AV)(k:AV->Prop):Prop:=dL (bN env.P .eql n (Operand.tmp n2) (Operand.const (Value.int IntKind.i64 i)) (some v) (some (AV.v (Value.int IntKind.i64 i)))) k
@[simp] def nz(h:aa)(n n2 b a:Nat)(v:AV)(k:AV->aa->Prop):Prop:=gh (lH env.P false true h (Ref.mk 0 n (aa.gen h 0 n) 0) n2 b (some [(a,v)])) k
@[simp] def kK(n n2 b:Nat)(v a:AV):=bN env.P .eql n (Operand.tmp n2) (Operand.tmp b) (some v) (some a)
@[simp] def vf(n n2:Nat)(i:Int)(v:AV):=bN env.P .neq n (Operand.tmp n2) (Operand.const (Value.int IntKind.i64 i)) (some v) (some (AV.v (Value.int IntKind.i64 i)))
@[simp] def wx(n n2:Nat)(i:Int)(v:AV)(k:AV->Prop):Prop:=dL (bN env.P .gtr n (Operand.tmp n2) (Operand.const (Value.int IntKind.i64 i)) (some v) (some (AV.v (Value.int IntKind.i64 i)))) k
@[simp] def wu(n n2:Nat)(i:Int)(v:AV)(k:AV->Prop):Prop:=dL (bN env.P .geq n (Operand.tmp n2) (Operand.const (Value.int IntKind.i64 i)) (some v) (some (AV.v (Value.int IntKind.i64 i)))) k
@[simp] def ee(n:Nat)(k:AV->Prop):Prop:=dL (nS env.P n (some [])) k
@[simp] def y9(n n2:Nat)(i:Int)(v:AV):=bN env.P .leq n (Operand.tmp n2) (Operand.const (Value.int IntKind.i64 i)) (some v) (some (AV.v (Value.int IntKind.i64 i)))
@[simp] def y8(n n2:Nat)(i:Int)(v:AV):=bN env.P .gtr n (Operand.tmp n2) (Operand.const (Value.int IntKind.i64 i)) (some v) (some (AV.v (Value.int IntKind.i64 i)))
@[simp] def BR(n n2:Nat)(i:Int)(v:AV)(k:AV->Prop):Prop:=dL (bN env.P .sub n (Operand.tmp n2) (Operand.const (Value.int IntKind.i64 i)) (some v) (some (AV.v (Value.int IntKind.i64 i)))) k
@[simp] def wq(n n2:Nat)(v:AV)(k:AV->Prop):Prop:=dL (bN env.P .eql n (Operand.tmp n2) (.const (.int .u8 1)) (some v) (some (a8 1))) k
@[simp] def yA(n n2:Nat)(v:AV)(k:AV->Prop):Prop:=dL (bN env.P .eql n (Operand.tmp n2) (.const (.int .u8 3)) (some v) (some (a8 3))) k
@[simp] def Fb(n n2:Nat)(i:Int)(v:AV)(k:AV->Prop):Prop:=dL (bN env.P .mul n (Operand.tmp n2) (Operand.const (Value.int IntKind.i64 i)) (some v) (some (AV.v (Value.int IntKind.i64 i)))) k
@[simp] def ve(n n2 b:Nat)(v a:AV)(k:AV->Prop):Prop:=dL (bN env.P .eql n (Operand.tmp n2) (Operand.tmp b) (some v) (some a)) k
@[simp] def yz(h:aa)(n:Nat)(v a:AV)(k:AV->Prop):Prop:=dL (cm env.P (aa.get h) n (some v) (oi a) (some none) (some none)) k
@[simp] def bF(v:AV):=jI (some v)
@[simp] def y0(h:aa)(n n2 a:Nat)(v:AV):=bX env.P (aa.get h) (Ref.mk 0 n (aa.gen h 0 n) 0) n2 a (some v)
@[simp] def yZ(n n2 b:Nat)(v a:AV)(k:AV->Prop):Prop:=dL (bN env.P .neq n (Operand.tmp n2) (Operand.tmp b) (some v) (some a)) k
@[simp] def mE(v:AV)(k:AV->Prop):Prop:=dL (Xj env.P .not (some v)) k
@[simp] def DY(h:aa)(n n2:Nat)(v:AV):=cO env.P false (aa.get h) (Ref.mk 0 n (aa.gen h 0 n) 0) .len #[n2] [v]
@[simp] def Fa(n n2:Nat)(v:AV)(k:AV->Prop):Prop:=dL (bN env.P .eql n (Operand.tmp n2) (.const (.int .u8 2)) (some v) (some (a8 2))) k
@[simp] def tA(n n2:Nat)(v:AV)(b:Nat)(a:AV)(k:AV->Prop):Prop:=dL (nS env.P n (some [(n2,v),(b,a)])) k
@[simp] def SB(h:aa)(n n2:Nat)(i:Int)(k:AV->aa->Prop):Prop:=gh (lD h (Ref.mk 0 n (aa.gen h 0 n) 0) (xk env.P (Ref.mk 0 n (aa.gen h 0 n) 0) n2 (some (AV.v (Value.int IntKind.i64 i))) (some (AV.v (Value.int IntKind.i64 i))))) k
@[simp] def DX(h:aa)(n:Nat)(v a:AV)(k:AV->Prop):Prop:=dL (cm env.P (aa.get h) n (some v) (some none) (oi a) (some none)) k
@[simp] def Ik(h:aa)(n:Nat)(v:AV)(k:AV->Prop):Prop:=dL (cm env.P (aa.get h) n (some v) (some none) (oi (.v (.int .i64 5))) (some none)) k
@[simp] def SA(n n2:Nat)(i a:Int)(k:AV->Prop):Prop:=dL (bN env.P .quo n (Operand.tmp n2) (Operand.const (Value.int IntKind.i64 i)) (some (AV.v (Value.int IntKind.i64 a))) (some (AV.v (Value.int IntKind.i64 i)))) k
@[simp] def Kw(h:aa)(n:Nat)(v a:AV)(k:AV->aa->Prop):Prop:=gh (aV env true (ay env) (cD env 0) h (Ref.mk 0 n (aa.gen h 0 n) 0) (some v) [a]) k
@[simp] def uc(n n2:Nat)(v:AV)(k:AV->Prop):Prop:=dL (nS env.P n (some [(n2,v)])) k
@[simp] def E9(n n2 b:Nat)(v a:AV)(k:AV->Prop):Prop:=dL (bN env.P .or n (Operand.tmp n2) (Operand.tmp b) (some v) (some a)) k
@[simp] def Ij(n n2 b:Nat)(v a:AV)(k:AV->Prop):Prop:=dL (bN env.P .sub n (Operand.tmp n2) (Operand.tmp b) (some v) (some a)) k
@[simp] def Pj(h:aa)(n n2 a:Nat)(v:AV)(k:AV->Prop):Prop:=dL (cO env.P false (aa.get h) (Ref.mk (n+1) n2 (aa.gen h (n+1) n2) 0) .len #[a] [v]) k
@[simp] def Ph(h:aa)(n n2 a:Nat)(v:AV)(k:AV->aa->Prop):Prop:=gh (dm env.P true h (Ref.mk 0 n (aa.gen h 0 n) 0) (some n2) (some a) (.v (.slice none 0 0)) v) k
@[simp] def Pg(n n2:Nat)(v:AV)(k:AV->Prop):Prop:=dL (bN env.P .shl n (Operand.tmp n2) (.const (.int .u64 8)) (some v) (some (.v (.int .u64 8)))) k
@[simp] def Pf(h:aa)(n n2 c b:Nat)(v:AV)(d:Nat)(e:AV)(g:Nat)(i:AV)(a:Nat)(f:AV)(k:AV->aa->Prop):Prop:=gh (lH env.P false true h (Ref.mk 0 n (aa.gen h 0 n) 0) n2 c (some [(b,v),(d,e),(g,i),(a,f)])) k
@[simp] def Ii(n n2 b:Nat)(v a:AV):=bN env.P .neq n (Operand.tmp n2) (Operand.tmp b) (some v) (some a)
@[simp] def Pe(h:aa)(n n2 c b:Nat)(v a:AV)(k:AV->aa->Prop):Prop:=gh (dm env.P true h (Ref.mk (n+1) n2 (aa.gen h (n+1) n2) 0) (some c) (some b) v a) k
@[simp] def Pd(h:aa)(n n2 a:Nat)(k:AV->aa->Prop):Prop:=gh (lH env.P false true h (Ref.mk 0 n (aa.gen h 0 n) 0) n2 a (some [(0,(a8 0))])) k
@[simp] def o3(v:AV)(k:AV->Prop):Prop:=dL (Ln (some v)) k
@[simp] def Pc(h:aa)(n n2 b a:Nat)(v:AV)(c:Nat)(d:AV)(e:Nat)(f:AV)(k:AV->aa->Prop):Prop:=gh (lH env.P false true h (Ref.mk 0 n (aa.gen h 0 n) 0) n2 b (some [(a,v),(c,d),(e,f)])) k
@[simp] def Pb(h:aa)(n n2:Nat)(v:AV)(k:AV->Prop):Prop:=dL (cO env.P false (aa.get h) (Ref.mk 0 n (aa.gen h 0 n) 0) .cap #[n2] [v]) k
@[simp] def Sz(n n2:Nat)(v:AV)(k:AV->Prop):Prop:=dL (bN env.P .eql n (Operand.tmp n2) (.const (.slice none 0 0)) (some v) (some (.v (.slice none 0 0)))) k
@[simp] def Pa(h:aa)(n n2 b a:Nat)(v:AV)(k:AV->aa->Prop):Prop:=gh (lH env.P true false h (Ref.mk 0 n (aa.gen h 0 n) 0) n2 b (some [(a,v)])) k
@[simp] def Sy(n n2:Nat)(v:AV)(k:AV->Prop):Prop:=dL (bN env.P .shr n (Operand.tmp n2) (.const (.int .u64 8)) (some v) (some (.v (.int .u64 8)))) k
@[simp] def Kv(h:aa)(n:Nat)(v:AV)(k:AV->aa->Prop):Prop:=gh (iV env.P h n (some v) (some (.v (.slice none 0 0)))) k
@[simp] def vd(v:AV):=Xj env.P .not (some v)
@[simp] def YO(n:Nat)(i:Int)(n2:Nat)(v:AV)(k:AV->Prop):Prop:=dL (bN env.P .sub n (Operand.const (Value.int IntKind.i64 i)) (Operand.tmp n2) (some (AV.v (Value.int IntKind.i64 i))) (some v)) k
@[simp] def YN(h:aa)(n n2 a:Nat)(k:AV->aa->Prop):Prop:=gh (lD h (Ref.mk (n+1) n2 (aa.gen h (n+1) n2) 0) (uD env.P (Ref.mk (n+1) n2 (aa.gen h (n+1) n2) 0) a)) k
@[simp] def YK(n n2:Nat)(i:Int)(v:AV):=bN env.P .sub n (Operand.tmp n2) (Operand.const (Value.int IntKind.i64 i)) (some v) (some (AV.v (Value.int IntKind.i64 i)))
@[simp] def O9(h:aa)(n:Nat)(v a:AV):=cm env.P (aa.get h) n (some v) (some none) (oi a) (some none)
@[simp] def O8(n n2 b:Nat)(v a:AV):=bN env.P .lss n (Operand.tmp n2) (Operand.tmp b) (some v) (some a)
@[simp] def YE(h:aa)(n:Nat)(v:AV)(k:AV->aa->Prop):Prop:=gh (aV env true (ay env) (cD env 0) h (Ref.mk 0 n (aa.gen h 0 n) 0) (some v) [(.v (.int .i64 1))]) k
@[simp] def YD(h:aa)(n n2:Nat)(v:AV)(k:AV->aa->Prop):Prop:=gh (lD h (Ref.mk 0 n (aa.gen h 0 n) 0) (xk env.P (Ref.mk 0 n (aa.gen h 0 n) 0) n2 (some v) (some v))) k
@[simp] def O7(v a:AV):=zt (some v) (some a) (some (AV.v (Value.bool false)))
@[simp] def O6(v a:AV):=zt (some v) (some (AV.v (Value.bool true))) (some a)
@[simp] def YC(h:aa)(n:Nat)(v:AV)(k:AV->Prop):Prop:=dL (cm env.P (aa.get h) n (some v) (oi (.v (.int .i64 24))) (oi (.v (.int .i64 29))) (some none)) k
@[simp] def YB(n n2:Nat)(v:AV)(k:AV->Prop):Prop:=dL (bN env.P .neq n (Operand.tmp n2) (.const (.int .i32 (-1))) (some v) (some (.v (.int .i32 (-1))))) k
@[simp] def Ku(h:aa)(n:Nat)(v a:AV):=bK env.P (aa.get h) n (some v) (some a)
@[simp] def YA(h:aa)(n:Nat)(v:AV)(k:AV->Prop):Prop:=dL (cm env.P (aa.get h) n (some v) (oi (.v (.int .i64 1))) (oi (.v (.int .i64 5))) (some none)) k
@[simp] def Yz(h:aa)(n:Nat)(v:AV)(k:AV->Prop):Prop:=dL (cm env.P (aa.get h) n (some v) (oi (.v (.int .i64 1))) (oi (.v (.int .i64 7))) (some none)) k
@[simp] def Sx(n n2 b:Nat)(v a:AV)(k:AV->Prop):Prop:=dL (bN env.P .gtr n (Operand.tmp n2) (Operand.tmp b) (some v) (some a)) k
@[simp] def Yy(n n2:Nat)(v:AV)(k:AV->Prop):Prop:=dL (bN env.P .shr n (Operand.tmp n2) (.const (.int .u64 16)) (some v) (some (.v (.int .u64 16)))) k
@[simp] def SC(n n2:Nat)(v:AV)(k:AV->Prop):Prop:=dL (bN env.P .shl n (Operand.tmp n2) (.const (.int .u64 16)) (some v) (some (.v (.int .u64 16)))) k
@[simp] def MR(n n2 b:Nat)(v a:AV):=bN env.P .add n (Operand.tmp n2) (Operand.tmp b) (some v) (some a)
@[simp] def MQ(n n2 b:Nat)(v a:AV):=bN env.P .leq n (Operand.tmp n2) (Operand.tmp b) (some v) (some a)
@[simp] def Bg(h:aa)(n:Nat)(v a:AV)(k:AV->aa->Prop):Prop:=gh (zi env.P h (some n) v a) k
@[simp] def I5(n:Nat):=nS env.P n (some [])
def aeU:Nat->Option (List Nat):=λ_=>none
def R0:Nat->Bool:=λ_=>false
abbrev iR:=Nat->AV
abbrev bdF(f:Func):Code:=f.body.getD .skip
abbrev uI(f:Func)(n:Nat):List Item:=(ph n 400 [.code (bdF f)]).getD []
abbrev ig(f:Func)(d:Nat)(l:List (Nat × AV))(H:aa)(Q:AV->aa->Prop):Prop:=cB env f d [.code (bdF f)] l H Q
def mO{P:(Nat->AV)->Prop}{f:Func}{d:Nat}{l:List (Nat × AV)}{H:aa}{Q:AV->aa->Prop}(e:P=λg=>wp env f none d aeU R0 Q 500 [.code (bdF f)] (MP g l) H)(h : ∀g,P g):ig f d l H Q:=⟨λg=>lY (live:=aeU) (cut:=R0) (n:=500) (Eq.mp (congrFun e g) (h g))⟩
def xV(v:Nat->Option (List Nat)){P:(Nat->AV)->Prop}{f:Func}{d:Nat}{l:List (Nat × AV)}{H:aa}{Q:AV->aa->Prop}(e:P=λg=>wp env f none d v R0 Q 500 [.code (bdF f)] (MP g l) H)(h : ∀g,P g):ig f d l H Q:=⟨λg=>lY (live:=v) (cut:=R0) (n:=500) (Eq.mp (congrFun e g) (h g))⟩
def xW(v:Nat->Option (List Nat)){P:(Nat->AV)->Prop}{f:Func}{d:Nat}{b:List Item}{l:List (Nat × AV)}{H:aa}{Q:AV->aa->Prop}(e:P=λg=>wp env f none d v R0 Q 500 (OV b) (MP g l) H)(h : ∀g,P g):cB env f d b l H Q:=qQ λg=>lY (live:=v) (cut:=R0) (n:=500) (Eq.mp (congrFun e g) (h g))
def aM{f:FuncId}{fn:Func}{args:List AV}{y:AV}(d:env.spec f args=none)(e:(env.allowed f,env.P.funcs[f]?,fn.body.isSome,Nat.ble args.length fn.ntmps)=(true,some fn,true,true))(h:ig fn 0 (CT 0 args) [] λx H=>dA env f x H y):ay env f args=some y:=by
 injection e with g e
 injection e with i e
 injection e with b j
 cases a:fn.body with| none=>rw[a]at b;cases b| some c=>unfold ig bdF at h;rw[a]at h;exact nF d g i a j h
def OD:Ep env fns=true:=by kernel_rfl
@[simp] def ahw{f:FuncId}(h:jE.contains f=false):(env.mode f == 2)=false:=by
 show((if bk.contains f then (if jE.contains f then 3 else 1) else if jE.contains f then 2 else 0) == 2)=false;rw[h];split<;>rfl
@[simp] def agN{f:FuncId}(h:jE.contains f=false):(env.mode f == 3)=false:=by
 show((if bk.contains f then (if jE.contains f then 3 else 1) else if jE.contains f then 2 else 0) == 3)=false;rw[h];split<;>rfl
def aeR{f:FuncId}(h:bk.contains f=false):tg (env.mode f)=false:=by
 show tg (if bk.contains f then (if jE.contains f then 3 else 1) else if jE.contains f then 2 else 0)=false;rw[h];cases jE.contains f<;>rfl
@[simp] def agR{f:FuncId}(h:bk.contains f=false)(x:AV)(H:aa)(y:AV):dA env f x H y↔view H.get depth x=some y:=IQ (aeR h) x H y
def aeQ{f:FuncId}(h:bk.contains f=true):tg (env.mode f)=true:=by
 show tg (if bk.contains f then (if jE.contains f then 3 else 1) else if jE.contains f then 2 else 0)=true;rw[h];cases jE.contains f<;>rfl
@[simp] def agQ{f:FuncId}(h:bk.contains f=true)(x:AV)(H:aa)(y:AV):dA env f x H y↔(af H.get depth x).Nodup/\bJ H.get depth x=some y:=Eo (aeQ h) x H y
@[simp] def Wt:aH env.P 3=(some 1):=by kernel_rfl
@[simp] def aam:eI env.P 3=(some false):=by kernel_rfl
@[simp] def Wo:eP env.P 3=(some (.v (.int .i64 0))):=by kernel_rfl
@[simp] def XM:nX env.P 3=(some 1):=by kernel_rfl
@[simp] def XS:isInt env.P 3=true:=by kernel_rfl
@[simp] def RE:intKind env.P 3=(some .i64):=by kernel_rfl
@[simp] def aad:(env.P.underlying 3).isNone=false:=by kernel_rfl
@[simp] def Ws:aH env.P 4=(some 1):=by kernel_rfl
@[simp] def aal:eI env.P 4=(some false):=by kernel_rfl
@[simp] def XL:nX env.P 4=(some 0):=by kernel_rfl
@[simp] def UW:isBool env.P 4=true:=by kernel_rfl
@[simp] def Wr:aH env.P 5=(some 1):=by kernel_rfl
@[simp] def aak:eI env.P 5=(some false):=by kernel_rfl
@[simp] def XK:nX env.P 5=(some 1):=by kernel_rfl
@[simp] def RD:intKind env.P 5=(some .u8):=by kernel_rfl
@[simp] def aac:(env.P.underlying 5).isNone=false:=by kernel_rfl
@[simp] def agP:isStr env.P 9=true:=by kernel_rfl
@[simp] def S6:aH env.P 21=(some 1):=by kernel_rfl
@[simp] def WE:eI env.P 21=(some false):=by kernel_rfl
@[simp] def abr:intKind env.P 21=(some .i32)/\(env.P.underlying 21).isNone=false:=by repeat' first|kernel_rfl|constructor
@[simp] def S5:aH env.P 22=(some 1):=by kernel_rfl
@[simp] def WD:eI env.P 22=(some false):=by kernel_rfl
@[simp] def KU:cu env.P 22=(some 59):=by kernel_rfl
@[simp] def WA:mC env.P 22=none:=by kernel_rfl
@[simp] def US:isStr env.P 22=false:=by kernel_rfl
@[simp] def ab7:EA env.P 22=true:=by kernel_rfl
@[simp] def Yj:oc env.P 22=true:=by kernel_rfl
@[simp] def abP:jm env.P 22=2:=by kernel_rfl
@[simp] def Yl:nK env.P 22=32:=by kernel_rfl
@[simp] def RT:eM env.P 22=(.agg [(.v (.int .i64 0)),(.v (.slice none 0 0))]):=by kernel_rfl
@[simp] def o7:aH env.P 24=(some 4):=by kernel_rfl
@[simp] def agr:eI env.P 24=(some true)/\mC env.P 24=none/\eP env.P 24=(some (.agg [(.v (.slice none 0 0)),(.v (.int .i64 0)),(.v (.int .i64 0)),(.v (.bool false))])):=by repeat' first|kernel_rfl|constructor
@[simp] def Md:jk env.P 24=(some [22,3,3,4]):=by kernel_rfl
@[simp] def ac2:iD env.P 24=(some [(0,1),(1,1),(2,1),(3,1)])/\aF env.P 24 0=(some (0,1))/\aF env.P 24 1=(some (1,1))/\aF env.P 24 2=(some (2,1))/\aF env.P 24 3=(some (3,1))/\aH env.P 25=(some 1)/\eI env.P 25=(some false)/\nX env.P 25=(some 1)/\intKind env.P 25=(some .u32)/\(env.P.underlying 25).isNone=false/\aH env.P 27=(some 2)/\eI env.P 27=(some true)/\mC env.P 27=none/\eP env.P 27=(some (.agg [(a8 0),(bO 0)]))/\nX env.P 27=none/\G9 env.P 27=true:=by repeat' first|kernel_rfl|constructor
@[simp] def Mc:jk env.P 27=(some [5,25]):=by kernel_rfl
@[simp] def ac1:iD env.P 27=(some [(0,1),(1,1)])/\aF env.P 27 0=(some (0,1))/\aF env.P 27 1=(some (1,1))/\aH env.P 29=(some 3)/\eI env.P 29=(some true)/\mC env.P 29=none/\eP env.P 29=(some (.agg [(a8 0),(bO 0),(a8 0)]))/\nX env.P 29=none/\G9 env.P 29=true:=by repeat' first|kernel_rfl|constructor
@[simp] def Mb:jk env.P 29=(some [27,5]):=by kernel_rfl
@[simp] def ac0:iD env.P 29=(some [(0,2),(2,1)])/\rU env.P 29 0=(some (0,27))/\aF env.P 29 0=(some (0,2))/\aF env.P 29 1=(some (2,1))/\aH env.P 31=(some 4)/\eI env.P 31=(some true)/\mC env.P 31=none/\eP env.P 31=(some (.agg [(a8 0),(bO 0),(a8 0),(.v (.int .i64 0))]))/\nX env.P 31=none/\G9 env.P 31=true:=by repeat' first|kernel_rfl|constructor
@[simp] def Ma:jk env.P 31=(some [29,3]):=by kernel_rfl
@[simp] def acZ:iD env.P 31=(some [(0,3),(3,1)])/\aF env.P 31 0=(some (0,3))/\aF env.P 31 1=(some (3,1))/\aH env.P 33=(some 5)/\eI env.P 33=(some true)/\mC env.P 33=none/\eP env.P 33=(some (.agg [(a8 0),(bO 0),(a8 0),(.v (.int .i64 0)),(.v (.int .i64 0))]))/\nX env.P 33=none/\G9 env.P 33=true:=by repeat' first|kernel_rfl|constructor
@[simp] def L9:jk env.P 33=(some [31,3]):=by kernel_rfl
@[simp] def acY:iD env.P 33=(some [(0,4),(4,1)])/\aF env.P 33 0=(some (0,4))/\aF env.P 33 1=(some (4,1))/\aH env.P 34=(some 1)/\eI env.P 34=(some false):=by repeat' first|kernel_rfl|constructor
@[simp] def Tb:cu env.P 34=(some 21):=by kernel_rfl
@[simp] def af8:mC env.P 34=none/\isStr env.P 34=false/\eP env.P 34=(some (.v (.slice none 0 0)))/\EA env.P 34=true/\oc env.P 34=true/\jm env.P 34=1/\nK env.P 34=4/\eM env.P 34=(.v (.int .i32 0))/\aH env.P 36=(some 17)/\eI env.P 36=(some true)/\mC env.P 36=none/\eP env.P 36=(some (.agg [(a8 0),(a8 0),(bO 0),(a8 0),(.v (.int .i64 0)),(a8 0),(bO 0),(a8 0),(.v (.int .i64 0)),(.v (.int .i64 0)),(a8 0),(bO 0),(a8 0),(.v (.int .i64 0)),(a8 0),(bO 0),(.v (.slice none 0 0))])):=by repeat' first|kernel_rfl|constructor
@[simp] def L8:jk env.P 36=(some [5,29,3,33,31,27,34]):=by kernel_rfl
@[simp] def acX:iD env.P 36=(some [(0,1),(1,3),(4,1),(5,5),(10,4),(14,2),(16,1)])/\aF env.P 36 0=(some (0,1))/\aF env.P 36 1=(some (1,3))/\aF env.P 36 2=(some (4,1))/\aF env.P 36 3=(some (5,5))/\aF env.P 36 4=(some (10,4))/\aF env.P 36 5=(some (14,2))/\aF env.P 36 6=(some (16,1))/\aH env.P 37=(some 1)/\eI env.P 37=(some false)/\intKind env.P 37=(some .i64)/\(env.P.underlying 37).isNone=false/\aH env.P 39=(some 3)/\eI env.P 39=(some true)/\mC env.P 39=none/\eP env.P 39=(some (.agg [(a8 0),(bO 0),(.v (.bool false))]))/\nX env.P 39=none:=by repeat' first|kernel_rfl|constructor
@[simp] def L5:jk env.P 39=(some [27,4]):=by kernel_rfl
@[simp] def acW:iD env.P 39=(some [(0,2),(2,1)])/\aF env.P 39 0=(some (0,2))/\aF env.P 39 1=(some (2,1))/\aH env.P 41=(some 4)/\eI env.P 41=(some true)/\mC env.P 41=none/\eP env.P 41=(some (.agg [(.v (.int .i64 0)),(a8 0),(bO 0),(.v (.bool false))]))/\nX env.P 41=none/\G9 env.P 41=true:=by repeat' first|kernel_rfl|constructor
@[simp] def L4:jk env.P 41=(some [3,39]):=by kernel_rfl
@[simp] def acV:iD env.P 41=(some [(0,1),(1,3)])/\aF env.P 41 0=(some (0,1))/\aF env.P 41 1=(some (1,3)):=by repeat' first|kernel_rfl|constructor
@[simp] def qy:aH env.P 43=(some 24):=by kernel_rfl
@[simp] def agf:eI env.P 43=(some true)/\mC env.P 43=none/\eP env.P 43=(some (.agg [(a8 0),(.v (.int .i64 0)),(a8 0),(a8 0),(bO 0),(a8 0),(.v (.int .i64 0)),(a8 0),(bO 0),(a8 0),(.v (.int .i64 0)),(.v (.int .i64 0)),(a8 0),(bO 0),(a8 0),(.v (.int .i64 0)),(a8 0),(bO 0),(.v (.slice none 0 0)),(.v (.int .i64 0)),(.v (.int .i64 0)),(a8 0),(bO 0),(.v (.bool false))])):=by repeat' first|kernel_rfl|constructor
@[simp] def L3:jk env.P 43=(some [5,3,36,37,41]):=by kernel_rfl
@[simp] def acU:iD env.P 43=(some [(0,1),(1,1),(2,17),(19,1),(20,4)])/\aF env.P 43 0=(some (0,1))/\aF env.P 43 1=(some (1,1))/\aF env.P 43 2=(some (2,17))/\aF env.P 43 3=(some (19,1))/\aF env.P 43 4=(some (20,4))/\cu env.P 50=(some 43)/\mC env.P 50=none/\isStr env.P 50=false/\EA env.P 50=true/\oc env.P 50=true/\jm env.P 50=24/\nK env.P 50=160/\eM env.P 50=(.agg [(a8 0),(.v (.int .i64 0)),(a8 0),(a8 0),(bO 0),(a8 0),(.v (.int .i64 0)),(a8 0),(bO 0),(a8 0),(.v (.int .i64 0)),(.v (.int .i64 0)),(a8 0),(bO 0),(a8 0),(.v (.int .i64 0)),(a8 0),(bO 0),(.v (.slice none 0 0)),(.v (.int .i64 0)),(.v (.int .i64 0)),(a8 0),(bO 0),(.v (.bool false))]):=by repeat' first|kernel_rfl|constructor
@[simp] def S4:aH env.P 57=(some 1):=by kernel_rfl
@[simp] def WC:eI env.P 57=(some false):=by kernel_rfl
@[simp] def Ta:cu env.P 57=(some 5):=by kernel_rfl
@[simp] def Wz:mC env.P 57=none:=by kernel_rfl
@[simp] def UR:isStr env.P 57=false:=by kernel_rfl
@[simp] def ab6:EA env.P 57=true:=by kernel_rfl
@[simp] def Yi:oc env.P 57=true:=by kernel_rfl
@[simp] def OI:jm env.P 57=1:=by kernel_rfl
@[simp] def Yk:nK env.P 57=1:=by kernel_rfl
@[simp] def RS:eM env.P 57=(a8 0):=by kernel_rfl
@[simp] def UU:dq env.P 57=true:=by kernel_rfl
@[simp] def KR:aH env.P 59=(some 2):=by kernel_rfl
@[simp] def Pp:eI env.P 59=(some true):=by kernel_rfl
@[simp] def Wy:mC env.P 59=none:=by kernel_rfl
@[simp] def S0:eP env.P 59=(some (.agg [(.v (.int .i64 0)),(.v (.slice none 0 0))])):=by kernel_rfl
@[simp] def QD:gX env.P 59=(some 32):=by kernel_rfl
@[simp] def Er:jk env.P 59=(some [3,57]):=by kernel_rfl
@[simp] def Rs:iD env.P 59=(some [(0,1),(1,1)]):=by kernel_rfl
@[simp] def L0:aF env.P 59 0=(some (0,1)):=by kernel_rfl
@[simp] def LZ:aF env.P 59 1=(some (1,1)):=by kernel_rfl
@[simp] def adW:aH env.P 79=(some 1)/\eI env.P 79=(some false)/\cu env.P 79=(some 57)/\mC env.P 79=none/\isStr env.P 79=false/\eP env.P 79=(some (.v (.slice none 0 0)))/\EA env.P 79=true/\oc env.P 79=true/\jm env.P 79=1/\nK env.P 79=24/\eM env.P 79=(.v (.slice none 0 0))/\aH env.P 102=(some 24)/\mC env.P 102=none/\eP env.P 102=(some (.agg [(a8 0),(.v (.int .i64 0)),(a8 0),(a8 0),(bO 0),(a8 0),(.v (.int .i64 0)),(a8 0),(bO 0),(a8 0),(.v (.int .i64 0)),(.v (.int .i64 0)),(a8 0),(bO 0),(a8 0),(.v (.int .i64 0)),(a8 0),(bO 0),(.v (.slice none 0 0)),(.v (.int .i64 0)),(.v (.int .i64 0)),(a8 0),(bO 0),(.v (.bool false))]))/\iD env.P 102=(some [(0,24)])/\aF env.P 102 0=(some (0,24))/\aH env.P 108=(some 4)/\eI env.P 108=(some true)/\mC env.P 108=none/\eP env.P 108=(some (.agg [(.v (.int .i64 0)),(.v (.int .i64 0)),(.v (.int .i64 0)),(.v (.int .i64 0))]))/\iD env.P 108=(some [(0,1),(1,1),(2,1),(3,1)])/\aF env.P 108 0=(some (0,1))/\aF env.P 108 1=(some (1,1))/\aF env.P 108 2=(some (2,1)):=by repeat' first|kernel_rfl|constructor
@[simp] def X4:aF env.P 108 3=(some (3,1))/\aH env.P 120=(some 1)/\eI env.P 120=(some false)/\intKind env.P 133=(some .u64)/\(env.P.underlying 133).isNone=false/\aH env.P 189=(some 2)/\eI env.P 189=(some true)/\rU env.P 189 0=(some (0,120))/\mC env.P 190=(some (4,189))/\aH env.P 198=(some 4)/\eI env.P 198=(some true)/\mC env.P 198=none/\eP env.P 198=(some (.agg [(a8 0),(bO 0),(a8 0),(.v (.int .i64 0))]))/\iD env.P 198=(some [(0,3),(3,1)])/\rU env.P 198 0=(some (0,29))/\aF env.P 198 0=(some (0,3))/\aF env.P 198 1=(some (3,1))/\aH env.P 202=(some 3)/\mC env.P 202=none/\eP env.P 202=(some (.agg [(.v (.slice none 0 0)),(.v (.int .i64 0)),(.v (.bool false))]))/\iD env.P 202=(some [(0,1),(1,1),(2,1)])/\aF env.P 202 0=(some (0,1))/\aF env.P 202 1=(some (1,1))/\aF env.P 202 2=(some (2,1)):=by repeat' first|kernel_rfl|constructor
end Go.Proofs.YtmjkpdknicjjgaaGreat
namespace Go.Ab
def Hu(H H':aa)(refs:List Ref):Prop :=∀q b,H.get q=some b ->∃fz,H'.get q=some { b with gB:=fz}/\(q ∉ refs->fz=b.gB)
def Hu.same{H H':aa}{refs:List Ref}(h:Hu H H' refs){q:Ref}(c:q ∉ refs){b:aY}(d:H.get q=some b):H'.get q=some b:=by
 obtain⟨fz,e,a⟩:=h q b d;rw[e,a c]
def U6(H:aa)(refs:List Ref):Hu H (b9 H refs) refs:=by
 intro q b a;rw[aa.du];unfold ti;by_cases h:q∈refs;·exact⟨true,by simp[h,a],λc=>absurd h c⟩
 exact⟨b.gB,by simp[h,a],λ_=>rfl⟩
def So{H:aa}(b:Fr H)(refs:List Ref):Fr (b9 H refs):=by
 intro d t g k a;rw[aa.iw]at a;rw[aa.du];have:=b d t g k a;unfold ti;split<;>simp[this]
def DR{o:Option AV}{H:aa}{r:Ref}(L : ∃d t,r=⟨d,t,H.gen d t,0⟩){z:Nat}(O:z≠0){y:AV}{es':List AV}{mk:AV->AV}{n:Nat}{K:AV->aa->Prop}{refs:List Ref}
 (E:o=some (mk y)) (v : ∀r s bs,aj r (n+3) y []=(s,bs)->aj r depth (mk y) []=(mk s,bs)) (F:BQ z es' y) (hi : ∀e∈es',Oi e=true) (l:Fr H)
 (R : ∀H' s rs,Fr H'->nL z H' s es' rs->Hu H H' refs->(∀q∈rs,H.get q=none)->yh z s es'=y->K (mk s) H') :
 gh (rJ true H r refs o) K:=by
 obtain⟨d,t,rfl⟩:=L;obtain⟨s,add,x,A⟩:=F.imp O hi ⟨d,t,H.gen d t,0⟩ n [];have w:=v _ _ _ x;simp only[o4,k8]at x A w;have f : ∀a:aa,Fr a->Hu H a refs->(∀q,H.get q=none->a.get q=none)->(∀d t,a.gen d t=H.gen d t)->K (mk s) (keyed ⟨d,t,H.gen d t,0⟩ 0 add a):=by
  intro a u I S P;have m:At (keyed ⟨d,t,H.gen d t,0⟩ 0 add a).get ⟨d,t,H.gen d t,0⟩ 0 add:=by
   intro i b hi;have p:=(dT.1 hi).1;rw[aa.Aj,if_pos ⟨rfl,rfl,rfl,by simp,by simpa using p⟩];simpa using hi
  obtain⟨rs,N,Q,B⟩:=A _ m;refine R _ s rs ?_ N (λq b j=>?_) (λq c=>?_) B;·have:=Fr.keyed u add d t;rw[P]at this;exact this
  ·obtain⟨fz,C,M⟩:=I q b j;refine⟨fz,?_,M⟩;rw[aa.Aj,if_neg (λh=>?_)];·exact C
   have:=l q.d q.t q.g q.k (by rw[h.1,h.2.1,h.2.2.1];exact bg _);rw[show(⟨q.d,q.t,q.g,q.k⟩:Ref)=q from rfl,j]at this;cases this
  obtain⟨G,D,J,_⟩:=IG (Q q c);exact l q.d q.t q.g q.k (by rw[G,D,J];exact bg _)
 subst E;simp only[rJ,w];split;·exact tk rfl (f H l (λq b j=>⟨b.gB,j,λ_=>rfl⟩) (λq c=>c) λ_ _=>rfl)
 refine tk rfl (f (b9 H refs) (So l refs) (U6 H refs) (λq c=>?_) λd t=>aa.iw _ _ _ _);rw[aa.du];unfold ti;split<;>simp[c]
structure u9 where
 z:Nat
 s:AV
 es:List AV
 rs:List Ref
structure sZ (H:aa) (fs:List (Ref × aY)) (rows:List u9):Prop where
 fr:Fr H
 has : ∀p∈fs,H.get p.1=some p.2
 nd:(fs.map (·.1)).Nodup
 row : ∀t∈rows,nL t.z H t.s t.es t.rs
 sep : ∀t∈rows,∀p∈fs,p.1 ∉ t.rs
 dis:rows.Pairwise λt u =>∀q∈t.rs,q ∉ u.rs
def sZ.nil:sZ [] [] []:=⟨Fr.nil,by simp,by simp,by simp,by simp,List.Pairwise.nil⟩
def sZ.grow{H H':aa}{c:List (Ref × aY)}{rows:List u9}(h:sZ H c rows)(f:Fr H')(a : ∀q b,H.get q=some b->H'.get q=some b):sZ H' c rows:=
 ⟨f,λp hp=>a _ _ (h.has p hp),h.nd,λt d=>(h.row t d).bk λq _ b e=>a q b e,h.sep,h.dis⟩
def sZ.add{H:aa}{a:List (Ref × aY)}{rows:List u9}(h:sZ H a rows){r:Ref}{b:aY}(g:H.get r=some b)(hd : ∀p∈a,p.1≠r)(f : ∀t∈rows,r ∉ t.rs):sZ H ((r,b) :: a) rows:=
 ⟨h.fr,λp hp=>(ef.1 hp).elim (λe=>by rw[e];exact g) (h.has p),wC.2 ⟨λd=>by obtain⟨p,hp,e⟩:=j6.1 d;exact hd p hp e,h.nd⟩,h.row,λt c p hp=>(ef.1 hp).elim (λe=>by rw[e];exact f t c) (h.sep t c p),h.dis⟩
def sZ.sub{H:aa}{c a:List (Ref × aY)}{rows:List u9}(h:sZ H c rows)(b:a.Sublist c):sZ H a rows:=
 ⟨h.fr,λp hp=>h.has p (b.mem hp),(b.map _).nodup h.nd,h.row,λt d p hp=>h.sep t d p (b.mem hp),h.dis⟩
def sZ.live{H:aa}{d:List (Ref × aY)}{rows:List u9}(h:sZ H d rows){r:Ref}(f:H.get r=none) : ∀t∈rows,r ∉ t.rs:=λt e c=>by
 obtain⟨b,a⟩:=(h.row t e).live r c;rw[f]at a;cases a
def sZ.new{H:aa}{f:List (Ref × aY)}{rows:List u9}(h:sZ H f rows)(d t:Nat)(b:aY):sZ ((⟨d,t,H.gen d t,0⟩,some b) :: H) ((⟨d,t,H.gen d t,0⟩,b) :: f) rows:=by
 have c:H.get ⟨d,t,H.gen d t,0⟩=none:=h.fr d t _ 0 (bg _);refine(h.grow (oB h.fr rfl _) λq g a=>?_).add (by rw[aa.bS,if_pos rfl]) (λp hp e=>?_) (h.live c);·rw[aa.bS,if_neg (λe=>by rw[<-e,c]at a;cases a)];exact a
 have:=h.has p hp;rw[e,c]at this;cases this
def sZ.call{o:Option AV}{H:aa}{i:List (Ref × aY)}{rows:List u9}(h:sZ H i rows){r:Ref}(E : ∃d t,r=⟨d,t,H.gen d t,0⟩){z:Nat}(D:z≠0){y:AV}{es':List AV}{mk:AV->AV}{n:Nat}{K:AV->aa->Prop}{refs:List Ref}
 (v : ∀p∈i,p.1 ∉ refs) (j : ∀t∈rows,∀q∈t.rs,q ∉ refs)
 (A:o=some (mk y)) (l : ∀r s bs,aj r (n+3) y []=(s,bs)->aj r depth (mk y) []=(mk s,bs)) (C:BQ z es' y) (hi : ∀e∈es',Oi e=true)
 (F : ∀H' s rs,sZ H' i (⟨z,s,es',rs⟩ :: rows)->Hu H H' refs->(∀q∈rs,H.get q=none)->yh z s es'=y->K (mk s) H') :
 gh (rJ true H r refs o) K:=by
 refine DR E D A l C hi h.fr λH' s rs B c m w G=>?_;refine F H' s rs ⟨B,λp hp=>m.same (v p hp) (h.has p hp),h.nd,λt a=>?_,λt a p hp=>?_,?_⟩ m w G
 ·rcases ef.1 a with rfl | a
  ·exact c
  exact(h.row t a).bk λq k b f=>m.same (j t a q k) f
 ·rcases ef.1 a with rfl | a
  ·intro g;have:=w _ g;rw[h.has p hp]at this;cases this
  exact h.sep t a p hp
 refine Jh.2 ⟨λu x q k g=>?_,h.dis⟩;obtain⟨b,f⟩:=(h.row u x).live q g;rw[w q k]at f;cases f
def sZ.aek{H H':aa}{d:List (Ref × aY)}{t:u9}{rows:List u9}(h:sZ H d (t :: rows))(i:Fr H')(c : ∀q b,q ∉ t.rs->H.get q=some b->H'.get q=some b):sZ H' d rows:=by
 obtain⟨d1,d2⟩:=Jh.1 h.dis;refine⟨i,λp hp=>c _ _ (h.sep t (by simp) p hp) (h.has p hp),h.nd,λu a=>(h.row u (by simp[a])).bk λq f b g=>c q b (λe=>d1 u a q e f) g,λu a p hp=>h.sep u (by simp[a]) p hp,d2⟩
def Yx(fz:Bool)(z:Nat)(es:List AV)(x:AV)(a:List (Ref × aY)):Prop:=(x = .v (.slice none 0 0)/\es=[]/\a=[]) \/∃r,x = .bA r 0 es.length none/\a=[(r,⟨z,es,true,fz⟩)]
def aaL(z:Nat)(es:List AV):AV->AV
 | .bA _ _ _ _ => .bq z es none
 | x=>x
def Yx.sl{fz:Bool}{z:Nat}{es:List AV}{x:AV}{a:List (Ref × aY)}(h:Yx fz z es x a):Sl z es (aaL z es x):=by
 rcases h with ⟨rfl,rfl,rfl⟩ | ⟨r,rfl,rfl⟩
 ·exact .inl ⟨rfl,rfl⟩
 exact Sl.mk z es
def Yx.seen{fz:Bool}{z:Nat}{es:List AV}{x:AV}{a b:List (Ref × aY)}{H:aa}{rows:List u9}(h:Yx fz z es x a)(d:sZ H b rows)(c : ∀p∈a,p∈b):(∀n,view H.get (n+1) x=some (aaL z es x))/\(∀n,af H.get (n+1) x=a.map (·.1))/\x.cells=[x]/\x.one=true:=by
 rcases h with ⟨rfl,rfl,rfl⟩ | ⟨r,rfl,rfl⟩
 ·exact⟨λn=>rfl,λn=>rfl,rfl,rfl⟩
 have:=d.has (r,⟨z,es,true,fz⟩) (c _ (by simp));simp only at this;exact⟨λn=>by simp[view,this,aaL],λn=>by simp[af,this],rfl,rfl⟩
def sZ.perm{H:aa}{c a:List (Ref × aY)}{rows:List u9}(h:sZ H c rows)(hp:c.Perm a):sZ H a rows:=
 ⟨h.fr,λp b=>h.has p (hp.mem_iff.2 b),(hp.map _).nodup_iff.1 h.nd,h.row,λt d p b=>h.sep t d p (hp.mem_iff.2 b),h.dis⟩
def sZ.aex{H:aa}{c:List (Ref × aY)}{rows a:List u9}(h:sZ H c rows)(hp:rows.Perm a):sZ H c a:=
 ⟨h.fr,h.has,h.nd,λt b=>h.row t (hp.mem_iff.2 b),λt b=>h.sep t (hp.mem_iff.2 b),(hp.pairwise_iff (λh q e d=>h q d e)).1 h.dis⟩
def sZ.ne{H:aa}{f:List (Ref × aY)}{rows:List u9}(h:sZ H f rows){r q:Ref}{b c:aY}(j:(r,b)∈f)(i:(q,c)∈f)(a:b≠c):r≠q:=λe=>by
 have g:=h.has _ j;have d:=h.has _ i;simp only[e]at g d;rw[g]at d;exact a (Fq d)
def Xu{b:Type}(a:b)(l m:List b):(a :: (l++m)).Perm (l++a :: m):=List.perm_middle.symm
end Go.Ab
namespace Go.Proofs.YtmjkpdknicjjgaaGreat
open Go.Ab
section
variable(dep:Nat)(g:Nat->AV)(x0 a b:AV)(H:aa)(Q:AV->aa->Prop)
def je:=uI Tryz.f83 4
def pT:Nat->Option (List Nat):=λi=>cond (Nat.beq i 4) (some [5,1,0]) (none)
def mz:Prop:=
 dO H 7 34 x0 λd=>
 dO H 9 34 a λc=>
 yZ 3 7 9 d c λe=>
 br (some e) (
 Q (.v (.bool false)) H) (
  cB env Tryz.f83 0 je [(5,(.v (.int .i64 0))),(1,a),(0,x0)] H Q)
theorem wV(h : ∀g:iR,mz x0 a H Q):ig Tryz.f83 0 [(0,x0),(1,a)] H Q:=xV pT (by kernel_rfl) h
def jg(g:Nat->AV)(c a x0:AV)(H:aa)(Q:AV->aa->Prop):Prop:=
 dO H 13 34 x0 λd=>
 fQ 3 11 13 c d λj=>
 br (some j) (
 dF H 34 x0 c λl=>
 ad H 21 l λk=>
 dF H 34 a c λi=>
 ad H 21 i λe=>
 yZ 21 20 24 k e λf=>
 br (some f) (
 Q (.v (.bool false)) H) (
 jh 3 15 1 c λh=>
  cB env Tryz.f83 0 je [(5,h),(1,a),(0,x0)] H Q)) (
 Q (.v (.bool true)) H)
theorem oH(c a x0:AV)(H:aa)(Q:AV->aa->Prop)(h : ∀g,jg g c a x0 H Q):cB env Tryz.f83 0 je [(5,c),(1,a),(0,x0)] H Q:=xW pT (by kernel_rfl) h
def uS:Prop:=
 eA H 1 29 x0 λf e=>
 ak 29 f 0 λh=>
 ad e 27 h λo=>
 bI true e 5 119 [o] λj H2=>
 vg 37 5 0 j λc=>
 gQ c true (az 29 f 1) λl=>
 gQ c true (au H2 5 l) λm=>
 gQ c true (bN env.P .lss 5 (Operand.tmp 9) (.const (.int .u8 8)) (some m) (some (a8 8))) λn=>
 ct c n λi=>
 bI true H2 12 118 [i] λd k=>
 Q d k
theorem Bs(h : ∀g:iR,uS x0 H Q):ig Tryz.f97 0 [(0,x0)] H Q:=mO (by kernel_rfl) h
def mr:Prop:=
 eA H 1 33 x0 λd v=>
 ak 33 d 0 λA=>
 ad v 31 A λC=>
 bI true v 5 122 [C] λB H2=>
 vg 37 5 0 B λe=>
 gQ e true (az 33 d 1) λx=>
 gQ e true (au H2 3 x) λy=>
 gQ e true (m9 3 9 1 y) λz=>
 ct e z λf=>
 gQ f true (az 33 d 1) λk=>
 gQ f true (au H2 3 k) λn=>
 gQ f true (y9 3 14 64 n) λs=>
 ct f s λc=>
 gQ c true (az 33 d 0) λo=>
 gQ c true (az 31 o 1) λq=>
 gQ c true (au H2 3 q) λh=>
 gQ c true (az 33 d 1) λl=>
 gQ c true (au H2 3 l) λi=>
 gQ c true (MR 3 20 22 h i) λu=>
 gQ c true (YK 3 23 1 u) λt=>
 gQ c true (y9 3 24 1099511627776 t) λp=>
 ct c p λj=>
 bI true H2 27 118 [j] λm w=>
 Q m w
theorem Dp(h : ∀g:iR,mr x0 H Q):ig Tryz.f120 0 [(0,x0)] H Q:=mO (by kernel_rfl) h
def fc:=uI Tryz.f126 4
def mf:Nat->Option (List Nat):=λi=>cond (Nat.beq i 4) (some [13,1,0,12]) (none)
def jq:Prop:=
 dO H 7 34 x0 λd=>
 dO H 9 34 a λc=>
 yZ 3 7 9 d c λe=>
 br (some e) (
 Q (.v (.bool false)) H) (
 dO H 12 34 x0 λf=>
  cB env Tryz.f126 0 fc [(13,(.v (.int .i64 0))),(1,a),(0,x0),(12,f)] H Q)
theorem rQ(h : ∀g:iR,jq x0 a H Q):ig Tryz.f126 0 [(0,x0),(1,a)] H Q:=xV mf (by kernel_rfl) h
def fk(g:Nat->AV)(c a x0 d:AV)(H:aa)(Q:AV->aa->Prop):Prop:=
 fQ 3 13 12 c d λe=>
 br (some e) (
 dF H 34 x0 c λj=>
 ad H 21 j λl=>
 dF H 34 a c λk=>
 ad H 21 k λi=>
 yZ 21 19 23 l i λf=>
 br (some f) (
 Q (.v (.bool false)) H) (
 jh 3 13 1 c λh=>
  cB env Tryz.f126 0 fc [(13,h),(1,a),(0,x0),(12,d)] H Q)) (
 Q (.v (.bool true)) H)
theorem lg(d a x0 c:AV)(H:aa)(Q:AV->aa->Prop)(h : ∀g,fk g d a x0 c H Q):cB env Tryz.f126 0 fc [(13,d),(1,a),(0,x0),(12,c)] H Q:=xW mf (by kernel_rfl) h
def C1:Prop:=
 eA H 1 31 x0 λe l=>
 ak 31 e 0 λq=>
 ad l 29 q λt=>
 bI true l 5 97 [t] λs H2=>
 vg 37 5 0 s λc=>
 gQ c true (az 31 e 1) λn=>
 gQ c true (au H2 3 n) λo=>
 gQ c true (m9 3 9 1 o) λp=>
 ct c p λd=>
 gQ d true (az 31 e 1) λf=>
 gQ d true (au H2 3 f) λi=>
 gQ d true (y9 3 14 1099511627776 i) λk=>
 ct d k λh=>
 bI true H2 17 118 [h] λj m=>
 Q j m
theorem JA(h : ∀g:iR,C1 x0 H Q):ig Tryz.f122 0 [(0,x0)] H Q:=mO (by kernel_rfl) h
def uR:Prop:=
 dO H 6 34 x0 λe=>
 wx 3 6 64 e λd=>
 br (some d) (
 Q (.v (.int .i64 4)) H) (
 bI true H 11 147 [x0,(.fn (.func 145) [] [])] λf c=>
 br (some f) (
 Q (.v (.int .i64 8)) c) (
 Q (.v (.int .i64 0)) c))
theorem FL(h : ∀g:iR,uR x0 H Q):ig Tryz.f123 0 [(0,x0)] H Q:=mO (by kernel_rfl) h
def zU:Prop:=
 eA H 1 27 x0 λe c=>
 ak 27 e 0 λd=>
 ad c 5 d λf=>
 dL (bN env.P .gtr 5 (Operand.tmp 4) (.const (.int .u8 15)) (some f) (some (a8 15))) λh=>
 br (some h) (
 Q (.v (.int .i64 8)) c) (
 Q (.v (.int .i64 0)) c)
theorem FQ(h : ∀g:iR,zU x0 H Q):ig Tryz.f119 0 [(0,x0)] H Q:=mO (by kernel_rfl) h
def C0:Prop:=
 br (some x0) (
 Q (.v (.int .i64 0)) H) (
 Q (.v (.int .i64 8)) H)
theorem Jz(h : ∀g:iR,C0 x0 H Q):ig Tryz.f118 0 [(0,x0)] H Q:=mO (by kernel_rfl) h
def sk:Prop:=
 YB 21 3 x0 λc=>
 gQ c true (bF x0) λe=>
 gW c true H (gy true H 7 146 [e]) λh f=>
 gQ c true (vd h) λi=>
 ct c i λd=>
 Q d f
theorem Dl(h : ∀g:iR,sk x0 H Q):ig Tryz.f145 0 [(0,x0)] H Q:=mO (by kernel_rfl) h
def oN:Prop:=
 dL (bN env.P .leq 21 (.const (.int .i32 0)) (Operand.tmp 4) (some (.v (.int .i32 0))) (some x0)) λd=>
 gQ d true (bF x0) λe=>
 gQ d true (bN env.P .lss 21 (Operand.tmp 7) (.const (.int .i32 55296)) (some e) (some (.v (.int .i32 55296)))) λk=>
 ct d k λf=>
 br (some f) (
 Q (.v (.bool true)) H) (
 dL (bN env.P .lss 21 (.const (.int .i32 57343)) (Operand.tmp 11) (some (.v (.int .i32 57343))) (some x0)) λc=>
 gQ c true (bF x0) λh=>
 gQ c true (bN env.P .leq 21 (Operand.tmp 14) (.const (.int .i32 1114111)) (some h) (some (.v (.int .i32 1114111)))) λi=>
 ct c i λj=>
 br (some j) (
 Q (.v (.bool true)) H) (
 Q (.v (.bool false)) H))
theorem uU(h : ∀g:iR,oN x0 H Q):ig Tryz.f146 0 [(0,x0)] H Q:=mO (by kernel_rfl) h
def kg:Prop:=
 bI true H 7 155 [x0,a] λe d=>
 wu 3 7 0 e λc=>
 Q c d
theorem oT(h : ∀g:iR,kg x0 a H Q):ig Tryz.f147 0 [(0,x0),(1,a)] H Q:=mO (by kernel_rfl) h
def ej:=uI Tryz.f155 2
def kU:Nat->Option (List Nat):=λi=>cond (Nat.beq i 2) (some [8,0,1,7]) (none)
def kV:Prop:=
 dO H 7 34 x0 λc=>
  cB env Tryz.f155 0 ej [(8,(.v (.int .i64 0))),(0,x0),(1,a),(7,c)] H Q
theorem qe(h : ∀g:iR,kV x0 a H Q):ig Tryz.f155 0 [(0,x0),(1,a)] H Q:=xV kU (by kernel_rfl) h
def eu(g:Nat->AV)(c x0 a d:AV)(H:aa)(Q:AV->aa->Prop):Prop:=
 fQ 3 8 7 c d λf=>
 br (some f) (
 dF H 34 x0 c λi=>
 ad H 21 i λk=>
 Kw H 16 a k λj e=>
 br (some j) (
 Q c e) (
 jh 3 8 1 c λh=>
  cB env Tryz.f155 0 ej [(8,h),(0,x0),(1,a),(7,d)] e Q)) (
 Q (.v (.int .i64 (-1))) H)
theorem kG(d x0 a c:AV)(H:aa)(Q:AV->aa->Prop)(h : ∀g,eu g d x0 a c H Q):cB env Tryz.f155 0 ej [(8,d),(0,x0),(1,a),(7,c)] H Q:=xW kU (by kernel_rfl) h
def th:=uI Tryz.f98 2
def AS:Nat->Option (List Nat):=λi=>cond (Nat.beq i 2) (some [5,0,4]) (none)
def we:Prop:=
 BR 3 6 1 a λc=>
  cB env Tryz.f98 0 th [(5,c),(0,x0),(4,(.v (.slice none 0 0)))] H Q
theorem AI(h : ∀g:iR,we x0 a H Q):ig Tryz.f98 0 [(0,x0),(1,a)] H Q:=xV AS (by kernel_rfl) h
def dk(g:Nat->AV)(c x0 d:AV)(H:aa)(Q:AV->aa->Prop):Prop:=
 wu 3 8 0 c λe=>
 br (some e) (
 qn 3 8 14 c λj=>
 dL (bN env.P .shr 3 (Operand.tmp 13) (Operand.tmp 15) (some x0) (some j)) λm=>
 dy H 17 3 5 m λl=>
 nz H 18 57 1 0 l λi k=>
 dG k 19 57 57 d i λf H2=>
 BR 3 10 1 c λh=>
  cB env Tryz.f98 0 th [(5,h),(0,x0),(4,f)] H2 Q) (
 Q d H)
theorem dE(c x0 d:AV)(H:aa)(Q:AV->aa->Prop)(h : ∀g,dk g c x0 d H Q):cB env Tryz.f98 0 th [(5,c),(0,x0),(4,d)] H Q:=xW AS (by kernel_rfl) h
def sv:=uI Tryz.f148 2
def El:Nat->Option (List Nat):=λi=>cond (Nat.beq i 2) (some [7,2,5,6]) (none)
def ED:Prop:=
 dO H 6 57 x0 λc=>
  cB env Tryz.f148 0 sv [(7,(.v (.int .i64 0))),(2,(.v (.int .i64 0))),(5,x0),(6,c)] H Q
theorem KO(h : ∀g:iR,ED x0 H Q):ig Tryz.f148 0 [(0,x0)] H Q:=xV El (by kernel_rfl) h
def wc(g:Nat->AV)(c b d e:AV)(H:aa)(Q:AV->aa->Prop):Prop:=
 fQ 3 7 6 c e λf=>
 br (some f) (
 dF H 57 d c λk=>
 ad H 5 k λm=>
 Pg 3 11 b λl=>
 dy H 14 5 3 m λj=>
 E9 3 12 14 l j λh=>
 jh 3 7 1 c λi=>
  cB env Tryz.f148 0 sv [(7,i),(2,h),(5,d),(6,e)] H Q) (
 Q b H)
theorem AH(d b c e:AV)(H:aa)(Q:AV->aa->Prop)(h : ∀g,wc g d b c e H Q):cB env Tryz.f148 0 sv [(7,d),(2,b),(5,c),(6,e)] H Q:=xW El (by kernel_rfl) h
def yw:Prop:=
 iy H 2 198 λn d=>
 fH d 57 x0 0 λA=>
 ad d 5 A λE=>
 YA d 57 x0 λC=>
 bI false d 9 148 [C] λz H2=>
 dy H2 10 3 25 z λu=>
 tA 27 0 E 1 u λv=>
 fH H2 57 x0 5 λx=>
 ad H2 5 x λB=>
 tA 29 0 v 1 B λf=>
 uc 198 0 f λi=>
 iy H2 3 198 λc s=>
 aT s 198 c i λy p=>
 ak 198 c 0 λj=>
 ad p 29 j λl=>
 bI true p 19 97 [l] λe w=>
 ak 198 c 1 λh=>
 aT w 37 h e λt q=>
 ad q 198 c λm=>
 aT q 198 n m λD o=>
 bp o n 198 λk=>
 Q k o
theorem B0(h : ∀g:iR,yw x0 H Q):ig Tryz.f128 0 [(0,x0)] H Q:=mO (by kernel_rfl) h
def xA:Prop:=
 iy H 2 29 λd l=>
 dO l 6 57 x0 λt=>
 j5 3 6 6 t λw=>
 br (some w) (
 ee 29 λm=>
 aT l 29 d m λi H2=>
 bp H2 d 29 λo=>
 Q (.tup [o,(.v (.int .i64 8))]) H2) (
 bI true l 10 128 [x0] λm H2=>
 iy H2 4 198 λi p=>
 aT p 198 i m λo j=>
 ak 198 i 1 λq=>
 ad j 37 q λs=>
 j5 37 12 0 s λu=>
 br (some u) (
 ee 29 λe=>
 ak 198 i 1 λc=>
 ad j 37 c λk=>
 aT j 29 d e λh f=>
  qU [(c,d)] [d] [] f /\
 (bp f d 29 λn=>
 Q (.tup [n,k]) f)) (
 ak 198 i 0 λe=>
 ad j 29 e λc=>
 aT j 29 d c λk f=>
 bp f d 29 λh=>
 Q (.tup [h,(.v (.int .i64 0))]) f))
theorem Dn(h : ∀g:iR,xA x0 H Q):ig Tryz.f111 0 [(0,x0)] H Q:=mO (by kernel_rfl) h
def Hr:Prop:=
 iy H 2 31 λe k=>
 dO k 7 57 x0 λy=>
 j5 3 7 13 y λA=>
 br (some A) (
 ee 31 λm=>
 aT k 31 e m λs H2=>
 bp H2 e 31 λi=>
 Q (.tup [i,(.v (.int .i64 8))]) H2) (
 bI false k 11 128 [x0] λm H2=>
 dL (tf env.P 198 (some m) 0) λs=>
 dL (cm env.P (aa.get H2) 57 (some x0) (oi (.v (.int .i64 6))) (some none) (some none)) λi=>
 bI false H2 15 148 [i] λu t=>
 tA 31 0 s 1 u λx=>
 iy t 4 31 λl z=>
 aT z 31 l x λw q=>
 ad q 31 l λn=>
 bI true q 18 122 [n] λh p=>
 j5 37 19 0 h λj=>
 br (some j) (
 ee 31 λd=>
 aT p 31 e d λo f=>
 bp f e 31 λc=>
 Q (.tup [c,h]) f) (
 ad p 31 l λd=>
 aT p 31 e d λo f=>
 bp f e 31 λc=>
 Q (.tup [c,(.v (.int .i64 0))]) f))
theorem Nn(h : ∀g:iR,Hr x0 H Q):ig Tryz.f149 0 [(0,x0)] H Q:=mO (by kernel_rfl) h
def sq:Prop:=
 eA H 1 29 x0 λc p=>
 ad p 29 c λz=>
 bI true p 6 97 [z] λs H2=>
 j5 37 7 0 s λB=>
 br (some B) (
 Q (.tup [(.v (.slice none 0 0)),s]) H2) (
 ak 29 c 0 λy=>
 ak 27 y 0 λt=>
 ad H2 5 t λu=>
 Pa H2 13 57 1 0 u λw e=>
 ak 29 c 0 λA=>
 ak 27 A 1 λh=>
 ad e 25 h λk=>
 dy e 17 25 3 k λm=>
 bI false e 18 98 [m,(.v (.int .i64 4))] λj q=>
 gh (dm env.P false q (Ref.mk 0 19 (aa.gen q 0 19) 0) (some 57) (some 57) w j) λl o=>
 ak 29 c 1 λn=>
 ad o 5 n λd=>
 Pa o 22 57 1 0 d λi C=>
 dG C 23 57 57 l i λf x=>
 Q (.tup [f,(.v (.int .i64 0))]) x)
theorem Dm(h : ∀g:iR,sq x0 H Q):ig Tryz.f66 0 [(0,x0)] H Q:=mO (by kernel_rfl) h
def BO:Prop:=
 eA H 1 31 x0 λc k=>
 ad k 31 c λq=>
 bI true k 8 122 [q] λl H2=>
 j5 37 9 0 l λt=>
 br (some t) (
 Q (.tup [(.v (.slice none 0 0)),l]) H2) (
 ak 31 c 0 λp=>
 ad H2 29 p λm=>
 bI true H2 15 66 [m] λj i=>
 bj j 0 λo=>
 bj j 1 λs=>
 ak 31 c 1 λd=>
 ad i 3 d λf=>
 bI true i 21 98 [f,(.v (.int .i64 7))] λh u=>
 dG u 22 57 57 o h λe n=>
 Q (.tup [e,s]) n)
theorem Nm(h : ∀g:iR,BO x0 H Q):ig Tryz.f100 0 [(0,x0)] H Q:=mO (by kernel_rfl) h
def pr:=uI Tryz.f20 3
def AT:Nat->Option (List Nat):=λi=>cond (Nat.beq i 3) (some [9,3,7,1,8]) (none)
def Bd:Prop:=
 eA H 1 24 x0 λd c=>
 ak 24 d 0 λf=>
 ad c 22 f λe=>
 dO c 8 22 e λh=>
  cB env Tryz.f20 0 pr [(9,(.v (.int .i64 0))),(3,(.v (.int .i64 (-1)))),(7,e),(1,d),(8,h)] c Q
theorem HN(h : ∀g:iR,Bd x0 H Q):ig Tryz.f20 0 [(0,x0)] H Q:=xV AT (by kernel_rfl) h
def tu(g:Nat->AV)(y I C a E:AV)(H:aa)(Q:AV->aa->Prop):Prop:=
 fQ 3 9 8 y E λG=>
 br (some G) (
 dF H 22 C y λz=>
 ad H 59 z λB=>
 iy H 5 59 λf F=>
 aT F 59 f B λD H2=>
 ak 59 f 0 λw=>
 ad H2 3 w λq=>
 dL (bN env.P .leq 3 (Operand.tmp 14) (Operand.tmp 15) (some q) (some I)) λh=>
 gQ h false (az 59 f 0) λs=>
 gQ h false (au H2 3 s) λm=>
 gQ h false (m9 3 19 6146 m) λk=>
 cM h k λc=>
 gQ c false (az 59 f 1) λj=>
 gQ c false (au H2 57 j) λl=>
 gQ c false (DY H2 25 57 l) λo=>
 gQ c false (vf 3 25 128 o) λd=>
 cM c d λn=>
 br (some n) (
 Q (.v (.int .i64 8)) H2) (
 ak 59 f 0 λi=>
 ad H2 3 i λe=>
 jh 3 9 1 y λp=>
  cB env Tryz.f20 0 pr [(9,p),(3,e),(7,C),(1,a),(8,E)] H2 Q)) (
 ak 24 a 1 λz=>
 ad H 3 z λB=>
 sG 3 32 0 B λf=>
 gQ f false (az 24 a 1) λD=>
 gQ f false (au H 3 D) λw=>
 gQ f false (m9 3 36 2147483648 w) λq=>
 cM f q λh=>
 gQ h false (az 24 a 2) λs=>
 gQ h false (au H 3 s) λm=>
 gQ h false (bN env.P .lss 3 (Operand.tmp 41) (.const (.int .i64 (-1))) (some m) (some (.v (.int .i64 (-1))))) λk=>
 cM h k λc=>
 gQ c false (az 24 a 2) λj=>
 gQ c false (au H 3 j) λl=>
 gQ c false (m9 3 46 2147483648 l) λo=>
 cM c o λd=>
 gQ d false (az 24 a 3) λn=>
 gQ d false (au H 4 n) λi=>
 gQ d false (bF i) λe=>
 gQ e true (az 24 a 2) λp=>
 gQ e true (au H 3 p) λt=>
 gQ e true (vf 3 54 0 t) λx=>
 gQ d false (O7 e x) λA=>
 cM d A λu=>
 br (some u) (
 Q (.v (.int .i64 8)) H) (
 Q (.v (.int .i64 0)) H))
theorem yH(d e c a f:AV)(H:aa)(Q:AV->aa->Prop)(h : ∀g,tu g d e c a f H Q):cB env Tryz.f20 0 pr [(9,d),(3,e),(7,c),(1,a),(8,f)] H Q:=xW AT (by kernel_rfl) h
def wh:Prop:=
 eA H 2 24 x0 λh d=>
 ad d 24 h λf=>
 bI true d 7 20 [f] λe H2=>
 j5 37 8 0 e λi=>
 br (some i) (
 Q e H2) (
 sG 3 11 0 a λc=>
 gQ c false (bF a) λj=>
 gQ c false (m9 3 14 6146 j) λk=>
 cM c k λl=>
 br (some l) (
 Q (.v (.int .i64 2)) H2) (
 Q (.v (.int .i64 0)) H2))
theorem HM(h : ∀g:iR,wh x0 a H Q):ig Tryz.f47 0 [(0,x0),(1,a)] H Q:=mO (by kernel_rfl) h
def C2:Prop:=
 eA H 2 24 x0 λh c=>
 ak 24 h 0 λf=>
 ad c 22 f λj=>
 bI true c 9 73 [j,a,(.fn (.func 74) [] [])] λd H2=>
 bj d 0 λe=>
 bj d 1 λi=>
 Q (.tup [e,i]) H2
theorem JC(h : ∀g:iR,C2 x0 a H Q):ig Tryz.f48 0 [(0,x0),(1,a)] H Q:=mO (by kernel_rfl) h
def EE:Prop:=
 dO H 5 57 x0 λe=>
 YD H 6 57 e λc d=>
 Bg d 57 c x0 λf H2=>
 Q c H2
theorem KP(h : ∀g:iR,EE x0 H Q):ig Tryz.f46 0 [(0,x0)] H Q:=mO (by kernel_rfl) h
def q9:Prop:=
 eA H 2 24 x0 λe n=>
 ad n 24 e λt=>
 bI true n 11 47 [t,a] λo H2=>
 j5 37 12 0 o λw=>
 br (some w) (
 Q (.tup [(.v (.slice none 0 0)),o]) H2) (
 ad H2 24 e λs=>
 bI true H2 18 48 [s,a] λm d=>
 bj m 0 λp=>
 bj m 1 λq=>
 mE q λu=>
 br (some u) (
 SB d 23 57 128 λc j=>
 Q (.tup [c,(.v (.int .i64 0))]) j) (
 ak 24 e 0 λc=>
 ad d 22 c λh=>
 dF d 22 h p λk=>
 ak 59 k 1 λf=>
 ad d 57 f λi=>
 bI true d 30 46 [i] λl j=>
 Q (.tup [l,(.v (.int .i64 0))]) j))
theorem JD(h : ∀g:iR,q9 x0 a H Q):ig Tryz.f59 0 [(0,x0),(1,a)] H Q:=mO (by kernel_rfl) h
def aJ:=uI Tryz.f73 3
def cw:Nat->Option (List Nat):=λi=>cond (Nat.beq i 3) (some [1,0,2,10,9,8]) (none)
def cz:Prop:=
 dO H 13 22 x0 λc=>
  cB env Tryz.f73 0 aJ [(1,a),(0,x0),(2,b),(10,c),(9,(.v (.int .i64 0))),(8,c)] H Q
theorem eW(h : ∀g:iR,cz x0 a b H Q):ig Tryz.f73 0 [(0,x0),(1,a),(2,b)] H Q:=xV cw (by kernel_rfl) h
def aP(g:Nat->AV)(a x0 b d f q:AV)(H:aa)(Q:AV->aa->Prop):Prop:=
 fQ 3 15 16 f d λs=>
 br (some s) (
 fJ 3 18 19 f d λc=>
 dy H 21 3 133 c λp=>
 dL (bN env.P .shr 133 (Operand.tmp 21) (.const (.int .u64 1)) (some p) (some (.v (.int .u64 1)))) λn=>
 dy H 23 133 3 n λh=>
 dF H 22 x0 h λj=>
 ad H 59 j λk=>
 gh (aV env true (ay env) (cD env 0) H (Ref.mk 0 30 (aa.gen H 0 30) 0) (some b) [k,a]) λl i=>
 sG 3 30 0 l λm=>
 br (some m) (
 jh 3 32 1 h λe=>
  cB env Tryz.f73 0 aJ [(1,a),(0,x0),(2,b),(10,d),(9,e),(8,q)] i Q) (
  cB env Tryz.f73 0 aJ [(1,a),(0,x0),(2,b),(10,h),(9,f),(8,q)] i Q)) (
 fQ 3 36 37 f q λc=>
 gQ c true (bF b) λp=>
 gQ c true (bF x0) λn=>
 gQ c true (bF f) λh=>
 gQ c true (Ku H 22 n h) λj=>
 gQ c true (au H 59 j) λk=>
 gQ c true (bF a) λl=>
 gW c true H (aV env true (ay env) (cD env 0) H (Ref.mk 0 46 (aa.gen H 0 46) 0) (some p) [k,l]) λm i=>
 gQ c true (ud 3 46 0 m) λe=>
 ct c e λo=>
 Q (.tup [f,o]) i)
theorem cf(a x0 b c d e:AV)(H:aa)(Q:AV->aa->Prop)(h : ∀g,aP g a x0 b c d e H Q):cB env Tryz.f73 0 aJ [(1,a),(0,x0),(2,b),(10,c),(9,d),(8,e)] H Q:=xW cw (by kernel_rfl) h
def zV:Prop:=
 eA H 2 59 x0 λe c=>
 ak 59 e 0 λd=>
 ad c 3 d λf=>
 bI true c 8 75 [f,a] λh H2=>
 Q h H2
theorem FT(h : ∀g:iR,zV x0 a H Q):ig Tryz.f74 0 [(0,x0),(1,a)] H Q:=mO (by kernel_rfl) h
def tD:Prop:=
 bI true H 8 105 [x0] λe d=>
 bI true d 10 105 [a] λc H2=>
 br (some e) (
 br (some c) (
 Q (.v (.int .i64 0)) H2) (
 Q (.v (.int .i64 (-1))) H2)) (
 br (some c) (
 Q (.v (.int .i64 1)) H2) (
 fQ 3 14 15 x0 a λf=>
 br (some f) (
 Q (.v (.int .i64 (-1))) H2) (
 Sx 3 17 18 x0 a λh=>
 br (some h) (
 Q (.v (.int .i64 1)) H2) (
 Q (.v (.int .i64 0)) H2))))
theorem As(h : ∀g:iR,tD x0 a H Q):ig Tryz.f75 0 [(0,x0),(1,a)] H Q:=mO (by kernel_rfl) h
def vF:Prop:=
 dL (bN env.P .neq 3 (Operand.tmp 3) (Operand.tmp 4) (some x0) (some x0)) λc=>
 Q c H
theorem B8(h : ∀g:iR,vF x0 H Q):ig Tryz.f105 0 [(0,x0)] H Q:=mO (by kernel_rfl) h
def vZ:Code:=(Tryz.f5.body).getD .skip
def iG:=uI Tryz.f5 3
def pd:Nat->Option (List Nat):=λi=>cond (Nat.beq i 3) (some [4,1,3]) (none)
def lQ(g:Nat->AV)(x0:AV)(H:aa)(Q:AV->aa->Prop):Prop:=
 eA H 1 24 x0 λd c=>
  cB env Tryz.f5 0 iG [(4,(.v (.int .i64 0))),(1,d),(3,(.v (.int .i64 0)))] c Q
theorem vK(x0:AV)(H:aa)(Q:AV->aa->Prop)(h : ∀g,lQ g x0 H Q):ig Tryz.f5 0 [(0,x0)] H Q:=xV pd (by kernel_rfl) h
def iK(g:Nat->AV)(i a o:AV)(H:aa)(Q:AV->aa->Prop):Prop:=
 ak 24 a 0 λp=>
 ad H 22 p λu=>
 dO H 8 22 u λw=>
 fQ 3 5 8 i w λm=>
 gQ m true (bF i) λt=>
 gQ m true (ql 3 11 300 t) λq=>
 ct m q λs=>
 br (some s) (
 ak 24 a 0 λk=>
 ad H 22 k λl=>
 dF H 22 l i λd=>
 ak 59 d 1 λc=>
 ad H 57 c λh=>
 dO H 23 57 h λe=>
 dL (cO env.P false (aa.get H) (Ref.mk 0 24 (aa.gen H 0 24) 0) .min #[3,3] [e,(.v (.int .i64 10000))]) λf=>
 fJ 3 16 24 o f λn=>
 jh 3 14 1 i λj=>
  cB env Tryz.f5 0 iG [(4,j),(1,a),(3,n)] H Q) (
 ak 24 a 0 λk=>
 ad H 22 k λl=>
 dO H 28 22 l λd=>
 wx 3 28 200 d λc=>
 gQ c false (bF o) λh=>
 gQ c false (y8 3 31 40000 h) λe=>
 cM c e λf=>
 Q f H)
theorem nO(c a d:AV)(H:aa)(Q:AV->aa->Prop)(h : ∀g,iK g c a d H Q):cB env Tryz.f5 0 iG [(4,c),(1,a),(3,d)] H Q:=xW pd (by kernel_rfl) h
def jc:=uI Tryz.f11 4
def pP:Nat->Option (List Nat):=λi=>cond (Nat.beq i 4) (some [5,3,2]) (none)
def mu:Prop:=
 eA H 2 24 x0 λd f=>
 eA f 3 24 a λc H2=>
 ak 24 d 0 λm=>
 ad H2 22 m λi=>
 dO H2 8 22 i λe=>
 ak 24 c 0 λj=>
 ad H2 22 j λk=>
 dO H2 11 22 k λl=>
 yZ 3 8 11 e l λh=>
 br (some h) (
 Q (.v (.bool false)) H2) (
  cB env Tryz.f11 0 jc [(5,(.v (.int .i64 0))),(3,c),(2,d)] H2 Q)
theorem wM(h : ∀g:iR,mu x0 a H Q):ig Tryz.f11 0 [(0,x0),(1,a)] H Q:=xV pP (by kernel_rfl) h
def dB(g:Nat->AV)(q s b:AV)(H:aa)(Q:AV->aa->Prop):Prop:=
 ak 24 b 0 λL=>
 ad H 22 L λM=>
 dO H 16 22 M λN=>
 fQ 3 13 16 q N λK=>
 br (some K) (
 ak 24 b 0 λw=>
 ad H 22 w λA=>
 dF H 22 A q λt=>
 ak 59 t 0 λD=>
 ad H 3 D λd=>
 ak 24 s 0 λm=>
 ad H 22 m λh=>
 dF H 22 h q λk=>
 ak 59 k 0 λf=>
 ad H 3 f λi=>
 yZ 3 25 31 d i λc=>
 gQ c false (az 24 b 0) λl=>
 gQ c false (au H 22 l) λn=>
 gQ c false (bF q) λe=>
 gQ c false (Ku H 22 n e) λp=>
 gQ c false (az 59 p 1) λo=>
 gQ c false (au H 57 o) λj=>
 gQ c false (y0 H 40 57 9 j) λB=>
 gQ c false (az 24 s 0) λE=>
 gQ c false (au H 22 E) λy=>
 gQ c false (bF q) λJ=>
 gQ c false (Ku H 22 y J) λI=>
 gQ c false (az 59 I 1) λx=>
 gQ c false (au H 57 x) λu=>
 gQ c false (y0 H 47 57 9 u) λz=>
 gQ c false (Ii 9 40 47 B z) λG=>
 cM c G λF=>
 br (some F) (
 Q (.v (.bool false)) H) (
 jh 3 18 1 q λC=>
  cB env Tryz.f11 0 jc [(5,C),(3,s),(2,b)] H Q)) (
 ak 24 b 1 λw=>
 ad H 3 w λA=>
 ak 24 s 1 λt=>
 ad H 3 t λD=>
 ve 3 51 53 A D λd=>
 gQ d true (az 24 b 2) λm=>
 gQ d true (au H 3 m) λh=>
 gQ d true (az 24 s 2) λk=>
 gQ d true (au H 3 k) λf=>
 gQ d true (kK 3 57 59 h f) λi=>
 ct d i λc=>
 gQ c true (az 24 b 3) λl=>
 gQ c true (au H 4 l) λn=>
 gQ c true (az 24 s 3) λe=>
 gQ c true (au H 4 e) λp=>
 gQ c true (kK 4 64 66 n p) λo=>
 ct c o λj=>
 Q j H)
theorem oF(c d b:AV)(H:aa)(Q:AV->aa->Prop)(h : ∀g,dB g c d b H Q):cB env Tryz.f11 0 jc [(5,c),(3,d),(2,b)] H Q:=xW pP (by kernel_rfl) h
def iu:Code:=(Tryz.f49.body).getD .skip
def dD:Prop:=
 yz H 22 x0 a λz=>
 Pj H dep 14 22 b λj=>
 vg 3 15 0 j λy=>
 br (some y) (
 Q x0 H) (
 Pj H dep 19 22 x0 λo=>
 ve 3 20 21 a o λw=>
 br (some w) (
 Pe H dep 25 22 22 x0 b λq h=>
 Q q h) (
 fJ 3 26 27 o j λq=>
 dL (cO env.P false (aa.get H) (⟨(dep+1),30,aa.gen H (dep+1) 30,0⟩:Ref) .cap #[22] [x0]) λu=>
 Sx 3 28 30 q u λv=>
 br (some v) (
 DX H 22 x0 a λs=>
 fJ 3 35 36 o j λc=>
 Ij 3 37 38 c a λl=>
 Pe H dep 40 22 3 s l λf h=>
 yz h 22 f a λk=>
 Bg h 22 k b λp H2=>
 fJ 3 47 48 a j λe=>
 yz H2 22 f e λi=>
 yz H2 22 x0 a λd=>
 Bg H2 22 i d λm n=>
 Q f n) (
 fJ 3 57 58 o j λs=>
 DX H 22 x0 s λc=>
 fJ 3 63 64 a j λl=>
 yz H 22 c l λf=>
 gh (aV env true (ay env) (cD env (dep+1)) H (⟨(dep+1),67,aa.gen H (dep+1) 67,0⟩:Ref) (some (.fn (.func 76) [] [])) [b,f]) λk h=>
 mE k λp=>
 br (some p) (
 fJ 3 70 71 a j λe=>
 yz h 22 c e λi=>
 yz h 22 c a λd=>
 Bg h 22 i d λm H2=>
 yz H2 22 c a λt=>
 Bg H2 22 t b λx n=>
 Q c n) (
 yz h 22 c o λe=>
 Bg h 22 e b λi H2=>
 yz H2 22 c a λd=>
 gh (aV env true (ay env) (cD env (dep+1)) H2 (⟨(dep+1),93,aa.gen H2 (dep+1) 93,0⟩:Ref) (some (.fn (.func 77) [] [])) [d,j]) λm n=>
 Q c n))))
theorem im(h : ∀g:iR,dD dep x0 a b H Q):ig Tryz.f49 (dep+1) [(0,x0),(1,a),(2,b)] H Q:=mO (by kernel_rfl) h
def kI:Prop:=
 eA H 1 36 x0 λh i=>
 ak 36 h 0 λT=>
 ad i 5 T λU=>
 dL (bN env.P .eql 5 (Operand.tmp 4) (.const (.int .u8 0)) (some U) (some (a8 0))) λl=>
 gQ l false (az 36 h 0) λO=>
 gQ l false (au i 5 O) λS=>
 gQ l false (bN env.P .geq 5 (Operand.tmp 8) (.const (.int .u8 4)) (some S) (some (a8 4))) λN=>
 cM l N λj=>
 gQ j false (az 36 h 1) λR=>
 gQ j false (au i 29 R) λB=>
 gW j false i (gy false i 14 97 [B]) λo H2=>
 gQ j false (vf 37 14 0 o) λq=>
 cM j q λe=>
 gQ e false (az 36 h 2) λp=>
 gQ e false (au H2 3 p) λF=>
 gQ e false (ql 3 19 1 F) λx=>
 cM e x λf=>
 gQ f false (az 36 h 2) λm=>
 gQ f false (au H2 3 m) λJ=>
 gQ f false (m9 3 24 16777216 J) λI=>
 cM f I λd=>
 gQ d false (az 36 h 3) λz=>
 gQ d false (au H2 33 z) λD=>
 gW d false H2 (gy false H2 30 120 [D]) λu L=>
 gQ d false (vf 37 30 0 u) λK=>
 cM d K λc=>
 gW c false L (gy false L 34 121 []) λt k=>
 gQ c false (az 36 h 0) λn=>
 gQ c false (au k 5 n) λw=>
 gQ c false (vT env.P 190 (some t) (some w)) λG=>
 gQ c false (tf env.P 189 (some G) 0) λE=>
 gQ c false (au k 36 h) λA=>
 gW c false k (aV env true (ay env) (cD env 0) k (Ref.mk 0 40 (aa.gen k 0 40) 0) (some E) [A]) λy M=>
 gQ c false (vd y) λC=>
 cM c C λs=>
 br (some s) (
 Q (.v (.int .i64 8)) M) (
 Q (.v (.int .i64 0)) M)
theorem KM(h : ∀g:iR,kI x0 H Q):ig Tryz.f99 0 [(0,x0)] H Q:=mO (by kernel_rfl) h
def wb:Prop:=
 eA H 1 36 x0 λf d=>
 ak 36 f 4 λh=>
 ad d 31 h λn=>
 ee 31 λj=>
 ve 31 4 5 n j λc=>
 gQ c true (az 36 f 6) λk=>
 gQ c true (au d 34 k) λl=>
 gQ c true (DY d 10 34 l) λm=>
 gQ c true (ud 3 10 0 m) λi=>
 ct c i λe=>
 Q e d
theorem HL(h : ∀g:iR,wb x0 H Q):ig Tryz.f137 0 [(0,x0)] H Q:=mO (by kernel_rfl) h
def Bc:Prop:=
 eA H 1 36 x0 λf c=>
 ak 36 f 5 λe=>
 ad c 27 e λh=>
 bI false c 5 125 [] λi H2=>
 ve 27 4 5 h i λd=>
 Q d H2
theorem HK(h : ∀g:iR,Bc x0 H Q):ig Tryz.f138 0 [(0,x0)] H Q:=mO (by kernel_rfl) h
def zT:Prop:=
 iy H 0 27 λc e=>
 ee 27 λd=>
 aT e 27 c d λh H2=>
 bp H2 c 27 λf=>
 Q f H2
theorem FP(h : ∀g:iR,zT H Q):ig Tryz.f125 0 [] H Q:=mO (by kernel_rfl) h
def jC:Prop:=
 eA H 2 36 x0 λf k=>
 ak 36 f 4 λP=>
 ad k 31 P λS=>
 ee 31 λM=>
 ve 31 6 7 S M λj=>
 gQ j false (az 36 f 4) λN=>
 gQ j false (au k 31 N) λK=>
 gW j false k (gy true k 12 122 [K]) λO H2=>
 gQ j false (ud 37 12 0 O) λL=>
 cM j L λB=>
 ad H2 120 a λo=>
 ad H2 36 f λs=>
 Kw H2 17 o s λi h=>
 gQ i true (bF B) λp=>
 ct i p λd=>
 gQ d true (az 36 f 3) λx=>
 gQ d true (az 33 x 0) λC=>
 gQ d true (az 31 C 0) λl=>
 gQ d true (au h 29 l) λI=>
 gQ d true (az 36 f 1) λF=>
 gQ d true (au h 29 F) λq=>
 gQ d true (kK 29 25 27 I q) λz=>
 ct d z λc=>
 gQ c true (az 36 f 6) λv=>
 gQ c true (au h 34 v) λJ=>
 gQ c true (DY h 33 34 J) λG=>
 gQ c true (az 36 f 3) λu=>
 gQ c true (az 33 u 1) λn=>
 gQ c true (au h 3 n) λw=>
 gQ c true (kK 3 33 36 G w) λE=>
 ct c E λe=>
 gQ e true (az 36 f 6) λA=>
 gQ e true (au h 34 A) λy=>
 gW e true h (gy true h 42 123 [y]) λD R=>
 gQ e true (ud 37 42 0 D) λt=>
 ct e t λm=>
 Q m R
theorem HJ(h : ∀g:iR,jC x0 a H Q):ig Tryz.f139 0 [(0,x0),(1,a)] H Q:=mO (by kernel_rfl) h
def Bb:Prop:=
 eA H 3 36 x0 λe d=>
 ad d 120 a λh=>
 ad d 36 e λm=>
 Kw d 7 h m λc H2=>
 gQ c true (au H2 120 b) λf=>
 gQ c true (au H2 36 e) λj=>
 gW c true H2 (aV env true (ay env) (cD env 0) H2 (Ref.mk 0 11 (aa.gen H2 0 11) 0) (some f) [j]) λk i=>
 ct c k λl=>
 Q l i
theorem HI(h : ∀g:iR,Bb x0 a b H Q):ig Tryz.f141 0 [(0,x0),(1,a),(2,b)] H Q:=mO (by kernel_rfl) h
def Ba:Prop:=
 eA H 2 36 x0 λe d=>
 ad d 120 a λh=>
 ad d 36 e λn=>
 Kw d 6 h n λc H2=>
 gQ c true (az 36 e 5) λf=>
 gQ c true (au H2 27 f) λk=>
 gW c true H2 (gy true H2 10 119 [k]) λl j=>
 gQ c true (ud 37 10 0 l) λm=>
 ct c m λi=>
 Q i j
theorem HH(h : ∀g:iR,Ba x0 a H Q):ig Tryz.f143 0 [(0,x0),(1,a)] H Q:=mO (by kernel_rfl) h
def dt:Prop:=
 eA H 2 36 x0 λi T=>
 eA T 3 36 a λj H2=>
 ak 36 i 0 λY=>
 ad H2 5 Y λU=>
 ak 36 j 0 λR=>
 ad H2 5 R λW=>
 ve 5 6 8 U W λk=>
 gQ k true (az 36 i 1) λX=>
 gQ k true (au H2 29 X) λS=>
 gQ k true (az 36 j 1) λF=>
 gQ k true (au H2 29 F) λs=>
 gQ k true (kK 29 12 14 S s) λv=>
 ct k v λc=>
 gQ c true (az 36 i 2) λt=>
 gQ c true (au H2 3 t) λL=>
 gQ c true (az 36 j 2) λA=>
 gQ c true (au H2 3 A) λG=>
 gQ c true (kK 3 19 21 L G) λm=>
 ct c m λf=>
 gQ f true (az 36 i 3) λO=>
 gQ f true (au H2 33 O) λu=>
 gQ f true (az 36 j 3) λD=>
 gQ f true (au H2 33 D) λJ=>
 gQ f true (kK 33 26 28 u J) λy=>
 ct f y λh=>
 gQ h true (az 36 i 4) λP=>
 gQ h true (au H2 31 P) λx=>
 gQ h true (az 36 j 4) λq=>
 gQ h true (au H2 31 q) λz=>
 gQ h true (kK 31 33 35 x z) λM=>
 ct h M λe=>
 gQ e true (az 36 i 5) λE=>
 gQ e true (au H2 27 E) λB=>
 gQ e true (az 36 j 5) λI=>
 gQ e true (au H2 27 I) λw=>
 gQ e true (kK 27 40 42 B w) λn=>
 ct e n λd=>
 gQ d true (az 36 i 6) λC=>
 gQ d true (au H2 34 C) λN=>
 gQ d true (az 36 j 6) λo=>
 gQ d true (au H2 34 o) λl=>
 gW d true H2 (gy true H2 50 83 [N,l]) λp V=>
 ct d p λK=>
 Q K V
theorem wT(h : ∀g:iR,dt x0 a H Q):ig Tryz.f54 0 [(0,x0),(1,a)] H Q:=mO (by kernel_rfl) h
def oe:Prop:=
 eA H 2 36 x0 λv1 Z=>
 eA Z 3 36 a λX H2=>
 ad H2 36 v1 λv3=>
 ad H2 36 X λv4=>
 iy H2 5 36 λk H3=>
 iy H3 6 36 λl H4=>
 aT H4 36 k v3 λv7 H5=>
 aT H5 36 l v4 λv8 c=>
  qU [(X,k)] [k,l] [] c /\
 (ak 36 k 0 λY=>
 ad c 5 Y λM=>
 ak 36 l 0 λv=>
 ad c 5 v λz=>
 ve 5 10 12 M z λd=>
 gQ d true (az 36 k 1) λw=>
 gQ d true (au c 29 w) λR=>
 gQ d true (az 36 l 1) λG=>
 gQ d true (au c 29 G) λN=>
 gQ d true (kK 29 16 18 R N) λn=>
 ct d n λi=>
 gQ i true (az 36 k 2) λU=>
 gQ i true (au c 3 U) λx=>
 gQ i true (az 36 l 2) λK=>
 gQ i true (au c 3 K) λP=>
 gQ i true (kK 3 23 25 x P) λE=>
 ct i E λj=>
 gQ j true (az 36 k 3) λW=>
 gQ j true (au c 33 W) λD=>
 gQ j true (az 36 l 3) λt=>
 gQ j true (au c 33 t) λF=>
 gQ j true (kK 33 30 32 D F) λS=>
 ct j S λh=>
 gQ h true (az 36 k 4) λL=>
 gQ h true (au c 31 L) λI=>
 gQ h true (az 36 l 4) λO=>
 gQ h true (au c 31 O) λA=>
 gQ h true (kK 31 37 39 I A) λo=>
 ct h o λe=>
 gQ e true (az 36 k 5) λJ=>
 gQ e true (au c 27 J) λT=>
 gQ e true (az 36 l 5) λp=>
 gQ e true (au c 27 p) λm=>
 gQ e true (kK 27 44 46 T m) λq=>
 ct e q λf=>
 gQ f true (az 36 k 6) λV=>
 gQ f true (au c 34 V) λs=>
 gQ f true (az 36 l 6) λy=>
 gQ f true (au c 34 y) λB=>
 gW f true c (gy true c 54 126 [s,B]) λu H7=>
 ct f u λC=>
 Q C H7)
theorem Nl(h : ∀g:iR,oe x0 a H Q):ig Tryz.f104 0 [(0,x0),(1,a)] H Q:=mO (by kernel_rfl) h
def EB:Prop:=
 eA H 1 36 x0 λf c=>
 ak 36 f 6 λe=>
 ad c 34 e λh=>
 bI true c 5 102 [h,(.v (.int .i32 (-1)))] λi H2=>
 mE i λd=>
 Q d H2
theorem KL(h : ∀g:iR,EB x0 H Q):ig Tryz.f68 0 [(0,x0)] H Q:=mO (by kernel_rfl) h
def kW:Prop:=
 bI true H 7 124 [x0,a] λe d=>
 wu 3 7 0 e λc=>
 Q c d
theorem qf(h : ∀g:iR,kW x0 a H Q):ig Tryz.f102 0 [(0,x0),(1,a)] H Q:=mO (by kernel_rfl) h
def fb:=uI Tryz.f124 2
def me:Nat->Option (List Nat):=λi=>cond (Nat.beq i 2) (some [8,0,1,7]) (none)
def mo:Prop:=
 dO H 7 34 x0 λc=>
  cB env Tryz.f124 0 fb [(8,(.v (.int .i64 0))),(0,x0),(1,a),(7,c)] H Q
theorem rP(h : ∀g:iR,mo x0 a H Q):ig Tryz.f124 0 [(0,x0),(1,a)] H Q:=xV me (by kernel_rfl) h
def fj(g:Nat->AV)(c x0 a d:AV)(H:aa)(Q:AV->aa->Prop):Prop:=
 fQ 3 8 7 c d λe=>
 br (some e) (
 dF H 34 x0 c λh=>
 ad H 21 h λj=>
 ve 21 11 15 a j λi=>
 br (some i) (
 Q c H) (
 jh 3 8 1 c λf=>
  cB env Tryz.f124 0 fb [(8,f),(0,x0),(1,a),(7,d)] H Q)) (
 Q (.v (.int .i64 (-1))) H)
theorem lb(d x0 a c:AV)(H:aa)(Q:AV->aa->Prop)(h : ∀g,fj g d x0 a c H Q):cB env Tryz.f124 0 fb [(8,d),(0,x0),(1,a),(7,c)] H Q:=xW me (by kernel_rfl) h
def iL:Prop:=
 iy H 2 43 λh W=>
 iy W 3 108 λq H2=>
 bI true H2 11 114 [x0] λU u=>
 dO u 13 57 U λX=>
 vg 3 13 0 X λV=>
 br (some V) (
 ee 43 λE=>
 ee 108 λx=>
 aT u 43 h E λG L=>
 aT L 108 q x λT w=>
 bp w h 43 λp=>
 bp w q 108 λe=>
 Q (.tup [p,e,(.v (.int .i64 8))]) w) (
 fH u 79 x0 0 λE=>
 ad u 57 E λx=>
 bI true u 21 115 [x] λG L=>
 bj G 0 λT=>
 bj G 1 λp=>
 iy L 6 108 λe w=>
 aT w 108 e T λY Z=>
 bI true Z 26 116 [U] λt H7=>
 bj t 0 λz=>
 bj t 1 λM=>
 iy H7 8 43 λm H8=>
 aT H8 43 m z λv17 H9=>
 j5 3 29 0 p λi=>
 gQ i false (bF M) λR=>
 gQ i false (vd R) λO=>
 cM i O λc=>
 gQ c false (au H9 43 m) λF=>
 gQ c false (az 108 e 0) λJ=>
 gQ c false (au H9 3 J) λC=>
 gQ c false (az 108 e 1) λS=>
 gQ c false (au H9 3 S) λP=>
 gW c false H9 (gy true H9 41 57 [F,C,P]) λB s=>
 gQ c false (bF x0) λy=>
 gW c false s (gy true s 43 117 [B,y]) λD f=>
 gQ c false (vd D) λN=>
 cM c N λK=>
 br (some K) (
 ee 43 λo=>
 ee 108 λn=>
 aT f 43 h o λI l=>
 aT l 108 q n λA d=>
 bp d h 43 λj=>
 bp d q 108 λk=>
 Q (.tup [j,k,(.v (.int .i64 8))]) d) (
 ad f 43 m λo=>
 ad f 108 e λn=>
 aT f 43 h o λI l=>
 aT l 108 q n λA d=>
  qU [(e,h)] [h,q] [] d /\
 (bp d h 43 λj=>
 bp d q 108 λk=>
 Q (.tup [j,k,(.v (.int .i64 0))]) d)))
theorem kq(h : ∀g:iR,iL x0 H Q):ig Tryz.f93 0 [(0,x0)] H Q:=mO (by kernel_rfl) h
def jY:Prop:=
 iy H 2 108 λh c=>
 dO c 6 57 x0 λv2=>
 j5 3 6 128 v2 λv3=>
 br (some v3) (
 ee 108 λs=>
 aT c 108 h s λv5 H2=>
 bp H2 h 108 λI=>
 Q (.tup [I,(.v (.int .i64 8))]) H2) (
 fH c 57 x0 0 λs=>
 ad c 5 s λv5=>
 dy c 12 5 3 v5 λI=>
 qn 3 16777216 12 I λv7=>
 fH c 57 x0 1 λv8=>
 ad c 5 v8 λv9=>
 dy c 17 5 3 v9 λL=>
 qn 3 65536 17 L λt=>
 fJ 3 13 18 v7 t λy=>
 fH c 57 x0 2 λp=>
 ad c 5 p λu=>
 dy c 23 5 3 u λS=>
 qn 3 256 23 S λE=>
 fJ 3 19 24 y E λM=>
 fH c 57 x0 3 λk=>
 ad c 5 k λZ=>
 dy c 29 5 3 Z λW=>
 fJ 3 25 29 M W λw=>
 fH c 57 x0 4 λJ=>
 ad c 5 J λO=>
 dy c 34 5 3 O λC=>
 qn 3 65536 34 C λv25=>
 fH c 57 x0 5 λY=>
 ad c 5 Y λB=>
 dy c 39 5 3 B λo=>
 qn 3 256 39 o λD=>
 fJ 3 35 40 v25 D λU=>
 fH c 57 x0 6 λR=>
 ad c 5 R λK=>
 dy c 45 5 3 K λF=>
 fJ 3 41 45 U F λN=>
 fH c 57 x0 7 λA=>
 ad c 5 A λl=>
 dy c 50 5 3 l λz=>
 fH c 57 x0 8 λG=>
 ad c 5 G λV=>
 dy c 54 5 3 V λm=>
 dL (nS env.P 108 (some [(0,w),(1,N),(2,z),(3,m)])) λj=>
 iy c 4 108 λd H2=>
 aT H2 108 d j λv43 H3=>
 ad H3 108 d λX=>
 bI true H3 57 133 [X] λn T=>
 mE n λx=>
 br (some x) (
 ee 108 λe=>
 aT T 108 h e λq i=>
 bp i h 108 λf=>
 Q (.tup [f,(.v (.int .i64 8))]) i) (
 ad T 108 d λe=>
 aT T 108 h e λq i=>
 bp i h 108 λf=>
 Q (.tup [f,(.v (.int .i64 0))]) i))
theorem ma(h : ∀g:iR,jY x0 H Q):ig Tryz.f115 0 [(0,x0)] H Q:=mO (by kernel_rfl) h
def aW:Prop:=
 eA H 1 43 x0 λf o=>
 ak 43 f 0 λK=>
 ad o 5 K λL=>
 wq 5 4 L λJ=>
 br (some J) (
 ak 43 f 2 λD=>
 ad o 36 D λF=>
 bI true o 8 50 [F] λy H2=>
 gQ y true (az 43 f 2) λG=>
 gQ y true (az 36 G 1) λE=>
 gQ y true (au H2 29 E) λC=>
 gW y true H2 (gy true H2 13 51 [C]) λq p=>
 ct y q λj=>
 gQ j true (az 43 f 1) λc=>
 gQ j true (au p 3 c) λs=>
 gQ j true (m9 3 17 0 s) λu=>
 ct j u λk=>
 gQ k true (az 43 f 1) λm=>
 gQ k true (au p 3 m) λh=>
 gQ k true (y9 3 22 255 h) λx=>
 ct k x λn=>
 gQ n true (az 43 f 3) λi=>
 gQ n true (au p 37 i) λl=>
 gQ n true (ud 37 27 0 l) λt=>
 ct n t λd=>
 gQ d true (az 43 f 4) λe=>
 gQ d true (au p 41 e) λw=>
 gQ d true (I5 41) λA=>
 gQ d true (kK 41 32 33 w A) λz=>
 ct d z λB=>
 Q B p) (
 ak 43 f 1 λD=>
 ad o 3 D λF=>
 j5 3 37 0 F λy=>
 br (some y) (
 Q (.v (.bool false)) o) (
 ak 43 f 0 λG=>
 ad o 5 G λE=>
 Fa 5 40 E λC=>
 br (some C) (
 ak 43 f 2 λq=>
 ad o 36 q λj=>
 bI true o 44 52 [j] λc H2=>
 gQ c true (az 43 f 2) λs=>
 gQ c true (au H2 36 s) λu=>
 gW c true H2 (gy true H2 48 53 [u]) λk p=>
 ct c k λm=>
 gQ m true (az 43 f 3) λh=>
 gQ m true (au p 37 h) λx=>
 gQ m true (m9 37 52 0 x) λn=>
 ct m n λi=>
 gQ i true (az 43 f 3) λl=>
 gQ i true (au p 37 l) λt=>
 gQ i true (ql 37 57 65536 t) λd=>
 ct i d λe=>
 gQ e true (az 43 f 4) λw=>
 gQ e true (au p 41 w) λA=>
 gQ e true (I5 41) λz=>
 gQ e true (kK 41 62 63 A z) λB=>
 ct e B λI=>
 Q I p) (
 ak 43 f 0 λq=>
 ad o 5 q λj=>
 yA 5 67 j λc=>
 gQ c true (az 43 f 2) λs=>
 gQ c true (au o 36 s) λu=>
 gQ c true (I5 36) λk=>
 gW c true o (gy true o 73 54 [u,k]) λm H2=>
 ct c m λh=>
 gQ h true (az 43 f 3) λx=>
 gQ h true (au H2 37 x) λn=>
 gQ h true (ud 37 77 0 n) λi=>
 ct h i λl=>
 gQ l true (az 43 f 4) λt=>
 gQ l true (au H2 41 t) λd=>
 gW l true H2 (gy true H2 83 55 [d]) λe p=>
 ct l e λw=>
 Q w p)))
theorem xN(h : ∀g:iR,aW x0 H Q):ig Tryz.f26 0 [(0,x0)] H Q:=mO (by kernel_rfl) h
def oh:Prop:=
 eA H 1 108 x0 λi d=>
 ak 108 i 0 λM=>
 ad d 3 M λN=>
 wu 3 4 1 N λk=>
 gQ k true (az 108 i 0) λJ=>
 gQ k true (au d 3 J) λL=>
 gQ k true (ql 3 8 2147483648 L) λI=>
 ct k I λl=>
 gQ l true (az 108 i 1) λK=>
 gQ l true (au d 3 K) λx=>
 gQ l true (m9 3 13 1 x) λo=>
 ct l o λe=>
 gQ e true (az 108 i 1) λn=>
 gQ e true (au d 3 n) λp=>
 gQ e true (ql 3 18 16777216 p) λC=>
 ct e C λh=>
 gQ h true (az 108 i 3) λy=>
 gQ h true (au d 3 y) λm=>
 gQ h true (m9 3 23 1 m) λF=>
 ct h F λj=>
 gQ j true (az 108 i 3) λq=>
 gQ j true (au d 3 q) λv=>
 gQ j true (y9 3 28 4 v) λA=>
 ct j A λf=>
 gQ f true (az 108 i 2) λG=>
 gQ f true (au d 3 G) λE=>
 gQ f true (m9 3 33 0 E) λs=>
 ct f s λc=>
 gQ c true (az 108 i 2) λt=>
 gQ c true (au d 3 t) λD=>
 gQ c true (az 108 i 3) λB=>
 gQ c true (au d 3 B) λw=>
 gQ c true (O8 3 38 40 D w) λu=>
 ct c u λz=>
 Q z d
theorem uj(h : ∀g:iR,oh x0 H Q):ig Tryz.f133 0 [(0,x0)] H Q:=mO (by kernel_rfl) h
def mv:Prop:=
 eA H 1 43 x0 λh d=>
 ad d 43 h λf=>
 bI true d 6 56 [f] λl H2=>
 dO H2 7 57 l λe=>
 vh 3 8 119 e λc=>
 sH 3 10 119 e λi=>
 wx 3 11 0 i λj=>
 br (some j) (
 jh 3 13 1 c λk=>
 Q k H2) (
 Q c H2)
theorem wQ(h : ∀g:iR,mv x0 H Q):ig Tryz.f27 0 [(0,x0)] H Q:=mO (by kernel_rfl) h
def gS:=uI Tryz.f57 4
def oK:Nat->Option (List Nat):=λi=>cond (Nat.beq i 4) (some [9,3,2,1,8,7]) (none)
def oP:Prop:=
 eA H 3 43 x0 λd c=>
 ad c 43 d λe=>
 bI true c 12 56 [e] λf H2=>
  cB env Tryz.f57 0 gS [(9,(.v (.int .i64 0))),(3,d),(2,b),(1,a),(8,(.v (.slice none 0 0))),(7,f)] H2 Q
theorem uX(h : ∀g:iR,oP x0 a b H Q):ig Tryz.f57 0 [(0,x0),(1,a),(2,b)] H Q:=xV oK (by kernel_rfl) h
def gV(g:Nat->AV)(d n b a o e:AV)(H:aa)(Q:AV->aa->Prop):Prop:=
 ad H 43 n λu=>
 bI true H 15 27 [u] λz c=>
 fQ 3 13 15 d z λB=>
 br (some B) (
 Fb 3 20 119 d λt=>
 dO c 23 57 e λq=>
 jh 3 24 1 d λw=>
 Fb 3 25 119 w λp=>
 dL (cO env.P false (aa.get c) (Ref.mk 0 27 (aa.gen c 0 27) 0) .min #[3,3] [q,p]) λy=>
 dL (cm env.P (aa.get c) 57 (some e) (oi t) (oi y) (some none)) λs=>
 ad c 43 n λl=>
 bI true c 34 27 [l] λh H2=>
 dL (nS env.P 108 (some [(0,a),(1,b),(2,d),(3,h)])) λj=>
 bI true H2 37 88 [j,s] λf v=>
 nz v 38 79 1 0 f λi A=>
 dG A 39 79 79 o i λm x=>
 jh 3 17 1 d λk=>
  cB env Tryz.f57 0 gS [(9,k),(3,n),(2,b),(1,a),(8,m),(7,e)] x Q) (
 Q o c)
theorem nB(d e b a f c:AV)(H:aa)(Q:AV->aa->Prop)(h : ∀g,gV g d e b a f c H Q):cB env Tryz.f57 0 gS [(9,d),(3,e),(2,b),(1,a),(8,f),(7,c)] H Q:=xW oK (by kernel_rfl) h
def jd:=uI Tryz.f114 3
def pQ:Nat->Option (List Nat):=λi=>cond (Nat.beq i 3) (some [4,0,3]) (none)
def pX:Prop:=
 cB env Tryz.f114 0 jd [(4,(.v (.int .i64 0))),(0,x0),(3,(.v (.slice none 0 0)))] H Q
theorem wN(h : ∀g:iR,pX x0 H Q):ig Tryz.f114 0 [(0,x0)] H Q:=xV pQ (by kernel_rfl) h
def fP(g:Nat->AV)(c x0 f:AV)(H:aa)(Q:AV->aa->Prop):Prop:=
 dO H 7 79 x0 λh=>
 fQ 3 5 7 c h λm=>
 br (some m) (
 dF H 79 x0 c λq=>
 ad H 57 q λp=>
 dO H 15 57 p λl=>
 j5 3 15 128 l λi=>
 br (some i) (
 Q (.v (.slice none 0 0)) H) (
 dF H 79 x0 c λj=>
 ad H 57 j λk=>
 dL (cm env.P (aa.get H) 57 (some k) (oi (.v (.int .i64 9))) (some none) (some none)) λn=>
 dG H 23 57 57 f n λd o=>
 jh 3 9 1 c λe=>
  cB env Tryz.f114 0 jd [(4,e),(0,x0),(3,d)] o Q)) (
 Q f H)
theorem kZ(c x0 d:AV)(H:aa)(Q:AV->aa->Prop)(h : ∀g,fP g c x0 d H Q):cB env Tryz.f114 0 jd [(4,c),(0,x0),(3,d)] H Q:=xW pQ (by kernel_rfl) h
def eb:Prop:=
 iy H 2 43 λx S=>
 iy S 4 43 λm H2=>
 fH H2 57 x0 0 λV=>
 ad H2 5 V λT=>
 ak 43 m 0 λO=>
 aT H2 5 O T λW d=>
 fH d 57 x0 0 λN=>
 ad d 5 N λJ=>
 wq 5 12 J λR=>
 br (some R) (
 Yz d 57 x0 λB=>
 bI true d 18 134 [B] λn y=>
 bj n 0 λh=>
 bj n 1 λc=>
 ak 43 m 2 λf=>
 ak 36 f 1 λj=>
 aT y 29 j h λo l=>
 fH l 57 x0 7 λs=>
 ad l 5 s λe=>
 dy l 26 5 3 e λk=>
 ak 43 m 1 λw=>
 aT l 3 w k λt q=>
 ad q 43 m λi=>
 vg 3 59 0 c λp=>
 gQ p true (au q 43 m) λu=>
 gW p true q (gy false q 63 26 [u]) λD E=>
 ct p D λC=>
 aT E 43 x i λG F=>
 bp F x 43 λz=>
 Q (.tup [z,C]) F) (
 Fa 5 12 J λB=>
 br (some B) (
 fH d 57 x0 1 λn=>
 ad d 5 n λh=>
 dy d 33 5 3 h λc=>
 qn 3 256 33 c λf=>
 fH d 57 x0 2 λj=>
 ad d 5 j λo=>
 dy d 38 5 3 o λs=>
 fJ 3 34 38 f s λe=>
 ak 43 m 3 λk=>
 aT d 37 k e λw y=>
 dL (cm env.P (aa.get y) 57 (some x0) (oi (.v (.int .i64 3))) (some none) (some none)) λt=>
 bI true y 44 135 [t] λi l=>
 bj i 0 λp=>
 bj i 1 λu=>
 bj i 2 λD=>
 ak 43 m 2 λC=>
 aT l 36 C p λG q=>
 ad q 43 m λz=>
 vg 3 59 0 D λA=>
 gQ A true (au q 43 m) λM=>
 gW A true q (gy false q 63 26 [M]) λL E=>
 ct A L λI=>
 aT E 43 x z λU F=>
 bp F x 43 λK=>
 Q (.tup [K,I]) F) (
 yA 5 12 J λn=>
 br (some n) (
 dL (cm env.P (aa.get d) 57 (some x0) (oi (.v (.int .i64 1))) (oi (.v (.int .i64 8))) (some none)) λh=>
 bI true d 54 136 [h] λc y=>
 bj c 0 λf=>
 bj c 1 λj=>
 ak 43 m 4 λo=>
 aT y 41 o f λs l=>
 ad l 43 m λe=>
 vg 3 59 0 j λk=>
 gQ k true (au l 43 m) λw=>
 gW k true l (gy false l 63 26 [w]) λt q=>
 ct k t λi=>
 aT q 43 x e λp E=>
 bp E x 43 λu=>
 Q (.tup [u,i]) E) (
 ad d 43 m λh=>
 dL (bN env.P .eql 3 (Operand.tmp 59) (Operand.const (Value.int IntKind.i64 0)) (some (AV.v (Value.int IntKind.i64 8))) (some (AV.v (Value.int IntKind.i64 0)))) λc=>
 gQ c true (au d 43 m) λf=>
 gW c true d (gy false d 63 26 [f]) λj y=>
 ct c j λo=>
 aT y 43 x h λs l=>
 bp l x 43 λe=>
 Q (.tup [e,o]) l)))
theorem gG(h : ∀g:iR,eb x0 H Q):ig Tryz.f116 0 [(0,x0)] H Q:=mO (by kernel_rfl) h
def fv:=uI Tryz.f117 4
def mK:Nat->Option (List Nat):=λi=>cond (Nat.beq i 4) (some [5,1,0]) (none)
def jP:Prop:=
 dO H 7 79 x0 λd=>
 dO H 9 79 a λc=>
 yZ 3 7 9 d c λe=>
 br (some e) (
 Q (.v (.bool false)) H) (
  cB env Tryz.f117 0 fv [(5,(.v (.int .i64 0))),(1,a),(0,x0)] H Q)
theorem mG(h : ∀g:iR,jP x0 a H Q):ig Tryz.f117 0 [(0,x0),(1,a)] H Q:=xV mK (by kernel_rfl) h
def fw(g:Nat->AV)(c a x0:AV)(H:aa)(Q:AV->aa->Prop):Prop:=
 dO H 13 79 x0 λe=>
 fQ 3 11 13 c e λk=>
 br (some k) (
 dF H 79 x0 c λn=>
 ad H 57 n λm=>
 dy H 21 57 9 m λj=>
 dF H 79 a c λf=>
 ad H 57 f λh=>
 dy H 26 57 9 h λi=>
 yZ 9 21 26 j i λl=>
 br (some l) (
 Q (.v (.bool false)) H) (
 jh 3 15 1 c λd=>
  cB env Tryz.f117 0 fv [(5,d),(1,a),(0,x0)] H Q)) (
 Q (.v (.bool true)) H)
theorem iW(c a x0:AV)(H:aa)(Q:AV->aa->Prop)(h : ∀g,fw g c a x0 H Q):cB env Tryz.f117 0 fv [(5,c),(1,a),(0,x0)] H Q:=xW mK (by kernel_rfl) h
def pY:Prop:=
 eA H 1 36 x0 λc f=>
 ee 29 λe=>
 ak 36 c 1 λk=>
 aT f 29 k e λl H2=>
 ad H2 36 c λd=>
 ee 36 λi=>
 bI true H2 7 54 [d,i] λj h=>
 Q j h
theorem wO(h : ∀g:iR,pY x0 H Q):ig Tryz.f50 0 [(0,x0)] H Q:=mO (by kernel_rfl) h
def m8:Prop:=
 eA H 1 41 x0 λf c=>
 ak 41 f 0 λl=>
 ad c 3 l λp=>
 wu 3 4 0 p λd=>
 gQ d true (az 41 f 0) λk=>
 gQ d true (au c 3 k) λn=>
 gQ d true (ql 3 8 8 n) λo=>
 ct d o λe=>
 gQ e true (az 41 f 1) λm=>
 gQ e true (au c 39 m) λj=>
 gW e true c (gy true c 14 84 [j]) λh H2=>
 ct e h λi=>
 Q i H2
theorem xQ(h : ∀g:iR,m8 x0 H Q):ig Tryz.f55 0 [(0,x0)] H Q:=mO (by kernel_rfl) h
def jD:Prop:=
 eA H 1 43 x0 λh B=>
 ak 43 h 0 λF=>
 ad B 5 F λG=>
 nz B 6 57 1 0 G λw H2=>
 ak 43 h 0 λE=>
 ad H2 5 E λC=>
 wq 5 8 C λD=>
 br (some D) (
 ak 43 h 2 λt=>
 ak 36 t 1 λu=>
 ad H2 29 u λk=>
 bI true H2 14 85 [k] λd n=>
 dG n 15 57 57 w d λf i=>
 ak 43 h 1 λc=>
 ad i 3 c λe=>
 dy i 19 3 5 e λm=>
 nz i 20 57 1 0 m λj s=>
 dG s 21 57 57 f j λl z=>
 Q l z) (
 ak 43 h 0 λt=>
 ad H2 5 t λu=>
 Fa 5 23 u λk=>
 br (some k) (
 ak 43 h 3 λd=>
 ad H2 37 d λf=>
 vh 3 27 256 f λc=>
 dy H2 29 3 5 c λe=>
 ak 43 h 3 λm=>
 ad H2 37 m λj=>
 sH 3 31 256 j λl=>
 dy H2 33 3 5 l λp=>
 gh (lH env.P false true H2 (Ref.mk 0 34 (aa.gen H2 0 34) 0) 57 2 (some [(0,e),(1,p)])) λA n=>
 dG n 35 57 57 w A λy i=>
 ak 43 h 2 λx=>
 ad i 36 x λq=>
 bI true i 39 86 [q] λv s=>
 dG s 40 57 57 y v λo z=>
 Q o z) (
 ak 43 h 4 λd=>
 ad H2 41 d λf=>
 bI true H2 44 87 [f] λc n=>
 dG n 45 57 57 w c λe i=>
 Q e i))
theorem lK(h : ∀g:iR,jD x0 H Q):ig Tryz.f56 0 [(0,x0)] H Q:=mO (by kernel_rfl) h
def ri:Prop:=
 eA H 2 108 x0 λd c=>
 ak 108 d 0 λv2=>
 ad c 3 v2 λv3=>
 vh 3 7 16777216 v3 λX=>
 dy c 9 3 5 X λV=>
 ak 108 d 0 λv6=>
 ad c 3 v6 λU=>
 vh 3 11 65536 U λv8=>
 sH 3 12 256 v8 λW=>
 dy c 14 3 5 W λC=>
 ak 108 d 0 λn=>
 ad c 3 n λq=>
 vh 3 16 256 q λm=>
 sH 3 17 256 m λo=>
 dy c 19 3 5 o λJ=>
 ak 108 d 0 λx=>
 ad c 3 x λD=>
 sH 3 21 256 D λh=>
 dy c 23 3 5 h λR=>
 Pf c 24 57 4 0 V 1 C 2 J 3 R λM H2=>
 ak 108 d 1 λp=>
 ad H2 3 p λA=>
 vh 3 27 65536 A λF=>
 dy H2 29 3 5 F λv=>
 ak 108 d 1 λS=>
 ad H2 3 S λO=>
 vh 3 31 256 O λu=>
 sH 3 32 256 u λl=>
 dy H2 34 3 5 l λw=>
 ak 108 d 1 λK=>
 ad H2 3 K λI=>
 sH 3 36 256 I λB=>
 dy H2 38 3 5 B λy=>
 ak 108 d 2 λE=>
 ad H2 3 E λt=>
 dy H2 41 3 5 t λi=>
 ak 108 d 3 λs=>
 ad H2 3 s λz=>
 dy H2 44 3 5 z λL=>
 gh (lH env.P false true H2 (Ref.mk 0 45 (aa.gen H2 0 45) 0) 57 5 (some [(0,v),(1,w),(2,y),(3,i),(4,L)])) λj Z=>
 dG Z 46 57 57 M j λf H4=>
 dG H4 49 57 57 f a λe T=>
 dO T 52 57 e λG=>
 YO 3 128 52 G λN=>
 dG T 54 57 3 e N λk Y=>
 Q k Y
theorem xM(h : ∀g:iR,ri x0 a H Q):ig Tryz.f88 0 [(0,x0),(1,a)] H Q:=mO (by kernel_rfl) h
def j4:Prop:=
 iy H 2 29 λf h=>
 dO h 6 57 x0 λA=>
 j5 3 6 6 A λD=>
 br (some D) (
 ee 29 λo=>
 aT h 29 f o λu H2=>
 bp H2 f 29 λk=>
 Q (.tup [k,(.v (.int .i64 8))]) H2) (
 fH h 57 x0 0 λo=>
 ad h 5 o λu=>
 YA h 57 x0 λk=>
 bI false h 14 150 [k] λy H2=>
 dy H2 15 3 25 y λz=>
 tA 27 0 u 1 z λB=>
 fH H2 57 x0 5 λm=>
 ad H2 5 m λp=>
 tA 29 0 B 1 p λq=>
 iy H2 4 29 λd x=>
 aT x 29 d q λC w=>
 ad w 29 d λs=>
 bI true w 22 51 [s] λj l=>
 mE j λn=>
 br (some n) (
 ee 29 λc=>
 aT l 29 f c λt i=>
 bp i f 29 λe=>
 Q (.tup [e,(.v (.int .i64 8))]) i) (
 ad l 29 d λc=>
 aT l 29 f c λt i=>
 bp i f 29 λe=>
 Q (.tup [e,(.v (.int .i64 0))]) i))
theorem ta(h : ∀g:iR,j4 x0 H Q):ig Tryz.f134 0 [(0,x0)] H Q:=mO (by kernel_rfl) h
def lO:=uI Tryz.f136 5
def qG:Nat->Option (List Nat):=λi=>cond (Nat.beq i 5) (some [5,0,4,2]) (none)
def kB:Prop:=
 iy H 2 41 λe c=>
 dO c 8 57 x0 λi=>
 j5 3 8 7 i λd=>
 gQ d false (bF x0) λk=>
 gQ d false (bK env.P (aa.get c) 57 (some k) (some (AV.v (Value.int IntKind.i64 1)))) λh=>
 gQ d false (au c 5 h) λl=>
 gQ d false (bN env.P .gtr 5 (Operand.tmp 13) (.const (.int .u8 1)) (some l) (some (a8 1))) λm=>
 cM d m λo=>
 br (some o) (
 ee 41 λj=>
 aT c 41 e j λn H2=>
 bp H2 e 41 λf=>
 Q (.tup [f,(.v (.int .i64 8))]) H2) (
  cB env Tryz.f136 0 lO [(5,(.v (.int .i64 3))),(0,x0),(4,(.v (.int .i64 0))),(2,e)] c Q)
theorem xR(h : ∀g:iR,kB x0 H Q):ig Tryz.f136 0 [(0,x0)] H Q:=xV qG (by kernel_rfl) h
def bM(g:Nat->AV)(q x0 z b:AV)(H:aa)(Q:AV->aa->Prop):Prop:=
 sG 3 17 7 q λC=>
 br (some C) (
 qn 3 256 21 z λw=>
 dF H 57 x0 q λy=>
 ad H 5 y λl=>
 dy H 27 5 3 l λk=>
 fJ 3 22 27 w k λs=>
 jh 3 19 1 q λi=>
  cB env Tryz.f136 0 lO [(5,i),(0,x0),(4,s),(2,b)] H Q) (
 fH H 57 x0 0 λw=>
 ad H 5 w λy=>
 dy H 32 5 3 y λl=>
 fH H 57 x0 2 λk=>
 ad H 5 k λs=>
 dy H 37 3 25 z λi=>
 tA 27 0 s 1 i λD=>
 fH H 57 x0 1 λA=>
 ad H 5 A λt=>
 wq 5 41 t λm=>
 tA 39 0 D 1 m λn=>
 tA 41 0 l 1 n λj=>
 iy H 6 41 λc B=>
 aT B 41 c j λE H2=>
 ad H2 41 c λo=>
 bI true H2 46 55 [o] λu p=>
 mE u λh=>
 br (some h) (
 ee 41 λe=>
 aT p 41 b e λx f=>
 bp f b 41 λd=>
 Q (.tup [d,(.v (.int .i64 8))]) f) (
 ad p 41 c λe=>
 aT p 41 b e λx f=>
 bp f b 41 λd=>
 Q (.tup [d,(.v (.int .i64 0))]) f))
theorem bY(c x0 d b:AV)(H:aa)(Q:AV->aa->Prop)(h : ∀g,bM g c x0 d b H Q):cB env Tryz.f136 0 lO [(5,c),(0,x0),(4,d),(2,b)] H Q:=xW qG (by kernel_rfl) h
def fm:Prop:=
 eA H 1 39 x0 λe k=>
 ak 39 e 0 λm=>
 ad k 27 m λq=>
 bI true k 5 78 [q] λc H2=>
 gQ c true (az 39 e 1) λl=>
 gQ c true (au H2 4 l) λo=>
 gQ c true (bF o) λd=>
 gQ d false (az 39 e 0) λp=>
 gQ d false (au H2 27 p) λn=>
 gQ d false (I5 27) λi=>
 gQ d false (kK 27 11 12 n i) λf=>
 gQ c true (O6 d f) λh=>
 ct c h λj=>
 Q j H2
theorem tH(h : ∀g:iR,fm x0 H Q):ig Tryz.f84 0 [(0,x0)] H Q:=mO (by kernel_rfl) h
def lR:Prop:=
 eA H 1 41 x0 λk l=>
 ak 41 k 0 λw=>
 ad l 3 w λy=>
 dy l 6 3 5 y λx=>
 gh (lH env.P false true l (Ref.mk 0 7 (aa.gen l 0 7) 0) 57 2 (some [(0,x),(1,(a8 0))])) λp H2=>
 ak 41 k 1 λs=>
 ak 39 s 1 λt=>
 ad H2 4 t λv=>
 br (some v) (
 fH H2 57 p 1 λq=>
 gh (iV env.P H2 5 (some q) (some (a8 1))) λj i=>
 ak 41 k 1 λd=>
 ak 39 d 0 λh=>
 ad i 27 h λc=>
 uc 29 0 c λe=>
 bI true i 18 85 [e] λf m=>
 Ik m 57 f λn=>
 dG m 20 57 57 p n λo u=>
 Q o u) (
 ak 41 k 1 λq=>
 ak 39 q 0 λj=>
 ad H2 27 j λd=>
 uc 29 0 d λh=>
 bI true H2 18 85 [h] λc i=>
 Ik i 57 c λe=>
 dG i 20 57 57 p e λf m=>
 Q f m)
theorem vN(h : ∀g:iR,lR x0 H Q):ig Tryz.f87 0 [(0,x0)] H Q:=mO (by kernel_rfl) h
def gT:=uI Tryz.f150 3
def oM:Nat->Option (List Nat):=λi=>cond (Nat.beq i 3) (some [4,0,3]) (none)
def oR:Prop:=
 cB env Tryz.f150 0 gT [(4,(.v (.int .i64 0))),(0,x0),(3,(.v (.int .i64 0)))] H Q
theorem uZ(h : ∀g:iR,oR x0 H Q):ig Tryz.f150 0 [(0,x0)] H Q:=xV oM (by kernel_rfl) h
def kC(g:Nat->AV)(c x0 d:AV)(H:aa)(Q:AV->aa->Prop):Prop:=
 dO H 7 57 x0 λe=>
 fQ 3 5 7 c e λk=>
 br (some k) (
 qn 3 256 11 d λm=>
 dF H 57 x0 c λl=>
 ad H 5 l λj=>
 dy H 17 5 3 j λf=>
 fJ 3 12 17 m f λh=>
 jh 3 9 1 c λi=>
  cB env Tryz.f150 0 gT [(4,i),(0,x0),(3,h)] H Q) (
 Q d H)
theorem nC(c x0 d:AV)(H:aa)(Q:AV->aa->Prop)(h : ∀g,kC g c x0 d H Q):cB env Tryz.f150 0 gT [(4,c),(0,x0),(3,d)] H Q:=xW oM (by kernel_rfl) h
end
section
variable(dep:Nat)(g:Nat->AV)(x0 b a c d:AV)(H:aa)(Q:AV->aa->Prop)
def bC:Prop:=
 eA H 5 24 x0 λM Z=>
 eA Z 9 43 d λR H2=>
 iy H2 10 24 λe W=>
 ad W 24 M λv4=>
 bI true W 15 25 [v4] λY z=>
 mE Y λv6=>
 br (some v6) (
 ee 24 λw=>
 aT z 24 e w λX h=>
 bp h e 24 λD=>
 Q (.tup [D,(.v (.int .i64 0)),(.v (.int .i64 8))]) h) (
 sG 3 18 0 b λw=>
 gQ w false (bF b) λX=>
 gQ w false (y8 3 21 2 X) λD=>
 cM w D λo=>
 gQ o false (bF a) λE=>
 gQ o false (ql 3 25 0 E) λI=>
 cM o I λj=>
 gQ j false (bF a) λF=>
 gQ j false (y8 3 29 2048 F) λS=>
 cM j S λf=>
 gQ f false (az 24 M 1) λP=>
 gQ f false (au z 3 P) λB=>
 gQ f false (ql 3 34 1 B) λU=>
 cM f U λu=>
 gQ u false (bF c) λG=>
 gQ u false (ql 3 38 1 G) λO=>
 cM u O λq=>
 gQ q false (bF c) λK=>
 gQ q false (m9 3 42 16777216 K) λV=>
 cM q V λT=>
 br (some T) (
 ee 24 λl=>
 aT z 24 e l λx h=>
 bp h e 24 λm=>
 Q (.tup [m,(.v (.int .i64 0)),(.v (.int .i64 2))]) h) (
 ad z 43 R λl=>
 bI true z 47 26 [l] λx h=>
 mE x λm=>
 br (some m) (
 ee 24 λt=>
 aT h 24 e t λs k=>
 bp k e 24 λn=>
 Q (.tup [n,(.v (.int .i64 0)),(.v (.int .i64 8))]) k) (
 ad h 43 R λt=>
 bI true h 51 27 [t] λs k=>
 fJ 3 52 53 a s λn=>
 wx 3 54 2048 n λL=>
 br (some L) (
 ee 24 λp=>
 aT k 24 e p λy A=>
 bp A e 24 λi=>
 Q (.tup [i,(.v (.int .i64 0)),(.v (.int .i64 9))]) A) (
 ad k 24 M λp=>
 ad k 43 R λy=>
 bI true k 62 28 [p,b,a,c,y] λi A=>
 bI true A 63 6 [i] λJ H8=>
 fJ 3 64 65 a s λN=>
 aT H8 24 e J λv39 H9=>
 bp H9 e 24 λC=>
 Q (.tup [C,N,(.v (.int .i64 0))]) H9))))
theorem uW(h : ∀g:iR,bC x0 b a c d H Q):ig Tryz.f8 0 [(0,x0),(1,b),(2,a),(3,c),(4,d)] H Q:=mO (by kernel_rfl) h
def cT:Prop:=
 eA H 4 24 x0 λy z=>
 ad z 24 y λD=>
 bI true z 14 25 [D] λG H2=>
 mE G λF=>
 br (some F) (
 Q (.tup [(.v (.slice none 0 0)),(.v (.int .i64 0)),(.v (.int .i64 8))]) H2) (
 sG 3 16 0 b λp=>
 gQ p false (bF b) λB=>
 gQ p false (y8 3 19 2 B) λC=>
 cM p C λn=>
 gQ n false (bF a) λE=>
 gQ n false (ql 3 23 0 E) λm=>
 cM n m λf=>
 gQ f false (bF a) λu=>
 gQ f false (m9 3 27 16777216 u) λo=>
 cM f o λh=>
 gQ h false (bF c) λt=>
 gQ h false (ql 3 31 0 t) λk=>
 cM h k λe=>
 gQ e false (bF c) λl=>
 gQ e false (m9 3 35 16777216 l) λx=>
 cM e x λw=>
 br (some w) (
 Q (.tup [(.v (.slice none 0 0)),(.v (.int .i64 0)),(.v (.int .i64 2))]) H2) (
 ad H2 24 y λs=>
 bI true H2 43 30 [s,b,a,c] λi A=>
 bj i 0 λq=>
 bj i 1 λj=>
 Q (.tup [q,j,(.v (.int .i64 0))]) A))
theorem wJ(h : ∀g:iR,cT x0 b a c H Q):ig Tryz.f10 0 [(0,x0),(1,b),(2,a),(3,c)] H Q:=mO (by kernel_rfl) h
def jz:=uI Tryz.f28 3
def qD:Nat->Option (List Nat):=λi=>cond (Nat.beq i 3) (some [12,5,11,2,1,10]) (none)
def re:Prop:=
 eA H 5 24 x0 λf j=>
 eA j 9 43 d λi H2=>
 iy H2 10 24 λo e=>
 ad e 43 i λk=>
 ak 24 f 1 λh=>
 ad e 3 h λl=>
 bI true e 17 57 [k,l,c] λn m=>
  cB env Tryz.f28 0 jz [(12,(.v (.int .i64 0))),(5,f),(11,n),(2,a),(1,b),(10,o)] m Q
theorem xJ(h : ∀g:iR,re x0 b a c d H Q):ig Tryz.f28 0 [(0,x0),(1,b),(2,a),(3,c),(4,d)] H Q:=xV qD (by kernel_rfl) h
def lP(g:Nat->AV)(e i f a b h:AV)(H:aa)(Q:AV->aa->Prop):Prop:=
 dO H 20 79 f λo=>
 fQ 3 18 20 e o λu=>
 br (some u) (
 ad H 24 i λm=>
 Fb 3 25 2048 b λn=>
 fJ 3 26 27 n a λk=>
 fJ 3 28 29 k e λp=>
 dF H 79 f e λq=>
 ad H 57 q λt=>
 bI false H 35 58 [m,p,t] λv j=>
 aT j 24 i v λs H2=>
 jh 3 22 1 e λl=>
  cB env Tryz.f28 0 jz [(12,l),(5,i),(11,f),(2,a),(1,b),(10,h)] H2 Q) (
 ad H 24 i λm=>
 aT H 24 h m λn j=>
 bp j h 24 λk=>
 Q k j)
theorem o6(i j e a b f:AV)(H:aa)(Q:AV->aa->Prop)(h : ∀g,lP g i j e a b f H Q):cB env Tryz.f28 0 jz [(12,i),(5,j),(11,e),(2,a),(1,b),(10,f)] H Q:=xW qD (by kernel_rfl) h
def jA:=uI Tryz.f30 3
def qE:Nat->Option (List Nat):=λi=>cond (Nat.beq i 3) (some [11,10,2,1,4,3]) (none)
def rg:Prop:=
 eA H 4 24 x0 λf e=>
  cB env Tryz.f30 0 jA [(11,(.v (.int .i64 0))),(10,(.v (.slice none 0 0))),(2,a),(1,b),(4,f),(3,c)] e Q
theorem xK(h : ∀g:iR,rg x0 b a c H Q):ig Tryz.f30 0 [(0,x0),(1,b),(2,a),(3,c)] H Q:=xV qE (by kernel_rfl) h
def cC(g:Nat->AV)(f e a b d c:AV)(H:aa)(Q:AV->aa->Prop):Prop:=
 dO H 15 50 e λv=>
 fQ 3 15 16 v c λz=>
 br (some z) (
 ad H 24 d λB=>
 dO H 24 50 e λt=>
 fJ 3 22 24 a t λq=>
 jh 3 25 1 q λw=>
 bI true H 27 62 [B,b,f,w] λo s=>
 bj o 0 λy=>
 bj o 1 λp=>
 iy s 12 43 λh H2=>
 aT H2 43 h y λu m=>
 vg 3 30 0 p λk=>
 br (some k) (
 Q (.tup [e,f]) m) (
 ad m 43 h λi=>
 nz m 36 50 1 0 i λj A=>
 dG A 37 50 50 e j λn x=>
 fJ 3 38 39 f p λl=>
  cB env Tryz.f30 0 jA [(11,l),(10,n),(2,a),(1,b),(4,d),(3,c)] x Q)) (
 Q (.tup [e,f]) H)
theorem vJ(e f a b d c:AV)(H:aa)(Q:AV->aa->Prop)(h : ∀g,cC g e f a b d c H Q):cB env Tryz.f30 0 jA [(11,e),(10,f),(2,a),(1,b),(4,d),(3,c)] H Q:=xW qE (by kernel_rfl) h
def iF:=uI Tryz.f62 2
def pb:Nat->Option (List Nat):=λi=>cond (Nat.beq i 2) (some [8,10,3,2,1,4]) (none)
def pj:Prop:=
 eA H 4 24 x0 λh f=>
 iy f 8 43 λe H2=>
  cB env Tryz.f62 0 iF [(8,e),(10,(.v (.int .i64 1))),(3,c),(2,a),(1,b),(4,h)] H2 Q
theorem vI(h : ∀g:iR,pj x0 b a c H Q):ig Tryz.f62 0 [(0,x0),(1,b),(2,a),(3,c)] H Q:=xV pb (by kernel_rfl) h
def dZ(g:Nat->AV)(i e c a b d:AV)(H:aa)(Q:AV->aa->Prop):Prop:=
 dL (bN env.P .leq 3 (Operand.tmp 14) (Operand.const (Value.int IntKind.i64 4)) (some e) (some (AV.v (Value.int IntKind.i64 4)))) λm=>
 gQ m true (bF a) λL=>
 gQ m true (bF e) λO=>
 gQ m true (MR 3 17 18 L O) λE=>
 gQ m true (y9 3 19 2048 E) λD=>
 ct m D λJ=>
 br (some J) (
 ad H 24 d λq=>
 bI true H 29 94 [q,b,a,e] λB n=>
 bI true n 30 93 [B] λk H2=>
 bj k 0 λx=>
 bj k 1 λs=>
 bj k 2 λu=>
 iy H2 11 43 λj I=>
 iy I 12 108 λl M=>
 aT M 43 j x λN K=>
 aT K 108 l s λG o=>
 vg 3 34 0 u λf=>
 gQ f true (az 108 l 1) λp=>
 gQ f true (au o 3 p) λz=>
 gQ f true (bF c) λy=>
 gQ f true (kK 3 38 39 z y) λt=>
 ct f t λw=>
 br (some w) (
 ad o 43 j λh=>
 aT o 43 i h λF C=>
 bp C i 43 λA=>
 Q (.tup [A,e]) C) (
 jh 3 22 1 e λh=>
  cB env Tryz.f62 0 iF [(8,i),(10,h),(3,c),(2,a),(1,b),(4,d)] o Q)) (
 ee 43 λq=>
 aT H 43 i q λB n=>
 bp n i 43 λk=>
 Q (.tup [k,(.v (.int .i64 0))]) n)
theorem fy(f e c a b d:AV)(H:aa)(Q:AV->aa->Prop)(h : ∀g,dZ g f e c a b d H Q):cB env Tryz.f62 0 iF [(8,f),(10,e),(3,c),(2,a),(1,b),(4,d)] H Q:=xW pb (by kernel_rfl) h
def gR:=uI Tryz.f94 3
def oJ:Nat->Option (List Nat):=λi=>cond (Nat.beq i 3) (some [10,2,1,4,9,3]) (none)
def oO:Prop:=
 eA H 4 24 x0 λf e=>
  cB env Tryz.f94 0 gR [(10,(.v (.int .i64 0))),(2,a),(1,b),(4,f),(9,(.v (.slice none 0 0))),(3,c)] e Q
theorem uV(h : ∀g:iR,oO x0 b a c H Q):ig Tryz.f94 0 [(0,x0),(1,b),(2,a),(3,c)] H Q:=xV oJ (by kernel_rfl) h
def gU(g:Nat->AV)(e a b d f c:AV)(H:aa)(Q:AV->aa->Prop):Prop:=
 fQ 3 11 12 e c λh=>
 br (some h) (
 ad H 24 d λn=>
 Fb 3 18 2048 b λs=>
 fJ 3 19 20 s a λq=>
 fJ 3 21 22 q e λm=>
 bI true H 24 95 [n,m] λj o=>
 nz o 25 79 1 0 j λk H2=>
 dG H2 26 79 79 f k λl i=>
 jh 3 14 1 e λp=>
  cB env Tryz.f94 0 gR [(10,p),(2,a),(1,b),(4,d),(9,l),(3,c)] i Q) (
 Q f H)
theorem nA(e a b d f c:AV)(H:aa)(Q:AV->aa->Prop)(h : ∀g,gU g e a b d f c H Q):cB env Tryz.f94 0 gR [(10,e),(2,a),(1,b),(4,d),(9,f),(3,c)] H Q:=xW oJ (by kernel_rfl) h
end
end Go.Proofs.YtmjkpdknicjjgaaGreat
