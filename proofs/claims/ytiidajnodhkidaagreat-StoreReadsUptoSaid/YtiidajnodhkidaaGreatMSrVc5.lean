/-
  One element put into an own row, whatever room the row has. No statement of a seat is proved here.
-/
import Derived.JoinedCond
import Derived.Test.YtiidajnodhkidaaGreatRows
import Derived.Test.YtiidajnodhkidaaGreatAbsRules
set_option linter.unusedVariables false
set_option linter.unusedSimpArgs false
set_option linter.unusedSectionVars false
set_option linter.unnecessarySimpa false
set_option maxRecDepth 1000000
set_option linter.defProp false
noncomputable section
namespace Go.Ab
def agY(es:List AV)(i:Nat)(v:AV):List AV:=es.take i++v :: es.drop i
def ajT(sl:Nat)(H:aa)(r:Ref):Ref:=⟨r.d+1,sl,H.gen (r.d+1) sl,0⟩
def ajU(sl:Nat)(H:aa)(r:Ref)(B:bC):aa:=(⟨r.d,r.t,H.gen r.d r.t,0⟩,some B) :: (ajT sl H r,none) :: H.put r none
def To{E:Env}{ok:Array Oper->Bool}(b:E.Ok ok){f:FuncId}{args:List AV}{y:AV}(h:ay E f args=some y):kE E.P f args y:=by
 obtain⟨n,a⟩:=xi.1 h;exact RU b (a n (bM n))
def Q5(E:Env)(a:FuncId->List AV->Option AV)(d:Oper->Bool:=λ_=>false):Env := { E with spec:=a,deep:=d}
def UQ{P:Program}{l bT kp:List FuncId}{strict:Oper->Bool}{apart:Array Oper->List (Tmp × Tmp)}{jq:Oper->Bool}{Gf:List (FuncId × List AV × AV)}{wide:Oper->Bool}{su:FuncId->Option TypeId}{thrSpec:FuncId->List AV->aa->Option (AV × aa)}{sm:OE}{sp:FuncId->List AV->Option AV}{d:Oper->Bool}
 (hspec : ∀f args y,sp f args=some y->kE P f args y) (hm:P.follows .mixedOrders=true) (h0:IJ (xm P l bT kp strict apart jq) l=true) (hover : ∀f t,su f=some t->z9 P f t) (hthr : ∀f args H y H',thrSpec f args H=some (y,H')->nH P (.fn f) args H y H') :
 (Q5 (xm P l bT kp strict apart jq Gf wide su thrSpec sm) sp d).Ok (Da (Q5 (xm P l bT kp strict apart jq Gf wide su thrSpec sm) sp d)) where
 fns:=by
  intro f hf;have h:IJ (xm P l bT kp strict apart jq Gf) l=true:=h0;have hf':f∈l:=by simpa [xm,Q5] using hf
  have:=gP.1 h f hf';split at this;·rename_i fn hfn;simp only[bI,ij]at this;refine⟨fn,hfn,this.1,λc hc=>?_⟩;have h2:=this.2;rw[hc]at h2;exact h2
  cases this
 specs:=λf args y h=>hspec f args y h
 same:=rfl
 overs:=hover
 thrs:=hthr
 draws:=λops hok _ hpc _ htc nt dep id st st' M ι a w ro Q hr hap hO hQ=>by
  rcases G0.1 hok with h1 | h1
  ·exact Of hm h1 hpc htc hr hO hQ
  exact Og hm h1 hpc htc hr hap hO hQ
end Go.Ab
namespace Go.Ab
open Go.ChangeShapes Go.WideShapes Go.RowKit
inductive uO (N:Nat):AV->Prop
 | v (x:Value):uO N (.v x)
 | agg (xs:List AV):(∀x∈xs,uO N x)->uO N (.agg xs)
 | bE (z:Nat) (es:List AV) (c:Option Nat):es.length<=N->(∀x∈es,uO N x)->uO N (.bE z es c)
def Q7{N:Nat}(y:Value) : ∀x∈[AV.v y],uO N x:=by
 intro x a;rw[lX]at a;subst a;exact .v _
def Sj{N:Nat}{b:Bool}{a:List AV}(h : ∀x∈a,uO N x):uO N (JI b a):=by
 unfold JI;split;·exact h _ (by simp)
 exact .agg _ h
def uO.sl{N z:Nat}{es:List AV}{x:AV}(h:uO N x)(f:Sl z es x):es.length<=N /\∀e∈es,uO N e:=by
 rcases f with ⟨_,rfl⟩ | ⟨c,rfl,_⟩
 ·exact⟨Ae _,λe b=>by cases b⟩
 cases h with| bE _ _ _ d a=>exact⟨d,a⟩
def uO.parts{N:Nat}{a:List AV}(h:uO N (.agg a)) : ∀x∈a,uO N x:=by
 cases h with| agg _ h=>exact h
section
variable{H:Type}{enc:TypeId × Value->H}{P:Program}{w:World}{g:Nat}{A:Nat->Bool}{B:Bool}{u:DataW H->Nat}{N:Nat}
def NC(hs : ∀es sp,es.length<=u (.slice es sp) /\∀d∈es,u d<=u (.slice es sp))(ha : ∀ps,∀d∈ps,u d<=u (.agg ps)) : ∀(n m:Nat)(t:TypeId)(cs:List Value)(d:DataW H)(ps:List MemPlace),plain P m t=true->DataW.trod enc P w g A B n t cs=some (d,ps)->u d<=N ->
 ∃p:List AV,(Es P m t p /\∀x∈p,uO N x)/\mM (wi w) eM p cs:=by
 intro n;induction n with
 | zero=>intro m t cs d ps _ h _;simp[DataW.trod]at h
 | succ n ih=>
  intro m t cs d ps hp h hN;cases m with
  | zero=>simp[plain]at hp
  | succ m=>
  have hp0:=hp;unfold plain at hp;unfold Es;cases hu:P.underlying t with
  | none=>rw[hu]at hp;simp at hp
  | some dd=>
   rw[hu]at hp;unfold DataW.trod at h;rw[hu]at h;have C : ∀ {x:AV} {c:Value},VR (wi w) eM x c->mM (wi w) eM [x] [c]:=λh=>mM.cons h mM.nil;cases dd<;>dsimp only at hp ⊢ <;> try (simp at hp;done)
   ·rcases cs with _ | ⟨c,_ | ⟨c',cs⟩⟩
    ·simp at h
    ·cases c<;>first | (simp at h;done) | skip
     rename_i b;exact⟨[aB b],⟨⟨b,rfl⟩,Q7 _⟩,C (.v rfl)⟩
    simp at h
   ·rename_i k;rcases cs with _ | ⟨c,_ | ⟨c',cs⟩⟩
    ·simp at h
    ·cases c<;>first | (simp at h;done) | skip
     rename_i k' i;dsimp only at h;split at h;·rename_i hk;obtain⟨rfl,hw⟩:=hk;exact⟨[.v (.int k' i)],⟨⟨i,by simpa [Lit.wf] using hw,rfl⟩,Q7 _⟩,C (.v rfl)⟩
     cases h
    simp at h
   ·rcases cs with _ | ⟨c,_ | ⟨c',cs⟩⟩
    ·simp at h
    ·cases c<;>first | (simp at h;done) | skip
     rename_i s;exact⟨[aS s],⟨⟨s,rfl⟩,Q7 _⟩,C (.v rfl)⟩
    simp at h
   ·rename_i e;simp only[bI,iQl,iQb]at hp;rcases cs with _ | ⟨c,_ | ⟨c',cs⟩⟩
    ·simp at h
    ·cases c<;>first | (simp at h;done) | skip
     rename_i a len cap;cases a with
     | none=>have hlc:len=0/\cap=0:=(by cases len<;>cases cap<;>simp at h ⊢);obtain⟨rfl,rfl⟩:=hlc;exact⟨[aY],⟨.inl rfl,Q7 _⟩,C (.v rfl)⟩
     | some a=>
      dsimp only at h;split at h
      ·rename_i hb;simp only[jb,bU]at h;obtain⟨elems,hel,rest,_,hd⟩:=h;have hd1:=(Prod.mk.inj hd).1;subst hd1;obtain⟨w1,w2⟩:=hs (elems.map (·.1)) (rest.map (·.1));rw[AM]at w1;have hlen:elems.length=len:=by simpa using iG hel
       have each : ∀i,i<len ->∃(p:List AV) (D:List Value),(Es P m e p /\∀x∈p,uO N x)/\mM (wi w) eM p D/\w.cells? g (a.add (i * P.cellsOf e)) (P.cellsOf e)=some D:=(by intro i hi;obtain⟨y,J,O⟩:=mB hel i i (by simp[hi]);simp only[jb]at O;obtain⟨D,hvs,O⟩:=O;obtain⟨p,F,I⟩:=ih m e D y.1 y.2 hp.1.2 O (wT (w2 _ (K3 (ja J))) hN);exact⟨p,D,F,I,hvs⟩);have : ∀k,k<=len ->∃es:List (List AV),es.length=k /\∀i p,es[i]?=some p ->∃D:List Value,(Es P m e p /\∀x∈p,uO N x)/\mM (wi w) eM p D/\w.cells? g (a.add (i * P.cellsOf e)) (P.cellsOf e)=some D:=by
        intro k;induction k with
        | zero=>intro _;exact⟨[],rfl,λi p h=>by simp at h⟩
        | succ k ihk=>
         intro hk;obtain⟨es,F,I⟩:=ihk (by omega);obtain⟨p,D,h3⟩:=each k (by omega);refine⟨es++[p],by simp[F],λi ys J=>?_⟩;rcases fQ i k with hi | hi
         ·rw[kR (by omega)]at J;exact I i ys J
         have:i=k:=(by have:=(fg.1 J).1;simp[F]at this;omega);subst this;rw[kj (by omega)]at J;simp[F]at J;subst J;exact⟨D,h3⟩
       obtain⟨es,hes,E⟩:=this len (bM _);have V : ∀p∈es,(JI ((fK P e).getD false) p).cells=p/\p.length=P.cellsOf e:=(by intro p q;obtain⟨i,hi,rfl⟩:=qC q;obtain⟨D,F,I,h3⟩:=E i es[i] (eu hi);obtain⟨Y,h5⟩:=F.1.facts m e _ hp.1.2;exact⟨P2 h5,Y⟩);refine⟨[.bE (P.cellsOf e) (es.map (JI ((fK P e).getD false))) none],⟨.inr ⟨es,rfl,λp q=>?_⟩,?_⟩,C ?_⟩;·obtain⟨i,hi,rfl⟩:=qC q;obtain⟨D,F,_⟩:=E i es[i] (eu hi);exact F.1
       ·intro x L;rw[lX]at L;subst L;refine .bE _ _ _ (by rw[AM];omega) λy J=>?_;obtain⟨p,q,rfl⟩:=mo.1 J;obtain⟨i,hi,rfl⟩:=qC q;obtain⟨D,F,_⟩:=E i es[i] (eu hi);exact Sj F.2
       have hlm:(es.map (JI ((fK P e).getD false))).length=len:=(by simp[hes]);have K : ∀i j,i<len->j<P.cellsOf e ->∃p D,es[i]?=some p/\mM (wi w) eM p D/\(∀x∈p,x.one=true)/\p.length=P.cellsOf e/\wi w a.block (a.off+(i * P.cellsOf e+j))=D[j]?/\(a.spot=none):=by
        intro i j hi Z;have hi':i<es.length:=by omega
        obtain⟨D,F,I,h3⟩:=E i es[i] (eu hi');obtain⟨Y,h5⟩:=F.1.facts m e _ hp.1.2;obtain⟨hb',hvl,hc⟩:=World.cells?_some h3;have hj':=hc j Z;have hsp:a.spot=none:=by
         obtain⟨vs0,g1,g2,g3⟩:=E 0 es[0] (eu (by omega));obtain⟨_,hvl0,hc0⟩:=World.cells?_some g3;have:=hc0 0 hp.2;rw[Nat.zero_mul]at this;have ha0:(a.add 0).add 0=a:=by simp[Addr.add]
         rw[ha0]at this;unfold World.cell? at this;cases hs:a.spot with
         | none=>rfl
         | some z=>
          exfalso;have hl0:0<vs0.length:=by omega
          rw[eu hl0]at this;split at this;·rw[hs]at this;simp at this
          simp at this
        refine⟨es[i],D,eu hi',I,h5,Y,?_,hsp⟩;rw[<-hj'];unfold wi;congr 1;rw[kV hsp,iM,iM,GX]
       have:=VR.bE (M:=wi w) (ι:=eM) (esz:=P.cellsOf e) (es:=es.map (JI ((fK P e).getD false))) (cap:=none) (a:=a) (c:=cap)
        (λi j=>(wi w a.block (a.off+(i * P.cellsOf e+j))).getD Go.undef) ?_ (by rw[hlm];exact hb.2.1) (λk hk=>by cases hk) ?_ ?_ ?_
       ·rw[hlm]at this;exact this
       ·rcases EC len with h0 | h0
        ·right;have:es=[]:=by apply Ak;omega
         simp[this]
        left;obtain⟨_,_,_,_,_,_,_,hs⟩:=K 0 0 h0 hp.2;exact hs
       ·intro i j hi Z;rw[hlm]at hi;obtain⟨p,D,F,I,h3,Y,h5,_⟩:=K i j hi Z;have R:j<D.length:=by rw[<-I.1,Y];exact Z
        have hjx:j<p.length:=by rw[Y];exact Z
        rw[h5,eu R];refine⟨rfl,?_⟩;have:=I.2 j p[j] D[j] (eu hjx) (eu R);exact this.one (h3 _ (fj ..))
       ·intro x L;obtain⟨p,q,rfl⟩:=mo.1 L;rw[(V p q).1];exact(V p q).2
       intro i j x c L hc;rw[nM,bU]at L;obtain⟨p,q,rfl⟩:=L;have W:p∈es:=ja q;rw[(V p W).1]at hc;have hi:i<len:=by have:=(fg.1 q).1;omega
       have Z:j<P.cellsOf e:=by have:=(fg.1 hc).1;rw[(V p W).2]at this;exact this
       obtain⟨xs',D,F,I,h3,Y,h5,_⟩:=K i j hi Z;rw[q]at F;cases F;have R:j<D.length:=by rw[<-I.1,Y];exact Z
       show VR _ _ c ((wi w a.block (a.off+(i * P.cellsOf e+j))).getD Go.undef);rw[h5,eu R];exact I.2 j c D[j] hc (eu R)
      cases h
    simp at h
   ·rename_i k e;simp only[bI,iQl]at hp;have h:cs.length=P.cellsOf t /\∃p,((List.range k).mapM λi=>DataW.trod enc P w g A B n e ((cs.drop (i * P.cellsOf e)).take (P.cellsOf e)))=some p/\d = .agg (p.map (·.1)):=by
     dsimp only at h;split at h;·rename_i X;simp only[bU]at h;obtain⟨p,q,hd⟩:=h;exact⟨X,p,q,(Prod.mk.inj hd).1.symm⟩
     cases h
    obtain⟨X,ys,hys,hd⟩:=h;subst hd;have hwy : ∀y∈ys,u y.1<=N:=λy J=>wT (ha _ _ (K3 J)) hN;rw[hp.2]at X;have : ∀(k' T:Nat),T+k'=k ->∃p,(OD (Es P m e) k' p /\∀x∈p,uO N x)/\mM (wi w) eM p (cs.drop (T * P.cellsOf e)):=by
     intro k';induction k' with
     | zero=>intro T hi;refine⟨[],⟨rfl,λx L=>by cases L⟩,?_⟩;rw[Fz (by rw[X,<-hi];simp)];exact mM.nil
     | succ k' ihk=>
      intro T hi;obtain⟨b,S,hb2⟩:=ihk (T+1) (by omega);obtain⟨y,hym,O⟩:=mB hys T T (by rw[Fx (by omega)]);obtain⟨a,Q,U⟩:=ih m e _ y.1 y.2 hp.1 O (hwy _ (ja hym));refine⟨a++b,⟨⟨a,b,rfl,Q.1,S.1⟩,λx L=>(mS.1 L).elim (Q.2 x) (S.2 x)⟩,?_⟩;have:cs.drop (T * P.cellsOf e)=(cs.drop (T * P.cellsOf e)).take (P.cellsOf e)++cs.drop ((T+1) * P.cellsOf e):=by
       rw[GV,<-pN,Dt]
      rw[this];exact U.append hb2
    obtain⟨p,F,I⟩:=this k 0 (by omega);exact⟨p,F,by simpa using I⟩
   rename_i fs;simp only[bI,iQl,gP]at hp;have h:cs.length=P.cellsOf t /\∃p,(fs.toList.mapM λf=>DataW.trod enc P w g A B n f.type ((cs.drop f.offset).take (P.cellsOf f.type)))=some p/\d = .agg (p.map (·.1)):=by
    dsimp only at h;split at h;·rename_i X;simp only[bU]at h;obtain⟨p,q,hd⟩:=h;exact⟨X,p,q,(Prod.mk.inj hd).1.symm⟩
    cases h
   obtain⟨X,ys,hys,hd⟩:=h;subst hd;have hwy : ∀y∈ys,u y.1<=N:=λy J=>wT (ha _ _ (K3 J)) hN;have : ∀(l:List Field)(o:Nat),(∀f∈l,plain P m f.type=true)->(∀f∈l,∃y,u y.1<=N/\DataW.trod enc P w g A B n f.type ((cs.drop f.offset).take (P.cellsOf f.type))=some y)->layout P l o=some cs.length ->
    ∃p,(Xt (Es P m) l p /\∀x∈p,uO N x)/\mM (wi w) eM p (cs.drop o):=by
    intro l;induction l with
    | nil=>intro o _ _ G;simp[layout]at G;refine⟨[],⟨rfl,λx L=>by cases L⟩,?_⟩;rw[Fz (by omega)];exact mM.nil
    | cons f l ihl=>
     intro o hpl htr G;unfold layout at G;split at G
     ·rename_i ho;obtain⟨b,S,hb2⟩:=ihl (o+P.cellsOf f.type) (λf O=>hpl f (kQ _ O)) (λf O=>htr f (kQ _ O)) G;obtain⟨y,hyw,O⟩:=htr f (j1 ..);obtain⟨a,Q,U⟩:=ih m f.type _ y.1 y.2 (hpl f (j1 ..)) O hyw;rw[ho]at U;refine⟨a++b,⟨⟨a,b,rfl,Q.1,S.1⟩,λx L=>(mS.1 L).elim (Q.2 x) (S.2 x)⟩,?_⟩;have:cs.drop o=(cs.drop o).take (P.cellsOf f.type)++cs.drop (o+P.cellsOf f.type):=by
       rw[<-pN,Dt]
      rw[this];exact U.append hb2
     cases G
   obtain⟨p,F,I⟩:=this fs.toList 0 hp.1 (λf O=>by
    obtain⟨i,hi,rfl⟩:=qC O;obtain⟨y,hym,J⟩:=mB hys i fs.toList[i] (eu hi);exact⟨y,hwy _ (ja hym),J⟩) (by rw[X];exact hp.2)
   exact⟨p,F,by simpa using I⟩
def NB(D : ∀es q,es.length<=u (.slice es q) /\∀d∈es,u d<=u (.slice es q))(z : ∀ps,∀d∈ps,u d<=u (.agg ps)){m:Nat}{t:TypeId}{v:Value}{d:DataW H}{ps:List MemPlace}(hp:plain P m t=true)(c:Value.okWide P w .any g t v){i:Nat}(h:DataW.Trod enc P w i A B t v d ps)(y:u d<=N) :
 ∃x:AV,(TW P m t x/\uO N x)/\VR (wi w) eM x v:=by
 obtain⟨n,E⟩:=h;obtain⟨xs,⟨p,k⟩,o⟩:=NC D z n m t v.cells.toList d ps hp E y;unfold TW;by_cases a:fK P t=some true
 ·rw[a];have : ∃cs,v = .agg cs:=by
   unfold fK at a;unfold Value.okWide at c;cases j:P.underlying t with
   | none=>rw[j]at a;simp at a
   | some dd=>rw[j]at a c;cases dd<;>simp at a<;>(obtain⟨cs,rfl,_⟩:=c;exact⟨cs,rfl⟩)
  obtain⟨cs,rfl⟩:=this;exact⟨.agg xs,⟨⟨xs,rfl,p⟩,.agg _ k⟩,VR.rh.2 o⟩
 have l:v.cells = #[v] /\∃x,xs=[x]:=by
  have s:=p.facts m t xs hp;cases m with
  | zero=>simp[plain]at hp
  | succ m=>
  have b:=hp;unfold plain at b;unfold fK at a;unfold Value.okWide at c;cases j:P.underlying t with
  | none=>rw[j]at b;simp at b
  | some dd=>
   rw[j]at b a c;have f:P.cellsOf t=1->Cell.okWide P w .any g t v->v.cells = #[v] /\∃x,xs=[x]:=by
    intro F e;refine⟨?_,?_⟩
    ·cases v<;>try rfl
     exfalso;unfold Cell.okWide at e;rw[j]at e;cases dd<;>simp at b a<;>(simp[Cell.ok,j]at e)
    have:=s.1;rw[F]at this;match xs,this with
    | [x],_=>exact⟨x,rfl⟩
   cases dd<;>simp at b a;·exact f b c
   ·exact f b c
   ·exact f b c
   exact f b.1.1 c
 obtain⟨l,x,rfl⟩:=l;rw[l]at o;refine⟨x,⟨?_,k x (by simp)⟩,o.2 0 x v rfl rfl⟩;split;·rename_i C;exact(a C).elim
 exact p
def Te(I : ∀es D,es.length<=u (.slice es D) /\∀d∈es,u d<=u (.slice es D))(F : ∀ps,∀d∈ps,u d<=u (.agg ps)){m:Nat}{a:Nat} : ∀ {b:List TypeId} {k:List Value} {ds:List (DataW H)} {ps:List MemPlace},b.all (plain P m)=true->(∀(j:Nat) t v,b[j]?=some t->k[j]?=some v->Value.okWide P w .any g t v) ->
 DataW.TrodAll enc P w a A B b k ds ps->(∀d∈ds,u d<=N) ->∃c:List AV,(QG P m b c /\∀x∈c,uO N x)/\mM (wi w) eM c k:=by
 intro b;induction b with
 | nil=>intro k ds ps _ _ h _;obtain⟨rfl,_,_⟩:=trodAll_nil h;exact⟨[],⟨trivial,λx L=>by cases L⟩,mM.nil⟩
 | cons t b J=>intro k ds ps hp i h C;obtain⟨v,E,d,K,p,q,rfl,rfl,rfl,z,n⟩:=trodAll_cons h;simp only[zk,bI]at hp;obtain⟨x,l,s⟩:=NB I F hp.1 (i 0 t v rfl rfl) z (C _ (j1 ..));obtain⟨c,f,o⟩:=J hp.2 (λj t v z n=>i (j+1) t v z n) n (λd hd=>C d (kQ _ hd));exact⟨x :: c,⟨⟨l.1,f.1⟩,λy G=>(fR.1 G).elim (λe=>by rw[e];exact l.2) (f.2 y)⟩,mM.cons s o⟩
end
def Ip{E:Env}{ok:Array Oper->Bool}(O:E.Ok ok){T:TypeId->Prop}(K:Kids E.P T)(U : ∀t e,T t->E.P.underlying t=some (.slice e)->0<E.P.cellsOf e){H:Type}{enc:TypeId × Value->H}{id:FuncId}{f:Func}{s:ChangeSpec}{apart fresh a again:Bool}{m:Nat}
 (X : ∀t∈f.params.toList,T t) (hp:f.params.toList.all (plain E.P m)=true) (M:s.vars=[]) (Y : ∀ds:List (DataW H),ds.length=f.params.toList.length->s.fn H ds = { results:=[.lit (.bool true)],args:=ds}) (z:Mc E.P f=true)
 {u:DataW H->Nat} {N:Nat} (y : ∀es I,es.length<=u (.slice es I) /\∀d∈es,u d<=u (.slice es I)) (o : ∀ps,∀d∈ps,u d<=u (.agg ps))
 (h : ∀c,QG E.P m f.params.toList c->(∀x∈c,uO N x)->ay E id c=some (.v (.bool true)))
 (W:World) (g:Nat) (args:Array Value) (ds R:List (DataW H)) (b:List MemPlace) (i : ∀(j:Nat) t v,f.params[j]?=some t->args[j]?=some v->Value.okWide E.P W .any g t v)
 (L:DataW.Whole enc E.P f.params.toList s.vars apart W args.toList ds R b) (hN : ∀d∈ds,u d<=N) :
 Calls E.P id args W λe G =>∃v,e = .returned v/\s.post enc E.P f apart fresh a again W args v G:=by
 obtain⟨tb,z,S⟩:=Qy z;have F:=L;obtain⟨p,q,J,hV,rfl,hfz,V⟩:=F;obtain⟨c,l,C⟩:=Te y o hp (λj t v Z Q=>i j t v (by simpa using Z) (by simpa using Q)) J hN;obtain⟨n,k⟩:=Wt (h c l.1 l.2);have D:ds.length=f.params.toList.length:=MQ J;refine(Qt O k (us:=args.toList) C).mono λe G ⟨he,hk⟩=>⟨_,he,?_⟩;exact Ta K U X M L (Y ds D) z S hk
end Go.Ab
namespace Go.Ab
def bad(b:Bool):Int:=if b then 0 else 8
@[simp] def ahD(b:Bool):bad b=0↔b=true:=by cases b<;>simp[bad]
@[simp] def Eg:bad true=0:=id rfl
@[simp] def KG:bad false=8:=id rfl
structure R1 where
 lv:UInt8
 cats:UInt32
 num:UInt8
deriving DecidableEq
structure Ay where
 h:R1
 n:Int
deriving DecidableEq
structure Spn where
 f:Ay
 many:Int
deriving DecidableEq
def gE(h:R1):Bool:=decide (h.lv<=15)&&decide (h.num<8)
def Ao(i:Ay):Bool:=gE i.h&&(decide (1<=i.n)&&decide (i.n<=1099511627776))
def oS(s:Spn):Bool:=Ao s.f&&(decide (1<=s.many)&&(decide (s.many<=64)&&decide (s.f.n+s.many - 1<=1099511627776)))
def Kx{i:Ay}(h:Ao i=true):1<=i.n/\i.n<=1099511627776:=by
 simp[Ao]at h;exact h.2
def Q6{s:Spn}(h:oS s=true):1<=s.f.n/\1<=s.many/\s.many<=64/\s.f.n+s.many - 1<=1099511627776:=by
 simp[oS]at h;have:=Kx h.1;exact⟨this.1,h.2.1,h.2.2.1,h.2.2.2⟩
def UR{s:Spn}(h:oS s=true):Ao s.f=true:=by
 simp[oS]at h;exact h.1
def nK:Ay:=⟨⟨0,0,0⟩,0⟩
def aR(n:Int):AV := .v (.int .i32 n)
def rows(l:List Int):List AV:=l.map aR
@[simp] def ago(l:List Int):(rows l).length=l.length:=by simp[rows]
@[simp] def YQ(l:List Int):rows l=[]↔l=[]:=by simp[rows]
def iY(n:Int):Bool:=decide (n = -1)||(decide (0<=n)&&decide (n<55296))||(decide (57343<n)&&decide (n<=1114111))
def HZ(l:List Int):Bool:=decide (l.length<=64)&&l.all iY
def yM(l:List Int):Int:=if 64<l.length then 4 else if l.all iY then 0 else 8
@[simp] def agI(n:Int):(aR n).cells=[aR n]:=id rfl
@[simp] def aj9(n:Int):(aR n).one=true:=id rfl
@[simp] def ahJ(g:dv)(k:Nat)(n:Int):view g (k+1) (aR n)=some (aR n):=id rfl
def EY(l:List Int):yM l=0↔HZ l=true:=by
 unfold yM HZ;by_cases h:64<l.length;·simp[h,Nat.not_le.2 h]
 have a:l.length<=64:=GO.1 h;rw[if_neg h];cases l.all iY<;>simp[a]
@[simp] def aaB(l:List Int)(i n:Nat):bP (rows l) i 0 n false=(l[i]?).map aR:=by
 unfold bP rows;rw[nM];cases l[i]?<;>rfl
end Go.Ab
namespace Go.Proofs.YtiidajnodhkidaaGreat
open Go.Ab
def fns:List FuncId:=[5,8,13,20,21,22,23,24,25,26,27,28,29,30,31,37,38,39,45,46,47,48,49,50,51,52,53,54,55,56,57,58,59,60,61,62,64,65,69,70,73,74,75,76,77,78,79,80,81,82,83,84,85,86,87,88,89,90,91,92,93,94,95,96,97,98,99,100,103,105,106,107,108,109,110,111,114,115,116,117,118,119,120,121,122,123,124,125,126,127,128,129,130,131,132,133,134,135,136,137,138,139,140,141,143,144,145,146,147,148,149,152,153,154,155,156,157,158,159,160,161,162,163,164,165,166,167,168,169,171,172,173,175,176,177,178,179,180,181,182,183,184,185,186,187,188,189,190,191,193,194,195,196,197,198,199,200,201,202,203,204,205,206,207,208]
def bT:List FuncId:=[29,49,61,78,80,81,108,131,138,146,176,196,197]
def kp:List FuncId:=[145,194,195]
def Gf:List (FuncId × List AV × AV):=[]
def env:Env:=xm Tryz.prog fns bT kp (HG [(19,13,18),(16,1,77777),(55,1,88888),(27,1,88888)]) (yI [(34,10,3,[(1,36),(36,5)]),(49,9,0,[(6,50),(6,54)]),(81,5,9,[(82,8)]),(15,12,0,[(20,23)]),(52,10,0,[(56,58)]),(13,5,4,[(3,2)]),(67,5,4,[(3,2)]),(48,5,4,[(6,2)]),(7,6,0,[(3,5)]),(14,5,3,[(15,2)]),(35,21,0,[(36,52),(37,52),(38,52),(41,52),(42,52),(43,52),(47,52),(48,52),(49,52)]),(145,8,4,[(148,2)]),(21,10,4,[(23,3),(25,3)]),(91,4,0,[(12,6)])]) (Pg [(19,13,18),(16,1,77777),(55,1,88888),(27,1,88888)]) Gf
@[simp] def bh(b:Bool)(h:aa)(n n2:Nat)(a:List AV)(k:AV->aa->Prop):Prop:=kA (bS env b (ay env) (eZ env 0) h (Ref.mk 0 n (aa.gen h 0 n) 0) (some (AV.fn (Fn.func n2) [] [])) a) k
@[simp] def ab(h:aa)(n:Nat)(v:AV)(k:AV->Prop):Prop:=fO (oT env.P (aa.get h) n (some v)) k
@[simp] def ah(n:Nat)(v:AV)(n2:Nat)(k:AV->Prop):Prop:=fO (kM env.P n (some v) n2) k
@[simp] def dh(h:aa)(n n2:Nat)(v:AV)(k:AV->aa->Prop):Prop:=kA (mA h (Ref.mk 0 n (aa.gen h 0 n) 0) (JD env.P (Ref.mk 0 n (aa.gen h 0 n) 0) n2 (some v))) k
@[simp] def dK(h:aa)(n n2:Nat)(k:AV->aa->Prop):Prop:=kA (mA h (Ref.mk 0 n (aa.gen h 0 n) 0) (wc env.P (Ref.mk 0 n (aa.gen h 0 n) 0) n2)) k
@[simp] def gJ(n n2:Nat)(i:Int)(v:AV)(k:AV->Prop):Prop:=fO (bZ env.P .add n (Operand.tmp n2) (Operand.const (Value.int IntKind.i64 i)) (some v) (some (AV.v (Value.int IntKind.i64 i)))) k
@[simp] def dg(h:aa)(n n2:Nat)(v:AV)(k:AV->Prop):Prop:=fO (eD env.P false (aa.get h) (Ref.mk 0 n (aa.gen h 0 n) 0) .len #[n2] [v]) k
@[simp] def aM(h:aa)(n:Nat)(v a:AV)(k:AV->aa->Prop):Prop:=kA (kn env.P h n (some v) (some a)) k
@[simp] def cr(v a:AV)(k:AV->Prop):Prop:=fO (AY (some v) (some a) (some (AV.v (Value.bool false)))) k
@[simp] def dC(h:aa)(n n2 a:Nat)(v:AV)(k:AV->Prop):Prop:=fO (cE env.P (aa.get h) (Ref.mk 0 n (aa.gen h 0 n) 0) n2 a (some v)) k
@[simp] def an(h:aa)(n:Nat)(v:AV):=oT env.P (aa.get h) n (some v)
@[simp] def fB(b:Bool)(h:aa)(n n2:Nat)(a:List AV):=bS env b (ay env) (eZ env 0) h (Ref.mk 0 n (aa.gen h 0 n) 0) (some (AV.fn (Fn.func n2) [] [])) a
@[simp] def iW(n n2:Nat)(i:Int)(v:AV)(k:AV->Prop):Prop:=fO (bZ env.P .neq n (Operand.tmp n2) (Operand.const (Value.int IntKind.i64 i)) (some v) (some (AV.v (Value.int IntKind.i64 i)))) k
@[simp] def dI(h:aa)(n n2 b:Nat)(v a:AV)(k:AV->aa->Prop):Prop:=kA (ee env.P true h (Ref.mk 0 n (aa.gen h 0 n) 0) (some n2) (some b) v a) k
@[simp] def au(n:Nat)(v:AV)(n2:Nat):=kM env.P n (some v) n2
@[simp] def fD(h:aa)(n:Nat)(v:AV)(i:Int)(k:AV->Prop):Prop:=fO (cb env.P (aa.get h) n (some v) (some (AV.v (Value.int IntKind.i64 i)))) k
@[simp] def dH(v a:AV)(k:AV->Prop):Prop:=fO (AY (some v) (some (AV.v (Value.bool true))) (some a)) k
@[simp] def fC(n n2 b:Nat)(v a:AV)(k:AV->Prop):Prop:=fO (bZ env.P .lss n (Operand.tmp n2) (Operand.tmp b) (some v) (some a)) k
@[simp] def dF(h:aa)(n:Nat)(v a:AV)(k:AV->Prop):Prop:=fO (cb env.P (aa.get h) n (some v) (some a)) k
@[simp] def om(n n2:Nat)(i:Int)(v:AV)(k:AV->Prop):Prop:=fO (bZ env.P .lss n (Operand.tmp n2) (Operand.const (Value.int IntKind.i64 i)) (some v) (some (AV.v (Value.int IntKind.i64 i)))) k
@[simp] def oL(n n2:Nat)(i:Int)(v:AV)(k:AV->Prop):Prop:=fO (bZ env.P .rem n (Operand.tmp n2) (Operand.const (Value.int IntKind.i64 i)) (some v) (some (AV.v (Value.int IntKind.i64 i)))) k
@[simp] def oh(n n2:Nat)(i:Int)(v:AV):=bZ env.P .geq n (Operand.tmp n2) (Operand.const (Value.int IntKind.i64 i)) (some v) (some (AV.v (Value.int IntKind.i64 i)))
@[simp] def pM(n:Nat)(i:Int)(n2:Nat)(v:AV)(k:AV->Prop):Prop:=fO (bZ env.P .mul n (Operand.const (Value.int IntKind.i64 i)) (Operand.tmp n2) (some (AV.v (Value.int IntKind.i64 i))) (some v)) k
@[simp] def aZ(h:aa)(v:AV)(n:Nat)(k:AV->Prop):Prop:=fO (AX env.P h v n) k
@[simp] def ba(v:AV)(n:Nat)(k:AV->Prop):Prop:=fO (uE (some v) n) k
@[simp] def sd(n n2:Nat)(i:Int)(v:AV)(k:AV->Prop):Prop:=fO (bZ env.P .quo n (Operand.tmp n2) (Operand.const (Value.int IntKind.i64 i)) (some v) (some (AV.v (Value.int IntKind.i64 i)))) k
@[simp] def iu(n n2 b:Nat)(v a:AV):=bZ env.P .eql n (Operand.tmp n2) (Operand.tmp b) (some v) (some a)
@[simp] def jZ(n n2 b:Nat)(v a:AV)(k:AV->Prop):Prop:=fO (bZ env.P .add n (Operand.tmp n2) (Operand.tmp b) (some v) (some a)) k
@[simp] def vN(n n2:Nat)(i:Int)(v:AV)(k:AV->Prop):Prop:=fO (bZ env.P .geq n (Operand.tmp n2) (Operand.const (Value.int IntKind.i64 i)) (some v) (some (AV.v (Value.int IntKind.i64 i)))) k
@[simp] def vM(n n2:Nat)(i:Int)(v:AV)(k:AV->Prop):Prop:=fO (bZ env.P .eql n (Operand.tmp n2) (Operand.const (Value.int IntKind.i64 i)) (some v) (some (AV.v (Value.int IntKind.i64 i)))) k
@[simp] def wR(n n2:Nat)(i:Int)(v:AV):=bZ env.P .lss n (Operand.tmp n2) (Operand.const (Value.int IntKind.i64 i)) (some v) (some (AV.v (Value.int IntKind.i64 i)))
@[simp] def wQ(n n2:Nat)(i:Int)(v:AV):=bZ env.P .neq n (Operand.tmp n2) (Operand.const (Value.int IntKind.i64 i)) (some v) (some (AV.v (Value.int IntKind.i64 i)))
@[simp] def wP(n n2:Nat)(i:Int)(v:AV):=bZ env.P .eql n (Operand.tmp n2) (Operand.const (Value.int IntKind.i64 i)) (some v) (some (AV.v (Value.int IntKind.i64 i)))
@[simp] def eI(n:Nat)(k:AV->Prop):Prop:=fO (oK env.P n (some [])) k
@[simp] def qB(h:aa)(n n2 b a:Nat)(v:AV)(k:AV->aa->Prop):Prop:=kA (lI env.P false true h (Ref.mk 0 n (aa.gen h 0 n) 0) n2 b (some [(a,v)])) k
@[simp] def Ad(n n2:Nat)(i:Int)(v:AV)(k:AV->Prop):Prop:=fO (bZ env.P .gtr n (Operand.tmp n2) (Operand.const (Value.int IntKind.i64 i)) (some v) (some (AV.v (Value.int IntKind.i64 i)))) k
@[simp] def AA(n n2:Nat)(i:Int)(v:AV):=bZ env.P .leq n (Operand.tmp n2) (Operand.const (Value.int IntKind.i64 i)) (some v) (some (AV.v (Value.int IntKind.i64 i)))
@[simp] def xX(n n2:Nat)(v:AV)(k:AV->Prop):Prop:=fO (bZ env.P .eql n (Operand.tmp n2) (.const (.int .u8 1)) (some v) (some (a8 1))) k
@[simp] def vL(n n2 b:Nat)(v a:AV)(k:AV->Prop):Prop:=fO (bZ env.P .eql n (Operand.tmp n2) (Operand.tmp b) (some v) (some a)) k
@[simp] def Ac(n n2:Nat)(v:AV)(k:AV->Prop):Prop:=fO (bZ env.P .eql n (Operand.tmp n2) (.const (.int .u8 3)) (some v) (some (a8 3))) k
@[simp] def GJ(n n2:Nat)(i:Int)(v:AV)(k:AV->Prop):Prop:=fO (bZ env.P .sub n (Operand.tmp n2) (Operand.const (Value.int IntKind.i64 i)) (some v) (some (AV.v (Value.int IntKind.i64 i)))) k
@[simp] def GI(n n2:Nat)(i:Int)(v:AV):=bZ env.P .gtr n (Operand.tmp n2) (Operand.const (Value.int IntKind.i64 i)) (some v) (some (AV.v (Value.int IntKind.i64 i)))
@[simp] def xW(h:aa)(n n2 a:Nat)(v:AV):=cE env.P (aa.get h) (Ref.mk 0 n (aa.gen h 0 n) 0) n2 a (some v)
@[simp] def xV(n n2 b:Nat)(v a:AV)(k:AV->Prop):Prop:=fO (bZ env.P .neq n (Operand.tmp n2) (Operand.tmp b) (some v) (some a)) k
@[simp] def bX(v:AV):=ku (some v)
@[simp] def mQ(v:AV)(k:AV->Prop):Prop:=fO (qUn env.P .not (some v)) k
@[simp] def QU(h:aa)(n n2:Nat)(i:Int)(k:AV->aa->Prop):Prop:=kA (mA h (Ref.mk 0 n (aa.gen h 0 n) 0) (yQ env.P (Ref.mk 0 n (aa.gen h 0 n) 0) n2 (some (AV.v (Value.int IntKind.i64 i))) (some (AV.v (Value.int IntKind.i64 i))))) k
@[simp] def Cb(h:aa)(n:Nat)(v a:AV)(k:AV->Prop):Prop:=fO (dx env.P (aa.get h) n (some v) (some none) (oi a) (some none)) k
@[simp] def Ms(n n2:Nat)(i:Int)(v:AV)(k:AV->Prop):Prop:=fO (bZ env.P .mul n (Operand.tmp n2) (Operand.const (Value.int IntKind.i64 i)) (some v) (some (AV.v (Value.int IntKind.i64 i)))) k
@[simp] def Fu(h:aa)(n n2:Nat)(v:AV)(k:AV->Prop):Prop:=fO (eD env.P false (aa.get h) (Ref.mk 0 n (aa.gen h 0 n) 0) .cap #[n2] [v]) k
@[simp] def Mr(n:Nat)(i:Int)(n2:Nat)(v:AV)(k:AV->Prop):Prop:=fO (bZ env.P .add n (Operand.const (Value.int IntKind.i64 i)) (Operand.tmp n2) (some (AV.v (Value.int IntKind.i64 i))) (some v)) k
@[simp] def JX(n n2:Nat)(v:AV)(k:AV->Prop):Prop:=fO (bZ env.P .eql n (Operand.tmp n2) (.const (.slice none 0 0)) (some v) (some (.v (.slice none 0 0)))) k
@[simp] def Ft(h:aa)(n n2:Nat)(v:AV):=eD env.P false (aa.get h) (Ref.mk 0 n (aa.gen h 0 n) 0) .len #[n2] [v]
@[simp] def Dl(n n2 b:Nat)(v a:AV)(k:AV->Prop):Prop:=fO (bZ env.P .sub n (Operand.tmp n2) (Operand.tmp b) (some v) (some a)) k
@[simp] def ur(n n2:Nat)(v:AV)(b:Nat)(a:AV)(k:AV->Prop):Prop:=fO (oK env.P n (some [(n2,v),(b,a)])) k
@[simp] def Dj(n n2 b:Nat)(v a:AV)(k:AV->Prop):Prop:=fO (bZ env.P .or n (Operand.tmp n2) (Operand.tmp b) (some v) (some a)) k
@[simp] def Ca(n n2 b:Nat)(v a:AV):=bZ env.P .neq n (Operand.tmp n2) (Operand.tmp b) (some v) (some a)
@[simp] def JW(n n2:Nat)(v:AV)(k:AV->Prop):Prop:=fO (bZ env.P .shl n (Operand.tmp n2) (.const (.int .u64 8)) (some v) (some (.v (.int .u64 8)))) k
@[simp] def GH(n n2:Nat)(v:AV)(k:AV->Prop):Prop:=fO (bZ env.P .eql n (Operand.tmp n2) (.const (.int .u8 2)) (some v) (some (a8 2))) k
@[simp] def JV(h:aa)(n:Nat)(v a:AV)(k:AV->aa->Prop):Prop:=kA (bS env true (ay env) (eZ env 0) h (Ref.mk 0 n (aa.gen h 0 n) 0) (some v) [a]) k
@[simp] def JU(h:aa)(n:Nat)(v:AV)(k:AV->Prop):Prop:=fO (dx env.P (aa.get h) n (some v) (some none) (oi (.v (.int .i64 5))) (some none)) k
@[simp] def QT(n:Nat)(i:Int)(n2:Nat)(v:AV)(k:AV->Prop):Prop:=fO (bZ env.P .sub n (Operand.const (Value.int IntKind.i64 i)) (Operand.tmp n2) (some (AV.v (Value.int IntKind.i64 i))) (some v)) k
@[simp] def Uc(n n2:Nat)(i a:Int)(k:AV->Prop):Prop:=fO (bZ env.P .quo n (Operand.tmp n2) (Operand.const (Value.int IntKind.i64 i)) (some (AV.v (Value.int IntKind.i64 a))) (some (AV.v (Value.int IntKind.i64 i)))) k
@[simp] def QS(n n2:Nat)(i:Int)(v:AV):=bZ env.P .add n (Operand.tmp n2) (Operand.const (Value.int IntKind.i64 i)) (some v) (some (AV.v (Value.int IntKind.i64 i)))
@[simp] def wO(n n2:Nat)(v:AV)(k:AV->Prop):Prop:=fO (oK env.P n (some [(n2,v)])) k
@[simp] def Fs(v a:AV):=AY (some v) (some a) (some (AV.v (Value.bool false)))
@[simp] def Mq(h:aa)(n n2 f c:Nat)(v:AV)(d:Nat)(a:AV)(e:Nat)(b:AV)(k:AV->aa->Prop):Prop:=kA (lI env.P false true h (Ref.mk 0 n (aa.gen h 0 n) 0) n2 f (some [(c,v),(d,a),(e,b)])) k
@[simp] def QR(h:aa)(n:Nat)(v:AV)(k:AV->Prop):Prop:=fO (dx env.P (aa.get h) n (some v) (oi (.v (.int .i64 1))) (oi (.v (.int .i64 5))) (some none)) k
@[simp] def QQ(h:aa)(n n2 a:Nat)(v:AV)(k:AV->aa->Prop):Prop:=kA (ee env.P true h (Ref.mk 0 n (aa.gen h 0 n) 0) (some n2) (some a) (.v (.slice none 0 0)) v) k
@[simp] def QP(h:aa)(n:Nat)(v a b:AV)(k:AV->aa->Prop):Prop:=kA (bS env true (ay env) (eZ env 0) h (Ref.mk 0 n (aa.gen h 0 n) 0) (some v) [a,b]) k
@[simp] def QO(h:aa)(n n2 i d:Nat)(v:AV)(f:Nat)(b:AV)(g:Nat)(c:AV)(a:Nat)(e:AV)(k:AV->aa->Prop):Prop:=kA (lI env.P false true h (Ref.mk 0 n (aa.gen h 0 n) 0) n2 i (some [(d,v),(f,b),(g,c),(a,e)])) k
@[simp] def Fq(n n2:Nat)(v:AV)(f:Nat)(a:AV)(c:Nat)(b:AV)(e:Nat)(d:AV)(k:AV->Prop):Prop:=fO (oK env.P n (some [(n2,v),(f,a),(c,b),(e,d)])) k
@[simp] def QN(h:aa)(n n2 a:Nat)(k:AV->aa->Prop):Prop:=kA (lI env.P false true h (Ref.mk 0 n (aa.gen h 0 n) 0) n2 a (some [(0,(a8 0))])) k
@[simp] def qA(v:AV)(k:AV->Prop):Prop:=fO (No (some v)) k
@[simp] def Mp(n n2 b:Nat)(v a:AV)(k:AV->Prop):Prop:=fO (bZ env.P .gtr n (Operand.tmp n2) (Operand.tmp b) (some v) (some a)) k
@[simp] def JT(v a:AV):=AY (some v) (some (AV.v (Value.bool true))) (some a)
@[simp] def QM(h:aa)(n n2 b a:Nat)(v:AV)(k:AV->aa->Prop):Prop:=kA (lI env.P true false h (Ref.mk 0 n (aa.gen h 0 n) 0) n2 b (some [(a,v)])) k
@[simp] def vK(v:AV):=qUn env.P .not (some v)
@[simp] def Ua(n n2:Nat)(v:AV)(k:AV->Prop):Prop:=fO (bZ env.P .shr n (Operand.tmp n2) (.const (.int .u64 8)) (some v) (some (.v (.int .u64 8)))) k
@[simp] def Mo(h:aa)(n:Nat)(v:AV)(k:AV->aa->Prop):Prop:=kA (kn env.P h n (some v) (some (.v (.slice none 0 0)))) k
@[simp] def QL(h:aa)(n n2 a:Nat)(k:AV->aa->Prop):Prop:=kA (lI env.P false true h (Ref.mk 0 n (aa.gen h 0 n) 0) n2 a (some [])) k
@[simp] def aah(n:Nat)(k:AV->Prop):Prop:=fO (zN env.P n (some (.v (.string ⟨#[99,97,110,110,111,116,32,98,101,32,110,101,103,97,116,105,118,101]⟩)))) k
@[simp] def QK(n n2 b:Nat)(v a:AV)(k:AV->Prop):Prop:=fO (bZ env.P .shr n (Operand.tmp n2) (Operand.tmp b) (some v) (some a)) k
@[simp] def aag(n:Nat)(k:AV->Prop):Prop:=fO (zN env.P n (some (.v (.string ⟨#[108,101,110,32,111,117,116,32,111,102,32,114,97,110,103,101]⟩)))) k
@[simp] def aaf(h:aa)(n n2 a:Nat)(k:AV->aa->Prop):Prop:=kA (mA h (Ref.mk (n+1) n2 (aa.gen h (n+1) n2) 0) (wc env.P (Ref.mk (n+1) n2 (aa.gen h (n+1) n2) 0) a)) k
@[simp] def aae(n n2:Nat)(i:Int)(v:AV):=bZ env.P .sub n (Operand.tmp n2) (Operand.const (Value.int IntKind.i64 i)) (some v) (some (AV.v (Value.int IntKind.i64 i)))
@[simp] def aad(n n2:Nat)(i:Int)(v:AV):=bZ env.P .rem n (Operand.tmp n2) (Operand.const (Value.int IntKind.i64 i)) (some v) (some (AV.v (Value.int IntKind.i64 i)))
@[simp] def QJ(h:aa)(n:Nat)(v a:AV):=dx env.P (aa.get h) n (some v) (some none) (oi a) (some none)
@[simp] def QI(n n2 b:Nat)(v a:AV):=bZ env.P .lss n (Operand.tmp n2) (Operand.tmp b) (some v) (some a)
@[simp] def aab(h:aa)(n:Nat)(v:AV)(k:AV->aa->Prop):Prop:=kA (bS env true (ay env) (eZ env 0) h (Ref.mk 0 n (aa.gen h 0 n) 0) (some v) [(.v (.int .i64 1))]) k
@[simp] def Z9(h:aa)(n n2:Nat)(v:AV)(k:AV->aa->Prop):Prop:=kA (mA h (Ref.mk 0 n (aa.gen h 0 n) 0) (yQ env.P (Ref.mk 0 n (aa.gen h 0 n) 0) n2 (some v) (some v))) k
@[simp] def Z8(h:aa)(n:Nat)(v:AV)(k:AV->Prop):Prop:=fO (dx env.P (aa.get h) n (some v) (oi (.v (.int .i64 24))) (oi (.v (.int .i64 29))) (some none)) k
@[simp] def Z7(n n2:Nat)(v:AV)(k:AV->Prop):Prop:=fO (bZ env.P .neq n (Operand.tmp n2) (.const (.int .i32 (-1))) (some v) (some (.v (.int .i32 (-1))))) k
@[simp] def Mn(h:aa)(n:Nat)(v a:AV):=cb env.P (aa.get h) n (some v) (some a)
@[simp] def Z6(n n2:Nat)(v:AV)(k:AV->Prop):Prop:=fO (bZ env.P .lss n (Operand.tmp n2) (.const (.int .i64 (-1))) (some v) (some (.v (.int .i64 (-1))))) k
@[simp] def Z5(h:aa)(n:Nat)(v:AV)(k:AV->Prop):Prop:=fO (dx env.P (aa.get h) n (some v) (oi (.v (.int .i64 1))) (oi (.v (.int .i64 7))) (some none)) k
@[simp] def Z4(h:aa)(n:Nat)(v:AV)(k:AV->Prop):Prop:=fO (dx env.P (aa.get h) n (some v) (oi (.v (.int .i64 5))) (oi (.v (.int .i64 8))) (some none)) k
@[simp] def Ue(n n2:Nat)(v:AV)(k:AV->Prop):Prop:=fO (bZ env.P .shr n (Operand.tmp n2) (.const (.int .u64 16)) (some v) (some (.v (.int .u64 16)))) k
@[simp] def Ud(n n2:Nat)(v:AV)(k:AV->Prop):Prop:=fO (bZ env.P .shl n (Operand.tmp n2) (.const (.int .u64 16)) (some v) (some (.v (.int .u64 16)))) k
@[simp] def OO(n n2 b:Nat)(v a:AV):=bZ env.P .add n (Operand.tmp n2) (Operand.tmp b) (some v) (some a)
@[simp] def ON(n n2 b:Nat)(v a:AV):=bZ env.P .gtr n (Operand.tmp n2) (Operand.tmp b) (some v) (some a)
@[simp] def OM(n n2 b:Nat)(v a:AV):=bZ env.P .leq n (Operand.tmp n2) (Operand.tmp b) (some v) (some a)
@[simp] def KK(n:Nat):=oK env.P n (some [])
def agE:Nat->Option (List Nat):=λ_=>none
def TE:Nat->Bool:=λ_=>false
abbrev fq:=Nat->AV
abbrev bdF(f:Func):Code:=f.body.getD .skip
abbrev ta(f:Func)(n:Nat):List Item:=(qM n 400 [.code (bdF f)]).getD []
abbrev fa(f:Func)(d:Nat)(l:List (Nat × AV))(H:aa)(Q:AV->aa->Prop):Prop:=cy env f d [.code (bdF f)] l H Q
def kf{P:(Nat->AV)->Prop}{f:Func}{d:Nat}{l:List (Nat × AV)}{H:aa}{Q:AV->aa->Prop}(e:P=λg=>wp env f none d agE TE Q 500 [.code (bdF f)] (OK g l) H)(h : ∀g,P g):fa f d l H Q:=⟨λg=>vh (live:=agE) (cut:=TE) (n:=500) (Eq.mp (congrFun e g) (h g))⟩
def uP(v:Nat->Option (List Nat)){P:(Nat->AV)->Prop}{f:Func}{d:Nat}{l:List (Nat × AV)}{H:aa}{Q:AV->aa->Prop}(e:P=λg=>wp env f none d v TE Q 500 [.code (bdF f)] (OK g l) H)(h : ∀g,P g):fa f d l H Q:=⟨λg=>vh (live:=v) (cut:=TE) (n:=500) (Eq.mp (congrFun e g) (h g))⟩
def uc(v:Nat->Option (List Nat)){P:(Nat->AV)->Prop}{f:Func}{d:Nat}{b:List Item}{l:List (Nat × AV)}{H:aa}{Q:AV->aa->Prop}(e:P=λg=>wp env f none d v TE Q 500 (Qz b) (OK g l) H)(h : ∀g,P g):cy env f d b l H Q:=D5 λg=>vh (live:=v) (cut:=TE) (n:=500) (Eq.mp (congrFun e g) (h g))
def aH{f:FuncId}{fn:Func}{args:List AV}{y:AV}(g:env.spec f args=none)(e:(env.allowed f,env.P.funcs[f]?,fn.body.isSome,Nat.ble args.length fn.ntmps)=(true,some fn,true,true))(h:fa fn 0 (FZ 0 args) [] λx H=>ed env f x H y):ay env f args=some y:=by
 injection e with d e
 injection e with j e
 injection e with b i
 cases a:fn.body with| none=>rw[a]at b;cases b| some c=>unfold fa bdF at h;rw[a]at h;exact BO g d j a i h
def ac9:IJ env fns=true:=by kernel_rfl
@[simp] def ajR{f:FuncId}(h:kp.contains f=false):(env.mode f == 2)=false:=by
 show((if bT.contains f then (if kp.contains f then 3 else 1) else if kp.contains f then 2 else 0) == 2)=false;rw[h];split<;>rfl
@[simp] def aiP{f:FuncId}(h:kp.contains f=false):(env.mode f == 3)=false:=by
 show((if bT.contains f then (if kp.contains f then 3 else 1) else if kp.contains f then 2 else 0) == 3)=false;rw[h];split<;>rfl
def agC{f:FuncId}(h:bT.contains f=false):uW (env.mode f)=false:=by
 show uW (if bT.contains f then (if kp.contains f then 3 else 1) else if kp.contains f then 2 else 0)=false;rw[h];cases kp.contains f<;>rfl
@[simp] def aiX{f:FuncId}(h:bT.contains f=false)(x:AV)(H:aa)(y:AV):ed env f x H y↔view H.get depth x=some y:=Ky (agC h) x H y
def agB{f:FuncId}(h:bT.contains f=true):uW (env.mode f)=true:=by
 show uW (if bT.contains f then (if kp.contains f then 3 else 1) else if kp.contains f then 2 else 0)=true;rw[h];cases kp.contains f<;>rfl
@[simp] def aiW{f:FuncId}(h:bT.contains f=true)(x:AV)(H:aa)(y:AV):ed env f x H y↔(aj H.get depth x).Nodup/\ca H.get depth x=some y:=FQ (agB h) x H y
@[simp] def ahV:aV env.P 3=(some 1)/\fK env.P 3=(some false)/\fk env.P 3=(some (.v (.int .i64 0)))/\qL env.P 3=(some 1)/\isInt env.P 3=true/\intKind env.P 3=(some .i64)/\(env.P.underlying 3).isNone=false/\aV env.P 4=(some 1)/\fK env.P 4=(some false)/\qL env.P 4=(some 0)/\isBool env.P 4=true/\aV env.P 5=(some 1)/\fK env.P 5=(some false)/\qL env.P 5=(some 1)/\intKind env.P 5=(some .u8)/\(env.P.underlying 5).isNone=false/\isStr env.P 9=true:=by repeat' first|kernel_rfl|constructor
@[simp] def UF:aV env.P 21=(some 1):=by kernel_rfl
@[simp] def Ya:fK env.P 21=(some false):=by kernel_rfl
@[simp] def acX:intKind env.P 21=(some .i32)/\(env.P.underlying 21).isNone=false/\aV env.P 22=(some 1)/\fK env.P 22=(some false):=by repeat' first|kernel_rfl|constructor
@[simp] def MT:eK env.P 22=(some 78):=by kernel_rfl
@[simp] def aib:mf env.P 22=none/\isStr env.P 22=false/\JS env.P 22=true/\qN env.P 22=true/\lj env.P 22=2/\td env.P 22=32/\gX env.P 22=(.agg [(.v (.int .i64 0)),(.v (.slice none 0 0))]):=by repeat' first|kernel_rfl|constructor
@[simp] def kT:aV env.P 24=(some 4):=by kernel_rfl
@[simp] def air:fK env.P 24=(some true)/\mf env.P 24=none/\fk env.P 24=(some (.agg [(.v (.slice none 0 0)),(.v (.int .i64 0)),(.v (.int .i64 0)),(.v (.bool false))])):=by repeat' first|kernel_rfl|constructor
@[simp] def FR:jr env.P 24=(some [22,3,3,4]):=by kernel_rfl
@[simp] def aeF:iF env.P 24=(some [(0,1),(1,1),(2,1),(3,1)])/\aL env.P 24 0=(some (0,1))/\aL env.P 24 1=(some (1,1))/\aL env.P 24 2=(some (2,1))/\aL env.P 24 3=(some (3,1))/\aV env.P 25=(some 1)/\fK env.P 25=(some false):=by repeat' first|kernel_rfl|constructor
@[simp] def UK:eK env.P 25=(some 51):=by kernel_rfl
@[simp] def ah9:mf env.P 25=none/\isStr env.P 25=false/\JS env.P 25=true/\qN env.P 25=true/\lj env.P 25=24/\td env.P 25=160/\gX env.P 25=(.agg [(a8 0),(.v (.int .i64 0)),(a8 0),(a8 0),(bY 0),(a8 0),(.v (.int .i64 0)),(a8 0),(bY 0),(a8 0),(.v (.int .i64 0)),(.v (.int .i64 0)),(a8 0),(bY 0),(a8 0),(.v (.int .i64 0)),(a8 0),(bY 0),(.v (.slice none 0 0)),(.v (.int .i64 0)),(.v (.int .i64 0)),(a8 0),(bY 0),(.v (.bool false))])/\aV env.P 27=(some 2)/\fK env.P 27=(some true)/\mf env.P 27=none/\fk env.P 27=(some (.agg [(.v (.int .i64 0)),(.v (.int .i64 0))]))/\qL env.P 27=none/\Gh env.P 27=true:=by repeat' first|kernel_rfl|constructor
@[simp] def N9:jr env.P 27=(some [3,3]):=by kernel_rfl
@[simp] def aeE:iF env.P 27=(some [(0,1),(1,1)])/\aL env.P 27 0=(some (0,1))/\aL env.P 27 1=(some (1,1)):=by repeat' first|kernel_rfl|constructor
@[simp] def kS:aV env.P 29=(some 8):=by kernel_rfl
@[simp] def aio:fK env.P 29=(some true)/\mf env.P 29=none/\fk env.P 29=(some (.agg [(.v (.slice none 0 0)),(.v (.int .i64 0)),(.v (.int .i64 0)),(.v (.bool false)),(.v (.slice none 0 0)),(.v (.int .i64 0)),(.v (.int .i64 0)),(.v (.int .i64 0))])):=by repeat' first|kernel_rfl|constructor
@[simp] def N8:jr env.P 29=(some [24,25,27,3]):=by kernel_rfl
@[simp] def aeD:iF env.P 29=(some [(0,4),(4,1),(5,2),(7,1)])/\aL env.P 29 0=(some (0,4))/\aL env.P 29 1=(some (4,1))/\aL env.P 29 2=(some (5,2))/\aL env.P 29 3=(some (7,1))/\aV env.P 30=(some 1)/\fK env.P 30=(some false)/\intKind env.P 30=(some .i64)/\(env.P.underlying 30).isNone=false/\aV env.P 34=(some 1)/\fK env.P 34=(some false)/\qL env.P 34=(some 1)/\intKind env.P 34=(some .u32)/\(env.P.underlying 34).isNone=false/\aV env.P 36=(some 2)/\fK env.P 36=(some true)/\mf env.P 36=none/\fk env.P 36=(some (.agg [(a8 0),(bY 0)]))/\qL env.P 36=none/\Gh env.P 36=true:=by repeat' first|kernel_rfl|constructor
@[simp] def N7:jr env.P 36=(some [5,34]):=by kernel_rfl
@[simp] def aeC:iF env.P 36=(some [(0,1),(1,1)])/\aL env.P 36 0=(some (0,1))/\aL env.P 36 1=(some (1,1))/\aV env.P 38=(some 3)/\fK env.P 38=(some true)/\mf env.P 38=none/\fk env.P 38=(some (.agg [(a8 0),(bY 0),(a8 0)]))/\qL env.P 38=none/\Gh env.P 38=true:=by repeat' first|kernel_rfl|constructor
@[simp] def N6:jr env.P 38=(some [36,5]):=by kernel_rfl
@[simp] def aeB:iF env.P 38=(some [(0,2),(2,1)])/\tJ env.P 38 0=(some (0,36))/\aL env.P 38 0=(some (0,2))/\aL env.P 38 1=(some (2,1))/\aV env.P 40=(some 4)/\fK env.P 40=(some true)/\mf env.P 40=none/\fk env.P 40=(some (.agg [(a8 0),(bY 0),(a8 0),(.v (.int .i64 0))]))/\qL env.P 40=none/\Gh env.P 40=true:=by repeat' first|kernel_rfl|constructor
@[simp] def N5:jr env.P 40=(some [38,3]):=by kernel_rfl
@[simp] def aeA:iF env.P 40=(some [(0,3),(3,1)])/\aL env.P 40 0=(some (0,3))/\aL env.P 40 1=(some (3,1))/\aV env.P 42=(some 5)/\fK env.P 42=(some true)/\mf env.P 42=none/\fk env.P 42=(some (.agg [(a8 0),(bY 0),(a8 0),(.v (.int .i64 0)),(.v (.int .i64 0))]))/\qL env.P 42=none/\Gh env.P 42=true:=by repeat' first|kernel_rfl|constructor
@[simp] def N4:jr env.P 42=(some [40,3]):=by kernel_rfl
@[simp] def aez:iF env.P 42=(some [(0,4),(4,1)])/\aL env.P 42 0=(some (0,4))/\aL env.P 42 1=(some (4,1))/\aV env.P 43=(some 1)/\fK env.P 43=(some false):=by repeat' first|kernel_rfl|constructor
@[simp] def UJ:eK env.P 43=(some 21):=by kernel_rfl
@[simp] def ah2:mf env.P 43=none/\isStr env.P 43=false/\fk env.P 43=(some (.v (.slice none 0 0)))/\JS env.P 43=true/\qN env.P 43=true/\lj env.P 43=1/\td env.P 43=4/\gX env.P 43=(.v (.int .i32 0))/\aV env.P 45=(some 17)/\fK env.P 45=(some true)/\mf env.P 45=none/\fk env.P 45=(some (.agg [(a8 0),(a8 0),(bY 0),(a8 0),(.v (.int .i64 0)),(a8 0),(bY 0),(a8 0),(.v (.int .i64 0)),(.v (.int .i64 0)),(a8 0),(bY 0),(a8 0),(.v (.int .i64 0)),(a8 0),(bY 0),(.v (.slice none 0 0))])):=by repeat' first|kernel_rfl|constructor
@[simp] def N3:jr env.P 45=(some [5,38,3,42,40,36,43]):=by kernel_rfl
@[simp] def aey:iF env.P 45=(some [(0,1),(1,3),(4,1),(5,5),(10,4),(14,2),(16,1)])/\aL env.P 45 0=(some (0,1))/\aL env.P 45 1=(some (1,3))/\aL env.P 45 2=(some (4,1))/\aL env.P 45 3=(some (5,5))/\aL env.P 45 4=(some (10,4))/\aL env.P 45 5=(some (14,2))/\aL env.P 45 6=(some (16,1))/\aV env.P 47=(some 3)/\fK env.P 47=(some true)/\mf env.P 47=none/\fk env.P 47=(some (.agg [(a8 0),(bY 0),(.v (.bool false))]))/\qL env.P 47=none:=by repeat' first|kernel_rfl|constructor
@[simp] def N2:jr env.P 47=(some [36,4]):=by kernel_rfl
@[simp] def aex:iF env.P 47=(some [(0,2),(2,1)])/\aL env.P 47 0=(some (0,2))/\aL env.P 47 1=(some (2,1))/\aV env.P 49=(some 4)/\fK env.P 49=(some true)/\mf env.P 49=none/\fk env.P 49=(some (.agg [(.v (.int .i64 0)),(a8 0),(bY 0),(.v (.bool false))]))/\qL env.P 49=none/\Gh env.P 49=true:=by repeat' first|kernel_rfl|constructor
@[simp] def N1:jr env.P 49=(some [3,47]):=by kernel_rfl
@[simp] def aew:iF env.P 49=(some [(0,1),(1,3)])/\aL env.P 49 0=(some (0,1))/\aL env.P 49 1=(some (1,3)):=by repeat' first|kernel_rfl|constructor
@[simp] def UE:aV env.P 51=(some 24):=by kernel_rfl
@[simp] def X9:fK env.P 51=(some true):=by kernel_rfl
@[simp] def ahY:mf env.P 51=none/\fk env.P 51=(some (.agg [(a8 0),(.v (.int .i64 0)),(a8 0),(a8 0),(bY 0),(a8 0),(.v (.int .i64 0)),(a8 0),(bY 0),(a8 0),(.v (.int .i64 0)),(.v (.int .i64 0)),(a8 0),(bY 0),(a8 0),(.v (.int .i64 0)),(a8 0),(bY 0),(.v (.slice none 0 0)),(.v (.int .i64 0)),(.v (.int .i64 0)),(a8 0),(bY 0),(.v (.bool false))])):=by repeat' first|kernel_rfl|constructor
@[simp] def N0:jr env.P 51=(some [5,3,45,30,49]):=by kernel_rfl
@[simp] def aev:iF env.P 51=(some [(0,1),(1,1),(2,17),(19,1),(20,4)])/\aL env.P 51 0=(some (0,1))/\aL env.P 51 1=(some (1,1))/\aL env.P 51 2=(some (2,17))/\aL env.P 51 3=(some (19,1))/\aL env.P 51 4=(some (20,4))/\aV env.P 76=(some 1)/\fK env.P 76=(some false)/\eK env.P 76=(some 5)/\mf env.P 76=none/\isStr env.P 76=false/\JS env.P 76=true/\qN env.P 76=true:=by repeat' first|kernel_rfl|constructor
@[simp] def WY:lj env.P 76=1:=by kernel_rfl
@[simp] def ajb:td env.P 76=1/\gX env.P 76=(a8 0)/\eE env.P 76=true:=by repeat' first|kernel_rfl|constructor
@[simp] def MP:aV env.P 78=(some 2):=by kernel_rfl
@[simp] def Q1:fK env.P 78=(some true):=by kernel_rfl
@[simp] def ahW:mf env.P 78=none/\fk env.P 78=(some (.agg [(.v (.int .i64 0)),(.v (.slice none 0 0))])):=by repeat' first|kernel_rfl|constructor
@[simp] def NZ:jr env.P 78=(some [3,76]):=by kernel_rfl
@[simp] def aeu:iF env.P 78=(some [(0,1),(1,1)])/\aL env.P 78 0=(some (0,1))/\aL env.P 78 1=(some (1,1))/\aV env.P 107=(some 24)/\mf env.P 107=none/\fk env.P 107=(some (.agg [(a8 0),(.v (.int .i64 0)),(a8 0),(a8 0),(bY 0),(a8 0),(.v (.int .i64 0)),(a8 0),(bY 0),(a8 0),(.v (.int .i64 0)),(.v (.int .i64 0)),(a8 0),(bY 0),(a8 0),(.v (.int .i64 0)),(a8 0),(bY 0),(.v (.slice none 0 0)),(.v (.int .i64 0)),(.v (.int .i64 0)),(a8 0),(bY 0),(.v (.bool false))]))/\iF env.P 107=(some [(0,24)])/\aL env.P 107 0=(some (0,24))/\aV env.P 122=(some 1)/\fK env.P 122=(some false)/\eK env.P 122=(some 76)/\mf env.P 122=none/\isStr env.P 122=false/\fk env.P 122=(some (.v (.slice none 0 0)))/\JS env.P 122=true/\qN env.P 122=true/\lj env.P 122=1/\td env.P 122=24/\gX env.P 122=(.v (.slice none 0 0))/\aV env.P 132=(some 4)/\fK env.P 132=(some true)/\mf env.P 132=none/\fk env.P 132=(some (.agg [(.v (.int .i64 0)),(.v (.int .i64 0)),(.v (.int .i64 0)),(.v (.int .i64 0))]))/\iF env.P 132=(some [(0,1),(1,1),(2,1),(3,1)]):=by repeat' first|kernel_rfl|constructor
@[simp] def ZJ:aL env.P 132 0=(some (0,1))/\aL env.P 132 1=(some (1,1))/\aL env.P 132 2=(some (2,1))/\aL env.P 132 3=(some (3,1))/\eK env.P 139=(some 25)/\mf env.P 139=none/\isStr env.P 139=false/\qN env.P 139=true/\lj env.P 139=1/\gX env.P 139=(.v (.slice none 0 0))/\aV env.P 144=(some 1)/\fK env.P 144=(some false)/\intKind env.P 145=(some .u64)/\(env.P.underlying 145).isNone=false/\aV env.P 178=(some 4)/\eK env.P 178=none/\mf env.P 178=(some (2,27))/\fk env.P 178=(some (.agg [(.v (.int .i64 0)),(.v (.int .i64 0)),(.v (.int .i64 0)),(.v (.int .i64 0))]))/\aV env.P 218=(some 2)/\fK env.P 218=(some true)/\tJ env.P 218 0=(some (0,144))/\mf env.P 219=(some (4,218))/\aV env.P 248=(some 4)/\fK env.P 248=(some true):=by repeat' first|kernel_rfl|constructor
@[simp] def afU:mf env.P 248=none/\fk env.P 248=(some (.agg [(a8 0),(bY 0),(a8 0),(.v (.int .i64 0))]))/\iF env.P 248=(some [(0,3),(3,1)])/\tJ env.P 248 0=(some (0,38))/\aL env.P 248 0=(some (0,3))/\aL env.P 248 1=(some (3,1))/\aV env.P 252=(some 3)/\mf env.P 252=none/\fk env.P 252=(some (.agg [(.v (.slice none 0 0)),(.v (.int .i64 0)),(.v (.bool false))]))/\iF env.P 252=(some [(0,1),(1,1),(2,1)])/\aL env.P 252 0=(some (0,1))/\aL env.P 252 1=(some (1,1))/\aL env.P 252 2=(some (2,1)):=by repeat' first|kernel_rfl|constructor
end Go.Proofs.YtiidajnodhkidaaGreat
namespace Go.Ab
def iA.fr{M:Mem}{ι:Map}{H:aa}{w:World}(a:iA M ι H.get w)(c:uq ι H):Fr H:=by
 intro d t g k f;cases h:H.get ⟨d,t,g,k⟩ with
 | none=>rfl
 | some b=>obtain⟨l,e,_⟩:=a.live _ _ h;have:=c _ l e;simp only at this;omega
def Ax(a:Nat)(H:aa):Ref:=⟨1,a,H.gen 1 a,0⟩
def WX(z:Nat)(g:dv):AV->Bool
 | .v (.slice none 0 0)=>true
 | .ct r 0 0 (some 0)=>match g r with
  | some b=>b.arr&&b.esz == z&&b.es.isEmpty
  | none=>false
 | _=>false
def ajf(P:Program)(t:TypeId)(sl c:Nat)(args:List AV)(H:aa):dA:=match args with
 | [.dsl r 0 n none,.v (.int .i64 i),.ct a 0 1 e]=>(match H.get r,H.get a,(eK P t).bind (aV P),(eK P t).bind (nT P) with
  | some b,some bv,some z,some by'=>(match bv.es with
   | [v]=>if b.arr=false/\bv.arr=true/\b.esz=z/\bv.esz=z/\1<z/\0<by'/\b.jq=false/\n=b.es.length/\0<=i/\i<=n/\(n+1) * by'<=aX then
    some (.dsl ⟨r.d,r.t,H.gen r.d r.t,0⟩ 0 (n+1) none,ajU sl H r ⟨z,agY b.es i.toNat v,false,false⟩) else none
   | _=>none)
  | _,_,_,_=>none)
 | [x,.v (.int .i64 0),.ct a 0 1 e]=>(match H.get a,(eK P t).bind (aV P),(eK P t).bind (nT P) with
  | some bv,some z,some by'=>(match bv.es with
   | [v]=>if WX z H.get x=true/\bv.arr=true/\bv.esz=z/\1<z/\0<by'/\by'<=aX then
    some (.dsl (Ax c H) 0 1 none,(Ax c H,some ⟨z,[v],false,false⟩) :: H) else none
   | _=>none)
  | _,_,_=>none)
 | _=>none
def W2(z b a:Nat)(H:aa)(es:List AV)(arr:Bool):aa:=(Ax a H,some ⟨z,es,arr,false⟩) :: (Ax b H,some ⟨z,[],true,false⟩) :: H
def GA(z b a:Nat)(H:aa)(es:List AV)(arr:Bool)(q:Ref):(W2 z b a H es arr).get q=if Ax a H=q then some ⟨z,es,arr,false⟩ else if Ax b H=q then some ⟨z,[],true,false⟩ else H.get q:=by
 unfold W2;rw[aa.gS,aa.gS]
def zb(z by' b a:Nat)(args:List AV)(H:aa):dA:=match args with
 | [.bE c (e :: es) _]=>if c=z/\0<z/\(es.length+1) * by'<=aX then some (.dsl (Ax a H) 0 (es.length+1) none,W2 z b a H (e :: es) false) else none
 | _=>none
def L3{P:Program}{z by' C g:Nat}{f:FuncId}{args:List AV}{H v:aa}{y:AV}(E : ∃fn,P.funcs[f]?=some fn/\(fn.name == "runtime.NumGoroutine")=false/\fn.body.isSome=true)
 (b : ∀H e es c,(es.length+1) * by'<=aX->Fr H->nH P (.fn f) [.bE z (e :: es) c] H (.ct (Ax g H) 0 (es.length+1) none) (W2 z C g H (e :: es) true))
 (h:zb z by' C g args H=some (y,v)):nH P (.fn f) args H y v:=by
 refine⟨E,λM ι w us s A l=>?_⟩;unfold zb at h;split at h
 ·rename_i B e es c;obtain⟨D,h⟩:=fP.1 h;obtain⟨rfl,L,I⟩:=D;cases h;have p : ∀x∈e :: es,x.cells.length=B:=by
   obtain⟨a1,o⟩:=l;match us,a1,o with
   | [u],a1,o=>cases o 0 _ u rfl rfl with | bE cell N D O hm m h=>exact m
  refine((b H e es c I (s.fr A)).2 M ι w us s A l).mono λa w' ⟨u,m,hW⟩=>⟨u,m,?_⟩;refine hW.deep (k1:=⟨B,e :: es,true,false⟩) (es':=e :: es) (λq k J=>⟨k,J⟩) ?_ (by simp only;omega) rfl (λq=>?_) (λd t=>?_) rfl p (λM' n _ _ i j e x m K=>⟨e,x,m,K,λu F=>F.up n⟩);·rw[GA,if_pos rfl]
  ·rw[GA,GA];by_cases a:Ax g H=q;·rw[if_pos a,if_pos a.symm]
   have G : ¬q=Ax g H:=λh=>a h.symm;simp only[if_neg a,if_neg G]
  unfold W2 Ax;simp only[aa.D7];exact bM _
 cases h
structure Lab where
 lv:UInt8
 cats:UInt32
deriving DecidableEq
structure gI where
 kind:UInt8
 h:R1
 serial:Int
 s:Spn
 a:Ay
 to:Lab
 l:List Int
deriving DecidableEq
def lD(a:Ay):Bool:=decide (a.h.lv=0)&&decide (a.h.cats=0)&&decide (a.h.num=0)&&decide (a.n=0)
def wS(t:Lab):Bool:=decide (t.lv=0)&&decide (t.cats=0)
def HO(a b:R1):Bool:=decide (a.lv=b.lv)&&decide (a.cats=b.cats)&&decide (a.num=b.num)
def xY(a:Ay):lD a=true↔a=nK:=by
 obtain⟨⟨a,b,c⟩,d⟩:=a;simp[lD,nK,and_assoc]
def Bm(o:gI):Bool:=lD o.a&&decide (o.l=[])
def JL(o:gI):Bool:=wS o.to&&((lD o.a||Ao o.a)&&(HO o.s.f.h o.h&&(decide ((o.l.length:Int)=o.s.many)&&HZ o.l)))
def Qq(o:gI):Bool:=wS o.to&&Bm o
def LJ(o:gI):Bool:=Bm o&&decide (o.to.lv<=15)
def DU(o:gI):Bool:=if o.kind=1 then JL o else if o.kind=2 then Qq o else if o.kind=3 then LJ o else false
def r8(o:gI):Bool:=gE o.h&&(decide (1<=o.serial)&&(decide (o.serial<16777216)&&(oS o.s&&DU o)))
def Im{P:Program}{t:TypeId}(f:(fK P t).isSome=true)(d:(aV P t).isSome=true)(cs:List AV)(a:Nat):AZ P t cs a=Rs cs a ((aV P t).getD 0) ((fK P t).getD false):=by
 obtain⟨b,e⟩:=iB.1 f;obtain⟨n,c⟩:=iB.1 d;simp only[AZ,e,c,cU];cases b<;>rfl
def E3{P:Program}{t:TypeId}(a:((mf P t).bind λp=>aV P p.2).isSome=true)(cs:List AV)(k:UInt8)(c:k.toNat<((mf P t).getD (0,0)).1) :
 xG P t (some (.agg cs)) (some (a8 k))=ku (AZ P ((mf P t).getD (0,0)).2 cs (k.toNat * (aV P ((mf P t).getD (0,0)).2).getD 0)):=by
 cases b:mf P t with| none=>rw[b]at a;simp at a| some p=>obtain⟨n,e⟩:=p;rw[b]at a c;simp only[fe,cU]at a c;obtain⟨s,d⟩:=iB.1 a;unfold xG a8;simp only[fe,uJ,b,d,cU];rw[if_pos (by omega)];simp
@[simp] def aeR(r:Ref)(n:Nat)(f:Fn)(a b:List AV)(bs:List bC):aw r n (.fn f a b) bs=(.fn f a b,bs):=by cases n<;>rfl
end Go.Ab
namespace Go.Proofs.YtiidajnodhkidaaGreat
open Go.Ab
section
variable(dep:Nat)(g:Nat->AV)(x0 a b:AV)(H:aa)(Q:AV->aa->Prop)
def jM:=ta Tryz.f127 4
def rN:Nat->Option (List Nat):=λi=>cond (Nat.beq i 4) (some [5,1,0]) (none)
def nF:Prop:=
 dg H 7 43 x0 λc=>
 dg H 9 43 a λd=>
 xV 3 7 9 c d λe=>
 br (some e) (
 Q (.v (.bool false)) H) (
  cy env Tryz.f127 0 jM [(5,(.v (.int .i64 0))),(1,a),(0,x0)] H Q)
theorem yE(h : ∀g:fq,nF x0 a H Q):fa Tryz.f127 0 [(0,x0),(1,a)] H Q:=uP rN (by kernel_rfl) h
def jN(g:Nat->AV)(x5 a x0:AV)(H:aa)(Q:AV->aa->Prop):Prop:=
 dg H 13 43 x0 λi=>
 fC 3 11 13 x5 i λe=>
 br (some e) (
 dF H 43 x0 x5 λh=>
 ab H 21 h λk=>
 dF H 43 a x5 λc=>
 ab H 21 c λf=>
 xV 21 20 24 k f λj=>
 br (some j) (
 Q (.v (.bool false)) H) (
 gJ 3 15 1 x5 λd=>
  cy env Tryz.f127 0 jM [(5,d),(1,a),(0,x0)] H Q)) (
 Q (.v (.bool true)) H)
theorem pU(x5 a x0:AV)(H:aa)(Q:AV->aa->Prop)(h : ∀g,jN g x5 a x0 H Q):cy env Tryz.f127 0 jM [(5,x5),(1,a),(0,x0)] H Q:=uc rN (by kernel_rfl) h
def wB:Prop:=
 dh H 1 38 x0 λe f=>
 ah 38 e 0 λm=>
 ab f 36 m λp=>
 bh true f 5 155 [p] λk h=>
 vM 30 5 0 k λc=>
 gQ c true (au 38 e 1) λn=>
 gQ c true (an h 5 n) λi=>
 gQ c true (bZ env.P .lss 5 (Operand.tmp 9) (.const (.int .u8 8)) (some i) (some (a8 8))) λj=>
 cr c j λo=>
 bh true h 12 154 [o] λd l=>
 Q d l
theorem CQ(h : ∀g:fq,wB x0 H Q):fa Tryz.f120 0 [(0,x0)] H Q:=kf (by kernel_rfl) h
def ny:Prop:=
 dh H 1 42 x0 λe w=>
 ah 42 e 0 λy=>
 ab w 40 y λA=>
 bh true w 5 158 [A] λC d=>
 vM 30 5 0 C λf=>
 gQ f true (au 42 e 1) λz=>
 gQ f true (an d 3 z) λB=>
 gQ f true (oh 3 9 1 B) λx=>
 cr f x λh=>
 gQ h true (au 42 e 1) λu=>
 gQ h true (an d 3 u) λl=>
 gQ h true (AA 3 14 64 l) λn=>
 cr h n λc=>
 gQ c true (au 42 e 0) λj=>
 gQ c true (au 40 j 1) λv=>
 gQ c true (an d 3 v) λi=>
 gQ c true (au 42 e 1) λo=>
 gQ c true (an d 3 o) λs=>
 gQ c true (OO 3 20 22 i s) λq=>
 gQ c true (aae 3 23 1 q) λm=>
 gQ c true (AA 3 24 1099511627776 m) λk=>
 cr c k λt=>
 bh true d 27 154 [t] λp D=>
 Q p D
theorem EO(h : ∀g:fq,ny x0 H Q):fa Tryz.f156 0 [(0,x0)] H Q:=kf (by kernel_rfl) h
def fZ:=ta Tryz.f128 4
def ng:Nat->Option (List Nat):=λi=>cond (Nat.beq i 4) (some [13,1,0,12]) (none)
def jX:Prop:=
 dg H 7 43 x0 λc=>
 dg H 9 43 a λe=>
 xV 3 7 9 c e λf=>
 br (some f) (
 Q (.v (.bool false)) H) (
 dg H 12 43 x0 λd=>
  cy env Tryz.f128 0 fZ [(13,(.v (.int .i64 0))),(1,a),(0,x0),(12,d)] H Q)
theorem tE(h : ∀g:fq,jX x0 a H Q):fa Tryz.f128 0 [(0,x0),(1,a)] H Q:=uP ng (by kernel_rfl) h
def gj(g:Nat->AV)(c a x0 d:AV)(H:aa)(Q:AV->aa->Prop):Prop:=
 fC 3 13 12 c d λj=>
 br (some j) (
 dF H 43 x0 c λf=>
 ab H 21 f λi=>
 dF H 43 a c λl=>
 ab H 21 l λe=>
 xV 21 19 23 i e λh=>
 br (some h) (
 Q (.v (.bool false)) H) (
 gJ 3 13 1 c λk=>
  cy env Tryz.f128 0 fZ [(13,k),(1,a),(0,x0),(12,d)] H Q)) (
 Q (.v (.bool true)) H)
theorem mu(c a x0 d:AV)(H:aa)(Q:AV->aa->Prop)(h : ∀g,gj g c a x0 d H Q):cy env Tryz.f128 0 fZ [(13,c),(1,a),(0,x0),(12,d)] H Q:=uc ng (by kernel_rfl) h
def Em:Prop:=
 dh H 1 40 x0 λj m=>
 ah 40 j 0 λo=>
 ab m 38 o λq=>
 bh true m 5 120 [q] λt e=>
 vM 30 5 0 t λc=>
 gQ c true (au 40 j 1) λp=>
 gQ c true (an e 3 p) λs=>
 gQ c true (oh 3 9 1 s) λn=>
 cr c n λd=>
 gQ d true (au 40 j 1) λl=>
 gQ d true (an e 3 l) λh=>
 gQ d true (AA 3 14 1099511627776 h) λi=>
 cr d i λk=>
 bh true e 17 154 [k] λf u=>
 Q f u
theorem Lm(h : ∀g:fq,Em x0 H Q):fa Tryz.f158 0 [(0,x0)] H Q:=kf (by kernel_rfl) h
def wA:Prop:=
 dg H 6 43 x0 λd=>
 Ad 3 6 64 d λe=>
 br (some e) (
 Q (.v (.int .i64 4)) H) (
 bh true H 11 188 [x0,(.fn (.func 186) [] [])] λf c=>
 br (some f) (
 Q (.v (.int .i64 8)) c) (
 Q (.v (.int .i64 0)) c))
theorem Hm(h : ∀g:fq,wA x0 H Q):fa Tryz.f159 0 [(0,x0)] H Q:=kf (by kernel_rfl) h
def Bt:Prop:=
 dh H 1 36 x0 λd c=>
 ah 36 d 0 λe=>
 ab c 5 e λf=>
 fO (bZ env.P .gtr 5 (Operand.tmp 4) (.const (.int .u8 15)) (some f) (some (a8 15))) λh=>
 br (some h) (
 Q (.v (.int .i64 8)) c) (
 Q (.v (.int .i64 0)) c)
theorem Ht(h : ∀g:fq,Bt x0 H Q):fa Tryz.f155 0 [(0,x0)] H Q:=kf (by kernel_rfl) h
def El:Prop:=
 br (some x0) (
 Q (.v (.int .i64 0)) H) (
 Q (.v (.int .i64 8)) H)
theorem Ll(h : ∀g:fq,El x0 H Q):fa Tryz.f154 0 [(0,x0)] H Q:=kf (by kernel_rfl) h
def tW:Prop:=
 Z7 21 3 x0 λc=>
 gQ c true (bX x0) λe=>
 gW c true H (fB true H 7 187 [e]) λf d=>
 gQ c true (vK f) λi=>
 cr c i λh=>
 Q h d
theorem EL(h : ∀g:fq,tW x0 H Q):fa Tryz.f186 0 [(0,x0)] H Q:=kf (by kernel_rfl) h
def qf:Prop:=
 fO (bZ env.P .leq 21 (.const (.int .i32 0)) (Operand.tmp 4) (some (.v (.int .i32 0))) (some x0)) λc=>
 gQ c true (bX x0) λi=>
 gQ c true (bZ env.P .lss 21 (Operand.tmp 7) (.const (.int .i32 55296)) (some i) (some (.v (.int .i32 55296)))) λk=>
 cr c k λh=>
 br (some h) (
 Q (.v (.bool true)) H) (
 fO (bZ env.P .lss 21 (.const (.int .i32 57343)) (Operand.tmp 11) (some (.v (.int .i32 57343))) (some x0)) λd=>
 gQ d true (bX x0) λj=>
 gQ d true (bZ env.P .leq 21 (Operand.tmp 14) (.const (.int .i32 1114111)) (some j) (some (.v (.int .i32 1114111)))) λe=>
 cr d e λf=>
 br (some f) (
 Q (.v (.bool true)) H) (
 Q (.v (.bool false)) H))
theorem wE(h : ∀g:fq,qf x0 H Q):fa Tryz.f187 0 [(0,x0)] H Q:=kf (by kernel_rfl) h
def kW:Prop:=
 bh true H 7 198 [x0,a] λc e=>
 vN 3 7 0 c λd=>
 Q d e
theorem qq(h : ∀g:fq,kW x0 a H Q):fa Tryz.f188 0 [(0,x0),(1,a)] H Q:=kf (by kernel_rfl) h
def fb:=ta Tryz.f198 2
def lZ:Nat->Option (List Nat):=λi=>cond (Nat.beq i 2) (some [8,0,1,7]) (none)
def ma:Prop:=
 dg H 7 43 x0 λc=>
  cy env Tryz.f198 0 fb [(8,(.v (.int .i64 0))),(0,x0),(1,a),(7,c)] H Q
theorem rX(h : ∀g:fq,ma x0 a H Q):fa Tryz.f198 0 [(0,x0),(1,a)] H Q:=uP lZ (by kernel_rfl) h
def fc(g:Nat->AV)(c x0 a e:AV)(H:aa)(Q:AV->aa->Prop):Prop:=
 fC 3 8 7 c e λj=>
 br (some j) (
 dF H 43 x0 c λh=>
 ab H 21 h λi=>
 JV H 16 a i λk d=>
 br (some k) (
 Q c d) (
 gJ 3 8 1 c λf=>
  cy env Tryz.f198 0 fb [(8,f),(0,x0),(1,a),(7,e)] d Q)) (
 Q (.v (.int .i64 (-1))) H)
theorem lG(c x0 a d:AV)(H:aa)(Q:AV->aa->Prop)(h : ∀g,fc g c x0 a d H Q):cy env Tryz.f198 0 fb [(8,c),(0,x0),(1,a),(7,d)] H Q:=uc lZ (by kernel_rfl) h
def uX:=ta Tryz.f121 2
def Cv:Nat->Option (List Nat):=λi=>cond (Nat.beq i 2) (some [5,0,4]) (none)
def xR:Prop:=
 GJ 3 6 1 a λc=>
  cy env Tryz.f121 0 uX [(5,c),(0,x0),(4,(.v (.slice none 0 0)))] H Q
theorem Cl(h : ∀g:fq,xR x0 a H Q):fa Tryz.f121 0 [(0,x0),(1,a)] H Q:=uP Cv (by kernel_rfl) h
def dQ(g:Nat->AV)(x5 x0 x4:AV)(H:aa)(Q:AV->aa->Prop):Prop:=
 vN 3 8 0 x5 λi=>
 br (some i) (
 pM 3 8 14 x5 λe=>
 QK 3 13 15 x0 e λh=>
 dC H 17 3 5 h λl=>
 qB H 18 76 1 0 l λc j=>
 dI j 19 76 76 x4 c λf d=>
 GJ 3 10 1 x5 λk=>
  cy env Tryz.f121 0 uX [(5,k),(0,x0),(4,f)] d Q) (
 Q x4 H)
theorem ew(x5 x0 x4:AV)(H:aa)(Q:AV->aa->Prop)(h : ∀g,dQ g x5 x0 x4 H Q):cy env Tryz.f121 0 uX [(5,x5),(0,x0),(4,x4)] H Q:=uc Cv (by kernel_rfl) h
def uf:=ta Tryz.f202 2
def FO:Nat->Option (List Nat):=λi=>cond (Nat.beq i 2) (some [7,2,5,6]) (none)
def F7:Prop:=
 dg H 6 76 x0 λc=>
  cy env Tryz.f202 0 uf [(7,(.v (.int .i64 0))),(2,(.v (.int .i64 0))),(5,x0),(6,c)] H Q
theorem ML(h : ∀g:fq,F7 x0 H Q):fa Tryz.f202 0 [(0,x0)] H Q:=uP FO (by kernel_rfl) h
def xQ(g:Nat->AV)(c b x5 d:AV)(H:aa)(Q:AV->aa->Prop):Prop:=
 fC 3 7 6 c d λj=>
 br (some j) (
 dF H 76 x5 c λf=>
 ab H 5 f λi=>
 JW 3 11 b λl=>
 dC H 14 5 3 i λe=>
 Dj 3 12 14 l e λh=>
 gJ 3 7 1 c λk=>
  cy env Tryz.f202 0 uf [(7,k),(2,h),(5,x5),(6,d)] H Q) (
 Q b H)
theorem Ck(d b x5 c:AV)(H:aa)(Q:AV->aa->Prop)(h : ∀g,xQ g d b x5 c H Q):cy env Tryz.f202 0 uf [(7,d),(2,b),(5,x5),(6,c)] H Q:=uc FO (by kernel_rfl) h
def z5:Prop:=
 dK H 2 248 λp e=>
 fD e 76 x0 0 λv=>
 ab e 5 v λy=>
 QR e 76 x0 λE=>
 bh false e 9 202 [E] λt d=>
 dC d 10 3 34 t λw=>
 ur 36 0 y 1 w λC=>
 fD d 76 x0 5 λu=>
 ab d 5 u λx=>
 ur 38 0 C 1 x λm=>
 wO 248 0 m λj=>
 dK d 3 248 λc F=>
 aM F 248 c j λD s=>
 ah 248 c 0 λh=>
 ab s 38 h λn=>
 bh true s 19 120 [n] λf A=>
 ah 248 c 1 λk=>
 aM A 30 k f λB q=>
 ab q 248 c λl=>
 aM q 248 p l λz o=>
 aZ o p 248 λi=>
 Q i o
theorem Dx(h : ∀g:fq,z5 x0 H Q):fa Tryz.f193 0 [(0,x0)] H Q:=kf (by kernel_rfl) h
def zg:Prop:=
 dK H 2 38 λd n=>
 dg n 6 76 x0 λs=>
 iW 3 6 6 s λu=>
 br (some u) (
 eI 38 λo=>
 aM n 38 d o λh l=>
 aZ l d 38 λp=>
 Q (.tup [p,(.v (.int .i64 8))]) l) (
 bh true n 10 193 [x0] λo l=>
 dK l 4 248 λh x=>
 aM x 248 h o λp k=>
 ah 248 h 1 λw=>
 ab k 30 w λq=>
 iW 30 12 0 q λt=>
 br (some t) (
 eI 38 λe=>
 ah 248 h 1 λc=>
 ab k 30 c λi=>
 aM k 38 d e λj f=>
  qy [(c,d)] [d] [] f /\
 (aZ f d 38 λm=>
 Q (.tup [m,i]) f)) (
 ah 248 h 0 λe=>
 ab k 38 e λc=>
 aM k 38 d c λi f=>
 aZ f d 38 λj=>
 Q (.tup [j,(.v (.int .i64 0))]) f))
theorem EN(h : ∀g:fq,zg x0 H Q):fa Tryz.f175 0 [(0,x0)] H Q:=kf (by kernel_rfl) h
def I8:Prop:=
 dK H 2 40 λe m=>
 dg m 7 76 x0 λw=>
 iW 3 7 13 w λx=>
 br (some x) (
 eI 40 λp=>
 aM m 40 e p λs f=>
 aZ f e 40 λj=>
 Q (.tup [j,(.v (.int .i64 8))]) f) (
 bh false m 11 193 [x0] λp f=>
 fO (uV env.P 248 (some p) 0) λs=>
 fO (dx env.P (aa.get f) 76 (some x0) (oi (.v (.int .i64 6))) (some none) (some none)) λj=>
 bh false f 15 202 [j] λy z=>
 ur 40 0 s 1 y λu=>
 dK z 4 40 λk B=>
 aM B 40 k u λA t=>
 ab t 40 k λl=>
 bh true t 18 158 [l] λi n=>
 iW 30 19 0 i λo=>
 br (some o) (
 eI 40 λd=>
 aM n 40 e d λq h=>
 aZ h e 40 λc=>
 Q (.tup [c,i]) h) (
 ab n 40 k λd=>
 aM n 40 e d λq h=>
 aZ h e 40 λc=>
 Q (.tup [c,(.v (.int .i64 0))]) h))
theorem Pd(h : ∀g:fq,I8 x0 H Q):fa Tryz.f203 0 [(0,x0)] H Q:=kf (by kernel_rfl) h
def tZ:Prop:=
 dh H 1 38 x0 λc q=>
 ab q 38 c λx=>
 bh true q 6 120 [x] λp d=>
 iW 30 7 0 p λD=>
 br (some D) (
 Q (.tup [(.v (.slice none 0 0)),p]) d) (
 ah 38 c 0 λu=>
 ah 36 u 0 λy=>
 ab d 5 y λC=>
 QM d 13 76 1 0 C λw m=>
 ah 38 c 0 λz=>
 ah 36 z 1 λn=>
 ab m 34 n λh=>
 dC m 17 34 3 h λi=>
 bh false m 18 121 [i,(.v (.int .i64 4))] λl t=>
 kA (ee env.P false t (Ref.mk 0 19 (aa.gen t 0 19) 0) (some 76) (some 76) w l) λf s=>
 ah 38 c 1 λo=>
 ab s 5 o λe=>
 QM s 22 76 1 0 e λj B=>
 dI B 23 76 76 f j λk A=>
 Q (.tup [k,(.v (.int .i64 0))]) A)
theorem EM(h : ∀g:fq,tZ x0 H Q):fa Tryz.f81 0 [(0,x0)] H Q:=kf (by kernel_rfl) h
def Dh:Prop:=
 dh H 1 40 x0 λf k=>
 ab k 40 f λp=>
 bh true k 8 158 [p] λj c=>
 iW 30 9 0 j λu=>
 br (some u) (
 Q (.tup [(.v (.slice none 0 0)),j]) c) (
 ah 40 f 0 λn=>
 ab c 38 n λq=>
 bh true c 15 81 [q] λl m=>
 ba l 0 λo=>
 ba l 1 λs=>
 ah 40 f 1 λi=>
 ab m 3 i λd=>
 bh true m 21 121 [d,(.v (.int .i64 7))] λe w=>
 dI w 22 76 76 o e λh t=>
 Q (.tup [h,s]) t)
theorem Pc(h : ∀g:fq,Dh x0 H Q):fa Tryz.f123 0 [(0,x0)] H Q:=kf (by kernel_rfl) h
def rg:=ta Tryz.f45 3
def Cw:Nat->Option (List Nat):=λi=>cond (Nat.beq i 3) (some [9,3,7,1,8]) (none)
def CJ:Prop:=
 dh H 1 24 x0 λd c=>
 ah 24 d 0 λf=>
 ab c 22 f λe=>
 dg c 8 22 e λh=>
  cy env Tryz.f45 0 rg [(9,(.v (.int .i64 0))),(3,(.v (.int .i64 (-1)))),(7,e),(1,d),(8,h)] c Q
theorem Jx(h : ∀g:fq,CJ x0 H Q):fa Tryz.f45 0 [(0,x0)] H Q:=uP Cw (by kernel_rfl) h
def vf(g:Nat->AV)(x9 F E a D:AV)(H:aa)(Q:AV->aa->Prop):Prop:=
 fC 3 9 8 x9 D λG=>
 br (some G) (
 dF H 22 E x9 λs=>
 ab H 78 s λw=>
 dK H 5 78 λf I=>
 aM I 78 f w λC i=>
 ah 78 f 0 λx=>
 ab i 3 x λz=>
 fO (bZ env.P .leq 3 (Operand.tmp 14) (Operand.tmp 15) (some z) (some F)) λh=>
 gQ h false (au 78 f 0) λt=>
 gQ h false (an i 3 t) λm=>
 gQ h false (oh 3 19 6146 m) λn=>
 dH h n λc=>
 gQ c false (au 78 f 1) λp=>
 gQ c false (an i 76 p) λj=>
 gQ c false (Ft i 25 76 j) λq=>
 gQ c false (wQ 3 25 128 q) λd=>
 dH c d λk=>
 br (some k) (
 Q (.v (.int .i64 8)) i) (
 ah 78 f 0 λl=>
 ab i 3 l λe=>
 gJ 3 9 1 x9 λo=>
  cy env Tryz.f45 0 rg [(9,o),(3,e),(7,E),(1,a),(8,D)] i Q)) (
 ah 24 a 1 λs=>
 ab H 3 s λw=>
 om 3 32 0 w λf=>
 gQ f false (au 24 a 1) λC=>
 gQ f false (an H 3 C) λx=>
 gQ f false (oh 3 36 2147483648 x) λz=>
 dH f z λh=>
 gQ h false (au 24 a 2) λt=>
 gQ h false (an H 3 t) λm=>
 gQ h false (bZ env.P .lss 3 (Operand.tmp 41) (.const (.int .i64 (-1))) (some m) (some (.v (.int .i64 (-1))))) λn=>
 dH h n λc=>
 gQ c false (au 24 a 2) λp=>
 gQ c false (an H 3 p) λj=>
 gQ c false (oh 3 46 2147483648 j) λq=>
 dH c q λd=>
 gQ d false (au 24 a 3) λk=>
 gQ d false (an H 4 k) λl=>
 gQ d false (bX l) λe=>
 gQ e true (au 24 a 2) λo=>
 gQ e true (an H 3 o) λu=>
 gQ e true (wQ 3 54 0 u) λB=>
 gQ d false (Fs e B) λy=>
 dH d y λA=>
 br (some A) (
 Q (.v (.int .i64 8)) H) (
 Q (.v (.int .i64 0)) H))
theorem Am(x9 c d a e:AV)(H:aa)(Q:AV->aa->Prop)(h : ∀g,vf g x9 c d a e H Q):cy env Tryz.f45 0 rg [(9,x9),(3,c),(7,d),(1,a),(8,e)] H Q:=uc Cw (by kernel_rfl) h
def sH:=ta Tryz.f49 3
def DZ:Nat->Option (List Nat):=λi=>cond (Nat.beq i 3) (some [10,3,2,1,9]) (none)
def vC:Prop:=
 dh H 1 24 x0 λc h=>
 dK h 2 24 λj e=>
 ah 24 c 0 λl=>
 ab e 22 l λi=>
 bh true e 7 78 [i] λd f=>
 dg f 9 22 d λk=>
  cy env Tryz.f49 0 sH [(10,(.v (.int .i64 0))),(3,d),(2,j),(1,c),(9,k)] f Q
theorem Lp(h : ∀g:fq,vC x0 H Q):fa Tryz.f49 0 [(0,x0)] H Q:=uP DZ (by kernel_rfl) h
def pv(g:Nat->AV)(x10 d b a x9:AV)(H:aa)(Q:AV->aa->Prop):Prop:=
 fC 3 10 9 x10 x9 λm=>
 br (some m) (
 dF H 22 d x10 λf=>
 ah 78 f 1 λk=>
 ab H 76 k λi=>
 bh true H 20 79 [i] λj c=>
 dF c 22 d x10 λh=>
 ah 78 h 1 λn=>
 aM c 76 n j λo e=>
 gJ 3 10 1 x10 λl=>
  cy env Tryz.f49 0 sH [(10,l),(3,d),(2,b),(1,a),(9,x9)] e Q) (
 ah 24 a 0 λf=>
 aM H 22 f d λk c=>
 ab c 24 a λi=>
 aM c 24 b i λj e=>
 aZ e b 24 λh=>
 Q h e)
theorem sk(x10 c b a x9:AV)(H:aa)(Q:AV->aa->Prop)(h : ∀g,pv g x10 c b a x9 H Q):cy env Tryz.f49 0 sH [(10,x10),(3,c),(2,b),(1,a),(9,x9)] H Q:=uc DZ (by kernel_rfl) h
def xS:Prop:=
 dh H 2 24 x0 λh e=>
 ab e 24 h λl=>
 bh true e 7 45 [l] λf d=>
 iW 30 8 0 f λk=>
 br (some k) (
 Q f d) (
 om 3 11 0 a λc=>
 gQ c false (bX a) λm=>
 gQ c false (oh 3 14 6146 m) λi=>
 dH c i λj=>
 br (some j) (
 Q (.v (.int .i64 2)) d) (
 Q (.v (.int .i64 0)) d))
theorem Jv(h : ∀g:fq,xS x0 a H Q):fa Tryz.f110 0 [(0,x0),(1,a)] H Q:=kf (by kernel_rfl) h
def En:Prop:=
 dh H 2 24 x0 λe c=>
 ah 24 e 0 λi=>
 ab c 22 i λk=>
 bh true c 9 147 [k,a,(.fn (.func 148) [] [])] λd h=>
 ba d 0 λf=>
 ba d 1 λj=>
 Q (.tup [f,j]) h
theorem Lo(h : ∀g:fq,En x0 a H Q):fa Tryz.f111 0 [(0,x0),(1,a)] H Q:=kf (by kernel_rfl) h
def F8:Prop:=
 dg H 5 76 x0 λd=>
 Z9 H 6 76 d λc e=>
 kA (yg env.P e (some 76) c x0) λh f=>
 Q c f
theorem MM(h : ∀g:fq,F8 x0 H Q):fa Tryz.f79 0 [(0,x0)] H Q:=kf (by kernel_rfl) h
def bN:Prop:=
 JX 22 3 x0 λc=>
 br (some c) (
 Q (.v (.slice none 0 0)) H) (
 QL H 5 22 0 λd e=>
 dI e 7 22 22 d x0 λf h=>
 Q f h)
theorem cH(h : ∀g:fq,bN x0 H Q):fa Tryz.f78 0 [(0,x0)] H Q:=kf (by kernel_rfl) h
def sQ:Prop:=
 dh H 2 24 x0 λj p=>
 ab p 24 j λt=>
 bh true p 11 110 [t,a] λo e=>
 iW 30 12 0 o λx=>
 br (some x) (
 Q (.tup [(.v (.slice none 0 0)),o]) e) (
 ab e 24 j λq=>
 bh true e 18 111 [q,a] λn d=>
 ba n 0 λw=>
 ba n 1 λs=>
 mQ s λu=>
 br (some u) (
 QU d 23 76 128 λc l=>
 Q (.tup [c,(.v (.int .i64 0))]) l) (
 ah 24 j 0 λc=>
 ab d 22 c λh=>
 dF d 22 h w λi=>
 ah 78 i 1 λk=>
 ab d 76 k λf=>
 bh true d 30 79 [f] λm l=>
 Q (.tup [m,(.v (.int .i64 0))]) l))
theorem Lr(h : ∀g:fq,sQ x0 a H Q):fa Tryz.f116 0 [(0,x0),(1,a)] H Q:=kf (by kernel_rfl) h
def aQ:=ta Tryz.f147 3
def cV:Nat->Option (List Nat):=λi=>cond (Nat.beq i 3) (some [1,0,2,10,9,8]) (none)
def cW:Prop:=
 dg H 13 22 x0 λc=>
  cy env Tryz.f147 0 aQ [(1,a),(0,x0),(2,b),(10,c),(9,(.v (.int .i64 0))),(8,c)] H Q
theorem fT(h : ∀g:fq,cW x0 a b H Q):fa Tryz.f147 0 [(0,x0),(1,a),(2,b)] H Q:=uP cV (by kernel_rfl) h
def bc(g:Nat->AV)(a x0 b x10 x9 o:AV)(H:aa)(Q:AV->aa->Prop):Prop:=
 fC 3 15 16 x9 x10 λp=>
 br (some p) (
 jZ 3 18 19 x9 x10 λc=>
 dC H 21 3 145 c λk=>
 fO (bZ env.P .shr 145 (Operand.tmp 21) (.const (.int .u64 1)) (some k) (some (.v (.int .u64 1)))) λn=>
 dC H 23 145 3 n λe=>
 dF H 22 x0 e λi=>
 ab H 78 i λm=>
 QP H 30 b m a λh f=>
 om 3 30 0 h λj=>
 br (some j) (
 gJ 3 32 1 e λd=>
  cy env Tryz.f147 0 aQ [(1,a),(0,x0),(2,b),(10,x10),(9,d),(8,o)] f Q) (
  cy env Tryz.f147 0 aQ [(1,a),(0,x0),(2,b),(10,e),(9,x9),(8,o)] f Q)) (
 fC 3 36 37 x9 o λc=>
 gQ c true (bX b) λk=>
 gQ c true (bX x0) λn=>
 gQ c true (bX x9) λe=>
 gQ c true (Mn H 22 n e) λi=>
 gQ c true (an H 78 i) λm=>
 gQ c true (bX a) λh=>
 gW c true H (bS env true (ay env) (eZ env 0) H (Ref.mk 0 46 (aa.gen H 0 46) 0) (some k) [m,h]) λj f=>
 gQ c true (wP 3 46 0 j) λd=>
 cr c d λl=>
 Q (.tup [x9,l]) f)
theorem cP(a x0 b x10 x9 c:AV)(H:aa)(Q:AV->aa->Prop)(h : ∀g,bc g a x0 b x10 x9 c H Q):cy env Tryz.f147 0 aQ [(1,a),(0,x0),(2,b),(10,x10),(9,x9),(8,c)] H Q:=uc cV (by kernel_rfl) h
def Bu:Prop:=
 dh H 2 78 x0 λd c=>
 ah 78 d 0 λe=>
 ab c 3 e λf=>
 bh true c 8 149 [f,a] λi h=>
 Q i h
theorem Hv(h : ∀g:fq,Bu x0 a H Q):fa Tryz.f148 0 [(0,x0),(1,a)] H Q:=kf (by kernel_rfl) h
def vk:Prop:=
 bh true H 8 173 [x0] λe f=>
 bh true f 10 173 [a] λd c=>
 br (some e) (
 br (some d) (
 Q (.v (.int .i64 0)) c) (
 Q (.v (.int .i64 (-1))) c)) (
 br (some d) (
 Q (.v (.int .i64 1)) c) (
 fC 3 14 15 x0 a λh=>
 br (some h) (
 Q (.v (.int .i64 (-1))) c) (
 Mp 3 17 18 x0 a λi=>
 br (some i) (
 Q (.v (.int .i64 1)) c) (
 Q (.v (.int .i64 0)) c))))
theorem B0(h : ∀g:fq,vk x0 a H Q):fa Tryz.f149 0 [(0,x0),(1,a)] H Q:=kf (by kernel_rfl) h
def xp:Prop:=
 fO (bZ env.P .neq 3 (Operand.tmp 3) (Operand.tmp 4) (some x0) (some x0)) λc=>
 Q c H
theorem Dy(h : ∀g:fq,xp x0 H Q):fa Tryz.f173 0 [(0,x0)] H Q:=kf (by kernel_rfl) h
def xO:Code:=(Tryz.f23.body).getD .skip
def jl:=ta Tryz.f23 3
def qH:Nat->Option (List Nat):=λi=>cond (Nat.beq i 3) (some [4,1,3]) (none)
def mN(g:Nat->AV)(x0:AV)(H:aa)(Q:AV->aa->Prop):Prop:=
 dh H 1 24 x0 λc d=>
  cy env Tryz.f23 0 jl [(4,(.v (.int .i64 0))),(1,c),(3,(.v (.int .i64 0)))] d Q
theorem xy(x0:AV)(H:aa)(Q:AV->aa->Prop)(h : ∀g,mN g x0 H Q):fa Tryz.f23 0 [(0,x0)] H Q:=uP qH (by kernel_rfl) h
def jt(g:Nat->AV)(x4 a n:AV)(H:aa)(Q:AV->aa->Prop):Prop:=
 ah 24 a 0 λt=>
 ab H 22 t λp=>
 dg H 8 22 p λs=>
 fC 3 5 8 x4 s λl=>
 gQ l true (bX x4) λo=>
 gQ l true (wR 3 11 300 o) λq=>
 cr l q λu=>
 br (some u) (
 ah 24 a 0 λi=>
 ab H 22 i λk=>
 dF H 22 k x4 λh=>
 ah 78 h 1 λc=>
 ab H 76 c λe=>
 dg H 23 76 e λf=>
 fO (eD env.P false (aa.get H) (Ref.mk 0 24 (aa.gen H 0 24) 0) .min #[3,3] [f,(.v (.int .i64 10000))]) λd=>
 jZ 3 16 24 n d λm=>
 gJ 3 14 1 x4 λj=>
  cy env Tryz.f23 0 jl [(4,j),(1,a),(3,m)] H Q) (
 ah 24 a 0 λi=>
 ab H 22 i λk=>
 dg H 28 22 k λh=>
 Ad 3 28 200 h λc=>
 gQ c false (bX n) λe=>
 gQ c false (GI 3 31 40000 e) λf=>
 dH c f λd=>
 Q d H)
theorem o5(x4 a c:AV)(H:aa)(Q:AV->aa->Prop)(h : ∀g,jt g x4 a c H Q):cy env Tryz.f23 0 jl [(4,x4),(1,a),(3,c)] H Q:=uc qH (by kernel_rfl) h
def jK:=ta Tryz.f31 4
def rJ:Nat->Option (List Nat):=λi=>cond (Nat.beq i 4) (some [5,3,2]) (none)
def nz:Prop:=
 dh H 2 24 x0 λd f=>
 dh f 3 24 a λe c=>
 ah 24 d 0 λn=>
 ab c 22 n λk=>
 dg c 8 22 k λh=>
 ah 24 e 0 λl=>
 ab c 22 l λi=>
 dg c 11 22 i λj=>
 xV 3 8 11 h j λm=>
 br (some m) (
 Q (.v (.bool false)) c) (
  cy env Tryz.f31 0 jK [(5,(.v (.int .i64 0))),(3,e),(2,d)] c Q)
theorem yt(h : ∀g:fq,nz x0 a H Q):fa Tryz.f31 0 [(0,x0),(1,a)] H Q:=uP rJ (by kernel_rfl) h
def ei(g:Nat->AV)(x5 q b:AV)(H:aa)(Q:AV->aa->Prop):Prop:=
 ah 24 b 0 λL=>
 ab H 22 L λJ=>
 dg H 16 22 J λK=>
 fC 3 13 16 x5 K λM=>
 br (some M) (
 ah 24 b 0 λt=>
 ab H 22 t λz=>
 dF H 22 z x5 λE=>
 ah 78 E 0 λw=>
 ab H 3 w λd=>
 ah 24 q 0 λk=>
 ab H 22 k λl=>
 dF H 22 l x5 λn=>
 ah 78 n 0 λp=>
 ab H 3 p λh=>
 xV 3 25 31 d h λc=>
 gQ c false (au 24 b 0) λe=>
 gQ c false (an H 22 e) λi=>
 gQ c false (bX x5) λj=>
 gQ c false (Mn H 22 i j) λo=>
 gQ c false (au 78 o 1) λm=>
 gQ c false (an H 76 m) λf=>
 gQ c false (xW H 40 76 9 f) λI=>
 gQ c false (au 24 q 0) λC=>
 gQ c false (an H 22 C) λF=>
 gQ c false (bX x5) λu=>
 gQ c false (Mn H 22 F u) λD=>
 gQ c false (au 78 D 1) λB=>
 gQ c false (an H 76 B) λs=>
 gQ c false (xW H 47 76 9 s) λy=>
 gQ c false (Ca 9 40 47 I y) λx=>
 dH c x λG=>
 br (some G) (
 Q (.v (.bool false)) H) (
 gJ 3 18 1 x5 λA=>
  cy env Tryz.f31 0 jK [(5,A),(3,q),(2,b)] H Q)) (
 ah 24 b 1 λt=>
 ab H 3 t λz=>
 ah 24 q 1 λE=>
 ab H 3 E λw=>
 vL 3 51 53 z w λd=>
 gQ d true (au 24 b 2) λk=>
 gQ d true (an H 3 k) λl=>
 gQ d true (au 24 q 2) λn=>
 gQ d true (an H 3 n) λp=>
 gQ d true (iu 3 57 59 l p) λh=>
 cr d h λc=>
 gQ c true (au 24 b 3) λe=>
 gQ c true (an H 4 e) λi=>
 gQ c true (au 24 q 3) λj=>
 gQ c true (an H 4 j) λo=>
 gQ c true (iu 4 64 66 i o) λm=>
 cr c m λf=>
 Q f H)
theorem pS(x5 c b:AV)(H:aa)(Q:AV->aa->Prop)(h : ∀g,ei g x5 c b H Q):cy env Tryz.f31 0 jK [(5,x5),(3,c),(2,b)] H Q:=uc rJ (by kernel_rfl) h
def qQ:Prop:=
 dh H 2 24 x0 λd S=>
 dK S 4 24 λe B=>
 ab B 24 d λL=>
 bh true B 8 45 [L] λF j=>
 iW 30 9 0 F λG=>
 br (some G) (
 eI 24 λl=>
 aM j 24 e l λE c=>
 aZ c e 24 λp=>
 Q (.tup [p,F]) c) (
 Z6 3 14 a λl=>
 gQ l false (bX a) λE=>
 gQ l false (oh 3 17 2147483648 E) λp=>
 dH l p λJ=>
 br (some J) (
 eI 24 λh=>
 aM j 24 e h λm c=>
 aZ c e 24 λi=>
 Q (.tup [i,(.v (.int .i64 2))]) c) (
 ah 24 d 1 λh=>
 ab j 3 h λm=>
 gJ 3 23 1 m λi=>
 vN 3 24 2147483648 i λx=>
 br (some x) (
 eI 24 λf=>
 aM j 24 e f λn c=>
 aZ c e 24 λk=>
 Q (.tup [k,(.v (.int .i64 9))]) c) (
 ab j 24 d λf=>
 bh true j 28 49 [f] λn c=>
 aM c 24 d n λk D=>
 ah 24 d 1 λq=>
 ab D 3 q λs=>
 gJ 3 30 1 s λu=>
 ah 24 d 1 λt=>
 aM D 3 t u λK N=>
 ah 24 d 2 λz=>
 aM N 3 z a λR M=>
 ah 24 d 3 λy=>
 kA (kn env.P M 4 (some y) (some (AV.v (Value.bool false)))) λI C=>
 ab C 24 d λw=>
 aM C 24 e w λO A=>
 aZ A e 24 λo=>
 Q (.tup [o,(.v (.int .i64 0))]) A)))
theorem Jw(h : ∀g:fq,qQ x0 a H Q):fa Tryz.f38 0 [(0,x0),(1,a)] H Q:=kf (by kernel_rfl) h
def F9:Prop:=
 dK H 0 24 λc f=>
 fO (oK env.P 24 (some [(2,(.v (.int .i64 (-1))))])) λe=>
 aM f 24 c e λi d=>
 aZ d c 24 λh=>
 Q h d
theorem MN(h : ∀g:fq,F9 H Q):fa Tryz.f39 0 [] H Q:=kf (by kernel_rfl) h
def gO:Prop:=
 JX 43 3 x0 λc=>
 br (some c) (
 Q (.v (.slice none 0 0)) H) (
 QL H 5 43 0 λd e=>
 dI e 7 43 43 d x0 λf h=>
 Q f h)
theorem tF(h : ∀g:fq,gO x0 H Q):fa Tryz.f131 0 [(0,x0)] H Q:=kf (by kernel_rfl) h
def zZ:Prop:=
 dK H 2 29 λe t=>
 bh true t 7 39 [] λs p=>
 bh true p 9 38 [s,x0] λn w=>
 ba n 0 λv=>
 ba n 1 λl=>
 dK w 4 24 λm x=>
 aM x 24 m v λy k=>
 iW 30 12 0 l λq=>
 br (some q) (
 eI 29 λh=>
 aM k 29 e h λd f=>
 aZ f e 29 λc=>
 Q (.tup [c,l]) f) (
 ab k 24 m λh=>
 bh true k 17 13 [h] λd f=>
 ba d 0 λc=>
 ba d 1 λj=>
 aM f 29 e c λu o=>
 aZ o e 29 λi=>
 Q (.tup [i,j]) o)
theorem Lh(h : ∀g:fq,zZ x0 H Q):fa Tryz.f8 0 [(0,x0)] H Q:=kf (by kernel_rfl) h
def rP:Prop:=
 dh H 1 24 x0 λt H1=>
 dK H1 2 29 λc Y=>
 ab Y 24 t λv3=>
 bh true Y 10 45 [v3] λv4 k=>
 iW 30 11 0 v4 λv5=>
 br (some v5) (
 ab k 29 c λS=>
 aM k 29 c S λZ l=>
 aZ l c 29 λG=>
 Q (.tup [G,v4]) l) (
 ah 24 t 1 λS=>
 ab k 3 S λZ=>
 om 3 16 1 Z λG=>
 br (some G) (
 ab k 29 c λJ=>
 aM k 29 c J λf l=>
 aZ l c 29 λo=>
 Q (.tup [o,(.v (.int .i64 2))]) l) (
 ab k 24 t λJ=>
 bh true k 21 46 [J] λf l=>
 ba f 0 λo=>
 ba f 1 λT=>
 ba f 2 λB=>
 dK l 6 27 λd H5=>
 aM H5 27 d T λv15 x=>
 iW 30 25 0 B λI=>
 br (some I) (
 ab x 29 c λj=>
 aM x 29 c j λy e=>
 aZ e c 29 λs=>
 Q (.tup [s,B]) e) (
 ab x 24 t λj=>
 ah 27 d 1 λy=>
 ab x 3 y λs=>
 bh true x 33 47 [j,(.v (.int .i64 0)),s,(.v (.int .i64 2048))] λp e=>
 ba p 0 λw=>
 ba p 1 λX=>
 ba p 2 λz=>
 iW 30 37 0 z λV=>
 br (some V) (
 ab e 29 c λh=>
 aM e 29 c h λA i=>
 aZ i c 29 λn=>
 Q (.tup [n,z]) i) (
 ab e 24 t λh=>
 ah 27 d 1 λA=>
 ab e 3 A λn=>
 dg e 45 25 w λF=>
 jZ 3 43 45 n F λO=>
 bh true e 47 48 [h,O] λL i=>
 mQ L λW=>
 br (some W) (
 ab i 29 c λm=>
 aM i 29 c m λD u=>
 aZ u c 29 λq=>
 Q (.tup [q,(.v (.int .i64 8))]) u) (
 ab i 24 t λm=>
 bh false i 51 49 [m] λD u=>
 kA (lI env.P true false u (Ref.mk 0 54 (aa.gen u 0 54) 0) 139 2 (some [(0,o),(1,w)])) λq M=>
 bh false M 55 50 [q] λN C=>
 ab C 27 d λR=>
 Fq 29 0 D 1 N 2 R 3 X λU=>
 aM C 29 c U λv38 E=>
 aZ E c 29 λK=>
 Q (.tup [K,(.v (.int .i64 0))]) E)))))
theorem MG(h : ∀g:fq,rP x0 H Q):fa Tryz.f13 0 [(0,x0)] H Q:=kf (by kernel_rfl) h
def Bo:Prop:=
 dh H 1 29 x0 λd c=>
 ah 29 d 0 λe=>
 ah 24 e 1 λf=>
 ab c 3 f λh=>
 Q h c
theorem Hk(h : ∀g:fq,Bo x0 H Q):fa Tryz.f20 0 [(0,x0)] H Q:=kf (by kernel_rfl) h
def oG:Prop:=
 dh H 2 29 x0 λi F=>
 dh F 3 29 a λh k=>
 ah 29 i 0 λE=>
 ab k 24 E λG=>
 ah 29 h 0 λA=>
 ab k 24 A λC=>
 bh true k 9 53 [G,C] λe j=>
 gQ e true (au 29 i 1) λB=>
 gQ e true (an j 25 B) λD=>
 gQ e true (au 29 h 1) λy=>
 gQ e true (an j 25 y) λp=>
 gW e true j (fB true j 15 54 [D,p,(.fn (.func 55) [] [])]) λs f=>
 cr e s λd=>
 gQ d true (au 29 i 2) λn=>
 gQ d true (an f 27 n) λz=>
 gQ d true (au 29 h 2) λm=>
 gQ d true (an f 27 m) λt=>
 gQ d true (iu 27 19 21 z t) λv=>
 cr d v λc=>
 gQ c true (au 29 i 3) λq=>
 gQ c true (an f 3 q) λo=>
 gQ c true (au 29 h 3) λx=>
 gQ c true (an f 3 x) λu=>
 gQ c true (iu 3 26 28 o u) λw=>
 cr c w λl=>
 Q l f
theorem Jj(h : ∀g:fq,oG x0 a H Q):fa Tryz.f22 0 [(0,x0),(1,a)] H Q:=kf (by kernel_rfl) h
def Bn:Prop:=
 dh H 2 24 x0 λc e=>
 dh e 3 3 a λk d=>
 fO (yR (.func 75) (some []) (some [c,k])) λm=>
 ah 24 c 0 λi=>
 ab d 22 i λf=>
 bh true d 10 77 [f,m] λl j=>
 mQ l λh=>
 Q h j
theorem Hj(h : ∀g:fq,Bn x0 a H Q):fa Tryz.f48 0 [(0,x0),(1,a)] H Q:=kf (by kernel_rfl) h
def iN:Prop:=
 dh H 3 78 x0 λS T=>
 ah 78 S 1 λX=>
 ab T 76 X λZ=>
 bh true T 11 76 [Z] λU W=>
 ba U 0 λV=>
 ba U 1 λv6=>
 dK W 5 132 λk H3=>
 aM H3 132 k V λv8 f=>
 ah 132 k 0 λY=>
 ab f 3 Y λx=>
 ah 24 a 1 λD=>
 ab f 3 D λF=>
 Mp 3 15 17 x F λe=>
 gQ e false (au 132 k 1) λp=>
 gQ e false (an f 3 p) λR=>
 gQ e false (an f 3 b) λm=>
 gQ e false (QS 3 22 1 m) λu=>
 gQ e false (ON 3 21 23 R u) λv=>
 dH e v λc=>
 gQ c false (au 132 k 1) λE=>
 gQ c false (an f 3 E) λo=>
 gQ c false (an f 3 b) λP=>
 gQ c false (QS 3 29 1 P) λG=>
 gQ c false (iu 3 28 30 o G) λN=>
 gQ c false (bX N) λd=>
 gQ d true (au 132 k 0) λJ=>
 gQ d true (an f 3 J) λC=>
 gQ d true (au 24 a 1) λl=>
 gQ d true (an f 3 l) λz=>
 gQ d true (iu 3 34 36 C z) λt=>
 gQ c false (Fs d t) λO=>
 gQ c false (bX O) λh=>
 gQ h true (au 24 a 3) λL=>
 gQ h true (an f 4 L) λI=>
 gQ h true (vK I) λw=>
 gQ c false (Fs h w) λA=>
 dH c A λK=>
 ah 78 S 0 λq=>
 ab f 3 q λs=>
 om 3 46 2048 s λi=>
 gQ i true (bX v6) λM=>
 gQ i true (wP 30 49 0 M) λy=>
 cr i y λj=>
 gQ j true (bX K) λB=>
 cr j B λn=>
 Q n f
theorem EJ(h : ∀g:fq,iN x0 a b H Q):fa Tryz.f75 0 [(0,x0),(1,a),(2,b)] H Q:=kf (by kernel_rfl) h
def dJ:Prop:=
 bh true H 7 119 [x0,a] λc e=>
 vN 3 7 0 c λd=>
 Q d e
theorem ia(h : ∀g:fq,dJ x0 a H Q):fa Tryz.f77 0 [(0,x0),(1,a)] H Q:=kf (by kernel_rfl) h
def iy:Code:=(Tryz.f119.body).getD .skip
def bA:=ta Tryz.f119 2
def dT:Nat->Option (List Nat):=λi=>cond (Nat.beq i 2) (some [8,0,1,7]) (none)
def dU:Prop:=
 dg H 7 22 x0 λc=>
  cy env Tryz.f119 0 bA [(8,(.v (.int .i64 0))),(0,x0),(1,a),(7,c)] H Q
theorem iw(h : ∀g:fq,dU x0 a H Q):fa Tryz.f119 0 [(0,x0),(1,a)] H Q:=uP dT (by kernel_rfl) h
def bB(g:Nat->AV)(c x0 a e:AV)(H:aa)(Q:AV->aa->Prop):Prop:=
 fC 3 8 7 c e λj=>
 br (some j) (
 dF H 22 x0 c λh=>
 ab H 78 h λi=>
 JV H 16 a i λk d=>
 br (some k) (
 Q c d) (
 gJ 3 8 1 c λf=>
  cy env Tryz.f119 0 bA [(8,f),(0,x0),(1,a),(7,e)] d Q)) (
 Q (.v (.int .i64 (-1))) H)
theorem dN(c x0 a d:AV)(H:aa)(Q:AV->aa->Prop)(h : ∀g,bB g c x0 a d H Q):cy env Tryz.f119 0 bA [(8,c),(0,x0),(1,a),(7,d)] H Q:=uc dT (by kernel_rfl) h
def sP:Prop:=
 dh H 2 24 x0 λi E=>
 dh E 3 24 a λh j=>
 ah 24 i 0 λD=>
 ab j 22 D λF=>
 ah 24 h 0 λz=>
 ab j 22 z λB=>
 bh true j 11 88 [F,B,(.fn (.func 86) [] [])] λf e=>
 gQ f true (au 24 i 1) λA=>
 gQ f true (an e 3 A) λC=>
 gQ f true (au 24 h 1) λx=>
 gQ f true (an e 3 x) λo=>
 gQ f true (iu 3 14 16 C o) λq=>
 cr f q λd=>
 gQ d true (au 24 i 2) λm=>
 gQ d true (an e 3 m) λy=>
 gQ d true (au 24 h 2) λl=>
 gQ d true (an e 3 l) λs=>
 gQ d true (iu 3 21 23 y s) λu=>
 cr d u λc=>
 gQ c true (au 24 i 3) λp=>
 gQ c true (an e 4 p) λn=>
 gQ c true (au 24 h 3) λw=>
 gQ c true (an e 4 w) λt=>
 gQ c true (iu 4 28 30 n t) λv=>
 cr c v λk=>
 Q k e
theorem Lq(h : ∀g:fq,sP x0 a H Q):fa Tryz.f53 0 [(0,x0),(1,a)] H Q:=kf (by kernel_rfl) h
def wD:Prop:=
 dh H 2 78 x0 λk q=>
 dh q 3 78 a λj c=>
 ah 78 k 0 λp=>
 ab c 3 p λs=>
 ah 78 j 0 λl=>
 ab c 3 l λn=>
 vL 3 6 8 s n λd=>
 gQ d true (au 78 k 1) λm=>
 gQ d true (an c 76 m) λo=>
 gQ d true (au 78 j 1) λi=>
 gQ d true (an c 76 i) λe=>
 gW d true c (fB true c 15 87 [o,e]) λf t=>
 cr d f λh=>
 Q h t
theorem Hw(h : ∀g:fq,wD x0 a H Q):fa Tryz.f86 0 [(0,x0),(1,a)] H Q:=kf (by kernel_rfl) h
def az:=ta Tryz.f88 4
def bw:Nat->Option (List Nat):=λi=>cond (Nat.beq i 4) (some [17,2,1,15,16]) (none)
def aT:Prop:=
 dg H 11 22 x0 λc=>
 dg H 13 22 a λe=>
 xV 3 11 13 c e λf=>
 br (some f) (
 Q (.v (.bool false)) H) (
 dg H 16 22 x0 λd=>
  cy env Tryz.f88 0 az [(17,(.v (.int .i64 0))),(2,b),(1,a),(15,x0),(16,d)] H Q)
theorem cZ(h : ∀g:fq,aT x0 a b H Q):fa Tryz.f88 0 [(0,x0),(1,a),(2,b)] H Q:=uP bw (by kernel_rfl) h
def aE(g:Nat->AV)(c b a e d:AV)(H:aa)(Q:AV->aa->Prop):Prop:=
 fC 3 17 16 c d λu=>
 br (some u) (
 dF H 22 e c λq=>
 ab H 78 q λt=>
 dK H 8 78 λp w=>
 aM w 78 p t λz f=>
 dF f 22 a c λs=>
 ab f 78 s λx=>
 dK f 9 78 λn y=>
 aM y 78 n x λA m=>
 ab m 78 p λl=>
 ab m 78 n λi=>
 QP m 29 b l i λj o=>
 mQ j λk=>
 br (some k) (
 Q (.v (.bool false)) o) (
 gJ 3 17 1 c λh=>
  cy env Tryz.f88 0 az [(17,h),(2,b),(1,a),(15,e),(16,d)] o Q)) (
 Q (.v (.bool true)) H)
theorem bp(e b a d c:AV)(H:aa)(Q:AV->aa->Prop)(h : ∀g,aE g e b a d c H Q):cy env Tryz.f88 0 az [(17,e),(2,b),(1,a),(15,d),(16,c)] H Q:=uc bw (by kernel_rfl) h
def aA:=ta Tryz.f54 4
def bz:Nat->Option (List Nat):=λi=>cond (Nat.beq i 4) (some [17,2,1,15,16]) (none)
def aU:Prop:=
 dg H 11 25 x0 λc=>
 dg H 13 25 a λe=>
 xV 3 11 13 c e λf=>
 br (some f) (
 Q (.v (.bool false)) H) (
 dg H 16 25 x0 λd=>
  cy env Tryz.f54 0 aA [(17,(.v (.int .i64 0))),(2,b),(1,a),(15,x0),(16,d)] H Q)
theorem da(h : ∀g:fq,aU x0 a b H Q):fa Tryz.f54 0 [(0,x0),(1,a),(2,b)] H Q:=uP bz (by kernel_rfl) h
def aF(g:Nat->AV)(c b a e d:AV)(H:aa)(Q:AV->aa->Prop):Prop:=
 fC 3 17 16 c d λu=>
 br (some u) (
 dF H 25 e c λq=>
 ab H 51 q λt=>
 dK H 8 51 λp w=>
 aM w 51 p t λz f=>
 dF f 25 a c λs=>
 ab f 51 s λx=>
 dK f 9 51 λn y=>
 aM y 51 n x λA m=>
 ab m 51 p λl=>
 ab m 51 n λi=>
 QP m 29 b l i λj o=>
 mQ j λk=>
 br (some k) (
 Q (.v (.bool false)) o) (
 gJ 3 17 1 c λh=>
  cy env Tryz.f54 0 aA [(17,h),(2,b),(1,a),(15,e),(16,d)] o Q)) (
 Q (.v (.bool true)) H)
theorem bq(e b a d c:AV)(H:aa)(Q:AV->aa->Prop)(h : ∀g,aF g e b a d c H Q):cy env Tryz.f54 0 aA [(17,e),(2,b),(1,a),(15,d),(16,c)] H Q:=uc bz (by kernel_rfl) h
def bH:=ta Tryz.f50 3
def cu:=ta Tryz.f50 11
def cF:Nat->Option (List Nat):=λi=>cond (Nat.beq i 3) (some [11,3,9,0,10]) (cond (Nat.beq i 11) (some [27,6,25,26]) (none))
def ek:Prop:=
 dg H 10 139 x0 λc=>
  cy env Tryz.f50 0 bH [(11,(.v (.int .i64 0))),(3,(.v (.int .i64 0))),(9,x0),(0,x0),(10,c)] H Q
theorem jc(h : ∀g:fq,ek x0 H Q):fa Tryz.f50 0 [(0,x0)] H Q:=uP cF (by kernel_rfl) h
def bj(g:Nat->AV)(x11 f x9 x0 x10:AV)(H:aa)(Q:AV->aa->Prop):Prop:=
 fC 3 11 10 x11 x10 λl=>
 br (some l) (
 dF H 139 x9 x11 λd=>
 ab H 25 d λe=>
 dg H 17 25 e λm=>
 jZ 3 15 17 f m λc=>
 om 3 19 0 c λj=>
 br (some j) (
 aag 9 λi=>
 fO (none) λn=>
 gJ 3 11 1 x11 λk=>
  cy env Tryz.f50 0 bH [(11,k),(3,c),(9,x9),(0,x0),(10,x10)] H Q) (
 gJ 3 11 1 x11 λi=>
  cy env Tryz.f50 0 bH [(11,i),(3,c),(9,x9),(0,x0),(10,x10)] H Q)) (
 bh true H 24 80 [(.v (.slice none 0 0)),f] λd h=>
 dg h 26 139 x0 λe=>
  cy env Tryz.f50 0 cu [(27,(.v (.int .i64 0))),(6,d),(25,x0),(26,e)] h Q)
theorem cz(x11 c x9 x0 x10:AV)(H:aa)(Q:AV->aa->Prop)(h : ∀g,bj g x11 c x9 x0 x10 H Q):cy env Tryz.f50 0 bH [(11,x11),(3,c),(9,x9),(0,x0),(10,x10)] H Q:=uc cF (by kernel_rfl) h
def ae(g:Nat->AV)(c f e d:AV)(H:aa)(Q:AV->aa->Prop):Prop:=
 fC 3 27 26 c d λk=>
 br (some k) (
 dF H 139 e c λi=>
 ab H 25 i λj=>
 dI H 33 25 25 f j λm l=>
 gJ 3 27 1 c λh=>
  cy env Tryz.f50 0 cu [(27,h),(6,m),(25,e),(26,d)] l Q) (
 Q f H)
theorem bf(e f d c:AV)(H:aa)(Q:AV->aa->Prop)(h : ∀g,ae g e f d c H Q):cy env Tryz.f50 0 cu [(27,e),(6,f),(25,d),(26,c)] H Q:=uc cF (by kernel_rfl) h
def cN:Prop:=
 om 3 5 0 a λq=>
 br (some q) (
 aah 9 λo=>
 fO (none) λp=>
 Fu H 10 25 x0 λj=>
 dg H 12 25 x0 λf=>
 Dl 3 10 12 j f λl=>
 Dl 3 8 13 a l λh=>
 Ad 3 15 0 h λi=>
 br (some i) (
 Fu H 19 25 x0 λm=>
 Cb H 25 x0 m λd=>
 dI H 22 25 3 d h λe c=>
 dg c 24 25 x0 λn=>
 Cb c 25 e n λk=>
 Q k c) (
 Q x0 H)) (
 Fu H 10 25 x0 λo=>
 dg H 12 25 x0 λp=>
 Dl 3 10 12 o p λj=>
 Dl 3 8 13 a j λf=>
 Ad 3 15 0 f λl=>
 br (some l) (
 Fu H 19 25 x0 λh=>
 Cb H 25 x0 h λi=>
 dI H 22 25 3 i f λm c=>
 dg c 24 25 x0 λd=>
 Cb c 25 m d λe=>
 Q e c) (
 Q x0 H))
theorem eJ(h : ∀g:fq,cN x0 a H Q):fa Tryz.f80 0 [(0,x0),(1,a)] H Q:=kf (by kernel_rfl) h
end
section
variable(dep:Nat)(g:Nat->AV)(x0:AV)(H:aa)(Q:AV->aa->Prop)
def qS:Prop:=
 dh H 1 29 x0 λc d=>
 ah 29 c 0 λj=>
 ab d 24 j λl=>
 bh true d 5 23 [l] λa b=>
 gQ a false (au 29 c 1) λe=>
 gQ a false (an b 25 e) λk=>
 gW a false b (fB true b 9 37 [k,(.v (.int .i64 100))]) λf i=>
 dH a f λh=>
 Q h i
theorem xt(h : ∀g:fq,qS x0 H Q):fa Tryz.f24 0 [(0,x0)] H Q:=kf (by kernel_rfl) h
end
section
variable(dep:Nat)(g:Nat->AV)(x0 a b:AV)(H:aa)(Q:AV->aa->Prop)
def lJ:Prop:=
 dh H 1 45 x0 λh l=>
 ah 45 h 0 λR=>
 ab l 5 R λT=>
 fO (bZ env.P .eql 5 (Operand.tmp 4) (.const (.int .u8 0)) (some T) (some (a8 0))) λm=>
 gQ m false (au 45 h 0) λO=>
 gQ m false (an l 5 O) λU=>
 gQ m false (bZ env.P .geq 5 (Operand.tmp 8) (.const (.int .u8 4)) (some U) (some (a8 4))) λV=>
 dH m V λj=>
 gQ j false (au 45 h 1) λS=>
 gQ j false (an l 38 S) λw=>
 gW j false l (fB false l 14 120 [w]) λA i=>
 gQ j false (wQ 30 14 0 A) λC=>
 dH j C λf=>
 gQ f false (au 45 h 2) λq=>
 gQ f false (an i 3 q) λL=>
 gQ f false (wR 3 19 1 L) λp=>
 dH f p λe=>
 gQ e false (au 45 h 2) λt=>
 gQ e false (an i 3 t) λF=>
 gQ e false (oh 3 24 16777216 F) λB=>
 dH e B λd=>
 gQ d false (au 45 h 3) λK=>
 gQ d false (an i 42 K) λD=>
 gW d false i (fB false i 30 156 [D]) λI N=>
 gQ d false (wQ 30 30 0 I) λo=>
 dH d o λc=>
 gW c false N (fB false N 34 157 []) λz k=>
 gQ c false (au 45 h 0) λn=>
 gQ c false (an k 5 n) λx=>
 gQ c false (xG env.P 219 (some z) (some x)) λs=>
 gQ c false (uV env.P 218 (some s) 0) λJ=>
 gQ c false (an k 45 h) λy=>
 gW c false k (bS env true (ay env) (eZ env 0) k (Ref.mk 0 40 (aa.gen k 0 40) 0) (some J) [y]) λG M=>
 gQ c false (vK G) λE=>
 dH c E λu=>
 br (some u) (
 Q (.v (.int .i64 8)) M) (
 Q (.v (.int .i64 0)) M)
theorem MI(h : ∀g:fq,lJ x0 H Q):fa Tryz.f122 0 [(0,x0)] H Q:=kf (by kernel_rfl) h
def xP:Prop:=
 dh H 1 45 x0 λf d=>
 ah 45 f 4 λk=>
 ab d 40 k λn=>
 eI 40 λj=>
 vL 40 4 5 n j λc=>
 gQ c true (au 45 f 6) λl=>
 gQ c true (an d 43 l) λh=>
 gQ c true (Ft d 10 43 h) λi=>
 gQ c true (wP 3 10 0 i) λm=>
 cr c m λe=>
 Q e d
theorem Jt(h : ∀g:fq,xP x0 H Q):fa Tryz.f178 0 [(0,x0)] H Q:=kf (by kernel_rfl) h
def CI:Prop:=
 dh H 1 45 x0 λd c=>
 ah 45 d 5 λe=>
 ab c 36 e λf=>
 bh false c 5 161 [] λj i=>
 vL 36 4 5 f j λh=>
 Q h i
theorem Js(h : ∀g:fq,CI x0 H Q):fa Tryz.f179 0 [(0,x0)] H Q:=kf (by kernel_rfl) h
def Bs:Prop:=
 dK H 0 36 λc f=>
 eI 36 λe=>
 aM f 36 c e λi d=>
 aZ d c 36 λh=>
 Q h d
theorem Hs(h : ∀g:fq,Bs H Q):fa Tryz.f161 0 [] H Q:=kf (by kernel_rfl) h
def j8:Prop:=
 dh H 2 45 x0 λh k=>
 ah 45 h 4 λM=>
 ab k 40 M λO=>
 eI 40 λT=>
 vL 40 6 7 O T λi=>
 gQ i false (au 45 h 4) λR=>
 gQ i false (an k 40 R) λS=>
 gW i false k (fB true k 12 158 [S]) λL m=>
 gQ i false (wP 30 12 0 L) λN=>
 dH i N λw=>
 ab m 144 a λB=>
 ab m 45 h λD=>
 JV m 17 B D λj f=>
 gQ j true (bX w) λq=>
 cr j q λd=>
 gQ d true (au 45 h 3) λo=>
 gQ d true (au 42 o 0) λt=>
 gQ d true (au 40 t 0) λu=>
 gQ d true (an f 38 u) λF=>
 gQ d true (au 45 h 1) λC=>
 gQ d true (an f 38 C) λp=>
 gQ d true (iu 38 25 27 F p) λK=>
 cr d K λc=>
 gQ c true (au 45 h 6) λJ=>
 gQ c true (an f 43 J) λn=>
 gQ c true (Ft f 33 43 n) λG=>
 gQ c true (au 45 h 3) λA=>
 gQ c true (au 42 A 1) λl=>
 gQ c true (an f 3 l) λx=>
 gQ c true (iu 3 33 36 G x) λs=>
 cr c s λe=>
 gQ e true (au 45 h 6) λz=>
 gQ e true (an f 43 z) λI=>
 gW e true f (fB true f 42 159 [I]) λE P=>
 gQ e true (wP 30 42 0 E) λv=>
 cr e v λy=>
 Q y P
theorem Jr(h : ∀g:fq,j8 x0 a H Q):fa Tryz.f180 0 [(0,x0),(1,a)] H Q:=kf (by kernel_rfl) h
def CH:Prop:=
 dh H 3 45 x0 λf e=>
 ab e 144 a λl=>
 ab e 45 f λn=>
 JV e 7 l n λd c=>
 gQ d true (an c 144 b) λh=>
 gQ d true (an c 45 f) λm=>
 gW d true c (bS env true (ay env) (eZ env 0) c (Ref.mk 0 11 (aa.gen c 0 11) 0) (some h) [m]) λi k=>
 cr d i λj=>
 Q j k
theorem Jq(h : ∀g:fq,CH x0 a b H Q):fa Tryz.f182 0 [(0,x0),(1,a),(2,b)] H Q:=kf (by kernel_rfl) h
def CG:Prop:=
 dh H 2 45 x0 λf d=>
 ab d 144 a λl=>
 ab d 45 f λo=>
 JV d 6 l o λc e=>
 gQ c true (au 45 f 5) λh=>
 gQ c true (an e 36 h) λm=>
 gW c true e (fB true e 10 155 [m]) λi k=>
 gQ c true (wP 30 10 0 i) λj=>
 cr c j λn=>
 Q n k
theorem Jp(h : ∀g:fq,CG x0 a H Q):fa Tryz.f184 0 [(0,x0),(1,a)] H Q:=kf (by kernel_rfl) h
def dW:Prop:=
 dh H 2 45 x0 λk Y=>
 dh Y 3 45 a λj c=>
 ah 45 k 0 λV=>
 ab c 5 V λZ=>
 ah 45 j 0 λS=>
 ab c 5 S λX=>
 vL 5 6 8 Z X λl=>
 gQ l true (au 45 k 1) λT=>
 gQ l true (an c 38 T) λU=>
 gQ l true (au 45 j 1) λz=>
 gQ l true (an c 38 z) λF=>
 gQ l true (iu 38 12 14 U F) λI=>
 cr l I λf=>
 gQ f true (au 45 k 2) λp=>
 gQ f true (an c 3 p) λR=>
 gQ f true (au 45 j 2) λn=>
 gQ f true (an c 3 n) λv=>
 gQ f true (iu 3 19 21 R v) λw=>
 cr f w λe=>
 gQ e true (au 45 k 3) λG=>
 gQ e true (an c 42 G) λo=>
 gQ e true (au 45 j 3) λP=>
 gQ e true (an c 42 P) λJ=>
 gQ e true (iu 42 26 28 o J) λO=>
 cr e O λd=>
 gQ d true (au 45 k 4) λL=>
 gQ d true (an c 40 L) λE=>
 gQ d true (au 45 j 4) λm=>
 gQ d true (an c 40 m) λB=>
 gQ d true (iu 40 33 35 E B) λu=>
 cr d u λi=>
 gQ i true (au 45 k 5) λD=>
 gQ i true (an c 36 D) λM=>
 gQ i true (au 45 j 5) λK=>
 gQ i true (an c 36 K) λy=>
 gQ i true (iu 36 40 42 M y) λC=>
 cr i C λh=>
 gQ h true (au 45 k 6) λq=>
 gQ h true (an c 43 q) λs=>
 gQ h true (au 45 j 6) λt=>
 gQ h true (an c 43 t) λN=>
 gW h true c (fB true c 50 127 [s,N]) λA W=>
 cr h A λx=>
 Q x W
theorem yC(h : ∀g:fq,dW x0 a H Q):fa Tryz.f85 0 [(0,x0),(1,a)] H Q:=kf (by kernel_rfl) h
def pt:Prop:=
 dh H 2 45 x0 λv1 H1=>
 dh H1 3 45 a λY n=>
 ab n 45 v1 λv3=>
 ab n 45 Y λv4=>
 dK n 5 45 λk H3=>
 dK H3 6 45 λl H4=>
 aM H4 45 k v3 λv7 H5=>
 aM H5 45 l v4 λv8 c=>
  qy [(Y,k)] [k,l] [] c /\
 (ah 45 k 0 λZ=>
 ab c 5 Z λE=>
 ah 45 l 0 λM=>
 ab c 5 M λO=>
 vL 5 10 12 E O λh=>
 gQ h true (au 45 k 1) λu=>
 gQ h true (an c 38 u) λX=>
 gQ h true (au 45 l 1) λo=>
 gQ h true (an c 38 o) λA=>
 gQ h true (iu 38 16 18 X A) λB=>
 cr h B λf=>
 gQ f true (au 45 k 2) λN=>
 gQ f true (an c 3 N) λt=>
 gQ f true (au 45 l 2) λW=>
 gQ f true (an c 3 W) λP=>
 gQ f true (iu 3 23 25 t P) λV=>
 cr f V λd=>
 gQ d true (au 45 k 3) λS=>
 gQ d true (an c 42 S) λL=>
 gQ d true (au 45 l 3) λm=>
 gQ d true (an c 42 m) λG=>
 gQ d true (iu 42 30 32 L G) λy=>
 cr d y λj=>
 gQ j true (au 45 k 4) λK=>
 gQ j true (an c 40 K) λT=>
 gQ j true (au 45 l 4) λR=>
 gQ j true (an c 40 R) λD=>
 gQ j true (iu 40 37 39 T D) λI=>
 cr j I λi=>
 gQ i true (au 45 k 5) λv=>
 gQ i true (an c 36 v) λw=>
 gQ i true (au 45 l 5) λx=>
 gQ i true (an c 36 x) λU=>
 gQ i true (iu 36 44 46 w U) λF=>
 cr i F λe=>
 gQ e true (au 45 k 6) λJ=>
 gQ e true (an c 43 J) λp=>
 gQ e true (au 45 l 6) λC=>
 gQ e true (an c 43 C) λz=>
 gW e true c (fB true c 54 128 [p,z]) λs H7=>
 cr e s λq=>
 Q q H7)
theorem Pb(h : ∀g:fq,pt x0 a H Q):fa Tryz.f89 0 [(0,x0),(1,a)] H Q:=kf (by kernel_rfl) h
def F4:Prop:=
 dh H 1 45 x0 λd c=>
 ah 45 d 6 λe=>
 ab c 43 e λf=>
 bh true c 5 125 [f,(.v (.int .i32 (-1)))] λj i=>
 mQ j λh=>
 Q h i
theorem MH(h : ∀g:fq,F4 x0 H Q):fa Tryz.f83 0 [(0,x0)] H Q:=kf (by kernel_rfl) h
def mc:Prop:=
 bh true H 7 160 [x0,a] λc e=>
 vN 3 7 0 c λd=>
 Q d e
theorem rY(h : ∀g:fq,mc x0 a H Q):fa Tryz.f125 0 [(0,x0),(1,a)] H Q:=kf (by kernel_rfl) h
def fY:=ta Tryz.f160 2
def nf:Nat->Option (List Nat):=λi=>cond (Nat.beq i 2) (some [8,0,1,7]) (none)
def np:Prop:=
 dg H 7 43 x0 λc=>
  cy env Tryz.f160 0 fY [(8,(.v (.int .i64 0))),(0,x0),(1,a),(7,c)] H Q
theorem tD(h : ∀g:fq,np x0 a H Q):fa Tryz.f160 0 [(0,x0),(1,a)] H Q:=uP nf (by kernel_rfl) h
def gh(g:Nat->AV)(c x0 a d:AV)(H:aa)(Q:AV->aa->Prop):Prop:=
 fC 3 8 7 c d λi=>
 br (some i) (
 dF H 43 x0 c λf=>
 ab H 21 f λh=>
 vL 21 11 15 a h λj=>
 br (some j) (
 Q c H) (
 gJ 3 8 1 c λe=>
  cy env Tryz.f160 0 fY [(8,e),(0,x0),(1,a),(7,d)] H Q)) (
 Q (.v (.int .i64 (-1))) H)
theorem mr(c x0 a d:AV)(H:aa)(Q:AV->aa->Prop)(h : ∀g,gh g c x0 a d H Q):cy env Tryz.f160 0 fY [(8,c),(0,x0),(1,a),(7,d)] H Q:=uc nf (by kernel_rfl) h
def Dg:Prop:=
 dh H 1 45 x0 λc j=>
 dK j 2 45 λh e=>
 ah 45 c 6 λp=>
 ab e 43 p λm=>
 bh true e 5 131 [m] λk n=>
 ah 45 c 6 λo=>
 aM n 43 o k λq i=>
 ab i 45 c λl=>
 aM i 45 h l λs f=>
 aZ f h 45 λd=>
 Q d f
theorem Hr(h : ∀g:fq,Dg x0 H Q):fa Tryz.f94 0 [(0,x0)] H Q:=kf (by kernel_rfl) h
def ju:Prop:=
 dK H 2 51 λh H1=>
 dK H1 3 132 λj X=>
 bh true X 11 189 [x0] λV w=>
 dg w 13 76 V λv4=>
 vM 3 13 0 v4 λW=>
 br (some W) (
 eI 51 λG=>
 eI 132 λO=>
 aM w 51 h G λA E=>
 aM E 132 j O λU t=>
 aZ t h 51 λl=>
 aZ t j 132 λe=>
 Q (.tup [l,e,(.v (.int .i64 8))]) t) (
 fD w 122 x0 0 λG=>
 ab w 76 G λO=>
 bh true w 21 130 [O] λA E=>
 ba A 0 λU=>
 ba A 1 λl=>
 dK E 6 132 λe t=>
 aM t 132 e U λv12 H6=>
 bh true H6 26 190 [V] λx Z=>
 ba x 0 λB=>
 ba x 1 λT=>
 dK Z 8 51 λi Y=>
 aM Y 51 i B λv17 s=>
 iW 3 29 0 l λk=>
 gQ k false (bX T) λM=>
 gQ k false (vK M) λJ=>
 dH k J λc=>
 gQ c false (an s 51 i) λS=>
 gQ c false (au 132 e 0) λK=>
 gQ c false (an s 3 K) λP=>
 gQ c false (au 132 e 1) λz=>
 gQ c false (an s 3 z) λN=>
 gW c false s (fB true s 41 141 [S,P,N]) λI u=>
 gQ c false (bX x0) λy=>
 gW c false u (fB true u 43 191 [I,y]) λF f=>
 gQ c false (vK F) λC=>
 dH c C λR=>
 br (some R) (
 eI 51 λn=>
 eI 132 λp=>
 aM f 51 h n λL o=>
 aM o 132 j p λD d=>
 aZ d h 51 λm=>
 aZ d j 132 λq=>
 Q (.tup [m,q,(.v (.int .i64 8))]) d) (
 ab f 51 i λn=>
 ab f 132 e λp=>
 aM f 51 h n λL o=>
 aM o 132 j p λD d=>
  qy [(e,h)] [h,j] [] d /\
 (aZ d h 51 λm=>
 aZ d j 132 λq=>
 Q (.tup [m,q,(.v (.int .i64 0))]) d)))
theorem k6(h : ∀g:fq,ju x0 H Q):fa Tryz.f162 0 [(0,x0)] H Q:=kf (by kernel_rfl) h
def kL:Prop:=
 dK H 2 132 λh c=>
 dg c 6 76 x0 λv2=>
 iW 3 6 128 v2 λv3=>
 br (some v3) (
 eI 132 λT=>
 aM c 132 h T λv5 j=>
 aZ j h 132 λG=>
 Q (.tup [G,(.v (.int .i64 8))]) j) (
 fD c 76 x0 0 λT=>
 ab c 5 T λv5=>
 dC c 12 5 3 v5 λG=>
 pM 3 16777216 12 G λv7=>
 fD c 76 x0 1 λv8=>
 ab c 5 v8 λv9=>
 dC c 17 5 3 v9 λB=>
 pM 3 65536 17 B λK=>
 jZ 3 13 18 v7 K λM=>
 fD c 76 x0 2 λS=>
 ab c 5 S λq=>
 dC c 23 5 3 q λv15=>
 pM 3 256 23 v15 λm=>
 jZ 3 19 24 M m λx=>
 fD c 76 x0 3 λy=>
 ab c 5 y λP=>
 dC c 29 5 3 P λL=>
 jZ 3 25 29 x L λp=>
 fD c 76 x0 4 λZ=>
 ab c 5 Z λN=>
 dC c 34 5 3 N λX=>
 pM 3 65536 34 X λl=>
 fD c 76 x0 5 λR=>
 ab c 5 R λJ=>
 dC c 39 5 3 J λk=>
 pM 3 256 39 k λD=>
 jZ 3 35 40 l D λw=>
 fD c 76 x0 6 λY=>
 ab c 5 Y λI=>
 dC c 45 5 3 I λV=>
 jZ 3 41 45 w V λO=>
 fD c 76 x0 7 λA=>
 ab c 5 A λE=>
 dC c 50 5 3 E λU=>
 fD c 76 x0 8 λs=>
 ab c 5 s λt=>
 dC c 54 5 3 t λu=>
 Fq 132 0 p 1 O 2 U 3 u λW=>
 dK c 4 132 λf j=>
 aM j 132 f W λv43 H3=>
 ab H3 132 f λF=>
 bh true H3 57 164 [F] λn C=>
 mQ n λz=>
 br (some z) (
 eI 132 λe=>
 aM C 132 h e λo i=>
 aZ i h 132 λd=>
 Q (.tup [d,(.v (.int .i64 8))]) i) (
 ab C 132 f λe=>
 aM C 132 h e λo i=>
 aZ i h 132 λd=>
 Q (.tup [d,(.v (.int .i64 0))]) i))
theorem m8(h : ∀g:fq,kL x0 H Q):fa Tryz.f130 0 [(0,x0)] H Q:=kf (by kernel_rfl) h
def bm:Prop:=
 dh H 1 51 x0 λf q=>
 ah 51 f 0 λK=>
 ab q 5 K λL=>
 xX 5 4 L λM=>
 br (some M) (
 ah 51 f 2 λE=>
 ab q 45 E λJ=>
 bh true q 8 95 [J] λD o=>
 gQ D true (au 51 f 2) λF=>
 gQ D true (au 45 F 1) λG=>
 gQ D true (an o 38 G) λA=>
 gW D true o (fB true o 13 96 [A]) λt p=>
 cr D t λm=>
 gQ m true (au 51 f 1) λc=>
 gQ m true (an p 3 c) λs=>
 gQ m true (oh 3 17 0 s) λy=>
 cr m y λh=>
 gQ h true (au 51 f 1) λj=>
 gQ h true (an p 3 j) λk=>
 gQ h true (AA 3 22 255 k) λw=>
 cr h w λl=>
 gQ l true (au 51 f 3) λi=>
 gQ l true (an p 30 i) λn=>
 gQ l true (wP 30 27 0 n) λu=>
 cr l u λe=>
 gQ e true (au 51 f 4) λd=>
 gQ e true (an p 49 d) λx=>
 gQ e true (KK 49) λC=>
 gQ e true (iu 49 32 33 x C) λz=>
 cr e z λB=>
 Q B p) (
 ah 51 f 1 λE=>
 ab q 3 E λJ=>
 iW 3 37 0 J λD=>
 br (some D) (
 Q (.v (.bool false)) q) (
 ah 51 f 0 λF=>
 ab q 5 F λG=>
 GH 5 40 G λA=>
 br (some A) (
 ah 51 f 2 λt=>
 ab q 45 t λm=>
 bh true q 44 97 [m] λc o=>
 gQ c true (au 51 f 2) λs=>
 gQ c true (an o 45 s) λy=>
 gW c true o (fB true o 48 98 [y]) λh p=>
 cr c h λj=>
 gQ j true (au 51 f 3) λk=>
 gQ j true (an p 30 k) λw=>
 gQ j true (oh 30 52 0 w) λl=>
 cr j l λi=>
 gQ i true (au 51 f 3) λn=>
 gQ i true (an p 30 n) λu=>
 gQ i true (wR 30 57 65536 u) λe=>
 cr i e λd=>
 gQ d true (au 51 f 4) λx=>
 gQ d true (an p 49 x) λC=>
 gQ d true (KK 49) λz=>
 gQ d true (iu 49 62 63 C z) λB=>
 cr d B λI=>
 Q I p) (
 ah 51 f 0 λt=>
 ab q 5 t λm=>
 Ac 5 67 m λc=>
 gQ c true (au 51 f 2) λs=>
 gQ c true (an q 45 s) λy=>
 gQ c true (KK 45) λh=>
 gW c true q (fB true q 73 85 [y,h]) λj o=>
 cr c j λk=>
 gQ k true (au 51 f 3) λw=>
 gQ k true (an o 30 w) λl=>
 gQ k true (wP 30 77 0 l) λi=>
 cr k i λn=>
 gQ n true (au 51 f 4) λu=>
 gQ n true (an o 49 u) λe=>
 gW n true o (fB true o 83 99 [e]) λd p=>
 cr n d λx=>
 Q x p)))
theorem zy(h : ∀g:fq,bm x0 H Q):fa Tryz.f64 0 [(0,x0)] H Q:=kf (by kernel_rfl) h
def py:Prop:=
 dh H 1 132 x0 λi d=>
 ah 132 i 0 λJ=>
 ab d 3 J λL=>
 vN 3 4 1 L λl=>
 gQ l true (au 132 i 0) λI=>
 gQ l true (an d 3 I) λM=>
 gQ l true (wR 3 8 2147483648 M) λN=>
 cr l N λk=>
 gQ k true (au 132 i 1) λK=>
 gQ k true (an d 3 K) λt=>
 gQ k true (oh 3 13 1 t) λx=>
 cr k x λh=>
 gQ h true (au 132 i 1) λC=>
 gQ h true (an d 3 C) λo=>
 gQ h true (wR 3 18 16777216 o) λG=>
 cr h G λe=>
 gQ e true (au 132 i 3) λq=>
 gQ e true (an d 3 q) λs=>
 gQ e true (oh 3 23 1 s) λA=>
 cr e A λf=>
 gQ f true (au 132 i 3) λn=>
 gQ f true (an d 3 n) λF=>
 gQ f true (AA 3 28 4 F) λy=>
 cr f y λj=>
 gQ j true (au 132 i 2) λm=>
 gQ j true (an d 3 m) λB=>
 gQ j true (oh 3 33 0 B) λw=>
 cr j w λc=>
 gQ c true (au 132 i 2) λu=>
 gQ c true (an d 3 u) λp=>
 gQ c true (au 132 i 3) λE=>
 gQ c true (an d 3 E) λv=>
 gQ c true (QI 3 38 40 p v) λD=>
 cr c D λz=>
 Q z d
theorem vT(h : ∀g:fq,py x0 H Q):fa Tryz.f164 0 [(0,x0)] H Q:=kf (by kernel_rfl) h
def nB:Prop:=
 dh H 1 51 x0 λh d=>
 ab d 51 h λk=>
 bh true d 6 100 [k] λm c=>
 dg c 7 76 m λf=>
 sd 3 8 119 f λe=>
 oL 3 10 119 f λl=>
 Ad 3 11 0 l λi=>
 br (some i) (
 gJ 3 13 1 e λj=>
 Q j c) (
 Q e c)
theorem yy(h : ∀g:fq,nB x0 H Q):fa Tryz.f65 0 [(0,x0)] H Q:=kf (by kernel_rfl) h
def iQ:=ta Tryz.f141 4
def pY:Nat->Option (List Nat):=λi=>cond (Nat.beq i 4) (some [9,3,2,1,8,7]) (none)
def qj:Prop:=
 dh H 3 51 x0 λc d=>
 ab d 51 c λe=>
 bh true d 12 100 [e] λf h=>
  cy env Tryz.f141 0 iQ [(9,(.v (.int .i64 0))),(3,c),(2,b),(1,a),(8,(.v (.slice none 0 0))),(7,f)] h Q
theorem wJ(h : ∀g:fq,qj x0 a b H Q):fa Tryz.f141 0 [(0,x0),(1,a),(2,b)] H Q:=uP pY (by kernel_rfl) h
def iT(g:Nat->AV)(x9 h b a n l:AV)(H:aa)(Q:AV->aa->Prop):Prop:=
 ab H 51 h λz=>
 bh true H 15 65 [z] λs c=>
 fC 3 13 15 x9 s λu=>
 br (some u) (
 Ms 3 20 119 x9 λB=>
 dg c 23 76 l λo=>
 gJ 3 24 1 x9 λy=>
 Ms 3 25 119 y λA=>
 fO (eD env.P false (aa.get c) (Ref.mk 0 27 (aa.gen c 0 27) 0) .min #[3,3] [o,A]) λq=>
 fO (dx env.P (aa.get c) 76 (some l) (oi B) (oi q) (some none)) λt=>
 ab c 51 h λf=>
 bh true c 34 65 [f] λi p=>
 Fq 132 0 a 1 b 2 x9 3 i λj=>
 bh true p 37 169 [j,t] λk w=>
 qB w 38 122 1 0 k λe x=>
 dI x 39 122 122 n e λm v=>
 gJ 3 17 1 x9 λd=>
  cy env Tryz.f141 0 iQ [(9,d),(3,h),(2,b),(1,a),(8,m),(7,l)] v Q) (
 Q n c)
theorem oP(x9 c b a e d:AV)(H:aa)(Q:AV->aa->Prop)(h : ∀g,iT g x9 c b a e d H Q):cy env Tryz.f141 0 iQ [(9,x9),(3,c),(2,b),(1,a),(8,e),(7,d)] H Q:=uc pY (by kernel_rfl) h
def jL:=ta Tryz.f189 3
def rK:Nat->Option (List Nat):=λi=>cond (Nat.beq i 3) (some [4,0,3]) (none)
def rS:Prop:=
 cy env Tryz.f189 0 jL [(4,(.v (.int .i64 0))),(0,x0),(3,(.v (.slice none 0 0)))] H Q
theorem yu(h : ∀g:fq,rS x0 H Q):fa Tryz.f189 0 [(0,x0)] H Q:=uP rK (by kernel_rfl) h
def gU(g:Nat->AV)(x4 x0 e:AV)(H:aa)(Q:AV->aa->Prop):Prop:=
 dg H 7 122 x0 λm=>
 fC 3 5 7 x4 m λi=>
 br (some i) (
 dF H 122 x0 x4 λl=>
 ab H 76 l λp=>
 dg H 15 76 p λf=>
 iW 3 15 128 f λj=>
 br (some j) (
 Q (.v (.slice none 0 0)) H) (
 dF H 122 x0 x4 λo=>
 ab H 76 o λh=>
 fO (dx env.P (aa.get H) 76 (some h) (oi (.v (.int .i64 9))) (some none) (some none)) λk=>
 dI H 23 76 76 e k λd n=>
 gJ 3 9 1 x4 λc=>
  cy env Tryz.f189 0 jL [(4,c),(0,x0),(3,d)] n Q)) (
 Q e H)
theorem md(x4 x0 c:AV)(H:aa)(Q:AV->aa->Prop)(h : ∀g,gU g x4 x0 c H Q):cy env Tryz.f189 0 jL [(4,x4),(0,x0),(3,c)] H Q:=uc rK (by kernel_rfl) h
def eX:Prop:=
 dK H 2 51 λy T=>
 dK T 4 51 λl G=>
 fD G 76 x0 0 λS=>
 ab G 5 S λV=>
 ah 51 l 0 λO=>
 aM G 5 O V λX d=>
 fD d 76 x0 0 λU=>
 ab d 5 U λI=>
 xX 5 12 I λR=>
 br (some R) (
 Z5 d 76 x0 λB=>
 bh true d 18 199 [B] λo x=>
 ba o 0 λh=>
 ba o 1 λc=>
 ah 51 l 2 λe=>
 ah 45 e 1 λk=>
 aM x 38 k h λn m=>
 fD m 76 x0 7 λq=>
 ab m 5 q λf=>
 dC m 26 5 3 f λi=>
 ah 51 l 1 λu=>
 aM m 3 u i λt s=>
 ab s 51 l λj=>
 vM 3 59 0 c λp=>
 gQ p true (an s 51 l) λw=>
 gW p true s (fB false s 63 64 [w]) λA E=>
 cr p A λD=>
 aM E 51 y j λL F=>
 aZ F y 51 λz=>
 Q (.tup [z,D]) F) (
 GH 5 12 I λB=>
 br (some B) (
 fD d 76 x0 1 λo=>
 ab d 5 o λh=>
 dC d 33 5 3 h λc=>
 pM 3 256 33 c λe=>
 fD d 76 x0 2 λk=>
 ab d 5 k λn=>
 dC d 38 5 3 n λq=>
 jZ 3 34 38 e q λf=>
 ah 51 l 3 λi=>
 aM d 30 i f λu x=>
 fO (dx env.P (aa.get x) 76 (some x0) (oi (.v (.int .i64 3))) (some none) (some none)) λt=>
 bh true x 44 200 [t] λj m=>
 ba j 0 λp=>
 ba j 1 λw=>
 ba j 2 λA=>
 ah 51 l 2 λD=>
 aM m 45 D p λL s=>
 ab s 51 l λz=>
 vM 3 59 0 A λC=>
 gQ C true (an s 51 l) λJ=>
 gW C true s (fB false s 63 64 [J]) λN E=>
 cr C N λK=>
 aM E 51 y z λW F=>
 aZ F y 51 λM=>
 Q (.tup [M,K]) F) (
 Ac 5 12 I λo=>
 br (some o) (
 fO (dx env.P (aa.get d) 76 (some x0) (oi (.v (.int .i64 1))) (oi (.v (.int .i64 8))) (some none)) λh=>
 bh true d 54 201 [h] λc x=>
 ba c 0 λe=>
 ba c 1 λk=>
 ah 51 l 4 λn=>
 aM x 49 n e λq m=>
 ab m 51 l λf=>
 vM 3 59 0 k λi=>
 gQ i true (an m 51 l) λu=>
 gW i true m (fB false m 63 64 [u]) λt s=>
 cr i t λj=>
 aM s 51 y f λp E=>
 aZ E y 51 λw=>
 Q (.tup [w,j]) E) (
 ab d 51 l λh=>
 fO (bZ env.P .eql 3 (Operand.tmp 59) (Operand.const (Value.int IntKind.i64 0)) (some (AV.v (Value.int IntKind.i64 8))) (some (AV.v (Value.int IntKind.i64 0)))) λc=>
 gQ c true (an d 51 l) λe=>
 gW c true d (fB false d 63 64 [e]) λk x=>
 cr c k λn=>
 aM x 51 y h λq m=>
 aZ m y 51 λf=>
 Q (.tup [f,n]) m)))
theorem iC(h : ∀g:fq,eX x0 H Q):fa Tryz.f190 0 [(0,x0)] H Q:=kf (by kernel_rfl) h
def gy:=ta Tryz.f191 4
def nQ:Nat->Option (List Nat):=λi=>cond (Nat.beq i 4) (some [5,1,0]) (none)
def kC:Prop:=
 dg H 7 122 x0 λc=>
 dg H 9 122 a λd=>
 xV 3 7 9 c d λe=>
 br (some e) (
 Q (.v (.bool false)) H) (
  cy env Tryz.f191 0 gy [(5,(.v (.int .i64 0))),(1,a),(0,x0)] H Q)
theorem nN(h : ∀g:fq,kC x0 a H Q):fa Tryz.f191 0 [(0,x0),(1,a)] H Q:=uP nQ (by kernel_rfl) h
def gz(g:Nat->AV)(x5 a x0:AV)(H:aa)(Q:AV->aa->Prop):Prop:=
 dg H 13 122 x0 λk=>
 fC 3 11 13 x5 k λf=>
 br (some f) (
 dF H 122 x0 x5 λj=>
 ab H 76 j λm=>
 dC H 21 76 9 m λd=>
 dF H 122 a x5 λh=>
 ab H 76 h λl=>
 dC H 26 76 9 l λe=>
 xV 9 21 26 d e λi=>
 br (some i) (
 Q (.v (.bool false)) H) (
 gJ 3 15 1 x5 λc=>
  cy env Tryz.f191 0 gy [(5,c),(1,a),(0,x0)] H Q)) (
 Q (.v (.bool true)) H)
theorem jz(x5 a x0:AV)(H:aa)(Q:AV->aa->Prop)(h : ∀g,gz g x5 a x0 H Q):cy env Tryz.f191 0 gy [(5,x5),(1,a),(0,x0)] H Q:=uc nQ (by kernel_rfl) h
def rT:Prop:=
 dh H 1 45 x0 λc e=>
 eI 38 λj=>
 ah 45 c 1 λl=>
 aM e 38 l j λm d=>
 ab d 45 c λf=>
 eI 45 λk=>
 bh true d 7 85 [f,k] λh i=>
 Q h i
theorem yv(h : ∀g:fq,rT x0 H Q):fa Tryz.f95 0 [(0,x0)] H Q:=kf (by kernel_rfl) h
def oc:Prop:=
 dh H 1 49 x0 λf c=>
 ah 49 f 0 λn=>
 ab c 3 n λq=>
 vN 3 4 0 q λe=>
 gQ e true (au 49 f 0) λk=>
 gQ e true (an c 3 k) λo=>
 gQ e true (wR 3 8 8 o) λm=>
 cr e m λd=>
 gQ d true (au 49 f 1) λp=>
 gQ d true (an c 47 p) λh=>
 gW d true c (fB true c 14 137 [h]) λi l=>
 cr d i λj=>
 Q j l
theorem zC(h : ∀g:fq,oc x0 H Q):fa Tryz.f99 0 [(0,x0)] H Q:=kf (by kernel_rfl) h
def ke:Prop:=
 dh H 1 51 x0 λi C=>
 ah 51 i 0 λE=>
 ab C 5 E λG=>
 qB C 6 76 1 0 G λz c=>
 ah 51 i 0 λD=>
 ab c 5 D λF=>
 xX 5 8 F λI=>
 br (some I) (
 ah 51 i 2 λp=>
 ah 45 p 1 λq=>
 ab c 38 q λm=>
 bh true c 14 138 [m] λe o=>
 dI o 15 76 76 z e λf j=>
 ah 51 i 1 λh=>
 ab j 3 h λd=>
 dC j 19 3 5 d λn=>
 qB j 20 76 1 0 n λk x=>
 dI x 21 76 76 f k λl w=>
 Q l w) (
 ah 51 i 0 λp=>
 ab c 5 p λq=>
 GH 5 23 q λm=>
 br (some m) (
 ah 51 i 3 λe=>
 ab c 30 e λf=>
 sd 3 27 256 f λh=>
 dC c 29 3 5 h λd=>
 ah 51 i 3 λn=>
 ab c 30 n λk=>
 oL 3 31 256 k λl=>
 dC c 33 3 5 l λy=>
 kA (lI env.P false true c (Ref.mk 0 34 (aa.gen c 0 34) 0) 76 2 (some [(0,d),(1,y)])) λv o=>
 dI o 35 76 76 z v λt j=>
 ah 51 i 2 λs=>
 ab j 45 s λB=>
 bh true j 39 139 [B] λu x=>
 dI x 40 76 76 t u λA w=>
 Q A w) (
 ah 51 i 4 λe=>
 ab c 49 e λf=>
 bh true c 44 140 [f] λh o=>
 dI o 45 76 76 z h λd j=>
 Q d j))
theorem mE(h : ∀g:fq,ke x0 H Q):fa Tryz.f100 0 [(0,x0)] H Q:=kf (by kernel_rfl) h
def sU:Prop:=
 dh H 2 132 x0 λd e=>
 ah 132 d 0 λX=>
 ab e 3 X λZ=>
 sd 3 7 16777216 Z λv4=>
 dC e 9 3 5 v4 λV=>
 ah 132 d 0 λv6=>
 ab e 3 v6 λv7=>
 sd 3 11 65536 v7 λW=>
 oL 3 12 256 W λY=>
 dC e 14 3 5 Y λw=>
 ah 132 d 0 λC=>
 ab e 3 C λE=>
 sd 3 16 256 E λK=>
 oL 3 17 256 K λm=>
 dC e 19 3 5 m λT=>
 ah 132 d 0 λj=>
 ab e 3 j λs=>
 oL 3 21 256 s λt=>
 dC e 23 3 5 t λI=>
 QO e 24 76 4 0 V 1 w 2 T 3 I λD c=>
 ah 132 d 1 λl=>
 ab c 3 l λS=>
 sd 3 27 65536 S λF=>
 dC c 29 3 5 F λO=>
 ah 132 d 1 λi=>
 ab c 3 i λJ=>
 sd 3 31 256 J λB=>
 oL 3 32 256 B λh=>
 dC c 34 3 5 h λx=>
 ah 132 d 1 λq=>
 ab c 3 q λR=>
 oL 3 36 256 R λA=>
 dC c 38 3 5 A λM=>
 ah 132 d 2 λG=>
 ab c 3 G λv=>
 dC c 41 3 5 v λy=>
 ah 132 d 3 λL=>
 ab c 3 L λn=>
 dC c 44 3 5 n λo=>
 kA (lI env.P false true c (Ref.mk 0 45 (aa.gen c 0 45) 0) 76 5 (some [(0,O),(1,x),(2,M),(3,y),(4,o)])) λp H3=>
 dI H3 46 76 76 D p λN H4=>
 dI H4 49 76 76 N a λf U=>
 dg U 52 76 f λu=>
 QT 3 128 52 u λz=>
 dI U 54 76 3 f z λk H6=>
 Q k H6
theorem zx(h : ∀g:fq,sU x0 a H Q):fa Tryz.f169 0 [(0,x0),(1,a)] H Q:=kf (by kernel_rfl) h
def kP:Prop:=
 dK H 2 38 λh i=>
 dg i 6 76 x0 λz=>
 iW 3 6 6 z λC=>
 br (some C) (
 eI 38 λs=>
 aM i 38 h s λw c=>
 aZ c h 38 λl=>
 Q (.tup [l,(.v (.int .i64 8))]) c) (
 fD i 76 x0 0 λs=>
 ab i 5 s λw=>
 QR i 76 x0 λl=>
 bh false i 14 204 [l] λD c=>
 dC c 15 3 34 D λy=>
 ur 36 0 w 1 y λA=>
 fD c 76 x0 5 λt=>
 ab c 5 t λm=>
 ur 38 0 A 1 m λn=>
 dK c 4 38 λf E=>
 aM E 38 f n λB x=>
 ab x 38 f λu=>
 bh true x 22 96 [u] λk q=>
 mQ k λo=>
 br (some o) (
 eI 38 λe=>
 aM q 38 h e λp j=>
 aZ j h 38 λd=>
 Q (.tup [d,(.v (.int .i64 8))]) j) (
 ab q 38 f λe=>
 aM q 38 h e λp j=>
 aZ j h 38 λd=>
 Q (.tup [d,(.v (.int .i64 0))]) j))
theorem uS(h : ∀g:fq,kP x0 H Q):fa Tryz.f199 0 [(0,x0)] H Q:=kf (by kernel_rfl) h
def mH:=ta Tryz.f201 5
def sy:Nat->Option (List Nat):=λi=>cond (Nat.beq i 5) (some [5,0,4,2]) (none)
def ly:Prop:=
 dK H 2 49 λe c=>
 dg c 8 76 x0 λm=>
 iW 3 8 7 m λd=>
 gQ d false (bX x0) λl=>
 gQ d false (cb env.P (aa.get c) 76 (some l) (some (AV.v (Value.int IntKind.i64 1)))) λi=>
 gQ d false (an c 5 i) λn=>
 gQ d false (bZ env.P .gtr 5 (Operand.tmp 13) (.const (.int .u8 1)) (some n) (some (a8 1))) λj=>
 dH d j λk=>
 br (some k) (
 eI 49 λo=>
 aM c 49 e o λp h=>
 aZ h e 49 λf=>
 Q (.tup [f,(.v (.int .i64 8))]) h) (
  cy env Tryz.f201 0 mH [(5,(.v (.int .i64 3))),(0,x0),(4,(.v (.int .i64 0))),(2,e)] c Q)
theorem zD(h : ∀g:fq,ly x0 H Q):fa Tryz.f201 0 [(0,x0)] H Q:=uP sy (by kernel_rfl) h
def cg(g:Nat->AV)(x5 x0 x4 b:AV)(H:aa)(Q:AV->aa->Prop):Prop:=
 om 3 17 7 x5 λB=>
 br (some B) (
 pM 3 256 21 x4 λj=>
 dF H 76 x0 x5 λk=>
 ab H 5 k λx=>
 dC H 27 5 3 x λh=>
 jZ 3 22 27 j h λp=>
 gJ 3 19 1 x5 λu=>
  cy env Tryz.f201 0 mH [(5,u),(0,x0),(4,p),(2,b)] H Q) (
 fD H 76 x0 0 λj=>
 ab H 5 j λk=>
 dC H 32 5 3 k λx=>
 fD H 76 x0 2 λh=>
 ab H 5 h λp=>
 dC H 37 3 34 x4 λu=>
 ur 36 0 p 1 u λz=>
 fD H 76 x0 1 λA=>
 ab H 5 A λo=>
 xX 5 41 o λq=>
 ur 47 0 z 1 q λt=>
 ur 49 0 x 1 t λw=>
 dK H 6 49 λd C=>
 aM C 49 d w λD y=>
 ab y 49 d λi=>
 bh true y 46 99 [i] λl n=>
 mQ l λm=>
 br (some m) (
 eI 49 λe=>
 aM n 49 b e λs f=>
 aZ f b 49 λc=>
 Q (.tup [c,(.v (.int .i64 8))]) f) (
 ab n 49 d λe=>
 aM n 49 b e λs f=>
 aZ f b 49 λc=>
 Q (.tup [c,(.v (.int .i64 0))]) f))
theorem cG(x5 x0 x4 b:AV)(H:aa)(Q:AV->aa->Prop)(h : ∀g,cg g x5 x0 x4 b H Q):cy env Tryz.f201 0 mH [(5,x5),(0,x0),(4,x4),(2,b)] H Q:=uc sy (by kernel_rfl) h
def gl:Prop:=
 dh H 1 47 x0 λe l=>
 ah 47 e 0 λo=>
 ab l 36 o λs=>
 bh true l 5 132 [s] λd f=>
 gQ d true (au 47 e 1) λm=>
 gQ d true (an f 4 m) λp=>
 gQ d true (bX p) λc=>
 gQ c false (au 47 e 0) λn=>
 gQ c false (an f 36 n) λq=>
 gQ c false (KK 36) λi=>
 gQ c false (iu 36 11 12 q i) λj=>
 gQ d true (JT c j) λk=>
 cr d k λh=>
 Q h f
theorem vo(h : ∀g:fq,gl x0 H Q):fa Tryz.f137 0 [(0,x0)] H Q:=kf (by kernel_rfl) h
def mO:Prop:=
 dh H 1 49 x0 λl m=>
 ah 49 l 0 λu=>
 ab m 3 u λw=>
 dC m 6 3 5 w λz=>
 kA (lI env.P false true m (Ref.mk 0 7 (aa.gen m 0 7) 0) 76 2 (some [(0,z),(1,(a8 0))])) λo i=>
 ah 49 l 1 λv=>
 ah 47 v 1 λy=>
 ab i 4 y λt=>
 br (some t) (
 fD i 76 o 1 λq=>
 kA (kn env.P i 5 (some q) (some (a8 1))) λk j=>
 ah 49 l 1 λd=>
 ah 47 d 0 λe=>
 ab j 36 e λf=>
 wO 38 0 f λc=>
 bh true j 18 138 [c] λh n=>
 JU n 76 h λp=>
 dI n 20 76 76 o p λs x=>
 Q s x) (
 ah 49 l 1 λq=>
 ah 47 q 0 λk=>
 ab i 36 k λd=>
 wO 38 0 d λe=>
 bh true i 18 138 [e] λf j=>
 JU j 76 f λc=>
 dI j 20 76 76 o c λh n=>
 Q h n)
theorem xB(h : ∀g:fq,mO x0 H Q):fa Tryz.f140 0 [(0,x0)] H Q:=kf (by kernel_rfl) h
def iR:=ta Tryz.f204 3
def qe:Nat->Option (List Nat):=λi=>cond (Nat.beq i 3) (some [4,0,3]) (none)
def qn:Prop:=
 cy env Tryz.f204 0 iR [(4,(.v (.int .i64 0))),(0,x0),(3,(.v (.int .i64 0)))] H Q
theorem wL(h : ∀g:fq,qn x0 H Q):fa Tryz.f204 0 [(0,x0)] H Q:=uP qe (by kernel_rfl) h
def lz(g:Nat->AV)(x4 x0 c:AV)(H:aa)(Q:AV->aa->Prop):Prop:=
 dg H 7 76 x0 λj=>
 fC 3 5 7 x4 j λf=>
 br (some f) (
 pM 3 256 11 c λi=>
 dF H 76 x0 x4 λl=>
 ab H 5 l λd=>
 dC H 17 5 3 d λh=>
 jZ 3 12 17 i h λk=>
 gJ 3 9 1 x4 λe=>
  cy env Tryz.f204 0 iR [(4,e),(0,x0),(3,k)] H Q) (
 Q c H)
theorem oQ(x4 x0 c:AV)(H:aa)(Q:AV->aa->Prop)(h : ∀g,lz g x4 x0 c H Q):cy env Tryz.f204 0 iR [(4,x4),(0,x0),(3,c)] H Q:=uc qe (by kernel_rfl) h
def rU:Prop:=
 dh H 1 51 x0 λc j=>
 dK j 2 51 λh e=>
 ah 51 c 2 λp=>
 ab e 45 p λm=>
 bh true e 5 90 [m] λk n=>
 ah 51 c 2 λo=>
 aM n 45 o k λq i=>
 ab i 51 c λl=>
 aM i 51 h l λs f=>
 aZ f h 51 λd=>
 Q d f
theorem yw(h : ∀g:fq,rU x0 H Q):fa Tryz.f56 0 [(0,x0)] H Q:=kf (by kernel_rfl) h
def Br:Prop:=
 dh H 1 51 x0 λc j=>
 dK j 2 51 λh e=>
 ah 51 c 2 λp=>
 ab e 45 p λm=>
 bh true e 5 94 [m] λk n=>
 ah 51 c 2 λo=>
 aM n 45 o k λq i=>
 ab i 51 c λl=>
 aM i 51 h l λs f=>
 aZ f h 51 λd=>
 Q d f
theorem Ho(h : ∀g:fq,Br x0 H Q):fa Tryz.f62 0 [(0,x0)] H Q:=kf (by kernel_rfl) h
end
section
variable(dep:Nat)(g:Nat->AV)(x0 b c a:AV)(H:aa)(Q:AV->aa->Prop)
def j6:=ta Tryz.f92 3
def sw:Nat->Option (List Nat):=λi=>cond (Nat.beq i 3) (some [11,10,2,1,4,3]) (none)
def sR:Prop:=
 dh H 4 24 x0 λd e=>
  cy env Tryz.f92 0 j6 [(11,(.v (.int .i64 0))),(10,(.v (.slice none 0 0))),(2,c),(1,b),(4,d),(3,a)] e Q
theorem zr(h : ∀g:fq,sR x0 b c a H Q):fa Tryz.f92 0 [(0,x0),(1,b),(2,c),(3,a)] H Q:=uP sw (by kernel_rfl) h
def df(g:Nat->AV)(x11 x10 c b x4 a:AV)(H:aa)(Q:AV->aa->Prop):Prop:=
 dg H 15 25 x10 λx=>
 fC 3 15 16 x a λq=>
 br (some q) (
 ab H 24 x4 λs=>
 dg H 24 25 x10 λz=>
 jZ 3 22 24 c z λn=>
 gJ 3 25 1 n λv=>
 bh true H 27 129 [s,b,x11,v] λm y=>
 ba m 0 λp=>
 ba m 1 λl=>
 dK y 12 51 λd o=>
 aM o 51 d p λw h=>
 vM 3 30 0 l λi=>
 br (some i) (
 Q (.tup [x10,x11]) h) (
 ab h 51 d λj=>
 qB h 36 25 1 0 j λf u=>
 dI u 37 25 25 x10 f λk t=>
 jZ 3 38 39 x11 l λe=>
  cy env Tryz.f92 0 j6 [(11,e),(10,k),(2,c),(1,b),(4,x4),(3,a)] t Q)) (
 Q (.tup [x10,x11]) H)
theorem xw(x11 x10 c b x4 a:AV)(H:aa)(Q:AV->aa->Prop)(h : ∀g,df g x11 x10 c b x4 a H Q):cy env Tryz.f92 0 j6 [(11,x11),(10,x10),(2,c),(1,b),(4,x4),(3,a)] H Q:=uc sw (by kernel_rfl) h
def mi:Prop:=
 dh H 1 24 x0 λt z=>
 dK z 2 27 λi s=>
 ab s 24 t λx=>
 bh true s 6 143 [x,(.v (.int .i64 0))] λC D=>
 dK D 3 27 λj F=>
 aM F 27 j C λG u=>
 ab u 24 t λB=>
 bh true u 8 143 [B,(.v (.int .i64 1))] λw A=>
 dK A 4 27 λk y=>
 aM y 27 k w λE f=>
 ah 27 j 0 λm=>
 ab f 3 m λn=>
 ah 27 k 0 λp=>
 ab f 3 p λl=>
 Mp 3 10 12 n l λq=>
 br (some q) (
 ab f 27 j λd=>
 aM f 27 i d λo h=>
 aZ h i 27 λe=>
 Q e h) (
 ab f 27 k λd=>
 aM f 27 i d λo h=>
 aZ h i 27 λe=>
 Q e h)
theorem wH(h : ∀g:fq,mi x0 H Q):fa Tryz.f103 0 [(0,x0)] H Q:=kf (by kernel_rfl) h
def mh:Prop:=
 dh H 1 24 x0 λy D=>
 dK D 3 27 λf x=>
 ab x 24 y λC=>
 bh true x 9 103 [C] λF G=>
 dK G 5 27 λe J=>
 aM J 27 e F λK k=>
 ab k 24 y λE=>
 ah 27 e 0 λz=>
 ab k 3 z λB=>
 oL 3 13 2 B λw=>
 Mr 3 1 14 w λm=>
 ah 27 e 1 λp=>
 ab k 3 p λu=>
 bh true k 18 92 [E,m,(.v (.int .i64 0)),u] λh j=>
 ba h 0 λd=>
 ba h 1 λA=>
 ab j 27 e λq=>
 dg j 24 25 d λt=>
 ah 27 e 1 λi=>
 ab j 3 i λn=>
 vL 3 24 26 t n λl=>
 aM j 27 f q λI o=>
  qy [(d,f),(i,f)] [f] [] o /\
 (aZ o f 27 λs=>
 Q (.tup [d,s,l]) o)
theorem wG(h : ∀g:fq,mh x0 H Q):fa Tryz.f91 0 [(0,x0)] H Q:=kf (by kernel_rfl) h
def jk:=ta Tryz.f129 2
def qG:Nat->Option (List Nat):=λi=>cond (Nat.beq i 2) (some [8,10,3,2,1,4]) (none)
def qU:Prop:=
 dh H 4 24 x0 λd h=>
 dK h 8 51 λe f=>
  cy env Tryz.f129 0 jk [(8,e),(10,(.v (.int .i64 1))),(3,a),(2,c),(1,b),(4,d)] f Q
theorem xv(h : ∀g:fq,qU x0 b c a H Q):fa Tryz.f129 0 [(0,x0),(1,b),(2,c),(3,a)] H Q:=uP qG (by kernel_rfl) h
def eW(g:Nat->AV)(i x10 a c b x4:AV)(H:aa)(Q:AV->aa->Prop):Prop:=
 fO (bZ env.P .leq 3 (Operand.tmp 14) (Operand.const (Value.int IntKind.i64 4)) (some x10) (some (AV.v (Value.int IntKind.i64 4)))) λj=>
 gQ j true (bX c) λE=>
 gQ j true (bX x10) λF=>
 gQ j true (OO 3 17 18 E F) λL=>
 gQ j true (AA 3 19 2048 L) λB=>
 cr j B λK=>
 br (some K) (
 ab H 24 x4 λx=>
 bh true H 29 163 [x,b,c,x10] λz m=>
 bh true m 30 162 [z] λf C=>
 ba f 0 λq=>
 ba f 1 λs=>
 ba f 2 λu=>
 dK C 11 51 λk I=>
 dK I 12 132 λh J=>
 aM J 51 k q λN G=>
 aM G 132 h s λD l=>
 vM 3 34 0 u λd=>
 gQ d true (au 132 h 1) λp=>
 gQ d true (an l 3 p) λw=>
 gQ d true (bX a) λt=>
 gQ d true (iu 3 38 39 w t) λo=>
 cr d o λy=>
 br (some y) (
 ab l 51 k λe=>
 aM l 51 i e λM A=>
 aZ A i 51 λn=>
 Q (.tup [n,x10]) A) (
 gJ 3 22 1 x10 λe=>
  cy env Tryz.f129 0 jk [(8,i),(10,e),(3,a),(2,c),(1,b),(4,x4)] l Q)) (
 eI 51 λx=>
 aM H 51 i x λz m=>
 aZ m i 51 λf=>
 Q (.tup [f,(.v (.int .i64 0))]) m)
theorem gC(d x10 a c b x4:AV)(H:aa)(Q:AV->aa->Prop)(h : ∀g,eW g d x10 a c b x4 H Q):cy env Tryz.f129 0 jk [(8,d),(10,x10),(3,a),(2,c),(1,b),(4,x4)] H Q:=uc qG (by kernel_rfl) h
def ic:Prop:=
 dh H 2 24 x0 λV W=>
 dK W 4 27 λn K=>
 ab K 24 V λP=>
 Mr 3 6144 8 b λY=>
 bh true K 10 171 [P,Y] λp L=>
 QR L 76 p λT=>
 bh false L 13 172 [T] λX M=>
 Z4 M 76 p λN=>
 bh false M 16 172 [N] λO S=>
 ur 27 0 X 1 O λx=>
 dK S 6 27 λe R=>
 aM R 27 e x λU k=>
 ah 27 e 0 λF=>
 ab k 3 F λt=>
 om 3 19 1 t λh=>
 gQ h false (au 27 e 0) λq=>
 gQ h false (an k 3 q) λv=>
 gQ h false (oh 3 23 2147483648 v) λw=>
 dH h w λf=>
 gQ f false (au 27 e 0) λB=>
 gQ f false (an k 3 B) λs=>
 gQ f false (aad 3 28 2 s) λJ=>
 gQ f false (bX b) λC=>
 gQ f false (Ca 3 29 30 J C) λG=>
 dH f G λd=>
 gQ d false (an k 27 e) λE=>
 gW d false k (fB false k 35 144 [E]) λA m=>
 gQ d false (xW m 36 76 9 A) λo=>
 gQ d false (bX p) λy=>
 gQ d false (xW m 38 76 9 y) λu=>
 gQ d false (Ca 9 36 38 o u) λI=>
 dH d I λz=>
 br (some z) (
 eI 27 λj=>
 aM m 27 n j λD l=>
 aZ l n 27 λi=>
 Q i l) (
 ab m 27 e λj=>
 aM m 27 n j λD l=>
 aZ l n 27 λi=>
 Q i l)
theorem Ar(h : ∀g:fq,ic x0 b H Q):fa Tryz.f143 0 [(0,x0),(1,b)] H Q:=kf (by kernel_rfl) h
def qT:Prop:=
 dh H 1 27 x0 λf d=>
 ah 27 f 0 λO=>
 ab d 3 O λS=>
 sd 3 5 16777216 S λX=>
 dC d 7 3 5 X λM=>
 ah 27 f 0 λV=>
 ab d 3 V λW=>
 sd 3 9 65536 W λN=>
 oL 3 10 256 N λR=>
 dC d 12 3 5 R λq=>
 ah 27 f 0 λx=>
 ab d 3 x λz=>
 sd 3 14 256 z λE=>
 oL 3 15 256 E λl=>
 dC d 17 3 5 l λK=>
 ah 27 f 0 λj=>
 ab d 3 j λn=>
 oL 3 19 256 n λo=>
 dC d 21 3 5 o λC=>
 kA (lI env.P false true d (Ref.mk 0 22 (aa.gen d 0 22) 0) 76 5 (some [(0,(a8 77)),(1,M),(2,q),(3,K),(4,C)])) λy e=>
 ah 27 f 1 λk=>
 ab e 3 k λJ=>
 sd 3 25 65536 J λA=>
 dC e 27 3 5 A λG=>
 ah 27 f 1 λi=>
 ab e 3 i λD=>
 sd 3 29 256 D λw=>
 oL 3 30 256 w λh=>
 dC e 32 3 5 h λs=>
 ah 27 f 1 λm=>
 ab e 3 m λI=>
 oL 3 34 256 I λu=>
 dC e 36 3 5 u λF=>
 Mq e 37 76 3 0 G 1 s 2 F λB U=>
 dI U 38 76 76 y B λp L=>
 kA (ee env.P true L (Ref.mk 0 40 (aa.gen L 0 40) 0) (some 76) (some 3) p (.v (.int .i64 120))) λt T=>
 Q t T
theorem xu(h : ∀g:fq,qT x0 H Q):fa Tryz.f144 0 [(0,x0)] H Q:=kf (by kernel_rfl) h
def iP:=ta Tryz.f163 3
def pX:Nat->Option (List Nat):=λi=>cond (Nat.beq i 3) (some [10,2,1,4,9,3]) (none)
def qi:Prop:=
 dh H 4 24 x0 λd e=>
  cy env Tryz.f163 0 iP [(10,(.v (.int .i64 0))),(2,c),(1,b),(4,d),(9,(.v (.slice none 0 0))),(3,a)] e Q
theorem wI(h : ∀g:fq,qi x0 b c a H Q):fa Tryz.f163 0 [(0,x0),(1,b),(2,c),(3,a)] H Q:=uP pX (by kernel_rfl) h
def iS(g:Nat->AV)(x10 c b x4 x9 a:AV)(H:aa)(Q:AV->aa->Prop):Prop:=
 fC 3 11 12 x10 a λl=>
 br (some l) (
 ab H 24 x4 λh=>
 Ms 3 18 2048 b λk=>
 jZ 3 19 20 k c λo=>
 jZ 3 21 22 o x10 λd=>
 bh true H 24 171 [h,d] λi m=>
 qB m 25 122 1 0 i λn e=>
 dI e 26 122 122 x9 n λf p=>
 gJ 3 14 1 x10 λj=>
  cy env Tryz.f163 0 iP [(10,j),(2,c),(1,b),(4,x4),(9,f),(3,a)] p Q) (
 Q x9 H)
theorem oO(x10 c b x4 x9 a:AV)(H:aa)(Q:AV->aa->Prop)(h : ∀g,iS g x10 c b x4 x9 a H Q):cy env Tryz.f163 0 iP [(10,x10),(2,c),(1,b),(4,x4),(9,x9),(3,a)] H Q:=uc pX (by kernel_rfl) h
def iO:=ta Tryz.f172 3
def pW:Nat->Option (List Nat):=λi=>cond (Nat.beq i 3) (some [4,0,3]) (none)
def qh:Prop:=
 cy env Tryz.f172 0 iO [(4,(.v (.int .i64 0))),(0,x0),(3,(.v (.int .i64 0)))] H Q
theorem wF(h : ∀g:fq,qh x0 H Q):fa Tryz.f172 0 [(0,x0)] H Q:=uP pW (by kernel_rfl) h
def lx(g:Nat->AV)(x4 x0 a:AV)(H:aa)(Q:AV->aa->Prop):Prop:=
 dg H 7 76 x0 λj=>
 fC 3 5 7 x4 j λf=>
 br (some f) (
 pM 3 256 11 a λi=>
 dF H 76 x0 x4 λl=>
 ab H 5 l λd=>
 dC H 17 5 3 d λh=>
 jZ 3 12 17 i h λk=>
 gJ 3 9 1 x4 λe=>
  cy env Tryz.f172 0 iO [(4,e),(0,x0),(3,k)] H Q) (
 Q a H)
theorem oN(x4 x0 a:AV)(H:aa)(Q:AV->aa->Prop)(h : ∀g,lx g x4 x0 a H Q):cy env Tryz.f172 0 iO [(4,x4),(0,x0),(3,a)] H Q:=uc pW (by kernel_rfl) h
end
section
variable(dep:Nat)(g:Nat->AV)(x0 a:AV)(H:aa)(Q:AV->aa->Prop)
def jH:=ta Tryz.f25 3
def rG:Nat->Option (List Nat):=λi=>cond (Nat.beq i 3) (some [4,1,3,2]) (none)
def rQ:Prop:=
 dh H 1 29 x0 λb e=>
 dK e 2 29 λc d=>
  cy env Tryz.f25 0 jH [(4,(.v (.int .i64 0))),(1,b),(3,(.v (.slice none 0 0))),(2,c)] d Q
theorem ym(h : ∀g:fq,rQ x0 H Q):fa Tryz.f25 0 [(0,x0)] H Q:=uP rG (by kernel_rfl) h
def ef(g:Nat->AV)(x4 a o n:AV)(H:aa)(Q:AV->aa->Prop):Prop:=
 ah 29 a 1 λs=>
 ab H 25 s λp=>
 dg H 8 25 p λq=>
 fC 3 5 8 x4 q λu=>
 br (some u) (
 ah 29 a 1 λh=>
 ab H 25 h λj=>
 dF H 25 j x4 λm=>
 ab H 51 m λi=>
 bh true H 18 56 [i] λk e=>
 qB e 19 25 1 0 k λd f=>
 dI f 20 25 25 o d λb v=>
 gJ 3 10 1 x4 λc=>
  cy env Tryz.f25 0 jH [(4,c),(1,a),(3,b),(2,n)] v Q) (
 ah 29 a 0 λh=>
 ab H 24 h λj=>
 bh false H 23 26 [j] λm e=>
 ah 29 a 2 λi=>
 ab e 27 i λk=>
 ah 29 a 3 λd=>
 ab e 3 d λb=>
 Fq 29 0 m 1 o 2 k 3 b λc=>
 aM e 29 n c λt f=>
 aZ f n 29 λl=>
 Q l f)
theorem pP(x4 a b c:AV)(H:aa)(Q:AV->aa->Prop)(h : ∀g,ef g x4 a b c H Q):cy env Tryz.f25 0 jH [(4,x4),(1,a),(3,b),(2,c)] H Q:=uc rG (by kernel_rfl) h
def jS:Prop:=
 dh H 1 24 x0 λq C=>
 dK C 2 29 λb w=>
 ab w 24 q λB=>
 bh true w 7 57 [B] λE k=>
 mQ E λz=>
 br (some z) (
 eI 29 λn=>
 aM k 29 b n λy f=>
 aZ f b 29 λm=>
 Q (.tup [m,(.v (.int .i64 8))]) f) (
 ah 24 q 1 λn=>
 ab k 3 n λy=>
 om 3 11 1 y λm=>
 br (some m) (
 eI 29 λo=>
 aM k 29 b o λe f=>
 aZ f b 29 λd=>
 Q (.tup [d,(.v (.int .i64 2))]) f) (
 ab k 24 q λo=>
 bh true k 16 58 [o] λe f=>
 ba e 0 λd=>
 ba e 1 λp=>
 dK f 4 29 λj D=>
 aM D 29 j d λA t=>
 mQ p λu=>
 br (some u) (
 eI 29 λc=>
 aM t 29 b c λh l=>
 aZ l b 29 λi=>
 Q (.tup [i,(.v (.int .i64 8))]) l) (
 ab t 29 j λc=>
 bh true t 23 25 [c] λh l=>
 aM l 29 b h λi x=>
 aZ x b 29 λs=>
 Q (.tup [s,(.v (.int .i64 0))]) x)))
theorem Aq(h : ∀g:fq,jS x0 H Q):fa Tryz.f27 0 [(0,x0)] H Q:=kf (by kernel_rfl) h
def lu:Prop:=
 dK H 2 29 λb i=>
 Z6 3 4 x0 λe=>
 gQ e false (bX x0) λo=>
 gQ e false (oh 3 7 2147483648 o) λm=>
 dH e m λl=>
 br (some l) (
 eI 29 λf=>
 aM i 29 b f λj c=>
 aZ c b 29 λd=>
 Q (.tup [d,(.v (.int .i64 2))]) c) (
 bh true i 11 60 [] λf c=>
 bh true c 13 59 [f,x0] λj n=>
 wO 29 0 j λd=>
 aM n 29 b d λp k=>
 aZ k b 29 λh=>
 Q (.tup [h,(.v (.int .i64 0))]) k)
theorem zq(h : ∀g:fq,lu x0 H Q):fa Tryz.f28 0 [(0,x0)] H Q:=kf (by kernel_rfl) h
def gr:Prop:=
 dh H 2 29 x0 λh E=>
 dh E 3 29 a λf j=>
 ah 29 h 0 λD=>
 ab j 24 D λF=>
 ah 29 f 0 λz=>
 ab j 24 z λB=>
 bh true j 9 31 [F,B] λd i=>
 gQ d true (au 29 h 1) λA=>
 gQ d true (an i 25 A) λC=>
 gQ d true (au 29 f 1) λx=>
 gQ d true (an i 25 x) λo=>
 gW d true i (fB true i 15 21 [C,o]) λq e=>
 cr d q λc=>
 gQ c true (au 29 h 2) λm=>
 gQ c true (an e 27 m) λy=>
 gQ c true (au 29 f 2) λl=>
 gQ c true (an e 27 l) λs=>
 gQ c true (iu 27 19 21 y s) λu=>
 cr c u λb=>
 gQ b true (au 29 h 3) λp=>
 gQ b true (an e 3 p) λn=>
 gQ b true (au 29 f 3) λw=>
 gQ b true (an e 3 w) λt=>
 gQ b true (iu 3 26 28 n t) λv=>
 cr b v λk=>
 Q k e
theorem yp(h : ∀g:fq,gr x0 a H Q):fa Tryz.f30 0 [(0,x0),(1,a)] H Q:=kf (by kernel_rfl) h
def gp:Prop:=
 dh H 1 24 x0 λm R=>
 dK R 2 29 λd J=>
 ab J 24 m λL=>
 bh true J 11 91 [L] λE M=>
 ba E 0 λI=>
 ba E 1 λO=>
 ba E 2 λS=>
 dK M 5 27 λo N=>
 aM N 27 o O λT s=>
 mQ S λy=>
 br (some y) (
 eI 29 λh=>
 aM s 29 d h λl e=>
 aZ e d 29 λj=>
 Q (.tup [j,(.v (.bool false))]) e) (
 ab s 24 m λh=>
 ah 27 o 1 λl=>
 ab s 3 l λj=>
 bh true s 22 92 [h,(.v (.int .i64 0)),j,(.v (.int .i64 2048))] λk e=>
 ba k 0 λn=>
 ba k 1 λt=>
 ab e 24 m λw=>
 dg e 27 25 I λx=>
 dg e 29 25 n λC=>
 jZ 3 27 29 x C λB=>
 bh true e 31 93 [w,B] λu q=>
 mQ u λF=>
 br (some F) (
 eI 29 λi=>
 aM q 29 d i λb p=>
 aZ p d 29 λc=>
 Q (.tup [c,(.v (.bool false))]) p) (
 ab q 24 m λi=>
 kA (ee env.P false q (Ref.mk 0 36 (aa.gen q 0 36) 0) (some 25) (some 25) (.v (.slice none 0 0)) I) λb p=>
 dI p 38 25 25 b n λc G=>
 ab G 27 o λD=>
 Fq 29 0 i 1 c 2 D 3 t λA=>
 aM G 29 d A λK f=>
  qy [(m,b),(b,o)] [d] [] f /\
 (aZ f d 29 λz=>
 Q (.tup [z,(.v (.bool true))]) f)))
theorem yn(h : ∀g:fq,gp x0 H Q):fa Tryz.f58 0 [(0,x0)] H Q:=kf (by kernel_rfl) h
def gD:=ta Tryz.f93 2
def qF:Nat->Option (List Nat):=λi=>cond (Nat.beq i 2) (some [5,2,1]) (none)
def qR:Prop:=
 dh H 2 24 x0 λb c=>
  cy env Tryz.f93 0 gD [(5,(.v (.int .i64 0))),(2,b),(1,a)] c Q
theorem xr(h : ∀g:fq,qR x0 a H Q):fa Tryz.f93 0 [(0,x0),(1,a)] H Q:=uP qF (by kernel_rfl) h
def cf(g:Nat->AV)(x5 j a:AV)(H:aa)(Q:AV->aa->Prop):Prop:=
 ah 24 j 0 λv1=>
 ab H 22 v1 λv2=>
 dg H 11 22 v2 λv3=>
 fC 3 8 11 x5 v3 λv4=>
 br (some v4) (
 ah 24 j 0 λv5=>
 ab H 22 v5 λv6=>
 dF H 22 v6 x5 λv7=>
 ah 78 v7 0 λv8=>
 ab H 3 v8 λv9=>
 vN 3 20 2048 v9 λE=>
 br (some E) (
 gJ 3 13 1 x5 λk=>
  cy env Tryz.f93 0 gD [(5,k),(2,j),(1,a)] H Q) (
 ah 24 j 0 λk=>
 ab H 22 k λN=>
 dF H 22 N x5 λR=>
 ah 78 R 1 λt=>
 ab H 76 t λZ=>
 bh true H 29 130 [Z] λl H1=>
 ba l 0 λz=>
 ba l 1 λA=>
 dK H1 6 132 λf H2=>
 aM H2 132 f z λv20 i=>
 vM 3 32 0 A λb=>
 gQ b true (au 132 f 0) λY=>
 gQ b true (an i 3 Y) λO=>
 gQ b true (au 24 j 1) λV=>
 gQ b true (an i 3 V) λn=>
 gQ b true (ON 3 36 38 O n) λP=>
 gQ b true (bX P) λe=>
 gQ e false (au 132 f 1) λm=>
 gQ e false (an i 3 m) λI=>
 gQ e false (bX a) λy=>
 gQ e false (QS 3 43 1 y) λX=>
 gQ e false (ON 3 42 44 I X) λM=>
 gQ b true (JT e M) λT=>
 gQ b true (bX T) λc=>
 gQ c false (au 132 f 1) λD=>
 gQ c false (an i 3 D) λJ=>
 gQ c false (bX a) λS=>
 gQ c false (QS 3 50 1 S) λu=>
 gQ c false (iu 3 49 51 J u) λx=>
 gQ c false (bX x) λd=>
 gQ d true (au 132 f 0) λU=>
 gQ d true (an i 3 U) λG=>
 gQ d true (au 24 j 1) λB=>
 gQ d true (an i 3 B) λL=>
 gQ d true (iu 3 55 57 G L) λp=>
 gQ c false (Fs d p) λC=>
 gQ c false (bX C) λh=>
 gQ h true (au 24 j 3) λs=>
 gQ h true (an i 4 s) λq=>
 gQ h true (vK q) λK=>
 gQ c false (Fs h K) λo=>
 gQ b true (JT c o) λW=>
 cr b W λw=>
 br (some w) (
 Q (.v (.bool false)) i) (
 gJ 3 13 1 x5 λF=>
  cy env Tryz.f93 0 gD [(5,F),(2,j),(1,a)] i Q))) (
 Q (.v (.bool true)) H)
theorem lN(x5 b a:AV)(H:aa)(Q:AV->aa->Prop)(h : ∀g,cf g x5 b a H Q):cy env Tryz.f93 0 gD [(5,x5),(2,b),(1,a)] H Q:=uc qF (by kernel_rfl) h
def qZ:=ta Tryz.f29 3
def Ct:Nat->Option (List Nat):=λi=>cond (Nat.beq i 3) (some [16,1,14,2,15]) (none)
def qP:Prop:=
 dh H 1 29 x0 λb s=>
 dK s 2 29 λm i=>
 ah 29 b 0 λp=>
 ab i 24 p λw=>
 bh false i 7 49 [w] λk j=>
 ah 29 b 1 λn=>
 ab j 25 n λu=>
 bh false j 10 61 [u] λl y=>
 ah 29 b 0 λo=>
 aM y 24 o k λx t=>
 ah 29 b 1 λd=>
 aM t 25 d l λq e=>
 ah 29 b 1 λf=>
 ab e 25 f λc=>
 dg e 15 25 c λh=>
  cy env Tryz.f29 0 qZ [(16,(.v (.int .i64 0))),(1,b),(14,c),(2,m),(15,h)] e Q
theorem Ji(h : ∀g:fq,qP x0 H Q):fa Tryz.f29 0 [(0,x0)] H Q:=uP Ct (by kernel_rfl) h
def ri(g:Nat->AV)(b a c l d:AV)(H:aa)(Q:AV->aa->Prop):Prop:=
 fC 3 16 15 b d λt=>
 br (some t) (
 dF H 25 c b λi=>
 ab H 51 i λm=>
 dK H 4 51 λf e=>
 aM e 51 f m λw h=>
 ah 29 a 1 λp=>
 ab h 25 p λu=>
 ab h 51 f λo=>
 bh false h 25 62 [o] λq n=>
 dF n 25 u b λk=>
 aM n 51 k q λs v=>
 gJ 3 16 1 b λj=>
  cy env Tryz.f29 0 qZ [(16,j),(1,a),(14,c),(2,l),(15,d)] v Q) (
 ab H 29 a λi=>
 aM H 29 l i λm e=>
 aZ e l 29 λf=>
 Q f e)
theorem uQ(c a b e d:AV)(H:aa)(Q:AV->aa->Prop)(h : ∀g,ri g c a b e d H Q):cy env Tryz.f29 0 qZ [(16,c),(1,a),(14,b),(2,e),(15,d)] H Q:=uc Ct (by kernel_rfl) h
def cI:Prop:=
 JX 25 3 x0 λb=>
 br (some b) (
 Q (.v (.slice none 0 0)) H) (
 QL H 5 25 0 λc d=>
 dI d 7 25 25 c x0 λe f=>
 Q e f)
theorem eA(h : ∀g:fq,cI x0 H Q):fa Tryz.f61 0 [(0,x0)] H Q:=kf (by kernel_rfl) h
end
section
variable(dep:Nat)(g:Nat->AV)(x0 a b:AV)(H:aa)(Q:AV->aa->Prop)
def vJ:Prop:=
 dh H 1 45 x0 λe H1=>
 ab H1 45 e λv2=>
 bh true H1 16 122 [v2] λv3 X=>
 iW 30 17 0 v3 λv4=>
 br (some v4) (
 Q (.tup [(.v (.slice none 0 0)),v3]) X) (
 ah 45 e 1 λv5=>
 ab X 38 v5 λv6=>
 bh true X 23 81 [v6] λv7 H3=>
 ba v7 0 λv8=>
 ba v7 1 λv9=>
 ah 45 e 3 λv10=>
 ah 42 v10 0 λL=>
 ab H3 40 L λv12=>
 bh true H3 30 123 [v12] λA H4=>
 ba A 0 λC=>
 ba A 1 λv15=>
 ah 45 e 0 λB=>
 ab H4 5 B λv17=>
 qB H4 35 76 1 0 v17 λE o=>
 ah 45 e 2 λv19=>
 ab o 3 v19 λM=>
 Ue 3 38 M λv21=>
 dC o 40 3 5 v21 λV=>
 ah 45 e 2 λN=>
 ab o 3 N λT=>
 Ua 3 42 T λY=>
 dC o 44 3 5 Y λR=>
 ah 45 e 2 λK=>
 ab o 3 K λW=>
 dC o 47 3 5 W λF=>
 Mq o 48 76 3 0 V 1 R 2 F λv30 H6=>
 ah 45 e 3 λU=>
 ah 42 U 1 λv32=>
 ab H6 3 v32 λS=>
 dC H6 53 3 5 S λO=>
 qB H6 54 76 1 0 O λv35 H7=>
 kA (lI env.P false true H7 (Ref.mk 0 55 (aa.gen H7 0 55) 0) 122 5 (some [(0,E),(1,v8),(2,v30),(3,C),(4,v35)])) λG H8=>
 bh true H8 56 108 [G] λl x=>
 ah 45 e 0 λZ=>
 ab x 5 Z λz=>
 xX 5 58 z λD=>
 br (some D) (
 QU x 61 76 13 λs c=>
 ah 45 e 4 λp=>
 ab c 40 p λt=>
 eI 40 λq=>
 xV 40 63 64 t q λj=>
 br (some j) (
 ah 45 e 4 λh=>
 ab c 40 h λk=>
 bh true c 69 123 [k] λd f=>
 ba d 0 λi=>
 ba d 1 λI=>
 ah 45 e 6 λm=>
 ab f 43 m λu=>
 bh true f 75 124 [u] λy w=>
 ba y 0 λv54=>
 ba y 1 λv55=>
 Mq w 81 122 3 0 l 1 i 2 v54 λv56 n=>
 bh true n 82 108 [v56] λJ H14=>
 Q (.tup [J,(.v (.int .i64 0))]) H14) (
 ah 45 e 6 λh=>
 ab c 43 h λk=>
 bh true c 75 124 [k] λd f=>
 ba d 0 λi=>
 ba d 1 λI=>
 Mq f 81 122 3 0 l 1 s 2 i λm w=>
 bh true w 82 108 [m] λu n=>
 Q (.tup [u,(.v (.int .i64 0))]) n)) (
 Ac 5 58 z λs=>
 br (some s) (
 ah 45 e 5 λp=>
 ab x 36 p λt=>
 wO 38 0 t λq=>
 bh true x 89 81 [q] λj c=>
 ba j 0 λh=>
 ba j 1 λk=>
 JU c 76 h λd=>
 dI c 95 76 76 l d λi f=>
 Q (.tup [i,(.v (.int .i64 0))]) f) (
 Q (.tup [l,(.v (.int .i64 0))]) x)))
theorem By(h : ∀g:fq,vJ x0 H Q):fa Tryz.f82 0 [(0,x0)] H Q:=kf (by kernel_rfl) h
def KJ:Prop:=
 dK H 2 45 λc H1=>
 wO 252 0 x0 λv2=>
 dh H1 17 252 v2 λp H2=>
 fO (yR (.func 194) (some [p]) (some [])) λv4=>
 fO (yR (.func 195) (some [p]) (some [])) λv5=>
 aab H2 23 v4 λv6 H3=>
 fD H3 76 v6 0 λv7=>
 ab H3 5 v7 λv8=>
 ah 45 c 0 λv9=>
 aM H3 5 v9 v8 λv10 H4=>
 kA (bS env true (ay env) (eZ env 0) H4 (Ref.mk 0 29 (aa.gen H4 0 29) 0) (some v4) [(.v (.int .i64 6))]) λv11 H5=>
 bh true H5 30 175 [v11] λv12 H6=>
 ba v12 0 λv13=>
 ba v12 1 λv14=>
 dK H6 8 38 λv15 H7=>
 aM H7 38 v15 v13 λv16 H8=>
 kA (bS env true (ay env) (eZ env 0) H8 (Ref.mk 0 34 (aa.gen H8 0 34) 0) (some v4) [(.v (.int .i64 3))]) λw A=>
 ab A 38 v15 λv18=>
 fD A 76 w 0 λv19=>
 ab A 5 v19 λv20=>
 dC A 39 5 3 v20 λv21=>
 Ud 3 39 v21 λv22=>
 fD A 76 w 1 λv23=>
 ab A 5 v23 λv24=>
 dC A 44 5 3 v24 λv25=>
 JW 3 44 v25 λv26=>
 Dj 3 40 45 v22 v26 λv27=>
 fD A 76 w 2 λv28=>
 ab A 5 v28 λv29=>
 dC A 50 5 3 v29 λv30=>
 Dj 3 46 50 v27 v30 λv31=>
 ah 45 c 1 λh=>
 aM A 38 h v18 λv33 H10=>
 ah 45 c 2 λv34=>
 aM H10 3 v34 v31 λv35 H11=>
  qy [(w,h),(v19,h),(v20,h),(w,h),(v23,h),(v24,h),(w,h),(v28,h),(v29,h)] [h,v34] [] H11 /\
 (kA (bS env true (ay env) (eZ env 0) H11 (Ref.mk 0 55 (aa.gen H11 0 55) 0) (some v5) [(.v (.bool false))]) λv36 H12=>
 ah 45 c 3 λv37=>
 ah 42 v37 0 λv38=>
 aM H12 40 v38 v36 λv39 H13=>
 aab H13 59 v4 λv40 S=>
 fD S 76 v40 0 λv41=>
 ab S 5 v41 λv42=>
 dC S 62 5 3 v42 λv43=>
 ah 45 c 3 λv44=>
 ah 42 v44 1 λv45=>
 aM S 3 v45 v43 λv46 d=>
 qA p λv47=>
 ah 252 v47 2 λv48=>
 ab d 4 v48 λv49=>
 gQ v49 false (bX v14) λv50=>
 gQ v49 false (wQ 30 70 0 v50) λv51=>
 dH v49 v51 λK=>
 gQ K false (au 45 c 3) λv53=>
 gQ K false (au 42 v53 1) λv54=>
 gQ K false (an d 3 v54) λv55=>
 gQ K false (GI 3 76 64 v55) λv56=>
 dH K v56 λv57=>
 br (some v57) (
 eI 45 λX=>
 aM d 45 c X λv59 f=>
 aZ f c 45 λv60=>
 Q (.tup [v60,(.v (.int .i64 0)),(.v (.int .i64 8))]) f) (
 ah 45 c 0 λX=>
 ab d 5 X λv59=>
 xX 5 81 v59 λv60=>
 br (some v60) (
 kA (bS env true (ay env) (eZ env 0) d (Ref.mk 0 85 (aa.gen d 0 85) 0) (some v5) [(.v (.bool true))]) λv61 f=>
 ah 45 c 4 λB=>
 aM f 40 B v61 λR e=>
 ah 45 c 3 λm=>
 ah 42 m 1 λI=>
 ab e 3 I λs=>
 pM 3 4 91 s λF=>
 JV e 93 v4 F λJ T=>
 bh true T 94 196 [J] λi N=>
 ba i 0 λD=>
 ba i 1 λk=>
 qA p λE=>
 ah 252 E 2 λL=>
 ab N 4 L λn=>
 gQ n false (bX k) λG=>
 gQ n false (wQ 30 104 0 G) λW=>
 dH n W λV=>
 ah 45 c 6 λY=>
 aM N 43 Y D λv79 U=>
 qA p λv80=>
 ah 252 v80 2 λv81=>
 aM U 4 v81 V λv82 u=>
 qA p λv83=>
 ah 252 v83 2 λv84=>
 ab u 4 v84 λq=>
 gQ q false (an u 45 c) λy=>
 gW q false u (fB true u 141 122 [y]) λZ j=>
 gQ q false (wQ 30 141 0 Z) λv88=>
 dH q v88 λv89=>
 br (some v89) (
 eI 45 λC=>
 aM j 45 c C λt l=>
 aZ l c 45 λo=>
 Q (.tup [o,(.v (.int .i64 0)),(.v (.int .i64 8))]) l) (
 ab j 45 c λC=>
 qA p λt=>
 ah 252 t 1 λo=>
 ab j 3 o λx=>
 aM j 45 c C λv94 l=>
  qy [(o,c)] [c] [] l /\
 (aZ l c 45 λv95=>
 Q (.tup [v95,x,(.v (.int .i64 0))]) l))) (
 Ac 5 81 v59 λv61=>
 br (some v61) (
 kA (bS env true (ay env) (eZ env 0) d (Ref.mk 0 114 (aa.gen d 0 114) 0) (some v4) [(.v (.int .i64 5))]) λB f=>
 bh true f 115 197 [B] λR e=>
 QN e 116 76 1 λm T=>
 dI T 117 76 76 R m λI N=>
 bh true N 118 175 [I] λs U=>
 ba s 0 λF=>
 ba s 1 λJ=>
 dK U 13 38 λi u=>
 aM u 38 i F λD j=>
 ah 38 i 0 λk=>
 ab j 36 k λE=>
 qA p λL=>
 ah 252 L 2 λn=>
 ab j 4 n λG=>
 gQ G false (bX J) λW=>
 gQ G false (wQ 30 129 0 W) λV=>
 dH G V λY=>
 ah 45 c 5 λv79=>
 aM j 36 v79 E λv80 l=>
 qA p λv81=>
 ah 252 v81 2 λv82=>
 aM l 4 v82 Y λv83 M=>
 qA p λv84=>
 ah 252 v84 2 λq=>
 ab M 4 q λy=>
 gQ y false (an M 45 c) λZ=>
 gW y false M (fB true M 141 122 [Z]) λv88 O=>
 gQ y false (wQ 30 141 0 v88) λv89=>
 dH y v89 λC=>
 br (some C) (
 eI 45 λt=>
 aM O 45 c t λo z=>
 aZ z c 45 λx=>
 Q (.tup [x,(.v (.int .i64 0)),(.v (.int .i64 8))]) z) (
 ab O 45 c λt=>
 qA p λo=>
 ah 252 o 1 λx=>
 ab O 3 x λv94=>
 kA (
  kn env.P O 45 (some c) (some t)) λv95 z=>
  qy [(x,c)] [c] [] z /\
 (aZ z c 45 λv96=>
 Q (.tup [v96,v94,(.v (.int .i64 0))]) z))) (
 qA p λB=>
 ah 252 B 2 λR=>
 ab d 4 R λm=>
 gQ m false (an d 45 c) λI=>
 gW m false d (fB true d 141 122 [I]) λs f=>
 gQ m false (wQ 30 141 0 s) λF=>
 dH m F λJ=>
 br (some J) (
 eI 45 λi=>
 aM f 45 c i λD e=>
 aZ e c 45 λk=>
 Q (.tup [k,(.v (.int .i64 0)),(.v (.int .i64 8))]) e) (
 ab f 45 c λi=>
 qA p λD=>
 ah 252 D 1 λk=>
 ab f 3 k λE=>
 kA (
  kn env.P f 45 (some c) (some i)) λL e=>
  qy [(k,c)] [c] [] e /\
 (aZ e c 45 λn=>
 Q (.tup [n,E,(.v (.int .i64 0))]) e))))))
theorem R9(h : ∀g:fq,KJ x0 H Q):fa Tryz.f176 0 [(0,x0)] H Q:=kf (by kernel_rfl) h
def eT:=ta Tryz.f108 3
def eF:=ta Tryz.f108 11
def ky:Nat->Option (List Nat):=λi=>cond (Nat.beq i 3) (some [11,3,9,0,10]) (cond (Nat.beq i 11) (some [27,6,25,26]) (none))
def nS:Prop:=
 dg H 10 122 x0 λc=>
  cy env Tryz.f108 0 eT [(11,(.v (.int .i64 0))),(3,(.v (.int .i64 0))),(9,x0),(0,x0),(10,c)] H Q
theorem uA(h : ∀g:fq,nS x0 H Q):fa Tryz.f108 0 [(0,x0)] H Q:=uP ky (by kernel_rfl) h
def jE(g:Nat->AV)(x11 f x9 x0 x10:AV)(H:aa)(Q:AV->aa->Prop):Prop:=
 fC 3 11 10 x11 x10 λl=>
 br (some l) (
 dF H 122 x9 x11 λd=>
 ab H 76 d λe=>
 dg H 17 76 e λm=>
 jZ 3 15 17 f m λc=>
 om 3 19 0 c λj=>
 br (some j) (
 aag 9 λi=>
 fO (none) λn=>
 gJ 3 11 1 x11 λk=>
  cy env Tryz.f108 0 eT [(11,k),(3,c),(9,x9),(0,x0),(10,x10)] H Q) (
 gJ 3 11 1 x11 λi=>
  cy env Tryz.f108 0 eT [(11,i),(3,c),(9,x9),(0,x0),(10,x10)] H Q)) (
 bh true H 24 146 [(.v (.slice none 0 0)),f] λd h=>
 dg h 26 122 x0 λe=>
  cy env Tryz.f108 0 eF [(27,(.v (.int .i64 0))),(6,d),(25,x0),(26,e)] h Q)
theorem mT(x11 c x9 x0 x10:AV)(H:aa)(Q:AV->aa->Prop)(h : ∀g,jE g x11 c x9 x0 x10 H Q):cy env Tryz.f108 0 eT [(11,x11),(3,c),(9,x9),(0,x0),(10,x10)] H Q:=uc ky (by kernel_rfl) h
def gk(g:Nat->AV)(c f e d:AV)(H:aa)(Q:AV->aa->Prop):Prop:=
 fC 3 27 26 c d λk=>
 br (some k) (
 dF H 122 e c λi=>
 ab H 76 i λj=>
 dI H 33 76 76 f j λm l=>
 gJ 3 27 1 c λh=>
  cy env Tryz.f108 0 eF [(27,h),(6,m),(25,e),(26,d)] l Q) (
 Q f H)
theorem mv(e f d c:AV)(H:aa)(Q:AV->aa->Prop)(h : ∀g,gk g e f d c H Q):cy env Tryz.f108 0 eF [(27,e),(6,f),(25,d),(26,c)] H Q:=uc ky (by kernel_rfl) h
def sF:=ta Tryz.f124 6
def DX:Nat->Option (List Nat):=λi=>cond (Nat.beq i 6) (some [15,5,13,14]) (none)
def z0:Prop:=
 bh true H 9 159 [x0] λd c=>
 iW 30 10 0 d λe=>
 br (some e) (
 Q (.tup [(.v (.slice none 0 0)),d]) c) (
 dg c 14 43 x0 λf=>
  cy env Tryz.f124 0 sF [(15,(.v (.int .i64 0))),(5,(.v (.slice none 0 0))),(13,x0),(14,f)] c Q)
theorem Li(h : ∀g:fq,z0 x0 H Q):fa Tryz.f124 0 [(0,x0)] H Q:=uP DX (by kernel_rfl) h
def sN(g:Nat->AV)(c x5 e d:AV)(H:aa)(Q:AV->aa->Prop):Prop:=
 fC 3 15 14 c d λs=>
 br (some s) (
 dF H 43 e c λo=>
 ab H 21 o λf=>
 fO (bZ env.P .shr 21 (Operand.tmp 20) (.const (.int .u64 24)) (some f) (some (.v (.int .u64 24)))) λw=>
 dC H 22 21 5 w λl=>
 Ue 21 23 f λp=>
 dC H 25 21 5 p λu=>
 Ua 21 26 f λn=>
 dC H 28 21 5 n λq=>
 dC H 30 21 5 f λk=>
 QO H 31 76 4 0 l 1 u 2 q 3 k λh t=>
 dI t 32 76 76 x5 h λi m=>
 gJ 3 15 1 c λj=>
  cy env Tryz.f124 0 sF [(15,j),(5,i),(13,e),(14,d)] m Q) (
 Q (.tup [x5,(.v (.int .i64 0))]) H)
theorem AO(d x5 e c:AV)(H:aa)(Q:AV->aa->Prop)(h : ∀g,sN g d x5 e c H Q):cy env Tryz.f124 0 sF [(15,d),(5,x5),(13,e),(14,c)] H Q:=uc DX (by kernel_rfl) h
def te:Code:=(Tryz.f194.body).getD .skip
def gA:Prop:=
 qA x0 λT=>
 ah 252 T 2 λN=>
 ab H 4 N λc=>
 gQ c false (bX x0) λW=>
 gQ c false (No (some W)) λL=>
 gQ c false (au 252 L 0) λS=>
 gQ c false (an H 76 S) λV=>
 gQ c false (eD env.P false (aa.get H) (⟨(dep+1),15,aa.gen H (dep+1) 15,0⟩:Ref) .len #[76] [V]) λM=>
 gQ c false (bX x0) λO=>
 gQ c false (No (some O)) λu=>
 gQ c false (au 252 u 1) λy=>
 gQ c false (an H 3 y) λA=>
 gQ c false (bZ env.P .sub 3 (Operand.tmp 15) (Operand.tmp 19) (some M) (some A)) λD=>
 gQ c false (bX a) λl=>
 gQ c false (QI 3 20 21 D l) λK=>
 dH c K λj=>
 qA x0 λq=>
 ah 252 q 2 λs=>
 aM H 4 s j λU f=>
 qA x0 λz=>
 ah 252 z 2 λk=>
 ab f 4 k λJ=>
 br (some J) (
 kA (mA f (⟨(dep+1),31,aa.gen f (dep+1) 31,0⟩:Ref) (yQ env.P (⟨(dep+1),31,aa.gen f (dep+1) 31,0⟩:Ref) 76 (some a) (some a))) λe d=>
 Q e d) (
 qA x0 λe=>
 ah 252 e 1 λG=>
 ab f 3 G λi=>
 jZ 3 35 36 i a λC=>
 qA x0 λx=>
 ah 252 x 1 λh=>
 aM f 3 h C λR d=>
 qA x0 λp=>
 ah 252 p 0 λI=>
 ab d 76 I λw=>
 qA x0 λF=>
 ah 252 F 1 λB=>
 ab d 3 B λt=>
 Dl 3 47 48 t a λv=>
 qA x0 λE=>
 ah 252 E 1 λm=>
 ab d 3 m λn=>
 fO (dx env.P (aa.get d) 76 (some w) (oi v) (oi n) (some none)) λo=>
 Q o d)
theorem s8(h : ∀g:fq,gA dep x0 a H Q):fa Tryz.f194 (dep+1) [(0,x0),(1,a)] H Q:=kf (by kernel_rfl) h
def uM:Code:=(Tryz.f195.body).getD .skip
def hJ:Prop:=
 aaf H dep 4 40 λE F=>
 kA (bS env true (ay env) (eZ env (dep+1)) F (⟨(dep+1),10,aa.gen F (dep+1) 10,0⟩:Ref) (some (.fn (.func 194) [] [])) [x0,(.v (.int .i64 13))]) λA y=>
 kA (bS env true (ay env) (eZ env (dep+1)) y (⟨(dep+1),13,aa.gen y (dep+1) 13,0⟩:Ref) (some (.fn (.func 203) [] [])) [A]) λB K=>
 ba B 0 λN=>
 ba B 1 λG=>
 aaf K dep 6 40 λD L=>
 aM L 40 D N λR e=>
 gQ a true (bX A) λI=>
 gW a true e (mA e (⟨(dep+1),19,aa.gen e (dep+1) 19,0⟩:Ref) (yQ env.P (⟨(dep+1),19,aa.gen e (dep+1) 19,0⟩:Ref) 76 (some (AV.v (Value.int IntKind.i64 13))) (some (AV.v (Value.int IntKind.i64 13))))) λJ j=>
 gW a true j (bS env true (ay env) (eZ env (dep+1)) j (⟨(dep+1),20,aa.gen j (dep+1) 20,0⟩:Ref) (some (.fn (.func 87) [] [])) [I,J]) λl C=>
 cr a l λn=>
 qA x0 λp=>
 ah 252 p 2 λt=>
 ab C 4 t λc=>
 gQ c false (bX G) λw=>
 gQ c false (wQ 30 28 0 w) λh=>
 gQ c false (bX h) λd=>
 gQ d true (bX n) λk=>
 gQ d true (vK k) λs=>
 gQ c false (Fs d s) λo=>
 dH c o λi=>
 qA x0 λu=>
 ah 252 u 2 λq=>
 aM C 4 q i λO z=>
 ab z 40 D λf=>
 aM z 40 E f λM x=>
 aZ x E 40 λm=>
 Q m x
theorem uB(h : ∀g:fq,hJ dep x0 a H Q):fa Tryz.f195 (dep+1) [(0,x0),(1,a)] H Q:=kf (by kernel_rfl) h
def Mf:Code:=(Tryz.f196.body).getD .skip
def lS:List Item:=(mm 10006 400 [.code Mf]).getD []
def fw:Code:=rfA lS
def fv:Code:=rfB lS
def wb:List Item:=rfK lS
def zS:Nat->Option (List Nat):=λi=>cond (Nat.beq i 10006) (some [16,2]) (none)
def Ec:Nat->Bool:=λi=>false
def Ek:Prop:=
 dK H 2 43 λd e=>
 dg e 8 76 x0 λk=>
 Ad 3 8 256 k λm=>
 br (some m) (
 Mo e 43 d λi c=>
 aZ c d 43 λf=>
 Q (.tup [f,(.v (.int .i64 4))]) c) (
 dg e 12 76 x0 λi=>
 oL 3 12 4 i λf=>
 Ad 3 13 0 f λl=>
 br (some l) (
 Mo e 43 d λh c=>
 aZ c d 43 λj=>
 Q (.tup [j,(.v (.int .i64 8))]) c) (
 bh true e 16 107 [x0,(.v (.int .i64 4))] λh c=>
  cy env Tryz.f196 0 lS [(16,h),(2,d)] c Q))
theorem Lj(h : ∀g:fq,Ek x0 H Q):fa Tryz.f196 0 [(0,x0)] H Q:=uP zS (by kernel_rfl) h
def qz(g:Nat->AV)(b:AV)(H:aa)(Q:AV->aa->Prop):Prop:=
 ab H 43 b λi=>
 bh true H 45 159 [i] λh d=>
 iW 30 46 0 h λk=>
 br (some k) (
 Mo d 43 b λf c=>
 aZ c b 43 λe=>
 Q (.tup [e,h]) c) (
 ab d 43 b λf=>
 aM d 43 b f λe c=>
 aZ c b 43 λj=>
 Q (.tup [j,(.v (.int .i64 0))]) c)
theorem BY(b:AV)(H:aa)(Q:AV->aa->Prop)(h : ∀g,qz g b H Q):cy env Tryz.f196 0 wb [(2,b)] H Q:=⟨λg=>vh (live:=zS) (cut:=Ec) (n:=500) (Eq.mp (by kernel_rfl) (h g))⟩
def rp(r:Ref)(g:Nat->AV)(b d:AV)(H:aa)(Q:AV->aa->Prop):Prop:=
 bgP (yW H r) λc=>
 fO (oT env.P (aa.get (aa.put H r (some (eU 1 c)))) 43 (some b)) λz=>
 fO (cb env.P (aa.get (aa.put H r (some (eU 1 c)))) 76 (some d) (some (AV.v (Value.int IntKind.i64 0)))) λB=>
 fO (oT env.P (aa.get (aa.put H r (some (eU 1 c)))) 5 (some B)) λF=>
 fO (cE env.P (aa.get (aa.put H r (some (eU 1 c)))) (⟨2,22,aa.gen (aa.put H r (some (eU 1 c))) 2 22,0⟩:Ref) 5 34 (some F)) λw=>
 fO (bZ env.P .shl 34 (Operand.tmp 22) (.const (.int .u64 24)) (some w) (some (.v (.int .u64 24)))) λD=>
 fO (cb env.P (aa.get (aa.put H r (some (eU 1 c)))) 76 (some d) (some (AV.v (Value.int IntKind.i64 1)))) λE=>
 fO (oT env.P (aa.get (aa.put H r (some (eU 1 c)))) 5 (some E)) λy=>
 fO (cE env.P (aa.get (aa.put H r (some (eU 1 c)))) (⟨2,27,aa.gen (aa.put H r (some (eU 1 c))) 2 27,0⟩:Ref) 5 34 (some y)) λA=>
 Ud 34 27 A λk=>
 Dj 34 23 28 D k λl=>
 fO (cb env.P (aa.get (aa.put H r (some (eU 1 c)))) 76 (some d) (some (AV.v (Value.int IntKind.i64 2)))) λn=>
 fO (oT env.P (aa.get (aa.put H r (some (eU 1 c)))) 5 (some n)) λq=>
 fO (cE env.P (aa.get (aa.put H r (some (eU 1 c)))) (⟨2,33,aa.gen (aa.put H r (some (eU 1 c))) 2 33,0⟩:Ref) 5 34 (some q)) λh=>
 JW 34 33 h λt=>
 Dj 34 29 34 l t λe=>
 fO (cb env.P (aa.get (aa.put H r (some (eU 1 c)))) 76 (some d) (some (AV.v (Value.int IntKind.i64 3)))) λi=>
 fO (oT env.P (aa.get (aa.put H r (some (eU 1 c)))) 5 (some i)) λj=>
 fO (cE env.P (aa.get (aa.put H r (some (eU 1 c)))) (⟨2,39,aa.gen (aa.put H r (some (eU 1 c))) 2 39,0⟩:Ref) 5 34 (some j)) λp=>
 Dj 34 35 39 e p λm=>
 fO (cE env.P (aa.get (aa.put H r (some (eU 1 c)))) (⟨2,41,aa.gen (aa.put H r (some (eU 1 c))) 2 41,0⟩:Ref) 34 21 (some m)) λf=>
 kA (lI env.P true false (aa.put H r (some (eU 1 c))) (⟨2,42,aa.gen (aa.put H r (some (eU 1 c))) 2 42,0⟩:Ref) 43 1 (some [(0,f)])) λs u=>
 kA (ee env.P true u (⟨2,43,aa.gen u 2 43,0⟩:Ref) (some 43) (some 43) z s) λo x=>
 aM x 43 b o λG C=>
 Q (.v (.int .i64 0)) C
theorem CP(r:Ref)(b c:AV)(H:aa)(Q:AV->aa->Prop)(h : ∀g,rp r g b c H Q):XK env Tryz.f196 (some r) 2 [.code fw,.beginRound,.code fv] [(2,b),(17,c)] H Q:=⟨λg=>vh (live:=zS) (cut:=Ec) (n:=500) (Eq.mp (by kernel_rfl) (h g))⟩
def Bv:Prop:=
 JX 76 3 x0 λc=>
 br (some c) (
 Q (.v (.slice none 0 0)) H) (
 QL H 5 76 0 λd e=>
 dI e 7 76 76 d x0 λf h=>
 Q f h)
theorem Hz(h : ∀g:fq,Bv x0 H Q):fa Tryz.f197 0 [(0,x0)] H Q:=kf (by kernel_rfl) h
def kO:Prop:=
 dh H 2 76 x0 λe h=>
 dh h 3 3 a λd c=>
 ab c 3 d λk=>
 om 3 5 1 k λj=>
 br (some j) (
 fO (zN env.P 9 (some (.v (.string ⟨#[99,97,110,110,111,116,32,98,101,32,108,101,115,115,32,116,104,97,110,32,49]⟩)))) λf=>
 fO (none) λl=>
 fO (yR (.func 145) (some []) (some [e,d])) λi=>
 Q i c) (
 fO (yR (.func 145) (some []) (some [e,d])) λf=>
 Q f c)
theorem ov(h : ∀g:fq,kO x0 a H Q):fa Tryz.f107 0 [(0,x0),(1,a)] H Q:=kf (by kernel_rfl) h
def pw:Prop:=
 dC H 6 76 9 x0 λc=>
 dC H 8 76 9 a λd=>
 vL 9 6 8 c d λe=>
 Q e H
theorem Hy(h : ∀g:fq,pw x0 a H Q):fa Tryz.f87 0 [(0,x0),(1,a)] H Q:=kf (by kernel_rfl) h
def oV:Prop:=
 om 3 5 0 a λq=>
 br (some q) (
 aah 9 λo=>
 fO (none) λp=>
 Fu H 10 76 x0 λj=>
 dg H 12 76 x0 λf=>
 Dl 3 10 12 j f λl=>
 Dl 3 8 13 a l λh=>
 Ad 3 15 0 h λi=>
 br (some i) (
 Fu H 19 76 x0 λm=>
 Cb H 76 x0 m λd=>
 dI H 22 76 3 d h λe c=>
 dg c 24 76 x0 λn=>
 Cb c 76 e n λk=>
 Q k c) (
 Q x0 H)) (
 Fu H 10 76 x0 λo=>
 dg H 12 76 x0 λp=>
 Dl 3 10 12 o p λj=>
 Dl 3 8 13 a j λf=>
 Ad 3 15 0 f λl=>
 br (some l) (
 Fu H 19 76 x0 λh=>
 Cb H 76 x0 h λi=>
 dI H 22 76 3 i f λm c=>
 dg c 24 76 x0 λd=>
 Cb c 76 m d λe=>
 Q e c) (
 Q x0 H))
theorem vn(h : ∀g:fq,oV x0 a H Q):fa Tryz.f146 0 [(0,x0),(1,a)] H Q:=kf (by kernel_rfl) h
def nm:Code:=(Tryz.f145.body).getD .skip
def dy:=ta Tryz.f145 1
def nh:Nat->Option (List Nat):=λi=>cond (Nat.beq i 1) (some [2,4,1,0]) (none)
def jY:Prop:=
 cy env Tryz.f145 (dep+1) dy [(2,b),(4,(.v (.int .i64 0))),(1,a),(0,x0)] H Q
theorem mY(h : ∀g:fq,jY dep x0 a b H Q):fa Tryz.f145 (dep+1) [(0,x0),(1,a),(2,b)] H Q:=uP nh (by kernel_rfl) h
def dB(dep:Nat)(g:Nat->AV)(b x4 a x0:AV)(H:aa)(Q:AV->aa->Prop):Prop:=
 ab H 76 a λs=>
 fO (eD env.P false (aa.get H) (⟨(dep+1),8,aa.gen H (dep+1) 8,0⟩:Ref) .len #[76] [s]) λn=>
 fC 3 6 8 x4 n λq=>
 br (some q) (
 ab H 3 b λu=>
 ab H 76 a λm=>
 fO (dx env.P (aa.get H) 76 (some m) (oi x4) (some none) (some none)) λo=>
 fO (eD env.P false (aa.get H) (⟨(dep+1),17,aa.gen H (dep+1) 17,0⟩:Ref) .len #[76] [o]) λt=>
 fO (eD env.P true (aa.get H) (⟨(dep+1),18,aa.gen H (dep+1) 18,0⟩:Ref) .min #[3,3] [u,t]) λl=>
 ab H 76 a λp=>
 jZ 3 22 23 x4 l λj=>
 jZ 3 25 26 x4 l λe=>
 fO (dx env.P (aa.get H) 76 (some p) (oi x4) (oi j) (oi e)) λf=>
 kA (bS env true (ay env) (eZ env (dep+1)) H (⟨(dep+1),29,aa.gen H (dep+1) 29,0⟩:Ref) (some x0) [f]) λi h=>
 mQ i λd=>
 br (some d) (
 Q (.v (.tuple #[])) h) (
 ab h 3 b λk=>
 jZ 3 10 11 x4 k λc=>
  cy env Tryz.f145 (dep+1) dy [(2,b),(4,c),(1,a),(0,x0)] h Q)) (
 Q (.v (.tuple #[])) H)
theorem eB(dep:Nat)(b x4 a x0:AV)(H:aa)(Q:AV->aa->Prop)(h : ∀g,dB dep g b x4 a x0 H Q):cy env Tryz.f145 (dep+1) dy [(2,b),(4,x4),(1,a),(0,x0)] H Q:=uc nh (by kernel_rfl) h
def jJ:=ta Tryz.f26 3
def rI:Nat->Option (List Nat):=λi=>cond (Nat.beq i 3) (some [4,1,3,2]) (none)
def rR:Prop:=
 dh H 1 24 x0 λc f=>
 dK f 2 24 λd e=>
  cy env Tryz.f26 0 jJ [(4,(.v (.int .i64 0))),(1,c),(3,(.v (.slice none 0 0))),(2,d)] e Q
theorem yr(h : ∀g:fq,rR x0 H Q):fa Tryz.f26 0 [(0,x0)] H Q:=uP rI (by kernel_rfl) h
def fm(g:Nat->AV)(x4 a t b:AV)(H:aa)(Q:AV->aa->Prop):Prop:=
 ah 24 a 0 λz=>
 ab H 22 z λx=>
 dg H 8 22 x λy=>
 fC 3 5 8 x4 y λA=>
 br (some A) (
 ah 24 a 0 λe=>
 ab H 22 e λw=>
 dF H 22 w x4 λo=>
 ah 78 o 0 λu=>
 ab H 3 u λh=>
 ah 24 a 0 λq=>
 ab H 22 q λj=>
 dF H 22 j x4 λk=>
 ah 78 k 1 λp=>
 ab H 76 p λi=>
 kA (ee env.P false H (Ref.mk 0 25 (aa.gen H 0 25) 0) (some 76) (some 76) (.v (.slice none 0 0)) i) λs c=>
 ur 78 0 h 1 s λf=>
 kA (lI env.P true true c (Ref.mk 0 27 (aa.gen c 0 27) 0) 22 1 (some [(0,f)])) λl d=>
 dI d 28 22 22 t l λn B=>
 gJ 3 10 1 x4 λm=>
  cy env Tryz.f26 0 jJ [(4,m),(1,a),(3,n),(2,b)] B Q) (
 ah 24 a 0 λe=>
 aM H 22 e t λw c=>
 ab c 24 a λo=>
 aM c 24 b o λu d=>
 aZ d b 24 λh=>
 Q h d)
theorem pR(x4 a c b:AV)(H:aa)(Q:AV->aa->Prop)(h : ∀g,fm g x4 a c b H Q):cy env Tryz.f26 0 jJ [(4,x4),(1,a),(3,c),(2,b)] H Q:=uc rI (by kernel_rfl) h
def il:=ta Tryz.f57 2
def sx:Nat->Option (List Nat):=λi=>cond (Nat.beq i 2) (some [3,1]) (none)
def sT:Prop:=
 dh H 1 24 x0 λc d=>
  cy env Tryz.f57 0 il [(3,(.v (.int .i64 0))),(1,c)] d Q
theorem zw(h : ∀g:fq,sT x0 H Q):fa Tryz.f57 0 [(0,x0)] H Q:=uP sx (by kernel_rfl) h
def bR(g:Nat->AV)(C a:AV)(H:aa)(Q:AV->aa->Prop):Prop:=
 ah 24 a 0 λU=>
 ab H 22 U λS=>
 dg H 8 22 S λT=>
 fC 3 5 8 C T λW=>
 br (some W) (
 ah 24 a 0 λD=>
 ab H 22 D λL=>
 dF H 22 L C λA=>
 ab H 78 A λE=>
 dK H 4 78 λp V=>
 aM V 78 p E λB l=>
 ah 78 p 0 λf=>
 ab l 3 f λw=>
 om 3 18 0 w λi=>
 gQ i false (au 78 p 0) λs=>
 gQ i false (an l 3 s) λj=>
 gQ i false (oh 3 22 6146 j) λo=>
 dH i o λe=>
 gQ e false (bX C) λt=>
 gQ e false (GI 3 26 0 t) λd=>
 gQ e false (bX d) λc=>
 gQ c true (au 78 p 0) λq=>
 gQ c true (an l 3 q) λz=>
 gQ c true (au 24 a 0) λh=>
 gQ c true (an l 22 h) λy=>
 gQ c true (bX C) λn=>
 gQ c true (aae 3 33 1 n) λx=>
 gQ c true (Mn l 22 y x) λu=>
 gQ c true (au 78 u 0) λm=>
 gQ c true (an l 3 m) λJ=>
 gQ c true (OM 3 30 37 z J) λG=>
 gQ e false (Fs c G) λR=>
 dH e R λk=>
 gQ k false (au 78 p 1) λO=>
 gQ k false (an l 76 O) λM=>
 gQ k false (Ft l 44 76 M) λI=>
 gQ k false (wQ 3 44 128 I) λK=>
 dH k K λN=>
 br (some N) (
 Q (.v (.bool false)) l) (
 gJ 3 10 1 C λF=>
  cy env Tryz.f57 0 il [(3,F),(1,a)] l Q)) (
 ah 24 a 1 λD=>
 ab H 3 D λL=>
 vN 3 48 0 L λA=>
 gQ A true (au 24 a 1) λE=>
 gQ A true (an H 3 E) λp=>
 gQ A true (wR 3 52 2147483648 p) λB=>
 cr A B λf=>
 gQ f true (au 24 a 2) λw=>
 gQ f true (an H 3 w) λi=>
 gQ f true (bZ env.P .geq 3 (Operand.tmp 57) (.const (.int .i64 (-1))) (some i) (some (.v (.int .i64 (-1))))) λs=>
 cr f s λj=>
 gQ j true (au 24 a 2) λo=>
 gQ j true (an H 3 o) λe=>
 gQ j true (wR 3 62 2147483648 e) λt=>
 cr j t λd=>
 gQ d true (au 24 a 3) λc=>
 gQ d true (an H 4 c) λq=>
 gQ d true (vK q) λz=>
 gQ d true (bX z) λh=>
 gQ h false (au 24 a 2) λy=>
 gQ h false (an H 3 y) λn=>
 gQ h false (wP 3 71 0 n) λx=>
 gQ d true (JT h x) λu=>
 cr d u λm=>
 Q m H)
theorem j3(c a:AV)(H:aa)(Q:AV->aa->Prop)(h : ∀g,bR g c a H Q):cy env Tryz.f57 0 il [(3,c),(1,a)] H Q:=uc sx (by kernel_rfl) h
def kH:=ta Tryz.f171 2
def tn:Nat->Option (List Nat):=λi=>cond (Nat.beq i 2) (some [5,2,1]) (none)
def tz:Prop:=
 dh H 2 24 x0 λc d=>
  cy env Tryz.f171 0 kH [(5,(.v (.int .i64 0))),(2,c),(1,a)] d Q
theorem As(h : ∀g:fq,tz x0 a H Q):fa Tryz.f171 0 [(0,x0),(1,a)] H Q:=uP tn (by kernel_rfl) h
def kK(g:Nat->AV)(x5 b a:AV)(H:aa)(Q:AV->aa->Prop):Prop:=
 ah 24 b 0 λs=>
 ab H 22 s λn=>
 dg H 9 22 n λq=>
 fC 3 6 9 x5 q λu=>
 br (some u) (
 ah 24 b 0 λd=>
 ab H 22 d λo=>
 dF H 22 o x5 λt=>
 ah 78 t 0 λm=>
 ab H 3 m λp=>
 vL 3 18 19 p a λk=>
 br (some k) (
 ah 24 b 0 λc=>
 ab H 22 c λh=>
 dF H 22 h x5 λj=>
 ah 78 j 1 λf=>
 ab H 76 f λl=>
 QQ H 27 76 76 l λe i=>
 Q e i) (
 gJ 3 11 1 x5 λc=>
  cy env Tryz.f171 0 kH [(5,c),(2,b),(1,a)] H Q)) (
 QU H 28 76 128 λd i=>
 Q d i)
theorem mZ(x5 b a:AV)(H:aa)(Q:AV->aa->Prop)(h : ∀g,kK g x5 b a H Q):cy env Tryz.f171 0 kH [(5,x5),(2,b),(1,a)] H Q:=uc tn (by kernel_rfl) h
def px:Prop:=
 dh H 2 24 x0 λc q=>
 dK q 4 24 λi h=>
 ah 24 c 1 λo=>
 ab h 3 o λt=>
 gJ 3 6 1 t λl=>
 ah 24 c 1 λn=>
 aM h 3 n l λy u=>
 ah 24 c 2 λm=>
 aM u 3 m a λx w=>
 ah 24 c 3 λf=>
 kA (kn env.P w 4 (some f) (some (AV.v (Value.bool false)))) λp k=>
 ab k 24 c λe=>
 aM k 24 i e λs j=>
 aZ j i 24 λd=>
 Q d j
theorem vS(h : ∀g:fq,px x0 a H Q):fa Tryz.f59 0 [(0,x0),(1,a)] H Q:=kf (by kernel_rfl) h
def sS:Prop:=
 dK H 0 24 λc f=>
 fO (oK env.P 24 (some [(2,(.v (.int .i64 (-1))))])) λe=>
 aM f 24 c e λi d=>
 aZ d c 24 λh=>
 Q h d
theorem zt(h : ∀g:fq,sS H Q):fa Tryz.f60 0 [] H Q:=kf (by kernel_rfl) h
end
section
variable(dep:Nat)(g:Nat->AV)(x0 a:AV)(H:aa)(Q:AV->aa->Prop)
def cJ:Prop:=
 dK H 2 45 λj V=>
 dg V 10 76 x0 λv2=>
 om 3 10 24 v2 λv3=>
 br (some v3) (
 eI 45 λv4=>
 aM V 45 j v4 λv5 T=>
 aZ T j 45 λv6=>
 Q (.tup [v6,(.v (.int .i64 0)),(.v (.int .i64 8))]) T) (
 fD V 76 x0 0 λv4=>
 ab V 5 v4 λv5=>
 fD V 76 x0 23 λv6=>
 ab V 5 v6 λv7=>
 dC V 19 5 3 v7 λv8=>
 bh false V 20 205 [v5,v8] λB T=>
 vM 3 21 0 B λL=>
 gQ L false (bX x0) λv11=>
 gQ L false (Ft T 25 76 v11) λv12=>
 gQ L false (bX B) λv13=>
 gQ L false (QI 3 25 26 v12 v13) λv14=>
 dH L v14 λv15=>
 br (some v15) (
 eI 45 λX=>
 aM T 45 j X λv17 w=>
 aZ w j 45 λZ=>
 Q (.tup [Z,(.v (.int .i64 0)),(.v (.int .i64 8))]) w) (
 fD T 76 x0 0 λX=>
 ab T 5 X λv17=>
 Z5 T 76 x0 λZ=>
 bh false T 35 206 [Z] λv19 w=>
 fD w 76 x0 7 λv20=>
 ab w 5 v20 λv21=>
 dC w 39 5 3 v21 λv22=>
 pM 3 65536 39 v22 λv23=>
 fD w 76 x0 8 λv24=>
 ab w 5 v24 λv25=>
 dC w 44 5 3 v25 λv26=>
 pM 3 256 44 v26 λv27=>
 jZ 3 40 45 v23 v27 λv28=>
 fD w 76 x0 9 λv29=>
 ab w 5 v29 λv30=>
 dC w 50 5 3 v30 λv31=>
 jZ 3 46 50 v28 v31 λv32=>
 fO (dx env.P (aa.get w) 76 (some x0) (oi (.v (.int .i64 10))) (oi (.v (.int .i64 23))) (some none)) λv33=>
 bh false w 54 207 [v33] λv34 H4=>
 fD H4 76 x0 23 λv35=>
 ab H4 5 v35 λv36=>
 dC H4 58 5 3 v36 λv37=>
 ur 42 0 v34 1 v37 λv38=>
 Fq 45 0 v17 1 v19 2 v32 3 v38 λv39=>
 dK H4 6 45 λb H5=>
 aM H5 45 b v39 λv41 W=>
 ah 45 b 0 λv42=>
 ab W 5 v42 λv43=>
 xX 5 62 v43 λv44=>
 br (some v44) (
 fO (dx env.P (aa.get W) 76 (some x0) (oi (.v (.int .i64 24))) (oi (.v (.int .i64 37))) (some none)) λv45=>
 bh true W 66 207 [v45] λv46 Y=>
 ah 45 b 4 λv47=>
 aM Y 40 v47 v46 λR A=>
 fO (dx env.P (aa.get A) 76 (some x0) (oi (.v (.int .i64 37))) (oi B) (some none)) λI=>
 bh true A 72 208 [I] λe O=>
 ba e 0 λz=>
 ba e 1 λN=>
 iW 3 75 0 N λC=>
 br (some C) (
 eI 45 λq=>
 aM O 45 j q λU k=>
 aZ k j 45 λt=>
 Q (.tup [t,(.v (.int .i64 0)),(.v (.int .i64 8))]) k) (
 ah 45 b 6 λq=>
 aM O 43 q z λU k=>
 ah 45 b 0 λt=>
 ab k 5 t λF=>
 Ac 5 81 F λh=>
 br (some h) (
 Z8 k 76 x0 λp=>
 QQ k 85 76 76 p λm n=>
 QN n 86 76 1 λc i=>
 dI i 87 76 76 m c λl d=>
 bh true d 88 206 [l] λK u=>
 fO (uV env.P 38 (some K) 0) λG=>
 ah 45 b 5 λM=>
 aM u 36 M G λS H15=>
 ab H15 45 b λJ=>
 bh false H15 92 97 [J] λs H16=>
 mQ s λf=>
 gQ f false (an H16 45 b) λo=>
 gW f false H16 (fB false H16 96 139 [o]) λE x=>
 gQ f false (xW x 97 76 9 E) λv72=>
 gQ f false (bX x0) λy=>
 gQ f false (bX B) λv74=>
 gQ f false (QJ x 76 y v74) λv75=>
 gQ f false (xW x 101 76 9 v75) λv76=>
 gQ f false (Ca 9 97 101 v72 v76) λv77=>
 dH f v77 λv78=>
 br (some v78) (
 eI 45 λv79=>
 aM x 45 j v79 λv80 D=>
 aZ D j 45 λv81=>
 Q (.tup [v81,(.v (.int .i64 0)),(.v (.int .i64 8))]) D) (
 ab x 45 b λv79=>
 aM x 45 j v79 λv80 D=>
 aZ D j 45 λv81=>
 Q (.tup [v81,B,(.v (.int .i64 0))]) D)) (
 ab k 45 b λp=>
 bh false k 92 97 [p] λm n=>
 mQ m λc=>
 gQ c false (an n 45 b) λl=>
 gW c false n (fB false n 96 139 [l]) λK i=>
 gQ c false (xW i 97 76 9 K) λG=>
 gQ c false (bX x0) λM=>
 gQ c false (bX B) λS=>
 gQ c false (QJ i 76 M S) λJ=>
 gQ c false (xW i 101 76 9 J) λs=>
 gQ c false (Ca 9 97 101 G s) λf=>
 dH c f λo=>
 br (some o) (
 eI 45 λE=>
 aM i 45 j E λv72 d=>
 aZ d j 45 λy=>
 Q (.tup [y,(.v (.int .i64 0)),(.v (.int .i64 8))]) d) (
 ab i 45 b λE=>
 aM i 45 j E λv72 d=>
 aZ d j 45 λy=>
 Q (.tup [y,B,(.v (.int .i64 0))]) d)))) (
 ah 45 b 0 λv45=>
 ab W 5 v45 λv46=>
 Ac 5 81 v46 λv47=>
 br (some v47) (
 Z8 W 76 x0 λR=>
 QQ W 85 76 76 R λI Y=>
 QN Y 86 76 1 λe A=>
 dI A 87 76 76 I e λz O=>
 bh true O 88 206 [z] λN k=>
 fO (uV env.P 38 (some N) 0) λC=>
 ah 45 b 5 λq=>
 aM k 36 q C λU n=>
 ab n 45 b λt=>
 bh false n 92 97 [t] λF i=>
 mQ F λh=>
 gQ h false (an i 45 b) λp=>
 gW h false i (fB false i 96 139 [p]) λm d=>
 gQ h false (xW d 97 76 9 m) λc=>
 gQ h false (bX x0) λl=>
 gQ h false (bX B) λK=>
 gQ h false (QJ d 76 l K) λG=>
 gQ h false (xW d 101 76 9 G) λM=>
 gQ h false (Ca 9 97 101 c M) λS=>
 dH h S λJ=>
 br (some J) (
 eI 45 λs=>
 aM d 45 j s λf u=>
 aZ u j 45 λo=>
 Q (.tup [o,(.v (.int .i64 0)),(.v (.int .i64 8))]) u) (
 ab d 45 b λs=>
 aM d 45 j s λf u=>
 aZ u j 45 λo=>
 Q (.tup [o,B,(.v (.int .i64 0))]) u)) (
 ab W 45 b λR=>
 bh false W 92 97 [R] λI Y=>
 mQ I λe=>
 gQ e false (an Y 45 b) λz=>
 gW e false Y (fB false Y 96 139 [z]) λN A=>
 gQ e false (xW A 97 76 9 N) λC=>
 gQ e false (bX x0) λq=>
 gQ e false (bX B) λU=>
 gQ e false (QJ A 76 q U) λt=>
 gQ e false (xW A 101 76 9 t) λF=>
 gQ e false (Ca 9 97 101 C F) λh=>
 dH e h λp=>
 br (some p) (
 eI 45 λm=>
 aM A 45 j m λc O=>
 aZ O j 45 λl=>
 Q (.tup [l,(.v (.int .i64 0)),(.v (.int .i64 8))]) O) (
 ab A 45 b λm=>
 aM A 45 j m λc O=>
 aZ O j 45 λl=>
 Q (.tup [l,B,(.v (.int .i64 0))]) O)))))
theorem zB(h : ∀g:fq,cJ x0 H Q):fa Tryz.f200 0 [(0,x0)] H Q:=kf (by kernel_rfl) h
def jm:=ta Tryz.f98 2
def qI:Nat->Option (List Nat):=λi=>cond (Nat.beq i 2) (some [3,1]) (none)
def qV:Prop:=
 dh H 1 45 x0 λb c=>
  cy env Tryz.f98 0 jm [(3,(.v (.int .i64 0))),(1,b)] c Q
theorem xz(h : ∀g:fq,qV x0 H Q):fa Tryz.f98 0 [(0,x0)] H Q:=uP qI (by kernel_rfl) h
def jv(g:Nat->AV)(b a:AV)(H:aa)(Q:AV->aa->Prop):Prop:=
 ah 45 a 6 λk=>
 ab H 43 k λf=>
 dg H 7 43 f λj=>
 fC 3 4 7 b j λm=>
 br (some m) (
 ah 45 a 6 λd=>
 ab H 43 d λh=>
 dF H 43 h b λl=>
 ab H 21 l λe=>
 fO (bZ env.P .eql 21 (Operand.tmp 15) (.const (.int .i32 (-1))) (some e) (some (.v (.int .i32 (-1))))) λi=>
 br (some i) (
 Q (.v (.bool false)) H) (
 gJ 3 9 1 b λc=>
  cy env Tryz.f98 0 jm [(3,c),(1,a)] H Q)) (
 Q (.v (.bool true)) H)
theorem o6(b a:AV)(H:aa)(Q:AV->aa->Prop)(h : ∀g,jv g b a H Q):cy env Tryz.f98 0 jm [(3,b),(1,a)] H Q:=uc qI (by kernel_rfl) h
def gx:Prop:=
 om 3 5 1 a λb=>
 gQ b false (bX a) λe=>
 gQ b false (GI 3 8 64 e) λf=>
 dH b f λi=>
 br (some i) (
 Q (.v (.int .i64 0)) H) (
 xX 5 11 x0 λh=>
 br (some h) (
 pM 3 4 13 a λc=>
 Mr 3 37 14 c λd=>
 Q d H) (
 GH 5 16 x0 λc=>
 br (some c) (
 Q (.v (.int .i64 24)) H) (
 Ac 5 18 x0 λd=>
 br (some d) (
 Q (.v (.int .i64 29)) H) (
 Q (.v (.int .i64 0)) H))))
theorem yB(h : ∀g:fq,gx x0 a H Q):fa Tryz.f205 0 [(0,x0),(1,a)] H Q:=kf (by kernel_rfl) h
def bg:Prop:=
 dh H 1 45 x0 λe H1=>
 ah 45 e 1 λv2=>
 ab H1 38 v2 λv3=>
 bh true H1 6 96 [v3] λv4 J=>
 mQ v4 λK=>
 gQ K false (au 45 e 2) λv6=>
 gQ K false (an J 3 v6) λv7=>
 gQ K false (wR 3 10 1 v7) λv8=>
 dH K v8 λL=>
 gQ L false (au 45 e 2) λX=>
 gQ L false (an J 3 X) λZ=>
 gQ L false (oh 3 15 16777216 Z) λv12=>
 dH L v12 λl=>
 gQ l false (au 45 e 3) λT=>
 gQ l false (an J 42 T) λv15=>
 gW l false J (fB true J 21 133 [v15]) λN o=>
 gQ l false (vK N) λV=>
 dH l V λW=>
 br (some W) (
 Q (.v (.bool false)) o) (
 ah 45 e 5 λv19=>
 ab o 36 v19 λv20=>
 eI 36 λS=>
 vL 36 25 26 v20 S λh=>
 ah 45 e 0 λv23=>
 ab o 5 v23 λv24=>
 xX 5 29 v24 λM=>
 br (some M) (
 gQ h true (au 45 e 4) λE=>
 gQ h true (an o 40 E) λD=>
 gW h true o (fB true o 35 134 [D]) λp j=>
 gQ h true (bX p) λc=>
 gQ c false (au 45 e 4) λw=>
 gQ c false (an j 40 w) λI=>
 gW c false j (fB true j 39 135 [I]) λC m=>
 gQ h true (JT c C) λF=>
 cr h F λd=>
 gQ d true (au 45 e 3) λz=>
 gQ d true (au 42 z 0) λA=>
 gQ d true (au 40 A 0) λn=>
 gQ d true (an m 38 n) λt=>
 gQ d true (au 45 e 1) λf=>
 gQ d true (an m 38 f) λu=>
 gQ d true (iu 38 46 48 t u) λG=>
 cr d G λb=>
 gQ b true (au 45 e 6) λi=>
 gQ b true (an m 43 i) λB=>
 gQ b true (Ft m 54 43 B) λq=>
 gQ b true (au 45 e 3) λy=>
 gQ b true (au 42 y 1) λx=>
 gQ b true (an m 3 x) λs=>
 gQ b true (iu 3 54 57 q s) λR=>
 cr b R λk=>
 gQ k true (au 45 e 6) λO=>
 gQ k true (an m 43 O) λv52=>
 gW k true m (fB true m 63 136 [v52]) λU H6=>
 gQ k true (wP 3 63 0 U) λY=>
 cr k Y λv55=>
 Q v55 H6) (
 ah 45 e 4 λE=>
 ab o 40 E λD=>
 bh true o 68 134 [D] λp j=>
 mQ p λc=>
 gQ c false (au 45 e 6) λw=>
 gQ c false (an j 43 w) λI=>
 gQ c false (Ft j 73 43 I) λC=>
 gQ c false (GI 3 73 0 C) λF=>
 dH c F λd=>
 br (some d) (
 Q (.v (.bool false)) j) (
 ah 45 e 0 λz=>
 ab j 5 z λA=>
 GH 5 77 A λn=>
 gQ n true (bX h) λt=>
 cr n t λf=>
 gQ f false (au 45 e 0) λu=>
 gQ f false (an j 5 u) λG=>
 gQ f false (bZ env.P .eql 5 (Operand.tmp 84) (.const (.int .u8 3)) (some G) (some (a8 3))) λb=>
 gQ f false (bX b) λi=>
 gQ i true (au 45 e 5) λB=>
 gQ i true (an j 36 B) λq=>
 gW i true j (fB true j 89 132 [q]) λy m=>
 gQ f false (Fs i y) λx=>
 dH f x λs=>
 Q s m)))
theorem zA(h : ∀g:fq,bg x0 H Q):fa Tryz.f97 0 [(0,x0)] H Q:=kf (by kernel_rfl) h
def im:Prop:=
 dh H 1 45 x0 λb H1=>
 ah 45 b 0 λv2=>
 ab H1 5 v2 λv3=>
 QM H1 6 76 1 0 v3 λv4 H2=>
 ah 45 b 1 λv5=>
 ab H2 38 v5 λv6=>
 bh false H2 9 138 [v6] λv7 H3=>
 dI H3 10 76 76 v4 v7 λv8 x=>
 ah 45 b 2 λv9=>
 ab x 3 v9 λv10=>
 sd 3 13 65536 v10 λO=>
 dC x 15 3 5 O λv12=>
 ah 45 b 2 λv13=>
 ab x 3 v13 λI=>
 sd 3 17 256 I λv15=>
 oL 3 18 256 v15 λF=>
 dC x 20 3 5 F λv17=>
 ah 45 b 2 λJ=>
 ab x 3 J λv19=>
 oL 3 22 256 v19 λR=>
 dC x 24 3 5 R λv21=>
 Mq x 25 76 3 0 v12 1 v17 2 v21 λY H5=>
 dI H5 26 76 76 v8 Y λT H6=>
 ah 45 b 3 λW=>
 ah 42 W 0 λv25=>
 ab H6 40 v25 λU=>
 bh true H6 31 167 [U] λN H7=>
 dI H7 32 76 76 T N λZ G=>
 ah 45 b 3 λK=>
 ah 42 K 1 λv30=>
 ab G 3 v30 λX=>
 dC G 37 3 5 X λv32=>
 qB G 38 76 1 0 v32 λV H9=>
 dI H9 39 76 76 Z V λq c=>
 ah 45 b 0 λv35=>
 ab c 5 v35 λL=>
 xX 5 41 L λv37=>
 br (some v37) (
 ah 45 b 4 λA=>
 ab c 40 A λB=>
 bh true c 45 134 [B] λw e=>
 br (some w) (
 kA (ee env.P true e (Ref.mk 0 47 (aa.gen e 0 47) 0) (some 76) (some 3) q (.v (.int .i64 13))) λm i=>
 ah 45 b 6 λk=>
 ab i 43 k λn=>
 bh true i 56 168 [n] λl p=>
 dI p 57 76 76 m l λf h=>
 ah 45 b 0 λj=>
 ab h 5 j λC=>
 Ac 5 59 C λo=>
 br (some o) (
 ah 45 b 5 λz=>
 ab h 36 z λy=>
 wO 38 0 y λt=>
 bh true h 65 138 [t] λE d=>
 JU d 76 E λu=>
 dI d 67 76 76 f u λD s=>
 Q D s) (
 Q f h)) (
 ah 45 b 4 λm=>
 ab e 40 m λk=>
 bh true e 51 167 [k] λn i=>
 dI i 52 76 76 q n λl p=>
 ah 45 b 6 λf=>
 ab p 43 f λj=>
 bh true p 56 168 [j] λC h=>
 dI h 57 76 76 l C λo d=>
 ah 45 b 0 λz=>
 ab d 5 z λy=>
 Ac 5 59 y λt=>
 br (some t) (
 ah 45 b 5 λE=>
 ab d 36 E λu=>
 wO 38 0 u λD=>
 bh true d 65 138 [D] λv55 s=>
 JU s 76 v55 λv56=>
 dI s 67 76 76 o v56 λM S=>
 Q M S) (
 Q o d))) (
 ah 45 b 0 λA=>
 ab c 5 A λB=>
 Ac 5 59 B λw=>
 br (some w) (
 ah 45 b 5 λm=>
 ab c 36 m λk=>
 wO 38 0 k λn=>
 bh true c 65 138 [n] λl e=>
 JU e 76 l λf=>
 dI e 67 76 76 q f λj i=>
 Q j i) (
 Q q c))
theorem xA(h : ∀g:fq,im x0 H Q):fa Tryz.f139 0 [(0,x0)] H Q:=kf (by kernel_rfl) h
def k9:=ta Tryz.f206 3
def pZ:Nat->Option (List Nat):=λi=>cond (Nat.beq i 3) (some [4,0,3,2]) (none)
def ql:Prop:=
 dK H 2 38 λb c=>
  cy env Tryz.f206 0 k9 [(4,(.v (.int .i64 1))),(0,x0),(3,(.v (.int .i64 0))),(2,b)] c Q
theorem wK(h : ∀g:fq,ql x0 H Q):fa Tryz.f206 0 [(0,x0)] H Q:=uP pZ (by kernel_rfl) h
def eQ(g:Nat->AV)(x4 x0 k j:AV)(H:aa)(Q:AV->aa->Prop):Prop:=
 om 3 5 5 x4 λn=>
 br (some n) (
 pM 3 256 9 k λc=>
 dF H 76 x0 x4 λe=>
 ab H 5 e λh=>
 dC H 15 5 3 h λb=>
 jZ 3 10 15 c b λd=>
 gJ 3 7 1 x4 λf=>
  cy env Tryz.f206 0 k9 [(4,f),(0,x0),(3,d),(2,j)] H Q) (
 fD H 76 x0 0 λc=>
 ab H 5 c λe=>
 dC H 21 3 34 k λh=>
 ur 36 0 e 1 h λb=>
 fD H 76 x0 5 λd=>
 ab H 5 d λf=>
 ur 38 0 b 1 f λm=>
 aM H 38 j m λo l=>
 aZ l j 38 λi=>
 Q i l)
theorem fU(x4 x0 b c:AV)(H:aa)(Q:AV->aa->Prop)(h : ∀g,eQ g x4 x0 b c H Q):cy env Tryz.f206 0 k9 [(4,x4),(0,x0),(3,b),(2,c)] H Q:=uc pZ (by kernel_rfl) h
def iH:=ta Tryz.f207 3
def tp:Nat->Option (List Nat):=λi=>cond (Nat.beq i 3) (some [4,0,3,2]) (none)
def tA:Prop:=
 dK H 2 40 λb c=>
  cy env Tryz.f207 0 iH [(4,(.v (.int .i64 6))),(0,x0),(3,(.v (.int .i64 0))),(2,b)] c Q
theorem Au(h : ∀g:fq,tA x0 H Q):fa Tryz.f207 0 [(0,x0)] H Q:=uP tp (by kernel_rfl) h
def nC(g:Nat->AV)(x4 x0 h f:AV)(H:aa)(Q:AV->aa->Prop):Prop:=
 om 3 5 13 x4 λk=>
 br (some k) (
 pM 3 256 9 h λb=>
 dF H 76 x0 x4 λd=>
 ab H 5 d λe=>
 dC H 15 5 3 e λi=>
 jZ 3 10 15 b i λc=>
 gJ 3 7 1 x4 λm=>
  cy env Tryz.f207 0 iH [(4,m),(0,x0),(3,c),(2,f)] H Q) (
 fO (dx env.P (aa.get H) 76 (some x0) (some none) (oi (.v (.int .i64 6))) (some none)) λb=>
 bh true H 19 206 [b] λd l=>
 ur 40 0 d 1 h λe=>
 aM l 40 f e λi j=>
 aZ j f 40 λc=>
 Q c j)
theorem ry(x4 x0 b c:AV)(H:aa)(Q:AV->aa->Prop)(h : ∀g,nC g x4 x0 b c H Q):cy env Tryz.f207 0 iH [(4,x4),(0,x0),(3,b),(2,c)] H Q:=uc tp (by kernel_rfl) h
def fL:=ta Tryz.f208 5
def sA:Nat->Option (List Nat):=λi=>cond (Nat.beq i 5) (some [5,4,0]) (none)
def sW:Prop:=
 dg H 8 76 x0 λb=>
 Ad 3 8 256 b λc=>
 br (some c) (
 Q (.tup [(.v (.slice none 0 0)),(.v (.int .i64 4))]) H) (
  cy env Tryz.f208 0 fL [(5,(.v (.int .i64 0))),(4,(.v (.slice none 0 0))),(0,x0)] H Q)
theorem zF(h : ∀g:fq,sW x0 H Q):fa Tryz.f208 0 [(0,x0)] H Q:=uP sA (by kernel_rfl) h
def eP(g:Nat->AV)(x5 x4 x0:AV)(H:aa)(Q:AV->aa->Prop):Prop:=
 gJ 3 10 3 x5 λK=>
 dg H 13 76 x0 λF=>
 fC 3 11 13 K F λI=>
 br (some I) (
 dF H 76 x0 x5 λB=>
 ab H 5 B λh=>
 dC H 21 5 3 h λt=>
 pM 3 16777216 21 t λL=>
 gJ 3 24 1 x5 λE=>
 dF H 76 x0 E λG=>
 ab H 5 G λq=>
 dC H 28 5 3 q λu=>
 pM 3 65536 28 u λx=>
 jZ 3 22 29 L x λA=>
 gJ 3 32 2 x5 λm=>
 dF H 76 x0 m λD=>
 ab H 5 D λk=>
 dC H 36 5 3 k λo=>
 pM 3 256 36 o λp=>
 jZ 3 30 37 A p λz=>
 gJ 3 40 3 x5 λw=>
 dF H 76 x0 w λl=>
 ab H 5 l λC=>
 dC H 44 5 3 C λy=>
 jZ 3 38 44 z y λe=>
 vM 3 46 4294967295 e λj=>
 br (some j) (
 kA (lI env.P false true H (Ref.mk 0 49 (aa.gen H 0 49) 0) 43 1 (some [(0,(.v (.int .i32 (-1))))])) λd f=>
 dI f 50 43 43 x4 d λc i=>
 gJ 3 15 4 x5 λb=>
  cy env Tryz.f208 0 fL [(5,b),(4,c),(0,x0)] i Q) (
 bh true H 52 165 [e] λd f=>
 br (some d) (
 dC f 55 3 21 e λc=>
 qB f 56 43 1 0 c λb i=>
 dI i 57 43 43 x4 b λs J=>
 gJ 3 15 4 x5 λn=>
  cy env Tryz.f208 0 fL [(5,n),(4,s),(0,x0)] J Q) (
 Q (.tup [(.v (.slice none 0 0)),(.v (.int .i64 8))]) f))) (
 dg H 59 76 x0 λB=>
 oL 3 59 4 B λh=>
 iW 3 60 0 h λt=>
 br (some t) (
 Q (.tup [(.v (.slice none 0 0)),(.v (.int .i64 8))]) H) (
 Q (.tup [x4,(.v (.int .i64 0))]) H))
theorem j4(x5 x4 x0:AV)(H:aa)(Q:AV->aa->Prop)(h : ∀g,eP g x5 x4 x0 H Q):cy env Tryz.f208 0 fL [(5,x5),(4,x4),(0,x0)] H Q:=uc sA (by kernel_rfl) h
def oD:Prop:=
 dh H 1 38 x0 λc d=>
 ah 38 c 0 λj=>
 ab d 36 j λl=>
 bh true d 5 132 [l] λb e=>
 gQ b true (au 38 c 1) λf=>
 gQ b true (an e 5 f) λk=>
 gQ b true (bZ env.P .lss 5 (Operand.tmp 8) (.const (.int .u8 8)) (some k) (some (a8 8))) λh=>
 cr b h λi=>
 Q i e
theorem uR(h : ∀g:fq,oD x0 H Q):fa Tryz.f96 0 [(0,x0)] H Q:=kf (by kernel_rfl) h
def gG:Prop:=
 dh H 1 42 x0 λd s=>
 ah 42 d 0 λu=>
 ab s 40 u λy=>
 bh true s 5 135 [y] λf c=>
 gQ f true (au 42 d 1) λt=>
 gQ f true (an c 3 t) λw=>
 gQ f true (oh 3 8 1 w) λz=>
 cr f z λe=>
 gQ e true (au 42 d 1) λx=>
 gQ e true (an c 3 x) λp=>
 gQ e true (AA 3 13 64 p) λj=>
 cr e j λb=>
 gQ b true (au 42 d 0) λo=>
 gQ b true (au 40 o 1) λi=>
 gQ b true (an c 3 i) λq=>
 gQ b true (au 42 d 1) λh=>
 gQ b true (an c 3 h) λl=>
 gQ b true (bZ env.P .sub 3 (Operand.const (Value.int IntKind.i64 1099511627777)) (Operand.tmp 21) (some (AV.v (Value.int IntKind.i64 1099511627777))) (some l)) λn=>
 gQ b true (OM 3 19 22 q n) λm=>
 cr b m λk=>
 Q k c
theorem vU(h : ∀g:fq,gG x0 H Q):fa Tryz.f133 0 [(0,x0)] H Q:=kf (by kernel_rfl) h
def rV:Prop:=
 dh H 1 40 x0 λc b=>
 ab b 40 c λd=>
 eI 40 λe=>
 vL 40 3 4 d e λf=>
 Q f b
theorem yz(h : ∀g:fq,rV x0 H Q):fa Tryz.f134 0 [(0,x0)] H Q:=kf (by kernel_rfl) h
def sV:Prop:=
 dh H 1 40 x0 λd j=>
 ah 40 d 0 λm=>
 ab j 38 m λp=>
 bh true j 5 96 [p] λc e=>
 gQ c true (au 40 d 1) λk=>
 gQ c true (an e 3 k) λn=>
 gQ c true (oh 3 8 1 n) λl=>
 cr c l λb=>
 gQ b true (au 40 d 1) λo=>
 gQ b true (an e 3 o) λf=>
 gQ b true (AA 3 13 1099511627776 f) λh=>
 cr b h λi=>
 Q i e
theorem zE(h : ∀g:fq,sV x0 H Q):fa Tryz.f135 0 [(0,x0)] H Q:=kf (by kernel_rfl) h
def jn:=ta Tryz.f136 4
def qJ:Nat->Option (List Nat):=λi=>cond (Nat.beq i 4) (some [3,0]) (none)
def mP:Prop:=
 dg H 5 43 x0 λb=>
 Ad 3 5 64 b λc=>
 br (some c) (
 Q (.v (.int .i64 4)) H) (
  cy env Tryz.f136 0 jn [(3,(.v (.int .i64 0))),(0,x0)] H Q)
theorem xE(h : ∀g:fq,mP x0 H Q):fa Tryz.f136 0 [(0,x0)] H Q:=uP qJ (by kernel_rfl) h
def gH(g:Nat->AV)(c x0:AV)(H:aa)(Q:AV->aa->Prop):Prop:=
 dg H 9 43 x0 λp=>
 fC 3 7 9 c p λl=>
 br (some l) (
 dF H 43 x0 c λo=>
 ab H 21 o λs=>
 Z7 21 16 s λb=>
 gQ b true (bX x0) λm=>
 gQ b true (bX c) λq=>
 gQ b true (Mn H 43 m q) λk=>
 gQ b true (an H 21 k) λn=>
 gQ b true (xW H 23 21 3 n) λi=>
 gW b true H (fB true H 24 165 [i]) λe j=>
 gQ b true (vK e) λf=>
 cr b f λh=>
 br (some h) (
 Q (.v (.int .i64 8)) j) (
 gJ 3 11 1 c λd=>
  cy env Tryz.f136 0 jn [(3,d),(0,x0)] j Q)) (
 Q (.v (.int .i64 0)) H)
theorem o7(b x0:AV)(H:aa)(Q:AV->aa->Prop)(h : ∀g,gH g b x0 H Q):cy env Tryz.f136 0 jn [(3,b),(0,x0)] H Q:=uc qJ (by kernel_rfl) h
def sX:Prop:=
 dh H 1 36 x0 λc b=>
 ah 36 c 0 λd=>
 ab b 5 d λe=>
 fO (bZ env.P .leq 5 (Operand.tmp 4) (.const (.int .u8 15)) (some e) (some (a8 15))) λf=>
 Q f b
theorem zG(h : ∀g:fq,sX x0 H Q):fa Tryz.f132 0 [(0,x0)] H Q:=kf (by kernel_rfl) h
def qW:Prop:=
 dh H 1 38 x0 λf k=>
 ah 38 f 0 λo=>
 ah 36 o 0 λs=>
 ab k 5 s λx=>
 QM k 7 76 1 0 x λm b=>
 ah 38 f 0 λp=>
 ah 36 p 1 λw=>
 ab b 34 w λn=>
 dC b 11 34 3 n λq=>
 bh false b 12 166 [q,(.v (.int .i64 4))] λi y=>
 dI y 13 76 76 m i λd l=>
 ah 38 f 1 λe=>
 ab l 5 e λh=>
 qB l 17 76 1 0 h λc u=>
 dI u 18 76 76 d c λj t=>
 Q j t
theorem xC(h : ∀g:fq,qW x0 H Q):fa Tryz.f138 0 [(0,x0)] H Q:=kf (by kernel_rfl) h
def qX:Prop:=
 dh H 1 40 x0 λb c=>
 ah 40 b 0 λk=>
 ab c 38 k λm=>
 bh false c 5 138 [m] λi d=>
 ah 40 b 1 λe=>
 ab d 3 e λl=>
 bh false d 8 166 [l,(.v (.int .i64 7))] λf j=>
 dI j 9 76 76 i f λh n=>
 Q h n
theorem xD(h : ∀g:fq,qX x0 H Q):fa Tryz.f167 0 [(0,x0)] H Q:=kf (by kernel_rfl) h
def gR:=ta Tryz.f168 3
def rM:Nat->Option (List Nat):=λi=>cond (Nat.beq i 3) (some [4,3,0]) (none)
def rW:Prop:=
 cy env Tryz.f168 0 gR [(4,(.v (.int .i64 0))),(3,(.v (.slice none 0 0))),(0,x0)] H Q
theorem yD(h : ∀g:fq,rW x0 H Q):fa Tryz.f168 0 [(0,x0)] H Q:=uP rM (by kernel_rfl) h
def fp(g:Nat->AV)(x4 n x0:AV)(H:aa)(Q:AV->aa->Prop):Prop:=
 dg H 8 43 x0 λy=>
 fC 3 6 8 x4 y λu=>
 br (some u) (
 dF H 43 x0 x4 λx=>
 ab H 21 x λz=>
 dC H 16 21 3 z λm=>
 om 3 17 0 m λw=>
 br (some w) (
 Uc 3 20 16777216 4294967295 λt=>
 dC H 22 3 5 t λp=>
 Uc 3 23 65536 4294967295 λq=>
 oL 3 24 256 q λk=>
 dC H 26 3 5 k λd=>
 Uc 3 27 256 4294967295 λe=>
 oL 3 28 256 e λj=>
 dC H 30 3 5 j λc=>
 fO (bZ env.P .rem 3 (Operand.tmp 31) (Operand.const (Value.int IntKind.i64 256)) (some (AV.v (Value.int IntKind.i64 4294967295))) (some (AV.v (Value.int IntKind.i64 256)))) λl=>
 dC H 33 3 5 l λb=>
 QO H 34 76 4 0 p 1 d 2 c 3 b λf s=>
 dI s 35 76 76 n f λi o=>
 gJ 3 10 1 x4 λh=>
  cy env Tryz.f168 0 gR [(4,h),(3,i),(0,x0)] o Q) (
 sd 3 20 16777216 m λt=>
 dC H 22 3 5 t λp=>
 sd 3 23 65536 m λq=>
 oL 3 24 256 q λk=>
 dC H 26 3 5 k λd=>
 sd 3 27 256 m λe=>
 oL 3 28 256 e λj=>
 dC H 30 3 5 j λc=>
 oL 3 31 256 m λl=>
 dC H 33 3 5 l λb=>
 QO H 34 76 4 0 p 1 d 2 c 3 b λf s=>
 dI s 35 76 76 n f λi o=>
 gJ 3 10 1 x4 λh=>
  cy env Tryz.f168 0 gR [(4,h),(3,i),(0,x0)] o Q)) (
 Q n H)
theorem pT(x4 b x0:AV)(H:aa)(Q:AV->aa->Prop)(h : ∀g,fp g x4 b x0 H Q):cy env Tryz.f168 0 gR [(4,x4),(3,b),(0,x0)] H Q:=uc rM (by kernel_rfl) h
def tB:Prop:=
 vN 3 3 0 x0 λc=>
 gQ c true (bX x0) λj=>
 gQ c true (AA 3 6 1114111 j) λm=>
 cr c m λb=>
 gQ b true (bX x0) λh=>
 gQ b true (wR 3 10 55296 h) λk=>
 gQ b true (bX k) λd=>
 gQ d false (bX x0) λi=>
 gQ d false (GI 3 13 57343 i) λl=>
 gQ b true (JT d l) λe=>
 cr b e λf=>
 Q f H
theorem Av(h : ∀g:fq,tB x0 H Q):fa Tryz.f165 0 [(0,x0)] H Q:=kf (by kernel_rfl) h
def mg:=ta Tryz.f166 3
def rL:Nat->Option (List Nat):=λi=>cond (Nat.beq i 3) (some [6,0,5,1]) (none)
def nE:Prop:=
 cy env Tryz.f166 0 mg [(6,(.v (.int .i64 0))),(0,x0),(5,(.v (.slice none 0 0))),(1,a)] H Q
theorem rz(h : ∀g:fq,nE x0 a H Q):fa Tryz.f166 0 [(0,x0),(1,a)] H Q:=uP rL (by kernel_rfl) h
def bo(g:Nat->AV)(b x0 x5 a:AV)(H:aa)(Q:AV->aa->Prop):Prop:=
 fC 3 7 8 b a λi=>
 br (some i) (
 oL 3 12 256 x0 λe=>
 dC H 14 3 5 e λh=>
 qB H 15 76 1 0 h λl j=>
 dI j 17 76 76 l x5 λc d=>
 sd 3 18 256 x0 λf=>
 gJ 3 10 1 b λk=>
  cy env Tryz.f166 0 mg [(6,k),(0,f),(5,c),(1,a)] d Q) (
 Q x5 H)
theorem bD(b x0 x5 a:AV)(H:aa)(Q:AV->aa->Prop)(h : ∀g,bo g b x0 x5 a H Q):cy env Tryz.f166 0 mg [(6,b),(0,x0),(5,x5),(1,a)] H Q:=uc rL (by kernel_rfl) h
def nD:Prop:=
 dh H 1 45 x0 λb i=>
 dK i 2 45 λf d=>
 ah 45 b 6 λo=>
 ab d 43 o λl=>
 QQ d 5 43 43 l λj m=>
 ah 45 b 6 λn=>
 aM m 43 n j λp h=>
 ab h 45 b λk=>
 aM h 45 f k λq e=>
 aZ e f 45 λc=>
 Q c e
theorem yA(h : ∀g:fq,nD x0 H Q):fa Tryz.f90 0 [(0,x0)] H Q:=kf (by kernel_rfl) h
def nr:Prop:=
 dh H 2 51 x0 λj K=>
 dh K 3 51 a λh e=>
 ah 51 j 0 λI=>
 ab e 5 I λL=>
 ah 51 h 0 λE=>
 ab e 5 E λJ=>
 vL 5 6 8 L J λf=>
 gQ f true (au 51 j 1) λF=>
 gQ f true (an e 3 F) λG=>
 gQ f true (au 51 h 1) λs=>
 gQ f true (an e 3 s) λv=>
 gQ f true (iu 3 12 14 G v) λx=>
 cr f x λd=>
 gQ d true (au 51 j 2) λn=>
 gQ d true (an e 45 n) λD=>
 gQ d true (au 51 h 2) λl=>
 gQ d true (an e 45 l) λp=>
 gW d true e (fB true e 22 89 [D,p]) λq i=>
 cr d q λc=>
 gQ c true (au 51 j 3) λw=>
 gQ c true (an i 30 w) λm=>
 gQ c true (au 51 h 3) λC=>
 gQ c true (an i 30 C) λy=>
 gQ c true (iu 30 26 28 m y) λA=>
 cr c A λb=>
 gQ b true (au 51 j 4) λz=>
 gQ b true (an i 49 z) λu=>
 gQ b true (au 51 h 4) λk=>
 gQ b true (an i 49 k) λt=>
 gQ b true (iu 49 33 35 u t) λo=>
 cr b o λB=>
 Q B i
theorem Hp(h : ∀g:fq,nr x0 a H Q):fa Tryz.f55 0 [(0,x0),(1,a)] H Q:=kf (by kernel_rfl) h
def ve:Prop:=
 dh H 1 51 x0 λh e=>
 ab e 51 h λl=>
 wO 107 0 l λo=>
 bh true e 9 51 [o] λf b=>
 ba f 0 λi=>
 ba f 1 λm=>
 mQ m λj=>
 br (some j) (
 Q (.tup [(.v (.int .i64 0)),(.v (.int .i64 8))]) b) (
 dg b 15 76 i λk=>
 gJ 3 15 119 k λn=>
 GJ 3 16 1 n λc=>
 sd 3 17 119 c λd=>
 Q (.tup [d,(.v (.int .i64 0))]) b)
theorem Gb(h : ∀g:fq,ve x0 H Q):fa Tryz.f105 0 [(0,x0)] H Q:=kf (by kernel_rfl) h
def dk:Prop:=
 dh H 1 107 x0 λc H1=>
 ah 107 c 0 λv2=>
 ah 51 v2 0 λv3=>
 ab H1 5 v3 λv4=>
 wO 51 0 v4 λv5=>
 dK H1 4 51 λR H2=>
 aM H2 51 R v5 λv7 C=>
 ah 107 c 0 λv8=>
 ah 51 v8 0 λv9=>
 ab C 5 v9 λv10=>
 xX 5 12 v10 λv11=>
 br (some v11) (
 ah 107 c 0 λv12=>
 ah 51 v12 2 λO=>
 ah 45 O 1 λn=>
 ab C 38 n λu=>
 ah 107 c 0 λm=>
 ah 51 m 1 λf=>
 ab C 3 f λw=>
 ah 51 R 2 λh=>
 ah 45 h 1 λj=>
 aM C 38 j u λd S=>
 ah 51 R 1 λl=>
 aM S 3 l w λy q=>
  qy [(f,j)] [j,l] [] q /\
 (ah 107 c 0 λs=>
 ah 51 s 2 λt=>
 ah 45 t 1 λk=>
 ab q 38 k λG=>
 bh true q 30 81 [G] λz B=>
 ba z 0 λE=>
 ba z 1 λM=>
 ah 107 c 0 λK=>
 ah 51 K 1 λb=>
 ab B 3 b λI=>
 vN 3 35 0 I λe=>
 gQ e true (au 107 c 0) λN=>
 gQ e true (au 51 N 1) λF=>
 gQ e true (an B 3 F) λi=>
 gQ e true (AA 3 40 255 i) λv38=>
 cr e v38 λL=>
 ah 107 c 0 λV=>
 ah 51 V 1 λv41=>
 ab B 3 v41 λD=>
 dC B 47 3 5 D λv43=>
 qB B 48 76 1 0 v43 λZ p=>
 dI p 49 76 76 E Z λv45 H8=>
 ah 107 c 0 λW=>
 ah 51 W 0 λv47=>
 ab H8 5 v47 λU=>
 qB H8 111 76 1 0 U λv49 H9=>
 dI H9 113 76 76 v49 v45 λX x=>
 gQ L true (bX M) λT=>
 gQ L true (wP 30 116 0 T) λv52=>
 cr L v52 λo=>
 gQ o true (au 107 c 0) λv54=>
 gQ o true (an x 51 v54) λv55=>
 gQ o true (an x 51 R) λv56=>
 gW o true x (fB true x 123 55 [v55,v56]) λY A=>
 cr o Y λv58=>
 Q (.tup [X,v58]) A)) (
 GH 5 12 v10 λv12=>
 br (some v12) (
 ah 107 c 0 λO=>
 ah 51 O 2 λn=>
 ab C 45 n λu=>
 ah 107 c 0 λm=>
 ah 51 m 3 λf=>
 ab C 30 f λw=>
 ah 51 R 2 λh=>
 aM C 45 h u λj S=>
 ah 51 R 3 λd=>
 aM S 30 d w λl q=>
  qy [(f,h)] [h,d] [] q /\
 (ah 107 c 0 λy=>
 ah 51 y 2 λs=>
 ab q 45 s λt=>
 bh true q 64 82 [t] λk B=>
 ba k 0 λG=>
 ba k 1 λz=>
 ah 107 c 0 λE=>
 ah 51 E 2 λM=>
 ab B 45 M λK=>
 bh true B 70 83 [K] λb p=>
 gQ b true (au 107 c 0) λI=>
 gQ b true (au 51 I 3) λe=>
 gQ b true (an p 30 e) λN=>
 gQ b true (oh 30 74 0 N) λF=>
 cr b F λi=>
 gQ i true (au 107 c 0) λv38=>
 gQ i true (au 51 v38 3) λL=>
 gQ i true (an p 30 L) λV=>
 gQ i true (wR 30 80 65536 V) λv41=>
 cr i v41 λD=>
 ah 107 c 0 λv43=>
 ah 51 v43 3 λZ=>
 ab p 30 Z λv45=>
 Ua 30 85 v45 λW=>
 dC p 87 30 5 W λv47=>
 ah 107 c 0 λU=>
 ah 51 U 3 λv49=>
 ab p 30 v49 λX=>
 dC p 91 30 5 X λT=>
 kA (lI env.P false true p (Ref.mk 0 92 (aa.gen p 0 92) 0) 76 2 (some [(0,v47),(1,T)])) λv52 H8=>
 dI H8 94 76 76 v52 G λo H9=>
 ah 107 c 0 λv54=>
 ah 51 v54 0 λv55=>
 ab H9 5 v55 λv56=>
 qB H9 111 76 1 0 v56 λY x=>
 dI x 113 76 76 Y o λv58 A=>
 gQ D true (bX z) λv59=>
 gQ D true (wP 30 116 0 v59) λv60=>
 cr D v60 λJ=>
 gQ J true (au 107 c 0) λv62=>
 gQ J true (an A 51 v62) λv63=>
 gQ J true (an A 51 R) λv64=>
 gW J true A (fB true A 123 55 [v63,v64]) λv65 H12=>
 cr J v65 λv66=>
 Q (.tup [v58,v66]) H12)) (
 Ac 5 12 v10 λO=>
 br (some O) (
 ah 107 c 0 λn=>
 ah 51 n 4 λu=>
 ab C 49 u λm=>
 ah 51 R 4 λf=>
 aM C 49 f m λw S=>
 ah 107 c 0 λh=>
 ah 51 h 4 λj=>
 ab S 49 j λd=>
 bh true S 105 84 [d] λl q=>
 ba l 0 λy=>
 ba l 1 λs=>
 ah 107 c 0 λt=>
 ah 51 t 0 λk=>
 ab q 5 k λG=>
 qB q 111 76 1 0 G λz B=>
 dI B 113 76 76 z y λE p=>
 gQ (.v (.bool true)) true (bX s) λM=>
 gQ (.v (.bool true)) true (wP 30 116 0 M) λK=>
 fO (AY (some (AV.v (Value.bool true))) (some K) (some (AV.v (Value.bool false)))) λb=>
 gQ b true (au 107 c 0) λI=>
 gQ b true (an p 51 I) λe=>
 gQ b true (an p 51 R) λN=>
 gW b true p (fB true p 123 55 [e,N]) λF H8=>
 cr b F λi=>
 Q (.tup [E,i]) H8) (
 ah 107 c 0 λn=>
 ah 51 n 0 λu=>
 ab C 5 u λm=>
 qB C 111 76 1 0 m λf S=>
 kA (ee env.P true S (Ref.mk 0 113 (aa.gen S 0 113) 0) (some 76) (some 76) f (.v (.slice none 0 0))) λw q=>
 gQ (.v (.bool false)) true (ku (some (AV.v (Value.int IntKind.i64 0)))) λh=>
 gQ (.v (.bool false)) true (wP 30 116 0 h) λj=>
 fO (AY (some (AV.v (Value.bool false))) (some j) (some (AV.v (Value.bool false)))) λd=>
 gQ d true (au 107 c 0) λl=>
 gQ d true (an q 51 l) λy=>
 gQ d true (an q 51 R) λs=>
 gW d true q (fB true q 123 55 [y,s]) λt B=>
 cr d t λk=>
 Q (.tup [w,k]) B)))
theorem rZ(h : ∀g:fq,dk x0 H Q):fa Tryz.f51 0 [(0,x0)] H Q:=kf (by kernel_rfl) h
def z6:Prop:=
 dh H 1 49 x0 λt z=>
 ab z 49 t λB=>
 bh true z 9 126 [B] λy s=>
 iW 30 10 0 y λE=>
 br (some E) (
 Q (.tup [(.v (.slice none 0 0)),y]) s) (
 ah 49 t 1 λA=>
 ah 47 A 1 λC=>
 ab s 4 C λD=>
 br (some D) (
 ah 49 t 1 λu=>
 ah 47 u 0 λw=>
 ab s 36 w λo=>
 wO 38 0 o λi=>
 bh true s 21 81 [i] λb d=>
 ba b 0 λc=>
 ba b 1 λf=>
 ah 49 t 0 λq=>
 ab d 3 q λe=>
 dC d 26 3 5 e λk=>
 kA (lI env.P true false d (Ref.mk 0 28 (aa.gen d 0 28) 0) 76 2 (some [(0,k),(1,(a8 1))])) λm p=>
 dg p 31 76 c λl=>
 GJ 3 31 1 l λj=>
 Cb p 76 c j λh=>
 dI p 34 76 76 m h λn x=>
 Q (.tup [n,f]) x) (
 ah 49 t 1 λu=>
 ah 47 u 0 λw=>
 ab s 36 w λo=>
 wO 38 0 o λi=>
 bh true s 21 81 [i] λb d=>
 ba b 0 λc=>
 ba b 1 λf=>
 ah 49 t 0 λq=>
 ab d 3 q λe=>
 dC d 26 3 5 e λk=>
 kA (lI env.P true false d (Ref.mk 0 28 (aa.gen d 0 28) 0) 76 2 (some [(0,k),(1,(a8 0))])) λm p=>
 dg p 31 76 c λl=>
 GJ 3 31 1 l λj=>
 Cb p 76 c j λh=>
 dI p 34 76 76 m h λn x=>
 Q (.tup [n,f]) x))
theorem Ln(h : ∀g:fq,z6 x0 H Q):fa Tryz.f84 0 [(0,x0)] H Q:=kf (by kernel_rfl) h
def wC:Prop:=
 dh H 1 49 x0 λh i=>
 ah 49 h 1 λC=>
 ah 47 C 1 λF=>
 ab i 4 F λe=>
 gQ e false (au 49 h 1) λA=>
 gQ e false (au 47 A 0) λD=>
 gQ e false (an i 36 D) λG=>
 gW e false i (fB false i 11 161 []) λB f=>
 gQ e false (iu 36 10 11 G B) λE=>
 dH e E λx=>
 ah 49 h 0 λn=>
 ab f 3 n λp=>
 om 3 15 0 p λc=>
 gQ c false (au 49 h 0) λl=>
 gQ c false (an f 3 l) λy=>
 gQ c false (oh 3 19 8 y) λk=>
 dH c k λb=>
 gQ b false (au 49 h 1) λt=>
 gQ b false (au 47 t 0) λq=>
 gQ b false (an f 36 q) λo=>
 gW b false f (fB true f 26 155 [o]) λm z=>
 gQ b false (wQ 30 26 0 m) λw=>
 dH b w λd=>
 gQ d false (bX x) λu=>
 gQ d false (vK u) λj=>
 dH d j λs=>
 br (some s) (
 Q (.v (.int .i64 8)) z) (
 Q (.v (.int .i64 0)) z)
theorem Hu(h : ∀g:fq,wC x0 H Q):fa Tryz.f126 0 [(0,x0)] H Q:=kf (by kernel_rfl) h
end
end Go.Proofs.YtiidajnodhkidaaGreat
