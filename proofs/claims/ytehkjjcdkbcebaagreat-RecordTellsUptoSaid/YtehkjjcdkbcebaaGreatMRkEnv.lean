/-
  One element put into an own row, whatever room the row has. No statement of a seat is proved here.
-/
import Derived.JoinedCond
import Derived.Test.YtehkjjcdkbcebaaGreatRows
import Derived.Test.YtehkjjcdkbcebaaGreatAbsRules
set_option linter.unusedVariables false
set_option linter.unusedSimpArgs false
set_option linter.unusedSectionVars false
set_option linter.unnecessarySimpa false
set_option maxRecDepth 1000000
namespace Go.Ab
theorem D1{E:Env}{ok:Array Oper->Bool}(b:E.Ok ok){f:FuncId}{args:List AV}{y:AV}(h:au E f args=some y):fV E.P f args y:=by
 obtain⟨n,a⟩:=rH.1 h
 exact Ks b (a n (aW n))
def JN(E:Env)(a:FuncId->List AV->Option AV)(d:Oper->Bool:=λ_=>false):Env := { E with spec:=a,deep:=d}
theorem MK{P:Program}{l cy ld:List FuncId}{strict:Oper->Bool}{apart:Array Oper->List (Tmp × Tmp)}{fN:Oper->Bool}{Ay:List (FuncId × List AV × AV)}{wide:Oper->Bool}{nI:FuncId->Option TypeId}{thrSpec:FuncId->List AV->ab->Option (AV × ab)}{sm:Hw}{sp:FuncId->List AV->Option AV}{d:Oper->Bool}
 (hspec : ∀f args y,sp f args=some y->fV P f args y) (hm:P.follows .mixedOrders=true) (h0:Ea (s8 P l cy ld strict apart fN) l=true) (hover : ∀f t,nI f=some t->uf P f t) (hthr : ∀f args H y H',thrSpec f args H=some (y,H')->lL P (.fn f) args H y H') :
 (JN (s8 P l cy ld strict apart fN Ay wide nI thrSpec sm) sp d).Ok (zJ (JN (s8 P l cy ld strict apart fN Ay wide nI thrSpec sm) sp d)) where
 fns:=by
  intro f hf
  have h:Ea (s8 P l cy ld strict apart fN Ay) l=true:=h0
  have hf':f∈l:=by simpa [s8,JN] using hf
  have:=da.1 h f hf'
  split at this
  ·rename_i fn hfn
   simp only[aY,gE]at this
   refine⟨fn,hfn,this.1,λc hc=>?_⟩
   have h2:=this.2
   rw[hc]at h2
   exact h2
  ·cases this
 specs:=λf args y h=>hspec f args y h
 same:=rfl
 overs:=hover
 thrs:=hthr
 draws:=λops hok _ hpc _ htc nt dep id st st' M ι a w ro Q hr hap hO hQ=>by
  rcases Bc.1 hok with h1 | h1
  ·exact Hf hm h1 hpc htc hr hO hQ
  ·exact Hg hm h1 hpc htc hr hap hO hQ
end Go.Ab
namespace Go.Ab
open Go.ChangeShapes Go.WideShapes Go.RowKit
inductive pM (N:Nat):AV->Prop
 | v (x:Value):pM N (.v x)
 | agg (xs:List AV):(∀x∈xs,pM N x)->pM N (.agg xs)
 | bl (z:Nat) (es:List AV) (c:Option Nat):es.length<=N->(∀x∈es,pM N x)->pM N (.bl z es c)
theorem JP{N:Nat}(y:Value) : ∀x∈[AV.v y],pM N x:=by
 intro x a
 rw[pT]at a
 subst a
 exact .v _
theorem KU{N:Nat}{b:Bool}{a:List AV}(h : ∀x∈a,pM N x):pM N (Dm b a):=by
 unfold Dm
 split
 ·exact h _ (by simp)
 ·exact .agg _ h
theorem pM.sl{N z:Nat}{es:List AV}{x:AV}(h:pM N x)(b:Sl z es x):es.length<=N /\∀e∈es,pM N e:=by
 rcases b with ⟨_,rfl⟩ | ⟨c,rfl,_⟩
 ·exact⟨ui _,λe f=>by cases f⟩
 ·cases h with
  | bl _ _ _ d a=>exact⟨d,a⟩
theorem pM.parts{N:Nat}{a:List AV}(h:pM N (.agg a)) : ∀x∈a,pM N x:=by
 cases h with
 | agg _ h=>exact h
section
variable{H:Type}{enc:TypeId × Value->H}{P:Program}{w:World}{g:Nat}{A:Nat->Bool}{B:Bool}{u:DataW H->Nat}{N:Nat}
theorem GI(hs : ∀es sp,es.length<=u (.slice es sp) /\∀d∈es,u d<=u (.slice es sp))(ha : ∀ps,∀d∈ps,u d<=u (.agg ps)) : ∀(n m:Nat)(t:TypeId)(cs:List Value)(d:DataW H)(ps:List MemPlace),plain P m t=true->DataW.trod enc P w g A B n t cs=some (d,ps)->u d<=N ->
 ∃p:List AV,(yV P m t p /\∀x∈p,pM N x)/\jD (qJ w) cQ p cs:=by
 intro n
 induction n with
 | zero=>intro m t cs d ps _ h _;simp[DataW.trod]at h
 | succ n ih=>
  intro m t cs d ps hp h hN
  cases m with
  | zero=>simp[plain]at hp
  | succ m=>
  have ZU:=hp
  unfold plain at hp
  unfold yV
  cases hu:P.underlying t with
  | none=>rw[hu]at hp;simp at hp
  | some dd=>
   rw[hu]at hp
   unfold DataW.trod at h
   rw[hu]at h
   have C : ∀ {x:AV} {c:Value},VR (qJ w) cQ x c->jD (qJ w) cQ [x] [c]:=λh=>jD.cons h jD.nil
   cases dd<;>dsimp only at hp ⊢ <;> try (simp at hp;done)
   ·
    rcases cs with _ | ⟨c,_ | ⟨c',cs⟩⟩
    ·simp at h
    ·cases c<;>first | (simp at h;done) | skip
     rename_i b
     exact⟨[aB b],⟨⟨b,rfl⟩,JP _⟩,C (.v rfl)⟩
    ·simp at h
   ·
    rename_i k
    rcases cs with _ | ⟨c,_ | ⟨c',cs⟩⟩
    ·simp at h
    ·cases c<;>first | (simp at h;done) | skip
     rename_i k' i
     dsimp only at h
     split at h
     ·rename_i hk
      obtain⟨rfl,hw⟩:=hk
      exact⟨[.v (.int k' i)],⟨⟨i,by simpa [Lit.wf] using hw,rfl⟩,JP _⟩,C (.v rfl)⟩
     ·cases h
    ·simp at h
   ·
    rcases cs with _ | ⟨c,_ | ⟨c',cs⟩⟩
    ·simp at h
    ·cases c<;>first | (simp at h;done) | skip
     rename_i s
     exact⟨[aS s],⟨⟨s,rfl⟩,JP _⟩,C (.v rfl)⟩
    ·simp at h
   ·
    rename_i e
    simp only[aY,beq_iff_eq,decide_eq_true_eq]at hp
    rcases cs with _ | ⟨c,_ | ⟨c',cs⟩⟩
    ·simp at h
    ·cases c<;>first | (simp at h;done) | skip
     rename_i a len cap
     cases a with
     | none=>
      have ZL:len=0/\cap=0:=by
       cases len<;>cases cap<;>simp at h ⊢
      obtain⟨rfl,rfl⟩:=ZL
      exact⟨[bF],⟨.inl rfl,JP _⟩,C (.v rfl)⟩
     | some a=>
      dsimp only at h
      split at h
      ·rename_i hb
       simp only[fD,aZ]at h
       obtain⟨elems,ZE,rest,_,U⟩:=h
       have ZH:=(Prod.mk.inj U).1
       subst ZH
       obtain⟨w1,w2⟩:=hs (elems.map (·.1)) (rest.map (·.1))
       rw[xM]at w1
       have ZR:elems.length=len:=by simpa using fg ZE
       have ZD : ∀i,i<len ->∃(p:List AV) (D:List Value),(yV P m e p /\∀x∈p,pM N x)/\jD (qJ w) cQ p D/\w.cells? g (a.add (i * P.cellsOf e)) (P.cellsOf e)=some D:=by
        intro i hi
        obtain⟨y,I,O⟩:=jq ZE i i (by simp[hi])
        simp only[fD]at O
        obtain⟨D,ZF,O⟩:=O
        obtain⟨p,F,J⟩:=ih m e D y.1 y.2 hp.1.2 O (rk (w2 _ (EA (eY I))) hN)
        exact⟨p,D,F,J,ZF⟩
       have : ∀k,k<=len ->∃es:List (List AV),es.length=k /\∀i p,es[i]?=some p ->∃D:List Value,(yV P m e p /\∀x∈p,pM N x)/\jD (qJ w) cQ p D/\w.cells? g (a.add (i * P.cellsOf e)) (P.cellsOf e)=some D:=by
        intro k
        induction k with
        | zero=>intro _;exact⟨[],rfl,λi p h=>by simp at h⟩
        | succ k Zu=>
         intro hk
         obtain⟨es,F,J⟩:=Zu (by omega)
         obtain⟨p,D,h3⟩:=ZD k (by omega)
         refine⟨es++[p],by simp[F],λi ys I=>?_⟩
         rcases dH i k with hi | hi
         ·rw[ia (by omega)]at I
          exact J i ys I
         ·have:i=k:=by
           have:=(dE.1 I).1
           simp[F]at this
           omega
          subst this
          rw[iL (by omega)]at I
          simp[F]at I
          subst I
          exact⟨D,h3⟩
       obtain⟨es,ZK,E⟩:=this len (aW _)
       have W : ∀p∈es,(Dm ((eA P e).getD false) p).cells=p/\p.length=P.cellsOf e:=by
        intro p q
        obtain⟨i,hi,rfl⟩:=mw q
        obtain⟨D,F,J,h3⟩:=E i es[i] (cw hi)
        obtain⟨Z,h5⟩:=F.1.facts m e _ hp.1.2
        exact⟨IU h5,Z⟩
       refine⟨[.bl (P.cellsOf e) (es.map (Dm ((eA P e).getD false))) none],⟨.inr ⟨es,rfl,λp q=>?_⟩,?_⟩,C ?_⟩
       ·obtain⟨i,hi,rfl⟩:=mw q
        obtain⟨D,F,_⟩:=E i es[i] (cw hi)
        exact F.1
       ·intro x K
        rw[pT]at K
        subst K
        refine .bl _ _ _ (by rw[xM];omega) λy I=>?_
        obtain⟨p,q,rfl⟩:=kf.1 I
        obtain⟨i,hi,rfl⟩:=mw q
        obtain⟨D,F,_⟩:=E i es[i] (cw hi)
        exact KU F.2
       ·have Zy:(es.map (Dm ((eA P e).getD false))).length=len:=by simp[ZK]
        have L : ∀i j,i<len->j<P.cellsOf e ->∃p D,es[i]?=some p/\jD (qJ w) cQ p D/\(∀x∈p,x.one=true)/\p.length=P.cellsOf e/\qJ w a.block (a.off+(i * P.cellsOf e+j))=D[j]?/\(a.spot=none):=by
         intro i j hi X
         have ZC:i<es.length:=by omega
         obtain⟨D,F,J,h3⟩:=E i es[i] (cw ZC)
         obtain⟨Z,h5⟩:=F.1.facts m e _ hp.1.2
         obtain⟨ZT,ZW,hc⟩:=World.cells?_some h3
         have ZP:=hc j X
         have ZB:a.spot=none:=by
          obtain⟨ZQ,g1,g2,g3⟩:=E 0 es[0] (cw (by omega))
          obtain⟨_,ZS,ZJ⟩:=World.cells?_some g3
          have:=ZJ 0 hp.2
          rw[Nat.zero_mul]at this
          have ZN:(a.add 0).add 0=a:=by simp[Addr.add]
          rw[ZN]at this
          unfold World.cell? at this
          cases hs:a.spot with
          | none=>rfl
          | some z=>
           exfalso
           have ZM:0<ZQ.length:=by omega
           rw[cw ZM]at this
           split at this
           ·rw[hs]at this;simp at this
           ·simp at this
         refine⟨es[i],D,cw ZC,J,h5,Z,?_,ZB⟩
         rw[<-ZP]
         unfold qJ
         congr 1
         rw[ik ZB,fk,fk,A8]
        have:=VR.bl (M:=qJ w) (ι:=cQ) (esz:=P.cellsOf e) (es:=es.map (Dm ((eA P e).getD false))) (cap:=none) (a:=a) (c:=cap)
         (λi j=>(qJ w a.block (a.off+(i * P.cellsOf e+j))).getD Go.undef) ?_ (by rw[Zy];exact hb.2.1) (λk hk=>by cases hk) ?_ ?_ ?_
        ·rw[Zy]at this;exact this
        ·rcases zb len with h0 | h0
         ·right
          have:es=[]:=by apply uw;omega
          simp[this]
         ·left
          obtain⟨_,_,_,_,_,_,_,hs⟩:=L 0 0 h0 hp.2
          exact hs
        ·intro i j hi X
         rw[Zy]at hi
         obtain⟨p,D,F,J,h3,Z,h5,_⟩:=L i j hi X
         have R:j<D.length:=by rw[<-J.1,Z];exact X
         have ZG:j<p.length:=by rw[Z];exact X
         rw[h5,cw R]
         refine⟨rfl,?_⟩
         have:=J.2 j p[j] D[j] (cw ZG) (cw R)
         exact this.one (h3 _ (gD ..))
        ·intro x K
         obtain⟨p,q,rfl⟩:=kf.1 K
         rw[(W p q).1]
         exact(W p q).2
        ·intro i j x c K hc
         rw[kJ,aZ]at K
         obtain⟨p,q,rfl⟩:=K
         have Zs:p∈es:=eY q
         rw[(W p Zs).1]at hc
         have hi:i<len:=by have:=(dE.1 q).1;omega
         have X:j<P.cellsOf e:=by have:=(dE.1 hc).1;rw[(W p Zs).2]at this;exact this
         obtain⟨ZV,D,F,J,h3,Z,h5,_⟩:=L i j hi X
         rw[q]at F
         cases F
         have R:j<D.length:=by rw[<-J.1,Z];exact X
         show VR _ _ c ((qJ w a.block (a.off+(i * P.cellsOf e+j))).getD Go.undef)
         rw[h5,cw R]
         exact J.2 j c D[j] hc (cw R)
      ·cases h
    ·simp at h
   ·
    rename_i k e
    simp only[aY,beq_iff_eq]at hp
    have h:cs.length=P.cellsOf t /\∃p,((List.range k).mapM λi=>DataW.trod enc P w g A B n e ((cs.drop (i * P.cellsOf e)).take (P.cellsOf e)))=some p/\d = .agg (p.map (·.1)):=by
     dsimp only at h
     split at h
     ·rename_i Y
      simp only[aZ]at h
      obtain⟨p,q,U⟩:=h
      exact⟨Y,p,q,(Prod.mk.inj U).1.symm⟩
     ·cases h
    obtain⟨Y,ys,Zw,U⟩:=h
    subst U
    have Zx : ∀y∈ys,u y.1<=N:=λy I=>rk (ha _ _ (EA I)) hN
    rw[hp.2]at Y
    have : ∀(k' T:Nat),T+k'=k ->∃p,(Hv (yV P m e) k' p /\∀x∈p,pM N x)/\jD (qJ w) cQ p (cs.drop (T * P.cellsOf e)):=by
     intro k'
     induction k' with
     | zero=>
      intro T hi
      refine⟨[],⟨rfl,λx K=>by cases K⟩,?_⟩
      rw[Bj (by rw[Y,<-hi];simp)]
      exact jD.nil
     | succ k' Zu=>
      intro T hi
      obtain⟨b,Q,Zv⟩:=Zu (T+1) (by omega)
      obtain⟨y,Zt,O⟩:=jq Zw T T (by rw[AR (by omega)])
      obtain⟨a,S,V⟩:=ih m e _ y.1 y.2 hp.1 O (Zx _ (eY Zt))
      refine⟨a++b,⟨⟨a,b,rfl,S.1,Q.1⟩,λx K=>(kY.1 K).elim (S.2 x) (Q.2 x)⟩,?_⟩
      have:cs.drop (T * P.cellsOf e)=(cs.drop (T * P.cellsOf e)).take (P.cellsOf e)++cs.drop ((T+1) * P.cellsOf e):=by
       rw[A0,<-lU,xQ]
      rw[this]
      exact V.append Zv
    obtain⟨p,F,J⟩:=this k 0 (by omega)
    exact⟨p,F,by simpa using J⟩
   ·
    rename_i fs
    simp only[aY,beq_iff_eq,da]at hp
    have h:cs.length=P.cellsOf t /\∃p,(fs.toList.mapM λf=>DataW.trod enc P w g A B n f.type ((cs.drop f.offset).take (P.cellsOf f.type)))=some p/\d = .agg (p.map (·.1)):=by
     dsimp only at h
     split at h
     ·rename_i Y
      simp only[aZ]at h
      obtain⟨p,q,U⟩:=h
      exact⟨Y,p,q,(Prod.mk.inj U).1.symm⟩
     ·cases h
    obtain⟨Y,ys,Zw,U⟩:=h
    subst U
    have Zx : ∀y∈ys,u y.1<=N:=λy I=>rk (ha _ _ (EA I)) hN
    have : ∀(l:List Field)(o:Nat),(∀f∈l,plain P m f.type=true)->(∀f∈l,∃y,u y.1<=N/\DataW.trod enc P w g A B n f.type ((cs.drop f.offset).take (P.cellsOf f.type))=some y)->layout P l o=some cs.length ->
     ∃p,(O0 (yV P m) l p /\∀x∈p,pM N x)/\jD (qJ w) cQ p (cs.drop o):=by
     intro l
     induction l with
     | nil=>
      intro o _ _ G
      simp[layout]at G
      refine⟨[],⟨rfl,λx K=>by cases K⟩,?_⟩
      rw[Bj (by omega)]
      exact jD.nil
     | cons f l ZI=>
      intro o Zz ZA G
      unfold layout at G
      split at G
      ·rename_i ho
       obtain⟨b,Q,Zv⟩:=ZI (o+P.cellsOf f.type) (λf O=>Zz f (jI _ O)) (λf O=>ZA f (jI _ O)) G
       obtain⟨y,ZO,O⟩:=ZA f (jM ..)
       obtain⟨a,S,V⟩:=ih m f.type _ y.1 y.2 (Zz f (jM ..)) O ZO
       rw[ho]at V
       refine⟨a++b,⟨⟨a,b,rfl,S.1,Q.1⟩,λx K=>(kY.1 K).elim (S.2 x) (Q.2 x)⟩,?_⟩
       have:cs.drop o=(cs.drop o).take (P.cellsOf f.type)++cs.drop (o+P.cellsOf f.type):=by
        rw[<-lU,xQ]
       rw[this]
       exact V.append Zv
      ·cases G
    obtain⟨p,F,J⟩:=this fs.toList 0 hp.1 (λf O=>by
     obtain⟨i,hi,rfl⟩:=mw O
     obtain⟨y,Zt,I⟩:=jq Zw i fs.toList[i] (cw hi)
     exact⟨y,Zx _ (eY Zt),I⟩) (by rw[Y];exact hp.2)
    exact⟨p,F,by simpa using J⟩
theorem GH(F : ∀es s,es.length<=u (.slice es s) /\∀d∈es,u d<=u (.slice es s))(D : ∀ps,∀d∈ps,u d<=u (.agg ps)){m:Nat}{t:TypeId}{v:Value}{d:DataW H}{ps:List MemPlace}(hp:plain P m t=true)(c:Value.okWide P w .any g t v){i:Nat}(h:DataW.Trod enc P w i A B t v d ps)(z:u d<=N) :
 ∃x:AV,(L4 P m t x/\pM N x)/\VR (qJ w) cQ x v:=by
 obtain⟨n,y⟩:=h
 obtain⟨xs,⟨q,k⟩,o⟩:=GI F D n m t v.cells.toList d ps hp y z
 unfold L4
 by_cases a:eA P t=some true
 ·rw[a]
  have : ∃cs,v = .agg cs:=by
   unfold eA at a
   unfold Value.okWide at c
   cases j:P.underlying t with
   | none=>rw[j]at a;simp at a
   | some l=>rw[j]at a c;cases l<;>simp at a<;>(obtain⟨cs,rfl,_⟩:=c;exact⟨cs,rfl⟩)
  obtain⟨cs,rfl⟩:=this
  exact⟨.agg xs,⟨⟨xs,rfl,q⟩,.agg _ k⟩,VR.mP.2 o⟩
 ·have p:v.cells = #[v] /\∃x,xs=[x]:=by
   have G:=q.facts m t xs hp
   cases m with
   | zero=>simp[plain]at hp
   | succ m=>
   have b:=hp
   unfold plain at b
   unfold eA at a
   unfold Value.okWide at c
   cases j:P.underlying t with
   | none=>rw[j]at b;simp at b
   | some l=>
    rw[j]at b a c
    have f:P.cellsOf t=1->Cell.okWide P w .any g t v->v.cells = #[v] /\∃x,xs=[x]:=by
     intro C e
     refine⟨?_,?_⟩
     ·cases v<;>try rfl
      exfalso
      unfold Cell.okWide at e
      rw[j]at e
      cases l<;>simp at b a<;>(simp[Cell.ok,j]at e)
     ·have:=G.1
      rw[C]at this
      match xs,this with
      | [x],_=>exact⟨x,rfl⟩
    cases l<;>simp at b a
    ·exact f b c
    ·exact f b c
    ·exact f b c
    ·exact f b.1.1 c
  obtain⟨p,x,rfl⟩:=p
  rw[p]at o
  refine⟨x,⟨?_,k x (by simp)⟩,o.2 0 x v rfl rfl⟩
  split
  ·rename_i E;exact(a E).elim
  ·exact q
theorem Lv(L : ∀es D,es.length<=u (.slice es D) /\∀d∈es,u d<=u (.slice es D))(J : ∀ps,∀d∈ps,u d<=u (.agg ps)){m:Nat}{a:Nat} : ∀ {b:List TypeId} {l:List Value} {ds:List (DataW H)} {ps:List MemPlace},b.all (plain P m)=true->(∀(j:Nat) t v,b[j]?=some t->l[j]?=some v->Value.okWide P w .any g t v) ->
 DataW.TrodAll enc P w a A B b l ds ps->(∀d∈ds,u d<=N) ->∃c:List AV,(Js P m b c /\∀x∈c,pM N x)/\jD (qJ w) cQ c l:=by
 intro b
 induction b with
 | nil=>
  intro l ds ps _ _ h _
  obtain⟨rfl,_,_⟩:=trodAll_nil h
  exact⟨[],⟨trivial,λx F=>by cases F⟩,jD.nil⟩
 | cons t b M=>
  intro l ds ps hp f h C
  obtain⟨v,K,d,E,p,q,rfl,rfl,rfl,z,s⟩:=trodAll_cons h
  simp only[tj,aY]at hp
  obtain⟨x,k,n⟩:=GH L J hp.1 (f 0 t v rfl rfl) z (C _ (jM ..))
  obtain⟨c,i,o⟩:=M hp.2 (λj t v z s=>f (j+1) t v z s) s (λd G=>C d (jI _ G))
  exact⟨x :: c,⟨⟨k.1,i.1⟩,λy I=>(eU.1 I).elim (λe=>by rw[e];exact k.2) (i.2 y)⟩,jD.cons n o⟩
end
theorem Cp{E:Env}{ok:Array Oper->Bool}(O:E.Ok ok){T:TypeId->Prop}(K:Kids E.P T)(S : ∀t e,T t->E.P.underlying t=some (.slice e)->0<E.P.cellsOf e){H:Type}{enc:TypeId × Value->H}{id:FuncId}{f:Func}{s:ChangeSpec}{apart fresh a c:Bool}{m:Nat}
 (hT : ∀t∈f.params.toList,T t) (hp:f.params.toList.all (plain E.P m)=true) (hv:s.vars=[]) (R : ∀ds:List (DataW H),ds.length=f.params.toList.length->s.fn H ds = { results:=[.lit (.bool true)],args:=ds}) (y:Fx E.P f=true)
 {u:DataW H->Nat} {N:Nat} (D : ∀es I,es.length<=u (.slice es I) /\∀d∈es,u d<=u (.slice es I)) (G : ∀ps,∀d∈ps,u d<=u (.agg ps))
 (h : ∀l,Js E.P m f.params.toList l->(∀x∈l,pM N x)->au E id l=some (.v (.bool true)))
 (W:World) (g:Nat) (args:Array Value) (ds V:List (DataW H)) (b:List MemPlace) (k : ∀(j:Nat) t v,f.params[j]?=some t->args[j]?=some v->Value.okWide E.P W .any g t v)
 (J:DataW.Whole enc E.P f.params.toList s.vars apart W args.toList ds V b) (Q : ∀d∈ds,u d<=N) :
 Calls E.P id args W λe M =>∃v,e = .returned v/\s.post enc E.P f apart fresh a c W args v M:=by
 obtain⟨tb,y,X⟩:=Jm y
 have C:=J
 obtain⟨p,q,L,hV,rfl,Z,U⟩:=C
 obtain⟨l,o,F⟩:=Lv D G hp (λj t v h1 Y=>k j t v (by simpa using h1) (by simpa using Y)) L Q
 obtain⟨n,i⟩:=N5 (h l o.1 o.2)
 have z:ds.length=f.params.toList.length:=F7 L
 refine(Jh O i (us:=args.toList) F).mono λe M ⟨he,hk⟩=>⟨_,he,?_⟩
 exact Ls K S hT hv J (R ds z) y X hk
end Go.Ab
namespace Go.Ab
def bad(b:Bool):Int:=if b then 0 else 8
@[simp] theorem W7(b:Bool):bad b=0↔b=true:=by cases b<;>simp[bad]
@[simp] theorem yK:bad true=0:=id rfl
@[simp] theorem Ei:bad false=8:=id rfl
structure KC where
 lv:UInt8
 cats:UInt32
 num:UInt8
deriving DecidableEq
structure uO where
 h:KC
 n:Int
deriving DecidableEq
structure TX where
 f:uO
 many:Int
deriving DecidableEq
def ej(h:KC):Bool:=decide (h.lv<=15)&&decide (h.num<8)
def uF(i:uO):Bool:=ej i.h&&(decide (1<=i.n)&&decide (i.n<=1099511627776))
def k7(s:TX):Bool:=uF s.f&&(decide (1<=s.many)&&(decide (s.many<=64)&&decide (s.f.n+s.many - 1<=1099511627776)))
theorem D5{i:uO}(h:uF i=true):1<=i.n/\i.n<=1099511627776:=by
 simp[uF]at h;exact h.2
theorem JO{s:TX}(h:k7 s=true):1<=s.f.n/\1<=s.many/\s.many<=64/\s.f.n+s.many - 1<=1099511627776:=by
 simp[k7]at h
 have:=D5 h.1
 exact⟨this.1,h.2.1,h.2.2.1,h.2.2.2⟩
theorem ML{s:TX}(h:k7 s=true):uF s.f=true:=by
 simp[k7]at h;exact h.1
def ke:uO:=⟨⟨0,0,0⟩,0⟩
def aR(n:Int):AV := .v (.int .i32 n)
def rows(l:List Int):List AV:=l.map aR
@[simp] theorem VX(l:List Int):(rows l).length=l.length:=by simp[rows]
@[simp] theorem P2(l:List Int):rows l=[]↔l=[]:=by simp[rows]
def fw(n:Int):Bool:=decide (n = -1)||(decide (0<=n)&&decide (n<55296))||(decide (57343<n)&&decide (n<=1114111))
def Cb(l:List Int):Bool:=decide (l.length<=64)&&l.all fw
def sP(l:List Int):Int:=if 64<l.length then 4 else if l.all fw then 0 else 8
@[simp] theorem Wg(n:Int):(aR n).cells=[aR n]:=id rfl
@[simp] theorem Zg(n:Int):(aR n).one=true:=id rfl
@[simp] theorem Xf(g:cf)(k:Nat)(n:Int):view g (k+1) (aR n)=some (aR n):=id rfl
theorem zo(l:List Int):sP l=0↔Cb l=true:=by
 unfold sP Cb
 by_cases h:64<l.length
 ·simp[h,Nat.not_le.2 h]
 ·have a:l.length<=64:=AU.1 h
  rw[if_neg h]
  cases l.all fw<;>simp[a]
@[simp] theorem Rt(l:List Int)(i n:Nat):cG (rows l) i 0 n false=(l[i]?).map aR:=by
 unfold cG rows
 rw[kJ]
 cases l[i]?<;>rfl
end Go.Ab
namespace Go.Proofs.YtehkjjcdkbcebaaGreat
open Go.Ab
def fns:List FuncId:=[4,19,20,21,22,23,24,25,26,27,28,29,30,31,32,33,34,35,42,43,45,46,47,48,49,50,51,52,53,54,55,56,57,58,59,60,61,69,82,84,85,86,87,88,89,90,91,92,93,94,95,96,97,98,99,100,101,102,103,104,105,106,107,108,109,110,111,112,113,114,115,116,117,118,119,120,121,122,123,124,125,126,127,128,129,130,131,132,133,134,135,136,137,138,139,140,141,142,143,144,145,146,147,148,149,150,151,152,153,154,155]
def cy:List FuncId:=[42,49,86,89,93,101,106,129,130]
def ld:List FuncId:=[92,127,128]
def Ay:List (FuncId × List AV × AV):=[]
noncomputable def env:Env:=s8 Tryz.prog fns cy ld (BM [(19,13,18),(16,1,77777),(55,1,88888)]) (sL [(49,9,0,[(6,50),(6,54)]),(13,5,4,[(3,2)]),(67,5,4,[(3,2)]),(48,5,4,[(6,2)]),(7,6,0,[(3,5)]),(8,6,0,[(3,5)]),(72,19,0,[(76,82),(76,83),(83,86)]),(15,12,0,[(20,23)]),(52,10,0,[(56,58)]),(14,5,3,[(15,2)]),(35,21,0,[(36,52),(37,52),(38,52),(41,52),(42,52),(43,52),(47,52),(48,52),(49,52)]),(145,8,4,[(148,2)])]) (Ie [(19,13,18),(16,1,77777),(55,1,88888)]) Ay
@[simp] noncomputable def bt(b:Bool)(h:ab)(n n2:Nat)(a:List AV)(k:AV->ab->Prop):Prop:=iq (aT env b (au env) (dA env 0) h (Ref.mk 0 n (ab.gen h 0 n) 0) (some (AV.fn (Fn.func n2) [] [])) a) k
@[simp] noncomputable def ae(h:ab)(n:Nat)(v:AV)(k:AV->Prop):Prop:=ew (lz env.P (ab.get h) n (some v)) k
@[simp] noncomputable def ah(n:Nat)(v:AV)(n2:Nat)(k:AV->Prop):Prop:=ew (jA env.P n (some v) n2) k
@[simp] noncomputable def bM(v a:AV)(k:AV->Prop):Prop:=ew (uD (some v) (some a) (some (AV.v (Value.bool false)))) k
@[simp] noncomputable def cE(h:ab)(n n2 a:Nat)(v:AV)(k:AV->Prop):Prop:=ew (bC env.P (ab.get h) (Ref.mk 0 n (ab.gen h 0 n) 0) n2 a (some v)) k
@[simp] noncomputable def eX(h:ab)(n n2:Nat)(v:AV)(k:AV->ab->Prop):Prop:=iq (jB h (Ref.mk 0 n (ab.gen h 0 n) 0) (E5 env.P (Ref.mk 0 n (ab.gen h 0 n) 0) n2 (some v))) k
@[simp] noncomputable def eR(h:ab)(n n2:Nat)(v:AV)(k:AV->Prop):Prop:=ew (cW env.P false (ab.get h) (Ref.mk 0 n (ab.gen h 0 n) 0) .len #[n2] [v]) k
@[simp] noncomputable def kH(n n2:Nat)(i:Int)(v:AV)(k:AV->Prop):Prop:=ew (bK env.P .add n (Operand.tmp n2) (Operand.const (Value.int IntKind.i64 i)) (some v) (some (AV.v (Value.int IntKind.i64 i)))) k
@[simp] noncomputable def gR(h:ab)(n n2:Nat)(k:AV->ab->Prop):Prop:=iq (jB h (Ref.mk 0 n (ab.gen h 0 n) 0) (oG env.P (Ref.mk 0 n (ab.gen h 0 n) 0) n2)) k
@[simp] noncomputable def aF(h:ab)(n:Nat)(v:AV):=lz env.P (ab.get h) n (some v)
@[simp] noncomputable def ao(h:ab)(n:Nat)(v a:AV)(k:AV->ab->Prop):Prop:=iq (iu env.P h n (some v) (some a)) k
@[simp] noncomputable def eT(b:Bool)(h:ab)(n n2:Nat)(a:List AV):=aT env b (au env) (dA env 0) h (Ref.mk 0 n (ab.gen h 0 n) 0) (some (AV.fn (Fn.func n2) [] [])) a
@[simp] noncomputable def dg(h:ab)(n n2 b:Nat)(v a:AV)(k:AV->ab->Prop):Prop:=iq (cS env.P true h (Ref.mk 0 n (ab.gen h 0 n) 0) (some n2) (some b) v a) k
@[simp] noncomputable def eG(h:ab)(n:Nat)(v:AV)(i:Int)(k:AV->Prop):Prop:=ew (bE env.P (ab.get h) n (some v) (some (AV.v (Value.int IntKind.i64 i)))) k
@[simp] noncomputable def an(n:Nat)(v:AV)(n2:Nat):=jA env.P n (some v) n2
@[simp] noncomputable def lf(n n2:Nat)(i:Int)(v:AV)(k:AV->Prop):Prop:=ew (bK env.P .neq n (Operand.tmp n2) (Operand.const (Value.int IntKind.i64 i)) (some v) (some (AV.v (Value.int IntKind.i64 i)))) k
@[simp] noncomputable def nC(n:Nat)(i:Int)(n2:Nat)(v:AV)(k:AV->Prop):Prop:=ew (bK env.P .mul n (Operand.const (Value.int IntKind.i64 i)) (Operand.tmp n2) (some (AV.v (Value.int IntKind.i64 i))) (some v)) k
@[simp] noncomputable def fv(v a:AV)(k:AV->Prop):Prop:=ew (uD (some v) (some (AV.v (Value.bool true))) (some a)) k
@[simp] noncomputable def o8(n n2:Nat)(i:Int)(v:AV)(k:AV->Prop):Prop:=ew (bK env.P .rem n (Operand.tmp n2) (Operand.const (Value.int IntKind.i64 i)) (some v) (some (AV.v (Value.int IntKind.i64 i)))) k
@[simp] noncomputable def pO(n n2:Nat)(i:Int)(v:AV):=bK env.P .geq n (Operand.tmp n2) (Operand.const (Value.int IntKind.i64 i)) (some v) (some (AV.v (Value.int IntKind.i64 i)))
@[simp] noncomputable def iI(n n2 b:Nat)(v a:AV):=bK env.P .eql n (Operand.tmp n2) (Operand.tmp b) (some v) (some a)
@[simp] noncomputable def ri(n n2:Nat)(i:Int)(v:AV)(k:AV->Prop):Prop:=ew (bK env.P .quo n (Operand.tmp n2) (Operand.const (Value.int IntKind.i64 i)) (some v) (some (AV.v (Value.int IntKind.i64 i)))) k
@[simp] noncomputable def gf(h:ab)(n:Nat)(v a:AV)(k:AV->Prop):Prop:=ew (bE env.P (ab.get h) n (some v) (some a)) k
@[simp] noncomputable def bm(v:AV)(n:Nat)(k:AV->Prop):Prop:=ew (pj (some v) n) k
@[simp] noncomputable def kb(n n2 b:Nat)(v a:AV)(k:AV->Prop):Prop:=ew (bK env.P .lss n (Operand.tmp n2) (Operand.tmp b) (some v) (some a)) k
@[simp] noncomputable def bw(h:ab)(v:AV)(n:Nat)(k:AV->Prop):Prop:=ew (vk env.P h v n) k
@[simp] noncomputable def uT(n n2:Nat)(i:Int)(v:AV)(k:AV->Prop):Prop:=ew (bK env.P .lss n (Operand.tmp n2) (Operand.const (Value.int IntKind.i64 i)) (some v) (some (AV.v (Value.int IntKind.i64 i)))) k
@[simp] noncomputable def uS(n n2:Nat)(i:Int)(v:AV):=bK env.P .lss n (Operand.tmp n2) (Operand.const (Value.int IntKind.i64 i)) (some v) (some (AV.v (Value.int IntKind.i64 i)))
@[simp] noncomputable def mv(n n2 b:Nat)(v a:AV)(k:AV->Prop):Prop:=ew (bK env.P .add n (Operand.tmp n2) (Operand.tmp b) (some v) (some a)) k
@[simp] noncomputable def uR(n n2:Nat)(i:Int)(v:AV):=bK env.P .neq n (Operand.tmp n2) (Operand.const (Value.int IntKind.i64 i)) (some v) (some (AV.v (Value.int IntKind.i64 i)))
@[simp] noncomputable def uQ(n n2:Nat)(i:Int)(v:AV):=bK env.P .eql n (Operand.tmp n2) (Operand.const (Value.int IntKind.i64 i)) (some v) (some (AV.v (Value.int IntKind.i64 i)))
@[simp] noncomputable def wq(n n2:Nat)(i:Int)(v:AV)(k:AV->Prop):Prop:=ew (bK env.P .gtr n (Operand.tmp n2) (Operand.const (Value.int IntKind.i64 i)) (some v) (some (AV.v (Value.int IntKind.i64 i)))) k
@[simp] noncomputable def wo(n n2:Nat)(i:Int)(v:AV)(k:AV->Prop):Prop:=ew (bK env.P .eql n (Operand.tmp n2) (Operand.const (Value.int IntKind.i64 i)) (some v) (some (AV.v (Value.int IntKind.i64 i)))) k
@[simp] noncomputable def o7(h:ab)(n n2 b a:Nat)(v:AV)(k:AV->ab->Prop):Prop:=iq (jX env.P false true h (Ref.mk 0 n (ab.gen h 0 n) 0) n2 b (some [(a,v)])) k
@[simp] noncomputable def wj(n n2:Nat)(i:Int)(v:AV):=bK env.P .leq n (Operand.tmp n2) (Operand.const (Value.int IntKind.i64 i)) (some v) (some (AV.v (Value.int IntKind.i64 i)))
@[simp] noncomputable def xJ(n n2:Nat)(i:Int)(v:AV)(k:AV->Prop):Prop:=ew (bK env.P .geq n (Operand.tmp n2) (Operand.const (Value.int IntKind.i64 i)) (some v) (some (AV.v (Value.int IntKind.i64 i)))) k
@[simp] noncomputable def fa(n:Nat)(k:AV->Prop):Prop:=ew (kW env.P n (some [])) k
@[simp] noncomputable def sg(n n2:Nat)(v:AV)(k:AV->Prop):Prop:=ew (bK env.P .eql n (Operand.tmp n2) (.const (.int .u8 1)) (some v) (some (a8 1))) k
@[simp] noncomputable def uh(n n2:Nat)(v:AV)(k:AV->Prop):Prop:=ew (bK env.P .eql n (Operand.tmp n2) (.const (.int .u8 3)) (some v) (some (a8 3))) k
@[simp] noncomputable def AP(n n2:Nat)(i:Int)(v:AV)(k:AV->Prop):Prop:=ew (bK env.P .sub n (Operand.tmp n2) (Operand.const (Value.int IntKind.i64 i)) (some v) (some (AV.v (Value.int IntKind.i64 i)))) k
@[simp] noncomputable def ug(n n2 b:Nat)(v a:AV)(k:AV->Prop):Prop:=ew (bK env.P .eql n (Operand.tmp n2) (Operand.tmp b) (some v) (some a)) k
@[simp] noncomputable def Dx(n n2:Nat)(i:Int)(v:AV):=bK env.P .gtr n (Operand.tmp n2) (Operand.const (Value.int IntKind.i64 i)) (some v) (some (AV.v (Value.int IntKind.i64 i)))
@[simp] noncomputable def xI(h:ab)(n n2 a:Nat)(v:AV):=bC env.P (ab.get h) (Ref.mk 0 n (ab.gen h 0 n) 0) n2 a (some v)
@[simp] noncomputable def AO(n n2:Nat)(v:AV)(k:AV->Prop):Prop:=ew (bK env.P .eql n (Operand.tmp n2) (.const (.int .u8 2)) (some v) (some (a8 2))) k
@[simp] noncomputable def mu(v:AV)(k:AV->Prop):Prop:=ew (Ru env.P .not (some v)) k
@[simp] noncomputable def Dw(h:ab)(n:Nat)(v:AV)(k:AV->Prop):Prop:=ew (ca env.P (ab.get h) n (some v) (some none) (oi (.v (.int .i64 5))) (some none)) k
@[simp] noncomputable def cC(v:AV):=gJ (some v)
@[simp] noncomputable def zP(n n2 b:Nat)(v a:AV)(k:AV->Prop):Prop:=ew (bK env.P .neq n (Operand.tmp n2) (Operand.tmp b) (some v) (some a)) k
@[simp] noncomputable def Mh(n n2:Nat)(i a:Int)(k:AV->Prop):Prop:=ew (bK env.P .quo n (Operand.tmp n2) (Operand.const (Value.int IntKind.i64 i)) (some (AV.v (Value.int IntKind.i64 a))) (some (AV.v (Value.int IntKind.i64 i)))) k
@[simp] noncomputable def rh(n n2:Nat)(v:AV)(b:Nat)(a:AV)(k:AV->Prop):Prop:=ew (kW env.P n (some [(n2,v),(b,a)])) k
@[simp] noncomputable def FL(h:ab)(n:Nat)(v a:AV)(k:AV->ab->Prop):Prop:=iq (aT env true (au env) (dA env 0) h (Ref.mk 0 n (ab.gen h 0 n) 0) (some v) [a]) k
@[simp] noncomputable def Dv(h:ab)(n n2:Nat)(v:AV):=cW env.P false (ab.get h) (Ref.mk 0 n (ab.gen h 0 n) 0) .len #[n2] [v]
@[simp] noncomputable def AN(n n2 b:Nat)(v a:AV)(k:AV->Prop):Prop:=ew (bK env.P .or n (Operand.tmp n2) (Operand.tmp b) (some v) (some a)) k
@[simp] noncomputable def rg(n n2:Nat)(v:AV)(k:AV->Prop):Prop:=ew (kW env.P n (some [(n2,v)])) k
@[simp] noncomputable def Du(h:ab)(n:Nat)(v a:AV)(k:AV->Prop):Prop:=ew (ca env.P (ab.get h) n (some v) (some none) (oi a) (some none)) k
@[simp] noncomputable def JF(h:ab)(n n2 a:Nat)(v:AV)(k:AV->ab->Prop):Prop:=iq (cS env.P true h (Ref.mk 0 n (ab.gen h 0 n) 0) (some n2) (some a) (.v (.slice none 0 0)) v) k
@[simp] noncomputable def JE(n n2:Nat)(v:AV)(k:AV->Prop):Prop:=ew (bK env.P .shl n (Operand.tmp n2) (.const (.int .u64 8)) (some v) (some (.v (.int .u64 8)))) k
@[simp] noncomputable def JD(h:ab)(n n2 e c:Nat)(v:AV)(i:Nat)(d:AV)(g:Nat)(f:AV)(b:Nat)(a:AV)(k:AV->ab->Prop):Prop:=iq (jX env.P false true h (Ref.mk 0 n (ab.gen h 0 n) 0) n2 e (some [(c,v),(i,d),(g,f),(b,a)])) k
@[simp] noncomputable def JC(h:ab)(n n2 a:Nat)(k:AV->ab->Prop):Prop:=iq (jX env.P false true h (Ref.mk 0 n (ab.gen h 0 n) 0) n2 a (some [(0,(a8 0))])) k
@[simp] noncomputable def mr(v:AV)(k:AV->Prop):Prop:=ew (Gu (some v)) k
@[simp] noncomputable def JB(h:ab)(n n2 c a:Nat)(v:AV)(f:Nat)(b:AV)(e:Nat)(d:AV)(k:AV->ab->Prop):Prop:=iq (jX env.P false true h (Ref.mk 0 n (ab.gen h 0 n) 0) n2 c (some [(a,v),(f,b),(e,d)])) k
@[simp] noncomputable def FK(n n2 b:Nat)(v a:AV)(k:AV->Prop):Prop:=ew (bK env.P .sub n (Operand.tmp n2) (Operand.tmp b) (some v) (some a)) k
@[simp] noncomputable def JA(h:ab)(n n2:Nat)(v:AV)(k:AV->Prop):Prop:=ew (cW env.P false (ab.get h) (Ref.mk 0 n (ab.gen h 0 n) 0) .cap #[n2] [v]) k
@[simp] noncomputable def Jz(h:ab)(n n2 b a:Nat)(v:AV)(k:AV->ab->Prop):Prop:=iq (jX env.P true false h (Ref.mk 0 n (ab.gen h 0 n) 0) n2 b (some [(a,v)])) k
@[simp] noncomputable def Mg(n n2:Nat)(v:AV)(k:AV->Prop):Prop:=ew (bK env.P .shr n (Operand.tmp n2) (.const (.int .u64 8)) (some v) (some (.v (.int .u64 8)))) k
@[simp] noncomputable def FJ(h:ab)(n:Nat)(v:AV)(k:AV->ab->Prop):Prop:=iq (iu env.P h n (some v) (some (.v (.slice none 0 0)))) k
@[simp] noncomputable def Rd(n n2:Nat)(i:Int)(v:AV)(k:AV->Prop):Prop:=ew (bK env.P .mul n (Operand.tmp n2) (Operand.const (Value.int IntKind.i64 i)) (some v) (some (AV.v (Value.int IntKind.i64 i)))) k
@[simp] noncomputable def Rc(n:Nat)(i:Int)(n2:Nat)(v:AV)(k:AV->Prop):Prop:=ew (bK env.P .sub n (Operand.const (Value.int IntKind.i64 i)) (Operand.tmp n2) (some (AV.v (Value.int IntKind.i64 i))) (some v)) k
@[simp] noncomputable def Rb(h:ab)(n n2 a:Nat)(k:AV->ab->Prop):Prop:=iq (jB h (Ref.mk (n+1) n2 (ab.gen h (n+1) n2) 0) (oG env.P (Ref.mk (n+1) n2 (ab.gen h (n+1) n2) 0) a)) k
@[simp] noncomputable def Jy(h:ab)(n:Nat)(v a:AV):=ca env.P (ab.get h) n (some v) (some none) (oi a) (some none)
@[simp] noncomputable def Jx(n n2 b:Nat)(v a:AV):=bK env.P .lss n (Operand.tmp n2) (Operand.tmp b) (some v) (some a)
@[simp] noncomputable def Jw(n n2 b:Nat)(v a:AV):=bK env.P .neq n (Operand.tmp n2) (Operand.tmp b) (some v) (some a)
@[simp] noncomputable def Q5(h:ab)(n:Nat)(v:AV)(k:AV->ab->Prop):Prop:=iq (aT env true (au env) (dA env 0) h (Ref.mk 0 n (ab.gen h 0 n) 0) (some v) [(.v (.int .i64 1))]) k
@[simp] noncomputable def Q4(n n2:Nat)(v:AV)(k:AV->Prop):Prop:=ew (bK env.P .eql n (Operand.tmp n2) (.const (.slice none 0 0)) (some v) (some (.v (.slice none 0 0)))) k
@[simp] noncomputable def Q3(h:ab)(n:Nat)(v:AV)(k:AV->Prop):Prop:=ew (ca env.P (ab.get h) n (some v) (oi (.v (.int .i64 24))) (oi (.v (.int .i64 29))) (some none)) k
@[simp] noncomputable def Q2(n n2:Nat)(v:AV)(k:AV->Prop):Prop:=ew (bK env.P .neq n (Operand.tmp n2) (.const (.int .i32 (-1))) (some v) (some (.v (.int .i32 (-1))))) k
@[simp] noncomputable def Q1(h:ab)(n:Nat)(v:AV)(k:AV->Prop):Prop:=ew (ca env.P (ab.get h) n (some v) (oi (.v (.int .i64 1))) (oi (.v (.int .i64 5))) (some none)) k
@[simp] noncomputable def Q0(h:ab)(n:Nat)(v:AV)(k:AV->Prop):Prop:=ew (ca env.P (ab.get h) n (some v) (oi (.v (.int .i64 1))) (oi (.v (.int .i64 7))) (some none)) k
@[simp] noncomputable def QZ(n n2:Nat)(v:AV)(k:AV->Prop):Prop:=ew (bK env.P .shr n (Operand.tmp n2) (.const (.int .u64 16)) (some v) (some (.v (.int .u64 16)))) k
@[simp] noncomputable def QY(n n2:Nat)(v:AV)(k:AV->Prop):Prop:=ew (bK env.P .shl n (Operand.tmp n2) (.const (.int .u64 16)) (some v) (some (.v (.int .u64 16)))) k
@[simp] noncomputable def QX(n n2:Nat)(v:AV)(k:AV->Prop):Prop:=ew (bK env.P .add n (Operand.tmp n2) (.const (.int .i32 1)) (some v) (some (.v (.int .i32 1)))) k
@[simp] noncomputable def xH(v:AV):=Ru env.P .not (some v)
@[simp] noncomputable def Mf(v a:AV):=uD (some v) (some (AV.v (Value.bool true))) (some a)
@[simp] noncomputable def Jv(n:Nat):=kW env.P n (some [])
def Wc:Nat->Option (List Nat):=λ_=>none
def LQ:Nat->Bool:=λ_=>false
abbrev gX:=Nat->AV
abbrev W6(f:Func):Code:=f.body.getD .skip
noncomputable abbrev xv(f:Func)(n:Nat):List Item:=(mI n 400 [.code (W6 f)]).getD []
abbrev gI(f:Func)(d:Nat)(l:List (Nat × AV))(H:ab)(Q:AV->ab->Prop):Prop:=dZ env f d [.code (W6 f)] l H Q
theorem kS{P:(Nat->AV)->Prop}{f:Func}{d:Nat}{l:List (Nat × AV)}{H:ab}{Q:AV->ab->Prop}(e:P=λg=>wp env f none d Wc LQ Q 500 [.code (W6 f)] (HB g l) H)(h : ∀g,P g):gI f d l H Q:=⟨λg=>pU (live:=Wc) (cut:=LQ) (n:=500) (Eq.mp (congrFun e g) (h g))⟩
theorem zk(v:Nat->Option (List Nat)){P:(Nat->AV)->Prop}{f:Func}{d:Nat}{l:List (Nat × AV)}{H:ab}{Q:AV->ab->Prop}(e:P=λg=>wp env f none d v LQ Q 500 [.code (W6 f)] (HB g l) H)(h : ∀g,P g):gI f d l H Q:=⟨λg=>pU (live:=v) (cut:=LQ) (n:=500) (Eq.mp (congrFun e g) (h g))⟩
theorem zY(v:Nat->Option (List Nat)){P:(Nat->AV)->Prop}{f:Func}{d:Nat}{b:List Item}{l:List (Nat × AV)}{H:ab}{Q:AV->ab->Prop}(e:P=λg=>wp env f none d v LQ Q 500 (Jn b) (HB g l) H)(h : ∀g,P g):dZ env f d b l H Q:=sW λg=>pU (live:=v) (cut:=LQ) (n:=500) (Eq.mp (congrFun e g) (h g))
theorem ax{f:FuncId}{fn:Func}{args:List AV}{y:AV}(d:env.spec f args=none)(e:(env.allowed f,env.P.funcs[f]?,fn.body.isSome,Nat.ble args.length fn.ntmps)=(true,some fn,true,true))(h:gI fn 0 (An 0 args) [] λx H=>kE env f x H y):au env f args=some y:=by
 injection e with i e
 injection e with g e
 injection e with b j
 cases a:fn.body with
 | none=>rw[a]at b;cases b
 | some c=>
  unfold gI W6 at h
  rw[a]at h
  exact rG d i g a j h
theorem Tu:Ea env fns=true:=by kernel_rfl
@[simp] theorem Y4{f:FuncId}(h:ld.contains f=false):(env.mode f == 2)=false:=by
 show((if cy.contains f then (if ld.contains f then 3 else 1) else if ld.contains f then 2 else 0) == 2)=false
 rw[h]
 split<;>rfl
@[simp] theorem Yd{f:FuncId}(h:ld.contains f=false):(env.mode f == 3)=false:=by
 show((if cy.contains f then (if ld.contains f then 3 else 1) else if ld.contains f then 2 else 0) == 3)=false
 rw[h]
 split<;>rfl
theorem Wb{f:FuncId}(h:cy.contains f=false):pG (env.mode f)=false:=by
 show pG (if cy.contains f then (if ld.contains f then 3 else 1) else if ld.contains f then 2 else 0)=false
 rw[h]
 cases ld.contains f<;>rfl
@[simp] theorem Yl{f:FuncId}(h:cy.contains f=false)(x:AV)(H:ab)(y:AV):kE env f x H y↔view H.get depth x=some y:=D6 (Wb h) x H y
theorem Wa{f:FuncId}(h:cy.contains f=true):pG (env.mode f)=true:=by
 show pG (if cy.contains f then (if ld.contains f then 3 else 1) else if ld.contains f then 2 else 0)=true
 rw[h]
 cases ld.contains f<;>rfl
@[simp] theorem Yk{f:FuncId}(h:cy.contains f=true)(x:AV)(H:ab)(y:AV):kE env f x H y↔(ad H.get depth x).Nodup/\bj H.get depth x=some y:=Ai (Wa h) x H y
@[simp] theorem Xs:av env.P 3=(some 1):=by kernel_rfl
@[simp] theorem YW:eA env.P 3=(some false):=by kernel_rfl
@[simp] theorem Xo:ei env.P 3=(some (.v (.int .i64 0))):=by kernel_rfl
@[simp] theorem Yh:mH env.P 3=(some 1):=by kernel_rfl
@[simp] theorem Yj:isInt env.P 3=true:=by kernel_rfl
@[simp] theorem UM:intKind env.P 3=(some .i64):=by kernel_rfl
@[simp] theorem YQ:(env.P.underlying 3).isNone=false:=by kernel_rfl
@[simp] theorem Xr:av env.P 4=(some 1):=by kernel_rfl
@[simp] theorem YV:eA env.P 4=(some false):=by kernel_rfl
@[simp] theorem Yg:mH env.P 4=(some 0):=by kernel_rfl
@[simp] theorem Wu:isBool env.P 4=true:=by kernel_rfl
@[simp] theorem Xq:av env.P 5=(some 1):=by kernel_rfl
@[simp] theorem YU:eA env.P 5=(some false):=by kernel_rfl
@[simp] theorem Yf:mH env.P 5=(some 1):=by kernel_rfl
@[simp] theorem UL:intKind env.P 5=(some .u8):=by kernel_rfl
@[simp] theorem YP:(env.P.underlying 5).isNone=false:=by kernel_rfl
@[simp] theorem Yi:isStr env.P 9=true:=by kernel_rfl
@[simp] theorem MC:av env.P 21=(some 1):=by kernel_rfl
@[simp] theorem PA:eA env.P 21=(some false):=by kernel_rfl
@[simp] theorem Th:intKind env.P 21=(some .i32):=by kernel_rfl
@[simp] theorem Xk:(env.P.underlying 21).isNone=false:=by kernel_rfl
@[simp] theorem VB:av env.P 22=(some 1):=by kernel_rfl
@[simp] theorem XR:eA env.P 22=(some false):=by kernel_rfl
@[simp] theorem Tg:intKind env.P 22=(some .i64):=by kernel_rfl
@[simp] theorem Xj:(env.P.underlying 22).isNone=false:=by kernel_rfl
@[simp] theorem MB:av env.P 27=(some 1):=by kernel_rfl
@[simp] theorem Pz:eA env.P 27=(some false):=by kernel_rfl
@[simp] theorem VC:dV env.P 27=(some 5):=by kernel_rfl
@[simp] theorem XE:mi env.P 27=none:=by kernel_rfl
@[simp] theorem Ws:isStr env.P 27=false:=by kernel_rfl
@[simp] theorem Zf:FH env.P 27=true:=by kernel_rfl
@[simp] theorem Yv:pK env.P 27=true:=by kernel_rfl
@[simp] theorem Ot:jf env.P 27=1:=by kernel_rfl
@[simp] theorem Yy:pw env.P 27=1:=by kernel_rfl
@[simp] theorem U3:gN env.P 27=(a8 0):=by kernel_rfl
@[simp] theorem Wt:cI env.P 27=true:=by kernel_rfl
@[simp] theorem VA:av env.P 43=(some 1):=by kernel_rfl
@[simp] theorem XQ:eA env.P 43=(some false):=by kernel_rfl
@[simp] theorem Wo:mH env.P 43=(some 1):=by kernel_rfl
@[simp] theorem Tf:intKind env.P 43=(some .u32):=by kernel_rfl
@[simp] theorem Xi:(env.P.underlying 43).isNone=false:=by kernel_rfl
@[simp] theorem Vz:av env.P 45=(some 2):=by kernel_rfl
@[simp] theorem XP:eA env.P 45=(some true):=by kernel_rfl
@[simp] theorem XD:mi env.P 45=none:=by kernel_rfl
@[simp] theorem Vq:ei env.P 45=(some (.agg [(a8 0),(bc 0)])):=by kernel_rfl
@[simp] theorem Wn:mH env.P 45=none:=by kernel_rfl
@[simp] theorem Ys:AA env.P 45=true:=by kernel_rfl
@[simp] theorem G9:ig env.P 45=(some [5,43]):=by kernel_rfl
@[simp] theorem UE:ic env.P 45=(some [(0,1),(1,1)]):=by kernel_rfl
@[simp] theorem R1:az env.P 45 0=(some (0,1)):=by kernel_rfl
@[simp] theorem RS:az env.P 45 1=(some (1,1)):=by kernel_rfl
@[simp] theorem Vy:av env.P 47=(some 3):=by kernel_rfl
@[simp] theorem XO:eA env.P 47=(some true):=by kernel_rfl
@[simp] theorem XC:mi env.P 47=none:=by kernel_rfl
@[simp] theorem Vp:ei env.P 47=(some (.agg [(a8 0),(bc 0),(a8 0)])):=by kernel_rfl
@[simp] theorem Wm:mH env.P 47=none:=by kernel_rfl
@[simp] theorem Yr:AA env.P 47=true:=by kernel_rfl
@[simp] theorem G8:ig env.P 47=(some [45,5]):=by kernel_rfl
@[simp] theorem UD:ic env.P 47=(some [(0,2),(2,1)]):=by kernel_rfl
@[simp] theorem Rn:oC env.P 47 0=(some (0,45)):=by kernel_rfl
@[simp] theorem R0:az env.P 47 0=(some (0,2)):=by kernel_rfl
@[simp] theorem RR:az env.P 47 1=(some (2,1)):=by kernel_rfl
@[simp] theorem Vx:av env.P 49=(some 4):=by kernel_rfl
@[simp] theorem XN:eA env.P 49=(some true):=by kernel_rfl
@[simp] theorem XB:mi env.P 49=none:=by kernel_rfl
@[simp] theorem Vo:ei env.P 49=(some (.agg [(a8 0),(bc 0),(a8 0),(.v (.int .i64 0))])):=by kernel_rfl
@[simp] theorem Wl:mH env.P 49=none:=by kernel_rfl
@[simp] theorem Yq:AA env.P 49=true:=by kernel_rfl
@[simp] theorem G7:ig env.P 49=(some [47,3]):=by kernel_rfl
@[simp] theorem UC:ic env.P 49=(some [(0,3),(3,1)]):=by kernel_rfl
@[simp] theorem RZ:az env.P 49 0=(some (0,3)):=by kernel_rfl
@[simp] theorem RQ:az env.P 49 1=(some (3,1)):=by kernel_rfl
@[simp] theorem Vw:av env.P 51=(some 5):=by kernel_rfl
@[simp] theorem XM:eA env.P 51=(some true):=by kernel_rfl
@[simp] theorem XA:mi env.P 51=none:=by kernel_rfl
@[simp] theorem Vn:ei env.P 51=(some (.agg [(a8 0),(bc 0),(a8 0),(.v (.int .i64 0)),(.v (.int .i64 0))])):=by kernel_rfl
@[simp] theorem Wk:mH env.P 51=none:=by kernel_rfl
@[simp] theorem Yp:AA env.P 51=true:=by kernel_rfl
@[simp] theorem G6:ig env.P 51=(some [49,3]):=by kernel_rfl
@[simp] theorem UB:ic env.P 51=(some [(0,4),(4,1)]):=by kernel_rfl
@[simp] theorem RY:az env.P 51 0=(some (0,4)):=by kernel_rfl
@[simp] theorem RP:az env.P 51 1=(some (4,1)):=by kernel_rfl
@[simp] theorem Vv:av env.P 52=(some 1):=by kernel_rfl
@[simp] theorem XL:eA env.P 52=(some false):=by kernel_rfl
@[simp] theorem MH:dV env.P 52=(some 21):=by kernel_rfl
@[simp] theorem Xz:mi env.P 52=none:=by kernel_rfl
@[simp] theorem Wr:isStr env.P 52=false:=by kernel_rfl
@[simp] theorem Vm:ei env.P 52=(some (.v (.slice none 0 0))):=by kernel_rfl
@[simp] theorem Ze:FH env.P 52=true:=by kernel_rfl
@[simp] theorem Yu:pK env.P 52=true:=by kernel_rfl
@[simp] theorem Y9:jf env.P 52=1:=by kernel_rfl
@[simp] theorem Yx:pw env.P 52=4:=by kernel_rfl
@[simp] theorem U2:gN env.P 52=(.v (.int .i32 0)):=by kernel_rfl
@[simp] theorem Vu:av env.P 54=(some 17):=by kernel_rfl
@[simp] theorem XK:eA env.P 54=(some true):=by kernel_rfl
@[simp] theorem Xy:mi env.P 54=none:=by kernel_rfl
@[simp] theorem Vl:ei env.P 54=(some (.agg [(a8 0),(a8 0),(bc 0),(a8 0),(.v (.int .i64 0)),(a8 0),(bc 0),(a8 0),(.v (.int .i64 0)),(.v (.int .i64 0)),(a8 0),(bc 0),(a8 0),(.v (.int .i64 0)),(a8 0),(bc 0),(.v (.slice none 0 0))])):=by kernel_rfl
@[simp] theorem G5:ig env.P 54=(some [5,47,3,51,49,45,52]):=by kernel_rfl
@[simp] theorem UA:ic env.P 54=(some [(0,1),(1,3),(4,1),(5,5),(10,4),(14,2),(16,1)]):=by kernel_rfl
@[simp] theorem RX:az env.P 54 0=(some (0,1)):=by kernel_rfl
@[simp] theorem RO:az env.P 54 1=(some (1,3)):=by kernel_rfl
@[simp] theorem RJ:az env.P 54 2=(some (4,1)):=by kernel_rfl
@[simp] theorem RG:az env.P 54 3=(some (5,5)):=by kernel_rfl
@[simp] theorem RD:az env.P 54 4=(some (10,4)):=by kernel_rfl
@[simp] theorem RB:az env.P 54 5=(some (14,2)):=by kernel_rfl
@[simp] theorem RA:az env.P 54 6=(some (16,1)):=by kernel_rfl
@[simp] theorem Vt:av env.P 56=(some 3):=by kernel_rfl
@[simp] theorem XJ:eA env.P 56=(some true):=by kernel_rfl
@[simp] theorem Xx:mi env.P 56=none:=by kernel_rfl
@[simp] theorem Vk:ei env.P 56=(some (.agg [(a8 0),(bc 0),(.v (.bool false))])):=by kernel_rfl
@[simp] theorem Wj:mH env.P 56=none:=by kernel_rfl
@[simp] theorem G4:ig env.P 56=(some [45,4]):=by kernel_rfl
@[simp] theorem Uz:ic env.P 56=(some [(0,2),(2,1)]):=by kernel_rfl
@[simp] theorem RW:az env.P 56 0=(some (0,2)):=by kernel_rfl
@[simp] theorem RN:az env.P 56 1=(some (2,1)):=by kernel_rfl
@[simp] theorem Vs:av env.P 58=(some 4):=by kernel_rfl
@[simp] theorem XI:eA env.P 58=(some true):=by kernel_rfl
@[simp] theorem Xw:mi env.P 58=none:=by kernel_rfl
@[simp] theorem Vj:ei env.P 58=(some (.agg [(.v (.int .i64 0)),(a8 0),(bc 0),(.v (.bool false))])):=by kernel_rfl
@[simp] theorem Wi:mH env.P 58=none:=by kernel_rfl
@[simp] theorem Yo:AA env.P 58=true:=by kernel_rfl
@[simp] theorem G3:ig env.P 58=(some [3,56]):=by kernel_rfl
@[simp] theorem Uy:ic env.P 58=(some [(0,1),(1,3)]):=by kernel_rfl
@[simp] theorem RV:az env.P 58 0=(some (0,1)):=by kernel_rfl
@[simp] theorem RM:az env.P 58 1=(some (1,3)):=by kernel_rfl
@[simp] theorem mz:av env.P 60=(some 24):=by kernel_rfl
@[simp] theorem XH:eA env.P 60=(some true):=by kernel_rfl
@[simp] theorem Xv:mi env.P 60=none:=by kernel_rfl
@[simp] theorem Vi:ei env.P 60=(some (.agg [(a8 0),(.v (.int .i64 0)),(a8 0),(a8 0),(bc 0),(a8 0),(.v (.int .i64 0)),(a8 0),(bc 0),(a8 0),(.v (.int .i64 0)),(.v (.int .i64 0)),(a8 0),(bc 0),(a8 0),(.v (.int .i64 0)),(a8 0),(bc 0),(.v (.slice none 0 0)),(.v (.int .i64 0)),(.v (.int .i64 0)),(a8 0),(bc 0),(.v (.bool false))])):=by kernel_rfl
@[simp] theorem G2:ig env.P 60=(some [5,3,54,22,58]):=by kernel_rfl
@[simp] theorem Ux:ic env.P 60=(some [(0,1),(1,1),(2,17),(19,1),(20,4)]):=by kernel_rfl
@[simp] theorem RU:az env.P 60 0=(some (0,1)):=by kernel_rfl
@[simp] theorem RL:az env.P 60 1=(some (1,1)):=by kernel_rfl
@[simp] theorem RI:az env.P 60 2=(some (2,17)):=by kernel_rfl
@[simp] theorem RF:az env.P 60 3=(some (19,1)):=by kernel_rfl
@[simp] theorem RC:az env.P 60 4=(some (20,4)):=by kernel_rfl
@[simp] theorem Vr:av env.P 61=(some 1):=by kernel_rfl
@[simp] theorem XG:eA env.P 61=(some false):=by kernel_rfl
@[simp] theorem MG:dV env.P 61=(some 27):=by kernel_rfl
@[simp] theorem Xu:mi env.P 61=none:=by kernel_rfl
@[simp] theorem Wq:isStr env.P 61=false:=by kernel_rfl
@[simp] theorem Vh:ei env.P 61=(some (.v (.slice none 0 0))):=by kernel_rfl
@[simp] theorem Zd:FH env.P 61=true:=by kernel_rfl
@[simp] theorem Yt:pK env.P 61=true:=by kernel_rfl
@[simp] theorem Y8:jf env.P 61=1:=by kernel_rfl
@[simp] theorem Yw:pw env.P 61=24:=by kernel_rfl
@[simp] theorem U1:gN env.P 61=(.v (.slice none 0 0)):=by kernel_rfl
@[simp] theorem my:av env.P 69=(some 4):=by kernel_rfl
@[simp] theorem XF:eA env.P 69=(some true):=by kernel_rfl
@[simp] theorem Xt:mi env.P 69=none:=by kernel_rfl
@[simp] theorem Vg:ei env.P 69=(some (.agg [(.v (.int .i64 0)),(.v (.int .i64 0)),(.v (.int .i64 0)),(.v (.int .i64 0))])):=by kernel_rfl
@[simp] theorem Wh:mH env.P 69=none:=by kernel_rfl
@[simp] theorem Yn:AA env.P 69=true:=by kernel_rfl
@[simp] theorem R4:ig env.P 69=(some [3,3,3,3]):=by kernel_rfl
@[simp] theorem Uw:ic env.P 69=(some [(0,1),(1,1),(2,1),(3,1)]):=by kernel_rfl
@[simp] theorem RT:az env.P 69 0=(some (0,1)):=by kernel_rfl
@[simp] theorem RK:az env.P 69 1=(some (1,1)):=by kernel_rfl
@[simp] theorem RH:az env.P 69 2=(some (2,1)):=by kernel_rfl
@[simp] theorem RE:az env.P 69 3=(some (3,1)):=by kernel_rfl
@[simp] theorem Ud:av env.P 106=(some 24):=by kernel_rfl
@[simp] theorem VG:mi env.P 106=none:=by kernel_rfl
@[simp] theorem T8:ei env.P 106=(some (.agg [(a8 0),(.v (.int .i64 0)),(a8 0),(a8 0),(bc 0),(a8 0),(.v (.int .i64 0)),(a8 0),(bc 0),(a8 0),(.v (.int .i64 0)),(.v (.int .i64 0)),(a8 0),(bc 0),(a8 0),(.v (.int .i64 0)),(a8 0),(bc 0),(.v (.slice none 0 0)),(.v (.int .i64 0)),(.v (.int .i64 0)),(a8 0),(bc 0),(.v (.bool false))])):=by kernel_rfl
@[simp] theorem SW:ic env.P 106=(some [(0,24)]):=by kernel_rfl
@[simp] theorem QJ:az env.P 106 0=(some (0,24)):=by kernel_rfl
@[simp] theorem Uc:av env.P 127=(some 1):=by kernel_rfl
@[simp] theorem VJ:eA env.P 127=(some false):=by kernel_rfl
@[simp] theorem Ub:av env.P 178=(some 4):=by kernel_rfl
@[simp] theorem VI:eA env.P 178=(some true):=by kernel_rfl
@[simp] theorem VF:mi env.P 178=none:=by kernel_rfl
@[simp] theorem T7:ei env.P 178=(some (.agg [(a8 0),(bc 0),(a8 0),(.v (.int .i64 0))])):=by kernel_rfl
@[simp] theorem SV:ic env.P 178=(some [(0,3),(3,1)]):=by kernel_rfl
@[simp] theorem Px:oC env.P 178 0=(some (0,47)):=by kernel_rfl
@[simp] theorem QI:az env.P 178 0=(some (0,3)):=by kernel_rfl
@[simp] theorem QG:az env.P 178 1=(some (3,1)):=by kernel_rfl
@[simp] theorem Ua:av env.P 182=(some 3):=by kernel_rfl
@[simp] theorem VE:mi env.P 182=none:=by kernel_rfl
@[simp] theorem T6:ei env.P 182=(some (.agg [(.v (.slice none 0 0)),(.v (.int .i64 0)),(.v (.bool false))])):=by kernel_rfl
@[simp] theorem SU:ic env.P 182=(some [(0,1),(1,1),(2,1)]):=by kernel_rfl
@[simp] theorem QH:az env.P 182 0=(some (0,1)):=by kernel_rfl
@[simp] theorem QF:az env.P 182 1=(some (1,1)):=by kernel_rfl
@[simp] theorem QE:az env.P 182 2=(some (2,1)):=by kernel_rfl
@[simp] theorem T9:av env.P 193=(some 2):=by kernel_rfl
@[simp] theorem VH:eA env.P 193=(some true):=by kernel_rfl
@[simp] theorem Pw:oC env.P 193 0=(some (0,127)):=by kernel_rfl
@[simp] theorem VD:mi env.P 194=(some (4,193)):=by kernel_rfl
end Go.Proofs.YtehkjjcdkbcebaaGreat
namespace Go.Ab
def yx:AV->Bool
 | .v (.int .i32 _)=>true
 | _=>false
def KM:Value->Bool
 | .int .i32 _=>true
 | _=>false
def Ax:Nat->AV->Bool
 | 0,_=>false
 | n+1,x=>match x with
  | .v _=>true
  | .agg cs | .tup cs=>cs.all (Ax n)
  | .bl _ es _=>es.all λe=>e.cells.all λc => !yx c&&Ax n c
  | _=>false
theorem Pq{M:Mem}{ι:Map}{n:Nat}{x:AV}{u:Value}(h:VR M ι x u)(hi:yx x=false)(a:Ax n x=true):KM u=false:=by
 cases n with
 | zero=>simp[Ax]at a
 | succ n=>
  cases h with
  | v h=>cases u<;>first | rfl | (rename_i k m;cases k<;>first | rfl | (simp[yx]at hi))
  | agg b h=>rfl
  | tup f b h=>rfl
  | bl cell d c e hm he h=>rfl
  | _=>simp[Ax]at a
theorem S5{M M':Mem}(B : ∀b o x,M b o=some x->KM x=false->M' b o=some x) : ∀(n:Nat)(ι:Map)(x:AV)(u:Value),Ax n x=true->VR M ι x u->VR M' ι x u:=by
 intro n
 induction n with
 | zero=>intro ι x u d;simp[Ax]at d
 | succ n s=>
  intro ι x u d h
  cases h with
  | v h=>exact .v h
  | agg q h=>
   simp only[Ax,da]at d
   exact .agg q λi c u f p=>s _ c u (d c (eY f)) (h i c u f p)
  | tup E q h=>
   simp only[Ax,da]at d
   exact .tup E q λi c u f p=>s _ c u (d c (eY f)) (h i c u f p)
  | bl cell C f D hm he h=>
   rename_i esz es cap a c
   simp only[Ax,da,aY,gE]at d
   have one : ∀i j,i<es.length->j<esz ->∃e x,es[i]?=some e/\e.cells[j]?=some x/\e∈es/\x∈e.cells:=by
    intro i j hi l
    have t:=cw hi
    have m:j<es[i].cells.length:=by rw[he _ (gD hi)];exact l
    exact⟨_,_,t,cw m,gD hi,gD m⟩
   refine .bl cell C f D (λi j hi l=>?_) he λi j e x k g=>?_
   ·obtain⟨e,x,t,m,w,y⟩:=one i j hi l
    obtain⟨A,z⟩:=hm i j hi l
    exact⟨B _ _ _ A (Pq (h i j e x t m) (d e w x y).1 (d e w x y).2),z⟩
   ·exact s _ x _ (d e (eY k) x (eY g)).2 (h i j e x k g)
  | _=>simp[Ax]at d
theorem Cu(r:Ref) : ∀(n m:Nat)(x:AV)(bs:List aJ),Ax n x=true->af r m x bs=(x,bs):=by
 intro n
 induction n with
 | zero=>intro m x bs f;simp[Ax]at f
 | succ n j=>
  intro m x bs f
  have e : ∀(m:Nat)(cs d:List AV)(bs:List aJ),(∀c∈cs,Ax n c=true)->cs.foldl (λ(p:List AV × List aJ) c=>let (y,bs):=af r m c p.2;(p.1++[y],bs)) (d,bs)=(d++cs,bs):=by
   intro m cs
   induction cs with
   | nil=>intro d bs _;simp
   | cons c cs h=>
    intro d bs i
    simp only[uq]
    rw[j m c bs (i c (by simp))]
    simp only
    rw[h _ _ λc g=>i c (by simp[g])]
    simp
  cases m with
  | zero=>rfl
  | succ m=>
   cases x with
   | agg cs=>
    simp only[Ax,da]at f
    simp only[af,e m cs [] bs f,pR]
   | tup cs=>
    simp only[Ax,da]at f
    simp only[af,e m cs [] bs f,pR]
   | v y=>rfl
   | bl a b c=>rfl
   | _=>simp[Ax]at f
def vq(g:cf)(r:Ref):Bool:=match g r with
 | some b=>b.arr&&b.es.all λe=>e.cells.all yx
 | none=>false
theorem OX{M ι g w R}(q:eW M ι g w)(G : ∀r∈R,vq g r=true){b o:Nat}{x:Value}(h:iD M ι g w R b o=some x):M b o=some x\/KM x=true:=by
 rcases qS h with J | ⟨r,B,k,l,j,s,z,n⟩
 ·exact .inl J
 ·refine .inr ?_
  subst z
  have hi:=G r B
  unfold vq at hi
  rw[j]at hi
  simp only[aY,da]at hi
  have C:0<k.esz:=ur λe=>by rw[e]at n;simp at n
  have a:o / k.esz<k.es.length:=Nat.div_lt_of_lt_mul (by rw[yZ];exact n)
  have i:o % k.esz<k.esz:=Nat.mod_lt _ C
  obtain⟨u,t,L,K,F⟩:=yN (M:=M) q B j s a i
  have H:o / k.esz * k.esz+o % k.esz=o:=by rw[yZ];exact Nat.div_add_mod o k.esz
  rw[H]at t
  rw[h]at t
  cases t
  have E:=(q.at s (by obtain⟨N,f,z⟩:=q.live r k j;rw[s]at f;cases f;rw[z.esz];exact C) j).cells
  have I:=cw a
  have A:o % k.esz<k.es[o / k.esz].cells.length:=by rw[E _ (gD a)];exact i
  have p:=F _ _ I (cw A)
  have d:=hi.2 _ (gD a) _ (gD A)
  revert p d
  generalize k.es[o / k.esz].cells[o % k.esz]=y
  intro p d
  cases y with
  | v c=>
   cases p with | v _=>
   revert d
   cases x with
   | int D m=>cases D<;>simp[yx,KM]
   | _=>simp[yx]
  | _=>simp[yx]at d
theorem o5.apart{M:Mem}{ι:Map}{g:cf}{w w':World}{R:List Ref}{M':Mem}{y:AV}{v:Value}(C:eW M ι g w)(B : ∀r∈R,vq g r=true)(s:Ax depth y=true)(h:o5 (iD M ι g w R) w y v M' w') :
 ∃d,o5 M w y v d w':=by
 classical
 obtain⟨d,f⟩ : ∃d:Mem,∀b o,d b o=(match M' b o with | some x=>if KM x=true/\b<w.heap.size then M b o else some x | none=>none):=⟨_,λb o=>rfl⟩
 have p : ∀b o x,M b o=some x->d b o=some x:=by
  intro b o x a
  rw[f,h.mem b o x (o3 b o x a)]
  dsimp only
  split
  ·exact a
  ·rfl
 have c : ∀b o x,d b o=some x->M' b o=some x/\(M b o=some x \/¬(KM x=true/\b<w.heap.size)):=by
  intro b o x a
  rw[f]at a
  cases hm:M' b o with
  | none=>rw[hm]at a;cases a
  | some z=>
   rw[hm]at a
   dsimp only at a
   split at a
   ·rw[h.mem b o x (o3 b o x a)]at hm
    cases hm
    exact⟨rfl,.inl a⟩
   ·rename_i u
    cases a
    exact⟨rfl,.inr u⟩
 refine⟨d,h.os,h.tape,h.output,h.size,h.old,p,λb o x a=>h.sound b o x (c b o x a).1,λb o x a=>?_,λr=>?_⟩
 ·obtain⟨D,i | i⟩:=c b o x a
  ·exact .inl i
  ·rcases h.new b o x D with m | m
   ·rcases OX C B m with n | n
    ·exact .inl n
    ·exact .inr (Nat.le_of_not_lt λj=>i ⟨n,j⟩)
   ·exact .inr m
 ·obtain⟨ls,j,t,A,hi⟩:=h.res r
  have e:=Cu r depth depth y [] s
  rw[e]at j t A ⊢
  refine⟨ls,j,S5 (λb o x a i=>by rw[f,a];dsimp only;rw[if_neg (by rw[i];simp)]) depth _ y v s t,λk l b E q=>?_,hi⟩
  simp at q
theorem KN{P:Program}{f:FuncId}{args i:List AV}{y:AV}{H:ab}(hp:fV P f i y)(m:args.mapM (view H.get depth)=some i)(g:Ax depth y=true)(j:(ba H.get args).all (vq H.get)=true):lL P (.fn f) args H y H:=by
 refine⟨hp.1,λM ι w us b d c=>?_⟩
 have a:=hp.2 (iD M ι H.get w (ba H.get args)) w _ (qR b.mem) (Bv b m c)
 refine a.mono λe w' ⟨v,M',he,hend⟩=>⟨v,he,?_⟩
 obtain⟨M2,l⟩:=hend.apart b (da.1 j) g
 have h:=yH (r:=⟨0,0,H.gen 0 0,0⟩) b (λk=>d.fresh 0 0 k) l
 rw[Cu _ depth depth y [] g]at h
 exact h.Si d
noncomputable def xA(o:List AV->Option AV)(args:List AV)(H:ab):Option (AV × ab):=match args.mapM (view H.get depth) with
 | some xs=>(match o xs with
  | some y=>if Ax depth y=true/\(ba H.get args).all (vq H.get)=true then some (y,H) else none
  | none=>none)
 | none=>none
theorem L2{P:Program}{f:FuncId}{o:List AV->Option AV}(g : ∀a y,o a=some y->fV P f a y){args:List AV}{H:ab}{y:AV}{c:ab}(h:xA o args H=some (y,c)):lL P (.fn f) args H y c:=by
 unfold xA at h
 split at h
 ·rename_i a b
  split at h
  ·rename_i i e
   obtain⟨d,h⟩:=dG.1 h
   cases h
   exact KN (g a _ e) b d.1 d.2
  ·cases h
 ·cases h
theorem eW.fr{M:Mem}{ι:Map}{H:ab}{w:World}(c:eW M ι H.get w)(a:o6 ι H):Fr H:=by
 intro d t g k f
 cases h:H.get ⟨d,t,g,k⟩ with
 | none=>rfl
 | some b=>
  obtain⟨l,e,_⟩:=c.live _ _ h
  have:=a _ l e
  simp only at this
  omega
structure R8 where
 lv:UInt8
 cats:UInt32
deriving DecidableEq
structure dY where
 kind:UInt8
 h:KC
 serial:Int
 s:TX
 a:uO
 to:R8
 l:List Int
deriving DecidableEq
def iJ(a:uO):Bool:=decide (a.h.lv=0)&&decide (a.h.cats=0)&&decide (a.h.num=0)&&decide (a.n=0)
def rj(t:R8):Bool:=decide (t.lv=0)&&decide (t.cats=0)
def BT(a b:KC):Bool:=decide (a.lv=b.lv)&&decide (a.cats=b.cats)&&decide (a.num=b.num)
theorem sh(a:uO):iJ a=true↔a=ke:=by
 obtain⟨⟨a,b,c⟩,d⟩:=a
 simp[iJ,ke,and_assoc]
def vB(o:dY):Bool:=iJ o.a&&decide (o.l=[])
def Dn(o:dY):Bool:=rj o.to&&((iJ o.a||uF o.a)&&(BT o.s.f.h o.h&&(decide ((o.l.length:Int)=o.s.many)&&Cb o.l)))
def Jf(o:dY):Bool:=rj o.to&&vB o
def E2(o:dY):Bool:=vB o&&decide (o.to.lv<=15)
def yp(o:dY):Bool:=if o.kind=1 then Dn o else if o.kind=2 then Jf o else if o.kind=3 then E2 o else false
def nB(o:dY):Bool:=ej o.h&&(decide (1<=o.serial)&&(decide (o.serial<16777216)&&(k7 o.s&&yp o)))
theorem Cn{P:Program}{t:TypeId}(e:(eA P t).isSome=true)(d:(av P t).isSome=true)(cs:List AV)(a:Nat):vl P t cs a=J4 cs a ((av P t).getD 0) ((eA P t).getD false):=by
 obtain⟨b,f⟩:=fO.1 e
 obtain⟨n,c⟩:=fO.1 d
 simp only[vl,f,c,bO]
 cases b<;>rfl
theorem zq{P:Program}{t:TypeId}(a:((mi P t).bind λp=>av P p.2).isSome=true)(cs:List AV)(k:UInt8)(c:k.toNat<((mi P t).getD (0,0)).1) :
 rV P t (some (.agg cs)) (some (a8 k))=gJ (vl P ((mi P t).getD (0,0)).2 cs (k.toNat * (av P ((mi P t).getD (0,0)).2).getD 0)):=by
 cases b:mi P t with
 | none=>rw[b]at a;simp at a
 | some p=>
  obtain⟨n,e⟩:=p
  rw[b]at a c
  simp only[dF,bO]at a c
  obtain⟨s,d⟩:=fO.1 a
  unfold rV a8
  simp only[dF,qK,b,d,bO]
  rw[if_pos (by omega)]
  simp
@[simp] theorem UN(r:Ref)(n:Nat)(f:Fn)(a b:List AV)(bs:List aJ):af r n (.fn f a b) bs=(.fn f a b,bs):=by cases n<;>rfl
end Go.Ab
namespace Go.Proofs.YtehkjjcdkbcebaaGreat
open Go.Ab
section
variable(dep:Nat)(g:Nat->AV)(a b:AV)(H:ab)(Q:AV->ab->Prop)
noncomputable def fX:=xv Tryz.f87 4
def nj:Nat->Option (List Nat):=λi=>cond (Nat.beq i 4) (some [5,1,0]) (none)
def j7:Prop:=
 eR H 7 52 a λd=>
 eR H 9 52 b λe=>
 zP 3 7 9 d e λc=>
 br (some c) (
 Q (.v (.bool false)) H) (
  dZ env Tryz.f87 0 fX [(5,(.v (.int .i64 0))),(1,b),(0,a)] H Q)
theorem sI(h : ∀g:gX,j7 a b H Q):gI Tryz.f87 0 [(0,a),(1,b)] H Q:=zk nj (by kernel_rfl) h
def fZ(g:Nat->AV)(x5 b a:AV)(H:ab)(Q:AV->ab->Prop):Prop:=
 eR H 13 52 a λi=>
 kb 3 11 13 x5 i λj=>
 br (some j) (
 gf H 52 a x5 λk=>
 ae H 21 k λh=>
 gf H 52 b x5 λe=>
 ae H 21 e λd=>
 zP 21 20 24 h d λc=>
 br (some c) (
 Q (.v (.bool false)) H) (
 kH 3 15 1 x5 λf=>
  dZ env Tryz.f87 0 fX [(5,f),(1,b),(0,a)] H Q)) (
 Q (.v (.bool true)) H)
theorem lY(x5 b a:AV)(H:ab)(Q:AV->ab->Prop)(h : ∀g,fZ g x5 b a H Q):dZ env Tryz.f87 0 fX [(5,x5),(1,b),(0,a)] H Q:=zY nj (by kernel_rfl) h
def qU:Prop:=
 eX H 1 47 a λh f=>
 ah 47 h 0 λl=>
 ae f 45 l λp=>
 bt true f 5 136 [p] λo e=>
 wo 22 5 0 o λc=>
 gQ c true (an 47 h 1) λk=>
 gQ c true (aF e 5 k) λi=>
 gQ c true (bK env.P .lss 5 (Operand.tmp 9) (.const (.int .u8 8)) (some i) (some (a8 8))) λm=>
 bM c m λn=>
 bt true e 12 135 [n] λd j=>
 Q d j
theorem xf(h : ∀g:gX,qU a H Q):gI Tryz.f114 0 [(0,a)] H Q:=kS (by kernel_rfl) h
def j2:Prop:=
 eX H 1 51 a λd x=>
 ah 51 d 0 λD=>
 ae x 49 D λE=>
 bt true x 5 139 [E] λB e=>
 wo 22 5 0 B λf=>
 gQ f true (an 51 d 1) λz=>
 gQ f true (aF e 3 z) λy=>
 gQ f true (pO 3 9 1 y) λA=>
 bM f A λh=>
 gQ h true (an 51 d 1) λq=>
 gQ h true (aF e 3 q) λi=>
 gQ h true (wj 3 14 64 i) λw=>
 bM h w λc=>
 gQ c true (an 51 d 0) λn=>
 gQ c true (an 49 n 1) λp=>
 gQ c true (aF e 3 p) λl=>
 gQ c true (an 51 d 1) λm=>
 gQ c true (aF e 3 m) λs=>
 gQ c true (bK env.P .add 3 (Operand.tmp 20) (Operand.tmp 22) (some l) (some s)) λt=>
 gQ c true (bK env.P .sub 3 (Operand.tmp 23) (Operand.const (Value.int IntKind.i64 1)) (some t) (some (AV.v (Value.int IntKind.i64 1)))) λu=>
 gQ c true (wj 3 24 1099511627776 u) λj=>
 bM c j λk=>
 bt true e 27 135 [k] λo C=>
 Q o C
theorem zi(h : ∀g:gX,j2 a H Q):gI Tryz.f137 0 [(0,a)] H Q:=kS (by kernel_rfl) h
noncomputable def dO:=xv Tryz.f88 4
def jT:Nat->Option (List Nat):=λi=>cond (Nat.beq i 4) (some [13,1,0,12]) (none)
def gr:Prop:=
 eR H 7 52 a λe=>
 eR H 9 52 b λf=>
 zP 3 7 9 e f λd=>
 br (some d) (
 Q (.v (.bool false)) H) (
 eR H 12 52 a λc=>
  dZ env Tryz.f88 0 dO [(13,(.v (.int .i64 0))),(1,b),(0,a),(12,c)] H Q)
theorem ox(h : ∀g:gX,gr a b H Q):gI Tryz.f88 0 [(0,a),(1,b)] H Q:=zk jT (by kernel_rfl) h
def dR(g:Nat->AV)(c b a d:AV)(H:ab)(Q:AV->ab->Prop):Prop:=
 kb 3 13 12 c d λj=>
 br (some j) (
 gf H 52 a c λk=>
 ae H 21 k λl=>
 gf H 52 b c λi=>
 ae H 21 i λh=>
 zP 21 19 23 l h λf=>
 br (some f) (
 Q (.v (.bool false)) H) (
 kH 3 13 1 c λe=>
  dZ env Tryz.f88 0 dO [(13,e),(1,b),(0,a),(12,d)] H Q)) (
 Q (.v (.bool true)) H)
theorem jl(d b a c:AV)(H:ab)(Q:AV->ab->Prop)(h : ∀g,dR g d b a c H Q):dZ env Tryz.f88 0 dO [(13,d),(1,b),(0,a),(12,c)] H Q:=zY jT (by kernel_rfl) h
def yR:Prop:=
 eX H 1 49 a λh m=>
 ah 49 h 0 λt=>
 ae m 47 t λu=>
 bt true m 5 114 [u] λq i=>
 wo 22 5 0 q λc=>
 gQ c true (an 49 h 1) λo=>
 gQ c true (aF i 3 o) λn=>
 gQ c true (pO 3 9 1 n) λp=>
 bM c p λd=>
 gQ d true (an 49 h 1) λj=>
 gQ d true (aF i 3 j) λe=>
 gQ d true (wj 3 14 1099511627776 e) λl=>
 bM d l λk=>
 bt true i 17 135 [k] λf s=>
 Q f s
theorem EO(h : ∀g:gX,yR a H Q):gI Tryz.f139 0 [(0,a)] H Q:=kS (by kernel_rfl) h
def qT:Prop:=
 eR H 6 52 a λe=>
 wq 3 6 64 e λf=>
 br (some f) (
 Q (.v (.int .i64 4)) H) (
 bt true H 11 154 [a,(.fn (.func 152) [] [])] λd c=>
 br (some d) (
 Q (.v (.int .i64 8)) c) (
 Q (.v (.int .i64 0)) c))
theorem Bw(h : ∀g:gX,qT a H Q):gI Tryz.f140 0 [(0,a)] H Q:=kS (by kernel_rfl) h
def vE:Prop:=
 eX H 1 45 a λf c=>
 ah 45 f 0 λh=>
 ae c 5 h λe=>
 ew (bK env.P .gtr 5 (Operand.tmp 4) (.const (.int .u8 15)) (some e) (some (a8 15))) λd=>
 br (some d) (
 Q (.v (.int .i64 8)) c) (
 Q (.v (.int .i64 0)) c)
theorem BC(h : ∀g:gX,vE a H Q):gI Tryz.f136 0 [(0,a)] H Q:=kS (by kernel_rfl) h
def yQ:Prop:=
 br (some a) (
 Q (.v (.int .i64 0)) H) (
 Q (.v (.int .i64 8)) H)
theorem EN(h : ∀g:gX,yQ a H Q):gI Tryz.f135 0 [(0,a)] H Q:=kS (by kernel_rfl) h
def oR:Prop:=
 Q2 21 3 a λc=>
 gQ c true (cC a) λi=>
 gW c true H (eT true H 7 153 [i]) λf d=>
 gQ c true (xH f) λe=>
 bM c e λh=>
 Q h d
theorem zf(h : ∀g:gX,oR a H Q):gI Tryz.f152 0 [(0,a)] H Q:=kS (by kernel_rfl) h
def mc:Prop:=
 ew (bK env.P .leq 21 (.const (.int .i32 0)) (Operand.tmp 4) (some (.v (.int .i32 0))) (some a)) λd=>
 gQ d true (cC a) λh=>
 gQ d true (bK env.P .lss 21 (Operand.tmp 7) (.const (.int .i32 55296)) (some h) (some (.v (.int .i32 55296)))) λk=>
 bM d k λj=>
 br (some j) (
 Q (.v (.bool true)) H) (
 ew (bK env.P .lss 21 (.const (.int .i32 57343)) (Operand.tmp 11) (some (.v (.int .i32 57343))) (some a)) λc=>
 gQ c true (cC a) λf=>
 gQ c true (bK env.P .leq 21 (Operand.tmp 14) (.const (.int .i32 1114111)) (some f) (some (.v (.int .i32 1114111)))) λe=>
 bM c e λi=>
 br (some i) (
 Q (.v (.bool true)) H) (
 Q (.v (.bool false)) H))
theorem qW(h : ∀g:gX,mc a H Q):gI Tryz.f153 0 [(0,a)] H Q:=kS (by kernel_rfl) h
def il:Prop:=
 bt true H 7 155 [a,b] λd c=>
 xJ 3 7 0 d λe=>
 Q e c
theorem mh(h : ∀g:gX,il a b H Q):gI Tryz.f154 0 [(0,a),(1,b)] H Q:=kS (by kernel_rfl) h
noncomputable def dh:=xv Tryz.f155 2
def ja:Nat->Option (List Nat):=λi=>cond (Nat.beq i 2) (some [8,0,1,7]) (none)
def jb:Prop:=
 eR H 7 52 a λc=>
  dZ env Tryz.f155 0 dh [(8,(.v (.int .i64 0))),(0,a),(1,b),(7,c)] H Q
theorem ny(h : ∀g:gX,jb a b H Q):gI Tryz.f155 0 [(0,a),(1,b)] H Q:=zk ja (by kernel_rfl) h
def dm(g:Nat->AV)(c a b d:AV)(H:ab)(Q:AV->ab->Prop):Prop:=
 kb 3 8 7 c d λi=>
 br (some i) (
 gf H 52 a c λj=>
 ae H 21 j λk=>
 FL H 16 b k λh e=>
 br (some h) (
 Q c e) (
 kH 3 8 1 c λf=>
  dZ env Tryz.f155 0 dh [(8,f),(0,a),(1,b),(7,d)] e Q)) (
 Q (.v (.int .i64 (-1))) H)
theorem iN(c a b d:AV)(H:ab)(Q:AV->ab->Prop)(h : ∀g,dm g c a b d H Q):dZ env Tryz.f155 0 dh [(8,c),(0,a),(1,b),(7,d)] H Q:=zY ja (by kernel_rfl) h
noncomputable def pH:=xv Tryz.f115 2
def wO:Nat->Option (List Nat):=λi=>cond (Nat.beq i 2) (some [5,0,4]) (none)
def sc:Prop:=
 AP 3 6 1 b λc=>
  dZ env Tryz.f115 0 pH [(5,c),(0,a),(4,(.v (.slice none 0 0)))] H Q
theorem wG(h : ∀g:gX,sc a b H Q):gI Tryz.f115 0 [(0,a),(1,b)] H Q:=zk wO (by kernel_rfl) h
def cu(g:Nat->AV)(x5 a c:AV)(H:ab)(Q:AV->ab->Prop):Prop:=
 xJ 3 8 0 x5 λi=>
 br (some i) (
 nC 3 8 14 x5 λk=>
 ew (bK env.P .shr 3 (Operand.tmp 13) (Operand.tmp 15) (some a) (some k)) λm=>
 cE H 17 3 5 m λh=>
 o7 H 18 27 1 0 h λf l=>
 dg l 19 27 27 c f λe j=>
 AP 3 10 1 x5 λd=>
  dZ env Tryz.f115 0 pH [(5,d),(0,a),(4,e)] j Q) (
 Q c H)
theorem cD(x5 a c:AV)(H:ab)(Q:AV->ab->Prop)(h : ∀g,cu g x5 a c H Q):dZ env Tryz.f115 0 pH [(5,x5),(0,a),(4,c)] H Q:=zY wO (by kernel_rfl) h
noncomputable def oX:=xv Tryz.f142 2
def Ag:Nat->Option (List Nat):=λi=>cond (Nat.beq i 2) (some [7,2,5,6]) (none)
def Aq:Prop:=
 eR H 6 27 a λc=>
  dZ env Tryz.f142 0 oX [(7,(.v (.int .i64 0))),(2,(.v (.int .i64 0))),(5,a),(6,c)] H Q
theorem F5(h : ∀g:gX,Aq a H Q):gI Tryz.f142 0 [(0,a)] H Q:=zk Ag (by kernel_rfl) h
def sb(g:Nat->AV)(c d x5 e:AV)(H:ab)(Q:AV->ab->Prop):Prop:=
 kb 3 7 6 c e λk=>
 br (some k) (
 gf H 27 x5 c λl=>
 ae H 5 l λm=>
 JE 3 11 d λj=>
 cE H 14 5 3 m λi=>
 AN 3 12 14 j i λh=>
 kH 3 7 1 c λf=>
  dZ env Tryz.f142 0 oX [(7,f),(2,h),(5,x5),(6,e)] H Q) (
 Q d H)
theorem wF(c e x5 d:AV)(H:ab)(Q:AV->ab->Prop)(h : ∀g,sb g c e x5 d H Q):dZ env Tryz.f142 0 oX [(7,c),(2,e),(5,x5),(6,d)] H Q:=zY Ag (by kernel_rfl) h
def uc:Prop:=
 gR H 2 178 λo e=>
 eG e 27 a 0 λD=>
 ae e 5 D λF=>
 Q1 e 27 a λy=>
 bt false e 9 142 [y] λv d=>
 cE d 10 3 43 v λu=>
 rh 45 0 F 1 u λt=>
 eG d 27 a 5 λw=>
 ae d 5 w λx=>
 rh 47 0 t 1 x λm=>
 rg 178 0 m λf=>
 gR d 3 178 λc z=>
 ao z 178 c f λA p=>
 ah 178 c 0 λk=>
 ae p 47 k λl=>
 bt true p 19 114 [l] λi B=>
 ah 178 c 1 λj=>
 ao B 22 j i λC s=>
 ae s 178 c λn=>
 ao s 178 o n λE q=>
 bw q o 178 λh=>
 Q h q
theorem xV(h : ∀g:gX,uc a H Q):gI Tryz.f126 0 [(0,a)] H Q:=kS (by kernel_rfl) h
def tg:Prop:=
 gR H 2 47 λd o=>
 eR o 6 27 a λw=>
 lf 3 6 6 w λx=>
 br (some x) (
 fa 47 λm=>
 ao o 47 d m λh l=>
 bw l d 47 λp=>
 Q (.tup [p,(.v (.int .i64 8))]) l) (
 bt true o 10 126 [a] λm l=>
 gR l 4 178 λh u=>
 ao u 178 h m λp j=>
 ah 178 h 1 λq=>
 ae j 22 q λs=>
 lf 22 12 0 s λt=>
 br (some t) (
 fa 47 λe=>
 ah 178 h 1 λc=>
 ae j 22 c λk=>
 ao j 47 d e λi f=>
  oP [(c,d)] [d] [] f /\
 (bw f d 47 λn=>
 Q (.tup [n,k]) f)) (
 ah 178 h 0 λe=>
 ae j 47 e λc=>
 ao j 47 d c λk f=>
 bw f d 47 λi=>
 Q (.tup [i,(.v (.int .i64 0))]) f))
theorem zh(h : ∀g:gX,tg a H Q):gI Tryz.f100 0 [(0,a)] H Q:=kS (by kernel_rfl) h
def CZ:Prop:=
 gR H 2 49 λe p=>
 eR p 7 27 a λA=>
 lf 3 7 13 A λB=>
 br (some B) (
 fa 49 λm=>
 ao p 49 e m λs f=>
 bw f e 49 λk=>
 Q (.tup [k,(.v (.int .i64 8))]) f) (
 bt false p 11 126 [a] λm f=>
 ew (pE env.P 178 (some m) 0) λs=>
 ew (ca env.P (ab.get f) 27 (some a) (oi (.v (.int .i64 6))) (some none) (some none)) λk=>
 bt false f 15 142 [k] λu y=>
 rh 49 0 s 1 u λw=>
 gR y 4 49 λl z=>
 ao z 49 l w λx t=>
 ae t 49 l λj=>
 bt true t 18 139 [j] λi q=>
 lf 22 19 0 i λo=>
 br (some o) (
 fa 49 λd=>
 ao q 49 e d λn h=>
 bw h e 49 λc=>
 Q (.tup [c,i]) h) (
 ae q 49 l λd=>
 ao q 49 e d λn h=>
 bw h e 49 λc=>
 Q (.tup [c,(.v (.int .i64 0))]) h))
theorem HZ(h : ∀g:gX,CZ a H Q):gI Tryz.f143 0 [(0,a)] H Q:=kS (by kernel_rfl) h
def oU:Prop:=
 eX H 1 47 a λc s=>
 ae s 47 c λB=>
 bt true s 6 114 [B] λt j=>
 lf 22 7 0 t λA=>
 br (some A) (
 Q (.tup [(.v (.slice none 0 0)),t]) j) (
 ah 47 c 0 λx=>
 ah 45 x 0 λw=>
 ae j 5 w λu=>
 Jz j 13 27 1 0 u λy l=>
 ah 47 c 0 λz=>
 ah 45 z 1 λk=>
 ae l 43 k λd=>
 cE l 17 43 3 d λo=>
 bt false l 18 115 [o,(.v (.int .i64 4))] λm q=>
 iq (cS env.P false q (Ref.mk 0 19 (ab.gen q 0 19) 0) (some 27) (some 27) y m) λh p=>
 ah 47 c 1 λi=>
 ae p 5 i λe=>
 Jz p 22 27 1 0 e λf D=>
 dg D 23 27 27 h f λn C=>
 Q (.tup [n,(.v (.int .i64 0))]) C)
theorem zg(h : ∀g:gX,oU a H Q):gI Tryz.f89 0 [(0,a)] H Q:=kS (by kernel_rfl) h
def xE:Prop:=
 eX H 1 49 a λd l=>
 ae l 49 d λw=>
 bt true l 8 139 [w] λm e=>
 lf 22 9 0 m λs=>
 br (some s) (
 Q (.tup [(.v (.slice none 0 0)),m]) e) (
 ah 49 d 0 λo=>
 ae e 47 o λn=>
 bt true e 15 89 [n] λj k=>
 bm j 0 λp=>
 bm j 1 λq=>
 ah 49 d 1 λf=>
 ae k 3 f λc=>
 bt true k 21 115 [c,(.v (.int .i64 7))] λi u=>
 dg u 22 27 27 p i λh t=>
 Q (.tup [h,q]) t)
theorem HY(h : ∀g:gX,xE a H Q):gI Tryz.f117 0 [(0,a)] H Q:=kS (by kernel_rfl) h
def eC:Prop:=
 Q4 52 3 a λf=>
 br (some f) (
 Q (.v (.slice none 0 0)) H) (
 iq (jX env.P false true H (Ref.mk 0 5 (ab.gen H 0 5) 0) 52 0 (some [])) λh c=>
 dg c 7 52 52 h a λe d=>
 Q e d)
theorem oy(h : ∀g:gX,eC a H Q):gI Tryz.f86 0 [(0,a)] H Q:=kS (by kernel_rfl) h
end
section
variable(dep:Nat)(g:Nat->AV)(a b c:AV)(H:ab)(Q:AV->ab->Prop)
def iS:Prop:=
 eX H 1 54 a λi l=>
 ah 54 i 0 λV=>
 ae l 5 V λW=>
 ew (bK env.P .eql 5 (Operand.tmp 4) (.const (.int .u8 0)) (some W) (some (a8 0))) λn=>
 gQ n false (an 54 i 0) λT=>
 gQ n false (aF l 5 T) λS=>
 gQ n false (bK env.P .geq 5 (Operand.tmp 8) (.const (.int .u8 4)) (some S) (some (a8 4))) λR=>
 fv n R λm=>
 gQ m false (an 54 i 1) λU=>
 gQ m false (aF l 47 U) λx=>
 gW m false l (eT false l 14 114 [x]) λC j=>
 gQ m false (uR 22 14 0 C) λM=>
 fv m M λf=>
 gQ f false (an 54 i 2) λs=>
 gQ f false (aF j 3 s) λG=>
 gQ f false (uS 3 19 1 G) λE=>
 fv f E λh=>
 gQ h false (an 54 i 2) λz=>
 gQ h false (aF j 3 z) λL=>
 gQ h false (pO 3 24 16777216 L) λA=>
 fv h A λe=>
 gQ e false (an 54 i 3) λD=>
 gQ e false (aF j 51 D) λt=>
 gW e false j (eT false j 30 137 [t]) λJ N=>
 gQ e false (uR 22 30 0 J) λu=>
 fv e u λd=>
 gW d false N (eT false N 34 138 []) λB k=>
 gQ d false (an 54 i 0) λK=>
 gQ d false (aF k 5 K) λI=>
 gQ d false (rV env.P 194 (some B) (some I)) λy=>
 gQ d false (pE env.P 193 (some y) 0) λp=>
 gQ d false (aF k 54 i) λo=>
 gW d false k (aT env true (au env) (dA env 0) k (Ref.mk 0 40 (ab.gen k 0 40) 0) (some p) [o]) λq O=>
 gQ d false (xH q) λw=>
 fv d w λF=>
 br (some F) (
 Q (.v (.int .i64 8)) O) (
 Q (.v (.int .i64 0)) O)
theorem F4(h : ∀g:gX,iS a H Q):gI Tryz.f116 0 [(0,a)] H Q:=kS (by kernel_rfl) h
def r9:Prop:=
 eX H 1 54 a λh e=>
 ah 54 h 4 λk=>
 ae e 49 k λo=>
 fa 49 λn=>
 ug 49 4 5 o n λd=>
 gQ d true (an 54 h 6) λj=>
 gQ d true (aF e 52 j) λi=>
 gQ d true (Dv e 10 52 i) λl=>
 gQ d true (uQ 3 10 0 l) λm=>
 bM d m λf=>
 Q f e
theorem Dd(h : ∀g:gX,r9 a H Q):gI Tryz.f144 0 [(0,a)] H Q:=kS (by kernel_rfl) h
def wW:Prop:=
 eX H 1 54 a λj d=>
 ah 54 j 5 λk=>
 ae d 45 k λh=>
 bt false d 5 141 [] λf e=>
 ug 45 4 5 h f λi=>
 Q i e
theorem Dc(h : ∀g:gX,wW a H Q):gI Tryz.f145 0 [(0,a)] H Q:=kS (by kernel_rfl) h
def vD:Prop:=
 gR H 0 45 λe f=>
 fa 45 λi=>
 ao f 45 e i λj d=>
 bw d e 45 λh=>
 Q h d
theorem BA(h : ∀g:gX,vD H Q):gI Tryz.f141 0 [] H Q:=kS (by kernel_rfl) h
def gB:Prop:=
 eX H 2 54 a λh l=>
 ah 54 h 4 λT=>
 ae l 49 T λU=>
 fa 49 λS=>
 ug 49 6 7 U S λk=>
 gQ k false (an 54 h 4) λO=>
 gQ k false (aF l 49 O) λM=>
 gW k false l (eT true l 12 139 [M]) λP t=>
 gQ k false (uQ 22 12 0 P) λR=>
 fv k R λu=>
 ae t 127 b λz=>
 ae t 54 h λL=>
 FL t 17 z L λj i=>
 gQ j true (cC u) λp=>
 bM j p λe=>
 gQ e true (an 54 h 3) λC=>
 gQ e true (an 51 C 0) λD=>
 gQ e true (an 49 D 0) λw=>
 gQ e true (aF i 47 w) λK=>
 gQ e true (an 54 h 1) λx=>
 gQ e true (aF i 47 x) λm=>
 gQ e true (iI 47 25 27 K m) λB=>
 bM e B λd=>
 gQ d true (an 54 h 6) λI=>
 gQ d true (aF i 52 I) λq=>
 gQ d true (Dv i 33 52 q) λA=>
 gQ d true (an 54 h 3) λy=>
 gQ d true (an 51 y 1) λJ=>
 gQ d true (aF i 3 J) λG=>
 gQ d true (iI 3 33 36 A G) λv=>
 bM d v λf=>
 gQ f true (an 54 h 6) λn=>
 gQ f true (aF i 52 n) λo=>
 gW f true i (eT true i 42 140 [o]) λs N=>
 gQ f true (uQ 22 42 0 s) λE=>
 bM f E λF=>
 Q F N
theorem Db(h : ∀g:gX,gB a b H Q):gI Tryz.f146 0 [(0,a),(1,b)] H Q:=kS (by kernel_rfl) h
def wV:Prop:=
 eX H 3 54 a λh f=>
 ae f 127 b λm=>
 ae f 54 h λo=>
 FL f 7 m o λe d=>
 gQ e true (aF d 127 c) λl=>
 gQ e true (aF d 54 h) λk=>
 gW e true d (aT env true (au env) (dA env 0) d (Ref.mk 0 11 (ab.gen d 0 11) 0) (some l) [k]) λi j=>
 bM e i λn=>
 Q n j
theorem Da(h : ∀g:gX,wV a b c H Q):gI Tryz.f148 0 [(0,a),(1,b),(2,c)] H Q:=kS (by kernel_rfl) h
def wU:Prop:=
 eX H 2 54 a λh f=>
 ae f 127 b λm=>
 ae f 54 h λp=>
 FL f 6 m p λd e=>
 gQ d true (an 54 h 5) λl=>
 gQ d true (aF e 45 l) λk=>
 gW d true e (eT true e 10 136 [k]) λi j=>
 gQ d true (uQ 22 10 0 i) λn=>
 bM d n λo=>
 Q o j
theorem C9(h : ∀g:gX,wU a b H Q):gI Tryz.f150 0 [(0,a),(1,b)] H Q:=kS (by kernel_rfl) h
def cz:Prop:=
 eX H 2 54 a λk T=>
 eX T 3 54 b λl d=>
 ah 54 k 0 λv3=>
 ae d 5 v3 λY=>
 ah 54 l 0 λV=>
 ae d 5 V λU=>
 ug 5 6 8 Y U λm=>
 gQ m true (an 54 k 1) λW=>
 gQ m true (aF d 47 W) λX=>
 gQ m true (an 54 l 1) λw=>
 gQ m true (aF d 47 w) λC=>
 gQ m true (iI 47 12 14 X C) λS=>
 bM m S λi=>
 gQ i true (an 54 k 2) λt=>
 gQ i true (aF d 3 t) λK=>
 gQ i true (an 54 l 2) λF=>
 gQ i true (aF d 3 F) λG=>
 gQ i true (iI 3 19 21 K G) λy=>
 bM i y λj=>
 gQ j true (an 54 k 3) λA=>
 gQ j true (aF d 51 A) λo=>
 gQ j true (an 54 l 3) λE=>
 gQ j true (aF d 51 E) λu=>
 gQ j true (iI 51 26 28 o u) λM=>
 bM j M λh=>
 gQ h true (an 54 k 4) λD=>
 gQ h true (aF d 49 D) λB=>
 gQ h true (an 54 l 4) λN=>
 gQ h true (aF d 49 N) λL=>
 gQ h true (iI 49 33 35 B L) λx=>
 bM h x λf=>
 gQ f true (an 54 k 5) λq=>
 gQ f true (aF d 45 q) λs=>
 gQ f true (an 54 l 5) λv=>
 gQ f true (aF d 45 v) λI=>
 gQ f true (iI 45 40 42 s I) λJ=>
 bM f J λe=>
 gQ e true (an 54 k 6) λR=>
 gQ e true (aF d 52 R) λp=>
 gQ e true (an 54 l 6) λP=>
 gQ e true (aF d 52 P) λO=>
 gW e true d (eT true d 50 87 [p,O]) λz Z=>
 bM e z λn=>
 Q n Z
theorem sG(h : ∀g:gX,cz a b H Q):gI Tryz.f43 0 [(0,a),(1,b)] H Q:=kS (by kernel_rfl) h
def lI:Prop:=
 eX H 2 54 a λv1 H1=>
 eX H1 3 54 b λZ w=>
 ae w 54 v1 λv3=>
 ae w 54 Z λv4=>
 gR w 5 54 λl H3=>
 gR H3 6 54 λm H4=>
 ao H4 54 l v3 λv7 H5=>
 ao H5 54 m v4 λv8 d=>
  oP [(Z,l)] [l,m] [] d /\
 (ah 54 l 0 λv9=>
 ae d 5 v9 λx=>
 ah 54 m 0 λE=>
 ae d 5 E λY=>
 ug 5 10 12 x Y λj=>
 gQ j true (an 54 l 1) λt=>
 gQ j true (aF d 47 t) λO=>
 gQ j true (an 54 m 1) λK=>
 gQ j true (aF d 47 K) λL=>
 gQ j true (iI 47 16 18 O L) λz=>
 bM j z λk=>
 gQ k true (an 54 l 2) λB=>
 gQ k true (aF d 3 B) λn=>
 gQ k true (an 54 m 2) λI=>
 gQ k true (aF d 3 I) λu=>
 gQ k true (iI 3 23 25 n u) λR=>
 bM k R λi=>
 gQ i true (an 54 l 3) λG=>
 gQ i true (aF d 51 G) λD=>
 gQ i true (an 54 m 3) λS=>
 gQ i true (aF d 51 S) λP=>
 gQ i true (iI 51 30 32 D P) λy=>
 bM i y λh=>
 gQ h true (an 54 l 4) λp=>
 gQ h true (aF d 49 p) λq=>
 gQ h true (an 54 m 4) λv=>
 gQ h true (aF d 49 v) λM=>
 gQ h true (iI 49 37 39 q M) λN=>
 bM h N λe=>
 gQ e true (an 54 l 5) λW=>
 gQ e true (aF d 45 W) λo=>
 gQ e true (an 54 m 5) λV=>
 gQ e true (aF d 45 V) λU=>
 gQ e true (iI 45 44 46 o U) λA=>
 bM e A λf=>
 gQ f true (an 54 l 6) λC=>
 gQ f true (aF d 52 C) λJ=>
 gQ f true (an 54 m 6) λF=>
 gQ f true (aF d 52 F) λT=>
 gW f true d (eT true d 54 88 [J,T]) λX H7=>
 bM f X λs=>
 Q s H7)
theorem HX(h : ∀g:gX,lI a b H Q):gI Tryz.f45 0 [(0,a),(1,b)] H Q:=kS (by kernel_rfl) h
def Ap:Prop:=
 eX H 1 54 a λj d=>
 ah 54 j 6 λk=>
 ae d 52 k λh=>
 bt true d 5 105 [h,(.v (.int .i32 (-1)))] λf e=>
 mu f λi=>
 Q i e
theorem F3(h : ∀g:gX,Ap a H Q):gI Tryz.f69 0 [(0,a)] H Q:=kS (by kernel_rfl) h
def jc:Prop:=
 bt true H 7 132 [a,b] λe d=>
 xJ 3 7 0 e λf=>
 Q f d
theorem nz(h : ∀g:gX,jc a b H Q):gI Tryz.f105 0 [(0,a),(1,b)] H Q:=kS (by kernel_rfl) h
noncomputable def dN:=xv Tryz.f132 2
def jS:Nat->Option (List Nat):=λi=>cond (Nat.beq i 2) (some [8,0,1,7]) (none)
def jZ:Prop:=
 eR H 7 52 a λd=>
  dZ env Tryz.f132 0 dN [(8,(.v (.int .i64 0))),(0,a),(1,b),(7,d)] H Q
theorem ow(h : ∀g:gX,jZ a b H Q):gI Tryz.f132 0 [(0,a),(1,b)] H Q:=zk jS (by kernel_rfl) h
def dQ(g:Nat->AV)(d a b e:AV)(H:ab)(Q:AV->ab->Prop):Prop:=
 kb 3 8 7 d e λi=>
 br (some i) (
 gf H 52 a d λj=>
 ae H 21 j λk=>
 ug 21 11 15 b k λh=>
 br (some h) (
 Q d H) (
 kH 3 8 1 d λf=>
  dZ env Tryz.f132 0 dN [(8,f),(0,a),(1,b),(7,e)] H Q)) (
 Q (.v (.int .i64 (-1))) H)
theorem jk(d a b e:AV)(H:ab)(Q:AV->ab->Prop)(h : ∀g,dQ g d a b e H Q):dZ env Tryz.f132 0 dN [(8,d),(0,a),(1,b),(7,e)] H Q:=zY jS (by kernel_rfl) h
def xD:Prop:=
 eX H 1 54 a λe n=>
 gR n 2 54 λj f=>
 ah 54 e 6 λq=>
 ae f 52 q λp=>
 bt true f 5 86 [p] λl k=>
 ah 54 e 6 λm=>
 ao k 52 m l λs i=>
 ae i 54 e λo=>
 ao i 54 j o λt h=>
 bw h j 54 λd=>
 Q d h
theorem HW(h : ∀g:gX,xD a H Q):gI Tryz.f42 0 [(0,a)] H Q:=kS (by kernel_rfl) h
noncomputable def r8:Code:=(Tryz.f19.body).getD .skip
noncomputable def fH:=xv Tryz.f19 3
def mD:Nat->Option (List Nat):=λi=>cond (Nat.beq i 3) (some [4,0,3]) (none)
def mJ:Prop:=
 dZ env Tryz.f19 0 fH [(4,(.v (.int .i64 0))),(0,a),(3,(.v (.int .i64 0)))] H Q
theorem rM(h : ∀g:gX,mJ a H Q):gI Tryz.f19 0 [(0,a)] H Q:=zk mD (by kernel_rfl) h
def fK(g:Nat->AV)(f a m:AV)(H:ab)(Q:AV->ab->Prop):Prop:=
 eR H 7 61 a λp=>
 kb 3 5 7 f p λl=>
 gQ l true (cC f) λq=>
 gQ l true (uS 3 10 50 q) λo=>
 bM l o λn=>
 br (some n) (
 gf H 61 a f λi=>
 ae H 27 i λe=>
 eR H 20 27 e λj=>
 ew (cW env.P false (ab.get H) (Ref.mk 0 21 (ab.gen H 0 21) 0) .min #[3,3] [j,(.v (.int .i64 10000))]) λk=>
 mv 3 15 21 m k λd=>
 kH 3 13 1 f λh=>
  dZ env Tryz.f19 0 fH [(4,h),(0,a),(3,d)] H Q) (
 eR H 24 61 a λi=>
 wq 3 24 40 i λe=>
 gQ e false (cC m) λj=>
 gQ e false (Dx 3 27 10000 j) λk=>
 fv e k λd=>
 Q d H)
theorem lj(d a e:AV)(H:ab)(Q:AV->ab->Prop)(h : ∀g,fK g d a e H Q):dZ env Tryz.f19 0 fH [(4,d),(0,a),(3,e)] H Q:=zY mD (by kernel_rfl) h
def np:Prop:=
 eX H 1 60 a λe n=>
 gR n 2 60 λj f=>
 ah 60 e 2 λq=>
 ae f 54 q λp=>
 bt true f 5 35 [p] λl k=>
 ah 60 e 2 λm=>
 ao k 54 m l λs i=>
 ae i 60 e λo=>
 ao i 60 j o λt h=>
 bw h j 60 λd=>
 Q d h
theorem sy(h : ∀g:gX,np a H Q):gI Tryz.f20 0 [(0,a)] H Q:=kS (by kernel_rfl) h
def iE:Prop:=
 eX H 3 60 a λe j=>
 ae j 60 e λt=>
 bt true j 9 51 [t] λu f=>
 mu u λp=>
 br (some p) (
 Q (.tup [(.v (.slice none 0 0)),(.v (.int .i64 8))]) f) (
 ae f 60 e λl=>
 bt true f 14 53 [l] λm q=>
 ew (kW env.P 69 (some [(0,b),(1,c),(3,m)])) λk=>
 bt true q 16 52 [k] λn i=>
 mu n λo=>
 br (some o) (
 Q (.tup [(.v (.slice none 0 0)),(.v (.int .i64 2))]) i) (
 ae i 60 e λh=>
 bt true i 21 54 [h,b,c] λd s=>
 Q (.tup [d,(.v (.int .i64 0))]) s))
theorem ky(h : ∀g:gX,iE a b c H Q):gI Tryz.f22 0 [(0,a),(1,b),(2,c)] H Q:=kS (by kernel_rfl) h
def fL:Prop:=
 gR H 2 60 λi Z=>
 gR Z 3 69 λs Y=>
 bt true Y 11 58 [a] λW x=>
 eR x 13 27 W λv4=>
 wo 3 13 0 v4 λv5=>
 br (some v5) (
 fa 60 λL=>
 fa 69 λz=>
 ao x 60 i L λN G=>
 ao G 69 s z λV y=>
 bw y i 60 λm=>
 bw y s 69 λf=>
 Q (.tup [m,f,(.v (.int .i64 8))]) y) (
 eG x 61 a 0 λL=>
 ae x 27 L λz=>
 bt true x 21 34 [z] λN G=>
 bm N 0 λV=>
 bm N 1 λm=>
 gR G 6 69 λf y=>
 ao y 69 f V λZt H6=>
 bt true H6 26 59 [W] λw H7=>
 bm w 0 λB=>
 bm w 1 λP=>
 gR H7 8 60 λp X=>
 ao X 60 p B λZs t=>
 lf 3 29 0 m λn=>
 gQ n false (cC P) λU=>
 gQ n false (xH U) λI=>
 fv n I λd=>
 gQ d false (aF t 60 p) λM=>
 gQ d false (an 69 f 0) λC=>
 gQ d false (aF t 3 C) λS=>
 gQ d false (an 69 f 1) λD=>
 gQ d false (aF t 3 D) λK=>
 gW d false t (eT true t 41 54 [M,S,K]) λJ u=>
 gQ d false (cC a) λT=>
 gW d false u (eT true u 43 60 [J,T]) λR h=>
 gQ d false (xH R) λF=>
 fv d F λA=>
 br (some A) (
 fa 60 λk=>
 fa 69 λl=>
 ao h 60 i k λE o=>
 ao o 69 s l λO e=>
 bw e i 60 λq=>
 bw e s 69 λj=>
 Q (.tup [q,j,(.v (.int .i64 8))]) e) (
 ae h 60 p λk=>
 ae h 69 f λl=>
 ao h 60 i k λE o=>
 ao o 69 s l λO e=>
  oP [(f,i)] [i,s] [] e /\
 (bw e i 60 λq=>
 bw e s 69 λj=>
 Q (.tup [q,j,(.v (.int .i64 0))]) e)))
theorem iw(h : ∀g:gX,fL a H Q):gI Tryz.f24 0 [(0,a)] H Q:=kS (by kernel_rfl) h
def jE:Prop:=
 eX H 1 60 a λf e=>
 ae e 60 f λk=>
 bt true e 5 51 [k] λm d=>
 mu m λl=>
 br (some l) (
 Q (.tup [(.v (.int .i64 0)),(.v (.int .i64 8))]) d) (
 ae d 60 f λi=>
 bt true d 8 53 [i] λj h=>
 Q (.tup [j,(.v (.int .i64 0))]) h)
theorem rN(h : ∀g:gX,jE a H Q):gI Tryz.f26 0 [(0,a)] H Q:=kS (by kernel_rfl) h
def ku:Prop:=
 bt true H 7 60 [a,b] λe d=>
 Q e d
theorem pf(h : ∀g:gX,ku a b H Q):gI Tryz.f28 0 [(0,a),(1,b)] H Q:=kS (by kernel_rfl) h
def mK:Prop:=
 eX H 1 60 a λi d=>
 ae d 60 i λj=>
 bt true d 4 51 [j] λh e=>
 mu h λf=>
 br (some f) (
 Q (.v (.int .i64 8)) e) (
 Q (.v (.int .i64 0)) e)
theorem rO(h : ∀g:gX,mK a H Q):gI Tryz.f31 0 [(0,a)] H Q:=kS (by kernel_rfl) h
def gV:Prop:=
 gR H 2 69 λi d=>
 eR d 6 27 a λv2=>
 lf 3 6 128 v2 λv3=>
 br (some v3) (
 fa 69 λO=>
 ao d 69 i O λv5 k=>
 bw k i 69 λJ=>
 Q (.tup [J,(.v (.int .i64 8))]) k) (
 eG d 27 a 0 λO=>
 ae d 5 O λv5=>
 cE d 12 5 3 v5 λJ=>
 nC 3 16777216 12 J λv7=>
 eG d 27 a 1 λv8=>
 ae d 5 v8 λv9=>
 cE d 17 5 3 v9 λx=>
 nC 3 65536 17 x λF=>
 mv 3 13 18 v7 F λZu=>
 eG d 27 a 2 λz=>
 ae d 5 z λs=>
 cE d 23 5 3 s λT=>
 nC 3 256 23 T λM=>
 mv 3 19 24 Zu M λN=>
 eG d 27 a 3 λA=>
 ae d 5 A λY=>
 cE d 29 5 3 Y λC=>
 mv 3 25 29 N C λm=>
 eG d 27 a 4 λK=>
 ae d 5 K λt=>
 cE d 34 5 3 t λV=>
 nC 3 65536 34 V λu=>
 eG d 27 a 5 λI=>
 ae d 5 I λE=>
 cE d 39 5 3 E λW=>
 nC 3 256 39 W λU=>
 mv 3 35 40 u U λy=>
 eG d 27 a 6 λp=>
 ae d 5 p λo=>
 cE d 45 5 3 o λq=>
 mv 3 41 45 y q λw=>
 eG d 27 a 7 λR=>
 ae d 5 R λS=>
 cE d 50 5 3 S λl=>
 eG d 27 a 8 λZs=>
 ae d 5 Zs λn=>
 cE d 54 5 3 n λZ=>
 ew (kW env.P 69 (some [(0,m),(1,w),(2,l),(3,Z)])) λX=>
 gR d 4 69 λf k=>
 ao k 69 f X λZv H3=>
 ae H3 69 f λD=>
 bt true H3 57 52 [D] λL B=>
 mu L λG=>
 br (some G) (
 fa 69 λh=>
 ao B 69 i h λZt j=>
 bw j i 69 λe=>
 Q (.tup [e,(.v (.int .i64 8))]) j) (
 ae B 69 f λh=>
 ao B 69 i h λZt j=>
 bw j i 69 λe=>
 Q (.tup [e,(.v (.int .i64 0))]) j))
theorem jP(h : ∀g:gX,gV a H Q):gI Tryz.f34 0 [(0,a)] H Q:=kS (by kernel_rfl) h
def aA:Prop:=
 eX H 1 60 a λh q=>
 ah 60 h 0 λM=>
 ae q 5 M λN=>
 sg 5 4 N λL=>
 br (some L) (
 ah 60 h 2 λI=>
 ae q 54 I λG=>
 bt true q 8 94 [G] λA p=>
 gQ A true (an 60 h 2) λJ=>
 gQ A true (an 54 J 1) λK=>
 gQ A true (aF p 47 K) λB=>
 gW A true p (eT true p 13 95 [B]) λw s=>
 bM A w λo=>
 gQ o true (an 60 h 1) λd=>
 gQ o true (aF s 3 d) λt=>
 gQ o true (pO 3 17 0 t) λy=>
 bM o y λm=>
 gQ m true (an 60 h 1) λn=>
 gQ m true (aF s 3 n) λj=>
 gQ m true (wj 3 22 255 j) λz=>
 bM m z λk=>
 gQ k true (an 60 h 3) λi=>
 gQ k true (aF s 22 i) λl=>
 gQ k true (uQ 22 27 0 l) λu=>
 bM k u λf=>
 gQ f true (an 60 h 4) λe=>
 gQ f true (aF s 58 e) λx=>
 gQ f true (Jv 58) λC=>
 gQ f true (iI 58 32 33 x C) λE=>
 bM f E λD=>
 Q D s) (
 ah 60 h 1 λI=>
 ae q 3 I λG=>
 lf 3 37 0 G λA=>
 br (some A) (
 Q (.v (.bool false)) q) (
 ah 60 h 0 λJ=>
 ae q 5 J λK=>
 AO 5 40 K λB=>
 br (some B) (
 ah 60 h 2 λw=>
 ae q 54 w λo=>
 bt true q 44 96 [o] λd p=>
 gQ d true (an 60 h 2) λt=>
 gQ d true (aF p 54 t) λy=>
 gW d true p (eT true p 48 82 [y]) λm s=>
 bM d m λn=>
 gQ n true (an 60 h 3) λj=>
 gQ n true (aF s 22 j) λz=>
 gQ n true (pO 22 52 0 z) λk=>
 bM n k λi=>
 gQ i true (an 60 h 3) λl=>
 gQ i true (aF s 22 l) λu=>
 gQ i true (uS 22 57 65536 u) λf=>
 bM i f λe=>
 gQ e true (an 60 h 4) λx=>
 gQ e true (aF s 58 x) λC=>
 gQ e true (Jv 58) λE=>
 gQ e true (iI 58 62 63 C E) λD=>
 bM e D λF=>
 Q F s) (
 ah 60 h 0 λw=>
 ae q 5 w λo=>
 uh 5 67 o λd=>
 gQ d true (an 60 h 2) λt=>
 gQ d true (aF q 54 t) λy=>
 gQ d true (Jv 54) λm=>
 gW d true q (eT true q 73 43 [y,m]) λn p=>
 bM d n λj=>
 gQ j true (an 60 h 3) λz=>
 gQ j true (aF p 22 z) λk=>
 gQ j true (uQ 22 77 0 k) λi=>
 bM j i λl=>
 gQ l true (an 60 h 4) λu=>
 gQ l true (aF p 58 u) λf=>
 gW l true p (eT true p 83 97 [f]) λe s=>
 bM l e λx=>
 Q x s)))
theorem tw(h : ∀g:gX,aA a H Q):gI Tryz.f51 0 [(0,a)] H Q:=kS (by kernel_rfl) h
def lK:Prop:=
 eX H 1 69 a λf e=>
 ah 69 f 0 λN=>
 ae e 3 N λO=>
 xJ 3 4 1 O λm=>
 gQ m true (an 69 f 0) λL=>
 gQ m true (aF e 3 L) λK=>
 gQ m true (uS 3 8 2147483648 K) λJ=>
 bM m J λl=>
 gQ l true (an 69 f 1) λM=>
 gQ l true (aF e 3 M) λw=>
 gQ l true (pO 3 13 1 w) λB=>
 bM l B λk=>
 gQ k true (an 69 f 1) λy=>
 gQ k true (aF e 3 y) λs=>
 gQ k true (uS 3 18 16777216 s) λF=>
 bM k F λi=>
 gQ i true (an 69 f 3) λE=>
 gQ i true (aF e 3 E) λz=>
 gQ i true (pO 3 23 1 z) λI=>
 bM i I λh=>
 gQ h true (an 69 f 3) λn=>
 gQ h true (aF e 3 n) λD=>
 gQ h true (wj 3 28 4 D) λt=>
 bM h t λj=>
 gQ j true (an 69 f 2) λu=>
 gQ j true (aF e 3 u) λC=>
 gQ j true (pO 3 33 0 C) λA=>
 bM j A λd=>
 gQ d true (an 69 f 2) λG=>
 gQ d true (aF e 3 G) λx=>
 gQ d true (an 69 f 3) λp=>
 gQ d true (aF e 3 p) λo=>
 gQ d true (Jx 3 38 40 x o) λq=>
 bM d q λv=>
 Q v e
theorem qz(h : ∀g:gX,lK a H Q):gI Tryz.f52 0 [(0,a)] H Q:=kS (by kernel_rfl) h
def j3:Prop:=
 eX H 1 60 a λn f=>
 ae f 60 n λk=>
 bt true f 6 98 [k] λm d=>
 eR d 7 27 m λh=>
 ri 3 8 119 h λe=>
 o8 3 10 119 h λj=>
 wq 3 11 0 j λi=>
 br (some i) (
 kH 3 13 1 e λl=>
 Q l d) (
 Q e d)
theorem sC(h : ∀g:gX,j3 a H Q):gI Tryz.f53 0 [(0,a)] H Q:=kS (by kernel_rfl) h
noncomputable def fl:=xv Tryz.f54 4
def l9:Nat->Option (List Nat):=λi=>cond (Nat.beq i 4) (some [9,3,2,1,8,7]) (none)
def md:Prop:=
 eX H 3 60 a λe d=>
 ae d 60 e λi=>
 bt true d 12 98 [i] λh f=>
  dZ env Tryz.f54 0 fl [(9,(.v (.int .i64 0))),(3,e),(2,c),(1,b),(8,(.v (.slice none 0 0))),(7,h)] f Q
theorem qX(h : ∀g:gX,md a b c H Q):gI Tryz.f54 0 [(0,a),(1,b),(2,c)] H Q:=zk l9 (by kernel_rfl) h
def fu(g:Nat->AV)(e k c b p o:AV)(H:ab)(Q:AV->ab->Prop):Prop:=
 ae H 60 k λs=>
 bt true H 15 53 [s] λC d=>
 kb 3 13 15 e C λD=>
 br (some D) (
 Rd 3 20 119 e λz=>
 eR d 23 27 o λw=>
 kH 3 24 1 e λv=>
 Rd 3 25 119 v λq=>
 ew (cW env.P false (ab.get d) (Ref.mk 0 27 (ab.gen d 0 27) 0) .min #[3,3] [w,q]) λx=>
 ew (ca env.P (ab.get d) 27 (some o) (oi z) (oi x) (some none)) λy=>
 ae d 60 k λi=>
 bt true d 34 53 [i] λl t=>
 ew (kW env.P 69 (some [(0,b),(1,c),(2,e),(3,l)])) λf=>
 bt true t 37 99 [f,y] λj A=>
 o7 A 38 61 1 0 j λh u=>
 dg u 39 61 61 p h λn B=>
 kH 3 17 1 e λm=>
  dZ env Tryz.f54 0 fl [(9,m),(3,k),(2,c),(1,b),(8,n),(7,o)] B Q) (
 Q p d)
theorem k5(e i c b d f:AV)(H:ab)(Q:AV->ab->Prop)(h : ∀g,fu g e i c b d f H Q):dZ env Tryz.f54 0 fl [(9,e),(3,i),(2,c),(1,b),(8,d),(7,f)] H Q:=zY l9 (by kernel_rfl) h
noncomputable def fW:=xv Tryz.f58 3
def ng:Nat->Option (List Nat):=λi=>cond (Nat.beq i 3) (some [4,0,3]) (none)
def nk:Prop:=
 dZ env Tryz.f58 0 fW [(4,(.v (.int .i64 0))),(0,a),(3,(.v (.slice none 0 0)))] H Q
theorem sw(h : ∀g:gX,nk a H Q):gI Tryz.f58 0 [(0,a)] H Q:=zk ng (by kernel_rfl) h
def eE(g:Nat->AV)(d a h:AV)(H:ab)(Q:AV->ab->Prop):Prop:=
 eR H 7 61 a λo=>
 kb 3 5 7 d o λp=>
 br (some p) (
 gf H 61 a d λs=>
 ae H 27 s λn=>
 eR H 15 27 n λk=>
 lf 3 15 128 k λj=>
 br (some j) (
 Q (.v (.slice none 0 0)) H) (
 gf H 61 a d λi=>
 ae H 27 i λl=>
 ew (ca env.P (ab.get H) 27 (some l) (oi (.v (.int .i64 9))) (some none) (some none)) λm=>
 dg H 23 27 27 h m λf q=>
 kH 3 9 1 d λe=>
  dZ env Tryz.f58 0 fW [(4,e),(0,a),(3,f)] q Q)) (
 Q h H)
theorem jd(d a e:AV)(H:ab)(Q:AV->ab->Prop)(h : ∀g,eE g d a e H Q):dZ env Tryz.f58 0 fW [(4,d),(0,a),(3,e)] H Q:=zY ng (by kernel_rfl) h
def de:Prop:=
 gR H 2 60 λy T=>
 gR T 4 60 λn L=>
 eG L 27 a 0 λX=>
 ae L 5 X λW=>
 ah 60 n 0 λU=>
 ao L 5 U W λY e=>
 eG e 27 a 0 λR=>
 ae e 5 R λO=>
 sg 5 12 O λV=>
 br (some V) (
 Q0 e 27 a λB=>
 bt true e 18 103 [B] λp z=>
 bm p 0 λl=>
 bm p 1 λd=>
 ah 60 n 2 λf=>
 ah 54 f 1 λj=>
 ao z 47 j l λq m=>
 eG m 27 a 7 λt=>
 ae m 5 t λh=>
 cE m 26 5 3 h λk=>
 ah 60 n 1 λw=>
 ao m 3 w k λu s=>
 ae s 60 n λi=>
 wo 3 59 0 d λo=>
 gQ o true (aF s 60 n) λx=>
 gW o true s (eT false s 63 51 [x]) λA F=>
 bM o A λC=>
 ao F 60 y i λN G=>
 bw G y 60 λE=>
 Q (.tup [E,C]) G) (
 AO 5 12 O λB=>
 br (some B) (
 eG e 27 a 1 λp=>
 ae e 5 p λl=>
 cE e 33 5 3 l λd=>
 nC 3 256 33 d λf=>
 eG e 27 a 2 λj=>
 ae e 5 j λq=>
 cE e 38 5 3 q λt=>
 mv 3 34 38 f t λh=>
 ah 60 n 3 λk=>
 ao e 22 k h λw z=>
 ew (ca env.P (ab.get z) 27 (some a) (oi (.v (.int .i64 3))) (some none) (some none)) λu=>
 bt true z 44 85 [u] λi m=>
 bm i 0 λo=>
 bm i 1 λx=>
 bm i 2 λA=>
 ah 60 n 2 λC=>
 ao m 54 C o λN s=>
 ae s 60 n λE=>
 wo 3 59 0 A λD=>
 gQ D true (aF s 60 n) λM=>
 gW D true s (eT false s 63 51 [M]) λJ F=>
 bM D J λI=>
 ao F 60 y E λS G=>
 bw G y 60 λK=>
 Q (.tup [K,I]) G) (
 uh 5 12 O λp=>
 br (some p) (
 ew (ca env.P (ab.get e) 27 (some a) (oi (.v (.int .i64 1))) (oi (.v (.int .i64 8))) (some none)) λl=>
 bt true e 54 104 [l] λd z=>
 bm d 0 λf=>
 bm d 1 λj=>
 ah 60 n 4 λq=>
 ao z 58 q f λt m=>
 ae m 60 n λh=>
 wo 3 59 0 j λk=>
 gQ k true (aF m 60 n) λw=>
 gW k true m (eT false m 63 51 [w]) λu s=>
 bM k u λi=>
 ao s 60 y h λo F=>
 bw F y 60 λx=>
 Q (.tup [x,i]) F) (
 ae e 60 n λl=>
 ew (bK env.P .eql 3 (Operand.tmp 59) (Operand.const (Value.int IntKind.i64 0)) (some (AV.v (Value.int IntKind.i64 8))) (some (AV.v (Value.int IntKind.i64 0)))) λd=>
 gQ d true (aF e 60 n) λf=>
 gW d true e (eT false e 63 51 [f]) λj z=>
 bM d j λq=>
 ao z 60 y l λt m=>
 bw m y 60 λh=>
 Q (.tup [h,q]) m)))
theorem fb(h : ∀g:gX,de a H Q):gI Tryz.f59 0 [(0,a)] H Q:=kS (by kernel_rfl) h
noncomputable def eb:=xv Tryz.f60 4
def ko:Nat->Option (List Nat):=λi=>cond (Nat.beq i 4) (some [5,1,0]) (none)
def gO:Prop:=
 eR H 7 61 a λe=>
 eR H 9 61 b λf=>
 zP 3 7 9 e f λd=>
 br (some d) (
 Q (.v (.bool false)) H) (
  dZ env Tryz.f60 0 eb [(5,(.v (.int .i64 0))),(1,b),(0,a)] H Q)
theorem kg(h : ∀g:gX,gO a b H Q):gI Tryz.f60 0 [(0,a),(1,b)] H Q:=zk ko (by kernel_rfl) h
def ed(g:Nat->AV)(x5 b a:AV)(H:ab)(Q:AV->ab->Prop):Prop:=
 eR H 13 61 a λl=>
 kb 3 11 13 x5 l λm=>
 br (some m) (
 gf H 61 a x5 λn=>
 ae H 27 n λk=>
 cE H 21 27 9 k λh=>
 gf H 61 b x5 λf=>
 ae H 27 f λe=>
 cE H 26 27 9 e λi=>
 zP 9 21 26 h i λj=>
 br (some j) (
 Q (.v (.bool false)) H) (
 kH 3 15 1 x5 λd=>
  dZ env Tryz.f60 0 eb [(5,d),(1,b),(0,a)] H Q)) (
 Q (.v (.bool true)) H)
theorem fS(x5 b a:AV)(H:ab)(Q:AV->ab->Prop)(h : ∀g,ed g x5 b a H Q):dZ env Tryz.f60 0 eb [(5,x5),(1,b),(0,a)] H Q:=zY ko (by kernel_rfl) h
def nm:Prop:=
 eX H 1 54 a λe l=>
 fa 47 λk=>
 ah 54 e 1 λm=>
 ao l 47 m k λn d=>
 ae d 54 e λj=>
 fa 54 λi=>
 bt true d 7 43 [j,i] λf h=>
 Q f h
theorem sx(h : ∀g:gX,nm a H Q):gI Tryz.f94 0 [(0,a)] H Q:=kS (by kernel_rfl) h
def kG:Prop:=
 eX H 1 58 a λj d=>
 ah 58 j 0 λp=>
 ae d 3 p λs=>
 xJ 3 4 0 s λf=>
 gQ f true (an 58 j 0) λo=>
 gQ f true (aF d 3 o) λn=>
 gQ f true (uS 3 8 8 n) λl=>
 bM f l λe=>
 gQ e true (an 58 j 1) λq=>
 gQ e true (aF d 56 q) λh=>
 gW e true d (eT true d 14 124 [h]) λi m=>
 bM e i λk=>
 Q k m
theorem tA(h : ∀g:gX,kG a H Q):gI Tryz.f97 0 [(0,a)] H Q:=kS (by kernel_rfl) h
def gC:Prop:=
 eX H 1 60 a λj D=>
 ah 60 j 0 λI=>
 ae D 5 I λJ=>
 o7 D 6 27 1 0 J λv d=>
 ah 60 j 0 λG=>
 ae d 5 G λF=>
 sg 5 8 F λE=>
 br (some E) (
 ah 60 j 2 λt=>
 ah 54 t 1 λu=>
 ae d 47 u λo=>
 bt true d 14 106 [o] λe p=>
 dg p 15 27 27 v e λi k=>
 ah 60 j 1 λh=>
 ae k 3 h λf=>
 cE k 19 3 5 f λn=>
 o7 k 20 27 1 0 n λl y=>
 dg y 21 27 27 i l λm C=>
 Q m C) (
 ah 60 j 0 λt=>
 ae d 5 t λu=>
 AO 5 23 u λo=>
 br (some o) (
 ah 60 j 3 λe=>
 ae d 22 e λi=>
 ri 3 27 256 i λh=>
 cE d 29 3 5 h λf=>
 ah 60 j 3 λn=>
 ae d 22 n λl=>
 o8 3 31 256 l λm=>
 cE d 33 3 5 m λz=>
 iq (jX env.P false true d (Ref.mk 0 34 (ab.gen d 0 34) 0) 27 2 (some [(0,f),(1,z)])) λA p=>
 dg p 35 27 27 v A λB k=>
 ah 60 j 2 λq=>
 ae k 54 q λs=>
 bt true k 39 84 [s] λw y=>
 dg y 40 27 27 B w λx C=>
 Q x C) (
 ah 60 j 4 λe=>
 ae d 58 e λi=>
 bt true d 44 125 [i] λh p=>
 dg p 45 27 27 v h λf k=>
 Q f k))
theorem jw(h : ∀g:gX,gC a H Q):gI Tryz.f98 0 [(0,a)] H Q:=kS (by kernel_rfl) h
def nV:Prop:=
 eX H 2 69 a λe f=>
 ah 69 e 0 λv2=>
 ae f 3 v2 λv3=>
 ri 3 7 16777216 v3 λv4=>
 cE f 9 3 5 v4 λv5=>
 ah 69 e 0 λZ=>
 ae f 3 Z λW=>
 ri 3 11 65536 W λv8=>
 o8 3 12 256 v8 λv9=>
 cE f 14 3 5 v9 λu=>
 ah 69 e 0 λB=>
 ae f 3 B λU=>
 ri 3 16 256 U λw=>
 o8 3 17 256 w λp=>
 cE f 19 3 5 p λK=>
 ah 69 e 0 λF=>
 ae f 3 F λG=>
 o8 3 21 256 G λx=>
 cE f 23 3 5 x λR=>
 JD f 24 27 4 0 v5 1 u 2 K 3 R λy d=>
 ah 69 e 1 λk=>
 ae d 3 k λD=>
 ri 3 27 65536 D λq=>
 cE d 29 3 5 q λM=>
 ah 69 e 1 λs=>
 ae d 3 s λC=>
 ri 3 31 256 C λA=>
 o8 3 32 256 A λN=>
 cE d 34 3 5 N λL=>
 ah 69 e 1 λv=>
 ae d 3 v λn=>
 o8 3 36 256 n λm=>
 cE d 38 3 5 m λo=>
 ah 69 e 2 λt=>
 ae d 3 t λI=>
 cE d 41 3 5 I λJ=>
 ah 69 e 3 λi=>
 ae d 3 i λT=>
 cE d 44 3 5 T λl=>
 iq (jX env.P false true d (Ref.mk 0 45 (ab.gen d 0 45) 0) 27 5 (some [(0,M),(1,L),(2,o),(3,J),(4,l)])) λS H3=>
 dg H3 46 27 27 y S λO X=>
 dg X 49 27 27 O b λh V=>
 eR V 52 27 h λj=>
 Rc 3 128 52 j λz=>
 dg V 54 27 3 h z λE Y=>
 Q E Y
theorem tv(h : ∀g:gX,nV a b H Q):gI Tryz.f99 0 [(0,a),(1,b)] H Q:=kS (by kernel_rfl) h
def hJ:Prop:=
 gR H 2 47 λi j=>
 eR j 6 27 a λE=>
 lf 3 6 6 E λF=>
 br (some F) (
 fa 47 λp=>
 ao j 47 i p λx d=>
 bw d i 47 λm=>
 Q (.tup [m,(.v (.int .i64 8))]) d) (
 eG j 27 a 0 λp=>
 ae j 5 p λx=>
 Q1 j 27 a λm=>
 bt false j 14 131 [m] λz d=>
 cE d 15 3 43 z λA=>
 rh 45 0 x 1 A λB=>
 eG d 27 a 5 λs=>
 ae d 5 s λl=>
 rh 47 0 B 1 l λw=>
 gR d 4 47 λe D=>
 ao D 47 e w λC y=>
 ae y 47 e λq=>
 bt true y 22 95 [q] λn t=>
 mu n λo=>
 br (some o) (
 fa 47 λf=>
 ao t 47 i f λu k=>
 bw k i 47 λh=>
 Q (.tup [h,(.v (.int .i64 8))]) k) (
 ae t 47 e λf=>
 ao t 47 i f λu k=>
 bw k i 47 λh=>
 Q (.tup [h,(.v (.int .i64 0))]) k))
theorem pB(h : ∀g:gX,hJ a H Q):gI Tryz.f103 0 [(0,a)] H Q:=kS (by kernel_rfl) h
noncomputable def jC:=xv Tryz.f104 5
def nJ:Nat->Option (List Nat):=λi=>cond (Nat.beq i 5) (some [5,0,4,2]) (none)
def iF:Prop:=
 gR H 2 58 λh d=>
 eR d 8 27 a λn=>
 lf 3 8 7 n λe=>
 gQ e false (cC a) λq=>
 gQ e false (bE env.P (ab.get d) 27 (some q) (some (AV.v (Value.int IntKind.i64 1)))) λm=>
 gQ e false (aF d 5 m) λl=>
 gQ e false (bK env.P .gtr 5 (Operand.tmp 13) (.const (.int .u8 1)) (some l) (some (a8 1))) λj=>
 fv e j λo=>
 br (some o) (
 fa 58 λp=>
 ao d 58 h p λk i=>
 bw i h 58 λf=>
 Q (.tup [f,(.v (.int .i64 8))]) i) (
  dZ env Tryz.f104 0 jC [(5,(.v (.int .i64 3))),(0,a),(4,(.v (.int .i64 0))),(2,h)] d Q)
theorem tB(h : ∀g:gX,iF a H Q):gI Tryz.f104 0 [(0,a)] H Q:=zk nJ (by kernel_rfl) h
def bg(g:Nat->AV)(x5 a A c:AV)(H:ab)(Q:AV->ab->Prop):Prop:=
 uT 3 17 7 x5 λB=>
 br (some B) (
 nC 3 256 21 A λx=>
 gf H 27 a x5 λy=>
 ae H 5 y λu=>
 cE H 27 5 3 u λq=>
 mv 3 22 27 x q λp=>
 kH 3 19 1 x5 λi=>
  dZ env Tryz.f104 0 jC [(5,i),(0,a),(4,p),(2,c)] H Q) (
 eG H 27 a 0 λx=>
 ae H 5 x λy=>
 cE H 32 5 3 y λu=>
 eG H 27 a 2 λq=>
 ae H 5 q λp=>
 cE H 37 3 43 A λi=>
 rh 45 0 p 1 i λD=>
 eG H 27 a 1 λE=>
 ae H 5 E λk=>
 sg 5 41 k λo=>
 rh 56 0 D 1 o λj=>
 rh 58 0 u 1 j λl=>
 gR H 6 58 λe C=>
 ao C 58 e l λF z=>
 ae z 58 e λs=>
 bt true z 46 97 [s] λt w=>
 mu t λm=>
 br (some m) (
 fa 58 λf=>
 ao w 58 c f λn h=>
 bw h c 58 λd=>
 Q (.tup [d,(.v (.int .i64 8))]) h) (
 ae w 58 e λf=>
 ao w 58 c f λn h=>
 bw h c 58 λd=>
 Q (.tup [d,(.v (.int .i64 0))]) h))
theorem bu(x5 a d c:AV)(H:ab)(Q:AV->ab->Prop)(h : ∀g,bg g x5 a d c H Q):dZ env Tryz.f104 0 jC [(5,x5),(0,a),(4,d),(2,c)] H Q:=zY nJ (by kernel_rfl) h
def dT:Prop:=
 eX H 1 56 a λk m=>
 ah 56 k 0 λp=>
 ae m 45 p λt=>
 bt true m 5 120 [t] λe f=>
 gQ e true (an 56 k 1) λo=>
 gQ e true (aF f 4 o) λn=>
 gQ e true (cC n) λd=>
 gQ d false (an 56 k 0) λq=>
 gQ d false (aF f 45 q) λs=>
 gQ d false (Jv 45) λh=>
 gQ d false (iI 45 11 12 s h) λi=>
 gQ e true (Mf d i) λl=>
 bM e l λj=>
 Q j f
theorem p9(h : ∀g:gX,dT a H Q):gI Tryz.f124 0 [(0,a)] H Q:=kS (by kernel_rfl) h
def jF:Prop:=
 eX H 1 58 a λm o=>
 ah 58 m 0 λz=>
 ae o 3 z λA=>
 cE o 6 3 5 A λx=>
 iq (jX env.P false true o (Ref.mk 0 7 (ab.gen o 0 7) 0) 27 2 (some [(0,x),(1,(a8 0))])) λp j=>
 ah 58 m 1 λv=>
 ah 56 v 1 λu=>
 ae j 4 u λw=>
 br (some w) (
 eG j 27 p 1 λs=>
 iq (iu env.P j 5 (some s) (some (a8 1))) λk l=>
 ah 58 m 1 λd=>
 ah 56 d 0 λi=>
 ae l 45 i λh=>
 rg 47 0 h λe=>
 bt true l 18 106 [e] λf n=>
 Dw n 27 f λq=>
 dg n 20 27 27 p q λt y=>
 Q t y) (
 ah 58 m 1 λs=>
 ah 56 s 0 λk=>
 ae j 45 k λd=>
 rg 47 0 d λi=>
 bt true j 18 106 [i] λh l=>
 Dw l 27 h λe=>
 dg l 20 27 27 p e λf n=>
 Q f n)
theorem rR(h : ∀g:gX,jF a H Q):gI Tryz.f125 0 [(0,a)] H Q:=kS (by kernel_rfl) h
noncomputable def fm:=xv Tryz.f131 3
def mb:Nat->Option (List Nat):=λi=>cond (Nat.beq i 3) (some [4,0,3]) (none)
def mf:Prop:=
 dZ env Tryz.f131 0 fm [(4,(.v (.int .i64 0))),(0,a),(3,(.v (.int .i64 0)))] H Q
theorem qZ(h : ∀g:gX,mf a H Q):gI Tryz.f131 0 [(0,a)] H Q:=zk mb (by kernel_rfl) h
def iG(g:Nat->AV)(d a e:AV)(H:ab)(Q:AV->ab->Prop):Prop:=
 eR H 7 27 a λl=>
 kb 3 5 7 d l λm=>
 br (some m) (
 nC 3 256 11 e λn=>
 gf H 27 a d λk=>
 ae H 5 k λi=>
 cE H 17 5 3 i λh=>
 mv 3 12 17 n h λf=>
 kH 3 9 1 d λj=>
  dZ env Tryz.f131 0 fm [(4,j),(0,a),(3,f)] H Q) (
 Q e H)
theorem k6(d a e:AV)(H:ab)(Q:AV->ab->Prop)(h : ∀g,iG g d a e H Q):dZ env Tryz.f131 0 fm [(4,d),(0,a),(3,e)] H Q:=zY mb (by kernel_rfl) h
def qw:Prop:=
 eX H 1 54 a λf H1=>
 ae H1 54 f λv2=>
 bt true H1 16 116 [v2] λv3 H2=>
 lf 22 17 0 v3 λv4=>
 br (some v4) (
 Q (.tup [(.v (.slice none 0 0)),v3]) H2) (
 ah 54 f 1 λv5=>
 ae H2 47 v5 λv6=>
 bt true H2 23 89 [v6] λv7 H3=>
 bm v7 0 λv8=>
 bm v7 1 λv9=>
 ah 54 f 3 λG=>
 ah 51 G 0 λZy=>
 ae H3 49 Zy λW=>
 bt true H3 30 117 [W] λA H4=>
 bm A 0 λF=>
 bm A 1 λZF=>
 ah 54 f 0 λZA=>
 ae H4 5 ZA λZB=>
 o7 H4 35 27 1 0 ZB λJ q=>
 ah 54 f 2 λU=>
 ae q 3 U λZw=>
 QZ 3 38 Zw λC=>
 cE q 40 3 5 C λL=>
 ah 54 f 2 λZ=>
 ae q 3 Z λR=>
 Mg 3 42 R λZs=>
 cE q 44 3 5 Zs λZz=>
 ah 54 f 2 λZx=>
 ae q 3 Zx λS=>
 cE q 47 3 5 S λO=>
 JB q 48 27 3 0 L 1 Zz 2 O λI K=>
 ah 54 f 3 λY=>
 ah 51 Y 1 λD=>
 ae K 3 D λE=>
 cE K 53 3 5 E λZt=>
 o7 K 54 27 1 0 Zt λM H7=>
 iq (jX env.P false true H7 (Ref.mk 0 55 (ab.gen H7 0 55) 0) 61 5 (some [(0,J),(1,v8),(2,I),(3,F),(4,M)])) λN H8=>
 bt true H8 56 49 [N] λk u=>
 ah 54 f 0 λV=>
 ae u 5 V λz=>
 sg 5 58 z λZD=>
 br (some ZD) (
 iq (jB u (Ref.mk 0 61 (ab.gen u 0 61) 0) (uy env.P (Ref.mk 0 61 (ab.gen u 0 61) 0) 27 (some (AV.v (Value.int IntKind.i64 13))) (some (AV.v (Value.int IntKind.i64 13))))) λs d=>
 ah 54 f 4 λw=>
 ae d 49 w λn=>
 fa 49 λp=>
 zP 49 63 64 n p λl=>
 br (some l) (
 ah 54 f 4 λi=>
 ae d 49 i λm=>
 bt true d 69 117 [m] λe h=>
 bm e 0 λj=>
 bm e 1 λZu=>
 ah 54 f 6 λt=>
 ae h 52 t λo=>
 bt true h 75 118 [o] λB x=>
 bm B 0 λX=>
 bm B 1 λZE=>
 JB x 81 61 3 0 k 1 j 2 X λT y=>
 bt true y 82 49 [T] λZC Zv=>
 Q (.tup [ZC,(.v (.int .i64 0))]) Zv) (
 ah 54 f 6 λi=>
 ae d 52 i λm=>
 bt true d 75 118 [m] λe h=>
 bm e 0 λj=>
 bm e 1 λZu=>
 JB h 81 61 3 0 k 1 s 2 j λt x=>
 bt true x 82 49 [t] λo y=>
 Q (.tup [o,(.v (.int .i64 0))]) y)) (
 uh 5 58 z λs=>
 br (some s) (
 ah 54 f 5 λw=>
 ae u 45 w λn=>
 rg 47 0 n λp=>
 bt true u 89 89 [p] λl d=>
 bm l 0 λi=>
 bm l 1 λm=>
 Dw d 27 i λe=>
 dg d 95 27 27 k e λj h=>
 Q (.tup [j,(.v (.int .i64 0))]) h) (
 Q (.tup [k,(.v (.int .i64 0))]) u)))
theorem vH(h : ∀g:gX,qw a H Q):gI Tryz.f90 0 [(0,a)] H Q:=kS (by kernel_rfl) h
def Ek:Prop:=
 gR H 2 54 λd H1=>
 rg 182 0 a λv2=>
 eX H1 17 182 v2 λA H2=>
 ew (uB (.func 127) (some [A]) (some [])) λv4=>
 ew (uB (.func 128) (some [A]) (some [])) λv5=>
 Q5 H2 23 v4 λv6 H3=>
 eG H3 27 v6 0 λv7=>
 ae H3 5 v7 λv8=>
 ah 54 d 0 λv9=>
 ao H3 5 v9 v8 λv10 H4=>
 iq (aT env true (au env) (dA env 0) H4 (Ref.mk 0 29 (ab.gen H4 0 29) 0) (some v4) [(.v (.int .i64 6))]) λv11 H5=>
 bt true H5 30 100 [v11] λZL H6=>
 bm ZL 0 λZW=>
 bm ZL 1 λZU=>
 gR H6 8 47 λZQ H7=>
 ao H7 47 ZQ ZW λv16 H8=>
 iq (aT env true (au env) (dA env 0) H8 (Ref.mk 0 34 (ab.gen H8 0 34) 0) (some v4) [(.v (.int .i64 3))]) λz F=>
 ae F 47 ZQ λZY=>
 eG F 27 z 0 λZK=>
 ae F 5 ZK λZO=>
 cE F 39 5 3 ZO λZT=>
 QY 3 39 ZT λZ1=>
 eG F 27 z 1 λZM=>
 ae F 5 ZM λZI=>
 cE F 44 5 3 ZI λv25=>
 JE 3 44 v25 λv26=>
 AN 3 40 45 Z1 v26 λv27=>
 eG F 27 z 2 λZJ=>
 ae F 5 ZJ λZH=>
 cE F 50 5 3 ZH λZV=>
 AN 3 46 50 v27 ZV λv31=>
 ah 54 d 1 λf=>
 ao F 47 f ZY λv33 H10=>
 ah 54 d 2 λZN=>
 ao H10 3 ZN v31 λv35 X=>
  oP [(z,f),(ZK,f),(ZO,f),(z,f),(ZM,f),(ZI,f),(z,f),(ZJ,f),(ZH,f)] [f,ZN] [] X /\
 (iq (aT env true (au env) (dA env 0) X (Ref.mk 0 55 (ab.gen X 0 55) 0) (some v5) [(.v (.bool false))]) λZ3 H12=>
 ah 54 d 3 λZR=>
 ah 51 ZR 0 λZ8=>
 ao H12 49 Z8 Z3 λv39 H13=>
 Q5 H13 59 v4 λv40 T=>
 eG T 27 v40 0 λZ5=>
 ae T 5 Z5 λv42=>
 cE T 62 5 3 v42 λZS=>
 ah 54 d 3 λZ0=>
 ah 51 Z0 1 λZ2=>
 ao T 3 Z2 ZS λv46 e=>
 mr A λZ4=>
 ah 182 Z4 2 λv48=>
 ae e 4 v48 λZv=>
 gQ Zv false (cC ZU) λv50=>
 gQ Zv false (uR 22 70 0 v50) λZ6=>
 fv Zv Z6 λB=>
 gQ B false (an 54 d 3) λv53=>
 gQ B false (an 51 v53 1) λZ9=>
 gQ B false (aF e 3 Z9) λZZ=>
 gQ B false (Dx 3 76 64 ZZ) λZ7=>
 fv B Z7 λv57=>
 br (some v57) (
 fa 54 λZs=>
 ao e 54 d Zs λZB h=>
 bw h d 54 λZz=>
 Q (.tup [Zz,(.v (.int .i64 0)),(.v (.int .i64 8))]) h) (
 ah 54 d 0 λZs=>
 ae e 5 Zs λZB=>
 sg 5 81 ZB λZz=>
 br (some Zz) (
 iq (aT env true (au env) (dA env 0) e (Ref.mk 0 85 (ab.gen e 0 85) 0) (some v5) [(.v (.bool true))]) λW h=>
 ah 54 d 4 λK=>
 ao h 49 K W λR i=>
 ah 54 d 3 λm=>
 ah 51 m 1 λC=>
 ae i 3 C λu=>
 nC 3 4 91 u λJ=>
 FL i 93 v4 J λE Zx=>
 bt true Zx 94 129 [E] λj S=>
 bm j 0 λL=>
 bm j 1 λn=>
 mr A λG=>
 ah 182 G 2 λN=>
 ae S 4 N λp=>
 gQ p false (cC n) λD=>
 gQ p false (uR 22 104 0 D) λZu=>
 fv p Zu λZw=>
 ah 54 d 6 λY=>
 ao S 52 Y L λZC Z=>
 mr A λZD=>
 ah 182 ZD 2 λZA=>
 ao Z 4 ZA Zw λZG s=>
 mr A λZE=>
 ah 182 ZE 2 λU=>
 ae s 4 U λw=>
 gQ w false (aF s 54 d) λx=>
 gW w false s (eT true s 141 116 [x]) λV l=>
 gQ w false (uR 22 141 0 V) λZy=>
 fv w Zy λZt=>
 br (some Zt) (
 fa 54 λI=>
 ao l 54 d I λt k=>
 bw k d 54 λo=>
 Q (.tup [o,(.v (.int .i64 0)),(.v (.int .i64 8))]) k) (
 ae l 54 d λI=>
 mr A λt=>
 ah 182 t 1 λo=>
 ae l 3 o λq=>
 ao l 54 d I λZF k=>
  oP [(o,d)] [d] [] k /\
 (bw k d 54 λZP=>
 Q (.tup [ZP,q,(.v (.int .i64 0))]) k))) (
 uh 5 81 ZB λW=>
 br (some W) (
 iq (aT env true (au env) (dA env 0) e (Ref.mk 0 114 (ab.gen e 0 114) 0) (some v4) [(.v (.int .i64 5))]) λK h=>
 bt true h 115 130 [K] λR i=>
 JC i 116 27 1 λm Zx=>
 dg Zx 117 27 27 R m λC S=>
 bt true S 118 100 [C] λu Z=>
 bm u 0 λJ=>
 bm u 1 λE=>
 gR Z 13 47 λj s=>
 ao s 47 j J λL l=>
 ah 47 j 0 λn=>
 ae l 45 n λG=>
 mr A λN=>
 ah 182 N 2 λp=>
 ae l 4 p λD=>
 gQ D false (cC E) λZu=>
 gQ D false (uR 22 129 0 Zu) λZw=>
 fv D Zw λY=>
 ah 54 d 5 λZC=>
 ao l 45 ZC G λZD k=>
 mr A λZA=>
 ah 182 ZA 2 λZG=>
 ao k 4 ZG Y λZE M=>
 mr A λU=>
 ah 182 U 2 λw=>
 ae M 4 w λx=>
 gQ x false (aF M 54 d) λV=>
 gW x false M (eT true M 141 116 [V]) λZy O=>
 gQ x false (uR 22 141 0 Zy) λZt=>
 fv x Zt λI=>
 br (some I) (
 fa 54 λt=>
 ao O 54 d t λo y=>
 bw y d 54 λq=>
 Q (.tup [q,(.v (.int .i64 0)),(.v (.int .i64 8))]) y) (
 ae O 54 d λt=>
 mr A λo=>
 ah 182 o 1 λq=>
 ae O 3 q λZF=>
 iq (
  iu env.P O 54 (some d) (some t)) λZP y=>
  oP [(q,d)] [d] [] y /\
 (bw y d 54 λZX=>
 Q (.tup [ZX,ZF,(.v (.int .i64 0))]) y))) (
 mr A λK=>
 ah 182 K 2 λR=>
 ae e 4 R λm=>
 gQ m false (aF e 54 d) λC=>
 gW m false e (eT true e 141 116 [C]) λu h=>
 gQ m false (uR 22 141 0 u) λJ=>
 fv m J λE=>
 br (some E) (
 fa 54 λj=>
 ao h 54 d j λL i=>
 bw i d 54 λn=>
 Q (.tup [n,(.v (.int .i64 0)),(.v (.int .i64 8))]) i) (
 ae h 54 d λj=>
 mr A λL=>
 ah 182 L 1 λn=>
 ae h 3 n λG=>
 iq (
  iu env.P h 54 (some d) (some j)) λN i=>
  oP [(n,d)] [d] [] i /\
 (bw i d 54 λp=>
 Q (.tup [p,G,(.v (.int .i64 0))]) i))))))
theorem KK(h : ∀g:gX,Ek a H Q):gI Tryz.f101 0 [(0,a)] H Q:=kS (by kernel_rfl) h
noncomputable def cX:=xv Tryz.f49 3
noncomputable def cJ:=xv Tryz.f49 11
def gK:Nat->Option (List Nat):=λi=>cond (Nat.beq i 3) (some [11,3,9,0,10]) (cond (Nat.beq i 11) (some [27,6,25,26]) (none))
def kr:Prop:=
 eR H 10 61 a λd=>
  dZ env Tryz.f49 0 cX [(11,(.v (.int .i64 0))),(3,(.v (.int .i64 0))),(9,a),(0,a),(10,d)] H Q
theorem pd(h : ∀g:gX,kr a H Q):gI Tryz.f49 0 [(0,a)] H Q:=zk gK (by kernel_rfl) h
def fU(g:Nat->AV)(x11 k f a d:AV)(H:ab)(Q:AV->ab->Prop):Prop:=
 kb 3 11 10 x11 d λp=>
 br (some p) (
 gf H 61 f x11 λh=>
 ae H 27 h λi=>
 eR H 17 27 i λo=>
 mv 3 15 17 k o λe=>
 uT 3 19 0 e λm=>
 br (some m) (
 ew (tK env.P 9 (some (.v (.string ⟨#[108,101,110,32,111,117,116,32,111,102,32,114,97,110,103,101]⟩)))) λj=>
 ew (none) λq=>
 kH 3 11 1 x11 λn=>
  dZ env Tryz.f49 0 cX [(11,n),(3,e),(9,f),(0,a),(10,d)] H Q) (
 kH 3 11 1 x11 λj=>
  dZ env Tryz.f49 0 cX [(11,j),(3,e),(9,f),(0,a),(10,d)] H Q)) (
 bt true H 24 93 [(.v (.slice none 0 0)),k] λh l=>
 eR l 26 61 a λi=>
  dZ env Tryz.f49 0 cJ [(27,(.v (.int .i64 0))),(6,h),(25,a),(26,i)] l Q)
theorem jJ(x11 f e a d:AV)(H:ab)(Q:AV->ab->Prop)(h : ∀g,fU g x11 f e a d H Q):dZ env Tryz.f49 0 cX [(11,x11),(3,f),(9,e),(0,a),(10,d)] H Q:=zY gK (by kernel_rfl) h
def dS(g:Nat->AV)(d h e f:AV)(H:ab)(Q:AV->ab->Prop):Prop:=
 kb 3 27 26 d f λk=>
 br (some k) (
 gf H 61 e d λl=>
 ae H 27 l λn=>
 dg H 33 27 27 h n λj m=>
 kH 3 27 1 d λi=>
  dZ env Tryz.f49 0 cJ [(27,i),(6,j),(25,e),(26,f)] m Q) (
 Q h H)
theorem jm(e i d f:AV)(H:ab)(Q:AV->ab->Prop)(h : ∀g,dS g e i d f H Q):dZ env Tryz.f49 0 cJ [(27,e),(6,i),(25,d),(26,f)] H Q:=zY gK (by kernel_rfl) h
noncomputable def nN:=xv Tryz.f118 6
def yt:Nat->Option (List Nat):=λi=>cond (Nat.beq i 6) (some [15,5,13,14]) (none)
def tZ:Prop:=
 bt true H 9 140 [a] λe d=>
 lf 22 10 0 e λh=>
 br (some h) (
 Q (.tup [(.v (.slice none 0 0)),e]) d) (
 eR d 14 52 a λf=>
  dZ env Tryz.f118 0 nN [(15,(.v (.int .i64 0))),(5,(.v (.slice none 0 0))),(13,a),(14,f)] d Q)
theorem EL(h : ∀g:gX,tZ a H Q):gI Tryz.f118 0 [(0,a)] H Q:=zk yt (by kernel_rfl) h
def nT(g:Nat->AV)(d x5 f e:AV)(H:ab)(Q:AV->ab->Prop):Prop:=
 kb 3 15 14 d e λt=>
 br (some t) (
 gf H 52 f d λw=>
 ae H 21 w λh=>
 ew (bK env.P .shr 21 (Operand.tmp 20) (.const (.int .u64 24)) (some h) (some (.v (.int .u64 24)))) λs=>
 cE H 22 21 5 s λo=>
 QZ 21 23 h λn=>
 cE H 25 21 5 n λm=>
 Mg 21 26 h λp=>
 cE H 28 21 5 p λq=>
 cE H 30 21 5 h λj=>
 JD H 31 27 4 0 o 1 m 2 q 3 j λi x=>
 dg x 32 27 27 x5 i λl u=>
 kH 3 15 1 d λk=>
  dZ env Tryz.f118 0 nN [(15,k),(5,l),(13,f),(14,e)] u Q) (
 Q (.tup [x5,(.v (.int .i64 0))]) H)
theorem ve(e x5 f d:AV)(H:ab)(Q:AV->ab->Prop)(h : ∀g,nT g e x5 f d H Q):dZ env Tryz.f118 0 nN [(15,e),(5,x5),(13,f),(14,d)] H Q:=zY yt (by kernel_rfl) h
noncomputable def oa:Code:=(Tryz.f127.body).getD .skip
def ee:Prop:=
 mr a λN=>
 ah 182 N 2 λX=>
 ae H 4 X λd=>
 gQ d false (cC a) λU=>
 gQ d false (Gu (some U)) λR=>
 gQ d false (an 182 R 0) λO=>
 gQ d false (aF H 27 O) λM=>
 gQ d false (cW env.P false (ab.get H) (⟨(dep+1),15,ab.gen H (dep+1) 15,0⟩:Ref) .len #[27] [M]) λS=>
 gQ d false (cC a) λT=>
 gQ d false (Gu (some T)) λs=>
 gQ d false (an 182 s 1) λy=>
 gQ d false (aF H 3 y) λL=>
 gQ d false (bK env.P .sub 3 (Operand.tmp 15) (Operand.tmp 19) (some S) (some L)) λu=>
 gQ d false (cC b) λo=>
 gQ d false (Jx 3 20 21 u o) λF=>
 fv d F λB=>
 mr a λC=>
 ah 182 C 2 λv=>
 ao H 4 v B λW h=>
 mr a λw=>
 ah 182 w 2 λj=>
 ae h 4 j λA=>
 br (some A) (
 iq (jB h (⟨(dep+1),31,ab.gen h (dep+1) 31,0⟩:Ref) (uy env.P (⟨(dep+1),31,ab.gen h (dep+1) 31,0⟩:Ref) 27 (some b) (some b))) λe f=>
 Q e f) (
 mr a λe=>
 ah 182 e 1 λG=>
 ae h 3 G λp=>
 mv 3 35 36 p b λz=>
 mr a λx=>
 ah 182 x 1 λI=>
 ao h 3 I z λV f=>
 mr a λt=>
 ah 182 t 0 λm=>
 ae f 27 m λl=>
 mr a λn=>
 ah 182 n 1 λq=>
 ae f 3 q λD=>
 FK 3 47 48 D b λE=>
 mr a λi=>
 ah 182 i 1 λK=>
 ae f 3 K λk=>
 ew (ca env.P (ab.get f) 27 (some l) (oi E) (oi k) (some none)) λJ=>
 Q J f)
theorem n8(h : ∀g:gX,ee dep a b H Q):gI Tryz.f127 (dep+1) [(0,a),(1,b)] H Q:=kS (by kernel_rfl) h
noncomputable def px:Code:=(Tryz.f128.body).getD .skip
def eJ:Prop:=
 Rb H dep 4 49 λA C=>
 iq (aT env true (au env) (dA env (dep+1)) C (⟨(dep+1),10,ab.gen C (dep+1) 10,0⟩:Ref) (some (.fn (.func 127) [] [])) [a,(.v (.int .i64 13))]) λE B=>
 iq (aT env true (au env) (dA env (dep+1)) B (⟨(dep+1),13,ab.gen B (dep+1) 13,0⟩:Ref) (some (.fn (.func 143) [] [])) [E]) λG R=>
 bm G 0 λN=>
 bm G 1 λK=>
 Rb R dep 6 49 λD I=>
 ao I 49 D N λS f=>
 gQ b true (cC E) λL=>
 gW b true f (jB f (⟨(dep+1),19,ab.gen f (dep+1) 19,0⟩:Ref) (uy env.P (⟨(dep+1),19,ab.gen f (dep+1) 19,0⟩:Ref) 27 (some (AV.v (Value.int IntKind.i64 13))) (some (AV.v (Value.int IntKind.i64 13))))) λM o=>
 gW b true o (aT env true (au env) (dA env (dep+1)) o (⟨(dep+1),20,ab.gen o (dep+1) 20,0⟩:Ref) (some (.fn (.func 57) [] [])) [L,M]) λk F=>
 bM b k λq=>
 mr a λx=>
 ah 182 x 2 λl=>
 ae F 4 l λd=>
 gQ d false (cC K) λu=>
 gQ d false (uR 22 28 0 u) λt=>
 gQ d false (cC t) λe=>
 gQ e true (cC q) λm=>
 gQ e true (xH m) λw=>
 gQ d false (uD (some e) (some w) (some (AV.v (Value.bool false)))) λn=>
 fv d n λh=>
 mr a λs=>
 ah 182 s 2 λi=>
 ao F 4 i h λO y=>
 ae y 49 D λj=>
 ao y 49 A j λJ z=>
 bw z A 49 λp=>
 Q p z
theorem pg(h : ∀g:gX,eJ dep a b H Q):gI Tryz.f128 (dep+1) [(0,a),(1,b)] H Q:=kS (by kernel_rfl) h
noncomputable def FD:Code:=(Tryz.f129.body).getD .skip
noncomputable def iW:List Item:=(jg 10006 400 [.code FD]).getD []
noncomputable def dx:Code:=Zk iW
noncomputable def dw:Code:=Zj iW
noncomputable def qH:List Item:=Zi iW
def tT:Nat->Option (List Nat):=λi=>cond (Nat.beq i 10006) (some [16,2]) (none)
def yF:Nat->Bool:=λi=>false
def yP:Prop:=
 gR H 2 52 λf e=>
 eR e 8 27 a λl=>
 wq 3 8 256 l λn=>
 br (some n) (
 FJ e 52 f λj d=>
 bw d f 52 λh=>
 Q (.tup [h,(.v (.int .i64 4))]) d) (
 eR e 12 27 a λj=>
 o8 3 12 4 j λh=>
 wq 3 13 0 h λk=>
 br (some k) (
 FJ e 52 f λi d=>
 bw d f 52 λm=>
 Q (.tup [m,(.v (.int .i64 8))]) d) (
 bt true e 16 48 [a,(.v (.int .i64 4))] λi d=>
  dZ env Tryz.f129 0 iW [(16,i),(2,f)] d Q))
theorem EM(h : ∀g:gX,yP a H Q):gI Tryz.f129 0 [(0,a)] H Q:=zk tT (by kernel_rfl) h
def mq(g:Nat->AV)(c:AV)(H:ab)(Q:AV->ab->Prop):Prop:=
 ae H 52 c λl=>
 bt true H 45 140 [l] λh e=>
 lf 22 46 0 h λk=>
 br (some k) (
 FJ e 52 c λi d=>
 bw d c 52 λf=>
 Q (.tup [f,h]) d) (
 ae e 52 c λi=>
 ao e 52 c i λf d=>
 bw d c 52 λj=>
 Q (.tup [j,(.v (.int .i64 0))]) d)
theorem wb(c:AV)(H:ab)(Q:AV->ab->Prop)(h : ∀g,mq g c H Q):dZ env Tryz.f129 0 qH [(2,c)] H Q:=⟨λg=>pU (live:=tT) (cut:=yF) (n:=500) (Eq.mp (by kernel_rfl) (h g))⟩
def mU(r:Ref)(g:Nat->AV)(c e:AV)(H:ab)(Q:AV->ab->Prop):Prop:=
 YJ (sU H r) λd=>
 ew (lz env.P (ab.get (ab.put H r (some (c9 1 d)))) 52 (some c)) λG=>
 ew (bE env.P (ab.get (ab.put H r (some (c9 1 d)))) 27 (some e) (some (AV.v (Value.int IntKind.i64 0)))) λI=>
 ew (lz env.P (ab.get (ab.put H r (some (c9 1 d)))) 5 (some I)) λD=>
 ew (bC env.P (ab.get (ab.put H r (some (c9 1 d)))) (⟨2,22,ab.gen (ab.put H r (some (c9 1 d))) 2 22,0⟩:Ref) 5 43 (some D)) λA=>
 ew (bK env.P .shl 43 (Operand.tmp 22) (.const (.int .u64 24)) (some A) (some (.v (.int .u64 24)))) λz=>
 ew (bE env.P (ab.get (ab.put H r (some (c9 1 d)))) 27 (some e) (some (AV.v (Value.int IntKind.i64 1)))) λx=>
 ew (lz env.P (ab.get (ab.put H r (some (c9 1 d)))) 5 (some x)) λB=>
 ew (bC env.P (ab.get (ab.put H r (some (c9 1 d)))) (⟨2,27,ab.gen (ab.put H r (some (c9 1 d))) 2 27,0⟩:Ref) 5 43 (some B)) λC=>
 QY 43 27 C λk=>
 AN 43 23 28 z k λo=>
 ew (bE env.P (ab.get (ab.put H r (some (c9 1 d)))) 27 (some e) (some (AV.v (Value.int IntKind.i64 2)))) λh=>
 ew (lz env.P (ab.get (ab.put H r (some (c9 1 d)))) 5 (some h)) λl=>
 ew (bC env.P (ab.get (ab.put H r (some (c9 1 d)))) (⟨2,33,ab.gen (ab.put H r (some (c9 1 d))) 2 33,0⟩:Ref) 5 43 (some l)) λi=>
 JE 43 33 i λt=>
 AN 43 29 34 o t λq=>
 ew (bE env.P (ab.get (ab.put H r (some (c9 1 d)))) 27 (some e) (some (AV.v (Value.int IntKind.i64 3)))) λs=>
 ew (lz env.P (ab.get (ab.put H r (some (c9 1 d)))) 5 (some s)) λm=>
 ew (bC env.P (ab.get (ab.put H r (some (c9 1 d)))) (⟨2,39,ab.gen (ab.put H r (some (c9 1 d))) 2 39,0⟩:Ref) 5 43 (some m)) λu=>
 AN 43 35 39 q u λn=>
 ew (bC env.P (ab.get (ab.put H r (some (c9 1 d)))) (⟨2,41,ab.gen (ab.put H r (some (c9 1 d))) 2 41,0⟩:Ref) 43 21 (some n)) λf=>
 iq (jX env.P true false (ab.put H r (some (c9 1 d))) (⟨2,42,ab.gen (ab.put H r (some (c9 1 d))) 2 42,0⟩:Ref) 52 1 (some [(0,f)])) λp w=>
 iq (cS env.P true w (⟨2,43,ab.gen w 2 43,0⟩:Ref) (some 52) (some 52) G p) λj y=>
 ao y 52 c j λE F=>
 Q (.v (.int .i64 0)) F
theorem xe(r:Ref)(c d:AV)(H:ab)(Q:AV->ab->Prop)(h : ∀g,mU r g c d H Q):Pg env Tryz.f129 (some r) 2 [.code dx,.beginRound,.code dw] [(2,c),(17,d)] H Q:=⟨λg=>pU (live:=tT) (cut:=yF) (n:=500) (Eq.mp (by kernel_rfl) (h g))⟩
def vF:Prop:=
 Q4 27 3 a λh=>
 br (some h) (
 Q (.v (.slice none 0 0)) H) (
 iq (jX env.P false true H (Ref.mk 0 5 (ab.gen H 0 5) 0) 27 0 (some [])) λi d=>
 dg d 7 27 27 i a λf e=>
 Q f e)
theorem BF(h : ∀g:gX,vF a H Q):gI Tryz.f130 0 [(0,a)] H Q:=kS (by kernel_rfl) h
def gZ:Prop:=
 eX H 2 27 a λh j=>
 eX j 3 3 b λe d=>
 ae d 3 e λl=>
 uT 3 5 1 l λk=>
 br (some k) (
 ew (tK env.P 9 (some (.v (.string ⟨#[99,97,110,110,111,116,32,98,101,32,108,101,115,115,32,116,104,97,110,32,49]⟩)))) λf=>
 ew (none) λm=>
 ew (uB (.func 92) (some []) (some [h,e])) λi=>
 Q i d) (
 ew (uB (.func 92) (some []) (some [h,e])) λf=>
 Q f d)
theorem kL(h : ∀g:gX,gZ a b H Q):gI Tryz.f48 0 [(0,a),(1,b)] H Q:=kS (by kernel_rfl) h
def lJ:Prop:=
 cE H 6 27 9 a λe=>
 cE H 8 27 9 b λf=>
 ug 9 6 8 e f λd=>
 Q d H
theorem BE(h : ∀g:gX,lJ a b H Q):gI Tryz.f57 0 [(0,a),(1,b)] H Q:=kS (by kernel_rfl) h
def k9:Prop:=
 uT 3 5 0 b λs=>
 br (some s) (
 ew (tK env.P 9 (some (.v (.string ⟨#[99,97,110,110,111,116,32,98,101,32,110,101,103,97,116,105,118,101]⟩)))) λp=>
 ew (none) λq=>
 JA H 10 27 a λn=>
 eR H 12 27 a λi=>
 FK 3 10 12 n i λk=>
 FK 3 8 13 b k λh=>
 wq 3 15 0 h λl=>
 br (some l) (
 JA H 19 27 a λm=>
 Du H 27 a m λd=>
 dg H 22 27 3 d h λe f=>
 eR f 24 27 a λo=>
 Du f 27 e o λj=>
 Q j f) (
 Q a H)) (
 JA H 10 27 a λp=>
 eR H 12 27 a λq=>
 FK 3 10 12 p q λn=>
 FK 3 8 13 b n λi=>
 wq 3 15 0 i λk=>
 br (some k) (
 JA H 19 27 a λh=>
 Du H 27 a h λl=>
 dg H 22 27 3 l i λm f=>
 eR f 24 27 a λd=>
 Du f 27 m d λe=>
 Q e f) (
 Q a H))
theorem pZ(h : ∀g:gX,k9 a b H Q):gI Tryz.f93 0 [(0,a),(1,b)] H Q:=kS (by kernel_rfl) h
noncomputable def jY:Code:=(Tryz.f92.body).getD .skip
noncomputable def bU:=xv Tryz.f92 1
def jU:Nat->Option (List Nat):=λi=>cond (Nat.beq i 1) (some [2,4,1,0]) (none)
def gw:Prop:=
 dZ env Tryz.f92 (dep+1) bU [(2,c),(4,(.v (.int .i64 0))),(1,b),(0,a)] H Q
theorem jO(h : ∀g:gX,gw dep a b c H Q):gI Tryz.f92 (dep+1) [(0,a),(1,b),(2,c)] H Q:=zk jU (by kernel_rfl) h
def bX(dep:Nat)(g:Nat->AV)(c d b a:AV)(H:ab)(Q:AV->ab->Prop):Prop:=
 ae H 27 b λu=>
 ew (cW env.P false (ab.get H) (⟨(dep+1),8,ab.gen H (dep+1) 8,0⟩:Ref) .len #[27] [u]) λw=>
 kb 3 6 8 d w λx=>
 br (some x) (
 ae H 3 c λt=>
 ae H 27 b λq=>
 ew (ca env.P (ab.get H) 27 (some q) (oi d) (some none) (some none)) λp=>
 ew (cW env.P false (ab.get H) (⟨(dep+1),17,ab.gen H (dep+1) 17,0⟩:Ref) .len #[27] [p]) λo=>
 ew (cW env.P true (ab.get H) (⟨(dep+1),18,ab.gen H (dep+1) 18,0⟩:Ref) .min #[3,3] [t,o]) λn=>
 ae H 27 b λs=>
 mv 3 22 23 d n λj=>
 mv 3 25 26 d n λe=>
 ew (ca env.P (ab.get H) 27 (some s) (oi d) (oi j) (oi e)) λm=>
 iq (aT env true (au env) (dA env (dep+1)) H (⟨(dep+1),29,ab.gen H (dep+1) 29,0⟩:Ref) (some a) [m]) λk l=>
 mu k λh=>
 br (some h) (
 Q (.v (.tuple #[])) l) (
 ae l 3 c λi=>
 mv 3 10 11 d i λf=>
  dZ env Tryz.f92 (dep+1) bU [(2,c),(4,f),(1,b),(0,a)] l Q)) (
 Q (.v (.tuple #[])) H)
theorem cF(dep:Nat)(c d b a:AV)(H:ab)(Q:AV->ab->Prop)(h : ∀g,bX dep g c d b a H Q):dZ env Tryz.f92 (dep+1) bU [(2,c),(4,d),(1,b),(0,a)] H Q:=zY jU (by kernel_rfl) h
end
section
variable(dep:Nat)(g:Nat->AV)(a b:AV)(H:ab)(Q:AV->ab->Prop)
def j5:Prop:=
 eX H 1 54 a λd m=>
 gR m 2 54 λi e=>
 ah 54 d 6 λp=>
 ae e 52 p λo=>
 JF e 5 52 52 o λk j=>
 ah 54 d 6 λl=>
 ao j 52 l k λq h=>
 ae h 54 d λn=>
 ao h 54 i n λs f=>
 bw f i 54 λc=>
 Q c f
theorem sE(h : ∀g:gX,j5 a H Q):gI Tryz.f35 0 [(0,a)] H Q:=kS (by kernel_rfl) h
def bz:Prop:=
 gR H 2 54 λk W=>
 eR W 10 27 a λv2=>
 uT 3 10 24 v2 λv3=>
 br (some v3) (
 fa 54 λv4=>
 ao W 54 k v4 λv5 U=>
 bw U k 54 λv6=>
 Q (.tup [v6,(.v (.int .i64 0)),(.v (.int .i64 8))]) U) (
 eG W 27 a 0 λv4=>
 ae W 5 v4 λv5=>
 eG W 27 a 23 λv6=>
 ae W 5 v6 λv7=>
 cE W 19 5 3 v7 λv8=>
 bt false W 20 110 [v5,v8] λD U=>
 wo 3 21 0 D λB=>
 gQ B false (cC a) λZ7=>
 gQ B false (Dv U 25 27 Z7) λZX=>
 gQ B false (cC D) λZK=>
 gQ B false (Jx 3 25 26 ZX ZK) λZH=>
 fv B ZH λZ9=>
 br (some Z9) (
 fa 54 λZx=>
 ao U 54 k Zx λZz x=>
 bw x k 54 λZ=>
 Q (.tup [Z,(.v (.int .i64 0)),(.v (.int .i64 8))]) x) (
 eG U 27 a 0 λZx=>
 ae U 5 Zx λZz=>
 Q0 U 27 a λZ=>
 bt false U 35 111 [Z] λZV x=>
 eG x 27 a 7 λZ4=>
 ae x 5 Z4 λZD=>
 cE x 39 5 3 ZD λZN=>
 nC 3 65536 39 ZN λZ0=>
 eG x 27 a 8 λZS=>
 ae x 5 ZS λZ1=>
 cE x 44 5 3 Z1 λZ8=>
 nC 3 256 44 Z8 λZ5=>
 mv 3 40 45 Z0 Z5 λZT=>
 eG x 27 a 9 λZR=>
 ae x 5 ZR λZJ=>
 cE x 50 5 3 ZJ λZZ=>
 mv 3 46 50 ZT ZZ λZF=>
 ew (ca env.P (ab.get x) 27 (some a) (oi (.v (.int .i64 10))) (oi (.v (.int .i64 23))) (some none)) λZG=>
 bt false x 54 112 [ZG] λZ2 H4=>
 eG H4 27 a 23 λZO=>
 ae H4 5 ZO λZP=>
 cE H4 58 5 3 ZP λZB=>
 rh 51 0 Z2 1 ZB λZW=>
 ew (kW env.P 54 (some [(0,Zz),(1,ZV),(2,ZF),(3,ZW)])) λZE=>
 gR H4 6 54 λc H5=>
 ao H5 54 c ZE λv41 X=>
 ah 54 c 0 λZ3=>
 ae X 5 Z3 λZC=>
 sg 5 62 ZC λZL=>
 br (some ZL) (
 ew (ca env.P (ab.get X) 27 (some a) (oi (.v (.int .i64 24))) (oi (.v (.int .i64 37))) (some none)) λZt=>
 bt true X 66 112 [Zt] λZs H7=>
 ah 54 c 4 λZu=>
 ao H7 49 Zu Zs λV G=>
 ew (ca env.P (ab.get G) 27 (some a) (oi (.v (.int .i64 37))) (oi D) (some none)) λI=>
 bt true G 72 113 [I] λe R=>
 bm e 0 λF=>
 bm e 1 λz=>
 lf 3 75 0 z λL=>
 br (some L) (
 fa 54 λs=>
 ao R 54 k s λS l=>
 bw l k 54 λp=>
 Q (.tup [p,(.v (.int .i64 0)),(.v (.int .i64 8))]) l) (
 ah 54 c 6 λs=>
 ao R 52 s F λS l=>
 ah 54 c 0 λp=>
 ae l 5 p λN=>
 uh 5 81 N λh=>
 br (some h) (
 Q3 l 27 a λu=>
 JF l 85 27 27 u λn o=>
 JC o 86 27 1 λd j=>
 dg j 87 27 27 n d λm f=>
 bt true f 88 111 [m] λE t=>
 ew (pE env.P 47 (some E) 0) λJ=>
 ah 54 c 5 λC=>
 ao t 45 C J λT ZA=>
 ae ZA 54 c λM=>
 bt false ZA 92 96 [M] λq Zv=>
 mu q λi=>
 gQ i false (aF Zv 54 c) λw=>
 gW i false Zv (eT false Zv 96 84 [w]) λO y=>
 gQ i false (xI y 97 27 9 O) λZw=>
 gQ i false (cC a) λA=>
 gQ i false (cC D) λZU=>
 gQ i false (Jy y 27 A ZU) λZQ=>
 gQ i false (xI y 101 27 9 ZQ) λZY=>
 gQ i false (Jw 9 97 101 Zw ZY) λZ6=>
 fv i Z6 λZM=>
 br (some ZM) (
 fa 54 λY=>
 ao y 54 k Y λZI K=>
 bw K k 54 λZy=>
 Q (.tup [Zy,(.v (.int .i64 0)),(.v (.int .i64 8))]) K) (
 ae y 54 c λY=>
 ao y 54 k Y λZI K=>
 bw K k 54 λZy=>
 Q (.tup [Zy,D,(.v (.int .i64 0))]) K)) (
 ae l 54 c λu=>
 bt false l 92 96 [u] λn o=>
 mu n λd=>
 gQ d false (aF o 54 c) λm=>
 gW d false o (eT false o 96 84 [m]) λE j=>
 gQ d false (xI j 97 27 9 E) λJ=>
 gQ d false (cC a) λC=>
 gQ d false (cC D) λT=>
 gQ d false (Jy j 27 C T) λM=>
 gQ d false (xI j 101 27 9 M) λq=>
 gQ d false (Jw 9 97 101 J q) λi=>
 fv d i λw=>
 br (some w) (
 fa 54 λO=>
 ao j 54 k O λZw f=>
 bw f k 54 λA=>
 Q (.tup [A,(.v (.int .i64 0)),(.v (.int .i64 8))]) f) (
 ae j 54 c λO=>
 ao j 54 k O λZw f=>
 bw f k 54 λA=>
 Q (.tup [A,D,(.v (.int .i64 0))]) f)))) (
 ah 54 c 0 λZt=>
 ae X 5 Zt λZs=>
 uh 5 81 Zs λZu=>
 br (some Zu) (
 Q3 X 27 a λV=>
 JF X 85 27 27 V λI H7=>
 JC H7 86 27 1 λe G=>
 dg G 87 27 27 I e λF R=>
 bt true R 88 111 [F] λz l=>
 ew (pE env.P 47 (some z) 0) λL=>
 ah 54 c 5 λs=>
 ao l 45 s L λS o=>
 ae o 54 c λp=>
 bt false o 92 96 [p] λN j=>
 mu N λh=>
 gQ h false (aF j 54 c) λu=>
 gW h false j (eT false j 96 84 [u]) λn f=>
 gQ h false (xI f 97 27 9 n) λd=>
 gQ h false (cC a) λm=>
 gQ h false (cC D) λE=>
 gQ h false (Jy f 27 m E) λJ=>
 gQ h false (xI f 101 27 9 J) λC=>
 gQ h false (Jw 9 97 101 d C) λT=>
 fv h T λM=>
 br (some M) (
 fa 54 λq=>
 ao f 54 k q λi t=>
 bw t k 54 λw=>
 Q (.tup [w,(.v (.int .i64 0)),(.v (.int .i64 8))]) t) (
 ae f 54 c λq=>
 ao f 54 k q λi t=>
 bw t k 54 λw=>
 Q (.tup [w,D,(.v (.int .i64 0))]) t)) (
 ae X 54 c λV=>
 bt false X 92 96 [V] λI H7=>
 mu I λe=>
 gQ e false (aF H7 54 c) λF=>
 gW e false H7 (eT false H7 96 84 [F]) λz G=>
 gQ e false (xI G 97 27 9 z) λL=>
 gQ e false (cC a) λs=>
 gQ e false (cC D) λS=>
 gQ e false (Jy G 27 s S) λp=>
 gQ e false (xI G 101 27 9 p) λN=>
 gQ e false (Jw 9 97 101 L N) λh=>
 fv e h λu=>
 br (some u) (
 fa 54 λn=>
 ao G 54 k n λd R=>
 bw R k 54 λm=>
 Q (.tup [m,(.v (.int .i64 0)),(.v (.int .i64 8))]) R) (
 ae G 54 c λn=>
 ao G 54 k n λd R=>
 bw R k 54 λm=>
 Q (.tup [m,D,(.v (.int .i64 0))]) R)))))
theorem tz(h : ∀g:gX,bz a H Q):gI Tryz.f85 0 [(0,a)] H Q:=kS (by kernel_rfl) h
noncomputable def fI:=xv Tryz.f82 2
def mE:Nat->Option (List Nat):=λi=>cond (Nat.beq i 2) (some [3,1]) (none)
def mL:Prop:=
 eX H 1 54 a λd c=>
  dZ env Tryz.f82 0 fI [(3,(.v (.int .i64 0))),(1,d)] c Q
theorem rP(h : ∀g:gX,mL a H Q):gI Tryz.f82 0 [(0,a)] H Q:=zk mE (by kernel_rfl) h
def fM(g:Nat->AV)(d b:AV)(H:ab)(Q:AV->ab->Prop):Prop:=
 ah 54 b 6 λl=>
 ae H 52 l λm=>
 eR H 7 52 m λn=>
 kb 3 4 7 d n λk=>
 br (some k) (
 ah 54 b 6 λh=>
 ae H 52 h λf=>
 gf H 52 f d λe=>
 ae H 21 e λi=>
 ew (bK env.P .eql 21 (Operand.tmp 15) (.const (.int .i32 (-1))) (some i) (some (.v (.int .i32 (-1))))) λj=>
 br (some j) (
 Q (.v (.bool false)) H) (
 kH 3 9 1 d λc=>
  dZ env Tryz.f82 0 fI [(3,c),(1,b)] H Q)) (
 Q (.v (.bool true)) H)
theorem lu(c b:AV)(H:ab)(Q:AV->ab->Prop)(h : ∀g,fM g c b H Q):dZ env Tryz.f82 0 fI [(3,c),(1,b)] H Q:=zY mE (by kernel_rfl) h
def dX:Prop:=
 uT 3 5 1 b λe=>
 gQ e false (cC b) λj=>
 gQ e false (Dx 3 8 64 j) λh=>
 fv e h λf=>
 br (some f) (
 Q (.v (.int .i64 0)) H) (
 sg 5 11 a λi=>
 br (some i) (
 nC 3 4 13 b λc=>
 ew (bK env.P .add 3 (Operand.const (Value.int IntKind.i64 37)) (Operand.tmp 14) (some (AV.v (Value.int IntKind.i64 37))) (some c)) λd=>
 Q d H) (
 AO 5 16 a λc=>
 br (some c) (
 Q (.v (.int .i64 24)) H) (
 uh 5 18 a λd=>
 br (some d) (
 Q (.v (.int .i64 29)) H) (
 Q (.v (.int .i64 0)) H))))
theorem sF(h : ∀g:gX,dX a b H Q):gI Tryz.f110 0 [(0,a),(1,b)] H Q:=kS (by kernel_rfl) h
def aw:Prop:=
 eX H 1 54 a λf H1=>
 ah 54 f 1 λv2=>
 ae H1 47 v2 λv3=>
 bt true H1 6 95 [v3] λv4 K=>
 mu v4 λL=>
 gQ L false (an 54 f 2) λv6=>
 gQ L false (aF K 3 v6) λv7=>
 gQ L false (uS 3 10 1 v7) λv8=>
 fv L v8 λM=>
 gQ M false (an 54 f 2) λW=>
 gQ M false (aF K 3 W) λZs=>
 gQ M false (pO 3 15 16777216 Zs) λZA=>
 fv M ZA λm=>
 gQ m false (an 54 f 3) λT=>
 gQ m false (aF K 51 T) λZw=>
 gW m false K (eT true K 21 121 [Zw]) λZu p=>
 gQ m false (xH Zu) λZv=>
 fv m Zv λX=>
 br (some X) (
 Q (.v (.bool false)) p) (
 ah 54 f 5 λZz=>
 ae p 45 Zz λZ=>
 fa 45 λN=>
 ug 45 25 26 Z N λi=>
 ah 54 f 0 λU=>
 ae p 5 U λZx=>
 sg 5 29 Zx λV=>
 br (some V) (
 gQ i true (an 54 f 4) λz=>
 gQ i true (aF p 49 z) λx=>
 gW i true p (eT true p 35 108 [x]) λD k=>
 gQ i true (cC D) λe=>
 gQ e false (an 54 f 4) λu=>
 gQ e false (aF k 49 u) λs=>
 gW e false k (eT true k 39 122 [s]) λq n=>
 gQ i true (Mf e q) λt=>
 bM i t λc=>
 gQ c true (an 54 f 3) λB=>
 gQ c true (an 51 B 0) λC=>
 gQ c true (an 49 C 0) λo=>
 gQ c true (aF n 47 o) λI=>
 gQ c true (an 54 f 1) λh=>
 gQ c true (aF n 47 h) λG=>
 gQ c true (iI 47 46 48 I G) λF=>
 bM c F λd=>
 gQ d true (an 54 f 6) λj=>
 gQ d true (aF n 52 j) λw=>
 gQ d true (Dv n 54 52 w) λA=>
 gQ d true (an 54 f 3) λy=>
 gQ d true (an 51 y 1) λE=>
 gQ d true (aF n 3 E) λJ=>
 gQ d true (iI 3 54 57 A J) λR=>
 bM d R λl=>
 gQ l true (an 54 f 6) λZy=>
 gQ l true (aF n 52 Zy) λS=>
 gW l true n (eT true n 63 123 [S]) λZt H6=>
 gQ l true (uQ 3 63 0 Zt) λO=>
 bM l O λY=>
 Q Y H6) (
 ah 54 f 4 λz=>
 ae p 49 z λx=>
 bt true p 68 108 [x] λD k=>
 mu D λe=>
 gQ e false (an 54 f 6) λu=>
 gQ e false (aF k 52 u) λs=>
 gQ e false (Dv k 73 52 s) λq=>
 gQ e false (Dx 3 73 0 q) λt=>
 fv e t λc=>
 br (some c) (
 Q (.v (.bool false)) k) (
 ah 54 f 0 λB=>
 ae k 5 B λC=>
 AO 5 77 C λo=>
 gQ o true (cC i) λI=>
 bM o I λh=>
 gQ h false (an 54 f 0) λG=>
 gQ h false (aF k 5 G) λF=>
 gQ h false (bK env.P .eql 5 (Operand.tmp 84) (.const (.int .u8 3)) (some F) (some (a8 3))) λd=>
 gQ h false (cC d) λj=>
 gQ j true (an 54 f 5) λw=>
 gQ j true (aF k 45 w) λA=>
 gW j true k (eT true k 89 120 [A]) λy n=>
 gQ h false (uD (some j) (some y) (some (AV.v (Value.bool false)))) λE=>
 fv h E λJ=>
 Q J n)))
theorem tx(h : ∀g:gX,aw a H Q):gI Tryz.f96 0 [(0,a)] H Q:=kS (by kernel_rfl) h
def eM:Prop:=
 eX H 1 54 a λc H1=>
 ah 54 c 0 λv2=>
 ae H1 5 v2 λv3=>
 Jz H1 6 27 1 0 v3 λv4 H2=>
 ah 54 c 1 λv5=>
 ae H2 47 v5 λv6=>
 bt false H2 9 106 [v6] λv7 H3=>
 dg H3 10 27 27 v4 v7 λv8 x=>
 ah 54 c 2 λv9=>
 ae x 3 v9 λM=>
 ri 3 13 65536 M λZA=>
 cE x 15 3 5 ZA λZt=>
 ah 54 c 2 λO=>
 ae x 3 O λL=>
 ri 3 17 256 L λZE=>
 o8 3 18 256 ZE λZC=>
 cE x 20 3 5 ZC λZD=>
 ah 54 c 2 λR=>
 ae x 3 R λZs=>
 o8 3 22 256 Zs λZy=>
 cE x 24 3 5 Zy λI=>
 JB x 25 27 3 0 Zt 1 ZD 2 I λT H5=>
 dg H5 26 27 27 v8 T λZv H6=>
 ah 54 c 3 λX=>
 ah 51 X 0 λZw=>
 ae H6 49 Zw λZB=>
 bt true H6 31 107 [ZB] λZz H7=>
 dg H7 32 27 27 Zv Zz λY H8=>
 ah 54 c 3 λW=>
 ah 51 W 1 λN=>
 ae H8 3 N λZu=>
 cE H8 37 3 5 Zu λJ=>
 o7 H8 38 27 1 0 J λK H9=>
 dg H9 39 27 27 Y K λq e=>
 ah 54 c 0 λU=>
 ae e 5 U λV=>
 sg 5 41 V λG=>
 br (some G) (
 ah 54 c 4 λA=>
 ae e 49 A λu=>
 bt true e 45 108 [u] λF d=>
 br (some F) (
 iq (cS env.P true d (Ref.mk 0 47 (ab.gen d 0 47) 0) (some 27) (some 3) q (.v (.int .i64 13))) λn j=>
 ah 54 c 6 λo=>
 ae j 52 o λk=>
 bt true j 56 109 [k] λl s=>
 dg s 57 27 27 n l λh i=>
 ah 54 c 0 λm=>
 ae i 5 m λy=>
 uh 5 59 y λt=>
 br (some t) (
 ah 54 c 5 λC=>
 ae i 45 C λD=>
 rg 47 0 D λz=>
 bt true i 65 106 [z] λw f=>
 Dw f 27 w λE=>
 dg f 67 27 27 h E λB p=>
 Q B p) (
 Q h i)) (
 ah 54 c 4 λn=>
 ae d 49 n λo=>
 bt true d 51 107 [o] λk j=>
 dg j 52 27 27 q k λl s=>
 ah 54 c 6 λh=>
 ae s 52 h λm=>
 bt true s 56 109 [m] λy i=>
 dg i 57 27 27 l y λt f=>
 ah 54 c 0 λC=>
 ae f 5 C λD=>
 uh 5 59 D λz=>
 br (some z) (
 ah 54 c 5 λw=>
 ae f 45 w λE=>
 rg 47 0 E λB=>
 bt true f 65 106 [B] λS p=>
 Dw p 27 S λZ=>
 dg p 67 27 27 t Z λZF Zx=>
 Q ZF Zx) (
 Q t f))) (
 ah 54 c 0 λA=>
 ae e 5 A λu=>
 uh 5 59 u λF=>
 br (some F) (
 ah 54 c 5 λn=>
 ae e 45 n λo=>
 rg 47 0 o λk=>
 bt true e 65 106 [k] λl d=>
 Dw d 27 l λh=>
 dg d 67 27 27 q h λm j=>
 Q m j) (
 Q q e))
theorem rQ(h : ∀g:gX,eM a H Q):gI Tryz.f84 0 [(0,a)] H Q:=kS (by kernel_rfl) h
noncomputable def iB:=xv Tryz.f111 3
def ma:Nat->Option (List Nat):=λi=>cond (Nat.beq i 3) (some [4,0,3,2]) (none)
def me:Prop:=
 gR H 2 47 λd c=>
  dZ env Tryz.f111 0 iB [(4,(.v (.int .i64 1))),(0,a),(3,(.v (.int .i64 0))),(2,d)] c Q
theorem qY(h : ∀g:gX,me a H Q):gI Tryz.f111 0 [(0,a)] H Q:=zk ma (by kernel_rfl) h
def cV(g:Nat->AV)(j a m h:AV)(H:ab)(Q:AV->ab->Prop):Prop:=
 uT 3 5 5 j λp=>
 br (some p) (
 nC 3 256 9 m λk=>
 gf H 27 a j λl=>
 ae H 5 l λf=>
 cE H 15 5 3 f λe=>
 mv 3 10 15 k e λd=>
 kH 3 7 1 j λc=>
  dZ env Tryz.f111 0 iB [(4,c),(0,a),(3,d),(2,h)] H Q) (
 eG H 27 a 0 λk=>
 ae H 5 k λl=>
 cE H 21 3 43 m λf=>
 rh 45 0 l 1 f λe=>
 eG H 27 a 5 λd=>
 ae H 5 d λc=>
 rh 47 0 e 1 c λo=>
 ao H 47 h o λq n=>
 bw n h 47 λi=>
 Q i n)
theorem dI(c a d e:AV)(H:ab)(Q:AV->ab->Prop)(h : ∀g,cV g c a d e H Q):dZ env Tryz.f111 0 iB [(4,c),(0,a),(3,d),(2,e)] H Q:=zY ma (by kernel_rfl) h
noncomputable def fh:=xv Tryz.f112 3
def om:Nat->Option (List Nat):=λi=>cond (Nat.beq i 3) (some [4,0,3,2]) (none)
def ot:Prop:=
 gR H 2 49 λd c=>
  dZ env Tryz.f112 0 fh [(4,(.v (.int .i64 6))),(0,a),(3,(.v (.int .i64 0))),(2,d)] c Q
theorem uL(h : ∀g:gX,ot a H Q):gI Tryz.f112 0 [(0,a)] H Q:=zk om (by kernel_rfl) h
def j4(g:Nat->AV)(f a l e:AV)(H:ab)(Q:AV->ab->Prop):Prop:=
 uT 3 5 13 f λn=>
 br (some n) (
 nC 3 256 9 l λh=>
 gf H 27 a f λi=>
 ae H 5 i λd=>
 cE H 15 5 3 d λj=>
 mv 3 10 15 h j λc=>
 kH 3 7 1 f λm=>
  dZ env Tryz.f112 0 fh [(4,m),(0,a),(3,c),(2,e)] H Q) (
 ew (ca env.P (ab.get H) 27 (some a) (some none) (oi (.v (.int .i64 6))) (some none)) λh=>
 bt true H 19 111 [h] λi o=>
 rh 49 0 i 1 l λd=>
 ao o 49 e d λj k=>
 bw k e 49 λc=>
 Q c k)
theorem mX(c a d e:AV)(H:ab)(Q:AV->ab->Prop)(h : ∀g,j4 g c a d e H Q):dZ env Tryz.f112 0 fh [(4,c),(0,a),(3,d),(2,e)] H Q:=zY om (by kernel_rfl) h
noncomputable def dD:=xv Tryz.f113 5
def nK:Nat->Option (List Nat):=λi=>cond (Nat.beq i 5) (some [5,4,0]) (none)
def nX:Prop:=
 eR H 8 27 a λc=>
 wq 3 8 256 c λd=>
 br (some d) (
 Q (.tup [(.v (.slice none 0 0)),(.v (.int .i64 4))]) H) (
  dZ env Tryz.f113 0 dD [(5,(.v (.int .i64 0))),(4,(.v (.slice none 0 0))),(0,a)] H Q)
theorem tD(h : ∀g:gX,nX a H Q):gI Tryz.f113 0 [(0,a)] H Q:=zk nK (by kernel_rfl) h
def cU(g:Nat->AV)(x5 D a:AV)(H:ab)(Q:AV->ab->Prop):Prop:=
 kH 3 10 3 x5 λI=>
 eR H 13 27 a λM=>
 kb 3 11 13 I M λN=>
 br (some N) (
 gf H 27 a x5 λA=>
 ae H 5 A λw=>
 cE H 21 5 3 w λu=>
 nC 3 16777216 21 u λG=>
 kH 3 24 1 x5 λJ=>
 gf H 27 a J λK=>
 ae H 5 K λm=>
 cE H 28 5 3 m λt=>
 nC 3 65536 28 t λF=>
 mv 3 22 29 G F λp=>
 kH 3 32 2 x5 λj=>
 gf H 27 a j λB=>
 ae H 5 B λy=>
 cE H 36 5 3 y λz=>
 nC 3 256 36 z λq=>
 mv 3 30 37 p q λE=>
 kH 3 40 3 x5 λs=>
 gf H 27 a s λi=>
 ae H 5 i λx=>
 cE H 44 5 3 x λk=>
 mv 3 38 44 E k λe=>
 wo 3 46 4294967295 e λl=>
 br (some l) (
 iq (jX env.P false true H (Ref.mk 0 49 (ab.gen H 0 49) 0) 52 1 (some [(0,(.v (.int .i32 (-1))))])) λd h=>
 dg h 50 52 52 D d λc n=>
 kH 3 15 4 x5 λf=>
  dZ env Tryz.f113 0 dD [(5,f),(4,c),(0,a)] n Q) (
 bt true H 52 134 [e] λd h=>
 br (some d) (
 cE h 55 3 21 e λc=>
 o7 h 56 52 1 0 c λf n=>
 dg n 57 52 52 D f λC L=>
 kH 3 15 4 x5 λo=>
  dZ env Tryz.f113 0 dD [(5,o),(4,C),(0,a)] L Q) (
 Q (.tup [(.v (.slice none 0 0)),(.v (.int .i64 8))]) h))) (
 eR H 59 27 a λA=>
 o8 3 59 4 A λw=>
 lf 3 60 0 w λu=>
 br (some u) (
 Q (.tup [(.v (.slice none 0 0)),(.v (.int .i64 8))]) H) (
 Q (.tup [D,(.v (.int .i64 0))]) H))
theorem gy(x5 c a:AV)(H:ab)(Q:AV->ab->Prop)(h : ∀g,cU g x5 c a H Q):dZ env Tryz.f113 0 dD [(5,x5),(4,c),(0,a)] H Q:=zY nK (by kernel_rfl) h
def kQ:Prop:=
 eX H 1 47 a λf e=>
 ah 47 f 0 λk=>
 ae e 45 k λm=>
 bt true e 5 120 [m] λc d=>
 gQ c true (an 47 f 1) λj=>
 gQ c true (aF d 5 j) λi=>
 gQ c true (bK env.P .lss 5 (Operand.tmp 8) (.const (.int .u8 8)) (some i) (some (a8 8))) λh=>
 bM c h λl=>
 Q l d
theorem pA(h : ∀g:gX,kQ a H Q):gI Tryz.f95 0 [(0,a)] H Q:=kS (by kernel_rfl) h
def ek:Prop:=
 eX H 1 51 a λd t=>
 ah 51 d 0 λz=>
 ae t 49 z λA=>
 bt true t 5 122 [A] λh e=>
 gQ h true (an 51 d 1) λx=>
 gQ h true (aF e 3 x) λw=>
 gQ h true (pO 3 8 1 w) λu=>
 bM h u λf=>
 gQ f true (an 51 d 1) λy=>
 gQ f true (aF e 3 y) λn=>
 gQ f true (wj 3 13 64 n) λi=>
 bM f i λc=>
 gQ c true (an 51 d 0) λo=>
 gQ c true (an 49 o 1) λl=>
 gQ c true (aF e 3 l) λm=>
 gQ c true (an 51 d 1) λj=>
 gQ c true (aF e 3 j) λk=>
 gQ c true (bK env.P .sub 3 (Operand.const (Value.int IntKind.i64 1099511627777)) (Operand.tmp 21) (some (AV.v (Value.int IntKind.i64 1099511627777))) (some k)) λp=>
 gQ c true (bK env.P .leq 3 (Operand.tmp 19) (Operand.tmp 22) (some m) (some p)) λq=>
 bM c q λs=>
 Q s e
theorem qA(h : ∀g:gX,ek a H Q):gI Tryz.f121 0 [(0,a)] H Q:=kS (by kernel_rfl) h
def nr:Prop:=
 eX H 1 49 a λf c=>
 ae c 49 f λh=>
 fa 49 λe=>
 ug 49 3 4 h e λd=>
 Q d c
theorem sD(h : ∀g:gX,nr a H Q):gI Tryz.f108 0 [(0,a)] H Q:=kS (by kernel_rfl) h
def nW:Prop:=
 eX H 1 49 a λi k=>
 ah 49 i 0 λo=>
 ae k 47 o λq=>
 bt true k 5 95 [q] λd e=>
 gQ d true (an 49 i 1) λn=>
 gQ d true (aF e 3 n) λm=>
 gQ d true (pO 3 8 1 m) λl=>
 bM d l λc=>
 gQ c true (an 49 i 1) λp=>
 gQ c true (aF e 3 p) λf=>
 gQ c true (wj 3 13 1099511627776 f) λh=>
 bM c h λj=>
 Q j e
theorem tC(h : ∀g:gX,nW a H Q):gI Tryz.f122 0 [(0,a)] H Q:=kS (by kernel_rfl) h
noncomputable def fJ:=xv Tryz.f123 4
def mF:Nat->Option (List Nat):=λi=>cond (Nat.beq i 4) (some [3,0]) (none)
def jG:Prop:=
 eR H 5 52 a λc=>
 wq 3 5 64 c λd=>
 br (some d) (
 Q (.v (.int .i64 4)) H) (
  dZ env Tryz.f123 0 fJ [(3,(.v (.int .i64 0))),(0,a)] H Q)
theorem rU(h : ∀g:gX,jG a H Q):gI Tryz.f123 0 [(0,a)] H Q:=zk mF (by kernel_rfl) h
def eu(g:Nat->AV)(d a:AV)(H:ab)(Q:AV->ab->Prop):Prop:=
 eR H 9 52 a λq=>
 kb 3 7 9 d q λs=>
 br (some s) (
 gf H 52 a d λt=>
 ae H 21 t λp=>
 Q2 21 16 p λc=>
 gQ c true (cC a) λm=>
 gQ c true (cC d) λl=>
 gQ c true (bE env.P (ab.get H) 52 (some m) (some l)) λn=>
 gQ c true (aF H 21 n) λo=>
 gQ c true (xI H 23 21 3 o) λh=>
 gW c true H (eT true H 24 134 [h]) λe k=>
 gQ c true (xH e) λj=>
 bM c j λi=>
 br (some i) (
 Q (.v (.int .i64 8)) k) (
 kH 3 11 1 d λf=>
  dZ env Tryz.f123 0 fJ [(3,f),(0,a)] k Q)) (
 Q (.v (.int .i64 0)) H)
theorem lx(c a:AV)(H:ab)(Q:AV->ab->Prop)(h : ∀g,eu g c a H Q):dZ env Tryz.f123 0 fJ [(3,c),(0,a)] H Q:=zY mF (by kernel_rfl) h
def nY:Prop:=
 eX H 1 45 a λf c=>
 ah 45 f 0 λh=>
 ae c 5 h λe=>
 ew (bK env.P .leq 5 (Operand.tmp 4) (.const (.int .u8 15)) (some e) (some (a8 15))) λd=>
 Q d c
theorem tE(h : ∀g:gX,nY a H Q):gI Tryz.f120 0 [(0,a)] H Q:=kS (by kernel_rfl) h
def mM:Prop:=
 eX H 1 47 a λf m=>
 ah 47 f 0 λx=>
 ah 45 x 0 λy=>
 ae m 5 y λt=>
 Jz m 7 27 1 0 t λp h=>
 ah 47 f 0 λo=>
 ah 45 o 1 λn=>
 ae h 43 n λq=>
 cE h 11 43 3 q λs=>
 bt false h 12 133 [s,(.v (.int .i64 4))] λi u=>
 dg u 13 27 27 p i λc l=>
 ah 47 f 1 λk=>
 ae l 5 k λj=>
 o7 l 17 27 1 0 j λd w=>
 dg w 18 27 27 c d λe z=>
 Q e z
theorem rS(h : ∀g:gX,mM a H Q):gI Tryz.f106 0 [(0,a)] H Q:=kS (by kernel_rfl) h
def mN:Prop:=
 eX H 1 49 a λe d=>
 ah 49 e 0 λl=>
 ae d 47 l λo=>
 bt false d 5 106 [o] λn c=>
 ah 49 e 1 λj=>
 ae c 3 j λi=>
 bt false c 8 133 [i,(.v (.int .i64 7))] λf h=>
 dg h 9 27 27 n f λm k=>
 Q m k
theorem rT(h : ∀g:gX,mN a H Q):gI Tryz.f107 0 [(0,a)] H Q:=kS (by kernel_rfl) h
noncomputable def eD:=xv Tryz.f109 3
def ni:Nat->Option (List Nat):=λi=>cond (Nat.beq i 3) (some [4,3,0]) (none)
def nw:Prop:=
 dZ env Tryz.f109 0 eD [(4,(.v (.int .i64 0))),(3,(.v (.slice none 0 0))),(0,a)] H Q
theorem sH(h : ∀g:gX,nw a H Q):gI Tryz.f109 0 [(0,a)] H Q:=zk ni (by kernel_rfl) h
def du(g:Nat->AV)(o u a:AV)(H:ab)(Q:AV->ab->Prop):Prop:=
 eR H 8 52 a λz=>
 kb 3 6 8 o z λA=>
 br (some A) (
 gf H 52 a o λB=>
 ae H 21 B λy=>
 cE H 16 21 3 y λn=>
 uT 3 17 0 n λx=>
 br (some x) (
 Mh 3 20 16777216 4294967295 λp=>
 cE H 22 3 5 p λq=>
 Mh 3 23 65536 4294967295 λs=>
 o8 3 24 256 s λi=>
 cE H 26 3 5 i λc=>
 Mh 3 27 256 4294967295 λm=>
 o8 3 28 256 m λj=>
 cE H 30 3 5 j λf=>
 ew (bK env.P .rem 3 (Operand.tmp 31) (Operand.const (Value.int IntKind.i64 256)) (some (AV.v (Value.int IntKind.i64 4294967295))) (some (AV.v (Value.int IntKind.i64 256)))) λh=>
 cE H 33 3 5 h λd=>
 JD H 34 27 4 0 q 1 c 2 f 3 d λe w=>
 dg w 35 27 27 u e λk t=>
 kH 3 10 1 o λl=>
  dZ env Tryz.f109 0 eD [(4,l),(3,k),(0,a)] t Q) (
 ri 3 20 16777216 n λp=>
 cE H 22 3 5 p λq=>
 ri 3 23 65536 n λs=>
 o8 3 24 256 s λi=>
 cE H 26 3 5 i λc=>
 ri 3 27 256 n λm=>
 o8 3 28 256 m λj=>
 cE H 30 3 5 j λf=>
 o8 3 31 256 n λh=>
 cE H 33 3 5 h λd=>
 JD H 34 27 4 0 q 1 c 2 f 3 d λe w=>
 dg w 35 27 27 u e λk t=>
 kH 3 10 1 o λl=>
  dZ env Tryz.f109 0 eD [(4,l),(3,k),(0,a)] t Q)) (
 Q u H)
theorem lX(c d a:AV)(H:ab)(Q:AV->ab->Prop)(h : ∀g,du g c d a H Q):dZ env Tryz.f109 0 eD [(4,c),(3,d),(0,a)] H Q:=zY ni (by kernel_rfl) h
def ou:Prop:=
 xJ 3 3 0 a λh=>
 gQ h true (cC a) λk=>
 gQ h true (wj 3 6 1114111 k) λn=>
 bM h n λc=>
 gQ c true (cC a) λj=>
 gQ c true (uS 3 10 55296 j) λi=>
 gQ c true (cC i) λd=>
 gQ d false (cC a) λl=>
 gQ d false (Dx 3 13 57343 l) λm=>
 gQ c true (Mf d m) λe=>
 bM c e λf=>
 Q f H
theorem uM(h : ∀g:gX,ou a H Q):gI Tryz.f134 0 [(0,a)] H Q:=kS (by kernel_rfl) h
noncomputable def je:=xv Tryz.f133 3
def nh:Nat->Option (List Nat):=λi=>cond (Nat.beq i 3) (some [6,0,5,1]) (none)
def j6:Prop:=
 dZ env Tryz.f133 0 je [(6,(.v (.int .i64 0))),(0,a),(5,(.v (.slice none 0 0))),(1,b)] H Q
theorem mY(h : ∀g:gX,j6 a b H Q):gI Tryz.f133 0 [(0,a),(1,b)] H Q:=zk nh (by kernel_rfl) h
def aD(g:Nat->AV)(c a x5 b:AV)(H:ab)(Q:AV->ab->Prop):Prop:=
 kb 3 7 8 c b λi=>
 br (some i) (
 o8 3 12 256 a λk=>
 cE H 14 3 5 k λm=>
 o7 H 15 27 1 0 m λh l=>
 dg l 17 27 27 h x5 λf j=>
 ri 3 18 256 a λe=>
 kH 3 10 1 c λd=>
  dZ env Tryz.f133 0 je [(6,d),(0,e),(5,f),(1,b)] j Q) (
 Q x5 H)
theorem aK(c a x5 b:AV)(H:ab)(Q:AV->ab->Prop)(h : ∀g,aD g c a x5 b H Q):dZ env Tryz.f133 0 je [(6,c),(0,a),(5,x5),(1,b)] H Q:=zY nh (by kernel_rfl) h
def j1:Prop:=
 eX H 2 60 a λi F=>
 eX F 3 60 b λk f=>
 ah 60 i 0 λM=>
 ae f 5 M λL=>
 ah 60 k 0 λI=>
 ae f 5 I λG=>
 ug 5 6 8 L G λh=>
 gQ h true (an 60 i 1) λJ=>
 gQ h true (aF f 3 J) λK=>
 gQ h true (an 60 k 1) λp=>
 gQ h true (aF f 3 p) λv=>
 gQ h true (iI 3 12 14 K v) λE=>
 bM h E λd=>
 gQ d true (an 60 i 2) λn=>
 gQ d true (aF f 54 n) λA=>
 gQ d true (an 60 k 2) λy=>
 gQ d true (aF f 54 y) λz=>
 gW d true f (eT true f 22 45 [A,z]) λs j=>
 bM d s λe=>
 gQ e true (an 60 i 3) λt=>
 gQ e true (aF j 22 t) λl=>
 gQ e true (an 60 k 3) λx=>
 gQ e true (aF j 22 x) λo=>
 gQ e true (iI 22 26 28 l o) λC=>
 bM e C λc=>
 gQ c true (an 60 i 4) λw=>
 gQ c true (aF j 58 w) λu=>
 gQ c true (an 60 k 4) λD=>
 gQ c true (aF j 58 D) λB=>
 gQ c true (iI 58 33 35 u B) λq=>
 bM c q λm=>
 Q m j
theorem By(h : ∀g:gX,j1 a b H Q):gI Tryz.f32 0 [(0,a),(1,b)] H Q:=kS (by kernel_rfl) h
def pL:Prop:=
 eX H 1 60 a λp f=>
 ae f 60 p λl=>
 rg 106 0 l λo=>
 bt true f 9 46 [o] λh c=>
 bm h 0 λk=>
 bm h 1 λj=>
 mu j λi=>
 br (some i) (
 Q (.tup [(.v (.int .i64 0)),(.v (.int .i64 8))]) c) (
 eR c 15 27 k λm=>
 kH 3 15 119 m λn=>
 AP 3 16 1 n λd=>
 ri 3 17 119 d λe=>
 Q (.tup [e,(.v (.int .i64 0))]) c)
theorem Ar(h : ∀g:gX,pL a H Q):gI Tryz.f25 0 [(0,a)] H Q:=kS (by kernel_rfl) h
def bN:Prop:=
 eX H 1 106 a λd H1=>
 ah 106 d 0 λv2=>
 ah 60 v2 0 λv3=>
 ae H1 5 v3 λv4=>
 rg 60 0 v4 λv5=>
 gR H1 4 60 λS H2=>
 ao H2 60 S v5 λv7 M=>
 ah 106 d 0 λv8=>
 ah 60 v8 0 λv9=>
 ae M 5 v9 λW=>
 sg 5 12 W λZK=>
 br (some ZK) (
 ah 106 d 0 λZz=>
 ah 60 Zz 2 λG=>
 ah 54 G 1 λn=>
 ae M 47 n λu=>
 ah 106 d 0 λt=>
 ah 60 t 1 λj=>
 ae M 3 j λx=>
 ah 60 S 2 λh=>
 ah 54 h 1 λl=>
 ao M 47 l u λe T=>
 ah 60 S 1 λk=>
 ao T 3 k x λA p=>
  oP [(j,l)] [l,k] [] p /\
 (ah 106 d 0 λo=>
 ah 60 o 2 λq=>
 ah 54 q 1 λm=>
 ae p 47 m λR=>
 bt true p 30 89 [R] λz C=>
 bm z 0 λL=>
 bm z 1 λF=>
 ah 106 d 0 λN=>
 ah 60 N 1 λc=>
 ae C 3 c λE=>
 xJ 3 35 0 E λi=>
 gQ i true (an 106 d 0) λJ=>
 gQ i true (an 60 J 1) λK=>
 gQ i true (aF C 3 K) λf=>
 gQ i true (wj 3 40 255 f) λZy=>
 bM i Zy λD=>
 ah 106 d 0 λZE=>
 ah 60 ZE 1 λZv=>
 ae C 3 Zv λO=>
 cE C 47 3 5 O λU=>
 o7 C 48 27 1 0 U λY w=>
 dg w 49 27 27 L Y λZs H8=>
 ah 106 d 0 λZ=>
 ah 60 Z 0 λZu=>
 ae H8 5 Zu λZF=>
 o7 H8 111 27 1 0 ZF λZB H9=>
 dg H9 113 27 27 ZB Zs λZC B=>
 gQ D true (cC F) λZw=>
 gQ D true (uQ 22 116 0 Zw) λV=>
 bM D V λs=>
 gQ s true (an 106 d 0) λZA=>
 gQ s true (aF B 60 ZA) λX=>
 gQ s true (aF B 60 S) λZx=>
 gW s true B (eT true B 123 32 [X,Zx]) λZD y=>
 bM s ZD λZt=>
 Q (.tup [ZC,Zt]) y)) (
 AO 5 12 W λZz=>
 br (some Zz) (
 ah 106 d 0 λG=>
 ah 60 G 2 λn=>
 ae M 54 n λu=>
 ah 106 d 0 λt=>
 ah 60 t 3 λj=>
 ae M 22 j λx=>
 ah 60 S 2 λh=>
 ao M 54 h u λl T=>
 ah 60 S 3 λe=>
 ao T 22 e x λk p=>
  oP [(j,h)] [h,e] [] p /\
 (ah 106 d 0 λA=>
 ah 60 A 2 λo=>
 ae p 54 o λq=>
 bt true p 64 90 [q] λm C=>
 bm m 0 λR=>
 bm m 1 λz=>
 ah 106 d 0 λL=>
 ah 60 L 2 λF=>
 ae C 54 F λN=>
 bt true C 70 69 [N] λc w=>
 gQ c true (an 106 d 0) λE=>
 gQ c true (an 60 E 3) λi=>
 gQ c true (aF w 22 i) λJ=>
 gQ c true (pO 22 74 0 J) λK=>
 bM c K λf=>
 gQ f true (an 106 d 0) λZy=>
 gQ f true (an 60 Zy 3) λD=>
 gQ f true (aF w 22 D) λZE=>
 gQ f true (uS 22 80 65536 ZE) λZv=>
 bM f Zv λO=>
 ah 106 d 0 λU=>
 ah 60 U 3 λY=>
 ae w 22 Y λZs=>
 Mg 22 85 Zs λZ=>
 cE w 87 22 5 Z λZu=>
 ah 106 d 0 λZF=>
 ah 60 ZF 3 λZB=>
 ae w 22 ZB λZC=>
 cE w 91 22 5 ZC λZw=>
 iq (jX env.P false true w (Ref.mk 0 92 (ab.gen w 0 92) 0) 27 2 (some [(0,Zu),(1,Zw)])) λV H8=>
 dg H8 94 27 27 V R λs H9=>
 ah 106 d 0 λZA=>
 ah 60 ZA 0 λX=>
 ae H9 5 X λZx=>
 o7 H9 111 27 1 0 Zx λZD B=>
 dg B 113 27 27 ZD s λZt y=>
 gQ O true (cC z) λZO=>
 gQ O true (uQ 22 116 0 ZO) λZN=>
 bM O ZN λI=>
 gQ I true (an 106 d 0) λZM=>
 gQ I true (aF y 60 ZM) λZI=>
 gQ I true (aF y 60 S) λZJ=>
 gW I true y (eT true y 123 32 [ZI,ZJ]) λZG ZL=>
 bM I ZG λZH=>
 Q (.tup [Zt,ZH]) ZL)) (
 uh 5 12 W λG=>
 br (some G) (
 ah 106 d 0 λn=>
 ah 60 n 4 λu=>
 ae M 58 u λt=>
 ah 60 S 4 λj=>
 ao M 58 j t λx T=>
 ah 106 d 0 λh=>
 ah 60 h 4 λl=>
 ae T 58 l λe=>
 bt true T 105 91 [e] λk p=>
 bm k 0 λA=>
 bm k 1 λo=>
 ah 106 d 0 λq=>
 ah 60 q 0 λm=>
 ae p 5 m λR=>
 o7 p 111 27 1 0 R λz C=>
 dg C 113 27 27 z A λL w=>
 gQ (.v (.bool true)) true (cC o) λF=>
 gQ (.v (.bool true)) true (uQ 22 116 0 F) λN=>
 ew (uD (some (AV.v (Value.bool true))) (some N) (some (AV.v (Value.bool false)))) λc=>
 gQ c true (an 106 d 0) λE=>
 gQ c true (aF w 60 E) λi=>
 gQ c true (aF w 60 S) λJ=>
 gW c true w (eT true w 123 32 [i,J]) λK H8=>
 bM c K λf=>
 Q (.tup [L,f]) H8) (
 ah 106 d 0 λn=>
 ah 60 n 0 λu=>
 ae M 5 u λt=>
 o7 M 111 27 1 0 t λj T=>
 iq (cS env.P true T (Ref.mk 0 113 (ab.gen T 0 113) 0) (some 27) (some 27) j (.v (.slice none 0 0))) λx p=>
 gQ (.v (.bool false)) true (gJ (some (AV.v (Value.int IntKind.i64 0)))) λh=>
 gQ (.v (.bool false)) true (uQ 22 116 0 h) λl=>
 ew (uD (some (AV.v (Value.bool false))) (some l) (some (AV.v (Value.bool false)))) λe=>
 gQ e true (an 106 d 0) λk=>
 gQ e true (aF p 60 k) λA=>
 gQ e true (aF p 60 S) λo=>
 gW e true p (eT true p 123 32 [A,o]) λq C=>
 bM e q λm=>
 Q (.tup [x,m]) C)))
theorem nA(h : ∀g:gX,bN a H Q):gI Tryz.f46 0 [(0,a)] H Q:=kS (by kernel_rfl) h
def ud:Prop:=
 eX H 1 58 a λt z=>
 ae z 58 t λF=>
 bt true z 9 119 [F] λA u=>
 lf 22 10 0 A λE=>
 br (some E) (
 Q (.tup [(.v (.slice none 0 0)),A]) u) (
 ah 58 t 1 λD=>
 ah 56 D 1 λC=>
 ae u 4 C λB=>
 br (some B) (
 ah 58 t 1 λw=>
 ah 56 w 0 λx=>
 ae u 45 x λn=>
 rg 47 0 n λf=>
 bt true u 21 89 [f] λd e=>
 bm d 0 λc=>
 bm d 1 λl=>
 ah 58 t 0 λm=>
 ae e 3 m λj=>
 cE e 26 3 5 j λk=>
 iq (jX env.P true false e (Ref.mk 0 28 (ab.gen e 0 28) 0) 27 2 (some [(0,k),(1,(a8 1))])) λo p=>
 eR p 31 27 c λq=>
 AP 3 31 1 q λs=>
 Du p 27 c s λh=>
 dg p 34 27 27 o h λi y=>
 Q (.tup [i,l]) y) (
 ah 58 t 1 λw=>
 ah 56 w 0 λx=>
 ae u 45 x λn=>
 rg 47 0 n λf=>
 bt true u 21 89 [f] λd e=>
 bm d 0 λc=>
 bm d 1 λl=>
 ah 58 t 0 λm=>
 ae e 3 m λj=>
 cE e 26 3 5 j λk=>
 iq (jX env.P true false e (Ref.mk 0 28 (ab.gen e 0 28) 0) 27 2 (some [(0,k),(1,(a8 0))])) λo p=>
 eR p 31 27 c λq=>
 AP 3 31 1 q λs=>
 Du p 27 c s λh=>
 dg p 34 27 27 o h λi y=>
 Q (.tup [i,l]) y))
theorem EP(h : ∀g:gX,ud a H Q):gI Tryz.f91 0 [(0,a)] H Q:=kS (by kernel_rfl) h
def qV:Prop:=
 eX H 1 58 a λh j=>
 ah 58 h 1 λG=>
 ah 56 G 1 λI=>
 ae j 4 I λf=>
 gQ f false (an 58 h 1) λD=>
 gQ f false (an 56 D 0) λC=>
 gQ f false (aF j 45 C) λB=>
 gW f false j (eT false j 11 141 []) λE i=>
 gQ f false (iI 45 10 11 B E) λF=>
 fv f F λu=>
 ah 58 h 0 λk=>
 ae i 3 k λz=>
 uT 3 15 0 z λd=>
 gQ d false (an 58 h 0) λp=>
 gQ d false (aF i 3 p) λs=>
 gQ d false (pO 3 19 8 s) λo=>
 fv d o λc=>
 gQ c false (an 58 h 1) λw=>
 gQ c false (an 56 w 0) λx=>
 gQ c false (aF i 45 x) λy=>
 gW c false i (eT true i 26 136 [y]) λl A=>
 gQ c false (uR 22 26 0 l) λn=>
 fv c n λe=>
 gQ e false (cC u) λt=>
 gQ e false (xH t) λq=>
 fv e q λm=>
 br (some m) (
 Q (.v (.int .i64 8)) A) (
 Q (.v (.int .i64 0)) A)
theorem BD(h : ∀g:gX,qV a H Q):gI Tryz.f119 0 [(0,a)] H Q:=kS (by kernel_rfl) h
end
section
variable(dep:Nat)(g:Nat->AV)(a c b:AV)(H:ab)(Q:AV->ab->Prop)
noncomputable def Ds:Code:=(Tryz.f21.body).getD .skip
noncomputable def ib:List Item:=(jg 10008 400 [.code Ds]).getD []
noncomputable def aM:Code:=Zk ib
noncomputable def aL:Code:=Zj ib
noncomputable def pV:List Item:=Zi ib
def rX:Nat->Option (List Nat):=λi=>cond (Nat.beq i 10008) (some [34,6,10,5,4]) (none)
def wR:Nat->Bool:=λi=>false
def o4:Prop:=
 eX H 3 60 a λA G=>
 eX G 4 3 c λC F=>
 eX F 5 3 b λD N=>
 gR N 6 61 λj B=>
 ae B 60 A λI=>
 rg 106 0 I λJ=>
 bt true B 17 46 [J] λy w=>
 bm y 0 λK=>
 bm y 1 λM=>
 mu M λn=>
 br (some n) (
 FJ w 61 j λi l=>
 bw l j 61 λe=>
 Q (.tup [e,(.v (.int .i64 8))]) l) (
 ae w 60 A λi=>
 bt true w 24 25 [i] λe l=>
 bm e 0 λo=>
 bm e 1 λE=>
 gR l 10 3 λf O=>
 ao O 3 f o λL k=>
 ae k 3 C λt=>
 ae k 3 D λp=>
 ae k 3 f λx=>
 ew (kW env.P 69 (some [(0,t),(1,p),(3,x)])) λq=>
 bt true k 31 47 [q] λm z=>
 mu m λs=>
 br (some s) (
 FJ z 61 j λh d=>
 bw d j 61 λu=>
 Q (.tup [u,(.v (.int .i64 2))]) d) (
 bt true z 34 48 [K,(.v (.int .i64 119))] λh d=>
  dZ env Tryz.f21 0 ib [(34,h),(6,j),(10,f),(5,D),(4,C)] d Q))
theorem C8(h : ∀g:gX,o4 a c b H Q):gI Tryz.f21 0 [(0,a),(1,c),(2,b)] H Q:=zk rX (by kernel_rfl) h
def pz(g:Nat->AV)(d:AV)(H:ab)(Q:AV->ab->Prop):Prop:=
 ae H 61 d λh=>
 ao H 61 d h λi e=>
 bw e d 61 λf=>
 Q (.tup [f,(.v (.int .i64 0))]) e
theorem vf(d:AV)(H:ab)(Q:AV->ab->Prop)(h : ∀g,pz g d H Q):dZ env Tryz.f21 0 pV [(6,d)] H Q:=⟨λg=>pU (live:=rX) (cut:=wR) (n:=500) (Eq.mp (by kernel_rfl) (h g))⟩
def im(r:Ref)(g:Nat->AV)(h p x5 L s:AV)(H:ab)(Q:AV->ab->Prop):Prop:=
 YJ (sU H r) λo=>
 ew (lz env.P (ab.get (ab.put H r (some (c9 1 o)))) 3 (some L)) λM=>
 iq (aT env false (au env) (dA env 2) (ab.put H r (some (c9 1 o))) (⟨2,37,ab.gen (ab.put H r (some (c9 1 o))) 2 37,0⟩:Ref) (some (.fn (.func 50) [] [])) [M,(.v (.int .i64 4))]) λN m=>
 ae m 3 x5 λK=>
 iq (aT env false (au env) (dA env 2) m (⟨2,39,ab.gen m 2 39,0⟩:Ref) (some (.fn (.func 50) [] [])) [K,(.v (.int .i64 3))]) λF d=>
 ae d 61 h λG=>
 ew (cW env.P false (ab.get d) (⟨2,41,ab.gen d 2 41,0⟩:Ref) .len #[61] [G]) λC=>
 ew (bC env.P (ab.get d) (⟨2,42,ab.gen d 2 42,0⟩:Ref) 3 5 (some C)) λI=>
 ae d 3 p λJ=>
 ew (bC env.P (ab.get d) (⟨2,44,ab.gen d 2 44,0⟩:Ref) 3 5 (some J)) λk=>
 iq (jX env.P true false d (⟨2,45,ab.gen d 2 45,0⟩:Ref) 27 2 (some [(0,I),(1,k)])) λn A=>
 iq (jX env.P true false A (⟨2,47,ab.gen A 2 47,0⟩:Ref) 61 4 (some [(0,N),(1,F),(2,n),(3,s)])) λw y=>
 iq (aT env false (au env) (dA env 2) y (⟨2,48,ab.gen y 2 48,0⟩:Ref) (some (.fn (.func 49) [] [])) [w]) λe i=>
 ae i 61 h λj=>
 ew (cW env.P false (ab.get i) (⟨2,52,ab.gen i 2 52,0⟩:Ref) .len #[27] [e]) λt=>
 Rc 3 128 52 t λq=>
 iq (cS env.P true i (⟨2,54,ab.gen i 2 54,0⟩:Ref) (some 27) (some 3) e q) λf z=>
 iq (jX env.P true true z (⟨2,55,ab.gen z 2 55,0⟩:Ref) 61 1 (some [(0,f)])) λl B=>
 iq (cS env.P true B (⟨2,56,ab.gen B 2 56,0⟩:Ref) (some 61) (some 61) j l) λu D=>
 ao D 61 h u λE x=>
  oP [(h,e),(h,f)] [h] [f] x /\
 (Q (.v (.int .i64 0)) x)
theorem wc(r:Ref)(i d x5 f e:AV)(H:ab)(Q:AV->ab->Prop)(h : ∀g,im r g i d x5 f e H Q):Pg env Tryz.f21 (some r) 2 [.code aM,.beginRound,.code aL] [(6,i),(10,d),(5,x5),(4,f),(35,e)] H Q:=⟨λg=>pU (live:=rX) (cut:=wR) (n:=500) (Eq.mp (by kernel_rfl) (h g))⟩
def nU:Prop:=
 gR H 2 69 λi l=>
 eR l 6 27 a λI=>
 lf 3 6 128 I λJ=>
 br (some J) (
 fa 69 λq=>
 ao l 69 i q λA j=>
 bw j i 69 λo=>
 Q (.tup [o,(.v (.int .i64 8))]) j) (
 ew (ca env.P (ab.get l) 27 (some a) (some none) (oi (.v (.int .i64 4))) (some none)) λq=>
 bt false l 11 61 [q] λA j=>
 ew (ca env.P (ab.get j) 27 (some a) (oi (.v (.int .i64 4))) (oi (.v (.int .i64 7))) (some none)) λo=>
 bt false j 14 61 [o] λC f=>
 eG f 27 a 7 λD=>
 ae f 5 D λF=>
 cE f 18 5 3 F λt=>
 eG f 27 a 8 λm=>
 ae f 5 m λy=>
 cE f 22 5 3 y λu=>
 ew (kW env.P 69 (some [(0,A),(1,C),(2,t),(3,u)])) λs=>
 gR f 4 69 λe G=>
 ao G 69 e s λE B=>
 ae B 69 e λp=>
 bt true B 25 47 [p] λw z=>
 mu w λx=>
 br (some x) (
 fa 69 λh=>
 ao z 69 i h λn k=>
 bw k i 69 λd=>
 Q (.tup [d,(.v (.int .i64 8))]) k) (
 ae z 69 e λh=>
 ao z 69 i h λn k=>
 bw k i 69 λd=>
 Q (.tup [d,(.v (.int .i64 0))]) k))
theorem Bz(h : ∀g:gX,nU a H Q):gI Tryz.f33 0 [(0,a)] H Q:=kS (by kernel_rfl) h
def uJ:Prop:=
 eX H 1 60 a λl e=>
 ae e 60 l λj=>
 rg 106 0 j λk=>
 bt true e 8 46 [k] λf d=>
 bm f 0 λm=>
 bm f 1 λi=>
 mu i λh=>
 br (some h) (
 Q (.v (.int .i64 8)) d) (
 Q (.v (.int .i64 0)) d)
theorem As(h : ∀g:gX,uJ a H Q):gI Tryz.f30 0 [(0,a)] H Q:=kS (by kernel_rfl) h
def wT:Prop:=
 eX H 1 69 a λf e=>
 ah 69 f 0 λN=>
 ae e 3 N λO=>
 xJ 3 4 1 O λm=>
 gQ m true (an 69 f 0) λL=>
 gQ m true (aF e 3 L) λK=>
 gQ m true (uS 3 8 2147483648 K) λJ=>
 bM m J λl=>
 gQ l true (an 69 f 1) λM=>
 gQ l true (aF e 3 M) λw=>
 gQ l true (pO 3 13 1 w) λB=>
 bM l B λk=>
 gQ k true (an 69 f 1) λy=>
 gQ k true (aF e 3 y) λs=>
 gQ k true (uS 3 18 16777216 s) λF=>
 bM k F λi=>
 gQ i true (an 69 f 3) λE=>
 gQ i true (aF e 3 E) λz=>
 gQ i true (pO 3 23 1 z) λI=>
 bM i I λh=>
 gQ h true (an 69 f 3) λn=>
 gQ h true (aF e 3 n) λD=>
 gQ h true (wj 3 28 4 D) λt=>
 bM h t λj=>
 gQ j true (an 69 f 2) λu=>
 gQ j true (aF e 3 u) λC=>
 gQ j true (pO 3 33 0 C) λA=>
 bM j A λd=>
 gQ d true (an 69 f 2) λG=>
 gQ d true (aF e 3 G) λx=>
 gQ d true (an 69 f 3) λp=>
 gQ d true (aF e 3 p) λo=>
 gQ d true (Jx 3 38 40 x o) λq=>
 bM d q λv=>
 Q v e
theorem C7(h : ∀g:gX,wT a H Q):gI Tryz.f47 0 [(0,a)] H Q:=kS (by kernel_rfl) h
noncomputable def mS:=xv Tryz.f50 2
def sT:Nat->Option (List Nat):=λi=>cond (Nat.beq i 2) (some [5,0,4]) (none)
def oT:Prop:=
 AP 3 6 1 c λd=>
  dZ env Tryz.f50 0 mS [(5,d),(0,a),(4,(.v (.slice none 0 0)))] H Q
theorem sv(h : ∀g:gX,oT a c H Q):gI Tryz.f50 0 [(0,a),(1,c)] H Q:=zk sT (by kernel_rfl) h
def cT(g:Nat->AV)(x5 a d:AV)(H:ab)(Q:AV->ab->Prop):Prop:=
 xJ 3 8 0 x5 λj=>
 br (some j) (
 nC 3 8 14 x5 λl=>
 ew (bK env.P .shr 3 (Operand.tmp 13) (Operand.tmp 15) (some a) (some l)) λn=>
 cE H 17 3 5 n λi=>
 o7 H 18 27 1 0 i λh m=>
 dg m 19 27 27 d h λf k=>
 AP 3 10 1 x5 λe=>
  dZ env Tryz.f50 0 mS [(5,e),(0,a),(4,f)] k Q) (
 Q d H)
theorem dv(x5 a d:AV)(H:ab)(Q:AV->ab->Prop)(h : ∀g,cT g x5 a d H Q):dZ env Tryz.f50 0 mS [(5,x5),(0,a),(4,d)] H Q:=zY sT (by kernel_rfl) h
noncomputable def bh:=xv Tryz.f56 4
def dM:Nat->Option (List Nat):=λi=>cond (Nat.beq i 4) (some [17,2,1,15,16]) (none)
def cg:Prop:=
 eR H 11 61 a λf=>
 eR H 13 61 c λh=>
 zP 3 11 13 f h λe=>
 br (some e) (
 Q (.v (.bool false)) H) (
 eR H 16 61 a λd=>
  dZ env Tryz.f56 0 bh [(17,(.v (.int .i64 0))),(2,b),(1,c),(15,a),(16,d)] H Q)
theorem iv(h : ∀g:gX,cg a c b H Q):gI Tryz.f56 0 [(0,a),(1,c),(2,b)] H Q:=zk dM (by kernel_rfl) h
def bk(g:Nat->AV)(d b c f e:AV)(H:ab)(Q:AV->ab->Prop):Prop:=
 kb 3 17 16 d e λn=>
 br (some n) (
 gf H 61 f d λo=>
 ae H 27 o λp=>
 gf H 61 c d λm=>
 ae H 27 m λk=>
 iq (aT env true (au env) (dA env 0) H (Ref.mk 0 29 (ab.gen H 0 29) 0) (some b) [p,k]) λj h=>
 mu j λi=>
 br (some i) (
 Q (.v (.bool false)) h) (
 kH 3 17 1 d λl=>
  dZ env Tryz.f56 0 bh [(17,l),(2,b),(1,c),(15,f),(16,e)] h Q)) (
 Q (.v (.bool true)) H)
theorem bY(d b c e f:AV)(H:ab)(Q:AV->ab->Prop)(h : ∀g,bk g d b c e f H Q):dZ env Tryz.f56 0 bh [(17,d),(2,b),(1,c),(15,e),(16,f)] H Q:=zY dM (by kernel_rfl) h
noncomputable def lP:=xv Tryz.f61 2
def vn:Nat->Option (List Nat):=λi=>cond (Nat.beq i 2) (some [7,2,5,6]) (none)
def vC:Prop:=
 eR H 6 27 a λd=>
  dZ env Tryz.f61 0 lP [(7,(.v (.int .i64 0))),(2,(.v (.int .i64 0))),(5,a),(6,d)] H Q
theorem Bx(h : ∀g:gX,vC a H Q):gI Tryz.f61 0 [(0,a)] H Q:=zk vn (by kernel_rfl) h
def oS(g:Nat->AV)(d b x5 e:AV)(H:ab)(Q:AV->ab->Prop):Prop:=
 kb 3 7 6 d e λk=>
 br (some k) (
 gf H 27 x5 d λl=>
 ae H 5 l λm=>
 JE 3 11 b λj=>
 cE H 14 5 3 m λi=>
 AN 3 12 14 j i λh=>
 kH 3 7 1 d λf=>
  dZ env Tryz.f61 0 lP [(7,f),(2,h),(5,x5),(6,e)] H Q) (
 Q b H)
theorem su(d b x5 e:AV)(H:ab)(Q:AV->ab->Prop)(h : ∀g,oS g d b x5 e H Q):dZ env Tryz.f61 0 lP [(7,d),(2,b),(5,x5),(6,e)] H Q:=zY vn (by kernel_rfl) h
def qn:Prop:=
 gR H 2 58 λl m=>
 eR m 8 27 a λv2=>
 lf 3 8 7 v2 λp=>
 gQ p false (cC a) λX=>
 gQ p false (bE env.P (ab.get m) 27 (some X) (some (AV.v (Value.int IntKind.i64 1)))) λU=>
 gQ p false (aF m 5 U) λT=>
 gQ p false (bK env.P .gtr 5 (Operand.tmp 13) (.const (.int .u8 1)) (some T) (some (a8 1))) λR=>
 fv p R λV=>
 br (some V) (
 fa 58 λK=>
 ao m 58 l K λn s=>
 bw s l 58 λj=>
 Q (.tup [j,(.v (.int .i64 8))]) s) (
 ew (ca env.P (ab.get m) 27 (some a) (oi (.v (.int .i64 2))) (oi (.v (.int .i64 7))) (oi (.v (.int .i64 7)))) λK=>
 JC m 20 27 1 λn s=>
 dg s 21 27 27 K n λj Z=>
 bt true Z 22 100 [j] λq S=>
 bm q 0 λE=>
 bm q 1 λA=>
 gR S 4 47 λo H5=>
 ao H5 47 o E λW h=>
 eG h 27 a 0 λL=>
 ae h 5 L λF=>
 cE h 28 5 3 F λO=>
 ah 47 o 0 λG=>
 ae h 45 G λt=>
 eG h 27 a 1 λJ=>
 ae h 5 J λB=>
 sg 5 33 B λN=>
 rh 56 0 t 1 N λC=>
 rh 58 0 O 1 C λI=>
 gR h 6 58 λi H7=>
 ao H7 58 i I λY x=>
 lf 22 37 0 A λe=>
 gQ e false (aF x 58 i) λD=>
 gW e false x (eT true x 41 119 [D]) λw y=>
 gQ e false (uR 22 41 0 w) λu=>
 fv e u λz=>
 br (some z) (
 fa 58 λf=>
 ao y 58 l f λM d=>
 bw d l 58 λk=>
 Q (.tup [k,(.v (.int .i64 8))]) d) (
 ae y 58 i λf=>
 ao y 58 l f λM d=>
 bw d l 58 λk=>
 Q (.tup [k,(.v (.int .i64 0))]) d))
theorem tu(h : ∀g:gX,qn a H Q):gI Tryz.f102 0 [(0,a)] H Q:=kS (by kernel_rfl) h
end
section
variable(dep:Nat)(g:Nat->AV)(a b:AV)(H:ab)(Q:AV->ab->Prop)
def dW:Prop:=
 eX H 2 60 a λi F=>
 eX F 3 60 b λk f=>
 ah 60 i 0 λM=>
 ae f 5 M λL=>
 ah 60 k 0 λI=>
 ae f 5 I λG=>
 ug 5 6 8 L G λh=>
 gQ h true (an 60 i 1) λJ=>
 gQ h true (aF f 3 J) λK=>
 gQ h true (an 60 k 1) λp=>
 gQ h true (aF f 3 p) λv=>
 gQ h true (iI 3 12 14 K v) λE=>
 bM h E λd=>
 gQ d true (an 60 i 2) λn=>
 gQ d true (aF f 54 n) λA=>
 gQ d true (an 60 k 2) λy=>
 gQ d true (aF f 54 y) λz=>
 gW d true f (eT true f 22 43 [A,z]) λs j=>
 bM d s λe=>
 gQ e true (an 60 i 3) λt=>
 gQ e true (aF j 22 t) λl=>
 gQ e true (an 60 k 3) λx=>
 gQ e true (aF j 22 x) λo=>
 gQ e true (iI 22 26 28 l o) λC=>
 bM e C λc=>
 gQ c true (an 60 i 4) λw=>
 gQ c true (aF j 58 w) λu=>
 gQ c true (an 60 k 4) λD=>
 gQ c true (aF j 58 D) λB=>
 gQ c true (iI 58 33 35 u B) λq=>
 bM c q λm=>
 Q m j
theorem sA(h : ∀g:gX,dW a b H Q):gI Tryz.f29 0 [(0,a),(1,b)] H Q:=kS (by kernel_rfl) h
end
end Go.Proofs.YtehkjjcdkbcebaaGreat
namespace Go.Proofs.YtehkjjcdkbcebaaGreat
open Go.Ab Go.ChangeShapes Go.WideShapes Go.RowKit
section
variable{H:Type}
theorem OA(d:DataW H):1<=Rows.uptoBulk d:=by
 cases d with
 | lit l=>cases l<;>simp[Rows.uptoBulk]
 | nil=>simp[Rows.uptoBulk]
 | ptr d=>simp[Rows.uptoBulk]
 | slice a b=>simp[Rows.uptoBulk]
 | agg a=>simp[Rows.uptoBulk]
 | iface a d=>simp[Rows.uptoBulk]
 | map e=>simp[Rows.uptoBulk]
 | held h=>simp[Rows.uptoBulk]
theorem Ho(ds:List (DataW H)):ds.length<=Rows.uptoBulkAll ds:=by
 induction ds with
 | nil=>simp
 | cons d ds a=>
  have:=OA d
  simp only[Rows.uptoBulkAll,ji]
  omega
theorem vA{d:DataW H}{ds:List (DataW H)}(h:d∈ds):Rows.uptoBulk d<=Rows.uptoBulkAll ds:=by
 induction ds with
 | nil=>cases h
 | cons e ds a=>
  simp only[Rows.uptoBulkAll]
  rcases eU.1 h with rfl | h
  ·omega
  ·have:=a h;omega
theorem Jk(es a:List (DataW H)):es.length<=Rows.uptoBulk (.slice es a) /\∀d∈es,Rows.uptoBulk d<=Rows.uptoBulk (.slice es a):=by
 have e:Rows.uptoBulk (.slice es a)=Rows.uptoBulkAll es+Rows.uptoBulkAll a+1:=by simp[Rows.uptoBulk]
 rw[e]
 refine⟨by have:=Ho es;omega,λd b=>by have:=vA b;omega⟩
theorem OC(ps:List (DataW H)) : ∀d∈ps,Rows.uptoBulk d<=Rows.uptoBulk (.agg ps):=by
 have e:Rows.uptoBulk (.agg ps)=Rows.uptoBulkAll ps+1:=by simp[Rows.uptoBulk]
 rw[e]
 exact λd a=>by have:=vA a;omega
theorem Jj{ds a:List (DataW H)}(h:Rows.uptoSmall H (ds++a)=true) : ∀d∈ds,Rows.uptoBulk d<=1048576:=by
 intro d b
 have c:Rows.uptoBulkAll (ds++a)<=1048576:=of_decide_eq_true h
 exact rk (vA (EB _ b)) c
end
end Go.Proofs.YtehkjjcdkbcebaaGreat
namespace Go.Ab
def F2(R:AV->AV->Prop):List AV->List AV->Prop
 | [],[]=>True
 | x :: xs,y :: a=>R x y/\F2 R xs a
 | _,_=>False
theorem F2.len{R:AV->AV->Prop} : ∀ {b a:List AV},F2 R b a->b.length=a.length
 | [],[],_=>rfl
 | _ :: b,_ :: a,h=>by simp only[ji];rw[F2.len h.2]
 | [],_ :: _,h=>h.elim
 | _ :: _,[],h=>h.elim
theorem F2.mono{R d:AV->AV->Prop} : ∀ {a b:List AV},(∀x∈a,∀y,R x y->d x y)->F2 R a b->F2 d a b
 | [],[],_,_=>trivial
 | x :: a,y :: b,c,h=>⟨c x (by simp) y h.1,F2.mono (λx e=>c x (by simp[e])) h.2⟩
 | [],_ :: _,_,h=>h.elim
 | _ :: _,[],_,h=>h.elim
theorem F2.mapM{R:AV->AV->Prop}{f:AV->Option AV}{h:AV->AV}(d : ∀x y,R x y->f x=some (h y)) : ∀ {b a:List AV},F2 R b a->b.mapM f=some (a.map h)
 | [],[],_=>rfl
 | x :: b,y :: a,c=>by rw[kI,d x y c.1,F2.mapM d c.2];rfl
 | [],_ :: _,h=>h.elim
 | _ :: _,[],h=>h.elim
theorem F2.app{R:AV->AV->Prop} : ∀ {d c a b:List AV},F2 R d c->F2 R a b->F2 R (d++a) (c++b)
 | [],[],_,_,_,h=>h
 | _ :: d,_ :: c,_,_,h,e=>⟨h.1,F2.app h.2 e⟩
 | [],_ :: _,_,_,h,_=>h.elim
 | _ :: _,[],_,_,h,_=>h.elim
theorem F2.split{R:AV->AV->Prop} : ∀ {A':List AV} {b a:List AV},F2 R b (A'++a) ->∃A B,b=A++B/\F2 R A A'/\F2 R B a
 | [],b,a,h=>⟨[],b,rfl,trivial,h⟩
 | c :: A',[],a,h=>h.elim
 | c :: A',x :: b,a,h=>by
  obtain⟨A,B,f,d,e⟩:=F2.split (A':=A') h.2
  exact⟨x :: A,B,by rw[f];rfl,⟨h.1,d⟩,e⟩
theorem F2.at{R:AV->AV->Prop} : ∀ {b a:List AV},F2 R b a ->∀ {i:Nat} {y:AV},a[i]?=some y ->∃x,b[i]?=some x/\R x y
 | [],[],_,i,y,h=>by simp at h
 | x :: b,y :: a,c,0,d,h=>by cases h;exact⟨x,rfl,c.1⟩
 | x :: b,y :: a,c,i+1,d,h=>F2.at c.2 h
 | [],_ :: _,h,_,_,_=>h.elim
 | _ :: _,[],h,_,_,_=>h.elim
def SS:AV->Bool
 | .v _ | .bl .. => true
 | _=>false
def DC(g:cf)(x y:AV):Prop:=(x=y/\SS y=true) \/∃r z l c,x = .bD r 0 l.length c/\y = .fsl z l c/\g r=some ⟨z,l,true,false⟩/\z≠0
def DE(g:cf)(x y:AV):Prop :=∃a b,x = .agg a/\y = .agg b/\F2 (DC g) a b
def kM:AV->List Ref
 | .bD r _ _ _=>[r]
 | _=>[]
def j8:AV->List Ref
 | .agg xs=>xs.flatMap kM
 | _=>[]
def JS:AV->AV
 | .fsl z l c => .bl z l c
 | x=>x
def JR:AV->AV
 | .agg a => .agg (a.map JS)
 | x=>x
theorem DC.view{g:cf}{x y:AV}(h:DC g x y)(n:Nat):view g (n+1) x=some (JS y):=by
 rcases h with ⟨rfl,h⟩ | ⟨r,z,l,c,rfl,rfl,a,_⟩
 ·cases x<;>first | rfl | cases h
 ·simp[Ab.view,a,JS]
theorem DC.export{g:cf}{x y:AV}(h:DC g x y)(n:Nat):bj g (n+1) x=some y:=by
 rcases h with ⟨rfl,h⟩ | ⟨r,z,l,c,rfl,rfl,a,_⟩
 ·cases x<;>first | rfl | cases h
 ·simp[bj,a]
theorem DC.refs{g:cf}{x y:AV}(h:DC g x y)(n:Nat):ad g (n+1) x=kM x:=by
 rcases h with ⟨rfl,h⟩ | ⟨r,z,l,c,rfl,rfl,a,_⟩
 ·cases x<;>first | rfl | cases h
 ·rfl
theorem DC.cy{g a:cf}{x y:AV}(h:DC g x y)(f : ∀q∈kM x,∀b,g q=some b->a q=some b):DC a x y:=by
 rcases h with h | ⟨r,z,l,c,rfl,rfl,e,d⟩
 ·exact .inl h
 ·exact .inr ⟨r,z,l,c,rfl,rfl,f r (by simp[kM]) _ e,d⟩
theorem F2.refs{g:cf}{R:AV->AV->Prop}{f h:AV->List Ref}(c : ∀x y,R x y->f x=h x) : ∀ {a b:List AV},F2 R a b->a.flatMap f=a.flatMap h
 | [],[],_=>rfl
 | x :: a,y :: b,d=>by rw[kZ,kZ,c x y d.1,F2.refs (g:=g) c d.2]
 | [],_ :: _,h=>h.elim
 | _ :: _,[],h=>h.elim
theorem DE.view{g:cf}{x y:AV}(h:DE g x y)(n:Nat):view g (n+2) x=some (JR y):=by
 obtain⟨xs,b,rfl,rfl,h⟩:=h
 show(xs.mapM (Ab.view g (n+1))).map AV.agg=_
 rw[F2.mapM (R:=DC g) (f:=Ab.view g (n+1)) (h:=JS) (λx y a=>DC.view a n) h]
 rfl
theorem DE.export{g:cf}{x y:AV}(h:DE g x y)(n:Nat):bj g (n+2) x=some y:=by
 obtain⟨xs,b,rfl,rfl,h⟩:=h
 show(xs.mapM (bj g (n+1))).map AV.agg=_
 rw[F2.mapM (R:=DC g) (f:=bj g (n+1)) (h:=id) (λx y a=>DC.export a n) h]
 simp
theorem DE.refs{g:cf}{x y:AV}(h:DE g x y)(n:Nat):ad g (n+2) x=j8 x:=by
 obtain⟨xs,b,rfl,rfl,h⟩:=h
 simp only[ad,j8]
 exact F2.refs (g:=g) (R:=DC g) (f:=ad g (n+1)) (h:=kM) (λx y a=>DC.refs a n) h
theorem DE.cy{g a:cf}{x y:AV}(h:DE g x y)(i : ∀q∈j8 x,∀b,g q=some b->a q=some b):DE a x y:=by
 obtain⟨xs,d,rfl,rfl,h⟩:=h
 exact⟨xs,d,rfl,rfl,F2.mono (λx f y c=>DC.cy c λq e b j=>i q (by simp only[j8,hY];exact⟨x,f,e⟩) b j) h⟩
theorem DC.live{g:cf}{x y:AV}(h:DC g x y) : ∀q∈kM x,∃b,g q=some b:=by
 rcases h with ⟨rfl,h⟩ | ⟨r,z,l,c,rfl,rfl,d,e⟩
 ·intro q a
  cases x<;>first | (simp[kM]at a;done) | cases h
 ·intro q a
  simp[kM]at a
  subst a
  exact⟨_,d⟩
theorem F2.live{g:cf}{R:AV->AV->Prop}{f:AV->List Ref}(e : ∀x y,R x y ->∀q∈f x,∃b,g q=some b) : ∀ {c d:List AV},F2 R c d ->∀q∈c.flatMap f,∃b,g q=some b
 | [],[],_,q,a=>by simp at a
 | x :: c,y :: d,i,q,a=>by
  rw[kZ,kY]at a
  rcases a with a | a
  ·exact e x y i.1 q a
  ·exact F2.live e i.2 q a
 | [],_ :: _,h,_,_=>h.elim
 | _ :: _,[],h,_,_=>h.elim
theorem DE.live{g:cf}{x y:AV}(h:DE g x y) : ∀q∈j8 x,∃b,g q=some b:=by
 obtain⟨xs,c,rfl,rfl,h⟩:=h
 exact F2.live (λx y a=>DC.live a) h
def xG(z:Nat)(H:ab)(s:AV)(es':List AV)(a:List Ref):Prop:=
 (s = .v (.slice none 0 0)/\es'=[]/\a=[])\/(∃r,s = .bD r 0 0 (some 0)/\es'=[]/\a=[r]/\H.get r=some ⟨z,[],true,false⟩) \/
 ∃r es,s = .dsl r 0 es.length none/\es≠[]/\H.get r=some ⟨z,es,false,false⟩/\F2 (DE H.get) es es'/\a=r :: es.flatMap j8/\a.Nodup
def O6(z:Nat)(es':List AV)(y:AV):Prop:=(y = .v (.slice none 0 0)/\es'=[])\/(y = .fsl z [] (some 0)/\es'=[])\/(y = .nsl z es' none/\es'≠[])
def Dj(z:Nat)(s:AV)(es':List AV):AV:=match s with
 | .bD _ _ _ c => .fsl z [] c
 | .dsl _ _ _ c => .nsl z es' c
 | s=>s
def MT:AV->AV
 | .fsl z l c => .bl z l c
 | .nsl z es c => .bl z (es.map JR) c
 | x=>x
theorem xG.cy{z:Nat}{H g:ab}{s:AV}{es':List AV}{d:List Ref}(h:xG z H s es' d)(f : ∀q∈d,∀b,H.get q=some b->g.get q=some b):xG z g s es' d:=by
 rcases h with h | ⟨r,e,c,rfl,a⟩ | ⟨r,es,e,c,k,a,rfl,m⟩
 ·exact .inl h
 ·exact .inr (.inl ⟨r,e,c,rfl,f r (by simp) _ a⟩)
 ·exact .inr (.inr ⟨r,es,e,c,f r (by simp) _ k,F2.mono (λx l y i=>DE.cy i λq j b n=>f q (by simp only[eU,hY];exact .inr ⟨x,l,j⟩) b n) a,rfl,m⟩)
theorem xG.live{z:Nat}{H:ab}{s:AV}{es':List AV}{d:List Ref}(h:xG z H s es' d) : ∀q∈d,∃b,H.get q=some b:=by
 rcases h with ⟨_,_,rfl⟩ | ⟨r,g,e,rfl,c⟩ | ⟨r,es,g,e,f,c,rfl,j⟩
 ·intro q a;cases a
 ·intro q a
  simp at a
  subst a
  exact⟨_,c⟩
 ·intro q a
  rcases eU.1 a with rfl | a
  ·exact⟨_,f⟩
  ·exact F2.live (λx y i=>DE.live i) c q a
theorem xG.nodup{z:Nat}{H:ab}{s:AV}{es':List AV}{a:List Ref}(h:xG z H s es' a):a.Nodup:=by
 rcases h with ⟨_,_,rfl⟩ | ⟨r,d,c,rfl,b⟩ | ⟨r,es,d,c,f,b,rfl,e⟩
 ·simp
 ·simp
 ·exact e
theorem xG.out{z:Nat}{H:ab}{s:AV}{es':List AV}{k:List Ref}(h:xG z H s es' k)(n:Nat) :
 bj H.get (n+3) s=some (Dj z s es')/\view H.get (n+3) s=some (MT (Dj z s es'))/\ad H.get (n+3) s=k/\O6 z es' (Dj z s es'):=by
 rcases h with ⟨rfl,rfl,rfl⟩ | ⟨r,rfl,rfl,rfl,a⟩ | ⟨r,es,rfl,q,j,a,rfl,t⟩
 ·exact⟨rfl,rfl,rfl,.inl ⟨rfl,rfl⟩⟩
 ·refine⟨?_,?_,rfl,.inr (.inl ⟨rfl,rfl⟩)⟩
  ·simp[bj,a,Dj]
  ·simp[view,a,Dj,MT]
 ·have d:=a.len
  have i:es'≠[]:=by
   intro e
   rw[e]at d
   exact q (uu.1 d)
  have o:=F2.mapM (R:=DE H.get) (f:=bj H.get (n+2)) (h:=id) (λx y c=>DE.export c n) a
  have m:=F2.mapM (R:=DE H.get) (f:=Ab.view H.get (n+2)) (h:=JR) (λx y c=>DE.view c n) a
  have p:=F2.refs (g:=H.get) (R:=DE H.get) (f:=ad H.get (n+2)) (h:=j8) (λx y c=>DE.refs c n) a
  refine⟨?_,?_,?_,.inr (.inr ⟨rfl,i⟩)⟩
  ·show(match H.get r with
    | some b=>if b.arr=false/\es.length=b.es.length then (if b.fN then (b.es.mapM (view H.get (n+2))).map λes=>AV.bl b.esz es none else (b.es.mapM (bj H.get (n+2))).map λes=>AV.nsl b.esz es none) else none
    | none=>none)=_
   rw[j]
   simp only[o]
   simp[Dj]
  ·show(match H.get r with
    | some b=>if b.arr=false/\0+es.length<=b.es.length then (b.es.mapM (view H.get (n+2))).map λ(l:List AV)=>AV.bl b.esz ((l.drop 0).take es.length) none else none
    | none=>none)=_
   rw[j]
   simp only[m]
   simp[Dj,MT]
   rw[d,show es'.length=(es'.map JR).length from(xM _).symm,wz]
  ·show(r :: (match H.get r with | some b=>b.es.flatMap (ad H.get (n+2)) | none=>[]))=_
   rw[j]
   simp only[p]
theorem xG.len{z:Nat}{H:ab}{s:AV}{es':List AV}{b:List Ref}(h:xG z H s es' b):pr s=some es'.length:=by
 rcases h with ⟨rfl,rfl,rfl⟩ | ⟨r,rfl,rfl,rfl,a⟩ | ⟨r,es,rfl,c,d,a,rfl,e⟩
 ·rfl
 ·rfl
 ·simp[pr,a.len]
def At(g:cf)(r:Ref)(k:Nat)(bs:List aJ):Prop :=∀i b,bs[i]?=some b->g { r with k:=k+i}=some b
theorem OP{g:cf}{r:Ref}{k:Nat}{a bs:List aJ}(h:At g r k (a++bs)):At g r k a:=λi b hi=>h i b (by rw[ia (dE.1 hi).1];exact hi)
theorem OO{g:cf}{r:Ref}{k:Nat}{a bs:List aJ}(h:At g r k (a++bs)):At g r (k+a.length) bs:=λi b hi=>by
 have:=h (a.length+i) b (by rw[iL (by omega),show a.length+i - a.length=i by omega];exact hi)
 rw[A8]
 exact this
def oh(r:Ref)(k n:Nat):List Ref:=(List.range' k n).map λk => { r with k:=k}
theorem DQ(r:Ref)(k m n:Nat):oh r k m++oh r (k+m) n=oh r k (m+n):=by
 unfold oh
 rw[<-xd]
 congr 1
 have:=List.range'_append (s:=k) (m:=m) (n:=n) (step:=1)
 simpa using this
theorem Gq(r:Ref)(k n:Nat):(oh r k n).Nodup:=by
 unfold oh
 rw[List.nodup_iff_pairwise_ne,List.pairwise_map]
 refine List.Pairwise.imp ?_ (List.nodup_iff_pairwise_ne.1 (List.nodup_range' (s:=k) (n:=n)))
 intro a b h e
 exact h (congrArg Ref.k e)
theorem DX{r q:Ref}{k n:Nat}(h:q∈oh r k n):q.d=r.d/\q.t=r.t/\q.g=r.g/\k<=q.k/\q.k<k+n:=by
 unfold oh at h
 obtain⟨i,hi,rfl⟩:=kf.1 h
 have:=List.mem_range'_1.1 hi
 exact⟨rfl,rfl,rfl,this.1,this.2⟩
def Zh(R:cf->AV->AV->Prop)(rf:AV->List Ref)(r:Ref)(n:Nat)(y:AV):Prop :=∀bs,∃x add,af r n y bs=(x,bs++add)/\(∀g,At g r bs.length add->R g x y)/\rf x=oh r bs.length add.length
theorem GS{R:cf->AV->AV->Prop}{rf:AV->List Ref}{r:Ref}{n:Nat} : ∀(b:List AV),(∀y∈b,Zh R rf r n y) ->∀(a:List AV)(bs:List aJ),
 ∃d add,b.foldl (λ(p:List AV × List aJ) c=>let (y,bs):=af r n c p.2;(p.1++[y],bs)) (a,bs)=(a++d,bs++add)/\(∀g,At g r bs.length add->F2 (R g) d b)/\d.flatMap rf=oh r bs.length add.length:=by
 intro b
 induction b with
 | nil=>intro _ a bs;exact⟨[],[],by simp,λg _=>trivial,by simp[oh]⟩
 | cons y b m=>
  intro h a bs
  obtain⟨x,f,o,j,i⟩:=h y (by simp) bs
  obtain⟨d,l,f1,f2,f3⟩:=m (λy k=>h y (by simp[k])) (a++[x]) (bs++f)
  refine⟨x :: d,f++l,?_,λg e=>⟨j g (OP e),f2 g ?_⟩,?_⟩
  ·simp only[uq,o,f1]
   simp
  ·have:=OO e
   rw[gG]
   exact this
  ·rw[kZ,i,f3,gG,DQ,gG]
def To:AV->Bool
 | .v _ | .bl .. => true
 | .fsl z _ _=>z != 0
 | _=>false
def Qz:AV->Bool
 | .agg a=>a.all To
 | _=>false
theorem QA{y:AV}(h:To y=true)(r:Ref)(n:Nat):Zh DC kM r (n+1) y:=by
 intro bs
 cases y<;>first | cases h | skip
 ·exact⟨_,[],by simp[af],λg _ => .inl ⟨rfl,rfl⟩,by simp[oh,kM]⟩
 ·exact⟨_,[],by simp[af],λg _ => .inl ⟨rfl,rfl⟩,by simp[oh,kM]⟩
 ·rename_i z l c
  have a:z≠0:=by simpa [To] using h
  refine⟨.bD { r with k:=bs.length} 0 l.length c,[⟨z,l,true,false⟩],by simp[af,a],λg b => .inr ⟨_,z,l,c,rfl,rfl,?_,a⟩,by simp[oh,kM]⟩
  have:=b 0 _ rfl
  simpa using this
theorem Qy{y:AV}(h:Qz y=true)(r:Ref)(n:Nat):Zh DE j8 r (n+2) y:=by
 intro bs
 cases y<;>first | cases h | skip
 rename_i a
 obtain⟨xs,add,i,b,d⟩:=GS (R:=DC) (rf:=kM) (r:=r) (n:=n+1) a (λy f=>QA (da.1 h y f) r n) [] bs
 refine⟨.agg xs,add,?_,λg j=>⟨xs,a,rfl,rfl,b g j⟩,d⟩
 have e:af r (n+2) (.agg a) bs=(λp:List AV × List aJ=>(AV.agg p.1,p.2)) (a.foldl (λ(p:List AV × List aJ) c=>let (y,bs):=af r (n+1) c p.2;(p.1++[y],bs)) ([],bs)):=rfl
 rw[e,i]
 rfl
theorem O6.imp{z:Nat}{es':List AV}{y:AV}(t:z≠0)(h:O6 z es' y)(v : ∀e∈es',Qz e=true)(r:Ref)(n:Nat)(bs:List aJ) :
 ∃s add,af r (n+3) y bs=(s,bs++add)/\(∀H:ab,At H.get r bs.length add ->∃i,xG z H s es' i/\(∀q∈i,q∈oh r bs.length add.length)/\Dj z s es'=y):=by
 rcases h with ⟨rfl,rfl⟩ | ⟨rfl,rfl⟩ | ⟨rfl,f⟩
 ·exact⟨_,[],by simp[af],λH _=>⟨[],.inl ⟨rfl,rfl,rfl⟩,(λq a=>by cases a),rfl⟩⟩
 ·refine⟨.bD { r with k:=bs.length} 0 0 (some 0),[⟨z,[],true,false⟩],by simp[af,t],λH b=>⟨[{ r with k:=bs.length}],.inr (.inl ⟨_,rfl,rfl,rfl,by simpa using b 0 _ rfl⟩),λq a=>?_,rfl⟩⟩
  simpa [oh] using a
 ·obtain⟨xs,add,u,j,l⟩:=GS (R:=DE) (rf:=j8) (r:=r) (n:=n+2) es' (λy o=>Qy (v y o) r n) [] bs
  refine⟨.dsl { r with k:=bs.length+add.length} 0 es'.length none,add++[⟨z,xs,false,false⟩],?_,λH b=>?_⟩
  ·have e:af r (n+3) (.nsl z es' none) bs=(λp:List AV × List aJ=>(AV.dsl { r with k:=p.2.length} 0 es'.length none,p.2++[⟨z,p.1,false,false⟩])) (es'.foldl (λ(p:List AV × List aJ) c=>let (y,bs):=af r (n+2) c p.2;(p.1++[y],bs)) ([],bs)):=rfl
   rw[e,u]
   simp
  ·have g:=j H.get (OP b)
   have d:=g.len
   have m:=OO b 0 _ rfl
   refine⟨{ r with k:=bs.length+add.length} :: oh r bs.length add.length,.inr (.inr ⟨_,xs,by rw[d],?_,by simpa using m,g,by rw[l],?_⟩),λq a=>?_,rfl⟩
   ·intro e
    rw[e]at d
    exact f (uu.1 d.symm)
   ·refine wy.2 ⟨λw=>?_,Gq _ _ _⟩
    have:=(DX w).2.2.2.2
    simp only at this
    omega
   ·rw[gG,Bf,<-DQ]
    rcases eU.1 a with rfl | a
    ·simp[oh]
    ·simp[a]
def uK(z:Nat)(H:ab)(r:Ref)(es':List AV)(a:List Ref):Prop :=∃es,H.get r=some ⟨z,es,false,false⟩/\F2 (DE H.get) es es'/\a=r :: es.flatMap j8/\a.Nodup
theorem uK.row{z:Nat}{H:ab}{r:Ref}{es':List AV}{d:List Ref}(h:uK z H r es' d)(a:es'≠[]):xG z H (.dsl r 0 es'.length none) es' d:=by
 obtain⟨es,i,c,g,f⟩:=h
 have b:=c.len
 exact .inr (.inr ⟨r,es,by rw[b],λe=>a (uu.1 (by rw[<-b,e];rfl)),i,c,g,f⟩)
theorem uK.cy{z:Nat}{H c:ab}{r:Ref}{es':List AV}{a:List Ref}(h:uK z H r es' a)(d : ∀q∈a,∀b,H.get q=some b->c.get q=some b):uK z c r es' a:=by
 obtain⟨es,i,f,rfl,k⟩:=h
 exact⟨es,d r (by simp) _ i,F2.mono (λx j y e=>DE.cy e λq g b l=>d q (by simp only[eU,hY];exact .inr ⟨x,j,g⟩) b l) f,rfl,k⟩
theorem uK.live{z:Nat}{H:ab}{r:Ref}{es':List AV}{c:List Ref}(h:uK z H r es' c) : ∀q∈c,∃b,H.get q=some b:=by
 obtain⟨es,e,d,rfl,g⟩:=h
 intro q a
 rcases eU.1 a with rfl | a
 ·exact⟨_,e⟩
 ·exact F2.live (λx y f=>DE.live f) d q a
theorem Gd{b:Type}{l:List b}{i:Nat}{a:b}(h:l[i]?=some a):l=l.take i++a :: l.drop (i+1):=by
 obtain⟨hi,rfl⟩:=dE.1 h
 rw[<-List.drop_eq_getElem_cons hi,xQ]
theorem FO{A B a:List AV}{i j:Nat}{v:AV}(hi:A.length=i)(b:j<a.length):fE (A ++ .agg a :: B) i j [v]=some (A ++ .agg (patch a j [v]) :: B):=by
 subst hi
 unfold fE
 rw[iL (aW _),uY]
 simp only[EF,C5,Bf]
 rw[if_pos (by omega)]
 simp only[List.set_append_right _ _ (aW _),uY,List.set_cons_zero,Option.map_some]
theorem DS{a b:List AV}{x v:AV}{j:Nat}(h:a.length=j):patch (a++x :: b) j [v]=a++v :: b:=by
 subst h
 simp[patch]
theorem uK.at{z:Nat}{H:ab}{r:Ref}{es':List AV}{f:List Ref}(h:uK z H r es' f){i:Nat}{d:List AV}(hi:es'[i]?=some (.agg d)) :
 ∃es a,H.get r=some ⟨z,es,false,false⟩/\es.length=es'.length/\es[i]?=some (.agg a)/\F2 (DC H.get) a d /\∀q∈a.flatMap kM,q∈f:=by
 obtain⟨es,m,b,g,n⟩:=h
 obtain⟨x,c,a,j,rfl,e,k⟩:=b.at hi
 cases e
 refine⟨es,a,m,b.len,c,k,λq l=>?_⟩
 rw[g]
 simp only[eU,hY]
 exact .inr ⟨_,eY c,by simpa [j8] using l⟩
theorem uK.set{z:Nat}{H:ab}{r:Ref}{es':List AV}{P:List Ref}(h:uK z H r es' P){i j:Nat}{v:List AV}(hi:es'[i]?=some (.agg v))(hj:j<v.length){q:Ref}(X:H.get q=none)(w:Nat)(hz:w≠0)(l:List AV)(c:Option Nat) :
 ∃es I,H.get r=some ⟨z,es,false,false⟩/\es.length=es'.length/\fE es i j [.bD q 0 l.length c]=some I /\
  ∀D:ab,D.get r=some ⟨z,I,false,false⟩->D.get q=some ⟨w,l,true,false⟩->(∀p b,p≠r->H.get p=some b->D.get p=some b) ->
   ∃E,uK z D r (es'.set i (.agg (patch v j [.fsl w l c]))) E /\∀p∈E,p∈P\/p=q:=by
 have u:=h.live
 obtain⟨es,h1,h2,N,K⟩:=h
 have V:=Gd hi
 have Zs:i<es'.length:=(dE.1 hi).1
 have m:(es'.take i).length=i:=by rw[lW];omega
 generalize es'.take i=A' at *
 generalize es'.drop (i+1)=B' at *
 subst V
 obtain⟨A,C,rfl,Z,S⟩:=F2.split h2
 match C,S with
 | x :: B,S=>
 obtain⟨⟨xs,Zt,rfl,e,hX⟩,hB⟩:=S
 cases e
 have Y:A.length=i:=by rw[Z.len,m]
 obtain⟨y,hy⟩ : ∃y,v[j]?=some y:=⟨_,cw hj⟩
 have U:=Gd hy
 have J:(v.take j).length=j:=by rw[lW];omega
 generalize v.take j=Y1 at *
 generalize v.drop (j+1)=Y2 at *
 subst U
 obtain⟨f,X3,rfl,L,o⟩:=F2.split hX
 match X3,o with
 | Q :: g,o=>
 have G:f.length=j:=by rw[L.len,J]
 refine⟨_,_,h1,h2.len,FO Y (by simp;omega),λD g1 g2 g3=>?_⟩
 rw[DS G]at g1
 have M:(A' ++ .agg (Y1++y :: Y2) :: B').set i (.agg (patch (Y1++y :: Y2) j [.fsl w l c]))=A' ++ .agg (Y1 ++ .fsl w l c :: Y2) :: B':=by
  rw[DS J,List.set_append_right _ _ (by omega),m,uY,List.set_cons_zero]
 rw[M]
 have d : ∀p,p∈A.flatMap j8\/p∈f.flatMap kM\/p∈g.flatMap kM\/p∈B.flatMap j8->p∈P/\p≠r:=by
  intro p hp
  have:p∈(A ++ .agg (f++Q :: g) :: B).flatMap j8:=by
   simp only[Bd,kZ,kY,j8]
   rcases hp with hp | hp | hp | hp
   ·exact .inl hp
   ·exact .inr (.inl (.inl hp))
   ·exact .inr (.inl (.inr (.inr hp)))
   ·exact .inr (.inr hp)
  rw[N]at K
  exact⟨by rw[N];exact jI _ this,λe=>(wy.1 K).1 (e ▸ this)⟩
 have O : ∀p,p∈A.flatMap j8\/p∈f.flatMap kM\/p∈g.flatMap kM\/p∈B.flatMap j8 ->∀b,H.get p=some b->D.get p=some b:=λp hp b k=>g3 p b (d p hp).2 k
 have W:q≠r:=by
  intro e
  rw[e,h1]at X
  cases X
 refine⟨r :: (A ++ .agg (f ++ .bD q 0 l.length c :: g) :: B).flatMap j8,⟨_,g1,?_,rfl,?_⟩,?_⟩
 ·refine F2.app (F2.mono (λx n y t=>DE.cy t λp hp b k=>O p (.inl (hY.2 ⟨x,n,hp⟩)) b k) Z) ⟨⟨_,_,rfl,rfl,F2.app (F2.mono (λx n y t=>DC.cy t λp hp b k=>O p (.inr (.inl (hY.2 ⟨x,n,hp⟩))) b k) L) ⟨.inr ⟨q,w,l,c,rfl,rfl,g2,hz⟩,F2.mono (λx n y t=>DC.cy t λp hp b k=>O p (.inr (.inr (.inl (hY.2 ⟨x,n,hp⟩)))) b k) o.2⟩⟩,F2.mono (λx n y t=>DE.cy t λp hp b k=>O p (.inr (.inr (.inr (hY.2 ⟨x,n,hp⟩)))) b k) hB⟩
 ·rw[N]at K
  have e1:(A ++ .agg (f++Q :: g) :: B).flatMap j8=A.flatMap j8++(f.flatMap kM++(kM Q++(g.flatMap kM++B.flatMap j8))):=by simp[j8,Bd,kZ]
  have T:(A ++ .agg (f ++ .bD q 0 l.length c :: g) :: B).flatMap j8=A.flatMap j8++(f.flatMap kM++(q :: (g.flatMap kM++B.flatMap j8))):=by simp[j8,Bd,kZ,kM]
  rw[e1]at K
  rw[T]
  have F:(r :: (A.flatMap j8++(f.flatMap kM++(g.flatMap kM++B.flatMap j8)))).Sublist (r :: (A.flatMap j8++(f.flatMap kM++(kM Q++(g.flatMap kM++B.flatMap j8))))):=
   List.Sublist.cons_cons _ (List.Sublist.append (List.Sublist.refl _) (List.Sublist.append (List.Sublist.refl _) (HQ _ _)))
  have hn:=K.sublist F
  have s:(r :: (A.flatMap j8++(f.flatMap kM++(q :: (g.flatMap kM++B.flatMap j8))))).Perm (q :: (r :: (A.flatMap j8++(f.flatMap kM++(g.flatMap kM++B.flatMap j8))))):=by
   have:=List.perm_middle (a:=q) (l₁:=r :: (A.flatMap j8++f.flatMap kM)) (l₂:=g.flatMap kM++B.flatMap j8)
   simpa [pS] using this
  refine s.nodup_iff.2 (wy.2 ⟨λR=>?_,hn⟩)
  rcases eU.1 R with rfl | R
  ·exact W rfl
  ·have:q∈P:=(d q (by simp only[kY]at R;exact R)).1
   obtain⟨b,k⟩:=u q this
   rw[X]at k
   cases k
 ·intro p hp
  rcases eU.1 hp with rfl | hp
  ·exact .inl (by rw[N];simp)
  ·have T:(A ++ .agg (f ++ .bD q 0 l.length c :: g) :: B).flatMap j8=A.flatMap j8++(f.flatMap kM++(q :: (g.flatMap kM++B.flatMap j8))):=by simp[j8,Bd,kZ,kM]
   rw[T]at hp
   simp only[kY,eU]at hp
   rcases hp with hp | hp | hp | hp | hp
   ·exact .inl (d p (.inl hp)).1
   ·exact .inl (d p (.inr (.inl hp))).1
   ·exact .inr hp
   ·exact .inl (d p (.inr (.inr (.inl hp)))).1
   ·exact .inl (d p (.inr (.inr (.inr hp)))).1
def Wd(o:Option aJ):Option (Nat × AV):=match o with
 | some ⟨0,[.v (.int .i64 st),inf],_,_⟩=>some (st.toNat,inf)
 | _=>none
theorem nL(H:ab)(r:Ref):sU H r=Wd (H.get r):=rfl
@[simp] theorem vo(st:Nat)(a:AV):Wd (some (c9 st a))=some (st,a):=by
 simp[Wd,c9]
theorem OM(a:AV)(K:AV->Prop)(m:Mk K):YJ (some (0,a)) K m↔K a:=by
 constructor
 ·rintro⟨info,e,h⟩
  simp only[dc,si,true_and]at e
  subst e;exact h
 ·intro h;exact⟨a,rfl,h⟩
attribute [simp] OM
theorem N0(H:ab)(r:Ref)(st:Nat)(a:AV):sU (H.put r (some (c9 st a))) r=some (st,a):=by
 rw[nL,ab.aj,if_pos rfl,vo]
theorem D0{E:Env}{fn:Func}{dep nt:Nat}{r:Ref}{f:FuncId}{ps:List Tmp}{assign body:Code}{tm:List AV}{args:List AV}{H:ab}{Q:AV->ab->Prop}
 (i:H.get r=some (c9 0 (.lp f nt ps assign body tm))) (c:fn.ntmps=nt) (hp:args.length=ps.length) (d:ps.all (· < nt)=true) (g:codeOk E.ok assign=true) (l:codeOk E.ok body=true)
 (h:qo E fn (some r) (dep+1) [.code assign,.beginRound,.code body] (bZ (qF tm ps args)) H λx b=>x = .v (.int .i64 0) /\∃a,b.get r=some (c9 1 a)/\Q (.v (.bool true)) (b.put r (some (c9 0 a)))) :
 ∃y b,dA E dep (.yld r) args H=some (y,b)/\Q y b:=by
 refine N4 (by rw[nL,i];exact vo _ _) c hp d g l ?_
 intro tm' j
 obtain⟨y,b,⟨rfl,a,k,e⟩,n,c⟩:=h tm' j
 exact⟨_,b,⟨0,rfl,a,_,by rw[nL,k];exact vo _ _,rfl,N0 _ _ _ _,λ_=>e,λh=>absurd h (by decide),by decide⟩,n,c⟩
theorem yl{s:df}{l:List (Nat × AV)}(h : ∀p∈l,s p.1=p.2):HB s l=s:=by
 induction l with
 | nil=>rfl
 | cons p l a=>
  obtain⟨j,v⟩:=p
  funext i
  show cond (Nat.beq i j) v (HB s l i)=s i
  rw[a λp hp=>h p (jI _ hp)]
  cases b:Nat.beq i j with
  | false=>rfl
  | true=>
   have:=iK b
   subst this
   exact(h _ (jM ..)).symm
@[simp] theorem Rg(r:Ref)(o n:Nat)(c:Option Nat)(y:AV):fE [AV.bD r o n c] 0 0 [y]=some [y]:=id rfl
@[simp] theorem TZ(x:Value)(y:AV):fE [AV.v x] 0 0 [y]=some [y]:=id rfl
theorem vx{E:Env}(dep:Nat)(H:ab)(r q:Ref)(args:List AV):aT E true (au E) (dA E dep) H r (some (.yld q)) args=dA E dep (.yld q) args H:=by
 simp[aT,iZ,jB,Aw,kK]
def El(H a:ab)(refs:List Ref):Prop :=∀q b,H.get q=some b ->∃fz,a.get q=some { b with fN:=fz}/\(q ∉ refs->fz=b.fN)
theorem El.same{H a:ab}{refs:List Ref}(h:El H a refs){q:Ref}(d:q ∉ refs){b:aJ}(f:H.get q=some b):a.get q=some b:=by
 obtain⟨fz,e,c⟩:=h q b f
 rw[e,c d]
theorem Of(H:ab)(refs:List Ref):El H (bG H refs) refs:=by
 intro q b a
 rw[ab.cB]
 unfold pI
 by_cases h:q∈refs
 ·exact⟨true,by simp[h,a],λc=>absurd h c⟩
 ·exact⟨b.fN,by simp[h,a],λ_=>rfl⟩
theorem Mb{H:ab}(b:Fr H)(refs:List Ref):Fr (bG H refs):=by
 intro d t g k a
 rw[ab.fB]at a
 rw[ab.cB]
 have:=b d t g k a
 unfold pI
 split<;>simp[this]
theorem LP{o:Option AV}{H:ab}{r:Ref}(G : ∃d t,r=⟨d,t,H.gen d t,0⟩){z:Nat}(J:z≠0){y:AV}{es':List AV}{mk:AV->AV}{n:Nat}{K:AV->ab->Prop}{refs:List Ref}
 (L:o=some (mk y)) (u : ∀r s bs,af r (n+3) y []=(s,bs)->af r depth (mk y) []=(mk s,bs)) (I:O6 z es' y) (hi : ∀e∈es',Qz e=true) (p:Fr H)
 (O : ∀m s j,Fr m->xG z m s es' j->El H m refs->(∀q∈j,H.get q=none)->Dj z s es'=y->K (mk s) m) :
 iq (pX true H r refs o) K:=by
 obtain⟨d,t,rfl⟩:=G
 obtain⟨s,add,C,B⟩:=I.imp J hi ⟨d,t,H.gen d t,0⟩ n []
 have A:=u _ _ _ C
 simp only[pR,lV]at C B A
 have c : ∀a:ab,Fr a->El H a refs->(∀q,H.get q=none->a.get q=none)->(∀d t,a.gen d t=H.gen d t)->K (mk s) (keyed ⟨d,t,H.gen d t,0⟩ 0 add a):=by
  intro a w M U P
  have v:At (keyed ⟨d,t,H.gen d t,0⟩ 0 add a).get ⟨d,t,H.gen d t,0⟩ 0 add:=by
   intro i b hi
   have x:=(dE.1 hi).1
   rw[ab.vX,if_pos ⟨rfl,rfl,rfl,by simp,by simpa using x⟩]
   simpa using hi
  obtain⟨j,S,F,Q⟩:=B _ v
  refine O _ s j ?_ S (λq b l=>?_) (λq f=>?_) Q
  ·have:=Fr.keyed w add d t
   rw[P]at this
   exact this
  ·obtain⟨fz,T,R⟩:=M q b l
   refine⟨fz,?_,R⟩
   rw[ab.vX,if_neg (λh=>?_)]
   ·exact T
   ·have:=p q.d q.t q.g q.k (by rw[h.1,h.2.1,h.2.2.1];exact aW _)
    rw[show(⟨q.d,q.t,q.g,q.k⟩:Ref)=q from rfl,l]at this
    cases this
  ·obtain⟨N,E,D,_⟩:=DX (F q f)
   exact p q.d q.t q.g q.k (by rw[N,E,D];exact aW _)
 subst L
 simp only[pX,A]
 split
 ·exact tY rfl (c H p (λq b l=>⟨b.fN,l,λ_=>rfl⟩) (λq f=>f) λ_ _=>rfl)
 ·refine tY rfl (c (bG H refs) (Mb p refs) (Of H refs) (λq f=>?_) λd t=>ab.fB _ _ _ _)
  rw[ab.cB]
  unfold pI
  split<;>simp[f]
structure Dt where
 z:Nat
 s:AV
 es:List AV
 rs:List Ref
structure oc (H:ab) (fs:List (Ref × aJ)) (rows:List Dt):Prop where
 fr:Fr H
 has : ∀p∈fs,H.get p.1=some p.2
 nd:(fs.map (·.1)).Nodup
 row : ∀t∈rows,xG t.z H t.s t.es t.rs
 sep : ∀t∈rows,∀p∈fs,p.1 ∉ t.rs
 dis:rows.Pairwise λt u =>∀q∈t.rs,q ∉ u.rs
theorem oc.nil:oc [] [] []:=⟨Fr.nil,by simp,by simp,by simp,by simp,List.Pairwise.nil⟩
theorem oc.grow{H a:ab}{d:List (Ref × aJ)}{rows:List Dt}(h:oc H d rows)(g:Fr a)(c : ∀q b,H.get q=some b->a.get q=some b):oc a d rows:=
 ⟨g,λp hp=>c _ _ (h.has p hp),h.nd,λt e=>(h.row t e).cy λq _ b f=>c q b f,h.sep,h.dis⟩
theorem oc.add{H:ab}{a:List (Ref × aJ)}{rows:List Dt}(h:oc H a rows){r:Ref}{b:aJ}(i:H.get r=some b)(g : ∀p∈a,p.1≠r)(d : ∀t∈rows,r ∉ t.rs):oc H ((r,b) :: a) rows:=
 ⟨h.fr,λp hp=>(eU.1 hp).elim (λe=>by rw[e];exact i) (h.has p),wy.2 ⟨λf=>by obtain⟨p,hp,e⟩:=kf.1 f;exact g p hp e,h.nd⟩,h.row,λt c p hp=>(eU.1 hp).elim (λe=>by rw[e];exact d t c) (h.sep t c p),h.dis⟩
theorem oc.sub{H:ab}{b fs':List (Ref × aJ)}{rows:List Dt}(h:oc H b rows)(a:fs'.Sublist b):oc H fs' rows:=
 ⟨h.fr,λp hp=>h.has p (a.mem hp),(a.map _).nodup h.nd,h.row,λt c p hp=>h.sep t c p (a.mem hp),h.dis⟩
theorem oc.live{H:ab}{c:List (Ref × aJ)}{rows:List Dt}(h:oc H c rows){r:Ref}(e:H.get r=none) : ∀t∈rows,r ∉ t.rs:=λt d f=>by
 obtain⟨b,a⟩:=(h.row t d).live r f
 rw[e]at a;cases a
theorem oc.new{H:ab}{f:List (Ref × aJ)}{rows:List Dt}(h:oc H f rows)(d t:Nat)(b:aJ):oc ((⟨d,t,H.gen d t,0⟩,some b) :: H) ((⟨d,t,H.gen d t,0⟩,b) :: f) rows:=by
 have a:H.get ⟨d,t,H.gen d t,0⟩=none:=h.fr d t _ 0 (aW _)
 refine(h.grow (FI h.fr rfl _) λq b' c=>?_).add (by rw[ab.jr,if_pos rfl]) (λp hp e=>?_) (h.live a)
 ·rw[ab.jr,if_neg (λe=>by rw[<-e,a]at c;cases c)];exact c
 ·have:=h.has p hp
  rw[e,a]at this;cases this
theorem oc.call{o:Option AV}{H:ab}{x:List (Ref × aJ)}{rows:List Dt}(h:oc H x rows){r:Ref}(D : ∃d t,r=⟨d,t,H.gen d t,0⟩){z:Nat}(I:z≠0){y:AV}{es':List AV}{mk:AV->AV}{n:Nat}{K:AV->ab->Prop}{refs:List Ref}
 (l : ∀p∈x,p.1 ∉ refs) (k : ∀t∈rows,∀q∈t.rs,q ∉ refs)
 (J:o=some (mk y)) (m : ∀r s bs,af r (n+3) y []=(s,bs)->af r depth (mk y) []=(mk s,bs)) (E:O6 z es' y) (hi : ∀e∈es',Qz e=true)
 (B : ∀c s i,oc c x (⟨z,s,es',i⟩ :: rows)->El H c refs->(∀q∈i,H.get q=none)->Dj z s es'=y->K (mk s) c) :
 iq (pX true H r refs o) K:=by
 refine LP D I J m E hi h.fr λc s i F f v j C=>?_
 refine B c s i ⟨F,λp hp=>v.same (l p hp) (h.has p hp),h.nd,λt a=>?_,λt a p hp=>?_,?_⟩ v j C
 ·rcases eU.1 a with rfl | a
  ·exact f
  ·exact(h.row t a).cy λq w b g=>v.same (k t a q w) g
 ·rcases eU.1 a with rfl | a
  ·intro A
   have:=j _ A
   rw[h.has p hp]at this;cases this
  ·exact h.sep t a p hp
 ·refine List.pairwise_cons.2 ⟨λu G q w A=>?_,h.dis⟩
  obtain⟨b,g⟩:=(h.row u G).live q A
  rw[j q w]at g;cases g
def th(fz:Bool)(z:Nat)(es:List AV)(x:AV)(a:List (Ref × aJ)):Prop:=(x = .v (.slice none 0 0)/\es=[]/\a=[]) \/∃r,x = .bD r 0 es.length none/\a=[(r,⟨z,es,true,fz⟩)]
def Lh(z:Nat)(es:List AV):AV->AV
 | .bD _ _ _ _ => .bl z es none
 | x=>x
theorem th.sl{fz:Bool}{z:Nat}{es:List AV}{x:AV}{a:List (Ref × aJ)}(h:th fz z es x a):Sl z es (Lh z es x):=by
 rcases h with ⟨rfl,rfl,rfl⟩ | ⟨r,rfl,rfl⟩
 ·exact .inl ⟨rfl,rfl⟩
 ·exact Sl.mk z es
theorem th.seen{fz:Bool}{z:Nat}{es:List AV}{x:AV}{a b:List (Ref × aJ)}{H:ab}{rows:List Dt}(h:th fz z es x a)(d:oc H b rows)(c : ∀p∈a,p∈b):(∀n,view H.get (n+1) x=some (Lh z es x))/\(∀n,ad H.get (n+1) x=a.map (·.1))/\x.cells=[x]/\x.one=true:=by
 rcases h with ⟨rfl,rfl,rfl⟩ | ⟨r,rfl,rfl⟩
 ·exact⟨λn=>rfl,λn=>rfl,rfl,rfl⟩
 ·have:=d.has (r,⟨z,es,true,fz⟩) (c _ (by simp))
  simp only at this
  exact⟨λn=>by simp[view,this,Lh],λn=>by simp[ad,this],rfl,rfl⟩
theorem oc.perm{H:ab}{b fs':List (Ref × aJ)}{rows:List Dt}(h:oc H b rows)(hp:b.Perm fs'):oc H fs' rows:=
 ⟨h.fr,λp a=>h.has p (hp.mem_iff.2 a),(hp.map _).nodup_iff.1 h.nd,h.row,λt c p a=>h.sep t c p (hp.mem_iff.2 a),h.dis⟩
theorem oc.ne{H:ab}{f:List (Ref × aJ)}{rows:List Dt}(h:oc H f rows){r q:Ref}{b c:aJ}(j:(r,b)∈f)(i:(q,c)∈f)(d:b≠c):r≠q:=λe=>by
 have g:=h.has _ j
 have a:=h.has _ i
 simp only[e]at g a
 rw[g]at a
 exact d (Ep a)
end Go.Ab
namespace Go.Proofs.YtehkjjcdkbcebaaGreat
open Go.Ab
attribute [local simp] bn aO aE aQ aP cy ld bp aG aU cZ cY aX bo ar bS fC
@[simp] theorem VP(a:UInt8)(b:UInt32):au env 136 [.agg [a8 a,bc b]]=some (aI (bad (decide (a<=15)))):=by
 refine ax rfl (by kernel_rfl) (BC _ _ _ λg=>?_)
 simp[ak, *,vE]
 repeat' ((first | apply td<;>intro h | apply oN<;>intro h | apply oO<;>intro h | apply oL<;>intro h | apply oM<;>intro h)<;>(try simp only[decide_eq_true_eq,decide_eq_false_iff_not,gE,rn,aY,jh]at h)<;>(try simp[ak, *]))
 all_goals (try grind [bad])
@[simp] theorem XT(b:Bool):au env 135 [aB b]=some (aI (bad b)):=by
 refine ax rfl (by kernel_rfl) (EN _ _ _ λg=>?_)
 cases b<;>simp[ak, *,yQ,bad]
@[simp] theorem Pa(a:UInt8)(b:UInt32)(n:UInt8):au env 114 [.agg [a8 a,bc b,a8 n]]=some (aI (bad (ej ⟨a,b,n⟩))):=by
 refine ax rfl (by kernel_rfl) (xf _ _ _ λg=>?_)
 simp[ak, *,qU,ej]
 repeat' ((first | apply td<;>intro h | apply oN<;>intro h | apply oO<;>intro h | apply oL<;>intro h | apply oM<;>intro h)<;>(try simp only[decide_eq_true_eq,decide_eq_false_iff_not,gE,rn,aY,jh]at h)<;>(try simp[ak, *]))
@[simp] theorem VQ(a:UInt8)(b:UInt32)(n:UInt8)(k:Int):au env 139 [.agg [a8 a,bc b,a8 n,aI k]]=some (aI (bad (uF ⟨⟨a,b,n⟩,k⟩))):=by
 refine ax rfl (by kernel_rfl) (EO _ _ _ λg=>?_)
 simp[ak, *,yR,uF]
 repeat' ((first | apply td<;>intro h | apply oN<;>intro h | apply oO<;>intro h | apply oL<;>intro h | apply oM<;>intro h)<;>(try simp only[decide_eq_true_eq,decide_eq_false_iff_not,gE,rn,aY,jh]at h)<;>(try simp[ak, *]))
@[simp] theorem Rp(a:UInt8)(b:UInt32)(n:UInt8)(k m:Int):au env 137 [.agg [a8 a,bc b,a8 n,aI k,aI m]]=some (aI (bad (k7 ⟨⟨⟨a,b,n⟩,k⟩,m⟩))):=by
 refine ax rfl (by kernel_rfl) (zi _ _ _ λg=>?_)
 cases d:uF ⟨⟨a,b,n⟩,k⟩ with
 | false=>simp[ak, *,j2,k7]
 | true=>
  have c:=D5 d
  simp only at c
  by_cases i:1<=m
  ·by_cases e:m<=64
   ·have f:=IntWalk.i64_in (k+m) (by omega)
    have h:=IntWalk.i64_in (k+m - 1) (by omega)
    simp[ak, *,j2,k7]
   ·simp[ak, *,j2,k7]
  ·simp[ak, *,j2,k7]
end Go.Proofs.YtehkjjcdkbcebaaGreat
namespace Go.Ab
def KC.enc(h:KC):List AV:=[a8 h.lv,bc h.cats,a8 h.num]
def uO.enc(i:uO):List AV:=[a8 i.h.lv,bc i.h.cats,a8 i.h.num,aI i.n]
def TX.enc(s:TX):List AV:=[a8 s.f.h.lv,bc s.f.h.cats,a8 s.f.h.num,aI s.f.n,aI s.many]
end Go.Ab
namespace Go.Proofs.YtehkjjcdkbcebaaGreat
open Go.Ab Go.ChangeShapes Go.WideShapes Go.RowKit
theorem EZ:KB env.P 45 (λ_=>True) (λp:UInt8 × UInt32=>[a8 p.1,bc p.2]):=by
 intro n c h
 have h:=m8 (P:=env.P) G9 h
 obtain⟨m,x,r,rfl,b,y,r',rfl,a,rfl⟩:=h
 obtain⟨v,_,rfl⟩:=Gn (P:=env.P) (t:=5) (by simp) _ _ b
 obtain⟨w,_,rfl⟩:=SA (P:=env.P) (t:=43) (by simp) _ _ a
 exact⟨(v,w),trivial,rfl⟩
theorem JY:KB env.P 47 (λ_=>True) KC.enc:=by
 intro n c h
 have h:=m8 (P:=env.P) G8 h
 obtain⟨m,x,r,rfl,a,y,r',rfl,b,rfl⟩:=h
 obtain⟨p,_,rfl⟩:=EZ _ _ a
 obtain⟨w,_,rfl⟩:=Gn (P:=env.P) (t:=5) (by simp) _ _ b
 exact⟨⟨p.1,p.2,w⟩,trivial,rfl⟩
theorem JX:KB env.P 49 (λ_=>True) uO.enc:=by
 intro n c h
 have h:=m8 (P:=env.P) G7 h
 obtain⟨m,x,r,rfl,a,y,r',rfl,b,rfl⟩:=h
 obtain⟨p,_,rfl⟩:=JY _ _ a
 obtain⟨i,_,rfl⟩:=tI (P:=env.P) (t:=3) (by simp) _ _ b
 exact⟨⟨p,i⟩,trivial,rfl⟩
theorem P4:KB env.P 51 (λ_=>True) TX.enc:=by
 intro n c h
 have h:=m8 (P:=env.P) G6 h
 obtain⟨m,x,r,rfl,a,y,r',rfl,b,rfl⟩:=h
 obtain⟨p,_,rfl⟩:=JX _ _ a
 obtain⟨i,_,rfl⟩:=tI (P:=env.P) (t:=3) (by simp) _ _ b
 exact⟨⟨p,i⟩,trivial,rfl⟩
theorem MQ{n:Nat}{b:List AV}(h:yV env.P n 52 b) : ∃(l:List Int) (x:AV),(∀a∈l, -2147483648<=a/\a<=2147483647)/\b=[x]/\Sl 1 (rows l) x:=by
 obtain⟨l,x,c,rfl,s⟩:=BR (P:=env.P) MH MC PA (P3 (by simp)) h
 exact⟨l,x,c,rfl,s⟩
theorem MR{n:Nat}{x:AV}(h:L4 env.P n 3 x) : ∃i:Int,(-9223372036854775808<=i/\i<=9223372036854775807)/\x=aI i:=by
 obtain⟨i,hi,e⟩:=tI (P:=env.P) (t:=3) (by simp) _ _ (h.cell (by simp))
 cases e
 exact⟨i,hi,rfl⟩
def WV(p:dY × AV):List AV:=[a8 p.1.kind,a8 p.1.h.lv,bc p.1.h.cats,a8 p.1.h.num,aI p.1.serial,a8 p.1.s.f.h.lv,bc p.1.s.f.h.cats,a8 p.1.s.f.h.num,aI p.1.s.f.n,aI p.1.s.many,
 a8 p.1.a.h.lv,bc p.1.a.h.cats,a8 p.1.a.h.num,aI p.1.a.n,a8 p.1.to.lv,bc p.1.to.cats,p.2]
theorem No:KB env.P 54 (λp:dY × AV=>Sl 1 (rows p.1.l) p.2 /\∀a∈p.1.l, -2147483648<=a/\a<=2147483647) WV:=by
 intro n z h
 have h:=m8 (P:=env.P) G5 h
 obtain⟨m,v,A,rfl,o,w,r2,rfl,b,x,r3,rfl,c,C,r4,rfl,j,x5,r5,rfl,i,D,r6,rfl,q,B,u,rfl,f,rfl⟩:=h
 obtain⟨k,_,rfl⟩:=Gn (P:=env.P) (t:=5) (by simp) _ _ o
 obtain⟨g,_,rfl⟩:=JY _ _ b
 obtain⟨d,_,rfl⟩:=tI (P:=env.P) (t:=3) (by simp) _ _ c
 obtain⟨s,_,rfl⟩:=P4 _ _ j
 obtain⟨a,_,rfl⟩:=JX _ _ i
 obtain⟨t,_,rfl⟩:=EZ _ _ q
 obtain⟨l,y,e,rfl,sl⟩:=MQ f
 exact⟨(⟨k,g,d,s,a,⟨t.1,t.2⟩,l⟩,y),⟨sl,e⟩,rfl⟩
theorem own:ownKnob Tryz.prog.godebug=none:=by kernel_rfl
theorem kids:Kids Tryz.prog (· < Tryz.prog.types.size):=kids_rows (by kernel_rfl) (by kernel_rfl)
end Go.Proofs.YtehkjjcdkbcebaaGreat
namespace Go.Proofs.YtehkjjcdkbcebaaGreat
open Go.Ab
theorem Oq:env.Ok (zJ env):=QN NU (by kernel_rfl) Tu (λf t h=>by cases h) (λf args H y a h=>by cases h)
def oq:List FuncId:=[42,49,86,89,93,101,106,129,130,23,27,55]
def SY:List FuncId:=[23,27,55,4,21]
def q9:List FuncId:=21 :: ld
noncomputable def V4:FuncId->List AV->ab->Option (AV × ab):=λf args H=>if f=21 then xA (au env f) args H else none
noncomputable def a9:Env:=JN (s8 Tryz.prog fns oq q9 (BM [(19,13,18),(16,1,77777),(55,1,88888)]) (sL [(49,9,0,[(6,50),(6,54)]),(13,5,4,[(3,2)]),(67,5,4,[(3,2)]),(48,5,4,[(6,2)]),(7,6,0,[(3,5)]),(8,6,0,[(3,5)]),(72,19,0,[(76,82),(76,83),(83,86)]),(15,12,0,[(20,23)]),(52,10,0,[(56,58)]),(14,5,3,[(15,2)]),(35,21,0,[(36,52),(37,52),(38,52),(41,52),(42,52),(43,52),(47,52),(48,52),(49,52)]),(145,8,4,[(148,2)])]) (Ie [(19,13,18),(16,1,77777),(55,1,88888)]) [] (λ_=>false) (λ_=>none) V4 IT) (λf args=>if SY.contains f then none else au env f args)
@[simp] noncomputable def Ra(h:ab)(n:Nat)(v a b:AV)(k:AV->ab->Prop):Prop:=iq (aT a9 true (au a9) (dA a9 0) h (Ref.mk 0 n (ab.gen h 0 n) 0) (some (.fn (.func 21) [] [])) [v,a,b]) k
@[simp] noncomputable def Q9(h:ab)(n:Nat)(v:AV)(k:AV->ab->Prop):Prop:=iq (aT a9 true (au a9) (dA a9 0) h (Ref.mk 0 n (ab.gen h 0 n) 0) (some (.fn (.func 33) [] [])) [v]) k
@[simp] noncomputable def Q8(h:ab)(n:Nat)(v a:AV):=aT a9 false (au a9) (dA a9 0) h (Ref.mk 0 n (ab.gen h 0 n) 0) (some (.fn (.func 32) [] [])) [v,a]
@[simp] noncomputable def Q7(h:ab)(n:Nat)(v a:AV):=aT a9 false (au a9) (dA a9 0) h (Ref.mk 0 n (ab.gen h 0 n) 0) (some (.fn (.func 29) [] [])) [v,a]
@[simp] noncomputable def Q6(h:ab)(n:Nat)(v a:AV):=aT a9 true (au a9) (dA a9 0) h (Ref.mk 0 n (ab.gen h 0 n) 0) (some (.fn (.func 29) [] [])) [v,a]
theorem QK:Ea (s8 Tryz.prog fns oq q9 (BM [(19,13,18),(16,1,77777),(55,1,88888)]) (sL [(49,9,0,[(6,50),(6,54)]),(13,5,4,[(3,2)]),(67,5,4,[(3,2)]),(48,5,4,[(6,2)]),(7,6,0,[(3,5)]),(8,6,0,[(3,5)]),(72,19,0,[(76,82),(76,83),(83,86)]),(15,12,0,[(20,23)]),(52,10,0,[(56,58)]),(14,5,3,[(15,2)]),(35,21,0,[(36,52),(37,52),(38,52),(41,52),(42,52),(43,52),(47,52),(48,52),(49,52)]),(145,8,4,[(148,2)])]) (Ie [(19,13,18),(16,1,77777),(55,1,88888)])) fns=true:=by kernel_rfl
theorem TB:a9.Ok (zJ a9):=MK (λf args y h=>by
 split at h
 ·cases h
 ·exact D1 Oq h) (by kernel_rfl) QK (λf t h=>by cases h) (λf args H y c h=>by
 unfold V4 at h
 split at h
 ·rename_i e;subst e;exact L2 (λb y a=>D1 Oq a) h
 ·cases h)
theorem kO{f:FuncId}{args:List AV}{y:AV}(h:SY.contains f=false)(a:au env f args=some y):au a9 f args=some y:=LB (by
 show(if SY.contains f then none else au env f args)=some y
 rw[h]
 exact a)
@[simp] theorem Yc{f:FuncId}(h:q9.contains f=false):(a9.mode f == 2)=false:=by
 show((if oq.contains f then (if q9.contains f then 3 else 1) else if q9.contains f then 2 else 0) == 2)=false
 rw[h]
 split<;>rfl
@[simp] theorem V8{f:FuncId}(h:q9.contains f=false):(a9.mode f == 3)=false:=by
 show((if oq.contains f then (if q9.contains f then 3 else 1) else if q9.contains f then 2 else 0) == 3)=false
 rw[h]
 split<;>rfl
theorem S9{f:FuncId}(h:oq.contains f=false):pG (a9.mode f)=false:=by
 show pG (if oq.contains f then (if q9.contains f then 3 else 1) else if q9.contains f then 2 else 0)=false
 rw[h]
 cases q9.contains f<;>rfl
@[simp] theorem WD{f:FuncId}(h:oq.contains f=false)(x:AV)(H:ab)(y:AV):kE a9 f x H y↔view H.get depth x=some y:=D6 (S9 h) x H y
theorem S8{f:FuncId}(h:oq.contains f=true):pG (a9.mode f)=true:=by
 show pG (if oq.contains f then (if q9.contains f then 3 else 1) else if q9.contains f then 2 else 0)=true
 rw[h]
 cases q9.contains f<;>rfl
@[simp] theorem WC{f:FuncId}(h:oq.contains f=true)(x:AV)(H:ab)(y:AV):kE a9 f x H y↔(ad H.get depth x).Nodup/\bj H.get depth x=some y:=Ai (S8 h) x H y
theorem Cy{dep:Nat}{f:FuncId}{args:List AV}{H:ab}{z:AV × ab}(h:a9.thrSpec f args H=some z):dA a9 dep (.fn f) args H=some z:=
 rF.2 ⟨0,λm _=>by unfold dC;simp only[h]⟩
theorem Ef{f:FuncId}(a:(a9.mode f == 2)=true)(dep:Nat)(H:ab)(r:Ref)(first args captured:List AV) :
 aT a9 true (au a9) (dA a9 dep) H r (some (.fn (.func f) first captured)) args=dA a9 dep (.fn f) (first++args++captured) H:=by
 have h:a9.mode f=2:=by simpa using a
 simp[aT,iZ,kK,jB,Aw,h]
end Go.Proofs.YtehkjjcdkbcebaaGreat
