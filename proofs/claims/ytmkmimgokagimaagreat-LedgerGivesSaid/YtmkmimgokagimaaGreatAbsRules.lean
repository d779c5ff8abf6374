/-
  The arguments of a law: from what is read before the call to data. No statement of a seat is proved here.
-/
import Derived.ChangeKeysEq
import Derived.Laws.Strings
import Derived.Test.YtmkmimgokagimaaGreatAbsCond
set_option linter.unusedVariables false
set_option linter.unusedSimpArgs false
set_option linter.unusedSectionVars false
set_option linter.unnecessarySimpa false
set_option linter.defProp false
namespace Go.Ab
open Go.ChangeShapes Go.WideShapes Go.RowKit
def No(a:Bool)(xs:List AV):AV:=match a,xs with
 | false,[x]=>x
 | _,xs => .agg xs
def Oz(S:List AV->Prop):Nat->List AV->Prop
 | 0,xs=>xs=[]
 | k+1,xs =>∃a b,xs=a++b/\S a/\Oz S k b
def Xr(S:TypeId->List AV->Prop):List Field->List AV->Prop
 | [],xs=>xs=[]
 | f :: c,xs =>∃a b,xs=a++b/\S f.type a/\Xr S c b
def CT(P:Program):Nat->TypeId->List AV->Prop
 | 0,_,_=>False
 | n+1,t,xs=>match P.underlying t with
  | some .bool =>∃b,xs=[aB b]
  | some (.int k) =>∃i,(k.min<=i/\i<=k.max)/\xs=[.v (.int k i)]
  | some .string =>∃s:ByteArray,xs=[aS s]
  | some (.slice e)=>xs=[bI] \/∃es:List (List AV),xs=[.cC (P.cellsOf e) (es.map (No ((dL P e).getD false))) none] /\∀x∈es,CT P n e x
  | some (.struct a)=>Xr (CT P n) a.toList xs
  | some (.array k e)=>Oz (CT P n e) k xs
  | _=>False
def layout(P:Program):List Field->Nat->Option Nat
 | [],o=>some o
 | f :: a,o=>if f.offset=o then layout P a (o+P.cellsOf f.type) else none
def plain(P:Program):Nat->TypeId->Bool
 | 0,_=>false
 | n+1,t=>match P.underlying t with
  | some .bool | some (.int _) | some .string=>P.cellsOf t == 1
  | some (.slice e)=>P.cellsOf t == 1&&plain P n e&&decide (0<P.cellsOf e)
  | some (.struct a)=>a.toList.all (λf=>plain P n f.type)&&layout P a.toList 0 == some (P.cellsOf t)
  | some (.array k e)=>plain P n e&&P.cellsOf t == k * P.cellsOf e
  | _=>false
def CT.facts{P:Program} : ∀(n:Nat)(t:TypeId)(xs:List AV),plain P n t=true->CT P n t xs->xs.length=P.cellsOf t /\∀x∈xs,x.one=true:=by
 intro n;induction n with
 | zero=>intro t xs h;simp[plain]at h
 | succ n G=>
  intro t xs hp c;unfold plain at hp;unfold CT at c;cases hu:P.underlying t with
  | none=>rw[hu]at c;exact c.elim
  | some d=>
   rw[hu]at hp c;cases d<;>dsimp only at hp c<;>try (exact c.elim)
   ·obtain⟨b,rfl⟩:=c;simp at hp;exact⟨by simp[hp],by simp[AV.one]⟩
   ·obtain⟨i,_,rfl⟩:=c;simp at hp;exact⟨by simp[hp],by simp[AV.one]⟩
   ·obtain⟨s,rfl⟩:=c;simp at hp;exact⟨by simp[hp],by simp[AV.one]⟩
   ·rename_i e;simp only[aT,iQl]at hp;rw[hp.1.1];rcases c with rfl | ⟨es,rfl,_⟩
    ·simp[AV.one]
    simp[AV.one]
   ·rename_i k e;simp only[aT,iQl]at hp;rw[hp.2];have : ∀(k:Nat)(xs:List AV),Oz (CT P n e) k xs->xs.length=k * P.cellsOf e /\∀x∈xs,x.one=true:=by
     intro k;induction k with
     | zero=>intro xs h;simp only[Oz]at h;subst h;simp
     | succ k y=>
      intro xs h;obtain⟨a,b,rfl,z,u⟩:=h;obtain⟨j,p⟩:=G e a hp.1 z;obtain⟨D,E⟩:=y b u;refine⟨by rw[mI,j,D,Ku];omega,λx v=>?_⟩;rcases iN.1 v with h | h
      ·exact p x h
      exact E x h
    exact this k xs c
   rename_i J;simp only[aT,iQl,gx]at hp;have : ∀(l:List Field)(o:Nat)(xs:List AV),(∀f∈l,plain P n f.type=true)->Xr (CT P n) l xs->(∀m,layout P l o=some m->o+xs.length=m) /\∀x∈xs,x.one=true:=by
    intro l;induction l with
    | nil=>intro o xs _ h;simp only[Xr]at h;subst h;exact⟨λm g=>by simp[layout]at g;simp[g],by simp⟩
    | cons f l q=>
     intro o xs F h;obtain⟨a,b,rfl,z,u⟩:=h;obtain⟨j,p⟩:=G f.type a (F f (gy ..)) z;obtain⟨D,E⟩:=q (o+P.cellsOf f.type) b (λf I=>F f (fO _ I)) u;refine⟨λm g=>?_,λx v=>?_⟩
     ·unfold layout at g;split at g;·have:=D m g;rw[mI,j];omega
      cases g
     rcases iN.1 v with h | h
     ·exact p x h
     exact E x h
   obtain⟨j,p⟩:=this J.toList 0 xs hp.1 c;exact⟨by have:=j _ hp.2;omega,p⟩
def P0{a:Bool}{xs:List AV}(b : ∀x∈xs,x.one=true):(No a xs).cells=xs:=by
 unfold No;split;·rename_i x;have:=b x (by simp);cases x<;>first | rfl | (simp[AV.one]at this)
 rfl
section
variable{H:Type}{enc:TypeId × Value->H}{P:Program}{w:World}{A:Nat}{B:Nat->Bool}{C:Bool}
abbrev vO(w:World):Mem:=λb o=>w.cell? ⟨b,o,none⟩
def PU : ∀(n m:Nat)(t:TypeId)(cs:List Value)(d:DataW H)(ps:List MemPlace),plain P m t=true->DataW.trod enc P w A B C n t cs=some (d,ps) ->
 ∃xs:List AV,CT P m t xs/\mh (vO w) dq xs cs:=by
 intro n;induction n with
 | zero=>intro m t cs d ps _ h;simp[DataW.trod]at h
 | succ n ih=>
  intro m t cs d ps hp h;cases m with
  | zero=>simp[plain]at hp
  | succ m=>
  have hp0:=hp;unfold plain at hp;unfold CT;cases hu:P.underlying t with
  | none=>rw[hu]at hp;simp at hp
  | some dd=>
   rw[hu]at hp;unfold DataW.trod at h;rw[hu]at h;have p : ∀ {x:AV} {c:Value},VR (vO w) dq x c->mh (vO w) dq [x] [c]:=λh=>mh.cons h mh.nil;cases dd<;>dsimp only at hp ⊢ <;> try (simp at hp;done)
   ·rcases cs with _ | ⟨c,_ | ⟨c',cs⟩⟩
    ·simp at h
    ·cases c<;>first | (simp at h;done) | skip
     rename_i b;exact⟨[aB b],⟨b,rfl⟩,p (.v rfl)⟩
    simp at h
   ·rename_i k;rcases cs with _ | ⟨c,_ | ⟨c',cs⟩⟩
    ·simp at h
    ·cases c<;>first | (simp at h;done) | skip
     rename_i k' i;dsimp only at h;split at h;·rename_i hk;obtain⟨rfl,hw⟩:=hk;exact⟨[.v (.int k' i)],⟨i,by simpa [Lit.wf] using hw,rfl⟩,p (.v rfl)⟩
     cases h
    simp at h
   ·rcases cs with _ | ⟨c,_ | ⟨c',cs⟩⟩
    ·simp at h
    ·cases c<;>first | (simp at h;done) | skip
     rename_i s;exact⟨[aS s],⟨s,rfl⟩,p (.v rfl)⟩
    simp at h
   ·rename_i e;simp only[aT,iQl,iQb]at hp;rcases cs with _ | ⟨c,_ | ⟨c',cs⟩⟩
    ·simp at h
    ·cases c<;>first | (simp at h;done) | skip
     rename_i a len cap;cases a with
     | none=>have hlc:len=0/\cap=0:=(by cases len<;>cases cap<;>simp at h ⊢);obtain⟨rfl,rfl⟩:=hlc;exact⟨[bI],.inl rfl,p (.v rfl)⟩
     | some a=>
      dsimp only at h;split at h
      ·rename_i hb;simp only[ib,bG]at h;obtain⟨elems,hel,_⟩:=h;have hlen:elems.length=len:=by simpa using gH hel
       have each : ∀i,i<len ->∃(xs:List AV) (q:List Value),CT P m e xs/\mh (vO w) dq xs q/\w.cells? A (a.add (i * P.cellsOf e)) (P.cellsOf e)=some q:=(by intro i F;obtain⟨y,N,J⟩:=lT hel i i (by simp[F]);simp only[ib]at J;obtain⟨q,hvs,J⟩:=J;obtain⟨xs,E,G⟩:=ih m e q y.1 y.2 hp.1.2 J;exact⟨xs,q,E,G,hvs⟩);have : ∀k,k<=len ->∃es:List (List AV),es.length=k /\∀i xs,es[i]?=some xs ->∃q:List Value,CT P m e xs/\mh (vO w) dq xs q/\w.cells? A (a.add (i * P.cellsOf e)) (P.cellsOf e)=some q:=by
        intro k;induction k with
        | zero=>intro _;exact⟨[],rfl,λi xs h=>by simp at h⟩
        | succ k Z=>
         intro hk;obtain⟨es,E,G⟩:=Z (by omega);obtain⟨xs,q,W⟩:=each k (by omega);refine⟨es++[xs],by simp[E],λi ys N=>?_⟩;rcases eC i k with F | F
         ·rw[kA (by omega)]at N;exact G i ys N
         have:i=k:=(by have:=(ew.1 N).1;simp[E]at this;omega);subst this;rw[jP (by omega)]at N;simp[E]at N;subst N;exact⟨q,W⟩
       obtain⟨es,hes,D⟩:=this len (cH _);have Q : ∀xs∈es,(No ((dL P e).getD false) xs).cells=xs/\xs.length=P.cellsOf e:=(by intro xs g;obtain⟨i,F,rfl⟩:=qP g;obtain⟨q,E,G,W⟩:=D i es[i] (dy F);obtain⟨T,h5⟩:=E.facts m e _ hp.1.2;exact⟨P0 h5,T⟩);refine⟨[.cC (P.cellsOf e) (es.map (No ((dL P e).getD false))) none],.inr ⟨es,rfl,λxs g=>?_⟩,p ?_⟩;·obtain⟨i,F,rfl⟩:=qP g;obtain⟨q,E,_⟩:=D i es[i] (dy F);exact E
       have hlm:(es.map (No ((dL P e).getD false))).length=len:=(by simp[hes]);have I : ∀i j,i<len->j<P.cellsOf e ->∃xs q,es[i]?=some xs/\mh (vO w) dq xs q/\(∀x∈xs,x.one=true)/\xs.length=P.cellsOf e/\vO w a.block (a.off+(i * P.cellsOf e+j))=q[j]?/\(a.spot=none):=by
        intro i j F S;have hi':i<es.length:=by omega
        obtain⟨q,E,G,W⟩:=D i es[i] (dy hi');obtain⟨T,h5⟩:=E.facts m e _ hp.1.2;obtain⟨hb',hvl,hc⟩:=World.cells?_some W;have hj':=hc j S;have hsp:a.spot=none:=by
         obtain⟨vs0,g1,g2,g3⟩:=D 0 es[0] (dy (by omega));obtain⟨_,hvl0,hc0⟩:=World.cells?_some g3;have:=hc0 0 hp.2;rw[Nat.zero_mul]at this;have ha0:(a.add 0).add 0=a:=by simp[Addr.add]
         rw[ha0]at this;unfold World.cell? at this;cases hs:a.spot with
         | none=>rfl
         | some z=>
          exfalso;have hl0:0<vs0.length:=by omega
          rw[dy hl0]at this;split at this;·rw[hs]at this;simp at this
          simp at this
        refine⟨es[i],q,dy hi',G,h5,T,?_,hsp⟩;rw[<-hj'];unfold vO;congr 1;rw[kF hsp,gM,gM,GL]
       have:=VR.cC (M:=vO w) (ι:=dq) (esz:=P.cellsOf e) (es:=es.map (No ((dL P e).getD false))) (cap:=none) (a:=a) (c:=cap)
        (λi j=>(vO w a.block (a.off+(i * P.cellsOf e+j))).getD Go.undef) ?_ (by rw[hlm];exact hb.2.1) (λk hk=>by cases hk) ?_ ?_ ?_
       ·rw[hlm]at this;exact this
       ·rcases Ex len with h0 | h0
        ·right;have:es=[]:=by apply C4;omega
         simp[this]
        left;obtain⟨_,_,_,_,_,_,_,hs⟩:=I 0 0 h0 hp.2;exact hs
       ·intro i j F S;rw[hlm]at F;obtain⟨xs,q,E,G,W,T,h5,_⟩:=I i j F S;have K:j<q.length:=by rw[<-G.1,T];exact S
        have hjx:j<xs.length:=by rw[T];exact S
        rw[h5,dy K];refine⟨rfl,?_⟩;have:=G.2 j xs[j] q[j] (dy hjx) (dy K);exact this.one (W _ (je ..))
       ·intro x hx;obtain⟨xs,g,rfl⟩:=jO.1 hx;rw[(Q xs g).1];exact(Q xs g).2
       intro i j x c hx hc;rw[k5,bG]at hx;obtain⟨xs,g,rfl⟩:=hx;have R:xs∈es:=dJ g;rw[(Q xs R).1]at hc;have F:i<len:=by have:=(ew.1 g).1;omega
       have S:j<P.cellsOf e:=by have:=(ew.1 hc).1;rw[(Q xs R).2]at this;exact this
       obtain⟨xs',q,E,G,W,T,h5,_⟩:=I i j F S;rw[g]at E;cases E;have K:j<q.length:=by rw[<-G.1,T];exact S
       show VR _ _ c ((vO w a.block (a.off+(i * P.cellsOf e+j))).getD Go.undef);rw[h5,dy K];exact G.2 j c q[j] hc (dy K)
      cases h
    simp at h
   ·rename_i k e;simp only[aT,iQl]at hp;have h:cs.length=P.cellsOf t /\∃xs,((List.range k).mapM λi=>DataW.trod enc P w A B C n e ((cs.drop (i * P.cellsOf e)).take (P.cellsOf e)))=some xs:=by
     dsimp only at h;split at h;·rename_i U;simp only[bG]at h;obtain⟨xs,g,_⟩:=h;exact⟨U,xs,g⟩
     cases h
    obtain⟨U,ys,V⟩:=h;rw[hp.2]at U;have : ∀(k' L:Nat),L+k'=k ->∃xs,Oz (CT P m e) k' xs/\mh (vO w) dq xs (cs.drop (L * P.cellsOf e)):=by
     intro k';induction k' with
     | zero=>intro L F;refine⟨[],rfl,?_⟩;rw[iQJ (by rw[U,<-F];simp)];exact mh.nil
     | succ k' Z=>
      intro L F;obtain⟨b,X,Y⟩:=Z (L+1) (by omega);obtain⟨y,_,J⟩:=lT V L L (by rw[Gx (by omega)]);obtain⟨a,ha1,O⟩:=ih m e _ y.1 y.2 hp.1 J;refine⟨a++b,⟨a,b,rfl,ha1,X⟩,?_⟩;have:cs.drop (L * P.cellsOf e)=(cs.drop (L * P.cellsOf e)).take (P.cellsOf e)++cs.drop ((L+1) * P.cellsOf e):=by
       rw[Ku,<-Es,KH]
      rw[this];exact O.append Y
    obtain⟨xs,E,G⟩:=this k 0 (by omega);exact⟨xs,E,by simpa using G⟩
   rename_i fs;simp only[aT,iQl,gx]at hp;have h:cs.length=P.cellsOf t /\∃xs,(fs.toList.mapM λf=>DataW.trod enc P w A B C n f.type ((cs.drop f.offset).take (P.cellsOf f.type)))=some xs:=by
    dsimp only at h;split at h;·rename_i U;simp only[bG]at h;obtain⟨xs,g,_⟩:=h;exact⟨U,xs,g⟩
    cases h
   obtain⟨U,ys,V⟩:=h;have : ∀(l:List Field)(o:Nat),(∀f∈l,plain P m f.type=true)->(∀f∈l,∃y,DataW.trod enc P w A B C n f.type ((cs.drop f.offset).take (P.cellsOf f.type))=some y)->layout P l o=some cs.length ->
    ∃xs,Xr (CT P m) l xs/\mh (vO w) dq xs (cs.drop o):=by
    intro l;induction l with
    | nil=>intro o _ _ u;simp[layout]at u;refine⟨[],rfl,?_⟩;rw[iQJ (by omega)];exact mh.nil
    | cons f l ihl=>
     intro o hpl htr u;unfold layout at u;split at u
     ·rename_i ho;obtain⟨b,X,Y⟩:=ihl (o+P.cellsOf f.type) (λf J=>hpl f (fO _ J)) (λf J=>htr f (fO _ J)) u;obtain⟨y,J⟩:=htr f (gy ..);obtain⟨a,ha1,O⟩:=ih m f.type _ y.1 y.2 (hpl f (gy ..)) J;rw[ho]at O;refine⟨a++b,⟨a,b,rfl,ha1,X⟩,?_⟩;have:cs.drop o=(cs.drop o).take (P.cellsOf f.type)++cs.drop (o+P.cellsOf f.type):=by
       rw[<-Es,KH]
      rw[this];exact O.append Y
     cases u
   obtain⟨xs,E,G⟩:=this fs.toList 0 hp.1 (λf J=>by
    obtain⟨i,F,rfl⟩:=qP J;obtain⟨y,_,N⟩:=lT V i fs.toList[i] (dy F);exact⟨y,N⟩) (by rw[U];exact hp.2)
   exact⟨xs,E,by simpa using G⟩
def TO(P:Program)(n:Nat)(t:TypeId)(x:AV):Prop:=
 match dL P t with
 | some true =>∃xs,x = .agg xs/\CT P n t xs
 | _=>CT P n t [x]
def QB(P:Program)(n:Nat):List TypeId->List AV->Prop
 | [],[]=>True
 | t :: a,x :: xs=>TO P n t x/\QB P n a xs
 | _,_=>False
def PT{m:Nat}{t:TypeId}{v:Value}{d:DataW H}{ps:List MemPlace}(hp:plain P m t=true)(c:Value.okWide P w .any A t v){g:Nat}(h:DataW.Trod enc P w g B C t v d ps) :
 ∃x:AV,TO P m t x/\VR (vO w) dq x v:=by
 obtain⟨n,u⟩:=h;obtain⟨xs,k,l⟩:=PU n m t v.cells.toList d ps hp u;unfold TO;by_cases a:dL P t=some true
 ·rw[a];have : ∃cs,v = .agg cs:=by
   unfold dL at a;unfold Value.okWide at c;cases hu:P.underlying t with
   | none=>rw[hu]at a;simp at a
   | some i=>rw[hu]at a c;cases i<;>simp at a<;>(obtain⟨cs,rfl,_⟩:=c;exact⟨cs,rfl⟩)
  obtain⟨cs,rfl⟩:=this;exact⟨.agg xs,⟨xs,rfl,k⟩,VR.qA.2 l⟩
 have j:v.cells = #[v] /\∃x,xs=[x]:=by
  have q:=k.facts m t xs hp;cases m with
  | zero=>simp[plain]at hp
  | succ m=>
  have b:=hp;unfold plain at b;unfold dL at a;unfold Value.okWide at c;cases hu:P.underlying t with
  | none=>rw[hu]at b;simp at b
  | some i=>
   rw[hu]at b a c;have f:P.cellsOf t=1->Cell.okWide P w .any A t v->v.cells = #[v] /\∃x,xs=[x]:=by
    intro p e;refine⟨?_,?_⟩
    ·cases v<;>try rfl
     exfalso;unfold Cell.okWide at e;rw[hu]at e;cases i<;>simp at b a<;>(simp[Cell.ok,hu]at e)
    have:=q.1;rw[p]at this;match xs,this with
    | [x],_=>exact⟨x,rfl⟩
   cases i<;>simp at b a;·exact f b c
   ·exact f b c
   ·exact f b c
   exact f b.1.1 c
 obtain⟨j,x,rfl⟩:=j;rw[j]at l;refine⟨x,?_,l.2 0 x v rfl rfl⟩;have:(match dL P t with | some true =>∃xs,x = .agg xs/\CT P m t xs | _=>CT P m t [x])=CT P m t [x]:=by
  split;·rename_i o;exact(a o).elim
  rfl
 rw[this];exact k
def VP{m:Nat}{a:Nat} : ∀ {b:List TypeId} {e:List Value} {ds:List (DataW H)} {ps:List MemPlace},b.all (plain P m)=true->(∀(j:Nat) t v,b[j]?=some t->e[j]?=some v->Value.okWide P w .any A t v) ->
 DataW.TrodAll enc P w a B C b e ds ps ->∃xs:List AV,QB P m b xs/\mh (vO w) dq xs e:=by
 intro b;induction b with
 | nil=>intro e ds ps _ _ h;obtain⟨rfl,_,_⟩:=trodAll_nil h;exact⟨[],trivial,mh.nil⟩
 | cons t b y=>intro e ds ps hp c h;obtain⟨v,o,d,u,p,q,rfl,rfl,rfl,k,n⟩:=trodAll_cons h;simp only[vm,aT]at hp;obtain⟨x,f,i⟩:=PT hp.1 (c 0 t v rfl rfl) k;obtain⟨xs,l,g⟩:=y hp.2 (λj t v k n=>c (j+1) t v k n) n;exact⟨x :: xs,⟨f,l⟩,mh.cons i g⟩
end
def Ml{H:Type}{enc:TypeId × Value->H}{P:Program}{w:World}{A:Nat}{B:Nat->Bool}{C:Bool} : ∀ {a:List TypeId} {b:List Value} {ds:List (DataW H)} {ps:List MemPlace},
 DataW.TrodAll enc P w A B C a b ds ps->ds.length=a.length:=by
 intro a;induction a with
 | nil=>intro b ds ps h;obtain⟨_,rfl,_⟩:=trodAll_nil h;rfl
 | cons t a g=>intro b ds ps h;obtain⟨v,c,d,e,p,q,rfl,rfl,rfl,_,f⟩:=trodAll_cons h;simp[g f]
def BE{P:Program}{n:Nat}{t:TypeId}{b:List TypeId}{xs:List AV}(h:QB P n (t :: b) xs) : ∃x a,xs=x :: a/\TO P n t x/\QB P n b a:=by
 cases xs with| nil=>exact h.elim| cons x xs=>exact⟨x,xs,rfl,h.1,h.2⟩
def UL{P:Program}{n:Nat}{xs:List AV}(h:QB P n [] xs):xs=[]:=by
 cases xs with| nil=>rfl| cons x xs=>exact h.elim
def Jx{E:Env}{ok:Array Oper->Bool}(L:E.Ok ok){T:TypeId->Prop}(K:Kids E.P T)(M : ∀t e,T t->E.P.underlying t=some (.slice e)->0<E.P.cellsOf e){H:Type}{enc:TypeId × Value->H}{id:FuncId}{f:Func}{s:ChangeSpec}{apart fresh a c:Bool}{m:Nat}
 (D : ∀t∈f.params.toList,T t) (hp:f.params.toList.all (plain E.P m)=true) (F:s.vars=[]) (J : ∀ds:List (DataW H),ds.length=f.params.toList.length->s.fn H ds = { results:=[.lit (.bool true)],args:=ds}) (l:LK E.P f=true)
 (h : ∀xs,QB E.P m f.params.toList xs->ax E id xs=some (.v (.bool true)))
 (W:World) (A:Nat) (args:Array Value) (ds Q:List (DataW H)) (b:List MemPlace) (g : ∀(j:Nat) t v,f.params[j]?=some t->args[j]?=some v->Value.okWide E.P W .any A t v)
 (z:DataW.Whole enc E.P f.params.toList s.vars apart W args.toList ds Q b) :
 Calls E.P id args W λe y =>∃v,e = .returned v/\s.post enc E.P f apart fresh a c W args v y:=by
 obtain⟨S,l,R⟩:=Qu l;have i:=z;obtain⟨p,q,x,U,rfl,N,O⟩:=i;obtain⟨xs,o,k⟩:=VP hp (λj t v G I=>g j t v (by simpa using G) (by simpa using I)) x;obtain⟨n,d⟩:=Wq (h xs o);have u:ds.length=f.params.toList.length:=Ml x;refine(Qr L d (us:=args.toList) k).mono λe y ⟨he,hk⟩=>⟨_,he,?_⟩;exact SX K M D F z (J ds u) l R hk
end Go.Ab
namespace Go.Ab
def OI{b:Type}(P:Program)(t:TypeId)(ok:b->Prop)(enc:b->List AV):Prop :=∀n xs,CT P n t xs ->∃a,ok a/\xs=enc a
def isBool(P:Program)(t:TypeId):Bool:=match P.underlying t with | some .bool=>true | _=>false
def jS(P:Program)(t:TypeId):Option (List TypeId):=match P.underlying t with | some (.struct a)=>some (a.toList.map (·.type)) | _=>none
def MN{P:Program}{t:TypeId}(h:isBool P t=true):OI P t (λ_=>True) λb:Bool=>[aB b]:=by
 intro n xs a;cases n with
 | zero=>exact a.elim
 | succ n=>
  unfold isBool at h;unfold CT at a;split at h;·rename_i c;rw[c]at a;obtain⟨b,rfl⟩:=a;exact⟨b,trivial,rfl⟩
  cases h
def Gh{P:Program}{t:TypeId}{k:IntKind}(h:intKind P t=some k):OI P t (λi:Int=>k.min<=i/\i<=k.max) λi:Int=>[.v (.int k i)]:=by
 intro n xs a;cases n with
 | zero=>exact a.elim
 | succ n=>unfold CT at a;rw[DT h]at a;obtain⟨i,b,rfl⟩:=a;exact⟨i,b,rfl⟩
def tU{P:Program}{t:TypeId}(h:intKind P t=some .i64):OI P t (λi:Int => -9223372036854775808<=i/\i<=9223372036854775807) λi:Int=>[aI i]:=λn xs a=>by
 obtain⟨i,b,rfl⟩:=Gh h n xs a;exact⟨i,b,rfl⟩
def Yr{P:Program}{t:TypeId}(h:intKind P t=some .i32):OI P t (λi:Int => -2147483648<=i/\i<=2147483647) λi:Int=>[.v (.int .i32 i)]:=λn xs a=>by
 obtain⟨i,b,rfl⟩:=Gh h n xs a;exact⟨i,b,rfl⟩
def Q5{P:Program}{t:TypeId}(h:intKind P t=some .u8):OI P t (λ_=>True) λb:UInt8=>[a8 b]:=λn xs d=>by
 obtain⟨i,c,rfl⟩:=Gh h n xs d;refine⟨u8 i,trivial,?_⟩;have a:(0:Int)<=i:=c.1;have e:i<=255:=c.2;unfold a8;show[AV.v (.int .u8 i)]=[AV.v (.int .u8 ((u8 i).toNat:Int))];rw[JP,OM a (by omega),C2 a]
def abo{P:Program}{t:TypeId}(h:intKind P t=some .u32):OI P t (λ_=>True) λb:UInt32=>[af b]:=λn xs d=>by
 obtain⟨i,c,rfl⟩:=Gh h n xs d;refine⟨u32 i,trivial,?_⟩;have a:(0:Int)<=i:=c.1;have e:i<=4294967295:=c.2;unfold af;show[AV.v (.int .u32 i)]=[AV.v (.int .u32 ((u32 i).toNat:Int))];rw[Ho,OM a (by omega),C2 a]
def YS{d:Type}{ok:d->Prop}{enc:d->List AV} : ∀(es:List (List AV)),(∀x∈es,∃a,ok a/\x=enc a) ->∃l:List d,(∀a∈l,ok a)/\es=l.map enc:=by
 intro es;induction es with
 | nil=>intro _;exact⟨[],by simp,rfl⟩
 | cons x es i=>
  intro h;obtain⟨a,g,rfl⟩:=h x (gy ..);obtain⟨l,f,rfl⟩:=i λx e=>h x (fO _ e);refine⟨a :: l,?_,rfl⟩;intro b c;rcases eD.1 c with rfl | c
  ·exact g
  exact f b c
def R1{P:Program}{t e:TypeId}(h:dR P t=some e):P.underlying t=some (.slice e):=by
 unfold dR at h;split at h;·cases h;assumption
 cases h
def Dm{c:Type}{P:Program}{t e:TypeId}{z:Nat}{d:Bool}{ok:c->Prop}{enc:c->List AV}(k:dR P t=some e)(f:aA P e=some z)(o:dL P e=some d)(i:OI P e ok enc){n:Nat}{xs:List AV}(h:CT P n t xs) :
 ∃(l:List c) (x:AV),(∀a∈l,ok a)/\xs=[x]/\Sl z (l.map λa=>No d (enc a)) x:=by
 cases n with| zero=>exact h.elim| succ n=>
  unfold CT at h;rw[R1 k]at h;rcases h with rfl | ⟨es,rfl,b⟩
  ·exact⟨[],bI,by simp,rfl,.inl ⟨rfl,rfl⟩⟩
  obtain⟨l,j,rfl⟩:=YS es λx m=>i n x (b x m);have g:P.cellsOf e=z:=(by unfold aA at f;unfold Program.cellsOf;rw[f];rfl);refine⟨l,_,j,rfl,?_⟩;rw[g,o,zb];exact Sl.mk z _
def TO.cell{P:Program}{n:Nat}{t:TypeId}{x:AV}(a:dL P t=some false)(h:TO P n t x):CT P n t [x]:=by
 unfold TO at h;rw[a]at h;exact h
def TO.agg{P:Program}{n:Nat}{t:TypeId}{x:AV}(a:dL P t=some true)(h:TO P n t x) : ∃xs,x = .agg xs/\CT P n t xs:=by
 unfold TO at h;rw[a]at h;exact h
def ahi(S:TypeId->List AV->Prop):List TypeId->List AV->Prop
 | [],xs=>xs=[]
 | t :: c,xs =>∃a b,xs=a++b/\S t a/\ahi S c b
def mN{P:Program}{t:TypeId}{d:List TypeId}(c:jS P t=some d){n:Nat}{xs:List AV}(h:CT P n t xs) : ∃m,ahi (CT P m) d xs:=by
 cases n with| zero=>exact h.elim| succ n=>
  unfold jS at c;split at c
  ·rename_i e j;cases c;unfold CT at h;rw[j]at h;refine⟨n,?_⟩;dsimp only at h;generalize e.toList=l at h;induction l generalizing xs with
   | nil=>exact h
   | cons f l k=>obtain⟨a,b,rfl,i,g⟩:=h;exact⟨a,b,rfl,i,k g⟩
  cases c
def yQ(P:Program)(d e c:Nat)(xs ys:Array Value):List Nat->Option Bool
 | []=>some true
 | i :: is=>match aY P (part e xs (i * c)),aY P (part e ys (i * c)) with
  | some a,some b=>(match aY P (Op.equalIn d e a b) with
   | some true=>yQ P d e c xs ys is
   | some false=>some false
   | none=>none)
  | _,_=>none
def Q8{P:Program}{t:TypeId}{z:Nat}(h:aA P t=some z):aY P (sizeOf t)=some z:=by
 simp only[aA,bG]at h;obtain⟨i,a,rfl⟩:=h;simp only[sizeOf,typeInfo,bH];show((some P).bind _).bind _=_;simp only[eJ,a];rfl
def EN{P:Program}(d:Nat){t e:TypeId}{n c:Nat}(xs ys:Array Value)(f:P.underlying t=some (.array n e))(h:aA P e=some c) :
 aY P (Op.equalIn (d+1) t (.agg xs) (.agg ys))=yQ P d e c xs ys (List.range n):=by
 simp only[Op.equalIn,bH,nk f,eJ,Q8 h];simp only[Std.Legacy.Range.forIn_eq_forIn_range',Std.Legacy.Range.size,Nat.sub_zero,Nat.add_one_sub_one,Nat.div_one,OV];generalize List.range' 0 n=is;induction is with
 | nil=>rfl
 | cons j is g=>
  simp only[List.forIn_cons,yQ,bH];cases i:aY P (part e xs (j * c)) with
  | none=>rfl
  | some a=>
   cases l:aY P (part e ys (j * c)) with| none=>rfl| some b=>
    simp only[eJ];cases k:aY P (Op.equalIn d e a b) with
    | none=>rfl
    | some r=>
     cases r;·rfl
     simp only[eJ,zd,mJ,iQf];exact g
def vj(P:Program)(d:Nat)(xs ys:Array Value):List Field->Option Bool
 | []=>some true
 | f :: c=>match aY P (part f.type xs f.offset),aY P (part f.type ys f.offset) with
  | some a,some b=>(match aY P (Op.equalIn d f.type a b) with
   | some true=>vj P d xs ys c
   | some false=>some false
   | none=>none)
  | _,_=>none
def Dx{P:Program}(d:Nat){t:TypeId}{c:Array Field}(xs ys:Array Value)(j:P.underlying t=some (.struct c))(h:P.stoodInHeld t=false)(e : ∀f∈c.toList,(f.name != "_")=true) :
 aY P (Op.equalIn (d+1) t (.agg xs) (.agg ys))=vj P d xs ys c.toList:=by
 have hp:aY P program=some P:=rfl;simp only[Op.equalIn,bH,nk j,eJ,hp,h,mJ,iQf];simp only[<-Array.forIn_toList];generalize c.toList=is at e;induction is with
 | nil=>rfl
 | cons f is m=>
  have i:f.name ≠ "_" := by simpa using e f (gy ..)
  simp only[List.forIn_cons,vj,bH,i,ne_eq,not_false_eq_true,if_true];have l:aY P (pure PUnit.unit:Sem PUnit)=some PUnit.unit:=rfl;cases n:aY P (part f.type xs f.offset) with
  | none=>rfl
  | some a=>
   cases p:aY P (part f.type ys f.offset) with| none=>rfl| some b=>
    simp only[eJ];cases o:aY P (Op.equalIn d f.type a b) with
    | none=>rfl
    | some r=>
     cases r;·rfl
     simp only[eJ,zd,mJ,iQf];exact m λg k=>e g (fO _ k)
def CL:List AV->List AV->Option Bool
 | [.v (.bool a)],[.v (.bool b)]=>some (decide (a=b))
 | [.v (.int k a)],[.v (.int k' b)]=>if k=k' then some (decide (a=b)) else none
 | [.v (.string a)],[.v (.string b)]=>some (a == b)
 | _,_=>none
def cg(S:TypeId->List AV->List AV->Option Bool)(P:Program):List TypeId->List AV->List AV->Option Bool
 | [],_,_=>some true
 | t :: c,xs,ys=>match aA P t with
  | none=>none
  | some z=>match S t (xs.take z) (ys.take z),cg S P c (xs.drop z) (ys.drop z) with
   | some a,some b=>some (a&&b)
   | _,_=>none
def Kn(S:List AV->List AV->Option Bool)(z:Nat):Nat->List AV->List AV->Option Bool
 | 0,_,_=>some true
 | k+1,xs,ys=>match S (xs.take z) (ys.take z),Kn S z k (xs.drop z) (ys.drop z) with
  | some a,some b=>some (a&&b)
  | _,_=>none
def q7(P:Program)(t:TypeId):Option Nat:=match P.underlying t with
 | some .bool=>some 0
 | some (.int _)=>some 1
 | some .string=>some 2
 | _=>none
def Kd:AV->Nat
 | .v (.bool _)=>0
 | .v (.int _ _)=>1
 | .v (.string _)=>2
 | _=>3
def ia(P:Program):Nat->TypeId->List AV->List AV->Option Bool
 | 0,_,_,_=>none
 | n+1,t,xs,ys=>match q7 P t with
  | some l=>(match xs,ys with
   | [x],[y]=>cond (Nat.beq (Kd x) l) (CL [x] [y]) none
   | _,_=>none)
  | none=>match jS P t with
   | some a=>cg (ia P n) P a xs ys
   | none=>match lQ P t with
    | some (k,e)=>(match aA P e with
     | some z=>Kn (ia P n e) z k xs ys
     | none=>none)
    | none=>none
def Gc(P:Program):Nat->TypeId->Bool
 | 0,_=>false
 | n+1,t=>match P.underlying t with
  | some .bool | some (.int _) | some .string=>dL P t == some false&&aA P t == some 1
  | some (.struct a)=>a.toList.all (λf=>Gc P n f.type&&f.name != "_")&&layout P a.toList 0 == some (P.cellsOf t) && !P.stoodInHeld t
  | some (.array k e)=>Gc P n e&&P.cellsOf t == k * P.cellsOf e
  | _=>false
def rV(xs:List AV):Option (List Value):=xs.mapM JO
def BB{xs:List AV}{a:List Value}(h:rV xs=some a)(n:Nat):rV (xs.take n)=some (a.take n):=by
 unfold rV at *;induction xs generalizing a n with
 | nil=>simp at h;subst h;simp
 | cons x xs f=>
  simp only[mH,rR,s7,ib]at h;obtain⟨v,c,d,b,e⟩:=h;cases e;cases n with
  | zero=>simp
  | succ n=>simp only[List.take_succ_cons,mH,c,f b n];rfl
def BC{xs:List AV}{b:List Value}(h:rV xs=some b)(n:Nat):rV (xs.drop n)=some (b.drop n):=by
 unfold rV at *;induction xs generalizing b n with
 | nil=>simp at h;subst h;simp
 | cons x xs f=>
  simp only[mH,rR,s7,ib]at h;obtain⟨v,c,d,a,e⟩:=h;cases e;cases n with
  | zero=>simp only[Cx,mH,c,a];rfl
  | succ n=>simp only[List.drop_succ_cons];exact f a n
def valOf(P:Program)(t:TypeId)(a:List Value):Option Value:=match dL P t with
 | some true=>some (.agg a.toArray)
 | some false=>a.head?
 | none=>none
def Gj{P:Program}{t:TypeId}{z:Nat}(j:aA P t=some z){e:List Value}{o:Nat}{v:Value}(a:valOf P t ((e.drop o).take z)=some v)(i:dL P t=some false->z=1):aY P (part t e.toArray o)=some v:=by
 unfold valOf at a;have d : ∀b,dL P t=some b->aY P (isAgg t)=some b:=by
  intro b g;simp only[dL,bG]at g;obtain⟨h,c,rfl⟩:=g;simp only[isAgg,bH,nk c,eJ];cases h<;>rfl
 unfold part;split at a;·rename_i f;cases a;simp only[bH,d _ f,eJ,if_true,Q8 j];show some _=some _;congr 2;apply Kz.1;simp only[OW,O3,KI]
 ·rename_i f;simp only[bH,d _ f,eJ,mJ,iQf];have:e.toArray[o]?=some v:=by
   rw[i f]at a;rw[OY];cases c:e.drop o with
   | nil=>rw[c]at a;simp at a
   | cons u us=>rw[c]at a;simp at a;subst a;have:=iQg List.head? c;simpa [List.head?_drop] using this
  rw[this];rfl
 cases a
def WT{P:Program} : ∀(n:Nat)(D:Nat)(t:TypeId)(xs ys:List AV)(us R:List Value)(b:Bool),Gc P n t=true->ia P n t xs ys=some b->rV xs=some us->rV ys=some R->xs.length=P.cellsOf t->ys.length=P.cellsOf t ->
 ∃u v,valOf P t us=some u/\valOf P t R=some v/\aY P (Op.equalIn (D+n) t u v)=some b:=by
 intro n;induction n with
 | zero=>intro D t xs ys us R b h;simp[Gc]at h
 | succ n ih=>
  intro D t xs ys us R b d h hu hv hlx hly;unfold Gc at d;unfold ia at h;cases J:P.underlying t with
  | none=>rw[J]at d;simp at d
  | some dd=>
   rw[J]at d;have L : ∀l,q7 P t=some l->(dL P t == some false&&aA P t == some 1)=true->(l=0/\dd = .bool\/(l=1 /\∃k,dd = .int k)\/l=2/\dd = .string) ->∃u v,valOf P t us=some u/\valOf P t R=some v/\aY P (Op.equalIn (D+(n+1)) t u v)=some b:=by
    intro l Z d hdd;simp only[aT,iQl]at d;rw[Z]at h;dsimp only at h;split at h
    ·rename_i x y;cases hb:Nat.beq (Kd x) l with
     | false=>rw[hb]at h;cases h
     | true=>
      rw[hb]at h;replace hb:=mK hb;have e1 : ∃u,us=[u]/\JO x=some u:=(by unfold rV at hu;simp only[mH,GK,rR,s7,ib]at hu;obtain⟨u,F,ws,M,h3⟩:=hu;cases M;cases h3;exact⟨u,rfl,F⟩);have e2 : ∃u,R=[u]/\JO y=some u:=(by unfold rV at hv;simp only[mH,GK,rR,s7,ib]at hv;obtain⟨u,F,ws,M,h3⟩:=hv;cases M;cases h3;exact⟨u,rfl,F⟩);obtain⟨u,rfl,E⟩:=e1;obtain⟨v,rfl,q⟩:=e2;refine⟨u,v,by simp[valOf,d.1],by simp[valOf,d.1],?_⟩;rw[show D+(n+1)=(D+n)+1 from rfl];simp only[iQq]at h;unfold CL at h;simp only[Op.equalIn,bH,nk J,eJ];split at h
      ·rename_i a c U V;simp only[Ah,iQv]at U V;subst U;subst V;simp[JO]at E q;subst E;subst q;have hl0:l=0:=hb.symm;rcases hdd with ⟨_,rfl⟩ | ⟨F,_⟩ | ⟨F,_⟩
       ·rw[<-h];show some (a == c)=_;congr 1
       ·omega
       omega
      ·rename_i k a k' c U V;simp only[Ah,iQv]at U V;subst U;subst V;simp[JO]at E q;subst E;subst q;have hl0:l=1:=hb.symm;rcases hdd with ⟨F,_⟩ | ⟨_,k0,rfl⟩ | ⟨F,_⟩
       ·omega
       ·split at h;·rename_i S;subst S;rw[<-h];show aY P (if k=k then pure (a == c) else _)=_;rw[if_pos rfl];show some (a == c)=_;congr 1
        cases h
       omega
      ·rename_i a c U V;simp only[Ah,iQv]at U V;subst U;subst V;simp[JO]at E q;subst E;subst q;have hl0:l=2:=hb.symm;rcases hdd with ⟨F,_⟩ | ⟨F,_⟩ | ⟨_,rfl⟩
       ·omega
       ·omega
       rw[<-h];rfl
      cases h
    cases h
   have hlt : ∀l,q7 P t=some l->_:=λl Z=>L l Z;cases dd<;>dsimp only at d<;>try (simp at d;done)
   ·exact L 0 (by simp[q7,J]) d (.inl ⟨rfl,rfl⟩)
   ·rename_i k;exact L 1 (by simp[q7,J]) d (.inr (.inl ⟨rfl,k,rfl⟩))
   ·exact L 2 (by simp[q7,J]) d (.inr (.inr ⟨rfl,rfl⟩))
   ·rename_i k e;simp only[aT,iQl]at d;obtain⟨d,Y⟩:=d;have Z:q7 P t=none:=by simp[q7,J]
    have W:jS P t=none:=(by simp[jS,J]);have hta:lQ P t=some (k,e):=(by simp[lQ,J]);rw[Z,W,hta]at h;dsimp only at h;have O:dL P t=some true:=by simp[dL,J]
    cases I:aA P e with| none=>rw[I]at h;cases h| some z=>
     rw[I]at h;dsimp only at h;have K:P.cellsOf e=z:=by simp only[aA]at I;simp[Program.cellsOf,I]
     have G:dL P e=some false->z=1:=by
      intro j;cases n with
      | zero=>simp[Gc]at d
      | succ n'=>
       unfold Gc at d;unfold dL at j;cases N:P.underlying e with
       | none=>rw[N]at d;simp at d
       | some d2=>rw[N]at d j;cases d2<;>simp at d j<;>(have:=d.2;rw[I]at this;simpa using this)
     refine⟨.agg us.toArray,.agg R.toArray,by simp[valOf,O],by simp[valOf,O],?_⟩;rw[show D+(n+1)=(D+n)+1 from rfl,EN (D+n) _ _ J I];have : ∀(m p:Nat)(b:Bool),(p+m) * z<=xs.length->(p+m) * z<=ys.length->Kn (ia P n e) z m (xs.drop (p * z)) (ys.drop (p * z))=some b->yQ P (D+n) e z us.toArray R.toArray (List.range' p m)=some b:=by
      intro m;induction m with
      | zero=>intro p b _ _ h;simp[Kn]at h;simp[yQ,h]
      | succ m ihm=>
       intro p b hx hy h;simp only[Kn]at h;have Q:(p+(m+1)) * z=p * z+z+m * z:=by rw[mw,Ku];omega
       rw[Q]at hx hy;cases F:ia P n e ((xs.drop (p * z)).take z) ((ys.drop (p * z)).take z) with
       | none=>rw[F]at h;simp at h
       | some a=>
        rw[F]at h;cases M:Kn (ia P n e) z m ((xs.drop (p * z)).drop z) ((ys.drop (p * z)).drop z) with
        | none=>rw[M]at h;simp at h
        | some c=>
         rw[M]at h;simp only[dG]at h;rw[Es,Es,<-Ku]at M;obtain⟨u,v,E,q,heq⟩:=ih D e _ _ _ _ a d F (BB (BC hu (p * z)) z) (BB (BC hv (p * z)) z)
          (by rw[nZ,Eu,K];omega) (by rw[nZ,Eu,K];omega)
         have p1:=Gj I (o:=p * z) E G;have p2:=Gj I (o:=p * z) q G;simp only[List.range'_succ,yQ,p1,p2,heq];cases a with
         | false=>simp at h;simp[h]
         | true=>simp only[m9]at h;subst h;exact ihm (p+1) c (by rw[show p+1+m=p+(m+1) by omega,Q];exact hx) (by rw[show p+1+m=p+(m+1) by omega,Q];exact hy) M
     rw[OV];by_cases hk0:k * z<=xs.length/\k * z<=ys.length;·exact this k 0 b (by simpa using hk0.1) (by simpa using hk0.2) (by simpa using h)
     exfalso;rw[K]at Y;exact hk0 ⟨by omega,by omega⟩
   rename_i fs;simp only[aT,dI,gx,iQl]at d;obtain⟨⟨T,i⟩,hst⟩:=d;have Z:q7 P t=none:=by simp[q7,J]
   have W:jS P t=some (fs.toList.map (·.type)):=(by simp[jS,J]);rw[Z,W]at h;dsimp only at h;have O:dL P t=some true:=by simp[dL,J]
   refine⟨.agg us.toArray,.agg R.toArray,by simp[valOf,O],by simp[valOf,O],?_⟩;rw[show D+(n+1)=(D+n)+1 from rfl,Dx (D+n) _ _ J hst (λf W=>(T f W).2)];have : ∀(l:List Field)(o:Nat)(b:Bool),(∀f∈l,Gc P n f.type=true)->layout P l o=some (P.cellsOf t)->cg (ia P n) P (l.map (·.type)) (xs.drop o) (ys.drop o)=some b->o<=P.cellsOf t ->
    vj P (D+n) us.toArray R.toArray l=some b:=by
    intro l;induction l with
    | nil=>intro o b _ _ h _;simp[cg]at h;simp[vj,h]
    | cons f l ihl=>
     intro o b X i h ho;unfold layout at i;split at i
     ·rename_i hfo;simp only[pG,cg]at h;cases I:aA P f.type with
      | none=>rw[I]at h;cases h
      | some z=>
       rw[I]at h;dsimp only at h;have K:P.cellsOf f.type=z:=by simp only[aA]at I;simp[Program.cellsOf,I]
       rw[K]at i;cases F:ia P n f.type ((xs.drop o).take z) ((ys.drop o).take z) with
       | none=>rw[F]at h;simp at h
       | some a=>
        rw[F]at h;cases M:cg (ia P n) P (l.map (·.type)) ((xs.drop o).drop z) ((ys.drop o).drop z) with
        | none=>rw[M]at h;simp at h
        | some c=>
         rw[M]at h;simp only[dG]at h;rw[Es,Es]at M;have hle:o+z<=P.cellsOf t:=by
          have : ∀(l:List Field)(o m:Nat),layout P l o=some m->o<=m:=by
           intro l;induction l with
           | nil=>intro o m h;simp[layout]at h;omega
           | cons g l ihg=>
            intro o m h;unfold layout at h;split at h;·have:=ihg _ _ h;omega
            cases h
          exact this _ _ _ i
         obtain⟨u,v,E,q,heq⟩:=ih D f.type _ _ _ _ a (X f (gy ..)) F (BB (BC hu o) z) (BB (BC hv o) z)
          (by rw[nZ,Eu,K];omega) (by rw[nZ,Eu,K];omega)
         have G:dL P f.type=some false->z=1:=by
          intro j;have S:=X f (gy ..);cases n with
          | zero=>simp[Gc]at S
          | succ n'=>
           unfold Gc at S;unfold dL at j;cases N:P.underlying f.type with
           | none=>rw[N]at S;simp at S
           | some d2=>rw[N]at S j;cases d2<;>simp at S j<;>(have:=S.2;rw[I]at this;simpa using this)
         have p1:=Gj I (o:=o) E G;have p2:=Gj I (o:=o) q G;simp only[vj,hfo,p1,p2,heq];cases a with
         | false=>simp at h;simp[h]
         | true=>simp only[m9]at h;subst h;exact ihl (o+z) c (λg hg=>X g (fO _ hg)) i M hle
     cases i
   exact this fs.toList 0 b (λf W=>(T f W).1) i (by simpa using h) (En _)
def IG(P:Program)(t:TypeId):Bool:=Gc P 20 t && !P.eqGuardType P.depth t&&dL P t == some true
def SW{P:Program}{t:TypeId}(h:IG P t=true)(a:BinOp)(d:a = .eql\/a = .neq)(e c:Operand)(xs ys:Array Value) :
 Dy P a t e c (.agg xs) (.agg ys)=(aY P (Op.equalIn 10000 t (.agg xs) (.agg ys))).map λb => .bool (if a = .eql then b else !b):=by
 unfold IG at h;simp only[aT,dI,iQl]at h;have hp:aY P program=some P:=rfl;unfold Dy;have f:aY P (eqGuard a t e c (.agg xs) (.agg ys))=some ():=by
  rcases d with rfl | rfl
  ·simp only[eqGuard,zd,mJ,iQf,bH,hp,eJ,h.1.2,B3,if_true];rfl
  simp only[eqGuard,zd,mJ,iQf,bH,hp,eJ,h.1.2,B3,if_true];rfl
 rw[bH,f,eJ];rcases d with rfl | rfl
 ·show aY P (do pure (Value.bool (<-Op.equal t (.agg xs) (.agg ys))))=_;rw[bH];unfold Op.equal Op.maxDepth;cases aY P (Op.equalIn 10000 t (.agg xs) (.agg ys))<;>rfl
 show aY P (do pure (Value.bool (!(<-Op.equal t (.agg xs) (.agg ys)))))=_;rw[bH];unfold Op.equal Op.maxDepth;cases aY P (Op.equalIn 10000 t (.agg xs) (.agg ys))<;>rfl
def M8{P:Program}{t:TypeId}(h:IG P t=true)(c:BinOp)(x:c = .eql\/c = .neq)(o i:Operand){cs ds:List AV}{b:Bool}(z:ia P 20 t cs ds=some b)(g:(rV cs).isSome=true)(e:(rV ds).isSome=true)
 (p:some cs.length=aA P t) (q:some ds.length=aA P t):bP P c t o i (some (.agg cs)) (some (.agg ds))=some (aB (if c = .eql then b else !b),[]):=by
 obtain⟨us,g⟩:=ik.1 g;obtain⟨f,e⟩:=ik.1 e;have d:=h;unfold IG at d;simp only[aT,dI,iQl]at d;have j : ∀ {n:Nat},some n=aA P t->n=P.cellsOf t:=by
  intro n k;unfold aA at k;unfold Program.cellsOf;rw[<-k];rfl
 obtain⟨u,v,m,l,heq⟩:=WT 20 9980 t cs ds us f b d.1.1 z g e (j p) (j q);simp only[valOf,d.2,dG]at m l;subst m;subst l;have a:=SW h c x o i us.toArray f.toArray;rw[heq]at a;have t1:im (.agg cs)=some (.agg us.toArray):=by show(cs.mapM JO).map _=_;rw[show cs.mapM JO=some us from g];rfl
 have y:im (.agg ds)=some (.agg f.toArray):=by show(ds.mapM JO).map _=_;rw[show ds.mapM JO=some f from e];rfl
 simp only[bP,Lx,oR,yc,GI,mJ,iQf,t1,y,a,Option.map_some,eJ,kD,scalar,if_true,kC]
@[simp] def YD{P:Program}{t:TypeId}(h:IG P t=true)(d c:Operand){cs ds:List AV}(a:(ia P 20 t cs ds).isSome=true)(i:(rV cs).isSome=true)(f:(rV ds).isSome=true)
 (e:some cs.length=aA P t) (g:some ds.length=aA P t):bP P .eql t d c (some (.agg cs)) (some (.agg ds))=some (aB ((ia P 20 t cs ds).getD false),[]):=by
 obtain⟨b,a⟩:=ik.1 a;rw[M8 h .eql (.inl rfl) d c a i f e g,a];rfl
@[simp] def YB{P:Program}{t:TypeId}(h:IG P t=true)(d c:Operand){cs ds:List AV}(a:(ia P 20 t cs ds).isSome=true)(i:(rV cs).isSome=true)(f:(rV ds).isSome=true)
 (e:some cs.length=aA P t) (g:some ds.length=aA P t):bP P .neq t d c (some (.agg cs)) (some (.agg ds))=some (aB (!(ia P 20 t cs ds).getD false),[]):=by
 obtain⟨b,a⟩:=ik.1 a;rw[M8 h .neq (.inr rfl) d c a i f e g,a];rfl
@[simp] def aeK:rV []=some []:=id rfl
@[simp] def Mh(k:IntKind)(n:Int)(l:List AV):rV (.v (.int k n) :: l)=(rV l).map (.int k n :: ·):=by
 unfold rV;simp only[mH,JO];cases l.mapM JO<;>rfl
@[simp] def ac3(b:Bool)(l:List AV):rV (.v (.bool b) :: l)=(rV l).map (.bool b :: ·):=by
 unfold rV;simp only[mH,JO];cases l.mapM JO<;>rfl
@[simp] def ai4(b:UInt8)(l:List AV):rV (a8 b :: l)=(rV l).map (.int .u8 b.toNat :: ·):=Mh _ _ _
@[simp] def ahu(b:UInt32)(l:List AV):rV (af b :: l)=(rV l).map (.int .u32 b.toNat :: ·):=Mh _ _ _
@[simp] def aaQ(a b:Bool):CL [aB a] [aB b]=some (decide (a=b)):=id rfl
@[simp] def IH(k:IntKind)(a b:Int):CL [.v (.int k a)] [.v (.int k b)]=some (decide (a=b)):=by simp[CL]
@[simp] def agP(a b:UInt8):CL [a8 a] [a8 b]=some (decide (a=b)):=by
 unfold a8;rw[IH];congr 2;rw[<-C0];exact propext (by omega)
@[simp] def aem(a b:UInt32):CL [af a] [af b]=some (decide (a=b)):=by
 unfold af;rw[IH];congr 2;rw[<-GQ];exact propext (by omega)
@[simp] def abV(b:Bool):Kd (aB b)=0:=id rfl
@[simp] def ad5(k:IntKind)(n:Int):Kd (.v (.int k n))=1:=id rfl
@[simp] def ail(b:UInt8):Kd (a8 b)=1:=id rfl
@[simp] def age(b:UInt32):Kd (af b)=1:=id rfl
@[simp] def HT{P:Program}{t:TypeId}(h:((dR P t).bind (aA P)).isSome=true)(g:cF)(a c b:Option Int) :
 iT P g t (some bI) (some a) (some c) (some b)=(bounds 0 (some 0) a c b).map λ_=>(bI,[]):=by
 simp only[iT,h,if_true]
@[simp] def PG{P:Program}{t z:Nat}(h:(dR P t).bind (aA P)=some z)(g:cF)(es:List AV)(c:Option Nat)(a d b:Option Int) :
 iT P g t (some (.cC z es c)) (some a) (some d) (some b)=(bounds es.length c a d b).map λ(l,h,c)=>(.cC z ((es.drop l).take (h - l)) c,[]):=by
 simp only[iT,h,if_true]
def HC{P:Program}{t z:Nat}(h:(dR P t).bind (aA P)=some z)(g:cF){es:List AV}{x:AV}(e:Sl z es x){n:Int}(d:0<=n)(b:n<=es.length) :
 ∃y,iT P g t (some x) (some none) (some (some n)) (some none)=some (y,[])/\Sl z (es.take n.toNat) y:=by
 rcases e with ⟨rfl,rfl⟩ | ⟨c,rfl,a⟩
 ·refine⟨bI,?_,.inl ⟨rfl,by simp⟩⟩;rw[HT (by rw[h];rfl)];have:n=0:=by simp at b;omega
  subst this;rfl
 refine⟨.cC z (es.take n.toNat) (c.map (· - 0)),?_,.inr ⟨_,rfl,by cases c with | none=>simp | some k=>simp at a ⊢;omega⟩⟩;rw[PG h];simp only[bounds,vn,cI,Kt,iQo,if_pos (show 0<=n/\n<=es.length from⟨d,b⟩),Option.map_some];simp
def sB(l:List UInt8):AV:=aS ⟨l.toArray⟩
def LI(l:List UInt8):(jX l).mapM byteOf=some l:=by
 unfold jX;induction l with
 | nil=>rfl
 | cons b l a=>simp only[pG,mH,a,rR,s7];show(some (UInt8.ofNat ((b.toNat:Int)).toNat)).bind _=_;simp
def Of{P:Program}{a b:TypeId}(c:ei P a=true)(d:isStr P b=true){g:cF}{r:Ref}{l:List UInt8}{x:AV}(i:TU g 1 (jX l) x)(e : ∀s,x ≠ .v (.string s)) :
 eE P g r a b (some x)=some (sB l,[]):=by
 rcases i with ⟨rfl,h⟩ | ⟨j,f,he⟩
 ·have:=iQg List.length h;simp at this;subst this;simp only[eE,c,d,iQT,if_true];rfl
 cases x with
 | v x=>
  exfalso;cases x<;>first | (simp[cL]at he;done) | skip
  exact e _ rfl
 | _=>simp only[eE,c,d,iQT,if_true,he,LI,Option.map_some];rfl
def Sl.PY{z:Nat}{es:List AV}{x:AV}(h:Sl z es x) : ∀s,x ≠ .v (.string s):=by
 rcases h with ⟨rfl,_⟩ | ⟨c,rfl,_⟩<;>intro s e<;>cases e
def Own.PY{z:Nat}{es:List AV}{H:aa}{x:AV}(h:Own z es H x) : ∀s,x ≠ .v (.string s):=by
 rcases h with ⟨rfl,_⟩ | ⟨r,rfl,_⟩<;>intro s e<;>cases e
def Sl.conv{P:Program}{a b:TypeId}{l:List UInt8}{x:AV}(c:Sl 1 (jX l) x)(d:ei P a=true)(e:isStr P b=true)(g:cF)(r:Ref):eE P g r a b (some x)=some (sB l,[]):=
 Of d e (c.Ja g) c.PY
def Own.conv{P:Program}{a b:TypeId}{l:List UInt8}{H:aa}{x:AV}(c:Own 1 (jX l) H x)(d:ei P a=true)(e:isStr P b=true)(r:Ref):eE P H.get r a b (some x)=some (sB l,[]):=
 Of d e c.Ja c.PY
def Xb{P:Program}{a q:Bool}{H:aa}{r:Ref}{t z by' n:Nat}{ps:List (Nat × AV)}{h:AV}(j:RB P t z by'=true)(b:n * z<=16777216)(m:fS H.get ps=some ps)(f:bX H.get (ps.map (·.2))=[])
 (l:ps.all (λp=>p.2.cells.length == z&&p.2.cells.all AV.one)=true) (c:(dR P t).bind (eX P)=some h) {es:List AV} (o:jt (List.replicate n h) ps=some es) :
 qb P a q H r t n (some ps)=if a then some (.cC z es (some n),H) else some (.bN r 0 n (some n),({ r with k:=0},some ⟨z,es,true,false⟩) :: H):=by
 obtain⟨e,v,g,y,G,i,u,x,E,F⟩:=jh j;rw[g]at c;simp only[eJ,i,dG]at c;subst c;have d:mkSlice P H.get t n ps=some ⟨z,es,true,false⟩:=by
  simp only[mkSlice,g,m,i,y];rw[if_pos ⟨AO E,b,u,x,by simpa using l⟩,o];rfl
 have D:iQ P a H.get r t n (some ps)=if a then some (.cC z es (some n),[]) else some (.bN r 0 n (some n),[⟨z,es,true,false⟩]):=by
  simp only[iQ,f,kO,iQ0,if_true,d,Option.map_some];cases a<;>rfl
 unfold qb;rw[D];cases a<;>rfl
def JN{g:cF}{r:Ref}{z:Nat}{es:List AV}{fz:Bool}(a:g r=some ⟨z,es,true,fz⟩){n:Nat}(b:n=es.length)(k:Nat)(c:Option Nat):view g (k+1) (.bN r 0 n c)=some (.cC z es c):=by
 subst b;rw[G9 a,if_pos ⟨rfl,by simp⟩,Cx,AT]
def Xk{P:Program}{t t' z by':Nat}(e:RB P t z by'=true)(h:Ed P t'=true)(H:aa)(d a:Nat){es new:List AV}{s x:AV}(f:Own z es H s)(i:TU H.get z new x)
 (j:(es.length+new.length) * by'<=bg) (g:Fr H) :
 ∃c H',ga P true H ⟨d,a,H.gen d a,0⟩ (some t) (some t') s x=some (c,H')/\Own z (es++new) H' c/\Fr H' /\∀q b,H.get q=some b->s.at?≠some q->H'.get q=some b/\c.at?≠some q:=
 ZC e h f i j g ⟨d,a,rfl⟩
def Own.aX{z:Nat}{es:List AV}{H H':aa}{x s d:AV}(h:Own z es H x)(hp : ∀q b,H.get q=some b->s.at?≠some q->H'.get q=some b/\d.at?≠some q)(c : ∀q,x.at?=some q->s.at?≠some q):Own z es H' x /\∀q,x.at?=some q->d.at?≠some q:=by
 rcases h with ⟨rfl,rfl⟩ | ⟨r,rfl,e⟩
 ·exact⟨Lh z H',λq a=>by simp[AV.at?]at a⟩
 obtain⟨f,g⟩:=hp r _ e (c r rfl);exact⟨.inr ⟨r,rfl,f⟩,λq a=>by simp only[AV.at?,dG]at a;subst a;exact g⟩
@[simp] def abB(P:Program)(t:TypeId)(b a:Operand)(x y:UInt32)(d:y≠0):bP P .rem t b a (some (af x)) (some (af y))=some (af (x % y),[]):=by
 have c:(y.toNat:Int)≠0:=by
  intro e;apply d;apply GQ.1;have:y.toNat=0:=by omega
  exact this
 unfold af;rw[VF P t b a .u32 _ _ c];congr 5
def P6{P:Program}{t:TypeId}(h:isBool P t=true):P.underlying t=some .bool:=by
 unfold isBool at h;split at h;·assumption
 cases h
def Jv{P:Program}{t:TypeId}(h:isBool P t=true)(d:Nat)(a b:Bool):aY P (Op.equalIn (d+1) t (.bool a) (.bool b))=some (a == b):=by
 simp only[Op.equalIn,bH,nk (P6 h),eJ];rfl
def PL{P:Program}{t:TypeId}(h:isBool P t=true)(c:BinOp)(g:c = .eql\/c = .neq)(e d:Operand)(a b:Bool) :
 Dy P c t e d (.bool a) (.bool b)=some (.bool (if c = .eql then a == b else !(a == b))):=by
 have f:aY P (Op.equal t (.bool a) (.bool b))=some (a == b):=Jv h 9999 a b;unfold Dy;rcases g with rfl | rfl
 ·have:aY P (eqGuard .eql t e d (.bool a) (.bool b))=some ():=rfl;rw[bH,this,eJ];show aY P (do pure (Value.bool (<-Op.equal t (.bool a) (.bool b))))=_;rw[bH,f];rfl
 have:aY P (eqGuard .neq t e d (.bool a) (.bool b))=some ():=rfl;rw[bH,this,eJ];show aY P (do pure (Value.bool (!(<-Op.equal t (.bool a) (.bool b)))))=_;rw[bH,f];rfl
@[simp] def XD{P:Program}{t:TypeId}(h:isBool P t=true)(c d:Operand)(a b:Bool):bP P .eql t c d (some (aB a)) (some (aB b))=some (aB (a == b),[]):=by
 simp only[bP,Lx,oR,im,PL h .eql (.inl rfl),yc,GI,mJ,iQf,eJ,kD,scalar,if_true,kC,Option.map_some]
@[simp] def ajj(P:Program)(d:Bool)(g:cF)(r:Ref)(c:Array TypeId)(k:IntKind)(a b:Int):cP P d g r .min c [.v (.int k a),.v (.int k b)]=some (.v (.int k (if b<a then b else a)),[]):=id rfl
@[simp] def ajk(P:Program)(d:Bool)(g:cF)(r:Ref)(c:Array TypeId)(k:IntKind)(a b:Int):cP P d g r .max c [.v (.int k a),.v (.int k b)]=some (.v (.int k (if b>a then b else a)),[]):=id rfl
def Own.cons{z:Nat}{es:List AV}{H:aa}{x:AV}(h:Own z es H x)(c:Fr H)(d t:Nat)(b:Option aQ):Own z es ((⟨d,t,H.gen d t,0⟩,b) :: H) x:=by
 rcases h with ⟨rfl,rfl⟩ | ⟨r,rfl,a⟩
 ·exact Lh z _
 refine .inr ⟨r,rfl,?_⟩;rw[aa.fh,if_neg (nB c (by rw[a];rfl) d t 0)];exact a
def YG{H:aa}{r:Ref}{z n:Nat}{es:List AV}{fz:Bool}(a:H.get r=some ⟨z,es,true,fz⟩)(b:n=es.length)(c:Option Nat):TU H.get z es (.bN r 0 n c):=by
 subst b;refine .inr ⟨rfl,(by intro e;cases e),?_⟩;simp[cL,a]
def Own.HC{P:Program}{t z:Nat}(h:(dR P t).bind (aA P)=some z){H:aa}{es:List AV}{x:AV}(d:Own z es H x){n:Nat}(c:n<=es.length) :
 ∃y a,iT P H.get t (some x) (some none) (some (some (n:Int))) (some none)=some (y,[])/\Ab.view H.get depth y=some a/\Sl z (es.take n) a:=by
 rcases d with ⟨rfl,rfl⟩ | ⟨r,rfl,b⟩
 ·refine⟨bI,bI,?_,rfl,.inl ⟨rfl,by simp⟩⟩;rw[HT (by rw[h];rfl)];have:n=0:=by simpa using c
  subst this;rfl
 refine⟨.bN r 0 n none,.cC z (es.take n) none,?_,?_,Sl.mk z _⟩;·simp only[iT,b,h,if_true,bounds,vn,cI,Kt,iQo];rw[if_pos ⟨by omega,by omega⟩];simp
 rw[aJ,G9 b,if_pos ⟨rfl,by simpa using c⟩,Cx]
@[simp] def adP(P:Program)(r:Ref)(e:TypeId){z:AV}(b:eX P e=some z)(a:0<(aA P e).getD 0):xJ P r e=if some z.cells.length=aA P e/\z.cells.all AV.one=true then some (.ptr r 0 0,[⟨(aA P e).getD 0,[z],false,false⟩]) else none:=by
 unfold xJ;rw[b];cases h:aA P e with
 | none=>simp
 | some n=>rw[h]at a;simp only[cI]at a;simp[a]
@[simp] def VC{P:Program}{t f:Nat}(h:0<((ar P t f).getD (0,0)).2)(r:Ref)(i j:Nat):kr P t (some (.ptr r i j)) f=some (.ptr r i (j+((ar P t f).getD (0,0)).1),[]):=by
 unfold kr;cases a:ar P t f with
 | none=>rw[a]at h;simp at h
 | some p=>obtain⟨o,s⟩:=p;rw[a]at h;simp only[cI]at h ⊢;rw[if_pos h]
@[simp] def T3{P:Program}{t f:Nat}(h:0<((ar P t f).getD (0,0)).2)(n:Nat)(es:List AV)(i j:Nat):kr P t (some (.iptr n es i j)) f=some (.iptr n es i (j+((ar P t f).getD (0,0)).1),[]):=by
 unfold kr;cases a:ar P t f with
 | none=>rw[a]at h;simp at h
 | some p=>obtain⟨o,s⟩:=p;rw[a]at h;simp only[cI]at h ⊢;rw[if_pos h]
def Ra(cs:List AV)(a n:Nat)(b:Bool):Option AV:=if b then (if a+n<=cs.length then some (.agg ((cs.drop a).take n)) else none) else cs[a]?
@[simp] def aib(cs:List AV)(a n:Nat):Ra cs a n true=if a+n<=cs.length then some (.agg ((cs.drop a).take n)) else none:=id rfl
@[simp] def aic(cs:List AV)(a n:Nat):Ra cs a n false=cs[a]?:=id rfl
@[simp] def abx{P:Program}{t f:Nat}(h:(((oL P t f).bind λp=>aA P p.2).isSome&&((oL P t f).bind λp=>dL P p.2).isSome)=true)(cs:List AV) :
 vL P t (some (.agg cs)) f=kC (Ra cs ((oL P t f).getD (0,0)).1 ((aA P ((oL P t f).getD (0,0)).2).getD 0) ((dL P ((oL P t f).getD (0,0)).2).getD false)):=by
 unfold vL;cases a:oL P t f with
 | none=>rw[a]at h;simp at h
 | some p=>obtain⟨o,ft⟩:=p;rw[a]at h;simp only[eJ,aT]at h;obtain⟨n,d⟩:=ik.1 h.1;obtain⟨b,c⟩:=ik.1 h.2;simp only[cI,Bb,d,c];cases b<;>rfl
@[simp] def Xy(cs:List AV)(new:List AV)(h:new.length=cs.length):fP [AV.agg cs] 0 0 new=some [AV.agg new]:=by
 simp[fP,tz,patch,h]
@[simp low] def XJ(cs:List AV)(j:Nat)(new:List AV)(h:j+new.length<=cs.length):fP [AV.agg cs] 0 j new=some [AV.agg (patch cs j new)]:=by
 simp[fP,tz,h]
@[simp] def afZ(cs:List AV)(j:Nat)(new:List AV):patch cs j new=cs.take j++new++cs.drop (j+new.length):=id rfl
@[simp] def Yv{P:Program}{t:TypeId}(c:(dL P t).isSome=true)(b:(aA P t).isSome=true)(H:aa)(r:Ref)(i j:Nat):A8 P H (.ptr r i j) t=Wo (H.get r) i j ((aA P t).getD 0) ((dL P t).getD false):=by
 obtain⟨a,c⟩:=ik.1 c;obtain⟨n,b⟩:=ik.1 b;simp only[A8,c,b,cI];rfl
@[simp] def XC{P:Program}{t:TypeId}{z:List AV}(c:eX P t=some (.agg z))(b:lQ P t=none)(hp:(placesOf P t).isSome=true)(a:List (Nat × AV)) :
 nz P t (some a)=(mg (λi=>((placesOf P t).getD [])[i]?) z a).map λcs=>(.agg cs,[]):=by
 obtain⟨ps,hp⟩:=ik.1 hp;simp only[nz,c,b,hp,cI]
@[simp] def Yx(a:List AV)(i:Nat):ui (some (.tup a)) i=kC a[i]?:=id rfl
@[simp] def afU(r:Ref)(i j:Nat):MX (some (.ptr r i j))=some (.ptr r i j,[]):=id rfl
@[simp] def aa.Zd(d t:Nat):aa.gen [] d t=0:=id rfl
@[simp] def aa.NP(d t g k:Nat)(b:Option aQ)(H:aa)(a t':Nat):aa.gen ((⟨d,t,g,k⟩,b) :: H) a t'=if d=a/\t=t' then g+1 else aa.gen H a t':=id rfl
@[simp] def Ns{c d:Type}(f:c->Option d)(a:c)(l:List c):List.mapM f (a :: l)=(f a).bind λb=>(List.mapM f l).map (b :: ·):=by
 rw[mH];cases f a<;>cases List.mapM f l<;>rfl
@[simp] def abp{c:Type}(f:c->AV)(l:List c)(i j n:Nat)(b:Bool):bL (l.map f) i j n b=(l[i]?).bind λa=>bL [f a] 0 j n b:=by
 unfold bL;rw[k5];cases l[i]?<;>rfl
def drop_cons{c:Type}{l:List c}{k:Nat}{a:c}{s:List c}(h:l.drop k=a :: s) : ∃b:k<l.length,l[k]=a/\l.drop (k+1)=s/\l[k]?=some a:=by
 have b:k<l.length:=by
  have:=iQg List.length h;simp at this;omega
 rw[iQC b]at h;cases h;exact⟨b,rfl,rfl,dy b⟩
def drop_nil{a:Type}{l:List a}{k:Nat}(h:l.drop k=[])(b:k<=l.length):k=l.length:=by
 have:=iQg List.length h;simp at this;omega
def fY{b:Bool}{q:jk}{K:AV->Prop}{m:Mk (q,K)}(a:b=true->jU q K)(c:b=false->K AV.undef):gQ (aB b) true q K m:=by
 cases b;·exact(agG q K m).2 (c rfl)
 exact(agE q K m).2 (a rfl)
def fZ{b:Bool}{q:jk}{K:AV->Prop}{m:Mk (q,K)}(a:b=true->K AV.undef)(c:b=false->jU q K):gQ (aB b) false q K m:=by
 cases b;·exact(agH q K m).2 (c rfl)
 exact(agF q K m).2 (a rfl)
def fW{b:Bool}{H:aa}{q:cp}{K:AV->aa->Prop}{m:Mk (q,K)}(a:b=true->lE q K)(c:b=false->K AV.undef H):gW (aB b) true H q K m:=by
 cases b;·exact(agC H q K m).2 (c rfl)
 exact(agA H q K m).2 (a rfl)
def fX{b:Bool}{H:aa}{q:cp}{K:AV->aa->Prop}{m:Mk (q,K)}(a:b=true->K AV.undef H)(c:b=false->lE q K):gW (aB b) false H q K m:=by
 cases b;·exact(agD H q K m).2 (c rfl)
 exact(agB H q K m).2 (a rfl)
def bE{H:aa}(a:Fr H){q:Ref}(h:(H.get q).isSome=true)(d t k:Nat):((⟨d,t,H.gen d t,k⟩:Ref)=q)=False:=
 eq_false (nB a h d t k)
def jq{H:aa}(a:Fr H){q:Ref}(h:(H.get q).isSome=true)(d t k:Nat):(q=(⟨d,t,H.gen d t,k⟩:Ref))=False:=
 eq_false λe=>nB a h d t k e.symm
def eH{H:aa}(a:Fr H)(d t k:Nat):H.get ⟨d,t,H.gen d t,k⟩=none:=a _ _ _ _ (cH _)
def xp{H:aa}(a:Fr H){d t g:Nat}(c:g=H.gen d t)(b:Option aQ):Fr ((⟨d,t,g,0⟩,b) :: H):=by subst c;exact a.cons d t b
def CS{H:aa}(a:Fr H){r:Ref}(c:(H.get r).isSome=true)(b:Option aQ):Fr (H.put r b):=a.put b c
def IA{H:aa}{r:Ref}(a:(H.get r).isSome=true)(b:Option aQ)(d t:Nat):(H.put r b).gen d t=H.gen d t:=aa.jJ H r b a d t
def Tm{E:Env}{f:FuncId}(a:Bi (E.mode f)=false)(x:AV)(H:aa)(y:AV):handed E f x H y↔view H.get depth x=some y:=by
 unfold handed;rw[if_neg (by simpa using a)]
def NL{E:Env}{f:FuncId}(a:Bi (E.mode f)=true)(x:AV)(H:aa)(y:AV):handed E f x H y↔(ah H.get depth x).Nodup/\bK H.get depth x=some y:=by
 unfold handed;rw[if_pos (by simpa using a)]
def w9(a:Bool)(H:aa)(r:Ref)(refs:List Ref)(o:Option AV):cp:=match o with
 | some y=>if flat depth y||kO H.get refs then some ((aj r depth y []).1,keyed r 0 (aj r depth y []).2 H)
  else if a then some ((aj r depth y []).1,keyed r 0 (aj r depth y []).2 (bV H refs)) else none
 | none=>none
noncomputable def W9(E:Env)(a:Bool)(H:aa)(r:Ref)(refs:List Ref)(f:FuncId)(o:Option (List AV)):cp:=match o with
 | some xs=>w9 a H r refs (ax E f xs)
 | none=>none
def az{E:Env}(a:Bool)(dep:Nat)(H:aa)(r:Ref)(f:FuncId)(d:(E.mode f == 2)=false)(c:(E.mode f == 3)=false)(first captured args:List AV) :
 bB E a (ax E) (cb E dep) H r (some (.fn (.func f) first captured)) args=W9 E a H r (bX H.get (first++args++captured)) f ((first++args++captured).mapM (view H.get depth)):=by
 have b:E.mode f≠2:=by simpa using d
 simp only[bB,kW,nH,if_neg b,c,yc,iQS];cases(first++args++captured).mapM (view H.get depth) with
 | none=>cases a<;>rfl
 | some xs=>
  dsimp only[W9];cases ax E f xs with
  | none=>cases a<;>rfl
  | some y=>
   dsimp only[w9,Option.map_some];cases e:(flat depth y||kO H.get (bX H.get (first++args++captured))) with
   | true=>rfl
   | false=>cases a<;>rfl
def NC(r:Ref)(n:Nat)(t:TypeId)(x:AV)(a:List aQ):aj r (n+1) (.ifc t x) a=(.ifc t (aj r n x a).1,(aj r n x a).2):=id rfl
@[simp] def acK(E:Env)(a:Bool)(H:aa)(r:Ref)(refs:List Ref)(f:FuncId)(xs:List AV):W9 E a H r refs f (some xs)=w9 a H r refs (ax E f xs):=id rfl
@[simp] def acL(a:Bool)(H:aa)(r:Ref)(refs:List Ref)(y:AV)(h:flat depth y=true):w9 a H r refs (some y)=some (y,H):=by
 simp only[w9,h,iQY,if_true];rw[wZ r depth depth y [] h];rfl
def au(a:Bool)(H:aa)(r:Ref)(y:AV):w9 a H r [] (some y)=some ((aj r depth y []).1,keyed r 0 (aj r depth y []).2 H):=by
 simp only[w9,kO,iQ0,Kv,if_true]
def aG(a:Bool)(H:aa)(r:Ref)(refs:List Ref)(y:AV)(h:kO H.get refs=true):w9 a H r refs (some y)=some ((aj r depth y []).1,keyed r 0 (aj r depth y []).2 H):=by
 simp only[w9,h,Kv,if_true]
@[simp] def ajs(n:Nat)(x:Value):flat (n+1) (.v x)=true:=id rfl
@[simp] def ajt(n:Nat)(x:UInt8):flat (n+1) (a8 x)=true:=id rfl
@[simp] def aiq(n:Nat)(x:UInt32):flat (n+1) (af x)=true:=id rfl
@[simp] def flat_agg(n:Nat)(cs:List AV):flat (n+1) (.agg cs)=cs.all (flat n):=id rfl
@[simp] def aek(n:Nat)(cs:List AV):flat (n+1) (.tup cs)=cs.all (flat n):=id rfl
@[simp] def agK(n:Nat)(t:TypeId)(x:AV):flat (n+1) (.ifc t x)=flat n x:=id rfl
@[simp] def agJ(n z:Nat)(es:List AV)(c:Option Nat):flat (n+1) (.cC z es c)=false:=id rfl
@[simp] def agL(n z:Nat)(es:List AV)(c:Option Nat):flat (n+1) (.fsl z es c)=false:=id rfl
@[simp] def Z7(g:cF):bX g []=[]:=id rfl
@[simp] def Yu(g:cF)(x:AV)(xs:List AV):bX g (x :: xs)=ah g depth x++bX g xs:=id rfl
@[simp] def aaY(g:cF)(n:Nat)(x:Value):ah g n (.v x)=[]:=by cases n<;>rfl
@[simp] def aaZ(g:cF)(n:Nat)(x:UInt8):ah g n (a8 x)=[]:=by cases n<;>rfl
@[simp] def ZX(g:cF)(n:Nat)(x:UInt32):ah g n (af x)=[]:=by cases n<;>rfl
@[simp] def XP(g:cF)(n z:Nat)(es:List AV)(c:Option Nat):ah g n (.cC z es c)=[]:=by cases n<;>rfl
@[simp] def Xz(g:cF)(n z:Nat)(es:List AV)(i j:Nat):ah g n (.iptr z es i j)=[]:=by cases n<;>rfl
@[simp] def XQ(g:cF)(n:Nat)(cs:List AV):ah g (n+1) (.agg cs)=cs.flatMap (ah g n):=id rfl
@[simp] def XM(g:cF)(n:Nat)(cs:List AV):ah g (n+1) (.tup cs)=cs.flatMap (ah g n):=id rfl
@[simp] def XO(g:cF)(n:Nat)(r:Ref)(o l:Nat)(c:Option Nat):ah g (n+1) (.bN r o l c)=[r]:=id rfl
@[simp] def ZW(g:cF)(n:Nat)(f:Fn)(a b:List AV):ah g (n+1) (.fn f a b)=a.flatMap (ah g n)++b.flatMap (ah g n):=id rfl
def Q7(g:cF)(n:Nat)(o:Option aQ):List Ref:=match o with
 | some b=>if b.arr then [] else b.es.flatMap (ah g n)
 | none=>[]
@[simp] def XN(g:cF)(n:Nat)(r:Ref)(i j:Nat):ah g (n+1) (.ptr r i j)=r :: Q7 g n (g r):=id rfl
@[simp] def YE(g:cF)(n:Nat)(b:aQ):Q7 g n (some b)=if b.arr then [] else b.es.flatMap (ah g n):=id rfl
def C7(o l:Nat)(c:Option Nat)(b:Option aQ):Option AV:=match b with
 | some b=>if b.arr=true/\o+l<=b.es.length then some (.cC b.esz ((b.es.drop o).take l) c) else none
 | none=>none
@[simp] def ac0(g:cF)(n:Nat)(r:Ref)(o l:Nat)(c:Option Nat):view g (n+1) (.bN r o l c)=C7 o l c (g r):=id rfl
@[simp] def aa1(o l:Nat)(c:Option Nat)(b:aQ):C7 o l c (some b)=if b.arr=true/\o+l<=b.es.length then some (.cC b.esz ((b.es.drop o).take l) c) else none:=id rfl
def ZY(g:cF)(n i j:Nat)(b:Option aQ):Option AV:=match b with
 | some b=>if b.arr then some (.iptr b.esz b.es i j) else (b.es.mapM (view g n)).map λes => .iptr b.esz es i j
 | none=>none
@[simp] def acZ(g:cF)(n:Nat)(r:Ref)(i j:Nat):view g (n+1) (.ptr r i j)=ZY g n i j (g r):=id rfl
@[simp] def aa0(g:cF)(n i j:Nat)(b:aQ):ZY g n i j (some b)=if b.arr then some (.iptr b.esz b.es i j) else (b.es.mapM (view g n)).map λes => .iptr b.esz es i j:=id rfl
@[simp] def aho(g:cF)(n:Nat)(f:Fn)(a b:List AV):view g (n+1) (.fn f a b)=(a.mapM (view g n)).bind λa=>(b.mapM (view g n)).map λb => .fn f a b:=by
 rw[view];cases a.mapM (view g n)<;>cases b.mapM (view g n)<;>rfl
@[simp] def agv(r:Ref)(n:Nat)(x:Value)(a:List aQ):aj r n (.v x) a=(.v x,a):=by cases n<;>rfl
@[simp] def agw(r:Ref)(n:Nat)(x:UInt8)(a:List aQ):aj r n (a8 x) a=(a8 x,a):=by cases n<;>rfl
@[simp] def aeg(r:Ref)(n:Nat)(x:UInt32)(a:List aQ):aj r n (af x) a=(af x,a):=by cases n<;>rfl
@[simp] def acb(r:Ref)(n z:Nat)(es:List AV)(c:Option Nat)(a:List aQ):aj r n (.cC z es c) a=(.cC z es c,a):=by cases n<;>rfl
@[simp] def acd(r:Ref)(n z:Nat)(es:List AV)(c:Option Nat)(a:List aQ)(b:z≠0):aj r (n+1) (.fsl z es c) a=(.bN { r with k:=a.length} 0 es.length c,a++[⟨z,es,true,false⟩]):=by
 simp only[aj,if_neg b]
def u6(r:Ref)(n:Nat):List AV->List AV->List aQ->List AV × List aQ
 | [],acc,a=>(acc,a)
 | c :: cs,acc,a=>u6 r n cs (acc++[(aj r n c a).1]) (aj r n c a).2
def Iu(r:Ref)(n:Nat)(cs:List AV) : ∀(a:List AV)(b:List aQ),cs.foldl (λ(p:List AV × List aQ) c=>let (y,b):=aj r n c p.2;(p.1++[y],b)) (a,b)=u6 r n cs a b:=by
 induction cs with| nil=>intro a b;rfl| cons c cs d=>intro a b;rw[tZ];exact d _ _
@[simp] def ace(r:Ref)(n:Nat)(cs:List AV)(a:List aQ):aj r (n+1) (.agg cs) a=(.agg (u6 r n cs [] a).1,(u6 r n cs [] a).2):=by
 rw[<-Iu];rfl
@[simp] def aca(r:Ref)(n:Nat)(cs:List AV)(a:List aQ):aj r (n+1) (.tup cs) a=(.tup (u6 r n cs [] a).1,(u6 r n cs [] a).2):=by
 rw[<-Iu];rfl
@[simp] def aaf(r:Ref)(n:Nat)(a:List AV)(b:List aQ):u6 r n [] a b=(a,b):=id rfl
@[simp] def YZ(r:Ref)(n:Nat)(c:AV)(cs a:List AV)(b:List aQ):u6 r n (c :: cs) a b=u6 r n cs (a++[(aj r n c b).1]) (aj r n c b).2:=id rfl
@[simp] def XG(H:aa):bV H []=H:=id rfl
def Ru(H:aa)(r:Ref)(b:Option aQ):aa:=match b with
 | some b=>H.put r (some { b with gJ:=true})
 | none=>H
@[simp] def WI(H:aa)(r:Ref)(rs:List Ref):bV H (r :: rs)=bV (Ru H r (H.get r)) rs:=by
 show(match H.get r with | some b=>bV (H.put r (some { b with gJ:=true})) rs | none=>bV H rs)=_;cases H.get r<;>rfl
@[simp] def Ze(H:aa)(r:Ref)(b:aQ):Ru H r (some b)=H.put r (some { b with gJ:=true}):=id rfl
def Ry(l:Nat)(c:Option Nat)(b:Option aQ):Option AV:=match b with
 | some b=>if b.arr=true/\l<=b.es.length then some (if b.gJ then .cC b.esz (b.es.take l) c else .fsl b.esz (b.es.take l) c) else none
 | none=>none
@[simp] def acs(g:cF)(n:Nat)(r:Ref)(l:Nat)(c:Option Nat):bK g (n+1) (.bN r 0 l c)=Ry l c (g r):=id rfl
@[simp] def Zt(l:Nat)(c:Option Nat)(b:aQ):Ry l c (some b)=if b.arr=true/\l<=b.es.length then some (if b.gJ then .cC b.esz (b.es.take l) c else .fsl b.esz (b.es.take l) c) else none:=id rfl
@[simp] def agM(g:cF)(n:Nat)(x:Value):bK g (n+1) (.v x)=some (.v x):=id rfl
@[simp] def agN(g:cF)(n:Nat)(x:UInt8):bK g (n+1) (a8 x)=some (a8 x):=id rfl
@[simp] def ael(g:cF)(n:Nat)(x:UInt32):bK g (n+1) (af x)=some (af x):=id rfl
@[simp] def acu(g:cF)(n:Nat)(cs:List AV):bK g (n+1) (.agg cs)=(cs.mapM (bK g n)).map .agg:=id rfl
@[simp] def acr(g:cF)(n:Nat)(cs:List AV):bK g (n+1) (.tup cs)=(cs.mapM (bK g n)).map .tup:=id rfl
def Sl.idx{z:Nat}{es:List AV}{x:AV}(h:Sl z es x){P:Program}{t:TypeId}(b:(dR P t).bind (aA P)=some z)(g:cF)(a:IntKind)(k:Int) :
 da P g t (some x) (some (.v (.int a k)))=if 0<=k/\k<es.length then some (.iptr z es k.toNat 0,[]) else none:=by
 rcases h with ⟨rfl,rfl⟩ | ⟨c,rfl,_⟩
 ·obtain⟨e,he,d⟩:=N8 b;rw[if_neg (by simp)];simp[da,intOf,he]
 exact HW b g es c a k
def Sl.exp{z:Nat}{es:List AV}{x:AV}(h:Sl z es x)(g:cF)(n:Nat):bK g (n+1) x=some x:=by
 rcases h with ⟨rfl,rfl⟩ | ⟨c,rfl,_⟩<;>rfl
def Sl.imp'{z:Nat}{es:List AV}{x:AV}(h:Sl z es x)(r:Ref)(n:Nat)(a:List aQ):aj r n x a=(x,a):=by
 rcases h with ⟨rfl,rfl⟩ | ⟨c,rfl,_⟩<;>cases n<;>rfl
def Sl.r{z:Nat}{es:List AV}{x:AV}(h:Sl z es x):og x=some es.length/\(∀g n,Ab.view g (n+1) x=some x)/\(∀g n,ah g n x=[])/\x.cells=[x]/\x.one=true/\(∀g n,bK g (n+1) x=some x)/\(∀r n a,aj r n x a=(x,a)):=
 ⟨h.len,h.view,h.refs,h.cells.1,h.cells.2,h.exp,h.imp'⟩
@[simp] def ajO(z:Nat)(es es':List AV)(c:Option Nat):Sl z es (.cC z es' c)↔es=es'/\es.length<=c.getD es.length:=by
 constructor
 ·rintro(⟨e,_⟩ | ⟨a,e,h⟩);·cases e
  cases e;exact⟨rfl,h⟩
 rintro⟨rfl,h⟩;exact .inr ⟨c,rfl,h⟩
@[simp] def ajN(z:Nat)(es:List AV):Sl z es bI↔es=[]:=by
 constructor
 ·rintro(⟨_,e⟩ | ⟨a,e,h⟩);·exact e
  cases e
 rintro rfl;exact .inl ⟨rfl,rfl⟩
def Xl{P:Program}{t t' z by':Nat}(f:RB P t z by'=true)(a:Ed P t'=true)(n:Bool)(H:aa)(r:Ref){new:List AV}{x:AV}(i:TU H.get z new x)(m:new≠[])(u:new.length * by'<=bg) :
 ga P n H r (some t) (some t') bI x=some (.bN r 0 new.length none,({ r with k:=0},some ⟨z,new,true,false⟩) :: H):=by
 obtain⟨e,q,g,D,v,y,p,F,E,o⟩:=jh f;have b:=i.oe f g;unfold Ed at a;simp only[aT,dI]at a;have c:(P.underlying t').isNone=false:=by cases h:P.underlying t' with | none=>rw[h]at a;simp at a | some d=>rfl
 have j : ¬((P.underlying t').isNone=true\/isInt P t'≠isNum x):=by
  rw[c,a.2,i.num];simp
 have l : ¬(z≠z\/z=0\/by'=0\/q.cells.length≠z):=by simp[p,E,o]
 simp only[ga,fu,eJ,g,Option.map_some,cI,if_neg j,D,v,y,b,if_neg l,if_neg m,if_pos u];rfl
def Oq{P:Program}{t t' z by':Nat}(k:RB P t z by'=true)(b:Ed P t'=true)(H:aa)(r q:Ref)(n:Nat){new es:List AV}{x:AV}(p:TU H.get z new x){fz:Bool}(E:H.get q=some ⟨z,es,true,fz⟩)(I:n=es.length)(c:new≠[])(J:(es.length+new.length) * by'<=bg) :
 ga P true H r (some t) (some t') (.bN q 0 n none) x=some (.bN ⟨q.d,q.t,H.gen q.d q.t,0⟩ 0 (es.length+new.length) none,(⟨q.d,q.t,H.gen q.d q.t,0⟩,some ⟨z,es++new,true,fz⟩) :: H.put q none):=by
 subst I;obtain⟨e,u,i,D,v,y,o,K,F,m⟩:=jh k;have a:=p.oe k i;unfold Ed at b;simp only[aT,dI]at b;have g:(P.underlying t').isNone=false:=by cases h:P.underlying t' with | none=>rw[h]at b;simp at b | some d=>rfl
 have l : ¬((P.underlying t').isNone=true\/isInt P t'≠isNum x):=by
  rw[g,b.2,p.num];simp
 have G : ¬(z≠z\/z=0\/by'=0\/u.cells.length≠z):=by simp[o,F,m]
 have j : ¬(z≠z\/z=0\/by'=0\/new=[]\/u.cells.length≠z):=by simp[o,F,m,c]
 have f:fu P H.get r (some t) (some t') (.bN q 0 es.length none) x=none:=by
  simp only[fu,eJ,i,Option.map_some,cI,if_neg l,D,v,y,a,if_neg G,E,if_neg c];simp
 simp only[ga,f,EV,Ib];simp only[lx,eJ,i,Option.map_some,cI,if_neg l,D,v,y,a,if_neg j,E,J,and_self,if_true,iQo]
def oA(P:Program)(t:TypeId):Nat:=((dR P t).bind (aA P)).getD 0
def vW(P:Program)(t:TypeId):Nat:=((dR P t).bind (oM P)).getD 0
def kN(P:Program)(t:TypeId):AV:=((dR P t).bind (eX P)).getD AV.undef
def p9(P:Program)(t:TypeId):Bool:=RB P t (oA P t) (vW P t)
def Zv(z:Nat)(o:Option (Nat × List AV)):Option (List AV):=match o with
 | some (a,es)=>if a=z then some es else none
 | none=>none
def kX(z:Nat)(g:cF)(x:AV):Option (List AV):=match x with
 | .v (.slice none 0 0)=>some []
 | .v (.int _ _)=>none
 | x=>Zv z (cL g x)
@[simp] def aep(z:Nat)(g:cF):kX z g bI=some []:=id rfl
@[simp] def aeq(z:Nat)(g:cF)(a:Nat)(es:List AV)(c:Option Nat):kX z g (.cC a es c)=if a=z then some es else none:=id rfl
def acw(z o n:Nat)(b:Option aQ):Option (List AV):=match b with
 | some b=>if (b.arr=true/\o+n<=b.es.length)/\b.esz=z then some ((b.es.drop o).take n) else none
 | none=>none
@[simp] def aer(z o n:Nat)(b:aQ):acw z o n (some b)=if (b.arr=true/\o+n<=b.es.length)/\b.esz=z then some ((b.es.drop o).take n) else none:=id rfl
@[simp] def aeo(z:Nat)(g:cF)(r:Ref)(o n:Nat)(c:Option Nat):kX z g (.bN r o n c)=acw z o n (g r):=by
 unfold kX acw;simp only[cL];cases g r with
 | none=>rfl
 | some b=>
  dsimp only;by_cases h:b.arr=true/\o+n<=b.es.length
  ·by_cases a:b.esz=z;·rw[if_pos h,if_pos ⟨h,a⟩];simp[Zv,a]
   rw[if_pos h,if_neg (λe=>a e.2)];simp[Zv,a]
  rw[if_neg h,if_neg (λe=>h e.1)];rfl
def Sl.kX{z:Nat}{es:List AV}{x:AV}(h:Sl z es x)(g:cF):Ab.kX z g x=some es:=by
 rcases h with ⟨rfl,rfl⟩ | ⟨c,rfl,_⟩<;>simp
def yT{z:Nat}{g:cF}{x:AV}{new:List AV}(h:kX z g x=some new):TU g z new x:=by
 unfold kX at h;split at h;·cases h;exact .inl ⟨rfl,rfl⟩
 ·cases h
 rename_i b d;unfold Zv at h;split at h
 ·rename_i f es a;split at h
  ·rename_i c;cases h;subst c;refine .inr ⟨?_,λe=>?_,a⟩
   ·cases x with
    | v u=>cases u with
     | int k n=>exact(d _ _ rfl).elim
     | _=>rfl
    | _=>rfl
   exact b e
  cases h
 cases h
def acS(z by':Nat)(H:aa)(r:Ref)(new:Option (List AV)):cp:=match new with
 | some new=>if new=[] then some (bI,H) else if new.length * by'<=bg then some (.bN r 0 new.length none,({ r with k:=0},some ⟨z,new,true,false⟩) :: H) else none
 | none=>none
@[simp] def TK(z by':Nat)(H:aa)(r:Ref)(new:List AV):acS z by' H r (some new)=if new=[] then some (bI,H) else if new.length * by'<=bg then some (.bN r 0 new.length none,({ r with k:=0},some ⟨z,new,true,false⟩) :: H) else none:=id rfl
@[simp] def acR{P:Program}{t t':TypeId}(i:p9 P t=true)(c:Ed P t'=true)(z:Bool)(H:aa)(r:Ref)(x:AV)(g:(kX (oA P t) H.get x).isSome=true) :
 ga P z H r (some t) (some t') bI x=acS (oA P t) (vW P t) H r (kX (oA P t) H.get x):=by
 obtain⟨new,F⟩:=ik.1 g;rw[F,TK];have g:=yT F;unfold p9 at i;by_cases b:new=[]
 ·rw[if_pos b];subst b;obtain⟨e,n,j,q,o,p,m,G,u,l⟩:=jh i;have a:=g.oe i j;unfold Ed at c;simp only[aT,dI]at c;have f:(P.underlying t').isNone=false:=by cases h:P.underlying t' with | none=>rw[h]at c;simp at c | some d=>rfl
  have k : ¬((P.underlying t').isNone=true\/isInt P t'≠isNum x):=by rw[f,c.2,g.num];simp
  have y : ¬(oA P t≠oA P t\/oA P t=0\/vW P t=0\/n.cells.length≠oA P t):=(by simp[m,u,l]);simp only[ga,fu,eJ,j,Option.map_some,cI,if_neg k,q,o,p,a,if_neg y,if_true];rfl
 rw[if_neg b];split;·rename_i D;exact Xl i c z H r g b D
 rename_i D;obtain⟨e,n,j,q,o,p,m,G,u,l⟩:=jh i;have a:=g.oe i j;unfold Ed at c;simp only[aT,dI]at c;have f:(P.underlying t').isNone=false:=by cases h:P.underlying t' with | none=>rw[h]at c;simp at c | some d=>rfl
 have k : ¬((P.underlying t').isNone=true\/isInt P t'≠isNum x):=by rw[f,c.2,g.num];simp
 have y : ¬(oA P t≠oA P t\/oA P t=0\/vW P t=0\/n.cells.length≠oA P t):=(by simp[m,u,l]);have E : ¬(oA P t≠oA P t\/oA P t=0\/vW P t=0\/new=[]\/n.cells.length≠oA P t):=(by simp[m,u,l,b]);have v:fu P H.get r (some t) (some t') bI x=none:=(by simp only[fu,eJ,j,Option.map_some,cI,if_neg k,q,o,p,a,if_neg y,if_neg b,if_neg D]);simp only[ga,v,EV];cases z;·rfl
 simp only[Ib,lx,eJ,j,Option.map_some,cI,if_neg k,q,o,p,a,if_neg E]
def bsG(a:Bool)(z:Nat)(b:AV)(H:aa)(r:Ref)(n:Nat)(ps:List (Nat × AV)):cp:=match jt (List.replicate n b) ps with
 | some es=>if a then some (.cC z es (some n),H) else some (.bN r 0 n (some n),({ r with k:=0},some ⟨z,es,true,false⟩) :: H)
 | none=>none
@[simp] def aiS{P:Program}{t:TypeId}(c:p9 P t=true)(a l:Bool)(H:aa)(r:Ref)(n:Nat)(ps:List (Nat × AV))(d:n * oA P t<=16777216)(k:fS H.get ps=some ps)(g:bX H.get (ps.map (·.2))=[])
 (j:ps.all (λp=>p.2.cells.length == oA P t&&p.2.cells.all AV.one)=true) (b:(jt (List.replicate n (kN P t)) ps).isSome=true) :
 qb P a l H r t n (some ps)=bsG a (oA P t) (kN P t) H r n ps:=by
 obtain⟨es,b⟩:=ik.1 b;unfold p9 at c;obtain⟨e,i,m,y,x,o,u,v,z,q⟩:=jh c;have h:(dR P t).bind (eX P)=some i:=by rw[m];exact o
 have f:kN P t=i:=by unfold kN;rw[h];rfl
 rw[f]at b ⊢;rw[Xb c d k g j h b];unfold bsG;rw[b]
@[simp] def XH(es:List AV):jt es []=some es:=id rfl
@[simp] def WM(es:List AV)(i:Nat)(v:AV)(ps:List (Nat × AV)):jt es ((i,v) :: ps)=if i<es.length then jt (es.set i v) ps else none:=id rfl
@[simp] def ag8(a:Bool)(z:Nat)(b:AV)(H:aa)(r:Ref)(n:Nat)(ps:List (Nat × AV)):bsG a z b H r n ps=(jt (List.replicate n b) ps).bind λes=>if a then some (.cC z es (some n),H) else some (.bN r 0 n (some n),({ r with k:=0},some ⟨z,es,true,false⟩) :: H):=by
 unfold bsG;cases jt (List.replicate n b) ps<;>rfl
@[simp] def XA(g:cF):fS g []=some []:=id rfl
@[simp] def Up(g:cF)(i:Nat)(x:AV)(ps:List (Nat × AV)):fS g ((i,x) :: ps)=(view g depth x).bind λy=>(fS g ps).map ((i,y) :: ·):=by
 unfold fS;rw[Ns];dsimp only;cases view g depth x<;>rfl
def acf(z o n:Nat)(k:Int)(r:Ref)(b:Option aQ):jk:=match b with
 | some b=>if 0<=k/\k<n/\z=b.esz then some (.ptr r (o+k.toNat) 0,[]) else none
 | none=>none
@[simp] def aeh(z o n:Nat)(k:Int)(r:Ref)(b:aQ):acf z o n k r (some b)=if 0<=k/\k<n/\z=b.esz then some (.ptr r (o+k.toNat) 0,[]) else none:=id rfl
@[simp] def TZ{P:Program}{t:TypeId}(h:p9 P t=true)(g:cF)(r:Ref)(o n:Nat)(c:Option Nat)(a:IntKind)(k:Int) :
 da P g t (some (.bN r o n c)) (some (.v (.int a k)))=acf (oA P t) o n k r (g r):=by
 unfold p9 at h;obtain⟨e,l,b,d,m,p,i,j,q,f⟩:=jh h;simp only[da,eJ,intOf,b,d];cases g r<;>rfl
def Ph(H:aa)(r:Ref)(o:Option aQ)(n i j:Nat)(x:AV):cp:=match o with
 | some ⟨z,es,true,false⟩=>if x.cells.length=n/\x.cells.all AV.one=true then (fP es i j x.cells).map λes=>(AV.undef,H.put r (some ⟨z,es,true,false⟩)) else none
 | some ⟨z,es,false,false⟩=>if x.cells.length=n/\x.cells.all AV.one=true then (fP es i j x.cells).map λes=>(AV.undef,H.put r (some ⟨z,es,false,false⟩)) else none
 | _=>none
@[simp] def HA(H:aa)(r:Ref)(z:Nat)(es:List AV)(n i j:Nat)(x:AV):Ph H r (some ⟨z,es,true,false⟩) n i j x=if x.cells.length=n/\x.cells.all AV.one=true then (fP es i j x.cells).map λes=>(AV.undef,H.put r (some ⟨z,es,true,false⟩)) else none:=id rfl
@[simp] def aa4(H:aa)(r:Ref)(z:Nat)(es:List AV)(n i j:Nat)(x:AV):Ph H r (some ⟨z,es,false,false⟩) n i j x=if x.cells.length=n/\x.cells.all AV.one=true then (fP es i j x.cells).map λes=>(AV.undef,H.put r (some ⟨z,es,false,false⟩)) else none:=id rfl
def Pk(H:aa)(o:Option aQ)(x:AV):Prop:=match o with
 | some ⟨_,_,false,false⟩=>True
 | some ⟨_,_,true,false⟩=>view H.get depth x=some x/\ah H.get depth x=[]
 | _=>False
@[simp] def aa6(H:aa)(z:Nat)(es:List AV)(x:AV):Pk H (some ⟨z,es,false,false⟩) x=True:=id rfl
@[simp] def aa7(H:aa)(z:Nat)(es:List AV)(x:AV):Pk H (some ⟨z,es,true,false⟩) x=(view H.get depth x=some x/\ah H.get depth x=[]):=id rfl
def G2{P:Program}{t:TypeId}(d:(aA P t).isSome=true)(H:aa)(r:Ref)(i j:Nat)(x:AV)(c:Pk H (H.get r) x) :
 nx P H t (some (.ptr r i j)) (some x)=Ph H r (H.get r) ((aA P t).getD 0) i j x:=by
 obtain⟨n,d⟩:=ik.1 d;simp only[nx,d,cI];cases e:H.get r with
 | none=>rw[e]at c;exact c.elim
 | some b=>
  rw[e]at c;obtain⟨z,es,arr,gJ⟩:=b;cases gJ with
  | true=>cases arr<;>exact c.elim
  | false=>
   cases arr with| false=>simp only[iQv,mJ,iQf];rfl| true=>
    obtain⟨f,g⟩:=c;simp only[iQv,if_true,f,g,Et,iQf,bV];by_cases a:x.cells.length=n/\x.cells.all AV.one=true;·rw[if_pos a,HA,if_pos a,if_pos a.2]
    rw[if_neg a,HA,if_neg a]
def Fw{b:Type}(f:b->AV)(l:List b)(i j:Nat)(new:List AV):fP (l.map f) i j new=(l[i]?).bind λa=>(tz (f a) j new).map λc=>(l.map f).set i c:=by
 unfold fP;rw[k5];cases l[i]?<;>rfl
@[simp] def Jc(cs:List AV)(j:Nat)(new:List AV):tz (.agg cs) j new=if j+new.length<=cs.length then some (.agg (patch cs j new)) else none:=id rfl
@[simp] def abw(f:Fn)(a b:List AV):wU f (some a) (some b)=some (.fn f a b,[]):=id rfl
attribute [simp] G2
@[simp] def acq(a:Nat->Option (Nat × Nat))(cells:List AV):mg a cells []=some cells:=id rfl
def aaO(a:Nat->Option (Nat × Nat))(cells:List AV)(v:AV)(rest:List (Nat × AV))(p:Option (Nat × Nat)):Option (List AV):=match p with
 | none=>none
 | some (off,size)=>if v.cells.length=size/\off+size<=cells.length then mg a (patch cells off v.cells) rest else none
@[simp] def aaP(a:Nat->Option (Nat × Nat))(cells:List AV)(i:Nat)(v:AV)(rest:List (Nat × AV)):mg a cells ((i,v) :: rest)=aaO a cells v rest (a i):=id rfl
@[simp] def acp(b:Nat->Option (Nat × Nat))(cells:List AV)(v:AV)(rest:List (Nat × AV))(c a:Nat):aaO b cells v rest (some (c,a))=if v.cells.length=a/\c+a<=cells.length then mg b (patch cells c v.cells) rest else none:=id rfl
@[simp] def aaa(P:Program){g:cF}{r:Ref}{a b:TypeId}{k':IntKind}(d:(P.underlying a).isNone=false)(e:intKind P b=some .u64)(n:Int)(c:0<=n)(f:n<=4294967296) :
 eE P g r a b (some (.v (.int k' n)))=some (.v (.int .u64 n),[]):=by
 rw[yI P .u64 d e,IntKind.wrap_u64,OM c (by omega)]
@[simp] def afY(r':Ref)(b':Option aQ)(H:aa)(r:Ref)(b:Option aQ):aa.put ((r',b') :: H) r b=if r'=r then (r,b) :: H else (r',b') :: aa.put H r b:=id rfl
@[simp] def XY{a b:Type}(f:a->b)(l:List a):List.take l.length (l.map f)=l.map f:=gj (by simp)
def QC(z:Nat)(es:List AV)(y:AV):Prop:=(y=bI/\es=[])\/y = .fsl z es none\/(y = .fsl z [] (some 0)/\es=[])
def YF(z:Nat):QC z [] bI := .inl ⟨rfl,rfl⟩
@[simp] def ahl(z:Nat)(es:List AV):QC z es bI↔es=[]:=by
 constructor
 ·rintro(⟨_,e⟩ | e | ⟨e,_⟩);·exact e
  ·cases e
  cases e
 rintro rfl;exact YF z
@[simp] def ahm(z:Nat)(es es':List AV):QC z es (.fsl z es' none)↔es=es':=by
 constructor
 ·rintro(⟨e,_⟩ | e | ⟨e,_⟩);·cases e
  ·cases e;rfl
  cases e
 rintro rfl;exact .inr (.inl rfl)
@[simp] def aeE(z:Nat)(es:List AV):QC z es (.fsl z [] (some 0))↔es=[]:=by
 constructor
 ·rintro(⟨e,_⟩ | e | ⟨_,e⟩);·cases e
  ·cases e
  exact e
 rintro rfl;exact .inr (.inr ⟨rfl,rfl⟩)
def Y0(r:Ref)(y:AV)(k:Nat):AV:=match y with
 | .fsl _ es c => .bN { r with k:=k} 0 es.length c
 | y=>y
def Y5(y:AV):List aQ:=match y with
 | .fsl z es _=>[⟨z,es,true,false⟩]
 | _=>[]
def QC.imp{z:Nat}{es:List AV}{y:AV}(h:QC z es y)(b:z≠0)(r:Ref)(n:Nat)(a:List aQ):aj r (n+1) y a=(Y0 r y a.length,a++Y5 y):=by
 rcases h with ⟨rfl,rfl⟩ | rfl | ⟨rfl,rfl⟩
 ·simp[Y0,Y5]
 ·simp[Y0,Y5,b]
 simp[Y0,Y5,b]
def Ot{P:Program}{t t':TypeId}(g:p9 P t=true)(c:Ed P t'=true)(D:Bool)(H:aa)(r q:Ref)(n k:Nat)(x:AV){es new:List AV}{fz:Bool}(y:H.get q=some ⟨oA P t,es,true,fz⟩)(f:kX (oA P t) H.get x=some new)(z:n=es.length)(j:new=[]\/((es.length+new.length) * vW P t<=bg/\k<es.length+new.length)) :
 ga P D H r (some t) (some t') (.bN q 0 n (some k)) x=if new=[] then some (.bN q 0 n (some k),H) else some (.bN r 0 (es.length+new.length) none,({ r with k:=0},some ⟨oA P t,es++new,true,false⟩) :: H):=by
 subst z;have f:=yT f;unfold p9 at g;obtain⟨e,G,l,v,p,u,F,K,J,E⟩:=jh g;have a:=f.oe g l;unfold Ed at c;simp only[aT,dI]at c;have i:(P.underlying t').isNone=false:=by cases h:P.underlying t' with | none=>rw[h]at c;simp at c | some d=>rfl
 have m : ¬((P.underlying t').isNone=true\/isInt P t'≠isNum x):=by rw[i,c.2,f.num];simp
 have o : ¬(oA P t≠oA P t\/oA P t=0\/vW P t=0\/G.cells.length≠oA P t):=by simp[F,J,E]
 by_cases b:new=[];·subst b;simp only[ga,fu,eJ,l,Option.map_some,cI,if_neg m,v,p,u,a,if_neg o,y,if_true];simp
 obtain⟨I,j⟩:=j.resolve_left b;simp only[ga,fu,eJ,l,Option.map_some,cI,if_neg m,v,p,u,a,if_neg o,y,if_neg b];simp only[ne_eq,not_true_eq_false,Bool.true_eq_false,or_self,iQf,uR,cH,j,I,and_self,if_true,Cx,AT];rfl
def ow(z by' n:Nat)(d:Bool)(c:Option Nat)(b:Option aQ)(new:Option (List AV)):Prop:=match b,new with
 | some ⟨a,es,true,_⟩,some new=>a=z/\n=es.length/\(new=[]\/((es.length+new.length) * by'<=bg/\match c with | none=>d=true | some k=>k<es.length+new.length))
 | _,_=>False
def aE(z by' n:Nat)(b:Bool)(a:Nat)(es new:List AV)(fz:Bool):ow z by' n b none (some ⟨a,es,true,fz⟩) (some new)=(a=z/\n=es.length/\(new=[]\/((es.length+new.length) * by'<=bg/\b=true))):=id rfl
def aH(z by' n:Nat)(b:Bool)(k a:Nat)(es new:List AV)(fz:Bool):ow z by' n b (some k) (some ⟨a,es,true,fz⟩) (some new)=(a=z/\n=es.length/\(new=[]\/((es.length+new.length) * by'<=bg/\k<es.length+new.length))):=id rfl
def ZE(z:Nat)(H:aa)(q r:Ref)(n:Nat)(c:Option Nat)(b:Option aQ)(new:Option (List AV)):cp:=match b,new with
 | some b,some []=>some (.bN q 0 n c,H)
 | some b,some new=>match c with
  | none=>some (.bN ⟨q.d,q.t,H.gen q.d q.t,0⟩ 0 (b.es.length+new.length) none,(⟨q.d,q.t,H.gen q.d q.t,0⟩,some ⟨z,b.es++new,true,b.gJ⟩) :: H.put q none)
  | some _=>some (.bN r 0 (b.es.length+new.length) none,({ r with k:=0},some ⟨z,b.es++new,true,false⟩) :: H)
 | _,_=>none
@[simp] def Xm(z:Nat)(H:aa)(q r:Ref)(n:Nat)(c:Option Nat)(b:aQ):ZE z H q r n c (some b) (some [])=some (.bN q 0 n c,H):=id rfl
def bT(z:Nat)(H:aa)(q r:Ref)(n:Nat)(b:aQ)(new:List AV)(a:new≠[]):ZE z H q r n none (some b) (some new)=some (.bN ⟨q.d,q.t,H.gen q.d q.t,0⟩ 0 (b.es.length+new.length) none,(⟨q.d,q.t,H.gen q.d q.t,0⟩,some ⟨z,b.es++new,true,b.gJ⟩) :: H.put q none):=by
 cases new with| nil=>exact(a rfl).elim| cons _ _=>rfl
def bS(z:Nat)(H:aa)(q r:Ref)(n k:Nat)(b:aQ)(new:List AV)(a:new≠[]):ZE z H q r n (some k) (some b) (some new)=some (.bN r 0 (b.es.length+new.length) none,({ r with k:=0},some ⟨z,b.es++new,true,false⟩) :: H):=by
 cases new with| nil=>exact(a rfl).elim| cons _ _=>rfl
def aO{P:Program}{t t':TypeId}(j:p9 P t=true)(g:Ed P t'=true)(u:Bool)(H:aa)(r q:Ref)(n:Nat)(c:Option Nat)(x:AV)(a:ow (oA P t) (vW P t) n u c (H.get q) (kX (oA P t) H.get x)) :
 ga P u H r (some t) (some t') (.bN q 0 n c) x=ZE (oA P t) H q r n c (H.get q) (kX (oA P t) H.get x):=by
 cases i:H.get q with| none=>rw[i]at a;exact a.elim| some b=>
  obtain⟨M,es,arr,fz⟩:=b;cases m:kX (oA P t) H.get x with
  | none=>rw[i,m]at a;cases arr<;>exact a.elim
  | some new=>
   rw[i,m]at a;cases arr with
   | false=>exact a.elim
   | true=>
    obtain⟨rfl,rfl,a⟩:=a;cases c with
    | none=>
     by_cases f:new=[]
     ·subst f;rw[Xm];have o:=yT m;unfold p9 at j;obtain⟨e,F,v,K,I,J,E,N,L,D⟩:=jh j;have l:=o.oe j v;unfold Ed at g;simp only[aT,dI]at g;have p:(P.underlying t').isNone=false:=by cases h:P.underlying t' with | none=>rw[h]at g;simp at g | some d=>rfl
      have y : ¬((P.underlying t').isNone=true\/isInt P t'≠isNum x):=by rw[p,g.2,o.num];simp
      have z : ¬(oA P t≠oA P t\/oA P t=0\/vW P t=0\/F.cells.length≠oA P t):=(by simp[E,L,D]);simp only[ga,fu,eJ,v,Option.map_some,cI,if_neg y,K,I,J,l,if_neg z,i,if_true];simp
     obtain⟨G,rfl⟩:=a.resolve_left f;rw[bT _ _ _ _ _ _ _ f];exact Oq (by exact j) g H r q _ (yT m) i rfl f G
    | some k=>
     rw[Ot j g u H r q _ k x i m rfl a];split;·rename_i f;subst f;rfl
     rename_i f;rw[bS _ _ _ _ _ _ _ _ f]
def Sl.V8{z:Nat}{es:List AV}{x:AV}(h:Sl z es x):x=bI/\es=[] \/∃c,x = .cC z es c:=by
 rcases h with h | ⟨c,h,_⟩
 ·exact .inl h
 exact .inr ⟨c,h⟩
@[simp] def YC(P:Program)(t:TypeId)(a d:Operand)(h:(dR P t).isSome=true)(z:Nat)(es:List AV)(c:Option Nat):bP P .eql t a d (some (.cC z es c)) (some bI)=some (aB false,[]):=by
 unfold dR at h;split at h;·rename_i e b;simp[bP,Lx,oR,b]
 cases h
def agI(b:Option aQ):Bool:=match b with | some b=>b.gJ | none=>false
@[simp] def aej(b:aQ):agI (some b)=b.gJ:=id rfl
@[simp] def acV(g:cF):kO g []=true:=id rfl
@[simp] def aaT(g:cF)(r:Ref)(rs:List Ref):kO g (r :: rs)=(agI (g r)&&kO g rs):=id rfl
def aF(H:aa)(r:Ref)(refs:List Ref)(y:AV)(a:flat depth y=false)(b:kO H.get refs=false):w9 true H r refs (some y)=some ((aj r depth y []).1,keyed r 0 (aj r depth y []).2 (bV H refs)):=by
 simp only[w9,a,b,GI,mJ,iQf,if_true]
def oP(z:Nat):List AV->AV
 | []=>bI
 | es => .fsl z es none
@[simp] def Nf(z:Nat):oP z []=bI:=id rfl
def pe(z:Nat){es:List AV}(h:es≠[]):oP z es = .fsl z es none:=by
 cases es with| nil=>exact(h rfl).elim| cons _ _=>rfl
def sv:AV->AV
 | .cC z [] _ => .fsl z [] (some 0)
 | .cC z es _ => .fsl z es none
 | x=>x
@[simp] def W6(x:Value):sv (.v x) = .v x:=id rfl
@[simp] def acF(z:Nat)(c:Option Nat):sv (.cC z [] c) = .fsl z [] (some 0):=id rfl
def tM(z:Nat){es:List AV}(c:Option Nat)(h:es≠[]):sv (.cC z es c) = .fsl z es none:=by
 cases es with| nil=>exact(h rfl).elim| cons _ _=>rfl
def vY{z:Nat}{es:List AV}{x:AV}(h:Sl z es x):QC z es (sv x):=by
 rcases h with ⟨rfl,rfl⟩ | ⟨c,rfl,_⟩
 ·simp
 by_cases a:es=[];·subst a;simp
 rw[tM z c a];simp
def lY(z:Nat)(es:List AV)(H:aa)(x y:AV):Prop:=(x=y/\Sl z es y) \/∃r c fz,x = .bN r 0 es.length c/\H.get r=some ⟨z,es,true,fz⟩/\y = .cC z es c/\es.length<=c.getD es.length
def lY.sl{z:Nat}{es:List AV}{H:aa}{x y:AV}(h:lY z es H x y):Sl z es y:=by
 rcases h with ⟨_,h⟩ | ⟨r,c,fz,_,_,rfl,h⟩
 ·exact h
 exact .inr ⟨c,rfl,h⟩
def lY.view{z:Nat}{es:List AV}{H:aa}{x y:AV}(h:lY z es H x y)(n:Nat):Ab.view H.get (n+1) x=some y:=by
 rcases h with ⟨rfl,h⟩ | ⟨r,c,fz,rfl,a,rfl,_⟩
 ·exact h.view _ _
 rw[JN a rfl]
def lY.len{z:Nat}{es:List AV}{H:aa}{x y:AV}(h:lY z es H x y):og x=some es.length:=by
 rcases h with ⟨rfl,h⟩ | ⟨r,c,fz,rfl,a,rfl,_⟩
 ·exact h.len
 rfl
def lY.cells{z:Nat}{es:List AV}{H:aa}{x y:AV}(h:lY z es H x y):x.cells=[x]/\x.one=true:=by
 rcases h with ⟨rfl,h⟩ | ⟨r,c,fz,rfl,a,rfl,_⟩
 ·exact h.cells
 exact⟨rfl,rfl⟩
def lY.put{z:Nat}{es:List AV}{H:aa}{x y:AV}(h:lY z es H x y){q:Ref}(e:x.at?≠some q)(b:Option aQ):lY z es (H.put q b) x y:=by
 rcases h with h | ⟨r,c,fz,rfl,d,rfl,a⟩
 ·exact .inl h
 refine .inr ⟨r,c,fz,rfl,?_,rfl,a⟩;rw[aa.get_put,if_neg (by rintro rfl;exact e rfl),d]
def lY.cons{z:Nat}{es:List AV}{H:aa}{x y:AV}(h:lY z es H x y)(f:Fr H)(d t:Nat)(b:Option aQ):lY z es ((⟨d,t,H.gen d t,0⟩,b) :: H) x y:=by
 rcases h with h | ⟨r,c,fz,rfl,a,rfl,e⟩
 ·exact .inl h
 refine .inr ⟨r,c,fz,rfl,?_,rfl,e⟩;rw[aa.fh,if_neg (nB f (by rw[a];rfl) d t 0),a]
def lY.r{z:Nat}{es:List AV}{H:aa}{x y:AV}(h:lY z es H x y):og x=some es.length/\(∀n,Ab.view H.get (n+1) x=some y)/\x.cells=[x]/\x.one=true:=⟨h.len,h.view,h.cells⟩
def lY.of{z:Nat}{es:List AV}{x:AV}(h:Sl z es x)(H:aa):lY z es H x x := .inl ⟨rfl,h⟩
def TQ(z:Nat)(es:List AV)(H:aa)(x:AV)(r:Ref):Prop:=(x=bI/\es=[]) \/∃c,x = .bN r 0 es.length c/\H.get r=some ⟨z,es,true,false⟩
def TQ.len{z:Nat}{es:List AV}{H:aa}{x:AV}{r:Ref}(h:TQ z es H x r):og x=some es.length:=by
 rcases h with ⟨rfl,rfl⟩ | ⟨c,rfl,_⟩<;>rfl
def TQ.cells{z:Nat}{es:List AV}{H:aa}{x:AV}{r:Ref}(h:TQ z es H x r):x.cells=[x]/\x.one=true:=by
 rcases h with ⟨rfl,rfl⟩ | ⟨c,rfl,_⟩<;>exact⟨rfl,rfl⟩
def TQ.bN{z:Nat}{es:List AV}{H:aa}{x:AV}{r:Ref}(h:TQ z es H x r){k:Nat}(a:k<es.length) : ∃c,x = .bN r 0 es.length c/\H.get r=some ⟨z,es,true,false⟩:=by
 rcases h with ⟨rfl,rfl⟩ | h
 ·simp at a
 exact h
def qq(a:List Nat)(z:Nat)(es:List AV)(H:aa)(x:AV):Prop:=(x=bI/\es=[]) \/∃t g,t∈a/\x = .bN ⟨0,t,g,0⟩ 0 es.length none/\H.get ⟨0,t,g,0⟩=some ⟨z,es,true,false⟩
@[simp] def aeD(b:List Nat)(z:Nat)(es:List AV)(H:aa)(t g n:Nat):qq b z es H (.bN ⟨0,t,g,0⟩ 0 n none)↔t∈b/\n=es.length/\H.get ⟨0,t,g,0⟩=some ⟨z,es,true,false⟩:=by
 constructor
 ·rintro(⟨e,_⟩ | ⟨t',c,a,e,h⟩);·cases e
  cases e;exact⟨a,rfl,h⟩
 rintro⟨a,rfl,h⟩;exact .inr ⟨t,g,a,rfl,h⟩
def lY.live{z:Nat}{es:List AV}{H:aa}{x y:AV}(h:lY z es H x y){r:Ref}(b:x.at?=some r):(H.get r).isSome=true:=by
 rcases h with ⟨rfl,h⟩ | ⟨r',c,fz,rfl,a,rfl,_⟩
 ·rcases h with ⟨rfl,_⟩ | ⟨c,rfl,_⟩<;>cases b
 cases b;rw[a];rfl
def lY.mono{z:Nat}{es:List AV}{H H':aa}{x y:AV}(h:lY z es H x y)(d : ∀r,x.at?=some r->H'.get r=H.get r):lY z es H' x y:=by
 rcases h with h | ⟨r',c,fz,rfl,a,rfl,b⟩
 ·exact .inl h
 exact .inr ⟨r',c,fz,rfl,by rw[d r' rfl,a],rfl,b⟩
def Lm{H:aa}(a:Fr H){q:Ref}(h:(H.get q).isSome=true)(d t k:Nat):((⟨d,t,H.gen d t+1,k⟩:Ref)=q)=False:=
 eq_false λe=>by subst e;rw[a _ _ _ _ (Em _)]at h;cases h
def Ln{H:aa}(a:Fr H){q:Ref}(h:(H.get q).isSome=true)(d t k:Nat):(q=(⟨d,t,H.gen d t+1,k⟩:Ref))=False:=
 eq_false λe=>by subst e;rw[a _ _ _ _ (Em _)]at h;cases h
def NO{H:aa}(a:Fr H)(d t k:Nat):H.get ⟨d,t,H.gen d t+1,k⟩=none:=a _ _ _ _ (Em _)
def I3{H:aa}(c:Fr H){d t g:Nat}(k:Nat)(m:g=H.gen d t\/g+1=H.gen d t)(b:Option aQ):Fr ((⟨d,t,g,k⟩,b) :: H):=by
 intro j t' l k' h;rw[aa.NP]at h;rw[aa.fh];by_cases a:d=j/\t=t';·obtain⟨rfl,rfl⟩:=a;rw[if_pos ⟨rfl,rfl⟩]at h;rw[if_neg (by intro e;injection e;omega)];exact c _ _ _ _ (by omega)
 rw[if_neg a]at h;rw[if_neg (by intro e;injection e with i f;exact a ⟨i,f⟩)];exact c _ _ _ _ h
def Ro(by':Nat)(es:List AV)(k:Nat)(new:Option (List AV)):Prop:=match new with
 | some new=>new=[]\/(k<es.length+new.length/\(es.length+new.length) * by'<=bg)
 | none=>False
def an(by':Nat)(es:List AV)(k:Nat)(new:List AV):Ro by' es k (some new)=(new=[]\/(k<es.length+new.length/\(es.length+new.length) * by'<=bg)):=id rfl
def ab6(z:Nat)(H:aa)(r:Ref)(es:List AV)(k:Nat)(new:Option (List AV)):cp:=match new with
 | some []=>some (.cC z es (some k),H)
 | some new=>some (.bN r 0 (es.length+new.length) none,({ r with k:=0},some ⟨z,es++new,true,false⟩) :: H)
 | none=>none
@[simp] def Wt(z:Nat)(H:aa)(r:Ref)(es:List AV)(k:Nat):ab6 z H r es k (some [])=some (.cC z es (some k),H):=id rfl
def bA(z:Nat)(H:aa)(r:Ref)(es:List AV)(k:Nat)(new:List AV)(a:new≠[]):ab6 z H r es k (some new)=some (.bN r 0 (es.length+new.length) none,({ r with k:=0},some ⟨z,es++new,true,false⟩) :: H):=by
 cases new with| nil=>exact(a rfl).elim| cons _ _=>rfl
def aP{P:Program}{t t':TypeId}(i:p9 P t=true)(b:Ed P t'=true)(D:Bool)(H:aa)(r:Ref)(z k:Nat)(es:List AV)(x:AV)(y:z=oA P t)(f:Ro (vW P t) es k (kX (oA P t) H.get x)) :
 ga P D H r (some t) (some t') (.cC z es (some k)) x=ab6 z H r es k (kX (oA P t) H.get x):=by
 subst y;cases m:kX (oA P t) H.get x with
 | none=>rw[m]at f;exact f.elim
 | some new=>
  rw[m]at f;have c:=yT m;unfold p9 at i;obtain⟨e,G,l,u,p,q,F,K,J,E⟩:=jh i;have a:=c.oe i l;unfold Ed at b;simp only[aT,dI]at b;have j:(P.underlying t').isNone=false:=by cases h:P.underlying t' with | none=>rw[h]at b;simp at b | some d=>rfl
  have n : ¬((P.underlying t').isNone=true\/isInt P t'≠isNum x):=by rw[j,b.2,c.num];simp
  have o : ¬(oA P t≠oA P t\/oA P t=0\/vW P t=0\/G.cells.length≠oA P t):=(by simp[F,J,E]);by_cases g:new=[];·subst g;rw[Wt];simp only[ga,fu,eJ,l,Option.map_some,cI,if_neg n,u,p,q,a,if_neg o,if_neg (show ¬(oA P t≠oA P t) by simp),if_true];rfl
  obtain⟨v,I⟩:=f.resolve_left g;rw[bA _ _ _ _ _ _ g];simp only[ga,fu,eJ,l,Option.map_some,cI,if_neg n,u,p,q,a,if_neg o,if_neg (show ¬(oA P t≠oA P t) by simp),if_neg g,if_pos (show k<es.length+new.length/\(es.length+new.length) * vW P t<=bg from⟨v,I⟩)];rfl
@[simp] def aei(n:Nat)(h:n<9223372036854775808):IntKind.i64.wrap (no_index (OfNat.ofNat n):Int)=OfNat.ofNat n:=by
 show IntKind.i64.wrap (n:Int)=n;exact iQa _ (by omega)
@[simp] def aha(len:Nat)(cap:Option Nat)(a b:Option Int):bounds len cap a b none=if 0<=a.getD 0/\a.getD 0<=b.getD len/\b.getD len<=len then some ((a.getD 0).toNat,(b.getD len).toNat,cap.map (· - (a.getD 0).toNat)) else none:=id rfl
@[simp] def afH(k:Nat):min k IntKind.i64.bits=min k 64:=id rfl
@[simp] def ahe(l:List (AV × AV))(st a:List AV)(H:aa):iB l st a H↔(l.all λp=>lL p.1 p.2)=true/\st.all (nV H)=true/\a.all bsV=true:=Iff.rfl
@[simp] def adD(r:Ref)(i j:Nat)(r':Ref)(b a:Nat):lL (.ptr r i j) (.ptr r' b a) = !decide (r=r'):=by
 unfold lL;simp[fC]
@[simp] def adC(v:Value)(x:AV):lL x (.v v)=true:=by
 unfold lL;cases fC x<;>rfl
def Pg(o:Option aQ):Bool:=match o with
 | some b => !b.arr
 | none=>false
@[simp] def Z3(b:aQ):Pg (some b) = !b.arr:=id rfl
@[simp] def afC(H:aa)(r:Ref)(i j:Nat):nV H (.ptr r i j)=Pg (H.get r):=by
 cases h:H.get r<;>simp[nV,Pg,h]
def be:Nat->Int->List UInt8
 | 0,_=>[]
 | k+1,n=>be k (n / 256)++[u8 n]
def ai1(a:Int)(l:List UInt8):Int:=l.foldl (λa b=>256 * a+(b.toNat:Int)) a
def val(l:List UInt8):Int:=ai1 0 l
@[simp] def Xf(k:Nat) : ∀n,(be k n).length=k:=by
 induction k with| zero=>intro n;rfl| succ k a=>intro n;simp[be,a]
@[simp] def aiV(n:Int):be 0 n=[]:=id rfl
def LN(k:Nat) : ∀n:Int,be (k+1) n=u8 (n / 256 ^ k) :: be k n:=by
 induction k with| zero=>intro n;simp[be]| succ k a=>intro n;rw[be,a,be];rw[Int.ediv_ediv_of_nonneg (by omega),Int.pow_succ,Int.mul_comm (256 ^ k)];simp
@[simp] def acP(k:Nat)(n:Int):be k n=[]↔k=0:=by
 rw[<-Fu,Xf]
def Qx(n:Int):be 4 n=[u8 (n / 16777216),u8 (n / 65536),u8 (n / 256),u8 n]:=by
 simp[LN]
def ajF(n:Int):be 7 n=[u8 (n / 281474976710656),u8 (n / 1099511627776),u8 (n / 4294967296),u8 (n / 16777216),u8 (n / 65536),u8 (n / 256),u8 n]:=by
 simp[LN]
def fF(n:Int)(k:Nat):n.fdiv (no_index (OfNat.ofNat k))=n / OfNat.ofNat k:=iQy _ (Int.natCast_nonneg k)
def ep(z:Nat):List AV->AV
 | []=>bI
 | es => .cC z es none
def qv(z:Nat){es:List AV}(h:es≠[]):ep z es = .cC z es none:=by
 cases es with| nil=>exact(h rfl).elim| cons _ _=>rfl
def gT(z:Nat)(es:List AV):Sl z es (ep z es):=by
 cases es with| nil=>exact .inl ⟨rfl,rfl⟩| cons a l=>exact .inr ⟨none,rfl,by simp⟩
def Sl.YY{z:Nat}{es:List AV}{x:AV}(h:Sl z es x)(b:es≠[]) : ∃c,x = .cC z es c/\es.length<=c.getD es.length:=by
 rcases h with ⟨_,rfl⟩ | ⟨c,h,a⟩
 ·exact(b rfl).elim
 exact⟨c,h,a⟩
def abL(z:Nat)(b:Option aQ)(q:jk):jk:=match b with
 | some b=>if z=b.esz then q else none
 | none=>none
@[simp] def adZ(z:Nat)(b:aQ)(q:jk):abL z (some b) q=if z=b.esz then q else none:=id rfl
@[simp] def abt{P:Program}{t:TypeId}(h:p9 P t=true)(g:cF)(r:Ref)(o n:Nat)(c:Option Nat)(a f d:Option Int) :
 iT P g t (some (.bN r o n c)) (some a) (some f) (some d)=abL (oA P t) (g r) ((bounds n c a f d).map λp=>(.bN r (o+p.1) (p.2.1 - p.1) p.2.2,[])):=by
 unfold p9 at h;obtain⟨e,u,j,k,v,x,m,q,y,l⟩:=jh h;have i:(dR P t).bind (aA P)=some (oA P t):=by rw[j];exact k
 unfold iT;dsimp only;rw[i];cases g r with
 | none=>rfl
 | some b=>simp[abL]
@[simp] def acM(l:List UInt8):jX l=[]↔l=[]:=by simp[jX]
set_option linter.defProp false
def fN:=And.intro @aa.get_put (And.intro @xp (And.intro @I3 (And.intro @Fr.nil (And.intro @CS (And.intro @bE (And.intro @jq (And.intro @Lm (And.intro @Ln (And.intro @eH (And.intro @NO (@IA)))))))))))
def BV:=And.intro @xp (And.intro @I3 (And.intro @Fr.nil (And.intro @CS (And.intro @bE (And.intro @jq (And.intro @Lm (And.intro @Ln (And.intro @eH (And.intro @NO (@IA))))))))))
def ai:=And.intro @bE (And.intro @jq (And.intro @Lm (And.intro @Ln (@IA))))
end Go.Ab
