/-
  The arguments of a law: from what is read before the call to data. No statement of a seat is proved here.
-/
import Derived.ChangeKeysEq
import Derived.Laws.Strings
import Derived.Test.YtehkjjcdkbcebaaGreatAbsCond
set_option linter.unusedVariables false
set_option linter.unusedSimpArgs false
set_option linter.unusedSectionVars false
set_option linter.unnecessarySimpa false
set_option linter.defProp false
namespace Go.Ab
open Go.ChangeShapes Go.WideShapes Go.RowKit
def Jc(b:Bool)(a:List AV):AV:=match b,a with
 | false,[x]=>x
 | _,a => .agg a
def Gp(S:List AV->Prop):Nat->List AV->Prop
 | 0,xs=>xs=[]
 | k+1,xs =>∃a b,xs=a++b/\S a/\Gp S k b
def SD(S:TypeId->List AV->Prop):List Field->List AV->Prop
 | [],xs=>xs=[]
 | f :: fs,xs =>∃a b,xs=a++b/\S f.type a/\SD S fs b
def zE(P:Program):Nat->TypeId->List AV->Prop
 | 0,_,_=>False
 | n+1,t,xs=>match P.underlying t with
  | some .bool =>∃b,xs=[aB b]
  | some (.int k) =>∃i,(k.min<=i/\i<=k.max)/\xs=[.v (.int k i)]
  | some .string =>∃s:ByteArray,xs=[aS s]
  | some (.slice e)=>xs=[a9] \/∃es:List (List AV),xs=[.cC (P.cellsOf e) (es.map (Jc ((eD P e).getD false))) none] /\∀x∈es,zE P n e x
  | some (.struct fs)=>SD (zE P n) fs.toList xs
  | some (.array k e)=>Gp (zE P n e) k xs
  | _=>False
def layout(P:Program):List Field->Nat->Option Nat
 | [],o=>some o
 | f :: fs,o=>if f.offset=o then layout P fs (o+P.cellsOf f.type) else none
def plain(P:Program):Nat->TypeId->Bool
 | 0,_=>false
 | n+1,t=>match P.underlying t with
  | some .bool | some (.int _) | some .string=>P.cellsOf t == 1
  | some (.slice e)=>P.cellsOf t == 1&&plain P n e&&decide (0<P.cellsOf e)
  | some (.struct fs)=>fs.toList.all (λf=>plain P n f.type)&&layout P fs.toList 0 == some (P.cellsOf t)
  | some (.array k e)=>plain P n e&&P.cellsOf t == k * P.cellsOf e
  | _=>false
def zE.facts{P:Program} : ∀(n:Nat)(t:TypeId)(c:List AV),plain P n t=true->zE P n t c->c.length=P.cellsOf t /\∀x∈c,x.one=true:=by
 intro n;induction n with
 | zero=>intro t c h;simp[plain]at h
 | succ n I=>
  intro t c hp g;unfold plain at hp;unfold zE at g;cases hu:P.underlying t with
  | none=>rw[hu]at g;exact g.elim
  | some d=>
   rw[hu]at hp g;cases d<;>dsimp only at hp g<;>try (exact g.elim)
   ·obtain⟨b,rfl⟩:=g;simp at hp;exact⟨by simp[hp],by simp[AV.one]⟩
   ·obtain⟨i,_,rfl⟩:=g;simp at hp;exact⟨by simp[hp],by simp[AV.one]⟩
   ·obtain⟨s,rfl⟩:=g;simp at hp;exact⟨by simp[hp],by simp[AV.one]⟩
   ·rename_i e;simp only[bD,iQk]at hp;rw[hp.1.1];rcases g with rfl | ⟨es,rfl,_⟩
    ·simp[AV.one]
    simp[AV.one]
   ·rename_i k e;simp only[bD,iQk]at hp;rw[hp.2];have : ∀(k:Nat)(c:List AV),Gp (zE P n e) k c->c.length=k * P.cellsOf e /\∀x∈c,x.one=true:=by
     intro k;induction k with
     | zero=>intro c h;simp only[Gp]at h;subst h;simp
     | succ k y=>
      intro c h;obtain⟨a,b,rfl,D,u⟩:=h;obtain⟨p,q⟩:=I e a hp.1 D;obtain⟨z,E⟩:=y b u;refine⟨by rw[eS,p,z,Dh];omega,λx v=>?_⟩;rcases jG.1 v with h | h
      ·exact q x h
      exact E x h
    exact this k c g
   rename_i fs;simp only[bD,iQk,eC]at hp;have : ∀(l:List Field)(o:Nat)(c:List AV),(∀f∈l,plain P n f.type=true)->SD (zE P n) l c->(∀m,layout P l o=some m->o+c.length=m) /\∀x∈c,x.one=true:=by
    intro l;induction l with
    | nil=>intro o c _ h;simp only[SD]at h;subst h;exact⟨λm j=>by simp[layout]at j;simp[j],by simp⟩
    | cons f l F=>
     intro o c G h;obtain⟨a,b,rfl,D,u⟩:=h;obtain⟨p,q⟩:=I f.type a (G f (im ..)) D;obtain⟨z,E⟩:=F (o+P.cellsOf f.type) b (λf J=>G f (iR _ J)) u;refine⟨λm j=>?_,λx v=>?_⟩
     ·unfold layout at j;split at j;·have:=z m j;rw[eS,p];omega
      cases j
     rcases jG.1 v with h | h
     ·exact q x h
     exact E x h
   obtain⟨p,q⟩:=this fs.toList 0 c hp.1 g;exact⟨by have:=p _ hp.2;omega,q⟩
def Lt{c:Bool}{a:List AV}(b : ∀x∈a,x.one=true):(Jc c a).cells=a:=by
 unfold Jc;split;·rename_i x;have:=b x (by simp);cases x<;>first | rfl | (simp[AV.one]at this)
 rfl
section
variable{H:Type}{enc:TypeId × Value->H}{P:Program}{w:World}{A:Nat}{B:Nat->Bool}{C:Bool}
abbrev sf(w:World):Mem:=λb o=>w.cell? ⟨b,o,none⟩
def Ll : ∀(n m:Nat)(t:TypeId)(cs:List Value)(d:DataW H)(ps:List MemPlace),plain P m t=true->DataW.trod enc P w A B C n t cs=some (d,ps) ->
 ∃g:List AV,zE P m t g/\j7 (sf w) cT g cs:=by
 intro n;induction n with
 | zero=>intro m t cs d ps _ h;simp[DataW.trod]at h
 | succ n ih=>
  intro m t cs d ps hp h;cases m with
  | zero=>simp[plain]at hp
  | succ m=>
  have hp0:=hp;unfold plain at hp;unfold zE;cases hu:P.underlying t with
  | none=>rw[hu]at hp;simp at hp
  | some dd=>
   rw[hu]at hp;unfold DataW.trod at h;rw[hu]at h;have p : ∀ {x:AV} {c:Value},VR (sf w) cT x c->j7 (sf w) cT [x] [c]:=λh=>j7.cons h j7.nil;cases dd<;>dsimp only at hp ⊢ <;> try (simp at hp;done)
   ·rcases cs with _ | ⟨c,_ | ⟨c',cs⟩⟩
    ·simp at h
    ·cases c<;>first | (simp at h;done) | skip
     rename_i b;exact⟨[aB b],⟨b,rfl⟩,p (.v rfl)⟩
    simp at h
   ·rename_i k;rcases cs with _ | ⟨c,_ | ⟨c',cs⟩⟩
    ·simp at h
    ·cases c<;>first | (simp at h;done) | skip
     rename_i k' i;dsimp only at h;split at h;·rename_i hk;obtain⟨rfl,hw⟩:=hk;exact⟨[.v (.int k' i)],⟨i,by simpa [Lit.wf] using hw,rfl⟩,p (.v rfl)⟩
     cases h
    simp at h
   ·rcases cs with _ | ⟨c,_ | ⟨c',cs⟩⟩
    ·simp at h
    ·cases c<;>first | (simp at h;done) | skip
     rename_i s;exact⟨[aS s],⟨s,rfl⟩,p (.v rfl)⟩
    simp at h
   ·rename_i e;simp only[bD,iQk,iQb]at hp;rcases cs with _ | ⟨c,_ | ⟨c',cs⟩⟩
    ·simp at h
    ·cases c<;>first | (simp at h;done) | skip
     rename_i a len cap;cases a with
     | none=>have hlc:len=0/\cap=0:=(by cases len<;>cases cap<;>simp at h ⊢);obtain⟨rfl,rfl⟩:=hlc;exact⟨[a9],.inl rfl,p (.v rfl)⟩
     | some a=>
      dsimp only at h;split at h
      ·rename_i hb;simp only[fH,bA]at h;obtain⟨elems,hel,_⟩:=h;have hlen:elems.length=len:=by simpa using fq hel
       have each : ∀i,i<len ->∃(g:List AV) (u:List Value),zE P m e g/\j7 (sf w) cT g u/\w.cells? A (a.add (i * P.cellsOf e)) (P.cellsOf e)=some u:=(by intro i hi;obtain⟨y,Q,J⟩:=jU hel i i (by simp[hi]);simp only[fH]at J;obtain⟨u,hvs,J⟩:=J;obtain⟨g,F,G⟩:=ih m e u y.1 y.2 hp.1.2 J;exact⟨g,u,F,G,hvs⟩);have : ∀k,k<=len ->∃es:List (List AV),es.length=k /\∀i g,es[i]?=some g ->∃u:List Value,zE P m e g/\j7 (sf w) cT g u/\w.cells? A (a.add (i * P.cellsOf e)) (P.cellsOf e)=some u:=by
        intro k;induction k with
        | zero=>intro _;exact⟨[],rfl,λi g h=>by simp at h⟩
        | succ k ihk=>
         intro hk;obtain⟨es,F,G⟩:=ihk (by omega);obtain⟨g,u,X⟩:=each k (by omega);refine⟨es++[g],by simp[F],λi ys Q=>?_⟩;rcases dT i k with hi | hi
         ·rw[iB (by omega)]at Q;exact G i ys Q
         have:i=k:=(by have:=(dB.1 Q).1;simp[F]at this;omega);subst this;rw[hY (by omega)]at Q;simp[F]at Q;subst Q;exact⟨u,X⟩
       obtain⟨es,hes,E⟩:=this len (aV _);have N : ∀g∈es,(Jc ((eD P e).getD false) g).cells=g/\g.length=P.cellsOf e:=(by intro g q;obtain⟨i,hi,rfl⟩:=ot q;obtain⟨u,F,G,X⟩:=E i es[i] (dh hi);obtain⟨U,Y⟩:=F.facts m e _ hp.1.2;exact⟨Lt Y,U⟩);refine⟨[.cC (P.cellsOf e) (es.map (Jc ((eD P e).getD false))) none],.inr ⟨es,rfl,λg q=>?_⟩,p ?_⟩;·obtain⟨i,hi,rfl⟩:=ot q;obtain⟨u,F,_⟩:=E i es[i] (dh hi);exact F
       have V:(es.map (Jc ((eD P e).getD false))).length=len:=(by simp[hes]);have I : ∀i j,i<len->j<P.cellsOf e ->∃g u,es[i]?=some g/\j7 (sf w) cT g u/\(∀x∈g,x.one=true)/\g.length=P.cellsOf e/\sf w a.block (a.off+(i * P.cellsOf e+j))=u[j]?/\(a.spot=none):=by
        intro i j hi R;have hi':i<es.length:=by omega
        obtain⟨u,F,G,X⟩:=E i es[i] (dh hi');obtain⟨U,Y⟩:=F.facts m e _ hp.1.2;obtain⟨hb',hvl,hc⟩:=World.cells?_some X;have hj':=hc j R;have hsp:a.spot=none:=by
         obtain⟨vs0,g1,g2,g3⟩:=E 0 es[0] (dh (by omega));obtain⟨_,hvl0,hc0⟩:=World.cells?_some g3;have:=hc0 0 hp.2;rw[Nat.zero_mul]at this;have ha0:(a.add 0).add 0=a:=by simp[Addr.add]
         rw[ha0]at this;unfold World.cell? at this;cases hs:a.spot with
         | none=>rfl
         | some z=>
          exfalso;have hl0:0<vs0.length:=by omega
          rw[dh hl0]at this;split at this;·rw[hs]at this;simp at this
          simp at this
        refine⟨es[i],u,dh hi',G,Y,U,?_,hsp⟩;rw[<-hj'];unfold sf;congr 1;rw[iE hsp,fy,fy,Dj]
       have:=VR.cC (M:=sf w) (ι:=cT) (esz:=P.cellsOf e) (es:=es.map (Jc ((eD P e).getD false))) (cap:=none) (a:=a) (c:=cap)
        (λi j=>(sf w a.block (a.off+(i * P.cellsOf e+j))).getD Go.undef) ?_ (by rw[V];exact hb.2.1) (λk hk=>by cases hk) ?_ ?_ ?_
       ·rw[V]at this;exact this
       ·rcases Bf len with h0 | h0
        ·right;have:es=[]:=by apply we;omega
         simp[this]
        left;obtain⟨_,_,_,_,_,_,_,hs⟩:=I 0 0 h0 hp.2;exact hs
       ·intro i j hi R;rw[V]at hi;obtain⟨g,u,F,G,X,U,Y,_⟩:=I i j hi R;have K:j<u.length:=by rw[<-G.1,U];exact R
        have hjx:j<g.length:=by rw[U];exact R
        rw[Y,dh K];refine⟨rfl,?_⟩;have:=G.2 j g[j] u[j] (dh hjx) (dh K);exact this.one (X _ (kq ..))
       ·intro x hx;obtain⟨g,q,rfl⟩:=lX.1 hx;rw[(N g q).1];exact(N g q).2
       intro i j x c hx hc;rw[lJ,bA]at hx;obtain⟨g,q,rfl⟩:=hx;have S:g∈es:=dk q;rw[(N g S).1]at hc;have hi:i<len:=by have:=(dB.1 q).1;omega
       have R:j<P.cellsOf e:=by have:=(dB.1 hc).1;rw[(N g S).2]at this;exact this
       obtain⟨xs',u,F,G,X,U,Y,_⟩:=I i j hi R;rw[q]at F;cases F;have K:j<u.length:=by rw[<-G.1,U];exact R
       show VR _ _ c ((sf w a.block (a.off+(i * P.cellsOf e+j))).getD Go.undef);rw[Y,dh K];exact G.2 j c u[j] hc (dh K)
      cases h
    simp at h
   ·rename_i k e;simp only[bD,iQk]at hp;have h:cs.length=P.cellsOf t /\∃g,((List.range k).mapM λi=>DataW.trod enc P w A B C n e ((cs.drop (i * P.cellsOf e)).take (P.cellsOf e)))=some g:=by
     dsimp only at h;split at h;·rename_i T;simp only[bA]at h;obtain⟨g,q,_⟩:=h;exact⟨T,g,q⟩
     cases h
    obtain⟨T,ys,hys⟩:=h;rw[hp.2]at T;have : ∀(k' L:Nat),L+k'=k ->∃g,Gp (zE P m e) k' g/\j7 (sf w) cT g (cs.drop (L * P.cellsOf e)):=by
     intro k';induction k' with
     | zero=>intro L hi;refine⟨[],rfl,?_⟩;rw[Kq (by rw[T,<-hi];simp)];exact j7.nil
     | succ k' ihk=>
      intro L hi;obtain⟨b,hb1,W⟩:=ihk (L+1) (by omega);obtain⟨y,_,J⟩:=jU hys L L (by rw[C7 (by omega)]);obtain⟨a,Z,O⟩:=ih m e _ y.1 y.2 hp.1 J;refine⟨a++b,⟨a,b,rfl,Z,hb1⟩,?_⟩;have:cs.drop (L * P.cellsOf e)=(cs.drop (L * P.cellsOf e)).take (P.cellsOf e)++cs.drop ((L+1) * P.cellsOf e):=by
       rw[Dh,<-lY,mA]
      rw[this];exact O.append W
    obtain⟨g,F,G⟩:=this k 0 (by omega);exact⟨g,F,by simpa using G⟩
   rename_i fs;simp only[bD,iQk,eC]at hp;have h:cs.length=P.cellsOf t /\∃g,(fs.toList.mapM λf=>DataW.trod enc P w A B C n f.type ((cs.drop f.offset).take (P.cellsOf f.type)))=some g:=by
    dsimp only at h;split at h;·rename_i T;simp only[bA]at h;obtain⟨g,q,_⟩:=h;exact⟨T,g,q⟩
    cases h
   obtain⟨T,ys,hys⟩:=h;have : ∀(l:List Field)(o:Nat),(∀f∈l,plain P m f.type=true)->(∀f∈l,∃y,DataW.trod enc P w A B C n f.type ((cs.drop f.offset).take (P.cellsOf f.type))=some y)->layout P l o=some cs.length ->
    ∃g,SD (zE P m) l g/\j7 (sf w) cT g (cs.drop o):=by
    intro l;induction l with
    | nil=>intro o _ _ D;simp[layout]at D;refine⟨[],rfl,?_⟩;rw[Kq (by omega)];exact j7.nil
    | cons f l ihl=>
     intro o hpl htr D;unfold layout at D;split at D
     ·rename_i ho;obtain⟨b,hb1,W⟩:=ihl (o+P.cellsOf f.type) (λf J=>hpl f (iR _ J)) (λf J=>htr f (iR _ J)) D;obtain⟨y,J⟩:=htr f (im ..);obtain⟨a,Z,O⟩:=ih m f.type _ y.1 y.2 (hpl f (im ..)) J;rw[ho]at O;refine⟨a++b,⟨a,b,rfl,Z,hb1⟩,?_⟩;have:cs.drop o=(cs.drop o).take (P.cellsOf f.type)++cs.drop (o+P.cellsOf f.type):=by
       rw[<-lY,mA]
      rw[this];exact O.append W
     cases D
   obtain⟨g,F,G⟩:=this fs.toList 0 hp.1 (λf J=>by
    obtain⟨i,hi,rfl⟩:=ot J;obtain⟨y,_,Q⟩:=jU hys i fs.toList[i] (dh hi);exact⟨y,Q⟩) (by rw[T];exact hp.2)
   exact⟨g,F,by simpa using G⟩
def Pv(P:Program)(n:Nat)(t:TypeId)(x:AV):Prop:=
 match eD P t with
 | some true =>∃a,x = .agg a/\zE P n t a
 | _=>zE P n t [x]
def L1(P:Program)(n:Nat):List TypeId->List AV->Prop
 | [],[]=>True
 | t :: a,x :: xs=>Pv P n t x/\L1 P n a xs
 | _,_=>False
def Lk{m:Nat}{t:TypeId}{v:Value}{d:DataW H}{ps:List MemPlace}(hp:plain P m t=true)(c:Value.okWide P w .any A t v){i:Nat}(h:DataW.Trod enc P w i B C t v d ps) :
 ∃x:AV,Pv P m t x/\VR (sf w) cT x v:=by
 obtain⟨n,p⟩:=h;obtain⟨g,l,o⟩:=Ll n m t v.cells.toList d ps hp p;unfold Pv;by_cases a:eD P t=some true
 ·rw[a];have : ∃cs,v = .agg cs:=by
   unfold eD at a;unfold Value.okWide at c;cases hu:P.underlying t with
   | none=>rw[hu]at a;simp at a
   | some j=>rw[hu]at a c;cases j<;>simp at a<;>(obtain⟨cs,rfl,_⟩:=c;exact⟨cs,rfl⟩)
  obtain⟨cs,rfl⟩:=this;exact⟨.agg g,⟨g,rfl,l⟩,VR.oe.2 o⟩
 have k:v.cells = #[v] /\∃x,g=[x]:=by
  have s:=l.facts m t g hp;cases m with
  | zero=>simp[plain]at hp
  | succ m=>
  have b:=hp;unfold plain at b;unfold eD at a;unfold Value.okWide at c;cases hu:P.underlying t with
  | none=>rw[hu]at b;simp at b
  | some j=>
   rw[hu]at b a c;have f:P.cellsOf t=1->Cell.okWide P w .any A t v->v.cells = #[v] /\∃x,g=[x]:=by
    intro q e;refine⟨?_,?_⟩
    ·cases v<;>try rfl
     exfalso;unfold Cell.okWide at e;rw[hu]at e;cases j<;>simp at b a<;>(simp[Cell.ok,hu]at e)
    have:=s.1;rw[q]at this;match g,this with
    | [x],_=>exact⟨x,rfl⟩
   cases j<;>simp at b a;·exact f b c
   ·exact f b c
   ·exact f b c
   exact f b.1.1 c
 obtain⟨k,x,rfl⟩:=k;rw[k]at o;refine⟨x,?_,o.2 0 x v rfl rfl⟩;have:(match eD P t with | some true =>∃g,x = .agg g/\zE P m t g | _=>zE P m t [x])=zE P m t [x]:=by
  split;·rename_i u;exact(a u).elim
  rfl
 rw[this];exact l
def Rd{m:Nat}{b:Nat} : ∀ {a:List TypeId} {c:List Value} {ds:List (DataW H)} {ps:List MemPlace},a.all (plain P m)=true->(∀(j:Nat) t v,a[j]?=some t->c[j]?=some v->Value.okWide P w .any A t v) ->
 DataW.TrodAll enc P w b B C a c ds ps ->∃f:List AV,L1 P m a f/\j7 (sf w) cT f c:=by
 intro a;induction a with
 | nil=>intro c ds ps _ _ h;obtain⟨rfl,_,_⟩:=trodAll_nil h;exact⟨[],trivial,j7.nil⟩
 | cons t a u=>intro c ds ps hp e h;obtain⟨v,y,d,s,p,q,rfl,rfl,rfl,i,o⟩:=trodAll_cons h;simp only[uU,bD]at hp;obtain⟨x,l,g⟩:=Lk hp.1 (e 0 t v rfl rfl) i;obtain⟨f,n,k⟩:=u hp.2 (λj t v i o=>e (j+1) t v i o) o;exact⟨x :: f,⟨l,n⟩,j7.cons g k⟩
end
def Iw{H:Type}{enc:TypeId × Value->H}{P:Program}{w:World}{A:Nat}{B:Nat->Bool}{C:Bool} : ∀ {a:List TypeId} {b:List Value} {ds:List (DataW H)} {ps:List MemPlace},
 DataW.TrodAll enc P w A B C a b ds ps->ds.length=a.length:=by
 intro a;induction a with
 | nil=>intro b ds ps h;obtain⟨_,rfl,_⟩:=trodAll_nil h;rfl
 | cons t a e=>intro b ds ps h;obtain⟨v,g,d,c,p,q,rfl,rfl,rfl,_,f⟩:=trodAll_cons h;simp[e f]
def Br{P:Program}{n:Nat}{t:TypeId}{c:List TypeId}{a:List AV}(h:L1 P n (t :: c) a) : ∃x b,a=x :: b/\Pv P n t x/\L1 P n c b:=by
 cases a with| nil=>exact h.elim| cons x a=>exact⟨x,a,rfl,h.1,h.2⟩
def Qa{P:Program}{n:Nat}{a:List AV}(h:L1 P n [] a):a=[]:=by
 cases a with| nil=>rfl| cons x a=>exact h.elim
def Fu{E:Env}{ok:Array Oper->Bool}(L:E.Ok ok){T:TypeId->Prop}(K:Kids E.P T)(F : ∀t e,T t->E.P.underlying t=some (.slice e)->0<E.P.cellsOf e){H:Type}{enc:TypeId × Value->H}{id:FuncId}{f:Func}{s:ChangeSpec}{apart fresh a c:Bool}{m:Nat}
 (I : ∀t∈f.params.toList,T t) (hp:f.params.toList.all (plain E.P m)=true) (Q:s.vars=[]) (M : ∀ds:List (DataW H),ds.length=f.params.toList.length->s.fn H ds = { results:=[.lit (.bool true)],args:=ds}) (k:HM E.P f=true)
 (h : ∀i,L1 E.P m f.params.toList i->aK E id i=some (.v (.bool true)))
 (W:World) (A:Nat) (args:Array Value) (ds R:List (DataW H)) (b:List MemPlace) (g : ∀(j:Nat) t v,f.params[j]?=some t->args[j]?=some v->Value.okWide E.P W .any A t v)
 (D:DataW.Whole enc E.P f.params.toList s.vars apart W args.toList ds R b) :
 Calls E.P id args W λe y =>∃v,e = .returned v/\s.post enc E.P f apart fresh a c W args v y:=by
 obtain⟨V,k,J⟩:=LW k;have o:=D;obtain⟨p,q,z,U,rfl,N,G⟩:=o;obtain⟨i,u,l⟩:=Rd hp (λj t v O S=>g j t v (by simpa using O) (by simpa using S)) z;obtain⟨n,d⟩:=RD (h i u);have x:ds.length=f.params.toList.length:=Iw z;refine(LU L d (us:=args.toList) l).mono λe y ⟨he,hk⟩=>⟨_,he,?_⟩;exact Oz K F I Q D (M ds x) k J hk
end Go.Ab
namespace Go.Ab
def Pk{c:Type}(P:Program)(t:TypeId)(ok:c->Prop)(enc:c->List AV):Prop :=∀n b,zE P n t b ->∃a,ok a/\b=enc a
def isBool(P:Program)(t:TypeId):Bool:=match P.underlying t with | some .bool=>true | _=>false
def jY(P:Program)(t:TypeId):Option (List TypeId):=match P.underlying t with | some (.struct fs)=>some (fs.toList.map (·.type)) | _=>none
def CR{P:Program}{t:TypeId}{k:IntKind}(h:intKind P t=some k):Pk P t (λi:Int=>k.min<=i/\i<=k.max) λi:Int=>[.v (.int k i)]:=by
 intro n b a;cases n with
 | zero=>exact a.elim
 | succ n=>unfold zE at a;rw[Ay h]at a;obtain⟨i,hi,rfl⟩:=a;exact⟨i,hi,rfl⟩
def rk{P:Program}{t:TypeId}(h:intKind P t=some .i64):Pk P t (λi:Int => -9223372036854775808<=i/\i<=9223372036854775807) λi:Int=>[aI i]:=λn a b=>by
 obtain⟨i,hi,rfl⟩:=CR h n a b;exact⟨i,hi,rfl⟩
def TJ{P:Program}{t:TypeId}(h:intKind P t=some .i32):Pk P t (λi:Int => -2147483648<=i/\i<=2147483647) λi:Int=>[.v (.int .i32 i)]:=λn a b=>by
 obtain⟨i,hi,rfl⟩:=CR h n a b;exact⟨i,hi,rfl⟩
def FP{P:Program}{t:TypeId}(h:intKind P t=some .u8):Pk P t (λ_=>True) λb:UInt8=>[a8 b]:=λn c d=>by
 obtain⟨i,hi,rfl⟩:=CR h n c d;refine⟨u8 i,trivial,?_⟩;have a:(0:Int)<=i:=hi.1;have e:i<=255:=hi.2;unfold a8;show[AV.v (.int .u8 i)]=[AV.v (.int .u8 ((u8 i).toNat:Int))];rw[oy,Int.emod_eq_of_lt a (by omega),zL a]
def Wu{P:Program}{t:TypeId}(h:intKind P t=some .u32):Pk P t (λ_=>True) λb:UInt32=>[cH b]:=λn c d=>by
 obtain⟨i,hi,rfl⟩:=CR h n c d;refine⟨u32 i,trivial,?_⟩;have a:(0:Int)<=i:=hi.1;have e:i<=4294967295:=hi.2;unfold cH;show[AV.v (.int .u32 i)]=[AV.v (.int .u32 ((u32 i).toNat:Int))];rw[rS,Int.emod_eq_of_lt a (by omega),zL a]
def Ug{d:Type}{ok:d->Prop}{enc:d->List AV} : ∀(es:List (List AV)),(∀x∈es,∃a,ok a/\x=enc a) ->∃l:List d,(∀a∈l,ok a)/\es=l.map enc:=by
 intro es;induction es with
 | nil=>intro _;exact⟨[],by simp,rfl⟩
 | cons x es g=>
  intro h;obtain⟨a,i,rfl⟩:=h x (im ..);obtain⟨l,f,rfl⟩:=g λx e=>h x (iR _ e);refine⟨a :: l,?_,rfl⟩;intro b c;rcases dG.1 c with rfl | c
  ·exact i
  exact f b c
def NS{P:Program}{t e:TypeId}(h:de P t=some e):P.underlying t=some (.slice e):=by
 unfold de at h;split at h;·cases h;assumption
 cases h
def DZ{c:Type}{P:Program}{t e:TypeId}{z:Nat}{g:Bool}{ok:c->Prop}{enc:c->List AV}(m:de P t=some e)(d:av P e=some z)(k:eD P e=some g)(j:Pk P e ok enc){n:Nat}{f:List AV}(h:zE P n t f) :
 ∃(l:List c) (x:AV),(∀a∈l,ok a)/\f=[x]/\Sl z (l.map λa=>Jc g (enc a)) x:=by
 cases n with| zero=>exact h.elim| succ n=>
  unfold zE at h;rw[NS m]at h;rcases h with rfl | ⟨es,rfl,b⟩
  ·exact⟨[],a9,by simp,rfl,.inl ⟨rfl,rfl⟩⟩
  obtain⟨l,p,rfl⟩:=Ug es λx i=>j n x (b x i);have o:P.cellsOf e=z:=(by unfold av at d;unfold Program.cellsOf;rw[d];rfl);refine⟨l,_,p,rfl,?_⟩;rw[o,k,iQU];exact Sl.mk z _
def Qc{P:Program}{t e:TypeId}(g:de P t=some e)(c:intKind P e=some .u8)(b:av P e=some 1)(f:eD P e=some false){n:Nat}{a:List AV}(h:zE P n t a) : ∃(l:List UInt8) (x:AV),a=[x]/\Sl 1 (aQ l) x:=by
 obtain⟨l,x,_,rfl,d⟩:=DZ g b f (FP c) h;exact⟨l,x,rfl,d⟩
def Pv.cell{P:Program}{n:Nat}{t:TypeId}{x:AV}(a:eD P t=some false)(h:Pv P n t x):zE P n t [x]:=by
 unfold Pv at h;rw[a]at h;exact h
def Pv.agg{P:Program}{n:Nat}{t:TypeId}{x:AV}(b:eD P t=some true)(h:Pv P n t x) : ∃a,x = .agg a/\zE P n t a:=by
 unfold Pv at h;rw[b]at h;exact h
def TK{f:Type}{P:Program}{t e:TypeId}{k:Nat}{ok:f->Prop}{enc:f->List AV}(d:lK P t=some (k,e))(j:Pk P e ok enc):Pk P t (λl:List f=>l.length=k /\∀a∈l,ok a) λl=>l.flatMap enc:=by
 intro n m h;cases n with
 | zero=>exact h.elim
 | succ n=>
  have g:P.underlying t=some (.array k e):=by
   unfold lK at d;split at d;·cases d;assumption
   cases d
  unfold zE at h;rw[g]at h;dsimp only at h;clear g d;induction k generalizing m with
  | zero=>simp only[Gp]at h;subst h;exact⟨[],⟨rfl,by simp⟩,rfl⟩
  | succ k q=>
   obtain⟨a,b,rfl,c,i⟩:=h;obtain⟨y,o,rfl⟩:=j n a c;obtain⟨l,⟨p,s⟩,rfl⟩:=q b i;refine⟨y :: l,⟨by simp[p],?_⟩,rfl⟩;intro a c;rcases dG.1 c with rfl | c
   ·exact o
   exact s a c
def abi(S:TypeId->List AV->Prop):List TypeId->List AV->Prop
 | [],xs=>xs=[]
 | t :: c,xs =>∃a b,xs=a++b/\S t a/\abi S c b
def rG{P:Program}{t:TypeId}{e:List TypeId}(c:jY P t=some e){n:Nat}{d:List AV}(h:zE P n t d) : ∃m,abi (zE P m) e d:=by
 cases n with| zero=>exact h.elim| succ n=>
  unfold jY at c;split at c
  ·rename_i fs j;cases c;unfold zE at h;rw[j]at h;refine⟨n,?_⟩;dsimp only at h;generalize fs.toList=l at h;induction l generalizing d with
   | nil=>exact h
   | cons f l i=>obtain⟨a,b,rfl,k,g⟩:=h;exact⟨a,b,rfl,k,i g⟩
  cases c
def uF(P:Program)(d e c:Nat)(f ys:Array Value):List Nat->Option Bool
 | []=>some true
 | i :: is=>match bh P (part e f (i * c)),bh P (part e ys (i * c)) with
  | some a,some b=>(match bh P (Op.equalIn d e a b) with
   | some true=>uF P d e c f ys is
   | some false=>some false
   | none=>none)
  | _,_=>none
def MM{P:Program}{t:TypeId}{z:Nat}(h:av P t=some z):bh P (sizeOf t)=some z:=by
 simp only[av,bA]at h;obtain⟨i,hi,rfl⟩:=h;simp only[sizeOf,typeInfo,bJ];show((some P).bind _).bind _=_;simp only[cR,hi];rfl
def Bz{P:Program}(d:Nat){t e:TypeId}{n c:Nat}(f ys:Array Value)(h:P.underlying t=some (.array n e))(hi:av P e=some c) :
 bh P (Op.equalIn (d+1) t (.agg f) (.agg ys))=uF P d e c f ys (List.range n):=by
 simp only[Op.equalIn,bJ,mQ h,cR,MM hi];simp only[Std.Legacy.Range.forIn_eq_forIn_range',Std.Legacy.Range.size,Nat.sub_zero,Nat.add_one_sub_one,Nat.div_one,Kn];generalize List.range' 0 n=is;induction is with
 | nil=>rfl
 | cons j is g=>
  simp only[List.forIn_cons,uF,bJ];cases k:bh P (part e f (j * c)) with
  | none=>rfl
  | some a=>
   cases l:bh P (part e ys (j * c)) with| none=>rfl| some b=>
    simp only[cR];cases i:bh P (Op.equalIn d e a b) with
    | none=>rfl
    | some r=>
     cases r;·rfl
     simp only[cR,tN,hU,iQf];exact g
def rJ(P:Program)(d:Nat)(c ys:Array Value):List Field->Option Bool
 | []=>some true
 | f :: fs=>match bh P (part f.type c f.offset),bh P (part f.type ys f.offset) with
  | some a,some b=>(match bh P (Op.equalIn d f.type a b) with
   | some true=>rJ P d c ys fs
   | some false=>some false
   | none=>none)
  | _,_=>none
def Ac{P:Program}(d:Nat){t:TypeId}{fs:Array Field}(c ys:Array Value)(l:P.underlying t=some (.struct fs))(h:P.stoodInHeld t=false)(e : ∀f∈fs.toList,(f.name != "_")=true) :
 bh P (Op.equalIn (d+1) t (.agg c) (.agg ys))=rJ P d c ys fs.toList:=by
 have hp:bh P program=some P:=rfl;simp only[Op.equalIn,bJ,mQ l,cR,hp,h,hU,iQf];simp only[<-Array.forIn_toList];generalize fs.toList=is at e;induction is with
 | nil=>rfl
 | cons f is k=>
  have j:f.name ≠ "_" := by simpa using e f (im ..)
  simp only[List.forIn_cons,rJ,bJ,j,ne_eq,not_false_eq_true,if_true];have i:bh P (pure PUnit.unit:Sem PUnit)=some PUnit.unit:=rfl;cases o:bh P (part f.type c f.offset) with
  | none=>rfl
  | some a=>
   cases p:bh P (part f.type ys f.offset) with| none=>rfl| some b=>
    simp only[cR];cases n:bh P (Op.equalIn d f.type a b) with
    | none=>rfl
    | some r=>
     cases r;·rfl
     simp only[cR,tN,hU,iQf];exact k λg m=>e g (iR _ m)
def BM:List AV->List AV->Option Bool
 | [.v (.bool a)],[.v (.bool b)]=>some (decide (a=b))
 | [.v (.int k a)],[.v (.int k' b)]=>if k=k' then some (decide (a=b)) else none
 | [.v (.string a)],[.v (.string b)]=>some (a == b)
 | _,_=>none
def eZ(S:TypeId->List AV->List AV->Option Bool)(P:Program):List TypeId->List AV->List AV->Option Bool
 | [],_,_=>some true
 | t :: c,xs,ys=>match av P t with
  | none=>none
  | some z=>match S t (xs.take z) (ys.take z),eZ S P c (xs.drop z) (ys.drop z) with
   | some a,some b=>some (a&&b)
   | _,_=>none
def mi(S:List AV->List AV->Option Bool)(z:Nat):Nat->List AV->List AV->Option Bool
 | 0,_,_=>some true
 | k+1,xs,ys=>match S (xs.take z) (ys.take z),mi S z k (xs.drop z) (ys.drop z) with
  | some a,some b=>some (a&&b)
  | _,_=>none
def pA(P:Program)(t:TypeId):Option Nat:=match P.underlying t with
 | some .bool=>some 0
 | some (.int _)=>some 1
 | some .string=>some 2
 | _=>none
def Jo:AV->Nat
 | .v (.bool _)=>0
 | .v (.int _ _)=>1
 | .v (.string _)=>2
 | _=>3
def mj(P:Program):Nat->TypeId->List AV->List AV->Option Bool
 | 0,_,_,_=>none
 | n+1,t,xs,ys=>match pA P t with
  | some l=>(match xs,ys with
   | [x],[y]=>cond (Nat.beq (Jo x) l) (BM [x] [y]) none
   | _,_=>none)
  | none=>match jY P t with
   | some a=>eZ (mj P n) P a xs ys
   | none=>match lK P t with
    | some (k,e)=>(match av P e with
     | some z=>mi (mj P n e) z k xs ys
     | none=>none)
    | none=>none
def EL(P:Program):Nat->TypeId->Bool
 | 0,_=>false
 | n+1,t=>match P.underlying t with
  | some .bool | some (.int _) | some .string=>eD P t == some false&&av P t == some 1
  | some (.struct fs)=>fs.toList.all (λf=>EL P n f.type&&f.name != "_")&&layout P fs.toList 0 == some (P.cellsOf t) && !P.stoodInHeld t
  | some (.array k e)=>EL P n e&&P.cellsOf t == k * P.cellsOf e
  | _=>false
def ri(a:List AV):Option (List Value):=a.mapM HS
def xS{a:List AV}{b:List Value}(h:ri a=some b)(n:Nat):ri (a.take n)=some (b.take n):=by
 unfold ri at *;induction a generalizing b n with
 | nil=>simp at h;subst h;simp
 | cons x a f=>
  simp only[lH,oT,pt,fH]at h;obtain⟨v,d,g,c,e⟩:=h;cases e;cases n with
  | zero=>simp
  | succ n=>simp only[List.take_succ_cons,lH,d,f c n];rfl
def xT{b:List AV}{c:List Value}(h:ri b=some c)(n:Nat):ri (b.drop n)=some (c.drop n):=by
 unfold ri at *;induction b generalizing c n with
 | nil=>simp at h;subst h;simp
 | cons x b f=>
  simp only[lH,oT,pt,fH]at h;obtain⟨v,d,g,a,e⟩:=h;cases e;cases n with
  | zero=>simp only[uW,lH,d,a];rfl
  | succ n=>simp only[iQP];exact f a n
def valOf(P:Program)(t:TypeId)(a:List Value):Option Value:=match eD P t with
 | some true=>some (.agg a.toArray)
 | some false=>a.head?
 | none=>none
def CS{P:Program}{t:TypeId}{z:Nat}(j:av P t=some z){e:List Value}{o:Nat}{v:Value}(a:valOf P t ((e.drop o).take z)=some v)(i:eD P t=some false->z=1):bh P (part t e.toArray o)=some v:=by
 unfold valOf at a;have d : ∀b,eD P t=some b->bh P (isAgg t)=some b:=by
  intro b g;simp only[eD,bA]at g;obtain⟨h,c,rfl⟩:=g;simp only[isAgg,bJ,mQ c,cR];cases h<;>rfl
 unfold part;split at a;·rename_i f;cases a;simp only[bJ,d _ f,cR,if_true,MM j];show some _=some _;congr 2;apply GD.1;simp only[Ko,Kt,GN]
 ·rename_i f;simp only[bJ,d _ f,cR,hU,iQf];have:e.toArray[o]?=some v:=by
   rw[i f]at a;rw[Kp];cases c:e.drop o with
   | nil=>rw[c]at a;simp at a
   | cons u us=>rw[c]at a;simp at a;subst a;have:=iQh List.head? c;simpa [List.head?_drop] using this
  rw[this];rfl
 cases a
def XC{P:Program} : ∀(n:Nat)(D:Nat)(t:TypeId)(L ys:List AV)(us R:List Value)(b:Bool),EL P n t=true->mj P n t L ys=some b->ri L=some us->ri ys=some R->L.length=P.cellsOf t->ys.length=P.cellsOf t ->
 ∃u v,valOf P t us=some u/\valOf P t R=some v/\bh P (Op.equalIn (D+n) t u v)=some b:=by
 intro n;induction n with
 | zero=>intro D t L ys us R b h;simp[EL]at h
 | succ n ih=>
  intro D t L ys us R b d h hu hv hlx hly;unfold EL at d;unfold mj at h;cases J:P.underlying t with
  | none=>rw[J]at d;simp at d
  | some dd=>
   rw[J]at d;have K : ∀l,pA P t=some l->(eD P t == some false&&av P t == some 1)=true->(l=0/\dd = .bool\/(l=1 /\∃k,dd = .int k)\/l=2/\dd = .string) ->∃u v,valOf P t us=some u/\valOf P t R=some v/\bh P (Op.equalIn (D+(n+1)) t u v)=some b:=by
    intro l hl d hdd;simp only[bD,iQk]at d;rw[hl]at h;dsimp only at h;split at h
    ·rename_i x y;cases hb:Nat.beq (Jo x) l with
     | false=>rw[hb]at h;cases h
     | true=>
      rw[hb]at h;replace hb:=iS hb;have e1 : ∃u,us=[u]/\HS x=some u:=(by unfold ri at hu;simp only[lH,Gw,oT,pt,fH]at hu;obtain⟨u,E,ws,M,h3⟩:=hu;cases M;cases h3;exact⟨u,rfl,E⟩);have e2 : ∃u,R=[u]/\HS y=some u:=(by unfold ri at hv;simp only[lH,Gw,oT,pt,fH]at hv;obtain⟨u,E,ws,M,h3⟩:=hv;cases M;cases h3;exact⟨u,rfl,E⟩);obtain⟨u,rfl,s⟩:=e1;obtain⟨v,rfl,q⟩:=e2;refine⟨u,v,by simp[valOf,d.1],by simp[valOf,d.1],?_⟩;rw[show D+(n+1)=(D+n)+1 from rfl];simp only[iQn]at h;unfold BM at h;simp only[Op.equalIn,bJ,mQ J,cR];split at h
      ·rename_i a c V T;simp only[wa,iQr]at V T;subst V;subst T;simp[HS]at s q;subst s;subst q;have hl0:l=0:=hb.symm;rcases hdd with ⟨_,rfl⟩ | ⟨E,_⟩ | ⟨E,_⟩
       ·rw[<-h];show some (a == c)=_;congr 1
       ·omega
       omega
      ·rename_i k a k' c V T;simp only[wa,iQr]at V T;subst V;subst T;simp[HS]at s q;subst s;subst q;have hl0:l=1:=hb.symm;rcases hdd with ⟨E,_⟩ | ⟨_,k0,rfl⟩ | ⟨E,_⟩
       ·omega
       ·split at h;·rename_i S;subst S;rw[<-h];show bh P (if k=k then pure (a == c) else _)=_;rw[if_pos rfl];show some (a == c)=_;congr 1
        cases h
       omega
      ·rename_i a c V T;simp only[wa,iQr]at V T;subst V;subst T;simp[HS]at s q;subst s;subst q;have hl0:l=2:=hb.symm;rcases hdd with ⟨E,_⟩ | ⟨E,_⟩ | ⟨_,rfl⟩
       ·omega
       ·omega
       rw[<-h];rfl
      cases h
    cases h
   have hlt : ∀l,pA P t=some l->_:=λl hl=>K l hl;cases dd<;>dsimp only at d<;>try (simp at d;done)
   ·exact K 0 (by simp[pA,J]) d (.inl ⟨rfl,rfl⟩)
   ·rename_i k;exact K 1 (by simp[pA,J]) d (.inr (.inl ⟨rfl,k,rfl⟩))
   ·exact K 2 (by simp[pA,J]) d (.inr (.inr ⟨rfl,rfl⟩))
   ·rename_i k e;simp only[bD,iQk]at d;obtain⟨d,Z⟩:=d;have hl:pA P t=none:=by simp[pA,J]
    have Y:jY P t=none:=(by simp[jY,J]);have hta:lK P t=some (k,e):=(by simp[lK,J]);rw[hl,Y,hta]at h;dsimp only at h;have O:eD P t=some true:=by simp[eD,J]
    cases G:av P e with| none=>rw[G]at h;cases h| some z=>
     rw[G]at h;dsimp only at h;have I:P.cellsOf e=z:=by simp only[av]at G;simp[Program.cellsOf,G]
     have F:eD P e=some false->z=1:=by
      intro j;cases n with
      | zero=>simp[EL]at d
      | succ n'=>
       unfold EL at d;unfold eD at j;cases Q:P.underlying e with
       | none=>rw[Q]at d;simp at d
       | some d2=>rw[Q]at d j;cases d2<;>simp at d j<;>(have:=d.2;rw[G]at this;simpa using this)
     refine⟨.agg us.toArray,.agg R.toArray,by simp[valOf,O],by simp[valOf,O],?_⟩;rw[show D+(n+1)=(D+n)+1 from rfl,Bz (D+n) _ _ J G];have : ∀(m p:Nat)(b:Bool),(p+m) * z<=L.length->(p+m) * z<=ys.length->mi (mj P n e) z m (L.drop (p * z)) (ys.drop (p * z))=some b->uF P (D+n) e z us.toArray R.toArray (List.range' p m)=some b:=by
      intro m;induction m with
      | zero=>intro p b _ _ h;simp[mi]at h;simp[uF,h]
      | succ m ihm=>
       intro p b hx hy h;simp only[mi]at h;have N:(p+(m+1)) * z=p * z+z+m * z:=by rw[ke,Dh];omega
       rw[N]at hx hy;cases E:mj P n e ((L.drop (p * z)).take z) ((ys.drop (p * z)).take z) with
       | none=>rw[E]at h;simp at h
       | some a=>
        rw[E]at h;cases M:mi (mj P n e) z m ((L.drop (p * z)).drop z) ((ys.drop (p * z)).drop z) with
        | none=>rw[M]at h;simp at h
        | some c=>
         rw[M]at h;simp only[du]at h;rw[lY,lY,<-Dh]at M;obtain⟨u,v,s,q,heq⟩:=ih D e _ _ _ _ a d E (xS (xT hu (p * z)) z) (xS (xT hv (p * z)) z)
          (by rw[kp,rP,I];omega) (by rw[kp,rP,I];omega)
         have p1:=CS G (o:=p * z) s F;have p2:=CS G (o:=p * z) q F;simp only[List.range'_succ,uF,p1,p2,heq];cases a with
         | false=>simp at h;simp[h]
         | true=>simp only[kX]at h;subst h;exact ihm (p+1) c (by rw[show p+1+m=p+(m+1) by omega,N];exact hx) (by rw[show p+1+m=p+(m+1) by omega,N];exact hy) M
     rw[Kn];by_cases X:k * z<=L.length/\k * z<=ys.length;·exact this k 0 b (by simpa using X.1) (by simpa using X.2) (by simpa using h)
     exfalso;rw[I]at Z;exact X ⟨by omega,by omega⟩
   rename_i fs;simp only[bD,jH,eC,iQk]at d;obtain⟨⟨U,i⟩,hst⟩:=d;have hl:pA P t=none:=by simp[pA,J]
   have Y:jY P t=some (fs.toList.map (·.type)):=(by simp[jY,J]);rw[hl,Y]at h;dsimp only at h;have O:eD P t=some true:=by simp[eD,J]
   refine⟨.agg us.toArray,.agg R.toArray,by simp[valOf,O],by simp[valOf,O],?_⟩;rw[show D+(n+1)=(D+n)+1 from rfl,Ac (D+n) _ _ J hst (λf Y=>(U f Y).2)];have : ∀(l:List Field)(o:Nat)(b:Bool),(∀f∈l,EL P n f.type=true)->layout P l o=some (P.cellsOf t)->eZ (mj P n) P (l.map (·.type)) (L.drop o) (ys.drop o)=some b->o<=P.cellsOf t ->
    rJ P (D+n) us.toArray R.toArray l=some b:=by
    intro l;induction l with
    | nil=>intro o b _ _ h _;simp[eZ]at h;simp[rJ,h]
    | cons f l ihl=>
     intro o b W i h ho;unfold layout at i;split at i
     ·rename_i hfo;simp only[sW,eZ]at h;cases G:av P f.type with
      | none=>rw[G]at h;cases h
      | some z=>
       rw[G]at h;dsimp only at h;have I:P.cellsOf f.type=z:=by simp only[av]at G;simp[Program.cellsOf,G]
       rw[I]at i;cases E:mj P n f.type ((L.drop o).take z) ((ys.drop o).take z) with
       | none=>rw[E]at h;simp at h
       | some a=>
        rw[E]at h;cases M:eZ (mj P n) P (l.map (·.type)) ((L.drop o).drop z) ((ys.drop o).drop z) with
        | none=>rw[M]at h;simp at h
        | some c=>
         rw[M]at h;simp only[du]at h;rw[lY,lY]at M;have hle:o+z<=P.cellsOf t:=by
          have : ∀(l:List Field)(o m:Nat),layout P l o=some m->o<=m:=by
           intro l;induction l with
           | nil=>intro o m h;simp[layout]at h;omega
           | cons g l ihg=>
            intro o m h;unfold layout at h;split at h;·have:=ihg _ _ h;omega
            cases h
          exact this _ _ _ i
         obtain⟨u,v,s,q,heq⟩:=ih D f.type _ _ _ _ a (W f (im ..)) E (xS (xT hu o) z) (xS (xT hv o) z)
          (by rw[kp,rP,I];omega) (by rw[kp,rP,I];omega)
         have F:eD P f.type=some false->z=1:=by
          intro j;have S:=W f (im ..);cases n with
          | zero=>simp[EL]at S
          | succ n'=>
           unfold EL at S;unfold eD at j;cases Q:P.underlying f.type with
           | none=>rw[Q]at S;simp at S
           | some d2=>rw[Q]at S j;cases d2<;>simp at S j<;>(have:=S.2;rw[G]at this;simpa using this)
         have p1:=CS G (o:=o) s F;have p2:=CS G (o:=o) q F;simp only[rJ,hfo,p1,p2,heq];cases a with
         | false=>simp at h;simp[h]
         | true=>simp only[kX]at h;subst h;exact ihl (o+z) c (λg hg=>W g (iR _ hg)) i M hle
     cases i
   exact this fs.toList 0 b (λf Y=>(U f Y).1) i (by simpa using h) (uT _)
def EK(P:Program)(t:TypeId):Bool:=EL P 20 t && !P.eqGuardType P.depth t&&eD P t == some true
def Oy{P:Program}{t:TypeId}(h:EK P t=true)(c:BinOp)(d:c = .eql\/c = .neq)(xo e:Operand)(a ys:Array Value) :
 sN P c t xo e (.agg a) (.agg ys)=(bh P (Op.equalIn 10000 t (.agg a) (.agg ys))).map λb => .bool (if c = .eql then b else !b):=by
 unfold EK at h;simp only[bD,jH,iQk]at h;have hp:bh P program=some P:=rfl;unfold sN;have f:bh P (eqGuard c t xo e (.agg a) (.agg ys))=some ():=by
  rcases d with rfl | rfl
  ·simp only[eqGuard,tN,hU,iQf,bJ,hp,cR,h.1.2,sF,if_true];rfl
  simp only[eqGuard,tN,hU,iQf,bJ,hp,cR,h.1.2,sF,if_true];rfl
 rw[bJ,f,cR];rcases d with rfl | rfl
 ·show bh P (do pure (Value.bool (<-Op.equal t (.agg a) (.agg ys))))=_;rw[bJ];unfold Op.equal Op.maxDepth;cases bh P (Op.equalIn 10000 t (.agg a) (.agg ys))<;>rfl
 show bh P (do pure (Value.bool (!(<-Op.equal t (.agg a) (.agg ys)))))=_;rw[bJ];unfold Op.equal Op.maxDepth;cases bh P (Op.equalIn 10000 t (.agg a) (.agg ys))<;>rfl
def I1{P:Program}{t:TypeId}(h:EK P t=true)(c:BinOp)(o:c = .eql\/c = .neq)(xo m:Operand){cs ds:List AV}{b:Bool}(p:mj P 20 t cs ds=some b)(f:(ri cs).isSome=true)(e:(ri ds).isSome=true)
 (q:some cs.length=av P t) (s:some ds.length=av P t):bE P c t xo m (some (.agg cs)) (some (.agg ds))=some (aB (if c = .eql then b else !b),[]):=by
 obtain⟨us,f⟩:=fP.1 f;obtain⟨d,e⟩:=fP.1 e;have g:=h;unfold EK at g;simp only[bD,jH,iQk]at g;have l : ∀ {n:Nat},some n=av P t->n=P.cellsOf t:=by
  intro n j;unfold av at j;unfold Program.cellsOf;rw[<-j];rfl
 obtain⟨u,v,i,k,heq⟩:=XC 20 9980 t cs ds us d b g.1.1 p f e (l q) (l s);simp only[valOf,g.2,du]at i k;subst i;subst k;have a:=Oy h c o xo m us.toArray d.toArray;rw[heq]at a;have t1:ir (.agg cs)=some (.agg us.toArray):=by show(cs.mapM HS).map _=_;rw[show cs.mapM HS=some us from f];rfl
 have t2:ir (.agg ds)=some (.agg d.toArray):=by show(ds.mapM HS).map _=_;rw[show ds.mapM HS=some d from e];rfl
 simp only[bE,CJ,jT,tO,vY,hU,iQf,t1,t2,a,Option.map_some,cR,fS,scalar,if_true,ik]
@[simp] def T4{P:Program}{t:TypeId}(h:EK P t=true)(xo c:Operand){cs ds:List AV}(a:(mj P 20 t cs ds).isSome=true)(g:(ri cs).isSome=true)(d:(ri ds).isSome=true)
 (e:some cs.length=av P t) (f:some ds.length=av P t):bE P .eql t xo c (some (.agg cs)) (some (.agg ds))=some (aB ((mj P 20 t cs ds).getD false),[]):=by
 obtain⟨b,a⟩:=fP.1 a;rw[I1 h .eql (.inl rfl) xo c a g d e f,a];rfl
@[simp] def T2{P:Program}{t:TypeId}(h:EK P t=true)(xo c:Operand){cs ds:List AV}(a:(mj P 20 t cs ds).isSome=true)(g:(ri cs).isSome=true)(d:(ri ds).isSome=true)
 (e:some cs.length=av P t) (f:some ds.length=av P t):bE P .neq t xo c (some (.agg cs)) (some (.agg ds))=some (aB (!(mj P 20 t cs ds).getD false),[]):=by
 obtain⟨b,a⟩:=fP.1 a;rw[I1 h .neq (.inr rfl) xo c a g d e f,a];rfl
@[simp] def Zi:ri []=some []:=id rfl
@[simp] def Iv(k:IntKind)(n:Int)(l:List AV):ri (.v (.int k n) :: l)=(ri l).map (.int k n :: ·):=by
 unfold ri;simp only[lH,HS];cases l.mapM HS<;>rfl
@[simp] def acR(b:UInt8)(l:List AV):ri (a8 b :: l)=(ri l).map (.int .u8 b.toNat :: ·):=Iv _ _ _
@[simp] def abu(b:UInt32)(l:List AV):ri (cH b :: l)=(ri l).map (.int .u32 b.toNat :: ·):=Iv _ _ _
@[simp] def EM(k:IntKind)(a b:Int):BM [.v (.int k a)] [.v (.int k b)]=some (decide (a=b)):=by simp[BM]
@[simp] def aaT(a b:UInt8):BM [a8 a] [a8 b]=some (decide (a=b)):=by
 unfold a8;rw[EM];congr 2;rw[<-pr];exact propext (by omega)
@[simp] def YW(a b:UInt32):BM [cH a] [cH b]=some (decide (a=b)):=by
 unfold cH;rw[EM];congr 2;rw[<-Kh];exact propext (by omega)
@[simp] def YJ(k:IntKind)(n:Int):Jo (.v (.int k n))=1:=id rfl
@[simp] def ach(b:UInt8):Jo (a8 b)=1:=id rfl
@[simp] def aak(b:UInt32):Jo (cH b)=1:=id rfl
@[simp] def vp{P:Program}{t:TypeId}(h:((de P t).bind (av P)).isSome=true)(g:cb)(lo hi a:Option Int) :
 dm P g t (some a9) (some lo) (some hi) (some a)=(bounds 0 (some 0) lo hi a).map λ_=>(a9,[]):=by
 simp only[dm,h,if_true]
@[simp] def zg{P:Program}{t z:Nat}(h:(de P t).bind (av P)=some z)(g:cb)(es:List AV)(c:Option Nat)(lo hi a:Option Int) :
 dm P g t (some (.cC z es c)) (some lo) (some hi) (some a)=(bounds es.length c lo hi a).map λ(l,h,c)=>(.cC z ((es.drop l).take (h - l)) c,[]):=by
 simp only[dm,h,if_true]
def IE{P:Program}{t z:Nat}(h:(de P t).bind (av P)=some z)(g:cb){es:List AV}{x:AV}(d:Sl z es x){n:Int}(e:0<=n)(b:n<=es.length) :
 ∃y,dm P g t (some x) (some none) (some (some n)) (some none)=some (y,[])/\Sl z (es.take n.toNat) y:=by
 rcases d with ⟨rfl,rfl⟩ | ⟨c,rfl,a⟩
 ·refine⟨a9,?_,.inl ⟨rfl,by simp⟩⟩;rw[vp (by rw[h];rfl)];have:n=0:=by simp at b;omega
  subst this;rfl
 refine⟨.cC z (es.take n.toNat) (c.map (· - 0)),?_,.inr ⟨_,rfl,by cases c with | none=>simp | some k=>simp at a ⊢;omega⟩⟩;rw[zg h];simp only[bounds,qp,dP,Gr,iQs,if_pos (show 0<=n/\n<=es.length from⟨e,b⟩),Option.map_some];simp
def vo{P:Program}{t z:Nat}(h:(de P t).bind (av P)=some z)(g:cb){es:List AV}{x:AV}(d:Sl z es x){n:Int}(e:0<=n)(b:n<=es.length) :
 ∃y,dm P g t (some x) (some (some n)) (some none) (some none)=some (y,[])/\Sl z (es.drop n.toNat) y:=by
 rcases d with ⟨rfl,rfl⟩ | ⟨c,rfl,a⟩
 ·refine⟨a9,?_,.inl ⟨rfl,by simp⟩⟩;rw[vp (by rw[h];rfl)];have:n=0:=by simp at b;omega
  subst this;rfl
 refine⟨.cC z (es.drop n.toNat) (c.map (· - n.toNat)),?_,.inr ⟨_,rfl,by cases c with | none=>simp | some k=>simp at a ⊢;omega⟩⟩;rw[zg h];simp only[bounds,qp,dP,Gr,iQr,if_pos (show 0<=n/\n<=es.length from⟨e,b⟩),Option.map_some,BW];congr 3;rw[fG (by simp)]
def NX{P:Program}{t z:Nat}(h:(de P t).bind (av P)=some z)(g:cb){es:List AV}{x:AV}(e:Sl z es x){lo hi:Int}(j:0<=lo)(d:lo<=hi)(b:hi<=es.length) :
 ∃y,dm P g t (some x) (some (some lo)) (some (some hi)) (some none)=some (y,[])/\Sl z ((es.drop lo.toNat).take (hi.toNat - lo.toNat)) y:=by
 rcases e with ⟨rfl,rfl⟩ | ⟨c,rfl,a⟩
 ·refine⟨a9,?_,.inl ⟨rfl,by simp⟩⟩;rw[vp (by rw[h];rfl)];simp at b;have f:lo=0:=by omega
  have i:hi=0:=(by omega);subst f;subst i;rfl
 refine⟨.cC z ((es.drop lo.toNat).take (hi.toNat - lo.toNat)) (c.map (· - lo.toNat)),?_,.inr ⟨_,rfl,by cases c with | none=>simp | some k=>simp at a ⊢;omega⟩⟩;rw[zg h];simp only[bounds,qp,dP,if_pos (show 0<=lo/\lo<=hi/\hi<=es.length from⟨j,d,b⟩),Option.map_some]
def sB(l:List UInt8):AV:=aS ⟨l.toArray⟩
def HL(l:List UInt8):(aQ l).mapM byteOf=some l:=by
 unfold aQ;induction l with
 | nil=>rfl
 | cons b l a=>simp only[sW,lH,a,oT,pt];show(some (UInt8.ofNat ((b.toNat:Int)).toNat)).bind _=_;simp
def EO{P:Program}{src dst:TypeId}(a:cM P src=true)(b:isStr P dst=true){g:cb}{r:Ref}{l:List UInt8}{x:AV}(d:Pp g 1 (aQ l) x)(c : ∀s,x ≠ .v (.string s)) :
 bM P g r src dst (some x)=some (sB l,[]):=by
 rcases d with ⟨rfl,e⟩ | ⟨h,f,he⟩
 ·have:=iQh List.length e;simp at this;subst this;simp only[bM,a,b,sV,if_true];rfl
 cases x with
 | v x=>
  exfalso;cases x<;>first | (simp[cr]at he;done) | skip
  exact c _ rfl
 | _=>simp only[bM,a,b,sV,if_true,he,HL,Option.map_some];rfl
def Sl.Lr{z:Nat}{es:List AV}{x:AV}(h:Sl z es x) : ∀s,x ≠ .v (.string s):=by
 rcases h with ⟨rfl,_⟩ | ⟨c,rfl,_⟩<;>intro s e<;>cases e
def Own.Lr{z:Nat}{es:List AV}{H:ab}{x:AV}(h:Own z es H x) : ∀s,x ≠ .v (.string s):=by
 rcases h with ⟨rfl,_⟩ | ⟨r,rfl,_⟩<;>intro s e<;>cases e
def Sl.conv{P:Program}{src dst:TypeId}{l:List UInt8}{x:AV}(a:Sl 1 (aQ l) x)(b:cM P src=true)(c:isStr P dst=true)(g:cb)(r:Ref):bM P g r src dst (some x)=some (sB l,[]):=
 EO b c (a.Fa g) a.Lr
def Own.conv{P:Program}{src dst:TypeId}{l:List UInt8}{H:ab}{x:AV}(a:Own 1 (aQ l) H x)(b:cM P src=true)(c:isStr P dst=true)(r:Ref):bM P H.get r src dst (some x)=some (sB l,[]):=
 EO b c a.Fa a.Lr
def rA(l:List UInt8):(⟨l.toArray⟩:ByteArray).toList=l:=by
 rw[ByteArray.toList_eq]
@[simp] def Vo(P:Program)(t:TypeId)(xo a:Operand)(l m:List UInt8):bE P .eql t xo a (some (sB l)) (some (sB m))=some (aB (decide (l=m)),[]):=by
 show some ((AV.v (.bool ((⟨l.toArray⟩:ByteArray).toList == (⟨m.toArray⟩:ByteArray).toList))),[])=_;rw[rA,rA];congr 4;by_cases h:l=m<;>simp[h]
@[simp] def Vn(P:Program)(t:TypeId)(xo a:Operand)(l m:List UInt8):bE P .neq t xo a (some (sB l)) (some (sB m))=some (aB (!decide (l=m)),[]):=by
 show some ((AV.v (.bool (!((⟨l.toArray⟩:ByteArray).toList == (⟨m.toArray⟩:ByteArray).toList)))),[])=_;rw[rA,rA];congr 5;by_cases h:l=m<;>simp[h]
def Si{P:Program}{a l:Bool}{H:ab}{r:Ref}{t z by' n:Nat}{ps:List (Nat × AV)}{zz:AV}(y:Nj P t z by'=true)(c:n * z<=16777216)(m:eU H.get ps=some ps)(f:bW H.get (ps.map (·.2))=[])
 (q:ps.all (λp=>p.2.cells.length == z&&p.2.cells.all AV.one)=true) (b:(de P t).bind (eJ P)=some zz) {es:List AV} (u:gR (List.replicate n zz) ps=some es) :
 mn P a l H r t n (some ps)=if a then some (.cC z es (some n),H) else some (.bO r 0 n (some n),({ r with k:=0},some ⟨z,es,true,false⟩) :: H):=by
 obtain⟨e,s,h,x,D,g,o,i,j,E⟩:=fx y;rw[h]at b;simp only[cR,g,du]at b;subst b;have d:mkSlice P H.get t n ps=some ⟨z,es,true,false⟩:=by
  simp only[mkSlice,h,m,g,x];rw[if_pos ⟨wb j,c,o,i,by simpa using q⟩,u];rfl
 have v:gw P a H.get r t n (some ps)=if a then some (.cC z es (some n),[]) else some (.bO r 0 n (some n),[⟨z,es,true,false⟩]):=by
  simp only[gw,f,lW,iQT,if_true,d,Option.map_some];cases a<;>rfl
 unfold mn;rw[v];cases a<;>rfl
def NO{g:cb}{r:Ref}{z:Nat}{es:List AV}{fz:Bool}(a:g r=some ⟨z,es,true,fz⟩){n:Nat}(b:n=es.length)(k:Nat)(c:Option Nat):view g (k+1) (.bO r 0 n c)=some (.cC z es c):=by
 subst b;rw[DH a,if_pos ⟨rfl,by simp⟩,uW,Bd]
def EW(l m:List UInt8):aQ l++aQ m=aQ (l++m):=by simp[aQ]
def E0{P:Program}{t t' z by':Nat}(j:Nj P t z by'=true)(g:E1 P t'=true)(H:ab)(d c:Nat){es new:List AV}{s x:AV}(i:Own z es H s)(f:Pp H.get z new x)
 (e:(es.length+new.length) * by'<=aY) (h:Fr H) :
 ∃a H',dK P true H ⟨d,c,H.gen d c,0⟩ (some t) (some t') s x=some (a,H')/\Own z (es++new) H' a/\Fr H' /\∀q b,H.get q=some b->s.at?≠some q->H'.get q=some b/\a.at?≠some q:=
 UN j g i f e h ⟨d,c,rfl⟩
def Own.bF{z:Nat}{es:List AV}{H H':ab}{x s d:AV}(h:Own z es H x)(hp : ∀q b,H.get q=some b->s.at?≠some q->H'.get q=some b/\d.at?≠some q)(c : ∀q,x.at?=some q->s.at?≠some q):Own z es H' x /\∀q,x.at?=some q->d.at?≠some q:=by
 rcases h with ⟨rfl,rfl⟩ | ⟨r,rfl,g⟩
 ·exact⟨Ae z H',λq a=>by simp[AV.at?]at a⟩
 obtain⟨e,f⟩:=hp r _ g (c r rfl);exact⟨.inr ⟨r,rfl,e⟩,λq a=>by simp only[AV.at?,du]at a;subst a;exact f⟩
def LA{P:Program}{t:TypeId}(h:isBool P t=true):P.underlying t=some .bool:=by
 unfold isBool at h;split at h;·assumption
 cases h
def Fs{P:Program}{t:TypeId}(h:isBool P t=true)(d:Nat)(a b:Bool):bh P (Op.equalIn (d+1) t (.bool a) (.bool b))=some (a == b):=by
 simp only[Op.equalIn,bJ,mQ (LA h),cR];rfl
def Lc{P:Program}{t:TypeId}(h:isBool P t=true)(c:BinOp)(f:c = .eql\/c = .neq)(xo d:Operand)(a b:Bool) :
 sN P c t xo d (.bool a) (.bool b)=some (.bool (if c = .eql then a == b else !(a == b))):=by
 have e:bh P (Op.equal t (.bool a) (.bool b))=some (a == b):=Fs h 9999 a b;unfold sN;rcases f with rfl | rfl
 ·have:bh P (eqGuard .eql t xo d (.bool a) (.bool b))=some ():=rfl;rw[bJ,this,cR];show bh P (do pure (Value.bool (<-Op.equal t (.bool a) (.bool b))))=_;rw[bJ,e];rfl
 have:bh P (eqGuard .neq t xo d (.bool a) (.bool b))=some ():=rfl;rw[bJ,this,cR];show bh P (do pure (Value.bool (!(<-Op.equal t (.bool a) (.bool b)))))=_;rw[bJ,e];rfl
@[simp] def SP{P:Program}{t:TypeId}(h:isBool P t=true)(xo c:Operand)(a b:Bool):bE P .eql t xo c (some (aB a)) (some (aB b))=some (aB (a == b),[]):=by
 simp only[bE,CJ,jT,ir,Lc h .eql (.inl rfl),tO,vY,hU,iQf,cR,fS,scalar,if_true,ik,Option.map_some]
@[simp] def acW(P:Program)(d:Bool)(g:cb)(r:Ref)(c:Array TypeId)(k:IntKind)(a b:Int):dX P d g r .min c [.v (.int k a),.v (.int k b)]=some (.v (.int k (if b<a then b else a)),[]):=id rfl
def QQ{P:Program}{r:Ref}{t z by':Nat}{zz:AV}(m:Nj P t z by'=true)(a:(de P t).bind (eJ P)=some zz){n:Nat}(h:n * by'<=aY)(k:n<9223372036854775808) :
 wu P r t (some (aI n)) (some (aI n))=some (.bO r 0 n none,[⟨z,List.replicate n zz,true,false⟩]):=by
 obtain⟨e,j,c,l,g,b,i,d,f,o⟩:=fx m;rw[c]at a;simp only[cR,b,du]at a;subst a;simp only[wu,c,cR,intOf,b,l,g];have:((n:Int) * (by':Int))<=(aY:Int):=by exact_mod_cast h
 rw[if_pos ⟨by omega,Gr _,this,by omega,wb f,i,d⟩,BW]
def Own.cons{z:Nat}{es:List AV}{H:ab}{x:AV}(h:Own z es H x)(c:Fr H)(d t:Nat)(b:Option aP):Own z es ((⟨d,t,H.gen d t,0⟩,b) :: H) x:=by
 rcases h with ⟨rfl,rfl⟩ | ⟨r,rfl,a⟩
 ·exact Ae z _
 refine .inr ⟨r,rfl,?_⟩;rw[ab.aZ,if_neg (b8 c (by rw[a];rfl) d t 0)];exact a
def MP{H:ab}{r:Ref}{z n:Nat}{es:List AV}{fz:Bool}(a:H.get r=some ⟨z,es,true,fz⟩)(b:n=es.length)(c:Option Nat):Pp H.get z es (.bO r 0 n c):=by
 subst b;refine .inr ⟨rfl,(by intro e;cases e),?_⟩;simp[cr,a]
def Own.IE{P:Program}{t z:Nat}(h:(de P t).bind (av P)=some z){H:ab}{es:List AV}{x:AV}(d:Own z es H x){n:Nat}(b:n<=es.length) :
 ∃y c,dm P H.get t (some x) (some none) (some (some (n:Int))) (some none)=some (y,[])/\Ab.view H.get depth y=some c/\Sl z (es.take n) c:=by
 rcases d with ⟨rfl,rfl⟩ | ⟨r,rfl,a⟩
 ·refine⟨a9,a9,?_,rfl,.inl ⟨rfl,by simp⟩⟩;rw[vp (by rw[h];rfl)];have:n=0:=by simpa using b
  subst this;rfl
 refine⟨.bO r 0 n none,.cC z (es.take n) none,?_,?_,Sl.mk z _⟩;·simp only[dm,a,h,if_true,bounds,qp,dP,Gr,iQs];rw[if_pos ⟨by omega,by omega⟩];simp
 rw[a7,DH a,if_pos ⟨rfl,by simpa using b⟩,uW]
@[simp] def Yt(P:Program)(r:Ref)(e:TypeId){z:AV}(b:eJ P e=some z)(a:0<(av P e).getD 0):tn P r e=if some z.cells.length=av P e/\z.cells.all AV.one=true then some (.ptr r 0 0,[⟨(av P e).getD 0,[z],false,false⟩]) else none:=by
 unfold tn;rw[b];cases h:av P e with
 | none=>simp
 | some n=>rw[h]at a;simp only[dP]at a;simp[a]
@[simp] def QV{P:Program}{t f:Nat}(h:0<((aC P t f).getD (0,0)).2)(r:Ref)(i j:Nat):iy P t (some (.ptr r i j)) f=some (.ptr r i (j+((aC P t f).getD (0,0)).1),[]):=by
 unfold iy;cases a:aC P t f with
 | none=>rw[a]at h;simp at h
 | some p=>obtain⟨o,s⟩:=p;rw[a]at h;simp only[dP]at h ⊢;rw[if_pos h]
@[simp] def Pu{P:Program}{t f:Nat}(h:0<((aC P t f).getD (0,0)).2)(n:Nat)(es:List AV)(i j:Nat):iy P t (some (.iptr n es i j)) f=some (.iptr n es i (j+((aC P t f).getD (0,0)).1),[]):=by
 unfold iy;cases a:aC P t f with
 | none=>rw[a]at h;simp at h
 | some p=>obtain⟨o,s⟩:=p;rw[a]at h;simp only[dP]at h ⊢;rw[if_pos h]
def MO(cs:List AV)(a n:Nat)(b:Bool):Option AV:=if b then (if a+n<=cs.length then some (.agg ((cs.drop a).take n)) else none) else cs[a]?
@[simp] def ab5(cs:List AV)(a n:Nat):MO cs a n true=if a+n<=cs.length then some (.agg ((cs.drop a).take n)) else none:=id rfl
@[simp] def ab6(cs:List AV)(a n:Nat):MO cs a n false=cs[a]?:=id rfl
@[simp] def WE{P:Program}{t f:Nat}(h:(((pM P t f).bind λp=>av P p.2).isSome&&((pM P t f).bind λp=>eD P p.2).isSome)=true)(cs:List AV) :
 qN P t (some (.agg cs)) f=ik (MO cs ((pM P t f).getD (0,0)).1 ((av P ((pM P t f).getD (0,0)).2).getD 0) ((eD P ((pM P t f).getD (0,0)).2).getD false)):=by
 unfold qN;cases a:pM P t f with
 | none=>rw[a]at h;simp at h
 | some p=>obtain⟨o,e⟩:=p;rw[a]at h;simp only[cR,bD]at h;obtain⟨n,d⟩:=fP.1 h.1;obtain⟨b,c⟩:=fP.1 h.2;simp only[dP,xu,d,c];cases b<;>rfl
@[simp] def SK(cs:List AV)(new:List AV)(h:new.length=cs.length):eA [AV.agg cs] 0 0 new=some [AV.agg new]:=by
 simp[eA,pG,patch,h]
@[simp low] def SU(cs:List AV)(j:Nat)(new:List AV)(h:j+new.length<=cs.length):eA [AV.agg cs] 0 j new=some [AV.agg (patch cs j new)]:=by
 simp[eA,pG,h]
@[simp] def Z1(cs:List AV)(j:Nat)(new:List AV):patch cs j new=cs.take j++new++cs.drop (j+new.length):=id rfl
@[simp] def TN{P:Program}{t:TypeId}(c:(eD P t).isSome=true)(b:(av P t).isSome=true)(H:ab)(r:Ref)(i j:Nat):xq P H (.ptr r i j) t=RA (H.get r) i j ((av P t).getD 0) ((eD P t).getD false):=by
 obtain⟨a,c⟩:=fP.1 c;obtain⟨n,b⟩:=fP.1 b;simp only[xq,c,b,dP];rfl
@[simp] def SO{P:Program}{t:TypeId}{z:List AV}(b:eJ P t=some (.agg z))(c:lK P t=none)(hp:(placesOf P t).isSome=true)(a:List (Nat × AV)) :
 lz P t (some a)=(pS (λi=>((placesOf P t).getD [])[i]?) z a).map λcs=>(.agg cs,[]):=by
 obtain⟨ps,hp⟩:=fP.1 hp;simp only[lz,b,c,hp,dP]
@[simp] def TW(a:List AV)(i:Nat):qy (some (.tup a)) i=ik a[i]?:=id rfl
@[simp] def ZW(r:Ref)(i j:Nat):Bx (some (.ptr r i j))=some (.ptr r i j,[]):=id rfl
@[simp] def ab.Up(d t:Nat):ab.gen [] d t=0:=id rfl
@[simp] def ab.AE(d t g k:Nat)(b:Option aP)(H:ab)(a t':Nat):ab.gen ((⟨d,t,g,k⟩,b) :: H) a t'=if d=a/\t=t' then g+1 else ab.gen H a t':=id rfl
@[simp] def Co{c d:Type}(f:c->Option d)(a:c)(l:List c):List.mapM f (a :: l)=(f a).bind λb=>(List.mapM f l).map (b :: ·):=by
 rw[lH];cases f a<;>cases List.mapM f l<;>rfl
@[simp] def Ww{c:Type}(f:c->AV)(l:List c)(i j n:Nat)(b:Bool):dQ (l.map f) i j n b=(l[i]?).bind λa=>dQ [f a] 0 j n b:=by
 unfold dQ;rw[lJ];cases l[i]?<;>rfl
def drop_cons{c:Type}{l:List c}{k:Nat}{a:c}{s:List c}(h:l.drop k=a :: s) : ∃b:k<l.length,l[k]=a/\l.drop (k+1)=s/\l[k]?=some a:=by
 have b:k<l.length:=by
  have:=iQh List.length h;simp at this;omega
 rw[Ku b]at h;cases h;exact⟨b,rfl,rfl,dh b⟩
def drop_nil{a:Type}{l:List a}{k:Nat}(h:l.drop k=[])(b:k<=l.length):k=l.length:=by
 have:=iQh List.length h;simp at this;omega
def xG{b:Bool}{q:gu}{K:AV->Prop}{m:Mk (q,K)}(a:b=true->fg q K)(c:b=false->K AV.undef):gQ (aB b) true q K m:=by
 cases b;·exact(aaN q K m).2 (c rfl)
 exact(aaL q K m).2 (a rfl)
def xH{b:Bool}{q:gu}{K:AV->Prop}{m:Mk (q,K)}(a:b=true->K AV.undef)(c:b=false->fg q K):gQ (aB b) false q K m:=by
 cases b;·exact(aaO q K m).2 (c rfl)
 exact(aaM q K m).2 (a rfl)
def xE{b:Bool}{H:ab}{q:bU}{K:AV->ab->Prop}{m:Mk (q,K)}(a:b=true->jF q K)(c:b=false->K AV.undef H):gW (aB b) true H q K m:=by
 cases b;·exact(aaJ H q K m).2 (c rfl)
 exact(aaH H q K m).2 (a rfl)
def xF{b:Bool}{H:ab}{q:bU}{K:AV->ab->Prop}{m:Mk (q,K)}(a:b=true->K AV.undef H)(c:b=false->jF q K):gW (aB b) false H q K m:=by
 cases b;·exact(aaK H q K m).2 (c rfl)
 exact(aaI H q K m).2 (a rfl)
def dR{H:ab}(a:Fr H){q:Ref}(h:(H.get q).isSome=true)(d t k:Nat):((⟨d,t,H.gen d t,k⟩:Ref)=q)=False:=
 eq_false (b8 a h d t k)
def dS{H:ab}(a:Fr H){q:Ref}(h:(H.get q).isSome=true)(d t k:Nat):(q=(⟨d,t,H.gen d t,k⟩:Ref))=False:=
 eq_false λe=>b8 a h d t k e.symm
def CX{H:ab}(a:Fr H)(d t k:Nat):H.get ⟨d,t,H.gen d t,k⟩=none:=a _ _ _ _ (aV _)
def lF{H:ab}(a:Fr H){d t g:Nat}(c:g=H.gen d t)(b:Option aP):Fr ((⟨d,t,g,0⟩,b) :: H):=by subst c;exact a.cons d t b
def kb{H:ab}(a:Fr H){r:Ref}(c:(H.get r).isSome=true)(b:Option aP):Fr (H.put r b):=a.put b c
def xD{H:ab}{r:Ref}(a:(H.get r).isSome=true)(b:Option aP)(d t:Nat):(H.put r b).gen d t=H.gen d t:=ab.fB H r b a d t
def OU{E:Env}{f:FuncId}(a:xA (E.mode f)=false)(x:AV)(H:ab)(y:AV):handed E f x H y↔view H.get depth x=some y:=by
 unfold handed;rw[if_neg (by simpa using a)]
def Ju{E:Env}{f:FuncId}(a:xA (E.mode f)=true)(x:AV)(H:ab)(y:AV):handed E f x H y↔(ad H.get depth x).Nodup/\bK H.get depth x=some y:=by
 unfold handed;rw[if_pos (by simpa using a)]
def sj(a:Bool)(H:ab)(r:Ref)(refs:List Ref)(o:Option AV):bU:=match o with
 | some y=>if flat depth y||lW H.get refs then some ((ae r depth y []).1,keyed r 0 (ae r depth y []).2 H)
  else if a then some ((ae r depth y []).1,keyed r 0 (ae r depth y []).2 (bQ H refs)) else none
 | none=>none
noncomputable def Sg(E:Env)(a:Bool)(H:ab)(r:Ref)(refs:List Ref)(f:FuncId)(o:Option (List AV)):bU:=match o with
 | some xs=>sj a H r refs (aK E f xs)
 | none=>none
def aL{E:Env}(a:Bool)(dep:Nat)(H:ab)(r:Ref)(f:FuncId)(d:(E.mode f == 2)=false)(c:(E.mode f == 3)=false)(first captured args:List AV) :
 c9 E a (aK E) (cU E dep) H r (some (.fn (.func f) first captured)) args=Sg E a H r (bW H.get (first++args++captured)) f ((first++args++captured).mapM (view H.get depth)):=by
 have b:E.mode f≠2:=by simpa using d
 simp only[c9,jR,l8,if_neg b,c,tO,Gv];cases(first++args++captured).mapM (view H.get depth) with
 | none=>cases a<;>rfl
 | some xs=>
  dsimp only[Sg];cases aK E f xs with
  | none=>cases a<;>rfl
  | some y=>
   dsimp only[sj,Option.map_some];cases e:(flat depth y||lW H.get (bW H.get (first++args++captured))) with
   | true=>rfl
   | false=>cases a<;>rfl
@[simp] def XG(E:Env)(b:Bool)(H:ab)(r:Ref)(refs:List Ref)(f:FuncId)(a:List AV):Sg E b H r refs f (some a)=sj b H r refs (aK E f a):=id rfl
@[simp] def XH(a:Bool)(H:ab)(r:Ref)(refs:List Ref)(y:AV)(h:flat depth y=true):sj a H r refs (some y)=some (y,H):=by
 simp only[sj,h,Bb,if_true];rw[sP r depth depth y [] h];rfl
def au(a:Bool)(H:ab)(r:Ref)(y:AV):sj a H r [] (some y)=some ((ae r depth y []).1,keyed r 0 (ae r depth y []).2 H):=by
 simp only[sj,lW,iQT,Gu,if_true]
def aJ(a:Bool)(H:ab)(r:Ref)(refs:List Ref)(y:AV)(h:lW H.get refs=true):sj a H r refs (some y)=some ((ae r depth y []).1,keyed r 0 (ae r depth y []).2 H):=by
 simp only[sj,h,Gu,if_true]
@[simp] def ac7(n:Nat)(x:Value):flat (n+1) (.v x)=true:=id rfl
@[simp] def ac8(n:Nat)(x:UInt8):flat (n+1) (a8 x)=true:=id rfl
@[simp] def aco(n:Nat)(x:UInt32):flat (n+1) (cH x)=true:=id rfl
@[simp] def flat_agg(n:Nat)(cs:List AV):flat (n+1) (.agg cs)=cs.all (flat n):=id rfl
@[simp] def YU(n:Nat)(cs:List AV):flat (n+1) (.tup cs)=cs.all (flat n):=id rfl
@[simp] def aaQ(n z:Nat)(es:List AV)(c:Option Nat):flat (n+1) (.fsl z es c)=false:=id rfl
@[simp] def Vg(g:cb):bW g []=[]:=id rfl
@[simp] def TM(g:cb)(x:AV)(a:List AV):bW g (x :: a)=ad g depth x++bW g a:=id rfl
@[simp] def Wd(g:cb)(n:Nat)(x:Value):ad g n (.v x)=[]:=by cases n<;>rfl
@[simp] def We(g:cb)(n:Nat)(x:UInt8):ad g n (a8 x)=[]:=by cases n<;>rfl
@[simp] def U7(g:cb)(n:Nat)(x:UInt32):ad g n (cH x)=[]:=by cases n<;>rfl
@[simp] def SZ(g:cb)(n z:Nat)(es:List AV)(c:Option Nat):ad g n (.cC z es c)=[]:=by cases n<;>rfl
@[simp] def SL(g:cb)(n z:Nat)(es:List AV)(i j:Nat):ad g n (.iptr z es i j)=[]:=by cases n<;>rfl
@[simp] def S0(g:cb)(n:Nat)(cs:List AV):ad g (n+1) (.agg cs)=cs.flatMap (ad g n):=id rfl
@[simp] def SX(g:cb)(n:Nat)(cs:List AV):ad g (n+1) (.tup cs)=cs.flatMap (ad g n):=id rfl
@[simp] def SY(g:cb)(n:Nat)(r:Ref)(o l:Nat)(c:Option Nat):ad g (n+1) (.bO r o l c)=[r]:=id rfl
@[simp] def U5(g:cb)(n:Nat)(f:Fn)(a b:List AV):ad g (n+1) (.fn f a b)=a.flatMap (ad g n)++b.flatMap (ad g n):=id rfl
def U9(o l:Nat)(c:Option Nat)(b:Option aP):Option AV:=match b with
 | some b=>if b.arr=true/\o+l<=b.es.length then some (.cC b.esz ((b.es.drop o).take l) c) else none
 | none=>none
@[simp] def X0(g:cb)(n:Nat)(r:Ref)(o l:Nat)(c:Option Nat):view g (n+1) (.bO r o l c)=U9 o l c (g r):=id rfl
@[simp] def Wg(o l:Nat)(c:Option Nat)(b:aP):U9 o l c (some b)=if b.arr=true/\o+l<=b.es.length then some (.cC b.esz ((b.es.drop o).take l) c) else none:=id rfl
def U8(g:cb)(n i j:Nat)(b:Option aP):Option AV:=match b with
 | some b=>if b.arr then some (.iptr b.esz b.es i j) else (b.es.mapM (view g n)).map λes => .iptr b.esz es i j
 | none=>none
@[simp] def XZ(g:cb)(n:Nat)(r:Ref)(i j:Nat):view g (n+1) (.ptr r i j)=U8 g n i j (g r):=id rfl
@[simp] def Wf(g:cb)(n i j:Nat)(b:aP):U8 g n i j (some b)=if b.arr then some (.iptr b.esz b.es i j) else (b.es.mapM (view g n)).map λes => .iptr b.esz es i j:=id rfl
@[simp] def abl(g:cb)(n:Nat)(f:Fn)(a b:List AV):view g (n+1) (.fn f a b)=(a.mapM (view g n)).bind λa=>(b.mapM (view g n)).map λb => .fn f a b:=by
 rw[view];cases a.mapM (view g n)<;>cases b.mapM (view g n)<;>rfl
@[simp] def aaC(r:Ref)(n:Nat)(x:Value)(bs:List aP):ae r n (.v x) bs=(.v x,bs):=by cases n<;>rfl
@[simp] def aaD(r:Ref)(n:Nat)(x:UInt8)(bs:List aP):ae r n (a8 x) bs=(a8 x,bs):=by cases n<;>rfl
@[simp] def YN(r:Ref)(n:Nat)(x:UInt32)(bs:List aP):ae r n (cH x) bs=(cH x,bs):=by cases n<;>rfl
@[simp] def Xj(r:Ref)(n z:Nat)(es:List AV)(c:Option Nat)(bs:List aP):ae r n (.cC z es c) bs=(.cC z es c,bs):=by cases n<;>rfl
@[simp] def Xk(r:Ref)(n z:Nat)(es:List AV)(c:Option Nat)(bs:List aP)(a:z≠0):ae r (n+1) (.fsl z es c) bs=(.bO { r with k:=bs.length} 0 es.length c,bs++[⟨z,es,true,false⟩]):=by
 simp only[ae,if_neg a]
def rz(r:Ref)(n:Nat):List AV->List AV->List aP->List AV × List aP
 | [],acc,bs=>(acc,bs)
 | c :: cs,acc,bs=>rz r n cs (acc++[(ae r n c bs).1]) (ae r n c bs).2
def Ey(r:Ref)(n:Nat)(cs:List AV) : ∀(a:List AV)(bs:List aP),cs.foldl (λ(p:List AV × List aP) c=>let (y,bs):=ae r n c p.2;(p.1++[y],bs)) (a,bs)=rz r n cs a bs:=by
 induction cs with| nil=>intro a bs;rfl| cons c cs b=>intro a bs;rw[sG];exact b _ _
@[simp] def Xl(r:Ref)(n:Nat)(cs:List AV)(bs:List aP):ae r (n+1) (.agg cs) bs=(.agg (rz r n cs [] bs).1,(rz r n cs [] bs).2):=by
 rw[<-Ey];rfl
@[simp] def Xi(r:Ref)(n:Nat)(cs:List AV)(bs:List aP):ae r (n+1) (.tup cs) bs=(.tup (rz r n cs [] bs).1,(rz r n cs [] bs).2):=by
 rw[<-Ey];rfl
@[simp] def Vu(r:Ref)(n:Nat)(a:List AV)(bs:List aP):rz r n [] a bs=(a,bs):=id rfl
@[simp] def Uj(r:Ref)(n:Nat)(c:AV)(cs a:List AV)(bs:List aP):rz r n (c :: cs) a bs=rz r n cs (a++[(ae r n c bs).1]) (ae r n c bs).2:=id rfl
@[simp] def SQ(H:ab):bQ H []=H:=id rfl
def Nf(H:ab)(r:Ref)(b:Option aP):ab:=match b with
 | some b=>H.put r (some { b with fI:=true})
 | none=>H
@[simp] def RS(H:ab)(r:Ref)(rs:List Ref):bQ H (r :: rs)=bQ (Nf H r (H.get r)) rs:=by
 show(match H.get r with | some b=>bQ (H.put r (some { b with fI:=true})) rs | none=>bQ H rs)=_;cases H.get r<;>rfl
@[simp] def Uq(H:ab)(r:Ref)(b:aP):Nf H r (some b)=H.put r (some { b with fI:=true}):=id rfl
def Nh(l:Nat)(c:Option Nat)(b:Option aP):Option AV:=match b with
 | some b=>if b.arr=true/\l<=b.es.length then some (if b.fI then .cC b.esz (b.es.take l) c else .fsl b.esz (b.es.take l) c) else none
 | none=>none
@[simp] def XA(g:cb)(n:Nat)(r:Ref)(l:Nat)(c:Option Nat):bK g (n+1) (.bO r 0 l c)=Nh l c (g r):=id rfl
@[simp] def Ux(l:Nat)(c:Option Nat)(b:aP):Nh l c (some b)=if b.arr=true/\l<=b.es.length then some (if b.fI then .cC b.esz (b.es.take l) c else .fsl b.esz (b.es.take l) c) else none:=id rfl
@[simp] def aaR(g:cb)(n:Nat)(x:Value):bK g (n+1) (.v x)=some (.v x):=id rfl
@[simp] def aaS(g:cb)(n:Nat)(x:UInt8):bK g (n+1) (a8 x)=some (a8 x):=id rfl
@[simp] def YV(g:cb)(n:Nat)(x:UInt32):bK g (n+1) (cH x)=some (cH x):=id rfl
@[simp] def XB(g:cb)(n:Nat)(cs:List AV):bK g (n+1) (.agg cs)=(cs.mapM (bK g n)).map .agg:=id rfl
@[simp] def Xz(g:cb)(n:Nat)(cs:List AV):bK g (n+1) (.tup cs)=(cs.mapM (bK g n)).map .tup:=id rfl
def Sl.idx{z:Nat}{es:List AV}{x:AV}(h:Sl z es x){P:Program}{t:TypeId}(a:(de P t).bind (av P)=some z)(g:cb)(b:IntKind)(k:Int) :
 bI P g t (some x) (some (.v (.int b k)))=if 0<=k/\k<es.length then some (.iptr z es k.toNat 0,[]) else none:=by
 rcases h with ⟨rfl,rfl⟩ | ⟨c,rfl,_⟩
 ·obtain⟨e,he,d⟩:=JM a;rw[if_neg (by simp)];simp[bI,intOf,he]
 exact Eg a g es c b k
def Sl.exp{z:Nat}{es:List AV}{x:AV}(h:Sl z es x)(g:cb)(n:Nat):bK g (n+1) x=some x:=by
 rcases h with ⟨rfl,rfl⟩ | ⟨c,rfl,_⟩<;>rfl
def Sl.imp'{z:Nat}{es:List AV}{x:AV}(h:Sl z es x)(r:Ref)(n:Nat)(bs:List aP):ae r n x bs=(x,bs):=by
 rcases h with ⟨rfl,rfl⟩ | ⟨c,rfl,_⟩<;>cases n<;>rfl
def Sl.r{z:Nat}{es:List AV}{x:AV}(h:Sl z es x):pz x=some es.length/\(∀g n,Ab.view g (n+1) x=some x)/\(∀g n,ad g n x=[])/\x.cells=[x]/\x.one=true/\(∀g n,bK g (n+1) x=some x)/\(∀r n bs,ae r n x bs=(x,bs)):=
 ⟨h.len,h.view,h.refs,h.cells.1,h.cells.2,h.exp,h.imp'⟩
@[simp] def XU(z:Nat)(es es':List AV)(c:Option Nat):Sl z es (.cC z es' c)↔es=es'/\es.length<=c.getD es.length:=by
 constructor
 ·rintro(⟨e,_⟩ | ⟨a,e,h⟩);·cases e
  cases e;exact⟨rfl,h⟩
 rintro⟨rfl,h⟩;exact .inr ⟨c,rfl,h⟩
def Sx{P:Program}{t t' z by':Nat}(i:Nj P t z by'=true)(b:E1 P t'=true)(n:Bool)(H:ab)(r:Ref){new:List AV}{x:AV}(f:Pp H.get z new x)(o:new≠[])(j:new.length * by'<=aY) :
 dK P n H r (some t) (some t') a9 x=some (.bO r 0 new.length none,({ r with k:=0},some ⟨z,new,true,false⟩) :: H):=by
 obtain⟨e,zz,g,y,m,p,s,D,l,q⟩:=fx i;have a:=f.lN i g;unfold E1 at b;simp only[bD,jH]at b;have c:(P.underlying t').isNone=false:=by cases h:P.underlying t' with | none=>rw[h]at b;simp at b | some d=>rfl
 have u : ¬((P.underlying t').isNone=true\/isInt P t'≠isNum x):=by
  rw[c,b.2,f.num];simp
 have v : ¬(z≠z\/z=0\/by'=0\/zz.cells.length≠z):=by simp[s,l,q]
 simp only[dK,dY,cR,g,Option.map_some,dP,if_neg u,y,m,p,a,if_neg v,if_neg o,if_pos j];rfl
def Sw{P:Program}{t t' z by':Nat}(D:Nj P t z by'=true)(b:E1 P t'=true)(H:ab)(r q:Ref)(n:Nat){new es:List AV}{x:AV}(k:Pp H.get z new x){fz:Bool}(v:H.get q=some ⟨z,es,true,fz⟩)(F:n=es.length)(c:new≠[])(E:(es.length+new.length) * by'<=aY) :
 dK P true H r (some t) (some t') (.bO q 0 n none) x=some (.bO ⟨q.d,q.t,H.gen q.d q.t,0⟩ 0 (es.length+new.length) none,(⟨q.d,q.t,H.gen q.d q.t,0⟩,some ⟨z,es++new,true,fz⟩) :: H.put q none):=by
 subst F;obtain⟨e,zz,j,y,m,o,s,I,l,p⟩:=fx D;have a:=k.lN D j;unfold E1 at b;simp only[bD,jH]at b;have f:(P.underlying t').isNone=false:=by cases h:P.underlying t' with | none=>rw[h]at b;simp at b | some d=>rfl
 have u : ¬((P.underlying t').isNone=true\/isInt P t'≠isNum x):=by
  rw[f,b.2,k.num];simp
 have G : ¬(z≠z\/z=0\/by'=0\/zz.cells.length≠z):=by simp[s,l,p]
 have g : ¬(z≠z\/z=0\/by'=0\/new=[]\/zz.cells.length≠z):=by simp[s,l,p,c]
 have i:dY P H.get r (some t) (some t') (.bO q 0 es.length none) x=none:=by
  simp only[dY,cR,j,Option.map_some,dP,if_neg u,y,m,o,a,if_neg G,v,if_neg c];simp
 simp only[dK,i,BF,En];simp only[iH,cR,j,Option.map_some,dP,if_neg u,y,m,o,a,if_neg g,v,E,and_self,if_true,iQs]
def lO(P:Program)(t:TypeId):Nat:=((de P t).bind (av P)).getD 0
def tv(P:Program)(t:TypeId):Nat:=((de P t).bind (lg P)).getD 0
def j6(P:Program)(t:TypeId):AV:=((de P t).bind (eJ P)).getD AV.undef
def qF(P:Program)(t:TypeId):Bool:=Nj P t (lO P t) (tv P t)
def UA(z:Nat)(o:Option (Nat × List AV)):Option (List AV):=match o with
 | some (a,es)=>if a=z then some es else none
 | none=>none
def kg(z:Nat)(g:cb)(x:AV):Option (List AV):=match x with
 | .v (.slice none 0 0)=>some []
 | .v (.int _ _)=>none
 | x=>UA z (cr g x)
@[simp] def YY(z:Nat)(g:cb):kg z g a9=some []:=id rfl
@[simp] def YZ(z:Nat)(g:cb)(a:Nat)(es:List AV)(c:Option Nat):kg z g (.cC a es c)=if a=z then some es else none:=id rfl
def XD(z o n:Nat)(b:Option aP):Option (List AV):=match b with
 | some b=>if (b.arr=true/\o+n<=b.es.length)/\b.esz=z then some ((b.es.drop o).take n) else none
 | none=>none
@[simp] def Y0(z o n:Nat)(b:aP):XD z o n (some b)=if (b.arr=true/\o+n<=b.es.length)/\b.esz=z then some ((b.es.drop o).take n) else none:=id rfl
@[simp] def YX(z:Nat)(g:cb)(r:Ref)(o n:Nat)(c:Option Nat):kg z g (.bO r o n c)=XD z o n (g r):=by
 unfold kg XD;simp only[cr];cases g r with
 | none=>rfl
 | some b=>
  dsimp only;by_cases h:b.arr=true/\o+n<=b.es.length
  ·by_cases a:b.esz=z;·rw[if_pos h,if_pos ⟨h,a⟩];simp[UA,a]
   rw[if_pos h,if_neg (λe=>a e.2)];simp[UA,a]
  rw[if_neg h,if_neg (λe=>h e.1)];rfl
def Sl.kg{z:Nat}{es:List AV}{x:AV}(h:Sl z es x)(g:cb):Ab.kg z g x=some es:=by
 rcases h with ⟨rfl,rfl⟩ | ⟨c,rfl,_⟩<;>simp
def pV{z:Nat}{g:cb}{x:AV}{new:List AV}(h:kg z g x=some new):Pp g z new x:=by
 unfold kg at h;split at h;·cases h;exact .inl ⟨rfl,rfl⟩
 ·cases h
 rename_i a c;unfold UA at h;split at h
 ·rename_i f es d;split at h
  ·rename_i b;cases h;subst b;refine .inr ⟨?_,λe=>?_,d⟩
   ·cases x with
    | v u=>cases u with
     | int k n=>exact(c _ _ rfl).elim
     | _=>rfl
    | _=>rfl
   exact a e
  cases h
 cases h
def abg(z by':Nat)(H:ab)(r:Ref)(new:Option (List AV)):bU:=match new with
 | some new=>if new=[] then some (a9,H) else if new.length * by'<=aY then some (.bO r 0 new.length none,({ r with k:=0},some ⟨z,new,true,false⟩) :: H) else none
 | none=>none
@[simp] def Pf(z by':Nat)(H:ab)(r:Ref)(new:List AV):abg z by' H r (some new)=if new=[] then some (a9,H) else if new.length * by'<=aY then some (.bO r 0 new.length none,({ r with k:=0},some ⟨z,new,true,false⟩) :: H) else none:=id rfl
@[simp] def XO{P:Program}{t t':TypeId}(j:qF P t=true)(c:E1 P t'=true)(u:Bool)(H:ab)(r:Ref)(x:AV)(f:(kg (lO P t) H.get x).isSome=true) :
 dK P u H r (some t) (some t') a9 x=abg (lO P t) (tv P t) H r (kg (lO P t) H.get x):=by
 obtain⟨new,D⟩:=fP.1 f;rw[D,Pf];have f:=pV D;unfold qF at j;by_cases b:new=[]
 ·rw[if_pos b];subst b;obtain⟨e,zz,i,q,l,m,o,E,k,n⟩:=fx j;have a:=f.lN j i;unfold E1 at c;simp only[bD,jH]at c;have g:(P.underlying t').isNone=false:=by cases h:P.underlying t' with | none=>rw[h]at c;simp at c | some d=>rfl
  have p : ¬((P.underlying t').isNone=true\/isInt P t'≠isNum x):=by rw[g,c.2,f.num];simp
  have z : ¬(lO P t≠lO P t\/lO P t=0\/tv P t=0\/zz.cells.length≠lO P t):=(by simp[o,k,n]);simp only[dK,dY,cR,i,Option.map_some,dP,if_neg p,q,l,m,a,if_neg z,if_true];rfl
 rw[if_neg b];split;·rename_i s;exact Sx j c u H r f b s
 rename_i s;obtain⟨e,zz,i,q,l,m,o,E,k,n⟩:=fx j;have a:=f.lN j i;unfold E1 at c;simp only[bD,jH]at c;have g:(P.underlying t').isNone=false:=by cases h:P.underlying t' with | none=>rw[h]at c;simp at c | some d=>rfl
 have p : ¬((P.underlying t').isNone=true\/isInt P t'≠isNum x):=by rw[g,c.2,f.num];simp
 have z : ¬(lO P t≠lO P t\/lO P t=0\/tv P t=0\/zz.cells.length≠lO P t):=(by simp[o,k,n]);have v : ¬(lO P t≠lO P t\/lO P t=0\/tv P t=0\/new=[]\/zz.cells.length≠lO P t):=(by simp[o,k,n,b]);have y:dY P H.get r (some t) (some t') a9 x=none:=(by simp only[dY,cR,i,Option.map_some,dP,if_neg p,q,l,m,a,if_neg z,if_neg b,if_neg s]);simp only[dK,y,BF];cases u;·rfl
 simp only[En,iH,cR,i,Option.map_some,dP,if_neg p,q,l,m,a,if_neg v]
def bsG(a:Bool)(z:Nat)(zz:AV)(H:ab)(r:Ref)(n:Nat)(ps:List (Nat × AV)):bU:=match gR (List.replicate n zz) ps with
 | some es=>if a then some (.cC z es (some n),H) else some (.bO r 0 n (some n),({ r with k:=0},some ⟨z,es,true,false⟩) :: H)
 | none=>none
@[simp] def AL{P:Program}{t:TypeId}(g:qF P t=true)(a i:Bool)(H:ab)(r:Ref)(n:Nat)(ps:List (Nat × AV))(c:n * lO P t<=16777216)(k:eU H.get ps=some ps)(f:bW H.get (ps.map (·.2))=[])
 (m:ps.all (λp=>p.2.cells.length == lO P t&&p.2.cells.all AV.one)=true) (b:(gR (List.replicate n (j6 P t)) ps).isSome=true) :
 mn P a i H r t n (some ps)=bsG a (lO P t) (j6 P t) H r n ps:=by
 obtain⟨es,b⟩:=fP.1 b;unfold qF at g;obtain⟨e,zz,l,x,s,j,v,o,q,u⟩:=fx g;have h:(de P t).bind (eJ P)=some zz:=by rw[l];exact j
 have d:j6 P t=zz:=by unfold j6;rw[h];rfl
 rw[d]at b ⊢;rw[Si g c k f m h b];unfold bsG;rw[b]
@[simp] def SR(es:List AV):gR es []=some es:=id rfl
@[simp] def RV(es:List AV)(i:Nat)(v:AV)(ps:List (Nat × AV)):gR es ((i,v) :: ps)=if i<es.length then gR (es.set i v) ps else none:=id rfl
@[simp] def aba(a:Bool)(z:Nat)(zz:AV)(H:ab)(r:Ref)(n:Nat)(ps:List (Nat × AV)):bsG a z zz H r n ps=(gR (List.replicate n zz) ps).bind λes=>if a then some (.cC z es (some n),H) else some (.bO r 0 n (some n),({ r with k:=0},some ⟨z,es,true,false⟩) :: H):=by
 unfold bsG;cases gR (List.replicate n zz) ps<;>rfl
@[simp] def SM(g:cb):eU g []=some []:=id rfl
@[simp] def PQ(g:cb)(i:Nat)(x:AV)(ps:List (Nat × AV)):eU g ((i,x) :: ps)=(view g depth x).bind λy=>(eU g ps).map ((i,y) :: ·):=by
 unfold eU;rw[Co];dsimp only;cases view g depth x<;>rfl
def Xn(z o n:Nat)(k:Int)(r:Ref)(b:Option aP):gu:=match b with
 | some b=>if 0<=k/\k<n/\z=b.esz then some (.ptr r (o+k.toNat) 0,[]) else none
 | none=>none
@[simp] def YO(z o n:Nat)(k:Int)(r:Ref)(b:aP):Xn z o n k r (some b)=if 0<=k/\k<n/\z=b.esz then some (.ptr r (o+k.toNat) 0,[]) else none:=id rfl
@[simp] def Ps{P:Program}{t:TypeId}(h:qF P t=true)(g:cb)(r:Ref)(o n:Nat)(c:Option Nat)(d:IntKind)(k:Int) :
 bI P g t (some (.bO r o n c)) (some (.v (.int d k)))=Xn (lO P t) o n k r (g r):=by
 unfold qF at h;obtain⟨e,zz,a,b,p,f,l,i,m,j⟩:=fx h;simp only[bI,cR,intOf,a,b];cases g r<;>rfl
def KJ(H:ab)(r:Ref)(o:Option aP)(n i j:Nat)(x:AV):bU:=match o with
 | some ⟨z,es,true,false⟩=>if x.cells.length=n/\x.cells.all AV.one=true then (eA es i j x.cells).map λes=>(AV.undef,H.put r (some ⟨z,es,true,false⟩)) else none
 | some ⟨z,es,false,false⟩=>if x.cells.length=n/\x.cells.all AV.one=true then (eA es i j x.cells).map λes=>(AV.undef,H.put r (some ⟨z,es,false,false⟩)) else none
 | _=>none
@[simp] def DW(H:ab)(r:Ref)(z:Nat)(es:List AV)(n i j:Nat)(x:AV):KJ H r (some ⟨z,es,true,false⟩) n i j x=if x.cells.length=n/\x.cells.all AV.one=true then (eA es i j x.cells).map λes=>(AV.undef,H.put r (some ⟨z,es,true,false⟩)) else none:=id rfl
@[simp] def Wl(H:ab)(r:Ref)(z:Nat)(es:List AV)(n i j:Nat)(x:AV):KJ H r (some ⟨z,es,false,false⟩) n i j x=if x.cells.length=n/\x.cells.all AV.one=true then (eA es i j x.cells).map λes=>(AV.undef,H.put r (some ⟨z,es,false,false⟩)) else none:=id rfl
def KL(H:ab)(o:Option aP)(x:AV):Prop:=match o with
 | some ⟨_,_,false,false⟩=>True
 | some ⟨_,_,true,false⟩=>view H.get depth x=some x/\ad H.get depth x=[]
 | _=>False
@[simp] def Wn(H:ab)(z:Nat)(es:List AV)(x:AV):KL H (some ⟨z,es,false,false⟩) x=True:=id rfl
@[simp] def Wo(H:ab)(z:Nat)(es:List AV)(x:AV):KL H (some ⟨z,es,true,false⟩) x=(view H.get depth x=some x/\ad H.get depth x=[]):=id rfl
def cK{P:Program}{t:TypeId}(d:(av P t).isSome=true)(H:ab)(r:Ref)(i j:Nat)(x:AV)(c:KL H (H.get r) x) :
 iu P H t (some (.ptr r i j)) (some x)=KJ H r (H.get r) ((av P t).getD 0) i j x:=by
 obtain⟨n,d⟩:=fP.1 d;simp only[iu,d,dP];cases e:H.get r with
 | none=>rw[e]at c;exact c.elim
 | some b=>
  rw[e]at c;obtain⟨z,es,arr,fI⟩:=b;cases fI with
  | true=>cases arr<;>exact c.elim
  | false=>
   cases arr with| false=>simp only[iQr,hU,iQf];rfl| true=>
    obtain⟨f,g⟩:=c;simp only[iQr,if_true,f,g,Bc,iQf,bQ];by_cases a:x.cells.length=n/\x.cells.all AV.one=true;·rw[if_pos a,DW,if_pos a,if_pos a.2]
    rw[if_neg a,DW,if_neg a]
@[simp] def sX(cs:List AV)(j:Nat)(new:List AV):pG (.agg cs) j new=if j+new.length<=cs.length then some (.agg (patch cs j new)) else none:=id rfl
@[simp] def WD(f:Fn)(a b:List AV):wy f (some a) (some b)=some (.fn f a b,[]):=id rfl
attribute [simp] cK
@[simp] def Xy(a:Nat->Option (Nat × Nat))(cells:List AV):pS a cells []=some cells:=id rfl
def VZ(a:Nat->Option (Nat × Nat))(cells:List AV)(v:AV)(rest:List (Nat × AV))(p:Option (Nat × Nat)):Option (List AV):=match p with
 | none=>none
 | some (off,size)=>if v.cells.length=size/\off+size<=cells.length then pS a (patch cells off v.cells) rest else none
@[simp] def V0(a:Nat->Option (Nat × Nat))(cells:List AV)(i:Nat)(v:AV)(rest:List (Nat × AV)):pS a cells ((i,v) :: rest)=VZ a cells v rest (a i):=id rfl
@[simp] def Xx(a:Nat->Option (Nat × Nat))(cells:List AV)(v:AV)(rest:List (Nat × AV))(c b:Nat):VZ a cells v rest (some (c,b))=if v.cells.length=b/\c+b<=cells.length then pS a (patch cells c v.cells) rest else none:=id rfl
@[simp] def Z0(r':Ref)(a:Option aP)(H:ab)(r:Ref)(b:Option aP):ab.put ((r',a) :: H) r b=if r'=r then (r,b) :: H else (r',a) :: ab.put H r b:=id rfl
def abj(z:Nat)(es:List AV)(y:AV):Prop:=(y=a9/\es=[])\/y = .fsl z es none\/(y = .fsl z [] (some 0)/\es=[])
def Uk(r:Ref)(y:AV)(k:Nat):AV:=match y with
 | .fsl _ es c => .bO { r with k:=k} 0 es.length c
 | y=>y
def Un(y:AV):List aP:=match y with
 | .fsl z es _=>[⟨z,es,true,false⟩]
 | _=>[]
def abj.imp{z:Nat}{es:List AV}{y:AV}(h:abj z es y)(a:z≠0)(r:Ref)(n:Nat)(bs:List aP):ae r (n+1) y bs=(Uk r y bs.length,bs++Un y):=by
 rcases h with ⟨rfl,rfl⟩ | rfl | ⟨rfl,rfl⟩
 ·simp[Uk,Un]
 ·simp[Uk,Un,a]
 simp[Uk,Un,a]
def Cz{P:Program}{t t':TypeId}(l:qF P t=true)(c:E1 P t'=true)(D:Bool)(H:ab)(r q:Ref)(n k:Nat)(x:AV){es new:List AV}{fz:Bool}(s:H.get q=some ⟨lO P t,es,true,fz⟩)(f:kg (lO P t) H.get x=some new)(E:n=es.length)(j:new=[]\/((es.length+new.length) * tv P t<=aY/\k<es.length+new.length)) :
 dK P D H r (some t) (some t') (.bO q 0 n (some k)) x=if new=[] then some (.bO q 0 n (some k),H) else some (.bO r 0 (es.length+new.length) none,({ r with k:=0},some ⟨lO P t,es++new,true,false⟩) :: H):=by
 subst E;have f:=pV f;unfold qF at l;obtain⟨e,zz,i,v,m,o,G,I,z,F⟩:=fx l;have a:=f.lN l i;unfold E1 at c;simp only[bD,jH]at c;have g:(P.underlying t').isNone=false:=by cases h:P.underlying t' with | none=>rw[h]at c;simp at c | some d=>rfl
 have p : ¬((P.underlying t').isNone=true\/isInt P t'≠isNum x):=by rw[g,c.2,f.num];simp
 have u : ¬(lO P t≠lO P t\/lO P t=0\/tv P t=0\/zz.cells.length≠lO P t):=by simp[G,z,F]
 by_cases b:new=[];·subst b;simp only[dK,dY,cR,i,Option.map_some,dP,if_neg p,v,m,o,a,if_neg u,s,if_true];simp
 obtain⟨y,j⟩:=j.resolve_left b;simp only[dK,dY,cR,i,Option.map_some,dP,if_neg p,v,m,o,a,if_neg u,s,if_neg b];simp only[ne_eq,not_true_eq_false,Bool.true_eq_false,or_self,iQf,qZ,aV,j,y,and_self,if_true,uW,Bd];rfl
def rB(z by' n:Nat)(d:Bool)(c:Option Nat)(b:Option aP)(new:Option (List AV)):Prop:=match b,new with
 | some ⟨a,es,true,_⟩,some new=>a=z/\n=es.length/\(new=[]\/((es.length+new.length) * by'<=aY/\match c with | none=>d=true | some k=>k<es.length+new.length))
 | _,_=>False
def aA(z by' n:Nat)(a:Bool)(b:Nat)(es new:List AV)(fz:Bool):rB z by' n a none (some ⟨b,es,true,fz⟩) (some new)=(b=z/\n=es.length/\(new=[]\/((es.length+new.length) * by'<=aY/\a=true))):=id rfl
def aN(z by' n:Nat)(b:Bool)(k a:Nat)(es new:List AV)(fz:Bool):rB z by' n b (some k) (some ⟨a,es,true,fz⟩) (some new)=(a=z/\n=es.length/\(new=[]\/((es.length+new.length) * by'<=aY/\k<es.length+new.length))):=id rfl
def UP(z:Nat)(H:ab)(q r:Ref)(n:Nat)(c:Option Nat)(b:Option aP)(new:Option (List AV)):bU:=match b,new with
 | some b,some []=>some (.bO q 0 n c,H)
 | some b,some new=>match c with
  | none=>some (.bO ⟨q.d,q.t,H.gen q.d q.t,0⟩ 0 (b.es.length+new.length) none,(⟨q.d,q.t,H.gen q.d q.t,0⟩,some ⟨z,b.es++new,true,b.fI⟩) :: H.put q none)
  | some _=>some (.bO r 0 (b.es.length+new.length) none,({ r with k:=0},some ⟨z,b.es++new,true,false⟩) :: H)
 | _,_=>none
@[simp] def Sz(z:Nat)(H:ab)(q r:Ref)(n:Nat)(c:Option Nat)(b:aP):UP z H q r n c (some b) (some [])=some (.bO q 0 n c,H):=id rfl
def cw(z:Nat)(H:ab)(q r:Ref)(n:Nat)(b:aP)(new:List AV)(a:new≠[]):UP z H q r n none (some b) (some new)=some (.bO ⟨q.d,q.t,H.gen q.d q.t,0⟩ 0 (b.es.length+new.length) none,(⟨q.d,q.t,H.gen q.d q.t,0⟩,some ⟨z,b.es++new,true,b.fI⟩) :: H.put q none):=by
 cases new with| nil=>exact(a rfl).elim| cons _ _=>rfl
def cu(z:Nat)(H:ab)(q r:Ref)(n k:Nat)(b:aP)(new:List AV)(a:new≠[]):UP z H q r n (some k) (some b) (some new)=some (.bO r 0 (b.es.length+new.length) none,({ r with k:=0},some ⟨z,b.es++new,true,false⟩) :: H):=by
 cases new with| nil=>exact(a rfl).elim| cons _ _=>rfl
def bc{P:Program}{t t':TypeId}(o:qF P t=true)(g:E1 P t'=true)(s:Bool)(H:ab)(r q:Ref)(n:Nat)(c:Option Nat)(x:AV)(a:rB (lO P t) (tv P t) n s c (H.get q) (kg (lO P t) H.get x)) :
 dK P s H r (some t) (some t') (.bO q 0 n c) x=UP (lO P t) H q r n c (H.get q) (kg (lO P t) H.get x):=by
 cases i:H.get q with| none=>rw[i]at a;exact a.elim| some b=>
  obtain⟨L,es,arr,fz⟩:=b;cases j:kg (lO P t) H.get x with
  | none=>rw[i,j]at a;cases arr<;>exact a.elim
  | some new=>
   rw[i,j]at a;cases arr with
   | false=>exact a.elim
   | true=>
    obtain⟨rfl,rfl,a⟩:=a;cases c with
    | none=>
     by_cases f:new=[]
     ·subst f;rw[Sz];have m:=pV j;unfold qF at o;obtain⟨e,zz,u,J,z,D,F,K,y,E⟩:=fx o;have l:=m.lN o u;unfold E1 at g;simp only[bD,jH]at g;have p:(P.underlying t').isNone=false:=by cases h:P.underlying t' with | none=>rw[h]at g;simp at g | some d=>rfl
      have G : ¬((P.underlying t').isNone=true\/isInt P t'≠isNum x):=by rw[p,g.2,m.num];simp
      have I : ¬(lO P t≠lO P t\/lO P t=0\/tv P t=0\/zz.cells.length≠lO P t):=(by simp[F,y,E]);simp only[dK,dY,cR,u,Option.map_some,dP,if_neg G,J,z,D,l,if_neg I,i,if_true];simp
     obtain⟨v,rfl⟩:=a.resolve_left f;rw[cw _ _ _ _ _ _ _ f];exact Sw (by exact o) g H r q _ (pV j) i rfl f v
    | some k=>
     rw[Cz o g s H r q _ k x i j rfl a];split;·rename_i f;subst f;rfl
     rename_i f;rw[cu _ _ _ _ _ _ _ _ f]
def Sl.Z4{z:Nat}{es:List AV}{x:AV}(h:Sl z es x):x=a9/\es=[] \/∃c,x = .cC z es c:=by
 rcases h with h | ⟨c,h,_⟩
 ·exact .inl h
 exact .inr ⟨c,h⟩
@[simp] def T3(P:Program)(t:TypeId)(xo a:Operand)(h:(de P t).isSome=true)(z:Nat)(es:List AV)(c:Option Nat):bE P .eql t xo a (some (.cC z es c)) (some a9)=some (aB false,[]):=by
 unfold de at h;split at h;·rename_i e b;simp[bE,CJ,jT,b]
 cases h
def aaP(b:Option aP):Bool:=match b with | some b=>b.fI | none=>false
@[simp] def YS(b:aP):aaP (some b)=b.fI:=id rfl
@[simp] def XR(g:cb):lW g []=true:=id rfl
@[simp] def V9(g:cb)(r:Ref)(rs:List Ref):lW g (r :: rs)=(aaP (g r)&&lW g rs):=id rfl
def aH(H:ab)(r:Ref)(refs:List Ref)(y:AV)(a:flat depth y=false)(b:lW H.get refs=false):sj true H r refs (some y)=some ((ae r depth y []).1,keyed r 0 (ae r depth y []).2 (bQ H refs)):=by
 simp only[sj,a,b,vY,hU,iQf,if_true]
def ru(z:Nat):List AV->AV
 | []=>a9
 | es => .fsl z es none
@[simp] def Em(z:Nat):ru z []=a9:=id rfl
def rr(z:Nat){es:List AV}(h:es≠[]):ru z es = .fsl z es none:=by
 cases es with| nil=>exact(h rfl).elim| cons _ _=>rfl
def HG:AV->AV
 | .cC z [] _ => .fsl z [] (some 0)
 | .cC z es _ => .fsl z es none
 | x=>x
@[simp] def Sc(x:Value):HG (.v x) = .v x:=id rfl
@[simp] def XE(z:Nat)(c:Option Nat):HG (.cC z [] c) = .fsl z [] (some 0):=id rfl
def Gg(z:Nat){es:List AV}(c:Option Nat)(h:es≠[]):HG (.cC z es c) = .fsl z es none:=by
 cases es with| nil=>exact(h rfl).elim| cons _ _=>rfl
def lS(z:Nat)(es:List AV)(H:ab)(x y:AV):Prop:=(x=y/\Sl z es y) \/∃r c fz,x = .bO r 0 es.length c/\H.get r=some ⟨z,es,true,fz⟩/\y = .cC z es c/\es.length<=c.getD es.length
def lS.sl{z:Nat}{es:List AV}{H:ab}{x y:AV}(h:lS z es H x y):Sl z es y:=by
 rcases h with ⟨_,h⟩ | ⟨r,c,fz,_,_,rfl,h⟩
 ·exact h
 exact .inr ⟨c,rfl,h⟩
def lS.view{z:Nat}{es:List AV}{H:ab}{x y:AV}(h:lS z es H x y)(n:Nat):Ab.view H.get (n+1) x=some y:=by
 rcases h with ⟨rfl,h⟩ | ⟨r,c,fz,rfl,a,rfl,_⟩
 ·exact h.view _ _
 rw[NO a rfl]
def lS.len{z:Nat}{es:List AV}{H:ab}{x y:AV}(h:lS z es H x y):pz x=some es.length:=by
 rcases h with ⟨rfl,h⟩ | ⟨r,c,fz,rfl,a,rfl,_⟩
 ·exact h.len
 rfl
def lS.cells{z:Nat}{es:List AV}{H:ab}{x y:AV}(h:lS z es H x y):x.cells=[x]/\x.one=true:=by
 rcases h with ⟨rfl,h⟩ | ⟨r,c,fz,rfl,a,rfl,_⟩
 ·exact h.cells
 exact⟨rfl,rfl⟩
def lS.put{z:Nat}{es:List AV}{H:ab}{x y:AV}(h:lS z es H x y){q:Ref}(d:x.at?≠some q)(b:Option aP):lS z es (H.put q b) x y:=by
 rcases h with h | ⟨r,c,fz,rfl,e,rfl,a⟩
 ·exact .inl h
 refine .inr ⟨r,c,fz,rfl,?_,rfl,a⟩;rw[ab.get_put,if_neg (by rintro rfl;exact d rfl),e]
def lS.cons{z:Nat}{es:List AV}{H:ab}{x y:AV}(h:lS z es H x y)(f:Fr H)(d t:Nat)(b:Option aP):lS z es ((⟨d,t,H.gen d t,0⟩,b) :: H) x y:=by
 rcases h with h | ⟨r,c,fz,rfl,a,rfl,e⟩
 ·exact .inl h
 refine .inr ⟨r,c,fz,rfl,?_,rfl,e⟩;rw[ab.aZ,if_neg (b8 f (by rw[a];rfl) d t 0),a]
def lS.r{z:Nat}{es:List AV}{H:ab}{x y:AV}(h:lS z es H x y):pz x=some es.length/\(∀n,Ab.view H.get (n+1) x=some y)/\x.cells=[x]/\x.one=true:=⟨h.len,h.view,h.cells⟩
def lS.of{z:Nat}{es:List AV}{x:AV}(h:Sl z es x)(H:ab):lS z es H x x := .inl ⟨rfl,h⟩
def Pm(z:Nat)(es:List AV)(H:ab)(x:AV)(r:Ref):Prop:=(x=a9/\es=[]) \/∃c,x = .bO r 0 es.length c/\H.get r=some ⟨z,es,true,false⟩
def Pm.len{z:Nat}{es:List AV}{H:ab}{x:AV}{r:Ref}(h:Pm z es H x r):pz x=some es.length:=by
 rcases h with ⟨rfl,rfl⟩ | ⟨c,rfl,_⟩<;>rfl
def Pm.cells{z:Nat}{es:List AV}{H:ab}{x:AV}{r:Ref}(h:Pm z es H x r):x.cells=[x]/\x.one=true:=by
 rcases h with ⟨rfl,rfl⟩ | ⟨c,rfl,_⟩<;>exact⟨rfl,rfl⟩
def Pm.bO{z:Nat}{es:List AV}{H:ab}{x:AV}{r:Ref}(h:Pm z es H x r){k:Nat}(a:k<es.length) : ∃c,x = .bO r 0 es.length c/\H.get r=some ⟨z,es,true,false⟩:=by
 rcases h with ⟨rfl,rfl⟩ | h
 ·simp at a
 exact h
def sq(a:List Nat)(z:Nat)(es:List AV)(H:ab)(x:AV):Prop:=(x=a9/\es=[]) \/∃t g,t∈a/\x = .bO ⟨0,t,g,0⟩ 0 es.length none/\H.get ⟨0,t,g,0⟩=some ⟨z,es,true,false⟩
def lS.live{z:Nat}{es:List AV}{H:ab}{x y:AV}(h:lS z es H x y){r:Ref}(b:x.at?=some r):(H.get r).isSome=true:=by
 rcases h with ⟨rfl,h⟩ | ⟨r',c,fz,rfl,a,rfl,_⟩
 ·rcases h with ⟨rfl,_⟩ | ⟨c,rfl,_⟩<;>cases b
 cases b;rw[a];rfl
def lS.mono{z:Nat}{es:List AV}{H H':ab}{x y:AV}(h:lS z es H x y)(d : ∀r,x.at?=some r->H'.get r=H.get r):lS z es H' x y:=by
 rcases h with h | ⟨r',c,fz,rfl,a,rfl,b⟩
 ·exact .inl h
 exact .inr ⟨r',c,fz,rfl,by rw[d r' rfl,a],rfl,b⟩
def Hm{H:ab}(a:Fr H){q:Ref}(h:(H.get q).isSome=true)(d t k:Nat):((⟨d,t,H.gen d t+1,k⟩:Ref)=q)=False:=
 eq_false λe=>by subst e;rw[a _ _ _ _ (A9 _)]at h;cases h
def Hn{H:ab}(a:Fr H){q:Ref}(h:(H.get q).isSome=true)(d t k:Nat):(q=(⟨d,t,H.gen d t+1,k⟩:Ref))=False:=
 eq_false λe=>by subst e;rw[a _ _ _ _ (A9 _)]at h;cases h
def Jx{H:ab}(a:Fr H)(d t k:Nat):H.get ⟨d,t,H.gen d t+1,k⟩=none:=a _ _ _ _ (A9 _)
def Kc{H:ab}(c:Fr H){d t g:Nat}(k:Nat)(m:g=H.gen d t\/g+1=H.gen d t)(b:Option aP):Fr ((⟨d,t,g,k⟩,b) :: H):=by
 intro j t' l k' h;rw[ab.AE]at h;rw[ab.aZ];by_cases a:d=j/\t=t';·obtain⟨rfl,rfl⟩:=a;rw[if_pos ⟨rfl,rfl⟩]at h;rw[if_neg (by intro e;injection e;omega)];exact c _ _ _ _ (by omega)
 rw[if_neg a]at h;rw[if_neg (by intro e;injection e with i f;exact a ⟨i,f⟩)];exact c _ _ _ _ h
def M8(by':Nat)(es:List AV)(k:Nat)(new:Option (List AV)):Prop:=match new with
 | some new=>new=[]\/(k<es.length+new.length/\(es.length+new.length) * by'<=aY)
 | none=>False
def ah(by':Nat)(es:List AV)(k:Nat)(new:List AV):M8 by' es k (some new)=(new=[]\/(k<es.length+new.length/\(es.length+new.length) * by'<=aY)):=id rfl
def Xe(z:Nat)(H:ab)(r:Ref)(es:List AV)(k:Nat)(new:Option (List AV)):bU:=match new with
 | some []=>some (.cC z es (some k),H)
 | some new=>some (.bO r 0 (es.length+new.length) none,({ r with k:=0},some ⟨z,es++new,true,false⟩) :: H)
 | none=>none
@[simp] def RG(z:Nat)(H:ab)(r:Ref)(es:List AV)(k:Nat):Xe z H r es k (some [])=some (.cC z es (some k),H):=id rfl
def bG(z:Nat)(H:ab)(r:Ref)(es:List AV)(k:Nat)(new:List AV)(a:new≠[]):Xe z H r es k (some new)=some (.bO r 0 (es.length+new.length) none,({ r with k:=0},some ⟨z,es++new,true,false⟩) :: H):=by
 cases new with| nil=>exact(a rfl).elim| cons _ _=>rfl
def ba{P:Program}{t t':TypeId}(m:qF P t=true)(b:E1 P t'=true)(D:Bool)(H:ab)(r:Ref)(z k:Nat)(es:List AV)(x:AV)(u:z=lO P t)(g:M8 (tv P t) es k (kg (lO P t) H.get x)) :
 dK P D H r (some t) (some t') (.cC z es (some k)) x=Xe z H r es k (kg (lO P t) H.get x):=by
 subst u;cases i:kg (lO P t) H.get x with
 | none=>rw[i]at g;exact g.elim
 | some new=>
  rw[i]at g;have c:=pV i;unfold qF at m;obtain⟨e,zz,l,s,n,o,F,I,y,E⟩:=fx m;have a:=c.lN m l;unfold E1 at b;simp only[bD,jH]at b;have j:(P.underlying t').isNone=false:=by cases h:P.underlying t' with | none=>rw[h]at b;simp at b | some d=>rfl
  have p : ¬((P.underlying t').isNone=true\/isInt P t'≠isNum x):=by rw[j,b.2,c.num];simp
  have q : ¬(lO P t≠lO P t\/lO P t=0\/tv P t=0\/zz.cells.length≠lO P t):=(by simp[F,y,E]);by_cases f:new=[];·subst f;rw[RG];simp only[dK,dY,cR,l,Option.map_some,dP,if_neg p,s,n,o,a,if_neg q,if_neg (show ¬(lO P t≠lO P t) by simp),if_true];rfl
  obtain⟨G,v⟩:=g.resolve_left f;rw[bG _ _ _ _ _ _ f];simp only[dK,dY,cR,l,Option.map_some,dP,if_neg p,s,n,o,a,if_neg q,if_neg (show ¬(lO P t≠lO P t) by simp),if_neg f,if_pos (show k<es.length+new.length/\(es.length+new.length) * tv P t<=aY from⟨G,v⟩)];rfl
@[simp] def YP(n:Nat)(h:n<9223372036854775808):IntKind.i64.wrap (no_index (OfNat.ofNat n):Int)=OfNat.ofNat n:=by
 show IntKind.i64.wrap (n:Int)=n;exact iQa _ (by omega)
@[simp] def abd(len:Nat)(cap:Option Nat)(lo hi:Option Int):bounds len cap lo hi none=if 0<=lo.getD 0/\lo.getD 0<=hi.getD len/\hi.getD len<=len then some ((lo.getD 0).toNat,(hi.getD len).toNat,cap.map (· - (lo.getD 0).toNat)) else none:=id rfl
@[simp] def abc(len:Nat)(cap:Option Nat)(lo:Option Int)(h m:Int):bounds len cap lo (some h) (some m)=if 0<=lo.getD 0/\lo.getD 0<=h/\h<=m/\m<=cap.getD len/\h<=len then some ((lo.getD 0).toNat,h.toNat,some (m.toNat - (lo.getD 0).toNat)) else none:=id rfl
@[simp] def ZQ(k:Nat):min k IntKind.i64.bits=min k 64:=id rfl
def Vh(o:Option AV)(j n:Nat)(a:Bool):Option AV:=match o with
 | none=>none
 | some e=>if a then (if j+n<=e.cells.length/\0<n then some (.agg ((e.cells.drop j).take n)) else none) else e.cells[j]?
@[simp] def Wv(e:AV)(j n:Nat)(a:Bool):Vh (some e) j n a=if a then (if j+n<=e.cells.length/\0<n then some (.agg ((e.cells.drop j).take n)) else none) else e.cells[j]?:=id rfl
@[simp] def Yg(a b:AV)(es:List AV)(i j n:Nat)(c:Bool):dQ (a :: b :: es) i j n c=Vh (a :: b :: es)[i]? j n c:=by
 unfold dQ;cases(a :: b :: es)[i]?<;>rfl
@[simp] def abh(l:List (AV × AV))(st bs:List AV)(H:ab):vN l st bs H↔(l.all λp=>lu p.1 p.2)=true/\st.all (DU H)=true/\bs.all bsV=true:=Iff.rfl
@[simp] def Ye(r:Ref)(i j:Nat)(r':Ref)(b a:Nat):lu (.ptr r i j) (.ptr r' b a) = !decide (r=r'):=by
 unfold lu;simp[iC]
@[simp] def Yf(r:Ref)(i j:Nat)(r':Ref)(o n:Nat)(c:Option Nat):lu (.bO r' o n c) (.ptr r i j) = !decide (r'=r):=by
 unfold lu;simp[iC]
def KI(o:Option aP):Bool:=match o with
 | some b => !b.arr
 | none=>false
@[simp] def Vc(b:aP):KI (some b) = !b.arr:=id rfl
@[simp] def ZP(H:ab)(r:Ref)(i j:Nat):DU H (.ptr r i j)=KI (H.get r):=by
 cases h:H.get r<;>simp[DU,KI,h]
def be:Nat->Int->List UInt8
 | 0,_=>[]
 | k+1,n=>be k (n / 256)++[u8 n]
def zT(a:Int)(l:List UInt8):Int:=l.foldl (λa b=>256 * a+(b.toNat:Int)) a
def val(l:List UInt8):Int:=zT 0 l
@[simp] def EY(k:Nat) : ∀n,(be k n).length=k:=by
 induction k with| zero=>intro n;rfl| succ k a=>intro n;simp[be,a]
@[simp] def acL(n:Int):be 0 n=[]:=id rfl
def NQ(a:Int)(l:List UInt8)(b:UInt8):zT a (l++[b])=256 * zT a l+b.toNat:=by
 unfold zT;rw[List.foldl_append];rfl
def zS(l:List UInt8)(b:UInt8):val (l++[b])=256 * val l+b.toNat:=NQ 0 l b
@[simp] def abo:val []=0:=id rfl
def DO(n:Int):((u8 n).toNat:Int)=n % 256:=by rw[oy];omega
def S3(k:Nat) : ∀n:Int,0<=n->n<256 ^ k->val (be k n)=n:=by
 induction k with
 | zero=>
  intro n c a;simp only[Int.pow_zero]at a;have:n=0:=by omega
  subst this;rfl
 | succ k b=>intro n c a;rw[be,zS,b (n / 256) (by omega) (by rw[Ba]at a;omega),DO];omega
def Bp{k:Nat}{n:Int}(b:0<=n)(a:n<256 ^ k):val (be k n)=n:=S3 k n b a
def ku(l:List UInt8):0<=val l/\val l<256 ^ l.length:=by
 induction h:l.length generalizing l with| zero=>have:l=[]:=wc.1 h;subst this;simp| succ k c=>
  have a:l≠[]:=by rintro rfl;simp at h
  rw[<-PG a];generalize l.getLast a=b;have d:l.dropLast.length=k:=by simp[h]
  have e:=c l.dropLast d;rw[zS,Ba];have:=b.toNat_lt;omega
def XK(l:List UInt8):be l.length (val l)=l:=by
 induction h:l.length generalizing l with| zero=>have:l=[]:=wc.1 h;subst this;rfl| succ k d=>
  have a:l≠[]:=by rintro rfl;simp at h
  have i:l.dropLast.length=k:=(by simp[h]);have c:=PG a;generalize l.getLast a=b at c;have e:=d l.dropLast i;rw[<-c,zS,be];have j:=b.toNat_lt;have f:(256 * val l.dropLast+(b.toNat:Int)) / 256=val l.dropLast:=by omega
  have g:u8 (256 * val l.dropLast+(b.toNat:Int))=b:=(by apply pr.1;rw[oy];omega);rw[f,g,e]
def AM{l:List UInt8}{k:Nat}(h:l.length=k):be k (val l)=l:=by subst h;exact XK l
def C0(k:Nat) : ∀n:Int,be (k+1) n=u8 (n / 256 ^ k) :: be k n:=by
 induction k with| zero=>intro n;simp[be]| succ k a=>intro n;rw[be,a,be];rw[Int.ediv_ediv_of_nonneg (by omega),Ba,Int.mul_comm (256 ^ k)];simp
def WT(a b:Int):Int:=IntKind.i64.wrap ((BitVec.ofInt 64 a ||| BitVec.ofInt 64 b).toNat:Int)
@[simp] def ab4(P:Program)(t:TypeId)(xo c:Operand)(a b:Int):bE P .or t xo c (some (.v (.int .i64 a))) (some (.v (.int .i64 b)))=some (.v (.int .i64 (WT a b)),[]):=by
 have h:sN P .or t xo c (.int .i64 a) (.int .i64 b)=some (.int .i64 (WT a b)):=rfl;simp only[bE,CJ,jT,ir,h,tO,vY,hU,iQf,cR,fS,scalar,if_true,ik,Option.map_some]
def Hh{a b:Int}{k:Nat}(p:0<=a)(f:a * 2 ^ k<9223372036854775808)(l:0<=b)(j:b<2 ^ k)(g:k<63):WT (a * 2 ^ k) b=a * 2 ^ k+b:=by
 obtain⟨m,rfl⟩:=Dt p;obtain⟨n,rfl⟩:=Dt l;have d:n<2 ^ k:=by exact_mod_cast j
 have c:m * 2 ^ k<2 ^ 63:=by
  have e:((m * 2 ^ k:Nat):Int)<9223372036854775808:=by rw[Int.natCast_mul,Gx];exact f
  omega
 have s:n<2 ^ 63:=Nat.lt_trans d (Nat.pow_lt_pow_right (by decide) g);have e:(BitVec.ofInt 64 ((m:Int) * 2 ^ k) ||| BitVec.ofInt 64 (n:Int)).toNat=m * 2 ^ k+n:=by
  rw[BitVec.toNat_or];rw[show((m:Int) * 2 ^ k)=((m * 2 ^ k:Nat):Int) by rw[Int.natCast_mul,Gx];rfl];rw[iQL,iQL,BitVec.toNat_ofNat,BitVec.toNat_ofNat,GC (by omega),GC (by omega)];rw[Gt,PF d]
 unfold WT;rw[e];have q:m * 2 ^ k+n<2 ^ 63:=by
  have h:m * 2 ^ k+n<(m+1) * 2 ^ k:=by rw[Dh];omega
  have o:m+1<=2 ^ (63 - k):=by
   have i:2 ^ 63=2 ^ (63 - k) * 2 ^ k:=by rw[<-Nat.pow_add];congr 1;omega
   rw[i]at c;exact Nat.lt_of_mul_lt_mul_right c
  calc m * 2 ^ k+n<(m+1) * 2 ^ k:=h
   _<=2 ^ (63 - k) * 2 ^ k:=kr _ o
   _=2 ^ 63:=by rw[<-Nat.pow_add];congr 1;omega
 rw[iQa _ (by omega)];push_cast;rfl
def MQ{n:Int}(c:0<=n)(d:n<36028797018963968)(b:UInt8):WT (n * 256) (b.toNat:Int)=256 * n+b.toNat:=by
 have:=b.toNat_lt;have e:=Hh (a:=n) (b:=b.toNat) (k:=8) c (by omega) (by omega) (by omega) (by omega);rw[show(2:Int) ^ 8=256 from rfl]at e;rw[e];omega
@[simp] def XL(k:Nat)(n:Int):be k n=[]↔k=0:=by
 rw[<-wc,EY]
def BA{k:Nat}(m:Nat)(h:k<=m):(256:Int) ^ k<=256 ^ m:=by
 have:=Nat.pow_le_pow_right (n:=256) (by decide) h;have e:((256 ^ k:Nat):Int)<=((256 ^ m:Nat):Int):=by exact_mod_cast this
 rwa [Gx,Gx]at e
def wP(n:Int):be 4 n=[u8 (n / 16777216),u8 (n / 65536),u8 (n / 256),u8 n]:=by
 simp[C0]
def LZ(n:Int):be 7 n=[u8 (n / 281474976710656),u8 (n / 1099511627776),u8 (n / 4294967296),u8 (n / 16777216),u8 (n / 65536),u8 (n / 256),u8 n]:=by
 simp[C0]
def fv(n:Int)(k:Nat):n.fdiv (no_index (OfNat.ofNat k))=n / OfNat.ofNat k:=GQ _ (Int.natCast_nonneg k)
def jx(n:Int):u8 (n % 256)=u8 n:=by
 apply pr.1;rw[oy,oy];omega
def oR(z:Nat):List AV->AV
 | []=>a9
 | es => .cC z es none
def qf(z:Nat){es:List AV}(h:es≠[]):oR z es = .cC z es none:=by
 cases es with| nil=>exact(h rfl).elim| cons _ _=>rfl
def Ag(z:Nat)(es:List AV):Sl z es (oR z es):=by
 cases es with| nil=>exact .inl ⟨rfl,rfl⟩| cons a l=>exact .inr ⟨none,rfl,by simp⟩
def Sl.mkC{z:Nat}{es:List AV}{c:Option Nat}(h:es.length<=c.getD es.length):Sl z es (.cC z es c) := .inr ⟨c,rfl,h⟩
def HJ{c:Option Nat}{n a m:Nat}(h:n<=c.getD n)(b:a+m<=n):m<=(c.map (· - a)).getD m:=by
 cases c with| none=>exact aV _| some c=>simp only[dP,Option.map_some]at h ⊢;omega
def S5(es:List AV):List UInt8:=es.map λx=>(byteOf x).getD 0
def isB(x:AV):Bool:=(byteOf x).isSome
def SS(x:AV):Bool:=match x with
 | .cC .. | .bO .. => true
 | .v (.slice none 0 0)=>true
 | _=>false
@[simp] def abr:S5 []=[]:=id rfl
@[simp] def aa6(x:UInt8):byteOf (a8 x)=some x:=by
 show some (UInt8.ofNat ((x.toNat:Int)).toNat)=_;simp
@[simp] def Zh(x:UInt8)(es:List AV):S5 (a8 x :: es)=x :: S5 es:=by simp[S5]
@[simp] def S4(l:List UInt8):S5 (List.map a8 l)=l:=by
 induction l with| nil=>rfl| cons b l a=>simp[a]
@[simp] def abt(l:List UInt8):S5 (aQ l)=l:=S4 l
@[simp] def ads(x:UInt8):isB (a8 x)=true:=by simp[isB]
@[simp] def acM(l:List UInt8):(aQ l).all isB=true:=by simp[aQ]
@[simp] def acI(z:Nat)(es:List AV)(c:Option Nat):SS (.cC z es c)=true:=id rfl
@[simp] def acG(r:Ref)(o n:Nat)(c:Option Nat):SS (.bO r o n c)=true:=id rfl
@[simp] def acH:SS a9=true:=id rfl
def Sl.SS{z:Nat}{es:List AV}{x:AV}(h:Sl z es x):Ab.SS x=true:=by
 rcases h with ⟨rfl,_⟩ | ⟨c,rfl,_⟩<;>rfl
def Own.SS{z:Nat}{es:List AV}{H:ab}{x:AV}(h:Own z es H x):Ab.SS x=true:=by
 rcases h with ⟨rfl,_⟩ | ⟨c,rfl,_⟩<;>rfl
def PR{es:List AV}(h:es.all isB=true):es.mapM byteOf=some (S5 es):=by
 induction es with| nil=>rfl| cons x es c=>rw[uU,bD]at h;obtain⟨b,a⟩:=fP.1 h.1;rw[Co,c h.2,a];simp[S5,a]
@[simp] def WG{P:Program}{src dst:TypeId}(d:cM P src=true)(f:isStr P dst=true)(g:cb)(r:Ref)(x:AV)(k:(kg 1 g x).isSome=true)(h:((kg 1 g x).getD []).all isB=true)(i:SS x=true) :
 bM P g r src dst (some x)=some (sB (S5 ((kg 1 g x).getD [])),[]):=by
 obtain⟨es,he⟩:=fP.1 k;rw[he,dP]at h ⊢;have j:=PR h;have e:=pV he;rcases e with ⟨rfl,rfl⟩ | ⟨_,_,e⟩
 ·simp only[bM,d,f,sV,if_true];rfl
 cases x with
 | v x=>
  cases x with| slice a b c=>simp[cr]at e| _=>simp[Ab.SS]at i
 | cC _ _ _=>simp only[bM,d,f,sV,if_true,e,j,Option.map_some];rfl
 | bO _ _ _ _=>simp only[bM,d,f,sV,if_true,e,j,Option.map_some];rfl
 | _=>simp[Ab.SS]at i
def WR(z:Nat)(b:Option aP)(q:gu):gu:=match b with
 | some b=>if z=b.esz then q else none
 | none=>none
@[simp] def YD(z:Nat)(b:aP)(q:gu):WR z (some b) q=if z=b.esz then q else none:=id rfl
@[simp] def WA{P:Program}{t:TypeId}(h:qF P t=true)(g:cb)(r:Ref)(o n:Nat)(c:Option Nat)(lo hi a:Option Int) :
 dm P g t (some (.bO r o n c)) (some lo) (some hi) (some a)=WR (lO P t) (g r) ((bounds n c lo hi a).map λp=>(.bO r (o+p.1) (p.2.1 - p.1) p.2.2,[])):=by
 unfold qF at h;obtain⟨e,zz,f,i,l,m,s,j,k,q⟩:=fx h;have d:(de P t).bind (av P)=some (lO P t):=by rw[f];exact i
 unfold dm;dsimp only;rw[d];cases g r with
 | none=>rfl
 | some b=>simp[WR]
@[simp] def XI(l:List UInt8):aQ l=[]↔l=[]:=by simp[aQ]
set_option linter.defProp false
def rE:=And.intro @ab.get_put (And.intro @lF (And.intro @Kc (And.intro @Fr.nil (And.intro @kb (And.intro @dR (And.intro @dS (And.intro @Hm (And.intro @Hn (And.intro @CX (And.intro @Jx (@xD)))))))))))
def SJ:=And.intro @lF (And.intro @Kc (And.intro @Fr.nil (And.intro @kb (And.intro @dR (And.intro @dS (And.intro @Hm (And.intro @Hn (And.intro @CX (And.intro @Jx (@xD))))))))))
def ak:=And.intro @dR (And.intro @dS (And.intro @Hm (And.intro @Hn (@xD))))
end Go.Ab
