/-
  The arguments of a law: from what is read before the call to data. No statement of a seat is proved here.
  The shapes of the arguments' data, type by type. No statement of a seat is proved here.
  '==' of structs and arrays of bools, numbers and strings: cell by cell. No statement of a seat is proved here.
  More rules for the conditions: slices, strings, calls that answer slices, small slices. No statement of a seat is proved here.
  Boxes, fields, structs in the conditions; branches as ifs; calls as rules. No statement of a seat is proved here.
  Rules that let a simplifier go through calls, boxes and own slices by itself. No statement of a seat is proved here.
  Rules for a simplifier, on: what a call hands out as the caller's own, and what is behind a call. No statement of a seat is proved here.
  Rules for a simplifier, on: appends to data, bytes. No statement of a seat is proved here.
  More rules for the simplifier. No statement of a seat is proved here.
  Numbers as bytes, the highest first. No statement of a seat is proved here.
-/
import Derived.ChangeKeysEq
import Derived.Laws.Strings
import Derived.Test.YtdbiffjdomokfaaGreatAbsCond
set_option linter.unusedVariables false
set_option linter.unusedSimpArgs false
set_option linter.unusedSectionVars false
set_option linter.unnecessarySimpa false
namespace Go.Ab
open Go.ChangeShapes Go.WideShapes Go.RowKit
def L7(a:Bool)(xs:List AV):AV:=match a,xs with
 | false,[x]=>x
 | _,xs => .agg xs
def Ni(S:List AV->Prop):Nat->List AV->Prop
 | 0,xs=>xs=[]
 | k+1,xs =>∃a b,xs=a++b/\S a/\Ni S k b
def Vq(S:TypeId->List AV->Prop):List Field->List AV->Prop
 | [],xs=>xs=[]
 | f :: c,xs =>∃a b,xs=a++b/\S f.type a/\Vq S c b
def B1(P:Program):Nat->TypeId->List AV->Prop
 | 0,_,_=>False
 | n+1,t,xs=>match P.underlying t with
  | some .bool =>∃b,xs=[aB b]
  | some (.int k) =>∃i,(k.min<=i/\i<=k.max)/\xs=[.v (.int k i)]
  | some .string =>∃s:ByteArray,xs=[aS s]
  | some (.slice e)=>xs=[bZ] \/∃es:List (List AV),xs=[.cG (P.cellsOf e) (es.map (L7 ((dB P e).getD false))) none] /\∀x∈es,B1 P n e x
  | some (.struct a)=>Vq (B1 P n) a.toList xs
  | some (.array k e)=>Ni (B1 P n e) k xs
  | _=>False
def layout(P:Program):List Field->Nat->Option Nat
 | [],o=>some o
 | f :: a,o=>if f.offset=o then layout P a (o+P.cellsOf f.type) else none
def plain(P:Program):Nat->TypeId->Bool
 | 0,_=>false
 | n+1,t=>match P.underlying t with
  | some .bool | some (.int _) | some .string=>P.cellsOf t == 1
  | some (.slice e)=>P.cellsOf t == 1&&plain P n e&&decide (0<P.cellsOf e)
  | some (.struct a)=>a.toList.all (λf=>plain P n f.type)&&layout P a.toList 0 == some (P.cellsOf t)
  | some (.array k e)=>plain P n e&&P.cellsOf t == k * P.cellsOf e
  | _=>false
theorem B1.facts{P:Program} : ∀(n:Nat)(t:TypeId)(xs:List AV),plain P n t=true->B1 P n t xs->xs.length=P.cellsOf t /\∀x∈xs,x.one=true:=by
 intro n
 induction n with
 | zero=>intro t xs h;simp[plain]at h
 | succ n C=>
  intro t xs hp c
  unfold plain at hp
  unfold B1 at c
  cases hu:P.underlying t with
  | none=>rw[hu]at c;exact c.elim
  | some d=>
   rw[hu]at hp c
   cases d<;>dsimp only at hp c<;>try (exact c.elim)
   ·obtain⟨b,rfl⟩:=c
    simp at hp;exact⟨by simp[hp],by simp[AV.one]⟩
   ·obtain⟨i,_,rfl⟩:=c
    simp at hp;exact⟨by simp[hp],by simp[AV.one]⟩
   ·obtain⟨s,rfl⟩:=c
    simp at hp;exact⟨by simp[hp],by simp[AV.one]⟩
   ·rename_i e
    simp only[aZ,beq_iff_eq]at hp
    rw[hp.1.1]
    rcases c with rfl | ⟨es,rfl,_⟩
    ·simp[AV.one]
    ·simp[AV.one]
   ·rename_i k e
    simp only[aZ,beq_iff_eq]at hp
    rw[hp.2]
    have : ∀(k:Nat)(xs:List AV),Ni (B1 P n e) k xs->xs.length=k * P.cellsOf e /\∀x∈xs,x.one=true:=by
     intro k
     induction k with
     | zero=>intro xs h;simp only[Ni]at h;subst h;simp
     | succ k v=>
      intro xs h
      obtain⟨a,b,rfl,u,q⟩:=h
      obtain⟨j,p⟩:=C e a hp.1 u
      obtain⟨z,y⟩:=v b q
      refine⟨by rw[oN,j,z,Jl];omega,λx B=>?_⟩
      rcases nM.1 B with h | h
      ·exact p x h
      ·exact y x h
    exact this k xs c
   ·rename_i E
    simp only[aZ,beq_iff_eq,fZ]at hp
    have : ∀(l:List Field)(o:Nat)(xs:List AV),(∀f∈l,plain P n f.type=true)->Vq (B1 P n) l xs->(∀m,layout P l o=some m->o+xs.length=m) /\∀x∈xs,x.one=true:=by
     intro l
     induction l with
     | nil=>intro o xs _ h;simp only[Vq]at h;subst h;exact⟨λm g=>by simp[layout]at g;simp[g],by simp⟩
     | cons f l A=>
      intro o xs D h
      obtain⟨a,b,rfl,u,q⟩:=h
      obtain⟨j,p⟩:=C f.type a (D f (gG ..)) u
      obtain⟨z,y⟩:=A (o+P.cellsOf f.type) b (λf F=>D f (fW _ F)) q
      refine⟨λm g=>?_,λx B=>?_⟩
      ·unfold layout at g
       split at g
       ·have:=z m g;rw[oN,j];omega
       ·cases g
      ·rcases nM.1 B with h | h
       ·exact p x h
       ·exact y x h
    obtain⟨j,p⟩:=this E.toList 0 xs hp.1 c
    exact⟨by have:=j _ hp.2;omega,p⟩
theorem OJ{a:Bool}{xs:List AV}(b : ∀x∈xs,x.one=true):(L7 a xs).cells=xs:=by
 unfold L7
 split
 ·rename_i x
  have:=b x (by simp)
  cases x<;>first | rfl | (simp[AV.one]at this)
 ·rfl
section
variable{H:Type}{enc:TypeId × Value->H}{P:Program}{w:World}{base:Nat}{spare:Nat->Bool}{held:Bool}
abbrev uX(w:World):Mem:=λb o=>w.cell? ⟨b,o,none⟩
theorem OG : ∀(n m:Nat)(t:TypeId)(cs:List Value)(d:DataW H)(ps:List MemPlace),plain P m t=true->DataW.trod enc P w base spare held n t cs=some (d,ps) ->
 ∃xs:List AV,B1 P m t xs/\lR (uX w) ei xs cs:=by
 intro n
 induction n with
 | zero=>intro m t cs d ps _ h;simp[DataW.trod]at h
 | succ n ih=>
  intro m t cs d ps hp h
  cases m with
  | zero=>simp[plain]at hp
  | succ m=>
  have hp0:=hp
  unfold plain at hp
  unfold B1
  cases hu:P.underlying t with
  | none=>rw[hu]at hp;simp at hp
  | some dd=>
   rw[hu]at hp
   unfold DataW.trod at h
   rw[hu]at h
   have g : ∀ {x:AV} {c:Value},VR (uX w) ei x c->lR (uX w) ei [x] [c]:=λh=>lR.cons h lR.nil
   cases dd<;>dsimp only at hp ⊢ <;> try (simp at hp;done)
   ·
    rcases cs with _ | ⟨c,_ | ⟨c',cs⟩⟩
    ·simp at h
    ·cases c<;>first | (simp at h;done) | skip
     rename_i b
     exact⟨[aB b],⟨b,rfl⟩,g (.v rfl)⟩
    ·simp at h
   ·
    rename_i k
    rcases cs with _ | ⟨c,_ | ⟨c',cs⟩⟩
    ·simp at h
    ·cases c<;>first | (simp at h;done) | skip
     rename_i k' i
     dsimp only at h
     split at h
     ·rename_i hk
      obtain⟨rfl,hw⟩:=hk
      exact⟨[.v (.int k' i)],⟨i,by simpa [Lit.wf] using hw,rfl⟩,g (.v rfl)⟩
     ·cases h
    ·simp at h
   ·
    rcases cs with _ | ⟨c,_ | ⟨c',cs⟩⟩
    ·simp at h
    ·cases c<;>first | (simp at h;done) | skip
     rename_i s
     exact⟨[aS s],⟨s,rfl⟩,g (.v rfl)⟩
    ·simp at h
   ·
    rename_i e
    simp only[aZ,beq_iff_eq,decide_eq_true_eq]at hp
    rcases cs with _ | ⟨c,_ | ⟨c',cs⟩⟩
    ·simp at h
    ·cases c<;>first | (simp at h;done) | skip
     rename_i a len cap
     cases a with
     | none=>
      have hlc:len=0/\cap=0:=by
       cases len<;>cases cap<;>simp at h ⊢
      obtain⟨rfl,rfl⟩:=hlc
      exact⟨[bZ],.inl rfl,g (.v rfl)⟩
     | some a=>
      dsimp only at h
      split at h
      ·rename_i hb
       simp only[gE,bO]at h
       obtain⟨elems,hel,_⟩:=h
       have hlen:elems.length=len:=by simpa using jM hel
       have each : ∀i,i<len ->∃(xs:List AV) (q:List Value),B1 P m e xs/\lR (uX w) ei xs q/\w.cells? base (a.add (i * P.cellsOf e)) (P.cellsOf e)=some q:=by
        intro i C
        obtain⟨y,L,F⟩:=jN hel i i (by simp[C])
        simp only[gE]at F
        obtain⟨q,hvs,F⟩:=F
        obtain⟨xs,A,D⟩:=ih m e q y.1 y.2 hp.1.2 F
        exact⟨xs,q,A,D,hvs⟩
       have : ∀k,k<=len ->∃es:List (List AV),es.length=k /\∀i xs,es[i]?=some xs ->∃q:List Value,B1 P m e xs/\lR (uX w) ei xs q/\w.cells? base (a.add (i * P.cellsOf e)) (P.cellsOf e)=some q:=by
        intro k
        induction k with
        | zero=>intro _;exact⟨[],rfl,λi xs h=>by simp at h⟩
        | succ k W=>
         intro hk
         obtain⟨es,A,D⟩:=W (by omega)
         obtain⟨xs,q,X⟩:=each k (by omega)
         refine⟨es++[xs],by simp[A],λi ys L=>?_⟩
         rcases fe i k with C | C
         ·rw[nN (by omega)]at L
          exact D i ys L
         ·have:i=k:=by
           have:=(iG.1 L).1
           simp[A]at this
           omega
          subst this
          rw[o5 (by omega)]at L
          simp[A]at L
          subst L
          exact⟨q,X⟩
       obtain⟨es,hes,B⟩:=this len (bD _)
       have K : ∀xs∈es,(L7 ((dB P e).getD false) xs).cells=xs/\xs.length=P.cellsOf e:=by
        intro xs p
        obtain⟨i,C,rfl⟩:=qK p
        obtain⟨q,A,D,X⟩:=B i es[i] (eC C)
        obtain⟨R,Z⟩:=A.facts m e _ hp.1.2
        exact⟨OJ Z,R⟩
       refine⟨[.cG (P.cellsOf e) (es.map (L7 ((dB P e).getD false))) none],.inr ⟨es,rfl,λxs p=>?_⟩,g ?_⟩
       ·obtain⟨i,C,rfl⟩:=qK p
        obtain⟨q,A,_⟩:=B i es[i] (eC C)
        exact A
       ·have S:(es.map (L7 ((dB P e).getD false))).length=len:=by simp[hes]
        have E : ∀i j,i<len->j<P.cellsOf e ->∃xs q,es[i]?=some xs/\lR (uX w) ei xs q/\(∀x∈xs,x.one=true)/\xs.length=P.cellsOf e/\uX w a.block (a.off+(i * P.cellsOf e+j))=q[j]?/\(a.spot=none):=by
         intro i j C Q
         have hi':i<es.length:=by omega
         obtain⟨q,A,D,X⟩:=B i es[i] (eC hi')
         obtain⟨R,Z⟩:=A.facts m e _ hp.1.2
         obtain⟨hb',hvl,hc⟩:=World.cells?_some X
         have hj':=hc j Q
         have hsp:a.spot=none:=by
          obtain⟨vs0,g1,g2,g3⟩:=B 0 es[0] (eC (by omega))
          obtain⟨_,hvl0,hc0⟩:=World.cells?_some g3
          have:=hc0 0 hp.2
          rw[Nat.zero_mul]at this
          have ha0:(a.add 0).add 0=a:=by simp[Addr.add]
          rw[ha0]at this
          unfold World.cell? at this
          cases hs:a.spot with
          | none=>rfl
          | some z=>
           exfalso
           have hl0:0<vs0.length:=by omega
           rw[eC hl0]at this
           split at this
           ·rw[hs]at this;simp at this
           ·simp at this
         refine⟨es[i],q,eC hi',D,Z,R,?_,hsp⟩
         rw[<-hj']
         unfold uX
         congr 1
         rw[lf hsp,iE,iE,Jq]
        have:=VR.cG (M:=uX w) (ι:=ei) (esz:=P.cellsOf e) (es:=es.map (L7 ((dB P e).getD false))) (cap:=none) (a:=a) (c:=cap)
         (λi j=>(uX w a.block (a.off+(i * P.cellsOf e+j))).getD Go.undef) ?_ (by rw[S];exact hb.2.1) (λk hk=>by cases hk) ?_ ?_ ?_
        ·rw[S]at this;exact this
        ·rcases Il len with h0 | h0
         ·right
          have:es=[]:=by apply Cb;omega
          simp[this]
         ·left
          obtain⟨_,_,_,_,_,_,_,hs⟩:=E 0 0 h0 hp.2
          exact hs
        ·intro i j C Q
         rw[S]at C
         obtain⟨xs,q,A,D,X,R,Z,_⟩:=E i j C Q
         have G:j<q.length:=by rw[<-D.1,R];exact Q
         have hjx:j<xs.length:=by rw[R];exact Q
         rw[Z,eC G]
         refine⟨rfl,?_⟩
         have:=D.2 j xs[j] q[j] (eC hjx) (eC G)
         exact this.one (X _ (lM ..))
        ·intro x hx
         obtain⟨xs,p,rfl⟩:=r8.1 hx
         rw[(K xs p).1]
         exact(K xs p).2
        ·intro i j x c hx hc
         rw[oM,bO]at hx
         obtain⟨xs,p,rfl⟩:=hx
         have O:xs∈es:=fC p
         rw[(K xs O).1]at hc
         have C:i<len:=by have:=(iG.1 p).1;omega
         have Q:j<P.cellsOf e:=by have:=(iG.1 hc).1;rw[(K xs O).2]at this;exact this
         obtain⟨xs',q,A,D,X,R,Z,_⟩:=E i j C Q
         rw[p]at A
         cases A
         have G:j<q.length:=by rw[<-D.1,R];exact Q
         show VR _ _ c ((uX w a.block (a.off+(i * P.cellsOf e+j))).getD Go.undef)
         rw[Z,eC G]
         exact D.2 j c q[j] hc (eC G)
      ·cases h
    ·simp at h
   ·
    rename_i k e
    simp only[aZ,beq_iff_eq]at hp
    have h:cs.length=P.cellsOf t /\∃xs,((List.range k).mapM λi=>DataW.trod enc P w base spare held n e ((cs.drop (i * P.cellsOf e)).take (P.cellsOf e)))=some xs:=by
     dsimp only at h
     split at h
     ·rename_i N
      simp only[bO]at h
      obtain⟨xs,p,_⟩:=h
      exact⟨N,xs,p⟩
     ·cases h
    obtain⟨N,ys,Y⟩:=h
    rw[hp.2]at N
    have : ∀(k' I:Nat),I+k'=k ->∃xs,Ni (B1 P m e) k' xs/\lR (uX w) ei xs (cs.drop (I * P.cellsOf e)):=by
     intro k'
     induction k' with
     | zero=>
      intro I C
      refine⟨[],rfl,?_⟩
      rw[List.drop_of_length_le (by rw[N,<-C];simp)]
      exact lR.nil
     | succ k' W=>
      intro I C
      obtain⟨b,U,V⟩:=W (I+1) (by omega)
      obtain⟨y,_,F⟩:=jN Y I I (by rw[List.getElem?_range (by omega)])
      obtain⟨a,T,J⟩:=ih m e _ y.1 y.2 hp.1 F
      refine⟨a++b,⟨a,b,rfl,T,U⟩,?_⟩
      have:cs.drop (I * P.cellsOf e)=(cs.drop (I * P.cellsOf e)).take (P.cellsOf e)++cs.drop ((I+1) * P.cellsOf e):=by
       rw[Jl,<-Dt,List.take_append_drop]
      rw[this]
      exact J.append V
    obtain⟨xs,A,D⟩:=this k 0 (by omega)
    exact⟨xs,A,by simpa using D⟩
   ·
    rename_i fs
    simp only[aZ,beq_iff_eq,fZ]at hp
    have h:cs.length=P.cellsOf t /\∃xs,(fs.toList.mapM λf=>DataW.trod enc P w base spare held n f.type ((cs.drop f.offset).take (P.cellsOf f.type)))=some xs:=by
     dsimp only at h
     split at h
     ·rename_i N
      simp only[bO]at h
      obtain⟨xs,p,_⟩:=h
      exact⟨N,xs,p⟩
     ·cases h
    obtain⟨N,ys,Y⟩:=h
    have : ∀(l:List Field)(o:Nat),(∀f∈l,plain P m f.type=true)->(∀f∈l,∃y,DataW.trod enc P w base spare held n f.type ((cs.drop f.offset).take (P.cellsOf f.type))=some y)->layout P l o=some cs.length ->
     ∃xs,Vq (B1 P m) l xs/\lR (uX w) ei xs (cs.drop o):=by
     intro l
     induction l with
     | nil=>
      intro o _ _ u
      simp[layout]at u
      refine⟨[],rfl,?_⟩
      rw[List.drop_of_length_le (by omega)]
      exact lR.nil
     | cons f l ihl=>
      intro o hpl htr u
      unfold layout at u
      split at u
      ·rename_i ho
       obtain⟨b,U,V⟩:=ihl (o+P.cellsOf f.type) (λf F=>hpl f (fW _ F)) (λf F=>htr f (fW _ F)) u
       obtain⟨y,F⟩:=htr f (gG ..)
       obtain⟨a,T,J⟩:=ih m f.type _ y.1 y.2 (hpl f (gG ..)) F
       rw[ho]at J
       refine⟨a++b,⟨a,b,rfl,T,U⟩,?_⟩
       have:cs.drop o=(cs.drop o).take (P.cellsOf f.type)++cs.drop (o+P.cellsOf f.type):=by
        rw[<-Dt,List.take_append_drop]
       rw[this]
       exact J.append V
      ·cases u
    obtain⟨xs,A,D⟩:=this fs.toList 0 hp.1 (λf F=>by
     obtain⟨i,C,rfl⟩:=qK F
     obtain⟨y,_,L⟩:=jN Y i fs.toList[i] (eC C)
     exact⟨y,L⟩) (by rw[N];exact hp.2)
    exact⟨xs,A,by simpa using D⟩
def Sh(P:Program)(n:Nat)(t:TypeId)(x:AV):Prop:=
 match dB P t with
 | some true =>∃xs,x = .agg xs/\B1 P n t xs
 | _=>B1 P n t [x]
def Pm(P:Program)(n:Nat):List TypeId->List AV->Prop
 | [],[]=>True
 | t :: a,x :: xs=>Sh P n t x/\Pm P n a xs
 | _,_=>False
theorem OF{m:Nat}{t:TypeId}{v:Value}{d:DataW H}{ps:List MemPlace}(hp:plain P m t=true)(c:Value.okWide P w .any base t v){g:Nat}(h:DataW.Trod enc P w g spare held t v d ps) :
 ∃x:AV,Sh P m t x/\VR (uX w) ei x v:=by
 obtain⟨n,p⟩:=h
 obtain⟨xs,j,k⟩:=OG n m t v.cells.toList d ps hp p
 unfold Sh
 by_cases a:dB P t=some true
 ·rw[a]
  have : ∃cs,v = .agg cs:=by
   unfold dB at a
   unfold Value.okWide at c
   cases hu:P.underlying t with
   | none=>rw[hu]at a;simp at a
   | some i=>rw[hu]at a c;cases i<;>simp at a<;>(obtain⟨cs,rfl,_⟩:=c;exact⟨cs,rfl⟩)
  obtain⟨cs,rfl⟩:=this
  exact⟨.agg xs,⟨xs,rfl,j⟩,VR.rD.2 k⟩
 ·have l:v.cells = #[v] /\∃x,xs=[x]:=by
   have q:=j.facts m t xs hp
   cases m with
   | zero=>simp[plain]at hp
   | succ m=>
   have b:=hp
   unfold plain at b
   unfold dB at a
   unfold Value.okWide at c
   cases hu:P.underlying t with
   | none=>rw[hu]at b;simp at b
   | some i=>
    rw[hu]at b a c
    have f:P.cellsOf t=1->Cell.okWide P w .any base t v->v.cells = #[v] /\∃x,xs=[x]:=by
     intro o e
     refine⟨?_,?_⟩
     ·cases v<;>try rfl
      exfalso
      unfold Cell.okWide at e
      rw[hu]at e
      cases i<;>simp at b a<;>(simp[Cell.ok,hu]at e)
     ·have:=q.1
      rw[o]at this
      match xs,this with
      | [x],_=>exact⟨x,rfl⟩
    cases i<;>simp at b a
    ·exact f b c
    ·exact f b c
    ·exact f b c
    ·exact f b.1.1 c
  obtain⟨l,x,rfl⟩:=l
  rw[l]at k
  refine⟨x,?_,k.2 0 x v rfl rfl⟩
  have:(match dB P t with | some true =>∃xs,x = .agg xs/\B1 P m t xs | _=>B1 P m t [x])=B1 P m t [x]:=by
   split
   ·rename_i u;exact(a u).elim
   ·rfl
  rw[this]
  exact j
theorem Ua{m:Nat}{a:Nat} : ∀ {b:List TypeId} {c:List Value} {ds:List (DataW H)} {ps:List MemPlace},b.all (plain P m)=true->(∀(j:Nat) t v,b[j]?=some t->c[j]?=some v->Value.okWide P w .any base t v) ->
 DataW.TrodAll enc P w a spare held b c ds ps ->∃xs:List AV,Pm P m b xs/\lR (uX w) ei xs c:=by
 intro b
 induction b with
 | nil=>
  intro c ds ps _ _ h
  obtain⟨rfl,_,_⟩:=trodAll_nil h
  exact⟨[],trivial,lR.nil⟩
 | cons t b u=>
  intro c ds ps hp e h
  obtain⟨v,o,d,y,p,q,rfl,rfl,rfl,l,n⟩:=trodAll_cons h
  simp only[zq,aZ]at hp
  obtain⟨x,k,g⟩:=OF hp.1 (e 0 t v rfl rfl) l
  obtain⟨xs,i,f⟩:=u hp.2 (λj t v l n=>e (j+1) t v l n) n
  exact⟨x :: xs,⟨k,i⟩,lR.cons g f⟩
end
theorem Ld{H:Type}{enc:TypeId × Value->H}{P:Program}{w:World}{base:Nat}{spare:Nat->Bool}{held:Bool} : ∀ {a:List TypeId} {b:List Value} {ds:List (DataW H)} {ps:List MemPlace},
 DataW.TrodAll enc P w base spare held a b ds ps->ds.length=a.length:=by
 intro a
 induction a with
 | nil=>intro b ds ps h;obtain⟨_,rfl,_⟩:=trodAll_nil h;rfl
 | cons t a f=>
  intro b ds ps h
  obtain⟨v,e,d,g,p,q,rfl,rfl,rfl,_,c⟩:=trodAll_cons h
  simp[f c]
theorem DH{P:Program}{n:Nat}{t:TypeId}{b:List TypeId}{xs:List AV}(h:Pm P n (t :: b) xs) : ∃x a,xs=x :: a/\Sh P n t x/\Pm P n b a:=by
 cases xs with
 | nil=>exact h.elim
 | cons x xs=>exact⟨x,xs,rfl,h.1,h.2⟩
theorem SX{P:Program}{n:Nat}{xs:List AV}(h:Pm P n [] xs):xs=[]:=by
 cases xs with
 | nil=>rfl
 | cons x xs=>exact h.elim
theorem HS{E:Env}{ok:Array Oper->Bool}(C:E.Ok ok){T:TypeId->Prop}(K:Kids E.P T)(I : ∀t e,T t->E.P.underlying t=some (.slice e)->0<E.P.cellsOf e){H:Type}{enc:TypeId × Value->H}{id:FuncId}{f:Func}{s:ChangeSpec}{apart fresh a c:Bool}{m:Nat}
 (N : ∀t∈f.params.toList,T t) (hp:f.params.toList.all (plain E.P m)=true) (F:s.vars=[]) (A : ∀ds:List (DataW H),ds.length=f.params.toList.length->s.fn H ds = { results:=[.lit (.bool true)],args:=ds}) (i:KD E.P f=true)
 (h : ∀xs,Pm E.P m f.params.toList xs->aF E id xs=some (.v (.bool true)))
 (W:World) (base:Nat) (args:Array Value) (ds M:List (DataW H)) (b:List MemPlace) (g : ∀(j:Nat) t v,f.params[j]?=some t->args[j]?=some v->Value.okWide E.P W .any base t v)
 (x:DataW.Whole enc E.P f.params.toList s.vars apart W args.toList ds M b) :
 Calls E.P id args W λe z =>∃v,e = .returned v/\s.post enc E.P f apart fresh a c W args v z:=by
 obtain⟨Q,i,J⟩:=Pd i
 have l:=x
 obtain⟨p,q,y,O,rfl,D,G⟩:=l
 obtain⟨xs,o,k⟩:=Ua hp (λj t v B L=>g j t v (by simpa using B) (by simpa using L)) y
 obtain⟨n,d⟩:=UG (h xs o)
 have u:ds.length=f.params.toList.length:=Ld y
 refine(Pa C d (us:=args.toList) k).mono λe z ⟨he,hk⟩=>⟨_,he,?_⟩
 exact Rq K I N F x (A ds u) i J hk
end Go.Ab
namespace Go.Ab
def Np{α:Type}(P:Program)(t:TypeId)(ok:α->Prop)(enc:α->List AV):Prop :=∀n xs,B1 P n t xs ->∃a,ok a/\xs=enc a
def isBool(P:Program)(t:TypeId):Bool:=match P.underlying t with | some .bool=>true | _=>false
def gS(P:Program)(t:TypeId):Option (List TypeId):=match P.underlying t with | some (.struct a)=>some (a.toList.map (·.type)) | _=>none
theorem LD{P:Program}{t:TypeId}(h:isBool P t=true):Np P t (λ_=>True) λb:Bool=>[aB b]:=by
 intro n xs a
 cases n with
 | zero=>exact a.elim
 | succ n=>
  unfold isBool at h
  unfold B1 at a
  split at h
  ·rename_i c;rw[c]at a;obtain⟨b,rfl⟩:=a;exact⟨b,trivial,rfl⟩
  ·cases h
theorem E6{P:Program}{t:TypeId}{k:IntKind}(h:intKind P t=some k):Np P t (λi:Int=>k.min<=i/\i<=k.max) λi:Int=>[.v (.int k i)]:=by
 intro n xs a
 cases n with
 | zero=>exact a.elim
 | succ n=>
  unfold B1 at a
  rw[CZ h]at a
  obtain⟨i,b,rfl⟩:=a
  exact⟨i,b,rfl⟩
theorem sQ{P:Program}{t:TypeId}(h:intKind P t=some .i64):Np P t (λi:Int => -9223372036854775808<=i/\i<=9223372036854775807) λi:Int=>[aI i]:=λn xs a=>by
 obtain⟨i,b,rfl⟩:=E6 h n xs a;exact⟨i,b,rfl⟩
theorem Wy{P:Program}{t:TypeId}(h:intKind P t=some .i32):Np P t (λi:Int => -2147483648<=i/\i<=2147483647) λi:Int=>[.v (.int .i32 i)]:=λn xs a=>by
 obtain⟨i,b,rfl⟩:=E6 h n xs a;exact⟨i,b,rfl⟩
theorem PL{P:Program}{t:TypeId}(h:intKind P t=some .u8):Np P t (λ_=>True) λb:UInt8=>[a8 b]:=λn xs d=>by
 obtain⟨i,c,rfl⟩:=E6 h n xs d
 refine⟨u8 i,trivial,?_⟩
 have a:(0:Int)<=i:=c.1
 have e:i<=255:=c.2
 unfold a8
 show[AV.v (.int .u8 i)]=[AV.v (.int .u8 ((u8 i).toNat:Int))]
 rw[Is,Nu a (by omega),B9 a]
theorem Zt{P:Program}{t:TypeId}(h:intKind P t=some .u32):Np P t (λ_=>True) λb:UInt32=>[aw b]:=λn xs d=>by
 obtain⟨i,c,rfl⟩:=E6 h n xs d
 refine⟨u32 i,trivial,?_⟩
 have a:(0:Int)<=i:=c.1
 have e:i<=4294967295:=c.2
 unfold aw
 show[AV.v (.int .u32 i)]=[AV.v (.int .u32 ((u32 i).toNat:Int))]
 rw[Ga,Nu a (by omega),B9 a]
theorem W1{α:Type}{ok:α->Prop}{enc:α->List AV} : ∀(es:List (List AV)),(∀x∈es,∃a,ok a/\x=enc a) ->∃l:List α,(∀a∈l,ok a)/\es=l.map enc:=by
 intro es
 induction es with
 | nil=>intro _;exact⟨[],by simp,rfl⟩
 | cons x es d=>
  intro h
  obtain⟨a,e,rfl⟩:=h x (gG ..)
  obtain⟨l,f,rfl⟩:=d λx g=>h x (fW _ g)
  refine⟨a :: l,?_,rfl⟩
  intro b c
  rcases nw.1 c with rfl | c
  ·exact e
  ·exact f b c
theorem QB{P:Program}{t e:TypeId}(h:dN P t=some e):P.underlying t=some (.slice e):=by
 unfold dN at h
 split at h
 ·cases h;assumption
 ·cases h
theorem Cs{α:Type}{P:Program}{t e:TypeId}{z:Nat}{d:Bool}{ok:α->Prop}{enc:α->List AV}(i:dN P t=some e)(c:aJ P e=some z)(f:dB P e=some d)(j:Np P e ok enc){n:Nat}{xs:List AV}(h:B1 P n t xs) :
 ∃(l:List α) (x:AV),(∀a∈l,ok a)/\xs=[x]/\Sl z (l.map λa=>L7 d (enc a)) x:=by
 cases n with
 | zero=>exact h.elim
 | succ n=>
  unfold B1 at h
  rw[QB i]at h
  rcases h with rfl | ⟨es,rfl,b⟩
  ·exact⟨[],bZ,by simp,rfl,.inl ⟨rfl,rfl⟩⟩
  ·obtain⟨l,k,rfl⟩:=W1 es λx m=>j n x (b x m)
   have g:P.cellsOf e=z:=by
    unfold aJ at c
    unfold Program.cellsOf
    rw[c];rfl
   refine⟨l,_,k,rfl,?_⟩
   rw[g,f,Jn]
   exact Sl.mk z _
theorem Sh.cell{P:Program}{n:Nat}{t:TypeId}{x:AV}(a:dB P t=some false)(h:Sh P n t x):B1 P n t [x]:=by
 unfold Sh at h;rw[a]at h;exact h
theorem Sh.agg{P:Program}{n:Nat}{t:TypeId}{x:AV}(a:dB P t=some true)(h:Sh P n t x) : ∃xs,x = .agg xs/\B1 P n t xs:=by
 unfold Sh at h;rw[a]at h;exact h
def afu(S:TypeId->List AV->Prop):List TypeId->List AV->Prop
 | [],xs=>xs=[]
 | t :: c,xs =>∃a b,xs=a++b/\S t a/\afu S c b
theorem lZ{P:Program}{t:TypeId}{d:List TypeId}(c:gS P t=some d){n:Nat}{xs:List AV}(h:B1 P n t xs) : ∃m,afu (B1 P m) d xs:=by
 cases n with
 | zero=>exact h.elim
 | succ n=>
  unfold gS at c
  split at c
  ·rename_i g k
   cases c
   unfold B1 at h
   rw[k]at h
   refine⟨n,?_⟩
   dsimp only at h
   generalize g.toList=l at h
   induction l generalizing xs with
   | nil=>exact h
   | cons f l e=>
    obtain⟨a,b,rfl,j,i⟩:=h
    exact⟨a,b,rfl,j,e i⟩
  ·cases c
def yb(P:Program)(d e c:Nat)(xs ys:Array Value):List Nat->Option Bool
 | []=>some true
 | i :: is=>match bj P (part e xs (i * c)),bj P (part e ys (i * c)) with
  | some a,some b=>(match bj P (Op.equalIn d e a b) with
   | some true=>yb P d e c xs ys is
   | some false=>some false
   | none=>none)
  | _,_=>none
theorem PO{P:Program}{t:TypeId}{z:Nat}(h:aJ P t=some z):bj P (sizeOf t)=some z:=by
 simp only[aJ,bO]at h
 obtain⟨i,a,rfl⟩:=h
 simp only[sizeOf,typeInfo,bK]
 show((some P).bind _).bind _=_
 simp only[fy,a]
 rfl
theorem DO{P:Program}(d:Nat){t e:TypeId}{n c:Nat}(xs ys:Array Value)(g:P.underlying t=some (.array n e))(f:aJ P e=some c) :
 bj P (Op.equalIn (d+1) t (.agg xs) (.agg ys))=yb P d e c xs ys (List.range n):=by
 simp only[Op.equalIn,bK,mD g,fy,PO f]
 simp only[Std.Legacy.Range.forIn_eq_forIn_range',Std.Legacy.Range.size,Nat.sub_zero,Nat.add_one_sub_one,Nat.div_one,NF]
 generalize List.range' 0 n=is
 induction is with
 | nil=>rfl
 | cons j is h=>
  simp only[List.forIn_cons,yb,bK]
  cases i:bj P (part e xs (j * c)) with
  | none=>rfl
  | some a=>
   cases k:bj P (part e ys (j * c)) with
   | none=>rfl
   | some b=>
    simp only[fy]
    cases l:bj P (Op.equalIn d e a b) with
    | none=>rfl
    | some r=>
     cases r
     ·rfl
     ·simp only[fy,zZ,jH,if_false]
      exact h
def ur(P:Program)(d:Nat)(xs ys:Array Value):List Field->Option Bool
 | []=>some true
 | f :: c=>match bj P (part f.type xs f.offset),bj P (part f.type ys f.offset) with
  | some a,some b=>(match bj P (Op.equalIn d f.type a b) with
   | some true=>ur P d xs ys c
   | some false=>some false
   | none=>none)
  | _,_=>none
theorem CI{P:Program}(d:Nat){t:TypeId}{c:Array Field}(xs ys:Array Value)(k:P.underlying t=some (.struct c))(h:P.stoodInHeld t=false)(e : ∀f∈c.toList,(f.name != "_")=true) :
 bj P (Op.equalIn (d+1) t (.agg xs) (.agg ys))=ur P d xs ys c.toList:=by
 have hp:bj P program=some P:=rfl
 simp only[Op.equalIn,bK,mD k,fy,hp,h,jH,if_false]
 simp only[<-Array.forIn_toList]
 generalize c.toList=is at e
 induction is with
 | nil=>rfl
 | cons f is l=>
  have m:f.name ≠ "_" := by simpa using e f (gG ..)
  simp only[List.forIn_cons,ur,bK,m,ne_eq,not_false_eq_true,if_true]
  have j:bj P (pure PUnit.unit:Sem PUnit)=some PUnit.unit:=rfl
  cases n:bj P (part f.type xs f.offset) with
  | none=>rfl
  | some a=>
   cases o:bj P (part f.type ys f.offset) with
   | none=>rfl
   | some b=>
    simp only[fy]
    cases p:bj P (Op.equalIn d f.type a b) with
    | none=>rfl
    | some r=>
     cases r
     ·rfl
     ·simp only[fy,zZ,jH,if_false]
      exact l λg i=>e g (fW _ i)
def BS:List AV->List AV->Option Bool
 | [.v (.bool a)],[.v (.bool b)]=>some (decide (a=b))
 | [.v (.int k a)],[.v (.int k' b)]=>if k=k' then some (decide (a=b)) else none
 | [.v (.string a)],[.v (.string b)]=>some (a == b)
 | _,_=>none
def ca(S:TypeId->List AV->List AV->Option Bool)(P:Program):List TypeId->List AV->List AV->Option Bool
 | [],_,_=>some true
 | t :: c,xs,ys=>match aJ P t with
  | none=>none
  | some z=>match S t (xs.take z) (ys.take z),ca S P c (xs.drop z) (ys.drop z) with
   | some a,some b=>some (a&&b)
   | _,_=>none
def G6(S:List AV->List AV->Option Bool)(z:Nat):Nat->List AV->List AV->Option Bool
 | 0,_,_=>some true
 | k+1,xs,ys=>match S (xs.take z) (ys.take z),G6 S z k (xs.drop z) (ys.drop z) with
  | some a,some b=>some (a&&b)
  | _,_=>none
def om(P:Program)(t:TypeId):Option Nat:=match P.underlying t with
 | some .bool=>some 0
 | some (.int _)=>some 1
 | some .string=>some 2
 | _=>none
def I2:AV->Nat
 | .v (.bool _)=>0
 | .v (.int _ _)=>1
 | .v (.string _)=>2
 | _=>3
def gk(P:Program):Nat->TypeId->List AV->List AV->Option Bool
 | 0,_,_,_=>none
 | n+1,t,xs,ys=>match om P t with
  | some l=>(match xs,ys with
   | [x],[y]=>cond (Nat.beq (I2 x) l) (BS [x] [y]) none
   | _,_=>none)
  | none=>match gS P t with
   | some a=>ca (gk P n) P a xs ys
   | none=>match jI P t with
    | some (k,e)=>(match aJ P e with
     | some z=>G6 (gk P n e) z k xs ys
     | none=>none)
    | none=>none
def EZ(P:Program):Nat->TypeId->Bool
 | 0,_=>false
 | n+1,t=>match P.underlying t with
  | some .bool | some (.int _) | some .string=>dB P t == some false&&aJ P t == some 1
  | some (.struct a)=>a.toList.all (λf=>EZ P n f.type&&f.name != "_")&&layout P a.toList 0 == some (P.cellsOf t) && !P.stoodInHeld t
  | some (.array k e)=>EZ P n e&&P.cellsOf t == k * P.cellsOf e
  | _=>false
def qP(xs:List AV):Option (List Value):=xs.mapM Ir
theorem AN{xs:List AV}{a:List Value}(h:qP xs=some a)(n:Nat):qP (xs.take n)=some (a.take n):=by
 unfold qP at *
 induction xs generalizing a n with
 | nil=>simp at h;subst h;simp
 | cons x xs c=>
  simp only[lX,sW,tM,gE]at h
  obtain⟨v,f,d,b,e⟩:=h
  cases e
  cases n with
  | zero=>simp
  | succ n=>simp only[List.take_succ_cons,lX,f,c b n];rfl
theorem AO{xs:List AV}{b:List Value}(h:qP xs=some b)(n:Nat):qP (xs.drop n)=some (b.drop n):=by
 unfold qP at *
 induction xs generalizing b n with
 | nil=>simp at h;subst h;simp
 | cons x xs c=>
  simp only[lX,sW,tM,gE]at h
  obtain⟨v,f,d,a,e⟩:=h
  cases e
  cases n with
  | zero=>simp only[Jr,lX,f,a];rfl
  | succ n=>simp only[List.drop_succ_cons];exact c a n
def valOf(P:Program)(t:TypeId)(a:List Value):Option Value:=match dB P t with
 | some true=>some (.agg a.toArray)
 | some false=>a.head?
 | none=>none
theorem E8{P:Program}{t:TypeId}{z:Nat}(i:aJ P t=some z){e:List Value}{o:Nat}{v:Value}(a:valOf P t ((e.drop o).take z)=some v)(j:dB P t=some false->z=1):bj P (part t e.toArray o)=some v:=by
 unfold valOf at a
 have c : ∀b,dB P t=some b->bj P (isAgg t)=some b:=by
  intro b g
  simp only[dB,bO]at g
  obtain⟨h,d,rfl⟩:=g
  simp only[isAgg,bK,mD d,fy]
  cases h<;>rfl
 unfold part
 split at a
 ·rename_i f
  cases a
  simp only[bK,c _ f,fy,if_true,PO i]
  show some _=some _
  congr 2
  apply Jt.1
  simp only[NG,NN,JD]
 ·rename_i f
  simp only[bK,c _ f,fy,jH,if_false]
  have:e.toArray[o]?=some v:=by
   rw[j f]at a
   rw[JB]
   cases d:e.drop o with
   | nil=>rw[d]at a;simp at a
   | cons u us=>
    rw[d]at a
    simp at a
    subst a
    have:=congrArg List.head? d
    simpa [List.head?_drop] using this
  rw[this]
  rfl
 ·cases a
theorem U0{P:Program} : ∀(n:Nat)(D:Nat)(t:TypeId)(xs ys:List AV)(us N:List Value)(b:Bool),EZ P n t=true->gk P n t xs ys=some b->qP xs=some us->qP ys=some N->xs.length=P.cellsOf t->ys.length=P.cellsOf t ->
 ∃u v,valOf P t us=some u/\valOf P t N=some v/\bj P (Op.equalIn (D+n) t u v)=some b:=by
 intro n
 induction n with
 | zero=>intro D t xs ys us N b h;simp[EZ]at h
 | succ n ih=>
  intro D t xs ys us N b d h hu hv hlx hly
  unfold EZ at d
  unfold gk at h
  cases F:P.underlying t with
  | none=>rw[F]at d;simp at d
  | some dd=>
   rw[F]at d
   have I : ∀l,om P t=some l->(dB P t == some false&&aJ P t == some 1)=true->(l=0/\dd = .bool\/(l=1 /\∃k,dd = .int k)\/l=2/\dd = .string) ->∃u v,valOf P t us=some u/\valOf P t N=some v/\bj P (Op.equalIn (D+(n+1)) t u v)=some b:=by
    intro l W d Y
    simp only[aZ,beq_iff_eq]at d
    rw[W]at h
    dsimp only at h
    split at h
    ·rename_i x y
     cases X:Nat.beq (I2 x) l with
     | false=>rw[X]at h;cases h
     | true=>
      rw[X]at h
      replace X:=kf X
      have e1 : ∃u,us=[u]/\Ir x=some u:=by
       unfold qP at hu;simp only[lX,FA,sW,tM,gE]at hu
       obtain⟨u,C,ws,J,h3⟩:=hu
       cases J;cases h3;exact⟨u,rfl,C⟩
      have e2 : ∃u,N=[u]/\Ir y=some u:=by
       unfold qP at hv;simp only[lX,FA,sW,tM,gE]at hv
       obtain⟨u,C,ws,J,h3⟩:=hv
       cases J;cases h3;exact⟨u,rfl,C⟩
      obtain⟨u,rfl,q⟩:=e1
      obtain⟨v,rfl,A⟩:=e2
      refine⟨u,v,by simp[valOf,d.1],by simp[valOf,d.1],?_⟩
      rw[show D+(n+1)=(D+n)+1 from rfl]
      simp only[cond_true]at h
      unfold BS at h
      simp only[Op.equalIn,bK,mD F,fy]
      split at h
      ·rename_i a c Q R
       simp only[zt,and_true]at Q R
       subst Q;subst R
       simp[Ir]at q A
       subst q;subst A
       have hl0:l=0:=X.symm
       rcases Y with ⟨_,rfl⟩ | ⟨C,_⟩ | ⟨C,_⟩
       ·rw[<-h];show some (a == c)=_;congr 1
       ·omega
       ·omega
      ·rename_i k a k' c Q R
       simp only[zt,and_true]at Q R
       subst Q;subst R
       simp[Ir]at q A
       subst q;subst A
       have hl0:l=1:=X.symm
       rcases Y with ⟨C,_⟩ | ⟨_,k0,rfl⟩ | ⟨C,_⟩
       ·omega
       ·split at h
        ·rename_i O
         subst O
         rw[<-h]
         show bj P (if k=k then pure (a == c) else _)=_
         rw[if_pos rfl]
         show some (a == c)=_
         congr 1
        ·cases h
       ·omega
      ·rename_i a c Q R
       simp only[zt,and_true]at Q R
       subst Q;subst R
       simp[Ir]at q A
       subst q;subst A
       have hl0:l=2:=X.symm
       rcases Y with ⟨C,_⟩ | ⟨C,_⟩ | ⟨_,rfl⟩
       ·omega
       ·omega
       ·rw[<-h];rfl
      ·cases h
    ·cases h
   have hlt : ∀l,om P t=some l->_:=λl W=>I l W
   cases dd<;>dsimp only at d<;>try (simp at d;done)
   ·exact I 0 (by simp[om,F]) d (.inl ⟨rfl,rfl⟩)
   ·rename_i k;exact I 1 (by simp[om,F]) d (.inr (.inl ⟨rfl,k,rfl⟩))
   ·exact I 2 (by simp[om,F]) d (.inr (.inr ⟨rfl,rfl⟩))
   ·
    rename_i k e
    simp only[aZ,beq_iff_eq]at d
    obtain⟨d,Z⟩:=d
    have W:om P t=none:=by simp[om,F]
    have U:gS P t=none:=by simp[gS,F]
    have hta:jI P t=some (k,e):=by simp[jI,F]
    rw[W,U,hta]at h
    dsimp only at h
    have M:dB P t=some true:=by simp[dB,F]
    cases E:aJ P e with
    | none=>rw[E]at h;cases h
    | some z=>
     rw[E]at h
     dsimp only at h
     have G:P.cellsOf e=z:=by simp only[aJ]at E;simp[Program.cellsOf,E]
     have B:dB P e=some false->z=1:=by
      intro j
      cases n with
      | zero=>simp[EZ]at d
      | succ n'=>
       unfold EZ at d
       unfold dB at j
       cases K:P.underlying e with
       | none=>rw[K]at d;simp at d
       | some d2=>
        rw[K]at d j
        cases d2<;>simp at d j<;>(have:=d.2;rw[E]at this;simpa using this)
     refine⟨.agg us.toArray,.agg N.toArray,by simp[valOf,M],by simp[valOf,M],?_⟩
     rw[show D+(n+1)=(D+n)+1 from rfl,DO (D+n) _ _ F E]
     have : ∀(m p:Nat)(b:Bool),(p+m) * z<=xs.length->(p+m) * z<=ys.length->G6 (gk P n e) z m (xs.drop (p * z)) (ys.drop (p * z))=some b->yb P (D+n) e z us.toArray N.toArray (List.range' p m)=some b:=by
      intro m
      induction m with
      | zero=>intro p b _ _ h;simp[G6]at h;simp[yb,h]
      | succ m ihm=>
       intro p b hx hy h
       simp only[G6]at h
       have L:(p+(m+1)) * z=p * z+z+m * z:=by rw[mS,Jl];omega
       rw[L]at hx hy
       cases C:gk P n e ((xs.drop (p * z)).take z) ((ys.drop (p * z)).take z) with
       | none=>rw[C]at h;simp at h
       | some a=>
        rw[C]at h
        cases J:G6 (gk P n e) z m ((xs.drop (p * z)).drop z) ((ys.drop (p * z)).drop z) with
        | none=>rw[J]at h;simp at h
        | some c=>
         rw[J]at h
         simp only[dR]at h
         rw[Dt,Dt,<-Jl]at J
         obtain⟨u,v,q,A,heq⟩:=ih D e _ _ _ _ a d C (AN (AO hu (p * z)) z) (AN (AO hv (p * z)) z)
          (by rw[sX,Dv,G];omega) (by rw[sX,Dv,G];omega)
         have p1:=E8 E (o:=p * z) q B
         have p2:=E8 E (o:=p * z) A B
         simp only[List.range'_succ,yb,p1,p2,heq]
         cases a with
         | false=>simp at h;simp[h]
         | true=>
          simp only[nu]at h
          subst h
          exact ihm (p+1) c (by rw[show p+1+m=p+(m+1) by omega,L];exact hx) (by rw[show p+1+m=p+(m+1) by omega,L];exact hy) J
     rw[NF]
     by_cases V:k * z<=xs.length/\k * z<=ys.length
     ·exact this k 0 b (by simpa using V.1) (by simpa using V.2) (by simpa using h)
     ·exfalso
      rw[G]at Z
      exact V ⟨by omega,by omega⟩
   ·
    rename_i fs
    simp only[aZ,dQ,fZ,beq_iff_eq]at d
    obtain⟨⟨S,i⟩,hst⟩:=d
    have W:om P t=none:=by simp[om,F]
    have U:gS P t=some (fs.toList.map (·.type)):=by simp[gS,F]
    rw[W,U]at h
    dsimp only at h
    have M:dB P t=some true:=by simp[dB,F]
    refine⟨.agg us.toArray,.agg N.toArray,by simp[valOf,M],by simp[valOf,M],?_⟩
    rw[show D+(n+1)=(D+n)+1 from rfl,CI (D+n) _ _ F hst (λf U=>(S f U).2)]
    have : ∀(l:List Field)(o:Nat)(b:Bool),(∀f∈l,EZ P n f.type=true)->layout P l o=some (P.cellsOf t)->ca (gk P n) P (l.map (·.type)) (xs.drop o) (ys.drop o)=some b->o<=P.cellsOf t ->
     ur P (D+n) us.toArray N.toArray l=some b:=by
     intro l
     induction l with
     | nil=>intro o b _ _ h _;simp[ca]at h;simp[ur,h]
     | cons f l ihl=>
      intro o b T i h ho
      unfold layout at i
      split at i
      ·rename_i hfo
       simp only[p6,ca]at h
       cases E:aJ P f.type with
       | none=>rw[E]at h;cases h
       | some z=>
        rw[E]at h
        dsimp only at h
        have G:P.cellsOf f.type=z:=by simp only[aJ]at E;simp[Program.cellsOf,E]
        rw[G]at i
        cases C:gk P n f.type ((xs.drop o).take z) ((ys.drop o).take z) with
        | none=>rw[C]at h;simp at h
        | some a=>
         rw[C]at h
         cases J:ca (gk P n) P (l.map (·.type)) ((xs.drop o).drop z) ((ys.drop o).drop z) with
         | none=>rw[J]at h;simp at h
         | some c=>
          rw[J]at h
          simp only[dR]at h
          rw[Dt,Dt]at J
          have hle:o+z<=P.cellsOf t:=by
           have : ∀(l:List Field)(o m:Nat),layout P l o=some m->o<=m:=by
            intro l
            induction l with
            | nil=>intro o m h;simp[layout]at h;omega
            | cons g l ihg=>
             intro o m h
             unfold layout at h
             split at h
             ·have:=ihg _ _ h;omega
             ·cases h
           exact this _ _ _ i
          obtain⟨u,v,q,A,heq⟩:=ih D f.type _ _ _ _ a (T f (gG ..)) C (AN (AO hu o) z) (AN (AO hv o) z)
           (by rw[sX,Dv,G];omega) (by rw[sX,Dv,G];omega)
          have B:dB P f.type=some false->z=1:=by
           intro j
           have O:=T f (gG ..)
           cases n with
           | zero=>simp[EZ]at O
           | succ n'=>
            unfold EZ at O
            unfold dB at j
            cases K:P.underlying f.type with
            | none=>rw[K]at O;simp at O
            | some d2=>
             rw[K]at O j
             cases d2<;>simp at O j<;>(have:=O.2;rw[E]at this;simpa using this)
          have p1:=E8 E (o:=o) q B
          have p2:=E8 E (o:=o) A B
          simp only[ur,hfo,p1,p2,heq]
          cases a with
          | false=>simp at h;simp[h]
          | true=>
           simp only[nu]at h
           subst h
           exact ihl (o+z) c (λg hg=>T g (fW _ hg)) i J hle
      ·cases i
    exact this fs.toList 0 b (λf U=>(S f U).1) i (by simpa using h) (Dq _)
def D6(P:Program)(t:TypeId):Bool:=EZ P 20 t && !P.eqGuardType P.depth t&&dB P t == some true
theorem Rp{P:Program}{t:TypeId}(h:D6 P t=true)(a:BinOp)(e:a = .eql\/a = .neq)(c d:Operand)(xs ys:Array Value) :
 CJ P a t c d (.agg xs) (.agg ys)=(bj P (Op.equalIn 10000 t (.agg xs) (.agg ys))).map λb => .bool (if a = .eql then b else !b):=by
 unfold D6 at h
 simp only[aZ,dQ,beq_iff_eq]at h
 have hp:bj P program=some P:=rfl
 unfold CJ
 have f:bj P (eqGuard a t c d (.agg xs) (.agg ys))=some ():=by
  rcases e with rfl | rfl
  ·simp only[eqGuard,zZ,jH,if_false,bK,hp,fy,h.1.2,BI,if_true];rfl
  ·simp only[eqGuard,zZ,jH,if_false,bK,hp,fy,h.1.2,BI,if_true];rfl
 rw[bK,f,fy]
 rcases e with rfl | rfl
 ·show bj P (do pure (Value.bool (<-Op.equal t (.agg xs) (.agg ys))))=_
  rw[bK]
  unfold Op.equal Op.maxDepth
  cases bj P (Op.equalIn 10000 t (.agg xs) (.agg ys))<;>rfl
 ·show bj P (do pure (Value.bool (!(<-Op.equal t (.agg xs) (.agg ys)))))=_
  rw[bK]
  unfold Op.equal Op.maxDepth
  cases bj P (Op.equalIn 10000 t (.agg xs) (.agg ys))<;>rfl
theorem CG{P:Program}{t:TypeId}(h:D6 P t=true)(a:BinOp)(A:a = .eql\/a = .neq)(k l:Operand){cs ds:List AV}{b:Bool}(q:gk P 20 t cs ds=some b)(f:(qP cs).isSome=true)(g:(qP ds).isSome=true)
 (y:some cs.length=aJ P t) (x:some ds.length=aJ P t):bS P a t k l (some (.agg cs)) (some (.agg ds))=some (aB (if a = .eql then b else !b),[]):=by
 obtain⟨us,f⟩:=gH.1 f
 obtain⟨d,g⟩:=gH.1 g
 have e:=h
 unfold D6 at e
 simp only[aZ,dQ,beq_iff_eq]at e
 have o : ∀ {n:Nat},some n=aJ P t->n=P.cellsOf t:=by
  intro n m
  unfold aJ at m
  unfold Program.cellsOf
  rw[<-m];rfl
 obtain⟨u,v,j,i,heq⟩:=U0 20 9980 t cs ds us d b e.1.1 q f g (o y) (o x)
 simp only[valOf,e.2,dR]at j i
 subst j;subst i
 have c:=Rp h a A k l us.toArray d.toArray
 rw[heq]at c
 have z:gI (.agg cs)=some (.agg us.toArray):=by show(cs.mapM Ir).map _=_;rw[show cs.mapM Ir=some us from f];rfl
 have p:gI (.agg ds)=some (.agg d.toArray):=by show(ds.mapM Ir).map _=_;rw[show ds.mapM Ir=some d from g];rfl
 simp only[bS,Kq,oa,xm,Fy,jH,if_false,z,p,c,Option.map_some,fy,jL,scalar,if_true,jK]
@[simp] theorem WL{P:Program}{t:TypeId}(h:D6 P t=true)(c d:Operand){cs ds:List AV}(a:(gk P 20 t cs ds).isSome=true)(f:(qP cs).isSome=true)(i:(qP ds).isSome=true)
 (e:some cs.length=aJ P t) (g:some ds.length=aJ P t):bS P .eql t c d (some (.agg cs)) (some (.agg ds))=some (aB ((gk P 20 t cs ds).getD false),[]):=by
 obtain⟨b,a⟩:=gH.1 a
 rw[CG h .eql (.inl rfl) c d a f i e g,a];rfl
@[simp] theorem WJ{P:Program}{t:TypeId}(h:D6 P t=true)(c d:Operand){cs ds:List AV}(a:(gk P 20 t cs ds).isSome=true)(f:(qP cs).isSome=true)(i:(qP ds).isSome=true)
 (e:some cs.length=aJ P t) (g:some ds.length=aJ P t):bS P .neq t c d (some (.agg cs)) (some (.agg ds))=some (aB (!(gk P 20 t cs ds).getD false),[]):=by
 obtain⟨b,a⟩:=gH.1 a
 rw[CG h .neq (.inr rfl) c d a f i e g,a];rfl
@[simp] theorem acK:qP []=some []:=id rfl
@[simp] theorem La(k:IntKind)(n:Int)(l:List AV):qP (.v (.int k n) :: l)=(qP l).map (.int k n :: ·):=by
 unfold qP;simp only[lX,Ir];cases l.mapM Ir<;>rfl
@[simp] theorem aa3(b:Bool)(l:List AV):qP (.v (.bool b) :: l)=(qP l).map (.bool b :: ·):=by
 unfold qP;simp only[lX,Ir];cases l.mapM Ir<;>rfl
@[simp] theorem ahq(b:UInt8)(l:List AV):qP (a8 b :: l)=(qP l).map (.int .u8 b.toNat :: ·):=La _ _ _
@[simp] theorem afG(b:UInt32)(l:List AV):qP (aw b :: l)=(qP l).map (.int .u32 b.toNat :: ·):=La _ _ _
@[simp] theorem YX(a b:Bool):BS [aB a] [aB b]=some (decide (a=b)):=id rfl
@[simp] theorem G7(k:IntKind)(a b:Int):BS [.v (.int k a)] [.v (.int k b)]=some (decide (a=b)):=by simp[BS]
@[simp] theorem aeZ(a b:UInt8):BS [a8 a] [a8 b]=some (decide (a=b)):=by
 unfold a8;rw[G7];congr 2;rw[<-Be];exact propext (by omega)
@[simp] theorem acj(a b:UInt32):BS [aw a] [aw b]=some (decide (a=b)):=by
 unfold aw;rw[G7];congr 2;rw[<-FI];exact propext (by omega)
@[simp] theorem Z0(b:Bool):I2 (aB b)=0:=id rfl
@[simp] theorem ab2(k:IntKind)(n:Int):I2 (.v (.int k n))=1:=id rfl
@[simp] theorem agE(b:UInt8):I2 (a8 b)=1:=id rfl
@[simp] theorem aek(b:UInt32):I2 (aw b)=1:=id rfl
@[simp] theorem Gz{P:Program}{t:TypeId}(h:((dN P t).bind (aJ P)).isSome=true)(g:db)(b c a:Option Int) :
 iJ P g t (some bZ) (some b) (some c) (some a)=(bounds 0 (some 0) b c a).map λ_=>(bZ,[]):=by
 simp only[iJ,h,if_true]
@[simp] theorem Oq{P:Program}{t z:Nat}(h:(dN P t).bind (aJ P)=some z)(g:db)(es:List AV)(c:Option Nat)(b d a:Option Int) :
 iJ P g t (some (.cG z es c)) (some b) (some d) (some a)=(bounds es.length c b d a).map λ(l,h,c)=>(.cG z ((es.drop l).take (h - l)) c,[]):=by
 simp only[iJ,h,if_true]
theorem Gl{P:Program}{t z:Nat}(h:(dN P t).bind (aJ P)=some z)(g:db){es:List AV}{x:AV}(e:Sl z es x){n:Int}(d:0<=n)(b:n<=es.length) :
 ∃y,iJ P g t (some x) (some none) (some (some n)) (some none)=some (y,[])/\Sl z (es.take n.toNat) y:=by
 rcases e with ⟨rfl,rfl⟩ | ⟨c,rfl,a⟩
 ·refine⟨bZ,?_,.inl ⟨rfl,by simp⟩⟩
  rw[Gz (by rw[h];rfl)]
  have:n=0:=by simp at b;omega
  subst this;rfl
 ·refine⟨.cG z (es.take n.toNat) (c.map (· - 0)),?_,.inr ⟨_,rfl,by cases c with | none=>simp | some k=>simp at a ⊢;omega⟩⟩
  rw[Oq h]
  simp only[bounds,uB,fQ,Jk,true_and,if_pos (show 0<=n/\n<=es.length from⟨d,b⟩),Option.map_some]
  simp
def sB(l:List UInt8):AV:=aS ⟨l.toArray⟩
theorem Ve{P:Program}{a u:Bool}{H:ai}{r:Ref}{t z f n:Nat}{ps:List (Nat × AV)}{h:AV}(x:YZ P t z f=true)(d:n * z<=16777216)(C:fG H.get ps=some ps)(b:bY H.get (ps.map (·.2))=[])
 (q:ps.all (λp=>p.2.cells.length == z&&p.2.cells.all AV.one)=true) (c:(dN P t).bind (eD P)=some h) {es:List AV} (v:iL (List.replicate n h) ps=some es) :
 oS P a u H r t n (some ps)=if a then some (.cG z es (some n),H) else some (.cC r 0 n (some n),({ r with k:=0},some ⟨z,es,true,false⟩) :: H):=by
 obtain⟨e,o,i,m,E,j,B,A,l,D⟩:=lb x
 rw[i]at c
 simp only[fy,j,dR]at c
 subst c
 have g:mkSlice P H.get t n ps=some ⟨z,es,true,false⟩:=by
  simp only[mkSlice,i,C,j,m]
  rw[if_pos ⟨Bf l,d,B,A,by simpa using q⟩,v]
  rfl
 have y:ik P a H.get r t n (some ps)=if a then some (.cG z es (some n),[]) else some (.cC r 0 n (some n),[⟨z,es,true,false⟩]):=by
  simp only[ik,b,jX,Jm,if_true,g,Option.map_some]
  cases a<;>rfl
 unfold oS
 rw[y]
 cases a<;>rfl
theorem Iq{g:db}{r:Ref}{z:Nat}{es:List AV}{fz:Bool}(a:g r=some ⟨z,es,true,fz⟩){n:Nat}(b:n=es.length)(k:Nat)(c:Option Nat):view g (k+1) (.cC r 0 n c)=some (.cG z es c):=by
 subst b
 rw[FT a,if_pos ⟨rfl,by simp⟩,Jr,FF]
theorem Own.cz{z:Nat}{es:List AV}{H H':ai}{x s d:AV}(h:Own z es H x)(hp : ∀q b,H.get q=some b->s.at?≠some q->H'.get q=some b/\d.at?≠some q)(c : ∀q,x.at?=some q->s.at?≠some q):Own z es H' x /\∀q,x.at?=some q->d.at?≠some q:=by
 rcases h with ⟨rfl,rfl⟩ | ⟨r,rfl,e⟩
 ·exact⟨PS z H',λq a=>by simp[AV.at?]at a⟩
 ·obtain⟨f,g⟩:=hp r _ e (c r rfl)
  exact⟨.inr ⟨r,rfl,f⟩,λq a=>by simp only[AV.at?,dR]at a;subst a;exact g⟩
@[simp] theorem ZF(P:Program)(t:TypeId)(a b:Operand)(x y:UInt32)(d:y≠0):bS P .rem t a b (some (aw x)) (some (aw y))=some (aw (x % y),[]):=by
 have c:(y.toNat:Int)≠0:=by
  intro e;apply d;apply FI.1;have:y.toNat=0:=by omega
  exact this
 unfold aw
 rw[TX P t a b .u32 _ _ c]
 congr 5
theorem OP{P:Program}{t:TypeId}(h:isBool P t=true):P.underlying t=some .bool:=by
 unfold isBool at h
 split at h
 ·assumption
 ·cases h
theorem HR{P:Program}{t:TypeId}(h:isBool P t=true)(d:Nat)(a b:Bool):bj P (Op.equalIn (d+1) t (.bool a) (.bool b))=some (a == b):=by
 simp only[Op.equalIn,bK,mD (OP h),fy]
 rfl
theorem Oy{P:Program}{t:TypeId}(h:isBool P t=true)(c:BinOp)(g:c = .eql\/c = .neq)(d e:Operand)(a b:Bool) :
 CJ P c t d e (.bool a) (.bool b)=some (.bool (if c = .eql then a == b else !(a == b))):=by
 have f:bj P (Op.equal t (.bool a) (.bool b))=some (a == b):=HR h 9999 a b
 unfold CJ
 rcases g with rfl | rfl
 ·have:bj P (eqGuard .eql t d e (.bool a) (.bool b))=some ():=rfl
  rw[bK,this,fy]
  show bj P (do pure (Value.bool (<-Op.equal t (.bool a) (.bool b))))=_
  rw[bK,f];rfl
 ·have:bj P (eqGuard .neq t d e (.bool a) (.bool b))=some ():=rfl
  rw[bK,this,fy]
  show bj P (do pure (Value.bool (!(<-Op.equal t (.bool a) (.bool b)))))=_
  rw[bK,f];rfl
@[simp] theorem VF{P:Program}{t:TypeId}(h:isBool P t=true)(c d:Operand)(a b:Bool):bS P .eql t c d (some (aB a)) (some (aB b))=some (aB (a == b),[]):=by
 simp only[bS,Kq,oa,gI,Oy h .eql (.inl rfl),xm,Fy,jH,if_false,fy,jL,scalar,if_true,jK,Option.map_some]
@[simp] theorem ahG(P:Program)(d:Bool)(g:db)(r:Ref)(c:Array TypeId)(k:IntKind)(a b:Int):ck P d g r .min c [.v (.int k a),.v (.int k b)]=some (.v (.int k (if b<a then b else a)),[]):=id rfl
@[simp] theorem ahH(P:Program)(d:Bool)(g:db)(r:Ref)(c:Array TypeId)(k:IntKind)(a b:Int):ck P d g r .max c [.v (.int k a),.v (.int k b)]=some (.v (.int k (if b>a then b else a)),[]):=id rfl
theorem Own.cons{z:Nat}{es:List AV}{H:ai}{x:AV}(h:Own z es H x)(c:Fr H)(d t:Nat)(b:Option bA):Own z es ((⟨d,t,H.gen d t,0⟩,b) :: H) x:=by
 rcases h with ⟨rfl,rfl⟩ | ⟨r,rfl,a⟩
 ·exact PS z _
 ·refine .inr ⟨r,rfl,?_⟩
  rw[ai.tu,if_neg (ud c (by rw[a];rfl) d t 0)]
  exact a
theorem Own.Gl{P:Program}{t z:Nat}(h:(dN P t).bind (aJ P)=some z){H:ai}{es:List AV}{x:AV}(d:Own z es H x){n:Nat}(b:n<=es.length) :
 ∃y c,iJ P H.get t (some x) (some none) (some (some (n:Int))) (some none)=some (y,[])/\Ab.view H.get depth y=some c/\Sl z (es.take n) c:=by
 rcases d with ⟨rfl,rfl⟩ | ⟨r,rfl,a⟩
 ·refine⟨bZ,bZ,?_,rfl,.inl ⟨rfl,by simp⟩⟩
  rw[Gz (by rw[h];rfl)]
  have:n=0:=by simpa using b
  subst this;rfl
 ·refine⟨.cC r 0 n none,.cG z (es.take n) none,?_,?_,Sl.mk z _⟩
  ·simp only[iJ,a,h,if_true,bounds,uB,fQ,Jk,true_and]
   rw[if_pos ⟨by omega,by omega⟩]
   simp
  ·rw[aU,FT a,if_pos ⟨rfl,by simpa using b⟩,Jr]
@[simp] theorem abL(P:Program)(r:Ref)(e:TypeId){z:AV}(b:eD P e=some z)(a:0<(aJ P e).getD 0):uW P r e=if some z.cells.length=aJ P e/\z.cells.all AV.one=true then some (.ptr r 0 0,[⟨(aJ P e).getD 0,[z],false,false⟩]) else none:=by
 unfold uW
 rw[b]
 cases h:aJ P e with
 | none=>simp
 | some n=>rw[h]at a;simp only[fQ]at a;simp[a]
@[simp] theorem TU{P:Program}{t f:Nat}(h:0<((aA P t f).getD (0,0)).2)(r:Ref)(i j:Nat):iK P t (some (.ptr r i j)) f=some (.ptr r i (j+((aA P t f).getD (0,0)).1),[]):=by
 unfold iK
 cases a:aA P t f with
 | none=>rw[a]at h;simp at h
 | some p=>obtain⟨o,s⟩:=p;rw[a]at h;simp only[fQ]at h ⊢;rw[if_pos h]
@[simp] theorem Sf{P:Program}{t f:Nat}(h:0<((aA P t f).getD (0,0)).2)(n:Nat)(es:List AV)(i j:Nat):iK P t (some (.iptr n es i j)) f=some (.iptr n es i (j+((aA P t f).getD (0,0)).1),[]):=by
 unfold iK
 cases a:aA P t f with
 | none=>rw[a]at h;simp at h
 | some p=>obtain⟨o,s⟩:=p;rw[a]at h;simp only[fQ]at h ⊢;rw[if_pos h]
def PR(cs:List AV)(a n:Nat)(b:Bool):Option AV:=if b then (if a+n<=cs.length then some (.agg ((cs.drop a).take n)) else none) else cs[a]?
@[simp] theorem agv(cs:List AV)(a n:Nat):PR cs a n true=if a+n<=cs.length then some (.agg ((cs.drop a).take n)) else none:=id rfl
@[simp] theorem agw(cs:List AV)(a n:Nat):PR cs a n false=cs[a]?:=id rfl
@[simp] theorem ZB{P:Program}{t f:Nat}(h:(((nX P t f).bind λp=>aJ P p.2).isSome&&((nX P t f).bind λp=>dB P p.2).isSome)=true)(cs:List AV) :
 uV P t (some (.agg cs)) f=jK (PR cs ((nX P t f).getD (0,0)).1 ((aJ P ((nX P t f).getD (0,0)).2).getD 0) ((dB P ((nX P t f).getD (0,0)).2).getD false)):=by
 unfold uV
 cases a:nX P t f with
 | none=>rw[a]at h;simp at h
 | some p=>
  obtain⟨o,ft⟩:=p
  rw[a]at h
  simp only[fy,aZ]at h
  obtain⟨n,c⟩:=gH.1 h.1
  obtain⟨b,d⟩:=gH.1 h.2
  simp only[fQ,Am,c,d]
  cases b<;>rfl
@[simp] theorem VA(cs:List AV)(new:List AV)(h:new.length=cs.length):jt [AV.agg cs] 0 0 new=some [AV.agg new]:=by
 simp[jt,sC,patch,h]
@[simp low] theorem VM(cs:List AV)(j:Nat)(new:List AV)(h:j+new.length<=cs.length):jt [AV.agg cs] 0 j new=some [AV.agg (patch cs j new)]:=by
 simp[jt,sC,h]
@[simp] theorem ad5(cs:List AV)(j:Nat)(new:List AV):patch cs j new=cs.take j++new++cs.drop (j+new.length):=id rfl
@[simp] theorem WC{P:Program}{t:TypeId}(c:(dB P t).isSome=true)(b:(aJ P t).isSome=true)(H:ai)(r:Ref)(i j:Nat):Ai P H (.ptr r i j) t=UE (H.get r) i j ((aJ P t).getD 0) ((dB P t).getD false):=by
 obtain⟨a,c⟩:=gH.1 c
 obtain⟨n,b⟩:=gH.1 b
 simp only[Ai,c,b,fQ]
 rfl
@[simp] theorem VE{P:Program}{t:TypeId}{z:List AV}(c:eD P t=some (.agg z))(b:jI P t=none)(hp:(placesOf P t).isSome=true)(a:List (Nat × AV)) :
 lx P t (some a)=(lE (λi=>((placesOf P t).getD [])[i]?) z a).map λcs=>(.agg cs,[]):=by
 obtain⟨ps,hp⟩:=gH.1 hp
 simp only[lx,c,b,hp,fQ]
@[simp] theorem WE(a:List AV)(i:Nat):ti (some (.tup a)) i=jK a[i]?:=id rfl
@[simp] theorem ad0(r:Ref)(i j:Nat):LM (some (.ptr r i j))=some (.ptr r i j,[]):=id rfl
@[simp] theorem ai.Xd(d t:Nat):ai.gen [] d t=0:=id rfl
@[simp] theorem ai.Mz(d t g k:Nat)(b:Option bA)(H:ai)(a t':Nat):ai.gen ((⟨d,t,g,k⟩,b) :: H) a t'=if d=a/\t=t' then g+1 else ai.gen H a t':=id rfl
@[simp] theorem Mc{α c:Type}(f:α->Option c)(a:α)(l:List α):List.mapM f (a :: l)=(f a).bind λb=>(List.mapM f l).map (b :: ·):=by
 rw[lX];cases f a<;>cases List.mapM f l<;>rfl
@[simp] theorem Zu{α:Type}(f:α->AV)(l:List α)(i j n:Nat)(b:Bool):bW (l.map f) i j n b=(l[i]?).bind λa=>bW [f a] 0 j n b:=by
 unfold bW
 rw[oM]
 cases l[i]?<;>rfl
theorem drop_cons{α:Type}{l:List α}{k:Nat}{a:α}{s:List α}(h:l.drop k=a :: s) : ∃b:k<l.length,l[k]=a/\l.drop (k+1)=s/\l[k]?=some a:=by
 have b:k<l.length:=by
  have:=congrArg List.length h
  simp at this;omega
 rw[List.drop_eq_getElem_cons b]at h
 cases h
 exact⟨b,rfl,rfl,eC b⟩
theorem drop_nil{α:Type}{l:List α}{k:Nat}(h:l.drop k=[])(a:k<=l.length):k=l.length:=by
 have:=congrArg List.length h
 simp at this;omega
theorem fM{b:Bool}{q:jh}{K:AV->Prop}{m:Mk (q,K)}(a:b=true->hZ q K)(c:b=false->K AV.undef):gQ (aB b) true q K m:=by
 cases b
 ·exact(aeQ q K m).2 (c rfl)
 ·exact(aeO q K m).2 (a rfl)
theorem fN{b:Bool}{q:jh}{K:AV->Prop}{m:Mk (q,K)}(a:b=true->K AV.undef)(c:b=false->hZ q K):gQ (aB b) false q K m:=by
 cases b
 ·exact(aeR q K m).2 (c rfl)
 ·exact(aeP q K m).2 (a rfl)
theorem fK{b:Bool}{H:ai}{q:dv}{K:AV->ai->Prop}{m:Mk (q,K)}(a:b=true->lQ q K)(c:b=false->K AV.undef H):gW (aB b) true H q K m:=by
 cases b
 ·exact(aeM H q K m).2 (c rfl)
 ·exact(aeK H q K m).2 (a rfl)
theorem fL{b:Bool}{H:ai}{q:dv}{K:AV->ai->Prop}{m:Mk (q,K)}(a:b=true->K AV.undef H)(c:b=false->lQ q K):gW (aB b) false H q K m:=by
 cases b
 ·exact(aeN H q K m).2 (c rfl)
 ·exact(aeL H q K m).2 (a rfl)
theorem af{H:ai}(a:Fr H){q:Ref}(h:(H.get q).isSome=true)(d t k:Nat):((⟨d,t,H.gen d t,k⟩:Ref)=q)=False:=
 eq_false (ud a h d t k)
theorem ah{H:ai}(a:Fr H){q:Ref}(h:(H.get q).isSome=true)(d t k:Nat):(q=(⟨d,t,H.gen d t,k⟩:Ref))=False:=
 eq_false λe=>ud a h d t k e.symm
theorem ao{H:ai}(a:Fr H)(d t k:Nat):H.get ⟨d,t,H.gen d t,k⟩=none:=a _ _ _ _ (bD _)
theorem an{H:ai}(a:Fr H){d t g:Nat}(c:g=H.gen d t)(b:Option bA):Fr ((⟨d,t,g,0⟩,b) :: H):=by subst c;exact a.cons d t b
theorem au{H:ai}(c:Fr H){r:Ref}(a:(H.get r).isSome=true)(b:Option bA):Fr (H.put r b):=c.put b a
theorem aa{H:ai}{r:Ref}(a:(H.get r).isSome=true)(b:Option bA)(d t:Nat):(H.put r b).gen d t=H.gen d t:=ai.mO H r b a d t
theorem RP{E:Env}{f:FuncId}(a:At (E.mode f)=false)(x:AV)(H:ai)(y:AV):handed E f x H y↔view H.get depth x=some y:=by
 unfold handed
 rw[if_neg (by simpa using a)]
theorem Mw{E:Env}{f:FuncId}(a:At (E.mode f)=true)(x:AV)(H:ai)(y:AV):handed E f x H y↔(ax H.get depth x).Nodup/\dL H.get depth x=some y:=by
 unfold handed
 rw[if_pos (by simpa using a)]
def AD(a:Bool)(H:ai)(r:Ref)(refs:List Ref)(o:Option AV):dv:=match o with
 | some y=>if flat depth y||jX H.get refs then some ((aE r depth y []).1,keyed r 0 (aE r depth y []).2 H)
  else if a then some ((aE r depth y []).1,keyed r 0 (aE r depth y []).2 (cH H refs)) else none
 | none=>none
noncomputable def Vc(E:Env)(a:Bool)(H:ai)(r:Ref)(refs:List Ref)(f:FuncId)(o:Option (List AV)):dv:=match o with
 | some xs=>AD a H r refs (aF E f xs)
 | none=>none
theorem aK{E:Env}(a:Bool)(dep:Nat)(H:ai)(r:Ref)(f:FuncId)(d:(E.mode f == 2)=false)(b:(E.mode f == 3)=false)(first captured args:List AV) :
 bF E a (aF E) (cE E dep) H r (some (.fn (.func f) first captured)) args=Vc E a H r (bY H.get (first++args++captured)) f ((first++args++captured).mapM (view H.get depth)):=by
 have c:E.mode f≠2:=by simpa using d
 simp only[bF,kn,mT,if_neg c,b,xm,Bool.or_false]
 cases(first++args++captured).mapM (view H.get depth) with
 | none=>cases a<;>rfl
 | some xs=>
  dsimp only[Vc]
  cases aF E f xs with
  | none=>cases a<;>rfl
  | some y=>
   dsimp only[AD,Option.map_some]
   cases e:(flat depth y||jX H.get (bY H.get (first++args++captured))) with
   | true=>rfl
   | false=>cases a<;>rfl
theorem Mp(r:Ref)(n:Nat)(t:TypeId)(x:AV)(a:List bA):aE r (n+1) (.ifc t x) a=(.ifc t (aE r n x a).1,(aE r n x a).2):=id rfl
@[simp] theorem aaL(E:Env)(a:Bool)(H:ai)(r:Ref)(refs:List Ref)(f:FuncId)(xs:List AV):Vc E a H r refs f (some xs)=AD a H r refs (aF E f xs):=id rfl
@[simp] theorem aaM(a:Bool)(H:ai)(r:Ref)(refs:List Ref)(y:AV)(h:flat depth y=true):AD a H r refs (some y)=some (y,H):=by
 simp only[AD,h,Bool.true_or,if_true]
 rw[wj r depth depth y [] h]
 rfl
theorem aG(a:Bool)(H:ai)(r:Ref)(y:AV):AD a H r [] (some y)=some ((aE r depth y []).1,keyed r 0 (aE r depth y []).2 H):=by
 simp only[AD,jX,Jm,Bool.or_true,if_true]
theorem aW(a:Bool)(H:ai)(r:Ref)(refs:List Ref)(y:AV)(h:jX H.get refs=true):AD a H r refs (some y)=some ((aE r depth y []).1,keyed r 0 (aE r depth y []).2 H):=by
 simp only[AD,h,Bool.or_true,if_true]
@[simp] theorem ahO(n:Nat)(x:Value):flat (n+1) (.v x)=true:=id rfl
@[simp] theorem ahP(n:Nat)(x:UInt8):flat (n+1) (a8 x)=true:=id rfl
@[simp] theorem agK(n:Nat)(x:UInt32):flat (n+1) (aw x)=true:=id rfl
@[simp] theorem flat_agg(n:Nat)(cs:List AV):flat (n+1) (.agg cs)=cs.all (flat n):=id rfl
@[simp] theorem aci(n:Nat)(cs:List AV):flat (n+1) (.tup cs)=cs.all (flat n):=id rfl
@[simp] theorem aeU(n:Nat)(t:TypeId)(x:AV):flat (n+1) (.ifc t x)=flat n x:=id rfl
@[simp] theorem aeT(n z:Nat)(es:List AV)(c:Option Nat):flat (n+1) (.cG z es c)=false:=id rfl
@[simp] theorem aeV(n z:Nat)(es:List AV)(c:Option Nat):flat (n+1) (.fsl z es c)=false:=id rfl
@[simp] theorem X5(g:db):bY g []=[]:=id rfl
@[simp] theorem WB(g:db)(x:AV)(xs:List AV):bY g (x :: xs)=ax g depth x++bY g xs:=id rfl
@[simp] theorem Y9(g:db)(n:Nat)(x:Value):ax g n (.v x)=[]:=by cases n<;>rfl
@[simp] theorem Za(g:db)(n:Nat)(x:UInt8):ax g n (a8 x)=[]:=by cases n<;>rfl
@[simp] theorem XW(g:db)(n:Nat)(x:UInt32):ax g n (aw x)=[]:=by cases n<;>rfl
@[simp] theorem VT(g:db)(n z:Nat)(es:List AV)(c:Option Nat):ax g n (.cG z es c)=[]:=by cases n<;>rfl
@[simp] theorem VB(g:db)(n z:Nat)(es:List AV)(i j:Nat):ax g n (.iptr z es i j)=[]:=by cases n<;>rfl
@[simp] theorem VU(g:db)(n:Nat)(cs:List AV):ax g (n+1) (.agg cs)=cs.flatMap (ax g n):=id rfl
@[simp] theorem VP(g:db)(n:Nat)(cs:List AV):ax g (n+1) (.tup cs)=cs.flatMap (ax g n):=id rfl
@[simp] theorem VS(g:db)(n:Nat)(r:Ref)(o l:Nat)(c:Option Nat):ax g (n+1) (.cC r o l c)=[r]:=id rfl
@[simp] theorem XV(g:db)(n:Nat)(f:Fn)(a b:List AV):ax g (n+1) (.fn f a b)=a.flatMap (ax g n)++b.flatMap (ax g n):=id rfl
def PN(g:db)(n:Nat)(o:Option bA):List Ref:=match o with
 | some b=>if b.arr then [] else b.es.flatMap (ax g n)
 | none=>[]
@[simp] theorem VQ(g:db)(n:Nat)(r:Ref)(i j:Nat):ax g (n+1) (.ptr r i j)=r :: PN g n (g r):=id rfl
@[simp] theorem WM(g:db)(n:Nat)(b:bA):PN g n (some b)=if b.arr then [] else b.es.flatMap (ax g n):=id rfl
def Ce(o l:Nat)(c:Option Nat)(b:Option bA):Option AV:=match b with
 | some b=>if b.arr=true/\o+l<=b.es.length then some (.cG b.esz ((b.es.drop o).take l) c) else none
 | none=>none
@[simp] theorem aa0(g:db)(n:Nat)(r:Ref)(o l:Nat)(c:Option Nat):view g (n+1) (.cC r o l c)=Ce o l c (g r):=id rfl
@[simp] theorem Zc(o l:Nat)(c:Option Nat)(b:bA):Ce o l c (some b)=if b.arr=true/\o+l<=b.es.length then some (.cG b.esz ((b.es.drop o).take l) c) else none:=id rfl
def XX(g:db)(n i j:Nat)(b:Option bA):Option AV:=match b with
 | some b=>if b.arr then some (.iptr b.esz b.es i j) else (b.es.mapM (view g n)).map λes => .iptr b.esz es i j
 | none=>none
@[simp] theorem aaZ(g:db)(n:Nat)(r:Ref)(i j:Nat):view g (n+1) (.ptr r i j)=XX g n i j (g r):=id rfl
@[simp] theorem Zb(g:db)(n i j:Nat)(b:bA):XX g n i j (some b)=if b.arr then some (.iptr b.esz b.es i j) else (b.es.mapM (view g n)).map λes => .iptr b.esz es i j:=id rfl
@[simp] theorem afA(g:db)(n:Nat)(f:Fn)(a b:List AV):view g (n+1) (.fn f a b)=(a.mapM (view g n)).bind λa=>(b.mapM (view g n)).map λb => .fn f a b:=by
 rw[view]
 cases a.mapM (view g n)<;>cases b.mapM (view g n)<;>rfl
@[simp] theorem aeE(r:Ref)(n:Nat)(x:Value)(a:List bA):aE r n (.v x) a=(.v x,a):=by cases n<;>rfl
@[simp] theorem aeF(r:Ref)(n:Nat)(x:UInt8)(a:List bA):aE r n (a8 x) a=(a8 x,a):=by cases n<;>rfl
@[simp] theorem ace(r:Ref)(n:Nat)(x:UInt32)(a:List bA):aE r n (aw x) a=(aw x,a):=by cases n<;>rfl
@[simp] theorem aag(r:Ref)(n z:Nat)(es:List AV)(c:Option Nat)(a:List bA):aE r n (.cG z es c) a=(.cG z es c,a):=by cases n<;>rfl
@[simp] theorem aah(r:Ref)(n z:Nat)(es:List AV)(c:Option Nat)(a:List bA)(b:z≠0):aE r (n+1) (.fsl z es c) a=(.cC { r with k:=a.length} 0 es.length c,a++[⟨z,es,true,false⟩]):=by
 simp only[aE,if_neg b]
def ue(r:Ref)(n:Nat):List AV->List AV->List bA->List AV × List bA
 | [],acc,a=>(acc,a)
 | c :: cs,acc,a=>ue r n cs (acc++[(aE r n c a).1]) (aE r n c a).2
theorem GU(r:Ref)(n:Nat)(cs:List AV) : ∀(a:List AV)(b:List bA),cs.foldl (λ(p:List AV × List bA) c=>let (y,b):=aE r n c p.2;(p.1++[y],b)) (a,b)=ue r n cs a b:=by
 induction cs with
 | nil=>intro a b;rfl
 | cons c cs d=>intro a b;rw[vO];exact d _ _
@[simp] theorem aai(r:Ref)(n:Nat)(cs:List AV)(a:List bA):aE r (n+1) (.agg cs) a=(.agg (ue r n cs [] a).1,(ue r n cs [] a).2):=by
 rw[<-GU];rfl
@[simp] theorem aaf(r:Ref)(n:Nat)(cs:List AV)(a:List bA):aE r (n+1) (.tup cs) a=(.tup (ue r n cs [] a).1,(ue r n cs [] a).2):=by
 rw[<-GU];rfl
@[simp] theorem Yf(r:Ref)(n:Nat)(a:List AV)(b:List bA):ue r n [] a b=(a,b):=id rfl
@[simp] theorem W7(r:Ref)(n:Nat)(c:AV)(cs a:List AV)(b:List bA):ue r n (c :: cs) a b=ue r n cs (a++[(aE r n c b).1]) (aE r n c b).2:=id rfl
@[simp] theorem VJ(H:ai):cH H []=H:=id rfl
def Qb(H:ai)(r:Ref)(b:Option bA):ai:=match b with
 | some b=>H.put r (some { b with k8:=true})
 | none=>H
@[simp] theorem UR(H:ai)(r:Ref)(rs:List Ref):cH H (r :: rs)=cH (Qb H r (H.get r)) rs:=by
 show(match H.get r with | some b=>cH (H.put r (some { b with k8:=true})) rs | none=>cH H rs)=_
 cases H.get r<;>rfl
@[simp] theorem Xe(H:ai)(r:Ref)(b:bA):Qb H r (some b)=H.put r (some { b with k8:=true}):=id rfl
def Qf(l:Nat)(c:Option Nat)(b:Option bA):Option AV:=match b with
 | some b=>if b.arr=true/\l<=b.es.length then some (if b.k8 then .cG b.esz (b.es.take l) c else .fsl b.esz (b.es.take l) c) else none
 | none=>none
@[simp] theorem aat(g:db)(n:Nat)(r:Ref)(l:Nat)(c:Option Nat):dL g (n+1) (.cC r 0 l c)=Qf l c (g r):=id rfl
@[simp] theorem Xq(l:Nat)(c:Option Nat)(b:bA):Qf l c (some b)=if b.arr=true/\l<=b.es.length then some (if b.k8 then .cG b.esz (b.es.take l) c else .fsl b.esz (b.es.take l) c) else none:=id rfl
@[simp] theorem aeW(g:db)(n:Nat)(x:Value):dL g (n+1) (.v x)=some (.v x):=id rfl
@[simp] theorem aau(g:db)(n:Nat)(cs:List AV):dL g (n+1) (.agg cs)=(cs.mapM (dL g n)).map .agg:=id rfl
@[simp] theorem aas(g:db)(n:Nat)(cs:List AV):dL g (n+1) (.tup cs)=(cs.mapM (dL g n)).map .tup:=id rfl
theorem Sl.idx{z:Nat}{es:List AV}{x:AV}(h:Sl z es x){P:Program}{t:TypeId}(b:(dN P t).bind (aJ P)=some z)(g:db)(a:IntKind)(k:Int) :
 cT P g t (some x) (some (.v (.int a k)))=if 0<=k/\k<es.length then some (.iptr z es k.toNat 0,[]) else none:=by
 rcases h with ⟨rfl,rfl⟩ | ⟨c,rfl,_⟩
 ·obtain⟨e,he,d⟩:=MQ b
  rw[if_neg (by simp)]
  simp[cT,intOf,he]
 ·exact GC b g es c a k
theorem Sl.exp{z:Nat}{es:List AV}{x:AV}(h:Sl z es x)(g:db)(n:Nat):dL g (n+1) x=some x:=by
 rcases h with ⟨rfl,rfl⟩ | ⟨c,rfl,_⟩<;>rfl
theorem Sl.imp'{z:Nat}{es:List AV}{x:AV}(h:Sl z es x)(r:Ref)(n:Nat)(a:List bA):aE r n x a=(x,a):=by
 rcases h with ⟨rfl,rfl⟩ | ⟨c,rfl,_⟩<;>cases n<;>rfl
theorem Sl.r{z:Nat}{es:List AV}{x:AV}(h:Sl z es x):wh x=some es.length/\(∀g n,Ab.view g (n+1) x=some x)/\(∀g n,ax g n x=[])/\x.cells=[x]/\x.one=true/\(∀g n,dL g (n+1) x=some x)/\(∀r n a,aE r n x a=(x,a)):=
 ⟨h.len,h.view,h.refs,h.cells.1,h.cells.2,h.exp,h.imp'⟩
@[simp] theorem aif(z:Nat)(es a:List AV)(c:Option Nat):Sl z es (.cG z a c)↔es=a/\es.length<=c.getD es.length:=by
 constructor
 ·rintro(⟨e,_⟩ | ⟨b,e,h⟩)
  ·cases e
  ·cases e;exact⟨rfl,h⟩
 ·rintro⟨rfl,h⟩;exact .inr ⟨c,rfl,h⟩
@[simp] theorem aie(z:Nat)(es:List AV):Sl z es bZ↔es=[]:=by
 constructor
 ·rintro(⟨_,e⟩ | ⟨a,e,h⟩)
  ·exact e
  ·cases e
 ·rintro rfl;exact .inl ⟨rfl,rfl⟩
@[simp] theorem at_nil:bZ.at?=none:=id rfl
@[simp] theorem ah6(r:Ref)(o n:Nat)(c:Option Nat):(AV.cC r o n c).at?=some r:=id rfl
theorem Vl{P:Program}{t t' z a:Nat}(i:YZ P t z a=true)(c:Hm P t'=true)(y:Bool)(H:ai)(r:Ref){new:List AV}{x:AV}(j:XF H.get z new x)(A:new≠[])(n:new.length * a<=bI) :
 jn P y H r (some t) (some t') bZ x=some (.cC r 0 new.length none,({ r with k:=0},some ⟨z,new,true,false⟩) :: H):=by
 obtain⟨e,o,g,p,B,q,C,D,l,m⟩:=lb i
 have b:=j.pg i g
 unfold Hm at c
 simp only[aZ,dQ]at c
 have f:(P.underlying t').isNone=false:=by cases h:P.underlying t' with | none=>rw[h]at c;simp at c | some d=>rfl
 have v : ¬((P.underlying t').isNone=true\/isInt P t'≠isNum x):=by
  rw[f,c.2,j.num];simp
 have u : ¬(z≠z\/z=0\/a=0\/o.cells.length≠z):=by simp[C,l,m]
 simp only[jn,jv,fy,g,Option.map_some,fQ,if_neg v,p,B,q,b,if_neg u,if_neg A,if_pos n]
 rfl
theorem M9{P:Program}{t t' z a:Nat}(A:YZ P t z a=true)(f:Hm P t'=true)(H:ai)(r q:Ref)(n:Nat){new es:List AV}{x:AV}(B:XF H.get z new x){fz:Bool}(C:H.get q=some ⟨z,es,true,fz⟩)(G:n=es.length)(c:new≠[])(E:(es.length+new.length) * a<=bI) :
 jn P true H r (some t) (some t') (.cC q 0 n none) x=some (.cC ⟨q.d,q.t,H.gen q.d q.t,0⟩ 0 (es.length+new.length) none,(⟨q.d,q.t,H.gen q.d q.t,0⟩,some ⟨z,es++new,true,fz⟩) :: H.put q none):=by
 subst G
 obtain⟨e,o,j,p,y,u,D,I,l,m⟩:=lb A
 have b:=B.pg A j
 unfold Hm at f
 simp only[aZ,dQ]at f
 have g:(P.underlying t').isNone=false:=by cases h:P.underlying t' with | none=>rw[h]at f;simp at f | some d=>rfl
 have v : ¬((P.underlying t').isNone=true\/isInt P t'≠isNum x):=by
  rw[g,f.2,B.num];simp
 have F : ¬(z≠z\/z=0\/a=0\/o.cells.length≠z):=by simp[D,l,m]
 have k : ¬(z≠z\/z=0\/a=0\/new=[]\/o.cells.length≠z):=by simp[D,l,m,c]
 have i:jv P H.get r (some t) (some t') (.cC q 0 es.length none) x=none:=by
  simp only[jv,fy,j,Option.map_some,fQ,if_neg v,p,y,u,b,if_neg F,C,if_neg c]
  simp
 simp only[jn,i,IW,LZ]
 simp only[mI,fy,j,Option.map_some,fQ,if_neg v,p,y,u,b,if_neg k,C,E,and_self,if_true,true_and]
def nL(P:Program)(t:TypeId):Nat:=((dN P t).bind (aJ P)).getD 0
def ug(P:Program)(t:TypeId):Nat:=((dN P t).bind (nY P)).getD 0
def jE(P:Program)(t:TypeId):AV:=((dN P t).bind (eD P)).getD AV.undef
def pT(P:Program)(t:TypeId):Bool:=YZ P t (nL P t) (ug P t)
def Xt(z:Nat)(o:Option (Nat × List AV)):Option (List AV):=match o with
 | some (a,es)=>if a=z then some es else none
 | none=>none
def kM(z:Nat)(g:db)(x:AV):Option (List AV):=match x with
 | .v (.slice none 0 0)=>some []
 | .v (.int _ _)=>none
 | x=>Xt z (cU g x)
@[simp] theorem acn(z:Nat)(g:db):kM z g bZ=some []:=id rfl
@[simp] theorem aco(z:Nat)(g:db)(a:Nat)(es:List AV)(c:Option Nat):kM z g (.cG a es c)=if a=z then some es else none:=id rfl
def aax(z o n:Nat)(b:Option bA):Option (List AV):=match b with
 | some b=>if (b.arr=true/\o+n<=b.es.length)/\b.esz=z then some ((b.es.drop o).take n) else none
 | none=>none
@[simp] theorem acp(z o n:Nat)(b:bA):aax z o n (some b)=if (b.arr=true/\o+n<=b.es.length)/\b.esz=z then some ((b.es.drop o).take n) else none:=id rfl
@[simp] theorem acm(z:Nat)(g:db)(r:Ref)(o n:Nat)(c:Option Nat):kM z g (.cC r o n c)=aax z o n (g r):=by
 unfold kM aax
 simp only[cU]
 cases g r with
 | none=>rfl
 | some b=>
  dsimp only
  by_cases h:b.arr=true/\o+n<=b.es.length
  ·by_cases a:b.esz=z
   ·rw[if_pos h,if_pos ⟨h,a⟩];simp[Xt,a]
   ·rw[if_pos h,if_neg (λe=>a e.2)];simp[Xt,a]
  ·rw[if_neg h,if_neg (λe=>h e.1)];rfl
theorem Sl.kM{z:Nat}{es:List AV}{x:AV}(h:Sl z es x)(g:db):Ab.kM z g x=some es:=by
 rcases h with ⟨rfl,rfl⟩ | ⟨c,rfl,_⟩<;>simp
theorem yf{z:Nat}{g:db}{x:AV}{new:List AV}(h:kM z g x=some new):XF g z new x:=by
 unfold kM at h
 split at h
 ·cases h;exact .inl ⟨rfl,rfl⟩
 ·cases h
 ·rename_i c d
  unfold Xt at h
  split at h
  ·rename_i f es b
   split at h
   ·rename_i a
    cases h;subst a
    refine .inr ⟨?_,λe=>?_,b⟩
    ·cases x with
     | v u=>cases u with
      | int k n=>exact(d _ _ rfl).elim
      | _=>rfl
     | _=>rfl
    ·exact c e
   ·cases h
  ·cases h
def afp(z a:Nat)(H:ai)(r:Ref)(new:Option (List AV)):dv:=match new with
 | some new=>if new=[] then some (bZ,H) else if new.length * a<=bI then some (.cC r 0 new.length none,({ r with k:=0},some ⟨z,new,true,false⟩) :: H) else none
 | none=>none
@[simp] theorem R8(z a:Nat)(H:ai)(r:Ref)(new:List AV):afp z a H r (some new)=if new=[] then some (bZ,H) else if new.length * a<=bI then some (.cC r 0 new.length none,({ r with k:=0},some ⟨z,new,true,false⟩) :: H) else none:=id rfl
@[simp] theorem aaS{P:Program}{t t':TypeId}(j:pT P t=true)(c:Hm P t'=true)(A:Bool)(H:ai)(r:Ref)(x:AV)(g:(kM (nL P t) H.get x).isSome=true) :
 jn P A H r (some t) (some t') bZ x=afp (nL P t) (ug P t) H r (kM (nL P t) H.get x):=by
 obtain⟨new,C⟩:=gH.1 g
 rw[C,R8]
 have g:=yf C
 unfold pT at j
 by_cases b:new=[]
 ·rw[if_pos b]
  subst b
  obtain⟨e,m,i,n,q,o,u,D,k,l⟩:=lb j
  have a:=g.pg j i
  unfold Hm at c
  simp only[aZ,dQ]at c
  have f:(P.underlying t').isNone=false:=by cases h:P.underlying t' with | none=>rw[h]at c;simp at c | some d=>rfl
  have p : ¬((P.underlying t').isNone=true\/isInt P t'≠isNum x):=by rw[f,c.2,g.num];simp
  have z : ¬(nL P t≠nL P t\/nL P t=0\/ug P t=0\/m.cells.length≠nL P t):=by simp[u,k,l]
  simp only[jn,jv,fy,i,Option.map_some,fQ,if_neg p,n,q,o,a,if_neg z,if_true]
  rfl
 ·rw[if_neg b]
  split
  ·rename_i v;exact Vl j c A H r g b v
  ·rename_i v
   obtain⟨e,m,i,n,q,o,u,D,k,l⟩:=lb j
   have a:=g.pg j i
   unfold Hm at c
   simp only[aZ,dQ]at c
   have f:(P.underlying t').isNone=false:=by cases h:P.underlying t' with | none=>rw[h]at c;simp at c | some d=>rfl
   have p : ¬((P.underlying t').isNone=true\/isInt P t'≠isNum x):=by rw[f,c.2,g.num];simp
   have z : ¬(nL P t≠nL P t\/nL P t=0\/ug P t=0\/m.cells.length≠nL P t):=by simp[u,k,l]
   have B : ¬(nL P t≠nL P t\/nL P t=0\/ug P t=0\/new=[]\/m.cells.length≠nL P t):=by simp[u,k,l,b]
   have y:jv P H.get r (some t) (some t') bZ x=none:=by
    simp only[jv,fy,i,Option.map_some,fQ,if_neg p,n,q,o,a,if_neg z,if_neg b,if_neg v]
   simp only[jn,y,IW]
   cases A
   ·rfl
   ·simp only[LZ,mI,fy,i,Option.map_some,fQ,if_neg p,n,q,o,a,if_neg B]
def bsG(a:Bool)(z:Nat)(b:AV)(H:ai)(r:Ref)(n:Nat)(ps:List (Nat × AV)):dv:=match iL (List.replicate n b) ps with
 | some es=>if a then some (.cG z es (some n),H) else some (.cC r 0 n (some n),({ r with k:=0},some ⟨z,es,true,false⟩) :: H)
 | none=>none
@[simp] theorem ahe{P:Program}{t:TypeId}(g:pT P t=true)(a m:Bool)(H:ai)(r:Ref)(n:Nat)(ps:List (Nat × AV))(f:n * nL P t<=16777216)(o:fG H.get ps=some ps)(c:bY H.get (ps.map (·.2))=[])
 (l:ps.all (λp=>p.2.cells.length == nL P t&&p.2.cells.all AV.one)=true) (b:(iL (List.replicate n (jE P t)) ps).isSome=true) :
 oS P a m H r t n (some ps)=bsG a (nL P t) (jE P t) H r n ps:=by
 obtain⟨es,b⟩:=gH.1 b
 unfold pT at g
 obtain⟨e,i,j,v,x,k,z,y,q,u⟩:=lb g
 have h:(dN P t).bind (eD P)=some i:=by rw[j];exact k
 have d:jE P t=i:=by unfold jE;rw[h];rfl
 rw[d]at b ⊢
 rw[Ve g f o c l h b]
 unfold bsG
 rw[b]
@[simp] theorem VK(es:List AV):iL es []=some es:=id rfl
@[simp] theorem UW(es:List AV)(i:Nat)(v:AV)(ps:List (Nat × AV)):iL es ((i,v) :: ps)=if i<es.length then iL (es.set i v) ps else none:=id rfl
@[simp] theorem afj(a:Bool)(z:Nat)(b:AV)(H:ai)(r:Ref)(n:Nat)(ps:List (Nat × AV)):bsG a z b H r n ps=(iL (List.replicate n b) ps).bind λes=>if a then some (.cG z es (some n),H) else some (.cC r 0 n (some n),({ r with k:=0},some ⟨z,es,true,false⟩) :: H):=by
 unfold bsG;cases iL (List.replicate n b) ps<;>rfl
@[simp] theorem VC(g:db):fG g []=some []:=id rfl
@[simp] theorem SD(g:db)(i:Nat)(x:AV)(ps:List (Nat × AV)):fG g ((i,x) :: ps)=(view g depth x).bind λy=>(fG g ps).map ((i,y) :: ·):=by
 unfold fG
 rw[Mc]
 dsimp only
 cases view g depth x<;>rfl
def aeI(z o n:Nat)(k:Int)(r:Ref)(b:Option bA):jh:=match b with
 | some b=>if 0<=k/\k<n/\z=b.esz then some (.ptr r (o+k.toNat) 0,[]) else none
 | none=>none
@[simp] theorem acf(z o n:Nat)(k:Int)(r:Ref)(b:bA):aeI z o n k r (some b)=if 0<=k/\k<n/\z=b.esz then some (.ptr r (o+k.toNat) 0,[]) else none:=id rfl
@[simp] theorem Se{P:Program}{t:TypeId}(h:pT P t=true)(g:db)(r:Ref)(o n:Nat)(c:Option Nat)(a:IntKind)(k:Int) :
 cT P g t (some (.cC r o n c)) (some (.v (.int a k)))=aeI (nL P t) o n k r (g r):=by
 unfold pT at h
 obtain⟨e,j,b,d,l,m,q,p,f,i⟩:=lb h
 simp only[cT,fy,intOf,b,d]
 cases g r<;>rfl
def N2(H:ai)(r:Ref)(o:Option bA)(n i j:Nat)(x:AV):dv:=match o with
 | some ⟨z,es,true,false⟩=>if x.cells.length=n/\x.cells.all AV.one=true then (jt es i j x.cells).map λes=>(AV.undef,H.put r (some ⟨z,es,true,false⟩)) else none
 | some ⟨z,es,false,false⟩=>if x.cells.length=n/\x.cells.all AV.one=true then (jt es i j x.cells).map λes=>(AV.undef,H.put r (some ⟨z,es,false,false⟩)) else none
 | _=>none
@[simp] theorem Gj(H:ai)(r:Ref)(z:Nat)(es:List AV)(n i j:Nat)(x:AV):N2 H r (some ⟨z,es,true,false⟩) n i j x=if x.cells.length=n/\x.cells.all AV.one=true then (jt es i j x.cells).map λes=>(AV.undef,H.put r (some ⟨z,es,true,false⟩)) else none:=id rfl
@[simp] theorem Zf(H:ai)(r:Ref)(z:Nat)(es:List AV)(n i j:Nat)(x:AV):N2 H r (some ⟨z,es,false,false⟩) n i j x=if x.cells.length=n/\x.cells.all AV.one=true then (jt es i j x.cells).map λes=>(AV.undef,H.put r (some ⟨z,es,false,false⟩)) else none:=id rfl
def N5(H:ai)(o:Option bA)(x:AV):Prop:=match o with
 | some ⟨_,_,false,false⟩=>True
 | some ⟨_,_,true,false⟩=>view H.get depth x=some x/\ax H.get depth x=[]
 | _=>False
@[simp] theorem Zh(H:ai)(z:Nat)(es:List AV)(x:AV):N5 H (some ⟨z,es,false,false⟩) x=True:=id rfl
@[simp] theorem Zi(H:ai)(z:Nat)(es:List AV)(x:AV):N5 H (some ⟨z,es,true,false⟩) x=(view H.get depth x=some x/\ax H.get depth x=[]):=id rfl
theorem Sx{P:Program}{t:TypeId}(d:(aJ P t).isSome=true)(H:ai)(r:Ref)(i j:Nat)(x:AV)(c:N5 H (H.get r) x) :
 nc P H t (some (.ptr r i j)) (some x)=N2 H r (H.get r) ((aJ P t).getD 0) i j x:=by
 obtain⟨n,d⟩:=gH.1 d
 simp only[nc,d,fQ]
 cases e:H.get r with
 | none=>rw[e]at c;exact c.elim
 | some b=>
  rw[e]at c
  obtain⟨z,es,arr,k8⟩:=b
  cases k8 with
  | true=>cases arr<;>exact c.elim
  | false=>
   cases arr with
   | false=>simp only[and_true,jH,if_false];rfl
   | true=>
    obtain⟨f,g⟩:=c
    simp only[and_true,if_true,f,g,Du,if_false,cH]
    by_cases a:x.cells.length=n/\x.cells.all AV.one=true
    ·rw[if_pos a,Gj,if_pos a,if_pos a.2]
    ·rw[if_neg a,Gj,if_neg a]
theorem Eo{α:Type}(f:α->AV)(l:List α)(i j:Nat)(new:List AV):jt (l.map f) i j new=(l[i]?).bind λa=>(sC (f a) j new).map λb=>(l.map f).set i b:=by
 unfold jt
 rw[oM]
 cases l[i]?<;>rfl
@[simp] theorem Vz(cs:List AV)(j:Nat)(new:List AV):sC (.agg cs) j new=if j+new.length<=cs.length then some (.agg (patch cs j new)) else none:=id rfl
@[simp] theorem ZA(f:Fn)(a b:List AV):xR f (some a) (some b)=some (.fn f a b,[]):=id rfl
attribute [simp] Sx
@[simp] theorem aar(a:Nat->Option (Nat × Nat))(cells:List AV):lE a cells []=some cells:=id rfl
def YT(a:Nat->Option (Nat × Nat))(cells:List AV)(v:AV)(rest:List (Nat × AV))(p:Option (Nat × Nat)):Option (List AV):=match p with
 | none=>none
 | some (off,size)=>if v.cells.length=size/\off+size<=cells.length then lE a (patch cells off v.cells) rest else none
@[simp] theorem YU(a:Nat->Option (Nat × Nat))(cells:List AV)(i:Nat)(v:AV)(rest:List (Nat × AV)):lE a cells ((i,v) :: rest)=YT a cells v rest (a i):=id rfl
@[simp] theorem aaq(a:Nat->Option (Nat × Nat))(cells:List AV)(v:AV)(rest:List (Nat × AV))(c b:Nat):YT a cells v rest (some (c,b))=if v.cells.length=b/\c+b<=cells.length then lE a (patch cells c v.cells) rest else none:=id rfl
@[simp] theorem X8(P:Program){g:db}{r:Ref}{a b:TypeId}{k':IntKind}(c:(P.underlying a).isNone=false)(e:intKind P b=some .u64)(n:Int)(d:0<=n)(f:n<=4294967296) :
 gf P g r a b (some (.v (.int k' n)))=some (.v (.int .u64 n),[]):=by
 rw[xS P .u64 c e,IntKind.wrap_u64,Nu d (by omega)]
@[simp] theorem ad4(r':Ref)(b':Option bA)(H:ai)(r:Ref)(b:Option bA):ai.put ((r',b') :: H) r b=if r'=r then (r,b) :: H else (r',b') :: ai.put H r b:=id rfl
@[simp] theorem V3{α a:Type}(f:α->a)(l:List α):List.take l.length (l.map f)=l.map f:=gw (by simp)
def Vu(z:Nat)(es:List AV)(y:AV):Prop:=(y=bZ/\es=[])\/y = .fsl z es none\/(y = .fsl z [] (some 0)/\es=[])
theorem WN(z:Nat):Vu z [] bZ := .inl ⟨rfl,rfl⟩
@[simp] theorem afw(z:Nat)(es:List AV):Vu z es bZ↔es=[]:=by
 constructor
 ·rintro(⟨_,e⟩ | e | ⟨e,_⟩)
  ·exact e
  ·cases e
  ·cases e
 ·rintro rfl;exact WN z
@[simp] theorem afx(z:Nat)(es a:List AV):Vu z es (.fsl z a none)↔es=a:=by
 constructor
 ·rintro(⟨e,_⟩ | e | ⟨e,_⟩)
  ·cases e
  ·cases e;rfl
  ·cases e
 ·rintro rfl;exact .inr (.inl rfl)
@[simp] theorem acE(z:Nat)(es:List AV):Vu z es (.fsl z [] (some 0))↔es=[]:=by
 constructor
 ·rintro(⟨e,_⟩ | e | ⟨_,e⟩)
  ·cases e
  ·cases e
  ·exact e
 ·rintro rfl;exact .inr (.inr ⟨rfl,rfl⟩)
theorem Na{P:Program}{t t':TypeId}(l:pT P t=true)(c:Hm P t'=true)(D:Bool)(H:ai)(r q:Ref)(n k:Nat)(x:AV){es new:List AV}{fz:Bool}(y:H.get q=some ⟨nL P t,es,true,fz⟩)(f:kM (nL P t) H.get x=some new)(E:n=es.length)(j:new=[]\/((es.length+new.length) * ug P t<=bI/\k<es.length+new.length)) :
 jn P D H r (some t) (some t') (.cC q 0 n (some k)) x=if new=[] then some (.cC q 0 n (some k),H) else some (.cC r 0 (es.length+new.length) none,({ r with k:=0},some ⟨nL P t,es++new,true,false⟩) :: H):=by
 subst E
 have f:=yf f
 unfold pT at l
 obtain⟨e,C,i,m,v,o,F,G,z,A⟩:=lb l
 have a:=f.pg l i
 unfold Hm at c
 simp only[aZ,dQ]at c
 have g:(P.underlying t').isNone=false:=by cases h:P.underlying t' with | none=>rw[h]at c;simp at c | some d=>rfl
 have u : ¬((P.underlying t').isNone=true\/isInt P t'≠isNum x):=by rw[g,c.2,f.num];simp
 have p : ¬(nL P t≠nL P t\/nL P t=0\/ug P t=0\/C.cells.length≠nL P t):=by simp[F,z,A]
 by_cases b:new=[]
 ·subst b
  simp only[jn,jv,fy,i,Option.map_some,fQ,if_neg u,m,v,o,a,if_neg p,y,if_true]
  simp
 ·obtain⟨B,j⟩:=j.resolve_left b
  simp only[jn,jv,fy,i,Option.map_some,fQ,if_neg u,m,v,o,a,if_neg p,y,if_neg b]
  simp only[ne_eq,not_true_eq_false,Bool.true_eq_false,or_self,if_false,uy,bD,j,B,and_self,if_true,Jr,FF]
  rfl
def jW(z a n:Nat)(d:Bool)(c:Option Nat)(b:Option bA)(new:Option (List AV)):Prop:=match b,new with
 | some ⟨e,es,true,_⟩,some new=>e=z/\n=es.length/\(new=[]\/((es.length+new.length) * a<=bI/\match c with | none=>d=true | some k=>k<es.length+new.length))
 | _,_=>False
theorem aO(z a n:Nat)(b:Bool)(c:Nat)(es new:List AV)(fz:Bool):jW z a n b none (some ⟨c,es,true,fz⟩) (some new)=(c=z/\n=es.length/\(new=[]\/((es.length+new.length) * a<=bI/\b=true))):=id rfl
theorem aQ(z a n:Nat)(c:Bool)(k b:Nat)(es new:List AV)(fz:Bool):jW z a n c (some k) (some ⟨b,es,true,fz⟩) (some new)=(b=z/\n=es.length/\(new=[]\/((es.length+new.length) * a<=bI/\k<es.length+new.length))):=id rfl
def XB(z:Nat)(H:ai)(q r:Ref)(n:Nat)(c:Option Nat)(b:Option bA)(new:Option (List AV)):dv:=match b,new with
 | some b,some []=>some (.cC q 0 n c,H)
 | some b,some new=>match c with
  | none=>some (.cC ⟨q.d,q.t,H.gen q.d q.t,0⟩ 0 (b.es.length+new.length) none,(⟨q.d,q.t,H.gen q.d q.t,0⟩,some ⟨z,b.es++new,true,b.k8⟩) :: H.put q none)
  | some _=>some (.cC r 0 (b.es.length+new.length) none,({ r with k:=0},some ⟨z,b.es++new,true,false⟩) :: H)
 | _,_=>none
@[simp] theorem Vm(z:Nat)(H:ai)(q r:Ref)(n:Nat)(c:Option Nat)(b:bA):XB z H q r n c (some b) (some [])=some (.cC q 0 n c,H):=id rfl
theorem cg(z:Nat)(H:ai)(q r:Ref)(n:Nat)(b:bA)(new:List AV)(a:new≠[]):XB z H q r n none (some b) (some new)=some (.cC ⟨q.d,q.t,H.gen q.d q.t,0⟩ 0 (b.es.length+new.length) none,(⟨q.d,q.t,H.gen q.d q.t,0⟩,some ⟨z,b.es++new,true,b.k8⟩) :: H.put q none):=by
 cases new with
 | nil=>exact(a rfl).elim
 | cons _ _=>rfl
theorem cf(z:Nat)(H:ai)(q r:Ref)(n k:Nat)(b:bA)(new:List AV)(a:new≠[]):XB z H q r n (some k) (some b) (some new)=some (.cC r 0 (b.es.length+new.length) none,({ r with k:=0},some ⟨z,b.es++new,true,false⟩) :: H):=by
 cases new with
 | nil=>exact(a rfl).elim
 | cons _ _=>rfl
theorem ba{P:Program}{t t':TypeId}(m:pT P t=true)(g:Hm P t'=true)(u:Bool)(H:ai)(r q:Ref)(n:Nat)(c:Option Nat)(x:AV)(a:jW (nL P t) (ug P t) n u c (H.get q) (kM (nL P t) H.get x)) :
 jn P u H r (some t) (some t') (.cC q 0 n c) x=XB (nL P t) H q r n c (H.get q) (kM (nL P t) H.get x):=by
 cases i:H.get q with
 | none=>rw[i]at a;exact a.elim
 | some b=>
  obtain⟨J,es,arr,fz⟩:=b
  cases o:kM (nL P t) H.get x with
  | none=>rw[i,o]at a;cases arr<;>exact a.elim
  | some new=>
   rw[i,o]at a
   cases arr with
   | false=>exact a.elim
   | true=>
    obtain⟨rfl,rfl,a⟩:=a
    cases c with
    | none=>
     by_cases f:new=[]
     ·subst f
      rw[Vm]
      have j:=yf o
      unfold pT at m
      obtain⟨e,B,v,C,G,D,I,K,y,z⟩:=lb m
      have l:=j.pg m v
      unfold Hm at g
      simp only[aZ,dQ]at g
      have p:(P.underlying t').isNone=false:=by cases h:P.underlying t' with | none=>rw[h]at g;simp at g | some d=>rfl
      have F : ¬((P.underlying t').isNone=true\/isInt P t'≠isNum x):=by rw[p,g.2,j.num];simp
      have E : ¬(nL P t≠nL P t\/nL P t=0\/ug P t=0\/B.cells.length≠nL P t):=by simp[I,y,z]
      simp only[jn,jv,fy,v,Option.map_some,fQ,if_neg F,C,G,D,l,if_neg E,i,if_true]
      simp
     ·obtain⟨A,rfl⟩:=a.resolve_left f
      rw[cg _ _ _ _ _ _ _ f]
      exact M9 (by exact m) g H r q _ (yf o) i rfl f A
    | some k=>
     rw[Na m g u H r q _ k x i o rfl a]
     split
     ·rename_i f;subst f;rfl
     ·rename_i f;rw[cf _ _ _ _ _ _ _ _ f]
theorem Sl.PX{z:Nat}{es:List AV}{x:AV}(h:Sl z es x):x=bZ/\es=[] \/∃c,x = .cG z es c:=by
 rcases h with h | ⟨c,h,_⟩
 ·exact .inl h
 ·exact .inr ⟨c,h⟩
@[simp] theorem WK(P:Program)(t:TypeId)(a b:Operand)(h:(dN P t).isSome=true)(z:Nat)(es:List AV)(c:Option Nat):bS P .eql t a b (some (.cG z es c)) (some bZ)=some (aB false,[]):=by
 unfold dN at h
 split at h
 ·rename_i e d
  simp[bS,Kq,oa,d]
 ·cases h
def aeS(b:Option bA):Bool:=match b with | some b=>b.k8 | none=>false
@[simp] theorem ach(b:bA):aeS (some b)=b.k8:=id rfl
@[simp] theorem aaV(g:db):jX g []=true:=id rfl
@[simp] theorem Y2(g:db)(r:Ref)(rs:List Ref):jX g (r :: rs)=(aeS (g r)&&jX g rs):=id rfl
theorem aV(H:ai)(r:Ref)(refs:List Ref)(y:AV)(a:flat depth y=false)(b:jX H.get refs=false):AD true H r refs (some y)=some ((aE r depth y []).1,keyed r 0 (aE r depth y []).2 (cH H refs)):=by
 simp only[AD,a,b,Fy,jH,if_false,if_true]
def WO(z:Nat):List AV->AV
 | []=>bZ
 | es => .fsl z es none
@[simp] theorem ad6(z:Nat):WO z []=bZ:=id rfl
theorem CM(z:Nat){es:List AV}(h:es≠[]):WO z es = .fsl z es none:=by
 cases es with
 | nil=>exact(h rfl).elim
 | cons _ _=>rfl
def rq:AV->AV
 | .cG z [] _ => .fsl z [] (some 0)
 | .cG z es _ => .fsl z es none
 | x=>x
@[simp] theorem U9(x:Value):rq (.v x) = .v x:=id rfl
@[simp] theorem O7(z:Nat)(c:Option Nat):rq (.cG z [] c) = .fsl z [] (some 0):=id rfl
theorem sL(z:Nat){es:List AV}(c:Option Nat)(h:es≠[]):rq (.cG z es c) = .fsl z es none:=by
 cases es with
 | nil=>exact(h rfl).elim
 | cons _ _=>rfl
theorem vc{z:Nat}{es:List AV}{x:AV}(h:Sl z es x):Vu z es (rq x):=by
 rcases h with ⟨rfl,rfl⟩ | ⟨c,rfl,_⟩
 ·simp
 ·by_cases a:es=[]
  ·subst a;simp
  ·rw[sL z c a];simp
def kr(z:Nat)(es:List AV)(H:ai)(x y:AV):Prop:=(x=y/\Sl z es y) \/∃r c fz,x = .cC r 0 es.length c/\H.get r=some ⟨z,es,true,fz⟩/\y = .cG z es c/\es.length<=c.getD es.length
theorem kr.sl{z:Nat}{es:List AV}{H:ai}{x y:AV}(h:kr z es H x y):Sl z es y:=by
 rcases h with ⟨_,h⟩ | ⟨r,c,fz,_,_,rfl,h⟩
 ·exact h
 ·exact .inr ⟨c,rfl,h⟩
theorem kr.view{z:Nat}{es:List AV}{H:ai}{x y:AV}(h:kr z es H x y)(n:Nat):Ab.view H.get (n+1) x=some y:=by
 rcases h with ⟨rfl,h⟩ | ⟨r,c,fz,rfl,a,rfl,_⟩
 ·exact h.view _ _
 ·rw[Iq a rfl]
theorem kr.len{z:Nat}{es:List AV}{H:ai}{x y:AV}(h:kr z es H x y):wh x=some es.length:=by
 rcases h with ⟨rfl,h⟩ | ⟨r,c,fz,rfl,a,rfl,_⟩
 ·exact h.len
 ·rfl
theorem kr.cells{z:Nat}{es:List AV}{H:ai}{x y:AV}(h:kr z es H x y):x.cells=[x]/\x.one=true:=by
 rcases h with ⟨rfl,h⟩ | ⟨r,c,fz,rfl,a,rfl,_⟩
 ·exact h.cells
 ·exact⟨rfl,rfl⟩
theorem kr.put{z:Nat}{es:List AV}{H:ai}{x y:AV}(h:kr z es H x y){q:Ref}(e:x.at?≠some q)(b:Option bA):kr z es (H.put q b) x y:=by
 rcases h with h | ⟨r,c,fz,rfl,d,rfl,a⟩
 ·exact .inl h
 ·refine .inr ⟨r,c,fz,rfl,?_,rfl,a⟩
  rw[ai.get_put,if_neg (by rintro rfl;exact e rfl),d]
theorem kr.cons{z:Nat}{es:List AV}{H:ai}{x y:AV}(h:kr z es H x y)(f:Fr H)(d t:Nat)(b:Option bA):kr z es ((⟨d,t,H.gen d t,0⟩,b) :: H) x y:=by
 rcases h with h | ⟨r,c,fz,rfl,a,rfl,e⟩
 ·exact .inl h
 ·refine .inr ⟨r,c,fz,rfl,?_,rfl,e⟩
  rw[ai.tu,if_neg (ud f (by rw[a];rfl) d t 0),a]
theorem kr.r{z:Nat}{es:List AV}{H:ai}{x y:AV}(h:kr z es H x y):wh x=some es.length/\(∀n,Ab.view H.get (n+1) x=some y)/\x.cells=[x]/\x.one=true:=⟨h.len,h.view,h.cells⟩
theorem kr.of{z:Nat}{es:List AV}{x:AV}(h:Sl z es x)(H:ai):kr z es H x x := .inl ⟨rfl,h⟩
def Sb(z:Nat)(es:List AV)(H:ai)(x:AV)(r:Ref):Prop:=(x=bZ/\es=[]) \/∃c,x = .cC r 0 es.length c/\H.get r=some ⟨z,es,true,false⟩
theorem Sb.len{z:Nat}{es:List AV}{H:ai}{x:AV}{r:Ref}(h:Sb z es H x r):wh x=some es.length:=by
 rcases h with ⟨rfl,rfl⟩ | ⟨c,rfl,_⟩<;>rfl
theorem Sb.cells{z:Nat}{es:List AV}{H:ai}{x:AV}{r:Ref}(h:Sb z es H x r):x.cells=[x]/\x.one=true:=by
 rcases h with ⟨rfl,rfl⟩ | ⟨c,rfl,_⟩<;>exact⟨rfl,rfl⟩
theorem Sb.cC{z:Nat}{es:List AV}{H:ai}{x:AV}{r:Ref}(h:Sb z es H x r){k:Nat}(a:k<es.length) : ∃c,x = .cC r 0 es.length c/\H.get r=some ⟨z,es,true,false⟩:=by
 rcases h with ⟨rfl,rfl⟩ | h
 ·simp at a
 ·exact h
def tz(a:List Nat)(z:Nat)(es:List AV)(H:ai)(x:AV):Prop:=(x=bZ/\es=[]) \/∃t g,t∈a/\x = .cC ⟨0,t,g,0⟩ 0 es.length none/\H.get ⟨0,t,g,0⟩=some ⟨z,es,true,false⟩
@[simp] theorem acD(b:List Nat)(z:Nat)(es:List AV)(H:ai)(t g n:Nat):tz b z es H (.cC ⟨0,t,g,0⟩ 0 n none)↔t∈b/\n=es.length/\H.get ⟨0,t,g,0⟩=some ⟨z,es,true,false⟩:=by
 constructor
 ·rintro(⟨e,_⟩ | ⟨t',c,a,e,h⟩)
  ·cases e
  ·cases e;exact⟨a,rfl,h⟩
 ·rintro⟨a,rfl,h⟩;exact .inr ⟨t,g,a,rfl,h⟩
theorem kr.live{z:Nat}{es:List AV}{H:ai}{x y:AV}(h:kr z es H x y){r:Ref}(b:x.at?=some r):(H.get r).isSome=true:=by
 rcases h with ⟨rfl,h⟩ | ⟨r',c,fz,rfl,a,rfl,_⟩
 ·rcases h with ⟨rfl,_⟩ | ⟨c,rfl,_⟩<;>cases b
 ·cases b;rw[a];rfl
theorem kr.mono{z:Nat}{es:List AV}{H H':ai}{x y:AV}(h:kr z es H x y)(d : ∀r,x.at?=some r->H'.get r=H.get r):kr z es H' x y:=by
 rcases h with h | ⟨r',c,fz,rfl,a,rfl,b⟩
 ·exact .inl h
 ·exact .inr ⟨r',c,fz,rfl,by rw[d r' rfl,a],rfl,b⟩
theorem ad{H:ai}(a:Fr H){q:Ref}(h:(H.get q).isSome=true)(d t k:Nat):((⟨d,t,H.gen d t+1,k⟩:Ref)=q)=False:=
 eq_false λe=>by subst e;rw[a _ _ _ _ (Dp _)]at h;cases h
theorem ae{H:ai}(a:Fr H){q:Ref}(h:(H.get q).isSome=true)(d t k:Nat):(q=(⟨d,t,H.gen d t+1,k⟩:Ref))=False:=
 eq_false λe=>by subst e;rw[a _ _ _ _ (Dp _)]at h;cases h
theorem ak{H:ai}(a:Fr H)(d t k:Nat):H.get ⟨d,t,H.gen d t+1,k⟩=none:=a _ _ _ _ (Dp _)
theorem aj{H:ai}(c:Fr H){d t g:Nat}(k:Nat)(l:g=H.gen d t\/g+1=H.gen d t)(b:Option bA):Fr ((⟨d,t,g,k⟩,b) :: H):=by
 intro i t' m k' h
 rw[ai.Mz]at h
 rw[ai.tu]
 by_cases a:d=i/\t=t'
 ·obtain⟨rfl,rfl⟩:=a
  rw[if_pos ⟨rfl,rfl⟩]at h
  rw[if_neg (by intro e;injection e;omega)]
  exact c _ _ _ _ (by omega)
 ·rw[if_neg a]at h
  rw[if_neg (by intro e;injection e with j f;exact a ⟨j,f⟩)]
  exact c _ _ _ _ h
def P6(a:Nat)(es:List AV)(k:Nat)(new:Option (List AV)):Prop:=match new with
 | some new=>new=[]\/(k<es.length+new.length/\(es.length+new.length) * a<=bI)
 | none=>False
theorem ay(a:Nat)(es:List AV)(k:Nat)(new:List AV):P6 a es k (some new)=(new=[]\/(k<es.length+new.length/\(es.length+new.length) * a<=bI)):=id rfl
def aab(z:Nat)(H:ai)(r:Ref)(es:List AV)(k:Nat)(new:Option (List AV)):dv:=match new with
 | some []=>some (.cG z es (some k),H)
 | some new=>some (.cC r 0 (es.length+new.length) none,({ r with k:=0},some ⟨z,es++new,true,false⟩) :: H)
 | none=>none
@[simp] theorem UJ(z:Nat)(H:ai)(r:Ref)(es:List AV)(k:Nat):aab z H r es k (some [])=some (.cG z es (some k),H):=id rfl
theorem bE(z:Nat)(H:ai)(r:Ref)(es:List AV)(k:Nat)(new:List AV)(a:new≠[]):aab z H r es k (some new)=some (.cC r 0 (es.length+new.length) none,({ r with k:=0},some ⟨z,es++new,true,false⟩) :: H):=by
 cases new with
 | nil=>exact(a rfl).elim
 | cons _ _=>rfl
theorem bc{P:Program}{t t':TypeId}(l:pT P t=true)(c:Hm P t'=true)(E:Bool)(H:ai)(r:Ref)(z k:Nat)(es:List AV)(x:AV)(y:z=nL P t)(g:P6 (ug P t) es k (kM (nL P t) H.get x)) :
 jn P E H r (some t) (some t') (.cG z es (some k)) x=aab z H r es k (kM (nL P t) H.get x):=by
 subst y
 cases m:kM (nL P t) H.get x with
 | none=>rw[m]at g;exact g.elim
 | some new=>
  rw[m]at g
  have b:=yf m
  unfold pT at l
  obtain⟨e,C,j,n,u,o,F,G,v,A⟩:=lb l
  have a:=b.pg l j
  unfold Hm at c
  simp only[aZ,dQ]at c
  have i:(P.underlying t').isNone=false:=by cases h:P.underlying t' with | none=>rw[h]at c;simp at c | some d=>rfl
  have q : ¬((P.underlying t').isNone=true\/isInt P t'≠isNum x):=by rw[i,c.2,b.num];simp
  have p : ¬(nL P t≠nL P t\/nL P t=0\/ug P t=0\/C.cells.length≠nL P t):=by simp[F,v,A]
  by_cases f:new=[]
  ·subst f
   rw[UJ]
   simp only[jn,jv,fy,j,Option.map_some,fQ,if_neg q,n,u,o,a,if_neg p,if_neg (show ¬(nL P t≠nL P t) by simp),if_true]
   rfl
  ·obtain⟨D,B⟩:=g.resolve_left f
   rw[bE _ _ _ _ _ _ f]
   simp only[jn,jv,fy,j,Option.map_some,fQ,if_neg q,n,u,o,a,if_neg p,if_neg (show ¬(nL P t≠nL P t) by simp),if_neg f,if_pos (show k<es.length+new.length/\(es.length+new.length) * ug P t<=bI from⟨D,B⟩)]
   rfl
@[simp] theorem acg(n:Nat)(h:n<9223372036854775808):IntKind.i64.wrap (no_index (OfNat.ofNat n):Int)=OfNat.ofNat n:=by
 show IntKind.i64.wrap (n:Int)=n
 exact IntWalk.i64_in _ (by omega)
@[simp] theorem afl(len:Nat)(cap:Option Nat)(a b:Option Int):bounds len cap a b none=if 0<=a.getD 0/\a.getD 0<=b.getD len/\b.getD len<=len then some ((a.getD 0).toNat,(b.getD len).toNat,cap.map (· - (a.getD 0).toNat)) else none:=id rfl
@[simp] theorem adN(k:Nat):min k IntKind.i64.bits=min k 64:=id rfl
@[simp] theorem afq(l:List (AV × AV))(st a:List AV)(H:ai):mQ l st a H↔(l.all λp=>qR p.1 p.2)=true/\st.all (wT H)=true/\a.all bsV=true:=Iff.rfl
@[simp] theorem abz(r:Ref)(i j:Nat)(r':Ref)(b a:Nat):qR (.ptr r i j) (.ptr r' b a) = !decide (r=r'):=by
 unfold qR;simp[ju]
@[simp] theorem aby(v:Value)(x:AV):qR x (.v v)=true:=by
 unfold qR;cases ju x<;>rfl
def N1(o:Option bA):Bool:=match o with
 | some b => !b.arr
 | none=>false
@[simp] theorem X1(b:bA):N1 (some b) = !b.arr:=id rfl
@[simp] theorem adM(H:ai)(r:Ref)(i j:Nat):wT H (.ptr r i j)=N1 (H.get r):=by
 cases h:H.get r<;>simp[wT,N1,h]
def be:Nat->Int->List UInt8
 | 0,_=>[]
 | k+1,n=>be k (n / 256)++[u8 n]
def ahn(a:Int)(l:List UInt8):Int:=l.foldl (λa b=>256 * a+(b.toNat:Int)) a
def val(l:List UInt8):Int:=ahn 0 l
@[simp] theorem Vi(k:Nat) : ∀n,(be k n).length=k:=by
 induction k with
 | zero=>intro n;rfl
 | succ k a=>intro n;simp[be,a]
@[simp] theorem ahh(n:Int):be 0 n=[]:=id rfl
theorem KG(k:Nat) : ∀n:Int,be (k+1) n=u8 (n / 256 ^ k) :: be k n:=by
 induction k with
 | zero=>intro n;simp[be]
 | succ k a=>
  intro n
  rw[be,a,be]
  rw[Int.ediv_ediv_of_nonneg (by omega),Int.pow_succ,Int.mul_comm (256 ^ k)]
  simp
@[simp] theorem aaQ(k:Nat)(n:Int):be k n=[]↔k=0:=by
 rw[<-List.length_eq_zero_iff,Vi]
theorem Pg(n:Int):be 4 n=[u8 (n / 16777216),u8 (n / 65536),u8 (n / 256),u8 n]:=by
 simp[KG]
theorem ah4(n:Int):be 7 n=[u8 (n / 281474976710656),u8 (n / 1099511627776),u8 (n / 4294967296),u8 (n / 16777216),u8 (n / 65536),u8 (n / 256),u8 n]:=by
 simp[KG]
theorem fu(n:Int)(k:Nat):n.fdiv (no_index (OfNat.ofNat k))=n / OfNat.ofNat k:=Int.fdiv_eq_ediv_of_nonneg _ (Int.natCast_nonneg k)
def xU(z:Nat):List AV->AV
 | []=>bZ
 | es => .cG z es none
theorem CL(z:Nat){es:List AV}(h:es≠[]):xU z es = .cG z es none:=by
 cases es with
 | nil=>exact(h rfl).elim
 | cons _ _=>rfl
theorem AY(z:Nat)(es:List AV):Sl z es (xU z es):=by
 cases es with
 | nil=>exact .inl ⟨rfl,rfl⟩
 | cons a l=>exact .inr ⟨none,rfl,by simp⟩
theorem Sl.W6{z:Nat}{es:List AV}{x:AV}(h:Sl z es x)(b:es≠[]) : ∃c,x = .cG z es c/\es.length<=c.getD es.length:=by
 rcases h with ⟨_,rfl⟩ | ⟨c,h,a⟩
 ·exact(b rfl).elim
 ·exact⟨c,h,a⟩
def ZP(z:Nat)(b:Option bA)(q:jh):jh:=match b with
 | some b=>if z=b.esz then q else none
 | none=>none
@[simp] theorem abW(z:Nat)(b:bA)(q:jh):ZP z (some b) q=if z=b.esz then q else none:=id rfl
@[simp] theorem Zx{P:Program}{t:TypeId}(h:pT P t=true)(g:db)(r:Ref)(o n:Nat)(c:Option Nat)(f d a:Option Int) :
 iJ P g t (some (.cC r o n c)) (some f) (some d) (some a)=ZP (nL P t) (g r) ((bounds n c f d a).map λp=>(.cC r (o+p.1) (p.2.1 - p.1) p.2.2,[])):=by
 unfold pT at h
 obtain⟨e,q,j,k,v,u,y,x,l,m⟩:=lb h
 have i:(dN P t).bind (aJ P)=some (nL P t):=by rw[j];exact k
 unfold iJ
 dsimp only
 rw[i]
 cases g r with
 | none=>rfl
 | some b=>simp[ZP]
@[simp] theorem aaN(l:List UInt8):jR l=[]↔l=[]:=by simp[jR]
end Go.Ab
