/-
  The arguments of a law: from what is read before the call to data. No statement of a seat is proved here.
-/
import Derived.ChangeKeysEq
import Derived.Laws.Strings
import Derived.Test.YtmkmimgokagimaaGreatAbsCond
set_option linter.unusedVariables false
set_option linter.unusedSimpArgs false
set_option linter.unusedSectionVars false
set_option linter.unnecessarySimpa false
namespace Go.Ab
open Go.ChangeShapes Go.WideShapes Go.RowKit
def Oi(a:Bool)(xs:List AV):AV:=match a,xs with
 | false,[x]=>x
 | _,xs => .agg xs
def Pp(S:List AV->Prop):Nat->List AV->Prop
 | 0,xs=>xs=[]
 | k+1,xs =>∃a b,xs=a++b/\S a/\Pp S k b
def Xn(S:TypeId->List AV->Prop):List Field->List AV->Prop
 | [],xs=>xs=[]
 | f :: c,xs =>∃a b,xs=a++b/\S f.type a/\Xn S c b
def Dp(P:Program):Nat->TypeId->List AV->Prop
 | 0,_,_=>False
 | n+1,t,xs=>match P.underlying t with
  | some .bool =>∃b,xs=[aB b]
  | some (.int k) =>∃i,(k.min<=i/\i<=k.max)/\xs=[.v (.int k i)]
  | some .string =>∃s:ByteArray,xs=[aS s]
  | some (.slice e)=>xs=[ba] \/∃es:List (List AV),xs=[.cD (P.cellsOf e) (es.map (Oi ((dq P e).getD false))) none] /\∀x∈es,Dp P n e x
  | some (.struct a)=>Xn (Dp P n) a.toList xs
  | some (.array k e)=>Pp (Dp P n e) k xs
  | _=>False
def layout(P:Program):List Field->Nat->Option Nat
 | [],o=>some o
 | f :: a,o=>if f.offset=o then layout P a (o+P.cellsOf f.type) else none
def plain(P:Program):Nat->TypeId->Bool
 | 0,_=>false
 | n+1,t=>match P.underlying t with
  | some .bool | some (.int _) | some .string=>P.cellsOf t == 1
  | some (.slice e)=>P.cellsOf t == 1&&plain P n e&&decide (0<P.cellsOf e)
  | some (.struct a)=>a.toList.all (λf=>plain P n f.type)&&layout P a.toList 0 == some (P.cellsOf t)
  | some (.array k e)=>plain P n e&&P.cellsOf t == k * P.cellsOf e
  | _=>false
theorem Dp.facts{P:Program} : ∀(n:Nat)(t:TypeId)(xs:List AV),plain P n t=true->Dp P n t xs->xs.length=P.cellsOf t /\∀x∈xs,x.one=true:=by
 intro n
 induction n with
 | zero=>intro t xs h;simp[plain]at h
 | succ n G=>
  intro t xs hp c
  unfold plain at hp
  unfold Dp at c
  cases hu:P.underlying t with
  | none=>rw[hu]at c;exact c.elim
  | some d=>
   rw[hu]at hp c
   cases d<;>dsimp only at hp c<;>try (exact c.elim)
   ·obtain⟨b,rfl⟩:=c
    simp at hp;exact⟨by simp[hp],by simp[AV.one]⟩
   ·obtain⟨i,_,rfl⟩:=c
    simp at hp;exact⟨by simp[hp],by simp[AV.one]⟩
   ·obtain⟨s,rfl⟩:=c
    simp at hp;exact⟨by simp[hp],by simp[AV.one]⟩
   ·rename_i e
    simp only[aY,beq_iff_eq]at hp
    rw[hp.1.1]
    rcases c with rfl | ⟨es,rfl,_⟩
    ·simp[AV.one]
    ·simp[AV.one]
   ·rename_i k e
    simp only[aY,beq_iff_eq]at hp
    rw[hp.2]
    have : ∀(k:Nat)(xs:List AV),Pp (Dp P n e) k xs->xs.length=k * P.cellsOf e /\∀x∈xs,x.one=true:=by
     intro k
     induction k with
     | zero=>intro xs h;simp only[Pp]at h;subst h;simp
     | succ k y=>
      intro xs h
      obtain⟨a,b,rfl,u,z⟩:=h
      obtain⟨p,j⟩:=G e a hp.1 u
      obtain⟨q,E⟩:=y b z
      refine⟨by rw[pH,p,q,Ld];omega,λx v=>?_⟩
      rcases oH.1 v with h | h
      ·exact j x h
      ·exact E x h
    exact this k xs c
   ·rename_i J
    simp only[aY,beq_iff_eq,gy]at hp
    have : ∀(l:List Field)(o:Nat)(xs:List AV),(∀f∈l,plain P n f.type=true)->Xn (Dp P n) l xs->(∀m,layout P l o=some m->o+xs.length=m) /\∀x∈xs,x.one=true:=by
     intro l
     induction l with
     | nil=>intro o xs _ h;simp only[Xn]at h;subst h;exact⟨λm g=>by simp[layout]at g;simp[g],by simp⟩
     | cons f l D=>
      intro o xs F h
      obtain⟨a,b,rfl,u,z⟩:=h
      obtain⟨p,j⟩:=G f.type a (F f (jB ..)) u
      obtain⟨q,E⟩:=D (o+P.cellsOf f.type) b (λf I=>F f (iA _ I)) z
      refine⟨λm g=>?_,λx v=>?_⟩
      ·unfold layout at g
       split at g
       ·have:=q m g;rw[pH,p];omega
       ·cases g
      ·rcases oH.1 v with h | h
       ·exact j x h
       ·exact E x h
    obtain⟨p,j⟩:=this J.toList 0 xs hp.1 c
    exact⟨by have:=p _ hp.2;omega,j⟩
theorem QR{a:Bool}{xs:List AV}(b : ∀x∈xs,x.one=true):(Oi a xs).cells=xs:=by
 unfold Oi
 split
 ·rename_i x
  have:=b x (by simp)
  cases x<;>first | rfl | (simp[AV.one]at this)
 ·rfl
section
variable{H:Type}{enc:TypeId × Value->H}{P:Program}{w:World}{A:Nat}{B:Nat->Bool}{C:Bool}
abbrev wi(w:World):Mem:=λb o=>w.cell? ⟨b,o,none⟩
theorem QK : ∀(n m:Nat)(t:TypeId)(cs:List Value)(d:DataW H)(ps:List MemPlace),plain P m t=true->DataW.trod enc P w A B C n t cs=some (d,ps) ->
 ∃xs:List AV,Dp P m t xs/\mA (wi w) eB xs cs:=by
 intro n
 induction n with
 | zero=>intro m t cs d ps _ h;simp[DataW.trod]at h
 | succ n ih=>
  intro m t cs d ps hp h
  cases m with
  | zero=>simp[plain]at hp
  | succ m=>
  have hp0:=hp
  unfold plain at hp
  unfold Dp
  cases hu:P.underlying t with
  | none=>rw[hu]at hp;simp at hp
  | some dd=>
   rw[hu]at hp
   unfold DataW.trod at h
   rw[hu]at h
   have g : ∀ {x:AV} {c:Value},VR (wi w) eB x c->mA (wi w) eB [x] [c]:=λh=>mA.cons h mA.nil
   cases dd<;>dsimp only at hp ⊢ <;> try (simp at hp;done)
   ·
    rcases cs with _ | ⟨c,_ | ⟨c',cs⟩⟩
    ·simp at h
    ·cases c<;>first | (simp at h;done) | skip
     rename_i b
     exact⟨[aB b],⟨b,rfl⟩,g (.v rfl)⟩
    ·simp at h
   ·
    rename_i k
    rcases cs with _ | ⟨c,_ | ⟨c',cs⟩⟩
    ·simp at h
    ·cases c<;>first | (simp at h;done) | skip
     rename_i k' i
     dsimp only at h
     split at h
     ·rename_i hk
      obtain⟨rfl,hw⟩:=hk
      exact⟨[.v (.int k' i)],⟨i,by simpa [Lit.wf] using hw,rfl⟩,g (.v rfl)⟩
     ·cases h
    ·simp at h
   ·
    rcases cs with _ | ⟨c,_ | ⟨c',cs⟩⟩
    ·simp at h
    ·cases c<;>first | (simp at h;done) | skip
     rename_i s
     exact⟨[aS s],⟨s,rfl⟩,g (.v rfl)⟩
    ·simp at h
   ·
    rename_i e
    simp only[aY,beq_iff_eq,decide_eq_true_eq]at hp
    rcases cs with _ | ⟨c,_ | ⟨c',cs⟩⟩
    ·simp at h
    ·cases c<;>first | (simp at h;done) | skip
     rename_i a len cap
     cases a with
     | none=>
      have hlc:len=0/\cap=0:=by
       cases len<;>cases cap<;>simp at h ⊢
      obtain⟨rfl,rfl⟩:=hlc
      exact⟨[ba],.inl rfl,g (.v rfl)⟩
     | some a=>
      dsimp only at h
      split at h
      ·rename_i hb
       simp only[iw,bN]at h
       obtain⟨elems,hel,_⟩:=h
       have hlen:elems.length=len:=by simpa using kj hel
       have each : ∀i,i<len ->∃(xs:List AV) (q:List Value),Dp P m e xs/\mA (wi w) eB xs q/\w.cells? A (a.add (i * P.cellsOf e)) (P.cellsOf e)=some q:=by
        intro i F
        obtain⟨y,N,J⟩:=lL hel i i (by simp[F])
        simp only[iw]at J
        obtain⟨q,hvs,J⟩:=J
        obtain⟨xs,E,G⟩:=ih m e q y.1 y.2 hp.1.2 J
        exact⟨xs,q,E,G,hvs⟩
       have : ∀k,k<=len ->∃es:List (List AV),es.length=k /\∀i xs,es[i]?=some xs ->∃q:List Value,Dp P m e xs/\mA (wi w) eB xs q/\w.cells? A (a.add (i * P.cellsOf e)) (P.cellsOf e)=some q:=by
        intro k
        induction k with
        | zero=>intro _;exact⟨[],rfl,λi xs h=>by simp at h⟩
        | succ k ihk=>
         intro hk
         obtain⟨es,E,G⟩:=ihk (by omega)
         obtain⟨xs,q,Y⟩:=each k (by omega)
         refine⟨es++[xs],by simp[E],λi ys N=>?_⟩
         rcases fE i k with F | F
         ·rw[oI (by omega)]at N
          exact G i ys N
         ·have:i=k:=by
           have:=(iX.1 N).1
           simp[E]at this
           omega
          subst this
          rw[p4 (by omega)]at N
          simp[E]at N
          subst N
          exact⟨q,Y⟩
       obtain⟨es,hes,D⟩:=this len (de _)
       have O : ∀xs∈es,(Oi ((dq P e).getD false) xs).cells=xs/\xs.length=P.cellsOf e:=by
        intro xs p
        obtain⟨i,F,rfl⟩:=tD p
        obtain⟨q,E,G,Y⟩:=D i es[i] (fj F)
        obtain⟨S,Z⟩:=E.facts m e _ hp.1.2
        exact⟨QR Z,S⟩
       refine⟨[.cD (P.cellsOf e) (es.map (Oi ((dq P e).getD false))) none],.inr ⟨es,rfl,λxs p=>?_⟩,g ?_⟩
       ·obtain⟨i,F,rfl⟩:=tD p
        obtain⟨q,E,_⟩:=D i es[i] (fj F)
        exact E
       ·have V:(es.map (Oi ((dq P e).getD false))).length=len:=by simp[hes]
        have I : ∀i j,i<len->j<P.cellsOf e ->∃xs q,es[i]?=some xs/\mA (wi w) eB xs q/\(∀x∈xs,x.one=true)/\xs.length=P.cellsOf e/\wi w a.block (a.off+(i * P.cellsOf e+j))=q[j]?/\(a.spot=none):=by
         intro i j F T
         have hi':i<es.length:=by omega
         obtain⟨q,E,G,Y⟩:=D i es[i] (fj hi')
         obtain⟨S,Z⟩:=E.facts m e _ hp.1.2
         obtain⟨hb',hvl,hc⟩:=World.cells?_some Y
         have hj':=hc j T
         have hsp:a.spot=none:=by
          obtain⟨vs0,g1,g2,g3⟩:=D 0 es[0] (fj (by omega))
          obtain⟨_,hvl0,hc0⟩:=World.cells?_some g3
          have:=hc0 0 hp.2
          rw[Nat.zero_mul]at this
          have ha0:(a.add 0).add 0=a:=by simp[Addr.add]
          rw[ha0]at this
          unfold World.cell? at this
          cases hs:a.spot with
          | none=>rfl
          | some z=>
           exfalso
           have hl0:0<vs0.length:=by omega
           rw[fj hl0]at this
           split at this
           ·rw[hs]at this;simp at this
           ·simp at this
         refine⟨es[i],q,fj hi',G,Z,S,?_,hsp⟩
         rw[<-hj']
         unfold wi
         congr 1
         rw[lQ hsp,iW,iW,Lh]
        have:=VR.cD (M:=wi w) (ι:=eB) (esz:=P.cellsOf e) (es:=es.map (Oi ((dq P e).getD false))) (cap:=none) (a:=a) (c:=cap)
         (λi j=>(wi w a.block (a.off+(i * P.cellsOf e+j))).getD Go.undef) ?_ (by rw[V];exact hb.2.1) (λk hk=>by cases hk) ?_ ?_ ?_
        ·rw[V]at this;exact this
        ·rcases Kn len with h0 | h0
         ·right
          have:es=[]:=by apply Dy;omega
          simp[this]
         ·left
          obtain⟨_,_,_,_,_,_,_,hs⟩:=I 0 0 h0 hp.2
          exact hs
        ·intro i j F T
         rw[V]at F
         obtain⟨xs,q,E,G,Y,S,Z,_⟩:=I i j F T
         have K:j<q.length:=by rw[<-G.1,S];exact T
         have hjx:j<xs.length:=by rw[S];exact T
         rw[Z,fj K]
         refine⟨rfl,?_⟩
         have:=G.2 j xs[j] q[j] (fj hjx) (fj K)
         exact this.one (Y _ (mq ..))
        ·intro x hx
         obtain⟨xs,p,rfl⟩:=vd.1 hx
         rw[(O xs p).1]
         exact(O xs p).2
        ·intro i j x c hx hc
         rw[pG,bN]at hx
         obtain⟨xs,p,rfl⟩:=hx
         have U:xs∈es:=fU p
         rw[(O xs U).1]at hc
         have F:i<len:=by have:=(iX.1 p).1;omega
         have T:j<P.cellsOf e:=by have:=(iX.1 hc).1;rw[(O xs U).2]at this;exact this
         obtain⟨xs',q,E,G,Y,S,Z,_⟩:=I i j F T
         rw[p]at E
         cases E
         have K:j<q.length:=by rw[<-G.1,S];exact T
         show VR _ _ c ((wi w a.block (a.off+(i * P.cellsOf e+j))).getD Go.undef)
         rw[Z,fj K]
         exact G.2 j c q[j] hc (fj K)
      ·cases h
    ·simp at h
   ·
    rename_i k e
    simp only[aY,beq_iff_eq]at hp
    have h:cs.length=P.cellsOf t /\∃xs,((List.range k).mapM λi=>DataW.trod enc P w A B C n e ((cs.drop (i * P.cellsOf e)).take (P.cellsOf e)))=some xs:=by
     dsimp only at h
     split at h
     ·rename_i R
      simp only[bN]at h
      obtain⟨xs,p,_⟩:=h
      exact⟨R,xs,p⟩
     ·cases h
    obtain⟨R,ys,X⟩:=h
    rw[hp.2]at R
    have : ∀(k' L:Nat),L+k'=k ->∃xs,Pp (Dp P m e) k' xs/\mA (wi w) eB xs (cs.drop (L * P.cellsOf e)):=by
     intro k'
     induction k' with
     | zero=>
      intro L F
      refine⟨[],rfl,?_⟩
      rw[List.drop_of_length_le (by rw[R,<-F];simp)]
      exact mA.nil
     | succ k' ihk=>
      intro L F
      obtain⟨b,hb1,hb2⟩:=ihk (L+1) (by omega)
      obtain⟨y,_,J⟩:=lL X L L (by rw[List.getElem?_range (by omega)])
      obtain⟨a,W,Q⟩:=ih m e _ y.1 y.2 hp.1 J
      refine⟨a++b,⟨a,b,rfl,W,hb1⟩,?_⟩
      have:cs.drop (L * P.cellsOf e)=(cs.drop (L * P.cellsOf e)).take (P.cellsOf e)++cs.drop ((L+1) * P.cellsOf e):=by
       rw[Ld,<-E2,List.take_append_drop]
      rw[this]
      exact Q.append hb2
    obtain⟨xs,E,G⟩:=this k 0 (by omega)
    exact⟨xs,E,by simpa using G⟩
   ·
    rename_i fs
    simp only[aY,beq_iff_eq,gy]at hp
    have h:cs.length=P.cellsOf t /\∃xs,(fs.toList.mapM λf=>DataW.trod enc P w A B C n f.type ((cs.drop f.offset).take (P.cellsOf f.type)))=some xs:=by
     dsimp only at h
     split at h
     ·rename_i R
      simp only[bN]at h
      obtain⟨xs,p,_⟩:=h
      exact⟨R,xs,p⟩
     ·cases h
    obtain⟨R,ys,X⟩:=h
    have : ∀(l:List Field)(o:Nat),(∀f∈l,plain P m f.type=true)->(∀f∈l,∃y,DataW.trod enc P w A B C n f.type ((cs.drop f.offset).take (P.cellsOf f.type))=some y)->layout P l o=some cs.length ->
     ∃xs,Xn (Dp P m) l xs/\mA (wi w) eB xs (cs.drop o):=by
     intro l
     induction l with
     | nil=>
      intro o _ _ u
      simp[layout]at u
      refine⟨[],rfl,?_⟩
      rw[List.drop_of_length_le (by omega)]
      exact mA.nil
     | cons f l ihl=>
      intro o hpl htr u
      unfold layout at u
      split at u
      ·rename_i ho
       obtain⟨b,hb1,hb2⟩:=ihl (o+P.cellsOf f.type) (λf J=>hpl f (iA _ J)) (λf J=>htr f (iA _ J)) u
       obtain⟨y,J⟩:=htr f (jB ..)
       obtain⟨a,W,Q⟩:=ih m f.type _ y.1 y.2 (hpl f (jB ..)) J
       rw[ho]at Q
       refine⟨a++b,⟨a,b,rfl,W,hb1⟩,?_⟩
       have:cs.drop o=(cs.drop o).take (P.cellsOf f.type)++cs.drop (o+P.cellsOf f.type):=by
        rw[<-E2,List.take_append_drop]
       rw[this]
       exact Q.append hb2
      ·cases u
    obtain⟨xs,E,G⟩:=this fs.toList 0 hp.1 (λf J=>by
     obtain⟨i,F,rfl⟩:=tD J
     obtain⟨y,_,N⟩:=lL X i fs.toList[i] (fj F)
     exact⟨y,N⟩) (by rw[R];exact hp.2)
    exact⟨xs,E,by simpa using G⟩
def Ui(P:Program)(n:Nat)(t:TypeId)(x:AV):Prop:=
 match dq P t with
 | some true =>∃xs,x = .agg xs/\Dp P n t xs
 | _=>Dp P n t [x]
def Rs(P:Program)(n:Nat):List TypeId->List AV->Prop
 | [],[]=>True
 | t :: a,x :: xs=>Ui P n t x/\Rs P n a xs
 | _,_=>False
theorem QJ{m:Nat}{t:TypeId}{v:Value}{d:DataW H}{ps:List MemPlace}(hp:plain P m t=true)(c:Value.okWide P w .any A t v){g:Nat}(h:DataW.Trod enc P w g B C t v d ps) :
 ∃x:AV,Ui P m t x/\VR (wi w) eB x v:=by
 obtain⟨n,q⟩:=h
 obtain⟨xs,l,k⟩:=QK n m t v.cells.toList d ps hp q
 unfold Ui
 by_cases a:dq P t=some true
 ·rw[a]
  have : ∃cs,v = .agg cs:=by
   unfold dq at a
   unfold Value.okWide at c
   cases hu:P.underlying t with
   | none=>rw[hu]at a;simp at a
   | some i=>rw[hu]at a c;cases i<;>simp at a<;>(obtain⟨cs,rfl,_⟩:=c;exact⟨cs,rfl⟩)
  obtain⟨cs,rfl⟩:=this
  exact⟨.agg xs,⟨xs,rfl,l⟩,VR.sS.2 k⟩
 ·have j:v.cells = #[v] /\∃x,xs=[x]:=by
   have p:=l.facts m t xs hp
   cases m with
   | zero=>simp[plain]at hp
   | succ m=>
   have b:=hp
   unfold plain at b
   unfold dq at a
   unfold Value.okWide at c
   cases hu:P.underlying t with
   | none=>rw[hu]at b;simp at b
   | some i=>
    rw[hu]at b a c
    have f:P.cellsOf t=1->Cell.okWide P w .any A t v->v.cells = #[v] /\∃x,xs=[x]:=by
     intro o e
     refine⟨?_,?_⟩
     ·cases v<;>try rfl
      exfalso
      unfold Cell.okWide at e
      rw[hu]at e
      cases i<;>simp at b a<;>(simp[Cell.ok,hu]at e)
     ·have:=p.1
      rw[o]at this
      match xs,this with
      | [x],_=>exact⟨x,rfl⟩
    cases i<;>simp at b a
    ·exact f b c
    ·exact f b c
    ·exact f b c
    ·exact f b.1.1 c
  obtain⟨j,x,rfl⟩:=j
  rw[j]at k
  refine⟨x,?_,k.2 0 x v rfl rfl⟩
  have:(match dq P t with | some true =>∃xs,x = .agg xs/\Dp P m t xs | _=>Dp P m t [x])=Dp P m t [x]:=by
   split
   ·rename_i u;exact(a u).elim
   ·rfl
  rw[this]
  exact l
theorem V6{m:Nat}{a:Nat} : ∀ {b:List TypeId} {e:List Value} {ds:List (DataW H)} {ps:List MemPlace},b.all (plain P m)=true->(∀(j:Nat) t v,b[j]?=some t->e[j]?=some v->Value.okWide P w .any A t v) ->
 DataW.TrodAll enc P w a B C b e ds ps ->∃xs:List AV,Rs P m b xs/\mA (wi w) eB xs e:=by
 intro b
 induction b with
 | nil=>
  intro e ds ps _ _ h
  obtain⟨rfl,_,_⟩:=trodAll_nil h
  exact⟨[],trivial,mA.nil⟩
 | cons t b o=>
  intro e ds ps hp c h
  obtain⟨v,u,d,y,p,q,rfl,rfl,rfl,n,l⟩:=trodAll_cons h
  simp only[Br,aY]at hp
  obtain⟨x,g,k⟩:=QJ hp.1 (c 0 t v rfl rfl) n
  obtain⟨xs,i,f⟩:=o hp.2 (λj t v n l=>c (j+1) t v n l) l
  exact⟨x :: xs,⟨g,i⟩,mA.cons k f⟩
end
theorem No{H:Type}{enc:TypeId × Value->H}{P:Program}{w:World}{A:Nat}{B:Nat->Bool}{C:Bool} : ∀ {a:List TypeId} {b:List Value} {ds:List (DataW H)} {ps:List MemPlace},
 DataW.TrodAll enc P w A B C a b ds ps->ds.length=a.length:=by
 intro a
 induction a with
 | nil=>intro b ds ps h;obtain⟨_,rfl,_⟩:=trodAll_nil h;rfl
 | cons t a c=>
  intro b ds ps h
  obtain⟨v,f,d,g,p,q,rfl,rfl,rfl,_,e⟩:=trodAll_cons h
  simp[c e]
theorem zf{P:Program}{n:Nat}{t:TypeId}{b:List TypeId}{xs:List AV}(h:Rs P n (t :: b) xs) : ∃x a,xs=x :: a/\Ui P n t x/\Rs P n b a:=by
 cases xs with
 | nil=>exact h.elim
 | cons x xs=>exact⟨x,xs,rfl,h.1,h.2⟩
theorem UY{P:Program}{n:Nat}{xs:List AV}(h:Rs P n [] xs):xs=[]:=by
 cases xs with
 | nil=>rfl
 | cons x xs=>exact h.elim
theorem J7{E:Env}{ok:Array Oper->Bool}(I:E.Ok ok){T:TypeId->Prop}(K:Kids E.P T)(F : ∀t e,T t->E.P.underlying t=some (.slice e)->0<E.P.cellsOf e){H:Type}{enc:TypeId × Value->H}{id:FuncId}{f:Func}{s:ChangeSpec}{apart fresh a c:Bool}{m:Nat}
 (R : ∀t∈f.params.toList,T t) (hp:f.params.toList.all (plain E.P m)=true) (L:s.vars=[]) (G : ∀ds:List (DataW H),ds.length=f.params.toList.length->s.fn H ds = { results:=[.lit (.bool true)],args:=ds}) (o:MC E.P f=true)
 (h : ∀xs,Rs E.P m f.params.toList xs->ak E id xs=some (.v (.bool true)))
 (W:World) (A:Nat) (args:Array Value) (ds J:List (DataW H)) (b:List MemPlace) (g : ∀(j:Nat) t v,f.params[j]?=some t->args[j]?=some v->Value.okWide E.P W .any A t v)
 (x:DataW.Whole enc E.P f.params.toList s.vars apart W args.toList ds J b) :
 Calls E.P id args W λe y =>∃v,e = .returned v/\s.post enc E.P f apart fresh a c W args v y:=by
 obtain⟨S,o,N⟩:=Rj o
 have i:=x
 obtain⟨p,q,z,U,rfl,D,Q⟩:=i
 obtain⟨xs,l,u⟩:=V6 hp (λj t v O M=>g j t v (by simpa using O) (by simpa using M)) z
 obtain⟨n,d⟩:=WA (h xs l)
 have k:ds.length=f.params.toList.length:=No z
 refine(Rg I d (us:=args.toList) u).mono λe y ⟨he,hk⟩=>⟨_,he,?_⟩
 exact Tr K F R L x (G ds k) o N hk
end Go.Ab
namespace Go.Ab
def Pv{b:Type}(P:Program)(t:TypeId)(ok:b->Prop)(enc:b->List AV):Prop :=∀n xs,Dp P n t xs ->∃a,ok a/\xs=enc a
def isBool(P:Program)(t:TypeId):Bool:=match P.underlying t with | some .bool=>true | _=>false
def jF(P:Program)(t:TypeId):Option (List TypeId):=match P.underlying t with | some (.struct a)=>some (a.toList.map (·.type)) | _=>none
theorem NN{P:Program}{t:TypeId}(h:isBool P t=true):Pv P t (λ_=>True) λb:Bool=>[aB b]:=by
 intro n xs a
 cases n with
 | zero=>exact a.elim
 | succ n=>
  unfold isBool at h
  unfold Dp at a
  split at h
  ·rename_i c;rw[c]at a;obtain⟨b,rfl⟩:=a;exact⟨b,trivial,rfl⟩
  ·cases h
theorem GY{P:Program}{t:TypeId}{k:IntKind}(h:intKind P t=some k):Pv P t (λi:Int=>k.min<=i/\i<=k.max) λi:Int=>[.v (.int k i)]:=by
 intro n xs a
 cases n with
 | zero=>exact a.elim
 | succ n=>
  unfold Dp at a
  rw[Ex h]at a
  obtain⟨i,b,rfl⟩:=a
  exact⟨i,b,rfl⟩
theorem sn{P:Program}{t:TypeId}(h:intKind P t=some .i64):Pv P t (λi:Int => -9223372036854775808<=i/\i<=9223372036854775807) λi:Int=>[aI i]:=λn xs b=>by
 obtain⟨i,a,rfl⟩:=GY h n xs b;exact⟨i,a,rfl⟩
theorem Ym{P:Program}{t:TypeId}(h:intKind P t=some .i32):Pv P t (λi:Int => -2147483648<=i/\i<=2147483647) λi:Int=>[.v (.int .i32 i)]:=λn xs b=>by
 obtain⟨i,a,rfl⟩:=GY h n xs b;exact⟨i,a,rfl⟩
theorem RP{P:Program}{t:TypeId}(h:intKind P t=some .u8):Pv P t (λ_=>True) λb:UInt8=>[a8 b]:=λn xs d=>by
 obtain⟨i,a,rfl⟩:=GY h n xs d
 refine⟨u8 i,trivial,?_⟩
 have c:(0:Int)<=i:=a.1
 have e:i<=255:=a.2
 unfold a8
 show[AV.v (.int .u8 i)]=[AV.v (.int .u8 ((u8 i).toNat:Int))]
 rw[Kt,PB c (by omega),Dw c]
theorem abz{P:Program}{t:TypeId}(h:intKind P t=some .u32):Pv P t (λ_=>True) λb:UInt32=>[ae b]:=λn xs d=>by
 obtain⟨i,a,rfl⟩:=GY h n xs d
 refine⟨u32 i,trivial,?_⟩
 have c:(0:Int)<=i:=a.1
 have e:i<=4294967295:=a.2
 unfold ae
 show[AV.v (.int .u32 i)]=[AV.v (.int .u32 ((u32 i).toNat:Int))]
 rw[Ig,PB c (by omega),Dw c]
theorem YP{c:Type}{ok:c->Prop}{enc:c->List AV} : ∀(es:List (List AV)),(∀x∈es,∃a,ok a/\x=enc a) ->∃l:List c,(∀a∈l,ok a)/\es=l.map enc:=by
 intro es
 induction es with
 | nil=>intro _;exact⟨[],by simp,rfl⟩
 | cons x es e=>
  intro h
  obtain⟨a,f,rfl⟩:=h x (jB ..)
  obtain⟨l,i,rfl⟩:=e λx g=>h x (iA _ g)
  refine⟨a :: l,?_,rfl⟩
  intro b d
  rcases nB.1 d with rfl | d
  ·exact f
  ·exact i b d
theorem SD{P:Program}{t e:TypeId}(h:dY P t=some e):P.underlying t=some (.slice e):=by
 unfold dY at h
 split at h
 ·cases h;assumption
 ·cases h
theorem D2{c:Type}{P:Program}{t e:TypeId}{z:Nat}{d:Bool}{ok:c->Prop}{enc:c->List AV}(k:dY P t=some e)(f:aH P e=some z)(g:dq P e=some d)(m:Pv P e ok enc){n:Nat}{xs:List AV}(h:Dp P n t xs) :
 ∃(l:List c) (x:AV),(∀a∈l,ok a)/\xs=[x]/\Sl z (l.map λa=>Oi d (enc a)) x:=by
 cases n with
 | zero=>exact h.elim
 | succ n=>
  unfold Dp at h
  rw[SD k]at h
  rcases h with rfl | ⟨es,rfl,b⟩
  ·exact⟨[],ba,by simp,rfl,.inl ⟨rfl,rfl⟩⟩
  ·obtain⟨l,o,rfl⟩:=YP es λx j=>m n x (b x j)
   have i:P.cellsOf e=z:=by
    unfold aH at f
    unfold Program.cellsOf
    rw[f];rfl
   refine⟨l,_,o,rfl,?_⟩
   rw[i,g,Le]
   exact Sl.mk z _
theorem Ui.cell{P:Program}{n:Nat}{t:TypeId}{x:AV}(a:dq P t=some false)(h:Ui P n t x):Dp P n t [x]:=by
 unfold Ui at h;rw[a]at h;exact h
theorem Ui.agg{P:Program}{n:Nat}{t:TypeId}{x:AV}(a:dq P t=some true)(h:Ui P n t x) : ∃xs,x = .agg xs/\Dp P n t xs:=by
 unfold Ui at h;rw[a]at h;exact h
def ah5(S:TypeId->List AV->Prop):List TypeId->List AV->Prop
 | [],xs=>xs=[]
 | t :: c,xs =>∃a b,xs=a++b/\S t a/\ah5 S c b
theorem mE{P:Program}{t:TypeId}{d:List TypeId}(c:jF P t=some d){n:Nat}{xs:List AV}(h:Dp P n t xs) : ∃m,ah5 (Dp P m) d xs:=by
 cases n with
 | zero=>exact h.elim
 | succ n=>
  unfold jF at c
  split at c
  ·rename_i k e
   cases c
   unfold Dp at h
   rw[e]at h
   refine⟨n,?_⟩
   dsimp only at h
   generalize k.toList=l at h
   induction l generalizing xs with
   | nil=>exact h
   | cons f l g=>
    obtain⟨a,b,rfl,i,j⟩:=h
    exact⟨a,b,rfl,i,g j⟩
  ·cases c
def zy(P:Program)(d e c:Nat)(xs ys:Array Value):List Nat->Option Bool
 | []=>some true
 | i :: is=>match bh P (part e xs (i * c)),bh P (part e ys (i * c)) with
  | some a,some b=>(match bh P (Op.equalIn d e a b) with
   | some true=>zy P d e c xs ys is
   | some false=>some false
   | none=>none)
  | _,_=>none
theorem RR{P:Program}{t:TypeId}{z:Nat}(h:aH P t=some z):bh P (sizeOf t)=some z:=by
 simp only[aH,bN]at h
 obtain⟨i,a,rfl⟩:=h
 simp only[sizeOf,typeInfo,bG]
 show((some P).bind _).bind _=_
 simp only[fN,a]
 rfl
theorem Fp{P:Program}(d:Nat){t e:TypeId}{n c:Nat}(xs ys:Array Value)(g:P.underlying t=some (.array n e))(f:aH P e=some c) :
 bh P (Op.equalIn (d+1) t (.agg xs) (.agg ys))=zy P d e c xs ys (List.range n):=by
 simp only[Op.equalIn,bG,m4 g,fN,RR f]
 simp only[Std.Legacy.Range.forIn_eq_forIn_range',Std.Legacy.Range.size,Nat.sub_zero,Nat.add_one_sub_one,Nat.div_one,PL]
 generalize List.range' 0 n=is
 induction is with
 | nil=>rfl
 | cons j is h=>
  simp only[List.forIn_cons,zy,bG]
  cases l:bh P (part e xs (j * c)) with
  | none=>rfl
  | some a=>
   cases k:bh P (part e ys (j * c)) with
   | none=>rfl
   | some b=>
    simp only[fN]
    cases i:bh P (Op.equalIn d e a b) with
    | none=>rfl
    | some r=>
     cases r
     ·rfl
     ·simp only[fN,FT,mr,if_false]
      exact h
def vK(P:Program)(d:Nat)(xs ys:Array Value):List Field->Option Bool
 | []=>some true
 | f :: c=>match bh P (part f.type xs f.offset),bh P (part f.type ys f.offset) with
  | some a,some b=>(match bh P (Op.equalIn d f.type a b) with
   | some true=>vK P d xs ys c
   | some false=>some false
   | none=>none)
  | _,_=>none
theorem Ee{P:Program}(d:Nat){t:TypeId}{c:Array Field}(xs ys:Array Value)(j:P.underlying t=some (.struct c))(i:P.stoodInHeld t=false)(e : ∀f∈c.toList,(f.name != "_")=true) :
 bh P (Op.equalIn (d+1) t (.agg xs) (.agg ys))=vK P d xs ys c.toList:=by
 have hp:bh P program=some P:=rfl
 simp only[Op.equalIn,bG,m4 j,fN,hp,i,mr,if_false]
 simp only[<-Array.forIn_toList]
 generalize c.toList=is at e
 induction is with
 | nil=>rfl
 | cons f is k=>
  have h:f.name ≠ "_" := by simpa using e f (jB ..)
  simp only[List.forIn_cons,vK,bG,h,ne_eq,not_false_eq_true,if_true]
  have m:bh P (pure PUnit.unit:Sem PUnit)=some PUnit.unit:=rfl
  cases p:bh P (part f.type xs f.offset) with
  | none=>rfl
  | some a=>
   cases o:bh P (part f.type ys f.offset) with
   | none=>rfl
   | some b=>
    simp only[fN]
    cases n:bh P (Op.equalIn d f.type a b) with
    | none=>rfl
    | some r=>
     cases r
     ·rfl
     ·simp only[fN,FT,mr,if_false]
      exact k λg l=>e g (iA _ l)
def Dd:List AV->List AV->Option Bool
 | [.v (.bool a)],[.v (.bool b)]=>some (decide (a=b))
 | [.v (.int k a)],[.v (.int k' b)]=>if k=k' then some (decide (a=b)) else none
 | [.v (.string a)],[.v (.string b)]=>some (a == b)
 | _,_=>none
def bM(S:TypeId->List AV->List AV->Option Bool)(P:Program):List TypeId->List AV->List AV->Option Bool
 | [],_,_=>some true
 | t :: c,xs,ys=>match aH P t with
  | none=>none
  | some z=>match S t (xs.take z) (ys.take z),bM S P c (xs.drop z) (ys.drop z) with
   | some a,some b=>some (a&&b)
   | _,_=>none
def K3(S:List AV->List AV->Option Bool)(z:Nat):Nat->List AV->List AV->Option Bool
 | 0,_,_=>some true
 | k+1,xs,ys=>match S (xs.take z) (ys.take z),K3 S z k (xs.drop z) (ys.drop z) with
  | some a,some b=>some (a&&b)
  | _,_=>none
def rB(P:Program)(t:TypeId):Option Nat:=match P.underlying t with
 | some .bool=>some 0
 | some (.int _)=>some 1
 | some .string=>some 2
 | _=>none
def KR:AV->Nat
 | .v (.bool _)=>0
 | .v (.int _ _)=>1
 | .v (.string _)=>2
 | _=>3
def fw(P:Program):Nat->TypeId->List AV->List AV->Option Bool
 | 0,_,_,_=>none
 | n+1,t,xs,ys=>match rB P t with
  | some l=>(match xs,ys with
   | [x],[y]=>cond (Nat.beq (KR x) l) (Dd [x] [y]) none
   | _,_=>none)
  | none=>match jF P t with
   | some a=>bM (fw P n) P a xs ys
   | none=>match kP P t with
    | some (k,e)=>(match aH P e with
     | some z=>K3 (fw P n e) z k xs ys
     | none=>none)
    | none=>none
def GO(P:Program):Nat->TypeId->Bool
 | 0,_=>false
 | n+1,t=>match P.underlying t with
  | some .bool | some (.int _) | some .string=>dq P t == some false&&aH P t == some 1
  | some (.struct a)=>a.toList.all (λf=>GO P n f.type&&f.name != "_")&&layout P a.toList 0 == some (P.cellsOf t) && !P.stoodInHeld t
  | some (.array k e)=>GO P n e&&P.cellsOf t == k * P.cellsOf e
  | _=>false
def sk(xs:List AV):Option (List Value):=xs.mapM Ks
theorem B9{xs:List AV}{a:List Value}(h:sk xs=some a)(n:Nat):sk (xs.take n)=some (a.take n):=by
 unfold sk at *
 induction xs generalizing a n with
 | nil=>simp at h;subst h;simp
 | cons x xs c=>
  simp only[nY,uF,vf,iw]at h
  obtain⟨v,f,d,b,e⟩:=h
  cases e
  cases n with
  | zero=>simp
  | succ n=>simp only[List.take_succ_cons,nY,f,c b n];rfl
theorem Ca{xs:List AV}{b:List Value}(h:sk xs=some b)(n:Nat):sk (xs.drop n)=some (b.drop n):=by
 unfold sk at *
 induction xs generalizing b n with
 | nil=>simp at h;subst h;simp
 | cons x xs c=>
  simp only[nY,uF,vf,iw]at h
  obtain⟨v,f,d,a,e⟩:=h
  cases e
  cases n with
  | zero=>simp only[Li,nY,f,a];rfl
  | succ n=>simp only[List.drop_succ_cons];exact c a n
def valOf(P:Program)(t:TypeId)(a:List Value):Option Value:=match dq P t with
 | some true=>some (.agg a.toArray)
 | some false=>a.head?
 | none=>none
theorem G0{P:Program}{t:TypeId}{z:Nat}(j:aH P t=some z){f:List Value}{o:Nat}{v:Value}(a:valOf P t ((f.drop o).take z)=some v)(i:dq P t=some false->z=1):bh P (part t f.toArray o)=some v:=by
 unfold valOf at a
 have d : ∀b,dq P t=some b->bh P (isAgg t)=some b:=by
  intro b g
  simp only[dq,bN]at g
  obtain⟨h,c,rfl⟩:=g
  simp only[isAgg,bG,m4 c,fN]
  cases h<;>rfl
 unfold part
 split at a
 ·rename_i e
  cases a
  simp only[bG,d _ e,fN,if_true,RR j]
  show some _=some _
  congr 2
  apply Lk.1
  simp only[PM,PW,Lr]
 ·rename_i e
  simp only[bG,d _ e,fN,mr,if_false]
  have:f.toArray[o]?=some v:=by
   rw[i e]at a
   rw[PR]
   cases c:f.drop o with
   | nil=>rw[c]at a;simp at a
   | cons u us=>
    rw[c]at a
    simp at a
    subst a
    have:=congrArg List.head? c
    simpa [List.head?_drop] using this
  rw[this]
  rfl
 ·cases a
theorem WX{P:Program} : ∀(n:Nat)(D:Nat)(t:TypeId)(xs ys:List AV)(us R:List Value)(b:Bool),GO P n t=true->fw P n t xs ys=some b->sk xs=some us->sk ys=some R->xs.length=P.cellsOf t->ys.length=P.cellsOf t ->
 ∃u v,valOf P t us=some u/\valOf P t R=some v/\bh P (Op.equalIn (D+n) t u v)=some b:=by
 intro n
 induction n with
 | zero=>intro D t xs ys us R b h;simp[GO]at h
 | succ n ih=>
  intro D t xs ys us R b d h hu hv hlx hly
  unfold GO at d
  unfold fw at h
  cases J:P.underlying t with
  | none=>rw[J]at d;simp at d
  | some dd=>
   rw[J]at d
   have L : ∀l,rB P t=some l->(dq P t == some false&&aH P t == some 1)=true->(l=0/\dd = .bool\/(l=1 /\∃k,dd = .int k)\/l=2/\dd = .string) ->∃u v,valOf P t us=some u/\valOf P t R=some v/\bh P (Op.equalIn (D+(n+1)) t u v)=some b:=by
    intro l X d hdd
    simp only[aY,beq_iff_eq]at d
    rw[X]at h
    dsimp only at h
    split at h
    ·rename_i x y
     cases hb:Nat.beq (KR x) l with
     | false=>rw[hb]at h;cases h
     | true=>
      rw[hb]at h
      replace hb:=lb hb
      have e1 : ∃u,us=[u]/\Ks x=some u:=by
       unfold sk at hu;simp only[nY,Hr,uF,vf,iw]at hu
       obtain⟨u,G,ws,M,h3⟩:=hu
       cases M;cases h3;exact⟨u,rfl,G⟩
      have e2 : ∃u,R=[u]/\Ks y=some u:=by
       unfold sk at hv;simp only[nY,Hr,uF,vf,iw]at hv
       obtain⟨u,G,ws,M,h3⟩:=hv
       cases M;cases h3;exact⟨u,rfl,G⟩
      obtain⟨u,rfl,E⟩:=e1
      obtain⟨v,rfl,q⟩:=e2
      refine⟨u,v,by simp[valOf,d.1],by simp[valOf,d.1],?_⟩
      rw[show D+(n+1)=(D+n)+1 from rfl]
      simp only[cond_true]at h
      unfold Dd at h
      simp only[Op.equalIn,bG,m4 J,fN]
      split at h
      ·rename_i a c T V
       simp only[AO,and_true]at T V
       subst T;subst V
       simp[Ks]at E q
       subst E;subst q
       have hl0:l=0:=hb.symm
       rcases hdd with ⟨_,rfl⟩ | ⟨G,_⟩ | ⟨G,_⟩
       ·rw[<-h];show some (a == c)=_;congr 1
       ·omega
       ·omega
      ·rename_i k a k' c T V
       simp only[AO,and_true]at T V
       subst T;subst V
       simp[Ks]at E q
       subst E;subst q
       have hl0:l=1:=hb.symm
       rcases hdd with ⟨G,_⟩ | ⟨_,k0,rfl⟩ | ⟨G,_⟩
       ·omega
       ·split at h
        ·rename_i S
         subst S
         rw[<-h]
         show bh P (if k=k then pure (a == c) else _)=_
         rw[if_pos rfl]
         show some (a == c)=_
         congr 1
        ·cases h
       ·omega
      ·rename_i a c T V
       simp only[AO,and_true]at T V
       subst T;subst V
       simp[Ks]at E q
       subst E;subst q
       have hl0:l=2:=hb.symm
       rcases hdd with ⟨G,_⟩ | ⟨G,_⟩ | ⟨_,rfl⟩
       ·omega
       ·omega
       ·rw[<-h];rfl
      ·cases h
    ·cases h
   have hlt : ∀l,rB P t=some l->_:=λl X=>L l X
   cases dd<;>dsimp only at d<;>try (simp at d;done)
   ·exact L 0 (by simp[rB,J]) d (.inl ⟨rfl,rfl⟩)
   ·rename_i k;exact L 1 (by simp[rB,J]) d (.inr (.inl ⟨rfl,k,rfl⟩))
   ·exact L 2 (by simp[rB,J]) d (.inr (.inr ⟨rfl,rfl⟩))
   ·
    rename_i k e
    simp only[aY,beq_iff_eq]at d
    obtain⟨d,hcell⟩:=d
    have X:rB P t=none:=by simp[rB,J]
    have W:jF P t=none:=by simp[jF,J]
    have hta:kP P t=some (k,e):=by simp[kP,J]
    rw[X,W,hta]at h
    dsimp only at h
    have Q:dq P t=some true:=by simp[dq,J]
    cases I:aH P e with
    | none=>rw[I]at h;cases h
    | some z=>
     rw[I]at h
     dsimp only at h
     have K:P.cellsOf e=z:=by simp only[aH]at I;simp[Program.cellsOf,I]
     have F:dq P e=some false->z=1:=by
      intro j
      cases n with
      | zero=>simp[GO]at d
      | succ n'=>
       unfold GO at d
       unfold dq at j
       cases N:P.underlying e with
       | none=>rw[N]at d;simp at d
       | some d2=>
        rw[N]at d j
        cases d2<;>simp at d j<;>(have:=d.2;rw[I]at this;simpa using this)
     refine⟨.agg us.toArray,.agg R.toArray,by simp[valOf,Q],by simp[valOf,Q],?_⟩
     rw[show D+(n+1)=(D+n)+1 from rfl,Fp (D+n) _ _ J I]
     have : ∀(m p:Nat)(b:Bool),(p+m) * z<=xs.length->(p+m) * z<=ys.length->K3 (fw P n e) z m (xs.drop (p * z)) (ys.drop (p * z))=some b->zy P (D+n) e z us.toArray R.toArray (List.range' p m)=some b:=by
      intro m
      induction m with
      | zero=>intro p b _ _ h;simp[K3]at h;simp[zy,h]
      | succ m ihm=>
       intro p b hx hy h
       simp only[K3]at h
       have O:(p+(m+1)) * z=p * z+z+m * z:=by rw[nA,Ld];omega
       rw[O]at hx hy
       cases G:fw P n e ((xs.drop (p * z)).take z) ((ys.drop (p * z)).take z) with
       | none=>rw[G]at h;simp at h
       | some a=>
        rw[G]at h
        cases M:K3 (fw P n e) z m ((xs.drop (p * z)).drop z) ((ys.drop (p * z)).drop z) with
        | none=>rw[M]at h;simp at h
        | some c=>
         rw[M]at h
         simp only[dT]at h
         rw[E2,E2,<-Ld]at M
         obtain⟨u,v,E,q,heq⟩:=ih D e _ _ _ _ a d G (B9 (Ca hu (p * z)) z) (B9 (Ca hv (p * z)) z)
          (by rw[uG,E4,K];omega) (by rw[uG,E4,K];omega)
         have p1:=G0 I (o:=p * z) E F
         have p2:=G0 I (o:=p * z) q F
         simp only[List.range'_succ,zy,p1,p2,heq]
         cases a with
         | false=>simp at h;simp[h]
         | true=>
          simp only[nX]at h
          subst h
          exact ihm (p+1) c (by rw[show p+1+m=p+(m+1) by omega,O];exact hx) (by rw[show p+1+m=p+(m+1) by omega,O];exact hy) M
     rw[PL]
     by_cases Y:k * z<=xs.length/\k * z<=ys.length
     ·exact this k 0 b (by simpa using Y.1) (by simpa using Y.2) (by simpa using h)
     ·exfalso
      rw[K]at hcell
      exact Y ⟨by omega,by omega⟩
   ·
    rename_i fs
    simp only[aY,dN,gy,beq_iff_eq]at d
    obtain⟨⟨U,i⟩,hst⟩:=d
    have X:rB P t=none:=by simp[rB,J]
    have W:jF P t=some (fs.toList.map (·.type)):=by simp[jF,J]
    rw[X,W]at h
    dsimp only at h
    have Q:dq P t=some true:=by simp[dq,J]
    refine⟨.agg us.toArray,.agg R.toArray,by simp[valOf,Q],by simp[valOf,Q],?_⟩
    rw[show D+(n+1)=(D+n)+1 from rfl,Ee (D+n) _ _ J hst (λf W=>(U f W).2)]
    have : ∀(l:List Field)(o:Nat)(b:Bool),(∀f∈l,GO P n f.type=true)->layout P l o=some (P.cellsOf t)->bM (fw P n) P (l.map (·.type)) (xs.drop o) (ys.drop o)=some b->o<=P.cellsOf t ->
     vK P (D+n) us.toArray R.toArray l=some b:=by
     intro l
     induction l with
     | nil=>intro o b _ _ h _;simp[bM]at h;simp[vK,h]
     | cons f l ihl=>
      intro o b Z i h ho
      unfold layout at i
      split at i
      ·rename_i hfo
       simp only[uC,bM]at h
       cases I:aH P f.type with
       | none=>rw[I]at h;cases h
       | some z=>
        rw[I]at h
        dsimp only at h
        have K:P.cellsOf f.type=z:=by simp only[aH]at I;simp[Program.cellsOf,I]
        rw[K]at i
        cases G:fw P n f.type ((xs.drop o).take z) ((ys.drop o).take z) with
        | none=>rw[G]at h;simp at h
        | some a=>
         rw[G]at h
         cases M:bM (fw P n) P (l.map (·.type)) ((xs.drop o).drop z) ((ys.drop o).drop z) with
         | none=>rw[M]at h;simp at h
         | some c=>
          rw[M]at h
          simp only[dT]at h
          rw[E2,E2]at M
          have hle:o+z<=P.cellsOf t:=by
           have : ∀(l:List Field)(o m:Nat),layout P l o=some m->o<=m:=by
            intro l
            induction l with
            | nil=>intro o m h;simp[layout]at h;omega
            | cons g l ihg=>
             intro o m h
             unfold layout at h
             split at h
             ·have:=ihg _ _ h;omega
             ·cases h
           exact this _ _ _ i
          obtain⟨u,v,E,q,heq⟩:=ih D f.type _ _ _ _ a (Z f (jB ..)) G (B9 (Ca hu o) z) (B9 (Ca hv o) z)
           (by rw[uG,E4,K];omega) (by rw[uG,E4,K];omega)
          have F:dq P f.type=some false->z=1:=by
           intro j
           have S:=Z f (jB ..)
           cases n with
           | zero=>simp[GO]at S
           | succ n'=>
            unfold GO at S
            unfold dq at j
            cases N:P.underlying f.type with
            | none=>rw[N]at S;simp at S
            | some d2=>
             rw[N]at S j
             cases d2<;>simp at S j<;>(have:=S.2;rw[I]at this;simpa using this)
          have p1:=G0 I (o:=o) E F
          have p2:=G0 I (o:=o) q F
          simp only[vK,hfo,p1,p2,heq]
          cases a with
          | false=>simp at h;simp[h]
          | true=>
           simp only[nX]at h
           subst h
           exact ihl (o+z) c (λg hg=>Z g (iA _ hg)) i M hle
      ·cases i
    exact this fs.toList 0 b (λf W=>(U f W).1) i (by simpa using h) (EY _)
def Jo(P:Program)(t:TypeId):Bool:=GO P 20 t && !P.eqGuardType P.depth t&&dq P t == some true
theorem Tq{P:Program}{t:TypeId}(h:Jo P t=true)(a:BinOp)(c:a = .eql\/a = .neq)(e d:Operand)(xs ys:Array Value) :
 Ef P a t e d (.agg xs) (.agg ys)=(bh P (Op.equalIn 10000 t (.agg xs) (.agg ys))).map λb => .bool (if a = .eql then b else !b):=by
 unfold Jo at h
 simp only[aY,dN,beq_iff_eq]at h
 have hp:bh P program=some P:=rfl
 unfold Ef
 have f:bh P (eqGuard a t e d (.agg xs) (.agg ys))=some ():=by
  rcases c with rfl | rfl
  ·simp only[eqGuard,FT,mr,if_false,bG,hp,fN,h.1.2,Hc,if_true];rfl
  ·simp only[eqGuard,FT,mr,if_false,bG,hp,fN,h.1.2,Hc,if_true];rfl
 rw[bG,f,fN]
 rcases c with rfl | rfl
 ·show bh P (do pure (Value.bool (<-Op.equal t (.agg xs) (.agg ys))))=_
  rw[bG]
  unfold Op.equal Op.maxDepth
  cases bh P (Op.equalIn 10000 t (.agg xs) (.agg ys))<;>rfl
 ·show bh P (do pure (Value.bool (!(<-Op.equal t (.agg xs) (.agg ys)))))=_
  rw[bG]
  unfold Op.equal Op.maxDepth
  cases bh P (Op.equalIn 10000 t (.agg xs) (.agg ys))<;>rfl
theorem N4{P:Program}{t:TypeId}(h:Jo P t=true)(a:BinOp)(p:a = .eql\/a = .neq)(l j:Operand){cs ds:List AV}{b:Bool}(D:fw P 20 t cs ds=some b)(e:(sk cs).isSome=true)(d:(sk ds).isSome=true)
 (y:some cs.length=aH P t) (x:some ds.length=aH P t):bY P a t l j (some (.agg cs)) (some (.agg ds))=some (aB (if a = .eql then b else !b),[]):=by
 obtain⟨us,e⟩:=gU.1 e
 obtain⟨g,d⟩:=gU.1 d
 have f:=h
 unfold Jo at f
 simp only[aY,dN,beq_iff_eq]at f
 have k : ∀ {n:Nat},some n=aH P t->n=P.cellsOf t:=by
  intro n m
  unfold aH at m
  unfold Program.cellsOf
  rw[<-m];rfl
 obtain⟨u,v,i,o,heq⟩:=WX 20 9980 t cs ds us g b f.1.1 D e d (k y) (k x)
 simp only[valOf,f.2,dT]at i o
 subst i;subst o
 have c:=Tq h a p l j us.toArray g.toArray
 rw[heq]at c
 have z:gV (.agg cs)=some (.agg us.toArray):=by show(cs.mapM Ks).map _=_;rw[show cs.mapM Ks=some us from e];rfl
 have q:gV (.agg ds)=some (.agg g.toArray):=by show(ds.mapM Ks).map _=_;rw[show ds.mapM Ks=some g from d];rfl
 simp only[bY,Ml,oW,yM,Hp,mr,if_false,z,q,c,Option.map_some,fN,kg,scalar,if_true,kf]
@[simp] theorem Yy{P:Program}{t:TypeId}(h:Jo P t=true)(d c:Operand){cs ds:List AV}(a:(fw P 20 t cs ds).isSome=true)(e:(sk cs).isSome=true)(i:(sk ds).isSome=true)
 (g:some cs.length=aH P t) (f:some ds.length=aH P t):bY P .eql t d c (some (.agg cs)) (some (.agg ds))=some (aB ((fw P 20 t cs ds).getD false),[]):=by
 obtain⟨b,a⟩:=gU.1 a
 rw[N4 h .eql (.inl rfl) d c a e i g f,a];rfl
@[simp] theorem Yw{P:Program}{t:TypeId}(h:Jo P t=true)(d c:Operand){cs ds:List AV}(a:(fw P 20 t cs ds).isSome=true)(e:(sk cs).isSome=true)(i:(sk ds).isSome=true)
 (g:some cs.length=aH P t) (f:some ds.length=aH P t):bY P .neq t d c (some (.agg cs)) (some (.agg ds))=some (aB (!(fw P 20 t cs ds).getD false),[]):=by
 obtain⟨b,a⟩:=gU.1 a
 rw[N4 h .neq (.inr rfl) d c a e i g f,a];rfl
@[simp] theorem afe:sk []=some []:=id rfl
@[simp] theorem Nm(k:IntKind)(n:Int)(l:List AV):sk (.v (.int k n) :: l)=(sk l).map (.int k n :: ·):=by
 unfold sk;simp only[nY,Ks];cases l.mapM Ks<;>rfl
@[simp] theorem adp(b:Bool)(l:List AV):sk (.v (.bool b) :: l)=(sk l).map (.bool b :: ·):=by
 unfold sk;simp only[nY,Ks];cases l.mapM Ks<;>rfl
@[simp] theorem ajX(b:UInt8)(l:List AV):sk (a8 b :: l)=(sk l).map (.int .u8 b.toNat :: ·):=Nm _ _ _
@[simp] theorem aif(b:UInt32)(l:List AV):sk (ae b :: l)=(sk l).map (.int .u32 b.toNat :: ·):=Nm _ _ _
@[simp] theorem aaZ(a b:Bool):Dd [aB a] [aB b]=some (decide (a=b)):=id rfl
@[simp] theorem Jp(k:IntKind)(a b:Int):Dd [.v (.int k a)] [.v (.int k b)]=some (decide (a=b)):=by simp[Dd]
@[simp] theorem ahA(a b:UInt8):Dd [a8 a] [a8 b]=some (decide (a=b)):=by
 unfold a8;rw[Jp];congr 2;rw[<-Du];exact propext (by omega)
@[simp] theorem aeQ(a b:UInt32):Dd [ae a] [ae b]=some (decide (a=b)):=by
 unfold ae;rw[Jp];congr 2;rw[<-HD];exact propext (by omega)
@[simp] theorem acf(b:Bool):KR (aB b)=0:=id rfl
@[simp] theorem aey(k:IntKind)(n:Int):KR (.v (.int k n))=1:=id rfl
@[simp] theorem aja(b:UInt8):KR (a8 b)=1:=id rfl
@[simp] theorem agW(b:UInt32):KR (ae b)=1:=id rfl
@[simp] theorem IK{P:Program}{t:TypeId}(h:((dY P t).bind (aH P)).isSome=true)(g:cX)(c b a:Option Int) :
 ja P g t (some ba) (some c) (some b) (some a)=(bounds 0 (some 0) c b a).map λ_=>(ba,[]):=by
 simp only[ja,h,if_true]
@[simp] theorem Qv{P:Program}{t z:Nat}(h:(dY P t).bind (aH P)=some z)(g:cX)(es:List AV)(c:Option Nat)(d b a:Option Int) :
 ja P g t (some (.cD z es c)) (some d) (some b) (some a)=(bounds es.length c d b a).map λ(l,h,c)=>(.cD z ((es.drop l).take (h - l)) c,[]):=by
 simp only[ja,h,if_true]
theorem Iu{P:Program}{t z:Nat}(h:(dY P t).bind (aH P)=some z)(g:cX){es:List AV}{x:AV}(e:Sl z es x){n:Int}(d:0<=n)(b:n<=es.length) :
 ∃y,ja P g t (some x) (some none) (some (some n)) (some none)=some (y,[])/\Sl z (es.take n.toNat) y:=by
 rcases e with ⟨rfl,rfl⟩ | ⟨c,rfl,a⟩
 ·refine⟨ba,?_,.inl ⟨rfl,by simp⟩⟩
  rw[IK (by rw[h];rfl)]
  have:n=0:=by simp at b;omega
  subst this;rfl
 ·refine⟨.cD z (es.take n.toNat) (c.map (· - 0)),?_,.inr ⟨_,rfl,by cases c with | none=>simp | some k=>simp at a ⊢;omega⟩⟩
  rw[Qv h]
  simp only[bounds,vR,cY,Lc,true_and,if_pos (show 0<=n/\n<=es.length from⟨d,b⟩),Option.map_some]
  simp
def sB(l:List UInt8):AV:=aS ⟨l.toArray⟩
theorem W9{P:Program}{a m:Bool}{H:aa}{r:Ref}{t z g n:Nat}{ps:List (Nat × AV)}{h:AV}(F:elT P t z g=true)(d:n * z<=16777216)(x:eb H.get ps=some ps)(f:ck H.get (ps.map (·.2))=[])
 (u:ps.all (λp=>p.2.cells.length == z&&p.2.cells.all AV.one)=true) (c:(dY P t).bind (eI P)=some h) {es:List AV} (y:jb (List.replicate n h) ps=some es) :
 nJ P a m H r t n (some ps)=if a then some (.cD z es (some n),H) else some (.cG r 0 n (some n),({ r with k:=0},some ⟨z,es,true,false⟩) :: H):=by
 obtain⟨e,v,i,D,G,j,o,E,l,I⟩:=lO F
 rw[i]at c
 simp only[fN,j,dT]at c
 subst c
 have b:mkSlice P H.get t n ps=some ⟨z,es,true,false⟩:=by
  simp only[mkSlice,i,x,j,D]
  rw[if_pos ⟨CA l,d,o,E,by simpa using u⟩,y]
  rfl
 have q:iB P a H.get r t n (some ps)=if a then some (.cD z es (some n),[]) else some (.cG r 0 n (some n),[⟨z,es,true,false⟩]):=by
  simp only[iB,f,kB,List.all_nil,if_true,b,Option.map_some]
  cases a<;>rfl
 unfold nJ
 rw[q]
 cases a<;>rfl
theorem Kq{g:cX}{r:Ref}{z:Nat}{es:List AV}{fz:Bool}(b:g r=some ⟨z,es,true,fz⟩){n:Nat}(a:n=es.length)(k:Nat)(c:Option Nat):view g (k+1) (.cG r 0 n c)=some (.cD z es c):=by
 subst a
 rw[HO b,if_pos ⟨rfl,by simp⟩,Li,HA]
theorem Own.bQ{z:Nat}{es:List AV}{H H':aa}{x s d:AV}(h:Own z es H x)(hp : ∀q b,H.get q=some b->s.at?≠some q->H'.get q=some b/\d.at?≠some q)(c : ∀q,x.at?=some q->s.at?≠some q):Own z es H' x /\∀q,x.at?=some q->d.at?≠some q:=by
 rcases h with ⟨rfl,rfl⟩ | ⟨r,rfl,f⟩
 ·exact⟨RU z H',λq a=>by simp[AV.at?]at a⟩
 ·obtain⟨g,e⟩:=hp r _ f (c r rfl)
  exact⟨.inr ⟨r,rfl,g⟩,λq a=>by simp only[AV.at?,dT]at a;subst a;exact e⟩
@[simp] theorem abM(P:Program)(t:TypeId)(b a:Operand)(x y:UInt32)(c:y≠0):bY P .rem t b a (some (ae x)) (some (ae y))=some (ae (x % y),[]):=by
 have d:(y.toNat:Int)≠0:=by
  intro e;apply c;apply HD.1;have:y.toNat=0:=by omega
  exact this
 unfold ae
 rw[VW P t b a .u32 _ _ d]
 congr 5
theorem QX{P:Program}{t:TypeId}(h:isBool P t=true):P.underlying t=some .bool:=by
 unfold isBool at h
 split at h
 ·assumption
 ·cases h
theorem J6{P:Program}{t:TypeId}(h:isBool P t=true)(d:Nat)(a b:Bool):bh P (Op.equalIn (d+1) t (.bool a) (.bool b))=some (a == b):=by
 simp only[Op.equalIn,bG,m4 (QX h),fN]
 rfl
theorem QB{P:Program}{t:TypeId}(h:isBool P t=true)(c:BinOp)(g:c = .eql\/c = .neq)(e d:Operand)(a b:Bool) :
 Ef P c t e d (.bool a) (.bool b)=some (.bool (if c = .eql then a == b else !(a == b))):=by
 have f:bh P (Op.equal t (.bool a) (.bool b))=some (a == b):=J6 h 9999 a b
 unfold Ef
 rcases g with rfl | rfl
 ·have:bh P (eqGuard .eql t e d (.bool a) (.bool b))=some ():=rfl
  rw[bG,this,fN]
  show bh P (do pure (Value.bool (<-Op.equal t (.bool a) (.bool b))))=_
  rw[bG,f];rfl
 ·have:bh P (eqGuard .neq t e d (.bool a) (.bool b))=some ():=rfl
  rw[bG,this,fN]
  show bh P (do pure (Value.bool (!(<-Op.equal t (.bool a) (.bool b)))))=_
  rw[bG,f];rfl
@[simp] theorem XC{P:Program}{t:TypeId}(h:isBool P t=true)(d c:Operand)(a b:Bool):bY P .eql t d c (some (aB a)) (some (aB b))=some (aB (a == b),[]):=by
 simp only[bY,Ml,oW,gV,QB h .eql (.inl rfl),yM,Hp,mr,if_false,fN,kg,scalar,if_true,kf,Option.map_some]
@[simp] theorem akd(P:Program)(d:Bool)(g:cX)(r:Ref)(c:Array TypeId)(k:IntKind)(a b:Int):cN P d g r .min c [.v (.int k a),.v (.int k b)]=some (.v (.int k (if b<a then b else a)),[]):=id rfl
@[simp] theorem ake(P:Program)(d:Bool)(g:cX)(r:Ref)(c:Array TypeId)(k:IntKind)(a b:Int):cN P d g r .max c [.v (.int k a),.v (.int k b)]=some (.v (.int k (if b>a then b else a)),[]):=id rfl
theorem Own.cons{z:Nat}{es:List AV}{H:aa}{x:AV}(h:Own z es H x)(c:Fr H)(d t:Nat)(b:Option bw):Own z es ((⟨d,t,H.gen d t,0⟩,b) :: H) x:=by
 rcases h with ⟨rfl,rfl⟩ | ⟨r,rfl,a⟩
 ·exact RU z _
 ·refine .inr ⟨r,rfl,?_⟩
  rw[aa.uR,if_neg (qM c (by rw[a];rfl) d t 0)]
  exact a
theorem Own.Iu{P:Program}{t z:Nat}(h:(dY P t).bind (aH P)=some z){H:aa}{es:List AV}{x:AV}(d:Own z es H x){n:Nat}(a:n<=es.length) :
 ∃y c,ja P H.get t (some x) (some none) (some (some (n:Int))) (some none)=some (y,[])/\Ab.view H.get depth y=some c/\Sl z (es.take n) c:=by
 rcases d with ⟨rfl,rfl⟩ | ⟨r,rfl,b⟩
 ·refine⟨ba,ba,?_,rfl,.inl ⟨rfl,by simp⟩⟩
  rw[IK (by rw[h];rfl)]
  have:n=0:=by simpa using a
  subst this;rfl
 ·refine⟨.cG r 0 n none,.cD z (es.take n) none,?_,?_,Sl.mk z _⟩
  ·simp only[ja,b,h,if_true,bounds,vR,cY,Lc,true_and]
   rw[if_pos ⟨by omega,by omega⟩]
   simp
  ·rw[aG,HO b,if_pos ⟨rfl,by simpa using a⟩,Li]
@[simp] theorem aei(P:Program)(r:Ref)(e:TypeId){z:AV}(b:eI P e=some z)(a:0<(aH P e).getD 0):yl P r e=if some z.cells.length=aH P e/\z.cells.all AV.one=true then some (.ptr r 0 0,[⟨(aH P e).getD 0,[z],false,false⟩]) else none:=by
 unfold yl
 rw[b]
 cases h:aH P e with
 | none=>simp
 | some n=>rw[h]at a;simp only[cY]at a;simp[a]
@[simp] theorem VT{P:Program}{t f:Nat}(h:0<((aq P t f).getD (0,0)).2)(r:Ref)(i j:Nat):jW P t (some (.ptr r i j)) f=some (.ptr r i (j+((aq P t f).getD (0,0)).1),[]):=by
 unfold jW
 cases a:aq P t f with
 | none=>rw[a]at h;simp at h
 | some p=>obtain⟨o,s⟩:=p;rw[a]at h;simp only[cY]at h ⊢;rw[if_pos h]
@[simp] theorem Uh{P:Program}{t f:Nat}(h:0<((aq P t f).getD (0,0)).2)(n:Nat)(es:List AV)(i j:Nat):jW P t (some (.iptr n es i j)) f=some (.iptr n es i (j+((aq P t f).getD (0,0)).1),[]):=by
 unfold jW
 cases a:aq P t f with
 | none=>rw[a]at h;simp at h
 | some p=>obtain⟨o,s⟩:=p;rw[a]at h;simp only[cY]at h ⊢;rw[if_pos h]
def RT(cs:List AV)(a n:Nat)(b:Bool):Option AV:=if b then (if a+n<=cs.length then some (.agg ((cs.drop a).take n)) else none) else cs[a]?
@[simp] theorem ai0(cs:List AV)(a n:Nat):RT cs a n true=if a+n<=cs.length then some (.agg ((cs.drop a).take n)) else none:=id rfl
@[simp] theorem ai1(cs:List AV)(a n:Nat):RT cs a n false=cs[a]?:=id rfl
@[simp] theorem abI{P:Program}{t f:Nat}(h:(((nT P t f).bind λp=>aH P p.2).isSome&&((nT P t f).bind λp=>dq P p.2).isSome)=true)(cs:List AV) :
 yj P t (some (.agg cs)) f=kf (RT cs ((nT P t f).getD (0,0)).1 ((aH P ((nT P t f).getD (0,0)).2).getD 0) ((dq P ((nT P t f).getD (0,0)).2).getD false)):=by
 unfold yj
 cases a:nT P t f with
 | none=>rw[a]at h;simp at h
 | some p=>
  obtain⟨o,ft⟩:=p
  rw[a]at h
  simp only[fN,aY]at h
  obtain⟨n,c⟩:=gU.1 h.1
  obtain⟨b,d⟩:=gU.1 h.2
  simp only[cY,BI,c,d]
  cases b<;>rfl
@[simp] theorem Xy(cs:List AV)(new:List AV)(h:new.length=cs.length):iJ [AV.agg cs] 0 0 new=some [AV.agg new]:=by
 simp[iJ,tQ,patch,h]
@[simp low] theorem XI(cs:List AV)(j:Nat)(new:List AV)(h:j+new.length<=cs.length):iJ [AV.agg cs] 0 j new=some [AV.agg (patch cs j new)]:=by
 simp[iJ,tQ,h]
@[simp] theorem agI(cs:List AV)(j:Nat)(new:List AV):patch cs j new=cs.take j++new++cs.drop (j+new.length):=id rfl
@[simp] theorem Yq{P:Program}{t:TypeId}(c:(dq P t).isSome=true)(b:(aH P t).isSome=true)(H:aa)(r:Ref)(i j:Nat):BF P H (.ptr r i j) t=Wy (H.get r) i j ((aH P t).getD 0) ((dq P t).getD false):=by
 obtain⟨a,c⟩:=gU.1 c
 obtain⟨n,b⟩:=gU.1 b
 simp only[BF,c,b,cY]
 rfl
@[simp] theorem XB{P:Program}{t:TypeId}{z:List AV}(c:eI P t=some (.agg z))(b:kP P t=none)(hp:(placesOf P t).isSome=true)(a:List (Nat × AV)) :
 jD P t (some a)=(mc (λi=>((placesOf P t).getD [])[i]?) z a).map λcs=>(.agg cs,[]):=by
 obtain⟨ps,hp⟩:=gU.1 hp
 simp only[jD,c,b,hp,cY]
@[simp] theorem Ys(a:List AV)(i:Nat):uM (some (.tup a)) i=kf a[i]?:=id rfl
@[simp] theorem agD(r:Ref)(i j:Nat):NX (some (.ptr r i j))=some (.ptr r i j,[]):=id rfl
@[simp] theorem aa.Y1(d t:Nat):aa.gen [] d t=0:=id rfl
@[simp] theorem aa.OK(d t g k:Nat)(b:Option bw)(H:aa)(a t':Nat):aa.gen ((⟨d,t,g,k⟩,b) :: H) a t'=if d=a/\t=t' then g+1 else aa.gen H a t':=id rfl
@[simp] theorem On{c d:Type}(f:c->Option d)(a:c)(l:List c):List.mapM f (a :: l)=(f a).bind λb=>(List.mapM f l).map (b :: ·):=by
 rw[nY];cases f a<;>cases List.mapM f l<;>rfl
@[simp] theorem abB{c:Type}(f:c->AV)(l:List c)(i j n:Nat)(b:Bool):cm (l.map f) i j n b=(l[i]?).bind λa=>cm [f a] 0 j n b:=by
 unfold cm
 rw[pG]
 cases l[i]?<;>rfl
theorem drop_cons{c:Type}{l:List c}{k:Nat}{a:c}{s:List c}(h:l.drop k=a :: s) : ∃b:k<l.length,l[k]=a/\l.drop (k+1)=s/\l[k]?=some a:=by
 have b:k<l.length:=by
  have:=congrArg List.length h
  simp at this;omega
 rw[List.drop_eq_getElem_cons b]at h
 cases h
 exact⟨b,rfl,rfl,fj b⟩
theorem drop_nil{a:Type}{l:List a}{k:Nat}(h:l.drop k=[])(b:k<=l.length):k=l.length:=by
 have:=congrArg List.length h
 simp at this;omega
theorem fZ{b:Bool}{q:jI}{K:AV->Prop}{m:Mk (q,K)}(c:b=true->fB q K)(a:b=false->K AV.undef):gQ (aB b) true q K m:=by
 cases b
 ·exact(ahr q K m).2 (a rfl)
 ·exact(ahp q K m).2 (c rfl)
theorem ga{b:Bool}{q:jI}{K:AV->Prop}{m:Mk (q,K)}(c:b=true->K AV.undef)(a:b=false->fB q K):gQ (aB b) false q K m:=by
 cases b
 ·exact(ahs q K m).2 (a rfl)
 ·exact(ahq q K m).2 (c rfl)
theorem fX{b:Bool}{H:aa}{q:dz}{K:AV->aa->Prop}{m:Mk (q,K)}(c:b=true->jA q K)(a:b=false->K AV.undef H):gW (aB b) true H q K m:=by
 cases b
 ·exact(ahn H q K m).2 (a rfl)
 ·exact(ahl H q K m).2 (c rfl)
theorem fY{b:Bool}{H:aa}{q:dz}{K:AV->aa->Prop}{m:Mk (q,K)}(c:b=true->K AV.undef H)(a:b=false->jA q K):gW (aB b) false H q K m:=by
 cases b
 ·exact(aho H q K m).2 (a rfl)
 ·exact(ahm H q K m).2 (c rfl)
theorem dH{H:aa}(a:Fr H){q:Ref}(h:(H.get q).isSome=true)(d t k:Nat):((⟨d,t,H.gen d t,k⟩:Ref)=q)=False:=
 eq_false (qM a h d t k)
theorem QP{H:aa}(a:Fr H){q:Ref}(h:(H.get q).isSome=true)(d t k:Nat):(q=(⟨d,t,H.gen d t,k⟩:Ref))=False:=
 eq_false λe=>qM a h d t k e.symm
theorem Mo{H:aa}(a:Fr H)(d t k:Nat):H.get ⟨d,t,H.gen d t,k⟩=none:=a _ _ _ _ (de _)
theorem MM{H:aa}(c:Fr H){d t g:Nat}(a:g=H.gen d t)(b:Option bw):Fr ((⟨d,t,g,0⟩,b) :: H):=by subst a;exact c.cons d t b
theorem ML{H:aa}(c:Fr H){r:Ref}(a:(H.get r).isSome=true)(b:Option bw):Fr (H.put r b):=c.put b a
theorem Jg{H:aa}{r:Ref}(a:(H.get r).isSome=true)(b:Option bw)(d t:Nat):(H.put r b).gen d t=H.gen d t:=aa.np H r b a d t
theorem KW{E:Env}{f:FuncId}(a:u6 (E.mode f)=false)(x:AV)(H:aa)(y:AV):handed E f x H y↔view H.get depth x=some y:=by
 unfold handed
 rw[if_neg (by simpa using a)]
theorem Gj{E:Env}{f:FuncId}(a:u6 (E.mode f)=true)(x:AV)(H:aa)(y:AV):handed E f x H y↔(ao H.get depth x).Nodup/\dc H.get depth x=some y:=by
 unfold handed
 rw[if_pos (by simpa using a)]
def BU(a:Bool)(H:aa)(r:Ref)(refs:List Ref)(o:Option AV):dz:=match o with
 | some y=>if flat depth y||kB H.get refs then some ((az r depth y []).1,keyed r 0 (az r depth y []).2 H)
  else if a then some ((az r depth y []).1,keyed r 0 (az r depth y []).2 (cH H refs)) else none
 | none=>none
noncomputable def W7(E:Env)(a:Bool)(H:aa)(r:Ref)(refs:List Ref)(f:FuncId)(o:Option (List AV)):dz:=match o with
 | some xs=>BU a H r refs (ak E f xs)
 | none=>none
theorem ay{E:Env}(a:Bool)(dep:Nat)(H:aa)(r:Ref)(f:FuncId)(d:(E.mode f == 2)=false)(c:(E.mode f == 3)=false)(first captured args:List AV) :
 aL E a (ak E) (bD E dep) H r (some (.fn (.func f) first captured)) args=W7 E a H r (ck H.get (first++args++captured)) f ((first++args++captured).mapM (view H.get depth)):=by
 have b:E.mode f≠2:=by simpa using d
 simp only[aL,kJ,nC,if_neg b,c,yM,Bool.or_false]
 cases(first++args++captured).mapM (view H.get depth) with
 | none=>cases a<;>rfl
 | some xs=>
  dsimp only[W7]
  cases ak E f xs with
  | none=>cases a<;>rfl
  | some y=>
   dsimp only[BU,Option.map_some]
   cases e:(flat depth y||kB H.get (ck H.get (first++args++captured))) with
   | true=>rfl
   | false=>cases a<;>rfl
theorem OB(r:Ref)(n:Nat)(t:TypeId)(x:AV)(a:List bw):az r (n+1) (.ifc t x) a=(.ifc t (az r n x a).1,(az r n x a).2):=id rfl
@[simp] theorem ac2(E:Env)(a:Bool)(H:aa)(r:Ref)(refs:List Ref)(f:FuncId)(xs:List AV):W7 E a H r refs f (some xs)=BU a H r refs (ak E f xs):=id rfl
@[simp] theorem ac3(a:Bool)(H:aa)(r:Ref)(refs:List Ref)(y:AV)(h:flat depth y=true):BU a H r refs (some y)=some (y,H):=by
 simp only[BU,h,Bool.true_or,if_true]
 rw[xB r depth depth y [] h]
 rfl
theorem aw(a:Bool)(H:aa)(r:Ref)(y:AV):BU a H r [] (some y)=some ((az r depth y []).1,keyed r 0 (az r depth y []).2 H):=by
 simp only[BU,kB,List.all_nil,Bool.or_true,if_true]
theorem aF(a:Bool)(H:aa)(r:Ref)(refs:List Ref)(y:AV)(h:kB H.get refs=true):BU a H r refs (some y)=some ((az r depth y []).1,keyed r 0 (az r depth y []).2 H):=by
 simp only[BU,h,Bool.or_true,if_true]
@[simp] theorem akl(n:Nat)(x:Value):flat (n+1) (.v x)=true:=id rfl
@[simp] theorem akm(n:Nat)(x:UInt8):flat (n+1) (a8 x)=true:=id rfl
@[simp] theorem ajg(n:Nat)(x:UInt32):flat (n+1) (ae x)=true:=id rfl
@[simp] theorem flat_agg(n:Nat)(cs:List AV):flat (n+1) (.agg cs)=cs.all (flat n):=id rfl
@[simp] theorem aeO(n:Nat)(cs:List AV):flat (n+1) (.tup cs)=cs.all (flat n):=id rfl
@[simp] theorem ahv(n:Nat)(t:TypeId)(x:AV):flat (n+1) (.ifc t x)=flat n x:=id rfl
@[simp] theorem ahu(n z:Nat)(es:List AV)(c:Option Nat):flat (n+1) (.cD z es c)=false:=id rfl
@[simp] theorem ahw(n z:Nat)(es:List AV)(c:Option Nat):flat (n+1) (.fsl z es c)=false:=id rfl
@[simp] theorem aae(g:cX):ck g []=[]:=id rfl
@[simp] theorem Yp(g:cX)(x:AV)(xs:List AV):ck g (x :: xs)=ao g depth x++ck g xs:=id rfl
@[simp] theorem aa8(g:cX)(n:Nat)(x:Value):ao g n (.v x)=[]:=by cases n<;>rfl
@[simp] theorem aa9(g:cX)(n:Nat)(x:UInt8):ao g n (a8 x)=[]:=by cases n<;>rfl
@[simp] theorem Z2(g:cX)(n:Nat)(x:UInt32):ao g n (ae x)=[]:=by cases n<;>rfl
@[simp] theorem XO(g:cX)(n z:Nat)(es:List AV)(c:Option Nat):ao g n (.cD z es c)=[]:=by cases n<;>rfl
@[simp] theorem Xz(g:cX)(n z:Nat)(es:List AV)(i j:Nat):ao g n (.iptr z es i j)=[]:=by cases n<;>rfl
@[simp] theorem XP(g:cX)(n:Nat)(cs:List AV):ao g (n+1) (.agg cs)=cs.flatMap (ao g n):=id rfl
@[simp] theorem XL(g:cX)(n:Nat)(cs:List AV):ao g (n+1) (.tup cs)=cs.flatMap (ao g n):=id rfl
@[simp] theorem XN(g:cX)(n:Nat)(r:Ref)(o l:Nat)(c:Option Nat):ao g (n+1) (.cG r o l c)=[r]:=id rfl
@[simp] theorem Z1(g:cX)(n:Nat)(f:Fn)(a b:List AV):ao g (n+1) (.fn f a b)=a.flatMap (ao g n)++b.flatMap (ao g n):=id rfl
def RQ(g:cX)(n:Nat)(o:Option bw):List Ref:=match o with
 | some b=>if b.arr then [] else b.es.flatMap (ao g n)
 | none=>[]
@[simp] theorem XM(g:cX)(n:Nat)(r:Ref)(i j:Nat):ao g (n+1) (.ptr r i j)=r :: RQ g n (g r):=id rfl
@[simp] theorem Yz(g:cX)(n:Nat)(b:bw):RQ g n (some b)=if b.arr then [] else b.es.flatMap (ao g n):=id rfl
def DC(o l:Nat)(c:Option Nat)(b:Option bw):Option AV:=match b with
 | some b=>if b.arr=true/\o+l<=b.es.length then some (.cD b.esz ((b.es.drop o).take l) c) else none
 | none=>none
@[simp] theorem adm(g:cX)(n:Nat)(r:Ref)(o l:Nat)(c:Option Nat):view g (n+1) (.cG r o l c)=DC o l c (g r):=id rfl
@[simp] theorem abb(o l:Nat)(c:Option Nat)(b:bw):DC o l c (some b)=if b.arr=true/\o+l<=b.es.length then some (.cD b.esz ((b.es.drop o).take l) c) else none:=id rfl
def Z3(g:cX)(n i j:Nat)(b:Option bw):Option AV:=match b with
 | some b=>if b.arr then some (.iptr b.esz b.es i j) else (b.es.mapM (view g n)).map λes => .iptr b.esz es i j
 | none=>none
@[simp] theorem adl(g:cX)(n:Nat)(r:Ref)(i j:Nat):view g (n+1) (.ptr r i j)=Z3 g n i j (g r):=id rfl
@[simp] theorem aba(g:cX)(n i j:Nat)(b:bw):Z3 g n i j (some b)=if b.arr then some (.iptr b.esz b.es i j) else (b.es.mapM (view g n)).map λes => .iptr b.esz es i j:=id rfl
@[simp] theorem ah9(g:cX)(n:Nat)(f:Fn)(a b:List AV):view g (n+1) (.fn f a b)=(a.mapM (view g n)).bind λa=>(b.mapM (view g n)).map λb => .fn f a b:=by
 rw[view]
 cases a.mapM (view g n)<;>cases b.mapM (view g n)<;>rfl
@[simp] theorem ahd(r:Ref)(n:Nat)(x:Value)(a:List bw):az r n (.v x) a=(.v x,a):=by cases n<;>rfl
@[simp] theorem ahe(r:Ref)(n:Nat)(x:UInt8)(a:List bw):az r n (a8 x) a=(a8 x,a):=by cases n<;>rfl
@[simp] theorem aeK(r:Ref)(n:Nat)(x:UInt32)(a:List bw):az r n (ae x) a=(ae x,a):=by cases n<;>rfl
@[simp] theorem acx(r:Ref)(n z:Nat)(es:List AV)(c:Option Nat)(a:List bw):az r n (.cD z es c) a=(.cD z es c,a):=by cases n<;>rfl
@[simp] theorem acy(r:Ref)(n z:Nat)(es:List AV)(c:Option Nat)(a:List bw)(b:z≠0):az r (n+1) (.fsl z es c) a=(.cG { r with k:=a.length} 0 es.length c,a++[⟨z,es,true,false⟩]):=by
 simp only[az,if_neg b]
def vB(r:Ref)(n:Nat):List AV->List AV->List bw->List AV × List bw
 | [],acc,a=>(acc,a)
 | c :: cs,acc,a=>vB r n cs (acc++[(az r n c a).1]) (az r n c a).2
theorem I9(r:Ref)(n:Nat)(cs:List AV) : ∀(a:List AV)(b:List bw),cs.foldl (λ(p:List AV × List bw) c=>let (y,b):=az r n c p.2;(p.1++[y],b)) (a,b)=vB r n cs a b:=by
 induction cs with
 | nil=>intro a b;rfl
 | cons c cs d=>intro a b;rw[w8];exact d _ _
@[simp] theorem acz(r:Ref)(n:Nat)(cs:List AV)(a:List bw):az r (n+1) (.agg cs) a=(.agg (vB r n cs [] a).1,(vB r n cs [] a).2):=by
 rw[<-I9];rfl
@[simp] theorem acw(r:Ref)(n:Nat)(cs:List AV)(a:List bw):az r (n+1) (.tup cs) a=(.tup (vB r n cs [] a).1,(vB r n cs [] a).2):=by
 rw[<-I9];rfl
@[simp] theorem aao(r:Ref)(n:Nat)(a:List AV)(b:List bw):vB r n [] a b=(a,b):=id rfl
@[simp] theorem YV(r:Ref)(n:Nat)(c:AV)(cs a:List AV)(b:List bw):vB r n (c :: cs) a b=vB r n cs (a++[(az r n c b).1]) (az r n c b).2:=id rfl
@[simp] theorem XF(H:aa):cH H []=H:=id rfl
def R9(H:aa)(r:Ref)(b:Option bw):aa:=match b with
 | some b=>H.put r (some { b with kq:=true})
 | none=>H
@[simp] theorem WQ(H:aa)(r:Ref)(rs:List Ref):cH H (r :: rs)=cH (R9 H r (H.get r)) rs:=by
 show(match H.get r with | some b=>cH (H.put r (some { b with kq:=true})) rs | none=>cH H rs)=_
 cases H.get r<;>rfl
@[simp] theorem Y2(H:aa)(r:Ref)(b:bw):R9 H r (some b)=H.put r (some { b with kq:=true}):=id rfl
def Sd(l:Nat)(c:Option Nat)(b:Option bw):Option AV:=match b with
 | some b=>if b.arr=true/\l<=b.es.length then some (if b.kq then .cD b.esz (b.es.take l) c else .fsl b.esz (b.es.take l) c) else none
 | none=>none
@[simp] theorem acL(g:cX)(n:Nat)(r:Ref)(l:Nat)(c:Option Nat):dc g (n+1) (.cG r 0 l c)=Sd l c (g r):=id rfl
@[simp] theorem Zr(l:Nat)(c:Option Nat)(b:bw):Sd l c (some b)=if b.arr=true/\l<=b.es.length then some (if b.kq then .cD b.esz (b.es.take l) c else .fsl b.esz (b.es.take l) c) else none:=id rfl
@[simp] theorem ahx(g:cX)(n:Nat)(x:Value):dc g (n+1) (.v x)=some (.v x):=id rfl
@[simp] theorem ahy(g:cX)(n:Nat)(x:UInt8):dc g (n+1) (a8 x)=some (a8 x):=id rfl
@[simp] theorem aeP(g:cX)(n:Nat)(x:UInt32):dc g (n+1) (ae x)=some (ae x):=id rfl
@[simp] theorem acM(g:cX)(n:Nat)(cs:List AV):dc g (n+1) (.agg cs)=(cs.mapM (dc g n)).map .agg:=id rfl
@[simp] theorem acK(g:cX)(n:Nat)(cs:List AV):dc g (n+1) (.tup cs)=(cs.mapM (dc g n)).map .tup:=id rfl
theorem Sl.idx{z:Nat}{es:List AV}{x:AV}(h:Sl z es x){P:Program}{t:TypeId}(a:(dY P t).bind (aH P)=some z)(g:cX)(b:IntKind)(k:Int) :
 ep P g t (some x) (some (.v (.int b k)))=if 0<=k/\k<es.length then some (.iptr z es k.toNat 0,[]) else none:=by
 rcases h with ⟨rfl,rfl⟩ | ⟨c,rfl,_⟩
 ·obtain⟨e,he,d⟩:=OZ a
  rw[if_neg (by simp)]
  simp[ep,intOf,he]
 ·exact IN a g es c b k
theorem Sl.exp{z:Nat}{es:List AV}{x:AV}(h:Sl z es x)(g:cX)(n:Nat):dc g (n+1) x=some x:=by
 rcases h with ⟨rfl,rfl⟩ | ⟨c,rfl,_⟩<;>rfl
theorem Sl.imp'{z:Nat}{es:List AV}{x:AV}(h:Sl z es x)(r:Ref)(n:Nat)(a:List bw):az r n x a=(x,a):=by
 rcases h with ⟨rfl,rfl⟩ | ⟨c,rfl,_⟩<;>cases n<;>rfl
theorem Sl.r{z:Nat}{es:List AV}{x:AV}(h:Sl z es x):xz x=some es.length/\(∀g n,Ab.view g (n+1) x=some x)/\(∀g n,ao g n x=[])/\x.cells=[x]/\x.one=true/\(∀g n,dc g (n+1) x=some x)/\(∀r n a,az r n x a=(x,a)):=
 ⟨h.len,h.view,h.refs,h.cells.1,h.cells.2,h.exp,h.imp'⟩
@[simp] theorem akH(z:Nat)(es a:List AV)(c:Option Nat):Sl z es (.cD z a c)↔es=a/\es.length<=c.getD es.length:=by
 constructor
 ·rintro(⟨e,_⟩ | ⟨b,e,h⟩)
  ·cases e
  ·cases e;exact⟨rfl,h⟩
 ·rintro⟨rfl,h⟩;exact .inr ⟨c,rfl,h⟩
@[simp] theorem akG(z:Nat)(es:List AV):Sl z es ba↔es=[]:=by
 constructor
 ·rintro(⟨_,e⟩ | ⟨a,e,h⟩)
  ·exact e
  ·cases e
 ·rintro rfl;exact .inl ⟨rfl,rfl⟩
@[simp] theorem at_nil:ba.at?=none:=id rfl
@[simp] theorem akz(r:Ref)(o n:Nat)(c:Option Nat):(AV.cG r o n c).at?=some r:=id rfl
theorem Xh{P:Program}{t t' z a:Nat}(j:elT P t z a=true)(c:JL P t'=true)(n:Bool)(H:aa)(r:Ref){new:List AV}{x:AV}(g:ZJ H.get z new x)(y:new≠[])(E:new.length * a<=bn) :
 jG P n H r (some t) (some t') ba x=some (.cG r 0 new.length none,({ r with k:=0},some ⟨z,new,true,false⟩) :: H):=by
 obtain⟨e,m,i,v,p,F,o,G,l,D⟩:=lO j
 have b:=g.ql j i
 unfold JL at c
 simp only[aY,dN]at c
 have f:(P.underlying t').isNone=false:=by cases h:P.underlying t' with | none=>rw[h]at c;simp at c | some d=>rfl
 have u : ¬((P.underlying t').isNone=true\/isInt P t'≠isNum x):=by
  rw[f,c.2,g.num];simp
 have q : ¬(z≠z\/z=0\/a=0\/m.cells.length≠z):=by simp[o,l,D]
 simp only[jG,jL,fN,i,Option.map_some,cY,if_neg u,v,p,F,b,if_neg q,if_neg y,if_pos E]
 rfl
theorem Pf{P:Program}{t t' z a:Nat}(G:elT P t z a=true)(f:JL P t'=true)(H:aa)(r q:Ref)(n:Nat){new es:List AV}{x:AV}(y:ZJ H.get z new x){fz:Bool}(u:H.get q=some ⟨z,es,true,fz⟩)(J:n=es.length)(c:new≠[])(K:(es.length+new.length) * a<=bn) :
 jG P true H r (some t) (some t') (.cG q 0 n none) x=some (.cG ⟨q.d,q.t,H.gen q.d q.t,0⟩ 0 (es.length+new.length) none,(⟨q.d,q.t,H.gen q.d q.t,0⟩,some ⟨z,es++new,true,fz⟩) :: H.put q none):=by
 subst J
 obtain⟨e,m,k,D,p,F,o,L,l,E⟩:=lO G
 have b:=y.ql G k
 unfold JL at f
 simp only[aY,dN]at f
 have j:(P.underlying t').isNone=false:=by cases h:P.underlying t' with | none=>rw[h]at f;simp at f | some d=>rfl
 have v : ¬((P.underlying t').isNone=true\/isInt P t'≠isNum x):=by
  rw[j,f.2,y.num];simp
 have I : ¬(z≠z\/z=0\/a=0\/m.cells.length≠z):=by simp[o,l,E]
 have g : ¬(z≠z\/z=0\/a=0\/new=[]\/m.cells.length≠z):=by simp[o,l,E,c]
 have i:jL P H.get r (some t) (some t') (.cG q 0 es.length none) x=none:=by
  simp only[jL,fN,k,Option.map_some,cY,if_neg v,D,p,F,b,if_neg I,u,if_neg c]
  simp
 simp only[jG,i,KM,Oa]
 simp only[m6,fN,k,Option.map_some,cY,if_neg v,D,p,F,b,if_neg g,u,K,and_self,if_true,true_and]
def oE(P:Program)(t:TypeId):Nat:=((dY P t).bind (aH P)).getD 0
def wz(P:Program)(t:TypeId):Nat:=((dY P t).bind (pU P)).getD 0
def jZ(P:Program)(t:TypeId):AV:=((dY P t).bind (eI P)).getD AV.undef
def qU(P:Program)(t:TypeId):Bool:=elT P t (oE P t) (wz P t)
def Zu(z:Nat)(o:Option (Nat × List AV)):Option (List AV):=match o with
 | some (a,es)=>if a=z then some es else none
 | none=>none
def lg(z:Nat)(g:cX)(x:AV):Option (List AV):=match x with
 | .v (.slice none 0 0)=>some []
 | .v (.int _ _)=>none
 | x=>Zu z (cT g x)
@[simp] theorem aeT(z:Nat)(g:cX):lg z g ba=some []:=id rfl
@[simp] theorem aeU(z:Nat)(g:cX)(a:Nat)(es:List AV)(c:Option Nat):lg z g (.cD a es c)=if a=z then some es else none:=id rfl
def acP(z o n:Nat)(b:Option bw):Option (List AV):=match b with
 | some b=>if (b.arr=true/\o+n<=b.es.length)/\b.esz=z then some ((b.es.drop o).take n) else none
 | none=>none
@[simp] theorem aeV(z o n:Nat)(b:bw):acP z o n (some b)=if (b.arr=true/\o+n<=b.es.length)/\b.esz=z then some ((b.es.drop o).take n) else none:=id rfl
@[simp] theorem aeS(z:Nat)(g:cX)(r:Ref)(o n:Nat)(c:Option Nat):lg z g (.cG r o n c)=acP z o n (g r):=by
 unfold lg acP
 simp only[cT]
 cases g r with
 | none=>rfl
 | some b=>
  dsimp only
  by_cases h:b.arr=true/\o+n<=b.es.length
  ·by_cases a:b.esz=z
   ·rw[if_pos h,if_pos ⟨h,a⟩];simp[Zu,a]
   ·rw[if_pos h,if_neg (λe=>a e.2)];simp[Zu,a]
  ·rw[if_neg h,if_neg (λe=>h e.1)];rfl
theorem Sl.lg{z:Nat}{es:List AV}{x:AV}(h:Sl z es x)(g:cX):Ab.lg z g x=some es:=by
 rcases h with ⟨rfl,rfl⟩ | ⟨c,rfl,_⟩<;>simp
theorem zC{z:Nat}{g:cX}{x:AV}{new:List AV}(h:lg z g x=some new):ZJ g z new x:=by
 unfold lg at h
 split at h
 ·cases h;exact .inl ⟨rfl,rfl⟩
 ·cases h
 ·rename_i b a
  unfold Zu at h
  split at h
  ·rename_i f es c
   split at h
   ·rename_i d
    cases h;subst d
    refine .inr ⟨?_,λe=>?_,c⟩
    ·cases x with
     | v u=>cases u with
      | int k n=>exact(a _ _ rfl).elim
      | _=>rfl
     | _=>rfl
    ·exact b e
   ·cases h
  ·cases h
def ah0(z a:Nat)(H:aa)(r:Ref)(new:Option (List AV)):dz:=match new with
 | some new=>if new=[] then some (ba,H) else if new.length * a<=bn then some (.cG r 0 new.length none,({ r with k:=0},some ⟨z,new,true,false⟩) :: H) else none
 | none=>none
@[simp] theorem T8(z a:Nat)(H:aa)(r:Ref)(new:List AV):ah0 z a H r (some new)=if new=[] then some (ba,H) else if new.length * a<=bn then some (.cG r 0 new.length none,({ r with k:=0},some ⟨z,new,true,false⟩) :: H) else none:=id rfl
@[simp] theorem ada{P:Program}{t t':TypeId}(j:qU P t=true)(c:JL P t'=true)(v:Bool)(H:aa)(r:Ref)(x:AV)(f:(lg (oE P t) H.get x).isSome=true) :
 jG P v H r (some t) (some t') ba x=ah0 (oE P t) (wz P t) H r (lg (oE P t) H.get x):=by
 obtain⟨new,F⟩:=gU.1 f
 rw[F,T8]
 have f:=zC F
 unfold qU at j
 by_cases b:new=[]
 ·rw[if_pos b]
  subst b
  obtain⟨e,l,i,p,n,u,m,G,k,q⟩:=lO j
  have a:=f.ql j i
  unfold JL at c
  simp only[aY,dN]at c
  have g:(P.underlying t').isNone=false:=by cases h:P.underlying t' with | none=>rw[h]at c;simp at c | some d=>rfl
  have o : ¬((P.underlying t').isNone=true\/isInt P t'≠isNum x):=by rw[g,c.2,f.num];simp
  have z : ¬(oE P t≠oE P t\/oE P t=0\/wz P t=0\/l.cells.length≠oE P t):=by simp[m,k,q]
  simp only[jG,jL,fN,i,Option.map_some,cY,if_neg o,p,n,u,a,if_neg z,if_true]
  rfl
 ·rw[if_neg b]
  split
  ·rename_i E;exact Xh j c v H r f b E
  ·rename_i E
   obtain⟨e,l,i,p,n,u,m,G,k,q⟩:=lO j
   have a:=f.ql j i
   unfold JL at c
   simp only[aY,dN]at c
   have g:(P.underlying t').isNone=false:=by cases h:P.underlying t' with | none=>rw[h]at c;simp at c | some d=>rfl
   have o : ¬((P.underlying t').isNone=true\/isInt P t'≠isNum x):=by rw[g,c.2,f.num];simp
   have z : ¬(oE P t≠oE P t\/oE P t=0\/wz P t=0\/l.cells.length≠oE P t):=by simp[m,k,q]
   have y : ¬(oE P t≠oE P t\/oE P t=0\/wz P t=0\/new=[]\/l.cells.length≠oE P t):=by simp[m,k,q,b]
   have D:jL P H.get r (some t) (some t') ba x=none:=by
    simp only[jL,fN,i,Option.map_some,cY,if_neg o,p,n,u,a,if_neg z,if_neg b,if_neg E]
   simp only[jG,D,KM]
   cases v
   ·rfl
   ·simp only[Oa,m6,fN,i,Option.map_some,cY,if_neg o,p,n,u,a,if_neg y]
def bsG(a:Bool)(z:Nat)(b:AV)(H:aa)(r:Ref)(n:Nat)(ps:List (Nat × AV)):dz:=match jb (List.replicate n b) ps with
 | some es=>if a then some (.cD z es (some n),H) else some (.cG r 0 n (some n),({ r with k:=0},some ⟨z,es,true,false⟩) :: H)
 | none=>none
@[simp] theorem ajK{P:Program}{t:TypeId}(g:qU P t=true)(a j:Bool)(H:aa)(r:Ref)(n:Nat)(ps:List (Nat × AV))(c:n * oE P t<=16777216)(l:eb H.get ps=some ps)(d:ck H.get (ps.map (·.2))=[])
 (k:ps.all (λp=>p.2.cells.length == oE P t&&p.2.cells.all AV.one)=true) (b:(jb (List.replicate n (jZ P t)) ps).isSome=true) :
 nJ P a j H r t n (some ps)=bsG a (oE P t) (jZ P t) H r n ps:=by
 obtain⟨es,b⟩:=gU.1 b
 unfold qU at g
 obtain⟨e,h,m,x,v,o,u,z,q,y⟩:=lO g
 have i:(dY P t).bind (eI P)=some h:=by rw[m];exact o
 have f:jZ P t=h:=by unfold jZ;rw[i];rfl
 rw[f]at b ⊢
 rw[W9 g c l d k i b]
 unfold bsG
 rw[b]
@[simp] theorem XG(es:List AV):jb es []=some es:=id rfl
@[simp] theorem WT(es:List AV)(i:Nat)(v:AV)(ps:List (Nat × AV)):jb es ((i,v) :: ps)=if i<es.length then jb (es.set i v) ps else none:=id rfl
@[simp] theorem ahU(a:Bool)(z:Nat)(b:AV)(H:aa)(r:Ref)(n:Nat)(ps:List (Nat × AV)):bsG a z b H r n ps=(jb (List.replicate n b) ps).bind λes=>if a then some (.cD z es (some n),H) else some (.cG r 0 n (some n),({ r with k:=0},some ⟨z,es,true,false⟩) :: H):=by
 unfold bsG;cases jb (List.replicate n b) ps<;>rfl
@[simp] theorem XA(g:cX):eb g []=some []:=id rfl
@[simp] theorem UC(g:cX)(i:Nat)(x:AV)(ps:List (Nat × AV)):eb g ((i,x) :: ps)=(view g depth x).bind λy=>(eb g ps).map ((i,y) :: ·):=by
 unfold eb
 rw[On]
 dsimp only
 cases view g depth x<;>rfl
def ahh(z o n:Nat)(k:Int)(r:Ref)(b:Option bw):jI:=match b with
 | some b=>if 0<=k/\k<n/\z=b.esz then some (.ptr r (o+k.toNat) 0,[]) else none
 | none=>none
@[simp] theorem aeL(z o n:Nat)(k:Int)(r:Ref)(b:bw):ahh z o n k r (some b)=if 0<=k/\k<n/\z=b.esz then some (.ptr r (o+k.toNat) 0,[]) else none:=id rfl
@[simp] theorem Ug{P:Program}{t:TypeId}(h:qU P t=true)(g:cX)(r:Ref)(o n:Nat)(c:Option Nat)(b:IntKind)(k:Int) :
 ep P g t (some (.cG r o n c)) (some (.v (.int b k)))=ahh (oE P t) o n k r (g r):=by
 unfold qU at h
 obtain⟨e,i,d,a,l,p,j,q,f,m⟩:=lO h
 simp only[ep,fN,intOf,d,a]
 cases g r<;>rfl
def Qb(H:aa)(r:Ref)(o:Option bw)(n i j:Nat)(x:AV):dz:=match o with
 | some ⟨z,es,true,false⟩=>if x.cells.length=n/\x.cells.all AV.one=true then (iJ es i j x.cells).map λes=>(AV.undef,H.put r (some ⟨z,es,true,false⟩)) else none
 | some ⟨z,es,false,false⟩=>if x.cells.length=n/\x.cells.all AV.one=true then (iJ es i j x.cells).map λes=>(AV.undef,H.put r (some ⟨z,es,false,false⟩)) else none
 | _=>none
@[simp] theorem Is(H:aa)(r:Ref)(z:Nat)(es:List AV)(n i j:Nat)(x:AV):Qb H r (some ⟨z,es,true,false⟩) n i j x=if x.cells.length=n/\x.cells.all AV.one=true then (iJ es i j x.cells).map λes=>(AV.undef,H.put r (some ⟨z,es,true,false⟩)) else none:=id rfl
@[simp] theorem abf(H:aa)(r:Ref)(z:Nat)(es:List AV)(n i j:Nat)(x:AV):Qb H r (some ⟨z,es,false,false⟩) n i j x=if x.cells.length=n/\x.cells.all AV.one=true then (iJ es i j x.cells).map λes=>(AV.undef,H.put r (some ⟨z,es,false,false⟩)) else none:=id rfl
def Qd(H:aa)(o:Option bw)(x:AV):Prop:=match o with
 | some ⟨_,_,false,false⟩=>True
 | some ⟨_,_,true,false⟩=>view H.get depth x=some x/\ao H.get depth x=[]
 | _=>False
@[simp] theorem abh(H:aa)(z:Nat)(es:List AV)(x:AV):Qd H (some ⟨z,es,false,false⟩) x=True:=id rfl
@[simp] theorem abi(H:aa)(z:Nat)(es:List AV)(x:AV):Qd H (some ⟨z,es,true,false⟩) x=(view H.get depth x=some x/\ao H.get depth x=[]):=id rfl
theorem Ux{P:Program}{t:TypeId}(d:(aH P t).isSome=true)(H:aa)(r:Ref)(i j:Nat)(x:AV)(c:Qd H (H.get r) x) :
 nS P H t (some (.ptr r i j)) (some x)=Qb H r (H.get r) ((aH P t).getD 0) i j x:=by
 obtain⟨n,d⟩:=gU.1 d
 simp only[nS,d,cY]
 cases e:H.get r with
 | none=>rw[e]at c;exact c.elim
 | some b=>
  rw[e]at c
  obtain⟨z,es,arr,kq⟩:=b
  cases kq with
  | true=>cases arr<;>exact c.elim
  | false=>
   cases arr with
   | false=>simp only[and_true,mr,if_false];rfl
   | true=>
    obtain⟨g,f⟩:=c
    simp only[and_true,if_true,g,f,E3,if_false,cH]
    by_cases a:x.cells.length=n/\x.cells.all AV.one=true
    ·rw[if_pos a,Is,if_pos a,if_pos a.2]
    ·rw[if_neg a,Is,if_neg a]
theorem F1{b:Type}(f:b->AV)(l:List b)(i j:Nat)(new:List AV):iJ (l.map f) i j new=(l[i]?).bind λa=>(tQ (f a) j new).map λc=>(l.map f).set i c:=by
 unfold iJ
 rw[pG]
 cases l[i]?<;>rfl
@[simp] theorem Xx(cs:List AV)(j:Nat)(new:List AV):tQ (.agg cs) j new=if j+new.length<=cs.length then some (.agg (patch cs j new)) else none:=id rfl
@[simp] theorem abH(f:Fn)(a b:List AV):gY f (some a) (some b)=some (.fn f a b,[]):=id rfl
attribute [simp] Ux
@[simp] theorem acJ(a:Nat->Option (Nat × Nat))(cells:List AV):mc a cells []=some cells:=id rfl
def aaX(a:Nat->Option (Nat × Nat))(cells:List AV)(v:AV)(rest:List (Nat × AV))(p:Option (Nat × Nat)):Option (List AV):=match p with
 | none=>none
 | some (off,size)=>if v.cells.length=size/\off+size<=cells.length then mc a (patch cells off v.cells) rest else none
@[simp] theorem aaY(a:Nat->Option (Nat × Nat))(cells:List AV)(i:Nat)(v:AV)(rest:List (Nat × AV)):mc a cells ((i,v) :: rest)=aaX a cells v rest (a i):=id rfl
@[simp] theorem acI(b:Nat->Option (Nat × Nat))(cells:List AV)(v:AV)(rest:List (Nat × AV))(c a:Nat):aaX b cells v rest (some (c,a))=if v.cells.length=a/\c+a<=cells.length then mc b (patch cells c v.cells) rest else none:=id rfl
@[simp] theorem aai(P:Program){g:cX}{r:Ref}{b a:TypeId}{k':IntKind}(e:(P.underlying b).isNone=false)(d:intKind P a=some .u64)(n:Int)(c:0<=n)(f:n<=4294967296) :
 gB P g r b a (some (.v (.int k' n)))=some (.v (.int .u64 n),[]):=by
 rw[zk P .u64 e d,IntKind.wrap_u64,PB c (by omega)]
@[simp] theorem agH(r':Ref)(b':Option bw)(H:aa)(r:Ref)(b:Option bw):aa.put ((r',b') :: H) r b=if r'=r then (r,b) :: H else (r',b') :: aa.put H r b:=id rfl
@[simp] theorem XX{a b:Type}(f:a->b)(l:List a):List.take l.length (l.map f)=l.map f:=fe (by simp)
def Xs(z:Nat)(es:List AV)(y:AV):Prop:=(y=ba/\es=[])\/y = .fsl z es none\/(y = .fsl z [] (some 0)/\es=[])
theorem YA(z:Nat):Xs z [] ba := .inl ⟨rfl,rfl⟩
@[simp] theorem ah6(z:Nat)(es:List AV):Xs z es ba↔es=[]:=by
 constructor
 ·rintro(⟨_,e⟩ | e | ⟨e,_⟩)
  ·exact e
  ·cases e
  ·cases e
 ·rintro rfl;exact YA z
@[simp] theorem ah7(z:Nat)(es a:List AV):Xs z es (.fsl z a none)↔es=a:=by
 constructor
 ·rintro(⟨e,_⟩ | e | ⟨e,_⟩)
  ·cases e
  ·cases e;rfl
  ·cases e
 ·rintro rfl;exact .inr (.inl rfl)
@[simp] theorem ae8(z:Nat)(es:List AV):Xs z es (.fsl z [] (some 0))↔es=[]:=by
 constructor
 ·rintro(⟨e,_⟩ | e | ⟨_,e⟩)
  ·cases e
  ·cases e
  ·exact e
 ·rintro rfl;exact .inr (.inr ⟨rfl,rfl⟩)
theorem Pg{P:Program}{t t':TypeId}(l:qU P t=true)(c:JL P t'=true)(E:Bool)(H:aa)(r q:Ref)(n k:Nat)(x:AV){es new:List AV}{fz:Bool}(o:H.get q=some ⟨oE P t,es,true,fz⟩)(f:lg (oE P t) H.get x=some new)(G:n=es.length)(g:new=[]\/((es.length+new.length) * wz P t<=bn/\k<es.length+new.length)) :
 jG P E H r (some t) (some t') (.cG q 0 n (some k)) x=if new=[] then some (.cG q 0 n (some k),H) else some (.cG r 0 (es.length+new.length) none,({ r with k:=0},some ⟨oE P t,es++new,true,false⟩) :: H):=by
 subst G
 have f:=zC f
 unfold qU at l
 obtain⟨e,D,j,v,m,y,F,K,z,I⟩:=lO l
 have a:=f.ql l j
 unfold JL at c
 simp only[aY,dN]at c
 have i:(P.underlying t').isNone=false:=by cases h:P.underlying t' with | none=>rw[h]at c;simp at c | some d=>rfl
 have u : ¬((P.underlying t').isNone=true\/isInt P t'≠isNum x):=by rw[i,c.2,f.num];simp
 have p : ¬(oE P t≠oE P t\/oE P t=0\/wz P t=0\/D.cells.length≠oE P t):=by simp[F,z,I]
 by_cases b:new=[]
 ·subst b
  simp only[jG,jL,fN,j,Option.map_some,cY,if_neg u,v,m,y,a,if_neg p,o,if_true]
  simp
 ·obtain⟨J,g⟩:=g.resolve_left b
  simp only[jG,jL,fN,j,Option.map_some,cY,if_neg u,v,m,y,a,if_neg p,o,if_neg b]
  simp only[ne_eq,not_true_eq_false,Bool.true_eq_false,or_self,if_false,vQ,de,g,J,and_self,if_true,Li,HA]
  rfl
def nx(z a n:Nat)(e:Bool)(c:Option Nat)(b:Option bw)(new:Option (List AV)):Prop:=match b,new with
 | some ⟨d,es,true,_⟩,some new=>d=z/\n=es.length/\(new=[]\/((es.length+new.length) * a<=bn/\match c with | none=>e=true | some k=>k<es.length+new.length))
 | _,_=>False
theorem aA(z a n:Nat)(c:Bool)(b:Nat)(es new:List AV)(fz:Bool):nx z a n c none (some ⟨b,es,true,fz⟩) (some new)=(b=z/\n=es.length/\(new=[]\/((es.length+new.length) * a<=bn/\c=true))):=id rfl
theorem aD(z a n:Nat)(c:Bool)(k b:Nat)(es new:List AV)(fz:Bool):nx z a n c (some k) (some ⟨b,es,true,fz⟩) (some new)=(b=z/\n=es.length/\(new=[]\/((es.length+new.length) * a<=bn/\k<es.length+new.length))):=id rfl
def ZC(z:Nat)(H:aa)(q r:Ref)(n:Nat)(c:Option Nat)(b:Option bw)(new:Option (List AV)):dz:=match b,new with
 | some b,some []=>some (.cG q 0 n c,H)
 | some b,some new=>match c with
  | none=>some (.cG ⟨q.d,q.t,H.gen q.d q.t,0⟩ 0 (b.es.length+new.length) none,(⟨q.d,q.t,H.gen q.d q.t,0⟩,some ⟨z,b.es++new,true,b.kq⟩) :: H.put q none)
  | some _=>some (.cG r 0 (b.es.length+new.length) none,({ r with k:=0},some ⟨z,b.es++new,true,false⟩) :: H)
 | _,_=>none
@[simp] theorem Xi(z:Nat)(H:aa)(q r:Ref)(n:Nat)(c:Option Nat)(b:bw):ZC z H q r n c (some b) (some [])=some (.cG q 0 n c,H):=id rfl
theorem bI(z:Nat)(H:aa)(q r:Ref)(n:Nat)(b:bw)(new:List AV)(a:new≠[]):ZC z H q r n none (some b) (some new)=some (.cG ⟨q.d,q.t,H.gen q.d q.t,0⟩ 0 (b.es.length+new.length) none,(⟨q.d,q.t,H.gen q.d q.t,0⟩,some ⟨z,b.es++new,true,b.kq⟩) :: H.put q none):=by
 cases new with
 | nil=>exact(a rfl).elim
 | cons _ _=>rfl
theorem bH(z:Nat)(H:aa)(q r:Ref)(n k:Nat)(b:bw)(new:List AV)(a:new≠[]):ZC z H q r n (some k) (some b) (some new)=some (.cG r 0 (b.es.length+new.length) none,({ r with k:=0},some ⟨z,b.es++new,true,false⟩) :: H):=by
 cases new with
 | nil=>exact(a rfl).elim
 | cons _ _=>rfl
theorem aM{P:Program}{t t':TypeId}(o:qU P t=true)(g:JL P t'=true)(p:Bool)(H:aa)(r q:Ref)(n:Nat)(c:Option Nat)(x:AV)(a:nx (oE P t) (wz P t) n p c (H.get q) (lg (oE P t) H.get x)) :
 jG P p H r (some t) (some t') (.cG q 0 n c) x=ZC (oE P t) H q r n c (H.get q) (lg (oE P t) H.get x):=by
 cases i:H.get q with
 | none=>rw[i]at a;exact a.elim
 | some b=>
  obtain⟨M,es,arr,fz⟩:=b
  cases j:lg (oE P t) H.get x with
  | none=>rw[i,j]at a;cases arr<;>exact a.elim
  | some new=>
   rw[i,j]at a
   cases arr with
   | false=>exact a.elim
   | true=>
    obtain⟨rfl,rfl,a⟩:=a
    cases c with
    | none=>
     by_cases f:new=[]
     ·subst f
      rw[Xi]
      have m:=zC j
      unfold qU at o
      obtain⟨e,z,v,I,E,L,D,N,y,J⟩:=lO o
      have l:=m.ql o v
      unfold JL at g
      simp only[aY,dN]at g
      have u:(P.underlying t').isNone=false:=by cases h:P.underlying t' with | none=>rw[h]at g;simp at g | some d=>rfl
      have G : ¬((P.underlying t').isNone=true\/isInt P t'≠isNum x):=by rw[u,g.2,m.num];simp
      have F : ¬(oE P t≠oE P t\/oE P t=0\/wz P t=0\/z.cells.length≠oE P t):=by simp[D,y,J]
      simp only[jG,jL,fN,v,Option.map_some,cY,if_neg G,I,E,L,l,if_neg F,i,if_true]
      simp
     ·obtain⟨K,rfl⟩:=a.resolve_left f
      rw[bI _ _ _ _ _ _ _ f]
      exact Pf (by exact o) g H r q _ (zC j) i rfl f K
    | some k=>
     rw[Pg o g p H r q _ k x i j rfl a]
     split
     ·rename_i f;subst f;rfl
     ·rename_i f;rw[bH _ _ _ _ _ _ _ _ f]
theorem Sl.Wh{z:Nat}{es:List AV}{x:AV}(h:Sl z es x):x=ba/\es=[] \/∃c,x = .cD z es c:=by
 rcases h with h | ⟨c,h,_⟩
 ·exact .inl h
 ·exact .inr ⟨c,h⟩
@[simp] theorem Yx(P:Program)(t:TypeId)(d a:Operand)(h:(dY P t).isSome=true)(z:Nat)(es:List AV)(c:Option Nat):bY P .eql t d a (some (.cD z es c)) (some ba)=some (aB false,[]):=by
 unfold dY at h
 split at h
 ·rename_i e b
  simp[bY,Ml,oW,b]
 ·cases h
def aht(b:Option bw):Bool:=match b with | some b=>b.kq | none=>false
@[simp] theorem aeN(b:bw):aht (some b)=b.kq:=id rfl
@[simp] theorem adf(g:cX):kB g []=true:=id rfl
@[simp] theorem aa3(g:cX)(r:Ref)(rs:List Ref):kB g (r :: rs)=(aht (g r)&&kB g rs):=id rfl
theorem aE(H:aa)(r:Ref)(refs:List Ref)(y:AV)(b:flat depth y=false)(a:kB H.get refs=false):BU true H r refs (some y)=some ((az r depth y []).1,keyed r 0 (az r depth y []).2 (cH H refs)):=by
 simp only[BU,b,a,Hp,mr,if_false,if_true]
def ym(z:Nat):List AV->AV
 | []=>ba
 | es => .fsl z es none
@[simp] theorem agJ(z:Nat):ym z []=ba:=id rfl
theorem Ap(z:Nat){es:List AV}(h:es≠[]):ym z es = .fsl z es none:=by
 cases es with
 | nil=>exact(h rfl).elim
 | cons _ _=>rfl
def sM:AV->AV
 | .cD z [] _ => .fsl z [] (some 0)
 | .cD z es _ => .fsl z es none
 | x=>x
@[simp] theorem O8(x:Value):sM (.v x) = .v x:=id rfl
@[simp] theorem Re(z:Nat)(c:Option Nat):sM (.cD z [] c) = .fsl z [] (some 0):=id rfl
theorem rE(z:Nat){es:List AV}(c:Option Nat)(h:es≠[]):sM (.cD z es c) = .fsl z es none:=by
 cases es with
 | nil=>exact(h rfl).elim
 | cons _ _=>rfl
theorem wD{z:Nat}{es:List AV}{x:AV}(h:Sl z es x):Xs z es (sM x):=by
 rcases h with ⟨rfl,rfl⟩ | ⟨c,rfl,_⟩
 ·simp
 ·by_cases a:es=[]
  ·subst a;simp
  ·rw[rE z c a];simp
def kO(z:Nat)(es:List AV)(H:aa)(x y:AV):Prop:=(x=y/\Sl z es y) \/∃r c fz,x = .cG r 0 es.length c/\H.get r=some ⟨z,es,true,fz⟩/\y = .cD z es c/\es.length<=c.getD es.length
theorem kO.sl{z:Nat}{es:List AV}{H:aa}{x y:AV}(h:kO z es H x y):Sl z es y:=by
 rcases h with ⟨_,h⟩ | ⟨r,c,fz,_,_,rfl,h⟩
 ·exact h
 ·exact .inr ⟨c,rfl,h⟩
theorem kO.view{z:Nat}{es:List AV}{H:aa}{x y:AV}(h:kO z es H x y)(n:Nat):Ab.view H.get (n+1) x=some y:=by
 rcases h with ⟨rfl,h⟩ | ⟨r,c,fz,rfl,a,rfl,_⟩
 ·exact h.view _ _
 ·rw[Kq a rfl]
theorem kO.len{z:Nat}{es:List AV}{H:aa}{x y:AV}(h:kO z es H x y):xz x=some es.length:=by
 rcases h with ⟨rfl,h⟩ | ⟨r,c,fz,rfl,a,rfl,_⟩
 ·exact h.len
 ·rfl
theorem kO.cells{z:Nat}{es:List AV}{H:aa}{x y:AV}(h:kO z es H x y):x.cells=[x]/\x.one=true:=by
 rcases h with ⟨rfl,h⟩ | ⟨r,c,fz,rfl,a,rfl,_⟩
 ·exact h.cells
 ·exact⟨rfl,rfl⟩
theorem kO.put{z:Nat}{es:List AV}{H:aa}{x y:AV}(h:kO z es H x y){q:Ref}(a:x.at?≠some q)(b:Option bw):kO z es (H.put q b) x y:=by
 rcases h with h | ⟨r,c,fz,rfl,d,rfl,e⟩
 ·exact .inl h
 ·refine .inr ⟨r,c,fz,rfl,?_,rfl,e⟩
  rw[aa.get_put,if_neg (by rintro rfl;exact a rfl),d]
theorem kO.cons{z:Nat}{es:List AV}{H:aa}{x y:AV}(h:kO z es H x y)(f:Fr H)(d t:Nat)(b:Option bw):kO z es ((⟨d,t,H.gen d t,0⟩,b) :: H) x y:=by
 rcases h with h | ⟨r,c,fz,rfl,a,rfl,e⟩
 ·exact .inl h
 ·refine .inr ⟨r,c,fz,rfl,?_,rfl,e⟩
  rw[aa.uR,if_neg (qM f (by rw[a];rfl) d t 0),a]
theorem kO.r{z:Nat}{es:List AV}{H:aa}{x y:AV}(h:kO z es H x y):xz x=some es.length/\(∀n,Ab.view H.get (n+1) x=some y)/\x.cells=[x]/\x.one=true:=⟨h.len,h.view,h.cells⟩
theorem kO.of{z:Nat}{es:List AV}{x:AV}(h:Sl z es x)(H:aa):kO z es H x x := .inl ⟨rfl,h⟩
def Uc(z:Nat)(es:List AV)(H:aa)(x:AV)(r:Ref):Prop:=(x=ba/\es=[]) \/∃c,x = .cG r 0 es.length c/\H.get r=some ⟨z,es,true,false⟩
theorem Uc.len{z:Nat}{es:List AV}{H:aa}{x:AV}{r:Ref}(h:Uc z es H x r):xz x=some es.length:=by
 rcases h with ⟨rfl,rfl⟩ | ⟨c,rfl,_⟩<;>rfl
theorem Uc.cells{z:Nat}{es:List AV}{H:aa}{x:AV}{r:Ref}(h:Uc z es H x r):x.cells=[x]/\x.one=true:=by
 rcases h with ⟨rfl,rfl⟩ | ⟨c,rfl,_⟩<;>exact⟨rfl,rfl⟩
theorem Uc.cG{z:Nat}{es:List AV}{H:aa}{x:AV}{r:Ref}(h:Uc z es H x r){k:Nat}(a:k<es.length) : ∃c,x = .cG r 0 es.length c/\H.get r=some ⟨z,es,true,false⟩:=by
 rcases h with ⟨rfl,rfl⟩ | h
 ·simp at a
 ·exact h
def uW(a:List Nat)(z:Nat)(es:List AV)(H:aa)(x:AV):Prop:=(x=ba/\es=[]) \/∃t g,t∈a/\x = .cG ⟨0,t,g,0⟩ 0 es.length none/\H.get ⟨0,t,g,0⟩=some ⟨z,es,true,false⟩
@[simp] theorem ae7(b:List Nat)(z:Nat)(es:List AV)(H:aa)(t g n:Nat):uW b z es H (.cG ⟨0,t,g,0⟩ 0 n none)↔t∈b/\n=es.length/\H.get ⟨0,t,g,0⟩=some ⟨z,es,true,false⟩:=by
 constructor
 ·rintro(⟨e,_⟩ | ⟨t',c,a,e,h⟩)
  ·cases e
  ·cases e;exact⟨a,rfl,h⟩
 ·rintro⟨a,rfl,h⟩;exact .inr ⟨t,g,a,rfl,h⟩
theorem kO.live{z:Nat}{es:List AV}{H:aa}{x y:AV}(h:kO z es H x y){r:Ref}(b:x.at?=some r):(H.get r).isSome=true:=by
 rcases h with ⟨rfl,h⟩ | ⟨r',c,fz,rfl,a,rfl,_⟩
 ·rcases h with ⟨rfl,_⟩ | ⟨c,rfl,_⟩<;>cases b
 ·cases b;rw[a];rfl
theorem kO.mono{z:Nat}{es:List AV}{H H':aa}{x y:AV}(h:kO z es H x y)(b : ∀r,x.at?=some r->H'.get r=H.get r):kO z es H' x y:=by
 rcases h with h | ⟨r',c,fz,rfl,a,rfl,d⟩
 ·exact .inl h
 ·exact .inr ⟨r',c,fz,rfl,by rw[b r' rfl,a],rfl,d⟩
theorem L7{H:aa}(a:Fr H){q:Ref}(h:(H.get q).isSome=true)(d t k:Nat):((⟨d,t,H.gen d t+1,k⟩:Ref)=q)=False:=
 eq_false λe=>by subst e;rw[a _ _ _ _ (EX _)]at h;cases h
theorem L8{H:aa}(a:Fr H){q:Ref}(h:(H.get q).isSome=true)(d t k:Nat):(q=(⟨d,t,H.gen d t+1,k⟩:Ref))=False:=
 eq_false λe=>by subst e;rw[a _ _ _ _ (EX _)]at h;cases h
theorem OJ{H:aa}(a:Fr H)(d t k:Nat):H.get ⟨d,t,H.gen d t+1,k⟩=none:=a _ _ _ _ (EX _)
theorem JG{H:aa}(c:Fr H){d t g:Nat}(k:Nat)(m:g=H.gen d t\/g+1=H.gen d t)(b:Option bw):Fr ((⟨d,t,g,k⟩,b) :: H):=by
 intro j t' l k' h
 rw[aa.OK]at h
 rw[aa.uR]
 by_cases a:d=j/\t=t'
 ·obtain⟨rfl,rfl⟩:=a
  rw[if_pos ⟨rfl,rfl⟩]at h
  rw[if_neg (by intro e;injection e;omega)]
  exact c _ _ _ _ (by omega)
 ·rw[if_neg a]at h
  rw[if_neg (by intro e;injection e with f i;exact a ⟨f,i⟩)]
  exact c _ _ _ _ h
def R5(a:Nat)(es:List AV)(k:Nat)(new:Option (List AV)):Prop:=match new with
 | some new=>new=[]\/(k<es.length+new.length/\(es.length+new.length) * a<=bn)
 | none=>False
theorem aj(a:Nat)(es:List AV)(k:Nat)(new:List AV):R5 a es k (some new)=(new=[]\/(k<es.length+new.length/\(es.length+new.length) * a<=bn)):=id rfl
def acr(z:Nat)(H:aa)(r:Ref)(es:List AV)(k:Nat)(new:Option (List AV)):dz:=match new with
 | some []=>some (.cD z es (some k),H)
 | some new=>some (.cG r 0 (es.length+new.length) none,({ r with k:=0},some ⟨z,es++new,true,false⟩) :: H)
 | none=>none
@[simp] theorem WH(z:Nat)(H:aa)(r:Ref)(es:List AV)(k:Nat):acr z H r es k (some [])=some (.cD z es (some k),H):=id rfl
theorem bf(z:Nat)(H:aa)(r:Ref)(es:List AV)(k:Nat)(new:List AV)(a:new≠[]):acr z H r es k (some new)=some (.cG r 0 (es.length+new.length) none,({ r with k:=0},some ⟨z,es++new,true,false⟩) :: H):=by
 cases new with
 | nil=>exact(a rfl).elim
 | cons _ _=>rfl
theorem aN{P:Program}{t t':TypeId}(m:qU P t=true)(b:JL P t'=true)(D:Bool)(H:aa)(r:Ref)(z k:Nat)(es:List AV)(x:AV)(G:z=oE P t)(f:R5 (wz P t) es k (lg (oE P t) H.get x)) :
 jG P D H r (some t) (some t') (.cD z es (some k)) x=acr z H r es k (lg (oE P t) H.get x):=by
 subst G
 cases i:lg (oE P t) H.get x with
 | none=>rw[i]at f;exact f.elim
 | some new=>
  rw[i]at f
  have c:=zC i
  unfold qU at m
  obtain⟨e,y,l,q,n,u,E,K,v,I⟩:=lO m
  have a:=c.ql m l
  unfold JL at b
  simp only[aY,dN]at b
  have j:(P.underlying t').isNone=false:=by cases h:P.underlying t' with | none=>rw[h]at b;simp at b | some d=>rfl
  have p : ¬((P.underlying t').isNone=true\/isInt P t'≠isNum x):=by rw[j,b.2,c.num];simp
  have o : ¬(oE P t≠oE P t\/oE P t=0\/wz P t=0\/y.cells.length≠oE P t):=by simp[E,v,I]
  by_cases g:new=[]
  ·subst g
   rw[WH]
   simp only[jG,jL,fN,l,Option.map_some,cY,if_neg p,q,n,u,a,if_neg o,if_neg (show ¬(oE P t≠oE P t) by simp),if_true]
   rfl
  ·obtain⟨F,J⟩:=f.resolve_left g
   rw[bf _ _ _ _ _ _ g]
   simp only[jG,jL,fN,l,Option.map_some,cY,if_neg p,q,n,u,a,if_neg o,if_neg (show ¬(oE P t≠oE P t) by simp),if_neg g,if_pos (show k<es.length+new.length/\(es.length+new.length) * wz P t<=bn from⟨F,J⟩)]
   rfl
@[simp] theorem aeM(n:Nat)(h:n<9223372036854775808):IntKind.i64.wrap (no_index (OfNat.ofNat n):Int)=OfNat.ofNat n:=by
 show IntKind.i64.wrap (n:Int)=n
 exact IntWalk.i64_in _ (by omega)
@[simp] theorem ahW(len:Nat)(cap:Option Nat)(a b:Option Int):bounds len cap a b none=if 0<=a.getD 0/\a.getD 0<=b.getD len/\b.getD len<=len then some ((a.getD 0).toNat,(b.getD len).toNat,cap.map (· - (a.getD 0).toNat)) else none:=id rfl
@[simp] theorem agh(k:Nat):min k IntKind.i64.bits=min k 64:=id rfl
def aaf(o:Option AV)(j n:Nat)(a:Bool):Option AV:=match o with
 | none=>none
 | some e=>if a then (if j+n<=e.cells.length/\0<n then some (.agg ((e.cells.drop j).take n)) else none) else e.cells[j]?
@[simp] theorem abA(e:AV)(j n:Nat)(a:Bool):aaf (some e) j n a=if a then (if j+n<=e.cells.length/\0<n then some (.agg ((e.cells.drop j).take n)) else none) else e.cells[j]?:=id rfl
@[simp] theorem ad6(a b:AV)(es:List AV)(i j n:Nat)(c:Bool):cm (a :: b :: es) i j n c=aaf (a :: b :: es)[i]? j n c:=by
 unfold cm;cases(a :: b :: es)[i]?<;>rfl
@[simp] theorem ah1(l:List (AV × AV))(st a:List AV)(H:aa):ny l st a H↔(l.all λp=>sv p.1 p.2)=true/\st.all (yg H)=true/\a.all bsV=true:=Iff.rfl
@[simp] theorem ad5(r:Ref)(i j:Nat)(r':Ref)(a b:Nat):sv (.ptr r i j) (.ptr r' a b) = !decide (r=r'):=by
 unfold sv;simp[jK]
@[simp] theorem ad4(v:Value)(x:AV):sv x (.v v)=true:=by
 unfold sv;cases jK x<;>rfl
def Qa(o:Option bw):Bool:=match o with
 | some b => !b.arr
 | none=>false
@[simp] theorem Z9(b:bw):Qa (some b) = !b.arr:=id rfl
@[simp] theorem agf(H:aa)(r:Ref)(i j:Nat):yg H (.ptr r i j)=Qa (H.get r):=by
 cases h:H.get r<;>simp[yg,Qa,h]
def be:Nat->Int->List UInt8
 | 0,_=>[]
 | k+1,n=>be k (n / 256)++[u8 n]
def ajU(a:Int)(l:List UInt8):Int:=l.foldl (λa b=>256 * a+(b.toNat:Int)) a
def val(l:List UInt8):Int:=ajU 0 l
@[simp] theorem Xe(k:Nat) : ∀n,(be k n).length=k:=by
 induction k with
 | zero=>intro n;rfl
 | succ k a=>intro n;simp[be,a]
@[simp] theorem ajN(n:Int):be 0 n=[]:=id rfl
theorem MF(k:Nat) : ∀n:Int,be (k+1) n=u8 (n / 256 ^ k) :: be k n:=by
 induction k with
 | zero=>intro n;simp[be]
 | succ k a=>
  intro n
  rw[be,a,be]
  rw[Int.ediv_ediv_of_nonneg (by omega),Int.pow_succ,Int.mul_comm (256 ^ k)]
  simp
@[simp] theorem ac8(k:Nat)(n:Int):be k n=[]↔k=0:=by
 rw[<-List.length_eq_zero_iff,Xe]
theorem Rm(n:Int):be 4 n=[u8 (n / 16777216),u8 (n / 65536),u8 (n / 256),u8 n]:=by
 simp[MF]
theorem akx(n:Int):be 7 n=[u8 (n / 281474976710656),u8 (n / 1099511627776),u8 (n / 4294967296),u8 (n / 16777216),u8 (n / 65536),u8 (n / 256),u8 n]:=by
 simp[MF]
theorem fJ(n:Int)(k:Nat):n.fdiv (no_index (OfNat.ofNat k))=n / OfNat.ofNat k:=Int.fdiv_eq_ediv_of_nonneg _ (Int.natCast_nonneg k)
def m8(z:Nat):List AV->AV
 | []=>ba
 | es => .cD z es none
theorem xp(z:Nat){es:List AV}(h:es≠[]):m8 z es = .cD z es none:=by
 cases es with
 | nil=>exact(h rfl).elim
 | cons _ _=>rfl
theorem pr(z:Nat)(es:List AV):Sl z es (m8 z es):=by
 cases es with
 | nil=>exact .inl ⟨rfl,rfl⟩
 | cons a l=>exact .inr ⟨none,rfl,by simp⟩
theorem Sl.YU{z:Nat}{es:List AV}{x:AV}(h:Sl z es x)(b:es≠[]) : ∃c,x = .cD z es c/\es.length<=c.getD es.length:=by
 rcases h with ⟨_,rfl⟩ | ⟨c,h,a⟩
 ·exact(b rfl).elim
 ·exact⟨c,h,a⟩
def ab1(z:Nat)(b:Option bw)(q:jI):jI:=match b with
 | some b=>if z=b.esz then q else none
 | none=>none
@[simp] theorem aes(z:Nat)(b:bw)(q:jI):ab1 z (some b) q=if z=b.esz then q else none:=id rfl
@[simp] theorem abE{P:Program}{t:TypeId}(h:qU P t=true)(g:cX)(r:Ref)(o n:Nat)(c:Option Nat)(f d a:Option Int) :
 ja P g t (some (.cG r o n c)) (some f) (some d) (some a)=ab1 (oE P t) (g r) ((bounds n c f d a).map λp=>(.cG r (o+p.1) (p.2.1 - p.1) p.2.2,[])):=by
 unfold qU at h
 obtain⟨e,m,k,j,u,x,q,y,l,v⟩:=lO h
 have i:(dY P t).bind (aH P)=some (oE P t):=by rw[k];exact j
 unfold ja
 dsimp only
 rw[i]
 cases g r with
 | none=>rfl
 | some b=>simp[ab1]
@[simp] theorem ac4(l:List UInt8):kr l=[]↔l=[]:=by simp[kr]
set_option linter.defProp false
def ek:=And.intro @aa.get_put (And.intro @MM (And.intro @JG (And.intro @Fr.nil (And.intro @ML (And.intro @dH (And.intro @QP (And.intro @L7 (And.intro @L8 (And.intro @Mo (And.intro @OJ (@Jg)))))))))))
def CZ:=And.intro @MM (And.intro @JG (And.intro @Fr.nil (And.intro @ML (And.intro @dH (And.intro @QP (And.intro @L7 (And.intro @L8 (And.intro @Mo (And.intro @OJ (@Jg))))))))))
def ai:=And.intro @dH (And.intro @QP (And.intro @L7 (And.intro @L8 (@Jg))))
end Go.Ab
