/-
  The arguments of a law: from what is read before the call to data. No statement of a seat is proved here.
  The shapes of the arguments' data, type by type. No statement of a seat is proved here.
  '==' of structs and arrays of bools, numbers and strings: cell by cell. No statement of a seat is proved here.
  More rules for the conditions: slices, strings, calls that answer slices, small slices. No statement of a seat is proved here.
  Boxes, fields, structs in the conditions; branches as ifs; calls as rules. No statement of a seat is proved here.
  Rules that let a simplifier go through calls, boxes and own slices by itself. No statement of a seat is proved here.
  Rules for a simplifier, on: what a call hands out as the caller's own, and what is behind a call. No statement of a seat is proved here.
  Rules for a simplifier, on: appends to data, bytes. No statement of a seat is proved here.
  More rules for the simplifier. No statement of a seat is proved here.
  Numbers as bytes, the highest first. No statement of a seat is proved here.
-/
import Derived.ChangeKeysEq
import Derived.Laws.Strings
import Derived.Test.YtmkmimgokagimaaGreatAbsCond
set_option linter.unusedVariables false
set_option linter.unusedSimpArgs false
set_option linter.unusedSectionVars false
set_option linter.unnecessarySimpa false
namespace Go.Ab
open Go.ChangeShapes Go.WideShapes Go.RowKit
def L9(a:Bool)(xs:List AV):AV:=match a,xs with
 | false,[x]=>x
 | _,xs => .agg xs
def Nj(S:List AV->Prop):Nat->List AV->Prop
 | 0,xs=>xs=[]
 | k+1,xs =>∃a b,xs=a++b/\S a/\Nj S k b
def VA(S:TypeId->List AV->Prop):List Field->List AV->Prop
 | [],xs=>xs=[]
 | f :: c,xs =>∃a b,xs=a++b/\S f.type a/\VA S c b
def B7(P:Program):Nat->TypeId->List AV->Prop
 | 0,_,_=>False
 | n+1,t,xs=>match P.underlying t with
  | some .bool =>∃b,xs=[aB b]
  | some (.int k) =>∃i,(k.min<=i/\i<=k.max)/\xs=[.v (.int k i)]
  | some .string =>∃s:ByteArray,xs=[aS s]
  | some (.slice e)=>xs=[ct] \/∃es:List (List AV),xs=[.bW (P.cellsOf e) (es.map (L9 ((dI P e).getD false))) none] /\∀x∈es,B7 P n e x
  | some (.struct a)=>VA (B7 P n) a.toList xs
  | some (.array k e)=>Nj (B7 P n e) k xs
  | _=>False
def layout(P:Program):List Field->Nat->Option Nat
 | [],o=>some o
 | f :: a,o=>if f.offset=o then layout P a (o+P.cellsOf f.type) else none
def plain(P:Program):Nat->TypeId->Bool
 | 0,_=>false
 | n+1,t=>match P.underlying t with
  | some .bool | some (.int _) | some .string=>P.cellsOf t == 1
  | some (.slice e)=>P.cellsOf t == 1&&plain P n e&&decide (0<P.cellsOf e)
  | some (.struct a)=>a.toList.all (λf=>plain P n f.type)&&layout P a.toList 0 == some (P.cellsOf t)
  | some (.array k e)=>plain P n e&&P.cellsOf t == k * P.cellsOf e
  | _=>false
theorem B7.facts{P:Program} : ∀(n:Nat)(t:TypeId)(xs:List AV),plain P n t=true->B7 P n t xs->xs.length=P.cellsOf t /\∀x∈xs,x.one=true:=by
 intro n
 induction n with
 | zero=>intro t xs h;simp[plain]at h
 | succ n E=>
  intro t xs hp c
  unfold plain at hp
  unfold B7 at c
  cases hu:P.underlying t with
  | none=>rw[hu]at c;exact c.elim
  | some d=>
   rw[hu]at hp c
   cases d<;>dsimp only at hp c<;>try (exact c.elim)
   ·obtain⟨b,rfl⟩:=c
    simp at hp;exact⟨by simp[hp],by simp[AV.one]⟩
   ·obtain⟨i,_,rfl⟩:=c
    simp at hp;exact⟨by simp[hp],by simp[AV.one]⟩
   ·obtain⟨s,rfl⟩:=c
    simp at hp;exact⟨by simp[hp],by simp[AV.one]⟩
   ·rename_i e
    simp only[bh,beq_iff_eq]at hp
    rw[hp.1.1]
    rcases c with rfl | ⟨es,rfl,_⟩
    ·simp[AV.one]
    ·simp[AV.one]
   ·rename_i k e
    simp only[bh,beq_iff_eq]at hp
    rw[hp.2]
    have : ∀(k:Nat)(xs:List AV),Nj (B7 P n e) k xs->xs.length=k * P.cellsOf e /\∀x∈xs,x.one=true:=by
     intro k
     induction k with
     | zero=>intro xs h;simp only[Nj]at h;subst h;simp
     | succ k v=>
      intro xs h
      obtain⟨a,b,rfl,z,u⟩:=h
      obtain⟨j,p⟩:=E e a hp.1 z
      obtain⟨y,C⟩:=v b u
      refine⟨by rw[oT,j,y,Jl];omega,λx A=>?_⟩
      rcases nR.1 A with h | h
      ·exact p x h
      ·exact C x h
    exact this k xs c
   ·rename_i F
    simp only[bh,beq_iff_eq,gD]at hp
    have : ∀(l:List Field)(o:Nat)(xs:List AV),(∀f∈l,plain P n f.type=true)->VA (B7 P n) l xs->(∀m,layout P l o=some m->o+xs.length=m) /\∀x∈xs,x.one=true:=by
     intro l
     induction l with
     | nil=>intro o xs _ h;simp only[VA]at h;subst h;exact⟨λm g=>by simp[layout]at g;simp[g],by simp⟩
     | cons f l q=>
      intro o xs D h
      obtain⟨a,b,rfl,z,u⟩:=h
      obtain⟨j,p⟩:=E f.type a (D f (jn ..)) z
      obtain⟨y,C⟩:=q (o+P.cellsOf f.type) b (λf G=>D f (il _ G)) u
      refine⟨λm g=>?_,λx A=>?_⟩
      ·unfold layout at g
       split at g
       ·have:=y m g;rw[oT,j];omega
       ·cases g
      ·rcases nR.1 A with h | h
       ·exact p x h
       ·exact C x h
    obtain⟨j,p⟩:=this F.toList 0 xs hp.1 c
    exact⟨by have:=j _ hp.2;omega,p⟩
theorem ON{b:Bool}{xs:List AV}(a : ∀x∈xs,x.one=true):(L9 b xs).cells=xs:=by
 unfold L9
 split
 ·rename_i x
  have:=a x (by simp)
  cases x<;>first | rfl | (simp[AV.one]at this)
 ·rfl
section
variable{H:Type}{enc:TypeId × Value->H}{P:Program}{w:World}{base:Nat}{spare:Nat->Bool}{held:Bool}
abbrev vc(w:World):Mem:=λb o=>w.cell? ⟨b,o,none⟩
theorem OJ : ∀(n m:Nat)(t:TypeId)(cs:List Value)(d:DataW H)(ps:List MemPlace),plain P m t=true->DataW.trod enc P w base spare held n t cs=some (d,ps) ->
 ∃xs:List AV,B7 P m t xs/\mc (vc w) ek xs cs:=by
 intro n
 induction n with
 | zero=>intro m t cs d ps _ h;simp[DataW.trod]at h
 | succ n ih=>
  intro m t cs d ps hp h
  cases m with
  | zero=>simp[plain]at hp
  | succ m=>
  have hp0:=hp
  unfold plain at hp
  unfold B7
  cases hu:P.underlying t with
  | none=>rw[hu]at hp;simp at hp
  | some dd=>
   rw[hu]at hp
   unfold DataW.trod at h
   rw[hu]at h
   have g : ∀ {x:AV} {c:Value},VR (vc w) ek x c->mc (vc w) ek [x] [c]:=λh=>mc.cons h mc.nil
   cases dd<;>dsimp only at hp ⊢ <;> try (simp at hp;done)
   ·
    rcases cs with _ | ⟨c,_ | ⟨c',cs⟩⟩
    ·simp at h
    ·cases c<;>first | (simp at h;done) | skip
     rename_i b
     exact⟨[aB b],⟨b,rfl⟩,g (.v rfl)⟩
    ·simp at h
   ·
    rename_i k
    rcases cs with _ | ⟨c,_ | ⟨c',cs⟩⟩
    ·simp at h
    ·cases c<;>first | (simp at h;done) | skip
     rename_i k' i
     dsimp only at h
     split at h
     ·rename_i hk
      obtain⟨rfl,hw⟩:=hk
      exact⟨[.v (.int k' i)],⟨i,by simpa [Lit.wf] using hw,rfl⟩,g (.v rfl)⟩
     ·cases h
    ·simp at h
   ·
    rcases cs with _ | ⟨c,_ | ⟨c',cs⟩⟩
    ·simp at h
    ·cases c<;>first | (simp at h;done) | skip
     rename_i s
     exact⟨[aS s],⟨s,rfl⟩,g (.v rfl)⟩
    ·simp at h
   ·
    rename_i e
    simp only[bh,beq_iff_eq,decide_eq_true_eq]at hp
    rcases cs with _ | ⟨c,_ | ⟨c',cs⟩⟩
    ·simp at h
    ·cases c<;>first | (simp at h;done) | skip
     rename_i a len cap
     cases a with
     | none=>
      have hlc:len=0/\cap=0:=by
       cases len<;>cases cap<;>simp at h ⊢
      obtain⟨rfl,rfl⟩:=hlc
      exact⟨[ct],.inl rfl,g (.v rfl)⟩
     | some a=>
      dsimp only at h
      split at h
      ·rename_i hb
       simp only[ig,bO]at h
       obtain⟨elems,hel,_⟩:=h
       have hlen:elems.length=len:=by simpa using jT hel
       have each : ∀i,i<len ->∃(xs:List AV) (q:List Value),B7 P m e xs/\mc (vc w) ek xs q/\w.cells? base (a.add (i * P.cellsOf e)) (P.cellsOf e)=some q:=by
        intro i D
        obtain⟨y,L,G⟩:=lA hel i i (by simp[D])
        simp only[ig]at G
        obtain⟨q,hvs,G⟩:=G
        obtain⟨xs,C,E⟩:=ih m e q y.1 y.2 hp.1.2 G
        exact⟨xs,q,C,E,hvs⟩
       have : ∀k,k<=len ->∃es:List (List AV),es.length=k /\∀i xs,es[i]?=some xs ->∃q:List Value,B7 P m e xs/\mc (vc w) ek xs q/\w.cells? base (a.add (i * P.cellsOf e)) (P.cellsOf e)=some q:=by
        intro k
        induction k with
        | zero=>intro _;exact⟨[],rfl,λi xs h=>by simp at h⟩
        | succ k Z=>
         intro hk
         obtain⟨es,C,E⟩:=Z (by omega)
         obtain⟨xs,q,X⟩:=each k (by omega)
         refine⟨es++[xs],by simp[C],λi ys L=>?_⟩
         rcases fm i k with D | D
         ·rw[nS (by omega)]at L
          exact E i ys L
         ·have:i=k:=by
           have:=(iN.1 L).1
           simp[C]at this
           omega
          subst this
          rw[pf (by omega)]at L
          simp[C]at L
          subst L
          exact⟨q,X⟩
       obtain⟨es,hes,A⟩:=this len (dc _)
       have N : ∀xs∈es,(L9 ((dI P e).getD false) xs).cells=xs/\xs.length=P.cellsOf e:=by
        intro xs p
        obtain⟨i,D,rfl⟩:=sw p
        obtain⟨q,C,E,X⟩:=A i es[i] (fc D)
        obtain⟨Q,W⟩:=C.facts m e _ hp.1.2
        exact⟨ON W,Q⟩
       refine⟨[.bW (P.cellsOf e) (es.map (L9 ((dI P e).getD false))) none],.inr ⟨es,rfl,λxs p=>?_⟩,g ?_⟩
       ·obtain⟨i,D,rfl⟩:=sw p
        obtain⟨q,C,_⟩:=A i es[i] (fc D)
        exact C
       ·have hlm:(es.map (L9 ((dI P e).getD false))).length=len:=by simp[hes]
        have F : ∀i j,i<len->j<P.cellsOf e ->∃xs q,es[i]?=some xs/\mc (vc w) ek xs q/\(∀x∈xs,x.one=true)/\xs.length=P.cellsOf e/\vc w a.block (a.off+(i * P.cellsOf e+j))=q[j]?/\(a.spot=none):=by
         intro i j D S
         have hi':i<es.length:=by omega
         obtain⟨q,C,E,X⟩:=A i es[i] (fc hi')
         obtain⟨Q,W⟩:=C.facts m e _ hp.1.2
         obtain⟨hb',hvl,hc⟩:=World.cells?_some X
         have hj':=hc j S
         have hsp:a.spot=none:=by
          obtain⟨vs0,g1,g2,g3⟩:=A 0 es[0] (fc (by omega))
          obtain⟨_,hvl0,hc0⟩:=World.cells?_some g3
          have:=hc0 0 hp.2
          rw[Nat.zero_mul]at this
          have ha0:(a.add 0).add 0=a:=by simp[Addr.add]
          rw[ha0]at this
          unfold World.cell? at this
          cases hs:a.spot with
          | none=>rfl
          | some z=>
           exfalso
           have hl0:0<vs0.length:=by omega
           rw[fc hl0]at this
           split at this
           ·rw[hs]at this;simp at this
           ·simp at this
         refine⟨es[i],q,fc hi',E,W,Q,?_,hsp⟩
         rw[<-hj']
         unfold vc
         congr 1
         rw[lG hsp,iL,iL,Jp]
        have:=VR.bW (M:=vc w) (ι:=ek) (esz:=P.cellsOf e) (es:=es.map (L9 ((dI P e).getD false))) (cap:=none) (a:=a) (c:=cap)
         (λi j=>(vc w a.block (a.off+(i * P.cellsOf e+j))).getD Go.undef) ?_ (by rw[hlm];exact hb.2.1) (λk hk=>by cases hk) ?_ ?_ ?_
        ·rw[hlm]at this;exact this
        ·rcases Iq len with h0 | h0
         ·right
          have:es=[]:=by apply Ch;omega
          simp[this]
         ·left
          obtain⟨_,_,_,_,_,_,_,hs⟩:=F 0 0 h0 hp.2
          exact hs
        ·intro i j D S
         rw[hlm]at D
         obtain⟨xs,q,C,E,X,Q,W,_⟩:=F i j D S
         have I:j<q.length:=by rw[<-E.1,Q];exact S
         have hjx:j<xs.length:=by rw[Q];exact S
         rw[W,fc I]
         refine⟨rfl,?_⟩
         have:=E.2 j xs[j] q[j] (fc hjx) (fc I)
         exact this.one (X _ (lY ..))
        ·intro x hx
         obtain⟨xs,p,rfl⟩:=tY.1 hx
         rw[(N xs p).1]
         exact(N xs p).2
        ·intro i j x c hx hc
         rw[oS,bO]at hx
         obtain⟨xs,p,rfl⟩:=hx
         have R:xs∈es:=fL p
         rw[(N xs R).1]at hc
         have D:i<len:=by have:=(iN.1 p).1;omega
         have S:j<P.cellsOf e:=by have:=(iN.1 hc).1;rw[(N xs R).2]at this;exact this
         obtain⟨xs',q,C,E,X,Q,W,_⟩:=F i j D S
         rw[p]at C
         cases C
         have I:j<q.length:=by rw[<-E.1,Q];exact S
         show VR _ _ c ((vc w a.block (a.off+(i * P.cellsOf e+j))).getD Go.undef)
         rw[W,fc I]
         exact E.2 j c q[j] hc (fc I)
      ·cases h
    ·simp at h
   ·
    rename_i k e
    simp only[bh,beq_iff_eq]at hp
    have h:cs.length=P.cellsOf t /\∃xs,((List.range k).mapM λi=>DataW.trod enc P w base spare held n e ((cs.drop (i * P.cellsOf e)).take (P.cellsOf e)))=some xs:=by
     dsimp only at h
     split at h
     ·rename_i O
      simp only[bO]at h
      obtain⟨xs,p,_⟩:=h
      exact⟨O,xs,p⟩
     ·cases h
    obtain⟨O,ys,Y⟩:=h
    rw[hp.2]at O
    have : ∀(k' J:Nat),J+k'=k ->∃xs,Nj (B7 P m e) k' xs/\mc (vc w) ek xs (cs.drop (J * P.cellsOf e)):=by
     intro k'
     induction k' with
     | zero=>
      intro J D
      refine⟨[],rfl,?_⟩
      rw[List.drop_of_length_le (by rw[O,<-D];simp)]
      exact mc.nil
     | succ k' Z=>
      intro J D
      obtain⟨b,T,V⟩:=Z (J+1) (by omega)
      obtain⟨y,_,G⟩:=lA Y J J (by rw[List.getElem?_range (by omega)])
      obtain⟨a,U,K⟩:=ih m e _ y.1 y.2 hp.1 G
      refine⟨a++b,⟨a,b,rfl,U,T⟩,?_⟩
      have:cs.drop (J * P.cellsOf e)=(cs.drop (J * P.cellsOf e)).take (P.cellsOf e)++cs.drop ((J+1) * P.cellsOf e):=by
       rw[Jl,<-Du,List.take_append_drop]
      rw[this]
      exact K.append V
    obtain⟨xs,C,E⟩:=this k 0 (by omega)
    exact⟨xs,C,by simpa using E⟩
   ·
    rename_i fs
    simp only[bh,beq_iff_eq,gD]at hp
    have h:cs.length=P.cellsOf t /\∃xs,(fs.toList.mapM λf=>DataW.trod enc P w base spare held n f.type ((cs.drop f.offset).take (P.cellsOf f.type)))=some xs:=by
     dsimp only at h
     split at h
     ·rename_i O
      simp only[bO]at h
      obtain⟨xs,p,_⟩:=h
      exact⟨O,xs,p⟩
     ·cases h
    obtain⟨O,ys,Y⟩:=h
    have : ∀(l:List Field)(o:Nat),(∀f∈l,plain P m f.type=true)->(∀f∈l,∃y,DataW.trod enc P w base spare held n f.type ((cs.drop f.offset).take (P.cellsOf f.type))=some y)->layout P l o=some cs.length ->
     ∃xs,VA (B7 P m) l xs/\mc (vc w) ek xs (cs.drop o):=by
     intro l
     induction l with
     | nil=>
      intro o _ _ u
      simp[layout]at u
      refine⟨[],rfl,?_⟩
      rw[List.drop_of_length_le (by omega)]
      exact mc.nil
     | cons f l ihl=>
      intro o hpl htr u
      unfold layout at u
      split at u
      ·rename_i ho
       obtain⟨b,T,V⟩:=ihl (o+P.cellsOf f.type) (λf G=>hpl f (il _ G)) (λf G=>htr f (il _ G)) u
       obtain⟨y,G⟩:=htr f (jn ..)
       obtain⟨a,U,K⟩:=ih m f.type _ y.1 y.2 (hpl f (jn ..)) G
       rw[ho]at K
       refine⟨a++b,⟨a,b,rfl,U,T⟩,?_⟩
       have:cs.drop o=(cs.drop o).take (P.cellsOf f.type)++cs.drop (o+P.cellsOf f.type):=by
        rw[<-Du,List.take_append_drop]
       rw[this]
       exact K.append V
      ·cases u
    obtain⟨xs,C,E⟩:=this fs.toList 0 hp.1 (λf G=>by
     obtain⟨i,D,rfl⟩:=sw G
     obtain⟨y,_,L⟩:=lA Y i fs.toList[i] (fc D)
     exact⟨y,L⟩) (by rw[O];exact hp.2)
    exact⟨xs,C,by simpa using E⟩
def Sg(P:Program)(n:Nat)(t:TypeId)(x:AV):Prop:=
 match dI P t with
 | some true =>∃xs,x = .agg xs/\B7 P n t xs
 | _=>B7 P n t [x]
def Pu(P:Program)(n:Nat):List TypeId->List AV->Prop
 | [],[]=>True
 | t :: a,x :: xs=>Sg P n t x/\Pu P n a xs
 | _,_=>False
theorem OI{m:Nat}{t:TypeId}{v:Value}{d:DataW H}{ps:List MemPlace}(hp:plain P m t=true)(c:Value.okWide P w .any base t v){g:Nat}(h:DataW.Trod enc P w g spare held t v d ps) :
 ∃x:AV,Sg P m t x/\VR (vc w) ek x v:=by
 obtain⟨n,p⟩:=h
 obtain⟨xs,j,k⟩:=OJ n m t v.cells.toList d ps hp p
 unfold Sg
 by_cases a:dI P t=some true
 ·rw[a]
  have : ∃cs,v = .agg cs:=by
   unfold dI at a
   unfold Value.okWide at c
   cases hu:P.underlying t with
   | none=>rw[hu]at a;simp at a
   | some i=>rw[hu]at a c;cases i<;>simp at a<;>(obtain⟨cs,rfl,_⟩:=c;exact⟨cs,rfl⟩)
  obtain⟨cs,rfl⟩:=this
  exact⟨.agg xs,⟨xs,rfl,j⟩,VR.rO.2 k⟩
 ·have l:v.cells = #[v] /\∃x,xs=[x]:=by
   have u:=j.facts m t xs hp
   cases m with
   | zero=>simp[plain]at hp
   | succ m=>
   have b:=hp
   unfold plain at b
   unfold dI at a
   unfold Value.okWide at c
   cases hu:P.underlying t with
   | none=>rw[hu]at b;simp at b
   | some i=>
    rw[hu]at b a c
    have f:P.cellsOf t=1->Cell.okWide P w .any base t v->v.cells = #[v] /\∃x,xs=[x]:=by
     intro q e
     refine⟨?_,?_⟩
     ·cases v<;>try rfl
      exfalso
      unfold Cell.okWide at e
      rw[hu]at e
      cases i<;>simp at b a<;>(simp[Cell.ok,hu]at e)
     ·have:=u.1
      rw[q]at this
      match xs,this with
      | [x],_=>exact⟨x,rfl⟩
    cases i<;>simp at b a
    ·exact f b c
    ·exact f b c
    ·exact f b c
    ·exact f b.1.1 c
  obtain⟨l,x,rfl⟩:=l
  rw[l]at k
  refine⟨x,?_,k.2 0 x v rfl rfl⟩
  have:(match dI P t with | some true =>∃xs,x = .agg xs/\B7 P m t xs | _=>B7 P m t [x])=B7 P m t [x]:=by
   split
   ·rename_i o;exact(a o).elim
   ·rfl
  rw[this]
  exact j
theorem Uh{m:Nat}{b:Nat} : ∀ {a:List TypeId} {e:List Value} {ds:List (DataW H)} {ps:List MemPlace},a.all (plain P m)=true->(∀(j:Nat) t v,a[j]?=some t->e[j]?=some v->Value.okWide P w .any base t v) ->
 DataW.TrodAll enc P w b spare held a e ds ps ->∃xs:List AV,Pu P m a xs/\mc (vc w) ek xs e:=by
 intro a
 induction a with
 | nil=>
  intro e ds ps _ _ h
  obtain⟨rfl,_,_⟩:=trodAll_nil h
  exact⟨[],trivial,mc.nil⟩
 | cons t a u=>
  intro e ds ps hp c h
  obtain⟨v,o,d,y,p,q,rfl,rfl,rfl,k,n⟩:=trodAll_cons h
  simp only[Ad,bh]at hp
  obtain⟨x,g,i⟩:=OI hp.1 (c 0 t v rfl rfl) k
  obtain⟨xs,l,f⟩:=u hp.2 (λj t v k n=>c (j+1) t v k n) n
  exact⟨x :: xs,⟨g,l⟩,mc.cons i f⟩
end
theorem La{H:Type}{enc:TypeId × Value->H}{P:Program}{w:World}{base:Nat}{spare:Nat->Bool}{held:Bool} : ∀ {a:List TypeId} {b:List Value} {ds:List (DataW H)} {ps:List MemPlace},
 DataW.TrodAll enc P w base spare held a b ds ps->ds.length=a.length:=by
 intro a
 induction a with
 | nil=>intro b ds ps h;obtain⟨_,rfl,_⟩:=trodAll_nil h;rfl
 | cons t a e=>
  intro b ds ps h
  obtain⟨v,c,d,f,p,q,rfl,rfl,rfl,_,g⟩:=trodAll_cons h
  simp[e g]
theorem uE{P:Program}{n:Nat}{t:TypeId}{b:List TypeId}{xs:List AV}(h:Pu P n (t :: b) xs) : ∃x a,xs=x :: a/\Sg P n t x/\Pu P n b a:=by
 cases xs with
 | nil=>exact h.elim
 | cons x xs=>exact⟨x,xs,rfl,h.1,h.2⟩
theorem S2{P:Program}{n:Nat}{xs:List AV}(h:Pu P n [] xs):xs=[]:=by
 cases xs with
 | nil=>rfl
 | cons x xs=>exact h.elim
theorem HV{E:Env}{ok:Array Oper->Bool}(G:E.Ok ok){T:TypeId->Prop}(K:Kids E.P T)(F : ∀t e,T t->E.P.underlying t=some (.slice e)->0<E.P.cellsOf e){H:Type}{enc:TypeId × Value->H}{id:FuncId}{f:Func}{s:ChangeSpec}{apart fresh a c:Bool}{m:Nat}
 (M : ∀t∈f.params.toList,T t) (hp:f.params.toList.all (plain E.P m)=true) (O:s.vars=[]) (I : ∀ds:List (DataW H),ds.length=f.params.toList.length->s.fn H ds = { results:=[.lit (.bool true)],args:=ds}) (u:Kv E.P f=true)
 (h : ∀xs,Pu E.P m f.params.toList xs->aF E id xs=some (.v (.bool true)))
 (W:World) (base:Nat) (args:Array Value) (ds C:List (DataW H)) (b:List MemPlace) (g : ∀(j:Nat) t v,f.params[j]?=some t->args[j]?=some v->Value.okWide E.P W .any base t v)
 (y:DataW.Whole enc E.P f.params.toList s.vars apart W args.toList ds C b) :
 Calls E.P id args W λe x =>∃v,e = .returned v/\s.post enc E.P f apart fresh a c W args v x:=by
 obtain⟨R,u,A⟩:=Pk u
 have i:=y
 obtain⟨p,q,z,Q,rfl,N,J⟩:=i
 obtain⟨xs,k,l⟩:=Uh hp (λj t v L D=>g j t v (by simpa using L) (by simpa using D)) z
 obtain⟨n,d⟩:=UN (h xs k)
 have o:ds.length=f.params.toList.length:=La z
 refine(Pg G d (us:=args.toList) l).mono λe x ⟨he,hk⟩=>⟨_,he,?_⟩
 exact Ry K F M O y (I ds o) u A hk
end Go.Ab
namespace Go.Ab
def Nq{α:Type}(P:Program)(t:TypeId)(ok:α->Prop)(enc:α->List AV):Prop :=∀n xs,B7 P n t xs ->∃a,ok a/\xs=enc a
def isBool(P:Program)(t:TypeId):Bool:=match P.underlying t with | some .bool=>true | _=>false
def iJ(P:Program)(t:TypeId):Option (List TypeId):=match P.underlying t with | some (.struct a)=>some (a.toList.map (·.type)) | _=>none
theorem LB{P:Program}{t:TypeId}(h:isBool P t=true):Nq P t (λ_=>True) λb:Bool=>[aB b]:=by
 intro n xs a
 cases n with
 | zero=>exact a.elim
 | succ n=>
  unfold isBool at h
  unfold B7 at a
  split at h
  ·rename_i c;rw[c]at a;obtain⟨b,rfl⟩:=a;exact⟨b,trivial,rfl⟩
  ·cases h
theorem Fa{P:Program}{t:TypeId}{k:IntKind}(h:intKind P t=some k):Nq P t (λi:Int=>k.min<=i/\i<=k.max) λi:Int=>[.v (.int k i)]:=by
 intro n xs a
 cases n with
 | zero=>exact a.elim
 | succ n=>
  unfold B7 at a
  rw[C1 h]at a
  obtain⟨i,b,rfl⟩:=a
  exact⟨i,b,rfl⟩
theorem ra{P:Program}{t:TypeId}(h:intKind P t=some .i64):Nq P t (λi:Int => -9223372036854775808<=i/\i<=9223372036854775807) λi:Int=>[aI i]:=λn xs b=>by
 obtain⟨i,a,rfl⟩:=Fa h n xs b;exact⟨i,a,rfl⟩
theorem WE{P:Program}{t:TypeId}(h:intKind P t=some .i32):Nq P t (λi:Int => -2147483648<=i/\i<=2147483647) λi:Int=>[.v (.int .i32 i)]:=λn xs b=>by
 obtain⟨i,a,rfl⟩:=Fa h n xs b;exact⟨i,a,rfl⟩
theorem PR{P:Program}{t:TypeId}(h:intKind P t=some .u8):Nq P t (λ_=>True) λb:UInt8=>[a8 b]:=λn xs d=>by
 obtain⟨i,a,rfl⟩:=Fa h n xs d
 refine⟨u8 i,trivial,?_⟩
 have c:(0:Int)<=i:=a.1
 have e:i<=255:=a.2
 unfold a8
 show[AV.v (.int .u8 i)]=[AV.v (.int .u8 ((u8 i).toNat:Int))]
 rw[Iw,Nw c (by omega),Cf c]
theorem Zu{P:Program}{t:TypeId}(h:intKind P t=some .u32):Nq P t (λ_=>True) λb:UInt32=>[au b]:=λn xs d=>by
 obtain⟨i,a,rfl⟩:=Fa h n xs d
 refine⟨u32 i,trivial,?_⟩
 have c:(0:Int)<=i:=a.1
 have e:i<=4294967295:=a.2
 unfold au
 show[AV.v (.int .u32 i)]=[AV.v (.int .u32 ((u32 i).toNat:Int))]
 rw[Gh,Nw c (by omega),Cf c]
theorem W7{α:Type}{ok:α->Prop}{enc:α->List AV} : ∀(es:List (List AV)),(∀x∈es,∃a,ok a/\x=enc a) ->∃l:List α,(∀a∈l,ok a)/\es=l.map enc:=by
 intro es
 induction es with
 | nil=>intro _;exact⟨[],by simp,rfl⟩
 | cons x es d=>
  intro h
  obtain⟨a,e,rfl⟩:=h x (jn ..)
  obtain⟨l,g,rfl⟩:=d λx f=>h x (il _ f)
  refine⟨a :: l,?_,rfl⟩
  intro b c
  rcases m6.1 c with rfl | c
  ·exact e
  ·exact g b c
theorem QG{P:Program}{t e:TypeId}(h:ei P t=some e):P.underlying t=some (.slice e):=by
 unfold ei at h
 split at h
 ·cases h;assumption
 ·cases h
theorem Cx{α:Type}{P:Program}{t e:TypeId}{z:Nat}{d:Bool}{ok:α->Prop}{enc:α->List AV}(m:ei P t=some e)(c:aL P e=some z)(g:dI P e=some d)(j:Nq P e ok enc){n:Nat}{xs:List AV}(h:B7 P n t xs) :
 ∃(l:List α) (x:AV),(∀a∈l,ok a)/\xs=[x]/\Sl z (l.map λa=>L9 d (enc a)) x:=by
 cases n with
 | zero=>exact h.elim
 | succ n=>
  unfold B7 at h
  rw[QG m]at h
  rcases h with rfl | ⟨es,rfl,b⟩
  ·exact⟨[],ct,by simp,rfl,.inl ⟨rfl,rfl⟩⟩
  ·obtain⟨l,k,rfl⟩:=W7 es λx i=>j n x (b x i)
   have f:P.cellsOf e=z:=by
    unfold aL at c
    unfold Program.cellsOf
    rw[c];rfl
   refine⟨l,_,k,rfl,?_⟩
   rw[f,g,Jm]
   exact Sl.mk z _
theorem Sg.cell{P:Program}{n:Nat}{t:TypeId}{x:AV}(a:dI P t=some false)(h:Sg P n t x):B7 P n t [x]:=by
 unfold Sg at h;rw[a]at h;exact h
theorem Sg.agg{P:Program}{n:Nat}{t:TypeId}{x:AV}(a:dI P t=some true)(h:Sg P n t x) : ∃xs,x = .agg xs/\B7 P n t xs:=by
 unfold Sg at h;rw[a]at h;exact h
def ae9(S:TypeId->List AV->Prop):List TypeId->List AV->Prop
 | [],xs=>xs=[]
 | t :: c,xs =>∃a b,xs=a++b/\S t a/\ae9 S c b
theorem mg{P:Program}{t:TypeId}{d:List TypeId}(c:iJ P t=some d){n:Nat}{xs:List AV}(h:B7 P n t xs) : ∃m,ae9 (B7 P m) d xs:=by
 cases n with
 | zero=>exact h.elim
 | succ n=>
  unfold iJ at c
  split at c
  ·rename_i e g
   cases c
   unfold B7 at h
   rw[g]at h
   refine⟨n,?_⟩
   dsimp only at h
   generalize e.toList=l at h
   induction l generalizing xs with
   | nil=>exact h
   | cons f l i=>
    obtain⟨a,b,rfl,k,j⟩:=h
    exact⟨a,b,rfl,k,i j⟩
  ·cases c
def ya(P:Program)(d e c:Nat)(xs ys:Array Value):List Nat->Option Bool
 | []=>some true
 | i :: is=>match bn P (part e xs (i * c)),bn P (part e ys (i * c)) with
  | some a,some b=>(match bn P (Op.equalIn d e a b) with
   | some true=>ya P d e c xs ys is
   | some false=>some false
   | none=>none)
  | _,_=>none
theorem PU{P:Program}{t:TypeId}{z:Nat}(h:aL P t=some z):bn P (sizeOf t)=some z:=by
 simp only[aL,bO]at h
 obtain⟨i,a,rfl⟩:=h
 simp only[sizeOf,typeInfo,bL]
 show((some P).bind _).bind _=_
 simp only[fH,a]
 rfl
theorem DQ{P:Program}(d:Nat){t e:TypeId}{n c:Nat}(xs ys:Array Value)(g:P.underlying t=some (.array n e))(f:aL P e=some c) :
 bn P (Op.equalIn (d+1) t (.agg xs) (.agg ys))=ya P d e c xs ys (List.range n):=by
 simp only[Op.equalIn,bL,mK g,fH,PU f]
 simp only[Std.Legacy.Range.forIn_eq_forIn_range',Std.Legacy.Range.size,Nat.sub_zero,Nat.add_one_sub_one,Nat.div_one,NG]
 generalize List.range' 0 n=is
 induction is with
 | nil=>rfl
 | cons j is h=>
  simp only[List.forIn_cons,ya,bL]
  cases i:bn P (part e xs (j * c)) with
  | none=>rfl
  | some a=>
   cases l:bn P (part e ys (j * c)) with
   | none=>rfl
   | some b=>
    simp only[fH]
    cases k:bn P (Op.equalIn d e a b) with
    | none=>rfl
    | some r=>
     cases r
     ·rfl
     ·simp only[fH,Em,nz,if_false]
      exact h
def uI(P:Program)(d:Nat)(xs ys:Array Value):List Field->Option Bool
 | []=>some true
 | f :: c=>match bn P (part f.type xs f.offset),bn P (part f.type ys f.offset) with
  | some a,some b=>(match bn P (Op.equalIn d f.type a b) with
   | some true=>uI P d xs ys c
   | some false=>some false
   | none=>none)
  | _,_=>none
theorem CI{P:Program}(d:Nat){t:TypeId}{c:Array Field}(xs ys:Array Value)(i:P.underlying t=some (.struct c))(k:P.stoodInHeld t=false)(e : ∀f∈c.toList,(f.name != "_")=true) :
 bn P (Op.equalIn (d+1) t (.agg xs) (.agg ys))=uI P d xs ys c.toList:=by
 have hp:bn P program=some P:=rfl
 simp only[Op.equalIn,bL,mK i,fH,hp,k,nz,if_false]
 simp only[<-Array.forIn_toList]
 generalize c.toList=is at e
 induction is with
 | nil=>rfl
 | cons f is l=>
  have m:f.name ≠ "_" := by simpa using e f (jn ..)
  simp only[List.forIn_cons,uI,bL,m,ne_eq,not_false_eq_true,if_true]
  have h:bn P (pure PUnit.unit:Sem PUnit)=some PUnit.unit:=rfl
  cases n:bn P (part f.type xs f.offset) with
  | none=>rfl
  | some a=>
   cases p:bn P (part f.type ys f.offset) with
   | none=>rfl
   | some b=>
    simp only[fH]
    cases o:bn P (Op.equalIn d f.type a b) with
    | none=>rfl
    | some r=>
     cases r
     ·rfl
     ·simp only[fH,Em,nz,if_false]
      exact l λg j=>e g (il _ j)
def BZ:List AV->List AV->Option Bool
 | [.v (.bool a)],[.v (.bool b)]=>some (decide (a=b))
 | [.v (.int k a)],[.v (.int k' b)]=>if k=k' then some (decide (a=b)) else none
 | [.v (.string a)],[.v (.string b)]=>some (a == b)
 | _,_=>none
def bU(S:TypeId->List AV->List AV->Option Bool)(P:Program):List TypeId->List AV->List AV->Option Bool
 | [],_,_=>some true
 | t :: c,xs,ys=>match aL P t with
  | none=>none
  | some z=>match S t (xs.take z) (ys.take z),bU S P c (xs.drop z) (ys.drop z) with
   | some a,some b=>some (a&&b)
   | _,_=>none
def Jb(S:List AV->List AV->Option Bool)(z:Nat):Nat->List AV->List AV->Option Bool
 | 0,_,_=>some true
 | k+1,xs,ys=>match S (xs.take z) (ys.take z),Jb S z k (xs.drop z) (ys.drop z) with
  | some a,some b=>some (a&&b)
  | _,_=>none
def o3(P:Program)(t:TypeId):Option Nat:=match P.underlying t with
 | some .bool=>some 0
 | some (.int _)=>some 1
 | some .string=>some 2
 | _=>none
def IZ:AV->Nat
 | .v (.bool _)=>0
 | .v (.int _ _)=>1
 | .v (.string _)=>2
 | _=>3
def fJ(P:Program):Nat->TypeId->List AV->List AV->Option Bool
 | 0,_,_,_=>none
 | n+1,t,xs,ys=>match o3 P t with
  | some l=>(match xs,ys with
   | [x],[y]=>cond (Nat.beq (IZ x) l) (BZ [x] [y]) none
   | _,_=>none)
  | none=>match iJ P t with
   | some a=>bU (fJ P n) P a xs ys
   | none=>match lx P t with
    | some (k,e)=>(match aL P e with
     | some z=>Jb (fJ P n e) z k xs ys
     | none=>none)
    | none=>none
def E4(P:Program):Nat->TypeId->Bool
 | 0,_=>false
 | n+1,t=>match P.underlying t with
  | some .bool | some (.int _) | some .string=>dI P t == some false&&aL P t == some 1
  | some (.struct a)=>a.toList.all (λf=>E4 P n f.type&&f.name != "_")&&layout P a.toList 0 == some (P.cellsOf t) && !P.stoodInHeld t
  | some (.array k e)=>E4 P n e&&P.cellsOf t == k * P.cellsOf e
  | _=>false
def q9(xs:List AV):Option (List Value):=xs.mapM Iv
theorem AU{xs:List AV}{b:List Value}(h:q9 xs=some b)(n:Nat):q9 (xs.take n)=some (b.take n):=by
 unfold q9 at *
 induction xs generalizing b n with
 | nil=>simp at h;subst h;simp
 | cons x xs d=>
  simp only[ny,tu,tZ,ig]at h
  obtain⟨v,f,c,a,e⟩:=h
  cases e
  cases n with
  | zero=>simp
  | succ n=>simp only[List.take_succ_cons,ny,f,d a n];rfl
theorem AW{xs:List AV}{b:List Value}(h:q9 xs=some b)(n:Nat):q9 (xs.drop n)=some (b.drop n):=by
 unfold q9 at *
 induction xs generalizing b n with
 | nil=>simp at h;subst h;simp
 | cons x xs d=>
  simp only[ny,tu,tZ,ig]at h
  obtain⟨v,f,c,a,e⟩:=h
  cases e
  cases n with
  | zero=>simp only[Jq,ny,f,a];rfl
  | succ n=>simp only[List.drop_succ_cons];exact d a n
def valOf(P:Program)(t:TypeId)(a:List Value):Option Value:=match dI P t with
 | some true=>some (.agg a.toArray)
 | some false=>a.head?
 | none=>none
theorem Fc{P:Program}{t:TypeId}{z:Nat}(j:aL P t=some z){f:List Value}{o:Nat}{v:Value}(a:valOf P t ((f.drop o).take z)=some v)(h:dI P t=some false->z=1):bn P (part t f.toArray o)=some v:=by
 unfold valOf at a
 have c : ∀b,dI P t=some b->bn P (isAgg t)=some b:=by
  intro b g
  simp only[dI,bO]at g
  obtain⟨i,d,rfl⟩:=g
  simp only[isAgg,bL,mK d,fH]
  cases i<;>rfl
 unfold part
 split at a
 ·rename_i e
  cases a
  simp only[bL,c _ e,fH,if_true,PU j]
  show some _=some _
  congr 2
  apply Js.1
  simp only[NH,NQ,JA]
 ·rename_i e
  simp only[bL,c _ e,fH,nz,if_false]
  have:f.toArray[o]?=some v:=by
   rw[h e]at a
   rw[NL]
   cases d:f.drop o with
   | nil=>rw[d]at a;simp at a
   | cons u us=>
    rw[d]at a
    simp at a
    subst a
    have:=congrArg List.head? d
    simpa [List.head?_drop] using this
  rw[this]
  rfl
 ·cases a
theorem U9{P:Program} : ∀(n:Nat)(D:Nat)(t:TypeId)(xs ys:List AV)(us O:List Value)(b:Bool),E4 P n t=true->fJ P n t xs ys=some b->q9 xs=some us->q9 ys=some O->xs.length=P.cellsOf t->ys.length=P.cellsOf t ->
 ∃u v,valOf P t us=some u/\valOf P t O=some v/\bn P (Op.equalIn (D+n) t u v)=some b:=by
 intro n
 induction n with
 | zero=>intro D t xs ys us O b h;simp[E4]at h
 | succ n ih=>
  intro D t xs ys us O b d h hu hv hlx hly
  unfold E4 at d
  unfold fJ at h
  cases G:P.underlying t with
  | none=>rw[G]at d;simp at d
  | some dd=>
   rw[G]at d
   have J : ∀l,o3 P t=some l->(dI P t == some false&&aL P t == some 1)=true->(l=0/\dd = .bool\/(l=1 /\∃k,dd = .int k)\/l=2/\dd = .string) ->∃u v,valOf P t us=some u/\valOf P t O=some v/\bn P (Op.equalIn (D+(n+1)) t u v)=some b:=by
    intro l X d Y
    simp only[bh,beq_iff_eq]at d
    rw[X]at h
    dsimp only at h
    split at h
    ·rename_i x y
     cases V:Nat.beq (IZ x) l with
     | false=>rw[V]at h;cases h
     | true=>
      rw[V]at h
      replace V:=kP V
      have e1 : ∃u,us=[u]/\Iv x=some u:=by
       unfold q9 at hu;simp only[ny,FE,tu,tZ,ig]at hu
       obtain⟨u,E,ws,K,h3⟩:=hu
       cases K;cases h3;exact⟨u,rfl,E⟩
      have e2 : ∃u,O=[u]/\Iv y=some u:=by
       unfold q9 at hv;simp only[ny,FE,tu,tZ,ig]at hv
       obtain⟨u,E,ws,K,h3⟩:=hv
       cases K;cases h3;exact⟨u,rfl,E⟩
      obtain⟨u,rfl,q⟩:=e1
      obtain⟨v,rfl,A⟩:=e2
      refine⟨u,v,by simp[valOf,d.1],by simp[valOf,d.1],?_⟩
      rw[show D+(n+1)=(D+n)+1 from rfl]
      simp only[cond_true]at h
      unfold BZ at h
      simp only[Op.equalIn,bL,mK G,fH]
      split at h
      ·rename_i a c R T
       simp only[zF,and_true]at R T
       subst R;subst T
       simp[Iv]at q A
       subst q;subst A
       have hl0:l=0:=V.symm
       rcases Y with ⟨_,rfl⟩ | ⟨E,_⟩ | ⟨E,_⟩
       ·rw[<-h];show some (a == c)=_;congr 1
       ·omega
       ·omega
      ·rename_i k a k' c R T
       simp only[zF,and_true]at R T
       subst R;subst T
       simp[Iv]at q A
       subst q;subst A
       have hl0:l=1:=V.symm
       rcases Y with ⟨E,_⟩ | ⟨_,k0,rfl⟩ | ⟨E,_⟩
       ·omega
       ·split at h
        ·rename_i Q
         subst Q
         rw[<-h]
         show bn P (if k=k then pure (a == c) else _)=_
         rw[if_pos rfl]
         show some (a == c)=_
         congr 1
        ·cases h
       ·omega
      ·rename_i a c R T
       simp only[zF,and_true]at R T
       subst R;subst T
       simp[Iv]at q A
       subst q;subst A
       have hl0:l=2:=V.symm
       rcases Y with ⟨E,_⟩ | ⟨E,_⟩ | ⟨_,rfl⟩
       ·omega
       ·omega
       ·rw[<-h];rfl
      ·cases h
    ·cases h
   have hlt : ∀l,o3 P t=some l->_:=λl X=>J l X
   cases dd<;>dsimp only at d<;>try (simp at d;done)
   ·exact J 0 (by simp[o3,G]) d (.inl ⟨rfl,rfl⟩)
   ·rename_i k;exact J 1 (by simp[o3,G]) d (.inr (.inl ⟨rfl,k,rfl⟩))
   ·exact J 2 (by simp[o3,G]) d (.inr (.inr ⟨rfl,rfl⟩))
   ·
    rename_i k e
    simp only[bh,beq_iff_eq]at d
    obtain⟨d,hcell⟩:=d
    have X:o3 P t=none:=by simp[o3,G]
    have Z:iJ P t=none:=by simp[iJ,G]
    have hta:lx P t=some (k,e):=by simp[lx,G]
    rw[X,Z,hta]at h
    dsimp only at h
    have M:dI P t=some true:=by simp[dI,G]
    cases F:aL P e with
    | none=>rw[F]at h;cases h
    | some z=>
     rw[F]at h
     dsimp only at h
     have I:P.cellsOf e=z:=by simp only[aL]at F;simp[Program.cellsOf,F]
     have C:dI P e=some false->z=1:=by
      intro j
      cases n with
      | zero=>simp[E4]at d
      | succ n'=>
       unfold E4 at d
       unfold dI at j
       cases L:P.underlying e with
       | none=>rw[L]at d;simp at d
       | some d2=>
        rw[L]at d j
        cases d2<;>simp at d j<;>(have:=d.2;rw[F]at this;simpa using this)
     refine⟨.agg us.toArray,.agg O.toArray,by simp[valOf,M],by simp[valOf,M],?_⟩
     rw[show D+(n+1)=(D+n)+1 from rfl,DQ (D+n) _ _ G F]
     have : ∀(m p:Nat)(b:Bool),(p+m) * z<=xs.length->(p+m) * z<=ys.length->Jb (fJ P n e) z m (xs.drop (p * z)) (ys.drop (p * z))=some b->ya P (D+n) e z us.toArray O.toArray (List.range' p m)=some b:=by
      intro m
      induction m with
      | zero=>intro p b _ _ h;simp[Jb]at h;simp[ya,h]
      | succ m ihm=>
       intro p b hx hy h
       simp only[Jb]at h
       have N:(p+(m+1)) * z=p * z+z+m * z:=by rw[m5,Jl];omega
       rw[N]at hx hy
       cases E:fJ P n e ((xs.drop (p * z)).take z) ((ys.drop (p * z)).take z) with
       | none=>rw[E]at h;simp at h
       | some a=>
        rw[E]at h
        cases K:Jb (fJ P n e) z m ((xs.drop (p * z)).drop z) ((ys.drop (p * z)).drop z) with
        | none=>rw[K]at h;simp at h
        | some c=>
         rw[K]at h
         simp only[dW]at h
         rw[Du,Du,<-Jl]at K
         obtain⟨u,v,q,A,heq⟩:=ih D e _ _ _ _ a d E (AU (AW hu (p * z)) z) (AU (AW hv (p * z)) z)
          (by rw[tv,Dw,I];omega) (by rw[tv,Dw,I];omega)
         have p1:=Fc F (o:=p * z) q C
         have p2:=Fc F (o:=p * z) A C
         simp only[List.range'_succ,ya,p1,p2,heq]
         cases a with
         | false=>simp at h;simp[h]
         | true=>
          simp only[nx]at h
          subst h
          exact ihm (p+1) c (by rw[show p+1+m=p+(m+1) by omega,N];exact hx) (by rw[show p+1+m=p+(m+1) by omega,N];exact hy) K
     rw[NG]
     by_cases U:k * z<=xs.length/\k * z<=ys.length
     ·exact this k 0 b (by simpa using U.1) (by simpa using U.2) (by simpa using h)
     ·exfalso
      rw[I]at hcell
      exact U ⟨by omega,by omega⟩
   ·
    rename_i fs
    simp only[bh,dV,gD,beq_iff_eq]at d
    obtain⟨⟨S,i⟩,hst⟩:=d
    have X:o3 P t=none:=by simp[o3,G]
    have Z:iJ P t=some (fs.toList.map (·.type)):=by simp[iJ,G]
    rw[X,Z]at h
    dsimp only at h
    have M:dI P t=some true:=by simp[dI,G]
    refine⟨.agg us.toArray,.agg O.toArray,by simp[valOf,M],by simp[valOf,M],?_⟩
    rw[show D+(n+1)=(D+n)+1 from rfl,CI (D+n) _ _ G hst (λf Z=>(S f Z).2)]
    have : ∀(l:List Field)(o:Nat)(b:Bool),(∀f∈l,E4 P n f.type=true)->layout P l o=some (P.cellsOf t)->bU (fJ P n) P (l.map (·.type)) (xs.drop o) (ys.drop o)=some b->o<=P.cellsOf t ->
     uI P (D+n) us.toArray O.toArray l=some b:=by
     intro l
     induction l with
     | nil=>intro o b _ _ h _;simp[bU]at h;simp[uI,h]
     | cons f l ihl=>
      intro o b W i h ho
      unfold layout at i
      split at i
      ·rename_i hfo
       simp only[tp,bU]at h
       cases F:aL P f.type with
       | none=>rw[F]at h;cases h
       | some z=>
        rw[F]at h
        dsimp only at h
        have I:P.cellsOf f.type=z:=by simp only[aL]at F;simp[Program.cellsOf,F]
        rw[I]at i
        cases E:fJ P n f.type ((xs.drop o).take z) ((ys.drop o).take z) with
        | none=>rw[E]at h;simp at h
        | some a=>
         rw[E]at h
         cases K:bU (fJ P n) P (l.map (·.type)) ((xs.drop o).drop z) ((ys.drop o).drop z) with
         | none=>rw[K]at h;simp at h
         | some c=>
          rw[K]at h
          simp only[dW]at h
          rw[Du,Du]at K
          have hle:o+z<=P.cellsOf t:=by
           have : ∀(l:List Field)(o m:Nat),layout P l o=some m->o<=m:=by
            intro l
            induction l with
            | nil=>intro o m h;simp[layout]at h;omega
            | cons g l ihg=>
             intro o m h
             unfold layout at h
             split at h
             ·have:=ihg _ _ h;omega
             ·cases h
           exact this _ _ _ i
          obtain⟨u,v,q,A,heq⟩:=ih D f.type _ _ _ _ a (W f (jn ..)) E (AU (AW hu o) z) (AU (AW hv o) z)
           (by rw[tv,Dw,I];omega) (by rw[tv,Dw,I];omega)
          have C:dI P f.type=some false->z=1:=by
           intro j
           have Q:=W f (jn ..)
           cases n with
           | zero=>simp[E4]at Q
           | succ n'=>
            unfold E4 at Q
            unfold dI at j
            cases L:P.underlying f.type with
            | none=>rw[L]at Q;simp at Q
            | some d2=>
             rw[L]at Q j
             cases d2<;>simp at Q j<;>(have:=Q.2;rw[F]at this;simpa using this)
          have p1:=Fc F (o:=o) q C
          have p2:=Fc F (o:=o) A C
          simp only[uI,hfo,p1,p2,heq]
          cases a with
          | false=>simp at h;simp[h]
          | true=>
           simp only[nx]at h
           subst h
           exact ihl (o+z) c (λg hg=>W g (il _ hg)) i K hle
      ·cases i
    exact this fs.toList 0 b (λf Z=>(S f Z).1) i (by simpa using h) (Dr _)
def C4(P:Program)(t:TypeId):Bool:=E4 P 20 t && !P.eqGuardType P.depth t&&dI P t == some true
theorem Rx{P:Program}{t:TypeId}(h:C4 P t=true)(a:BinOp)(c:a = .eql\/a = .neq)(e d:Operand)(xs ys:Array Value) :
 CJ P a t e d (.agg xs) (.agg ys)=(bn P (Op.equalIn 10000 t (.agg xs) (.agg ys))).map λb => .bool (if a = .eql then b else !b):=by
 unfold C4 at h
 simp only[bh,dV,beq_iff_eq]at h
 have hp:bn P program=some P:=rfl
 unfold CJ
 have f:bn P (eqGuard a t e d (.agg xs) (.agg ys))=some ():=by
  rcases c with rfl | rfl
  ·simp only[eqGuard,Em,nz,if_false,bL,hp,fH,h.1.2,Fm,if_true];rfl
  ·simp only[eqGuard,Em,nz,if_false,bL,hp,fH,h.1.2,Fm,if_true];rfl
 rw[bL,f,fH]
 rcases c with rfl | rfl
 ·show bn P (do pure (Value.bool (<-Op.equal t (.agg xs) (.agg ys))))=_
  rw[bL]
  unfold Op.equal Op.maxDepth
  cases bn P (Op.equalIn 10000 t (.agg xs) (.agg ys))<;>rfl
 ·show bn P (do pure (Value.bool (!(<-Op.equal t (.agg xs) (.agg ys)))))=_
  rw[bL]
  unfold Op.equal Op.maxDepth
  cases bn P (Op.equalIn 10000 t (.agg xs) (.agg ys))<;>rfl
theorem LS{P:Program}{t:TypeId}(h:C4 P t=true)(c:BinOp)(p:c = .eql\/c = .neq)(o k:Operand){cs ds:List AV}{b:Bool}(y:fJ P 20 t cs ds=some b)(d:(q9 cs).isSome=true)(f:(q9 ds).isSome=true)
 (x:some cs.length=aL P t) (z:some ds.length=aL P t):cf P c t o k (some (.agg cs)) (some (.agg ds))=some (aB (if c = .eql then b else !b),[]):=by
 obtain⟨us,d⟩:=gI.1 d
 obtain⟨g,f⟩:=gI.1 f
 have e:=h
 unfold C4 at e
 simp only[bh,dV,beq_iff_eq]at e
 have l : ∀ {n:Nat},some n=aL P t->n=P.cellsOf t:=by
  intro n j
  unfold aL at j
  unfold Program.cellsOf
  rw[<-j];rfl
 obtain⟨u,v,i,m,heq⟩:=U9 20 9980 t cs ds us g b e.1.1 y d f (l x) (l z)
 simp only[valOf,e.2,dW]at i m
 subst i;subst m
 have a:=Rx h c p o k us.toArray g.toArray
 rw[heq]at a
 have A:gJ (.agg cs)=some (.agg us.toArray):=by show(cs.mapM Iv).map _=_;rw[show cs.mapM Iv=some us from d];rfl
 have q:gJ (.agg ds)=some (.agg g.toArray):=by show(ds.mapM Iv).map _=_;rw[show ds.mapM Iv=some g from f];rfl
 simp only[cf,Kj,oh,xg,FC,nz,if_false,A,q,a,Option.map_some,fH,jR,scalar,if_true,jQ]
@[simp] theorem WS{P:Program}{t:TypeId}(h:C4 P t=true)(d c:Operand){cs ds:List AV}(a:(fJ P 20 t cs ds).isSome=true)(e:(q9 cs).isSome=true)(i:(q9 ds).isSome=true)
 (f:some cs.length=aL P t) (g:some ds.length=aL P t):cf P .eql t d c (some (.agg cs)) (some (.agg ds))=some (aB ((fJ P 20 t cs ds).getD false),[]):=by
 obtain⟨b,a⟩:=gI.1 a
 rw[LS h .eql (.inl rfl) d c a e i f g,a];rfl
@[simp] theorem WQ{P:Program}{t:TypeId}(h:C4 P t=true)(d c:Operand){cs ds:List AV}(a:(fJ P 20 t cs ds).isSome=true)(e:(q9 cs).isSome=true)(i:(q9 ds).isSome=true)
 (f:some cs.length=aL P t) (g:some ds.length=aL P t):cf P .neq t d c (some (.agg cs)) (some (.agg ds))=some (aB (!(fJ P 20 t cs ds).getD false),[]):=by
 obtain⟨b,a⟩:=gI.1 a
 rw[LS h .neq (.inr rfl) d c a e i f g,a];rfl
@[simp] theorem acE:q9 []=some []:=id rfl
@[simp] theorem K7(k:IntKind)(n:Int)(l:List AV):q9 (.v (.int k n) :: l)=(q9 l).map (.int k n :: ·):=by
 unfold q9;simp only[ny,Iv];cases l.mapM Iv<;>rfl
@[simp] theorem aaX(b:Bool)(l:List AV):q9 (.v (.bool b) :: l)=(q9 l).map (.bool b :: ·):=by
 unfold q9;simp only[ny,Iv];cases l.mapM Iv<;>rfl
@[simp] theorem ag5(b:UInt8)(l:List AV):q9 (a8 b :: l)=(q9 l).map (.int .u8 b.toNat :: ·):=K7 _ _ _
@[simp] theorem afk(b:UInt32)(l:List AV):q9 (au b :: l)=(q9 l).map (.int .u32 b.toNat :: ·):=K7 _ _ _
@[simp] theorem YW(a b:Bool):BZ [aB a] [aB b]=some (decide (a=b)):=id rfl
@[simp] theorem Ha(k:IntKind)(a b:Int):BZ [.v (.int k a)] [.v (.int k b)]=some (decide (a=b)):=by simp[BZ]
@[simp] theorem aeF(a b:UInt8):BZ [a8 a] [a8 b]=some (decide (a=b)):=by
 unfold a8;rw[Ha];congr 2;rw[<-Cd];exact propext (by omega)
@[simp] theorem ace(a b:UInt32):BZ [au a] [au b]=some (decide (a=b)):=by
 unfold au;rw[Ha];congr 2;rw[<-FO];exact propext (by omega)
@[simp] theorem ZY(b:Bool):IZ (aB b)=0:=id rfl
@[simp] theorem abX(k:IntKind)(n:Int):IZ (.v (.int k n))=1:=id rfl
@[simp] theorem agb(b:UInt8):IZ (a8 b)=1:=id rfl
@[simp] theorem ad3(b:UInt32):IZ (au b)=1:=id rfl
@[simp] theorem GF{P:Program}{t:TypeId}(h:((ei P t).bind (aL P)).isSome=true)(g:da)(b a c:Option Int) :
 iQ P g t (some ct) (some b) (some a) (some c)=(bounds 0 (some 0) b a c).map λ_=>(ct,[]):=by
 simp only[iQ,h,if_true]
@[simp] theorem Ou{P:Program}{t z:Nat}(h:(ei P t).bind (aL P)=some z)(g:da)(es:List AV)(c:Option Nat)(b a d:Option Int) :
 iQ P g t (some (.bW z es c)) (some b) (some a) (some d)=(bounds es.length c b a d).map λ(l,h,c)=>(.bW z ((es.drop l).take (h - l)) c,[]):=by
 simp only[iQ,h,if_true]
theorem Gt{P:Program}{t z:Nat}(h:(ei P t).bind (aL P)=some z)(g:da){es:List AV}{x:AV}(e:Sl z es x){n:Int}(d:0<=n)(b:n<=es.length) :
 ∃y,iQ P g t (some x) (some none) (some (some n)) (some none)=some (y,[])/\Sl z (es.take n.toNat) y:=by
 rcases e with ⟨rfl,rfl⟩ | ⟨c,rfl,a⟩
 ·refine⟨ct,?_,.inl ⟨rfl,by simp⟩⟩
  rw[GF (by rw[h];rfl)]
  have:n=0:=by simp at b;omega
  subst this;rfl
 ·refine⟨.bW z (es.take n.toNat) (c.map (· - 0)),?_,.inr ⟨_,rfl,by cases c with | none=>simp | some k=>simp at a ⊢;omega⟩⟩
  rw[Ou h]
  simp only[bounds,uO,cX,Jk,true_and,if_pos (show 0<=n/\n<=es.length from⟨d,b⟩),Option.map_some]
  simp
def sB(l:List UInt8):AV:=aS ⟨l.toArray⟩
theorem Vn{P:Program}{a m:Bool}{H:ai}{r:Ref}{t z d n:Nat}{ps:List (Nat × AV)}{i:AV}(u:YY P t z d=true)(c:n * z<=16777216)(D:fI H.get ps=some ps)(g:cq H.get (ps.map (·.2))=[])
 (o:ps.all (λp=>p.2.cells.length == z&&p.2.cells.all AV.one)=true) (f:(ei P t).bind (ff P)=some i) {es:List AV} (A:iR (List.replicate n i) ps=some es) :
 pJ P a m H r t n (some ps)=if a then some (.bW z es (some n),H) else some (.cL r 0 n (some n),({ r with k:=0},some ⟨z,es,true,false⟩) :: H):=by
 obtain⟨e,q,h,C,E,j,l,y,v,F⟩:=lE u
 rw[h]at f
 simp only[fH,j,dW]at f
 subst f
 have b:mkSlice P H.get t n ps=some ⟨z,es,true,false⟩:=by
  simp only[mkSlice,h,D,j,C]
  rw[if_pos ⟨Bm v,c,l,y,by simpa using o⟩,A]
  rfl
 have x:im P a H.get r t n (some ps)=if a then some (.bW z es (some n),[]) else some (.cL r 0 n (some n),[⟨z,es,true,false⟩]):=by
  simp only[im,g,kg,List.all_nil,if_true,b,Option.map_some]
  cases a<;>rfl
 unfold pJ
 rw[x]
 cases a<;>rfl
theorem It{g:da}{r:Ref}{z:Nat}{es:List AV}{fz:Bool}(b:g r=some ⟨z,es,true,fz⟩){n:Nat}(a:n=es.length)(k:Nat)(c:Option Nat):view g (k+1) (.cL r 0 n c)=some (.bW z es c):=by
 subst a
 rw[F0 b,if_pos ⟨rfl,by simp⟩,Jq,FL]
theorem Own.cr{z:Nat}{es:List AV}{H H':ai}{x s d:AV}(h:Own z es H x)(hp : ∀q b,H.get q=some b->s.at?≠some q->H'.get q=some b/\d.at?≠some q)(c : ∀q,x.at?=some q->s.at?≠some q):Own z es H' x /\∀q,x.at?=some q->d.at?≠some q:=by
 rcases h with ⟨rfl,rfl⟩ | ⟨r,rfl,g⟩
 ·exact⟨PX z H',λq a=>by simp[AV.at?]at a⟩
 ·obtain⟨e,f⟩:=hp r _ g (c r rfl)
  exact⟨.inr ⟨r,rfl,e⟩,λq a=>by simp only[AV.at?,dW]at a;subst a;exact f⟩
@[simp] theorem ZG(P:Program)(t:TypeId)(a b:Operand)(x y:UInt32)(c:y≠0):cf P .rem t a b (some (au x)) (some (au y))=some (au (x % y),[]):=by
 have d:(y.toNat:Int)≠0:=by
  intro e;apply c;apply FO.1;have:y.toNat=0:=by omega
  exact this
 unfold au
 rw[T4 P t a b .u32 _ _ d]
 congr 5
theorem OU{P:Program}{t:TypeId}(h:isBool P t=true):P.underlying t=some .bool:=by
 unfold isBool at h
 split at h
 ·assumption
 ·cases h
theorem HU{P:Program}{t:TypeId}(h:isBool P t=true)(d:Nat)(a b:Bool):bn P (Op.equalIn (d+1) t (.bool a) (.bool b))=some (a == b):=by
 simp only[Op.equalIn,bL,mK (OU h),fH]
 rfl
theorem OA{P:Program}{t:TypeId}(h:isBool P t=true)(c:BinOp)(g:c = .eql\/c = .neq)(e d:Operand)(a b:Bool) :
 CJ P c t e d (.bool a) (.bool b)=some (.bool (if c = .eql then a == b else !(a == b))):=by
 have f:bn P (Op.equal t (.bool a) (.bool b))=some (a == b):=HU h 9999 a b
 unfold CJ
 rcases g with rfl | rfl
 ·have:bn P (eqGuard .eql t e d (.bool a) (.bool b))=some ():=rfl
  rw[bL,this,fH]
  show bn P (do pure (Value.bool (<-Op.equal t (.bool a) (.bool b))))=_
  rw[bL,f];rfl
 ·have:bn P (eqGuard .neq t e d (.bool a) (.bool b))=some ():=rfl
  rw[bL,this,fH]
  show bn P (do pure (Value.bool (!(<-Op.equal t (.bool a) (.bool b)))))=_
  rw[bL,f];rfl
@[simp] theorem VP{P:Program}{t:TypeId}(h:isBool P t=true)(c d:Operand)(a b:Bool):cf P .eql t c d (some (aB a)) (some (aB b))=some (aB (a == b),[]):=by
 simp only[cf,Kj,oh,gJ,OA h .eql (.inl rfl),xg,FC,nz,if_false,fH,jR,scalar,if_true,jQ,Option.map_some]
@[simp] theorem ahk(P:Program)(d:Bool)(g:da)(r:Ref)(c:Array TypeId)(k:IntKind)(a b:Int):cO P d g r .min c [.v (.int k a),.v (.int k b)]=some (.v (.int k (if b<a then b else a)),[]):=id rfl
@[simp] theorem ahl(P:Program)(d:Bool)(g:da)(r:Ref)(c:Array TypeId)(k:IntKind)(a b:Int):cO P d g r .max c [.v (.int k a),.v (.int k b)]=some (.v (.int k (if b>a then b else a)),[]):=id rfl
theorem Own.cons{z:Nat}{es:List AV}{H:ai}{x:AV}(h:Own z es H x)(c:Fr H)(d t:Nat)(b:Option bz):Own z es ((⟨d,t,H.gen d t,0⟩,b) :: H) x:=by
 rcases h with ⟨rfl,rfl⟩ | ⟨r,rfl,a⟩
 ·exact PX z _
 ·refine .inr ⟨r,rfl,?_⟩
  rw[ai.tK,if_neg (pZ c (by rw[a];rfl) d t 0)]
  exact a
theorem Own.Gt{P:Program}{t z:Nat}(h:(ei P t).bind (aL P)=some z){H:ai}{es:List AV}{x:AV}(d:Own z es H x){n:Nat}(a:n<=es.length) :
 ∃y b,iQ P H.get t (some x) (some none) (some (some (n:Int))) (some none)=some (y,[])/\Ab.view H.get depth y=some b/\Sl z (es.take n) b:=by
 rcases d with ⟨rfl,rfl⟩ | ⟨r,rfl,c⟩
 ·refine⟨ct,ct,?_,rfl,.inl ⟨rfl,by simp⟩⟩
  rw[GF (by rw[h];rfl)]
  have:n=0:=by simpa using a
  subst this;rfl
 ·refine⟨.cL r 0 n none,.bW z (es.take n) none,?_,?_,Sl.mk z _⟩
  ·simp only[iQ,c,h,if_true,bounds,uO,cX,Jk,true_and]
   rw[if_pos ⟨by omega,by omega⟩]
   simp
  ·rw[aW,F0 c,if_pos ⟨rfl,by simpa using a⟩,Jq]
@[simp] theorem abI(P:Program)(r:Ref)(e:TypeId){z:AV}(b:ff P e=some z)(a:0<(aL P e).getD 0):wV P r e=if some z.cells.length=aL P e/\z.cells.all AV.one=true then some (.ptr r 0 0,[⟨(aL P e).getD 0,[z],false,false⟩]) else none:=by
 unfold wV
 rw[b]
 cases h:aL P e with
 | none=>simp
 | some n=>rw[h]at a;simp only[cX]at a;simp[a]
@[simp] theorem TX{P:Program}{t f:Nat}(h:0<((aD P t f).getD (0,0)).2)(r:Ref)(i j:Nat):jM P t (some (.ptr r i j)) f=some (.ptr r i (j+((aD P t f).getD (0,0)).1),[]):=by
 unfold jM
 cases a:aD P t f with
 | none=>rw[a]at h;simp at h
 | some p=>obtain⟨o,s⟩:=p;rw[a]at h;simp only[cX]at h ⊢;rw[if_pos h]
@[simp] theorem Sm{P:Program}{t f:Nat}(h:0<((aD P t f).getD (0,0)).2)(n:Nat)(es:List AV)(i j:Nat):jM P t (some (.iptr n es i j)) f=some (.iptr n es i (j+((aD P t f).getD (0,0)).1),[]):=by
 unfold jM
 cases a:aD P t f with
 | none=>rw[a]at h;simp at h
 | some p=>obtain⟨o,s⟩:=p;rw[a]at h;simp only[cX]at h ⊢;rw[if_pos h]
def PW(cs:List AV)(a n:Nat)(b:Bool):Option AV:=if b then (if a+n<=cs.length then some (.agg ((cs.drop a).take n)) else none) else cs[a]?
@[simp] theorem af2(cs:List AV)(a n:Nat):PW cs a n true=if a+n<=cs.length then some (.agg ((cs.drop a).take n)) else none:=id rfl
@[simp] theorem af3(cs:List AV)(a n:Nat):PW cs a n false=cs[a]?:=id rfl
@[simp] theorem ZC{P:Program}{t f:Nat}(h:(((oc P t f).bind λp=>aL P p.2).isSome&&((oc P t f).bind λp=>dI P p.2).isSome)=true)(cs:List AV) :
 tT P t (some (.agg cs)) f=jQ (PW cs ((oc P t f).getD (0,0)).1 ((aL P ((oc P t f).getD (0,0)).2).getD 0) ((dI P ((oc P t f).getD (0,0)).2).getD false)):=by
 unfold tT
 cases a:oc P t f with
 | none=>rw[a]at h;simp at h
 | some p=>
  obtain⟨o,ft⟩:=p
  rw[a]at h
  simp only[fH,bh]at h
  obtain⟨n,c⟩:=gI.1 h.1
  obtain⟨b,d⟩:=gI.1 h.2
  simp only[cX,Au,c,d]
  cases b<;>rfl
@[simp] theorem VL(cs:List AV)(new:List AV)(h:new.length=cs.length):jz [AV.agg cs] 0 0 new=some [AV.agg new]:=by
 simp[jz,sM,patch,h]
@[simp low] theorem VW(cs:List AV)(j:Nat)(new:List AV)(h:j+new.length<=cs.length):jz [AV.agg cs] 0 j new=some [AV.agg (patch cs j new)]:=by
 simp[jz,sM,h]
@[simp] theorem adR(cs:List AV)(j:Nat)(new:List AV):patch cs j new=cs.take j++new++cs.drop (j+new.length):=id rfl
@[simp] theorem WJ{P:Program}{t:TypeId}(b:(dI P t).isSome=true)(c:(aL P t).isSome=true)(H:ai)(r:Ref)(i j:Nat):Ar P H (.ptr r i j) t=UL (H.get r) i j ((aL P t).getD 0) ((dI P t).getD false):=by
 obtain⟨a,b⟩:=gI.1 b
 obtain⟨n,c⟩:=gI.1 c
 simp only[Ar,b,c,cX]
 rfl
@[simp] theorem VO{P:Program}{t:TypeId}{z:List AV}(b:ff P t=some (.agg z))(c:lx P t=none)(hp:(placesOf P t).isSome=true)(a:List (Nat × AV)) :
 mP P t (some a)=(lP (λi=>((placesOf P t).getD [])[i]?) z a).map λcs=>(.agg cs,[]):=by
 obtain⟨ps,hp⟩:=gI.1 hp
 simp only[mP,b,c,hp,cX]
@[simp] theorem WL(a:List AV)(i:Nat):tE (some (.tup a)) i=jQ a[i]?:=id rfl
@[simp] theorem adM(r:Ref)(i j:Nat):LL (some (.ptr r i j))=some (.ptr r i j,[]):=id rfl
@[simp] theorem ai.Xh(d t:Nat):ai.gen [] d t=0:=id rfl
@[simp] theorem ai.MA(d t g k:Nat)(b:Option bz)(H:ai)(a t':Nat):ai.gen ((⟨d,t,g,k⟩,b) :: H) a t'=if d=a/\t=t' then g+1 else ai.gen H a t':=id rfl
@[simp] theorem Md{α c:Type}(f:α->Option c)(a:α)(l:List α):List.mapM f (a :: l)=(f a).bind λb=>(List.mapM f l).map (b :: ·):=by
 rw[ny];cases f a<;>cases List.mapM f l<;>rfl
@[simp] theorem Zv{α:Type}(f:α->AV)(l:List α)(i j n:Nat)(b:Bool):bX (l.map f) i j n b=(l[i]?).bind λa=>bX [f a] 0 j n b:=by
 unfold bX
 rw[oS]
 cases l[i]?<;>rfl
theorem drop_cons{α:Type}{l:List α}{k:Nat}{a:α}{s:List α}(h:l.drop k=a :: s) : ∃b:k<l.length,l[k]=a/\l.drop (k+1)=s/\l[k]?=some a:=by
 have b:k<l.length:=by
  have:=congrArg List.length h
  simp at this;omega
 rw[List.drop_eq_getElem_cons b]at h
 cases h
 exact⟨b,rfl,rfl,fc b⟩
theorem drop_nil{α:Type}{l:List α}{k:Nat}(h:l.drop k=[])(a:k<=l.length):k=l.length:=by
 have:=congrArg List.length h
 simp at this;omega
theorem fQ{b:Bool}{q:jw}{K:AV->Prop}{m:Mk (q,K)}(a:b=true->iZ q K)(c:b=false->K AV.undef):gQ (aB b) true q K m:=by
 cases b
 ·exact(aex q K m).2 (c rfl)
 ·exact(aev q K m).2 (a rfl)
theorem fR{b:Bool}{q:jw}{K:AV->Prop}{m:Mk (q,K)}(a:b=true->K AV.undef)(c:b=false->iZ q K):gQ (aB b) false q K m:=by
 cases b
 ·exact(aey q K m).2 (c rfl)
 ·exact(aew q K m).2 (a rfl)
theorem fO{b:Bool}{H:ai}{q:du}{K:AV->ai->Prop}{m:Mk (q,K)}(a:b=true->m4 q K)(c:b=false->K AV.undef H):gW (aB b) true H q K m:=by
 cases b
 ·exact(aet H q K m).2 (c rfl)
 ·exact(aer H q K m).2 (a rfl)
theorem fP{b:Bool}{H:ai}{q:du}{K:AV->ai->Prop}{m:Mk (q,K)}(a:b=true->K AV.undef H)(c:b=false->m4 q K):gW (aB b) false H q K m:=by
 cases b
 ·exact(aeu H q K m).2 (c rfl)
 ·exact(aes H q K m).2 (a rfl)
theorem af{H:ai}(a:Fr H){q:Ref}(h:(H.get q).isSome=true)(d t k:Nat):((⟨d,t,H.gen d t,k⟩:Ref)=q)=False:=
 eq_false (pZ a h d t k)
theorem ah{H:ai}(a:Fr H){q:Ref}(h:(H.get q).isSome=true)(d t k:Nat):(q=(⟨d,t,H.gen d t,k⟩:Ref))=False:=
 eq_false λe=>pZ a h d t k e.symm
theorem ao{H:ai}(a:Fr H)(d t k:Nat):H.get ⟨d,t,H.gen d t,k⟩=none:=a _ _ _ _ (dc _)
theorem aq{H:ai}(a:Fr H){d t g:Nat}(c:g=H.gen d t)(b:Option bz):Fr ((⟨d,t,g,0⟩,b) :: H):=by subst c;exact a.cons d t b
theorem aw{H:ai}(a:Fr H){r:Ref}(c:(H.get r).isSome=true)(b:Option bz):Fr (H.put r b):=a.put b c
theorem aa{H:ai}{r:Ref}(a:(H.get r).isSome=true)(b:Option bz)(d t:Nat):(H.put r b).gen d t=H.gen d t:=ai.mW H r b a d t
theorem RR{E:Env}{f:FuncId}(a:Az (E.mode f)=false)(x:AV)(H:ai)(y:AV):handed E f x H y↔view H.get depth x=some y:=by
 unfold handed
 rw[if_neg (by simpa using a)]
theorem Mx{E:Env}{f:FuncId}(a:Az (E.mode f)=true)(x:AV)(H:ai)(y:AV):handed E f x H y↔(ay H.get depth x).Nodup/\dM H.get depth x=some y:=by
 unfold handed
 rw[if_pos (by simpa using a)]
def AH(a:Bool)(H:ai)(r:Ref)(refs:List Ref)(o:Option AV):du:=match o with
 | some y=>if flat depth y||kg H.get refs then some ((aE r depth y []).1,keyed r 0 (aE r depth y []).2 H)
  else if a then some ((aE r depth y []).1,keyed r 0 (aE r depth y []).2 (cJ H refs)) else none
 | none=>none
noncomputable def Vl(E:Env)(a:Bool)(H:ai)(r:Ref)(refs:List Ref)(f:FuncId)(o:Option (List AV)):du:=match o with
 | some xs=>AH a H r refs (aF E f xs)
 | none=>none
theorem aJ{E:Env}(a:Bool)(dep:Nat)(H:ai)(r:Ref)(f:FuncId)(d:(E.mode f == 2)=false)(c:(E.mode f == 3)=false)(first captured args:List AV) :
 bJ E a (aF E) (cg E dep) H r (some (.fn (.func f) first captured)) args=Vl E a H r (cq H.get (first++args++captured)) f ((first++args++captured).mapM (view H.get depth)):=by
 have b:E.mode f≠2:=by simpa using d
 simp only[bJ,ku,m7,if_neg b,c,xg,Bool.or_false]
 cases(first++args++captured).mapM (view H.get depth) with
 | none=>cases a<;>rfl
 | some xs=>
  dsimp only[Vl]
  cases aF E f xs with
  | none=>cases a<;>rfl
  | some y=>
   dsimp only[AH,Option.map_some]
   cases e:(flat depth y||kg H.get (cq H.get (first++args++captured))) with
   | true=>rfl
   | false=>cases a<;>rfl
theorem Mq(r:Ref)(n:Nat)(t:TypeId)(x:AV)(a:List bz):aE r (n+1) (.ifc t x) a=(.ifc t (aE r n x a).1,(aE r n x a).2):=id rfl
@[simp] theorem aaF(E:Env)(a:Bool)(H:ai)(r:Ref)(refs:List Ref)(f:FuncId)(xs:List AV):Vl E a H r refs f (some xs)=AH a H r refs (aF E f xs):=id rfl
@[simp] theorem aaG(a:Bool)(H:ai)(r:Ref)(refs:List Ref)(y:AV)(h:flat depth y=true):AH a H r refs (some y)=some (y,H):=by
 simp only[AH,h,Bool.true_or,if_true]
 rw[wj r depth depth y [] h]
 rfl
theorem aH(a:Bool)(H:ai)(r:Ref)(y:AV):AH a H r [] (some y)=some ((aE r depth y []).1,keyed r 0 (aE r depth y []).2 H):=by
 simp only[AH,kg,List.all_nil,Bool.or_true,if_true]
theorem aV(a:Bool)(H:ai)(r:Ref)(refs:List Ref)(y:AV)(h:kg H.get refs=true):AH a H r refs (some y)=some ((aE r depth y []).1,keyed r 0 (aE r depth y []).2 H):=by
 simp only[AH,h,Bool.or_true,if_true]
@[simp] theorem ahs(n:Nat)(x:Value):flat (n+1) (.v x)=true:=id rfl
@[simp] theorem aht(n:Nat)(x:UInt8):flat (n+1) (a8 x)=true:=id rfl
@[simp] theorem agi(n:Nat)(x:UInt32):flat (n+1) (au x)=true:=id rfl
@[simp] theorem flat_agg(n:Nat)(cs:List AV):flat (n+1) (.agg cs)=cs.all (flat n):=id rfl
@[simp] theorem acd(n:Nat)(cs:List AV):flat (n+1) (.tup cs)=cs.all (flat n):=id rfl
@[simp] theorem aeB(n:Nat)(t:TypeId)(x:AV):flat (n+1) (.ifc t x)=flat n x:=id rfl
@[simp] theorem aeA(n z:Nat)(es:List AV)(c:Option Nat):flat (n+1) (.bW z es c)=false:=id rfl
@[simp] theorem aeC(n z:Nat)(es:List AV)(c:Option Nat):flat (n+1) (.fsl z es c)=false:=id rfl
@[simp] theorem Yc(g:da):cq g []=[]:=id rfl
@[simp] theorem WI(g:da)(x:AV)(xs:List AV):cq g (x :: xs)=ay g depth x++cq g xs:=id rfl
@[simp] theorem Y5(g:da)(n:Nat)(x:Value):ay g n (.v x)=[]:=by cases n<;>rfl
@[simp] theorem Y6(g:da)(n:Nat)(x:UInt8):ay g n (a8 x)=[]:=by cases n<;>rfl
@[simp] theorem X2(g:da)(n:Nat)(x:UInt32):ay g n (au x)=[]:=by cases n<;>rfl
@[simp] theorem V2(g:da)(n z:Nat)(es:List AV)(c:Option Nat):ay g n (.bW z es c)=[]:=by cases n<;>rfl
@[simp] theorem VM(g:da)(n z:Nat)(es:List AV)(i j:Nat):ay g n (.iptr z es i j)=[]:=by cases n<;>rfl
@[simp] theorem V3(g:da)(n:Nat)(cs:List AV):ay g (n+1) (.agg cs)=cs.flatMap (ay g n):=id rfl
@[simp] theorem VZ(g:da)(n:Nat)(cs:List AV):ay g (n+1) (.tup cs)=cs.flatMap (ay g n):=id rfl
@[simp] theorem V1(g:da)(n:Nat)(r:Ref)(o l:Nat)(c:Option Nat):ay g (n+1) (.cL r o l c)=[r]:=id rfl
@[simp] theorem X1(g:da)(n:Nat)(f:Fn)(a b:List AV):ay g (n+1) (.fn f a b)=a.flatMap (ay g n)++b.flatMap (ay g n):=id rfl
def PT(g:da)(n:Nat)(o:Option bz):List Ref:=match o with
 | some b=>if b.arr then [] else b.es.flatMap (ay g n)
 | none=>[]
@[simp] theorem V0(g:da)(n:Nat)(r:Ref)(i j:Nat):ay g (n+1) (.ptr r i j)=r :: PT g n (g r):=id rfl
@[simp] theorem WT(g:da)(n:Nat)(b:bz):PT g n (some b)=if b.arr then [] else b.es.flatMap (ay g n):=id rfl
def Cj(o l:Nat)(c:Option Nat)(b:Option bz):Option AV:=match b with
 | some b=>if b.arr=true/\o+l<=b.es.length then some (.bW b.esz ((b.es.drop o).take l) c) else none
 | none=>none
@[simp] theorem aaU(g:da)(n:Nat)(r:Ref)(o l:Nat)(c:Option Nat):view g (n+1) (.cL r o l c)=Cj o l c (g r):=id rfl
@[simp] theorem Y8(o l:Nat)(c:Option Nat)(b:bz):Cj o l c (some b)=if b.arr=true/\o+l<=b.es.length then some (.bW b.esz ((b.es.drop o).take l) c) else none:=id rfl
def X3(g:da)(n i j:Nat)(b:Option bz):Option AV:=match b with
 | some b=>if b.arr then some (.iptr b.esz b.es i j) else (b.es.mapM (view g n)).map λes => .iptr b.esz es i j
 | none=>none
@[simp] theorem aaT(g:da)(n:Nat)(r:Ref)(i j:Nat):view g (n+1) (.ptr r i j)=X3 g n i j (g r):=id rfl
@[simp] theorem Y7(g:da)(n i j:Nat)(b:bz):X3 g n i j (some b)=if b.arr then some (.iptr b.esz b.es i j) else (b.es.mapM (view g n)).map λes => .iptr b.esz es i j:=id rfl
@[simp] theorem afe(g:da)(n:Nat)(f:Fn)(a b:List AV):view g (n+1) (.fn f a b)=(a.mapM (view g n)).bind λa=>(b.mapM (view g n)).map λb => .fn f a b:=by
 rw[view]
 cases a.mapM (view g n)<;>cases b.mapM (view g n)<;>rfl
@[simp] theorem ael(r:Ref)(n:Nat)(x:Value)(a:List bz):aE r n (.v x) a=(.v x,a):=by cases n<;>rfl
@[simp] theorem aem(r:Ref)(n:Nat)(x:UInt8)(a:List bz):aE r n (a8 x) a=(a8 x,a):=by cases n<;>rfl
@[simp] theorem ab8(r:Ref)(n:Nat)(x:UInt32)(a:List bz):aE r n (au x) a=(au x,a):=by cases n<;>rfl
@[simp] theorem aab(r:Ref)(n z:Nat)(es:List AV)(c:Option Nat)(a:List bz):aE r n (.bW z es c) a=(.bW z es c,a):=by cases n<;>rfl
@[simp] theorem aac(r:Ref)(n z:Nat)(es:List AV)(c:Option Nat)(a:List bz)(b:z≠0):aE r (n+1) (.fsl z es c) a=(.cL { r with k:=a.length} 0 es.length c,a++[⟨z,es,true,false⟩]):=by
 simp only[aE,if_neg b]
def uw(r:Ref)(n:Nat):List AV->List AV->List bz->List AV × List bz
 | [],acc,a=>(acc,a)
 | c :: cs,acc,a=>uw r n cs (acc++[(aE r n c a).1]) (aE r n c a).2
theorem GZ(r:Ref)(n:Nat)(cs:List AV) : ∀(a:List AV)(b:List bz),cs.foldl (λ(p:List AV × List bz) c=>let (y,b):=aE r n c p.2;(p.1++[y],b)) (a,b)=uw r n cs a b:=by
 induction cs with
 | nil=>intro a b;rfl
 | cons c cs d=>intro a b;rw[vR];exact d _ _
@[simp] theorem aad(r:Ref)(n:Nat)(cs:List AV)(a:List bz):aE r (n+1) (.agg cs) a=(.agg (uw r n cs [] a).1,(uw r n cs [] a).2):=by
 rw[<-GZ];rfl
@[simp] theorem aaa(r:Ref)(n:Nat)(cs:List AV)(a:List bz):aE r (n+1) (.tup cs) a=(.tup (uw r n cs [] a).1,(uw r n cs [] a).2):=by
 rw[<-GZ];rfl
@[simp] theorem Yk(r:Ref)(n:Nat)(a:List AV)(b:List bz):uw r n [] a b=(a,b):=id rfl
@[simp] theorem Xc(r:Ref)(n:Nat)(c:AV)(cs a:List AV)(b:List bz):uw r n (c :: cs) a b=uw r n cs (a++[(aE r n c b).1]) (aE r n c b).2:=id rfl
@[simp] theorem VT(H:ai):cJ H []=H:=id rfl
def Qd(H:ai)(r:Ref)(b:Option bz):ai:=match b with
 | some b=>H.put r (some { b with kH:=true})
 | none=>H
@[simp] theorem U2(H:ai)(r:Ref)(rs:List Ref):cJ H (r :: rs)=cJ (Qd H r (H.get r)) rs:=by
 show(match H.get r with | some b=>cJ (H.put r (some { b with kH:=true})) rs | none=>cJ H rs)=_
 cases H.get r<;>rfl
@[simp] theorem Xi(H:ai)(r:Ref)(b:bz):Qd H r (some b)=H.put r (some { b with kH:=true}):=id rfl
def Qh(l:Nat)(c:Option Nat)(b:Option bz):Option AV:=match b with
 | some b=>if b.arr=true/\l<=b.es.length then some (if b.kH then .bW b.esz (b.es.take l) c else .fsl b.esz (b.es.take l) c) else none
 | none=>none
@[simp] theorem aaq(g:da)(n:Nat)(r:Ref)(l:Nat)(c:Option Nat):dM g (n+1) (.cL r 0 l c)=Qh l c (g r):=id rfl
@[simp] theorem Xx(l:Nat)(c:Option Nat)(b:bz):Qh l c (some b)=if b.arr=true/\l<=b.es.length then some (if b.kH then .bW b.esz (b.es.take l) c else .fsl b.esz (b.es.take l) c) else none:=id rfl
@[simp] theorem aeD(g:da)(n:Nat)(x:Value):dM g (n+1) (.v x)=some (.v x):=id rfl
@[simp] theorem aar(g:da)(n:Nat)(cs:List AV):dM g (n+1) (.agg cs)=(cs.mapM (dM g n)).map .agg:=id rfl
@[simp] theorem aap(g:da)(n:Nat)(cs:List AV):dM g (n+1) (.tup cs)=(cs.mapM (dM g n)).map .tup:=id rfl
theorem Sl.idx{z:Nat}{es:List AV}{x:AV}(h:Sl z es x){P:Program}{t:TypeId}(b:(ei P t).bind (aL P)=some z)(g:da)(a:IntKind)(k:Int) :
 eg P g t (some x) (some (.v (.int a k)))=if 0<=k/\k<es.length then some (.iptr z es k.toNat 0,[]) else none:=by
 rcases h with ⟨rfl,rfl⟩ | ⟨c,rfl,_⟩
 ·obtain⟨e,he,d⟩:=MQ b
  rw[if_neg (by simp)]
  simp[eg,intOf,he]
 ·exact GI b g es c a k
theorem Sl.exp{z:Nat}{es:List AV}{x:AV}(h:Sl z es x)(g:da)(n:Nat):dM g (n+1) x=some x:=by
 rcases h with ⟨rfl,rfl⟩ | ⟨c,rfl,_⟩<;>rfl
theorem Sl.imp'{z:Nat}{es:List AV}{x:AV}(h:Sl z es x)(r:Ref)(n:Nat)(a:List bz):aE r n x a=(x,a):=by
 rcases h with ⟨rfl,rfl⟩ | ⟨c,rfl,_⟩<;>cases n<;>rfl
theorem Sl.r{z:Nat}{es:List AV}{x:AV}(h:Sl z es x):wh x=some es.length/\(∀g n,Ab.view g (n+1) x=some x)/\(∀g n,ay g n x=[])/\x.cells=[x]/\x.one=true/\(∀g n,dM g (n+1) x=some x)/\(∀r n a,aE r n x a=(x,a)):=
 ⟨h.len,h.view,h.refs,h.cells.1,h.cells.2,h.exp,h.imp'⟩
@[simp] theorem ahR(z:Nat)(es a:List AV)(c:Option Nat):Sl z es (.bW z a c)↔es=a/\es.length<=c.getD es.length:=by
 constructor
 ·rintro(⟨e,_⟩ | ⟨b,e,h⟩)
  ·cases e
  ·cases e;exact⟨rfl,h⟩
 ·rintro⟨rfl,h⟩;exact .inr ⟨c,rfl,h⟩
@[simp] theorem ahQ(z:Nat)(es:List AV):Sl z es ct↔es=[]:=by
 constructor
 ·rintro(⟨_,e⟩ | ⟨a,e,h⟩)
  ·exact e
  ·cases e
 ·rintro rfl;exact .inl ⟨rfl,rfl⟩
@[simp] theorem at_nil:ct.at?=none:=id rfl
@[simp] theorem ahH(r:Ref)(o n:Nat)(c:Option Nat):(AV.cL r o n c).at?=some r:=id rfl
theorem Vv{P:Program}{t t' z a:Nat}(i:YY P t z a=true)(c:HB P t'=true)(m:Bool)(H:ai)(r:Ref){new:List AV}{x:AV}(j:XO H.get z new x)(n:new≠[])(p:new.length * a<=bI) :
 ju P m H r (some t) (some t') ct x=some (.cL r 0 new.length none,({ r with k:=0},some ⟨z,new,true,false⟩) :: H):=by
 obtain⟨e,v,g,D,q,y,l,E,C,A⟩:=lE i
 have b:=j.pv i g
 unfold HB at c
 simp only[bh,dV]at c
 have f:(P.underlying t').isNone=false:=by cases h:P.underlying t' with | none=>rw[h]at c;simp at c | some d=>rfl
 have o : ¬((P.underlying t').isNone=true\/isInt P t'≠isNum x):=by
  rw[f,c.2,j.num];simp
 have u : ¬(z≠z\/z=0\/a=0\/v.cells.length≠z):=by simp[l,C,A]
 simp only[ju,jB,fH,g,Option.map_some,cX,if_neg o,D,q,y,b,if_neg u,if_neg n,if_pos p]
 rfl
theorem M8{P:Program}{t t' z a:Nat}(o:YY P t z a=true)(c:HB P t'=true)(H:ai)(r q:Ref)(n:Nat){new es:List AV}{x:AV}(v:XO H.get z new x){fz:Bool}(D:H.get q=some ⟨z,es,true,fz⟩)(F:n=es.length)(f:new≠[])(G:(es.length+new.length) * a<=bI) :
 ju P true H r (some t) (some t') (.cL q 0 n none) x=some (.cL ⟨q.d,q.t,H.gen q.d q.t,0⟩ 0 (es.length+new.length) none,(⟨q.d,q.t,H.gen q.d q.t,0⟩,some ⟨z,es++new,true,fz⟩) :: H.put q none):=by
 subst F
 obtain⟨e,u,i,E,p,y,l,J,C,A⟩:=lE o
 have b:=v.pv o i
 unfold HB at c
 simp only[bh,dV]at c
 have j:(P.underlying t').isNone=false:=by cases h:P.underlying t' with | none=>rw[h]at c;simp at c | some d=>rfl
 have m : ¬((P.underlying t').isNone=true\/isInt P t'≠isNum x):=by
  rw[j,c.2,v.num];simp
 have I : ¬(z≠z\/z=0\/a=0\/u.cells.length≠z):=by simp[l,C,A]
 have k : ¬(z≠z\/z=0\/a=0\/new=[]\/u.cells.length≠z):=by simp[l,C,A,f]
 have g:jB P H.get r (some t) (some t') (.cL q 0 es.length none) x=none:=by
  simp only[jB,fH,i,Option.map_some,cX,if_neg m,E,p,y,b,if_neg I,D,if_neg f]
  simp
 simp only[ju,g,IU,LZ]
 simp only[mN,fH,i,Option.map_some,cX,if_neg m,E,p,y,b,if_neg k,D,G,and_self,if_true,true_and]
def nQ(P:Program)(t:TypeId):Nat:=((ei P t).bind (aL P)).getD 0
def vl(P:Program)(t:TypeId):Nat:=((ei P t).bind (o9 P)).getD 0
def kf(P:Program)(t:TypeId):AV:=((ei P t).bind (ff P)).getD AV.undef
def qS(P:Program)(t:TypeId):Bool:=YY P t (nQ P t) (vl P t)
def XB(z:Nat)(o:Option (Nat × List AV)):Option (List AV):=match o with
 | some (a,es)=>if a=z then some es else none
 | none=>none
def kR(z:Nat)(g:da)(x:AV):Option (List AV):=match x with
 | .v (.slice none 0 0)=>some []
 | .v (.int _ _)=>none
 | x=>XB z (cS g x)
@[simp] theorem ach(z:Nat)(g:da):kR z g ct=some []:=id rfl
@[simp] theorem aci(z:Nat)(g:da)(a:Nat)(es:List AV)(c:Option Nat):kR z g (.bW a es c)=if a=z then some es else none:=id rfl
def aat(z o n:Nat)(b:Option bz):Option (List AV):=match b with
 | some b=>if (b.arr=true/\o+n<=b.es.length)/\b.esz=z then some ((b.es.drop o).take n) else none
 | none=>none
@[simp] theorem acj(z o n:Nat)(b:bz):aat z o n (some b)=if (b.arr=true/\o+n<=b.es.length)/\b.esz=z then some ((b.es.drop o).take n) else none:=id rfl
@[simp] theorem acg(z:Nat)(g:da)(r:Ref)(o n:Nat)(c:Option Nat):kR z g (.cL r o n c)=aat z o n (g r):=by
 unfold kR aat
 simp only[cS]
 cases g r with
 | none=>rfl
 | some b=>
  dsimp only
  by_cases h:b.arr=true/\o+n<=b.es.length
  ·by_cases a:b.esz=z
   ·rw[if_pos h,if_pos ⟨h,a⟩];simp[XB,a]
   ·rw[if_pos h,if_neg (λe=>a e.2)];simp[XB,a]
  ·rw[if_neg h,if_neg (λe=>h e.1)];rfl
theorem Sl.kR{z:Nat}{es:List AV}{x:AV}(h:Sl z es x)(g:da):Ab.kR z g x=some es:=by
 rcases h with ⟨rfl,rfl⟩ | ⟨c,rfl,_⟩<;>simp
theorem yd{z:Nat}{g:da}{x:AV}{new:List AV}(h:kR z g x=some new):XO g z new x:=by
 unfold kR at h
 split at h
 ·cases h;exact .inl ⟨rfl,rfl⟩
 ·cases h
 ·rename_i b c
  unfold XB at h
  split at h
  ·rename_i f es a
   split at h
   ·rename_i d
    cases h;subst d
    refine .inr ⟨?_,λe=>?_,a⟩
    ·cases x with
     | v u=>cases u with
      | int k n=>exact(c _ _ rfl).elim
      | _=>rfl
     | _=>rfl
    ·exact b e
   ·cases h
  ·cases h
def ae4(z a:Nat)(H:ai)(r:Ref)(new:Option (List AV)):du:=match new with
 | some new=>if new=[] then some (ct,H) else if new.length * a<=bI then some (.cL r 0 new.length none,({ r with k:=0},some ⟨z,new,true,false⟩) :: H) else none
 | none=>none
@[simp] theorem Sd(z a:Nat)(H:ai)(r:Ref)(new:List AV):ae4 z a H r (some new)=if new=[] then some (ct,H) else if new.length * a<=bI then some (.cL r 0 new.length none,({ r with k:=0},some ⟨z,new,true,false⟩) :: H) else none:=id rfl
@[simp] theorem aaM{P:Program}{t t':TypeId}(j:qS P t=true)(c:HB P t'=true)(z:Bool)(H:ai)(r:Ref)(x:AV)(f:(kR (nQ P t) H.get x).isSome=true) :
 ju P z H r (some t) (some t') ct x=ae4 (nQ P t) (vl P t) H r (kR (nQ P t) H.get x):=by
 obtain⟨new,D⟩:=gI.1 f
 rw[D,Sd]
 have f:=yd D
 unfold qS at j
 by_cases b:new=[]
 ·rw[if_pos b]
  subst b
  obtain⟨e,n,i,u,m,o,k,E,q,p⟩:=lE j
  have a:=f.pv j i
  unfold HB at c
  simp only[bh,dV]at c
  have g:(P.underlying t').isNone=false:=by cases h:P.underlying t' with | none=>rw[h]at c;simp at c | some d=>rfl
  have l : ¬((P.underlying t').isNone=true\/isInt P t'≠isNum x):=by rw[g,c.2,f.num];simp
  have C : ¬(nQ P t≠nQ P t\/nQ P t=0\/vl P t=0\/n.cells.length≠nQ P t):=by simp[k,q,p]
  simp only[ju,jB,fH,i,Option.map_some,cX,if_neg l,u,m,o,a,if_neg C,if_true]
  rfl
 ·rw[if_neg b]
  split
  ·rename_i A;exact Vv j c z H r f b A
  ·rename_i A
   obtain⟨e,n,i,u,m,o,k,E,q,p⟩:=lE j
   have a:=f.pv j i
   unfold HB at c
   simp only[bh,dV]at c
   have g:(P.underlying t').isNone=false:=by cases h:P.underlying t' with | none=>rw[h]at c;simp at c | some d=>rfl
   have l : ¬((P.underlying t').isNone=true\/isInt P t'≠isNum x):=by rw[g,c.2,f.num];simp
   have C : ¬(nQ P t≠nQ P t\/nQ P t=0\/vl P t=0\/n.cells.length≠nQ P t):=by simp[k,q,p]
   have v : ¬(nQ P t≠nQ P t\/nQ P t=0\/vl P t=0\/new=[]\/n.cells.length≠nQ P t):=by simp[k,q,p,b]
   have y:jB P H.get r (some t) (some t') ct x=none:=by
    simp only[jB,fH,i,Option.map_some,cX,if_neg l,u,m,o,a,if_neg C,if_neg b,if_neg A]
   simp only[ju,y,IU]
   cases z
   ·rfl
   ·simp only[LZ,mN,fH,i,Option.map_some,cX,if_neg l,u,m,o,a,if_neg v]
def bsG(a:Bool)(z:Nat)(b:AV)(H:ai)(r:Ref)(n:Nat)(ps:List (Nat × AV)):du:=match iR (List.replicate n b) ps with
 | some es=>if a then some (.bW z es (some n),H) else some (.cL r 0 n (some n),({ r with k:=0},some ⟨z,es,true,false⟩) :: H)
 | none=>none
@[simp] theorem agN{P:Program}{t:TypeId}(d:qS P t=true)(a j:Bool)(H:ai)(r:Ref)(n:Nat)(ps:List (Nat × AV))(f:n * nQ P t<=16777216)(o:fI H.get ps=some ps)(g:cq H.get (ps.map (·.2))=[])
 (k:ps.all (λp=>p.2.cells.length == nQ P t&&p.2.cells.all AV.one)=true) (b:(iR (List.replicate n (kf P t)) ps).isSome=true) :
 pJ P a j H r t n (some ps)=bsG a (nQ P t) (kf P t) H r n ps:=by
 obtain⟨es,b⟩:=gI.1 b
 unfold qS at d
 obtain⟨e,h,l,z,u,m,q,y,x,v⟩:=lE d
 have i:(ei P t).bind (ff P)=some h:=by rw[l];exact m
 have c:kf P t=h:=by unfold kf;rw[i];rfl
 rw[c]at b ⊢
 rw[Vn d f o g k i b]
 unfold bsG
 rw[b]
@[simp] theorem VU(es:List AV):iR es []=some es:=id rfl
@[simp] theorem U5(es:List AV)(i:Nat)(v:AV)(ps:List (Nat × AV)):iR es ((i,v) :: ps)=if i<es.length then iR (es.set i v) ps else none:=id rfl
@[simp] theorem aeY(a:Bool)(z:Nat)(b:AV)(H:ai)(r:Ref)(n:Nat)(ps:List (Nat × AV)):bsG a z b H r n ps=(iR (List.replicate n b) ps).bind λes=>if a then some (.bW z es (some n),H) else some (.cL r 0 n (some n),({ r with k:=0},some ⟨z,es,true,false⟩) :: H):=by
 unfold bsG;cases iR (List.replicate n b) ps<;>rfl
@[simp] theorem VN(g:da):fI g []=some []:=id rfl
@[simp] theorem SJ(g:da)(i:Nat)(x:AV)(ps:List (Nat × AV)):fI g ((i,x) :: ps)=(view g depth x).bind λy=>(fI g ps).map ((i,y) :: ·):=by
 unfold fI
 rw[Md]
 dsimp only
 cases view g depth x<;>rfl
def aep(z o n:Nat)(k:Int)(r:Ref)(b:Option bz):jw:=match b with
 | some b=>if 0<=k/\k<n/\z=b.esz then some (.ptr r (o+k.toNat) 0,[]) else none
 | none=>none
@[simp] theorem ab9(z o n:Nat)(k:Int)(r:Ref)(b:bz):aep z o n k r (some b)=if 0<=k/\k<n/\z=b.esz then some (.ptr r (o+k.toNat) 0,[]) else none:=id rfl
@[simp] theorem Sk{P:Program}{t:TypeId}(h:qS P t=true)(g:da)(r:Ref)(o n:Nat)(c:Option Nat)(d:IntKind)(k:Int) :
 eg P g t (some (.cL r o n c)) (some (.v (.int d k)))=aep (nQ P t) o n k r (g r):=by
 unfold qS at h
 obtain⟨e,m,a,b,l,p,i,j,f,q⟩:=lE h
 simp only[eg,fH,intOf,a,b]
 cases g r<;>rfl
def N4(H:ai)(r:Ref)(o:Option bz)(n i j:Nat)(x:AV):du:=match o with
 | some ⟨z,es,true,false⟩=>if x.cells.length=n/\x.cells.all AV.one=true then (jz es i j x.cells).map λes=>(AV.undef,H.put r (some ⟨z,es,true,false⟩)) else none
 | some ⟨z,es,false,false⟩=>if x.cells.length=n/\x.cells.all AV.one=true then (jz es i j x.cells).map λes=>(AV.undef,H.put r (some ⟨z,es,false,false⟩)) else none
 | _=>none
@[simp] theorem Gr(H:ai)(r:Ref)(z:Nat)(es:List AV)(n i j:Nat)(x:AV):N4 H r (some ⟨z,es,true,false⟩) n i j x=if x.cells.length=n/\x.cells.all AV.one=true then (jz es i j x.cells).map λes=>(AV.undef,H.put r (some ⟨z,es,true,false⟩)) else none:=id rfl
@[simp] theorem Za(H:ai)(r:Ref)(z:Nat)(es:List AV)(n i j:Nat)(x:AV):N4 H r (some ⟨z,es,false,false⟩) n i j x=if x.cells.length=n/\x.cells.all AV.one=true then (jz es i j x.cells).map λes=>(AV.undef,H.put r (some ⟨z,es,false,false⟩)) else none:=id rfl
def N6(H:ai)(o:Option bz)(x:AV):Prop:=match o with
 | some ⟨_,_,false,false⟩=>True
 | some ⟨_,_,true,false⟩=>view H.get depth x=some x/\ay H.get depth x=[]
 | _=>False
@[simp] theorem Zc(H:ai)(z:Nat)(es:List AV)(x:AV):N6 H (some ⟨z,es,false,false⟩) x=True:=id rfl
@[simp] theorem Zd(H:ai)(z:Nat)(es:List AV)(x:AV):N6 H (some ⟨z,es,true,false⟩) x=(view H.get depth x=some x/\ay H.get depth x=[]):=id rfl
theorem SE{P:Program}{t:TypeId}(d:(aL P t).isSome=true)(H:ai)(r:Ref)(i j:Nat)(x:AV)(c:N6 H (H.get r) x) :
 nT P H t (some (.ptr r i j)) (some x)=N4 H r (H.get r) ((aL P t).getD 0) i j x:=by
 obtain⟨n,d⟩:=gI.1 d
 simp only[nT,d,cX]
 cases e:H.get r with
 | none=>rw[e]at c;exact c.elim
 | some b=>
  rw[e]at c
  obtain⟨z,es,arr,kH⟩:=b
  cases kH with
  | true=>cases arr<;>exact c.elim
  | false=>
   cases arr with
   | false=>simp only[and_true,nz,if_false];rfl
   | true=>
    obtain⟨f,g⟩:=c
    simp only[and_true,if_true,f,g,Dv,if_false,cJ]
    by_cases a:x.cells.length=n/\x.cells.all AV.one=true
    ·rw[if_pos a,Gr,if_pos a,if_pos a.2]
    ·rw[if_neg a,Gr,if_neg a]
theorem Eu{α:Type}(f:α->AV)(l:List α)(i j:Nat)(new:List AV):jz (l.map f) i j new=(l[i]?).bind λa=>(sM (f a) j new).map λb=>(l.map f).set i b:=by
 unfold jz
 rw[oS]
 cases l[i]?<;>rfl
@[simp] theorem VK(cs:List AV)(j:Nat)(new:List AV):sM (.agg cs) j new=if j+new.length<=cs.length then some (.agg (patch cs j new)) else none:=id rfl
@[simp] theorem ZB(f:Fn)(a b:List AV):ue f (some a) (some b)=some (.fn f a b,[]):=id rfl
attribute [simp] SE
@[simp] theorem aao(a:Nat->Option (Nat × Nat))(cells:List AV):lP a cells []=some cells:=id rfl
def YT(a:Nat->Option (Nat × Nat))(cells:List AV)(v:AV)(rest:List (Nat × AV))(p:Option (Nat × Nat)):Option (List AV):=match p with
 | none=>none
 | some (off,size)=>if v.cells.length=size/\off+size<=cells.length then lP a (patch cells off v.cells) rest else none
@[simp] theorem YU(a:Nat->Option (Nat × Nat))(cells:List AV)(i:Nat)(v:AV)(rest:List (Nat × AV)):lP a cells ((i,v) :: rest)=YT a cells v rest (a i):=id rfl
@[simp] theorem aan(a:Nat->Option (Nat × Nat))(cells:List AV)(v:AV)(rest:List (Nat × AV))(c b:Nat):YT a cells v rest (some (c,b))=if v.cells.length=b/\c+b<=cells.length then lP a (patch cells c v.cells) rest else none:=id rfl
@[simp] theorem Yf(P:Program){g:da}{r:Ref}{a b:TypeId}{k':IntKind}(c:(P.underlying a).isNone=false)(e:intKind P b=some .u64)(n:Int)(d:0<=n)(f:n<=4294967296) :
 gl P g r a b (some (.v (.int k' n)))=some (.v (.int .u64 n),[]):=by
 rw[xP P .u64 c e,IntKind.wrap_u64,Nw d (by omega)]
@[simp] theorem adQ(r':Ref)(b':Option bz)(H:ai)(r:Ref)(b:Option bz):ai.put ((r',b') :: H) r b=if r'=r then (r,b) :: H else (r',b') :: ai.put H r b:=id rfl
@[simp] theorem Wd{α a:Type}(f:α->a)(l:List α):List.take l.length (l.map f)=l.map f:=gh (by simp)
def VF(z:Nat)(es:List AV)(y:AV):Prop:=(y=ct/\es=[])\/y = .fsl z es none\/(y = .fsl z [] (some 0)/\es=[])
theorem WV(z:Nat):VF z [] ct := .inl ⟨rfl,rfl⟩
@[simp] theorem afb(z:Nat)(es:List AV):VF z es ct↔es=[]:=by
 constructor
 ·rintro(⟨_,e⟩ | e | ⟨e,_⟩)
  ·exact e
  ·cases e
  ·cases e
 ·rintro rfl;exact WV z
@[simp] theorem afc(z:Nat)(es a:List AV):VF z es (.fsl z a none)↔es=a:=by
 constructor
 ·rintro(⟨e,_⟩ | e | ⟨e,_⟩)
  ·cases e
  ·cases e;rfl
  ·cases e
 ·rintro rfl;exact .inr (.inl rfl)
@[simp] theorem acy(z:Nat)(es:List AV):VF z es (.fsl z [] (some 0))↔es=[]:=by
 constructor
 ·rintro(⟨e,_⟩ | e | ⟨_,e⟩)
  ·cases e
  ·cases e
  ·exact e
 ·rintro rfl;exact .inr (.inr ⟨rfl,rfl⟩)
theorem M9{P:Program}{t t':TypeId}(i:qS P t=true)(c:HB P t'=true)(A:Bool)(H:ai)(r q:Ref)(n k:Nat)(x:AV){es new:List AV}{fz:Bool}(v:H.get q=some ⟨nQ P t,es,true,fz⟩)(f:kR (nQ P t) H.get x=some new)(C:n=es.length)(j:new=[]\/((es.length+new.length) * vl P t<=bI/\k<es.length+new.length)) :
 ju P A H r (some t) (some t') (.cL q 0 n (some k)) x=if new=[] then some (.cL q 0 n (some k),H) else some (.cL r 0 (es.length+new.length) none,({ r with k:=0},some ⟨nQ P t,es++new,true,false⟩) :: H):=by
 subst C
 have f:=yd f
 unfold qS at i
 obtain⟨e,E,g,y,o,u,z,I,G,F⟩:=lE i
 have a:=f.pv i g
 unfold HB at c
 simp only[bh,dV]at c
 have l:(P.underlying t').isNone=false:=by cases h:P.underlying t' with | none=>rw[h]at c;simp at c | some d=>rfl
 have m : ¬((P.underlying t').isNone=true\/isInt P t'≠isNum x):=by rw[l,c.2,f.num];simp
 have p : ¬(nQ P t≠nQ P t\/nQ P t=0\/vl P t=0\/E.cells.length≠nQ P t):=by simp[z,G,F]
 by_cases b:new=[]
 ·subst b
  simp only[ju,jB,fH,g,Option.map_some,cX,if_neg m,y,o,u,a,if_neg p,v,if_true]
  simp
 ·obtain⟨D,j⟩:=j.resolve_left b
  simp only[ju,jB,fH,g,Option.map_some,cX,if_neg m,y,o,u,a,if_neg p,v,if_neg b]
  simp only[ne_eq,not_true_eq_false,Bool.true_eq_false,or_self,if_false,uN,dc,j,D,and_self,if_true,Jq,FL]
  rfl
def mY(z a n:Nat)(d:Bool)(c:Option Nat)(b:Option bz)(new:Option (List AV)):Prop:=match b,new with
 | some ⟨e,es,true,_⟩,some new=>e=z/\n=es.length/\(new=[]\/((es.length+new.length) * a<=bI/\match c with | none=>d=true | some k=>k<es.length+new.length))
 | _,_=>False
theorem aQ(z a n:Nat)(b:Bool)(c:Nat)(es new:List AV)(fz:Bool):mY z a n b none (some ⟨c,es,true,fz⟩) (some new)=(c=z/\n=es.length/\(new=[]\/((es.length+new.length) * a<=bI/\b=true))):=id rfl
theorem aT(z a n:Nat)(c:Bool)(k b:Nat)(es new:List AV)(fz:Bool):mY z a n c (some k) (some ⟨b,es,true,fz⟩) (some new)=(b=z/\n=es.length/\(new=[]\/((es.length+new.length) * a<=bI/\k<es.length+new.length))):=id rfl
def XK(z:Nat)(H:ai)(q r:Ref)(n:Nat)(c:Option Nat)(b:Option bz)(new:Option (List AV)):du:=match b,new with
 | some b,some []=>some (.cL q 0 n c,H)
 | some b,some new=>match c with
  | none=>some (.cL ⟨q.d,q.t,H.gen q.d q.t,0⟩ 0 (b.es.length+new.length) none,(⟨q.d,q.t,H.gen q.d q.t,0⟩,some ⟨z,b.es++new,true,b.kH⟩) :: H.put q none)
  | some _=>some (.cL r 0 (b.es.length+new.length) none,({ r with k:=0},some ⟨z,b.es++new,true,false⟩) :: H)
 | _,_=>none
@[simp] theorem Vw(z:Nat)(H:ai)(q r:Ref)(n:Nat)(c:Option Nat)(b:bz):XK z H q r n c (some b) (some [])=some (.cL q 0 n c,H):=id rfl
theorem cz(z:Nat)(H:ai)(q r:Ref)(n:Nat)(b:bz)(new:List AV)(a:new≠[]):XK z H q r n none (some b) (some new)=some (.cL ⟨q.d,q.t,H.gen q.d q.t,0⟩ 0 (b.es.length+new.length) none,(⟨q.d,q.t,H.gen q.d q.t,0⟩,some ⟨z,b.es++new,true,b.kH⟩) :: H.put q none):=by
 cases new with
 | nil=>exact(a rfl).elim
 | cons _ _=>rfl
theorem cw(z:Nat)(H:ai)(q r:Ref)(n k:Nat)(b:bz)(new:List AV)(a:new≠[]):XK z H q r n (some k) (some b) (some new)=some (.cL r 0 (b.es.length+new.length) none,({ r with k:=0},some ⟨z,b.es++new,true,false⟩) :: H):=by
 cases new with
 | nil=>exact(a rfl).elim
 | cons _ _=>rfl
theorem bf{P:Program}{t t':TypeId}(j:qS P t=true)(g:HB P t'=true)(p:Bool)(H:ai)(r q:Ref)(n:Nat)(c:Option Nat)(x:AV)(a:mY (nQ P t) (vl P t) n p c (H.get q) (kR (nQ P t) H.get x)) :
 ju P p H r (some t) (some t') (.cL q 0 n c) x=XK (nQ P t) H q r n c (H.get q) (kR (nQ P t) H.get x):=by
 cases i:H.get q with
 | none=>rw[i]at a;exact a.elim
 | some b=>
  obtain⟨K,es,arr,fz⟩:=b
  cases m:kR (nQ P t) H.get x with
  | none=>rw[i,m]at a;cases arr<;>exact a.elim
  | some new=>
   rw[i,m]at a
   cases arr with
   | false=>exact a.elim
   | true=>
    obtain⟨rfl,rfl,a⟩:=a
    cases c with
    | none=>
     by_cases f:new=[]
     ·subst f
      rw[Vw]
      have l:=yd m
      unfold qS at j
      obtain⟨e,E,v,J,C,F,y,L,I,G⟩:=lE j
      have o:=l.pv j v
      unfold HB at g
      simp only[bh,dV]at g
      have u:(P.underlying t').isNone=false:=by cases h:P.underlying t' with | none=>rw[h]at g;simp at g | some d=>rfl
      have z : ¬((P.underlying t').isNone=true\/isInt P t'≠isNum x):=by rw[u,g.2,l.num];simp
      have D : ¬(nQ P t≠nQ P t\/nQ P t=0\/vl P t=0\/E.cells.length≠nQ P t):=by simp[y,I,G]
      simp only[ju,jB,fH,v,Option.map_some,cX,if_neg z,J,C,F,o,if_neg D,i,if_true]
      simp
     ·obtain⟨A,rfl⟩:=a.resolve_left f
      rw[cz _ _ _ _ _ _ _ f]
      exact M8 (by exact j) g H r q _ (yd m) i rfl f A
    | some k=>
     rw[M9 j g p H r q _ k x i m rfl a]
     split
     ·rename_i f;subst f;rfl
     ·rename_i f;rw[cw _ _ _ _ _ _ _ _ f]
theorem Sl.Ut{z:Nat}{es:List AV}{x:AV}(h:Sl z es x):x=ct/\es=[] \/∃c,x = .bW z es c:=by
 rcases h with h | ⟨c,h,_⟩
 ·exact .inl h
 ·exact .inr ⟨c,h⟩
@[simp] theorem WR(P:Program)(t:TypeId)(b d:Operand)(h:(ei P t).isSome=true)(z:Nat)(es:List AV)(c:Option Nat):cf P .eql t b d (some (.bW z es c)) (some ct)=some (aB false,[]):=by
 unfold ei at h
 split at h
 ·rename_i e a
  simp[cf,Kj,oh,a]
 ·cases h
def aez(b:Option bz):Bool:=match b with | some b=>b.kH | none=>false
@[simp] theorem acb(b:bz):aez (some b)=b.kH:=id rfl
@[simp] theorem aaP(g:da):kg g []=true:=id rfl
@[simp] theorem Y0(g:da)(r:Ref)(rs:List Ref):kg g (r :: rs)=(aez (g r)&&kg g rs):=id rfl
theorem aU(H:ai)(r:Ref)(refs:List Ref)(y:AV)(a:flat depth y=false)(b:kg H.get refs=false):AH true H r refs (some y)=some ((aE r depth y []).1,keyed r 0 (aE r depth y []).2 (cJ H refs)):=by
 simp only[AH,a,b,FC,nz,if_false,if_true]
def WW(z:Nat):List AV->AV
 | []=>ct
 | es => .fsl z es none
@[simp] theorem adS(z:Nat):WW z []=ct:=id rfl
theorem CM(z:Nat){es:List AV}(h:es≠[]):WW z es = .fsl z es none:=by
 cases es with
 | nil=>exact(h rfl).elim
 | cons _ _=>rfl
def rH:AV->AV
 | .bW z [] _ => .fsl z [] (some 0)
 | .bW z es _ => .fsl z es none
 | x=>x
@[simp] theorem Vi(x:Value):rH (.v x) = .v x:=id rfl
@[simp] theorem Pe(z:Nat)(c:Option Nat):rH (.bW z [] c) = .fsl z [] (some 0):=id rfl
theorem sW(z:Nat){es:List AV}(c:Option Nat)(h:es≠[]):rH (.bW z es c) = .fsl z es none:=by
 cases es with
 | nil=>exact(h rfl).elim
 | cons _ _=>rfl
theorem vn{z:Nat}{es:List AV}{x:AV}(h:Sl z es x):VF z es (rH x):=by
 rcases h with ⟨rfl,rfl⟩ | ⟨c,rfl,_⟩
 ·simp
 ·by_cases a:es=[]
  ·subst a;simp
  ·rw[sW z c a];simp
def kB(z:Nat)(es:List AV)(H:ai)(x y:AV):Prop:=(x=y/\Sl z es y) \/∃r c fz,x = .cL r 0 es.length c/\H.get r=some ⟨z,es,true,fz⟩/\y = .bW z es c/\es.length<=c.getD es.length
theorem kB.sl{z:Nat}{es:List AV}{H:ai}{x y:AV}(h:kB z es H x y):Sl z es y:=by
 rcases h with ⟨_,h⟩ | ⟨r,c,fz,_,_,rfl,h⟩
 ·exact h
 ·exact .inr ⟨c,rfl,h⟩
theorem kB.view{z:Nat}{es:List AV}{H:ai}{x y:AV}(h:kB z es H x y)(n:Nat):Ab.view H.get (n+1) x=some y:=by
 rcases h with ⟨rfl,h⟩ | ⟨r,c,fz,rfl,a,rfl,_⟩
 ·exact h.view _ _
 ·rw[It a rfl]
theorem kB.len{z:Nat}{es:List AV}{H:ai}{x y:AV}(h:kB z es H x y):wh x=some es.length:=by
 rcases h with ⟨rfl,h⟩ | ⟨r,c,fz,rfl,a,rfl,_⟩
 ·exact h.len
 ·rfl
theorem kB.cells{z:Nat}{es:List AV}{H:ai}{x y:AV}(h:kB z es H x y):x.cells=[x]/\x.one=true:=by
 rcases h with ⟨rfl,h⟩ | ⟨r,c,fz,rfl,a,rfl,_⟩
 ·exact h.cells
 ·exact⟨rfl,rfl⟩
theorem kB.put{z:Nat}{es:List AV}{H:ai}{x y:AV}(h:kB z es H x y){q:Ref}(a:x.at?≠some q)(b:Option bz):kB z es (H.put q b) x y:=by
 rcases h with h | ⟨r,c,fz,rfl,e,rfl,d⟩
 ·exact .inl h
 ·refine .inr ⟨r,c,fz,rfl,?_,rfl,d⟩
  rw[ai.get_put,if_neg (by rintro rfl;exact a rfl),e]
theorem kB.cons{z:Nat}{es:List AV}{H:ai}{x y:AV}(h:kB z es H x y)(e:Fr H)(d t:Nat)(b:Option bz):kB z es ((⟨d,t,H.gen d t,0⟩,b) :: H) x y:=by
 rcases h with h | ⟨r,c,fz,rfl,a,rfl,f⟩
 ·exact .inl h
 ·refine .inr ⟨r,c,fz,rfl,?_,rfl,f⟩
  rw[ai.tK,if_neg (pZ e (by rw[a];rfl) d t 0),a]
theorem kB.r{z:Nat}{es:List AV}{H:ai}{x y:AV}(h:kB z es H x y):wh x=some es.length/\(∀n,Ab.view H.get (n+1) x=some y)/\x.cells=[x]/\x.one=true:=⟨h.len,h.view,h.cells⟩
theorem kB.of{z:Nat}{es:List AV}{x:AV}(h:Sl z es x)(H:ai):kB z es H x x := .inl ⟨rfl,h⟩
def Sh(z:Nat)(es:List AV)(H:ai)(x:AV)(r:Ref):Prop:=(x=ct/\es=[]) \/∃c,x = .cL r 0 es.length c/\H.get r=some ⟨z,es,true,false⟩
theorem Sh.len{z:Nat}{es:List AV}{H:ai}{x:AV}{r:Ref}(h:Sh z es H x r):wh x=some es.length:=by
 rcases h with ⟨rfl,rfl⟩ | ⟨c,rfl,_⟩<;>rfl
theorem Sh.cells{z:Nat}{es:List AV}{H:ai}{x:AV}{r:Ref}(h:Sh z es H x r):x.cells=[x]/\x.one=true:=by
 rcases h with ⟨rfl,rfl⟩ | ⟨c,rfl,_⟩<;>exact⟨rfl,rfl⟩
theorem Sh.cL{z:Nat}{es:List AV}{H:ai}{x:AV}{r:Ref}(h:Sh z es H x r){k:Nat}(a:k<es.length) : ∃c,x = .cL r 0 es.length c/\H.get r=some ⟨z,es,true,false⟩:=by
 rcases h with ⟨rfl,rfl⟩ | h
 ·simp at a
 ·exact h
def tP(a:List Nat)(z:Nat)(es:List AV)(H:ai)(x:AV):Prop:=(x=ct/\es=[]) \/∃t g,t∈a/\x = .cL ⟨0,t,g,0⟩ 0 es.length none/\H.get ⟨0,t,g,0⟩=some ⟨z,es,true,false⟩
@[simp] theorem acx(b:List Nat)(z:Nat)(es:List AV)(H:ai)(t g n:Nat):tP b z es H (.cL ⟨0,t,g,0⟩ 0 n none)↔t∈b/\n=es.length/\H.get ⟨0,t,g,0⟩=some ⟨z,es,true,false⟩:=by
 constructor
 ·rintro(⟨e,_⟩ | ⟨t',c,a,e,h⟩)
  ·cases e
  ·cases e;exact⟨a,rfl,h⟩
 ·rintro⟨a,rfl,h⟩;exact .inr ⟨t,g,a,rfl,h⟩
theorem kB.live{z:Nat}{es:List AV}{H:ai}{x y:AV}(h:kB z es H x y){r:Ref}(b:x.at?=some r):(H.get r).isSome=true:=by
 rcases h with ⟨rfl,h⟩ | ⟨r',c,fz,rfl,a,rfl,_⟩
 ·rcases h with ⟨rfl,_⟩ | ⟨c,rfl,_⟩<;>cases b
 ·cases b;rw[a];rfl
theorem kB.mono{z:Nat}{es:List AV}{H H':ai}{x y:AV}(h:kB z es H x y)(d : ∀r,x.at?=some r->H'.get r=H.get r):kB z es H' x y:=by
 rcases h with h | ⟨r',c,fz,rfl,a,rfl,b⟩
 ·exact .inl h
 ·exact .inr ⟨r',c,fz,rfl,by rw[d r' rfl,a],rfl,b⟩
theorem ad{H:ai}(a:Fr H){q:Ref}(h:(H.get q).isSome=true)(d t k:Nat):((⟨d,t,H.gen d t+1,k⟩:Ref)=q)=False:=
 eq_false λe=>by subst e;rw[a _ _ _ _ (Dq _)]at h;cases h
theorem ae{H:ai}(a:Fr H){q:Ref}(h:(H.get q).isSome=true)(d t k:Nat):(q=(⟨d,t,H.gen d t+1,k⟩:Ref))=False:=
 eq_false λe=>by subst e;rw[a _ _ _ _ (Dq _)]at h;cases h
theorem ak{H:ai}(a:Fr H)(d t k:Nat):H.get ⟨d,t,H.gen d t+1,k⟩=none:=a _ _ _ _ (Dq _)
theorem aj{H:ai}(c:Fr H){d t g:Nat}(k:Nat)(m:g=H.gen d t\/g+1=H.gen d t)(b:Option bz):Fr ((⟨d,t,g,k⟩,b) :: H):=by
 intro j t' l k' h
 rw[ai.MA]at h
 rw[ai.tK]
 by_cases a:d=j/\t=t'
 ·obtain⟨rfl,rfl⟩:=a
  rw[if_pos ⟨rfl,rfl⟩]at h
  rw[if_neg (by intro e;injection e;omega)]
  exact c _ _ _ _ (by omega)
 ·rw[if_neg a]at h
  rw[if_neg (by intro e;injection e with i f;exact a ⟨i,f⟩)]
  exact c _ _ _ _ h
def P7(a:Nat)(es:List AV)(k:Nat)(new:Option (List AV)):Prop:=match new with
 | some new=>new=[]\/(k<es.length+new.length/\(es.length+new.length) * a<=bI)
 | none=>False
theorem aC(a:Nat)(es:List AV)(k:Nat)(new:List AV):P7 a es k (some new)=(new=[]\/(k<es.length+new.length/\(es.length+new.length) * a<=bI)):=id rfl
def Z6(z:Nat)(H:ai)(r:Ref)(es:List AV)(k:Nat)(new:Option (List AV)):du:=match new with
 | some []=>some (.bW z es (some k),H)
 | some new=>some (.cL r 0 (es.length+new.length) none,({ r with k:=0},some ⟨z,es++new,true,false⟩) :: H)
 | none=>none
@[simp] theorem US(z:Nat)(H:ai)(r:Ref)(es:List AV)(k:Nat):Z6 z H r es k (some [])=some (.bW z es (some k),H):=id rfl
theorem bH(z:Nat)(H:ai)(r:Ref)(es:List AV)(k:Nat)(new:List AV)(a:new≠[]):Z6 z H r es k (some new)=some (.cL r 0 (es.length+new.length) none,({ r with k:=0},some ⟨z,es++new,true,false⟩) :: H):=by
 cases new with
 | nil=>exact(a rfl).elim
 | cons _ _=>rfl
theorem bg{P:Program}{t t':TypeId}(j:qS P t=true)(c:HB P t'=true)(y:Bool)(H:ai)(r:Ref)(z k:Nat)(es:List AV)(x:AV)(G:z=nQ P t)(g:P7 (vl P t) es k (kR (nQ P t) H.get x)) :
 ju P y H r (some t) (some t') (.bW z es (some k)) x=Z6 z H r es k (kR (nQ P t) H.get x):=by
 subst G
 cases l:kR (nQ P t) H.get x with
 | none=>rw[l]at g;exact g.elim
 | some new=>
  rw[l]at g
  have b:=yd l
  unfold qS at j
  obtain⟨e,D,i,u,o,q,v,I,F,E⟩:=lE j
  have a:=b.pv j i
  unfold HB at c
  simp only[bh,dV]at c
  have m:(P.underlying t').isNone=false:=by cases h:P.underlying t' with | none=>rw[h]at c;simp at c | some d=>rfl
  have n : ¬((P.underlying t').isNone=true\/isInt P t'≠isNum x):=by rw[m,c.2,b.num];simp
  have p : ¬(nQ P t≠nQ P t\/nQ P t=0\/vl P t=0\/D.cells.length≠nQ P t):=by simp[v,F,E]
  by_cases f:new=[]
  ·subst f
   rw[US]
   simp only[ju,jB,fH,i,Option.map_some,cX,if_neg n,u,o,q,a,if_neg p,if_neg (show ¬(nQ P t≠nQ P t) by simp),if_true]
   rfl
  ·obtain⟨C,A⟩:=g.resolve_left f
   rw[bH _ _ _ _ _ _ f]
   simp only[ju,jB,fH,i,Option.map_some,cX,if_neg n,u,o,q,a,if_neg p,if_neg (show ¬(nQ P t≠nQ P t) by simp),if_neg f,if_pos (show k<es.length+new.length/\(es.length+new.length) * vl P t<=bI from⟨C,A⟩)]
   rfl
@[simp] theorem aca(n:Nat)(h:n<9223372036854775808):IntKind.i64.wrap (no_index (OfNat.ofNat n):Int)=OfNat.ofNat n:=by
 show IntKind.i64.wrap (n:Int)=n
 exact IntWalk.i64_in _ (by omega)
@[simp] theorem ae0(len:Nat)(cap:Option Nat)(a b:Option Int):bounds len cap a b none=if 0<=a.getD 0/\a.getD 0<=b.getD len/\b.getD len<=len then some ((a.getD 0).toNat,(b.getD len).toNat,cap.map (· - (a.getD 0).toNat)) else none:=id rfl
@[simp] theorem adz(k:Nat):min k IntKind.i64.bits=min k 64:=id rfl
@[simp] theorem ae5(l:List (AV × AV))(st a:List AV)(H:ai):mZ l st a H↔(l.all λp=>re p.1 p.2)=true/\st.all (wT H)=true/\a.all bsV=true:=Iff.rfl
@[simp] theorem abw(r:Ref)(i j:Nat)(r':Ref)(a b:Nat):re (.ptr r i j) (.ptr r' a b) = !decide (r=r'):=by
 unfold re;simp[jA]
@[simp] theorem abv(v:Value)(x:AV):re x (.v v)=true:=by
 unfold re;cases jA x<;>rfl
def N3(o:Option bz):Bool:=match o with
 | some b => !b.arr
 | none=>false
@[simp] theorem X8(b:bz):N3 (some b) = !b.arr:=id rfl
@[simp] theorem ady(H:ai)(r:Ref)(i j:Nat):wT H (.ptr r i j)=N3 (H.get r):=by
 cases h:H.get r<;>simp[wT,N3,h]
def be:Nat->Int->List UInt8
 | 0,_=>[]
 | k+1,n=>be k (n / 256)++[u8 n]
def ag2(a:Int)(l:List UInt8):Int:=l.foldl (λa b=>256 * a+(b.toNat:Int)) a
def val(l:List UInt8):Int:=ag2 0 l
@[simp] theorem Vs(k:Nat) : ∀n,(be k n).length=k:=by
 induction k with
 | zero=>intro n;rfl
 | succ k a=>intro n;simp[be,a]
@[simp] theorem agQ(n:Int):be 0 n=[]:=id rfl
theorem Ky(k:Nat) : ∀n:Int,be (k+1) n=u8 (n / 256 ^ k) :: be k n:=by
 induction k with
 | zero=>intro n;simp[be]
 | succ k a=>
  intro n
  rw[be,a,be]
  rw[Int.ediv_ediv_of_nonneg (by omega),Int.pow_succ,Int.mul_comm (256 ^ k)]
  simp
@[simp] theorem aaK(k:Nat)(n:Int):be k n=[]↔k=0:=by
 rw[<-List.length_eq_zero_iff,Vs]
theorem Pn(n:Int):be 4 n=[u8 (n / 16777216),u8 (n / 65536),u8 (n / 256),u8 n]:=by
 simp[Ky]
theorem ahF(n:Int):be 7 n=[u8 (n / 281474976710656),u8 (n / 1099511627776),u8 (n / 4294967296),u8 (n / 16777216),u8 (n / 65536),u8 (n / 256),u8 n]:=by
 simp[Ky]
theorem fw(n:Int)(k:Nat):n.fdiv (no_index (OfNat.ofNat k))=n / OfNat.ofNat k:=Int.fdiv_eq_ediv_of_nonneg _ (Int.natCast_nonneg k)
def xR(z:Nat):List AV->AV
 | []=>ct
 | es => .bW z es none
theorem CL(z:Nat){es:List AV}(h:es≠[]):xR z es = .bW z es none:=by
 cases es with
 | nil=>exact(h rfl).elim
 | cons _ _=>rfl
theorem A5(z:Nat)(es:List AV):Sl z es (xR z es):=by
 cases es with
 | nil=>exact .inl ⟨rfl,rfl⟩
 | cons a l=>exact .inr ⟨none,rfl,by simp⟩
theorem Sl.Xb{z:Nat}{es:List AV}{x:AV}(h:Sl z es x)(b:es≠[]) : ∃c,x = .bW z es c/\es.length<=c.getD es.length:=by
 rcases h with ⟨_,rfl⟩ | ⟨c,h,a⟩
 ·exact(b rfl).elim
 ·exact⟨c,h,a⟩
def ZS(z:Nat)(b:Option bz)(q:jw):jw:=match b with
 | some b=>if z=b.esz then q else none
 | none=>none
@[simp] theorem abS(z:Nat)(b:bz)(q:jw):ZS z (some b) q=if z=b.esz then q else none:=id rfl
@[simp] theorem Zy{P:Program}{t:TypeId}(h:qS P t=true)(g:da)(r:Ref)(o n:Nat)(c:Option Nat)(d a f:Option Int) :
 iQ P g t (some (.cL r o n c)) (some d) (some a) (some f)=ZS (nQ P t) (g r) ((bounds n c d a f).map λp=>(.cL r (o+p.1) (p.2.1 - p.1) p.2.2,[])):=by
 unfold qS at h
 obtain⟨e,q,i,j,m,u,l,y,x,v⟩:=lE h
 have k:(ei P t).bind (aL P)=some (nQ P t):=by rw[i];exact j
 unfold iQ
 dsimp only
 rw[k]
 cases g r with
 | none=>rfl
 | some b=>simp[ZS]
@[simp] theorem aaH(l:List UInt8):jX l=[]↔l=[]:=by simp[jX]
end Go.Ab
