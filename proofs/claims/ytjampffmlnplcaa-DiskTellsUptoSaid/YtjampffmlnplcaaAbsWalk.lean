/-
  Maps of the abstract machine against the model's. No statement of a seat is proved here.
-/
import Derived.Conc.LoneCalls
import Derived.Test.YtjampffmlnplcaaAbsOps
set_option linter.unusedVariables false
set_option linter.unusedSimpArgs false
set_option linter.unusedSectionVars false
set_option linter.unnecessarySimpa false
namespace Go.Ab
section
theorem dT{c d:Type}{P:Program}(s:Sem c)(f:c->Sem d):cO P (s >>= f)=(cO P s).bind λa=>cO P (f a):=by
 induction s with
 | pure a=>rfl
 | program k b=>exact b P
 | mark m k b=>exact b
 | _=>rfl
theorem mH{b:Type}{P:Program}(a:b):cO P (pure a:Sem b)=some a:=rfl
def dummy(es:List MapEntry):List MapEntry:=es.map λe=>⟨e.key,Go.undef,0⟩
theorem tF{d:TypeDesc}{k:Value} : ∀(es:List MapEntry)(i:Nat),(Instr.findNow d k es i=none↔Instr.findNow d k (dummy es) i=none)/\(Instr.findNow d k es i=some none↔Instr.findNow d k (dummy es) i=some none) /\
 ∀j v,Instr.findNow d k (dummy es) i=some (some (j,v))->i<=j /\∃e,es[j - i]?=some e/\Instr.findNow d k es i=some (some (j,e.val)):=by
 intro es
 induction es with
 | nil=>intro i;simp[dummy,Instr.findNow]
 | cons e es n=>
  intro i
  obtain⟨c,m,p⟩:=n (i+1)
  simp only[dummy,o5,Instr.findNow]
  cases t:Instr.sameNow d k e.key with
  | none=>simp
  | some b=>
   cases b with
   | true=>
    refine⟨by simp,by simp,λj v h=>?_⟩
    simp only[cz,mY]at h
    obtain⟨rfl,_⟩:=h
    exact⟨a7 _,e,by simp,rfl⟩
   | false=>
    refine⟨c,m,λj v h=>?_⟩
    obtain⟨u,q,f,s⟩:=p j v h
    refine⟨by omega,q,?_,s⟩
    rw[show j - i=(j - (i+1))+1 by omega]
    simpa using f
theorem p9{P:Program}{d:TypeId}{k:Value} : ∀(es:List MapEntry)(i:Nat)(o:Option (Nat × Value)),cO P (Instr.findAsking d k (dummy es) i)=some o ->∀w:World,
 (o=none->(Instr.findAsking d k es i).run P w = .ok none w) /\∀j v,o=some (j,v)->i<=j /\∃e,es[j - i]?=some e/\(Instr.findAsking d k es i).run P w = .ok (some (j,e.val)) w:=by
 intro es
 induction es with
 | nil=>
  intro i o h w
  simp only[dummy,List.map_nil,Instr.findAsking,mH,cz]at h
  subst h
  exact⟨λ_=>rfl,λj v e=>by cases e⟩
 | cons e es q=>
  intro i o h w
  simp only[dummy,o5,Instr.findAsking]at h
  rw[dT]at h
  obtain⟨b,t,h⟩:=dL.1 h
  have f:=gC t w
  cases b with
  | true=>
   simp only[if_true,mH,cz]at h
   subst h
   refine⟨λe=>by (cases e),λj v c=>?_⟩
   cases c
   exact⟨a7 _,e,by simp,by simp[Instr.findAsking,f]⟩
  | false=>
   simp only[kF,if_false]at h
   obtain⟨m,p⟩:=q (i+1) o h w
   refine⟨λc=>by simp[Instr.findAsking,f,m c],λj v c=>?_⟩
   obtain⟨x,u,n,s⟩:=p j v c
   refine⟨by omega,u,?_,by simp[Instr.findAsking,f,s]⟩
   rw[show j - i=(j - (i+1))+1 by omega]
   simpa using n
theorem jI{P:Program}{c:Bool}{n:TypeId}{k:Value}{es:List MapEntry}{o:Option Nat}(h:py P c n k (es.map (·.key))=some o)(w:World) :
 (Instr.checkKey c 10000 n k).run P w = .ok () w/\(o=none->(Instr.findKey n k es).run P w = .ok none w) /\∀j,o=some j ->∃e,es[j]?=some e/\(Instr.findKey n k es).run P w = .ok (some (j,e.val)) w:=by
 unfold py at h
 split at h
 ·rename_i H
  obtain⟨o',b,e⟩:=aC.1 h
  have u:(es.map (·.key)).map (λx=>(⟨x,Go.undef,0⟩:MapEntry))=dummy es:=by simp[dummy,Function.comp_def]
  rw[u]at b
  unfold Instr.findKey at b
  rw[dT]at b
  obtain⟨d,G,b⟩:=dL.1 b
  have f:=gC G w
  refine⟨gC H w,?_⟩
  obtain⟨v,y,C⟩:=tF (d:=d) (k:=k) es 0
  cases m:Instr.findNow d k (dummy es) 0 with
  | some r=>
   rw[m]at b
   simp only[mH,cz]at b
   subst b
   cases r with
   | none=>
    simp only[rC]at e
    subst e
    refine⟨λ_=>?_,λj e=>?_⟩
    ·simp[Instr.findKey,f,y.2 m]
    ·cases e
   | some p=>
    obtain⟨s,v0⟩:=p
    simp only[Option.map_some]at e
    subst e
    refine⟨λe=>(by cases e),λj e=>?_⟩
    cases e
    obtain⟨_,t,q,F⟩:=C s v0 m
    exact⟨t,by simpa using q,by simp[Instr.findKey,f,F]⟩
  | none=>
   rw[m]at b
   simp only at b
   obtain⟨B,q⟩:=p9 es 0 o' b w
   have i:=v.2 m
   cases o' with
   | none=>
    simp only[rC]at e
    subst e
    refine⟨λ_=>?_,λj e=>?_⟩
    ·simp[Instr.findKey,f,i,B rfl]
    ·cases e
   | some p=>
    obtain⟨s,v0⟩:=p
    simp only[Option.map_some]at e
    subst e
    refine⟨λe=>(by cases e),λj e=>?_⟩
    cases e
    obtain⟨_,t,D,z⟩:=q s v0 rfl
    exact⟨t,by simpa using D,by simp[Instr.findKey,f,i,z]⟩
 ·cases h
theorem mE{P:Program}{t c b:TypeId}(h:yN P t=some (c,b)):P.underlying t=some (.map c b):=by
 unfold yN at h
 split at h
 ·rename_i k e d;cases h;exact d
 ·cases h
section
variable{P:Program}{M:Mem}{ι:Map}{g:bD}{w:World}{r:Ref}
theorem nU(F:cT M ι g w){d:List AV}(p:gj g r=some d){l:Loc}(H:ι r=some l)(S:l.esz=0) :
 ∃a f c,g r=some ⟨0,.v (.bool true) :: d,a,f⟩/\w.heap[l.b]?=some (.map c c.size)/\c.size=d.length /\
  (∀(i:Nat) ent e,d[i]?=some ent->c[i]?=some e ->∃q z,ent = .tup [q,z]/\gT q=some e.key/\VR M ι z e.val/\e.born=i) /\∀t,d.mapM sW=some t->t=c.toList.map (·.key):=by
 unfold gj at p
 split at p
 ·rename_i es f B
  cases p
  obtain⟨O,n,K⟩:=F.live r _ B
  rw[H]at n;cases n
  rcases K.objOk rfl with ⟨_,_,_,_,_,_,_,_,_,h,_⟩ | ⟨u,c,Q,R,h,N,G,C⟩ | ⟨_,_,_,_,_,_,_,_,h,_⟩
  ·simp at h
  rotate_left
  ·simp at h
  ·simp only[q9,true_and]at h
   subst h
   refine⟨false,f,c,B,N,G,C,λt j=>?_⟩
   have L:=cW j
   apply uY
   intro i
   rcases cr i c.size with s | s
   ·have m:i<d.length:=by omega
    obtain⟨y,J,x⟩:=fl j i _ (bG m)
    obtain⟨q,z,I,D,_⟩:=C i _ c[i] (bG m) (ey s)
    rw[J]
    rw[I]at x
    simp only[sW]at x
    rw[x]at D
    cases D
    simp[ey s]
   ·rw[lX (by rw[L];omega),lX (by simp;omega)]
 ·cases p
theorem y6(hS:cT M ι g w){t:TypeId}{x k y:AV}{V Q:Value}(Y:VR M ι x V)(hk:VR M ι k Q){ok:Bool}{T:List ax}(h:gU P g t (some x) (some k) ok=some (y,T)) :
 T=[] /\∃u,(Instr.lookup t V Q ok).run P w = .ok u w/\VR M ι y u:=by
 have s : ∀ {v:AV} {u:Value} (b:Bool),VR M ι v u->VR M ι (if ok then .tup [v,.v (.bool b)] else v) (if ok then .tuple #[u,.bool b] else u):=by
  intro v u b j
  cases ok with
  | false=>exact j
  | true=>
   refine .tup (by simp) rfl λi c u' C q=>?_
   match i with
   | 0=>simp at C q;subst C;subst q;exact j
   | 1=>simp at C q;subst C;subst q;exact .v rfl
   | i+2=>simp at C
 unfold gU at h
 split at h
 ·rename_i kt et r' kv U K J
  cases K
  cases Y with | mp Z hz=>
  rename_i l
  have L:Q=kv:=by simpa using kL hk (by simpa using J)
  subst L
  split at h
  ·rename_i W X
   obtain⟨a,f,entries,hg,S,x6,D,N⟩:=nU hS X Z hz
   split at h
   ·rename_i R H
    have d:=N R H
    have m:entries.isEmpty=R.isEmpty:=by rw[d];simp
    split at h
    ·rename_i i B
     rw[d]at B
     obtain⟨v,j,h⟩:=aC.1 h
     cases h
     obtain⟨F,_,h3⟩:=jI B w
     obtain⟨e,he,G⟩:=h3 i rfl
     obtain⟨O,p,j⟩:=dL.1 j
     obtain⟨ka,va,e1,e2,e3⟩:=D i O e p (by simpa using he)
     subst e1
     simp only[vS,cz]at j
     subst j
     refine⟨rfl,_,?_,s true e3.1⟩
     rw[<-d,<-m]at F
     have n:(getObj l.b).run P w = .ok (.map entries entries.size) w:=by simp[getObj,Sem.run,S]
     simp only[Instr.lookup,Sem.run_bind,Sem.run_pure,az (mE U),Result.andThen_ok,n,F,G]
    ·rename_i B
     rw[d]at B
     obtain⟨z,I,h⟩:=aC.1 h
     cases h
     obtain⟨F,h2,_⟩:=jI B w
     obtain⟨u,q,j⟩:=mc I w
     refine⟨rfl,_,?_,s false (dO j)⟩
     rw[<-d,<-m]at F
     have n:(getObj l.b).run P w = .ok (.map entries entries.size) w:=by simp[getObj,Sem.run,S]
     simp only[Instr.lookup,Sem.run_bind,Sem.run_pure,az (mE U),Result.andThen_ok,n,F,h2 rfl,q]
    ·cases h
   ·cases h
  ·cases h
 ·cases h
theorem y7(s:cT M ι g w){m:Array TypeId}{ty:TypeId}{r':Ref}{x:AV}{n:Value}(B:VR M ι (.mp r') n){q:List ax}(h:nR P g m[0]? r'=some (x,q)) :
 q=[] /\∃u,(Builtin.len_ m ty #[n]).run P w = .ok u w/\VR M ι x u:=by
 unfold nR at h
 split at h
 ·rename_i p j c y
  obtain⟨t,c,d⟩:=dL.1 c
  cases h
  cases B with | mp z C=>
  rename_i l
  obtain⟨a,f,entries,F,D,i,_,_⟩:=nU s y z C
  have e:(getObj l.b).run P w = .ok (.map entries entries.size) w:=by simp[getObj,Sem.run,D]
  refine⟨rfl,goInt entries.size,by simp[Builtin.len_,c,az (mE d),e],?_⟩
  rw[<-i]
  exact .v rfl
 ·cases h
theorem uw(m:cT M ι g w)(L:ι r=none){w':World}{o:Obj}(d:pR w w' o){k:ax}(u:gw M (dm ι r ⟨w.heap.size,0,0⟩) w' ⟨w.heap.size,0,0⟩ k) :
 cT M (dm ι r ⟨w.heap.size,0,0⟩) (fv g r k) w'/\kb M ι g w M (dm ι r ⟨w.heap.size,0,0⟩) (fv g r k) w':=by
 have f:=qR (l:=⟨w.heap.size,0,0⟩) L
 have p : ∀b o x,M b o=some x->b<w.heap.size:=λb o x h=>World.block_lt_of_cell? w ⟨b,o,none⟩ (m.mem b o x h)
 have one : ∀ {q:Ref} {k' c},fv g r k q=some k'->dm ι r ⟨w.heap.size,0,0⟩ q=some c->(q=r/\c.b=w.heap.size)\/(q≠r/\g q=some k'/\ι q=some c/\c.b<w.heap.size):=by
  intro q k' c h j
  unfold fv at h
  unfold dm at j
  split at h
  ·rename_i e;rw[if_pos e]at j;cases j;exact .inl ⟨e,rfl⟩
  ·rename_i e
   rw[if_neg e]at j
   obtain⟨D,n,y⟩:=m.live q k' h
   rw[j]at n;cases n
   exact .inr ⟨e,h,j,y.lt⟩
 refine⟨⟨λb o x h=>d.cell (m.mem b o x h),λq k' h=>?_,λq K k1 H c D v z I O G=>?_⟩,⟨d.os,d.tape,d.output,by rw[d.heap];simp,λb J _=>d.old b J,λ_ _ _ h=>h,f,λq k' c v z=>?_,λ_ _ _ h => .inl h⟩⟩
 ·unfold fv at h
  split at h
  ·rename_i e
   subst e
   cases h
   exact⟨⟨w.heap.size,0,0⟩,by simp[dm],u.BM rfl λo x F=>absurd (p _ _ _ F) (od _)⟩
  ·obtain⟨c,B,i⟩:=m.live q k' h
   exact⟨c,f q c B,i.bm (λ_ _ _ h=>h) f (d.old _ i.lt) i.frozen⟩
 ·rcases one v I with ⟨t,s⟩ | ⟨t,s,C,N⟩<;>rcases one z O with ⟨f1,f2⟩ | ⟨f1,f2,f3,f4⟩
  ·rw[t,f1]
  ·omega
  ·omega
  ·exact m.inj q K k1 H c D s f2 C f3 G
 ·rcases one v z with ⟨t,s⟩ | ⟨t,s,C,N⟩
  ·exact .inl (by omega)
  ·exact .inr ⟨q,k',c,s,C,rfl⟩
theorem w6(f:cT M ι g w)(d:r.k=0)(s:ι r=none)(t:TypeId) :
 ∃u w',(Instr.makeMap t none).run P w = .ok u w'/\dZ M ι g w r (.mp r) [ig []] u w':=by
 have b:pR w (w.alloc (.map #[] 0)) (.map #[] 0):=⟨rfl,rfl,rfl,rfl⟩
 obtain⟨j,n⟩:=uw f s b (k:=ig []) (.inr (.inl ⟨[], #[],rfl,rfl,rfl,by rw[b.heap];simp,rfl,λi m e h=>by simp at h⟩))
 refine⟨.map (some w.heap.size),w.alloc (.map #[] 0),by simp[Instr.makeMap,run_newObj_alloc],M,dm ι r ⟨w.heap.size,0,0⟩,.mp (l:=⟨w.heap.size,0,0⟩) (by simp[dm]) rfl,by rw[jk _ _ d];exact j,by rw[jk _ _ d];exact n,?_⟩
 intro q c p
 have:q≠r:=by intro e;exact p 0 (by simp) (by rw[e];cases r;simp_all)
 simpa [dm,this] using c
theorem kP{H:aa}{l:Loc}{k:ax}(m:cT M ι H.get w)(Q:jA ι H)(y:ι r=some l)(K:l.esz=0)(n:H.get r=some k){k':ax}{o':Obj}(z:gw M ι (aJ w l.b o') l k') :
 cT M ι (H.put r (some k')).get (aJ w l.b o')/\kb M ι H.get w M ι (H.put r (some k')).get (aJ w l.b o')/\jA ι (H.put r (some k')):=by
 obtain⟨Y,u,L⟩:=m.live r _ n
 rw[y]at u;cases u
 have I:k.esz=0:=by rw[<-L.esz];exact K
 have O : ∀o x,M l.b o=some x->False:=by
  intro o x v
  have:=m.mem _ _ _ v
  rcases(L.objOk I).obj with ⟨_,j⟩ | ⟨_,_,j⟩ | ⟨_,_,_,_,_,_,j⟩
  ·simp[World.cell?,j]at this
  ·simp[World.cell?,j]at this
  ·simp[World.cell?,j]at this
 have c : ∀q k1,(H.put r (some k')).get q=some k1 ->∃p,H.get q=some p:=by
  intro q k1 d
  rw[aa.aj]at d
  split at d
  ·rename_i e;exact⟨_,e ▸ n⟩
  ·exact⟨k1,d⟩
 refine⟨⟨λb o x v=>?_,λq k1 d=>?_,λq N k1 V i S B D W j R=>?_⟩,⟨rfl,rfl,rfl,by simp[aJ],λb _ C=>cu (C r _ l n y),λ_ _ _ h=>h,λ_ _ h=>h,λq k1 i B D=>?_,λ_ _ _ h => .inl h⟩,λq X d=>?_⟩
 ·have J:l.b≠b:=λe=>O o x (e ▸ v)
  rw[World.cell?_of_block (w:=w) (cu J)]
  exact m.mem b o x v
 ·by_cases f:q=r
  ·subst f
   rw[aa.aj,if_pos rfl]at d
   cases d
   exact⟨l,y,z.BM K O⟩
  ·rw[aa.aj,if_neg f]at d
   obtain⟨i,s,t⟩:=m.live q k1 d
   have F:l.b≠i.b:=λe=>f (m.inj q r k1 _ i l d n s y e.symm)
   exact⟨i,s,t.bm (λ_ _ _ h=>h) (λ_ _ h=>h) (cu F) t.frozen⟩
 ·obtain⟨p,G⟩:=c q k1 B
  obtain⟨U,T⟩:=c N V D
  exact m.inj q N p U i S G T W j R
 ·obtain⟨p,G⟩:=c q k1 B
  exact .inr ⟨q,p,i,G,D,rfl⟩
 ·rw[aa.b8 _ _ _ (by rw[n];rfl)]
  exact Q q X d
theorem tl{H:aa}(hS:cT M ι H.get w)(hD:jA ι H){t:TypeId}{m k x y:AV}{um q I:Value}(hm:VR M ι m um)(hk:VR M ι k q)(hx:VR M ι x I){H':aa}(h:dM P H t (some m) (some k) (some x)=some (y,H')) :
 ∃w',(Instr.mapUpdate t um q I).run P w = .ok () w'/\hJ M ι H w y H' undef w':=by
 unfold dM at h
 split at h
 ·rename_i kt et r' k' x' ht J e2 e3
  cases J;cases e2;cases e3
  cases hm with | mp T V=>
  rename_i l
  split at h
  ·rename_i kv z D x6
   have U:q=kv:=kL hk D
   subst U
   obtain⟨a,f,entries,hg,W,G,p,X⟩:=nU hS x6 T V
   have Q:l.b<w.heap.size:=(dz.1 W).1
   have K:(getObj l.b).run P w = .ok (.map entries entries.size) w:=by simp[getObj,Sem.run,W]
   have R : ∀o,(setObj l.b o).run P w = .ok () (aJ w l.b o):=by intro o;simp[setObj,Sem.run,W,aJ]
   split at h
   ·rename_i ks O
    have n:=X ks O
    split at h
    ·rename_i i L
     rw[n]at L
     obtain⟨Y,h⟩:=cc.1 h
     cases h
     obtain⟨h1,_,h3⟩:=jI L w
     obtain⟨e,he,N⟩:=h3 i rfl
     have s:entries[i]?=some e:=by simpa using he
     have Ko:i<entries.size:=(dz.1 s).1
     have Z:Instr.sameBits 10000 e.key q=true:=by
      rw[n]at Y
      simp only[fU,ri,s,Option.map_some,cz]at Y
      exact Y
     have B:(Instr.keyThatStays (((entries[i]?).map (·.key)).getD q) q).run P w = .ok q w:=by
      rw[s]
      simp[Instr.keyThatStays,Z]
     refine⟨aJ w l.b (.map (entries.modify i λe => { e with key:=q,val:=I}) entries.size),by simp only[Instr.mapUpdate,Sem.run_bind,az (mE ht),Result.andThen_ok,K,h1,N,B,R],M,ι,.v rfl,?_⟩
     refine kP hS hD T V hg (.inr (.inl ⟨z.set i (.tup [k,x]),entries.modify i λe => { e with key:=q,val:=I},rfl,rfl,rfl,?_,by simp[G],λj F J d c=>?_⟩))
     ·rw[cV Q];simp
     ·rw[wm]at c
      by_cases C:i=j
      ·subst C
       rw[if_pos rfl,s]at c
       simp only[Option.map_some,cz]at c
       subst c
       rw[tW (by omega)]at d
       cases d
       obtain⟨_,_,_,_,_,hb⟩:=p i _ e (bG (by omega)) s
       exact⟨k,x,rfl,D,hx,hb⟩
      ·rw[if_neg C]at c
       rw[rG C]at d
       exact p j F J d c
    ·rename_i L
     rw[n]at L
     cases h
     obtain⟨h1,h2,_⟩:=jI L w
     refine⟨aJ w l.b (.map (entries.push { key:=q,val:=I,born:=entries.size}) (entries.size+1)),by simp only[Instr.mapUpdate,Sem.run_bind,az (mE ht),Result.andThen_ok,K,h1,h2 rfl,R],M,ι,.v rfl,?_⟩
     refine kP hS hD T V hg (.inr (.inl ⟨z++[.tup [k,x]],entries.push { key:=q,val:=I,born:=entries.size},rfl,rfl,rfl,?_,by simp[G],λj F J d c=>?_⟩))
     ·rw[cV Q];simp
     ·rcases cr j entries.size with u | Kn
      ·rw[qn u,<-ey u]at c
       rw[dY (by omega)]at d
       exact p j F J d c
      ·rw[fS (by omega)]at d
       have S:j=entries.size:=by
        have:=(bL.1 d).1
        simp at this
        omega
       subst S
       simp only[G,kf,u9,cz]at d
       subst d
       simp at c
       subst c
       exact⟨k,x,rfl,D,hx,rfl⟩
    ·cases h
   ·cases h
  ·cases h
 ·cases h
theorem vf{H:aa}(hS:cT M ι H.get w)(hD:jA ι H){t:TypeId}{m k y:AV}{um F:Value}(hm:VR M ι m um)(hk:VR M ι k F){H':aa}(h:iL P H t (some m) (some k)=some (y,H')) :
 ∃u w',(Instr.mapEntry t um F).run P w = .ok u w'/\hJ M ι H w y H' u w':=by
 have W : ∀ {v:AV} {u:Value} (n:Nat),VR M ι v u->VR M ι (.tup [v,.v (.int .i64 n)]) (.tuple #[u,goInt n]):=by
  intro v u n I
  refine .tup (by simp) rfl λi c u' G S=>?_
  match i with
  | 0=>simp at G S;subst G;subst S;exact I
  | 1=>simp at G S;subst G;subst S;exact .v rfl
  | i+2=>simp at G
 unfold iL at h
 split at h
 ·rename_i kt et r' k' ht T e2
  cases T;cases e2
  cases hm with | mp hr hz=>
  rename_i l
  split at h
  ·rename_i kv p Q Ks
   have Kp:F=kv:=kL hk Q
   subst Kp
   obtain⟨a,f,entries,hg,hh,J,D,Kq⟩:=nU hS Ks hr hz
   have Z:l.b<w.heap.size:=(dz.1 hh).1
   have U:(getObj l.b).run P w = .ok (.map entries entries.size) w:=by simp[getObj,Sem.run,hh]
   have x6 : ∀o,(setObj l.b o).run P w = .ok () (aJ w l.b o):=by intro o;simp[setObj,Sem.run,hh,aJ]
   split at h
   ·rename_i ks Y
    have B:=Kq ks Y
    split at h
    ·rename_i i V
     rw[B]at V
     obtain⟨G,h⟩:=cc.1 h
     obtain⟨v,I,h⟩:=aC.1 h
     cases h
     obtain⟨h1,_,h3⟩:=jI V w
     obtain⟨e,he,X⟩:=h3 i rfl
     have q:entries[i]?=some e:=by simpa using he
     have Ku:i<entries.size:=(dz.1 q).1
     have Kr:Instr.sameBits 10000 e.key F=true:=by
      rw[B]at G
      simp only[fU,ri,q,Option.map_some,cz]at G
      exact G
     have N:(Instr.keyThatStays (((entries[i]?).map (·.key)).getD F) F).run P w = .ok F w:=by
      rw[q]
      simp[Instr.keyThatStays,Kr]
     obtain⟨C,R,I⟩:=dL.1 I
     obtain⟨ka,va,q1,q2,q3,q4⟩:=D i C e R q
     subst q1
     simp only[vS,cz]at I
     subst I
     refine⟨.tuple #[e.val,goInt i],aJ w l.b (.map (entries.modify i λe => { e with key:=F}) entries.size),?_,M,ι,W i q3,?_⟩
     ·have L:(Option.map (λx:MapEntry=>(x.born:Int)) entries[i]?).getD 0=(i:Int):=by rw[q];simp[q4]
      simp only[Instr.mapEntry,Sem.run_bind,Sem.run_pure,az (mE ht),Result.andThen_ok,U,h1,X,N,x6,L]
     refine kP hS hD hr hz hg (.inr (.inl ⟨p.set i (.tup [k,va]),entries.modify i λe => { e with key:=F},rfl,rfl,rfl,?_,by simp[J],λj C T s d=>?_⟩))
     ·rw[cV Z];simp
     ·rw[wm]at d
      by_cases O:i=j
      ·subst O
       rw[if_pos rfl,q]at d
       simp only[Option.map_some,cz]at d
       subst d
       rw[tW (by omega)]at s
       cases s
       exact⟨k,va,rfl,Q,q3,q4⟩
      ·rw[if_neg O]at d
       rw[rG O]at s
       exact D j C T s d
    ·rename_i V
     rw[B]at V
     obtain⟨z,Ko,h⟩:=aC.1 h
     cases h
     obtain⟨h1,h2,_⟩:=jI V w
     obtain⟨uz,S,I⟩:=mc Ko w
     refine⟨.tuple #[uz,goInt p.length],aJ w l.b (.map (entries.push { key:=F,val:=uz,born:=entries.size}) (entries.size+1)),?_,M,ι,W p.length (dO I),?_⟩
     ·simp only[Instr.mapEntry,Sem.run_bind,Sem.run_pure,az (mE ht),Result.andThen_ok,U,h1,h2 rfl,S,x6,J]
     refine kP hS hD hr hz hg (.inr (.inl ⟨p++[.tup [k,z]],entries.push { key:=F,val:=uz,born:=entries.size},rfl,rfl,rfl,?_,by simp[J],λj C T s d=>?_⟩))
     ·rw[cV Z];simp
     ·rcases cr j entries.size with K | Kt
      ·rw[qn K,<-ey K]at d
       rw[dY (by omega)]at s
       exact D j C T s d
      ·rw[fS (by omega)]at s
       have Kn:j=entries.size:=by
        have:=(bL.1 s).1
        simp at this
        omega
       subst Kn
       simp only[J,kf,u9,cz]at s
       subst s
       simp at d
       subst d
       exact⟨k,z,rfl,Q,dO I,rfl⟩
    ·cases h
   ·cases h
  ·cases h
 ·cases h
theorem rL{H:aa}(R:cT M ι H.get w)(hD:jA ι H){t:TypeId}{m s x y:AV}{T us B:Value}(V:VR M ι m T)(Z:VR M ι s us)(W:VR M ι x B){H':aa}(h:ff H (some m) (some s) (some x)=some (y,H')) :
 ∃w',(Instr.entryStore t T us B).run P w = .ok () w'/\hJ M ι H w y H' undef w':=by
 unfold ff at h
 split at h
 ·rename_i r' kd n x' C e2 e3
  cases C;cases e2;cases e3
  cases V with | mp O Q=>
  rename_i l
  cases Z
  split at h
  ·rename_i z J
   obtain⟨hn,h⟩:=cc.1 h
   split at h
   ·rename_i S va u
    cases h
    obtain⟨a,f,entries,U,F,K,d,_⟩:=nU R J O Q
    have L:l.b<w.heap.size:=(dz.1 F).1
    have D:(getObj l.b).run P w = .ok (.map entries entries.size) w:=by simp[getObj,Sem.run,F]
    have N : ∀o,(setObj l.b o).run P w = .ok () (aJ w l.b o):=by intro o;simp[setObj,Sem.run,F,aJ]
    have i:n.toNat<entries.size:=by have:=(bL.1 u).1;omega
    have born : ∀j (p:j<entries.size),entries[j].born=j:=by
     intro j p
     obtain⟨_,_,_,_,_,hb⟩:=d j _ entries[j] (bG (by omega)) (ey p)
     exact hb
    have I:entries.findIdx? (λe=>(e.born:Int) == n)=some n.toNat:=by
     rw[Array.findIdx?_eq_some_iff_getElem]
     refine⟨i,?_,λj p=>?_⟩
     ·rw[born _ i];simp;omega
     ·rw[born j (by omega)];simp;omega
    obtain⟨x6,Y,q1,q2,q3,X⟩:=d n.toNat _ entries[n.toNat] u (ey i)
    cases q1
    refine⟨aJ w l.b (.map (entries.modify n.toNat λe => { e with val:=B}) entries.size),?_,M,ι,.v rfl,?_⟩
    ·simp only[Instr.entryStore,Sem.run_bind,Sem.run_pure,Result.andThen_ok,D,asInt,asIntOf,I,N]
    refine kP R hD O Q U (.inr (.inl ⟨z.set n.toNat (.tup [S,x]),entries.modify n.toNat λe => { e with val:=B},rfl,rfl,rfl,?_,by simp[K],λj G C p c=>?_⟩))
    ·rw[cV L];simp
    ·rw[wm]at c
     by_cases q:n.toNat=j
     ·subst q
      rw[if_pos rfl,ey i]at c
      simp only[Option.map_some,cz]at c
      subst c
      rw[tW (by omega)]at p
      cases p
      exact⟨S,x,rfl,q2,W,X⟩
     ·rw[if_neg q]at c
      rw[rG q]at p
      exact d j G C p c
   ·cases h
  ·cases h
 ·cases h
theorem s5{g:bD}{r:Ref}{cap:Nat}{c:Bool}{b:List AV}(h:DP g r=some (cap,c,b)) :
 ∃n f,g r=some ⟨0,.v (.bool false) :: .v (.int .i64 n) :: .v (.bool c) :: b,false,f⟩/\n.toNat=cap:=by
 unfold DP at h
 split at h
 ·rename_i n i d f e
  cases h
  exact⟨n,f,e,rfl⟩
 ·cases h
theorem vX(y:cT M ι g w){r:Ref}{l:Loc}(B:ι r=some l){cap:Nat}{m:Bool}{d:List AV}(h:DP g r=some (cap,m,d)) :
 ∃s t arr,w.heap[l.b]?=some (.chan cap arr m s t false)/\arr.size=d.length /\∀(i:Nat) x u,d[i]?=some x->arr[i]?=some u->VR M ι x u:=by
 obtain⟨n,f,q,L⟩:=s5 h
 obtain⟨J,j,D⟩:=y.live r _ q
 rw[B]at j;cases j
 rcases D.objOk rfl with ⟨_,_,_,_,_,_,_,_,_,e,_⟩ | ⟨_,_,_,_,e,_⟩ | ⟨c,s,t,C,p,arr,_,_,e,I,z,G⟩
 ·simp at e
 ·simp at e
 ·simp only[q9,AV.v.injEq,Value.int.injEq,Value.bool.injEq,true_and]at e
  obtain⟨K,H,F⟩:=e
  subst H F
  have:c=cap:=by omega
  subst this
  exact⟨s,t,arr,I,z,G⟩
theorem vB(z:cT M ι g w)(v:r.k=0)(H:ι r=none){t e:TypeId}{b:Nat}(f:wO P t=some e)(y:db P e=some b)(k:IntKind)(n:Nat)(D:n<=1000000)(p:b<=1000000) :
 ∃u w',(Instr.makeChan t (.int k n)).run P w = .ok u w'/\dZ M ι g w r (.ch r) [s4 n false []] u w':=by
 unfold wO at f
 split at f
 ·rename_i I K F
  cases f
  unfold db at y
  obtain⟨i,C,m⟩:=aC.1 y
  have d:pR w (w.alloc (.chan n #[] false 0 0 false)) (.chan n #[] false 0 0 false):=⟨rfl,rfl,rfl,rfl⟩
  obtain⟨s,B⟩:=uw z H d (k:=s4 n false []) (.inr (.inr ⟨n,0,0,false,[], #[],rfl,rfl,rfl,by rw[d.heap];simp,rfl,λi x u h=>by simp at h⟩))
  have c:(i.bytes:Int) * n<=281474976710544:=by
   have J:i.bytes * n<=1000000 * 1000000:=Nat.mul_le_mul (m ▸ p) D
   have s:((i.bytes * n:Nat):Int)=(i.bytes:Int) * n:=by simp
   omega
  refine⟨_,_,Go.Conc.run_makeChan F C k n (by omega) c,M,dm ι r ⟨w.heap.size,0,0⟩,.ch (l:=⟨w.heap.size,0,0⟩) (by simp[dm]) rfl,by rw[jk _ _ v];exact s,by rw[jk _ _ v];exact B,?_⟩
  intro q j G
  have:q≠r:=by intro e;exact G 0 (by simp) (by rw[e];cases r;simp_all)
  simpa [dm,this] using j
 ·cases f
theorem r8(w:World)(c cap:Nat)(b:Array Value)(d:Bool)(s r:Nat):w.setChan c cap b d s r false=aJ w c (.chan cap b d s r false):=rfl
def th(P:Program)(o:Oper)(a:Act)(w:World)(S:Value->World->Prop):Prop:=
 ∀(b:Frame)(k:List Item)(cs:List Frame)(ops:Array Oper)(i:Nat)(rest:List Nat),b.kind = .normal->ops[i]?=some o->Region.wanted o (yielded ops a.tmps)=true ->
  ∃u w',S u w'/\step P (lone (b.atR a (.inRegion ops (i :: rest) :: k)) cs w) = .next (lone (b.atR (a.put o.dst u) (.inRegion ops rest :: k)) cs w')
theorem ni{P:Program}{b:Frame}{a:Act}{k:List Item}{cs:List Frame}{w w':World}{ops:Array Oper}{i:Nat}{rest:List Nat}{o:Oper}{cases:Array CommCase}{shape:CommShape}(n:b.kind = .normal)(m:ops[i]?=some o)
 (j:Region.wanted o (yielded ops a.tmps)=true) (h : ∀c,o.op ≠ .defer c) (f:(execOp a.eval o).run P w = .ok (.comm cases true shape) w') :
 ∃es,stepG P true (Go.Conc.G (b.atR a (.inRegion ops (i :: rest) :: k)) cs) w = .comm (Go.Conc.G (b.atR a (.inRegion ops (i :: rest) :: k)) cs) cases true shape w' es:=by
 have e:=stepGR_op (P:=P) (b:=b) (k:=k) (cs:=cs) (w:=w) (rest:=rest) m j
 rw[Oper.semAt_eq _ _ _ h]at e
 unfold Go.Conc.G
 rw[e]
 have d:(b.kind == CallKind.early)=false:=by rw[n];rfl
 refine⟨Go.Conc.listed P b.fn a o w,?_⟩
 simp[stepG.apply,f,Frame.atR,d,GStep.after,Go.Conc.listed]
theorem Cg{P:Program}{o:Oper}{a:Act}{H:aa}(S:cT M ι H.get w)(hD:jA ι H){L p:Operand}(B:o.op = .send L p){c x y:AV}{H':aa}(R:VR M ι c (a.eval L))(V:VR M ι x (a.eval p))
 (h:rJ H (some c) (some x)=some (y,H')):th P o a w λu w'=>hJ M ι H w y H' u w':=by
 unfold rJ at h
 split at h
 ·rename_i r x' W e2
  cases W;cases e2
  split at h
  ·rename_i cap e m
   obtain⟨⟨x6,Z⟩,h⟩:=cc.1 h
   cases h
   generalize J:a.eval L=cv at R
   cases R with | @ch _ _ l O Y=>
   obtain⟨s,t,arr,Q,N,F⟩:=vX S O m
   obtain⟨n,f,U,_⟩:=s5 m
   have hb:l.b<w.heap.size:=(dz.1 Q).1
   intro b k cs ops i rest hk T X
   obtain⟨es,K⟩:=ni (P:=P) (b:=b) (a:=a) (k:=k) (cs:=cs) (w:=w) (w':=w) (rest:=rest) (cases := #[Go.Conc.scase l.b (a.eval p) (.tuple #[])]) (shape := .send) hk T X (by simp[B]) (by simp[execOp,B,Go.Conc.scase,J])
   have G:=Go.Conc.step_lone_send_room K Q (by omega)
   obtain⟨k1,k2,k3⟩:=kP S hD O Y U (k':=s4 cap false (e++[x])) (o' := .chan cap (arr.push (a.eval p)) false (s+1) t false)
    (.inr (.inr ⟨cap,s+1,t,false,e++[x],arr.push (a.eval p),rfl,rfl,rfl,cV hb,by simp[N],λj z u d q=>by
     rcases cr j e.length with I | I
     ·rw[dY I]at d
      rw[qn (by omega)]at q
      exact F j z u d (by rw[<-q];exact ey (by omega))
     ·rw[fS I]at d
      have C:j - e.length=0:=by
       have:=(bL.1 d).1
       simp at this;omega
      rw[C]at d
      have D:j=arr.size:=by omega
      rw[D,Array.getElem?_push_size]at q
      simp at d q
      subst d q
      exact V⟩))
   refine⟨undef,_,⟨M,ι,.v rfl,k1,k2,k3⟩,?_⟩
   rw[Go.Conc.lone_eq_solo,G,Frame.finish_atR,T,Go.Conc.lone_eq_solo,r8]
   rfl
  ·cases h
 ·cases h
theorem Ax{M:Mem}{ι:Map}{x:AV}{u:Value}(ok b:Bool)(h:VR M ι x u):VR M ι (Hm ok x b) (Go.Conc.got ok u b):=by
 cases ok with
 | false=>exact h
 | true=>
  refine .tup (by simp) rfl λi c v d e=>?_
  match i with
  | 0=>simp at d e;subst d e;exact h
  | 1=>simp at d e;subst d e;exact .v rfl
  | i+2=>simp at d
theorem Ch{P:Program}{o:Oper}{a:Act}{H:aa}(O:cT M ι H.get w)(hD:jA ι H){t:TypeId}{V:Operand}{ok:Bool}(F:o.op = .recv t V ok){c y:AV}{H':aa}(hc:VR M ι c (a.eval V))
 (h:tZ P H t (some c) ok=some (y,H')):th P o a w λu w'=>hJ M ι H w y H' u w':=by
 unfold tZ at h
 split at h
 ·rename_i r z e1 D
  cases e1
  generalize T:a.eval V=cv at hc
  cases hc with | @ch _ _ l Q hz=>
  obtain⟨e,he,I⟩:=dL.1 D
  unfold wO at he
  split at he
  ·rename_i x6 e' G
   cases he
   unfold ep at I
   obtain⟨v0,W,Z⟩:=dL.1 I
   obtain⟨inf,hi,Y⟩:=dL.1 W
   have S:VR M ι z v0:=dO Z
   have p:(execOp a.eval o).run P w = .ok (.comm #[Go.Conc.rcase l.b v0] true (.recv ok)) w:=by
    simp[execOp,F,Go.Conc.rcase,T,run_underlying G,zeroValue,typeInfo,hi,Y]
   split at h
   ·rename_i cap X x J d
    cases h
    obtain⟨s,t',arr,N,m,v⟩:=vX O Q d
    obtain⟨n,f,hg,_⟩:=s5 d
    have hb:l.b<w.heap.size:=(dz.1 N).1
    have q:0<arr.size:=by rw[m];simp
    intro b k cs ops i rest U K R
    obtain⟨es,C⟩:=ni (P:=P) (b:=b) (a:=a) (k:=k) (cs:=cs) (w:=w) (w':=w) (rest:=rest) U K R (by simp[F]) p
    have B:=Go.Conc.step_lone_recv_buf ok C N q
    obtain⟨k1,k2,k3⟩:=kP O hD Q hz hg (k':=s4 cap X J) (o' := .chan cap (arr.extract 1 arr.size) X s (t'+1) false)
     (.inr (.inr ⟨cap,s,t'+1,X,J,arr.extract 1 arr.size,rfl,rfl,rfl,cV hb,by simp[m],λj z u L G=>by
      refine v (j+1) z u (by simpa using L) ?_
      have hj:=(bL.1 L).1
      rw[Array.getElem?_extract]at G
      rw[Nat.add_comm j 1]
      split at G
      ·exact G
      ·cases G⟩))
    refine⟨_,_,⟨M,ι,Ax ok true (v 0 x (arr.getD 0 undef) rfl (by simp[Array.getD,q])),k1,k2,k3⟩,?_⟩
    rw[Go.Conc.lone_eq_solo,B,Frame.finish_atR,K,Go.Conc.lone_eq_solo,r8]
    rfl
   ·rename_i cap d
    cases h
    obtain⟨s,t',arr,N,m,v⟩:=vX O Q d
    have ha:arr = #[]:=wu (by simpa using m)
    subst ha
    intro b k cs ops i rest U K R
    obtain⟨es,C⟩:=ni (P:=P) (b:=b) (a:=a) (k:=k) (cs:=cs) (w:=w) (w':=w) (rest:=rest) U K R (by simp[F]) p
    have B:=Go.Conc.step_lone_recv_shut ok C N
    refine⟨_,_,⟨M,ι,Ax ok false S,O,kb.refl,hD⟩,?_⟩
    rw[Go.Conc.lone_eq_solo,B,Frame.finish_atR,K,Go.Conc.lone_eq_solo]
    rfl
   ·cases h
  ·cases he
 ·cases h
theorem An{P:Program}{o:Oper}{a:Act}{w:World}{K:Act->World->Prop}{ops:Array Oper}{i:Nat}(u:ops[i]?=some o)(C:Region.wanted o (yielded ops a.tmps)=true)(b:Frame)
 (h:o.wpIn (FW b.roundOf) 0 P a w K (λ_ _ _=>False)) (rest:List Nat) (k:List Item) (cs:List Frame) :
 ∃B w',K B w'/\Steps P (lone (b.atR a (.inRegion ops (i :: rest) :: k)) cs w) (lone (b.atR B (.inRegion ops rest :: k)) cs w'):=by
 obtain⟨_,h⟩:=h
 have s:=stepGR_op (P:=P) (b:=b) (k:=k) (cs:=cs) (w:=w) (rest:=rest) u C
 have j : ∀v,(b.atR a (.inRegion ops (i :: rest) :: k)).finish v=b.atR (a.put o.dst v) (.inRegion ops rest :: k):=by
  intro v;rw[Frame.finish_atR,u];rfl
 have p : ∀n,(FW b.roundOf).room n:=λn _ h=>by simp[FW,Fence.wide]at h
 rw[show(FW b.roundOf).round=b.roundOf from rfl]at h
 unfold Oper.uponIn at h
 split at h
 ·rename_i v w' m
  refine⟨_,_,h,.one (step_lone_go ?_)⟩
  rw[s,<-j];simp[stepG.apply,m]
 ·rename_i w' m
  refine⟨_,_,h,.one (step_lone_go ?_)⟩
  rw[s,<-j];simp[stepG.apply,m]
 ·rename_i d w' m
  refine⟨_,_,h,.one (step_lone_go ?_)⟩
  have D:({ b.atR a (.inRegion ops (i :: rest) :: k)with defers:=d :: a.defers}:Frame).finish undef =
   b.atR ({ a with defers:=d :: a.defers}.put o.dst undef) (.inRegion ops rest :: k):=by
   have z:=Frame.finish_atR b { a with defers:=d :: a.defers} ops i rest k undef
   rw[u]at z;exact z
  rw[s];simp only[stepG.apply,Sem.runT_eq,m,GStep.bare_after]
  exact congrArg (λfr=>GStep.go { frame:=fr,callers:=cs,status := .running,dying:=none} w') D
 ·rename_i f args w' m
  obtain⟨_,G,h⟩:=h
  obtain⟨e,y,fr,q,t,_,F⟩:=h (b.atR a (.inRegion ops (i :: rest) :: k) :: cs) (p _)
  have c:step P (lone (b.atR a (.inRegion ops (i :: rest) :: k)) cs w) = .next (lone (Frame.enter P f args .normal) (b.atR a (.inRegion ops (i :: rest) :: k) :: cs) w'):=
   step_lone_go (by rw[s];simp[stepG.apply,m,Frame.atR])
  cases e with
  | returned v=>
   refine⟨_,_,q,Steps.trans (.one c) (Steps.trans (StepsIn.steps t) (.one ?_))⟩
   rw[<-j];exact step_leave_returned F
  | panicked chain=>exact q.elim
  | outgrown=>obtain⟨_,_,x⟩:=q;exact x.elim
 ·rename_i row args w' m
  obtain⟨_,h⟩:=h
  obtain⟨v,y,q,t⟩:=h (b.atR a (.inRegion ops (i :: rest) :: k)) cs (p _)
  have c:step P (lone (b.atR a (.inRegion ops (i :: rest) :: k)) cs w) = .next (lone (Frame.ofRow P row args .normal) (b.atR a (.inRegion ops (i :: rest) :: k) :: cs) w'):=
   step_lone_go (by rw[s];simp[stepG.apply,m,Frame.atR])
  refine⟨_,_,q,Steps.trans (.one c) ?_⟩
  rw[<-j];exact StepsIn.steps t
 ·rename_i l f tmps assign body w' m
  obtain⟨_,_,h⟩:=h
  obtain⟨e,y,q,t⟩:=h (b.atR a (.inRegion ops (i :: rest) :: k)) cs (p _)
  have c:step P (lone (b.atR a (.inRegion ops (i :: rest) :: k)) cs w) = .next (lone (Frame.round l f tmps assign body .normal) (b.atR a (.inRegion ops (i :: rest) :: k) :: cs) w'):=
   step_lone_go (by rw[s];simp[stepG.apply,m,Frame.atR])
  cases e with
  | returned v=>
   refine⟨_,_,q,Steps.trans (.one c) ?_⟩
   rw[<-j];exact StepsIn.steps t
  | panicked chain=>exact q.elim
  | outgrown=>obtain⟨_,_,x⟩:=q;exact x.elim
 ·exact h.elim
 ·exact h.elim
end
end
section
def dF(r:Ref)(b:List Loc):Map:=λq=>if q.d=r.d/\q.t=r.t/\q.g=r.g then b[q.k]? else none
structure mV (M:Mem) (w:World) (y:AV) (v:Value) (M':Mem) (w':World):Prop where
 os:w'.os=w.os
 tape:w'.tape=w.tape
 output:w'.output=w.output
 size:w.heap.size<=w'.heap.size
 old : ∀b,b<w.heap.size->w'.heap[b]?=w.heap[b]?
 mem : ∀b o x,M b o=some x->M' b o=some x
 sound : ∀b o x,M' b o=some x->w'.cell? ⟨b,o,none⟩=some x
 new : ∀b o x,M' b o=some x->M b o=some x\/w.heap.size<=b
 res : ∀r:Ref,∃ls:List Loc,ls.length=(ad r depth y []).2.length/\VR M' (dF r ls) (ad r depth y []).1 v /\
  (∀(k:Nat) l b,ls[k]?=some l->(ad r depth y []).2[k]?=some b->ib M' (dF r ls) w' l b/\w.heap.size<=l.b) /\
  ∀(i j:Nat) l l',ls[i]?=some l->ls[j]?=some l'->l.b=l'.b->i=j
def ea(P:Program)(f:FuncId)(args:List AV)(y:AV):Prop:=
 (∃fn,P.funcs[f]?=some fn/\(fn.name == "runtime.NumGoroutine")=false/\fn.body.isSome=true) /\
 ∀(M:Mem)(w:World)(us:List Value),(∀b o x,M b o=some x->w.cell? ⟨b,o,none⟩=some x)->fq M bB args us ->
  Calls P f us.toArray w λe w' =>∃v M',e = .returned v/\mV M w y v M' w'
def dC(P:Program):lb->List AV->aa->AV->aa->Prop
 | .fn f,args,H,y,H'=>
  (∃fn,P.funcs[f]?=some fn/\(fn.name == "runtime.NumGoroutine")=false/\fn.body.isSome=true) /\
  ∀(M:Mem)(ι:Map)(w:World)(us:List Value),cT M ι H.get w->jA ι H->fq M ι args us ->
   Calls P f us.toArray w λe w' =>∃v,e = .returned v/\hJ M ι H w y H' v w'
 | .yld r,args,H,y,H' =>∀(M:Mem)(ι:Map)(w:World)(us:List Value)(l:Loc),cT M ι H.get w->jA ι H->fq M ι args us->ι r=some l ->
  ∃fn tmps assign body,(Instr.yield l.b us.toArray).run P w = .ok (.round l.b fn tmps assign body) w /\
   RoundIn (FW none) 0 P l.b fn tmps assign body w λe w' =>∃v,e = .returned v/\hJ M ι H w y H' v w'
theorem pE{M M':Mem}{ι A:Map} : ∀(n:Nat)(x:AV)(u:Value),flat n x=true->VR M ι x u->VR M' A x u:=by
 intro n
 induction n with
 | zero=>intro x u h;simp[flat]at h
 | succ n f=>
  intro x u h q
  cases q with
  | v s=>exact .v s
  | agg m d=>
   simp only[flat,dh]at h
   exact .agg m λi c u b e=>f c u (h c (da b)) (d i c u b e)
  | tup p m d=>
   simp only[flat,dh]at h
   exact .tup p m λi c u b e=>f c u (h c (da b)) (d i c u b e)
  | ifc d=>exact .ifc (f _ _ (by simpa [flat] using h) d)
  | fn y t d j=>
   simp only[flat,bR,dh]at h
   exact .fn y t (λi c u b e=>f c u (h.1 c (da b)) (d i c u b e)) λi c u b e=>f c u (h.2 c (da b)) (j i c u b e)
  | yld=>simp[flat]at h
  | mp=>simp[flat]at h
  | ch=>simp[flat]at h
  | m7=>simp[flat]at h
  | cE=>simp[flat]at h
  | aD=>simp[flat]at h
  | dsl=>simp[flat]at h
  | ptr=>simp[flat]at h
  | iptr=>simp[flat]at h
theorem lz(r:Ref) : ∀(n m:Nat)(x:AV)(f:List ax),flat m x=true->ad r n x f=(x,f):=by
 intro n
 induction n with
 | zero=>intro m x f h;rfl
 | succ n j=>
  intro m x f h
  have b : ∀(m:Nat)(cs e:List AV),(∀c∈cs,flat m c=true)->cs.foldl (λ(p:List AV × List ax) c=>(p.1++[(ad r n c p.2).1],(ad r n c p.2).2)) (e,f)=(e++cs,f):=by
   intro m cs
   induction cs with
   | nil=>intro e _;simp
   | cons c cs i=>
    intro e q
    rw[lg,j m c f (q c (gu ..))]
    rw[i (e++[c]) (λd s=>q d (gv _ s))]
    simp
  cases m with
  | zero=>simp[flat]at h
  | succ m=>
   cases x with
   | agg cs=>
    simp only[flat,dh]at h
    have:=b m cs [] h
    simp only[ad]
    rw[this]
    simp
   | tup cs=>
    simp only[flat,dh]at h
    have:=b m cs [] h
    simp only[ad]
    rw[this]
    simp
   | nsl=>simp[flat]at h
   | fsl=>simp[flat]at h
   | ifc t x=>
    simp only[ad]
    rw[j m x f (by simpa [flat] using h)]
   | _=>rfl
theorem te{g:bD}{r q:Ref}{e:List ax}{b:ax}(h:jJ g r e q=some b):(q.d=r.d/\q.t=r.t/\q.g=r.g/\e[q.k]?=some b)\/(¬(q.d=r.d/\q.t=r.t/\q.g=r.g/\q.k<e.length)/\g q=some b):=by
 unfold jJ at h
 split at h
 ·rename_i c;exact .inl ⟨c.1,c.2.1,c.2.2.1,h⟩
 ·rename_i c;exact .inr ⟨c,h⟩
theorem s6{M ι g w}(H:cT M ι g w){r:Ref}(hq : ∀k,ι { r with k:=k}=none){y:AV}{v:Value}{M':Mem}{w':World}(h:mV M w y v M' w') :
 dZ M ι g w r (ad r depth y []).1 (ad r depth y []).2 v w':=by
 obtain⟨ls,hl,hv,Z,hi⟩:=h.res r
 have J : ∀q l,dF r ls q=some l->ι q=none:=by
  intro q l G
  unfold dF at G
  split at G
  ·rename_i hc
   have:q = { r with k:=q.k}:=by cases q;cases r;simp_all
   rw[this]
   exact hq _
  ·cases G
 have B : ∀q l,ι q=some l->(λq=>match ι q with | some l=>some l | none=>dF r ls q) q=some l:=by
  intro q l h;simp[h]
 have i : ∀q l,dF r ls q=some l->(λq=>match ι q with | some l=>some l | none=>dF r ls q) q=some l:=by
  intro q l h;simp[J q l h,h]
 have t : ∀q l,(λq=>match ι q with | some l=>some l | none=>dF r ls q) q=some l->ι q=some l\/(ι q=none/\dF r ls q=some l):=by
  intro q l h
  simp only at h
  split at h
  ·rename_i N D;exact .inl (by rw[D,h])
  ·rename_i S;exact .inr ⟨S,h⟩
 have m : ∀q b l,jJ g r (ad r depth y []).2 q=some b->(λq=>match ι q with | some l=>some l | none=>dF r ls q) q=some l ->
  (g q=some b/\ι q=some l)\/(w.heap.size<=l.b/\dF r ls q=some l/\ls[q.k]?=some l/\q = { r with k:=q.k}):=by
  intro q b l z s
  rcases te z with ⟨f,n,j,F⟩ | ⟨f,n⟩
  ·right
   have p:q = { r with k:=q.k}:=by cases q;cases r;simp_all
   have S:ι q=none:=by rw[p];exact hq _
   rcases t q l s with d | ⟨_,d⟩
   ·rw[S]at d;cases d
   ·have X:ls[q.k]?=some l:=by unfold dF at d;rw[if_pos ⟨f,n,j⟩]at d;exact d
    exact⟨(Z q.k l b X F).2,d,X,p⟩
  ·left
   obtain⟨Y,e,_⟩:=H.live q b n
   rcases t q l s with d | ⟨d,_⟩
   ·exact⟨n,d⟩
   ·rw[e]at d;cases d
 refine⟨M',λq=>match ι q with | some l=>some l | none=>dF r ls q,hv.mono (λ_ _ _ h=>h) _ i,?_,?_,?_⟩
 ·refine⟨h.sound,?_,?_⟩
  ·intro q b z
   rcases te z with ⟨f,n,j,F⟩ | ⟨f,n⟩
   ·have C:q.k<ls.length:=by rw[hl];exact(bL.1 F).1
    have I:ls[q.k]?=some ls[q.k]:=bG C
    obtain⟨c,x6⟩:=Z q.k _ b I F
    have U:dF r ls q=some ls[q.k]:=by unfold dF;rw[if_pos ⟨f,n,j⟩];exact I
    refine⟨_,i q _ U,?_⟩
    exact c.bm (λ_ _ _ h=>h) i rfl c.frozen
   ·obtain⟨l,D,c⟩:=H.live q b n
    refine⟨l,B q l D,c.bm h.mem B (h.old _ c.lt) ?_⟩
    intro o x Q
    rcases h.new _ _ _ Q with j | j
    ·exact c.frozen o x j
    ·exact absurd c.lt (Nat.not_lt.2 j)
  ·intro q W b O l N f n j F d
   rcases m q b l f j with ⟨u,K⟩ | ⟨u,K,a3,a4⟩<;>rcases m W O N n F with ⟨L,V⟩ | ⟨L,V,b3,b4⟩
   ·exact H.inj q W b O l N u L K V d
   ·obtain⟨Y,e,c⟩:=H.live q b u
    rw[K]at e;cases e
    exact absurd c.lt (by rw[d];exact Nat.not_lt.2 L)
   ·obtain⟨Y,e,c⟩:=H.live W O L
    rw[V]at e;cases e
    exact absurd c.lt (by rw[<-d];exact Nat.not_lt.2 u)
   ·have:=hi _ _ _ _ a3 b3 d
    rw[a4,b4,this]
 ·refine⟨h.os,h.tape,h.output,h.size,λb T _=>h.old b T,h.mem,B,?_,?_⟩
  ·intro q b l f j
   rcases m q b l f j with ⟨u,K⟩ | ⟨u,_⟩
   ·exact .inr ⟨q,b,l,u,K,rfl⟩
   ·exact .inl u
  ·intro b o x Q
   rcases h.new b o x Q with f | f
   ·exact .inl f
   ·exact .inr (.inl f)
 ·intro q R G
  simp only[R]
  unfold dF
  split
  ·rename_i hc
   have p:q = { r with k:=q.k}:=by cases q;cases r;simp_all
   have : ¬q.k<(ad r depth y []).2.length:=λC=>G q.k C p
   exact lX (by rw[hl];omega)
  ·rfl
theorem tJ{M ι g w}(d:cT M ι g w){r:Ref}{y:AV}{v:Value}{s M':Mem}{w':World}(m:flat depth y=true)(h:mV s w y v M' w'):dZ M ι g w r y [] v w':=by
 obtain⟨ls,z,j,u,B⟩:=h.res r
 rw[lz r depth depth y [] m]at j
 refine⟨M,ι,pE depth y v m j,?_,?_,λq e _=>e⟩
 ·rw[gk]
  refine⟨?_,?_,d.inj⟩
  ·intro b o x n
   have:=d.mem b o x n
   rw[World.cell?_of_block (w:=w) (h.old _ (World.block_lt_of_cell? w ⟨b,o,none⟩ this))]
   exact this
  ·intro q b e
   obtain⟨l,i,c⟩:=d.live q b e
   exact⟨l,i,c.bm (λ_ _ _ h=>h) (λ_ _ h=>h) (h.old _ c.lt) c.frozen⟩
 ·rw[gk]
  exact⟨h.os,h.tape,h.output,h.size,λb f _=>h.old b f,λ_ _ _ h=>h,λ_ _ h=>h,λq b l p t => .inr ⟨q,b,l,p,t,rfl⟩,λ_ _ _ h => .inl h⟩
theorem zB{M M':Mem}{ι A:Map}{e x:AV}{u:Value}{j:Nat}(d:flat depth e=true)(b:e.cells[j]?=some x)(h:VR M ι x u):VR M' A x u:=by
 cases e with
 | agg cs=>
  have f:x∈cs:=da b
  have : ∀c∈cs,flat 7 c=true:=by simpa [flat,depth] using d
  exact pE 7 x u (this x f) h
 | _=>
  simp only[AV.cells]at b
  cases j with
  | zero=>simp at b;subst b;exact pE depth _ u d h
  | succ j=>simp at b
theorem zd(r:Ref) : ∀(n:Nat)(x:AV)(f:List ax),pq n x=true ->∃new,(ad r n x f).2=f++new/\(∀b∈new,0<b.esz/\b.arr=true/\b.cS=false /\∀e∈b.es,flat depth e=true) /\
 ∀(M M':Mem)(ι:Map)(u:Value),VR M ι (ad r n x f).1 u->VR M' ι (ad r n x f).1 u:=by
 intro n
 induction n with
 | zero=>intro x f h;simp[pq]at h
 | succ n R=>
  intro x f h
  have y : ∀(cs B:List AV)(f:List ax),(∀c∈cs,pq n c=true) ->∃(new:List ax) (zs:List AV),cs.foldl (λ(p:List AV × List ax) c=>(p.1++[(ad r n c p.2).1],(ad r n c p.2).2)) (B,f)=(B++zs,f++new) /\
   (∀b∈new,0<b.esz/\b.arr=true/\b.cS=false /\∀e∈b.es,flat depth e=true) /\∀(M M':Mem)(ι:Map)(z:AV),z∈zs ->∀u,VR M ι z u->VR M' ι z u:=by
   intro cs
   induction cs with
   | nil=>intro B f _;exact⟨[],[],by simp,λb q=>by simp at q,λ_ _ _ z D=>by simp at D⟩
   | cons c cs N=>
    intro B f s
    obtain⟨n1,Y,a2,Z⟩:=R c f (s c (gu ..))
    obtain⟨n2,zs,b1,X,S⟩:=N (B++[(ad r n c f).1]) (f++n1) λd V=>s d (gv _ V)
    refine⟨n1++n2,(ad r n c f).1 :: zs,?_,?_,?_⟩
    ·rw[lg]
     simp only
     rw[Y,b1]
     simp
    ·intro b q
     rcases fc.1 q with q | q
     ·exact a2 b q
     ·exact X b q
    ·intro M M' ι z D u m
     rcases dg.1 D with rfl | D
     ·exact Z M M' ι u m
     ·exact S M M' ι z D u m
  cases x with
  | v x=>exact⟨[],by simp[ad],λb q=>by simp at q,λM M' ι u m=>by simp only[ad]at m ⊢;cases m with | v F=>exact .v F⟩
  | agg cs=>
   simp only[pq,dh]at h
   obtain⟨new,zs,C,G,H⟩:=y cs [] f h
   simp only[ad]
   rw[C]
   refine⟨new,rfl,G,λM M' ι u m=>?_⟩
   simp only[mZ]at m ⊢
   cases m with | agg O I=>
   exact .agg O λi c u s Q=>H M M' ι c (da s) u (I i c u s Q)
  | tup cs=>
   simp only[pq,dh]at h
   obtain⟨new,zs,C,G,H⟩:=y cs [] f h
   simp only[ad]
   rw[C]
   refine⟨new,rfl,G,λM M' ι u m=>?_⟩
   simp only[mZ]at m ⊢
   cases m with | tup W O I=>
   exact .tup W O λi c u s Q=>H M M' ι c (da s) u (I i c u s Q)
  | fsl z es cap=>
   simp only[pq,bR,bne_iff_ne,ne_eq,dh]at h
   simp only[ad]
   rw[if_neg h.1]
   refine⟨[⟨z,es,true,false⟩],rfl,?_,λM M' ι u m=>?_⟩
   ·intro b q
    rw[kE.1 q]
    exact⟨ng h.1,rfl,rfl,h.2⟩
   ·cases m with | aD T q F ha s U L D=>exact .aD T q F ha s U L D
  | cE z es cap=>
   have K:es=[]:=by simpa [pq] using h
   subst K
   refine⟨[],by simp[ad],λb q=>by simp at q,λM M' ι u m=>?_⟩
   simp only[ad]at m ⊢
   cases m with | cE cell F s L hm he I=>exact .cE cell F s L (λi j C=>by simp at C) he λi j e x C=>by simp at C
  | ifc t x=>
   obtain⟨new,C,G,H⟩:=R x f (by simpa [pq] using h)
   simp only[ad]
   exact⟨new,C,G,λM M' ι u m=>by cases m with | ifc J=>exact .ifc (H M M' ι _ J)⟩
  | _=>simp[pq]at h
theorem mV.own{M H M':Mem}{w w':World}{y:AV}{v:Value}(z : ∀b o x,M b o=some x->w.cell? ⟨b,o,none⟩=some x)(L:pq depth y=true)(h:mV H w y v M' w'):mV M w y v M w':=by
 have q : ∀b o x,M b o=some x->b<w.heap.size:=λb o x c=>World.block_lt_of_cell? w ⟨b,o,none⟩ (z b o x c)
 refine⟨h.os,h.tape,h.output,h.size,h.old,λ_ _ _ h=>h,?_,λ_ _ _ h => .inl h,λr=>?_⟩
 ·intro b o x c
  rw[World.cell?_of_block (w:=w) (h.old _ (q b o x c))]
  exact z b o x c
 ·obtain⟨ls,Q,N,O,D⟩:=h.res r
  obtain⟨new,G,I,J⟩:=zd r depth y [] L
  refine⟨ls,Q,J M' M _ v N,λk l b F d=>?_,D⟩
  obtain⟨m,n⟩:=O k l b F d
  have p:b∈new:=by rw[G,mZ]at d;exact da d
  obtain⟨S,V,U,R⟩:=I b p
  have f : ∀o x,M l.b o=some x->b.cS=true/\o<b.es.length * b.esz:=λo x c=>absurd (q _ _ _ c) (Nat.not_lt.2 n)
  refine⟨⟨m.esz,λt=>?_,λt=>by omega,f⟩,n⟩
  obtain⟨B,⟨arr,T,fz,d1,d2,d3,d4⟩,C,K,_⟩:=m.cellsOk t
  refine⟨B,⟨arr,T,fz,d1,d2,d3,λi j e x s c=>?_⟩,C,K,f⟩
  obtain⟨u,f1,f2,f3⟩:=d4 i j e x s c
  exact⟨u,f1,f2,zB (R e (da s)) c f3⟩
theorem qp{P:Program}{f:FuncId}(h : ∃fn,P.funcs[f]?=some fn/\(fn.name == "runtime.NumGoroutine")=false/\fn.body.isSome=true)(args:Array Value)(w:World) :
 (callFunc f args).run P w = .ok (.enter f args) w:=by
 obtain⟨fn,d,i,c⟩:=h
 have j:fn.body≠none:=by intro e;rw[e]at c;cases c
 have b:fn.name ≠ "runtime.NumGoroutine" := by simpa using i
 simp[callFunc,d,b,j]
theorem qa{P:Program}{a:Act}{o:Oper}{c:Call}{e:Operand}(h:o.op = .call c)(j:c.callee = .value e){f:FuncId}{first b:Array Value}(d:a.eval e = .func (.func f) first b)
 (i : ∃fn,P.funcs[f]?=some fn/\(fn.name == "runtime.NumGoroutine")=false/\fn.body.isSome=true) (w:World) :
 (execOp a.eval o).run P w = .ok (.enter f (first++c.args.map a.eval++b)) w:=by
 simp[execOp,h,resolve,j,d,Deferred.ofValue,invoke,qp i]
theorem wF{M ι g w}(f:cT M ι g w){c e:List AV}{us:List Value}(h:c.mapM (view g depth)=some e)(d:fq M ι c us):fq (eU M ι g w (aP g c)) bB e us:=
 ⟨by rw[cW h];exact d.1,λi y u j n=>by
  obtain⟨x,b,m⟩:=gV h i y j
  refine pf f depth x y u m ?_ (d.2 i x u b n)
  intro r p
  exact dt.2 ⟨x,da b,p⟩⟩
theorem VR.Fk{M ι}{f:FuncId}{a b:List AV}{u:Value}(h:VR M ι (.fn (.func f) a b) u) : ∃m j,u = .func (.func f) m j/\fq M ι a m.toList/\fq M ι b j.toList:=by
 cases h with | fn q p n e=>
 exact⟨_,_,rfl,⟨by simpa using q,λi x u c d=>n i x u c (by simpa using d)⟩,⟨by simpa using p,λi x u c d=>e i x u c (by simpa using d)⟩⟩
theorem rU(a b c:Array Value):(a.toList++b.toList++c.toList).toArray=a++b++c:=by
 apply rl;simp
section
variable{E:Env}{M:Mem}{ι:Map}{g:bD}{w:World}{r:Ref}{a:Act}{tm:List AV}{o:Oper}
theorem CO(n:cT M ι g w)(O:TR M ι tm a)(S : ∀k,ι { r with k:=k}=none){pc:FuncId->List AV->Option AV}(H : ∀f F y,pc f F=some y->ea E.P f F y)
 {c:Call} {Q:Operand} (ho:o.op = .call c) (s:c.callee = .value Q) {args:List AV} (q:c.args.toList.mapM (ak tm)=some args) {x:AV} {T:List ax} (h:iq E pc g r (ak tm Q) args=some (x,T)) :
 cf E.P o a w λu w'=>dZ M ι g w r x T u w':=by
 unfold iq at h
 split at h
 ·rename_i Z first b G
  split at h
  ·cases h
  ·split at h
   ·rename_i F I
    split at h
    ·rename_i y hy
     obtain⟨i,h⟩:=cc.1 h
     injection h with h
     obtain⟨hf,p⟩:=H Z F y hy
     obtain⟨a',U,K,N,J⟩:=(ao O G).Fk
     have j:=fN O q
     have D:fq M ι (first++args++b) (a'.toList++(c.args.map a.eval).toList++U.toList):=(N.append (by simpa using j)).append J
     obtain⟨B,V⟩:=nx (R:=aP g (first++args++b)) n
     have m:=wF n I D
     have d:=p (eU M ι g w (aP g (first++args++b))) w _ (mS n.mem) m
     rw[rU]at d
     refine cf.sC (qa ho s K hf w) (d.mono λe w' ⟨v,M',he,hend⟩=>⟨v,he,?_⟩)
     by_cases t:flat depth y=true
     ·have Y:=lz r depth depth y [] t
      rw[Y]at h
      injection h with W X
      subst W;subst X
      exact tJ n t hend
     ·by_cases C:pq depth y=true
      ·have:=s6 n S (hend.own n.mem C)
       rw[h]at this
       exact this
      have L:gM g (aP g (first++args++b))=true:=by
       simp only[iK,bR]at i
       rcases i with (s | s) | s
       ·exact absurd s t
       ·exact s
       ·exact absurd s.2 C
      have z:=xG L
      rw[z]at B
      have:=s6 B S hend
      rw[h]at this
      exact dZ.after z n this
    ·cases h
   ·cases h
 ·cases h
theorem wC{H:aa}{d C:Nat}(N:cT M ι H.get w)(Q:jA ι H)(S:TR M ι tm a){pc:FuncId->List AV->Option AV}(Z : ∀f D y,pc f D=some y->ea E.P f D y)
 {tc:lb->List AV->aa->bk} (I : ∀f D H y H',tc f D H=some (y,H')->dC E.P f D H y H')
 {c:Call} {V:Operand} (ho:o.op = .call c) (X:c.callee = .value V) {args:List AV} (p:c.args.toList.mapM (ak tm)=some args) {x:AV} {H':aa}
 (h:ju E pc tc H ⟨d,C,H.gen d C,0⟩ (ak tm V) args=some (x,H')):cf E.P o a w λu w'=>hJ M ι H w x H' u w':=by
 unfold ju at h
 split at h
 ·rename_i fi first i G
  obtain⟨a',b',K,Y,Kn⟩:=(ao S G).Fk
  have m:=fN S p
  have z:fq M ι (first++args++i) (a'.toList++(c.args.map a.eval).toList++b'.toList):=(Y.append (by simpa using m)).append Kn
  split at h
  ·obtain⟨W,L⟩:=I _ _ _ _ _ h
   have j:=L M ι w _ N Q z
   rw[rU]at j
   exact cf.sC (qa ho X K W w) (j.mono λe w' ⟨v,he,hend⟩=>⟨v,he,hend⟩)
  ·split at h
   ·rename_i D x6
    simp only[aC]at h
    obtain⟨y,F,h⟩:=h
    injection h with h1 h2
    obtain⟨W,B⟩:=Z fi D y F
    obtain⟨T,O⟩:=nx (R:=aP H.get (first++args++i)) N
    have t:=wF N x6 z
    have j:=B (eU M ι H.get w (aP H.get (first++args++i))) w _ (mS N.mem) t
    rw[rU]at j
    refine cf.sC (qa ho X K W w) (j.mono λe w' ⟨v,M',he,hend⟩=>⟨v,he,?_⟩)
    have U:jA ι (aT H (aP H.get (first++args++i))):=by
     intro q l hq
     rw[aa.dq]
     exact Q q l hq
    have n:=s6 (r:=⟨d,C,H.gen d C,0⟩) T (λk=>Q.fresh d C k) hend
    rw[<-aa.bu]at n
    have J:H.gen d C=(aT H (aP H.get (first++args++i))).gen d C:=(aa.dq _ _ _ _).symm
    have key:hJ (eU M ι H.get w (aP H.get (first++args++i))) ι (aT H (aP H.get (first++args++i))) w x H' v w':=by
     subst h1;subst h2
     rw[J]at n ⊢
     exact n.HO U
    obtain⟨M2,Ko,k1,k2,k3,k4⟩:=key
    refine⟨M2,Ko,k1,k2,?_,k4⟩
    rw[<-aa.bu]at O
    exact O.trans k3
   ·cases h
 ·rename_i q G
  have m:=fN S p
  have F:=ao S G
  generalize hu:a.eval V=u at F
  cases F with | yld hr hz=>
  rename_i l
  obtain⟨fn,tmps,assign,body,F,s⟩:=I _ _ _ _ _ h M ι w _ l N Q m hr
  refine cf.CY (l:=l.b) ?_ s
  have e1:(c.args.map a.eval:Array Value)=(c.args.toList.map a.eval).toArray:=by rw[<-yr];simp
  rw[<-e1]at F
  simp[execOp,ho,resolve,X,hu,Deferred.ofValue,invoke,F]
 ·cases h
end
end
section
theorem VR.cut{M M':Mem}{ι:Map}{e:AV}{U:Value}(S:VR M ι e U) : ∀ {A:Map} {u:Value},VR M' A e u->(∀q l,ι q=some l->A q=some l)->VR M' ι e u:=by
 induction S with
 | v h=>intro A u h d;cases h with | v H=>exact .v H
 | agg V _ x=>
  intro A u h d
  cases h with | agg F s=>
  refine .agg F λi c u j C=>?_
  have D:=(bL.1 j).1
  exact x i c _ j (ey (by omega)) (s i c u j C) d
 | tup I V _ x=>
  intro A u h d
  cases h with | tup K F s=>
  refine .tup K F λi c u j C=>?_
  have D:=(bL.1 j).1
  exact x i c _ j (ey (by omega)) (s i c u j C) d
 | cE cell H j J hm he _ x=>
  intro A u h d
  cases h with | cE cell H j J hm he s=>exact .cE cell H j J hm he s
 | aD m O H Q j R J I=>
  intro A u h d
  have n:=d _ _ m
  cases h with | aD b t B p z y G f=>
  rw[n]at b
  cases b
  exact .aD m t B p z y G f
 | dsl m O H Q j R J I=>
  intro A u h d
  have n:=d _ _ m
  cases h with | dsl b t B p z y G f=>
  rw[n]at b
  cases b
  exact .dsl m t B p z y G f
 | ptr m I=>
  intro A u h d
  have n:=d _ _ m
  cases h with | ptr b f=>
  rw[n]at b
  cases b
  exact .ptr m f
 | iptr cell hm he _ x=>
  intro A u h d
  cases h with | iptr cell hm he s=>exact .iptr cell hm he s
 | fn Q O _ _ x L=>
  intro A u h d
  cases h with | fn p t s N=>
  refine .fn p t (λi c u j C=>?_) λi c u j C=>?_
  ·have D:=(bL.1 j).1
   exact x i c _ j (ey (by omega)) (s i c u j C) d
  ·have D:=(bL.1 j).1
   exact L i c _ j (ey (by omega)) (N i c u j C) d
 | ifc _ x=>intro A u h d;cases h with | ifc s=>exact .ifc (x s d)
 | yld m I=>
  intro A u h d
  have n:=d _ _ m
  cases h with | yld b f=>
  rw[n]at b
  cases b
  exact .yld m f
 | mp m I=>
  intro A u h d
  have n:=d _ _ m
  cases h with | mp b f=>
  rw[n]at b
  cases b
  exact .mp m f
 | ch m I=>
  intro A u h d
  have n:=d _ _ m
  cases h with | ch b f=>
  rw[n]at b
  cases b
  exact .ch m f
 | m7 n=>
  intro A u h d
  cases h with | m7 T=>exact .m7 T
section
variable{M M':Mem}{ι A:Map}{w w':World}{l:Loc}{k:ax}
theorem cy.cut(v:cy M ι w l k)(c:cy M' A w' l k)(s : ∀q l,ι q=some l->A q=some l):cy M' ι w' l k:=by
 obtain⟨f,_,_,_,_,_,m⟩:=v.heap
 obtain⟨arr,T,fz,n,p,t,B⟩:=c.heap
 refine⟨c.esz,⟨arr,T,fz,n,p,t,λi j e x d b=>?_⟩,c.len,c.cells,c.frozen⟩
 obtain⟨C,_,_,v0⟩:=m i j e x d b
 obtain⟨u,y,z,v1⟩:=B i j e x d b
 refine⟨u,y,z,v0.cut v1 ?_⟩
 unfold ax.map
 split
 ·exact λ_ _ h=>h
 ·exact s
theorem tf.cut(x:tf M ι w l k)(c:tf M' A w' l k)(m : ∀q l,ι q=some l->A q=some l):tf M' ι w' l k:=by
 obtain⟨G,D,s,u,z,d,H,_,_,b,_,_,_,_,_,v0,_⟩:=x
 obtain⟨n,nt,ps,as,h,tm,r,i,j,e,p,F,f,C,y,v,B⟩:=c
 rw[e]at b
 simp only[q9,AV.lp.injEq]at b
 obtain⟨_,⟨_,_,_,_,_,rfl⟩,_⟩:=b
 exact⟨n,nt,ps,as,h,tm,r,i,j,e,p,F,f,C,y,λt=>(v0 t).cut (v t) m,B⟩
theorem yi.cut(G:yi M ι w l k)(c:yi M' A w' l k)(D : ∀q l,ι q=some l->A q=some l):yi M' ι w' l k:=by
 obtain⟨j,d,_,_,m,_,O,v0⟩:=G
 obtain⟨f,entries,x,z,e,F,s,v⟩:=c
 rw[e]at m
 simp only[q9,true_and]at m
 subst m
 refine⟨f,entries,x,z,e,F,s,λi h N b n=>?_⟩
 obtain⟨C,K,t,H,I,B⟩:=v i h N b n
 have J:=(bL.1 b).1
 obtain⟨y,u,p,_,L,_⟩:=v0 i h _ b (ey (by omega))
 rw[t]at p
 simp only[AV.tup.injEq,q9]at p
 obtain⟨_,rfl,_⟩:=p
 exact⟨C,K,t,H,L.cut I D,B⟩
theorem ti.cut(z:ti M ι w l k)(c:ti M' A w' l k)(p : ∀q l,ι q=some l->A q=some l):ti M' ι w' l k:=by
 obtain⟨_,_,_,_,f,h,_,_,d,_,D,v0⟩:=z
 obtain⟨cap,s,r,n,buf,arr,j,m,e,t,y,v⟩:=c
 rw[e]at d
 simp only[q9,true_and]at d
 obtain⟨_,_,rfl⟩:=d
 refine⟨cap,s,r,n,buf,arr,j,m,e,t,y,λi x u b B=>?_⟩
 have C:=(bL.1 b).1
 exact(v0 i x _ b (ey (by omega))).cut (v i x u b B) p
theorem gw.cut(d:gw M ι w l k)(c:gw M' A w' l k)(f : ∀q l,ι q=some l->A q=some l):gw M' ι w' l k:=by
 rcases d with d | d | d<;>rcases c with c | c | c
 ·exact .inl (d.cut c f)
 ·obtain⟨_,_,_,_,_,_,_,_,_,b,_⟩:=d
  obtain⟨_,_,_,_,e,_⟩:=c
  rw[e]at b;simp at b
 ·obtain⟨_,_,_,_,_,_,_,_,_,b,_⟩:=d
  obtain⟨_,_,_,_,_,_,_,_,e,_⟩:=c
  rw[e]at b;simp at b
 ·obtain⟨_,_,_,_,_,_,_,_,_,b,_⟩:=c
  obtain⟨_,_,_,_,e,_⟩:=d
  rw[e]at b;simp at b
 ·exact .inr (.inl (d.cut c f))
 ·obtain⟨_,_,_,_,b,_⟩:=d
  obtain⟨_,_,_,_,_,_,_,_,e,_⟩:=c
  rw[e]at b;simp at b
 ·obtain⟨_,_,_,_,_,_,_,_,_,b,_⟩:=c
  obtain⟨_,_,_,_,_,_,_,_,e,_⟩:=d
  rw[e]at b;simp at b
 ·obtain⟨_,_,_,_,b,_⟩:=c
  obtain⟨_,_,_,_,_,_,_,_,e,_⟩:=d
  rw[e]at b;simp at b
 ·exact .inr (.inr (d.cut c f))
theorem ib.cut(d:ib M ι w l k)(c:ib M' A w' l k)(b : ∀q l,ι q=some l->A q=some l):ib M' ι w' l k:=
 ⟨c.esz,λh=>(d.cellsOk h).cut (c.cellsOk h) b,λh=>(d.objOk h).cut (c.objOk h) b,c.frozen⟩
theorem Bb{H H':aa}(f:cT M ι H.get w)(n:jA ι H){y:AV}{v:Value}(t:flat depth y=true)(B : ∀q k,H.get q=some k->H'.get q=some k)(h:hJ M ι H w y H' v w'):hJ M ι H w y H v w':=by
 obtain⟨z,m,p,d,b,C⟩:=h
 refine⟨z,ι,pE depth y v t p,⟨d.mem,λq k j=>?_,f.inj⟩,⟨b.os,b.tape,b.output,b.size,b.chg,b.mem,λ_ _ h=>h,λq k l s x => .inr ⟨q,k,l,s,x,rfl⟩,b.new⟩,n⟩
 obtain⟨l,i,u⟩:=f.live q k j
 obtain⟨D,c,e⟩:=d.live q k (B q k j)
 have:=b.map q l i
 rw[this]at c
 cases c
 exact⟨l,i,u.cut e b.map⟩
theorem wE{u v:Value}(h:Aa u v=true):u=v:=by
 unfold Aa at h
 split at h
 ·simp at h;rw[h]
 ·simp at h;rw[h.1,h.2]
 ·simp at h;rw[h]
 ·simp only[bR]at h
  rw[eV h.1,eV h.2]
 ·rfl
 ·rfl
 ·cases h
theorem jj{f:AV->AV->Bool}(e : ∀x y,f x y=true->x=y) : ∀(c b:List AV),c.length=b.length->((c.zip b).all λp=>f p.1 p.2)=true->c=b:=by
 intro c
 induction c with
 | nil=>intro b h _;exact(rj h.symm).symm
 | cons x c i=>
  intro b h d
  cases b with
  | nil=>simp at h
  | cons y b=>
   simp only[yu,pS,bR]at d
   rw[e x y d.1,i b (by simpa using h) d.2]
theorem nk{r r':Ref}(h:sg r r'=true):r=r':=by
 unfold sg at h
 simp only[bR]at h
 cases r;cases r'
 simp only[Ref.mk.injEq]
 exact⟨eV h.1.2,eV h.1.1.1,eV h.1.1.2,eV h.2⟩
theorem DU : ∀(n:Nat)(x y:AV),oG n x y=true->x=y:=by
 intro n
 induction n with
 | zero=>intro x y h;simp[oG]at h
 | succ n b=>
  intro x y h
  unfold oG at h
  split at h
  ·rw[wE h]
  ·simp only[bR]at h
   rw[jj b _ _ (eV h.1) h.2]
  ·simp only[bR]at h
   rw[jj b _ _ (eV h.1) h.2]
  ·simp only[bR,decide_eq_true_eq]at h
   rw[jj b _ _ (eV h.1.2) h.2,eV h.1.1.1,h.1.1.2]
  ·simp only[bR,decide_eq_true_eq]at h
   rw[nk h.1.1.1,eV h.1.1.2,eV h.1.2,h.2]
  ·simp only[bR,decide_eq_true_eq]at h
   rw[nk h.1.1.1,eV h.1.1.2,eV h.1.2,h.2]
  ·simp only[bR]at h
   rw[nk h.1.1,eV h.1.2,eV h.2]
  ·rw[nk h]
  ·rw[nk h]
  ·simp only[bR]at h
   rw[eV h.1.1,jj b _ _ (eV h.1.2.1) h.1.2.2,jj b _ _ (eV h.2.1) h.2.2]
  ·simp only[bR]at h
   rw[eV h.1,b _ _ h.2]
  ·cases h
theorem zO{k k':ax}(h:wb k k'=true):k=k':=by
 unfold wb at h
 simp only[bR,beq_iff_eq]at h
 cases k;cases k'
 simp only[ax.mk.injEq]
 exact⟨eV h.1.1.1.1,jj (DU 8) _ _ (eV h.1.2) h.2,h.1.1.1.2,h.1.1.2⟩
theorem get_mem : ∀(H:aa)(q:Ref)(k:ax),H.get q=some k ->∃b,(q,b)∈H:=by
 intro H
 induction H with
 | nil=>intro q k h;cases h
 | cons p H f=>
  obtain⟨r,b⟩:=p
  intro q k h
  simp only[aa.get]at h
  split at h
  ·rename_i e;subst e;exact⟨b,gu ..⟩
  ·obtain⟨c,d⟩:=f q k h
   exact⟨c,gv _ d⟩
theorem xD{H H':aa}(h:sQ H H'=true)(q:Ref)(k:ax)(d:H.get q=some k):H'.get q=some k:=by
 obtain⟨b,e⟩:=get_mem H q k d
 have:=dh.1 h _ e
 simp only[d]at this
 split at this
 ·cases this
 ·rename_i k' c
  rw[c,zO this]
theorem wA{b:Bool}{sm:yg}{H H':aa}{c:bk}{y:AV}(h:kG b sm H c=some (y,H')):c=some (y,H') \/∃d,H'=H/\c=some (y,d)/\flat depth y=true /\∀q k,H.get q=some k->d.get q=some k:=by
 unfold kG at h
 split at h
 ·rename_i f d
  obtain⟨e,h⟩:=cc.1 h
  cases h
  exact .inr ⟨d,rfl,rfl,(lW.1 e).1,(rF.1 (lW.1 e).2).elim xD (sm.ok _ _)⟩
 ·exact .inl h
end
end
section
theorem nL(l:List AV)(d t:Nat)(x:AV):cm (qH l d x) t=if t=d then x else cm l t:=by
 induction l generalizing d t with
 | nil=>
  induction d generalizing t with
  | zero=>cases t<;>simp[qH,cm]
  | succ d b=>
   cases t with
   | zero=>simp[qH,cm]
   | succ t=>simp[qH,cm,b]
 | cons y l b=>
  cases d with
  | zero=>cases t<;>simp[qH,cm]
  | succ d=>
   cases t with
   | zero=>simp[qH,cm]
   | succ t=>simp[qH,cm,b]
theorem TR.put{M ι tm a}(f:TR M ι tm a){nt:Nat}(e:a.tmps.size=nt){c:Option Tmp}{x:AV}{tm':List AV}(h:bl nt tm c x=some tm'){u:Value}(i:VR M ι x u) :
 TR M ι tm' (a.put c u)/\(a.put c u).tmps.size=nt:=by
 unfold bl at h
 split at h
 ·injection h with h
  subst h
  exact⟨f,e⟩
 ·rename_i d
  obtain⟨j,h⟩:=cc.1 h
  injection h with h
  subst h
  refine⟨⟨?_⟩,by simp[Act.put,e]⟩
  intro t
  rw[nL]
  simp only[Act.put,pb]
  by_cases b:t=d
  ·subst b
   rw[if_pos rfl,rk (by rw[e];exact j)]
   exact i
  ·rw[if_neg b,ou (jB b),<-pb]
   exact f.at_ t
theorem eb{M ι tm a}(s:TR M ι tm a){ops:Array Oper}{o:Oper}{b:Bool}(h:wanted ops tm o=some b):Region.wanted o (yielded ops a.tmps)=b:=by
 unfold wanted at h
 unfold Region.wanted
 split at h
 ·rename_i m
  injection h with h
  subst h
  rw[m]
 ·rename_i j e m
  rw[m]
  simp only
  split at h
  ·rename_i t f
   have d:=s.at_ t
   rw[pb]at d
   split at h
   ·rename_i c p
    injection h with h
    subst h
    rw[p]at d
    have:a.tmps[t]?=some (.bool c):=by
     cases i:a.tmps[t]? with
     | none=>rw[i]at d;cases d
     | some v=>rw[i]at d;simp only[bQ]at d;cases d;rfl
    simp only[yielded,f,cQ,this]
    cases c<;>cases e<;>rfl
   ·rename_i u p
    rw[p]at d
    obtain⟨q,h⟩:=cc.1 h
    injection h with h
    subst h
    have n:u = #[]:=by simpa using q
    subst n
    have:yielded ops a.tmps j=none:=by
     simp only[yielded,f,cQ]
     cases i:a.tmps[t]? with
     | none=>rfl
     | some v=>
      rw[i]at d
      simp only[bQ]at d
      cases d
      rfl
    rw[this]
    rfl
   ·cases h
  ·rename_i f
   injection h with h
   subst h
   simp only[yielded,f,rD]
   rfl
section
variable{E:Env}{M:Mem}{ι:Map}{g:bD}{w:World}{r:Ref}{a:Act}{tm:List AV}{o:Oper}
theorem iY{x:Option AV}{y:AV}{b:List ax}(h:fa x=some (y,b)):x=some y/\b=[]:=by
 simp only[fa,aC]at h
 obtain⟨z,d,h⟩:=h
 injection h with c e
 exact⟨by rw[d,c],e.symm⟩
theorem cf.same{s:Sem Value}(d:cT M ι g w)(f : ∀b,b=a.eval->execOp b o=(do pure (Next.value (<-s)))){x:AV}{c:List ax}(h:c=[] /\∃u,s.run E.P w = .ok u w/\VR M ι x u) :
 cf E.P o a w λu w'=>dZ M ι g w r x c u w':=by
 obtain⟨rfl,u,i,e⟩:=h
 exact cf.ef (by rw[f a.eval rfl];exact se i) (dZ.same d e)
theorem cf.made{s:Sem Value}(f : ∀b,b=a.eval->execOp b o=(do pure (Next.value (<-s)))){x:AV}{c:List ax}(h : ∃u w',s.run E.P w = .ok u w'/\dZ M ι g w r x c u w') :
 cf E.P o a w λu w'=>dZ M ι g w r x c u w':=by
 obtain⟨u,w',d,e⟩:=h
 exact cf.ef (by rw[f a.eval rfl];exact se d) e
theorem iN(ps:Array (Nat × Operand))(b:Operand->Value):(ps.map λ(p:Nat × Operand)=>(p.1,b p.2)).toList=ps.toList.map λp=>(p.1,b p.2):=by simp
theorem vI{b:Type}{l:List b}(h:l.length=1) : ∃a,l=[a]:=List.length_eq_one_iff.1 h
theorem mM{c:Type}{l:List c}(h:l.length=2) : ∃a b,l=[a,b]:=by
 match l,h with
 | [a,b],_=>exact⟨a,b,rfl⟩
theorem cf.mono{P:Program}{Q b:Value->World->Prop}(h:cf P o a w Q)(c : ∀u w',Q u w'->b u w'):cf P o a w b:=
 λro K R e=>h ro K R λu w' d=>e u w' (c u w' d)
theorem cy.cS{l:Loc}{k:ax}(h:cy M ι w l k):cy M ι w l { k with cS:=true} :=
 ⟨h.esz,h.heap,h.len,h.cells,λo x b=>⟨rfl,(h.frozen o x b).2⟩⟩
theorem ib.cS{l:Loc}{k:ax}(h:ib M ι w l k):ib M ι w l { k with cS:=true} :=
 ⟨h.esz,λb=>(h.cellsOk b).cS,λb=>(h.objOk b).same rfl rfl rfl,λo x c=>⟨rfl,(h.frozen o x c).2⟩⟩
theorem pN{f:List ax}{q:Ref}{c:ax}(h:jJ g r (f.map λk => { k with cS:=true}) q=some c) : ∃b,jJ g r f q=some b/\(c=b\/c = { b with cS:=true}):=by
 unfold jJ at h ⊢
 simp only[pT]at h
 split at h
 ·rename_i d
  rw[if_pos d]
  simp only[fU,aC]at h
  obtain⟨b,i,e⟩:=h
  exact⟨b,i,.inr e.symm⟩
 ·rename_i d
  rw[if_neg d]
  exact⟨c,h,.inl rfl⟩
theorem dZ.zx{x:AV}{y:List ax}{b:Bool}{u:Value}{w':World}(h:dZ M ι g w r x y u w'):dZ M ι g w r x (Ab.zx b y) u w':=by
 cases b with
 | false=>exact h
 | true=>
  obtain⟨M',A,B,j,c,K⟩:=h
  refine⟨M',A,B,⟨j.mem,λq k n=>?_,λq H k k' l z m s J C F=>?_⟩,⟨c.os,c.tape,c.output,c.size,c.chg,c.mem,c.map,λq k l m s=>?_,c.new⟩,λq n I=>K q n λk p=>I k (by simpa [Ab.zx] using p)⟩
  ·obtain⟨b,G,e⟩:=pN n
   obtain⟨l,v,f⟩:=j.live q b G
   rcases e with rfl | rfl
   ·exact⟨l,v,f⟩
   ·exact⟨l,v,f.cS⟩
  ·obtain⟨t,d,_⟩:=pN m
   obtain⟨D,i,_⟩:=pN s
   exact j.inj q H t D l z d i J C F
  ·obtain⟨t,d,_⟩:=pN m
   exact c.live q t l d s
def lO(P:Program)(f:FuncId)(t:TypeId):Prop:=
 ∃fn tR,P.funcs[f]?=some fn/\(fn.name == "runtime.NumGoroutine")=false/\fn.body.isNone=true/\Extern.findNext fn=none/\Extern.find fn=some (Extern.SlicesOverlaps.overlaps #[t,t] #[tR])
theorem ml(B:cT M ι g w)(C:TR M ι tm a)(hr:r.k=0)(hq : ∀k,ι { r with k:=k}=none){pc:FuncId->List AV->Option AV}(Ks : ∀f xs y,pc f xs=some y->ea E.P f xs y)
 {Z:Bool} (Kn:Z=false ->∀f t,E.jt f=some t->lO E.P f t) {x:AV} {bs:List ax} (h:bh E pc Z g tm r o=some (x,bs)):cf E.P o a w λu w'=>dZ M ι g w r x bs u w':=by
 have T:ι r=none:=by have:=hq 0;rwa [show({ r with k:=0}:Ref)=r by cases r;simp_all]at this
 unfold bh at h
 split at h
 ·
  rename_i y d
  obtain⟨q,rfl⟩:=iY h
  exact cf.ef (u:=a.eval y) (w':=w) (by simp[execOp,d]) (dZ.same B (ao C q))
 ·
  rename_i y d
  obtain⟨q,rfl⟩:=iY h
  exact cf.ef (u:=a.eval y) (w':=w) (by simp[execOp,d]) (dZ.same B (ao C q))
 ·
  rename_i c y z d
  obtain⟨rfl,u,F,I⟩:=CH (P:=E.P) (w:=w) C h
  refine cf.ef (u:=u) (w':=w) ?_ (dZ.same B I)
  simp only[execOp,d]
  simp only[Sem.run_bind]at F ⊢
  cases Y:(asBool (a.eval c)).run E.P w with
  | ok b w1=>
   rw[Y]at F
   simp only[Result.andThen_ok,Sem.run_pure]at F ⊢
   injection F with J K
   rw[J,K]
  | halt hh w1=>rw[Y]at F;cases F
 ·
  rename_i e d
  exact cf.made (λR m=>by simp only[execOp,d]) (Bh B hr T h)
 ·
  rename_i e y d
  cases q:ak tm y with
  | none=>rw[q]at h;simp[tz]at h
  | some U=>
   rw[q]at h
   exact cf.made (λR m=>by simp only[execOp,d,m]) (EZ B hr T (ao C q) h)
 ·
  rename_i t ps d
  cases I:cX tm ps.toList with
  | none=>rw[I]at h;simp only[iG]at h;split at h<;>first | cases h | (rename_i J K;cases K)
  | some vs=>
   rw[I]at h
   obtain⟨J,K⟩:=jf (ι:=ι) C I
   refine cf.same B (s:=Instr.build t (ps.map λ(p:Nat × Operand)=>(p.1,a.eval p.2))) (λR m=>by simp only[execOp,d,m]) (Bg ?_ ?_ h)
   ·rw[iN];exact J
   ·rw[iN];exact K
 ·
  rename_i t n ps d
  cases I:cX tm ps.toList with
  | none=>rw[I]at h;simp[dA]at h
  | some vs=>
   rw[I]at h
   obtain⟨J,K⟩:=jf (ι:=ι) C I
   refine cf.made (s:=Instr.buildSlice t n (ps.map λ(p:Nat × Operand)=>(p.1,a.eval p.2))) (λR m=>by simp only[execOp,d,m]) (su B hr T h ?_ ?_)
   ·rw[iN];exact J
   ·rw[iN];exact K
 ·
  rename_i t y d
  cases q:ak tm y with
  | none=>rw[q]at h;simp[jU]at h
  | some U=>
   rw[q]at h
   exact cf.same B (λR m=>by simp only[execOp,d,m]) (CK B (ao C q) h)
 ·
  rename_i y d
  unfold EU at h
  split at h
  ·rename_i r' i j q
   injection h with h;injection h with J K;subst J;subst K
   have I:=ao C q
   refine cf.ef (u:=a.eval y) (w':=w) ?_ (dZ.same B I)
   generalize hu:a.eval y=u at I
   cases I
   simp[execOp,d,hu]
  ·rename_i n es i j q
   injection h with h;injection h with J K;subst J;subst K
   have I:=ao C q
   refine cf.ef (u:=a.eval y) (w':=w) ?_ (dZ.same B I)
   generalize hu:a.eval y=u at I
   cases I
   simp[execOp,d,hu]
  ·rename_i f b c q
   injection h with h;injection h with J K;subst J;subst K
   have I:=ao C q
   refine cf.ef (u:=a.eval y) (w':=w) ?_ (dZ.same B I)
   generalize hu:a.eval y=u at I
   cases I
   simp[execOp,d,hu]
  ·cases h
 ·
  rename_i op t xo yo ty d
  cases hx:ak tm xo with
  | none=>rw[hx]at h;simp[cK]at h
  | some x'=>
   cases q:ak tm yo with
   | none=>rw[hx,q]at h;simp[cK]at h
   | some U=>
    rw[hx,q]at h
    exact cf.same B (λR m=>by simp only[execOp,d,m]) (E0 (ao C hx) (ao C q) h)
 ·
  rename_i op t y d
  cases q:ak tm y with
  | none=>rw[q]at h;simp[ET,fa]at h
  | some U=>
   rw[q]at h
   exact cf.same B (λR m=>by simp only[execOp,d,m]) (GO (ao C q) h)
 ·
  rename_i Kx Ku y d
  cases q:ak tm y with
  | none=>rw[q]at h;simp[bI]at h
  | some U=>
   rw[q]at h
   exact cf.made (λR m=>by simp only[execOp,d,m]) (w9 B hr T (ao C q) h)
 ·
  rename_i t y d
  cases q:ak tm y with
  | none=>rw[q]at h;simp only[pY]at h;split at h<;>simp at h
  | some U=>
   rw[q]at h
   exact cf.same B (λR m=>by simp only[execOp,d,m]) (Be (ao C q) h)
 ·
  rename_i f first Q d
  cases J:first.toList.mapM (ak tm) with
  | none=>rw[J]at h;simp[ss]at h
  | some xs=>
   cases K:Q.toList.mapM (ak tm) with
   | none=>rw[J,K]at h;simp[ss]at h
   | some ys=>
    rw[J,K]at h
    obtain⟨rfl,I⟩:=CM (fN C J) (fN C K) h
    refine cf.ef (u := .func f (first.map a.eval) (Q.map a.eval)) (w':=w) (by simp[execOp,d,Instr.makeFunc]) (dZ.same B ?_)
    have e1 : ∀l:Array Operand,(l.toList.map a.eval).toArray=l.map a.eval:=λl=>by apply rl;simp
    rw[e1,e1]at I
    exact I
 ·
  rename_i t l c d
  cases hl:ak tm l with
  | none=>rw[hl]at h;simp only[oz,rD]at h;split at h<;>first | cases h | (rename_i J K h3;cases K)
  | some l'=>
   cases Y:ak tm c with
   | none=>rw[hl,Y]at h;simp only[oz,rD]at h;split at h<;>first | cases h | (rename_i J K h3;cases h3)
   | some c'=>
    rw[hl,Y]at h
    exact cf.made (λR m=>by simp only[execOp,d,m]) (CJ B hr T (ao C hl) (ao C Y) h)
 ·
  rename_i t d
  cases h
  exact cf.made (s:=Instr.makeMap t none) (λR m=>by simp only[execOp,d,rC]) (w6 B hr T t)
 ·
  rename_i t y z ok d
  cases q:ak tm y with
  | none=>rw[q]at h;simp only[gU]at h;split at h<;>simp_all
  | some U=>
   cases X:ak tm z with
   | none=>rw[q,X]at h;simp only[gU,rD]at h;split at h<;>simp_all
   | some z'=>
    rw[q,X]at h
    exact cf.same B (λR m=>by simp only[execOp,d,m]) (y6 B (ao C q) (ao C X) h)
 ·
  rename_i t y lo hi mx d
  cases x6:(E.wide o && !Z) with
  | true=>
   rw[x6]at h
   simp only[cond_true]at h
   cases q:ak tm y with
   | none=>rw[q]at h;unfold fj at h;split at h<;>simp_all
   | some U=>
    cases J:fH tm lo with
    | none=>rw[J]at h;simp[fj]at h
    | some Kq=>
     cases K:fH tm hi with
     | none=>rw[K]at h;unfold fj at h;split at h<;>simp_all
     | some Kr=>
      cases h3:fH tm mx with
      | none=>rw[h3]at h;unfold fj at h;split at h<;>simp_all
      | some Kp=>
       rw[q,J,K,h3]at h
       exact cf.same B (λR m=>by simp only[execOp,d,m]) (y5 B (ao C q) (kA C J) (kA C K) (kA C h3) h)
  | false=>
  rw[x6]at h
  simp only[cond_false]at h
  cases q:ak tm y with
  | none=>rw[q]at h;simp only[dN]at h;split at h<;>simp at h
  | some U=>
   rw[q]at h
   cases J:fH tm lo with
   | none=>rw[J]at h;simp[dN]at h
   | some Kq=>
    cases K:fH tm hi with
    | none=>rw[J,K]at h;simp[dN]at h
    | some Kr=>
     cases h3:fH tm mx with
     | none=>rw[J,K,h3]at h;simp[dN]at h
     | some Kp=>
      rw[J,K,h3]at h
      exact cf.same B (λR m=>by simp only[execOp,d,m]) (Bc B (ao C q) (kA C J) (kA C K) (kA C h3) h)
 ·
  rename_i t y f d
  cases q:ak tm y with
  | none=>rw[q]at h;simp only[du]at h;split at h<;>(try split at h)<;>simp_all
  | some U=>
   rw[q]at h
   exact cf.same B (λR m=>by simp only[execOp,d,m]) (tx (ao C q) h)
 ·
  rename_i t y f d
  cases q:ak tm y with
  | none=>rw[q]at h;simp only[pZ]at h;split at h<;>simp_all
  | some U=>
   rw[q]at h
   exact cf.same B (λR m=>by simp only[execOp,d,m]) (Bf (ao C q) h)
 ·
  rename_i t y z d
  cases q:ak tm y with
  | none=>
   rw[q]at h
   simp only[bj]at h
   (repeat' split at h)<;>simp_all
  | some U=>
   cases X:ak tm z with
   | none=>rw[q,X]at h;simp[bj]at h
   | some z'=>
    rw[q,X]at h
    exact cf.same B (λR m=>by simp only[execOp,d,m]) (tw B (ao C q) (ao C X) h)
 ·
  rename_i t y z d
  cases q:ak tm y with
  | none=>rw[q]at h;simp only[oQ]at h;split at h<;>simp_all
  | some U=>
   cases X:ak tm z with
   | none=>rw[q,X]at h;simp only[oQ,rD]at h;(repeat' split at h)<;>simp_all
   | some z'=>
    rw[q,X]at h
    exact cf.same B (λR m=>by simp only[execOp,d,m]) (Bd (ao C q) (ao C X) h)
 ·
  rename_i y st Kt ok d
  cases q:ak tm y with
  | none=>rw[q]at h;simp only[nS]at h;split at h<;>simp_all
  | some U=>
   rw[q]at h
   exact cf.same B (λR m=>by simp only[execOp,d,m]) (y8 (st:=st) (ao C q) h)
 ·
  rename_i y i d
  cases q:ak tm y with
  | none=>rw[q]at h;simp[jV]at h
  | some U=>
   rw[q]at h
   exact cf.same B (λR m=>by simp only[execOp,d,m]) (w8 (ao C q) h)
 ·
  rename_i c d
  split at h
  ·cases h
  ·rename_i args S
   split at h
   ·rename_i fo Y
    split at h
    ·rename_i t V
     unfold ur at V
     split at V
     ·rename_i fi
      obtain⟨fn,tR,f1,f2,f3,f4,f5⟩:=Kn rfl fi t V
      have H:=fN C S
      obtain⟨rfl,rfl,L⟩:=CI (P:=E.P) (tR:=tR) B H h
      have G:(c.args.toList.map a.eval).toArray=c.args.map a.eval:=by apply rl;simp
      rw[G]at L
      have Ko:(execOp a.eval o).run E.P w = .ok (.value (.bool false)) w:=by
       have h0:=run_callFunc_extern f1 f2 f3 f4 f5 (c.args.map a.eval) w
       rw[L]at h0
       simp only[Result.andThen_ok]at h0
       have e0:(#[]++c.args.map a.eval ++ #[]:Array Value)=c.args.map a.eval:=by simp
       simp[execOp,d,resolve,Y,Act.eval,Deferred.ofValue,invoke,h0]
      exact cf.ef Ko (dZ.same B (.v rfl))
     ·cases V
    obtain⟨⟨x0,Kv⟩,h0,e⟩:=aC.1 h
    cases e
    exact(CO B C hq Ks d Y S h0).mono λu w'=>dZ.zx
   ·cases h
   ·rename_i b Y
    have H:=fN C S
    have L : ∀(s:Sem Value)(us:List Value),(c.args.map a.eval).toList=us->(∀D,builtin b c.argTypes o.type D us.toArray=(do pure (Next.value (<-s)))) ->
     ∀ {u w'},s.run E.P w = .ok u w'->(execOp a.eval o).run E.P w = .ok (.value u) w':=by
     intro s us W hb u w' hs
     have e1:c.args.map a.eval=us.toArray:=by rw[<-W]
     simp only[execOp,d,resolve,Y,invoke,Sem.run_bind,Sem.run_pure,Result.andThen_ok,e1,hb,hs]
    have G:(c.args.map a.eval).toList=c.args.toList.map a.eval:=by simp
    unfold bS at h
    split at h
    ·rename_i r'
     obtain⟨u,N⟩:=vI H.1.symm
     rw[N]at H
     have I:=H.2 0 (.mp r') u rfl rfl
     obtain⟨rfl,u',F,O⟩:=y7 (ty:=o.type) B I (yH.1 h).2
     exact cf.ef (L _ [u] (by rw[G,N]) (λD=>rfl) F) (dZ.same B O)
    ·rename_i y Kw
     obtain⟨u,N⟩:=vI H.1.symm
     rw[N]at H
     have I:=H.2 0 y u rfl rfl
     obtain⟨rfl,u',F,O⟩:=EV (P:=E.P) (w:=w) (ty:=o.type) I h
     exact cf.ef (L _ [u] (by rw[G,N]) (λD=>rfl) F) (dZ.same B O)
    ·obtain⟨hm,rfl⟩:=iY h
     obtain⟨u,us,W,u',F,O⟩:=uB (w:=w) H hm
     exact cf.ef (L (us.foldlM Builtin.min2 u) (u :: us) (by rw[G,W]) (λD=>rfl) F) (dZ.same B O)
    ·obtain⟨hm,rfl⟩:=iY h
     obtain⟨u,us,W,u',F,O⟩:=uB (w:=w) H hm
     exact cf.ef (L (us.foldlM Builtin.max2 u) (u :: us) (by rw[G,W]) (λD=>rfl) F) (dZ.same B O)
    ·rename_i y z
     obtain⟨u,v,N⟩:=mM H.1.symm
     rw[N]at H
     obtain⟨u',w',F,O⟩:=sw (P:=E.P) (ty:=o.type) B hr T (H.2 0 y u rfl rfl) (H.2 1 z v rfl rfl) h
     exact cf.ef (L _ [u,v] (by rw[G,N]) (λD=>rfl) F) O
    ·rename_i y
     obtain⟨u,N⟩:=vI H.1.symm
     rw[N]at H
     have I:=H.2 0 y u rfl rfl
     obtain⟨rfl,u',F,O⟩:=EX (P:=E.P) (w:=w) (ty:=o.type) I h
     exact cf.ef (L _ [u] (by rw[G,N]) (λD=>rfl) F) (dZ.same B O)
    ·cases h
 ·cases h
theorem z8{H:aa}(i:cT M ι H.get w)(j:jA ι H)(e:TR M ι tm a){t:TypeId}{m k y:Operand}{x:AV}{H':aa}
 (n : ∀c:Operand->Value,execOp c o=(do Instr.mapUpdate t (c m) (c k) (c y);pure Next.skip))
 (h:dM E.P H t (ak tm m) (ak tm k) (ak tm y)=some (x,H')):cf E.P o a w λu w'=>hJ M ι H w x H' u w':=by
 cases hm:ak tm m with
 | none=>rw[hm]at h;simp only[dM]at h;split at h<;>simp_all
 | some q=>
  cases d:ak tm k with
  | none=>rw[hm,d]at h;simp only[dM]at h;split at h<;>simp_all
  | some k'=>
   cases f:ak tm y with
   | none=>rw[hm,d,f]at h;simp only[dM]at h;split at h<;>simp_all
   | some s=>
    rw[hm,d,f]at h
    obtain⟨w',p,b⟩:=tl (P:=E.P) i j (ao e hm) (ao e d) (ao e f) h
    exact cf.qX (by simp[n,p]) b
theorem DB{H:aa}{d tt:Nat}(J:cT M ι H.get w)(F:jA ι H)(G:TR M ι tm a){pc:FuncId->List AV->Option AV}(Y : ∀f W y,pc f W=some y->ea E.P f W y)
 {tc:lb->List AV->aa->bk} (V : ∀f W H y H',tc f W H=some (y,H')->dC E.P f W H y H') {x:AV} {H':aa}
 (R:AI o.op=false) (h:evalW E pc tc H tm ⟨d,tt,H.gen d tt,0⟩ o=some (x,H')):cf E.P o a w λu w'=>hJ M ι H w x H' u w':=by
 unfold evalW at h
 split at h
 ·
  rename_i t y z i
  cases S:ak tm y with
  | none=>rw[S]at h;simp[eB]at h
  | some y'=>
   cases hz:ak tm z with
   | none=>rw[S,hz]at h;simp only[eB]at h;(repeat' split at h)<;>simp_all
   | some z'=>
    rw[S,hz]at h
    obtain⟨w',Q,j⟩:=AP (P:=E.P) J F (ao G S) (ao G hz) h
    exact cf.qX (by simp[execOp,i,Q]) j
 ·
  rename_i t m k y i
  exact z8 J F G (λρ=>by simp[execOp,i]) h
 ·
  rename_i t m k y i
  exact z8 J F G (λρ=>by simp[execOp,i]) h
 ·
  rename_i t m k i
  cases K:ak tm m with
  | none=>rw[K]at h;simp only[iL]at h;split at h<;>simp_all
  | some m'=>
   cases hk:ak tm k with
   | none=>rw[K,hk]at h;simp only[iL]at h;split at h<;>simp_all
   | some k'=>
    rw[K,hk]at h
    obtain⟨u,w',Q,j⟩:=vf (P:=E.P) J F (ao G K) (ao G hk) h
    exact cf.ef (by simp only[execOp,i];exact se Q) j
 ·
  rename_i t m s y i
  cases K:ak tm m with
  | none=>rw[K]at h;simp[ff]at h
  | some m'=>
   cases T:ak tm s with
   | none=>rw[K,T]at h;simp[ff]at h
   | some s'=>
    cases S:ak tm y with
    | none=>rw[K,T,S]at h;simp[ff]at h
    | some y'=>
     rw[K,T,S]at h
     obtain⟨w',Q,j⟩:=rL (P:=E.P) (t:=t) J F (ao G K) (ao G T) (ao G S) h
     exact cf.qX (by simp[execOp,i,Q]) j
 ·
  rename_i t n ps i
  cases U:cX tm ps.toList with
  | none=>rw[U]at h;simp[eF]at h
  | some vs=>
   rw[U]at h
   obtain⟨h1,h2⟩:=jf (ι:=ι) G U
   obtain⟨u,w',Q,j⟩:=rM (P:=E.P) (qs:=ps.map λ(p:Nat × Operand)=>(p.1,a.eval p.2)) J F h (by rw[iN];exact h1) (by rw[iN];exact h2)
   exact cf.ef (by simp only[execOp,i];exact se Q) j
 ·
  rename_i t n i
  unfold nK at h
  split at h
  ·rename_i kd m b hn hb
   obtain⟨⟨h0,h1,h2⟩,h⟩:=cc.1 h
   cases h
   obtain⟨e,ht,Ko⟩:=dL.1 hb
   have U:=ao G hn
   generalize Kp:a.eval n=nv at U
   cases U
   obtain⟨u,w',Q,j⟩:=vB (P:=E.P) J rfl (F.fresh d tt 0) ht Ko kd m.toNat (by omega) h2
   have K:((m.toNat:Nat):Int)=m:=by omega
   rw[K]at Q
   exact cf.ef (by simp only[execOp,i,Kp];exact se Q) (j.HO F)
  ·cases h
 ·rename_i i;rw[i]at R;cases R
 ·rename_i i;rw[i]at R;cases R
 ·
  rename_i c i
  split at h
  ·cases h
  ·rename_i args D
   split at h
   ·rename_i fo Z
    rcases wA h with h | ⟨H1,rfl,h,Kn,B⟩
    ·exact wC J F G Y V i Z D h
    ·exact(wC J F G Y V i Z D h).mono λu w' hw=>Bb J F Kn B hw
   ·cases h
   ·rename_i b Z
    have C:=fN G D
    have O : ∀(s:Sem Value)(us:List Value),(c.args.map a.eval).toList=us->(∀q,builtin b c.argTypes o.type q us.toArray=(do pure (Next.value (<-s)))) ->
     ∀ {u w'},s.run E.P w = .ok u w'->(execOp a.eval o).run E.P w = .ok (.value u) w':=by
     intro s us x6 hb u w' T
     have e1:c.args.map a.eval=us.toArray:=by rw[<-x6]
     simp only[execOp,i,resolve,Z,invoke,Sem.run_bind,Sem.run_pure,Result.andThen_ok,e1,hb,T]
    have B:(c.args.map a.eval).toList=c.args.toList.map a.eval:=by simp
    split at h
    ·rename_i y z
     obtain⟨u,v,I⟩:=mM C.1.symm
     rw[I]at C
     obtain⟨u',w',N,L⟩:=rN (P:=E.P) (ty:=o.type) J F (C.2 0 y u rfl rfl) (C.2 1 z v rfl rfl) h
     exact cf.ef (O _ [u,v] (by rw[B,I]) (λq=>rfl) N) L
    ·rename_i y z
     obtain⟨u,v,I⟩:=mM C.1.symm
     rw[I]at C
     cases X:E.wide o with
     | true=>
      rw[X]at h
      simp only[cond_true]at h
      obtain⟨u',w',N,L⟩:=AQ (P:=E.P) (ty:=o.type) J F (C.2 0 y u rfl rfl) (C.2 1 z v rfl rfl) h
      exact cf.ef (O _ [u,v] (by rw[B,I]) (λq=>rfl) N) L
     | false=>
     rw[X]at h
     simp only[cond_false]at h
     obtain⟨u',w',N,L⟩:=Ci (P:=E.P) (ty:=o.type) J F (C.2 0 y u rfl rfl) (C.2 1 z v rfl rfl) h
     exact cf.ef (O _ [u,v] (by rw[B,I]) (λq=>rfl) N) L
    ·cases h
 ·cases h
structure mU (M:Mem) (ι:Map) (st:St) (nt:Nat) (a:Act) (w:World):Prop where
 sim:cT M ι st.hp.get w
 dom:jA ι st.hp
 tr:TR M ι st.tm a
 nt:a.tmps.size=nt
def eD(M:Mem)(ι:Map)(st:St)(a:Act)(w:World)(nt:Nat)(st':St)(b:Act)(w':World):Prop:=
 (∃M' A,mU M' A st' nt b w'/\kb M ι st.hp.get w M' A st'.hp.get w')/\b.defers=a.defers
theorem eD.refl{st nt}(h:mU M ι st nt a w):eD M ι st a w nt st a w:=⟨⟨M,ι,h,kb.refl⟩,rfl⟩
theorem qc{st st':St}{nt dep:Nat}{d:Bool}{ops:Array Oper}(c:mU M ι st nt a w){pc:FuncId->List AV->Option AV}(m : ∀f n y,pc f n=some y->ea E.P f n y)
 {tc:lb->List AV->aa->bk} (z : ∀f n H y H',tc f n H=some (y,H')->dC E.P f n H y H') (D:d=false ->∀f t,E.jt f=some t->lO E.P f t) (F:d=true\/AI o.op=false) (h:evalOp E pc tc nt dep d ops o st=some st')
 {ro:Option Nat} {K:Act->World->Prop} {Q:Exit->Act->World->Prop} (s : ∀J w',eD M ι st a w nt st' J w'->K J w') :
 if Region.wanted o (yielded ops a.tmps) then o.wpIn (FW ro) 0 E.P a w K Q else K (a.put o.dst undef) w:=by
 unfold evalOp at h
 split at h
 ·cases h
 ·rename_i G
  rw[eb c.tr G]
  simp only[aC]at h
  obtain⟨tm',b,rfl⟩:=h
  obtain⟨B,C⟩:=c.tr.put c.nt b (u:=undef) (.v rfl)
  simp only[kF,if_false]
  exact s _ _ ⟨⟨M,ι,⟨c.sim,c.dom,B,C⟩,kb.refl⟩,dv _ _ _⟩
 ·rename_i G
  rw[eb c.tr G]
  simp only[if_true]
  have p : ∀ {x:AV} {H':aa} {tm':List AV},cf E.P o a w (λu w'=>hJ M ι st.hp w x H' u w')->bl nt st.tm o.dst x=some tm'->st'=⟨tm',H'⟩->o.wpIn (FW ro) 0 E.P a w K Q:=by
   intro x H' tm' i b N
   subst N
   refine i ro K Q λu w' ⟨M',A,B,C,h3,h4⟩=>s _ _ ?_
   obtain⟨L,O⟩:=(c.tr.mono h3.mem h3.map).put c.nt b B
   exact⟨⟨M',A,⟨C,h4,L,O⟩,h3⟩,dv _ _ _⟩
  split at h
  ·rename_i x R I
   simp only[aC]at h
   obtain⟨tm',b,rfl⟩:=h
   have:=ml (E:=E) (o:=o) c.sim c.tr rfl (λk=>c.dom.fresh dep (o.dst.getD 0) k) m D I
   exact p (λro K Q s=>this ro K Q λu w' j=>s u w' (j.HO c.dom)) b rfl
  ·split at h
   ·cases h
   ·rename_i q
    split at h
    ·rename_i x H' I
     simp only[aC]at h
     obtain⟨tm',b,rfl⟩:=h
     have e:AI o.op=false:=by
      rcases F with rfl | e
      ·simp only[o6,gb,Bool.not_eq_false]at q
       cases i:o.op<;>first | rfl | (simp[dK,Gj,n9,i]at q)
      ·exact e
     exact p (DB (E:=E) (o:=o) c.sim c.dom c.tr m z e I) b rfl
    ·cases h
end
end
section
section
variable{E:Env}{M:Mem}{ι:Map}{w:World}{a:Act}
theorem eD.trans{st c d:St}{nt:Nat}{f n:Act}{j m:World}(h:eD M ι st a w nt c f j)(p : ∀e b,mU e b c nt f j->eD e b c f j nt d n m):eD M ι st a w nt d n m:=by
 obtain⟨⟨e,b,q,s⟩,t⟩:=h
 obtain⟨⟨M2,i,u,x⟩,v⟩:=p e b q
 exact⟨⟨M2,i,u,s.trans x⟩,v.trans t⟩
theorem vP{o:Oper}{st st':St}{nt dep:Nat}{ops:Array Oper}{i:Nat}(d:mU M ι st nt a w){pc:FuncId->List AV->Option AV}(U : ∀f G y,pc f G=some y->ea E.P f G y)
 {tc:lb->List AV->aa->bk} (N : ∀f G H y H',tc f G H=some (y,H')->dC E.P f G H y H') (O : ∀f t,E.jt f=some t->lO E.P f t) (h:evalOp E pc tc nt dep false ops o st=some st') (L:ops[i]?=some o)
 (b:Frame) (rest:List Nat) (k:List Item) (cs:List Frame) :
 ∃q w',eD M ι st a w nt st' q w'/\(b.kind = .normal->Steps E.P (lone (b.atR a (.inRegion ops (i :: rest) :: k)) cs w) (lone (b.atR q (.inRegion ops rest :: k)) cs w')):=by
 have C:Region.wanted o (yielded ops a.tmps)=false->Steps E.P (lone (b.atR a (.inRegion ops (i :: rest) :: k)) cs w) (lone (b.atR (a.put o.dst undef) (.inRegion ops rest :: k)) cs w):=by
  intro p
  have X:=stepR_op_skip (P:=E.P) (b:=b) (a:=a) (k:=k) (cs:=cs) (w:=w) (ops:=ops) (i:=i) (rest:=rest) (by simp[L,p])
  simp only[L,cQ]at X
  exact .one X
 cases n:AI o.op with
 | false=>
  have s:=qc (E:=E) (ro:=b.roundOf) (Q:=λ_ _ _=>False) d U N (λ_=>O) (.inr n) h (K:=λq w'=>eD M ι st a w nt st' q w') λq w' h=>h
  by_cases p:Region.wanted o (yielded ops a.tmps)=true
  ·rw[if_pos p]at s
   obtain⟨q,w',F,B⟩:=An L p b s rest k cs
   exact⟨q,w',F,λ_=>B⟩
  ·rw[if_neg p]at s
   exact⟨_,_,s,λ_=>C (by simpa using p)⟩
 | true=>
  unfold evalOp at h
  split at h
  ·cases h
  ·rename_i p
   have z:=eb d.tr p
   simp only[aC]at h
   obtain⟨tm',j,rfl⟩:=h
   obtain⟨s,F⟩:=d.tr.put d.nt j (u:=undef) (.v rfl)
   exact⟨_,_,⟨⟨M,ι,⟨d.sim,d.dom,s,F⟩,kb.refl⟩,dv _ _ _⟩,λ_=>C z⟩
  ·rename_i p
   have z:=eb d.tr p
   have I : ∀ {x:AV} {H':aa} {tm':List AV},th E.P o a w (λu w'=>hJ M ι st.hp w x H' u w')->bl nt st.tm o.dst x=some tm'->st'=⟨tm',H'⟩ ->
    ∃q w',eD M ι st a w nt st' q w'/\(b.kind = .normal->Steps E.P (lone (b.atR a (.inRegion ops (i :: rest) :: k)) cs w) (lone (b.atR q (.inRegion ops rest :: k)) cs w')):=by
    intro x H' tm' e j Z
    subst Z
    by_cases Y:b.kind = .normal
    ·obtain⟨u,w',⟨M',A,s,F,B,W⟩,J⟩:=e b k cs ops i rest Y L z
     obtain⟨T,S⟩:=(d.tr.mono B.mem B.map).put d.nt j s
     exact⟨_,_,⟨⟨M',A,⟨F,W,T,S⟩,B⟩,dv _ _ _⟩,λ_ => .one J⟩
    ·obtain⟨u,w',⟨M',A,s,F,B,W⟩,J⟩:=e { b with kind := .normal} k cs ops i rest rfl L z
     obtain⟨T,S⟩:=(d.tr.mono B.mem B.map).put d.nt j s
     exact⟨_,_,⟨⟨M',A,⟨F,W,T,S⟩,B⟩,dv _ _ _⟩,λh=>absurd h Y⟩
   have V:bh E pc false st.hp.get st.tm ⟨dep,o.dst.getD 0,st.hp.gen dep (o.dst.getD 0),0⟩ o=none:=by
    unfold bh
    cases e:o.op<;>rw[e]at n<;>first | rfl | (cases n)
   rw[V]at h
   simp only[oe,kF,if_false]at h
   split at h
   ·rename_i x H' m
    simp only[aC]at h
    obtain⟨tm',j,rfl⟩:=h
    unfold evalW at m
    cases e:o.op<;>rw[e]at n m<;>try (cases n;done)
    ·rename_i c y
     simp only at m
     cases D:ak st.tm c with
     | none=>rw[D]at m;simp[rJ]at m
     | some c'=>
      cases R:ak st.tm y with
      | none=>rw[D,R]at m;simp[rJ]at m
      | some y'=>
       rw[D,R]at m
       exact I (Cg d.sim d.dom e (ao d.tr D) (ao d.tr R) m) j rfl
    ·rename_i t c x6
     simp only at m
     cases D:ak st.tm c with
     | none=>rw[D]at m;simp[tZ]at m
     | some c'=>
      rw[D]at m
      exact I (Ch d.sim d.dom e (ao d.tr D) m) j rfl
   ·cases h
theorem DJ{H H':aa}{tm:List AV}{dep:Nat}{o:Oper}{x:AV}(C:cT M ι H.get w)(D:jA ι H)(F:TR M ι tm a)(h:sX E false H tm ⟨dep,o.dst.getD 0,H.gen dep (o.dst.getD 0),0⟩ o=some (some (x,H'))) :
 cf E.P o a w λu w'=>hJ M ι H w x H' u w':=by
 unfold sX at h
 split at h
 ·cases h
 ·split at h
  ·rename_i t n ps i
   simp only[cz]at h
   cases s:cX tm ps.toList with
   | none=>rw[s]at h;simp[pe]at h
   | some O=>
    rw[s]at h
    obtain⟨G,I⟩:=jf (ι:=ι) F s
    obtain⟨u,w',J,j⟩:=yL (P:=E.P) (qs:=ps.map λ(p:Nat × Operand)=>(p.1,a.eval p.2)) C D h (by rw[iN];exact G) (by rw[iN];exact I)
    exact cf.ef (by simp only[execOp,i];exact se J) j
  ·rename_i c i
   split at h
   ·rename_i N
    simp only[cz]at h
    split at h
    ·rename_i y z f
     have d:=fN F f
     have e:(c.args.map a.eval).toList=c.args.toList.map a.eval:=by simp
     obtain⟨u,v,m⟩:=mM d.1.symm
     rw[m]at d
     obtain⟨Q,w',B,q⟩:=Cj (P:=E.P) (ty:=o.type) C D (d.2 0 y u rfl rfl) (d.2 1 z v rfl rfl) h
     refine cf.ef ?_ q
     have K:c.args.map a.eval=[u,v].toArray:=by rw[<-m,<-e]
     have L : ∀b,builtin .append c.argTypes o.type b [u,v].toArray=(do pure (Next.value (<-Builtin.append_ c.argTypes o.type #[u,v]))):=λb=>rfl
     simp only[execOp,i,resolve,N,invoke,Sem.run_bind,Sem.run_pure,Result.andThen_ok,K,L,B]
    ·cases h
   ·cases h
  ·cases h
theorem xJ{o:Oper}{st st':St}{nt dep:Nat}{ops:Array Oper}{i:Nat}(c:mU M ι st nt a w){pc:FuncId->List AV->Option AV}(B : ∀f q y,pc f q=some y->ea E.P f q y)
 {tc:lb->List AV->aa->bk} (z : ∀f q H y H',tc f q H=some (y,H')->dC E.P f q H y H') (C : ∀f t,E.jt f=some t->lO E.P f t) (h:oF E pc tc nt dep false ops o st=some st') (s:ops[i]?=some o)
 (b:Frame) (rest:List Nat) (k:List Item) (cs:List Frame) :
 ∃j w',eD M ι st a w nt st' j w'/\(b.kind = .normal->Steps E.P (lone (b.atR a (.inRegion ops (i :: rest) :: k)) cs w) (lone (b.atR j (.inRegion ops rest :: k)) cs w')):=by
 unfold oF at h
 split at h
 ·exact vP c B z C h s b rest k cs
 ·rename_i L D
  split at h
  ·cases h
  ·rename_i F
   have e:=eb c.tr F
   simp only[aC]at h
   obtain⟨tm',d,rfl⟩:=h
   obtain⟨m,n⟩:=c.tr.put c.nt d (u:=undef) (.v rfl)
   refine⟨_,_,⟨⟨M,ι,⟨c.sim,c.dom,m,n⟩,kb.refl⟩,dv _ _ _⟩,λ_=>?_⟩
   have I:=stepR_op_skip (P:=E.P) (b:=b) (a:=a) (k:=k) (cs:=cs) (w:=w) (ops:=ops) (i:=i) (rest:=rest) (by simp[s,e])
   simp only[s,cQ]at I
   exact .one I
  ·rename_i F
   have e:=eb c.tr F
   split at h
   ·rename_i x H'
    simp only[aC]at h
    obtain⟨tm',d,rfl⟩:=h
    have G:=DJ c.sim c.dom c.tr D
    have m:o.wpIn (FW b.roundOf) 0 E.P a w (λj w'=>eD M ι st a w nt ⟨tm',H'⟩ j w') (λ_ _ _=>False):=by
     refine G _ _ _ λu w' ⟨M',A,m,n,p,h4⟩=>?_
     obtain⟨J,K⟩:=(c.tr.mono p.mem p.map).put c.nt d m
     exact⟨⟨M',A,⟨n,h4,J,K⟩,p⟩,dv _ _ _⟩
    obtain⟨j,w',n,p⟩:=An s e b m rest k cs
    exact⟨j,w',n,λ_=>p⟩
   ·cases h
theorem vw{pc:FuncId->List AV->Option AV}(n : ∀f e y,pc f e=some y->ea E.P f e y)
 {tc:lb->List AV->aa->bk} (j : ∀f e H y H',tc f e H=some (y,H')->dC E.P f e H y H') (p : ∀f t,E.jt f=some t->lO E.P f t) {nt dep:Nat} {ops:Array Oper} {st':St} (b:Frame) (k:List Item) (cs:List Frame) :
 ∀(l c:List Oper)(st:St)(M:Mem)(ι:Map)(a:Act)(w:World),ops.toList=c++l->iW E pc tc nt dep false ops l st=some st'->mU M ι st nt a w ->
  ∃G w',eD M ι st a w nt st' G w'/\(b.kind = .normal->Steps E.P (lone (b.atR a (.inRegion ops (List.range' c.length l.length) :: k)) cs w) (lone (b.atR G (.inRegion ops [] :: k)) cs w')):=by
 intro l
 induction l with
 | nil=>
  intro c st M ι a w _ h x
  simp only[iW,cz]at h
  subst h
  exact⟨a,w,eD.refl x,λ_=>Steps.refl _ _⟩
 | cons o l O=>
  intro c st M ι a w D h x
  simp only[iW]at h
  split at h
  ·rename_i z K
   have R:ops[c.length]?=some o:=by
    rw[<-ri,D];simp
   obtain⟨S,U,d,u⟩:=xJ x n j p K R b (List.range' (c.length+1) l.length) k cs
   obtain⟨⟨L,v,m,i⟩,Q⟩:=d
   obtain⟨N,J,⟨⟨M2,C,q,B⟩,T⟩,s⟩:=O (c++[o]) z L v S U (by simp[D]) h m
   refine⟨N,J,⟨⟨M2,C,q,i.trans B⟩,T.trans Q⟩,λI=>?_⟩
   have F:=s I
   simp only[iU,kC,ra,lS]at F
   rw[kC,List.range'_succ]
   exact(u I).trans F
  ·cases h
theorem vA{pc:FuncId->List AV->Option AV}(i : ∀f c y,pc f c=some y->ea E.P f c y)
 {tc:lb->List AV->aa->bk} (e : ∀f c H y H',tc f c H=some (y,H')->dC E.P f c H y H') (j : ∀f t,E.jt f=some t->lO E.P f t) {nt dep id:Nat} {ops:Array Oper} {st st':St} (b:Frame) (k:List Item) (cs:List Frame)
 (h:iW E pc tc nt dep false ops ops.toList st=some st') (p:mU M ι st nt a w) :
 ∃d w',eD M ι st a w nt st' d w'/\(b.kind = .normal->Steps E.P (lone (b.atR a (.code (.region id ops false) :: k)) cs w) (lone (b.atR d k) cs w')):=by
 obtain⟨d,w',m,n⟩:=vw i e j b k cs ops.toList [] st M ι a w rfl h p
 refine⟨d,w',m,λq=>Steps.trans (.one ?_) (Steps.trans (n q) (.one stepR_region_end))⟩
 have:=stepR_region (P:=E.P) (b:=b) (a:=a) (k:=k) (cs:=cs) (w:=w) (id:=id) (ops:=ops)
 simpa [List.range_eq_range'] using this
structure Env.Ok (E:Env) (ok:Array Oper->Bool):Prop where
 fns : ∀f,E.allowed f=true ->∃fn,E.P.funcs[f]?=some fn/\(fn.name == "runtime.NumGoroutine")=false /\∀c,fn.body=some c->codeOk ok c=true
 specs : ∀f args y,E.spec f args=some y->ea E.P f args y
 same:E.ok=ok
 overs : ∀f t,E.jt f=some t->lO E.P f t
 thrs : ∀f args H y H',E.thrSpec f args H=some (y,H')->dC E.P (.fn f) args H y H'
 draws : ∀(ops:Array Oper),ok ops=true ->∀ {pc:FuncId->List AV->Option AV},(∀f xs y,pc f xs=some y->ea E.P f xs y) ->
  ∀ {tc:lb->List AV->aa->bk},(∀f xs H y H',tc f xs H=some (y,H')->dC E.P f xs H y H') ->∀(nt dep id:Nat)(st st':St)(M:Mem)(ι:Map)(a:Act)(w:World)(ro:Option Nat)(Q:Exit->Act->World->Prop),
  iW E pc tc nt dep true ops ops.toList st=some st'->jM E ops st'=true->mU M ι st nt a w->(∀a' w',eD M ι st a w nt st' a' w'->Q .normal a' w')->(Code.region id ops true).wpIn (FW ro) 0 E.P Q a w
theorem uK{ok:Array Oper->Bool}{id:Nat} : ∀ {k k':List Item},exitTo id k=some k'->(∀i∈k,gH ok i=true) ->∀i∈k',gH ok i=true:=by
 intro k
 induction k with
 | nil=>intro k' h;simp[exitTo]at h
 | cons x k c=>
  intro k' h d
  have b : ∀i∈k,gH ok i=true:=λi e=>d i (gv _ e)
  cases x with
  | inBlock f=>
   simp only[exitTo]at h
   split at h
   ·injection h with h;subst h;exact b
   ·exact c h b
  | _=>exact c (by simpa [exitTo] using h) b
theorem Gz{P:Program}{ro:Option Nat}{m b:Machine}(h:StepsIn (Machine.fenced P (FW ro)) P m b):Steps P m b:=StepsIn.steps h
theorem wR{P:Program}{c:Code}{a:Act}{w:World}{R:Act->World->Prop}(b:Frame)(h:c.wpIn (FW b.roundOf) 0 P (λe a w=>e = .normal/\R a w) a w)(k:List Item)(cs:List Frame) :
 ∃f w',R f w'/\Steps P (lone (b.atR a (.code c :: k)) cs w) (lone (b.atR f k) cs w'):=by
 obtain⟨e,f,w',⟨he,i⟩,d⟩:=h b k cs rfl trivial (λ_ h=>by simp[FW,Fence.wide]at h)
 subst he
 exact⟨f,w',i,Gz d⟩
theorem Dd{H:aa}{r:Ref}{n:Nat}{b:AV}(h:qM H r=some (n,b)) : ∃st a f,H.get r=some ⟨0,[.v (.int .i64 st),b],a,f⟩/\st.toNat=n:=by
 unfold qM at h
 split at h
 ·rename_i st c a f d
  cases h
  exact⟨st,a,f,d,rfl⟩
 ·cases h
structure D8 (r r':Loop):Prop where
 tmps:r'.tmps=r.tmps
 params:r'.params=r.params
 assign:r'.assign=r.assign
 body:r'.body=r.body
theorem nV{H:aa}{r:Ref}{l:Loc}{n:Nat}{p:AV}(F:cT M ι H.get w)(hD:jA ι H)(W:ι r=some l)(ha:qM H r=some (n,p)) :
 ∃nt ps assign body tm y,p = .lp 0 nt ps assign body tm/\w.heap[l.b]?=some (.loop y)/\y.params=ps.toArray/\y.assign=assign/\y.body=body/\y.tmps.size=nt/\(∀t,VR M ι (cm tm t) (y.tmps.getD t undef))/\ph n y /\
  (∀D c,D8 y c->ph D c->cT M ι (H.put r (some (kR D p))).get (aJ w l.b (.loop c))/\kb M ι H.get w M ι (H.put r (some (kR D p))).get (aJ w l.b (.loop c))/\jA ι (H.put r (some (kR D p)))) /\
  ∀c,cT M ι (H.put r none).get (aJ w l.b (.loop c))/\kb M ι H.get w M ι (H.put r none).get (aJ w l.b (.loop c))/\jA ι (H.put r none):=by
 obtain⟨st,a,f,I,Kn⟩:=Dd ha
 obtain⟨l',S,hb⟩:=F.live r _ I
 rw[W]at S;cases S
 rcases hb.objOk rfl with ⟨n0,nt,ps,as,bd,tm,y,Y,Z,B,T,X,h6,h7,h8,h9,Kp⟩ | ⟨_,_,_,_,B,_⟩ | ⟨_,_,_,_,_,_,_,_,B,_⟩
 case inr.inl=>simp at B
 case inr.inr=>simp at B
 simp only[q9,AV.v.injEq,Value.int.injEq,true_and,and_true]at B
 obtain⟨e1,e2⟩:=B
 subst e2
 have hn:n0=n:=by rw[<-Kn,e1];simp
 subst hn
 have Kr:l.b<w.heap.size:=(dz.1 T).1
 have hM : ∀o x,M l.b o=some x->False:=by
  intro o x U
  have:=F.mem _ _ _ U
  simp[World.cell?,T]at this
 have x6:l.esz=0:=hb.esz
 have j : ∀c d,∀q k,(H.put r d).get q=some k->q≠r ->∃m,ι q=some m/\ib M ι (aJ w l.b (.loop c)) m k:=by
  intro c d q k i z
  rw[aa.aj,if_neg z]at i
  obtain⟨m,O,R⟩:=F.live q k i
  have Kq:l.b≠m.b:=λe=>z (F.inj q r k _ m l i I O W e.symm)
  exact⟨m,O,R.bm (λ_ _ _ h=>h) (λ_ _ h=>h) (cu Kq) R.frozen⟩
 have C : ∀c,∀b o x,M b o=some x->(aJ w l.b (.loop c)).cell? ⟨b,o,none⟩=some x:=by
  intro c b o x U
  have z:l.b≠b:=λe=>hM o x (e ▸ U)
  rw[World.cell?_of_block (w:=w) (cu z)]
  exact F.mem b o x U
 have u : ∀(d:Option ax) q k,(H.put r d).get q=some k ->∃K,H.get q=some K:=by
  intro d q k i
  rw[aa.aj]at i
  split at i
  ·rename_i e;exact⟨_,e ▸ I⟩
  ·exact⟨k,i⟩
 have J : ∀(d:Option ax) q G k k' m V,(H.put r d).get q=some k->(H.put r d).get G=some k'->ι q=some m->ι G=some V->m.b=V.b->q=G:=by
  intro d q G k k' m V Y Z B T X
  obtain⟨K,g1⟩:=u d q k Y
  obtain⟨k1,g2⟩:=u d G k' Z
  exact F.inj q G K k1 m V g1 g2 B T X
 have fwd : ∀(d:Option ax) c,kb M ι H.get w M ι (H.put r d).get (aJ w l.b (.loop c)):=by
  intro d c
  refine⟨rfl,rfl,rfl,by simp[aJ],λb _ Ko=>cu (Ko r _ l I W),λ_ _ _ h=>h,λ_ _ h=>h,λq k m Y Z=>?_,λ_ _ _ h => .inl h⟩
  obtain⟨K,g1⟩:=u d q k Y
  exact .inr ⟨q,K,m,g1,Z,rfl⟩
 have L : ∀d:Option ax,jA ι (H.put r d):=by
  intro d q lq i
  rw[aa.b8 _ _ _ (by rw[I];rfl)]
  exact hD q lq i
 refine⟨nt,ps,as,bd,tm,y,rfl,T,X,h6,h7,h8,h9,Kp,λD c N Q=>⟨⟨C c,λq k i=>?_,J _⟩,fwd _ c,L _⟩,λc=>⟨⟨C c,λq k i=>?_,J _⟩,fwd _ c,L _⟩⟩
 ·by_cases s:q=r
  ·subst s
   rw[aa.aj,if_pos rfl]at i
   cases i
   refine⟨l,W,gw.BM (.inl ⟨D,nt,ps,as,bd,tm,c,rfl,rfl,rfl,cV Kr,by rw[N.params];exact X,by rw[N.assign];exact h6,by rw[N.body];exact h7,by rw[N.tmps];exact h8,by rw[N.tmps];exact h9,Q⟩) x6 hM⟩
  ·exact j c _ q k i s
 ·by_cases s:q=r
  ·rw[aa.aj,if_pos s]at i
   cases i
  ·exact j c _ q k i s
theorem De{H:aa}{d nt:Nat}{tm:List AV}{a:Act}{ps:Array Tmp}{assign body:Code}{fn:FuncId}(B:cT M ι H.get w)(S:jA ι H)(X:TR M ι tm a)(U:a.tmps.size=nt){s:World}
 (F:s=(w.alloc (.deferred (some []))).alloc (.loop { state := .ready,pending:=none,fn,tmps:=a.tmps,params:=ps,assign,body,defers:=w.heap.size})) :
 let r:Ref:=⟨d,nt,H.gen d nt,0⟩
 let c:=dm ι r ⟨w.heap.size+1,0,0⟩
 cT M c (aa.get ((r,some (kR 0 (.lp 0 nt ps.toList assign body tm))) :: H)) s/\kb M ι H.get w M c (aa.get ((r,some (kR 0 (.lp 0 nt ps.toList assign body tm))) :: H)) s /\
  jA c ((r,some (kR 0 (.lp 0 nt ps.toList assign body tm))) :: H)/\s.heap[w.heap.size]?=some (.deferred (some [])):=by
 intro r c
 have hq:ι r=none:=S.fresh d nt 0
 have n:=qR (l:=⟨w.heap.size+1,0,0⟩) hq
 have f:s.heap=(w.heap.push (.deferred (some []))).push (.loop { state := .ready,pending:=none,fn,tmps:=a.tmps,params:=ps,assign,body,defers:=w.heap.size}):=by rw[F];rfl
 have j : ∀b,b<w.heap.size->s.heap[b]?=w.heap[b]?:=by
  intro b L
  rw[f,qn (by simp;omega),<-ey,qn L,<-ey]
 have J:s.heap[w.heap.size]?=some (.deferred (some [])):=by rw[f,qn (by simp),<-ey];simp
 have K:s.heap[w.heap.size+1]?=some (.loop { state := .ready,pending:=none,fn,tmps:=a.tmps,params:=ps,assign,body,defers:=w.heap.size}):=by rw[f,Array.getElem?_push];simp
 have p : ∀b o x,M b o=some x->b<w.heap.size:=λb o x h=>World.block_lt_of_cell? w ⟨b,o,none⟩ (B.mem b o x h)
 have m : ∀q,aa.get ((r,some (kR 0 (.lp 0 nt ps.toList assign body tm))) :: H) q=if r=q then some (kR 0 (.lp 0 nt ps.toList assign body tm)) else H.get q:=λq=>rfl
 refine⟨⟨λb o x h=>?_,λq k h=>?_,λq Z k k' i N D u Y h4 W=>?_⟩,⟨by rw[F];rfl,by rw[F];rfl,by rw[F];rfl,by rw[f];simp;omega,λb L _=>j b L,λ_ _ _ h=>h,n,λq k i D u=>?_,λ_ _ _ h => .inl h⟩,λq i h=>?_,J⟩
 ·rw[World.cell?_of_block (w:=w) (j b (p b o x h))]
  exact B.mem b o x h
 ·rw[m]at h
  split at h
  ·rename_i e
   subst e
   cases h
   refine⟨⟨w.heap.size+1,0,0⟩,by simp[c,dm],gw.BM (.inl ⟨0,nt,ps.toList,assign,body,tm,_,rfl,rfl,rfl,K,by simp,rfl,rfl,U,λt=>(X.at_ t).mono (λ_ _ _ h=>h) c n,⟨rfl,rfl⟩⟩) rfl ?_⟩
   intro o x T
   have:=p _ _ _ T
   simp only at this
   omega
  ·obtain⟨i,I,v⟩:=B.live q k h
   exact⟨i,n q i I,v.bm (λ_ _ _ h=>h) n (j _ v.lt) v.frozen⟩
 ·have one : ∀ {q:Ref} {k i},aa.get ((r,some (kR 0 (.lp 0 nt ps.toList assign body tm))) :: H) q=some k->c q=some i->(q=r/\i.b=w.heap.size+1)\/(q≠r/\H.get q=some k/\ι q=some i/\i.b<w.heap.size):=by
   intro q k i h y
   rw[m]at h
   split at h
   ·rename_i e
    subst e
    simp only[c,dm,if_true]at y
    cases y
    exact .inl ⟨rfl,rfl⟩
   ·rename_i e
    simp only[c,dm]at y
    rw[if_neg (jB e)]at y
    obtain⟨N,C,G⟩:=B.live q k h
    rw[y]at C;cases C
    exact .inr ⟨jB e,h,y,G.lt⟩
  rcases one D Y with ⟨O,R⟩ | ⟨O,R,V,e4⟩<;>rcases one u h4 with ⟨f1,f2⟩ | ⟨f1,f2,f3,f4⟩
  ·rw[O,f1]
  ·omega
  ·omega
  ·exact B.inj q Z k k' i N R f2 V f3 W
 ·rw[m]at D
  simp only[c,dm]at u
  split at D
  ·rename_i e
   rw[if_pos e.symm]at u
   cases u
   exact .inl (oN _)
  ·rename_i e
   rw[if_neg (jB e)]at u
   exact .inr ⟨q,k,i,D,u,rfl⟩
 ·simp only[c,dm]at h
  simp only[aa.gen]
  by_cases z:q=r
  ·subst z
   rw[if_pos ⟨rfl,rfl⟩]
   exact iT _
  ·rw[if_neg z]at h
   have:=S q i h
   split
   ·rename_i Q;rw[<-Q.1,<-Q.2]at this;exact rb this
   ·exact this
theorem AX : ∀(args:List AV)(t:Nat),cm args t=(args[t]?).getD AV.undef:=by
 intro args
 induction args with
 | nil=>intro t;simp[cm]
 | cons x l b=>
  intro t
  cases t with
  | zero=>simp[cm]
  | succ t=>simp[cm,b]
def EN(tmps:Array Value):ResultVar->Sem Value
 | .tmp t=>pure (tmps.getD t undef)
 | .cell b t=>asAddr (tmps.getD b undef) >>= λx=>loadVar t x
theorem y4(fn:Func)(tmps:Array Value):results fn tmps=fn.results.mapM (EN tmps) >>= λb=>pure (if h:b.size=1 then b[0] else .tuple b):=by
 unfold results
 congr 1
theorem y3{fn:Func}{st:St}{nt:Nat}(J:mU M ι st nt a w){x:AV}(h:md E.P fn st=some x) : ∃v,(results fn a.tmps).run E.P w = .ok v w/\VR M ι x v:=by
 have one : ∀(H:ResultVar)(y:AV),fx E.P st H=some y ->∃v,(EN a.tmps H).run E.P w = .ok v w/\VR M ι y v:=by
  intro H y q
  cases H with
  | tmp t=>
   simp only[fx,cz]at q
   subst q
   exact⟨_,rfl,J.tr.at_ t⟩
  | cell b t=>
   simp only[fx]at q
   split at q
   ·rename_i r i j g n Q K N
    split at q
    ·rename_i k U
     have G:=J.tr.at_ b
     rw[Q]at G
     obtain⟨v,p,m⟩:=Ap K N J.sim G U q
     refine⟨v,?_,m⟩
     simp only[EN]
     generalize a.tmps.getD b undef=u at G p ⊢
     cases G
     simpa [asAddr,Instr.loadAt,Instr.sureAddr] using p
    ·cases q
   ·cases q
 have B : ∀(C:List ResultVar)(s:List AV),C.mapM (fx E.P st)=some s ->∃f,(C.mapM (EN a.tmps)).run E.P w = .ok f w/\fq M ι s f:=by
  intro C
  induction C with
  | nil=>intro s h;simp at h;subst h;exact⟨[],rfl,fq.nil⟩
  | cons r C L=>
   intro s h
   simp only[jQ,lh,lV,dL]at h
   obtain⟨y,q,I,d,h⟩:=h
   simp at h
   subst h
   obtain⟨v,p,m⟩:=one r y q
   obtain⟨f,O,V⟩:=L I d
   refine⟨v :: f,?_,fq.cons m V⟩
   rw[jQ]
   simp only[Sem.run_bind,p,Result.andThen_ok,O,Sem.run_pure]
 unfold md at h
 have z : ∀s,fn.results.toList.mapM (fx E.P st)=some s ->∃f:List Value,(results fn a.tmps).run E.P w = .ok (if h:f.toArray.size=1 then f.toArray[0] else .tuple f.toArray) w/\fq M ι s f:=by
  intro s d
  obtain⟨f,p,m⟩:=B _ s d
  refine⟨f,?_,m⟩
  rw[y4]
  simp only[Array.mapM_eq_mapM_toList,Sem.run_bind,Sem.run_map,p,Result.andThen_ok,Sem.run_pure]
 split at h
 ·rename_i d
  injection h with h
  subst h
  obtain⟨f,p,m⟩:=z _ d
  have:f=[]:=rj (by rw[<-m.1];rfl)
  subst this
  exact⟨_,p,.v rfl⟩
 ·rename_i y d
  injection h with h
  subst h
  obtain⟨f,p,m⟩:=z _ d
  obtain⟨v,rfl⟩:=vI m.1.symm
  exact⟨v,by simpa using p,m.2 0 y v rfl rfl⟩
 ·rename_i s F D d
  injection h with h
  subst h
  obtain⟨f,p,m⟩:=z _ d
  have S:f.length≠1:=by
   intro h
   rw[<-m.1]at h
   obtain⟨y,q⟩:=vI h
   exact D y q
  refine⟨.tuple f.toArray,?_,.tup ?_ (by simpa using m.1) λi c u R T=>m.2 i c u R (by simpa using T)⟩
  ·rw[p,dif_neg (by simpa using S)]
  ·intro e
   exact F e
 ·cases h
def marks(ds:List Nat):List Deferred:=ds.map λD => { target := .collected D,args := #[]}
def jq(w w':World)(ds:List Nat):Prop:=ds.Nodup /\∀D∈ds,w.heap.size<=D/\w'.heap[D]?=some (.deferred (some []))
theorem sE{M:Mem}{ι:Map}{g:bD}{w:World}(m:cT M ι g w){D:Nat}{x:Option (List Deferred)}(h:w.heap[D]?=some (.deferred x)) : ∀r k l,g r=some k->ι r=some l->l.b≠D:=by
 intro r k l j n e
 obtain⟨p,d,i⟩:=m.live r k j
 rw[n]at d;cases d
 rcases tT k.esz with f | f
 ·rcases(i.objOk f).obj with ⟨_,c⟩ | ⟨_,_,c⟩ | ⟨_,_,_,_,_,_,c⟩
  ·rw[e,h]at c;cases c
  ·rw[e,h]at c;cases c
  ·rw[e,h]at c;cases c
 ·obtain⟨_,_,_,c,_⟩:=(i.cellsOk f).heap
  rw[e,h]at c;cases c
theorem jq.fwd{w b d:World}{ds:List Nat}{M1 ι1 g1 M2 ι2 g2}(h:jq w b ds)(f:cT M1 ι1 g1 b)(i:kb M1 ι1 g1 b M2 ι2 g2 d):jq w d ds:=
 ⟨h.1,λD e=>⟨(h.2 D e).1,by
  have c:=(h.2 D e).2
  rw[i.chg D (dz.1 c).1 (sE f c)]
  exact c⟩⟩
theorem jq.append{w j i:World}{ds c:List Nat}(p:w.heap.size<=j.heap.size)(h:jq w i ds)(n : ∀D∈ds,D<j.heap.size)(d:jq j i c):jq w i (c++ds):=by
 refine⟨rE.2 ⟨d.1,h.1,λa s b q e=>?_⟩,λD m=>?_⟩
 ·have:=(d.2 a s).1
  have:=n b q
  omega
 ·rcases fc.1 m with f | f
  ·exact⟨ld p (d.2 D f).1,(d.2 D f).2⟩
  ·exact h.2 D f
def qQ(P:Program)(rd:Option Ref)(M:Mem)(ι:Map)(st:St)(a:Act)(w:World)(nt:Nat)(st':St)(b:Frame)(cs:List Frame)(m:Machine):Prop:=match rd with
 | none=>b.roundOf=none->b.kind = .normal ->∃h w' e ds,(∃M' A,mU M' A st' nt h w'/\kb M ι st.hp.get w M' A st'.hp.get w')/\h.defers=marks ds++a.defers/\jq w w' ds /\
  Steps P m (lone { b.atR h e with mode := .returning} cs w')
 | some r =>∀l c d,ι r=some l->b.roundOf=some l.b->b.kind = .normal->cs=c :: d ->∃n f w',qM st'.hp r=some (n,f)/\n≠1 /\
  (∃M' A,cT M' A st'.hp.get w'/\kb M ι st.hp.get w M' A st'.hp.get w'/\jA A st'.hp)/\Steps P m (lone (c.finish (.bool (n == 0))) d w')
theorem qQ.of_steps{P:Program}{rd:Option Ref}{M x:Mem}{ι d:Map}{st f st':St}{a I:Act}{w p:World}{nt:Nat}{b:Frame}{cs:List Frame}{m H:Machine}{ds:List Nat}
 (F:b.roundOf=none\/rd≠none->b.kind = .normal->Steps P m H) (u:cT x d f.hp.get p) (s:kb M ι st.hp.get w x d f.hp.get p) (K:I.defers=marks ds++a.defers) (C:jq w p ds) (h:qQ P rd x d f I p nt st' b cs H):qQ P rd M ι st a w nt st' b cs m:=by
 unfold qQ at h ⊢
 cases rd with
 | none=>
  intro q i
  obtain⟨L,w',todo,B,⟨M',A,T,j⟩,z,v,e⟩:=h q i
  refine⟨L,w',todo,B++ds,⟨M',A,T,s.trans j⟩,?_,(C.fwd u j).append s.size (λD N=>(dz.1 (C.2 D N).2).1) v,(F (.inl q) i).trans e⟩
  rw[z,K]
  simp[marks]
 | some r=>
  intro l c t J q G y
  obtain⟨n,inf,w',Q,R,⟨M',A,S,U,O⟩,e⟩:=h l c t (s.map r l J) q G y
  exact⟨n,inf,w',Q,R,⟨M',A,S,s.trans U,O⟩,(F (.inr (by simp)) G).trans e⟩
theorem jY{w w':World}:jq w w' []:=⟨List.nodup_nil,λD h=>by cases h⟩
def yh(E:Env)(ok:Array Oper->Bool)(n:Nat):Prop:=
 ∀(rd:Option Ref)(nt dep:Nat)(c:List Item)(st st':St),bo E n rd nt dep c st=some st'->(∀i∈c,gH ok i=true) ->∀(M:Mem)(ι:Map)(a:Act)(w:World),mU M ι st nt a w ->
  ∀(b:Frame)(cs:List Frame),qQ E.P rd M ι st a w nt st' b cs (lone (b.atR a c) cs w)
theorem xw{P:Program}{fr:Frame}{cs:List Frame} : ∀(ds:List Nat)(w:World),fr.mode = .returning->ds.Nodup->(∀D∈ds,w.heap[D]?=some (.deferred (some []))) ->
 ∃w',Steps P (lone { fr with defers:=marks ds} cs w) (lone { fr with defers:=[]} cs w')/\w'.os=w.os/\w'.tape=w.tape/\w'.output=w.output/\w'.heap.size=w.heap.size /\∀b,b ∉ ds->w'.heap[b]?=w.heap[b]?:=by
 intro ds
 induction ds with
 | nil=>intro w _ _ _;exact⟨w,Steps.refl _ _,rfl,rfl,rfl,rfl,λ_ _=>rfl⟩
 | cons D ds v=>
  intro w j f m
  have s:=run_takeDeferred (P:=P) (m D (gu ..))
  have c:=step_collected (P:=P) (fr := { fr with defers:=marks (D :: ds)}) (cs:=cs) (w:=w) (d := { target := .collected D,args := #[]}) (r:=D) (ds:=marks ds) (by simp[j]) rfl rfl s
  obtain⟨w',u,y,z,q,x,t⟩:=v (w.putObj D (.deferred none)) j (nc.1 f).2 (λp i=>by
   rw[World.putObj_heap_other (by intro e;subst e;exact(nc.1 f).1 i)]
   exact m p (gv _ i))
  refine⟨w',Steps.trans (.one c) (by simpa using u),y,z,q,by rw[x];simp,λb n=>?_⟩
  rw[t b (λh=>n (gv _ h)),World.putObj_heap_other (by intro e;subst e;exact n (gu ..))]
theorem cT.other{M:Mem}{ι:Map}{g:bD}{w w':World}(e:cT M ι g w){ds:List Nat}(d : ∀D∈ds,w.heap[D]?=some (.deferred (some [])))(h : ∀b,b ∉ ds->w'.heap[b]?=w.heap[b]?):cT M ι g w':=by
 refine⟨λb o x m=>?_,λr k j=>?_,e.inj⟩
 ·have f:=e.mem b o x m
  have c:b ∉ ds:=by
   intro c
   have:=d b c
   simp[World.cell?,this]at f
  rw[World.cell?_of_block (w:=w) (h b c)]
  exact f
 ·obtain⟨l,i,c⟩:=e.live r k j
  exact⟨l,i,c.bm (λ_ _ _ h=>h) (λ_ _ h=>h) (h l.b λn=>sE e (d _ n) r k l j i rfl) c.frozen⟩
theorem uO{ok:Array Oper->Bool}(hE:E.Ok ok){n:Nat}(hn:yh E ok n){dep:Nat}{f:FuncId}{args:List AV}{H H':aa}{x:AV}(h:oW E (bo E n) dep f args H=some (x,H')):dC E.P (.fn f) args H x H':=by
 unfold oW at h
 obtain⟨S,h⟩:=cc.1 h
 obtain⟨fn,j,y,s⟩:=hE.fns f S
 rw[j]at h
 simp only at h
 split at h
 ·rename_i c K
  obtain⟨hlen,h⟩:=cc.1 h
  split at h
  ·rename_i st N
   simp only[aC]at h
   obtain⟨x',I,h⟩:=h
   injection h with h1 G
   subst h1;subst G
   refine⟨⟨fn,j,y,by rw[K];rfl⟩,?_⟩
   intro M ι w us hS u X cs
   have x6:=X.1
   have hO:mU M ι ⟨args,H⟩ fn.ntmps { tmps:=us.toArray++Array.replicate (fn.ntmps - us.toArray.size) undef,defers:=[]} w:=by
    refine⟨hS,u,⟨?_⟩,by simp;omega⟩
    intro t
    rw[AX,pb]
    rcases cr t args.length with F | F
    ·rw[bG F,yG (by simp;omega),bQ]
     have Y:us[t]?=some (us[t]'(by omega)):=bG _
     simp only[List.getElem?_toArray,Y,bQ]
     exact X.2 t _ _ (bG F) Y
    ·rw[lX F,Array.getElem?_append_right (by simp;omega)]
     have : ∀k:Nat,((Array.replicate (fn.ntmps - us.toArray.size) undef)[k]?).getD undef=undef:=by
      intro k
      rw[yC]
      split<;>rfl
     rw[this]
     exact .v rfl
   let b:Frame := { (default:Frame)with fn:=f,kind := .normal}
   have p:Frame.enter E.P f us.toArray .normal=b.atR { tmps:=us.toArray++Array.replicate (fn.ntmps - us.toArray.size) undef,defers:=[]} [.code c]:=by
    simp[Frame.enter,Frame.atR,j,K,b]
    rfl
   obtain⟨B,w',todo,ds,⟨M',A,e,q⟩,C,m,d⟩:=hn none fn.ntmps dep [.code c] ⟨args,H⟩ st N (by intro i V;simp at V;subst V;exact s c K) M ι _ w hO b cs rfl rfl
   rw[<-p]at d
   simp only[og]at C
   obtain⟨O,G,h3,h4,h5,h6,W⟩:=xw (P:=E.P) (fr := { b.atR B todo with mode := .returning}) (cs:=cs) ds w' rfl m.1 (λD u=>(m.2 D u).2)
   have L : { { b.atR B todo with mode := .returning} with defers:=marks ds} = { b.atR B todo with mode := .returning}:=by rw[<-show B.defers=marks ds from C];rfl
   rw[L]at G
   have z:=e.sim.other (λD u=>(m.2 D u).2) W
   have U:kb M ι H.get w M' A st.hp.get O:=by
    refine⟨h3.trans q.os,h4.trans q.tape,h5.trans q.output,by rw[h6];exact q.size,λJ Q R=>?_,q.mem,q.map,q.live,q.new⟩
    rw[W J λu=>absurd (m.2 J u).1 (by omega)]
    exact q.chg J Q R
   obtain⟨v,Z,T⟩:=y3 (w:=O) ⟨z,e.dom,e.tr,e.nt⟩ I
   exact⟨.returned v,O, { { b.atR B todo with mode := .returning} with defers:=[]},⟨v,rfl,M',A,T,z,U,e.dom⟩,Steps.trans d G,rfl,rfl,rfl,rfl,fn,j,Z⟩
  ·cases h
 ·cases h
end
end
section
theorem qy{g:bD}(r:Ref) : ∀(n m:Nat)(x y:AV)(u:List ax),view g n x=some y->ad r m y u=(y,u):=by
 intro n
 induction n with
 | zero=>intro m x y u h;simp[view]at h
 | succ n D=>
  intro m x y u h
  cases m with
  | zero=>rfl
  | succ m=>
   have d : ∀(cs s e:List AV),cs.mapM (view g n)=some s->s.foldl (λ(p:List AV × List ax) c=>(p.1++[(ad r m c p.2).1],(ad r m c p.2).2)) (e,u)=(e++s,u):=by
    intro cs
    induction cs with
    | nil=>intro s e h;simp at h;subst h;simp
    | cons c cs B=>
     intro s e h
     simp only[jQ,lh,lV,dL]at h
     obtain⟨y,z,C,q,h⟩:=h
     simp at h
     subst h
     rw[lg,D m c y u z,B C (e++[y]) q]
     simp
   cases x with
   | agg cs=>
    simp only[view,aC]at h
    obtain⟨s,q,rfl⟩:=h
    have:=d cs s [] q
    simp only[ad]
    rw[this]
    simp
   | tup cs=>
    simp only[view,aC]at h
    obtain⟨s,q,rfl⟩:=h
    have:=d cs s [] q
    simp only[ad]
    rw[this]
    simp
   | v x=>simp[view]at h;subst h;rfl
   | cE=>simp[view]at h;subst h;rfl
   | iptr=>simp[view]at h;subst h;rfl
   | fsl=>simp[view]at h
   | aD r' off len cap=>
    simp only[view]at h
    split at h
    ·split at h
     ·cases h;rfl
     ·cases h
    ·cases h
   | nsl=>simp[view]at h
   | dsl r' off len cap=>
    simp only[view]at h
    split at h
    ·split at h
     ·simp only[aC]at h;obtain⟨_,_,rfl⟩:=h;rfl
     ·cases h
    ·cases h
   | ptr r' i j=>
    simp only[view]at h
    split at h
    ·split at h
     ·cases h;rfl
     ·simp only[aC]at h;obtain⟨_,_,rfl⟩:=h;rfl
    ·cases h
   | fn f a b=>
    simp only[view]at h
    split at h
    ·cases h;rfl
    ·cases h
   | ifc t x=>
    simp only[view,aC]at h
    obtain⟨y,z,rfl⟩:=h
    simp only[ad]
    rw[D m x y u z]
   | yld=>simp[view]at h
   | mp=>simp[view]at h
   | ch=>simp[view]at h
   | m7=>simp[view]at h
   | lp=>simp[view]at h
def aq(g:bD):Nat->AV->List Ref
 | 0,_=>[]
 | n+1,x=>
  match x with
  | .agg cs | .tup cs=>cs.flatMap (aq g n)
  | .aD r 0 len _=>(match g r with | some b=>if b.cS then [] else [r] | none=>[])
  | .dsl r 0 len _=>(match g r with | some b=>if b.cS then [] else b.es.flatMap (aq g n)++[r] | none=>[])
  | .mp r=>[r]
  | .ifc _ x=>aq g n x
  | _=>[]
def aM(g:bD):Nat->AV->List Ref
 | 0,_=>[]
 | n+1,x=>
  match x with
  | .agg cs | .tup cs=>cs.flatMap (aM g n)
  | .aD r 0 len _=>(match g r with | some b=>if b.cS then [r] else [] | none=>[r])
  | .dsl r 0 len _=>(match g r with | some b=>if b.cS then r :: b.es.flatMap (ab g n) else b.es.flatMap (aM g n) | none=>[r])
  | .mp _=>[]
  | .ifc _ x=>aM g n x
  | x=>ab g (n+1) x
theorem qZ{g:bD} : ∀(n:Nat)(x:AV)(r:Ref),r∈aq g n x->r∈ab g n x:=by
 intro n
 induction n with
 | zero=>intro x r h;simp[aq]at h
 | succ n f=>
  intro x r h
  unfold aq at h
  split at h
  ·simp only[dt]at h
   obtain⟨c,d,e⟩:=h
   simp only[ab,dt]
   exact⟨c,d,f c r e⟩
  ·simp only[dt]at h
   obtain⟨c,d,e⟩:=h
   simp only[ab,dt]
   exact⟨c,d,f c r e⟩
  ·split at h
   ·split at h
    ·cases h
    ·simpa [ab] using h
   ·cases h
  ·split at h
   ·rename_i b i
    split at h
    ·cases h
    ·simp only[fc,dt,kE]at h
     simp only[ab,i,dg,dt]
     rcases h with ⟨c,d,e⟩ | rfl
     ·exact .inr ⟨c,d,f c r e⟩
     ·exact .inl rfl
   ·cases h
  ·simpa [ab] using h
  ·simp only[ab];exact f _ r h
  ·cases h
theorem sV{g:bD} : ∀(n:Nat)(x:AV),(ab g n x).Nodup->(aq g n x).Nodup /\∀r∈aq g n x,r ∉ aM g n x:=by
 intro n
 induction n with
 | zero=>intro x h;simp[aq]
 | succ n L=>
  intro x h
  have i : ∀(n:Nat)(x:AV)(r:Ref),r∈aM g n x->r∈ab g n x:=by
   intro n
   induction n with
   | zero=>intro x r h;simp[aM]at h
   | succ n y=>
    intro x r h
    unfold aM at h
    split at h
    ·simp only[dt]at h
     obtain⟨c,z,f⟩:=h
     simp only[ab,dt]
     exact⟨c,z,y c r f⟩
    ·simp only[dt]at h
     obtain⟨c,z,f⟩:=h
     simp only[ab,dt]
     exact⟨c,z,y c r f⟩
    ·split at h
     ·split at h
      ·simpa [ab] using h
      ·cases h
     ·simpa [ab] using h
    ·split at h
     ·rename_i b v
      split at h
      ·simpa [ab,v] using h
      ·simp only[dt]at h
       obtain⟨c,z,f⟩:=h
       simp only[ab,v,dg,dt]
       exact .inr ⟨c,z,y c r f⟩
     ·rename_i v
      simpa [ab,v] using h
    ·cases h
    ·simp only[ab];exact y _ r h
    ·exact h
  have m : ∀cs:List AV,(cs.flatMap (ab g n)).Nodup->(cs.flatMap (aq g n)).Nodup /\∀r∈cs.flatMap (aq g n),r ∉ cs.flatMap (aM g n):=by
   intro cs
   induction cs with
   | nil=>intro _;simp
   | cons c cs C=>
    intro K
    rw[gz,rE]at K
    obtain⟨D,F,G⟩:=K
    obtain⟨R,Q⟩:=L c D
    obtain⟨O,N⟩:=C F
    have s : ∀r,r∈cs.flatMap (aq g n)->r∈cs.flatMap (ab g n):=by
     intro r f
     simp only[dt]at f ⊢
     obtain⟨d,B,f⟩:=f
     exact⟨d,B,qZ n d r f⟩
    have p : ∀r,r∈cs.flatMap (aM g n)->r∈cs.flatMap (ab g n):=by
     intro r f
     simp only[dt]at f ⊢
     obtain⟨d,B,f⟩:=f
     exact⟨d,B,i n d r f⟩
    refine⟨?_,?_⟩
    ·rw[gz,rE]
     exact⟨R,O,λa I b v e=>G a (qZ n c a I) b (s b v) e⟩
    ·intro r f u
     rw[gz,fc]at f u
     rcases f with f | f<;>rcases u with u | u
     ·exact Q r f u
     ·exact G r (qZ n c r f) r (p r u) rfl
     ·exact G r (i n c r u) r (s r f) rfl
     ·exact N r f u
  cases x with
  | agg cs=>simpa [aq,aM] using m cs (by simpa [ab] using h)
  | tup cs=>simpa [aq,aM] using m cs (by simpa [ab] using h)
  | aD r off len cap=>
   cases off with
   | zero=>
    simp only[aq,aM]
    cases J:g r with
    | none=>simp
    | some b=>cases v:b.cS<;>simp[v]
   | succ off=>simp[aq]
  | dsl r off len cap=>
   cases off with
   | zero=>
    simp only[aq,aM]
    cases J:g r with
    | none=>simp
    | some b=>
     cases v:b.cS with
     | true=>simp[v]
     | false=>
      simp only[ab,J,nc]at h
      obtain⟨f,H⟩:=h
      obtain⟨D,F⟩:=m b.es H
      have s : ∀q,q∈b.es.flatMap (aq g n)->q∈b.es.flatMap (ab g n):=by
       intro q j
       simp only[dt]at j ⊢
       obtain⟨d,B,j⟩:=j
       exact⟨d,B,qZ n d q j⟩
      have p : ∀q,q∈b.es.flatMap (aM g n)->q∈b.es.flatMap (ab g n):=by
       intro q j
       simp only[dt]at j ⊢
       obtain⟨d,B,j⟩:=j
       exact⟨d,B,i n d q j⟩
      simp only[v,kF,if_false]
      refine⟨?_,?_⟩
      ·rw[rE]
       exact⟨D,by simp,λa I c z e=>by simp at z;subst z;subst e;exact f (s _ I)⟩
      ·intro q j u
       rw[fc]at j
       rcases j with j | j
       ·exact F q j u
       ·simp at j;subst j;exact f (p _ u)
   | succ off=>simp[aq]
  | mp r=>simp[aq,aM]
  | ifc t x=>simpa [aq,aM] using L x (by simpa [ab] using h)
  | _=>simp[aq]
def Out(g:bD)(q:Ref)(b:ax):Prop:=
 (∃k len,g q=some k/\k.cS=false/\k.arr=true/\b=⟨k.esz,k.es.take len,true,false⟩)\/(∃k c,g q=some k/\gj g q=some c/\(∀e∈c,flat depth e=true)/\b=ig c) \/
 ∃k zs,g q=some k/\k.cS=false/\k.arr=false/\0<k.esz/\zs.length=k.es.length/\b=⟨k.esz,zs,false,false⟩
def zU(M:Mem)(A ι:Map)(g:bD)(w:World)(q:Ref)(b:ax):Prop :=∀k l,g q=some k->ι q=some l->k.arr=false->0<k.esz ->
 (∀(i j:Nat) z x,b.es[i]?=some z->z.cells[j]?=some x ->∃u,w.cell? ⟨l.b,i * k.esz+j,none⟩=some u/\VR M A x u) /\∀z∈b.es,z.cells.length=k.esz
theorem VR.HA{M:Mem}{ι:Map}{x:AV}{u:Value}(h:VR M ι x u)(c : ∀cs,x ≠ .agg cs):x.cells=[x]/\u.cells = #[u]:=by
 cases h with
 | agg=>exact absurd rfl (c _)
 | v b=>
  refine⟨rfl,?_⟩
  cases u<;>first | rfl | simp[scalar]at b
 | m7 b=>exact⟨rfl,by cases u<;>first | rfl | (cases b)⟩
 | _=>exact⟨rfl,rfl⟩
theorem uE{g:bD}{q:Ref}{b:List AV}(h:gj g q=some b) : ∃k,g q=some k/\k.esz=0/\k.es = .v (.bool true) :: b:=by
 unfold gj at h
 split at h
 ·rename_i e f c
  cases h
  exact⟨_,c,rfl,rfl⟩
 ·cases h
theorem BG{M:Mem}{ι:Map}{g:bD}{w:World}{R:List Ref}(hS:cT M ι g w)(r:Ref) : ∀(n:Nat)(x y:AV)(u:Value)(D:List ax),aG g n x=some y->VR M ι x u ->
 (∀q∈aM g n x,q∈R) ->
 ∃new:List ax,(ad r n y D).2=D++new/\new.length=(aq g n x).length /\
  (∀(i:Nat) q b,(aq g n x)[i]?=some q->new[i]?=some b->Out g q b) /\
  ∀I:List Loc,(∀(i:Nat) q l,(aq g n x)[i]?=some q->ι q=some l->I[D.length+i]?=some l)->VR (eU M ι g w R) (dF r I) (ad r n y D).1 u /\∀(i:Nat) q b,(aq g n x)[i]?=some q->new[i]?=some b->zU (eU M ι g w R) (dF r I) ι g w q b:=by
 intro n
 induction n with
 | zero=>intro x y u D h;simp[aG]at h
 | succ n ih=>
  intro x y u D h hv X
  have plain:view g (n+1) x=some y->aq g (n+1) x=[]->(∀q∈ab g (n+1) x,q∈R) ->∃new:List ax,(ad r (n+1) y D).2=D++new/\new.length=(aq g (n+1) x).length /\
   (∀(i:Nat) q b,(aq g (n+1) x)[i]?=some q->new[i]?=some b->Out g q b) /\
   ∀I:List Loc,(∀(i:Nat) q l,(aq g (n+1) x)[i]?=some q->ι q=some l->I[D.length+i]?=some l)->VR (eU M ι g w R) (dF r I) (ad r (n+1) y D).1 u /\∀(i:Nat) q b,(aq g (n+1) x)[i]?=some q->new[i]?=some b->zU (eU M ι g w R) (dF r I) ι g w q b:=by
   intro H K L
   rw[qy r (n+1) (n+1) x y D H]
   exact⟨[],by simp,by rw[K];rfl,by rw[K];intro i q b G;simp at G,λI _=>⟨(pf hS (n+1) x y u H L hv).up _,by rw[K];intro i q b G;simp at G⟩⟩
  have Y : ∀(cs ys:List AV)(us:List Value)(N:List AV)(D:List ax),cs.mapM (aG g n)=some ys->fq M ι cs us->(∀q∈cs.flatMap (aM g n),q∈R) ->
   ∃(new:List ax) (zs:List AV),ys.foldl (λ(p:List AV × List ax) c=>(p.1++[(ad r n c p.2).1],(ad r n c p.2).2)) (N,D)=(N++zs,D++new)/\new.length=(cs.flatMap (aq g n)).length /\
    (∀(i:Nat) q b,(cs.flatMap (aq g n))[i]?=some q->new[i]?=some b->Out g q b) /\
    ∀I:List Loc,(∀(i:Nat) q l,(cs.flatMap (aq g n))[i]?=some q->ι q=some l->I[D.length+i]?=some l)->fq (eU M ι g w R) (dF r I) zs us /\∀(i:Nat) q b,(cs.flatMap (aq g n))[i]?=some q->new[i]?=some b->zU (eU M ι g w R) (dF r I) ι g w q b:=by
   intro cs
   induction cs with
   | nil=>
    intro ys us N D hy U _
    simp at hy
    subst hy
    have:us=[]:=rj (by rw[<-U.1];rfl)
    subst this
    exact⟨[],[],by simp,rfl,by intro i q b G;simp at G,λ_ _=>⟨fq.nil,by intro i q b G;simp at G⟩⟩
   | cons c cs Ku=>
    intro ys us N D hy U Kx
    simp only[jQ,lh,lV,dL]at hy
    obtain⟨y,KL,KQ,Q,KC⟩:=hy
    simp at KC
    subst KC
    cases us with
    | nil=>have:=U.1;simp at this
    | cons u us=>
     have KJ:VR M ι c u:=U.2 0 c u rfl rfl
     have Kz:fq M ι cs us:=⟨by have:=U.1;simpa using this,λi x v hx hv=>U.2 (i+1) x v (by simpa using hx) (by simpa using hv)⟩
     simp only[gz,fc]at Kx
     obtain⟨Ks,H,K,L,h4⟩:=ih c y u D KL KJ (λq G=>Kx q (.inl G))
     obtain⟨KA,zs,h5,h6,h7,h8⟩:=Ku KQ us (N++[(ad r n y D).1]) (D++Ks) Q Kz (λq G=>Kx q (.inr G))
     refine⟨Ks++KA,(ad r n y D).1 :: zs,?_,?_,?_,?_⟩
     ·rw[lg]
      simp only
      rw[H,h5]
      simp
     ·simp[K,h6]
     ·intro i q b G hb
      rw[gz]at G
      rcases cr i (aq g n c).length with O | O
      ·rw[dY O]at G
       rw[dY (by omega)]at hb
       exact L i q b G hb
      ·rw[fS O]at G
       rw[fS (by omega),K]at hb
       exact h7 _ q b G hb
     ·intro I B
      have p1:=h4 I (by
       intro i q l G hl
       refine B i q l ?_ hl
       rw[gz,dY (bL.1 G).1]
       exact G)
      have p2:=h8 I (by
       intro i q l G hl
       have:=B ((aq g n c).length+i) q l (by
        rw[gz,fS (by omega),yB]
        exact G) hl
       rw[iU,K,rz]
       exact this)
      refine⟨fq.cons p1.1 p2.1,λi q b G hb=>?_⟩
      rw[gz]at G
      rcases cr i (aq g n c).length with O | O
      ·rw[dY O]at G
       rw[dY (by omega)]at hb
       exact p1.2 i q b G hb
      ·rw[fS O]at G
       rw[fS (by omega),K]at hb
       exact p2.2 _ q b G hb
  cases x with
  | agg cs=>
   simp only[aG,aC]at h
   obtain⟨ys,Q,rfl⟩:=h
   obtain⟨vs,rfl,U⟩:=hv.AO
   obtain⟨new,zs,H,K,L,h4⟩:=Y cs ys vs.toList [] D Q U (by simpa [aM] using X)
   simp only[ad]
   rw[H]
   refine⟨new,rfl,by simpa [aq] using K,by simpa [aq] using L,λI B=>?_⟩
   have:=h4 I (by simpa [aq] using B)
   exact⟨by simpa using VR.iE.2 this.1,by simpa [aq] using this.2⟩
  | tup cs=>
   simp only[aG,aC]at h
   obtain⟨ys,Q,rfl⟩:=h
   cases hv with | tup h0 hl hh=>
   rename_i vs
   obtain⟨new,zs,H,K,L,h4⟩:=Y cs ys vs.toList [] D Q ⟨by simpa using hl,λi x u hx J=>hh i x u hx (by simpa using J)⟩ (by simpa [aM] using X)
   simp only[ad]
   rw[H]
   refine⟨new,rfl,by simpa [aq] using K,by simpa [aq] using L,λI B=>?_⟩
   obtain⟨this,KN⟩:=h4 I (by simpa [aq] using B)
   simp only[mZ]
   refine⟨.tup ?_ (by simpa using this.1) λi c u hc J=>this.2 i c u hc (by simpa using J),by simpa [aq] using KN⟩
   intro e
   rw[e]at this
   have h5:=this.1
   simp at h5
   have h6:vs.size=0:=by omega
   rw[h6]at hl
   exact h0 (rj hl)
  | aD q off len cap=>
   cases off with
   | succ off=>exact plain (by simpa [aG] using h) (by simp[aq]) (by simpa [aM] using X)
   | zero=>
    simp only[aG]at h
    split at h
    ·rename_i k S
     obtain⟨⟨C,hlen⟩,h⟩:=cc.1 h
     injection h with h
     cases F:k.cS with
     | true=>
      rw[F]at h
      simp only[if_true]at h
      refine plain ?_ (by simp[aq,S,F]) (by
       intro q' f
       refine X q' ?_
       simp only[ab,kE]at f
       simp[aM,S,F,f])
      simp only[view,S,C]
      rw[if_pos ⟨trivial,by omega⟩]
      simp[<-h]
     | false=>
      rw[F]at h
      simp only[kF,if_false]at h
      subst h
      have m:aq g (n+1) (.aD q 0 len cap)=[q]:=by simp[aq,S,F]
      cases hv with | aD hr hb hs ha hc hn Kt x6=>
      rename_i l a c
      have KI:(k.es.take len).length=len:=by rw[ik];omega
      have Kp:k.esz≠0:=by
       obtain⟨l0,Kw,V⟩:=hS.live q k S
       have:=V.pos C
       omega
      refine⟨[⟨k.esz,k.es.take len,true,false⟩],by simp[ad,Kp],by rw[m];rfl,?_,?_⟩
      ·intro i q' b f s
       rw[m]at f
       cases i with
       | succ i=>simp at f
       | zero=>
        simp at f s
        subst f;subst s
        exact .inl ⟨k,len,S,F,C,rfl⟩
      ·intro I B
       have:=B 0 q l (by rw[m];rfl) hr
       simp only[ad,KI,if_neg Kp]
       refine⟨.aD (l:=l) ?_ hb hs ha hc hn Kt x6,λi q' b f s=>?_⟩
       ·unfold dF
        simpa using this
       ·rw[m]at f
        cases i with
        | succ i=>simp at f
        | zero=>
         simp at f
         subst f
         intro k' l' H _ L
         rw[S]at H
         cases H
         rw[C]at L
         cases L
    ·cases h
  | nsl=>simp[aG,view]at h
  | dsl q off len cap=>
   cases off with
   | succ off=>exact plain (by simpa [aG] using h) (by simp[aq]) (by simpa [aM] using X)
   | zero=>
    simp only[aG]at h
    split at h
    ·rename_i k S
     obtain⟨⟨C,hlen⟩,h⟩:=cc.1 h
     cases F:k.cS with
     | true=>
      rw[F]at h
      simp only[if_true]at h
      refine plain ?_ (by simp[aq,S,F]) (by
       intro q' f
       refine X q' ?_
       simpa [aM,ab,S,F] using f)
      obtain⟨es',KB,rfl⟩:=aC.1 h
      have KU:=cW KB
      simp only[view,S]
      rw[if_pos ⟨C,by omega⟩,KB]
      simp only[Option.map_some,uU]
      rw[ej (by omega)]
     | false=>
      rw[F]at h
      simp only[kF,if_false]at h
      obtain⟨ys,Q,rfl⟩:=aC.1 h
      have m:aq g (n+1) (.dsl q 0 len cap)=k.es.flatMap (aq g n)++[q]:=by simp[aq,S,F]
      have Kv:aM g (n+1) (.dsl q 0 len cap)=k.es.flatMap (aM g n):=by simp[aM,S,F]
      cases hv with | dsl hr hb hs ha hc hn Kt x6=>
      rename_i l a c
      have V:=hS.at hr x6 S
      have KF:0<k.esz:=by rw[<-V.esz];exact x6
      obtain⟨arr,T,fz,hh,KT,_,Z⟩:=V.heap
      have KG : ∀o,w.cell? ⟨l.b,o,none⟩=arr[o]?:=λo=>dU hh
      let val:Nat->AV->Value:=λi e=>match e with
       | .agg cs => .agg ((List.range cs.length).map λj=>(arr[i * k.esz+j]?).getD undef).toArray
       | _=>(arr[i * k.esz]?).getD undef
      have Kn : ∀(i:Nat) e,k.es[i]?=some e->VR M ι e (val i e) /\∀(j:Nat) u,(val i e).cells[j]?=some u->arr[i * k.esz+j]?=some u:=by
       intro i e W
       have KK:=V.cells e (da W)
       by_cases KD : ∃cs,e = .agg cs
       ·obtain⟨cs,rfl⟩:=KD
        refine⟨VR.iE.2 ⟨by simp[val],λj x u hx J=>?_⟩,λj u J=>?_⟩
        ·obtain⟨u',H,_,L⟩:=Z i j _ x W (by simpa [AV.cells] using hx)
         rw[ax.map,if_neg (by simp[C])]at L
         have hj:=(bL.1 hx).1
         have:u=u':=by
          simp only[val,List.toArray,fU]at J
          rw[rg hj]at J
          simp[H]at J
          exact J.symm
         rw[this]
         exact L
        ·have hj:j<cs.length:=by
          have:=(dz.1 J).1
          simpa [val,Value.cells] using this
         obtain⟨u',H,_,_⟩:=Z i j _ cs[j] W (by simp[AV.cells,hj])
         have:(val i (.agg cs)).cells[j]?=some u':=by simp[val,Value.cells,hj,H]
         rw[this]at J
         cases J
         exact H
       ·have Ky : ∀cs,e ≠ .agg cs:=λcs hc=>KD ⟨cs,hc⟩
        have KE:e.cells=[e]:=by cases e<;>first | rfl | exact absurd rfl (Ky _)
        obtain⟨u',H,_,L⟩:=Z i 0 e e W (by rw[KE];rfl)
        rw[ax.map,if_neg (by simp[C])]at L
        have KR:val i e=u':=by
         simp only[oc]at H
         cases e<;>first | exact absurd rfl (Ky _) | simp[val,H]
        rw[KR]
        refine⟨L,λj u J=>?_⟩
        rw[(L.HA Ky).2]at J
        cases j with
        | zero=>simp at J;subst J;exact H
        | succ j=>simp at J
      let us:List Value:=(List.range k.es.length).map λi=>val i (k.es[i]?.getD AV.undef)
      have KO:fq M ι k.es us:=by
       refine⟨by simp[us],λi e u W J=>?_⟩
       have O:=(bL.1 W).1
       simp only[us,fU]at J
       rw[rg O]at J
       simp[W]at J
       rw[<-J]
       exact(Kn i e W).1
      obtain⟨new,zs,H,K,L,h4⟩:=Y k.es ys us [] D Q KO (by rw[Kv]at X;exact X)
      have Kq:zs.length=k.es.length/\ys.length=k.es.length:=by
       refine⟨?_,cW Q⟩
       have e1:=congrArg (λp:List AV × List ax=>p.1.length) H
       have : ∀(cs N:List AV)(D:List ax),(cs.foldl (λ(p:List AV × List ax) c=>(p.1++[(ad r n c p.2).1],(ad r n c p.2).2)) (N,D)).1.length=N.length+cs.length:=by
        intro cs
        induction cs with
        | nil=>intro N D;simp
        | cons c cs Ku=>intro N D;rw[lg,Ku];simp;omega
       simp only[this]at e1
       have e2:=cW Q
       simp at e1
       omega
      refine⟨new++[⟨k.esz,zs,false,false⟩],?_,?_,?_,?_⟩
      ·simp only[ad]
       rw[H]
       simp
      ·rw[m];simp[K]
      ·intro i q' b f s
       rw[m]at f
       rcases cr i new.length with O | O
       ·rw[dY (by omega)]at f
        rw[dY O]at s
        exact L i q' b f s
       ·rw[fS (by omega)]at f
        rw[fS O]at s
        rw[<-K]at f
        cases hd:i - new.length with
        | succ d=>rw[hd]at f;simp at f
        | zero=>
         rw[hd]at f s
         simp at f s
         subst f;subst s
         exact .inr (.inr ⟨k,zs,S,F,C,KF,Kq.1,rfl⟩)
      ·intro I B
       obtain⟨p1,p2⟩:=h4 I (by
        intro i q' l' f KM
        refine B i q' l' ?_ KM
        rw[m,dY (bL.1 f).1]
        exact f)
       have KS:=B new.length q l (by rw[m,fS (by omega),K];simp) hr
       simp only[ad]
       rw[H]
       simp only[mZ]
       refine⟨?_,?_⟩
       ·rw[Kq.2,<-hlen]
        refine .dsl (l:=l) ?_ hb hs ha hc hn Kt x6
        unfold dF
        simpa using KS
       ·intro i q' b f s
        rw[m]at f
        rcases cr i new.length with O | O
        ·rw[dY (by omega)]at f
         rw[dY O]at s
         exact p2 i q' b f s
        ·rw[fS (by omega)]at f
         rw[fS O]at s
         rw[<-K]at f
         cases hd:i - new.length with
         | succ d=>rw[hd]at f;simp at f
         | zero=>
          rw[hd]at f s
          simp at f s
          subst f;subst s
          intro k' l' e1 e2 _ _
          rw[S]at e1
          cases e1
          rw[hr]at e2
          cases e2
          have zc : ∀(i:Nat) z,zs[i]?=some z ->∃e,k.es[i]?=some e/\fq (eU M ι g w R) (dF r I) z.cells (val i e).cells.toList:=by
           intro i z hz
           have O:=(bL.1 hz).1
           have W:k.es[i]?=some (k.es[i]'(by omega)):=bG _
           refine⟨_,W,(p1.2 i z _ hz ?_).cells⟩
           simp only[us,fU]
           rw[rg (by omega)]
           simp[W]
          refine⟨λi j z x hz hx=>?_,λz hz=>?_⟩
          ·obtain⟨e,W,Ko⟩:=zc i z hz
           have hj:=(bL.1 hx).1
           have KH:j<(val i e).cells.toList.length:=by rw[<-Ko.1];exact hj
           have J:(val i e).cells.toList[j]?=some ((val i e).cells.toList[j]):=bG KH
           refine⟨_,?_,Ko.2 j x _ hx J⟩
           rw[KG]
           exact(Kn i e W).2 j _ (by simpa using J)
          ·obtain⟨i,O,rfl⟩:=il hz
           obtain⟨e,W,Ko⟩:=zc i _ (bG O)
           have h5:=(Kn i e W).1.cells
           rw[Ko.1,<-h5.1]
           exact V.cells e (da W)
    ·cases h
  | v x=>exact plain (by simpa [aG] using h) (by simp[aq]) (by simpa [aM] using X)
  | cE=>exact plain (by simpa [aG] using h) (by simp[aq]) (by simpa [aM] using X)
  | iptr=>exact plain (by simpa [aG] using h) (by simp[aq]) (by simpa [aM] using X)
  | fsl=>exact plain (by simpa [aG] using h) (by simp[aq]) (by simpa [aM] using X)
  | ptr=>exact plain (by simpa [aG] using h) (by simp[aq]) (by simpa [aM] using X)
  | fn=>exact plain (by simpa [aG] using h) (by simp[aq]) (by simpa [aM] using X)
  | ifc t x=>
   simp only[aG,aC]at h
   obtain⟨y,hy,rfl⟩:=h
   cases hv with | ifc hv=>
   obtain⟨new,H,K,L,h4⟩:=ih x y _ D hy hv (by simpa [aM] using X)
   simp only[ad]
   exact⟨new,H,by simpa [aq] using K,by simpa [aq] using L,λI B=>⟨.ifc (h4 I (by simpa [aq] using B)).1,by simpa [aq] using (h4 I (by simpa [aq] using B)).2⟩⟩
  | yld=>simp[aG,view]at h
  | ch q=>simp[aG,view]at h
  | m7 q=>simp[aG,view]at h
  | mp q=>
   simp only[aG]at h
   split at h
   ·rename_i Kr hm
    obtain⟨KP,h⟩:=cc.1 h
    injection h with h
    subst h
    have m:aq g (n+1) (.mp q)=[q]:=by simp[aq]
    cases hv with | mp hr hz=>
    rename_i l
    obtain⟨k,S,_,_⟩:=uE hm
    refine⟨[ig Kr],by simp[ad,ig],by rw[m];rfl,?_,?_⟩
    ·intro i q' b f s
     rw[m]at f
     cases i with
     | succ i=>simp at f
     | zero=>
      simp at f s
      subst f;subst s
      exact .inr (.inl ⟨k,Kr,S,hm,by simpa [dh] using KP,rfl⟩)
    ·intro I B
     have:=B 0 q l (by rw[m];rfl) hr
     simp only[ad,if_true]
     refine⟨.mp (l:=l) ?_ hz,λi q' b f s=>?_⟩
     ·unfold dF
      simpa using this
     ·rw[m]at f
      cases i with
      | succ i=>simp at f
      | zero=>
       simp at f
       subst f
       intro k' l' H K _ h4
       obtain⟨l0,Kw,V⟩:=hS.live q k' H
       rw[K]at Kw
       cases Kw
       rw[hr]at K
       cases K
       have:=V.esz
       omega
   ·cases h
  | lp=>simp[aG,view]at h
theorem pt:aa.get []=λ_=>none:=by funext q;rfl
theorem EJ{M:Mem}{w:World}(c : ∀b o x,M b o=some x->w.cell? ⟨b,o,none⟩=some x):cT M bB (aa.get []) w:=
 ⟨c,(λr k h=>by rw[pt]at h;cases h),(λr r' k k' l d h=>by rw[pt]at h;cases h)⟩
theorem Fv:jA bB []:=λq l h=>by cases h
theorem xd{M:Mem}{w:World}(B : ∀b o x,M b o=some x->w.cell? ⟨b,o,none⟩=some x){H':aa}{v:Value}{w':World}{d:Mem}{c:Map}{x:AV}
 (D:VR d c x v) (q:cT d c H'.get w') (f:kb M bB (aa.get []) w d c H'.get w') {R:List Ref} {y:AV}
 (m : ∀r:Ref,∃e:List Loc,e.length=(ad r depth y []).2.length/\VR (eU d c H'.get w' R) (dF r e) (ad r depth y []).1 v /\
  (∀(k:Nat) l b,e[k]?=some l->(ad r depth y []).2[k]?=some b->ib (eU d c H'.get w' R) (dF r e) w' l b/\w.heap.size<=l.b) /\
  ∀(i j:Nat) l l',e[i]?=some l->e[j]?=some l'->l.b=l'.b->i=j):mV M w y v (eU d c H'.get w' R) w':=by
 obtain⟨s,p⟩:=nx (R:=R) q
 have n:=f.trans p
 refine⟨f.os,f.tape,f.output,f.size,λb u=>f.chg b u (λr k l h=>by rw[pt]at h;cases h),n.mem,mS q.mem,?_,m⟩
 intro b o z t
 rcases n.new b o z t with h | h | ⟨F,C,G,h,_⟩
 ·exact .inl h
 ·exact .inr h
 ·rw[pt]at h;cases h
theorem sL{M:Mem}{w:World}{H':aa}{w':World}{e:Mem}{c:Map}(i:kb M bB (aa.get []) w e c H'.get w'){r:Ref}{k:ax}{l:Loc}(d:H'.get r=some k)(f:c r=some l):w.heap.size<=l.b:=by
 rcases i.live r k l d f with h | ⟨m,j,n,h,_⟩
 ·exact h
 ·rw[pt]at h;cases h
theorem Out.live{g:bD}{q:Ref}{b:ax}(h:Out g q b) : ∃k,g q=some k:=by
 rcases h with ⟨k,_,c,_⟩ | ⟨k,_,c,_⟩ | ⟨k,_,c,_⟩<;>exact⟨k,c⟩
theorem BF : ∀(n:Nat)(x:AV),flat n x=true->flat (n+1) x=true:=by
 intro n
 induction n with
 | zero=>intro x h;simp[flat]at h
 | succ n e=>
  intro x h
  cases x with
  | v x=>rfl
  | agg cs=>simp only[flat,dh]at h ⊢;exact λc d=>by have:=e c (h c d);simpa [flat] using this
  | tup cs=>simp only[flat,dh]at h ⊢;exact λc d=>by have:=e c (h c d);simpa [flat] using this
  | ifc t x=>have:=e x (by simpa [flat] using h);simpa [flat] using this
  | fn f a b=>
   simp only[flat,bR,dh]at h ⊢
   exact⟨λc d=>by have:=e c (h.1 c d);simpa [flat] using this,λc d=>by have:=e c (h.2 c d);simpa [flat] using this⟩
  | _=>simp[flat]at h
theorem Dx{cs:List AV}(h:flat depth (.tup cs)=true){c:AV}(d:c∈cs):flat depth c=true:=by
 have b:depth=(depth - 1)+1:=rfl
 rw[b]at h ⊢
 simp only[flat,dh]at h
 exact BF _ c (h c d)
theorem qu{E:Env}{ok:Array Oper->Bool}(hE:E.Ok ok){n:Nat}(hn:yh E ok n){f:FuncId}{args:List AV}{y:AV}(h:bM E (bo E n) f args=some y):ea E.P f args y:=by
 unfold bM at h
 split at h
 ·rename_i s hs
  cases h
  exact hE.specs f args y hs
 ·split at h
  ·rename_i x H' hc
   obtain⟨Kx,W⟩:=uO hE hn hc
   refine⟨Kx,λM w us hm Kz=>?_⟩
   refine(W M bB w us (EJ hm) Fv Kz).mono λe w' ⟨v,p,M1,ι1,hv,hS,hF,hD⟩=>⟨v,?_⟩
   split at h
   ·obtain⟨KA,h⟩:=cc.1 h
    obtain⟨Kt,H⟩:=sV depth x KA
    refine⟨_,p,xd (R:=aM H'.get depth x) hm hv hS hF λr=>?_⟩
    obtain⟨new,h1,h2,h3,h4⟩:=BG (R:=aM H'.get depth x) hS r depth x y v [] h hv (λq t=>t)
    rw[mZ]at h1
    let d:Ref->Loc:=λq=>(ι1 q).getD ⟨0,0,0⟩
    obtain⟨p1,p2⟩:=h4 ((aq H'.get depth x).map d) (by
     intro i q l t V
     simp only[ra,lS,fU,t,Option.map_some,d,V,bQ])
    refine⟨(aq H'.get depth x).map d,by rw[h1];simp[h2],p1,?_,?_⟩
    ·intro i l b V hb
     rw[h1]at hb
     have Ks:=V
     simp only[fU,aC]at V
     obtain⟨q,t,F⟩:=V
     rcases h3 i q b t hb with ⟨k,len,B,Y,C,rfl⟩ | ⟨k,Kq,B,K,KF,rfl⟩ | ⟨k,zs,B,Y,C,D,KJ,rfl⟩
     rotate_left
     ·obtain⟨S,m,c⟩:=hS.live q k B
      have:l=S:=by rw[<-F];simp[d,m]
      subst this
      have Z:l.esz=0:=by
       obtain⟨k1,Ku,KC,_⟩:=uE K
       rw[B]at Ku;cases Ku
       rw[c.esz];exact KC
      obtain⟨a,f,entries,hg,O,KB,Ko,_⟩:=nU hS K m Z
      refine⟨gw.BM (.inr (.inl ⟨Kq,entries,rfl,rfl,rfl,O,KB,λJ KE e p KD=>?_⟩)) Z (λo z hx=>?_),sL hF B m⟩
      ·obtain⟨ka,va,e1,e2,e3⟩:=Ko J KE e p KD
       subst e1
       refine⟨ka,va,rfl,e2,pE depth va _ ?_ e3.1,e3.2⟩
       have:=KF _ (da p)
       exact Dx this (by simp)
      ·have:=(nx (R:=aM H'.get depth x) hS).1.mem _ _ _ hx
       simp[World.cell?,O]at this
     ·obtain⟨S,m,c⟩:=hS.live q k B
      have:l=S:=by rw[<-F];simp[d,m]
      subst this
      refine⟨?_,sL hF B m⟩
      replace c:=c.cellsOk D
      obtain⟨arr,T,fz,O,g1,g2,g3⟩:=c.heap
      obtain⟨d1,d2⟩:=p2 i q _ t hb k l B m C D
      refine cy.BM (k:=⟨k.esz,zs,false,false⟩) ⟨c.esz,⟨arr,T,fz,O,g1,g2,?_⟩,by have:=c.len;simp;omega,d2,?_⟩ D
      ·intro J j e x' p hx
       obtain⟨u,hu,G⟩:=d1 J j e x' p hx
       rw[dU O]at hu
       have Kp:J<k.es.length:=by
        have:=(bL.1 p).1
        simp only at this
        omega
       have KI:=c.cells _ (eE Kp)
       have hj:j<k.esz:=by
        rw[<-d2 e (da p)]
        exact(bL.1 hx).1
       obtain⟨u',Kr,Kw,_⟩:=g3 J j _ _ (bG Kp) (bG (by omega:j<(k.es[J]).cells.length))
       rw[hu]at Kr
       cases Kr
       exact⟨u,hu,Kw,by rw[ax.map,if_neg (by simp)];exact G⟩
      ·intro o z Z
       exfalso
       rcases mT Z with h5 | ⟨r',X,k',L,U,Kn,Q,ho⟩
       ·have:=(c.frozen o z h5).1
        rw[Y]at this
        cases this
       ·have e:=hS.inj r' q k' k L l U B Kn m Q
        subst e
        exact H r' (da t) X
     obtain⟨S,m,c⟩:=hS.live q k B
     have:l=S:=by rw[<-F];simp[d,m]
     subst this
     refine⟨?_,sL hF B m⟩
     have D:=c.pos C
     replace c:=c.cellsOk D
     obtain⟨arr,T,fz,O,g1,g2,g3⟩:=c.heap
     refine cy.BM (k:=⟨k.esz,k.es.take len,true,false⟩) ⟨c.esz,⟨arr,T,fz,O,g1,g2,?_⟩,by have:=c.len;simp;omega,λe p=>c.cells e (m0 p),?_⟩ D
     ·intro J j e x' p hx
      simp only at p
      rw[nh]at p
      split at p
      ·obtain⟨u,hu,ho,G⟩:=g3 J j e x' p hx
       rw[ax.map,if_pos C]at G
       exact⟨u,hu,ho,by rw[ax.map,if_pos rfl];exact G.mono lE _ (λ_ _ h=>h)⟩
      ·cases p
     ·intro o z Z
      exfalso
      rcases mT Z with h5 | ⟨r',X,k',L,U,Ks,Q,ho⟩
      ·have:=(c.frozen o z h5).1
       rw[Y]at this
       cases this
      ·have e:=hS.inj r' q k' k L l U B Ks m Q
       subst e
       exact H r' (da t) X
    ·intro i j l L hi hj hb
     simp only[fU,aC]at hi hj
     obtain⟨q,t,F⟩:=hi
     obtain⟨q',N,x6⟩:=hj
     have KH:i<new.length:=by rw[h2];exact(bL.1 t).1
     have Ky:j<new.length:=by rw[h2];exact(bL.1 N).1
     obtain⟨k,B⟩:=(h3 i q _ t (bG KH)).live
     obtain⟨k',Kv⟩:=(h3 j q' _ N (bG Ky)).live
     obtain⟨S,m,_⟩:=hS.live q k B
     obtain⟨KG,I,_⟩:=hS.live q' k' Kv
     have e1:l=S:=by rw[<-F];simp[d,m]
     have e2:L=KG:=by rw[<-x6];simp[d,I]
     subst e1;subst e2
     have e:=hS.inj q q' k k' l L B Kv m I hb
     subst e
     exact(List.getElem?_inj (bL.1 t).1 Kt).1 (by rw[t,N])
   ·refine⟨_,p,xd (R:=ab H'.get depth x) hm hv hS hF λr=>?_⟩
    rw[qy r depth depth x y [] h]
    exact⟨[],rfl,(pf hS depth x y v h (λq t=>t) hv).up _,by intro k l b V;simp at V,by intro i j l L hi;simp at hi⟩
  ·cases h
theorem yV : ∀(ps:List Tmp)(b:List AV)(tm:List AV)(us:List Value)(tmps:Array Value),((ps.zip us).foldl (λtmps (p:Tmp × Value)=>tmps.setIfInBounds p.1 p.2) tmps).size=tmps.size:=by
 intro ps
 induction ps with
 | nil=>intro b tm us tmps;rfl
 | cons p ps c=>
  intro b tm us tmps
  cases us with
  | nil=>rfl
  | cons u us=>simp only[yu,lg];rw[c [] [] us];simp
theorem A5{M:Mem}{ι:Map}{nt:Nat} : ∀(ps:List Tmp)(b:List AV)(us:List Value)(tm:List AV)(tmps:Array Value),b.length=ps.length->fq M ι b us->(∀p∈ps,p<nt)->tmps.size=nt->(∀t,VR M ι (cm tm t) (tmps.getD t undef)) ->
 ∀t,VR M ι (cm (r9 tm ps b) t) (((ps.zip us).foldl (λtmps (p:Tmp × Value)=>tmps.setIfInBounds p.1 p.2) tmps).getD t undef):=by
 intro ps
 induction ps with
 | nil=>intro b us tm tmps m d hp f h t;cases b<;>exact h t
 | cons p ps n=>
  intro b us tm tmps m d hp f h t
  cases b with
  | nil=>simp at m
  | cons x b=>
   cases us with
   | nil=>have:=d.1;simp at this
   | cons u us=>
    simp only[yu,lg,r9]
    refine n b us _ _ (by simpa using m) ⟨by have:=d.1;simpa using this,λi y v s e=>d.2 (i+1) y v (by simpa using s) (by simpa using e)⟩ (λq z=>hp q (gv _ z)) (by simpa using f) ?_ t
    intro t'
    have j:=hp p (gu ..)
    rw[nL,pb]
    by_cases c:t'=p
    ·subst c
     rw[if_pos rfl,rk (by rw[f];exact j)]
     exact d.2 0 x u rfl rfl
    ·rw[if_neg c,ou (jB c),<-pb]
     exact h t'
theorem tQ(ps:Array Tmp)(us:Array Value)(tmps:Array Value):(ps.zip us).foldl (λtmps (t,a)=>tmps.setIfInBounds t a) tmps=(ps.toList.zip us.toList).foldl (λtmps (p:Tmp × Value)=>tmps.setIfInBounds p.1 p.2) tmps:=by
 rw[<-yv,Array.toList_zip]
theorem y0{E:Env}{ok:Array Oper->Bool}(hE:E.Ok ok){n dep:Nat}(S:yh E ok n){r:Ref}{args:List AV}{H H':aa}{y:AV}(h:vx E (bo E n) dep r args H=some (y,H')):dC E.P (.yld r) args H y H':=by
 unfold vx at h
 split at h
 ·rename_i f nt ps assign body tm F
  obtain⟨⟨Q,B,s,z⟩,h⟩:=cc.1 h
  split at h
  ·rename_i st D
   intro M ι w us l K L x I
   obtain⟨U,W,V,Y,tm',d,e,T,N,g3,g4,O,R,g7,_,_⟩:=nV K L I F
   cases e
   have G:us.toArray.size=d.params.size:=by rw[N];simp;rw[<-Q];exact x.1.symm
   refine⟨_,_,_,_,run_yield T G,trivial,λc cs _=>?_⟩
   let b:Frame := { (default:Frame)with fn:=d.fn,kind := .normal,roundOf:=some l.b}
   have j : ∀tmps,Frame.round l.b d.fn tmps d.assign d.body .normal=b.atR { tmps:=tmps,defers:=[]} [.code assign,.beginRound,.code body]:=by
    intro tmps
    simp[Frame.round,Frame.atR,b,g3,g4]
   rw[j]
   have hO:mU M ι ⟨r9 tm ps args,H⟩ nt { tmps:=(d.params.zip us.toArray).foldl (λtmps (t,a)=>tmps.setIfInBounds t a) d.tmps,defers:=[]} w:=by
    refine⟨K,L,⟨?_⟩,?_⟩
    ·intro t
     show VR M ι _ (((d.params.zip us.toArray).foldl (λtmps (t,a)=>tmps.setIfInBounds t a) d.tmps).getD t undef)
     rw[tQ,N]
     exact A5 ps args us tm d.tmps Q x (λp hp=>by have:=dh.1 B p hp;simpa using this) O R t
    ·show((d.params.zip us.toArray).foldl (λtmps (t,a)=>tmps.setIfInBounds t a) d.tmps).size=nt
     rw[tQ,yV _ [] []]
     exact O
   have q:=hE.same
   obtain⟨m,inf,w',h1,h2,⟨M',A,h3,h4,Z⟩,X⟩:=S (some r) nt dep _ _ st D (by
    intro i J
    simp only[dg,List.not_mem_nil,or_false]at J
    rcases J with rfl | rfl | rfl
    ·rw[<-q];exact s
    ·rfl
    ·rw[<-q];exact z) M ι _ w hO b (c :: cs) l c cs I rfl rfl rfl
   rw[h1]at h
   have u:Comes E.P (lone (b.atR { tmps:=(d.params.zip us.toArray).foldl (λtmps (t,a)=>tmps.setIfInBounds t a) d.tmps,defers:=[]} [.code assign,.beginRound,.code body]) (c :: cs) w) (lone (c.finish (.bool (m == 0))) cs w') (.returned (.bool (m == 0))):=X
   have C:y = .v (.bool (m == 0))/\H'=st.hp:=by
    rcases m with _ | _ | m
    ·simp only[cz,mY]at h;exact⟨h.1.symm,h.2.symm⟩
    ·exact absurd rfl h2
    ·simp only[cz,mY]at h;exact⟨h.1.symm,h.2.symm⟩
   obtain⟨rfl,rfl⟩:=C
   exact⟨.returned (.bool (m == 0)),w',⟨_,rfl,M',A,.v rfl,h3,h4,Z⟩,comesIn_wide.2 u⟩
  ·cases h
 ·cases h
theorem mF{E:Env}{ok:Array Oper->Bool}(b:E.Ok ok){n dep:Nat}(d:yh E ok n){t:lb}{args:List AV}{H H':aa}{y:AV}(h:cJ E (bo E n) dep t args H=some (y,H')):dC E.P t args H y H':=by
 unfold cJ at h
 cases t with
 | fn f=>
  simp only at h
  cases c:E.thrSpec f args H with
  | some z=>rw[c]at h;cases h;exact b.thrs f args H y H' c
  | none=>
   rw[c]at h
   obtain⟨_,h⟩:=cc.1 h
   exact uO b d h
 | yld r=>exact y0 b d h
theorem yY{E:Env}{ok:Array Oper->Bool}(hE:E.Ok ok) : ∀n,yh E ok n:=by
 intro n
 induction n with
 | zero=>intro rd nt dep z st st' h;simp[bo]at h
 | succ n ih=>
  intro rd nt dep z st st' h hi M ι a w C b cs
  have W : ∀(q:List Item)(h':bo E n rd nt dep q st=some st'),(∀i∈q,gH ok i=true)->Steps E.P (lone (b.atR a z) cs w) (lone (b.atR a q) cs w) ->
   qQ E.P rd M ι st a w nt st' b cs (lone (b.atR a z) cs w):=by
   intro q h' p N
   exact qQ.of_steps (ds:=[]) (λ_ _=>N) C.sim kb.refl rfl jY (ih rd nt dep q st st' h' p M ι a w C b cs)
  have S : ∀(j:Nat)(u:Option Code),j≠1->(u.isNone=(j == 0))->(∀F:Loop,ph j { F with state:=if u.isNone then .ready else .done,pending:=u})->mN rd st j=some st'->rd≠none ->
   (∀l c G v w',b.roundOf=some l->b.kind = .normal->cs=c :: G->(Instr.endRound l u).run E.P w = .ok v w'->Steps E.P (lone (b.atR a z) cs w) (lone (c.finish v) G w'))->qQ E.P rd M ι st a w nt st' b cs (lone (b.atR a z) cs w):=by
   intro j u hj KO J h K0 N
   cases rd with
   | none=>exact absurd rfl K0
   | some r=>
    unfold mN at h
    simp only at h
    split at h
    ·rename_i Y B
     cases h
     intro l c G hr s L K
     obtain⟨_,_,_,_,_,F,_,g1,_,_,_,_,_,_,g8,_⟩:=nV C.sim C.dom hr B
     obtain⟨k1,k2,k3⟩:=g8 j { F with state:=if u.isNone then .ready else .done,pending:=u} ⟨rfl,rfl,rfl,rfl⟩ (J F)
     refine⟨j,Y,_,?_,hj,⟨M,ι,k1,k2,k3⟩,?_⟩
     ·simp[qM,aa.aj,kR]
     ·rw[<-KO]
      exact N l.b c G _ _ s L K (run_endRound u g1)
    ·cases h
  unfold bo at h
  split at h
  ·cases rd with
   | none=>
    injection h with h
    subst h
    intro s _
    exact⟨a,w,[],[],⟨M,ι,C,kb.refl⟩,rfl,jY,.one (stepR_end s)⟩
   | some r=>
    exact S 0 none (by omega) rfl (λF=>⟨rfl,rfl⟩) h (by simp) λl c G v w' s L K hr=>by subst K;exact .one (stepR_round_end s L hr)
  ·rename_i k
   have L : ∀i∈k,gH ok i=true:=λi h=>hi i (gv _ h)
   cases rd with
   | none=>cases h
   | some r=>
    simp only at h
    split at h
    ·rename_i Y B
     intro l c G hr s Ku K
     obtain⟨_,_,_,_,_,F,_,g1,_,_,_,_,_,g7,g8,_⟩:=nV C.sim C.dom hr B
     obtain⟨k1,k2,k3⟩:=g8 1 { F with state := .busy} ⟨rfl,rfl,rfl,rfl⟩ rfl
     have N:Steps E.P (lone (b.atR a (.beginRound :: k)) cs w) (lone (b.atR a k) cs (aJ w l.b (.loop { F with state := .busy}))) := .one (stepR_beginRound s (run_beginRound g1 g7.1))
     exact qQ.of_steps (rd:=some r) (ds:=[]) (λ_ _=>N) k1 k2 rfl jY (ih (some r) nt dep k _ st' h L M ι a _ ⟨k1,k3,C.tr,C.nt⟩ b cs) l c G hr s Ku K
    ·cases h
  ·rename_i c k
   have O:codeOk ok c=true:=hi _ (gu ..)
   have L : ∀i∈k,gH ok i=true:=λi h=>hi i (gv _ h)
   have Kr : ∀ {x y:Item},gH ok x=true->gH ok y=true ->∀i∈x :: y :: k,gH ok i=true:=by
    intro x y hx hy i p
    rcases dg.1 p with rfl | p
    ·exact hx
    ·rcases dg.1 p with rfl | p
     ·exact hy
     ·exact L i p
   have one : ∀ {x:Item},gH ok x=true ->∀i∈x :: k,gH ok i=true:=by
    intro x hx i p
    rcases dg.1 p with rfl | p
    ·exact hx
    ·exact L i p
   split at h
   ·exact W k h L (.one stepR_skip)
   ·exact W k h L (.one stepR_label)
   ·cases rd with
    | none=>
     simp only[mN,if_true]at h
     injection h with h
     subst h
     intro s _
     exact⟨a,w,_,[],⟨M,ι,C,kb.refl⟩,rfl,jY,.one (stepR_ret s)⟩
    | some r=>exact S 2 (some .ret) (by omega) rfl (λF=>⟨rfl,rfl⟩) h (by simp) λl c G v w' s L K hr=>by subst K;exact .one (stepR_round_ret s L hr)
   ·rename_i x y
    simp only[codeOk,bR]at O
    exact W _ h (Kr O.1 O.2) (.one stepR_seq)
   ·rename_i K2 x y
    simp only[codeOk,bR]at O
    split at h
    ·rename_i s
     simp only[dL]at s
     obtain⟨cv,h1,h2⟩:=s
     exact W _ h (one O.1) (.one (stepR_cond (n6 (ao C.tr h1) h2)))
    ·rename_i s
     simp only[dL]at s
     obtain⟨cv,h1,h2⟩:=s
     exact W _ h (one O.2) (.one (stepR_cond (n6 (ao C.tr h1) h2)))
    ·cases h
   ·exact W _ h (Kr (by simpa [codeOk,gH] using O) rfl) (.one stepR_block)
   ·exact W _ h (Kr (by simpa [codeOk,gH] using O) rfl) (.one (step_lone_go (by simp[stepG,stepG.exec,Frame.atR])))
   ·exact W _ h (Kr (by simpa [codeOk,gH] using O) (by simpa [codeOk,gH] using O)) (.one stepR_loop)
   ·rename_i id
    split at h
    ·rename_i k' T
     exact W _ h (uK T L) (.one (stepR_exit T))
    ·rename_i T
     cases rd with
     | none=>simp at h
     | some r=>exact S (id+3) (some (.exit id)) (by omega) (by simp) (λF=>⟨rfl,rfl⟩) (by simpa using h) (by simp) λl c G v w' s Ku K hr=>by subst K;exact .one (stepR_round_exit s Ku T hr)
   ·rename_i id ops Kn
    split at h
    ·rename_i R Kt
     have KS:Kn=true->jM E ops R=true:=by
      intro hd
      cases s:jM E ops R with
      | true=>rfl
      | false=>rw[hd,s]at h;simp at h
     replace h:bo E n rd nt dep k R=some st':=by
      split at h
      ·cases h
      ·exact h
     have KC : ∀f xs y,bM E (bo E n) f xs=some y->ea E.P f xs y:=λf xs y h=>qu hE ih h
     have KH : ∀f xs H y H',cJ E (bo E n) dep f xs H=some (y,H')->dC E.P f xs H y H':=λf xs H y H' h=>mF hE ih h
     have KI : ∃a1 w1,eD M ι st a w nt R a1 w1/\(b.kind = .normal->Steps E.P (lone (b.atR a (.code (.region id ops Kn) :: k)) cs w) (lone (b.atR a1 k) cs w1)):=by
      cases Kn with
      | false=>exact vA KC KH hE.overs b k cs Kt C
      | true=>
       have KU:(Code.region id ops true).wpIn (FW b.roundOf) 0 E.P (λe a' w'=>e = .normal/\eD M ι st a w nt R a' w') a w:=
        hE.draws ops (by simpa [codeOk] using O) KC KH nt dep id st R M ι a w b.roundOf _ Kt (KS rfl) C λa' w' J=>⟨rfl,J⟩
       obtain⟨a1,w1,h1,h2⟩:=wR b KU k cs
       exact⟨a1,w1,h1,λ_=>h2⟩
     obtain⟨a1,w1,⟨⟨M1,KT,KB,Kp⟩,KN⟩,N⟩:=KI
     exact qQ.of_steps (ds:=[]) (λ_=>N) KB.sim Kp KN jY (ih rd nt dep k R st' h L M1 KT a1 w1 KB b cs)
    ·cases h
   ·rename_i g ps assign body
    simp only[codeOk,bR]at O
    split at h
    ·rename_i gi first Ky hg
     split at h
     ·rename_i x H' Kx
      obtain⟨Kz,Kp,KL,Kw⟩:=De (d:=dep) (ps:=ps) (assign:=assign) (body:=body) (fn:=b.fn) C.sim C.dom C.tr C.nt rfl
      obtain⟨KK,KA⟩:=mF hE ih Kx
      obtain⟨a',b',KV,KW,KY⟩:=(ao C.tr hg).Fk
      have KE:=λ{xs us} (h:fq M ι xs us)=>h.mono (λ_ _ _ h=>h) Kp.map
      have KQ:VR M (dm ι ⟨dep,nt,st.hp.gen dep nt,0⟩ ⟨w.heap.size+1,0,0⟩) (.yld ⟨dep,nt,st.hp.gen dep nt,0⟩) (.func (.yield (w.heap.size+1)) #[] #[]) := .yld (l:=⟨w.heap.size+1,0,0⟩) (by simp[dm]) rfl
      have KG:=((KE KW).append (fq.cons KQ fq.nil)).append (KE KY)
      have U:=KA M _ _ _ Kz KL KG
      rw[show(a'.toList++[Value.func (.yield (w.heap.size+1)) #[] #[]]++b'.toList).toArray=a' ++ #[Value.func (.yield (w.heap.size+1)) #[] #[]]++b' by apply rl;simp]at U
      intro s
      let c1:Frame:=b.atR { a with defers:=[{ target := .collected w.heap.size,args := #[]}]++a.defers} (.inRangeFunc (w.heap.size+1) :: k)
      have Ks:=stepR_rangeFunc (P:=E.P) (b:=b) (a:=a) (k:=k) (cs:=cs) (w:=w) (g:=g) (ps:=ps) (assign:=assign) (body:=body) (l:=w.heap.size+1) (mark:=[{ target := .collected w.heap.size,args := #[]}])
       (d := { target := .fn (.func gi) b',args:=a' ++ #[Value.func (.yield (w.heap.size+1)) #[] #[]]}) (f:=gi) (args:=a' ++ #[Value.func (.yield (w.heap.size+1)) #[] #[]]++b')
       (by rw[s];exact run_enterLoop_outer b.fn a.tmps ps assign body) (by have KR : ∀x,a.eval (.const x)=x:=λ_=>rfl;simp[resolve,rangeCall,KV,Deferred.ofValue,KR];rfl) (by simp[invoke,qp KK];rfl)
      obtain⟨e,w3,fr,⟨v,he,M3,V,K1,KP,Kv,KM⟩,Ko,K3,Kq⟩:=U (c1 :: cs)
      subst he
      have KD:Steps E.P (lone (b.atR a (.code (.rangeFunc g ps assign body) :: k)) cs w) (lone (c1.finish v) cs w3):=Steps.trans (.one Ks) (Steps.trans Ko (.one (step_leave_returned Kq)))
      have KF:c1.finish v=b.atR { a with defers:=[{ target := .collected w.heap.size,args := #[]}]++a.defers} (.endRangeFunc (w.heap.size+1) :: k):=finish_atR_inRangeFunc _ v
      rw[KF]at KD
      have X:=Kp.trans Kv
      have KZ:V ⟨dep,nt,st.hp.gen dep nt,0⟩=some ⟨w.heap.size+1,0,0⟩:=Kv.map _ _ (by simp[dm])
      have KJ:w3.heap[w.heap.size]?=some (.deferred (some [])):=by
       rw[Kv.chg _ (dz.1 Kw).1 (sE Kz Kw)]
       exact Kw
      have I : ∀ {m:Nat} {Y:AV},qM H' ⟨dep,nt,st.hp.gen dep nt,0⟩=some (m,Y)->m≠1 ->∃F:Loop,∃w4,ph m F /\
       Steps E.P (lone (b.atR a (.code (.rangeFunc g ps assign body) :: k)) cs w) (lone (b.atR { a with defers:=[{ target := .collected w.heap.size,args := #[]}]++a.defers} ((F.pending.map Item.code).toList++k)) cs w4) /\
       mU M3 V ⟨st.tm,H'.put ⟨dep,nt,st.hp.gen dep nt,0⟩ none⟩ nt { a with defers:=[{ target := .collected w.heap.size,args := #[]}]++a.defers} w4/\kb M ι st.hp.get w M3 V (H'.put ⟨dep,nt,st.hp.gen dep nt,0⟩ none).get w4 /\
       jq w w4 [w.heap.size]:=by
       intro m Y B hm
       obtain⟨_,_,_,_,_,F,_,g1,_,_,_,_,_,g7,_,g9⟩:=nV KP KM KZ B
       obtain⟨k1,k2,k3⟩:=g9 { F with state := .exhausted}
       have KX:F.state ≠ .busy:=by
        match m,hm with
        | 0,_=>rw[g7.1];simp
        | 1,hm=>exact absurd rfl hm
        | 2,_=>rw[g7.1];simp
        | m+3,_=>rw[g7.1];simp
       refine⟨F,_,g7,Steps.trans KD (.one (stepR_endRangeFunc (run_endLoop g1 KX))),⟨k1,k3,⟨λt=>(C.tr.mono X.mem X.map).at_ t⟩,C.nt⟩,X.trans k2,⟨by simp,λD hD=>?_⟩⟩
       simp only[kE]at hD
       subst hD
       refine⟨a7 _,?_⟩
       show(aJ w3 (w.heap.size+1) _).heap[w.heap.size]?=_
       rw[cu (by omega)]
       exact KJ
      split at h
      ·rename_i B
       obtain⟨F,w4,J,N,Q,x6,Z⟩:=I B (by omega)
       rw[J.2]at N
       exact qQ.of_steps (rd:=none) (ds:=[w.heap.size]) (λ_ _=>N) Q.sim x6 rfl Z (ih none nt dep k _ st' h L M3 V _ w4 Q b cs) s
      ·rename_i B
       obtain⟨F,w4,J,N,Q,x6,Z⟩:=I B (by omega)
       rw[J.2]at N
       cases h
       intro _
       exact⟨_,w4,_,[w.heap.size],⟨M3,V,Q,x6⟩,rfl,Z,Steps.trans N (.one (stepR_ret s))⟩
      ·rename_i id B
       obtain⟨F,w4,J,N,Q,x6,Z⟩:=I B (by omega)
       rw[J.2]at N
       split at h
       ·rename_i k' T
        exact qQ.of_steps (rd:=none) (ds:=[w.heap.size]) (λ_ _=>Steps.trans N (.one (stepR_exit T))) Q.sim x6 rfl Z (ih none nt dep k' _ st' h (uK T L) M3 V _ w4 Q b cs) s
       ·cases h
      ·cases h
     ·cases h
    ·cases h
   ·cases h
  ·rename_i c k
   have O:codeOk ok c=true:=hi _ (gu ..)
   have L : ∀i∈k,gH ok i=true:=λi h=>hi i (gv _ h)
   refine W _ h ?_ (.one stepR_inLoop)
   intro i p
   rcases dg.1 p with rfl | p
   ·exact O
   ·rcases dg.1 p with rfl | p
    ·exact O
    ·exact L i p
  ·rename_i id k
   exact W k h (λi h=>hi i (gv _ h)) (.one stepR_inBlock)
  ·rename_i id k
   exact W k h (λi h=>hi i (gv _ h)) (.one (step_lone_go (by simp[stepG,stepG.exec,Frame.atR])))
  ·cases h
theorem AK{E:Env}{ok:Array Oper->Bool}(b:E.Ok ok){n:Nat}{f:FuncId}{args:List AV}{y:AV}(h:bM E (bo E n) f args=some y):ea E.P f args y:=qu b (yY b n) h
end
end Go.Ab
