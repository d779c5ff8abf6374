/-
  Maps of the abstract machine against the model's. No statement of a seat is proved here.
  Calls of the abstract machine, and one operation of it, against the model's. No statement of a seat is proved here.
  A call that shares the heap and leaves it as it was. No statement of a seat is proved here.
  One operation of the abstract machine against the model's. No statement of a seat is proved here.
  The abstract machine against the model's. No statement of a seat is proved here.
  The abstract machine against the model's: the theorem. No statement of a seat is proved here.
  The abstract machine against the model's: the theorem. No statement of a seat is proved here.
-/
import Derived.Conc.LoneCalls
import Derived.Test.YtmkmimgokagimaaGreatAbsOps
set_option linter.unusedVariables false
set_option linter.unusedSimpArgs false
set_option linter.unusedSectionVars false
set_option linter.unnecessarySimpa false
namespace Go.Ab
theorem bL{α c:Type}{P:Program}(s:Sem α)(f:α->Sem c):bn P (s >>= f)=(bn P s).bind λa=>bn P (f a):=by
 induction s with
 | pure a=>rfl
 | program k b=>exact b P
 | mark m k b=>exact b
 | _=>rfl
theorem yX{α:Type}{P:Program}(a:α):bn P (pure a:Sem α)=some a:=rfl
def dummy(es:List MapEntry):List MapEntry:=es.map λe=>⟨e.key,Go.undef,0⟩
theorem HZ{d:TypeDesc}{k:Value} : ∀(es:List MapEntry)(i:Nat),(Instr.findNow d k es i=none↔Instr.findNow d k (dummy es) i=none)/\(Instr.findNow d k es i=some none↔Instr.findNow d k (dummy es) i=some none) /\
 ∀j v,Instr.findNow d k (dummy es) i=some (some (j,v))->i<=j /\∃e,es[j - i]?=some e/\Instr.findNow d k es i=some (some (j,e.val)):=by
 intro es
 induction es with
 | nil=>intro i;simp[dummy,Instr.findNow]
 | cons e es f=>
  intro i
  obtain⟨m,q,p⟩:=f (i+1)
  simp only[dummy,tp,Instr.findNow]
  cases u:Instr.sameNow d k e.key with
  | none=>simp
  | some b=>
   cases b with
   | true=>
    refine⟨by simp,by simp,λj v h=>?_⟩
    simp only[dW,xe]at h
    obtain⟨rfl,_⟩:=h
    exact⟨dc _,e,by simp,rfl⟩
   | false=>
    refine⟨m,q,λj v h=>?_⟩
    obtain⟨x,n,t,c⟩:=p j v h
    refine⟨by omega,n,?_,c⟩
    rw[show j - i=(j - (i+1))+1 by omega]
    simpa using t
theorem D3{P:Program}{d:TypeId}{k:Value} : ∀(es:List MapEntry)(i:Nat)(o:Option (Nat × Value)),bn P (Instr.findAsking d k (dummy es) i)=some o ->∀w:World,
 (o=none->(Instr.findAsking d k es i).run P w = .ok none w) /\∀j v,o=some (j,v)->i<=j /\∃e,es[j - i]?=some e/\(Instr.findAsking d k es i).run P w = .ok (some (j,e.val)) w:=by
 intro es
 induction es with
 | nil=>
  intro i o h w
  simp only[dummy,Jn,Instr.findAsking,yX,dW]at h
  subst h
  exact⟨λ_=>rfl,λj v e=>by cases e⟩
 | cons e es t=>
  intro i o h w
  simp only[dummy,tp,Instr.findAsking]at h
  rw[bL]at h
  obtain⟨b,m,h⟩:=ig.1 h
  have f:=oe m w
  cases b with
  | true=>
   simp only[if_true,yX,dW]at h
   subst h
   refine⟨λe=>by (cases e),λj v c=>?_⟩
   cases c
   exact⟨dc _,e,by simp,by simp[Instr.findAsking,f]⟩
  | false=>
   simp only[nz,if_false]at h
   obtain⟨n,u⟩:=t (i+1) o h w
   refine⟨λc=>by simp[Instr.findAsking,f,n c],λj v c=>?_⟩
   obtain⟨y,p,x,q⟩:=u j v c
   refine⟨by omega,p,?_,by simp[Instr.findAsking,f,q]⟩
   rw[show j - i=(j - (i+1))+1 by omega]
   simpa using x
theorem sU{P:Program}{c:Bool}{n:TypeId}{k:Value}{es:List MapEntry}{o:Option Nat}(h:za P c n k (es.map (·.key))=some o)(w:World) :
 (Instr.checkKey c 10000 n k).run P w = .ok () w/\(o=none->(Instr.findKey n k es).run P w = .ok none w) /\∀j,o=some j ->∃e,es[j]?=some e/\(Instr.findKey n k es).run P w = .ok (some (j,e.val)) w:=by
 unfold za at h
 split at h
 ·rename_i u
  obtain⟨o',b,e⟩:=bO.1 h
  have C:(es.map (·.key)).map (λx=>(⟨x,Go.undef,0⟩:MapEntry))=dummy es:=by simp[dummy,Function.comp_def]
  rw[C]at b
  unfold Instr.findKey at b
  rw[bL]at b
  obtain⟨d,z,b⟩:=ig.1 b
  have f:=oe z w
  refine⟨oe u w,?_⟩
  obtain⟨v,F,y⟩:=HZ (d:=d) (k:=k) es 0
  cases i:Instr.findNow d k (dummy es) 0 with
  | some r=>
   rw[i]at b
   simp only[yX,dW]at b
   subst b
   cases r with
   | none=>
    simp only[Eo]at e
    subst e
    refine⟨λ_=>?_,λj e=>?_⟩
    ·simp[Instr.findKey,f,F.2 i]
    ·cases e
   | some p=>
    obtain⟨j0,v0⟩:=p
    simp only[Option.map_some]at e
    subst e
    refine⟨λe=>(by cases e),λj e=>?_⟩
    cases e
    obtain⟨_,q,t,A⟩:=y j0 v0 i
    exact⟨q,by simpa using t,by simp[Instr.findKey,f,A]⟩
  | none=>
   rw[i]at b
   simp only at b
   obtain⟨D,t⟩:=D3 es 0 o' b w
   have m:=v.2 i
   cases o' with
   | none=>
    simp only[Eo]at e
    subst e
    refine⟨λ_=>?_,λj e=>?_⟩
    ·simp[Instr.findKey,f,m,D rfl]
    ·cases e
   | some p=>
    obtain⟨j0,v0⟩:=p
    simp only[Option.map_some]at e
    subst e
    refine⟨λe=>(by cases e),λj e=>?_⟩
    cases e
    obtain⟨_,q,k2,k3⟩:=t j0 v0 rfl
    exact⟨q,by simpa using k2,by simp[Instr.findKey,f,m,k3]⟩
 ·cases h
theorem yQ{P:Program}{t b et:TypeId}(h:HO P t=some (b,et)):P.underlying t=some (.map b et):=by
 unfold HO at h
 split at h
 ·rename_i k e c;cases h;exact c
 ·cases h
section
variable{P:Program}{M:Mem}{ι:Map}{g:da}{w:World}{r:Ref}
theorem A8(N:ic M ι g w){ents:List AV}(n:jU g r=some ents){l:Loc}(L:ι r=some l)(R:l.esz=0) :
 ∃a f c,g r=some ⟨0,.v (.bool true) :: ents,a,f⟩/\w.heap[l.b]?=some (.map c c.size)/\c.size=ents.length /\
  (∀(i:Nat) ent e,ents[i]?=some ent->c[i]?=some e ->∃z q,ent = .tup [z,q]/\gJ z=some e.key/\VR M ι q e.val/\e.born=i) /\∀u,ents.mapM AG=some u->u=c.toList.map (·.key):=by
 unfold jU at n
 split at n
 ·rename_i es f A
  cases n
  obtain⟨S,j,I⟩:=N.live r _ A
  rw[L]at j;cases j
  rcases I.objOk rfl with ⟨_,_,_,_,_,_,_,_,_,d,_⟩ | ⟨x,c,O,Q,d,J,G,D⟩ | ⟨_,_,_,_,_,_,_,_,d,_⟩
  ·simp at d
  rotate_left
  ·simp at d
  ·simp only[zF,true_and]at d
   subst d
   refine⟨false,f,c,A,J,G,D,λu h=>?_⟩
   have K:=jT h
   apply Ju
   intro i
   rcases fm i c.size with p | p
   ·have m:i<ents.length:=by omega
    obtain⟨y,H,t⟩:=lA h i _ (fc m)
    obtain⟨z,q,F,C,_⟩:=D i _ c[i] (fc m) (jY p)
    rw[H]
    rw[F]at t
    simp only[AG]at t
    rw[t]at C
    cases C
    simp[jY p]
   ·rw[zI (by rw[K];omega),zI (by simp;omega)]
 ·cases n
theorem Ow(hS:ic M ι g w){t:TypeId}{x k y:AV}{U L:Value}(hx:VR M ι x U)(hk:VR M ι k L){ok:Bool}{S:List bz}(h:eU P g t (some x) (some k) ok=some (y,S)) :
 S=[] /\∃u,(Instr.lookup t U L ok).run P w = .ok u w/\VR M ι y u:=by
 have G : ∀ {v:AV} {u:Value} (b:Bool),VR M ι v u->VR M ι (if ok then .tup [v,.v (.bool b)] else v) (if ok then .tuple #[u,.bool b] else u):=by
  intro v u b j
  cases ok with
  | false=>exact j
  | true=>
   refine .tup (by simp) rfl λi c u' C q=>?_
   match i with
   | 0=>simp at C q;subst C;subst q;exact j
   | 1=>simp at C q;subst C;subst q;exact .v rfl
   | i+2=>simp at C
 unfold eU at h
 split at h
 ·rename_i kt et r' Y W Q R
  cases Q
  cases hx with | mp hr hz=>
  rename_i l
  have K:L=Y:=by simpa using u5 hk (by simpa using R)
  subst K
  split at h
  ·rename_i ents hm
   obtain⟨a,f,entries,hg,T,hsz,H,J⟩:=A8 hS hm hr hz
   split at h
   ·rename_i V D
    have d:=J V D
    have m:entries.isEmpty=V.isEmpty:=by rw[d];simp
    split at h
    ·rename_i i I
     rw[d]at I
     obtain⟨v,j,h⟩:=bO.1 h
     cases h
     obtain⟨F,_,Z⟩:=sU I w
     obtain⟨e,he,A⟩:=Z i rfl
     obtain⟨N,p,j⟩:=ig.1 j
     obtain⟨ka,va,X,e2,e3⟩:=H i N e p (by simpa using he)
     subst X
     simp only[Hb,dW]at j
     subst j
     refine⟨rfl,_,?_,G true e3.1⟩
     rw[<-d,<-m]at F
     have n:(getObj l.b).run P w = .ok (.map entries entries.size) w:=by simp[getObj,Sem.run,T]
     simp only[Instr.lookup,Sem.run_bind,Sem.run_pure,bB (yQ W),Result.andThen_ok,n,F,A]
    ·rename_i I
     rw[d]at I
     obtain⟨z,O,h⟩:=bO.1 h
     cases h
     obtain⟨F,h2,_⟩:=sU I w
     obtain⟨u,q,j⟩:=xL O w
     refine⟨rfl,_,?_,G false (jN j)⟩
     rw[<-d,<-m]at F
     have n:(getObj l.b).run P w = .ok (.map entries entries.size) w:=by simp[getObj,Sem.run,T]
     simp only[Instr.lookup,Sem.run_bind,Sem.run_pure,bB (yQ W),Result.andThen_ok,n,F,h2 rfl,q]
    ·cases h
   ·cases h
  ·cases h
 ·cases h
theorem Ox(C:ic M ι g w){m:Array TypeId}{ty:TypeId}{r':Ref}{x:AV}{n:Value}(z:VR M ι (.mp r') n){j:List bz}(h:wb P g m[0]? r'=some (x,j)) :
 j=[] /\∃u,(Builtin.len_ m ty #[n]).run P w = .ok u w/\VR M ι x u:=by
 unfold wb at h
 split at h
 ·rename_i p ents i q
  obtain⟨t,i,c⟩:=ig.1 i
  cases h
  cases z with | mp A D=>
  rename_i l
  obtain⟨a,f,entries,F,y,e,_,_⟩:=A8 C q A D
  have d:(getObj l.b).run P w = .ok (.map entries entries.size) w:=by simp[getObj,Sem.run,y]
  refine⟨rfl,goInt entries.size,by simp[Builtin.len_,i,bB (yQ c),d],?_⟩
  rw[<-e]
  exact .v rfl
 ·cases h
theorem IS(n:ic M ι g w)(N:ι r=none){w':World}{o:Obj}(d:Ei w w' o){k:bz}(y:nM M (kD ι r ⟨w.heap.size,0,0⟩) w' ⟨w.heap.size,0,0⟩ k) :
 ic M (kD ι r ⟨w.heap.size,0,0⟩) (lI g r k) w'/\uh M ι g w M (kD ι r ⟨w.heap.size,0,0⟩) (lI g r k) w':=by
 have i:=E7 (l:=⟨w.heap.size,0,0⟩) N
 have p : ∀b o x,M b o=some x->b<w.heap.size:=λb o x h=>World.block_lt_of_cell? w ⟨b,o,none⟩ (n.mem b o x h)
 have one : ∀ {q:Ref} {k' c},lI g r k q=some k'->kD ι r ⟨w.heap.size,0,0⟩ q=some c->(q=r/\c.b=w.heap.size)\/(q≠r/\g q=some k'/\ι q=some c/\c.b<w.heap.size):=by
  intro q k' c h j
  unfold lI at h
  unfold kD at j
  split at h
  ·rename_i e;rw[if_pos e]at j;cases j;exact .inl ⟨e,rfl⟩
  ·rename_i e
   rw[if_neg e]at j
   obtain⟨F,t,z⟩:=n.live q k' h
   rw[j]at t;cases t
   exact .inr ⟨e,h,j,z.lt⟩
 refine⟨⟨λb o x h=>d.cell (n.mem b o x h),λq k' h=>?_,λq L k1 k2 c F v C I J G=>?_⟩,⟨d.os,d.tape,d.output,by rw[d.heap];simp,λb H _=>d.old b H,λ_ _ _ h=>h,i,λq k' c v C=>?_,λ_ _ _ h => .inl h⟩⟩
 ·unfold lI at h
  split at h
  ·rename_i e
   subst e
   cases h
   exact⟨⟨w.heap.size,0,0⟩,by simp[kD],y.Vo rfl λo x K=>absurd (p _ _ _ K) (Bl _)⟩
  ·obtain⟨c,D,f⟩:=n.live q k' h
   exact⟨c,i q c D,f.cr (λ_ _ _ h=>h) i (d.old _ f.lt) f.frozen⟩
 ·rcases one v I with ⟨u,m⟩ | ⟨u,m,A,O⟩<;>rcases one C J with ⟨f1,f2⟩ | ⟨f1,f2,f3,f4⟩
  ·rw[u,f1]
  ·omega
  ·omega
  ·exact n.inj q L k1 k2 c F m f2 A f3 G
 ·rcases one v C with ⟨u,m⟩ | ⟨u,m,A,O⟩
  ·exact .inl (by omega)
  ·exact .inr ⟨q,k',c,m,A,rfl⟩
theorem LM(j:ic M ι g w)(d:r.k=0)(m:ι r=none)(t:TypeId) :
 ∃u w',(Instr.makeMap t none).run P w = .ok u w'/\jx M ι g w r (.mp r) [bj []] u w':=by
 have b:Ei w (w.alloc (.map #[] 0)) (.map #[] 0):=⟨rfl,rfl,rfl,rfl⟩
 obtain⟨n,p⟩:=IS j m b (k:=bj []) (.inr (.inl ⟨[], #[],rfl,rfl,rfl,by rw[b.heap];simp,rfl,λi f e h=>by simp at h⟩))
 refine⟨.map (some w.heap.size),w.alloc (.map #[] 0),by simp[Instr.makeMap,run_newObj_alloc],M,kD ι r ⟨w.heap.size,0,0⟩,.mp (l:=⟨w.heap.size,0,0⟩) (by simp[kD]) rfl,by rw[rP _ _ d];exact n,by rw[rP _ _ d];exact p,?_⟩
 intro q c v
 have:q≠r:=by intro e;exact v 0 (by simp) (by rw[e];cases r;simp_all)
 simpa [kD,this] using c
theorem u9{H:ai}{l:Loc}{k:bz}(m:ic M ι H.get w)(S:uK ι H)(y:ι r=some l)(O:l.esz=0)(n:H.get r=some k){k':bz}{o':Obj}(C:nM M ι (cd w l.b o') l k') :
 ic M ι (H.put r (some k')).get (cd w l.b o')/\uh M ι H.get w M ι (H.put r (some k')).get (cd w l.b o')/\uK ι (H.put r (some k')):=by
 obtain⟨W,t,L⟩:=m.live r _ n
 rw[y]at t;cases t
 have z:k.esz=0:=by rw[<-L.esz];exact O
 have K : ∀o x,M l.b o=some x->False:=by
  intro o x v
  have:=m.mem _ _ _ v
  rcases(L.objOk z).obj with ⟨_,i⟩ | ⟨_,_,i⟩ | ⟨_,_,_,_,_,_,i⟩
  ·simp[World.cell?,i]at this
  ·simp[World.cell?,i]at this
  ·simp[World.cell?,i]at this
 have c : ∀q k1,(H.put r (some k')).get q=some k1 ->∃k0,H.get q=some k0:=by
  intro q k1 d
  rw[ai.get_put]at d
  split at d
  ·rename_i e;exact⟨_,e ▸ n⟩
  ·exact⟨k1,d⟩
 refine⟨⟨λb o x v=>?_,λq k1 d=>?_,λq N k1 k2 f T A G R i Q=>?_⟩,⟨rfl,rfl,rfl,by simp[cd],λb _ I=>eE (I r _ l n y),λ_ _ _ h=>h,λ_ _ h=>h,λq k1 f A G=>?_,λ_ _ _ h => .inl h⟩,λq U d=>?_⟩
 ·have J:l.b≠b:=λe=>K o x (e ▸ v)
  rw[World.cell?_of_block (w:=w) (eE J)]
  exact m.mem b o x v
 ·by_cases j:q=r
  ·subst j
   rw[ai.get_put,if_pos rfl]at d
   cases d
   exact⟨l,y,C.Vo O K⟩
  ·rw[ai.get_put,if_neg j]at d
   obtain⟨f,u,p⟩:=m.live q k1 d
   have D:l.b≠f.b:=λe=>j (m.inj q r k1 _ f l d n u y e.symm)
   exact⟨f,u,p.cr (λ_ _ _ h=>h) (λ_ _ h=>h) (eE D) p.frozen⟩
 ·obtain⟨k0,F⟩:=c q k1 A
  obtain⟨k3,V⟩:=c N k2 G
  exact m.inj q N k0 k3 f T F V R i Q
 ·obtain⟨k0,F⟩:=c q k1 A
  exact .inr ⟨q,k0,f,F,G,rfl⟩
 ·rw[ai.mW _ _ _ (by rw[n];rfl)]
  exact S q U d
theorem HD{H:ai}(hS:ic M ι H.get w)(hD:uK ι H){t:TypeId}{m k x y:AV}{um d I:Value}(hm:VR M ι m um)(hk:VR M ι k d)(hx:VR M ι x I){H':ai}(h:dQ P H t (some m) (some k) (some x)=some (y,H')) :
 ∃w',(Instr.mapUpdate t um d I).run P w = .ok () w'/\vM M ι H w y H' undef w':=by
 unfold dQ at h
 split at h
 ·rename_i kt et r' k' x' ht J e2 e3
  cases J;cases e2;cases e3
  cases hm with | mp hr X=>
  rename_i l
  split at h
  ·rename_i kv ents D hma
   have W:d=kv:=u5 hk D
   subst W
   obtain⟨a,f,entries,hg,S,C,q,U⟩:=A8 hS hma hr X
   have Q:l.b<w.heap.size:=(iG.1 S).1
   have N:(getObj l.b).run P w = .ok (.map entries entries.size) w:=by simp[getObj,Sem.run,S]
   have O : ∀o,(setObj l.b o).run P w = .ok () (cd w l.b o):=by intro o;simp[setObj,Sem.run,S,cd]
   split at h
   ·rename_i ks L
    have n:=U ks L
    split at h
    ·rename_i i R
     rw[n]at R
     obtain⟨T,h⟩:=fB.1 h
     cases h
     obtain⟨Y,_,h3⟩:=sU R w
     obtain⟨e,he,K⟩:=h3 i rfl
     have p:entries[i]?=some e:=by simpa using he
     have hil:i<entries.size:=(iG.1 p).1
     have Z:Instr.sameBits 10000 e.key d=true:=by
      rw[n]at T
      simp only[oS,Ir,p,Option.map_some,dW]at T
      exact T
     have G:(Instr.keyThatStays (((entries[i]?).map (·.key)).getD d) d).run P w = .ok d w:=by
      rw[p]
      simp[Instr.keyThatStays,Z]
     refine⟨cd w l.b (.map (entries.modify i λe => { e with key:=d,val:=I}) entries.size),by simp only[Instr.mapUpdate,Sem.run_bind,bB (yQ ht),Result.andThen_ok,N,Y,K,G,O],M,ι,.v rfl,?_⟩
     refine u9 hS hD hr X hg (.inr (.inl ⟨ents.set i (.tup [k,x]),entries.modify i λe => { e with key:=d,val:=I},rfl,rfl,rfl,?_,by simp[C],λj F J u c=>?_⟩))
     ·rw[gk Q];simp
     ·rw[KK]at c
      by_cases A:i=j
      ·subst A
       rw[if_pos rfl,p]at c
       simp only[Option.map_some,dW]at c
       subst c
       rw[KM (by omega)]at u
       cases u
       obtain⟨_,_,_,_,_,hb⟩:=q i _ e (fc (by omega)) p
       exact⟨k,x,rfl,D,hx,hb⟩
      ·rw[if_neg A]at c
       rw[KJ A]at u
       exact q j F J u c
    ·rename_i R
     rw[n]at R
     cases h
     obtain⟨Y,h2,_⟩:=sU R w
     refine⟨cd w l.b (.map (entries.push { key:=d,val:=I,born:=entries.size}) (entries.size+1)),by simp only[Instr.mapUpdate,Sem.run_bind,bB (yQ ht),Result.andThen_ok,N,Y,h2 rfl,O],M,ι,.v rfl,?_⟩
     refine u9 hS hD hr X hg (.inr (.inl ⟨ents++[.tup [k,x]],entries.push { key:=d,val:=I,born:=entries.size},rfl,rfl,rfl,?_,by simp[C],λj F J u c=>?_⟩))
     ·rw[gk Q];simp
     ·rcases fm j entries.size with z | hge
      ·rw[Es z,<-jY z]at c
       rw[nS (by omega)]at u
       exact q j F J u c
      ·rw[pf (by omega)]at u
       have V:j=entries.size:=by
        have:=(iN.1 u).1
        simp at this
        omega
       subst V
       simp only[C,Nat.sub_self,NO,dW]at u
       subst u
       simp at c
       subst c
       exact⟨k,x,rfl,D,hx,rfl⟩
    ·cases h
   ·cases h
  ·cases h
 ·cases h
theorem JC{H:ai}(hS:ic M ι H.get w)(hD:uK ι H){t:TypeId}{m k y:AV}{um q:Value}(hm:VR M ι m um)(hk:VR M ι k q){H':ai}(h:iO P H t (some m) (some k)=some (y,H')) :
 ∃u w',(Instr.mapEntry t um q).run P w = .ok u w'/\vM M ι H w y H' u w':=by
 have two : ∀ {v:AV} {u:Value} (n:Nat),VR M ι v u->VR M ι (.tup [v,.v (.int .i64 n)]) (.tuple #[u,goInt n]):=by
  intro v u n J
  refine .tup (by simp) rfl λi c u' G S=>?_
  match i with
  | 0=>simp at G S;subst G;subst S;exact J
  | 1=>simp at G S;subst G;subst S;exact .v rfl
  | i+2=>simp at G
 unfold iO at h
 split at h
 ·rename_i kt et r' k' ht T e2
  cases T;cases e2
  cases hm with | mp hr hz=>
  rename_i l
  split at h
  ·rename_i kv ents N hma
   have huk:q=kv:=u5 hk N
   subst huk
   obtain⟨a,f,entries,hg,hh,I,D,hks⟩:=A8 hS hma hr hz
   have Y:l.b<w.heap.size:=(iG.1 hh).1
   have W:(getObj l.b).run P w = .ok (.map entries entries.size) w:=by simp[getObj,Sem.run,hh]
   have X : ∀o,(setObj l.b o).run P w = .ok () (cd w l.b o):=by intro o;simp[setObj,Sem.run,hh,cd]
   split at h
   ·rename_i ks V
    have C:=hks ks V
    split at h
    ·rename_i i Z
     rw[C]at Z
     obtain⟨G,h⟩:=fB.1 h
     obtain⟨v,J,h⟩:=bO.1 h
     cases h
     obtain⟨h1,_,h3⟩:=sU Z w
     obtain⟨e,he,U⟩:=h3 i rfl
     have p:entries[i]?=some e:=by simpa using he
     have hil:i<entries.size:=(iG.1 p).1
     have hsb:Instr.sameBits 10000 e.key q=true:=by
      rw[C]at G
      simp only[oS,Ir,p,Option.map_some,dW]at G
      exact G
     have Q:(Instr.keyThatStays (((entries[i]?).map (·.key)).getD q) q).run P w = .ok q w:=by
      rw[p]
      simp[Instr.keyThatStays,hsb]
     obtain⟨A,R,J⟩:=ig.1 J
     obtain⟨ka,va,q1,q2,q3,q4⟩:=D i A e R p
     subst q1
     simp only[Hb,dW]at J
     subst J
     refine⟨.tuple #[e.val,goInt i],cd w l.b (.map (entries.modify i λe => { e with key:=q}) entries.size),?_,M,ι,two i q3,?_⟩
     ·have O:(Option.map (λx:MapEntry=>(x.born:Int)) entries[i]?).getD 0=(i:Int):=by rw[p];simp[q4]
      simp only[Instr.mapEntry,Sem.run_bind,Sem.run_pure,bB (yQ ht),Result.andThen_ok,W,h1,U,Q,X,O]
     refine u9 hS hD hr hz hg (.inr (.inl ⟨ents.set i (.tup [k,va]),entries.modify i λe => { e with key:=q},rfl,rfl,rfl,?_,by simp[I],λj A T F d=>?_⟩))
     ·rw[gk Y];simp
     ·rw[KK]at d
      by_cases L:i=j
      ·subst L
       rw[if_pos rfl,p]at d
       simp only[Option.map_some,dW]at d
       subst d
       rw[KM (by omega)]at F
       cases F
       exact⟨k,va,rfl,N,q3,q4⟩
      ·rw[if_neg L]at d
       rw[KJ L]at F
       exact D j A T F d
    ·rename_i Z
     rw[C]at Z
     obtain⟨z,hzz,h⟩:=bO.1 h
     cases h
     obtain⟨h1,h2,_⟩:=sU Z w
     obtain⟨uz,S,J⟩:=xL hzz w
     refine⟨.tuple #[uz,goInt ents.length],cd w l.b (.map (entries.push { key:=q,val:=uz,born:=entries.size}) (entries.size+1)),?_,M,ι,two ents.length (jN J),?_⟩
     ·simp only[Instr.mapEntry,Sem.run_bind,Sem.run_pure,bB (yQ ht),Result.andThen_ok,W,h1,h2 rfl,S,X,I]
     refine u9 hS hD hr hz hg (.inr (.inl ⟨ents++[.tup [k,z]],entries.push { key:=q,val:=uz,born:=entries.size},rfl,rfl,rfl,?_,by simp[I],λj A T F d=>?_⟩))
     ·rw[gk Y];simp
     ·rcases fm j entries.size with K | hge
      ·rw[Es K,<-jY K]at d
       rw[nS (by omega)]at F
       exact D j A T F d
      ·rw[pf (by omega)]at F
       have hj0:j=entries.size:=by
        have:=(iN.1 F).1
        simp at this
        omega
       subst hj0
       simp only[I,Nat.sub_self,NO,dW]at F
       subst F
       simp at d
       subst d
       exact⟨k,z,rfl,N,jN J,rfl⟩
    ·cases h
   ·cases h
  ·cases h
 ·cases h
theorem FX{H:ai}(R:ic M ι H.get w)(Y:uK ι H){t:TypeId}{m s x y:AV}{N us z:Value}(hm:VR M ι m N)(hs:VR M ι s us)(hx:VR M ι x z){H':ai}(h:fE H (some m) (some s) (some x)=some (y,H')) :
 ∃w',(Instr.entryStore t N us z).run P w = .ok () w'/\vM M ι H w y H' undef w':=by
 unfold fE at h
 split at h
 ·rename_i r' kd n x' A e2 Z
  cases A;cases e2;cases Z
  cases hm with | mp Q O=>
  rename_i l
  cases hs
  split at h
  ·rename_i ents K
   obtain⟨hn,h⟩:=fB.1 h
   split at h
   ·rename_i S va u
    cases h
    obtain⟨a,f,entries,U,C,D,d,_⟩:=A8 R K Q O
    have L:l.b<w.heap.size:=(iG.1 C).1
    have G:(getObj l.b).run P w = .ok (.map entries entries.size) w:=by simp[getObj,Sem.run,C]
    have J : ∀o,(setObj l.b o).run P w = .ok () (cd w l.b o):=by intro o;simp[setObj,Sem.run,C,cd]
    have i:n.toNat<entries.size:=by have:=(iN.1 u).1;omega
    have born : ∀j (p:j<entries.size),entries[j].born=j:=by
     intro j p
     obtain⟨_,_,_,_,_,V⟩:=d j _ entries[j] (fc (by omega)) (jY p)
     exact V
    have I:entries.findIdx? (λe=>(e.born:Int) == n)=some n.toNat:=by
     rw[Array.findIdx?_eq_some_iff_getElem]
     refine⟨i,?_,λj p=>?_⟩
     ·rw[born _ i];simp;omega
     ·rw[born j (by omega)];simp;omega
    obtain⟨X,T,q1,q2,q3,W⟩:=d n.toNat _ entries[n.toNat] u (jY i)
    cases q1
    refine⟨cd w l.b (.map (entries.modify n.toNat λe => { e with val:=z}) entries.size),?_,M,ι,.v rfl,?_⟩
    ·simp only[Instr.entryStore,Sem.run_bind,Sem.run_pure,Result.andThen_ok,G,asInt,asIntOf,I,J]
    refine u9 R Y Q O U (.inr (.inl ⟨ents.set n.toNat (.tup [S,x]),entries.modify n.toNat λe => { e with val:=z},rfl,rfl,rfl,?_,by simp[D],λj F A p c=>?_⟩))
    ·rw[gk L];simp
    ·rw[KK]at c
     by_cases q:n.toNat=j
     ·subst q
      rw[if_pos rfl,jY i]at c
      simp only[Option.map_some,dW]at c
      subst c
      rw[KM (by omega)]at p
      cases p
      exact⟨S,x,rfl,q2,hx,W⟩
     ·rw[if_neg q]at c
      rw[KJ q]at p
      exact d j F A p c
   ·cases h
  ·cases h
 ·cases h
theorem Hk{g:da}{r:Ref}{cap:Nat}{d:Bool}{b:List AV}(h:Vj g r=some (cap,d,b)) :
 ∃n f,g r=some ⟨0,.v (.bool false) :: .v (.int .i64 n) :: .v (.bool d) :: b,false,f⟩/\n.toNat=cap:=by
 unfold Vj at h
 split at h
 ·rename_i n e c f i
  cases h
  exact⟨n,f,i,rfl⟩
 ·cases h
theorem Ks(F:ic M ι g w){r:Ref}{l:Loc}(C:ι r=some l){cap:Nat}{m:Bool}{d:List AV}(h:Vj g r=some (cap,m,d)) :
 ∃s t arr,w.heap[l.b]?=some (.chan cap arr m s t false)/\arr.size=d.length /\∀(i:Nat) x u,d[i]?=some x->arr[i]?=some u->VR M ι x u:=by
 obtain⟨n,f,y,K⟩:=Hk h
 obtain⟨L,j,z⟩:=F.live r _ y
 rw[C]at j;cases j
 rcases z.objOk rfl with ⟨_,_,_,_,_,_,_,_,_,e,_⟩ | ⟨_,_,_,_,e,_⟩ | ⟨c,s,t,G,p,arr,_,_,e,A,q,H⟩
 ·simp at e
 ·simp at e
 ·simp only[zF,AV.v.injEq,Value.int.injEq,Value.bool.injEq,true_and]at e
  obtain⟨J,D,I⟩:=e
  subst D I
  have:c=cap:=by omega
  subst this
  exact⟨s,t,arr,A,q,H⟩
theorem J3(H:ic M ι g w)(z:r.k=0)(I:ι r=none){t e:TypeId}{b:Nat}(f:Lc P t=some e)(v:o9 P e=some b)(k:IntKind)(n:Nat)(F:n<=1000000)(j:b<=1000000) :
 ∃u w',(Instr.makeChan t (.int k n)).run P w = .ok u w'/\jx M ι g w r (.ch r) [Hj n false []] u w':=by
 unfold Lc at f
 split at f
 ·rename_i D K C
  cases f
  unfold o9 at v
  obtain⟨i,A,p⟩:=bO.1 v
  have c:Ei w (w.alloc (.chan n #[] false 0 0 false)) (.chan n #[] false 0 0 false):=⟨rfl,rfl,rfl,rfl⟩
  obtain⟨y,J⟩:=IS H I c (k:=Hj n false []) (.inr (.inr ⟨n,0,0,false,[], #[],rfl,rfl,rfl,by rw[c.heap];simp,rfl,λi x u h=>by simp at h⟩))
  have d:(i.bytes:Int) * n<=281474976710544:=by
   have L:i.bytes * n<=1000000 * 1000000:=Nat.mul_le_mul (p ▸ j) F
   have y:((i.bytes * n:Nat):Int)=(i.bytes:Int) * n:=by simp
   omega
  refine⟨_,_,Go.Conc.run_makeChan C A k n (by omega) d,M,kD ι r ⟨w.heap.size,0,0⟩,.ch (l:=⟨w.heap.size,0,0⟩) (by simp[kD]) rfl,by rw[rP _ _ z];exact y,by rw[rP _ _ z];exact J,?_⟩
  intro q m G
  have:q≠r:=by intro e;exact G 0 (by simp) (by rw[e];cases r;simp_all)
  simpa [kD,this] using m
 ·cases f
theorem Gu(w:World)(c cap:Nat)(b:Array Value)(d:Bool)(s r:Nat):w.setChan c cap b d s r false=cd w c (.chan cap b d s r false):=rfl
def Hw(P:Program)(o:Oper)(a:Act)(w:World)(S:Value->World->Prop):Prop:=
 ∀(b:Frame)(k:List Item)(cs:List Frame)(ops:Array Oper)(i:Nat)(rest:List Nat),b.kind = .normal->ops[i]?=some o->Region.wanted o (yielded ops a.tmps)=true ->
  ∃u w',S u w'/\step P (lone (b.atR a (.inRegion ops (i :: rest) :: k)) cs w) = .next (lone (b.atR (a.put o.dst u) (.inRegion ops rest :: k)) cs w')
theorem Am{P:Program}{b:Frame}{a:Act}{k:List Item}{cs:List Frame}{w w':World}{ops:Array Oper}{i:Nat}{rest:List Nat}{o:Oper}{cases:Array CommCase}{shape:CommShape}(j:b.kind = .normal)(h:ops[i]?=some o)
 (f:Region.wanted o (yielded ops a.tmps)=true) (m : ∀c,o.op ≠ .defer c) (n:(execOp a.eval o).run P w = .ok (.comm cases true shape) w') :
 ∃es,stepG P true (Go.Conc.G (b.atR a (.inRegion ops (i :: rest) :: k)) cs) w = .comm (Go.Conc.G (b.atR a (.inRegion ops (i :: rest) :: k)) cs) cases true shape w' es:=by
 have e:=stepGR_op (P:=P) (b:=b) (k:=k) (cs:=cs) (w:=w) (rest:=rest) h f
 rw[Oper.semAt_eq _ _ _ m]at e
 unfold Go.Conc.G
 rw[e]
 have d:(b.kind == CallKind.early)=false:=by rw[j];rfl
 refine⟨Go.Conc.listed P b.fn a o w,?_⟩
 simp[stepG.apply,n,Frame.atR,d,GStep.after,Go.Conc.listed]
theorem SF{P:Program}{o:Oper}{a:Act}{H:ai}(T:ic M ι H.get w)(Z:uK ι H){C A:Operand}(m:o.op = .send C A){c x y:AV}{H':ai}(R:VR M ι c (a.eval C))(hx:VR M ι x (a.eval A))
 (h:FU H (some c) (some x)=some (y,H')):Hw P o a w λu w'=>vM M ι H w y H' u w':=by
 unfold FU at h
 split at h
 ·rename_i r x' U e2
  cases U;cases e2
  split at h
  ·rename_i cap e p
   obtain⟨⟨hlt,Y⟩,h⟩:=fB.1 h
   cases h
   generalize F:a.eval C=cv at R
   cases R with | @ch _ _ l S hz=>
   obtain⟨s,t,arr,Q,D,J⟩:=Ks T S p
   obtain⟨n,f,V,_⟩:=Hk p
   have W:l.b<w.heap.size:=(iG.1 Q).1
   intro b k cs ops i rest X O hw
   obtain⟨es,L⟩:=Am (P:=P) (b:=b) (a:=a) (k:=k) (cs:=cs) (w:=w) (w':=w) (rest:=rest) (cases := #[Go.Conc.scase l.b (a.eval A) (.tuple #[])]) (shape := .send) X O hw (by simp[m]) (by simp[execOp,m,Go.Conc.scase,F])
   have I:=Go.Conc.step_lone_send_room L Q (by omega)
   obtain⟨k1,k2,k3⟩:=u9 T Z S hz V (k':=Hj cap false (e++[x])) (o' := .chan cap (arr.push (a.eval A)) false (s+1) t false)
    (.inr (.inr ⟨cap,s+1,t,false,e++[x],arr.push (a.eval A),rfl,rfl,rfl,gk W,by simp[D],λj z u d q=>by
     rcases fm j e.length with N | N
     ·rw[nS N]at d
      rw[Es (by omega)]at q
      exact J j z u d (by rw[<-q];exact jY (by omega))
     ·rw[pf N]at d
      have G:j - e.length=0:=by
       have:=(iN.1 d).1
       simp at this;omega
      rw[G]at d
      have K:j=arr.size:=by omega
      rw[K,Array.getElem?_push_size]at q
      simp at d q
      subst d q
      exact hx⟩))
   refine⟨undef,_,⟨M,ι,.v rfl,k1,k2,k3⟩,?_⟩
   rw[Go.Conc.lone_eq_solo,I,Frame.finish_atR,O,Go.Conc.lone_eq_solo,Gu]
   rfl
  ·cases h
 ·cases h
theorem Qa{M:Mem}{ι:Map}{x:AV}{u:Value}(ok b:Bool)(h:VR M ι x u):VR M ι (aaj ok x b) (Go.Conc.got ok u b):=by
 cases ok with
 | false=>exact h
 | true=>
  refine .tup (by simp) rfl λi c v d e=>?_
  match i with
  | 0=>simp at d e;subst d e;exact h
  | 1=>simp at d e;subst d e;exact .v rfl
  | i+2=>simp at d
theorem SG{P:Program}{o:Oper}{a:Act}{H:ai}(O:ic M ι H.get w)(hD:uK ι H){t:TypeId}{Q:Operand}{ok:Bool}(A:o.op = .recv t Q ok){c y:AV}{H':ai}(hc:VR M ι c (a.eval Q))
 (h:Is P H t (some c) ok=some (y,H')):Hw P o a w λu w'=>vM M ι H w y H' u w':=by
 unfold Is at h
 split at h
 ·rename_i r z e1 v
  cases e1
  generalize T:a.eval Q=cv at hc
  cases hc with | @ch _ _ l X hz=>
  obtain⟨e,he,K⟩:=ig.1 v
  unfold Lc at he
  split at he
  ·rename_i dir e' G
   cases he
   unfold ff at K
   obtain⟨v0,W,Z⟩:=ig.1 K
   obtain⟨inf,hi,R⟩:=ig.1 W
   have Y:VR M ι z v0:=jN Z
   have p:(execOp a.eval o).run P w = .ok (.comm #[Go.Conc.rcase l.b v0] true (.recv ok)) w:=by
    simp[execOp,A,Go.Conc.rcase,T,run_underlying G,zeroValue,typeInfo,hi,R]
   split at h
   ·rename_i cap V x L m
    cases h
    obtain⟨s,t',arr,N,d,D⟩:=Ks O X m
    obtain⟨n,f,hg,_⟩:=Hk m
    have hb:l.b<w.heap.size:=(iG.1 N).1
    have q:0<arr.size:=by rw[d];simp
    intro b k cs ops i rest S I U
    obtain⟨es,F⟩:=Am (P:=P) (b:=b) (a:=a) (k:=k) (cs:=cs) (w:=w) (w':=w) (rest:=rest) S I U (by simp[A]) p
    have C:=Go.Conc.step_lone_recv_buf ok F N q
    obtain⟨k1,k2,k3⟩:=u9 O hD X hz hg (k':=Hj cap V L) (o' := .chan cap (arr.extract 1 arr.size) V s (t'+1) false)
     (.inr (.inr ⟨cap,s,t'+1,V,L,arr.extract 1 arr.size,rfl,rfl,rfl,gk hb,by simp[d],λj z u J G=>by
      refine D (j+1) z u (by simpa using J) ?_
      have hj:=(iN.1 J).1
      rw[Array.getElem?_extract]at G
      rw[Nat.add_comm j 1]
      split at G
      ·exact G
      ·cases G⟩))
    refine⟨_,_,⟨M,ι,Qa ok true (D 0 x (arr.getD 0 undef) rfl (by simp[Array.getD,q])),k1,k2,k3⟩,?_⟩
    rw[Go.Conc.lone_eq_solo,C,Frame.finish_atR,I,Go.Conc.lone_eq_solo,Gu]
    rfl
   ·rename_i cap m
    cases h
    obtain⟨s,t',arr,N,d,D⟩:=Ks O X m
    have ha:arr = #[]:=KO (by simpa using d)
    subst ha
    intro b k cs ops i rest S I U
    obtain⟨es,F⟩:=Am (P:=P) (b:=b) (a:=a) (k:=k) (cs:=cs) (w:=w) (w':=w) (rest:=rest) S I U (by simp[A]) p
    have C:=Go.Conc.step_lone_recv_shut ok F N
    refine⟨_,_,⟨M,ι,Qa ok false Y,O,uh.refl,hD⟩,?_⟩
    rw[Go.Conc.lone_eq_solo,C,Frame.finish_atR,I,Go.Conc.lone_eq_solo]
    rfl
   ·cases h
  ·cases he
 ·cases h
theorem WX{P:Program}{o:Oper}{a:Act}{w:World}{K:Act->World->Prop}{ops:Array Oper}{i:Nat}(x:ops[i]?=some o)(D:Region.wanted o (yielded ops a.tmps)=true)(b:Frame)
 (h:o.wpIn (FW b.roundOf) 0 P a w K (λ_ _ _=>False)) (rest:List Nat) (k:List Item) (cs:List Frame) :
 ∃C w',K C w'/\Steps P (lone (b.atR a (.inRegion ops (i :: rest) :: k)) cs w) (lone (b.atR C (.inRegion ops rest :: k)) cs w'):=by
 obtain⟨_,h⟩:=h
 have t:=stepGR_op (P:=P) (b:=b) (k:=k) (cs:=cs) (w:=w) (rest:=rest) x D
 have j : ∀v,(b.atR a (.inRegion ops (i :: rest) :: k)).finish v=b.atR (a.put o.dst v) (.inRegion ops rest :: k):=by
  intro v;rw[Frame.finish_atR,x];rfl
 have m : ∀n,(FW b.roundOf).room n:=λn _ h=>by simp[FW,Fence.wide]at h
 rw[show(FW b.roundOf).round=b.roundOf from rfl]at h
 unfold Oper.uponIn at h
 split at h
 ·rename_i v w' p
  refine⟨_,_,h,.one (step_lone_go ?_)⟩
  rw[t,<-j];simp[stepG.apply,p]
 ·rename_i w' p
  refine⟨_,_,h,.one (step_lone_go ?_)⟩
  rw[t,<-j];simp[stepG.apply,p]
 ·rename_i d w' p
  refine⟨_,_,h,.one (step_lone_go ?_)⟩
  have G:({ b.atR a (.inRegion ops (i :: rest) :: k)with defers:=d :: a.defers}:Frame).finish undef =
   b.atR ({ a with defers:=d :: a.defers}.put o.dst undef) (.inRegion ops rest :: k):=by
   have A:=Frame.finish_atR b { a with defers:=d :: a.defers} ops i rest k undef
   rw[x]at A;exact A
  rw[t];simp only[stepG.apply,Sem.runT_eq,p,GStep.bare_after]
  exact congrArg (λfr=>GStep.go { frame:=fr,callers:=cs,status := .running,dying:=none} w') G
 ·rename_i f args w' p
  obtain⟨_,H,h⟩:=h
  obtain⟨e,z,fr,q,u,_,F⟩:=h (b.atR a (.inRegion ops (i :: rest) :: k) :: cs) (m _)
  have c:step P (lone (b.atR a (.inRegion ops (i :: rest) :: k)) cs w) = .next (lone (Frame.enter P f args .normal) (b.atR a (.inRegion ops (i :: rest) :: k) :: cs) w'):=
   step_lone_go (by rw[t];simp[stepG.apply,p,Frame.atR])
  cases e with
  | returned v=>
   refine⟨_,_,q,Steps.trans (.one c) (Steps.trans (StepsIn.steps u) (.one ?_))⟩
   rw[<-j];exact step_leave_returned F
  | panicked chain=>exact q.elim
  | outgrown=>obtain⟨_,_,y⟩:=q;exact y.elim
 ·rename_i row args w' p
  obtain⟨_,h⟩:=h
  obtain⟨v,z,q,u⟩:=h (b.atR a (.inRegion ops (i :: rest) :: k)) cs (m _)
  have c:step P (lone (b.atR a (.inRegion ops (i :: rest) :: k)) cs w) = .next (lone (Frame.ofRow P row args .normal) (b.atR a (.inRegion ops (i :: rest) :: k) :: cs) w'):=
   step_lone_go (by rw[t];simp[stepG.apply,p,Frame.atR])
  refine⟨_,_,q,Steps.trans (.one c) ?_⟩
  rw[<-j];exact StepsIn.steps u
 ·rename_i l f tmps assign body w' p
  obtain⟨_,_,h⟩:=h
  obtain⟨e,z,q,u⟩:=h (b.atR a (.inRegion ops (i :: rest) :: k)) cs (m _)
  have c:step P (lone (b.atR a (.inRegion ops (i :: rest) :: k)) cs w) = .next (lone (Frame.round l f tmps assign body .normal) (b.atR a (.inRegion ops (i :: rest) :: k) :: cs) w'):=
   step_lone_go (by rw[t];simp[stepG.apply,p,Frame.atR])
  cases e with
  | returned v=>
   refine⟨_,_,q,Steps.trans (.one c) ?_⟩
   rw[<-j];exact StepsIn.steps u
  | panicked chain=>exact q.elim
  | outgrown=>obtain⟨_,_,y⟩:=q;exact y.elim
 ·exact h.elim
 ·exact h.elim
end
end Go.Ab
namespace Go.Ab
def lM(r:Ref)(b:List Loc):Map:=λq=>if q.d=r.d/\q.t=r.t/\q.g=r.g then b[q.k]? else none
structure zx (M:Mem) (w:World) (y:AV) (v:Value) (M':Mem) (w':World):Prop where
 os:w'.os=w.os
 tape:w'.tape=w.tape
 output:w'.output=w.output
 size:w.heap.size<=w'.heap.size
 old : ∀b,b<w.heap.size->w'.heap[b]?=w.heap[b]?
 mem : ∀b o x,M b o=some x->M' b o=some x
 sound : ∀b o x,M' b o=some x->w'.cell? ⟨b,o,none⟩=some x
 new : ∀b o x,M' b o=some x->M b o=some x\/w.heap.size<=b
 res : ∀r:Ref,∃ls:List Loc,ls.length=(aE r depth y []).2.length/\VR M' (lM r ls) (aE r depth y []).1 v /\
  (∀(k:Nat) l b,ls[k]?=some l->(aE r depth y []).2[k]?=some b->o6 M' ek w' l b/\w.heap.size<=l.b) /\
  ∀(i j:Nat) l l',ls[i]?=some l->ls[j]?=some l'->l.b=l'.b->i=j
def cW(P:Program)(f:FuncId)(args:List AV)(y:AV):Prop:=
 (∃fn,P.funcs[f]?=some fn/\(fn.name == "runtime.NumGoroutine")=false/\fn.body.isSome=true) /\
 ∀(M:Mem)(w:World)(us:List Value),(∀b o x,M b o=some x->w.cell? ⟨b,o,none⟩=some x)->mc M ek args us ->
  Calls P f us.toArray w λe w' =>∃v M',e = .returned v/\zx M w y v M' w'
def sh(P:Program):xb->List AV->ai->AV->ai->Prop
 | .fn f,args,H,y,H'=>
  (∃fn,P.funcs[f]?=some fn/\(fn.name == "runtime.NumGoroutine")=false/\fn.body.isSome=true) /\
  ∀(M:Mem)(ι:Map)(w:World)(us:List Value),ic M ι H.get w->uK ι H->mc M ι args us ->
   Calls P f us.toArray w λe w' =>∃v,e = .returned v/\vM M ι H w y H' v w'
 | .yld r,args,H,y,H' =>∀(M:Mem)(ι:Map)(w:World)(us:List Value)(l:Loc),ic M ι H.get w->uK ι H->mc M ι args us->ι r=some l ->
  ∃fn tmps assign body,(Instr.yield l.b us.toArray).run P w = .ok (.round l.b fn tmps assign body) w /\
   RoundIn (FW none) 0 P l.b fn tmps assign body w λe w' =>∃v,e = .returned v/\vM M ι H w y H' v w'
theorem C2{M M':Mem}{ι ι':Map} : ∀(n:Nat)(x:AV)(u:Value),flat n x=true->VR M ι x u->VR M' ι' x u:=by
 intro n
 induction n with
 | zero=>intro x u h;simp[flat]at h
 | succ n f=>
  intro x u h z
  cases z with
  | v p=>exact .v p
  | agg j e=>
   simp only[flat,gD]at h
   exact .agg j λi c u b d=>f c u (h c (fL b)) (e i c u b d)
  | tup y j e=>
   simp only[flat,gD]at h
   exact .tup y j λi c u b d=>f c u (h c (fL b)) (e i c u b d)
  | ifc e=>exact .ifc (f _ _ (by simpa [flat] using h) e)
  | fn t q e m=>
   simp only[flat,bh,gD]at h
   exact .fn t q (λi c u b d=>f c u (h.1 c (fL b)) (e i c u b d)) λi c u b d=>f c u (h.2 c (fL b)) (m i c u b d)
  | yld=>simp[flat]at h
  | mp=>simp[flat]at h
  | ch=>simp[flat]at h
  | bW=>simp[flat]at h
  | cL=>simp[flat]at h
  | ptr=>simp[flat]at h
  | iptr=>simp[flat]at h
theorem wj(r:Ref) : ∀(n m:Nat)(x:AV)(f:List bz),flat m x=true->aE r n x f=(x,f):=by
 intro n
 induction n with
 | zero=>intro m x f h;rfl
 | succ n q=>
  intro m x f h
  have e : ∀(m:Nat)(cs b:List AV),(∀c∈cs,flat m c=true)->cs.foldl (λ(p:List AV × List bz) c=>(p.1++[(aE r n c p.2).1],(aE r n c p.2).2)) (b,f)=(b++cs,f):=by
   intro m cs
   induction cs with
   | nil=>intro b _;simp
   | cons c cs i=>
    intro b j
    rw[vR,q m c f (j c (jn ..))]
    rw[i (b++[c]) (λd u=>j d (il _ u))]
    simp
  cases m with
  | zero=>simp[flat]at h
  | succ m=>
   cases x with
   | agg cs=>
    simp only[flat,gD]at h
    have:=e m cs [] h
    simp only[aE]
    rw[this]
    simp
   | tup cs=>
    simp only[flat,gD]at h
    have:=e m cs [] h
    simp only[aE]
    rw[this]
    simp
   | fsl=>simp[flat]at h
   | ifc t x=>
    simp only[aE]
    rw[q m x f (by simpa [flat] using h)]
   | _=>rfl
theorem Hr{g:da}{r q:Ref}{e:List bz}{b:bz}(h:sX g r e q=some b):(q.d=r.d/\q.t=r.t/\q.g=r.g/\e[q.k]?=some b)\/(¬(q.d=r.d/\q.t=r.t/\q.g=r.g/\q.k<e.length)/\g q=some b):=by
 unfold sX at h
 split at h
 ·rename_i c;exact .inl ⟨c.1,c.2.1,c.2.2.1,h⟩
 ·rename_i c;exact .inr ⟨c,h⟩
theorem Hm{M ι g w}(I:ic M ι g w){r:Ref}(X : ∀k,ι { r with k:=k}=none){y:AV}{v:Value}{M':Mem}{w':World}(h:zx M w y v M' w') :
 jx M ι g w r (aE r depth y []).1 (aE r depth y []).2 v w':=by
 obtain⟨ls,U,hv,T,hi⟩:=h.res r
 have G : ∀q l,lM r ls q=some l->ι q=none:=by
  intro q l H
  unfold lM at H
  split at H
  ·rename_i Y
   have:q = { r with k:=q.k}:=by cases q;cases r;simp_all
   rw[this]
   exact X _
  ·cases H
 have D : ∀q l,ι q=some l->(λq=>match ι q with | some l=>some l | none=>lM r ls q) q=some l:=by
  intro q l h;simp[h]
 have t : ∀q l,lM r ls q=some l->(λq=>match ι q with | some l=>some l | none=>lM r ls q) q=some l:=by
  intro q l h;simp[G q l h,h]
 have u : ∀q l,(λq=>match ι q with | some l=>some l | none=>lM r ls q) q=some l->ι q=some l\/(ι q=none/\lM r ls q=some l):=by
  intro q l h
  simp only at h
  split at h
  ·rename_i Q z;exact .inl (by rw[z,h])
  ·rename_i R;exact .inr ⟨R,h⟩
 have j : ∀q b l,sX g r (aE r depth y []).2 q=some b->(λq=>match ι q with | some l=>some l | none=>lM r ls q) q=some l ->
  (g q=some b/\ι q=some l)\/(w.heap.size<=l.b/\lM r ls q=some l/\ls[q.k]?=some l/\q = { r with k:=q.k}):=by
  intro q b l A p
  rcases Hr A with ⟨f,m,i,F⟩ | ⟨f,m⟩
  ·right
   have n:q = { r with k:=q.k}:=by cases q;cases r;simp_all
   have R:ι q=none:=by rw[n];exact X _
   rcases u q l p with d | ⟨_,d⟩
   ·rw[R]at d;cases d
   ·have V:ls[q.k]?=some l:=by unfold lM at d;rw[if_pos ⟨f,m,i⟩]at d;exact d
    exact⟨(T q.k l b V F).2,d,V,n⟩
  ·left
   obtain⟨W,e,_⟩:=I.live q b m
   rcases u q l p with d | ⟨d,_⟩
   ·exact⟨m,d⟩
   ·rw[e]at d;cases d
 refine⟨M',λq=>match ι q with | some l=>some l | none=>lM r ls q,hv.mono (λ_ _ _ h=>h) _ t,?_,?_,?_⟩
 ·refine⟨h.sound,?_,?_⟩
  ·intro q b A
   rcases Hr A with ⟨f,m,i,F⟩ | ⟨f,m⟩
   ·have C:q.k<ls.length:=by rw[U];exact(iN.1 F).1
    have J:ls[q.k]?=some ls[q.k]:=fc C
    obtain⟨c,hge⟩:=T q.k _ b J F
    have L:lM r ls q=some ls[q.k]:=by unfold lM;rw[if_pos ⟨f,m,i⟩];exact J
    refine⟨_,t q _ L,?_⟩
    exact c.cr (λ_ _ _ h=>h) (λq l h=>by cases h) rfl c.frozen
   ·obtain⟨l,z,c⟩:=I.live q b m
    refine⟨l,D q l z,c.cr h.mem D (h.old _ c.lt) ?_⟩
    intro o x S
    rcases h.new _ _ _ S with i | i
    ·exact c.frozen o x i
    ·exact absurd c.lt (Fx.2 i)
  ·intro q O b b' l Q f m i F d
   rcases j q b l f i with ⟨a1,a2⟩ | ⟨a1,a2,a3,a4⟩<;>rcases j O b' Q m F with ⟨b1,b2⟩ | ⟨b1,b2,b3,Z⟩
   ·exact I.inj q O b b' l Q a1 b1 a2 b2 d
   ·obtain⟨W,e,c⟩:=I.live q b a1
    rw[a2]at e;cases e
    exact absurd c.lt (by rw[d];exact Fx.2 b1)
   ·obtain⟨W,e,c⟩:=I.live O b' b1
    rw[b2]at e;cases e
    exact absurd c.lt (by rw[<-d];exact Fx.2 a1)
   ·have:=hi _ _ _ _ a3 b3 d
    rw[a4,Z,this]
 ·refine⟨h.os,h.tape,h.output,h.size,λb K _=>h.old b K,h.mem,D,?_,?_⟩
  ·intro q b l f i
   rcases j q b l f i with ⟨a1,a2⟩ | ⟨a1,_⟩
   ·exact .inr ⟨q,b,l,a1,a2,rfl⟩
   ·exact .inl a1
  ·intro b o x S
   rcases h.new b o x S with f | f
   ·exact .inl f
   ·exact .inr (.inl f)
 ·intro q N H
  simp only[N]
  unfold lM
  split
  ·rename_i Y
   have n:q = { r with k:=q.k}:=by cases q;cases r;simp_all
   have : ¬q.k<(aE r depth y []).2.length:=λC=>H q.k C n
   exact zI (by rw[U];omega)
  ·rfl
theorem Ic{M ι g w}(d:ic M ι g w){r:Ref}{y:AV}{v:Value}{n M':Mem}{w':World}(j:flat depth y=true)(h:zx n w y v M' w'):jx M ι g w r y [] v w':=by
 obtain⟨ls,C,m,A,z⟩:=h.res r
 rw[wj r depth depth y [] j]at m
 refine⟨M,ι,C2 depth y v j m,?_,?_,λq e _=>e⟩
 ·rw[ng]
  refine⟨?_,?_,d.inj⟩
  ·intro b o x u
   have:=d.mem b o x u
   rw[World.cell?_of_block (w:=w) (h.old _ (World.block_lt_of_cell? w ⟨b,o,none⟩ this))]
   exact this
  ·intro q b e
   obtain⟨l,f,c⟩:=d.live q b e
   exact⟨l,f,c.cr (λ_ _ _ h=>h) (λ_ _ h=>h) (h.old _ c.lt) c.frozen⟩
 ·rw[ng]
  exact⟨h.os,h.tape,h.output,h.size,λb i _=>h.old b i,λ_ _ _ h=>h,λ_ _ h=>h,λq b l p t => .inr ⟨q,b,l,p,t,rfl⟩,λ_ _ _ h => .inl h⟩
theorem O9{M M':Mem}{ι ι':Map}{e x:AV}{u:Value}{j:Nat}(d:flat depth e=true)(b:e.cells[j]?=some x)(h:VR M ι x u):VR M' ι' x u:=by
 cases e with
 | agg cs=>
  have f:x∈cs:=fL b
  have : ∀c∈cs,flat 7 c=true:=by simpa [flat,depth] using d
  exact C2 7 x u (this x f) h
 | _=>
  simp only[AV.cells]at b
  cases j with
  | zero=>simp at b;subst b;exact C2 depth _ u d h
  | succ j=>simp at b
theorem OF(r:Ref) : ∀(n:Nat)(x:AV)(f:List bz),CK n x=true ->∃new,(aE r n x f).2=f++new/\(∀b∈new,0<b.esz/\b.arr=true/\b.kH=false /\∀e∈b.es,flat depth e=true) /\
 ∀(M M':Mem)(ι:Map)(u:Value),VR M ι (aE r n x f).1 u->VR M' ι (aE r n x f).1 u:=by
 intro n
 induction n with
 | zero=>intro x f h;simp[CK]at h
 | succ n S=>
  intro x f h
  have C : ∀(cs A:List AV)(f:List bz),(∀c∈cs,CK n c=true) ->∃(new:List bz) (zs:List AV),cs.foldl (λ(p:List AV × List bz) c=>(p.1++[(aE r n c p.2).1],(aE r n c p.2).2)) (A,f)=(A++zs,f++new) /\
   (∀b∈new,0<b.esz/\b.arr=true/\b.kH=false /\∀e∈b.es,flat depth e=true) /\∀(M M':Mem)(ι:Map)(z:AV),z∈zs ->∀u,VR M ι z u->VR M' ι z u:=by
   intro cs
   induction cs with
   | nil=>intro A f _;exact⟨[],[],by simp,λb q=>by simp at q,λ_ _ _ z F=>by simp at F⟩
   | cons c cs N=>
    intro A f y
    obtain⟨n1,a1,a2,a3⟩:=S c f (y c (jn ..))
    obtain⟨n2,zs,b1,b2,b3⟩:=N (A++[(aE r n c f).1]) (f++n1) λd T=>y d (il _ T)
    refine⟨n1++n2,(aE r n c f).1 :: zs,?_,?_,?_⟩
    ·rw[vR]
     simp only
     rw[a1,b1]
     simp
    ·intro b q
     rcases nR.1 q with q | q
     ·exact a2 b q
     ·exact b2 b q
    ·intro M M' ι z F u m
     rcases m6.1 F with rfl | F
     ·exact a3 M M' ι u m
     ·exact b3 M M' ι z F u m
  cases x with
  | v x=>exact⟨[],by simp[aE],λb q=>by simp at q,λM M' ι u m=>by simp only[aE]at m ⊢;cases m with | v I=>exact .v I⟩
  | agg cs=>
   simp only[CK,gD]at h
   obtain⟨new,zs,D,H,G⟩:=C cs [] f h
   simp only[aE]
   rw[D]
   refine⟨new,rfl,H,λM M' ι u m=>?_⟩
   simp only[vS]at m ⊢
   cases m with | agg L J=>
   exact .agg L λi c u y Q=>G M M' ι c (fL y) u (J i c u y Q)
  | tup cs=>
   simp only[CK,gD]at h
   obtain⟨new,zs,D,H,G⟩:=C cs [] f h
   simp only[aE]
   rw[D]
   refine⟨new,rfl,H,λM M' ι u m=>?_⟩
   simp only[vS]at m ⊢
   cases m with | tup X L J=>
   exact .tup X L λi c u y Q=>G M M' ι c (fL y) u (J i c u y Q)
  | fsl z es cap=>
   simp only[CK,bh,bne_iff_ne,ne_eq,gD]at h
   simp only[aE]
   rw[if_neg h.1]
   refine⟨[⟨z,es,true,false⟩],rfl,?_,λM M' ι u m=>?_⟩
   ·intro b q
    rw[uP.1 q]
    exact⟨Bm h.1,rfl,rfl,h.2⟩
   ·cases m with | cL W q I V y U K F=>exact .cL W q I V y U K F
  | bW z es cap=>
   have R:es=[]:=by simpa [CK] using h
   subst R
   refine⟨[],by simp[aE],λb q=>by simp at q,λM M' ι u m=>?_⟩
   simp only[aE]at m ⊢
   cases m with | bW cell I y K hm he J=>exact .bW cell I y K (λi j D=>by simp at D) he λi j e x D=>by simp at D
  | ifc t x=>
   obtain⟨new,D,H,G⟩:=S x f (by simpa [CK] using h)
   simp only[aE]
   exact⟨new,D,H,λM M' ι u m=>by cases m with | ifc O=>exact .ifc (G M M' ι _ O)⟩
  | _=>simp[CK]at h
theorem zx.own{M I M':Mem}{w w':World}{y:AV}{v:Value}(t : ∀b o x,M b o=some x->w.cell? ⟨b,o,none⟩=some x)(C:CK depth y=true)(h:zx I w y v M' w'):zx M w y v M w':=by
 have p : ∀b o x,M b o=some x->b<w.heap.size:=λb o x c=>World.block_lt_of_cell? w ⟨b,o,none⟩ (t b o x c)
 refine⟨h.os,h.tape,h.output,h.size,h.old,λ_ _ _ h=>h,?_,λ_ _ _ h => .inl h,λr=>?_⟩
 ·intro b o x c
  rw[World.cell?_of_block (w:=w) (h.old _ (p b o x c))]
  exact t b o x c
 ·obtain⟨ls,H,O,D,L⟩:=h.res r
  obtain⟨new,N,J,F⟩:=OF r depth y [] C
  refine⟨ls,H,F M' M _ v O,λk l b G d=>?_,L⟩
  obtain⟨f,q⟩:=D k l b G d
  have m:b∈new:=by rw[N,vS]at d;exact fL d
  obtain⟨Q,S,R,K⟩:=J b m
  have n : ∀o x,M l.b o=some x->b.kH=true/\o<b.es.length * b.esz:=λo x c=>absurd (p _ _ _ c) (Fx.2 q)
  refine⟨⟨f.esz,λz=>?_,λz=>by omega,n⟩,q⟩
  obtain⟨c1,⟨arr,T,fz,d1,d2,d3,d4⟩,c3,c4,_⟩:=f.cellsOk z
  refine⟨c1,⟨arr,T,fz,d1,d2,d3,λi j e x A c=>?_⟩,c3,c4,n⟩
  obtain⟨u,f1,f2,f3⟩:=d4 i j e x A c
  exact⟨u,f1,f2,O9 (K e (fL A)) c f3⟩
theorem Ew{P:Program}{f:FuncId}(i : ∃fn,P.funcs[f]?=some fn/\(fn.name == "runtime.NumGoroutine")=false/\fn.body.isSome=true)(args:Array Value)(w:World) :
 (callFunc f args).run P w = .ok (.enter f args) w:=by
 obtain⟨fn,h,j,c⟩:=i
 have d:fn.body≠none:=by intro e;rw[e]at c;cases c
 have b:fn.name ≠ "runtime.NumGoroutine" := by simpa using j
 simp[callFunc,h,b,d]
theorem D4{P:Program}{a:Act}{o:Oper}{c:Call}{d:Operand}(e:o.op = .call c)(h:c.callee = .value d){f:FuncId}{first captured:Array Value}(b:a.eval d = .func (.func f) first captured)
 (i : ∃fn,P.funcs[f]?=some fn/\(fn.name == "runtime.NumGoroutine")=false/\fn.body.isSome=true) (w:World) :
 (execOp a.eval o).run P w = .ok (.enter f (first++c.args.map a.eval++captured)) w:=by
 simp[execOp,e,resolve,h,b,Deferred.ofValue,invoke,Ew i]
theorem KY{M ι g w}(d:ic M ι g w){xs ys:List AV}{us:List Value}(h:xs.mapM (view g depth)=some ys)(c:mc M ι xs us):mc (nd M ι g w (cq g xs)) ek ys us:=
 ⟨by rw[jT h];exact c.1,λi y u f e=>by
  obtain⟨x,b,j⟩:=rp h i y f
  refine Ci d depth x y u j ?_ (c.2 i x u b e)
  intro r m
  exact sv.2 ⟨x,fL b,m⟩⟩
theorem VR.Xw{M ι}{f:FuncId}{a b:List AV}{u:Value}(h:VR M ι (.fn (.func f) a b) u) : ∃j b',u = .func (.func f) j b'/\mc M ι a j.toList/\mc M ι b b'.toList:=by
 cases h with | fn p n m d=>
 exact⟨_,_,rfl,⟨by simpa using p,λi x u e c=>m i x u e (by simpa using c)⟩,⟨by simpa using n,λi x u e c=>d i x u e (by simpa using c)⟩⟩
theorem Gj(a b c:Array Value):(a.toList++b.toList++c.toList).toArray=a++b++c:=by
 apply Fy;simp
section
variable{E:Env}{M:Mem}{ι:Map}{g:da}{w:World}{r:Ref}{a:Act}{tm:List AV}{o:Oper}
theorem TZ(q:ic M ι g w)(Q:TR M ι tm a)(S : ∀k,ι { r with k:=k}=none){pc:FuncId->List AV->Option AV}(I : ∀f xs y,pc f xs=some y->cW E.P f xs y)
 {c:Call} {O:Operand} (U:o.op = .call c) (n:c.callee = .value O) {args:List AV} (t:c.args.toList.mapM (aO tm)=some args) {x:AV} {N:List bz} (h:ku E pc g r (aO tm O) args=some (x,N)) :
 eM E.P o a w λu w'=>jx M ι g w r x N u w':=by
 unfold ku at h
 split at h
 ·rename_i fi first captured F
  split at h
  ·cases h
  ·split at h
   ·rename_i xs G
    split at h
    ·rename_i y V
     obtain⟨d,h⟩:=fB.1 h
     injection h with h
     obtain⟨Z,m⟩:=I fi xs y V
     obtain⟨X,b',L,K,H⟩:=(aY Q F).Xw
     have i:=np Q t
     have A:mc M ι (first++args++captured) (X.toList++(c.args.map a.eval).toList++b'.toList):=(K.append (by simpa using i)).append H
     obtain⟨z,Y⟩:=AB (R:=cq g (first++args++captured)) q
     have j:=KY q G A
     have b:=m (nd M ι g w (cq g (first++args++captured))) w _ (zm q.mem) j
     rw[Gj]at b
     refine eM.GL (D4 U n L Z w) (b.mono λe w' ⟨v,M',he,hend⟩=>⟨v,he,?_⟩)
     by_cases p:flat depth y=true
     ·have T:=wj r depth depth y [] p
      rw[T]at h
      injection h with W h2
      subst W;subst h2
      exact Ic q p hend
     ·by_cases D:CK depth y=true
      ·have:=Hm q S (hend.own q.mem D)
       rw[h]at this
       exact this
      have J:kg g (cq g (first++args++captured))=true:=by
       simp only[fe,bh]at d
       rcases d with (n | n) | n
       ·exact absurd n p
       ·exact n
       ·exact absurd n.2 D
      have C:=MB J
      rw[C]at z
      have:=Hm z S hend
      rw[h]at this
      exact jx.after C q this
    ·cases h
   ·cases h
 ·cases h
theorem KV{H:ai}{d D:Nat}(J:ic M ι H.get w)(O:uK ι H)(Q:TR M ι tm a){pc:FuncId->List AV->Option AV}(hpc : ∀f xs y,pc f xs=some y->cW E.P f xs y)
 {tc:xb->List AV->ai->du} (L : ∀f xs H y H',tc f xs H=some (y,H')->sh E.P f xs H y H')
 {c:Call} {Y:Operand} (S:o.op = .call c) (U:c.callee = .value Y) {args:List AV} (n:c.args.toList.mapM (aO tm)=some args) {x:AV} {H':ai}
 (h:m7 E pc tc H ⟨d,D,H.gen d D,0⟩ (aO tm Y) args=some (x,H')):eM E.P o a w λu w'=>vM M ι H w x H' u w':=by
 unfold m7 at h
 split at h
 ·rename_i fi first captured A
  obtain⟨a',b',N,hva,Z⟩:=(aY Q A).Xw
  have j:=np Q n
  have z:mc M ι (first++args++captured) (a'.toList++(c.args.map a.eval).toList++b'.toList):=(hva.append (by simpa using j)).append Z
  split at h
  ·obtain⟨hf,G⟩:=L _ _ _ _ _ h
   have i:=G M ι w _ J O z
   rw[Gj]at i
   exact eM.GL (D4 S U N hf w) (i.mono λe w' ⟨v,he,hend⟩=>⟨v,he,hend⟩)
  ·split at h
   ·rename_i xs T
    simp only[bO]at h
    obtain⟨y,F,h⟩:=h
    injection h with h1 h2
    obtain⟨hf,C⟩:=hpc fi xs y F
    obtain⟨X,I⟩:=AB (R:=cq H.get (first++args++captured)) J
    have t:=KY J T z
    have i:=C (nd M ι H.get w (cq H.get (first++args++captured))) w _ (zm J.mem) t
    rw[Gj]at i
    refine eM.GL (D4 S U N hf w) (i.mono λe w' ⟨v,M',he,hend⟩=>⟨v,he,?_⟩)
    have W:uK ι (cJ H (cq H.get (first++args++captured))):=by
     intro q l hq
     rw[ai.ky]
     exact O q l hq
    have m:=Hm (r:=⟨d,D,H.gen d D,0⟩) X (λk=>O.fresh d D k) hend
    rw[<-ai.eu]at m
    have K:H.gen d D=(cJ H (cq H.get (first++args++captured))).gen d D:=(ai.ky _ _ _ _).symm
    have key:vM (nd M ι H.get w (cq H.get (first++args++captured))) ι (cJ H (cq H.get (first++args++captured))) w x H' v w':=by
     subst h1;subst h2
     rw[K]at m ⊢
     exact m.toW W
    obtain⟨M2,V,k1,k2,k3,k4⟩:=key
    refine⟨M2,V,k1,k2,?_,k4⟩
    rw[<-ai.eu]at I
    exact I.trans k3
   ·cases h
 ·rename_i q A
  have j:=np Q n
  have F:=aY Q A
  generalize hu:a.eval Y=u at F
  cases F with | yld hr hz=>
  rename_i l
  obtain⟨fn,tmps,assign,body,F,p⟩:=L _ _ _ _ _ h M ι w _ l J O j hr
  refine eM.Uk (l:=l.b) ?_ p
  have e1:(c.args.map a.eval:Array Value)=(c.args.toList.map a.eval).toArray:=by rw[<-Js];simp
  rw[<-e1]at F
  simp[execOp,S,resolve,U,hu,Deferred.ofValue,invoke,F]
 ·cases h
end
end Go.Ab
namespace Go.Ab
theorem VR.cut{M M':Mem}{ι:Map}{e:AV}{U:Value}(T:VR M ι e U) : ∀ {ι':Map} {u:Value},VR M' ι' e u->(∀q l,ι q=some l->ι' q=some l)->VR M' ι e u:=by
 induction T with
 | v h=>intro ι' u h d;cases h with | v F=>exact .v F
 | agg R _ p=>
  intro ι' u h d
  cases h with | agg y n=>
  refine .agg y λi c u f A=>?_
  have C:=(iN.1 f).1
  exact p i c _ f (jY (by omega)) (n i c u f A) d
 | tup D R _ p=>
  intro ι' u h d
  cases h with | tup H y n=>
  refine .tup H y λi c u f A=>?_
  have C:=(iN.1 f).1
  exact p i c _ f (jY (by omega)) (n i c u f A) d
 | bW cell F f I hm he _ p=>
  intro ι' u h d
  cases h with | bW cell F f I hm he n=>exact .bW cell F f I hm he n
 | cL m Q F S f V I D=>
  intro ι' u h d
  have t:=d _ _ m
  cases h with | cL b x N z J K G j=>
  rw[t]at b
  cases b
  exact .cL m x N z J K G j
 | ptr m D=>
  intro ι' u h d
  have t:=d _ _ m
  cases h with | ptr b j=>
  rw[t]at b
  cases b
  exact .ptr m j
 | iptr cell hm he _ p=>
  intro ι' u h d
  cases h with | iptr cell hm he n=>exact .iptr cell hm he n
 | fn S Q _ _ p O=>
  intro ι' u h d
  cases h with | fn z x n L=>
  refine .fn z x (λi c u f A=>?_) λi c u f A=>?_
  ·have C:=(iN.1 f).1
   exact p i c _ f (jY (by omega)) (n i c u f A) d
  ·have C:=(iN.1 f).1
   exact O i c _ f (jY (by omega)) (L i c u f A) d
 | ifc _ p=>intro ι' u h d;cases h with | ifc n=>exact .ifc (p n d)
 | yld m D=>
  intro ι' u h d
  have t:=d _ _ m
  cases h with | yld b j=>
  rw[t]at b
  cases b
  exact .yld m j
 | mp m D=>
  intro ι' u h d
  have t:=d _ _ m
  cases h with | mp b j=>
  rw[t]at b
  cases b
  exact .mp m j
 | ch m D=>
  intro ι' u h d
  have t:=d _ _ m
  cases h with | ch b j=>
  rw[t]at b
  cases b
  exact .ch m j
section
variable{M M':Mem}{ι ι':Map}{w w':World}{l:Loc}{k:bz}
theorem fY.cut(n:fY M ι w l k)(c:fY M' ι' w' l k)(m : ∀q l,ι q=some l->ι' q=some l):fY M' ι w' l k:=by
 obtain⟨b,_,_,_,_,_,y⟩:=n.heap
 obtain⟨arr,T,fz,p,z,t,v⟩:=c.heap
 refine⟨c.esz,⟨arr,T,fz,p,z,t,λi j e x f d=>?_⟩,c.len,c.cells,c.frozen⟩
 obtain⟨A,_,_,v0⟩:=y i j e x f d
 obtain⟨u,a1,a2,v1⟩:=v i j e x f d
 refine⟨u,a1,a2,v0.cut v1 ?_⟩
 unfold bz.map
 split
 ·exact λ_ _ h=>h
 ·exact m
theorem Hv.cut(m:Hv M ι w l k)(c:Hv M' ι' w' l k)(d : ∀q l,ι q=some l->ι' q=some l):Hv M' ι w' l k:=by
 obtain⟨H,p,j,C,A,f,I,_,_,b,_,_,_,_,_,v0,_⟩:=m
 obtain⟨n,nt,ps,as,i,tm,r,u,G,e,x,y,h,F,D,v,z⟩:=c
 rw[e]at b
 simp only[zF,AV.lp.injEq]at b
 obtain⟨_,⟨_,_,_,_,_,rfl⟩,_⟩:=b
 exact⟨n,nt,ps,as,i,tm,r,u,G,e,x,y,h,F,D,λt=>(v0 t).cut (v t) d,z⟩
theorem Nn.cut(u:Nn M ι w l k)(c:Nn M' ι' w' l k)(p : ∀q l,ι q=some l->ι' q=some l):Nn M' ι w' l k:=by
 obtain⟨n,d,_,_,m,_,K,v0⟩:=u
 obtain⟨ents,entries,x,I,e,z,s,v⟩:=c
 rw[e]at m
 simp only[zF,true_and]at m
 subst m
 refine⟨ents,entries,x,I,e,z,s,λi f F b j=>?_⟩
 obtain⟨H,t,q1,q2,D,C⟩:=v i f F b j
 have G:=(iN.1 b).1
 obtain⟨J,y,h,_,A,_⟩:=v0 i f _ b (jY (by omega))
 rw[q1]at h
 simp only[AV.tup.injEq,zF]at h
 obtain⟨_,rfl,_⟩:=h
 exact⟨H,t,q1,q2,A.cut D p,C⟩
theorem Hy.cut(t:Hy M ι w l k)(c:Hy M' ι' w' l k)(j : ∀q l,ι q=some l->ι' q=some l):Hy M' ι w' l k:=by
 obtain⟨_,_,_,_,h,f,_,_,b,_,D,v0⟩:=t
 obtain⟨cap,s,r,m,buf,arr,y,C,e,z,p,v⟩:=c
 rw[e]at b
 simp only[zF,true_and]at b
 obtain⟨_,_,rfl⟩:=b
 refine⟨cap,s,r,m,buf,arr,y,C,e,z,p,λi x u d n=>?_⟩
 have A:=(iN.1 d).1
 exact(v0 i x _ d (jY (by omega))).cut (v i x u d n) j
theorem nM.cut(d:nM M ι w l k)(c:nM M' ι' w' l k)(f : ∀q l,ι q=some l->ι' q=some l):nM M' ι w' l k:=by
 rcases d with d | d | d<;>rcases c with c | c | c
 ·exact .inl (d.cut c f)
 ·obtain⟨_,_,_,_,_,_,_,_,_,b,_⟩:=d
  obtain⟨_,_,_,_,e,_⟩:=c
  rw[e]at b;simp at b
 ·obtain⟨_,_,_,_,_,_,_,_,_,b,_⟩:=d
  obtain⟨_,_,_,_,_,_,_,_,e,_⟩:=c
  rw[e]at b;simp at b
 ·obtain⟨_,_,_,_,_,_,_,_,_,b,_⟩:=c
  obtain⟨_,_,_,_,e,_⟩:=d
  rw[e]at b;simp at b
 ·exact .inr (.inl (d.cut c f))
 ·obtain⟨_,_,_,_,b,_⟩:=d
  obtain⟨_,_,_,_,_,_,_,_,e,_⟩:=c
  rw[e]at b;simp at b
 ·obtain⟨_,_,_,_,_,_,_,_,_,b,_⟩:=c
  obtain⟨_,_,_,_,_,_,_,_,e,_⟩:=d
  rw[e]at b;simp at b
 ·obtain⟨_,_,_,_,b,_⟩:=c
  obtain⟨_,_,_,_,_,_,_,_,e,_⟩:=d
  rw[e]at b;simp at b
 ·exact .inr (.inr (d.cut c f))
theorem o6.cut(b:o6 M ι w l k)(c:o6 M' ι' w' l k)(d : ∀q l,ι q=some l->ι' q=some l):o6 M' ι w' l k:=
 ⟨c.esz,λh=>(b.cellsOk h).cut (c.cellsOk h) d,λh=>(b.objOk h).cut (c.objOk h) d,c.frozen⟩
theorem Rq{H H':ai}(f:ic M ι H.get w)(n:uK ι H){y:AV}{v:Value}(z:flat depth y=true)(C : ∀q k,H.get q=some k->H'.get q=some k)(h:vM M ι H w y H' v w'):vM M ι H w y H v w':=by
 obtain⟨m,t,D,d,b,A⟩:=h
 refine⟨m,ι,C2 depth y v z D,⟨d.mem,λq k i=>?_,f.inj⟩,⟨b.os,b.tape,b.output,b.size,b.chg,b.mem,λ_ _ h=>h,λq k l p x => .inr ⟨q,k,l,p,x,rfl⟩,b.new⟩,n⟩
 obtain⟨l,j,u⟩:=f.live q k i
 obtain⟨F,c,e⟩:=d.live q k (C q k i)
 have:=b.map q l j
 rw[this]at c
 cases c
 exact⟨l,j,u.cut e b.map⟩
theorem KX{u v:Value}(h:PB u v=true):u=v:=by
 unfold PB at h
 split at h
 ·simp at h;rw[h]
 ·simp at h;rw[h.1,h.2]
 ·simp at h;rw[h]
 ·simp only[bh]at h
  rw[kP h.1,kP h.2]
 ·rfl
 ·rfl
 ·cases h
theorem rN{f:AV->AV->Bool}(d : ∀x y,f x y=true->x=y) : ∀(xs ys:List AV),xs.length=ys.length->((xs.zip ys).all λp=>f p.1 p.2)=true->xs=ys:=by
 intro xs
 induction xs with
 | nil=>intro ys h _;exact(Ch h.symm).symm
 | cons x xs c=>
  intro ys h b
  cases ys with
  | nil=>simp at h
  | cons y ys=>
   simp only[Ny,Ad,bh]at b
   rw[d x y b.1,c ys (by simpa using h) b.2]
theorem CC{r r':Ref}(h:IM r r'=true):r=r':=by
 unfold IM at h
 simp only[bh]at h
 cases r;cases r'
 simp only[Ref.mk.injEq]
 exact⟨kP h.1.2,kP h.1.1.1,kP h.1.1.2,kP h.2⟩
theorem Vm : ∀(n:Nat)(x y:AV),BD n x y=true->x=y:=by
 intro n
 induction n with
 | zero=>intro x y h;simp[BD]at h
 | succ n b=>
  intro x y h
  unfold BD at h
  split at h
  ·rw[KX h]
  ·simp only[bh]at h
   rw[rN b _ _ (kP h.1) h.2]
  ·simp only[bh]at h
   rw[rN b _ _ (kP h.1) h.2]
  ·simp only[bh,decide_eq_true_eq]at h
   rw[rN b _ _ (kP h.1.2) h.2,kP h.1.1.1,h.1.1.2]
  ·simp only[bh,decide_eq_true_eq]at h
   rw[CC h.1.1.1,kP h.1.1.2,kP h.1.2,h.2]
  ·simp only[bh]at h
   rw[CC h.1.1,kP h.1.2,kP h.2]
  ·rw[CC h]
  ·rw[CC h]
  ·simp only[bh]at h
   rw[kP h.1.1,rN b _ _ (kP h.1.2.1) h.1.2.2,rN b _ _ (kP h.2.1) h.2.2]
  ·simp only[bh]at h
   rw[kP h.1,b _ _ h.2]
  ·cases h
theorem Pm{k k':bz}(h:Kx k k'=true):k=k':=by
 unfold Kx at h
 simp only[bh,beq_iff_eq]at h
 cases k;cases k'
 simp only[bz.mk.injEq]
 exact⟨kP h.1.1.1.1,rN (Vm 8) _ _ (kP h.1.2) h.2,h.1.1.1.2,h.1.1.2⟩
theorem get_mem : ∀(H:ai)(q:Ref)(k:bz),H.get q=some k ->∃b,(q,b)∈H:=by
 intro H
 induction H with
 | nil=>intro q k h;cases h
 | cons p H c=>
  obtain⟨r,b⟩:=p
  intro q k h
  simp only[ai.get]at h
  split at h
  ·rename_i e;subst e;exact⟨b,jn ..⟩
  ·obtain⟨b',d⟩:=c q k h
   exact⟨b',il _ d⟩
theorem Mw{H H':ai}(h:G2 H H'=true)(q:Ref)(k:bz)(d:H.get q=some k):H'.get q=some k:=by
 obtain⟨b,e⟩:=get_mem H q k d
 have:=gD.1 h _ e
 simp only[d]at this
 split at this
 ·cases this
 ·rename_i k' c
  rw[c,Pm this]
theorem KS{b:Bool}{sm:Nl}{H H':ai}{c:du}{y:AV}(h:qn b sm H c=some (y,H')):c=some (y,H') \/∃d,H'=H/\c=some (y,d)/\flat depth y=true /\∀q k,H.get q=some k->d.get q=some k:=by
 unfold qn at h
 split at h
 ·rename_i y1 d
  obtain⟨e,h⟩:=fB.1 h
  cases h
  exact .inr ⟨d,rfl,rfl,(xi.1 e).1,(Jy.1 (xi.1 e).2).elim Mw (sm.ok _ _)⟩
 ·exact .inl h
end
end Go.Ab
namespace Go.Ab
theorem uD(l:List AV)(d t:Nat)(x:AV):dH (Cu l d x) t=if t=d then x else dH l t:=by
 induction l generalizing d t with
 | nil=>
  induction d generalizing t with
  | zero=>cases t<;>simp[Cu,dH]
  | succ d b=>
   cases t with
   | zero=>simp[Cu,dH]
   | succ t=>simp[Cu,dH,b]
 | cons y l b=>
  cases d with
  | zero=>cases t<;>simp[Cu,dH]
  | succ d=>
   cases t with
   | zero=>simp[Cu,dH]
   | succ t=>simp[Cu,dH,b]
theorem TR.put{M ι tm a}(f:TR M ι tm a){nt:Nat}(e:a.tmps.size=nt){c:Option Tmp}{x:AV}{tm':List AV}(h:dg nt tm c x=some tm'){u:Value}(j:VR M ι x u) :
 TR M ι tm' (a.put c u)/\(a.put c u).tmps.size=nt:=by
 unfold dg at h
 split at h
 ·injection h with h
  subst h
  exact⟨f,e⟩
 ·rename_i d
  obtain⟨i,h⟩:=fB.1 h
  injection h with h
  subst h
  refine⟨⟨?_⟩,by simp[Act.put,e]⟩
  intro t
  rw[uD]
  simp only[Act.put,Et]
  by_cases b:t=d
  ·subst b
   rw[if_pos rfl,Fw (by rw[e];exact i)]
   exact j
  ·rw[if_neg b,Bo (sL b),<-Et]
   exact f.at_ t
theorem lb{M ι tm a}(q:TR M ι tm a){ops:Array Oper}{o:Oper}{b:Bool}(h:wanted ops tm o=some b):Region.wanted o (yielded ops a.tmps)=b:=by
 unfold wanted at h
 unfold Region.wanted
 split at h
 ·rename_i m
  injection h with h
  subst h
  rw[m]
 ·rename_i j e m
  rw[m]
  simp only
  split at h
  ·rename_i t i
   have d:=q.at_ t
   rw[Et]at d
   split at h
   ·rename_i c n
    injection h with h
    subst h
    rw[n]at d
    have:a.tmps[t]?=some (.bool c):=by
     cases f:a.tmps[t]? with
     | none=>rw[f]at d;cases d
     | some v=>rw[f]at d;simp only[cX]at d;cases d;rfl
    simp only[yielded,i,fH,this]
    cases c<;>cases e<;>rfl
   ·rename_i x n
    rw[n]at d
    obtain⟨u,h⟩:=fB.1 h
    injection h with h
    subst h
    have p:x = #[]:=by simpa using u
    subst p
    have:yielded ops a.tmps j=none:=by
     simp only[yielded,i,fH]
     cases f:a.tmps[t]? with
     | none=>rfl
     | some v=>
      rw[f]at d
      simp only[cX]at d
      cases d
      rfl
    rw[this]
    rfl
   ·cases h
  ·rename_i i
   injection h with h
   subst h
   simp only[yielded,i,FK]
   rfl
section
variable{E:Env}{M:Mem}{ι:Map}{g:da}{w:World}{r:Ref}{a:Act}{tm:List AV}{o:Oper}
theorem ri{x:Option AV}{y:AV}{b:List bz}(h:jQ x=some (y,b)):x=some y/\b=[]:=by
 simp only[jQ,bO]at h
 obtain⟨z,e,h⟩:=h
 injection h with c d
 exact⟨by rw[e,c],d.symm⟩
theorem eM.same{s:Sem Value}(d:ic M ι g w)(e : ∀c,c=a.eval->execOp c o=(do pure (Next.value (<-s)))){x:AV}{b:List bz}(h:b=[] /\∃u,s.run E.P w = .ok u w/\VR M ι x u) :
 eM E.P o a w λu w'=>jx M ι g w r x b u w':=by
 obtain⟨rfl,u,i,f⟩:=h
 exact eM.of_run (by rw[e a.eval rfl];exact IL i) (jx.same d f)
theorem eM.made{s:Sem Value}(d : ∀c,c=a.eval->execOp c o=(do pure (Next.value (<-s)))){x:AV}{b:List bz}(h : ∃u w',s.run E.P w = .ok u w'/\jx M ι g w r x b u w') :
 eM E.P o a w λu w'=>jx M ι g w r x b u w':=by
 obtain⟨u,w',f,e⟩:=h
 exact eM.of_run (by rw[d a.eval rfl];exact IL f) e
theorem uH(ps:Array (Nat × Operand))(b:Operand->Value):(ps.map λ(p:Nat × Operand)=>(p.1,b p.2)).toList=ps.toList.map λp=>(p.1,b p.2):=by simp
theorem Kf{α:Type}{l:List α}(h:l.length=1) : ∃a,l=[a]:=List.length_eq_one_iff.1 h
theorem z7{α:Type}{l:List α}(h:l.length=2) : ∃a b,l=[a,b]:=by
 match l,h with
 | [a,b],_=>exact⟨a,b,rfl⟩
theorem eM.mono{P:Program}{Q b:Value->World->Prop}(h:eM P o a w Q)(d : ∀u w',Q u w'->b u w'):eM P o a w b:=
 λro K R e=>h ro K R λu w' c=>e u w' (d u w' c)
theorem fY.kH{l:Loc}{k:bz}(h:fY M ι w l k):fY M ι w l { k with kH:=true} :=
 ⟨h.esz,h.heap,h.len,h.cells,λo x b=>⟨rfl,(h.frozen o x b).2⟩⟩
theorem o6.kH{l:Loc}{k:bz}(h:o6 M ι w l k):o6 M ι w l { k with kH:=true} :=
 ⟨h.esz,λb=>(h.cellsOk b).kH,λb=>(h.objOk b).same rfl rfl rfl,λo x c=>⟨rfl,(h.frozen o x c).2⟩⟩
theorem Dh{d:List bz}{q:Ref}{b':bz}(h:sX g r (d.map λk => { k with kH:=true}) q=some b') : ∃b,sX g r d q=some b/\(b'=b\/b' = { b with kH:=true}):=by
 unfold sX at h ⊢
 simp only[so]at h
 split at h
 ·rename_i c
  rw[if_pos c]
  simp only[oS,bO]at h
  obtain⟨b,f,e⟩:=h
  exact⟨b,f,.inr e.symm⟩
 ·rename_i c
  rw[if_neg c]
  exact⟨b',h,.inl rfl⟩
theorem jx.AD{x:AV}{p:List bz}{b:Bool}{u:Value}{w':World}(h:jx M ι g w r x p u w'):jx M ι g w r x (Ab.AD b p) u w':=by
 cases b with
 | false=>exact h
 | true=>
  obtain⟨M',ι',v,n,c,A⟩:=h
  refine⟨M',ι',v,⟨n.mem,λq k j=>?_,λq C k k' l D a1 a2 a3 a4 a5=>?_⟩,⟨c.os,c.tape,c.output,c.size,c.chg,c.mem,c.map,λq k l a1 a2=>?_,c.new⟩,λq j z=>A q j λk m=>z k (by simpa [Ab.AD] using m)⟩
  ·obtain⟨b,y,e⟩:=Dh j
   obtain⟨l,t,f⟩:=n.live q b y
   rcases e with rfl | rfl
   ·exact⟨l,t,f⟩
   ·exact⟨l,t,f.kH⟩
  ·obtain⟨b1,d,_⟩:=Dh a1
   obtain⟨b2,i,_⟩:=Dh a2
   exact n.inj q C b1 b2 l D d i a3 a4 a5
  ·obtain⟨b1,d,_⟩:=Dh a1
   exact c.live q b1 l d a2
def B6(P:Program)(f:FuncId)(t:TypeId):Prop:=
 ∃fn tR,P.funcs[f]?=some fn/\(fn.name == "runtime.NumGoroutine")=false/\fn.body.isNone=true/\Extern.findNext fn=none/\Extern.find fn=some (Extern.SlicesOverlaps.overlaps #[t,t] #[tR])
theorem xY(A:ic M ι g w)(C:TR M ι tm a)(hr:r.k=0)(hq : ∀k,ι { r with k:=k}=none){pc:FuncId->List AV->Option AV}(hpc : ∀f xs y,pc f xs=some y->cW E.P f xs y)
 {W:Bool} (hov:W=false ->∀f t,E.ur f=some t->B6 E.P f t) {x:AV} {bs:List bz} (h:cE E pc W g tm r o=some (x,bs)):eM E.P o a w λu w'=>jx M ι g w r x bs u w':=by
 have R:ι r=none:=by have:=hq 0;rwa [show({ r with k:=0}:Ref)=r by cases r;simp_all]at this
 unfold cE at h
 split at h
 ·
  rename_i y d
  obtain⟨q,rfl⟩:=ri h
  exact eM.of_run (u:=a.eval y) (w':=w) (by simp[execOp,d]) (jx.same A (aY C q))
 ·
  rename_i y d
  obtain⟨q,rfl⟩:=ri h
  exact eM.of_run (u:=a.eval y) (w':=w) (by simp[execOp,d]) (jx.same A (aY C q))
 ·
  rename_i c y z d
  obtain⟨rfl,u,F,I⟩:=TP (P:=E.P) (w:=w) C h
  refine eM.of_run (u:=u) (w':=w) ?_ (jx.same A I)
  simp only[execOp,d]
  simp only[Sem.run_bind]at F ⊢
  cases V:(asBool (a.eval c)).run E.P w with
  | ok b w1=>
   rw[V]at F
   simp only[Result.andThen_ok,Sem.run_pure]at F ⊢
   injection F with L K
   rw[L,K]
  | halt hh w1=>rw[V]at F;cases F
 ·
  rename_i e d
  exact eM.made (λQ m=>by simp only[execOp,d]) (Rw A hr R h)
 ·
  rename_i e y d
  cases q:aO tm y with
  | none=>rw[q]at h;simp[J4]at h
  | some U=>
   rw[q]at h
   exact eM.made (λQ m=>by simp only[execOp,d,m]) (WN A hr R (aY C q) h)
 ·
  rename_i t ps d
  cases I:iS tm ps.toList with
  | none=>rw[I]at h;simp only[mP]at h;split at h<;>first | cases h | (rename_i L K;cases K)
  | some vs=>
   rw[I]at h
   obtain⟨L,K⟩:=uy (ι:=ι) C I
   refine eM.same A (s:=Instr.build t (ps.map λ(p:Nat × Operand)=>(p.1,a.eval p.2))) (λQ m=>by simp only[execOp,d,m]) (Rv ?_ ?_ h)
   ·rw[uH];exact L
   ·rw[uH];exact K
 ·
  rename_i t n ps d
  cases I:iS tm ps.toList with
  | none=>rw[I]at h;simp[im]at h
  | some vs=>
   rw[I]at h
   obtain⟨L,K⟩:=uy (ι:=ι) C I
   refine eM.made (s:=Instr.buildSlice t n (ps.map λ(p:Nat × Operand)=>(p.1,a.eval p.2))) (λQ m=>by simp only[execOp,d,m]) (GJ A hr R h ?_ ?_)
   ·rw[uH];exact L
   ·rw[uH];exact K
 ·
  rename_i t y d
  cases q:aO tm y with
  | none=>rw[q]at h;simp[tD]at h
  | some U=>
   rw[q]at h
   exact eM.same A (λQ m=>by simp only[execOp,d,m]) (TU A (aY C q) h)
 ·
  rename_i y d
  unfold LL at h
  split at h
  ·rename_i r' i j q
   injection h with h;injection h with L K;subst L;subst K
   have I:=aY C q
   refine eM.of_run (u:=a.eval y) (w':=w) ?_ (jx.same A I)
   generalize hu:a.eval y=u at I
   cases I
   simp[execOp,d,hu]
  ·rename_i n es i j q
   injection h with h;injection h with L K;subst L;subst K
   have I:=aY C q
   refine eM.of_run (u:=a.eval y) (w':=w) ?_ (jx.same A I)
   generalize hu:a.eval y=u at I
   cases I
   simp[execOp,d,hu]
  ·rename_i f b c q
   injection h with h;injection h with L K;subst L;subst K
   have I:=aY C q
   refine eM.of_run (u:=a.eval y) (w':=w) ?_ (jx.same A I)
   generalize hu:a.eval y=u at I
   cases I
   simp[execOp,d,hu]
  ·cases h
 ·
  rename_i op t xo yo ty d
  cases hx:aO tm xo with
  | none=>rw[hx]at h;simp[cf]at h
  | some x'=>
   cases q:aO tm yo with
   | none=>rw[hx,q]at h;simp[cf]at h
   | some U=>
    rw[hx,q]at h
    exact eM.same A (λQ m=>by simp only[execOp,d,m]) (WO (aY C hx) (aY C q) h)
 ·
  rename_i op t y d
  cases q:aO tm y with
  | none=>rw[q]at h;simp[Ye,jQ]at h
  | some U=>
   rw[q]at h
   exact eM.same A (λQ m=>by simp only[execOp,d,m]) (Zx (aY C q) h)
 ·
  rename_i src dst y d
  cases q:aO tm y with
  | none=>rw[q]at h;simp[gl]at h
  | some U=>
   rw[q]at h
   exact eM.made (λQ m=>by simp only[execOp,d,m]) (LP A hr R (aY C q) h)
 ·
  rename_i t y d
  cases q:aO tm y with
  | none=>rw[q]at h;simp only[sT]at h;split at h<;>simp at h
  | some U=>
   rw[q]at h
   exact eM.same A (λQ m=>by simp only[execOp,d,m]) (DP (aY C q) h)
 ·
  rename_i f first captured d
  cases L:first.toList.mapM (aO tm) with
  | none=>rw[L]at h;simp[ue]at h
  | some xs=>
   cases K:captured.toList.mapM (aO tm) with
   | none=>rw[L,K]at h;simp[ue]at h
   | some ys=>
    rw[L,K]at h
    obtain⟨rfl,I⟩:=TW (np C L) (np C K) h
    refine eM.of_run (u := .func f (first.map a.eval) (captured.map a.eval)) (w':=w) (by simp[execOp,d,Instr.makeFunc]) (jx.same A ?_)
    have e1 : ∀l:Array Operand,(l.toList.map a.eval).toArray=l.map a.eval:=λl=>by apply Fy;simp
    rw[e1,e1]at I
    exact I
 ·
  rename_i t l c d
  cases hl:aO tm l with
  | none=>rw[hl]at h;simp only[Ez,FK]at h;split at h<;>first | cases h | (rename_i L K Z;cases K)
  | some l'=>
   cases V:aO tm c with
   | none=>rw[hl,V]at h;simp only[Ez,FK]at h;split at h<;>first | cases h | (rename_i L K Z;cases Z)
   | some c'=>
    rw[hl,V]at h
    exact eM.made (λQ m=>by simp only[execOp,d,m]) (TT A hr R (aY C hl) (aY C V) h)
 ·
  rename_i t d
  cases h
  exact eM.made (s:=Instr.makeMap t none) (λQ m=>by simp only[execOp,d,Eo]) (LM A hr R t)
 ·
  rename_i t y z ok d
  cases q:aO tm y with
  | none=>rw[q]at h;simp only[eU]at h;split at h<;>simp_all
  | some U=>
   cases X:aO tm z with
   | none=>rw[q,X]at h;simp only[eU,FK]at h;split at h<;>simp_all
   | some z'=>
    rw[q,X]at h
    exact eM.same A (λQ m=>by simp only[execOp,d,m]) (Ow A (aY C q) (aY C X) h)
 ·
  rename_i t y lo hi mx d
  cases hwd:(E.wide o && !W) with
  | true=>
   rw[hwd]at h
   simp only[cond_true]at h
   cases q:aO tm y with
   | none=>rw[q]at h;unfold wa at h;split at h<;>simp_all
   | some U=>
    cases L:mh tm lo with
    | none=>rw[L]at h;simp[wa]at h
    | some lo'=>
     cases K:mh tm hi with
     | none=>rw[K]at h;unfold wa at h;split at h<;>simp_all
     | some hi'=>
      cases Z:mh tm mx with
      | none=>rw[Z]at h;unfold wa at h;split at h<;>simp_all
      | some mx'=>
       rw[q,L,K,Z]at h
       exact eM.same A (λQ m=>by simp only[execOp,d,m]) (Ov A (aY C q) (uG C L) (uG C K) (uG C Z) h)
  | false=>
  rw[hwd]at h
  simp only[cond_false]at h
  cases q:aO tm y with
  | none=>rw[q]at h;simp only[iQ]at h;split at h<;>simp at h
  | some U=>
   rw[q]at h
   cases L:mh tm lo with
   | none=>rw[L]at h;simp[iQ]at h
   | some lo'=>
    cases K:mh tm hi with
    | none=>rw[L,K]at h;simp[iQ]at h
    | some hi'=>
     cases Z:mh tm mx with
     | none=>rw[L,K,Z]at h;simp[iQ]at h
     | some mx'=>
      rw[L,K,Z]at h
      exact eM.same A (λQ m=>by simp only[execOp,d,m]) (Rs A (aY C q) (uG C L) (uG C K) (uG C Z) h)
 ·
  rename_i t y f d
  cases q:aO tm y with
  | none=>rw[q]at h;simp only[jM]at h;split at h<;>(try split at h)<;>simp_all
  | some U=>
   rw[q]at h
   exact eM.same A (λQ m=>by simp only[execOp,d,m]) (HS (aY C q) h)
 ·
  rename_i t y f d
  cases q:aO tm y with
  | none=>rw[q]at h;simp only[tT]at h;split at h<;>simp_all
  | some U=>
   rw[q]at h
   exact eM.same A (λQ m=>by simp only[execOp,d,m]) (Ru (aY C q) h)
 ·
  rename_i t y z d
  cases q:aO tm y with
  | none=>
   rw[q]at h
   simp only[eg]at h
   (repeat' split at h)<;>simp_all
  | some U=>
   cases X:aO tm z with
   | none=>rw[q,X]at h;simp[eg]at h
   | some z'=>
    rw[q,X]at h
    exact eM.same A (λQ m=>by simp only[execOp,d,m]) (HR A (aY C q) (aY C X) h)
 ·
  rename_i t y z d
  cases q:aO tm y with
  | none=>rw[q]at h;simp only[rj]at h;split at h<;>simp_all
  | some U=>
   cases X:aO tm z with
   | none=>rw[q,X]at h;simp only[rj,FK]at h;(repeat' split at h)<;>simp_all
   | some z'=>
    rw[q,X]at h
    exact eM.same A (λQ m=>by simp only[execOp,d,m]) (Rt (aY C q) (aY C X) h)
 ·
  rename_i y st want ok d
  cases q:aO tm y with
  | none=>rw[q]at h;simp only[s9]at h;split at h<;>simp_all
  | some U=>
   rw[q]at h
   exact eM.same A (λQ m=>by simp only[execOp,d,m]) (BU (st:=st) (aY C q) h)
 ·
  rename_i y i d
  cases q:aO tm y with
  | none=>rw[q]at h;simp[tE]at h
  | some U=>
   rw[q]at h
   exact eM.same A (λQ m=>by simp only[execOp,d,m]) (LO (aY C q) h)
 ·
  rename_i c d
  split at h
  ·cases h
  ·rename_i args S
   split at h
   ·rename_i fo V
    split at h
    ·rename_i t T
     unfold EB at T
     split at T
     ·rename_i fi
      obtain⟨fn,tR,f1,f2,f3,f4,f5⟩:=hov rfl fi t T
      have G:=np C S
      obtain⟨rfl,rfl,J⟩:=TQ (P:=E.P) (tR:=tR) A G h
      have H:(c.args.toList.map a.eval).toArray=c.args.map a.eval:=by apply Fy;simp
      rw[H]at J
      have hex:(execOp a.eval o).run E.P w = .ok (.value (.bool false)) w:=by
       have h0:=run_callFunc_extern f1 f2 f3 f4 f5 (c.args.map a.eval) w
       rw[J]at h0
       simp only[Result.andThen_ok]at h0
       have e0:(#[]++c.args.map a.eval ++ #[]:Array Value)=c.args.map a.eval:=by simp
       simp[execOp,d,resolve,V,Act.eval,Deferred.ofValue,invoke,h0]
      exact eM.of_run hex (jx.same A (.v rfl))
     ·cases T
    obtain⟨⟨x0,bs0⟩,h0,e⟩:=bO.1 h
    cases e
    exact(TZ A C hq hpc d V S h0).mono λu w'=>jx.AD
   ·cases h
   ·rename_i b V
    have G:=np C S
    have J : ∀(s:Sem Value)(us:List Value),(c.args.map a.eval).toList=us->(∀D,builtin b c.argTypes o.type D us.toArray=(do pure (Next.value (<-s)))) ->
     ∀ {u w'},s.run E.P w = .ok u w'->(execOp a.eval o).run E.P w = .ok (.value u) w':=by
     intro s us Y hb u w' hs
     have e1:c.args.map a.eval=us.toArray:=by rw[<-Y]
     simp only[execOp,d,resolve,V,invoke,Sem.run_bind,Sem.run_pure,Result.andThen_ok,e1,hb,hs]
    have H:(c.args.map a.eval).toList=c.args.toList.map a.eval:=by simp
    unfold cO at h
    split at h
    ·rename_i r'
     obtain⟨u,O⟩:=Kf G.1.symm
     rw[O]at G
     have I:=G.2 0 (.mp r') u rfl rfl
     obtain⟨rfl,u',F,N⟩:=Ox (ty:=o.type) A I (NS.1 h).2
     exact eM.of_run (J _ [u] (by rw[H,O]) (λD=>rfl) F) (jx.same A N)
    ·rename_i y hnm
     obtain⟨u,O⟩:=Kf G.1.symm
     rw[O]at G
     have I:=G.2 0 y u rfl rfl
     obtain⟨rfl,u',F,N⟩:=WK (P:=E.P) (w:=w) (ty:=o.type) I h
     exact eM.of_run (J _ [u] (by rw[H,O]) (λD=>rfl) F) (jx.same A N)
    ·obtain⟨hm,rfl⟩:=ri h
     obtain⟨u,us,Y,u',F,N⟩:=IV (w:=w) G hm
     exact eM.of_run (J (us.foldlM Builtin.min2 u) (u :: us) (by rw[H,Y]) (λD=>rfl) F) (jx.same A N)
    ·obtain⟨hm,rfl⟩:=ri h
     obtain⟨u,us,Y,u',F,N⟩:=IV (w:=w) G hm
     exact eM.of_run (J (us.foldlM Builtin.max2 u) (u :: us) (by rw[H,Y]) (λD=>rfl) F) (jx.same A N)
    ·rename_i y z
     obtain⟨u,v,O⟩:=z7 G.1.symm
     rw[O]at G
     obtain⟨u',w',F,N⟩:=Oz (P:=E.P) (ty:=o.type) A hr R (G.2 0 y u rfl rfl) (G.2 1 z v rfl rfl) h
     exact eM.of_run (J _ [u,v] (by rw[H,O]) (λD=>rfl) F) N
    ·rename_i y
     obtain⟨u,O⟩:=Kf G.1.symm
     rw[O]at G
     have I:=G.2 0 y u rfl rfl
     obtain⟨rfl,u',F,N⟩:=WM (P:=E.P) (w:=w) (ty:=o.type) I h
     exact eM.of_run (J _ [u] (by rw[H,O]) (λD=>rfl) F) (jx.same A N)
    ·cases h
 ·cases h
theorem PA{H:ai}(j:ic M ι H.get w)(p:uK ι H)(f:TR M ι tm a){t:TypeId}{m k y:Operand}{x:AV}{H':ai}
 (n : ∀d:Operand->Value,execOp d o=(do Instr.mapUpdate t (d m) (d k) (d y);pure Next.skip))
 (h:dQ E.P H t (aO tm m) (aO tm k) (aO tm y)=some (x,H')):eM E.P o a w λu w'=>vM M ι H w x H' u w':=by
 cases hm:aO tm m with
 | none=>rw[hm]at h;simp only[dQ]at h;split at h<;>simp_all
 | some v=>
  cases c:aO tm k with
  | none=>rw[hm,c]at h;simp only[dQ]at h;split at h<;>simp_all
  | some k'=>
   cases e:aO tm y with
   | none=>rw[hm,c,e]at h;simp only[dQ]at h;split at h<;>simp_all
   | some q=>
    rw[hm,c,e]at h
    obtain⟨w',i,b⟩:=HD (P:=E.P) j p (aY f hm) (aY f c) (aY f e) h
    exact eM.Fe (by simp[n,i]) b
theorem U7{H:ai}{d tt:Nat}(J:ic M ι H.get w)(F:uK ι H)(G:TR M ι tm a){pc:FuncId->List AV->Option AV}(W : ∀f xs y,pc f xs=some y->cW E.P f xs y)
 {tc:xb->List AV->ai->du} (X : ∀f xs H y H',tc f xs H=some (y,H')->sh E.P f xs H y H') {x:AV} {H':ai}
 (R:Ql o.op=false) (h:evalW E pc tc H tm ⟨d,tt,H.gen d tt,0⟩ o=some (x,H')):eM E.P o a w λu w'=>vM M ι H w x H' u w':=by
 unfold evalW at h
 split at h
 ·
  rename_i t y z i
  cases S:aO tm y with
  | none=>rw[S]at h;simp[nT]at h
  | some y'=>
   cases hz:aO tm z with
   | none=>rw[S,hz]at h;simp only[nT]at h;(repeat' split at h)<;>simp_all
   | some z'=>
    rw[S,hz]at h
    obtain⟨w',Q,j⟩:=Qy (P:=E.P) J F (aY G S) (aY G hz) h
    exact eM.Fe (by simp[execOp,i,Q]) j
 ·
  rename_i t m k y i
  exact PA J F G (λρ=>by simp[execOp,i]) h
 ·
  rename_i t m k y i
  exact PA J F G (λρ=>by simp[execOp,i]) h
 ·
  rename_i t m k i
  cases K:aO tm m with
  | none=>rw[K]at h;simp only[iO]at h;split at h<;>simp_all
  | some m'=>
   cases hk:aO tm k with
   | none=>rw[K,hk]at h;simp only[iO]at h;split at h<;>simp_all
   | some k'=>
    rw[K,hk]at h
    obtain⟨u,w',Q,j⟩:=JC (P:=E.P) J F (aY G K) (aY G hk) h
    exact eM.of_run (by simp only[execOp,i];exact IL Q) j
 ·
  rename_i t m s y i
  cases K:aO tm m with
  | none=>rw[K]at h;simp[fE]at h
  | some m'=>
   cases T:aO tm s with
   | none=>rw[K,T]at h;simp[fE]at h
   | some s'=>
    cases S:aO tm y with
    | none=>rw[K,T,S]at h;simp[fE]at h
    | some y'=>
     rw[K,T,S]at h
     obtain⟨w',Q,j⟩:=FX (P:=E.P) (t:=t) J F (aY G K) (aY G T) (aY G S) h
     exact eM.Fe (by simp[execOp,i,Q]) j
 ·
  rename_i t n ps i
  cases U:iS tm ps.toList with
  | none=>rw[U]at h;simp[kq]at h
  | some vs=>
   rw[U]at h
   obtain⟨h1,h2⟩:=uy (ι:=ι) G U
   obtain⟨u,w',Q,j⟩:=FZ (P:=E.P) (qs:=ps.map λ(p:Nat × Operand)=>(p.1,a.eval p.2)) J F h (by rw[uH];exact h1) (by rw[uH];exact h2)
   exact eM.of_run (by simp only[execOp,i];exact IL Q) j
 ·
  rename_i t n i
  unfold AS at h
  split at h
  ·rename_i kd m b hn Z
   obtain⟨⟨h0,h1,h2⟩,h⟩:=fB.1 h
   cases h
   obtain⟨e,ht,hbe⟩:=ig.1 Z
   have U:=aY G hn
   generalize hev:a.eval n=nv at U
   cases U
   obtain⟨u,w',Q,j⟩:=J3 (P:=E.P) J rfl (F.fresh d tt 0) ht hbe kd m.toNat (by omega) h2
   have K:((m.toNat:Nat):Int)=m:=by omega
   rw[K]at Q
   exact eM.of_run (by simp only[execOp,i,hev];exact IL Q) (j.toW F)
  ·cases h
 ·rename_i i;rw[i]at R;cases R
 ·rename_i i;rw[i]at R;cases R
 ·
  rename_i c i
  split at h
  ·cases h
  ·rename_i args D
   split at h
   ·rename_i fo Y
    rcases KS h with h | ⟨H1,rfl,h,hfl,A⟩
    ·exact KV J F G W X i Y D h
    ·exact(KV J F G W X i Y D h).mono λu w' hw=>Rq J F hfl A hw
   ·cases h
   ·rename_i b Y
    have C:=np G D
    have L : ∀(s:Sem Value)(us:List Value),(c.args.map a.eval).toList=us->(∀q,builtin b c.argTypes o.type q us.toArray=(do pure (Next.value (<-s)))) ->
     ∀ {u w'},s.run E.P w = .ok u w'->(execOp a.eval o).run E.P w = .ok (.value u) w':=by
     intro s us hus Z u w' T
     have e1:c.args.map a.eval=us.toArray:=by rw[<-hus]
     simp only[execOp,i,resolve,Y,invoke,Sem.run_bind,Sem.run_pure,Result.andThen_ok,e1,Z,T]
    have A:(c.args.map a.eval).toList=c.args.toList.map a.eval:=by simp
    split at h
    ·rename_i y z
     obtain⟨u,v,I⟩:=z7 C.1.symm
     rw[I]at C
     obtain⟨u',w',O,N⟩:=NW (P:=E.P) (ty:=o.type) J F (C.2 0 y u rfl rfl) (C.2 1 z v rfl rfl) h
     exact eM.of_run (L _ [u,v] (by rw[A,I]) (λq=>rfl) O) N
    ·rename_i y z
     obtain⟨u,v,I⟩:=z7 C.1.symm
     rw[I]at C
     cases V:E.wide o with
     | true=>
      rw[V]at h
      simp only[cond_true]at h
      obtain⟨u',w',O,N⟩:=Qz (P:=E.P) (ty:=o.type) J F (C.2 0 y u rfl rfl) (C.2 1 z v rfl rfl) h
      exact eM.of_run (L _ [u,v] (by rw[A,I]) (λq=>rfl) O) N
     | false=>
     rw[V]at h
     simp only[cond_false]at h
     obtain⟨u',w',O,N⟩:=SH (P:=E.P) (ty:=o.type) J F (C.2 0 y u rfl rfl) (C.2 1 z v rfl rfl) h
     exact eM.of_run (L _ [u,v] (by rw[A,I]) (λq=>rfl) O) N
    ·cases h
 ·cases h
structure Ac (M:Mem) (ι:Map) (st:St) (nt:Nat) (a:Act) (w:World):Prop where
 sim:ic M ι st.hp.get w
 dom:uK ι st.hp
 tr:TR M ι st.tm a
 nt:a.tmps.size=nt
def la(M:Mem)(ι:Map)(st:St)(a:Act)(w:World)(nt:Nat)(b:St)(c:Act)(w':World):Prop:=
 (∃M' ι',Ac M' ι' b nt c w'/\uh M ι st.hp.get w M' ι' b.hp.get w')/\c.defers=a.defers
theorem la.refl{st nt}(h:Ac M ι st nt a w):la M ι st a w nt st a w:=⟨⟨M,ι,h,uh.refl⟩,rfl⟩
theorem D6{st e:St}{nt dep:Nat}{d:Bool}{ops:Array Oper}(c:Ac M ι st nt a w){pc:FuncId->List AV->Option AV}(n : ∀f xs y,pc f xs=some y->cW E.P f xs y)
 {tc:xb->List AV->ai->du} (I : ∀f xs H y H',tc f xs H=some (y,H')->sh E.P f xs H y H') (D:d=false ->∀f t,E.ur f=some t->B6 E.P f t) (C:d=true\/Ql o.op=false) (h:evalOp E pc tc nt dep d ops o st=some e)
 {ro:Option Nat} {K:Act->World->Prop} {Q:Exit->Act->World->Prop} (z : ∀L w',la M ι st a w nt e L w'->K L w') :
 if Region.wanted o (yielded ops a.tmps) then o.wpIn (FW ro) 0 E.P a w K Q else K (a.put o.dst undef) w:=by
 unfold evalOp at h
 split at h
 ·cases h
 ·rename_i A
  rw[lb c.tr A]
  simp only[bO]at h
  obtain⟨tm',b,rfl⟩:=h
  obtain⟨F,J⟩:=c.tr.put c.nt b (u:=undef) (.v rfl)
  simp only[nz,if_false]
  exact z _ _ ⟨⟨M,ι,⟨c.sim,c.dom,F,J⟩,uh.refl⟩,put_defers _ _ _⟩
 ·rename_i A
  rw[lb c.tr A]
  simp only[if_true]
  have p : ∀ {x:AV} {H':ai} {tm':List AV},eM E.P o a w (λu w'=>vM M ι st.hp w x H' u w')->dg nt st.tm o.dst x=some tm'->e=⟨tm',H'⟩->o.wpIn (FW ro) 0 E.P a w K Q:=by
   intro x H' tm' i b O
   subst O
   refine i ro K Q λu w' ⟨M',ι',F,J,h3,h4⟩=>z _ _ ?_
   obtain⟨N,R⟩:=(c.tr.mono h3.mem h3.map).put c.nt b F
   exact⟨⟨M',ι',⟨J,h4,N,R⟩,h3⟩,put_defers _ _ _⟩
  split at h
  ·rename_i x S G
   simp only[bO]at h
   obtain⟨tm',b,rfl⟩:=h
   have:=xY (E:=E) (o:=o) c.sim c.tr rfl (λk=>c.dom.fresh dep (o.dst.getD 0) k) n D G
   exact p (λro K Q z=>this ro K Q λu w' q=>z u w' (q.toW c.dom)) b rfl
  ·split at h
   ·cases h
   ·rename_i m
    split at h
    ·rename_i x H' G
     simp only[bO]at h
     obtain⟨tm',b,rfl⟩:=h
     have j:Ql o.op=false:=by
      rcases C with rfl | j
      ·simp only[nx,dV,Bool.not_eq_false]at m
       cases i:o.op<;>first | rfl | (simp[jo,Y3,Bi,i]at m)
      ·exact j
     exact p (U7 (E:=E) (o:=o) c.sim c.dom c.tr n I j G) b rfl
    ·cases h
end
end Go.Ab
namespace Go.Ab
section
variable{E:Env}{M:Mem}{ι:Map}{w:World}{a:Act}
theorem la.trans{st c d:St}{nt:Nat}{a1 a2:Act}{f j:World}(h:la M ι st a w nt c a1 f)(u : ∀e b,Ac e b c nt a1 f->la e b c a1 f nt d a2 j):la M ι st a w nt d a2 j:=by
 obtain⟨⟨e,b,n,v⟩,m⟩:=h
 obtain⟨⟨M2,i,p,q⟩,t⟩:=u e b n
 exact⟨⟨M2,i,p,v.trans q⟩,t.trans m⟩
theorem Ko{o:Oper}{st n:St}{nt dep:Nat}{ops:Array Oper}{i:Nat}(d:Ac M ι st nt a w){pc:FuncId->List AV->Option AV}(W : ∀f xs y,pc f xs=some y->cW E.P f xs y)
 {tc:xb->List AV->ai->du} (X : ∀f xs H y H',tc f xs H=some (y,H')->sh E.P f xs H y H') (U : ∀f t,E.ur f=some t->B6 E.P f t) (h:evalOp E pc tc nt dep false ops o st=some n) (J:ops[i]?=some o)
 (b:Frame) (rest:List Nat) (k:List Item) (cs:List Frame) :
 ∃A w',la M ι st a w nt n A w'/\(b.kind = .normal->Steps E.P (lone (b.atR a (.inRegion ops (i :: rest) :: k)) cs w) (lone (b.atR A (.inRegion ops rest :: k)) cs w')):=by
 have G:Region.wanted o (yielded ops a.tmps)=false->Steps E.P (lone (b.atR a (.inRegion ops (i :: rest) :: k)) cs w) (lone (b.atR (a.put o.dst undef) (.inRegion ops rest :: k)) cs w):=by
  intro q
  have Z:=stepR_op_skip (P:=E.P) (b:=b) (a:=a) (k:=k) (cs:=cs) (w:=w) (ops:=ops) (i:=i) (rest:=rest) (by simp[J,q])
  simp only[J,fH]at Z
  exact .one Z
 cases p:Ql o.op with
 | false=>
  have z:=D6 (E:=E) (ro:=b.roundOf) (Q:=λ_ _ _=>False) d W X (λ_=>U) (.inr p) h (K:=λA w'=>la M ι st a w nt n A w') λA w' h=>h
  by_cases q:Region.wanted o (yielded ops a.tmps)=true
  ·rw[if_pos q]at z
   obtain⟨A,w',I,C⟩:=WX J q b z rest k cs
   exact⟨A,w',I,λ_=>C⟩
  ·rw[if_neg q]at z
   exact⟨_,_,z,λ_=>G (by simpa using q)⟩
 | true=>
  unfold evalOp at h
  split at h
  ·cases h
  ·rename_i q
   have D:=lb d.tr q
   simp only[bO]at h
   obtain⟨tm',j,rfl⟩:=h
   obtain⟨z,I⟩:=d.tr.put d.nt j (u:=undef) (.v rfl)
   exact⟨_,_,⟨⟨M,ι,⟨d.sim,d.dom,z,I⟩,uh.refl⟩,put_defers _ _ _⟩,λ_=>G D⟩
  ·rename_i q
   have D:=lb d.tr q
   have L : ∀ {x:AV} {H':ai} {tm':List AV},Hw E.P o a w (λu w'=>vM M ι st.hp w x H' u w')->dg nt st.tm o.dst x=some tm'->n=⟨tm',H'⟩ ->
    ∃A w',la M ι st a w nt n A w'/\(b.kind = .normal->Steps E.P (lone (b.atR a (.inRegion ops (i :: rest) :: k)) cs w) (lone (b.atR A (.inRegion ops rest :: k)) cs w')):=by
    intro x H' tm' e j he
    subst he
    by_cases Y:b.kind = .normal
    ·obtain⟨u,w',⟨M',ι',z,I,C,R⟩,N⟩:=e b k cs ops i rest Y J D
     obtain⟨O,T⟩:=(d.tr.mono C.mem C.map).put d.nt j z
     exact⟨_,_,⟨⟨M',ι',⟨I,R,O,T⟩,C⟩,put_defers _ _ _⟩,λ_ => .one N⟩
    ·obtain⟨u,w',⟨M',ι',z,I,C,R⟩,N⟩:=e { b with kind := .normal} k cs ops i rest rfl J D
     obtain⟨O,T⟩:=(d.tr.mono C.mem C.map).put d.nt j z
     exact⟨_,_,⟨⟨M',ι',⟨I,R,O,T⟩,C⟩,put_defers _ _ _⟩,λh=>absurd h Y⟩
   have S:cE E pc false st.hp.get st.tm ⟨dep,o.dst.getD 0,st.hp.gen dep (o.dst.getD 0),0⟩ o=none:=by
    unfold cE
    cases e:o.op<;>rw[e]at p<;>first | rfl | (cases p)
   rw[S]at h
   simp only[xg,nz,if_false]at h
   split at h
   ·rename_i x H' m
    simp only[bO]at h
    obtain⟨tm',j,rfl⟩:=h
    unfold evalW at m
    cases e:o.op<;>rw[e]at p m<;>try (cases p;done)
    ·rename_i c y
     simp only at m
     cases F:aO st.tm c with
     | none=>rw[F]at m;simp[FU]at m
     | some c'=>
      cases V:aO st.tm y with
      | none=>rw[F,V]at m;simp[FU]at m
      | some y'=>
       rw[F,V]at m
       exact L (SF d.sim d.dom e (aY d.tr F) (aY d.tr V) m) j rfl
    ·rename_i t c okb
     simp only at m
     cases F:aO st.tm c with
     | none=>rw[F]at m;simp[Is]at m
     | some c'=>
      rw[F]at m
      exact L (SG d.sim d.dom e (aY d.tr F) m) j rfl
   ·cases h
theorem JV{pc:FuncId->List AV->Option AV}(q : ∀f xs y,pc f xs=some y->cW E.P f xs y)
 {tc:xb->List AV->ai->du} (z : ∀f xs H y H',tc f xs H=some (y,H')->sh E.P f xs H y H') (j : ∀f t,E.ur f=some t->B6 E.P f t) {nt dep:Nat} {ops:Array Oper} {d:St} (b:Frame) (k:List Item) (cs:List Frame) :
 ∀(l c:List Oper)(st:St)(M:Mem)(ι:Map)(a:Act)(w:World),ops.toList=c++l->nu E pc tc nt dep false ops l st=some d->Ac M ι st nt a w ->
  ∃G w',la M ι st a w nt d G w'/\(b.kind = .normal->Steps E.P (lone (b.atR a (.inRegion ops (List.range' c.length l.length) :: k)) cs w) (lone (b.atR G (.inRegion ops [] :: k)) cs w')):=by
 intro l
 induction l with
 | nil=>
  intro c st M ι a w _ h m
  simp only[nu,dW]at h
  subst h
  exact⟨a,w,la.refl m,λ_=>Steps.refl _ _⟩
 | cons o l T=>
  intro c st M ι a w I h m
  simp only[nu]at h
  split at h
  ·rename_i p O
   have L:ops[c.length]?=some o:=by
    rw[<-Ir,I];simp
   obtain⟨a1,Q,e,x⟩:=Ko m q z j O L b (List.range' (c.length+1) l.length) k cs
   obtain⟨⟨S,C,n,A⟩,K⟩:=e
   obtain⟨a2,N,⟨⟨M2,v,u,D⟩,R⟩,i⟩:=T (c++[o]) p S C a1 Q (by simp[I]) h n
   refine⟨a2,N,⟨⟨M2,v,u,A.trans D⟩,R.trans K⟩,λF=>?_⟩
   have J:=i F
   simp only[oT,qZ,Fq,uN]at J
   rw[qZ,List.range'_succ]
   exact(x F).trans J
  ·cases h
theorem J0{pc:FuncId->List AV->Option AV}(i : ∀f xs y,pc f xs=some y->cW E.P f xs y)
 {tc:xb->List AV->ai->du} (j : ∀f xs H y H',tc f xs H=some (y,H')->sh E.P f xs H y H') (e : ∀f t,E.ur f=some t->B6 E.P f t) {nt dep id:Nat} {ops:Array Oper} {st c:St} (b:Frame) (k:List Item) (cs:List Frame)
 (h:nu E pc tc nt dep false ops ops.toList st=some c) (m:Ac M ι st nt a w) :
 ∃d w',la M ι st a w nt c d w'/\(b.kind = .normal->Steps E.P (lone (b.atR a (.code (.region id ops false) :: k)) cs w) (lone (b.atR d k) cs w')):=by
 obtain⟨d,w',n,q⟩:=JV i j e b k cs ops.toList [] st M ι a w rfl h m
 refine⟨d,w',n,λp=>Steps.trans (.one ?_) (Steps.trans (q p) (.one stepR_region_end))⟩
 have:=stepR_region (P:=E.P) (b:=b) (a:=a) (k:=k) (cs:=cs) (w:=w) (id:=id) (ops:=ops)
 simpa [NG] using this
structure Env.Ok (E:Env) (ok:Array Oper->Bool):Prop where
 fns : ∀f,E.allowed f=true ->∃fn,E.P.funcs[f]?=some fn/\(fn.name == "runtime.NumGoroutine")=false /\∀c,fn.body=some c->codeOk ok c=true
 specs : ∀f args y,E.spec f args=some y->cW E.P f args y
 same:E.ok=ok
 overs : ∀f t,E.ur f=some t->B6 E.P f t
 thrs : ∀f args H y H',E.thrSpec f args H=some (y,H')->sh E.P (.fn f) args H y H'
 draws : ∀(ops:Array Oper),ok ops=true ->∀ {pc:FuncId->List AV->Option AV},(∀f xs y,pc f xs=some y->cW E.P f xs y) ->
  ∀ {tc:xb->List AV->ai->du},(∀f xs H y H',tc f xs H=some (y,H')->sh E.P f xs H y H') ->∀(nt dep id:Nat)(st st':St)(M:Mem)(ι:Map)(a:Act)(w:World)(ro:Option Nat)(Q:Exit->Act->World->Prop),
  nu E pc tc nt dep true ops ops.toList st=some st'->tj E ops st'=true->Ac M ι st nt a w->(∀a' w',la M ι st a w nt st' a' w'->Q .normal a' w')->(Code.region id ops true).wpIn (FW ro) 0 E.P Q a w
theorem I9{ok:Array Oper->Bool}{id:Nat} : ∀ {k k':List Item},exitTo id k=some k'->(∀i∈k,ow ok i=true) ->∀i∈k',ow ok i=true:=by
 intro k
 induction k with
 | nil=>intro k' h;simp[exitTo]at h
 | cons x k c=>
  intro k' h f
  have b : ∀i∈k,ow ok i=true:=λi d=>f i (il _ d)
  cases x with
  | inBlock e=>
   simp only[exitTo]at h
   split at h
   ·injection h with h;subst h;exact b
   ·exact c h b
  | _=>exact c (by simpa [exitTo] using h) b
theorem Zb{P:Program}{ro:Option Nat}{m b:Machine}(h:StepsIn (Machine.fenced P (FW ro)) P m b):Steps P m b:=StepsIn.steps h
theorem Lf{P:Program}{c:Code}{a:Act}{w:World}{R:Act->World->Prop}(b:Frame)(h:c.wpIn (FW b.roundOf) 0 P (λe a w=>e = .normal/\R a w) a w)(k:List Item)(cs:List Frame) :
 ∃f w',R f w'/\Steps P (lone (b.atR a (.code c :: k)) cs w) (lone (b.atR f k) cs w'):=by
 obtain⟨e,f,w',⟨he,i⟩,d⟩:=h b k cs rfl trivial (λ_ h=>by simp[FW,Fence.wide]at h)
 subst he
 exact⟨f,w',i,Zb d⟩
theorem UG{H:ai}{r:Ref}{n:Nat}{b:AV}(h:zb H r=some (n,b)) : ∃st a f,H.get r=some ⟨0,[.v (.int .i64 st),b],a,f⟩/\st.toNat=n:=by
 unfold zb at h
 split at h
 ·rename_i st c a f d
  cases h
  exact⟨st,a,f,d,rfl⟩
 ·cases h
structure VB (r r':Loop):Prop where
 tmps:r'.tmps=r.tmps
 params:r'.params=r.params
 assign:r'.assign=r.assign
 body:r'.body=r.body
theorem A9{H:ai}{r:Ref}{l:Loc}{n:Nat}{u:AV}(G:ic M ι H.get w)(hD:uK ι H)(X:ι r=some l)(ha:zb H r=some (n,u)) :
 ∃nt ps assign body tm y,u = .lp 0 nt ps assign body tm/\w.heap[l.b]?=some (.loop y)/\y.params=ps.toArray/\y.assign=assign/\y.body=body/\y.tmps.size=nt/\(∀t,VR M ι (dH tm t) (y.tmps.getD t undef))/\Cw n y /\
  (∀D c,VB y c->Cw D c->ic M ι (H.put r (some (kE D u))).get (cd w l.b (.loop c))/\uh M ι H.get w M ι (H.put r (some (kE D u))).get (cd w l.b (.loop c))/\uK ι (H.put r (some (kE D u)))) /\
  ∀c,ic M ι (H.put r none).get (cd w l.b (.loop c))/\uh M ι H.get w M ι (H.put r none).get (cd w l.b (.loop c))/\uK ι (H.put r none):=by
 obtain⟨st,a,f,I,hst⟩:=UG ha
 obtain⟨l',O,hb⟩:=G.live r _ I
 rw[X]at O;cases O
 rcases hb.objOk rfl with ⟨n0,nt,ps,as,bd,tm,y,V,U,A,K,T,h6,h7,h8,h9,h10⟩ | ⟨_,_,_,_,A,_⟩ | ⟨_,_,_,_,_,_,_,_,A,_⟩
 case inr.inl=>simp at A
 case inr.inr=>simp at A
 simp only[zF,AV.v.injEq,Value.int.injEq,true_and,and_true]at A
 obtain⟨e1,e2⟩:=A
 subst e2
 have hn:n0=n:=by rw[<-hst,e1];simp
 subst hn
 have hlt:l.b<w.heap.size:=(iG.1 K).1
 have hM : ∀o x,M l.b o=some x->False:=by
  intro o x W
  have:=G.mem _ _ _ W
  simp[World.cell?,K]at this
 have hlz:l.esz=0:=hb.esz
 have i : ∀c b',∀q k,(H.put r b').get q=some k->q≠r ->∃j,ι q=some j/\o6 M ι (cd w l.b (.loop c)) j k:=by
  intro c b' q k d z
  rw[ai.get_put,if_neg z]at d
  obtain⟨j,S,J⟩:=G.live q k d
  have Z:l.b≠j.b:=λe=>z (G.inj q r k _ j l d I S X e.symm)
  exact⟨j,S,J.cr (λ_ _ _ h=>h) (λ_ _ h=>h) (eE Z) J.frozen⟩
 have C : ∀c,∀b o x,M b o=some x->(cd w l.b (.loop c)).cell? ⟨b,o,none⟩=some x:=by
  intro c b o x W
  have z:l.b≠b:=λe=>hM o x (e ▸ W)
  rw[World.cell?_of_block (w:=w) (eE z)]
  exact G.mem b o x W
 have p : ∀(b':Option bz) q k,(H.put r b').get q=some k ->∃k0,H.get q=some k0:=by
  intro b' q k d
  rw[ai.get_put]at d
  split at d
  ·rename_i e;exact⟨_,e ▸ I⟩
  ·exact⟨k,d⟩
 have N : ∀(b':Option bz) q F k k' j Y,(H.put r b').get q=some k->(H.put r b').get F=some k'->ι q=some j->ι F=some Y->j.b=Y.b->q=F:=by
  intro b' q F k k' j Y V U A K T
  obtain⟨k0,g1⟩:=p b' q k V
  obtain⟨k1,g2⟩:=p b' F k' U
  exact G.inj q F k0 k1 j Y g1 g2 A K T
 have fwd : ∀(b':Option bz) c,uh M ι H.get w M ι (H.put r b').get (cd w l.b (.loop c)):=by
  intro b' c
  refine⟨rfl,rfl,rfl,by simp[cd],λb _ hno=>eE (hno r _ l I X),λ_ _ _ h=>h,λ_ _ h=>h,λq k j V U=>?_,λ_ _ _ h => .inl h⟩
  obtain⟨k0,g1⟩:=p b' q k V
  exact .inr ⟨q,k0,j,g1,U,rfl⟩
 have R : ∀b':Option bz,uK ι (H.put r b'):=by
  intro b' q lq d
  rw[ai.mW _ _ _ (by rw[I];rfl)]
  exact hD q lq d
 refine⟨nt,ps,as,bd,tm,y,rfl,K,T,h6,h7,h8,h9,h10,λD c Q L=>⟨⟨C c,λq k d=>?_,N _⟩,fwd _ c,R _⟩,λc=>⟨⟨C c,λq k d=>?_,N _⟩,fwd _ c,R _⟩⟩
 ·by_cases m:q=r
  ·subst m
   rw[ai.get_put,if_pos rfl]at d
   cases d
   refine⟨l,X,nM.Vo (.inl ⟨D,nt,ps,as,bd,tm,c,rfl,rfl,rfl,gk hlt,by rw[Q.params];exact T,by rw[Q.assign];exact h6,by rw[Q.body];exact h7,by rw[Q.tmps];exact h8,by rw[Q.tmps];exact h9,L⟩) hlz hM⟩
  ·exact i c _ q k d m
 ·by_cases m:q=r
  ·rw[ai.get_put,if_pos m]at d
   cases d
  ·exact i c _ q k d m
theorem UH{H:ai}{d nt:Nat}{tm:List AV}{a:Act}{ps:Array Tmp}{assign body:Code}{fn:FuncId}(F:ic M ι H.get w)(R:uK ι H)(hT:TR M ι tm a)(Z:a.tmps.size=nt){p:World}
 (G:p=(w.alloc (.deferred (some []))).alloc (.loop { state := .ready,pending:=none,fn,tmps:=a.tmps,params:=ps,assign,body,defers:=w.heap.size})) :
 let r:Ref:=⟨d,nt,H.gen d nt,0⟩
 let c:=kD ι r ⟨w.heap.size+1,0,0⟩
 ic M c (ai.get ((r,some (kE 0 (.lp 0 nt ps.toList assign body tm))) :: H)) p/\uh M ι H.get w M c (ai.get ((r,some (kE 0 (.lp 0 nt ps.toList assign body tm))) :: H)) p /\
  uK c ((r,some (kE 0 (.lp 0 nt ps.toList assign body tm))) :: H)/\p.heap[w.heap.size]?=some (.deferred (some [])):=by
 intro r c
 have hq:ι r=none:=R.fresh d nt 0
 have n:=E7 (l:=⟨w.heap.size+1,0,0⟩) hq
 have f:p.heap=(w.heap.push (.deferred (some []))).push (.loop { state := .ready,pending:=none,fn,tmps:=a.tmps,params:=ps,assign,body,defers:=w.heap.size}):=by rw[G];rfl
 have m : ∀b,b<w.heap.size->p.heap[b]?=w.heap[b]?:=by
  intro b I
  rw[f,Es (by simp;omega),<-jY,Es I,<-jY]
 have J:p.heap[w.heap.size]?=some (.deferred (some [])):=by rw[f,Es (by simp),<-jY];simp
 have K:p.heap[w.heap.size+1]?=some (.loop { state := .ready,pending:=none,fn,tmps:=a.tmps,params:=ps,assign,body,defers:=w.heap.size}):=by rw[f,Array.getElem?_push];simp
 have u : ∀b o x,M b o=some x->b<w.heap.size:=λb o x h=>World.block_lt_of_cell? w ⟨b,o,none⟩ (F.mem b o x h)
 have j : ∀q,ai.get ((r,some (kE 0 (.lp 0 nt ps.toList assign body tm))) :: H) q=if r=q then some (kE 0 (.lp 0 nt ps.toList assign body tm)) else H.get q:=λq=>rfl
 refine⟨⟨λb o x h=>?_,λq k h=>?_,λq X k k' i T D y V W U=>?_⟩,⟨by rw[G];rfl,by rw[G];rfl,by rw[G];rfl,by rw[f];simp;omega,λb I _=>m b I,λ_ _ _ h=>h,n,λq k i D y=>?_,λ_ _ _ h => .inl h⟩,λq i h=>?_,J⟩
 ·rw[World.cell?_of_block (w:=w) (m b (u b o x h))]
  exact F.mem b o x h
 ·rw[j]at h
  split at h
  ·rename_i e
   subst e
   cases h
   refine⟨⟨w.heap.size+1,0,0⟩,by simp[c,kD],nM.Vo (.inl ⟨0,nt,ps.toList,assign,body,tm,_,rfl,rfl,rfl,K,by simp,rfl,rfl,Z,λt=>(hT.at_ t).mono (λ_ _ _ h=>h) c n,⟨rfl,rfl⟩⟩) rfl ?_⟩
   intro o x hx
   have:=u _ _ _ hx
   simp only at this
   omega
  ·obtain⟨i,N,v⟩:=F.live q k h
   exact⟨i,n q i N,v.cr (λ_ _ _ h=>h) n (m _ v.lt) v.frozen⟩
 ·have one : ∀ {q:Ref} {k i},ai.get ((r,some (kE 0 (.lp 0 nt ps.toList assign body tm))) :: H) q=some k->c q=some i->(q=r/\i.b=w.heap.size+1)\/(q≠r/\H.get q=some k/\ι q=some i/\i.b<w.heap.size):=by
   intro q k i h z
   rw[j]at h
   split at h
   ·rename_i e
    subst e
    simp only[c,kD,if_true]at z
    cases z
    exact .inl ⟨rfl,rfl⟩
   ·rename_i e
    simp only[c,kD]at z
    rw[if_neg (sL e)]at z
    obtain⟨T,C,L⟩:=F.live q k h
    rw[z]at C;cases C
    exact .inr ⟨sL e,h,z,L.lt⟩
  rcases one D V with ⟨O,S⟩ | ⟨O,S,Y,e4⟩<;>rcases one y W with ⟨f1,f2⟩ | ⟨f1,f2,f3,f4⟩
  ·rw[O,f1]
  ·omega
  ·omega
  ·exact F.inj q X k k' i T S f2 Y f3 U
 ·rw[j]at D
  simp only[c,kD]at y
  split at D
  ·rename_i e
   rw[if_pos e.symm]at y
   cases y
   exact .inl (Dq _)
  ·rename_i e
   rw[if_neg (sL e)]at y
   exact .inr ⟨q,k,i,D,y,rfl⟩
 ·simp only[c,kD]at h
  simp only[ai.gen]
  by_cases A:q=r
  ·subst A
   rw[if_pos ⟨rfl,rfl⟩]
   exact qY _
  ·rw[if_neg A]at h
   have:=R q i h
   split
   ·rename_i Q;rw[<-Q.1,<-Q.2]at this;exact Fs this
   ·exact this
theorem QF : ∀(args:List AV)(t:Nat),dH args t=(args[t]?).getD AV.undef:=by
 intro args
 induction args with
 | nil=>intro t;simp[dH]
 | cons x l b=>
  intro t
  cases t with
  | zero=>simp[dH]
  | succ t=>simp[dH,b]
def WA(tmps:Array Value):ResultVar->Sem Value
 | .tmp t=>pure (tmps.getD t undef)
 | .cell b t=>asAddr (tmps.getD b undef) >>= λx=>loadVar t x
theorem On(fn:Func)(tmps:Array Value):results fn tmps=fn.results.mapM (WA tmps) >>= λb=>pure (if h:b.size=1 then b[0] else .tuple b):=by
 unfold results
 congr 1
theorem Om{fn:Func}{st:St}{nt:Nat}(H:Ac M ι st nt a w){x:AV}(h:xN E.P fn st=some x) : ∃v,(results fn a.tmps).run E.P w = .ok v w/\VR M ι x v:=by
 have one : ∀(F:ResultVar)(y:AV),lK E.P st F=some y ->∃v,(WA a.tmps F).run E.P w = .ok v w/\VR M ι y v:=by
  intro F y p
  cases F with
  | tmp t=>
   simp only[lK,dW]at p
   subst p
   exact⟨_,rfl,H.tr.at_ t⟩
  | cell b t=>
   simp only[lK]at p
   split at p
   ·rename_i r i j g n O K L
    split at p
    ·rename_i k R
     have G:=H.tr.at_ b
     rw[O]at G
     obtain⟨v,q,m⟩:=P1 K L H.sim G R p
     refine⟨v,?_,m⟩
     simp only[WA]
     generalize a.tmps.getD b undef=u at G q ⊢
     cases G
     simpa [asAddr,Instr.loadAt,Instr.sureAddr] using q
    ·cases p
   ·cases p
 have A : ∀(rs:List ResultVar)(ys:List AV),rs.mapM (lK E.P st)=some ys ->∃f,(rs.mapM (WA a.tmps)).run E.P w = .ok f w/\mc M ι ys f:=by
  intro rs
  induction rs with
  | nil=>intro ys h;simp at h;subst h;exact⟨[],rfl,mc.nil⟩
  | cons r rs U=>
   intro ys h
   simp only[ny,tu,tZ,ig]at h
   obtain⟨y,p,I,d,h⟩:=h
   simp at h
   subst h
   obtain⟨v,q,m⟩:=one r y p
   obtain⟨f,Q,S⟩:=U I d
   refine⟨v :: f,?_,mc.cons m S⟩
   rw[ny]
   simp only[Sem.run_bind,q,Result.andThen_ok,Q,Sem.run_pure]
 unfold xN at h
 have z : ∀ys,fn.results.toList.mapM (lK E.P st)=some ys ->∃f:List Value,(results fn a.tmps).run E.P w = .ok (if h:f.toArray.size=1 then f.toArray[0] else .tuple f.toArray) w/\mc M ι ys f:=by
  intro ys d
  obtain⟨f,q,m⟩:=A _ ys d
  refine⟨f,?_,m⟩
  rw[On]
  simp only[Array.mapM_eq_mapM_toList,Sem.run_bind,Sem.run_map,q,Result.andThen_ok,Sem.run_pure]
 split at h
 ·rename_i d
  injection h with h
  subst h
  obtain⟨f,q,m⟩:=z _ d
  have:f=[]:=Ch (by rw[<-m.1];rfl)
  subst this
  exact⟨_,q,.v rfl⟩
 ·rename_i y d
  injection h with h
  subst h
  obtain⟨f,q,m⟩:=z _ d
  obtain⟨v,rfl⟩:=Kf m.1.symm
  exact⟨v,by simpa using q,m.2 0 y v rfl rfl⟩
 ·rename_i ys C D d
  injection h with h
  subst h
  obtain⟨f,q,m⟩:=z _ d
  have T:f.length≠1:=by
   intro h
   rw[<-m.1]at h
   obtain⟨y,p⟩:=Kf h
   exact D y p
  refine⟨.tuple f.toArray,?_,.tup ?_ (by simpa using m.1) λi c u N J=>m.2 i c u N (by simpa using J)⟩
  ·rw[q,dif_neg (by simpa using T)]
  ·intro e
   exact C e
 ·cases h
def marks(ds:List Nat):List Deferred:=ds.map λD => { target := .collected D,args := #[]}
def si(w w':World)(ds:List Nat):Prop:=ds.Nodup /\∀D∈ds,w.heap.size<=D/\w'.heap[D]?=some (.deferred (some []))
theorem GO{M:Mem}{ι:Map}{g:da}{w:World}(j:ic M ι g w){D:Nat}{x:Option (List Deferred)}(h:w.heap[D]?=some (.deferred x)) : ∀r k l,g r=some k->ι r=some l->l.b≠D:=by
 intro r k l m n e
 obtain⟨p,d,i⟩:=j.live r k m
 rw[n]at d;cases d
 rcases Iq k.esz with f | f
 ·rcases(i.objOk f).obj with ⟨_,c⟩ | ⟨_,_,c⟩ | ⟨_,_,_,_,_,_,c⟩
  ·rw[e,h]at c;cases c
  ·rw[e,h]at c;cases c
  ·rw[e,h]at c;cases c
 ·obtain⟨_,_,_,c,_⟩:=(i.cellsOk f).heap
  rw[e,h]at c;cases c
theorem si.fwd{w c d:World}{ds:List Nat}{M1 ι1 g1 M2 ι2 g2}(h:si w c ds)(f:ic M1 ι1 g1 c)(i:uh M1 ι1 g1 c M2 ι2 g2 d):si w d ds:=
 ⟨h.1,λD e=>⟨(h.2 D e).1,by
  have b:=(h.2 D e).2
  rw[i.chg D (iG.1 b).1 (GO f b)]
  exact b⟩⟩
theorem si.append{w j i:World}{ds c:List Nat}(n:w.heap.size<=j.heap.size)(h:si w i ds)(q : ∀D∈ds,D<j.heap.size)(f:si j i c):si w i (c++ds):=by
 refine⟨Nv.2 ⟨f.1,h.1,λa t b p e=>?_⟩,λD m=>?_⟩
 ·have:=(f.2 a t).1
  have:=q b p
  omega
 ·rcases nR.1 m with d | d
  ·exact⟨Bk n (f.2 D d).1,(f.2 D d).2⟩
  ·exact h.2 D d
def E5(P:Program)(rd:Option Ref)(M:Mem)(ι:Map)(st:St)(a:Act)(w:World)(nt:Nat)(d:St)(b:Frame)(cs:List Frame)(m:Machine):Prop:=match rd with
 | none=>b.roundOf=none->b.kind = .normal ->∃h w' e ds,(∃M' ι',Ac M' ι' d nt h w'/\uh M ι st.hp.get w M' ι' d.hp.get w')/\h.defers=marks ds++a.defers/\si w w' ds /\
  Steps P m (lone { b.atR h e with mode := .returning} cs w')
 | some r =>∀l c f,ι r=some l->b.roundOf=some l.b->b.kind = .normal->cs=c :: f ->∃n i w',zb d.hp r=some (n,i)/\n≠1 /\
  (∃M' ι',ic M' ι' d.hp.get w'/\uh M ι st.hp.get w M' ι' d.hp.get w'/\uK ι' d.hp)/\Steps P m (lone (c.finish (.bool (n == 0))) f w')
theorem E5.of_steps{P:Program}{rd:Option Ref}{M z:Mem}{ι d:Map}{st e i:St}{a a1:Act}{w t:World}{nt:Nat}{b:Frame}{cs:List Frame}{m H:Machine}{ds:List Nat}
 (J:b.roundOf=none\/rd≠none->b.kind = .normal->Steps P m H) (C:ic z d e.hp.get t) (u:uh M ι st.hp.get w z d e.hp.get t) (O:a1.defers=marks ds++a.defers) (I:si w t ds) (h:E5 P rd z d e a1 t nt i b cs H):E5 P rd M ι st a w nt i b cs m:=by
 unfold E5 at h ⊢
 cases rd with
 | none=>
  intro q j
  obtain⟨V,w',todo,v,⟨M',ι',L,p⟩,F,x,f⟩:=h q j
  refine⟨V,w',todo,v++ds,⟨M',ι',L,u.trans p⟩,?_,(I.fwd C p).append u.size (λD R=>(iG.1 (I.2 D R).2).1) x,(J (.inl q) j).trans f⟩
  rw[F,O]
  simp[marks]
 | some r=>
  intro l c A U q G y
  obtain⟨n,inf,w',T,S,⟨M',ι',N,Q,K⟩,f⟩:=h l c A (u.map r l U) q G y
  exact⟨n,inf,w',T,S,⟨M',ι',N,u.trans Q,K⟩,(J (.inr (by simp)) G).trans f⟩
theorem tI{w w':World}:si w w' []:=⟨List.nodup_nil,λD h=>by cases h⟩
def Nm(E:Env)(ok:Array Oper->Bool)(n:Nat):Prop:=
 ∀(rd:Option Ref)(nt dep:Nat)(c:List Item)(st d:St),bR E n rd nt dep c st=some d->(∀i∈c,ow ok i=true) ->∀(M:Mem)(ι:Map)(a:Act)(w:World),Ac M ι st nt a w ->
  ∀(b:Frame)(cs:List Frame),E5 E.P rd M ι st a w nt d b cs (lone (b.atR a c) cs w)
theorem Ml{P:Program}{fr:Frame}{cs:List Frame} : ∀(ds:List Nat)(w:World),fr.mode = .returning->ds.Nodup->(∀D∈ds,w.heap[D]?=some (.deferred (some []))) ->
 ∃w',Steps P (lone { fr with defers:=marks ds} cs w) (lone { fr with defers:=[]} cs w')/\w'.os=w.os/\w'.tape=w.tape/\w'.output=w.output/\w'.heap.size=w.heap.size /\∀b,b ∉ ds->w'.heap[b]?=w.heap[b]?:=by
 intro ds
 induction ds with
 | nil=>intro w _ _ _;exact⟨w,Steps.refl _ _,rfl,rfl,rfl,rfl,λ_ _=>rfl⟩
 | cons D ds u=>
  intro w j f m
  have x:=run_takeDeferred (P:=P) (m D (jn ..))
  have c:=step_collected (P:=P) (fr := { fr with defers:=marks (D :: ds)}) (cs:=cs) (w:=w) (d := { target := .collected D,args := #[]}) (r:=D) (ds:=marks ds) (by simp[j]) rfl rfl x
  obtain⟨w',z,y,A,t,v,p⟩:=u (w.putObj D (.deferred none)) j (Nr.1 f).2 (λq i=>by
   rw[World.putObj_heap_other (by intro e;subst e;exact(Nr.1 f).1 i)]
   exact m q (il _ i))
  refine⟨w',Steps.trans (.one c) (by simpa using z),y,A,t,by rw[v];simp,λb n=>?_⟩
  rw[p b (λh=>n (il _ h)),World.putObj_heap_other (by intro e;subst e;exact n (jn ..))]
theorem ic.other{M:Mem}{ι:Map}{g:da}{w w':World}(e:ic M ι g w){ds:List Nat}(d : ∀D∈ds,w.heap[D]?=some (.deferred (some [])))(h : ∀b,b ∉ ds->w'.heap[b]?=w.heap[b]?):ic M ι g w':=by
 refine⟨λb o x n=>?_,λr k i=>?_,e.inj⟩
 ·have f:=e.mem b o x n
  have c:b ∉ ds:=by
   intro c
   have:=d b c
   simp[World.cell?,this]at f
  rw[World.cell?_of_block (w:=w) (h b c)]
  exact f
 ·obtain⟨l,j,c⟩:=e.live r k i
  exact⟨l,j,c.cr (λ_ _ _ h=>h) (λ_ _ h=>h) (h l.b λm=>GO e (d _ m) r k l i j rfl) c.frozen⟩
theorem Jf{ok:Array Oper->Bool}(hE:E.Ok ok){n:Nat}(hn:Nm E ok n){dep:Nat}{f:FuncId}{args:List AV}{H H':ai}{x:AV}(h:vp E (bR E n) dep f args H=some (x,H')):sh E.P (.fn f) args H x H':=by
 unfold vp at h
 obtain⟨N,h⟩:=fB.1 h
 obtain⟨fn,q,y,u⟩:=hE.fns f N
 rw[q]at h
 simp only at h
 split at h
 ·rename_i c L
  obtain⟨hlen,h⟩:=fB.1 h
  split at h
  ·rename_i st U
   simp only[bO]at h
   obtain⟨x',S,h⟩:=h
   injection h with h1 I
   subst h1;subst I
   refine⟨⟨fn,q,y,by rw[L];rfl⟩,?_⟩
   intro M ι w us hS z Z cs
   have hul:=Z.1
   have hO:Ac M ι ⟨args,H⟩ fn.ntmps { tmps:=us.toArray++Array.replicate (fn.ntmps - us.toArray.size) undef,defers:=[]} w:=by
    refine⟨hS,z,⟨?_⟩,by simp;omega⟩
    intro t
    rw[QF,Et]
    rcases fm t args.length with G | G
    ·rw[fc G,NR (by simp;omega),cX]
     have X:us[t]?=some (us[t]'(by omega)):=fc _
     simp only[NL,X,cX]
     exact Z.2 t _ _ (fc G) X
    ·rw[zI G,Array.getElem?_append_right (by simp;omega)]
     have : ∀k:Nat,((Array.replicate (fn.ntmps - us.toArray.size) undef)[k]?).getD undef=undef:=by
      intro k
      rw[NP]
      split<;>rfl
     rw[this]
     exact .v rfl
   let b:Frame := { (default:Frame)with fn:=f,kind := .normal}
   have m:Frame.enter E.P f us.toArray .normal=b.atR { tmps:=us.toArray++Array.replicate (fn.ntmps - us.toArray.size) undef,defers:=[]} [.code c]:=by
    simp[Frame.enter,Frame.atR,q,L,b]
    rfl
   obtain⟨F,w',todo,ds,⟨M',ι',e,p⟩,C,j,d⟩:=hn none fn.ntmps dep [.code c] ⟨args,H⟩ st U (by intro i W;simp at W;subst W;exact u c L) M ι _ w hO b cs rfl rfl
   rw[<-m]at d
   simp only[tq]at C
   obtain⟨K,I,h3,h4,h5,h6,Y⟩:=Ml (P:=E.P) (fr := { b.atR F todo with mode := .returning}) (cs:=cs) ds w' rfl j.1 (λD z=>(j.2 D z).2)
   have O : { { b.atR F todo with mode := .returning} with defers:=marks ds} = { b.atR F todo with mode := .returning}:=by rw[<-show F.defers=marks ds from C];rfl
   rw[O]at I
   have A:=e.sim.other (λD z=>(j.2 D z).2) Y
   have V:uh M ι H.get w M' ι' st.hp.get K:=by
    refine⟨h3.trans p.os,h4.trans p.tape,h5.trans p.output,by rw[h6];exact p.size,λT Q R=>?_,p.mem,p.map,p.live,p.new⟩
    rw[Y T λz=>absurd (j.2 T z).1 (by omega)]
    exact p.chg T Q R
   obtain⟨v,hr,J⟩:=Om (w:=K) ⟨A,e.dom,e.tr,e.nt⟩ S
   exact⟨.returned v,K, { { b.atR F todo with mode := .returning} with defers:=[]},⟨v,rfl,M',ι',J,A,V,e.dom⟩,Steps.trans d I,rfl,rfl,rfl,rfl,fn,q,hr⟩
  ·cases h
 ·cases h
end
end Go.Ab
namespace Go.Ab
theorem EF{g:da}(r:Ref) : ∀(n m:Nat)(x y:AV)(u:List bz),view g n x=some y->aE r m y u=(y,u):=by
 intro n
 induction n with
 | zero=>intro m x y u h;simp[view]at h
 | succ n D=>
  intro m x y u h
  cases m with
  | zero=>rfl
  | succ m=>
   have e : ∀(cs ys d:List AV),cs.mapM (view g n)=some ys->ys.foldl (λ(p:List AV × List bz) c=>(p.1++[(aE r m c p.2).1],(aE r m c p.2).2)) (d,u)=(d++ys,u):=by
    intro cs
    induction cs with
    | nil=>intro ys d h;simp at h;subst h;simp
    | cons c cs C=>
     intro ys d h
     simp only[ny,tu,tZ,ig]at h
     obtain⟨y,z,A,q,h⟩:=h
     simp at h
     subst h
     rw[vR,D m c y u z,C A (d++[y]) q]
     simp
   cases x with
   | agg cs=>
    simp only[view,bO]at h
    obtain⟨ys,q,rfl⟩:=h
    have:=e cs ys [] q
    simp only[aE]
    rw[this]
    simp
   | tup cs=>
    simp only[view,bO]at h
    obtain⟨ys,q,rfl⟩:=h
    have:=e cs ys [] q
    simp only[aE]
    rw[this]
    simp
   | v x=>simp[view]at h;subst h;rfl
   | bW=>simp[view]at h;subst h;rfl
   | iptr=>simp[view]at h;subst h;rfl
   | fsl=>simp[view]at h
   | cL r' off len cap=>
    simp only[view]at h
    split at h
    ·split at h
     ·cases h;rfl
     ·cases h
    ·cases h
   | ptr r' i j=>
    simp only[view]at h
    split at h
    ·split at h
     ·cases h;rfl
     ·simp only[bO]at h;obtain⟨_,_,rfl⟩:=h;rfl
    ·cases h
   | fn f a b=>
    simp only[view]at h
    split at h
    ·cases h;rfl
    ·cases h
   | ifc t x=>
    simp only[view,bO]at h
    obtain⟨y,z,rfl⟩:=h
    simp only[aE]
    rw[D m x y u z]
   | yld=>simp[view]at h
   | mp=>simp[view]at h
   | ch=>simp[view]at h
   | lp=>simp[view]at h
def bM(g:da):Nat->AV->List Ref
 | 0,_=>[]
 | n+1,x=>
  match x with
  | .agg cs | .tup cs=>cs.flatMap (bM g n)
  | .cL r 0 len _=>(match g r with | some b=>if b.kH then [] else [r] | none=>[])
  | .mp r=>[r]
  | .ifc _ x=>bM g n x
  | _=>[]
def dk(g:da):Nat->AV->List Ref
 | 0,_=>[]
 | n+1,x=>
  match x with
  | .agg cs | .tup cs=>cs.flatMap (dk g n)
  | .cL r 0 len _=>(match g r with | some b=>if b.kH then [r] else [] | none=>[r])
  | .mp _=>[]
  | .ifc _ x=>dk g n x
  | x=>ay g (n+1) x
theorem Kn{g:da} : ∀(n:Nat)(x:AV)(r:Ref),r∈bM g n x->r∈ay g n x:=by
 intro n
 induction n with
 | zero=>intro x r h;simp[bM]at h
 | succ n d=>
  intro x r h
  unfold bM at h
  split at h
  ·simp only[sv]at h
   obtain⟨c,b,e⟩:=h
   simp only[ay,sv]
   exact⟨c,b,d c r e⟩
  ·simp only[sv]at h
   obtain⟨c,b,e⟩:=h
   simp only[ay,sv]
   exact⟨c,b,d c r e⟩
  ·split at h
   ·split at h
    ·cases h
    ·simpa [ay] using h
   ·cases h
  ·simpa [ay] using h
  ·simp only[ay];exact d _ r h
  ·cases h
theorem G8{g:da} : ∀(n:Nat)(x:AV),(ay g n x).Nodup->(bM g n x).Nodup /\∀r∈bM g n x,r ∉ dk g n x:=by
 intro n
 induction n with
 | zero=>intro x h;simp[bM]
 | succ n F=>
  intro x h
  have i : ∀(n:Nat)(x:AV)(r:Ref),r∈dk g n x->r∈ay g n x:=by
   intro n
   induction n with
   | zero=>intro x r h;simp[dk]at h
   | succ n u=>
    intro x r h
    unfold dk at h
    split at h
    ·simp only[sv]at h
     obtain⟨c,v,f⟩:=h
     simp only[ay,sv]
     exact⟨c,v,u c r f⟩
    ·simp only[sv]at h
     obtain⟨c,v,f⟩:=h
     simp only[ay,sv]
     exact⟨c,v,u c r f⟩
    ·split at h
     ·split at h
      ·simpa [ay] using h
      ·cases h
     ·simpa [ay] using h
    ·cases h
    ·simp only[ay];exact u _ r h
    ·exact h
  have j : ∀cs:List AV,(cs.flatMap (ay g n)).Nodup->(cs.flatMap (bM g n)).Nodup /\∀r∈cs.flatMap (bM g n),r ∉ cs.flatMap (dk g n):=by
   intro cs
   induction cs with
   | nil=>intro _;simp
   | cons c cs C=>
    intro D
    rw[zG,Nv]at D
    obtain⟨H,N,z⟩:=D
    obtain⟨J,G⟩:=F c H
    obtain⟨L,K⟩:=C N
    have p : ∀r,r∈cs.flatMap (bM g n)->r∈cs.flatMap (ay g n):=by
     intro r f
     simp only[sv]at f ⊢
     obtain⟨d,A,f⟩:=f
     exact⟨d,A,Kn n d r f⟩
    have q : ∀r,r∈cs.flatMap (dk g n)->r∈cs.flatMap (ay g n):=by
     intro r f
     simp only[sv]at f ⊢
     obtain⟨d,A,f⟩:=f
     exact⟨d,A,i n d r f⟩
    refine⟨?_,?_⟩
    ·rw[zG,Nv]
     exact⟨J,L,λa I b y e=>z a (Kn n c a I) b (p b y) e⟩
    ·intro r f m
     rw[zG,nR]at f m
     rcases f with f | f<;>rcases m with m | m
     ·exact G r f m
     ·exact z r (Kn n c r f) r (q r m) rfl
     ·exact z r (i n c r m) r (p r f) rfl
     ·exact K r f m
  cases x with
  | agg cs=>simpa [bM,dk] using j cs (by simpa [ay] using h)
  | tup cs=>simpa [bM,dk] using j cs (by simpa [ay] using h)
  | cL r off len cap=>
   cases off with
   | zero=>
    simp only[bM,dk]
    cases O:g r with
    | none=>simp
    | some b=>cases y:b.kH<;>simp[y]
   | succ off=>simp[bM]
  | mp r=>simp[bM,dk]
  | ifc t x=>simpa [bM,dk] using F x (by simpa [ay] using h)
  | _=>simp[bM]
def Out(g:da)(q:Ref)(b:bz):Prop:=
 (∃k len,g q=some k/\k.kH=false/\k.arr=true/\b=⟨k.esz,k.es.take len,true,false⟩) \/∃k ents,g q=some k/\jU g q=some ents/\(∀e∈ents,flat depth e=true)/\b=bj ents
theorem IX{g:da}{q:Ref}{ents:List AV}(h:jU g q=some ents) : ∃k,g q=some k/\k.esz=0/\k.es = .v (.bool true) :: ents:=by
 unfold jU at h
 split at h
 ·rename_i e f b
  cases h
  exact⟨_,b,rfl,rfl⟩
 ·cases h
theorem RZ{M:Mem}{ι:Map}{g:da}{w:World}{R:List Ref}(hS:ic M ι g w)(r:Ref) : ∀(n:Nat)(x y:AV)(u:Value)(j:List bz),dM g n x=some y->VR M ι x u ->
 (∀q∈dk g n x,q∈R) ->
 ∃new:List bz,(aE r n y j).2=j++new/\new.length=(bM g n x).length /\
  (∀(i:Nat) q b,(bM g n x)[i]?=some q->new[i]?=some b->Out g q b) /\
  ∀z:List Loc,(∀(i:Nat) q l,(bM g n x)[i]?=some q->ι q=some l->z[j.length+i]?=some l)->VR (nd M ι g w R) (lM r z) (aE r n y j).1 u:=by
 intro n
 induction n with
 | zero=>intro x y u j h;simp[dM]at h
 | succ n ih=>
  intro x y u j h N L
  have plain:view g (n+1) x=some y->bM g (n+1) x=[]->(∀q∈ay g (n+1) x,q∈R) ->∃new:List bz,(aE r (n+1) y j).2=j++new/\new.length=(bM g (n+1) x).length /\
   (∀(i:Nat) q b,(bM g (n+1) x)[i]?=some q->new[i]?=some b->Out g q b) /\
   ∀z:List Loc,(∀(i:Nat) q l,(bM g (n+1) x)[i]?=some q->ι q=some l->z[j.length+i]?=some l)->VR (nd M ι g w R) (lM r z) (aE r (n+1) y j).1 u:=by
   intro O F Q
   rw[EF r (n+1) (n+1) x y j O]
   exact⟨[],by simp,by rw[F];rfl,by rw[F];intro i q b A;simp at A,λz _=>(Ci hS (n+1) x y u O Q N).up _⟩
  have K : ∀(cs ys:List AV)(us:List Value)(I:List AV)(j:List bz),cs.mapM (dM g n)=some ys->mc M ι cs us->(∀q∈cs.flatMap (dk g n),q∈R) ->
   ∃(new:List bz) (zs:List AV),ys.foldl (λ(p:List AV × List bz) c=>(p.1++[(aE r n c p.2).1],(aE r n c p.2).2)) (I,j)=(I++zs,j++new)/\new.length=(cs.flatMap (bM g n)).length /\
    (∀(i:Nat) q b,(cs.flatMap (bM g n))[i]?=some q->new[i]?=some b->Out g q b) /\
    ∀z:List Loc,(∀(i:Nat) q l,(cs.flatMap (bM g n))[i]?=some q->ι q=some l->z[j.length+i]?=some l)->mc (nd M ι g w R) (lM r z) zs us:=by
   intro cs
   induction cs with
   | nil=>
    intro ys us I j W C _
    simp at W
    subst W
    have:us=[]:=Ch (by rw[<-C.1];rfl)
    subst this
    exact⟨[],[],by simp,rfl,by intro i q b A;simp at A,λ_ _=>mc.nil⟩
   | cons c cs ihc=>
    intro ys us I j W C X
    simp only[ny,tu,tZ,ig]at W
    obtain⟨y,hy1,ys',J,hy2⟩:=W
    simp at hy2
    subst hy2
    cases us with
    | nil=>have:=C.1;simp at this
    | cons u us=>
     have hvc:VR M ι c u:=C.2 0 c u rfl rfl
     have hvcs:mc M ι cs us:=⟨by have:=C.1;simpa using this,λi x v hx N=>C.2 (i+1) x v (by simpa using hx) (by simpa using N)⟩
     simp only[zG,nR]at X
     obtain⟨T,O,F,Q,Y⟩:=ih c y u j hy1 hvc (λq A=>X q (.inl A))
     obtain⟨new2,zs,h5,h6,h7,h8⟩:=ihc ys' us (I++[(aE r n y j).1]) (j++T) J hvcs (λq A=>X q (.inr A))
     refine⟨T++new2,(aE r n y j).1 :: zs,?_,?_,?_,?_⟩
     ·rw[vR]
      simp only
      rw[O,h5]
      simp
     ·simp[F,h6]
     ·intro i q b A Z
      rw[zG]at A
      rcases fm i (bM g n c).length with hi | hi
      ·rw[nS hi]at A
       rw[nS (by omega)]at Z
       exact Q i q b A Z
      ·rw[pf hi]at A
       rw[pf (by omega),F]at Z
       exact h7 _ q b A Z
     ·intro z f
      refine mc.cons (Y z ?_) (h8 z ?_)
      ·intro i q l A V
       refine f i q l ?_ V
       rw[zG,nS (iN.1 A).1]
       exact A
      ·intro i q l A V
       have:=f ((bM g n c).length+i) q l (by
        rw[zG,pf (by omega),JA]
        exact A) V
       rw[oT,F,Jp]
       exact this
  cases x with
  | agg cs=>
   simp only[dM,bO]at h
   obtain⟨ys,J,rfl⟩:=h
   obtain⟨vs,rfl,C⟩:=N.Qu
   obtain⟨new,zs,O,F,Q,Y⟩:=K cs ys vs.toList [] j J C (by simpa [dk] using L)
   simp only[aE]
   rw[O]
   refine⟨new,rfl,by simpa [bM] using F,by simpa [bM] using Q,λz f=>?_⟩
   have:=Y z (by simpa [bM] using f)
   simpa using VR.rO.2 this
  | tup cs=>
   simp only[dM,bO]at h
   obtain⟨ys,J,rfl⟩:=h
   cases N with | tup h0 V hh=>
   rename_i vs
   obtain⟨new,zs,O,F,Q,Y⟩:=K cs ys vs.toList [] j J ⟨by simpa using V,λi x u hx hu=>hh i x u hx (by simpa using hu)⟩ (by simpa [dk] using L)
   simp only[aE]
   rw[O]
   refine⟨new,rfl,by simpa [bM] using F,by simpa [bM] using Q,λz f=>?_⟩
   have:=Y z (by simpa [bM] using f)
   simp only[vS]
   refine .tup ?_ (by simpa using this.1) λi c u hc hu=>this.2 i c u hc (by simpa using hu)
   intro e
   rw[e]at this
   have h5:=this.1
   simp at h5
   have h6:vs.size=0:=by omega
   rw[h6]at V
   exact h0 (Ch V)
  | cL q off len cap=>
   cases off with
   | succ off=>exact plain (by simpa [dM] using h) (by simp[bM]) (by simpa [dk] using L)
   | zero=>
    simp only[dM]at h
    split at h
    ·rename_i k S
     obtain⟨⟨H,hlen⟩,h⟩:=fB.1 h
     injection h with h
     cases D:k.kH with
     | true=>
      rw[D]at h
      simp only[if_true]at h
      refine plain ?_ (by simp[bM,S,D]) (by
       intro q' d
       refine L q' ?_
       simp only[ay,uP]at d
       simp[dk,S,D,d])
      simp only[view,S,H]
      rw[if_pos ⟨trivial,by omega⟩]
      simp[<-h]
     | false=>
      rw[D]at h
      simp only[nz,if_false]at h
      subst h
      have m:bM g (n+1) (.cL q 0 len cap)=[q]:=by simp[bM,S,D]
      cases N with | cL hr Z hs ha hc hn hkk hzl=>
      rename_i l a c
      have hl2:(k.es.take len).length=len:=by rw[tv];omega
      have U:k.esz≠0:=by
       obtain⟨l0,hl0,hbk⟩:=hS.live q k S
       have:=hbk.pos H
       omega
      refine⟨[⟨k.esz,k.es.take len,true,false⟩],by simp[aE,U],by rw[m];rfl,?_,?_⟩
      ·intro i q' b d G
       rw[m]at d
       cases i with
       | succ i=>simp at d
       | zero=>
        simp at d G
        subst d;subst G
        exact .inl ⟨k,len,S,D,H,rfl⟩
      ·intro z f
       have:=f 0 q l (by rw[m];rfl) hr
       simp only[aE,hl2,if_neg U]
       refine .cL (l:=l) ?_ Z hs ha hc hn hkk hzl
       unfold lM
       simpa using this
    ·cases h
  | v x=>exact plain (by simpa [dM] using h) (by simp[bM]) (by simpa [dk] using L)
  | bW=>exact plain (by simpa [dM] using h) (by simp[bM]) (by simpa [dk] using L)
  | iptr=>exact plain (by simpa [dM] using h) (by simp[bM]) (by simpa [dk] using L)
  | fsl=>exact plain (by simpa [dM] using h) (by simp[bM]) (by simpa [dk] using L)
  | ptr=>exact plain (by simpa [dM] using h) (by simp[bM]) (by simpa [dk] using L)
  | fn=>exact plain (by simpa [dM] using h) (by simp[bM]) (by simpa [dk] using L)
  | ifc t x=>
   simp only[dM,bO]at h
   obtain⟨y,W,rfl⟩:=h
   cases N with | ifc N=>
   obtain⟨new,O,F,Q,Y⟩:=ih x y _ j W N (by simpa [dk] using L)
   simp only[aE]
   exact⟨new,O,by simpa [bM] using F,by simpa [bM] using Q,λz f => .ifc (Y z (by simpa [bM] using f))⟩
  | yld=>simp[dM,view]at h
  | ch q=>simp[dM,view]at h
  | mp q=>
   simp only[dM]at h
   split at h
   ·rename_i ents hm
    obtain⟨hfl,h⟩:=fB.1 h
    injection h with h
    subst h
    have m:bM g (n+1) (.mp q)=[q]:=by simp[bM]
    cases N with | mp hr hz=>
    rename_i l
    obtain⟨k,S,_,_⟩:=IX hm
    refine⟨[bj ents],by simp[aE,bj],by rw[m];rfl,?_,?_⟩
    ·intro i q' b d G
     rw[m]at d
     cases i with
     | succ i=>simp at d
     | zero=>
      simp at d G
      subst d;subst G
      exact .inr ⟨k,ents,S,hm,by simpa [gD] using hfl,rfl⟩
    ·intro z f
     have:=f 0 q l (by rw[m];rfl) hr
     simp only[aE,if_true]
     refine .mp (l:=l) ?_ hz
     unfold lM
     simpa using this
   ·cases h
  | lp=>simp[dM,view]at h
theorem CQ:ai.get []=λ_=>none:=by funext q;rfl
theorem Wj{M:Mem}{w:World}(c : ∀b o x,M b o=some x->w.cell? ⟨b,o,none⟩=some x):ic M ek (ai.get []) w:=
 ⟨c,(λr k h=>by rw[CQ]at h;cases h),(λr r' k k' l d h=>by rw[CQ]at h;cases h)⟩
theorem XD:uK ek []:=λq l h=>by cases h
theorem LV{M:Mem}{w:World}(C : ∀b o x,M b o=some x->w.cell? ⟨b,o,none⟩=some x){H':ai}{v:Value}{w':World}{e:Mem}{c:Map}{x:AV}
 (G:VR e c x v) (q:ic e c H'.get w') (d:uh M ek (ai.get []) w e c H'.get w') {R:List Ref} {y:AV}
 (f : ∀r:Ref,∃n:List Loc,n.length=(aE r depth y []).2.length/\VR (nd e c H'.get w' R) (lM r n) (aE r depth y []).1 v /\
  (∀(k:Nat) l b,n[k]?=some l->(aE r depth y []).2[k]?=some b->o6 (nd e c H'.get w' R) ek w' l b/\w.heap.size<=l.b) /\
  ∀(i j:Nat) l l',n[i]?=some l->n[j]?=some l'->l.b=l'.b->i=j):zx M w y v (nd e c H'.get w' R) w':=by
 obtain⟨u,p⟩:=AB (R:=R) q
 have m:=d.trans p
 refine⟨d.os,d.tape,d.output,d.size,λb t=>d.chg b t (λr k l h=>by rw[CQ]at h;cases h),m.mem,zm q.mem,?_,f⟩
 intro b o z A
 rcases m.new b o z A with h | h | ⟨F,k0,D,h,_⟩
 ·exact .inl h
 ·exact .inr h
 ·rw[CQ]at h;cases h
theorem Me{M:Mem}{w:World}{H':ai}{w':World}{d:Mem}{c:Map}(e:uh M ek (ai.get []) w d c H'.get w'){r:Ref}{k:bz}{l:Loc}(f:H'.get r=some k)(i:c r=some l):w.heap.size<=l.b:=by
 rcases e.live r k l f i with h | ⟨j,k0,m,h,_⟩
 ·exact h
 ·rw[CQ]at h;cases h
theorem Out.live{g:da}{q:Ref}{b:bz}(h:Out g q b) : ∃k,g q=some k:=by
 rcases h with ⟨k,_,c,_⟩ | ⟨k,_,c,_⟩<;>exact⟨k,c⟩
theorem RU : ∀(n:Nat)(x:AV),flat n x=true->flat (n+1) x=true:=by
 intro n
 induction n with
 | zero=>intro x h;simp[flat]at h
 | succ n e=>
  intro x h
  cases x with
  | v x=>rfl
  | agg cs=>simp only[flat,gD]at h ⊢;exact λc d=>by have:=e c (h c d);simpa [flat] using this
  | tup cs=>simp only[flat,gD]at h ⊢;exact λc d=>by have:=e c (h c d);simpa [flat] using this
  | ifc t x=>have:=e x (by simpa [flat] using h);simpa [flat] using this
  | fn f a b=>
   simp only[flat,bh,gD]at h ⊢
   exact⟨λc d=>by have:=e c (h.1 c d);simpa [flat] using this,λc d=>by have:=e c (h.2 c d);simpa [flat] using this⟩
  | _=>simp[flat]at h
theorem U3{cs:List AV}(h:flat depth (.tup cs)=true){c:AV}(b:c∈cs):flat depth c=true:=by
 have d:depth=(depth - 1)+1:=rfl
 rw[d]at h ⊢
 simp only[flat,gD]at h
 exact RU _ c (h c b)
theorem EA{E:Env}{ok:Array Oper->Bool}(hE:E.Ok ok){n:Nat}(hn:Nm E ok n){f:FuncId}{args:List AV}{y:AV}(h:bG E (bR E n) f args=some y):cW E.P f args y:=by
 unfold bG at h
 split at h
 ·rename_i s hs
  cases h
  exact hE.specs f args y hs
 ·split at h
  ·rename_i x H' hc
   obtain⟨hfn,H⟩:=Jf hE hn hc
   refine⟨hfn,λM w us hm hvs=>?_⟩
   refine(H M ek w us (Wj hm) XD hvs).mono λe w' ⟨v,p,M1,ι1,hv,hS,hF,hD⟩=>⟨v,?_⟩
   split at h
   ·obtain⟨hnd,h⟩:=fB.1 h
    obtain⟨N,U⟩:=G8 depth x hnd
    refine⟨_,p,LV (R:=dk H'.get depth x) hm hv hS hF λr=>?_⟩
    obtain⟨new,h1,h2,h3,h4⟩:=RZ (R:=dk H'.get depth x) hS r depth x y v [] h hv (λq t=>t)
    rw[vS]at h1
    let c:Ref->Loc:=λq=>(ι1 q).getD ⟨0,0,0⟩
    refine⟨(bM H'.get depth x).map c,by rw[h1];simp[h2],h4 _ ?_,?_,?_⟩
    ·intro i q l t J
     simp only[Fq,uN,oS,t,Option.map_some,c,J,cX]
    ·intro i l b J Z
     rw[h1]at Z
     simp only[oS,bO]at J
     obtain⟨q,t,C⟩:=J
     rcases h3 i q b t Z with ⟨k,len,A,hfr,G,rfl⟩ | ⟨k,ents,A,D,hfl,rfl⟩
     rotate_left
     ·obtain⟨V,m,d⟩:=hS.live q k A
      have:l=V:=by rw[<-C];simp[c,m]
      subst this
      have hz:l.esz=0:=by
       obtain⟨k1,X,hz1,_⟩:=IX D
       rw[A]at X;cases X
       rw[d.esz];exact hz1
      obtain⟨a,f,entries,hg,Y,hsz,W,_⟩:=A8 hS D m hz
      refine⟨nM.Vo (.inr (.inl ⟨ents,entries,rfl,rfl,rfl,Y,hsz,λi' ent e p he'=>?_⟩)) hz (λo z hx=>?_),Me hF A m⟩
      ·obtain⟨ka,va,e1,e2,e3⟩:=W i' ent e p he'
       subst e1
       refine⟨ka,va,rfl,e2,C2 depth va _ ?_ e3.1,e3.2⟩
       have:=hfl _ (fL p)
       exact U3 this (by simp)
      ·have:=(AB (R:=dk H'.get depth x) hS).1.mem _ _ _ hx
       simp[World.cell?,Y]at this
     obtain⟨V,m,d⟩:=hS.live q k A
     have:l=V:=by rw[<-C];simp[c,m]
     subst this
     refine⟨?_,Me hF A m⟩
     have O:=d.pos G
     replace d:=d.cellsOk O
     obtain⟨arr,T,fz,Y,g1,g2,g3⟩:=d.heap
     refine fY.Vo (k:=⟨k.esz,k.es.take len,true,false⟩) ⟨d.esz,⟨arr,T,fz,Y,g1,g2,?_⟩,by have:=d.len;simp;omega,λe p=>d.cells e (zH p),?_⟩ O
     ·intro i' j e x' p hx
      simp only at p
      rw[Bn]at p
      split at p
      ·obtain⟨u,hu,ho,L⟩:=g3 i' j e x' p hx
       rw[bz.map,if_pos G]at L
       exact⟨u,hu,ho,by rw[bz.map,if_pos rfl];exact L.mono wx _ (λ_ _ h=>h)⟩
      ·cases p
     ·intro o z hz
      exfalso
      rcases B3 hz with h5 | ⟨r',hr',k',Q,hg',hl',hb',ho⟩
      ·have:=(d.frozen o z h5).1
       rw[hfr]at this
       cases this
      ·have e:=hS.inj r' q k' k Q l hg' A hl' m hb'
       subst e
       exact U r' (fL t) hr'
    ·intro i j l Q hi hj Z
     simp only[oS,bO]at hi hj
     obtain⟨q,t,C⟩:=hi
     obtain⟨q',I,S⟩:=hj
     have hi2:i<new.length:=by rw[h2];exact(iN.1 t).1
     have hj2:j<new.length:=by rw[h2];exact(iN.1 I).1
     obtain⟨k,A⟩:=(h3 i q _ t (fc hi2)).live
     obtain⟨k',K⟩:=(h3 j q' _ I (fc hj2)).live
     obtain⟨V,m,_⟩:=hS.live q k A
     obtain⟨l0',F,_⟩:=hS.live q' k' K
     have e1:l=V:=by rw[<-C];simp[c,m]
     have e2:Q=l0':=by rw[<-S];simp[c,F]
     subst e1;subst e2
     have e:=hS.inj q q' k k' l Q A K m F Z
     subst e
     exact(List.getElem?_inj (iN.1 t).1 N).1 (by rw[t,I])
   ·refine⟨_,p,LV (R:=ay H'.get depth x) hm hv hS hF λr=>?_⟩
    rw[EF r depth depth x y [] h]
    exact⟨[],rfl,(Ci hS depth x y v h (λq t=>t) hv).up _,by intro k l b J;simp at J,by intro i j l Q hi;simp at hi⟩
  ·cases h
theorem N8 : ∀(ps:List Tmp)(xs:List AV)(tm:List AV)(us:List Value)(tmps:Array Value),((ps.zip us).foldl (λtmps (p:Tmp × Value)=>tmps.setIfInBounds p.1 p.2) tmps).size=tmps.size:=by
 intro ps
 induction ps with
 | nil=>intro xs tm us tmps;rfl
 | cons p ps b=>
  intro xs tm us tmps
  cases us with
  | nil=>rfl
  | cons u us=>simp only[Ny,vR];rw[b [] [] us];simp
theorem QK{M:Mem}{ι:Map}{nt:Nat} : ∀(ps:List Tmp)(xs:List AV)(us:List Value)(tm:List AV)(tmps:Array Value),xs.length=ps.length->mc M ι xs us->(∀p∈ps,p<nt)->tmps.size=nt->(∀t,VR M ι (dH tm t) (tmps.getD t undef)) ->
 ∀t,VR M ι (dH (wU tm ps xs) t) (((ps.zip us).foldl (λtmps (p:Tmp × Value)=>tmps.setIfInBounds p.1 p.2) tmps).getD t undef):=by
 intro ps
 induction ps with
 | nil=>intro xs us tm tmps f c hp d h t;cases xs<;>exact h t
 | cons p ps z=>
  intro xs us tm tmps f c hp d h t
  cases xs with
  | nil=>simp at f
  | cons x xs=>
   cases us with
   | nil=>have:=c.1;simp at this
   | cons u us=>
    simp only[Ny,vR,wU]
    refine z xs us _ _ (by simpa using f) ⟨by have:=c.1;simpa using this,λi y v m j=>c.2 (i+1) y v (by simpa using m) (by simpa using j)⟩ (λq n=>hp q (il _ n)) (by simpa using d) ?_ t
    intro t'
    have e:=hp p (jn ..)
    rw[uD,Et]
    by_cases b:t'=p
    ·subst b
     rw[if_pos rfl,Fw (by rw[d];exact e)]
     exact c.2 0 x u rfl rfl
    ·rw[if_neg b,Bo (sL b),<-Et]
     exact h t'
theorem Io(ps:Array Tmp)(us:Array Value)(tmps:Array Value):(ps.zip us).foldl (λtmps (t,a)=>tmps.setIfInBounds t a) tmps=(ps.toList.zip us.toList).foldl (λtmps (p:Tmp × Value)=>tmps.setIfInBounds p.1 p.2) tmps:=by
 rw[<-Nz,Array.toList_zip]
theorem Oj{E:Env}{ok:Array Oper->Bool}(hE:E.Ok ok){n dep:Nat}(hn:Nm E ok n){r:Ref}{args:List AV}{H H':ai}{y:AV}(h:A3 E (bR E n) dep r args H=some (y,H')):sh E.P (.yld r) args H y H':=by
 unfold A3 at h
 split at h
 ·rename_i f nt ps assign body tm C
  obtain⟨⟨K,G,x,A⟩,h⟩:=fB.1 h
  split at h
  ·rename_i st I
   intro M ι w us l Q L z O
   obtain⟨X,W,as',S,tm',d,e,g1,R,g3,g4,J,g6,g7,_,_⟩:=A9 Q L O C
   cases e
   have F:us.toArray.size=d.params.size:=by rw[R];simp;rw[<-K];exact z.1.symm
   refine⟨_,_,_,_,run_yield g1 F,trivial,λc cs _=>?_⟩
   let b:Frame := { (default:Frame)with fn:=d.fn,kind := .normal,roundOf:=some l.b}
   have j : ∀tmps,Frame.round l.b d.fn tmps d.assign d.body .normal=b.atR { tmps:=tmps,defers:=[]} [.code assign,.beginRound,.code body]:=by
    intro tmps
    simp[Frame.round,Frame.atR,b,g3,g4]
   rw[j]
   have U:Ac M ι ⟨wU tm ps args,H⟩ nt { tmps:=(d.params.zip us.toArray).foldl (λtmps (t,a)=>tmps.setIfInBounds t a) d.tmps,defers:=[]} w:=by
    refine⟨Q,L,⟨?_⟩,?_⟩
    ·intro t
     show VR M ι _ (((d.params.zip us.toArray).foldl (λtmps (t,a)=>tmps.setIfInBounds t a) d.tmps).getD t undef)
     rw[Io,R]
     exact QK ps args us tm d.tmps K z (λp hp=>by have:=gD.1 G p hp;simpa using this) J g6 t
    ·show((d.params.zip us.toArray).foldl (λtmps (t,a)=>tmps.setIfInBounds t a) d.tmps).size=nt
     rw[Io,N8 _ [] []]
     exact J
   have u:=hE.same
   obtain⟨m,inf,w',h1,h2,⟨M',ι',V,Y,T⟩,Z⟩:=hn (some r) nt dep _ _ st I (by
    intro i N
    simp only[m6,Dv,or_false]at N
    rcases N with rfl | rfl | rfl
    ·rw[<-u];exact x
    ·rfl
    ·rw[<-u];exact A) M ι _ w U b (c :: cs) l c cs O rfl rfl rfl
   rw[h1]at h
   have q:Comes E.P (lone (b.atR { tmps:=(d.params.zip us.toArray).foldl (λtmps (t,a)=>tmps.setIfInBounds t a) d.tmps,defers:=[]} [.code assign,.beginRound,.code body]) (c :: cs) w) (lone (c.finish (.bool (m == 0))) cs w') (.returned (.bool (m == 0))):=Z
   have D:y = .v (.bool (m == 0))/\H'=st.hp:=by
    rcases m with _ | _ | m
    ·simp only[dW,xe]at h;exact⟨h.1.symm,h.2.symm⟩
    ·exact absurd rfl h2
    ·simp only[dW,xe]at h;exact⟨h.1.symm,h.2.symm⟩
   obtain⟨rfl,rfl⟩:=D
   exact⟨.returned (.bool (m == 0)),w',⟨_,rfl,M',ι',.v rfl,V,Y,T⟩,comesIn_wide.2 q⟩
  ·cases h
 ·cases h
theorem Gl{E:Env}{ok:Array Oper->Bool}(b:E.Ok ok){n dep:Nat}(d:Nm E ok n){t:xb}{args:List AV}{H H':ai}{y:AV}(h:fg E (bR E n) dep t args H=some (y,H')):sh E.P t args H y H':=by
 unfold fg at h
 cases t with
 | fn f=>
  simp only at h
  cases c:E.thrSpec f args H with
  | some z=>rw[c]at h;cases h;exact b.thrs f args H y H' c
  | none=>
   rw[c]at h
   obtain⟨_,h⟩:=fB.1 h
   exact Jf b d h
 | yld r=>exact Oj b d h
theorem Zo{E:Env}{ok:Array Oper->Bool}(hE:E.Ok ok) : ∀n,Nm E ok n:=by
 intro n
 induction n with
 | zero=>intro rd nt dep C st F h;simp[bR]at h
 | succ n ih=>
  intro rd nt dep C st F h hi M ι a w G b cs
  have Y : ∀(q:List Item)(h':bR E n rd nt dep q st=some F),(∀i∈q,ow ok i=true)->Steps E.P (lone (b.atR a C) cs w) (lone (b.atR a q) cs w) ->
   E5 E.P rd M ι st a w nt F b cs (lone (b.atR a C) cs w):=by
   intro q h' p Q
   exact E5.of_steps (ds:=[]) (λ_ _=>Q) G.sim uh.refl rfl tI (ih rd nt dep q st F h' p M ι a w G b cs)
  have S : ∀(j:Nat)(z:Option Code),j≠1->(z.isNone=(j == 0))->(∀I:Loop,Cw j { I with state:=if z.isNone then .ready else .done,pending:=z})->wY rd st j=some F->rd≠none ->
   (∀l c K v w',b.roundOf=some l->b.kind = .normal->cs=c :: K->(Instr.endRound l z).run E.P w = .ok v w'->Steps E.P (lone (b.atR a C) cs w) (lone (c.finish v) K w'))->E5 E.P rd M ι st a w nt F b cs (lone (b.atR a C) cs w):=by
   intro j z hj hjn N h hrd Q
   cases rd with
   | none=>exact absurd rfl hrd
   | some r=>
    unfold wY at h
    simp only at h
    split at h
    ·rename_i inf A
     cases h
     intro l c K hr u O L
     obtain⟨_,_,_,_,_,I,_,g1,_,_,_,_,_,_,g8,_⟩:=A9 G.sim G.dom hr A
     obtain⟨k1,k2,k3⟩:=g8 j { I with state:=if z.isNone then .ready else .done,pending:=z} ⟨rfl,rfl,rfl,rfl⟩ (N I)
     refine⟨j,inf,_,?_,hj,⟨M,ι,k1,k2,k3⟩,?_⟩
     ·simp[zb,ai.get_put,kE]
     ·rw[<-hjn]
      exact Q l.b c K _ _ u O L (run_endRound z g1)
    ·cases h
  unfold bR at h
  split at h
  ·cases rd with
   | none=>
    injection h with h
    subst h
    intro u _
    exact⟨a,w,[],[],⟨M,ι,G,uh.refl⟩,rfl,tI,.one (stepR_end u)⟩
   | some r=>
    exact S 0 none (by omega) rfl (λI=>⟨rfl,rfl⟩) h (by simp) λl c K v w' u O L hr=>by subst L;exact .one (stepR_round_end u O hr)
  ·rename_i k
   have O : ∀i∈k,ow ok i=true:=λi h=>hi i (il _ h)
   cases rd with
   | none=>cases h
   | some r=>
    simp only at h
    split at h
    ·rename_i inf A
     intro l c K hr u hkd L
     obtain⟨_,_,_,_,_,I,_,g1,_,_,_,_,_,g7,g8,_⟩:=A9 G.sim G.dom hr A
     obtain⟨k1,k2,k3⟩:=g8 1 { I with state := .busy} ⟨rfl,rfl,rfl,rfl⟩ rfl
     have Q:Steps E.P (lone (b.atR a (.beginRound :: k)) cs w) (lone (b.atR a k) cs (cd w l.b (.loop { I with state := .busy}))) := .one (stepR_beginRound u (run_beginRound g1 g7.1))
     exact E5.of_steps (rd:=some r) (ds:=[]) (λ_ _=>Q) k1 k2 rfl tI (ih (some r) nt dep k _ F h O M ι a _ ⟨k1,k3,G.tr,G.nt⟩ b cs) l c K hr u hkd L
    ·cases h
  ·rename_i c k
   have U:codeOk ok c=true:=hi _ (jn ..)
   have O : ∀i∈k,ow ok i=true:=λi h=>hi i (il _ h)
   have two : ∀ {x y:Item},ow ok x=true->ow ok y=true ->∀i∈x :: y :: k,ow ok i=true:=by
    intro x y hx hy i p
    rcases m6.1 p with rfl | p
    ·exact hx
    ·rcases m6.1 p with rfl | p
     ·exact hy
     ·exact O i p
   have one : ∀ {x:Item},ow ok x=true ->∀i∈x :: k,ow ok i=true:=by
    intro x hx i p
    rcases m6.1 p with rfl | p
    ·exact hx
    ·exact O i p
   split at h
   ·exact Y k h O (.one stepR_skip)
   ·exact Y k h O (.one stepR_label)
   ·cases rd with
    | none=>
     simp only[wY,if_true]at h
     injection h with h
     subst h
     intro u _
     exact⟨a,w,_,[],⟨M,ι,G,uh.refl⟩,rfl,tI,.one (stepR_ret u)⟩
    | some r=>exact S 2 (some .ret) (by omega) rfl (λI=>⟨rfl,rfl⟩) h (by simp) λl c K v w' u O L hr=>by subst L;exact .one (stepR_round_ret u O hr)
   ·rename_i x y
    simp only[codeOk,bh]at U
    exact Y _ h (two U.1 U.2) (.one stepR_seq)
   ·rename_i cnd x y
    simp only[codeOk,bh]at U
    split at h
    ·rename_i u
     simp only[ig]at u
     obtain⟨cv,h1,h2⟩:=u
     exact Y _ h (one U.1) (.one (stepR_cond (Bc (aY G.tr h1) h2)))
    ·rename_i u
     simp only[ig]at u
     obtain⟨cv,h1,h2⟩:=u
     exact Y _ h (one U.2) (.one (stepR_cond (Bc (aY G.tr h1) h2)))
    ·cases h
   ·exact Y _ h (two (by simpa [codeOk,ow] using U) rfl) (.one stepR_block)
   ·exact Y _ h (two (by simpa [codeOk,ow] using U) rfl) (.one (step_lone_go (by simp[stepG,stepG.exec,Frame.atR])))
   ·exact Y _ h (two (by simpa [codeOk,ow] using U) (by simpa [codeOk,ow] using U)) (.one stepR_loop)
   ·rename_i id
    split at h
    ·rename_i k' R
     exact Y _ h (I9 R O) (.one (stepR_exit R))
    ·rename_i R
     cases rd with
     | none=>simp at h
     | some r=>exact S (id+3) (some (.exit id)) (by omega) (by simp) (λI=>⟨rfl,rfl⟩) (by simpa using h) (by simp) λl c K v w' u hkd L hr=>by subst L;exact .one (stepR_round_exit u hkd R hr)
   ·rename_i id ops draw
    split at h
    ·rename_i T hst1
     have hap:draw=true->tj E ops T=true:=by
      intro hd
      cases u:tj E ops T with
      | true=>rfl
      | false=>rw[hd,u]at h;simp at h
     replace h:bR E n rd nt dep k T=some F:=by
      split at h
      ·cases h
      ·exact h
     have hpc : ∀f xs y,bG E (bR E n) f xs=some y->cW E.P f xs y:=λf xs y h=>EA hE ih h
     have htc : ∀f xs H y H',fg E (bR E n) dep f xs H=some (y,H')->sh E.P f xs H y H':=λf xs H y H' h=>Gl hE ih h
     have hreg : ∃a1 w1,la M ι st a w nt T a1 w1/\(b.kind = .normal->Steps E.P (lone (b.atR a (.code (.region id ops draw) :: k)) cs w) (lone (b.atR a1 k) cs w1)):=by
      cases draw with
      | false=>exact J0 hpc htc hE.overs b k cs hst1 G
      | true=>
       have hwp:(Code.region id ops true).wpIn (FW b.roundOf) 0 E.P (λe a' w'=>e = .normal/\la M ι st a w nt T a' w') a w:=
        hE.draws ops (by simpa [codeOk] using U) hpc htc nt dep id st T M ι a w b.roundOf _ hst1 (hap rfl) G λa' w' N=>⟨rfl,N⟩
       obtain⟨a1,w1,h1,h2⟩:=Lf b hwp k cs
       exact⟨a1,w1,h1,λ_=>h2⟩
     obtain⟨a1,w1,⟨⟨M1,ι1,hO1,hF1⟩,hd1⟩,Q⟩:=hreg
     exact E5.of_steps (ds:=[]) (λ_=>Q) hO1.sim hF1 hd1 tI (ih rd nt dep k T F h O M1 ι1 a1 w1 hO1 b cs)
    ·cases h
   ·rename_i g ps assign body
    simp only[codeOk,bh]at U
    split at h
    ·rename_i gi first captured hg
     split at h
     ·rename_i x H' hcall
      obtain⟨hS1,hF1,hD1,hmk⟩:=UH (d:=dep) (ps:=ps) (assign:=assign) (body:=body) (fn:=b.fn) G.sim G.dom G.tr G.nt rfl
      obtain⟨hfn,hthr⟩:=Gl hE ih hcall
      obtain⟨a',b',hfv,hva,hvb⟩:=(aY G.tr hg).Xw
      have hmv:=λ{xs us} (h:mc M ι xs us)=>h.mono (λ_ _ _ h=>h) hF1.map
      have hyl:VR M (kD ι ⟨dep,nt,st.hp.gen dep nt,0⟩ ⟨w.heap.size+1,0,0⟩) (.yld ⟨dep,nt,st.hp.gen dep nt,0⟩) (.func (.yield (w.heap.size+1)) #[] #[]) := .yld (l:=⟨w.heap.size+1,0,0⟩) (by simp[kD]) rfl
      have hall:=((hmv hva).append (mc.cons hyl mc.nil)).append (hmv hvb)
      have W:=hthr M _ _ _ hS1 hD1 hall
      rw[show(a'.toList++[Value.func (.yield (w.heap.size+1)) #[] #[]]++b'.toList).toArray=a' ++ #[Value.func (.yield (w.heap.size+1)) #[] #[]]++b' by apply Fy;simp]at W
      intro u
      let c1:Frame:=b.atR { a with defers:=[{ target := .collected w.heap.size,args := #[]}]++a.defers} (.inRangeFunc (w.heap.size+1) :: k)
      have henter:=stepR_rangeFunc (P:=E.P) (b:=b) (a:=a) (k:=k) (cs:=cs) (w:=w) (g:=g) (ps:=ps) (assign:=assign) (body:=body) (l:=w.heap.size+1) (mark:=[{ target := .collected w.heap.size,args := #[]}])
       (d := { target := .fn (.func gi) b',args:=a' ++ #[Value.func (.yield (w.heap.size+1)) #[] #[]]}) (f:=gi) (args:=a' ++ #[Value.func (.yield (w.heap.size+1)) #[] #[]]++b')
       (by rw[u];exact run_enterLoop_outer b.fn a.tmps ps assign body) (by have hev : ∀x,a.eval (.const x)=x:=λ_=>rfl;simp[resolve,rangeCall,hfv,Deferred.ofValue,hev];rfl) (by simp[invoke,Ew hfn];rfl)
      obtain⟨e,w3,fr,⟨v,he,M3,X,hv3,hS3,hF3,hD3⟩,hcomes,hfr,hleave⟩:=W (c1 :: cs)
      subst he
      have hs1:Steps E.P (lone (b.atR a (.code (.rangeFunc g ps assign body) :: k)) cs w) (lone (c1.finish v) cs w3):=Steps.trans (.one henter) (Steps.trans hcomes (.one (step_leave_returned hleave)))
      have hfin:c1.finish v=b.atR { a with defers:=[{ target := .collected w.heap.size,args := #[]}]++a.defers} (.endRangeFunc (w.heap.size+1) :: k):=finish_atR_inRangeFunc _ v
      rw[hfin]at hs1
      have hF13:=hF1.trans hF3
      have hr3:X ⟨dep,nt,st.hp.gen dep nt,0⟩=some ⟨w.heap.size+1,0,0⟩:=hF3.map _ _ (by simp[kD])
      have hmk3:w3.heap[w.heap.size]?=some (.deferred (some [])):=by
       rw[hF3.chg _ (iG.1 hmk).1 (GO hS1 hmk)]
       exact hmk
      have J : ∀ {m:Nat} {inf:AV},zb H' ⟨dep,nt,st.hp.gen dep nt,0⟩=some (m,inf)->m≠1 ->∃I:Loop,∃w4,Cw m I /\
       Steps E.P (lone (b.atR a (.code (.rangeFunc g ps assign body) :: k)) cs w) (lone (b.atR { a with defers:=[{ target := .collected w.heap.size,args := #[]}]++a.defers} ((I.pending.map Item.code).toList++k)) cs w4) /\
       Ac M3 X ⟨st.tm,H'.put ⟨dep,nt,st.hp.gen dep nt,0⟩ none⟩ nt { a with defers:=[{ target := .collected w.heap.size,args := #[]}]++a.defers} w4/\uh M ι st.hp.get w M3 X (H'.put ⟨dep,nt,st.hp.gen dep nt,0⟩ none).get w4 /\
       si w w4 [w.heap.size]:=by
       intro m inf A hm
       obtain⟨_,_,_,_,_,I,_,g1,_,_,_,_,_,g7,_,g9⟩:=A9 hS3 hD3 hr3 A
       obtain⟨k1,k2,k3⟩:=g9 { I with state := .exhausted}
       have hnb:I.state ≠ .busy:=by
        match m,hm with
        | 0,_=>rw[g7.1];simp
        | 1,hm=>exact absurd rfl hm
        | 2,_=>rw[g7.1];simp
        | m+3,_=>rw[g7.1];simp
       refine⟨I,_,g7,Steps.trans hs1 (.one (stepR_endRangeFunc (run_endLoop g1 hnb))),⟨k1,k3,⟨λt=>(G.tr.mono hF13.mem hF13.map).at_ t⟩,G.nt⟩,hF13.trans k2,⟨by simp,λD hD=>?_⟩⟩
       simp only[uP]at hD
       subst hD
       refine⟨dc _,?_⟩
       show(cd w3 (w.heap.size+1) _).heap[w.heap.size]?=_
       rw[eE (by omega)]
       exact hmk3
      split at h
      ·rename_i A
       obtain⟨I,w4,N,Q,V,Z,hM4⟩:=J A (by omega)
       rw[N.2]at Q
       exact E5.of_steps (rd:=none) (ds:=[w.heap.size]) (λ_ _=>Q) V.sim Z rfl hM4 (ih none nt dep k _ F h O M3 X _ w4 V b cs) u
      ·rename_i A
       obtain⟨I,w4,N,Q,V,Z,hM4⟩:=J A (by omega)
       rw[N.2]at Q
       cases h
       intro _
       exact⟨_,w4,_,[w.heap.size],⟨M3,X,V,Z⟩,rfl,hM4,Steps.trans Q (.one (stepR_ret u))⟩
      ·rename_i id A
       obtain⟨I,w4,N,Q,V,Z,hM4⟩:=J A (by omega)
       rw[N.2]at Q
       split at h
       ·rename_i k' R
        exact E5.of_steps (rd:=none) (ds:=[w.heap.size]) (λ_ _=>Steps.trans Q (.one (stepR_exit R))) V.sim Z rfl hM4 (ih none nt dep k' _ F h (I9 R O) M3 X _ w4 V b cs) u
       ·cases h
      ·cases h
     ·cases h
    ·cases h
   ·cases h
  ·rename_i c k
   have U:codeOk ok c=true:=hi _ (jn ..)
   have O : ∀i∈k,ow ok i=true:=λi h=>hi i (il _ h)
   refine Y _ h ?_ (.one stepR_inLoop)
   intro i p
   rcases m6.1 p with rfl | p
   ·exact U
   ·rcases m6.1 p with rfl | p
    ·exact U
    ·exact O i p
  ·rename_i id k
   exact Y k h (λi h=>hi i (il _ h)) (.one stepR_inBlock)
  ·rename_i id k
   exact Y k h (λi h=>hi i (il _ h)) (.one (step_lone_go (by simp[stepG,stepG.exec,Frame.atR])))
  ·cases h
theorem Qo{E:Env}{ok:Array Oper->Bool}(b:E.Ok ok){n:Nat}{f:FuncId}{args:List AV}{y:AV}(h:bG E (bR E n) f args=some y):cW E.P f args y:=EA b (Zo b n) h
end Go.Ab
