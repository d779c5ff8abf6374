/-
  Maps of the abstract machine against the model's. No statement of a seat is proved here.
  Calls of the abstract machine, and one operation of it, against the model's. No statement of a seat is proved here.
  A call that shares the heap and leaves it as it was. No statement of a seat is proved here.
  One operation of the abstract machine against the model's. No statement of a seat is proved here.
  The abstract machine against the model's. No statement of a seat is proved here.
  The abstract machine against the model's: the theorem. No statement of a seat is proved here.
  The abstract machine against the model's: the theorem. No statement of a seat is proved here.
-/
import Derived.Conc.LoneCalls
import Derived.Test.YtdbiffjdomokfaaGreatAbsOps
set_option linter.unusedVariables false
set_option linter.unusedSimpArgs false
set_option linter.unusedSectionVars false
set_option linter.unnecessarySimpa false
namespace Go.Ab
theorem bK{α c:Type}{P:Program}(s:Sem α)(f:α->Sem c):bj P (s >>= f)=(bj P s).bind λa=>bj P (f a):=by
 induction s with
 | pure a=>rfl
 | program k b=>exact b P
 | mark m k b=>exact b
 | _=>rfl
theorem yV{α:Type}{P:Program}(a:α):bj P (pure a:Sem α)=some a:=rfl
def dummy(es:List MapEntry):List MapEntry:=es.map λe=>⟨e.key,Go.undef,0⟩
theorem HW{d:TypeDesc}{k:Value} : ∀(es:List MapEntry)(i:Nat),(Instr.findNow d k es i=none↔Instr.findNow d k (dummy es) i=none)/\(Instr.findNow d k es i=some none↔Instr.findNow d k (dummy es) i=some none) /\
 ∀j v,Instr.findNow d k (dummy es) i=some (some (j,v))->i<=j /\∃e,es[j - i]?=some e/\Instr.findNow d k es i=some (some (j,e.val)):=by
 intro es
 induction es with
 | nil=>intro i;simp[dummy,Instr.findNow]
 | cons e es f=>
  intro i
  obtain⟨p,q,n⟩:=f (i+1)
  simp only[dummy,p6,Instr.findNow]
  cases u:Instr.sameNow d k e.key with
  | none=>simp
  | some b=>
   cases b with
   | true=>
    refine⟨by simp,by simp,λj v h=>?_⟩
    simp only[dR,xk]at h
    obtain⟨rfl,_⟩:=h
    exact⟨bD _,e,by simp,rfl⟩
   | false=>
    refine⟨p,q,λj v h=>?_⟩
    obtain⟨x,c,m,t⟩:=n j v h
    refine⟨by omega,c,?_,t⟩
    rw[show j - i=(j - (i+1))+1 by omega]
    simpa using m
theorem D2{P:Program}{d:TypeId}{k:Value} : ∀(es:List MapEntry)(i:Nat)(o:Option (Nat × Value)),bj P (Instr.findAsking d k (dummy es) i)=some o ->∀w:World,
 (o=none->(Instr.findAsking d k es i).run P w = .ok none w) /\∀j v,o=some (j,v)->i<=j /\∃e,es[j - i]?=some e/\(Instr.findAsking d k es i).run P w = .ok (some (j,e.val)) w:=by
 intro es
 induction es with
 | nil=>
  intro i o h w
  simp only[dummy,Jo,Instr.findAsking,yV,dR]at h
  subst h
  exact⟨λ_=>rfl,λj v e=>by cases e⟩
 | cons e es t=>
  intro i o h w
  simp only[dummy,p6,Instr.findAsking]at h
  rw[bK]at h
  obtain⟨b,n,h⟩:=gE.1 h
  have f:=n7 n w
  cases b with
  | true=>
   simp only[if_true,yV,dR]at h
   subst h
   refine⟨λe=>by (cases e),λj v c=>?_⟩
   cases c
   exact⟨bD _,e,by simp,by simp[Instr.findAsking,f]⟩
  | false=>
   simp only[jH,if_false]at h
   obtain⟨p,q⟩:=t (i+1) o h w
   refine⟨λc=>by simp[Instr.findAsking,f,p c],λj v c=>?_⟩
   obtain⟨y,m,u,x⟩:=q j v c
   refine⟨by omega,m,?_,by simp[Instr.findAsking,f,x]⟩
   rw[show j - i=(j - (i+1))+1 by omega]
   simpa using u
theorem sK{P:Program}{c:Bool}{n:TypeId}{k:Value}{es:List MapEntry}{o:Option Nat}(h:yY P c n k (es.map (·.key))=some o)(w:World) :
 (Instr.checkKey c 10000 n k).run P w = .ok () w/\(o=none->(Instr.findKey n k es).run P w = .ok none w) /\∀j,o=some j ->∃e,es[j]?=some e/\(Instr.findKey n k es).run P w = .ok (some (j,e.val)) w:=by
 unfold yY at h
 split at h
 ·rename_i C
  obtain⟨o',b,e⟩:=bO.1 h
  have v:(es.map (·.key)).map (λx=>(⟨x,Go.undef,0⟩:MapEntry))=dummy es:=by simp[dummy,Function.comp_def]
  rw[v]at b
  unfold Instr.findKey at b
  rw[bK]at b
  obtain⟨d,B,b⟩:=gE.1 b
  have f:=n7 B w
  refine⟨n7 C w,?_⟩
  obtain⟨y,z,F⟩:=HW (d:=d) (k:=k) es 0
  cases m:Instr.findNow d k (dummy es) 0 with
  | some r=>
   rw[m]at b
   simp only[yV,dR]at b
   subst b
   cases r with
   | none=>
    simp only[Ek]at e
    subst e
    refine⟨λ_=>?_,λj e=>?_⟩
    ·simp[Instr.findKey,f,z.2 m]
    ·cases e
   | some p=>
    obtain⟨j0,v0⟩:=p
    simp only[Option.map_some]at e
    subst e
    refine⟨λe=>(by cases e),λj e=>?_⟩
    cases e
    obtain⟨_,q,t,G⟩:=F j0 v0 m
    exact⟨q,by simpa using t,by simp[Instr.findKey,f,G]⟩
  | none=>
   rw[m]at b
   simp only at b
   obtain⟨A,t⟩:=D2 es 0 o' b w
   have i:=y.2 m
   cases o' with
   | none=>
    simp only[Ek]at e
    subst e
    refine⟨λ_=>?_,λj e=>?_⟩
    ·simp[Instr.findKey,f,i,A rfl]
    ·cases e
   | some p=>
    obtain⟨j0,v0⟩:=p
    simp only[Option.map_some]at e
    subst e
    refine⟨λe=>(by cases e),λj e=>?_⟩
    cases e
    obtain⟨_,q,u,D⟩:=t j0 v0 rfl
    exact⟨q,by simpa using u,by simp[Instr.findKey,f,i,D]⟩
 ·cases h
theorem yO{P:Program}{t b et:TypeId}(h:HL P t=some (b,et)):P.underlying t=some (.map b et):=by
 unfold HL at h
 split at h
 ·rename_i k e c;cases h;exact c
 ·cases h
section
variable{P:Program}{M:Mem}{ι:Map}{g:db}{w:World}{r:Ref}
theorem A0(J:gA M ι g w){ents:List AV}(n:jO g r=some ents){l:Loc}(D:ι r=some l)(N:l.esz=0) :
 ∃a f c,g r=some ⟨0,.v (.bool true) :: ents,a,f⟩/\w.heap[l.b]?=some (.map c c.size)/\c.size=ents.length /\
  (∀(i:Nat) ent e,ents[i]?=some ent->c[i]?=some e ->∃t p,ent = .tup [t,p]/\gI t=some e.key/\VR M ι p e.val/\e.born=i) /\∀u,ents.mapM AB=some u->u=c.toList.map (·.key):=by
 unfold jO at n
 split at n
 ·rename_i es f B
  cases n
  obtain⟨R,m,F⟩:=J.live r _ B
  rw[D]at m;cases m
  rcases F.objOk rfl with ⟨_,_,_,_,_,_,_,_,_,d,_⟩ | ⟨x,c,O,Q,d,H,L,C⟩ | ⟨_,_,_,_,_,_,_,_,d,_⟩
  ·simp at d
  rotate_left
  ·simp at d
  ·simp only[zt,true_and]at d
   subst d
   refine⟨false,f,c,B,H,L,C,λu j=>?_⟩
   have K:=jM j
   apply Jv
   intro i
   rcases fe i c.size with q | q
   ·have h:i<ents.length:=by omega
    obtain⟨y,I,z⟩:=jN j i _ (eC h)
    obtain⟨t,p,G,A,_⟩:=C i _ c[i] (eC h) (jS q)
    rw[I]
    rw[G]at z
    simp only[AB]at z
    rw[z]at A
    cases A
    simp[jS q]
   ·rw[xp (by rw[K];omega),xp (by simp;omega)]
 ·cases n
theorem Ou(Z:gA M ι g w){t:TypeId}{x k y:AV}{R J:Value}(hx:VR M ι x R)(hk:VR M ι k J){ok:Bool}{T:List bA}(h:eT P g t (some x) (some k) ok=some (y,T)) :
 T=[] /\∃u,(Instr.lookup t R J ok).run P w = .ok u w/\VR M ι y u:=by
 have A : ∀ {v:AV} {u:Value} (b:Bool),VR M ι v u->VR M ι (if ok then .tup [v,.v (.bool b)] else v) (if ok then .tuple #[u,.bool b] else u):=by
  intro v u b j
  cases ok with
  | false=>exact j
  | true=>
   refine .tup (by simp) rfl λi c u' H q=>?_
   match i with
   | 0=>simp at H q;subst H;subst q;exact j
   | 1=>simp at H q;subst H;subst q;exact .v rfl
   | i+2=>simp at H
 unfold eT at h
 split at h
 ·rename_i kt et r' X V I N
  cases I
  cases hx with | mp W hz=>
  rename_i l
  have K:J=X:=by simpa using uR hk (by simpa using N)
  subst K
  split at h
  ·rename_i ents hm
   obtain⟨a,f,entries,hg,U,hsz,D,O⟩:=A0 Z hm W hz
   split at h
   ·rename_i S G
    have d:=O S G
    have m:entries.isEmpty=S.isEmpty:=by rw[d];simp
    split at h
    ·rename_i i F
     rw[d]at F
     obtain⟨v,j,h⟩:=bO.1 h
     cases h
     obtain⟨B,_,h3⟩:=sK F w
     obtain⟨e,he,C⟩:=h3 i rfl
     obtain⟨Q,n,j⟩:=gE.1 j
     obtain⟨ka,va,Y,e2,e3⟩:=D i Q e n (by simpa using he)
     subst Y
     simp only[G9,dR]at j
     subst j
     refine⟨rfl,_,?_,A true e3.1⟩
     rw[<-d,<-m]at B
     have p:(getObj l.b).run P w = .ok (.map entries entries.size) w:=by simp[getObj,Sem.run,U]
     simp only[Instr.lookup,Sem.run_bind,Sem.run_pure,bu (yO V),Result.andThen_ok,p,B,C]
    ·rename_i F
     rw[d]at F
     obtain⟨z,L,h⟩:=bO.1 h
     cases h
     obtain⟨B,h2,_⟩:=sK F w
     obtain⟨u,q,j⟩:=xO L w
     refine⟨rfl,_,?_,A false (jC j)⟩
     rw[<-d,<-m]at B
     have p:(getObj l.b).run P w = .ok (.map entries entries.size) w:=by simp[getObj,Sem.run,U]
     simp only[Instr.lookup,Sem.run_bind,Sem.run_pure,bu (yO V),Result.andThen_ok,p,B,h2 rfl,q]
    ·cases h
   ·cases h
  ·cases h
 ·cases h
theorem Ov(B:gA M ι g w){m:Array TypeId}{ty:TypeId}{r':Ref}{x:AV}{j:Value}(A:VR M ι (.mp r') j){n:List bA}(h:vZ P g m[0]? r'=some (x,n)) :
 n=[] /\∃u,(Builtin.len_ m ty #[j]).run P w = .ok u w/\VR M ι x u:=by
 unfold vZ at h
 split at h
 ·rename_i p ents e C
  obtain⟨t,e,d⟩:=gE.1 e
  cases h
  cases A with | mp q y=>
  rename_i l
  obtain⟨a,f,entries,D,z,i,_,_⟩:=A0 B C q y
  have c:(getObj l.b).run P w = .ok (.map entries entries.size) w:=by simp[getObj,Sem.run,z]
  refine⟨rfl,goInt entries.size,by simp[Builtin.len_,e,bu (yO d),c],?_⟩
  rw[<-i]
  exact .v rfl
 ·cases h
theorem IT(p:gA M ι g w)(O:ι r=none){w':World}{o:Obj}(i:Ef w w' o){k:bA}(A:m8 M (iU ι r ⟨w.heap.size,0,0⟩) w' ⟨w.heap.size,0,0⟩ k) :
 gA M (iU ι r ⟨w.heap.size,0,0⟩) (ku g r k) w'/\tA M ι g w M (iU ι r ⟨w.heap.size,0,0⟩) (ku g r k) w':=by
 have d:=Co (l:=⟨w.heap.size,0,0⟩) O
 have n : ∀b o x,M b o=some x->b<w.heap.size:=λb o x h=>World.block_lt_of_cell? w ⟨b,o,none⟩ (p.mem b o x h)
 have one : ∀ {q:Ref} {k' c},ku g r k q=some k'->iU ι r ⟨w.heap.size,0,0⟩ q=some c->(q=r/\c.b=w.heap.size)\/(q≠r/\g q=some k'/\ι q=some c/\c.b<w.heap.size):=by
  intro q k' c h j
  unfold ku at h
  unfold iU at j
  split at h
  ·rename_i e;rw[if_pos e]at j;cases j;exact .inl ⟨e,rfl⟩
  ·rename_i e
   rw[if_neg e]at j
   obtain⟨D,t,z⟩:=p.live q k' h
   rw[j]at t;cases t
   exact .inr ⟨e,h,j,z.lt⟩
 refine⟨⟨λb o x h=>i.cell (p.mem b o x h),λq k' h=>?_,λq K I G c D v y L J Q=>?_⟩,⟨i.os,i.tape,i.output,by rw[i.heap];simp,λb F _=>i.old b F,λ_ _ _ h=>h,d,λq k' c v y=>?_,λ_ _ _ h => .inl h⟩⟩
 ·unfold ku at h
  split at h
  ·rename_i e
   subst e
   cases h
   exact⟨⟨w.heap.size,0,0⟩,by simp[iU],A.Sg rfl λo x N=>absurd (n _ _ _ N) (Bd _)⟩
  ·obtain⟨c,B,f⟩:=p.live q k' h
   exact⟨c,d q c B,f.cz (λ_ _ _ h=>h) d (i.old _ f.lt) f.frozen⟩
 ·rcases one v L with ⟨u,m⟩ | ⟨u,m,C,H⟩<;>rcases one y J with ⟨f1,f2⟩ | ⟨f1,f2,f3,f4⟩
  ·rw[u,f1]
  ·omega
  ·omega
  ·exact p.inj q K I G c D m f2 C f3 Q
 ·rcases one v y with ⟨u,m⟩ | ⟨u,m,C,H⟩
  ·exact .inl (by omega)
  ·exact .inr ⟨q,k',c,m,C,rfl⟩
theorem LN(m:gA M ι g w)(d:r.k=0)(v:ι r=none)(t:TypeId) :
 ∃u w',(Instr.makeMap t none).run P w = .ok u w'/\jq M ι g w r (.mp r) [bn []] u w':=by
 have b:Ef w (w.alloc (.map #[] 0)) (.map #[] 0):=⟨rfl,rfl,rfl,rfl⟩
 obtain⟨n,p⟩:=IT m v b (k:=bn []) (.inr (.inl ⟨[], #[],rfl,rfl,rfl,by rw[b.heap];simp,rfl,λi j e h=>by simp at h⟩))
 refine⟨.map (some w.heap.size),w.alloc (.map #[] 0),by simp[Instr.makeMap,run_newObj_alloc],M,iU ι r ⟨w.heap.size,0,0⟩,.mp (l:=⟨w.heap.size,0,0⟩) (by simp[iU]) rfl,by rw[pB _ _ d];exact n,by rw[pB _ _ d];exact p,?_⟩
 intro q c f
 have:q≠r:=by intro e;exact f 0 (by simp) (by rw[e];cases r;simp_all)
 simpa [iU,this] using c
theorem tl{H:ai}{l:Loc}{k:bA}(n:gA M ι H.get w)(S:tB ι H)(z:ι r=some l)(L:l.esz=0)(t:H.get r=some k){k':bA}{o':Obj}(J:m8 M ι (bQ w l.b o') l k') :
 gA M ι (H.put r (some k')).get (bQ w l.b o')/\tA M ι H.get w M ι (H.put r (some k')).get (bQ w l.b o')/\tB ι (H.put r (some k')):=by
 obtain⟨Z,y,N⟩:=n.live r _ t
 rw[z]at y;cases y
 have K:k.esz=0:=by rw[<-N.esz];exact L
 have O : ∀o x,M l.b o=some x->False:=by
  intro o x A
  have:=n.mem _ _ _ A
  rcases(N.objOk K).obj with ⟨_,i⟩ | ⟨_,_,i⟩ | ⟨_,_,_,_,_,_,i⟩
  ·simp[World.cell?,i]at this
  ·simp[World.cell?,i]at this
  ·simp[World.cell?,i]at this
 have c : ∀q f,(H.put r (some k')).get q=some f ->∃p,H.get q=some p:=by
  intro q f d
  rw[ai.get_put]at d
  split at d
  ·rename_i e;exact⟨_,e ▸ t⟩
  ·exact⟨f,d⟩
 refine⟨⟨λb o x A=>?_,λq f d=>?_,λq Q f R j T F G X i Y=>?_⟩,⟨rfl,rfl,rfl,by simp[bQ],λb _ B=>eE (B r _ l t z),λ_ _ _ h=>h,λ_ _ h=>h,λq f j F G=>?_,λ_ _ _ h => .inl h⟩,λq V d=>?_⟩
 ·have C:l.b≠b:=λe=>O o x (e ▸ A)
  rw[World.cell?_of_block (w:=w) (eE C)]
  exact n.mem b o x A
 ·by_cases m:q=r
  ·subst m
   rw[ai.get_put,if_pos rfl]at d
   cases d
   exact⟨l,z,J.Sg L O⟩
  ·rw[ai.get_put,if_neg m]at d
   obtain⟨j,v,u⟩:=n.live q f d
   have D:l.b≠j.b:=λe=>m (n.inj q r f _ j l d t v z e.symm)
   exact⟨j,v,u.cz (λ_ _ _ h=>h) (λ_ _ h=>h) (eE D) u.frozen⟩
 ·obtain⟨p,I⟩:=c q f F
  obtain⟨U,W⟩:=c Q R G
  exact n.inj q Q p U j T I W X i Y
 ·obtain⟨p,I⟩:=c q f F
  exact .inr ⟨q,p,j,I,G,rfl⟩
 ·rw[ai.mO _ _ _ (by rw[t];rfl)]
  exact S q V d
theorem HA{H:ai}(T:gA M ι H.get w)(hD:tB ι H){t:TypeId}{m k x y:AV}{um q G:Value}(hm:VR M ι m um)(hk:VR M ι k q)(hx:VR M ι x G){H':ai}(h:dM P H t (some m) (some k) (some x)=some (y,H')) :
 ∃w',(Instr.mapUpdate t um q G).run P w = .ok () w'/\vj M ι H w y H' undef w':=by
 unfold dM at h
 split at h
 ·rename_i kt et r' k' x' ht I e2 e3
  cases I;cases e2;cases e3
  cases hm with | mp R V=>
  rename_i l
  split at h
  ·rename_i kv ents F hma
   have X:q=kv:=uR hk F
   subst X
   obtain⟨a,f,entries,hg,U,B,p,hks⟩:=A0 T hma R V
   have O:l.b<w.heap.size:=(ij.1 U).1
   have N:(getObj l.b).run P w = .ok (.map entries entries.size) w:=by simp[getObj,Sem.run,U]
   have Q : ∀o,(setObj l.b o).run P w = .ok () (bQ w l.b o):=by intro o;simp[setObj,Sem.run,U,bQ]
   split at h
   ·rename_i ks L
    have n:=hks ks L
    split at h
    ·rename_i i K
     rw[n]at K
     obtain⟨Z,h⟩:=fa.1 h
     cases h
     obtain⟨S,_,h3⟩:=sK K w
     obtain⟨e,he,J⟩:=h3 i rfl
     have u:entries[i]?=some e:=by simpa using he
     have hil:i<entries.size:=(ij.1 u).1
     have Y:Instr.sameBits 10000 e.key q=true:=by
      rw[n]at Z
      simp only[oM,Io,u,Option.map_some,dR]at Z
      exact Z
     have A:(Instr.keyThatStays (((entries[i]?).map (·.key)).getD q) q).run P w = .ok q w:=by
      rw[u]
      simp[Instr.keyThatStays,Y]
     refine⟨bQ w l.b (.map (entries.modify i λe => { e with key:=q,val:=G}) entries.size),by simp only[Instr.mapUpdate,Sem.run_bind,bu (yO ht),Result.andThen_ok,N,S,J,A,Q],M,ι,.v rfl,?_⟩
     refine tl T hD R V hg (.inr (.inl ⟨ents.set i (.tup [k,x]),entries.modify i λe => { e with key:=q,val:=G},rfl,rfl,rfl,?_,by simp[B],λj D I d c=>?_⟩))
     ·rw[eV O];simp
     ·rw[KQ]at c
      by_cases C:i=j
      ·subst C
       rw[if_pos rfl,u]at c
       simp only[Option.map_some,dR]at c
       subst c
       rw[KR (by omega)]at d
       cases d
       obtain⟨_,_,_,_,_,hb⟩:=p i _ e (eC (by omega)) u
       exact⟨k,x,rfl,F,hx,hb⟩
      ·rw[if_neg C]at c
       rw[FK C]at d
       exact p j D I d c
    ·rename_i K
     rw[n]at K
     cases h
     obtain⟨S,h2,_⟩:=sK K w
     refine⟨bQ w l.b (.map (entries.push { key:=q,val:=G,born:=entries.size}) (entries.size+1)),by simp only[Instr.mapUpdate,Sem.run_bind,bu (yO ht),Result.andThen_ok,N,S,h2 rfl,Q],M,ι,.v rfl,?_⟩
     refine tl T hD R V hg (.inr (.inl ⟨ents++[.tup [k,x]],entries.push { key:=q,val:=G,born:=entries.size},rfl,rfl,rfl,?_,by simp[B],λj D I d c=>?_⟩))
     ·rw[eV O];simp
     ·rcases fe j entries.size with z | hge
      ·rw[En z,<-jS z]at c
       rw[nN (by omega)]at d
       exact p j D I d c
      ·rw[o5 (by omega)]at d
       have W:j=entries.size:=by
        have:=(iG.1 d).1
        simp at this
        omega
       subst W
       simp only[B,Nat.sub_self,NL,dR]at d
       subst d
       simp at c
       subst c
       exact⟨k,x,rfl,F,hx,rfl⟩
    ·cases h
   ·cases h
  ·cases h
 ·cases h
theorem JH{H:ai}(hS:gA M ι H.get w)(hD:tB ι H){t:TypeId}{m k y:AV}{um C:Value}(hm:VR M ι m um)(hk:VR M ι k C){H':ai}(h:iH P H t (some m) (some k)=some (y,H')) :
 ∃u w',(Instr.mapEntry t um C).run P w = .ok u w'/\vj M ι H w y H' u w':=by
 have two : ∀ {v:AV} {u:Value} (n:Nat),VR M ι v u->VR M ι (.tup [v,.v (.int .i64 n)]) (.tuple #[u,goInt n]):=by
  intro v u n F
  refine .tup (by simp) rfl λi c u' I R=>?_
  match i with
  | 0=>simp at I R;subst I;subst R;exact F
  | 1=>simp at I R;subst I;subst R;exact .v rfl
  | i+2=>simp at I
 unfold iH at h
 split at h
 ·rename_i kt et r' k' ht S e2
  cases S;cases e2
  cases hm with | mp Z hz=>
  rename_i l
  split at h
  ·rename_i kv ents Q hma
   have huk:C=kv:=uR hk Q
   subst huk
   obtain⟨a,f,entries,hg,hh,G,B,hks⟩:=A0 hS hma Z hz
   have X:l.b<w.heap.size:=(ij.1 hh).1
   have W:(getObj l.b).run P w = .ok (.map entries entries.size) w:=by simp[getObj,Sem.run,hh]
   have Y : ∀o,(setObj l.b o).run P w = .ok () (bQ w l.b o):=by intro o;simp[setObj,Sem.run,hh,bQ]
   split at h
   ·rename_i ks V
    have A:=hks ks V
    split at h
    ·rename_i i U
     rw[A]at U
     obtain⟨I,h⟩:=fa.1 h
     obtain⟨v,F,h⟩:=bO.1 h
     cases h
     obtain⟨h1,_,h3⟩:=sK U w
     obtain⟨e,he,T⟩:=h3 i rfl
     have p:entries[i]?=some e:=by simpa using he
     have hil:i<entries.size:=(ij.1 p).1
     have hsb:Instr.sameBits 10000 e.key C=true:=by
      rw[A]at I
      simp only[oM,Io,p,Option.map_some,dR]at I
      exact I
     have N:(Instr.keyThatStays (((entries[i]?).map (·.key)).getD C) C).run P w = .ok C w:=by
      rw[p]
      simp[Instr.keyThatStays,hsb]
     obtain⟨D,K,F⟩:=gE.1 F
     obtain⟨ka,va,q1,q2,q3,q4⟩:=B i D e K p
     subst q1
     simp only[G9,dR]at F
     subst F
     refine⟨.tuple #[e.val,goInt i],bQ w l.b (.map (entries.modify i λe => { e with key:=C}) entries.size),?_,M,ι,two i q3,?_⟩
     ·have L:(Option.map (λx:MapEntry=>(x.born:Int)) entries[i]?).getD 0=(i:Int):=by rw[p];simp[q4]
      simp only[Instr.mapEntry,Sem.run_bind,Sem.run_pure,bu (yO ht),Result.andThen_ok,W,h1,T,N,Y,L]
     refine tl hS hD Z hz hg (.inr (.inl ⟨ents.set i (.tup [k,va]),entries.modify i λe => { e with key:=C},rfl,rfl,rfl,?_,by simp[G],λj D S q d=>?_⟩))
     ·rw[eV X];simp
     ·rw[KQ]at d
      by_cases O:i=j
      ·subst O
       rw[if_pos rfl,p]at d
       simp only[Option.map_some,dR]at d
       subst d
       rw[KR (by omega)]at q
       cases q
       exact⟨k,va,rfl,Q,q3,q4⟩
      ·rw[if_neg O]at d
       rw[FK O]at q
       exact B j D S q d
    ·rename_i U
     rw[A]at U
     obtain⟨z,hzz,h⟩:=bO.1 h
     cases h
     obtain⟨h1,h2,_⟩:=sK U w
     obtain⟨uz,R,F⟩:=xO hzz w
     refine⟨.tuple #[uz,goInt ents.length],bQ w l.b (.map (entries.push { key:=C,val:=uz,born:=entries.size}) (entries.size+1)),?_,M,ι,two ents.length (jC F),?_⟩
     ·simp only[Instr.mapEntry,Sem.run_bind,Sem.run_pure,bu (yO ht),Result.andThen_ok,W,h1,h2 rfl,R,Y,G]
     refine tl hS hD Z hz hg (.inr (.inl ⟨ents++[.tup [k,z]],entries.push { key:=C,val:=uz,born:=entries.size},rfl,rfl,rfl,?_,by simp[G],λj D S q d=>?_⟩))
     ·rw[eV X];simp
     ·rcases fe j entries.size with J | hge
      ·rw[En J,<-jS J]at d
       rw[nN (by omega)]at q
       exact B j D S q d
      ·rw[o5 (by omega)]at q
       have hj0:j=entries.size:=by
        have:=(iG.1 q).1
        simp at this
        omega
       subst hj0
       simp only[G,Nat.sub_self,NL,dR]at q
       subst q
       simp at d
       subst d
       exact⟨k,z,rfl,Q,jC F,rfl⟩
    ·cases h
   ·cases h
  ·cases h
 ·cases h
theorem FP{H:ai}(Q:gA M ι H.get w)(U:tB ι H){t:TypeId}{m s x y:AV}{O us z:Value}(W:VR M ι m O)(S:VR M ι s us)(hx:VR M ι x z){H':ai}(h:fD H (some m) (some s) (some x)=some (y,H')) :
 ∃w',(Instr.entryStore t O us z).run P w = .ok () w'/\vj M ι H w y H' undef w':=by
 unfold fD at h
 split at h
 ·rename_i r' kd n x' A T e3
  cases A;cases T;cases e3
  cases W with | mp L R=>
  rename_i l
  cases S
  split at h
  ·rename_i ents I
   obtain⟨hn,h⟩:=fa.1 h
   split at h
   ·rename_i N va u
    cases h
    obtain⟨a,f,entries,Y,C,G,d,_⟩:=A0 Q I L R
    have F:l.b<w.heap.size:=(ij.1 C).1
    have D:(getObj l.b).run P w = .ok (.map entries entries.size) w:=by simp[getObj,Sem.run,C]
    have J : ∀o,(setObj l.b o).run P w = .ok () (bQ w l.b o):=by intro o;simp[setObj,Sem.run,C,bQ]
    have i:n.toNat<entries.size:=by have:=(iG.1 u).1;omega
    have born : ∀j (p:j<entries.size),entries[j].born=j:=by
     intro j p
     obtain⟨_,_,_,_,_,X⟩:=d j _ entries[j] (eC (by omega)) (jS p)
     exact X
    have B:entries.findIdx? (λe=>(e.born:Int) == n)=some n.toNat:=by
     rw[Array.findIdx?_eq_some_iff_getElem]
     refine⟨i,?_,λj p=>?_⟩
     ·rw[born _ i];simp;omega
     ·rw[born j (by omega)];simp;omega
    obtain⟨ka',va',Z,V,q3,q4⟩:=d n.toNat _ entries[n.toNat] u (jS i)
    cases Z
    refine⟨bQ w l.b (.map (entries.modify n.toNat λe => { e with val:=z}) entries.size),?_,M,ι,.v rfl,?_⟩
    ·simp only[Instr.entryStore,Sem.run_bind,Sem.run_pure,Result.andThen_ok,D,asInt,asIntOf,B,J]
    refine tl Q U L R Y (.inr (.inl ⟨ents.set n.toNat (.tup [N,x]),entries.modify n.toNat λe => { e with val:=z},rfl,rfl,rfl,?_,by simp[G],λj K A p c=>?_⟩))
    ·rw[eV F];simp
    ·rw[KQ]at c
     by_cases q:n.toNat=j
     ·subst q
      rw[if_pos rfl,jS i]at c
      simp only[Option.map_some,dR]at c
      subst c
      rw[KR (by omega)]at p
      cases p
      exact⟨N,x,rfl,V,hx,q4⟩
     ·rw[if_neg q]at c
      rw[FK q]at p
      exact d j K A p c
   ·cases h
  ·cases h
 ·cases h
theorem Hf{g:db}{r:Ref}{cap:Nat}{c:Bool}{buf:List AV}(h:O9 g r=some (cap,c,buf)) :
 ∃n f,g r=some ⟨0,.v (.bool false) :: .v (.int .i64 n) :: .v (.bool c) :: buf,false,f⟩/\n.toNat=cap:=by
 unfold O9 at h
 split at h
 ·rename_i n d b f e
  cases h
  exact⟨n,f,e,rfl⟩
 ·cases h
theorem Fa(C:gA M ι g w){r:Ref}{l:Loc}(p:ι r=some l){cap:Nat}{j:Bool}{buf:List AV}(h:O9 g r=some (cap,j,buf)) :
 ∃s t arr,w.heap[l.b]?=some (.chan cap arr j s t false)/\arr.size=buf.length /\∀(i:Nat) x u,buf[i]?=some x->arr[i]?=some u->VR M ι x u:=by
 obtain⟨n,f,z,J⟩:=Hf h
 obtain⟨I,e,y⟩:=C.live r _ z
 rw[p]at e;cases e
 rcases y.objOk rfl with ⟨_,_,_,_,_,_,_,_,_,d,_⟩ | ⟨_,_,_,_,d,_⟩ | ⟨c,s,t,A,m,arr,_,_,d,B,G,F⟩
 ·simp at d
 ·simp at d
 ·simp only[zt,AV.v.injEq,Value.int.injEq,Value.bool.injEq,true_and]at d
  obtain⟨H,q,D⟩:=d
  subst q D
  have:c=cap:=by omega
  subst this
  exact⟨s,t,arr,B,G,F⟩
theorem J9(H:gA M ι g w)(v:r.k=0)(I:ι r=none){t e:TypeId}{b:Nat}(f:Gf P t=some e)(y:nY P e=some b)(k:IntKind)(n:Nat)(G:n<=1000000)(m:b<=1000000) :
 ∃u w',(Instr.makeChan t (.int k n)).run P w = .ok u w'/\jq M ι g w r (.ch r) [jm n false []] u w':=by
 unfold Gf at f
 split at f
 ·rename_i A K D
  cases f
  unfold nY at y
  obtain⟨i,B,p⟩:=bO.1 y
  have c:Ef w (w.alloc (.chan n #[] false 0 0 false)) (.chan n #[] false 0 0 false):=⟨rfl,rfl,rfl,rfl⟩
  obtain⟨z,C⟩:=IT H I c (k:=jm n false []) (.inr (.inr ⟨n,0,0,false,[], #[],rfl,rfl,rfl,by rw[c.heap];simp,rfl,λi x u h=>by simp at h⟩))
  have d:(i.bytes:Int) * n<=281474976710544:=by
   have J:i.bytes * n<=1000000 * 1000000:=Nat.mul_le_mul (p ▸ m) G
   have z:((i.bytes * n:Nat):Int)=(i.bytes:Int) * n:=by simp
   omega
  refine⟨_,_,Go.Conc.run_makeChan D B k n (by omega) d,M,iU ι r ⟨w.heap.size,0,0⟩,.ch (l:=⟨w.heap.size,0,0⟩) (by simp[iU]) rfl,by rw[pB _ _ v];exact z,by rw[pB _ _ v];exact C,?_⟩
  intro q j F
  have:q≠r:=by intro e;exact F 0 (by simp) (by rw[e];cases r;simp_all)
  simpa [iU,this] using j
 ·cases f
theorem Gm(w:World)(c cap:Nat)(buf:Array Value)(b:Bool)(s r:Nat):w.setChan c cap buf b s r false=bQ w c (.chan cap buf b s r false):=rfl
def Hu(P:Program)(o:Oper)(a:Act)(w:World)(S:Value->World->Prop):Prop:=
 ∀(b:Frame)(k:List Item)(cs:List Frame)(ops:Array Oper)(i:Nat)(rest:List Nat),b.kind = .normal->ops[i]?=some o->Region.wanted o (yielded ops a.tmps)=true ->
  ∃u w',S u w'/\step P (lone (b.atR a (.inRegion ops (i :: rest) :: k)) cs w) = .next (lone (b.atR (a.put o.dst u) (.inRegion ops rest :: k)) cs w')
theorem Ad{P:Program}{b:Frame}{a:Act}{k:List Item}{cs:List Frame}{w w':World}{ops:Array Oper}{i:Nat}{rest:List Nat}{o:Oper}{cases:Array CommCase}{shape:CommShape}(j:b.kind = .normal)(n:ops[i]?=some o)
 (m:Region.wanted o (yielded ops a.tmps)=true) (h : ∀c,o.op ≠ .defer c) (f:(execOp a.eval o).run P w = .ok (.comm cases true shape) w') :
 ∃es,stepG P true (Go.Conc.G (b.atR a (.inRegion ops (i :: rest) :: k)) cs) w = .comm (Go.Conc.G (b.atR a (.inRegion ops (i :: rest) :: k)) cs) cases true shape w' es:=by
 have e:=stepGR_op (P:=P) (b:=b) (k:=k) (cs:=cs) (w:=w) (rest:=rest) n m
 rw[Oper.semAt_eq _ _ _ h]at e
 unfold Go.Conc.G
 rw[e]
 have d:(b.kind == CallKind.early)=false:=by rw[j];rfl
 refine⟨Go.Conc.listed P b.fn a o w,?_⟩
 simp[stepG.apply,f,Frame.atR,d,GStep.after,Go.Conc.listed]
theorem Sy{P:Program}{o:Oper}{a:Act}{H:ai}(N:gA M ι H.get w)(U:tB ι H){F e:Operand}(q:o.op = .send F e){c x y:AV}{H':ai}(Q:VR M ι c (a.eval F))(hx:VR M ι x (a.eval e))
 (h:Bj H (some c) (some x)=some (y,H')):Hu P o a w λu w'=>vj M ι H w y H' u w':=by
 unfold Bj at h
 split at h
 ·rename_i r x' T S
  cases T;cases S
  split at h
  ·rename_i cap buf p
   obtain⟨⟨hlt,V⟩,h⟩:=fa.1 h
   cases h
   generalize C:a.eval F=cv at Q
   cases Q with | @ch _ _ l L X=>
   obtain⟨s,t,arr,O,K,J⟩:=Fa N L p
   obtain⟨n,f,hg,_⟩:=Hf p
   have Y:l.b<w.heap.size:=(ij.1 O).1
   intro b k cs ops i rest hk R W
   obtain⟨es,D⟩:=Ad (P:=P) (b:=b) (a:=a) (k:=k) (cs:=cs) (w:=w) (w':=w) (rest:=rest) (cases := #[Go.Conc.scase l.b (a.eval e) (.tuple #[])]) (shape := .send) hk R W (by simp[q]) (by simp[execOp,q,Go.Conc.scase,C])
   have A:=Go.Conc.step_lone_send_room D O (by omega)
   obtain⟨k1,Z,k3⟩:=tl N U L X hg (k':=jm cap false (buf++[x])) (o' := .chan cap (arr.push (a.eval e)) false (s+1) t false)
    (.inr (.inr ⟨cap,s+1,t,false,buf++[x],arr.push (a.eval e),rfl,rfl,rfl,eV Y,by simp[K],λj z u d m=>by
     rcases fe j buf.length with B | B
     ·rw[nN B]at d
      rw[En (by omega)]at m
      exact J j z u d (by rw[<-m];exact jS (by omega))
     ·rw[o5 B]at d
      have I:j - buf.length=0:=by
       have:=(iG.1 d).1
       simp at this;omega
      rw[I]at d
      have G:j=arr.size:=by omega
      rw[G,Array.getElem?_push_size]at m
      simp at d m
      subst d m
      exact hx⟩))
   refine⟨undef,_,⟨M,ι,.v rfl,k1,Z,k3⟩,?_⟩
   rw[Go.Conc.lone_eq_solo,A,Frame.finish_atR,R,Go.Conc.lone_eq_solo,Gm]
   rfl
  ·cases h
 ·cases h
theorem P9{M:Mem}{ι:Map}{x:AV}{u:Value}(ok b:Bool)(h:VR M ι x u):VR M ι (aao ok x b) (Go.Conc.got ok u b):=by
 cases ok with
 | false=>exact h
 | true=>
  refine .tup (by simp) rfl λi c v d e=>?_
  match i with
  | 0=>simp at d e;subst d e;exact h
  | 1=>simp at d e;subst d e;exact .v rfl
  | i+2=>simp at d
theorem SA{P:Program}{o:Oper}{a:Act}{H:ai}(K:gA M ι H.get w)(Y:tB ι H){t:TypeId}{T:Operand}{ok:Bool}(D:o.op = .recv t T ok){c y:AV}{H':ai}(Z:VR M ι c (a.eval T))
 (h:zx P H t (some c) ok=some (y,H')):Hu P o a w λu w'=>vj M ι H w y H' u w':=by
 unfold zx at h
 split at h
 ·rename_i r z e1 B
  cases e1
  generalize O:a.eval T=cv at Z
  cases Z with | @ch _ _ l N hz=>
  obtain⟨e,he,I⟩:=gE.1 B
  unfold Gf at he
  split at he
  ·rename_i dir e' F
   cases he
   unfold eD at I
   obtain⟨v0,U,S⟩:=gE.1 I
   obtain⟨inf,hi,Q⟩:=gE.1 U
   have V:VR M ι z v0:=jC S
   have p:(execOp a.eval o).run P w = .ok (.comm #[Go.Conc.rcase l.b v0] true (.recv ok)) w:=by
    simp[execOp,D,Go.Conc.rcase,O,run_underlying F,zeroValue,typeInfo,hi,Q]
   split at h
   ·rename_i cap W x buf d
    cases h
    obtain⟨s,t',arr,L,m,C⟩:=Fa K N d
    obtain⟨n,f,hg,_⟩:=Hf d
    have hb:l.b<w.heap.size:=(ij.1 L).1
    have q:0<arr.size:=by rw[m];simp
    intro b k cs ops i rest X J R
    obtain⟨es,A⟩:=Ad (P:=P) (b:=b) (a:=a) (k:=k) (cs:=cs) (w:=w) (w':=w) (rest:=rest) X J R (by simp[D]) p
    have v:=Go.Conc.step_lone_recv_buf ok A L q
    obtain⟨k1,k2,k3⟩:=tl K Y N hz hg (k':=jm cap W buf) (o' := .chan cap (arr.extract 1 arr.size) W s (t'+1) false)
     (.inr (.inr ⟨cap,s,t'+1,W,buf,arr.extract 1 arr.size,rfl,rfl,rfl,eV hb,by simp[m],λj z u G F=>by
      refine C (j+1) z u (by simpa using G) ?_
      have hj:=(iG.1 G).1
      rw[Array.getElem?_extract]at F
      rw[Nat.add_comm j 1]
      split at F
      ·exact F
      ·cases F⟩))
    refine⟨_,_,⟨M,ι,P9 ok true (C 0 x (arr.getD 0 undef) rfl (by simp[Array.getD,q])),k1,k2,k3⟩,?_⟩
    rw[Go.Conc.lone_eq_solo,v,Frame.finish_atR,J,Go.Conc.lone_eq_solo,Gm]
    rfl
   ·rename_i cap d
    cases h
    obtain⟨s,t',arr,L,m,C⟩:=Fa K N d
    have ha:arr = #[]:=KT (by simpa using m)
    subst ha
    intro b k cs ops i rest X J R
    obtain⟨es,A⟩:=Ad (P:=P) (b:=b) (a:=a) (k:=k) (cs:=cs) (w:=w) (w':=w) (rest:=rest) X J R (by simp[D]) p
    have v:=Go.Conc.step_lone_recv_shut ok A L
    refine⟨_,_,⟨M,ι,P9 ok false V,K,tA.refl,Y⟩,?_⟩
    rw[Go.Conc.lone_eq_solo,v,Frame.finish_atR,J,Go.Conc.lone_eq_solo]
    rfl
   ·cases h
  ·cases he
 ·cases h
theorem PU{P:Program}{o:Oper}{a:Act}{w:World}{K:Act->World->Prop}{ops:Array Oper}{i:Nat}(x:ops[i]?=some o)(D:Region.wanted o (yielded ops a.tmps)=true)(b:Frame)
 (h:o.wpIn (FW b.roundOf) 0 P a w K (λ_ _ _=>False)) (rest:List Nat) (k:List Item) (cs:List Frame) :
 ∃B w',K B w'/\Steps P (lone (b.atR a (.inRegion ops (i :: rest) :: k)) cs w) (lone (b.atR B (.inRegion ops rest :: k)) cs w'):=by
 obtain⟨_,h⟩:=h
 have t:=stepGR_op (P:=P) (b:=b) (k:=k) (cs:=cs) (w:=w) (rest:=rest) x D
 have j : ∀v,(b.atR a (.inRegion ops (i :: rest) :: k)).finish v=b.atR (a.put o.dst v) (.inRegion ops rest :: k):=by
  intro v;rw[Frame.finish_atR,x];rfl
 have m : ∀n,(FW b.roundOf).room n:=λn _ h=>by simp[FW,Fence.wide]at h
 rw[show(FW b.roundOf).round=b.roundOf from rfl]at h
 unfold Oper.uponIn at h
 split at h
 ·rename_i v w' p
  refine⟨_,_,h,.one (step_lone_go ?_)⟩
  rw[t,<-j];simp[stepG.apply,p]
 ·rename_i w' p
  refine⟨_,_,h,.one (step_lone_go ?_)⟩
  rw[t,<-j];simp[stepG.apply,p]
 ·rename_i d w' p
  refine⟨_,_,h,.one (step_lone_go ?_)⟩
  have C:({ b.atR a (.inRegion ops (i :: rest) :: k)with defers:=d :: a.defers}:Frame).finish undef =
   b.atR ({ a with defers:=d :: a.defers}.put o.dst undef) (.inRegion ops rest :: k):=by
   have A:=Frame.finish_atR b { a with defers:=d :: a.defers} ops i rest k undef
   rw[x]at A;exact A
  rw[t];simp only[stepG.apply,Sem.runT_eq,p,GStep.bare_after]
  exact congrArg (λfr=>GStep.go { frame:=fr,callers:=cs,status := .running,dying:=none} w') C
 ·rename_i f args w' p
  obtain⟨_,G,h⟩:=h
  obtain⟨e,z,fr,q,u,_,F⟩:=h (b.atR a (.inRegion ops (i :: rest) :: k) :: cs) (m _)
  have c:step P (lone (b.atR a (.inRegion ops (i :: rest) :: k)) cs w) = .next (lone (Frame.enter P f args .normal) (b.atR a (.inRegion ops (i :: rest) :: k) :: cs) w'):=
   step_lone_go (by rw[t];simp[stepG.apply,p,Frame.atR])
  cases e with
  | returned v=>
   refine⟨_,_,q,Steps.trans (.one c) (Steps.trans (StepsIn.steps u) (.one ?_))⟩
   rw[<-j];exact step_leave_returned F
  | panicked chain=>exact q.elim
  | outgrown=>obtain⟨_,_,y⟩:=q;exact y.elim
 ·rename_i row args w' p
  obtain⟨_,h⟩:=h
  obtain⟨v,z,q,u⟩:=h (b.atR a (.inRegion ops (i :: rest) :: k)) cs (m _)
  have c:step P (lone (b.atR a (.inRegion ops (i :: rest) :: k)) cs w) = .next (lone (Frame.ofRow P row args .normal) (b.atR a (.inRegion ops (i :: rest) :: k) :: cs) w'):=
   step_lone_go (by rw[t];simp[stepG.apply,p,Frame.atR])
  refine⟨_,_,q,Steps.trans (.one c) ?_⟩
  rw[<-j];exact StepsIn.steps u
 ·rename_i l f tmps assign body w' p
  obtain⟨_,_,h⟩:=h
  obtain⟨e,z,q,u⟩:=h (b.atR a (.inRegion ops (i :: rest) :: k)) cs (m _)
  have c:step P (lone (b.atR a (.inRegion ops (i :: rest) :: k)) cs w) = .next (lone (Frame.round l f tmps assign body .normal) (b.atR a (.inRegion ops (i :: rest) :: k) :: cs) w'):=
   step_lone_go (by rw[t];simp[stepG.apply,p,Frame.atR])
  cases e with
  | returned v=>
   refine⟨_,_,q,Steps.trans (.one c) ?_⟩
   rw[<-j];exact StepsIn.steps u
  | panicked chain=>exact q.elim
  | outgrown=>obtain⟨_,_,y⟩:=q;exact y.elim
 ·exact h.elim
 ·exact h.elim
end
end Go.Ab
namespace Go.Ab
def lB(r:Ref)(b:List Loc):Map:=λq=>if q.d=r.d/\q.t=r.t/\q.g=r.g then b[q.k]? else none
structure zl (M:Mem) (w:World) (y:AV) (v:Value) (M':Mem) (w':World):Prop where
 os:w'.os=w.os
 tape:w'.tape=w.tape
 output:w'.output=w.output
 size:w.heap.size<=w'.heap.size
 old : ∀b,b<w.heap.size->w'.heap[b]?=w.heap[b]?
 mem : ∀b o x,M b o=some x->M' b o=some x
 sound : ∀b o x,M' b o=some x->w'.cell? ⟨b,o,none⟩=some x
 new : ∀b o x,M' b o=some x->M b o=some x\/w.heap.size<=b
 res : ∀r:Ref,∃ls:List Loc,ls.length=(aE r depth y []).2.length/\VR M' (lB r ls) (aE r depth y []).1 v /\
  (∀(k:Nat) l b,ls[k]?=some l->(aE r depth y []).2[k]?=some b->oV M' ei w' l b/\w.heap.size<=l.b) /\
  ∀(i j:Nat) l l',ls[i]?=some l->ls[j]?=some l'->l.b=l'.b->i=j
def kJ(P:Program)(f:FuncId)(args:List AV)(y:AV):Prop:=
 (∃fn,P.funcs[f]?=some fn/\(fn.name == "runtime.NumGoroutine")=false/\fn.body.isSome=true) /\
 ∀(M:Mem)(w:World)(us:List Value),(∀b o x,M b o=some x->w.cell? ⟨b,o,none⟩=some x)->lR M ei args us ->
  Calls P f us.toArray w λe w' =>∃v M',e = .returned v/\zl M w y v M' w'
def qv(P:Program):xd->List AV->ai->AV->ai->Prop
 | .fn f,args,H,y,H'=>
  (∃fn,P.funcs[f]?=some fn/\(fn.name == "runtime.NumGoroutine")=false/\fn.body.isSome=true) /\
  ∀(M:Mem)(ι:Map)(w:World)(us:List Value),gA M ι H.get w->tB ι H->lR M ι args us ->
   Calls P f us.toArray w λe w' =>∃v,e = .returned v/\vj M ι H w y H' v w'
 | .yld r,args,H,y,H' =>∀(M:Mem)(ι:Map)(w:World)(us:List Value)(l:Loc),gA M ι H.get w->tB ι H->lR M ι args us->ι r=some l ->
  ∃fn tmps assign body,(Instr.yield l.b us.toArray).run P w = .ok (.round l.b fn tmps assign body) w /\
   RoundIn (FW none) 0 P l.b fn tmps assign body w λe w' =>∃v,e = .returned v/\vj M ι H w y H' v w'
theorem A3{M M':Mem}{ι ι':Map} : ∀(n:Nat)(x:AV)(u:Value),flat n x=true->VR M ι x u->VR M' ι' x u:=by
 intro n
 induction n with
 | zero=>intro x u h;simp[flat]at h
 | succ n f=>
  intro x u h z
  cases z with
  | v p=>exact .v p
  | agg m d=>
   simp only[flat,fZ]at h
   exact .agg m λi c u b e=>f c u (h c (fC b)) (d i c u b e)
  | tup y m d=>
   simp only[flat,fZ]at h
   exact .tup y m λi c u b e=>f c u (h c (fC b)) (d i c u b e)
  | ifc d=>exact .ifc (f _ _ (by simpa [flat] using h) d)
  | fn t q d j=>
   simp only[flat,aZ,fZ]at h
   exact .fn t q (λi c u b e=>f c u (h.1 c (fC b)) (d i c u b e)) λi c u b e=>f c u (h.2 c (fC b)) (j i c u b e)
  | yld=>simp[flat]at h
  | mp=>simp[flat]at h
  | ch=>simp[flat]at h
  | cG=>simp[flat]at h
  | cC=>simp[flat]at h
  | ptr=>simp[flat]at h
  | iptr=>simp[flat]at h
theorem wj(r:Ref) : ∀(n m:Nat)(x:AV)(f:List bA),flat m x=true->aE r n x f=(x,f):=by
 intro n
 induction n with
 | zero=>intro m x f h;rfl
 | succ n q=>
  intro m x f h
  have e : ∀(m:Nat)(cs b:List AV),(∀c∈cs,flat m c=true)->cs.foldl (λ(p:List AV × List bA) c=>(p.1++[(aE r n c p.2).1],(aE r n c p.2).2)) (b,f)=(b++cs,f):=by
   intro m cs
   induction cs with
   | nil=>intro b _;simp
   | cons c cs i=>
    intro b j
    rw[vO,q m c f (j c (gG ..))]
    rw[i (b++[c]) (λd u=>j d (fW _ u))]
    simp
  cases m with
  | zero=>simp[flat]at h
  | succ m=>
   cases x with
   | agg cs=>
    simp only[flat,fZ]at h
    have:=e m cs [] h
    simp only[aE]
    rw[this]
    simp
   | tup cs=>
    simp only[flat,fZ]at h
    have:=e m cs [] h
    simp only[aE]
    rw[this]
    simp
   | fsl=>simp[flat]at h
   | ifc t x=>
    simp only[aE]
    rw[q m x f (by simpa [flat] using h)]
   | _=>rfl
theorem Hp{g:db}{r q:Ref}{e:List bA}{b:bA}(h:sM g r e q=some b):(q.d=r.d/\q.t=r.t/\q.g=r.g/\e[q.k]?=some b)\/(¬(q.d=r.d/\q.t=r.t/\q.g=r.g/\q.k<e.length)/\g q=some b):=by
 unfold sM at h
 split at h
 ·rename_i c;exact .inl ⟨c.1,c.2.1,c.2.2.1,h⟩
 ·rename_i c;exact .inr ⟨c,h⟩
theorem Hh{M ι g w}(H:gA M ι g w){r:Ref}(Y : ∀k,ι { r with k:=k}=none){y:AV}{v:Value}{M':Mem}{w':World}(h:zl M w y v M' w') :
 jq M ι g w r (aE r depth y []).1 (aE r depth y []).2 v w':=by
 obtain⟨ls,V,hv,X,hi⟩:=h.res r
 have J : ∀q l,lB r ls q=some l->ι q=none:=by
  intro q l I
  unfold lB at I
  split at I
  ·rename_i hc
   have:q = { r with k:=q.k}:=by cases q;cases r;simp_all
   rw[this]
   exact Y _
  ·cases I
 have B : ∀q l,ι q=some l->(λq=>match ι q with | some l=>some l | none=>lB r ls q) q=some l:=by
  intro q l h;simp[h]
 have t : ∀q l,lB r ls q=some l->(λq=>match ι q with | some l=>some l | none=>lB r ls q) q=some l:=by
  intro q l h;simp[J q l h,h]
 have p : ∀q l,(λq=>match ι q with | some l=>some l | none=>lB r ls q) q=some l->ι q=some l\/(ι q=none/\lB r ls q=some l):=by
  intro q l h
  simp only at h
  split at h
  ·rename_i R D;exact .inl (by rw[D,h])
  ·rename_i N;exact .inr ⟨N,h⟩
 have j : ∀q b l,sM g r (aE r depth y []).2 q=some b->(λq=>match ι q with | some l=>some l | none=>lB r ls q) q=some l ->
  (g q=some b/\ι q=some l)\/(w.heap.size<=l.b/\lB r ls q=some l/\ls[q.k]?=some l/\q = { r with k:=q.k}):=by
  intro q b l A z
  rcases Hp A with ⟨f,m,i,F⟩ | ⟨f,m⟩
  ·right
   have n:q = { r with k:=q.k}:=by cases q;cases r;simp_all
   have N:ι q=none:=by rw[n];exact Y _
   rcases p q l z with d | ⟨_,d⟩
   ·rw[N]at d;cases d
   ·have W:ls[q.k]?=some l:=by unfold lB at d;rw[if_pos ⟨f,m,i⟩]at d;exact d
    exact⟨(X q.k l b W F).2,d,W,n⟩
  ·left
   obtain⟨U,e,_⟩:=H.live q b m
   rcases p q l z with d | ⟨d,_⟩
   ·exact⟨m,d⟩
   ·rw[e]at d;cases d
 refine⟨M',λq=>match ι q with | some l=>some l | none=>lB r ls q,hv.mono (λ_ _ _ h=>h) _ t,?_,?_,?_⟩
 ·refine⟨h.sound,?_,?_⟩
  ·intro q b A
   rcases Hp A with ⟨f,m,i,F⟩ | ⟨f,m⟩
   ·have C:q.k<ls.length:=by rw[V];exact(iG.1 F).1
    have G:ls[q.k]?=some ls[q.k]:=eC C
    obtain⟨c,Z⟩:=X q.k _ b G F
    have O:lB r ls q=some ls[q.k]:=by unfold lB;rw[if_pos ⟨f,m,i⟩];exact G
    refine⟨_,t q _ O,?_⟩
    exact c.cz (λ_ _ _ h=>h) (λq l h=>by cases h) rfl c.frozen
   ·obtain⟨l,D,c⟩:=H.live q b m
    refine⟨l,B q l D,c.cz h.mem B (h.old _ c.lt) ?_⟩
    intro o x T
    rcases h.new _ _ _ T with i | i
    ·exact c.frozen o x i
    ·exact absurd c.lt (Ft.2 i)
  ·intro q S b b' l R f m i F d
   rcases j q b l f i with ⟨u,K⟩ | ⟨u,K,a3,a4⟩<;>rcases j S b' R m F with ⟨b1,b2⟩ | ⟨b1,b2,b3,b4⟩
   ·exact H.inj q S b b' l R u b1 K b2 d
   ·obtain⟨U,e,c⟩:=H.live q b u
    rw[K]at e;cases e
    exact absurd c.lt (by rw[d];exact Ft.2 b1)
   ·obtain⟨U,e,c⟩:=H.live S b' b1
    rw[b2]at e;cases e
    exact absurd c.lt (by rw[<-d];exact Ft.2 u)
   ·have:=hi _ _ _ _ a3 b3 d
    rw[a4,b4,this]
 ·refine⟨h.os,h.tape,h.output,h.size,λb L _=>h.old b L,h.mem,B,?_,?_⟩
  ·intro q b l f i
   rcases j q b l f i with ⟨u,K⟩ | ⟨u,_⟩
   ·exact .inr ⟨q,b,l,u,K,rfl⟩
   ·exact .inl u
  ·intro b o x T
   rcases h.new b o x T with f | f
   ·exact .inl f
   ·exact .inr (.inl f)
 ·intro q Q I
  simp only[Q]
  unfold lB
  split
  ·rename_i hc
   have n:q = { r with k:=q.k}:=by cases q;cases r;simp_all
   have : ¬q.k<(aE r depth y []).2.length:=λC=>I q.k C n
   exact xp (by rw[V];omega)
  ·rfl
theorem HZ{M ι g w}(e:gA M ι g w){r:Ref}{y:AV}{v:Value}{n M':Mem}{w':World}(j:flat depth y=true)(h:zl n w y v M' w'):jq M ι g w r y [] v w':=by
 obtain⟨ls,B,m,z,A⟩:=h.res r
 rw[wj r depth depth y [] j]at m
 refine⟨M,ι,A3 depth y v j m,?_,?_,λq i _=>i⟩
 ·rw[m0]
  refine⟨?_,?_,e.inj⟩
  ·intro b o x u
   have:=e.mem b o x u
   rw[World.cell?_of_block (w:=w) (h.old _ (World.block_lt_of_cell? w ⟨b,o,none⟩ this))]
   exact this
  ·intro q b i
   obtain⟨l,f,c⟩:=e.live q b i
   exact⟨l,f,c.cz (λ_ _ _ h=>h) (λ_ _ h=>h) (h.old _ c.lt) c.frozen⟩
 ·rw[m0]
  exact⟨h.os,h.tape,h.output,h.size,λb d _=>h.old b d,λ_ _ _ h=>h,λ_ _ h=>h,λq b l p t => .inr ⟨q,b,l,p,t,rfl⟩,λ_ _ _ h => .inl h⟩
theorem O3{M M':Mem}{ι ι':Map}{e x:AV}{u:Value}{j:Nat}(d:flat depth e=true)(b:e.cells[j]?=some x)(h:VR M ι x u):VR M' ι' x u:=by
 cases e with
 | agg cs=>
  have f:x∈cs:=fC b
  have : ∀c∈cs,flat 7 c=true:=by simpa [flat,depth] using d
  exact A3 7 x u (this x f) h
 | _=>
  simp only[AV.cells]at b
  cases j with
  | zero=>simp at b;subst b;exact A3 depth _ u d h
  | succ j=>simp at b
theorem OC(r:Ref) : ∀(n:Nat)(x:AV)(f:List bA),CK n x=true ->∃new,(aE r n x f).2=f++new/\(∀b∈new,0<b.esz/\b.arr=true/\b.k8=false /\∀e∈b.es,flat depth e=true) /\
 ∀(M M':Mem)(ι:Map)(u:Value),VR M ι (aE r n x f).1 u->VR M' ι (aE r n x f).1 u:=by
 intro n
 induction n with
 | zero=>intro x f h;simp[CK]at h
 | succ n R=>
  intro x f h
  have B : ∀(cs A:List AV)(f:List bA),(∀c∈cs,CK n c=true) ->∃(new:List bA) (zs:List AV),cs.foldl (λ(p:List AV × List bA) c=>(p.1++[(aE r n c p.2).1],(aE r n c p.2).2)) (A,f)=(A++zs,f++new) /\
   (∀b∈new,0<b.esz/\b.arr=true/\b.k8=false /\∀e∈b.es,flat depth e=true) /\∀(M M':Mem)(ι:Map)(z:AV),z∈zs ->∀u,VR M ι z u->VR M' ι z u:=by
   intro cs
   induction cs with
   | nil=>intro A f _;exact⟨[],[],by simp,λb q=>by simp at q,λ_ _ _ z D=>by simp at D⟩
   | cons c cs O=>
    intro A f y
    obtain⟨n1,Y,Z,X⟩:=R c f (y c (gG ..))
    obtain⟨n2,zs,b1,b2,b3⟩:=O (A++[(aE r n c f).1]) (f++n1) λd V=>y d (fW _ V)
    refine⟨n1++n2,(aE r n c f).1 :: zs,?_,?_,?_⟩
    ·rw[vO]
     simp only
     rw[Y,b1]
     simp
    ·intro b q
     rcases nM.1 q with q | q
     ·exact Z b q
     ·exact b2 b q
    ·intro M M' ι z D u m
     rcases nw.1 D with rfl | D
     ·exact X M M' ι u m
     ·exact b3 M M' ι z D u m
  cases x with
  | v x=>exact⟨[],by simp[aE],λb q=>by simp at q,λM M' ι u m=>by simp only[aE]at m ⊢;cases m with | v F=>exact .v F⟩
  | agg cs=>
   simp only[CK,fZ]at h
   obtain⟨new,zs,C,H,G⟩:=B cs [] f h
   simp only[aE]
   rw[C]
   refine⟨new,rfl,H,λM M' ι u m=>?_⟩
   simp only[tL]at m ⊢
   cases m with | agg N I=>
   exact .agg N λi c u y J=>G M M' ι c (fC y) u (I i c u y J)
  | tup cs=>
   simp only[CK,fZ]at h
   obtain⟨new,zs,C,H,G⟩:=B cs [] f h
   simp only[aE]
   rw[C]
   refine⟨new,rfl,H,λM M' ι u m=>?_⟩
   simp only[tL]at m ⊢
   cases m with | tup U N I=>
   exact .tup U N λi c u y J=>G M M' ι c (fC y) u (I i c u y J)
  | fsl z es cap=>
   simp only[CK,aZ,bne_iff_ne,ne_eq,fZ]at h
   simp only[aE]
   rw[if_neg h.1]
   refine⟨[⟨z,es,true,false⟩],rfl,?_,λM M' ι u m=>?_⟩
   ·intro b q
    rw[uC.1 q]
    exact⟨Bf h.1,rfl,rfl,h.2⟩
   ·cases m with | cC S q F T y W Q D=>exact .cC S q F T y W Q D
  | cG z es cap=>
   have L:es=[]:=by simpa [CK] using h
   subst L
   refine⟨[],by simp[aE],λb q=>by simp at q,λM M' ι u m=>?_⟩
   simp only[aE]at m ⊢
   cases m with | cG cell F y Q hm he I=>exact .cG cell F y Q (λi j C=>by simp at C) he λi j e x C=>by simp at C
  | ifc t x=>
   obtain⟨new,C,H,G⟩:=R x f (by simpa [CK] using h)
   simp only[aE]
   exact⟨new,C,H,λM M' ι u m=>by cases m with | ifc K=>exact .ifc (G M M' ι _ K)⟩
  | _=>simp[CK]at h
theorem zl.own{M D M':Mem}{w w':World}{y:AV}{v:Value}(t : ∀b o x,M b o=some x->w.cell? ⟨b,o,none⟩=some x)(R:CK depth y=true)(h:zl D w y v M' w'):zl M w y v M w':=by
 have n : ∀b o x,M b o=some x->b<w.heap.size:=λb o x c=>World.block_lt_of_cell? w ⟨b,o,none⟩ (t b o x c)
 refine⟨h.os,h.tape,h.output,h.size,h.old,λ_ _ _ h=>h,?_,λ_ _ _ h => .inl h,λr=>?_⟩
 ·intro b o x c
  rw[World.cell?_of_block (w:=w) (h.old _ (n b o x c))]
  exact t b o x c
 ·obtain⟨ls,I,K,L,B⟩:=h.res r
  obtain⟨new,F,N,H⟩:=OC r depth y [] R
  refine⟨ls,I,H M' M _ v K,λk l b Q d=>?_,B⟩
  obtain⟨p,f⟩:=L k l b Q d
  have q:b∈new:=by rw[F,tL]at d;exact fC d
  obtain⟨U,S,V,C⟩:=N b q
  have m : ∀o x,M l.b o=some x->b.k8=true/\o<b.es.length * b.esz:=λo x c=>absurd (n _ _ _ c) (Ft.2 f)
  refine⟨⟨p.esz,λA=>?_,λA=>by omega,m⟩,f⟩
  obtain⟨J,⟨arr,T,fz,d1,d2,d3,d4⟩,G,O,_⟩:=p.cellsOk A
  refine⟨J,⟨arr,T,fz,d1,d2,d3,λi j e x z c=>?_⟩,G,O,m⟩
  obtain⟨u,f1,f2,f3⟩:=d4 i j e x z c
  exact⟨u,f1,f2,O3 (C e (fC z)) c f3⟩
theorem Es{P:Program}{f:FuncId}(h : ∃fn,P.funcs[f]?=some fn/\(fn.name == "runtime.NumGoroutine")=false/\fn.body.isSome=true)(args:Array Value)(w:World) :
 (callFunc f args).run P w = .ok (.enter f args) w:=by
 obtain⟨fn,i,j,c⟩:=h
 have d:fn.body≠none:=by intro e;rw[e]at c;cases c
 have b:fn.name ≠ "runtime.NumGoroutine" := by simpa using j
 simp[callFunc,i,b,d]
theorem D3{P:Program}{a:Act}{o:Oper}{c:Call}{d:Operand}(i:o.op = .call c)(e:c.callee = .value d){f:FuncId}{first captured:Array Value}(b:a.eval d = .func (.func f) first captured)
 (h : ∃fn,P.funcs[f]?=some fn/\(fn.name == "runtime.NumGoroutine")=false/\fn.body.isSome=true) (w:World) :
 (execOp a.eval o).run P w = .ok (.enter f (first++c.args.map a.eval++captured)) w:=by
 simp[execOp,i,resolve,e,b,Deferred.ofValue,invoke,Es h]
theorem K3{M ι g w}(e:gA M ι g w){xs ys:List AV}{us:List Value}(h:xs.mapM (view g depth)=some ys)(c:lR M ι xs us):lR (mZ M ι g w (bY g xs)) ei ys us:=
 ⟨by rw[jM h];exact c.1,λi y u m j=>by
  obtain⟨x,b,f⟩:=qV h i y m
  refine Cd e depth x y u f ?_ (c.2 i x u b j)
  intro r d
  exact sa.2 ⟨x,fC b,d⟩⟩
theorem VR.Xp{M ι}{f:FuncId}{a b:List AV}{u:Value}(h:VR M ι (.fn (.func f) a b) u) : ∃j b',u = .func (.func f) j b'/\lR M ι a j.toList/\lR M ι b b'.toList:=by
 cases h with | fn n m p c=>
 exact⟨_,_,rfl,⟨by simpa using n,λi x u d e=>p i x u d (by simpa using e)⟩,⟨by simpa using m,λi x u d e=>c i x u d (by simpa using e)⟩⟩
theorem Gc(a b c:Array Value):(a.toList++b.toList++c.toList).toArray=a++b++c:=by
 apply Fu;simp
section
variable{E:Env}{M:Mem}{ι:Map}{g:db}{w:World}{r:Ref}{a:Act}{tm:List AV}{o:Oper}
theorem TW(p:gA M ι g w)(O:TR M ι tm a)(Q : ∀k,ι { r with k:=k}=none){pc:FuncId->List AV->Option AV}(G : ∀f xs y,pc f xs=some y->kJ E.P f xs y)
 {c:Call} {L:Operand} (Y:o.op = .call c) (n:c.callee = .value L) {args:List AV} (t:c.args.toList.mapM (aM tm)=some args) {x:AV} {N:List bA} (h:kn E pc g r (aM tm L) args=some (x,N)) :
 eM E.P o a w λu w'=>jq M ι g w r x N u w':=by
 unfold kn at h
 split at h
 ·rename_i fi first captured D
  split at h
  ·cases h
  ·split at h
   ·rename_i xs I
    split at h
    ·rename_i y Z
     obtain⟨d,h⟩:=fa.1 h
     injection h with h
     obtain⟨X,m⟩:=G fi xs y Z
     obtain⟨W,b',F,H,J⟩:=(aX O D).Xp
     have i:=m9 O t
     have B:lR M ι (first++args++captured) (W.toList++(c.args.map a.eval).toList++b'.toList):=(H.append (by simpa using i)).append J
     obtain⟨z,V⟩:=Ax (R:=bY g (first++args++captured)) p
     have j:=K3 p I B
     have b:=m (mZ M ι g w (bY g (first++args++captured))) w _ (ze p.mem) j
     rw[Gc]at b
     refine eM.GG (D3 Y n F X w) (b.mono λe w' ⟨v,M',he,hend⟩=>⟨v,he,?_⟩)
     by_cases q:flat depth y=true
     ·have S:=wj r depth depth y [] q
      rw[S]at h
      injection h with T U
      subst T;subst U
      exact HZ p q hend
     ·by_cases C:CK depth y=true
      ·have:=Hh p Q (hend.own p.mem C)
       rw[h]at this
       exact this
      have K:jX g (bY g (first++args++captured))=true:=by
       simp only[ff,aZ]at d
       rcases d with (n | n) | n
       ·exact absurd n q
       ·exact n
       ·exact absurd n.2 C
      have A:=MA K
      rw[A]at z
      have:=Hh z Q hend
      rw[h]at this
      exact jq.after A p this
    ·cases h
   ·cases h
 ·cases h
theorem K0{H:ai}{d A:Nat}(G:gA M ι H.get w)(N:tB ι H)(O:TR M ι tm a){pc:FuncId->List AV->Option AV}(Q : ∀f xs y,pc f xs=some y->kJ E.P f xs y)
 {tc:xd->List AV->ai->dv} (F : ∀f xs H y H',tc f xs H=some (y,H')->qv E.P f xs H y H')
 {c:Call} {Y:Operand} (ho:o.op = .call c) (Z:c.callee = .value Y) {args:List AV} (m:c.args.toList.mapM (aM tm)=some args) {x:AV} {H':ai}
 (h:mT E pc tc H ⟨d,A,H.gen d A,0⟩ (aM tm Y) args=some (x,H')):eM E.P o a w λu w'=>vj M ι H w x H' u w':=by
 unfold mT at h
 split at h
 ·rename_i fi first captured C
  obtain⟨a',b',K,S,hvb⟩:=(aX O C).Xp
  have j:=m9 O m
  have z:lR M ι (first++args++captured) (a'.toList++(c.args.map a.eval).toList++b'.toList):=(S.append (by simpa using j)).append hvb
  split at h
  ·obtain⟨W,I⟩:=F _ _ _ _ _ h
   have i:=I M ι w _ G N z
   rw[Gc]at i
   exact eM.GG (D3 ho Z K W w) (i.mono λe w' ⟨v,he,hend⟩=>⟨v,he,hend⟩)
  ·split at h
   ·rename_i xs T
    simp only[bO]at h
    obtain⟨y,D,h⟩:=h
    injection h with h1 h2
    obtain⟨W,B⟩:=Q fi xs y D
    obtain⟨U,L⟩:=Ax (R:=bY H.get (first++args++captured)) G
    have t:=K3 G T z
    have i:=B (mZ M ι H.get w (bY H.get (first++args++captured))) w _ (ze G.mem) t
    rw[Gc]at i
    refine eM.GG (D3 ho Z K W w) (i.mono λe w' ⟨v,M',he,hend⟩=>⟨v,he,?_⟩)
    have V:tB ι (cH H (bY H.get (first++args++captured))):=by
     intro q l hq
     rw[ai.ko]
     exact N q l hq
    have n:=Hh (r:=⟨d,A,H.gen d A,0⟩) U (λk=>N.fresh d A k) hend
    rw[<-ai.eB]at n
    have J:H.gen d A=(cH H (bY H.get (first++args++captured))).gen d A:=(ai.ko _ _ _ _).symm
    have key:vj (mZ M ι H.get w (bY H.get (first++args++captured))) ι (cH H (bY H.get (first++args++captured))) w x H' v w':=by
     subst h1;subst h2
     rw[J]at n ⊢
     exact n.toW V
    obtain⟨M2,X,k1,k2,k3,k4⟩:=key
    refine⟨M2,X,k1,k2,?_,k4⟩
    rw[<-ai.eB]at L
    exact L.trans k3
   ·cases h
 ·rename_i q C
  have j:=m9 O m
  have D:=aX O C
  generalize hu:a.eval Y=u at D
  cases D with | yld hr hz=>
  rename_i l
  obtain⟨fn,tmps,assign,body,D,p⟩:=F _ _ _ _ _ h M ι w _ l G N j hr
  refine eM.Uf (l:=l.b) ?_ p
  have e1:(c.args.map a.eval:Array Value)=(c.args.toList.map a.eval).toArray:=by rw[<-Jt];simp
  rw[<-e1]at D
  simp[execOp,ho,resolve,Z,hu,Deferred.ofValue,invoke,D]
 ·cases h
end
end Go.Ab
namespace Go.Ab
theorem VR.cut{M M':Mem}{ι:Map}{e:AV}{T:Value}(Q:VR M ι e T) : ∀ {ι':Map} {u:Value},VR M' ι' e u->(∀q l,ι q=some l->ι' q=some l)->VR M' ι e u:=by
 induction Q with
 | v h=>intro ι' u h d;cases h with | v C=>exact .v C
 | agg R _ t=>
  intro ι' u h d
  cases h with | agg B n=>
  refine .agg B λi c u j z=>?_
  have A:=(iG.1 j).1
  exact t i c _ j (jS (by omega)) (n i c u j z) d
 | tup D R _ t=>
  intro ι' u h d
  cases h with | tup F B n=>
  refine .tup F B λi c u j z=>?_
  have A:=(iG.1 j).1
  exact t i c _ j (jS (by omega)) (n i c u j z) d
 | cG cell C j K hm he _ t=>
  intro ι' u h d
  cases h with | cG cell C j K hm he n=>exact .cG cell C j K hm he n
 | cC m S C O j U K D=>
  intro ι' u h d
  have p:=d _ _ m
  cases h with | cC b x I y G J N f=>
  rw[p]at b
  cases b
  exact .cC m x I y G J N f
 | ptr m D=>
  intro ι' u h d
  have p:=d _ _ m
  cases h with | ptr b f=>
  rw[p]at b
  cases b
  exact .ptr m f
 | iptr cell hm he _ t=>
  intro ι' u h d
  cases h with | iptr cell hm he n=>exact .iptr cell hm he n
 | fn O S _ _ t L=>
  intro ι' u h d
  cases h with | fn y x n H=>
  refine .fn y x (λi c u j z=>?_) λi c u j z=>?_
  ·have A:=(iG.1 j).1
   exact t i c _ j (jS (by omega)) (n i c u j z) d
  ·have A:=(iG.1 j).1
   exact L i c _ j (jS (by omega)) (H i c u j z) d
 | ifc _ t=>intro ι' u h d;cases h with | ifc n=>exact .ifc (t n d)
 | yld m D=>
  intro ι' u h d
  have p:=d _ _ m
  cases h with | yld b f=>
  rw[p]at b
  cases b
  exact .yld m f
 | mp m D=>
  intro ι' u h d
  have p:=d _ _ m
  cases h with | mp b f=>
  rw[p]at b
  cases b
  exact .mp m f
 | ch m D=>
  intro ι' u h d
  have p:=d _ _ m
  cases h with | ch b f=>
  rw[p]at b
  cases b
  exact .ch m f
section
variable{M M':Mem}{ι ι':Map}{w w':World}{l:Loc}{k:bA}
theorem fV.cut(m:fV M ι w l k)(c:fV M' ι' w' l k)(n : ∀q l,ι q=some l->ι' q=some l):fV M' ι w' l k:=by
 obtain⟨f,_,_,_,_,_,y⟩:=m.heap
 obtain⟨arr,T,fz,t,v,A,z⟩:=c.heap
 refine⟨c.esz,⟨arr,T,fz,t,v,A,λi j e x b d=>?_⟩,c.len,c.cells,c.frozen⟩
 obtain⟨C,_,_,v0⟩:=y i j e x b d
 obtain⟨u,p,B,v1⟩:=z i j e x b d
 refine⟨u,p,B,v0.cut v1 ?_⟩
 unfold bA.map
 split
 ·exact λ_ _ h=>h
 ·exact n
theorem Ht.cut(f:Ht M ι w l k)(c:Ht M' ι' w' l k)(j : ∀q l,ι q=some l->ι' q=some l):Ht M' ι w' l k:=by
 obtain⟨G,m,B,p,i,u,H,_,_,b,_,_,_,_,_,v0,_⟩:=f
 obtain⟨n,nt,ps,as,x,tm,r,y,z,e,C,A,F,D,d,v,h⟩:=c
 rw[e]at b
 simp only[zt,AV.lp.injEq]at b
 obtain⟨_,⟨_,_,_,_,_,rfl⟩,_⟩:=b
 exact⟨n,nt,ps,as,x,tm,r,y,z,e,C,A,F,D,d,λt=>(v0 t).cut (v t) j,h⟩
theorem Nm.cut(t:Nm M ι w l k)(c:Nm M' ι' w' l k)(y : ∀q l,ι q=some l->ι' q=some l):Nm M' ι w' l k:=by
 obtain⟨n,d,_,_,j,_,L,v0⟩:=t
 obtain⟨ents,entries,F,G,e,I,s,v⟩:=c
 rw[e]at j
 simp only[zt,true_and]at j
 subst j
 refine⟨ents,entries,F,G,e,I,s,λi f H b h=>?_⟩
 obtain⟨B,x,p,C,J,K⟩:=v i f H b h
 have z:=(iG.1 b).1
 obtain⟨D,A,m,_,u,_⟩:=v0 i f _ b (jS (by omega))
 rw[p]at m
 simp only[AV.tup.injEq,zt]at m
 obtain⟨_,rfl,_⟩:=m
 exact⟨B,x,p,C,u.cut J y,K⟩
theorem Hv.cut(j:Hv M ι w l k)(c:Hv M' ι' w' l k)(n : ∀q l,ι q=some l->ι' q=some l):Hv M' ι w' l k:=by
 obtain⟨_,_,_,_,f,h,_,_,b,_,C,v0⟩:=j
 obtain⟨cap,s,r,A,buf,arr,t,y,e,B,m,v⟩:=c
 rw[e]at b
 simp only[zt,true_and]at b
 obtain⟨_,_,rfl⟩:=b
 refine⟨cap,s,r,A,buf,arr,t,y,e,B,m,λi x u d z=>?_⟩
 have p:=(iG.1 d).1
 exact(v0 i x _ d (jS (by omega))).cut (v i x u d z) n
theorem m8.cut(d:m8 M ι w l k)(c:m8 M' ι' w' l k)(f : ∀q l,ι q=some l->ι' q=some l):m8 M' ι w' l k:=by
 rcases d with d | d | d<;>rcases c with c | c | c
 ·exact .inl (d.cut c f)
 ·obtain⟨_,_,_,_,_,_,_,_,_,b,_⟩:=d
  obtain⟨_,_,_,_,e,_⟩:=c
  rw[e]at b;simp at b
 ·obtain⟨_,_,_,_,_,_,_,_,_,b,_⟩:=d
  obtain⟨_,_,_,_,_,_,_,_,e,_⟩:=c
  rw[e]at b;simp at b
 ·obtain⟨_,_,_,_,_,_,_,_,_,b,_⟩:=c
  obtain⟨_,_,_,_,e,_⟩:=d
  rw[e]at b;simp at b
 ·exact .inr (.inl (d.cut c f))
 ·obtain⟨_,_,_,_,b,_⟩:=d
  obtain⟨_,_,_,_,_,_,_,_,e,_⟩:=c
  rw[e]at b;simp at b
 ·obtain⟨_,_,_,_,_,_,_,_,_,b,_⟩:=c
  obtain⟨_,_,_,_,_,_,_,_,e,_⟩:=d
  rw[e]at b;simp at b
 ·obtain⟨_,_,_,_,b,_⟩:=c
  obtain⟨_,_,_,_,_,_,_,_,e,_⟩:=d
  rw[e]at b;simp at b
 ·exact .inr (.inr (d.cut c f))
theorem oV.cut(b:oV M ι w l k)(c:oV M' ι' w' l k)(d : ∀q l,ι q=some l->ι' q=some l):oV M' ι w' l k:=
 ⟨c.esz,λh=>(b.cellsOk h).cut (c.cellsOk h) d,λh=>(b.objOk h).cut (c.objOk h) d,c.frozen⟩
theorem Rh{H H':ai}(f:gA M ι H.get w)(t:tB ι H){y:AV}{v:Value}(u:flat depth y=true)(n : ∀q k,H.get q=some k->H'.get q=some k)(h:vj M ι H w y H' v w'):vj M ι H w y H v w':=by
 obtain⟨z,m,C,c,b,x⟩:=h
 refine⟨z,ι,A3 depth y v u C,⟨c.mem,λq k j=>?_,f.inj⟩,⟨b.os,b.tape,b.output,b.size,b.chg,b.mem,λ_ _ h=>h,λq k l A B => .inr ⟨q,k,l,A,B,rfl⟩,b.new⟩,t⟩
 obtain⟨l,i,p⟩:=f.live q k j
 obtain⟨D,d,e⟩:=c.live q k (n q k j)
 have:=b.map q l i
 rw[this]at d
 cases d
 exact⟨l,i,p.cut e b.map⟩
theorem K2{u v:Value}(h:Pw u v=true):u=v:=by
 unfold Pw at h
 split at h
 ·simp at h;rw[h]
 ·simp at h;rw[h.1,h.2]
 ·simp at h;rw[h]
 ·simp only[aZ]at h
  rw[kf h.1,kf h.2]
 ·rfl
 ·rfl
 ·cases h
theorem rC{f:AV->AV->Bool}(d : ∀x y,f x y=true->x=y) : ∀(xs ys:List AV),xs.length=ys.length->((xs.zip ys).all λp=>f p.1 p.2)=true->xs=ys:=by
 intro xs
 induction xs with
 | nil=>intro ys h _;exact(Cb h.symm).symm
 | cons x xs c=>
  intro ys h b
  cases ys with
  | nil=>simp at h
  | cons y ys=>
   simp only[Nw,zq,aZ]at b
   rw[d x y b.1,c ys (by simpa using h) b.2]
theorem CA{r r':Ref}(h:IK r r'=true):r=r':=by
 unfold IK at h
 simp only[aZ]at h
 cases r;cases r'
 simp only[Ref.mk.injEq]
 exact⟨kf h.1.2,kf h.1.1.1,kf h.1.1.2,kf h.2⟩
theorem Vd : ∀(n:Nat)(x y:AV),By n x y=true->x=y:=by
 intro n
 induction n with
 | zero=>intro x y h;simp[By]at h
 | succ n b=>
  intro x y h
  unfold By at h
  split at h
  ·rw[K2 h]
  ·simp only[aZ]at h
   rw[rC b _ _ (kf h.1) h.2]
  ·simp only[aZ]at h
   rw[rC b _ _ (kf h.1) h.2]
  ·simp only[aZ,decide_eq_true_eq]at h
   rw[rC b _ _ (kf h.1.2) h.2,kf h.1.1.1,h.1.1.2]
  ·simp only[aZ,decide_eq_true_eq]at h
   rw[CA h.1.1.1,kf h.1.1.2,kf h.1.2,h.2]
  ·simp only[aZ]at h
   rw[CA h.1.1,kf h.1.2,kf h.2]
  ·rw[CA h]
  ·rw[CA h]
  ·simp only[aZ]at h
   rw[kf h.1.1,rC b _ _ (kf h.1.2.1) h.1.2.2,rC b _ _ (kf h.2.1) h.2.2]
  ·simp only[aZ]at h
   rw[kf h.1,b _ _ h.2]
  ·cases h
theorem Pf{k k':bA}(h:KF k k'=true):k=k':=by
 unfold KF at h
 simp only[aZ,beq_iff_eq]at h
 cases k;cases k'
 simp only[bA.mk.injEq]
 exact⟨kf h.1.1.1.1,rC (Vd 8) _ _ (kf h.1.2) h.2,h.1.1.1.2,h.1.1.2⟩
theorem get_mem : ∀(H:ai)(q:Ref)(k:bA),H.get q=some k ->∃b,(q,b)∈H:=by
 intro H
 induction H with
 | nil=>intro q k h;cases h
 | cons p H c=>
  obtain⟨r,b⟩:=p
  intro q k h
  simp only[ai.get]at h
  split at h
  ·rename_i e;subst e;exact⟨b,gG ..⟩
  ·obtain⟨b',d⟩:=c q k h
   exact⟨b',fW _ d⟩
theorem Mv{H H':ai}(h:GX H H'=true)(q:Ref)(k:bA)(d:H.get q=some k):H'.get q=some k:=by
 obtain⟨b,e⟩:=get_mem H q k d
 have:=fZ.1 h _ e
 simp only[d]at this
 split at this
 ·cases this
 ·rename_i k' c
  rw[c,Pf this]
theorem KX{b:Bool}{sm:Nk}{H H':ai}{c:dv}{y:AV}(h:p8 b sm H c=some (y,H')):c=some (y,H') \/∃d,H'=H/\c=some (y,d)/\flat depth y=true /\∀q k,H.get q=some k->d.get q=some k:=by
 unfold p8 at h
 split at h
 ·rename_i f d
  obtain⟨e,h⟩:=fa.1 h
  cases h
  exact .inr ⟨d,rfl,rfl,(xn.1 e).1,(Jz.1 (xn.1 e).2).elim Mv (sm.ok _ _)⟩
 ·exact .inl h
end
end Go.Ab
namespace Go.Ab
theorem oC(l:List AV)(d t:Nat)(x:AV):cY (yN l d x) t=if t=d then x else cY l t:=by
 induction l generalizing d t with
 | nil=>
  induction d generalizing t with
  | zero=>cases t<;>simp[yN,cY]
  | succ d b=>
   cases t with
   | zero=>simp[yN,cY]
   | succ t=>simp[yN,cY,b]
 | cons y l b=>
  cases d with
  | zero=>cases t<;>simp[yN,cY]
  | succ d=>
   cases t with
   | zero=>simp[yN,cY]
   | succ t=>simp[yN,cY,b]
theorem TR.put{M ι tm a}(f:TR M ι tm a){nt:Nat}(e:a.tmps.size=nt){b:Option Tmp}{x:AV}{tm':List AV}(h:dn nt tm b x=some tm'){u:Value}(i:VR M ι x u) :
 TR M ι tm' (a.put b u)/\(a.put b u).tmps.size=nt:=by
 unfold dn at h
 split at h
 ·injection h with h
  subst h
  exact⟨f,e⟩
 ·rename_i d
  obtain⟨j,h⟩:=fa.1 h
  injection h with h
  subst h
  refine⟨⟨?_⟩,by simp[Act.put,e]⟩
  intro t
  rw[oC]
  simp only[Act.put,Bh]
  by_cases c:t=d
  ·subst c
   rw[if_pos rfl,Fs (by rw[e];exact j)]
   exact i
  ·rw[if_neg c,Bi (sA c),<-Bh]
   exact f.at_ t
theorem kW{M ι tm a}(u:TR M ι tm a){ops:Array Oper}{o:Oper}{b:Bool}(h:wanted ops tm o=some b):Region.wanted o (yielded ops a.tmps)=b:=by
 unfold wanted at h
 unfold Region.wanted
 split at h
 ·rename_i n
  injection h with h
  subst h
  rw[n]
 ·rename_i j e n
  rw[n]
  simp only
  split at h
  ·rename_i t f
   have d:=u.at_ t
   rw[Bh]at d
   split at h
   ·rename_i c m
    injection h with h
    subst h
    rw[m]at d
    have:a.tmps[t]?=some (.bool c):=by
     cases i:a.tmps[t]? with
     | none=>rw[i]at d;cases d
     | some v=>rw[i]at d;simp only[fQ]at d;cases d;rfl
    simp only[yielded,f,fy,this]
    cases c<;>cases e<;>rfl
   ·rename_i q m
    rw[m]at d
    obtain⟨x,h⟩:=fa.1 h
    injection h with h
    subst h
    have p:q = #[]:=by simpa using x
    subst p
    have:yielded ops a.tmps j=none:=by
     simp only[yielded,f,fy]
     cases i:a.tmps[t]? with
     | none=>rfl
     | some v=>
      rw[i]at d
      simp only[fQ]at d
      cases d
      rfl
    rw[this]
    rfl
   ·cases h
  ·rename_i f
   injection h with h
   subst h
   simp only[yielded,f,FE]
   rfl
section
variable{E:Env}{M:Mem}{ι:Map}{g:db}{w:World}{r:Ref}{a:Act}{tm:List AV}{o:Oper}
theorem qT{x:Option AV}{y:AV}{b:List bA}(h:jK x=some (y,b)):x=some y/\b=[]:=by
 simp only[jK,bO]at h
 obtain⟨z,d,h⟩:=h
 injection h with c e
 exact⟨by rw[d,c],e.symm⟩
theorem eM.same{s:Sem Value}(e:gA M ι g w)(f : ∀b,b=a.eval->execOp b o=(do pure (Next.value (<-s)))){x:AV}{c:List bA}(h:c=[] /\∃u,s.run E.P w = .ok u w/\VR M ι x u) :
 eM E.P o a w λu w'=>jq M ι g w r x c u w':=by
 obtain⟨rfl,u,d,i⟩:=h
 exact eM.of_run (by rw[f a.eval rfl];exact IJ d) (jq.same e i)
theorem eM.made{s:Sem Value}(e : ∀c,c=a.eval->execOp c o=(do pure (Next.value (<-s)))){x:AV}{b:List bA}(h : ∃u w',s.run E.P w = .ok u w'/\jq M ι g w r x b u w') :
 eM E.P o a w λu w'=>jq M ι g w r x b u w':=by
 obtain⟨u,w',d,f⟩:=h
 exact eM.of_run (by rw[e a.eval rfl];exact IJ d) f
theorem uq(ps:Array (Nat × Operand))(b:Operand->Value):(ps.map λ(p:Nat × Operand)=>(p.1,b p.2)).toList=ps.toList.map λp=>(p.1,b p.2):=by simp
theorem Kl{α:Type}{l:List α}(h:l.length=1) : ∃a,l=[a]:=List.length_eq_one_iff.1 h
theorem zS{α:Type}{l:List α}(h:l.length=2) : ∃a b,l=[a,b]:=by
 match l,h with
 | [a,b],_=>exact⟨a,b,rfl⟩
theorem eM.mono{P:Program}{Q b:Value->World->Prop}(h:eM P o a w Q)(c : ∀u w',Q u w'->b u w'):eM P o a w b:=
 λro K R e=>h ro K R λu w' d=>e u w' (c u w' d)
theorem fV.k8{l:Loc}{k:bA}(h:fV M ι w l k):fV M ι w l { k with k8:=true} :=
 ⟨h.esz,h.heap,h.len,h.cells,λo x b=>⟨rfl,(h.frozen o x b).2⟩⟩
theorem oV.k8{l:Loc}{k:bA}(h:oV M ι w l k):oV M ι w l { k with k8:=true} :=
 ⟨h.esz,λb=>(h.cellsOk b).k8,λb=>(h.objOk b).same rfl rfl rfl,λo x c=>⟨rfl,(h.frozen o x c).2⟩⟩
theorem Df{d:List bA}{q:Ref}{b':bA}(h:sM g r (d.map λk => { k with k8:=true}) q=some b') : ∃b,sM g r d q=some b/\(b'=b\/b' = { b with k8:=true}):=by
 unfold sM at h ⊢
 simp only[p7]at h
 split at h
 ·rename_i c
  rw[if_pos c]
  simp only[oM,bO]at h
  obtain⟨b,f,e⟩:=h
  exact⟨b,f,.inr e.symm⟩
 ·rename_i c
  rw[if_neg c]
  exact⟨b',h,.inl rfl⟩
theorem jq.Ay{x:AV}{v:List bA}{b:Bool}{u:Value}{w':World}(h:jq M ι g w r x v u w'):jq M ι g w r x (Ab.Ay b v) u w':=by
 cases b with
 | false=>exact h
 | true=>
  obtain⟨M',ι',A,m,c,B⟩:=h
  refine⟨M',ι',A,⟨m.mem,λq k t=>?_,λq D k k' l C j p G I H=>?_⟩,⟨c.os,c.tape,c.output,c.size,c.chg,c.mem,c.map,λq k l j p=>?_,c.new⟩,λq t F=>B q t λk i=>F k (by simpa [Ab.Ay] using i)⟩
  ·obtain⟨b,z,e⟩:=Df t
   obtain⟨l,y,f⟩:=m.live q b z
   rcases e with rfl | rfl
   ·exact⟨l,y,f⟩
   ·exact⟨l,y,f.k8⟩
  ·obtain⟨b1,d,_⟩:=Df j
   obtain⟨b2,n,_⟩:=Df p
   exact m.inj q D b1 b2 l C d n G I H
  ·obtain⟨b1,d,_⟩:=Df j
   exact c.live q b1 l d p
def BZ(P:Program)(f:FuncId)(t:TypeId):Prop:=
 ∃fn tR,P.funcs[f]?=some fn/\(fn.name == "runtime.NumGoroutine")=false/\fn.body.isNone=true/\Extern.findNext fn=none/\Extern.find fn=some (Extern.SlicesOverlaps.overlaps #[t,t] #[tR])
theorem xZ(A:gA M ι g w)(B:TR M ι tm a)(Z:r.k=0)(hq : ∀k,ι { r with k:=k}=none){pc:FuncId->List AV->Option AV}(hpc : ∀f xs y,pc f xs=some y->kJ E.P f xs y)
 {V:Bool} (hov:V=false ->∀f t,E.tZ f=some t->BZ E.P f t) {x:AV} {bs:List bA} (h:ct E pc V g tm r o=some (x,bs)):eM E.P o a w λu w'=>jq M ι g w r x bs u w':=by
 have R:ι r=none:=by have:=hq 0;rwa [show({ r with k:=0}:Ref)=r by cases r;simp_all]at this
 unfold ct at h
 split at h
 ·
  rename_i y d
  obtain⟨q,rfl⟩:=qT h
  exact eM.of_run (u:=a.eval y) (w':=w) (by simp[execOp,d]) (jq.same A (aX B q))
 ·
  rename_i y d
  obtain⟨q,rfl⟩:=qT h
  exact eM.of_run (u:=a.eval y) (w':=w) (by simp[execOp,d]) (jq.same A (aX B q))
 ·
  rename_i c y z d
  obtain⟨rfl,u,D,H⟩:=TL (P:=E.P) (w:=w) B h
  refine eM.of_run (u:=u) (w':=w) ?_ (jq.same A H)
  simp only[execOp,d]
  simp only[Sem.run_bind]at D ⊢
  cases X:(asBool (a.eval c)).run E.P w with
  | ok b w1=>
   rw[X]at D
   simp only[Result.andThen_ok,Sem.run_pure]at D ⊢
   injection D with I K
   rw[I,K]
  | halt hh w1=>rw[X]at D;cases D
 ·
  rename_i e d
  exact eM.made (λO m=>by simp only[execOp,d]) (Ro A Z R h)
 ·
  rename_i e y d
  cases q:aM tm y with
  | none=>rw[q]at h;simp[Ka]at h
  | some T=>
   rw[q]at h
   exact eM.made (λO m=>by simp only[execOp,d,m]) (WH A Z R (aX B q) h)
 ·
  rename_i t ps d
  cases H:iM tm ps.toList with
  | none=>rw[H]at h;simp only[lx]at h;split at h<;>first | cases h | (rename_i I K;cases K)
  | some vs=>
   rw[H]at h
   obtain⟨I,K⟩:=uf (ι:=ι) B H
   refine eM.same A (s:=Instr.build t (ps.map λ(p:Nat × Operand)=>(p.1,a.eval p.2))) (λO m=>by simp only[execOp,d,m]) (Rm ?_ ?_ h)
   ·rw[uq];exact I
   ·rw[uq];exact K
 ·
  rename_i t n ps d
  cases H:iM tm ps.toList with
  | none=>rw[H]at h;simp[ik]at h
  | some vs=>
   rw[H]at h
   obtain⟨I,K⟩:=uf (ι:=ι) B H
   refine eM.made (s:=Instr.buildSlice t n (ps.map λ(p:Nat × Operand)=>(p.1,a.eval p.2))) (λO m=>by simp only[execOp,d,m]) (GD A Z R h ?_ ?_)
   ·rw[uq];exact I
   ·rw[uq];exact K
 ·
  rename_i t y d
  cases q:aM tm y with
  | none=>rw[q]at h;simp[sf]at h
  | some T=>
   rw[q]at h
   exact eM.same A (λO m=>by simp only[execOp,d,m]) (TO A (aX B q) h)
 ·
  rename_i y d
  unfold LM at h
  split at h
  ·rename_i r' i j q
   injection h with h;injection h with I K;subst I;subst K
   have H:=aX B q
   refine eM.of_run (u:=a.eval y) (w':=w) ?_ (jq.same A H)
   generalize hu:a.eval y=u at H
   cases H
   simp[execOp,d,hu]
  ·rename_i n es i j q
   injection h with h;injection h with I K;subst I;subst K
   have H:=aX B q
   refine eM.of_run (u:=a.eval y) (w':=w) ?_ (jq.same A H)
   generalize hu:a.eval y=u at H
   cases H
   simp[execOp,d,hu]
  ·rename_i f b c q
   injection h with h;injection h with I K;subst I;subst K
   have H:=aX B q
   refine eM.of_run (u:=a.eval y) (w':=w) ?_ (jq.same A H)
   generalize hu:a.eval y=u at H
   cases H
   simp[execOp,d,hu]
  ·cases h
 ·
  rename_i op t xo yo ty d
  cases hx:aM tm xo with
  | none=>rw[hx]at h;simp[bS]at h
  | some x'=>
   cases q:aM tm yo with
   | none=>rw[hx,q]at h;simp[bS]at h
   | some T=>
    rw[hx,q]at h
    exact eM.same A (λO m=>by simp only[execOp,d,m]) (WI (aX B hx) (aX B q) h)
 ·
  rename_i op t y d
  cases q:aM tm y with
  | none=>rw[q]at h;simp[X7,jK]at h
  | some T=>
   rw[q]at h
   exact eM.same A (λO m=>by simp only[execOp,d,m]) (Zw (aX B q) h)
 ·
  rename_i src dst y d
  cases q:aM tm y with
  | none=>rw[q]at h;simp[gf]at h
  | some T=>
   rw[q]at h
   exact eM.made (λO m=>by simp only[execOp,d,m]) (LQ A Z R (aX B q) h)
 ·
  rename_i t y d
  cases q:aM tm y with
  | none=>rw[q]at h;simp only[sI]at h;split at h<;>simp at h
  | some T=>
   rw[q]at h
   exact eM.same A (λO m=>by simp only[execOp,d,m]) (DN (aX B q) h)
 ·
  rename_i f first captured d
  cases I:first.toList.mapM (aM tm) with
  | none=>rw[I]at h;simp[xR]at h
  | some xs=>
   cases K:captured.toList.mapM (aM tm) with
   | none=>rw[I,K]at h;simp[xR]at h
   | some ys=>
    rw[I,K]at h
    obtain⟨rfl,H⟩:=TT (m9 B I) (m9 B K) h
    refine eM.of_run (u := .func f (first.map a.eval) (captured.map a.eval)) (w':=w) (by simp[execOp,d,Instr.makeFunc]) (jq.same A ?_)
    have e1 : ∀l:Array Operand,(l.toList.map a.eval).toArray=l.map a.eval:=λl=>by apply Fu;simp
    rw[e1,e1]at H
    exact H
 ·
  rename_i t l c d
  cases hl:aM tm l with
  | none=>rw[hl]at h;simp only[Ev,FE]at h;split at h<;>first | cases h | (rename_i I K Y;cases K)
  | some l'=>
   cases X:aM tm c with
   | none=>rw[hl,X]at h;simp only[Ev,FE]at h;split at h<;>first | cases h | (rename_i I K Y;cases Y)
   | some c'=>
    rw[hl,X]at h
    exact eM.made (λO m=>by simp only[execOp,d,m]) (TN A Z R (aX B hl) (aX B X) h)
 ·
  rename_i t d
  cases h
  exact eM.made (s:=Instr.makeMap t none) (λO m=>by simp only[execOp,d,Ek]) (LN A Z R t)
 ·
  rename_i t y z ok d
  cases q:aM tm y with
  | none=>rw[q]at h;simp only[eT]at h;split at h<;>simp_all
  | some T=>
   cases W:aM tm z with
   | none=>rw[q,W]at h;simp only[eT,FE]at h;split at h<;>simp_all
   | some z'=>
    rw[q,W]at h
    exact eM.same A (λO m=>by simp only[execOp,d,m]) (Ou A (aX B q) (aX B W) h)
 ·
  rename_i t y lo hi mx d
  cases hwd:(E.wide o && !V) with
  | true=>
   rw[hwd]at h
   simp only[cond_true]at h
   cases q:aM tm y with
   | none=>rw[q]at h;unfold vY at h;split at h<;>simp_all
   | some T=>
    cases I:ma tm lo with
    | none=>rw[I]at h;simp[vY]at h
    | some lo'=>
     cases K:ma tm hi with
     | none=>rw[K]at h;unfold vY at h;split at h<;>simp_all
     | some hi'=>
      cases Y:ma tm mx with
      | none=>rw[Y]at h;unfold vY at h;split at h<;>simp_all
      | some mx'=>
       rw[q,I,K,Y]at h
       exact eM.same A (λO m=>by simp only[execOp,d,m]) (Ot A (aX B q) (uo B I) (uo B K) (uo B Y) h)
  | false=>
  rw[hwd]at h
  simp only[cond_false]at h
  cases q:aM tm y with
  | none=>rw[q]at h;simp only[iJ]at h;split at h<;>simp at h
  | some T=>
   rw[q]at h
   cases I:ma tm lo with
   | none=>rw[I]at h;simp[iJ]at h
   | some lo'=>
    cases K:ma tm hi with
    | none=>rw[I,K]at h;simp[iJ]at h
    | some hi'=>
     cases Y:ma tm mx with
     | none=>rw[I,K,Y]at h;simp[iJ]at h
     | some mx'=>
      rw[I,K,Y]at h
      exact eM.same A (λO m=>by simp only[execOp,d,m]) (Rj A (aX B q) (uo B I) (uo B K) (uo B Y) h)
 ·
  rename_i t y f d
  cases q:aM tm y with
  | none=>rw[q]at h;simp only[iK]at h;split at h<;>(try split at h)<;>simp_all
  | some T=>
   rw[q]at h
   exact eM.same A (λO m=>by simp only[execOp,d,m]) (HP (aX B q) h)
 ·
  rename_i t y f d
  cases q:aM tm y with
  | none=>rw[q]at h;simp only[uV]at h;split at h<;>simp_all
  | some T=>
   rw[q]at h
   exact eM.same A (λO m=>by simp only[execOp,d,m]) (Rl (aX B q) h)
 ·
  rename_i t y z d
  cases q:aM tm y with
  | none=>
   rw[q]at h
   simp only[cT]at h
   (repeat' split at h)<;>simp_all
  | some T=>
   cases W:aM tm z with
   | none=>rw[q,W]at h;simp[cT]at h
   | some z'=>
    rw[q,W]at h
    exact eM.same A (λO m=>by simp only[execOp,d,m]) (HO A (aX B q) (aX B W) h)
 ·
  rename_i t y z d
  cases q:aM tm y with
  | none=>rw[q]at h;simp only[qU]at h;split at h<;>simp_all
  | some T=>
   cases W:aM tm z with
   | none=>rw[q,W]at h;simp only[qU,FE]at h;(repeat' split at h)<;>simp_all
   | some z'=>
    rw[q,W]at h
    exact eM.same A (λO m=>by simp only[execOp,d,m]) (Rk (aX B q) (aX B W) h)
 ·
  rename_i y st want ok d
  cases q:aM tm y with
  | none=>rw[q]at h;simp only[sR]at h;split at h<;>simp_all
  | some T=>
   rw[q]at h
   exact eM.same A (λO m=>by simp only[execOp,d,m]) (BN (st:=st) (aX B q) h)
 ·
  rename_i y i d
  cases q:aM tm y with
  | none=>rw[q]at h;simp[ti]at h
  | some T=>
   rw[q]at h
   exact eM.same A (λO m=>by simp only[execOp,d,m]) (LP (aX B q) h)
 ·
  rename_i c d
  split at h
  ·cases h
  ·rename_i args Q
   split at h
   ·rename_i fo X
    split at h
    ·rename_i t S
     unfold Ew at S
     split at S
     ·rename_i fi
      obtain⟨fn,tR,f1,f2,f3,f4,f5⟩:=hov rfl fi t S
      have G:=m9 B Q
      obtain⟨rfl,rfl,J⟩:=TM (P:=E.P) (tR:=tR) A G h
      have F:(c.args.toList.map a.eval).toArray=c.args.map a.eval:=by apply Fu;simp
      rw[F]at J
      have hex:(execOp a.eval o).run E.P w = .ok (.value (.bool false)) w:=by
       have h0:=run_callFunc_extern f1 f2 f3 f4 f5 (c.args.map a.eval) w
       rw[J]at h0
       simp only[Result.andThen_ok]at h0
       have e0:(#[]++c.args.map a.eval ++ #[]:Array Value)=c.args.map a.eval:=by simp
       simp[execOp,d,resolve,X,Act.eval,Deferred.ofValue,invoke,h0]
      exact eM.of_run hex (jq.same A (.v rfl))
     ·cases S
    obtain⟨⟨x0,bs0⟩,h0,e⟩:=bO.1 h
    cases e
    exact(TW A B hq hpc d X Q h0).mono λu w'=>jq.Ay
   ·cases h
   ·rename_i b X
    have G:=m9 B Q
    have J : ∀(s:Sem Value)(us:List Value),(c.args.map a.eval).toList=us->(∀C,builtin b c.argTypes o.type C us.toArray=(do pure (Next.value (<-s)))) ->
     ∀ {u w'},s.run E.P w = .ok u w'->(execOp a.eval o).run E.P w = .ok (.value u) w':=by
     intro s us U hb u w' hs
     have e1:c.args.map a.eval=us.toArray:=by rw[<-U]
     simp only[execOp,d,resolve,X,invoke,Sem.run_bind,Sem.run_pure,Result.andThen_ok,e1,hb,hs]
    have F:(c.args.map a.eval).toList=c.args.toList.map a.eval:=by simp
    unfold ck at h
    split at h
    ·rename_i r'
     obtain⟨u,L⟩:=Kl G.1.symm
     rw[L]at G
     have H:=G.2 0 (.mp r') u rfl rfl
     obtain⟨rfl,u',D,N⟩:=Ov (ty:=o.type) A H (NO.1 h).2
     exact eM.of_run (J _ [u] (by rw[F,L]) (λC=>rfl) D) (jq.same A N)
    ·rename_i y hnm
     obtain⟨u,L⟩:=Kl G.1.symm
     rw[L]at G
     have H:=G.2 0 y u rfl rfl
     obtain⟨rfl,u',D,N⟩:=WD (P:=E.P) (w:=w) (ty:=o.type) H h
     exact eM.of_run (J _ [u] (by rw[F,L]) (λC=>rfl) D) (jq.same A N)
    ·obtain⟨hm,rfl⟩:=qT h
     obtain⟨u,us,U,u',D,N⟩:=IX (w:=w) G hm
     exact eM.of_run (J (us.foldlM Builtin.min2 u) (u :: us) (by rw[F,U]) (λC=>rfl) D) (jq.same A N)
    ·obtain⟨hm,rfl⟩:=qT h
     obtain⟨u,us,U,u',D,N⟩:=IX (w:=w) G hm
     exact eM.of_run (J (us.foldlM Builtin.max2 u) (u :: us) (by rw[F,U]) (λC=>rfl) D) (jq.same A N)
    ·rename_i y z
     obtain⟨u,v,L⟩:=zS G.1.symm
     rw[L]at G
     obtain⟨u',w',D,N⟩:=Ox (P:=E.P) (ty:=o.type) A Z R (G.2 0 y u rfl rfl) (G.2 1 z v rfl rfl) h
     exact eM.of_run (J _ [u,v] (by rw[F,L]) (λC=>rfl) D) N
    ·rename_i y
     obtain⟨u,L⟩:=Kl G.1.symm
     rw[L]at G
     have H:=G.2 0 y u rfl rfl
     obtain⟨rfl,u',D,N⟩:=WG (P:=E.P) (w:=w) (ty:=o.type) H h
     exact eM.of_run (J _ [u] (by rw[F,L]) (λC=>rfl) D) (jq.same A N)
    ·cases h
 ·cases h
theorem Pv{H:ai}(n:gA M ι H.get w)(j:tB ι H)(e:TR M ι tm a){t:TypeId}{m k y:Operand}{x:AV}{H':ai}
 (p : ∀c:Operand->Value,execOp c o=(do Instr.mapUpdate t (c m) (c k) (c y);pure Next.skip))
 (h:dM E.P H t (aM tm m) (aM tm k) (aM tm y)=some (x,H')):eM E.P o a w λu w'=>vj M ι H w x H' u w':=by
 cases hm:aM tm m with
 | none=>rw[hm]at h;simp only[dM]at h;split at h<;>simp_all
 | some v=>
  cases d:aM tm k with
  | none=>rw[hm,d]at h;simp only[dM]at h;split at h<;>simp_all
  | some k'=>
   cases f:aM tm y with
   | none=>rw[hm,d,f]at h;simp only[dM]at h;split at h<;>simp_all
   | some q=>
    rw[hm,d,f]at h
    obtain⟨w',i,b⟩:=HA (P:=E.P) n j (aX e hm) (aX e d) (aX e f) h
    exact eM.E9 (by simp[p,i]) b
theorem UY{H:ai}{d Z:Nat}(I:gA M ι H.get w)(D:tB ι H)(F:TR M ι tm a){pc:FuncId->List AV->Option AV}(W : ∀f xs y,pc f xs=some y->kJ E.P f xs y)
 {tc:xd->List AV->ai->dv} (V : ∀f xs H y H',tc f xs H=some (y,H')->qv E.P f xs H y H') {x:AV} {H':ai}
 (Q:Qj o.op=false) (h:evalW E pc tc H tm ⟨d,Z,H.gen d Z,0⟩ o=some (x,H')):eM E.P o a w λu w'=>vj M ι H w x H' u w':=by
 unfold evalW at h
 split at h
 ·
  rename_i t y z i
  cases R:aM tm y with
  | none=>rw[R]at h;simp[nc]at h
  | some y'=>
   cases hz:aM tm z with
   | none=>rw[R,hz]at h;simp only[nc]at h;(repeat' split at h)<;>simp_all
   | some z'=>
    rw[R,hz]at h
    obtain⟨w',O,j⟩:=Qv (P:=E.P) I D (aX F R) (aX F hz) h
    exact eM.E9 (by simp[execOp,i,O]) j
 ·
  rename_i t m k y i
  exact Pv I D F (λρ=>by simp[execOp,i]) h
 ·
  rename_i t m k y i
  exact Pv I D F (λρ=>by simp[execOp,i]) h
 ·
  rename_i t m k i
  cases J:aM tm m with
  | none=>rw[J]at h;simp only[iH]at h;split at h<;>simp_all
  | some m'=>
   cases hk:aM tm k with
   | none=>rw[J,hk]at h;simp only[iH]at h;split at h<;>simp_all
   | some k'=>
    rw[J,hk]at h
    obtain⟨u,w',O,j⟩:=JH (P:=E.P) I D (aX F J) (aX F hk) h
    exact eM.of_run (by simp only[execOp,i];exact IJ O) j
 ·
  rename_i t m s y i
  cases J:aM tm m with
  | none=>rw[J]at h;simp[fD]at h
  | some m'=>
   cases S:aM tm s with
   | none=>rw[J,S]at h;simp[fD]at h
   | some s'=>
    cases R:aM tm y with
    | none=>rw[J,S,R]at h;simp[fD]at h
    | some y'=>
     rw[J,S,R]at h
     obtain⟨w',O,j⟩:=FP (P:=E.P) (t:=t) I D (aX F J) (aX F S) (aX F R) h
     exact eM.E9 (by simp[execOp,i,O]) j
 ·
  rename_i t n ps i
  cases T:iM tm ps.toList with
  | none=>rw[T]at h;simp[kg]at h
  | some vs=>
   rw[T]at h
   obtain⟨h1,h2⟩:=uf (ι:=ι) F T
   obtain⟨u,w',O,j⟩:=FR (P:=E.P) (qs:=ps.map λ(p:Nat × Operand)=>(p.1,a.eval p.2)) I D h (by rw[uq];exact h1) (by rw[uq];exact h2)
   exact eM.of_run (by simp only[execOp,i];exact IJ O) j
 ·
  rename_i t n i
  unfold sD at h
  split at h
  ·rename_i kd m b hn hb
   obtain⟨⟨h0,h1,h2⟩,h⟩:=fa.1 h
   cases h
   obtain⟨e,ht,hbe⟩:=gE.1 hb
   have T:=aX F hn
   generalize Y:a.eval n=nv at T
   cases T
   obtain⟨u,w',O,j⟩:=J9 (P:=E.P) I rfl (D.fresh d Z 0) ht hbe kd m.toNat (by omega) h2
   have J:((m.toNat:Nat):Int)=m:=by omega
   rw[J]at O
   exact eM.of_run (by simp only[execOp,i,Y];exact IJ O) (j.toW D)
  ·cases h
 ·rename_i i;rw[i]at Q;cases Q
 ·rename_i i;rw[i]at Q;cases Q
 ·
  rename_i c i
  split at h
  ·cases h
  ·rename_i args C
   split at h
   ·rename_i fo X
    rcases KX h with h | ⟨H1,rfl,h,hfl,A⟩
    ·exact K0 I D F W V i X C h
    ·exact(K0 I D F W V i X C h).mono λu w' hw=>Rh I D hfl A hw
   ·cases h
   ·rename_i b X
    have B:=m9 F C
    have N : ∀(s:Sem Value)(us:List Value),(c.args.map a.eval).toList=us->(∀q,builtin b c.argTypes o.type q us.toArray=(do pure (Next.value (<-s)))) ->
     ∀ {u w'},s.run E.P w = .ok u w'->(execOp a.eval o).run E.P w = .ok (.value u) w':=by
     intro s us hus hb u w' S
     have e1:c.args.map a.eval=us.toArray:=by rw[<-hus]
     simp only[execOp,i,resolve,X,invoke,Sem.run_bind,Sem.run_pure,Result.andThen_ok,e1,hb,S]
    have A:(c.args.map a.eval).toList=c.args.toList.map a.eval:=by simp
    split at h
    ·rename_i y z
     obtain⟨u,v,G⟩:=zS B.1.symm
     rw[G]at B
     obtain⟨u',w',K,L⟩:=NS (P:=E.P) (ty:=o.type) I D (B.2 0 y u rfl rfl) (B.2 1 z v rfl rfl) h
     exact eM.of_run (N _ [u,v] (by rw[A,G]) (λq=>rfl) K) L
    ·rename_i y z
     obtain⟨u,v,G⟩:=zS B.1.symm
     rw[G]at B
     cases U:E.wide o with
     | true=>
      rw[U]at h
      simp only[cond_true]at h
      obtain⟨u',w',K,L⟩:=Qw (P:=E.P) (ty:=o.type) I D (B.2 0 y u rfl rfl) (B.2 1 z v rfl rfl) h
      exact eM.of_run (N _ [u,v] (by rw[A,G]) (λq=>rfl) K) L
     | false=>
     rw[U]at h
     simp only[cond_false]at h
     obtain⟨u',w',K,L⟩:=SB (P:=E.P) (ty:=o.type) I D (B.2 0 y u rfl rfl) (B.2 1 z v rfl rfl) h
     exact eM.of_run (N _ [u,v] (by rw[A,G]) (λq=>rfl) K) L
    ·cases h
 ·cases h
structure vH (M:Mem) (ι:Map) (st:St) (nt:Nat) (a:Act) (w:World):Prop where
 sim:gA M ι st.hp.get w
 dom:tB ι st.hp
 tr:TR M ι st.tm a
 nt:a.tmps.size=nt
def kV(M:Mem)(ι:Map)(st:St)(a:Act)(w:World)(nt:Nat)(b:St)(c:Act)(w':World):Prop:=
 (∃M' ι',vH M' ι' b nt c w'/\tA M ι st.hp.get w M' ι' b.hp.get w')/\c.defers=a.defers
theorem kV.refl{st nt}(h:vH M ι st nt a w):kV M ι st a w nt st a w:=⟨⟨M,ι,h,tA.refl⟩,rfl⟩
theorem D5{st e:St}{nt dep:Nat}{d:Bool}{ops:Array Oper}(c:vH M ι st nt a w){pc:FuncId->List AV->Option AV}(p : ∀f xs y,pc f xs=some y->kJ E.P f xs y)
 {tc:xd->List AV->ai->dv} (A : ∀f xs H y H',tc f xs H=some (y,H')->qv E.P f xs H y H') (D:d=false ->∀f t,E.tZ f=some t->BZ E.P f t) (G:d=true\/Qj o.op=false) (h:evalOp E pc tc nt dep d ops o st=some e)
 {ro:Option Nat} {K:Act->World->Prop} {Q:Exit->Act->World->Prop} (z : ∀J w',kV M ι st a w nt e J w'->K J w') :
 if Region.wanted o (yielded ops a.tmps) then o.wpIn (FW ro) 0 E.P a w K Q else K (a.put o.dst undef) w:=by
 unfold evalOp at h
 split at h
 ·cases h
 ·rename_i F
  rw[kW c.tr F]
  simp only[bO]at h
  obtain⟨tm',b,rfl⟩:=h
  obtain⟨B,C⟩:=c.tr.put c.nt b (u:=undef) (.v rfl)
  simp only[jH,if_false]
  exact z _ _ ⟨⟨M,ι,⟨c.sim,c.dom,B,C⟩,tA.refl⟩,put_defers _ _ _⟩
 ·rename_i F
  rw[kW c.tr F]
  simp only[if_true]
  have n : ∀ {x:AV} {H':ai} {tm':List AV},eM E.P o a w (λu w'=>vj M ι st.hp w x H' u w')->dn nt st.tm o.dst x=some tm'->e=⟨tm',H'⟩->o.wpIn (FW ro) 0 E.P a w K Q:=by
   intro x H' tm' i b L
   subst L
   refine i ro K Q λu w' ⟨M',ι',B,C,h3,h4⟩=>z _ _ ?_
   obtain⟨O,N⟩:=(c.tr.mono h3.mem h3.map).put c.nt b B
   exact⟨⟨M',ι',⟨C,h4,O,N⟩,h3⟩,put_defers _ _ _⟩
  split at h
  ·rename_i x R I
   simp only[bO]at h
   obtain⟨tm',b,rfl⟩:=h
   have:=xZ (E:=E) (o:=o) c.sim c.tr rfl (λk=>c.dom.fresh dep (o.dst.getD 0) k) p D I
   exact n (λro K Q z=>this ro K Q λu w' q=>z u w' (q.toW c.dom)) b rfl
  ·split at h
   ·cases h
   ·rename_i m
    split at h
    ·rename_i x H' I
     simp only[bO]at h
     obtain⟨tm',b,rfl⟩:=h
     have j:Qj o.op=false:=by
      rcases G with rfl | j
      ·simp only[nu,dQ,Bool.not_eq_false]at m
       cases i:o.op<;>first | rfl | (simp[jj,Y7,Bb,i]at m)
      ·exact j
     exact n (UY (E:=E) (o:=o) c.sim c.dom c.tr p A j I) b rfl
    ·cases h
end
end Go.Ab
namespace Go.Ab
section
variable{E:Env}{M:Mem}{ι:Map}{w:World}{a:Act}
theorem kV.trans{st c d:St}{nt:Nat}{f n:Act}{j m:World}(h:kV M ι st a w nt c f j)(v : ∀e b,vH e b c nt f j->kV e b c f j nt d n m):kV M ι st a w nt d n m:=by
 obtain⟨⟨e,b,t,u⟩,q⟩:=h
 obtain⟨⟨M2,i,y,x⟩,p⟩:=v e b t
 exact⟨⟨M2,i,y,u.trans x⟩,p.trans q⟩
theorem C1{o:Oper}{st p:St}{nt dep:Nat}{ops:Array Oper}{i:Nat}(d:vH M ι st nt a w){pc:FuncId->List AV->Option AV}(O : ∀f xs y,pc f xs=some y->kJ E.P f xs y)
 {tc:xd->List AV->ai->dv} (N : ∀f xs H y H',tc f xs H=some (y,H')->qv E.P f xs H y H') (U : ∀f t,E.tZ f=some t->BZ E.P f t) (h:evalOp E pc tc nt dep false ops o st=some p) (L:ops[i]?=some o)
 (b:Frame) (rest:List Nat) (k:List Item) (cs:List Frame) :
 ∃A w',kV M ι st a w nt p A w'/\(b.kind = .normal->Steps E.P (lone (b.atR a (.inRegion ops (i :: rest) :: k)) cs w) (lone (b.atR A (.inRegion ops rest :: k)) cs w')):=by
 have D:Region.wanted o (yielded ops a.tmps)=false->Steps E.P (lone (b.atR a (.inRegion ops (i :: rest) :: k)) cs w) (lone (b.atR (a.put o.dst undef) (.inRegion ops rest :: k)) cs w):=by
  intro z
  have X:=stepR_op_skip (P:=E.P) (b:=b) (a:=a) (k:=k) (cs:=cs) (w:=w) (ops:=ops) (i:=i) (rest:=rest) (by simp[L,z])
  simp only[L,fy]at X
  exact .one X
 cases n:Qj o.op with
 | false=>
  have q:=D5 (E:=E) (ro:=b.roundOf) (Q:=λ_ _ _=>False) d O N (λ_=>U) (.inr n) h (K:=λA w'=>kV M ι st a w nt p A w') λA w' h=>h
  by_cases z:Region.wanted o (yielded ops a.tmps)=true
  ·rw[if_pos z]at q
   obtain⟨A,w',G,B⟩:=PU L z b q rest k cs
   exact⟨A,w',G,λ_=>B⟩
  ·rw[if_neg z]at q
   exact⟨_,_,q,λ_=>D (by simpa using z)⟩
 | true=>
  unfold evalOp at h
  split at h
  ·cases h
  ·rename_i z
   have C:=kW d.tr z
   simp only[bO]at h
   obtain⟨tm',j,rfl⟩:=h
   obtain⟨q,G⟩:=d.tr.put d.nt j (u:=undef) (.v rfl)
   exact⟨_,_,⟨⟨M,ι,⟨d.sim,d.dom,q,G⟩,tA.refl⟩,put_defers _ _ _⟩,λ_=>D C⟩
  ·rename_i z
   have C:=kW d.tr z
   have I : ∀ {x:AV} {H':ai} {tm':List AV},Hu E.P o a w (λu w'=>vj M ι st.hp w x H' u w')->dn nt st.tm o.dst x=some tm'->p=⟨tm',H'⟩ ->
    ∃A w',kV M ι st a w nt p A w'/\(b.kind = .normal->Steps E.P (lone (b.atR a (.inRegion ops (i :: rest) :: k)) cs w) (lone (b.atR A (.inRegion ops rest :: k)) cs w')):=by
    intro x H' tm' e j he
    subst he
    by_cases Y:b.kind = .normal
    ·obtain⟨u,w',⟨M',ι',q,G,B,R⟩,J⟩:=e b k cs ops i rest Y L C
     obtain⟨T,S⟩:=(d.tr.mono B.mem B.map).put d.nt j q
     exact⟨_,_,⟨⟨M',ι',⟨G,R,T,S⟩,B⟩,put_defers _ _ _⟩,λ_ => .one J⟩
    ·obtain⟨u,w',⟨M',ι',q,G,B,R⟩,J⟩:=e { b with kind := .normal} k cs ops i rest rfl L C
     obtain⟨T,S⟩:=(d.tr.mono B.mem B.map).put d.nt j q
     exact⟨_,_,⟨⟨M',ι',⟨G,R,T,S⟩,B⟩,put_defers _ _ _⟩,λh=>absurd h Y⟩
   have V:ct E pc false st.hp.get st.tm ⟨dep,o.dst.getD 0,st.hp.gen dep (o.dst.getD 0),0⟩ o=none:=by
    unfold ct
    cases e:o.op<;>rw[e]at n<;>first | rfl | (cases n)
   rw[V]at h
   simp only[xm,jH,if_false]at h
   split at h
   ·rename_i x H' m
    simp only[bO]at h
    obtain⟨tm',j,rfl⟩:=h
    unfold evalW at m
    cases e:o.op<;>rw[e]at n m<;>try (cases n;done)
    ·rename_i c y
     simp only at m
     cases F:aM st.tm c with
     | none=>rw[F]at m;simp[Bj]at m
     | some Z=>
      cases W:aM st.tm y with
      | none=>rw[F,W]at m;simp[Bj]at m
      | some y'=>
       rw[F,W]at m
       exact I (Sy d.sim d.dom e (aX d.tr F) (aX d.tr W) m) j rfl
    ·rename_i t c okb
     simp only at m
     cases F:aM st.tm c with
     | none=>rw[F]at m;simp[zx]at m
     | some Z=>
      rw[F]at m
      exact I (SA d.sim d.dom e (aX d.tr F) m) j rfl
   ·cases h
theorem J2{pc:FuncId->List AV->Option AV}(q : ∀f xs y,pc f xs=some y->kJ E.P f xs y)
 {tc:xd->List AV->ai->dv} (m : ∀f xs H y H',tc f xs H=some (y,H')->qv E.P f xs H y H') (z : ∀f t,E.tZ f=some t->BZ E.P f t) {nt dep:Nat} {ops:Array Oper} {d:St} (b:Frame) (k:List Item) (cs:List Frame) :
 ∀(l c:List Oper)(st:St)(M:Mem)(ι:Map)(a:Act)(w:World),ops.toList=c++l->ng E pc tc nt dep false ops l st=some d->vH M ι st nt a w ->
  ∃F w',kV M ι st a w nt d F w'/\(b.kind = .normal->Steps E.P (lone (b.atR a (.inRegion ops (List.range' c.length l.length) :: k)) cs w) (lone (b.atR F (.inRegion ops [] :: k)) cs w')):=by
 intro l
 induction l with
 | nil=>
  intro c st M ι a w _ h B
  simp only[ng,dR]at h
  subst h
  exact⟨a,w,kV.refl B,λ_=>Steps.refl _ _⟩
 | cons o l S=>
  intro c st M ι a w I h B
  simp only[ng]at h
  split at h
  ·rename_i A R
   have U:ops[c.length]?=some o:=by
    rw[<-Io,I];simp
   obtain⟨N,O,e,n⟩:=C1 B q m z R U b (List.range' (c.length+1) l.length) k cs
   obtain⟨⟨Q,i,C,x⟩,K⟩:=e
   obtain⟨T,L,⟨⟨M2,p,v,u⟩,J⟩,j⟩:=S (c++[o]) A Q i N O (by simp[I]) h C
   refine⟨T,L,⟨⟨M2,p,v,x.trans u⟩,J.trans K⟩,λG=>?_⟩
   have D:=j G
   simp only[oN,nx,Fk,uy]at D
   rw[nx,List.range'_succ]
   exact(n G).trans D
  ·cases h
theorem CB{pc:FuncId->List AV->Option AV}(i : ∀f xs y,pc f xs=some y->kJ E.P f xs y)
 {tc:xd->List AV->ai->dv} (e : ∀f xs H y H',tc f xs H=some (y,H')->qv E.P f xs H y H') (j : ∀f t,E.tZ f=some t->BZ E.P f t) {nt dep id:Nat} {ops:Array Oper} {st c:St} (b:Frame) (k:List Item) (cs:List Frame)
 (h:ng E pc tc nt dep false ops ops.toList st=some c) (q:vH M ι st nt a w) :
 ∃d w',kV M ι st a w nt c d w'/\(b.kind = .normal->Steps E.P (lone (b.atR a (.code (.region id ops false) :: k)) cs w) (lone (b.atR d k) cs w')):=by
 obtain⟨d,w',m,n⟩:=J2 i e j b k cs ops.toList [] st M ι a w rfl h q
 refine⟨d,w',m,λp=>Steps.trans (.one ?_) (Steps.trans (n p) (.one stepR_region_end))⟩
 have:=stepR_region (P:=E.P) (b:=b) (a:=a) (k:=k) (cs:=cs) (w:=w) (id:=id) (ops:=ops)
 simpa [NF] using this
structure Env.Ok (E:Env) (ok:Array Oper->Bool):Prop where
 fns : ∀f,E.allowed f=true ->∃fn,E.P.funcs[f]?=some fn/\(fn.name == "runtime.NumGoroutine")=false /\∀c,fn.body=some c->codeOk ok c=true
 specs : ∀f args y,E.spec f args=some y->kJ E.P f args y
 same:E.ok=ok
 overs : ∀f t,E.tZ f=some t->BZ E.P f t
 thrs : ∀f args H y H',E.thrSpec f args H=some (y,H')->qv E.P (.fn f) args H y H'
 draws : ∀(ops:Array Oper),ok ops=true ->∀ {pc:FuncId->List AV->Option AV},(∀f xs y,pc f xs=some y->kJ E.P f xs y) ->
  ∀ {tc:xd->List AV->ai->dv},(∀f xs H y H',tc f xs H=some (y,H')->qv E.P f xs H y H') ->∀(nt dep id:Nat)(st st':St)(M:Mem)(ι:Map)(a:Act)(w:World)(ro:Option Nat)(Q:Exit->Act->World->Prop),
  ng E pc tc nt dep true ops ops.toList st=some st'->sT E ops st'=true->vH M ι st nt a w->(∀a' w',kV M ι st a w nt st' a' w'->Q .normal a' w')->(Code.region id ops true).wpIn (FW ro) 0 E.P Q a w
theorem Jb{ok:Array Oper->Bool}{id:Nat} : ∀ {k k':List Item},exitTo id k=some k'->(∀i∈k,ni ok i=true) ->∀i∈k',ni ok i=true:=by
 intro k
 induction k with
 | nil=>intro k' h;simp[exitTo]at h
 | cons x k c=>
  intro k' h d
  have b : ∀i∈k,ni ok i=true:=λi e=>d i (fW _ e)
  cases x with
  | inBlock f=>
   simp only[exitTo]at h
   split at h
   ·injection h with h;subst h;exact b
   ·exact c h b
  | _=>exact c (by simpa [exitTo] using h) b
theorem Zg{P:Program}{ro:Option Nat}{m b:Machine}(h:StepsIn (Machine.fenced P (FW ro)) P m b):Steps P m b:=StepsIn.steps h
theorem Lg{P:Program}{c:Code}{a:Act}{w:World}{R:Act->World->Prop}(b:Frame)(h:c.wpIn (FW b.roundOf) 0 P (λe a w=>e = .normal/\R a w) a w)(k:List Item)(cs:List Frame) :
 ∃f w',R f w'/\Steps P (lone (b.atR a (.code c :: k)) cs w) (lone (b.atR f k) cs w'):=by
 obtain⟨e,f,w',⟨he,i⟩,d⟩:=h b k cs rfl trivial (λ_ h=>by simp[FW,Fence.wide]at h)
 subst he
 exact⟨f,w',i,Zg d⟩
theorem UC{H:ai}{r:Ref}{n:Nat}{b:AV}(h:yZ H r=some (n,b)) : ∃st a f,H.get r=some ⟨0,[.v (.int .i64 st),b],a,f⟩/\st.toNat=n:=by
 unfold yZ at h
 split at h
 ·rename_i st c a f d
  cases h
  exact⟨st,a,f,d,rfl⟩
 ·cases h
structure Vr (r r':Loop):Prop where
 tmps:r'.tmps=r.tmps
 params:r'.params=r.params
 assign:r'.assign=r.assign
 body:r'.body=r.body
theorem A1{H:ai}{r:Ref}{l:Loc}{n:Nat}{m:AV}(D:gA M ι H.get w)(hD:tB ι H)(T:ι r=some l)(ha:yZ H r=some (n,m)) :
 ∃nt ps assign body tm y,m = .lp 0 nt ps assign body tm/\w.heap[l.b]?=some (.loop y)/\y.params=ps.toArray/\y.assign=assign/\y.body=body/\y.tmps.size=nt/\(∀t,VR M ι (cY tm t) (y.tmps.getD t undef))/\Cr n y /\
  (∀C c,Vr y c->Cr C c->gA M ι (H.put r (some (kz C m))).get (bQ w l.b (.loop c))/\tA M ι H.get w M ι (H.put r (some (kz C m))).get (bQ w l.b (.loop c))/\tB ι (H.put r (some (kz C m)))) /\
  ∀c,gA M ι (H.put r none).get (bQ w l.b (.loop c))/\tA M ι H.get w M ι (H.put r none).get (bQ w l.b (.loop c))/\tB ι (H.put r none):=by
 obtain⟨st,a,f,O,Z⟩:=UC ha
 obtain⟨l',S,hb⟩:=D.live r _ O
 rw[T]at S;cases S
 rcases hb.objOk rfl with ⟨n0,nt,ps,as,bd,tm,y,U,X,A,J,W,h6,h7,h8,h9,h10⟩ | ⟨_,_,_,_,A,_⟩ | ⟨_,_,_,_,_,_,_,_,A,_⟩
 case inr.inl=>simp at A
 case inr.inr=>simp at A
 simp only[zt,AV.v.injEq,Value.int.injEq,true_and,and_true]at A
 obtain⟨e1,e2⟩:=A
 subst e2
 have hn:n0=n:=by rw[<-Z,e1];simp
 subst hn
 have hlt:l.b<w.heap.size:=(ij.1 J).1
 have hM : ∀o x,M l.b o=some x->False:=by
  intro o x Y
  have:=D.mem _ _ _ Y
  simp[World.cell?,J]at this
 have hlz:l.esz=0:=hb.esz
 have i : ∀c b',∀q k,(H.put r b').get q=some k->q≠r ->∃j,ι q=some j/\oV M ι (bQ w l.b (.loop c)) j k:=by
  intro c b' q k d z
  rw[ai.get_put,if_neg z]at d
  obtain⟨j,R,Q⟩:=D.live q k d
  have hnb:l.b≠j.b:=λe=>z (D.inj q r k _ j l d O R T e.symm)
  exact⟨j,R,Q.cz (λ_ _ _ h=>h) (λ_ _ h=>h) (eE hnb) Q.frozen⟩
 have B : ∀c,∀b o x,M b o=some x->(bQ w l.b (.loop c)).cell? ⟨b,o,none⟩=some x:=by
  intro c b o x Y
  have z:l.b≠b:=λe=>hM o x (e ▸ Y)
  rw[World.cell?_of_block (w:=w) (eE z)]
  exact D.mem b o x Y
 have u : ∀(b':Option bA) q k,(H.put r b').get q=some k ->∃G,H.get q=some G:=by
  intro b' q k d
  rw[ai.get_put]at d
  split at d
  ·rename_i e;exact⟨_,e ▸ O⟩
  ·exact⟨k,d⟩
 have L : ∀(b':Option bA) q F k k' j V,(H.put r b').get q=some k->(H.put r b').get F=some k'->ι q=some j->ι F=some V->j.b=V.b->q=F:=by
  intro b' q F k k' j V U X A J W
  obtain⟨G,g1⟩:=u b' q k U
  obtain⟨k1,g2⟩:=u b' F k' X
  exact D.inj q F G k1 j V g1 g2 A J W
 have fwd : ∀(b':Option bA) c,tA M ι H.get w M ι (H.put r b').get (bQ w l.b (.loop c)):=by
  intro b' c
  refine⟨rfl,rfl,rfl,by simp[bQ],λb _ hno=>eE (hno r _ l O T),λ_ _ _ h=>h,λ_ _ h=>h,λq k j U X=>?_,λ_ _ _ h => .inl h⟩
  obtain⟨G,g1⟩:=u b' q k U
  exact .inr ⟨q,G,j,g1,X,rfl⟩
 have N : ∀b':Option bA,tB ι (H.put r b'):=by
  intro b' q lq d
  rw[ai.mO _ _ _ (by rw[O];rfl)]
  exact hD q lq d
 refine⟨nt,ps,as,bd,tm,y,rfl,J,W,h6,h7,h8,h9,h10,λC c I K=>⟨⟨B c,λq k d=>?_,L _⟩,fwd _ c,N _⟩,λc=>⟨⟨B c,λq k d=>?_,L _⟩,fwd _ c,N _⟩⟩
 ·by_cases p:q=r
  ·subst p
   rw[ai.get_put,if_pos rfl]at d
   cases d
   refine⟨l,T,m8.Sg (.inl ⟨C,nt,ps,as,bd,tm,c,rfl,rfl,rfl,eV hlt,by rw[I.params];exact W,by rw[I.assign];exact h6,by rw[I.body];exact h7,by rw[I.tmps];exact h8,by rw[I.tmps];exact h9,K⟩) hlz hM⟩
  ·exact i c _ q k d p
 ·by_cases p:q=r
  ·rw[ai.get_put,if_pos p]at d
   cases d
  ·exact i c _ q k d p
theorem UD{H:ai}{d nt:Nat}{tm:List AV}{a:Act}{ps:Array Tmp}{assign body:Code}{fn:FuncId}(C:gA M ι H.get w)(Q:tB ι H)(Y:TR M ι tm a)(U:a.tmps.size=nt){u:World}
 (F:u=(w.alloc (.deferred (some []))).alloc (.loop { state := .ready,pending:=none,fn,tmps:=a.tmps,params:=ps,assign,body,defers:=w.heap.size})) :
 let r:Ref:=⟨d,nt,H.gen d nt,0⟩
 let c:=iU ι r ⟨w.heap.size+1,0,0⟩
 gA M c (ai.get ((r,some (kz 0 (.lp 0 nt ps.toList assign body tm))) :: H)) u/\tA M ι H.get w M c (ai.get ((r,some (kz 0 (.lp 0 nt ps.toList assign body tm))) :: H)) u /\
  tB c ((r,some (kz 0 (.lp 0 nt ps.toList assign body tm))) :: H)/\u.heap[w.heap.size]?=some (.deferred (some [])):=by
 intro r c
 have hq:ι r=none:=Q.fresh d nt 0
 have n:=Co (l:=⟨w.heap.size+1,0,0⟩) hq
 have f:u.heap=(w.heap.push (.deferred (some []))).push (.loop { state := .ready,pending:=none,fn,tmps:=a.tmps,params:=ps,assign,body,defers:=w.heap.size}):=by rw[F];rfl
 have j : ∀b,b<w.heap.size->u.heap[b]?=w.heap[b]?:=by
  intro b G
  rw[f,En (by simp;omega),<-jS,En G,<-jS]
 have J:u.heap[w.heap.size]?=some (.deferred (some [])):=by rw[f,En (by simp),<-jS];simp
 have I:u.heap[w.heap.size+1]?=some (.loop { state := .ready,pending:=none,fn,tmps:=a.tmps,params:=ps,assign,body,defers:=w.heap.size}):=by rw[f,Array.getElem?_push];simp
 have p : ∀b o x,M b o=some x->b<w.heap.size:=λb o x h=>World.block_lt_of_cell? w ⟨b,o,none⟩ (C.mem b o x h)
 have m : ∀q,ai.get ((r,some (kz 0 (.lp 0 nt ps.toList assign body tm))) :: H) q=if r=q then some (kz 0 (.lp 0 nt ps.toList assign body tm)) else H.get q:=λq=>rfl
 refine⟨⟨λb o x h=>?_,λq k h=>?_,λq X k k' i R A y V T W=>?_⟩,⟨by rw[F];rfl,by rw[F];rfl,by rw[F];rfl,by rw[f];simp;omega,λb G _=>j b G,λ_ _ _ h=>h,n,λq k i A y=>?_,λ_ _ _ h => .inl h⟩,λq i h=>?_,J⟩
 ·rw[World.cell?_of_block (w:=w) (j b (p b o x h))]
  exact C.mem b o x h
 ·rw[m]at h
  split at h
  ·rename_i e
   subst e
   cases h
   refine⟨⟨w.heap.size+1,0,0⟩,by simp[c,iU],m8.Sg (.inl ⟨0,nt,ps.toList,assign,body,tm,_,rfl,rfl,rfl,I,by simp,rfl,rfl,U,λt=>(Y.at_ t).mono (λ_ _ _ h=>h) c n,⟨rfl,rfl⟩⟩) rfl ?_⟩
   intro o x Z
   have:=p _ _ _ Z
   simp only at this
   omega
  ·obtain⟨i,L,v⟩:=C.live q k h
   exact⟨i,n q i L,v.cz (λ_ _ _ h=>h) n (j _ v.lt) v.frozen⟩
 ·have one : ∀ {q:Ref} {k i},ai.get ((r,some (kz 0 (.lp 0 nt ps.toList assign body tm))) :: H) q=some k->c q=some i->(q=r/\i.b=w.heap.size+1)\/(q≠r/\H.get q=some k/\ι q=some i/\i.b<w.heap.size):=by
   intro q k i h z
   rw[m]at h
   split at h
   ·rename_i e
    subst e
    simp only[c,iU,if_true]at z
    cases z
    exact .inl ⟨rfl,rfl⟩
   ·rename_i e
    simp only[c,iU]at z
    rw[if_neg (sA e)]at z
    obtain⟨R,D,K⟩:=C.live q k h
    rw[z]at D;cases D
    exact .inr ⟨sA e,h,z,K.lt⟩
  rcases one A V with ⟨O,N⟩ | ⟨O,N,e3,e4⟩<;>rcases one y T with ⟨f1,f2⟩ | ⟨f1,f2,f3,f4⟩
  ·rw[O,f1]
  ·omega
  ·omega
  ·exact C.inj q X k k' i R N f2 e3 f3 W
 ·rw[m]at A
  simp only[c,iU]at y
  split at A
  ·rename_i e
   rw[if_pos e.symm]at y
   cases y
   exact .inl (Dp _)
  ·rename_i e
   rw[if_neg (sA e)]at y
   exact .inr ⟨q,k,i,A,y,rfl⟩
 ·simp only[c,iU]at h
  simp only[ai.gen]
  by_cases B:q=r
  ·subst B
   rw[if_pos ⟨rfl,rfl⟩]
   exact qJ _
  ·rw[if_neg B]at h
   have:=Q q i h
   split
   ·rename_i S;rw[<-S.1,<-S.2]at this;exact Fm this
   ·exact this
theorem Iu : ∀(args:List AV)(t:Nat),cY args t=(args[t]?).getD AV.undef:=by
 intro args
 induction args with
 | nil=>intro t;simp[cY]
 | cons x l b=>
  intro t
  cases t with
  | zero=>simp[cY]
  | succ t=>simp[cY,b]
def Wu(tmps:Array Value):ResultVar->Sem Value
 | .tmp t=>pure (tmps.getD t undef)
 | .cell b t=>asAddr (tmps.getD b undef) >>= λx=>loadVar t x
theorem Ol(fn:Func)(tmps:Array Value):results fn tmps=fn.results.mapM (Wu tmps) >>= λb=>pure (if h:b.size=1 then b[0] else .tuple b):=by
 unfold results
 congr 1
theorem Oj{fn:Func}{st:St}{nt:Nat}(H:vH M ι st nt a w){x:AV}(h:uU E.P fn st=some x) : ∃v,(results fn a.tmps).run E.P w = .ok v w/\VR M ι x v:=by
 have one : ∀(D:ResultVar)(y:AV),ky E.P st D=some y ->∃v,(Wu a.tmps D).run E.P w = .ok v w/\VR M ι y v:=by
  intro D y q
  cases D with
  | tmp t=>
   simp only[ky,dR]at q
   subst q
   exact⟨_,rfl,H.tr.at_ t⟩
  | cell b t=>
   simp only[ky]at q
   split at q
   ·rename_i r i j g n I J R
    split at q
    ·rename_i k Q
     have F:=H.tr.at_ b
     rw[I]at F
     obtain⟨v,p,m⟩:=P0 J R H.sim F Q q
     refine⟨v,?_,m⟩
     simp only[Wu]
     generalize a.tmps.getD b undef=u at F p ⊢
     cases F
     simpa [asAddr,Instr.loadAt,Instr.sureAddr] using p
    ·cases q
   ·cases q
 have C : ∀(rs:List ResultVar)(ys:List AV),rs.mapM (ky E.P st)=some ys ->∃f,(rs.mapM (Wu a.tmps)).run E.P w = .ok f w/\lR M ι ys f:=by
  intro rs
  induction rs with
  | nil=>intro ys h;simp at h;subst h;exact⟨[],rfl,lR.nil⟩
  | cons r rs O=>
   intro ys h
   simp only[lX,sW,tM,gE]at h
   obtain⟨y,q,G,d,h⟩:=h
   simp at h
   subst h
   obtain⟨v,p,m⟩:=one r y q
   obtain⟨f,S,K⟩:=O G d
   refine⟨v :: f,?_,lR.cons m K⟩
   rw[lX]
   simp only[Sem.run_bind,p,Result.andThen_ok,S,Sem.run_pure]
 unfold uU at h
 have z : ∀ys,fn.results.toList.mapM (ky E.P st)=some ys ->∃f:List Value,(results fn a.tmps).run E.P w = .ok (if h:f.toArray.size=1 then f.toArray[0] else .tuple f.toArray) w/\lR M ι ys f:=by
  intro ys d
  obtain⟨f,p,m⟩:=C _ ys d
  refine⟨f,?_,m⟩
  rw[Ol]
  simp only[Array.mapM_eq_mapM_toList,Sem.run_bind,Sem.run_map,p,Result.andThen_ok,Sem.run_pure]
 split at h
 ·rename_i d
  injection h with h
  subst h
  obtain⟨f,p,m⟩:=z _ d
  have:f=[]:=Cb (by rw[<-m.1];rfl)
  subst this
  exact⟨_,p,.v rfl⟩
 ·rename_i y d
  injection h with h
  subst h
  obtain⟨f,p,m⟩:=z _ d
  obtain⟨v,rfl⟩:=Kl m.1.symm
  exact⟨v,by simpa using p,m.2 0 y v rfl rfl⟩
 ·rename_i ys B A d
  injection h with h
  subst h
  obtain⟨f,p,m⟩:=z _ d
  have T:f.length≠1:=by
   intro h
   rw[<-m.1]at h
   obtain⟨y,q⟩:=Kl h
   exact A y q
  refine⟨.tuple f.toArray,?_,.tup ?_ (by simpa using m.1) λi c u N L=>m.2 i c u N (by simpa using L)⟩
  ·rw[p,dif_neg (by simpa using T)]
  ·intro e
   exact B e
 ·cases h
def marks(ds:List Nat):List Deferred:=ds.map λD => { target := .collected D,args := #[]}
def rT(w w':World)(ds:List Nat):Prop:=ds.Nodup /\∀D∈ds,w.heap.size<=D/\w'.heap[D]?=some (.deferred (some []))
theorem GJ{M:Mem}{ι:Map}{g:db}{w:World}(j:gA M ι g w){D:Nat}{x:Option (List Deferred)}(h:w.heap[D]?=some (.deferred x)) : ∀r k l,g r=some k->ι r=some l->l.b≠D:=by
 intro r k l m n e
 obtain⟨p,d,i⟩:=j.live r k m
 rw[n]at d;cases d
 rcases Il k.esz with f | f
 ·rcases(i.objOk f).obj with ⟨_,c⟩ | ⟨_,_,c⟩ | ⟨_,_,_,_,_,_,c⟩
  ·rw[e,h]at c;cases c
  ·rw[e,h]at c;cases c
  ·rw[e,h]at c;cases c
 ·obtain⟨_,_,_,c,_⟩:=(i.cellsOk f).heap
  rw[e,h]at c;cases c
theorem rT.fwd{w b d:World}{ds:List Nat}{M1 ι1 g1 M2 ι2 g2}(h:rT w b ds)(i:gA M1 ι1 g1 b)(f:tA M1 ι1 g1 b M2 ι2 g2 d):rT w d ds:=
 ⟨h.1,λD e=>⟨(h.2 D e).1,by
  have c:=(h.2 D e).2
  rw[f.chg D (ij.1 c).1 (GJ i c)]
  exact c⟩⟩
theorem rT.append{w j i:World}{ds c:List Nat}(m:w.heap.size<=j.heap.size)(h:rT w i ds)(t : ∀D∈ds,D<j.heap.size)(f:rT j i c):rT w i (c++ds):=by
 refine⟨Nt.2 ⟨f.1,h.1,λa p b n e=>?_⟩,λD q=>?_⟩
 ·have:=(f.2 a p).1
  have:=t b n
  omega
 ·rcases nM.1 q with d | d
  ·exact⟨uA m (f.2 D d).1,(f.2 D d).2⟩
  ·exact h.2 D d
def E1(P:Program)(rd:Option Ref)(M:Mem)(ι:Map)(st:St)(a:Act)(w:World)(nt:Nat)(d:St)(b:Frame)(cs:List Frame)(m:Machine):Prop:=match rd with
 | none=>b.roundOf=none->b.kind = .normal ->∃i w' e ds,(∃M' ι',vH M' ι' d nt i w'/\tA M ι st.hp.get w M' ι' d.hp.get w')/\i.defers=marks ds++a.defers/\rT w w' ds /\
  Steps P m (lone { b.atR i e with mode := .returning} cs w')
 | some r =>∀l c f,ι r=some l->b.roundOf=some l.b->b.kind = .normal->cs=c :: f ->∃n h w',yZ d.hp r=some (n,h)/\n≠1 /\
  (∃M' ι',gA M' ι' d.hp.get w'/\tA M ι st.hp.get w M' ι' d.hp.get w'/\tB ι' d.hp)/\Steps P m (lone (c.finish (.bool (n == 0))) f w')
theorem E1.of_steps{P:Program}{rd:Option Ref}{M x:Mem}{ι e:Map}{st f j:St}{a I:Act}{w t:World}{nt:Nat}{b:Frame}{cs:List Frame}{m G:Machine}{ds:List Nat}
 (F:b.roundOf=none\/rd≠none->b.kind = .normal->Steps P m G) (z:gA x e f.hp.get t) (u:tA M ι st.hp.get w x e f.hp.get t) (Q:I.defers=marks ds++a.defers) (H:rT w t ds) (h:E1 P rd x e f I t nt j b cs G):E1 P rd M ι st a w nt j b cs m:=by
 unfold E1 at h ⊢
 cases rd with
 | none=>
  intro q i
  obtain⟨U,w',todo,v,⟨M',ι',V,p⟩,A,y,d⟩:=h q i
  refine⟨U,w',todo,v++ds,⟨M',ι',V,u.trans p⟩,?_,(H.fwd z p).append u.size (λD L=>(ij.1 (H.2 D L).2).1) y,(F (.inl q) i).trans d⟩
  rw[A,Q]
  simp[marks]
 | some r=>
  intro l c B K q J C
  obtain⟨n,inf,w',N,T,⟨M',ι',R,O,S⟩,d⟩:=h l c B (u.map r l K) q J C
  exact⟨n,inf,w',N,T,⟨M',ι',R,u.trans O,S⟩,(F (.inr (by simp)) J).trans d⟩
theorem tp{w w':World}:rT w w' []:=⟨List.nodup_nil,λD h=>by cases h⟩
def Nl(E:Env)(ok:Array Oper->Bool)(n:Nat):Prop:=
 ∀(rd:Option Ref)(nt dep:Nat)(c:List Item)(st d:St),cp E n rd nt dep c st=some d->(∀i∈c,ni ok i=true) ->∀(M:Mem)(ι:Map)(a:Act)(w:World),vH M ι st nt a w ->
  ∀(b:Frame)(cs:List Frame),E1 E.P rd M ι st a w nt d b cs (lone (b.atR a c) cs w)
theorem Mj{P:Program}{fr:Frame}{cs:List Frame} : ∀(ds:List Nat)(w:World),fr.mode = .returning->ds.Nodup->(∀D∈ds,w.heap[D]?=some (.deferred (some []))) ->
 ∃w',Steps P (lone { fr with defers:=marks ds} cs w) (lone { fr with defers:=[]} cs w')/\w'.os=w.os/\w'.tape=w.tape/\w'.output=w.output/\w'.heap.size=w.heap.size /\∀b,b ∉ ds->w'.heap[b]?=w.heap[b]?:=by
 intro ds
 induction ds with
 | nil=>intro w _ _ _;exact⟨w,Steps.refl _ _,rfl,rfl,rfl,rfl,λ_ _=>rfl⟩
 | cons D ds t=>
  intro w m f n
  have x:=run_takeDeferred (P:=P) (n D (gG ..))
  have c:=step_collected (P:=P) (fr := { fr with defers:=marks (D :: ds)}) (cs:=cs) (w:=w) (d := { target := .collected D,args := #[]}) (r:=D) (ds:=marks ds) (by simp[m]) rfl rfl x
  obtain⟨w',y,v,z,q,u,p⟩:=t (w.putObj D (.deferred none)) m (FC.1 f).2 (λA i=>by
   rw[World.putObj_heap_other (by intro e;subst e;exact(FC.1 f).1 i)]
   exact n A (fW _ i))
  refine⟨w',Steps.trans (.one c) (by simpa using y),v,z,q,by rw[u];simp,λb j=>?_⟩
  rw[p b (λh=>j (fW _ h)),World.putObj_heap_other (by intro e;subst e;exact j (gG ..))]
theorem gA.other{M:Mem}{ι:Map}{g:db}{w w':World}(e:gA M ι g w){ds:List Nat}(d : ∀D∈ds,w.heap[D]?=some (.deferred (some [])))(h : ∀b,b ∉ ds->w'.heap[b]?=w.heap[b]?):gA M ι g w':=by
 refine⟨λb o x n=>?_,λr k f=>?_,e.inj⟩
 ·have i:=e.mem b o x n
  have c:b ∉ ds:=by
   intro c
   have:=d b c
   simp[World.cell?,this]at i
  rw[World.cell?_of_block (w:=w) (h b c)]
  exact i
 ·obtain⟨l,j,c⟩:=e.live r k f
  exact⟨l,j,c.cz (λ_ _ _ h=>h) (λ_ _ h=>h) (h l.b λm=>GJ e (d _ m) r k l f j rfl) c.frozen⟩
theorem Jf{ok:Array Oper->Bool}(hE:E.Ok ok){n:Nat}(hn:Nl E ok n){dep:Nat}{f:FuncId}{args:List AV}{H H':ai}{x:AV}(h:vd E (cp E n) dep f args H=some (x,H')):qv E.P (.fn f) args H x H':=by
 unfold vd at h
 obtain⟨L,h⟩:=fa.1 h
 obtain⟨fn,j,y,z⟩:=hE.fns f L
 rw[j]at h
 simp only at h
 split at h
 ·rename_i c T
  obtain⟨hlen,h⟩:=fa.1 h
  split at h
  ·rename_i st K
   simp only[bO]at h
   obtain⟨x',J,h⟩:=h
   injection h with h1 G
   subst h1;subst G
   refine⟨⟨fn,j,y,by rw[T];rfl⟩,?_⟩
   intro M ι w us hS u X cs
   have Z:=X.1
   have hO:vH M ι ⟨args,H⟩ fn.ntmps { tmps:=us.toArray++Array.replicate (fn.ntmps - us.toArray.size) undef,defers:=[]} w:=by
    refine⟨hS,u,⟨?_⟩,by simp;omega⟩
    intro t
    rw[Iu,Bh]
    rcases fe t args.length with F | F
    ·rw[eC F,JF (by simp;omega),fQ]
     have W:us[t]?=some (us[t]'(by omega)):=eC _
     simp only[JB,W,fQ]
     exact X.2 t _ _ (eC F) W
    ·rw[xp F,Su (by simp;omega)]
     have : ∀k:Nat,((Array.replicate (fn.ntmps - us.toArray.size) undef)[k]?).getD undef=undef:=by
      intro k
      rw[JE]
      split<;>rfl
     rw[this]
     exact .v rfl
   let b:Frame := { (default:Frame)with fn:=f,kind := .normal}
   have p:Frame.enter E.P f us.toArray .normal=b.atR { tmps:=us.toArray++Array.replicate (fn.ntmps - us.toArray.size) undef,defers:=[]} [.code c]:=by
    simp[Frame.enter,Frame.atR,j,T,b]
    rfl
   obtain⟨B,w',todo,ds,⟨M',ι',e,m⟩,A,q,d⟩:=hn none fn.ntmps dep [.code c] ⟨args,H⟩ st K (by intro i V;simp at V;subst V;exact z c T) M ι _ w hO b cs rfl rfl
   rw[<-p]at d
   simp only[sV]at A
   obtain⟨Q,G,h3,h4,h5,h6,Y⟩:=Mj (P:=E.P) (fr := { b.atR B todo with mode := .returning}) (cs:=cs) ds w' rfl q.1 (λD u=>(q.2 D u).2)
   have N : { { b.atR B todo with mode := .returning} with defers:=marks ds} = { b.atR B todo with mode := .returning}:=by rw[<-show B.defers=marks ds from A];rfl
   rw[N]at G
   have C:=e.sim.other (λD u=>(q.2 D u).2) Y
   have S:tA M ι H.get w M' ι' st.hp.get Q:=by
    refine⟨h3.trans m.os,h4.trans m.tape,h5.trans m.output,by rw[h6];exact m.size,λU I O=>?_,m.mem,m.map,m.live,m.new⟩
    rw[Y U λu=>absurd (q.2 U u).1 (by omega)]
    exact m.chg U I O
   obtain⟨v,hr,R⟩:=Oj (w:=Q) ⟨C,e.dom,e.tr,e.nt⟩ J
   exact⟨.returned v,Q, { { b.atR B todo with mode := .returning} with defers:=[]},⟨v,rfl,M',ι',R,C,S,e.dom⟩,Steps.trans d G,rfl,rfl,rfl,rfl,fn,j,hr⟩
  ·cases h
 ·cases h
end
end Go.Ab
namespace Go.Ab
theorem EA{g:db}(r:Ref) : ∀(n m:Nat)(x y:AV)(u:List bA),view g n x=some y->aE r m y u=(y,u):=by
 intro n
 induction n with
 | zero=>intro m x y u h;simp[view]at h
 | succ n C=>
  intro m x y u h
  cases m with
  | zero=>rfl
  | succ m=>
   have e : ∀(cs ys d:List AV),cs.mapM (view g n)=some ys->ys.foldl (λ(p:List AV × List bA) c=>(p.1++[(aE r m c p.2).1],(aE r m c p.2).2)) (d,u)=(d++ys,u):=by
    intro cs
    induction cs with
    | nil=>intro ys d h;simp at h;subst h;simp
    | cons c cs z=>
     intro ys d h
     simp only[lX,sW,tM,gE]at h
     obtain⟨y,B,A,q,h⟩:=h
     simp at h
     subst h
     rw[vO,C m c y u B,z A (d++[y]) q]
     simp
   cases x with
   | agg cs=>
    simp only[view,bO]at h
    obtain⟨ys,q,rfl⟩:=h
    have:=e cs ys [] q
    simp only[aE]
    rw[this]
    simp
   | tup cs=>
    simp only[view,bO]at h
    obtain⟨ys,q,rfl⟩:=h
    have:=e cs ys [] q
    simp only[aE]
    rw[this]
    simp
   | v x=>simp[view]at h;subst h;rfl
   | cG=>simp[view]at h;subst h;rfl
   | iptr=>simp[view]at h;subst h;rfl
   | fsl=>simp[view]at h
   | cC r' off len cap=>
    simp only[view]at h
    split at h
    ·split at h
     ·cases h;rfl
     ·cases h
    ·cases h
   | ptr r' i j=>
    simp only[view]at h
    split at h
    ·split at h
     ·cases h;rfl
     ·simp only[bO]at h;obtain⟨_,_,rfl⟩:=h;rfl
    ·cases h
   | fn f a b=>
    simp only[view]at h
    split at h
    ·cases h;rfl
    ·cases h
   | ifc t x=>
    simp only[view,bO]at h
    obtain⟨y,B,rfl⟩:=h
    simp only[aE]
    rw[C m x y u B]
   | yld=>simp[view]at h
   | mp=>simp[view]at h
   | ch=>simp[view]at h
   | lp=>simp[view]at h
def bM(g:db):Nat->AV->List Ref
 | 0,_=>[]
 | n+1,x=>
  match x with
  | .agg cs | .tup cs=>cs.flatMap (bM g n)
  | .cC r 0 len _=>(match g r with | some b=>if b.k8 then [] else [r] | none=>[])
  | .mp r=>[r]
  | .ifc _ x=>bM g n x
  | _=>[]
def dp(g:db):Nat->AV->List Ref
 | 0,_=>[]
 | n+1,x=>
  match x with
  | .agg cs | .tup cs=>cs.flatMap (dp g n)
  | .cC r 0 len _=>(match g r with | some b=>if b.k8 then [r] else [] | none=>[r])
  | .mp _=>[]
  | .ifc _ x=>dp g n x
  | x=>ax g (n+1) x
theorem Ku{g:db} : ∀(n:Nat)(x:AV)(r:Ref),r∈bM g n x->r∈ax g n x:=by
 intro n
 induction n with
 | zero=>intro x r h;simp[bM]at h
 | succ n e=>
  intro x r h
  unfold bM at h
  split at h
  ·simp only[sa]at h
   obtain⟨c,b,d⟩:=h
   simp only[ax,sa]
   exact⟨c,b,e c r d⟩
  ·simp only[sa]at h
   obtain⟨c,b,d⟩:=h
   simp only[ax,sa]
   exact⟨c,b,e c r d⟩
  ·split at h
   ·split at h
    ·cases h
    ·simpa [ax] using h
   ·cases h
  ·simpa [ax] using h
  ·simp only[ax];exact e _ r h
  ·cases h
theorem G4{g:db} : ∀(n:Nat)(x:AV),(ax g n x).Nodup->(bM g n x).Nodup /\∀r∈bM g n x,r ∉ dp g n x:=by
 intro n
 induction n with
 | zero=>intro x h;simp[bM]
 | succ n C=>
  intro x h
  have i : ∀(n:Nat)(x:AV)(r:Ref),r∈dp g n x->r∈ax g n x:=by
   intro n
   induction n with
   | zero=>intro x r h;simp[dp]at h
   | succ n u=>
    intro x r h
    unfold dp at h
    split at h
    ·simp only[sa]at h
     obtain⟨c,A,f⟩:=h
     simp only[ax,sa]
     exact⟨c,A,u c r f⟩
    ·simp only[sa]at h
     obtain⟨c,A,f⟩:=h
     simp only[ax,sa]
     exact⟨c,A,u c r f⟩
    ·split at h
     ·split at h
      ·simpa [ax] using h
      ·cases h
     ·simpa [ax] using h
    ·cases h
    ·simp only[ax];exact u _ r h
    ·exact h
  have j : ∀cs:List AV,(cs.flatMap (ax g n)).Nodup->(cs.flatMap (bM g n)).Nodup /\∀r∈cs.flatMap (bM g n),r ∉ cs.flatMap (dp g n):=by
   intro cs
   induction cs with
   | nil=>intro _;simp
   | cons c cs y=>
    intro D
    rw[zu,Nt]at D
    obtain⟨H,I,B⟩:=D
    obtain⟨J,L⟩:=C c H
    obtain⟨K,F⟩:=y I
    have p : ∀r,r∈cs.flatMap (bM g n)->r∈cs.flatMap (ax g n):=by
     intro r f
     simp only[sa]at f ⊢
     obtain⟨d,z,f⟩:=f
     exact⟨d,z,Ku n d r f⟩
    have q : ∀r,r∈cs.flatMap (dp g n)->r∈cs.flatMap (ax g n):=by
     intro r f
     simp only[sa]at f ⊢
     obtain⟨d,z,f⟩:=f
     exact⟨d,z,i n d r f⟩
    refine⟨?_,?_⟩
    ·rw[zu,Nt]
     exact⟨J,K,λa G b v e=>B a (Ku n c a G) b (p b v) e⟩
    ·intro r f m
     rw[zu,nM]at f m
     rcases f with f | f<;>rcases m with m | m
     ·exact L r f m
     ·exact B r (Ku n c r f) r (q r m) rfl
     ·exact B r (i n c r m) r (p r f) rfl
     ·exact F r f m
  cases x with
  | agg cs=>simpa [bM,dp] using j cs (by simpa [ax] using h)
  | tup cs=>simpa [bM,dp] using j cs (by simpa [ax] using h)
  | cC r off len cap=>
   cases off with
   | zero=>
    simp only[bM,dp]
    cases N:g r with
    | none=>simp
    | some b=>cases v:b.k8<;>simp[v]
   | succ off=>simp[bM]
  | mp r=>simp[bM,dp]
  | ifc t x=>simpa [bM,dp] using C x (by simpa [ax] using h)
  | _=>simp[bM]
def Out(g:db)(q:Ref)(b:bA):Prop:=
 (∃k len,g q=some k/\k.k8=false/\k.arr=true/\b=⟨k.esz,k.es.take len,true,false⟩) \/∃k ents,g q=some k/\jO g q=some ents/\(∀e∈ents,flat depth e=true)/\b=bn ents
theorem IZ{g:db}{q:Ref}{ents:List AV}(h:jO g q=some ents) : ∃k,g q=some k/\k.esz=0/\k.es = .v (.bool true) :: ents:=by
 unfold jO at h
 split at h
 ·rename_i e f b
  cases h
  exact⟨_,b,rfl,rfl⟩
 ·cases h
theorem RW{M:Mem}{ι:Map}{g:db}{w:World}{R:List Ref}(hS:gA M ι g w)(r:Ref) : ∀(n:Nat)(x y:AV)(u:Value)(j:List bA),dL g n x=some y->VR M ι x u ->
 (∀q∈dp g n x,q∈R) ->
 ∃new:List bA,(aE r n y j).2=j++new/\new.length=(bM g n x).length /\
  (∀(i:Nat) q b,(bM g n x)[i]?=some q->new[i]?=some b->Out g q b) /\
  ∀z:List Loc,(∀(i:Nat) q l,(bM g n x)[i]?=some q->ι q=some l->z[j.length+i]?=some l)->VR (mZ M ι g w R) (lB r z) (aE r n y j).1 u:=by
 intro n
 induction n with
 | zero=>intro x y u j h;simp[dL]at h
 | succ n ih=>
  intro x y u j h N G
  have plain:view g (n+1) x=some y->bM g (n+1) x=[]->(∀q∈ax g (n+1) x,q∈R) ->∃new:List bA,(aE r (n+1) y j).2=j++new/\new.length=(bM g (n+1) x).length /\
   (∀(i:Nat) q b,(bM g (n+1) x)[i]?=some q->new[i]?=some b->Out g q b) /\
   ∀z:List Loc,(∀(i:Nat) q l,(bM g (n+1) x)[i]?=some q->ι q=some l->z[j.length+i]?=some l)->VR (mZ M ι g w R) (lB r z) (aE r (n+1) y j).1 u:=by
   intro L D O
   rw[EA r (n+1) (n+1) x y j L]
   exact⟨[],by simp,by rw[D];rfl,by rw[D];intro i q b A;simp at A,λz _=>(Cd hS (n+1) x y u L O N).up _⟩
  have I : ∀(cs ys:List AV)(us:List Value)(K:List AV)(j:List bA),cs.mapM (dL g n)=some ys->lR M ι cs us->(∀q∈cs.flatMap (dp g n),q∈R) ->
   ∃(new:List bA) (zs:List AV),ys.foldl (λ(p:List AV × List bA) c=>(p.1++[(aE r n c p.2).1],(aE r n c p.2).2)) (K,j)=(K++zs,j++new)/\new.length=(cs.flatMap (bM g n)).length /\
    (∀(i:Nat) q b,(cs.flatMap (bM g n))[i]?=some q->new[i]?=some b->Out g q b) /\
    ∀z:List Loc,(∀(i:Nat) q l,(cs.flatMap (bM g n))[i]?=some q->ι q=some l->z[j.length+i]?=some l)->lR (mZ M ι g w R) (lB r z) zs us:=by
   intro cs
   induction cs with
   | nil=>
    intro ys us K j X B _
    simp at X
    subst X
    have:us=[]:=Cb (by rw[<-B.1];rfl)
    subst this
    exact⟨[],[],by simp,rfl,by intro i q b A;simp at A,λ_ _=>lR.nil⟩
   | cons c cs ihc=>
    intro ys us K j X B W
    simp only[lX,sW,tM,gE]at X
    obtain⟨y,hy1,ys',J,Z⟩:=X
    simp at Z
    subst Z
    cases us with
    | nil=>have:=B.1;simp at this
    | cons u us=>
     have hvc:VR M ι c u:=B.2 0 c u rfl rfl
     have hvcs:lR M ι cs us:=⟨by have:=B.1;simpa using this,λi x v hx N=>B.2 (i+1) x v (by simpa using hx) (by simpa using N)⟩
     simp only[zu,nM]at W
     obtain⟨S,L,D,O,V⟩:=ih c y u j hy1 hvc (λq A=>W q (.inl A))
     obtain⟨new2,zs,h5,h6,h7,h8⟩:=ihc ys' us (K++[(aE r n y j).1]) (j++S) J hvcs (λq A=>W q (.inr A))
     refine⟨S++new2,(aE r n y j).1 :: zs,?_,?_,?_,?_⟩
     ·rw[vO]
      simp only
      rw[L,h5]
      simp
     ·simp[D,h6]
     ·intro i q b A Y
      rw[zu]at A
      rcases fe i (bM g n c).length with hi | hi
      ·rw[nN hi]at A
       rw[nN (by omega)]at Y
       exact O i q b A Y
      ·rw[o5 hi]at A
       rw[o5 (by omega),D]at Y
       exact h7 _ q b A Y
     ·intro z d
      refine lR.cons (V z ?_) (h8 z ?_)
      ·intro i q l A U
       refine d i q l ?_ U
       rw[zu,nN (iG.1 A).1]
       exact A
      ·intro i q l A U
       have:=d ((bM g n c).length+i) q l (by
        rw[zu,o5 (by omega),JD]
        exact A) U
       rw[oN,D,Jq]
       exact this
  cases x with
  | agg cs=>
   simp only[dL,bO]at h
   obtain⟨ys,J,rfl⟩:=h
   obtain⟨vs,rfl,B⟩:=N.Qr
   obtain⟨new,zs,L,D,O,V⟩:=I cs ys vs.toList [] j J B (by simpa [dp] using G)
   simp only[aE]
   rw[L]
   refine⟨new,rfl,by simpa [bM] using D,by simpa [bM] using O,λz d=>?_⟩
   have:=V z (by simpa [bM] using d)
   simpa using VR.rD.2 this
  | tup cs=>
   simp only[dL,bO]at h
   obtain⟨ys,J,rfl⟩:=h
   cases N with | tup h0 U hh=>
   rename_i vs
   obtain⟨new,zs,L,D,O,V⟩:=I cs ys vs.toList [] j J ⟨by simpa using U,λi x u hx hu=>hh i x u hx (by simpa using hu)⟩ (by simpa [dp] using G)
   simp only[aE]
   rw[L]
   refine⟨new,rfl,by simpa [bM] using D,by simpa [bM] using O,λz d=>?_⟩
   have:=V z (by simpa [bM] using d)
   simp only[tL]
   refine .tup ?_ (by simpa using this.1) λi c u hc hu=>this.2 i c u hc (by simpa using hu)
   intro e
   rw[e]at this
   have h5:=this.1
   simp at h5
   have h6:vs.size=0:=by omega
   rw[h6]at U
   exact h0 (Cb U)
  | cC q off len cap=>
   cases off with
   | succ off=>exact plain (by simpa [dL] using h) (by simp[bM]) (by simpa [dp] using G)
   | zero=>
    simp only[dL]at h
    split at h
    ·rename_i k Q
     obtain⟨⟨H,hlen⟩,h⟩:=fa.1 h
     injection h with h
     cases C:k.k8 with
     | true=>
      rw[C]at h
      simp only[if_true]at h
      refine plain ?_ (by simp[bM,Q,C]) (by
       intro q' f
       refine G q' ?_
       simp only[ax,uC]at f
       simp[dp,Q,C,f])
      simp only[view,Q,H]
      rw[if_pos ⟨trivial,by omega⟩]
      simp[<-h]
     | false=>
      rw[C]at h
      simp only[jH,if_false]at h
      subst h
      have m:bM g (n+1) (.cC q 0 len cap)=[q]:=by simp[bM,Q,C]
      cases N with | cC hr Y hs ha hc hn hkk hzl=>
      rename_i l a c
      have hl2:(k.es.take len).length=len:=by rw[sX];omega
      have T:k.esz≠0:=by
       obtain⟨l0,hl0,hbk⟩:=hS.live q k Q
       have:=hbk.pos H
       omega
      refine⟨[⟨k.esz,k.es.take len,true,false⟩],by simp[aE,T],by rw[m];rfl,?_,?_⟩
      ·intro i q' b f F
       rw[m]at f
       cases i with
       | succ i=>simp at f
       | zero=>
        simp at f F
        subst f;subst F
        exact .inl ⟨k,len,Q,C,H,rfl⟩
      ·intro z d
       have:=d 0 q l (by rw[m];rfl) hr
       simp only[aE,hl2,if_neg T]
       refine .cC (l:=l) ?_ Y hs ha hc hn hkk hzl
       unfold lB
       simpa using this
    ·cases h
  | v x=>exact plain (by simpa [dL] using h) (by simp[bM]) (by simpa [dp] using G)
  | cG=>exact plain (by simpa [dL] using h) (by simp[bM]) (by simpa [dp] using G)
  | iptr=>exact plain (by simpa [dL] using h) (by simp[bM]) (by simpa [dp] using G)
  | fsl=>exact plain (by simpa [dL] using h) (by simp[bM]) (by simpa [dp] using G)
  | ptr=>exact plain (by simpa [dL] using h) (by simp[bM]) (by simpa [dp] using G)
  | fn=>exact plain (by simpa [dL] using h) (by simp[bM]) (by simpa [dp] using G)
  | ifc t x=>
   simp only[dL,bO]at h
   obtain⟨y,X,rfl⟩:=h
   cases N with | ifc N=>
   obtain⟨new,L,D,O,V⟩:=ih x y _ j X N (by simpa [dp] using G)
   simp only[aE]
   exact⟨new,L,by simpa [bM] using D,by simpa [bM] using O,λz d => .ifc (V z (by simpa [bM] using d))⟩
  | yld=>simp[dL,view]at h
  | ch q=>simp[dL,view]at h
  | mp q=>
   simp only[dL]at h
   split at h
   ·rename_i ents hm
    obtain⟨hfl,h⟩:=fa.1 h
    injection h with h
    subst h
    have m:bM g (n+1) (.mp q)=[q]:=by simp[bM]
    cases N with | mp hr hz=>
    rename_i l
    obtain⟨k,Q,_,_⟩:=IZ hm
    refine⟨[bn ents],by simp[aE,bn],by rw[m];rfl,?_,?_⟩
    ·intro i q' b f F
     rw[m]at f
     cases i with
     | succ i=>simp at f
     | zero=>
      simp at f F
      subst f;subst F
      exact .inr ⟨k,ents,Q,hm,by simpa [fZ] using hfl,rfl⟩
    ·intro z d
     have:=d 0 q l (by rw[m];rfl) hr
     simp only[aE,if_true]
     refine .mp (l:=l) ?_ hz
     unfold lB
     simpa using this
   ·cases h
  | lp=>simp[dL,view]at h
theorem CP:ai.get []=λ_=>none:=by funext q;rfl
theorem Wa{M:Mem}{w:World}(c : ∀b o x,M b o=some x->w.cell? ⟨b,o,none⟩=some x):gA M ei (ai.get []) w:=
 ⟨c,(λr k h=>by rw[CP]at h;cases h),(λr r' k k' l d h=>by rw[CP]at h;cases h)⟩
theorem Xv:tB ei []:=λq l h=>by cases h
theorem LV{M:Mem}{w:World}(D : ∀b o x,M b o=some x->w.cell? ⟨b,o,none⟩=some x){H':ai}{v:Value}{w':World}{d:Mem}{c:Map}{x:AV}
 (G:VR d c x v) (q:gA d c H'.get w') (e:tA M ei (ai.get []) w d c H'.get w') {R:List Ref} {y:AV}
 (m : ∀r:Ref,∃f:List Loc,f.length=(aE r depth y []).2.length/\VR (mZ d c H'.get w' R) (lB r f) (aE r depth y []).1 v /\
  (∀(k:Nat) l b,f[k]?=some l->(aE r depth y []).2[k]?=some b->oV (mZ d c H'.get w' R) ei w' l b/\w.heap.size<=l.b) /\
  ∀(i j:Nat) l l',f[i]?=some l->f[j]?=some l'->l.b=l'.b->i=j):zl M w y v (mZ d c H'.get w' R) w':=by
 obtain⟨A,p⟩:=Ax (R:=R) q
 have n:=e.trans p
 refine⟨e.os,e.tape,e.output,e.size,λb u=>e.chg b u (λr k l h=>by rw[CP]at h;cases h),n.mem,ze q.mem,?_,m⟩
 intro b o z t
 rcases n.new b o z t with h | h | ⟨F,B,C,h,_⟩
 ·exact .inl h
 ·exact .inr h
 ·rw[CP]at h;cases h
theorem Md{M:Mem}{w:World}{H':ai}{w':World}{d:Mem}{c:Map}(e:tA M ei (ai.get []) w d c H'.get w'){r:Ref}{k:bA}{l:Loc}(f:H'.get r=some k)(i:c r=some l):w.heap.size<=l.b:=by
 rcases e.live r k l f i with h | ⟨n,j,m,h,_⟩
 ·exact h
 ·rw[CP]at h;cases h
theorem Out.live{g:db}{q:Ref}{b:bA}(h:Out g q b) : ∃k,g q=some k:=by
 rcases h with ⟨k,_,c,_⟩ | ⟨k,_,c,_⟩<;>exact⟨k,c⟩
theorem RT : ∀(n:Nat)(x:AV),flat n x=true->flat (n+1) x=true:=by
 intro n
 induction n with
 | zero=>intro x h;simp[flat]at h
 | succ n e=>
  intro x h
  cases x with
  | v x=>rfl
  | agg cs=>simp only[flat,fZ]at h ⊢;exact λc d=>by have:=e c (h c d);simpa [flat] using this
  | tup cs=>simp only[flat,fZ]at h ⊢;exact λc d=>by have:=e c (h c d);simpa [flat] using this
  | ifc t x=>have:=e x (by simpa [flat] using h);simpa [flat] using this
  | fn f a b=>
   simp only[flat,aZ,fZ]at h ⊢
   exact⟨λc d=>by have:=e c (h.1 c d);simpa [flat] using this,λc d=>by have:=e c (h.2 c d);simpa [flat] using this⟩
  | _=>simp[flat]at h
theorem UT{cs:List AV}(h:flat depth (.tup cs)=true){c:AV}(b:c∈cs):flat depth c=true:=by
 have d:depth=(depth - 1)+1:=rfl
 rw[d]at h ⊢
 simp only[flat,fZ]at h
 exact RT _ c (h c b)
theorem wb{E:Env}{ok:Array Oper->Bool}(hE:E.Ok ok){n:Nat}(hn:Nl E ok n){f:FuncId}{args:List AV}{y:AV}(h:dq E (cp E n) f args=some y):kJ E.P f args y:=by
 unfold dq at h
 split at h
 ·rename_i s hs
  cases h
  exact hE.specs f args y hs
 ·split at h
  ·rename_i x H' hc
   obtain⟨hfn,G⟩:=Jf hE hn hc
   refine⟨hfn,λM w us hm hvs=>?_⟩
   refine(G M ei w us (Wa hm) Xv hvs).mono λe w' ⟨v,p,M1,ι1,hv,hS,hF,hD⟩=>⟨v,?_⟩
   split at h
   ·obtain⟨hnd,h⟩:=fa.1 h
    obtain⟨V,U⟩:=G4 depth x hnd
    refine⟨_,p,LV (R:=dp H'.get depth x) hm hv hS hF λr=>?_⟩
    obtain⟨new,h1,h2,h3,h4⟩:=RW (R:=dp H'.get depth x) hS r depth x y v [] h hv (λq t=>t)
    rw[tL]at h1
    let c:Ref->Loc:=λq=>(ι1 q).getD ⟨0,0,0⟩
    refine⟨(bM H'.get depth x).map c,by rw[h1];simp[h2],h4 _ ?_,?_,?_⟩
    ·intro i q l t I
     simp only[Fk,uy,oM,t,Option.map_some,c,I,fQ]
    ·intro i l b I hb
     rw[h1]at hb
     simp only[oM,bO]at I
     obtain⟨q,t,B⟩:=I
     rcases h3 i q b t hb with ⟨k,len,A,hfr,F,rfl⟩ | ⟨k,ents,A,D,hfl,rfl⟩
     rotate_left
     ·obtain⟨L,d,m⟩:=hS.live q k A
      have:l=L:=by rw[<-B];simp[c,d]
      subst this
      have Z:l.esz=0:=by
       obtain⟨k1,S,hz1,_⟩:=IZ D
       rw[A]at S;cases S
       rw[m.esz];exact hz1
      obtain⟨a,f,entries,hg,Y,hsz,K,_⟩:=A0 hS D d Z
      refine⟨m8.Sg (.inr (.inl ⟨ents,entries,rfl,rfl,rfl,Y,hsz,λi' ent e p he'=>?_⟩)) Z (λo z hx=>?_),Md hF A d⟩
      ·obtain⟨ka,va,e1,e2,e3⟩:=K i' ent e p he'
       subst e1
       refine⟨ka,va,rfl,e2,A3 depth va _ ?_ e3.1,e3.2⟩
       have:=hfl _ (fC p)
       exact UT this (by simp)
      ·have:=(Ax (R:=dp H'.get depth x) hS).1.mem _ _ _ hx
       simp[World.cell?,Y]at this
     obtain⟨L,d,m⟩:=hS.live q k A
     have:l=L:=by rw[<-B];simp[c,d]
     subst this
     refine⟨?_,Md hF A d⟩
     have O:=m.pos F
     replace m:=m.cellsOk O
     obtain⟨arr,T,fz,Y,g1,g2,g3⟩:=m.heap
     refine fV.Sg (k:=⟨k.esz,k.es.take len,true,false⟩) ⟨m.esz,⟨arr,T,fz,Y,g1,g2,?_⟩,by have:=m.len;simp;omega,λe p=>m.cells e (zw p),?_⟩ O
     ·intro i' j e x' p hx
      simp only at p
      rw[Bg]at p
      split at p
      ·obtain⟨u,hu,ho,N⟩:=g3 i' j e x' p hx
       rw[bA.map,if_pos F]at N
       exact⟨u,hu,ho,by rw[bA.map,if_pos rfl];exact N.mono wy _ (λ_ _ h=>h)⟩
      ·cases p
     ·intro o z Z
      exfalso
      rcases BW Z with h5 | ⟨r',hr',k',Q,hg',hl',hb',ho⟩
      ·have:=(m.frozen o z h5).1
       rw[hfr]at this
       cases this
      ·have e:=hS.inj r' q k' k Q l hg' A hl' d hb'
       subst e
       exact U r' (fC t) hr'
    ·intro i j l Q X hj hb
     simp only[oM,bO]at X hj
     obtain⟨q,t,B⟩:=X
     obtain⟨q',H,J⟩:=hj
     have hi2:i<new.length:=by rw[h2];exact(iG.1 t).1
     have hj2:j<new.length:=by rw[h2];exact(iG.1 H).1
     obtain⟨k,A⟩:=(h3 i q _ t (eC hi2)).live
     obtain⟨k',W⟩:=(h3 j q' _ H (eC hj2)).live
     obtain⟨L,d,_⟩:=hS.live q k A
     obtain⟨l0',C,_⟩:=hS.live q' k' W
     have e1:l=L:=by rw[<-B];simp[c,d]
     have e2:Q=l0':=by rw[<-J];simp[c,C]
     subst e1;subst e2
     have e:=hS.inj q q' k k' l Q A W d C hb
     subst e
     exact(List.getElem?_inj (iG.1 t).1 V).1 (by rw[t,H])
   ·refine⟨_,p,LV (R:=ax H'.get depth x) hm hv hS hF λr=>?_⟩
    rw[EA r depth depth x y [] h]
    exact⟨[],rfl,(Cd hS depth x y v h (λq t=>t) hv).up _,by intro k l b I;simp at I,by intro i j l Q X;simp at X⟩
  ·cases h
theorem N7 : ∀(ps:List Tmp)(xs:List AV)(tm:List AV)(us:List Value)(tmps:Array Value),((ps.zip us).foldl (λtmps (p:Tmp × Value)=>tmps.setIfInBounds p.1 p.2) tmps).size=tmps.size:=by
 intro ps
 induction ps with
 | nil=>intro xs tm us tmps;rfl
 | cons p ps b=>
  intro xs tm us tmps
  cases us with
  | nil=>rfl
  | cons u us=>simp only[Nw,vO];rw[b [] [] us];simp
theorem QF{M:Mem}{ι:Map}{nt:Nat} : ∀(ps:List Tmp)(xs:List AV)(us:List Value)(tm:List AV)(tmps:Array Value),xs.length=ps.length->lR M ι xs us->(∀p∈ps,p<nt)->tmps.size=nt->(∀t,VR M ι (cY tm t) (tmps.getD t undef)) ->
 ∀t,VR M ι (cY (wU tm ps xs) t) (((ps.zip us).foldl (λtmps (p:Tmp × Value)=>tmps.setIfInBounds p.1 p.2) tmps).getD t undef):=by
 intro ps
 induction ps with
 | nil=>intro xs us tm tmps j c hp e h t;cases xs<;>exact h t
 | cons p ps m=>
  intro xs us tm tmps j c hp e h t
  cases xs with
  | nil=>simp at j
  | cons x xs=>
   cases us with
   | nil=>have:=c.1;simp at this
   | cons u us=>
    simp only[Nw,vO,wU]
    refine m xs us _ _ (by simpa using j) ⟨by have:=c.1;simpa using this,λi y v z d=>c.2 (i+1) y v (by simpa using z) (by simpa using d)⟩ (λq n=>hp q (fW _ n)) (by simpa using e) ?_ t
    intro t'
    have f:=hp p (gG ..)
    rw[oC,Bh]
    by_cases b:t'=p
    ·subst b
     rw[if_pos rfl,Fs (by rw[e];exact f)]
     exact c.2 0 x u rfl rfl
    ·rw[if_neg b,Bi (sA b),<-Bh]
     exact h t'
theorem Ik(ps:Array Tmp)(us:Array Value)(tmps:Array Value):(ps.zip us).foldl (λtmps (t,a)=>tmps.setIfInBounds t a) tmps=(ps.toList.zip us.toList).foldl (λtmps (p:Tmp × Value)=>tmps.setIfInBounds p.1 p.2) tmps:=by
 rw[<-Nx,Array.toList_zip]
theorem Oh{E:Env}{ok:Array Oper->Bool}(V:E.Ok ok){n dep:Nat}(W:Nl E ok n){r:Ref}{args:List AV}{H H':ai}{y:AV}(h:AW E (cp E n) dep r args H=some (y,H')):qv E.P (.yld r) args H y H':=by
 unfold AW at h
 split at h
 ·rename_i f nt ps assign body tm F
  obtain⟨⟨O,G,u,x⟩,h⟩:=fa.1 h
  split at h
  ·rename_i st B
   intro M ι w us l L K A I
   obtain⟨Z,ps',as',R,tm',d,e,g1,N,Y,g4,Q,S,g7,_,_⟩:=A1 L K I F
   cases e
   have C:us.toArray.size=d.params.size:=by rw[N];simp;rw[<-O];exact A.1.symm
   refine⟨_,_,_,_,run_yield g1 C,trivial,λc cs _=>?_⟩
   let b:Frame := { (default:Frame)with fn:=d.fn,kind := .normal,roundOf:=some l.b}
   have j : ∀tmps,Frame.round l.b d.fn tmps d.assign d.body .normal=b.atR { tmps:=tmps,defers:=[]} [.code assign,.beginRound,.code body]:=by
    intro tmps
    simp[Frame.round,Frame.atR,b,Y,g4]
   rw[j]
   have hO:vH M ι ⟨wU tm ps args,H⟩ nt { tmps:=(d.params.zip us.toArray).foldl (λtmps (t,a)=>tmps.setIfInBounds t a) d.tmps,defers:=[]} w:=by
    refine⟨L,K,⟨?_⟩,?_⟩
    ·intro t
     show VR M ι _ (((d.params.zip us.toArray).foldl (λtmps (t,a)=>tmps.setIfInBounds t a) d.tmps).getD t undef)
     rw[Ik,N]
     exact QF ps args us tm d.tmps O A (λp hp=>by have:=fZ.1 G p hp;simpa using this) Q S t
    ·show((d.params.zip us.toArray).foldl (λtmps (t,a)=>tmps.setIfInBounds t a) d.tmps).size=nt
     rw[Ik,N7 _ [] []]
     exact Q
   have z:=V.same
   obtain⟨m,inf,w',T,h2,⟨M',ι',X,U,h5⟩,h6⟩:=W (some r) nt dep _ _ st B (by
    intro i J
    simp only[nw,Du,or_false]at J
    rcases J with rfl | rfl | rfl
    ·rw[<-z];exact u
    ·rfl
    ·rw[<-z];exact x) M ι _ w hO b (c :: cs) l c cs I rfl rfl rfl
   rw[T]at h
   have q:Comes E.P (lone (b.atR { tmps:=(d.params.zip us.toArray).foldl (λtmps (t,a)=>tmps.setIfInBounds t a) d.tmps,defers:=[]} [.code assign,.beginRound,.code body]) (c :: cs) w) (lone (c.finish (.bool (m == 0))) cs w') (.returned (.bool (m == 0))):=h6
   have D:y = .v (.bool (m == 0))/\H'=st.hp:=by
    rcases m with _ | _ | m
    ·simp only[dR,xk]at h;exact⟨h.1.symm,h.2.symm⟩
    ·exact absurd rfl h2
    ·simp only[dR,xk]at h;exact⟨h.1.symm,h.2.symm⟩
   obtain⟨rfl,rfl⟩:=D
   exact⟨.returned (.bool (m == 0)),w',⟨_,rfl,M',ι',.v rfl,X,U,h5⟩,comesIn_wide.2 q⟩
  ·cases h
 ·cases h
theorem yP{E:Env}{ok:Array Oper->Bool}(c:E.Ok ok){n dep:Nat}(d:Nl E ok n){t:xd}{args:List AV}{H H':ai}{y:AV}(h:eS E (cp E n) dep t args H=some (y,H')):qv E.P t args H y H':=by
 unfold eS at h
 cases t with
 | fn f=>
  simp only at h
  cases b:E.thrSpec f args H with
  | some z=>rw[b]at h;cases h;exact c.thrs f args H y H' b
  | none=>
   rw[b]at h
   obtain⟨_,h⟩:=fa.1 h
   exact Jf c d h
 | yld r=>exact Oh c d h
theorem DK{E:Env}{ok:Array Oper->Bool}(hE:E.Ok ok) : ∀n,Nl E ok n:=by
 intro n
 induction n with
 | zero=>intro rd nt dep A st B h;simp[cp]at h
 | succ n ih=>
  intro rd nt dep A st B h hi M ι a w F b cs
  have X : ∀(q:List Item)(h':cp E n rd nt dep q st=some B),(∀i∈q,ni ok i=true)->Steps E.P (lone (b.atR a A) cs w) (lone (b.atR a q) cs w) ->
   E1 E.P rd M ι st a w nt B b cs (lone (b.atR a A) cs w):=by
   intro q h' p O
   exact E1.of_steps (ds:=[]) (λ_ _=>O) F.sim tA.refl rfl tp (ih rd nt dep q st B h' p M ι a w F b cs)
  have R : ∀(j:Nat)(z:Option Code),j≠1->(z.isNone=(j == 0))->(∀G:Loop,Cr j { G with state:=if z.isNone then .ready else .done,pending:=z})->wX rd st j=some B->rd≠none ->
   (∀l c L v w',b.roundOf=some l->b.kind = .normal->cs=c :: L->(Instr.endRound l z).run E.P w = .ok v w'->Steps E.P (lone (b.atR a A) cs w) (lone (c.finish v) L w'))->E1 E.P rd M ι st a w nt B b cs (lone (b.atR a A) cs w):=by
   intro j z hj hjn J h hrd O
   cases rd with
   | none=>exact absurd rfl hrd
   | some r=>
    unfold wX at h
    simp only at h
    split at h
    ·rename_i Y C
     cases h
     intro l c L hr u N K
     obtain⟨_,_,_,_,_,G,_,g1,_,_,_,_,_,_,g8,_⟩:=A1 F.sim F.dom hr C
     obtain⟨k1,k2,k3⟩:=g8 j { G with state:=if z.isNone then .ready else .done,pending:=z} ⟨rfl,rfl,rfl,rfl⟩ (J G)
     refine⟨j,Y,_,?_,hj,⟨M,ι,k1,k2,k3⟩,?_⟩
     ·simp[yZ,ai.get_put,kz]
     ·rw[<-hjn]
      exact O l.b c L _ _ u N K (run_endRound z g1)
    ·cases h
  unfold cp at h
  split at h
  ·cases rd with
   | none=>
    injection h with h
    subst h
    intro u _
    exact⟨a,w,[],[],⟨M,ι,F,tA.refl⟩,rfl,tp,.one (stepR_end u)⟩
   | some r=>
    exact R 0 none (by omega) rfl (λG=>⟨rfl,rfl⟩) h (by simp) λl c L v w' u N K hr=>by subst K;exact .one (stepR_round_end u N hr)
  ·rename_i k
   have N : ∀i∈k,ni ok i=true:=λi h=>hi i (fW _ h)
   cases rd with
   | none=>cases h
   | some r=>
    simp only at h
    split at h
    ·rename_i Y C
     intro l c L hr u hkd K
     obtain⟨_,_,_,_,_,G,_,g1,_,_,_,_,_,g7,g8,_⟩:=A1 F.sim F.dom hr C
     obtain⟨k1,k2,k3⟩:=g8 1 { G with state := .busy} ⟨rfl,rfl,rfl,rfl⟩ rfl
     have O:Steps E.P (lone (b.atR a (.beginRound :: k)) cs w) (lone (b.atR a k) cs (bQ w l.b (.loop { G with state := .busy}))) := .one (stepR_beginRound u (run_beginRound g1 g7.1))
     exact E1.of_steps (rd:=some r) (ds:=[]) (λ_ _=>O) k1 k2 rfl tp (ih (some r) nt dep k _ B h N M ι a _ ⟨k1,k3,F.tr,F.nt⟩ b cs) l c L hr u hkd K
    ·cases h
  ·rename_i c k
   have T:codeOk ok c=true:=hi _ (gG ..)
   have N : ∀i∈k,ni ok i=true:=λi h=>hi i (fW _ h)
   have two : ∀ {x y:Item},ni ok x=true->ni ok y=true ->∀i∈x :: y :: k,ni ok i=true:=by
    intro x y hx hy i p
    rcases nw.1 p with rfl | p
    ·exact hx
    ·rcases nw.1 p with rfl | p
     ·exact hy
     ·exact N i p
   have one : ∀ {x:Item},ni ok x=true ->∀i∈x :: k,ni ok i=true:=by
    intro x hx i p
    rcases nw.1 p with rfl | p
    ·exact hx
    ·exact N i p
   split at h
   ·exact X k h N (.one stepR_skip)
   ·exact X k h N (.one stepR_label)
   ·cases rd with
    | none=>
     simp only[wX,if_true]at h
     injection h with h
     subst h
     intro u _
     exact⟨a,w,_,[],⟨M,ι,F,tA.refl⟩,rfl,tp,.one (stepR_ret u)⟩
    | some r=>exact R 2 (some .ret) (by omega) rfl (λG=>⟨rfl,rfl⟩) h (by simp) λl c L v w' u N K hr=>by subst K;exact .one (stepR_round_ret u N hr)
   ·rename_i x y
    simp only[codeOk,aZ]at T
    exact X _ h (two T.1 T.2) (.one stepR_seq)
   ·rename_i cnd x y
    simp only[codeOk,aZ]at T
    split at h
    ·rename_i u
     simp only[gE]at u
     obtain⟨cv,h1,h2⟩:=u
     exact X _ h (one T.1) (.one (stepR_cond (A6 (aX F.tr h1) h2)))
    ·rename_i u
     simp only[gE]at u
     obtain⟨cv,h1,h2⟩:=u
     exact X _ h (one T.2) (.one (stepR_cond (A6 (aX F.tr h1) h2)))
    ·cases h
   ·exact X _ h (two (by simpa [codeOk,ni] using T) rfl) (.one stepR_block)
   ·exact X _ h (two (by simpa [codeOk,ni] using T) rfl) (.one (step_lone_go (by simp[stepG,stepG.exec,Frame.atR])))
   ·exact X _ h (two (by simpa [codeOk,ni] using T) (by simpa [codeOk,ni] using T)) (.one stepR_loop)
   ·rename_i id
    split at h
    ·rename_i k' S
     exact X _ h (Jb S N) (.one (stepR_exit S))
    ·rename_i S
     cases rd with
     | none=>simp at h
     | some r=>exact R (id+3) (some (.exit id)) (by omega) (by simp) (λG=>⟨rfl,rfl⟩) (by simpa using h) (by simp) λl c L v w' u hkd K hr=>by subst K;exact .one (stepR_round_exit u hkd S hr)
   ·rename_i id ops Z
    split at h
    ·rename_i U hst1
     have hap:Z=true->sT E ops U=true:=by
      intro hd
      cases u:sT E ops U with
      | true=>rfl
      | false=>rw[hd,u]at h;simp at h
     replace h:cp E n rd nt dep k U=some B:=by
      split at h
      ·cases h
      ·exact h
     have hpc : ∀f xs y,dq E (cp E n) f xs=some y->kJ E.P f xs y:=λf xs y h=>wb hE ih h
     have htc : ∀f xs H y H',eS E (cp E n) dep f xs H=some (y,H')->qv E.P f xs H y H':=λf xs H y H' h=>yP hE ih h
     have hreg : ∃a1 w1,kV M ι st a w nt U a1 w1/\(b.kind = .normal->Steps E.P (lone (b.atR a (.code (.region id ops Z) :: k)) cs w) (lone (b.atR a1 k) cs w1)):=by
      cases Z with
      | false=>exact CB hpc htc hE.overs b k cs hst1 F
      | true=>
       have hwp:(Code.region id ops true).wpIn (FW b.roundOf) 0 E.P (λe a' w'=>e = .normal/\kV M ι st a w nt U a' w') a w:=
        hE.draws ops (by simpa [codeOk] using T) hpc htc nt dep id st U M ι a w b.roundOf _ hst1 (hap rfl) F λa' w' J=>⟨rfl,J⟩
       obtain⟨a1,w1,h1,h2⟩:=Lg b hwp k cs
       exact⟨a1,w1,h1,λ_=>h2⟩
     obtain⟨a1,w1,⟨⟨M1,ι1,hO1,hF1⟩,hd1⟩,O⟩:=hreg
     exact E1.of_steps (ds:=[]) (λ_=>O) hO1.sim hF1 hd1 tp (ih rd nt dep k U B h N M1 ι1 a1 w1 hO1 b cs)
    ·cases h
   ·rename_i g ps assign body
    simp only[codeOk,aZ]at T
    split at h
    ·rename_i gi first captured hg
     split at h
     ·rename_i x H' hcall
      obtain⟨hS1,hF1,hD1,hmk⟩:=UD (d:=dep) (ps:=ps) (assign:=assign) (body:=body) (fn:=b.fn) F.sim F.dom F.tr F.nt rfl
      obtain⟨hfn,hthr⟩:=yP hE ih hcall
      obtain⟨a',b',hfv,hva,hvb⟩:=(aX F.tr hg).Xp
      have hmv:=λ{xs us} (h:lR M ι xs us)=>h.mono (λ_ _ _ h=>h) hF1.map
      have hyl:VR M (iU ι ⟨dep,nt,st.hp.gen dep nt,0⟩ ⟨w.heap.size+1,0,0⟩) (.yld ⟨dep,nt,st.hp.gen dep nt,0⟩) (.func (.yield (w.heap.size+1)) #[] #[]) := .yld (l:=⟨w.heap.size+1,0,0⟩) (by simp[iU]) rfl
      have hall:=((hmv hva).append (lR.cons hyl lR.nil)).append (hmv hvb)
      have V:=hthr M _ _ _ hS1 hD1 hall
      rw[show(a'.toList++[Value.func (.yield (w.heap.size+1)) #[] #[]]++b'.toList).toArray=a' ++ #[Value.func (.yield (w.heap.size+1)) #[] #[]]++b' by apply Fu;simp]at V
      intro u
      let c1:Frame:=b.atR { a with defers:=[{ target := .collected w.heap.size,args := #[]}]++a.defers} (.inRangeFunc (w.heap.size+1) :: k)
      have henter:=stepR_rangeFunc (P:=E.P) (b:=b) (a:=a) (k:=k) (cs:=cs) (w:=w) (g:=g) (ps:=ps) (assign:=assign) (body:=body) (l:=w.heap.size+1) (mark:=[{ target := .collected w.heap.size,args := #[]}])
       (d := { target := .fn (.func gi) b',args:=a' ++ #[Value.func (.yield (w.heap.size+1)) #[] #[]]}) (f:=gi) (args:=a' ++ #[Value.func (.yield (w.heap.size+1)) #[] #[]]++b')
       (by rw[u];exact run_enterLoop_outer b.fn a.tmps ps assign body) (by have hev : ∀x,a.eval (.const x)=x:=λ_=>rfl;simp[resolve,rangeCall,hfv,Deferred.ofValue,hev];rfl) (by simp[invoke,Es hfn];rfl)
      obtain⟨e,w3,fr,⟨v,he,M3,W,hv3,hS3,hF3,hD3⟩,hcomes,hfr,hleave⟩:=V (c1 :: cs)
      subst he
      have hs1:Steps E.P (lone (b.atR a (.code (.rangeFunc g ps assign body) :: k)) cs w) (lone (c1.finish v) cs w3):=Steps.trans (.one henter) (Steps.trans hcomes (.one (step_leave_returned hleave)))
      have hfin:c1.finish v=b.atR { a with defers:=[{ target := .collected w.heap.size,args := #[]}]++a.defers} (.endRangeFunc (w.heap.size+1) :: k):=finish_atR_inRangeFunc _ v
      rw[hfin]at hs1
      have hF13:=hF1.trans hF3
      have hr3:W ⟨dep,nt,st.hp.gen dep nt,0⟩=some ⟨w.heap.size+1,0,0⟩:=hF3.map _ _ (by simp[iU])
      have hmk3:w3.heap[w.heap.size]?=some (.deferred (some [])):=by
       rw[hF3.chg _ (ij.1 hmk).1 (GJ hS1 hmk)]
       exact hmk
      have I : ∀ {m:Nat} {Y:AV},yZ H' ⟨dep,nt,st.hp.gen dep nt,0⟩=some (m,Y)->m≠1 ->∃G:Loop,∃w4,Cr m G /\
       Steps E.P (lone (b.atR a (.code (.rangeFunc g ps assign body) :: k)) cs w) (lone (b.atR { a with defers:=[{ target := .collected w.heap.size,args := #[]}]++a.defers} ((G.pending.map Item.code).toList++k)) cs w4) /\
       vH M3 W ⟨st.tm,H'.put ⟨dep,nt,st.hp.gen dep nt,0⟩ none⟩ nt { a with defers:=[{ target := .collected w.heap.size,args := #[]}]++a.defers} w4/\tA M ι st.hp.get w M3 W (H'.put ⟨dep,nt,st.hp.gen dep nt,0⟩ none).get w4 /\
       rT w w4 [w.heap.size]:=by
       intro m Y C hm
       obtain⟨_,_,_,_,_,G,_,g1,_,_,_,_,_,g7,_,g9⟩:=A1 hS3 hD3 hr3 C
       obtain⟨k1,k2,k3⟩:=g9 { G with state := .exhausted}
       have hnb:G.state ≠ .busy:=by
        match m,hm with
        | 0,_=>rw[g7.1];simp
        | 1,hm=>exact absurd rfl hm
        | 2,_=>rw[g7.1];simp
        | m+3,_=>rw[g7.1];simp
       refine⟨G,_,g7,Steps.trans hs1 (.one (stepR_endRangeFunc (run_endLoop g1 hnb))),⟨k1,k3,⟨λt=>(F.tr.mono hF13.mem hF13.map).at_ t⟩,F.nt⟩,hF13.trans k2,⟨by simp,λD hD=>?_⟩⟩
       simp only[uC]at hD
       subst hD
       refine⟨bD _,?_⟩
       show(bQ w3 (w.heap.size+1) _).heap[w.heap.size]?=_
       rw[eE (by omega)]
       exact hmk3
      split at h
      ·rename_i C
       obtain⟨G,w4,J,O,Q,hF4,hM4⟩:=I C (by omega)
       rw[J.2]at O
       exact E1.of_steps (rd:=none) (ds:=[w.heap.size]) (λ_ _=>O) Q.sim hF4 rfl hM4 (ih none nt dep k _ B h N M3 W _ w4 Q b cs) u
      ·rename_i C
       obtain⟨G,w4,J,O,Q,hF4,hM4⟩:=I C (by omega)
       rw[J.2]at O
       cases h
       intro _
       exact⟨_,w4,_,[w.heap.size],⟨M3,W,Q,hF4⟩,rfl,hM4,Steps.trans O (.one (stepR_ret u))⟩
      ·rename_i id C
       obtain⟨G,w4,J,O,Q,hF4,hM4⟩:=I C (by omega)
       rw[J.2]at O
       split at h
       ·rename_i k' S
        exact E1.of_steps (rd:=none) (ds:=[w.heap.size]) (λ_ _=>Steps.trans O (.one (stepR_exit S))) Q.sim hF4 rfl hM4 (ih none nt dep k' _ B h (Jb S N) M3 W _ w4 Q b cs) u
       ·cases h
      ·cases h
     ·cases h
    ·cases h
   ·cases h
  ·rename_i c k
   have T:codeOk ok c=true:=hi _ (gG ..)
   have N : ∀i∈k,ni ok i=true:=λi h=>hi i (fW _ h)
   refine X _ h ?_ (.one stepR_inLoop)
   intro i p
   rcases nw.1 p with rfl | p
   ·exact T
   ·rcases nw.1 p with rfl | p
    ·exact T
    ·exact N i p
  ·rename_i id k
   exact X k h (λi h=>hi i (fW _ h)) (.one stepR_inBlock)
  ·rename_i id k
   exact X k h (λi h=>hi i (fW _ h)) (.one (step_lone_go (by simp[stepG,stepG.exec,Frame.atR])))
  ·cases h
theorem XA{E:Env}{ok:Array Oper->Bool}(b:E.Ok ok){n:Nat}{f:FuncId}{args:List AV}{y:AV}(h:dq E (cp E n) f args=some y):kJ E.P f args y:=wb b (DK b n) h
end Go.Ab
