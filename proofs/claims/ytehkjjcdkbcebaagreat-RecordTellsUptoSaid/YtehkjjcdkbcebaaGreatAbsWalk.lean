/-
  Maps of the abstract machine against the model's. No statement of a seat is proved here.
-/
import Derived.Conc.LoneCalls
import Derived.Test.YtehkjjcdkbcebaaGreatAbsOps
set_option linter.unusedVariables false
set_option linter.unusedSimpArgs false
set_option linter.unusedSectionVars false
set_option linter.unnecessarySimpa false
namespace Go.Ab
section
theorem bq{c d:Type}{P:Program}(s:Sem c)(f:c->Sem d):aV P (s >>= f)=(aV P s).bind λa=>aV P (f a):=by
 induction s with
 | pure a=>rfl
 | program k b=>exact b P
 | mark m k b=>exact b
 | _=>rfl
theorem tL{b:Type}{P:Program}(a:b):aV P (pure a:Sem b)=some a:=rfl
def dummy(es:List MapEntry):List MapEntry:=es.map λe=>⟨e.key,Go.undef,0⟩
theorem Dp{d:TypeDesc}{k:Value} : ∀(es:List MapEntry)(i:Nat),(Instr.findNow d k es i=none↔Instr.findNow d k (dummy es) i=none)/\(Instr.findNow d k es i=some none↔Instr.findNow d k (dummy es) i=some none) /\
 ∀j v,Instr.findNow d k (dummy es) i=some (some (j,v))->i<=j /\∃e,es[j - i]?=some e/\Instr.findNow d k es i=some (some (j,e.val)):=by
 intro es
 induction es with
 | nil=>intro i;simp[dummy,Instr.findNow]
 | cons e es q=>
  intro i
  obtain⟨s,f,n⟩:=q (i+1)
  simp only[dummy,tk,Instr.findNow]
  cases t:Instr.sameNow d k e.key with
  | none=>simp
  | some b=>
   cases b with
   | true=>
    refine⟨by simp,by simp,λj v h=>?_⟩
    simp only[dc,si]at h
    obtain⟨rfl,_⟩:=h
    exact⟨aW _,e,by simp,rfl⟩
   | false=>
    refine⟨s,f,λj v h=>?_⟩
    obtain⟨u,p,m,c⟩:=n j v h
    refine⟨by omega,p,?_,c⟩
    rw[show j - i=(j - (i+1))+1 by omega]
    simpa using m
theorem zF{P:Program}{d:TypeId}{k:Value} : ∀(es:List MapEntry)(i:Nat)(o:Option (Nat × Value)),aV P (Instr.findAsking d k (dummy es) i)=some o ->∀w:World,
 (o=none->(Instr.findAsking d k es i).run P w = .ok none w) /\∀j v,o=some (j,v)->i<=j /\∃e,es[j - i]?=some e/\(Instr.findAsking d k es i).run P w = .ok (some (j,e.val)) w:=by
 intro es
 induction es with
 | nil=>
  intro i o h w
  simp only[dummy,List.map_nil,Instr.findAsking,tL,dc]at h
  subst h
  exact⟨λ_=>rfl,λj v e=>by cases e⟩
 | cons e es s=>
  intro i o h w
  simp only[dummy,tk,Instr.findAsking]at h
  rw[bq]at h
  obtain⟨b,u,h⟩:=fD.1 h
  have f:=lB u w
  cases b with
  | true=>
   simp only[if_true,tL,dc]at h
   subst h
   refine⟨λe=>by (cases e),λj v c=>?_⟩
   cases c
   exact⟨aW _,e,by simp,by simp[Instr.findAsking,f]⟩
  | false=>
   simp only[gH,if_false]at h
   obtain⟨t,n⟩:=s (i+1) o h w
   refine⟨λc=>by simp[Instr.findAsking,f,t c],λj v c=>?_⟩
   obtain⟨x,m,p,q⟩:=n j v c
   refine⟨by omega,m,?_,by simp[Instr.findAsking,f,q]⟩
   rw[show j - i=(j - (i+1))+1 by omega]
   simpa using p
theorem oJ{P:Program}{c:Bool}{n:TypeId}{k:Value}{es:List MapEntry}{o:Option Nat}(h:yq P c n k (es.map (·.key))=some o)(w:World) :
 (Instr.checkKey c 10000 n k).run P w = .ok () w/\(o=none->(Instr.findKey n k es).run P w = .ok none w) /\∀j,o=some j ->∃e,es[j]?=some e/\(Instr.findKey n k es).run P w = .ok (some (j,e.val)) w:=by
 unfold yq at h
 split at h
 ·rename_i y
  obtain⟨o',b,e⟩:=aZ.1 h
  have B:(es.map (·.key)).map (λx=>(⟨x,Go.undef,0⟩:MapEntry))=dummy es:=by simp[dummy,Function.comp_def]
  rw[B]at b
  unfold Instr.findKey at b
  rw[bq]at b
  obtain⟨d,z,b⟩:=fD.1 b
  have f:=lB z w
  refine⟨lB y w,?_⟩
  obtain⟨H,u,v⟩:=Dp (d:=d) (k:=k) es 0
  cases i:Instr.findNow d k (dummy es) 0 with
  | some r=>
   rw[i]at b
   simp only[tL,dc]at b
   subst b
   cases r with
   | none=>
    simp only[zR]at e
    subst e
    refine⟨λ_=>?_,λj e=>?_⟩
    ·simp[Instr.findKey,f,u.2 i]
    ·cases e
   | some p=>
    obtain⟨t,v0⟩:=p
    simp only[Option.map_some]at e
    subst e
    refine⟨λe=>(by cases e),λj e=>?_⟩
    cases e
    obtain⟨_,s,q,C⟩:=v t v0 i
    exact⟨s,by simpa using q,by simp[Instr.findKey,f,C]⟩
  | none=>
   rw[i]at b
   simp only at b
   obtain⟨G,q⟩:=zF es 0 o' b w
   have m:=H.2 i
   cases o' with
   | none=>
    simp only[zR]at e
    subst e
    refine⟨λ_=>?_,λj e=>?_⟩
    ·simp[Instr.findKey,f,m,G rfl]
    ·cases e
   | some p=>
    obtain⟨t,v0⟩:=p
    simp only[Option.map_some]at e
    subst e
    refine⟨λe=>(by cases e),λj e=>?_⟩
    cases e
    obtain⟨_,s,F,D⟩:=q t v0 rfl
    exact⟨s,by simpa using F,by simp[Instr.findKey,f,m,D]⟩
 ·cases h
theorem tF{P:Program}{t c b:TypeId}(h:Ic P t=some (c,b)):P.underlying t=some (.map c b):=by
 unfold Ic at h
 split at h
 ·rename_i k e d;cases h;exact d
 ·cases h
section
variable{P:Program}{M:Mem}{ι:Map}{g:cf}{w:World}{r:Ref}
theorem vV(I:eW M ι g w){d:List AV}(p:kN g r=some d){l:Loc}(F:ι r=some l)(O:l.esz=0) :
 ∃a f c,g r=some ⟨0,.v (.bool true) :: d,a,f⟩/\w.heap[l.b]?=some (.map c c.size)/\c.size=d.length /\
  (∀(i:Nat) ent e,d[i]?=some ent->c[i]?=some e ->∃q t,ent = .tup [q,t]/\iy q=some e.key/\VR M ι t e.val/\e.born=i) /\∀s,d.mapM CO=some s->s=c.toList.map (·.key):=by
 unfold kN at p
 split at p
 ·rename_i es f B
  cases p
  obtain⟨Q,j,D⟩:=I.live r _ B
  rw[F]at j;cases j
  rcases D.objOk rfl with ⟨_,_,_,_,_,_,_,_,_,h,_⟩ | ⟨u,c,R,N,h,K,H,C⟩ | ⟨_,_,_,_,_,_,_,_,h,_⟩
  ·simp at h
  rotate_left
  ·simp at h
  ·simp only[wx,true_and]at h
   subst h
   refine⟨false,f,c,B,K,H,C,λs n=>?_⟩
   have J:=fg n
   apply Ey
   intro i
   rcases dH i c.size with hi | hi
   ·have m:i<d.length:=by omega
    obtain⟨y,G,x⟩:=jq n i _ (cw m)
    obtain⟨q,t,L,z,_⟩:=C i _ c[i] (cw m) (ir hi)
    rw[G]
    rw[L]at x
    simp only[CO]at x
    rw[x]at z
    cases z
    simp[ir hi]
   ·rw[sn (by rw[J];omega),sn (by simp;omega)]
 ·cases p
theorem IF(hS:eW M ι g w){t:TypeId}{x k y:AV}{R K:Value}(Y:VR M ι x R)(hk:VR M ι k K){ok:Bool}{bs:List aJ}(h:lN P g t (some x) (some k) ok=some (y,bs)) :
 bs=[] /\∃u,(Instr.lookup t R K ok).run P w = .ok u w/\VR M ι y u:=by
 have C : ∀ {v:AV} {u:Value} (b:Bool),VR M ι v u->VR M ι (if ok then .tup [v,.v (.bool b)] else v) (if ok then .tuple #[u,.bool b] else u):=by
  intro v u b j
  cases ok with
  | false=>exact j
  | true=>
   refine .tup (by simp) rfl λi c u' D q=>?_
   match i with
   | 0=>simp at D q;subst D;subst q;exact j
   | 1=>simp at D q;subst D;subst q;exact .v rfl
   | i+2=>simp at D
 unfold lN at h
 split at h
 ·rename_i kt et r' kv V N Q
  cases N
  cases Y with | mp Z hz=>
  rename_i l
  have O:K=kv:=by simpa using qD hk (by simpa using Q)
  subst O
  split at h
  ·rename_i S hm
   obtain⟨a,f,entries,hg,U,Zs,H,L⟩:=vV hS hm Z hz
   split at h
   ·rename_i T s
    have d:=L T s
    have m:entries.isEmpty=T.isEmpty:=by rw[d];simp
    split at h
    ·rename_i i F
     rw[d]at F
     obtain⟨v,j,h⟩:=aZ.1 h
     cases h
     obtain⟨G,_,X⟩:=oJ F w
     obtain⟨e,he,B⟩:=X i rfl
     obtain⟨I,p,j⟩:=fD.1 j
     obtain⟨ka,va,e1,e2,W⟩:=H i I e p (by simpa using he)
     subst e1
     simp only[Fo,dc]at j
     subst j
     refine⟨rfl,_,?_,C true W.1⟩
     rw[<-d,<-m]at G
     have n:(getObj l.b).run P w = .ok (.map entries entries.size) w:=by simp[getObj,Sem.run,U]
     simp only[Instr.lookup,Sem.run_bind,Sem.run_pure,aN (tF V),Result.andThen_ok,n,G,B]
    ·rename_i F
     rw[d]at F
     obtain⟨z,J,h⟩:=aZ.1 h
     cases h
     obtain⟨G,h2,_⟩:=oJ F w
     obtain⟨u,q,j⟩:=sO J w
     refine⟨rfl,_,?_,C false (gp j)⟩
     rw[<-d,<-m]at G
     have n:(getObj l.b).run P w = .ok (.map entries entries.size) w:=by simp[getObj,Sem.run,U]
     simp only[Instr.lookup,Sem.run_bind,Sem.run_pure,aN (tF V),Result.andThen_ok,n,G,h2 rfl,q]
    ·cases h
   ·cases h
  ·cases h
 ·cases h
theorem IG(z:eW M ι g w){j:Array TypeId}{ty:TypeId}{r':Ref}{x:AV}{m:Value}(s:VR M ι (.mp r') m){bs:List aJ}(h:vR P g j[0]? r'=some (x,bs)) :
 bs=[] /\∃u,(Builtin.len_ j ty #[m]).run P w = .ok u w/\VR M ι x u:=by
 unfold vR at h
 split at h
 ·rename_i p n d C
  obtain⟨t,d,e⟩:=fD.1 d
  cases h
  cases s with | mp q B=>
  rename_i l
  obtain⟨a,f,entries,D,y,i,_,_⟩:=vV z C q B
  have c:(getObj l.b).run P w = .ok (.map entries entries.size) w:=by simp[getObj,Sem.run,y]
  refine⟨rfl,goInt entries.size,by simp[Builtin.len_,d,aN (tF e),c],?_⟩
  rw[<-i]
  exact .v rfl
 ·cases h
theorem DU(s:eW M ι g w)(N:ι r=none){w':World}{o:Obj}(d:yU w w' o){k:aJ}(y:lb M (iV ι r ⟨w.heap.size,0,0⟩) w' ⟨w.heap.size,0,0⟩ k) :
 eW M (iV ι r ⟨w.heap.size,0,0⟩) (jx g r k) w'/\pN M ι g w M (iV ι r ⟨w.heap.size,0,0⟩) (jx g r k) w':=by
 have i:=AE (l:=⟨w.heap.size,0,0⟩) N
 have p : ∀b o x,M b o=some x->b<w.heap.size:=λb o x h=>World.block_lt_of_cell? w ⟨b,o,none⟩ (s.mem b o x h)
 have one : ∀ {q:Ref} {k' c},jx g r k q=some k'->iV ι r ⟨w.heap.size,0,0⟩ q=some c->(q=r/\c.b=w.heap.size)\/(q≠r/\g q=some k'/\ι q=some c/\c.b<w.heap.size):=by
  intro q k' c h j
  unfold jx at h
  unfold iV at j
  split at h
  ·rename_i e;rw[if_pos e]at j;cases j;exact .inl ⟨e,rfl⟩
  ·rename_i e
   rw[if_neg e]at j
   obtain⟨D,n,B⟩:=s.live q k' h
   rw[j]at n;cases n
   exact .inr ⟨e,h,j,B.lt⟩
 refine⟨⟨λb o x h=>d.cell (s.mem b o x h),λq k' h=>?_,λq H k1 L c D C v F K J=>?_⟩,⟨d.os,d.tape,d.output,by rw[d.heap];simp,λb O _=>d.old b O,λ_ _ _ h=>h,i,λq k' c C v=>?_,λ_ _ _ h => .inl h⟩⟩
 ·unfold jx at h
  split at h
  ·rename_i e
   subst e
   cases h
   exact⟨⟨w.heap.size,0,0⟩,by simp[iV],y.LY rfl λo x G=>absurd (p _ _ _ G) (wu _)⟩
  ·obtain⟨c,z,f⟩:=s.live q k' h
   exact⟨c,i q c z,f.cy (λ_ _ _ h=>h) i (d.old _ f.lt) f.frozen⟩
 ·rcases one C F with ⟨t,m⟩ | ⟨t,m,u,I⟩<;>rcases one v K with ⟨f1,f2⟩ | ⟨f1,f2,f3,f4⟩
  ·rw[t,f1]
  ·omega
  ·omega
  ·exact s.inj q H k1 L c D m f2 u f3 J
 ·rcases one C v with ⟨t,m⟩ | ⟨t,m,u,I⟩
  ·exact .inl (by omega)
  ·exact .inr ⟨q,k',c,m,u,rfl⟩
theorem Gv(f:eW M ι g w)(d:r.k=0)(p:ι r=none)(t:TypeId) :
 ∃u w',(Instr.makeMap t none).run P w = .ok u w'/\gP M ι g w r (.mp r) [ml []] u w':=by
 have b:yU w (w.alloc (.map #[] 0)) (.map #[] 0):=⟨rfl,rfl,rfl,rfl⟩
 obtain⟨s,n⟩:=DU f p b (k:=ml []) (.inr (.inl ⟨[], #[],rfl,rfl,rfl,by rw[b.heap];simp,rfl,λi j e h=>by simp at h⟩))
 refine⟨.map (some w.heap.size),w.alloc (.map #[] 0),by simp[Instr.makeMap,run_newObj_alloc],M,iV ι r ⟨w.heap.size,0,0⟩,.mp (l:=⟨w.heap.size,0,0⟩) (by simp[iV]) rfl,by rw[nS _ _ d];exact s,by rw[nS _ _ d];exact n,?_⟩
 intro q c m
 have:q≠r:=by intro e;exact m 0 (by simp) (by rw[e];cases r;simp_all)
 simpa [iV,this] using c
theorem qI{H:ab}{l:Loc}{k:aJ}(m:eW M ι H.get w)(T:o6 ι H)(y:ι r=some l)(N:l.esz=0)(s:H.get r=some k){k':aJ}{o':Obj}(C:lb M ι (bA w l.b o') l k') :
 eW M ι (H.put r (some k')).get (bA w l.b o')/\pN M ι H.get w M ι (H.put r (some k')).get (bA w l.b o')/\o6 ι (H.put r (some k')):=by
 obtain⟨Y,n,O⟩:=m.live r _ s
 rw[y]at n;cases n
 have B:k.esz=0:=by rw[<-O.esz];exact N
 have K : ∀o x,M l.b o=some x->False:=by
  intro o x v
  have:=m.mem _ _ _ v
  rcases(O.objOk B).obj with ⟨_,i⟩ | ⟨_,_,i⟩ | ⟨_,_,_,_,_,_,i⟩
  ·simp[World.cell?,i]at this
  ·simp[World.cell?,i]at this
  ·simp[World.cell?,i]at this
 have d : ∀q k1,(H.put r (some k')).get q=some k1 ->∃u,H.get q=some u:=by
  intro q k1 c
  rw[ab.aj]at c
  split at c
  ·rename_i e;exact⟨_,e ▸ s⟩
  ·exact⟨k1,c⟩
 refine⟨⟨λb o x v=>?_,λq k1 c=>?_,λq L k1 W f S J z R i U=>?_⟩,⟨rfl,rfl,rfl,by simp[bA],λb _ G=>dK (G r _ l s y),λ_ _ _ h=>h,λ_ _ h=>h,λq k1 f J z=>?_,λ_ _ _ h => .inl h⟩,λq X c=>?_⟩
 ·have D:l.b≠b:=λe=>K o x (e ▸ v)
  rw[World.cell?_of_block (w:=w) (dK D)]
  exact m.mem b o x v
 ·by_cases j:q=r
  ·subst j
   rw[ab.aj,if_pos rfl]at c
   cases c
   exact⟨l,y,C.LY N K⟩
  ·rw[ab.aj,if_neg j]at c
   obtain⟨f,t,p⟩:=m.live q k1 c
   have F:l.b≠f.b:=λe=>j (m.inj q r k1 _ f l c s t y e.symm)
   exact⟨f,t,p.cy (λ_ _ _ h=>h) (λ_ _ h=>h) (dK F) p.frozen⟩
 ·obtain⟨u,I⟩:=d q k1 J
  obtain⟨V,Q⟩:=d L W z
  exact m.inj q L u V f S I Q R i U
 ·obtain⟨u,I⟩:=d q k1 J
  exact .inr ⟨q,u,f,I,z,rfl⟩
 ·rw[ab.fp _ _ _ (by rw[s];rfl)]
  exact T q X c
theorem C6{H:ab}(V:eW M ι H.get w)(hD:o6 ι H){t:TypeId}{m k x y:AV}{um p I:Value}(hm:VR M ι m um)(hk:VR M ι k p)(hx:VR M ι x I){H':ab}(h:gm P H t (some m) (some k) (some x)=some (y,H')) :
 ∃w',(Instr.mapUpdate t um p I).run P w = .ok () w'/\mT M ι H w y H' undef w':=by
 unfold gm at h
 split at h
 ·rename_i kt et r' k' x' ht N e2 e3
  cases N;cases e2;cases e3
  cases hm with | mp T W=>
  rename_i l
  split at h
  ·rename_i kv u F Y
   have X:p=kv:=qD hk F
   subst X
   obtain⟨a,f,entries,hg,hh,G,s,U⟩:=vV V Y T W
   have Q:l.b<w.heap.size:=(fP.1 hh).1
   have O:(getObj l.b).run P w = .ok (.map entries entries.size) w:=by simp[getObj,Sem.run,hh]
   have L : ∀o,(setObj l.b o).run P w = .ok () (bA w l.b o):=by intro o;simp[setObj,Sem.run,hh,bA]
   split at h
   ·rename_i ks J
    have q:=U ks J
    split at h
    ·rename_i i R
     rw[q]at R
     obtain⟨Z,h⟩:=dG.1 h
     cases h
     obtain⟨h1,_,h3⟩:=oJ R w
     obtain⟨e,he,K⟩:=h3 i rfl
     have n:entries[i]?=some e:=by simpa using he
     have Zt:i<entries.size:=(fP.1 n).1
     have Zs:Instr.sameBits 10000 e.key p=true:=by
      rw[q]at Z
      simp only[kJ,AS,n,Option.map_some,dc]at Z
      exact Z
     have C:(Instr.keyThatStays (((entries[i]?).map (·.key)).getD p) p).run P w = .ok p w:=by
      rw[n]
      simp[Instr.keyThatStays,Zs]
     refine⟨bA w l.b (.map (entries.modify i λe => { e with key:=p,val:=I}) entries.size),by simp only[Instr.mapUpdate,Sem.run_bind,aN (tF ht),Result.andThen_ok,O,h1,K,C,L],M,ι,.v rfl,?_⟩
     refine qI V hD T W hg (.inr (.inl ⟨u.set i (.tup [k,x]),entries.modify i λe => { e with key:=p,val:=I},rfl,rfl,rfl,?_,by simp[G],λj B N d c=>?_⟩))
     ·rw[fe Q];simp
     ·rw[Bg]at c
      by_cases D:i=j
      ·subst D
       rw[if_pos rfl,n]at c
       simp only[Option.map_some,dc]at c
       subst c
       rw[Bk (by omega)]at d
       cases d
       obtain⟨_,_,_,_,_,hb⟩:=s i _ e (cw (by omega)) n
       exact⟨k,x,rfl,F,hx,hb⟩
      ·rw[if_neg D]at c
       rw[Be D]at d
       exact s j B N d c
    ·rename_i R
     rw[q]at R
     cases h
     obtain⟨h1,h2,_⟩:=oJ R w
     refine⟨bA w l.b (.map (entries.push { key:=p,val:=I,born:=entries.size}) (entries.size+1)),by simp only[Instr.mapUpdate,Sem.run_bind,aN (tF ht),Result.andThen_ok,O,h1,h2 rfl,L],M,ι,.v rfl,?_⟩
     refine qI V hD T W hg (.inr (.inl ⟨u++[.tup [k,x]],entries.push { key:=p,val:=I,born:=entries.size},rfl,rfl,rfl,?_,by simp[G],λj B N d c=>?_⟩))
     ·rw[fe Q];simp
     ·rcases dH j entries.size with z | Zu
      ·rw[zV z,<-ir z]at c
       rw[ia (by omega)]at d
       exact s j B N d c
      ·rw[iL (by omega)]at d
       have S:j=entries.size:=by
        have:=(dE.1 d).1
        simp at this
        omega
       subst S
       simp only[G,uY,EF,dc]at d
       subst d
       simp at c
       subst c
       exact⟨k,x,rfl,F,hx,rfl⟩
    ·cases h
   ·cases h
  ·cases h
 ·cases h
theorem EI{H:ab}(hS:eW M ι H.get w)(hD:o6 ι H){t:TypeId}{m k y:AV}{um C:Value}(hm:VR M ι m um)(hk:VR M ι k C){H':ab}(h:mW P H t (some m) (some k)=some (y,H')) :
 ∃u w',(Instr.mapEntry t um C).run P w = .ok u w'/\mT M ι H w y H' u w':=by
 have V : ∀ {v:AV} {u:Value} (n:Nat),VR M ι v u->VR M ι (.tup [v,.v (.int .i64 n)]) (.tuple #[u,goInt n]):=by
  intro v u n I
  refine .tup (by simp) rfl λi c u' G S=>?_
  match i with
  | 0=>simp at G S;subst G;subst S;exact I
  | 1=>simp at G S;subst G;subst S;exact .v rfl
  | i+2=>simp at G
 unfold mW at h
 split at h
 ·rename_i kt et r' k' ht X e2
  cases X;cases e2
  cases hm with | mp hr hz=>
  rename_i l
  split at h
  ·rename_i kv p R Zw
   have Zv:C=kv:=qD hk R
   subst Zv
   obtain⟨a,f,entries,hg,hh,J,F,Zu⟩:=vV hS Zw hr hz
   have Z:l.b<w.heap.size:=(fP.1 hh).1
   have Y:(getObj l.b).run P w = .ok (.map entries entries.size) w:=by simp[getObj,Sem.run,hh]
   have W : ∀o,(setObj l.b o).run P w = .ok () (bA w l.b o):=by intro o;simp[setObj,Sem.run,hh,bA]
   split at h
   ·rename_i ks T
    have D:=Zu ks T
    split at h
    ·rename_i i hf
     rw[D]at hf
     obtain⟨G,h⟩:=dG.1 h
     obtain⟨v,I,h⟩:=aZ.1 h
     cases h
     obtain⟨h1,_,h3⟩:=oJ hf w
     obtain⟨e,he,U⟩:=h3 i rfl
     have q:entries[i]?=some e:=by simpa using he
     have Zy:i<entries.size:=(fP.1 q).1
     have Zx:Instr.sameBits 10000 e.key C=true:=by
      rw[D]at G
      simp only[kJ,AS,q,Option.map_some,dc]at G
      exact G
     have N:(Instr.keyThatStays (((entries[i]?).map (·.key)).getD C) C).run P w = .ok C w:=by
      rw[q]
      simp[Instr.keyThatStays,Zx]
     obtain⟨s,L,I⟩:=fD.1 I
     obtain⟨ka,va,q1,q2,q3,q4⟩:=F i s e L q
     subst q1
     simp only[Fo,dc]at I
     subst I
     refine⟨.tuple #[e.val,goInt i],bA w l.b (.map (entries.modify i λe => { e with key:=C}) entries.size),?_,M,ι,V i q3,?_⟩
     ·have O:(Option.map (λx:MapEntry=>(x.born:Int)) entries[i]?).getD 0=(i:Int):=by rw[q];simp[q4]
      simp only[Instr.mapEntry,Sem.run_bind,Sem.run_pure,aN (tF ht),Result.andThen_ok,Y,h1,U,N,W,O]
     refine qI hS hD hr hz hg (.inr (.inl ⟨p.set i (.tup [k,va]),entries.modify i λe => { e with key:=C},rfl,rfl,rfl,?_,by simp[J],λj s X B d=>?_⟩))
     ·rw[fe Z];simp
     ·rw[Bg]at d
      by_cases Q:i=j
      ·subst Q
       rw[if_pos rfl,q]at d
       simp only[Option.map_some,dc]at d
       subst d
       rw[Bk (by omega)]at B
       cases B
       exact⟨k,va,rfl,R,q3,q4⟩
      ·rw[if_neg Q]at d
       rw[Be Q]at B
       exact F j s X B d
    ·rename_i hf
     rw[D]at hf
     obtain⟨z,Zt,h⟩:=aZ.1 h
     cases h
     obtain⟨h1,h2,_⟩:=oJ hf w
     obtain⟨uz,S,I⟩:=sO Zt w
     refine⟨.tuple #[uz,goInt p.length],bA w l.b (.map (entries.push { key:=C,val:=uz,born:=entries.size}) (entries.size+1)),?_,M,ι,V p.length (gp I),?_⟩
     ·simp only[Instr.mapEntry,Sem.run_bind,Sem.run_pure,aN (tF ht),Result.andThen_ok,Y,h1,h2 rfl,S,W,J]
     refine qI hS hD hr hz hg (.inr (.inl ⟨p++[.tup [k,z]],entries.push { key:=C,val:=uz,born:=entries.size},rfl,rfl,rfl,?_,by simp[J],λj s X B d=>?_⟩))
     ·rw[fe Z];simp
     ·rcases dH j entries.size with K | Zz
      ·rw[zV K,<-ir K]at d
       rw[ia (by omega)]at B
       exact F j s X B d
      ·rw[iL (by omega)]at B
       have Zs:j=entries.size:=by
        have:=(dE.1 B).1
        simp at this
        omega
       subst Zs
       simp only[J,uY,EF,dc]at B
       subst B
       simp at d
       subst d
       exact⟨k,z,rfl,R,gp I,rfl⟩
    ·cases h
   ·cases h
  ·cases h
 ·cases h
theorem Br{H:ab}(Q:eW M ι H.get w)(Z:o6 ι H){t:TypeId}{m s x y:AV}{T us B:Value}(hm:VR M ι m T)(hs:VR M ι s us)(Y:VR M ι x B){U:ab}(h:jj H (some m) (some s) (some x)=some (y,U)) :
 ∃w',(Instr.entryStore t T us B).run P w = .ok () w'/\mT M ι H w y U undef w':=by
 unfold jj at h
 split at h
 ·rename_i r' kd n x' F V W
  cases F;cases V;cases W
  cases hm with | mp O R=>
  rename_i l
  cases hs
  split at h
  ·rename_i u G
   obtain⟨hn,h⟩:=dG.1 h
   split at h
   ·rename_i S va z
    cases h
    obtain⟨a,f,entries,hg,J,N,d,_⟩:=vV Q G O R
    have K:l.b<w.heap.size:=(fP.1 J).1
    have I:(getObj l.b).run P w = .ok (.map entries entries.size) w:=by simp[getObj,Sem.run,J]
    have D : ∀o,(setObj l.b o).run P w = .ok () (bA w l.b o):=by intro o;simp[setObj,Sem.run,J,bA]
    have i:n.toNat<entries.size:=by have:=(dE.1 z).1;omega
    have born : ∀j (p:j<entries.size),entries[j].born=j:=by
     intro j p
     obtain⟨_,_,_,_,_,hb⟩:=d j _ entries[j] (cw (by omega)) (ir p)
     exact hb
    have L:entries.findIdx? (λe=>(e.born:Int) == n)=some n.toNat:=by
     rw[Array.findIdx?_eq_some_iff_getElem]
     refine⟨i,?_,λj p=>?_⟩
     ·rw[born _ i];simp;omega
     ·rw[born j (by omega)];simp;omega
    obtain⟨Zs,Zt,q1,X,q3,q4⟩:=d n.toNat _ entries[n.toNat] z (ir i)
    cases q1
    refine⟨bA w l.b (.map (entries.modify n.toNat λe => { e with val:=B}) entries.size),?_,M,ι,.v rfl,?_⟩
    ·simp only[Instr.entryStore,Sem.run_bind,Sem.run_pure,Result.andThen_ok,I,asInt,asIntOf,L,D]
    refine qI Q Z O R hg (.inr (.inl ⟨u.set n.toNat (.tup [S,x]),entries.modify n.toNat λe => { e with val:=B},rfl,rfl,rfl,?_,by simp[N],λj C F p c=>?_⟩))
    ·rw[fe K];simp
    ·rw[Bg]at c
     by_cases q:n.toNat=j
     ·subst q
      rw[if_pos rfl,ir i]at c
      simp only[Option.map_some,dc]at c
      subst c
      rw[Bk (by omega)]at p
      cases p
      exact⟨S,x,rfl,X,Y,q4⟩
     ·rw[if_neg q]at c
      rw[Be q]at p
      exact d j C F p c
   ·cases h
  ·cases h
 ·cases h
theorem CR{g:cf}{r:Ref}{cap:Nat}{c:Bool}{b:List AV}(h:Ox g r=some (cap,c,b)) :
 ∃n f,g r=some ⟨0,.v (.bool false) :: .v (.int .i64 n) :: .v (.bool c) :: b,false,f⟩/\n.toNat=cap:=by
 unfold Ox at h
 split at h
 ·rename_i n e d f i
  cases h
  exact⟨n,f,i,rfl⟩
 ·cases h
theorem Ft(D:eW M ι g w){r:Ref}{l:Loc}(z:ι r=some l){cap:Nat}{m:Bool}{d:List AV}(h:Ox g r=some (cap,m,d)) :
 ∃s t arr,w.heap[l.b]?=some (.chan cap arr m s t false)/\arr.size=d.length /\∀(i:Nat) x u,d[i]?=some x->arr[i]?=some u->VR M ι x u:=by
 obtain⟨n,f,B,J⟩:=CR h
 obtain⟨K,j,I⟩:=D.live r _ B
 rw[z]at j;cases j
 rcases I.objOk rfl with ⟨_,_,_,_,_,_,_,_,_,e,_⟩ | ⟨_,_,_,_,e,_⟩ | ⟨c,s,t,G,p,arr,_,_,e,F,C,H⟩
 ·simp at e
 ·simp at e
 ·simp only[wx,AV.v.injEq,Value.int.injEq,Value.bool.injEq,true_and]at e
  obtain⟨L,y,q⟩:=e
  subst y q
  have:c=cap:=by omega
  subst this
  exact⟨s,t,arr,F,C,H⟩
theorem E4(F:eW M ι g w)(s:r.k=0)(H:ι r=none){t e:TypeId}{b:Nat}(f:F9 P t=some e)(y:ly P e=some b)(k:IntKind)(n:Nat)(z:n<=1000000)(p:b<=1000000) :
 ∃u w',(Instr.makeChan t (.int k n)).run P w = .ok u w'/\gP M ι g w r (.ch r) [CQ n false []] u w':=by
 unfold F9 at f
 split at f
 ·rename_i C I D
  cases f
  unfold ly at y
  obtain⟨i,hi,m⟩:=aZ.1 y
  have c:yU w (w.alloc (.chan n #[] false 0 0 false)) (.chan n #[] false 0 0 false):=⟨rfl,rfl,rfl,rfl⟩
  obtain⟨v,B⟩:=DU F H c (k:=CQ n false []) (.inr (.inr ⟨n,0,0,false,[], #[],rfl,rfl,rfl,by rw[c.heap];simp,rfl,λi x u h=>by simp at h⟩))
  have d:(i.bytes:Int) * n<=281474976710544:=by
   have J:i.bytes * n<=1000000 * 1000000:=Nat.mul_le_mul (m ▸ p) z
   have v:((i.bytes * n:Nat):Int)=(i.bytes:Int) * n:=by simp
   omega
  refine⟨_,_,Go.Conc.run_makeChan D hi k n (by omega) d,M,iV ι r ⟨w.heap.size,0,0⟩,.ch (l:=⟨w.heap.size,0,0⟩) (by simp[iV]) rfl,by rw[nS _ _ s];exact v,by rw[nS _ _ s];exact B,?_⟩
  intro q j G
  have:q≠r:=by intro e;exact G 0 (by simp) (by rw[e];cases r;simp_all)
  simpa [iV,this] using j
 ·cases f
theorem BS(w:World)(c cap:Nat)(b:Array Value)(d:Bool)(s r:Nat):w.setChan c cap b d s r false=bA w c (.chan cap b d s r false):=rfl
def C2(P:Program)(o:Oper)(a:Act)(w:World)(S:Value->World->Prop):Prop:=
 ∀(b:Frame)(k:List Item)(cs:List Frame)(ops:Array Oper)(i:Nat)(rest:List Nat),b.kind = .normal->ops[i]?=some o->Region.wanted o (yielded ops a.tmps)=true ->
  ∃u w',S u w'/\step P (lone (b.atR a (.inRegion ops (i :: rest) :: k)) cs w) = .next (lone (b.atR (a.put o.dst u) (.inRegion ops rest :: k)) cs w')
theorem vh{P:Program}{b:Frame}{a:Act}{k:List Item}{cs:List Frame}{w w':World}{ops:Array Oper}{i:Nat}{rest:List Nat}{o:Oper}{cases:Array CommCase}{shape:CommShape}(n:b.kind = .normal)(m:ops[i]?=some o)
 (f:Region.wanted o (yielded ops a.tmps)=true) (h : ∀c,o.op ≠ .defer c) (j:(execOp a.eval o).run P w = .ok (.comm cases true shape) w') :
 ∃es,stepG P true (Go.Conc.G (b.atR a (.inRegion ops (i :: rest) :: k)) cs) w = .comm (Go.Conc.G (b.atR a (.inRegion ops (i :: rest) :: k)) cs) cases true shape w' es:=by
 have e:=stepGR_op (P:=P) (b:=b) (k:=k) (cs:=cs) (w:=w) (rest:=rest) m f
 rw[Oper.semAt_eq _ _ _ h]at e
 unfold Go.Conc.G
 rw[e]
 have d:(b.kind == CallKind.early)=false:=by rw[n];rfl
 refine⟨Go.Conc.listed P b.fn a o w,?_⟩
 simp[stepG.apply,j,Frame.atR,d,GStep.after,Go.Conc.listed]
theorem Mr{P:Program}{o:Oper}{a:Act}{H:ab}(Q:eW M ι H.get w)(X:o6 ι H){I q:Operand}(p:o.op = .send I q){c x y:AV}{R:ab}(S:VR M ι c (a.eval I))(W:VR M ι x (a.eval q))
 (h:Bp H (some c) (some x)=some (y,R)):C2 P o a w λu w'=>mT M ι H w y R u w':=by
 unfold Bp at h
 split at h
 ·rename_i r x' e1 V
  cases e1;cases V
  split at h
  ·rename_i cap e m
   obtain⟨⟨Zs,Zt⟩,h⟩:=dG.1 h
   cases h
   generalize L:a.eval I=cv at S
   cases S with | @ch _ _ l O Y=>
   obtain⟨s,t,arr,U,N,K⟩:=Ft Q O m
   obtain⟨n,f,hg,_⟩:=CR m
   have hb:l.b<w.heap.size:=(fP.1 U).1
   intro b k cs ops i rest Z T hw
   obtain⟨es,J⟩:=vh (P:=P) (b:=b) (a:=a) (k:=k) (cs:=cs) (w:=w) (w':=w) (rest:=rest) (cases := #[Go.Conc.scase l.b (a.eval q) (.tuple #[])]) (shape := .send) Z T hw (by simp[p]) (by simp[execOp,p,Go.Conc.scase,L])
   have C:=Go.Conc.step_lone_send_room J U (by omega)
   obtain⟨k1,k2,k3⟩:=qI Q X O Y hg (k':=CQ cap false (e++[x])) (o' := .chan cap (arr.push (a.eval q)) false (s+1) t false)
    (.inr (.inr ⟨cap,s+1,t,false,e++[x],arr.push (a.eval q),rfl,rfl,rfl,fe hb,by simp[N],λj z u d B=>by
     rcases dH j e.length with D | D
     ·rw[ia D]at d
      rw[zV (by omega)]at B
      exact K j z u d (by rw[<-B];exact ir (by omega))
     ·rw[iL D]at d
      have F:j - e.length=0:=by
       have:=(dE.1 d).1
       simp at this;omega
      rw[F]at d
      have G:j=arr.size:=by omega
      rw[G,Array.getElem?_push_size]at B
      simp at d B
      subst d B
      exact W⟩))
   refine⟨undef,_,⟨M,ι,.v rfl,k1,k2,k3⟩,?_⟩
   rw[Go.Conc.lone_eq_solo,C,Frame.finish_atR,T,Go.Conc.lone_eq_solo,BS]
   rfl
  ·cases h
 ·cases h
theorem Kf{M:Mem}{ι:Map}{x:AV}{u:Value}(ok b:Bool)(h:VR M ι x u):VR M ι (Tq ok x b) (Go.Conc.got ok u b):=by
 cases ok with
 | false=>exact h
 | true=>
  refine .tup (by simp) rfl λi c v d e=>?_
  match i with
  | 0=>simp at d e;subst d e;exact h
  | 1=>simp at d e;subst d e;exact .v rfl
  | i+2=>simp at d
theorem Ms{P:Program}{o:Oper}{a:Act}{H:ab}(N:eW M ι H.get w)(hD:o6 ι H){t:TypeId}{X:Operand}{ok:Bool}(B:o.op = .recv t X ok){c y:AV}{H':ab}(hc:VR M ι c (a.eval X))
 (h:DA P H t (some c) ok=some (y,H')):C2 P o a w λu w'=>mT M ι H w y H' u w':=by
 unfold DA at h
 split at h
 ·rename_i r z e1 C
  cases e1
  generalize Z:a.eval X=cv at hc
  cases hc with | @ch _ _ l R hz=>
  obtain⟨e,he,I⟩:=fD.1 C
  unfold F9 at he
  split at he
  ·rename_i Zs e' G
   cases he
   unfold ei at I
   obtain⟨v0,S,Y⟩:=fD.1 I
   obtain⟨inf,hi,V⟩:=fD.1 S
   have W:VR M ι z v0:=gp Y
   have p:(execOp a.eval o).run P w = .ok (.comm #[Go.Conc.rcase l.b v0] true (.recv ok)) w:=by
    simp[execOp,B,Go.Conc.rcase,Z,run_underlying G,zeroValue,typeInfo,hi,V]
   split at h
   ·rename_i cap Q x J d
    cases h
    obtain⟨s,t',arr,O,m,F⟩:=Ft N R d
    obtain⟨n,f,hg,_⟩:=CR d
    have hb:l.b<w.heap.size:=(fP.1 O).1
    have q:0<arr.size:=by rw[m];simp
    intro b k cs ops i rest T K U
    obtain⟨es,D⟩:=vh (P:=P) (b:=b) (a:=a) (k:=k) (cs:=cs) (w:=w) (w':=w) (rest:=rest) T K U (by simp[B]) p
    have v:=Go.Conc.step_lone_recv_buf ok D O q
    obtain⟨k1,k2,k3⟩:=qI N hD R hz hg (k':=CQ cap Q J) (o' := .chan cap (arr.extract 1 arr.size) Q s (t'+1) false)
     (.inr (.inr ⟨cap,s,t'+1,Q,J,arr.extract 1 arr.size,rfl,rfl,rfl,fe hb,by simp[m],λj z u L G=>by
      refine F (j+1) z u (by simpa using L) ?_
      have hj:=(dE.1 L).1
      rw[Array.getElem?_extract]at G
      rw[Nat.add_comm j 1]
      split at G
      ·exact G
      ·cases G⟩))
    refine⟨_,_,⟨M,ι,Kf ok true (F 0 x (arr.getD 0 undef) rfl (by simp[Array.getD,q])),k1,k2,k3⟩,?_⟩
    rw[Go.Conc.lone_eq_solo,v,Frame.finish_atR,K,Go.Conc.lone_eq_solo,BS]
    rfl
   ·rename_i cap d
    cases h
    obtain⟨s,t',arr,O,m,F⟩:=Ft N R d
    have ha:arr = #[]:=FN (by simpa using m)
    subst ha
    intro b k cs ops i rest T K U
    obtain⟨es,D⟩:=vh (P:=P) (b:=b) (a:=a) (k:=k) (cs:=cs) (w:=w) (w':=w) (rest:=rest) T K U (by simp[B]) p
    have v:=Go.Conc.step_lone_recv_shut ok D O
    refine⟨_,_,⟨M,ι,Kf ok false W,N,pN.refl,hD⟩,?_⟩
    rw[Go.Conc.lone_eq_solo,v,Frame.finish_atR,K,Go.Conc.lone_eq_solo]
    rfl
   ·cases h
  ·cases he
 ·cases h
theorem J6{P:Program}{o:Oper}{a:Act}{w:World}{K:Act->World->Prop}{ops:Array Oper}{i:Nat}(u:ops[i]?=some o)(C:Region.wanted o (yielded ops a.tmps)=true)(b:Frame)
 (h:o.wpIn (FW b.roundOf) 0 P a w K (λ_ _ _=>False)) (rest:List Nat) (k:List Item) (cs:List Frame) :
 ∃y w',K y w'/\Steps P (lone (b.atR a (.inRegion ops (i :: rest) :: k)) cs w) (lone (b.atR y (.inRegion ops rest :: k)) cs w'):=by
 obtain⟨_,h⟩:=h
 have s:=stepGR_op (P:=P) (b:=b) (k:=k) (cs:=cs) (w:=w) (rest:=rest) u C
 have j : ∀v,(b.atR a (.inRegion ops (i :: rest) :: k)).finish v=b.atR (a.put o.dst v) (.inRegion ops rest :: k):=by
  intro v;rw[Frame.finish_atR,u];rfl
 have m : ∀n,(FW b.roundOf).room n:=λn _ h=>by simp[FW,Fence.wide]at h
 rw[show(FW b.roundOf).round=b.roundOf from rfl]at h
 unfold Oper.uponIn at h
 split at h
 ·rename_i v w' p
  refine⟨_,_,h,.one (step_lone_go ?_)⟩
  rw[s,<-j];simp[stepG.apply,p]
 ·rename_i w' p
  refine⟨_,_,h,.one (step_lone_go ?_)⟩
  rw[s,<-j];simp[stepG.apply,p]
 ·rename_i d w' p
  refine⟨_,_,h,.one (step_lone_go ?_)⟩
  have F:({ b.atR a (.inRegion ops (i :: rest) :: k)with defers:=d :: a.defers}:Frame).finish undef =
   b.atR ({ a with defers:=d :: a.defers}.put o.dst undef) (.inRegion ops rest :: k):=by
   have B:=Frame.finish_atR b { a with defers:=d :: a.defers} ops i rest k undef
   rw[u]at B;exact B
  rw[s];simp only[stepG.apply,Sem.runT_eq,p,GStep.bare_after]
  exact congrArg (λfr=>GStep.go { frame:=fr,callers:=cs,status := .running,dying:=none} w') F
 ·rename_i f args w' p
  obtain⟨_,G,h⟩:=h
  obtain⟨e,z,fr,q,t,_,D⟩:=h (b.atR a (.inRegion ops (i :: rest) :: k) :: cs) (m _)
  have c:step P (lone (b.atR a (.inRegion ops (i :: rest) :: k)) cs w) = .next (lone (Frame.enter P f args .normal) (b.atR a (.inRegion ops (i :: rest) :: k) :: cs) w'):=
   step_lone_go (by rw[s];simp[stepG.apply,p,Frame.atR])
  cases e with
  | returned v=>
   refine⟨_,_,q,Steps.trans (.one c) (Steps.trans (StepsIn.steps t) (.one ?_))⟩
   rw[<-j];exact step_leave_returned D
  | panicked chain=>exact q.elim
  | outgrown=>obtain⟨_,_,x⟩:=q;exact x.elim
 ·rename_i row args w' p
  obtain⟨_,h⟩:=h
  obtain⟨v,z,q,t⟩:=h (b.atR a (.inRegion ops (i :: rest) :: k)) cs (m _)
  have c:step P (lone (b.atR a (.inRegion ops (i :: rest) :: k)) cs w) = .next (lone (Frame.ofRow P row args .normal) (b.atR a (.inRegion ops (i :: rest) :: k) :: cs) w'):=
   step_lone_go (by rw[s];simp[stepG.apply,p,Frame.atR])
  refine⟨_,_,q,Steps.trans (.one c) ?_⟩
  rw[<-j];exact StepsIn.steps t
 ·rename_i l f tmps assign body w' p
  obtain⟨_,_,h⟩:=h
  obtain⟨e,z,q,t⟩:=h (b.atR a (.inRegion ops (i :: rest) :: k)) cs (m _)
  have c:step P (lone (b.atR a (.inRegion ops (i :: rest) :: k)) cs w) = .next (lone (Frame.round l f tmps assign body .normal) (b.atR a (.inRegion ops (i :: rest) :: k) :: cs) w'):=
   step_lone_go (by rw[s];simp[stepG.apply,p,Frame.atR])
  cases e with
  | returned v=>
   refine⟨_,_,q,Steps.trans (.one c) ?_⟩
   rw[<-j];exact StepsIn.steps t
  | panicked chain=>exact q.elim
  | outgrown=>obtain⟨_,_,x⟩:=q;exact x.elim
 ·exact h.elim
 ·exact h.elim
end
end
section
def fT(r:Ref)(b:List Loc):Map:=λq=>if q.d=r.d/\q.t=r.t/\q.g=r.g then b[q.k]? else none
structure o5 (M:Mem) (w:World) (y:AV) (v:Value) (M':Mem) (w':World):Prop where
 os:w'.os=w.os
 tape:w'.tape=w.tape
 output:w'.output=w.output
 size:w.heap.size<=w'.heap.size
 old : ∀b,b<w.heap.size->w'.heap[b]?=w.heap[b]?
 mem : ∀b o x,M b o=some x->M' b o=some x
 sound : ∀b o x,M' b o=some x->w'.cell? ⟨b,o,none⟩=some x
 new : ∀b o x,M' b o=some x->M b o=some x\/w.heap.size<=b
 res : ∀r:Ref,∃ls:List Loc,ls.length=(af r depth y []).2.length/\VR M' (fT r ls) (af r depth y []).1 v /\
  (∀(k:Nat) l b,ls[k]?=some l->(af r depth y []).2[k]?=some b->mg M' (fT r ls) w' l b/\w.heap.size<=l.b) /\
  ∀(i j:Nat) l l',ls[i]?=some l->ls[j]?=some l'->l.b=l'.b->i=j
def fV(P:Program)(f:FuncId)(args:List AV)(y:AV):Prop:=
 (∃fn,P.funcs[f]?=some fn/\(fn.name == "runtime.NumGoroutine")=false/\fn.body.isSome=true) /\
 ∀(M:Mem)(w:World)(us:List Value),(∀b o x,M b o=some x->w.cell? ⟨b,o,none⟩=some x)->jD M cQ args us ->
  Calls P f us.toArray w λe w' =>∃v M',e = .returned v/\o5 M w y v M' w'
def lL(P:Program):pY->List AV->ab->AV->ab->Prop
 | .fn f,args,H,y,c=>
  (∃fn,P.funcs[f]?=some fn/\(fn.name == "runtime.NumGoroutine")=false/\fn.body.isSome=true) /\
  ∀(M:Mem)(ι:Map)(w:World)(us:List Value),eW M ι H.get w->o6 ι H->jD M ι args us ->
   Calls P f us.toArray w λe w' =>∃v,e = .returned v/\mT M ι H w y c v w'
 | .yld r,args,H,y,c =>∀(M:Mem)(ι:Map)(w:World)(us:List Value)(l:Loc),eW M ι H.get w->o6 ι H->jD M ι args us->ι r=some l ->
  ∃fn tmps assign body,(Instr.yield l.b us.toArray).run P w = .ok (.round l.b fn tmps assign body) w /\
   RoundIn (FW none) 0 P l.b fn tmps assign body w λe w' =>∃v,e = .returned v/\mT M ι H w y c v w'
theorem yB{M M':Mem}{ι A:Map} : ∀(n:Nat)(x:AV)(u:Value),flat n x=true->VR M ι x u->VR M' A x u:=by
 intro n
 induction n with
 | zero=>intro x u h;simp[flat]at h
 | succ n f=>
  intro x u h q
  cases q with
  | v s=>exact .v s
  | agg m d=>
   simp only[flat,da]at h
   exact .agg m λi c u b e=>f c u (h c (eY b)) (d i c u b e)
  | tup t m d=>
   simp only[flat,da]at h
   exact .tup t m λi c u b e=>f c u (h c (eY b)) (d i c u b e)
  | ifc d=>exact .ifc (f _ _ (by simpa [flat] using h) d)
  | fn p y d j=>
   simp only[flat,aY,da]at h
   exact .fn p y (λi c u b e=>f c u (h.1 c (eY b)) (d i c u b e)) λi c u b e=>f c u (h.2 c (eY b)) (j i c u b e)
  | yld=>simp[flat]at h
  | mp=>simp[flat]at h
  | ch=>simp[flat]at h
  | uP=>simp[flat]at h
  | bl=>simp[flat]at h
  | bD=>simp[flat]at h
  | dsl=>simp[flat]at h
  | ptr=>simp[flat]at h
  | iptr=>simp[flat]at h
theorem rI(r:Ref) : ∀(n m:Nat)(x:AV)(bs:List aJ),flat m x=true->af r n x bs=(x,bs):=by
 intro n
 induction n with
 | zero=>intro m x bs h;rfl
 | succ n j=>
  intro m x bs h
  have e : ∀(m:Nat)(cs b:List AV),(∀c∈cs,flat m c=true)->cs.foldl (λ(p:List AV × List aJ) c=>(p.1++[(af r n c p.2).1],(af r n c p.2).2)) (b,bs)=(b++cs,bs):=by
   intro m cs
   induction cs with
   | nil=>intro b _;simp
   | cons c cs f=>
    intro b i
    rw[uq,j m c bs (i c (jM ..))]
    rw[f (b++[c]) (λd q=>i d (jI _ q))]
    simp
  cases m with
  | zero=>simp[flat]at h
  | succ m=>
   cases x with
   | agg cs=>
    simp only[flat,da]at h
    have:=e m cs [] h
    simp only[af]
    rw[this]
    simp
   | tup cs=>
    simp only[flat,da]at h
    have:=e m cs [] h
    simp only[af]
    rw[this]
    simp
   | nsl=>simp[flat]at h
   | fsl=>simp[flat]at h
   | ifc t x=>
    simp only[af]
    rw[j m x bs (by simpa [flat] using h)]
   | _=>rfl
theorem CY{g:cf}{r q:Ref}{bs:List aJ}{b:aJ}(h:oQ g r bs q=some b):(q.d=r.d/\q.t=r.t/\q.g=r.g/\bs[q.k]?=some b)\/(¬(q.d=r.d/\q.t=r.t/\q.g=r.g/\q.k<bs.length)/\g q=some b):=by
 unfold oQ at h
 split at h
 ·rename_i c;exact .inl ⟨c.1,c.2.1,c.2.2.1,h⟩
 ·rename_i c;exact .inr ⟨c,h⟩
theorem yH{M ι g w}(I:eW M ι g w){r:Ref}(Y : ∀k,ι { r with k:=k}=none){y:AV}{v:Value}{M':Mem}{w':World}(h:o5 M w y v M' w') :
 gP M ι g w r (af r depth y []).1 (af r depth y []).2 v w':=by
 obtain⟨ls,U,hv,W,hi⟩:=h.res r
 have H : ∀q l,fT r ls q=some l->ι q=none:=by
  intro q l J
  unfold fT at J
  split at J
  ·rename_i hc
   have:q = { r with k:=q.k}:=by cases q;cases r;simp_all
   rw[this]
   exact Y _
  ·cases J
 have D : ∀q l,ι q=some l->(λq=>match ι q with | some l=>some l | none=>fT r ls q) q=some l:=by
  intro q l h;simp[h]
 have m : ∀q l,fT r ls q=some l->(λq=>match ι q with | some l=>some l | none=>fT r ls q) q=some l:=by
  intro q l h;simp[H q l h,h]
 have s : ∀q l,(λq=>match ι q with | some l=>some l | none=>fT r ls q) q=some l->ι q=some l\/(ι q=none/\fT r ls q=some l):=by
  intro q l h
  simp only at h
  split at h
  ·rename_i T z;exact .inl (by rw[z,h])
  ·rename_i Q;exact .inr ⟨Q,h⟩
 have j : ∀q b l,oQ g r (af r depth y []).2 q=some b->(λq=>match ι q with | some l=>some l | none=>fT r ls q) q=some l ->
  (g q=some b/\ι q=some l)\/(w.heap.size<=l.b/\fT r ls q=some l/\ls[q.k]?=some l/\q = { r with k:=q.k}):=by
  intro q b l B t
  rcases CY B with ⟨f,n,i,F⟩ | ⟨f,n⟩
  ·right
   have p:q = { r with k:=q.k}:=by cases q;cases r;simp_all
   have Q:ι q=none:=by rw[p];exact Y _
   rcases s q l t with d | ⟨_,d⟩
   ·rw[Q]at d;cases d
   ·have V:ls[q.k]?=some l:=by unfold fT at d;rw[if_pos ⟨f,n,i⟩]at d;exact d
    exact⟨(W q.k l b V F).2,d,V,p⟩
  ·left
   obtain⟨X,e,_⟩:=I.live q b n
   rcases s q l t with d | ⟨d,_⟩
   ·exact⟨n,d⟩
   ·rw[e]at d;cases d
 refine⟨M',λq=>match ι q with | some l=>some l | none=>fT r ls q,hv.mono (λ_ _ _ h=>h) _ m,?_,?_,?_⟩
 ·refine⟨h.sound,?_,?_⟩
  ·intro q b B
   rcases CY B with ⟨f,n,i,F⟩ | ⟨f,n⟩
   ·have C:q.k<ls.length:=by rw[U];exact(dE.1 F).1
    have G:ls[q.k]?=some ls[q.k]:=cw C
    obtain⟨c,Zs⟩:=W q.k _ b G F
    have R:fT r ls q=some ls[q.k]:=by unfold fT;rw[if_pos ⟨f,n,i⟩];exact G
    refine⟨_,m q _ R,?_⟩
    exact c.cy (λ_ _ _ h=>h) m rfl c.frozen
   ·obtain⟨l,z,c⟩:=I.live q b n
    refine⟨l,D q l z,c.cy h.mem D (h.old _ c.lt) ?_⟩
    intro o x L
    rcases h.new _ _ _ L with i | i
    ·exact c.frozen o x i
    ·exact absurd c.lt (AU.2 i)
  ·intro q S b b' l T f n i F d
   rcases j q b l f i with ⟨u,K⟩ | ⟨u,K,Z,a4⟩<;>rcases j S b' T n F with ⟨b1,b2⟩ | ⟨b1,b2,b3,b4⟩
   ·exact I.inj q S b b' l T u b1 K b2 d
   ·obtain⟨X,e,c⟩:=I.live q b u
    rw[K]at e;cases e
    exact absurd c.lt (by rw[d];exact AU.2 b1)
   ·obtain⟨X,e,c⟩:=I.live S b' b1
    rw[b2]at e;cases e
    exact absurd c.lt (by rw[<-d];exact AU.2 u)
   ·have:=hi _ _ _ _ Z b3 d
    rw[a4,b4,this]
 ·refine⟨h.os,h.tape,h.output,h.size,λb O _=>h.old b O,h.mem,D,?_,?_⟩
  ·intro q b l f i
   rcases j q b l f i with ⟨u,K⟩ | ⟨u,_⟩
   ·exact .inr ⟨q,b,l,u,K,rfl⟩
   ·exact .inl u
  ·intro b o x L
   rcases h.new b o x L with f | f
   ·exact .inl f
   ·exact .inr (.inl f)
 ·intro q N J
  simp only[N]
  unfold fT
  split
  ·rename_i hc
   have p:q = { r with k:=q.k}:=by cases q;cases r;simp_all
   have : ¬q.k<(af r depth y []).2.length:=λC=>J q.k C p
   exact sn (by rw[U];omega)
  ·rfl
theorem Dq{M ι g w}(d:eW M ι g w){r:Ref}{y:AV}{v:Value}{s M':Mem}{w':World}(j:flat depth y=true)(h:o5 s w y v M' w'):gP M ι g w r y [] v w':=by
 obtain⟨ls,u,m,z,hi⟩:=h.res r
 rw[rI r depth depth y [] j]at m
 refine⟨M,ι,yB depth y v j m,?_,?_,λq f _=>f⟩
 ·rw[kP]
  refine⟨?_,?_,d.inj⟩
  ·intro b o x p
   have:=d.mem b o x p
   rw[World.cell?_of_block (w:=w) (h.old _ (World.block_lt_of_cell? w ⟨b,o,none⟩ this))]
   exact this
  ·intro q b f
   obtain⟨l,e,c⟩:=d.live q b f
   exact⟨l,e,c.cy (λ_ _ _ h=>h) (λ_ _ h=>h) (h.old _ c.lt) c.frozen⟩
 ·rw[kP]
  exact⟨h.os,h.tape,h.output,h.size,λb i _=>h.old b i,λ_ _ _ h=>h,λ_ _ h=>h,λq b l t n => .inr ⟨q,b,l,t,n,rfl⟩,λ_ _ _ h => .inl h⟩
theorem Jb{M M':Mem}{ι A:Map}{e x:AV}{u:Value}{j:Nat}(d:flat depth e=true)(b:e.cells[j]?=some x)(h:VR M ι x u):VR M' A x u:=by
 cases e with
 | agg cs=>
  have f:x∈cs:=eY b
  have : ∀c∈cs,flat 7 c=true:=by simpa [flat,depth] using d
  exact yB 7 x u (this x f) h
 | _=>
  simp only[AV.cells]at b
  cases j with
  | zero=>simp at b;subst b;exact yB depth _ u d h
  | succ j=>simp at b
theorem IP(r:Ref) : ∀(n:Nat)(x:AV)(bs:List aJ),yh n x=true ->∃new,(af r n x bs).2=bs++new/\(∀b∈new,0<b.esz/\b.arr=true/\b.fN=false /\∀e∈b.es,flat depth e=true) /\
 ∀(M M':Mem)(ι:Map)(u:Value),VR M ι (af r n x bs).1 u->VR M' ι (af r n x bs).1 u:=by
 intro n
 induction n with
 | zero=>intro x bs h;simp[yh]at h
 | succ n Q=>
  intro x bs h
  have y : ∀(cs s:List AV)(bs:List aJ),(∀c∈cs,yh n c=true) ->∃(new:List aJ) (zs:List AV),cs.foldl (λ(p:List AV × List aJ) c=>(p.1++[(af r n c p.2).1],(af r n c p.2).2)) (s,bs)=(s++zs,bs++new) /\
   (∀b∈new,0<b.esz/\b.arr=true/\b.fN=false /\∀e∈b.es,flat depth e=true) /\∀(M M':Mem)(ι:Map)(z:AV),z∈zs ->∀u,VR M ι z u->VR M' ι z u:=by
   intro cs
   induction cs with
   | nil=>intro s bs _;exact⟨[],[],by simp,λb m=>by simp at m,λ_ _ _ z C=>by simp at C⟩
   | cons c cs I=>
    intro s bs q
    obtain⟨n1,Y,X,R⟩:=Q c bs (q c (jM ..))
    obtain⟨n2,zs,b1,b2,b3⟩:=I (s++[(af r n c bs).1]) (bs++n1) λd S=>q d (jI _ S)
    refine⟨n1++n2,(af r n c bs).1 :: zs,?_,?_,?_⟩
    ·rw[uq]
     simp only
     rw[Y,b1]
     simp
    ·intro b m
     rcases kY.1 m with m | m
     ·exact X b m
     ·exact b2 b m
    ·intro M M' ι z C u f
     rcases eU.1 C with rfl | C
     ·exact R M M' ι u f
     ·exact b3 M M' ι z C u f
  cases x with
  | v x=>exact⟨[],by simp[af],λb m=>by simp at m,λM M' ι u f=>by simp only[af]at f ⊢;cases f with | v F=>exact .v F⟩
  | agg cs=>
   simp only[yh,da]at h
   obtain⟨new,zs,B,G,D⟩:=y cs [] bs h
   simp only[af]
   rw[B]
   refine⟨new,rfl,G,λM M' ι u f=>?_⟩
   simp only[pR]at f ⊢
   cases f with | agg J H=>
   exact .agg J λi c u q O=>D M M' ι c (eY q) u (H i c u q O)
  | tup cs=>
   simp only[yh,da]at h
   obtain⟨new,zs,B,G,D⟩:=y cs [] bs h
   simp only[af]
   rw[B]
   refine⟨new,rfl,G,λM M' ι u f=>?_⟩
   simp only[pR]at f ⊢
   cases f with | tup U J H=>
   exact .tup U J λi c u q O=>D M M' ι c (eY q) u (H i c u q O)
  | fsl z es cap=>
   simp only[yh,aY,bne_iff_ne,ne_eq,da]at h
   simp only[af]
   rw[if_neg h.1]
   refine⟨[⟨z,es,true,false⟩],rfl,?_,λM M' ι u f=>?_⟩
   ·intro b m
    rw[pT.1 m]
    exact⟨ur h.1,rfl,rfl,h.2⟩
   ·cases f with | bD T m F W q V K C=>exact .bD T m F W q V K C
  | bl z es cap=>
   have L:es=[]:=by simpa [yh] using h
   subst L
   refine⟨[],by simp[af],λb m=>by simp at m,λM M' ι u f=>?_⟩
   simp only[af]at f ⊢
   cases f with | bl cell F q K hm he H=>exact .bl cell F q K (λi j B=>by simp at B) he λi j e x B=>by simp at B
  | ifc t x=>
   obtain⟨new,B,G,D⟩:=Q x bs (by simpa [yh] using h)
   simp only[af]
   exact⟨new,B,G,λM M' ι u f=>by cases f with | ifc N=>exact .ifc (D M M' ι _ N)⟩
  | _=>simp[yh]at h
theorem o5.own{M J M':Mem}{w w':World}{y:AV}{v:Value}(t : ∀b o x,M b o=some x->w.cell? ⟨b,o,none⟩=some x)(K:yh depth y=true)(h:o5 J w y v M' w'):o5 M w y v M w':=by
 have p : ∀b o x,M b o=some x->b<w.heap.size:=λb o x c=>World.block_lt_of_cell? w ⟨b,o,none⟩ (t b o x c)
 refine⟨h.os,h.tape,h.output,h.size,h.old,λ_ _ _ h=>h,?_,λ_ _ _ h => .inl h,λr=>?_⟩
 ·intro b o x c
  rw[World.cell?_of_block (w:=w) (h.old _ (p b o x c))]
  exact t b o x c
 ·obtain⟨ls,C,N,G,hi⟩:=h.res r
  obtain⟨new,Q,H,B⟩:=IP r depth y [] K
  refine⟨ls,C,B M' M _ v N,λk l b D d=>?_,hi⟩
  obtain⟨f,n⟩:=G k l b D d
  have q:b∈new:=by rw[Q,pR]at d;exact eY d
  obtain⟨U,S,R,L⟩:=H b q
  have m : ∀o x,M l.b o=some x->b.fN=true/\o<b.es.length * b.esz:=λo x c=>absurd (p _ _ _ c) (AU.2 n)
  refine⟨⟨f.esz,λs=>?_,λs=>by omega,m⟩,n⟩
  obtain⟨F,⟨arr,T,fz,d1,d2,d3,d4⟩,O,I,_⟩:=f.cellsOk s
  refine⟨F,⟨arr,T,fz,d1,d2,d3,λi j e x z c=>?_⟩,O,I,m⟩
  obtain⟨u,f1,f2,f3⟩:=d4 i j e x z c
  exact⟨u,f1,f2,Jb (L e (eY z)) c f3⟩
theorem z8{P:Program}{f:FuncId}(i : ∃fn,P.funcs[f]?=some fn/\(fn.name == "runtime.NumGoroutine")=false/\fn.body.isSome=true)(args:Array Value)(w:World) :
 (callFunc f args).run P w = .ok (.enter f args) w:=by
 obtain⟨fn,j,h,c⟩:=i
 have d:fn.body≠none:=by intro e;rw[e]at c;cases c
 have b:fn.name ≠ "runtime.NumGoroutine" := by simpa using h
 simp[callFunc,j,b,d]
theorem zG{P:Program}{a:Act}{o:Oper}{c:Call}{d:Operand}(i:o.op = .call c)(h:c.callee = .value d){f:FuncId}{first captured:Array Value}(b:a.eval d = .func (.func f) first captured)
 (e : ∃fn,P.funcs[f]?=some fn/\(fn.name == "runtime.NumGoroutine")=false/\fn.body.isSome=true) (w:World) :
 (execOp a.eval o).run P w = .ok (.enter f (first++c.args.map a.eval++captured)) w:=by
 simp[execOp,i,resolve,h,b,Deferred.ofValue,invoke,z8 e]
theorem Bv{M ι g w}(j:eW M ι g w){c d:List AV}{us:List Value}(h:c.mapM (view g depth)=some d)(e:jD M ι c us):jD (iD M ι g w (ba g c)) cQ d us:=
 ⟨by rw[fg h];exact e.1,λi y u p f=>by
  obtain⟨x,b,m⟩:=lO h i y p
  refine xU j depth x y u m ?_ (e.2 i x u b f)
  intro r n
  exact hY.2 ⟨x,eY b,n⟩⟩
theorem VR.QL{M ι}{f:FuncId}{a b:List AV}{u:Value}(h:VR M ι (.fn (.func f) a b) u) : ∃j b',u = .func (.func f) j b'/\jD M ι a j.toList/\jD M ι b b'.toList:=by
 cases h with | fn m p n d=>
 exact⟨_,_,rfl,⟨by simpa using m,λi x u e c=>n i x u e (by simpa using c)⟩,⟨by simpa using p,λi x u e c=>d i x u e (by simpa using c)⟩⟩
theorem BI(a b c:Array Value):(a.toList++b.toList++c.toList).toArray=a++b++c:=by
 apply AW;simp
section
variable{E:Env}{M:Mem}{ι:Map}{g:cf}{w:World}{r:Ref}{a:Act}{tm:List AV}{o:Oper}
theorem NB(p:eW M ι g w)(O:TR M ι tm a)(Q : ∀k,ι { r with k:=k}=none){pc:FuncId->List AV->Option AV}(L : ∀f D y,pc f D=some y->fV E.P f D y)
 {c:Call} {N:Operand} (V:o.op = .call c) (n:c.callee = .value N) {args:List AV} (q:c.args.toList.mapM (aq tm)=some args) {x:AV} {bs:List aJ} (h:iZ E pc g r (aq tm N) args=some (x,bs)) :
 dB E.P o a w λu w'=>gP M ι g w r x bs u w':=by
 unfold iZ at h
 split at h
 ·rename_i T first captured K
  split at h
  ·cases h
  ·split at h
   ·rename_i D G
    split at h
    ·rename_i y U
     obtain⟨d,h⟩:=dG.1 h
     injection h with h
     obtain⟨X,m⟩:=L T D y U
     obtain⟨W,b',H,F,I⟩:=(ay O K).QL
     have i:=jW O q
     have B:jD M ι (first++args++captured) (W.toList++(c.args.map a.eval).toList++b'.toList):=(F.append (by simpa using i)).append I
     obtain⟨z,Y⟩:=vv (R:=ba g (first++args++captured)) p
     have j:=Bv p G B
     have b:=m (iD M ι g w (ba g (first++args++captured))) w _ (qR p.mem) j
     rw[BI]at b
     refine dB.Cr (zG V n H X w) (b.mono λe w' ⟨v,M',he,hend⟩=>⟨v,he,?_⟩)
     by_cases s:flat depth y=true
     ·have hi:=rI r depth depth y [] s
      rw[hi]at h
      injection h with Z S
      subst Z;subst S
      exact Dq p s hend
     ·by_cases C:yh depth y=true
      ·have:=yH p Q (hend.own p.mem C)
       rw[h]at this
       exact this
      have J:kX g (ba g (first++args++captured))=true:=by
       simp only[jh,aY]at d
       rcases d with (n | n) | n
       ·exact absurd n s
       ·exact n
       ·exact absurd n.2 C
      have t:=GZ J
      rw[t]at z
      have:=yH z Q hend
      rw[h]at this
      exact gP.after t p this
    ·cases h
   ·cases h
 ·cases h
theorem FV{H:ab}{d z:Nat}(J:eW M ι H.get w)(Q:o6 ι H)(S:TR M ι tm a){pc:FuncId->List AV->Option AV}(V : ∀f D y,pc f D=some y->fV E.P f D y)
 {tc:pY->List AV->ab->cb} (I : ∀f D H y G,tc f D H=some (y,G)->lL E.P f D H y G)
 {c:Call} {X:Operand} (Z:o.op = .call c) (Y:c.callee = .value X) {args:List AV} (m:c.args.toList.mapM (aq tm)=some args) {x:AV} {G:ab}
 (h:kK E pc tc H ⟨d,z,H.gen d z,0⟩ (aq tm X) args=some (x,G)):dB E.P o a w λu w'=>mT M ι H w x G u w':=by
 unfold kK at h
 split at h
 ·rename_i fi first captured F
  obtain⟨a',b',O,W,Zs⟩:=(ay S F).QL
  have j:=jW S m
  have t:jD M ι (first++args++captured) (a'.toList++(c.args.map a.eval).toList++b'.toList):=(W.append (by simpa using j)).append Zs
  split at h
  ·obtain⟨hf,K⟩:=I _ _ _ _ _ h
   have i:=K M ι w _ J Q t
   rw[BI]at i
   exact dB.Cr (zG Z Y O hf w) (i.mono λe w' ⟨v,he,hend⟩=>⟨v,he,hend⟩)
  ·split at h
   ·rename_i D T
    simp only[aZ]at h
    obtain⟨y,C,h⟩:=h
    injection h with h1 h2
    obtain⟨hf,B⟩:=V fi D y C
    obtain⟨U,N⟩:=vv (R:=ba H.get (first++args++captured)) J
    have s:=Bv J T t
    have i:=B (iD M ι H.get w (ba H.get (first++args++captured))) w _ (qR J.mem) s
    rw[BI]at i
    refine dB.Cr (zG Z Y O hf w) (i.mono λe w' ⟨v,M',he,hend⟩=>⟨v,he,?_⟩)
    have Zu:o6 ι (bG H (ba H.get (first++args++captured))):=by
     intro q l hq
     rw[ab.fB]
     exact Q q l hq
    have n:=yH (r:=⟨d,z,H.gen d z,0⟩) U (λk=>Q.fresh d z k) hend
    rw[<-ab.cB]at n
    have L:H.gen d z=(bG H (ba H.get (first++args++captured))).gen d z:=(ab.fB _ _ _ _).symm
    have key:mT (iD M ι H.get w (ba H.get (first++args++captured))) ι (bG H (ba H.get (first++args++captured))) w x G v w':=by
     subst h1;subst h2
     rw[L]at n ⊢
     exact n.Si Zu
    obtain⟨M2,Zt,k1,k2,k3,k4⟩:=key
    refine⟨M2,Zt,k1,k2,?_,k4⟩
    rw[<-ab.cB]at N
    exact N.trans k3
   ·cases h
 ·rename_i q F
  have j:=jW S m
  have C:=ay S F
  generalize hu:a.eval X=u at C
  cases C with | yld hr hz=>
  rename_i l
  obtain⟨fn,tmps,assign,body,C,p⟩:=I _ _ _ _ _ h M ι w _ l J Q j hr
  refine dB.NN (l:=l.b) ?_ p
  have e1:(c.args.map a.eval:Array Value)=(c.args.toList.map a.eval).toArray:=by rw[<-Et];simp
  rw[<-e1]at C
  simp[execOp,Z,resolve,Y,hu,Deferred.ofValue,invoke,C]
 ·cases h
end
end
section
theorem VR.cut{M M':Mem}{ι:Map}{e:AV}{U:Value}(R:VR M ι e U) : ∀ {A:Map} {u:Value},VR M' A e u->(∀q l,ι q=some l->A q=some l)->VR M' ι e u:=by
 induction R with
 | v h=>intro A u h hi;cases h with | v G=>exact .v G
 | agg Q _ t=>
  intro A u h hi
  cases h with | agg x p=>
  refine .agg x λi c u f B=>?_
  have D:=(dE.1 f).1
  exact t i c _ f (ir (by omega)) (p i c u f B) hi
 | tup H Q _ t=>
  intro A u h hi
  cases h with | tup L x p=>
  refine .tup L x λi c u f B=>?_
  have D:=(dE.1 f).1
  exact t i c _ f (ir (by omega)) (p i c u f B) hi
 | bl cell G f I hm he _ t=>
  intro A u h hi
  cases h with | bl cell G f I hm he p=>exact .bl cell G f I hm he p
 | bD j N G O f S I H=>
  intro A u h hi
  have m:=hi _ _ j
  cases h with | bD b n z s F C y d=>
  rw[m]at b
  cases b
  exact .bD j n z s F C y d
 | dsl j N G O f S I H=>
  intro A u h hi
  have m:=hi _ _ j
  cases h with | dsl b n z s F C y d=>
  rw[m]at b
  cases b
  exact .dsl j n z s F C y d
 | ptr j H=>
  intro A u h hi
  have m:=hi _ _ j
  cases h with | ptr b d=>
  rw[m]at b
  cases b
  exact .ptr j d
 | iptr cell hm he _ t=>
  intro A u h hi
  cases h with | iptr cell hm he p=>exact .iptr cell hm he p
 | fn O N _ _ t K=>
  intro A u h hi
  cases h with | fn s n p J=>
  refine .fn s n (λi c u f B=>?_) λi c u f B=>?_
  ·have D:=(dE.1 f).1
   exact t i c _ f (ir (by omega)) (p i c u f B) hi
  ·have D:=(dE.1 f).1
   exact K i c _ f (ir (by omega)) (J i c u f B) hi
 | ifc _ t=>intro A u h hi;cases h with | ifc p=>exact .ifc (t p hi)
 | yld j H=>
  intro A u h hi
  have m:=hi _ _ j
  cases h with | yld b d=>
  rw[m]at b
  cases b
  exact .yld j d
 | mp j H=>
  intro A u h hi
  have m:=hi _ _ j
  cases h with | mp b d=>
  rw[m]at b
  cases b
  exact .mp j d
 | ch j H=>
  intro A u h hi
  have m:=hi _ _ j
  cases h with | ch b d=>
  rw[m]at b
  cases b
  exact .ch j d
 | uP m=>
  intro A u h hi
  cases h with | uP T=>exact .uP T
section
variable{M M':Mem}{ι A:Map}{w w':World}{l:Loc}{k:aJ}
theorem dU.cut(c0:dU M ι w l k)(c:dU M' A w' l k)(hi : ∀q l,ι q=some l->A q=some l):dU M' ι w' l k:=by
 obtain⟨d,_,_,_,_,_,t⟩:=c0.heap
 obtain⟨arr,T,fz,v,m,n,s⟩:=c.heap
 refine⟨c.esz,⟨arr,T,fz,v,m,n,λi j e x f b=>?_⟩,c.len,c.cells,c.frozen⟩
 obtain⟨z,_,_,v0⟩:=t i j e x f b
 obtain⟨u,y,p,v1⟩:=s i j e x f b
 refine⟨u,y,p,v0.cut v1 ?_⟩
 unfold aJ.map
 split
 ·exact λ_ _ h=>h
 ·exact hi
theorem C1.cut(c0:C1 M ι w l k)(c:C1 M' A w' l k)(hi : ∀q l,ι q=some l->A q=some l):C1 M' ι w' l k:=by
 obtain⟨D,h,p,y,d,z,F,_,_,b,_,_,_,_,_,v0,_⟩:=c0
 obtain⟨n,nt,ps,as,s,tm,r,B,f,e,i,x,u,C,m,v,j⟩:=c
 rw[e]at b
 simp only[wx,AV.lp.injEq]at b
 obtain⟨_,⟨_,_,_,_,_,rfl⟩,_⟩:=b
 exact⟨n,nt,ps,as,s,tm,r,B,f,e,i,x,u,C,m,λt=>(v0 t).cut (v t) hi,j⟩
theorem Hz.cut(c0:Hz M ι w l k)(c:Hz M' A w' l k)(hi : ∀q l,ι q=some l->A q=some l):Hz M' ι w' l k:=by
 obtain⟨n,d,_,_,m,_,L,v0⟩:=c0
 obtain⟨h,entries,J,x,e,z,s,v⟩:=c
 rw[e]at m
 simp only[wx,true_and]at m
 subst m
 refine⟨h,entries,J,x,e,z,s,λi f I b j=>?_⟩
 obtain⟨u,B,t,y,D,K⟩:=v i f I b j
 have F:=(dE.1 b).1
 obtain⟨C,H,p,_,G,_⟩:=v0 i f _ b (ir (by omega))
 rw[t]at p
 simp only[AV.tup.injEq,wx]at p
 obtain⟨_,rfl,_⟩:=p
 exact⟨u,B,t,y,G.cut D hi,K⟩
theorem C3.cut(c0:C3 M ι w l k)(c:C3 M' A w' l k)(hi : ∀q l,ι q=some l->A q=some l):C3 M' ι w' l k:=by
 obtain⟨_,_,_,_,h,f,_,_,d,_,B,v0⟩:=c0
 obtain⟨cap,s,r,m,buf,arr,z,j,e,n,t,v⟩:=c
 rw[e]at d
 simp only[wx,true_and]at d
 obtain⟨_,_,rfl⟩:=d
 refine⟨cap,s,r,m,buf,arr,z,j,e,n,t,λi x u b p=>?_⟩
 have y:=(dE.1 b).1
 exact(v0 i x _ b (ir (by omega))).cut (v i x u b p) hi
theorem lb.cut(c0:lb M ι w l k)(c:lb M' A w' l k)(hi : ∀q l,ι q=some l->A q=some l):lb M' ι w' l k:=by
 rcases c0 with c0 | c0 | c0<;>rcases c with c | c | c
 ·exact .inl (c0.cut c hi)
 ·obtain⟨_,_,_,_,_,_,_,_,_,b,_⟩:=c0
  obtain⟨_,_,_,_,e,_⟩:=c
  rw[e]at b;simp at b
 ·obtain⟨_,_,_,_,_,_,_,_,_,b,_⟩:=c0
  obtain⟨_,_,_,_,_,_,_,_,e,_⟩:=c
  rw[e]at b;simp at b
 ·obtain⟨_,_,_,_,_,_,_,_,_,b,_⟩:=c
  obtain⟨_,_,_,_,e,_⟩:=c0
  rw[e]at b;simp at b
 ·exact .inr (.inl (c0.cut c hi))
 ·obtain⟨_,_,_,_,b,_⟩:=c0
  obtain⟨_,_,_,_,_,_,_,_,e,_⟩:=c
  rw[e]at b;simp at b
 ·obtain⟨_,_,_,_,_,_,_,_,_,b,_⟩:=c
  obtain⟨_,_,_,_,_,_,_,_,e,_⟩:=c0
  rw[e]at b;simp at b
 ·obtain⟨_,_,_,_,b,_⟩:=c
  obtain⟨_,_,_,_,_,_,_,_,e,_⟩:=c0
  rw[e]at b;simp at b
 ·exact .inr (.inr (c0.cut c hi))
theorem mg.cut(c0:mg M ι w l k)(c:mg M' A w' l k)(hi : ∀q l,ι q=some l->A q=some l):mg M' ι w' l k:=
 ⟨c.esz,λh=>(c0.cellsOk h).cut (c.cellsOk h) hi,λh=>(c0.objOk h).cut (c.objOk h) hi,c.frozen⟩
theorem Le{H j:ab}(f:eW M ι H.get w)(n:o6 ι H){y:AV}{v:Value}(u:flat depth y=true)(s : ∀q k,H.get q=some k->j.get q=some k)(h:mT M ι H w y j v w'):mT M ι H w y H v w':=by
 obtain⟨z,x,D,c,b,p⟩:=h
 refine⟨z,ι,yB depth y v u D,⟨c.mem,λq k m=>?_,f.inj⟩,⟨b.os,b.tape,b.output,b.size,b.chg,b.mem,λ_ _ h=>h,λq k l C t => .inr ⟨q,k,l,C,t,rfl⟩,b.new⟩,n⟩
 obtain⟨l,i,B⟩:=f.live q k m
 obtain⟨F,d,e⟩:=c.live q k (s q k m)
 have:=b.map q l i
 rw[this]at d
 cases d
 exact⟨l,i,B.cut e b.map⟩
theorem FY{u v:Value}(h:JI u v=true):u=v:=by
 unfold JI at h
 split at h
 ·simp at h;rw[h]
 ·simp at h;rw[h.1,h.2]
 ·simp at h;rw[h]
 ·simp only[aY]at h
  rw[iK h.1,iK h.2]
 ·rfl
 ·rfl
 ·cases h
theorem nR{f:AV->AV->Bool}(e : ∀x y,f x y=true->x=y) : ∀(c b:List AV),c.length=b.length->((c.zip b).all λp=>f p.1 p.2)=true->c=b:=by
 intro c
 induction c with
 | nil=>intro b h _;exact(uw h.symm).symm
 | cons x c i=>
  intro b h d
  cases b with
  | nil=>simp at h
  | cons y b=>
   simp only[HF,tj,aY]at d
   rw[e x y d.1,i b (by simpa using h) d.2]
theorem vj{r r':Ref}(h:Ca r r'=true):r=r':=by
 unfold Ca at h
 simp only[aY]at h
 cases r;cases r'
 simp only[Ref.mk.injEq]
 exact⟨iK h.1.2,iK h.1.1.1,iK h.1.1.2,iK h.2⟩
theorem OD : ∀(n:Nat)(x y:AV),wS n x y=true->x=y:=by
 intro n
 induction n with
 | zero=>intro x y h;simp[wS]at h
 | succ n b=>
  intro x y h
  unfold wS at h
  split at h
  ·rw[FY h]
  ·simp only[aY]at h
   rw[nR b _ _ (iK h.1) h.2]
  ·simp only[aY]at h
   rw[nR b _ _ (iK h.1) h.2]
  ·simp only[aY,decide_eq_true_eq]at h
   rw[nR b _ _ (iK h.1.2) h.2,iK h.1.1.1,h.1.1.2]
  ·simp only[aY,decide_eq_true_eq]at h
   rw[vj h.1.1.1,iK h.1.1.2,iK h.1.2,h.2]
  ·simp only[aY,decide_eq_true_eq]at h
   rw[vj h.1.1.1,iK h.1.1.2,iK h.1.2,h.2]
  ·simp only[aY]at h
   rw[vj h.1.1,iK h.1.2,iK h.2]
  ·rw[vj h]
  ·rw[vj h]
  ·simp only[aY]at h
   rw[iK h.1.1,nR b _ _ (iK h.1.2.1) h.1.2.2,nR b _ _ (iK h.2.1) h.2.2]
  ·simp only[aY]at h
   rw[iK h.1,b _ _ h.2]
  ·cases h
theorem Jq{k k':aJ}(h:FB k k'=true):k=k':=by
 unfold FB at h
 simp only[aY,beq_iff_eq]at h
 cases k;cases k'
 simp only[aJ.mk.injEq]
 exact⟨iK h.1.1.1.1,nR (OD 8) _ _ (iK h.1.2) h.2,h.1.1.1.2,h.1.1.2⟩
theorem get_mem : ∀(H:ab)(q:Ref)(k:aJ),H.get q=some k ->∃b,(q,b)∈H:=by
 intro H
 induction H with
 | nil=>intro q k h;cases h
 | cons p H c=>
  obtain⟨r,b⟩:=p
  intro q k h
  simp only[ab.get]at h
  split at h
  ·rename_i e;subst e;exact⟨b,jM ..⟩
  ·obtain⟨b',d⟩:=c q k h
   exact⟨b',jI _ d⟩
theorem GW{H d:ab}(h:CD H d=true)(q:Ref)(k:aJ)(e:H.get q=some k):d.get q=some k:=by
 obtain⟨b,f⟩:=get_mem H q k e
 have:=da.1 h _ f
 simp only[e]at this
 split at this
 ·cases this
 ·rename_i k' c
  rw[c,Jq this]
theorem FR{b:Bool}{sm:Hw}{H e:ab}{c:cb}{y:AV}(h:oe b sm H c=some (y,e)):c=some (y,e) \/∃d,e=H/\c=some (y,d)/\flat depth y=true /\∀q k,H.get q=some k->d.get q=some k:=by
 unfold oe at h
 split at h
 ·rename_i i d
  obtain⟨f,h⟩:=dG.1 h
  cases h
  exact .inr ⟨d,rfl,rfl,(sk.1 f).1,(Bc.1 (sk.1 f).2).elim GW (sm.ok _ _)⟩
 ·exact .inl h
end
end
section
theorem oB(l:List AV)(d t:Nat)(x:AV):bZ (xj l d x) t=if t=d then x else bZ l t:=by
 induction l generalizing d t with
 | nil=>
  induction d generalizing t with
  | zero=>cases t<;>simp[xj,bZ]
  | succ d b=>
   cases t with
   | zero=>simp[xj,bZ]
   | succ t=>simp[xj,bZ,b]
 | cons y l b=>
  cases d with
  | zero=>cases t<;>simp[xj,bZ]
  | succ d=>
   cases t with
   | zero=>simp[xj,bZ]
   | succ t=>simp[xj,bZ,b]
theorem TR.put{M ι tm a}(e:TR M ι tm a){nt:Nat}(c:a.tmps.size=nt){dst:Option Tmp}{x:AV}{tm':List AV}(h:ct nt tm dst x=some tm'){u:Value}(f:VR M ι x u) :
 TR M ι tm' (a.put dst u)/\(a.put dst u).tmps.size=nt:=by
 unfold ct at h
 split at h
 ·injection h with h
  subst h
  exact⟨e,c⟩
 ·rename_i d
  obtain⟨i,h⟩:=dG.1 h
  injection h with h
  subst h
  refine⟨⟨?_⟩,by simp[Act.put,c]⟩
  intro t
  rw[oB]
  simp only[Act.put,xR]
  by_cases b:t=d
  ·subst b
   rw[if_pos rfl,AT (by rw[c];exact i)]
   exact f
  ·rw[if_neg b,wC (nE b),<-xR]
   exact e.at_ t
theorem gS{M ι tm a}(q:TR M ι tm a){ops:Array Oper}{o:Oper}{b:Bool}(h:wanted ops tm o=some b):Region.wanted o (yielded ops a.tmps)=b:=by
 unfold wanted at h
 unfold Region.wanted
 split at h
 ·rename_i p
  injection h with h
  subst h
  rw[p]
 ·rename_i j e p
  rw[p]
  simp only
  split at h
  ·rename_i t i
   have d:=q.at_ t
   rw[xR]at d
   split at h
   ·rename_i c n
    injection h with h
    subst h
    rw[n]at d
    have:a.tmps[t]?=some (.bool c):=by
     cases f:a.tmps[t]? with
     | none=>rw[f]at d;cases d
     | some v=>rw[f]at d;simp only[bO]at d;cases d;rfl
    simp only[yielded,i,dF,this]
    cases c<;>cases e<;>rfl
   ·rename_i u n
    rw[n]at d
    obtain⟨s,h⟩:=dG.1 h
    injection h with h
    subst h
    have m:u = #[]:=by simpa using s
    subst m
    have:yielded ops a.tmps j=none:=by
     simp only[yielded,i,dF]
     cases f:a.tmps[t]? with
     | none=>rfl
     | some v=>
      rw[f]at d
      simp only[bO]at d
      cases d
      rfl
    rw[this]
    rfl
   ·cases h
  ·rename_i i
   injection h with h
   subst h
   simp only[yielded,i,Ba]
   rfl
section
variable{E:Env}{M:Mem}{ι:Map}{g:cf}{w:World}{r:Ref}{a:Act}{tm:List AV}{o:Oper}
theorem nG{x:Option AV}{y:AV}{bs:List aJ}(h:gJ x=some (y,bs)):x=some y/\bs=[]:=by
 simp only[gJ,aZ]at h
 obtain⟨z,b,h⟩:=h
 injection h with c d
 exact⟨by rw[b,c],d.symm⟩
theorem dB.same{s:Sem Value}(c:eW M ι g w)(e : ∀b,b=a.eval->execOp b o=(do pure (Next.value (<-s)))){x:AV}{bs:List aJ}(h:bs=[] /\∃u,s.run E.P w = .ok u w/\VR M ι x u) :
 dB E.P o a w λu w'=>gP M ι g w r x bs u w':=by
 obtain⟨rfl,u,d,f⟩:=h
 exact dB.gY (by rw[e a.eval rfl];exact B0 d) (gP.same c f)
theorem dB.made{s:Sem Value}(d : ∀b,b=a.eval->execOp b o=(do pure (Next.value (<-s)))){x:AV}{bs:List aJ}(h : ∃u w',s.run E.P w = .ok u w'/\gP M ι g w r x bs u w') :
 dB E.P o a w λu w'=>gP M ι g w r x bs u w':=by
 obtain⟨u,w',c,e⟩:=h
 exact dB.gY (by rw[d a.eval rfl];exact B0 c) e
theorem nf(ps:Array (Nat × Operand))(b:Operand->Value):(ps.map λ(p:Nat × Operand)=>(p.1,b p.2)).toList=ps.toList.map λp=>(p.1,b p.2):=by simp
theorem Fi{b:Type}{l:List b}(h:l.length=1) : ∃a,l=[a]:=List.length_eq_one_iff.1 h
theorem tU{c:Type}{l:List c}(h:l.length=2) : ∃a b,l=[a,b]:=by
 match l,h with
 | [a,b],_=>exact⟨a,b,rfl⟩
theorem dB.mono{P:Program}{Q b:Value->World->Prop}(h:dB P o a w Q)(d : ∀u w',Q u w'->b u w'):dB P o a w b:=
 λro K R c=>h ro K R λu w' e=>c u w' (d u w' e)
theorem dU.fN{l:Loc}{k:aJ}(h:dU M ι w l k):dU M ι w l { k with fN:=true} :=
 ⟨h.esz,h.heap,h.len,h.cells,λo x b=>⟨rfl,(h.frozen o x b).2⟩⟩
theorem mg.fN{l:Loc}{k:aJ}(h:mg M ι w l k):mg M ι w l { k with fN:=true} :=
 ⟨h.esz,λb=>(h.cellsOk b).fN,λb=>(h.objOk b).same rfl rfl rfl,λo x c=>⟨rfl,(h.frozen o x c).2⟩⟩
theorem yO{bs:List aJ}{q:Ref}{b':aJ}(h:oQ g r (bs.map λk => { k with fN:=true}) q=some b') : ∃b,oQ g r bs q=some b/\(b'=b\/b' = { b with fN:=true}):=by
 unfold oQ at h ⊢
 simp only[xM]at h
 split at h
 ·rename_i c
  rw[if_pos c]
  simp only[kJ,aZ]at h
  obtain⟨b,d,e⟩:=h
  exact⟨b,d,.inr e.symm⟩
 ·rename_i c
  rw[if_neg c]
  exact⟨b',h,.inl rfl⟩
theorem gP.I9{x:AV}{bs:List aJ}{b:Bool}{u:Value}{w':World}(h:gP M ι g w r x bs u w'):gP M ι g w r x (Ab.I9 b bs) u w':=by
 cases b with
 | false=>exact h
 | true=>
  obtain⟨M',A,G,i,c,C⟩:=h
  refine⟨M',A,G,⟨i.mem,λq k p=>?_,λq B k k' l F s j v H y=>?_⟩,⟨c.os,c.tape,c.output,c.size,c.chg,c.mem,c.map,λq k l s j=>?_,c.new⟩,λq p D=>C q p λk n=>D k (by simpa [Ab.I9] using n)⟩
  ·obtain⟨b,z,e⟩:=yO p
   obtain⟨l,t,f⟩:=i.live q b z
   rcases e with rfl | rfl
   ·exact⟨l,t,f⟩
   ·exact⟨l,t,f.fN⟩
  ·obtain⟨b1,d,_⟩:=yO s
   obtain⟨b2,m,_⟩:=yO j
   exact i.inj q B b1 b2 l F d m v H y
  ·obtain⟨b1,d,_⟩:=yO s
   exact c.live q b1 l d j
def uf(P:Program)(f:FuncId)(t:TypeId):Prop:=
 ∃fn tR,P.funcs[f]?=some fn/\(fn.name == "runtime.NumGoroutine")=false/\fn.body.isNone=true/\Extern.findNext fn=none/\Extern.find fn=some (Extern.SlicesOverlaps.overlaps #[t,t] #[tR])
theorem sX(B:eW M ι g w)(C:TR M ι tm a)(hr:r.k=0)(hq : ∀k,ι { r with k:=k}=none){pc:FuncId->List AV->Option AV}(Zx : ∀f xs y,pc f xs=some y->fV E.P f xs y)
 {V:Bool} (Zt:V=false ->∀f t,E.nI f=some t->uf E.P f t) {x:AV} {bs:List aJ} (h:bR E pc V g tm r o=some (x,bs)):dB E.P o a w λu w'=>gP M ι g w r x bs u w':=by
 have S:ι r=none:=by have:=hq 0;rwa [show({ r with k:=0}:Ref)=r by cases r;simp_all]at this
 unfold bR at h
 split at h
 ·
  rename_i y d
  obtain⟨q,rfl⟩:=nG h
  exact dB.gY (u:=a.eval y) (w':=w) (by simp[execOp,d]) (gP.same B (ay C q))
 ·
  rename_i y d
  obtain⟨q,rfl⟩:=nG h
  exact dB.gY (u:=a.eval y) (w':=w) (by simp[execOp,d]) (gP.same B (ay C q))
 ·
  rename_i c y z d
  obtain⟨rfl,u,F,I⟩:=Ns (P:=E.P) (w:=w) C h
  refine dB.gY (u:=u) (w':=w) ?_ (gP.same B I)
  simp only[execOp,d]
  simp only[Sem.run_bind]at F ⊢
  cases X:(asBool (a.eval c)).run E.P w with
  | ok b w1=>
   rw[X]at F
   simp only[Result.andThen_ok,Sem.run_pure]at F ⊢
   injection F with L K
   rw[L,K]
  | halt hh w1=>rw[X]at F;cases F
 ·
  rename_i e d
  exact dB.made (λQ m=>by simp only[execOp,d]) (Ln B hr S h)
 ·
  rename_i e y d
  cases q:aq tm y with
  | none=>rw[q]at h;simp[E5]at h
  | some T=>
   rw[q]at h
   exact dB.made (λQ m=>by simp only[execOp,d,m]) (Qd B hr S (ay C q) h)
 ·
  rename_i t ps d
  cases I:fj tm ps.toList with
  | none=>rw[I]at h;simp only[kW]at h;split at h<;>first | cases h | (rename_i L K;cases K)
  | some vs=>
   rw[I]at h
   obtain⟨L,K⟩:=nP (ι:=ι) C I
   refine dB.same B (s:=Instr.build t (ps.map λ(p:Nat × Operand)=>(p.1,a.eval p.2))) (λQ m=>by simp only[execOp,d,m]) (Lm ?_ ?_ h)
   ·rw[nf];exact L
   ·rw[nf];exact K
 ·
  rename_i t n ps d
  cases I:fj tm ps.toList with
  | none=>rw[I]at h;simp[fQ]at h
  | some vs=>
   rw[I]at h
   obtain⟨L,K⟩:=nP (ι:=ι) C I
   refine dB.made (s:=Instr.buildSlice t n (ps.map λ(p:Nat × Operand)=>(p.1,a.eval p.2))) (λQ m=>by simp only[execOp,d,m]) (Ck B hr S h ?_ ?_)
   ·rw[nf];exact L
   ·rw[nf];exact K
 ·
  rename_i t y d
  cases q:aq tm y with
  | none=>rw[q]at h;simp[lz]at h
  | some T=>
   rw[q]at h
   exact dB.same B (λQ m=>by simp only[execOp,d,m]) (Nw B (ay C q) h)
 ·
  rename_i y d
  unfold Gu at h
  split at h
  ·rename_i r' i j q
   injection h with h;injection h with L K;subst L;subst K
   have I:=ay C q
   refine dB.gY (u:=a.eval y) (w':=w) ?_ (gP.same B I)
   generalize hu:a.eval y=u at I
   cases I
   simp[execOp,d,hu]
  ·rename_i n es i j q
   injection h with h;injection h with L K;subst L;subst K
   have I:=ay C q
   refine dB.gY (u:=a.eval y) (w':=w) ?_ (gP.same B I)
   generalize hu:a.eval y=u at I
   cases I
   simp[execOp,d,hu]
  ·rename_i f b c q
   injection h with h;injection h with L K;subst L;subst K
   have I:=ay C q
   refine dB.gY (u:=a.eval y) (w':=w) ?_ (gP.same B I)
   generalize hu:a.eval y=u at I
   cases I
   simp[execOp,d,hu]
  ·cases h
 ·
  rename_i op t xo yo ty d
  cases hx:aq tm xo with
  | none=>rw[hx]at h;simp[bK]at h
  | some x'=>
   cases q:aq tm yo with
   | none=>rw[hx,q]at h;simp[bK]at h
   | some T=>
    rw[hx,q]at h
    exact dB.same B (λQ m=>by simp only[execOp,d,m]) (Qe (ay C hx) (ay C q) h)
 ·
  rename_i op t y d
  cases q:aq tm y with
  | none=>rw[q]at h;simp[Ru,gJ]at h
  | some T=>
   rw[q]at h
   exact dB.same B (λQ m=>by simp only[execOp,d,m]) (SF (ay C q) h)
 ·
  rename_i src dst y d
  cases q:aq tm y with
  | none=>rw[q]at h;simp[bC]at h
  | some T=>
   rw[q]at h
   exact dB.made (λQ m=>by simp only[execOp,d,m]) (Gy B hr S (ay C q) h)
 ·
  rename_i t y d
  cases q:aq tm y with
  | none=>rw[q]at h;simp only[tK]at h;split at h<;>simp at h
  | some T=>
   rw[q]at h
   exact dB.same B (λQ m=>by simp only[execOp,d,m]) (Lk (ay C q) h)
 ·
  rename_i f first captured d
  cases L:first.toList.mapM (aq tm) with
  | none=>rw[L]at h;simp[uB]at h
  | some xs=>
   cases K:captured.toList.mapM (aq tm) with
   | none=>rw[L,K]at h;simp[uB]at h
   | some ys=>
    rw[L,K]at h
    obtain⟨rfl,I⟩:=Ny (jW C L) (jW C K) h
    refine dB.gY (u := .func f (first.map a.eval) (captured.map a.eval)) (w':=w) (by simp[execOp,d,Instr.makeFunc]) (gP.same B ?_)
    have e1 : ∀l:Array Operand,(l.toList.map a.eval).toArray=l.map a.eval:=λl=>by apply AW;simp
    rw[e1,e1]at I
    exact I
 ·
  rename_i t l c d
  cases hl:aq tm l with
  | none=>rw[hl]at h;simp only[uy,Ba]at h;split at h<;>first | cases h | (rename_i L K Z;cases K)
  | some l'=>
   cases X:aq tm c with
   | none=>rw[hl,X]at h;simp only[uy,Ba]at h;split at h<;>first | cases h | (rename_i L K Z;cases Z)
   | some c'=>
    rw[hl,X]at h
    exact dB.made (λQ m=>by simp only[execOp,d,m]) (Nu B hr S (ay C hl) (ay C X) h)
 ·
  rename_i t d
  cases h
  exact dB.made (s:=Instr.makeMap t none) (λQ m=>by simp only[execOp,d,zR]) (Gv B hr S t)
 ·
  rename_i t y z ok d
  cases q:aq tm y with
  | none=>rw[q]at h;simp only[lN]at h;split at h<;>simp_all
  | some T=>
   cases W:aq tm z with
   | none=>rw[q,W]at h;simp only[lN,Ba]at h;split at h<;>simp_all
   | some z'=>
    rw[q,W]at h
    exact dB.same B (λQ m=>by simp only[execOp,d,m]) (IF B (ay C q) (ay C W) h)
 ·
  rename_i t y lo hi mx d
  cases Zs:(E.wide o && !V) with
  | true=>
   rw[Zs]at h
   simp only[cond_true]at h
   cases q:aq tm y with
   | none=>rw[q]at h;unfold rz at h;split at h<;>simp_all
   | some T=>
    cases L:jR tm lo with
    | none=>rw[L]at h;simp[rz]at h
    | some Zy=>
     cases K:jR tm hi with
     | none=>rw[K]at h;unfold rz at h;split at h<;>simp_all
     | some Zw=>
      cases Z:jR tm mx with
      | none=>rw[Z]at h;unfold rz at h;split at h<;>simp_all
      | some Zu=>
       rw[q,L,K,Z]at h
       exact dB.same B (λQ m=>by simp only[execOp,d,m]) (IE B (ay C q) (qp C L) (qp C K) (qp C Z) h)
  | false=>
  rw[Zs]at h
  simp only[cond_false]at h
  cases q:aq tm y with
  | none=>rw[q]at h;simp only[ca]at h;split at h<;>simp at h
  | some T=>
   rw[q]at h
   cases L:jR tm lo with
   | none=>rw[L]at h;simp[ca]at h
   | some Zy=>
    cases K:jR tm hi with
    | none=>rw[L,K]at h;simp[ca]at h
    | some Zw=>
     cases Z:jR tm mx with
     | none=>rw[L,K,Z]at h;simp[ca]at h
     | some Zu=>
      rw[L,K,Z]at h
      exact dB.same B (λQ m=>by simp only[execOp,d,m]) (Li B (ay C q) (qp C L) (qp C K) (qp C Z) h)
 ·
  rename_i t y f d
  cases q:aq tm y with
  | none=>rw[q]at h;simp only[jA]at h;split at h<;>(try split at h)<;>simp_all
  | some T=>
   rw[q]at h
   exact dB.same B (λQ m=>by simp only[execOp,d,m]) (Dg (ay C q) h)
 ·
  rename_i t y f d
  cases q:aq tm y with
  | none=>rw[q]at h;simp only[pE]at h;split at h<;>simp_all
  | some T=>
   rw[q]at h
   exact dB.same B (λQ m=>by simp only[execOp,d,m]) (Ll (ay C q) h)
 ·
  rename_i t y z d
  cases q:aq tm y with
  | none=>
   rw[q]at h
   simp only[bE]at h
   (repeat' split at h)<;>simp_all
  | some T=>
   cases W:aq tm z with
   | none=>rw[q,W]at h;simp[bE]at h
   | some z'=>
    rw[q,W]at h
    exact dB.same B (λQ m=>by simp only[execOp,d,m]) (Df B (ay C q) (ay C W) h)
 ·
  rename_i t y z d
  cases q:aq tm y with
  | none=>rw[q]at h;simp only[rV]at h;split at h<;>simp_all
  | some T=>
   cases W:aq tm z with
   | none=>rw[q,W]at h;simp only[rV,Ba]at h;(repeat' split at h)<;>simp_all
   | some z'=>
    rw[q,W]at h
    exact dB.same B (λQ m=>by simp only[execOp,d,m]) (Lj (ay C q) (ay C W) h)
 ·
  rename_i y st Zz ok d
  cases q:aq tm y with
  | none=>rw[q]at h;simp only[vS]at h;split at h<;>simp_all
  | some T=>
   rw[q]at h
   exact dB.same B (λQ m=>by simp only[execOp,d,m]) (IJ (st:=st) (ay C q) h)
 ·
  rename_i y i d
  cases q:aq tm y with
  | none=>rw[q]at h;simp[pj]at h
  | some T=>
   rw[q]at h
   exact dB.same B (λQ m=>by simp only[execOp,d,m]) (Gx (ay C q) h)
 ·
  rename_i c d
  split at h
  ·cases h
  ·rename_i args R
   split at h
   ·rename_i fo X
    split at h
    ·rename_i t U
     unfold Ad at U
     split at U
     ·rename_i fi
      obtain⟨fn,tR,f1,f2,f3,f4,f5⟩:=Zt rfl fi t U
      have G:=jW C R
      obtain⟨rfl,rfl,J⟩:=Nt (P:=E.P) (tR:=tR) B G h
      have H:(c.args.toList.map a.eval).toArray=c.args.map a.eval:=by apply AW;simp
      rw[H]at J
      have Zv:(execOp a.eval o).run E.P w = .ok (.value (.bool false)) w:=by
       have h0:=run_callFunc_extern f1 f2 f3 f4 f5 (c.args.map a.eval) w
       rw[J]at h0
       simp only[Result.andThen_ok]at h0
       have e0:(#[]++c.args.map a.eval ++ #[]:Array Value)=c.args.map a.eval:=by simp
       simp[execOp,d,resolve,X,Act.eval,Deferred.ofValue,invoke,h0]
      exact dB.gY Zv (gP.same B (.v rfl))
     ·cases U
    obtain⟨⟨x0,ZA⟩,h0,e⟩:=aZ.1 h
    cases e
    exact(NB B C hq Zx d X R h0).mono λu w'=>gP.I9
   ·cases h
   ·rename_i b X
    have G:=jW C R
    have J : ∀(s:Sem Value)(us:List Value),(c.args.map a.eval).toList=us->(∀D,builtin b c.argTypes o.type D us.toArray=(do pure (Next.value (<-s)))) ->
     ∀ {u w'},s.run E.P w = .ok u w'->(execOp a.eval o).run E.P w = .ok (.value u) w':=by
     intro s us Y hb u w' hs
     have e1:c.args.map a.eval=us.toArray:=by rw[<-Y]
     simp only[execOp,d,resolve,X,invoke,Sem.run_bind,Sem.run_pure,Result.andThen_ok,e1,hb,hs]
    have H:(c.args.map a.eval).toList=c.args.toList.map a.eval:=by simp
    unfold cW at h
    split at h
    ·rename_i r'
     obtain⟨u,N⟩:=Fi G.1.symm
     rw[N]at G
     have I:=G.2 0 (.mp r') u rfl rfl
     obtain⟨rfl,u',F,O⟩:=IG (ty:=o.type) B I (HS.1 h).2
     exact dB.gY (J _ [u] (by rw[H,N]) (λD=>rfl) F) (gP.same B O)
    ·rename_i y ZB
     obtain⟨u,N⟩:=Fi G.1.symm
     rw[N]at G
     have I:=G.2 0 y u rfl rfl
     obtain⟨rfl,u',F,O⟩:=Qa (P:=E.P) (w:=w) (ty:=o.type) I h
     exact dB.gY (J _ [u] (by rw[H,N]) (λD=>rfl) F) (gP.same B O)
    ·obtain⟨hm,rfl⟩:=nG h
     obtain⟨u,us,Y,u',F,O⟩:=DW (w:=w) G hm
     exact dB.gY (J (us.foldlM Builtin.min2 u) (u :: us) (by rw[H,Y]) (λD=>rfl) F) (gP.same B O)
    ·obtain⟨hm,rfl⟩:=nG h
     obtain⟨u,us,Y,u',F,O⟩:=DW (w:=w) G hm
     exact dB.gY (J (us.foldlM Builtin.max2 u) (u :: us) (by rw[H,Y]) (λD=>rfl) F) (gP.same B O)
    ·rename_i y z
     obtain⟨u,v,N⟩:=tU G.1.symm
     rw[N]at G
     obtain⟨u',w',F,O⟩:=Cl (P:=E.P) (ty:=o.type) B hr S (G.2 0 y u rfl rfl) (G.2 1 z v rfl rfl) h
     exact dB.gY (J _ [u,v] (by rw[H,N]) (λD=>rfl) F) O
    ·rename_i y
     obtain⟨u,N⟩:=Fi G.1.symm
     rw[N]at G
     have I:=G.2 0 y u rfl rfl
     obtain⟨rfl,u',F,O⟩:=Qc (P:=E.P) (w:=w) (ty:=o.type) I h
     exact dB.gY (J _ [u] (by rw[H,N]) (λD=>rfl) F) (gP.same B O)
    ·cases h
 ·cases h
theorem JG{H:ab}(p:eW M ι H.get w)(n:o6 ι H)(f:TR M ι tm a){t:TypeId}{m k y:Operand}{x:AV}{i:ab}
 (q : ∀c:Operand->Value,execOp c o=(do Instr.mapUpdate t (c m) (c k) (c y);pure Next.skip))
 (h:gm E.P H t (aq tm m) (aq tm k) (aq tm y)=some (x,i)):dB E.P o a w λu w'=>mT M ι H w x i u w':=by
 cases hm:aq tm m with
 | none=>rw[hm]at h;simp only[gm]at h;split at h<;>simp_all
 | some s=>
  cases d:aq tm k with
  | none=>rw[hm,d]at h;simp only[gm]at h;split at h<;>simp_all
  | some k'=>
   cases e:aq tm y with
   | none=>rw[hm,d,e]at h;simp only[gm]at h;split at h<;>simp_all
   | some v=>
    rw[hm,d,e]at h
    obtain⟨w',j,b⟩:=C6 (P:=E.P) p n (ay f hm) (ay f d) (ay f e) h
    exact dB.AK (by simp[q,j]) b
theorem Ol{H:ab}{d tt:Nat}(J:eW M ι H.get w)(F:o6 ι H)(G:TR M ι tm a){pc:FuncId->List AV->Option AV}(X : ∀f Z y,pc f Z=some y->fV E.P f Z y)
 {tc:pY->List AV->ab->cb} (V : ∀f Z H y Y,tc f Z H=some (y,Y)->lL E.P f Z H y Y) {x:AV} {Y:ab}
 (R:Kp o.op=false) (h:evalW E pc tc H tm ⟨d,tt,H.gen d tt,0⟩ o=some (x,Y)):dB E.P o a w λu w'=>mT M ι H w x Y u w':=by
 unfold evalW at h
 split at h
 ·
  rename_i t y z i
  cases S:aq tm y with
  | none=>rw[S]at h;simp[iu]at h
  | some y'=>
   cases hz:aq tm z with
   | none=>rw[S,hz]at h;simp only[iu]at h;(repeat' split at h)<;>simp_all
   | some z'=>
    rw[S,hz]at h
    obtain⟨w',Q,j⟩:=KG (P:=E.P) J F (ay G S) (ay G hz) h
    exact dB.AK (by simp[execOp,i,Q]) j
 ·
  rename_i t m k y i
  exact JG J F G (λρ=>by simp[execOp,i]) h
 ·
  rename_i t m k y i
  exact JG J F G (λρ=>by simp[execOp,i]) h
 ·
  rename_i t m k i
  cases K:aq tm m with
  | none=>rw[K]at h;simp only[mW]at h;split at h<;>simp_all
  | some m'=>
   cases hk:aq tm k with
   | none=>rw[K,hk]at h;simp only[mW]at h;split at h<;>simp_all
   | some k'=>
    rw[K,hk]at h
    obtain⟨u,w',Q,j⟩:=EI (P:=E.P) J F (ay G K) (ay G hk) h
    exact dB.gY (by simp only[execOp,i];exact B0 Q) j
 ·
  rename_i t m s y i
  cases K:aq tm m with
  | none=>rw[K]at h;simp[jj]at h
  | some m'=>
   cases T:aq tm s with
   | none=>rw[K,T]at h;simp[jj]at h
   | some s'=>
    cases S:aq tm y with
    | none=>rw[K,T,S]at h;simp[jj]at h
    | some y'=>
     rw[K,T,S]at h
     obtain⟨w',Q,j⟩:=Br (P:=E.P) (t:=t) J F (ay G K) (ay G T) (ay G S) h
     exact dB.AK (by simp[execOp,i,Q]) j
 ·
  rename_i t n ps i
  cases U:fj tm ps.toList with
  | none=>rw[U]at h;simp[iM]at h
  | some vs=>
   rw[U]at h
   obtain⟨h1,h2⟩:=nP (ι:=ι) G U
   obtain⟨u,w',Q,j⟩:=Bt (P:=E.P) (qs:=ps.map λ(p:Nat × Operand)=>(p.1,a.eval p.2)) J F h (by rw[nf];exact h1) (by rw[nf];exact h2)
   exact dB.gY (by simp only[execOp,i];exact B0 Q) j
 ·
  rename_i t n i
  unfold vG at h
  split at h
  ·rename_i kd m b hn hb
   obtain⟨⟨h0,h1,h2⟩,h⟩:=dG.1 h
   cases h
   obtain⟨e,ht,Zs⟩:=fD.1 hb
   have U:=ay G hn
   generalize Zt:a.eval n=nv at U
   cases U
   obtain⟨u,w',Q,j⟩:=E4 (P:=E.P) J rfl (F.fresh d tt 0) ht Zs kd m.toNat (by omega) h2
   have K:((m.toNat:Nat):Int)=m:=by omega
   rw[K]at Q
   exact dB.gY (by simp only[execOp,i,Zt];exact B0 Q) (j.Si F)
  ·cases h
 ·rename_i i;rw[i]at R;cases R
 ·rename_i i;rw[i]at R;cases R
 ·
  rename_i c i
  split at h
  ·cases h
  ·rename_i args D
   split at h
   ·rename_i fo hc
    rcases FR h with h | ⟨H1,rfl,h,Zv,B⟩
    ·exact FV J F G X V i hc D h
    ·exact(FV J F G X V i hc D h).mono λu w' hw=>Le J F Zv B hw
   ·cases h
   ·rename_i b hc
    have C:=jW G D
    have L : ∀(s:Sem Value)(us:List Value),(c.args.map a.eval).toList=us->(∀q,builtin b c.argTypes o.type q us.toArray=(do pure (Next.value (<-s)))) ->
     ∀ {u w'},s.run E.P w = .ok u w'->(execOp a.eval o).run E.P w = .ok (.value u) w':=by
     intro s us Zu hb u w' T
     have e1:c.args.map a.eval=us.toArray:=by rw[<-Zu]
     simp only[execOp,i,resolve,hc,invoke,Sem.run_bind,Sem.run_pure,Result.andThen_ok,e1,hb,T]
    have B:(c.args.map a.eval).toList=c.args.toList.map a.eval:=by simp
    split at h
    ·rename_i y z
     obtain⟨u,v,I⟩:=tU C.1.symm
     rw[I]at C
     obtain⟨u',w',N,O⟩:=Bu (P:=E.P) (ty:=o.type) J F (C.2 0 y u rfl rfl) (C.2 1 z v rfl rfl) h
     exact dB.gY (L _ [u,v] (by rw[B,I]) (λq=>rfl) N) O
    ·rename_i y z
     obtain⟨u,v,I⟩:=tU C.1.symm
     rw[I]at C
     cases W:E.wide o with
     | true=>
      rw[W]at h
      simp only[cond_true]at h
      obtain⟨u',w',N,O⟩:=KH (P:=E.P) (ty:=o.type) J F (C.2 0 y u rfl rfl) (C.2 1 z v rfl rfl) h
      exact dB.gY (L _ [u,v] (by rw[B,I]) (λq=>rfl) N) O
     | false=>
     rw[W]at h
     simp only[cond_false]at h
     obtain⟨u',w',N,O⟩:=Mt (P:=E.P) (ty:=o.type) J F (C.2 0 y u rfl rfl) (C.2 1 z v rfl rfl) h
     exact dB.gY (L _ [u,v] (by rw[B,I]) (λq=>rfl) N) O
    ·cases h
 ·cases h
structure ue (M:Mem) (ι:Map) (st:St) (nt:Nat) (a:Act) (w:World):Prop where
 sim:eW M ι st.hp.get w
 dom:o6 ι st.hp
 tr:TR M ι st.tm a
 nt:a.tmps.size=nt
def iH(M:Mem)(ι:Map)(st:St)(a:Act)(w:World)(nt:Nat)(b:St)(c:Act)(w':World):Prop:=
 (∃M' A,ue M' A b nt c w'/\pN M ι st.hp.get w M' A b.hp.get w')/\c.defers=a.defers
theorem iH.refl{st nt}(h:ue M ι st nt a w):iH M ι st a w nt st a w:=⟨⟨M,ι,h,pN.refl⟩,rfl⟩
theorem zI{st i:St}{nt dep:Nat}{d:Bool}{ops:Array Oper}(c:ue M ι st nt a w){pc:FuncId->List AV->Option AV}(z : ∀f q y,pc f q=some y->fV E.P f q y)
 {tc:pY->List AV->ab->cb} (I : ∀f q H y e,tc f q H=some (y,e)->lL E.P f q H y e) (G:d=false ->∀f t,E.nI f=some t->uf E.P f t) (F:d=true\/Kp o.op=false) (h:evalOp E pc tc nt dep d ops o st=some i)
 {ro:Option Nat} {K:Act->World->Prop} {Q:Exit->Act->World->Prop} (B : ∀N w',iH M ι st a w nt i N w'->K N w') :
 if Region.wanted o (yielded ops a.tmps) then o.wpIn (FW ro) 0 E.P a w K Q else K (a.put o.dst undef) w:=by
 unfold evalOp at h
 split at h
 ·cases h
 ·rename_i C
  rw[gS c.tr C]
  simp only[aZ]at h
  obtain⟨tm',b,rfl⟩:=h
  obtain⟨L,D⟩:=c.tr.put c.nt b (u:=undef) (.v rfl)
  simp only[gH,if_false]
  exact B _ _ ⟨⟨M,ι,⟨c.sim,c.dom,L,D⟩,pN.refl⟩,fF _ _ _⟩
 ·rename_i C
  rw[gS c.tr C]
  simp only[if_true]
  have s : ∀ {x:AV} {e:ab} {tm':List AV},dB E.P o a w (λu w'=>mT M ι st.hp w x e u w')->ct nt st.tm o.dst x=some tm'->i=⟨tm',e⟩->o.wpIn (FW ro) 0 E.P a w K Q:=by
   intro x e tm' j b R
   subst R
   refine j ro K Q λu w' ⟨M',A,L,D,h3,h4⟩=>B _ _ ?_
   obtain⟨O,S⟩:=(c.tr.mono h3.mem h3.map).put c.nt b L
   exact⟨⟨M',A,⟨D,h4,O,S⟩,h3⟩,fF _ _ _⟩
  split at h
  ·rename_i x bs J
   simp only[aZ]at h
   obtain⟨tm',b,rfl⟩:=h
   have:=sX (E:=E) (o:=o) c.sim c.tr rfl (λk=>c.dom.fresh dep (o.dst.getD 0) k) z G J
   exact s (λro K Q B=>this ro K Q λu w' p=>B u w' (p.Si c.dom)) b rfl
  ·split at h
   ·cases h
   ·rename_i n
    split at h
    ·rename_i x e J
     simp only[aZ]at h
     obtain⟨tm',b,rfl⟩:=h
     have m:Kp o.op=false:=by
      rcases F with rfl | m
      ·simp only[hU,gE,Bool.not_eq_false]at n
       cases j:o.op<;>first | rfl | (simp[gj,Sc,wi,j]at n)
      ·exact m
     exact s (Ol (E:=E) (o:=o) c.sim c.dom c.tr z I m J) b rfl
    ·cases h
end
end
section
section
variable{E:Env}{M:Mem}{ι:Map}{w:World}{a:Act}
theorem iH.trans{st c d:St}{nt:Nat}{j m:Act}{f n:World}(h:iH M ι st a w nt c j f)(t : ∀e b,ue e b c nt j f->iH e b c j f nt d m n):iH M ι st a w nt d m n:=by
 obtain⟨⟨e,b,v,q⟩,x⟩:=h
 obtain⟨⟨M2,i,s,u⟩,p⟩:=t e b v
 exact⟨⟨M2,i,s,q.trans u⟩,p.trans x⟩
theorem Fl{o:Oper}{st p:St}{nt dep:Nat}{ops:Array Oper}{i:Nat}(d:ue M ι st nt a w){pc:FuncId->List AV->Option AV}(W : ∀f N y,pc f N=some y->fV E.P f N y)
 {tc:pY->List AV->ab->cb} (S : ∀f N H y I,tc f N H=some (y,I)->lL E.P f N H y I) (R : ∀f t,E.nI f=some t->uf E.P f t) (h:evalOp E pc tc nt dep false ops o st=some p) (L:ops[i]?=some o)
 (b:Frame) (rest:List Nat) (k:List Item) (cs:List Frame) :
 ∃s w',iH M ι st a w nt p s w'/\(b.kind = .normal->Steps E.P (lone (b.atR a (.inRegion ops (i :: rest) :: k)) cs w) (lone (b.atR s (.inRegion ops rest :: k)) cs w')):=by
 have F:Region.wanted o (yielded ops a.tmps)=false->Steps E.P (lone (b.atR a (.inRegion ops (i :: rest) :: k)) cs w) (lone (b.atR (a.put o.dst undef) (.inRegion ops rest :: k)) cs w):=by
  intro q
  have Z:=stepR_op_skip (P:=E.P) (b:=b) (a:=a) (k:=k) (cs:=cs) (w:=w) (ops:=ops) (i:=i) (rest:=rest) (by simp[L,q])
  simp only[L,dF]at Z
  exact .one Z
 cases n:Kp o.op with
 | false=>
  have z:=zI (E:=E) (ro:=b.roundOf) (Q:=λ_ _ _=>False) d W S (λ_=>R) (.inr n) h (K:=λs w'=>iH M ι st a w nt p s w') λs w' h=>h
  by_cases q:Region.wanted o (yielded ops a.tmps)=true
  ·rw[if_pos q]at z
   obtain⟨s,w',G,B⟩:=J6 L q b z rest k cs
   exact⟨s,w',G,λ_=>B⟩
  ·rw[if_neg q]at z
   exact⟨_,_,z,λ_=>F (by simpa using q)⟩
 | true=>
  unfold evalOp at h
  split at h
  ·cases h
  ·rename_i q
   have C:=gS d.tr q
   simp only[aZ]at h
   obtain⟨tm',j,rfl⟩:=h
   obtain⟨z,G⟩:=d.tr.put d.nt j (u:=undef) (.v rfl)
   exact⟨_,_,⟨⟨M,ι,⟨d.sim,d.dom,z,G⟩,pN.refl⟩,fF _ _ _⟩,λ_=>F C⟩
  ·rename_i q
   have C:=gS d.tr q
   have J : ∀ {x:AV} {I:ab} {tm':List AV},C2 E.P o a w (λu w'=>mT M ι st.hp w x I u w')->ct nt st.tm o.dst x=some tm'->p=⟨tm',I⟩ ->
    ∃s w',iH M ι st a w nt p s w'/\(b.kind = .normal->Steps E.P (lone (b.atR a (.inRegion ops (i :: rest) :: k)) cs w) (lone (b.atR s (.inRegion ops rest :: k)) cs w')):=by
    intro x I tm' e j he
    subst he
    by_cases hk:b.kind = .normal
    ·obtain⟨u,w',⟨M',A,z,G,B,X⟩,O⟩:=e b k cs ops i rest hk L C
     obtain⟨U,V⟩:=(d.tr.mono B.mem B.map).put d.nt j z
     exact⟨_,_,⟨⟨M',A,⟨G,X,U,V⟩,B⟩,fF _ _ _⟩,λ_ => .one O⟩
    ·obtain⟨u,w',⟨M',A,z,G,B,X⟩,O⟩:=e { b with kind := .normal} k cs ops i rest rfl L C
     obtain⟨U,V⟩:=(d.tr.mono B.mem B.map).put d.nt j z
     exact⟨_,_,⟨⟨M',A,⟨G,X,U,V⟩,B⟩,fF _ _ _⟩,λh=>absurd h hk⟩
   have Y:bR E pc false st.hp.get st.tm ⟨dep,o.dst.getD 0,st.hp.gen dep (o.dst.getD 0),0⟩ o=none:=by
    unfold bR
    cases e:o.op<;>rw[e]at n<;>first | rfl | (cases n)
   rw[Y]at h
   simp only[rl,gH,if_false]at h
   split at h
   ·rename_i x I m
    simp only[aZ]at h
    obtain⟨tm',j,rfl⟩:=h
    unfold evalW at m
    cases e:o.op<;>rw[e]at n m<;>try (cases n;done)
    ·rename_i c y
     simp only at m
     cases D:aq st.tm c with
     | none=>rw[D]at m;simp[Bp]at m
     | some c'=>
      cases T:aq st.tm y with
      | none=>rw[D,T]at m;simp[Bp]at m
      | some y'=>
       rw[D,T]at m
       exact J (Mr d.sim d.dom e (ay d.tr D) (ay d.tr T) m) j rfl
    ·rename_i t c Zs
     simp only at m
     cases D:aq st.tm c with
     | none=>rw[D]at m;simp[DA]at m
     | some c'=>
      rw[D]at m
      exact J (Ms d.sim d.dom e (ay d.tr D) m) j rfl
   ·cases h
theorem Ov{H C:ab}{tm:List AV}{dep:Nat}{o:Oper}{x:AV}(G:eW M ι H.get w)(D:o6 ι H)(F:TR M ι tm a)(h:Ak E false H tm ⟨dep,o.dst.getD 0,H.gen dep (o.dst.getD 0),0⟩ o=some (some (x,C))) :
 dB E.P o a w λu w'=>mT M ι H w x C u w':=by
 unfold Ak at h
 split at h
 ·cases h
 ·split at h
  ·rename_i t n ps e
   simp only[dc]at h
   cases s:fj tm ps.toList with
   | none=>rw[s]at h;simp[xT]at h
   | some R=>
    rw[s]at h
    obtain⟨L,I⟩:=nP (ι:=ι) F s
    obtain⟨u,w',K,m⟩:=HV (P:=E.P) (qs:=ps.map λ(p:Nat × Operand)=>(p.1,a.eval p.2)) G D h (by rw[nf];exact L) (by rw[nf];exact I)
    exact dB.gY (by simp only[execOp,e];exact B0 K) m
  ·rename_i c e
   split at h
   ·rename_i J
    simp only[dc]at h
    split at h
    ·rename_i y z f
     have d:=jW F f
     have i:(c.args.map a.eval).toList=c.args.toList.map a.eval:=by simp
     obtain⟨u,v,j⟩:=tU d.1.symm
     rw[j]at d
     obtain⟨Q,w',B,q⟩:=Mu (P:=E.P) (ty:=o.type) G D (d.2 0 y u rfl rfl) (d.2 1 z v rfl rfl) h
     refine dB.gY ?_ q
     have N:c.args.map a.eval=[u,v].toArray:=by rw[<-j,<-i]
     have O : ∀b,builtin .append c.argTypes o.type b [u,v].toArray=(do pure (Next.value (<-Builtin.append_ c.argTypes o.type #[u,v]))):=λb=>rfl
     simp only[execOp,e,resolve,J,invoke,Sem.run_bind,Sem.run_pure,Result.andThen_ok,N,O,B]
    ·cases h
   ·cases h
  ·cases h
theorem Ha{o:Oper}{st q:St}{nt dep:Nat}{ops:Array Oper}{i:Nat}(c:ue M ι st nt a w){pc:FuncId->List AV->Option AV}(J : ∀f p y,pc f p=some y->fV E.P f p y)
 {tc:pY->List AV->ab->cb} (F : ∀f p H y z,tc f p H=some (y,z)->lL E.P f p H y z) (D : ∀f t,E.nI f=some t->uf E.P f t) (h:uG E pc tc nt dep false ops o st=some q) (B:ops[i]?=some o)
 (b:Frame) (rest:List Nat) (k:List Item) (cs:List Frame) :
 ∃j w',iH M ι st a w nt q j w'/\(b.kind = .normal->Steps E.P (lone (b.atR a (.inRegion ops (i :: rest) :: k)) cs w) (lone (b.atR j (.inRegion ops rest :: k)) cs w')):=by
 unfold uG at h
 split at h
 ·exact Fl c J F D h B b rest k cs
 ·rename_i O I
  split at h
  ·cases h
  ·rename_i C
   have e:=gS c.tr C
   simp only[aZ]at h
   obtain⟨tm',d,rfl⟩:=h
   obtain⟨s,m⟩:=c.tr.put c.nt d (u:=undef) (.v rfl)
   refine⟨_,_,⟨⟨M,ι,⟨c.sim,c.dom,s,m⟩,pN.refl⟩,fF _ _ _⟩,λ_=>?_⟩
   have K:=stepR_op_skip (P:=E.P) (b:=b) (a:=a) (k:=k) (cs:=cs) (w:=w) (ops:=ops) (i:=i) (rest:=rest) (by simp[B,e])
   simp only[B,dF]at K
   exact .one K
  ·rename_i C
   have e:=gS c.tr C
   split at h
   ·rename_i x z
    simp only[aZ]at h
    obtain⟨tm',d,rfl⟩:=h
    have G:=Ov c.sim c.dom c.tr I
    have s:o.wpIn (FW b.roundOf) 0 E.P a w (λj w'=>iH M ι st a w nt ⟨tm',z⟩ j w') (λ_ _ _=>False):=by
     refine G _ _ _ λu w' ⟨M',A,s,m,n,h4⟩=>?_
     obtain⟨L,N⟩:=(c.tr.mono n.mem n.map).put c.nt d s
     exact⟨⟨M',A,⟨m,h4,L,N⟩,n⟩,fF _ _ _⟩
    obtain⟨j,w',m,n⟩:=J6 B e b s rest k cs
    exact⟨j,w',m,λ_=>n⟩
   ·cases h
theorem EY{pc:FuncId->List AV->Option AV}(D : ∀f d y,pc f d=some y->fV E.P f d y)
 {tc:pY->List AV->ab->cb} (q : ∀f d H y G,tc f d H=some (y,G)->lL E.P f d H y G) (p : ∀f t,E.nI f=some t->uf E.P f t) {nt dep:Nat} {ops:Array Oper} {e:St} (b:Frame) (k:List Item) (cs:List Frame) :
 ∀(l c:List Oper)(st:St)(M:Mem)(ι:Map)(a:Act)(w:World),ops.toList=c++l->kU E pc tc nt dep false ops l st=some e->ue M ι st nt a w ->
  ∃I w',iH M ι st a w nt e I w'/\(b.kind = .normal->Steps E.P (lone (b.atR a (.inRegion ops (List.range' c.length l.length) :: k)) cs w) (lone (b.atR I (.inRegion ops [] :: k)) cs w')):=by
 intro l
 induction l with
 | nil=>
  intro c st M ι a w _ h z
  simp only[kU,dc]at h
  subst h
  exact⟨a,w,iH.refl z,λ_=>Steps.refl _ _⟩
 | cons o l T=>
  intro c st M ι a w K h z
  simp only[kU]at h
  split at h
  ·rename_i m U
   have Q:ops[c.length]?=some o:=by
    rw[<-AS,K];simp
   obtain⟨W,N,i,x⟩:=Ha z D q p U Q b (List.range' (c.length+1) l.length) k cs
   obtain⟨⟨O,n,B,C⟩,V⟩:=i
   obtain⟨R,S,⟨⟨M2,u,v,s⟩,L⟩,j⟩:=T (c++[o]) m O n W N (by simp[K]) h B
   refine⟨R,S,⟨⟨M2,u,v,C.trans s⟩,L.trans V⟩,λJ=>?_⟩
   have F:=j J
   simp only[gG,ji,lV,qx]at F
   rw[ji,List.range'_succ]
   exact(x J).trans F
  ·cases h
theorem E0{pc:FuncId->List AV->Option AV}(m : ∀f c y,pc f c=some y->fV E.P f c y)
 {tc:pY->List AV->ab->cb} (j : ∀f c H y n,tc f c H=some (y,n)->lL E.P f c H y n) (i : ∀f t,E.nI f=some t->uf E.P f t) {nt dep id:Nat} {ops:Array Oper} {st d:St} (b:Frame) (k:List Item) (cs:List Frame)
 (h:kU E pc tc nt dep false ops ops.toList st=some d) (s:ue M ι st nt a w) :
 ∃e w',iH M ι st a w nt d e w'/\(b.kind = .normal->Steps E.P (lone (b.atR a (.code (.region id ops false) :: k)) cs w) (lone (b.atR e k) cs w')):=by
 obtain⟨e,w',u,p⟩:=EY m j i b k cs ops.toList [] st M ι a w rfl h s
 refine⟨e,w',u,λq=>Steps.trans (.one ?_) (Steps.trans (p q) (.one stepR_region_end))⟩
 have:=stepR_region (P:=E.P) (b:=b) (a:=a) (k:=k) (cs:=cs) (w:=w) (id:=id) (ops:=ops)
 simpa [HK] using this
structure Env.Ok (E:Env) (ok:Array Oper->Bool):Prop where
 fns : ∀f,E.allowed f=true ->∃fn,E.P.funcs[f]?=some fn/\(fn.name == "runtime.NumGoroutine")=false /\∀c,fn.body=some c->codeOk ok c=true
 specs : ∀f args y,E.spec f args=some y->fV E.P f args y
 same:E.ok=ok
 overs : ∀f t,E.nI f=some t->uf E.P f t
 thrs : ∀f args H y H',E.thrSpec f args H=some (y,H')->lL E.P (.fn f) args H y H'
 draws : ∀(ops:Array Oper),ok ops=true ->∀ {pc:FuncId->List AV->Option AV},(∀f xs y,pc f xs=some y->fV E.P f xs y) ->
  ∀ {tc:pY->List AV->ab->cb},(∀f xs H y H',tc f xs H=some (y,H')->lL E.P f xs H y H') ->∀(nt dep id:Nat)(st st':St)(M:Mem)(ι:Map)(a:Act)(w:World)(ro:Option Nat)(Q:Exit->Act->World->Prop),
  kU E pc tc nt dep true ops ops.toList st=some st'->oZ E ops st'=true->ue M ι st nt a w->(∀a' w',iH M ι st a w nt st' a' w'->Q .normal a' w')->(Code.region id ops true).wpIn (FW ro) 0 E.P Q a w
theorem Eb{ok:Array Oper->Bool}{id:Nat} : ∀ {k k':List Item},exitTo id k=some k'->(∀i∈k,lE ok i=true) ->∀i∈k',lE ok i=true:=by
 intro k
 induction k with
 | nil=>intro k' h;simp[exitTo]at h
 | cons x k c=>
  intro k' h e
  have b : ∀i∈k,lE ok i=true:=λi hi=>e i (jI _ hi)
  cases x with
  | inBlock d=>
   simp only[exitTo]at h
   split at h
   ·injection h with h;subst h;exact b
   ·exact c h b
  | _=>exact c (by simpa [exitTo] using h) b
theorem Sm{P:Program}{ro:Option Nat}{m b:Machine}(h:StepsIn (Machine.fenced P (FW ro)) P m b):Steps P m b:=StepsIn.steps h
theorem Gb{P:Program}{c:Code}{a:Act}{w:World}{R:Act->World->Prop}(b:Frame)(h:c.wpIn (FW b.roundOf) 0 P (λe a w=>e = .normal/\R a w) a w)(k:List Item)(cs:List Frame) :
 ∃f w',R f w'/\Steps P (lone (b.atR a (.code c :: k)) cs w) (lone (b.atR f k) cs w'):=by
 obtain⟨e,f,w',⟨he,i⟩,d⟩:=h b k cs rfl trivial (λ_ h=>by simp[FW,Fence.wide]at h)
 subst he
 exact⟨f,w',i,Sm d⟩
theorem N1{H:ab}{r:Ref}{n:Nat}{b:AV}(h:sU H r=some (n,b)) : ∃st a f,H.get r=some ⟨0,[.v (.int .i64 st),b],a,f⟩/\st.toNat=n:=by
 unfold sU at h
 split at h
 ·rename_i st c a f d
  cases h
  exact⟨st,a,f,d,rfl⟩
 ·cases h
structure O1 (r r':Loop):Prop where
 tmps:r'.tmps=r.tmps
 params:r'.params=r.params
 assign:r'.assign=r.assign
 body:r'.body=r.body
theorem vW{H:ab}{r:Ref}{l:Loc}{n:Nat}{m:AV}(D:eW M ι H.get w)(hD:o6 ι H)(V:ι r=some l)(ha:sU H r=some (n,m)) :
 ∃nt ps assign body tm u,m = .lp 0 nt ps assign body tm/\w.heap[l.b]?=some (.loop u)/\u.params=ps.toArray/\u.assign=assign/\u.body=body/\u.tmps.size=nt/\(∀t,VR M ι (bZ tm t) (u.tmps.getD t undef))/\xY n u /\
  (∀C c,O1 u c->xY C c->eW M ι (H.put r (some (c9 C m))).get (bA w l.b (.loop c))/\pN M ι H.get w M ι (H.put r (some (c9 C m))).get (bA w l.b (.loop c))/\o6 ι (H.put r (some (c9 C m)))) /\
  ∀c,eW M ι (H.put r none).get (bA w l.b (.loop c))/\pN M ι H.get w M ι (H.put r none).get (bA w l.b (.loop c))/\o6 ι (H.put r none):=by
 obtain⟨st,a,f,O,Zu⟩:=N1 ha
 obtain⟨l',I,hb⟩:=D.live r _ O
 rw[V]at I;cases I
 rcases hb.objOk rfl with ⟨n0,nt,ps,as,bd,tm,u,Y,X,z,R,W,h6,h7,h8,h9,Zt⟩ | ⟨_,_,_,_,z,_⟩ | ⟨_,_,_,_,_,_,_,_,z,_⟩
 case inr.inl=>simp at z
 case inr.inr=>simp at z
 simp only[wx,AV.v.injEq,Value.int.injEq,true_and,and_true]at z
 obtain⟨e1,e2⟩:=z
 subst e2
 have hn:n0=n:=by rw[<-Zu,e1];simp
 subst hn
 have Zw:l.b<w.heap.size:=(fP.1 R).1
 have hM : ∀o x,M l.b o=some x->False:=by
  intro o x T
  have:=D.mem _ _ _ T
  simp[World.cell?,R]at this
 have Zv:l.esz=0:=hb.esz
 have i : ∀c b',∀q k,(H.put r b').get q=some k->q≠r ->∃j,ι q=some j/\mg M ι (bA w l.b (.loop c)) j k:=by
  intro c b' q k d y
  rw[ab.aj,if_neg y]at d
  obtain⟨j,Q,J⟩:=D.live q k d
  have Z:l.b≠j.b:=λe=>y (D.inj q r k _ j l d O Q V e.symm)
  exact⟨j,Q,J.cy (λ_ _ _ h=>h) (λ_ _ h=>h) (dK Z) J.frozen⟩
 have B : ∀c,∀b o x,M b o=some x->(bA w l.b (.loop c)).cell? ⟨b,o,none⟩=some x:=by
  intro c b o x T
  have y:l.b≠b:=λe=>hM o x (e ▸ T)
  rw[World.cell?_of_block (w:=w) (dK y)]
  exact D.mem b o x T
 have p : ∀(b':Option aJ) q k,(H.put r b').get q=some k ->∃S,H.get q=some S:=by
  intro b' q k d
  rw[ab.aj]at d
  split at d
  ·rename_i e;exact⟨_,e ▸ O⟩
  ·exact⟨k,d⟩
 have K : ∀(b':Option aJ) q F k k' j U,(H.put r b').get q=some k->(H.put r b').get F=some k'->ι q=some j->ι F=some U->j.b=U.b->q=F:=by
  intro b' q F k k' j U Y X z R W
  obtain⟨S,g1⟩:=p b' q k Y
  obtain⟨k1,g2⟩:=p b' F k' X
  exact D.inj q F S k1 j U g1 g2 z R W
 have fwd : ∀(b':Option aJ) c,pN M ι H.get w M ι (H.put r b').get (bA w l.b (.loop c)):=by
  intro b' c
  refine⟨rfl,rfl,rfl,by simp[bA],λb _ Zs=>dK (Zs r _ l O V),λ_ _ _ h=>h,λ_ _ h=>h,λq k j Y X=>?_,λ_ _ _ h => .inl h⟩
  obtain⟨S,g1⟩:=p b' q k Y
  exact .inr ⟨q,S,j,g1,X,rfl⟩
 have N : ∀b':Option aJ,o6 ι (H.put r b'):=by
  intro b' q lq d
  rw[ab.fp _ _ _ (by rw[O];rfl)]
  exact hD q lq d
 refine⟨nt,ps,as,bd,tm,u,rfl,R,W,h6,h7,h8,h9,Zt,λC c L G=>⟨⟨B c,λq k d=>?_,K _⟩,fwd _ c,N _⟩,λc=>⟨⟨B c,λq k d=>?_,K _⟩,fwd _ c,N _⟩⟩
 ·by_cases s:q=r
  ·subst s
   rw[ab.aj,if_pos rfl]at d
   cases d
   refine⟨l,V,lb.LY (.inl ⟨C,nt,ps,as,bd,tm,c,rfl,rfl,rfl,fe Zw,by rw[L.params];exact W,by rw[L.assign];exact h6,by rw[L.body];exact h7,by rw[L.tmps];exact h8,by rw[L.tmps];exact h9,G⟩) Zv hM⟩
  ·exact i c _ q k d s
 ·by_cases s:q=r
  ·rw[ab.aj,if_pos s]at d
   cases d
  ·exact i c _ q k d s
theorem N2{H:ab}{d nt:Nat}{tm:List AV}{a:Act}{ps:Array Tmp}{assign body:Code}{fn:FuncId}(B:eW M ι H.get w)(Q:o6 ι H)(Z:TR M ι tm a)(X:a.tmps.size=nt){p:World}
 (F:p=(w.alloc (.deferred (some []))).alloc (.loop { state := .ready,pending:=none,fn,tmps:=a.tmps,params:=ps,assign,body,defers:=w.heap.size})) :
 let r:Ref:=⟨d,nt,H.gen d nt,0⟩
 let c:=iV ι r ⟨w.heap.size+1,0,0⟩
 eW M c (ab.get ((r,some (c9 0 (.lp 0 nt ps.toList assign body tm))) :: H)) p/\pN M ι H.get w M c (ab.get ((r,some (c9 0 (.lp 0 nt ps.toList assign body tm))) :: H)) p /\
  o6 c ((r,some (c9 0 (.lp 0 nt ps.toList assign body tm))) :: H)/\p.heap[w.heap.size]?=some (.deferred (some [])):=by
 intro r c
 have hq:ι r=none:=Q.fresh d nt 0
 have n:=AE (l:=⟨w.heap.size+1,0,0⟩) hq
 have f:p.heap=(w.heap.push (.deferred (some []))).push (.loop { state := .ready,pending:=none,fn,tmps:=a.tmps,params:=ps,assign,body,defers:=w.heap.size}):=by rw[F];rfl
 have m : ∀b,b<w.heap.size->p.heap[b]?=w.heap[b]?:=by
  intro b K
  rw[f,zV (by simp;omega),<-ir,zV K,<-ir]
 have J:p.heap[w.heap.size]?=some (.deferred (some [])):=by rw[f,zV (by simp),<-ir];simp
 have G:p.heap[w.heap.size+1]?=some (.loop { state := .ready,pending:=none,fn,tmps:=a.tmps,params:=ps,assign,body,defers:=w.heap.size}):=by rw[f,Array.getElem?_push];simp
 have s : ∀b o x,M b o=some x->b<w.heap.size:=λb o x h=>World.block_lt_of_cell? w ⟨b,o,none⟩ (B.mem b o x h)
 have j : ∀q,ab.get ((r,some (c9 0 (.lp 0 nt ps.toList assign body tm))) :: H) q=if r=q then some (c9 0 (.lp 0 nt ps.toList assign body tm)) else H.get q:=λq=>rfl
 refine⟨⟨λb o x h=>?_,λq k h=>?_,λq Y k k' i O D v U h4 W=>?_⟩,⟨by rw[F];rfl,by rw[F];rfl,by rw[F];rfl,by rw[f];simp;omega,λb K _=>m b K,λ_ _ _ h=>h,n,λq k i D v=>?_,λ_ _ _ h => .inl h⟩,λq i h=>?_,J⟩
 ·rw[World.cell?_of_block (w:=w) (m b (s b o x h))]
  exact B.mem b o x h
 ·rw[j]at h
  split at h
  ·rename_i e
   subst e
   cases h
   refine⟨⟨w.heap.size+1,0,0⟩,by simp[c,iV],lb.LY (.inl ⟨0,nt,ps.toList,assign,body,tm,_,rfl,rfl,rfl,G,by simp,rfl,rfl,X,λt=>(Z.at_ t).mono (λ_ _ _ h=>h) c n,⟨rfl,rfl⟩⟩) rfl ?_⟩
   intro o x V
   have:=s _ _ _ V
   simp only at this
   omega
  ·obtain⟨i,L,u⟩:=B.live q k h
   exact⟨i,n q i L,u.cy (λ_ _ _ h=>h) n (m _ u.lt) u.frozen⟩
 ·have one : ∀ {q:Ref} {k i},ab.get ((r,some (c9 0 (.lp 0 nt ps.toList assign body tm))) :: H) q=some k->c q=some i->(q=r/\i.b=w.heap.size+1)\/(q≠r/\H.get q=some k/\ι q=some i/\i.b<w.heap.size):=by
   intro q k i h y
   rw[j]at h
   split at h
   ·rename_i e
    subst e
    simp only[c,iV,if_true]at y
    cases y
    exact .inl ⟨rfl,rfl⟩
   ·rename_i e
    simp only[c,iV]at y
    rw[if_neg (nE e)]at y
    obtain⟨O,z,I⟩:=B.live q k h
    rw[y]at z;cases z
    exact .inr ⟨nE e,h,y,I.lt⟩
  rcases one D U with ⟨R,N⟩ | ⟨R,N,T,e4⟩<;>rcases one v h4 with ⟨f1,f2⟩ | ⟨f1,f2,f3,f4⟩
  ·rw[R,f1]
  ·omega
  ·omega
  ·exact B.inj q Y k k' i O N f2 T f3 W
 ·rw[j]at D
  simp only[c,iV]at v
  split at D
  ·rename_i e
   rw[if_pos e.symm]at v
   cases v
   exact .inl (yX _)
  ·rename_i e
   rw[if_neg (nE e)]at v
   exact .inr ⟨q,k,i,D,v,rfl⟩
 ·simp only[c,iV]at h
  simp only[ab.gen]
  by_cases C:q=r
  ·subst C
   rw[if_pos ⟨rfl,rfl⟩]
   exact nD _
  ·rw[if_neg C]at h
   have:=Q q i h
   split
   ·rename_i S;rw[<-S.1,<-S.2]at this;exact AQ this
   ·exact this
theorem KO : ∀(args:List AV)(t:Nat),bZ args t=(args[t]?).getD AV.undef:=by
 intro args
 induction args with
 | nil=>intro t;simp[bZ]
 | cons x l b=>
  intro t
  cases t with
  | zero=>simp[bZ]
  | succ t=>simp[bZ,b]
def P1(tmps:Array Value):ResultVar->Sem Value
 | .tmp t=>pure (tmps.getD t undef)
 | .cell b t=>asAddr (tmps.getD b undef) >>= λx=>loadVar t x
theorem IB(fn:Func)(tmps:Array Value):results fn tmps=fn.results.mapM (P1 tmps) >>= λb=>pure (if h:b.size=1 then b[0] else .tuple b):=by
 unfold results
 congr 1
theorem IA{fn:Func}{st:St}{nt:Nat}(J:ue M ι st nt a w){x:AV}(h:sQ E.P fn st=some x) : ∃v,(results fn a.tmps).run E.P w = .ok v w/\VR M ι x v:=by
 have one : ∀(H:ResultVar)(y:AV),jz E.P st H=some y ->∃v,(P1 a.tmps H).run E.P w = .ok v w/\VR M ι y v:=by
  intro H y p
  cases H with
  | tmp t=>
   simp only[jz,dc]at p
   subst p
   exact⟨_,rfl,J.tr.at_ t⟩
  | cell b t=>
   simp only[jz]at p
   split at p
   ·rename_i r i j g n V O K
    split at p
    ·rename_i k S
     have G:=J.tr.at_ b
     rw[V]at G
     obtain⟨v,q,m⟩:=Ka O K J.sim G S p
     refine⟨v,?_,m⟩
     simp only[P1]
     generalize a.tmps.getD b undef=u at G q ⊢
     cases G
     simpa [asAddr,Instr.loadAt,Instr.sureAddr] using q
    ·cases p
   ·cases p
 have F : ∀(C:List ResultVar)(s:List AV),C.mapM (jz E.P st)=some s ->∃f,(C.mapM (P1 a.tmps)).run E.P w = .ok f w/\jD M ι s f:=by
  intro C
  induction C with
  | nil=>intro s h;simp at h;subst h;exact⟨[],rfl,jD.nil⟩
  | cons r C U=>
   intro s h
   simp only[kI,od,o9,fD]at h
   obtain⟨y,p,I,d,h⟩:=h
   simp at h
   subst h
   obtain⟨v,q,m⟩:=one r y p
   obtain⟨f,L,T⟩:=U I d
   refine⟨v :: f,?_,jD.cons m T⟩
   rw[kI]
   simp only[Sem.run_bind,q,Result.andThen_ok,L,Sem.run_pure]
 unfold sQ at h
 have z : ∀s,fn.results.toList.mapM (jz E.P st)=some s ->∃f:List Value,(results fn a.tmps).run E.P w = .ok (if h:f.toArray.size=1 then f.toArray[0] else .tuple f.toArray) w/\jD M ι s f:=by
  intro s d
  obtain⟨f,q,m⟩:=F _ s d
  refine⟨f,?_,m⟩
  rw[IB]
  simp only[Array.mapM_eq_mapM_toList,Sem.run_bind,Sem.run_map,q,Result.andThen_ok,Sem.run_pure]
 split at h
 ·rename_i d
  injection h with h
  subst h
  obtain⟨f,q,m⟩:=z _ d
  have:f=[]:=uw (by rw[<-m.1];rfl)
  subst this
  exact⟨_,q,.v rfl⟩
 ·rename_i y d
  injection h with h
  subst h
  obtain⟨f,q,m⟩:=z _ d
  obtain⟨v,rfl⟩:=Fi m.1.symm
  exact⟨v,by simpa using q,m.2 0 y v rfl rfl⟩
 ·rename_i s D B d
  injection h with h
  subst h
  obtain⟨f,q,m⟩:=z _ d
  have R:f.length≠1:=by
   intro h
   rw[<-m.1]at h
   obtain⟨y,p⟩:=Fi h
   exact B y p
  refine⟨.tuple f.toArray,?_,.tup ?_ (by simpa using m.1) λi c u N Q=>m.2 i c u N (by simpa using Q)⟩
  ·rw[q,dif_neg (by simpa using R)]
  ·intro e
   exact D e
 ·cases h
def marks(ds:List Nat):List Deferred:=ds.map λD => { target := .collected D,args := #[]}
def nZ(w w':World)(ds:List Nat):Prop:=ds.Nodup /\∀D∈ds,w.heap.size<=D/\w'.heap[D]?=some (.deferred (some []))
theorem Ct{M:Mem}{ι:Map}{g:cf}{w:World}(j:eW M ι g w){D:Nat}{x:Option (List Deferred)}(h:w.heap[D]?=some (.deferred x)) : ∀r k l,g r=some k->ι r=some l->l.b≠D:=by
 intro r k l n m e
 obtain⟨p,d,i⟩:=j.live r k n
 rw[m]at d;cases d
 rcases zb k.esz with f | f
 ·rcases(i.objOk f).obj with ⟨_,c⟩ | ⟨_,_,c⟩ | ⟨_,_,_,_,_,_,c⟩
  ·rw[e,h]at c;cases c
  ·rw[e,h]at c;cases c
  ·rw[e,h]at c;cases c
 ·obtain⟨_,_,_,c,_⟩:=(i.cellsOk f).heap
  rw[e,h]at c;cases c
theorem nZ.fwd{w c e:World}{ds:List Nat}{M1 ι1 g1 M2 ι2 g2}(h:nZ w c ds)(f:eW M1 ι1 g1 c)(i:pN M1 ι1 g1 c M2 ι2 g2 e):nZ w e ds:=
 ⟨h.1,λD d=>⟨(h.2 D d).1,by
  have b:=(h.2 D d).2
  rw[i.chg D (fP.1 b).1 (Ct f b)]
  exact b⟩⟩
theorem nZ.append{w i j:World}{ds c:List Nat}(n:w.heap.size<=i.heap.size)(h:nZ w j ds)(p : ∀D∈ds,D<i.heap.size)(d:nZ i j c):nZ w j (c++ds):=by
 refine⟨Ew.2 ⟨d.1,h.1,λa q b s e=>?_⟩,λD m=>?_⟩
 ·have:=(d.2 a q).1
  have:=p b s
  omega
 ·rcases kY.1 m with f | f
  ·exact⟨rk n (d.2 D f).1,(d.2 D f).2⟩
  ·exact h.2 D f
def AB(P:Program)(rd:Option Ref)(M:Mem)(ι:Map)(st:St)(a:Act)(w:World)(nt:Nat)(d:St)(b:Frame)(cs:List Frame)(m:Machine):Prop:=match rd with
 | none=>b.roundOf=none->b.kind = .normal ->∃i w' e ds,(∃M' A,ue M' A d nt i w'/\pN M ι st.hp.get w M' A d.hp.get w')/\i.defers=marks ds++a.defers/\nZ w w' ds /\
  Steps P m (lone { b.atR i e with mode := .returning} cs w')
 | some r =>∀l c f,ι r=some l->b.roundOf=some l.b->b.kind = .normal->cs=c :: f ->∃n h w',sU d.hp r=some (n,h)/\n≠1 /\
  (∃M' A,eW M' A d.hp.get w'/\pN M ι st.hp.get w M' A d.hp.get w'/\o6 A d.hp)/\Steps P m (lone (c.finish (.bool (n == 0))) f w')
theorem AB.of_steps{P:Program}{rd:Option Ref}{M y:Mem}{ι d:Map}{st e p:St}{a I:Act}{w q:World}{nt:Nat}{b:Frame}{cs:List Frame}{m H:Machine}{ds:List Nat}
 (F:b.roundOf=none\/rd≠none->b.kind = .normal->Steps P m H) (v:eW y d e.hp.get q) (t:pN M ι st.hp.get w y d e.hp.get q) (L:I.defers=marks ds++a.defers) (J:nZ w q ds) (h:AB P rd y d e I q nt p b cs H):AB P rd M ι st a w nt p b cs m:=by
 unfold AB at h ⊢
 cases rd with
 | none=>
  intro s j
  obtain⟨T,w',todo,u,⟨M',A,R,i⟩,C,z,f⟩:=h s j
  refine⟨T,w',todo,u++ds,⟨M',A,R,t.trans i⟩,?_,(J.fwd v i).append t.size (λD O=>(fP.1 (J.2 D O).2).1) z,(F (.inl s) j).trans f⟩
  rw[C,L]
  simp[marks]
 | some r=>
  intro l c B N s G x
  obtain⟨n,inf,w',V,S,⟨M',A,K,U,Q⟩,f⟩:=h l c B (t.map r l N) s G x
  exact⟨n,inf,w',V,S,⟨M',A,K,t.trans U,Q⟩,(F (.inr (by simp)) G).trans f⟩
theorem pq{w w':World}:nZ w w' []:=⟨List.nodup_nil,λD h=>by cases h⟩
def Hy(E:Env)(ok:Array Oper->Bool)(n:Nat):Prop:=
 ∀(rd:Option Ref)(nt dep:Nat)(c:List Item)(st d:St),bI E n rd nt dep c st=some d->(∀i∈c,lE ok i=true) ->∀(M:Mem)(ι:Map)(a:Act)(w:World),ue M ι st nt a w ->
  ∀(b:Frame)(cs:List Frame),AB E.P rd M ι st a w nt d b cs (lone (b.atR a c) cs w)
theorem GQ{P:Program}{fr:Frame}{cs:List Frame} : ∀(ds:List Nat)(w:World),fr.mode = .returning->ds.Nodup->(∀D∈ds,w.heap[D]?=some (.deferred (some []))) ->
 ∃w',Steps P (lone { fr with defers:=marks ds} cs w) (lone { fr with defers:=[]} cs w')/\w'.os=w.os/\w'.tape=w.tape/\w'.output=w.output/\w'.heap.size=w.heap.size /\∀b,b ∉ ds->w'.heap[b]?=w.heap[b]?:=by
 intro ds
 induction ds with
 | nil=>intro w _ _ _;exact⟨w,Steps.refl _ _,rfl,rfl,rfl,rfl,λ_ _=>rfl⟩
 | cons D ds u=>
  intro w n i m
  have v:=run_takeDeferred (P:=P) (m D (jM ..))
  have c:=step_collected (P:=P) (fr := { fr with defers:=marks (D :: ds)}) (cs:=cs) (w:=w) (d := { target := .collected D,args := #[]}) (r:=D) (ds:=marks ds) (by simp[n]) rfl rfl v
  obtain⟨w',s,t,q,p,z,y⟩:=u (w.putObj D (.deferred none)) n (wy.1 i).2 (λx f=>by
   rw[World.putObj_heap_other (by intro e;subst e;exact(wy.1 i).1 f)]
   exact m x (jI _ f))
  refine⟨w',Steps.trans (.one c) (by simpa using s),t,q,p,by rw[z];simp,λb j=>?_⟩
  rw[y b (λh=>j (jI _ h)),World.putObj_heap_other (by intro e;subst e;exact j (jM ..))]
theorem eW.other{M:Mem}{ι:Map}{g:cf}{w w':World}(e:eW M ι g w){ds:List Nat}(d : ∀D∈ds,w.heap[D]?=some (.deferred (some [])))(h : ∀b,b ∉ ds->w'.heap[b]?=w.heap[b]?):eW M ι g w':=by
 refine⟨λb o x n=>?_,λr k i=>?_,e.inj⟩
 ·have j:=e.mem b o x n
  have c:b ∉ ds:=by
   intro c
   have:=d b c
   simp[World.cell?,this]at j
  rw[World.cell?_of_block (w:=w) (h b c)]
  exact j
 ·obtain⟨l,f,c⟩:=e.live r k i
  exact⟨l,f,c.cy (λ_ _ _ h=>h) (λ_ _ h=>h) (h l.b λm=>Ct e (d _ m) r k l i f rfl) c.frozen⟩
theorem Eg{ok:Array Oper->Bool}(Y:E.Ok ok){n:Nat}(hn:Hy E ok n){dep:Nat}{f:FuncId}{args:List AV}{H V:ab}{x:AV}(h:qO E (bI E n) dep f args H=some (x,V)):lL E.P (.fn f) args H x V:=by
 unfold qO at h
 obtain⟨J,h⟩:=dG.1 h
 obtain⟨fn,p,y,u⟩:=Y.fns f J
 rw[p]at h
 simp only at h
 split at h
 ·rename_i c Q
  obtain⟨hlen,h⟩:=dG.1 h
  split at h
  ·rename_i st R
   simp only[aZ]at h
   obtain⟨x',T,h⟩:=h
   injection h with h1 F
   subst h1;subst F
   refine⟨⟨fn,p,y,by rw[Q];rfl⟩,?_⟩
   intro M ι w us hS s W cs
   have Zs:=W.1
   have hO:ue M ι ⟨args,H⟩ fn.ntmps { tmps:=us.toArray++Array.replicate (fn.ntmps - us.toArray.size) undef,defers:=[]} w:=by
    refine⟨hS,s,⟨?_⟩,by simp;omega⟩
    intro t
    rw[KO,xR]
    rcases dH t args.length with G | G
    ·rw[cw G,HR (by simp;omega),bO]
     have X:us[t]?=some (us[t]'(by omega)):=cw _
     simp only[HM,X,bO]
     exact W.2 t _ _ (cw G) X
    ·rw[sn G,Array.getElem?_append_right (by simp;omega)]
     have : ∀k:Nat,((Array.replicate (fn.ntmps - us.toArray.size) undef)[k]?).getD undef=undef:=by
      intro k
      rw[HO]
      split<;>rfl
     rw[this]
     exact .v rfl
   let b:Frame := { (default:Frame)with fn:=f,kind := .normal}
   have m:Frame.enter E.P f us.toArray .normal=b.atR { tmps:=us.toArray++Array.replicate (fn.ntmps - us.toArray.size) undef,defers:=[]} [.code c]:=by
    simp[Frame.enter,Frame.atR,p,Q,b]
    rfl
   obtain⟨B,w',todo,ds,⟨M',A,e,q⟩,z,j,d⟩:=hn none fn.ntmps dep [.code c] ⟨args,H⟩ st R (by intro i hi;simp at hi;subst hi;exact u c Q) M ι _ w hO b cs rfl rfl
   rw[<-m]at d
   simp only[pQ]at z
   obtain⟨L,F,Z,h4,h5,h6,U⟩:=GQ (P:=E.P) (fr := { b.atR B todo with mode := .returning}) (cs:=cs) ds w' rfl j.1 (λD s=>(j.2 D s).2)
   have S : { { b.atR B todo with mode := .returning} with defers:=marks ds} = { b.atR B todo with mode := .returning}:=by rw[<-show B.defers=marks ds from z];rfl
   rw[S]at F
   have C:=e.sim.other (λD s=>(j.2 D s).2) U
   have I:pN M ι H.get w M' A st.hp.get L:=by
    refine⟨Z.trans q.os,h4.trans q.tape,h5.trans q.output,by rw[h6];exact q.size,λb0 K N=>?_,q.mem,q.map,q.live,q.new⟩
    rw[U b0 λs=>absurd (j.2 b0 s).1 (by omega)]
    exact q.chg b0 K N
   obtain⟨v,hr,O⟩:=IA (w:=L) ⟨C,e.dom,e.tr,e.nt⟩ T
   exact⟨.returned v,L, { { b.atR B todo with mode := .returning} with defers:=[]},⟨v,rfl,M',A,O,C,I,e.dom⟩,Steps.trans d F,rfl,rfl,rfl,rfl,fn,p,hr⟩
  ·cases h
 ·cases h
end
end
section
theorem Ah{g:cf}(r:Ref) : ∀(n m:Nat)(x y:AV)(bs:List aJ),view g n x=some y->af r m y bs=(y,bs):=by
 intro n
 induction n with
 | zero=>intro m x y bs h;simp[view]at h
 | succ n C=>
  intro m x y bs h
  cases m with
  | zero=>rfl
  | succ m=>
   have q : ∀(cs s e:List AV),cs.mapM (view g n)=some s->s.foldl (λ(p:List AV × List aJ) c=>(p.1++[(af r m c p.2).1],(af r m c p.2).2)) (e,bs)=(e++s,bs):=by
    intro cs
    induction cs with
    | nil=>intro s e h;simp at h;subst h;simp
    | cons c cs u=>
     intro s e h
     simp only[kI,od,o9,fD]at h
     obtain⟨y,z,B,d,h⟩:=h
     simp at h
     subst h
     rw[uq,C m c y bs z,u B (e++[y]) d]
     simp
   cases x with
   | agg cs=>
    simp only[view,aZ]at h
    obtain⟨s,d,rfl⟩:=h
    have:=q cs s [] d
    simp only[af]
    rw[this]
    simp
   | tup cs=>
    simp only[view,aZ]at h
    obtain⟨s,d,rfl⟩:=h
    have:=q cs s [] d
    simp only[af]
    rw[this]
    simp
   | v x=>simp[view]at h;subst h;rfl
   | bl=>simp[view]at h;subst h;rfl
   | iptr=>simp[view]at h;subst h;rfl
   | fsl=>simp[view]at h
   | bD r' off len cap=>
    simp only[view]at h
    split at h
    ·split at h
     ·cases h;rfl
     ·cases h
    ·cases h
   | nsl=>simp[view]at h
   | dsl r' off len cap=>
    simp only[view]at h
    split at h
    ·split at h
     ·simp only[aZ]at h;obtain⟨_,_,rfl⟩:=h;rfl
     ·cases h
    ·cases h
   | ptr r' i j=>
    simp only[view]at h
    split at h
    ·split at h
     ·cases h;rfl
     ·simp only[aZ]at h;obtain⟨_,_,rfl⟩:=h;rfl
    ·cases h
   | fn f a b=>
    simp only[view]at h
    split at h
    ·cases h;rfl
    ·cases h
   | ifc t x=>
    simp only[view,aZ]at h
    obtain⟨y,z,rfl⟩:=h
    simp only[af]
    rw[C m x y bs z]
   | yld=>simp[view]at h
   | mp=>simp[view]at h
   | ch=>simp[view]at h
   | uP=>simp[view]at h
   | lp=>simp[view]at h
def aC(g:cf):Nat->AV->List Ref
 | 0,_=>[]
 | n+1,x=>
  match x with
  | .agg cs | .tup cs=>cs.flatMap (aC g n)
  | .bD r 0 len _=>(match g r with | some b=>if b.fN then [] else [r] | none=>[])
  | .dsl r 0 len _=>(match g r with | some b=>if b.fN then [] else b.es.flatMap (aC g n)++[r] | none=>[])
  | .mp r=>[r]
  | .ifc _ x=>aC g n x
  | _=>[]
def bH(g:cf):Nat->AV->List Ref
 | 0,_=>[]
 | n+1,x=>
  match x with
  | .agg cs | .tup cs=>cs.flatMap (bH g n)
  | .bD r 0 len _=>(match g r with | some b=>if b.fN then [r] else [] | none=>[r])
  | .dsl r 0 len _=>(match g r with | some b=>if b.fN then r :: b.es.flatMap (ad g n) else b.es.flatMap (bH g n) | none=>[r])
  | .mp _=>[]
  | .ifc _ x=>bH g n x
  | x=>ad g (n+1) x
theorem AL{g:cf} : ∀(n:Nat)(x:AV)(r:Ref),r∈aC g n x->r∈ad g n x:=by
 intro n
 induction n with
 | zero=>intro x r h;simp[aC]at h
 | succ n f=>
  intro x r h
  unfold aC at h
  split at h
  ·simp only[hY]at h
   obtain⟨c,d,e⟩:=h
   simp only[ad,hY]
   exact⟨c,d,f c r e⟩
  ·simp only[hY]at h
   obtain⟨c,d,e⟩:=h
   simp only[ad,hY]
   exact⟨c,d,f c r e⟩
  ·split at h
   ·split at h
    ·cases h
    ·simpa [ad] using h
   ·cases h
  ·split at h
   ·rename_i b i
    split at h
    ·cases h
    ·simp only[kY,hY,pT]at h
     simp only[ad,i,eU,hY]
     rcases h with ⟨c,d,e⟩ | rfl
     ·exact .inr ⟨c,d,f c r e⟩
     ·exact .inl rfl
   ·cases h
  ·simpa [ad] using h
  ·simp only[ad];exact f _ r h
  ·cases h
theorem CL{g:cf} : ∀(n:Nat)(x:AV),(ad g n x).Nodup->(aC g n x).Nodup /\∀r∈aC g n x,r ∉ bH g n x:=by
 intro n
 induction n with
 | zero=>intro x h;simp[aC]
 | succ n J=>
  intro x h
  have i : ∀(n:Nat)(x:AV)(r:Ref),r∈bH g n x->r∈ad g n x:=by
   intro n
   induction n with
   | zero=>intro x r h;simp[bH]at h
   | succ n y=>
    intro x r h
    unfold bH at h
    split at h
    ·simp only[hY]at h
     obtain⟨c,z,f⟩:=h
     simp only[ad,hY]
     exact⟨c,z,y c r f⟩
    ·simp only[hY]at h
     obtain⟨c,z,f⟩:=h
     simp only[ad,hY]
     exact⟨c,z,y c r f⟩
    ·split at h
     ·split at h
      ·simpa [ad] using h
      ·cases h
     ·simpa [ad] using h
    ·split at h
     ·rename_i b v
      split at h
      ·simpa [ad,v] using h
      ·simp only[hY]at h
       obtain⟨c,z,f⟩:=h
       simp only[ad,v,eU,hY]
       exact .inr ⟨c,z,y c r f⟩
     ·rename_i v
      simpa [ad,v] using h
    ·cases h
    ·simp only[ad];exact y _ r h
    ·exact h
  have p : ∀cs:List AV,(cs.flatMap (ad g n)).Nodup->(cs.flatMap (aC g n)).Nodup /\∀r∈cs.flatMap (aC g n),r ∉ cs.flatMap (bH g n):=by
   intro cs
   induction cs with
   | nil=>intro _;simp
   | cons c cs D=>
    intro K
    rw[kZ,Ew]at K
    obtain⟨I,G,C⟩:=K
    obtain⟨R,O⟩:=J c I
    obtain⟨Q,N⟩:=D G
    have s : ∀r,r∈cs.flatMap (aC g n)->r∈cs.flatMap (ad g n):=by
     intro r f
     simp only[hY]at f ⊢
     obtain⟨d,B,f⟩:=f
     exact⟨d,B,AL n d r f⟩
    have m : ∀r,r∈cs.flatMap (bH g n)->r∈cs.flatMap (ad g n):=by
     intro r f
     simp only[hY]at f ⊢
     obtain⟨d,B,f⟩:=f
     exact⟨d,B,i n d r f⟩
    refine⟨?_,?_⟩
    ·rw[kZ,Ew]
     exact⟨R,Q,λa H b v e=>C a (AL n c a H) b (s b v) e⟩
    ·intro r f u
     rw[kZ,kY]at f u
     rcases f with f | f<;>rcases u with u | u
     ·exact O r f u
     ·exact C r (AL n c r f) r (m r u) rfl
     ·exact C r (i n c r u) r (s r f) rfl
     ·exact N r f u
  cases x with
  | agg cs=>simpa [aC,bH] using p cs (by simpa [ad] using h)
  | tup cs=>simpa [aC,bH] using p cs (by simpa [ad] using h)
  | bD r off len cap=>
   cases off with
   | zero=>
    simp only[aC,bH]
    cases L:g r with
    | none=>simp
    | some b=>cases v:b.fN<;>simp[v]
   | succ off=>simp[aC]
  | dsl r off len cap=>
   cases off with
   | zero=>
    simp only[aC,bH]
    cases L:g r with
    | none=>simp
    | some b=>
     cases v:b.fN with
     | true=>simp[v]
     | false=>
      simp only[ad,L,wy]at h
      obtain⟨f,F⟩:=h
      obtain⟨I,G⟩:=p b.es F
      have s : ∀q,q∈b.es.flatMap (aC g n)->q∈b.es.flatMap (ad g n):=by
       intro q j
       simp only[hY]at j ⊢
       obtain⟨d,B,j⟩:=j
       exact⟨d,B,AL n d q j⟩
      have m : ∀q,q∈b.es.flatMap (bH g n)->q∈b.es.flatMap (ad g n):=by
       intro q j
       simp only[hY]at j ⊢
       obtain⟨d,B,j⟩:=j
       exact⟨d,B,i n d q j⟩
      simp only[v,gH,if_false]
      refine⟨?_,?_⟩
      ·rw[Ew]
       exact⟨I,by simp,λa H c z e=>by simp at z;subst z;subst e;exact f (s _ H)⟩
      ·intro q j u
       rw[kY]at j
       rcases j with j | j
       ·exact G q j u
       ·simp at j;subst j;exact f (m _ u)
   | succ off=>simp[aC]
  | mp r=>simp[aC,bH]
  | ifc t x=>simpa [aC,bH] using J x (by simpa [ad] using h)
  | _=>simp[aC]
def Out(g:cf)(q:Ref)(b:aJ):Prop:=
 (∃k len,g q=some k/\k.fN=false/\k.arr=true/\b=⟨k.esz,k.es.take len,true,false⟩)\/(∃k c,g q=some k/\kN g q=some c/\(∀e∈c,flat depth e=true)/\b=ml c) \/
 ∃k zs,g q=some k/\k.fN=false/\k.arr=false/\0<k.esz/\zs.length=k.es.length/\b=⟨k.esz,zs,false,false⟩
def Ju(M:Mem)(A ι:Map)(g:cf)(w:World)(q:Ref)(b:aJ):Prop :=∀k l,g q=some k->ι q=some l->k.arr=false->0<k.esz ->
 (∀(i j:Nat) z x,b.es[i]?=some z->z.cells[j]?=some x ->∃u,w.cell? ⟨l.b,i * k.esz+j,none⟩=some u/\VR M A x u) /\∀z∈b.es,z.cells.length=k.esz
theorem VR.TH{M:Mem}{ι:Map}{x:AV}{u:Value}(h:VR M ι x u)(c : ∀cs,x ≠ .agg cs):x.cells=[x]/\u.cells = #[u]:=by
 cases h with
 | agg=>exact absurd rfl (c _)
 | v b=>
  refine⟨rfl,?_⟩
  cases u<;>first | rfl | simp[scalar]at b
 | uP b=>exact⟨rfl,by cases u<;>first | rfl | (cases b)⟩
 | _=>exact⟨rfl,rfl⟩
theorem DZ{g:cf}{q:Ref}{b:List AV}(h:kN g q=some b) : ∃k,g q=some k/\k.esz=0/\k.es = .v (.bool true) :: b:=by
 unfold kN at h
 split at h
 ·rename_i e f c
  cases h
  exact⟨_,c,rfl,rfl⟩
 ·cases h
theorem LM{M:Mem}{ι:Map}{g:cf}{w:World}{R:List Ref}(hS:eW M ι g w)(r:Ref) : ∀(n:Nat)(x y:AV)(u:Value)(bs:List aJ),bj g n x=some y->VR M ι x u ->
 (∀q∈bH g n x,q∈R) ->
 ∃new:List aJ,(af r n y bs).2=bs++new/\new.length=(aC g n x).length /\
  (∀(i:Nat) q b,(aC g n x)[i]?=some q->new[i]?=some b->Out g q b) /\
  ∀H:List Loc,(∀(i:Nat) q l,(aC g n x)[i]?=some q->ι q=some l->H[bs.length+i]?=some l)->VR (iD M ι g w R) (fT r H) (af r n y bs).1 u /\∀(i:Nat) q b,(aC g n x)[i]?=some q->new[i]?=some b->Ju (iD M ι g w R) (fT r H) ι g w q b:=by
 intro n
 induction n with
 | zero=>intro x y u bs h;simp[bj]at h
 | succ n ih=>
  intro x y u bs h hv W
  have plain:view g (n+1) x=some y->aC g (n+1) x=[]->(∀q∈ad g (n+1) x,q∈R) ->∃new:List aJ,(af r (n+1) y bs).2=bs++new/\new.length=(aC g (n+1) x).length /\
   (∀(i:Nat) q b,(aC g (n+1) x)[i]?=some q->new[i]?=some b->Out g q b) /\
   ∀H:List Loc,(∀(i:Nat) q l,(aC g (n+1) x)[i]?=some q->ι q=some l->H[bs.length+i]?=some l)->VR (iD M ι g w R) (fT r H) (af r (n+1) y bs).1 u /\∀(i:Nat) q b,(aC g (n+1) x)[i]?=some q->new[i]?=some b->Ju (iD M ι g w R) (fT r H) ι g w q b:=by
   intro G J L
   rw[Ah r (n+1) (n+1) x y bs G]
   exact⟨[],by simp,by rw[J];rfl,by rw[J];intro i q b F;simp at F,λH _=>⟨(xU hS (n+1) x y u G L hv).up _,by rw[J];intro i q b F;simp at F⟩⟩
  have V : ∀(cs ys:List AV)(us:List Value)(K:List AV)(bs:List aJ),cs.mapM (bj g n)=some ys->jD M ι cs us->(∀q∈cs.flatMap (bH g n),q∈R) ->
   ∃(new:List aJ) (zs:List AV),ys.foldl (λ(p:List AV × List aJ) c=>(p.1++[(af r n c p.2).1],(af r n c p.2).2)) (K,bs)=(K++zs,bs++new)/\new.length=(cs.flatMap (aC g n)).length /\
    (∀(i:Nat) q b,(cs.flatMap (aC g n))[i]?=some q->new[i]?=some b->Out g q b) /\
    ∀H:List Loc,(∀(i:Nat) q l,(cs.flatMap (aC g n))[i]?=some q->ι q=some l->H[bs.length+i]?=some l)->jD (iD M ι g w R) (fT r H) zs us /\∀(i:Nat) q b,(cs.flatMap (aC g n))[i]?=some q->new[i]?=some b->Ju (iD M ι g w R) (fT r H) ι g w q b:=by
   intro cs
   induction cs with
   | nil=>
    intro ys us K bs hy Q _
    simp at hy
    subst hy
    have:us=[]:=uw (by rw[<-Q.1];rfl)
    subst this
    exact⟨[],[],by simp,rfl,by intro i q b F;simp at F,λ_ _=>⟨jD.nil,by intro i q b F;simp at F⟩⟩
   | cons c cs ZB=>
    intro ys us K bs hy Q Zz
    simp only[kI,od,o9,fD]at hy
    obtain⟨y,ZV,ZN,N,ZH⟩:=hy
    simp at ZH
    subst ZH
    cases us with
    | nil=>have:=Q.1;simp at this
    | cons u us=>
     have ZU:VR M ι c u:=Q.2 0 c u rfl rfl
     have ZG:jD M ι cs us:=⟨by have:=Q.1;simpa using this,λi x v hx hv=>Q.2 (i+1) x v (by simpa using hx) (by simpa using hv)⟩
     simp only[kZ,kY]at Zz
     obtain⟨Zv,G,J,L,h4⟩:=ih c y u bs ZV ZU (λq F=>Zz q (.inl F))
     obtain⟨ZJ,zs,h5,h6,h7,h8⟩:=ZB ZN us (K++[(af r n y bs).1]) (bs++Zv) N ZG (λq F=>Zz q (.inr F))
     refine⟨Zv++ZJ,(af r n y bs).1 :: zs,?_,?_,?_,?_⟩
     ·rw[uq]
      simp only
      rw[G,h5]
      simp
     ·simp[J,h6]
     ·intro i q b F Z
      rw[kZ]at F
      rcases dH i (aC g n c).length with hi | hi
      ·rw[ia hi]at F
       rw[ia (by omega)]at Z
       exact L i q b F Z
      ·rw[iL hi]at F
       rw[iL (by omega),J]at Z
       exact h7 _ q b F Z
     ·intro H B
      have p1:=h4 H (by
       intro i q l F hl
       refine B i q l ?_ hl
       rw[kZ,ia (dE.1 F).1]
       exact F)
      have p2:=h8 H (by
       intro i q l F hl
       have:=B ((aC g n c).length+i) q l (by
        rw[kZ,iL (by omega),EE]
        exact F) hl
       rw[gG,J,A8]
       exact this)
      refine⟨jD.cons p1.1 p2.1,λi q b F Z=>?_⟩
      rw[kZ]at F
      rcases dH i (aC g n c).length with hi | hi
      ·rw[ia hi]at F
       rw[ia (by omega)]at Z
       exact p1.2 i q b F Z
      ·rw[iL hi]at F
       rw[iL (by omega),J]at Z
       exact p2.2 _ q b F Z
  cases x with
  | agg cs=>
   simp only[bj,aZ]at h
   obtain⟨ys,N,rfl⟩:=h
   obtain⟨vs,rfl,Q⟩:=hv.KA
   obtain⟨new,zs,G,J,L,h4⟩:=V cs ys vs.toList [] bs N Q (by simpa [bH] using W)
   simp only[af]
   rw[G]
   refine⟨new,rfl,by simpa [aC] using J,by simpa [aC] using L,λH B=>?_⟩
   have:=h4 H (by simpa [aC] using B)
   exact⟨by simpa using VR.mP.2 this.1,by simpa [aC] using this.2⟩
  | tup cs=>
   simp only[bj,aZ]at h
   obtain⟨ys,N,rfl⟩:=h
   cases hv with | tup h0 hl hh=>
   rename_i vs
   obtain⟨new,zs,G,J,L,h4⟩:=V cs ys vs.toList [] bs N ⟨by simpa using hl,λi x u hx I=>hh i x u hx (by simpa using I)⟩ (by simpa [bH] using W)
   simp only[af]
   rw[G]
   refine⟨new,rfl,by simpa [aC] using J,by simpa [aC] using L,λH B=>?_⟩
   obtain⟨this,ZW⟩:=h4 H (by simpa [aC] using B)
   simp only[pR]
   refine⟨.tup ?_ (by simpa using this.1) λi c u hc I=>this.2 i c u hc (by simpa using I),by simpa [aC] using ZW⟩
   intro e
   rw[e]at this
   have h5:=this.1
   simp at h5
   have h6:vs.size=0:=by omega
   rw[h6]at hl
   exact h0 (uw hl)
  | bD q off len cap=>
   cases off with
   | succ off=>exact plain (by simpa [bj] using h) (by simp[aC]) (by simpa [bH] using W)
   | zero=>
    simp only[bj]at h
    split at h
    ·rename_i k O
     obtain⟨⟨D,hlen⟩,h⟩:=dG.1 h
     injection h with h
     cases C:k.fN with
     | true=>
      rw[C]at h
      simp only[if_true]at h
      refine plain ?_ (by simp[aC,O,C]) (by
       intro Y f
       refine W Y ?_
       simp only[ad,pT]at f
       simp[bH,O,C,f])
      simp only[view,O,D]
      rw[if_pos ⟨trivial,by omega⟩]
      simp[<-h]
     | false=>
      rw[C]at h
      simp only[gH,if_false]at h
      subst h
      have m:aC g (n+1) (.bD q 0 len cap)=[q]:=by simp[aC,O,C]
      cases hv with | bD hr Z hs ha hc hn ZC Zt=>
      rename_i l a c
      have ZR:(k.es.take len).length=len:=by rw[lW];omega
      have Zx:k.esz≠0:=by
       obtain⟨l0,ZD,S⟩:=hS.live q k O
       have:=S.pos D
       omega
      refine⟨[⟨k.esz,k.es.take len,true,false⟩],by simp[af,Zx],by rw[m];rfl,?_,?_⟩
      ·intro i Y b f s
       rw[m]at f
       cases i with
       | succ i=>simp at f
       | zero=>
        simp at f s
        subst f;subst s
        exact .inl ⟨k,len,O,C,D,rfl⟩
      ·intro H B
       have:=B 0 q l (by rw[m];rfl) hr
       simp only[af,ZR,if_neg Zx]
       refine⟨.bD (l:=l) ?_ Z hs ha hc hn ZC Zt,λi Y b f s=>?_⟩
       ·unfold fT
        simpa using this
       ·rw[m]at f
        cases i with
        | succ i=>simp at f
        | zero=>
         simp at f
         subst f
         intro k' l' G _ L
         rw[O]at G
         cases G
         rw[D]at L
         cases L
    ·cases h
  | nsl=>simp[bj,view]at h
  | dsl q off len cap=>
   cases off with
   | succ off=>exact plain (by simpa [bj] using h) (by simp[aC]) (by simpa [bH] using W)
   | zero=>
    simp only[bj]at h
    split at h
    ·rename_i k O
     obtain⟨⟨D,hlen⟩,h⟩:=dG.1 h
     cases C:k.fN with
     | true=>
      rw[C]at h
      simp only[if_true]at h
      refine plain ?_ (by simp[aC,O,C]) (by
       intro Y f
       refine W Y ?_
       simpa [bH,ad,O,C] using f)
      obtain⟨es',ZF,rfl⟩:=aZ.1 h
      have Z0:=fg ZF
      simp only[view,O]
      rw[if_pos ⟨D,by omega⟩,ZF]
      simp only[Option.map_some,y0]
      rw[fC (by omega)]
     | false=>
      rw[C]at h
      simp only[gH,if_false]at h
      obtain⟨ys,N,rfl⟩:=aZ.1 h
      have m:aC g (n+1) (.dsl q 0 len cap)=k.es.flatMap (aC g n)++[q]:=by simp[aC,O,C]
      have ZA:bH g (n+1) (.dsl q 0 len cap)=k.es.flatMap (bH g n):=by simp[bH,O,C]
      cases hv with | dsl hr Z hs ha hc hn ZC Zt=>
      rename_i l a c
      have S:=hS.at hr Zt O
      have ZT:0<k.esz:=by rw[<-S.esz];exact Zt
      obtain⟨arr,T,fz,hh,ZZ,_,X⟩:=S.heap
      have ZM : ∀o,w.cell? ⟨l.b,o,none⟩=arr[o]?:=λo=>gA hh
      let val:Nat->AV->Value:=λi e=>match e with
       | .agg cs => .agg ((List.range cs.length).map λj=>(arr[i * k.esz+j]?).getD undef).toArray
       | _=>(arr[i * k.esz]?).getD undef
      have Zs : ∀(i:Nat) e,k.es[i]?=some e->VR M ι e (val i e) /\∀(j:Nat) u,(val i e).cells[j]?=some u->arr[i * k.esz+j]?=some u:=by
       intro i e U
       have ZX:=S.cells e (eY U)
       by_cases ZI : ∃cs,e = .agg cs
       ·obtain⟨cs,rfl⟩:=ZI
        refine⟨VR.mP.2 ⟨by simp[val],λj x u hx I=>?_⟩,λj u I=>?_⟩
        ·obtain⟨u',G,_,L⟩:=X i j _ x U (by simpa [AV.cells] using hx)
         rw[aJ.map,if_neg (by simp[D])]at L
         have hj:=(dE.1 hx).1
         have:u=u':=by
          simp only[val,List.toArray,kJ]at I
          rw[AR hj]at I
          simp[G]at I
          exact I.symm
         rw[this]
         exact L
        ·have hj:j<cs.length:=by
          have:=(fP.1 I).1
          simpa [val,Value.cells] using this
         obtain⟨u',G,_,_⟩:=X i j _ cs[j] U (by simp[AV.cells,hj])
         have:(val i (.agg cs)).cells[j]?=some u':=by simp[val,Value.cells,hj,G]
         rw[this]at I
         cases I
         exact G
       ·have ZE : ∀cs,e ≠ .agg cs:=λcs hc=>ZI ⟨cs,hc⟩
        have ZS:e.cells=[e]:=by cases e<;>first | rfl | exact absurd rfl (ZE _)
        obtain⟨u',G,_,L⟩:=X i 0 e e U (by rw[ZS];rfl)
        rw[aJ.map,if_neg (by simp[D])]at L
        have ZL:val i e=u':=by
         simp only[uU]at G
         cases e<;>first | exact absurd rfl (ZE _) | simp[val,G]
        rw[ZL]
        refine⟨L,λj u I=>?_⟩
        rw[(L.TH ZE).2]at I
        cases j with
        | zero=>simp at I;subst I;exact G
        | succ j=>simp at I
      let us:List Value:=(List.range k.es.length).map λi=>val i (k.es[i]?.getD AV.undef)
      have ZO:jD M ι k.es us:=by
       refine⟨by simp[us],λi e u U I=>?_⟩
       have hi:=(dE.1 U).1
       simp only[us,kJ]at I
       rw[AR hi]at I
       simp[U]at I
       rw[<-I]
       exact(Zs i e U).1
      obtain⟨new,zs,G,J,L,h4⟩:=V k.es ys us [] bs N ZO (by rw[ZA]at W;exact W)
      have Zw:zs.length=k.es.length/\ys.length=k.es.length:=by
       refine⟨?_,fg N⟩
       have e1:=congrArg (λp:List AV × List aJ=>p.1.length) G
       have : ∀(cs K:List AV)(bs:List aJ),(cs.foldl (λ(p:List AV × List aJ) c=>(p.1++[(af r n c p.2).1],(af r n c p.2).2)) (K,bs)).1.length=K.length+cs.length:=by
        intro cs
        induction cs with
        | nil=>intro K bs;simp
        | cons c cs ZB=>intro K bs;rw[uq,ZB];simp;omega
       simp only[this]at e1
       have e2:=fg N
       simp at e1
       omega
      refine⟨new++[⟨k.esz,zs,false,false⟩],?_,?_,?_,?_⟩
      ·simp only[af]
       rw[G]
       simp
      ·rw[m];simp[J]
      ·intro i Y b f s
       rw[m]at f
       rcases dH i new.length with hi | hi
       ·rw[ia (by omega)]at f
        rw[ia hi]at s
        exact L i Y b f s
       ·rw[iL (by omega)]at f
        rw[iL hi]at s
        rw[<-J]at f
        cases hd:i - new.length with
        | succ d=>rw[hd]at f;simp at f
        | zero=>
         rw[hd]at f s
         simp at f s
         subst f;subst s
         exact .inr (.inr ⟨k,zs,O,C,D,ZT,Zw.1,rfl⟩)
      ·intro H B
       obtain⟨p1,p2⟩:=h4 H (by
        intro i Y l' f ZQ
        refine B i Y l' ?_ ZQ
        rw[m,ia (dE.1 f).1]
        exact f)
       have ZY:=B new.length q l (by rw[m,iL (by omega),J];simp) hr
       simp only[af]
       rw[G]
       simp only[pR]
       refine⟨?_,?_⟩
       ·rw[Zw.2,<-hlen]
        refine .dsl (l:=l) ?_ Z hs ha hc hn ZC Zt
        unfold fT
        simpa using ZY
       ·intro i Y b f s
        rw[m]at f
        rcases dH i new.length with hi | hi
        ·rw[ia (by omega)]at f
         rw[ia hi]at s
         exact p2 i Y b f s
        ·rw[iL (by omega)]at f
         rw[iL hi]at s
         rw[<-J]at f
         cases hd:i - new.length with
         | succ d=>rw[hd]at f;simp at f
         | zero=>
          rw[hd]at f s
          simp at f s
          subst f;subst s
          intro k' l' e1 e2 _ _
          rw[O]at e1
          cases e1
          rw[hr]at e2
          cases e2
          have zc : ∀(i:Nat) z,zs[i]?=some z ->∃e,k.es[i]?=some e/\jD (iD M ι g w R) (fT r H) z.cells (val i e).cells.toList:=by
           intro i z hz
           have hi:=(dE.1 hz).1
           have U:k.es[i]?=some (k.es[i]'(by omega)):=cw _
           refine⟨_,U,(p1.2 i z _ hz ?_).cells⟩
           simp only[us,kJ]
           rw[AR (by omega)]
           simp[U]
          refine⟨λi j z x hz hx=>?_,λz hz=>?_⟩
          ·obtain⟨e,U,Zu⟩:=zc i z hz
           have hj:=(dE.1 hx).1
           have ZK:j<(val i e).cells.toList.length:=by rw[<-Zu.1];exact hj
           have I:(val i e).cells.toList[j]?=some ((val i e).cells.toList[j]):=cw ZK
           refine⟨_,?_,Zu.2 j x _ hx I⟩
           rw[ZM]
           exact(Zs i e U).2 j _ (by simpa using I)
          ·obtain⟨i,hi,rfl⟩:=mw hz
           obtain⟨e,U,Zu⟩:=zc i _ (cw hi)
           have h5:=(Zs i e U).1.cells
           rw[Zu.1,<-h5.1]
           exact S.cells e (eY U)
    ·cases h
  | v x=>exact plain (by simpa [bj] using h) (by simp[aC]) (by simpa [bH] using W)
  | bl=>exact plain (by simpa [bj] using h) (by simp[aC]) (by simpa [bH] using W)
  | iptr=>exact plain (by simpa [bj] using h) (by simp[aC]) (by simpa [bH] using W)
  | fsl=>exact plain (by simpa [bj] using h) (by simp[aC]) (by simpa [bH] using W)
  | ptr=>exact plain (by simpa [bj] using h) (by simp[aC]) (by simpa [bH] using W)
  | fn=>exact plain (by simpa [bj] using h) (by simp[aC]) (by simpa [bH] using W)
  | ifc t x=>
   simp only[bj,aZ]at h
   obtain⟨y,hy,rfl⟩:=h
   cases hv with | ifc hv=>
   obtain⟨new,G,J,L,h4⟩:=ih x y _ bs hy hv (by simpa [bH] using W)
   simp only[af]
   exact⟨new,G,by simpa [aC] using J,by simpa [aC] using L,λH B=>⟨.ifc (h4 H (by simpa [aC] using B)).1,by simpa [aC] using (h4 H (by simpa [aC] using B)).2⟩⟩
  | yld=>simp[bj,view]at h
  | ch q=>simp[bj,view]at h
  | uP q=>simp[bj,view]at h
  | mp q=>
   simp only[bj]at h
   split at h
   ·rename_i Zy hm
    obtain⟨ZP,h⟩:=dG.1 h
    injection h with h
    subst h
    have m:aC g (n+1) (.mp q)=[q]:=by simp[aC]
    cases hv with | mp hr hz=>
    rename_i l
    obtain⟨k,O,_,_⟩:=DZ hm
    refine⟨[ml Zy],by simp[af,ml],by rw[m];rfl,?_,?_⟩
    ·intro i Y b f s
     rw[m]at f
     cases i with
     | succ i=>simp at f
     | zero=>
      simp at f s
      subst f;subst s
      exact .inr (.inl ⟨k,Zy,O,hm,by simpa [da] using ZP,rfl⟩)
    ·intro H B
     have:=B 0 q l (by rw[m];rfl) hr
     simp only[af,if_true]
     refine⟨.mp (l:=l) ?_ hz,λi Y b f s=>?_⟩
     ·unfold fT
      simpa using this
     ·rw[m]at f
      cases i with
      | succ i=>simp at f
      | zero=>
       simp at f
       subst f
       intro k' l' G J _ h4
       obtain⟨l0,ZD,S⟩:=hS.live q k' G
       rw[J]at ZD
       cases ZD
       rw[hr]at J
       cases J
       have:=S.esz
       omega
   ·cases h
  | lp=>simp[bj,view]at h
theorem ym:ab.get []=λ_=>none:=by funext q;rfl
theorem PC{M:Mem}{w:World}(c : ∀b o x,M b o=some x->w.cell? ⟨b,o,none⟩=some x):eW M cQ (ab.get []) w:=
 ⟨c,(λr k h=>by rw[ym]at h;cases h),(λr r' k k' l d h=>by rw[ym]at h;cases h)⟩
theorem QQ:o6 cQ []:=λq l h=>by cases h
theorem GC{M:Mem}{w:World}(H : ∀b o x,M b o=some x->w.cell? ⟨b,o,none⟩=some x){m:ab}{v:Value}{w':World}{d:Mem}{c:Map}{x:AV}
 (D:VR d c x v) (s:eW d c m.get w') (e:pN M cQ (ab.get []) w d c m.get w') {R:List Ref} {y:AV}
 (p : ∀r:Ref,∃f:List Loc,f.length=(af r depth y []).2.length/\VR (iD d c m.get w' R) (fT r f) (af r depth y []).1 v /\
  (∀(k:Nat) l b,f[k]?=some l->(af r depth y []).2[k]?=some b->mg (iD d c m.get w' R) (fT r f) w' l b/\w.heap.size<=l.b) /\
  ∀(i j:Nat) l l',f[i]?=some l->f[j]?=some l'->l.b=l'.b->i=j):o5 M w y v (iD d c m.get w' R) w':=by
 obtain⟨B,q⟩:=vv (R:=R) s
 have n:=e.trans q
 refine⟨e.os,e.tape,e.output,e.size,λb t=>e.chg b t (λr k l h=>by rw[ym]at h;cases h),n.mem,qR s.mem,?_,p⟩
 intro b o z u
 rcases n.new b o z u with h | h | ⟨F,G,C,h,_⟩
 ·exact .inl h
 ·exact .inr h
 ·rw[ym]at h;cases h
theorem Cx{M:Mem}{w:World}{d:ab}{w':World}{f:Mem}{c:Map}(j:pN M cQ (ab.get []) w f c d.get w'){r:Ref}{k:aJ}{l:Loc}(i:d.get r=some k)(e:c r=some l):w.heap.size<=l.b:=by
 rcases j.live r k l i e with h | ⟨n,p,m,h,_⟩
 ·exact h
 ·rw[ym]at h;cases h
theorem Out.live{g:cf}{q:Ref}{b:aJ}(h:Out g q b) : ∃k,g q=some k:=by
 rcases h with ⟨k,_,c,_⟩ | ⟨k,_,c,_⟩ | ⟨k,_,c,_⟩<;>exact⟨k,c⟩
theorem LL : ∀(n:Nat)(x:AV),flat n x=true->flat (n+1) x=true:=by
 intro n
 induction n with
 | zero=>intro x h;simp[flat]at h
 | succ n e=>
  intro x h
  cases x with
  | v x=>rfl
  | agg cs=>simp only[flat,da]at h ⊢;exact λc d=>by have:=e c (h c d);simpa [flat] using this
  | tup cs=>simp only[flat,da]at h ⊢;exact λc d=>by have:=e c (h c d);simpa [flat] using this
  | ifc t x=>have:=e x (by simpa [flat] using h);simpa [flat] using this
  | fn f a b=>
   simp only[flat,aY,da]at h ⊢
   exact⟨λc d=>by have:=e c (h.1 c d);simpa [flat] using this,λc d=>by have:=e c (h.2 c d);simpa [flat] using this⟩
  | _=>simp[flat]at h
theorem Oh{cs:List AV}(h:flat depth (.tup cs)=true){c:AV}(b:c∈cs):flat depth c=true:=by
 have d:depth=(depth - 1)+1:=rfl
 rw[d]at h ⊢
 simp only[flat,da]at h
 exact LL _ c (h c b)
theorem Ac{E:Env}{ok:Array Oper->Bool}(hE:E.Ok ok){n:Nat}(hn:Hy E ok n){f:FuncId}{args:List AV}{y:AV}(h:ck E (bI E n) f args=some y):fV E.P f args y:=by
 unfold ck at h
 split at h
 ·rename_i s hs
  cases h
  exact hE.specs f args y hs
 ·split at h
  ·rename_i x H' hc
   obtain⟨ZE,U⟩:=Eg hE hn hc
   refine⟨ZE,λM w us hm ZK=>?_⟩
   refine(U M cQ w us (PC hm) QQ ZK).mono λe w' ⟨v,p,M1,ι1,hv,hS,hF,hD⟩=>⟨v,?_⟩
   split at h
   ·obtain⟨ZD,h⟩:=dG.1 h
    obtain⟨Zt,K⟩:=CL depth x ZD
    refine⟨_,p,GC (R:=bH H'.get depth x) hm hv hS hF λr=>?_⟩
    obtain⟨new,h1,h2,h3,h4⟩:=LM (R:=bH H'.get depth x) hS r depth x y v [] h hv (λq B=>B)
    rw[pR]at h1
    let d:Ref->Loc:=λq=>(ι1 q).getD ⟨0,0,0⟩
    obtain⟨p1,p2⟩:=h4 ((aC H'.get depth x).map d) (by
     intro i q l B V
     simp only[lV,qx,kJ,B,Option.map_some,d,V,bO])
    refine⟨(aC H'.get depth x).map d,by rw[h1];simp[h2],p1,?_,?_⟩
    ·intro i l b V hb
     rw[h1]at hb
     have Zw:=V
     simp only[kJ,aZ]at V
     obtain⟨q,B,F⟩:=V
     rcases h3 i q b B hb with ⟨k,len,t,Q,C,rfl⟩ | ⟨k,ZA,t,H,ZI,rfl⟩ | ⟨k,zs,t,Q,C,D,ZO,rfl⟩
     rotate_left
     ·obtain⟨X,m,c⟩:=hS.live q k t
      have:l=X:=by rw[<-F];simp[d,m]
      subst this
      have hz:l.esz=0:=by
       obtain⟨k1,Zs,ZH,_⟩:=DZ H
       rw[t]at Zs;cases Zs
       rw[c.esz];exact ZH
      obtain⟨a,f,entries,hg,O,ZJ,ZB,_⟩:=vV hS H m hz
      refine⟨lb.LY (.inr (.inl ⟨ZA,entries,rfl,rfl,rfl,O,ZJ,λI ZL e p ZM=>?_⟩)) hz (λo z Z=>?_),Cx hF t m⟩
      ·obtain⟨ka,va,e1,e2,e3⟩:=ZB I ZL e p ZM
       subst e1
       refine⟨ka,va,rfl,e2,yB depth va _ ?_ e3.1,e3.2⟩
       have:=ZI _ (eY p)
       exact Oh this (by simp)
      ·have:=(vv (R:=bH H'.get depth x) hS).1.mem _ _ _ Z
       simp[World.cell?,O]at this
     ·obtain⟨X,m,c⟩:=hS.live q k t
      have:l=X:=by rw[<-F];simp[d,m]
      subst this
      refine⟨?_,Cx hF t m⟩
      replace c:=c.cellsOk D
      obtain⟨arr,T,fz,O,g1,g2,g3⟩:=c.heap
      obtain⟨d1,d2⟩:=p2 i q _ B hb k l t m C D
      refine dU.LY (k:=⟨k.esz,zs,false,false⟩) ⟨c.esz,⟨arr,T,fz,O,g1,g2,?_⟩,by have:=c.len;simp;omega,d2,?_⟩ D
      ·intro I j e x' p Z
       obtain⟨u,hu,G⟩:=d1 I j e x' p Z
       rw[gA O]at hu
       have Zz:I<k.es.length:=by
        have:=(dE.1 p).1
        simp only at this
        omega
       have ZP:=c.cells _ (gD Zz)
       have hj:j<k.esz:=by
        rw[<-d2 e (eY p)]
        exact(dE.1 Z).1
       obtain⟨u',Zu,ZN,_⟩:=g3 I j _ _ (cw Zz) (cw (by omega:j<(k.es[I]).cells.length))
       rw[hu]at Zu
       cases Zu
       exact⟨u,hu,ZN,by rw[aJ.map,if_neg (by simp)];exact G⟩
      ·intro o z hz
       exfalso
       rcases qS hz with h5 | ⟨r',W,k',S,Y,Zx,L,ho⟩
       ·have:=(c.frozen o z h5).1
        rw[Q]at this
        cases this
       ·have e:=hS.inj r' q k' k S l Y t Zx m L
        subst e
        exact K r' (eY B) W
     obtain⟨X,m,c⟩:=hS.live q k t
     have:l=X:=by rw[<-F];simp[d,m]
     subst this
     refine⟨?_,Cx hF t m⟩
     have D:=c.pos C
     replace c:=c.cellsOk D
     obtain⟨arr,T,fz,O,g1,g2,g3⟩:=c.heap
     refine dU.LY (k:=⟨k.esz,k.es.take len,true,false⟩) ⟨c.esz,⟨arr,T,fz,O,g1,g2,?_⟩,by have:=c.len;simp;omega,λe p=>c.cells e (uX p),?_⟩ D
     ·intro I j e x' p Z
      simp only at p
      rw[uW]at p
      split at p
      ·obtain⟨u,hu,ho,G⟩:=g3 I j e x' p Z
       rw[aJ.map,if_pos C]at G
       exact⟨u,hu,ho,by rw[aJ.map,if_pos rfl];exact G.mono o3 _ (λ_ _ h=>h)⟩
      ·cases p
     ·intro o z hz
      exfalso
      rcases qS hz with h5 | ⟨r',W,k',S,Y,Zw,L,ho⟩
      ·have:=(c.frozen o z h5).1
       rw[Q]at this
       cases this
      ·have e:=hS.inj r' q k' k S l Y t Zw m L
       subst e
       exact K r' (eY B) W
    ·intro i j l S hi hj hb
     simp only[kJ,aZ]at hi hj
     obtain⟨q,B,F⟩:=hi
     obtain⟨q',N,Zv⟩:=hj
     have ZG:i<new.length:=by rw[h2];exact(dE.1 B).1
     have ZF:j<new.length:=by rw[h2];exact(dE.1 N).1
     obtain⟨k,t⟩:=(h3 i q _ B (cw ZG)).live
     obtain⟨k',Zy⟩:=(h3 j q' _ N (cw ZF)).live
     obtain⟨X,m,_⟩:=hS.live q k t
     obtain⟨ZC,J,_⟩:=hS.live q' k' Zy
     have e1:l=X:=by rw[<-F];simp[d,m]
     have e2:S=ZC:=by rw[<-Zv];simp[d,J]
     subst e1;subst e2
     have e:=hS.inj q q' k k' l S t Zy m J hb
     subst e
     exact(List.getElem?_inj (dE.1 B).1 Zt).1 (by rw[B,N])
   ·refine⟨_,p,GC (R:=ad H'.get depth x) hm hv hS hF λr=>?_⟩
    rw[Ah r depth depth x y [] h]
    exact⟨[],rfl,(xU hS depth x y v h (λq B=>B) hv).up _,by intro k l b V;simp at V,by intro i j l S hi;simp at hi⟩
  ·cases h
theorem Im : ∀(ps:List Tmp)(b:List AV)(tm:List AV)(us:List Value)(tmps:Array Value),((ps.zip us).foldl (λtmps (p:Tmp × Value)=>tmps.setIfInBounds p.1 p.2) tmps).size=tmps.size:=by
 intro ps
 induction ps with
 | nil=>intro b tm us tmps;rfl
 | cons p ps c=>
  intro b tm us tmps
  cases us with
  | nil=>rfl
  | cons u us=>simp only[HF,uq];rw[c [] [] us];simp
theorem KW{M:Mem}{ι:Map}{nt:Nat} : ∀(ps:List Tmp)(b:List AV)(us:List Value)(tm:List AV)(tmps:Array Value),b.length=ps.length->jD M ι b us->(∀p∈ps,p<nt)->tmps.size=nt->(∀t,VR M ι (bZ tm t) (tmps.getD t undef)) ->
 ∀t,VR M ι (bZ (qF tm ps b) t) (((ps.zip us).foldl (λtmps (p:Tmp × Value)=>tmps.setIfInBounds p.1 p.2) tmps).getD t undef):=by
 intro ps
 induction ps with
 | nil=>intro b us tm tmps m d hp f h t;cases b<;>exact h t
 | cons p ps z=>
  intro b us tm tmps m d hp f h t
  cases b with
  | nil=>simp at m
  | cons x b=>
   cases us with
   | nil=>have:=d.1;simp at this
   | cons u us=>
    simp only[HF,uq,qF]
    refine z b us _ _ (by simpa using m) ⟨by have:=d.1;simpa using this,λi y v n e=>d.2 (i+1) y v (by simpa using n) (by simpa using e)⟩ (λq s=>hp q (jI _ s)) (by simpa using f) ?_ t
    intro t'
    have j:=hp p (jM ..)
    rw[oB,xR]
    by_cases c:t'=p
    ·subst c
     rw[if_pos rfl,AT (by rw[f];exact j)]
     exact d.2 0 x u rfl rfl
    ·rw[if_neg c,wC (nE c),<-xR]
     exact h t'
theorem Dy(ps:Array Tmp)(us:Array Value)(tmps:Array Value):(ps.zip us).foldl (λtmps (t,a)=>tmps.setIfInBounds t a) tmps=(ps.toList.zip us.toList).foldl (λtmps (p:Tmp × Value)=>tmps.setIfInBounds p.1 p.2) tmps:=by
 rw[<-HG,Array.toList_zip]
theorem Iz{E:Env}{ok:Array Oper->Bool}(T:E.Ok ok){n dep:Nat}(hn:Hy E ok n){r:Ref}{args:List AV}{H F:ab}{y:AV}(h:vP E (bI E n) dep r args H=some (y,F)):lL E.P (.yld r) args H y F:=by
 unfold vP at h
 split at h
 ·rename_i f nt ps assign body tm B
  obtain⟨⟨Q,C,z,u⟩,h⟩:=dG.1 h
  split at h
  ·rename_i st G
   intro M ι w us l O N q L
   obtain⟨V,W,R,S,tm',d,e,g1,J,g3,g4,K,X,g7,_,_⟩:=vW O N L B
   cases e
   have I:us.toArray.size=d.params.size:=by rw[J];simp;rw[<-Q];exact q.1.symm
   refine⟨_,_,_,_,run_yield g1 I,trivial,λc cs _=>?_⟩
   let b:Frame := { (default:Frame)with fn:=d.fn,kind := .normal,roundOf:=some l.b}
   have j : ∀tmps,Frame.round l.b d.fn tmps d.assign d.body .normal=b.atR { tmps:=tmps,defers:=[]} [.code assign,.beginRound,.code body]:=by
    intro tmps
    simp[Frame.round,Frame.atR,b,g3,g4]
   rw[j]
   have Z:ue M ι ⟨qF tm ps args,H⟩ nt { tmps:=(d.params.zip us.toArray).foldl (λtmps (t,a)=>tmps.setIfInBounds t a) d.tmps,defers:=[]} w:=by
    refine⟨O,N,⟨?_⟩,?_⟩
    ·intro t
     show VR M ι _ (((d.params.zip us.toArray).foldl (λtmps (t,a)=>tmps.setIfInBounds t a) d.tmps).getD t undef)
     rw[Dy,J]
     exact KW ps args us tm d.tmps Q q (λp hp=>by have:=da.1 C p hp;simpa using this) K X t
    ·show((d.params.zip us.toArray).foldl (λtmps (t,a)=>tmps.setIfInBounds t a) d.tmps).size=nt
     rw[Dy,Im _ [] []]
     exact K
   have x:=T.same
   obtain⟨m,inf,w',h1,h2,⟨M',A,U,h4,Y⟩,h6⟩:=hn (some r) nt dep _ _ st G (by
    intro i hi
    simp only[eU,uV,or_false]at hi
    rcases hi with rfl | rfl | rfl
    ·rw[<-x];exact z
    ·rfl
    ·rw[<-x];exact u) M ι _ w Z b (c :: cs) l c cs L rfl rfl rfl
   rw[h1]at h
   have s:Comes E.P (lone (b.atR { tmps:=(d.params.zip us.toArray).foldl (λtmps (t,a)=>tmps.setIfInBounds t a) d.tmps,defers:=[]} [.code assign,.beginRound,.code body]) (c :: cs) w) (lone (c.finish (.bool (m == 0))) cs w') (.returned (.bool (m == 0))):=h6
   have D:y = .v (.bool (m == 0))/\F=st.hp:=by
    rcases m with _ | _ | m
    ·simp only[dc,si]at h;exact⟨h.1.symm,h.2.symm⟩
    ·exact absurd rfl h2
    ·simp only[dc,si]at h;exact⟨h.1.symm,h.2.symm⟩
   obtain⟨rfl,rfl⟩:=D
   exact⟨.returned (.bool (m == 0)),w',⟨_,rfl,M',A,.v rfl,U,h4,Y⟩,comesIn_wide.2 s⟩
  ·cases h
 ·cases h
theorem BJ{E:Env}{ok:Array Oper->Bool}(b:E.Ok ok){n dep:Nat}(e:Hy E ok n){t:pY}{args:List AV}{H c:ab}{y:AV}(h:dC E (bI E n) dep t args H=some (y,c)):lL E.P t args H y c:=by
 unfold dC at h
 cases t with
 | fn f=>
  simp only at h
  cases d:E.thrSpec f args H with
  | some z=>rw[d]at h;cases h;exact b.thrs f args H y c d
  | none=>
   rw[d]at h
   obtain⟨_,h⟩:=dG.1 h
   exact Eg b e h
 | yld r=>exact Iz b e h
theorem Sv{E:Env}{ok:Array Oper->Bool}(hE:E.Ok ok) : ∀n,Hy E ok n:=by
 intro n
 induction n with
 | zero=>intro rd nt dep C st z h;simp[bI]at h
 | succ n ih=>
  intro rd nt dep C st z h hi M ι a w F b cs
  have X : ∀(q:List Item)(h':bI E n rd nt dep q st=some z),(∀i∈q,lE ok i=true)->Steps E.P (lone (b.atR a C) cs w) (lone (b.atR a q) cs w) ->
   AB E.P rd M ι st a w nt z b cs (lone (b.atR a C) cs w):=by
   intro q h' p O
   exact AB.of_steps (ds:=[]) (λ_ _=>O) F.sim pN.refl rfl pq (ih rd nt dep q st z h' p M ι a w F b cs)
  have T : ∀(j:Nat)(u:Option Code),j≠1->(u.isNone=(j == 0))->(∀G:Loop,xY j { G with state:=if u.isNone then .ready else .done,pending:=u})->rY rd st j=some z->rd≠none ->
   (∀l c K v w',b.roundOf=some l->b.kind = .normal->cs=c :: K->(Instr.endRound l u).run E.P w = .ok v w'->Steps E.P (lone (b.atR a C) cs w) (lone (c.finish v) K w'))->AB E.P rd M ι st a w nt z b cs (lone (b.atR a C) cs w):=by
   intro j u hj ZT J h Z6 O
   cases rd with
   | none=>exact absurd rfl Z6
   | some r=>
    unfold rY at h
    simp only at h
    split at h
    ·rename_i Y B
     cases h
     intro l c K hr s N I
     obtain⟨_,_,_,_,_,G,_,g1,_,_,_,_,_,_,g8,_⟩:=vW F.sim F.dom hr B
     obtain⟨k1,k2,k3⟩:=g8 j { G with state:=if u.isNone then .ready else .done,pending:=u} ⟨rfl,rfl,rfl,rfl⟩ (J G)
     refine⟨j,Y,_,?_,hj,⟨M,ι,k1,k2,k3⟩,?_⟩
     ·simp[sU,ab.aj,c9]
     ·rw[<-ZT]
      exact O l.b c K _ _ s N I (run_endRound u g1)
    ·cases h
  unfold bI at h
  split at h
  ·cases rd with
   | none=>
    injection h with h
    subst h
    intro s _
    exact⟨a,w,[],[],⟨M,ι,F,pN.refl⟩,rfl,pq,.one (stepR_end s)⟩
   | some r=>
    exact T 0 none (by omega) rfl (λG=>⟨rfl,rfl⟩) h (by simp) λl c K v w' s N I hr=>by subst I;exact .one (stepR_round_end s N hr)
  ·rename_i k
   have N : ∀i∈k,lE ok i=true:=λi h=>hi i (jI _ h)
   cases rd with
   | none=>cases h
   | some r=>
    simp only at h
    split at h
    ·rename_i Y B
     intro l c K hr s ZD I
     obtain⟨_,_,_,_,_,G,_,g1,_,_,_,_,_,g7,g8,_⟩:=vW F.sim F.dom hr B
     obtain⟨k1,k2,k3⟩:=g8 1 { G with state := .busy} ⟨rfl,rfl,rfl,rfl⟩ rfl
     have O:Steps E.P (lone (b.atR a (.beginRound :: k)) cs w) (lone (b.atR a k) cs (bA w l.b (.loop { G with state := .busy}))) := .one (stepR_beginRound s (run_beginRound g1 g7.1))
     exact AB.of_steps (rd:=some r) (ds:=[]) (λ_ _=>O) k1 k2 rfl pq (ih (some r) nt dep k _ z h N M ι a _ ⟨k1,k3,F.tr,F.nt⟩ b cs) l c K hr s ZD I
    ·cases h
  ·rename_i c k
   have R:codeOk ok c=true:=hi _ (jM ..)
   have N : ∀i∈k,lE ok i=true:=λi h=>hi i (jI _ h)
   have Zw : ∀ {x y:Item},lE ok x=true->lE ok y=true ->∀i∈x :: y :: k,lE ok i=true:=by
    intro x y hx hy i p
    rcases eU.1 p with rfl | p
    ·exact hx
    ·rcases eU.1 p with rfl | p
     ·exact hy
     ·exact N i p
   have one : ∀ {x:Item},lE ok x=true ->∀i∈x :: k,lE ok i=true:=by
    intro x hx i p
    rcases eU.1 p with rfl | p
    ·exact hx
    ·exact N i p
   split at h
   ·exact X k h N (.one stepR_skip)
   ·exact X k h N (.one stepR_label)
   ·cases rd with
    | none=>
     simp only[rY,if_true]at h
     injection h with h
     subst h
     intro s _
     exact⟨a,w,_,[],⟨M,ι,F,pN.refl⟩,rfl,pq,.one (stepR_ret s)⟩
    | some r=>exact T 2 (some .ret) (by omega) rfl (λG=>⟨rfl,rfl⟩) h (by simp) λl c K v w' s N I hr=>by subst I;exact .one (stepR_round_ret s N hr)
   ·rename_i x y
    simp only[codeOk,aY]at R
    exact X _ h (Zw R.1 R.2) (.one stepR_seq)
   ·rename_i Z8 x y
    simp only[codeOk,aY]at R
    split at h
    ·rename_i s
     simp only[fD]at s
     obtain⟨cv,h1,h2⟩:=s
     exact X _ h (one R.1) (.one (stepR_cond (wa (ay F.tr h1) h2)))
    ·rename_i s
     simp only[fD]at s
     obtain⟨cv,h1,h2⟩:=s
     exact X _ h (one R.2) (.one (stepR_cond (wa (ay F.tr h1) h2)))
    ·cases h
   ·exact X _ h (Zw (by simpa [codeOk,lE] using R) rfl) (.one stepR_block)
   ·exact X _ h (Zw (by simpa [codeOk,lE] using R) rfl) (.one (step_lone_go (by simp[stepG,stepG.exec,Frame.atR])))
   ·exact X _ h (Zw (by simpa [codeOk,lE] using R) (by simpa [codeOk,lE] using R)) (.one stepR_loop)
   ·rename_i id
    split at h
    ·rename_i k' S
     exact X _ h (Eb S N) (.one (stepR_exit S))
    ·rename_i S
     cases rd with
     | none=>simp at h
     | some r=>exact T (id+3) (some (.exit id)) (by omega) (by simp) (λG=>⟨rfl,rfl⟩) (by simpa using h) (by simp) λl c K v w' s ZD I hr=>by subst I;exact .one (stepR_round_exit s ZD S hr)
   ·rename_i id ops Zu
    split at h
    ·rename_i Q ZA
     have ZW:Zu=true->oZ E ops Q=true:=by
      intro hd
      cases s:oZ E ops Q with
      | true=>rfl
      | false=>rw[hd,s]at h;simp at h
     replace h:bI E n rd nt dep k Q=some z:=by
      split at h
      ·cases h
      ·exact h
     have ZL : ∀f xs y,ck E (bI E n) f xs=some y->fV E.P f xs y:=λf xs y h=>Ac hE ih h
     have ZG : ∀f xs H y H',dC E (bI E n) dep f xs H=some (y,H')->lL E.P f xs H y H':=λf xs H y H' h=>BJ hE ih h
     have ZP : ∃a1 w1,iH M ι st a w nt Q a1 w1/\(b.kind = .normal->Steps E.P (lone (b.atR a (.code (.region id ops Zu) :: k)) cs w) (lone (b.atR a1 k) cs w1)):=by
      cases Zu with
      | false=>exact E0 ZL ZG hE.overs b k cs ZA F
      | true=>
       have ZX:(Code.region id ops true).wpIn (FW b.roundOf) 0 E.P (λe a' w'=>e = .normal/\iH M ι st a w nt Q a' w') a w:=
        hE.draws ops (by simpa [codeOk] using R) ZL ZG nt dep id st Q M ι a w b.roundOf _ ZA (ZW rfl) F λa' w' J=>⟨rfl,J⟩
       obtain⟨a1,w1,h1,h2⟩:=Gb b ZX k cs
       exact⟨a1,w1,h1,λ_=>h2⟩
     obtain⟨a1,w1,⟨⟨M1,Z1,ZO,Zx⟩,ZQ⟩,O⟩:=ZP
     exact AB.of_steps (ds:=[]) (λ_=>O) ZO.sim Zx ZQ pq (ih rd nt dep k Q z h N M1 Z1 a1 w1 ZO b cs)
    ·cases h
   ·rename_i g ps assign body
    simp only[codeOk,aY]at R
    split at h
    ·rename_i gi first captured hg
     split at h
     ·rename_i x H' ZC
      obtain⟨ZI,Zx,ZZ,ZB⟩:=N2 (d:=dep) (ps:=ps) (assign:=assign) (body:=body) (fn:=b.fn) F.sim F.dom F.tr F.nt rfl
      obtain⟨ZR,ZJ⟩:=BJ hE ih ZC
      obtain⟨a',b',ZV,ZU,Z5⟩:=(ay F.tr hg).QL
      have ZK:=λ{xs us} (h:jD M ι xs us)=>h.mono (λ_ _ _ h=>h) Zx.map
      have ZY:VR M (iV ι ⟨dep,nt,st.hp.gen dep nt,0⟩ ⟨w.heap.size+1,0,0⟩) (.yld ⟨dep,nt,st.hp.gen dep nt,0⟩) (.func (.yield (w.heap.size+1)) #[] #[]) := .yld (l:=⟨w.heap.size+1,0,0⟩) (by simp[iV]) rfl
      have ZH:=((ZK ZU).append (jD.cons ZY jD.nil)).append (ZK Z5)
      have V:=ZJ M _ _ _ ZI ZZ ZH
      rw[show(a'.toList++[Value.func (.yield (w.heap.size+1)) #[] #[]]++b'.toList).toArray=a' ++ #[Value.func (.yield (w.heap.size+1)) #[] #[]]++b' by apply AW;simp]at V
      intro s
      let c1:Frame:=b.atR { a with defers:=[{ target := .collected w.heap.size,args := #[]}]++a.defers} (.inRangeFunc (w.heap.size+1) :: k)
      have Zv:=stepR_rangeFunc (P:=E.P) (b:=b) (a:=a) (k:=k) (cs:=cs) (w:=w) (g:=g) (ps:=ps) (assign:=assign) (body:=body) (l:=w.heap.size+1) (mark:=[{ target := .collected w.heap.size,args := #[]}])
       (d := { target := .fn (.func gi) b',args:=a' ++ #[Value.func (.yield (w.heap.size+1)) #[] #[]]}) (f:=gi) (args:=a' ++ #[Value.func (.yield (w.heap.size+1)) #[] #[]]++b')
       (by rw[s];exact run_enterLoop_outer b.fn a.tmps ps assign body) (by have Z0 : ∀x,a.eval (.const x)=x:=λ_=>rfl;simp[resolve,rangeCall,ZV,Deferred.ofValue,Z0];rfl) (by simp[invoke,z8 ZR];rfl)
      obtain⟨e,w3,fr,⟨v,he,M3,W,Z7,Z2,ZE,Z4⟩,Zz,Z9,Zy⟩:=V (c1 :: cs)
      subst he
      have ZM:Steps E.P (lone (b.atR a (.code (.rangeFunc g ps assign body) :: k)) cs w) (lone (c1.finish v) cs w3):=Steps.trans (.one Zv) (Steps.trans Zz (.one (step_leave_returned Zy)))
      have ZN:c1.finish v=b.atR { a with defers:=[{ target := .collected w.heap.size,args := #[]}]++a.defers} (.endRangeFunc (w.heap.size+1) :: k):=finish_atR_inRangeFunc _ v
      rw[ZN]at ZM
      have Z:=Zx.trans ZE
      have ZS:W ⟨dep,nt,st.hp.gen dep nt,0⟩=some ⟨w.heap.size+1,0,0⟩:=ZE.map _ _ (by simp[iV])
      have ZF:w3.heap[w.heap.size]?=some (.deferred (some [])):=by
       rw[ZE.chg _ (fP.1 ZB).1 (Ct ZI ZB)]
       exact ZB
      have L : ∀ {m:Nat} {Y:AV},sU H' ⟨dep,nt,st.hp.gen dep nt,0⟩=some (m,Y)->m≠1 ->∃G:Loop,∃w4,xY m G /\
       Steps E.P (lone (b.atR a (.code (.rangeFunc g ps assign body) :: k)) cs w) (lone (b.atR { a with defers:=[{ target := .collected w.heap.size,args := #[]}]++a.defers} ((G.pending.map Item.code).toList++k)) cs w4) /\
       ue M3 W ⟨st.tm,H'.put ⟨dep,nt,st.hp.gen dep nt,0⟩ none⟩ nt { a with defers:=[{ target := .collected w.heap.size,args := #[]}]++a.defers} w4/\pN M ι st.hp.get w M3 W (H'.put ⟨dep,nt,st.hp.gen dep nt,0⟩ none).get w4 /\
       nZ w w4 [w.heap.size]:=by
       intro m Y B hm
       obtain⟨_,_,_,_,_,G,_,g1,_,_,_,_,_,g7,_,g9⟩:=vW Z2 Z4 ZS B
       obtain⟨k1,k2,k3⟩:=g9 { G with state := .exhausted}
       have Z3:G.state ≠ .busy:=by
        match m,hm with
        | 0,_=>rw[g7.1];simp
        | 1,hm=>exact absurd rfl hm
        | 2,_=>rw[g7.1];simp
        | m+3,_=>rw[g7.1];simp
       refine⟨G,_,g7,Steps.trans ZM (.one (stepR_endRangeFunc (run_endLoop g1 Z3))),⟨k1,k3,⟨λt=>(F.tr.mono Z.mem Z.map).at_ t⟩,F.nt⟩,Z.trans k2,⟨by simp,λD hD=>?_⟩⟩
       simp only[pT]at hD
       subst hD
       refine⟨aW _,?_⟩
       show(bA w3 (w.heap.size+1) _).heap[w.heap.size]?=_
       rw[dK (by omega)]
       exact ZF
      split at h
      ·rename_i B
       obtain⟨G,w4,J,O,U,Zs,Zt⟩:=L B (by omega)
       rw[J.2]at O
       exact AB.of_steps (rd:=none) (ds:=[w.heap.size]) (λ_ _=>O) U.sim Zs rfl Zt (ih none nt dep k _ z h N M3 W _ w4 U b cs) s
      ·rename_i B
       obtain⟨G,w4,J,O,U,Zs,Zt⟩:=L B (by omega)
       rw[J.2]at O
       cases h
       intro _
       exact⟨_,w4,_,[w.heap.size],⟨M3,W,U,Zs⟩,rfl,Zt,Steps.trans O (.one (stepR_ret s))⟩
      ·rename_i id B
       obtain⟨G,w4,J,O,U,Zs,Zt⟩:=L B (by omega)
       rw[J.2]at O
       split at h
       ·rename_i k' S
        exact AB.of_steps (rd:=none) (ds:=[w.heap.size]) (λ_ _=>Steps.trans O (.one (stepR_exit S))) U.sim Zs rfl Zt (ih none nt dep k' _ z h (Eb S N) M3 W _ w4 U b cs) s
       ·cases h
      ·cases h
     ·cases h
    ·cases h
   ·cases h
  ·rename_i c k
   have R:codeOk ok c=true:=hi _ (jM ..)
   have N : ∀i∈k,lE ok i=true:=λi h=>hi i (jI _ h)
   refine X _ h ?_ (.one stepR_inLoop)
   intro i p
   rcases eU.1 p with rfl | p
   ·exact R
   ·rcases eU.1 p with rfl | p
    ·exact R
    ·exact N i p
  ·rename_i id k
   exact X k h (λi h=>hi i (jI _ h)) (.one stepR_inBlock)
  ·rename_i id k
   exact X k h (λi h=>hi i (jI _ h)) (.one (step_lone_go (by simp[stepG,stepG.exec,Frame.atR])))
  ·cases h
theorem Ks{E:Env}{ok:Array Oper->Bool}(b:E.Ok ok){n:Nat}{f:FuncId}{args:List AV}{y:AV}(h:ck E (bI E n) f args=some y):fV E.P f args y:=Ac b (Sv b n) h
end
end Go.Ab
