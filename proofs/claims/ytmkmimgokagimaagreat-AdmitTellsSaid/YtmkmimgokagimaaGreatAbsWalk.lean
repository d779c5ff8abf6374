/-
  Maps of the abstract machine against the model's. No statement of a seat is proved here.
-/
import Derived.Conc.LoneCalls
import Derived.Test.YtmkmimgokagimaaGreatAbsOps
set_option linter.unusedVariables false
set_option linter.unusedSimpArgs false
set_option linter.unusedSectionVars false
set_option linter.unnecessarySimpa false
namespace Go.Ab
section
theorem bG{c d:Type}{P:Program}(s:Sem c)(f:c->Sem d):bh P (s >>= f)=(bh P s).bind λa=>bh P (f a):=by
 induction s with
 | pure a=>rfl
 | program k b=>exact b P
 | mark m k b=>exact b
 | _=>rfl
theorem An{b:Type}{P:Program}(a:b):bh P (pure a:Sem b)=some a:=rfl
def dummy(es:List MapEntry):List MapEntry:=es.map λe=>⟨e.key,Go.undef,0⟩
theorem Ka{d:TypeDesc}{k:Value} : ∀(es:List MapEntry)(i:Nat),(Instr.findNow d k es i=none↔Instr.findNow d k (dummy es) i=none)/\(Instr.findNow d k es i=some none↔Instr.findNow d k (dummy es) i=some none) /\
 ∀j v,Instr.findNow d k (dummy es) i=some (some (j,v))->i<=j /\∃e,es[j - i]?=some e/\Instr.findNow d k es i=some (some (j,e.val)):=by
 intro es
 induction es with
 | nil=>intro i;simp[dummy,Instr.findNow]
 | cons e es f=>
  intro i
  obtain⟨p,m,n⟩:=f (i+1)
  simp only[dummy,uC,Instr.findNow]
  cases x:Instr.sameNow d k e.key with
  | none=>simp
  | some b=>
   cases b with
   | true=>
    refine⟨by simp,by simp,λj v h=>?_⟩
    simp only[dT,yJ]at h
    obtain⟨rfl,_⟩:=h
    exact⟨de _,e,by simp,rfl⟩
   | false=>
    refine⟨p,m,λj v h=>?_⟩
    obtain⟨u,t,q,c⟩:=n j v h
    refine⟨by omega,t,?_,c⟩
    rw[show j - i=(j - (i+1))+1 by omega]
    simpa using q
theorem FC{P:Program}{d:TypeId}{k:Value} : ∀(es:List MapEntry)(i:Nat)(o:Option (Nat × Value)),bh P (Instr.findAsking d k (dummy es) i)=some o ->∀w:World,
 (o=none->(Instr.findAsking d k es i).run P w = .ok none w) /\∀j v,o=some (j,v)->i<=j /\∃e,es[j - i]?=some e/\(Instr.findAsking d k es i).run P w = .ok (some (j,e.val)) w:=by
 intro es
 induction es with
 | nil=>
  intro i o h w
  simp only[dummy,Lf,Instr.findAsking,An,dT]at h
  subst h
  exact⟨λ_=>rfl,λj v e=>by cases e⟩
 | cons e es n=>
  intro i o h w
  simp only[dummy,uC,Instr.findAsking]at h
  rw[bG]at h
  obtain⟨b,q,h⟩:=iw.1 h
  have f:=oT q w
  cases b with
  | true=>
   simp only[if_true,An,dT]at h
   subst h
   refine⟨λe=>by (cases e),λj v c=>?_⟩
   cases c
   exact⟨de _,e,by simp,by simp[Instr.findAsking,f]⟩
  | false=>
   simp only[mr,if_false]at h
   obtain⟨t,p⟩:=n (i+1) o h w
   refine⟨λc=>by simp[Instr.findAsking,f,t c],λj v c=>?_⟩
   obtain⟨y,x,u,m⟩:=p j v c
   refine⟨by omega,x,?_,by simp[Instr.findAsking,f,m]⟩
   rw[show j - i=(j - (i+1))+1 by omega]
   simpa using u
theorem tZ{P:Program}{c:Bool}{n:TypeId}{k:Value}{es:List MapEntry}{o:Option Nat}(h:Ar P c n k (es.map (·.key))=some o)(w:World) :
 (Instr.checkKey c 10000 n k).run P w = .ok () w/\(o=none->(Instr.findKey n k es).run P w = .ok none w) /\∀j,o=some j ->∃e,es[j]?=some e/\(Instr.findKey n k es).run P w = .ok (some (j,e.val)) w:=by
 unfold Ar at h
 split at h
 ·rename_i B
  obtain⟨o',b,e⟩:=bN.1 h
  have C:(es.map (·.key)).map (λx=>(⟨x,Go.undef,0⟩:MapEntry))=dummy es:=by simp[dummy,Function.comp_def]
  rw[C]at b
  unfold Instr.findKey at b
  rw[bG]at b
  obtain⟨d,y,b⟩:=iw.1 b
  have f:=oT y w
  refine⟨oT B w,?_⟩
  obtain⟨H,F,u⟩:=Ka (d:=d) (k:=k) es 0
  cases m:Instr.findNow d k (dummy es) 0 with
  | some r=>
   rw[m]at b
   simp only[An,dT]at b
   subst b
   cases r with
   | none=>
    simp only[FV]at e
    subst e
    refine⟨λ_=>?_,λj e=>?_⟩
    ·simp[Instr.findKey,f,F.2 m]
    ·cases e
   | some p=>
    obtain⟨j0,v0⟩:=p
    simp only[Option.map_some]at e
    subst e
    refine⟨λe=>(by cases e),λj e=>?_⟩
    cases e
    obtain⟨_,q,t,D⟩:=u j0 v0 m
    exact⟨q,by simpa using t,by simp[Instr.findKey,f,D]⟩
  | none=>
   rw[m]at b
   simp only at b
   obtain⟨z,t⟩:=FC es 0 o' b w
   have i:=H.2 m
   cases o' with
   | none=>
    simp only[FV]at e
    subst e
    refine⟨λ_=>?_,λj e=>?_⟩
    ·simp[Instr.findKey,f,i,z rfl]
    ·cases e
   | some p=>
    obtain⟨j0,v0⟩:=p
    simp only[Option.map_some]at e
    subst e
    refine⟨λe=>(by cases e),λj e=>?_⟩
    cases e
    obtain⟨_,q,v,G⟩:=t j0 v0 rfl
    exact⟨q,by simpa using v,by simp[Instr.findKey,f,i,G]⟩
 ·cases h
theorem Ag{P:Program}{t b et:TypeId}(h:J0 P t=some (b,et)):P.underlying t=some (.map b et):=by
 unfold J0 at h
 split at h
 ·rename_i k e c;cases h;exact c
 ·cases h
section
variable{P:Program}{M:Mem}{ι:Map}{g:cX}{w:World}{r:Ref}
theorem Ck(K:iv M ι g w){ents:List AV}(n:kn g r=some ents){l:Loc}(I:ι r=some l)(O:l.esz=0) :
 ∃a f c,g r=some ⟨0,.v (.bool true) :: ents,a,f⟩/\w.heap[l.b]?=some (.map c c.size)/\c.size=ents.length /\
  (∀(i:Nat) ent e,ents[i]?=some ent->c[i]?=some e ->∃x z,ent = .tup [x,z]/\gV x=some e.key/\VR M ι z e.val/\e.born=i) /\∀q,ents.mapM BT=some q->q=c.toList.map (·.key):=by
 unfold kn at n
 split at n
 ·rename_i es f B
  cases n
  obtain⟨S,m,L⟩:=K.live r _ B
  rw[I]at m;cases m
  rcases L.objOk rfl with ⟨_,_,_,_,_,_,_,_,_,d,_⟩ | ⟨u,c,R,Q,d,N,F,D⟩ | ⟨_,_,_,_,_,_,_,_,d,_⟩
  ·simp at d
  rotate_left
  ·simp at d
  ·simp only[AO,true_and]at d
   subst d
   refine⟨false,f,c,B,N,F,D,λq h=>?_⟩
   have J:=kj h
   apply Lm
   intro i
   rcases fE i c.size with p | p
   ·have j:i<ents.length:=by omega
    obtain⟨y,H,t⟩:=lL h i _ (fj j)
    obtain⟨x,z,G,C,_⟩:=D i _ c[i] (fj j) (ku p)
    rw[H]
    rw[G]at t
    simp only[BT]at t
    rw[t]at C
    cases C
    simp[ku p]
   ·rw[AR (by rw[J];omega),AR (by simp;omega)]
 ·cases n
theorem Qx(hS:iv M ι g w){t:TypeId}{x k y:AV}{U Q:Value}(Z:VR M ι x U)(Y:VR M ι k Q){ok:Bool}{T:List bw}(h:ff P g t (some x) (some k) ok=some (y,T)) :
 T=[] /\∃u,(Instr.lookup t U Q ok).run P w = .ok u w/\VR M ι y u:=by
 have F : ∀ {v:AV} {u:Value} (b:Bool),VR M ι v u->VR M ι (if ok then .tup [v,.v (.bool b)] else v) (if ok then .tuple #[u,.bool b] else u):=by
  intro v u b j
  cases ok with
  | false=>exact j
  | true=>
   refine .tup (by simp) rfl λi c u' C q=>?_
   match i with
   | 0=>simp at C q;subst C;subst q;exact j
   | 1=>simp at C q;subst C;subst q;exact .v rfl
   | i+2=>simp at C
 unfold ff at h
 split at h
 ·rename_i kt et r' kv V R O
  cases R
  cases Z with | mp hr hz=>
  rename_i l
  have L:Q=kv:=by simpa using wb Y (by simpa using O)
  subst L
  split at h
  ·rename_i ents X
   obtain⟨a,f,entries,hg,W,hsz,H,K⟩:=Ck hS X hr hz
   split at h
   ·rename_i S G
    have d:=K S G
    have m:entries.isEmpty=S.isEmpty:=by rw[d];simp
    split at h
    ·rename_i i D
     rw[d]at D
     obtain⟨v,j,h⟩:=bN.1 h
     cases h
     obtain⟨I,_,h3⟩:=tZ D w
     obtain⟨e,he,B⟩:=h3 i rfl
     obtain⟨N,p,j⟩:=iw.1 j
     obtain⟨ka,va,e1,e2,e3⟩:=H i N e p (by simpa using he)
     subst e1
     simp only[Jq,dT]at j
     subst j
     refine⟨rfl,_,?_,F true e3.1⟩
     rw[<-d,<-m]at I
     have n:(getObj l.b).run P w = .ok (.map entries entries.size) w:=by simp[getObj,Sem.run,W]
     simp only[Instr.lookup,Sem.run_bind,Sem.run_pure,bz (Ag V),Result.andThen_ok,n,I,B]
    ·rename_i D
     rw[d]at D
     obtain⟨z,J,h⟩:=bN.1 h
     cases h
     obtain⟨I,h2,_⟩:=tZ D w
     obtain⟨u,q,j⟩:=zg J w
     refine⟨rfl,_,?_,F false (jX j)⟩
     rw[<-d,<-m]at I
     have n:(getObj l.b).run P w = .ok (.map entries entries.size) w:=by simp[getObj,Sem.run,W]
     simp only[Instr.lookup,Sem.run_bind,Sem.run_pure,bz (Ag V),Result.andThen_ok,n,I,h2 rfl,q]
    ·cases h
   ·cases h
  ·cases h
 ·cases h
theorem Qy(C:iv M ι g w){n:Array TypeId}{ty:TypeId}{r':Ref}{x:AV}{m:Value}(y:VR M ι (.mp r') m){j:List bw}(h:xl P g n[0]? r'=some (x,j)) :
 j=[] /\∃u,(Builtin.len_ n ty #[m]).run P w = .ok u w/\VR M ι x u:=by
 unfold xl at h
 split at h
 ·rename_i p ents i q
  obtain⟨t,i,d⟩:=iw.1 i
  cases h
  cases y with | mp z B=>
  rename_i l
  obtain⟨a,f,entries,F,D,e,_,_⟩:=Ck C q z B
  have c:(getObj l.b).run P w = .ok (.map entries entries.size) w:=by simp[getObj,Sem.run,D]
  refine⟨rfl,goInt entries.size,by simp[Builtin.len_,i,bz (Ag d),c],?_⟩
  rw[<-e]
  exact .v rfl
 ·cases h
theorem KK(n:iv M ι g w)(I:ι r=none){w':World}{o:Obj}(f:FP w w' o){k:bw}(v:oB M (kS ι r ⟨w.heap.size,0,0⟩) w' ⟨w.heap.size,0,0⟩ k) :
 iv M (kS ι r ⟨w.heap.size,0,0⟩) (lU g r k) w'/\vp M ι g w M (kS ι r ⟨w.heap.size,0,0⟩) (lU g r k) w':=by
 have i:=GS (l:=⟨w.heap.size,0,0⟩) I
 have p : ∀b o x,M b o=some x->b<w.heap.size:=λb o x h=>World.block_lt_of_cell? w ⟨b,o,none⟩ (n.mem b o x h)
 have one : ∀ {q:Ref} {k' c},lU g r k q=some k'->kS ι r ⟨w.heap.size,0,0⟩ q=some c->(q=r/\c.b=w.heap.size)\/(q≠r/\g q=some k'/\ι q=some c/\c.b<w.heap.size):=by
  intro q k' c h j
  unfold lU at h
  unfold kS at j
  split at h
  ·rename_i e;rw[if_pos e]at j;cases j;exact .inl ⟨e,rfl⟩
  ·rename_i e
   rw[if_neg e]at j
   obtain⟨F,m,y⟩:=n.live q k' h
   rw[j]at m;cases m
   exact .inr ⟨e,h,j,y.lt⟩
 refine⟨⟨λb o x h=>f.cell (n.mem b o x h),λq k' h=>?_,λq K Q J c F D B H R G=>?_⟩,⟨f.os,f.tape,f.output,by rw[f.heap];simp,λb O _=>f.old b O,λ_ _ _ h=>h,i,λq k' c D B=>?_,λ_ _ _ h => .inl h⟩⟩
 ·unfold lU at h
  split at h
  ·rename_i e
   subst e
   cases h
   exact⟨⟨w.heap.size,0,0⟩,by simp[kS],v.Xa rfl λo x N=>absurd (p _ _ _ N) (Cz _)⟩
  ·obtain⟨c,C,d⟩:=n.live q k' h
   exact⟨c,i q c C,d.bQ (λ_ _ _ h=>h) i (f.old _ d.lt) d.frozen⟩
 ·rcases one D H with ⟨u,t⟩ | ⟨u,t,z,L⟩<;>rcases one B R with ⟨f1,f2⟩ | ⟨f1,f2,f3,f4⟩
  ·rw[u,f1]
  ·omega
  ·omega
  ·exact n.inj q K Q J c F t f2 z f3 G
 ·rcases one D B with ⟨u,t⟩ | ⟨u,t,z,L⟩
  ·exact .inl (by omega)
  ·exact .inr ⟨q,k',c,t,z,rfl⟩
theorem NY(j:iv M ι g w)(d:r.k=0)(m:ι r=none)(t:TypeId) :
 ∃u w',(Instr.makeMap t none).run P w = .ok u w'/\jJ M ι g w r (.mp r) [bg []] u w':=by
 have b:FP w (w.alloc (.map #[] 0)) (.map #[] 0):=⟨rfl,rfl,rfl,rfl⟩
 obtain⟨p,f⟩:=KK j m b (k:=bg []) (.inr (.inl ⟨[], #[],rfl,rfl,rfl,by rw[b.heap];simp,rfl,λi n e h=>by simp at h⟩))
 refine⟨.map (some w.heap.size),w.alloc (.map #[] 0),by simp[Instr.makeMap,run_newObj_alloc],M,kS ι r ⟨w.heap.size,0,0⟩,.mp (l:=⟨w.heap.size,0,0⟩) (by simp[kS]) rfl,by rw[sT _ _ d];exact p,by rw[sT _ _ d];exact f,?_⟩
 intro q c v
 have:q≠r:=by intro e;exact v 0 (by simp) (by rw[e];cases r;simp_all)
 simpa [kS,this] using c
theorem wh{H:aa}{l:Loc}{k:bw}(n:iv M ι H.get w)(V:vM ι H)(z:ι r=some l)(O:l.esz=0)(u:H.get r=some k){k':bw}{o':Obj}(C:oB M ι (bX w l.b o') l k') :
 iv M ι (H.put r (some k')).get (bX w l.b o')/\vp M ι H.get w M ι (H.put r (some k')).get (bX w l.b o')/\vM ι (H.put r (some k')):=by
 obtain⟨l',v,R⟩:=n.live r _ u
 rw[z]at v;cases v
 have I:k.esz=0:=by rw[<-R.esz];exact O
 have Q : ∀o x,M l.b o=some x->False:=by
  intro o x B
  have:=n.mem _ _ _ B
  rcases(R.objOk I).obj with ⟨_,i⟩ | ⟨_,_,i⟩ | ⟨_,_,_,_,_,_,i⟩
  ·simp[World.cell?,i]at this
  ·simp[World.cell?,i]at this
  ·simp[World.cell?,i]at this
 have d : ∀q f,(H.put r (some k')).get q=some f ->∃y,H.get q=some y:=by
  intro q f c
  rw[aa.get_put]at c
  split at c
  ·rename_i e;exact⟨_,e ▸ u⟩
  ·exact⟨f,c⟩
 refine⟨⟨λb o x B=>?_,λq f c=>?_,λq N f U j Z K J T i S=>?_⟩,⟨rfl,rfl,rfl,by simp[bX],λb _ D=>eN (D r _ l u z),λ_ _ _ h=>h,λ_ _ h=>h,λq f j K J=>?_,λ_ _ _ h => .inl h⟩,λq Y c=>?_⟩
 ·have F:l.b≠b:=λe=>Q o x (e ▸ B)
  rw[World.cell?_of_block (w:=w) (eN F)]
  exact n.mem b o x B
 ·by_cases m:q=r
  ·subst m
   rw[aa.get_put,if_pos rfl]at c
   cases c
   exact⟨l,z,C.Xa O Q⟩
  ·rw[aa.get_put,if_neg m]at c
   obtain⟨j,t,p⟩:=n.live q f c
   have L:l.b≠j.b:=λe=>m (n.inj q r f _ j l c u t z e.symm)
   exact⟨j,t,p.bQ (λ_ _ _ h=>h) (λ_ _ h=>h) (eN L) p.frozen⟩
 ·obtain⟨y,G⟩:=d q f K
  obtain⟨W,X⟩:=d N U J
  exact n.inj q N y W j Z G X T i S
 ·obtain⟨y,G⟩:=d q f K
  exact .inr ⟨q,y,j,G,J,rfl⟩
 ·rw[aa.np _ _ _ (by rw[u];rfl)]
  exact V q Y c
theorem JO{H:aa}(Z:iv M ι H.get w)(hD:vM ι H){t:TypeId}{m k x y:AV}{um q I:Value}(hm:VR M ι m um)(hk:VR M ι k q)(hx:VR M ι x I){H':aa}(h:dP P H t (some m) (some k) (some x)=some (y,H')) :
 ∃w',(Instr.mapUpdate t um q I).run P w = .ok () w'/\wW M ι H w y H' undef w':=by
 unfold dP at h
 split at h
 ·rename_i kt et r' k' x' ht O e2 e3
  cases O;cases e2;cases e3
  cases hm with | mp X T=>
  rename_i l
  split at h
  ·rename_i kv ents B V
   have W:q=kv:=wb hk B
   subst W
   obtain⟨a,f,entries,hg,hh,F,p,U⟩:=Ck Z V X T
   have R:l.b<w.heap.size:=(iR.1 hh).1
   have N:(getObj l.b).run P w = .ok (.map entries entries.size) w:=by simp[getObj,Sem.run,hh]
   have Q : ∀o,(setObj l.b o).run P w = .ok () (bX w l.b o):=by intro o;simp[setObj,Sem.run,hh,bX]
   split at h
   ·rename_i ks L
    have u:=U ks L
    split at h
    ·rename_i i K
     rw[u]at K
     obtain⟨S,h⟩:=fO.1 h
     cases h
     obtain⟨h1,_,h3⟩:=tZ K w
     obtain⟨e,he,J⟩:=h3 i rfl
     have d:entries[i]?=some e:=by simpa using he
     have hil:i<entries.size:=(iR.1 d).1
     have hsb:Instr.sameBits 10000 e.key q=true:=by
      rw[u]at S
      simp only[pG,Ko,d,Option.map_some,dT]at S
      exact S
     have G:(Instr.keyThatStays (((entries[i]?).map (·.key)).getD q) q).run P w = .ok q w:=by
      rw[d]
      simp[Instr.keyThatStays,hsb]
     refine⟨bX w l.b (.map (entries.modify i λe => { e with key:=q,val:=I}) entries.size),by simp only[Instr.mapUpdate,Sem.run_bind,bz (Ag ht),Result.andThen_ok,N,h1,J,G,Q],M,ι,.v rfl,?_⟩
     refine wh Z hD X T hg (.inr (.inl ⟨ents.set i (.tup [k,x]),entries.modify i λe => { e with key:=q,val:=I},rfl,rfl,rfl,?_,by simp[F],λj D O n c=>?_⟩))
     ·rw[gA R];simp
     ·rw[MX]at c
      by_cases C:i=j
      ·subst C
       rw[if_pos rfl,d]at c
       simp only[Option.map_some,dT]at c
       subst c
       rw[MZ (by omega)]at n
       cases n
       obtain⟨_,_,_,_,_,hb⟩:=p i _ e (fj (by omega)) d
       exact⟨k,x,rfl,B,hx,hb⟩
      ·rw[if_neg C]at c
       rw[MW C]at n
       exact p j D O n c
    ·rename_i K
     rw[u]at K
     cases h
     obtain⟨h1,h2,_⟩:=tZ K w
     refine⟨bX w l.b (.map (entries.push { key:=q,val:=I,born:=entries.size}) (entries.size+1)),by simp only[Instr.mapUpdate,Sem.run_bind,bz (Ag ht),Result.andThen_ok,N,h1,h2 rfl,Q],M,ι,.v rfl,?_⟩
     refine wh Z hD X T hg (.inr (.inl ⟨ents++[.tup [k,x]],entries.push { key:=q,val:=I,born:=entries.size},rfl,rfl,rfl,?_,by simp[F],λj D O n c=>?_⟩))
     ·rw[gA R];simp
     ·rcases fE j entries.size with z | hge
      ·rw[FZ z,<-ku z]at c
       rw[oI (by omega)]at n
       exact p j D O n c
      ·rw[p4 (by omega)]at n
       have Y:j=entries.size:=by
        have:=(iX.1 n).1
        simp at this
        omega
       subst Y
       simp only[F,Nat.sub_self,PU,dT]at n
       subst n
       simp at c
       subst c
       exact⟨k,x,rfl,B,hx,rfl⟩
    ·cases h
   ·cases h
  ·cases h
 ·cases h
theorem Lt{H:aa}(hS:iv M ι H.get w)(hD:vM ι H){t:TypeId}{m k y:AV}{um D:Value}(hm:VR M ι m um)(hk:VR M ι k D){H':aa}(h:iY P H t (some m) (some k)=some (y,H')) :
 ∃u w',(Instr.mapEntry t um D).run P w = .ok u w'/\wW M ι H w y H' u w':=by
 have two : ∀ {v:AV} {u:Value} (n:Nat),VR M ι v u->VR M ι (.tup [v,.v (.int .i64 n)]) (.tuple #[u,goInt n]):=by
  intro v u n I
  refine .tup (by simp) rfl λi c u' G S=>?_
  match i with
  | 0=>simp at G S;subst G;subst S;exact I
  | 1=>simp at G S;subst G;subst S;exact .v rfl
  | i+2=>simp at G
 unfold iY at h
 split at h
 ·rename_i kt et r' k' ht X e2
  cases X;cases e2
  cases hm with | mp hr hz=>
  rename_i l
  split at h
  ·rename_i kv ents N hma
   have huk:D=kv:=wb hk N
   subst huk
   obtain⟨a,f,entries,hg,hh,J,C,hks⟩:=Ck hS hma hr hz
   have Z:l.b<w.heap.size:=(iR.1 hh).1
   have W:(getObj l.b).run P w = .ok (.map entries entries.size) w:=by simp[getObj,Sem.run,hh]
   have Y : ∀o,(setObj l.b o).run P w = .ok () (bX w l.b o):=by intro o;simp[setObj,Sem.run,hh,bX]
   split at h
   ·rename_i ks V
    have F:=hks ks V
    split at h
    ·rename_i i U
     rw[F]at U
     obtain⟨G,h⟩:=fO.1 h
     obtain⟨v,I,h⟩:=bN.1 h
     cases h
     obtain⟨h1,_,h3⟩:=tZ U w
     obtain⟨e,he,T⟩:=h3 i rfl
     have p:entries[i]?=some e:=by simpa using he
     have hil:i<entries.size:=(iR.1 p).1
     have hsb:Instr.sameBits 10000 e.key D=true:=by
      rw[F]at G
      simp only[pG,Ko,p,Option.map_some,dT]at G
      exact G
     have R:(Instr.keyThatStays (((entries[i]?).map (·.key)).getD D) D).run P w = .ok D w:=by
      rw[p]
      simp[Instr.keyThatStays,hsb]
     obtain⟨B,Q,I⟩:=iw.1 I
     obtain⟨ka,va,q1,q2,q3,q4⟩:=C i B e Q p
     subst q1
     simp only[Jq,dT]at I
     subst I
     refine⟨.tuple #[e.val,goInt i],bX w l.b (.map (entries.modify i λe => { e with key:=D}) entries.size),?_,M,ι,two i q3,?_⟩
     ·have L:(Option.map (λx:MapEntry=>(x.born:Int)) entries[i]?).getD 0=(i:Int):=by rw[p];simp[q4]
      simp only[Instr.mapEntry,Sem.run_bind,Sem.run_pure,bz (Ag ht),Result.andThen_ok,W,h1,T,R,Y,L]
     refine wh hS hD hr hz hg (.inr (.inl ⟨ents.set i (.tup [k,va]),entries.modify i λe => { e with key:=D},rfl,rfl,rfl,?_,by simp[J],λj B X q d=>?_⟩))
     ·rw[gA Z];simp
     ·rw[MX]at d
      by_cases O:i=j
      ·subst O
       rw[if_pos rfl,p]at d
       simp only[Option.map_some,dT]at d
       subst d
       rw[MZ (by omega)]at q
       cases q
       exact⟨k,va,rfl,N,q3,q4⟩
      ·rw[if_neg O]at d
       rw[MW O]at q
       exact C j B X q d
    ·rename_i U
     rw[F]at U
     obtain⟨z,hzz,h⟩:=bN.1 h
     cases h
     obtain⟨h1,h2,_⟩:=tZ U w
     obtain⟨uz,S,I⟩:=zg hzz w
     refine⟨.tuple #[uz,goInt ents.length],bX w l.b (.map (entries.push { key:=D,val:=uz,born:=entries.size}) (entries.size+1)),?_,M,ι,two ents.length (jX I),?_⟩
     ·simp only[Instr.mapEntry,Sem.run_bind,Sem.run_pure,bz (Ag ht),Result.andThen_ok,W,h1,h2 rfl,S,Y,J]
     refine wh hS hD hr hz hg (.inr (.inl ⟨ents++[.tup [k,z]],entries.push { key:=D,val:=uz,born:=entries.size},rfl,rfl,rfl,?_,by simp[J],λj B X q d=>?_⟩))
     ·rw[gA Z];simp
     ·rcases fE j entries.size with K | hge
      ·rw[FZ K,<-ku K]at d
       rw[oI (by omega)]at q
       exact C j B X q d
      ·rw[p4 (by omega)]at q
       have hj0:j=entries.size:=by
        have:=(iX.1 q).1
        simp at this
        omega
       subst hj0
       simp only[J,Nat.sub_self,PU,dT]at q
       subst q
       simp at d
       subst d
       exact⟨k,z,rfl,N,jX I,rfl⟩
    ·cases h
   ·cases h
  ·cases h
 ·cases h
theorem HL{H:aa}(S:iv M ι H.get w)(hD:vM ι H){t:TypeId}{m s x y:AV}{O us z:Value}(T:VR M ι m O)(V:VR M ι s us)(U:VR M ι x z){H':aa}(h:fR H (some m) (some s) (some x)=some (y,H')) :
 ∃w',(Instr.entryStore t O us z).run P w = .ok () w'/\wW M ι H w y H' undef w':=by
 unfold fR at h
 split at h
 ·rename_i r' kd n x' F e2 Z
  cases F;cases e2;cases Z
  cases T with | mp R N=>
  rename_i l
  cases V
  split at h
  ·rename_i ents B
   obtain⟨hn,h⟩:=fO.1 h
   split at h
   ·rename_i Q va u
    cases h
    obtain⟨a,f,entries,Y,L,J,d,_⟩:=Ck S B R N
    have K:l.b<w.heap.size:=(iR.1 L).1
    have C:(getObj l.b).run P w = .ok (.map entries entries.size) w:=by simp[getObj,Sem.run,L]
    have I : ∀o,(setObj l.b o).run P w = .ok () (bX w l.b o):=by intro o;simp[setObj,Sem.run,L,bX]
    have i:n.toNat<entries.size:=by have:=(iX.1 u).1;omega
    have born : ∀j (p:j<entries.size),entries[j].born=j:=by
     intro j p
     obtain⟨_,_,_,_,_,hb⟩:=d j _ entries[j] (fj (by omega)) (ku p)
     exact hb
    have D:entries.findIdx? (λe=>(e.born:Int) == n)=some n.toNat:=by
     rw[Array.findIdx?_eq_some_iff_getElem]
     refine⟨i,?_,λj p=>?_⟩
     ·rw[born _ i];simp;omega
     ·rw[born j (by omega)];simp;omega
    obtain⟨ka',X,q1,q2,q3,W⟩:=d n.toNat _ entries[n.toNat] u (ku i)
    cases q1
    refine⟨bX w l.b (.map (entries.modify n.toNat λe => { e with val:=z}) entries.size),?_,M,ι,.v rfl,?_⟩
    ·simp only[Instr.entryStore,Sem.run_bind,Sem.run_pure,Result.andThen_ok,C,asInt,asIntOf,D,I]
    refine wh S hD R N Y (.inr (.inl ⟨ents.set n.toNat (.tup [Q,x]),entries.modify n.toNat λe => { e with val:=z},rfl,rfl,rfl,?_,by simp[J],λj G F p c=>?_⟩))
    ·rw[gA K];simp
    ·rw[MX]at c
     by_cases q:n.toNat=j
     ·subst q
      rw[if_pos rfl,ku i]at c
      simp only[Option.map_some,dT]at c
      subst c
      rw[MZ (by omega)]at p
      cases p
      exact⟨Q,x,rfl,q2,U,W⟩
     ·rw[if_neg q]at c
      rw[MW q]at p
      exact d j G F p c
   ·cases h
  ·cases h
 ·cases h
theorem Jv{g:cX}{r:Ref}{cap:Nat}{d:Bool}{b:List AV}(h:W5 g r=some (cap,d,b)) :
 ∃n f,g r=some ⟨0,.v (.bool false) :: .v (.int .i64 n) :: .v (.bool d) :: b,false,f⟩/\n.toNat=cap:=by
 unfold W5 at h
 split at h
 ·rename_i n i c f e
  cases h
  exact⟨n,f,e,rfl⟩
 ·cases h
theorem My(C:iv M ι g w){r:Ref}{l:Loc}(z:ι r=some l){cap:Nat}{p:Bool}{d:List AV}(h:W5 g r=some (cap,p,d)) :
 ∃s t arr,w.heap[l.b]?=some (.chan cap arr p s t false)/\arr.size=d.length /\∀(i:Nat) x u,d[i]?=some x->arr[i]?=some u->VR M ι x u:=by
 obtain⟨n,f,D,K⟩:=Jv h
 obtain⟨L,j,F⟩:=C.live r _ D
 rw[z]at j;cases j
 rcases F.objOk rfl with ⟨_,_,_,_,_,_,_,_,_,e,_⟩ | ⟨_,_,_,_,e,_⟩ | ⟨c,s,t,y,m,arr,_,_,e,G,q,I⟩
 ·simp at e
 ·simp at e
 ·simp only[AO,AV.v.injEq,Value.int.injEq,Value.bool.injEq,true_and]at e
  obtain⟨J,H,B⟩:=e
  subst H B
  have:c=cap:=by omega
  subst this
  exact⟨s,t,arr,G,q,I⟩
theorem L0(H:iv M ι g w)(v:r.k=0)(B:ι r=none){t e:TypeId}{b:Nat}(f:Nq P t=some e)(y:pU P e=some b)(k:IntKind)(n:Nat)(I:n<=1000000)(m:b<=1000000) :
 ∃u w',(Instr.makeChan t (.int k n)).run P w = .ok u w'/\jJ M ι g w r (.ch r) [Ju n false []] u w':=by
 unfold Nq at f
 split at f
 ·rename_i J K F
  cases f
  unfold pU at y
  obtain⟨i,C,j⟩:=bN.1 y
  have d:FP w (w.alloc (.chan n #[] false 0 0 false)) (.chan n #[] false 0 0 false):=⟨rfl,rfl,rfl,rfl⟩
  obtain⟨z,G⟩:=KK H B d (k:=Ju n false []) (.inr (.inr ⟨n,0,0,false,[], #[],rfl,rfl,rfl,by rw[d.heap];simp,rfl,λi x u h=>by simp at h⟩))
  have c:(i.bytes:Int) * n<=281474976710544:=by
   have L:i.bytes * n<=1000000 * 1000000:=Nat.mul_le_mul (j ▸ m) I
   have z:((i.bytes * n:Nat):Int)=(i.bytes:Int) * n:=by simp
   omega
  refine⟨_,_,Go.Conc.run_makeChan F C k n (by omega) c,M,kS ι r ⟨w.heap.size,0,0⟩,.ch (l:=⟨w.heap.size,0,0⟩) (by simp[kS]) rfl,by rw[sT _ _ v];exact z,by rw[sT _ _ v];exact G,?_⟩
  intro q p D
  have:q≠r:=by intro e;exact D 0 (by simp) (by rw[e];cases r;simp_all)
  simpa [kS,this] using p
 ·cases f
theorem Iv(w:World)(c cap:Nat)(b:Array Value)(d:Bool)(s r:Nat):w.setChan c cap b d s r false=bX w c (.chan cap b d s r false):=rfl
def JH(P:Program)(o:Oper)(a:Act)(w:World)(S:Value->World->Prop):Prop:=
 ∀(b:Frame)(k:List Item)(cs:List Frame)(ops:Array Oper)(i:Nat)(rest:List Nat),b.kind = .normal->ops[i]?=some o->Region.wanted o (yielded ops a.tmps)=true ->
  ∃u w',S u w'/\step P (lone (b.atR a (.inRegion ops (i :: rest) :: k)) cs w) = .next (lone (b.atR (a.put o.dst u) (.inRegion ops rest :: k)) cs w')
theorem BB{P:Program}{b:Frame}{a:Act}{k:List Item}{cs:List Frame}{w w':World}{ops:Array Oper}{i:Nat}{rest:List Nat}{o:Oper}{cases:Array CommCase}{shape:CommShape}(m:b.kind = .normal)(f:ops[i]?=some o)
 (n:Region.wanted o (yielded ops a.tmps)=true) (h : ∀c,o.op ≠ .defer c) (j:(execOp a.eval o).run P w = .ok (.comm cases true shape) w') :
 ∃es,stepG P true (Go.Conc.G (b.atR a (.inRegion ops (i :: rest) :: k)) cs) w = .comm (Go.Conc.G (b.atR a (.inRegion ops (i :: rest) :: k)) cs) cases true shape w' es:=by
 have e:=stepGR_op (P:=P) (b:=b) (k:=k) (cs:=cs) (w:=w) (rest:=rest) f n
 rw[Oper.semAt_eq _ _ _ h]at e
 unfold Go.Conc.G
 rw[e]
 have d:(b.kind == CallKind.early)=false:=by rw[m];rfl
 refine⟨Go.Conc.listed P b.fn a o w,?_⟩
 simp[stepG.apply,j,Frame.atR,d,GStep.after,Go.Conc.listed]
theorem Uy{P:Program}{o:Oper}{a:Act}{H:aa}(S:iv M ι H.get w)(hD:vM ι H){J B:Operand}(m:o.op = .send J B){c x y:AV}{H':aa}(Q:VR M ι c (a.eval J))(W:VR M ι x (a.eval B))
 (h:HJ H (some c) (some x)=some (y,H')):JH P o a w λu w'=>wW M ι H w y H' u w':=by
 unfold HJ at h
 split at h
 ·rename_i r x' e1 e2
  cases e1;cases e2
  split at h
  ·rename_i cap e p
   obtain⟨⟨hlt,hfl⟩,h⟩:=fO.1 h
   cases h
   generalize L:a.eval J=cv at Q
   cases Q with | @ch _ _ l R X=>
   obtain⟨s,t,arr,T,N,C⟩:=My S R p
   obtain⟨n,f,Z,_⟩:=Jv p
   have hb:l.b<w.heap.size:=(iR.1 T).1
   intro b k cs ops i rest V O Y
   obtain⟨es,F⟩:=BB (P:=P) (b:=b) (a:=a) (k:=k) (cs:=cs) (w:=w) (w':=w) (rest:=rest) (cases := #[Go.Conc.scase l.b (a.eval B) (.tuple #[])]) (shape := .send) V O Y (by simp[m]) (by simp[execOp,m,Go.Conc.scase,L])
   have G:=Go.Conc.step_lone_send_room F T (by omega)
   obtain⟨k1,U,k3⟩:=wh S hD R X Z (k':=Ju cap false (e++[x])) (o' := .chan cap (arr.push (a.eval B)) false (s+1) t false)
    (.inr (.inr ⟨cap,s+1,t,false,e++[x],arr.push (a.eval B),rfl,rfl,rfl,gA hb,by simp[N],λj z u d q=>by
     rcases fE j e.length with I | I
     ·rw[oI I]at d
      rw[FZ (by omega)]at q
      exact C j z u d (by rw[<-q];exact ku (by omega))
     ·rw[p4 I]at d
      have K:j - e.length=0:=by
       have:=(iX.1 d).1
       simp at this;omega
      rw[K]at d
      have D:j=arr.size:=by omega
      rw[D,Array.getElem?_push_size]at q
      simp at d q
      subst d q
      exact W⟩))
   refine⟨undef,_,⟨M,ι,.v rfl,k1,U,k3⟩,?_⟩
   rw[Go.Conc.lone_eq_solo,G,Frame.finish_atR,O,Go.Conc.lone_eq_solo,Iv]
   rfl
  ·cases h
 ·cases h
theorem R7{M:Mem}{ι:Map}{x:AV}{u:Value}(ok b:Bool)(h:VR M ι x u):VR M ι (acF ok x b) (Go.Conc.got ok u b):=by
 cases ok with
 | false=>exact h
 | true=>
  refine .tup (by simp) rfl λi c v d e=>?_
  match i with
  | 0=>simp at d e;subst d e;exact h
  | 1=>simp at d e;subst d e;exact .v rfl
  | i+2=>simp at d
theorem Uz{P:Program}{o:Oper}{a:Act}{H:aa}(N:iv M ι H.get w)(hD:vM ι H){t:TypeId}{V:Operand}{ok:Bool}(v:o.op = .recv t V ok){c y:AV}{H':aa}(hc:VR M ι c (a.eval V))
 (h:Kp P H t (some c) ok=some (y,H')):JH P o a w λu w'=>wW M ι H w y H' u w':=by
 unfold Kp at h
 split at h
 ·rename_i r z e1 C
  cases e1
  generalize X:a.eval V=cv at hc
  cases hc with | @ch _ _ l U hz=>
  obtain⟨e,he,K⟩:=iw.1 C
  unfold Nq at he
  split at he
  ·rename_i dir e' G
   cases he
   unfold eI at K
   obtain⟨v0,Y,S⟩:=iw.1 K
   obtain⟨inf,hi,T⟩:=iw.1 Y
   have W:VR M ι z v0:=jX S
   have p:(execOp a.eval o).run P w = .ok (.comm #[Go.Conc.rcase l.b v0] true (.recv ok)) w:=by
    simp[execOp,v,Go.Conc.rcase,X,run_underlying G,zeroValue,typeInfo,hi,T]
   split at h
   ·rename_i cap Z x J d
    cases h
    obtain⟨s,t',arr,O,m,B⟩:=My N U d
    obtain⟨n,f,hg,_⟩:=Jv d
    have hb:l.b<w.heap.size:=(iR.1 O).1
    have q:0<arr.size:=by rw[m];simp
    intro b k cs ops i rest Q I R
    obtain⟨es,D⟩:=BB (P:=P) (b:=b) (a:=a) (k:=k) (cs:=cs) (w:=w) (w':=w) (rest:=rest) Q I R (by simp[v]) p
    have F:=Go.Conc.step_lone_recv_buf ok D O q
    obtain⟨k1,k2,k3⟩:=wh N hD U hz hg (k':=Ju cap Z J) (o' := .chan cap (arr.extract 1 arr.size) Z s (t'+1) false)
     (.inr (.inr ⟨cap,s,t'+1,Z,J,arr.extract 1 arr.size,rfl,rfl,rfl,gA hb,by simp[m],λj z u L G=>by
      refine B (j+1) z u (by simpa using L) ?_
      have hj:=(iX.1 L).1
      rw[Array.getElem?_extract]at G
      rw[Nat.add_comm j 1]
      split at G
      ·exact G
      ·cases G⟩))
    refine⟨_,_,⟨M,ι,R7 ok true (B 0 x (arr.getD 0 undef) rfl (by simp[Array.getD,q])),k1,k2,k3⟩,?_⟩
    rw[Go.Conc.lone_eq_solo,F,Frame.finish_atR,I,Go.Conc.lone_eq_solo,Iv]
    rfl
   ·rename_i cap d
    cases h
    obtain⟨s,t',arr,O,m,B⟩:=My N U d
    have ha:arr = #[]:=M5 (by simpa using m)
    subst ha
    intro b k cs ops i rest Q I R
    obtain⟨es,D⟩:=BB (P:=P) (b:=b) (a:=a) (k:=k) (cs:=cs) (w:=w) (w':=w) (rest:=rest) Q I R (by simp[v]) p
    have F:=Go.Conc.step_lone_recv_shut ok D O
    refine⟨_,_,⟨M,ι,R7 ok false W,N,vp.refl,hD⟩,?_⟩
    rw[Go.Conc.lone_eq_solo,F,Frame.finish_atR,I,Go.Conc.lone_eq_solo]
    rfl
   ·cases h
  ·cases he
 ·cases h
theorem YD{P:Program}{o:Oper}{a:Act}{w:World}{K:Act->World->Prop}{ops:Array Oper}{i:Nat}(x:ops[i]?=some o)(G:Region.wanted o (yielded ops a.tmps)=true)(b:Frame)
 (h:o.wpIn (FW b.roundOf) 0 P a w K (λ_ _ _=>False)) (rest:List Nat) (k:List Item) (cs:List Frame) :
 ∃z w',K z w'/\Steps P (lone (b.atR a (.inRegion ops (i :: rest) :: k)) cs w) (lone (b.atR z (.inRegion ops rest :: k)) cs w'):=by
 obtain⟨_,h⟩:=h
 have t:=stepGR_op (P:=P) (b:=b) (k:=k) (cs:=cs) (w:=w) (rest:=rest) x G
 have j : ∀v,(b.atR a (.inRegion ops (i :: rest) :: k)).finish v=b.atR (a.put o.dst v) (.inRegion ops rest :: k):=by
  intro v;rw[Frame.finish_atR,x];rfl
 have p : ∀n,(FW b.roundOf).room n:=λn _ h=>by simp[FW,Fence.wide]at h
 rw[show(FW b.roundOf).round=b.roundOf from rfl]at h
 unfold Oper.uponIn at h
 split at h
 ·rename_i v w' m
  refine⟨_,_,h,.one (step_lone_go ?_)⟩
  rw[t,<-j];simp[stepG.apply,m]
 ·rename_i w' m
  refine⟨_,_,h,.one (step_lone_go ?_)⟩
  rw[t,<-j];simp[stepG.apply,m]
 ·rename_i d w' m
  refine⟨_,_,h,.one (step_lone_go ?_)⟩
  have D:({ b.atR a (.inRegion ops (i :: rest) :: k)with defers:=d :: a.defers}:Frame).finish undef =
   b.atR ({ a with defers:=d :: a.defers}.put o.dst undef) (.inRegion ops rest :: k):=by
   have B:=Frame.finish_atR b { a with defers:=d :: a.defers} ops i rest k undef
   rw[x]at B;exact B
  rw[t];simp only[stepG.apply,Sem.runT_eq,m,GStep.bare_after]
  exact congrArg (λfr=>GStep.go { frame:=fr,callers:=cs,status := .running,dying:=none} w') D
 ·rename_i f args w' m
  obtain⟨_,H,h⟩:=h
  obtain⟨e,C,fr,q,u,_,F⟩:=h (b.atR a (.inRegion ops (i :: rest) :: k) :: cs) (p _)
  have c:step P (lone (b.atR a (.inRegion ops (i :: rest) :: k)) cs w) = .next (lone (Frame.enter P f args .normal) (b.atR a (.inRegion ops (i :: rest) :: k) :: cs) w'):=
   step_lone_go (by rw[t];simp[stepG.apply,m,Frame.atR])
  cases e with
  | returned v=>
   refine⟨_,_,q,Steps.trans (.one c) (Steps.trans (StepsIn.steps u) (.one ?_))⟩
   rw[<-j];exact step_leave_returned F
  | panicked chain=>exact q.elim
  | outgrown=>obtain⟨_,_,y⟩:=q;exact y.elim
 ·rename_i row args w' m
  obtain⟨_,h⟩:=h
  obtain⟨v,C,q,u⟩:=h (b.atR a (.inRegion ops (i :: rest) :: k)) cs (p _)
  have c:step P (lone (b.atR a (.inRegion ops (i :: rest) :: k)) cs w) = .next (lone (Frame.ofRow P row args .normal) (b.atR a (.inRegion ops (i :: rest) :: k) :: cs) w'):=
   step_lone_go (by rw[t];simp[stepG.apply,m,Frame.atR])
  refine⟨_,_,q,Steps.trans (.one c) ?_⟩
  rw[<-j];exact StepsIn.steps u
 ·rename_i l f tmps assign body w' m
  obtain⟨_,_,h⟩:=h
  obtain⟨e,C,q,u⟩:=h (b.atR a (.inRegion ops (i :: rest) :: k)) cs (p _)
  have c:step P (lone (b.atR a (.inRegion ops (i :: rest) :: k)) cs w) = .next (lone (Frame.round l f tmps assign body .normal) (b.atR a (.inRegion ops (i :: rest) :: k) :: cs) w'):=
   step_lone_go (by rw[t];simp[stepG.apply,m,Frame.atR])
  cases e with
  | returned v=>
   refine⟨_,_,q,Steps.trans (.one c) ?_⟩
   rw[<-j];exact StepsIn.steps u
  | panicked chain=>exact q.elim
  | outgrown=>obtain⟨_,_,y⟩:=q;exact y.elim
 ·exact h.elim
 ·exact h.elim
end
end
section
def lZ(r:Ref)(b:List Loc):Map:=λq=>if q.d=r.d/\q.t=r.t/\q.g=r.g then b[q.k]? else none
structure AM (M:Mem) (w:World) (y:AV) (v:Value) (M':Mem) (w':World):Prop where
 os:w'.os=w.os
 tape:w'.tape=w.tape
 output:w'.output=w.output
 size:w.heap.size<=w'.heap.size
 old : ∀b,b<w.heap.size->w'.heap[b]?=w.heap[b]?
 mem : ∀b o x,M b o=some x->M' b o=some x
 sound : ∀b o x,M' b o=some x->w'.cell? ⟨b,o,none⟩=some x
 new : ∀b o x,M' b o=some x->M b o=some x\/w.heap.size<=b
 res : ∀r:Ref,∃ls:List Loc,ls.length=(az r depth y []).2.length/\VR M' (lZ r ls) (az r depth y []).1 v /\
  (∀(k:Nat) l b,ls[k]?=some l->(az r depth y []).2[k]?=some b->pP M' eB w' l b/\w.heap.size<=l.b) /\
  ∀(i j:Nat) l l',ls[i]?=some l->ls[j]?=some l'->l.b=l'.b->i=j
def gP(P:Program)(f:FuncId)(args:List AV)(y:AV):Prop:=
 (∃fn,P.funcs[f]?=some fn/\(fn.name == "runtime.NumGoroutine")=false/\fn.body.isSome=true) /\
 ∀(M:Mem)(w:World)(us:List Value),(∀b o x,M b o=some x->w.cell? ⟨b,o,none⟩=some x)->mA M eB args us ->
  Calls P f us.toArray w λe w' =>∃v M',e = .returned v/\AM M w y v M' w'
def rO(P:Program):yD->List AV->aa->AV->aa->Prop
 | .fn f,args,H,y,H'=>
  (∃fn,P.funcs[f]?=some fn/\(fn.name == "runtime.NumGoroutine")=false/\fn.body.isSome=true) /\
  ∀(M:Mem)(ι:Map)(w:World)(us:List Value),iv M ι H.get w->vM ι H->mA M ι args us ->
   Calls P f us.toArray w λe w' =>∃v,e = .returned v/\wW M ι H w y H' v w'
 | .yld r,args,H,y,H' =>∀(M:Mem)(ι:Map)(w:World)(us:List Value)(l:Loc),iv M ι H.get w->vM ι H->mA M ι args us->ι r=some l ->
  ∃fn tmps assign body,(Instr.yield l.b us.toArray).run P w = .ok (.round l.b fn tmps assign body) w /\
   RoundIn (FW none) 0 P l.b fn tmps assign body w λe w' =>∃v,e = .returned v/\wW M ι H w y H' v w'
theorem EA{M M':Mem}{ι A:Map} : ∀(n:Nat)(x:AV)(u:Value),flat n x=true->VR M ι x u->VR M' A x u:=by
 intro n
 induction n with
 | zero=>intro x u h;simp[flat]at h
 | succ n f=>
  intro x u h q
  cases q with
  | v t=>exact .v t
  | agg m d=>
   simp only[flat,gy]at h
   exact .agg m λi c u b e=>f c u (h c (fU b)) (d i c u b e)
  | tup y m d=>
   simp only[flat,gy]at h
   exact .tup y m λi c u b e=>f c u (h c (fU b)) (d i c u b e)
  | ifc d=>exact .ifc (f _ _ (by simpa [flat] using h) d)
  | fn p z d j=>
   simp only[flat,aY,gy]at h
   exact .fn p z (λi c u b e=>f c u (h.1 c (fU b)) (d i c u b e)) λi c u b e=>f c u (h.2 c (fU b)) (j i c u b e)
  | yld=>simp[flat]at h
  | mp=>simp[flat]at h
  | ch=>simp[flat]at h
  | cD=>simp[flat]at h
  | cG=>simp[flat]at h
  | ptr=>simp[flat]at h
  | iptr=>simp[flat]at h
theorem xB(r:Ref) : ∀(n m:Nat)(x:AV)(f:List bw),flat m x=true->az r n x f=(x,f):=by
 intro n
 induction n with
 | zero=>intro m x f h;rfl
 | succ n q=>
  intro m x f h
  have b : ∀(m:Nat)(cs e:List AV),(∀c∈cs,flat m c=true)->cs.foldl (λ(p:List AV × List bw) c=>(p.1++[(az r n c p.2).1],(az r n c p.2).2)) (e,f)=(e++cs,f):=by
   intro m cs
   induction cs with
   | nil=>intro e _;simp
   | cons c cs i=>
    intro e j
    rw[w8,q m c f (j c (jB ..))]
    rw[i (e++[c]) (λd u=>j d (iA _ u))]
    simp
  cases m with
  | zero=>simp[flat]at h
  | succ m=>
   cases x with
   | agg cs=>
    simp only[flat,gy]at h
    have:=b m cs [] h
    simp only[az]
    rw[this]
    simp
   | tup cs=>
    simp only[flat,gy]at h
    have:=b m cs [] h
    simp only[az]
    rw[this]
    simp
   | fsl=>simp[flat]at h
   | ifc t x=>
    simp only[az]
    rw[q m x f (by simpa [flat] using h)]
   | _=>rfl
theorem JC{g:cX}{r q:Ref}{e:List bw}{b:bw}(h:ui g r e q=some b):(q.d=r.d/\q.t=r.t/\q.g=r.g/\e[q.k]?=some b)\/(¬(q.d=r.d/\q.t=r.t/\q.g=r.g/\q.k<e.length)/\g q=some b):=by
 unfold ui at h
 split at h
 ·rename_i c;exact .inl ⟨c.1,c.2.1,c.2.2.1,h⟩
 ·rename_i c;exact .inr ⟨c,h⟩
theorem Jx{M ι g w}(L:iv M ι g w){r:Ref}(V : ∀k,ι { r with k:=k}=none){y:AV}{v:Value}{M':Mem}{w':World}(h:AM M w y v M' w') :
 jJ M ι g w r (az r depth y []).1 (az r depth y []).2 v w':=by
 obtain⟨ls,W,hv,Z,hi⟩:=h.res r
 have J : ∀q l,lZ r ls q=some l->ι q=none:=by
  intro q l H
  unfold lZ at H
  split at H
  ·rename_i hc
   have:q = { r with k:=q.k}:=by cases q;cases r;simp_all
   rw[this]
   exact V _
  ·cases H
 have F : ∀q l,ι q=some l->(λq=>match ι q with | some l=>some l | none=>lZ r ls q) q=some l:=by
  intro q l h;simp[h]
 have t : ∀q l,lZ r ls q=some l->(λq=>match ι q with | some l=>some l | none=>lZ r ls q) q=some l:=by
  intro q l h;simp[J q l h,h]
 have u : ∀q l,(λq=>match ι q with | some l=>some l | none=>lZ r ls q) q=some l->ι q=some l\/(ι q=none/\lZ r ls q=some l):=by
  intro q l h
  simp only at h
  split at h
  ·rename_i U C;exact .inl (by rw[C,h])
  ·rename_i T;exact .inr ⟨T,h⟩
 have j : ∀q b l,ui g r (az r depth y []).2 q=some b->(λq=>match ι q with | some l=>some l | none=>lZ r ls q) q=some l ->
  (g q=some b/\ι q=some l)\/(w.heap.size<=l.b/\lZ r ls q=some l/\ls[q.k]?=some l/\q = { r with k:=q.k}):=by
  intro q b l B p
  rcases JC B with ⟨f,m,i,G⟩ | ⟨f,m⟩
  ·right
   have n:q = { r with k:=q.k}:=by cases q;cases r;simp_all
   have T:ι q=none:=by rw[n];exact V _
   rcases u q l p with d | ⟨_,d⟩
   ·rw[T]at d;cases d
   ·have X:ls[q.k]?=some l:=by unfold lZ at d;rw[if_pos ⟨f,m,i⟩]at d;exact d
    exact⟨(Z q.k l b X G).2,d,X,n⟩
  ·left
   obtain⟨Y,e,_⟩:=L.live q b m
   rcases u q l p with d | ⟨d,_⟩
   ·exact⟨m,d⟩
   ·rw[e]at d;cases d
 refine⟨M',λq=>match ι q with | some l=>some l | none=>lZ r ls q,hv.mono (λ_ _ _ h=>h) _ t,?_,?_,?_⟩
 ·refine⟨h.sound,?_,?_⟩
  ·intro q b B
   rcases JC B with ⟨f,m,i,G⟩ | ⟨f,m⟩
   ·have D:q.k<ls.length:=by rw[W];exact(iX.1 G).1
    have I:ls[q.k]?=some ls[q.k]:=fj D
    obtain⟨c,hge⟩:=Z q.k _ b I G
    have Q:lZ r ls q=some ls[q.k]:=by unfold lZ;rw[if_pos ⟨f,m,i⟩];exact I
    refine⟨_,t q _ Q,?_⟩
    exact c.bQ (λ_ _ _ h=>h) (λq l h=>by cases h) rfl c.frozen
   ·obtain⟨l,C,c⟩:=L.live q b m
    refine⟨l,F q l C,c.bQ h.mem F (h.old _ c.lt) ?_⟩
    intro o x N
    rcases h.new _ _ _ N with i | i
    ·exact c.frozen o x i
    ·exact absurd c.lt (Hl.2 i)
  ·intro q R b b' l U f m i G d
   rcases j q b l f i with ⟨z,K⟩ | ⟨z,K,a3,a4⟩<;>rcases j R b' U m G with ⟨b1,b2⟩ | ⟨b1,b2,b3,b4⟩
   ·exact L.inj q R b b' l U z b1 K b2 d
   ·obtain⟨Y,e,c⟩:=L.live q b z
    rw[K]at e;cases e
    exact absurd c.lt (by rw[d];exact Hl.2 b1)
   ·obtain⟨Y,e,c⟩:=L.live R b' b1
    rw[b2]at e;cases e
    exact absurd c.lt (by rw[<-d];exact Hl.2 z)
   ·have:=hi _ _ _ _ a3 b3 d
    rw[a4,b4,this]
 ·refine⟨h.os,h.tape,h.output,h.size,λb S _=>h.old b S,h.mem,F,?_,?_⟩
  ·intro q b l f i
   rcases j q b l f i with ⟨z,K⟩ | ⟨z,_⟩
   ·exact .inr ⟨q,b,l,z,K,rfl⟩
   ·exact .inl z
  ·intro b o x N
   rcases h.new b o x N with f | f
   ·exact .inl f
   ·exact .inr (.inl f)
 ·intro q O H
  simp only[O]
  unfold lZ
  split
  ·rename_i hc
   have n:q = { r with k:=q.k}:=by cases q;cases r;simp_all
   have : ¬q.k<(az r depth y []).2.length:=λD=>H q.k D n
   exact AR (by rw[W];omega)
  ·rfl
theorem Ke{M ι g w}(d:iv M ι g w){r:Ref}{y:AV}{v:Value}{p M':Mem}{w':World}(j:flat depth y=true)(h:AM p w y v M' w'):jJ M ι g w r y [] v w':=by
 obtain⟨ls,B,m,C,z⟩:=h.res r
 rw[xB r depth depth y [] j]at m
 refine⟨M,ι,EA depth y v j m,?_,?_,λq e _=>e⟩
 ·rw[nL]
  refine⟨?_,?_,d.inj⟩
  ·intro b o x u
   have:=d.mem b o x u
   rw[World.cell?_of_block (w:=w) (h.old _ (World.block_lt_of_cell? w ⟨b,o,none⟩ this))]
   exact this
  ·intro q b e
   obtain⟨l,i,c⟩:=d.live q b e
   exact⟨l,i,c.bQ (λ_ _ _ h=>h) (λ_ _ h=>h) (h.old _ c.lt) c.frozen⟩
 ·rw[nL]
  exact⟨h.os,h.tape,h.output,h.size,λb f _=>h.old b f,λ_ _ _ h=>h,λ_ _ h=>h,λq b l t n => .inr ⟨q,b,l,t,n,rfl⟩,λ_ _ _ h => .inl h⟩
theorem Rb{M M':Mem}{ι A:Map}{e x:AV}{u:Value}{j:Nat}(d:flat depth e=true)(b:e.cells[j]?=some x)(h:VR M ι x u):VR M' A x u:=by
 cases e with
 | agg cs=>
  have f:x∈cs:=fU b
  have : ∀c∈cs,flat 7 c=true:=by simpa [flat,depth] using d
  exact EA 7 x u (this x f) h
 | _=>
  simp only[AV.cells]at b
  cases j with
  | zero=>simp at b;subst b;exact EA depth _ u d h
  | succ j=>simp at b
theorem QF(r:Ref) : ∀(n:Nat)(x:AV)(f:List bw),Eg n x=true ->∃new,(az r n x f).2=f++new/\(∀b∈new,0<b.esz/\b.arr=true/\b.kq=false /\∀e∈b.es,flat depth e=true) /\
 ∀(M M':Mem)(ι:Map)(u:Value),VR M ι (az r n x f).1 u->VR M' ι (az r n x f).1 u:=by
 intro n
 induction n with
 | zero=>intro x f h;simp[Eg]at h
 | succ n S=>
  intro x f h
  have B : ∀(cs C:List AV)(f:List bw),(∀c∈cs,Eg n c=true) ->∃(new:List bw) (zs:List AV),cs.foldl (λ(p:List AV × List bw) c=>(p.1++[(az r n c p.2).1],(az r n c p.2).2)) (C,f)=(C++zs,f++new) /\
   (∀b∈new,0<b.esz/\b.arr=true/\b.kq=false /\∀e∈b.es,flat depth e=true) /\∀(M M':Mem)(ι:Map)(z:AV),z∈zs ->∀u,VR M ι z u->VR M' ι z u:=by
   intro cs
   induction cs with
   | nil=>intro C f _;exact⟨[],[],by simp,λb q=>by simp at q,λ_ _ _ z F=>by simp at F⟩
   | cons c cs K=>
    intro C f y
    obtain⟨n1,a1,U,X⟩:=S c f (y c (jB ..))
    obtain⟨n2,zs,b1,b2,b3⟩:=K (C++[(az r n c f).1]) (f++n1) λd V=>y d (iA _ V)
    refine⟨n1++n2,(az r n c f).1 :: zs,?_,?_,?_⟩
    ·rw[w8]
     simp only
     rw[a1,b1]
     simp
    ·intro b q
     rcases oH.1 q with q | q
     ·exact U b q
     ·exact b2 b q
    ·intro M M' ι z F u m
     rcases nB.1 F with rfl | F
     ·exact X M M' ι u m
     ·exact b3 M M' ι z F u m
  cases x with
  | v x=>exact⟨[],by simp[az],λb q=>by simp at q,λM M' ι u m=>by simp only[az]at m ⊢;cases m with | v G=>exact .v G⟩
  | agg cs=>
   simp only[Eg,gy]at h
   obtain⟨new,zs,D,I,H⟩:=B cs [] f h
   simp only[az]
   rw[D]
   refine⟨new,rfl,I,λM M' ι u m=>?_⟩
   simp only[w9]at m ⊢
   cases m with | agg N J=>
   exact .agg N λi c u y O=>H M M' ι c (fU y) u (J i c u y O)
  | tup cs=>
   simp only[Eg,gy]at h
   obtain⟨new,zs,D,I,H⟩:=B cs [] f h
   simp only[az]
   rw[D]
   refine⟨new,rfl,I,λM M' ι u m=>?_⟩
   simp only[w9]at m ⊢
   cases m with | tup Z N J=>
   exact .tup Z N λi c u y O=>H M M' ι c (fU y) u (J i c u y O)
  | fsl z es cap=>
   simp only[Eg,aY,bne_iff_ne,ne_eq,gy]at h
   simp only[az]
   rw[if_neg h.1]
   refine⟨[⟨z,es,true,false⟩],rfl,?_,λM M' ι u m=>?_⟩
   ·intro b q
    rw[vS.1 q]
    exact⟨CA h.1,rfl,rfl,h.2⟩
   ·cases m with | cG W q G T y Y L F=>exact .cG W q G T y Y L F
  | cD z es cap=>
   have Q:es=[]:=by simpa [Eg] using h
   subst Q
   refine⟨[],by simp[az],λb q=>by simp at q,λM M' ι u m=>?_⟩
   simp only[az]at m ⊢
   cases m with | cD cell G y L hm he J=>exact .cD cell G y L (λi j D=>by simp at D) he λi j e x D=>by simp at D
  | ifc t x=>
   obtain⟨new,D,I,H⟩:=S x f (by simpa [Eg] using h)
   simp only[az]
   exact⟨new,D,I,λM M' ι u m=>by cases m with | ifc R=>exact .ifc (H M M' ι _ R)⟩
  | _=>simp[Eg]at h
theorem AM.own{M J M':Mem}{w w':World}{y:AV}{v:Value}(B : ∀b o x,M b o=some x->w.cell? ⟨b,o,none⟩=some x)(C:Eg depth y=true)(h:AM J w y v M' w'):AM M w y v M w':=by
 have q : ∀b o x,M b o=some x->b<w.heap.size:=λb o x c=>World.block_lt_of_cell? w ⟨b,o,none⟩ (B b o x c)
 refine⟨h.os,h.tape,h.output,h.size,h.old,λ_ _ _ h=>h,?_,λ_ _ _ h => .inl h,λr=>?_⟩
 ·intro b o x c
  rw[World.cell?_of_block (w:=w) (h.old _ (q b o x c))]
  exact B b o x c
 ·obtain⟨ls,I,O,R,N⟩:=h.res r
  obtain⟨new,S,Q,K⟩:=QF r depth y [] C
  refine⟨ls,I,K M' M _ v O,λk l b H d=>?_,N⟩
  obtain⟨p,m⟩:=R k l b H d
  have n:b∈new:=by rw[S,w9]at d;exact fU d
  obtain⟨U,W,V,D⟩:=Q b n
  have f : ∀o x,M l.b o=some x->b.kq=true/\o<b.es.length * b.esz:=λo x c=>absurd (q _ _ _ c) (Hl.2 m)
  refine⟨⟨p.esz,λz=>?_,λz=>by omega,f⟩,m⟩
  obtain⟨G,⟨arr,T,fz,d1,d2,d3,d4⟩,F,L,_⟩:=p.cellsOk z
  refine⟨G,⟨arr,T,fz,d1,d2,d3,λi j e x t c=>?_⟩,F,L,f⟩
  obtain⟨u,f1,f2,f3⟩:=d4 i j e x t c
  exact⟨u,f1,f2,Rb (D e (fU t)) c f3⟩
theorem F8{P:Program}{f:FuncId}(j : ∃fn,P.funcs[f]?=some fn/\(fn.name == "runtime.NumGoroutine")=false/\fn.body.isSome=true)(args:Array Value)(w:World) :
 (callFunc f args).run P w = .ok (.enter f args) w:=by
 obtain⟨fn,i,d,c⟩:=j
 have h:fn.body≠none:=by intro e;rw[e]at c;cases c
 have b:fn.name ≠ "runtime.NumGoroutine" := by simpa using d
 simp[callFunc,i,b,h]
theorem FD{P:Program}{a:Act}{o:Oper}{c:Call}{d:Operand}(e:o.op = .call c)(h:c.callee = .value d){f:FuncId}{first captured:Array Value}(b:a.eval d = .func (.func f) first captured)
 (i : ∃fn,P.funcs[f]?=some fn/\(fn.name == "runtime.NumGoroutine")=false/\fn.body.isSome=true) (w:World) :
 (execOp a.eval o).run P w = .ok (.enter f (first++c.args.map a.eval++captured)) w:=by
 simp[execOp,e,resolve,h,b,Deferred.ofValue,invoke,F8 i]
theorem Nf{M ι g w}(e:iv M ι g w){xs ys:List AV}{us:List Value}(h:xs.mapM (view g depth)=some ys)(c:mA M ι xs us):mA (nK M ι g w (ck g xs)) eB ys us:=
 ⟨by rw[kj h];exact c.1,λi y u f d=>by
  obtain⟨x,b,m⟩:=sA h i y f
  refine Dz e depth x y u m ?_ (c.2 i x u b d)
  intro r j
  exact tC.2 ⟨x,fU b,j⟩⟩
theorem VR.Zq{M ι}{f:FuncId}{a b:List AV}{u:Value}(h:VR M ι (.fn (.func f) a b) u) : ∃j b',u = .func (.func f) j b'/\mA M ι a j.toList/\mA M ι b b'.toList:=by
 cases h with | fn n p m e=>
 exact⟨_,_,rfl,⟨by simpa using n,λi x u d c=>m i x u d (by simpa using c)⟩,⟨by simpa using p,λi x u d c=>e i x u d (by simpa using c)⟩⟩
theorem Ij(a b c:Array Value):(a.toList++b.toList++c.toList).toArray=a++b++c:=by
 apply Hm;simp
section
variable{E:Env}{M:Mem}{ι:Map}{g:cX}{w:World}{r:Ref}{a:Act}{tm:List AV}{o:Oper}
theorem VV(q:iv M ι g w)(S:TR M ι tm a)(N : ∀k,ι { r with k:=k}=none){pc:FuncId->List AV->Option AV}(G : ∀f xs y,pc f xs=some y->gP E.P f xs y)
 {c:Call} {O:Operand} (T:o.op = .call c) (p:c.callee = .value O) {args:List AV} (t:c.args.toList.mapM (aK tm)=some args) {x:AV} {Q:List bw} (h:kJ E pc g r (aK tm O) args=some (x,Q)) :
 eV E.P o a w λu w'=>jJ M ι g w r x Q u w':=by
 unfold kJ at h
 split at h
 ·rename_i fi first captured I
  split at h
  ·cases h
  ·split at h
   ·rename_i xs L
    split at h
    ·rename_i y V
     obtain⟨b,h⟩:=fO.1 h
     injection h with h
     obtain⟨W,m⟩:=G fi xs y V
     obtain⟨a',b',F,H,J⟩:=(aT S I).Zq
     have i:=nQ S t
     have B:mA M ι (first++args++captured) (a'.toList++(c.args.map a.eval).toList++b'.toList):=(H.append (by simpa using i)).append J
     obtain⟨z,Y⟩:=BP (R:=ck g (first++args++captured)) q
     have j:=Nf q L B
     have d:=m (nK M ι g w (ck g (first++args++captured))) w _ (AD q.mem) j
     rw[Ij]at d
     refine eV.IS (FD T p F W w) (d.mono λe w' ⟨v,M',he,hend⟩=>⟨v,he,?_⟩)
     by_cases n:flat depth y=true
     ·have U:=xB r depth depth y [] n
      rw[U]at h
      injection h with Z X
      subst Z;subst X
      exact Ke q n hend
     ·by_cases D:Eg depth y=true
      ·have:=Jx q N (hend.own q.mem D)
       rw[h]at this
       exact this
      have K:kB g (ck g (first++args++captured))=true:=by
       simp only[fv,aY]at b
       rcases b with (p | p) | p
       ·exact absurd p n
       ·exact p
       ·exact absurd p.2 D
      have C:=OM K
      rw[C]at z
      have:=Jx z N hend
      rw[h]at this
      exact jJ.after C q this
    ·cases h
   ·cases h
 ·cases h
theorem Nb{H:aa}{d F:Nat}(L:iv M ι H.get w)(O:vM ι H)(Q:TR M ι tm a){pc:FuncId->List AV->Option AV}(U : ∀f xs y,pc f xs=some y->gP E.P f xs y)
 {tc:yD->List AV->aa->dz} (N : ∀f xs H y H',tc f xs H=some (y,H')->rO E.P f xs H y H')
 {c:Call} {T:Operand} (S:o.op = .call c) (V:c.callee = .value T) {args:List AV} (n:c.args.toList.mapM (aK tm)=some args) {x:AV} {H':aa}
 (h:nC E pc tc H ⟨d,F,H.gen d F,0⟩ (aK tm T) args=some (x,H')):eV E.P o a w λu w'=>wW M ι H w x H' u w':=by
 unfold nC at h
 split at h
 ·rename_i fi first captured D
  obtain⟨a',b',G,X,Y⟩:=(aT Q D).Zq
  have j:=nQ Q n
  have z:mA M ι (first++args++captured) (a'.toList++(c.args.map a.eval).toList++b'.toList):=(X.append (by simpa using j)).append Y
  split at h
  ·obtain⟨W,I⟩:=N _ _ _ _ _ h
   have i:=I M ι w _ L O z
   rw[Ij]at i
   exact eV.IS (FD S V G W w) (i.mono λe w' ⟨v,he,hend⟩=>⟨v,he,hend⟩)
  ·split at h
   ·rename_i xs hxs
    simp only[bN]at h
    obtain⟨y,C,h⟩:=h
    injection h with h1 h2
    obtain⟨W,B⟩:=U fi xs y C
    obtain⟨hS1,J⟩:=BP (R:=ck H.get (first++args++captured)) L
    have t:=Nf L hxs z
    have i:=B (nK M ι H.get w (ck H.get (first++args++captured))) w _ (AD L.mem) t
    rw[Ij]at i
    refine eV.IS (FD S V G W w) (i.mono λe w' ⟨v,M',he,hend⟩=>⟨v,he,?_⟩)
    have hD1:vM ι (cH H (ck H.get (first++args++captured))):=by
     intro q l hq
     rw[aa.kL]
     exact O q l hq
    have m:=Jx (r:=⟨d,F,H.gen d F,0⟩) hS1 (λk=>O.fresh d F k) hend
    rw[<-aa.eG]at m
    have K:H.gen d F=(cH H (ck H.get (first++args++captured))).gen d F:=(aa.kL _ _ _ _).symm
    have key:wW (nK M ι H.get w (ck H.get (first++args++captured))) ι (cH H (ck H.get (first++args++captured))) w x H' v w':=by
     subst h1;subst h2
     rw[K]at m ⊢
     exact m.toW hD1
    obtain⟨M2,Z,k1,k2,k3,k4⟩:=key
    refine⟨M2,Z,k1,k2,?_,k4⟩
    rw[<-aa.eG]at J
    exact J.trans k3
   ·cases h
 ·rename_i q D
  have j:=nQ Q n
  have C:=aT Q D
  generalize hu:a.eval T=u at C
  cases C with | yld hr hz=>
  rename_i l
  obtain⟨fn,tmps,assign,body,C,p⟩:=N _ _ _ _ _ h M ι w _ l L O j hr
  refine eV.Wa (l:=l.b) ?_ p
  have e1:(c.args.map a.eval:Array Value)=(c.args.toList.map a.eval).toArray:=by rw[<-Lk];simp
  rw[<-e1]at C
  simp[execOp,S,resolve,V,hu,Deferred.ofValue,invoke,C]
 ·cases h
end
end
section
theorem VR.cut{M M':Mem}{ι:Map}{e:AV}{S:Value}(T:VR M ι e S) : ∀ {A:Map} {u:Value},VR M' A e u->(∀q l,ι q=some l->A q=some l)->VR M' ι e u:=by
 induction T with
 | v h=>intro A u h d;cases h with | v F=>exact .v F
 | agg R _ p=>
  intro A u h d
  cases h with | agg B n=>
  refine .agg B λi c u f x=>?_
  have C:=(iX.1 f).1
  exact p i c _ f (ku (by omega)) (n i c u f x) d
 | tup D R _ p=>
  intro A u h d
  cases h with | tup J B n=>
  refine .tup J B λi c u f x=>?_
  have C:=(iX.1 f).1
  exact p i c _ f (ku (by omega)) (n i c u f x) d
 | cD cell F f G hm he _ p=>
  intro A u h d
  cases h with | cD cell F f G hm he n=>exact .cD cell F f G hm he n
 | cG m U F Q f V G D=>
  intro A u h d
  have t:=d _ _ m
  cases h with | cG b z I y K O H j=>
  rw[t]at b
  cases b
  exact .cG m z I y K O H j
 | ptr m D=>
  intro A u h d
  have t:=d _ _ m
  cases h with | ptr b j=>
  rw[t]at b
  cases b
  exact .ptr m j
 | iptr cell hm he _ p=>
  intro A u h d
  cases h with | iptr cell hm he n=>exact .iptr cell hm he n
 | fn Q U _ _ p N=>
  intro A u h d
  cases h with | fn y z n L=>
  refine .fn y z (λi c u f x=>?_) λi c u f x=>?_
  ·have C:=(iX.1 f).1
   exact p i c _ f (ku (by omega)) (n i c u f x) d
  ·have C:=(iX.1 f).1
   exact N i c _ f (ku (by omega)) (L i c u f x) d
 | ifc _ p=>intro A u h d;cases h with | ifc n=>exact .ifc (p n d)
 | yld m D=>
  intro A u h d
  have t:=d _ _ m
  cases h with | yld b j=>
  rw[t]at b
  cases b
  exact .yld m j
 | mp m D=>
  intro A u h d
  have t:=d _ _ m
  cases h with | mp b j=>
  rw[t]at b
  cases b
  exact .mp m j
 | ch m D=>
  intro A u h d
  have t:=d _ _ m
  cases h with | ch b j=>
  rw[t]at b
  cases b
  exact .ch m j
section
variable{M M':Mem}{ι A:Map}{w w':World}{l:Loc}{k:bw}
theorem gq.cut(C:gq M ι w l k)(c:gq M' A w' l k)(n : ∀q l,ι q=some l->A q=some l):gq M' ι w' l k:=by
 obtain⟨f,_,_,_,_,_,t⟩:=C.heap
 obtain⟨arr,T,fz,y,p,m,z⟩:=c.heap
 refine⟨c.esz,⟨arr,T,fz,y,p,m,λi j e x d b=>?_⟩,c.len,c.cells,c.frozen⟩
 obtain⟨D,_,_,v0⟩:=t i j e x d b
 obtain⟨u,B,v,v1⟩:=z i j e x d b
 refine⟨u,B,v,v0.cut v1 ?_⟩
 unfold bw.map
 split
 ·exact λ_ _ h=>h
 ·exact n
theorem JF.cut(G:JF M ι w l k)(c:JF M' A w' l k)(j : ∀q l,ι q=some l->A q=some l):JF M' ι w' l k:=by
 obtain⟨H,x,C,u,m,i,I,_,_,b,_,_,_,_,_,v0,_⟩:=G
 obtain⟨n,nt,ps,as,z,tm,r,B,p,e,h,D,f,F,d,v,y⟩:=c
 rw[e]at b
 simp only[AO,AV.lp.injEq]at b
 obtain⟨_,⟨_,_,_,_,_,rfl⟩,_⟩:=b
 exact⟨n,nt,ps,as,z,tm,r,B,p,e,h,D,f,F,d,λt=>(v0 t).cut (v t) j,y⟩
theorem Ps.cut(J:Ps M ι w l k)(c:Ps M' A w' l k)(u : ∀q l,ι q=some l->A q=some l):Ps M' ι w' l k:=by
 obtain⟨n,d,_,_,j,_,K,v0⟩:=J
 obtain⟨ents,entries,C,z,e,t,s,v⟩:=c
 rw[e]at j
 simp only[AO,true_and]at j
 subst j
 refine⟨ents,entries,C,z,e,t,s,λi f I b h=>?_⟩
 obtain⟨G,H,q1,q2,p,B⟩:=v i f I b h
 have F:=(iX.1 b).1
 obtain⟨D,x,m,_,y,_⟩:=v0 i f _ b (ku (by omega))
 rw[q1]at m
 simp only[AV.tup.injEq,AO]at m
 obtain⟨_,rfl,_⟩:=m
 exact⟨G,H,q1,q2,y.cut p u,B⟩
theorem JI.cut(C:JI M ι w l k)(c:JI M' A w' l k)(m : ∀q l,ι q=some l->A q=some l):JI M' ι w' l k:=by
 obtain⟨_,_,_,_,f,h,_,_,b,_,D,v0⟩:=C
 obtain⟨cap,s,r,B,buf,arr,y,t,e,j,n,v⟩:=c
 rw[e]at b
 simp only[AO,true_and]at b
 obtain⟨_,_,rfl⟩:=b
 refine⟨cap,s,r,B,buf,arr,y,t,e,j,n,λi x u d p=>?_⟩
 have z:=(iX.1 d).1
 exact(v0 i x _ d (ku (by omega))).cut (v i x u d p) m
theorem oB.cut(d:oB M ι w l k)(c:oB M' A w' l k)(f : ∀q l,ι q=some l->A q=some l):oB M' ι w' l k:=by
 rcases d with d | d | d<;>rcases c with c | c | c
 ·exact .inl (d.cut c f)
 ·obtain⟨_,_,_,_,_,_,_,_,_,b,_⟩:=d
  obtain⟨_,_,_,_,e,_⟩:=c
  rw[e]at b;simp at b
 ·obtain⟨_,_,_,_,_,_,_,_,_,b,_⟩:=d
  obtain⟨_,_,_,_,_,_,_,_,e,_⟩:=c
  rw[e]at b;simp at b
 ·obtain⟨_,_,_,_,_,_,_,_,_,b,_⟩:=c
  obtain⟨_,_,_,_,e,_⟩:=d
  rw[e]at b;simp at b
 ·exact .inr (.inl (d.cut c f))
 ·obtain⟨_,_,_,_,b,_⟩:=d
  obtain⟨_,_,_,_,_,_,_,_,e,_⟩:=c
  rw[e]at b;simp at b
 ·obtain⟨_,_,_,_,_,_,_,_,_,b,_⟩:=c
  obtain⟨_,_,_,_,_,_,_,_,e,_⟩:=d
  rw[e]at b;simp at b
 ·obtain⟨_,_,_,_,b,_⟩:=c
  obtain⟨_,_,_,_,_,_,_,_,e,_⟩:=d
  rw[e]at b;simp at b
 ·exact .inr (.inr (d.cut c f))
theorem pP.cut(d:pP M ι w l k)(c:pP M' A w' l k)(b : ∀q l,ι q=some l->A q=some l):pP M' ι w' l k:=
 ⟨c.esz,λh=>(d.cellsOk h).cut (c.cellsOk h) b,λh=>(d.objOk h).cut (c.objOk h) b,c.frozen⟩
theorem Tj{H H':aa}(f:iv M ι H.get w)(D:vM ι H){y:AV}{v:Value}(B:flat depth y=true)(z : ∀q k,H.get q=some k->H'.get q=some k)(h:wW M ι H w y H' v w'):wW M ι H w y H v w':=by
 obtain⟨t,m,C,c,b,p⟩:=h
 refine⟨t,ι,EA depth y v B C,⟨c.mem,λq k i=>?_,f.inj⟩,⟨b.os,b.tape,b.output,b.size,b.chg,b.mem,λ_ _ h=>h,λq k l x n => .inr ⟨q,k,l,x,n,rfl⟩,b.new⟩,D⟩
 obtain⟨l,j,u⟩:=f.live q k i
 obtain⟨F,d,e⟩:=c.live q k (z q k i)
 have:=b.map q l j
 rw[this]at d
 cases d
 exact⟨l,j,u.cut e b.map⟩
theorem Nd{u v:Value}(h:RB u v=true):u=v:=by
 unfold RB at h
 split at h
 ·simp at h;rw[h]
 ·simp at h;rw[h.1,h.2]
 ·simp at h;rw[h]
 ·simp only[aY]at h
  rw[lb h.1,lb h.2]
 ·rfl
 ·rfl
 ·cases h
theorem sR{f:AV->AV->Bool}(d : ∀x y,f x y=true->x=y) : ∀(xs ys:List AV),xs.length=ys.length->((xs.zip ys).all λp=>f p.1 p.2)=true->xs=ys:=by
 intro xs
 induction xs with
 | nil=>intro ys h _;exact(Dy h.symm).symm
 | cons x xs c=>
  intro ys h b
  cases ys with
  | nil=>simp at h
  | cons y ys=>
   simp only[PE,Br,aY]at b
   rw[d x y b.1,c ys (by simpa using h) b.2]
theorem D7{r r':Ref}(h:KG r r'=true):r=r':=by
 unfold KG at h
 simp only[aY]at h
 cases r;cases r'
 simp only[Ref.mk.injEq]
 exact⟨lb h.1.2,lb h.1.1.1,lb h.1.1.2,lb h.2⟩
theorem W8 : ∀(n:Nat)(x y:AV),CQ n x y=true->x=y:=by
 intro n
 induction n with
 | zero=>intro x y h;simp[CQ]at h
 | succ n b=>
  intro x y h
  unfold CQ at h
  split at h
  ·rw[Nd h]
  ·simp only[aY]at h
   rw[sR b _ _ (lb h.1) h.2]
  ·simp only[aY]at h
   rw[sR b _ _ (lb h.1) h.2]
  ·simp only[aY,decide_eq_true_eq]at h
   rw[sR b _ _ (lb h.1.2) h.2,lb h.1.1.1,h.1.1.2]
  ·simp only[aY,decide_eq_true_eq]at h
   rw[D7 h.1.1.1,lb h.1.1.2,lb h.1.2,h.2]
  ·simp only[aY]at h
   rw[D7 h.1.1,lb h.1.2,lb h.2]
  ·rw[D7 h]
  ·rw[D7 h]
  ·simp only[aY]at h
   rw[lb h.1.1,sR b _ _ (lb h.1.2.1) h.1.2.2,sR b _ _ (lb h.2.1) h.2.2]
  ·simp only[aY]at h
   rw[lb h.1,b _ _ h.2]
  ·cases h
theorem Rl{k k':bw}(h:ME k k'=true):k=k':=by
 unfold ME at h
 simp only[aY,beq_iff_eq]at h
 cases k;cases k'
 simp only[bw.mk.injEq]
 exact⟨lb h.1.1.1.1,sR (W8 8) _ _ (lb h.1.2) h.2,h.1.1.1.2,h.1.1.2⟩
theorem get_mem : ∀(H:aa)(q:Ref)(k:bw),H.get q=some k ->∃b,(q,b)∈H:=by
 intro H
 induction H with
 | nil=>intro q k h;cases h
 | cons p H c=>
  obtain⟨r,b⟩:=p
  intro q k h
  simp only[aa.get]at h
  split at h
  ·rename_i e;subst e;exact⟨b,jB ..⟩
  ·obtain⟨b',d⟩:=c q k h
   exact⟨b',iA _ d⟩
theorem OH{H H':aa}(h:Jc H H'=true)(q:Ref)(k:bw)(d:H.get q=some k):H'.get q=some k:=by
 obtain⟨b,e⟩:=get_mem H q k d
 have:=gy.1 h _ e
 simp only[d]at this
 split at this
 ·cases this
 ·rename_i k' c
  rw[c,Rl this]
theorem M8{b:Bool}{sm:MK}{H H':aa}{c:dz}{y:AV}(h:re b sm H c=some (y,H')):c=some (y,H') \/∃d,H'=H/\c=some (y,d)/\flat depth y=true /\∀q k,H.get q=some k->d.get q=some k:=by
 unfold re at h
 split at h
 ·rename_i f d
  obtain⟨e,h⟩:=fO.1 h
  cases h
  exact .inr ⟨d,rfl,rfl,(yN.1 e).1,(HF.1 (yN.1 e).2).elim OH (sm.ok _ _)⟩
 ·exact .inl h
end
end
section
theorem vG(l:List AV)(d t:Nat)(x:AV):dJ (DY l d x) t=if t=d then x else dJ l t:=by
 induction l generalizing d t with
 | nil=>
  induction d generalizing t with
  | zero=>cases t<;>simp[DY,dJ]
  | succ d b=>
   cases t with
   | zero=>simp[DY,dJ]
   | succ t=>simp[DY,dJ,b]
 | cons y l b=>
  cases d with
  | zero=>cases t<;>simp[DY,dJ]
  | succ d=>
   cases t with
   | zero=>simp[DY,dJ]
   | succ t=>simp[DY,dJ,b]
theorem TR.put{M ι tm a}(f:TR M ι tm a){nt:Nat}(e:a.tmps.size=nt){c:Option Tmp}{x:AV}{tm':List AV}(h:dt nt tm c x=some tm'){u:Value}(j:VR M ι x u) :
 TR M ι tm' (a.put c u)/\(a.put c u).tmps.size=nt:=by
 unfold dt at h
 split at h
 ·injection h with h
  subst h
  exact⟨f,e⟩
 ·rename_i d
  obtain⟨i,h⟩:=fO.1 h
  injection h with h
  subst h
  refine⟨⟨?_⟩,by simp[Act.put,e]⟩
  intro t
  rw[vG]
  simp only[Act.put,F0]
  by_cases b:t=d
  ·subst b
   rw[if_pos rfl,Hk (by rw[e];exact i)]
   exact j
  ·rw[if_neg b,CC (tP b),<-F0]
   exact f.at_ t
theorem lE{M ι tm a}(x:TR M ι tm a){ops:Array Oper}{o:Oper}{b:Bool}(h:wanted ops tm o=some b):Region.wanted o (yielded ops a.tmps)=b:=by
 unfold wanted at h
 unfold Region.wanted
 split at h
 ·rename_i m
  injection h with h
  subst h
  rw[m]
 ·rename_i j e m
  rw[m]
  simp only
  split at h
  ·rename_i t f
   have d:=x.at_ t
   rw[F0]at d
   split at h
   ·rename_i c n
    injection h with h
    subst h
    rw[n]at d
    have:a.tmps[t]?=some (.bool c):=by
     cases i:a.tmps[t]? with
     | none=>rw[i]at d;cases d
     | some v=>rw[i]at d;simp only[cY]at d;cases d;rfl
    simp only[yielded,f,fN,this]
    cases c<;>cases e<;>rfl
   ·rename_i q n
    rw[n]at d
    obtain⟨u,h⟩:=fO.1 h
    injection h with h
    subst h
    have p:q = #[]:=by simpa using u
    subst p
    have:yielded ops a.tmps j=none:=by
     simp only[yielded,f,fN]
     cases i:a.tmps[t]? with
     | none=>rfl
     | some v=>
      rw[i]at d
      simp only[cY]at d
      cases d
      rfl
    rw[this]
    rfl
   ·cases h
  ·rename_i f
   injection h with h
   subst h
   simp only[yielded,f,Hz]
   rfl
section
variable{E:Env}{M:Mem}{ι:Map}{g:cX}{w:World}{r:Ref}{a:Act}{tm:List AV}{o:Oper}
theorem sw{x:Option AV}{y:AV}{b:List bw}(h:kf x=some (y,b)):x=some y/\b=[]:=by
 simp only[kf,bN]at h
 obtain⟨z,e,h⟩:=h
 injection h with d c
 exact⟨by rw[e,d],c.symm⟩
theorem eV.same{s:Sem Value}(d:iv M ι g w)(f : ∀c,c=a.eval->execOp c o=(do pure (Next.value (<-s)))){x:AV}{b:List bw}(h:b=[] /\∃u,s.run E.P w = .ok u w/\VR M ι x u) :
 eV E.P o a w λu w'=>jJ M ι g w r x b u w':=by
 obtain⟨rfl,u,e,i⟩:=h
 exact eV.of_run (by rw[f a.eval rfl];exact KF e) (jJ.same d i)
theorem eV.made{s:Sem Value}(e : ∀c,c=a.eval->execOp c o=(do pure (Next.value (<-s)))){x:AV}{b:List bw}(h : ∃u w',s.run E.P w = .ok u w'/\jJ M ι g w r x b u w') :
 eV E.P o a w λu w'=>jJ M ι g w r x b u w':=by
 obtain⟨u,w',d,f⟩:=h
 exact eV.of_run (by rw[e a.eval rfl];exact KF d) f
theorem vJ(ps:Array (Nat × Operand))(b:Operand->Value):(ps.map λ(p:Nat × Operand)=>(p.1,b p.2)).toList=ps.toList.map λp=>(p.1,b p.2):=by simp
theorem Mg{b:Type}{l:List b}(h:l.length=1) : ∃a,l=[a]:=List.length_eq_one_iff.1 h
theorem Bk{c:Type}{l:List c}(h:l.length=2) : ∃a b,l=[a,b]:=by
 match l,h with
 | [a,b],_=>exact⟨a,b,rfl⟩
theorem eV.mono{P:Program}{Q b:Value->World->Prop}(h:eV P o a w Q)(e : ∀u w',Q u w'->b u w'):eV P o a w b:=
 λro K R d=>h ro K R λu w' c=>d u w' (e u w' c)
theorem gq.kq{l:Loc}{k:bw}(h:gq M ι w l k):gq M ι w l { k with kq:=true} :=
 ⟨h.esz,h.heap,h.len,h.cells,λo x b=>⟨rfl,(h.frozen o x b).2⟩⟩
theorem pP.kq{l:Loc}{k:bw}(h:pP M ι w l k):pP M ι w l { k with kq:=true} :=
 ⟨h.esz,λb=>(h.cellsOk b).kq,λb=>(h.objOk b).same rfl rfl rfl,λo x c=>⟨rfl,(h.frozen o x c).2⟩⟩
theorem EO{d:List bw}{q:Ref}{b':bw}(h:ui g r (d.map λk => { k with kq:=true}) q=some b') : ∃b,ui g r d q=some b/\(b'=b\/b' = { b with kq:=true}):=by
 unfold ui at h ⊢
 simp only[uD]at h
 split at h
 ·rename_i c
  rw[if_pos c]
  simp only[pG,bN]at h
  obtain⟨b,f,e⟩:=h
  exact⟨b,f,.inr e.symm⟩
 ·rename_i c
  rw[if_neg c]
  exact⟨b',h,.inl rfl⟩
theorem jJ.BQ{x:AV}{v:List bw}{b:Bool}{u:Value}{w':World}(h:jJ M ι g w r x v u w'):jJ M ι g w r x (Ab.BQ b v) u w':=by
 cases b with
 | false=>exact h
 | true=>
  obtain⟨M',A,H,m,c,I⟩:=h
  refine⟨M',A,H,⟨m.mem,λq k i=>?_,λq B k k' l J t n D F z=>?_⟩,⟨c.os,c.tape,c.output,c.size,c.chg,c.mem,c.map,λq k l t n=>?_,c.new⟩,λq i C=>I q i λk p=>C k (by simpa [Ab.BQ] using p)⟩
  ·obtain⟨b,G,e⟩:=EO i
   obtain⟨l,y,f⟩:=m.live q b G
   rcases e with rfl | rfl
   ·exact⟨l,y,f⟩
   ·exact⟨l,y,f.kq⟩
  ·obtain⟨b1,d,_⟩:=EO t
   obtain⟨b2,j,_⟩:=EO n
   exact m.inj q B b1 b2 l J d j D F z
  ·obtain⟨b1,d,_⟩:=EO t
   exact c.live q b1 l d n
def B3(P:Program)(f:FuncId)(t:TypeId):Prop:=
 ∃fn tR,P.funcs[f]?=some fn/\(fn.name == "runtime.NumGoroutine")=false/\fn.body.isNone=true/\Extern.findNext fn=none/\Extern.find fn=some (Extern.SlicesOverlaps.overlaps #[t,t] #[tR])
theorem zw(B:iv M ι g w)(C:TR M ι tm a)(hr:r.k=0)(hq : ∀k,ι { r with k:=k}=none){pc:FuncId->List AV->Option AV}(hpc : ∀f xs y,pc f xs=some y->gP E.P f xs y)
 {Y:Bool} (hov:Y=false ->∀f t,E.tz f=some t->B3 E.P f t) {x:AV} {bs:List bw} (h:cz E pc Y g tm r o=some (x,bs)):eV E.P o a w λu w'=>jJ M ι g w r x bs u w':=by
 have R:ι r=none:=by have:=hq 0;rwa [show({ r with k:=0}:Ref)=r by cases r;simp_all]at this
 unfold cz at h
 split at h
 ·
  rename_i y d
  obtain⟨q,rfl⟩:=sw h
  exact eV.of_run (u:=a.eval y) (w':=w) (by simp[execOp,d]) (jJ.same B (aT C q))
 ·
  rename_i y d
  obtain⟨q,rfl⟩:=sw h
  exact eV.of_run (u:=a.eval y) (w':=w) (by simp[execOp,d]) (jJ.same B (aT C q))
 ·
  rename_i c y z d
  obtain⟨rfl,u,F,I⟩:=VM (P:=E.P) (w:=w) C h
  refine eV.of_run (u:=u) (w':=w) ?_ (jJ.same B I)
  simp only[execOp,d]
  simp only[Sem.run_bind]at F ⊢
  cases V:(asBool (a.eval c)).run E.P w with
  | ok b w1=>
   rw[V]at F
   simp only[Result.andThen_ok,Sem.run_pure]at F ⊢
   injection F with L K
   rw[L,K]
  | halt hh w1=>rw[V]at F;cases F
 ·
  rename_i e d
  exact eV.made (λQ m=>by simp only[execOp,d]) (Tp B hr R h)
 ·
  rename_i e y d
  cases q:aK tm y with
  | none=>rw[q]at h;simp[L1]at h
  | some U=>
   rw[q]at h
   exact eV.made (λQ m=>by simp only[execOp,d,m]) (Yu B hr R (aT C q) h)
 ·
  rename_i t ps d
  cases I:jc tm ps.toList with
  | none=>rw[I]at h;simp only[jD]at h;split at h<;>first | cases h | (rename_i L K;cases K)
  | some vs=>
   rw[I]at h
   obtain⟨L,K⟩:=vC (ι:=ι) C I
   refine eV.same B (s:=Instr.build t (ps.map λ(p:Nat × Operand)=>(p.1,a.eval p.2))) (λQ m=>by simp only[execOp,d,m]) (To ?_ ?_ h)
   ·rw[vJ];exact L
   ·rw[vJ];exact K
 ·
  rename_i t n ps d
  cases I:jc tm ps.toList with
  | none=>rw[I]at h;simp[iB]at h
  | some vs=>
   rw[I]at h
   obtain⟨L,K⟩:=vC (ι:=ι) C I
   refine eV.made (s:=Instr.buildSlice t n (ps.map λ(p:Nat × Operand)=>(p.1,a.eval p.2))) (λQ m=>by simp only[execOp,d,m]) (IP B hr R h ?_ ?_)
   ·rw[vJ];exact L
   ·rw[vJ];exact K
 ·
  rename_i t y d
  cases q:aK tm y with
  | none=>rw[q]at h;simp[uL]at h
  | some U=>
   rw[q]at h
   exact eV.same B (λQ m=>by simp only[execOp,d,m]) (VP B (aT C q) h)
 ·
  rename_i y d
  unfold NX at h
  split at h
  ·rename_i r' i j q
   injection h with h;injection h with L K;subst L;subst K
   have I:=aT C q
   refine eV.of_run (u:=a.eval y) (w':=w) ?_ (jJ.same B I)
   generalize hu:a.eval y=u at I
   cases I
   simp[execOp,d,hu]
  ·rename_i n es i j q
   injection h with h;injection h with L K;subst L;subst K
   have I:=aT C q
   refine eV.of_run (u:=a.eval y) (w':=w) ?_ (jJ.same B I)
   generalize hu:a.eval y=u at I
   cases I
   simp[execOp,d,hu]
  ·rename_i f b c q
   injection h with h;injection h with L K;subst L;subst K
   have I:=aT C q
   refine eV.of_run (u:=a.eval y) (w':=w) ?_ (jJ.same B I)
   generalize hu:a.eval y=u at I
   cases I
   simp[execOp,d,hu]
  ·cases h
 ·
  rename_i op t xo yo ty d
  cases hx:aK tm xo with
  | none=>rw[hx]at h;simp[bY]at h
  | some x'=>
   cases q:aK tm yo with
   | none=>rw[hx,q]at h;simp[bY]at h
   | some U=>
    rw[hx,q]at h
    exact eV.same B (λQ m=>by simp only[execOp,d,m]) (Yv (aT C hx) (aT C q) h)
 ·
  rename_i op t y d
  cases q:aK tm y with
  | none=>rw[q]at h;simp[qUn,kf]at h
  | some U=>
   rw[q]at h
   exact eV.same B (λQ m=>by simp only[execOp,d,m]) (abD (aT C q) h)
 ·
  rename_i src dst y d
  cases q:aK tm y with
  | none=>rw[q]at h;simp[gB]at h
  | some U=>
   rw[q]at h
   exact eV.made (λQ m=>by simp only[execOp,d,m]) (N1 B hr R (aT C q) h)
 ·
  rename_i t y d
  cases q:aK tm y with
  | none=>rw[q]at h;simp only[tX]at h;split at h<;>simp at h
  | some U=>
   rw[q]at h
   exact eV.same B (λQ m=>by simp only[execOp,d,m]) (Fo (aT C q) h)
 ·
  rename_i f first captured d
  cases L:first.toList.mapM (aK tm) with
  | none=>rw[L]at h;simp[gY]at h
  | some xs=>
   cases K:captured.toList.mapM (aK tm) with
   | none=>rw[L,K]at h;simp[gY]at h
   | some ys=>
    rw[L,K]at h
    obtain⟨rfl,I⟩:=VS (nQ C L) (nQ C K) h
    refine eV.of_run (u := .func f (first.map a.eval) (captured.map a.eval)) (w':=w) (by simp[execOp,d,Instr.makeFunc]) (jJ.same B ?_)
    have e1 : ∀l:Array Operand,(l.toList.map a.eval).toArray=l.map a.eval:=λl=>by apply Hm;simp
    rw[e1,e1]at I
    exact I
 ·
  rename_i t l c d
  cases hl:aK tm l with
  | none=>rw[hl]at h;simp only[Gb,Hz]at h;split at h<;>first | cases h | (rename_i L K Z;cases K)
  | some l'=>
   cases V:aK tm c with
   | none=>rw[hl,V]at h;simp only[Gb,Hz]at h;split at h<;>first | cases h | (rename_i L K Z;cases Z)
   | some c'=>
    rw[hl,V]at h
    exact eV.made (λQ m=>by simp only[execOp,d,m]) (VO B hr R (aT C hl) (aT C V) h)
 ·
  rename_i t d
  cases h
  exact eV.made (s:=Instr.makeMap t none) (λQ m=>by simp only[execOp,d,FV]) (NY B hr R t)
 ·
  rename_i t y z ok d
  cases q:aK tm y with
  | none=>rw[q]at h;simp only[ff]at h;split at h<;>simp_all
  | some U=>
   cases W:aK tm z with
   | none=>rw[q,W]at h;simp only[ff,Hz]at h;split at h<;>simp_all
   | some z'=>
    rw[q,W]at h
    exact eV.same B (λQ m=>by simp only[execOp,d,m]) (Qx B (aT C q) (aT C W) h)
 ·
  rename_i t y lo hi mx d
  cases hwd:(E.wide o && !Y) with
  | true=>
   rw[hwd]at h
   simp only[cond_true]at h
   cases q:aK tm y with
   | none=>rw[q]at h;unfold xk at h;split at h<;>simp_all
   | some U=>
    cases L:mG tm lo with
    | none=>rw[L]at h;simp[xk]at h
    | some lo'=>
     cases K:mG tm hi with
     | none=>rw[K]at h;unfold xk at h;split at h<;>simp_all
     | some hi'=>
      cases Z:mG tm mx with
      | none=>rw[Z]at h;unfold xk at h;split at h<;>simp_all
      | some mx'=>
       rw[q,L,K,Z]at h
       exact eV.same B (λQ m=>by simp only[execOp,d,m]) (Qw B (aT C q) (vI C L) (vI C K) (vI C Z) h)
  | false=>
  rw[hwd]at h
  simp only[cond_false]at h
  cases q:aK tm y with
  | none=>rw[q]at h;simp only[ja]at h;split at h<;>simp at h
  | some U=>
   rw[q]at h
   cases L:mG tm lo with
   | none=>rw[L]at h;simp[ja]at h
   | some lo'=>
    cases K:mG tm hi with
    | none=>rw[L,K]at h;simp[ja]at h
    | some hi'=>
     cases Z:mG tm mx with
     | none=>rw[L,K,Z]at h;simp[ja]at h
     | some mx'=>
      rw[L,K,Z]at h
      exact eV.same B (λQ m=>by simp only[execOp,d,m]) (Tl B (aT C q) (vI C L) (vI C K) (vI C Z) h)
 ·
  rename_i t y f d
  cases q:aK tm y with
  | none=>rw[q]at h;simp only[jW]at h;split at h<;>(try split at h)<;>simp_all
  | some U=>
   rw[q]at h
   exact eV.same B (λQ m=>by simp only[execOp,d,m]) (J4 (aT C q) h)
 ·
  rename_i t y f d
  cases q:aK tm y with
  | none=>rw[q]at h;simp only[yj]at h;split at h<;>simp_all
  | some U=>
   rw[q]at h
   exact eV.same B (λQ m=>by simp only[execOp,d,m]) (Tn (aT C q) h)
 ·
  rename_i t y z d
  cases q:aK tm y with
  | none=>
   rw[q]at h
   simp only[ep]at h
   (repeat' split at h)<;>simp_all
  | some U=>
   cases W:aK tm z with
   | none=>rw[q,W]at h;simp[ep]at h
   | some z'=>
    rw[q,W]at h
    exact eV.same B (λQ m=>by simp only[execOp,d,m]) (J3 B (aT C q) (aT C W) h)
 ·
  rename_i t y z d
  cases q:aK tm y with
  | none=>rw[q]at h;simp only[sx]at h;split at h<;>simp_all
  | some U=>
   cases W:aK tm z with
   | none=>rw[q,W]at h;simp only[sx,Hz]at h;(repeat' split at h)<;>simp_all
   | some z'=>
    rw[q,W]at h
    exact eV.same B (λQ m=>by simp only[execOp,d,m]) (Tm (aT C q) (aT C W) h)
 ·
  rename_i y st want ok d
  cases q:aK tm y with
  | none=>rw[q]at h;simp only[uv]at h;split at h<;>simp_all
  | some U=>
   rw[q]at h
   exact eV.same B (λQ m=>by simp only[execOp,d,m]) (C8 (st:=st) (aT C q) h)
 ·
  rename_i y i d
  cases q:aK tm y with
  | none=>rw[q]at h;simp[uM]at h
  | some U=>
   rw[q]at h
   exact eV.same B (λQ m=>by simp only[execOp,d,m]) (N0 (aT C q) h)
 ·
  rename_i c d
  split at h
  ·cases h
  ·rename_i args S
   split at h
   ·rename_i fo V
    split at h
    ·rename_i t T
     unfold Gd at T
     split at T
     ·rename_i fi
      obtain⟨fn,tR,f1,f2,f3,f4,f5⟩:=hov rfl fi t T
      have G:=nQ C S
      obtain⟨rfl,rfl,J⟩:=VN (P:=E.P) (tR:=tR) B G h
      have H:(c.args.toList.map a.eval).toArray=c.args.map a.eval:=by apply Hm;simp
      rw[H]at J
      have hex:(execOp a.eval o).run E.P w = .ok (.value (.bool false)) w:=by
       have h0:=run_callFunc_extern f1 f2 f3 f4 f5 (c.args.map a.eval) w
       rw[J]at h0
       simp only[Result.andThen_ok]at h0
       have e0:(#[]++c.args.map a.eval ++ #[]:Array Value)=c.args.map a.eval:=by simp
       simp[execOp,d,resolve,V,Act.eval,Deferred.ofValue,invoke,h0]
      exact eV.of_run hex (jJ.same B (.v rfl))
     ·cases T
    obtain⟨⟨x0,bs0⟩,h0,e⟩:=bN.1 h
    cases e
    exact(VV B C hq hpc d V S h0).mono λu w'=>jJ.BQ
   ·cases h
   ·rename_i b V
    have G:=nQ C S
    have J : ∀(s:Sem Value)(us:List Value),(c.args.map a.eval).toList=us->(∀D,builtin b c.argTypes o.type D us.toArray=(do pure (Next.value (<-s)))) ->
     ∀ {u w'},s.run E.P w = .ok u w'->(execOp a.eval o).run E.P w = .ok (.value u) w':=by
     intro s us X hb u w' hs
     have e1:c.args.map a.eval=us.toArray:=by rw[<-X]
     simp only[execOp,d,resolve,V,invoke,Sem.run_bind,Sem.run_pure,Result.andThen_ok,e1,hb,hs]
    have H:(c.args.map a.eval).toList=c.args.toList.map a.eval:=by simp
    unfold cN at h
    split at h
    ·rename_i r'
     obtain⟨u,O⟩:=Mg G.1.symm
     rw[O]at G
     have I:=G.2 0 (.mp r') u rfl rfl
     obtain⟨rfl,u',F,N⟩:=Qy (ty:=o.type) B I (PY.1 h).2
     exact eV.of_run (J _ [u] (by rw[H,O]) (λD=>rfl) F) (jJ.same B N)
    ·rename_i y hnm
     obtain⟨u,O⟩:=Mg G.1.symm
     rw[O]at G
     have I:=G.2 0 y u rfl rfl
     obtain⟨rfl,u',F,N⟩:=Yr (P:=E.P) (w:=w) (ty:=o.type) I h
     exact eV.of_run (J _ [u] (by rw[H,O]) (λD=>rfl) F) (jJ.same B N)
    ·obtain⟨hm,rfl⟩:=sw h
     obtain⟨u,us,X,u',F,N⟩:=KN (w:=w) G hm
     exact eV.of_run (J (us.foldlM Builtin.min2 u) (u :: us) (by rw[H,X]) (λD=>rfl) F) (jJ.same B N)
    ·obtain⟨hm,rfl⟩:=sw h
     obtain⟨u,us,X,u',F,N⟩:=KN (w:=w) G hm
     exact eV.of_run (J (us.foldlM Builtin.max2 u) (u :: us) (by rw[H,X]) (λD=>rfl) F) (jJ.same B N)
    ·rename_i y z
     obtain⟨u,v,O⟩:=Bk G.1.symm
     rw[O]at G
     obtain⟨u',w',F,N⟩:=QA (P:=E.P) (ty:=o.type) B hr R (G.2 0 y u rfl rfl) (G.2 1 z v rfl rfl) h
     exact eV.of_run (J _ [u,v] (by rw[H,O]) (λD=>rfl) F) N
    ·rename_i y
     obtain⟨u,O⟩:=Mg G.1.symm
     rw[O]at G
     have I:=G.2 0 y u rfl rfl
     obtain⟨rfl,u',F,N⟩:=Yt (P:=E.P) (w:=w) (ty:=o.type) I h
     exact eV.of_run (J _ [u] (by rw[H,O]) (λD=>rfl) F) (jJ.same B N)
    ·cases h
 ·cases h
theorem RA{H:aa}(p:iv M ι H.get w)(n:vM ι H)(f:TR M ι tm a){t:TypeId}{m k y:Operand}{x:AV}{H':aa}
 (j : ∀d:Operand->Value,execOp d o=(do Instr.mapUpdate t (d m) (d k) (d y);pure Next.skip))
 (h:dP E.P H t (aK tm m) (aK tm k) (aK tm y)=some (x,H')):eV E.P o a w λu w'=>wW M ι H w x H' u w':=by
 cases hm:aK tm m with
 | none=>rw[hm]at h;simp only[dP]at h;split at h<;>simp_all
 | some q=>
  cases c:aK tm k with
  | none=>rw[hm,c]at h;simp only[dP]at h;split at h<;>simp_all
  | some k'=>
   cases e:aK tm y with
   | none=>rw[hm,c,e]at h;simp only[dP]at h;split at h<;>simp_all
   | some v=>
    rw[hm,c,e]at h
    obtain⟨w',i,b⟩:=JO (P:=E.P) p n (aT f hm) (aT f c) (aT f e) h
    exact eV.G1 (by simp[j,i]) b
theorem WV{H:aa}{d tt:Nat}(I:iv M ι H.get w)(F:vM ι H)(G:TR M ι tm a){pc:FuncId->List AV->Option AV}(V : ∀f xs y,pc f xs=some y->gP E.P f xs y)
 {tc:yD->List AV->aa->dz} (X : ∀f xs H y H',tc f xs H=some (y,H')->rO E.P f xs H y H') {x:AV} {H':aa}
 (R:Sh o.op=false) (h:evalW E pc tc H tm ⟨d,tt,H.gen d tt,0⟩ o=some (x,H')):eV E.P o a w λu w'=>wW M ι H w x H' u w':=by
 unfold evalW at h
 split at h
 ·
  rename_i t y z i
  cases S:aK tm y with
  | none=>rw[S]at h;simp[nS]at h
  | some y'=>
   cases hz:aK tm z with
   | none=>rw[S,hz]at h;simp only[nS]at h;(repeat' split at h)<;>simp_all
   | some z'=>
    rw[S,hz]at h
    obtain⟨w',Q,j⟩:=Sv (P:=E.P) I F (aT G S) (aT G hz) h
    exact eV.G1 (by simp[execOp,i,Q]) j
 ·
  rename_i t m k y i
  exact RA I F G (λρ=>by simp[execOp,i]) h
 ·
  rename_i t m k y i
  exact RA I F G (λρ=>by simp[execOp,i]) h
 ·
  rename_i t m k i
  cases K:aK tm m with
  | none=>rw[K]at h;simp only[iY]at h;split at h<;>simp_all
  | some m'=>
   cases Z:aK tm k with
   | none=>rw[K,Z]at h;simp only[iY]at h;split at h<;>simp_all
   | some k'=>
    rw[K,Z]at h
    obtain⟨u,w',Q,j⟩:=Lt (P:=E.P) I F (aT G K) (aT G Z) h
    exact eV.of_run (by simp only[execOp,i];exact KF Q) j
 ·
  rename_i t m s y i
  cases K:aK tm m with
  | none=>rw[K]at h;simp[fR]at h
  | some m'=>
   cases T:aK tm s with
   | none=>rw[K,T]at h;simp[fR]at h
   | some s'=>
    cases S:aK tm y with
    | none=>rw[K,T,S]at h;simp[fR]at h
    | some y'=>
     rw[K,T,S]at h
     obtain⟨w',Q,j⟩:=HL (P:=E.P) (t:=t) I F (aT G K) (aT G T) (aT G S) h
     exact eV.G1 (by simp[execOp,i,Q]) j
 ·
  rename_i t n ps i
  cases U:jc tm ps.toList with
  | none=>rw[U]at h;simp[kH]at h
  | some vs=>
   rw[U]at h
   obtain⟨h1,h2⟩:=vC (ι:=ι) G U
   obtain⟨u,w',Q,j⟩:=HN (P:=E.P) (qs:=ps.map λ(p:Nat × Operand)=>(p.1,a.eval p.2)) I F h (by rw[vJ];exact h1) (by rw[vJ];exact h2)
   exact eV.of_run (by simp only[execOp,i];exact KF Q) j
 ·
  rename_i t n i
  unfold B6 at h
  split at h
  ·rename_i kd m b hn hb
   obtain⟨⟨h0,h1,h2⟩,h⟩:=fO.1 h
   cases h
   obtain⟨e,ht,hbe⟩:=iw.1 hb
   have U:=aT G hn
   generalize hev:a.eval n=nv at U
   cases U
   obtain⟨u,w',Q,j⟩:=L0 (P:=E.P) I rfl (F.fresh d tt 0) ht hbe kd m.toNat (by omega) h2
   have K:((m.toNat:Nat):Int)=m:=by omega
   rw[K]at Q
   exact eV.of_run (by simp only[execOp,i,hev];exact KF Q) (j.toW F)
  ·cases h
 ·rename_i i;rw[i]at R;cases R
 ·rename_i i;rw[i]at R;cases R
 ·
  rename_i c i
  split at h
  ·cases h
  ·rename_i args D
   split at h
   ·rename_i fo Y
    rcases M8 h with h | ⟨H1,rfl,h,hfl,B⟩
    ·exact Nb I F G V X i Y D h
    ·exact(Nb I F G V X i Y D h).mono λu w' hw=>Tj I F hfl B hw
   ·cases h
   ·rename_i b Y
    have C:=nQ G D
    have L : ∀(s:Sem Value)(us:List Value),(c.args.map a.eval).toList=us->(∀q,builtin b c.argTypes o.type q us.toArray=(do pure (Next.value (<-s)))) ->
     ∀ {u w'},s.run E.P w = .ok u w'->(execOp a.eval o).run E.P w = .ok (.value u) w':=by
     intro s us hus hb u w' T
     have e1:c.args.map a.eval=us.toArray:=by rw[<-hus]
     simp only[execOp,i,resolve,Y,invoke,Sem.run_bind,Sem.run_pure,Result.andThen_ok,e1,hb,T]
    have B:(c.args.map a.eval).toList=c.args.toList.map a.eval:=by simp
    split at h
    ·rename_i y z
     obtain⟨u,v,J⟩:=Bk C.1.symm
     rw[J]at C
     obtain⟨u',w',N,O⟩:=P2 (P:=E.P) (ty:=o.type) I F (C.2 0 y u rfl rfl) (C.2 1 z v rfl rfl) h
     exact eV.of_run (L _ [u,v] (by rw[B,J]) (λq=>rfl) N) O
    ·rename_i y z
     obtain⟨u,v,J⟩:=Bk C.1.symm
     rw[J]at C
     cases W:E.wide o with
     | true=>
      rw[W]at h
      simp only[cond_true]at h
      obtain⟨u',w',N,O⟩:=Sw (P:=E.P) (ty:=o.type) I F (C.2 0 y u rfl rfl) (C.2 1 z v rfl rfl) h
      exact eV.of_run (L _ [u,v] (by rw[B,J]) (λq=>rfl) N) O
     | false=>
     rw[W]at h
     simp only[cond_false]at h
     obtain⟨u',w',N,O⟩:=UA (P:=E.P) (ty:=o.type) I F (C.2 0 y u rfl rfl) (C.2 1 z v rfl rfl) h
     exact eV.of_run (L _ [u,v] (by rw[B,J]) (λq=>rfl) N) O
    ·cases h
 ·cases h
structure Bo (M:Mem) (ι:Map) (st:St) (nt:Nat) (a:Act) (w:World):Prop where
 sim:iv M ι st.hp.get w
 dom:vM ι st.hp
 tr:TR M ι st.tm a
 nt:a.tmps.size=nt
def lD(M:Mem)(ι:Map)(st:St)(a:Act)(w:World)(nt:Nat)(b:St)(c:Act)(w':World):Prop:=
 (∃M' A,Bo M' A b nt c w'/\vp M ι st.hp.get w M' A b.hp.get w')/\c.defers=a.defers
theorem lD.refl{st nt}(h:Bo M ι st nt a w):lD M ι st a w nt st a w:=⟨⟨M,ι,h,vp.refl⟩,rfl⟩
theorem FF{st i:St}{nt dep:Nat}{d:Bool}{ops:Array Oper}(c:Bo M ι st nt a w){pc:FuncId->List AV->Option AV}(n : ∀f xs y,pc f xs=some y->gP E.P f xs y)
 {tc:yD->List AV->aa->dz} (J : ∀f xs H y H',tc f xs H=some (y,H')->rO E.P f xs H y H') (I:d=false ->∀f t,E.tz f=some t->B3 E.P f t) (C:d=true\/Sh o.op=false) (h:evalOp E pc tc nt dep d ops o st=some i)
 {ro:Option Nat} {K:Act->World->Prop} {Q:Exit->Act->World->Prop} (z : ∀L w',lD M ι st a w nt i L w'->K L w') :
 if Region.wanted o (yielded ops a.tmps) then o.wpIn (FW ro) 0 E.P a w K Q else K (a.put o.dst undef) w:=by
 unfold evalOp at h
 split at h
 ·cases h
 ·rename_i F
  rw[lE c.tr F]
  simp only[bN]at h
  obtain⟨tm',b,rfl⟩:=h
  obtain⟨G,D⟩:=c.tr.put c.nt b (u:=undef) (.v rfl)
  simp only[mr,if_false]
  exact z _ _ ⟨⟨M,ι,⟨c.sim,c.dom,G,D⟩,vp.refl⟩,put_defers _ _ _⟩
 ·rename_i F
  rw[lE c.tr F]
  simp only[if_true]
  have p : ∀ {x:AV} {H':aa} {tm':List AV},eV E.P o a w (λu w'=>wW M ι st.hp w x H' u w')->dt nt st.tm o.dst x=some tm'->i=⟨tm',H'⟩->o.wpIn (FW ro) 0 E.P a w K Q:=by
   intro x H' tm' e b O
   subst O
   refine e ro K Q λu w' ⟨M',A,G,D,h3,h4⟩=>z _ _ ?_
   obtain⟨N,R⟩:=(c.tr.mono h3.mem h3.map).put c.nt b G
   exact⟨⟨M',A,⟨D,h4,N,R⟩,h3⟩,put_defers _ _ _⟩
  split at h
  ·rename_i x S B
   simp only[bN]at h
   obtain⟨tm',b,rfl⟩:=h
   have:=zw (E:=E) (o:=o) c.sim c.tr rfl (λk=>c.dom.fresh dep (o.dst.getD 0) k) n I B
   exact p (λro K Q z=>this ro K Q λu w' m=>z u w' (m.toW c.dom)) b rfl
  ·split at h
   ·cases h
   ·rename_i q
    split at h
    ·rename_i x H' B
     simp only[bN]at h
     obtain⟨tm',b,rfl⟩:=h
     have j:Sh o.op=false:=by
      rcases C with rfl | j
      ·simp only[nX,dN,Bool.not_eq_false]at q
       cases e:o.op<;>first | rfl | (simp[jC,wOp,Cv,e]at q)
      ·exact j
     exact p (WV (E:=E) (o:=o) c.sim c.dom c.tr n J j B) b rfl
    ·cases h
end
end
section
section
variable{E:Env}{M:Mem}{ι:Map}{w:World}{a:Act}
theorem lD.trans{st c d:St}{nt:Nat}{i m:Act}{f n:World}(h:lD M ι st a w nt c i f)(u : ∀e b,Bo e b c nt i f->lD e b c i f nt d m n):lD M ι st a w nt d m n:=by
 obtain⟨⟨e,b,v,t⟩,q⟩:=h
 obtain⟨⟨M2,j,p,x⟩,y⟩:=u e b v
 exact⟨⟨M2,j,p,t.trans x⟩,y.trans q⟩
theorem Ms{o:Oper}{st n:St}{nt dep:Nat}{ops:Array Oper}{i:Nat}(d:Bo M ι st nt a w){pc:FuncId->List AV->Option AV}(S : ∀f xs y,pc f xs=some y->gP E.P f xs y)
 {tc:yD->List AV->aa->dz} (X : ∀f xs H y H',tc f xs H=some (y,H')->rO E.P f xs H y H') (V : ∀f t,E.tz f=some t->B3 E.P f t) (h:evalOp E pc tc nt dep false ops o st=some n) (J:ops[i]?=some o)
 (b:Frame) (rest:List Nat) (k:List Item) (cs:List Frame) :
 ∃z w',lD M ι st a w nt n z w'/\(b.kind = .normal->Steps E.P (lone (b.atR a (.inRegion ops (i :: rest) :: k)) cs w) (lone (b.atR z (.inRegion ops rest :: k)) cs w')):=by
 have G:Region.wanted o (yielded ops a.tmps)=false->Steps E.P (lone (b.atR a (.inRegion ops (i :: rest) :: k)) cs w) (lone (b.atR (a.put o.dst undef) (.inRegion ops rest :: k)) cs w):=by
  intro q
  have Z:=stepR_op_skip (P:=E.P) (b:=b) (a:=a) (k:=k) (cs:=cs) (w:=w) (ops:=ops) (i:=i) (rest:=rest) (by simp[J,q])
  simp only[J,fN]at Z
  exact .one Z
 cases p:Sh o.op with
 | false=>
  have B:=FF (E:=E) (ro:=b.roundOf) (Q:=λ_ _ _=>False) d S X (λ_=>V) (.inr p) h (K:=λz w'=>lD M ι st a w nt n z w') λz w' h=>h
  by_cases q:Region.wanted o (yielded ops a.tmps)=true
  ·rw[if_pos q]at B
   obtain⟨z,w',I,D⟩:=YD J q b B rest k cs
   exact⟨z,w',I,λ_=>D⟩
  ·rw[if_neg q]at B
   exact⟨_,_,B,λ_=>G (by simpa using q)⟩
 | true=>
  unfold evalOp at h
  split at h
  ·cases h
  ·rename_i q
   have C:=lE d.tr q
   simp only[bN]at h
   obtain⟨tm',j,rfl⟩:=h
   obtain⟨B,I⟩:=d.tr.put d.nt j (u:=undef) (.v rfl)
   exact⟨_,_,⟨⟨M,ι,⟨d.sim,d.dom,B,I⟩,vp.refl⟩,put_defers _ _ _⟩,λ_=>G C⟩
  ·rename_i q
   have C:=lE d.tr q
   have L : ∀ {x:AV} {H':aa} {tm':List AV},JH E.P o a w (λu w'=>wW M ι st.hp w x H' u w')->dt nt st.tm o.dst x=some tm'->n=⟨tm',H'⟩ ->
    ∃z w',lD M ι st a w nt n z w'/\(b.kind = .normal->Steps E.P (lone (b.atR a (.inRegion ops (i :: rest) :: k)) cs w) (lone (b.atR z (.inRegion ops rest :: k)) cs w')):=by
    intro x H' tm' e j he
    subst he
    by_cases Y:b.kind = .normal
    ·obtain⟨u,w',⟨M',A,B,I,D,U⟩,N⟩:=e b k cs ops i rest Y J C
     obtain⟨O,W⟩:=(d.tr.mono D.mem D.map).put d.nt j B
     exact⟨_,_,⟨⟨M',A,⟨I,U,O,W⟩,D⟩,put_defers _ _ _⟩,λ_ => .one N⟩
    ·obtain⟨u,w',⟨M',A,B,I,D,U⟩,N⟩:=e { b with kind := .normal} k cs ops i rest rfl J C
     obtain⟨O,W⟩:=(d.tr.mono D.mem D.map).put d.nt j B
     exact⟨_,_,⟨⟨M',A,⟨I,U,O,W⟩,D⟩,put_defers _ _ _⟩,λh=>absurd h Y⟩
   have R:cz E pc false st.hp.get st.tm ⟨dep,o.dst.getD 0,st.hp.gen dep (o.dst.getD 0),0⟩ o=none:=by
    unfold cz
    cases e:o.op<;>rw[e]at p<;>first | rfl | (cases p)
   rw[R]at h
   simp only[yM,mr,if_false]at h
   split at h
   ·rename_i x H' m
    simp only[bN]at h
    obtain⟨tm',j,rfl⟩:=h
    unfold evalW at m
    cases e:o.op<;>rw[e]at p m<;>try (cases p;done)
    ·rename_i c y
     simp only at m
     cases F:aK st.tm c with
     | none=>rw[F]at m;simp[HJ]at m
     | some c'=>
      cases T:aK st.tm y with
      | none=>rw[F,T]at m;simp[HJ]at m
      | some y'=>
       rw[F,T]at m
       exact L (Uy d.sim d.dom e (aT d.tr F) (aT d.tr T) m) j rfl
    ·rename_i t c okb
     simp only at m
     cases F:aK st.tm c with
     | none=>rw[F]at m;simp[Kp]at m
     | some c'=>
      rw[F]at m
      exact L (Uz d.sim d.dom e (aT d.tr F) m) j rfl
   ·cases h
theorem LR{pc:FuncId->List AV->Option AV}(q : ∀f xs y,pc f xs=some y->gP E.P f xs y)
 {tc:yD->List AV->aa->dz} (B : ∀f xs H y H',tc f xs H=some (y,H')->rO E.P f xs H y H') (z : ∀f t,E.tz f=some t->B3 E.P f t) {nt dep:Nat} {ops:Array Oper} {d:St} (b:Frame) (k:List Item) (cs:List Frame) :
 ∀(l c:List Oper)(st:St)(M:Mem)(ι:Map)(a:Act)(w:World),ops.toList=c++l->nU E pc tc nt dep false ops l st=some d->Bo M ι st nt a w ->
  ∃J w',lD M ι st a w nt d J w'/\(b.kind = .normal->Steps E.P (lone (b.atR a (.inRegion ops (List.range' c.length l.length) :: k)) cs w) (lone (b.atR J (.inRegion ops [] :: k)) cs w')):=by
 intro l
 induction l with
 | nil=>
  intro c st M ι a w _ h C
  simp only[nU,dT]at h
  subst h
  exact⟨a,w,lD.refl C,λ_=>Steps.refl _ _⟩
 | cons o l O=>
  intro c st M ι a w G h C
  simp only[nU]at h
  split at h
  ·rename_i n S
   have K:ops[c.length]?=some o:=by
    rw[<-Ko,G];simp
   obtain⟨U,N,e,p⟩:=Ms C q B z S K b (List.range' (c.length+1) l.length) k cs
   obtain⟨⟨Q,i,u,v⟩,L⟩:=e
   obtain⟨R,T,⟨⟨M2,D,j,x⟩,V⟩,m⟩:=O (c++[o]) n Q i U N (by simp[G]) h u
   refine⟨R,T,⟨⟨M2,D,j,v.trans x⟩,V.trans L⟩,λF=>?_⟩
   have I:=m F
   simp only[pH,sc,Hf,vQ]at I
   rw[sc,List.range'_succ]
   exact(p F).trans I
  ·cases h
theorem LX{pc:FuncId->List AV->Option AV}(e : ∀f xs y,pc f xs=some y->gP E.P f xs y)
 {tc:yD->List AV->aa->dz} (j : ∀f xs H y H',tc f xs H=some (y,H')->rO E.P f xs H y H') (i : ∀f t,E.tz f=some t->B3 E.P f t) {nt dep id:Nat} {ops:Array Oper} {st c:St} (b:Frame) (k:List Item) (cs:List Frame)
 (h:nU E pc tc nt dep false ops ops.toList st=some c) (q:Bo M ι st nt a w) :
 ∃d w',lD M ι st a w nt c d w'/\(b.kind = .normal->Steps E.P (lone (b.atR a (.code (.region id ops false) :: k)) cs w) (lone (b.atR d k) cs w')):=by
 obtain⟨d,w',p,n⟩:=LR e j i b k cs ops.toList [] st M ι a w rfl h q
 refine⟨d,w',p,λm=>Steps.trans (.one ?_) (Steps.trans (n m) (.one stepR_region_end))⟩
 have:=stepR_region (P:=E.P) (b:=b) (a:=a) (k:=k) (cs:=cs) (w:=w) (id:=id) (ops:=ops)
 simpa [PL] using this
structure Env.Ok (E:Env) (ok:Array Oper->Bool):Prop where
 fns : ∀f,E.allowed f=true ->∃fn,E.P.funcs[f]?=some fn/\(fn.name == "runtime.NumGoroutine")=false /\∀c,fn.body=some c->codeOk ok c=true
 specs : ∀f args y,E.spec f args=some y->gP E.P f args y
 same:E.ok=ok
 overs : ∀f t,E.tz f=some t->B3 E.P f t
 thrs : ∀f args H y H',E.thrSpec f args H=some (y,H')->rO E.P (.fn f) args H y H'
 draws : ∀(ops:Array Oper),ok ops=true ->∀ {pc:FuncId->List AV->Option AV},(∀f xs y,pc f xs=some y->gP E.P f xs y) ->
  ∀ {tc:yD->List AV->aa->dz},(∀f xs H y H',tc f xs H=some (y,H')->rO E.P f xs H y H') ->∀(nt dep id:Nat)(st st':St)(M:Mem)(ι:Map)(a:Act)(w:World)(ro:Option Nat)(Q:Exit->Act->World->Prop),
  nU E pc tc nt dep true ops ops.toList st=some st'->uy E ops st'=true->Bo M ι st nt a w->(∀a' w',lD M ι st a w nt st' a' w'->Q .normal a' w')->(Code.region id ops true).wpIn (FW ro) 0 E.P Q a w
theorem K1{ok:Array Oper->Bool}{id:Nat} : ∀ {k k':List Item},exitTo id k=some k'->(∀i∈k,o3 ok i=true) ->∀i∈k',o3 ok i=true:=by
 intro k
 induction k with
 | nil=>intro k' h;simp[exitTo]at h
 | cons x k c=>
  intro k' h e
  have b : ∀i∈k,o3 ok i=true:=λi d=>e i (iA _ d)
  cases x with
  | inBlock f=>
   simp only[exitTo]at h
   split at h
   ·injection h with h;subst h;exact b
   ·exact c h b
  | _=>exact c (by simpa [exitTo] using h) b
theorem abg{P:Program}{ro:Option Nat}{m b:Machine}(h:StepsIn (Machine.fenced P (FW ro)) P m b):Steps P m b:=StepsIn.steps h
theorem Ns{P:Program}{c:Code}{a:Act}{w:World}{R:Act->World->Prop}(b:Frame)(h:c.wpIn (FW b.roundOf) 0 P (λe a w=>e = .normal/\R a w) a w)(k:List Item)(cs:List Frame) :
 ∃f w',R f w'/\Steps P (lone (b.atR a (.code c :: k)) cs w) (lone (b.atR f k) cs w'):=by
 obtain⟨e,f,w',⟨he,i⟩,d⟩:=h b k cs rfl trivial (λ_ h=>by simp[FW,Fence.wide]at h)
 subst he
 exact⟨f,w',i,abg d⟩
theorem Ww{H:aa}{r:Ref}{n:Nat}{b:AV}(h:As H r=some (n,b)) : ∃st a f,H.get r=some ⟨0,[.v (.int .i64 st),b],a,f⟩/\st.toNat=n:=by
 unfold As at h
 split at h
 ·rename_i st c a f d
  cases h
  exact⟨st,a,f,d,rfl⟩
 ·cases h
structure Xo (r r':Loop):Prop where
 tmps:r'.tmps=r.tmps
 params:r'.params=r.params
 assign:r'.assign=r.assign
 body:r'.body=r.body
theorem Cl{H:aa}{r:Ref}{l:Loc}{n:Nat}{m:AV}(F:iv M ι H.get w)(hD:vM ι H)(W:ι r=some l)(ha:As H r=some (n,m)) :
 ∃nt ps assign body tm y,m = .lp 0 nt ps assign body tm/\w.heap[l.b]?=some (.loop y)/\y.params=ps.toArray/\y.assign=assign/\y.body=body/\y.tmps.size=nt/\(∀t,VR M ι (dJ tm t) (y.tmps.getD t undef))/\D1 n y /\
  (∀G c,Xo y c->D1 G c->iv M ι (H.put r (some (kV G m))).get (bX w l.b (.loop c))/\vp M ι H.get w M ι (H.put r (some (kV G m))).get (bX w l.b (.loop c))/\vM ι (H.put r (some (kV G m)))) /\
  ∀c,iv M ι (H.put r none).get (bX w l.b (.loop c))/\vp M ι H.get w M ι (H.put r none).get (bX w l.b (.loop c))/\vM ι (H.put r none):=by
 obtain⟨st,a,f,J,hst⟩:=Ww ha
 obtain⟨l',T,hb⟩:=F.live r _ J
 rw[W]at T;cases T
 rcases hb.objOk rfl with ⟨n0,nt,ps,as,bd,tm,y,Y,X,B,K,U,h6,h7,h8,h9,h10⟩ | ⟨_,_,_,_,B,_⟩ | ⟨_,_,_,_,_,_,_,_,B,_⟩
 case inr.inl=>simp at B
 case inr.inr=>simp at B
 simp only[AO,AV.v.injEq,Value.int.injEq,true_and,and_true]at B
 obtain⟨e1,e2⟩:=B
 subst e2
 have hn:n0=n:=by rw[<-hst,e1];simp
 subst hn
 have hlt:l.b<w.heap.size:=(iR.1 K).1
 have hM : ∀o x,M l.b o=some x->False:=by
  intro o x V
  have:=F.mem _ _ _ V
  simp[World.cell?,K]at this
 have hlz:l.esz=0:=hb.esz
 have i : ∀c b',∀q k,(H.put r b').get q=some k->q≠r ->∃j,ι q=some j/\pP M ι (bX w l.b (.loop c)) j k:=by
  intro c b' q k d z
  rw[aa.get_put,if_neg z]at d
  obtain⟨j,S,Q⟩:=F.live q k d
  have hnb:l.b≠j.b:=λe=>z (F.inj q r k _ j l d J S W e.symm)
  exact⟨j,S,Q.bQ (λ_ _ _ h=>h) (λ_ _ h=>h) (eN hnb) Q.frozen⟩
 have C : ∀c,∀b o x,M b o=some x->(bX w l.b (.loop c)).cell? ⟨b,o,none⟩=some x:=by
  intro c b o x V
  have z:l.b≠b:=λe=>hM o x (e ▸ V)
  rw[World.cell?_of_block (w:=w) (eN z)]
  exact F.mem b o x V
 have p : ∀(b':Option bw) q k,(H.put r b').get q=some k ->∃L,H.get q=some L:=by
  intro b' q k d
  rw[aa.get_put]at d
  split at d
  ·rename_i e;exact⟨_,e ▸ J⟩
  ·exact⟨k,d⟩
 have N : ∀(b':Option bw) q D k k' j Z,(H.put r b').get q=some k->(H.put r b').get D=some k'->ι q=some j->ι D=some Z->j.b=Z.b->q=D:=by
  intro b' q D k k' j Z Y X B K U
  obtain⟨L,g1⟩:=p b' q k Y
  obtain⟨k1,g2⟩:=p b' D k' X
  exact F.inj q D L k1 j Z g1 g2 B K U
 have fwd : ∀(b':Option bw) c,vp M ι H.get w M ι (H.put r b').get (bX w l.b (.loop c)):=by
  intro b' c
  refine⟨rfl,rfl,rfl,by simp[bX],λb _ hno=>eN (hno r _ l J W),λ_ _ _ h=>h,λ_ _ h=>h,λq k j Y X=>?_,λ_ _ _ h => .inl h⟩
  obtain⟨L,g1⟩:=p b' q k Y
  exact .inr ⟨q,L,j,g1,X,rfl⟩
 have O : ∀b':Option bw,vM ι (H.put r b'):=by
  intro b' q lq d
  rw[aa.np _ _ _ (by rw[J];rfl)]
  exact hD q lq d
 refine⟨nt,ps,as,bd,tm,y,rfl,K,U,h6,h7,h8,h9,h10,λG c I R=>⟨⟨C c,λq k d=>?_,N _⟩,fwd _ c,O _⟩,λc=>⟨⟨C c,λq k d=>?_,N _⟩,fwd _ c,O _⟩⟩
 ·by_cases u:q=r
  ·subst u
   rw[aa.get_put,if_pos rfl]at d
   cases d
   refine⟨l,W,oB.Xa (.inl ⟨G,nt,ps,as,bd,tm,c,rfl,rfl,rfl,gA hlt,by rw[I.params];exact U,by rw[I.assign];exact h6,by rw[I.body];exact h7,by rw[I.tmps];exact h8,by rw[I.tmps];exact h9,R⟩) hlz hM⟩
  ·exact i c _ q k d u
 ·by_cases u:q=r
  ·rw[aa.get_put,if_pos u]at d
   cases d
  ·exact i c _ q k d u
theorem Wx{H:aa}{d nt:Nat}{tm:List AV}{a:Act}{ps:Array Tmp}{assign body:Code}{fn:FuncId}(C:iv M ι H.get w)(R:vM ι H)(hT:TR M ι tm a)(hn:a.tmps.size=nt){p:World}
 (G:p=(w.alloc (.deferred (some []))).alloc (.loop { state := .ready,pending:=none,fn,tmps:=a.tmps,params:=ps,assign,body,defers:=w.heap.size})) :
 let r:Ref:=⟨d,nt,H.gen d nt,0⟩
 let c:=kS ι r ⟨w.heap.size+1,0,0⟩
 iv M c (aa.get ((r,some (kV 0 (.lp 0 nt ps.toList assign body tm))) :: H)) p/\vp M ι H.get w M c (aa.get ((r,some (kV 0 (.lp 0 nt ps.toList assign body tm))) :: H)) p /\
  vM c ((r,some (kV 0 (.lp 0 nt ps.toList assign body tm))) :: H)/\p.heap[w.heap.size]?=some (.deferred (some [])):=by
 intro r c
 have V:ι r=none:=R.fresh d nt 0
 have n:=GS (l:=⟨w.heap.size+1,0,0⟩) V
 have f:p.heap=(w.heap.push (.deferred (some []))).push (.loop { state := .ready,pending:=none,fn,tmps:=a.tmps,params:=ps,assign,body,defers:=w.heap.size}):=by rw[G];rfl
 have m : ∀b,b<w.heap.size->p.heap[b]?=w.heap[b]?:=by
  intro b L
  rw[f,FZ (by simp;omega),<-ku,FZ L,<-ku]
 have N:p.heap[w.heap.size]?=some (.deferred (some [])):=by rw[f,FZ (by simp),<-ku];simp
 have K:p.heap[w.heap.size+1]?=some (.loop { state := .ready,pending:=none,fn,tmps:=a.tmps,params:=ps,assign,body,defers:=w.heap.size}):=by rw[f,Array.getElem?_push];simp
 have u : ∀b o x,M b o=some x->b<w.heap.size:=λb o x h=>World.block_lt_of_cell? w ⟨b,o,none⟩ (C.mem b o x h)
 have j : ∀q,aa.get ((r,some (kV 0 (.lp 0 nt ps.toList assign body tm))) :: H) q=if r=q then some (kV 0 (.lp 0 nt ps.toList assign body tm)) else H.get q:=λq=>rfl
 refine⟨⟨λb o x h=>?_,λq k h=>?_,λq Z k k' i T D y Y X U=>?_⟩,⟨by rw[G];rfl,by rw[G];rfl,by rw[G];rfl,by rw[f];simp;omega,λb L _=>m b L,λ_ _ _ h=>h,n,λq k i D y=>?_,λ_ _ _ h => .inl h⟩,λq i h=>?_,N⟩
 ·rw[World.cell?_of_block (w:=w) (m b (u b o x h))]
  exact C.mem b o x h
 ·rw[j]at h
  split at h
  ·rename_i e
   subst e
   cases h
   refine⟨⟨w.heap.size+1,0,0⟩,by simp[c,kS],oB.Xa (.inl ⟨0,nt,ps.toList,assign,body,tm,_,rfl,rfl,rfl,K,by simp,rfl,rfl,hn,λt=>(hT.at_ t).mono (λ_ _ _ h=>h) c n,⟨rfl,rfl⟩⟩) rfl ?_⟩
   intro o x W
   have:=u _ _ _ W
   simp only at this
   omega
  ·obtain⟨i,J,v⟩:=C.live q k h
   exact⟨i,n q i J,v.bQ (λ_ _ _ h=>h) n (m _ v.lt) v.frozen⟩
 ·have one : ∀ {q:Ref} {k i},aa.get ((r,some (kV 0 (.lp 0 nt ps.toList assign body tm))) :: H) q=some k->c q=some i->(q=r/\i.b=w.heap.size+1)\/(q≠r/\H.get q=some k/\ι q=some i/\i.b<w.heap.size):=by
   intro q k i h z
   rw[j]at h
   split at h
   ·rename_i e
    subst e
    simp only[c,kS,if_true]at z
    cases z
    exact .inl ⟨rfl,rfl⟩
   ·rename_i e
    simp only[c,kS]at z
    rw[if_neg (tP e)]at z
    obtain⟨T,B,I⟩:=C.live q k h
    rw[z]at B;cases B
    exact .inr ⟨tP e,h,z,I.lt⟩
  rcases one D Y with ⟨Q,S⟩ | ⟨Q,S,e3,e4⟩<;>rcases one y X with ⟨f1,f2⟩ | ⟨f1,f2,f3,f4⟩
  ·rw[Q,f1]
  ·omega
  ·omega
  ·exact C.inj q Z k k' i T S f2 e3 f3 U
 ·rw[j]at D
  simp only[c,kS]at y
  split at D
  ·rename_i e
   rw[if_pos e.symm]at y
   cases y
   exact .inl (EX _)
  ·rename_i e
   rw[if_neg (tP e)]at y
   exact .inr ⟨q,k,i,D,y,rfl⟩
 ·simp only[c,kS]at h
  simp only[aa.gen]
  by_cases F:q=r
  ·subst F
   rw[if_pos ⟨rfl,rfl⟩]
   exact sa _
  ·rw[if_neg F]at h
   have:=R q i h
   split
   ·rename_i O;rw[<-O.1,<-O.2]at this;exact Hg this
   ·exact this
theorem SC : ∀(args:List AV)(t:Nat),dJ args t=(args[t]?).getD AV.undef:=by
 intro args
 induction args with
 | nil=>intro t;simp[dJ]
 | cons x l b=>
  intro t
  cases t with
  | zero=>simp[dJ]
  | succ t=>simp[dJ,b]
def Yi(tmps:Array Value):ResultVar->Sem Value
 | .tmp t=>pure (tmps.getD t undef)
 | .cell b t=>asAddr (tmps.getD b undef) >>= λx=>loadVar t x
theorem Qr(fn:Func)(tmps:Array Value):results fn tmps=fn.results.mapM (Yi tmps) >>= λb=>pure (if h:b.size=1 then b[0] else .tuple b):=by
 unfold results
 congr 1
theorem Qq{fn:Func}{st:St}{nt:Nat}(I:Bo M ι st nt a w){x:AV}(h:zi E.P fn st=some x) : ∃v,(results fn a.tmps).run E.P w = .ok v w/\VR M ι x v:=by
 have one : ∀(F:ResultVar)(y:AV),lW E.P st F=some y ->∃v,(Yi a.tmps F).run E.P w = .ok v w/\VR M ι y v:=by
  intro F y p
  cases F with
  | tmp t=>
   simp only[lW,dT]at p
   subst p
   exact⟨_,rfl,I.tr.at_ t⟩
  | cell b t=>
   simp only[lW]at p
   split at p
   ·rename_i r i j g n S T R
    split at p
    ·rename_i k K
     have G:=I.tr.at_ b
     rw[S]at G
     obtain⟨v,q,m⟩:=R0 T R I.sim G K p
     refine⟨v,?_,m⟩
     simp only[Yi]
     generalize a.tmps.getD b undef=u at G q ⊢
     cases G
     simpa [asAddr,Instr.loadAt,Instr.sureAddr] using q
    ·cases p
   ·cases p
 have D : ∀(rs:List ResultVar)(ys:List AV),rs.mapM (lW E.P st)=some ys ->∃f,(rs.mapM (Yi a.tmps)).run E.P w = .ok f w/\mA M ι ys f:=by
  intro rs
  induction rs with
  | nil=>intro ys h;simp at h;subst h;exact⟨[],rfl,mA.nil⟩
  | cons r rs Q=>
   intro ys h
   simp only[nY,uF,vf,iw]at h
   obtain⟨y,p,H,d,h⟩:=h
   simp at h
   subst h
   obtain⟨v,q,m⟩:=one r y p
   obtain⟨f,J,U⟩:=Q H d
   refine⟨v :: f,?_,mA.cons m U⟩
   rw[nY]
   simp only[Sem.run_bind,q,Result.andThen_ok,J,Sem.run_pure]
 unfold zi at h
 have z : ∀ys,fn.results.toList.mapM (lW E.P st)=some ys ->∃f:List Value,(results fn a.tmps).run E.P w = .ok (if h:f.toArray.size=1 then f.toArray[0] else .tuple f.toArray) w/\mA M ι ys f:=by
  intro ys d
  obtain⟨f,q,m⟩:=D _ ys d
  refine⟨f,?_,m⟩
  rw[Qr]
  simp only[Array.mapM_eq_mapM_toList,Sem.run_bind,Sem.run_map,q,Result.andThen_ok,Sem.run_pure]
 split at h
 ·rename_i d
  injection h with h
  subst h
  obtain⟨f,q,m⟩:=z _ d
  have:f=[]:=Dy (by rw[<-m.1];rfl)
  subst this
  exact⟨_,q,.v rfl⟩
 ·rename_i y d
  injection h with h
  subst h
  obtain⟨f,q,m⟩:=z _ d
  obtain⟨v,rfl⟩:=Mg m.1.symm
  exact⟨v,by simpa using q,m.2 0 y v rfl rfl⟩
 ·rename_i ys C B d
  injection h with h
  subst h
  obtain⟨f,q,m⟩:=z _ d
  have N:f.length≠1:=by
   intro h
   rw[<-m.1]at h
   obtain⟨y,p⟩:=Mg h
   exact B y p
  refine⟨.tuple f.toArray,?_,.tup ?_ (by simpa using m.1) λi c u L O=>m.2 i c u L (by simpa using O)⟩
  ·rw[q,dif_neg (by simpa using N)]
  ·intro e
   exact C e
 ·cases h
def marks(ds:List Nat):List Deferred:=ds.map λD => { target := .collected D,args := #[]}
def tq(w w':World)(ds:List Nat):Prop:=ds.Nodup /\∀D∈ds,w.heap.size<=D/\w'.heap[D]?=some (.deferred (some []))
theorem IZ{M:Mem}{ι:Map}{g:cX}{w:World}(j:iv M ι g w){D:Nat}{x:Option (List Deferred)}(h:w.heap[D]?=some (.deferred x)) : ∀r k l,g r=some k->ι r=some l->l.b≠D:=by
 intro r k l m n e
 obtain⟨p,d,i⟩:=j.live r k m
 rw[n]at d;cases d
 rcases Kn k.esz with f | f
 ·rcases(i.objOk f).obj with ⟨_,c⟩ | ⟨_,_,c⟩ | ⟨_,_,_,_,_,_,c⟩
  ·rw[e,h]at c;cases c
  ·rw[e,h]at c;cases c
  ·rw[e,h]at c;cases c
 ·obtain⟨_,_,_,c,_⟩:=(i.cellsOk f).heap
  rw[e,h]at c;cases c
theorem tq.fwd{w c d:World}{ds:List Nat}{M1 ι1 g1 M2 ι2 g2}(h:tq w c ds)(f:iv M1 ι1 g1 c)(i:vp M1 ι1 g1 c M2 ι2 g2 d):tq w d ds:=
 ⟨h.1,λD e=>⟨(h.2 D e).1,by
  have b:=(h.2 D e).2
  rw[i.chg D (iR.1 b).1 (IZ f b)]
  exact b⟩⟩
theorem tq.append{w i j:World}{ds c:List Nat}(q:w.heap.size<=i.heap.size)(h:tq w j ds)(n : ∀D∈ds,D<i.heap.size)(d:tq i j c):tq w j (c++ds):=by
 refine⟨PA.2 ⟨d.1,h.1,λa m b p e=>?_⟩,λD t=>?_⟩
 ·have:=(d.2 a m).1
  have:=n b p
  omega
 ·rcases oH.1 t with f | f
  ·exact⟨Cy q (d.2 D f).1,(d.2 D f).2⟩
  ·exact h.2 D f
def GP(P:Program)(rd:Option Ref)(M:Mem)(ι:Map)(st:St)(a:Act)(w:World)(nt:Nat)(d:St)(b:Frame)(cs:List Frame)(m:Machine):Prop:=match rd with
 | none=>b.roundOf=none->b.kind = .normal ->∃i w' f ds,(∃M' A,Bo M' A d nt i w'/\vp M ι st.hp.get w M' A d.hp.get w')/\i.defers=marks ds++a.defers/\tq w w' ds /\
  Steps P m (lone { b.atR i f with mode := .returning} cs w')
 | some r =>∀l c e,ι r=some l->b.roundOf=some l.b->b.kind = .normal->cs=c :: e ->∃n h w',As d.hp r=some (n,h)/\n≠1 /\
  (∃M' A,iv M' A d.hp.get w'/\vp M ι st.hp.get w M' A d.hp.get w'/\vM A d.hp)/\Steps P m (lone (c.finish (.bool (n == 0))) e w')
theorem GP.of_steps{P:Program}{rd:Option Ref}{M x:Mem}{ι e:Map}{st d i:St}{a K:Act}{w q:World}{nt:Nat}{b:Frame}{cs:List Frame}{m J:Machine}{ds:List Nat}
 (I:b.roundOf=none\/rd≠none->b.kind = .normal->Steps P m J) (z:iv x e d.hp.get q) (u:vp M ι st.hp.get w x e d.hp.get q) (S:K.defers=marks ds++a.defers) (G:tq w q ds) (h:GP P rd x e d K q nt i b cs J):GP P rd M ι st a w nt i b cs m:=by
 unfold GP at h ⊢
 cases rd with
 | none=>
  intro t j
  obtain⟨O,w',todo,F,⟨M',A,Q,p⟩,C,y,f⟩:=h t j
  refine⟨O,w',todo,F++ds,⟨M',A,Q,u.trans p⟩,?_,(G.fwd z p).append u.size (λD U=>(iR.1 (G.2 D U).2).1) y,(I (.inl t) j).trans f⟩
  rw[C,S]
  simp[marks]
 | some r=>
  intro l c B T t H v
  obtain⟨n,inf,w',W,V,⟨M',A,R,N,L⟩,f⟩:=h l c B (u.map r l T) t H v
  exact⟨n,inf,w',W,V,⟨M',A,R,u.trans N,L⟩,(I (.inr (by simp)) H).trans f⟩
theorem uP{w w':World}:tq w w' []:=⟨List.nodup_nil,λD h=>by cases h⟩
def Pr(E:Env)(ok:Array Oper->Bool)(n:Nat):Prop:=
 ∀(rd:Option Ref)(nt dep:Nat)(c:List Item)(st d:St),cr E n rd nt dep c st=some d->(∀i∈c,o3 ok i=true) ->∀(M:Mem)(ι:Map)(a:Act)(w:World),Bo M ι st nt a w ->
  ∀(b:Frame)(cs:List Frame),GP E.P rd M ι st a w nt d b cs (lone (b.atR a c) cs w)
theorem Ox{P:Program}{fr:Frame}{cs:List Frame} : ∀(ds:List Nat)(w:World),fr.mode = .returning->ds.Nodup->(∀D∈ds,w.heap[D]?=some (.deferred (some []))) ->
 ∃w',Steps P (lone { fr with defers:=marks ds} cs w) (lone { fr with defers:=[]} cs w')/\w'.os=w.os/\w'.tape=w.tape/\w'.output=w.output/\w'.heap.size=w.heap.size /\∀b,b ∉ ds->w'.heap[b]?=w.heap[b]?:=by
 intro ds
 induction ds with
 | nil=>intro w _ _ _;exact⟨w,Steps.refl _ _,rfl,rfl,rfl,rfl,λ_ _=>rfl⟩
 | cons D ds p=>
  intro w j i n
  have y:=run_takeDeferred (P:=P) (n D (jB ..))
  have c:=step_collected (P:=P) (fr := { fr with defers:=marks (D :: ds)}) (cs:=cs) (w:=w) (d := { target := .collected D,args := #[]}) (r:=D) (ds:=marks ds) (by simp[j]) rfl rfl y
  obtain⟨w',q,x,z,v,B,t⟩:=p (w.putObj D (.deferred none)) j (Pw.1 i).2 (λu f=>by
   rw[World.putObj_heap_other (by intro e;subst e;exact(Pw.1 i).1 f)]
   exact n u (iA _ f))
  refine⟨w',Steps.trans (.one c) (by simpa using q),x,z,v,by rw[B];simp,λb m=>?_⟩
  rw[t b (λh=>m (iA _ h)),World.putObj_heap_other (by intro e;subst e;exact m (jB ..))]
theorem iv.other{M:Mem}{ι:Map}{g:cX}{w w':World}(e:iv M ι g w){ds:List Nat}(d : ∀D∈ds,w.heap[D]?=some (.deferred (some [])))(h : ∀b,b ∉ ds->w'.heap[b]?=w.heap[b]?):iv M ι g w':=by
 refine⟨λb o x m=>?_,λr k f=>?_,e.inj⟩
 ·have i:=e.mem b o x m
  have c:b ∉ ds:=by
   intro c
   have:=d b c
   simp[World.cell?,this]at i
  rw[World.cell?_of_block (w:=w) (h b c)]
  exact i
 ·obtain⟨l,j,c⟩:=e.live r k f
  exact⟨l,j,c.bQ (λ_ _ _ h=>h) (λ_ _ h=>h) (h l.b λn=>IZ e (d _ n) r k l f j rfl) c.frozen⟩
theorem K7{ok:Array Oper->Bool}(hE:E.Ok ok){n:Nat}(hn:Pr E ok n){dep:Nat}{f:FuncId}{args:List AV}{H H':aa}{x:AV}(h:wE E (cr E n) dep f args H=some (x,H')):rO E.P (.fn f) args H x H':=by
 unfold wE at h
 obtain⟨Q,h⟩:=fO.1 h
 obtain⟨fn,j,u,y⟩:=hE.fns f Q
 rw[j]at h
 simp only at h
 split at h
 ·rename_i c K
  obtain⟨hlen,h⟩:=fO.1 h
  split at h
  ·rename_i st R
   simp only[bN]at h
   obtain⟨x',S,h⟩:=h
   injection h with h1 I
   subst h1;subst I
   refine⟨⟨fn,j,u,by rw[K];rfl⟩,?_⟩
   intro M ι w us hS z Z cs
   have hul:=Z.1
   have hO:Bo M ι ⟨args,H⟩ fn.ntmps { tmps:=us.toArray++Array.replicate (fn.ntmps - us.toArray.size) undef,defers:=[]} w:=by
    refine⟨hS,z,⟨?_⟩,by simp;omega⟩
    intro t
    rw[SC,F0]
    rcases fE t args.length with G | G
    ·rw[fj G,PX (by simp;omega),cY]
     have W:us[t]?=some (us[t]'(by omega)):=fj _
     simp only[PR,W,cY]
     exact Z.2 t _ _ (fj G) W
    ·rw[AR G,Array.getElem?_append_right (by simp;omega)]
     have : ∀k:Nat,((Array.replicate (fn.ntmps - us.toArray.size) undef)[k]?).getD undef=undef:=by
      intro k
      rw[PV]
      split<;>rfl
     rw[this]
     exact .v rfl
   let b:Frame := { (default:Frame)with fn:=f,kind := .normal}
   have p:Frame.enter E.P f us.toArray .normal=b.atR { tmps:=us.toArray++Array.replicate (fn.ntmps - us.toArray.size) undef,defers:=[]} [.code c]:=by
    simp[Frame.enter,Frame.atR,j,K,b]
    rfl
   obtain⟨C,w',todo,ds,⟨M',A,e,q⟩,B,m,d⟩:=hn none fn.ntmps dep [.code c] ⟨args,H⟩ st R (by intro i Y;simp at Y;subst Y;exact y c K) M ι _ w hO b cs rfl rfl
   rw[<-p]at d
   simp only[uE]at B
   obtain⟨U,I,h3,h4,h5,h6,X⟩:=Ox (P:=E.P) (fr := { b.atR C todo with mode := .returning}) (cs:=cs) ds w' rfl m.1 (λD z=>(m.2 D z).2)
   have V : { { b.atR C todo with mode := .returning} with defers:=marks ds} = { b.atR C todo with mode := .returning}:=by rw[<-show C.defers=marks ds from B];rfl
   rw[V]at I
   have F:=e.sim.other (λD z=>(m.2 D z).2) X
   have T:vp M ι H.get w M' A st.hp.get U:=by
    refine⟨h3.trans q.os,h4.trans q.tape,h5.trans q.output,by rw[h6];exact q.size,λL O J=>?_,q.mem,q.map,q.live,q.new⟩
    rw[X L λz=>absurd (m.2 L z).1 (by omega)]
    exact q.chg L O J
   obtain⟨v,hr,N⟩:=Qq (w:=U) ⟨F,e.dom,e.tr,e.nt⟩ S
   exact⟨.returned v,U, { { b.atR C todo with mode := .returning} with defers:=[]},⟨v,rfl,M',A,N,F,T,e.dom⟩,Steps.trans d I,rfl,rfl,rfl,rfl,fn,j,hr⟩
  ·cases h
 ·cases h
end
end
section
theorem Gh{g:cX}(r:Ref) : ∀(n m:Nat)(x y:AV)(u:List bw),view g n x=some y->az r m y u=(y,u):=by
 intro n
 induction n with
 | zero=>intro m x y u h;simp[view]at h
 | succ n D=>
  intro m x y u h
  cases m with
  | zero=>rfl
  | succ m=>
   have d : ∀(cs ys e:List AV),cs.mapM (view g n)=some ys->ys.foldl (λ(p:List AV × List bw) c=>(p.1++[(az r m c p.2).1],(az r m c p.2).2)) (e,u)=(e++ys,u):=by
    intro cs
    induction cs with
    | nil=>intro ys e h;simp at h;subst h;simp
    | cons c cs C=>
     intro ys e h
     simp only[nY,uF,vf,iw]at h
     obtain⟨y,B,z,q,h⟩:=h
     simp at h
     subst h
     rw[w8,D m c y u B,C z (e++[y]) q]
     simp
   cases x with
   | agg cs=>
    simp only[view,bN]at h
    obtain⟨ys,q,rfl⟩:=h
    have:=d cs ys [] q
    simp only[az]
    rw[this]
    simp
   | tup cs=>
    simp only[view,bN]at h
    obtain⟨ys,q,rfl⟩:=h
    have:=d cs ys [] q
    simp only[az]
    rw[this]
    simp
   | v x=>simp[view]at h;subst h;rfl
   | cD=>simp[view]at h;subst h;rfl
   | iptr=>simp[view]at h;subst h;rfl
   | fsl=>simp[view]at h
   | cG r' off len cap=>
    simp only[view]at h
    split at h
    ·split at h
     ·cases h;rfl
     ·cases h
    ·cases h
   | ptr r' i j=>
    simp only[view]at h
    split at h
    ·split at h
     ·cases h;rfl
     ·simp only[bN]at h;obtain⟨_,_,rfl⟩:=h;rfl
    ·cases h
   | fn f a b=>
    simp only[view]at h
    split at h
    ·cases h;rfl
    ·cases h
   | ifc t x=>
    simp only[view,bN]at h
    obtain⟨y,B,rfl⟩:=h
    simp only[az]
    rw[D m x y u B]
   | yld=>simp[view]at h
   | mp=>simp[view]at h
   | ch=>simp[view]at h
   | lp=>simp[view]at h
def bK(g:cX):Nat->AV->List Ref
 | 0,_=>[]
 | n+1,x=>
  match x with
  | .agg cs | .tup cs=>cs.flatMap (bK g n)
  | .cG r 0 len _=>(match g r with | some b=>if b.kq then [] else [r] | none=>[])
  | .mp r=>[r]
  | .ifc _ x=>bK g n x
  | _=>[]
def du(g:cX):Nat->AV->List Ref
 | 0,_=>[]
 | n+1,x=>
  match x with
  | .agg cs | .tup cs=>cs.flatMap (du g n)
  | .cG r 0 len _=>(match g r with | some b=>if b.kq then [r] else [] | none=>[r])
  | .mp _=>[]
  | .ifc _ x=>du g n x
  | x=>ao g (n+1) x
theorem Mr{g:cX} : ∀(n:Nat)(x:AV)(r:Ref),r∈bK g n x->r∈ao g n x:=by
 intro n
 induction n with
 | zero=>intro x r h;simp[bK]at h
 | succ n d=>
  intro x r h
  unfold bK at h
  split at h
  ·simp only[tC]at h
   obtain⟨c,e,b⟩:=h
   simp only[ao,tC]
   exact⟨c,e,d c r b⟩
  ·simp only[tC]at h
   obtain⟨c,e,b⟩:=h
   simp only[ao,tC]
   exact⟨c,e,d c r b⟩
  ·split at h
   ·split at h
    ·cases h
    ·simpa [ao] using h
   ·cases h
  ·simpa [ao] using h
  ·simp only[ao];exact d _ r h
  ·cases h
theorem Jl{g:cX} : ∀(n:Nat)(x:AV),(ao g n x).Nodup->(bK g n x).Nodup /\∀r∈bK g n x,r ∉ du g n x:=by
 intro n
 induction n with
 | zero=>intro x h;simp[bK]
 | succ n D=>
  intro x h
  have i : ∀(n:Nat)(x:AV)(r:Ref),r∈du g n x->r∈ao g n x:=by
   intro n
   induction n with
   | zero=>intro x r h;simp[du]at h
   | succ n u=>
    intro x r h
    unfold du at h
    split at h
    ·simp only[tC]at h
     obtain⟨c,B,f⟩:=h
     simp only[ao,tC]
     exact⟨c,B,u c r f⟩
    ·simp only[tC]at h
     obtain⟨c,B,f⟩:=h
     simp only[ao,tC]
     exact⟨c,B,u c r f⟩
    ·split at h
     ·split at h
      ·simpa [ao] using h
      ·cases h
     ·simpa [ao] using h
    ·cases h
    ·simp only[ao];exact u _ r h
    ·exact h
  have j : ∀cs:List AV,(cs.flatMap (ao g n)).Nodup->(cs.flatMap (bK g n)).Nodup /\∀r∈cs.flatMap (bK g n),r ∉ cs.flatMap (du g n):=by
   intro cs
   induction cs with
   | nil=>intro _;simp
   | cons c cs z=>
    intro F
    rw[AP,PA]at F
    obtain⟨K,J,v⟩:=F
    obtain⟨L,H⟩:=D c K
    obtain⟨N,G⟩:=z J
    have m : ∀r,r∈cs.flatMap (bK g n)->r∈cs.flatMap (ao g n):=by
     intro r f
     simp only[tC]at f ⊢
     obtain⟨d,y,f⟩:=f
     exact⟨d,y,Mr n d r f⟩
    have q : ∀r,r∈cs.flatMap (du g n)->r∈cs.flatMap (ao g n):=by
     intro r f
     simp only[tC]at f ⊢
     obtain⟨d,y,f⟩:=f
     exact⟨d,y,i n d r f⟩
    refine⟨?_,?_⟩
    ·rw[AP,PA]
     exact⟨L,N,λa I b C e=>v a (Mr n c a I) b (m b C) e⟩
    ·intro r f p
     rw[AP,oH]at f p
     rcases f with f | f<;>rcases p with p | p
     ·exact H r f p
     ·exact v r (Mr n c r f) r (q r p) rfl
     ·exact v r (i n c r p) r (m r f) rfl
     ·exact G r f p
  cases x with
  | agg cs=>simpa [bK,du] using j cs (by simpa [ao] using h)
  | tup cs=>simpa [bK,du] using j cs (by simpa [ao] using h)
  | cG r off len cap=>
   cases off with
   | zero=>
    simp only[bK,du]
    cases O:g r with
    | none=>simp
    | some b=>cases C:b.kq<;>simp[C]
   | succ off=>simp[bK]
  | mp r=>simp[bK,du]
  | ifc t x=>simpa [bK,du] using D x (by simpa [ao] using h)
  | _=>simp[bK]
def Out(g:cX)(q:Ref)(b:bw):Prop:=
 (∃k len,g q=some k/\k.kq=false/\k.arr=true/\b=⟨k.esz,k.es.take len,true,false⟩) \/∃k ents,g q=some k/\kn g q=some ents/\(∀e∈ents,flat depth e=true)/\b=bg ents
theorem KP{g:cX}{q:Ref}{ents:List AV}(h:kn g q=some ents) : ∃k,g q=some k/\k.esz=0/\k.es = .v (.bool true) :: ents:=by
 unfold kn at h
 split at h
 ·rename_i e f b
  cases h
  exact⟨_,b,rfl,rfl⟩
 ·cases h
theorem TU{M:Mem}{ι:Map}{g:cX}{w:World}{R:List Ref}(hS:iv M ι g w)(r:Ref) : ∀(n:Nat)(x y:AV)(u:Value)(j:List bw),dc g n x=some y->VR M ι x u ->
 (∀q∈du g n x,q∈R) ->
 ∃new:List bw,(az r n y j).2=j++new/\new.length=(bK g n x).length /\
  (∀(i:Nat) q b,(bK g n x)[i]?=some q->new[i]?=some b->Out g q b) /\
  ∀z:List Loc,(∀(i:Nat) q l,(bK g n x)[i]?=some q->ι q=some l->z[j.length+i]?=some l)->VR (nK M ι g w R) (lZ r z) (az r n y j).1 u:=by
 intro n
 induction n with
 | zero=>intro x y u j h;simp[dc]at h
 | succ n ih=>
  intro x y u j h N J
  have plain:view g (n+1) x=some y->bK g (n+1) x=[]->(∀q∈ao g (n+1) x,q∈R) ->∃new:List bw,(az r (n+1) y j).2=j++new/\new.length=(bK g (n+1) x).length /\
   (∀(i:Nat) q b,(bK g (n+1) x)[i]?=some q->new[i]?=some b->Out g q b) /\
   ∀z:List Loc,(∀(i:Nat) q l,(bK g (n+1) x)[i]?=some q->ι q=some l->z[j.length+i]?=some l)->VR (nK M ι g w R) (lZ r z) (az r (n+1) y j).1 u:=by
   intro O F Q
   rw[Gh r (n+1) (n+1) x y j O]
   exact⟨[],by simp,by rw[F];rfl,by rw[F];intro i q b B;simp at B,λz _=>(Dz hS (n+1) x y u O Q N).up _⟩
  have H : ∀(cs ys:List AV)(us:List Value)(L:List AV)(j:List bw),cs.mapM (dc g n)=some ys->mA M ι cs us->(∀q∈cs.flatMap (du g n),q∈R) ->
   ∃(new:List bw) (zs:List AV),ys.foldl (λ(p:List AV × List bw) c=>(p.1++[(az r n c p.2).1],(az r n c p.2).2)) (L,j)=(L++zs,j++new)/\new.length=(cs.flatMap (bK g n)).length /\
    (∀(i:Nat) q b,(cs.flatMap (bK g n))[i]?=some q->new[i]?=some b->Out g q b) /\
    ∀z:List Loc,(∀(i:Nat) q l,(cs.flatMap (bK g n))[i]?=some q->ι q=some l->z[j.length+i]?=some l)->mA (nK M ι g w R) (lZ r z) zs us:=by
   intro cs
   induction cs with
   | nil=>
    intro ys us L j V C _
    simp at V
    subst V
    have:us=[]:=Dy (by rw[<-C.1];rfl)
    subst this
    exact⟨[],[],by simp,rfl,by intro i q b B;simp at B,λ_ _=>mA.nil⟩
   | cons c cs ihc=>
    intro ys us L j V C X
    simp only[nY,uF,vf,iw]at V
    obtain⟨y,hy1,ys',I,hy2⟩:=V
    simp at hy2
    subst hy2
    cases us with
    | nil=>have:=C.1;simp at this
    | cons u us=>
     have hvc:VR M ι c u:=C.2 0 c u rfl rfl
     have hvcs:mA M ι cs us:=⟨by have:=C.1;simpa using this,λi x v hx N=>C.2 (i+1) x v (by simpa using hx) (by simpa using N)⟩
     simp only[AP,oH]at X
     obtain⟨S,O,F,Q,Y⟩:=ih c y u j hy1 hvc (λq B=>X q (.inl B))
     obtain⟨new2,zs,h5,h6,h7,h8⟩:=ihc ys' us (L++[(az r n y j).1]) (j++S) I hvcs (λq B=>X q (.inr B))
     refine⟨S++new2,(az r n y j).1 :: zs,?_,?_,?_,?_⟩
     ·rw[w8]
      simp only
      rw[O,h5]
      simp
     ·simp[F,h6]
     ·intro i q b B Z
      rw[AP]at B
      rcases fE i (bK g n c).length with hi | hi
      ·rw[oI hi]at B
       rw[oI (by omega)]at Z
       exact Q i q b B Z
      ·rw[p4 hi]at B
       rw[p4 (by omega),F]at Z
       exact h7 _ q b B Z
     ·intro z f
      refine mA.cons (Y z ?_) (h8 z ?_)
      ·intro i q l B W
       refine f i q l ?_ W
       rw[AP,oI (iX.1 B).1]
       exact B
      ·intro i q l B W
       have:=f ((bK g n c).length+i) q l (by
        rw[AP,p4 (by omega),Lr]
        exact B) W
       rw[pH,F,Lh]
       exact this
  cases x with
  | agg cs=>
   simp only[dc,bN]at h
   obtain⟨ys,I,rfl⟩:=h
   obtain⟨vs,rfl,C⟩:=N.Sq
   obtain⟨new,zs,O,F,Q,Y⟩:=H cs ys vs.toList [] j I C (by simpa [du] using J)
   simp only[az]
   rw[O]
   refine⟨new,rfl,by simpa [bK] using F,by simpa [bK] using Q,λz f=>?_⟩
   have:=Y z (by simpa [bK] using f)
   simpa using VR.sS.2 this
  | tup cs=>
   simp only[dc,bN]at h
   obtain⟨ys,I,rfl⟩:=h
   cases N with | tup h0 W hh=>
   rename_i vs
   obtain⟨new,zs,O,F,Q,Y⟩:=H cs ys vs.toList [] j I ⟨by simpa using W,λi x u hx hu=>hh i x u hx (by simpa using hu)⟩ (by simpa [du] using J)
   simp only[az]
   rw[O]
   refine⟨new,rfl,by simpa [bK] using F,by simpa [bK] using Q,λz f=>?_⟩
   have:=Y z (by simpa [bK] using f)
   simp only[w9]
   refine .tup ?_ (by simpa using this.1) λi c u hc hu=>this.2 i c u hc (by simpa using hu)
   intro e
   rw[e]at this
   have h5:=this.1
   simp at h5
   have h6:vs.size=0:=by omega
   rw[h6]at W
   exact h0 (Dy W)
  | cG q off len cap=>
   cases off with
   | succ off=>exact plain (by simpa [dc] using h) (by simp[bK]) (by simpa [du] using J)
   | zero=>
    simp only[dc]at h
    split at h
    ·rename_i k U
     obtain⟨⟨G,hlen⟩,h⟩:=fO.1 h
     injection h with h
     cases D:k.kq with
     | true=>
      rw[D]at h
      simp only[if_true]at h
      refine plain ?_ (by simp[bK,U,D]) (by
       intro q' d
       refine J q' ?_
       simp only[ao,vS]at d
       simp[du,U,D,d])
      simp only[view,U,G]
      rw[if_pos ⟨trivial,by omega⟩]
      simp[<-h]
     | false=>
      rw[D]at h
      simp only[mr,if_false]at h
      subst h
      have m:bK g (n+1) (.cG q 0 len cap)=[q]:=by simp[bK,U,D]
      cases N with | cG hr Z hs ha hc hn hkk hzl=>
      rename_i l a c
      have hl2:(k.es.take len).length=len:=by rw[uG];omega
      have T:k.esz≠0:=by
       obtain⟨l0,hl0,hbk⟩:=hS.live q k U
       have:=hbk.pos G
       omega
      refine⟨[⟨k.esz,k.es.take len,true,false⟩],by simp[az,T],by rw[m];rfl,?_,?_⟩
      ·intro i q' b d K
       rw[m]at d
       cases i with
       | succ i=>simp at d
       | zero=>
        simp at d K
        subst d;subst K
        exact .inl ⟨k,len,U,D,G,rfl⟩
      ·intro z f
       have:=f 0 q l (by rw[m];rfl) hr
       simp only[az,hl2,if_neg T]
       refine .cG (l:=l) ?_ Z hs ha hc hn hkk hzl
       unfold lZ
       simpa using this
    ·cases h
  | v x=>exact plain (by simpa [dc] using h) (by simp[bK]) (by simpa [du] using J)
  | cD=>exact plain (by simpa [dc] using h) (by simp[bK]) (by simpa [du] using J)
  | iptr=>exact plain (by simpa [dc] using h) (by simp[bK]) (by simpa [du] using J)
  | fsl=>exact plain (by simpa [dc] using h) (by simp[bK]) (by simpa [du] using J)
  | ptr=>exact plain (by simpa [dc] using h) (by simp[bK]) (by simpa [du] using J)
  | fn=>exact plain (by simpa [dc] using h) (by simp[bK]) (by simpa [du] using J)
  | ifc t x=>
   simp only[dc,bN]at h
   obtain⟨y,V,rfl⟩:=h
   cases N with | ifc N=>
   obtain⟨new,O,F,Q,Y⟩:=ih x y _ j V N (by simpa [du] using J)
   simp only[az]
   exact⟨new,O,by simpa [bK] using F,by simpa [bK] using Q,λz f => .ifc (Y z (by simpa [bK] using f))⟩
  | yld=>simp[dc,view]at h
  | ch q=>simp[dc,view]at h
  | mp q=>
   simp only[dc]at h
   split at h
   ·rename_i ents hm
    obtain⟨hfl,h⟩:=fO.1 h
    injection h with h
    subst h
    have m:bK g (n+1) (.mp q)=[q]:=by simp[bK]
    cases N with | mp hr hz=>
    rename_i l
    obtain⟨k,U,_,_⟩:=KP hm
    refine⟨[bg ents],by simp[az,bg],by rw[m];rfl,?_,?_⟩
    ·intro i q' b d K
     rw[m]at d
     cases i with
     | succ i=>simp at d
     | zero=>
      simp at d K
      subst d;subst K
      exact .inr ⟨k,ents,U,hm,by simpa [gy] using hfl,rfl⟩
    ·intro z f
     have:=f 0 q l (by rw[m];rfl) hr
     simp only[az,if_true]
     refine .mp (l:=l) ?_ hz
     unfold lZ
     simpa using this
   ·cases h
  | lp=>simp[dc,view]at h
theorem Ek:aa.get []=λ_=>none:=by funext q;rfl
theorem X3{M:Mem}{w:World}(c : ∀b o x,M b o=some x->w.cell? ⟨b,o,none⟩=some x):iv M eB (aa.get []) w:=
 ⟨c,(λr k h=>by rw[Ek]at h;cases h),(λr r' k k' l d h=>by rw[Ek]at h;cases h)⟩
theorem Zw:vM eB []:=λq l h=>by cases h
theorem N6{M:Mem}{w:World}(D : ∀b o x,M b o=some x->w.cell? ⟨b,o,none⟩=some x){H':aa}{v:Value}{w':World}{d:Mem}{c:Map}{x:AV}
 (F:VR d c x v) (q:iv d c H'.get w') (e:vp M eB (aa.get []) w d c H'.get w') {R:List Ref} {y:AV}
 (f : ∀r:Ref,∃m:List Loc,m.length=(az r depth y []).2.length/\VR (nK d c H'.get w' R) (lZ r m) (az r depth y []).1 v /\
  (∀(k:Nat) l b,m[k]?=some l->(az r depth y []).2[k]?=some b->pP (nK d c H'.get w' R) eB w' l b/\w.heap.size<=l.b) /\
  ∀(i j:Nat) l l',m[i]?=some l->m[j]?=some l'->l.b=l'.b->i=j):AM M w y v (nK d c H'.get w' R) w':=by
 obtain⟨u,p⟩:=BP (R:=R) q
 have n:=e.trans p
 refine⟨e.os,e.tape,e.output,e.size,λb B=>e.chg b B (λr k l h=>by rw[Ek]at h;cases h),n.mem,AD q.mem,?_,f⟩
 intro b o z t
 rcases n.new b o z t with h | h | ⟨G,H,C,h,_⟩
 ·exact .inl h
 ·exact .inr h
 ·rw[Ek]at h;cases h
theorem Oo{M:Mem}{w:World}{H':aa}{w':World}{e:Mem}{c:Map}(i:vp M eB (aa.get []) w e c H'.get w'){r:Ref}{k:bw}{l:Loc}(f:H'.get r=some k)(d:c r=some l):w.heap.size<=l.b:=by
 rcases i.live r k l f d with h | ⟨j,n,m,h,_⟩
 ·exact h
 ·rw[Ek]at h;cases h
theorem Out.live{g:cX}{q:Ref}{b:bw}(h:Out g q b) : ∃k,g q=some k:=by
 rcases h with ⟨k,_,c,_⟩ | ⟨k,_,c,_⟩<;>exact⟨k,c⟩
theorem TP : ∀(n:Nat)(x:AV),flat n x=true->flat (n+1) x=true:=by
 intro n
 induction n with
 | zero=>intro x h;simp[flat]at h
 | succ n e=>
  intro x h
  cases x with
  | v x=>rfl
  | agg cs=>simp only[flat,gy]at h ⊢;exact λc d=>by have:=e c (h c d);simpa [flat] using this
  | tup cs=>simp only[flat,gy]at h ⊢;exact λc d=>by have:=e c (h c d);simpa [flat] using this
  | ifc t x=>have:=e x (by simpa [flat] using h);simpa [flat] using this
  | fn f a b=>
   simp only[flat,aY,gy]at h ⊢
   exact⟨λc d=>by have:=e c (h.1 c d);simpa [flat] using this,λc d=>by have:=e c (h.2 c d);simpa [flat] using this⟩
  | _=>simp[flat]at h
theorem WR{cs:List AV}(h:flat depth (.tup cs)=true){c:AV}(b:c∈cs):flat depth c=true:=by
 have d:depth=(depth - 1)+1:=rfl
 rw[d]at h ⊢
 simp only[flat,gy]at h
 exact TP _ c (h c b)
theorem Gc{E:Env}{ok:Array Oper->Bool}(hE:E.Ok ok){n:Nat}(hn:Pr E ok n){f:FuncId}{args:List AV}{y:AV}(h:cS E (cr E n) f args=some y):gP E.P f args y:=by
 unfold cS at h
 split at h
 ·rename_i s hs
  cases h
  exact hE.specs f args y hs
 ·split at h
  ·rename_i x H' hc
   obtain⟨hfn,I⟩:=K7 hE hn hc
   refine⟨hfn,λM w us hm hvs=>?_⟩
   refine(I M eB w us (X3 hm) Zw hvs).mono λe w' ⟨v,t,M1,ι1,hv,hS,hF,hD⟩=>⟨v,?_⟩
   split at h
   ·obtain⟨hnd,h⟩:=fO.1 h
    obtain⟨S,Q⟩:=Jl depth x hnd
    refine⟨_,t,N6 (R:=du H'.get depth x) hm hv hS hF λr=>?_⟩
    obtain⟨new,h1,h2,h3,h4⟩:=TU (R:=du H'.get depth x) hS r depth x y v [] h hv (λq p=>p)
    rw[w9]at h1
    let c:Ref->Loc:=λq=>(ι1 q).getD ⟨0,0,0⟩
    refine⟨(bK H'.get depth x).map c,by rw[h1];simp[h2],h4 _ ?_,?_,?_⟩
    ·intro i q l p J
     simp only[Hf,vQ,pG,p,Option.map_some,c,J,cY]
    ·intro i l b J hb
     rw[h1]at hb
     simp only[pG,bN]at J
     obtain⟨q,p,C⟩:=J
     rcases h3 i q b p hb with ⟨k,len,B,hfr,G,rfl⟩ | ⟨k,ents,B,F,hfl,rfl⟩
     rotate_left
     ·obtain⟨U,m,d⟩:=hS.live q k B
      have:l=U:=by rw[<-C];simp[c,m]
      subst this
      have Y:l.esz=0:=by
       obtain⟨k1,W,hz1,_⟩:=KP F
       rw[B]at W;cases W
       rw[d.esz];exact hz1
      obtain⟨a,f,entries,hg,hh,hsz,V,_⟩:=Ck hS F m Y
      refine⟨oB.Xa (.inr (.inl ⟨ents,entries,rfl,rfl,rfl,hh,hsz,λi' ent e t he'=>?_⟩)) Y (λo z hx=>?_),Oo hF B m⟩
      ·obtain⟨ka,va,e1,e2,e3⟩:=V i' ent e t he'
       subst e1
       refine⟨ka,va,rfl,e2,EA depth va _ ?_ e3.1,e3.2⟩
       have:=hfl _ (fU t)
       exact WR this (by simp)
      ·have:=(BP (R:=du H'.get depth x) hS).1.mem _ _ _ hx
       simp[World.cell?,hh]at this
     obtain⟨U,m,d⟩:=hS.live q k B
     have:l=U:=by rw[<-C];simp[c,m]
     subst this
     refine⟨?_,Oo hF B m⟩
     have O:=d.pos G
     replace d:=d.cellsOk O
     obtain⟨arr,T,fz,hh,g1,g2,g3⟩:=d.heap
     refine gq.Xa (k:=⟨k.esz,k.es.take len,true,false⟩) ⟨d.esz,⟨arr,T,fz,hh,g1,g2,?_⟩,by have:=d.len;simp;omega,λe t=>d.cells e (AQ t),?_⟩ O
     ·intro i' j e x' t hx
      simp only at t
      rw[CB]at t
      split at t
      ·obtain⟨u,hu,ho,K⟩:=g3 i' j e x' t hx
       rw[bw.map,if_pos G]at K
       exact⟨u,hu,ho,by rw[bw.map,if_pos rfl];exact K.mono xE _ (λ_ _ h=>h)⟩
      ·cases t
     ·intro o z Y
      exfalso
      rcases Dl Y with h5 | ⟨r',hr',k',X,hg',hl',hb',ho⟩
      ·have:=(d.frozen o z h5).1
       rw[hfr]at this
       cases this
      ·have e:=hS.inj r' q k' k X l hg' B hl' m hb'
       subst e
       exact Q r' (fU p) hr'
    ·intro i j l X Z hj hb
     simp only[pG,bN]at Z hj
     obtain⟨q,p,C⟩:=Z
     obtain⟨q',H,N⟩:=hj
     have hi2:i<new.length:=by rw[h2];exact(iX.1 p).1
     have hj2:j<new.length:=by rw[h2];exact(iX.1 H).1
     obtain⟨k,B⟩:=(h3 i q _ p (fj hi2)).live
     obtain⟨k',L⟩:=(h3 j q' _ H (fj hj2)).live
     obtain⟨U,m,_⟩:=hS.live q k B
     obtain⟨l0',D,_⟩:=hS.live q' k' L
     have e1:l=U:=by rw[<-C];simp[c,m]
     have e2:X=l0':=by rw[<-N];simp[c,D]
     subst e1;subst e2
     have e:=hS.inj q q' k k' l X B L m D hb
     subst e
     exact(List.getElem?_inj (iX.1 p).1 S).1 (by rw[p,H])
   ·refine⟨_,t,N6 (R:=ao H'.get depth x) hm hv hS hF λr=>?_⟩
    rw[Gh r depth depth x y [] h]
    exact⟨[],rfl,(Dz hS depth x y v h (λq p=>p) hv).up _,by intro k l b J;simp at J,by intro i j l X Z;simp at Z⟩
  ·cases h
theorem Qg : ∀(ps:List Tmp)(xs:List AV)(tm:List AV)(us:List Value)(tmps:Array Value),((ps.zip us).foldl (λtmps (p:Tmp × Value)=>tmps.setIfInBounds p.1 p.2) tmps).size=tmps.size:=by
 intro ps
 induction ps with
 | nil=>intro xs tm us tmps;rfl
 | cons p ps b=>
  intro xs tm us tmps
  cases us with
  | nil=>rfl
  | cons u us=>simp only[PE,w8];rw[b [] [] us];simp
theorem SH{M:Mem}{ι:Map}{nt:Nat} : ∀(ps:List Tmp)(xs:List AV)(us:List Value)(tm:List AV)(tmps:Array Value),xs.length=ps.length->mA M ι xs us->(∀p∈ps,p<nt)->tmps.size=nt->(∀t,VR M ι (dJ tm t) (tmps.getD t undef)) ->
 ∀t,VR M ι (dJ (yh tm ps xs) t) (((ps.zip us).foldl (λtmps (p:Tmp × Value)=>tmps.setIfInBounds p.1 p.2) tmps).getD t undef):=by
 intro ps
 induction ps with
 | nil=>intro xs us tm tmps e c hp f h t;cases xs<;>exact h t
 | cons p ps z=>
  intro xs us tm tmps e c hp f h t
  cases xs with
  | nil=>simp at e
  | cons x xs=>
   cases us with
   | nil=>have:=c.1;simp at this
   | cons u us=>
    simp only[PE,w8,yh]
    refine z xs us _ _ (by simpa using e) ⟨by have:=c.1;simpa using this,λi y v n j=>c.2 (i+1) y v (by simpa using n) (by simpa using j)⟩ (λq m=>hp q (iA _ m)) (by simpa using f) ?_ t
    intro t'
    have d:=hp p (jB ..)
    rw[vG,F0]
    by_cases b:t'=p
    ·subst b
     rw[if_pos rfl,Hk (by rw[f];exact d)]
     exact c.2 0 x u rfl rfl
    ·rw[if_neg b,CC (tP b),<-F0]
     exact h t'
theorem Kl(ps:Array Tmp)(us:Array Value)(tmps:Array Value):(ps.zip us).foldl (λtmps (t,a)=>tmps.setIfInBounds t a) tmps=(ps.toList.zip us.toList).foldl (λtmps (p:Tmp × Value)=>tmps.setIfInBounds p.1 p.2) tmps:=by
 rw[<-PF,Array.toList_zip]
theorem Qo{E:Env}{ok:Array Oper->Bool}(Z:E.Ok ok){n dep:Nat}(hn:Pr E ok n){r:Ref}{args:List AV}{H H':aa}{y:AV}(h:Ci E (cr E n) dep r args H=some (y,H')):rO E.P (.yld r) args H y H':=by
 unfold Ci at h
 split at h
 ·rename_i f nt ps assign body tm F
  obtain⟨⟨K,C,u,q⟩,h⟩:=fO.1 h
  split at h
  ·rename_i st D
   intro M ι w us l Q O B N
   obtain⟨W,T,as',X,tm',d,e,U,R,g3,g4,J,V,g7,_,_⟩:=Cl Q O N F
   cases e
   have G:us.toArray.size=d.params.size:=by rw[R];simp;rw[<-K];exact B.1.symm
   refine⟨_,_,_,_,run_yield U G,trivial,λc cs _=>?_⟩
   let b:Frame := { (default:Frame)with fn:=d.fn,kind := .normal,roundOf:=some l.b}
   have j : ∀tmps,Frame.round l.b d.fn tmps d.assign d.body .normal=b.atR { tmps:=tmps,defers:=[]} [.code assign,.beginRound,.code body]:=by
    intro tmps
    simp[Frame.round,Frame.atR,b,g3,g4]
   rw[j]
   have hO:Bo M ι ⟨yh tm ps args,H⟩ nt { tmps:=(d.params.zip us.toArray).foldl (λtmps (t,a)=>tmps.setIfInBounds t a) d.tmps,defers:=[]} w:=by
    refine⟨Q,O,⟨?_⟩,?_⟩
    ·intro t
     show VR M ι _ (((d.params.zip us.toArray).foldl (λtmps (t,a)=>tmps.setIfInBounds t a) d.tmps).getD t undef)
     rw[Kl,R]
     exact SH ps args us tm d.tmps K B (λp hp=>by have:=gy.1 C p hp;simpa using this) J V t
    ·show((d.params.zip us.toArray).foldl (λtmps (t,a)=>tmps.setIfInBounds t a) d.tmps).size=nt
     rw[Kl,Qg _ [] []]
     exact J
   have x:=Z.same
   obtain⟨m,inf,w',h1,h2,⟨M',A,h3,Y,S⟩,h6⟩:=hn (some r) nt dep _ _ st D (by
    intro i L
    simp only[nB,E3,or_false]at L
    rcases L with rfl | rfl | rfl
    ·rw[<-x];exact u
    ·rfl
    ·rw[<-x];exact q) M ι _ w hO b (c :: cs) l c cs N rfl rfl rfl
   rw[h1]at h
   have z:Comes E.P (lone (b.atR { tmps:=(d.params.zip us.toArray).foldl (λtmps (t,a)=>tmps.setIfInBounds t a) d.tmps,defers:=[]} [.code assign,.beginRound,.code body]) (c :: cs) w) (lone (c.finish (.bool (m == 0))) cs w') (.returned (.bool (m == 0))):=h6
   have I:y = .v (.bool (m == 0))/\H'=st.hp:=by
    rcases m with _ | _ | m
    ·simp only[dT,yJ]at h;exact⟨h.1.symm,h.2.symm⟩
    ·exact absurd rfl h2
    ·simp only[dT,yJ]at h;exact⟨h.1.symm,h.2.symm⟩
   obtain⟨rfl,rfl⟩:=I
   exact⟨.returned (.bool (m == 0)),w',⟨_,rfl,M',A,.v rfl,h3,Y,S⟩,comesIn_wide.2 z⟩
  ·cases h
 ·cases h
theorem Il{E:Env}{ok:Array Oper->Bool}(c:E.Ok ok){n dep:Nat}(d:Pr E ok n){t:yD}{args:List AV}{H H':aa}{y:AV}(h:fx E (cr E n) dep t args H=some (y,H')):rO E.P t args H y H':=by
 unfold fx at h
 cases t with
 | fn f=>
  simp only at h
  cases b:E.thrSpec f args H with
  | some z=>rw[b]at h;cases h;exact c.thrs f args H y H' b
  | none=>
   rw[b]at h
   obtain⟨_,h⟩:=fO.1 h
   exact K7 c d h
 | yld r=>exact Qo c d h
theorem abt{E:Env}{ok:Array Oper->Bool}(hE:E.Ok ok) : ∀n,Pr E ok n:=by
 intro n
 induction n with
 | zero=>intro rd nt dep C st B h;simp[cr]at h
 | succ n ih=>
  intro rd nt dep C st B h hi M ι a w G b cs
  have Y : ∀(q:List Item)(h':cr E n rd nt dep q st=some B),(∀i∈q,o3 ok i=true)->Steps E.P (lone (b.atR a C) cs w) (lone (b.atR a q) cs w) ->
   GP E.P rd M ι st a w nt B b cs (lone (b.atR a C) cs w):=by
   intro q h' p Q
   exact GP.of_steps (ds:=[]) (λ_ _=>Q) G.sim vp.refl rfl uP (ih rd nt dep q st B h' p M ι a w G b cs)
  have R : ∀(j:Nat)(z:Option Code),j≠1->(z.isNone=(j == 0))->(∀I:Loop,D1 j { I with state:=if z.isNone then .ready else .done,pending:=z})->yt rd st j=some B->rd≠none ->
   (∀l c N v w',b.roundOf=some l->b.kind = .normal->cs=c :: N->(Instr.endRound l z).run E.P w = .ok v w'->Steps E.P (lone (b.atR a C) cs w) (lone (c.finish v) N w'))->GP E.P rd M ι st a w nt B b cs (lone (b.atR a C) cs w):=by
   intro j z hj hjn K h hrd Q
   cases rd with
   | none=>exact absurd rfl hrd
   | some r=>
    unfold yt at h
    simp only at h
    split at h
    ·rename_i inf F
     cases h
     intro l c N hr u O J
     obtain⟨_,_,_,_,_,I,_,g1,_,_,_,_,_,_,g8,_⟩:=Cl G.sim G.dom hr F
     obtain⟨k1,k2,k3⟩:=g8 j { I with state:=if z.isNone then .ready else .done,pending:=z} ⟨rfl,rfl,rfl,rfl⟩ (K I)
     refine⟨j,inf,_,?_,hj,⟨M,ι,k1,k2,k3⟩,?_⟩
     ·simp[As,aa.get_put,kV]
     ·rw[<-hjn]
      exact Q l.b c N _ _ u O J (run_endRound z g1)
    ·cases h
  unfold cr at h
  split at h
  ·cases rd with
   | none=>
    injection h with h
    subst h
    intro u _
    exact⟨a,w,[],[],⟨M,ι,G,vp.refl⟩,rfl,uP,.one (stepR_end u)⟩
   | some r=>
    exact R 0 none (by omega) rfl (λI=>⟨rfl,rfl⟩) h (by simp) λl c N v w' u O J hr=>by subst J;exact .one (stepR_round_end u O hr)
  ·rename_i k
   have O : ∀i∈k,o3 ok i=true:=λi h=>hi i (iA _ h)
   cases rd with
   | none=>cases h
   | some r=>
    simp only at h
    split at h
    ·rename_i inf F
     intro l c N hr u hkd J
     obtain⟨_,_,_,_,_,I,_,g1,_,_,_,_,_,g7,g8,_⟩:=Cl G.sim G.dom hr F
     obtain⟨k1,k2,k3⟩:=g8 1 { I with state := .busy} ⟨rfl,rfl,rfl,rfl⟩ rfl
     have Q:Steps E.P (lone (b.atR a (.beginRound :: k)) cs w) (lone (b.atR a k) cs (bX w l.b (.loop { I with state := .busy}))) := .one (stepR_beginRound u (run_beginRound g1 g7.1))
     exact GP.of_steps (rd:=some r) (ds:=[]) (λ_ _=>Q) k1 k2 rfl uP (ih (some r) nt dep k _ B h O M ι a _ ⟨k1,k3,G.tr,G.nt⟩ b cs) l c N hr u hkd J
    ·cases h
  ·rename_i c k
   have T:codeOk ok c=true:=hi _ (jB ..)
   have O : ∀i∈k,o3 ok i=true:=λi h=>hi i (iA _ h)
   have two : ∀ {x y:Item},o3 ok x=true->o3 ok y=true ->∀i∈x :: y :: k,o3 ok i=true:=by
    intro x y hx hy i p
    rcases nB.1 p with rfl | p
    ·exact hx
    ·rcases nB.1 p with rfl | p
     ·exact hy
     ·exact O i p
   have one : ∀ {x:Item},o3 ok x=true ->∀i∈x :: k,o3 ok i=true:=by
    intro x hx i p
    rcases nB.1 p with rfl | p
    ·exact hx
    ·exact O i p
   split at h
   ·exact Y k h O (.one stepR_skip)
   ·exact Y k h O (.one stepR_label)
   ·cases rd with
    | none=>
     simp only[yt,if_true]at h
     injection h with h
     subst h
     intro u _
     exact⟨a,w,_,[],⟨M,ι,G,vp.refl⟩,rfl,uP,.one (stepR_ret u)⟩
    | some r=>exact R 2 (some .ret) (by omega) rfl (λI=>⟨rfl,rfl⟩) h (by simp) λl c N v w' u O J hr=>by subst J;exact .one (stepR_round_ret u O hr)
   ·rename_i x y
    simp only[codeOk,aY]at T
    exact Y _ h (two T.1 T.2) (.one stepR_seq)
   ·rename_i cnd x y
    simp only[codeOk,aY]at T
    split at h
    ·rename_i u
     simp only[iw]at u
     obtain⟨cv,h1,h2⟩:=u
     exact Y _ h (one T.1) (.one (stepR_cond (Cn (aT G.tr h1) h2)))
    ·rename_i u
     simp only[iw]at u
     obtain⟨cv,h1,h2⟩:=u
     exact Y _ h (one T.2) (.one (stepR_cond (Cn (aT G.tr h1) h2)))
    ·cases h
   ·exact Y _ h (two (by simpa [codeOk,o3] using T) rfl) (.one stepR_block)
   ·exact Y _ h (two (by simpa [codeOk,o3] using T) rfl) (.one (step_lone_go (by simp[stepG,stepG.exec,Frame.atR])))
   ·exact Y _ h (two (by simpa [codeOk,o3] using T) (by simpa [codeOk,o3] using T)) (.one stepR_loop)
   ·rename_i id
    split at h
    ·rename_i k' U
     exact Y _ h (K1 U O) (.one (stepR_exit U))
    ·rename_i U
     cases rd with
     | none=>simp at h
     | some r=>exact R (id+3) (some (.exit id)) (by omega) (by simp) (λI=>⟨rfl,rfl⟩) (by simpa using h) (by simp) λl c N v w' u hkd J hr=>by subst J;exact .one (stepR_round_exit u hkd U hr)
   ·rename_i id ops draw
    split at h
    ·rename_i S hst1
     have hap:draw=true->uy E ops S=true:=by
      intro hd
      cases u:uy E ops S with
      | true=>rfl
      | false=>rw[hd,u]at h;simp at h
     replace h:cr E n rd nt dep k S=some B:=by
      split at h
      ·cases h
      ·exact h
     have hpc : ∀f xs y,cS E (cr E n) f xs=some y->gP E.P f xs y:=λf xs y h=>Gc hE ih h
     have htc : ∀f xs H y H',fx E (cr E n) dep f xs H=some (y,H')->rO E.P f xs H y H':=λf xs H y H' h=>Il hE ih h
     have hreg : ∃a1 w1,lD M ι st a w nt S a1 w1/\(b.kind = .normal->Steps E.P (lone (b.atR a (.code (.region id ops draw) :: k)) cs w) (lone (b.atR a1 k) cs w1)):=by
      cases draw with
      | false=>exact LX hpc htc hE.overs b k cs hst1 G
      | true=>
       have hwp:(Code.region id ops true).wpIn (FW b.roundOf) 0 E.P (λe a' w'=>e = .normal/\lD M ι st a w nt S a' w') a w:=
        hE.draws ops (by simpa [codeOk] using T) hpc htc nt dep id st S M ι a w b.roundOf _ hst1 (hap rfl) G λa' w' K=>⟨rfl,K⟩
       obtain⟨a1,w1,h1,h2⟩:=Ns b hwp k cs
       exact⟨a1,w1,h1,λ_=>h2⟩
     obtain⟨a1,w1,⟨⟨M1,ι1,hO1,hF1⟩,hd1⟩,Q⟩:=hreg
     exact GP.of_steps (ds:=[]) (λ_=>Q) hO1.sim hF1 hd1 uP (ih rd nt dep k S B h O M1 ι1 a1 w1 hO1 b cs)
    ·cases h
   ·rename_i g ps assign body
    simp only[codeOk,aY]at T
    split at h
    ·rename_i gi first captured hg
     split at h
     ·rename_i x H' hcall
      obtain⟨hS1,hF1,hD1,hmk⟩:=Wx (d:=dep) (ps:=ps) (assign:=assign) (body:=body) (fn:=b.fn) G.sim G.dom G.tr G.nt rfl
      obtain⟨hfn,hthr⟩:=Il hE ih hcall
      obtain⟨a',b',hfv,hva,hvb⟩:=(aT G.tr hg).Zq
      have hmv:=λ{xs us} (h:mA M ι xs us)=>h.mono (λ_ _ _ h=>h) hF1.map
      have hyl:VR M (kS ι ⟨dep,nt,st.hp.gen dep nt,0⟩ ⟨w.heap.size+1,0,0⟩) (.yld ⟨dep,nt,st.hp.gen dep nt,0⟩) (.func (.yield (w.heap.size+1)) #[] #[]) := .yld (l:=⟨w.heap.size+1,0,0⟩) (by simp[kS]) rfl
      have hall:=((hmv hva).append (mA.cons hyl mA.nil)).append (hmv hvb)
      have W:=hthr M _ _ _ hS1 hD1 hall
      rw[show(a'.toList++[Value.func (.yield (w.heap.size+1)) #[] #[]]++b'.toList).toArray=a' ++ #[Value.func (.yield (w.heap.size+1)) #[] #[]]++b' by apply Hm;simp]at W
      intro u
      let c1:Frame:=b.atR { a with defers:=[{ target := .collected w.heap.size,args := #[]}]++a.defers} (.inRangeFunc (w.heap.size+1) :: k)
      have henter:=stepR_rangeFunc (P:=E.P) (b:=b) (a:=a) (k:=k) (cs:=cs) (w:=w) (g:=g) (ps:=ps) (assign:=assign) (body:=body) (l:=w.heap.size+1) (mark:=[{ target := .collected w.heap.size,args := #[]}])
       (d := { target := .fn (.func gi) b',args:=a' ++ #[Value.func (.yield (w.heap.size+1)) #[] #[]]}) (f:=gi) (args:=a' ++ #[Value.func (.yield (w.heap.size+1)) #[] #[]]++b')
       (by rw[u];exact run_enterLoop_outer b.fn a.tmps ps assign body) (by have hev : ∀x,a.eval (.const x)=x:=λ_=>rfl;simp[resolve,rangeCall,hfv,Deferred.ofValue,hev];rfl) (by simp[invoke,F8 hfn];rfl)
      obtain⟨e,w3,fr,⟨v,he,M3,X,hv3,hS3,hF3,hD3⟩,hcomes,hfr,hleave⟩:=W (c1 :: cs)
      subst he
      have hs1:Steps E.P (lone (b.atR a (.code (.rangeFunc g ps assign body) :: k)) cs w) (lone (c1.finish v) cs w3):=Steps.trans (.one henter) (Steps.trans hcomes (.one (step_leave_returned hleave)))
      have hfin:c1.finish v=b.atR { a with defers:=[{ target := .collected w.heap.size,args := #[]}]++a.defers} (.endRangeFunc (w.heap.size+1) :: k):=finish_atR_inRangeFunc _ v
      rw[hfin]at hs1
      have Z:=hF1.trans hF3
      have hr3:X ⟨dep,nt,st.hp.gen dep nt,0⟩=some ⟨w.heap.size+1,0,0⟩:=hF3.map _ _ (by simp[kS])
      have hmk3:w3.heap[w.heap.size]?=some (.deferred (some [])):=by
       rw[hF3.chg _ (iR.1 hmk).1 (IZ hS1 hmk)]
       exact hmk
      have L : ∀ {m:Nat} {inf:AV},As H' ⟨dep,nt,st.hp.gen dep nt,0⟩=some (m,inf)->m≠1 ->∃I:Loop,∃w4,D1 m I /\
       Steps E.P (lone (b.atR a (.code (.rangeFunc g ps assign body) :: k)) cs w) (lone (b.atR { a with defers:=[{ target := .collected w.heap.size,args := #[]}]++a.defers} ((I.pending.map Item.code).toList++k)) cs w4) /\
       Bo M3 X ⟨st.tm,H'.put ⟨dep,nt,st.hp.gen dep nt,0⟩ none⟩ nt { a with defers:=[{ target := .collected w.heap.size,args := #[]}]++a.defers} w4/\vp M ι st.hp.get w M3 X (H'.put ⟨dep,nt,st.hp.gen dep nt,0⟩ none).get w4 /\
       tq w w4 [w.heap.size]:=by
       intro m inf F hm
       obtain⟨_,_,_,_,_,I,_,g1,_,_,_,_,_,g7,_,g9⟩:=Cl hS3 hD3 hr3 F
       obtain⟨k1,k2,k3⟩:=g9 { I with state := .exhausted}
       have hnb:I.state ≠ .busy:=by
        match m,hm with
        | 0,_=>rw[g7.1];simp
        | 1,hm=>exact absurd rfl hm
        | 2,_=>rw[g7.1];simp
        | m+3,_=>rw[g7.1];simp
       refine⟨I,_,g7,Steps.trans hs1 (.one (stepR_endRangeFunc (run_endLoop g1 hnb))),⟨k1,k3,⟨λt=>(G.tr.mono Z.mem Z.map).at_ t⟩,G.nt⟩,Z.trans k2,⟨by simp,λD hD=>?_⟩⟩
       simp only[vS]at hD
       subst hD
       refine⟨de _,?_⟩
       show(bX w3 (w.heap.size+1) _).heap[w.heap.size]?=_
       rw[eN (by omega)]
       exact hmk3
      split at h
      ·rename_i F
       obtain⟨I,w4,K,Q,V,hF4,hM4⟩:=L F (by omega)
       rw[K.2]at Q
       exact GP.of_steps (rd:=none) (ds:=[w.heap.size]) (λ_ _=>Q) V.sim hF4 rfl hM4 (ih none nt dep k _ B h O M3 X _ w4 V b cs) u
      ·rename_i F
       obtain⟨I,w4,K,Q,V,hF4,hM4⟩:=L F (by omega)
       rw[K.2]at Q
       cases h
       intro _
       exact⟨_,w4,_,[w.heap.size],⟨M3,X,V,hF4⟩,rfl,hM4,Steps.trans Q (.one (stepR_ret u))⟩
      ·rename_i id F
       obtain⟨I,w4,K,Q,V,hF4,hM4⟩:=L F (by omega)
       rw[K.2]at Q
       split at h
       ·rename_i k' U
        exact GP.of_steps (rd:=none) (ds:=[w.heap.size]) (λ_ _=>Steps.trans Q (.one (stepR_exit U))) V.sim hF4 rfl hM4 (ih none nt dep k' _ B h (K1 U O) M3 X _ w4 V b cs) u
       ·cases h
      ·cases h
     ·cases h
    ·cases h
   ·cases h
  ·rename_i c k
   have T:codeOk ok c=true:=hi _ (jB ..)
   have O : ∀i∈k,o3 ok i=true:=λi h=>hi i (iA _ h)
   refine Y _ h ?_ (.one stepR_inLoop)
   intro i p
   rcases nB.1 p with rfl | p
   ·exact T
   ·rcases nB.1 p with rfl | p
    ·exact T
    ·exact O i p
  ·rename_i id k
   exact Y k h (λi h=>hi i (iA _ h)) (.one stepR_inBlock)
  ·rename_i id k
   exact Y k h (λi h=>hi i (iA _ h)) (.one (step_lone_go (by simp[stepG,stepG.exec,Frame.atR])))
  ·cases h
theorem Mz{E:Env}{ok:Array Oper->Bool}(b:E.Ok ok){n:Nat}{f:FuncId}{args:List AV}{y:AV}(h:cS E (cr E n) f args=some y):gP E.P f args y:=Gc b (abt b n) h
end
end Go.Ab
