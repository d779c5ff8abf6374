/-
  Maps of the abstract machine against the model's. No statement of a seat is proved here.
-/
import Derived.Conc.LoneCalls
import Derived.Test.YtmjkpdknicjjgaaGreatAbsOps
set_option linter.unusedVariables false
set_option linter.unusedSimpArgs false
set_option linter.unusedSectionVars false
set_option linter.unnecessarySimpa false
set_option linter.defProp false
namespace Go.Ab
section
def bT{c d:Type}{P:Program}(s:Sem c)(f:c->Sem d):bD P (s >>= f)=(bD P s).bind λa=>bD P (f a):=by
 induction s with| pure a=>rfl| program k b=>exact b P| mark m k b=>exact b| _=>rfl
def yd{b:Type}{P:Program}(a:b):bD P (pure a:Sem b)=some a:=rfl
def dummy(es:List MapEntry):List MapEntry:=es.map λe=>⟨e.key,Go.undef,0⟩
def Ic{d:TypeDesc}{k:Value} : ∀(es:List MapEntry)(i:Nat),(Instr.findNow d k es i=none↔Instr.findNow d k (dummy es) i=none)/\(Instr.findNow d k es i=some none↔Instr.findNow d k (dummy es) i=some none) /\
 ∀j v,Instr.findNow d k (dummy es) i=some (some (j,v))->i<=j /\∃e,es[j - i]?=some e/\Instr.findNow d k es i=some (some (j,e.val)):=by
 intro es;induction es with
 | nil=>intro i;simp[dummy,Instr.findNow]
 | cons e es n=>
  intro i;obtain⟨s,m,c⟩:=n (i+1);simp only[dummy,vG,Instr.findNow];cases t:Instr.sameNow d k e.key with
  | none=>simp
  | some b=>
   cases b with| true=>refine⟨by simp,by simp,λj v h=>?_⟩;simp only[dV,sI]at h;obtain⟨rfl,_⟩:=h;exact⟨bg _,e,by simp,rfl⟩| false=>refine⟨s,m,λj v h=>?_⟩;obtain⟨u,f,q,p⟩:=c j v h;refine⟨by omega,f,?_,p⟩;rw[show j - i=(j - (i+1))+1 by omega];simpa using q
def DN{P:Program}{d:TypeId}{k:Value} : ∀(es:List MapEntry)(i:Nat)(o:Option (Nat × Value)),bD P (Instr.findAsking d k (dummy es) i)=some o ->∀w:World,
 (o=none->(Instr.findAsking d k es i).run P w = .ok none w) /\∀j v,o=some (j,v)->i<=j /\∃e,es[j - i]?=some e/\(Instr.findAsking d k es i).run P w = .ok (some (j,e.val)) w:=by
 intro es;induction es with
 | nil=>intro i o h w;simp only[dummy,List.map_nil,Instr.findAsking,yd,dV]at h;subst h;exact⟨λ_=>rfl,λj v e=>by cases e⟩
 | cons e es m=>
  intro i o h w;simp only[dummy,vG,Instr.findAsking]at h;rw[bT]at h;obtain⟨b,p,h⟩:=iz.1 h;have f:=nU p w;cases b with
  | true=>simp only[if_true,yd,dV]at h;subst h;refine⟨λe=>by (cases e),λj v c=>?_⟩;cases c;exact⟨bg _,e,by simp,by simp[Instr.findAsking,f]⟩
  | false=>simp only[gj,iQh]at h;obtain⟨s,t⟩:=m (i+1) o h w;refine⟨λc=>by simp[Instr.findAsking,f,s c],λj v c=>?_⟩;obtain⟨x,q,u,n⟩:=t j v c;refine⟨by omega,q,?_,by simp[Instr.findAsking,f,n]⟩;rw[show j - i=(j - (i+1))+1 by omega];simpa using u
def sd{P:Program}{c:Bool}{n:TypeId}{k:Value}{es:List MapEntry}{o:Option Nat}(h:Cv P c n k (es.map (·.key))=some o)(w:World) :
 (Instr.checkKey c 10000 n k).run P w = .ok () w/\(o=none->(Instr.findKey n k es).run P w = .ok none w) /\∀j,o=some j ->∃e,es[j]?=some e/\(Instr.findKey n k es).run P w = .ok (some (j,e.val)) w:=by
 unfold Cv at h;split at h
 ·rename_i F;obtain⟨o',b,e⟩:=bG.1 h;have y:(es.map (·.key)).map (λx=>(⟨x,Go.undef,0⟩:MapEntry))=dummy es:=by simp[dummy,MU]
  rw[y]at b;unfold Instr.findKey at b;rw[bT]at b;obtain⟨d,hd,b⟩:=iz.1 b;have f:=nU hd w;refine⟨nU F w,?_⟩;obtain⟨B,C,u⟩:=Ic (d:=d) (k:=k) es 0;cases m:Instr.findNow d k (dummy es) 0 with
  | some r=>
   rw[m]at b;simp only[yd,dV]at b;subst b;cases r with
   | none=>
    simp only[zh]at e;subst e;refine⟨λ_=>?_,λj e=>?_⟩;·simp[Instr.findKey,f,C.2 m]
    cases e
   | some p=>obtain⟨s,v0⟩:=p;simp only[Option.map_some]at e;subst e;refine⟨λe=>(by cases e),λj e=>?_⟩;cases e;obtain⟨_,q,t,v⟩:=u s v0 m;exact⟨q,by simpa using t,by simp[Instr.findKey,f,v]⟩
  | none=>
   rw[m]at b;simp only at b;obtain⟨G,t⟩:=DN es 0 o' b w;have i:=B.2 m;cases o' with
   | none=>
    simp only[zh]at e;subst e;refine⟨λ_=>?_,λj e=>?_⟩;·simp[Instr.findKey,f,i,G rfl]
    cases e
   | some p=>obtain⟨s,v0⟩:=p;simp only[Option.map_some]at e;subst e;refine⟨λe=>(by cases e),λj e=>?_⟩;cases e;obtain⟨_,q,D,z⟩:=t s v0 rfl;exact⟨q,by simpa using D,by simp[Instr.findKey,f,i,z]⟩
 cases h
def xX{P:Program}{t b c:TypeId}(h:Np P t=some (b,c)):P.underlying t=some (.map b c):=by
 unfold Np at h;split at h;·rename_i k e d;cases h;exact d
 cases h
section
variable{P:Program}{M:Mem}{ι:Map}{g:cL}{w:World}{r:Ref}
def Ag(I:gA M ι g w){d:List AV}(p:ni g r=some d){l:Loc}(L:ι r=some l)(O:l.esz=0) :
 ∃a f c,g r=some ⟨0,.v (.bool true) :: d,a,f⟩/\w.heap[l.b]?=some (.map c c.size)/\c.size=d.length /\
  (∀(i:Nat) ent e,d[i]?=some ent->c[i]?=some e ->∃s t,ent = .tup [s,t]/\kr s=some e.key/\VR M ι t e.val/\e.born=i) /\∀x,d.mapM Hf=some x->x=c.toList.map (·.key):=by
 unfold ni at p;split at p
 ·rename_i es f C;cases p;obtain⟨R,n,D⟩:=I.live r _ C;rw[L]at n;cases n;rcases D.objOk rfl with ⟨_,_,_,_,_,_,_,_,_,h,_⟩ | ⟨q,c,N,Q,h,H,F,B⟩ | ⟨_,_,_,_,_,_,_,_,h,_⟩
  ·simp at h
  rotate_left
  ·simp at h
  simp only[wB,iQt]at h;subst h;refine⟨false,f,c,C,H,F,B,λx j=>?_⟩;have G:=gK j;apply Jg;intro i;rcases eU i c.size with hi | hi
  ·have m:i<d.length:=(by omega);obtain⟨y,J,u⟩:=lE j i _ (de m);obtain⟨s,t,K,z,_⟩:=B i _ c[i] (de m) (kn hi);rw[J];rw[K]at u;simp only[Hf]at u;rw[u]at z;cases z;simp[kn hi]
  rw[wE (by rw[G];omega),wE (by simp;omega)]
 cases p
def NV(hS:gA M ι g w){t:TypeId}{x k y:AV}{R N:Value}(X:VR M ι x R)(hk:VR M ι k N){ok:Bool}{bs:List aY}(h:oo P g t (some x) (some k) ok=some (y,bs)) :
 bs=[] /\∃u,(Instr.lookup t R N ok).run P w = .ok u w/\VR M ι y u:=by
 have G : ∀ {v:AV} {u:Value} (b:Bool),VR M ι v u->VR M ι (if ok then .tup [v,.v (.bool b)] else v) (if ok then .tuple #[u,.bool b] else u):=by
  intro v u b j;cases ok with
  | false=>exact j
  | true=>
   refine .tup (by simp) rfl λi c u' H q=>?_;match i with
   | 0=>simp at H q;subst H;subst q;exact j
   | 1=>simp at H q;subst H;subst q;exact .v rfl
   | i+2=>simp at H
 unfold oo at h;split at h
 ·rename_i kt et r' kv T L J;cases L;cases X with | mp hr hz=>
  rename_i l;have I:N=kv:=by simpa using uw hk (by simpa using J)
  subst I;split at h
  ·rename_i U hm;obtain⟨a,f,entries,hg,V,hsz,C,O⟩:=Ag hS hm hr hz;split at h
   ·rename_i S s;have d:=O S s;have m:entries.isEmpty=S.isEmpty:=by rw[d];simp
    split at h
    ·rename_i i D;rw[d]at D;obtain⟨v,j,h⟩:=bG.1 h;cases h;obtain⟨B,_,W⟩:=sd D w;obtain⟨e,he,F⟩:=W i rfl;obtain⟨Q,n,j⟩:=iz.1 j;obtain⟨ka,va,Y,e2,e3⟩:=C i Q e n (by simpa using he);subst Y;simp only[Ka,dV]at j;subst j;refine⟨rfl,_,?_,G true e3.1⟩;rw[<-d,<-m]at B;have p:(getObj l.b).run P w = .ok (.map entries entries.size) w:=by simp[getObj,Sem.run,V]
     simp only[Instr.lookup,iQe,iQj,bB (xX T),iQd,p,B,F]
    ·rename_i D;rw[d]at D;obtain⟨z,K,h⟩:=bG.1 h;cases h;obtain⟨B,Z,_⟩:=sd D w;obtain⟨u,q,j⟩:=xf K w;refine⟨rfl,_,?_,G false (jo j)⟩;rw[<-d,<-m]at B;have p:(getObj l.b).run P w = .ok (.map entries entries.size) w:=by simp[getObj,Sem.run,V]
     simp only[Instr.lookup,iQe,iQj,bB (xX T),iQd,p,B,Z rfl,q]
    cases h
   cases h
  cases h
 cases h
def NW(y:gA M ι g w){n:Array TypeId}{ty:TypeId}{r':Ref}{x:AV}{j:Value}(z:VR M ι (.mp r') j){bs:List aY}(h:Ac P g n[0]? r'=some (x,bs)) :
 bs=[] /\∃u,(Builtin.len_ n ty #[j]).run P w = .ok u w/\VR M ι x u:=by
 unfold Ac at h;split at h
 ·rename_i p m c q;obtain⟨t,c,e⟩:=iz.1 c;cases h;cases z with | mp C B=>
  rename_i l;obtain⟨a,f,entries,D,s,i,_,_⟩:=Ag y q C B;have d:(getObj l.b).run P w = .ok (.map entries entries.size) w:=by simp[getObj,Sem.run,s]
  refine⟨rfl,goInt entries.size,by simp[Builtin.len_,c,bB (xX e),d],?_⟩;rw[<-i];exact .v rfl
 cases h
def ID(n:gA M ι g w)(L:ι r=none){w':World}{o:Obj}(f:C5 w w' o){k:aY}(B:nJ M (iq ι r ⟨w.heap.size,0,0⟩) w' ⟨w.heap.size,0,0⟩ k) :
 gA M (iq ι r ⟨w.heap.size,0,0⟩) (lL g r k) w'/\tz M ι g w M (iq ι r ⟨w.heap.size,0,0⟩) (lL g r k) w':=by
 have d:=EW (l:=⟨w.heap.size,0,0⟩) L;have p : ∀b o x,M b o=some x->b<w.heap.size:=λb o x h=>iQm w ⟨b,o,none⟩ (n.mem b o x h);have one : ∀ {q:Ref} {k' c},lL g r k q=some k'->iq ι r ⟨w.heap.size,0,0⟩ q=some c->(q=r/\c.b=w.heap.size)\/(q≠r/\g q=some k'/\ι q=some c/\c.b<w.heap.size):=by
  intro q k' c h j;unfold lL at h;unfold iq at j;split at h;·rename_i e;rw[if_pos e]at j;cases j;exact .inl ⟨e,rfl⟩
  rename_i e;rw[if_neg e]at j;obtain⟨D,s,C⟩:=n.live q k' h;rw[j]at s;cases s;exact .inr ⟨e,h,j,C.lt⟩
 refine⟨⟨λb o x h=>f.cell (n.mem b o x h),λq k' h=>?_,λq K k1 O c D u y F J I=>?_⟩,⟨f.os,f.tape,f.output,by rw[f.heap];simp,λb H _=>f.old b H,λ_ _ _ h=>h,d,λq k' c u y=>?_,λ_ _ _ h => .inl h⟩⟩
 ·unfold lL at h;split at h;·rename_i e;subst e;cases h;exact⟨⟨w.heap.size,0,0⟩,by simp[iq],B.Sa rfl λo x G=>absurd (p _ _ _ G) (vH _)⟩
  obtain⟨c,v,i⟩:=n.live q k' h;exact⟨c,d q c v,i.bk (λ_ _ _ h=>h) d (f.old _ i.lt) i.frozen⟩
 ·rcases one u F with ⟨t,m⟩ | ⟨t,m,z,N⟩<;>rcases one y J with ⟨f1,f2⟩ | ⟨f1,f2,f3,f4⟩
  ·rw[t,f1]
  ·omega
  ·omega
  exact n.inj q K k1 O c D m f2 z f3 I
 rcases one u y with ⟨t,m⟩ | ⟨t,m,z,N⟩
 ·exact .inl (by omega)
 exact .inr ⟨q,k',c,m,z,rfl⟩
def Lo(s:gA M ι g w)(d:r.k=0)(j:ι r=none)(t:TypeId) :
 ∃u w',(Instr.makeMap t none).run P w = .ok u w'/\jS M ι g w r (.mp r) [oV []] u w':=by
 have b:C5 w (w.alloc (.map #[] 0)) (.map #[] 0):=⟨rfl,rfl,rfl,rfl⟩;obtain⟨m,f⟩:=ID s j b (k:=oV []) (.inr (.inl ⟨[], #[],rfl,rfl,rfl,by rw[b.heap];simp,rfl,λi p e h=>by simp at h⟩));refine⟨.map (some w.heap.size),w.alloc (.map #[] 0),by simp[Instr.makeMap,run_newObj_alloc],M,iq ι r ⟨w.heap.size,0,0⟩,.mp (l:=⟨w.heap.size,0,0⟩) (by simp[iq]) rfl,by rw[qX _ _ d];exact m,by rw[qX _ _ d];exact f,?_⟩;intro q c n;have:q≠r:=by intro e;exact n 0 (by simp) (by rw[e];cases r;simp_all)
 simpa [iq,this] using c
def uE{H:aa}{l:Loc}{k:aY}(m:gA M ι H.get w)(S:rN ι H)(y:ι r=some l)(L:l.esz=0)(t:H.get r=some k){k':aY}{o':Obj}(I:nJ M ι (ca w l.b o') l k') :
 gA M ι (H.put r (some k')).get (ca w l.b o')/\tz M ι H.get w M ι (H.put r (some k')).get (ca w l.b o')/\rN ι (H.put r (some k')):=by
 obtain⟨Y,u,K⟩:=m.live r _ t;rw[y]at u;cases u;have G:k.esz=0:=by rw[<-K.esz];exact L
 have N : ∀o x,M l.b o=some x->False:=by
  intro o x v;have:=m.mem _ _ _ v;rcases(K.objOk G).obj with ⟨_,f⟩ | ⟨_,_,f⟩ | ⟨_,_,_,_,_,_,f⟩
  ·simp[World.cell?,f]at this
  ·simp[World.cell?,f]at this
  simp[World.cell?,f]at this
 have c : ∀q k1,(H.put r (some k')).get q=some k1 ->∃n,H.get q=some n:=by
  intro q k1 d;rw[aa.ab]at d;split at d;·rename_i e;exact⟨_,e ▸ t⟩
  exact⟨k1,d⟩
 refine⟨⟨λb o x v=>?_,λq k1 d=>?_,λq O k1 W j U B D Q f R=>?_⟩,⟨rfl,rfl,rfl,by simp[ca],λb _ z=>eY (z r _ l t y),λ_ _ _ h=>h,λ_ _ h=>h,λq k1 j B D=>?_,λ_ _ _ h => .inl h⟩,λq V d=>?_⟩;·have C:l.b≠b:=λe=>N o x (e ▸ v);rw[iQk (w:=w) (eY C)];exact m.mem b o x v
 ·by_cases i:q=r;·subst i;rw[aa.ab,if_pos rfl]at d;cases d;exact⟨l,y,I.Sa L N⟩
  rw[aa.ab,if_neg i]at d;obtain⟨j,p,s⟩:=m.live q k1 d;have F:l.b≠j.b:=λe=>i (m.inj q r k1 _ j l d t p y e.symm);exact⟨j,p,s.bk (λ_ _ _ h=>h) (λ_ _ h=>h) (eY F) s.frozen⟩
 ·obtain⟨n,J⟩:=c q k1 B;obtain⟨T,X⟩:=c O W D;exact m.inj q O n T j U J X Q f R
 ·obtain⟨n,J⟩:=c q k1 B;exact .inr ⟨q,n,j,J,D,rfl⟩
 rw[aa.dK _ _ _ (by rw[t];rfl)];exact S q V d
def HE{H:aa}(hS:gA M ι H.get w)(hD:rN ι H){t:TypeId}{m k x y:AV}{um s I:Value}(hm:VR M ι m um)(hk:VR M ι k s)(hx:VR M ι x I){H':aa}(h:jn P H t (some m) (some k) (some x)=some (y,H')) :
 ∃w',(Instr.mapUpdate t um s I).run P w = .ok () w'/\oA M ι H w y H' undef w':=by
 unfold jn at h;split at h
 ·rename_i kt et r' k' x' ht N e2 e3;cases N;cases e2;cases e3;cases hm with | mp U hz=>
  rename_i l;split at h
  ·rename_i kv u G X;have S:s=kv:=uw hk G;subst S;obtain⟨a,f,entries,hg,Z,C,p,Y⟩:=Ag hS X U hz;have K:l.b<w.heap.size:=(iT.1 Z).1;have Q:(getObj l.b).run P w = .ok (.map entries entries.size) w:=by simp[getObj,Sem.run,Z]
   have J : ∀o,(setObj l.b o).run P w = .ok () (ca w l.b o):=by intro o;simp[setObj,Sem.run,Z,ca]
   split at h
   ·rename_i ks L;have n:=Y ks L;split at h
    ·rename_i i O;rw[n]at O;obtain⟨hc,h⟩:=eQ.1 h;cases h;obtain⟨T,_,h3⟩:=sd O w;obtain⟨e,he,R⟩:=h3 i rfl;have q:entries[i]?=some e:=by simpa using he
     have hil:i<entries.size:=(iT.1 q).1;have V:Instr.sameBits 10000 e.key s=true:=(by rw[n]at hc;simp only[kR,Fe,q,Option.map_some,dV]at hc;exact hc);have D:(Instr.keyThatStays (((entries[i]?).map (·.key)).getD s) s).run P w = .ok s w:=(by rw[q];simp[Instr.keyThatStays,V]);refine⟨ca w l.b (.map (entries.modify i λe => { e with key:=s,val:=I}) entries.size),by simp only[Instr.mapUpdate,iQe,bB (xX ht),iQd,Q,T,R,D,J],M,ι,.v rfl,?_⟩;refine uE hS hD U hz hg (.inr (.inl ⟨u.set i (.tup [k,x]),entries.modify i λe => { e with key:=s,val:=I},rfl,rfl,rfl,?_,by simp[C],λj F N d c=>?_⟩));·rw[gI K];simp
     rw[Fz]at c;by_cases B:i=j;·subst B;rw[if_pos rfl,q]at c;simp only[Option.map_some,dV]at c;subst c;rw[Dg (by omega)]at d;cases d;obtain⟨_,_,_,_,_,hb⟩:=p i _ e (de (by omega)) q;exact⟨k,x,rfl,G,hx,hb⟩
     rw[if_neg B]at c;rw[Fx B]at d;exact p j F N d c
    ·rename_i O;rw[n]at O;cases h;obtain⟨T,h2,_⟩:=sd O w;refine⟨ca w l.b (.map (entries.push { key:=s,val:=I,born:=entries.size}) (entries.size+1)),by simp only[Instr.mapUpdate,iQe,bB (xX ht),iQd,Q,T,h2 rfl,J],M,ι,.v rfl,?_⟩;refine uE hS hD U hz hg (.inr (.inl ⟨u++[.tup [k,x]],entries.push { key:=s,val:=I,born:=entries.size},rfl,rfl,rfl,?_,by simp[C],λj F N d c=>?_⟩));·rw[gI K];simp
     rcases eU j entries.size with z | hge
     ·rw[D4 z,<-kn z]at c;rw[jG (by omega)]at d;exact p j F N d c
     rw[ic (by omega)]at d;have W:j=entries.size:=(by have:=(dT.1 d).1;simp at this;omega);subst W;simp only[C,rz,Jm,dV]at d;subst d;simp at c;subst c;exact⟨k,x,rfl,G,hx,rfl⟩
    cases h
   cases h
  cases h
 cases h
def Ju{H:aa}(hS:gA M ι H.get w)(hD:rN ι H){t:TypeId}{m k y:AV}{um D:Value}(hm:VR M ι m um)(hk:VR M ι k D){H':aa}(h:pG P H t (some m) (some k)=some (y,H')) :
 ∃u w',(Instr.mapEntry t um D).run P w = .ok u w'/\oA M ι H w y H' u w':=by
 have Y : ∀ {v:AV} {u:Value} (n:Nat),VR M ι v u->VR M ι (.tup [v,.v (.int .i64 n)]) (.tuple #[u,goInt n]):=by
  intro v u n G;refine .tup (by simp) rfl λi c u' J S=>?_;match i with
  | 0=>simp at J S;subst J;subst S;exact G
  | 1=>simp at J S;subst J;subst S;exact .v rfl
  | i+2=>simp at J
 unfold pG at h;split at h
 ·rename_i kt et r' k' ht W e2;cases W;cases e2;cases hm with | mp hr hz=>
  rename_i l;split at h
  ·rename_i kv p R hma;have huk:D=kv:=uw hk R;subst huk;obtain⟨a,f,entries,hg,hh,I,C,hks⟩:=Ag hS hma hr hz;have U:l.b<w.heap.size:=(iT.1 hh).1;have Z:(getObj l.b).run P w = .ok (.map entries entries.size) w:=by simp[getObj,Sem.run,hh]
   have T : ∀o,(setObj l.b o).run P w = .ok () (ca w l.b o):=by intro o;simp[setObj,Sem.run,hh,ca]
   split at h
   ·rename_i ks V;have B:=hks ks V;split at h
    ·rename_i i X;rw[B]at X;obtain⟨J,h⟩:=eQ.1 h;obtain⟨v,G,h⟩:=bG.1 h;cases h;obtain⟨h1,_,h3⟩:=sd X w;obtain⟨e,he,hrun⟩:=h3 i rfl;have q:entries[i]?=some e:=by simpa using he
     have hil:i<entries.size:=(iT.1 q).1;have hsb:Instr.sameBits 10000 e.key D=true:=(by rw[B]at J;simp only[kR,Fe,q,Option.map_some,dV]at J;exact J);have Q:(Instr.keyThatStays (((entries[i]?).map (·.key)).getD D) D).run P w = .ok D w:=(by rw[q];simp[Instr.keyThatStays,hsb]);obtain⟨F,N,G⟩:=iz.1 G;obtain⟨ka,va,q1,q2,q3,q4⟩:=C i F e N q;subst q1;simp only[Ka,dV]at G;subst G;refine⟨.tuple #[e.val,goInt i],ca w l.b (.map (entries.modify i λe => { e with key:=D}) entries.size),?_,M,ι,Y i q3,?_⟩
     ·have O:(Option.map (λx:MapEntry=>(x.born:Int)) entries[i]?).getD 0=(i:Int):=by rw[q];simp[q4]
      simp only[Instr.mapEntry,iQe,iQj,bB (xX ht),iQd,Z,h1,hrun,Q,T,O]
     refine uE hS hD hr hz hg (.inr (.inl ⟨p.set i (.tup [k,va]),entries.modify i λe => { e with key:=D},rfl,rfl,rfl,?_,by simp[I],λj F W s d=>?_⟩));·rw[gI U];simp
     rw[Fz]at d;by_cases L:i=j;·subst L;rw[if_pos rfl,q]at d;simp only[Option.map_some,dV]at d;subst d;rw[Dg (by omega)]at s;cases s;exact⟨k,va,rfl,R,q3,q4⟩
     rw[if_neg L]at d;rw[Fx L]at s;exact C j F W s d
    ·rename_i X;rw[B]at X;obtain⟨z,hzz,h⟩:=bG.1 h;cases h;obtain⟨h1,h2,_⟩:=sd X w;obtain⟨uz,S,G⟩:=xf hzz w;refine⟨.tuple #[uz,goInt p.length],ca w l.b (.map (entries.push { key:=D,val:=uz,born:=entries.size}) (entries.size+1)),?_,M,ι,Y p.length (jo G),?_⟩;·simp only[Instr.mapEntry,iQe,iQj,bB (xX ht),iQd,Z,h1,h2 rfl,S,T,I]
     refine uE hS hD hr hz hg (.inr (.inl ⟨p++[.tup [k,z]],entries.push { key:=D,val:=uz,born:=entries.size},rfl,rfl,rfl,?_,by simp[I],λj F W s d=>?_⟩));·rw[gI U];simp
     rcases eU j entries.size with K | hge
     ·rw[D4 K,<-kn K]at d;rw[jG (by omega)]at s;exact C j F W s d
     rw[ic (by omega)]at s;have hj0:j=entries.size:=(by have:=(dT.1 s).1;simp at this;omega);subst hj0;simp only[I,rz,Jm,dV]at s;subst s;simp at d;subst d;exact⟨k,z,rfl,R,jo G,rfl⟩
    cases h
   cases h
  cases h
 cases h
def FH{H:aa}(S:gA M ι H.get w)(hD:rN ι H){t:TypeId}{m s x y:AV}{O us B:Value}(hm:VR M ι m O)(V:VR M ι s us)(W:VR M ι x B){H':aa}(h:la H (some m) (some s) (some x)=some (y,H')) :
 ∃w',(Instr.entryStore t O us B).run P w = .ok () w'/\oA M ι H w y H' undef w':=by
 unfold la at h;split at h
 ·rename_i r' kd n x' F Y e3;cases F;cases Y;cases e3;cases hm with | mp R T=>
  rename_i l;cases V;split at h
  ·rename_i u G;obtain⟨hn,h⟩:=eQ.1 h;split at h
   ·rename_i Q va z;cases h;obtain⟨a,f,entries,hg,I,L,d,_⟩:=Ag S G R T;have D:l.b<w.heap.size:=(iT.1 I).1;have J:(getObj l.b).run P w = .ok (.map entries entries.size) w:=by simp[getObj,Sem.run,I]
    have C : ∀o,(setObj l.b o).run P w = .ok () (ca w l.b o):=by intro o;simp[setObj,Sem.run,I,ca]
    have i:n.toNat<entries.size:=by have:=(dT.1 z).1;omega
    have born : ∀j (p:j<entries.size),entries[j].born=j:=(by intro j p;obtain⟨_,_,_,_,_,X⟩:=d j _ entries[j] (de (by omega)) (kn p);exact X);have K:entries.findIdx? (λe=>(e.born:Int) == n)=some n.toNat:=by
     rw[Array.findIdx?_eq_some_iff_getElem];refine⟨i,?_,λj p=>?_⟩;·rw[born _ i];simp;omega
     rw[born j (by omega)];simp;omega
    obtain⟨ka',Z,U,q2,q3,q4⟩:=d n.toNat _ entries[n.toNat] z (kn i);cases U;refine⟨ca w l.b (.map (entries.modify n.toNat λe => { e with val:=B}) entries.size),?_,M,ι,.v rfl,?_⟩;·simp only[Instr.entryStore,iQe,iQj,iQd,J,asInt,asIntOf,K,C]
    refine uE S hD R T hg (.inr (.inl ⟨u.set n.toNat (.tup [Q,x]),entries.modify n.toNat λe => { e with val:=B},rfl,rfl,rfl,?_,by simp[L],λj N F p c=>?_⟩));·rw[gI D];simp
    rw[Fz]at c;by_cases q:n.toNat=j;·subst q;rw[if_pos rfl,kn i]at c;simp only[Option.map_some,dV]at c;subst c;rw[Dg (by omega)]at p;cases p;exact⟨Q,x,rfl,q2,W,q4⟩
    rw[if_neg q]at c;rw[Fx q]at p;exact d j N F p c
   cases h
  cases h
 cases h
def Hi{g:cL}{r:Ref}{cap:Nat}{c:Bool}{b:List AV}(h:Vl g r=some (cap,c,b)) :
 ∃n f,g r=some ⟨0,.v (.bool false) :: .v (.int .i64 n) :: .v (.bool c) :: b,false,f⟩/\n.toNat=cap:=by
 unfold Vl at h;split at h;·rename_i n e d f i;cases h;exact⟨n,f,i,rfl⟩
 cases h
def Kg(D:gA M ι g w){r:Ref}{l:Loc}(I:ι r=some l){cap:Nat}{p:Bool}{d:List AV}(h:Vl g r=some (cap,p,d)) :
 ∃s t arr,w.heap[l.b]?=some (.chan cap arr p s t false)/\arr.size=d.length /\∀(i:Nat) x u,d[i]?=some x->arr[i]?=some u->VR M ι x u:=by
 obtain⟨n,f,G,K⟩:=Hi h;obtain⟨L,j,y⟩:=D.live r _ G;rw[I]at j;cases j;rcases y.objOk rfl with ⟨_,_,_,_,_,_,_,_,_,e,_⟩ | ⟨_,_,_,_,e,_⟩ | ⟨c,s,t,q,m,arr,_,_,e,C,z,F⟩
 ·simp at e
 ·simp at e
 simp only[wB,AV.v.injEq,Value.int.injEq,Value.bool.injEq,iQt]at e;obtain⟨J,B,H⟩:=e;subst B H;have:c=cap:=by omega
 subst this;exact⟨s,t,arr,C,z,F⟩
def JT(C:gA M ι g w)(y:r.k=0)(F:ι r=none){t e:TypeId}{b:Nat}(f:KV P t=some e)(s:gX P e=some b)(k:IntKind)(n:Nat)(H:n<=1000000)(m:b<=1000000) :
 ∃u w',(Instr.makeChan t (.int k n)).run P w = .ok u w'/\jS M ι g w r (.ch r) [Hh n false []] u w':=by
 unfold KV at f;split at f
 ·rename_i B I z;cases f;unfold gX at s;obtain⟨i,hi,p⟩:=bG.1 s;have d:C5 w (w.alloc (.chan n #[] false 0 0 false)) (.chan n #[] false 0 0 false):=⟨rfl,rfl,rfl,rfl⟩;obtain⟨v,D⟩:=ID C F d (k:=Hh n false []) (.inr (.inr ⟨n,0,0,false,[], #[],rfl,rfl,rfl,by rw[d.heap];simp,rfl,λi x u h=>by simp at h⟩));have c:(i.bytes:Int) * n<=281474976710544:=by
   have J:i.bytes * n<=1000000 * 1000000:=Nat.mul_le_mul (p ▸ m) H;have v:((i.bytes * n:Nat):Int)=(i.bytes:Int) * n:=by simp
   omega
  refine⟨_,_,Go.Conc.run_makeChan z hi k n (by omega) c,M,iq ι r ⟨w.heap.size,0,0⟩,.ch (l:=⟨w.heap.size,0,0⟩) (by simp[iq]) rfl,by rw[qX _ _ y];exact v,by rw[qX _ _ y];exact D,?_⟩;intro q j G;have:q≠r:=by intro e;exact G 0 (by simp) (by rw[e];cases r;simp_all)
  simpa [iq,this] using j
 cases f
def Gd(w:World)(c cap:Nat)(b:Array Value)(d:Bool)(s r:Nat):w.setChan c cap b d s r false=ca w c (.chan cap b d s r false):=rfl
def Hv(P:Program)(o:Oper)(a:Act)(w:World)(S:Value->World->Prop):Prop:=
 ∀(b:Frame)(k:List Item)(cs:List Frame)(ops:Array Oper)(i:Nat)(rest:List Nat),b.kind = .normal->ops[i]?=some o->Region.wanted o (yielded ops a.tmps)=true ->
  ∃u w',S u w'/\step P (lone (b.atR a (.inRegion ops (i :: rest) :: k)) cs w) = .next (lone (b.atR (a.put o.dst u) (.inRegion ops rest :: k)) cs w')
def zm{P:Program}{b:Frame}{a:Act}{k:List Item}{cs:List Frame}{w w':World}{ops:Array Oper}{i:Nat}{rest:List Nat}{o:Oper}{cases:Array CommCase}{shape:CommShape}(h:b.kind = .normal)(m:ops[i]?=some o)
 (f:Region.wanted o (yielded ops a.tmps)=true) (hd : ∀c,o.op ≠ .defer c) (j:(execOp a.eval o).run P w = .ok (.comm cases true shape) w') :
 ∃es,stepG P true (Go.Conc.G (b.atR a (.inRegion ops (i :: rest) :: k)) cs) w = .comm (Go.Conc.G (b.atR a (.inRegion ops (i :: rest) :: k)) cs) cases true shape w' es:=by
 have e:=stepGR_op (P:=P) (b:=b) (k:=k) (cs:=cs) (w:=w) (rest:=rest) m f;rw[Oper.semAt_eq _ _ _ hd]at e;unfold Go.Conc.G;rw[e];have d:(b.kind == CallKind.early)=false:=by rw[h];rfl
 refine⟨Go.Conc.listed P b.fn a o w,?_⟩;simp[stepG.apply,j,Frame.atR,d,GStep.after,Go.Conc.listed]
def SQ{P:Program}{o:Oper}{a:Act}{H:aa}(R:gA M ι H.get w)(X:rN ι H){I B:Operand}(q:o.op = .send I B){c x y:AV}{H':aa}(S:VR M ι c (a.eval I))(U:VR M ι x (a.eval B))
 (h:FF H (some c) (some x)=some (y,H')):Hv P o a w λu w'=>oA M ι H w y H' u w':=by
 unfold FF at h;split at h
 ·rename_i r x' e1 W;cases e1;cases W;split at h
  ·rename_i cap e m;obtain⟨⟨Z,hfl⟩,h⟩:=eQ.1 h;cases h;generalize K:a.eval I=cv at S;cases S with | @ch _ _ l O hz=>
   obtain⟨s,t,arr,Q,L,G⟩:=Kg R O m;obtain⟨n,f,hg,_⟩:=Hi m;have V:l.b<w.heap.size:=(iT.1 Q).1;intro b k cs ops i rest hk T hw;obtain⟨es,D⟩:=zm (P:=P) (b:=b) (a:=a) (k:=k) (cs:=cs) (w:=w) (w':=w) (rest:=rest) (cases := #[Go.Conc.scase l.b (a.eval B) (.tuple #[])]) (shape := .send) hk T hw (by simp[q]) (by simp[execOp,q,Go.Conc.scase,K]);have C:=Go.Conc.step_lone_send_room D Q (by omega);obtain⟨k1,k2,Y⟩:=uE R X O hz hg (k':=Hh cap false (e++[x])) (o' := .chan cap (arr.push (a.eval B)) false (s+1) t false)
    (.inr (.inr ⟨cap,s+1,t,false,e++[x],arr.push (a.eval B),rfl,rfl,rfl,gI V,by simp[L],λj z u d p=>by
     rcases eU j e.length with F | F
     ·rw[jG F]at d;rw[D4 (by omega)]at p;exact G j z u d (by rw[<-p];exact kn (by omega))
     rw[ic F]at d;have J:j - e.length=0:=(by have:=(dT.1 d).1;simp at this;omega);rw[J]at d;have N:j=arr.size:=by omega
     rw[N,Array.getElem?_push_size]at p;simp at d p;subst d p;exact U⟩))
   refine⟨undef,_,⟨M,ι,.v rfl,k1,k2,Y⟩,?_⟩;rw[Go.Conc.lone_eq_solo,C,iQr,T,Go.Conc.lone_eq_solo,Gd];rfl
  cases h
 cases h
def PZ{M:Mem}{ι:Map}{x:AV}{u:Value}(ok b:Bool)(h:VR M ι x u):VR M ι (abD ok x b) (Go.Conc.got ok u b):=by
 cases ok with| false=>exact h| true=>
  refine .tup (by simp) rfl λi c v d e=>?_;match i with
  | 0=>simp at d e;subst d e;exact h
  | 1=>simp at d e;subst d e;exact .v rfl
  | i+2=>simp at d
def SR{P:Program}{o:Oper}{a:Act}{H:aa}(O:gA M ι H.get w)(hD:rN ι H){t:TypeId}{T:Operand}{ok:Bool}(D:o.op = .recv t T ok){c y:AV}{H':aa}(hc:VR M ι c (a.eval T))
 (h:Im P H t (some c) ok=some (y,H')):Hv P o a w λu w'=>oA M ι H w y H' u w':=by
 unfold Im at h;split at h
 ·rename_i r z e1 F;cases e1;generalize Z:a.eval T=cv at hc;cases hc with | @ch _ _ l S hz=>
  obtain⟨e,he,J⟩:=iz.1 F;unfold KV at he;split at he
  ·rename_i dir e' G;cases he;unfold eP at J;obtain⟨v0,X,V⟩:=iz.1 J;obtain⟨inf,hi,Y⟩:=iz.1 X;have Q:VR M ι z v0:=jo V;have q:(execOp a.eval o).run P w = .ok (.comm #[Go.Conc.rcase l.b v0] true (.recv ok)) w:=by
    simp[execOp,D,Go.Conc.rcase,Z,run_underlying G,zeroValue,typeInfo,hi,Y]
   split at h
   ·rename_i cap W x I d;cases h;obtain⟨s,t',arr,N,m,C⟩:=Kg O S d;obtain⟨n,f,hg,_⟩:=Hi d;have hb:l.b<w.heap.size:=(iT.1 N).1;have p:0<arr.size:=by rw[m];simp
    intro b k cs ops i rest R L U;obtain⟨es,B⟩:=zm (P:=P) (b:=b) (a:=a) (k:=k) (cs:=cs) (w:=w) (w':=w) (rest:=rest) R L U (by simp[D]) q;have v:=Go.Conc.step_lone_recv_buf ok B N p;obtain⟨k1,k2,k3⟩:=uE O hD S hz hg (k':=Hh cap W I) (o' := .chan cap (arr.extract 1 arr.size) W s (t'+1) false)
     (.inr (.inr ⟨cap,s,t'+1,W,I,arr.extract 1 arr.size,rfl,rfl,rfl,gI hb,by simp[m],λj z u K G=>by
      refine C (j+1) z u (by simpa using K) ?_;have hj:=(dT.1 K).1;rw[Array.getElem?_extract]at G;rw[Nat.add_comm j 1];split at G;·exact G
      cases G⟩))
    refine⟨_,_,⟨M,ι,PZ ok true (C 0 x (arr.getD 0 undef) rfl (by simp[Array.getD,p])),k1,k2,k3⟩,?_⟩;rw[Go.Conc.lone_eq_solo,v,iQr,L,Go.Conc.lone_eq_solo,Gd];rfl
   ·rename_i cap d;cases h;obtain⟨s,t',arr,N,m,C⟩:=Kg O S d;have ha:arr = #[]:=Ky (by simpa using m);subst ha;intro b k cs ops i rest R L U;obtain⟨es,B⟩:=zm (P:=P) (b:=b) (a:=a) (k:=k) (cs:=cs) (w:=w) (w':=w) (rest:=rest) R L U (by simp[D]) q;have v:=Go.Conc.step_lone_recv_shut ok B N;refine⟨_,_,⟨M,ι,PZ ok false Q,O,tz.refl,hD⟩,?_⟩;rw[Go.Conc.lone_eq_solo,v,iQr,L,Go.Conc.lone_eq_solo];rfl
   cases h
  cases he
 cases h
def PM{P:Program}{o:Oper}{a:Act}{w:World}{K:Act->World->Prop}{ops:Array Oper}{i:Nat}(x:ops[i]?=some o)(C:Region.wanted o (yielded ops a.tmps)=true)(b:Frame)
 (h:o.wpIn (FW b.roundOf) 0 P a w K (λ_ _ _=>False)) (rest:List Nat) (k:List Item) (cs:List Frame) :
 ∃B w',K B w'/\Steps P (lone (b.atR a (.inRegion ops (i :: rest) :: k)) cs w) (lone (b.atR B (.inRegion ops rest :: k)) cs w'):=by
 obtain⟨_,h⟩:=h;have s:=stepGR_op (P:=P) (b:=b) (k:=k) (cs:=cs) (w:=w) (rest:=rest) x C;have j : ∀v,(b.atR a (.inRegion ops (i :: rest) :: k)).finish v=b.atR (a.put o.dst v) (.inRegion ops rest :: k):=by
  intro v;rw[iQr,x];rfl
 have m : ∀n,(FW b.roundOf).room n:=λn _ h=>by simp[FW,Fence.wide]at h
 rw[show(FW b.roundOf).round=b.roundOf from rfl]at h;unfold Oper.uponIn at h;split at h;·rename_i v w' p;refine⟨_,_,h,.one (iQo ?_)⟩;rw[s,<-j];simp[stepG.apply,p]
 ·rename_i w' p;refine⟨_,_,h,.one (iQo ?_)⟩;rw[s,<-j];simp[stepG.apply,p]
 ·rename_i d w' p;refine⟨_,_,h,.one (iQo ?_)⟩;have F:({ b.atR a (.inRegion ops (i :: rest) :: k)with defers:=d :: a.defers}:Frame).finish undef =
   b.atR ({ a with defers:=d :: a.defers}.put o.dst undef) (.inRegion ops rest :: k):=by
   have z:=iQr b { a with defers:=d :: a.defers} ops i rest k undef;rw[x]at z;exact z
  rw[s];simp only[stepG.apply,Sem.runT_eq,p,GStep.bare_after];exact iQf (λfr=>GStep.go { frame:=fr,callers:=cs,status := .running,dying:=none} w') F
 ·rename_i f args w' p;obtain⟨_,G,h⟩:=h;obtain⟨e,y,fr,q,t,_,D⟩:=h (b.atR a (.inRegion ops (i :: rest) :: k) :: cs) (m _);have c:step P (lone (b.atR a (.inRegion ops (i :: rest) :: k)) cs w) = .next (lone (Frame.enter P f args .normal) (b.atR a (.inRegion ops (i :: rest) :: k) :: cs) w'):=
   iQo (by rw[s];simp[stepG.apply,p,Frame.atR])
  cases e with| returned v=>refine⟨_,_,q,iQn (.one c) (iQn (iQy t) (.one ?_))⟩;rw[<-j];exact step_leave_returned D| panicked chain=>exact q.elim| outgrown=>obtain⟨_,_,u⟩:=q;exact u.elim
 ·rename_i row args w' p;obtain⟨_,h⟩:=h;obtain⟨v,y,q,t⟩:=h (b.atR a (.inRegion ops (i :: rest) :: k)) cs (m _);have c:step P (lone (b.atR a (.inRegion ops (i :: rest) :: k)) cs w) = .next (lone (Frame.ofRow P row args .normal) (b.atR a (.inRegion ops (i :: rest) :: k) :: cs) w'):=
   iQo (by rw[s];simp[stepG.apply,p,Frame.atR])
  refine⟨_,_,q,iQn (.one c) ?_⟩;rw[<-j];exact iQy t
 ·rename_i l f tmps assign body w' p;obtain⟨_,_,h⟩:=h;obtain⟨e,y,q,t⟩:=h (b.atR a (.inRegion ops (i :: rest) :: k)) cs (m _);have c:step P (lone (b.atR a (.inRegion ops (i :: rest) :: k)) cs w) = .next (lone (Frame.round l f tmps assign body .normal) (b.atR a (.inRegion ops (i :: rest) :: k) :: cs) w'):=
   iQo (by rw[s];simp[stepG.apply,p,Frame.atR])
  cases e with| returned v=>refine⟨_,_,q,iQn (.one c) ?_⟩;rw[<-j];exact iQy t| panicked chain=>exact q.elim| outgrown=>obtain⟨_,_,u⟩:=q;exact u.elim
 ·exact h.elim
 exact h.elim
end
end
section
def iY(r:Ref)(b:List Loc):Map:=λq=>if q.d=r.d/\q.t=r.t/\q.g=r.g then b[q.k]? else none
structure sF (M:Mem) (w:World) (y:AV) (v:Value) (M':Mem) (w':World):Prop where
 os:w'.os=w.os
 tape:w'.tape=w.tape
 output:w'.output=w.output
 size:w.heap.size<=w'.heap.size
 old : ∀b,b<w.heap.size->w'.heap[b]?=w.heap[b]?
 mem : ∀b o x,M b o=some x->M' b o=some x
 sound : ∀b o x,M' b o=some x->w'.cell? ⟨b,o,none⟩=some x
 new : ∀b o x,M' b o=some x->M b o=some x\/w.heap.size<=b
 res : ∀r:Ref,∃ls:List Loc,ls.length=(aj r depth y []).2.length/\VR M' (iY r ls) (aj r depth y []).1 v /\
  (∀(k:Nat) l b,ls[k]?=some l->(aj r depth y []).2[k]?=some b->oS M' (iY r ls) w' l b/\w.heap.size<=l.b) /\
  ∀(i j:Nat) l l',ls[i]?=some l->ls[j]?=some l'->l.b=l'.b->i=j
def ja(P:Program)(f:FuncId)(args:List AV)(y:AV):Prop:=
 (∃fn,P.funcs[f]?=some fn/\(fn.name == "runtime.NumGoroutine")=false/\fn.body.isSome=true) /\
 ∀(M:Mem)(w:World)(us:List Value),(∀b o x,M b o=some x->w.cell? ⟨b,o,none⟩=some x)->lI M dC args us ->
  Calls P f us.toArray w λe w' =>∃v M',e = .returned v/\sF M w y v M' w'
def il(P:Program):tE->List AV->aa->AV->aa->Prop
 | .fn f,args,H,y,H'=>
  (∃fn,P.funcs[f]?=some fn/\(fn.name == "runtime.NumGoroutine")=false/\fn.body.isSome=true) /\
  ∀(M:Mem)(ι:Map)(w:World)(us:List Value),gA M ι H.get w->rN ι H->lI M ι args us ->
   Calls P f us.toArray w λe w' =>∃v,e = .returned v/\oA M ι H w y H' v w'
 | .yld r,args,H,y,H' =>∀(M:Mem)(ι:Map)(w:World)(us:List Value)(l:Loc),gA M ι H.get w->rN ι H->lI M ι args us->ι r=some l ->
  ∃fn tmps assign body,(Instr.yield l.b us.toArray).run P w = .ok (.round l.b fn tmps assign body) w /\
   RoundIn (FW none) 0 P l.b fn tmps assign body w λe w' =>∃v,e = .returned v/\oA M ι H w y H' v w'
def CG{M M':Mem}{ι A:Map} : ∀(n:Nat)(x:AV)(u:Value),flat n x=true->VR M ι x u->VR M' A x u:=by
 intro n;induction n with
 | zero=>intro x u h;simp[flat]at h
 | succ n f=>
  intro x u h t;cases t with
  | v p=>exact .v p
  | agg m e=>simp only[flat,dY]at h;exact .agg m λi c u b d=>f c u (h c (fZ b)) (e i c u b d)
  | tup s m e=>simp only[flat,dY]at h;exact .tup s m λi c u b d=>f c u (h c (fZ b)) (e i c u b d)
  | ifc e=>exact .ifc (f _ _ (by simpa [flat] using h) e)
  | fn y q e j=>simp only[flat,bt,dY]at h;exact .fn y q (λi c u b d=>f c u (h.1 c (fZ b)) (e i c u b d)) λi c u b d=>f c u (h.2 c (fZ b)) (j i c u b d)
  | yld=>simp[flat]at h
  | mp=>simp[flat]at h
  | ch=>simp[flat]at h
  | yM=>simp[flat]at h
  | bq=>simp[flat]at h
  | bA=>simp[flat]at h
  | dsl=>simp[flat]at h
  | ptr=>simp[flat]at h
  | iptr=>simp[flat]at h
def vB(r:Ref) : ∀(n m:Nat)(x:AV)(bs:List aY),flat m x=true->aj r n x bs=(x,bs):=by
 intro n;induction n with
 | zero=>intro m x bs h;rfl
 | succ n i=>
  intro m x bs h;have b : ∀(m:Nat)(cs e:List AV),(∀c∈cs,flat m c=true)->cs.foldl (λ(p:List AV × List aY) c=>(p.1++[(aj r n c p.2).1],(aj r n c p.2).2)) (e,bs)=(e++cs,bs):=by
   intro m cs;induction cs with
   | nil=>intro e _;simp
   | cons c cs f=>intro e j;rw[rB,i m c bs (j c (gD ..))];rw[f (e++[c]) (λd hd=>j d (iS _ hd))];simp
  cases m with| zero=>simp[flat]at h| succ m=>
   cases x with
   | agg cs=>simp only[flat,dY]at h;have:=b m cs [] h;simp only[aj];rw[this];simp
   | tup cs=>simp only[flat,dY]at h;have:=b m cs [] h;simp only[aj];rw[this];simp
   | nsl=>simp[flat]at h
   | fsl=>simp[flat]at h
   | ifc t x=>simp only[aj];rw[i m x bs (by simpa [flat] using h)]
   | _=>rfl
def Hq{g:cL}{r q:Ref}{bs:List aY}{b:aY}(h:sj g r bs q=some b):(q.d=r.d/\q.t=r.t/\q.g=r.g/\bs[q.k]?=some b)\/(¬(q.d=r.d/\q.t=r.t/\q.g=r.g/\q.k<bs.length)/\g q=some b):=by
 unfold sj at h;split at h;·rename_i c;exact .inl ⟨c.1,c.2.1,c.2.2.1,h⟩
 rename_i c;exact .inr ⟨c,h⟩
def CO{M ι g w}(K:gA M ι g w){r:Ref}(Y : ∀k,ι { r with k:=k}=none){y:AV}{v:Value}{M':Mem}{w':World}(h:sF M w y v M' w') :
 jS M ι g w r (aj r depth y []).1 (aj r depth y []).2 v w':=by
 obtain⟨ls,W,hv,V,hi⟩:=h.res r;have J : ∀q l,iY r ls q=some l->ι q=none:=by
  intro q l G;unfold iY at G;split at G
  ·rename_i hc;have:q = { r with k:=q.k}:=by cases q;cases r;simp_all
   rw[this];exact Y _
  cases G
 have z : ∀q l,ι q=some l->(λq=>match ι q with | some l=>some l | none=>iY r ls q) q=some l:=by
  intro q l h;simp[h]
 have j : ∀q l,iY r ls q=some l->(λq=>match ι q with | some l=>some l | none=>iY r ls q) q=some l:=by
  intro q l h;simp[J q l h,h]
 have t : ∀q l,(λq=>match ι q with | some l=>some l | none=>iY r ls q) q=some l->ι q=some l\/(ι q=none/\iY r ls q=some l):=by
  intro q l h;simp only at h;split at h;·rename_i U C;exact .inl (by rw[C,h])
  rename_i T;exact .inr ⟨T,h⟩
 have m : ∀q b l,sj g r (aj r depth y []).2 q=some b->(λq=>match ι q with | some l=>some l | none=>iY r ls q) q=some l ->
  (g q=some b/\ι q=some l)\/(w.heap.size<=l.b/\iY r ls q=some l/\ls[q.k]?=some l/\q = { r with k:=q.k}):=by
  intro q b l D u;rcases Hq D with ⟨f,n,i,F⟩ | ⟨f,n⟩
  ·right;have p:q = { r with k:=q.k}:=by cases q;cases r;simp_all
   have T:ι q=none:=by rw[p];exact Y _
   rcases t q l u with d | ⟨_,d⟩
   ·rw[T]at d;cases d
   have X:ls[q.k]?=some l:=by unfold iY at d;rw[if_pos ⟨f,n,i⟩]at d;exact d
   exact⟨(V q.k l b X F).2,d,X,p⟩
  left;obtain⟨Z,e,_⟩:=K.live q b n;rcases t q l u with d | ⟨d,_⟩
  ·exact⟨n,d⟩
  rw[e]at d;cases d
 refine⟨M',λq=>match ι q with | some l=>some l | none=>iY r ls q,hv.mono (λ_ _ _ h=>h) _ j,?_,?_,?_⟩
 ·refine⟨h.sound,?_,?_⟩
  ·intro q b D;rcases Hq D with ⟨f,n,i,F⟩ | ⟨f,n⟩
   ·have B:q.k<ls.length:=by rw[W];exact(dT.1 F).1
    have H:ls[q.k]?=some ls[q.k]:=de B;obtain⟨c,hge⟩:=V q.k _ b H F;have N:iY r ls q=some ls[q.k]:=by unfold iY;rw[if_pos ⟨f,n,i⟩];exact H
    refine⟨_,j q _ N,?_⟩;exact c.bk (λ_ _ _ h=>h) j rfl c.frozen
   obtain⟨l,C,c⟩:=K.live q b n;refine⟨l,z q l C,c.bk h.mem z (h.old _ c.lt) ?_⟩;intro o x L;rcases h.new _ _ _ L with i | i
   ·exact c.frozen o x i
   exact absurd c.lt (Fh.2 i)
  intro q S b R l U f n i F d;rcases m q b l f i with ⟨s,I⟩ | ⟨s,I,a3,a4⟩<;>rcases m S R U n F with ⟨b1,b2⟩ | ⟨b1,b2,b3,b4⟩
  ·exact K.inj q S b R l U s b1 I b2 d
  ·obtain⟨Z,e,c⟩:=K.live q b s;rw[I]at e;cases e;exact absurd c.lt (by rw[d];exact Fh.2 b1)
  ·obtain⟨Z,e,c⟩:=K.live S R b1;rw[b2]at e;cases e;exact absurd c.lt (by rw[<-d];exact Fh.2 s)
  have:=hi _ _ _ _ a3 b3 d;rw[a4,b4,this]
 ·refine⟨h.os,h.tape,h.output,h.size,λb O _=>h.old b O,h.mem,z,?_,?_⟩
  ·intro q b l f i;rcases m q b l f i with ⟨s,I⟩ | ⟨s,_⟩
   ·exact .inr ⟨q,b,l,s,I,rfl⟩
   exact .inl s
  intro b o x L;rcases h.new b o x L with f | f
  ·exact .inl f
  exact .inr (.inl f)
 intro q Q G;simp only[Q];unfold iY;split
 ·rename_i hc;have p:q = { r with k:=q.k}:=by cases q;cases r;simp_all
  have : ¬q.k<(aj r depth y []).2.length:=λB=>G q.k B p;exact wE (by rw[W];omega)
 rfl
def Ig{M ι g w}(f:gA M ι g w){r:Ref}{y:AV}{v:Value}{s M':Mem}{w':World}(m:flat depth y=true)(h:sF s w y v M' w'):jS M ι g w r y [] v w':=by
 obtain⟨ls,z,j,u,hi⟩:=h.res r;rw[vB r depth depth y [] m]at j;refine⟨M,ι,CG depth y v m j,?_,?_,λq d _=>d⟩
 ·rw[nj];refine⟨?_,?_,f.inj⟩;·intro b o x n;have:=f.mem b o x n;rw[iQk (w:=w) (h.old _ (iQm w ⟨b,o,none⟩ this))];exact this
  intro q b d;obtain⟨l,e,c⟩:=f.live q b d;exact⟨l,e,c.bk (λ_ _ _ h=>h) (λ_ _ h=>h) (h.old _ c.lt) c.frozen⟩
 rw[nj];exact⟨h.os,h.tape,h.output,h.size,λb i _=>h.old b i,λ_ _ _ h=>h,λ_ _ h=>h,λq b l t p => .inr ⟨q,b,l,t,p,rfl⟩,λ_ _ _ h => .inl h⟩
def OE{M M':Mem}{ι A:Map}{e x:AV}{u:Value}{j:Nat}(d:flat depth e=true)(b:e.cells[j]?=some x)(h:VR M ι x u):VR M' A x u:=by
 cases e with
 | agg cs=>
  have f:x∈cs:=fZ b;have : ∀c∈cs,flat 7 c=true:=by simpa [flat,depth] using d
  exact CG 7 x u (this x f) h
 | _=>
  simp only[AV.cells]at b;cases j with
  | zero=>simp at b;subst b;exact CG depth _ u d h
  | succ j=>simp at b
def N4(r:Ref) : ∀(n:Nat)(x:AV)(bs:List aY),Cm n x=true ->∃new,(aj r n x bs).2=bs++new/\(∀b∈new,0<b.esz/\b.arr=true/\b.gB=false /\∀e∈b.es,flat depth e=true) /\
 ∀(M M':Mem)(ι:Map)(u:Value),VR M ι (aj r n x bs).1 u->VR M' ι (aj r n x bs).1 u:=by
 intro n;induction n with
 | zero=>intro x bs h;simp[Cm]at h
 | succ n Q=>
  intro x bs h;have s : ∀(cs y:List AV)(bs:List aY),(∀c∈cs,Cm n c=true) ->∃(new:List aY) (zs:List AV),cs.foldl (λ(p:List AV × List aY) c=>(p.1++[(aj r n c p.2).1],(aj r n c p.2).2)) (y,bs)=(y++zs,bs++new) /\
   (∀b∈new,0<b.esz/\b.arr=true/\b.gB=false /\∀e∈b.es,flat depth e=true) /\∀(M M':Mem)(ι:Map)(z:AV),z∈zs ->∀u,VR M ι z u->VR M' ι z u:=by
   intro cs;induction cs with
   | nil=>intro y bs _;exact⟨[],[],by simp,λb m=>by simp at m,λ_ _ _ z C=>by simp at C⟩
   | cons c cs J=>
    intro y bs q;obtain⟨n1,R,V,T⟩:=Q c bs (q c (gD ..));obtain⟨n2,zs,b1,b2,b3⟩:=J (y++[(aj r n c bs).1]) (bs++n1) λd hd=>q d (iS _ hd);refine⟨n1++n2,(aj r n c bs).1 :: zs,?_,?_,?_⟩;·rw[rB];simp only;rw[R,b1];simp
    ·intro b m;rcases kQ.1 m with m | m
     ·exact V b m
     exact b2 b m
    intro M M' ι z C u f;rcases ef.1 C with rfl | C
    ·exact T M M' ι u f
    exact b3 M M' ι z C u f
  cases x with
  | v x=>exact⟨[],by simp[aj],λb m=>by simp at m,λM M' ι u f=>by simp only[aj]at f ⊢;cases f with | v D=>exact .v D⟩
  | agg cs=>
   simp only[Cm,dY]at h;obtain⟨new,zs,B,G,F⟩:=s cs [] bs h;simp only[aj];rw[B];refine⟨new,rfl,G,λM M' ι u f=>?_⟩;simp only[o4]at f ⊢;cases f with | agg K H=>
   exact .agg K λi c u q N=>F M M' ι c (fZ q) u (H i c u q N)
  | tup cs=>
   simp only[Cm,dY]at h;obtain⟨new,zs,B,G,F⟩:=s cs [] bs h;simp only[aj];rw[B];refine⟨new,rfl,G,λM M' ι u f=>?_⟩;simp only[o4]at f ⊢;cases f with | tup S K H=>
   exact .tup S K λi c u q N=>F M M' ι c (fZ q) u (H i c u q N)
  | fsl z es cap=>
   simp only[Cm,bt,bne_iff_ne,ne_eq,dY]at h;simp only[aj];rw[if_neg h.1];refine⟨[⟨z,es,true,false⟩],rfl,?_,λM M' ι u f=>?_⟩;·intro b m;rw[k9.1 m];exact⟨vl h.1,rfl,rfl,h.2⟩
   cases f with | bA U m D W q X L C=>exact .bA U m D W q X L C
  | bq z es cap=>have I:es=[]:=(by simpa [Cm] using h);subst I;refine⟨[],by simp[aj],λb m=>by simp at m,λM M' ι u f=>?_⟩;simp only[aj]at f ⊢;cases f with | bq cell D q L hm he H=>exact .bq cell D q L (λi j B=>by simp at B) he λi j e x B=>by simp at B
  | ifc t x=>obtain⟨new,B,G,F⟩:=Q x bs (by simpa [Cm] using h);simp only[aj];exact⟨new,B,G,λM M' ι u f=>by cases f with | ifc O=>exact .ifc (F M M' ι _ O)⟩
  | _=>simp[Cm]at h
def sF.own{M N M':Mem}{w w':World}{y:AV}{v:Value}(t : ∀b o x,M b o=some x->w.cell? ⟨b,o,none⟩=some x)(Q:Cm depth y=true)(h:sF N w y v M' w'):sF M w y v M w':=by
 have n : ∀b o x,M b o=some x->b<w.heap.size:=λb o x c=>iQm w ⟨b,o,none⟩ (t b o x c);refine⟨h.os,h.tape,h.output,h.size,h.old,λ_ _ _ h=>h,?_,λ_ _ _ h => .inl h,λr=>?_⟩;·intro b o x c;rw[iQk (w:=w) (h.old _ (n b o x c))];exact t b o x c
 obtain⟨ls,F,L,D,hi⟩:=h.res r;obtain⟨new,H,J,C⟩:=N4 r depth y [] Q;refine⟨ls,F,C M' M _ v L,λk l b K d=>?_,hi⟩;obtain⟨q,f⟩:=D k l b K d;have p:b∈new:=by rw[H,o4]at d;exact fZ d
 obtain⟨S,R,U,O⟩:=J b p;have m : ∀o x,M l.b o=some x->b.gB=true/\o<b.es.length * b.esz:=λo x c=>absurd (n _ _ _ c) (Fh.2 f);refine⟨⟨q.esz,λs=>?_,λs=>by omega,m⟩,f⟩;obtain⟨G,⟨arr,T,fz,d1,d2,d3,d4⟩,I,B,_⟩:=q.cellsOk s;refine⟨G,⟨arr,T,fz,d1,d2,d3,λi j e x z c=>?_⟩,I,B,m⟩;obtain⟨u,f1,f2,f3⟩:=d4 i j e x z c;exact⟨u,f1,f2,OE (O e (fZ z)) c f3⟩
def Ec{P:Program}{f:FuncId}(i : ∃fn,P.funcs[f]?=some fn/\(fn.name == "runtime.NumGoroutine")=false/\fn.body.isSome=true)(args:Array Value)(w:World) :
 (callFunc f args).run P w = .ok (.enter f args) w:=by
 obtain⟨fn,j,d,c⟩:=i;have h:fn.body≠none:=by intro e;rw[e]at c;cases c
 have b:fn.name ≠ "runtime.NumGoroutine" := by simpa using d
 simp[callFunc,j,b,h]
def DO{P:Program}{a:Act}{o:Oper}{c:Call}{d:Operand}(i:o.op = .call c)(e:c.callee = .value d){f:FuncId}{first captured:Array Value}(b:a.eval d = .func (.func f) first captured)
 (h : ∃fn,P.funcs[f]?=some fn/\(fn.name == "runtime.NumGoroutine")=false/\fn.body.isSome=true) (w:World) :
 (execOp a.eval o).run P w = .ok (.enter f (first++c.args.map a.eval++captured)) w:=by
 simp[execOp,i,resolve,e,b,Deferred.ofValue,invoke,Ec h]
def FK{M ι g w}(j:gA M ι g w){c ys:List AV}{us:List Value}(h:c.mapM (view g depth)=some ys)(d:lI M ι c us):lI (kA M ι g w (bH g c)) dC ys us:=
 ⟨by rw[gK h];exact d.1,λi y u n e=>by
  obtain⟨x,b,m⟩:=ot h i y n;refine BZ j depth x y u m ?_ (d.2 i x u b e);intro r f;exact gC.2 ⟨x,fZ b,f⟩⟩
def VR.Yf{M ι}{f:FuncId}{a b:List AV}{u:Value}(h:VR M ι (.fn (.func f) a b) u) : ∃m j,u = .func (.func f) m j/\lI M ι a m.toList/\lI M ι b j.toList:=by
 cases h with | fn q n p e=>
 exact⟨_,_,rfl,⟨by simpa using q,λi x u d c=>p i x u d (by simpa using c)⟩,⟨by simpa using n,λi x u d c=>e i x u d (by simpa using c)⟩⟩
def F4(a b c:Array Value):(a.toList++b.toList++c.toList).toArray=a++b++c:=by
 apply Fi;simp
section
variable{E:Env}{M:Mem}{ι:Map}{g:cL}{w:World}{r:Ref}{a:Act}{tm:List AV}{o:Oper}
def Uc(n:gA M ι g w)(Q:TR M ι tm a)(O : ∀k,ι { r with k:=k}=none){pc:FuncId->List AV->Option AV}(L : ∀f D y,pc f D=some y->ja E.P f D y)
 {c:Call} {N:Operand} (ho:o.op = .call c) (s:c.callee = .value N) {args:List AV} (q:c.args.toList.mapM (aL tm)=some args) {x:AV} {bs:List aY} (h:kT E pc g r (aL tm N) args=some (x,bs)) :
 eR E.P o a w λu w'=>jS M ι g w r x bs u w':=by
 unfold kT at h;split at h
 ·rename_i T first captured G
  split at h;·cases h
  split at h
  ·rename_i D F;split at h
   ·rename_i y W;obtain⟨d,h⟩:=eQ.1 h;injection h with h
    obtain⟨Z,m⟩:=L T D y W;obtain⟨Y,U,I,J,K⟩:=(aU Q G).Yf;have j:=ml Q q;have C:lI M ι (first++args++captured) (Y.toList++(c.args.map a.eval).toList++U.toList):=(J.append (by simpa using j)).append K;obtain⟨t,S⟩:=zH (R:=bH g (first++args++captured)) n;have i:=FK n F C;have b:=m (kA M ι g w (bH g (first++args++captured))) w _ (uP n.mem) i;rw[F4]at b;refine eR.GK (DO ho s I Z w) (b.mono λe w' ⟨v,M',he,hend⟩=>⟨v,he,?_⟩);by_cases p:flat depth y=true
    ·have hi:=vB r depth depth y [] p;rw[hi]at h;injection h with V X
     subst V;subst X;exact Ig n p hend
    by_cases B:Cm depth y=true;·have:=CO n O (hend.own n.mem B);rw[h]at this;exact this
    have H:m0 g (bH g (first++args++captured))=true:=by
     simp only[jt,bt]at d;rcases d with (s | s) | s
     ·exact absurd s p
     ·exact s
     exact absurd s.2 B
    have z:=LY H;rw[z]at t;have:=CO t O hend;rw[h]at this;exact jS.after z n this
   cases h
  cases h
 cases h
def KG{H:aa}{d F:Nat}(L:gA M ι H.get w)(O:rN ι H)(Q:TR M ι tm a){pc:FuncId->List AV->Option AV}(Y : ∀f D y,pc f D=some y->ja E.P f D y)
 {tc:tE->List AV->aa->cJ} (N : ∀f D H y H',tc f D H=some (y,H')->il E.P f D H y H')
 {c:Call} {S:Operand} (ho:o.op = .call c) (hc:c.callee = .value S) {args:List AV} (m:c.args.toList.mapM (aL tm)=some args) {x:AV} {H':aa}
 (h:nc E pc tc H ⟨d,F,H.gen d F,0⟩ (aL tm S) args=some (x,H')):eR E.P o a w λu w'=>oA M ι H w x H' u w':=by
 unfold nc at h;split at h
 ·rename_i fi first captured z
  obtain⟨a',b',I,U,W⟩:=(aU Q z).Yf;have j:=ml Q m;have t:lI M ι (first++args++captured) (a'.toList++(c.args.map a.eval).toList++b'.toList):=(U.append (by simpa using j)).append W;split at h;·obtain⟨X,G⟩:=N _ _ _ _ _ h;have i:=G M ι w _ L O t;rw[F4]at i;exact eR.GK (DO ho hc I X w) (i.mono λe w' ⟨v,he,hend⟩=>⟨v,he,hend⟩)
  split at h
  ·rename_i D Z;simp only[bG]at h;obtain⟨y,B,h⟩:=h;injection h with h1 h2
   obtain⟨X,C⟩:=Y fi D y B;obtain⟨hS1,K⟩:=zH (R:=bH H.get (first++args++captured)) L;have p:=FK L Z t;have i:=C (kA M ι H.get w (bH H.get (first++args++captured))) w _ (uP L.mem) p;rw[F4]at i;refine eR.GK (DO ho hc I X w) (i.mono λe w' ⟨v,M',he,hend⟩=>⟨v,he,?_⟩);have V:rN ι (b9 H (bH H.get (first++args++captured))):=(by intro q l hq;rw[aa.iw];exact O q l hq);have n:=CO (r:=⟨d,F,H.gen d F,0⟩) hS1 (λk=>O.fresh d F k) hend;rw[<-aa.du]at n;have J:H.gen d F=(b9 H (bH H.get (first++args++captured))).gen d F:=(aa.iw _ _ _ _).symm;have key:oA (kA M ι H.get w (bH H.get (first++args++captured))) ι (b9 H (bH H.get (first++args++captured))) w x H' v w':=(by subst h1;subst h2;rw[J]at n ⊢;exact n.toW V);obtain⟨M2,T,k1,k2,k3,k4⟩:=key;refine⟨M2,T,k1,k2,?_,k4⟩;rw[<-aa.du]at K;exact K.trans k3
  cases h
 ·rename_i q z;have j:=ml Q m;have B:=aU Q z;generalize hu:a.eval S=u at B;cases B with | yld hr hz=>
  rename_i l;obtain⟨fn,tmps,assign,body,B,s⟩:=N _ _ _ _ _ h M ι w _ l L O j hr;refine eR.Us (l:=l.b) ?_ s;have e1:(c.args.map a.eval:Array Value)=(c.args.toList.map a.eval).toArray:=by rw[<-Jc];simp
  rw[<-e1]at B;simp[execOp,ho,resolve,hc,hu,Deferred.ofValue,invoke,B]
 cases h
end
end
section
def VR.cut{M M':Mem}{ι:Map}{e:AV}{T:Value}(Q:VR M ι e T) : ∀ {A:Map} {u:Value},VR M' A e u->(∀q l,ι q=some l->A q=some l)->VR M' ι e u:=by
 induction Q with
 | v h=>intro A u h hi;cases h with | v G=>exact .v G
 | agg R _ t=>
  intro A u h hi;cases h with | agg B s=>
  refine .agg B λi c u f C=>?_;have z:=(dT.1 f).1;exact t i c _ f (kn (by omega)) (s i c u f C) hi
 | tup H R _ t=>
  intro A u h hi;cases h with | tup L B s=>
  refine .tup L B λi c u f C=>?_;have z:=(dT.1 f).1;exact t i c _ f (kn (by omega)) (s i c u f C) hi
 | bq cell G f I hm he _ t=>intro A u h hi;cases h with | bq cell G f I hm he s=>exact .bq cell G f I hm he s
 | bA j N G O f U I H=>
  intro A u h hi;have m:=hi _ _ j;cases h with | bA b n D p F x y d=>
  rw[m]at b;cases b;exact .bA j n D p F x y d
 | dsl j N G O f U I H=>
  intro A u h hi;have m:=hi _ _ j;cases h with | dsl b n D p F x y d=>
  rw[m]at b;cases b;exact .dsl j n D p F x y d
 | ptr j H=>
  intro A u h hi;have m:=hi _ _ j;cases h with | ptr b d=>
  rw[m]at b;cases b;exact .ptr j d
 | iptr cell hm he _ t=>intro A u h hi;cases h with | iptr cell hm he s=>exact .iptr cell hm he s
 | fn O N _ _ t K=>
  intro A u h hi;cases h with | fn p n s J=>
  refine .fn p n (λi c u f C=>?_) λi c u f C=>?_;·have z:=(dT.1 f).1;exact t i c _ f (kn (by omega)) (s i c u f C) hi
  have z:=(dT.1 f).1;exact K i c _ f (kn (by omega)) (J i c u f C) hi
 | ifc _ t=>intro A u h hi;cases h with | ifc s=>exact .ifc (t s hi)
 | yld j H=>
  intro A u h hi;have m:=hi _ _ j;cases h with | yld b d=>
  rw[m]at b;cases b;exact .yld j d
 | mp j H=>
  intro A u h hi;have m:=hi _ _ j;cases h with | mp b d=>
  rw[m]at b;cases b;exact .mp j d
 | ch j H=>
  intro A u h hi;have m:=hi _ _ j;cases h with | ch b d=>
  rw[m]at b;cases b;exact .ch j d
 | yM m=>intro A u h hi;cases h with | yM S=>exact .yM S
section
variable{M M':Mem}{ι A:Map}{w w':World}{l:Loc}{k:aY}
def fp.cut(c0:fp M ι w l k)(c:fp M' A w' l k)(hi : ∀q l,ι q=some l->A q=some l):fp M' ι w' l k:=by
 obtain⟨d,_,_,_,_,_,p⟩:=c0.heap;obtain⟨arr,T,fz,t,v,m,s⟩:=c.heap;refine⟨c.esz,⟨arr,T,fz,t,v,m,λi j e x f b=>?_⟩,c.len,c.cells,c.frozen⟩;obtain⟨z,_,_,v0⟩:=p i j e x f b;obtain⟨u,n,y,v1⟩:=s i j e x f b;refine⟨u,n,y,v0.cut v1 ?_⟩;unfold aY.map;split;·exact λ_ _ h=>h
 exact hi
def Ht.cut(c0:Ht M ι w l k)(c:Ht M' A w' l k)(hi : ∀q l,ι q=some l->A q=some l):Ht M' ι w' l k:=by
 obtain⟨D,s,y,f,B,i,F,_,_,b,_,_,_,_,_,v0,_⟩:=c0;obtain⟨n,nt,ps,as,C,tm,r,x,z,e,d,p,h,u,m,v,j⟩:=c;rw[e]at b;simp only[wB,AV.lp.injEq]at b;obtain⟨_,⟨_,_,_,_,_,rfl⟩,_⟩:=b;exact⟨n,nt,ps,as,C,tm,r,x,z,e,d,p,h,u,m,λt=>(v0 t).cut (v t) hi,j⟩
def MN.cut(c0:MN M ι w l k)(c:MN M' A w' l k)(hi : ∀q l,ι q=some l->A q=some l):MN M' ι w' l k:=by
 obtain⟨m,d,_,_,j,_,L,v0⟩:=c0;obtain⟨f,entries,C,H,e,u,s,v⟩:=c;rw[e]at j;simp only[wB,iQt]at j;subst j;refine⟨f,entries,C,H,e,u,s,λi h J b n=>?_⟩;obtain⟨F,I,t,G,K,z⟩:=v i h J b n;have B:=(dT.1 b).1;obtain⟨D,y,p,_,x,_⟩:=v0 i h _ b (kn (by omega));rw[t]at p;simp only[AV.tup.injEq,wB]at p;obtain⟨_,rfl,_⟩:=p;exact⟨F,I,t,G,x.cut K hi,z⟩
def Hw.cut(c0:Hw M ι w l k)(c:Hw M' A w' l k)(hi : ∀q l,ι q=some l->A q=some l):Hw M' ι w' l k:=by
 obtain⟨_,_,_,_,h,f,_,_,b,_,B,v0⟩:=c0;obtain⟨cap,s,r,z,buf,arr,t,y,e,n,j,v⟩:=c;rw[e]at b;simp only[wB,iQt]at b;obtain⟨_,_,rfl⟩:=b;refine⟨cap,s,r,z,buf,arr,t,y,e,n,j,λi x u d m=>?_⟩;have p:=(dT.1 d).1;exact(v0 i x _ d (kn (by omega))).cut (v i x u d m) hi
def nJ.cut(c0:nJ M ι w l k)(c:nJ M' A w' l k)(hi : ∀q l,ι q=some l->A q=some l):nJ M' ι w' l k:=by
 rcases c0 with c0 | c0 | c0<;>rcases c with c | c | c
 ·exact .inl (c0.cut c hi)
 ·obtain⟨_,_,_,_,_,_,_,_,_,b,_⟩:=c0;obtain⟨_,_,_,_,e,_⟩:=c;rw[e]at b;simp at b
 ·obtain⟨_,_,_,_,_,_,_,_,_,b,_⟩:=c0;obtain⟨_,_,_,_,_,_,_,_,e,_⟩:=c;rw[e]at b;simp at b
 ·obtain⟨_,_,_,_,_,_,_,_,_,b,_⟩:=c;obtain⟨_,_,_,_,e,_⟩:=c0;rw[e]at b;simp at b
 ·exact .inr (.inl (c0.cut c hi))
 ·obtain⟨_,_,_,_,b,_⟩:=c0;obtain⟨_,_,_,_,_,_,_,_,e,_⟩:=c;rw[e]at b;simp at b
 ·obtain⟨_,_,_,_,_,_,_,_,_,b,_⟩:=c;obtain⟨_,_,_,_,_,_,_,_,e,_⟩:=c0;rw[e]at b;simp at b
 ·obtain⟨_,_,_,_,b,_⟩:=c;obtain⟨_,_,_,_,_,_,_,_,e,_⟩:=c0;rw[e]at b;simp at b
 exact .inr (.inr (c0.cut c hi))
def oS.cut(c0:oS M ι w l k)(c:oS M' A w' l k)(hi : ∀q l,ι q=some l->A q=some l):oS M' ι w' l k:=
 ⟨c.esz,λh=>(c0.cellsOk h).cut (c.cellsOk h) hi,λh=>(c0.objOk h).cut (c.objOk h) hi,c.frozen⟩
def Re{H H':aa}(j:gA M ι H.get w)(u:rN ι H){y:AV}{v:Value}(B:flat depth y=true)(s : ∀q k,H.get q=some k->H'.get q=some k)(h:oA M ι H w y H' v w'):oA M ι H w y H v w':=by
 obtain⟨t,m,z,d,b,x⟩:=h;refine⟨t,ι,CG depth y v B z,⟨d.mem,λq k f=>?_,j.inj⟩,⟨b.os,b.tape,b.output,b.size,b.chg,b.mem,λ_ _ h=>h,λq k l C n => .inr ⟨q,k,l,C,n,rfl⟩,b.new⟩,u⟩;obtain⟨l,i,p⟩:=j.live q k f;obtain⟨D,c,e⟩:=d.live q k (s q k f);have:=b.map q l i;rw[this]at c;cases c;exact⟨l,i,p.cut e b.map⟩
def KI{u v:Value}(h:Pm u v=true):u=v:=by
 unfold Pm at h;split at h;·simp at h;rw[h]
 ·simp at h;rw[h.1,h.2]
 ·simp at h;rw[h]
 ·simp only[bt]at h;rw[kF h.1,kF h.2]
 ·rfl
 ·rfl
 cases h
def qW{f:AV->AV->Bool}(e : ∀x y,f x y=true->x=y) : ∀(b ys:List AV),b.length=ys.length->((b.zip ys).all λp=>f p.1 p.2)=true->b=ys:=by
 intro b;induction b with
 | nil=>intro ys h _;exact(yG h.symm).symm
 | cons x b d=>
  intro ys h c;cases ys with
  | nil=>simp at h
  | cons y ys=>simp only[MW,yB,bt]at c;rw[e x y c.1,d ys (by simpa using h) c.2]
def zp{r r':Ref}(h:Gn r r'=true):r=r':=by
 unfold Gn at h;simp only[bt]at h;cases r;cases r';simp only[Ref.mk.injEq];exact⟨kF h.1.2,kF h.1.1.1,kF h.1.1.2,kF h.2⟩
def Vq : ∀(n:Nat)(x y:AV),A0 n x y=true->x=y:=by
 intro n;induction n with
 | zero=>intro x y h;simp[A0]at h
 | succ n b=>
  intro x y h;unfold A0 at h;split at h;·rw[KI h]
  ·simp only[bt]at h;rw[qW b _ _ (kF h.1) h.2]
  ·simp only[bt]at h;rw[qW b _ _ (kF h.1) h.2]
  ·simp only[bt,iQb]at h;rw[qW b _ _ (kF h.1.2) h.2,kF h.1.1.1,h.1.1.2]
  ·simp only[bt,iQb]at h;rw[zp h.1.1.1,kF h.1.1.2,kF h.1.2,h.2]
  ·simp only[bt,iQb]at h;rw[zp h.1.1.1,kF h.1.1.2,kF h.1.2,h.2]
  ·simp only[bt]at h;rw[zp h.1.1,kF h.1.2,kF h.2]
  ·rw[zp h]
  ·rw[zp h]
  ·simp only[bt]at h;rw[kF h.1.1,qW b _ _ (kF h.1.2.1) h.1.2.2,qW b _ _ (kF h.2.1) h.2.2]
  ·simp only[bt]at h;rw[kF h.1,b _ _ h.2]
  cases h
def OX{k k':aY}(h:Kl k k'=true):k=k':=by
 unfold Kl at h;simp only[bt,iQl]at h;cases k;cases k';simp only[aY.mk.injEq];exact⟨kF h.1.1.1.1,qW (Vq 8) _ _ (kF h.1.2) h.2,h.1.1.1.2,h.1.1.2⟩
def get_mem : ∀(H:aa)(q:Ref)(k:aY),H.get q=some k ->∃b,(q,b)∈H:=by
 intro H;induction H with
 | nil=>intro q k h;cases h
 | cons p H c=>
  obtain⟨r,b⟩:=p;intro q k h;simp only[aa.get]at h;split at h;·rename_i e;subst e;exact⟨b,gD ..⟩
  obtain⟨f,d⟩:=c q k h;exact⟨f,iS _ d⟩
def LU{H H':aa}(h:GW H H'=true)(q:Ref)(k:aY)(d:H.get q=some k):H'.get q=some k:=by
 obtain⟨b,e⟩:=get_mem H q k d;have:=dY.1 h _ e;simp only[d]at this;split at this;·cases this
 rename_i k' c;rw[c,OX this]
def KE{b:Bool}{sm:ML}{H H':aa}{c:cJ}{y:AV}(h:rD b sm H c=some (y,H')):c=some (y,H') \/∃d,H'=H/\c=some (y,d)/\flat depth y=true /\∀q k,H.get q=some k->d.get q=some k:=by
 unfold rD at h;split at h;·rename_i f d;obtain⟨e,h⟩:=eQ.1 h;cases h;exact .inr ⟨d,rfl,rfl,(wD.1 e).1,(Fv.1 (wD.1 e).2).elim LU (sm.ok _ _)⟩
 exact .inl h
end
end
section
def rT(l:List AV)(d t:Nat)(x:AV):cX (Bx l d x) t=if t=d then x else cX l t:=by
 induction l generalizing d t with
 | nil=>
  induction d generalizing t with| zero=>cases t<;>simp[Bx,cX]| succ d b=>
   cases t with
   | zero=>simp[Bx,cX]
   | succ t=>simp[Bx,cX,b]
 | cons y l b=>
  cases d with| zero=>cases t<;>simp[Bx,cX]| succ d=>
   cases t with
   | zero=>simp[Bx,cX]
   | succ t=>simp[Bx,cX,b]
def TR.put{M ι tm a}(e:TR M ι tm a){nt:Nat}(c:a.tmps.size=nt){dst:Option Tmp}{x:AV}{tm':List AV}(h:dg nt tm dst x=some tm'){u:Value}(f:VR M ι x u) :
 TR M ι tm' (a.put dst u)/\(a.put dst u).tmps.size=nt:=by
 unfold dg at h;split at h
 ·injection h with h
  subst h;exact⟨e,c⟩
 rename_i d;obtain⟨hd,h⟩:=eQ.1 h;injection h with h
 subst h;refine⟨⟨?_⟩,by simp[Act.put,c]⟩;intro t;rw[rT];simp only[Act.put,BY];by_cases b:t=d;·subst b;rw[if_pos rfl,Fg (by rw[c];exact hd)];exact f
 rw[if_neg b,AD (rO b),<-BY];exact e.at_ t
def jT{M ι tm a}(u:TR M ι tm a){ops:Array Oper}{o:Oper}{b:Bool}(h:wanted ops tm o=some b):Region.wanted o (yielded ops a.tmps)=b:=by
 unfold wanted at h;unfold Region.wanted;split at h
 ·rename_i m;injection h with h
  subst h;rw[m]
 rename_i j e m;rw[m];simp only;split at h
 ·rename_i t f;have d:=u.at_ t;rw[BY]at d;split at h
  ·rename_i c n;injection h with h
   subst h;rw[n]at d;have:a.tmps[t]?=some (.bool c):=by
    cases i:a.tmps[t]? with| none=>rw[i]at d;cases d| some v=>rw[i]at d;simp only[cb]at d;cases d;rfl
   simp only[yielded,f,dX,this];cases c<;>cases e<;>rfl
  ·rename_i s n;rw[n]at d;obtain⟨q,h⟩:=eQ.1 h;injection h with h
   subst h;have p:s = #[]:=by simpa using q
   subst p;have:yielded ops a.tmps j=none:=by
    simp only[yielded,f,dX];cases i:a.tmps[t]? with
    | none=>rfl
    | some v=>rw[i]at d;simp only[cb]at d;cases d;rfl
   rw[this];rfl
  cases h
 rename_i f;injection h with h
 subst h;simp only[yielded,f,Fs];rfl
section
variable{E:Env}{M:Mem}{ι:Map}{g:cL}{w:World}{r:Ref}{a:Act}{tm:List AV}{o:Oper}
def qA{x:Option AV}{y:AV}{bs:List aY}(h:jI x=some (y,bs)):x=some y/\bs=[]:=by
 simp only[jI,bG]at h;obtain⟨z,d,h⟩:=h;injection h with c b
 exact⟨by rw[d,c],b.symm⟩
def eR.same{s:Sem Value}(f:gA M ι g w)(c : ∀b,b=a.eval->execOp b o=(do pure (Next.value (<-s)))){x:AV}{bs:List aY}(h:bs=[] /\∃u,s.run E.P w = .ok u w/\VR M ι x u) :
 eR E.P o a w λu w'=>jS M ι g w r x bs u w':=by
 obtain⟨rfl,u,e,d⟩:=h;exact eR.jZ (by rw[c a.eval rfl];exact Gj e) (jS.same f d)
def eR.made{s:Sem Value}(d : ∀b,b=a.eval->execOp b o=(do pure (Next.value (<-s)))){x:AV}{bs:List aY}(h : ∃u w',s.run E.P w = .ok u w'/\jS M ι g w r x bs u w') :
 eR E.P o a w λu w'=>jS M ι g w r x bs u w':=by
 obtain⟨u,w',e,c⟩:=h;exact eR.jZ (by rw[d a.eval rfl];exact Gj e) c
def pN(ps:Array (Nat × Operand))(b:Operand->Value):(ps.map λ(p:Nat × Operand)=>(p.1,b p.2)).toList=ps.toList.map λp=>(p.1,b p.2):=by simp
def J2{b:Type}{l:List b}(h:l.length=1) : ∃a,l=[a]:=List.length_eq_one_iff.1 h
def yn{c:Type}{l:List c}(h:l.length=2) : ∃a b,l=[a,b]:=by
 match l,h with
 | [a,b],_=>exact⟨a,b,rfl⟩
def eR.mono{P:Program}{Q b:Value->World->Prop}(h:eR P o a w Q)(d : ∀u w',Q u w'->b u w'):eR P o a w b:=
 λro K R e=>h ro K R λu w' c=>e u w' (d u w' c)
def fp.gB{l:Loc}{k:aY}(h:fp M ι w l k):fp M ι w l { k with gB:=true} :=
 ⟨h.esz,h.heap,h.len,h.cells,λo x b=>⟨rfl,(h.frozen o x b).2⟩⟩
def oS.gB{l:Loc}{k:aY}(h:oS M ι w l k):oS M ι w l { k with gB:=true} :=
 ⟨h.esz,λb=>(h.cellsOk b).gB,λb=>(h.objOk b).same rfl rfl rfl,λo x c=>⟨rfl,(h.frozen o x c).2⟩⟩
def CY{bs:List aY}{q:Ref}{c:aY}(h:sj g r (bs.map λk => { k with gB:=true}) q=some c) : ∃b,sj g r bs q=some b/\(c=b\/c = { b with gB:=true}):=by
 unfold sj at h ⊢;simp only[zg]at h;split at h;·rename_i d;rw[if_pos d];simp only[kR,bG]at h;obtain⟨b,f,e⟩:=h;exact⟨b,f,.inr e.symm⟩
 rename_i d;rw[if_neg d];exact⟨c,h,.inl rfl⟩
def jS.OA{x:AV}{bs:List aY}{b:Bool}{u:Value}{w':World}(h:jS M ι g w r x bs u w'):jS M ι g w r x (Ab.OA b bs) u w':=by
 cases b with| false=>exact h| true=>
  obtain⟨M',A,B,m,c,z⟩:=h;refine⟨M',A,B,⟨m.mem,λq k n=>?_,λq D k k' l H i s y G C=>?_⟩,⟨c.os,c.tape,c.output,c.size,c.chg,c.mem,c.map,λq k l i s=>?_,c.new⟩,λq n F=>z q n λk j=>F k (by simpa [Ab.OA] using j)⟩
  ·obtain⟨b,v,e⟩:=CY n;obtain⟨l,t,f⟩:=m.live q b v;rcases e with rfl | rfl
   ·exact⟨l,t,f⟩
   exact⟨l,t,f.gB⟩
  ·obtain⟨b1,d,_⟩:=CY i;obtain⟨b2,p,_⟩:=CY s;exact m.inj q D b1 b2 l H d p y G C
  obtain⟨b1,d,_⟩:=CY i;exact c.live q b1 l d s
def wi(P:Program)(f:FuncId)(t:TypeId):Prop:=
 ∃fn tR,P.funcs[f]?=some fn/\(fn.name == "runtime.NumGoroutine")=false/\fn.body.isNone=true/\Extern.findNext fn=none/\Extern.find fn=some (Extern.SlicesOverlaps.overlaps #[t,t] #[tR])
def xt(B:gA M ι g w)(C:TR M ι tm a)(hr:r.k=0)(hq : ∀k,ι { r with k:=k}=none){pc:FuncId->List AV->Option AV}(hpc : ∀f xs y,pc f xs=some y->ja E.P f xs y)
 {V:Bool} (hov:V=false ->∀f t,E.qC f=some t->wi E.P f t) {x:AV} {bs:List aY} (h:cI E pc V g tm r o=some (x,bs)):eR E.P o a w λu w'=>jS M ι g w r x bs u w':=by
 have S:ι r=none:=by have:=hq 0;rwa [show({ r with k:=0}:Ref)=r by cases r;simp_all]at this
 unfold cI at h;split at h;·rename_i y d;obtain⟨q,rfl⟩:=qA h;exact eR.jZ (u:=a.eval y) (w':=w) (by simp[execOp,d]) (jS.same B (aU C q))
 ·rename_i y d;obtain⟨q,rfl⟩:=qA h;exact eR.jZ (u:=a.eval y) (w':=w) (by simp[execOp,d]) (jS.same B (aU C q))
 ·rename_i c y z d;obtain⟨rfl,u,F,I⟩:=T4 (P:=E.P) (w:=w) C h;refine eR.jZ (u:=u) (w':=w) ?_ (jS.same B I);simp only[execOp,d];simp only[iQe]at F ⊢;cases Y:(asBool (a.eval c)).run E.P w with
  | ok b w1=>
   rw[Y]at F;simp only[iQd,iQj]at F ⊢;injection F with J K
   rw[J,K]
  | halt hh w1=>rw[Y]at F;cases F
 ·rename_i e d;exact eR.made (λQ m=>by simp only[execOp,d]) (Rn B hr S h)
 ·rename_i e y d;cases q:aL tm y with
  | none=>rw[q]at h;simp[HU]at h
  | some U=>rw[q]at h;exact eR.made (λQ m=>by simp only[execOp,d,m]) (Xo B hr S (aU C q) h)
 ·rename_i t ps d;cases I:gO tm ps.toList with
  | none=>rw[I]at h;simp only[nS]at h;split at h<;>first | cases h | (rename_i J K;cases K)
  | some vs=>
   rw[I]at h;obtain⟨J,K⟩:=qS (ι:=ι) C I;refine eR.same B (s:=Instr.build t (ps.map λ(p:Nat × Operand)=>(p.1,a.eval p.2))) (λQ m=>by simp only[execOp,d,m]) (Rm ?_ ?_ h);·rw[pN];exact J
   rw[pN];exact K
 ·rename_i t n ps d;cases I:gO tm ps.toList with
  | none=>rw[I]at h;simp[fT]at h
  | some vs=>
   rw[I]at h;obtain⟨J,K⟩:=qS (ι:=ι) C I;refine eR.made (s:=Instr.buildSlice t n (ps.map λ(p:Nat × Operand)=>(p.1,a.eval p.2))) (λQ m=>by simp only[execOp,d,m]) (GA B hr S h ?_ ?_);·rw[pN];exact J
   rw[pN];exact K
 ·rename_i t y d;cases q:aL tm y with
  | none=>rw[q]at h;simp[nh]at h
  | some U=>rw[q]at h;exact eR.same B (λQ m=>by simp only[execOp,d,m]) (T7 B (aU C q) h)
 ·rename_i y d;unfold Ln at h;split at h
  ·rename_i r' i j q;injection h with h;injection h with J K;subst J;subst K
   have I:=aU C q;refine eR.jZ (u:=a.eval y) (w':=w) ?_ (jS.same B I);generalize hu:a.eval y=u at I;cases I;simp[execOp,d,hu]
  ·rename_i n es i j q;injection h with h;injection h with J K;subst J;subst K
   have I:=aU C q;refine eR.jZ (u:=a.eval y) (w':=w) ?_ (jS.same B I);generalize hu:a.eval y=u at I;cases I;simp[execOp,d,hu]
  ·rename_i f b c q;injection h with h;injection h with J K;subst J;subst K
   have I:=aU C q;refine eR.jZ (u:=a.eval y) (w':=w) ?_ (jS.same B I);generalize hu:a.eval y=u at I;cases I;simp[execOp,d,hu]
  cases h
 ·rename_i op t xo yo ty d;cases hx:aL tm xo with
  | none=>rw[hx]at h;simp[bN]at h
  | some x'=>
   cases q:aL tm yo with| none=>rw[hx,q]at h;simp[bN]at h| some U=>rw[hx,q]at h;exact eR.same B (λQ m=>by simp only[execOp,d,m]) (Xp (aU C hx) (aU C q) h)
 ·rename_i op t y d;cases q:aL tm y with
  | none=>rw[q]at h;simp[Xj,jI]at h
  | some U=>rw[q]at h;exact eR.same B (λQ m=>by simp only[execOp,d,m]) (aaM (aU C q) h)
 ·rename_i src dst y d;cases q:aL tm y with
  | none=>rw[q]at h;simp[bX]at h
  | some U=>rw[q]at h;exact eR.made (λQ m=>by simp only[execOp,d,m]) (Lr B hr S (aU C q) h)
 ·rename_i t y d;cases q:aL tm y with
  | none=>rw[q]at h;simp only[yc]at h;split at h<;>simp at h
  | some U=>rw[q]at h;exact eR.same B (λQ m=>by simp only[execOp,d,m]) (Rk (aU C q) h)
 ·rename_i f first captured d
  cases J:first.toList.mapM (aL tm) with| none=>rw[J]at h;simp[yL]at h| some xs=>
   cases K:captured.toList.mapM (aL tm) with
   | none=>rw[J,K]at h;simp[yL]at h
   | some ys=>
    rw[J,K]at h;obtain⟨rfl,I⟩:=T9 (ml C J) (ml C K) h;refine eR.jZ (u := .func f (first.map a.eval) (captured.map a.eval)) (w':=w) (by simp[execOp,d,Instr.makeFunc]) (jS.same B ?_);have e1 : ∀l:Array Operand,(l.toList.map a.eval).toArray=l.map a.eval:=λl=>by apply Fi;simp
    rw[e1,e1]at I;exact I
 ·rename_i t l c d;cases hl:aL tm l with
  | none=>rw[hl]at h;simp only[xk,Fs]at h;split at h<;>first | cases h | (rename_i J K Z;cases K)
  | some l'=>
   cases Y:aL tm c with
   | none=>rw[hl,Y]at h;simp only[xk,Fs]at h;split at h<;>first | cases h | (rename_i J K Z;cases Z)
   | some c'=>rw[hl,Y]at h;exact eR.made (λQ m=>by simp only[execOp,d,m]) (T6 B hr S (aU C hl) (aU C Y) h)
 ·rename_i t d;cases h;exact eR.made (s:=Instr.makeMap t none) (λQ m=>by simp only[execOp,d,zh]) (Lo B hr S t)
 ·rename_i t y z ok d;cases q:aL tm y with
  | none=>rw[q]at h;simp only[oo]at h;split at h<;>simp_all
  | some U=>
   cases X:aL tm z with| none=>rw[q,X]at h;simp only[oo,Fs]at h;split at h<;>simp_all| some z'=>rw[q,X]at h;exact eR.same B (λQ m=>by simp only[execOp,d,m]) (NV B (aU C q) (aU C X) h)
 ·rename_i t y lo hi mx d;cases hwd:(E.wide o && !V) with
  | true=>
   rw[hwd]at h;simp only[iQq]at h;cases q:aL tm y with
   | none=>rw[q]at h;unfold lC at h;split at h<;>simp_all
   | some U=>
    cases J:mc tm lo with| none=>rw[J]at h;simp[lC]at h| some lo'=>
     cases K:mc tm hi with
     | none=>rw[K]at h;unfold lC at h;split at h<;>simp_all
     | some hi'=>
      cases Z:mc tm mx with
      | none=>rw[Z]at h;unfold lC at h;split at h<;>simp_all
      | some mx'=>rw[q,J,K,Z]at h;exact eR.same B (λQ m=>by simp only[execOp,d,m]) (NU B (aU C q) (tU C J) (tU C K) (tU C Z) h)
  | false=>
  rw[hwd]at h;simp only[iQu]at h;cases q:aL tm y with
  | none=>rw[q]at h;simp only[cm]at h;split at h<;>simp at h
  | some U=>
   rw[q]at h;cases J:mc tm lo with
   | none=>rw[J]at h;simp[cm]at h
   | some lo'=>
    cases K:mc tm hi with| none=>rw[J,K]at h;simp[cm]at h| some hi'=>
     cases Z:mc tm mx with
     | none=>rw[J,K,Z]at h;simp[cm]at h
     | some mx'=>rw[J,K,Z]at h;exact eR.same B (λQ m=>by simp only[execOp,d,m]) (Ri B (aU C q) (tU C J) (tU C K) (tU C Z) h)
 ·rename_i t y f d;cases q:aL tm y with
  | none=>rw[q]at h;simp only[iB]at h;split at h<;>(try split at h)<;>simp_all
  | some U=>rw[q]at h;exact eR.same B (λQ m=>by simp only[execOp,d,m]) (HT (aU C q) h)
 ·rename_i t y f d;cases q:aL tm y with
  | none=>rw[q]at h;simp only[tf]at h;split at h<;>simp_all
  | some U=>rw[q]at h;exact eR.same B (λQ m=>by simp only[execOp,d,m]) (Rl (aU C q) h)
 ·rename_i t y z d;cases q:aL tm y with
  | none=>rw[q]at h;simp only[bK]at h;(repeat' split at h)<;>simp_all
  | some U=>
   cases X:aL tm z with| none=>rw[q,X]at h;simp[bK]at h| some z'=>rw[q,X]at h;exact eR.same B (λQ m=>by simp only[execOp,d,m]) (HS B (aU C q) (aU C X) h)
 ·rename_i t y z d;cases q:aL tm y with
  | none=>rw[q]at h;simp only[vT]at h;split at h<;>simp_all
  | some U=>
   cases X:aL tm z with| none=>rw[q,X]at h;simp only[vT,Fs]at h;(repeat' split at h)<;>simp_all| some z'=>rw[q,X]at h;exact eR.same B (λQ m=>by simp only[execOp,d,m]) (Rj (aU C q) (aU C X) h)
 ·rename_i y st want ok d;cases q:aL tm y with
  | none=>rw[q]at h;simp only[Ad]at h;split at h<;>simp_all
  | some U=>rw[q]at h;exact eR.same B (λQ m=>by simp only[execOp,d,m]) (NZ (st:=st) (aU C q) h)
 ·rename_i y i d;cases q:aL tm y with
  | none=>rw[q]at h;simp[sP]at h
  | some U=>rw[q]at h;exact eR.same B (λQ m=>by simp only[execOp,d,m]) (Lq (aU C q) h)
 ·rename_i c d;split at h;·cases h
  rename_i args R;split at h
  ·rename_i fo Y;split at h
   ·rename_i t T;unfold Eh at T;split at T
    ·rename_i fi;obtain⟨fn,tR,f1,f2,f3,f4,f5⟩:=hov rfl fi t T;have H:=ml C R;obtain⟨rfl,rfl,L⟩:=T5 (P:=E.P) (tR:=tR) B H h;have G:(c.args.toList.map a.eval).toArray=c.args.map a.eval:=by apply Fi;simp
     rw[G]at L;have hex:(execOp a.eval o).run E.P w = .ok (.value (.bool false)) w:=by
      have h0:=run_callFunc_extern f1 f2 f3 f4 f5 (c.args.map a.eval) w;rw[L]at h0;simp only[iQd]at h0;have e0:(#[]++c.args.map a.eval ++ #[]:Array Value)=c.args.map a.eval:=by simp
      simp[execOp,d,resolve,Y,Act.eval,Deferred.ofValue,invoke,h0]
     exact eR.jZ hex (jS.same B (.v rfl))
    cases T
   obtain⟨⟨x0,bs0⟩,h0,e⟩:=bG.1 h;cases e;exact(Uc B C hq hpc d Y R h0).mono λu w'=>jS.OA
  ·cases h
  rename_i b Y;have H:=ml C R;have L : ∀(s:Sem Value)(us:List Value),(c.args.map a.eval).toList=us->(∀D,builtin b c.argTypes o.type D us.toArray=(do pure (Next.value (<-s)))) ->
   ∀ {u w'},s.run E.P w = .ok u w'->(execOp a.eval o).run E.P w = .ok (.value u) w':=by
   intro s us W hb u w' hs;have e1:c.args.map a.eval=us.toArray:=by rw[<-W]
   simp only[execOp,d,resolve,Y,invoke,iQe,iQj,iQd,e1,hb,hs]
  have G:(c.args.map a.eval).toList=c.args.toList.map a.eval:=(by simp);unfold cO at h;split at h;·rename_i r';obtain⟨u,N⟩:=J2 H.1.symm;rw[N]at H;have I:=H.2 0 (.mp r') u rfl rfl;obtain⟨rfl,u',F,O⟩:=NW (ty:=o.type) B I (Nf.1 h).2;exact eR.jZ (L _ [u] (by rw[G,N]) (λD=>rfl) F) (jS.same B O)
  ·rename_i y hnm;obtain⟨u,N⟩:=J2 H.1.symm;rw[N]at H;have I:=H.2 0 y u rfl rfl;obtain⟨rfl,u',F,O⟩:=Xk (P:=E.P) (w:=w) (ty:=o.type) I h;exact eR.jZ (L _ [u] (by rw[G,N]) (λD=>rfl) F) (jS.same B O)
  ·obtain⟨hm,rfl⟩:=qA h;obtain⟨u,us,W,u',F,O⟩:=IF (w:=w) H hm;exact eR.jZ (L (us.foldlM Builtin.min2 u) (u :: us) (by rw[G,W]) (λD=>rfl) F) (jS.same B O)
  ·obtain⟨hm,rfl⟩:=qA h;obtain⟨u,us,W,u',F,O⟩:=IF (w:=w) H hm;exact eR.jZ (L (us.foldlM Builtin.max2 u) (u :: us) (by rw[G,W]) (λD=>rfl) F) (jS.same B O)
  ·rename_i y z;obtain⟨u,v,N⟩:=yn H.1.symm;rw[N]at H;obtain⟨u',w',F,O⟩:=GB (P:=E.P) (ty:=o.type) B hr S (H.2 0 y u rfl rfl) (H.2 1 z v rfl rfl) h;exact eR.jZ (L _ [u,v] (by rw[G,N]) (λD=>rfl) F) O
  ·rename_i y;obtain⟨u,N⟩:=J2 H.1.symm;rw[N]at H;have I:=H.2 0 y u rfl rfl;obtain⟨rfl,u',F,O⟩:=Xm (P:=E.P) (w:=w) (ty:=o.type) I h;exact eR.jZ (L _ [u] (by rw[G,N]) (λD=>rfl) F) (jS.same B O)
  cases h
 cases h
def Pl{H:aa}(j:gA M ι H.get w)(i:rN ι H)(f:TR M ι tm a){t:TypeId}{m k y:Operand}{x:AV}{H':aa}
 (n : ∀c:Operand->Value,execOp c o=(do Instr.mapUpdate t (c m) (c k) (c y);pure Next.skip))
 (h:jn E.P H t (aL tm m) (aL tm k) (aL tm y)=some (x,H')):eR E.P o a w λu w'=>oA M ι H w x H' u w':=by
 cases hm:aL tm m with| none=>rw[hm]at h;simp only[jn]at h;split at h<;>simp_all| some q=>
  cases d:aL tm k with
  | none=>rw[hm,d]at h;simp only[jn]at h;split at h<;>simp_all
  | some k'=>
   cases e:aL tm y with
   | none=>rw[hm,d,e]at h;simp only[jn]at h;split at h<;>simp_all
   | some s=>rw[hm,d,e]at h;obtain⟨w',p,b⟩:=HE (P:=E.P) j i (aU f hm) (aU f d) (aU f e) h;exact eR.E2 (by simp[n,p]) b
def Vb{H:aa}{d tt:Nat}(J:gA M ι H.get w)(F:rN ι H)(G:TR M ι tm a){pc:FuncId->List AV->Option AV}(V : ∀f X y,pc f X=some y->ja E.P f X y)
 {tc:tE->List AV->aa->cJ} (Y : ∀f X H y H',tc f X H=some (y,H')->il E.P f X H y H') {x:AV} {H':aa}
 (R:Qa o.op=false) (h:evalW E pc tc H tm ⟨d,tt,H.gen d tt,0⟩ o=some (x,H')):eR E.P o a w λu w'=>oA M ι H w x H' u w':=by
 unfold evalW at h;split at h
 ·rename_i t y z i;cases S:aL tm y with
  | none=>rw[S]at h;simp[iV]at h
  | some y'=>
   cases hz:aL tm z with| none=>rw[S,hz]at h;simp only[iV]at h;(repeat' split at h)<;>simp_all| some z'=>rw[S,hz]at h;obtain⟨w',Q,j⟩:=Qr (P:=E.P) J F (aU G S) (aU G hz) h;exact eR.E2 (by simp[execOp,i,Q]) j
 ·rename_i t m k y i;exact Pl J F G (λρ=>by simp[execOp,i]) h
 ·rename_i t m k y i;exact Pl J F G (λρ=>by simp[execOp,i]) h
 ·rename_i t m k i;cases K:aL tm m with
  | none=>rw[K]at h;simp only[pG]at h;split at h<;>simp_all
  | some m'=>
   cases hk:aL tm k with| none=>rw[K,hk]at h;simp only[pG]at h;split at h<;>simp_all| some k'=>rw[K,hk]at h;obtain⟨u,w',Q,j⟩:=Ju (P:=E.P) J F (aU G K) (aU G hk) h;exact eR.jZ (by simp only[execOp,i];exact Gj Q) j
 ·rename_i t m s y i;cases K:aL tm m with
  | none=>rw[K]at h;simp[la]at h
  | some m'=>
   cases T:aL tm s with| none=>rw[K,T]at h;simp[la]at h| some s'=>
    cases S:aL tm y with
    | none=>rw[K,T,S]at h;simp[la]at h
    | some y'=>rw[K,T,S]at h;obtain⟨w',Q,j⟩:=FH (P:=E.P) (t:=t) J F (aU G K) (aU G T) (aU G S) h;exact eR.E2 (by simp[execOp,i,Q]) j
 ·rename_i t n ps i;cases U:gO tm ps.toList with
  | none=>rw[U]at h;simp[jH]at h
  | some vs=>rw[U]at h;obtain⟨h1,h2⟩:=qS (ι:=ι) G U;obtain⟨u,w',Q,j⟩:=FI (P:=E.P) (qs:=ps.map λ(p:Nat × Operand)=>(p.1,a.eval p.2)) J F h (by rw[pN];exact h1) (by rw[pN];exact h2);exact eR.jZ (by simp only[execOp,i];exact Gj Q) j
 ·rename_i t n i;unfold zY at h;split at h
  ·rename_i kd m b hn hb;obtain⟨⟨h0,h1,h2⟩,h⟩:=eQ.1 h;cases h;obtain⟨e,ht,hbe⟩:=iz.1 hb;have U:=aU G hn;generalize hev:a.eval n=nv at U;cases U;obtain⟨u,w',Q,j⟩:=JT (P:=E.P) J rfl (F.fresh d tt 0) ht hbe kd m.toNat (by omega) h2;have K:((m.toNat:Nat):Int)=m:=by omega
   rw[K]at Q;exact eR.jZ (by simp only[execOp,i,hev];exact Gj Q) (j.toW F)
  cases h
 ·rename_i i;rw[i]at R;cases R
 ·rename_i i;rw[i]at R;cases R
 ·rename_i c i;split at h;·cases h
  rename_i args D;split at h
  ·rename_i fo Z;rcases KE h with h | ⟨H1,rfl,h,hfl,B⟩
   ·exact KG J F G V Y i Z D h
   exact(KG J F G V Y i Z D h).mono λu w' hw=>Re J F hfl B hw
  ·cases h
  rename_i b Z;have C:=ml G D;have N : ∀(s:Sem Value)(us:List Value),(c.args.map a.eval).toList=us->(∀q,builtin b c.argTypes o.type q us.toArray=(do pure (Next.value (<-s)))) ->
   ∀ {u w'},s.run E.P w = .ok u w'->(execOp a.eval o).run E.P w = .ok (.value u) w':=by
   intro s us hus hb u w' T;have e1:c.args.map a.eval=us.toArray:=by rw[<-hus]
   simp only[execOp,i,resolve,Z,invoke,iQe,iQj,iQd,e1,hb,T]
  have B:(c.args.map a.eval).toList=c.args.toList.map a.eval:=(by simp);split at h;·rename_i y z;obtain⟨u,v,I⟩:=yn C.1.symm;rw[I]at C;obtain⟨u',w',L,O⟩:=FJ (P:=E.P) (ty:=o.type) J F (C.2 0 y u rfl rfl) (C.2 1 z v rfl rfl) h;exact eR.jZ (N _ [u,v] (by rw[B,I]) (λq=>rfl) L) O
  ·rename_i y z;obtain⟨u,v,I⟩:=yn C.1.symm;rw[I]at C;cases W:E.wide o with
   | true=>rw[W]at h;simp only[iQq]at h;obtain⟨u',w',L,O⟩:=Qs (P:=E.P) (ty:=o.type) J F (C.2 0 y u rfl rfl) (C.2 1 z v rfl rfl) h;exact eR.jZ (N _ [u,v] (by rw[B,I]) (λq=>rfl) L) O
   | false=>
   rw[W]at h;simp only[iQu]at h;obtain⟨u',w',L,O⟩:=SS (P:=E.P) (ty:=o.type) J F (C.2 0 y u rfl rfl) (C.2 1 z v rfl rfl) h;exact eR.jZ (N _ [u,v] (by rw[B,I]) (λq=>rfl) L) O
  cases h
 cases h
structure yy (M:Mem) (ι:Map) (st:St) (nt:Nat) (a:Act) (w:World):Prop where
 sim:gA M ι st.hp.get w
 dom:rN ι st.hp
 tr:TR M ι st.tm a
 nt:a.tmps.size=nt
def kD(M:Mem)(ι:Map)(st:St)(a:Act)(w:World)(nt:Nat)(st':St)(b:Act)(w':World):Prop:=
 (∃M' A,yy M' A st' nt b w'/\tz M ι st.hp.get w M' A st'.hp.get w')/\b.defers=a.defers
def kD.refl{st nt}(h:yy M ι st nt a w):kD M ι st a w nt st a w:=⟨⟨M,ι,h,tz.refl⟩,rfl⟩
def DQ{st st':St}{nt dep:Nat}{d:Bool}{ops:Array Oper}(c:yy M ι st nt a w){pc:FuncId->List AV->Option AV}(q : ∀f m y,pc f m=some y->ja E.P f m y)
 {tc:tE->List AV->aa->cJ} (G : ∀f m H y H',tc f m H=some (y,H')->il E.P f m H y H') (C:d=false ->∀f t,E.qC f=some t->wi E.P f t) (I:d=true\/Qa o.op=false) (h:evalOp E pc tc nt dep d ops o st=some st')
 {ro:Option Nat} {K:Act->World->Prop} {Q:Exit->Act->World->Prop} (s : ∀J w',kD M ι st a w nt st' J w'->K J w') :
 if Region.wanted o (yielded ops a.tmps) then o.wpIn (FW ro) 0 E.P a w K Q else K (a.put o.dst undef) w:=by
 unfold evalOp at h;split at h;·cases h
 ·rename_i z;rw[jT c.tr z];simp only[bG]at h;obtain⟨tm',b,rfl⟩:=h;obtain⟨B,D⟩:=c.tr.put c.nt b (u:=undef) (.v rfl);simp only[gj,iQh];exact s _ _ ⟨⟨M,ι,⟨c.sim,c.dom,B,D⟩,tz.refl⟩,iC _ _ _⟩
 rename_i z;rw[jT c.tr z];simp only[if_true];have p : ∀ {x:AV} {H':aa} {tm':List AV},eR E.P o a w (λu w'=>oA M ι st.hp w x H' u w')->dg nt st.tm o.dst x=some tm'->st'=⟨tm',H'⟩->o.wpIn (FW ro) 0 E.P a w K Q:=by
  intro x H' tm' e b O;subst O;refine e ro K Q λu w' ⟨M',A,B,D,h3,h4⟩=>s _ _ ?_;obtain⟨L,N⟩:=(c.tr.mono h3.mem h3.map).put c.nt b B;exact⟨⟨M',A,⟨D,h4,L,N⟩,h3⟩,iC _ _ _⟩
 split at h;·rename_i x bs F;simp only[bG]at h;obtain⟨tm',b,rfl⟩:=h;have:=xt (E:=E) (o:=o) c.sim c.tr rfl (λk=>c.dom.fresh dep (o.dst.getD 0) k) q C F;exact p (λro K Q s=>this ro K Q λu w' n=>s u w' (n.toW c.dom)) b rfl
 split at h;·cases h
 rename_i j;split at h
 ·rename_i x H' F;simp only[bG]at h;obtain⟨tm',b,rfl⟩:=h;have i:Qa o.op=false:=by
   rcases I with rfl | i
   ·simp only[ia,gz,Bool.not_eq_false]at j;cases e:o.op<;>first | rfl | (simp[jj,Z6,Aw,e]at j)
   exact i
  exact p (Vb (E:=E) (o:=o) c.sim c.dom c.tr q G i F) b rfl
 cases h
end
end
section
section
variable{E:Env}{M:Mem}{ι:Map}{w:World}{a:Act}
def kD.trans{st c d:St}{nt:Nat}{f n:Act}{i m:World}(h:kD M ι st a w nt c f i)(s : ∀e b,yy e b c nt f i->kD e b c f i nt d n m):kD M ι st a w nt d n m:=by
 obtain⟨⟨e,b,u,x⟩,v⟩:=h;obtain⟨⟨M2,j,p,t⟩,q⟩:=s e b u;exact⟨⟨M2,j,p,x.trans t⟩,q.trans v⟩
def J7{o:Oper}{st st':St}{nt dep:Nat}{ops:Array Oper}{i:Nat}(d:yy M ι st nt a w){pc:FuncId->List AV->Option AV}(S : ∀f I y,pc f I=some y->ja E.P f I y)
 {tc:tE->List AV->aa->cJ} (W : ∀f I H y H',tc f I H=some (y,H')->il E.P f I H y H') (V : ∀f t,E.qC f=some t->wi E.P f t) (h:evalOp E pc tc nt dep false ops o st=some st') (L:ops[i]?=some o)
 (b:Frame) (rest:List Nat) (k:List Item) (cs:List Frame) :
 ∃s w',kD M ι st a w nt st' s w'/\(b.kind = .normal->Steps E.P (lone (b.atR a (.inRegion ops (i :: rest) :: k)) cs w) (lone (b.atR s (.inRegion ops rest :: k)) cs w')):=by
 have C:Region.wanted o (yielded ops a.tmps)=false->Steps E.P (lone (b.atR a (.inRegion ops (i :: rest) :: k)) cs w) (lone (b.atR (a.put o.dst undef) (.inRegion ops rest :: k)) cs w):=by
  intro q;have X:=stepR_op_skip (P:=E.P) (b:=b) (a:=a) (k:=k) (cs:=cs) (w:=w) (ops:=ops) (i:=i) (rest:=rest) (by simp[L,q]);simp only[L,dX]at X;exact .one X
 cases n:Qa o.op with
 | false=>
  have p:=DQ (E:=E) (ro:=b.roundOf) (Q:=λ_ _ _=>False) d S W (λ_=>V) (.inr n) h (K:=λs w'=>kD M ι st a w nt st' s w') λs w' h=>h;by_cases q:Region.wanted o (yielded ops a.tmps)=true;·rw[if_pos q]at p;obtain⟨s,w',F,z⟩:=PM L q b p rest k cs;exact⟨s,w',F,λ_=>z⟩
  rw[if_neg q]at p;exact⟨_,_,p,λ_=>C (by simpa using q)⟩
 | true=>
  unfold evalOp at h;split at h;·cases h
  ·rename_i q;have B:=jT d.tr q;simp only[bG]at h;obtain⟨tm',j,rfl⟩:=h;obtain⟨p,F⟩:=d.tr.put d.nt j (u:=undef) (.v rfl);exact⟨_,_,⟨⟨M,ι,⟨d.sim,d.dom,p,F⟩,tz.refl⟩,iC _ _ _⟩,λ_=>C B⟩
  rename_i q;have B:=jT d.tr q;have J : ∀ {x:AV} {H':aa} {tm':List AV},Hv E.P o a w (λu w'=>oA M ι st.hp w x H' u w')->dg nt st.tm o.dst x=some tm'->st'=⟨tm',H'⟩ ->
   ∃s w',kD M ι st a w nt st' s w'/\(b.kind = .normal->Steps E.P (lone (b.atR a (.inRegion ops (i :: rest) :: k)) cs w) (lone (b.atR s (.inRegion ops rest :: k)) cs w')):=by
   intro x H' tm' e j he;subst he;by_cases Y:b.kind = .normal;·obtain⟨u,w',⟨M',A,p,F,z,U⟩,G⟩:=e b k cs ops i rest Y L B;obtain⟨N,O⟩:=(d.tr.mono z.mem z.map).put d.nt j p;exact⟨_,_,⟨⟨M',A,⟨F,U,N,O⟩,z⟩,iC _ _ _⟩,λ_ => .one G⟩
   obtain⟨u,w',⟨M',A,p,F,z,U⟩,G⟩:=e { b with kind := .normal} k cs ops i rest rfl L B;obtain⟨N,O⟩:=(d.tr.mono z.mem z.map).put d.nt j p;exact⟨_,_,⟨⟨M',A,⟨F,U,N,O⟩,z⟩,iC _ _ _⟩,λh=>absurd h Y⟩
  have T:cI E pc false st.hp.get st.tm ⟨dep,o.dst.getD 0,st.hp.gen dep (o.dst.getD 0),0⟩ o=none:=(by unfold cI;cases e:o.op<;>rw[e]at n<;>first | rfl | (cases n));rw[T]at h;simp only[pE,gj,iQh]at h;split at h
  ·rename_i x H' m;simp only[bG]at h;obtain⟨tm',j,rfl⟩:=h;unfold evalW at m;cases e:o.op<;>rw[e]at n m<;>try (cases n;done)
   ·rename_i c y;simp only at m;cases D:aL st.tm c with
    | none=>rw[D]at m;simp[FF]at m
    | some c'=>
     cases R:aL st.tm y with| none=>rw[D,R]at m;simp[FF]at m| some y'=>rw[D,R]at m;exact J (SQ d.sim d.dom e (aU d.tr D) (aU d.tr R) m) j rfl
   rename_i t c Z;simp only at m;cases D:aL st.tm c with
   | none=>rw[D]at m;simp[Im]at m
   | some c'=>rw[D]at m;exact J (SR d.sim d.dom e (aU d.tr D) m) j rfl
  cases h
def Vh{H H':aa}{tm:List AV}{dep:Nat}{o:Oper}{x:AV}(D:gA M ι H.get w)(C:rN ι H)(F:TR M ι tm a)(h:Et E false H tm ⟨dep,o.dst.getD 0,H.gen dep (o.dst.getD 0),0⟩ o=some (some (x,H'))) :
 eR E.P o a w λu w'=>oA M ι H w x H' u w':=by
 unfold Et at h;split at h;·cases h
 split at h
 ·rename_i t n ps f;simp only[dV]at h;cases s:gO tm ps.toList with
  | none=>rw[s]at h;simp[tF]at h
  | some O=>rw[s]at h;obtain⟨I,K⟩:=qS (ι:=ι) F s;obtain⟨u,w',L,j⟩:=Nk (P:=E.P) (qs:=ps.map λ(p:Nat × Operand)=>(p.1,a.eval p.2)) D C h (by rw[pN];exact I) (by rw[pN];exact K);exact eR.jZ (by simp only[execOp,f];exact Gj L) j
 ·rename_i c f;split at h
  ·rename_i N;simp only[dV]at h;split at h
   ·rename_i y z i;have d:=ml F i;have e:(c.args.map a.eval).toList=c.args.toList.map a.eval:=by simp
    obtain⟨u,v,m⟩:=yn d.1.symm;rw[m]at d;obtain⟨Q,w',q,B⟩:=SU (P:=E.P) (ty:=o.type) D C (d.2 0 y u rfl rfl) (d.2 1 z v rfl rfl) h;refine eR.jZ ?_ B;have J:c.args.map a.eval=[u,v].toArray:=by rw[<-m,<-e]
    have G : ∀b,builtin .append c.argTypes o.type b [u,v].toArray=(do pure (Next.value (<-Builtin.append_ c.argTypes o.type #[u,v]))):=λb=>rfl;simp only[execOp,f,resolve,N,invoke,iQe,iQj,iQd,J,G,q]
   cases h
  cases h
 cases h
def Me{o:Oper}{st st':St}{nt dep:Nat}{ops:Array Oper}{i:Nat}(c:yy M ι st nt a w){pc:FuncId->List AV->Option AV}(G : ∀f q y,pc f q=some y->ja E.P f q y)
 {tc:tE->List AV->aa->cJ} (D : ∀f q H y H',tc f q H=some (y,H')->il E.P f q H y H') (C : ∀f t,E.qC f=some t->wi E.P f t) (h:yQ E pc tc nt dep false ops o st=some st') (s:ops[i]?=some o)
 (b:Frame) (rest:List Nat) (k:List Item) (cs:List Frame) :
 ∃j w',kD M ι st a w nt st' j w'/\(b.kind = .normal->Steps E.P (lone (b.atR a (.inRegion ops (i :: rest) :: k)) cs w) (lone (b.atR j (.inRegion ops rest :: k)) cs w')):=by
 unfold yQ at h;split at h;·exact J7 c G D C h s b rest k cs
 rename_i wr F;split at h;·cases h
 ·rename_i z;have d:=jT c.tr z;simp only[bG]at h;obtain⟨tm',e,rfl⟩:=h;obtain⟨n,p⟩:=c.tr.put c.nt e (u:=undef) (.v rfl);refine⟨_,_,⟨⟨M,ι,⟨c.sim,c.dom,n,p⟩,tz.refl⟩,iC _ _ _⟩,λ_=>?_⟩;have I:=stepR_op_skip (P:=E.P) (b:=b) (a:=a) (k:=k) (cs:=cs) (w:=w) (ops:=ops) (i:=i) (rest:=rest) (by simp[s,d]);simp only[s,dX]at I;exact .one I
 rename_i z;have d:=jT c.tr z;split at h
 ·rename_i x H';simp only[bG]at h;obtain⟨tm',e,rfl⟩:=h;have B:=Vh c.sim c.dom c.tr F;have n:o.wpIn (FW b.roundOf) 0 E.P a w (λj w'=>kD M ι st a w nt ⟨tm',H'⟩ j w') (λ_ _ _=>False):=by
   refine B _ _ _ λu w' ⟨M',A,n,p,m,h4⟩=>?_;obtain⟨J,K⟩:=(c.tr.mono m.mem m.map).put c.nt e n;exact⟨⟨M',A,⟨p,h4,J,K⟩,m⟩,iC _ _ _⟩
  obtain⟨j,w',p,m⟩:=PM s d b n rest k cs;exact⟨j,w',p,λ_=>m⟩
 cases h
def JO{pc:FuncId->List AV->Option AV}(B : ∀f d y,pc f d=some y->ja E.P f d y)
 {tc:tE->List AV->aa->cJ} (x : ∀f d H y H',tc f d H=some (y,H')->il E.P f d H y H') (n : ∀f t,E.qC f=some t->wi E.P f t) {nt dep:Nat} {ops:Array Oper} {st':St} (b:Frame) (k:List Item) (cs:List Frame) :
 ∀(l c:List Oper)(st:St)(M:Mem)(ι:Map)(a:Act)(w:World),ops.toList=c++l->nw E pc tc nt dep false ops l st=some st'->yy M ι st nt a w ->
  ∃I w',kD M ι st a w nt st' I w'/\(b.kind = .normal->Steps E.P (lone (b.atR a (.inRegion ops (List.range' c.length l.length) :: k)) cs w) (lone (b.atR I (.inRegion ops [] :: k)) cs w')):=by
 intro l;induction l with
 | nil=>intro c st M ι a w _ h z;simp only[nw,dV]at h;subst h;exact⟨a,w,kD.refl z,λ_=>Steps.refl _ _⟩
 | cons o l J=>
  intro c st M ι a w F h z;simp only[nw]at h;split at h
  ·rename_i m O;have U:ops[c.length]?=some o:=by
    rw[<-Fe,F];simp
   obtain⟨K,R,e,u⟩:=Me z B x n O U b (List.range' (c.length+1) l.length) k cs;obtain⟨⟨S,q,v,i⟩,Q⟩:=e;obtain⟨T,N,⟨⟨M2,s,C,p⟩,L⟩,j⟩:=J (c++[o]) m S q K R (by simp[F]) h v;refine⟨T,N,⟨⟨M2,s,C,i.trans p⟩,L.trans Q⟩,λG=>?_⟩;have D:=j G;simp only[ju,iA,k8,ue]at D;rw[iA,List.range'_succ];exact(u G).trans D
  cases h
def JQ{pc:FuncId->List AV->Option AV}(j : ∀f c y,pc f c=some y->ja E.P f c y)
 {tc:tE->List AV->aa->cJ} (i : ∀f c H y H',tc f c H=some (y,H')->il E.P f c H y H') (e : ∀f t,E.qC f=some t->wi E.P f t) {nt dep id:Nat} {ops:Array Oper} {st st':St} (b:Frame) (k:List Item) (cs:List Frame)
 (h:nw E pc tc nt dep false ops ops.toList st=some st') (q:yy M ι st nt a w) :
 ∃d w',kD M ι st a w nt st' d w'/\(b.kind = .normal->Steps E.P (lone (b.atR a (.code (.region id ops false) :: k)) cs w) (lone (b.atR d k) cs w')):=by
 obtain⟨d,w',m,n⟩:=JO j i e b k cs ops.toList [] st M ι a w rfl h q;refine⟨d,w',m,λp=>iQn (.one ?_) (iQn (n p) (.one stepR_region_end))⟩;have:=stepR_region (P:=E.P) (b:=b) (a:=a) (k:=k) (cs:=cs) (w:=w) (id:=id) (ops:=ops);simpa [M5] using this
structure Env.Ok (E:Env) (ok:Array Oper->Bool):Prop where
 fns : ∀f,E.allowed f=true ->∃fn,E.P.funcs[f]?=some fn/\(fn.name == "runtime.NumGoroutine")=false /\∀c,fn.body=some c->codeOk ok c=true
 specs : ∀f args y,E.spec f args=some y->ja E.P f args y
 same:E.ok=ok
 overs : ∀f t,E.qC f=some t->wi E.P f t
 thrs : ∀f args H y H',E.thrSpec f args H=some (y,H')->il E.P (.fn f) args H y H'
 draws : ∀(ops:Array Oper),ok ops=true ->∀ {pc:FuncId->List AV->Option AV},(∀f xs y,pc f xs=some y->ja E.P f xs y) ->
  ∀ {tc:tE->List AV->aa->cJ},(∀f xs H y H',tc f xs H=some (y,H')->il E.P f xs H y H') ->∀(nt dep id:Nat)(st st':St)(M:Mem)(ι:Map)(a:Act)(w:World)(ro:Option Nat)(Q:Exit->Act->World->Prop),
  nw E pc tc nt dep true ops ops.toList st=some st'->sA E ops st'=true->yy M ι st nt a w->(∀a' w',kD M ι st a w nt st' a' w'->Q .normal a' w')->(Code.region id ops true).wpIn (FW ro) 0 E.P Q a w
def IU{ok:Array Oper->Bool}{id:Nat} : ∀ {k k':List Item},exitTo id k=some k'->(∀i∈k,nZ ok i=true) ->∀i∈k',nZ ok i=true:=by
 intro k;induction k with
 | nil=>intro k' h;simp[exitTo]at h
 | cons x k c=>
  intro k' h d;have b : ∀i∈k,nZ ok i=true:=λi hi=>d i (iS _ hi);cases x with
  | inBlock e=>
   simp only[exitTo]at h;split at h;·injection h with h;subst h;exact b
   exact c h b
  | _=>exact c (by simpa [exitTo] using h) b
def aao{P:Program}{ro:Option Nat}{m b:Machine}(h:StepsIn (Machine.fenced P (FW ro)) P m b):Steps P m b:=iQy h
def KX{P:Program}{c:Code}{a:Act}{w:World}{R:Act->World->Prop}(b:Frame)(h:c.wpIn (FW b.roundOf) 0 P (λe a w=>e = .normal/\R a w) a w)(k:List Item)(cs:List Frame) :
 ∃f w',R f w'/\Steps P (lone (b.atR a (.code c :: k)) cs w) (lone (b.atR f k) cs w'):=by
 obtain⟨e,f,w',⟨he,i⟩,d⟩:=h b k cs rfl trivial (λ_ h=>by simp[FW,Fence.wide]at h);subst he;exact⟨f,w',i,aao d⟩
def UG{H:aa}{r:Ref}{n:Nat}{b:AV}(h:xq H r=some (n,b)) : ∃st a f,H.get r=some ⟨0,[.v (.int .i64 st),b],a,f⟩/\st.toNat=n:=by
 unfold xq at h;split at h;·rename_i st c a f d;cases h;exact⟨st,a,f,d,rfl⟩
 cases h
structure VQ (r r':Loop):Prop where
 tmps:r'.tmps=r.tmps
 params:r'.params=r.params
 assign:r'.assign=r.assign
 body:r'.body=r.body
def Ah{H:aa}{r:Ref}{l:Loc}{n:Nat}{p:AV}(D:gA M ι H.get w)(hD:rN ι H)(Y:ι r=some l)(ha:xq H r=some (n,p)) :
 ∃nt ps assign body tm y,p = .lp 0 nt ps assign body tm/\w.heap[l.b]?=some (.loop y)/\y.params=ps.toArray/\y.assign=assign/\y.body=body/\y.tmps.size=nt/\(∀t,VR M ι (cX tm t) (y.tmps.getD t undef))/\Cb n y /\
  (∀F c,VQ y c->Cb F c->gA M ι (H.put r (some (dW F p))).get (ca w l.b (.loop c))/\tz M ι H.get w M ι (H.put r (some (dW F p))).get (ca w l.b (.loop c))/\rN ι (H.put r (some (dW F p)))) /\
  ∀c,gA M ι (H.put r none).get (ca w l.b (.loop c))/\tz M ι H.get w M ι (H.put r none).get (ca w l.b (.loop c))/\rN ι (H.put r none):=by
 obtain⟨st,a,f,S,hst⟩:=UG ha;obtain⟨l',L,hb⟩:=D.live r _ S;rw[Y]at L;cases L;rcases hb.objOk rfl with ⟨n0,nt,ps,as,bd,tm,y,W,X,B,O,V,h6,h7,h8,h9,h10⟩ | ⟨_,_,_,_,B,_⟩ | ⟨_,_,_,_,_,_,_,_,B,_⟩
 case inr.inl=>simp at B
 case inr.inr=>simp at B
 simp only[wB,AV.v.injEq,Value.int.injEq,iQt,iQs]at B;obtain⟨e1,e2⟩:=B;subst e2;have hn:n0=n:=by rw[<-hst,e1];simp
 subst hn;have hlt:l.b<w.heap.size:=(iT.1 O).1;have hM : ∀o x,M l.b o=some x->False:=by
  intro o x U;have:=D.mem _ _ _ U;simp[World.cell?,O]at this
 have hlz:l.esz=0:=hb.esz;have j : ∀c d,∀q k,(H.put r d).get q=some k->q≠r ->∃m,ι q=some m/\oS M ι (ca w l.b (.loop c)) m k:=by
  intro c d q k i z;rw[aa.ab,if_neg z]at i;obtain⟨m,Q,R⟩:=D.live q k i;have hnb:l.b≠m.b:=λe=>z (D.inj q r k _ m l i S Q Y e.symm);exact⟨m,Q,R.bk (λ_ _ _ h=>h) (λ_ _ h=>h) (eY hnb) R.frozen⟩
 have C : ∀c,∀b o x,M b o=some x->(ca w l.b (.loop c)).cell? ⟨b,o,none⟩=some x:=by
  intro c b o x U;have z:l.b≠b:=λe=>hM o x (e ▸ U);rw[iQk (w:=w) (eY z)];exact D.mem b o x U
 have u : ∀(d:Option aY) q k,(H.put r d).get q=some k ->∃K,H.get q=some K:=by
  intro d q k i;rw[aa.ab]at i;split at i;·rename_i e;exact⟨_,e ▸ S⟩
  exact⟨k,i⟩
 have T : ∀(d:Option aY) q G k k' m Z,(H.put r d).get q=some k->(H.put r d).get G=some k'->ι q=some m->ι G=some Z->m.b=Z.b->q=G:=by
  intro d q G k k' m Z W X B O V;obtain⟨K,g1⟩:=u d q k W;obtain⟨k1,g2⟩:=u d G k' X;exact D.inj q G K k1 m Z g1 g2 B O V
 have fwd : ∀(d:Option aY) c,tz M ι H.get w M ι (H.put r d).get (ca w l.b (.loop c)):=by
  intro d c;refine⟨rfl,rfl,rfl,by simp[ca],λb _ hno=>eY (hno r _ l S Y),λ_ _ _ h=>h,λ_ _ h=>h,λq k m W X=>?_,λ_ _ _ h => .inl h⟩;obtain⟨K,g1⟩:=u d q k W;exact .inr ⟨q,K,m,g1,X,rfl⟩
 have J : ∀d:Option aY,rN ι (H.put r d):=by
  intro d q lq i;rw[aa.dK _ _ _ (by rw[S];rfl)];exact hD q lq i
 refine⟨nt,ps,as,bd,tm,y,rfl,O,V,h6,h7,h8,h9,h10,λF c I N=>⟨⟨C c,λq k i=>?_,T _⟩,fwd _ c,J _⟩,λc=>⟨⟨C c,λq k i=>?_,T _⟩,fwd _ c,J _⟩⟩
 ·by_cases s:q=r;·subst s;rw[aa.ab,if_pos rfl]at i;cases i;refine⟨l,Y,nJ.Sa (.inl ⟨F,nt,ps,as,bd,tm,c,rfl,rfl,rfl,gI hlt,by rw[I.params];exact V,by rw[I.assign];exact h6,by rw[I.body];exact h7,by rw[I.tmps];exact h8,by rw[I.tmps];exact h9,N⟩) hlz hM⟩
  exact j c _ q k i s
 by_cases s:q=r;·rw[aa.ab,if_pos s]at i;cases i
 exact j c _ q k i s
def UH{H:aa}{d nt:Nat}{tm:List AV}{a:Act}{ps:Array Tmp}{assign body:Code}{fn:FuncId}(D:gA M ι H.get w)(O:rN ι H)(X:TR M ι tm a)(hn:a.tmps.size=nt){s:World}
 (F:s=(w.alloc (.deferred (some []))).alloc (.loop { state := .ready,pending:=none,fn,tmps:=a.tmps,params:=ps,assign,body,defers:=w.heap.size})) :
 let r:Ref:=⟨d,nt,H.gen d nt,0⟩
 let c:=iq ι r ⟨w.heap.size+1,0,0⟩
 gA M c (aa.get ((r,some (dW 0 (.lp 0 nt ps.toList assign body tm))) :: H)) s/\tz M ι H.get w M c (aa.get ((r,some (dW 0 (.lp 0 nt ps.toList assign body tm))) :: H)) s /\
  rN c ((r,some (dW 0 (.lp 0 nt ps.toList assign body tm))) :: H)/\s.heap[w.heap.size]?=some (.deferred (some [])):=by
 intro r c;have W:ι r=none:=O.fresh d nt 0;have n:=EW (l:=⟨w.heap.size+1,0,0⟩) W;have f:s.heap=(w.heap.push (.deferred (some []))).push (.loop { state := .ready,pending:=none,fn,tmps:=a.tmps,params:=ps,assign,body,defers:=w.heap.size}):=by rw[F];rfl
 have m : ∀b,b<w.heap.size->s.heap[b]?=w.heap[b]?:=by
  intro b G;rw[f,D4 (by simp;omega),<-kn,D4 G,<-kn]
 have K:s.heap[w.heap.size]?=some (.deferred (some [])):=by rw[f,D4 (by simp),<-kn];simp
 have I:s.heap[w.heap.size+1]?=some (.loop { state := .ready,pending:=none,fn,tmps:=a.tmps,params:=ps,assign,body,defers:=w.heap.size}):=by rw[f,Array.getElem?_push];simp
 have p : ∀b o x,M b o=some x->b<w.heap.size:=λb o x h=>iQm w ⟨b,o,none⟩ (D.mem b o x h);have j : ∀q,aa.get ((r,some (dW 0 (.lp 0 nt ps.toList assign body tm))) :: H) q=if r=q then some (dW 0 (.lp 0 nt ps.toList assign body tm)) else H.get q:=λq=>rfl
 refine⟨⟨λb o x h=>?_,λq k h=>?_,λq q' k k' i R z u T Z V=>?_⟩,⟨by rw[F];rfl,by rw[F];rfl,by rw[F];rfl,by rw[f];simp;omega,λb G _=>m b G,λ_ _ _ h=>h,n,λq k i z u=>?_,λ_ _ _ h => .inl h⟩,λq i h=>?_,K⟩;·rw[iQk (w:=w) (m b (p b o x h))];exact D.mem b o x h
 ·rw[j]at h;split at h;·rename_i e;subst e;cases h;refine⟨⟨w.heap.size+1,0,0⟩,by simp[c,iq],nJ.Sa (.inl ⟨0,nt,ps.toList,assign,body,tm,_,rfl,rfl,rfl,I,by simp,rfl,rfl,hn,λt=>(X.at_ t).mono (λ_ _ _ h=>h) c n,⟨rfl,rfl⟩⟩) rfl ?_⟩;intro o x U;have:=p _ _ _ U;simp only at this;omega
  obtain⟨i,L,v⟩:=D.live q k h;exact⟨i,n q i L,v.bk (λ_ _ _ h=>h) n (m _ v.lt) v.frozen⟩
 ·have one : ∀ {q:Ref} {k i},aa.get ((r,some (dW 0 (.lp 0 nt ps.toList assign body tm))) :: H) q=some k->c q=some i->(q=r/\i.b=w.heap.size+1)\/(q≠r/\H.get q=some k/\ι q=some i/\i.b<w.heap.size):=by
   intro q k i h y;rw[j]at h;split at h;·rename_i e;subst e;simp only[c,iq,if_true]at y;cases y;exact .inl ⟨rfl,rfl⟩
   rename_i e;simp only[c,iq]at y;rw[if_neg (rO e)]at y;obtain⟨R,C,J⟩:=D.live q k h;rw[y]at C;cases C;exact .inr ⟨rO e,h,y,J.lt⟩
  rcases one z T with ⟨Q,N⟩ | ⟨Q,N,Y,e4⟩<;>rcases one u Z with ⟨f1,f2⟩ | ⟨f1,f2,f3,f4⟩
  ·rw[Q,f1]
  ·omega
  ·omega
  exact D.inj q q' k k' i R N f2 Y f3 V
 ·rw[j]at z;simp only[c,iq]at u;split at z;·rename_i e;rw[if_pos e.symm]at u;cases u;exact .inl (Bi _)
  rename_i e;rw[if_neg (rO e)]at u;exact .inr ⟨q,k,i,z,u,rfl⟩
 simp only[c,iq]at h;simp only[aa.gen];by_cases B:q=r;·subst B;rw[if_pos ⟨rfl,rfl⟩];exact qp _
 rw[if_neg B]at h;have:=O q i h;split;·rename_i S;rw[<-S.1,<-S.2]at this;exact Bp this
 exact this
def QA : ∀(args:List AV)(t:Nat),cX args t=(args[t]?).getD AV.undef:=by
 intro args;induction args with
 | nil=>intro t;simp[cX]
 | cons x l b=>
  intro t;cases t with
  | zero=>simp[cX]
  | succ t=>simp[cX,b]
def Xa(tmps:Array Value):ResultVar->Sem Value
 | .tmp t=>pure (tmps.getD t undef)
 | .cell b t=>asAddr (tmps.getD b undef) >>= λx=>loadVar t x
def NQ(fn:Func)(tmps:Array Value):results fn tmps=fn.results.mapM (Xa tmps) >>= λb=>pure (if h:b.size=1 then b[0] else .tuple b):=by
 unfold results;congr 1
def NP{fn:Func}{st:St}{nt:Nat}(H:yy M ι st nt a w){x:AV}(h:xi E.P fn st=some x) : ∃v,(results fn a.tmps).run E.P w = .ok v w/\VR M ι x v:=by
 have one : ∀(D:ResultVar)(y:AV),lN E.P st D=some y ->∃v,(Xa a.tmps D).run E.P w = .ok v w/\VR M ι y v:=by
  intro D y q;cases D with
  | tmp t=>simp only[lN,dV]at q;subst q;exact⟨_,rfl,H.tr.at_ t⟩
  | cell b t=>
   simp only[lN]at q;split at q
   ·rename_i r i j g n L Q S;split at q;·rename_i k R;have F:=H.tr.at_ b;rw[L]at F;obtain⟨v,p,m⟩:=PS Q S H.sim F R q;refine⟨v,?_,m⟩;simp only[Xa];generalize a.tmps.getD b undef=u at F p ⊢;cases F;simpa [asAddr,Instr.loadAt,Instr.sureAddr] using p
    cases q
   cases q
 have B : ∀(rs:List ResultVar)(ys:List AV),rs.mapM (lN E.P st)=some ys ->∃f,(rs.mapM (Xa a.tmps)).run E.P w = .ok f w/\lI M ι ys f:=by
  intro rs;induction rs with
  | nil=>intro ys h;simp at h;subst h;exact⟨[],rfl,lI.nil⟩
  | cons r rs K=>intro ys h;simp only[na,rA,sJ,iz]at h;obtain⟨y,q,G,d,h⟩:=h;simp at h;subst h;obtain⟨v,p,m⟩:=one r y q;obtain⟨f,J,O⟩:=K G d;refine⟨v :: f,?_,lI.cons m O⟩;rw[na];simp only[iQe,p,iQd,J,iQj]
 unfold xi at h;have s : ∀ys,fn.results.toList.mapM (lN E.P st)=some ys ->∃f:List Value,(results fn a.tmps).run E.P w = .ok (if h:f.toArray.size=1 then f.toArray[0] else .tuple f.toArray) w/\lI M ι ys f:=by
  intro ys d;obtain⟨f,p,m⟩:=B _ ys d;refine⟨f,?_,m⟩;rw[NQ];simp only[Array.mapM_eq_mapM_toList,iQe,Sem.run_map,p,iQd,iQj]
 split at h
 ·rename_i d;injection h with h
  subst h;obtain⟨f,p,m⟩:=s _ d;have:f=[]:=yG (by rw[<-m.1];rfl);subst this;exact⟨_,p,.v rfl⟩
 ·rename_i y d;injection h with h
  subst h;obtain⟨f,p,m⟩:=s _ d;obtain⟨v,rfl⟩:=J2 m.1.symm;exact⟨v,by simpa using p,m.2 0 y v rfl rfl⟩
 ·rename_i ys z C d;injection h with h
  subst h;obtain⟨f,p,m⟩:=s _ d;have N:f.length≠1:=by
   intro h;rw[<-m.1]at h;obtain⟨y,q⟩:=J2 h;exact C y q
  refine⟨.tuple f.toArray,?_,.tup ?_ (by simpa using m.1) λi c u T I=>m.2 i c u T (by simpa using I)⟩;·rw[p,dif_neg (by simpa using N)]
  intro e;exact z e
 cases h
def marks(ds:List Nat):List Deferred:=ds.map λD => { target := .collected D,args := #[]}
def rn(w w':World)(ds:List Nat):Prop:=ds.Nodup /\∀D∈ds,w.heap.size<=D/\w'.heap[D]?=some (.deferred (some []))
def GL{M:Mem}{ι:Map}{g:cL}{w:World}(n:gA M ι g w){D:Nat}{x:Option (List Deferred)}(h:w.heap[D]?=some (.deferred x)) : ∀r k l,g r=some k->ι r=some l->l.b≠D:=by
 intro r k l j m e;obtain⟨p,d,i⟩:=n.live r k j;rw[m]at d;cases d;rcases Dc k.esz with f | f
 ·rcases(i.objOk f).obj with ⟨_,c⟩ | ⟨_,_,c⟩ | ⟨_,_,_,_,_,_,c⟩
  ·rw[e,h]at c;cases c
  ·rw[e,h]at c;cases c
  rw[e,h]at c;cases c
 obtain⟨_,_,_,c,_⟩:=(i.cellsOk f).heap;rw[e,h]at c;cases c
def rn.fwd{w b e:World}{ds:List Nat}{M1 ι1 g1 M2 ι2 g2}(h:rn w b ds)(i:gA M1 ι1 g1 b)(f:tz M1 ι1 g1 b M2 ι2 g2 e):rn w e ds:=
 ⟨h.1,λD d=>⟨(h.2 D d).1,by
  have c:=(h.2 D d).2;rw[f.chg D (iT.1 c).1 (GL i c)];exact c⟩⟩
def rn.append{w i j:World}{ds c:List Nat}(m:w.heap.size<=i.heap.size)(h:rn w j ds)(q : ∀D∈ds,D<i.heap.size)(f:rn i j c):rn w j (c++ds):=by
 refine⟨Da.2 ⟨f.1,h.1,λa s b n e=>?_⟩,λD p=>?_⟩;·have:=(f.2 a s).1;have:=q b n;omega
 rcases kQ.1 p with d | d
 ·exact⟨vj m (f.2 D d).1,(f.2 D d).2⟩
 exact h.2 D d
def ET(P:Program)(rd:Option Ref)(M:Mem)(ι:Map)(st:St)(a:Act)(w:World)(nt:Nat)(st':St)(b:Frame)(cs:List Frame)(m:Machine):Prop:=match rd with
 | none=>b.roundOf=none->b.kind = .normal ->∃h w' e ds,(∃M' A,yy M' A st' nt h w'/\tz M ι st.hp.get w M' A st'.hp.get w')/\h.defers=marks ds++a.defers/\rn w w' ds /\
  Steps P m (lone { b.atR h e with mode := .returning} cs w')
 | some r =>∀l c d,ι r=some l->b.roundOf=some l.b->b.kind = .normal->cs=c :: d ->∃n f w',xq st'.hp r=some (n,f)/\n≠1 /\
  (∃M' A,gA M' A st'.hp.get w'/\tz M ι st.hp.get w M' A st'.hp.get w'/\rN A st'.hp)/\Steps P m (lone (c.finish (.bool (n == 0))) d w')
def ET.of_steps{P:Program}{rd:Option Ref}{M z:Mem}{ι e:Map}{st d st':St}{a F:Act}{w s:World}{nt:Nat}{b:Frame}{cs:List Frame}{m I:Machine}{ds:List Nat}
 (C:b.roundOf=none\/rd≠none->b.kind = .normal->Steps P m I) (B:gA z e d.hp.get s) (q:tz M ι st.hp.get w z e d.hp.get s) (hd:F.defers=marks ds++a.defers) (H:rn w s ds) (h:ET P rd z e d F s nt st' b cs I):ET P rd M ι st a w nt st' b cs m:=by
 unfold ET at h ⊢;cases rd with
 | none=>intro p j;obtain⟨S,w',todo,v,⟨M',A,T,i⟩,y,x,f⟩:=h p j;refine⟨S,w',todo,v++ds,⟨M',A,T,q.trans i⟩,?_,(H.fwd B i).append q.size (λD L=>(iT.1 (H.2 D L).2).1) x,(C (.inl p) j).trans f⟩;rw[y,hd];simp[marks]
 | some r=>intro l c t Q p G u;obtain⟨n,inf,w',N,O,⟨M',A,J,R,K⟩,f⟩:=h l c t (q.map r l Q) p G u;exact⟨n,inf,w',N,O,⟨M',A,J,q.trans R,K⟩,(C (.inr (by simp)) G).trans f⟩
def sS{w w':World}:rn w w' []:=⟨List.nodup_nil,λD h=>by cases h⟩
def MM(E:Env)(ok:Array Oper->Bool)(n:Nat):Prop:=
 ∀(rd:Option Ref)(nt dep:Nat)(c:List Item)(st st':St),ck E n rd nt dep c st=some st'->(∀i∈c,nZ ok i=true) ->∀(M:Mem)(ι:Map)(a:Act)(w:World),yy M ι st nt a w ->
  ∀(b:Frame)(cs:List Frame),ET E.P rd M ι st a w nt st' b cs (lone (b.atR a c) cs w)
def LM{P:Program}{fr:Frame}{cs:List Frame} : ∀(ds:List Nat)(w:World),fr.mode = .returning->ds.Nodup->(∀D∈ds,w.heap[D]?=some (.deferred (some []))) ->
 ∃w',Steps P (lone { fr with defers:=marks ds} cs w) (lone { fr with defers:=[]} cs w')/\w'.os=w.os/\w'.tape=w.tape/\w'.output=w.output/\w'.heap.size=w.heap.size /\∀b,b ∉ ds->w'.heap[b]?=w.heap[b]?:=by
 intro ds;induction ds with
 | nil=>intro w _ _ _;exact⟨w,Steps.refl _ _,rfl,rfl,rfl,rfl,λ_ _=>rfl⟩
 | cons D ds s=>
  intro w j i n;have z:=run_takeDeferred (P:=P) (n D (gD ..));have c:=step_collected (P:=P) (fr := { fr with defers:=marks (D :: ds)}) (cs:=cs) (w:=w) (d := { target := .collected D,args := #[]}) (r:=D) (ds:=marks ds) (by simp[j]) rfl rfl z;obtain⟨w',q,p,x,u,y,v⟩:=s (w.putObj D (.deferred none)) j (wC.1 i).2 (λt f=>by
   rw[iQD (by intro e;subst e;exact(wC.1 i).1 f)];exact n t (iS _ f))
  refine⟨w',iQn (.one c) (by simpa using q),p,x,u,by rw[y];simp,λb m=>?_⟩;rw[v b (λh=>m (iS _ h)),iQD (by intro e;subst e;exact m (gD ..))]
def gA.other{M:Mem}{ι:Map}{g:cL}{w w':World}(e:gA M ι g w){ds:List Nat}(d : ∀D∈ds,w.heap[D]?=some (.deferred (some [])))(h : ∀b,b ∉ ds->w'.heap[b]?=w.heap[b]?):gA M ι g w':=by
 refine⟨λb o x m=>?_,λr k i=>?_,e.inj⟩;·have j:=e.mem b o x m;have c:b ∉ ds:=(by intro c;have:=d b c;simp[World.cell?,this]at j);rw[iQk (w:=w) (h b c)];exact j
 obtain⟨l,f,c⟩:=e.live r k i;exact⟨l,f,c.bk (λ_ _ _ h=>h) (λ_ _ h=>h) (h l.b λn=>GL e (d _ n) r k l i f rfl) c.frozen⟩
def I0{ok:Array Oper->Bool}(hE:E.Ok ok){n:Nat}(hn:MM E ok n){dep:Nat}{f:FuncId}{args:List AV}{H H':aa}{x:AV}(h:tl E (ck E n) dep f args H=some (x,H')):il E.P (.fn f) args H x H':=by
 unfold tl at h;obtain⟨T,h⟩:=eQ.1 h;obtain⟨fn,p,s,y⟩:=hE.fns f T;rw[p]at h;simp only at h;split at h
 ·rename_i c S;obtain⟨hlen,h⟩:=eQ.1 h;split at h
  ·rename_i st K;simp only[bG]at h;obtain⟨x',I,h⟩:=h;injection h with h1 F
   subst h1;subst F;refine⟨⟨fn,p,s,by rw[S];rfl⟩,?_⟩;intro M ι w us hS u V cs;have Z:=V.1;have hO:yy M ι ⟨args,H⟩ fn.ntmps { tmps:=us.toArray++Array.replicate (fn.ntmps - us.toArray.size) undef,defers:=[]} w:=by
    refine⟨hS,u,⟨?_⟩,by simp;omega⟩;intro t;rw[QA,BY];rcases eU t args.length with G | G
    ·rw[de G,Nd (by simp;omega),cb];have U:us[t]?=some (us[t]'(by omega)):=de _;simp only[M7,U,cb];exact V.2 t _ _ (de G) U
    rw[wE G,Array.getElem?_append_right (by simp;omega)];have : ∀k:Nat,((Array.replicate (fn.ntmps - us.toArray.size) undef)[k]?).getD undef=undef:=(by intro k;rw[M9];split<;>rfl);rw[this];exact .v rfl
   let b:Frame := { (default:Frame)with fn:=f,kind := .normal}
   have j:Frame.enter E.P f us.toArray .normal=b.atR { tmps:=us.toArray++Array.replicate (fn.ntmps - us.toArray.size) undef,defers:=[]} [.code c]:=(by simp[Frame.enter,Frame.atR,p,S,b];rfl);obtain⟨B,w',todo,ds,⟨M',A,e,m⟩,z,q,d⟩:=hn none fn.ntmps dep [.code c] ⟨args,H⟩ st K (by intro i hi;simp at hi;subst hi;exact y c S) M ι _ w hO b cs rfl rfl;rw[<-j]at d;simp only[oD]at z;obtain⟨O,F,X,h4,Y,h6,W⟩:=LM (P:=E.P) (fr := { b.atR B todo with mode := .returning}) (cs:=cs) ds w' rfl q.1 (λD u=>(q.2 D u).2);have J : { { b.atR B todo with mode := .returning} with defers:=marks ds} = { b.atR B todo with mode := .returning}:=by rw[<-show B.defers=marks ds from z];rfl
   rw[J]at F;have C:=e.sim.other (λD u=>(q.2 D u).2) W;have R:tz M ι H.get w M' A st.hp.get O:=(by refine⟨X.trans m.os,h4.trans m.tape,Y.trans m.output,by rw[h6];exact m.size,λb0 L N=>?_,m.mem,m.map,m.live,m.new⟩;rw[W b0 λu=>absurd (q.2 b0 u).1 (by omega)];exact m.chg b0 L N);obtain⟨v,hr,Q⟩:=NP (w:=O) ⟨C,e.dom,e.tr,e.nt⟩ I;exact⟨.returned v,O, { { b.atR B todo with mode := .returning} with defers:=[]},⟨v,rfl,M',A,Q,C,R,e.dom⟩,iQn d F,rfl,rfl,rfl,rfl,fn,p,hr⟩
  cases h
 cases h
end
end
section
def En{g:cL}(r:Ref) : ∀(n m:Nat)(x y:AV)(bs:List aY),view g n x=some y->aj r m y bs=(y,bs):=by
 intro n;induction n with
 | zero=>intro m x y bs h;simp[view]at h
 | succ n B=>
  intro m x y bs h;cases m with
  | zero=>rfl
  | succ m=>
   have d : ∀(cs ys q:List AV),cs.mapM (view g n)=some ys->ys.foldl (λ(p:List AV × List aY) c=>(p.1++[(aj r m c p.2).1],(aj r m c p.2).2)) (q,bs)=(q++ys,bs):=by
    intro cs;induction cs with
    | nil=>intro ys q h;simp at h;subst h;simp
    | cons c cs s=>intro ys q h;simp only[na,rA,sJ,iz]at h;obtain⟨y,u,z,e,h⟩:=h;simp at h;subst h;rw[rB,B m c y bs u,s z (q++[y]) e];simp
   cases x with
   | agg cs=>simp only[view,bG]at h;obtain⟨ys,e,rfl⟩:=h;have:=d cs ys [] e;simp only[aj];rw[this];simp
   | tup cs=>simp only[view,bG]at h;obtain⟨ys,e,rfl⟩:=h;have:=d cs ys [] e;simp only[aj];rw[this];simp
   | v x=>simp[view]at h;subst h;rfl
   | bq=>simp[view]at h;subst h;rfl
   | iptr=>simp[view]at h;subst h;rfl
   | fsl=>simp[view]at h
   | bA r' off len cap=>
    simp only[view]at h;split at h
    ·split at h;·cases h;rfl
     cases h
    cases h
   | nsl=>simp[view]at h
   | dsl r' off len cap=>
    simp only[view]at h;split at h
    ·split at h;·simp only[bG]at h;obtain⟨_,_,rfl⟩:=h;rfl
     cases h
    cases h
   | ptr r' i j=>
    simp only[view]at h;split at h
    ·split at h;·cases h;rfl
     simp only[bG]at h;obtain⟨_,_,rfl⟩:=h;rfl
    cases h
   | fn f a b=>
    simp only[view]at h;split at h;·cases h;rfl
    cases h
   | ifc t x=>simp only[view,bG]at h;obtain⟨y,u,rfl⟩:=h;simp only[aj];rw[B m x y bs u]
   | yld=>simp[view]at h
   | mp=>simp[view]at h
   | ch=>simp[view]at h
   | yM=>simp[view]at h
   | lp=>simp[view]at h
def aX(g:cL):Nat->AV->List Ref
 | 0,_=>[]
 | n+1,x=>
  match x with
  | .agg cs | .tup cs=>cs.flatMap (aX g n)
  | .bA r 0 len _=>(match g r with | some b=>if b.gB then [] else [r] | none=>[])
  | .dsl r 0 len _=>(match g r with | some b=>if b.gB then [] else b.es.flatMap (aX g n)++[r] | none=>[])
  | .mp r=>[r]
  | .ifc _ x=>aX g n x
  | _=>[]
def cg(g:cL):Nat->AV->List Ref
 | 0,_=>[]
 | n+1,x=>
  match x with
  | .agg cs | .tup cs=>cs.flatMap (cg g n)
  | .bA r 0 len _=>(match g r with | some b=>if b.gB then [r] else [] | none=>[r])
  | .dsl r 0 len _=>(match g r with | some b=>if b.gB then r :: b.es.flatMap (af g n) else b.es.flatMap (cg g n) | none=>[r])
  | .mp _=>[]
  | .ifc _ x=>cg g n x
  | x=>af g (n+1) x
def E4{g:cL} : ∀(n:Nat)(x:AV)(r:Ref),r∈aX g n x->r∈af g n x:=by
 intro n;induction n with
 | zero=>intro x r h;simp[aX]at h
 | succ n f=>
  intro x r h;unfold aX at h;split at h;·simp only[gC]at h;obtain⟨c,e,d⟩:=h;simp only[af,gC];exact⟨c,e,f c r d⟩
  ·simp only[gC]at h;obtain⟨c,e,d⟩:=h;simp only[af,gC];exact⟨c,e,f c r d⟩
  ·split at h
   ·split at h;·cases h
    simpa [af] using h
   cases h
  ·split at h
   ·rename_i b i;split at h;·cases h
    simp only[kQ,gC,k9]at h;simp only[af,i,ef,gC];rcases h with ⟨c,e,d⟩ | rfl
    ·exact .inr ⟨c,e,f c r d⟩
    exact .inl rfl
   cases h
  ·simpa [af] using h
  ·simp only[af];exact f _ r h
  cases h
def G8{g:cL} : ∀(n:Nat)(x:AV),(af g n x).Nodup->(aX g n x).Nodup /\∀r∈aX g n x,r ∉ cg g n x:=by
 intro n;induction n with
 | zero=>intro x h;simp[aX]
 | succ n I=>
  intro x h;have f : ∀(n:Nat)(x:AV)(r:Ref),r∈cg g n x->r∈af g n x:=by
   intro n;induction n with
   | zero=>intro x r h;simp[cg]at h
   | succ n y=>
    intro x r h;unfold cg at h;split at h;·simp only[gC]at h;obtain⟨c,z,i⟩:=h;simp only[af,gC];exact⟨c,z,y c r i⟩
    ·simp only[gC]at h;obtain⟨c,z,i⟩:=h;simp only[af,gC];exact⟨c,z,y c r i⟩
    ·split at h
     ·split at h;·simpa [af] using h
      cases h
     simpa [af] using h
    ·split at h
     ·rename_i b v;split at h;·simpa [af,v] using h
      simp only[gC]at h;obtain⟨c,z,i⟩:=h;simp only[af,v,ef,gC];exact .inr ⟨c,z,y c r i⟩
     rename_i v;simpa [af,v] using h
    ·cases h
    ·simp only[af];exact y _ r h
    exact h
  have m : ∀cs:List AV,(cs.flatMap (af g n)).Nodup->(cs.flatMap (aX g n)).Nodup /\∀r∈cs.flatMap (aX g n),r ∉ cs.flatMap (cg g n):=by
   intro cs;induction cs with
   | nil=>intro _;simp
   | cons c cs C=>
    intro K;rw[lU,Da]at K;obtain⟨D,F,B⟩:=K;obtain⟨Q,L⟩:=I c D;obtain⟨N,O⟩:=C F;have s : ∀r,r∈cs.flatMap (aX g n)->r∈cs.flatMap (af g n):=by
     intro r i;simp only[gC]at i ⊢;obtain⟨d,hd,i⟩:=i;exact⟨d,hd,E4 n d r i⟩
    have p : ∀r,r∈cs.flatMap (cg g n)->r∈cs.flatMap (af g n):=(by intro r i;simp only[gC]at i ⊢;obtain⟨d,hd,i⟩:=i;exact⟨d,hd,f n d r i⟩);refine⟨?_,?_⟩;·rw[lU,Da];exact⟨Q,N,λa H b v e=>B a (E4 n c a H) b (s b v) e⟩
    intro r i u;rw[lU,kQ]at i u;rcases i with i | i<;>rcases u with u | u
    ·exact L r i u
    ·exact B r (E4 n c r i) r (p r u) rfl
    ·exact B r (f n c r u) r (s r i) rfl
    exact O r i u
  cases x with
  | agg cs=>simpa [aX,cg] using m cs (by simpa [af] using h)
  | tup cs=>simpa [aX,cg] using m cs (by simpa [af] using h)
  | bA r off len cap=>
   cases off with
   | zero=>
    simp only[aX,cg];cases J:g r with
    | none=>simp
    | some b=>cases v:b.gB<;>simp[v]
   | succ off=>simp[aX]
  | dsl r off len cap=>
   cases off with
   | zero=>
    simp only[aX,cg];cases J:g r with
    | none=>simp
    | some b=>
     cases v:b.gB with| true=>simp[v]| false=>
      simp only[af,J,wC]at h;obtain⟨i,G⟩:=h;obtain⟨D,F⟩:=m b.es G;have s : ∀q,q∈b.es.flatMap (aX g n)->q∈b.es.flatMap (af g n):=by
       intro q j;simp only[gC]at j ⊢;obtain⟨d,hd,j⟩:=j;exact⟨d,hd,E4 n d q j⟩
      have p : ∀q,q∈b.es.flatMap (cg g n)->q∈b.es.flatMap (af g n):=(by intro q j;simp only[gC]at j ⊢;obtain⟨d,hd,j⟩:=j;exact⟨d,hd,f n d q j⟩);simp only[v,gj,iQh];refine⟨?_,?_⟩;·rw[Da];exact⟨D,by simp,λa H c z e=>by simp at z;subst z;subst e;exact i (s _ H)⟩
      intro q j u;rw[kQ]at j;rcases j with j | j
      ·exact F q j u
      simp at j;subst j;exact i (p _ u)
   | succ off=>simp[aX]
  | mp r=>simp[aX,cg]
  | ifc t x=>simpa [aX,cg] using I x (by simpa [af] using h)
  | _=>simp[aX]
def Out(g:cL)(q:Ref)(b:aY):Prop:=
 (∃k len,g q=some k/\k.gB=false/\k.arr=true/\b=⟨k.esz,k.es.take len,true,false⟩)\/(∃k c,g q=some k/\ni g q=some c/\(∀e∈c,flat depth e=true)/\b=oV c) \/
 ∃k zs,g q=some k/\k.gB=false/\k.arr=false/\0<k.esz/\zs.length=k.es.length/\b=⟨k.esz,zs,false,false⟩
def O5(M:Mem)(A ι:Map)(g:cL)(w:World)(q:Ref)(b:aY):Prop :=∀k l,g q=some k->ι q=some l->k.arr=false->0<k.esz ->
 (∀(i j:Nat) z x,b.es[i]?=some z->z.cells[j]?=some x ->∃u,w.cell? ⟨l.b,i * k.esz+j,none⟩=some u/\VR M A x u) /\∀z∈b.es,z.cells.length=k.esz
def VR.abW{M:Mem}{ι:Map}{x:AV}{u:Value}(h:VR M ι x u)(c : ∀cs,x ≠ .agg cs):x.cells=[x]/\u.cells = #[u]:=by
 cases h with
 | agg=>exact absurd rfl (c _)
 | v b=>refine⟨rfl,?_⟩;cases u<;>first | rfl | simp[scalar]at b
 | yM b=>exact⟨rfl,by cases u<;>first | rfl | (cases b)⟩
 | _=>exact⟨rfl,rfl⟩
def II{g:cL}{q:Ref}{b:List AV}(h:ni g q=some b) : ∃k,g q=some k/\k.esz=0/\k.es = .v (.bool true) :: b:=by
 unfold ni at h;split at h;·rename_i e f c;cases h;exact⟨_,c,rfl,rfl⟩
 cases h
def RR{M:Mem}{ι:Map}{g:cL}{w:World}{R:List Ref}(hS:gA M ι g w)(r:Ref) : ∀(n:Nat)(x y:AV)(u:Value)(bs:List aY),bJ g n x=some y->VR M ι x u ->
 (∀q∈cg g n x,q∈R) ->
 ∃new:List aY,(aj r n y bs).2=bs++new/\new.length=(aX g n x).length /\
  (∀(i:Nat) q b,(aX g n x)[i]?=some q->new[i]?=some b->Out g q b) /\
  ∀H:List Loc,(∀(i:Nat) q l,(aX g n x)[i]?=some q->ι q=some l->H[bs.length+i]?=some l)->VR (kA M ι g w R) (iY r H) (aj r n y bs).1 u /\∀(i:Nat) q b,(aX g n x)[i]?=some q->new[i]?=some b->O5 (kA M ι g w R) (iY r H) ι g w q b:=by
 intro n;induction n with
 | zero=>intro x y u bs h;simp[bJ]at h
 | succ n ih=>
  intro x y u bs h hv X;have plain:view g (n+1) x=some y->aX g (n+1) x=[]->(∀q∈af g (n+1) x,q∈R) ->∃new:List aY,(aj r (n+1) y bs).2=bs++new/\new.length=(aX g (n+1) x).length /\
   (∀(i:Nat) q b,(aX g (n+1) x)[i]?=some q->new[i]?=some b->Out g q b) /\
   ∀H:List Loc,(∀(i:Nat) q l,(aX g (n+1) x)[i]?=some q->ι q=some l->H[bs.length+i]?=some l)->VR (kA M ι g w R) (iY r H) (aj r (n+1) y bs).1 u /\∀(i:Nat) q b,(aX g (n+1) x)[i]?=some q->new[i]?=some b->O5 (kA M ι g w R) (iY r H) ι g w q b:=by
   intro G J K;rw[En r (n+1) (n+1) x y bs G];exact⟨[],by simp,by rw[J];rfl,by rw[J];intro i q b F;simp at F,λH _=>⟨(BZ hS (n+1) x y u G K hv).up _,by rw[J];intro i q b F;simp at F⟩⟩
  have W : ∀(cs ys:List AV)(us:List Value)(L:List AV)(bs:List aY),cs.mapM (bJ g n)=some ys->lI M ι cs us->(∀q∈cs.flatMap (cg g n),q∈R) ->
   ∃(new:List aY) (zs:List AV),ys.foldl (λ(p:List AV × List aY) c=>(p.1++[(aj r n c p.2).1],(aj r n c p.2).2)) (L,bs)=(L++zs,bs++new)/\new.length=(cs.flatMap (aX g n)).length /\
    (∀(i:Nat) q b,(cs.flatMap (aX g n))[i]?=some q->new[i]?=some b->Out g q b) /\
    ∀H:List Loc,(∀(i:Nat) q l,(cs.flatMap (aX g n))[i]?=some q->ι q=some l->H[bs.length+i]?=some l)->lI (kA M ι g w R) (iY r H) zs us /\∀(i:Nat) q b,(cs.flatMap (aX g n))[i]?=some q->new[i]?=some b->O5 (kA M ι g w R) (iY r H) ι g w q b:=by
   intro cs;induction cs with
   | nil=>intro ys us L bs hy S _;simp at hy;subst hy;have:us=[]:=yG (by rw[<-S.1];rfl);subst this;exact⟨[],[],by simp,rfl,by intro i q b F;simp at F,λ_ _=>⟨lI.nil,by intro i q b F;simp at F⟩⟩
   | cons c cs ihc=>
    intro ys us L bs hy S hRc;simp only[na,rA,sJ,iz]at hy;obtain⟨y,hy1,ys',N,hy2⟩:=hy;simp at hy2;subst hy2;cases us with
    | nil=>have:=S.1;simp at this
    | cons u us=>
     have hvc:VR M ι c u:=S.2 0 c u rfl rfl;have hvcs:lI M ι cs us:=⟨by have:=S.1;simpa using this,λi x v hx hv=>S.2 (i+1) x v (by simpa using hx) (by simpa using hv)⟩;simp only[lU,kQ]at hRc;obtain⟨new1,G,J,K,h4⟩:=ih c y u bs hy1 hvc (λq F=>hRc q (.inl F));obtain⟨new2,zs,h5,h6,h7,h8⟩:=ihc ys' us (L++[(aj r n y bs).1]) (bs++new1) N hvcs (λq F=>hRc q (.inr F));refine⟨new1++new2,(aj r n y bs).1 :: zs,?_,?_,?_,?_⟩;·rw[rB];simp only;rw[G,h5];simp
     ·simp[J,h6]
     ·intro i q b F Y;rw[lU]at F;rcases eU i (aX g n c).length with hi | hi
      ·rw[jG hi]at F;rw[jG (by omega)]at Y;exact K i q b F Y
      rw[ic hi]at F;rw[ic (by omega),J]at Y;exact h7 _ q b F Y
     intro H B;have p1:=h4 H (by
      intro i q l F hl;refine B i q l ?_ hl;rw[lU,jG (dT.1 F).1];exact F)
     have p2:=h8 H (by
      intro i q l F hl;have:=B ((aX g n c).length+i) q l (by
       rw[lU,ic (by omega),Jl];exact F) hl
      rw[ju,J,Fp];exact this)
     refine⟨lI.cons p1.1 p2.1,λi q b F Y=>?_⟩;rw[lU]at F;rcases eU i (aX g n c).length with hi | hi
     ·rw[jG hi]at F;rw[jG (by omega)]at Y;exact p1.2 i q b F Y
     rw[ic hi]at F;rw[ic (by omega),J]at Y;exact p2.2 _ q b F Y
  cases x with
  | agg cs=>simp only[bJ,bG]at h;obtain⟨ys,N,rfl⟩:=h;obtain⟨vs,rfl,S⟩:=hv.Qm;obtain⟨new,zs,G,J,K,h4⟩:=W cs ys vs.toList [] bs N S (by simpa [cg] using X);simp only[aj];rw[G];refine⟨new,rfl,by simpa [aX] using J,by simpa [aX] using K,λH B=>?_⟩;have:=h4 H (by simpa [aX] using B);exact⟨by simpa using VR.pv.2 this.1,by simpa [aX] using this.2⟩
  | tup cs=>
   simp only[bJ,bG]at h;obtain⟨ys,N,rfl⟩:=h;cases hv with | tup h0 hl hh=>
   rename_i vs;obtain⟨new,zs,G,J,K,h4⟩:=W cs ys vs.toList [] bs N ⟨by simpa using hl,λi x u hx I=>hh i x u hx (by simpa using I)⟩ (by simpa [cg] using X);simp only[aj];rw[G];refine⟨new,rfl,by simpa [aX] using J,by simpa [aX] using K,λH B=>?_⟩;obtain⟨this,hdp⟩:=h4 H (by simpa [aX] using B);simp only[o4];refine⟨.tup ?_ (by simpa using this.1) λi c u hc I=>this.2 i c u hc (by simpa using I),by simpa [aX] using hdp⟩;intro e;rw[e]at this;have h5:=this.1;simp at h5;have h6:vs.size=0:=by omega
   rw[h6]at hl;exact h0 (yG hl)
  | bA q off len cap=>
   cases off with| succ off=>exact plain (by simpa [bJ] using h) (by simp[aX]) (by simpa [cg] using X)| zero=>
    simp only[bJ]at h;split at h
    ·rename_i k O;obtain⟨⟨D,hlen⟩,h⟩:=eQ.1 h;injection h with h
     cases C:k.gB with
     | true=>
      rw[C]at h;simp only[if_true]at h;refine plain ?_ (by simp[aX,O,C]) (by
       intro Z f;refine X Z ?_;simp only[af,k9]at f;simp[cg,O,C,f])
      simp only[view,O,D];rw[if_pos ⟨trivial,by omega⟩];simp[<-h]
     | false=>
      rw[C]at h;simp only[gj,iQh]at h;subst h;have m:aX g (n+1) (.bA q 0 len cap)=[q]:=by simp[aX,O,C]
      cases hv with | bA hr Y hs ha hc hn hkk hzl=>
      rename_i l a c;have hl2:(k.es.take len).length=len:=by rw[j7];omega
      have hkz0:k.esz≠0:=(by obtain⟨l0,hl0,Q⟩:=hS.live q k O;have:=Q.pos D;omega);refine⟨[⟨k.esz,k.es.take len,true,false⟩],by simp[aj,hkz0],by rw[m];rfl,?_,?_⟩
      ·intro i Z b f s;rw[m]at f;cases i with
       | succ i=>simp at f
       | zero=>simp at f s;subst f;subst s;exact .inl ⟨k,len,O,C,D,rfl⟩
      intro H B;have:=B 0 q l (by rw[m];rfl) hr;simp only[aj,hl2,if_neg hkz0];refine⟨.bA (l:=l) ?_ Y hs ha hc hn hkk hzl,λi Z b f s=>?_⟩;·unfold iY;simpa using this
      rw[m]at f;cases i with
      | succ i=>simp at f
      | zero=>simp at f;subst f;intro k' l' G _ K;rw[O]at G;cases G;rw[D]at K;cases K
    cases h
  | nsl=>simp[bJ,view]at h
  | dsl q off len cap=>
   cases off with| succ off=>exact plain (by simpa [bJ] using h) (by simp[aX]) (by simpa [cg] using X)| zero=>
    simp only[bJ]at h;split at h
    ·rename_i k O;obtain⟨⟨D,hlen⟩,h⟩:=eQ.1 h;cases C:k.gB with
     | true=>
      rw[C]at h;simp only[if_true]at h;refine plain ?_ (by simp[aX,O,C]) (by
       intro Z f;refine X Z ?_;simpa [cg,af,O,C] using f)
      obtain⟨es',hes,rfl⟩:=bG.1 h;have hel:=gK hes;simp only[view,O];rw[if_pos ⟨D,by omega⟩,hes];simp only[Option.map_some,C8];rw[cN (by omega)]
     | false=>
      rw[C]at h;simp only[gj,iQh]at h;obtain⟨ys,N,rfl⟩:=bG.1 h;have m:aX g (n+1) (.dsl q 0 len cap)=k.es.flatMap (aX g n)++[q]:=by simp[aX,O,C]
      have hseen:cg g (n+1) (.dsl q 0 len cap)=k.es.flatMap (cg g n):=(by simp[cg,O,C]);cases hv with | dsl hr Y hs ha hc hn hkk hzl=>
      rename_i l a c;have Q:=hS.at hr hzl O;have hkz:0<k.esz:=by rw[<-Q.esz];exact hzl
      obtain⟨arr,T,fz,hh,hsz,_,V⟩:=Q.heap;have hcl : ∀o,w.cell? ⟨l.b,o,none⟩=arr[o]?:=λo=>jB hh;let val:Nat->AV->Value:=λi e=>match e with
       | .agg cs => .agg ((List.range cs.length).map λj=>(arr[i * k.esz+j]?).getD undef).toArray
       | _=>(arr[i * k.esz]?).getD undef
      have hval : ∀(i:Nat) e,k.es[i]?=some e->VR M ι e (val i e) /\∀(j:Nat) u,(val i e).cells[j]?=some u->arr[i * k.esz+j]?=some u:=by
       intro i e U;have hlen':=Q.cells e (fZ U);by_cases hag : ∃cs,e = .agg cs
       ·obtain⟨cs,rfl⟩:=hag;refine⟨VR.pv.2 ⟨by simp[val],λj x u hx I=>?_⟩,λj u I=>?_⟩;·obtain⟨u',G,_,K⟩:=V i j _ x U (by simpa [AV.cells] using hx);rw[aY.map,if_neg (by simp[D])]at K;have hj:=(dT.1 hx).1;have:u=u':=(by simp only[val,List.toArray,kR]at I;rw[D2 hj]at I;simp[G]at I;exact I.symm);rw[this];exact K
        have hj:j<cs.length:=(by have:=(iT.1 I).1;simpa [val,Value.cells] using this);obtain⟨u',G,_,_⟩:=V i j _ cs[j] U (by simp[AV.cells,hj]);have:(val i (.agg cs)).cells[j]?=some u':=by simp[val,Value.cells,hj,G]
        rw[this]at I;cases I;exact G
       have hne : ∀cs,e ≠ .agg cs:=λcs hc=>hag ⟨cs,hc⟩;have hc1:e.cells=[e]:=by cases e<;>first | rfl | exact absurd rfl (hne _)
       obtain⟨u',G,_,K⟩:=V i 0 e e U (by rw[hc1];rfl);rw[aY.map,if_neg (by simp[D])]at K;have hv0:val i e=u':=(by simp only[ug]at G;cases e<;>first | exact absurd rfl (hne _) | simp[val,G]);rw[hv0];refine⟨K,λj u I=>?_⟩;rw[(K.abW hne).2]at I;cases j with
       | zero=>simp at I;subst I;exact G
       | succ j=>simp at I
      let us:List Value:=(List.range k.es.length).map λi=>val i (k.es[i]?.getD AV.undef)
      have hus:lI M ι k.es us:=(by refine⟨by simp[us],λi e u U I=>?_⟩;have hi:=(dT.1 U).1;simp only[us,kR]at I;rw[D2 hi]at I;simp[U]at I;rw[<-I];exact(hval i e U).1);obtain⟨new,zs,G,J,K,h4⟩:=W k.es ys us [] bs N hus (by rw[hseen]at X;exact X);have hzl':zs.length=k.es.length/\ys.length=k.es.length:=by
       refine⟨?_,gK N⟩;have e1:=iQf (λp:List AV × List aY=>p.1.length) G;have : ∀(cs L:List AV)(bs:List aY),(cs.foldl (λ(p:List AV × List aY) c=>(p.1++[(aj r n c p.2).1],(aj r n c p.2).2)) (L,bs)).1.length=L.length+cs.length:=by
        intro cs;induction cs with
        | nil=>intro L bs;simp
        | cons c cs ihc=>intro L bs;rw[rB,ihc];simp;omega
       simp only[this]at e1;have e2:=gK N;simp at e1;omega
      refine⟨new++[⟨k.esz,zs,false,false⟩],?_,?_,?_,?_⟩;·simp only[aj];rw[G];simp
      ·rw[m];simp[J]
      ·intro i Z b f s;rw[m]at f;rcases eU i new.length with hi | hi
       ·rw[jG (by omega)]at f;rw[jG hi]at s;exact K i Z b f s
       rw[ic (by omega)]at f;rw[ic hi]at s;rw[<-J]at f;cases hd:i - new.length with
       | succ d=>rw[hd]at f;simp at f
       | zero=>rw[hd]at f s;simp at f s;subst f;subst s;exact .inr (.inr ⟨k,zs,O,C,D,hkz,hzl'.1,rfl⟩)
      intro H B;obtain⟨p1,p2⟩:=h4 H (by
       intro i Z l' f hl';refine B i Z l' ?_ hl';rw[m,jG (dT.1 f).1];exact f)
      have hq0:=B new.length q l (by rw[m,ic (by omega),J];simp) hr;simp only[aj];rw[G];simp only[o4];refine⟨?_,?_⟩;·rw[hzl'.2,<-hlen];refine .dsl (l:=l) ?_ Y hs ha hc hn hkk hzl;unfold iY;simpa using hq0
      intro i Z b f s;rw[m]at f;rcases eU i new.length with hi | hi
      ·rw[jG (by omega)]at f;rw[jG hi]at s;exact p2 i Z b f s
      rw[ic (by omega)]at f;rw[ic hi]at s;rw[<-J]at f;cases hd:i - new.length with
      | succ d=>rw[hd]at f;simp at f
      | zero=>
       rw[hd]at f s;simp at f s;subst f;subst s;intro k' l' e1 e2 _ _;rw[O]at e1;cases e1;rw[hr]at e2;cases e2;have zc : ∀(i:Nat) z,zs[i]?=some z ->∃e,k.es[i]?=some e/\lI (kA M ι g w R) (iY r H) z.cells (val i e).cells.toList:=(by intro i z hz;have hi:=(dT.1 hz).1;have U:k.es[i]?=some (k.es[i]'(by omega)):=de _;refine⟨_,U,(p1.2 i z _ hz ?_).cells⟩;simp only[us,kR];rw[D2 (by omega)];simp[U]);refine⟨λi j z x hz hx=>?_,λz hz=>?_⟩
       ·obtain⟨e,U,hzv⟩:=zc i z hz;have hj:=(dT.1 hx).1;have hju:j<(val i e).cells.toList.length:=by rw[<-hzv.1];exact hj
        have I:(val i e).cells.toList[j]?=some ((val i e).cells.toList[j]):=de hju;refine⟨_,?_,hzv.2 j x _ hx I⟩;rw[hcl];exact(hval i e U).2 j _ (by simpa using I)
       obtain⟨i,hi,rfl⟩:=o5 hz;obtain⟨e,U,hzv⟩:=zc i _ (de hi);have h5:=(hval i e U).1.cells;rw[hzv.1,<-h5.1];exact Q.cells e (fZ U)
    cases h
  | v x=>exact plain (by simpa [bJ] using h) (by simp[aX]) (by simpa [cg] using X)
  | bq=>exact plain (by simpa [bJ] using h) (by simp[aX]) (by simpa [cg] using X)
  | iptr=>exact plain (by simpa [bJ] using h) (by simp[aX]) (by simpa [cg] using X)
  | fsl=>exact plain (by simpa [bJ] using h) (by simp[aX]) (by simpa [cg] using X)
  | ptr=>exact plain (by simpa [bJ] using h) (by simp[aX]) (by simpa [cg] using X)
  | fn=>exact plain (by simpa [bJ] using h) (by simp[aX]) (by simpa [cg] using X)
  | ifc t x=>
   simp only[bJ,bG]at h;obtain⟨y,hy,rfl⟩:=h;cases hv with | ifc hv=>
   obtain⟨new,G,J,K,h4⟩:=ih x y _ bs hy hv (by simpa [cg] using X);simp only[aj];exact⟨new,G,by simpa [aX] using J,by simpa [aX] using K,λH B=>⟨.ifc (h4 H (by simpa [aX] using B)).1,by simpa [aX] using (h4 H (by simpa [aX] using B)).2⟩⟩
  | yld=>simp[bJ,view]at h
  | ch q=>simp[bJ,view]at h
  | yM q=>simp[bJ,view]at h
  | mp q=>
   simp only[bJ]at h;split at h
   ·rename_i ents hm;obtain⟨hfl,h⟩:=eQ.1 h;injection h with h
    subst h;have m:aX g (n+1) (.mp q)=[q]:=by simp[aX]
    cases hv with | mp hr hz=>
    rename_i l;obtain⟨k,O,_,_⟩:=II hm;refine⟨[oV ents],by simp[aj,oV],by rw[m];rfl,?_,?_⟩
    ·intro i Z b f s;rw[m]at f;cases i with
     | succ i=>simp at f
     | zero=>simp at f s;subst f;subst s;exact .inr (.inl ⟨k,ents,O,hm,by simpa [dY] using hfl,rfl⟩)
    intro H B;have:=B 0 q l (by rw[m];rfl) hr;simp only[aj,if_true];refine⟨.mp (l:=l) ?_ hz,λi Z b f s=>?_⟩;·unfold iY;simpa using this
    rw[m]at f;cases i with
    | succ i=>simp at f
    | zero=>simp at f;subst f;intro k' l' G J _ h4;obtain⟨l0,hl0,Q⟩:=hS.live q k' G;rw[J]at hl0;cases hl0;rw[hr]at J;cases J;have:=Q.esz;omega
   cases h
  | lp=>simp[bJ,view]at h
def Cq:aa.get []=λ_=>none:=by funext q;rfl
def WI{M:Mem}{w:World}(c : ∀b o x,M b o=some x->w.cell? ⟨b,o,none⟩=some x):gA M dC (aa.get []) w:=
 ⟨c,(λr k h=>by rw[Cq]at h;cases h),(λr r' k k' l d h=>by rw[Cq]at h;cases h)⟩
def Ym:rN dC []:=λq l h=>by cases h
def Lv{M:Mem}{w:World}(B : ∀b o x,M b o=some x->w.cell? ⟨b,o,none⟩=some x){H':aa}{v:Value}{w':World}{f:Mem}{c:Map}{x:AV}
 (D:VR f c x v) (q:gA f c H'.get w') (e:tz M dC (aa.get []) w f c H'.get w') {R:List Ref} {y:AV}
 (m : ∀r:Ref,∃d:List Loc,d.length=(aj r depth y []).2.length/\VR (kA f c H'.get w' R) (iY r d) (aj r depth y []).1 v /\
  (∀(k:Nat) l b,d[k]?=some l->(aj r depth y []).2[k]?=some b->oS (kA f c H'.get w' R) (iY r d) w' l b/\w.heap.size<=l.b) /\
  ∀(i j:Nat) l l',d[i]?=some l->d[j]?=some l'->l.b=l'.b->i=j):sF M w y v (kA f c H'.get w' R) w':=by
 obtain⟨u,p⟩:=zH (R:=R) q;have n:=e.trans p;refine⟨e.os,e.tape,e.output,e.size,λb s=>e.chg b s (λr k l h=>by rw[Cq]at h;cases h),n.mem,uP q.mem,?_,m⟩;intro b o z t;rcases n.new b o z t with h | h | ⟨C,F,G,h,_⟩
 ·exact .inl h
 ·exact .inr h
 rw[Cq]at h;cases h
def GQ{M:Mem}{w:World}{H':aa}{w':World}{e:Mem}{c:Map}(f:tz M dC (aa.get []) w e c H'.get w'){r:Ref}{k:aY}{l:Loc}(i:H'.get r=some k)(d:c r=some l):w.heap.size<=l.b:=by
 rcases f.live r k l i d with h | ⟨m,n,j,h,_⟩
 ·exact h
 rw[Cq]at h;cases h
def Out.live{g:cL}{q:Ref}{b:aY}(h:Out g q b) : ∃k,g q=some k:=by
 rcases h with ⟨k,_,c,_⟩ | ⟨k,_,c,_⟩ | ⟨k,_,c,_⟩<;>exact⟨k,c⟩
def RQ : ∀(n:Nat)(x:AV),flat n x=true->flat (n+1) x=true:=by
 intro n;induction n with
 | zero=>intro x h;simp[flat]at h
 | succ n e=>
  intro x h;cases x with
  | v x=>rfl
  | agg cs=>simp only[flat,dY]at h ⊢;exact λc d=>by have:=e c (h c d);simpa [flat] using this
  | tup cs=>simp only[flat,dY]at h ⊢;exact λc d=>by have:=e c (h c d);simpa [flat] using this
  | ifc t x=>have:=e x (by simpa [flat] using h);simpa [flat] using this
  | fn f a b=>simp only[flat,bt,dY]at h ⊢;exact⟨λc d=>by have:=e c (h.1 c d);simpa [flat] using this,λc d=>by have:=e c (h.2 c d);simpa [flat] using this⟩
  | _=>simp[flat]at h
def U8{cs:List AV}(h:flat depth (.tup cs)=true){c:AV}(d:c∈cs):flat depth c=true:=by
 have b:depth=(depth - 1)+1:=rfl;rw[b]at h ⊢;simp only[flat,dY]at h;exact RQ _ c (h c d)
def Eg{E:Env}{ok:Array Oper->Bool}(hE:E.Ok ok){n:Nat}(hn:MM E ok n){f:FuncId}{args:List AV}{y:AV}(h:cY E (ck E n) f args=some y):ja E.P f args y:=by
 unfold cY at h;split at h;·rename_i s hs;cases h;exact hE.specs f args y hs
 split at h
 ·rename_i x H' hc;obtain⟨hfn,L⟩:=I0 hE hn hc;refine⟨hfn,λM w us hm hvs=>?_⟩;refine(L M dC w us (WI hm) Ym hvs).mono λe w' ⟨v,p,M1,ι1,hv,hS,hF,hD⟩=>⟨v,?_⟩;split at h
  ·obtain⟨hnd,h⟩:=eQ.1 h;obtain⟨hnd1,K⟩:=G8 depth x hnd;refine⟨_,p,Lv (R:=cg H'.get depth x) hm hv hS hF λr=>?_⟩;obtain⟨new,h1,h2,h3,h4⟩:=RR (R:=cg H'.get depth x) hS r depth x y v [] h hv (λq t=>t);rw[o4]at h1;let d:Ref->Loc:=λq=>(ι1 q).getD ⟨0,0,0⟩
   obtain⟨p1,p2⟩:=h4 ((aX H'.get depth x).map d) (by
    intro i q l t V;simp only[k8,ue,kR,t,Option.map_some,d,V,cb])
   refine⟨(aX H'.get depth x).map d,by rw[h1];simp[h2],p1,?_,?_⟩
   ·intro i l b V hb;rw[h1]at hb;have hl':=V;simp only[kR,bG]at V;obtain⟨q,t,F⟩:=V;rcases h3 i q b t hb with ⟨k,len,B,U,C,rfl⟩ | ⟨k,ents,B,H,hfl,rfl⟩ | ⟨k,zs,B,U,C,D,hzl,rfl⟩
    rotate_left
    ·obtain⟨X,m,c⟩:=hS.live q k B;have:l=X:=by rw[<-F];simp[d,m]
     subst this;have hz:l.esz=0:=by
      obtain⟨k1,hk1,hz1,_⟩:=II H;rw[B]at hk1;cases hk1;rw[c.esz];exact hz1
     obtain⟨a,f,entries,hg,S,hsz,hent,_⟩:=Ag hS H m hz;refine⟨nJ.Sa (.inr (.inl ⟨ents,entries,rfl,rfl,rfl,S,hsz,λI ent e p he'=>?_⟩)) hz (λo z Z=>?_),GQ hF B m⟩;·obtain⟨ka,va,e1,e2,e3⟩:=hent I ent e p he';subst e1;refine⟨ka,va,rfl,e2,CG depth va _ ?_ e3.1,e3.2⟩;have:=hfl _ (fZ p);exact U8 this (by simp)
     have:=(zH (R:=cg H'.get depth x) hS).1.mem _ _ _ Z;simp[World.cell?,S]at this
    ·obtain⟨X,m,c⟩:=hS.live q k B;have:l=X:=by rw[<-F];simp[d,m]
     subst this;refine⟨?_,GQ hF B m⟩;replace c:=c.cellsOk D;obtain⟨arr,T,fz,S,g1,g2,g3⟩:=c.heap;obtain⟨d1,d2⟩:=p2 i q _ t hb k l B m C D;refine fp.Sa (k:=⟨k.esz,zs,false,false⟩) ⟨c.esz,⟨arr,T,fz,S,g1,g2,?_⟩,by have:=c.len;simp;omega,d2,?_⟩ D
     ·intro I j e x' p Z;obtain⟨u,hu,G⟩:=d1 I j e x' p Z;rw[jB S]at hu;have hi':I<k.es.length:=by
       have:=(dT.1 p).1;simp only at this;omega
      have hc0:=c.cells _ (eO hi');have hj:j<k.esz:=(by rw[<-d2 e (fZ p)];exact(dT.1 Z).1);obtain⟨u',hu',ho',_⟩:=g3 I j _ _ (de hi') (de (by omega:j<(k.es[I]).cells.length));rw[hu]at hu';cases hu';exact⟨u,hu,ho',by rw[aY.map,if_neg (by simp)];exact G⟩
     intro o z hz;exfalso;rcases uQ hz with h5 | ⟨r',Q,k',Y,N,hl1',W,ho⟩
     ·have:=(c.frozen o z h5).1;rw[U]at this;cases this
     have e:=hS.inj r' q k' k Y l N B hl1' m W;subst e;exact K r' (fZ t) Q
    obtain⟨X,m,c⟩:=hS.live q k B;have:l=X:=by rw[<-F];simp[d,m]
    subst this;refine⟨?_,GQ hF B m⟩;have D:=c.pos C;replace c:=c.cellsOk D;obtain⟨arr,T,fz,S,g1,g2,g3⟩:=c.heap;refine fp.Sa (k:=⟨k.esz,k.es.take len,true,false⟩) ⟨c.esz,⟨arr,T,fz,S,g1,g2,?_⟩,by have:=c.len;simp;omega,λe p=>c.cells e (yF p),?_⟩ D
    ·intro I j e x' p Z;simp only at p;rw[za]at p;split at p;·obtain⟨u,hu,ho,G⟩:=g3 I j e x' p Z;rw[aY.map,if_pos C]at G;exact⟨u,hu,ho,by rw[aY.map,if_pos rfl];exact G.mono sC _ (λ_ _ h=>h)⟩
     cases p
    intro o z hz;exfalso;rcases uQ hz with h5 | ⟨r',Q,k',Y,N,hl',W,ho⟩
    ·have:=(c.frozen o z h5).1;rw[U]at this;cases this
    have e:=hS.inj r' q k' k Y l N B hl' m W;subst e;exact K r' (fZ t) Q
   intro i j l Y hi hj hb;simp only[kR,bG]at hi hj;obtain⟨q,t,F⟩:=hi;obtain⟨q',O,hql'⟩:=hj;have hi2:i<new.length:=by rw[h2];exact(dT.1 t).1
   have hj2:j<new.length:=by rw[h2];exact(dT.1 O).1
   obtain⟨k,B⟩:=(h3 i q _ t (de hi2)).live;obtain⟨k',hk'⟩:=(h3 j q' _ O (de hj2)).live;obtain⟨X,m,_⟩:=hS.live q k B;obtain⟨l0',J,_⟩:=hS.live q' k' hk';have e1:l=X:=by rw[<-F];simp[d,m]
   have e2:Y=l0':=by rw[<-hql'];simp[d,J]
   subst e1;subst e2;have e:=hS.inj q q' k k' l Y B hk' m J hb;subst e;exact(List.getElem?_inj (dT.1 t).1 hnd1).1 (by rw[t,O])
  refine⟨_,p,Lv (R:=af H'.get depth x) hm hv hS hF λr=>?_⟩;rw[En r depth depth x y [] h];exact⟨[],rfl,(BZ hS depth x y v h (λq t=>t) hv).up _,by intro k l b V;simp at V,by intro i j l Y hi;simp at hi⟩
 cases h
def Nx : ∀(ps:List Tmp)(b:List AV)(tm:List AV)(us:List Value)(tmps:Array Value),((ps.zip us).foldl (λtmps (p:Tmp × Value)=>tmps.setIfInBounds p.1 p.2) tmps).size=tmps.size:=by
 intro ps;induction ps with
 | nil=>intro b tm us tmps;rfl
 | cons p ps c=>
  intro b tm us tmps;cases us with
  | nil=>rfl
  | cons u us=>simp only[MW,rB];rw[c [] [] us];simp
def QJ{M:Mem}{ι:Map}{nt:Nat} : ∀(ps:List Tmp)(b:List AV)(us:List Value)(tm:List AV)(tmps:Array Value),b.length=ps.length->lI M ι b us->(∀p∈ps,p<nt)->tmps.size=nt->(∀t,VR M ι (cX tm t) (tmps.getD t undef)) ->
 ∀t,VR M ι (cX (uA tm ps b) t) (((ps.zip us).foldl (λtmps (p:Tmp × Value)=>tmps.setIfInBounds p.1 p.2) tmps).getD t undef):=by
 intro ps;induction ps with
 | nil=>intro b us tm tmps e d hp j h t;cases b<;>exact h t
 | cons p ps n=>
  intro b us tm tmps e d hp j h t;cases b with
  | nil=>simp at e
  | cons x b=>
   cases us with| nil=>have:=d.1;simp at this| cons u us=>
    simp only[MW,rB,uA];refine n b us _ _ (by simpa using e) ⟨by have:=d.1;simpa using this,λi y v s m=>d.2 (i+1) y v (by simpa using s) (by simpa using m)⟩ (λq z=>hp q (iS _ z)) (by simpa using j) ?_ t;intro t';have f:=hp p (gD ..);rw[rT,BY];by_cases c:t'=p;·subst c;rw[if_pos rfl,Fg (by rw[j];exact f)];exact d.2 0 x u rfl rfl
    rw[if_neg c,AD (rO c),<-BY];exact h t'
def Il(ps:Array Tmp)(us:Array Value)(tmps:Array Value):(ps.zip us).foldl (λtmps (t,a)=>tmps.setIfInBounds t a) tmps=(ps.toList.zip us.toList).foldl (λtmps (p:Tmp × Value)=>tmps.setIfInBounds p.1 p.2) tmps:=by
 rw[<-MX,Array.toList_zip]
def NO{E:Env}{ok:Array Oper->Bool}(Z:E.Ok ok){n dep:Nat}(hn:MM E ok n){r:Ref}{args:List AV}{H H':aa}{y:AV}(h:Aa E (ck E n) dep r args H=some (y,H')):il E.P (.yld r) args H y H':=by
 unfold Aa at h;split at h
 ·rename_i f nt ps assign body tm C;obtain⟨⟨J,D,z,q⟩,h⟩:=eQ.1 h;split at h
  ·rename_i st B;intro M ι w us l N I s L;obtain⟨nt',ps',as',X,tm',d,e,Y,O,R,g4,K,T,g7,_,_⟩:=Ah N I L C;cases e;have G:us.toArray.size=d.params.size:=by rw[O];simp;rw[<-J];exact s.1.symm
   refine⟨_,_,_,_,run_yield Y G,trivial,λc cs _=>?_⟩;let b:Frame := { (default:Frame)with fn:=d.fn,kind := .normal,roundOf:=some l.b}
   have j : ∀tmps,Frame.round l.b d.fn tmps d.assign d.body .normal=b.atR { tmps:=tmps,defers:=[]} [.code assign,.beginRound,.code body]:=(by intro tmps;simp[Frame.round,Frame.atR,b,R,g4]);rw[j];have hO:yy M ι ⟨uA tm ps args,H⟩ nt { tmps:=(d.params.zip us.toArray).foldl (λtmps (t,a)=>tmps.setIfInBounds t a) d.tmps,defers:=[]} w:=by
    refine⟨N,I,⟨?_⟩,?_⟩;·intro t;show VR M ι _ (((d.params.zip us.toArray).foldl (λtmps (t,a)=>tmps.setIfInBounds t a) d.tmps).getD t undef);rw[Il,O];exact QJ ps args us tm d.tmps J s (λp hp=>by have:=dY.1 D p hp;simpa using this) K T t
    show((d.params.zip us.toArray).foldl (λtmps (t,a)=>tmps.setIfInBounds t a) d.tmps).size=nt;rw[Il,Nx _ [] []];exact K
   have x:=Z.same;obtain⟨m,inf,w',V,W,⟨M',A,Q,h4,S⟩,U⟩:=hn (some r) nt dep _ _ st B (by
    intro i hi;simp only[ef,BS,iQv]at hi;rcases hi with rfl | rfl | rfl
    ·rw[<-x];exact z
    ·rfl
    rw[<-x];exact q) M ι _ w hO b (c :: cs) l c cs L rfl rfl rfl
   rw[V]at h;have u:Comes E.P (lone (b.atR { tmps:=(d.params.zip us.toArray).foldl (λtmps (t,a)=>tmps.setIfInBounds t a) d.tmps,defers:=[]} [.code assign,.beginRound,.code body]) (c :: cs) w) (lone (c.finish (.bool (m == 0))) cs w') (.returned (.bool (m == 0))):=U;have F:y = .v (.bool (m == 0))/\H'=st.hp:=by
    rcases m with _ | _ | m
    ·simp only[dV,sI]at h;exact⟨h.1.symm,h.2.symm⟩
    ·exact absurd rfl W
    simp only[dV,sI]at h;exact⟨h.1.symm,h.2.symm⟩
   obtain⟨rfl,rfl⟩:=F;exact⟨.returned (.bool (m == 0)),w',⟨_,rfl,M',A,.v rfl,Q,h4,S⟩,comesIn_wide.2 u⟩
  cases h
 cases h
def ya{E:Env}{ok:Array Oper->Bool}(c:E.Ok ok){n dep:Nat}(d:MM E ok n){t:tE}{args:List AV}{H H':aa}{y:AV}(h:eG E (ck E n) dep t args H=some (y,H')):il E.P t args H y H':=by
 unfold eG at h;cases t with
 | fn f=>
  simp only at h;cases b:E.thrSpec f args H with
  | some z=>rw[b]at h;cases h;exact c.thrs f args H y H' b
  | none=>rw[b]at h;obtain⟨_,h⟩:=eQ.1 h;exact I0 c d h
 | yld r=>exact NO c d h
def Gk{E:Env}{ok:Array Oper->Bool}(hE:E.Ok ok) : ∀n,MM E ok n:=by
 intro n;induction n with
 | zero=>intro rd nt dep z st st' h;simp[ck]at h
 | succ n ih=>
  intro rd nt dep z st st' h hi M ι a w C b cs;have W : ∀(q:List Item)(h':ck E n rd nt dep q st=some st'),(∀i∈q,nZ ok i=true)->Steps E.P (lone (b.atR a z) cs w) (lone (b.atR a q) cs w) ->
   ET E.P rd M ι st a w nt st' b cs (lone (b.atR a z) cs w):=by
   intro q h' p N;exact ET.of_steps (ds:=[]) (λ_ _=>N) C.sim tz.refl rfl sS (ih rd nt dep q st st' h' p M ι a w C b cs)
  have O : ∀(j:Nat)(u:Option Code),j≠1->(u.isNone=(j == 0))->(∀F:Loop,Cb j { F with state:=if u.isNone then .ready else .done,pending:=u})->vV rd st j=some st'->rd≠none ->
   (∀l c G v w',b.roundOf=some l->b.kind = .normal->cs=c :: G->(Instr.endRound l u).run E.P w = .ok v w'->Steps E.P (lone (b.atR a z) cs w) (lone (c.finish v) G w'))->ET E.P rd M ι st a w nt st' b cs (lone (b.atR a z) cs w):=by
   intro j u hj hjn J h hrd N;cases rd with
   | none=>exact absurd rfl hrd
   | some r=>
    unfold vV at h;simp only at h;split at h
    ·rename_i inf B;cases h;intro l c G hr s L K;obtain⟨_,_,_,_,_,F,_,g1,_,_,_,_,_,_,g8,_⟩:=Ah C.sim C.dom hr B;obtain⟨k1,k2,k3⟩:=g8 j { F with state:=if u.isNone then .ready else .done,pending:=u} ⟨rfl,rfl,rfl,rfl⟩ (J F);refine⟨j,inf,_,?_,hj,⟨M,ι,k1,k2,k3⟩,?_⟩;·simp[xq,aa.ab,dW]
     rw[<-hjn];exact N l.b c G _ _ s L K (run_endRound u g1)
    cases h
  unfold ck at h;split at h
  ·cases rd with
   | none=>
    injection h with h
    subst h;intro s _;exact⟨a,w,[],[],⟨M,ι,C,tz.refl⟩,rfl,sS,.one (stepR_end s)⟩
   | some r=>exact O 0 none (by omega) rfl (λF=>⟨rfl,rfl⟩) h (by simp) λl c G v w' s L K hr=>by subst K;exact .one (stepR_round_end s L hr)
  ·rename_i k;have L : ∀i∈k,nZ ok i=true:=λi h=>hi i (iS _ h);cases rd with
   | none=>cases h
   | some r=>
    simp only at h;split at h;·rename_i inf B;intro l c G hr s hkd K;obtain⟨_,_,_,_,_,F,_,g1,_,_,_,_,_,g7,g8,_⟩:=Ah C.sim C.dom hr B;obtain⟨k1,k2,k3⟩:=g8 1 { F with state := .busy} ⟨rfl,rfl,rfl,rfl⟩ rfl;have N:Steps E.P (lone (b.atR a (.beginRound :: k)) cs w) (lone (b.atR a k) cs (ca w l.b (.loop { F with state := .busy}))) := .one (stepR_beginRound s (run_beginRound g1 g7.1));exact ET.of_steps (rd:=some r) (ds:=[]) (λ_ _=>N) k1 k2 rfl sS (ih (some r) nt dep k _ st' h L M ι a _ ⟨k1,k3,C.tr,C.nt⟩ b cs) l c G hr s hkd K
    cases h
  ·rename_i c k;have T:codeOk ok c=true:=hi _ (gD ..);have L : ∀i∈k,nZ ok i=true:=λi h=>hi i (iS _ h);have two : ∀ {x y:Item},nZ ok x=true->nZ ok y=true ->∀i∈x :: y :: k,nZ ok i=true:=by
    intro x y hx hy i p;rcases ef.1 p with rfl | p
    ·exact hx
    rcases ef.1 p with rfl | p
    ·exact hy
    exact L i p
   have one : ∀ {x:Item},nZ ok x=true ->∀i∈x :: k,nZ ok i=true:=by
    intro x hx i p;rcases ef.1 p with rfl | p
    ·exact hx
    exact L i p
   split at h;·exact W k h L (.one stepR_skip)
   ·exact W k h L (.one stepR_label)
   ·cases rd with
    | none=>
     simp only[vV,if_true]at h;injection h with h
     subst h;intro s _;exact⟨a,w,_,[],⟨M,ι,C,tz.refl⟩,rfl,sS,.one (stepR_ret s)⟩
    | some r=>exact O 2 (some .ret) (by omega) rfl (λF=>⟨rfl,rfl⟩) h (by simp) λl c G v w' s L K hr=>by subst K;exact .one (stepR_round_ret s L hr)
   ·rename_i x y;simp only[codeOk,bt]at T;exact W _ h (two T.1 T.2) (.one stepR_seq)
   ·rename_i cnd x y;simp only[codeOk,bt]at T;split at h;·rename_i s;simp only[iz]at s;obtain⟨cv,h1,h2⟩:=s;exact W _ h (one T.1) (.one (stepR_cond (Ap (aU C.tr h1) h2)))
    ·rename_i s;simp only[iz]at s;obtain⟨cv,h1,h2⟩:=s;exact W _ h (one T.2) (.one (stepR_cond (Ap (aU C.tr h1) h2)))
    cases h
   ·exact W _ h (two (by simpa [codeOk,nZ] using T) rfl) (.one stepR_block)
   ·exact W _ h (two (by simpa [codeOk,nZ] using T) rfl) (.one (iQo (by simp[stepG,stepG.exec,Frame.atR])))
   ·exact W _ h (two (by simpa [codeOk,nZ] using T) (by simpa [codeOk,nZ] using T)) (.one stepR_loop)
   ·rename_i id;split at h;·rename_i k' R;exact W _ h (IU R L) (.one (stepR_exit R))
    rename_i R;cases rd with
    | none=>simp at h
    | some r=>exact O (id+3) (some (.exit id)) (by omega) (by simp) (λF=>⟨rfl,rfl⟩) (by simpa using h) (by simp) λl c G v w' s hkd K hr=>by subst K;exact .one (stepR_round_exit s hkd R hr)
   ·rename_i id ops X;split at h
    ·rename_i Q hst1;have hap:X=true->sA E ops Q=true:=by
      intro hd;cases s:sA E ops Q with
      | true=>rfl
      | false=>rw[hd,s]at h;simp at h
     replace h:ck E n rd nt dep k Q=some st':=by
      split at h;·cases h
      exact h
     have hpc : ∀f xs y,cY E (ck E n) f xs=some y->ja E.P f xs y:=λf xs y h=>Eg hE ih h;have htc : ∀f xs H y H',eG E (ck E n) dep f xs H=some (y,H')->il E.P f xs H y H':=λf xs H y H' h=>ya hE ih h;have hreg : ∃a1 w1,kD M ι st a w nt Q a1 w1/\(b.kind = .normal->Steps E.P (lone (b.atR a (.code (.region id ops X) :: k)) cs w) (lone (b.atR a1 k) cs w1)):=by
      cases X with| false=>exact JQ hpc htc hE.overs b k cs hst1 C| true=>
       have hwp:(Code.region id ops true).wpIn (FW b.roundOf) 0 E.P (λe a' w'=>e = .normal/\kD M ι st a w nt Q a' w') a w:=
        hE.draws ops (by simpa [codeOk] using T) hpc htc nt dep id st Q M ι a w b.roundOf _ hst1 (hap rfl) C λa' w' J=>⟨rfl,J⟩
       obtain⟨a1,w1,h1,h2⟩:=KX b hwp k cs;exact⟨a1,w1,h1,λ_=>h2⟩
     obtain⟨a1,w1,⟨⟨M1,ι1,hO1,hF1⟩,hd1⟩,N⟩:=hreg;exact ET.of_steps (ds:=[]) (λ_=>N) hO1.sim hF1 hd1 sS (ih rd nt dep k Q st' h L M1 ι1 a1 w1 hO1 b cs)
    cases h
   ·rename_i g ps assign body;simp only[codeOk,bt]at T;split at h
    ·rename_i gi first captured hg
     split at h
     ·rename_i x H' hcall;obtain⟨hS1,hF1,hD1,hmk⟩:=UH (d:=dep) (ps:=ps) (assign:=assign) (body:=body) (fn:=b.fn) C.sim C.dom C.tr C.nt rfl;obtain⟨hfn,hthr⟩:=ya hE ih hcall;obtain⟨a',b',hfv,hva,hvb⟩:=(aU C.tr hg).Yf;have hmv:=λ{xs us} (h:lI M ι xs us)=>h.mono (λ_ _ _ h=>h) hF1.map;have hyl:VR M (iq ι ⟨dep,nt,st.hp.gen dep nt,0⟩ ⟨w.heap.size+1,0,0⟩) (.yld ⟨dep,nt,st.hp.gen dep nt,0⟩) (.func (.yield (w.heap.size+1)) #[] #[]) := .yld (l:=⟨w.heap.size+1,0,0⟩) (by simp[iq]) rfl;have hall:=((hmv hva).append (lI.cons hyl lI.nil)).append (hmv hvb);have U:=hthr M _ _ _ hS1 hD1 hall;rw[show(a'.toList++[Value.func (.yield (w.heap.size+1)) #[] #[]]++b'.toList).toArray=a' ++ #[Value.func (.yield (w.heap.size+1)) #[] #[]]++b' by apply Fi;simp]at U;intro s;let c1:Frame:=b.atR { a with defers:=[{ target := .collected w.heap.size,args := #[]}]++a.defers} (.inRangeFunc (w.heap.size+1) :: k)
      have henter:=stepR_rangeFunc (P:=E.P) (b:=b) (a:=a) (k:=k) (cs:=cs) (w:=w) (g:=g) (ps:=ps) (assign:=assign) (body:=body) (l:=w.heap.size+1) (mark:=[{ target := .collected w.heap.size,args := #[]}])
       (d := { target := .fn (.func gi) b',args:=a' ++ #[Value.func (.yield (w.heap.size+1)) #[] #[]]}) (f:=gi) (args:=a' ++ #[Value.func (.yield (w.heap.size+1)) #[] #[]]++b')
       (by rw[s];exact run_enterLoop_outer b.fn a.tmps ps assign body) (by have hev : ∀x,a.eval (.const x)=x:=λ_=>rfl;simp[resolve,rangeCall,hfv,Deferred.ofValue,hev];rfl) (by simp[invoke,Ec hfn];rfl)
      obtain⟨e,w3,fr,⟨v,he,M3,V,hv3,hS3,hF3,hD3⟩,hcomes,hfr,hleave⟩:=U (c1 :: cs);subst he;have hs1:Steps E.P (lone (b.atR a (.code (.rangeFunc g ps assign body) :: k)) cs w) (lone (c1.finish v) cs w3):=iQn (.one henter) (iQn hcomes (.one (step_leave_returned hleave)));have hfin:c1.finish v=b.atR { a with defers:=[{ target := .collected w.heap.size,args := #[]}]++a.defers} (.endRangeFunc (w.heap.size+1) :: k):=finish_atR_inRangeFunc _ v;rw[hfin]at hs1;have Y:=hF1.trans hF3;have hr3:V ⟨dep,nt,st.hp.gen dep nt,0⟩=some ⟨w.heap.size+1,0,0⟩:=hF3.map _ _ (by simp[iq]);have hmk3:w3.heap[w.heap.size]?=some (.deferred (some [])):=(by rw[hF3.chg _ (iT.1 hmk).1 (GL hS1 hmk)];exact hmk);have I : ∀ {m:Nat} {inf:AV},xq H' ⟨dep,nt,st.hp.gen dep nt,0⟩=some (m,inf)->m≠1 ->∃F:Loop,∃w4,Cb m F /\
       Steps E.P (lone (b.atR a (.code (.rangeFunc g ps assign body) :: k)) cs w) (lone (b.atR { a with defers:=[{ target := .collected w.heap.size,args := #[]}]++a.defers} ((F.pending.map Item.code).toList++k)) cs w4) /\
       yy M3 V ⟨st.tm,H'.put ⟨dep,nt,st.hp.gen dep nt,0⟩ none⟩ nt { a with defers:=[{ target := .collected w.heap.size,args := #[]}]++a.defers} w4/\tz M ι st.hp.get w M3 V (H'.put ⟨dep,nt,st.hp.gen dep nt,0⟩ none).get w4 /\
       rn w w4 [w.heap.size]:=by
       intro m inf B hm;obtain⟨_,_,_,_,_,F,_,g1,_,_,_,_,_,g7,_,g9⟩:=Ah hS3 hD3 hr3 B;obtain⟨k1,k2,k3⟩:=g9 { F with state := .exhausted};have hnb:F.state ≠ .busy:=by
        match m,hm with
        | 0,_=>rw[g7.1];simp
        | 1,hm=>exact absurd rfl hm
        | 2,_=>rw[g7.1];simp
        | m+3,_=>rw[g7.1];simp
       refine⟨F,_,g7,iQn hs1 (.one (stepR_endRangeFunc (run_endLoop g1 hnb))),⟨k1,k3,⟨λt=>(C.tr.mono Y.mem Y.map).at_ t⟩,C.nt⟩,Y.trans k2,⟨by simp,λD hD=>?_⟩⟩;simp only[k9]at hD;subst hD;refine⟨bg _,?_⟩;show(ca w3 (w.heap.size+1) _).heap[w.heap.size]?=_;rw[eY (by omega)];exact hmk3
      split at h;·rename_i B;obtain⟨F,w4,J,N,S,Z,hM4⟩:=I B (by omega);rw[J.2]at N;exact ET.of_steps (rd:=none) (ds:=[w.heap.size]) (λ_ _=>N) S.sim Z rfl hM4 (ih none nt dep k _ st' h L M3 V _ w4 S b cs) s
      ·rename_i B;obtain⟨F,w4,J,N,S,Z,hM4⟩:=I B (by omega);rw[J.2]at N;cases h;intro _;exact⟨_,w4,_,[w.heap.size],⟨M3,V,S,Z⟩,rfl,hM4,iQn N (.one (stepR_ret s))⟩
      ·rename_i id B;obtain⟨F,w4,J,N,S,Z,hM4⟩:=I B (by omega);rw[J.2]at N;split at h;·rename_i k' R;exact ET.of_steps (rd:=none) (ds:=[w.heap.size]) (λ_ _=>iQn N (.one (stepR_exit R))) S.sim Z rfl hM4 (ih none nt dep k' _ st' h (IU R L) M3 V _ w4 S b cs) s
       cases h
      cases h
     cases h
    cases h
   cases h
  ·rename_i c k;have T:codeOk ok c=true:=hi _ (gD ..);have L : ∀i∈k,nZ ok i=true:=λi h=>hi i (iS _ h);refine W _ h ?_ (.one stepR_inLoop);intro i p;rcases ef.1 p with rfl | p
   ·exact T
   rcases ef.1 p with rfl | p
   ·exact T
   exact L i p
  ·rename_i id k;exact W k h (λi h=>hi i (iS _ h)) (.one stepR_inBlock)
  ·rename_i id k;exact W k h (λi h=>hi i (iS _ h)) (.one (iQo (by simp[stepG,stepG.exec,Frame.atR])))
  cases h
def Qd{E:Env}{ok:Array Oper->Bool}(b:E.Ok ok){n:Nat}{f:FuncId}{args:List AV}{y:AV}(h:cY E (ck E n) f args=some y):ja E.P f args y:=Eg b (Gk b n) h
end
end Go.Ab
