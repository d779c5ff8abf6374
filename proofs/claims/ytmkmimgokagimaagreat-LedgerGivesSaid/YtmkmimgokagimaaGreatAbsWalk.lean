/-
  Maps of the abstract machine against the model's. No statement of a seat is proved here.
-/
import Derived.Conc.LoneCalls
import Derived.Test.YtmkmimgokagimaaGreatAbsOps
set_option linter.unusedVariables false
set_option linter.unusedSimpArgs false
set_option linter.unusedSectionVars false
set_option linter.unnecessarySimpa false
set_option linter.defProp false
namespace Go.Ab
section
def bH{c d:Type}{P:Program}(s:Sem c)(f:c->Sem d):aY P (s >>= f)=(aY P s).bind λa=>aY P (f a):=by
 induction s with| pure a=>rfl| program k b=>exact b P| mark m k b=>exact b| _=>rfl
def zH{b:Type}{P:Program}(a:b):aY P (pure a:Sem b)=some a:=rfl
def dummy(es:List MapEntry):List MapEntry:=es.map λe=>⟨e.key,Go.undef,0⟩
def JB{d:TypeDesc}{k:Value} : ∀(es:List MapEntry)(i:Nat),(Instr.findNow d k es i=none↔Instr.findNow d k (dummy es) i=none)/\(Instr.findNow d k es i=some none↔Instr.findNow d k (dummy es) i=some none) /\
 ∀j v,Instr.findNow d k (dummy es) i=some (some (j,v))->i<=j /\∃e,es[j - i]?=some e/\Instr.findNow d k es i=some (some (j,e.val)):=by
 intro es;induction es with
 | nil=>intro i;simp[dummy,Instr.findNow]
 | cons e es t=>
  intro i;obtain⟨m,q,p⟩:=t (i+1);simp only[dummy,pG,Instr.findNow];cases u:Instr.sameNow d k e.key with
  | none=>simp
  | some b=>
   cases b with| true=>refine⟨by simp,by simp,λj v h=>?_⟩;simp only[dG,ya]at h;obtain⟨rfl,_⟩:=h;exact⟨cH _,e,by simp,rfl⟩| false=>refine⟨m,q,λj v h=>?_⟩;obtain⟨x,n,c,f⟩:=p j v h;refine⟨by omega,n,?_,f⟩;rw[show j - i=(j - (i+1))+1 by omega];simpa using c
def E4{P:Program}{f:TypeId}{k:Value} : ∀(es:List MapEntry)(i:Nat)(o:Option (Nat × Value)),aY P (Instr.findAsking f k (dummy es) i)=some o ->∀w:World,
 (o=none->(Instr.findAsking f k es i).run P w = .ok none w) /\∀j v,o=some (j,v)->i<=j /\∃e,es[j - i]?=some e/\(Instr.findAsking f k es i).run P w = .ok (some (j,e.val)) w:=by
 intro es;induction es with
 | nil=>intro i o h w;simp only[dummy,GH,Instr.findAsking,zH,dG]at h;subst h;exact⟨λ_=>rfl,λj v e=>by cases e⟩
 | cons e es x=>
  intro i o h w;simp only[dummy,pG,Instr.findAsking]at h;rw[bH]at h;obtain⟨b,t,h⟩:=ib.1 h;have d:=oO t w;cases b with
  | true=>simp only[if_true,zH,dG]at h;subst h;refine⟨λe=>by (cases e),λj v c=>?_⟩;cases c;exact⟨cH _,e,by simp,by simp[Instr.findAsking,d]⟩
  | false=>simp only[mJ,iQf]at h;obtain⟨q,u⟩:=x (i+1) o h w;refine⟨λc=>by simp[Instr.findAsking,d,q c],λj v c=>?_⟩;obtain⟨y,p,n,m⟩:=u j v c;refine⟨by omega,p,?_,by simp[Instr.findAsking,d,m]⟩;rw[show j - i=(j - (i+1))+1 by omega];simpa using n
def tI{P:Program}{c:Bool}{n:TypeId}{k:Value}{es:List MapEntry}{o:Option Nat}(h:zL P c n k (es.map (·.key))=some o)(w:World) :
 (Instr.checkKey c 10000 n k).run P w = .ok () w/\(o=none->(Instr.findKey n k es).run P w = .ok none w) /\∀j,o=some j ->∃e,es[j]?=some e/\(Instr.findKey n k es).run P w = .ok (some (j,e.val)) w:=by
 unfold zL at h;split at h
 ·rename_i v;obtain⟨o',b,e⟩:=bG.1 h;have B:(es.map (·.key)).map (λx=>(⟨x,Go.undef,0⟩:MapEntry))=dummy es:=by simp[dummy,Function.comp_def]
  rw[B]at b;unfold Instr.findKey at b;rw[bH]at b;obtain⟨d,z,b⟩:=ib.1 b;have f:=oO z w;refine⟨oO v w,?_⟩;obtain⟨F,H,G⟩:=JB (d:=d) (k:=k) es 0;cases i:Instr.findNow d k (dummy es) 0 with
  | some r=>
   rw[i]at b;simp only[zH,dG]at b;subst b;cases r with
   | none=>
    simp only[AS]at e;subst e;refine⟨λ_=>?_,λj e=>?_⟩;·simp[Instr.findKey,f,H.2 i]
    cases e
   | some p=>obtain⟨j0,v0⟩:=p;simp only[Option.map_some]at e;subst e;refine⟨λe=>(by cases e),λj e=>?_⟩;cases e;obtain⟨_,t,q,u⟩:=G j0 v0 i;exact⟨t,by simpa using q,by simp[Instr.findKey,f,u]⟩
  | none=>
   rw[i]at b;simp only at b;obtain⟨D,q⟩:=E4 es 0 o' b w;have m:=F.2 i;cases o' with
   | none=>
    simp only[AS]at e;subst e;refine⟨λ_=>?_,λj e=>?_⟩;·simp[Instr.findKey,f,m,D rfl]
    cases e
   | some p=>obtain⟨j0,v0⟩:=p;simp only[Option.map_some]at e;subst e;refine⟨λe=>(by cases e),λj e=>?_⟩;cases e;obtain⟨_,t,C,y⟩:=q j0 v0 rfl;exact⟨t,by simpa using C,by simp[Instr.findKey,f,m,y]⟩
 cases h
def zB{P:Program}{t b et:TypeId}(h:Jp P t=some (b,et)):P.underlying t=some (.map b et):=by
 unfold Jp at h;split at h;·rename_i k e c;cases h;exact c
 cases h
section
variable{P:Program}{M:Mem}{ι:Map}{g:cF}{w:World}{r:Ref}
def BM(H:gA M ι g w){ents:List AV}(n:kE g r=some ents){l:Loc}(F:ι r=some l)(O:l.esz=0) :
 ∃a f c,g r=some ⟨0,.v (.bool true) :: ents,a,f⟩/\w.heap[l.b]?=some (.map c c.size)/\c.size=ents.length /\
  (∀(i:Nat) ent e,ents[i]?=some ent->c[i]?=some e ->∃u t,ent = .tup [u,t]/\im u=some e.key/\VR M ι t e.val/\e.born=i) /\∀q,ents.mapM Bp=some q->q=c.toList.map (·.key):=by
 unfold kE at n;split at n
 ·rename_i es f C;cases n;obtain⟨Q,m,K⟩:=H.live r _ C;rw[F]at m;cases m;rcases K.objOk rfl with ⟨_,_,_,_,_,_,_,_,_,d,_⟩ | ⟨x,c,R,S,d,N,J,D⟩ | ⟨_,_,_,_,_,_,_,_,d,_⟩
  ·simp at d
  rotate_left
  ·simp at d
  simp only[Ah,iQo]at d;subst d;refine⟨false,f,c,C,N,J,D,λq h=>?_⟩;have G:=gH h;apply KA;intro i;rcases eC i c.size with z | z
  ·have j:i<ents.length:=(by omega);obtain⟨y,L,p⟩:=lT h i _ (dy j);obtain⟨u,t,I,B,_⟩:=D i _ c[i] (dy j) (kJ z);rw[L];rw[I]at p;simp only[Bp]at p;rw[p]at B;cases B;simp[kJ z]
  rw[wJ (by rw[G];omega),wJ (by simp;omega)]
 cases n
def PI(Y:gA M ι g w){t:TypeId}{x k y:AV}{T N:Value}(hx:VR M ι x T)(X:VR M ι k N){ok:Bool}{U:List aQ}(h:fe P g t (some x) (some k) ok=some (y,U)) :
 U=[] /\∃u,(Instr.lookup t T N ok).run P w = .ok u w/\VR M ι y u:=by
 have G : ∀ {v:AV} {u:Value} (b:Bool),VR M ι v u->VR M ι (if ok then .tup [v,.v (.bool b)] else v) (if ok then .tuple #[u,.bool b] else u):=by
  intro v u b j;cases ok with
  | false=>exact j
  | true=>
   refine .tup (by simp) rfl λi c u' B q=>?_;match i with
   | 0=>simp at B q;subst B;subst q;exact j
   | 1=>simp at B q;subst B;subst q;exact .v rfl
   | i+2=>simp at B
 unfold fe at h;split at h
 ·rename_i kt et r' kv W O R;cases O;cases hx with | mp hr hz=>
  rename_i l;have K:N=kv:=by simpa using vI X (by simpa using R)
  subst K;split at h
  ·rename_i ents hm;obtain⟨a,f,entries,hg,V,hsz,H,J⟩:=BM Y hm hr hz;split at h
   ·rename_i S I;have d:=J S I;have m:entries.isEmpty=S.isEmpty:=by rw[d];simp
    split at h
    ·rename_i i C;rw[d]at C;obtain⟨v,j,h⟩:=bG.1 h;cases h;obtain⟨F,_,Z⟩:=tI C w;obtain⟨e,he,D⟩:=Z i rfl;obtain⟨L,p,j⟩:=ib.1 j;obtain⟨ka,va,e1,e2,e3⟩:=H i L e p (by simpa using he);subst e1;simp only[IJ,dG]at j;subst j;refine⟨rfl,_,?_,G true e3.1⟩;rw[<-d,<-m]at F;have n:(getObj l.b).run P w = .ok (.map entries entries.size) w:=by simp[getObj,Sem.run,V]
     simp only[Instr.lookup,iQe,iQh,bh (zB W),iQd,n,F,D]
    ·rename_i C;rw[d]at C;obtain⟨z,Q,h⟩:=bG.1 h;cases h;obtain⟨F,h2,_⟩:=tI C w;obtain⟨u,q,j⟩:=yD Q w;refine⟨rfl,_,?_,G false (jo j)⟩;rw[<-d,<-m]at F;have n:(getObj l.b).run P w = .ok (.map entries entries.size) w:=by simp[getObj,Sem.run,V]
     simp only[Instr.lookup,iQe,iQh,bh (zB W),iQd,n,F,h2 rfl,q]
    cases h
   cases h
  cases h
 cases h
def PJ(B:gA M ι g w){m:Array TypeId}{ty:TypeId}{r':Ref}{x:AV}{j:Value}(D:VR M ι (.mp r') j){n:List aQ}(h:wT P g m[0]? r'=some (x,n)) :
 n=[] /\∃u,(Builtin.len_ m ty #[j]).run P w = .ok u w/\VR M ι x u:=by
 unfold wT at h;split at h
 ·rename_i p ents e z;obtain⟨t,e,i⟩:=ib.1 e;cases h;cases D with | mp y C=>
  rename_i l;obtain⟨a,f,entries,F,q,c,_,_⟩:=BM B z y C;have d:(getObj l.b).run P w = .ok (.map entries entries.size) w:=by simp[getObj,Sem.run,q]
  refine⟨rfl,goInt entries.size,by simp[Builtin.len_,e,bh (zB i),d],?_⟩;rw[<-c];exact .v rfl
 cases h
def J6(m:gA M ι g w)(Q:ι r=none){w':World}{o:Obj}(f:Ek w w' o){k:aQ}(D:oz M (k6 ι r ⟨w.heap.size,0,0⟩) w' ⟨w.heap.size,0,0⟩ k) :
 gA M (k6 ι r ⟨w.heap.size,0,0⟩) (ma g r k) w'/\uN M ι g w M (k6 ι r ⟨w.heap.size,0,0⟩) (ma g r k) w':=by
 have d:=Gf (l:=⟨w.heap.size,0,0⟩) Q;have n : ∀b o x,M b o=some x->b<w.heap.size:=λb o x h=>iQm w ⟨b,o,none⟩ (m.mem b o x h);have one : ∀ {q:Ref} {k' c},ma g r k q=some k'->k6 ι r ⟨w.heap.size,0,0⟩ q=some c->(q=r/\c.b=w.heap.size)\/(q≠r/\g q=some k'/\ι q=some c/\c.b<w.heap.size):=by
  intro q k' c h j;unfold ma at h;unfold k6 at j;split at h;·rename_i e;rw[if_pos e]at j;cases j;exact .inl ⟨e,rfl⟩
  rename_i e;rw[if_neg e]at j;obtain⟨F,t,v⟩:=m.live q k' h;rw[j]at t;cases t;exact .inr ⟨e,h,j,v.lt⟩
 refine⟨⟨λb o x h=>f.cell (m.mem b o x h),λq k' h=>?_,λq J k1 H c F z B N O I=>?_⟩,⟨f.os,f.tape,f.output,by rw[f.heap];simp,λb K _=>f.old b K,λ_ _ _ h=>h,d,λq k' c z B=>?_,λ_ _ _ h => .inl h⟩⟩
 ·unfold ma at h;split at h;·rename_i e;subst e;cases h;exact⟨⟨w.heap.size,0,0⟩,by simp[k6],D.TG rfl λo x L=>absurd (n _ _ _ L) (AH _)⟩
  obtain⟨c,y,i⟩:=m.live q k' h;exact⟨c,d q c y,i.aX (λ_ _ _ h=>h) d (f.old _ i.lt) i.frozen⟩
 ·rcases one z N with ⟨u,p⟩ | ⟨u,p,C,G⟩<;>rcases one B O with ⟨f1,f2⟩ | ⟨f1,f2,f3,f4⟩
  ·rw[u,f1]
  ·omega
  ·omega
  exact m.inj q J k1 H c F p f2 C f3 I
 rcases one z B with ⟨u,p⟩ | ⟨u,p,C,G⟩
 ·exact .inl (by omega)
 exact .inr ⟨q,k',c,p,C,rfl⟩
def MY(n:gA M ι g w)(d:r.k=0)(v:ι r=none)(t:TypeId) :
 ∃u w',(Instr.makeMap t none).run P w = .ok u w'/\jV M ι g w r (.mp r) [ba []] u w':=by
 have b:Ek w (w.alloc (.map #[] 0)) (.map #[] 0):=⟨rfl,rfl,rfl,rfl⟩;obtain⟨m,p⟩:=J6 n v b (k:=ba []) (.inr (.inl ⟨[], #[],rfl,rfl,rfl,by rw[b.heap];simp,rfl,λi j e h=>by simp at h⟩));refine⟨.map (some w.heap.size),w.alloc (.map #[] 0),by simp[Instr.makeMap,run_newObj_alloc],M,k6 ι r ⟨w.heap.size,0,0⟩,.mp (l:=⟨w.heap.size,0,0⟩) (by simp[k6]) rfl,by rw[sD _ _ d];exact m,by rw[sD _ _ d];exact p,?_⟩;intro q c f;have:q≠r:=by intro e;exact f 0 (by simp) (by rw[e];cases r;simp_all)
 simpa [k6,this] using c
def vN{H:aa}{l:Loc}{k:aQ}(m:gA M ι H.get w)(S:tT ι H)(y:ι r=some l)(N:l.esz=0)(p:H.get r=some k){k':aQ}{o':Obj}(K:oz M ι (bO w l.b o') l k') :
 gA M ι (H.put r (some k')).get (bO w l.b o')/\uN M ι H.get w M ι (H.put r (some k')).get (bO w l.b o')/\tT ι (H.put r (some k')):=by
 obtain⟨Z,t,Q⟩:=m.live r _ p;rw[y]at t;cases t;have B:k.esz=0:=by rw[<-Q.esz];exact N
 have L : ∀o x,M l.b o=some x->False:=by
  intro o x z;have:=m.mem _ _ _ z;rcases(Q.objOk B).obj with ⟨_,i⟩ | ⟨_,_,i⟩ | ⟨_,_,_,_,_,_,i⟩
  ·simp[World.cell?,i]at this
  ·simp[World.cell?,i]at this
  simp[World.cell?,i]at this
 have c : ∀q k1,(H.put r (some k')).get q=some k1 ->∃n,H.get q=some n:=by
  intro q k1 d;rw[aa.get_put]at d;split at d;·rename_i e;exact⟨_,e ▸ p⟩
  exact⟨k1,d⟩
 refine⟨⟨λb o x z=>?_,λq k1 d=>?_,λq O k1 U f T I J Y i X=>?_⟩,⟨rfl,rfl,rfl,by simp[bO],λb _ D=>eO (D r _ l p y),λ_ _ _ h=>h,λ_ _ h=>h,λq k1 f I J=>?_,λ_ _ _ h => .inl h⟩,λq V d=>?_⟩;·have C:l.b≠b:=λe=>L o x (e ▸ z);rw[iQi (w:=w) (eO C)];exact m.mem b o x z
 ·by_cases j:q=r;·subst j;rw[aa.get_put,if_pos rfl]at d;cases d;exact⟨l,y,K.TG N L⟩
  rw[aa.get_put,if_neg j]at d;obtain⟨f,u,v⟩:=m.live q k1 d;have G:l.b≠f.b:=λe=>j (m.inj q r k1 _ f l d p u y e.symm);exact⟨f,u,v.aX (λ_ _ _ h=>h) (λ_ _ h=>h) (eO G) v.frozen⟩
 ·obtain⟨n,F⟩:=c q k1 I;obtain⟨R,W⟩:=c O U J;exact m.inj q O n R f T F W Y i X
 ·obtain⟨n,F⟩:=c q k1 I;exact .inr ⟨q,n,f,F,J,rfl⟩
 rw[aa.jJ _ _ _ (by rw[p];rfl)];exact S q V d
def Jd{H:aa}(U:gA M ι H.get w)(hD:tT ι H){t:TypeId}{m k x y:AV}{um n I:Value}(hm:VR M ι m um)(hk:VR M ι k n)(hx:VR M ι x I){H':aa}(h:dQ P H t (some m) (some k) (some x)=some (y,H')) :
 ∃w',(Instr.mapUpdate t um n I).run P w = .ok () w'/\o7 M ι H w y H' undef w':=by
 unfold dQ at h;split at h
 ·rename_i kt et r' k' x' ht Q e2 e3;cases Q;cases e2;cases e3;cases hm with | mp hr hz=>
  rename_i l;split at h
  ·rename_i kv ents B Y;have V:n=kv:=vI hk B;subst V;obtain⟨a,f,entries,hg,X,F,u,S⟩:=BM U Y hr hz;have K:l.b<w.heap.size:=(iO.1 X).1;have N:(getObj l.b).run P w = .ok (.map entries entries.size) w:=by simp[getObj,Sem.run,X]
   have O : ∀o,(setObj l.b o).run P w = .ok () (bO w l.b o):=by intro o;simp[setObj,Sem.run,X,bO]
   split at h
   ·rename_i ks R;have p:=S ks R;split at h
    ·rename_i i J;rw[p]at J;obtain⟨T,h⟩:=eK.1 h;cases h;obtain⟨W,_,h3⟩:=tI J w;obtain⟨e,he,L⟩:=h3 i rfl;have d:entries[i]?=some e:=by simpa using he
     have hil:i<entries.size:=(iO.1 d).1;have Z:Instr.sameBits 10000 e.key n=true:=(by rw[p]at T;simp only[k5,Gz,d,Option.map_some,dG]at T;exact T);have C:(Instr.keyThatStays (((entries[i]?).map (·.key)).getD n) n).run P w = .ok n w:=(by rw[d];simp[Instr.keyThatStays,Z]);refine⟨bO w l.b (.map (entries.modify i λe => { e with key:=n,val:=I}) entries.size),by simp only[Instr.mapUpdate,iQe,bh (zB ht),iQd,N,W,L,C,O],M,ι,.v rfl,?_⟩;refine vN U hD hr hz hg (.inr (.inl ⟨ents.set i (.tup [k,x]),entries.modify i λe => { e with key:=n,val:=I},rfl,rfl,rfl,?_,by simp[F],λj D Q q c=>?_⟩));·rw[gE K];simp
     rw[GW]at c;by_cases G:i=j;·subst G;rw[if_pos rfl,d]at c;simp only[Option.map_some,dG]at c;subst c;rw[GA (by omega)]at q;cases q;obtain⟨_,_,_,_,_,hb⟩:=u i _ e (dy (by omega)) d;exact⟨k,x,rfl,B,hx,hb⟩
     rw[if_neg G]at c;rw[GS G]at q;exact u j D Q q c
    ·rename_i J;rw[p]at J;cases h;obtain⟨W,h2,_⟩:=tI J w;refine⟨bO w l.b (.map (entries.push { key:=n,val:=I,born:=entries.size}) (entries.size+1)),by simp only[Instr.mapUpdate,iQe,bh (zB ht),iQd,N,W,h2 rfl,O],M,ι,.v rfl,?_⟩;refine vN U hD hr hz hg (.inr (.inl ⟨ents++[.tup [k,x]],entries.push { key:=n,val:=I,born:=entries.size},rfl,rfl,rfl,?_,by simp[F],λj D Q q c=>?_⟩));·rw[gE K];simp
     rcases eC j entries.size with z | hge
     ·rw[Ft z,<-kJ z]at c;rw[kA (by omega)]at q;exact u j D Q q c
     rw[jP (by omega)]at q;have hj0:j=entries.size:=(by have:=(ew.1 q).1;simp at this;omega);subst hj0;simp only[F,wH,KJ,dG]at q;subst q;simp at c;subst c;exact⟨k,x,rfl,B,hx,rfl⟩
    cases h
   cases h
  cases h
 cases h
def KL{H:aa}(hS:gA M ι H.get w)(hD:tT ι H){t:TypeId}{m k y:AV}{um B:Value}(hm:VR M ι m um)(hk:VR M ι k B){H':aa}(h:jl P H t (some m) (some k)=some (y,H')) :
 ∃u w',(Instr.mapEntry t um B).run P w = .ok u w'/\o7 M ι H w y H' u w':=by
 have two : ∀ {v:AV} {u:Value} (n:Nat),VR M ι v u->VR M ι (.tup [v,.v (.int .i64 n)]) (.tuple #[u,goInt n]):=by
  intro v u n I;refine .tup (by simp) rfl λi c u' G S=>?_;match i with
  | 0=>simp at G S;subst G;subst S;exact I
  | 1=>simp at G S;subst G;subst S;exact .v rfl
  | i+2=>simp at G
 unfold jl at h;split at h
 ·rename_i kt et r' k' ht Y e2;cases Y;cases e2;cases hm with | mp hr hz=>
  rename_i l;split at h
  ·rename_i kv ents N hma;have huk:B=kv:=vI hk N;subst huk;obtain⟨a,f,entries,hg,hh,J,F,hks⟩:=BM hS hma hr hz;have U:l.b<w.heap.size:=(iO.1 hh).1;have W:(getObj l.b).run P w = .ok (.map entries entries.size) w:=by simp[getObj,Sem.run,hh]
   have X : ∀o,(setObj l.b o).run P w = .ok () (bO w l.b o):=by intro o;simp[setObj,Sem.run,hh,bO]
   split at h
   ·rename_i ks Z;have C:=hks ks Z;split at h
    ·rename_i i T;rw[C]at T;obtain⟨G,h⟩:=eK.1 h;obtain⟨v,I,h⟩:=bG.1 h;cases h;obtain⟨h1,_,h3⟩:=tI T w;obtain⟨e,he,V⟩:=h3 i rfl;have p:entries[i]?=some e:=by simpa using he
     have hil:i<entries.size:=(iO.1 p).1;have hsb:Instr.sameBits 10000 e.key B=true:=(by rw[C]at G;simp only[k5,Gz,p,Option.map_some,dG]at G;exact G);have O:(Instr.keyThatStays (((entries[i]?).map (·.key)).getD B) B).run P w = .ok B w:=(by rw[p];simp[Instr.keyThatStays,hsb]);obtain⟨q,Q,I⟩:=ib.1 I;obtain⟨ka,va,q1,q2,q3,q4⟩:=F i q e Q p;subst q1;simp only[IJ,dG]at I;subst I;refine⟨.tuple #[e.val,goInt i],bO w l.b (.map (entries.modify i λe => { e with key:=B}) entries.size),?_,M,ι,two i q3,?_⟩
     ·have L:(Option.map (λx:MapEntry=>(x.born:Int)) entries[i]?).getD 0=(i:Int):=by rw[p];simp[q4]
      simp only[Instr.mapEntry,iQe,iQh,bh (zB ht),iQd,W,h1,V,O,X,L]
     refine vN hS hD hr hz hg (.inr (.inl ⟨ents.set i (.tup [k,va]),entries.modify i λe => { e with key:=B},rfl,rfl,rfl,?_,by simp[J],λj q Y D d=>?_⟩));·rw[gE U];simp
     rw[GW]at d;by_cases R:i=j;·subst R;rw[if_pos rfl,p]at d;simp only[Option.map_some,dG]at d;subst d;rw[GA (by omega)]at D;cases D;exact⟨k,va,rfl,N,q3,q4⟩
     rw[if_neg R]at d;rw[GS R]at D;exact F j q Y D d
    ·rename_i T;rw[C]at T;obtain⟨z,hzz,h⟩:=bG.1 h;cases h;obtain⟨h1,h2,_⟩:=tI T w;obtain⟨uz,S,I⟩:=yD hzz w;refine⟨.tuple #[uz,goInt ents.length],bO w l.b (.map (entries.push { key:=B,val:=uz,born:=entries.size}) (entries.size+1)),?_,M,ι,two ents.length (jo I),?_⟩;·simp only[Instr.mapEntry,iQe,iQh,bh (zB ht),iQd,W,h1,h2 rfl,S,X,J]
     refine vN hS hD hr hz hg (.inr (.inl ⟨ents++[.tup [k,z]],entries.push { key:=B,val:=uz,born:=entries.size},rfl,rfl,rfl,?_,by simp[J],λj q Y D d=>?_⟩));·rw[gE U];simp
     rcases eC j entries.size with K | hge
     ·rw[Ft K,<-kJ K]at d;rw[kA (by omega)]at D;exact F j q Y D d
     rw[jP (by omega)]at D;have hj0:j=entries.size:=(by have:=(ew.1 D).1;simp at this;omega);subst hj0;simp only[J,wH,KJ,dG]at D;subst D;simp at d;subst d;exact⟨k,z,rfl,N,jo I,rfl⟩
    cases h
   cases h
  cases h
 cases h
def G5{H:aa}(N:gA M ι H.get w)(V:tT ι H){t:TypeId}{m s x y:AV}{S us z:Value}(hm:VR M ι m S)(Y:VR M ι s us)(hx:VR M ι x z){H':aa}(h:fQ H (some m) (some s) (some x)=some (y,H')) :
 ∃w',(Instr.entryStore t S us z).run P w = .ok () w'/\o7 M ι H w y H' undef w':=by
 unfold fQ at h;split at h
 ·rename_i r' kd n x' L e2 e3;cases L;cases e2;cases e3;cases hm with | mp O Q=>
  rename_i l;cases Y;split at h
  ·rename_i ents G;obtain⟨hn,h⟩:=eK.1 h;split at h
   ·rename_i R va u;cases h;obtain⟨a,f,entries,W,F,K,d,_⟩:=BM N G O Q;have C:l.b<w.heap.size:=(iO.1 F).1;have D:(getObj l.b).run P w = .ok (.map entries entries.size) w:=by simp[getObj,Sem.run,F]
    have I : ∀o,(setObj l.b o).run P w = .ok () (bO w l.b o):=by intro o;simp[setObj,Sem.run,F,bO]
    have i:n.toNat<entries.size:=by have:=(ew.1 u).1;omega
    have born : ∀j (p:j<entries.size),entries[j].born=j:=(by intro j p;obtain⟨_,_,_,_,_,hb⟩:=d j _ entries[j] (dy (by omega)) (kJ p);exact hb);have B:entries.findIdx? (λe=>(e.born:Int) == n)=some n.toNat:=by
     rw[Array.findIdx?_eq_some_iff_getElem];refine⟨i,?_,λj p=>?_⟩;·rw[born _ i];simp;omega
     rw[born j (by omega)];simp;omega
    obtain⟨T,X,q1,U,q3,Z⟩:=d n.toNat _ entries[n.toNat] u (kJ i);cases q1;refine⟨bO w l.b (.map (entries.modify n.toNat λe => { e with val:=z}) entries.size),?_,M,ι,.v rfl,?_⟩;·simp only[Instr.entryStore,iQe,iQh,iQd,D,asInt,asIntOf,B,I]
    refine vN N V O Q W (.inr (.inl ⟨ents.set n.toNat (.tup [R,x]),entries.modify n.toNat λe => { e with val:=z},rfl,rfl,rfl,?_,by simp[K],λj J L p c=>?_⟩));·rw[gE C];simp
    rw[GW]at c;by_cases q:n.toNat=j;·subst q;rw[if_pos rfl,kJ i]at c;simp only[Option.map_some,dG]at c;subst c;rw[GA (by omega)]at p;cases p;exact⟨R,x,rfl,U,hx,Z⟩
    rw[if_neg q]at c;rw[GS q]at p;exact d j J L p c
   cases h
  cases h
 cases h
def IS{g:cF}{r:Ref}{cap:Nat}{d:Bool}{b:List AV}(h:W7 g r=some (cap,d,b)) :
 ∃n f,g r=some ⟨0,.v (.bool false) :: .v (.int .i64 n) :: .v (.bool d) :: b,false,f⟩/\n.toNat=cap:=by
 unfold W7 at h;split at h;·rename_i n e c f i;cases h;exact⟨n,f,i,rfl⟩
 cases h
def LG(y:gA M ι g w){r:Ref}{l:Loc}(q:ι r=some l){cap:Nat}{p:Bool}{d:List AV}(h:W7 g r=some (cap,p,d)) :
 ∃s t arr,w.heap[l.b]?=some (.chan cap arr p s t false)/\arr.size=d.length /\∀(i:Nat) x u,d[i]?=some x->arr[i]?=some u->VR M ι x u:=by
 obtain⟨n,f,D,J⟩:=IS h;obtain⟨K,j,G⟩:=y.live r _ D;rw[q]at j;cases j;rcases G.objOk rfl with ⟨_,_,_,_,_,_,_,_,_,e,_⟩ | ⟨_,_,_,_,e,_⟩ | ⟨c,s,t,z,m,arr,_,_,e,H,C,F⟩
 ·simp at e
 ·simp at e
 simp only[Ah,AV.v.injEq,Value.int.injEq,Value.bool.injEq,iQo]at e;obtain⟨L,B,I⟩:=e;subst B I;have:c=cap:=by omega
 subst this;exact⟨s,t,arr,H,C,F⟩
def Lf(F:gA M ι g w)(v:r.k=0)(I:ι r=none){t e:TypeId}{b:Nat}(f:Mn P t=some e)(z:oM P e=some b)(k:IntKind)(n:Nat)(C:n<=1000000)(m:b<=1000000) :
 ∃u w',(Instr.makeChan t (.int k n)).run P w = .ok u w'/\jV M ι g w r (.ch r) [IQ n false []] u w':=by
 unfold Mn at f;split at f
 ·rename_i G L D;cases f;unfold oM at z;obtain⟨i,J,j⟩:=bG.1 z;have c:Ek w (w.alloc (.chan n #[] false 0 0 false)) (.chan n #[] false 0 0 false):=⟨rfl,rfl,rfl,rfl⟩;obtain⟨y,H⟩:=J6 F I c (k:=IQ n false []) (.inr (.inr ⟨n,0,0,false,[], #[],rfl,rfl,rfl,by rw[c.heap];simp,rfl,λi x u h=>by simp at h⟩));have d:(i.bytes:Int) * n<=281474976710544:=by
   have K:i.bytes * n<=1000000 * 1000000:=Nat.mul_le_mul (j ▸ m) C;have y:((i.bytes * n:Nat):Int)=(i.bytes:Int) * n:=by simp
   omega
  refine⟨_,_,Go.Conc.run_makeChan D J k n (by omega) d,M,k6 ι r ⟨w.heap.size,0,0⟩,.ch (l:=⟨w.heap.size,0,0⟩) (by simp[k6]) rfl,by rw[sD _ _ v];exact y,by rw[sD _ _ v];exact H,?_⟩;intro q p B;have:q≠r:=by intro e;exact B 0 (by simp) (by rw[e];cases r;simp_all)
  simpa [k6,this] using p
 cases f
def HD(w:World)(c cap:Nat)(b:Array Value)(d:Bool)(s r:Nat):w.setChan c cap b d s r false=bO w c (.chan cap b d s r false):=rfl
def I4(P:Program)(o:Oper)(a:Act)(w:World)(S:Value->World->Prop):Prop:=
 ∀(b:Frame)(k:List Item)(cs:List Frame)(ops:Array Oper)(i:Nat)(rest:List Nat),b.kind = .normal->ops[i]?=some o->Region.wanted o (yielded ops a.tmps)=true ->
  ∃u w',S u w'/\step P (lone (b.atR a (.inRegion ops (i :: rest) :: k)) cs w) = .next (lone (b.atR (a.put o.dst u) (.inRegion ops rest :: k)) cs w')
def A2{P:Program}{b:Frame}{a:Act}{k:List Item}{cs:List Frame}{w w':World}{ops:Array Oper}{i:Nat}{rest:List Nat}{o:Oper}{cases:Array CommCase}{shape:CommShape}(j:b.kind = .normal)(m:ops[i]?=some o)
 (n:Region.wanted o (yielded ops a.tmps)=true) (h : ∀c,o.op ≠ .defer c) (f:(execOp a.eval o).run P w = .ok (.comm cases true shape) w') :
 ∃es,stepG P true (Go.Conc.G (b.atR a (.inRegion ops (i :: rest) :: k)) cs) w = .comm (Go.Conc.G (b.atR a (.inRegion ops (i :: rest) :: k)) cs) cases true shape w' es:=by
 have e:=stepGR_op (P:=P) (b:=b) (k:=k) (cs:=cs) (w:=w) (rest:=rest) m n;rw[Oper.semAt_eq _ _ _ h]at e;unfold Go.Conc.G;rw[e];have d:(b.kind == CallKind.early)=false:=by rw[j];rfl
 refine⟨Go.Conc.listed P b.fn a o w,?_⟩;simp[stepG.apply,f,Frame.atR,d,GStep.after,Go.Conc.listed]
def Uj{P:Program}{o:Oper}{a:Act}{H:aa}(Q:gA M ι H.get w)(X:tT ι H){D p:Operand}(B:o.op = .send D p){c x y:AV}{H':aa}(O:VR M ι c (a.eval D))(hx:VR M ι x (a.eval p))
 (h:G3 H (some c) (some x)=some (y,H')):I4 P o a w λu w'=>o7 M ι H w y H' u w':=by
 unfold G3 at h;split at h
 ·rename_i r x' e1 e2;cases e1;cases e2;split at h
  ·rename_i cap e m;obtain⟨⟨W,U⟩,h⟩:=eK.1 h;cases h;generalize N:a.eval D=cv at O;cases O with | @ch _ _ l S hz=>
   obtain⟨s,t,arr,R,F,K⟩:=LG Q S m;obtain⟨n,f,Y,_⟩:=IS m;have hb:l.b<w.heap.size:=(iO.1 R).1;intro b k cs ops i rest V T hw;obtain⟨es,J⟩:=A2 (P:=P) (b:=b) (a:=a) (k:=k) (cs:=cs) (w:=w) (w':=w) (rest:=rest) (cases := #[Go.Conc.scase l.b (a.eval p) (.tuple #[])]) (shape := .send) V T hw (by simp[B]) (by simp[execOp,B,Go.Conc.scase,N]);have C:=Go.Conc.step_lone_send_room J R (by omega);obtain⟨k1,k2,Z⟩:=vN Q X S hz Y (k':=IQ cap false (e++[x])) (o' := .chan cap (arr.push (a.eval p)) false (s+1) t false)
    (.inr (.inr ⟨cap,s+1,t,false,e++[x],arr.push (a.eval p),rfl,rfl,rfl,gE hb,by simp[F],λj z u d q=>by
     rcases eC j e.length with G | G
     ·rw[kA G]at d;rw[Ft (by omega)]at q;exact K j z u d (by rw[<-q];exact kJ (by omega))
     rw[jP G]at d;have I:j - e.length=0:=(by have:=(ew.1 d).1;simp at this;omega);rw[I]at d;have L:j=arr.size:=by omega
     rw[L,Array.getElem?_push_size]at q;simp at d q;subst d q;exact hx⟩))
   refine⟨undef,_,⟨M,ι,.v rfl,k1,k2,Z⟩,?_⟩;rw[Go.Conc.lone_eq_solo,C,iQw,T,Go.Conc.lone_eq_solo,HD];rfl
  cases h
 cases h
def Rs{M:Mem}{ι:Map}{x:AV}{u:Value}(ok b:Bool)(h:VR M ι x u):VR M ι (acm ok x b) (Go.Conc.got ok u b):=by
 cases ok with| false=>exact h| true=>
  refine .tup (by simp) rfl λi c v d e=>?_;match i with
  | 0=>simp at d e;subst d e;exact h
  | 1=>simp at d e;subst d e;exact .v rfl
  | i+2=>simp at d
def Uk{P:Program}{o:Oper}{a:Act}{H:aa}(N:gA M ι H.get w)(hD:tT ι H){t:TypeId}{V:Operand}{ok:Bool}(F:o.op = .recv t V ok){c y:AV}{H':aa}(hc:VR M ι c (a.eval V))
 (h:JM P H t (some c) ok=some (y,H')):I4 P o a w λu w'=>o7 M ι H w y H' u w':=by
 unfold JM at h;split at h
 ·rename_i r z e1 v;cases e1;generalize Z:a.eval V=cv at hc;cases hc with | @ch _ _ l U hz=>
  obtain⟨e,he,K⟩:=ib.1 v;unfold Mn at he;split at he
  ·rename_i dir e' G;cases he;unfold eX at K;obtain⟨v0,T,X⟩:=ib.1 K;obtain⟨inf,hi,S⟩:=ib.1 T;have R:VR M ι z v0:=jo X;have p:(execOp a.eval o).run P w = .ok (.comm #[Go.Conc.rcase l.b v0] true (.recv ok)) w:=by
    simp[execOp,F,Go.Conc.rcase,Z,run_underlying G,zeroValue,typeInfo,hi,S]
   split at h
   ·rename_i cap W x J d;cases h;obtain⟨s,t',arr,O,m,D⟩:=LG N U d;obtain⟨n,f,hg,_⟩:=IS d;have hb:l.b<w.heap.size:=(iO.1 O).1;have q:0<arr.size:=by rw[m];simp
    intro b k cs ops i rest Q I Y;obtain⟨es,C⟩:=A2 (P:=P) (b:=b) (a:=a) (k:=k) (cs:=cs) (w:=w) (w':=w) (rest:=rest) Q I Y (by simp[F]) p;have B:=Go.Conc.step_lone_recv_buf ok C O q;obtain⟨k1,k2,k3⟩:=vN N hD U hz hg (k':=IQ cap W J) (o' := .chan cap (arr.extract 1 arr.size) W s (t'+1) false)
     (.inr (.inr ⟨cap,s,t'+1,W,J,arr.extract 1 arr.size,rfl,rfl,rfl,gE hb,by simp[m],λj z u L G=>by
      refine D (j+1) z u (by simpa using L) ?_;have hj:=(ew.1 L).1;rw[Array.getElem?_extract]at G;rw[Nat.add_comm j 1];split at G;·exact G
      cases G⟩))
    refine⟨_,_,⟨M,ι,Rs ok true (D 0 x (arr.getD 0 undef) rfl (by simp[Array.getD,q])),k1,k2,k3⟩,?_⟩;rw[Go.Conc.lone_eq_solo,B,iQw,I,Go.Conc.lone_eq_solo,HD];rfl
   ·rename_i cap d;cases h;obtain⟨s,t',arr,O,m,D⟩:=LG N U d;have ha:arr = #[]:=LY (by simpa using m);subst ha;intro b k cs ops i rest Q I Y;obtain⟨es,C⟩:=A2 (P:=P) (b:=b) (a:=a) (k:=k) (cs:=cs) (w:=w) (w':=w) (rest:=rest) Q I Y (by simp[F]) p;have B:=Go.Conc.step_lone_recv_shut ok C O;refine⟨_,_,⟨M,ι,Rs ok false R,N,uN.refl,hD⟩,?_⟩;rw[Go.Conc.lone_eq_solo,B,iQw,I,Go.Conc.lone_eq_solo];rfl
   cases h
  cases he
 cases h
def Rc{P:Program}{o:Oper}{a:Act}{w:World}{K:Act->World->Prop}{ops:Array Oper}{i:Nat}(x:ops[i]?=some o)(G:Region.wanted o (yielded ops a.tmps)=true)(b:Frame)
 (h:o.wpIn (FW b.roundOf) 0 P a w K (λ_ _ _=>False)) (rest:List Nat) (k:List Item) (cs:List Frame) :
 ∃z w',K z w'/\Steps P (lone (b.atR a (.inRegion ops (i :: rest) :: k)) cs w) (lone (b.atR z (.inRegion ops rest :: k)) cs w'):=by
 obtain⟨_,h⟩:=h;have t:=stepGR_op (P:=P) (b:=b) (k:=k) (cs:=cs) (w:=w) (rest:=rest) x G;have j : ∀v,(b.atR a (.inRegion ops (i :: rest) :: k)).finish v=b.atR (a.put o.dst v) (.inRegion ops rest :: k):=by
  intro v;rw[iQw,x];rfl
 have p : ∀n,(FW b.roundOf).room n:=λn _ h=>by simp[FW,Fence.wide]at h
 rw[show(FW b.roundOf).round=b.roundOf from rfl]at h;unfold Oper.uponIn at h;split at h;·rename_i v w' m;refine⟨_,_,h,.one (iQr ?_)⟩;rw[t,<-j];simp[stepG.apply,m]
 ·rename_i w' m;refine⟨_,_,h,.one (iQr ?_)⟩;rw[t,<-j];simp[stepG.apply,m]
 ·rename_i d w' m;refine⟨_,_,h,.one (iQr ?_)⟩;have D:({ b.atR a (.inRegion ops (i :: rest) :: k)with defers:=d :: a.defers}:Frame).finish undef =
   b.atR ({ a with defers:=d :: a.defers}.put o.dst undef) (.inRegion ops rest :: k):=by
   have C:=iQw b { a with defers:=d :: a.defers} ops i rest k undef;rw[x]at C;exact C
  rw[t];simp only[stepG.apply,Sem.runT_eq,m,GStep.bare_after];exact iQg (λfr=>GStep.go { frame:=fr,callers:=cs,status := .running,dying:=none} w') D
 ·rename_i f args w' m;obtain⟨_,H,h⟩:=h;obtain⟨e,B,fr,q,u,_,F⟩:=h (b.atR a (.inRegion ops (i :: rest) :: k) :: cs) (p _);have c:step P (lone (b.atR a (.inRegion ops (i :: rest) :: k)) cs w) = .next (lone (Frame.enter P f args .normal) (b.atR a (.inRegion ops (i :: rest) :: k) :: cs) w'):=
   iQr (by rw[t];simp[stepG.apply,m,Frame.atR])
  cases e with| returned v=>refine⟨_,_,q,iQn (.one c) (iQn (iQz u) (.one ?_))⟩;rw[<-j];exact step_leave_returned F| panicked chain=>exact q.elim| outgrown=>obtain⟨_,_,y⟩:=q;exact y.elim
 ·rename_i row args w' m;obtain⟨_,h⟩:=h;obtain⟨v,B,q,u⟩:=h (b.atR a (.inRegion ops (i :: rest) :: k)) cs (p _);have c:step P (lone (b.atR a (.inRegion ops (i :: rest) :: k)) cs w) = .next (lone (Frame.ofRow P row args .normal) (b.atR a (.inRegion ops (i :: rest) :: k) :: cs) w'):=
   iQr (by rw[t];simp[stepG.apply,m,Frame.atR])
  refine⟨_,_,q,iQn (.one c) ?_⟩;rw[<-j];exact iQz u
 ·rename_i l f tmps assign body w' m;obtain⟨_,_,h⟩:=h;obtain⟨e,B,q,u⟩:=h (b.atR a (.inRegion ops (i :: rest) :: k)) cs (p _);have c:step P (lone (b.atR a (.inRegion ops (i :: rest) :: k)) cs w) = .next (lone (Frame.round l f tmps assign body .normal) (b.atR a (.inRegion ops (i :: rest) :: k) :: cs) w'):=
   iQr (by rw[t];simp[stepG.apply,m,Frame.atR])
  cases e with| returned v=>refine⟨_,_,q,iQn (.one c) ?_⟩;rw[<-j];exact iQz u| panicked chain=>exact q.elim| outgrown=>obtain⟨_,_,y⟩:=q;exact y.elim
 ·exact h.elim
 exact h.elim
end
end
section
def iU(r:Ref)(b:List Loc):Map:=λq=>if q.d=r.d/\q.t=r.t/\q.g=r.g then b[q.k]? else none
structure z9 (M:Mem) (w:World) (y:AV) (v:Value) (M':Mem) (w':World):Prop where
 os:w'.os=w.os
 tape:w'.tape=w.tape
 output:w'.output=w.output
 size:w.heap.size<=w'.heap.size
 old : ∀b,b<w.heap.size->w'.heap[b]?=w.heap[b]?
 mem : ∀b o x,M b o=some x->M' b o=some x
 sound : ∀b o x,M' b o=some x->w'.cell? ⟨b,o,none⟩=some x
 new : ∀b o x,M' b o=some x->M b o=some x\/w.heap.size<=b
 res : ∀r:Ref,∃ls:List Loc,ls.length=(aj r depth y []).2.length/\VR M' (iU r ls) (aj r depth y []).1 v /\
  (∀(k:Nat) l b,ls[k]?=some l->(aj r depth y []).2[k]?=some b->pz M' (iU r ls) w' l b/\w.heap.size<=l.b) /\
  ∀(i j:Nat) l l',ls[i]?=some l->ls[j]?=some l'->l.b=l'.b->i=j
def mu(P:Program)(f:FuncId)(args:List AV)(y:AV):Prop:=
 (∃fn,P.funcs[f]?=some fn/\(fn.name == "runtime.NumGoroutine")=false/\fn.body.isSome=true) /\
 ∀(M:Mem)(w:World)(us:List Value),(∀b o x,M b o=some x->w.cell? ⟨b,o,none⟩=some x)->mh M dq args us ->
  Calls P f us.toArray w λe w' =>∃v M',e = .returned v/\z9 M w y v M' w'
def rz(P:Program):uE->List AV->aa->AV->aa->Prop
 | .fn f,args,H,y,H'=>
  (∃fn,P.funcs[f]?=some fn/\(fn.name == "runtime.NumGoroutine")=false/\fn.body.isSome=true) /\
  ∀(M:Mem)(ι:Map)(w:World)(us:List Value),gA M ι H.get w->tT ι H->mh M ι args us ->
   Calls P f us.toArray w λe w' =>∃v,e = .returned v/\o7 M ι H w y H' v w'
 | .yld r,args,H,y,H' =>∀(M:Mem)(ι:Map)(w:World)(us:List Value)(l:Loc),gA M ι H.get w->tT ι H->mh M ι args us->ι r=some l ->
  ∃fn tmps assign body,(Instr.yield l.b us.toArray).run P w = .ok (.round l.b fn tmps assign body) w /\
   RoundIn (FW none) 0 P l.b fn tmps assign body w λe w' =>∃v,e = .returned v/\o7 M ι H w y H' v w'
def DU{M M':Mem}{ι A:Map} : ∀(n:Nat)(x:AV)(u:Value),flat n x=true->VR M ι x u->VR M' A x u:=by
 intro n;induction n with
 | zero=>intro x u h;simp[flat]at h
 | succ n f=>
  intro x u h p;cases p with
  | v t=>exact .v t
  | agg j d=>simp only[flat,gx]at h;exact .agg j λi c u b e=>f c u (h c (dJ b)) (d i c u b e)
  | tup q j d=>simp only[flat,gx]at h;exact .tup q j λi c u b e=>f c u (h c (dJ b)) (d i c u b e)
  | ifc d=>exact .ifc (f _ _ (by simpa [flat] using h) d)
  | fn z y d m=>simp only[flat,aT,gx]at h;exact .fn z y (λi c u b e=>f c u (h.1 c (dJ b)) (d i c u b e)) λi c u b e=>f c u (h.2 c (dJ b)) (m i c u b e)
  | yld=>simp[flat]at h
  | mp=>simp[flat]at h
  | ch=>simp[flat]at h
  | Bc=>simp[flat]at h
  | cC=>simp[flat]at h
  | bN=>simp[flat]at h
  | dsl=>simp[flat]at h
  | ptr=>simp[flat]at h
  | iptr=>simp[flat]at h
def wZ(r:Ref) : ∀(n m:Nat)(x:AV)(f:List aQ),flat m x=true->aj r n x f=(x,f):=by
 intro n;induction n with
 | zero=>intro m x f h;rfl
 | succ n q=>
  intro m x f h;have e : ∀(m:Nat)(cs b:List AV),(∀c∈cs,flat m c=true)->cs.foldl (λ(p:List AV × List aQ) c=>(p.1++[(aj r n c p.2).1],(aj r n c p.2).2)) (b,f)=(b++cs,f):=by
   intro m cs;induction cs with
   | nil=>intro b _;simp
   | cons c cs i=>intro b j;rw[tZ,q m c f (j c (gy ..))];rw[i (b++[c]) (λd u=>j d (fO _ u))];simp
  cases m with| zero=>simp[flat]at h| succ m=>
   cases x with
   | agg cs=>simp only[flat,gx]at h;have:=e m cs [] h;simp only[aj];rw[this];simp
   | tup cs=>simp only[flat,gx]at h;have:=e m cs [] h;simp only[aj];rw[this];simp
   | nsl=>simp[flat]at h
   | fsl=>simp[flat]at h
   | ifc t x=>simp only[aj];rw[q m x f (by simpa [flat] using h)]
   | _=>rfl
def IZ{g:cF}{r q:Ref}{e:List aQ}{b:aQ}(h:tN g r e q=some b):(q.d=r.d/\q.t=r.t/\q.g=r.g/\e[q.k]?=some b)\/(¬(q.d=r.d/\q.t=r.t/\q.g=r.g/\q.k<e.length)/\g q=some b):=by
 unfold tN at h;split at h;·rename_i c;exact .inl ⟨c.1,c.2.1,c.2.2.1,h⟩
 rename_i c;exact .inr ⟨c,h⟩
def IU{M ι g w}(I:gA M ι g w){r:Ref}(Z : ∀k,ι { r with k:=k}=none){y:AV}{v:Value}{M':Mem}{w':World}(h:z9 M w y v M' w') :
 jV M ι g w r (aj r depth y []).1 (aj r depth y []).2 v w':=by
 obtain⟨ls,X,hv,Y,hi⟩:=h.res r;have J : ∀q l,iU r ls q=some l->ι q=none:=by
  intro q l H;unfold iU at H;split at H
  ·rename_i hc;have:q = { r with k:=q.k}:=by cases q;cases r;simp_all
   rw[this];exact Z _
  cases H
 have C : ∀q l,ι q=some l->(λq=>match ι q with | some l=>some l | none=>iU r ls q) q=some l:=by
  intro q l h;simp[h]
 have m : ∀q l,iU r ls q=some l->(λq=>match ι q with | some l=>some l | none=>iU r ls q) q=some l:=by
  intro q l h;simp[J q l h,h]
 have t : ∀q l,(λq=>match ι q with | some l=>some l | none=>iU r ls q) q=some l->ι q=some l\/(ι q=none/\iU r ls q=some l):=by
  intro q l h;simp only at h;split at h;·rename_i T D;exact .inl (by rw[D,h])
  rename_i N;exact .inr ⟨N,h⟩
 have i : ∀q b l,tN g r (aj r depth y []).2 q=some b->(λq=>match ι q with | some l=>some l | none=>iU r ls q) q=some l ->
  (g q=some b/\ι q=some l)\/(w.heap.size<=l.b/\iU r ls q=some l/\ls[q.k]?=some l/\q = { r with k:=q.k}):=by
  intro q b l F u;rcases IZ F with ⟨f,n,j,G⟩ | ⟨f,n⟩
  ·right;have p:q = { r with k:=q.k}:=by cases q;cases r;simp_all
   have N:ι q=none:=by rw[p];exact Z _
   rcases t q l u with d | ⟨_,d⟩
   ·rw[N]at d;cases d
   have V:ls[q.k]?=some l:=by unfold iU at d;rw[if_pos ⟨f,n,j⟩]at d;exact d
   exact⟨(Y q.k l b V G).2,d,V,p⟩
  left;obtain⟨W,e,_⟩:=I.live q b n;rcases t q l u with d | ⟨d,_⟩
  ·exact⟨n,d⟩
  rw[e]at d;cases d
 refine⟨M',λq=>match ι q with | some l=>some l | none=>iU r ls q,hv.mono (λ_ _ _ h=>h) _ m,?_,?_,?_⟩
 ·refine⟨h.sound,?_,?_⟩
  ·intro q b F;rcases IZ F with ⟨f,n,j,G⟩ | ⟨f,n⟩
   ·have B:q.k<ls.length:=by rw[X];exact(ew.1 G).1
    have K:ls[q.k]?=some ls[q.k]:=dy B;obtain⟨c,hge⟩:=Y q.k _ b K G;have S:iU r ls q=some ls[q.k]:=by unfold iU;rw[if_pos ⟨f,n,j⟩];exact K
    refine⟨_,m q _ S,?_⟩;exact c.aX (λ_ _ _ h=>h) m rfl c.frozen
   obtain⟨l,D,c⟩:=I.live q b n;refine⟨l,C q l D,c.aX h.mem C (h.old _ c.lt) ?_⟩;intro o x U;rcases h.new _ _ _ U with j | j
   ·exact c.frozen o x j
   exact absurd c.lt (GC.2 j)
  intro q O b b' l T f n j G d;rcases i q b l f j with ⟨z,L⟩ | ⟨z,L,a3,a4⟩<;>rcases i O b' T n G with ⟨b1,b2⟩ | ⟨b1,b2,b3,b4⟩
  ·exact I.inj q O b b' l T z b1 L b2 d
  ·obtain⟨W,e,c⟩:=I.live q b z;rw[L]at e;cases e;exact absurd c.lt (by rw[d];exact GC.2 b1)
  ·obtain⟨W,e,c⟩:=I.live O b' b1;rw[b2]at e;cases e;exact absurd c.lt (by rw[<-d];exact GC.2 z)
  have:=hi _ _ _ _ a3 b3 d;rw[a4,b4,this]
 ·refine⟨h.os,h.tape,h.output,h.size,λb Q _=>h.old b Q,h.mem,C,?_,?_⟩
  ·intro q b l f j;rcases i q b l f j with ⟨z,L⟩ | ⟨z,_⟩
   ·exact .inr ⟨q,b,l,z,L,rfl⟩
   exact .inl z
  intro b o x U;rcases h.new b o x U with f | f
  ·exact .inl f
  exact .inr (.inl f)
 intro q R H;simp only[R];unfold iU;split
 ·rename_i hc;have p:q = { r with k:=q.k}:=by cases q;cases r;simp_all
  have : ¬q.k<(aj r depth y []).2.length:=λB=>H q.k B p;exact wJ (by rw[X];omega)
 rfl
def JF{M ι g w}(i:gA M ι g w){r:Ref}{y:AV}{v:Value}{n M':Mem}{w':World}(m:flat depth y=true)(h:z9 n w y v M' w'):jV M ι g w r y [] v w':=by
 obtain⟨ls,C,j,B,z⟩:=h.res r;rw[wZ r depth depth y [] m]at j;refine⟨M,ι,DU depth y v m j,?_,?_,λq d _=>d⟩
 ·rw[nP];refine⟨?_,?_,i.inj⟩;·intro b o x t;have:=i.mem b o x t;rw[iQi (w:=w) (h.old _ (iQm w ⟨b,o,none⟩ this))];exact this
  intro q b d;obtain⟨l,e,c⟩:=i.live q b d;exact⟨l,e,c.aX (λ_ _ _ h=>h) (λ_ _ h=>h) (h.old _ c.lt) c.frozen⟩
 rw[nP];exact⟨h.os,h.tape,h.output,h.size,λb f _=>h.old b f,λ_ _ _ h=>h,λ_ _ h=>h,λq b l p u => .inr ⟨q,b,l,p,u,rfl⟩,λ_ _ _ h => .inl h⟩
def Ql{M M':Mem}{ι A:Map}{e x:AV}{u:Value}{j:Nat}(d:flat depth e=true)(b:e.cells[j]?=some x)(h:VR M ι x u):VR M' A x u:=by
 cases e with
 | agg cs=>
  have f:x∈cs:=dJ b;have : ∀c∈cs,flat 7 c=true:=by simpa [flat,depth] using d
  exact DU 7 x u (this x f) h
 | _=>
  simp only[AV.cells]at b;cases j with
  | zero=>simp at b;subst b;exact DU depth _ u d h
  | succ j=>simp at b
def PQ(r:Ref) : ∀(n:Nat)(x:AV)(m:List aQ),Dz n x=true ->∃new,(aj r n x m).2=m++new/\(∀b∈new,0<b.esz/\b.arr=true/\b.gJ=false /\∀e∈b.es,flat depth e=true) /\
 ∀(M M':Mem)(ι:Map)(u:Value),VR M ι (aj r n x m).1 u->VR M' ι (aj r n x m).1 u:=by
 intro n;induction n with
 | zero=>intro x m h;simp[Dz]at h
 | succ n S=>
  intro x m h;have C : ∀(cs B:List AV)(m:List aQ),(∀c∈cs,Dz n c=true) ->∃(new:List aQ) (zs:List AV),cs.foldl (λ(p:List AV × List aQ) c=>(p.1++[(aj r n c p.2).1],(aj r n c p.2).2)) (B,m)=(B++zs,m++new) /\
   (∀b∈new,0<b.esz/\b.arr=true/\b.gJ=false /\∀e∈b.es,flat depth e=true) /\∀(M M':Mem)(ι:Map)(z:AV),z∈zs ->∀u,VR M ι z u->VR M' ι z u:=by
   intro cs;induction cs with
   | nil=>intro B m _;exact⟨[],[],by simp,λb q=>by simp at q,λ_ _ _ z F=>by simp at F⟩
   | cons c cs N=>
    intro B m y;obtain⟨n1,a1,Z,T⟩:=S c m (y c (gy ..));obtain⟨n2,zs,b1,b2,b3⟩:=N (B++[(aj r n c m).1]) (m++n1) λd Y=>y d (fO _ Y);refine⟨n1++n2,(aj r n c m).1 :: zs,?_,?_,?_⟩;·rw[tZ];simp only;rw[a1,b1];simp
    ·intro b q;rcases iN.1 q with q | q
     ·exact Z b q
     exact b2 b q
    intro M M' ι z F u f;rcases eD.1 F with rfl | F
    ·exact T M M' ι u f
    exact b3 M M' ι z F u f
  cases x with
  | v x=>exact⟨[],by simp[aj],λb q=>by simp at q,λM M' ι u f=>by simp only[aj]at f ⊢;cases f with | v I=>exact .v I⟩
  | agg cs=>
   simp only[Dz,gx]at h;obtain⟨new,zs,D,H,G⟩:=C cs [] m h;simp only[aj];rw[D];refine⟨new,rfl,H,λM M' ι u f=>?_⟩;simp only[sZ]at f ⊢;cases f with | agg O J=>
   exact .agg O λi c u y Q=>G M M' ι c (dJ y) u (J i c u y Q)
  | tup cs=>
   simp only[Dz,gx]at h;obtain⟨new,zs,D,H,G⟩:=C cs [] m h;simp only[aj];rw[D];refine⟨new,rfl,H,λM M' ι u f=>?_⟩;simp only[sZ]at f ⊢;cases f with | tup W O J=>
   exact .tup W O λi c u y Q=>G M M' ι c (dJ y) u (J i c u y Q)
  | fsl z es cap=>
   simp only[Dz,aT,bne_iff_ne,ne_eq,gx]at h;simp only[aj];rw[if_neg h.1];refine⟨[⟨z,es,true,false⟩],rfl,?_,λM M' ι u f=>?_⟩;·intro b q;rw[nc.1 q];exact⟨AO h.1,rfl,rfl,h.2⟩
   cases f with | bN X q I V y U K F=>exact .bN X q I V y U K F
  | cC z es cap=>have L:es=[]:=(by simpa [Dz] using h);subst L;refine⟨[],by simp[aj],λb q=>by simp at q,λM M' ι u f=>?_⟩;simp only[aj]at f ⊢;cases f with | cC cell I y K hm he J=>exact .cC cell I y K (λi j D=>by simp at D) he λi j e x D=>by simp at D
  | ifc t x=>obtain⟨new,D,H,G⟩:=S x m (by simpa [Dz] using h);simp only[aj];exact⟨new,D,H,λM M' ι u f=>by cases f with | ifc R=>exact .ifc (G M M' ι _ R)⟩
  | _=>simp[Dz]at h
def z9.own{M F M':Mem}{w w':World}{y:AV}{v:Value}(B : ∀b o x,M b o=some x->w.cell? ⟨b,o,none⟩=some x)(L:Dz depth y=true)(h:z9 F w y v M' w'):z9 M w y v M w':=by
 have n : ∀b o x,M b o=some x->b<w.heap.size:=λb o x c=>iQm w ⟨b,o,none⟩ (B b o x c);refine⟨h.os,h.tape,h.output,h.size,h.old,λ_ _ _ h=>h,?_,λ_ _ _ h => .inl h,λr=>?_⟩;·intro b o x c;rw[iQi (w:=w) (h.old _ (n b o x c))];exact B b o x c
 obtain⟨ls,O,C,R,S⟩:=h.res r;obtain⟨new,G,I,H⟩:=PQ r depth y [] L;refine⟨ls,O,H M' M _ v C,λk l b D d=>?_,S⟩;obtain⟨m,p⟩:=R k l b D d;have f:b∈new:=by rw[G,sZ]at d;exact dJ d
 obtain⟨V,U,W,J⟩:=I b f;have q : ∀o x,M l.b o=some x->b.gJ=true/\o<b.es.length * b.esz:=λo x c=>absurd (n _ _ _ c) (GC.2 p);refine⟨⟨m.esz,λt=>?_,λt=>by omega,q⟩,p⟩;obtain⟨N,⟨arr,T,fz,d1,d2,d3,d4⟩,K,Q,_⟩:=m.cellsOk t;refine⟨N,⟨arr,T,fz,d1,d2,d3,λi j e x z c=>?_⟩,K,Q,q⟩;obtain⟨u,f1,f2,f3⟩:=d4 i j e x z c;exact⟨u,f1,f2,Ql (J e (dJ z)) c f3⟩
def FB{P:Program}{f:FuncId}(d : ∃fn,P.funcs[f]?=some fn/\(fn.name == "runtime.NumGoroutine")=false/\fn.body.isSome=true)(args:Array Value)(w:World) :
 (callFunc f args).run P w = .ok (.enter f args) w:=by
 obtain⟨fn,h,j,c⟩:=d;have i:fn.body≠none:=by intro e;rw[e]at c;cases c
 have b:fn.name ≠ "runtime.NumGoroutine" := by simpa using j
 simp[callFunc,h,b,i]
def E5{P:Program}{a:Act}{o:Oper}{c:Call}{d:Operand}(i:o.op = .call c)(e:c.callee = .value d){f:FuncId}{first captured:Array Value}(b:a.eval d = .func (.func f) first captured)
 (h : ∃fn,P.funcs[f]?=some fn/\(fn.name == "runtime.NumGoroutine")=false/\fn.body.isSome=true) (w:World) :
 (execOp a.eval o).run P w = .ok (.enter f (first++c.args.map a.eval++captured)) w:=by
 simp[execOp,i,resolve,e,b,Deferred.ofValue,invoke,FB h]
def L8{M ι g w}(m:gA M ι g w){xs ys:List AV}{us:List Value}(h:xs.mapM (view g depth)=some ys)(c:mh M ι xs us):mh (ly M ι g w (bX g xs)) dq ys us:=
 ⟨by rw[gH h];exact c.1,λi y u f j=>by
  obtain⟨x,b,d⟩:=pf h i y f;refine C5 m depth x y u d ?_ (c.2 i x u b j);intro r e;exact fq.2 ⟨x,dJ b,e⟩⟩
def VR.Zs{M ι}{f:FuncId}{a b:List AV}{u:Value}(h:VR M ι (.fn (.func f) a b) u) : ∃j b',u = .func (.func f) j b'/\mh M ι a j.toList/\mh M ι b b'.toList:=by
 cases h with | fn p n m c=>
 exact⟨_,_,rfl,⟨by simpa using p,λi x u d e=>m i x u d (by simpa using e)⟩,⟨by simpa using n,λi x u d e=>c i x u d (by simpa using e)⟩⟩
def Hr(a b c:Array Value):(a.toList++b.toList++c.toList).toArray=a++b++c:=by
 apply GD;simp
section
variable{E:Env}{M:Mem}{ι:Map}{g:cF}{w:World}{r:Ref}{a:Act}{tm:List AV}{o:Oper}
def VE(q:gA M ι g w)(N:TR M ι tm a)(S : ∀k,ι { r with k:=k}=none){pc:FuncId->List AV->Option AV}(H : ∀f xs y,pc f xs=some y->mu E.P f xs y)
 {c:Call} {Q:Operand} (V:o.op = .call c) (m:c.callee = .value Q) {args:List AV} (p:c.args.toList.mapM (aC tm)=some args) {x:AV} {O:List aQ} (h:kW E pc g r (aC tm Q) args=some (x,O)) :
 eB E.P o a w λu w'=>jV M ι g w r x O u w':=by
 unfold kW at h;split at h
 ·rename_i fi first captured I
  split at h;·cases h
  split at h
  ·rename_i xs G;split at h
   ·rename_i y Y;obtain⟨b,h⟩:=eK.1 h;injection h with h
    obtain⟨T,t⟩:=H fi xs y Y;obtain⟨U,b',L,J,K⟩:=(aL N I).Zs;have j:=mU N p;have z:mh M ι (first++args++captured) (U.toList++(c.args.map a.eval).toList++b'.toList):=(J.append (by simpa using j)).append K;obtain⟨D,W⟩:=Bm (R:=bX g (first++args++captured)) q;have i:=L8 q G z;have d:=t (ly M ι g w (bX g (first++args++captured))) w _ (zX q.mem) i;rw[Hr]at d;refine eB.Ig (E5 V m L T w) (d.mono λe w' ⟨v,M',he,hend⟩=>⟨v,he,?_⟩);by_cases n:flat depth y=true
    ·have hi:=wZ r depth depth y [] n;rw[hi]at h;injection h with X Z
     subst X;subst Z;exact JF q n hend
    by_cases B:Dz depth y=true;·have:=IU q S (hend.own q.mem B);rw[h]at this;exact this
    have F:kO g (bX g (first++args++captured))=true:=by
     simp only[fp,aT]at b;rcases b with (m | m) | m
     ·exact absurd m n
     ·exact m
     exact absurd m.2 B
    have C:=NQ F;rw[C]at D;have:=IU D S hend;rw[h]at this;exact jV.after C q this
   cases h
  cases h
 cases h
def L5{H:aa}{d F:Nat}(J:gA M ι H.get w)(Q:tT ι H)(O:TR M ι tm a){pc:FuncId->List AV->Option AV}(V : ∀f xs y,pc f xs=some y->mu E.P f xs y)
 {tc:uE->List AV->aa->cp} (N : ∀f xs H y H',tc f xs H=some (y,H')->rz E.P f xs H y H')
 {c:Call} {X:Operand} (ho:o.op = .call c) (T:c.callee = .value X) {args:List AV} (n:c.args.toList.mapM (aC tm)=some args) {x:AV} {H':aa}
 (h:nH E pc tc H ⟨d,F,H.gen d F,0⟩ (aC tm X) args=some (x,H')):eB E.P o a w λu w'=>o7 M ι H w x H' u w':=by
 unfold nH at h;split at h
 ·rename_i fi first captured D
  obtain⟨a',b',L,hva,W⟩:=(aL O D).Zs;have j:=mU O n;have z:mh M ι (first++args++captured) (a'.toList++(c.args.map a.eval).toList++b'.toList):=(hva.append (by simpa using j)).append W;split at h;·obtain⟨U,K⟩:=N _ _ _ _ _ h;have i:=K M ι w _ J Q z;rw[Hr]at i;exact eB.Ig (E5 ho T L U w) (i.mono λe w' ⟨v,he,hend⟩=>⟨v,he,hend⟩)
  split at h
  ·rename_i xs S;simp only[bG]at h;obtain⟨y,C,h⟩:=h;injection h with h1 h2
   obtain⟨U,B⟩:=V fi xs y C;obtain⟨hS1,I⟩:=Bm (R:=bX H.get (first++args++captured)) J;have t:=L8 J S z;have i:=B (ly M ι H.get w (bX H.get (first++args++captured))) w _ (zX J.mem) t;rw[Hr]at i;refine eB.Ig (E5 ho T L U w) (i.mono λe w' ⟨v,M',he,hend⟩=>⟨v,he,?_⟩);have Z:tT ι (bV H (bX H.get (first++args++captured))):=(by intro q l hq;rw[aa.ij];exact Q q l hq);have m:=IU (r:=⟨d,F,H.gen d F,0⟩) hS1 (λk=>Q.fresh d F k) hend;rw[<-aa.cX]at m;have G:H.gen d F=(bV H (bX H.get (first++args++captured))).gen d F:=(aa.ij _ _ _ _).symm;have key:o7 (ly M ι H.get w (bX H.get (first++args++captured))) ι (bV H (bX H.get (first++args++captured))) w x H' v w':=(by subst h1;subst h2;rw[G]at m ⊢;exact m.toW Z);obtain⟨M2,Y,k1,k2,k3,k4⟩:=key;refine⟨M2,Y,k1,k2,?_,k4⟩;rw[<-aa.cX]at I;exact I.trans k3
  cases h
 ·rename_i q D;have j:=mU O n;have C:=aL O D;generalize hu:a.eval X=u at C;cases C with | yld hr hz=>
  rename_i l;obtain⟨fn,tmps,assign,body,C,p⟩:=N _ _ _ _ _ h M ι w _ l J Q j hr;refine eB.VX (l:=l.b) ?_ p;have e1:(c.args.map a.eval:Array Value)=(c.args.toList.map a.eval).toArray:=by rw[<-Kz];simp
  rw[<-e1]at C;simp[execOp,ho,resolve,T,hu,Deferred.ofValue,invoke,C]
 cases h
end
end
section
def VR.cut{M M':Mem}{ι:Map}{e:AV}{S:Value}(V:VR M ι e S) : ∀ {A:Map} {u:Value},VR M' A e u->(∀q l,ι q=some l->A q=some l)->VR M' ι e u:=by
 induction V with
 | v h=>intro A u h d;cases h with | v I=>exact .v I
 | agg W _ y=>
  intro A u h d;cases h with | agg G t=>
  refine .agg G λi c u j F=>?_;have B:=(ew.1 j).1;exact y i c _ j (kJ (by omega)) (t i c u j F) d
 | tup J W _ y=>
  intro A u h d;cases h with | tup N G t=>
  refine .tup N G λi c u j F=>?_;have B:=(ew.1 j).1;exact y i c _ j (kJ (by omega)) (t i c u j F) d
 | cC cell I j K hm he _ y=>intro A u h d;cases h with | cC cell I j K hm he t=>exact .cC cell I j K hm he t
 | bN m R I Q j T K J=>
  intro A u h d;have n:=d _ _ m;cases h with | bN b p z x C D H f=>
  rw[n]at b;cases b;exact .bN m p z x C D H f
 | dsl m R I Q j T K J=>
  intro A u h d;have n:=d _ _ m;cases h with | dsl b p z x C D H f=>
  rw[n]at b;cases b;exact .dsl m p z x C D H f
 | ptr m J=>
  intro A u h d;have n:=d _ _ m;cases h with | ptr b f=>
  rw[n]at b;cases b;exact .ptr m f
 | iptr cell hm he _ y=>intro A u h d;cases h with | iptr cell hm he t=>exact .iptr cell hm he t
 | fn Q R _ _ y L=>
  intro A u h d;cases h with | fn x p t O=>
  refine .fn x p (λi c u j F=>?_) λi c u j F=>?_;·have B:=(ew.1 j).1;exact y i c _ j (kJ (by omega)) (t i c u j F) d
  have B:=(ew.1 j).1;exact L i c _ j (kJ (by omega)) (O i c u j F) d
 | ifc _ y=>intro A u h d;cases h with | ifc t=>exact .ifc (y t d)
 | yld m J=>
  intro A u h d;have n:=d _ _ m;cases h with | yld b f=>
  rw[n]at b;cases b;exact .yld m f
 | mp m J=>
  intro A u h d;have n:=d _ _ m;cases h with | mp b f=>
  rw[n]at b;cases b;exact .mp m f
 | ch m J=>
  intro A u h d;have n:=d _ _ m;cases h with | ch b f=>
  rw[n]at b;cases b;exact .ch m f
 | Bc n=>intro A u h d;cases h with | Bc U=>exact .Bc U
section
variable{M M':Mem}{ι A:Map}{w w':World}{l:Loc}{k:aQ}
def eW.cut(n:eW M ι w l k)(c:eW M' A w' l k)(C : ∀q l,ι q=some l->A q=some l):eW M' ι w' l k:=by
 obtain⟨b,_,_,_,_,_,m⟩:=n.heap;obtain⟨arr,T,fz,t,B,v,y⟩:=c.heap;refine⟨c.esz,⟨arr,T,fz,t,B,v,λi j e x d f=>?_⟩,c.len,c.cells,c.frozen⟩;obtain⟨D,_,_,v0⟩:=m i j e x d f;obtain⟨u,z,p,v1⟩:=y i j e x d f;refine⟨u,z,p,v0.cut v1 ?_⟩;unfold aQ.map;split;·exact λ_ _ h=>h
 exact C
def I2.cut(i:I2 M ι w l k)(c:I2 M' A w' l k)(F : ∀q l,ι q=some l->A q=some l):I2 M' ι w' l k:=by
 obtain⟨I,B,d,x,h,G,H,_,_,b,_,_,_,_,_,v0,_⟩:=i;obtain⟨n,nt,ps,as,f,tm,r,p,C,e,y,z,m,u,D,v,j⟩:=c;rw[e]at b;simp only[Ah,AV.lp.injEq]at b;obtain⟨_,⟨_,_,_,_,_,rfl⟩,_⟩:=b;exact⟨n,nt,ps,as,f,tm,r,p,C,e,y,z,m,u,D,λt=>(v0 t).cut (v t) F,j⟩
def OE.cut(D:OE M ι w l k)(c:OE M' A w' l k)(K : ∀q l,ι q=some l->A q=some l):OE M' ι w' l k:=by
 obtain⟨h,d,_,_,m,_,L,v0⟩:=D;obtain⟨ents,entries,H,J,e,I,s,v⟩:=c;rw[e]at m;simp only[Ah,iQo]at m;subst m;refine⟨ents,entries,H,J,e,I,s,λi f p b j=>?_⟩;obtain⟨G,F,q1,x,C,t⟩:=v i f p b j;have z:=(ew.1 b).1;obtain⟨B,y,n,_,u,_⟩:=v0 i f _ b (kJ (by omega));rw[q1]at n;simp only[AV.tup.injEq,Ah]at n;obtain⟨_,rfl,_⟩:=n;exact⟨G,F,q1,x,u.cut C K,t⟩
def I5.cut(t:I5 M ι w l k)(c:I5 M' A w' l k)(C : ∀q l,ι q=some l->A q=some l):I5 M' ι w' l k:=by
 obtain⟨_,_,_,_,f,h,_,_,b,_,D,v0⟩:=t;obtain⟨cap,s,r,p,buf,arr,y,B,e,z,j,v⟩:=c;rw[e]at b;simp only[Ah,iQo]at b;obtain⟨_,_,rfl⟩:=b;refine⟨cap,s,r,p,buf,arr,y,B,e,z,j,λi x u d n=>?_⟩;have m:=(ew.1 d).1;exact(v0 i x _ d (kJ (by omega))).cut (v i x u d n) C
def oz.cut(d:oz M ι w l k)(c:oz M' A w' l k)(f : ∀q l,ι q=some l->A q=some l):oz M' ι w' l k:=by
 rcases d with d | d | d<;>rcases c with c | c | c
 ·exact .inl (d.cut c f)
 ·obtain⟨_,_,_,_,_,_,_,_,_,b,_⟩:=d;obtain⟨_,_,_,_,e,_⟩:=c;rw[e]at b;simp at b
 ·obtain⟨_,_,_,_,_,_,_,_,_,b,_⟩:=d;obtain⟨_,_,_,_,_,_,_,_,e,_⟩:=c;rw[e]at b;simp at b
 ·obtain⟨_,_,_,_,_,_,_,_,_,b,_⟩:=c;obtain⟨_,_,_,_,e,_⟩:=d;rw[e]at b;simp at b
 ·exact .inr (.inl (d.cut c f))
 ·obtain⟨_,_,_,_,b,_⟩:=d;obtain⟨_,_,_,_,_,_,_,_,e,_⟩:=c;rw[e]at b;simp at b
 ·obtain⟨_,_,_,_,_,_,_,_,_,b,_⟩:=c;obtain⟨_,_,_,_,_,_,_,_,e,_⟩:=d;rw[e]at b;simp at b
 ·obtain⟨_,_,_,_,b,_⟩:=c;obtain⟨_,_,_,_,_,_,_,_,e,_⟩:=d;rw[e]at b;simp at b
 exact .inr (.inr (d.cut c f))
def pz.cut(b:pz M ι w l k)(c:pz M' A w' l k)(d : ∀q l,ι q=some l->A q=some l):pz M' ι w' l k:=
 ⟨c.esz,λh=>(b.cellsOk h).cut (c.cellsOk h) d,λh=>(b.objOk h).cut (c.objOk h) d,c.frozen⟩
def SO{H H':aa}(i:gA M ι H.get w)(C:tT ι H){y:AV}{v:Value}(n:flat depth y=true)(t : ∀q k,H.get q=some k->H'.get q=some k)(h:o7 M ι H w y H' v w'):o7 M ι H w y H v w':=by
 obtain⟨p,u,m,d,b,B⟩:=h;refine⟨p,ι,DU depth y v n m,⟨d.mem,λq k j=>?_,i.inj⟩,⟨b.os,b.tape,b.output,b.size,b.chg,b.mem,λ_ _ h=>h,λq k l x D => .inr ⟨q,k,l,x,D,rfl⟩,b.new⟩,C⟩;obtain⟨l,f,z⟩:=i.live q k j;obtain⟨F,c,e⟩:=d.live q k (t q k j);have:=b.map q l f;rw[this]at c;cases c;exact⟨l,f,z.cut e b.map⟩
def Un{u v:Value}(h:QM u v=true):u=v:=by
 unfold QM at h;split at h;·simp at h;rw[h]
 ·simp at h;rw[h.1,h.2]
 ·simp at h;rw[h]
 ·simp only[aT]at h;rw[mK h.1,mK h.2]
 ·rfl
 ·rfl
 cases h
def y6{f:AV->AV->Bool}(c : ∀x y,f x y=true->x=y) : ∀(xs ys:List AV),xs.length=ys.length->((xs.zip ys).all λp=>f p.1 p.2)=true->xs=ys:=by
 intro xs;induction xs with
 | nil=>intro ys h _;exact(C4 h.symm).symm
 | cons x xs d=>
  intro ys h b;cases ys with
  | nil=>simp at h
  | cons y ys=>simp only[OO,vm,aT]at b;rw[c x y b.1,d ys (by simpa using h) b.2]
def A6{r r':Ref}(h:HM r r'=true):r=r':=by
 unfold HM at h;simp only[aT]at h;cases r;cases r';simp only[Ref.mk.injEq];exact⟨mK h.1.2,mK h.1.1.1,mK h.1.1.2,mK h.2⟩
def Xa : ∀(n:Nat)(x y:AV),Cm n x y=true->x=y:=by
 intro n;induction n with
 | zero=>intro x y h;simp[Cm]at h
 | succ n b=>
  intro x y h;unfold Cm at h;split at h;·rw[Un h]
  ·simp only[aT]at h;rw[y6 b _ _ (mK h.1) h.2]
  ·simp only[aT]at h;rw[y6 b _ _ (mK h.1) h.2]
  ·simp only[aT,iQb]at h;rw[y6 b _ _ (mK h.1.2) h.2,mK h.1.1.1,h.1.1.2]
  ·simp only[aT,iQb]at h;rw[A6 h.1.1.1,mK h.1.1.2,mK h.1.2,h.2]
  ·simp only[aT,iQb]at h;rw[A6 h.1.1.1,mK h.1.1.2,mK h.1.2,h.2]
  ·simp only[aT]at h;rw[A6 h.1.1,mK h.1.2,mK h.2]
  ·rw[A6 h]
  ·rw[A6 h]
  ·simp only[aT]at h;rw[mK h.1.1,y6 b _ _ (mK h.1.2.1) h.1.2.2,y6 b _ _ (mK h.2.1) h.2.2]
  ·simp only[aT]at h;rw[mK h.1,b _ _ h.2]
  cases h
def Qw{k k':aQ}(h:LM k k'=true):k=k':=by
 unfold LM at h;simp only[aT,iQl]at h;cases k;cases k';simp only[aQ.mk.injEq];exact⟨mK h.1.1.1.1,y6 (Xa 8) _ _ (mK h.1.2) h.2,h.1.1.1.2,h.1.1.2⟩
def get_mem : ∀(H:aa)(q:Ref)(k:aQ),H.get q=some k ->∃b,(q,b)∈H:=by
 intro H;induction H with
 | nil=>intro q k h;cases h
 | cons p H d=>
  obtain⟨r,b⟩:=p;intro q k h;simp only[aa.get]at h;split at h;·rename_i e;subst e;exact⟨b,gy ..⟩
  obtain⟨b',c⟩:=d q k h;exact⟨b',fO _ c⟩
def NK{H H':aa}(h:Ix H H'=true)(q:Ref)(k:aQ)(d:H.get q=some k):H'.get q=some k:=by
 obtain⟨b,e⟩:=get_mem H q k d;have:=gx.1 h _ e;simp only[d]at this;split at this;·cases this
 rename_i k' c;rw[c,Qw this]
def L2{b:Bool}{sm:OB}{H H':aa}{c:cp}{y:AV}(h:qQ b sm H c=some (y,H')):c=some (y,H') \/∃d,H'=H/\c=some (y,d)/\flat depth y=true /\∀q k,H.get q=some k->d.get q=some k:=by
 unfold qQ at h;split at h;·rename_i f d;obtain⟨e,h⟩:=eK.1 h;cases h;exact .inr ⟨d,rfl,rfl,(uS.1 e).1,(KF.1 (uS.1 e).2).elim NK (sm.ok _ _)⟩
 exact .inl h
end
end
section
def vg(l:List AV)(d t:Nat)(x:AV):dA (Dj l d x) t=if t=d then x else dA l t:=by
 induction l generalizing d t with
 | nil=>
  induction d generalizing t with| zero=>cases t<;>simp[Dj,dA]| succ d b=>
   cases t with
   | zero=>simp[Dj,dA]
   | succ t=>simp[Dj,dA,b]
 | cons y l b=>
  cases d with| zero=>cases t<;>simp[Dj,dA]| succ d=>
   cases t with
   | zero=>simp[Dj,dA]
   | succ t=>simp[Dj,dA,b]
def TR.put{M ι tm a}(f:TR M ι tm a){nt:Nat}(e:a.tmps.size=nt){b:Option Tmp}{x:AV}{tm':List AV}(h:cQ nt tm b x=some tm'){u:Value}(j:VR M ι x u) :
 TR M ι tm' (a.put b u)/\(a.put b u).tmps.size=nt:=by
 unfold cQ at h;split at h
 ·injection h with h
  subst h;exact⟨f,e⟩
 rename_i d;obtain⟨i,h⟩:=eK.1 h;injection h with h
 subst h;refine⟨⟨?_⟩,by simp[Act.put,e]⟩;intro t;rw[vg];simp only[Act.put,C3];by_cases c:t=d;·subst c;rw[if_pos rfl,GB (by rw[e];exact i)];exact j
 rw[if_neg c,B5 (tx c),<-C3];exact f.at_ t
def ke{M ι tm a}(q:TR M ι tm a){ops:Array Oper}{o:Oper}{b:Bool}(h:wanted ops tm o=some b):Region.wanted o (yielded ops a.tmps)=b:=by
 unfold wanted at h;unfold Region.wanted;split at h
 ·rename_i p;injection h with h
  subst h;rw[p]
 rename_i j e p;rw[p];simp only;split at h
 ·rename_i t i;have d:=q.at_ t;rw[C3]at d;split at h
  ·rename_i c m;injection h with h
   subst h;rw[m]at d;have:a.tmps[t]?=some (.bool c):=by
    cases f:a.tmps[t]? with| none=>rw[f]at d;cases d| some v=>rw[f]at d;simp only[cI]at d;cases d;rfl
   simp only[yielded,i,eJ,this];cases c<;>cases e<;>rfl
  ·rename_i u m;rw[m]at d;obtain⟨x,h⟩:=eK.1 h;injection h with h
   subst h;have n:u = #[]:=by simpa using x
   subst n;have:yielded ops a.tmps j=none:=by
    simp only[yielded,i,eJ];cases f:a.tmps[t]? with
    | none=>rfl
    | some v=>rw[f]at d;simp only[cI]at d;cases d;rfl
   rw[this];rfl
  cases h
 rename_i i;injection h with h
 subst h;simp only[yielded,i,GN];rfl
section
variable{E:Env}{M:Mem}{ι:Map}{g:cF}{w:World}{r:Ref}{a:Act}{tm:List AV}{o:Oper}
def rZ{x:Option AV}{y:AV}{b:List aQ}(h:kC x=some (y,b)):x=some y/\b=[]:=by
 simp only[kC,bG]at h;obtain⟨z,d,h⟩:=h;injection h with c e
 exact⟨by rw[d,c],e.symm⟩
def eB.same{s:Sem Value}(i:gA M ι g w)(f : ∀b,b=a.eval->execOp b o=(do pure (Next.value (<-s)))){x:AV}{c:List aQ}(h:c=[] /\∃u,s.run E.P w = .ok u w/\VR M ι x u) :
 eB E.P o a w λu w'=>jV M ι g w r x c u w':=by
 obtain⟨rfl,u,e,d⟩:=h;exact eB.of_run (by rw[f a.eval rfl];exact HK e) (jV.same i d)
def eB.made{s:Sem Value}(f : ∀b,b=a.eval->execOp b o=(do pure (Next.value (<-s)))){x:AV}{c:List aQ}(h : ∃u w',s.run E.P w = .ok u w'/\jV M ι g w r x c u w') :
 eB E.P o a w λu w'=>jV M ι g w r x c u w':=by
 obtain⟨u,w',e,d⟩:=h;exact eB.of_run (by rw[f a.eval rfl];exact HK e) d
def qW(ps:Array (Nat × Operand))(b:Operand->Value):(ps.map λ(p:Nat × Operand)=>(p.1,b p.2)).toList=ps.toList.map λp=>(p.1,b p.2):=by simp
def Lt{b:Type}{l:List b}(h:l.length=1) : ∃a,l=[a]:=List.length_eq_one_iff.1 h
def zO{c:Type}{l:List c}(h:l.length=2) : ∃a b,l=[a,b]:=by
 match l,h with
 | [a,b],_=>exact⟨a,b,rfl⟩
def eB.mono{P:Program}{Q b:Value->World->Prop}(h:eB P o a w Q)(c : ∀u w',Q u w'->b u w'):eB P o a w b:=
 λro K R e=>h ro K R λu w' d=>e u w' (c u w' d)
def eW.gJ{l:Loc}{k:aQ}(h:eW M ι w l k):eW M ι w l { k with gJ:=true} :=
 ⟨h.esz,h.heap,h.len,h.cells,λo x b=>⟨rfl,(h.frozen o x b).2⟩⟩
def pz.gJ{l:Loc}{k:aQ}(h:pz M ι w l k):pz M ι w l { k with gJ:=true} :=
 ⟨h.esz,λb=>(h.cellsOk b).gJ,λb=>(h.objOk b).same rfl rfl rfl,λo x c=>⟨rfl,(h.frozen o x c).2⟩⟩
def Ee{d:List aQ}{q:Ref}{b':aQ}(h:tN g r (d.map λk => { k with gJ:=true}) q=some b') : ∃b,tN g r d q=some b/\(b'=b\/b' = { b with gJ:=true}):=by
 unfold tN at h ⊢;simp only[pI]at h;split at h;·rename_i c;rw[if_pos c];simp only[k5,bG]at h;obtain⟨b,f,e⟩:=h;exact⟨b,f,.inr e.symm⟩
 rename_i c;rw[if_neg c];exact⟨b',h,.inl rfl⟩
def jV.Bn{x:AV}{y:List aQ}{b:Bool}{u:Value}{w':World}(h:jV M ι g w r x y u w'):jV M ι g w r x (Ab.Bn b y) u w':=by
 cases b with| false=>exact h| true=>
  obtain⟨M',A,H,p,c,J⟩:=h;refine⟨M',A,H,⟨p.mem,λq k t=>?_,λq G k k' l F n m C B D=>?_⟩,⟨c.os,c.tape,c.output,c.size,c.chg,c.mem,c.map,λq k l n m=>?_,c.new⟩,λq t z=>J q t λk i=>z k (by simpa [Ab.Bn] using i)⟩
  ·obtain⟨b,I,e⟩:=Ee t;obtain⟨l,v,f⟩:=p.live q b I;rcases e with rfl | rfl
   ·exact⟨l,v,f⟩
   exact⟨l,v,f.gJ⟩
  ·obtain⟨b1,d,_⟩:=Ee n;obtain⟨b2,j,_⟩:=Ee m;exact p.inj q G b1 b2 l F d j C B D
  obtain⟨b1,d,_⟩:=Ee n;exact c.live q b1 l d m
def Bw(P:Program)(f:FuncId)(t:TypeId):Prop:=
 ∃fn tR,P.funcs[f]?=some fn/\(fn.name == "runtime.NumGoroutine")=false/\fn.body.isNone=true/\Extern.findNext fn=none/\Extern.find fn=some (Extern.SlicesOverlaps.overlaps #[t,t] #[tR])
def yO(B:gA M ι g w)(C:TR M ι tm a)(hr:r.k=0)(hq : ∀k,ι { r with k:=k}=none){pc:FuncId->List AV->Option AV}(hpc : ∀f xs y,pc f xs=some y->mu E.P f xs y)
 {W:Bool} (hov:W=false ->∀f t,E.uI f=some t->Bw E.P f t) {x:AV} {bs:List aQ} (h:cr E pc W g tm r o=some (x,bs)):eB E.P o a w λu w'=>jV M ι g w r x bs u w':=by
 have R:ι r=none:=by have:=hq 0;rwa [show({ r with k:=0}:Ref)=r by cases r;simp_all]at this
 unfold cr at h;split at h;·rename_i y d;obtain⟨q,rfl⟩:=rZ h;exact eB.of_run (u:=a.eval y) (w':=w) (by simp[execOp,d]) (jV.same B (aL C q))
 ·rename_i y d;obtain⟨q,rfl⟩:=rZ h;exact eB.of_run (u:=a.eval y) (w':=w) (by simp[execOp,d]) (jV.same B (aL C q))
 ·rename_i c y z d;obtain⟨rfl,u,F,I⟩:=Vw (P:=E.P) (w:=w) C h;refine eB.of_run (u:=u) (w':=w) ?_ (jV.same B I);simp only[execOp,d];simp only[iQe]at F ⊢;cases V:(asBool (a.eval c)).run E.P w with
  | ok b w1=>
   rw[V]at F;simp only[iQd,iQh]at F ⊢;injection F with K L
   rw[K,L]
  | halt hh w1=>rw[V]at F;cases F
 ·rename_i e d;exact eB.made (λQ m=>by simp only[execOp,d]) (SV B hr R h)
 ·rename_i e y d;cases q:aC tm y with
  | none=>rw[q]at h;simp[F9]at h
  | some T=>rw[q]at h;exact eB.made (λQ m=>by simp only[execOp,d,m]) (Yz B hr R (aL C q) h)
 ·rename_i t ps d;cases I:gK tm ps.toList with
  | none=>rw[I]at h;simp only[nz]at h;split at h<;>first | cases h | (rename_i K L;cases L)
  | some vs=>
   rw[I]at h;obtain⟨K,L⟩:=sr (ι:=ι) C I;refine eB.same B (s:=Instr.build t (ps.map λ(p:Nat × Operand)=>(p.1,a.eval p.2))) (λQ m=>by simp only[execOp,d,m]) (SU ?_ ?_ h);·rw[qW];exact K
   rw[qW];exact L
 ·rename_i t n ps d;cases I:gK tm ps.toList with
  | none=>rw[I]at h;simp[iQ]at h
  | some vs=>
   rw[I]at h;obtain⟨K,L⟩:=sr (ι:=ι) C I;refine eB.made (s:=Instr.buildSlice t n (ps.map λ(p:Nat × Operand)=>(p.1,a.eval p.2))) (λQ m=>by simp only[execOp,d,m]) (HX B hr R h ?_ ?_);·rw[qW];exact K
   rw[qW];exact L
 ·rename_i t y d;cases q:aC tm y with
  | none=>rw[q]at h;simp[uh]at h
  | some T=>rw[q]at h;exact eB.same B (λQ m=>by simp only[execOp,d,m]) (Vz B (aL C q) h)
 ·rename_i y d;unfold MX at h;split at h
  ·rename_i r' i j q;injection h with h;injection h with K L;subst K;subst L
   have I:=aL C q;refine eB.of_run (u:=a.eval y) (w':=w) ?_ (jV.same B I);generalize hu:a.eval y=u at I;cases I;simp[execOp,d,hu]
  ·rename_i n es i j q;injection h with h;injection h with K L;subst K;subst L
   have I:=aL C q;refine eB.of_run (u:=a.eval y) (w':=w) ?_ (jV.same B I);generalize hu:a.eval y=u at I;cases I;simp[execOp,d,hu]
  ·rename_i f b c q;injection h with h;injection h with K L;subst K;subst L
   have I:=aL C q;refine eB.of_run (u:=a.eval y) (w':=w) ?_ (jV.same B I);generalize hu:a.eval y=u at I;cases I;simp[execOp,d,hu]
  cases h
 ·rename_i op t xo yo ty d;cases hx:aC tm xo with
  | none=>rw[hx]at h;simp[bP]at h
  | some x'=>
   cases q:aC tm yo with| none=>rw[hx,q]at h;simp[bP]at h| some T=>rw[hx,q]at h;exact eB.same B (λQ m=>by simp only[execOp,d,m]) (YA (aL C hx) (aL C q) h)
 ·rename_i op t y d;cases q:aC tm y with
  | none=>rw[q]at h;simp[Z9,kC]at h
  | some T=>rw[q]at h;exact eB.same B (λQ m=>by simp only[execOp,d,m]) (abr (aL C q) h)
 ·rename_i src dst y d;cases q:aC tm y with
  | none=>rw[q]at h;simp[eE]at h
  | some T=>rw[q]at h;exact eB.made (λQ m=>by simp only[execOp,d,m]) (M5 B hr R (aL C q) h)
 ·rename_i t y d;cases q:aC tm y with
  | none=>rw[q]at h;simp only[tG]at h;split at h<;>simp at h
  | some T=>rw[q]at h;exact eB.same B (λQ m=>by simp only[execOp,d,m]) (EM (aL C q) h)
 ·rename_i f first captured d
  cases K:first.toList.mapM (aC tm) with| none=>rw[K]at h;simp[wU]at h| some xs=>
   cases L:captured.toList.mapM (aC tm) with
   | none=>rw[K,L]at h;simp[wU]at h
   | some ys=>
    rw[K,L]at h;obtain⟨rfl,I⟩:=VB (mU C K) (mU C L) h;refine eB.of_run (u := .func f (first.map a.eval) (captured.map a.eval)) (w':=w) (by simp[execOp,d,Instr.makeFunc]) (jV.same B ?_);have e1 : ∀l:Array Operand,(l.toList.map a.eval).toArray=l.map a.eval:=λl=>by apply GD;simp
    rw[e1,e1]at I;exact I
 ·rename_i t l c d;cases hl:aC tm l with
  | none=>rw[hl]at h;simp only[FE,GN]at h;split at h<;>first | cases h | (rename_i K L Z;cases L)
  | some l'=>
   cases V:aC tm c with
   | none=>rw[hl,V]at h;simp only[FE,GN]at h;split at h<;>first | cases h | (rename_i K L Z;cases Z)
   | some c'=>rw[hl,V]at h;exact eB.made (λQ m=>by simp only[execOp,d,m]) (Vy B hr R (aL C hl) (aL C V) h)
 ·rename_i t d;cases h;exact eB.made (s:=Instr.makeMap t none) (λQ m=>by simp only[execOp,d,AS]) (MY B hr R t)
 ·rename_i t y z ok d;cases q:aC tm y with
  | none=>rw[q]at h;simp only[fe]at h;split at h<;>simp_all
  | some T=>
   cases X:aC tm z with| none=>rw[q,X]at h;simp only[fe,GN]at h;split at h<;>simp_all| some z'=>rw[q,X]at h;exact eB.same B (λQ m=>by simp only[execOp,d,m]) (PI B (aL C q) (aL C X) h)
 ·rename_i t y lo hi mx d;cases hwd:(E.wide o && !W) with
  | true=>
   rw[hwd]at h;simp only[iQq]at h;cases q:aC tm y with
   | none=>rw[q]at h;unfold wS at h;split at h<;>simp_all
   | some T=>
    cases K:mP tm lo with| none=>rw[K]at h;simp[wS]at h| some lo'=>
     cases L:mP tm hi with
     | none=>rw[L]at h;unfold wS at h;split at h<;>simp_all
     | some hi'=>
      cases Z:mP tm mx with
      | none=>rw[Z]at h;unfold wS at h;split at h<;>simp_all
      | some mx'=>rw[q,K,L,Z]at h;exact eB.same B (λQ m=>by simp only[execOp,d,m]) (PH B (aL C q) (vi C K) (vi C L) (vi C Z) h)
  | false=>
  rw[hwd]at h;simp only[iQs]at h;cases q:aC tm y with
  | none=>rw[q]at h;simp only[iT]at h;split at h<;>simp at h
  | some T=>
   rw[q]at h;cases K:mP tm lo with
   | none=>rw[K]at h;simp[iT]at h
   | some lo'=>
    cases L:mP tm hi with| none=>rw[K,L]at h;simp[iT]at h| some hi'=>
     cases Z:mP tm mx with
     | none=>rw[K,L,Z]at h;simp[iT]at h
     | some mx'=>rw[K,L,Z]at h;exact eB.same B (λQ m=>by simp only[execOp,d,m]) (SQ B (aL C q) (vi C K) (vi C L) (vi C Z) h)
 ·rename_i t y f d;cases q:aC tm y with
  | none=>rw[q]at h;simp only[kr]at h;split at h<;>(try split at h)<;>simp_all
  | some T=>rw[q]at h;exact eB.same B (λQ m=>by simp only[execOp,d,m]) (Jt (aL C q) h)
 ·rename_i t y f d;cases q:aC tm y with
  | none=>rw[q]at h;simp only[vL]at h;split at h<;>simp_all
  | some T=>rw[q]at h;exact eB.same B (λQ m=>by simp only[execOp,d,m]) (SS (aL C q) h)
 ·rename_i t y z d;cases q:aC tm y with
  | none=>rw[q]at h;simp only[da]at h;(repeat' split at h)<;>simp_all
  | some T=>
   cases X:aC tm z with| none=>rw[q,X]at h;simp[da]at h| some z'=>rw[q,X]at h;exact eB.same B (λQ m=>by simp only[execOp,d,m]) (Js B (aL C q) (aL C X) h)
 ·rename_i t y z d;cases q:aC tm y with
  | none=>rw[q]at h;simp only[r8]at h;split at h<;>simp_all
  | some T=>
   cases X:aC tm z with| none=>rw[q,X]at h;simp only[r8,GN]at h;(repeat' split at h)<;>simp_all| some z'=>rw[q,X]at h;exact eB.same B (λQ m=>by simp only[execOp,d,m]) (SR (aL C q) (aL C X) h)
 ·rename_i y st want ok d;cases q:aC tm y with
  | none=>rw[q]at h;simp only[tV]at h;split at h<;>simp_all
  | some T=>rw[q]at h;exact eB.same B (λQ m=>by simp only[execOp,d,m]) (CE (st:=st) (aL C q) h)
 ·rename_i y i d;cases q:aC tm y with
  | none=>rw[q]at h;simp[ui]at h
  | some T=>rw[q]at h;exact eB.same B (λQ m=>by simp only[execOp,d,m]) (M4 (aL C q) h)
 ·rename_i c d;split at h;·cases h
  rename_i args S;split at h
  ·rename_i fo V;split at h
   ·rename_i t U;unfold FG at U;split at U
    ·rename_i fi;obtain⟨fn,tR,f1,f2,f3,f4,f5⟩:=hov rfl fi t U;have G:=mU C S;obtain⟨rfl,rfl,J⟩:=Vx (P:=E.P) (tR:=tR) B G h;have H:(c.args.toList.map a.eval).toArray=c.args.map a.eval:=by apply GD;simp
     rw[H]at J;have hex:(execOp a.eval o).run E.P w = .ok (.value (.bool false)) w:=by
      have h0:=run_callFunc_extern f1 f2 f3 f4 f5 (c.args.map a.eval) w;rw[J]at h0;simp only[iQd]at h0;have e0:(#[]++c.args.map a.eval ++ #[]:Array Value)=c.args.map a.eval:=by simp
      simp[execOp,d,resolve,V,Act.eval,Deferred.ofValue,invoke,h0]
     exact eB.of_run hex (jV.same B (.v rfl))
    cases U
   obtain⟨⟨x0,bs0⟩,h0,e⟩:=bG.1 h;cases e;exact(VE B C hq hpc d V S h0).mono λu w'=>jV.Bn
  ·cases h
  rename_i b V;have G:=mU C S;have J : ∀(s:Sem Value)(us:List Value),(c.args.map a.eval).toList=us->(∀D,builtin b c.argTypes o.type D us.toArray=(do pure (Next.value (<-s)))) ->
   ∀ {u w'},s.run E.P w = .ok u w'->(execOp a.eval o).run E.P w = .ok (.value u) w':=by
   intro s us Y hb u w' hs;have e1:c.args.map a.eval=us.toArray:=by rw[<-Y]
   simp only[execOp,d,resolve,V,invoke,iQe,iQh,iQd,e1,hb,hs]
  have H:(c.args.map a.eval).toList=c.args.toList.map a.eval:=(by simp);unfold cP at h;split at h;·rename_i r';obtain⟨u,N⟩:=Lt G.1.symm;rw[N]at G;have I:=G.2 0 (.mp r') u rfl rfl;obtain⟨rfl,u',F,O⟩:=PJ (ty:=o.type) B I (O5.1 h).2;exact eB.of_run (J _ [u] (by rw[H,N]) (λD=>rfl) F) (jV.same B O)
  ·rename_i y hnm;obtain⟨u,N⟩:=Lt G.1.symm;rw[N]at G;have I:=G.2 0 y u rfl rfl;obtain⟨rfl,u',F,O⟩:=Yw (P:=E.P) (w:=w) (ty:=o.type) I h;exact eB.of_run (J _ [u] (by rw[H,N]) (λD=>rfl) F) (jV.same B O)
  ·obtain⟨hm,rfl⟩:=rZ h;obtain⟨u,us,Y,u',F,O⟩:=J8 (w:=w) G hm;exact eB.of_run (J (us.foldlM Builtin.min2 u) (u :: us) (by rw[H,Y]) (λD=>rfl) F) (jV.same B O)
  ·obtain⟨hm,rfl⟩:=rZ h;obtain⟨u,us,Y,u',F,O⟩:=J8 (w:=w) G hm;exact eB.of_run (J (us.foldlM Builtin.max2 u) (u :: us) (by rw[H,Y]) (λD=>rfl) F) (jV.same B O)
  ·rename_i y z;obtain⟨u,v,N⟩:=zO G.1.symm;rw[N]at G;obtain⟨u',w',F,O⟩:=HY (P:=E.P) (ty:=o.type) B hr R (G.2 0 y u rfl rfl) (G.2 1 z v rfl rfl) h;exact eB.of_run (J _ [u,v] (by rw[H,N]) (λD=>rfl) F) O
  ·rename_i y;obtain⟨u,N⟩:=Lt G.1.symm;rw[N]at G;have I:=G.2 0 y u rfl rfl;obtain⟨rfl,u',F,O⟩:=Yy (P:=E.P) (w:=w) (ty:=o.type) I h;exact eB.of_run (J _ [u] (by rw[H,N]) (λD=>rfl) F) (jV.same B O)
  cases h
 cases h
def QL{H:aa}(n:gA M ι H.get w)(j:tT ι H)(e:TR M ι tm a){t:TypeId}{m k y:Operand}{x:AV}{H':aa}
 (p : ∀d:Operand->Value,execOp d o=(do Instr.mapUpdate t (d m) (d k) (d y);pure Next.skip))
 (h:dQ E.P H t (aC tm m) (aC tm k) (aC tm y)=some (x,H')):eB E.P o a w λu w'=>o7 M ι H w x H' u w':=by
 cases hm:aC tm m with| none=>rw[hm]at h;simp only[dQ]at h;split at h<;>simp_all| some v=>
  cases c:aC tm k with
  | none=>rw[hm,c]at h;simp only[dQ]at h;split at h<;>simp_all
  | some k'=>
   cases f:aC tm y with
   | none=>rw[hm,c,f]at h;simp only[dQ]at h;split at h<;>simp_all
   | some q=>rw[hm,c,f]at h;obtain⟨w',i,b⟩:=Jd (P:=E.P) n j (aL e hm) (aL e c) (aL e f) h;exact eB.Gk (by simp[p,i]) b
def WO{H:aa}{d tt:Nat}(I:gA M ι H.get w)(G:tT ι H)(F:TR M ι tm a){pc:FuncId->List AV->Option AV}(V : ∀f xs y,pc f xs=some y->mu E.P f xs y)
 {tc:uE->List AV->aa->cp} (X : ∀f xs H y H',tc f xs H=some (y,H')->rz E.P f xs H y H') {x:AV} {H':aa}
 (R:RE o.op=false) (h:evalW E pc tc H tm ⟨d,tt,H.gen d tt,0⟩ o=some (x,H')):eB E.P o a w λu w'=>o7 M ι H w x H' u w':=by
 unfold evalW at h;split at h
 ·rename_i t y z i;cases S:aC tm y with
  | none=>rw[S]at h;simp[nx]at h
  | some y'=>
   cases hz:aC tm z with| none=>rw[S,hz]at h;simp only[nx]at h;(repeat' split at h)<;>simp_all| some z'=>rw[S,hz]at h;obtain⟨w',Q,j⟩:=RS (P:=E.P) I G (aL F S) (aL F hz) h;exact eB.Gk (by simp[execOp,i,Q]) j
 ·rename_i t m k y i;exact QL I G F (λρ=>by simp[execOp,i]) h
 ·rename_i t m k y i;exact QL I G F (λρ=>by simp[execOp,i]) h
 ·rename_i t m k i;cases K:aC tm m with
  | none=>rw[K]at h;simp only[jl]at h;split at h<;>simp_all
  | some m'=>
   cases hk:aC tm k with| none=>rw[K,hk]at h;simp only[jl]at h;split at h<;>simp_all| some k'=>rw[K,hk]at h;obtain⟨u,w',Q,j⟩:=KL (P:=E.P) I G (aL F K) (aL F hk) h;exact eB.of_run (by simp only[execOp,i];exact HK Q) j
 ·rename_i t m s y i;cases K:aC tm m with
  | none=>rw[K]at h;simp[fQ]at h
  | some m'=>
   cases U:aC tm s with| none=>rw[K,U]at h;simp[fQ]at h| some s'=>
    cases S:aC tm y with
    | none=>rw[K,U,S]at h;simp[fQ]at h
    | some y'=>rw[K,U,S]at h;obtain⟨w',Q,j⟩:=G5 (P:=E.P) (t:=t) I G (aL F K) (aL F U) (aL F S) h;exact eB.Gk (by simp[execOp,i,Q]) j
 ·rename_i t n ps i;cases T:gK tm ps.toList with
  | none=>rw[T]at h;simp[kU]at h
  | some vs=>rw[T]at h;obtain⟨h1,h2⟩:=sr (ι:=ι) F T;obtain⟨u,w',Q,j⟩:=G7 (P:=E.P) (qs:=ps.map λ(p:Nat × Operand)=>(p.1,a.eval p.2)) I G h (by rw[qW];exact h1) (by rw[qW];exact h2);exact eB.of_run (by simp only[execOp,i];exact HK Q) j
 ·rename_i t n i;unfold Bz at h;split at h
  ·rename_i kd m b hn hb;obtain⟨⟨h0,h1,h2⟩,h⟩:=eK.1 h;cases h;obtain⟨e,ht,hbe⟩:=ib.1 hb;have T:=aL F hn;generalize Z:a.eval n=nv at T;cases T;obtain⟨u,w',Q,j⟩:=Lf (P:=E.P) I rfl (G.fresh d tt 0) ht hbe kd m.toNat (by omega) h2;have K:((m.toNat:Nat):Int)=m:=by omega
   rw[K]at Q;exact eB.of_run (by simp only[execOp,i,Z];exact HK Q) (j.toW G)
  cases h
 ·rename_i i;rw[i]at R;cases R
 ·rename_i i;rw[i]at R;cases R
 ·rename_i c i;split at h;·cases h
  rename_i args D;split at h
  ·rename_i fo Y;rcases L2 h with h | ⟨H1,rfl,h,hfl,B⟩
   ·exact L5 I G F V X i Y D h
   exact(L5 I G F V X i Y D h).mono λu w' hw=>SO I G hfl B hw
  ·cases h
  rename_i b Y;have C:=mU F D;have L : ∀(s:Sem Value)(us:List Value),(c.args.map a.eval).toList=us->(∀q,builtin b c.argTypes o.type q us.toArray=(do pure (Next.value (<-s)))) ->
   ∀ {u w'},s.run E.P w = .ok u w'->(execOp a.eval o).run E.P w = .ok (.value u) w':=by
   intro s us hus hb u w' U;have e1:c.args.map a.eval=us.toArray:=by rw[<-hus]
   simp only[execOp,i,resolve,Y,invoke,iQe,iQh,iQd,e1,hb,U]
  have B:(c.args.map a.eval).toList=c.args.toList.map a.eval:=(by simp);split at h;·rename_i y z;obtain⟨u,v,J⟩:=zO C.1.symm;rw[J]at C;obtain⟨u',w',N,O⟩:=G8 (P:=E.P) (ty:=o.type) I G (C.2 0 y u rfl rfl) (C.2 1 z v rfl rfl) h;exact eB.of_run (L _ [u,v] (by rw[B,J]) (λq=>rfl) N) O
  ·rename_i y z;obtain⟨u,v,J⟩:=zO C.1.symm;rw[J]at C;cases W:E.wide o with
   | true=>rw[W]at h;simp only[iQq]at h;obtain⟨u',w',N,O⟩:=RT (P:=E.P) (ty:=o.type) I G (C.2 0 y u rfl rfl) (C.2 1 z v rfl rfl) h;exact eB.of_run (L _ [u,v] (by rw[B,J]) (λq=>rfl) N) O
   | false=>
   rw[W]at h;simp only[iQs]at h;obtain⟨u',w',N,O⟩:=Ul (P:=E.P) (ty:=o.type) I G (C.2 0 y u rfl rfl) (C.2 1 z v rfl rfl) h;exact eB.of_run (L _ [u,v] (by rw[B,J]) (λq=>rfl) N) O
  cases h
 cases h
structure z8 (M:Mem) (ι:Map) (st:St) (nt:Nat) (a:Act) (w:World):Prop where
 sim:gA M ι st.hp.get w
 dom:tT ι st.hp
 tr:TR M ι st.tm a
 nt:a.tmps.size=nt
def kS(M:Mem)(ι:Map)(st:St)(a:Act)(w:World)(nt:Nat)(b:St)(c:Act)(w':World):Prop:=
 (∃M' A,z8 M' A b nt c w'/\uN M ι st.hp.get w M' A b.hp.get w')/\c.defers=a.defers
def kS.refl{st nt}(h:z8 M ι st nt a w):kS M ι st a w nt st a w:=⟨⟨M,ι,h,uN.refl⟩,rfl⟩
def Oc{H H':aa}{tm:List AV}{dep:Nat}{o:Oper}{x:AV}(I:gA M ι H.get w)(G:tT ι H)(F:TR M ι tm a)(f:DZ E o=true)(h:yV E H tm ⟨dep,o.dst.getD 0,H.gen dep (o.dst.getD 0),0⟩ o=some (x,H')) :
 eB E.P o a w λu w'=>o7 M ι H w x H' u w':=by
 replace f:=(uS.1 f).2;unfold yV at h;split at h
 ·rename_i t n ps e;cases B:gK tm ps.toList with
  | none=>rw[B]at h;simp[qu]at h
  | some S=>rw[B]at h;obtain⟨N,Q⟩:=sr (ι:=ι) F B;obtain⟨u,w',K,m⟩:=O9 (P:=E.P) (qs:=ps.map λ(p:Nat × Operand)=>(p.1,a.eval p.2)) I G h (by rw[qW];exact N) (by rw[qW];exact Q);exact eB.of_run (by simp only[execOp,e];exact HK K) m
 ·rename_i c e;have J:c.callee = .builtin .append:=by
   rw[e]at f;unfold dop at f;simp only at f;split at f;·assumption
   cases f
  split at h
  ·rename_i y z i;have d:=mU F i;have j:(c.args.map a.eval).toList=c.args.toList.map a.eval:=by simp
   obtain⟨u,v,q⟩:=zO d.1.symm;rw[q]at d;obtain⟨R,w',C,D⟩:=Um (P:=E.P) (ty:=o.type) I G (d.2 0 y u rfl rfl) (d.2 1 z v rfl rfl) h;refine eB.of_run ?_ D;have L:c.args.map a.eval=[u,v].toArray:=by rw[<-q,<-j]
   have O : ∀b,builtin .append c.argTypes o.type b [u,v].toArray=(do pure (Next.value (<-Builtin.append_ c.argTypes o.type #[u,v]))):=λb=>rfl;simp only[execOp,e,resolve,J,invoke,iQe,iQh,iQd,L,O,C]
  cases h
 cases h
def E7{st i:St}{nt dep:Nat}{d:Bool}{ops:Array Oper}(b:z8 M ι st nt a w){pc:FuncId->List AV->Option AV}(z : ∀f xs y,pc f xs=some y->mu E.P f xs y)
 {tc:uE->List AV->aa->cp} (L : ∀f xs H y H',tc f xs H=some (y,H')->rz E.P f xs H y H') (F:d=false ->∀f t,E.uI f=some t->Bw E.P f t) (D:d=true\/RE o.op=false) (h:evalOp E pc tc nt dep d ops o st=some i)
 {ro:Option Nat} {K:Act->World->Prop} {Q:Exit->Act->World->Prop} (C : ∀N w',kS M ι st a w nt i N w'->K N w') :
 if Region.wanted o (yielded ops a.tmps) then o.wpIn (FW ro) 0 E.P a w K Q else K (a.put o.dst undef) w:=by
 unfold evalOp at h;split at h;·cases h
 ·rename_i I;rw[ke b.tr I];simp only[bG]at h;obtain⟨tm',c,rfl⟩:=h;obtain⟨G,J⟩:=b.tr.put b.nt c (u:=undef) (.v rfl);simp only[mJ,iQf];exact C _ _ ⟨⟨M,ι,⟨b.sim,b.dom,G,J⟩,uN.refl⟩,put_defers _ _ _⟩
 rename_i I;rw[ke b.tr I];simp only[if_true];have m : ∀ {x:AV} {H':aa} {tm':List AV},eB E.P o a w (λu w'=>o7 M ι st.hp w x H' u w')->cQ nt st.tm o.dst x=some tm'->i=⟨tm',H'⟩->o.wpIn (FW ro) 0 E.P a w K Q:=by
  intro x H' tm' p c R;subst R;refine p ro K Q λu w' ⟨M',A,G,J,h3,h4⟩=>C _ _ ?_;obtain⟨O,S⟩:=(b.tr.mono h3.mem h3.map).put b.nt c G;exact⟨⟨M',A,⟨J,h4,O,S⟩,h3⟩,put_defers _ _ _⟩
 split at h;·rename_i x T e;simp only[bG]at h;obtain⟨tm',c,rfl⟩:=h;replace e:=FP e;have:=yO (E:=E) (o:=o) b.sim b.tr rfl (λk=>b.dom.fresh dep (o.dst.getD 0) k) z F e;exact m (λro K Q C=>this ro K Q λu w' q=>C u w' (q.toW b.dom)) c rfl
 split at h;·cases h
 rename_i B;split at h
 ·rename_i x H' e;simp only[bG]at h;obtain⟨tm',c,rfl⟩:=h;have j:RE o.op=false:=by
   rcases D with rfl | j
   ·simp only[m9,dI,Bool.not_eq_false]at B;cases p:o.op<;>first | rfl | (simp[il,wOp,Bq,p]at B)
   exact j
  unfold tK at e;cases n:(d&&DZ E o) with
  | true=>rw[n]at e;exact m (Oc b.sim b.dom b.tr (uS.1 n).2 e) c rfl
  | false=>rw[n]at e;exact m (WO (E:=E) (o:=o) b.sim b.dom b.tr z L j e) c rfl
 cases h
end
end
section
section
variable{E:Env}{M:Mem}{ι:Map}{w:World}{a:Act}
def kS.trans{st c d:St}{nt:Nat}{j n:Act}{f m:World}(h:kS M ι st a w nt c j f)(u : ∀e b,z8 e b c nt j f->kS e b c j f nt d n m):kS M ι st a w nt d n m:=by
 obtain⟨⟨e,b,t,y⟩,p⟩:=h;obtain⟨⟨M2,i,v,x⟩,q⟩:=u e b t;exact⟨⟨M2,i,v,y.trans x⟩,q.trans p⟩
def LB{o:Oper}{st p:St}{nt dep:Nat}{ops:Array Oper}{i:Nat}(d:z8 M ι st nt a w){pc:FuncId->List AV->Option AV}(O : ∀f xs y,pc f xs=some y->mu E.P f xs y)
 {tc:uE->List AV->aa->cp} (X : ∀f xs H y H',tc f xs H=some (y,H')->rz E.P f xs H y H') (V : ∀f t,E.uI f=some t->Bw E.P f t) (h:evalOp E pc tc nt dep false ops o st=some p) (J:ops[i]?=some o)
 (b:Frame) (rest:List Nat) (k:List Item) (cs:List Frame) :
 ∃z w',kS M ι st a w nt p z w'/\(b.kind = .normal->Steps E.P (lone (b.atR a (.inRegion ops (i :: rest) :: k)) cs w) (lone (b.atR z (.inRegion ops rest :: k)) cs w')):=by
 have G:Region.wanted o (yielded ops a.tmps)=false->Steps E.P (lone (b.atR a (.inRegion ops (i :: rest) :: k)) cs w) (lone (b.atR (a.put o.dst undef) (.inRegion ops rest :: k)) cs w):=by
  intro B;have Z:=stepR_op_skip (P:=E.P) (b:=b) (a:=a) (k:=k) (cs:=cs) (w:=w) (ops:=ops) (i:=i) (rest:=rest) (by simp[J,B]);simp only[J,eJ]at Z;exact .one Z
 cases n:RE o.op with
 | false=>
  have q:=E7 (E:=E) (ro:=b.roundOf) (Q:=λ_ _ _=>False) d O X (λ_=>V) (.inr n) h (K:=λz w'=>kS M ι st a w nt p z w') λz w' h=>h;by_cases B:Region.wanted o (yielded ops a.tmps)=true;·rw[if_pos B]at q;obtain⟨z,w',I,C⟩:=Rc J B b q rest k cs;exact⟨z,w',I,λ_=>C⟩
  rw[if_neg B]at q;exact⟨_,_,q,λ_=>G (by simpa using B)⟩
 | true=>
  unfold evalOp at h;split at h;·cases h
  ·rename_i B;have D:=ke d.tr B;simp only[bG]at h;obtain⟨tm',j,rfl⟩:=h;obtain⟨q,I⟩:=d.tr.put d.nt j (u:=undef) (.v rfl);exact⟨_,_,⟨⟨M,ι,⟨d.sim,d.dom,q,I⟩,uN.refl⟩,put_defers _ _ _⟩,λ_=>G D⟩
  rename_i B;have D:=ke d.tr B;have L : ∀ {x:AV} {H':aa} {tm':List AV},I4 E.P o a w (λu w'=>o7 M ι st.hp w x H' u w')->cQ nt st.tm o.dst x=some tm'->p=⟨tm',H'⟩ ->
   ∃z w',kS M ι st a w nt p z w'/\(b.kind = .normal->Steps E.P (lone (b.atR a (.inRegion ops (i :: rest) :: k)) cs w) (lone (b.atR z (.inRegion ops rest :: k)) cs w')):=by
   intro x H' tm' e j he;subst he;by_cases Y:b.kind = .normal;·obtain⟨u,w',⟨M',A,q,I,C,W⟩,N⟩:=e b k cs ops i rest Y J D;obtain⟨R,S⟩:=(d.tr.mono C.mem C.map).put d.nt j q;exact⟨_,_,⟨⟨M',A,⟨I,W,R,S⟩,C⟩,put_defers _ _ _⟩,λ_ => .one N⟩
   obtain⟨u,w',⟨M',A,q,I,C,W⟩,N⟩:=e { b with kind := .normal} k cs ops i rest rfl J D;obtain⟨R,S⟩:=(d.tr.mono C.mem C.map).put d.nt j q;exact⟨_,_,⟨⟨M',A,⟨I,W,R,S⟩,C⟩,put_defers _ _ _⟩,λh=>absurd h Y⟩
  have U:cr E pc false st.hp.get st.tm ⟨dep,o.dst.getD 0,st.hp.gen dep (o.dst.getD 0),0⟩ o=none:=(by unfold cr;cases e:o.op<;>rw[e]at n<;>first | rfl | (cases n));simp only[uL,tK,yc,iQs]at h;rw[U]at h;simp only[mJ,iQf]at h;split at h
  ·rename_i x H' m;simp only[bG]at h;obtain⟨tm',j,rfl⟩:=h;unfold evalW at m;cases e:o.op<;>rw[e]at n m<;>try (cases n;done)
   ·rename_i c y;simp only at m;cases F:aC st.tm c with
    | none=>rw[F]at m;simp[G3]at m
    | some c'=>
     cases T:aC st.tm y with| none=>rw[F,T]at m;simp[G3]at m| some y'=>rw[F,T]at m;exact L (Uj d.sim d.dom e (aL d.tr F) (aL d.tr T) m) j rfl
   rename_i t c okb;simp only at m;cases F:aC st.tm c with
   | none=>rw[F]at m;simp[JM]at m
   | some c'=>rw[F]at m;exact L (Uk d.sim d.dom e (aL d.tr F) m) j rfl
  cases h
def W3{H H':aa}{tm:List AV}{dep:Nat}{o:Oper}{x:AV}(e:gA M ι H.get w)(d:tT ι H)(b:TR M ι tm a)(h:RC E false H tm ⟨dep,o.dst.getD 0,H.gen dep (o.dst.getD 0),0⟩ o=some (some (x,H'))) :
 eB E.P o a w λu w'=>o7 M ι H w x H' u w':=by
 unfold RC at h;split at h;·cases h
 rename_i c;simp only[dG]at h;exact Oc e d b (by simpa using c) h
def N5{o:Oper}{st m:St}{nt dep:Nat}{ops:Array Oper}{i:Nat}(c:z8 M ι st nt a w){pc:FuncId->List AV->Option AV}(B : ∀f xs y,pc f xs=some y->mu E.P f xs y)
 {tc:uE->List AV->aa->cp} (I : ∀f xs H y H',tc f xs H=some (y,H')->rz E.P f xs H y H') (F : ∀f t,E.uI f=some t->Bw E.P f t) (h:Ar E pc tc nt dep false ops o st=some m) (z:ops[i]?=some o)
 (b:Frame) (rest:List Nat) (k:List Item) (cs:List Frame) :
 ∃j w',kS M ι st a w nt m j w'/\(b.kind = .normal->Steps E.P (lone (b.atR a (.inRegion ops (i :: rest) :: k)) cs w) (lone (b.atR j (.inRegion ops rest :: k)) cs w')):=by
 unfold Ar at h;split at h;·exact LB c B I F h z b rest k cs
 rename_i N C;split at h;·cases h
 ·rename_i G;have e:=ke c.tr G;simp only[bG]at h;obtain⟨tm',d,rfl⟩:=h;obtain⟨n,q⟩:=c.tr.put c.nt d (u:=undef) (.v rfl);refine⟨_,_,⟨⟨M,ι,⟨c.sim,c.dom,n,q⟩,uN.refl⟩,put_defers _ _ _⟩,λ_=>?_⟩;have J:=stepR_op_skip (P:=E.P) (b:=b) (a:=a) (k:=k) (cs:=cs) (w:=w) (ops:=ops) (i:=i) (rest:=rest) (by simp[z,e]);simp only[z,eJ]at J;exact .one J
 rename_i G;have e:=ke c.tr G;split at h
 ·rename_i x H';simp only[bG]at h;obtain⟨tm',d,rfl⟩:=h;have D:=W3 c.sim c.dom c.tr C;have n:o.wpIn (FW b.roundOf) 0 E.P a w (λj w'=>kS M ι st a w nt ⟨tm',H'⟩ j w') (λ_ _ _=>False):=by
   refine D _ _ _ λu w' ⟨M',A,n,q,p,h4⟩=>?_;obtain⟨K,L⟩:=(c.tr.mono p.mem p.map).put c.nt d n;exact⟨⟨M',A,⟨q,h4,K,L⟩,p⟩,put_defers _ _ _⟩
  obtain⟨j,w',q,p⟩:=Rc z e b n rest k cs;exact⟨j,w',q,λ_=>p⟩
 cases h
def K8{pc:FuncId->List AV->Option AV}(j : ∀f xs y,pc f xs=some y->mu E.P f xs y)
 {tc:uE->List AV->aa->cp} (D : ∀f xs H y H',tc f xs H=some (y,H')->rz E.P f xs H y H') (x : ∀f t,E.uI f=some t->Bw E.P f t) {nt dep:Nat} {ops:Array Oper} {d:St} (b:Frame) (k:List Item) (cs:List Frame) :
 ∀(l c:List Oper)(st:St)(M:Mem)(ι:Map)(a:Act)(w:World),ops.toList=c++l->nW E pc tc nt dep false ops l st=some d->z8 M ι st nt a w ->
  ∃G w',kS M ι st a w nt d G w'/\(b.kind = .normal->Steps E.P (lone (b.atR a (.inRegion ops (List.range' c.length l.length) :: k)) cs w) (lone (b.atR G (.inRegion ops [] :: k)) cs w')):=by
 intro l;induction l with
 | nil=>intro c st M ι a w _ h p;simp only[nW,dG]at h;subst h;exact⟨a,w,kS.refl p,λ_=>Steps.refl _ _⟩
 | cons o l V=>
  intro c st M ι a w I h p;simp only[nW]at h;split at h
  ·rename_i n T;have L:ops[c.length]?=some o:=by
    rw[<-Gz,I];simp
   obtain⟨U,K,e,z⟩:=N5 p j D x T L b (List.range' (c.length+1) l.length) k cs;obtain⟨⟨O,m,i,q⟩,N⟩:=e;obtain⟨S,Q,⟨⟨M2,C,v,B⟩,R⟩,u⟩:=V (c++[o]) n O m U K (by simp[I]) h i;refine⟨S,Q,⟨⟨M2,C,v,q.trans B⟩,R.trans N⟩,λF=>?_⟩;have J:=u F;simp only[mI,qO,CZ,uR]at J;rw[qO,List.range'_succ];exact(z F).trans J
  cases h
def Lc{pc:FuncId->List AV->Option AV}(e : ∀f xs y,pc f xs=some y->mu E.P f xs y)
 {tc:uE->List AV->aa->cp} (j : ∀f xs H y H',tc f xs H=some (y,H')->rz E.P f xs H y H') (i : ∀f t,E.uI f=some t->Bw E.P f t) {nt dep id:Nat} {ops:Array Oper} {st c:St} (b:Frame) (k:List Item) (cs:List Frame)
 (h:nW E pc tc nt dep false ops ops.toList st=some c) (n:z8 M ι st nt a w) :
 ∃d w',kS M ι st a w nt c d w'/\(b.kind = .normal->Steps E.P (lone (b.atR a (.code (.region id ops false) :: k)) cs w) (lone (b.atR d k) cs w')):=by
 obtain⟨d,w',p,q⟩:=K8 e j i b k cs ops.toList [] st M ι a w rfl h n;refine⟨d,w',p,λm=>iQn (.one ?_) (iQn (q m) (.one stepR_region_end))⟩;have:=stepR_region (P:=E.P) (b:=b) (a:=a) (k:=k) (cs:=cs) (w:=w) (id:=id) (ops:=ops);simpa [OV] using this
structure Env.Ok (E:Env) (ok:Array Oper->Bool):Prop where
 fns : ∀f,E.allowed f=true ->∃fn,E.P.funcs[f]?=some fn/\(fn.name == "runtime.NumGoroutine")=false /\∀c,fn.body=some c->codeOk ok c=true
 specs : ∀f args y,E.spec f args=some y->mu E.P f args y
 same:E.ok=ok
 overs : ∀f t,E.uI f=some t->Bw E.P f t
 thrs : ∀f args H y H',E.thrSpec f args H=some (y,H')->rz E.P (.fn f) args H y H'
 draws : ∀(ops:Array Oper),ok ops=true ->∀ {pc:FuncId->List AV->Option AV},(∀f xs y,pc f xs=some y->mu E.P f xs y) ->
  ∀ {tc:uE->List AV->aa->cp},(∀f xs H y H',tc f xs H=some (y,H')->rz E.P f xs H y H') ->∀(nt dep id:Nat)(st st':St)(M:Mem)(ι:Map)(a:Act)(w:World)(ro:Option Nat)(Q:Exit->Act->World->Prop),
  nW E pc tc nt dep true ops ops.toList st=some st'->tX E ops st'=true->z8 M ι st nt a w->(∀a' w',kS M ι st a w nt st' a' w'->Q .normal a' w')->(Code.region id ops true).wpIn (FW ro) 0 E.P Q a w
def Kl{ok:Array Oper->Bool}{id:Nat} : ∀ {k k':List Item},exitTo id k=some k'->(∀i∈k,oY ok i=true) ->∀i∈k',oY ok i=true:=by
 intro k;induction k with
 | nil=>intro k' h;simp[exitTo]at h
 | cons x k c=>
  intro k' h d;have b : ∀i∈k,oY ok i=true:=λi f=>d i (fO _ f);cases x with
  | inBlock e=>
   simp only[exitTo]at h;split at h;·injection h with h;subst h;exact b
   exact c h b
  | _=>exact c (by simpa [exitTo] using h) b
def aa5{P:Program}{ro:Option Nat}{m b:Machine}(h:StepsIn (Machine.fenced P (FW ro)) P m b):Steps P m b:=iQz h
def Mq{P:Program}{c:Code}{a:Act}{w:World}{R:Act->World->Prop}(b:Frame)(h:c.wpIn (FW b.roundOf) 0 P (λe a w=>e = .normal/\R a w) a w)(k:List Item)(cs:List Frame) :
 ∃f w',R f w'/\Steps P (lone (b.atR a (.code c :: k)) cs w) (lone (b.atR f k) cs w'):=by
 obtain⟨e,f,w',⟨he,i⟩,d⟩:=h b k cs rfl trivial (λ_ h=>by simp[FW,Fence.wide]at h);subst he;exact⟨f,w',i,aa5 d⟩
def Wm{H:aa}{r:Ref}{n:Nat}{b:AV}(h:zM H r=some (n,b)) : ∃st a f,H.get r=some ⟨0,[.v (.int .i64 st),b],a,f⟩/\st.toNat=n:=by
 unfold zM at h;split at h;·rename_i st c a f d;cases h;exact⟨st,a,f,d,rfl⟩
 cases h
structure Xs (r r':Loop):Prop where
 tmps:r'.tmps=r.tmps
 params:r'.params=r.params
 assign:r'.assign=r.assign
 body:r'.body=r.body
def BN{H:aa}{r:Ref}{l:Loc}{n:Nat}{u:AV}(D:gA M ι H.get w)(hD:tT ι H)(Y:ι r=some l)(ha:zM H r=some (n,u)) :
 ∃nt ps assign body tm y,u = .lp 0 nt ps assign body tm/\w.heap[l.b]?=some (.loop y)/\y.params=ps.toArray/\y.assign=assign/\y.body=body/\y.tmps.size=nt/\(∀t,VR M ι (dA tm t) (y.tmps.getD t undef))/\Dl n y /\
  (∀G c,Xs y c->Dl G c->gA M ι (H.put r (some (k7 G u))).get (bO w l.b (.loop c))/\uN M ι H.get w M ι (H.put r (some (k7 G u))).get (bO w l.b (.loop c))/\tT ι (H.put r (some (k7 G u)))) /\
  ∀c,gA M ι (H.put r none).get (bO w l.b (.loop c))/\uN M ι H.get w M ι (H.put r none).get (bO w l.b (.loop c))/\tT ι (H.put r none):=by
 obtain⟨st,a,f,J,hst⟩:=Wm ha;obtain⟨l',R,hb⟩:=D.live r _ J;rw[Y]at R;cases R;rcases hb.objOk rfl with ⟨n0,nt,ps,as,bd,tm,y,W,X,C,T,V,h6,h7,h8,h9,h10⟩ | ⟨_,_,_,_,C,_⟩ | ⟨_,_,_,_,_,_,_,_,C,_⟩
 case inr.inl=>simp at C
 case inr.inr=>simp at C
 simp only[Ah,AV.v.injEq,Value.int.injEq,iQo,iQv]at C;obtain⟨e1,e2⟩:=C;subst e2;have hn:n0=n:=by rw[<-hst,e1];simp
 subst hn;have hlt:l.b<w.heap.size:=(iO.1 T).1;have hM : ∀o x,M l.b o=some x->False:=by
  intro o x Z;have:=D.mem _ _ _ Z;simp[World.cell?,T]at this
 have hlz:l.esz=0:=hb.esz;have i : ∀c b',∀q k,(H.put r b').get q=some k->q≠r ->∃j,ι q=some j/\pz M ι (bO w l.b (.loop c)) j k:=by
  intro c b' q k d z;rw[aa.get_put,if_neg z]at d;obtain⟨j,S,K⟩:=D.live q k d;have hnb:l.b≠j.b:=λe=>z (D.inj q r k _ j l d J S Y e.symm);exact⟨j,S,K.aX (λ_ _ _ h=>h) (λ_ _ h=>h) (eO hnb) K.frozen⟩
 have B : ∀c,∀b o x,M b o=some x->(bO w l.b (.loop c)).cell? ⟨b,o,none⟩=some x:=by
  intro c b o x Z;have z:l.b≠b:=λe=>hM o x (e ▸ Z);rw[iQi (w:=w) (eO z)];exact D.mem b o x Z
 have m : ∀(b':Option aQ) q k,(H.put r b').get q=some k ->∃O,H.get q=some O:=by
  intro b' q k d;rw[aa.get_put]at d;split at d;·rename_i e;exact⟨_,e ▸ J⟩
  exact⟨k,d⟩
 have L : ∀(b':Option aQ) q F k k' j U,(H.put r b').get q=some k->(H.put r b').get F=some k'->ι q=some j->ι F=some U->j.b=U.b->q=F:=by
  intro b' q F k k' j U W X C T V;obtain⟨O,g1⟩:=m b' q k W;obtain⟨k1,g2⟩:=m b' F k' X;exact D.inj q F O k1 j U g1 g2 C T V
 have fwd : ∀(b':Option aQ) c,uN M ι H.get w M ι (H.put r b').get (bO w l.b (.loop c)):=by
  intro b' c;refine⟨rfl,rfl,rfl,by simp[bO],λb _ hno=>eO (hno r _ l J Y),λ_ _ _ h=>h,λ_ _ h=>h,λq k j W X=>?_,λ_ _ _ h => .inl h⟩;obtain⟨O,g1⟩:=m b' q k W;exact .inr ⟨q,O,j,g1,X,rfl⟩
 have Q : ∀b':Option aQ,tT ι (H.put r b'):=by
  intro b' q lq d;rw[aa.jJ _ _ _ (by rw[J];rfl)];exact hD q lq d
 refine⟨nt,ps,as,bd,tm,y,rfl,T,V,h6,h7,h8,h9,h10,λG c N I=>⟨⟨B c,λq k d=>?_,L _⟩,fwd _ c,Q _⟩,λc=>⟨⟨B c,λq k d=>?_,L _⟩,fwd _ c,Q _⟩⟩
 ·by_cases p:q=r;·subst p;rw[aa.get_put,if_pos rfl]at d;cases d;refine⟨l,Y,oz.TG (.inl ⟨G,nt,ps,as,bd,tm,c,rfl,rfl,rfl,gE hlt,by rw[N.params];exact V,by rw[N.assign];exact h6,by rw[N.body];exact h7,by rw[N.tmps];exact h8,by rw[N.tmps];exact h9,I⟩) hlz hM⟩
  exact i c _ q k d p
 by_cases p:q=r;·rw[aa.get_put,if_pos p]at d;cases d
 exact i c _ q k d p
def Wn{H:aa}{d nt:Nat}{tm:List AV}{a:Act}{ps:Array Tmp}{assign body:Code}{fn:FuncId}(B:gA M ι H.get w)(Q:tT ι H)(U:TR M ι tm a)(V:a.tmps.size=nt){p:World}
 (G:p=(w.alloc (.deferred (some []))).alloc (.loop { state := .ready,pending:=none,fn,tmps:=a.tmps,params:=ps,assign,body,defers:=w.heap.size})) :
 let r:Ref:=⟨d,nt,H.gen d nt,0⟩
 let c:=k6 ι r ⟨w.heap.size+1,0,0⟩
 gA M c (aa.get ((r,some (k7 0 (.lp 0 nt ps.toList assign body tm))) :: H)) p/\uN M ι H.get w M c (aa.get ((r,some (k7 0 (.lp 0 nt ps.toList assign body tm))) :: H)) p /\
  tT c ((r,some (k7 0 (.lp 0 nt ps.toList assign body tm))) :: H)/\p.heap[w.heap.size]?=some (.deferred (some [])):=by
 intro r c;have hq:ι r=none:=Q.fresh d nt 0;have n:=Gf (l:=⟨w.heap.size+1,0,0⟩) hq;have f:p.heap=(w.heap.push (.deferred (some []))).push (.loop { state := .ready,pending:=none,fn,tmps:=a.tmps,params:=ps,assign,body,defers:=w.heap.size}):=by rw[G];rfl
 have m : ∀b,b<w.heap.size->p.heap[b]?=w.heap[b]?:=by
  intro b N;rw[f,Ft (by simp;omega),<-kJ,Ft N,<-kJ]
 have I:p.heap[w.heap.size]?=some (.deferred (some [])):=by rw[f,Ft (by simp),<-kJ];simp
 have J:p.heap[w.heap.size+1]?=some (.loop { state := .ready,pending:=none,fn,tmps:=a.tmps,params:=ps,assign,body,defers:=w.heap.size}):=by rw[f,Array.getElem?_push];simp
 have u : ∀b o x,M b o=some x->b<w.heap.size:=λb o x h=>iQm w ⟨b,o,none⟩ (B.mem b o x h);have j : ∀q,aa.get ((r,some (k7 0 (.lp 0 nt ps.toList assign body tm))) :: H) q=if r=q then some (k7 0 (.lp 0 nt ps.toList assign body tm)) else H.get q:=λq=>rfl
 refine⟨⟨λb o x h=>?_,λq k h=>?_,λq X k k' i R C y Y h4 W=>?_⟩,⟨by rw[G];rfl,by rw[G];rfl,by rw[G];rfl,by rw[f];simp;omega,λb N _=>m b N,λ_ _ _ h=>h,n,λq k i C y=>?_,λ_ _ _ h => .inl h⟩,λq i h=>?_,I⟩;·rw[iQi (w:=w) (m b (u b o x h))];exact B.mem b o x h
 ·rw[j]at h;split at h;·rename_i e;subst e;cases h;refine⟨⟨w.heap.size+1,0,0⟩,by simp[c,k6],oz.TG (.inl ⟨0,nt,ps.toList,assign,body,tm,_,rfl,rfl,rfl,J,by simp,rfl,rfl,V,λt=>(U.at_ t).mono (λ_ _ _ h=>h) c n,⟨rfl,rfl⟩⟩) rfl ?_⟩;intro o x Z;have:=u _ _ _ Z;simp only at this;omega
  obtain⟨i,L,v⟩:=B.live q k h;exact⟨i,n q i L,v.aX (λ_ _ _ h=>h) n (m _ v.lt) v.frozen⟩
 ·have one : ∀ {q:Ref} {k i},aa.get ((r,some (k7 0 (.lp 0 nt ps.toList assign body tm))) :: H) q=some k->c q=some i->(q=r/\i.b=w.heap.size+1)\/(q≠r/\H.get q=some k/\ι q=some i/\i.b<w.heap.size):=by
   intro q k i h z;rw[j]at h;split at h;·rename_i e;subst e;simp only[c,k6,if_true]at z;cases z;exact .inl ⟨rfl,rfl⟩
   rename_i e;simp only[c,k6]at z;rw[if_neg (tx e)]at z;obtain⟨R,F,K⟩:=B.live q k h;rw[z]at F;cases F;exact .inr ⟨tx e,h,z,K.lt⟩
  rcases one C Y with ⟨T,S⟩ | ⟨T,S,e3,e4⟩<;>rcases one y h4 with ⟨f1,f2⟩ | ⟨f1,f2,f3,f4⟩
  ·rw[T,f1]
  ·omega
  ·omega
  exact B.inj q X k k' i R S f2 e3 f3 W
 ·rw[j]at C;simp only[c,k6]at y;split at C;·rename_i e;rw[if_pos e.symm]at y;cases y;exact .inl (Em _)
  rename_i e;rw[if_neg (tx e)]at y;exact .inr ⟨q,k,i,C,y,rfl⟩
 simp only[c,k6]at h;simp only[aa.gen];by_cases D:q=r;·subst D;rw[if_pos ⟨rfl,rfl⟩];exact rS _
 rw[if_neg D]at h;have:=Q q i h;split;·rename_i O;rw[<-O.1,<-O.2]at this;exact Cz this
 exact this
def R0 : ∀(args:List AV)(t:Nat),dA args t=(args[t]?).getD AV.undef:=by
 intro args;induction args with
 | nil=>intro t;simp[dA]
 | cons x l b=>
  intro t;cases t with
  | zero=>simp[dA]
  | succ t=>simp[dA,b]
def Yn(tmps:Array Value):ResultVar->Sem Value
 | .tmp t=>pure (tmps.getD t undef)
 | .cell b t=>asAddr (tmps.getD b undef) >>= λx=>loadVar t x
def PB(fn:Func)(tmps:Array Value):results fn tmps=fn.results.mapM (Yn tmps) >>= λb=>pure (if h:b.size=1 then b[0] else .tuple b):=by
 unfold results;congr 1
def PA{fn:Func}{st:St}{nt:Nat}(H:z8 M ι st nt a w){x:AV}(h:yG E.P fn st=some x) : ∃v,(results fn a.tmps).run E.P w = .ok v w/\VR M ι x v:=by
 have one : ∀(G:ResultVar)(y:AV),mc E.P st G=some y ->∃v,(Yn a.tmps G).run E.P w = .ok v w/\VR M ι y v:=by
  intro G y q;cases G with
  | tmp t=>simp only[mc,dG]at q;subst q;exact⟨_,rfl,H.tr.at_ t⟩
  | cell b t=>
   simp only[mc]at q;split at q
   ·rename_i r i j g n R Q N;split at q;·rename_i k K;have F:=H.tr.at_ b;rw[R]at F;obtain⟨v,p,m⟩:=Rh Q N H.sim F K q;refine⟨v,?_,m⟩;simp only[Yn];generalize a.tmps.getD b undef=u at F p ⊢;cases F;simpa [asAddr,Instr.loadAt,Instr.sureAddr] using p
    cases q
   cases q
 have C : ∀(rs:List ResultVar)(ys:List AV),rs.mapM (mc E.P st)=some ys ->∃f,(rs.mapM (Yn a.tmps)).run E.P w = .ok f w/\mh M ι ys f:=by
  intro rs;induction rs with
  | nil=>intro ys h;simp at h;subst h;exact⟨[],rfl,mh.nil⟩
  | cons r rs U=>intro ys h;simp only[mH,rR,s7,ib]at h;obtain⟨y,q,I,d,h⟩:=h;simp at h;subst h;obtain⟨v,p,m⟩:=one r y q;obtain⟨f,S,T⟩:=U I d;refine⟨v :: f,?_,mh.cons m T⟩;rw[mH];simp only[iQe,p,iQd,S,iQh]
 unfold yG at h;have z : ∀ys,fn.results.toList.mapM (mc E.P st)=some ys ->∃f:List Value,(results fn a.tmps).run E.P w = .ok (if h:f.toArray.size=1 then f.toArray[0] else .tuple f.toArray) w/\mh M ι ys f:=by
  intro ys d;obtain⟨f,p,m⟩:=C _ ys d;refine⟨f,?_,m⟩;rw[PB];simp only[Array.mapM_eq_mapM_toList,iQe,Sem.run_map,p,iQd,iQh]
 split at h
 ·rename_i d;injection h with h
  subst h;obtain⟨f,p,m⟩:=z _ d;have:f=[]:=C4 (by rw[<-m.1];rfl);subst this;exact⟨_,p,.v rfl⟩
 ·rename_i y d;injection h with h
  subst h;obtain⟨f,p,m⟩:=z _ d;obtain⟨v,rfl⟩:=Lt m.1.symm;exact⟨v,by simpa using p,m.2 0 y v rfl rfl⟩
 ·rename_i ys B D d;injection h with h
  subst h;obtain⟨f,p,m⟩:=z _ d;have L:f.length≠1:=by
   intro h;rw[<-m.1]at h;obtain⟨y,q⟩:=Lt h;exact D y q
  refine⟨.tuple f.toArray,?_,.tup ?_ (by simpa using m.1) λi c u J O=>m.2 i c u J (by simpa using O)⟩;·rw[p,dif_neg (by simpa using L)]
  intro e;exact B e
 cases h
def marks(ds:List Nat):List Deferred:=ds.map λD => { target := .collected D,args := #[]}
def sT(w w':World)(ds:List Nat):Prop:=ds.Nodup /\∀D∈ds,w.heap.size<=D/\w'.heap[D]?=some (.deferred (some []))
def Ij{M:Mem}{ι:Map}{g:cF}{w:World}(n:gA M ι g w){D:Nat}{x:Option (List Deferred)}(h:w.heap[D]?=some (.deferred x)) : ∀r k l,g r=some k->ι r=some l->l.b≠D:=by
 intro r k l j m e;obtain⟨p,d,i⟩:=n.live r k j;rw[m]at d;cases d;rcases Ex k.esz with f | f
 ·rcases(i.objOk f).obj with ⟨_,c⟩ | ⟨_,_,c⟩ | ⟨_,_,_,_,_,_,c⟩
  ·rw[e,h]at c;cases c
  ·rw[e,h]at c;cases c
  rw[e,h]at c;cases c
 obtain⟨_,_,_,c,_⟩:=(i.cellsOk f).heap;rw[e,h]at c;cases c
def sT.fwd{w b d:World}{ds:List Nat}{M1 ι1 g1 M2 ι2 g2}(h:sT w b ds)(i:gA M1 ι1 g1 b)(f:uN M1 ι1 g1 b M2 ι2 g2 d):sT w d ds:=
 ⟨h.1,λD e=>⟨(h.2 D e).1,by
  have c:=(h.2 D e).2;rw[f.chg D (iO.1 c).1 (Ij i c)];exact c⟩⟩
def sT.append{w j i:World}{ds c:List Nat}(m:w.heap.size<=j.heap.size)(h:sT w i ds)(q : ∀D∈ds,D<j.heap.size)(f:sT j i c):sT w i (c++ds):=by
 refine⟨Fl.2 ⟨f.1,h.1,λa p b n e=>?_⟩,λD t=>?_⟩;·have:=(f.2 a p).1;have:=q b n;omega
 rcases iN.1 t with d | d
 ·exact⟨xv m (f.2 D d).1,(f.2 D d).2⟩
 exact h.2 D d
def Gd(P:Program)(rd:Option Ref)(M:Mem)(ι:Map)(st:St)(a:Act)(w:World)(nt:Nat)(d:St)(b:Frame)(cs:List Frame)(m:Machine):Prop:=match rd with
 | none=>b.roundOf=none->b.kind = .normal ->∃h w' e ds,(∃M' A,z8 M' A d nt h w'/\uN M ι st.hp.get w M' A d.hp.get w')/\h.defers=marks ds++a.defers/\sT w w' ds /\
  Steps P m (lone { b.atR h e with mode := .returning} cs w')
 | some r =>∀l c f,ι r=some l->b.roundOf=some l.b->b.kind = .normal->cs=c :: f ->∃n i w',zM d.hp r=some (n,i)/\n≠1 /\
  (∃M' A,gA M' A d.hp.get w'/\uN M ι st.hp.get w M' A d.hp.get w'/\tT A d.hp)/\Steps P m (lone (c.finish (.bool (n == 0))) f w')
def Gd.of_steps{P:Program}{rd:Option Ref}{M x:Mem}{ι d:Map}{st e j:St}{a K:Act}{w t:World}{nt:Nat}{b:Frame}{cs:List Frame}{m J:Machine}{ds:List Nat}
 (H:b.roundOf=none\/rd≠none->b.kind = .normal->Steps P m J) (F:gA x d e.hp.get t) (q:uN M ι st.hp.get w x d e.hp.get t) (U:K.defers=marks ds++a.defers) (I:sT w t ds) (h:Gd P rd x d e K t nt j b cs J):Gd P rd M ι st a w nt j b cs m:=by
 unfold Gd at h ⊢;cases rd with
 | none=>intro u i;obtain⟨V,w',todo,v,⟨M',A,L,p⟩,B,y,f⟩:=h u i;refine⟨V,w',todo,v++ds,⟨M',A,L,q.trans p⟩,?_,(I.fwd F p).append q.size (λD N=>(iO.1 (I.2 D N).2).1) y,(H (.inl u) i).trans f⟩;rw[B,U];simp[marks]
 | some r=>intro l c C T u G z;obtain⟨n,inf,w',Q,S,⟨M',A,R,W,O⟩,f⟩:=h l c C (q.map r l T) u G z;exact⟨n,inf,w',Q,S,⟨M',A,R,q.trans W,O⟩,(H (.inr (by simp)) G).trans f⟩
def ur{w w':World}:sT w w' []:=⟨List.nodup_nil,λD h=>by cases h⟩
def OC(E:Env)(ok:Array Oper->Bool)(n:Nat):Prop:=
 ∀(rd:Option Ref)(nt dep:Nat)(c:List Item)(st d:St),bZ E n rd nt dep c st=some d->(∀i∈c,oY ok i=true) ->∀(M:Mem)(ι:Map)(a:Act)(w:World),z8 M ι st nt a w ->
  ∀(b:Frame)(cs:List Frame),Gd E.P rd M ι st a w nt d b cs (lone (b.atR a c) cs w)
def Ny{P:Program}{fr:Frame}{cs:List Frame} : ∀(ds:List Nat)(w:World),fr.mode = .returning->ds.Nodup->(∀D∈ds,w.heap[D]?=some (.deferred (some []))) ->
 ∃w',Steps P (lone { fr with defers:=marks ds} cs w) (lone { fr with defers:=[]} cs w')/\w'.os=w.os/\w'.tape=w.tape/\w'.output=w.output/\w'.heap.size=w.heap.size /\∀b,b ∉ ds->w'.heap[b]?=w.heap[b]?:=by
 intro ds;induction ds with
 | nil=>intro w _ _ _;exact⟨w,Steps.refl _ _,rfl,rfl,rfl,rfl,λ_ _=>rfl⟩
 | cons D ds B=>
  intro w n f j;have t:=run_takeDeferred (P:=P) (j D (gy ..));have c:=step_collected (P:=P) (fr := { fr with defers:=marks (D :: ds)}) (cs:=cs) (w:=w) (d := { target := .collected D,args := #[]}) (r:=D) (ds:=marks ds) (by simp[n]) rfl rfl t;obtain⟨w',y,v,x,p,u,z⟩:=B (w.putObj D (.deferred none)) n (yd.1 f).2 (λq i=>by
   rw[iQG (by intro e;subst e;exact(yd.1 f).1 i)];exact j q (fO _ i))
  refine⟨w',iQn (.one c) (by simpa using y),v,x,p,by rw[u];simp,λb m=>?_⟩;rw[z b (λh=>m (fO _ h)),iQG (by intro e;subst e;exact m (gy ..))]
def gA.other{M:Mem}{ι:Map}{g:cF}{w w':World}(e:gA M ι g w){ds:List Nat}(d : ∀D∈ds,w.heap[D]?=some (.deferred (some [])))(h : ∀b,b ∉ ds->w'.heap[b]?=w.heap[b]?):gA M ι g w':=by
 refine⟨λb o x m=>?_,λr k f=>?_,e.inj⟩;·have i:=e.mem b o x m;have c:b ∉ ds:=(by intro c;have:=d b c;simp[World.cell?,this]at i);rw[iQi (w:=w) (h b c)];exact i
 obtain⟨l,j,c⟩:=e.live r k f;exact⟨l,j,c.aX (λ_ _ _ h=>h) (λ_ _ h=>h) (h l.b λn=>Ij e (d _ n) r k l f j rfl) c.frozen⟩
def Kp{ok:Array Oper->Bool}(hE:E.Ok ok){n:Nat}(hn:OC E ok n){dep:Nat}{f:FuncId}{args:List AV}{H H':aa}{x:AV}(h:vZ E (bZ E n) dep f args H=some (x,H')):rz E.P (.fn f) args H x H':=by
 unfold vZ at h;obtain⟨N,h⟩:=eK.1 h;obtain⟨fn,p,y,z⟩:=hE.fns f N;rw[p]at h;simp only at h;split at h
 ·rename_i c J;obtain⟨hlen,h⟩:=eK.1 h;split at h
  ·rename_i st T;simp only[bG]at h;obtain⟨x',Q,h⟩:=h;injection h with h1 G
   subst h1;subst G;refine⟨⟨fn,p,y,by rw[J];rfl⟩,?_⟩;intro M ι w us hS u W cs;have hul:=W.1;have hO:z8 M ι ⟨args,H⟩ fn.ntmps { tmps:=us.toArray++Array.replicate (fn.ntmps - us.toArray.size) undef,defers:=[]} w:=by
    refine⟨hS,u,⟨?_⟩,by simp;omega⟩;intro t;rw[R0,C3];rcases eC t args.length with I | I
    ·rw[dy I,O4 (by simp;omega),cI];have X:us[t]?=some (us[t]'(by omega)):=dy _;simp only[OY,X,cI];exact W.2 t _ _ (dy I) X
    rw[wJ I,Array.getElem?_append_right (by simp;omega)];have : ∀k:Nat,((Array.replicate (fn.ntmps - us.toArray.size) undef)[k]?).getD undef=undef:=(by intro k;rw[O1];split<;>rfl);rw[this];exact .v rfl
   let b:Frame := { (default:Frame)with fn:=f,kind := .normal}
   have j:Frame.enter E.P f us.toArray .normal=b.atR { tmps:=us.toArray++Array.replicate (fn.ntmps - us.toArray.size) undef,defers:=[]} [.code c]:=(by simp[Frame.enter,Frame.atR,p,J,b];rfl);obtain⟨F,w',todo,ds,⟨M',A,e,m⟩,C,q,d⟩:=hn none fn.ntmps dep [.code c] ⟨args,H⟩ st T (by intro i Z;simp at Z;subst Z;exact z c J) M ι _ w hO b cs rfl rfl;rw[<-j]at d;simp only[rQ]at C;obtain⟨K,G,h3,h4,h5,h6,Y⟩:=Ny (P:=E.P) (fr := { b.atR F todo with mode := .returning}) (cs:=cs) ds w' rfl q.1 (λD u=>(q.2 D u).2);have S : { { b.atR F todo with mode := .returning} with defers:=marks ds} = { b.atR F todo with mode := .returning}:=by rw[<-show F.defers=marks ds from C];rfl
   rw[S]at G;have B:=e.sim.other (λD u=>(q.2 D u).2) Y;have V:uN M ι H.get w M' A st.hp.get K:=(by refine⟨h3.trans m.os,h4.trans m.tape,h5.trans m.output,by rw[h6];exact m.size,λL O U=>?_,m.mem,m.map,m.live,m.new⟩;rw[Y L λu=>absurd (q.2 L u).1 (by omega)];exact m.chg L O U);obtain⟨v,hr,R⟩:=PA (w:=K) ⟨B,e.dom,e.tr,e.nt⟩ Q;exact⟨.returned v,K, { { b.atR F todo with mode := .returning} with defers:=[]},⟨v,rfl,M',A,R,B,V,e.dom⟩,iQn d G,rfl,rfl,rfl,rfl,fn,p,hr⟩
  cases h
 cases h
end
end
section
def FK{g:cF}(r:Ref) : ∀(n m:Nat)(x y:AV)(u:List aQ),view g n x=some y->aj r m y u=(y,u):=by
 intro n;induction n with
 | zero=>intro m x y u h;simp[view]at h
 | succ n D=>
  intro m x y u h;cases m with
  | zero=>rfl
  | succ m=>
   have q : ∀(cs ys d:List AV),cs.mapM (view g n)=some ys->ys.foldl (λ(p:List AV × List aQ) c=>(p.1++[(aj r m c p.2).1],(aj r m c p.2).2)) (d,u)=(d++ys,u):=by
    intro cs;induction cs with
    | nil=>intro ys d h;simp at h;subst h;simp
    | cons c cs B=>intro ys d h;simp only[mH,rR,s7,ib]at h;obtain⟨y,z,C,e,h⟩:=h;simp at h;subst h;rw[tZ,D m c y u z,B C (d++[y]) e];simp
   cases x with
   | agg cs=>simp only[view,bG]at h;obtain⟨ys,e,rfl⟩:=h;have:=q cs ys [] e;simp only[aj];rw[this];simp
   | tup cs=>simp only[view,bG]at h;obtain⟨ys,e,rfl⟩:=h;have:=q cs ys [] e;simp only[aj];rw[this];simp
   | v x=>simp[view]at h;subst h;rfl
   | cC=>simp[view]at h;subst h;rfl
   | iptr=>simp[view]at h;subst h;rfl
   | fsl=>simp[view]at h
   | bN r' off len cap=>
    simp only[view]at h;split at h
    ·split at h;·cases h;rfl
     cases h
    cases h
   | nsl=>simp[view]at h
   | dsl r' off len cap=>
    simp only[view]at h;split at h
    ·split at h;·simp only[bG]at h;obtain⟨_,_,rfl⟩:=h;rfl
     cases h
    cases h
   | ptr r' i j=>
    simp only[view]at h;split at h
    ·split at h;·cases h;rfl
     simp only[bG]at h;obtain⟨_,_,rfl⟩:=h;rfl
    cases h
   | fn f a b=>
    simp only[view]at h;split at h;·cases h;rfl
    cases h
   | ifc t x=>simp only[view,bG]at h;obtain⟨y,z,rfl⟩:=h;simp only[aj];rw[D m x y u z]
   | yld=>simp[view]at h
   | mp=>simp[view]at h
   | ch=>simp[view]at h
   | Bc=>simp[view]at h
   | lp=>simp[view]at h
def aN(g:cF):Nat->AV->List Ref
 | 0,_=>[]
 | n+1,x=>
  match x with
  | .agg cs | .tup cs=>cs.flatMap (aN g n)
  | .bN r 0 len _=>(match g r with | some b=>if b.gJ then [] else [r] | none=>[])
  | .dsl r 0 len _=>(match g r with | some b=>if b.gJ then [] else b.es.flatMap (aN g n)++[r] | none=>[])
  | .mp r=>[r]
  | .ifc _ x=>aN g n x
  | _=>[]
def bY(g:cF):Nat->AV->List Ref
 | 0,_=>[]
 | n+1,x=>
  match x with
  | .agg cs | .tup cs=>cs.flatMap (bY g n)
  | .bN r 0 len _=>(match g r with | some b=>if b.gJ then [r] else [] | none=>[r])
  | .dsl r 0 len _=>(match g r with | some b=>if b.gJ then r :: b.es.flatMap (ah g n) else b.es.flatMap (bY g n) | none=>[r])
  | .mp _=>[]
  | .ifc _ x=>bY g n x
  | x=>ah g (n+1) x
def Gl{g:cF} : ∀(n:Nat)(x:AV)(r:Ref),r∈aN g n x->r∈ah g n x:=by
 intro n;induction n with
 | zero=>intro x r h;simp[aN]at h
 | succ n f=>
  intro x r h;unfold aN at h;split at h;·simp only[fq]at h;obtain⟨c,d,e⟩:=h;simp only[ah,fq];exact⟨c,d,f c r e⟩
  ·simp only[fq]at h;obtain⟨c,d,e⟩:=h;simp only[ah,fq];exact⟨c,d,f c r e⟩
  ·split at h
   ·split at h;·cases h
    simpa [ah] using h
   cases h
  ·split at h
   ·rename_i b i;split at h;·cases h
    simp only[iN,fq,nc]at h;simp only[ah,i,eD,fq];rcases h with ⟨c,d,e⟩ | rfl
    ·exact .inr ⟨c,d,f c r e⟩
    exact .inl rfl
   cases h
  ·simpa [ah] using h
  ·simp only[ah];exact f _ r h
  cases h
def IE{g:cF} : ∀(n:Nat)(x:AV),(ah g n x).Nodup->(aN g n x).Nodup /\∀r∈aN g n x,r ∉ bY g n x:=by
 intro n;induction n with
 | zero=>intro x h;simp[aN]
 | succ n N=>
  intro x h;have i : ∀(n:Nat)(x:AV)(r:Ref),r∈bY g n x->r∈ah g n x:=by
   intro n;induction n with
   | zero=>intro x r h;simp[bY]at h
   | succ n z=>
    intro x r h;unfold bY at h;split at h;·simp only[fq]at h;obtain⟨c,B,f⟩:=h;simp only[ah,fq];exact⟨c,B,z c r f⟩
    ·simp only[fq]at h;obtain⟨c,B,f⟩:=h;simp only[ah,fq];exact⟨c,B,z c r f⟩
    ·split at h
     ·split at h;·simpa [ah] using h
      cases h
     simpa [ah] using h
    ·split at h
     ·rename_i b y;split at h;·simpa [ah,y] using h
      simp only[fq]at h;obtain⟨c,B,f⟩:=h;simp only[ah,y,eD,fq];exact .inr ⟨c,B,z c r f⟩
     rename_i y;simpa [ah,y] using h
    ·cases h
    ·simp only[ah];exact z _ r h
    exact h
  have p : ∀cs:List AV,(cs.flatMap (ah g n)).Nodup->(cs.flatMap (aN g n)).Nodup /\∀r∈cs.flatMap (aN g n),r ∉ cs.flatMap (bY g n):=by
   intro cs;induction cs with
   | nil=>intro _;simp
   | cons c cs I=>
    intro K;rw[na,Fl]at K;obtain⟨D,H,G⟩:=K;obtain⟨R,O⟩:=N c D;obtain⟨Q,S⟩:=I H;have u : ∀r,r∈cs.flatMap (aN g n)->r∈cs.flatMap (ah g n):=by
     intro r f;simp only[fq]at f ⊢;obtain⟨d,C,f⟩:=f;exact⟨d,C,Gl n d r f⟩
    have m : ∀r,r∈cs.flatMap (bY g n)->r∈cs.flatMap (ah g n):=(by intro r f;simp only[fq]at f ⊢;obtain⟨d,C,f⟩:=f;exact⟨d,C,i n d r f⟩);refine⟨?_,?_⟩;·rw[na,Fl];exact⟨R,Q,λa F b y e=>G a (Gl n c a F) b (u b y) e⟩
    intro r f v;rw[na,iN]at f v;rcases f with f | f<;>rcases v with v | v
    ·exact O r f v
    ·exact G r (Gl n c r f) r (m r v) rfl
    ·exact G r (i n c r v) r (u r f) rfl
    exact S r f v
  cases x with
  | agg cs=>simpa [aN,bY] using p cs (by simpa [ah] using h)
  | tup cs=>simpa [aN,bY] using p cs (by simpa [ah] using h)
  | bN r off len cap=>
   cases off with
   | zero=>
    simp only[aN,bY];cases L:g r with
    | none=>simp
    | some b=>cases y:b.gJ<;>simp[y]
   | succ off=>simp[aN]
  | dsl r off len cap=>
   cases off with
   | zero=>
    simp only[aN,bY];cases L:g r with
    | none=>simp
    | some b=>
     cases y:b.gJ with| true=>simp[y]| false=>
      simp only[ah,L,yd]at h;obtain⟨f,J⟩:=h;obtain⟨D,H⟩:=p b.es J;have u : ∀q,q∈b.es.flatMap (aN g n)->q∈b.es.flatMap (ah g n):=by
       intro q j;simp only[fq]at j ⊢;obtain⟨d,C,j⟩:=j;exact⟨d,C,Gl n d q j⟩
      have m : ∀q,q∈b.es.flatMap (bY g n)->q∈b.es.flatMap (ah g n):=(by intro q j;simp only[fq]at j ⊢;obtain⟨d,C,j⟩:=j;exact⟨d,C,i n d q j⟩);simp only[y,mJ,iQf];refine⟨?_,?_⟩;·rw[Fl];exact⟨D,by simp,λa F c B e=>by simp at B;subst B;subst e;exact f (u _ F)⟩
      intro q j v;rw[iN]at j;rcases j with j | j
      ·exact H q j v
      simp at j;subst j;exact f (m _ v)
   | succ off=>simp[aN]
  | mp r=>simp[aN,bY]
  | ifc t x=>simpa [aN,bY] using N x (by simpa [ah] using h)
  | _=>simp[aN]
def Out(g:cF)(q:Ref)(b:aQ):Prop:=
 (∃k len,g q=some k/\k.gJ=false/\k.arr=true/\b=⟨k.esz,k.es.take len,true,false⟩)\/(∃k ents,g q=some k/\kE g q=some ents/\(∀e∈ents,flat depth e=true)/\b=ba ents) \/
 ∃k zs,g q=some k/\k.gJ=false/\k.arr=false/\0<k.esz/\zs.length=k.es.length/\b=⟨k.esz,zs,false,false⟩
def QD(M:Mem)(A ι:Map)(g:cF)(w:World)(q:Ref)(b:aQ):Prop :=∀k l,g q=some k->ι q=some l->k.arr=false->0<k.esz ->
 (∀(i j:Nat) z x,b.es[i]?=some z->z.cells[j]?=some x ->∃u,w.cell? ⟨l.b,i * k.esz+j,none⟩=some u/\VR M A x u) /\∀z∈b.es,z.cells.length=k.esz
def VR.acI{M:Mem}{ι:Map}{x:AV}{u:Value}(h:VR M ι x u)(c : ∀cs,x ≠ .agg cs):x.cells=[x]/\u.cells = #[u]:=by
 cases h with
 | agg=>exact absurd rfl (c _)
 | v b=>refine⟨rfl,?_⟩;cases u<;>first | rfl | simp[scalar]at b
 | Bc b=>exact⟨rfl,by cases u<;>first | rfl | (cases b)⟩
 | _=>exact⟨rfl,rfl⟩
def Kb{g:cF}{q:Ref}{ents:List AV}(h:kE g q=some ents) : ∃k,g q=some k/\k.esz=0/\k.es = .v (.bool true) :: ents:=by
 unfold kE at h;split at h;·rename_i e f b;cases h;exact⟨_,b,rfl,rfl⟩
 cases h
def Tt{M:Mem}{ι:Map}{g:cF}{w:World}{R:List Ref}(hS:gA M ι g w)(r:Ref) : ∀(n:Nat)(x y:AV)(u:Value)(G:List aQ),bK g n x=some y->VR M ι x u ->
 (∀q∈bY g n x,q∈R) ->
 ∃new:List aQ,(aj r n y G).2=G++new/\new.length=(aN g n x).length /\
  (∀(i:Nat) q b,(aN g n x)[i]?=some q->new[i]?=some b->Out g q b) /\
  ∀J:List Loc,(∀(i:Nat) q l,(aN g n x)[i]?=some q->ι q=some l->J[G.length+i]?=some l)->VR (ly M ι g w R) (iU r J) (aj r n y G).1 u /\∀(i:Nat) q b,(aN g n x)[i]?=some q->new[i]?=some b->QD (ly M ι g w R) (iU r J) ι g w q b:=by
 intro n;induction n with
 | zero=>intro x y u G h;simp[bK]at h
 | succ n ih=>
  intro x y u G h hv Y;have plain:view g (n+1) x=some y->aN g (n+1) x=[]->(∀q∈ah g (n+1) x,q∈R) ->∃new:List aQ,(aj r (n+1) y G).2=G++new/\new.length=(aN g (n+1) x).length /\
   (∀(i:Nat) q b,(aN g (n+1) x)[i]?=some q->new[i]?=some b->Out g q b) /\
   ∀J:List Loc,(∀(i:Nat) q l,(aN g (n+1) x)[i]?=some q->ι q=some l->J[G.length+i]?=some l)->VR (ly M ι g w R) (iU r J) (aj r (n+1) y G).1 u /\∀(i:Nat) q b,(aN g (n+1) x)[i]?=some q->new[i]?=some b->QD (ly M ι g w R) (iU r J) ι g w q b:=by
   intro I L N;rw[FK r (n+1) (n+1) x y G I];exact⟨[],by simp,by rw[L];rfl,by rw[L];intro i q b H;simp at H,λJ _=>⟨(C5 hS (n+1) x y u I N hv).up _,by rw[L];intro i q b H;simp at H⟩⟩
  have lists : ∀(cs ys:List AV)(us:List Value)(O:List AV)(G:List aQ),cs.mapM (bK g n)=some ys->mh M ι cs us->(∀q∈cs.flatMap (bY g n),q∈R) ->
   ∃(new:List aQ) (zs:List AV),ys.foldl (λ(p:List AV × List aQ) c=>(p.1++[(aj r n c p.2).1],(aj r n c p.2).2)) (O,G)=(O++zs,G++new)/\new.length=(cs.flatMap (aN g n)).length /\
    (∀(i:Nat) q b,(cs.flatMap (aN g n))[i]?=some q->new[i]?=some b->Out g q b) /\
    ∀J:List Loc,(∀(i:Nat) q l,(cs.flatMap (aN g n))[i]?=some q->ι q=some l->J[G.length+i]?=some l)->mh (ly M ι g w R) (iU r J) zs us /\∀(i:Nat) q b,(cs.flatMap (aN g n))[i]?=some q->new[i]?=some b->QD (ly M ι g w R) (iU r J) ι g w q b:=by
   intro cs;induction cs with
   | nil=>intro ys us O G hy V _;simp at hy;subst hy;have:us=[]:=C4 (by rw[<-V.1];rfl);subst this;exact⟨[],[],by simp,rfl,by intro i q b H;simp at H,λ_ _=>⟨mh.nil,by intro i q b H;simp at H⟩⟩
   | cons c cs ihc=>
    intro ys us O G hy V hRc;simp only[mH,rR,s7,ib]at hy;obtain⟨y,hy1,ys',S,hy2⟩:=hy;simp at hy2;subst hy2;cases us with
    | nil=>have:=V.1;simp at this
    | cons u us=>
     have hvc:VR M ι c u:=V.2 0 c u rfl rfl;have hvcs:mh M ι cs us:=⟨by have:=V.1;simpa using this,λi x v hx hv=>V.2 (i+1) x v (by simpa using hx) (by simpa using hv)⟩;simp only[na,iN]at hRc;obtain⟨new1,I,L,N,h4⟩:=ih c y u G hy1 hvc (λq H=>hRc q (.inl H));obtain⟨new2,zs,h5,h6,h7,h8⟩:=ihc ys' us (O++[(aj r n y G).1]) (G++new1) S hvcs (λq H=>hRc q (.inr H));refine⟨new1++new2,(aj r n y G).1 :: zs,?_,?_,?_,?_⟩;·rw[tZ];simp only;rw[I,h5];simp
     ·simp[L,h6]
     ·intro i q b H hb;rw[na]at H;rcases eC i (aN g n c).length with Q | Q
      ·rw[kA Q]at H;rw[kA (by omega)]at hb;exact N i q b H hb
      rw[jP Q]at H;rw[jP (by omega),L]at hb;exact h7 _ q b H hb
     intro J C;have p1:=h4 J (by
      intro i q l H hl;refine C i q l ?_ hl;rw[na,kA (ew.1 H).1];exact H)
     have p2:=h8 J (by
      intro i q l H hl;have:=C ((aN g n c).length+i) q l (by
       rw[na,jP (by omega),KI];exact H) hl
      rw[mI,L,GL];exact this)
     refine⟨mh.cons p1.1 p2.1,λi q b H hb=>?_⟩;rw[na]at H;rcases eC i (aN g n c).length with Q | Q
     ·rw[kA Q]at H;rw[kA (by omega)]at hb;exact p1.2 i q b H hb
     rw[jP Q]at H;rw[jP (by omega),L]at hb;exact p2.2 _ q b H hb
  cases x with
  | agg cs=>simp only[bK,bG]at h;obtain⟨ys,S,rfl⟩:=h;obtain⟨vs,rfl,V⟩:=hv.RN;obtain⟨new,zs,I,L,N,h4⟩:=lists cs ys vs.toList [] G S V (by simpa [bY] using Y);simp only[aj];rw[I];refine⟨new,rfl,by simpa [aN] using L,by simpa [aN] using N,λJ C=>?_⟩;have:=h4 J (by simpa [aN] using C);exact⟨by simpa using VR.qA.2 this.1,by simpa [aN] using this.2⟩
  | tup cs=>
   simp only[bK,bG]at h;obtain⟨ys,S,rfl⟩:=h;cases hv with | tup h0 hl hh=>
   rename_i vs;obtain⟨new,zs,I,L,N,h4⟩:=lists cs ys vs.toList [] G S ⟨by simpa using hl,λi x u hx K=>hh i x u hx (by simpa using K)⟩ (by simpa [bY] using Y);simp only[aj];rw[I];refine⟨new,rfl,by simpa [aN] using L,by simpa [aN] using N,λJ C=>?_⟩;obtain⟨this,hdp⟩:=h4 J (by simpa [aN] using C);simp only[sZ];refine⟨.tup ?_ (by simpa using this.1) λi c u hc K=>this.2 i c u hc (by simpa using K),by simpa [aN] using hdp⟩;intro e;rw[e]at this;have h5:=this.1;simp at h5;have h6:vs.size=0:=by omega
   rw[h6]at hl;exact h0 (C4 hl)
  | bN q off len cap=>
   cases off with| succ off=>exact plain (by simpa [bK] using h) (by simp[aN]) (by simpa [bY] using Y)| zero=>
    simp only[bK]at h;split at h
    ·rename_i k U;obtain⟨⟨F,hlen⟩,h⟩:=eK.1 h;injection h with h
     cases D:k.gJ with
     | true=>
      rw[D]at h;simp only[if_true]at h;refine plain ?_ (by simp[aN,U,D]) (by
       intro q' f;refine Y q' ?_;simp only[ah,nc]at f;simp[bY,U,D,f])
      simp only[view,U,F];rw[if_pos ⟨trivial,by omega⟩];simp[<-h]
     | false=>
      rw[D]at h;simp only[mJ,iQf]at h;subst h;have m:aN g (n+1) (.bN q 0 len cap)=[q]:=by simp[aN,U,D]
      cases hv with | bN hr hb hs ha hc hn hkk hzl=>
      rename_i l a c;have hl2:(k.es.take len).length=len:=by rw[nZ];omega
      have hkz0:k.esz≠0:=(by obtain⟨l0,hl0,W⟩:=hS.live q k U;have:=W.pos F;omega);refine⟨[⟨k.esz,k.es.take len,true,false⟩],by simp[aj,hkz0],by rw[m];rfl,?_,?_⟩
      ·intro i q' b f B;rw[m]at f;cases i with
       | succ i=>simp at f
       | zero=>simp at f B;subst f;subst B;exact .inl ⟨k,len,U,D,F,rfl⟩
      intro J C;have:=C 0 q l (by rw[m];rfl) hr;simp only[aj,hl2,if_neg hkz0];refine⟨.bN (l:=l) ?_ hb hs ha hc hn hkk hzl,λi q' b f B=>?_⟩;·unfold iU;simpa using this
      rw[m]at f;cases i with
      | succ i=>simp at f
      | zero=>simp at f;subst f;intro k' l' I _ N;rw[U]at I;cases I;rw[F]at N;cases N
    cases h
  | nsl=>simp[bK,view]at h
  | dsl q off len cap=>
   cases off with| succ off=>exact plain (by simpa [bK] using h) (by simp[aN]) (by simpa [bY] using Y)| zero=>
    simp only[bK]at h;split at h
    ·rename_i k U;obtain⟨⟨F,hlen⟩,h⟩:=eK.1 h;cases D:k.gJ with
     | true=>
      rw[D]at h;simp only[if_true]at h;refine plain ?_ (by simp[aN,U,D]) (by
       intro q' f;refine Y q' ?_;simpa [bY,ah,U,D] using f)
      obtain⟨es',hes,rfl⟩:=bG.1 h;have hel:=gH hes;simp only[view,U];rw[if_pos ⟨F,by omega⟩,hes];simp only[Option.map_some,Cx];rw[gj (by omega)]
     | false=>
      rw[D]at h;simp only[mJ,iQf]at h;obtain⟨ys,S,rfl⟩:=bG.1 h;have m:aN g (n+1) (.dsl q 0 len cap)=k.es.flatMap (aN g n)++[q]:=by simp[aN,U,D]
      have hseen:bY g (n+1) (.dsl q 0 len cap)=k.es.flatMap (bY g n):=(by simp[bY,U,D]);cases hv with | dsl hr hb hs ha hc hn hkk hzl=>
      rename_i l a c;have W:=hS.at hr hzl U;have hkz:0<k.esz:=by rw[<-W.esz];exact hzl
      obtain⟨arr,T,fz,hh,hsz,_,Z⟩:=W.heap;have hcl : ∀o,w.cell? ⟨l.b,o,none⟩=arr[o]?:=λo=>jK hh;let val:Nat->AV->Value:=λi e=>match e with
       | .agg cs => .agg ((List.range cs.length).map λj=>(arr[i * k.esz+j]?).getD undef).toArray
       | _=>(arr[i * k.esz]?).getD undef
      have hval : ∀(i:Nat) e,k.es[i]?=some e->VR M ι e (val i e) /\∀(j:Nat) u,(val i e).cells[j]?=some u->arr[i * k.esz+j]?=some u:=by
       intro i e X;have hlen':=W.cells e (dJ X);by_cases hag : ∃cs,e = .agg cs
       ·obtain⟨cs,rfl⟩:=hag;refine⟨VR.qA.2 ⟨by simp[val],λj x u hx K=>?_⟩,λj u K=>?_⟩;·obtain⟨u',I,_,N⟩:=Z i j _ x X (by simpa [AV.cells] using hx);rw[aQ.map,if_neg (by simp[F])]at N;have hj:=(ew.1 hx).1;have:u=u':=(by simp only[val,List.toArray,k5]at K;rw[Gx hj]at K;simp[I]at K;exact K.symm);rw[this];exact N
        have hj:j<cs.length:=(by have:=(iO.1 K).1;simpa [val,Value.cells] using this);obtain⟨u',I,_,_⟩:=Z i j _ cs[j] X (by simp[AV.cells,hj]);have:(val i (.agg cs)).cells[j]?=some u':=by simp[val,Value.cells,hj,I]
        rw[this]at K;cases K;exact I
       have hne : ∀cs,e ≠ .agg cs:=λcs hc=>hag ⟨cs,hc⟩;have hc1:e.cells=[e]:=by cases e<;>first | rfl | exact absurd rfl (hne _)
       obtain⟨u',I,_,N⟩:=Z i 0 e e X (by rw[hc1];rfl);rw[aQ.map,if_neg (by simp[F])]at N;have hv0:val i e=u':=(by simp only[xt]at I;cases e<;>first | exact absurd rfl (hne _) | simp[val,I]);rw[hv0];refine⟨N,λj u K=>?_⟩;rw[(N.acI hne).2]at K;cases j with
       | zero=>simp at K;subst K;exact I
       | succ j=>simp at K
      let us:List Value:=(List.range k.es.length).map λi=>val i (k.es[i]?.getD AV.undef)
      have hus:mh M ι k.es us:=(by refine⟨by simp[us],λi e u X K=>?_⟩;have Q:=(ew.1 X).1;simp only[us,k5]at K;rw[Gx Q]at K;simp[X]at K;rw[<-K];exact(hval i e X).1);obtain⟨new,zs,I,L,N,h4⟩:=lists k.es ys us [] G S hus (by rw[hseen]at Y;exact Y);have hzl':zs.length=k.es.length/\ys.length=k.es.length:=by
       refine⟨?_,gH S⟩;have e1:=iQg (λp:List AV × List aQ=>p.1.length) I;have : ∀(cs O:List AV)(G:List aQ),(cs.foldl (λ(p:List AV × List aQ) c=>(p.1++[(aj r n c p.2).1],(aj r n c p.2).2)) (O,G)).1.length=O.length+cs.length:=by
        intro cs;induction cs with
        | nil=>intro O G;simp
        | cons c cs ihc=>intro O G;rw[tZ,ihc];simp;omega
       simp only[this]at e1;have e2:=gH S;simp at e1;omega
      refine⟨new++[⟨k.esz,zs,false,false⟩],?_,?_,?_,?_⟩;·simp only[aj];rw[I];simp
      ·rw[m];simp[L]
      ·intro i q' b f B;rw[m]at f;rcases eC i new.length with Q | Q
       ·rw[kA (by omega)]at f;rw[kA Q]at B;exact N i q' b f B
       rw[jP (by omega)]at f;rw[jP Q]at B;rw[<-L]at f;cases hd:i - new.length with
       | succ d=>rw[hd]at f;simp at f
       | zero=>rw[hd]at f B;simp at f B;subst f;subst B;exact .inr (.inr ⟨k,zs,U,D,F,hkz,hzl'.1,rfl⟩)
      intro J C;obtain⟨p1,p2⟩:=h4 J (by
       intro i q' l' f hl';refine C i q' l' ?_ hl';rw[m,kA (ew.1 f).1];exact f)
      have hq0:=C new.length q l (by rw[m,jP (by omega),L];simp) hr;simp only[aj];rw[I];simp only[sZ];refine⟨?_,?_⟩;·rw[hzl'.2,<-hlen];refine .dsl (l:=l) ?_ hb hs ha hc hn hkk hzl;unfold iU;simpa using hq0
      intro i q' b f B;rw[m]at f;rcases eC i new.length with Q | Q
      ·rw[kA (by omega)]at f;rw[kA Q]at B;exact p2 i q' b f B
      rw[jP (by omega)]at f;rw[jP Q]at B;rw[<-L]at f;cases hd:i - new.length with
      | succ d=>rw[hd]at f;simp at f
      | zero=>
       rw[hd]at f B;simp at f B;subst f;subst B;intro k' l' e1 e2 _ _;rw[U]at e1;cases e1;rw[hr]at e2;cases e2;have zc : ∀(i:Nat) z,zs[i]?=some z ->∃e,k.es[i]?=some e/\mh (ly M ι g w R) (iU r J) z.cells (val i e).cells.toList:=(by intro i z hz;have Q:=(ew.1 hz).1;have X:k.es[i]?=some (k.es[i]'(by omega)):=dy _;refine⟨_,X,(p1.2 i z _ hz ?_).cells⟩;simp only[us,k5];rw[Gx (by omega)];simp[X]);refine⟨λi j z x hz hx=>?_,λz hz=>?_⟩
       ·obtain⟨e,X,hzv⟩:=zc i z hz;have hj:=(ew.1 hx).1;have hju:j<(val i e).cells.toList.length:=by rw[<-hzv.1];exact hj
        have K:(val i e).cells.toList[j]?=some ((val i e).cells.toList[j]):=dy hju;refine⟨_,?_,hzv.2 j x _ hx K⟩;rw[hcl];exact(hval i e X).2 j _ (by simpa using K)
       obtain⟨i,Q,rfl⟩:=qP hz;obtain⟨e,X,hzv⟩:=zc i _ (dy Q);have h5:=(hval i e X).1.cells;rw[hzv.1,<-h5.1];exact W.cells e (dJ X)
    cases h
  | v x=>exact plain (by simpa [bK] using h) (by simp[aN]) (by simpa [bY] using Y)
  | cC=>exact plain (by simpa [bK] using h) (by simp[aN]) (by simpa [bY] using Y)
  | iptr=>exact plain (by simpa [bK] using h) (by simp[aN]) (by simpa [bY] using Y)
  | fsl=>exact plain (by simpa [bK] using h) (by simp[aN]) (by simpa [bY] using Y)
  | ptr=>exact plain (by simpa [bK] using h) (by simp[aN]) (by simpa [bY] using Y)
  | fn=>exact plain (by simpa [bK] using h) (by simp[aN]) (by simpa [bY] using Y)
  | ifc t x=>
   simp only[bK,bG]at h;obtain⟨y,hy,rfl⟩:=h;cases hv with | ifc hv=>
   obtain⟨new,I,L,N,h4⟩:=ih x y _ G hy hv (by simpa [bY] using Y);simp only[aj];exact⟨new,I,by simpa [aN] using L,by simpa [aN] using N,λJ C=>⟨.ifc (h4 J (by simpa [aN] using C)).1,by simpa [aN] using (h4 J (by simpa [aN] using C)).2⟩⟩
  | yld=>simp[bK,view]at h
  | ch q=>simp[bK,view]at h
  | Bc q=>simp[bK,view]at h
  | mp q=>
   simp only[bK]at h;split at h
   ·rename_i ents hm;obtain⟨hfl,h⟩:=eK.1 h;injection h with h
    subst h;have m:aN g (n+1) (.mp q)=[q]:=by simp[aN]
    cases hv with | mp hr hz=>
    rename_i l;obtain⟨k,U,_,_⟩:=Kb hm;refine⟨[ba ents],by simp[aj,ba],by rw[m];rfl,?_,?_⟩
    ·intro i q' b f B;rw[m]at f;cases i with
     | succ i=>simp at f
     | zero=>simp at f B;subst f;subst B;exact .inr (.inl ⟨k,ents,U,hm,by simpa [gx] using hfl,rfl⟩)
    intro J C;have:=C 0 q l (by rw[m];rfl) hr;simp only[aj,if_true];refine⟨.mp (l:=l) ?_ hz,λi q' b f B=>?_⟩;·unfold iU;simpa using this
    rw[m]at f;cases i with
    | succ i=>simp at f
    | zero=>simp at f;subst f;intro k' l' I L _ h4;obtain⟨l0,hl0,W⟩:=hS.live q k' I;rw[L]at hl0;cases hl0;rw[hr]at L;cases L;have:=W.esz;omega
   cases h
  | lp=>simp[bK,view]at h
def DJ:aa.get []=λ_=>none:=by funext q;rfl
def X8{M:Mem}{w:World}(c : ∀b o x,M b o=some x->w.cell? ⟨b,o,none⟩=some x):gA M dq (aa.get []) w:=
 ⟨c,(λr k h=>by rw[DJ]at h;cases h),(λr r' k k' l d h=>by rw[DJ]at h;cases h)⟩
def Zw:tT dq []:=λq l h=>by cases h
def Na{M:Mem}{w:World}(G : ∀b o x,M b o=some x->w.cell? ⟨b,o,none⟩=some x){H':aa}{v:Value}{w':World}{f:Mem}{c:Map}{x:AV}
 (C:VR f c x v) (q:gA f c H'.get w') (e:uN M dq (aa.get []) w f c H'.get w') {R:List Ref} {y:AV}
 (m : ∀r:Ref,∃d:List Loc,d.length=(aj r depth y []).2.length/\VR (ly f c H'.get w' R) (iU r d) (aj r depth y []).1 v /\
  (∀(k:Nat) l b,d[k]?=some l->(aj r depth y []).2[k]?=some b->pz (ly f c H'.get w' R) (iU r d) w' l b/\w.heap.size<=l.b) /\
  ∀(i j:Nat) l l',d[i]?=some l->d[j]?=some l'->l.b=l'.b->i=j):z9 M w y v (ly f c H'.get w' R) w':=by
 obtain⟨t,p⟩:=Bm (R:=R) q;have n:=e.trans p;refine⟨e.os,e.tape,e.output,e.size,λb B=>e.chg b B (λr k l h=>by rw[DJ]at h;cases h),n.mem,zX q.mem,?_,m⟩;intro b o z u;rcases n.new b o z u with h | h | ⟨D,F,H,h,_⟩
 ·exact .inl h
 ·exact .inr h
 rw[DJ]at h;cases h
def Io{M:Mem}{w:World}{H':aa}{w':World}{e:Mem}{c:Map}(d:uN M dq (aa.get []) w e c H'.get w'){r:Ref}{k:aQ}{l:Loc}(f:H'.get r=some k)(i:c r=some l):w.heap.size<=l.b:=by
 rcases d.live r k l f i with h | ⟨j,m,n,h,_⟩
 ·exact h
 rw[DJ]at h;cases h
def Out.live{g:cF}{q:Ref}{b:aQ}(h:Out g q b) : ∃k,g q=some k:=by
 rcases h with ⟨k,_,c,_⟩ | ⟨k,_,c,_⟩ | ⟨k,_,c,_⟩<;>exact⟨k,c⟩
def Tq : ∀(n:Nat)(x:AV),flat n x=true->flat (n+1) x=true:=by
 intro n;induction n with
 | zero=>intro x h;simp[flat]at h
 | succ n e=>
  intro x h;cases x with
  | v x=>rfl
  | agg cs=>simp only[flat,gx]at h ⊢;exact λc d=>by have:=e c (h c d);simpa [flat] using this
  | tup cs=>simp only[flat,gx]at h ⊢;exact λc d=>by have:=e c (h c d);simpa [flat] using this
  | ifc t x=>have:=e x (by simpa [flat] using h);simpa [flat] using this
  | fn f a b=>simp only[flat,aT,gx]at h ⊢;exact⟨λc d=>by have:=e c (h.1 c d);simpa [flat] using this,λc d=>by have:=e c (h.2 c d);simpa [flat] using this⟩
  | _=>simp[flat]at h
def WK{cs:List AV}(h:flat depth (.tup cs)=true){c:AV}(b:c∈cs):flat depth c=true:=by
 have d:depth=(depth - 1)+1:=rfl;rw[d]at h ⊢;simp only[flat,gx]at h;exact Tq _ c (h c b)
def FF{E:Env}{ok:Array Oper->Bool}(hE:E.Ok ok){n:Nat}(hn:OC E ok n){f:FuncId}{args:List AV}{y:AV}(h:cV E (bZ E n) f args=some y):mu E.P f args y:=by
 unfold cV at h;split at h;·rename_i s hs;cases h;exact hE.specs f args y hs
 split at h
 ·rename_i x H' hc;obtain⟨hfn,N⟩:=Kp hE hn hc;refine⟨hfn,λM w us hm hvs=>?_⟩;refine(N M dq w us (X8 hm) Zw hvs).mono λe w' ⟨v,p,M1,ι1,hv,hS,hF,hD⟩=>⟨v,?_⟩;split at h
  ·obtain⟨hnd,h⟩:=eK.1 h;obtain⟨hnd1,I⟩:=IE depth x hnd;refine⟨_,p,Na (R:=bY H'.get depth x) hm hv hS hF λr=>?_⟩;obtain⟨new,h1,h2,h3,h4⟩:=Tt (R:=bY H'.get depth x) hS r depth x y v [] h hv (λq t=>t);rw[sZ]at h1;let d:Ref->Loc:=λq=>(ι1 q).getD ⟨0,0,0⟩
   obtain⟨p1,p2⟩:=h4 ((aN H'.get depth x).map d) (by
    intro i q l t Y;simp only[CZ,uR,k5,t,Option.map_some,d,Y,cI])
   refine⟨(aN H'.get depth x).map d,by rw[h1];simp[h2],p1,?_,?_⟩
   ·intro i l b Y hb;rw[h1]at hb;have hl':=Y;simp only[k5,bG]at Y;obtain⟨q,t,F⟩:=Y;rcases h3 i q b t hb with ⟨k,len,B,O,C,rfl⟩ | ⟨k,ents,B,K,hfl,rfl⟩ | ⟨k,zs,B,O,C,D,hzl,rfl⟩
    rotate_left
    ·obtain⟨L,m,c⟩:=hS.live q k B;have:l=L:=by rw[<-F];simp[d,m]
     subst this;have hz:l.esz=0:=by
      obtain⟨k1,hk1,hz1,_⟩:=Kb K;rw[B]at hk1;cases hk1;rw[c.esz];exact hz1
     obtain⟨a,f,entries,hg,Q,hsz,hent,_⟩:=BM hS K m hz;refine⟨oz.TG (.inr (.inl ⟨ents,entries,rfl,rfl,rfl,Q,hsz,λJ ent e p he'=>?_⟩)) hz (λo z Z=>?_),Io hF B m⟩;·obtain⟨ka,va,e1,e2,e3⟩:=hent J ent e p he';subst e1;refine⟨ka,va,rfl,e2,DU depth va _ ?_ e3.1,e3.2⟩;have:=hfl _ (dJ p);exact WK this (by simp)
     have:=(Bm (R:=bY H'.get depth x) hS).1.mem _ _ _ Z;simp[World.cell?,Q]at this
    ·obtain⟨L,m,c⟩:=hS.live q k B;have:l=L:=by rw[<-F];simp[d,m]
     subst this;refine⟨?_,Io hF B m⟩;replace c:=c.cellsOk D;obtain⟨arr,T,fz,Q,g1,g2,g3⟩:=c.heap;obtain⟨d1,d2⟩:=p2 i q _ t hb k l B m C D;refine eW.TG (k:=⟨k.esz,zs,false,false⟩) ⟨c.esz,⟨arr,T,fz,Q,g1,g2,?_⟩,by have:=c.len;simp;omega,d2,?_⟩ D
     ·intro J j e x' p Z;obtain⟨u,hu,G⟩:=d1 J j e x' p Z;rw[jK Q]at hu;have hi':J<k.es.length:=by
       have:=(ew.1 p).1;simp only at this;omega
      have hc0:=c.cells _ (je hi');have hj:j<k.esz:=(by rw[<-d2 e (dJ p)];exact(ew.1 Z).1);obtain⟨u',hu',ho',_⟩:=g3 J j _ _ (dy hi') (dy (by omega:j<(k.es[J]).cells.length));rw[hu]at hu';cases hu';exact⟨u,hu,ho',by rw[aQ.map,if_neg (by simp)];exact G⟩
     intro o z hz;exfalso;rcases zY hz with h5 | ⟨r',S,k',V,U,hl1',W,ho⟩
     ·have:=(c.frozen o z h5).1;rw[O]at this;cases this
     have e:=hS.inj r' q k' k V l U B hl1' m W;subst e;exact I r' (dJ t) S
    obtain⟨L,m,c⟩:=hS.live q k B;have:l=L:=by rw[<-F];simp[d,m]
    subst this;refine⟨?_,Io hF B m⟩;have D:=c.pos C;replace c:=c.cellsOk D;obtain⟨arr,T,fz,Q,g1,g2,g3⟩:=c.heap;refine eW.TG (k:=⟨k.esz,k.es.take len,true,false⟩) ⟨c.esz,⟨arr,T,fz,Q,g1,g2,?_⟩,by have:=c.len;simp;omega,λe p=>c.cells e (ye p),?_⟩ D
    ·intro J j e x' p Z;simp only at p;rw[AN]at p;split at p;·obtain⟨u,hu,ho,G⟩:=g3 J j e x' p Z;rw[aQ.map,if_pos C]at G;exact⟨u,hu,ho,by rw[aQ.map,if_pos rfl];exact G.mono xb _ (λ_ _ h=>h)⟩
     cases p
    intro o z hz;exfalso;rcases zY hz with h5 | ⟨r',S,k',V,U,hl',W,ho⟩
    ·have:=(c.frozen o z h5).1;rw[O]at this;cases this
    have e:=hS.inj r' q k' k V l U B hl' m W;subst e;exact I r' (dJ t) S
   intro i j l V hi hj hb;simp only[k5,bG]at hi hj;obtain⟨q,t,F⟩:=hi;obtain⟨q',X,hql'⟩:=hj;have hi2:i<new.length:=by rw[h2];exact(ew.1 t).1
   have hj2:j<new.length:=by rw[h2];exact(ew.1 X).1
   obtain⟨k,B⟩:=(h3 i q _ t (dy hi2)).live;obtain⟨k',hk'⟩:=(h3 j q' _ X (dy hj2)).live;obtain⟨L,m,_⟩:=hS.live q k B;obtain⟨l0',H,_⟩:=hS.live q' k' hk';have e1:l=L:=by rw[<-F];simp[d,m]
   have e2:V=l0':=by rw[<-hql'];simp[d,H]
   subst e1;subst e2;have e:=hS.inj q q' k k' l V B hk' m H hb;subst e;exact(List.getElem?_inj (ew.1 t).1 hnd1).1 (by rw[t,X])
  refine⟨_,p,Na (R:=ah H'.get depth x) hm hv hS hF λr=>?_⟩;rw[FK r depth depth x y [] h];exact⟨[],rfl,(C5 hS depth x y v h (λq t=>t) hv).up _,by intro k l b Y;simp at Y,by intro i j l V hi;simp at hi⟩
 cases h
def Pm : ∀(ps:List Tmp)(xs:List AV)(tm:List AV)(us:List Value)(tmps:Array Value),((ps.zip us).foldl (λtmps (p:Tmp × Value)=>tmps.setIfInBounds p.1 p.2) tmps).size=tmps.size:=by
 intro ps;induction ps with
 | nil=>intro xs tm us tmps;rfl
 | cons p ps b=>
  intro xs tm us tmps;cases us with
  | nil=>rfl
  | cons u us=>simp only[OO,tZ];rw[b [] [] us];simp
def R5{M:Mem}{ι:Map}{nt:Nat} : ∀(ps:List Tmp)(xs:List AV)(us:List Value)(tm:List AV)(tmps:Array Value),xs.length=ps.length->mh M ι xs us->(∀p∈ps,p<nt)->tmps.size=nt->(∀t,VR M ι (dA tm t) (tmps.getD t undef)) ->
 ∀t,VR M ι (dA (xI tm ps xs) t) (((ps.zip us).foldl (λtmps (p:Tmp × Value)=>tmps.setIfInBounds p.1 p.2) tmps).getD t undef):=by
 intro ps;induction ps with
 | nil=>intro xs us tm tmps e c hp f h t;cases xs<;>exact h t
 | cons p ps z=>
  intro xs us tm tmps e c hp f h t;cases xs with
  | nil=>simp at e
  | cons x xs=>
   cases us with| nil=>have:=c.1;simp at this| cons u us=>
    simp only[OO,tZ,xI];refine z xs us _ _ (by simpa using e) ⟨by have:=c.1;simpa using this,λi y v m j=>c.2 (i+1) y v (by simpa using m) (by simpa using j)⟩ (λq n=>hp q (fO _ n)) (by simpa using f) ?_ t;intro t';have d:=hp p (gy ..);rw[vg,C3];by_cases b:t'=p;·subst b;rw[if_pos rfl,GB (by rw[f];exact d)];exact c.2 0 x u rfl rfl
    rw[if_neg b,B5 (tx b),<-C3];exact h t'
def JL(ps:Array Tmp)(us:Array Value)(tmps:Array Value):(ps.zip us).foldl (λtmps (t,a)=>tmps.setIfInBounds t a) tmps=(ps.toList.zip us.toList).foldl (λtmps (p:Tmp × Value)=>tmps.setIfInBounds p.1 p.2) tmps:=by
 rw[<-OP,Array.toList_zip]
def Py{E:Env}{ok:Array Oper->Bool}(hE:E.Ok ok){n dep:Nat}(W:OC E ok n){r:Ref}{args:List AV}{H H':aa}{y:AV}(h:BJ E (bZ E n) dep r args H=some (y,H')):rz E.P (.yld r) args H y H':=by
 unfold BJ at h;split at h
 ·rename_i f nt ps assign body tm G;obtain⟨⟨O,D,B,z⟩,h⟩:=eK.1 h;split at h
  ·rename_i st I;intro M ι w us l K J q N;obtain⟨nt',U,Y,S,tm',d,e,Z,Q,T,g4,L,g6,g7,_,_⟩:=BN K J N G;cases e;have F:us.toArray.size=d.params.size:=by rw[Q];simp;rw[<-O];exact q.1.symm
   refine⟨_,_,_,_,run_yield Z F,trivial,λc cs _=>?_⟩;let b:Frame := { (default:Frame)with fn:=d.fn,kind := .normal,roundOf:=some l.b}
   have j : ∀tmps,Frame.round l.b d.fn tmps d.assign d.body .normal=b.atR { tmps:=tmps,defers:=[]} [.code assign,.beginRound,.code body]:=(by intro tmps;simp[Frame.round,Frame.atR,b,T,g4]);rw[j];have V:z8 M ι ⟨xI tm ps args,H⟩ nt { tmps:=(d.params.zip us.toArray).foldl (λtmps (t,a)=>tmps.setIfInBounds t a) d.tmps,defers:=[]} w:=by
    refine⟨K,J,⟨?_⟩,?_⟩;·intro t;show VR M ι _ (((d.params.zip us.toArray).foldl (λtmps (t,a)=>tmps.setIfInBounds t a) d.tmps).getD t undef);rw[JL,Q];exact R5 ps args us tm d.tmps O q (λp hp=>by have:=gx.1 D p hp;simpa using this) L g6 t
    show((d.params.zip us.toArray).foldl (λtmps (t,a)=>tmps.setIfInBounds t a) d.tmps).size=nt;rw[JL,Pm _ [] []];exact L
   have u:=hE.same;obtain⟨m,inf,w',h1,h2,⟨M',A,h3,h4,X⟩,h6⟩:=W (some r) nt dep _ _ st I (by
    intro i R;simp only[eD,Et,iQE]at R;rcases R with rfl | rfl | rfl
    ·rw[<-u];exact B
    ·rfl
    rw[<-u];exact z) M ι _ w V b (c :: cs) l c cs N rfl rfl rfl
   rw[h1]at h;have x:Comes E.P (lone (b.atR { tmps:=(d.params.zip us.toArray).foldl (λtmps (t,a)=>tmps.setIfInBounds t a) d.tmps,defers:=[]} [.code assign,.beginRound,.code body]) (c :: cs) w) (lone (c.finish (.bool (m == 0))) cs w') (.returned (.bool (m == 0))):=h6;have C:y = .v (.bool (m == 0))/\H'=st.hp:=by
    rcases m with _ | _ | m
    ·simp only[dG,ya]at h;exact⟨h.1.symm,h.2.symm⟩
    ·exact absurd rfl h2
    simp only[dG,ya]at h;exact⟨h.1.symm,h.2.symm⟩
   obtain⟨rfl,rfl⟩:=C;exact⟨.returned (.bool (m == 0)),w',⟨_,rfl,M',A,.v rfl,h3,h4,X⟩,comesIn_wide.2 x⟩
  cases h
 cases h
def Hu{E:Env}{ok:Array Oper->Bool}(c:E.Ok ok){n dep:Nat}(d:OC E ok n){t:uE}{args:List AV}{H H':aa}{y:AV}(h:eM E (bZ E n) dep t args H=some (y,H')):rz E.P t args H y H':=by
 unfold eM at h;cases t with
 | fn f=>
  simp only at h;cases b:E.thrSpec f args H with
  | some z=>rw[b]at h;cases h;exact c.thrs f args H y H' b
  | none=>rw[b]at h;obtain⟨_,h⟩:=eK.1 h;exact Kp c d h
 | yld r=>exact Py c d h
def abg{E:Env}{ok:Array Oper->Bool}(hE:E.Ok ok) : ∀n,OC E ok n:=by
 intro n;induction n with
 | zero=>intro rd nt dep B st C h;simp[bZ]at h
 | succ n ih=>
  intro rd nt dep B st C h hi M ι a w G b cs;have Y : ∀(q:List Item)(h':bZ E n rd nt dep q st=some C),(∀i∈q,oY ok i=true)->Steps E.P (lone (b.atR a B) cs w) (lone (b.atR a q) cs w) ->
   Gd E.P rd M ι st a w nt C b cs (lone (b.atR a B) cs w):=by
   intro q h' p Q;exact Gd.of_steps (ds:=[]) (λ_ _=>Q) G.sim uN.refl rfl ur (ih rd nt dep q st C h' p M ι a w G b cs)
  have S : ∀(j:Nat)(z:Option Code),j≠1->(z.isNone=(j == 0))->(∀I:Loop,Dl j { I with state:=if z.isNone then .ready else .done,pending:=z})->xM rd st j=some C->rd≠none ->
   (∀l c K v w',b.roundOf=some l->b.kind = .normal->cs=c :: K->(Instr.endRound l z).run E.P w = .ok v w'->Steps E.P (lone (b.atR a B) cs w) (lone (c.finish v) K w'))->Gd E.P rd M ι st a w nt C b cs (lone (b.atR a B) cs w):=by
   intro j z hj hjn J h hrd Q;cases rd with
   | none=>exact absurd rfl hrd
   | some r=>
    unfold xM at h;simp only at h;split at h
    ·rename_i inf F;cases h;intro l c K hr u O L;obtain⟨_,_,_,_,_,I,_,g1,_,_,_,_,_,_,g8,_⟩:=BN G.sim G.dom hr F;obtain⟨k1,k2,k3⟩:=g8 j { I with state:=if z.isNone then .ready else .done,pending:=z} ⟨rfl,rfl,rfl,rfl⟩ (J I);refine⟨j,inf,_,?_,hj,⟨M,ι,k1,k2,k3⟩,?_⟩;·simp[zM,aa.get_put,k7]
     rw[<-hjn];exact Q l.b c K _ _ u O L (run_endRound z g1)
    cases h
  unfold bZ at h;split at h
  ·cases rd with
   | none=>
    injection h with h
    subst h;intro u _;exact⟨a,w,[],[],⟨M,ι,G,uN.refl⟩,rfl,ur,.one (stepR_end u)⟩
   | some r=>exact S 0 none (by omega) rfl (λI=>⟨rfl,rfl⟩) h (by simp) λl c K v w' u O L hr=>by subst L;exact .one (stepR_round_end u O hr)
  ·rename_i k;have O : ∀i∈k,oY ok i=true:=λi h=>hi i (fO _ h);cases rd with
   | none=>cases h
   | some r=>
    simp only at h;split at h;·rename_i inf F;intro l c K hr u hkd L;obtain⟨_,_,_,_,_,I,_,g1,_,_,_,_,_,g7,g8,_⟩:=BN G.sim G.dom hr F;obtain⟨k1,k2,k3⟩:=g8 1 { I with state := .busy} ⟨rfl,rfl,rfl,rfl⟩ rfl;have Q:Steps E.P (lone (b.atR a (.beginRound :: k)) cs w) (lone (b.atR a k) cs (bO w l.b (.loop { I with state := .busy}))) := .one (stepR_beginRound u (run_beginRound g1 g7.1));exact Gd.of_steps (rd:=some r) (ds:=[]) (λ_ _=>Q) k1 k2 rfl ur (ih (some r) nt dep k _ C h O M ι a _ ⟨k1,k3,G.tr,G.nt⟩ b cs) l c K hr u hkd L
    cases h
  ·rename_i c k;have R:codeOk ok c=true:=hi _ (gy ..);have O : ∀i∈k,oY ok i=true:=λi h=>hi i (fO _ h);have two : ∀ {x y:Item},oY ok x=true->oY ok y=true ->∀i∈x :: y :: k,oY ok i=true:=by
    intro x y hx hy i p;rcases eD.1 p with rfl | p
    ·exact hx
    rcases eD.1 p with rfl | p
    ·exact hy
    exact O i p
   have one : ∀ {x:Item},oY ok x=true ->∀i∈x :: k,oY ok i=true:=by
    intro x hx i p;rcases eD.1 p with rfl | p
    ·exact hx
    exact O i p
   split at h;·exact Y k h O (.one stepR_skip)
   ·exact Y k h O (.one stepR_label)
   ·cases rd with
    | none=>
     simp only[xM,if_true]at h;injection h with h
     subst h;intro u _;exact⟨a,w,_,[],⟨M,ι,G,uN.refl⟩,rfl,ur,.one (stepR_ret u)⟩
    | some r=>exact S 2 (some .ret) (by omega) rfl (λI=>⟨rfl,rfl⟩) h (by simp) λl c K v w' u O L hr=>by subst L;exact .one (stepR_round_ret u O hr)
   ·rename_i x y;simp only[codeOk,aT]at R;exact Y _ h (two R.1 R.2) (.one stepR_seq)
   ·rename_i cnd x y;simp only[codeOk,aT]at R;split at h;·rename_i u;simp only[ib]at u;obtain⟨cv,h1,h2⟩:=u;exact Y _ h (one R.1) (.one (stepR_cond (BS (aL G.tr h1) h2)))
    ·rename_i u;simp only[ib]at u;obtain⟨cv,h1,h2⟩:=u;exact Y _ h (one R.2) (.one (stepR_cond (BS (aL G.tr h1) h2)))
    cases h
   ·exact Y _ h (two (by simpa [codeOk,oY] using R) rfl) (.one stepR_block)
   ·exact Y _ h (two (by simpa [codeOk,oY] using R) rfl) (.one (iQr (by simp[stepG,stepG.exec,Frame.atR])))
   ·exact Y _ h (two (by simpa [codeOk,oY] using R) (by simpa [codeOk,oY] using R)) (.one stepR_loop)
   ·rename_i id;split at h;·rename_i k' V;exact Y _ h (Kl V O) (.one (stepR_exit V))
    rename_i V;cases rd with
    | none=>simp at h
    | some r=>exact S (id+3) (some (.exit id)) (by omega) (by simp) (λI=>⟨rfl,rfl⟩) (by simpa using h) (by simp) λl c K v w' u hkd L hr=>by subst L;exact .one (stepR_round_exit u hkd V hr)
   ·rename_i id ops Z;split at h
    ·rename_i T hst1;have hap:Z=true->tX E ops T=true:=by
      intro hd;cases u:tX E ops T with
      | true=>rfl
      | false=>rw[hd,u]at h;simp at h
     replace h:bZ E n rd nt dep k T=some C:=by
      split at h;·cases h
      exact h
     have hpc : ∀f xs y,cV E (bZ E n) f xs=some y->mu E.P f xs y:=λf xs y h=>FF hE ih h;have htc : ∀f xs H y H',eM E (bZ E n) dep f xs H=some (y,H')->rz E.P f xs H y H':=λf xs H y H' h=>Hu hE ih h;have hreg : ∃a1 w1,kS M ι st a w nt T a1 w1/\(b.kind = .normal->Steps E.P (lone (b.atR a (.code (.region id ops Z) :: k)) cs w) (lone (b.atR a1 k) cs w1)):=by
      cases Z with| false=>exact Lc hpc htc hE.overs b k cs hst1 G| true=>
       have hwp:(Code.region id ops true).wpIn (FW b.roundOf) 0 E.P (λe a' w'=>e = .normal/\kS M ι st a w nt T a' w') a w:=
        hE.draws ops (by simpa [codeOk] using R) hpc htc nt dep id st T M ι a w b.roundOf _ hst1 (hap rfl) G λa' w' J=>⟨rfl,J⟩
       obtain⟨a1,w1,h1,h2⟩:=Mq b hwp k cs;exact⟨a1,w1,h1,λ_=>h2⟩
     obtain⟨a1,w1,⟨⟨M1,ι1,hO1,hF1⟩,hd1⟩,Q⟩:=hreg;exact Gd.of_steps (ds:=[]) (λ_=>Q) hO1.sim hF1 hd1 ur (ih rd nt dep k T C h O M1 ι1 a1 w1 hO1 b cs)
    cases h
   ·rename_i g ps assign body;simp only[codeOk,aT]at R;split at h
    ·rename_i gi first captured hg
     split at h
     ·rename_i x H' hcall;obtain⟨hS1,hF1,hD1,hmk⟩:=Wn (d:=dep) (ps:=ps) (assign:=assign) (body:=body) (fn:=b.fn) G.sim G.dom G.tr G.nt rfl;obtain⟨hfn,hthr⟩:=Hu hE ih hcall;obtain⟨a',b',hfv,hva,hvb⟩:=(aL G.tr hg).Zs;have hmv:=λ{xs us} (h:mh M ι xs us)=>h.mono (λ_ _ _ h=>h) hF1.map;have hyl:VR M (k6 ι ⟨dep,nt,st.hp.gen dep nt,0⟩ ⟨w.heap.size+1,0,0⟩) (.yld ⟨dep,nt,st.hp.gen dep nt,0⟩) (.func (.yield (w.heap.size+1)) #[] #[]) := .yld (l:=⟨w.heap.size+1,0,0⟩) (by simp[k6]) rfl;have hall:=((hmv hva).append (mh.cons hyl mh.nil)).append (hmv hvb);have W:=hthr M _ _ _ hS1 hD1 hall;rw[show(a'.toList++[Value.func (.yield (w.heap.size+1)) #[] #[]]++b'.toList).toArray=a' ++ #[Value.func (.yield (w.heap.size+1)) #[] #[]]++b' by apply GD;simp]at W;intro u;let c1:Frame:=b.atR { a with defers:=[{ target := .collected w.heap.size,args := #[]}]++a.defers} (.inRangeFunc (w.heap.size+1) :: k)
      have henter:=stepR_rangeFunc (P:=E.P) (b:=b) (a:=a) (k:=k) (cs:=cs) (w:=w) (g:=g) (ps:=ps) (assign:=assign) (body:=body) (l:=w.heap.size+1) (mark:=[{ target := .collected w.heap.size,args := #[]}])
       (d := { target := .fn (.func gi) b',args:=a' ++ #[Value.func (.yield (w.heap.size+1)) #[] #[]]}) (f:=gi) (args:=a' ++ #[Value.func (.yield (w.heap.size+1)) #[] #[]]++b')
       (by rw[u];exact run_enterLoop_outer b.fn a.tmps ps assign body) (by have hev : ∀x,a.eval (.const x)=x:=λ_=>rfl;simp[resolve,rangeCall,hfv,Deferred.ofValue,hev];rfl) (by simp[invoke,FB hfn];rfl)
      obtain⟨e,w3,fr,⟨v,he,M3,X,hv3,hS3,hF3,hD3⟩,hcomes,hfr,hleave⟩:=W (c1 :: cs);subst he;have hs1:Steps E.P (lone (b.atR a (.code (.rangeFunc g ps assign body) :: k)) cs w) (lone (c1.finish v) cs w3):=iQn (.one henter) (iQn hcomes (.one (step_leave_returned hleave)));have hfin:c1.finish v=b.atR { a with defers:=[{ target := .collected w.heap.size,args := #[]}]++a.defers} (.endRangeFunc (w.heap.size+1) :: k):=finish_atR_inRangeFunc _ v;rw[hfin]at hs1;have hF13:=hF1.trans hF3;have hr3:X ⟨dep,nt,st.hp.gen dep nt,0⟩=some ⟨w.heap.size+1,0,0⟩:=hF3.map _ _ (by simp[k6]);have hmk3:w3.heap[w.heap.size]?=some (.deferred (some [])):=(by rw[hF3.chg _ (iO.1 hmk).1 (Ij hS1 hmk)];exact hmk);have N : ∀ {m:Nat} {inf:AV},zM H' ⟨dep,nt,st.hp.gen dep nt,0⟩=some (m,inf)->m≠1 ->∃I:Loop,∃w4,Dl m I /\
       Steps E.P (lone (b.atR a (.code (.rangeFunc g ps assign body) :: k)) cs w) (lone (b.atR { a with defers:=[{ target := .collected w.heap.size,args := #[]}]++a.defers} ((I.pending.map Item.code).toList++k)) cs w4) /\
       z8 M3 X ⟨st.tm,H'.put ⟨dep,nt,st.hp.gen dep nt,0⟩ none⟩ nt { a with defers:=[{ target := .collected w.heap.size,args := #[]}]++a.defers} w4/\uN M ι st.hp.get w M3 X (H'.put ⟨dep,nt,st.hp.gen dep nt,0⟩ none).get w4 /\
       sT w w4 [w.heap.size]:=by
       intro m inf F hm;obtain⟨_,_,_,_,_,I,_,g1,_,_,_,_,_,g7,_,g9⟩:=BN hS3 hD3 hr3 F;obtain⟨k1,k2,k3⟩:=g9 { I with state := .exhausted};have hnb:I.state ≠ .busy:=by
        match m,hm with
        | 0,_=>rw[g7.1];simp
        | 1,hm=>exact absurd rfl hm
        | 2,_=>rw[g7.1];simp
        | m+3,_=>rw[g7.1];simp
       refine⟨I,_,g7,iQn hs1 (.one (stepR_endRangeFunc (run_endLoop g1 hnb))),⟨k1,k3,⟨λt=>(G.tr.mono hF13.mem hF13.map).at_ t⟩,G.nt⟩,hF13.trans k2,⟨by simp,λD hD=>?_⟩⟩;simp only[nc]at hD;subst hD;refine⟨cH _,?_⟩;show(bO w3 (w.heap.size+1) _).heap[w.heap.size]?=_;rw[eO (by omega)];exact hmk3
      split at h;·rename_i F;obtain⟨I,w4,J,Q,U,hF4,hM4⟩:=N F (by omega);rw[J.2]at Q;exact Gd.of_steps (rd:=none) (ds:=[w.heap.size]) (λ_ _=>Q) U.sim hF4 rfl hM4 (ih none nt dep k _ C h O M3 X _ w4 U b cs) u
      ·rename_i F;obtain⟨I,w4,J,Q,U,hF4,hM4⟩:=N F (by omega);rw[J.2]at Q;cases h;intro _;exact⟨_,w4,_,[w.heap.size],⟨M3,X,U,hF4⟩,rfl,hM4,iQn Q (.one (stepR_ret u))⟩
      ·rename_i id F;obtain⟨I,w4,J,Q,U,hF4,hM4⟩:=N F (by omega);rw[J.2]at Q;split at h;·rename_i k' V;exact Gd.of_steps (rd:=none) (ds:=[w.heap.size]) (λ_ _=>iQn Q (.one (stepR_exit V))) U.sim hF4 rfl hM4 (ih none nt dep k' _ C h (Kl V O) M3 X _ w4 U b cs) u
       cases h
      cases h
     cases h
    cases h
   cases h
  ·rename_i c k;have R:codeOk ok c=true:=hi _ (gy ..);have O : ∀i∈k,oY ok i=true:=λi h=>hi i (fO _ h);refine Y _ h ?_ (.one stepR_inLoop);intro i p;rcases eD.1 p with rfl | p
   ·exact R
   rcases eD.1 p with rfl | p
   ·exact R
   exact O i p
  ·rename_i id k;exact Y k h (λi h=>hi i (fO _ h)) (.one stepR_inBlock)
  ·rename_i id k;exact Y k h (λi h=>hi i (fO _ h)) (.one (iQr (by simp[stepG,stepG.exec,Frame.atR])))
  cases h
def ZB{E:Env}{ok:Array Oper->Bool}(b:E.Ok ok){n:Nat}{f:FuncId}{args:List AV}{y:AV}(h:cV E (bZ E n) f args=some y):mu E.P f args y:=FF b (abg b n) h
end
end Go.Ab
