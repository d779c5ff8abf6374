/-
  Maps of the abstract machine against the model's. No statement of a seat is proved here.
-/
import Derived.Conc.LoneCalls
import Derived.Test.YtiidajnodhkidaaGreatAbsOps
set_option linter.unusedVariables false
set_option linter.unusedSimpArgs false
set_option linter.unusedSectionVars false
set_option linter.unnecessarySimpa false
set_option linter.defProp false
namespace Go.Ab
section
def cB{c d:Type}{P:Program}(s:Sem c)(f:c->Sem d):bO P (s >>= f)=(bO P s).bind λa=>bO P (f a):=by
 induction s with| pure a=>rfl| program k b=>exact b P| mark m k b=>exact b| _=>rfl
def zO{b:Type}{P:Program}(a:b):bO P (pure a:Sem b)=some a:=rfl
def dummy(es:List MapEntry):List MapEntry:=es.map λe=>⟨e.key,Go.undef,0⟩
def JM{d:TypeDesc}{k:Value} : ∀(es:List MapEntry)(i:Nat),(Instr.findNow d k es i=none↔Instr.findNow d k (dummy es) i=none)/\(Instr.findNow d k es i=some none↔Instr.findNow d k (dummy es) i=some none) /\
 ∀j v,Instr.findNow d k (dummy es) i=some (some (j,v))->i<=j /\∃e,es[j - i]?=some e/\Instr.findNow d k es i=some (some (j,e.val)):=by
 intro es;induction es with
 | nil=>intro i;simp[dummy,Instr.findNow]
 | cons e es n=>
  intro i;obtain⟨q,f,c⟩:=n (i+1);simp only[dummy,zj,Instr.findNow];cases t:Instr.sameNow d k e.key with
  | none=>simp
  | some b=>
   cases b with| true=>refine⟨by simp,by simp,λj v h=>?_⟩;simp only[eS,tf]at h;obtain⟨rfl,_⟩:=h;exact⟨bM _,e,by simp,rfl⟩| false=>refine⟨q,f,λj v h=>?_⟩;obtain⟨g1,p,m,s⟩:=c j v h;refine⟨by omega,p,?_,s⟩;rw[show j - i=(j - (i+1))+1 by omega];simpa using m
def Ff{P:Program}{f:TypeId}{k:Value} : ∀(es:List MapEntry)(i:Nat)(o:Option (Nat × Value)),bO P (Instr.findAsking f k (dummy es) i)=some o ->∀w:World,
 (o=none->(Instr.findAsking f k es i).run P w = .ok none w) /\∀j v,o=some (j,v)->i<=j /\∃e,es[j - i]?=some e/\(Instr.findAsking f k es i).run P w = .ok (some (j,e.val)) w:=by
 intro es;induction es with
 | nil=>intro i o h w;simp only[dummy,iQU,Instr.findAsking,zO,eS]at h;subst h;exact⟨λ_=>rfl,λj v e=>by cases e⟩
 | cons e es q=>
  intro i o h w;simp only[dummy,zj,Instr.findAsking]at h;rw[cB]at h;obtain⟨b,n,h⟩:=jb.1 h;have d:=pd n w;cases b with
  | true=>simp only[if_true,zO,eS]at h;subst h;refine⟨λe=>by (cases e),λj v c=>?_⟩;cases c;exact⟨bM _,e,by simp,by simp[Instr.findAsking,d]⟩
  | false=>simp only[gB,iQe]at h;obtain⟨t,m⟩:=q (i+1) o h w;refine⟨λc=>by simp[Instr.findAsking,d,t c],λj v c=>?_⟩;obtain⟨g1,s,p,u⟩:=m j v c;refine⟨by omega,s,?_,by simp[Instr.findAsking,d,u]⟩;rw[show j - i=(j - (i+1))+1 by omega];simpa using p
def tP{P:Program}{c:Bool}{n:TypeId}{k:Value}{es:List MapEntry}{o:Option Nat}(h:DV P c n k (es.map (·.key))=some o)(w:World) :
 (Instr.checkKey c 10000 n k).run P w = .ok () w/\(o=none->(Instr.findKey n k es).run P w = .ok none w) /\∀j,o=some j ->∃e,es[j]?=some e/\(Instr.findKey n k es).run P w = .ok (some (j,e.val)) w:=by
 unfold DV at h;split at h
 ·rename_i F;obtain⟨o',b,e⟩:=bU.1 h;have v:(es.map (·.key)).map (λx=>(⟨x,Go.undef,0⟩:MapEntry))=dummy es:=by simp[dummy,Function.comp_def]
  rw[v]at b;unfold Instr.findKey at b;rw[cB]at b;obtain⟨d,hd,b⟩:=jb.1 b;have f:=pd hd w;refine⟨pd F w,?_⟩;obtain⟨C,u,z⟩:=JM (d:=d) (k:=k) es 0;cases i:Instr.findNow d k (dummy es) 0 with
  | some r=>
   rw[i]at b;simp only[zO,eS]at b;subst b;cases r with
   | none=>
    simp only[AN]at e;subst e;refine⟨λ_=>?_,λj e=>?_⟩;·simp[Instr.findKey,f,u.2 i]
    cases e
   | some p=>obtain⟨s,v0⟩:=p;simp only[Option.map_some]at e;subst e;refine⟨λe=>(by cases e),λj e=>?_⟩;cases e;obtain⟨_,q,t,D⟩:=z s v0 i;exact⟨q,by simpa using t,by simp[Instr.findKey,f,D]⟩
  | none=>
   rw[i]at b;simp only at b;obtain⟨g1,t⟩:=Ff es 0 o' b w;have m:=C.2 i;cases o' with
   | none=>
    simp only[AN]at e;subst e;refine⟨λ_=>?_,λj e=>?_⟩;·simp[Instr.findKey,f,m,g1 rfl]
    cases e
   | some p=>obtain⟨s,v0⟩:=p;simp only[Option.map_some]at e;subst e;refine⟨λe=>(by cases e),λj e=>?_⟩;cases e;obtain⟨_,q,B,y⟩:=t s v0 rfl;exact⟨q,by simpa using B,by simp[Instr.findKey,f,m,y]⟩
 cases h
def zI{P:Program}{t c b:TypeId}(h:Pf P t=some (c,b)):P.underlying t=some (.map c b):=by
 unfold Pf at h;split at h;·rename_i k e d;cases h;exact d
 cases h
section
variable{P:Program}{M:Mem}{ι:Map}{g:dv}{w:World}{r:Ref}
def BM(D:iA M ι g w){d:List AV}(p:oz g r=some d){l:Loc}(J:ι r=some l)(O:l.esz=0) :
 ∃a f c,g r=some ⟨0,.v (.bool true) :: d,a,f⟩/\w.heap[l.b]?=some (.map c c.size)/\c.size=d.length /\
  (∀(i:Nat) ent e,d[i]?=some ent->c[i]?=some e ->∃u s,ent = .tup [u,s]/\k7 u=some e.key/\VR M ι s e.val/\e.born=i) /\∀t,d.mapM IP=some t->t=c.toList.map (·.key):=by
 unfold oz at p;split at p
 ·rename_i es f B;cases p;obtain⟨Q,j,H⟩:=D.live r _ B;rw[J]at j;cases j;rcases H.objOk rfl with ⟨_,_,_,_,_,_,_,_,_,h,_⟩ | ⟨q,c,R,N,h,L,G,z⟩ | ⟨_,_,_,_,_,_,_,_,h,_⟩
  ·simp at h
  rotate_left
  ·simp at h
  simp only[yc,iQs]at h;subst h;refine⟨false,f,c,B,L,G,z,λt n=>?_⟩;have I:=iG n;apply K1;intro i;rcases fQ i c.size with hi | hi
  ·have m:i<d.length:=(by omega);obtain⟨y,K,x⟩:=mB n i _ (eu m);obtain⟨u,s,F,C,_⟩:=z i _ c[i] (eu m) (kY hi);rw[K];rw[F]at x;simp only[IP]at x;rw[x]at C;cases C;simp[kY hi]
  rw[yf (by rw[I];omega),yf (by simp;omega)]
 cases p
def PO(W:iA M ι g w){t:TypeId}{x k y:AV}{R L:Value}(hx:VR M ι x R)(hk:VR M ι k L){ok:Bool}{bs:List bC}(h:pB P g t (some x) (some k) ok=some (y,bs)) :
 bs=[] /\∃u,(Instr.lookup t R L ok).run P w = .ok u w/\VR M ι y u:=by
 have D : ∀ {v:AV} {u:Value} (b:Bool),VR M ι v u->VR M ι (if ok then .tup [v,.v (.bool b)] else v) (if ok then .tuple #[u,.bool b] else u):=by
  intro v u b j;cases ok with
  | false=>exact j
  | true=>
   refine .tup (by simp) rfl λi c u' H q=>?_;match i with
   | 0=>simp at H q;subst H;subst q;exact j
   | 1=>simp at H q;subst H;subst q;exact .v rfl
   | i+2=>simp at H
 unfold pB at h;split at h
 ·rename_i kt et r' kv V J K;cases J;cases hx with | mp hr Z=>
  rename_i l;have I:L=kv:=by simpa using vX hk (by simpa using K)
  subst I;split at h
  ·rename_i U hm;obtain⟨a,f,entries,hg,S,hsz,F,Q⟩:=BM W hm hr Z;split at h
   ·rename_i T G;have d:=Q T G;have m:entries.isEmpty=T.isEmpty:=by rw[d];simp
    split at h
    ·rename_i i s;rw[d]at s;obtain⟨v,j,h⟩:=bU.1 h;cases h;obtain⟨B,_,h3⟩:=tP s w;obtain⟨e,he,C⟩:=h3 i rfl;obtain⟨N,n,j⟩:=jb.1 j;obtain⟨ka,va,X,e2,e3⟩:=F i N e n (by simpa using he);subst X;simp only[L1,eS]at j;subst j;refine⟨rfl,_,?_,D true e3.1⟩;rw[<-d,<-m]at B;have p:(getObj l.b).run P w = .ok (.map entries entries.size) w:=by simp[getObj,Sem.run,S]
     simp only[Instr.lookup,iQg,iQj,bL (zI V),iQd,p,B,C]
    ·rename_i s;rw[d]at s;obtain⟨z,O,h⟩:=bU.1 h;cases h;obtain⟨B,Y,_⟩:=tP s w;obtain⟨u,q,j⟩:=yL O w;refine⟨rfl,_,?_,D false (jV j)⟩;rw[<-d,<-m]at B;have p:(getObj l.b).run P w = .ok (.map entries entries.size) w:=by simp[getObj,Sem.run,S]
     simp only[Instr.lookup,iQg,iQj,bL (zI V),iQd,p,B,Y rfl,q]
    cases h
   cases h
  cases h
 cases h
def PQ(q:iA M ι g w){j:Array TypeId}{ty:TypeId}{r':Ref}{x:AV}{m:Value}(z:VR M ι (.mp r') m){bs:List bC}(h:BJ P g j[0]? r'=some (x,bs)) :
 bs=[] /\∃u,(Builtin.len_ j ty #[m]).run P w = .ok u w/\VR M ι x u:=by
 unfold BJ at h;split at h
 ·rename_i p n i B;obtain⟨t,i,c⟩:=jb.1 i;cases h;cases z with | mp y s=>
  rename_i l;obtain⟨a,f,entries,D,C,e,_,_⟩:=BM q B y s;have d:(getObj l.b).run P w = .ok (.map entries entries.size) w:=by simp[getObj,Sem.run,C]
  refine⟨rfl,goInt entries.size,by simp[Builtin.len_,i,bL (zI c),d],?_⟩;rw[<-e];exact .v rfl
 cases h
def Kn(m:iA M ι g w)(L:ι r=none){w':World}{o:Obj}(d:Er w w' o){k:bC}(B:oW M (lQ ι r ⟨w.heap.size,0,0⟩) w' ⟨w.heap.size,0,0⟩ k) :
 iA M (lQ ι r ⟨w.heap.size,0,0⟩) (mF g r k) w'/\vg M ι g w M (lQ ι r ⟨w.heap.size,0,0⟩) (mF g r k) w':=by
 have f:=Gm (l:=⟨w.heap.size,0,0⟩) L;have p : ∀b o x,M b o=some x->b<w.heap.size:=λb o x h=>iQm w ⟨b,o,none⟩ (m.mem b o x h);have one : ∀ {q:Ref} {k' c},mF g r k q=some k'->lQ ι r ⟨w.heap.size,0,0⟩ q=some c->(q=r/\c.b=w.heap.size)\/(q≠r/\g q=some k'/\ι q=some c/\c.b<w.heap.size):=by
  intro q k' c h j;unfold mF at h;unfold lQ at j;split at h;·rename_i e;rw[if_pos e]at j;cases j;exact .inl ⟨e,rfl⟩
  rename_i e;rw[if_neg e]at j;obtain⟨D,n,y⟩:=m.live q k' h;rw[j]at n;cases n;exact .inr ⟨e,h,j,y.lt⟩
 refine⟨⟨λb o x h=>d.cell (m.mem b o x h),λq k' h=>?_,λq F k1 K c D C u J N G=>?_⟩,⟨d.os,d.tape,d.output,by rw[d.heap];simp,λb I _=>d.old b I,λ_ _ _ h=>h,f,λq k' c C u=>?_,λ_ _ _ h => .inl h⟩⟩
 ·unfold mF at h;split at h;·rename_i e;subst e;cases h;exact⟨⟨w.heap.size,0,0⟩,by simp[lQ],B.TN rfl λo x O=>absurd (p _ _ _ O) (Cd _)⟩
  obtain⟨c,v,i⟩:=m.live q k' h;exact⟨c,f q c v,i.bT (λ_ _ _ h=>h) f (d.old _ i.lt) i.frozen⟩
 ·rcases one C J with ⟨t,s⟩ | ⟨t,s,z,H⟩<;>rcases one u N with ⟨f1,f2⟩ | ⟨f1,f2,f3,f4⟩
  ·rw[t,f1]
  ·omega
  ·omega
  exact m.inj q F k1 K c D s f2 z f3 G
 rcases one C u with ⟨t,s⟩ | ⟨t,s,z,H⟩
 ·exact .inl (by omega)
 exact .inr ⟨q,k',c,s,z,rfl⟩
def Np(f:iA M ι g w)(d:r.k=0)(m:ι r=none)(t:TypeId) :
 ∃u w',(Instr.makeMap t none).run P w = .ok u w'/\kD M ι g w r (.mp r) [qv []] u w':=by
 have b:Er w (w.alloc (.map #[] 0)) (.map #[] 0):=⟨rfl,rfl,rfl,rfl⟩;obtain⟨s,j⟩:=Kn f m b (k:=qv []) (.inr (.inl ⟨[], #[],rfl,rfl,rfl,by rw[b.heap];simp,rfl,λi n e h=>by simp at h⟩));refine⟨.map (some w.heap.size),w.alloc (.map #[] 0),by simp[Instr.makeMap,run_newObj_alloc],M,lQ ι r ⟨w.heap.size,0,0⟩,.mp (l:=⟨w.heap.size,0,0⟩) (by simp[lQ]) rfl,by rw[sM _ _ d];exact s,by rw[sM _ _ d];exact j,?_⟩;intro q c p;have:q≠r:=by intro e;exact p 0 (by simp) (by rw[e];cases r;simp_all)
 simpa [lQ,this] using c
def wh{H:aa}{l:Loc}{k:bC}(m:iA M ι H.get w)(R:uq ι H)(v:ι r=some l)(N:l.esz=0)(t:H.get r=some k){k':bC}{o':Obj}(G:oW M ι (cM w l.b o') l k') :
 iA M ι (H.put r (some k')).get (cM w l.b o')/\vg M ι H.get w M ι (H.put r (some k')).get (cM w l.b o')/\uq ι (H.put r (some k')):=by
 obtain⟨X,p,L⟩:=m.live r _ t;rw[v]at p;cases p;have D:k.esz=0:=by rw[<-L.esz];exact N
 have J : ∀o x,M l.b o=some x->False:=by
  intro o x y;have:=m.mem _ _ _ y;rcases(L.objOk D).obj with ⟨_,j⟩ | ⟨_,_,j⟩ | ⟨_,_,_,_,_,_,j⟩
  ·simp[World.cell?,j]at this
  ·simp[World.cell?,j]at this
  simp[World.cell?,j]at this
 have c : ∀q k1,(H.put r (some k')).get q=some k1 ->∃s,H.get q=some s:=by
  intro q k1 d;rw[aa.ad]at d;split at d;·rename_i e;exact⟨_,e ▸ t⟩
  exact⟨k1,d⟩
 refine⟨⟨λb o x y=>?_,λq k1 d=>?_,λq K k1 U i W I z T j Q=>?_⟩,⟨rfl,rfl,rfl,by simp[cM],λb _ C=>fV (C r _ l t v),λ_ _ _ h=>h,λ_ _ h=>h,λq k1 i I z=>?_,λ_ _ _ h => .inl h⟩,λq O d=>?_⟩;·have F:l.b≠b:=λe=>J o x (e ▸ y);rw[iQk (w:=w) (fV F)];exact m.mem b o x y
 ·by_cases f:q=r;·subst f;rw[aa.ad,if_pos rfl]at d;cases d;exact⟨l,v,G.TN N J⟩
  rw[aa.ad,if_neg f]at d;obtain⟨i,n,u⟩:=m.live q k1 d;have B:l.b≠i.b:=λe=>f (m.inj q r k1 _ i l d t n v e.symm);exact⟨i,n,u.bT (λ_ _ _ h=>h) (λ_ _ h=>h) (fV B) u.frozen⟩
 ·obtain⟨s,g1⟩:=c q k1 I;obtain⟨S,V⟩:=c K U z;exact m.inj q K s S i W g1 V T j Q
 ·obtain⟨s,g1⟩:=c q k1 I;exact .inr ⟨q,s,i,g1,z,rfl⟩
 rw[aa.jo _ _ _ (by rw[t];rfl)];exact R q O d
def Jh{H:aa}(S:iA M ι H.get w)(hD:uq ι H){t:TypeId}{m k x y:AV}{um n I:Value}(hm:VR M ι m um)(hk:VR M ι k n)(hx:VR M ι x I){H':aa}(h:jU P H t (some m) (some k) (some x)=some (y,H')) :
 ∃w',(Instr.mapUpdate t um n I).run P w = .ok () w'/\rn M ι H w y H' undef w':=by
 unfold jU at h;split at h
 ·rename_i kt et r' k' x' ht J e2 e3;cases J;cases e2;cases e3;cases hm with | mp V T=>
  rename_i l;split at h
  ·rename_i kv z G W;have U:n=kv:=vX hk G;subst U;obtain⟨a,f,entries,hg,X,C,s,hks⟩:=BM S W V T;have O:l.b<w.heap.size:=(jx.1 X).1;have L:(getObj l.b).run P w = .ok (.map entries entries.size) w:=by simp[getObj,Sem.run,X]
   have Q : ∀o,(setObj l.b o).run P w = .ok () (cM w l.b o):=by intro o;simp[setObj,Sem.run,X,cM]
   split at h
   ·rename_i ks R;have q:=hks ks R;split at h
    ·rename_i i K;rw[q]at K;obtain⟨hc,h⟩:=fP.1 h;cases h;obtain⟨Y,_,h3⟩:=tP K w;obtain⟨e,he,N⟩:=h3 i rfl;have d:entries[i]?=some e:=by simpa using he
     have hil:i<entries.size:=(jx.1 d).1;have hsb:Instr.sameBits 10000 e.key n=true:=(by rw[q]at hc;simp only[nM,GM,d,Option.map_some,eS]at hc;exact hc);have D:(Instr.keyThatStays (((entries[i]?).map (·.key)).getD n) n).run P w = .ok n w:=(by rw[d];simp[Instr.keyThatStays,hsb]);refine⟨cM w l.b (.map (entries.modify i λe => { e with key:=n,val:=I}) entries.size),by simp only[Instr.mapUpdate,iQg,bL (zI ht),iQd,L,Y,N,D,Q],M,ι,.v rfl,?_⟩;refine wh S hD V T hg (.inr (.inl ⟨z.set i (.tup [k,x]),entries.modify i λe => { e with key:=n,val:=I},rfl,rfl,rfl,?_,by simp[C],λj F J p c=>?_⟩));·rw[iE O];simp
     rw[G3]at c;by_cases B:i=j;·subst B;rw[if_pos rfl,d]at c;simp only[Option.map_some,eS]at c;subst c;rw[G5 (by omega)]at p;cases p;obtain⟨_,_,_,_,_,hb⟩:=s i _ e (eu (by omega)) d;exact⟨k,x,rfl,G,hx,hb⟩
     rw[if_neg B]at c;rw[G2 B]at p;exact s j F J p c
    ·rename_i K;rw[q]at K;cases h;obtain⟨Y,h2,_⟩:=tP K w;refine⟨cM w l.b (.map (entries.push { key:=n,val:=I,born:=entries.size}) (entries.size+1)),by simp only[Instr.mapUpdate,iQg,bL (zI ht),iQd,L,Y,h2 rfl,Q],M,ι,.v rfl,?_⟩;refine wh S hD V T hg (.inr (.inl ⟨z++[.tup [k,x]],entries.push { key:=n,val:=I,born:=entries.size},rfl,rfl,rfl,?_,by simp[C],λj F J p c=>?_⟩));·rw[iE O];simp
     rcases fQ j entries.size with u | hge
     ·rw[FA u,<-kY u]at c;rw[kR (by omega)]at p;exact s j F J p c
     rw[kj (by omega)]at p;have Z:j=entries.size:=(by have:=(fg.1 p).1;simp at this;omega);subst Z;simp only[C,vO,K8,eS]at p;subst p;simp at c;subst c;exact⟨k,x,rfl,G,hx,rfl⟩
    cases h
   cases h
  cases h
 cases h
def Le{H:aa}(hS:iA M ι H.get w)(hD:uq ι H){t:TypeId}{m k y:AV}{um s:Value}(hm:VR M ι m um)(hk:VR M ι k s){H':aa}(h:ru P H t (some m) (some k)=some (y,H')) :
 ∃u w',(Instr.mapEntry t um s).run P w = .ok u w'/\rn M ι H w y H' u w':=by
 have Z : ∀ {v:AV} {u:Value} (n:Nat),VR M ι v u->VR M ι (.tup [v,.v (.int .i64 n)]) (.tuple #[u,goInt n]):=by
  intro v u n G;refine .tup (by simp) rfl λi c u' J S=>?_;match i with
  | 0=>simp at J S;subst J;subst S;exact G
  | 1=>simp at J S;subst J;subst S;exact .v rfl
  | i+2=>simp at J
 unfold ru at h;split at h
 ·rename_i kt et r' k' ht T e2;cases T;cases e2;cases hm with | mp hr hz=>
  rename_i l;split at h
  ·rename_i kv p R hma;have huk:s=kv:=vX hk R;subst huk;obtain⟨a,f,entries,hg,hh,I,F,hks⟩:=BM hS hma hr hz;have X:l.b<w.heap.size:=(jx.1 hh).1;have V:(getObj l.b).run P w = .ok (.map entries entries.size) w:=by simp[getObj,Sem.run,hh]
   have Y : ∀o,(setObj l.b o).run P w = .ok () (cM w l.b o):=by intro o;simp[setObj,Sem.run,hh,cM]
   split at h
   ·rename_i ks hks0;have D:=hks ks hks0;split at h
    ·rename_i i U;rw[D]at U;obtain⟨J,h⟩:=fP.1 h;obtain⟨v,G,h⟩:=bU.1 h;cases h;obtain⟨h1,_,h3⟩:=tP U w;obtain⟨e,he,W⟩:=h3 i rfl;have q:entries[i]?=some e:=by simpa using he
     have hil:i<entries.size:=(jx.1 q).1;have hsb:Instr.sameBits 10000 e.key s=true:=(by rw[D]at J;simp only[nM,GM,q,Option.map_some,eS]at J;exact J);have O:(Instr.keyThatStays (((entries[i]?).map (·.key)).getD s) s).run P w = .ok s w:=(by rw[q];simp[Instr.keyThatStays,hsb]);obtain⟨B,N,G⟩:=jb.1 G;obtain⟨ka,va,q1,q2,q3,q4⟩:=F i B e N q;subst q1;simp only[L1,eS]at G;subst G;refine⟨.tuple #[e.val,goInt i],cM w l.b (.map (entries.modify i λe => { e with key:=s}) entries.size),?_,M,ι,Z i q3,?_⟩
     ·have Q:(Option.map (λx:MapEntry=>(x.born:Int)) entries[i]?).getD 0=(i:Int):=by rw[q];simp[q4]
      simp only[Instr.mapEntry,iQg,iQj,bL (zI ht),iQd,V,h1,W,O,Y,Q]
     refine wh hS hD hr hz hg (.inr (.inl ⟨p.set i (.tup [k,va]),entries.modify i λe => { e with key:=s},rfl,rfl,rfl,?_,by simp[I],λj B T C d=>?_⟩));·rw[iE X];simp
     rw[G3]at d;by_cases L:i=j;·subst L;rw[if_pos rfl,q]at d;simp only[Option.map_some,eS]at d;subst d;rw[G5 (by omega)]at C;cases C;exact⟨k,va,rfl,R,q3,q4⟩
     rw[if_neg L]at d;rw[G2 L]at C;exact F j B T C d
    ·rename_i U;rw[D]at U;obtain⟨z,hzz,h⟩:=bU.1 h;cases h;obtain⟨h1,h2,_⟩:=tP U w;obtain⟨uz,S,G⟩:=yL hzz w;refine⟨.tuple #[uz,goInt p.length],cM w l.b (.map (entries.push { key:=s,val:=uz,born:=entries.size}) (entries.size+1)),?_,M,ι,Z p.length (jV G),?_⟩;·simp only[Instr.mapEntry,iQg,iQj,bL (zI ht),iQd,V,h1,h2 rfl,S,Y,I]
     refine wh hS hD hr hz hg (.inr (.inl ⟨p++[.tup [k,z]],entries.push { key:=s,val:=uz,born:=entries.size},rfl,rfl,rfl,?_,by simp[I],λj B T C d=>?_⟩));·rw[iE X];simp
     rcases fQ j entries.size with K | hge
     ·rw[FA K,<-kY K]at d;rw[kR (by omega)]at C;exact F j B T C d
     rw[kj (by omega)]at C;have hj0:j=entries.size:=(by have:=(fg.1 C).1;simp at this;omega);subst hj0;simp only[I,vO,K8,eS]at C;subst C;simp at d;subst d;exact⟨k,z,rfl,R,jV G,rfl⟩
    cases h
   cases h
  cases h
 cases h
def Hf{H:aa}(O:iA M ι H.get w)(W:uq ι H){t:TypeId}{m s x y:AV}{S us B:Value}(hm:VR M ι m S)(Z:VR M ι s us)(hx:VR M ι x B){T:aa}(h:mq H (some m) (some s) (some x)=some (y,T)) :
 ∃w',(Instr.entryStore t S us B).run P w = .ok () w'/\rn M ι H w y T undef w':=by
 unfold mq at h;split at h
 ·rename_i r' kd n x' C e2 e3;cases C;cases e2;cases e3;cases hm with | mp R Q=>
  rename_i l;cases Z;split at h
  ·rename_i z F;obtain⟨hn,h⟩:=fP.1 h;split at h
   ·rename_i U va u;cases h;obtain⟨a,f,entries,hg,G,D,d,_⟩:=BM O F R Q;have L:l.b<w.heap.size:=(jx.1 G).1;have K:(getObj l.b).run P w = .ok (.map entries entries.size) w:=by simp[getObj,Sem.run,G]
    have N : ∀o,(setObj l.b o).run P w = .ok () (cM w l.b o):=by intro o;simp[setObj,Sem.run,G,cM]
    have i:n.toNat<entries.size:=by have:=(fg.1 u).1;omega
    have born : ∀j (p:j<entries.size),entries[j].born=j:=(by intro j p;obtain⟨_,_,_,_,_,X⟩:=d j _ entries[j] (eu (by omega)) (kY p);exact X);have I:entries.findIdx? (λe=>(e.born:Int) == n)=some n.toNat:=by
     rw[Array.findIdx?_eq_some_iff_getElem];refine⟨i,?_,λj p=>?_⟩;·rw[born _ i];simp;omega
     rw[born j (by omega)];simp;omega
    obtain⟨Y,va',V,q2,q3,q4⟩:=d n.toNat _ entries[n.toNat] u (kY i);cases V;refine⟨cM w l.b (.map (entries.modify n.toNat λe => { e with val:=B}) entries.size),?_,M,ι,.v rfl,?_⟩;·simp only[Instr.entryStore,iQg,iQj,iQd,K,asInt,asIntOf,I,N]
    refine wh O W R Q hg (.inr (.inl ⟨z.set n.toNat (.tup [U,x]),entries.modify n.toNat λe => { e with val:=B},rfl,rfl,rfl,?_,by simp[D],λj J C p c=>?_⟩));·rw[iE L];simp
    rw[G3]at c;by_cases q:n.toNat=j;·subst q;rw[if_pos rfl,kY i]at c;simp only[Option.map_some,eS]at c;subst c;rw[G5 (by omega)]at p;cases p;exact⟨U,x,rfl,q2,hx,q4⟩
    rw[if_neg q]at c;rw[G2 q]at p;exact d j J C p c
   cases h
  cases h
 cases h
def IX{g:dv}{r:Ref}{cap:Nat}{c:Bool}{b:List AV}(h:W3 g r=some (cap,c,b)) :
 ∃n f,g r=some ⟨0,.v (.bool false) :: .v (.int .i64 n) :: .v (.bool c) :: b,false,f⟩/\n.toNat=cap:=by
 unfold W3 at h;split at h;·rename_i n i d f e;cases h;exact⟨n,f,e,rfl⟩
 cases h
def L8(q:iA M ι g w){r:Ref}{l:Loc}(D:ι r=some l){cap:Nat}{m:Bool}{d:List AV}(h:W3 g r=some (cap,m,d)) :
 ∃s t arr,w.heap[l.b]?=some (.chan cap arr m s t false)/\arr.size=d.length /\∀(i:Nat) x u,d[i]?=some x->arr[i]?=some u->VR M ι x u:=by
 obtain⟨n,f,G,K⟩:=IX h;obtain⟨L,j,C⟩:=q.live r _ G;rw[D]at j;cases j;rcases C.objOk rfl with ⟨_,_,_,_,_,_,_,_,_,e,_⟩ | ⟨_,_,_,_,e,_⟩ | ⟨c,s,t,I,p,arr,_,_,e,y,B,z⟩
 ·simp at e
 ·simp at e
 simp only[yc,AV.v.injEq,Value.int.injEq,Value.bool.injEq,iQs]at e;obtain⟨J,H,F⟩:=e;subst H F;have:c=cap:=by omega
 subst this;exact⟨s,t,arr,y,B,z⟩
def LL(z:iA M ι g w)(v:r.k=0)(G:ι r=none){t e:TypeId}{b:Nat}(f:MU P t=some e)(s:nT P e=some b)(k:IntKind)(n:Nat)(F:n<=1000000)(p:b<=1000000) :
 ∃u w',(Instr.makeChan t (.int k n)).run P w = .ok u w'/\kD M ι g w r (.ch r) [IW n false []] u w':=by
 unfold MU at f;split at f
 ·rename_i D I C;cases f;unfold nT at s;obtain⟨i,hi,j⟩:=bU.1 s;have d:Er w (w.alloc (.chan n #[] false 0 0 false)) (.chan n #[] false 0 0 false):=⟨rfl,rfl,rfl,rfl⟩;obtain⟨y,B⟩:=Kn z G d (k:=IW n false []) (.inr (.inr ⟨n,0,0,false,[], #[],rfl,rfl,rfl,by rw[d.heap];simp,rfl,λi x u h=>by simp at h⟩));have c:(i.bytes:Int) * n<=281474976710544:=by
   have J:i.bytes * n<=1000000 * 1000000:=Nat.mul_le_mul (j ▸ p) F;have y:((i.bytes * n:Nat):Int)=(i.bytes:Int) * n:=by simp
   omega
  refine⟨_,_,Go.Conc.run_makeChan C hi k n (by omega) c,M,lQ ι r ⟨w.heap.size,0,0⟩,.ch (l:=⟨w.heap.size,0,0⟩) (by simp[lQ]) rfl,by rw[sM _ _ v];exact y,by rw[sM _ _ v];exact B,?_⟩;intro q m H;have:q≠r:=by intro e;exact H 0 (by simp) (by rw[e];cases r;simp_all)
  simpa [lQ,this] using m
 cases f
def HL(w:World)(c cap:Nat)(b:Array Value)(d:Bool)(s r:Nat):w.setChan c cap b d s r false=cM w c (.chan cap b d s r false):=rfl
def Jd(P:Program)(o:Oper)(a:Act)(w:World)(S:Value->World->Prop):Prop:=
 ∀(b:Frame)(k:List Item)(cs:List Frame)(ops:Array Oper)(i:Nat)(rest:List Nat),b.kind = .normal->ops[i]?=some o->Region.wanted o (yielded ops a.tmps)=true ->
  ∃u w',S u w'/\step P (lone (b.atR a (.inRegion ops (i :: rest) :: k)) cs w) = .next (lone (b.atR (a.put o.dst u) (.inRegion ops rest :: k)) cs w')
def AS{P:Program}{b:Frame}{a:Act}{k:List Item}{cs:List Frame}{w w':World}{ops:Array Oper}{i:Nat}{rest:List Nat}{o:Oper}{cases:Array CommCase}{shape:CommShape}(m:b.kind = .normal)(h:ops[i]?=some o)
 (f:Region.wanted o (yielded ops a.tmps)=true) (hd : ∀c,o.op ≠ .defer c) (j:(execOp a.eval o).run P w = .ok (.comm cases true shape) w') :
 ∃es,stepG P true (Go.Conc.G (b.atR a (.inRegion ops (i :: rest) :: k)) cs) w = .comm (Go.Conc.G (b.atR a (.inRegion ops (i :: rest) :: k)) cs) cases true shape w' es:=by
 have e:=stepGR_op (P:=P) (b:=b) (k:=k) (cs:=cs) (w:=w) (rest:=rest) h f;rw[Oper.semAt_eq _ _ _ hd]at e;unfold Go.Conc.G;rw[e];have d:(b.kind == CallKind.early)=false:=by rw[m];rfl
 refine⟨Go.Conc.listed P b.fn a o w,?_⟩;simp[stepG.apply,j,Frame.atR,d,GStep.after,Go.Conc.listed]
def Ur{P:Program}{o:Oper}{a:Act}{H:aa}(O:iA M ι H.get w)(W:uq ι H){L q:Operand}(B:o.op = .send L q){c x y:AV}{S:aa}(U:VR M ι c (a.eval L))(hx:VR M ι x (a.eval q))
 (h:Hc H (some c) (some x)=some (y,S)):Jd P o a w λu w'=>rn M ι H w y S u w':=by
 unfold Hc at h;split at h
 ·rename_i r x' V e2;cases V;cases e2;split at h
  ·rename_i cap e m;obtain⟨⟨hlt,hfl⟩,h⟩:=fP.1 h;cases h;generalize J:a.eval L=cv at U;cases U with | @ch _ _ l Q Y=>
   obtain⟨s,t,arr,R,D,N⟩:=L8 O Q m;obtain⟨n,f,hg,_⟩:=IX m;have X:l.b<w.heap.size:=(jx.1 R).1;intro b k cs ops i rest hk T hw;obtain⟨es,C⟩:=AS (P:=P) (b:=b) (a:=a) (k:=k) (cs:=cs) (w:=w) (w':=w) (rest:=rest) (cases := #[Go.Conc.scase l.b (a.eval q) (.tuple #[])]) (shape := .send) hk T hw (by simp[B]) (by simp[execOp,B,Go.Conc.scase,J]);have F:=Go.Conc.step_lone_send_room C R (by omega);obtain⟨k1,Z,k3⟩:=wh O W Q Y hg (k':=IW cap false (e++[x])) (o' := .chan cap (arr.push (a.eval q)) false (s+1) t false)
    (.inr (.inr ⟨cap,s+1,t,false,e++[x],arr.push (a.eval q),rfl,rfl,rfl,iE X,by simp[D],λj z u d p=>by
     rcases fQ j e.length with I | I
     ·rw[kR I]at d;rw[FA (by omega)]at p;exact N j z u d (by rw[<-p];exact kY (by omega))
     rw[kj I]at d;have G:j - e.length=0:=(by have:=(fg.1 d).1;simp at this;omega);rw[G]at d;have K:j=arr.size:=by omega
     rw[K,Array.getElem?_push_size]at p;simp at d p;subst d p;exact hx⟩))
   refine⟨undef,_,⟨M,ι,.v rfl,k1,Z,k3⟩,?_⟩;rw[Go.Conc.lone_eq_solo,F,iQq,T,Go.Conc.lone_eq_solo,HL];rfl
  cases h
 cases h
def RF{M:Mem}{ι:Map}{x:AV}{u:Value}(ok b:Bool)(h:VR M ι x u):VR M ι (ac5 ok x b) (Go.Conc.got ok u b):=by
 cases ok with| false=>exact h| true=>
  refine .tup (by simp) rfl λi c v d e=>?_;match i with
  | 0=>simp at d e;subst d e;exact h
  | 1=>simp at d e;subst d e;exact .v rfl
  | i+2=>simp at d
def Us{P:Program}{o:Oper}{a:Act}{H:aa}(N:iA M ι H.get w)(hD:uq ι H){t:TypeId}{Y:Operand}{ok:Bool}(F:o.op = .recv t Y ok){c y:AV}{H':aa}(hc:VR M ι c (a.eval Y))
 (h:J0 P H t (some c) ok=some (y,H')):Jd P o a w λu w'=>rn M ι H w y H' u w':=by
 unfold J0 at h;split at h
 ·rename_i r z e1 D;cases e1;generalize X:a.eval Y=cv at hc;cases hc with | @ch _ _ l R hz=>
  obtain⟨e,he,I⟩:=jb.1 D;unfold MU at he;split at he
  ·rename_i dir e' G;cases he;unfold fk at I;obtain⟨v0,V,U⟩:=jb.1 I;obtain⟨inf,hi,S⟩:=jb.1 V;have Z:VR M ι z v0:=jV U;have q:(execOp a.eval o).run P w = .ok (.comm #[Go.Conc.rcase l.b v0] true (.recv ok)) w:=by
    simp[execOp,F,Go.Conc.rcase,X,run_underlying G,zeroValue,typeInfo,hi,S]
   split at h
   ·rename_i cap Q x K d;cases h;obtain⟨s,t',arr,O,m,C⟩:=L8 N R d;obtain⟨n,f,hg,_⟩:=IX d;have hb:l.b<w.heap.size:=(jx.1 O).1;have p:0<arr.size:=by rw[m];simp
    intro b k cs ops i rest T L W;obtain⟨es,v⟩:=AS (P:=P) (b:=b) (a:=a) (k:=k) (cs:=cs) (w:=w) (w':=w) (rest:=rest) T L W (by simp[F]) q;have B:=Go.Conc.step_lone_recv_buf ok v O p;obtain⟨k1,k2,k3⟩:=wh N hD R hz hg (k':=IW cap Q K) (o' := .chan cap (arr.extract 1 arr.size) Q s (t'+1) false)
     (.inr (.inr ⟨cap,s,t'+1,Q,K,arr.extract 1 arr.size,rfl,rfl,rfl,iE hb,by simp[m],λj z u J G=>by
      refine C (j+1) z u (by simpa using J) ?_;have hj:=(fg.1 J).1;rw[Array.getElem?_extract]at G;rw[Nat.add_comm j 1];split at G;·exact G
      cases G⟩))
    refine⟨_,_,⟨M,ι,RF ok true (C 0 x (arr.getD 0 undef) rfl (by simp[Array.getD,p])),k1,k2,k3⟩,?_⟩;rw[Go.Conc.lone_eq_solo,B,iQq,L,Go.Conc.lone_eq_solo,HL];rfl
   ·rename_i cap d;cases h;obtain⟨s,t',arr,O,m,C⟩:=L8 N R d;have ha:arr = #[]:=Mt (by simpa using m);subst ha;intro b k cs ops i rest T L W;obtain⟨es,v⟩:=AS (P:=P) (b:=b) (a:=a) (k:=k) (cs:=cs) (w:=w) (w':=w) (rest:=rest) T L W (by simp[F]) q;have B:=Go.Conc.step_lone_recv_shut ok v O;refine⟨_,_,⟨M,ι,RF ok false Z,N,vg.refl,hD⟩,?_⟩;rw[Go.Conc.lone_eq_solo,B,iQq,L,Go.Conc.lone_eq_solo];rfl
   cases h
  cases he
 cases h
def Rt{P:Program}{o:Oper}{a:Act}{w:World}{K:Act->World->Prop}{ops:Array Oper}{i:Nat}(u:ops[i]?=some o)(C:Region.wanted o (yielded ops a.tmps)=true)(b:Frame)
 (h:o.wpIn (FW b.roundOf) 0 P a w K (λ_ _ _=>False)) (rest:List Nat) (k:List Item) (cs:List Frame) :
 ∃z w',K z w'/\Steps P (lone (b.atR a (.inRegion ops (i :: rest) :: k)) cs w) (lone (b.atR z (.inRegion ops rest :: k)) cs w'):=by
 obtain⟨_,h⟩:=h;have s:=stepGR_op (P:=P) (b:=b) (k:=k) (cs:=cs) (w:=w) (rest:=rest) u C;have j : ∀v,(b.atR a (.inRegion ops (i :: rest) :: k)).finish v=b.atR (a.put o.dst v) (.inRegion ops rest :: k):=by
  intro v;rw[iQq,u];rfl
 have p : ∀n,(FW b.roundOf).room n:=λn _ h=>by simp[FW,Fence.wide]at h
 rw[show(FW b.roundOf).round=b.roundOf from rfl]at h;unfold Oper.uponIn at h;split at h;·rename_i v w' m;refine⟨_,_,h,.one (iQo ?_)⟩;rw[s,<-j];simp[stepG.apply,m]
 ·rename_i w' m;refine⟨_,_,h,.one (iQo ?_)⟩;rw[s,<-j];simp[stepG.apply,m]
 ·rename_i d w' m;refine⟨_,_,h,.one (iQo ?_)⟩;have D:({ b.atR a (.inRegion ops (i :: rest) :: k)with defers:=d :: a.defers}:Frame).finish undef =
   b.atR ({ a with defers:=d :: a.defers}.put o.dst undef) (.inRegion ops rest :: k):=by
   have B:=iQq b { a with defers:=d :: a.defers} ops i rest k undef;rw[u]at B;exact B
  rw[s];simp only[stepG.apply,Sem.runT_eq,m,GStep.bare_after];exact iQf (λfr=>GStep.go { frame:=fr,callers:=cs,status := .running,dying:=none} w') D
 ·rename_i f args w' m;obtain⟨_,G,h⟩:=h;obtain⟨e,y,fr,q,t,_,F⟩:=h (b.atR a (.inRegion ops (i :: rest) :: k) :: cs) (p _);have c:step P (lone (b.atR a (.inRegion ops (i :: rest) :: k)) cs w) = .next (lone (Frame.enter P f args .normal) (b.atR a (.inRegion ops (i :: rest) :: k) :: cs) w'):=
   iQo (by rw[s];simp[stepG.apply,m,Frame.atR])
  cases e with| returned v=>refine⟨_,_,q,iQn (.one c) (iQn (iQx t) (.one ?_))⟩;rw[<-j];exact step_leave_returned F| panicked chain=>exact q.elim| outgrown=>obtain⟨_,_,x⟩:=q;exact x.elim
 ·rename_i row args w' m;obtain⟨_,h⟩:=h;obtain⟨v,y,q,t⟩:=h (b.atR a (.inRegion ops (i :: rest) :: k)) cs (p _);have c:step P (lone (b.atR a (.inRegion ops (i :: rest) :: k)) cs w) = .next (lone (Frame.ofRow P row args .normal) (b.atR a (.inRegion ops (i :: rest) :: k) :: cs) w'):=
   iQo (by rw[s];simp[stepG.apply,m,Frame.atR])
  refine⟨_,_,q,iQn (.one c) ?_⟩;rw[<-j];exact iQx t
 ·rename_i l f tmps assign body w' m;obtain⟨_,_,h⟩:=h;obtain⟨e,y,q,t⟩:=h (b.atR a (.inRegion ops (i :: rest) :: k)) cs (p _);have c:step P (lone (b.atR a (.inRegion ops (i :: rest) :: k)) cs w) = .next (lone (Frame.round l f tmps assign body .normal) (b.atR a (.inRegion ops (i :: rest) :: k) :: cs) w'):=
   iQo (by rw[s];simp[stepG.apply,m,Frame.atR])
  cases e with| returned v=>refine⟨_,_,q,iQn (.one c) ?_⟩;rw[<-j];exact iQx t| panicked chain=>exact q.elim| outgrown=>obtain⟨_,_,x⟩:=q;exact x.elim
 ·exact h.elim
 exact h.elim
end
end
section
def jB(r:Ref)(b:List Loc):Map:=λq=>if q.d=r.d/\q.t=r.t/\q.g=r.g then b[q.k]? else none
structure z8 (M:Mem) (w:World) (y:AV) (v:Value) (M':Mem) (w':World):Prop where
 os:w'.os=w.os
 tape:w'.tape=w.tape
 output:w'.output=w.output
 size:w.heap.size<=w'.heap.size
 old : ∀b,b<w.heap.size->w'.heap[b]?=w.heap[b]?
 mem : ∀b o x,M b o=some x->M' b o=some x
 sound : ∀b o x,M' b o=some x->w'.cell? ⟨b,o,none⟩=some x
 new : ∀b o x,M' b o=some x->M b o=some x\/w.heap.size<=b
 res : ∀r:Ref,∃ls:List Loc,ls.length=(aw r depth y []).2.length/\VR M' (jB r ls) (aw r depth y []).1 v /\
  (∀(k:Nat) l b,ls[k]?=some l->(aw r depth y []).2[k]?=some b->qp M' (jB r ls) w' l b/\w.heap.size<=l.b) /\
  ∀(i j:Nat) l l',ls[i]?=some l->ls[j]?=some l'->l.b=l'.b->i=j
def kE(P:Program)(f:FuncId)(args:List AV)(y:AV):Prop:=
 (∃fn,P.funcs[f]?=some fn/\(fn.name == "runtime.NumGoroutine")=false/\fn.body.isSome=true) /\
 ∀(M:Mem)(w:World)(us:List Value),(∀b o x,M b o=some x->w.cell? ⟨b,o,none⟩=some x)->mM M eM args us ->
  Calls P f us.toArray w λe w' =>∃v M',e = .returned v/\z8 M w y v M' w'
def nH(P:Program):vl->List AV->aa->AV->aa->Prop
 | .fn f,args,H,y,c=>
  (∃fn,P.funcs[f]?=some fn/\(fn.name == "runtime.NumGoroutine")=false/\fn.body.isSome=true) /\
  ∀(M:Mem)(ι:Map)(w:World)(us:List Value),iA M ι H.get w->uq ι H->mM M ι args us ->
   Calls P f us.toArray w λe w' =>∃v,e = .returned v/\rn M ι H w y c v w'
 | .yld r,args,H,y,c =>∀(M:Mem)(ι:Map)(w:World)(us:List Value)(l:Loc),iA M ι H.get w->uq ι H->mM M ι args us->ι r=some l ->
  ∃fn tmps assign body,(Instr.yield l.b us.toArray).run P w = .ok (.round l.b fn tmps assign body) w /\
   RoundIn (FW none) 0 P l.b fn tmps assign body w λe w' =>∃v,e = .returned v/\rn M ι H w y c v w'
def D8{M M':Mem}{ι A:Map} : ∀(n:Nat)(x:AV)(u:Value),flat n x=true->VR M ι x u->VR M' A x u:=by
 intro n;induction n with
 | zero=>intro x u h;simp[flat]at h
 | succ n f=>
  intro x u h p;cases p with
  | v t=>exact .v t
  | agg j e=>simp only[flat,gP]at h;exact .agg j λi c u b d=>f c u (h c (ja b)) (e i c u b d)
  | tup y j e=>simp only[flat,gP]at h;exact .tup y j λi c u b d=>f c u (h c (ja b)) (e i c u b d)
  | ifc e=>exact .ifc (f _ _ (by simpa [flat] using h) e)
  | fn s q e m=>simp only[flat,bI,gP]at h;exact .fn s q (λi c u b d=>f c u (h.1 c (ja b)) (e i c u b d)) λi c u b d=>f c u (h.2 c (ja b)) (m i c u b d)
  | yld=>simp[flat]at h
  | mp=>simp[flat]at h
  | ch=>simp[flat]at h
  | Az=>simp[flat]at h
  | bE=>simp[flat]at h
  | ct=>simp[flat]at h
  | dsl=>simp[flat]at h
  | ptr=>simp[flat]at h
  | iptr=>simp[flat]at h
def xj(r:Ref) : ∀(n m:Nat)(x:AV)(bs:List bC),flat m x=true->aw r n x bs=(x,bs):=by
 intro n;induction n with
 | zero=>intro m x bs h;rfl
 | succ n i=>
  intro m x bs h;have e : ∀(m:Nat)(cs b:List AV),(∀c∈cs,flat m c=true)->cs.foldl (λ(p:List AV × List bC) c=>(p.1++[(aw r n c p.2).1],(aw r n c p.2).2)) (b,bs)=(b++cs,bs):=by
   intro m cs;induction cs with
   | nil=>intro b _;simp
   | cons c cs f=>intro b j;rw[wU,i m c bs (j c (j1 ..))];rw[f (b++[c]) (λd hd=>j d (kQ _ hd))];simp
  cases m with| zero=>simp[flat]at h| succ m=>
   cases x with
   | agg cs=>simp only[flat,gP]at h;have:=e m cs [] h;simp only[aw];rw[this];simp
   | tup cs=>simp only[flat,gP]at h;have:=e m cs [] h;simp only[aw];rw[this];simp
   | nsl=>simp[flat]at h
   | fsl=>simp[flat]at h
   | ifc t x=>simp only[aw];rw[i m x bs (by simpa [flat] using h)]
   | _=>rfl
def I7{g:dv}{r q:Ref}{bs:List bC}{b:bC}(h:tV g r bs q=some b):(q.d=r.d/\q.t=r.t/\q.g=r.g/\bs[q.k]?=some b)\/(¬(q.d=r.d/\q.t=r.t/\q.g=r.g/\q.k<bs.length)/\g q=some b):=by
 unfold tV at h;split at h;·rename_i c;exact .inl ⟨c.1,c.2.1,c.2.2.1,h⟩
 rename_i c;exact .inr ⟨c,h⟩
def IY{M ι g w}(F:iA M ι g w){r:Ref}(Y : ∀k,ι { r with k:=k}=none){y:AV}{v:Value}{M':Mem}{w':World}(h:z8 M w y v M' w') :
 kD M ι g w r (aw r depth y []).1 (aw r depth y []).2 v w':=by
 obtain⟨ls,V,Z,U,hi⟩:=h.res r;have G : ∀q l,jB r ls q=some l->ι q=none:=by
  intro q l J;unfold jB at J;split at J
  ·rename_i hc;have:q = { r with k:=q.k}:=by cases q;cases r;simp_all
   rw[this];exact Y _
  cases J
 have B : ∀q l,ι q=some l->(λq=>match ι q with | some l=>some l | none=>jB r ls q) q=some l:=by
  intro q l h;simp[h]
 have j : ∀q l,jB r ls q=some l->(λq=>match ι q with | some l=>some l | none=>jB r ls q) q=some l:=by
  intro q l h;simp[G q l h,h]
 have t : ∀q l,(λq=>match ι q with | some l=>some l | none=>jB r ls q) q=some l->ι q=some l\/(ι q=none/\jB r ls q=some l):=by
  intro q l h;simp only at h;split at h;·rename_i Q u;exact .inl (by rw[u,h])
  rename_i O;exact .inr ⟨O,h⟩
 have m : ∀q b l,tV g r (aw r depth y []).2 q=some b->(λq=>match ι q with | some l=>some l | none=>jB r ls q) q=some l ->
  (g q=some b/\ι q=some l)\/(w.heap.size<=l.b/\jB r ls q=some l/\ls[q.k]?=some l/\q = { r with k:=q.k}):=by
  intro q b l z s;rcases I7 z with ⟨f,n,i,D⟩ | ⟨f,n⟩
  ·right;have p:q = { r with k:=q.k}:=by cases q;cases r;simp_all
   have O:ι q=none:=by rw[p];exact Y _
   rcases t q l s with d | ⟨_,d⟩
   ·rw[O]at d;cases d
   have X:ls[q.k]?=some l:=by unfold jB at d;rw[if_pos ⟨f,n,i⟩]at d;exact d
   exact⟨(U q.k l b X D).2,d,X,p⟩
  left;obtain⟨W,e,_⟩:=F.live q b n;rcases t q l s with d | ⟨d,_⟩
  ·exact⟨n,d⟩
  rw[e]at d;cases d
 refine⟨M',λq=>match ι q with | some l=>some l | none=>jB r ls q,Z.mono (λ_ _ _ h=>h) _ j,?_,?_,?_⟩
 ·refine⟨h.sound,?_,?_⟩
  ·intro q b z;rcases I7 z with ⟨f,n,i,D⟩ | ⟨f,n⟩
   ·have C:q.k<ls.length:=by rw[V];exact(fg.1 D).1
    have H:ls[q.k]?=some ls[q.k]:=eu C;obtain⟨c,hge⟩:=U q.k _ b H D;have N:jB r ls q=some ls[q.k]:=by unfold jB;rw[if_pos ⟨f,n,i⟩];exact H
    refine⟨_,j q _ N,?_⟩;exact c.bT (λ_ _ _ h=>h) j rfl c.frozen
   obtain⟨l,u,c⟩:=F.live q b n;refine⟨l,B q l u,c.bT h.mem B (h.old _ c.lt) ?_⟩;intro o x T;rcases h.new _ _ _ T with i | i
   ·exact c.frozen o x i
   exact absurd c.lt (GO.2 i)
  intro q K b L l Q f n i D d;rcases m q b l f i with ⟨a1,I⟩ | ⟨a1,I,a3,a4⟩<;>rcases m K L Q n D with ⟨b1,b2⟩ | ⟨b1,b2,b3,b4⟩
  ·exact F.inj q K b L l Q a1 b1 I b2 d
  ·obtain⟨W,e,c⟩:=F.live q b a1;rw[I]at e;cases e;exact absurd c.lt (by rw[d];exact GO.2 b1)
  ·obtain⟨W,e,c⟩:=F.live K L b1;rw[b2]at e;cases e;exact absurd c.lt (by rw[<-d];exact GO.2 a1)
  have:=hi _ _ _ _ a3 b3 d;rw[a4,b4,this]
 ·refine⟨h.os,h.tape,h.output,h.size,λb S _=>h.old b S,h.mem,B,?_,?_⟩
  ·intro q b l f i;rcases m q b l f i with ⟨a1,I⟩ | ⟨a1,_⟩
   ·exact .inr ⟨q,b,l,a1,I,rfl⟩
   exact .inl a1
  intro b o x T;rcases h.new b o x T with f | f
  ·exact .inl f
  exact .inr (.inl f)
 intro q R J;simp only[R];unfold jB;split
 ·rename_i hc;have p:q = { r with k:=q.k}:=by cases q;cases r;simp_all
  have : ¬q.k<(aw r depth y []).2.length:=λC=>J q.k C p;exact yf (by rw[V];omega)
 rfl
def JP{M ι g w}(d:iA M ι g w){r:Ref}{y:AV}{v:Value}{n M':Mem}{w':World}(m:flat depth y=true)(h:z8 n w y v M' w'):kD M ι g w r y [] v w':=by
 obtain⟨ls,z,j,u,hi⟩:=h.res r;rw[xj r depth depth y [] m]at j;refine⟨M,ι,D8 depth y v m j,?_,?_,λq f _=>f⟩
 ·rw[oB];refine⟨?_,?_,d.inj⟩;·intro b o x t;have:=d.mem b o x t;rw[iQk (w:=w) (h.old _ (iQm w ⟨b,o,none⟩ this))];exact this
  intro q b f;obtain⟨l,i,c⟩:=d.live q b f;exact⟨l,i,c.bT (λ_ _ _ h=>h) (λ_ _ h=>h) (h.old _ c.lt) c.frozen⟩
 rw[oB];exact⟨h.os,h.tape,h.output,h.size,λb e _=>h.old b e,λ_ _ _ h=>h,λ_ _ h=>h,λq b l s p => .inr ⟨q,b,l,s,p,rfl⟩,λ_ _ _ h => .inl h⟩
def Qm{M M':Mem}{ι A:Map}{e x:AV}{u:Value}{j:Nat}(d:flat depth e=true)(b:e.cells[j]?=some x)(h:VR M ι x u):VR M' A x u:=by
 cases e with
 | agg cs=>
  have f:x∈cs:=ja b;have : ∀c∈cs,flat 7 c=true:=by simpa [flat,depth] using d
  exact D8 7 x u (this x f) h
 | _=>
  simp only[AV.cells]at b;cases j with
  | zero=>simp at b;subst b;exact D8 depth _ u d h
  | succ j=>simp at b
def PY(r:Ref) : ∀(n:Nat)(x:AV)(bs:List bC),DM n x=true ->∃new,(aw r n x bs).2=bs++new/\(∀b∈new,0<b.esz/\b.arr=true/\b.jq=false /\∀e∈b.es,flat depth e=true) /\
 ∀(M M':Mem)(ι:Map)(u:Value),VR M ι (aw r n x bs).1 u->VR M' ι (aw r n x bs).1 u:=by
 intro n;induction n with
 | zero=>intro x bs h;simp[DM]at h
 | succ n Q=>
  intro x bs h;have s : ∀(cs y:List AV)(bs:List bC),(∀c∈cs,DM n c=true) ->∃(new:List bC) (zs:List AV),cs.foldl (λ(p:List AV × List bC) c=>(p.1++[(aw r n c p.2).1],(aw r n c p.2).2)) (y,bs)=(y++zs,bs++new) /\
   (∀b∈new,0<b.esz/\b.arr=true/\b.jq=false /\∀e∈b.es,flat depth e=true) /\∀(M M':Mem)(ι:Map)(z:AV),z∈zs ->∀u,VR M ι z u->VR M' ι z u:=by
   intro cs;induction cs with
   | nil=>intro y bs _;exact⟨[],[],by simp,λb m=>by simp at m,λ_ _ _ z C=>by simp at C⟩
   | cons c cs K=>
    intro y bs q;obtain⟨n1,a1,T,U⟩:=Q c bs (q c (j1 ..));obtain⟨n2,zs,b1,b2,b3⟩:=K (y++[(aw r n c bs).1]) (bs++n1) λd hd=>q d (kQ _ hd);refine⟨n1++n2,(aw r n c bs).1 :: zs,?_,?_,?_⟩;·rw[wU];simp only;rw[a1,b1];simp
    ·intro b m;rcases mS.1 m with m | m
     ·exact T b m
     exact b2 b m
    intro M M' ι z C u f;rcases fR.1 C with rfl | C
    ·exact U M M' ι u f
    exact b3 M M' ι z C u f
  cases x with
  | v x=>exact⟨[],by simp[aw],λb m=>by simp at m,λM M' ι u f=>by simp only[aw]at f ⊢;cases f with | v G=>exact .v G⟩
  | agg cs=>
   simp only[DM,gP]at h;obtain⟨new,zs,B,D,F⟩:=s cs [] bs h;simp only[aw];rw[B];refine⟨new,rfl,D,λM M' ι u f=>?_⟩;simp only[sf]at f ⊢;cases f with | agg J H=>
   exact .agg J λi c u q I=>F M M' ι c (ja q) u (H i c u q I)
  | tup cs=>
   simp only[DM,gP]at h;obtain⟨new,zs,B,D,F⟩:=s cs [] bs h;simp only[aw];rw[B];refine⟨new,rfl,D,λM M' ι u f=>?_⟩;simp only[sf]at f ⊢;cases f with | tup W J H=>
   exact .tup W J λi c u q I=>F M M' ι c (ja q) u (H i c u q I)
  | fsl z es cap=>
   simp only[DM,bI,bne_iff_ne,ne_eq,gP]at h;simp only[aw];rw[if_neg h.1];refine⟨[⟨z,es,true,false⟩],rfl,?_,λM M' ι u f=>?_⟩;·intro b m;rw[lX.1 m];exact⟨Ah h.1,rfl,rfl,h.2⟩
   cases f with | ct R m G S q V L C=>exact .ct R m G S q V L C
  | bE z es cap=>have O:es=[]:=(by simpa [DM] using h);subst O;refine⟨[],by simp[aw],λb m=>by simp at m,λM M' ι u f=>?_⟩;simp only[aw]at f ⊢;cases f with | bE cell G q L hm he H=>exact .bE cell G q L (λi j B=>by simp at B) he λi j e x B=>by simp at B
  | ifc t x=>obtain⟨new,B,D,F⟩:=Q x bs (by simpa [DM] using h);simp only[aw];exact⟨new,B,D,λM M' ι u f=>by cases f with | ifc N=>exact .ifc (F M M' ι _ N)⟩
  | _=>simp[DM]at h
def z8.own{M B M':Mem}{w w':World}{y:AV}{v:Value}(z : ∀b o x,M b o=some x->w.cell? ⟨b,o,none⟩=some x)(N:DM depth y=true)(h:z8 B w y v M' w'):z8 M w y v M w':=by
 have q : ∀b o x,M b o=some x->b<w.heap.size:=λb o x c=>iQm w ⟨b,o,none⟩ (z b o x c);refine⟨h.os,h.tape,h.output,h.size,h.old,λ_ _ _ h=>h,?_,λ_ _ _ h => .inl h,λr=>?_⟩;·intro b o x c;rw[iQk (w:=w) (h.old _ (q b o x c))];exact z b o x c
 obtain⟨ls,I,C,G,hi⟩:=h.res r;obtain⟨new,L,D,J⟩:=PY r depth y [] N;refine⟨ls,I,J M' M _ v C,λk l b K d=>?_,hi⟩;obtain⟨f,p⟩:=G k l b K d;have m:b∈new:=by rw[L,sf]at d;exact ja d
 obtain⟨R,U,S,F⟩:=D b m;have n : ∀o x,M l.b o=some x->b.jq=true/\o<b.es.length * b.esz:=λo x c=>absurd (q _ _ _ c) (GO.2 p);refine⟨⟨f.esz,λs=>?_,λs=>by omega,n⟩,p⟩;obtain⟨O,⟨arr,T,fz,d1,d2,d3,d4⟩,H,Q,_⟩:=f.cellsOk s;refine⟨O,⟨arr,T,fz,d1,d2,d3,λi j e x t c=>?_⟩,H,Q,n⟩;obtain⟨u,f1,f2,f3⟩:=d4 i j e x t c;exact⟨u,f1,f2,Qm (F e (ja t)) c f3⟩
def FF{P:Program}{f:FuncId}(i : ∃fn,P.funcs[f]?=some fn/\(fn.name == "runtime.NumGoroutine")=false/\fn.body.isSome=true)(args:Array Value)(w:World) :
 (callFunc f args).run P w = .ok (.enter f args) w:=by
 obtain⟨fn,j,h,c⟩:=i;have d:fn.body≠none:=by intro e;rw[e]at c;cases c
 have b:fn.name ≠ "runtime.NumGoroutine" := by simpa using h
 simp[callFunc,j,b,d]
def Fg{P:Program}{a:Act}{o:Oper}{c:Call}{d:Operand}(h:o.op = .call c)(i:c.callee = .value d){f:FuncId}{first captured:Array Value}(b:a.eval d = .func (.func f) first captured)
 (e : ∃fn,P.funcs[f]?=some fn/\(fn.name == "runtime.NumGoroutine")=false/\fn.body.isSome=true) (w:World) :
 (execOp a.eval o).run P w = .ok (.enter f (first++c.args.map a.eval++captured)) w:=by
 simp[execOp,h,resolve,i,b,Deferred.ofValue,invoke,FF e]
def MD{M ι g w}(f:iA M ι g w){c d:List AV}{us:List Value}(h:c.mapM (view g depth)=some d)(e:mM M ι c us):mM (lW M ι g w (cO g c)) eM d us:=
 ⟨by rw[iG h];exact e.1,λi y u j n=>by
  obtain⟨x,b,m⟩:=pD h i y j;refine Dw f depth x y u m ?_ (e.2 i x u b n);intro r p;exact jO.2 ⟨x,ja b,p⟩⟩
def VR.ZM{M ι}{f:FuncId}{a b:List AV}{u:Value}(h:VR M ι (.fn (.func f) a b) u) : ∃m j,u = .func (.func f) m j/\mM M ι a m.toList/\mM M ι b j.toList:=by
 cases h with | fn n q p c=>
 exact⟨_,_,rfl,⟨by simpa using n,λi x u e d=>p i x u e (by simpa using d)⟩,⟨by simpa using q,λi x u e d=>c i x u e (by simpa using d)⟩⟩
def HD(a b c:Array Value):(a.toList++b.toList++c.toList).toArray=a++b++c:=by
 apply GP;simp
section
variable{E:Env}{M:Mem}{ι:Map}{g:dv}{w:World}{r:Ref}{a:Act}{tm:List AV}{o:Oper}
def VO(m:iA M ι g w)(N:TR M ι tm a)(O : ∀k,ι { r with k:=k}=none){pc:FuncId->List AV->Option AV}(F : ∀f D y,pc f D=some y->kE E.P f D y)
 {c:Call} {Q:Operand} (V:o.op = .call c) (s:c.callee = .value Q) {args:List AV} (q:c.args.toList.mapM (aW tm)=some args) {x:AV} {bs:List bC} (h:lY E pc g r (aW tm Q) args=some (x,bs)) :
 fI E.P o a w λu w'=>kD M ι g w r x bs u w':=by
 unfold lY at h;split at h
 ·rename_i Y first captured L
  split at h;·cases h
  split at h
  ·rename_i D I;split at h
   ·rename_i y X;obtain⟨d,h⟩:=fP.1 h;injection h with h
    obtain⟨U,n⟩:=F Y D y X;obtain⟨Z,S,J,K,G⟩:=(bk N L).ZM;have i:=nk N q;have B:mM M ι (first++args++captured) (Z.toList++(c.args.map a.eval).toList++S.toList):=(K.append (by simpa using i)).append G;obtain⟨t,hF1⟩:=Bf (R:=cO g (first++args++captured)) m;have j:=MD m I B;have b:=n (lW M ι g w (cO g (first++args++captured))) w _ (zX m.mem) j;rw[HD]at b;refine fI.Ir (Fg V s J U w) (b.mono λe w' ⟨v,M',he,hend⟩=>⟨v,he,?_⟩);by_cases p:flat depth y=true
    ·have hi:=xj r depth depth y [] p;rw[hi]at h;injection h with W T
     subst W;subst T;exact JP m p hend
    by_cases C:DM depth y=true;·have:=IY m O (hend.own m.mem C);rw[h]at this;exact this
    have H:kB g (cO g (first++args++captured))=true:=by
     simp only[jf,bI]at d;rcases d with (s | s) | s
     ·exact absurd s p
     ·exact s
     exact absurd s.2 C
    have z:=NW H;rw[z]at t;have:=IY t O hend;rw[h]at this;exact kD.after z m this
   cases h
  cases h
 cases h
def MA{H:aa}{d D:Nat}(I:iA M ι H.get w)(Q:uq ι H)(S:TR M ι tm a){pc:FuncId->List AV->Option AV}(X : ∀f z y,pc f z=some y->kE E.P f z y)
 {tc:vl->List AV->aa->dA} (J : ∀f z H y G,tc f z H=some (y,G)->nH E.P f z H y G)
 {c:Call} {fo:Operand} (Y:o.op = .call c) (hc:c.callee = .value fo) {args:List AV} (n:c.args.toList.mapM (aW tm)=some args) {x:AV} {G:aa}
 (h:ot E pc tc H ⟨d,D,H.gen d D,0⟩ (aW tm fo) args=some (x,G)):fI E.P o a w λu w'=>rn M ι H w x G u w':=by
 unfold ot at h;split at h
 ·rename_i fi first captured F
  obtain⟨a',b',O,hva,Z⟩:=(bk S F).ZM;have j:=nk S n;have t:mM M ι (first++args++captured) (a'.toList++(c.args.map a.eval).toList++b'.toList):=(hva.append (by simpa using j)).append Z;split at h;·obtain⟨T,L⟩:=J _ _ _ _ _ h;have i:=L M ι w _ I Q t;rw[HD]at i;exact fI.Ir (Fg Y hc O T w) (i.mono λe w' ⟨v,he,hend⟩=>⟨v,he,hend⟩)
  split at h
  ·rename_i z W;simp only[bU]at h;obtain⟨y,C,h⟩:=h;injection h with h1 h2
   obtain⟨T,B⟩:=X fi z y C;obtain⟨U,N⟩:=Bf (R:=cO H.get (first++args++captured)) I;have p:=MD I W t;have i:=B (lW M ι H.get w (cO H.get (first++args++captured))) w _ (zX I.mem) p;rw[HD]at i;refine fI.Ir (Fg Y hc O T w) (i.mono λe w' ⟨v,M',he,hend⟩=>⟨v,he,?_⟩);have hD1:uq ι (cL H (cO H.get (first++args++captured))):=(by intro q l hq;rw[aa.je];exact Q q l hq);have m:=IY (r:=⟨d,D,H.gen d D,0⟩) U (λk=>Q.fresh d D k) hend;rw[<-aa.dX]at m;have K:H.gen d D=(cL H (cO H.get (first++args++captured))).gen d D:=(aa.je _ _ _ _).symm;have key:rn (lW M ι H.get w (cO H.get (first++args++captured))) ι (cL H (cO H.get (first++args++captured))) w x G v w':=(by subst h1;subst h2;rw[K]at m ⊢;exact m.toW hD1);obtain⟨M2,V,k1,k2,k3,k4⟩:=key;refine⟨M2,V,k1,k2,?_,k4⟩;rw[<-aa.dX]at N;exact N.trans k3
  cases h
 ·rename_i q F;have j:=nk S n;have C:=bk S F;generalize hu:a.eval fo=u at C;cases C with | yld hr hz=>
  rename_i l;obtain⟨fn,tmps,assign,body,C,s⟩:=J _ _ _ _ _ h M ι w _ l I Q j hr;refine fI.V5 (l:=l.b) ?_ s;have e1:(c.args.map a.eval:Array Value)=(c.args.toList.map a.eval).toArray:=by rw[<-KW];simp
  rw[<-e1]at C;simp[execOp,Y,resolve,hc,hu,Deferred.ofValue,invoke,C]
 cases h
end
end
section
def VR.cut{M M':Mem}{ι:Map}{e:AV}{U:Value}(T:VR M ι e U) : ∀ {A:Map} {u:Value},VR M' A e u->(∀q l,ι q=some l->A q=some l)->VR M' ι e u:=by
 induction T with
 | v h=>intro A u h hi;cases h with | v H=>exact .v H
 | agg R _ t=>
  intro A u h hi;cases h with | agg z n=>
  refine .agg z λi c u f y=>?_;have B:=(fg.1 f).1;exact t i c _ f (kY (by omega)) (n i c u f y) hi
 | tup G R _ t=>
  intro A u h hi;cases h with | tup J z n=>
  refine .tup J z λi c u f y=>?_;have B:=(fg.1 f).1;exact t i c _ f (kY (by omega)) (n i c u f y) hi
 | bE cell H f I hm he _ t=>intro A u h hi;cases h with | bE cell H f I hm he n=>exact .bE cell H f I hm he n
 | ct j N H O f S I G=>
  intro A u h hi;have m:=hi _ _ j;cases h with | ct b p x s D C F d=>
  rw[m]at b;cases b;exact .ct j p x s D C F d
 | dsl j N H O f S I G=>
  intro A u h hi;have m:=hi _ _ j;cases h with | dsl b p x s D C F d=>
  rw[m]at b;cases b;exact .dsl j p x s D C F d
 | ptr j G=>
  intro A u h hi;have m:=hi _ _ j;cases h with | ptr b d=>
  rw[m]at b;cases b;exact .ptr j d
 | iptr cell hm he _ t=>intro A u h hi;cases h with | iptr cell hm he n=>exact .iptr cell hm he n
 | fn O N _ _ t L=>
  intro A u h hi;cases h with | fn s p n K=>
  refine .fn s p (λi c u f y=>?_) λi c u f y=>?_;·have B:=(fg.1 f).1;exact t i c _ f (kY (by omega)) (n i c u f y) hi
  have B:=(fg.1 f).1;exact L i c _ f (kY (by omega)) (K i c u f y) hi
 | ifc _ t=>intro A u h hi;cases h with | ifc n=>exact .ifc (t n hi)
 | yld j G=>
  intro A u h hi;have m:=hi _ _ j;cases h with | yld b d=>
  rw[m]at b;cases b;exact .yld j d
 | mp j G=>
  intro A u h hi;have m:=hi _ _ j;cases h with | mp b d=>
  rw[m]at b;cases b;exact .mp j d
 | ch j G=>
  intro A u h hi;have m:=hi _ _ j;cases h with | ch b d=>
  rw[m]at b;cases b;exact .ch j d
 | Az m=>intro A u h hi;cases h with | Az Q=>exact .Az Q
section
variable{M M':Mem}{ι A:Map}{w w':World}{l:Loc}{k:bC}
def gm.cut(c0:gm M ι w l k)(c:gm M' A w' l k)(hi : ∀q l,ι q=some l->A q=some l):gm M' ι w' l k:=by
 obtain⟨b,_,_,_,_,_,s⟩:=c0.heap;obtain⟨arr,T,fz,t,m,p,v⟩:=c.heap;refine⟨c.esz,⟨arr,T,fz,t,m,p,λi j e x d f=>?_⟩,c.len,c.cells,c.frozen⟩;obtain⟨y,_,_,v0⟩:=s i j e x d f;obtain⟨u,a1,n,v1⟩:=v i j e x d f;refine⟨u,a1,n,v0.cut v1 ?_⟩;unfold bC.map;split;·exact λ_ _ h=>h
 exact hi
def Ja.cut(c0:Ja M ι w l k)(c:Ja M' A w' l k)(hi : ∀q l,ι q=some l->A q=some l):Ja M' ι w' l k:=by
 obtain⟨F,j,p,y,s,d,D,_,_,b,_,_,_,_,_,v0,_⟩:=c0;obtain⟨n,nt,ps,as,z,tm,r,B,f,e,u,C,i,h,m,v,x⟩:=c;rw[e]at b;simp only[yc,AV.lp.injEq]at b;obtain⟨_,⟨_,_,_,_,_,rfl⟩,_⟩:=b;exact⟨n,nt,ps,as,z,tm,r,B,f,e,u,C,i,h,m,λt=>(v0 t).cut (v t) hi,x⟩
def OG.cut(c0:OG M ι w l k)(c:OG M' A w' l k)(hi : ∀q l,ι q=some l->A q=some l):OG M' ι w' l k:=by
 obtain⟨p,d,_,_,n,_,L,v0⟩:=c0;obtain⟨h,entries,J,y,e,G,s,v⟩:=c;rw[e]at n;simp only[yc,iQs]at n;subst n;refine⟨h,entries,J,y,e,G,s,λi f u b m=>?_⟩;obtain⟨D,B,t,H,C,x⟩:=v i f u b m;have F:=(fg.1 b).1;obtain⟨I,z,j,_,K,_⟩:=v0 i f _ b (kY (by omega));rw[t]at j;simp only[AV.tup.injEq,yc]at j;obtain⟨_,rfl,_⟩:=j;exact⟨D,B,t,H,K.cut C hi,x⟩
def Je.cut(c0:Je M ι w l k)(c:Je M' A w' l k)(hi : ∀q l,ι q=some l->A q=some l):Je M' ι w' l k:=by
 obtain⟨_,_,_,_,f,h,_,_,b,_,B,v0⟩:=c0;obtain⟨cap,s,r,j,buf,arr,z,m,e,t,y,v⟩:=c;rw[e]at b;simp only[yc,iQs]at b;obtain⟨_,_,rfl⟩:=b;refine⟨cap,s,r,j,buf,arr,z,m,e,t,y,λi x u d n=>?_⟩;have p:=(fg.1 d).1;exact(v0 i x _ d (kY (by omega))).cut (v i x u d n) hi
def oW.cut(c0:oW M ι w l k)(c:oW M' A w' l k)(hi : ∀q l,ι q=some l->A q=some l):oW M' ι w' l k:=by
 rcases c0 with c0 | c0 | c0<;>rcases c with c | c | c
 ·exact .inl (c0.cut c hi)
 ·obtain⟨_,_,_,_,_,_,_,_,_,b,_⟩:=c0;obtain⟨_,_,_,_,e,_⟩:=c;rw[e]at b;simp at b
 ·obtain⟨_,_,_,_,_,_,_,_,_,b,_⟩:=c0;obtain⟨_,_,_,_,_,_,_,_,e,_⟩:=c;rw[e]at b;simp at b
 ·obtain⟨_,_,_,_,_,_,_,_,_,b,_⟩:=c;obtain⟨_,_,_,_,e,_⟩:=c0;rw[e]at b;simp at b
 ·exact .inr (.inl (c0.cut c hi))
 ·obtain⟨_,_,_,_,b,_⟩:=c0;obtain⟨_,_,_,_,_,_,_,_,e,_⟩:=c;rw[e]at b;simp at b
 ·obtain⟨_,_,_,_,_,_,_,_,_,b,_⟩:=c;obtain⟨_,_,_,_,_,_,_,_,e,_⟩:=c0;rw[e]at b;simp at b
 ·obtain⟨_,_,_,_,b,_⟩:=c;obtain⟨_,_,_,_,_,_,_,_,e,_⟩:=c0;rw[e]at b;simp at b
 exact .inr (.inr (c0.cut c hi))
def qp.cut(c0:qp M ι w l k)(c:qp M' A w' l k)(hi : ∀q l,ι q=some l->A q=some l):qp M' ι w' l k:=
 ⟨c.esz,λh=>(c0.cellsOk h).cut (c.cellsOk h) hi,λh=>(c0.objOk h).cut (c.objOk h) hi,c.frozen⟩
def SX{H j:aa}(f:iA M ι H.get w)(z:uq ι H){y:AV}{v:Value}(t:flat depth y=true)(B : ∀q k,H.get q=some k->j.get q=some k)(h:rn M ι H w y j v w'):rn M ι H w y H v w':=by
 obtain⟨n,x,p,c,b,u⟩:=h;refine⟨n,ι,D8 depth y v t p,⟨c.mem,λq k i=>?_,f.inj⟩,⟨b.os,b.tape,b.output,b.size,b.chg,b.mem,λ_ _ h=>h,λq k l D s => .inr ⟨q,k,l,D,s,rfl⟩,b.new⟩,z⟩;obtain⟨l,m,C⟩:=f.live q k i;obtain⟨F,d,e⟩:=c.live q k (B q k i);have:=b.map q l m;rw[this]at d;cases d;exact⟨l,m,C.cut e b.map⟩
def MC{u v:Value}(h:QX u v=true):u=v:=by
 unfold QX at h;split at h;·simp at h;rw[h]
 ·simp at h;rw[h.1,h.2]
 ·simp at h;rw[h]
 ·simp only[bI]at h;rw[lF h.1,lF h.2]
 ·rfl
 ·rfl
 cases h
def sL{f:AV->AV->Bool}(e : ∀x y,f x y=true->x=y) : ∀(c b:List AV),c.length=b.length->((c.zip b).all λp=>f p.1 p.2)=true->c=b:=by
 intro c;induction c with
 | nil=>intro b h _;exact(Ak h.symm).symm
 | cons x c i=>
  intro b h d;cases b with
  | nil=>simp at h
  | cons y b=>simp only[OS,zk,bI]at d;rw[e x y d.1,i b (by simpa using h) d.2]
def AW{r r':Ref}(h:HY r r'=true):r=r':=by
 unfold HY at h;simp only[bI]at h;cases r;cases r';simp only[Ref.mk.injEq];exact⟨lF h.1.2,lF h.1.1.1,lF h.1.1.2,lF h.2⟩
def W8 : ∀(n:Nat)(x y:AV),CB n x y=true->x=y:=by
 intro n;induction n with
 | zero=>intro x y h;simp[CB]at h
 | succ n b=>
  intro x y h;unfold CB at h;split at h;·rw[MC h]
  ·simp only[bI]at h;rw[sL b _ _ (lF h.1) h.2]
  ·simp only[bI]at h;rw[sL b _ _ (lF h.1) h.2]
  ·simp only[bI,iQb]at h;rw[sL b _ _ (lF h.1.2) h.2,lF h.1.1.1,h.1.1.2]
  ·simp only[bI,iQb]at h;rw[AW h.1.1.1,lF h.1.1.2,lF h.1.2,h.2]
  ·simp only[bI,iQb]at h;rw[AW h.1.1.1,lF h.1.1.2,lF h.1.2,h.2]
  ·simp only[bI]at h;rw[AW h.1.1,lF h.1.2,lF h.2]
  ·rw[AW h]
  ·rw[AW h]
  ·simp only[bI]at h;rw[lF h.1.1,sL b _ _ (lF h.1.2.1) h.1.2.2,sL b _ _ (lF h.2.1) h.2.2]
  ·simp only[bI]at h;rw[lF h.1,b _ _ h.2]
  cases h
def QB{k k':bC}(h:Md k k'=true):k=k':=by
 unfold Md at h;simp only[bI,iQl]at h;cases k;cases k';simp only[bC.mk.injEq];exact⟨lF h.1.1.1.1,sL (W8 8) _ _ (lF h.1.2) h.2,h.1.1.1.2,h.1.1.2⟩
def get_mem : ∀(H:aa)(q:Ref)(k:bC),H.get q=some k ->∃b,(q,b)∈H:=by
 intro H;induction H with
 | nil=>intro q k h;cases h
 | cons p H d=>
  obtain⟨r,b⟩:=p;intro q k h;simp only[aa.get]at h;split at h;·rename_i e;subst e;exact⟨b,j1 ..⟩
  obtain⟨c,f⟩:=d q k h;exact⟨c,kQ _ f⟩
def NT{H e:aa}(h:IC H e=true)(q:Ref)(k:bC)(d:H.get q=some k):e.get q=some k:=by
 obtain⟨b,f⟩:=get_mem H q k d;have:=gP.1 h _ f;simp only[d]at this;split at this;·cases this
 rename_i k' c;rw[c,QB this]
def My{b:Bool}{sm:OE}{H e:aa}{c:dA}{y:AV}(h:ti b sm H c=some (y,e)):c=some (y,e) \/∃d,e=H/\c=some (y,d)/\flat depth y=true /\∀q k,H.get q=some k->d.get q=some k:=by
 unfold ti at h;split at h;·rename_i i d;obtain⟨f,h⟩:=fP.1 h;cases h;exact .inr ⟨d,rfl,rfl,(ye.1 f).1,(G0.1 (ye.1 f).2).elim NT (sm.ok _ _)⟩
 exact .inl h
end
end
section
def tI(l:List AV)(d t:Nat)(x:AV):dE (CV l d x) t=if t=d then x else dE l t:=by
 induction l generalizing d t with
 | nil=>
  induction d generalizing t with| zero=>cases t<;>simp[CV,dE]| succ d b=>
   cases t with
   | zero=>simp[CV,dE]
   | succ t=>simp[CV,dE,b]
 | cons y l b=>
  cases d with| zero=>cases t<;>simp[CV,dE]| succ d=>
   cases t with
   | zero=>simp[CV,dE]
   | succ t=>simp[CV,dE,b]
def TR.put{M ι tm a}(e:TR M ι tm a){nt:Nat}(c:a.tmps.size=nt){dst:Option Tmp}{x:AV}{tm':List AV}(h:dP nt tm dst x=some tm'){u:Value}(f:VR M ι x u) :
 TR M ι tm' (a.put dst u)/\(a.put dst u).tmps.size=nt:=by
 unfold dP at h;split at h
 ·injection h with h
  subst h;exact⟨e,c⟩
 rename_i d;obtain⟨hd,h⟩:=fP.1 h;injection h with h
 subst h;refine⟨⟨?_⟩,by simp[Act.put,c]⟩;intro t;rw[tI];simp only[Act.put,Du];by_cases b:t=d;·subst b;rw[if_pos rfl,GN (by rw[c];exact hd)];exact f
 rw[if_neg b,Ch (tC b),<-Du];exact e.at_ t
def kF{M ι tm a}(u:TR M ι tm a){ops:Array Oper}{o:Oper}{b:Bool}(h:wanted ops tm o=some b):Region.wanted o (yielded ops a.tmps)=b:=by
 unfold wanted at h;unfold Region.wanted;split at h
 ·rename_i n;injection h with h
  subst h;rw[n]
 rename_i j e n;rw[n];simp only;split at h
 ·rename_i t i;have d:=u.at_ t;rw[Du]at d;split at h
  ·rename_i c p;injection h with h
   subst h;rw[p]at d;have:a.tmps[t]?=some (.bool c):=by
    cases f:a.tmps[t]? with| none=>rw[f]at d;cases d| some v=>rw[f]at d;simp only[cU]at d;cases d;rfl
   simp only[yielded,i,fe,this];cases c<;>cases e<;>rfl
  ·rename_i s p;rw[p]at d;obtain⟨q,h⟩:=fP.1 h;injection h with h
   subst h;have m:s = #[]:=by simpa using q
   subst m;have:yielded ops a.tmps j=none:=by
    simp only[yielded,i,fe];cases f:a.tmps[t]? with
    | none=>rfl
    | some v=>rw[f]at d;simp only[cU]at d;cases d;rfl
   rw[this];rfl
  cases h
 rename_i i;injection h with h
 subst h;simp only[yielded,i,GY];rfl
section
variable{E:Env}{M:Mem}{ι:Map}{g:dv}{w:World}{r:Ref}{a:Act}{tm:List AV}{o:Oper}
def sq{x:Option AV}{y:AV}{bs:List bC}(h:ku x=some (y,bs)):x=some y/\bs=[]:=by
 simp only[ku,bU]at h;obtain⟨z,b,h⟩:=h;injection h with d c
 exact⟨by rw[b,d],c.symm⟩
def fI.same{s:Sem Value}(c:iA M ι g w)(e : ∀b,b=a.eval->execOp b o=(do pure (Next.value (<-s)))){x:AV}{bs:List bC}(h:bs=[] /\∃u,s.run E.P w = .ok u w/\VR M ι x u) :
 fI E.P o a w λu w'=>kD M ι g w r x bs u w':=by
 obtain⟨rfl,u,f,d⟩:=h;exact fI.kN (by rw[e a.eval rfl];exact HU f) (kD.same c d)
def fI.made{s:Sem Value}(c : ∀b,b=a.eval->execOp b o=(do pure (Next.value (<-s)))){x:AV}{bs:List bC}(h : ∃u w',s.run E.P w = .ok u w'/\kD M ι g w r x bs u w') :
 fI E.P o a w λu w'=>kD M ι g w r x bs u w':=by
 obtain⟨u,w',e,d⟩:=h;exact fI.kN (by rw[c a.eval rfl];exact HU e) d
def rF(ps:Array (Nat × Operand))(b:Operand->Value):(ps.map λ(p:Nat × Operand)=>(p.1,b p.2)).toList=ps.toList.map λp=>(p.1,b p.2):=by simp
def D1{b:Type}{l:List b}(h:l.length=1) : ∃a,l=[a]:=List.length_eq_one_iff.1 h
def wM{c:Type}{l:List c}(h:l.length=2) : ∃a b,l=[a,b]:=by
 match l,h with
 | [a,b],_=>exact⟨a,b,rfl⟩
def fI.mono{P:Program}{Q b:Value->World->Prop}(h:fI P o a w Q)(d : ∀u w',Q u w'->b u w'):fI P o a w b:=
 λro K R c=>h ro K R λu w' e=>c u w' (d u w' e)
def gm.jq{l:Loc}{k:bC}(h:gm M ι w l k):gm M ι w l { k with jq:=true} :=
 ⟨h.esz,h.heap,h.len,h.cells,λo x b=>⟨rfl,(h.frozen o x b).2⟩⟩
def qp.jq{l:Loc}{k:bC}(h:qp M ι w l k):qp M ι w l { k with jq:=true} :=
 ⟨h.esz,λb=>(h.cellsOk b).jq,λb=>(h.objOk b).same rfl rfl rfl,λo x c=>⟨rfl,(h.frozen o x c).2⟩⟩
def Ej{bs:List bC}{q:Ref}{c:bC}(h:tV g r (bs.map λk => { k with jq:=true}) q=some c) : ∃b,tV g r bs q=some b/\(c=b\/c = { b with jq:=true}):=by
 unfold tV at h ⊢;simp only[AM]at h;split at h;·rename_i d;rw[if_pos d];simp only[nM,bU]at h;obtain⟨b,f,e⟩:=h;exact⟨b,f,.inr e.symm⟩
 rename_i d;rw[if_neg d];exact⟨c,h,.inl rfl⟩
def kD.Qk{x:AV}{bs:List bC}{b:Bool}{u:Value}{w':World}(h:kD M ι g w r x bs u w'):kD M ι g w r x (Ab.Qk b bs) u w':=by
 cases b with| false=>exact h| true=>
  obtain⟨M',A,F,i,c,G⟩:=h;refine⟨M',A,F,⟨i.mem,λq k p=>?_,λq t k k' l C a1 n z B v=>?_⟩,⟨c.os,c.tape,c.output,c.size,c.chg,c.mem,c.map,λq k l a1 n=>?_,c.new⟩,λq p D=>G q p λk m=>D k (by simpa [Ab.Qk] using m)⟩
  ·obtain⟨b,y,e⟩:=Ej p;obtain⟨l,s,f⟩:=i.live q b y;rcases e with rfl | rfl
   ·exact⟨l,s,f⟩
   exact⟨l,s,f.jq⟩
  ·obtain⟨b1,d,_⟩:=Ej a1;obtain⟨b2,j,_⟩:=Ej n;exact i.inj q t b1 b2 l C d j z B v
  obtain⟨b1,d,_⟩:=Ej a1;exact c.live q b1 l d n
def z9(P:Program)(f:FuncId)(t:TypeId):Prop:=
 ∃fn tR,P.funcs[f]?=some fn/\(fn.name == "runtime.NumGoroutine")=false/\fn.body.isNone=true/\Extern.findNext fn=none/\Extern.find fn=some (Extern.SlicesOverlaps.overlaps #[t,t] #[tR])
def yZ(B:iA M ι g w)(C:TR M ι tm a)(hr:r.k=0)(hq : ∀k,ι { r with k:=k}=none){pc:FuncId->List AV->Option AV}(hpc : ∀f xs y,pc f xs=some y->kE E.P f xs y)
 {V:Bool} (hov:V=false ->∀f t,E.su f=some t->z9 E.P f t) {x:AV} {bs:List bC} (h:dq E pc V g tm r o=some (x,bs)):fI E.P o a w λu w'=>kD M ι g w r x bs u w':=by
 have R:ι r=none:=by have:=hq 0;rwa [show({ r with k:=0}:Ref)=r by cases r;simp_all]at this
 unfold dq at h;split at h;·rename_i y d;obtain⟨q,rfl⟩:=sq h;exact fI.kN (u:=a.eval y) (w':=w) (by simp[execOp,d]) (kD.same B (bk C q))
 ·rename_i y d;obtain⟨q,rfl⟩:=sq h;exact fI.kN (u:=a.eval y) (w':=w) (by simp[execOp,d]) (kD.same B (bk C q))
 ·rename_i c y z d;obtain⟨rfl,u,F,I⟩:=VF (P:=E.P) (w:=w) C h;refine fI.kN (u:=u) (w':=w) ?_ (kD.same B I);simp only[execOp,d];simp only[iQg]at F ⊢;cases Y:(asBool (a.eval c)).run E.P w with
  | ok b w1=>
   rw[Y]at F;simp only[iQd,iQj]at F ⊢;injection F with K J
   rw[K,J]
  | halt hh w1=>rw[Y]at F;cases F
 ·rename_i e d;exact fI.made (λQ m=>by simp only[execOp,d]) (S7 B hr R h)
 ·rename_i e y d;cases q:aW tm y with
  | none=>rw[q]at h;simp[JD]at h
  | some U=>rw[q]at h;exact fI.made (λQ m=>by simp only[execOp,d,m]) (Y6 B hr R (bk C q) h)
 ·rename_i t ps d;cases I:iJ tm ps.toList with
  | none=>rw[I]at h;simp only[oK]at h;split at h<;>first | cases h | (rename_i K J;cases J)
  | some vs=>
   rw[I]at h;obtain⟨K,J⟩:=sJ (ι:=ι) C I;refine fI.same B (s:=Instr.build t (ps.map λ(p:Nat × Operand)=>(p.1,a.eval p.2))) (λQ m=>by simp only[execOp,d,m]) (S6 ?_ ?_ h);·rw[rF];exact K
   rw[rF];exact J
 ·rename_i t n ps d;cases I:iJ tm ps.toList with
  | none=>rw[I]at h;simp[gY]at h
  | some vs=>
   rw[I]at h;obtain⟨K,J⟩:=sJ (ι:=ι) C I;refine fI.made (s:=Instr.buildSlice t n (ps.map λ(p:Nat × Operand)=>(p.1,a.eval p.2))) (λQ m=>by simp only[execOp,d,m]) (Ij B hr R h ?_ ?_);·rw[rF];exact K
   rw[rF];exact J
 ·rename_i t y d;cases q:aW tm y with
  | none=>rw[q]at h;simp[oT]at h
  | some U=>rw[q]at h;exact fI.same B (λQ m=>by simp only[execOp,d,m]) (VI B (bk C q) h)
 ·rename_i y d;unfold No at h;split at h
  ·rename_i r' i j q;injection h with h;injection h with K J;subst K;subst J
   have I:=bk C q;refine fI.kN (u:=a.eval y) (w':=w) ?_ (kD.same B I);generalize hu:a.eval y=u at I;cases I;simp[execOp,d,hu]
  ·rename_i n es i j q;injection h with h;injection h with K J;subst K;subst J
   have I:=bk C q;refine fI.kN (u:=a.eval y) (w':=w) ?_ (kD.same B I);generalize hu:a.eval y=u at I;cases I;simp[execOp,d,hu]
  ·rename_i f b c q;injection h with h;injection h with K J;subst K;subst J
   have I:=bk C q;refine fI.kN (u:=a.eval y) (w':=w) ?_ (kD.same B I);generalize hu:a.eval y=u at I;cases I;simp[execOp,d,hu]
  cases h
 ·rename_i op t xo yo ty d;cases hx:aW tm xo with
  | none=>rw[hx]at h;simp[bZ]at h
  | some x'=>
   cases q:aW tm yo with| none=>rw[hx,q]at h;simp[bZ]at h| some U=>rw[hx,q]at h;exact fI.same B (λQ m=>by simp only[execOp,d,m]) (Y7 (bk C hx) (bk C q) h)
 ·rename_i op t y d;cases q:aW tm y with
  | none=>rw[q]at h;simp[qUn,ku]at h
  | some U=>rw[q]at h;exact fI.same B (λQ m=>by simp only[execOp,d,m]) (acj (bk C q) h)
 ·rename_i src dst y d;cases q:aW tm y with
  | none=>rw[q]at h;simp[cE]at h
  | some U=>rw[q]at h;exact fI.made (λQ m=>by simp only[execOp,d,m]) (Ns B hr R (bk C q) h)
 ·rename_i t y d;cases q:aW tm y with
  | none=>rw[q]at h;simp only[zN]at h;split at h<;>simp at h
  | some U=>rw[q]at h;exact fI.same B (λQ m=>by simp only[execOp,d,m]) (S4 (bk C q) h)
 ·rename_i f first captured d
  cases K:first.toList.mapM (aW tm) with| none=>rw[K]at h;simp[yR]at h| some xs=>
   cases J:captured.toList.mapM (aW tm) with
   | none=>rw[K,J]at h;simp[yR]at h
   | some ys=>
    rw[K,J]at h;obtain⟨rfl,I⟩:=VL (nk C K) (nk C J) h;refine fI.kN (u := .func f (first.map a.eval) (captured.map a.eval)) (w':=w) (by simp[execOp,d,Instr.makeFunc]) (kD.same B ?_);have e1 : ∀l:Array Operand,(l.toList.map a.eval).toArray=l.map a.eval:=λl=>by apply GP;simp
    rw[e1,e1]at I;exact I
 ·rename_i t l c d;cases hl:aW tm l with
  | none=>rw[hl]at h;simp only[yQ,GY]at h;split at h<;>first | cases h | (rename_i K J Z;cases J)
  | some l'=>
   cases Y:aW tm c with
   | none=>rw[hl,Y]at h;simp only[yQ,GY]at h;split at h<;>first | cases h | (rename_i K J Z;cases Z)
   | some c'=>rw[hl,Y]at h;exact fI.made (λQ m=>by simp only[execOp,d,m]) (VH B hr R (bk C hl) (bk C Y) h)
 ·rename_i t d;cases h;exact fI.made (s:=Instr.makeMap t none) (λQ m=>by simp only[execOp,d,AN]) (Np B hr R t)
 ·rename_i t y z ok d;cases q:aW tm y with
  | none=>rw[q]at h;simp only[pB]at h;split at h<;>simp_all
  | some U=>
   cases W:aW tm z with| none=>rw[q,W]at h;simp only[pB,GY]at h;split at h<;>simp_all| some z'=>rw[q,W]at h;exact fI.same B (λQ m=>by simp only[execOp,d,m]) (PO B (bk C q) (bk C W) h)
 ·rename_i t y lo hi mx d;cases hwd:(E.wide o && !V) with
  | true=>
   rw[hwd]at h;simp only[iQp]at h;cases q:aW tm y with
   | none=>rw[q]at h;unfold xc at h;split at h<;>simp_all
   | some U=>
    cases K:nc tm lo with| none=>rw[K]at h;simp[xc]at h| some lo'=>
     cases J:nc tm hi with
     | none=>rw[J]at h;unfold xc at h;split at h<;>simp_all
     | some hi'=>
      cases Z:nc tm mx with
      | none=>rw[Z]at h;unfold xc at h;split at h<;>simp_all
      | some mx'=>rw[q,K,J,Z]at h;exact fI.same B (λQ m=>by simp only[execOp,d,m]) (PN B (bk C q) (vE C K) (vE C J) (vE C Z) h)
  | false=>
  rw[hwd]at h;simp only[iQt]at h;cases q:aW tm y with
  | none=>rw[q]at h;simp only[dx]at h;split at h<;>simp at h
  | some U=>
   rw[q]at h;cases K:nc tm lo with
   | none=>rw[K]at h;simp[dx]at h
   | some lo'=>
    cases J:nc tm hi with| none=>rw[K,J]at h;simp[dx]at h| some hi'=>
     cases Z:nc tm mx with
     | none=>rw[K,J,Z]at h;simp[dx]at h
     | some mx'=>rw[K,J,Z]at h;exact fI.same B (λQ m=>by simp only[execOp,d,m]) (S0 B (bk C q) (vE C K) (vE C J) (vE C Z) h)
 ·rename_i t y f d;cases q:aW tm y with
  | none=>rw[q]at h;simp only[kM]at h;split at h<;>(try split at h)<;>simp_all
  | some U=>rw[q]at h;exact fI.same B (λQ m=>by simp only[execOp,d,m]) (JC (bk C q) h)
 ·rename_i t y f d;cases q:aW tm y with
  | none=>rw[q]at h;simp only[uV]at h;split at h<;>simp_all
  | some U=>rw[q]at h;exact fI.same B (λQ m=>by simp only[execOp,d,m]) (S5 (bk C q) h)
 ·rename_i t y z d;cases q:aW tm y with
  | none=>rw[q]at h;simp only[cb]at h;(repeat' split at h)<;>simp_all
  | some U=>
   cases W:aW tm z with| none=>rw[q,W]at h;simp[cb]at h| some z'=>rw[q,W]at h;exact fI.same B (λQ m=>by simp only[execOp,d,m]) (JB B (bk C q) (bk C W) h)
 ·rename_i t y z d;cases q:aW tm y with
  | none=>rw[q]at h;simp only[xG]at h;split at h<;>simp_all
  | some U=>
   cases W:aW tm z with| none=>rw[q,W]at h;simp only[xG,GY]at h;(repeat' split at h)<;>simp_all| some z'=>rw[q,W]at h;exact fI.same B (λQ m=>by simp only[execOp,d,m]) (S3 (bk C q) (bk C W) h)
 ·rename_i y st want ok d;cases q:aW tm y with
  | none=>rw[q]at h;simp only[BK]at h;split at h<;>simp_all
  | some U=>rw[q]at h;exact fI.same B (λQ m=>by simp only[execOp,d,m]) (PT (st:=st) (bk C q) h)
 ·rename_i y i d;cases q:aW tm y with
  | none=>rw[q]at h;simp[uE]at h
  | some U=>rw[q]at h;exact fI.same B (λQ m=>by simp only[execOp,d,m]) (Nr (bk C q) h)
 ·rename_i c d;split at h;·cases h
  rename_i args S;split at h
  ·rename_i fo Y;split at h
   ·rename_i t T;unfold FJ at T;split at T
    ·rename_i fi;obtain⟨fn,tR,f1,f2,f3,f4,f5⟩:=hov rfl fi t T;have H:=nk C S;obtain⟨rfl,rfl,L⟩:=VG (P:=E.P) (tR:=tR) B H h;have G:(c.args.toList.map a.eval).toArray=c.args.map a.eval:=by apply GP;simp
     rw[G]at L;have hex:(execOp a.eval o).run E.P w = .ok (.value (.bool false)) w:=by
      have h0:=run_callFunc_extern f1 f2 f3 f4 f5 (c.args.map a.eval) w;rw[L]at h0;simp only[iQd]at h0;have e0:(#[]++c.args.map a.eval ++ #[]:Array Value)=c.args.map a.eval:=by simp
      simp[execOp,d,resolve,Y,Act.eval,Deferred.ofValue,invoke,h0]
     exact fI.kN hex (kD.same B (.v rfl))
    cases T
   obtain⟨⟨x0,bs0⟩,h0,e⟩:=bU.1 h;cases e;exact(VO B C hq hpc d Y S h0).mono λu w'=>kD.Qk
  ·cases h
  rename_i b Y;have H:=nk C S;have L : ∀(s:Sem Value)(us:List Value),(c.args.map a.eval).toList=us->(∀D,builtin b c.argTypes o.type D us.toArray=(do pure (Next.value (<-s)))) ->
   ∀ {u w'},s.run E.P w = .ok u w'->(execOp a.eval o).run E.P w = .ok (.value u) w':=by
   intro s us X hb u w' hs;have e1:c.args.map a.eval=us.toArray:=by rw[<-X]
   simp only[execOp,d,resolve,Y,invoke,iQg,iQj,iQd,e1,hb,hs]
  have G:(c.args.map a.eval).toList=c.args.toList.map a.eval:=(by simp);unfold eD at h;split at h;·rename_i r';obtain⟨u,N⟩:=D1 H.1.symm;rw[N]at H;have I:=H.2 0 (.mp r') u rfl rfl;obtain⟨rfl,u',F,O⟩:=PQ (ty:=o.type) B I (O5.1 h).2;exact fI.kN (L _ [u] (by rw[G,N]) (λD=>rfl) F) (kD.same B O)
  ·rename_i y hnm;obtain⟨u,N⟩:=D1 H.1.symm;rw[N]at H;have I:=H.2 0 y u rfl rfl;obtain⟨rfl,u',F,O⟩:=Y3 (P:=E.P) (w:=w) (ty:=o.type) I h;exact fI.kN (L _ [u] (by rw[G,N]) (λD=>rfl) F) (kD.same B O)
  ·obtain⟨hm,rfl⟩:=sq h;obtain⟨u,us,X,u',F,O⟩:=Kq (w:=w) H hm;exact fI.kN (L (us.foldlM Builtin.min2 u) (u :: us) (by rw[G,X]) (λD=>rfl) F) (kD.same B O)
  ·obtain⟨hm,rfl⟩:=sq h;obtain⟨u,us,X,u',F,O⟩:=Kq (w:=w) H hm;exact fI.kN (L (us.foldlM Builtin.max2 u) (u :: us) (by rw[G,X]) (λD=>rfl) F) (kD.same B O)
  ·rename_i y z;obtain⟨u,v,N⟩:=wM H.1.symm;rw[N]at H;obtain⟨u',w',F,O⟩:=Ik (P:=E.P) (ty:=o.type) B hr R (H.2 0 y u rfl rfl) (H.2 1 z v rfl rfl) h;exact fI.kN (L _ [u,v] (by rw[G,N]) (λD=>rfl) F) O
  ·rename_i y;obtain⟨u,N⟩:=D1 H.1.symm;rw[N]at H;have I:=H.2 0 y u rfl rfl;obtain⟨rfl,u',F,O⟩:=Y5 (P:=E.P) (w:=w) (ty:=o.type) I h;exact fI.kN (L _ [u] (by rw[G,N]) (λD=>rfl) F) (kD.same B O)
  cases h
 cases h
def QV{H:aa}(j:iA M ι H.get w)(n:uq ι H)(e:TR M ι tm a){t:TypeId}{m k y:Operand}{x:AV}{i:aa}
 (q : ∀c:Operand->Value,execOp c o=(do Instr.mapUpdate t (c m) (c k) (c y);pure Next.skip))
 (h:jU E.P H t (aW tm m) (aW tm k) (aW tm y)=some (x,i)):fI E.P o a w λu w'=>rn M ι H w x i u w':=by
 cases hm:aW tm m with| none=>rw[hm]at h;simp only[jU]at h;split at h<;>simp_all| some s=>
  cases d:aW tm k with
  | none=>rw[hm,d]at h;simp only[jU]at h;split at h<;>simp_all
  | some k'=>
   cases f:aW tm y with
   | none=>rw[hm,d,f]at h;simp only[jU]at h;split at h<;>simp_all
   | some v=>rw[hm,d,f]at h;obtain⟨w',p,b⟩:=Jh (P:=E.P) j n (bk e hm) (bk e d) (bk e f) h;exact fI.Gw (by simp[q,p]) b
def WQ{H:aa}{d tt:Nat}(I:iA M ι H.get w)(F:uq ι H)(G:TR M ι tm a){pc:FuncId->List AV->Option AV}(Y : ∀f W y,pc f W=some y->kE E.P f W y)
 {tc:vl->List AV->aa->dA} (X : ∀f W H y Z,tc f W H=some (y,Z)->nH E.P f W H y Z) {x:AV} {Z:aa}
 (R:RR o.op=false) (h:evalW E pc tc H tm ⟨d,tt,H.gen d tt,0⟩ o=some (x,Z)):fI E.P o a w λu w'=>rn M ι H w x Z u w':=by
 unfold evalW at h;split at h
 ·rename_i t y z i;cases S:aW tm y with
  | none=>rw[S]at h;simp[kn]at h
  | some y'=>
   cases hz:aW tm z with| none=>rw[S,hz]at h;simp only[kn]at h;(repeat' split at h)<;>simp_all| some z'=>rw[S,hz]at h;obtain⟨w',Q,j⟩:=R5 (P:=E.P) I F (bk G S) (bk G hz) h;exact fI.Gw (by simp[execOp,i,Q]) j
 ·rename_i t m k y i;exact QV I F G (λρ=>by simp[execOp,i]) h
 ·rename_i t m k y i;exact QV I F G (λρ=>by simp[execOp,i]) h
 ·rename_i t m k i;cases K:aW tm m with
  | none=>rw[K]at h;simp only[ru]at h;split at h<;>simp_all
  | some m'=>
   cases hk:aW tm k with| none=>rw[K,hk]at h;simp only[ru]at h;split at h<;>simp_all| some k'=>rw[K,hk]at h;obtain⟨u,w',Q,j⟩:=Le (P:=E.P) I F (bk G K) (bk G hk) h;exact fI.kN (by simp only[execOp,i];exact HU Q) j
 ·rename_i t m s y i;cases K:aW tm m with
  | none=>rw[K]at h;simp[mq]at h
  | some m'=>
   cases U:aW tm s with| none=>rw[K,U]at h;simp[mq]at h| some s'=>
    cases S:aW tm y with
    | none=>rw[K,U,S]at h;simp[mq]at h
    | some y'=>rw[K,U,S]at h;obtain⟨w',Q,j⟩:=Hf (P:=E.P) (t:=t) I F (bk G K) (bk G U) (bk G S) h;exact fI.Gw (by simp[execOp,i,Q]) j
 ·rename_i t n ps i;cases T:iJ tm ps.toList with
  | none=>rw[T]at h;simp[ko]at h
  | some vs=>rw[T]at h;obtain⟨h1,h2⟩:=sJ (ι:=ι) G T;obtain⟨u,w',Q,j⟩:=Hh (P:=E.P) (qs:=ps.map λ(p:Nat × Operand)=>(p.1,a.eval p.2)) I F h (by rw[rF];exact h1) (by rw[rF];exact h2);exact fI.kN (by simp only[execOp,i];exact HU Q) j
 ·rename_i t n i;unfold Bx at h;split at h
  ·rename_i kd m b hn hb;obtain⟨⟨h0,h1,h2⟩,h⟩:=fP.1 h;cases h;obtain⟨e,ht,hbe⟩:=jb.1 hb;have T:=bk G hn;generalize hev:a.eval n=nv at T;cases T;obtain⟨u,w',Q,j⟩:=LL (P:=E.P) I rfl (F.fresh d tt 0) ht hbe kd m.toNat (by omega) h2;have K:((m.toNat:Nat):Int)=m:=by omega
   rw[K]at Q;exact fI.kN (by simp only[execOp,i,hev];exact HU Q) (j.toW F)
  cases h
 ·rename_i i;rw[i]at R;cases R
 ·rename_i i;rw[i]at R;cases R
 ·rename_i c i;split at h;·cases h
  rename_i args D;split at h
  ·rename_i fo hc;rcases My h with h | ⟨H1,rfl,h,hfl,B⟩
   ·exact MA I F G Y X i hc D h
   exact(MA I F G Y X i hc D h).mono λu w' hw=>SX I F hfl B hw
  ·cases h
  rename_i b hc;have C:=nk G D;have O : ∀(s:Sem Value)(us:List Value),(c.args.map a.eval).toList=us->(∀q,builtin b c.argTypes o.type q us.toArray=(do pure (Next.value (<-s)))) ->
   ∀ {u w'},s.run E.P w = .ok u w'->(execOp a.eval o).run E.P w = .ok (.value u) w':=by
   intro s us hus hb u w' U;have e1:c.args.map a.eval=us.toArray:=by rw[<-hus]
   simp only[execOp,i,resolve,hc,invoke,iQg,iQj,iQd,e1,hb,U]
  have B:(c.args.map a.eval).toList=c.args.toList.map a.eval:=(by simp);split at h;·rename_i y z;obtain⟨u,v,J⟩:=wM C.1.symm;rw[J]at C;obtain⟨u',w',L,N⟩:=Hi (P:=E.P) (ty:=o.type) I F (C.2 0 y u rfl rfl) (C.2 1 z v rfl rfl) h;exact fI.kN (O _ [u,v] (by rw[B,J]) (λq=>rfl) L) N
  ·rename_i y z;obtain⟨u,v,J⟩:=wM C.1.symm;rw[J]at C;cases V:E.wide o with
   | true=>rw[V]at h;simp only[iQp]at h;obtain⟨u',w',L,N⟩:=R6 (P:=E.P) (ty:=o.type) I F (C.2 0 y u rfl rfl) (C.2 1 z v rfl rfl) h;exact fI.kN (O _ [u,v] (by rw[B,J]) (λq=>rfl) L) N
   | false=>
   rw[V]at h;simp only[iQt]at h;obtain⟨u',w',L,N⟩:=Ut (P:=E.P) (ty:=o.type) I F (C.2 0 y u rfl rfl) (C.2 1 z v rfl rfl) h;exact fI.kN (O _ [u,v] (by rw[B,J]) (λq=>rfl) L) N
  cases h
 cases h
structure z7 (M:Mem) (ι:Map) (st:St) (nt:Nat) (a:Act) (w:World):Prop where
 sim:iA M ι st.hp.get w
 dom:uq ι st.hp
 tr:TR M ι st.tm a
 nt:a.tmps.size=nt
def lB(M:Mem)(ι:Map)(st:St)(a:Act)(w:World)(nt:Nat)(st':St)(b:Act)(w':World):Prop:=
 (∃M' A,z7 M' A st' nt b w'/\vg M ι st.hp.get w M' A st'.hp.get w')/\b.defers=a.defers
def lB.refl{st nt}(h:z7 M ι st nt a w):lB M ι st a w nt st a w:=⟨⟨M,ι,h,vg.refl⟩,rfl⟩
def Fi{st st':St}{nt dep:Nat}{d:Bool}{ops:Array Oper}(c:z7 M ι st nt a w){pc:FuncId->List AV->Option AV}(m : ∀f n y,pc f n=some y->kE E.P f n y)
 {tc:vl->List AV->aa->dA} (G : ∀f n H y e,tc f n H=some (y,e)->nH E.P f n H y e) (F:d=false ->∀f t,E.su f=some t->z9 E.P f t) (D:d=true\/RR o.op=false) (h:evalOp E pc tc nt dep d ops o st=some st')
 {ro:Option Nat} {K:Act->World->Prop} {Q:Exit->Act->World->Prop} (z : ∀L w',lB M ι st a w nt st' L w'->K L w') :
 if Region.wanted o (yielded ops a.tmps) then o.wpIn (FW ro) 0 E.P a w K Q else K (a.put o.dst undef) w:=by
 unfold evalOp at h;split at h;·cases h
 ·rename_i C;rw[kF c.tr C];simp only[bU]at h;obtain⟨tm',b,rfl⟩:=h;obtain⟨J,B⟩:=c.tr.put c.nt b (u:=undef) (.v rfl);simp only[gB,iQe];exact z _ _ ⟨⟨M,ι,⟨c.sim,c.dom,J,B⟩,vg.refl⟩,jh _ _ _⟩
 rename_i C;rw[kF c.tr C];simp only[if_true];have s : ∀ {x:AV} {e:aa} {tm':List AV},fI E.P o a w (λu w'=>rn M ι st.hp w x e u w')->dP nt st.tm o.dst x=some tm'->st'=⟨tm',e⟩->o.wpIn (FW ro) 0 E.P a w K Q:=by
  intro x e tm' j b R;subst R;refine j ro K Q λu w' ⟨M',A,J,B,h3,h4⟩=>z _ _ ?_;obtain⟨O,N⟩:=(c.tr.mono h3.mem h3.map).put c.nt b J;exact⟨⟨M',A,⟨B,h4,O,N⟩,h3⟩,jh _ _ _⟩
 split at h;·rename_i x bs I;simp only[bU]at h;obtain⟨tm',b,rfl⟩:=h;have:=yZ (E:=E) (o:=o) c.sim c.tr rfl (λk=>c.dom.fresh dep (o.dst.getD 0) k) m F I;exact s (λro K Q z=>this ro K Q λu w' q=>z u w' (q.toW c.dom)) b rfl
 split at h;·cases h
 rename_i p;split at h
 ·rename_i x e I;simp only[bU]at h;obtain⟨tm',b,rfl⟩:=h;have i:RR o.op=false:=by
   rcases D with rfl | i
   ·simp only[ig,ij,Bool.not_eq_false]at p;cases j:o.op<;>first | rfl | (simp[jQ,wOp,B9,j]at p)
   exact i
  exact s (WQ (E:=E) (o:=o) c.sim c.dom c.tr m G i I) b rfl
 cases h
end
end
section
section
variable{E:Env}{M:Mem}{ι:Map}{w:World}{a:Act}
def lB.trans{st c d:St}{nt:Nat}{a1 j:Act}{f m:World}(h:lB M ι st a w nt c a1 f)(p : ∀e b,z7 e b c nt a1 f->lB e b c a1 f nt d j m):lB M ι st a w nt d j m:=by
 obtain⟨⟨e,b,s,q⟩,n⟩:=h;obtain⟨⟨M2,i,t,v⟩,u⟩:=p e b s;exact⟨⟨M2,i,t,q.trans v⟩,u.trans n⟩
def LZ{o:Oper}{st st':St}{nt dep:Nat}{ops:Array Oper}{i:Nat}(d:z7 M ι st nt a w){pc:FuncId->List AV->Option AV}(V : ∀f I y,pc f I=some y->kE E.P f I y)
 {tc:vl->List AV->aa->dA} (T : ∀f I H y G,tc f I H=some (y,G)->nH E.P f I H y G) (S : ∀f t,E.su f=some t->z9 E.P f t) (h:evalOp E pc tc nt dep false ops o st=some st') (L:ops[i]?=some o)
 (b:Frame) (rest:List Nat) (k:List Item) (cs:List Frame) :
 ∃p w',lB M ι st a w nt st' p w'/\(b.kind = .normal->Steps E.P (lone (b.atR a (.inRegion ops (i :: rest) :: k)) cs w) (lone (b.atR p (.inRegion ops rest :: k)) cs w')):=by
 have C:Region.wanted o (yielded ops a.tmps)=false->Steps E.P (lone (b.atR a (.inRegion ops (i :: rest) :: k)) cs w) (lone (b.atR (a.put o.dst undef) (.inRegion ops rest :: k)) cs w):=by
  intro s;have Y:=stepR_op_skip (P:=E.P) (b:=b) (a:=a) (k:=k) (cs:=cs) (w:=w) (ops:=ops) (i:=i) (rest:=rest) (by simp[L,s]);simp only[L,fe]at Y;exact .one Y
 cases n:RR o.op with
 | false=>
  have q:=Fi (E:=E) (ro:=b.roundOf) (Q:=λ_ _ _=>False) d V T (λ_=>S) (.inr n) h (K:=λp w'=>lB M ι st a w nt st' p w') λp w' h=>h;by_cases s:Region.wanted o (yielded ops a.tmps)=true;·rw[if_pos s]at q;obtain⟨p,w',F,z⟩:=Rt L s b q rest k cs;exact⟨p,w',F,λ_=>z⟩
  rw[if_neg s]at q;exact⟨_,_,q,λ_=>C (by simpa using s)⟩
 | true=>
  unfold evalOp at h;split at h;·cases h
  ·rename_i s;have B:=kF d.tr s;simp only[bU]at h;obtain⟨tm',j,rfl⟩:=h;obtain⟨q,F⟩:=d.tr.put d.nt j (u:=undef) (.v rfl);exact⟨_,_,⟨⟨M,ι,⟨d.sim,d.dom,q,F⟩,vg.refl⟩,jh _ _ _⟩,λ_=>C B⟩
  rename_i s;have B:=kF d.tr s;have N : ∀ {x:AV} {G:aa} {tm':List AV},Jd E.P o a w (λu w'=>rn M ι st.hp w x G u w')->dP nt st.tm o.dst x=some tm'->st'=⟨tm',G⟩ ->
   ∃p w',lB M ι st a w nt st' p w'/\(b.kind = .normal->Steps E.P (lone (b.atR a (.inRegion ops (i :: rest) :: k)) cs w) (lone (b.atR p (.inRegion ops rest :: k)) cs w')):=by
   intro x G tm' e j he;subst he;by_cases Z:b.kind = .normal;·obtain⟨u,w',⟨M',A,q,F,z,U⟩,J⟩:=e b k cs ops i rest Z L B;obtain⟨R,W⟩:=(d.tr.mono z.mem z.map).put d.nt j q;exact⟨_,_,⟨⟨M',A,⟨F,U,R,W⟩,z⟩,jh _ _ _⟩,λ_ => .one J⟩
   obtain⟨u,w',⟨M',A,q,F,z,U⟩,J⟩:=e { b with kind := .normal} k cs ops i rest rfl L B;obtain⟨R,W⟩:=(d.tr.mono z.mem z.map).put d.nt j q;exact⟨_,_,⟨⟨M',A,⟨F,U,R,W⟩,z⟩,jh _ _ _⟩,λh=>absurd h Z⟩
  have O:dq E pc false st.hp.get st.tm ⟨dep,o.dst.getD 0,st.hp.gen dep (o.dst.getD 0),0⟩ o=none:=(by unfold dq;cases e:o.op<;>rw[e]at n<;>first | rfl | (cases n));rw[O]at h;simp only[oY,gB,iQe]at h;split at h
  ·rename_i x G m;simp only[bU]at h;obtain⟨tm',j,rfl⟩:=h;unfold evalW at m;cases e:o.op<;>rw[e]at n m<;>try (cases n;done)
   ·rename_i c y;simp only at m;cases D:aW st.tm c with
    | none=>rw[D]at m;simp[Hc]at m
    | some c'=>
     cases X:aW st.tm y with| none=>rw[D,X]at m;simp[Hc]at m| some y'=>rw[D,X]at m;exact N (Ur d.sim d.dom e (bk d.tr D) (bk d.tr X) m) j rfl
   rename_i t c okb;simp only at m;cases D:aW st.tm c with
   | none=>rw[D]at m;simp[J0]at m
   | some c'=>rw[D]at m;exact N (Us d.sim d.dom e (bk d.tr D) m) j rfl
  cases h
def W0{H D:aa}{tm:List AV}{dep:Nat}{o:Oper}{x:AV}(C:iA M ι H.get w)(F:uq ι H)(G:TR M ι tm a)(h:FU E false H tm ⟨dep,o.dst.getD 0,H.gen dep (o.dst.getD 0),0⟩ o=some (some (x,D))) :
 fI E.P o a w λu w'=>rn M ι H w x D u w':=by
 unfold FU at h;split at h;·cases h
 split at h
 ·rename_i t n ps i;simp only[eS]at h;cases q:iJ tm ps.toList with
  | none=>rw[q]at h;simp[Dv]at h
  | some Q=>rw[q]at h;obtain⟨N,J⟩:=sJ (ι:=ι) G q;obtain⟨u,w',L,m⟩:=Pa (P:=E.P) (qs:=ps.map λ(p:Nat × Operand)=>(p.1,a.eval p.2)) C F h (by rw[rF];exact N) (by rw[rF];exact J);exact fI.kN (by simp only[execOp,i];exact HU L) m
 ·rename_i c i;split at h
  ·rename_i O;simp only[eS]at h;split at h
   ·rename_i y z f;have d:=nk G f;have e:(c.args.map a.eval).toList=c.args.toList.map a.eval:=by simp
    obtain⟨u,v,j⟩:=wM d.1.symm;rw[j]at d;obtain⟨R,w',s,B⟩:=Uu (P:=E.P) (ty:=o.type) C F (d.2 0 y u rfl rfl) (d.2 1 z v rfl rfl) h;refine fI.kN ?_ B;have I:c.args.map a.eval=[u,v].toArray:=by rw[<-j,<-e]
    have K : ∀b,builtin .append c.argTypes o.type b [u,v].toArray=(do pure (Next.value (<-Builtin.append_ c.argTypes o.type #[u,v]))):=λb=>rfl;simp only[execOp,i,resolve,O,invoke,iQg,iQj,iQd,I,K,s]
   cases h
  cases h
 cases h
def Oa{o:Oper}{st st':St}{nt dep:Nat}{ops:Array Oper}{i:Nat}(c:z7 M ι st nt a w){pc:FuncId->List AV->Option AV}(B : ∀f n y,pc f n=some y->kE E.P f n y)
 {tc:vl->List AV->aa->dA} (G : ∀f n H y s,tc f n H=some (y,s)->nH E.P f n H y s) (F : ∀f t,E.su f=some t->z9 E.P f t) (h:Ap E pc tc nt dep false ops o st=some st') (z:ops[i]?=some o)
 (b:Frame) (rest:List Nat) (k:List Item) (cs:List Frame) :
 ∃j w',lB M ι st a w nt st' j w'/\(b.kind = .normal->Steps E.P (lone (b.atR a (.inRegion ops (i :: rest) :: k)) cs w) (lone (b.atR j (.inRegion ops rest :: k)) cs w')):=by
 unfold Ap at h;split at h;·exact LZ c B G F h z b rest k cs
 rename_i wr D;split at h;·cases h
 ·rename_i C;have e:=kF c.tr C;simp only[bU]at h;obtain⟨tm',d,rfl⟩:=h;obtain⟨q,m⟩:=c.tr.put c.nt d (u:=undef) (.v rfl);refine⟨_,_,⟨⟨M,ι,⟨c.sim,c.dom,q,m⟩,vg.refl⟩,jh _ _ _⟩,λ_=>?_⟩;have J:=stepR_op_skip (P:=E.P) (b:=b) (a:=a) (k:=k) (cs:=cs) (w:=w) (ops:=ops) (i:=i) (rest:=rest) (by simp[z,e]);simp only[z,fe]at J;exact .one J
 rename_i C;have e:=kF c.tr C;split at h
 ·rename_i x s;simp only[bU]at h;obtain⟨tm',d,rfl⟩:=h;have I:=W0 c.sim c.dom c.tr D;have q:o.wpIn (FW b.roundOf) 0 E.P a w (λj w'=>lB M ι st a w nt ⟨tm',s⟩ j w') (λ_ _ _=>False):=by
   refine I _ _ _ λu w' ⟨M',A,q,m,p,h4⟩=>?_;obtain⟨L,K⟩:=(c.tr.mono p.mem p.map).put c.nt d q;exact⟨⟨M',A,⟨m,h4,L,K⟩,p⟩,jh _ _ _⟩
  obtain⟨j,w',m,p⟩:=Rt z e b q rest k cs;exact⟨j,w',m,λ_=>p⟩
 cases h
def LG{pc:FuncId->List AV->Option AV}(j : ∀f d y,pc f d=some y->kE E.P f d y)
 {tc:vl->List AV->aa->dA} (z : ∀f d H y F,tc f d H=some (y,F)->nH E.P f d H y F) (v : ∀f t,E.su f=some t->z9 E.P f t) {nt dep:Nat} {ops:Array Oper} {st':St} (b:Frame) (k:List Item) (cs:List Frame) :
 ∀(l c:List Oper)(st:St)(M:Mem)(ι:Map)(a:Act)(w:World),ops.toList=c++l->oI E pc tc nt dep false ops l st=some st'->z7 M ι st nt a w ->
  ∃G w',lB M ι st a w nt st' G w'/\(b.kind = .normal->Steps E.P (lone (b.atR a (.inRegion ops (List.range' c.length l.length) :: k)) cs w) (lone (b.atR G (.inRegion ops [] :: k)) cs w')):=by
 intro l;induction l with
 | nil=>intro c st M ι a w _ h u;simp only[oI,eS]at h;subst h;exact⟨a,w,lB.refl u,λ_=>Steps.refl _ _⟩
 | cons o l S=>
  intro c st M ι a w I h u;simp only[oI]at h;split at h
  ·rename_i x U;have Q:ops[c.length]?=some o:=by
    rw[<-GM,I];simp
   obtain⟨a1,N,e,p⟩:=Oa u j z v U Q b (List.range' (c.length+1) l.length) k cs;obtain⟨⟨K,B,s,C⟩,L⟩:=e;obtain⟨R,O,⟨⟨M2,q,i,m⟩,T⟩,n⟩:=S (c++[o]) x K B a1 N (by simp[I]) h s;refine⟨R,O,⟨⟨M2,q,i,C.trans m⟩,T.trans L⟩,λJ=>?_⟩;have D:=n J;simp only[iX,jP,lE,vP]at D;rw[jP,List.range'_succ];exact(p J).trans D
  cases h
def LI{pc:FuncId->List AV->Option AV}(e : ∀f c y,pc f c=some y->kE E.P f c y)
 {tc:vl->List AV->aa->dA} (j : ∀f c H y m,tc f c H=some (y,m)->nH E.P f c H y m) (i : ∀f t,E.su f=some t->z9 E.P f t) {nt dep id:Nat} {ops:Array Oper} {st st':St} (b:Frame) (k:List Item) (cs:List Frame)
 (h:oI E pc tc nt dep false ops ops.toList st=some st') (p:z7 M ι st nt a w) :
 ∃d w',lB M ι st a w nt st' d w'/\(b.kind = .normal->Steps E.P (lone (b.atR a (.code (.region id ops false) :: k)) cs w) (lone (b.atR d k) cs w')):=by
 obtain⟨d,w',s,n⟩:=LG e j i b k cs ops.toList [] st M ι a w rfl h p;refine⟨d,w',s,λq=>iQn (.one ?_) (iQn (n q) (.one stepR_region_end))⟩;have:=stepR_region (P:=E.P) (b:=b) (a:=a) (k:=k) (cs:=cs) (w:=w) (id:=id) (ops:=ops);simpa [OW] using this
structure Env.Ok (E:Env) (ok:Array Oper->Bool):Prop where
 fns : ∀f,E.allowed f=true ->∃fn,E.P.funcs[f]?=some fn/\(fn.name == "runtime.NumGoroutine")=false /\∀c,fn.body=some c->codeOk ok c=true
 specs : ∀f args y,E.spec f args=some y->kE E.P f args y
 same:E.ok=ok
 overs : ∀f t,E.su f=some t->z9 E.P f t
 thrs : ∀f args H y H',E.thrSpec f args H=some (y,H')->nH E.P (.fn f) args H y H'
 draws : ∀(ops:Array Oper),ok ops=true ->∀ {pc:FuncId->List AV->Option AV},(∀f xs y,pc f xs=some y->kE E.P f xs y) ->
  ∀ {tc:vl->List AV->aa->dA},(∀f xs H y H',tc f xs H=some (y,H')->nH E.P f xs H y H') ->∀(nt dep id:Nat)(st st':St)(M:Mem)(ι:Map)(a:Act)(w:World)(ro:Option Nat)(Q:Exit->Act->World->Prop),
  oI E pc tc nt dep true ops ops.toList st=some st'->uh E ops st'=true->z7 M ι st nt a w->(∀a' w',lB M ι st a w nt st' a' w'->Q .normal a' w')->(Code.region id ops true).wpIn (FW ro) 0 E.P Q a w
def KA{ok:Array Oper->Bool}{id:Nat} : ∀ {k k':List Item},exitTo id k=some k'->(∀i∈k,pj ok i=true) ->∀i∈k',pj ok i=true:=by
 intro k;induction k with
 | nil=>intro k' h;simp[exitTo]at h
 | cons x k c=>
  intro k' h e;have b : ∀i∈k,pj ok i=true:=λi hi=>e i (kQ _ hi);cases x with
  | inBlock d=>
   simp only[exitTo]at h;split at h;·injection h with h;subst h;exact b
   exact c h b
  | _=>exact c (by simpa [exitTo] using h) b
def abO{P:Program}{ro:Option Nat}{m b:Machine}(h:StepsIn (Machine.fenced P (FW ro)) P m b):Steps P m b:=iQx h
def MW{P:Program}{c:Code}{a:Act}{w:World}{R:Act->World->Prop}(b:Frame)(h:c.wpIn (FW b.roundOf) 0 P (λe a w=>e = .normal/\R a w) a w)(k:List Item)(cs:List Frame) :
 ∃f w',R f w'/\Steps P (lone (b.atR a (.code c :: k)) cs w) (lone (b.atR f k) cs w'):=by
 obtain⟨e,f,w',⟨he,i⟩,d⟩:=h b k cs rfl trivial (λ_ h=>by simp[FW,Fence.wide]at h);subst he;exact⟨f,w',i,abO d⟩
def Wo{H:aa}{r:Ref}{n:Nat}{b:AV}(h:yW H r=some (n,b)) : ∃st a f,H.get r=some ⟨0,[.v (.int .i64 st),b],a,f⟩/\st.toNat=n:=by
 unfold yW at h;split at h;·rename_i st c a f d;cases h;exact⟨st,a,f,d,rfl⟩
 cases h
structure Xu (r r':Loop):Prop where
 tmps:r'.tmps=r.tmps
 params:r'.params=r.params
 assign:r'.assign=r.assign
 body:r'.body=r.body
def BN{H:aa}{r:Ref}{l:Loc}{n:Nat}{s:AV}(D:iA M ι H.get w)(hD:uq ι H)(W:ι r=some l)(ha:yW H r=some (n,s)) :
 ∃nt ps assign body tm y,s = .lp 0 nt ps assign body tm/\w.heap[l.b]?=some (.loop y)/\y.params=ps.toArray/\y.assign=assign/\y.body=body/\y.tmps.size=nt/\(∀t,VR M ι (dE tm t) (y.tmps.getD t undef))/\DB n y /\
  (∀G c,Xu y c->DB G c->iA M ι (H.put r (some (eU G s))).get (cM w l.b (.loop c))/\vg M ι H.get w M ι (H.put r (some (eU G s))).get (cM w l.b (.loop c))/\uq ι (H.put r (some (eU G s)))) /\
  ∀c,iA M ι (H.put r none).get (cM w l.b (.loop c))/\vg M ι H.get w M ι (H.put r none).get (cM w l.b (.loop c))/\uq ι (H.put r none):=by
 obtain⟨st,a,f,O,hst⟩:=Wo ha;obtain⟨l',J,hb⟩:=D.live r _ O;rw[W]at J;cases J;rcases hb.objOk rfl with ⟨n0,nt,ps,as,bd,tm,y,X,U,C,Q,V,h6,h7,h8,h9,h10⟩ | ⟨_,_,_,_,C,_⟩ | ⟨_,_,_,_,_,_,_,_,C,_⟩
 case inr.inl=>simp at C
 case inr.inr=>simp at C
 simp only[yc,AV.v.injEq,Value.int.injEq,iQs,iQr]at C;obtain⟨e1,e2⟩:=C;subst e2;have hn:n0=n:=by rw[<-hst,e1];simp
 subst hn;have hlt:l.b<w.heap.size:=(jx.1 Q).1;have hM : ∀o x,M l.b o=some x->False:=by
  intro o x Z;have:=D.mem _ _ _ Z;simp[World.cell?,Q]at this
 have hlz:l.esz=0:=hb.esz;have j : ∀c d,∀q k,(H.put r d).get q=some k->q≠r ->∃m,ι q=some m/\qp M ι (cM w l.b (.loop c)) m k:=by
  intro c d q k i z;rw[aa.ad,if_neg z]at i;obtain⟨m,I,T⟩:=D.live q k i;have hnb:l.b≠m.b:=λe=>z (D.inj q r k _ m l i O I W e.symm);exact⟨m,I,T.bT (λ_ _ _ h=>h) (λ_ _ h=>h) (fV hnb) T.frozen⟩
 have B : ∀c,∀b o x,M b o=some x->(cM w l.b (.loop c)).cell? ⟨b,o,none⟩=some x:=by
  intro c b o x Z;have z:l.b≠b:=λe=>hM o x (e ▸ Z);rw[iQk (w:=w) (fV z)];exact D.mem b o x Z
 have u : ∀(d:Option bC) q k,(H.put r d).get q=some k ->∃K,H.get q=some K:=by
  intro d q k i;rw[aa.ad]at i;split at i;·rename_i e;exact⟨_,e ▸ O⟩
  exact⟨k,i⟩
 have S : ∀(d:Option bC) q F k k' m Y,(H.put r d).get q=some k->(H.put r d).get F=some k'->ι q=some m->ι F=some Y->m.b=Y.b->q=F:=by
  intro d q F k k' m Y X U C Q V;obtain⟨K,g1⟩:=u d q k X;obtain⟨k1,g2⟩:=u d F k' U;exact D.inj q F K k1 m Y g1 g2 C Q V
 have fwd : ∀(d:Option bC) c,vg M ι H.get w M ι (H.put r d).get (cM w l.b (.loop c)):=by
  intro d c;refine⟨rfl,rfl,rfl,by simp[cM],λb _ hno=>fV (hno r _ l O W),λ_ _ _ h=>h,λ_ _ h=>h,λq k m X U=>?_,λ_ _ _ h => .inl h⟩;obtain⟨K,g1⟩:=u d q k X;exact .inr ⟨q,K,m,g1,U,rfl⟩
 have R : ∀d:Option bC,uq ι (H.put r d):=by
  intro d q lq i;rw[aa.jo _ _ _ (by rw[O];rfl)];exact hD q lq i
 refine⟨nt,ps,as,bd,tm,y,rfl,Q,V,h6,h7,h8,h9,h10,λG c L N=>⟨⟨B c,λq k i=>?_,S _⟩,fwd _ c,R _⟩,λc=>⟨⟨B c,λq k i=>?_,S _⟩,fwd _ c,R _⟩⟩
 ·by_cases p:q=r;·subst p;rw[aa.ad,if_pos rfl]at i;cases i;refine⟨l,W,oW.TN (.inl ⟨G,nt,ps,as,bd,tm,c,rfl,rfl,rfl,iE hlt,by rw[L.params];exact V,by rw[L.assign];exact h6,by rw[L.body];exact h7,by rw[L.tmps];exact h8,by rw[L.tmps];exact h9,N⟩) hlz hM⟩
  exact j c _ q k i p
 by_cases p:q=r;·rw[aa.ad,if_pos p]at i;cases i
 exact j c _ q k i p
def Wp{H:aa}{d nt:Nat}{tm:List AV}{a:Act}{ps:Array Tmp}{assign body:Code}{fn:FuncId}(z:iA M ι H.get w)(O:uq ι H)(V:TR M ι tm a)(X:a.tmps.size=nt){p:World}
 (F:p=(w.alloc (.deferred (some []))).alloc (.loop { state := .ready,pending:=none,fn,tmps:=a.tmps,params:=ps,assign,body,defers:=w.heap.size})) :
 let r:Ref:=⟨d,nt,H.gen d nt,0⟩
 let c:=lQ ι r ⟨w.heap.size+1,0,0⟩
 iA M c (aa.get ((r,some (eU 0 (.lp 0 nt ps.toList assign body tm))) :: H)) p/\vg M ι H.get w M c (aa.get ((r,some (eU 0 (.lp 0 nt ps.toList assign body tm))) :: H)) p /\
  uq c ((r,some (eU 0 (.lp 0 nt ps.toList assign body tm))) :: H)/\p.heap[w.heap.size]?=some (.deferred (some [])):=by
 intro r c;have hq:ι r=none:=O.fresh d nt 0;have n:=Gm (l:=⟨w.heap.size+1,0,0⟩) hq;have f:p.heap=(w.heap.push (.deferred (some []))).push (.loop { state := .ready,pending:=none,fn,tmps:=a.tmps,params:=ps,assign,body,defers:=w.heap.size}):=by rw[F];rfl
 have j : ∀b,b<w.heap.size->p.heap[b]?=w.heap[b]?:=by
  intro b I;rw[f,FA (by simp;omega),<-kY,FA I,<-kY]
 have J:p.heap[w.heap.size]?=some (.deferred (some [])):=by rw[f,FA (by simp),<-kY];simp
 have L:p.heap[w.heap.size+1]?=some (.loop { state := .ready,pending:=none,fn,tmps:=a.tmps,params:=ps,assign,body,defers:=w.heap.size}):=by rw[f,Array.getElem?_push];simp
 have s : ∀b o x,M b o=some x->b<w.heap.size:=λb o x h=>iQm w ⟨b,o,none⟩ (z.mem b o x h);have m : ∀q,aa.get ((r,some (eU 0 (.lp 0 nt ps.toList assign body tm))) :: H) q=if r=q then some (eU 0 (.lp 0 nt ps.toList assign body tm)) else H.get q:=λq=>rfl
 refine⟨⟨λb o x h=>?_,λq k h=>?_,λq T k k' i R C u W Z U=>?_⟩,⟨by rw[F];rfl,by rw[F];rfl,by rw[F];rfl,by rw[f];simp;omega,λb I _=>j b I,λ_ _ _ h=>h,n,λq k i C u=>?_,λ_ _ _ h => .inl h⟩,λq i h=>?_,J⟩;·rw[iQk (w:=w) (j b (s b o x h))];exact z.mem b o x h
 ·rw[m]at h;split at h;·rename_i e;subst e;cases h;refine⟨⟨w.heap.size+1,0,0⟩,by simp[c,lQ],oW.TN (.inl ⟨0,nt,ps.toList,assign,body,tm,_,rfl,rfl,rfl,L,by simp,rfl,rfl,X,λt=>(V.at_ t).mono (λ_ _ _ h=>h) c n,⟨rfl,rfl⟩⟩) rfl ?_⟩;intro o x hx;have:=s _ _ _ hx;simp only at this;omega
  obtain⟨i,G,v⟩:=z.live q k h;exact⟨i,n q i G,v.bT (λ_ _ _ h=>h) n (j _ v.lt) v.frozen⟩
 ·have one : ∀ {q:Ref} {k i},aa.get ((r,some (eU 0 (.lp 0 nt ps.toList assign body tm))) :: H) q=some k->c q=some i->(q=r/\i.b=w.heap.size+1)\/(q≠r/\H.get q=some k/\ι q=some i/\i.b<w.heap.size):=by
   intro q k i h y;rw[m]at h;split at h;·rename_i e;subst e;simp only[c,lQ,if_true]at y;cases y;exact .inl ⟨rfl,rfl⟩
   rename_i e;simp only[c,lQ]at y;rw[if_neg (tC e)]at y;obtain⟨R,D,K⟩:=z.live q k h;rw[y]at D;cases D;exact .inr ⟨tC e,h,y,K.lt⟩
  rcases one C W with ⟨N,Q⟩ | ⟨N,Q,Y,e4⟩<;>rcases one u Z with ⟨f1,f2⟩ | ⟨f1,f2,f3,f4⟩
  ·rw[N,f1]
  ·omega
  ·omega
  exact z.inj q T k k' i R Q f2 Y f3 U
 ·rw[m]at C;simp only[c,lQ]at u;split at C;·rename_i e;rw[if_pos e.symm]at u;cases u;exact .inl (Et _)
  rename_i e;rw[if_neg (tC e)]at u;exact .inr ⟨q,k,i,C,u,rfl⟩
 simp only[c,lQ]at h;simp only[aa.gen];by_cases B:q=r;·subst B;rw[if_pos ⟨rfl,rfl⟩];exact sg _
 rw[if_neg B]at h;have:=O q i h;split;·rename_i S;rw[<-S.1,<-S.2]at this;exact CO this
 exact this
def Sd : ∀(args:List AV)(t:Nat),dE args t=(args[t]?).getD AV.undef:=by
 intro args;induction args with
 | nil=>intro t;simp[dE]
 | cons x l b=>
  intro t;cases t with
  | zero=>simp[dE]
  | succ t=>simp[dE,b]
def YP(tmps:Array Value):ResultVar->Sem Value
 | .tmp t=>pure (tmps.getD t undef)
 | .cell b t=>asAddr (tmps.getD b undef) >>= λx=>loadVar t x
def PF(fn:Func)(tmps:Array Value):results fn tmps=fn.results.mapM (YP tmps) >>= λb=>pure (if h:b.size=1 then b[0] else .tuple b):=by
 unfold results;congr 1
def PE{fn:Func}{st:St}{nt:Nat}(H:z7 M ι st nt a w){x:AV}(h:yN E.P fn st=some x) : ∃v,(results fn a.tmps).run E.P w = .ok v w/\VR M ι x v:=by
 have one : ∀(G:ResultVar)(y:AV),mG E.P st G=some y ->∃v,(YP a.tmps G).run E.P w = .ok v w/\VR M ι y v:=by
  intro G y p;cases G with
  | tmp t=>simp only[mG,eS]at p;subst p;exact⟨_,rfl,H.tr.at_ t⟩
  | cell b t=>
   simp only[mG]at p;split at p
   ·rename_i r i j g n K S O;split at p;·rename_i k R;have F:=H.tr.at_ b;rw[K]at F;obtain⟨v,q,m⟩:=Rx S O H.sim F R p;refine⟨v,?_,m⟩;simp only[YP];generalize a.tmps.getD b undef=u at F q ⊢;cases F;simpa [asAddr,Instr.loadAt,Instr.sureAddr] using q
    cases p
   cases p
 have many : ∀(D:List ResultVar)(s:List AV),D.mapM (mG E.P st)=some s ->∃f,(D.mapM (YP a.tmps)).run E.P w = .ok f w/\mM M ι s f:=by
  intro D;induction D with
  | nil=>intro s h;simp at h;subst h;exact⟨[],rfl,mM.nil⟩
  | cons r D Q=>intro s h;simp only[oo,th,uu,jb]at h;obtain⟨y,p,I,d,h⟩:=h;simp at h;subst h;obtain⟨v,q,m⟩:=one r y p;obtain⟨f,N,T⟩:=Q I d;refine⟨v :: f,?_,mM.cons m T⟩;rw[oo];simp only[iQg,q,iQd,N,iQj]
 unfold yN at h;have z : ∀s,fn.results.toList.mapM (mG E.P st)=some s ->∃f:List Value,(results fn a.tmps).run E.P w = .ok (if h:f.toArray.size=1 then f.toArray[0] else .tuple f.toArray) w/\mM M ι s f:=by
  intro s d;obtain⟨f,q,m⟩:=many _ s d;refine⟨f,?_,m⟩;rw[PF];simp only[Array.mapM_eq_mapM_toList,iQg,Sem.run_map,q,iQd,iQj]
 split at h
 ·rename_i d;injection h with h
  subst h;obtain⟨f,q,m⟩:=z _ d;have:f=[]:=Ak (by rw[<-m.1];rfl);subst this;exact⟨_,q,.v rfl⟩
 ·rename_i y d;injection h with h
  subst h;obtain⟨f,q,m⟩:=z _ d;obtain⟨v,rfl⟩:=D1 m.1.symm;exact⟨v,by simpa using q,m.2 0 y v rfl rfl⟩
 ·rename_i s B C d;injection h with h
  subst h;obtain⟨f,q,m⟩:=z _ d;have L:f.length≠1:=by
   intro h;rw[<-m.1]at h;obtain⟨y,p⟩:=D1 h;exact C y p
  refine⟨.tuple f.toArray,?_,.tup ?_ (by simpa using m.1) λi c u U J=>m.2 i c u U (by simpa using J)⟩;·rw[q,dif_neg (by simpa using L)]
  intro e;exact B e
 cases h
def marks(ds:List Nat):List Deferred:=ds.map λD => { target := .collected D,args := #[]}
def sZ(w w':World)(ds:List Nat):Prop:=ds.Nodup /\∀D∈ds,w.heap.size<=D/\w'.heap[D]?=some (.deferred (some []))
def It{M:Mem}{ι:Map}{g:dv}{w:World}(j:iA M ι g w){D:Nat}{x:Option (List Deferred)}(h:w.heap[D]?=some (.deferred x)) : ∀r k l,g r=some k->ι r=some l->l.b≠D:=by
 intro r k l m n e;obtain⟨p,d,i⟩:=j.live r k m;rw[n]at d;cases d;rcases EC k.esz with f | f
 ·rcases(i.objOk f).obj with ⟨_,c⟩ | ⟨_,_,c⟩ | ⟨_,_,_,_,_,_,c⟩
  ·rw[e,h]at c;cases c
  ·rw[e,h]at c;cases c
  rw[e,h]at c;cases c
 obtain⟨_,_,_,c,_⟩:=(i.cellsOk f).heap;rw[e,h]at c;cases c
def sZ.fwd{w b e:World}{ds:List Nat}{M1 ι1 g1 M2 ι2 g2}(h:sZ w b ds)(f:iA M1 ι1 g1 b)(i:vg M1 ι1 g1 b M2 ι2 g2 e):sZ w e ds:=
 ⟨h.1,λD d=>⟨(h.2 D d).1,by
  have c:=(h.2 D d).2;rw[i.chg D (jx.1 c).1 (It f c)];exact c⟩⟩
def sZ.append{w i j:World}{ds c:List Nat}(n:w.heap.size<=i.heap.size)(h:sZ w j ds)(p : ∀D∈ds,D<i.heap.size)(f:sZ i j c):sZ w j (c++ds):=by
 refine⟨KZ.2 ⟨f.1,h.1,λa m b s e=>?_⟩,λD q=>?_⟩;·have:=(f.2 a m).1;have:=p b s;omega
 rcases mS.1 q with d | d
 ·exact⟨wT n (f.2 D d).1,(f.2 D d).2⟩
 exact h.2 D d
def Gj(P:Program)(rd:Option Ref)(M:Mem)(ι:Map)(st:St)(a:Act)(w:World)(nt:Nat)(st':St)(b:Frame)(cs:List Frame)(m:Machine):Prop:=match rd with
 | none=>b.roundOf=none->b.kind = .normal ->∃h w' e ds,(∃M' A,z7 M' A st' nt h w'/\vg M ι st.hp.get w M' A st'.hp.get w')/\h.defers=marks ds++a.defers/\sZ w w' ds /\
  Steps P m (lone { b.atR h e with mode := .returning} cs w')
 | some r =>∀l c d,ι r=some l->b.roundOf=some l.b->b.kind = .normal->cs=c :: d ->∃n f w',yW st'.hp r=some (n,f)/\n≠1 /\
  (∃M' A,iA M' A st'.hp.get w'/\vg M ι st.hp.get w M' A st'.hp.get w'/\uq A st'.hp)/\Steps P m (lone (c.finish (.bool (n == 0))) d w')
def Gj.of_steps{P:Program}{rd:Option Ref}{M t:Mem}{ι e:Map}{st f st':St}{a a1:Act}{w p:World}{nt:Nat}{b:Frame}{cs:List Frame}{m G:Machine}{ds:List Nat}
 (C:b.roundOf=none\/rd≠none->b.kind = .normal->Steps P m G) (v:iA t e f.hp.get p) (s:vg M ι st.hp.get w t e f.hp.get p) (hd:a1.defers=marks ds++a.defers) (H:sZ w p ds) (h:Gj P rd t e f a1 p nt st' b cs G):Gj P rd M ι st a w nt st' b cs m:=by
 unfold Gj at h ⊢;cases rd with
 | none=>intro q i;obtain⟨O,w',todo,z,⟨M',A,S,j⟩,u,B,d⟩:=h q i;refine⟨O,w',todo,z++ds,⟨M',A,S,s.trans j⟩,?_,(H.fwd v j).append s.size (λD K=>(jx.1 (H.2 D K).2).1) B,(C (.inl q) i).trans d⟩;rw[u,hd];simp[marks]
 | some r=>intro l c y L q F x;obtain⟨n,inf,w',Q,I,⟨M',A,N,R,J⟩,d⟩:=h l c y (s.map r l L) q F x;exact⟨n,inf,w',Q,I,⟨M',A,N,s.trans R,J⟩,(C (.inr (by simp)) F).trans d⟩
def uH{w w':World}:sZ w w' []:=⟨List.nodup_nil,λD h=>by cases h⟩
def OF(E:Env)(ok:Array Oper->Bool)(n:Nat):Prop:=
 ∀(rd:Option Ref)(nt dep:Nat)(c:List Item)(st st':St),cR E n rd nt dep c st=some st'->(∀i∈c,pj ok i=true) ->∀(M:Mem)(ι:Map)(a:Act)(w:World),z7 M ι st nt a w ->
  ∀(b:Frame)(cs:List Frame),Gj E.P rd M ι st a w nt st' b cs (lone (b.atR a c) cs w)
def NN{P:Program}{fr:Frame}{cs:List Frame} : ∀(ds:List Nat)(w:World),fr.mode = .returning->ds.Nodup->(∀D∈ds,w.heap[D]?=some (.deferred (some []))) ->
 ∃w',Steps P (lone { fr with defers:=marks ds} cs w) (lone { fr with defers:=[]} cs w')/\w'.os=w.os/\w'.tape=w.tape/\w'.output=w.output/\w'.heap.size=w.heap.size /\∀b,b ∉ ds->w'.heap[b]?=w.heap[b]?:=by
 intro ds;induction ds with
 | nil=>intro w _ _ _;exact⟨w,Steps.refl _ _,rfl,rfl,rfl,rfl,λ_ _=>rfl⟩
 | cons D ds u=>
  intro w j i m;have y:=run_takeDeferred (P:=P) (m D (j1 ..));have c:=step_collected (P:=P) (fr := { fr with defers:=marks (D :: ds)}) (cs:=cs) (w:=w) (d := { target := .collected D,args := #[]}) (r:=D) (ds:=marks ds) (by simp[j]) rfl rfl y;obtain⟨w',s,p,z,v,t,x⟩:=u (w.putObj D (.deferred none)) j (AK.1 i).2 (λq f=>by
   rw[iQE (by intro e;subst e;exact(AK.1 i).1 f)];exact m q (kQ _ f))
  refine⟨w',iQn (.one c) (by simpa using s),p,z,v,by rw[t];simp,λb n=>?_⟩;rw[x b (λh=>n (kQ _ h)),iQE (by intro e;subst e;exact n (j1 ..))]
def iA.other{M:Mem}{ι:Map}{g:dv}{w w':World}(e:iA M ι g w){ds:List Nat}(d : ∀D∈ds,w.heap[D]?=some (.deferred (some [])))(h : ∀b,b ∉ ds->w'.heap[b]?=w.heap[b]?):iA M ι g w':=by
 refine⟨λb o x n=>?_,λr k f=>?_,e.inj⟩;·have i:=e.mem b o x n;have c:b ∉ ds:=(by intro c;have:=d b c;simp[World.cell?,this]at i);rw[iQk (w:=w) (h b c)];exact i
 obtain⟨l,j,c⟩:=e.live r k f;exact⟨l,j,c.bT (λ_ _ _ h=>h) (λ_ _ h=>h) (h l.b λm=>It e (d _ m) r k l f j rfl) c.frozen⟩
def KE{ok:Array Oper->Bool}(Z:E.Ok ok){n:Nat}(hn:OF E ok n){dep:Nat}{f:FuncId}{args:List AV}{H X:aa}{x:AV}(h:wy E (cR E n) dep f args H=some (x,X)):nH E.P (.fn f) args H x X:=by
 unfold wy at h;obtain⟨I,h⟩:=fP.1 h;obtain⟨fn,m,y,u⟩:=Z.fns f I;rw[m]at h;simp only at h;split at h
 ·rename_i c T;obtain⟨hlen,h⟩:=fP.1 h;split at h
  ·rename_i st J;simp only[bU]at h;obtain⟨x',Q,h⟩:=h;injection h with h1 F
   subst h1;subst F;refine⟨⟨fn,m,y,by rw[T];rfl⟩,?_⟩;intro M ι w us Y s U cs;have hul:=U.1;have hO:z7 M ι ⟨args,H⟩ fn.ntmps { tmps:=us.toArray++Array.replicate (fn.ntmps - us.toArray.size) undef,defers:=[]} w:=by
    refine⟨Y,s,⟨?_⟩,by simp;omega⟩;intro t;rw[Sd,Du];rcases fQ t args.length with G | G
    ·rw[eu G,O4 (by simp;omega),cU];have V:us[t]?=some (us[t]'(by omega)):=eu _;simp only[OY,V,cU];exact U.2 t _ _ (eu G) V
    rw[yf G,Array.getElem?_append_right (by simp;omega)];have : ∀k:Nat,((Array.replicate (fn.ntmps - us.toArray.size) undef)[k]?).getD undef=undef:=(by intro k;rw[O1];split<;>rfl);rw[this];exact .v rfl
   let b:Frame := { (default:Frame)with fn:=f,kind := .normal}
   have q:Frame.enter E.P f us.toArray .normal=b.atR { tmps:=us.toArray++Array.replicate (fn.ntmps - us.toArray.size) undef,defers:=[]} [.code c]:=(by simp[Frame.enter,Frame.atR,m,T,b];rfl);obtain⟨B,w',todo,ds,⟨M',A,e,j⟩,z,p,d⟩:=hn none fn.ntmps dep [.code c] ⟨args,H⟩ st J (by intro i hi;simp at hi;subst hi;exact u c T) M ι _ w hO b cs rfl rfl;rw[<-q]at d;simp only[tg]at z;obtain⟨N,F,h3,h4,h5,h6,W⟩:=NN (P:=E.P) (fr := { b.atR B todo with mode := .returning}) (cs:=cs) ds w' rfl p.1 (λD s=>(p.2 D s).2);have L : { { b.atR B todo with mode := .returning} with defers:=marks ds} = { b.atR B todo with mode := .returning}:=by rw[<-show B.defers=marks ds from z];rfl
   rw[L]at F;have C:=e.sim.other (λD s=>(p.2 D s).2) W;have O:vg M ι H.get w M' A st.hp.get N:=(by refine⟨h3.trans j.os,h4.trans j.tape,h5.trans j.output,by rw[h6];exact j.size,λb0 K R=>?_,j.mem,j.map,j.live,j.new⟩;rw[W b0 λs=>absurd (p.2 b0 s).1 (by omega)];exact j.chg b0 K R);obtain⟨v,hr,S⟩:=PE (w:=N) ⟨C,e.dom,e.tr,e.nt⟩ Q;exact⟨.returned v,N, { { b.atR B todo with mode := .returning} with defers:=[]},⟨v,rfl,M',A,S,C,O,e.dom⟩,iQn d F,rfl,rfl,rfl,rfl,fn,m,hr⟩
  cases h
 cases h
end
end
section
def FP{g:dv}(r:Ref) : ∀(n m:Nat)(x y:AV)(bs:List bC),view g n x=some y->aw r m y bs=(y,bs):=by
 intro n;induction n with
 | zero=>intro m x y bs h;simp[view]at h
 | succ n C=>
  intro m x y bs h;cases m with
  | zero=>rfl
  | succ m=>
   have d : ∀(cs s q:List AV),cs.mapM (view g n)=some s->s.foldl (λ(p:List AV × List bC) c=>(p.1++[(aw r m c p.2).1],(aw r m c p.2).2)) (q,bs)=(q++s,bs):=by
    intro cs;induction cs with
    | nil=>intro s q h;simp at h;subst h;simp
    | cons c cs u=>intro s q h;simp only[oo,th,uu,jb]at h;obtain⟨y,z,B,e,h⟩:=h;simp at h;subst h;rw[wU,C m c y bs z,u B (q++[y]) e];simp
   cases x with
   | agg cs=>simp only[view,bU]at h;obtain⟨s,e,rfl⟩:=h;have:=d cs s [] e;simp only[aw];rw[this];simp
   | tup cs=>simp only[view,bU]at h;obtain⟨s,e,rfl⟩:=h;have:=d cs s [] e;simp only[aw];rw[this];simp
   | v x=>simp[view]at h;subst h;rfl
   | bE=>simp[view]at h;subst h;rfl
   | iptr=>simp[view]at h;subst h;rfl
   | fsl=>simp[view]at h
   | ct r' off len cap=>
    simp only[view]at h;split at h
    ·split at h;·cases h;rfl
     cases h
    cases h
   | nsl=>simp[view]at h
   | dsl r' off len cap=>
    simp only[view]at h;split at h
    ·split at h;·simp only[bU]at h;obtain⟨_,_,rfl⟩:=h;rfl
     cases h
    cases h
   | ptr r' i j=>
    simp only[view]at h;split at h
    ·split at h;·cases h;rfl
     simp only[bU]at h;obtain⟨_,_,rfl⟩:=h;rfl
    cases h
   | fn f a b=>
    simp only[view]at h;split at h;·cases h;rfl
    cases h
   | ifc t x=>simp only[view,bU]at h;obtain⟨y,z,rfl⟩:=h;simp only[aw];rw[C m x y bs z]
   | yld=>simp[view]at h
   | mp=>simp[view]at h
   | ch=>simp[view]at h
   | Az=>simp[view]at h
   | lp=>simp[view]at h
def bn(g:dv):Nat->AV->List Ref
 | 0,_=>[]
 | n+1,x=>
  match x with
  | .agg cs | .tup cs=>cs.flatMap (bn g n)
  | .ct r 0 len _=>(match g r with | some b=>if b.jq then [] else [r] | none=>[])
  | .dsl r 0 len _=>(match g r with | some b=>if b.jq then [] else b.es.flatMap (bn g n)++[r] | none=>[])
  | .mp r=>[r]
  | .ifc _ x=>bn g n x
  | _=>[]
def cQ(g:dv):Nat->AV->List Ref
 | 0,_=>[]
 | n+1,x=>
  match x with
  | .agg cs | .tup cs=>cs.flatMap (cQ g n)
  | .ct r 0 len _=>(match g r with | some b=>if b.jq then [r] else [] | none=>[r])
  | .dsl r 0 len _=>(match g r with | some b=>if b.jq then r :: b.es.flatMap (aj g n) else b.es.flatMap (cQ g n) | none=>[r])
  | .mp _=>[]
  | .ifc _ x=>cQ g n x
  | x=>aj g (n+1) x
def Gz{g:dv} : ∀(n:Nat)(x:AV)(r:Ref),r∈bn g n x->r∈aj g n x:=by
 intro n;induction n with
 | zero=>intro x r h;simp[bn]at h
 | succ n f=>
  intro x r h;unfold bn at h;split at h;·simp only[jO]at h;obtain⟨c,e,d⟩:=h;simp only[aj,jO];exact⟨c,e,f c r d⟩
  ·simp only[jO]at h;obtain⟨c,e,d⟩:=h;simp only[aj,jO];exact⟨c,e,f c r d⟩
  ·split at h
   ·split at h;·cases h
    simpa [aj] using h
   cases h
  ·split at h
   ·rename_i b i;split at h;·cases h
    simp only[mS,jO,lX]at h;simp only[aj,i,fR,jO];rcases h with ⟨c,e,d⟩ | rfl
    ·exact .inr ⟨c,e,f c r d⟩
    exact .inl rfl
   cases h
  ·simpa [aj] using h
  ·simp only[aj];exact f _ r h
  cases h
def IL{g:dv} : ∀(n:Nat)(x:AV),(aj g n x).Nodup->(bn g n x).Nodup /\∀r∈bn g n x,r ∉ cQ g n x:=by
 intro n;induction n with
 | zero=>intro x h;simp[bn]
 | succ n K=>
  intro x h;have i : ∀(n:Nat)(x:AV)(r:Ref),r∈cQ g n x->r∈aj g n x:=by
   intro n;induction n with
   | zero=>intro x r h;simp[cQ]at h
   | succ n y=>
    intro x r h;unfold cQ at h;split at h;·simp only[jO]at h;obtain⟨c,z,f⟩:=h;simp only[aj,jO];exact⟨c,z,y c r f⟩
    ·simp only[jO]at h;obtain⟨c,z,f⟩:=h;simp only[aj,jO];exact⟨c,z,y c r f⟩
    ·split at h
     ·split at h;·simpa [aj] using h
      cases h
     simpa [aj] using h
    ·split at h
     ·rename_i b u;split at h;·simpa [aj,u] using h
      simp only[jO]at h;obtain⟨c,z,f⟩:=h;simp only[aj,u,fR,jO];exact .inr ⟨c,z,y c r f⟩
     rename_i u;simpa [aj,u] using h
    ·cases h
    ·simp only[aj];exact y _ r h
    exact h
  have m : ∀cs:List AV,(cs.flatMap (aj g n)).Nodup->(cs.flatMap (bn g n)).Nodup /\∀r∈cs.flatMap (bn g n),r ∉ cs.flatMap (cQ g n):=by
   intro cs;induction cs with
   | nil=>intro _;simp
   | cons c cs G=>
    intro I;rw[nL,KZ]at I;obtain⟨H,B,F⟩:=I;obtain⟨O,L⟩:=K c H;obtain⟨Q,N⟩:=G B;have s : ∀r,r∈cs.flatMap (bn g n)->r∈cs.flatMap (aj g n):=by
     intro r f;simp only[jO]at f ⊢;obtain⟨d,hd,f⟩:=f;exact⟨d,hd,Gz n d r f⟩
    have p : ∀r,r∈cs.flatMap (cQ g n)->r∈cs.flatMap (aj g n):=(by intro r f;simp only[jO]at f ⊢;obtain⟨d,hd,f⟩:=f;exact⟨d,hd,i n d r f⟩);refine⟨?_,?_⟩;·rw[nL,KZ];exact⟨O,Q,λa D b u e=>F a (Gz n c a D) b (s b u) e⟩
    intro r f v;rw[nL,mS]at f v;rcases f with f | f<;>rcases v with v | v
    ·exact L r f v
    ·exact F r (Gz n c r f) r (p r v) rfl
    ·exact F r (i n c r v) r (s r f) rfl
    exact N r f v
  cases x with
  | agg cs=>simpa [bn,cQ] using m cs (by simpa [aj] using h)
  | tup cs=>simpa [bn,cQ] using m cs (by simpa [aj] using h)
  | ct r off len cap=>
   cases off with
   | zero=>
    simp only[bn,cQ];cases J:g r with
    | none=>simp
    | some b=>cases u:b.jq<;>simp[u]
   | succ off=>simp[bn]
  | dsl r off len cap=>
   cases off with
   | zero=>
    simp only[bn,cQ];cases J:g r with
    | none=>simp
    | some b=>
     cases u:b.jq with| true=>simp[u]| false=>
      simp only[aj,J,AK]at h;obtain⟨f,C⟩:=h;obtain⟨H,B⟩:=m b.es C;have s : ∀q,q∈b.es.flatMap (bn g n)->q∈b.es.flatMap (aj g n):=by
       intro q j;simp only[jO]at j ⊢;obtain⟨d,hd,j⟩:=j;exact⟨d,hd,Gz n d q j⟩
      have p : ∀q,q∈b.es.flatMap (cQ g n)->q∈b.es.flatMap (aj g n):=(by intro q j;simp only[jO]at j ⊢;obtain⟨d,hd,j⟩:=j;exact⟨d,hd,i n d q j⟩);simp only[u,gB,iQe];refine⟨?_,?_⟩;·rw[KZ];exact⟨H,by simp,λa D c z e=>by simp at z;subst z;subst e;exact f (s _ D)⟩
      intro q j v;rw[mS]at j;rcases j with j | j
      ·exact B q j v
      simp at j;subst j;exact f (p _ v)
   | succ off=>simp[bn]
  | mp r=>simp[bn,cQ]
  | ifc t x=>simpa [bn,cQ] using K x (by simpa [aj] using h)
  | _=>simp[bn]
def Out(g:dv)(q:Ref)(b:bC):Prop:=
 (∃k len,g q=some k/\k.jq=false/\k.arr=true/\b=⟨k.esz,k.es.take len,true,false⟩)\/(∃k c,g q=some k/\oz g q=some c/\(∀e∈c,flat depth e=true)/\b=qv c) \/
 ∃k zs,g q=some k/\k.jq=false/\k.arr=false/\0<k.esz/\zs.length=k.es.length/\b=⟨k.esz,zs,false,false⟩
def QH(M:Mem)(A ι:Map)(g:dv)(w:World)(q:Ref)(b:bC):Prop :=∀k l,g q=some k->ι q=some l->k.arr=false->0<k.esz ->
 (∀(i j:Nat) z x,b.es[i]?=some z->z.cells[j]?=some x ->∃u,w.cell? ⟨l.b,i * k.esz+j,none⟩=some u/\VR M A x u) /\∀z∈b.es,z.cells.length=k.esz
def VR.adt{M:Mem}{ι:Map}{x:AV}{u:Value}(h:VR M ι x u)(c : ∀cs,x ≠ .agg cs):x.cells=[x]/\u.cells = #[u]:=by
 cases h with
 | agg=>exact absurd rfl (c _)
 | v b=>refine⟨rfl,?_⟩;cases u<;>first | rfl | simp[scalar]at b
 | Az b=>exact⟨rfl,by cases u<;>first | rfl | (cases b)⟩
 | _=>exact⟨rfl,rfl⟩
def Kt{g:dv}{q:Ref}{b:List AV}(h:oz g q=some b) : ∃k,g q=some k/\k.esz=0/\k.es = .v (.bool true) :: b:=by
 unfold oz at h;split at h;·rename_i e f c;cases h;exact⟨_,c,rfl,rfl⟩
 cases h
def TA{M:Mem}{ι:Map}{g:dv}{w:World}{R:List Ref}(hS:iA M ι g w)(r:Ref) : ∀(n:Nat)(x y:AV)(u:Value)(bs:List bC),ca g n x=some y->VR M ι x u ->
 (∀q∈cQ g n x,q∈R) ->
 ∃new:List bC,(aw r n y bs).2=bs++new/\new.length=(bn g n x).length /\
  (∀(i:Nat) q b,(bn g n x)[i]?=some q->new[i]?=some b->Out g q b) /\
  ∀H:List Loc,(∀(i:Nat) q l,(bn g n x)[i]?=some q->ι q=some l->H[bs.length+i]?=some l)->VR (lW M ι g w R) (jB r H) (aw r n y bs).1 u /\∀(i:Nat) q b,(bn g n x)[i]?=some q->new[i]?=some b->QH (lW M ι g w R) (jB r H) ι g w q b:=by
 intro n;induction n with
 | zero=>intro x y u bs h;simp[ca]at h
 | succ n ih=>
  intro x y u bs h hv X;have plain:view g (n+1) x=some y->bn g (n+1) x=[]->(∀q∈aj g (n+1) x,q∈R) ->∃new:List bC,(aw r (n+1) y bs).2=bs++new/\new.length=(bn g (n+1) x).length /\
   (∀(i:Nat) q b,(bn g (n+1) x)[i]?=some q->new[i]?=some b->Out g q b) /\
   ∀H:List Loc,(∀(i:Nat) q l,(bn g (n+1) x)[i]?=some q->ι q=some l->H[bs.length+i]?=some l)->VR (lW M ι g w R) (jB r H) (aw r (n+1) y bs).1 u /\∀(i:Nat) q b,(bn g (n+1) x)[i]?=some q->new[i]?=some b->QH (lW M ι g w R) (jB r H) ι g w q b:=by
   intro F J L;rw[FP r (n+1) (n+1) x y bs F];exact⟨[],by simp,by rw[J];rfl,by rw[J];intro i q b G;simp at G,λH _=>⟨(Dw hS (n+1) x y u F L hv).up _,by rw[J];intro i q b G;simp at G⟩⟩
  have W : ∀(cs ys:List AV)(us:List Value)(K:List AV)(bs:List bC),cs.mapM (ca g n)=some ys->mM M ι cs us->(∀q∈cs.flatMap (cQ g n),q∈R) ->
   ∃(new:List bC) (zs:List AV),ys.foldl (λ(p:List AV × List bC) c=>(p.1++[(aw r n c p.2).1],(aw r n c p.2).2)) (K,bs)=(K++zs,bs++new)/\new.length=(cs.flatMap (bn g n)).length /\
    (∀(i:Nat) q b,(cs.flatMap (bn g n))[i]?=some q->new[i]?=some b->Out g q b) /\
    ∀H:List Loc,(∀(i:Nat) q l,(cs.flatMap (bn g n))[i]?=some q->ι q=some l->H[bs.length+i]?=some l)->mM (lW M ι g w R) (jB r H) zs us /\∀(i:Nat) q b,(cs.flatMap (bn g n))[i]?=some q->new[i]?=some b->QH (lW M ι g w R) (jB r H) ι g w q b:=by
   intro cs;induction cs with
   | nil=>intro ys us K bs hy Q _;simp at hy;subst hy;have:us=[]:=Ak (by rw[<-Q.1];rfl);subst this;exact⟨[],[],by simp,rfl,by intro i q b G;simp at G,λ_ _=>⟨mM.nil,by intro i q b G;simp at G⟩⟩
   | cons c cs ihc=>
    intro ys us K bs hy Q hRc;simp only[oo,th,uu,jb]at hy;obtain⟨y,hy1,ys',N,hy2⟩:=hy;simp at hy2;subst hy2;cases us with
    | nil=>have:=Q.1;simp at this
    | cons u us=>
     have hvc:VR M ι c u:=Q.2 0 c u rfl rfl;have hvcs:mM M ι cs us:=⟨by have:=Q.1;simpa using this,λi x v hx hv=>Q.2 (i+1) x v (by simpa using hx) (by simpa using hv)⟩;simp only[nL,mS]at hRc;obtain⟨new1,F,J,L,h4⟩:=ih c y u bs hy1 hvc (λq G=>hRc q (.inl G));obtain⟨new2,zs,h5,h6,h7,h8⟩:=ihc ys' us (K++[(aw r n y bs).1]) (bs++new1) N hvcs (λq G=>hRc q (.inr G));refine⟨new1++new2,(aw r n y bs).1 :: zs,?_,?_,?_,?_⟩;·rw[wU];simp only;rw[F,h5];simp
     ·simp[J,h6]
     ·intro i q b G Z;rw[nL]at G;rcases fQ i (bn g n c).length with hi | hi
      ·rw[kR hi]at G;rw[kR (by omega)]at Z;exact L i q b G Z
      rw[kj hi]at G;rw[kj (by omega),J]at Z;exact h7 _ q b G Z
     intro H B;have p1:=h4 H (by
      intro i q l G hl;refine B i q l ?_ hl;rw[nL,kR (fg.1 G).1];exact G)
     have p2:=h8 H (by
      intro i q l G hl;have:=B ((bn g n c).length+i) q l (by
       rw[nL,kj (by omega),K7];exact G) hl
      rw[iX,J,GX];exact this)
     refine⟨mM.cons p1.1 p2.1,λi q b G Z=>?_⟩;rw[nL]at G;rcases fQ i (bn g n c).length with hi | hi
     ·rw[kR hi]at G;rw[kR (by omega)]at Z;exact p1.2 i q b G Z
     rw[kj hi]at G;rw[kj (by omega),J]at Z;exact p2.2 _ q b G Z
  cases x with
  | agg cs=>simp only[ca,bU]at h;obtain⟨ys,N,rfl⟩:=h;obtain⟨vs,rfl,Q⟩:=hv.R0;obtain⟨new,zs,F,J,L,h4⟩:=W cs ys vs.toList [] bs N Q (by simpa [cQ] using X);simp only[aw];rw[F];refine⟨new,rfl,by simpa [bn] using J,by simpa [bn] using L,λH B=>?_⟩;have:=h4 H (by simpa [bn] using B);exact⟨by simpa using VR.rh.2 this.1,by simpa [bn] using this.2⟩
  | tup cs=>
   simp only[ca,bU]at h;obtain⟨ys,N,rfl⟩:=h;cases hv with | tup h0 hl hh=>
   rename_i vs;obtain⟨new,zs,F,J,L,h4⟩:=W cs ys vs.toList [] bs N ⟨by simpa using hl,λi x u hx I=>hh i x u hx (by simpa using I)⟩ (by simpa [cQ] using X);simp only[aw];rw[F];refine⟨new,rfl,by simpa [bn] using J,by simpa [bn] using L,λH B=>?_⟩;obtain⟨this,hdp⟩:=h4 H (by simpa [bn] using B);simp only[sf];refine⟨.tup ?_ (by simpa using this.1) λi c u hc I=>this.2 i c u hc (by simpa using I),by simpa [bn] using hdp⟩;intro e;rw[e]at this;have h5:=this.1;simp at h5;have h6:vs.size=0:=by omega
   rw[h6]at hl;exact h0 (Ak hl)
  | ct q off len cap=>
   cases off with| succ off=>exact plain (by simpa [ca] using h) (by simp[bn]) (by simpa [cQ] using X)| zero=>
    simp only[ca]at h;split at h
    ·rename_i k O;obtain⟨⟨C,hlen⟩,h⟩:=fP.1 h;injection h with h
     cases D:k.jq with
     | true=>
      rw[D]at h;simp only[if_true]at h;refine plain ?_ (by simp[bn,O,D]) (by
       intro Y f;refine X Y ?_;simp only[aj,lX]at f;simp[cQ,O,D,f])
      simp only[view,O,C];rw[if_pos ⟨trivial,by omega⟩];simp[<-h]
     | false=>
      rw[D]at h;simp only[gB,iQe]at h;subst h;have m:bn g (n+1) (.ct q 0 len cap)=[q]:=by simp[bn,O,D]
      cases hv with | ct hr Z hs ha hc hn hkk hzl=>
      rename_i l a c;have hl2:(k.es.take len).length=len:=by rw[oM];omega
      have hkz0:k.esz≠0:=(by obtain⟨l0,hl0,S⟩:=hS.live q k O;have:=S.pos C;omega);refine⟨[⟨k.esz,k.es.take len,true,false⟩],by simp[aw,hkz0],by rw[m];rfl,?_,?_⟩
      ·intro i Y b f s;rw[m]at f;cases i with
       | succ i=>simp at f
       | zero=>simp at f s;subst f;subst s;exact .inl ⟨k,len,O,D,C,rfl⟩
      intro H B;have:=B 0 q l (by rw[m];rfl) hr;simp only[aw,hl2,if_neg hkz0];refine⟨.ct (l:=l) ?_ Z hs ha hc hn hkk hzl,λi Y b f s=>?_⟩;·unfold jB;simpa using this
      rw[m]at f;cases i with
      | succ i=>simp at f
      | zero=>simp at f;subst f;intro k' l' F _ L;rw[O]at F;cases F;rw[C]at L;cases L
    cases h
  | nsl=>simp[ca,view]at h
  | dsl q off len cap=>
   cases off with| succ off=>exact plain (by simpa [ca] using h) (by simp[bn]) (by simpa [cQ] using X)| zero=>
    simp only[ca]at h;split at h
    ·rename_i k O;obtain⟨⟨C,hlen⟩,h⟩:=fP.1 h;cases D:k.jq with
     | true=>
      rw[D]at h;simp only[if_true]at h;refine plain ?_ (by simp[bn,O,D]) (by
       intro Y f;refine X Y ?_;simpa [cQ,aj,O,D] using f)
      obtain⟨es',hes,rfl⟩:=bU.1 h;have hel:=iG hes;simp only[view,O];rw[if_pos ⟨C,by omega⟩,hes];simp only[Option.map_some,Ev];rw[dM (by omega)]
     | false=>
      rw[D]at h;simp only[gB,iQe]at h;obtain⟨ys,N,rfl⟩:=bU.1 h;have m:bn g (n+1) (.dsl q 0 len cap)=k.es.flatMap (bn g n)++[q]:=by simp[bn,O,D]
      have hseen:cQ g (n+1) (.dsl q 0 len cap)=k.es.flatMap (cQ g n):=(by simp[cQ,O,D]);cases hv with | dsl hr Z hs ha hc hn hkk hzl=>
      rename_i l a c;have S:=hS.at hr hzl O;have hkz:0<k.esz:=by rw[<-S.esz];exact hzl
      obtain⟨arr,T,fz,hh,hsz,_,V⟩:=S.heap;have hcl : ∀o,w.cell? ⟨l.b,o,none⟩=arr[o]?:=λo=>j7 hh;let val:Nat->AV->Value:=λi e=>match e with
       | .agg cs => .agg ((List.range cs.length).map λj=>(arr[i * k.esz+j]?).getD undef).toArray
       | _=>(arr[i * k.esz]?).getD undef
      have hval : ∀(i:Nat) e,k.es[i]?=some e->VR M ι e (val i e) /\∀(j:Nat) u,(val i e).cells[j]?=some u->arr[i * k.esz+j]?=some u:=by
       intro i e U;have hlen':=S.cells e (ja U);by_cases hag : ∃cs,e = .agg cs
       ·obtain⟨cs,rfl⟩:=hag;refine⟨VR.rh.2 ⟨by simp[val],λj x u hx I=>?_⟩,λj u I=>?_⟩;·obtain⟨u',F,_,L⟩:=V i j _ x U (by simpa [AV.cells] using hx);rw[bC.map,if_neg (by simp[C])]at L;have hj:=(fg.1 hx).1;have:u=u':=(by simp only[val,List.toArray,nM]at I;rw[Fx hj]at I;simp[F]at I;exact I.symm);rw[this];exact L
        have hj:j<cs.length:=(by have:=(jx.1 I).1;simpa [val,Value.cells] using this);obtain⟨u',F,_,_⟩:=V i j _ cs[j] U (by simp[AV.cells,hj]);have:(val i (.agg cs)).cells[j]?=some u':=by simp[val,Value.cells,hj,F]
        rw[this]at I;cases I;exact F
       have hne : ∀cs,e ≠ .agg cs:=λcs hc=>hag ⟨cs,hc⟩;have hc1:e.cells=[e]:=by cases e<;>first | rfl | exact absurd rfl (hne _)
       obtain⟨u',F,_,L⟩:=V i 0 e e U (by rw[hc1];rfl);rw[bC.map,if_neg (by simp[C])]at L;have hv0:val i e=u':=(by simp only[AD]at F;cases e<;>first | exact absurd rfl (hne _) | simp[val,F]);rw[hv0];refine⟨L,λj u I=>?_⟩;rw[(L.adt hne).2]at I;cases j with
       | zero=>simp at I;subst I;exact F
       | succ j=>simp at I
      let us:List Value:=(List.range k.es.length).map λi=>val i (k.es[i]?.getD AV.undef)
      have hus:mM M ι k.es us:=(by refine⟨by simp[us],λi e u U I=>?_⟩;have hi:=(fg.1 U).1;simp only[us,nM]at I;rw[Fx hi]at I;simp[U]at I;rw[<-I];exact(hval i e U).1);obtain⟨new,zs,F,J,L,h4⟩:=W k.es ys us [] bs N hus (by rw[hseen]at X;exact X);have hzl':zs.length=k.es.length/\ys.length=k.es.length:=by
       refine⟨?_,iG N⟩;have e1:=iQf (λp:List AV × List bC=>p.1.length) F;have : ∀(cs K:List AV)(bs:List bC),(cs.foldl (λ(p:List AV × List bC) c=>(p.1++[(aw r n c p.2).1],(aw r n c p.2).2)) (K,bs)).1.length=K.length+cs.length:=by
        intro cs;induction cs with
        | nil=>intro K bs;simp
        | cons c cs ihc=>intro K bs;rw[wU,ihc];simp;omega
       simp only[this]at e1;have e2:=iG N;simp at e1;omega
      refine⟨new++[⟨k.esz,zs,false,false⟩],?_,?_,?_,?_⟩;·simp only[aw];rw[F];simp
      ·rw[m];simp[J]
      ·intro i Y b f s;rw[m]at f;rcases fQ i new.length with hi | hi
       ·rw[kR (by omega)]at f;rw[kR hi]at s;exact L i Y b f s
       rw[kj (by omega)]at f;rw[kj hi]at s;rw[<-J]at f;cases hd:i - new.length with
       | succ d=>rw[hd]at f;simp at f
       | zero=>rw[hd]at f s;simp at f s;subst f;subst s;exact .inr (.inr ⟨k,zs,O,D,C,hkz,hzl'.1,rfl⟩)
      intro H B;obtain⟨p1,p2⟩:=h4 H (by
       intro i Y l' f hl';refine B i Y l' ?_ hl';rw[m,kR (fg.1 f).1];exact f)
      have hq0:=B new.length q l (by rw[m,kj (by omega),J];simp) hr;simp only[aw];rw[F];simp only[sf];refine⟨?_,?_⟩;·rw[hzl'.2,<-hlen];refine .dsl (l:=l) ?_ Z hs ha hc hn hkk hzl;unfold jB;simpa using hq0
      intro i Y b f s;rw[m]at f;rcases fQ i new.length with hi | hi
      ·rw[kR (by omega)]at f;rw[kR hi]at s;exact p2 i Y b f s
      rw[kj (by omega)]at f;rw[kj hi]at s;rw[<-J]at f;cases hd:i - new.length with
      | succ d=>rw[hd]at f;simp at f
      | zero=>
       rw[hd]at f s;simp at f s;subst f;subst s;intro k' l' e1 e2 _ _;rw[O]at e1;cases e1;rw[hr]at e2;cases e2;have zc : ∀(i:Nat) z,zs[i]?=some z ->∃e,k.es[i]?=some e/\mM (lW M ι g w R) (jB r H) z.cells (val i e).cells.toList:=(by intro i z hz;have hi:=(fg.1 hz).1;have U:k.es[i]?=some (k.es[i]'(by omega)):=eu _;refine⟨_,U,(p1.2 i z _ hz ?_).cells⟩;simp only[us,nM];rw[Fx (by omega)];simp[U]);refine⟨λi j z x hz hx=>?_,λz hz=>?_⟩
       ·obtain⟨e,U,hzv⟩:=zc i z hz;have hj:=(fg.1 hx).1;have hju:j<(val i e).cells.toList.length:=by rw[<-hzv.1];exact hj
        have I:(val i e).cells.toList[j]?=some ((val i e).cells.toList[j]):=eu hju;refine⟨_,?_,hzv.2 j x _ hx I⟩;rw[hcl];exact(hval i e U).2 j _ (by simpa using I)
       obtain⟨i,hi,rfl⟩:=qC hz;obtain⟨e,U,hzv⟩:=zc i _ (eu hi);have h5:=(hval i e U).1.cells;rw[hzv.1,<-h5.1];exact S.cells e (ja U)
    cases h
  | v x=>exact plain (by simpa [ca] using h) (by simp[bn]) (by simpa [cQ] using X)
  | bE=>exact plain (by simpa [ca] using h) (by simp[bn]) (by simpa [cQ] using X)
  | iptr=>exact plain (by simpa [ca] using h) (by simp[bn]) (by simpa [cQ] using X)
  | fsl=>exact plain (by simpa [ca] using h) (by simp[bn]) (by simpa [cQ] using X)
  | ptr=>exact plain (by simpa [ca] using h) (by simp[bn]) (by simpa [cQ] using X)
  | fn=>exact plain (by simpa [ca] using h) (by simp[bn]) (by simpa [cQ] using X)
  | ifc t x=>
   simp only[ca,bU]at h;obtain⟨y,hy,rfl⟩:=h;cases hv with | ifc hv=>
   obtain⟨new,F,J,L,h4⟩:=ih x y _ bs hy hv (by simpa [cQ] using X);simp only[aw];exact⟨new,F,by simpa [bn] using J,by simpa [bn] using L,λH B=>⟨.ifc (h4 H (by simpa [bn] using B)).1,by simpa [bn] using (h4 H (by simpa [bn] using B)).2⟩⟩
  | yld=>simp[ca,view]at h
  | ch q=>simp[ca,view]at h
  | Az q=>simp[ca,view]at h
  | mp q=>
   simp only[ca]at h;split at h
   ·rename_i ents hm;obtain⟨hfl,h⟩:=fP.1 h;injection h with h
    subst h;have m:bn g (n+1) (.mp q)=[q]:=by simp[bn]
    cases hv with | mp hr hz=>
    rename_i l;obtain⟨k,O,_,_⟩:=Kt hm;refine⟨[qv ents],by simp[aw,qv],by rw[m];rfl,?_,?_⟩
    ·intro i Y b f s;rw[m]at f;cases i with
     | succ i=>simp at f
     | zero=>simp at f s;subst f;subst s;exact .inr (.inl ⟨k,ents,O,hm,by simpa [gP] using hfl,rfl⟩)
    intro H B;have:=B 0 q l (by rw[m];rfl) hr;simp only[aw,if_true];refine⟨.mp (l:=l) ?_ hz,λi Y b f s=>?_⟩;·unfold jB;simpa using this
    rw[m]at f;cases i with
    | succ i=>simp at f
    | zero=>simp at f;subst f;intro k' l' F J _ h4;obtain⟨l0,hl0,S⟩:=hS.live q k' F;rw[J]at hl0;cases hl0;rw[hr]at J;cases J;have:=S.esz;omega
   cases h
  | lp=>simp[ca,view]at h
def DS:aa.get []=λ_=>none:=by funext q;rfl
def Yd{M:Mem}{w:World}(c : ∀b o x,M b o=some x->w.cell? ⟨b,o,none⟩=some x):iA M eM (aa.get []) w:=
 ⟨c,(λr k h=>by rw[DS]at h;cases h),(λr r' k k' l d h=>by rw[DS]at h;cases h)⟩
def ZQ:uq eM []:=λq l h=>by cases h
def Nv{M:Mem}{w:World}(F : ∀b o x,M b o=some x->w.cell? ⟨b,o,none⟩=some x){n:aa}{v:Value}{w':World}{d:Mem}{c:Map}{x:AV}
 (C:VR d c x v) (s:iA d c n.get w') (e:vg M eM (aa.get []) w d c n.get w') {R:List Ref} {y:AV}
 (p : ∀r:Ref,∃f:List Loc,f.length=(aw r depth y []).2.length/\VR (lW d c n.get w' R) (jB r f) (aw r depth y []).1 v /\
  (∀(k:Nat) l b,f[k]?=some l->(aw r depth y []).2[k]?=some b->qp (lW d c n.get w' R) (jB r f) w' l b/\w.heap.size<=l.b) /\
  ∀(i j:Nat) l l',f[i]?=some l->f[j]?=some l'->l.b=l'.b->i=j):z8 M w y v (lW d c n.get w' R) w':=by
 obtain⟨B,q⟩:=Bf (R:=R) s;have m:=e.trans q;refine⟨e.os,e.tape,e.output,e.size,λb t=>e.chg b t (λr k l h=>by rw[DS]at h;cases h),m.mem,zX s.mem,?_,p⟩;intro b o z u;rcases m.new b o z u with h | h | ⟨D,G,H,h,_⟩
 ·exact .inl h
 ·exact .inr h
 rw[DS]at h;cases h
def Iw{M:Mem}{w:World}{d:aa}{w':World}{e:Mem}{c:Map}(j:vg M eM (aa.get []) w e c d.get w'){r:Ref}{k:bC}{l:Loc}(i:d.get r=some k)(f:c r=some l):w.heap.size<=l.b:=by
 rcases j.live r k l i f with h | ⟨p,m,n,h,_⟩
 ·exact h
 rw[DS]at h;cases h
def Out.live{g:dv}{q:Ref}{b:bC}(h:Out g q b) : ∃k,g q=some k:=by
 rcases h with ⟨k,_,c,_⟩ | ⟨k,_,c,_⟩ | ⟨k,_,c,_⟩<;>exact⟨k,c⟩
def Tz : ∀(n:Nat)(x:AV),flat n x=true->flat (n+1) x=true:=by
 intro n;induction n with
 | zero=>intro x h;simp[flat]at h
 | succ n e=>
  intro x h;cases x with
  | v x=>rfl
  | agg cs=>simp only[flat,gP]at h ⊢;exact λc d=>by have:=e c (h c d);simpa [flat] using this
  | tup cs=>simp only[flat,gP]at h ⊢;exact λc d=>by have:=e c (h c d);simpa [flat] using this
  | ifc t x=>have:=e x (by simpa [flat] using h);simpa [flat] using this
  | fn f a b=>simp only[flat,bI,gP]at h ⊢;exact⟨λc d=>by have:=e c (h.1 c d);simpa [flat] using this,λc d=>by have:=e c (h.2 c d);simpa [flat] using this⟩
  | _=>simp[flat]at h
def WM{cs:List AV}(h:flat depth (.tup cs)=true){c:AV}(d:c∈cs):flat depth c=true:=by
 have b:depth=(depth - 1)+1:=rfl;rw[b]at h ⊢;simp only[flat,gP]at h;exact Tz _ c (h c d)
def FI{E:Env}{ok:Array Oper->Bool}(hE:E.Ok ok){n:Nat}(hn:OF E ok n){f:FuncId}{args:List AV}{y:AV}(h:dO E (cR E n) f args=some y):kE E.P f args y:=by
 unfold dO at h;split at h;·rename_i s hs;cases h;exact hE.specs f args y hs
 split at h
 ·rename_i x H' hc;obtain⟨hfn,U⟩:=KE hE hn hc;refine⟨hfn,λM w us hm hvs=>?_⟩;refine(U M eM w us (Yd hm) ZQ hvs).mono λe w' ⟨v,p,M1,ι1,hv,hS,hF,hD⟩=>⟨v,?_⟩;split at h
  ·obtain⟨hnd,h⟩:=fP.1 h;obtain⟨hnd1,J⟩:=IL depth x hnd;refine⟨_,p,Nv (R:=cQ H'.get depth x) hm hv hS hF λr=>?_⟩;obtain⟨new,h1,h2,h3,h4⟩:=TA (R:=cQ H'.get depth x) hS r depth x y v [] h hv (λq B=>B);rw[sf]at h1;let d:Ref->Loc:=λq=>(ι1 q).getD ⟨0,0,0⟩
   obtain⟨p1,p2⟩:=h4 ((bn H'.get depth x).map d) (by
    intro i q l B L;simp only[lE,vP,nM,B,Option.map_some,d,L,cU])
   refine⟨(bn H'.get depth x).map d,by rw[h1];simp[h2],p1,?_,?_⟩
   ·intro i l b L hb;rw[h1]at hb;have hl':=L;simp only[nM,bU]at L;obtain⟨q,B,F⟩:=L;rcases h3 i q b B hb with ⟨k,len,t,X,C,rfl⟩ | ⟨k,ents,t,H,hfl,rfl⟩ | ⟨k,zs,t,X,C,D,hzl,rfl⟩
    rotate_left
    ·obtain⟨Q,m,c⟩:=hS.live q k t;have:l=Q:=by rw[<-F];simp[d,m]
     subst this;have Z:l.esz=0:=by
      obtain⟨k1,hk1,hz1,_⟩:=Kt H;rw[t]at hk1;cases hk1;rw[c.esz];exact hz1
     obtain⟨a,f,entries,hg,N,hsz,hent,_⟩:=BM hS H m Z;refine⟨oW.TN (.inr (.inl ⟨ents,entries,rfl,rfl,rfl,N,hsz,λK ent e p he'=>?_⟩)) Z (λo z hx=>?_),Iw hF t m⟩;·obtain⟨ka,va,e1,e2,e3⟩:=hent K ent e p he';subst e1;refine⟨ka,va,rfl,e2,D8 depth va _ ?_ e3.1,e3.2⟩;have:=hfl _ (ja p);exact WM this (by simp)
     have:=(Bf (R:=cQ H'.get depth x) hS).1.mem _ _ _ hx;simp[World.cell?,N]at this
    ·obtain⟨Q,m,c⟩:=hS.live q k t;have:l=Q:=by rw[<-F];simp[d,m]
     subst this;refine⟨?_,Iw hF t m⟩;replace c:=c.cellsOk D;obtain⟨arr,T,fz,N,g1,g2,g3⟩:=c.heap;obtain⟨d1,d2⟩:=p2 i q _ B hb k l t m C D;refine gm.TN (k:=⟨k.esz,zs,false,false⟩) ⟨c.esz,⟨arr,T,fz,N,g1,g2,?_⟩,by have:=c.len;simp;omega,d2,?_⟩ D
     ·intro K j e x' p hx;obtain⟨u,hu,G⟩:=d1 K j e x' p hx;rw[j7 N]at hu;have hi':K<k.es.length:=by
       have:=(fg.1 p).1;simp only at this;omega
      have hc0:=c.cells _ (fj hi');have hj:j<k.esz:=(by rw[<-d2 e (ja p)];exact(fg.1 hx).1);obtain⟨u',hu',ho',_⟩:=g3 K j _ _ (eu hi') (eu (by omega:j<(k.es[K]).cells.length));rw[hu]at hu';cases hu';exact⟨u,hu,ho',by rw[bC.map,if_neg (by simp)];exact G⟩
     intro o z Z;exfalso;rcases zY Z with h5 | ⟨r',S,k',O,W,hl1',V,ho⟩
     ·have:=(c.frozen o z h5).1;rw[X]at this;cases this
     have e:=hS.inj r' q k' k O l W t hl1' m V;subst e;exact J r' (ja B) S
    obtain⟨Q,m,c⟩:=hS.live q k t;have:l=Q:=by rw[<-F];simp[d,m]
    subst this;refine⟨?_,Iw hF t m⟩;have D:=c.pos C;replace c:=c.cellsOk D;obtain⟨arr,T,fz,N,g1,g2,g3⟩:=c.heap;refine gm.TN (k:=⟨k.esz,k.es.take len,true,false⟩) ⟨c.esz,⟨arr,T,fz,N,g1,g2,?_⟩,by have:=c.len;simp;omega,λe p=>c.cells e (Ai p),?_⟩ D
    ·intro K j e x' p hx;simp only at p;rw[AF]at p;split at p;·obtain⟨u,hu,ho,G⟩:=g3 K j e x' p hx;rw[bC.map,if_pos C]at G;exact⟨u,hu,ho,by rw[bC.map,if_pos rfl];exact G.mono xn _ (λ_ _ h=>h)⟩
     cases p
    intro o z Z;exfalso;rcases zY Z with h5 | ⟨r',S,k',O,W,hl',V,ho⟩
    ·have:=(c.frozen o z h5).1;rw[X]at this;cases this
    have e:=hS.inj r' q k' k O l W t hl' m V;subst e;exact J r' (ja B) S
   intro i j l O hi hj hb;simp only[nM,bU]at hi hj;obtain⟨q,B,F⟩:=hi;obtain⟨q',Y,hql'⟩:=hj;have hi2:i<new.length:=by rw[h2];exact(fg.1 B).1
   have hj2:j<new.length:=by rw[h2];exact(fg.1 Y).1
   obtain⟨k,t⟩:=(h3 i q _ B (eu hi2)).live;obtain⟨k',hk'⟩:=(h3 j q' _ Y (eu hj2)).live;obtain⟨Q,m,_⟩:=hS.live q k t;obtain⟨l0',I,_⟩:=hS.live q' k' hk';have e1:l=Q:=by rw[<-F];simp[d,m]
   have e2:O=l0':=by rw[<-hql'];simp[d,I]
   subst e1;subst e2;have e:=hS.inj q q' k k' l O t hk' m I hb;subst e;exact(List.getElem?_inj (fg.1 B).1 hnd1).1 (by rw[B,Y])
  refine⟨_,p,Nv (R:=aj H'.get depth x) hm hv hS hF λr=>?_⟩;rw[FP r depth depth x y [] h];exact⟨[],rfl,(Dw hS depth x y v h (λq B=>B) hv).up _,by intro k l b L;simp at L,by intro i j l O hi;simp at hi⟩
 cases h
def Po : ∀(ps:List Tmp)(b:List AV)(tm:List AV)(us:List Value)(tmps:Array Value),((ps.zip us).foldl (λtmps (p:Tmp × Value)=>tmps.setIfInBounds p.1 p.2) tmps).size=tmps.size:=by
 intro ps;induction ps with
 | nil=>intro b tm us tmps;rfl
 | cons p ps c=>
  intro b tm us tmps;cases us with
  | nil=>rfl
  | cons u us=>simp only[OS,wU];rw[c [] [] us];simp
def Sk{M:Mem}{ι:Map}{nt:Nat} : ∀(ps:List Tmp)(b:List AV)(us:List Value)(tm:List AV)(tmps:Array Value),b.length=ps.length->mM M ι b us->(∀p∈ps,p<nt)->tmps.size=nt->(∀t,VR M ι (dE tm t) (tmps.getD t undef)) ->
 ∀t,VR M ι (dE (vZ tm ps b) t) (((ps.zip us).foldl (λtmps (p:Tmp × Value)=>tmps.setIfInBounds p.1 p.2) tmps).getD t undef):=by
 intro ps;induction ps with
 | nil=>intro b us tm tmps f d hp j h t;cases b<;>exact h t
 | cons p ps s=>
  intro b us tm tmps f d hp j h t;cases b with
  | nil=>simp at f
  | cons x b=>
   cases us with| nil=>have:=d.1;simp at this| cons u us=>
    simp only[OS,wU,vZ];refine s b us _ _ (by simpa using f) ⟨by have:=d.1;simpa using this,λi y v n m=>d.2 (i+1) y v (by simpa using n) (by simpa using m)⟩ (λq z=>hp q (kQ _ z)) (by simpa using j) ?_ t;intro t';have e:=hp p (j1 ..);rw[tI,Du];by_cases c:t'=p;·subst c;rw[if_pos rfl,GN (by rw[j];exact e)];exact d.2 0 x u rfl rfl
    rw[if_neg c,Ch (tC c),<-Du];exact h t'
def JY(ps:Array Tmp)(us:Array Value)(tmps:Array Value):(ps.zip us).foldl (λtmps (t,a)=>tmps.setIfInBounds t a) tmps=(ps.toList.zip us.toList).foldl (λtmps (p:Tmp × Value)=>tmps.setIfInBounds p.1 p.2) tmps:=by
 rw[<-OT,Array.toList_zip]
def PD{E:Env}{ok:Array Oper->Bool}(T:E.Ok ok){n dep:Nat}(Z:OF E ok n){r:Ref}{args:List AV}{H F:aa}{y:AV}(h:BI E (cR E n) dep r args H=some (y,F)):nH E.P (.yld r) args H y F:=by
 unfold BI at h;split at h
 ·rename_i f nt ps assign body tm G;obtain⟨⟨N,D,z,u⟩,h⟩:=fP.1 h;split at h
  ·rename_i st B;intro M ι w us l J L x O;obtain⟨S,V,as',X,tm',d,e,g1,Q,g3,g4,K,R,g7,_,_⟩:=BN J L O G;cases e;have C:us.toArray.size=d.params.size:=by rw[Q];simp;rw[<-N];exact x.1.symm
   refine⟨_,_,_,_,run_yield g1 C,trivial,λc cs _=>?_⟩;let b:Frame := { (default:Frame)with fn:=d.fn,kind := .normal,roundOf:=some l.b}
   have j : ∀tmps,Frame.round l.b d.fn tmps d.assign d.body .normal=b.atR { tmps:=tmps,defers:=[]} [.code assign,.beginRound,.code body]:=(by intro tmps;simp[Frame.round,Frame.atR,b,g3,g4]);rw[j];have hO:z7 M ι ⟨vZ tm ps args,H⟩ nt { tmps:=(d.params.zip us.toArray).foldl (λtmps (t,a)=>tmps.setIfInBounds t a) d.tmps,defers:=[]} w:=by
    refine⟨J,L,⟨?_⟩,?_⟩;·intro t;show VR M ι _ (((d.params.zip us.toArray).foldl (λtmps (t,a)=>tmps.setIfInBounds t a) d.tmps).getD t undef);rw[JY,Q];exact Sk ps args us tm d.tmps N x (λp hp=>by have:=gP.1 D p hp;simpa using this) K R t
    show((d.params.zip us.toArray).foldl (λtmps (t,a)=>tmps.setIfInBounds t a) d.tmps).size=nt;rw[JY,Po _ [] []];exact K
   have q:=T.same;obtain⟨m,inf,w',h1,U,⟨M',A,Y,h4,W⟩,h6⟩:=Z (some r) nt dep _ _ st B (by
    intro i hi;simp only[fR,Dq,iQu]at hi;rcases hi with rfl | rfl | rfl
    ·rw[<-q];exact z
    ·rfl
    rw[<-q];exact u) M ι _ w hO b (c :: cs) l c cs O rfl rfl rfl
   rw[h1]at h;have s:Comes E.P (lone (b.atR { tmps:=(d.params.zip us.toArray).foldl (λtmps (t,a)=>tmps.setIfInBounds t a) d.tmps,defers:=[]} [.code assign,.beginRound,.code body]) (c :: cs) w) (lone (c.finish (.bool (m == 0))) cs w') (.returned (.bool (m == 0))):=h6;have I:y = .v (.bool (m == 0))/\F=st.hp:=by
    rcases m with _ | _ | m
    ·simp only[eS,tf]at h;exact⟨h.1.symm,h.2.symm⟩
    ·exact absurd rfl U
    simp only[eS,tf]at h;exact⟨h.1.symm,h.2.symm⟩
   obtain⟨rfl,rfl⟩:=I;exact⟨.returned (.bool (m == 0)),w',⟨_,rfl,M',A,.v rfl,Y,h4,W⟩,comesIn_wide.2 s⟩
  cases h
 cases h
def CW{E:Env}{ok:Array Oper->Bool}(b:E.Ok ok){n dep:Nat}(e:OF E ok n){t:vl}{args:List AV}{H c:aa}{y:AV}(h:fJ E (cR E n) dep t args H=some (y,c)):nH E.P t args H y c:=by
 unfold fJ at h;cases t with
 | fn f=>
  simp only at h;cases d:E.thrSpec f args H with
  | some z=>rw[d]at h;cases h;exact b.thrs f args H y c d
  | none=>rw[d]at h;obtain⟨_,h⟩:=fP.1 h;exact KE b e h
 | yld r=>exact PD b e h
def HV{E:Env}{ok:Array Oper->Bool}(hE:E.Ok ok) : ∀n,OF E ok n:=by
 intro n;induction n with
 | zero=>intro rd nt dep z st st' h;simp[cR]at h
 | succ n ih=>
  intro rd nt dep z st st' h hi M ι a w C b cs;have W : ∀(q:List Item)(h':cR E n rd nt dep q st=some st'),(∀i∈q,pj ok i=true)->Steps E.P (lone (b.atR a z) cs w) (lone (b.atR a q) cs w) ->
   Gj E.P rd M ι st a w nt st' b cs (lone (b.atR a z) cs w):=by
   intro q h' p N;exact Gj.of_steps (ds:=[]) (λ_ _=>N) C.sim vg.refl rfl uH (ih rd nt dep q st st' h' p M ι a w C b cs)
  have O : ∀(j:Nat)(u:Option Code),j≠1->(u.isNone=(j == 0))->(∀F:Loop,DB j { F with state:=if u.isNone then .ready else .done,pending:=u})->xL rd st j=some st'->rd≠none ->
   (∀l c J v w',b.roundOf=some l->b.kind = .normal->cs=c :: J->(Instr.endRound l u).run E.P w = .ok v w'->Steps E.P (lone (b.atR a z) cs w) (lone (c.finish v) J w'))->Gj E.P rd M ι st a w nt st' b cs (lone (b.atR a z) cs w):=by
   intro j u hj hjn G h hrd N;cases rd with
   | none=>exact absurd rfl hrd
   | some r=>
    unfold xL at h;simp only at h;split at h
    ·rename_i inf B;cases h;intro l c J hr s L I;obtain⟨_,_,_,_,_,F,_,g1,_,_,_,_,_,_,g8,_⟩:=BN C.sim C.dom hr B;obtain⟨k1,k2,k3⟩:=g8 j { F with state:=if u.isNone then .ready else .done,pending:=u} ⟨rfl,rfl,rfl,rfl⟩ (G F);refine⟨j,inf,_,?_,hj,⟨M,ι,k1,k2,k3⟩,?_⟩;·simp[yW,aa.ad,eU]
     rw[<-hjn];exact N l.b c J _ _ s L I (run_endRound u g1)
    cases h
  unfold cR at h;split at h
  ·cases rd with
   | none=>
    injection h with h
    subst h;intro s _;exact⟨a,w,[],[],⟨M,ι,C,vg.refl⟩,rfl,uH,.one (stepR_end s)⟩
   | some r=>exact O 0 none (by omega) rfl (λF=>⟨rfl,rfl⟩) h (by simp) λl c J v w' s L I hr=>by subst I;exact .one (stepR_round_end s L hr)
  ·rename_i k;have L : ∀i∈k,pj ok i=true:=λi h=>hi i (kQ _ h);cases rd with
   | none=>cases h
   | some r=>
    simp only at h;split at h;·rename_i inf B;intro l c J hr s hkd I;obtain⟨_,_,_,_,_,F,_,g1,_,_,_,_,_,g7,g8,_⟩:=BN C.sim C.dom hr B;obtain⟨k1,k2,k3⟩:=g8 1 { F with state := .busy} ⟨rfl,rfl,rfl,rfl⟩ rfl;have N:Steps E.P (lone (b.atR a (.beginRound :: k)) cs w) (lone (b.atR a k) cs (cM w l.b (.loop { F with state := .busy}))) := .one (stepR_beginRound s (run_beginRound g1 g7.1));exact Gj.of_steps (rd:=some r) (ds:=[]) (λ_ _=>N) k1 k2 rfl uH (ih (some r) nt dep k _ st' h L M ι a _ ⟨k1,k3,C.tr,C.nt⟩ b cs) l c J hr s hkd I
    cases h
  ·rename_i c k;have Q:codeOk ok c=true:=hi _ (j1 ..);have L : ∀i∈k,pj ok i=true:=λi h=>hi i (kQ _ h);have two : ∀ {x y:Item},pj ok x=true->pj ok y=true ->∀i∈x :: y :: k,pj ok i=true:=by
    intro x y hx hy i p;rcases fR.1 p with rfl | p
    ·exact hx
    rcases fR.1 p with rfl | p
    ·exact hy
    exact L i p
   have one : ∀ {x:Item},pj ok x=true ->∀i∈x :: k,pj ok i=true:=by
    intro x hx i p;rcases fR.1 p with rfl | p
    ·exact hx
    exact L i p
   split at h;·exact W k h L (.one stepR_skip)
   ·exact W k h L (.one stepR_label)
   ·cases rd with
    | none=>
     simp only[xL,if_true]at h;injection h with h
     subst h;intro s _;exact⟨a,w,_,[],⟨M,ι,C,vg.refl⟩,rfl,uH,.one (stepR_ret s)⟩
    | some r=>exact O 2 (some .ret) (by omega) rfl (λF=>⟨rfl,rfl⟩) h (by simp) λl c J v w' s L I hr=>by subst I;exact .one (stepR_round_ret s L hr)
   ·rename_i x y;simp only[codeOk,bI]at Q;exact W _ h (two Q.1 Q.2) (.one stepR_seq)
   ·rename_i cnd x y;simp only[codeOk,bI]at Q;split at h;·rename_i s;simp only[jb]at s;obtain⟨cv,h1,h2⟩:=s;exact W _ h (one Q.1) (.one (stepR_cond (BW (bk C.tr h1) h2)))
    ·rename_i s;simp only[jb]at s;obtain⟨cv,h1,h2⟩:=s;exact W _ h (one Q.2) (.one (stepR_cond (BW (bk C.tr h1) h2)))
    cases h
   ·exact W _ h (two (by simpa [codeOk,pj] using Q) rfl) (.one stepR_block)
   ·exact W _ h (two (by simpa [codeOk,pj] using Q) rfl) (.one (iQo (by simp[stepG,stepG.exec,Frame.atR])))
   ·exact W _ h (two (by simpa [codeOk,pj] using Q) (by simpa [codeOk,pj] using Q)) (.one stepR_loop)
   ·rename_i id;split at h;·rename_i k' S;exact W _ h (KA S L) (.one (stepR_exit S))
    rename_i S;cases rd with
    | none=>simp at h
    | some r=>exact O (id+3) (some (.exit id)) (by omega) (by simp) (λF=>⟨rfl,rfl⟩) (by simpa using h) (by simp) λl c J v w' s hkd I hr=>by subst I;exact .one (stepR_round_exit s hkd S hr)
   ·rename_i id ops Z;split at h
    ·rename_i T hst1;have hap:Z=true->uh E ops T=true:=by
      intro hd;cases s:uh E ops T with
      | true=>rfl
      | false=>rw[hd,s]at h;simp at h
     replace h:cR E n rd nt dep k T=some st':=by
      split at h;·cases h
      exact h
     have hpc : ∀f xs y,dO E (cR E n) f xs=some y->kE E.P f xs y:=λf xs y h=>FI hE ih h;have htc : ∀f xs H y H',fJ E (cR E n) dep f xs H=some (y,H')->nH E.P f xs H y H':=λf xs H y H' h=>CW hE ih h;have hreg : ∃a1 w1,lB M ι st a w nt T a1 w1/\(b.kind = .normal->Steps E.P (lone (b.atR a (.code (.region id ops Z) :: k)) cs w) (lone (b.atR a1 k) cs w1)):=by
      cases Z with| false=>exact LI hpc htc hE.overs b k cs hst1 C| true=>
       have hwp:(Code.region id ops true).wpIn (FW b.roundOf) 0 E.P (λe a' w'=>e = .normal/\lB M ι st a w nt T a' w') a w:=
        hE.draws ops (by simpa [codeOk] using Q) hpc htc nt dep id st T M ι a w b.roundOf _ hst1 (hap rfl) C λa' w' G=>⟨rfl,G⟩
       obtain⟨a1,w1,h1,h2⟩:=MW b hwp k cs;exact⟨a1,w1,h1,λ_=>h2⟩
     obtain⟨a1,w1,⟨⟨M1,ι1,hO1,hF1⟩,hd1⟩,N⟩:=hreg;exact Gj.of_steps (ds:=[]) (λ_=>N) hO1.sim hF1 hd1 uH (ih rd nt dep k T st' h L M1 ι1 a1 w1 hO1 b cs)
    cases h
   ·rename_i g ps assign body;simp only[codeOk,bI]at Q;split at h
    ·rename_i gi first captured hg
     split at h
     ·rename_i x H' hcall;obtain⟨hS1,hF1,hD1,hmk⟩:=Wp (d:=dep) (ps:=ps) (assign:=assign) (body:=body) (fn:=b.fn) C.sim C.dom C.tr C.nt rfl;obtain⟨hfn,hthr⟩:=CW hE ih hcall;obtain⟨a',b',hfv,hva,hvb⟩:=(bk C.tr hg).ZM;have hmv:=λ{xs us} (h:mM M ι xs us)=>h.mono (λ_ _ _ h=>h) hF1.map;have hyl:VR M (lQ ι ⟨dep,nt,st.hp.gen dep nt,0⟩ ⟨w.heap.size+1,0,0⟩) (.yld ⟨dep,nt,st.hp.gen dep nt,0⟩) (.func (.yield (w.heap.size+1)) #[] #[]) := .yld (l:=⟨w.heap.size+1,0,0⟩) (by simp[lQ]) rfl;have hall:=((hmv hva).append (mM.cons hyl mM.nil)).append (hmv hvb);have U:=hthr M _ _ _ hS1 hD1 hall;rw[show(a'.toList++[Value.func (.yield (w.heap.size+1)) #[] #[]]++b'.toList).toArray=a' ++ #[Value.func (.yield (w.heap.size+1)) #[] #[]]++b' by apply GP;simp]at U;intro s;let c1:Frame:=b.atR { a with defers:=[{ target := .collected w.heap.size,args := #[]}]++a.defers} (.inRangeFunc (w.heap.size+1) :: k)
      have henter:=stepR_rangeFunc (P:=E.P) (b:=b) (a:=a) (k:=k) (cs:=cs) (w:=w) (g:=g) (ps:=ps) (assign:=assign) (body:=body) (l:=w.heap.size+1) (mark:=[{ target := .collected w.heap.size,args := #[]}])
       (d := { target := .fn (.func gi) b',args:=a' ++ #[Value.func (.yield (w.heap.size+1)) #[] #[]]}) (f:=gi) (args:=a' ++ #[Value.func (.yield (w.heap.size+1)) #[] #[]]++b')
       (by rw[s];exact run_enterLoop_outer b.fn a.tmps ps assign body) (by have hev : ∀x,a.eval (.const x)=x:=λ_=>rfl;simp[resolve,rangeCall,hfv,Deferred.ofValue,hev];rfl) (by simp[invoke,FF hfn];rfl)
      obtain⟨e,w3,fr,⟨v,he,M3,V,hv3,hS3,hF3,hD3⟩,hcomes,hfr,hleave⟩:=U (c1 :: cs);subst he;have hs1:Steps E.P (lone (b.atR a (.code (.rangeFunc g ps assign body) :: k)) cs w) (lone (c1.finish v) cs w3):=iQn (.one henter) (iQn hcomes (.one (step_leave_returned hleave)));have hfin:c1.finish v=b.atR { a with defers:=[{ target := .collected w.heap.size,args := #[]}]++a.defers} (.endRangeFunc (w.heap.size+1) :: k):=finish_atR_inRangeFunc _ v;rw[hfin]at hs1;have hF13:=hF1.trans hF3;have hr3:V ⟨dep,nt,st.hp.gen dep nt,0⟩=some ⟨w.heap.size+1,0,0⟩:=hF3.map _ _ (by simp[lQ]);have hmk3:w3.heap[w.heap.size]?=some (.deferred (some [])):=(by rw[hF3.chg _ (jx.1 hmk).1 (It hS1 hmk)];exact hmk);have K : ∀ {m:Nat} {inf:AV},yW H' ⟨dep,nt,st.hp.gen dep nt,0⟩=some (m,inf)->m≠1 ->∃F:Loop,∃w4,DB m F /\
       Steps E.P (lone (b.atR a (.code (.rangeFunc g ps assign body) :: k)) cs w) (lone (b.atR { a with defers:=[{ target := .collected w.heap.size,args := #[]}]++a.defers} ((F.pending.map Item.code).toList++k)) cs w4) /\
       z7 M3 V ⟨st.tm,H'.put ⟨dep,nt,st.hp.gen dep nt,0⟩ none⟩ nt { a with defers:=[{ target := .collected w.heap.size,args := #[]}]++a.defers} w4/\vg M ι st.hp.get w M3 V (H'.put ⟨dep,nt,st.hp.gen dep nt,0⟩ none).get w4 /\
       sZ w w4 [w.heap.size]:=by
       intro m inf B hm;obtain⟨_,_,_,_,_,F,_,g1,_,_,_,_,_,g7,_,g9⟩:=BN hS3 hD3 hr3 B;obtain⟨k1,k2,k3⟩:=g9 { F with state := .exhausted};have hnb:F.state ≠ .busy:=by
        match m,hm with
        | 0,_=>rw[g7.1];simp
        | 1,hm=>exact absurd rfl hm
        | 2,_=>rw[g7.1];simp
        | m+3,_=>rw[g7.1];simp
       refine⟨F,_,g7,iQn hs1 (.one (stepR_endRangeFunc (run_endLoop g1 hnb))),⟨k1,k3,⟨λt=>(C.tr.mono hF13.mem hF13.map).at_ t⟩,C.nt⟩,hF13.trans k2,⟨by simp,λD hD=>?_⟩⟩;simp only[lX]at hD;subst hD;refine⟨bM _,?_⟩;show(cM w3 (w.heap.size+1) _).heap[w.heap.size]?=_;rw[fV (by omega)];exact hmk3
      split at h;·rename_i B;obtain⟨F,w4,G,N,R,Y,X⟩:=K B (by omega);rw[G.2]at N;exact Gj.of_steps (rd:=none) (ds:=[w.heap.size]) (λ_ _=>N) R.sim Y rfl X (ih none nt dep k _ st' h L M3 V _ w4 R b cs) s
      ·rename_i B;obtain⟨F,w4,G,N,R,Y,X⟩:=K B (by omega);rw[G.2]at N;cases h;intro _;exact⟨_,w4,_,[w.heap.size],⟨M3,V,R,Y⟩,rfl,X,iQn N (.one (stepR_ret s))⟩
      ·rename_i id B;obtain⟨F,w4,G,N,R,Y,X⟩:=K B (by omega);rw[G.2]at N;split at h;·rename_i k' S;exact Gj.of_steps (rd:=none) (ds:=[w.heap.size]) (λ_ _=>iQn N (.one (stepR_exit S))) R.sim Y rfl X (ih none nt dep k' _ st' h (KA S L) M3 V _ w4 R b cs) s
       cases h
      cases h
     cases h
    cases h
   cases h
  ·rename_i c k;have Q:codeOk ok c=true:=hi _ (j1 ..);have L : ∀i∈k,pj ok i=true:=λi h=>hi i (kQ _ h);refine W _ h ?_ (.one stepR_inLoop);intro i p;rcases fR.1 p with rfl | p
   ·exact Q
   rcases fR.1 p with rfl | p
   ·exact Q
   exact L i p
  ·rename_i id k;exact W k h (λi h=>hi i (kQ _ h)) (.one stepR_inBlock)
  ·rename_i id k;exact W k h (λi h=>hi i (kQ _ h)) (.one (iQo (by simp[stepG,stepG.exec,Frame.atR])))
  cases h
def RU{E:Env}{ok:Array Oper->Bool}(b:E.Ok ok){n:Nat}{f:FuncId}{args:List AV}{y:AV}(h:dO E (cR E n) f args=some y):kE E.P f args y:=FI b (HV b n) h
end
end Go.Ab
