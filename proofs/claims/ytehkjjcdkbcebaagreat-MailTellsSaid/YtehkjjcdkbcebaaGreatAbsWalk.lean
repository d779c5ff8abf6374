/-
  Maps of the abstract machine against the model's. No statement of a seat is proved here.
-/
import Derived.Conc.LoneCalls
import Derived.Test.YtehkjjcdkbcebaaGreatAbsOps
set_option linter.unusedVariables false
set_option linter.unusedSimpArgs false
set_option linter.unusedSectionVars false
set_option linter.unnecessarySimpa false
set_option linter.defProp false
namespace Go.Ab
section
def bJ{c d:Type}{P:Program}(s:Sem c)(f:c->Sem d):bh P (s >>= f)=(bh P s).bind λa=>bh P (f a):=by
 induction s with| pure a=>rfl| program k b=>exact b P| mark m k b=>exact b| _=>rfl
def vt{b:Type}{P:Program}(a:b):bh P (pure a:Sem b)=some a:=rfl
def dummy(es:List MapEntry):List MapEntry:=es.map λe=>⟨e.key,Go.undef,0⟩
def Fy{d:TypeDesc}{k:Value} : ∀(es:List MapEntry)(i:Nat),(Instr.findNow d k es i=none↔Instr.findNow d k (dummy es) i=none)/\(Instr.findNow d k es i=some none↔Instr.findNow d k (dummy es) i=some none) /\
 ∀j v,Instr.findNow d k (dummy es) i=some (some (j,v))->i<=j /\∃e,es[j - i]?=some e/\Instr.findNow d k es i=some (some (j,e.val)):=by
 intro es;induction es with
 | nil=>intro i;simp[dummy,Instr.findNow]
 | cons e es p=>
  intro i;obtain⟨c,q,n⟩:=p (i+1);simp only[dummy,sW,Instr.findNow];cases u:Instr.sameNow d k e.key with
  | none=>simp
  | some b=>
   cases b with| true=>refine⟨by simp,by simp,λj v h=>?_⟩;simp only[du,tM]at h;obtain⟨rfl,_⟩:=h;exact⟨aV _,e,by simp,rfl⟩| false=>refine⟨c,q,λj v h=>?_⟩;obtain⟨t,m,f,s⟩:=n j v h;refine⟨by omega,m,?_,s⟩;rw[show j - i=(j - (i+1))+1 by omega];simpa using f
def BI{P:Program}{f:TypeId}{k:Value} : ∀(es:List MapEntry)(i:Nat)(o:Option (Nat × Value)),bh P (Instr.findAsking f k (dummy es) i)=some o ->∀w:World,
 (o=none->(Instr.findAsking f k es i).run P w = .ok none w) /\∀j v,o=some (j,v)->i<=j /\∃e,es[j - i]?=some e/\(Instr.findAsking f k es i).run P w = .ok (some (j,e.val)) w:=by
 intro es;induction es with
 | nil=>intro i o h w;simp only[dummy,Di,Instr.findAsking,vt,du]at h;subst h;exact⟨λ_=>rfl,λj v e=>by cases e⟩
 | cons e es s=>
  intro i o h w;simp only[dummy,sW,Instr.findAsking]at h;rw[bJ]at h;obtain⟨b,m,h⟩:=fH.1 h;have d:=mR m w;cases b with
  | true=>simp only[if_true,vt,du]at h;subst h;refine⟨λe=>by (cases e),λj v c=>?_⟩;cases c;exact⟨aV _,e,by simp,by simp[Instr.findAsking,d]⟩
  | false=>simp only[hU,iQf]at h;obtain⟨q,t⟩:=s (i+1) o h w;refine⟨λc=>by simp[Instr.findAsking,d,q c],λj v c=>?_⟩;obtain⟨x,p,u,n⟩:=t j v c;refine⟨by omega,p,?_,by simp[Instr.findAsking,d,n]⟩;rw[show j - i=(j - (i+1))+1 by omega];simpa using u
def pR{P:Program}{c:Bool}{n:TypeId}{k:Value}{es:List MapEntry}{o:Option Nat}(h:vD P c n k (es.map (·.key))=some o)(w:World) :
 (Instr.checkKey c 10000 n k).run P w = .ok () w/\(o=none->(Instr.findKey n k es).run P w = .ok none w) /\∀j,o=some j ->∃e,es[j]?=some e/\(Instr.findKey n k es).run P w = .ok (some (j,e.val)) w:=by
 unfold vD at h;split at h
 ·rename_i F;obtain⟨o',b,e⟩:=bA.1 h;have B:(es.map (·.key)).map (λx=>(⟨x,Go.undef,0⟩:MapEntry))=dummy es:=by simp[dummy,Function.comp_def]
  rw[B]at b;unfold Instr.findKey at b;rw[bJ]at b;obtain⟨d,G,b⟩:=fH.1 b;have f:=mR G w;refine⟨mR F w,?_⟩;obtain⟨D,H,v⟩:=Fy (d:=d) (k:=k) es 0;cases i:Instr.findNow d k (dummy es) 0 with
  | some r=>
   rw[i]at b;simp only[vt,du]at b;subst b;cases r with
   | none=>
    simp only[xf]at e;subst e;refine⟨λ_=>?_,λj e=>?_⟩;·simp[Instr.findKey,f,H.2 i]
    cases e
   | some p=>obtain⟨s,v0⟩:=p;simp only[Option.map_some]at e;subst e;refine⟨λe=>(by cases e),λj e=>?_⟩;cases e;obtain⟨_,q,t,z⟩:=v s v0 i;exact⟨q,by simpa using t,by simp[Instr.findKey,f,z]⟩
  | none=>
   rw[i]at b;simp only at b;obtain⟨C,t⟩:=BI es 0 o' b w;have m:=D.2 i;cases o' with
   | none=>
    simp only[xf]at e;subst e;refine⟨λ_=>?_,λj e=>?_⟩;·simp[Instr.findKey,f,m,C rfl]
    cases e
   | some p=>obtain⟨s,v0⟩:=p;simp only[Option.map_some]at e;subst e;refine⟨λe=>(by cases e),λj e=>?_⟩;cases e;obtain⟨_,q,y,u⟩:=t s v0 rfl;exact⟨q,by simpa using y,by simp[Instr.findKey,f,m,u]⟩
 cases h
def vj{P:Program}{t c b:TypeId}(h:Ix P t=some (c,b)):P.underlying t=some (.map c b):=by
 unfold Ix at h;split at h;·rename_i k e d;cases h;exact d
 cases h
section
variable{P:Program}{M:Mem}{ι:Map}{g:cb}{w:World}{r:Ref}
def yg(L:fk M ι g w){d:List AV}(p:kA g r=some d){l:Loc}(H:ι r=some l)(N:l.esz=0) :
 ∃a f c,g r=some ⟨0,.v (.bool true) :: d,a,f⟩/\w.heap[l.b]?=some (.map c c.size)/\c.size=d.length /\
  (∀(i:Nat) ent e,d[i]?=some ent->c[i]?=some e ->∃s t,ent = .tup [s,t]/\ir s=some e.key/\VR M ι t e.val/\e.born=i) /\∀x,d.mapM BN=some x->x=c.toList.map (·.key):=by
 unfold kA at p;split at p
 ·rename_i es f C;cases p;obtain⟨R,j,D⟩:=L.live r _ C;rw[H]at j;cases j;rcases D.objOk rfl with ⟨_,_,_,_,_,_,_,_,_,h,_⟩ | ⟨q,c,O,Q,h,I,J,z⟩ | ⟨_,_,_,_,_,_,_,_,h,_⟩
  ·simp at h
  rotate_left
  ·simp at h
  simp only[wa,iQs]at h;subst h;refine⟨false,f,c,C,I,J,z,λx n=>?_⟩;have K:=fq n;apply GH;intro i;rcases dT i c.size with hi | hi
  ·have m:i<d.length:=(by omega);obtain⟨y,G,u⟩:=jU n i _ (dh m);obtain⟨s,t,F,B,_⟩:=z i _ c[i] (dh m) (iG hi);rw[G];rw[F]at u;simp only[BN]at u;rw[u]at B;cases B;simp[iG hi]
  rw[tP (by rw[K];omega),tP (by simp;omega)]
 cases p
def K6(hS:fk M ι g w){t:TypeId}{x k y:AV}{S I:Value}(hx:VR M ι x S)(hk:VR M ι k I){ok:Bool}{bs:List aP}(h:jQ P g t (some x) (some k) ok=some (y,bs)) :
 bs=[] /\∃u,(Instr.lookup t S I ok).run P w = .ok u w/\VR M ι y u:=by
 have C : ∀ {v:AV} {u:Value} (b:Bool),VR M ι v u->VR M ι (if ok then .tup [v,.v (.bool b)] else v) (if ok then .tuple #[u,.bool b] else u):=by
  intro v u b j;cases ok with
  | false=>exact j
  | true=>
   refine .tup (by simp) rfl λi c u' s q=>?_;match i with
   | 0=>simp at s q;subst s;subst q;exact j
   | 1=>simp at s q;subst s;subst q;exact .v rfl
   | i+2=>simp at s
 unfold jQ at h;split at h
 ·rename_i kt et r' kv T L Q;cases L;cases hx with | mp Z W=>
  rename_i l;have K:I=kv:=by simpa using rU hk (by simpa using Q)
  subst K;split at h
  ·rename_i U hm;obtain⟨a,f,entries,hg,V,Y,H,O⟩:=yg hS hm Z W;split at h
   ·rename_i R D;have d:=O R D;have m:entries.isEmpty=R.isEmpty:=by rw[d];simp
    split at h
    ·rename_i i B;rw[d]at B;obtain⟨v,j,h⟩:=bA.1 h;cases h;obtain⟨G,_,h3⟩:=pR B w;obtain⟨e,he,F⟩:=h3 i rfl;obtain⟨N,p,j⟩:=fH.1 j;obtain⟨ka,va,X,e2,e3⟩:=H i N e p (by simpa using he);subst X;simp only[zo,du]at j;subst j;refine⟨rfl,_,?_,C true e3.1⟩;rw[<-d,<-m]at G;have n:(getObj l.b).run P w = .ok (.map entries entries.size) w:=by simp[getObj,Sem.run,V]
     simp only[Instr.lookup,iQe,iQg,bf (vj T),iQc,n,G,F]
    ·rename_i B;rw[d]at B;obtain⟨z,J,h⟩:=bA.1 h;cases h;obtain⟨G,h2,_⟩:=pR B w;obtain⟨u,q,j⟩:=uo J w;refine⟨rfl,_,?_,C false (gP j)⟩;rw[<-d,<-m]at G;have n:(getObj l.b).run P w = .ok (.map entries entries.size) w:=by simp[getObj,Sem.run,V]
     simp only[Instr.lookup,iQe,iQg,bf (vj T),iQc,n,G,h2 rfl,q]
    cases h
   cases h
  cases h
 cases h
def K7(z:fk M ι g w){m:Array TypeId}{ty:TypeId}{r':Ref}{x:AV}{j:Value}(s:VR M ι (.mp r') j){bs:List aP}(h:yb P g m[0]? r'=some (x,bs)) :
 bs=[] /\∃u,(Builtin.len_ m ty #[j]).run P w = .ok u w/\VR M ι x u:=by
 unfold yb at h;split at h
 ·rename_i p n e C;obtain⟨t,e,i⟩:=fH.1 e;cases h;cases s with | mp y q=>
  rename_i l;obtain⟨a,f,entries,D,B,d,_,_⟩:=yg z C y q;have c:(getObj l.b).run P w = .ok (.map entries entries.size) w:=by simp[getObj,Sem.run,B]
  refine⟨rfl,goInt entries.size,by simp[Builtin.len_,e,bf (vj i),c],?_⟩;rw[<-d];exact .v rfl
 cases h
def F0(s:fk M ι g w)(N:ι r=none){w':World}{o:Obj}(f:A8 w w' o){k:aP}(C:mu M (jb ι r ⟨w.heap.size,0,0⟩) w' ⟨w.heap.size,0,0⟩ k) :
 fk M (jb ι r ⟨w.heap.size,0,0⟩) (j3 g r k) w'/\qX M ι g w M (jb ι r ⟨w.heap.size,0,0⟩) (j3 g r k) w':=by
 have d:=CN (l:=⟨w.heap.size,0,0⟩) N;have n : ∀b o x,M b o=some x->b<w.heap.size:=λb o x h=>iQl w ⟨b,o,none⟩ (s.mem b o x h);have one : ∀ {q:Ref} {k' c},j3 g r k q=some k'->jb ι r ⟨w.heap.size,0,0⟩ q=some c->(q=r/\c.b=w.heap.size)\/(q≠r/\g q=some k'/\ι q=some c/\c.b<w.heap.size):=by
  intro q k' c h j;unfold j3 at h;unfold jb at j;split at h;·rename_i e;rw[if_pos e]at j;cases j;exact .inl ⟨e,rfl⟩
  rename_i e;rw[if_neg e]at j;obtain⟨D,m,u⟩:=s.live q k' h;rw[j]at m;cases m;exact .inr ⟨e,h,j,u.lt⟩
 refine⟨⟨λb o x h=>f.cell (s.mem b o x h),λq k' h=>?_,λq H k1 J c D v B I K L=>?_⟩,⟨f.os,f.tape,f.output,by rw[f.heap];simp,λb F _=>f.old b F,λ_ _ _ h=>h,d,λq k' c v B=>?_,λ_ _ _ h => .inl h⟩⟩
 ·unfold j3 at h;split at h;·rename_i e;subst e;cases h;exact⟨⟨w.heap.size,0,0⟩,by simp[jb],C.bu rfl λo x G=>absurd (n _ _ _ G) (wX _)⟩
  obtain⟨c,y,i⟩:=s.live q k' h;exact⟨c,d q c y,i.bF (λ_ _ _ h=>h) d (f.old _ i.lt) i.frozen⟩
 ·rcases one v I with ⟨t,p⟩ | ⟨t,p,z,O⟩<;>rcases one B K with ⟨f1,f2⟩ | ⟨f1,f2,f3,f4⟩
  ·rw[t,f1]
  ·omega
  ·omega
  exact s.inj q H k1 J c D p f2 z f3 L
 rcases one v B with ⟨t,p⟩ | ⟨t,p,z,O⟩
 ·exact .inl (by omega)
 exact .inr ⟨q,k',c,p,z,rfl⟩
def IX(p:fk M ι g w)(d:r.k=0)(j:ι r=none)(t:TypeId) :
 ∃u w',(Instr.makeMap t none).run P w = .ok u w'/\ij M ι g w r (.mp r) [nJ []] u w':=by
 have b:A8 w (w.alloc (.map #[] 0)) (.map #[] 0):=⟨rfl,rfl,rfl,rfl⟩;obtain⟨f,s⟩:=F0 p j b (k:=nJ []) (.inr (.inl ⟨[], #[],rfl,rfl,rfl,by rw[b.heap];simp,rfl,λi m e h=>by simp at h⟩));refine⟨.map (some w.heap.size),w.alloc (.map #[] 0),by simp[Instr.makeMap,run_newObj_alloc],M,jb ι r ⟨w.heap.size,0,0⟩,.mp (l:=⟨w.heap.size,0,0⟩) (by simp[jb]) rfl,by rw[pd _ _ d];exact f,by rw[pd _ _ d];exact s,?_⟩;intro q c n;have:q≠r:=by intro e;exact n 0 (by simp) (by rw[e];cases r;simp_all)
 simpa [jb,this] using c
def sd{H:ab}{l:Loc}{k:aP}(m:fk M ι H.get w)(U:p8 ι H)(y:ι r=some l)(K:l.esz=0)(u:H.get r=some k){k':aP}{o':Obj}(J:mu M ι (bP w l.b o') l k') :
 fk M ι (H.put r (some k')).get (bP w l.b o')/\qX M ι H.get w M ι (H.put r (some k')).get (bP w l.b o')/\p8 ι (H.put r (some k')):=by
 obtain⟨Y,n,L⟩:=m.live r _ u;rw[y]at n;cases n;have z:k.esz=0:=by rw[<-L.esz];exact K
 have O : ∀o x,M l.b o=some x->False:=by
  intro o x v;have:=m.mem _ _ _ v;rcases(L.objOk z).obj with ⟨_,i⟩ | ⟨_,_,i⟩ | ⟨_,_,_,_,_,_,i⟩
  ·simp[World.cell?,i]at this
  ·simp[World.cell?,i]at this
  simp[World.cell?,i]at this
 have c : ∀q k1,(H.put r (some k')).get q=some k1 ->∃p,H.get q=some p:=by
  intro q k1 d;rw[ab.get_put]at d;split at d;·rename_i e;exact⟨_,e ▸ u⟩
  exact⟨k1,d⟩
 refine⟨⟨λb o x v=>?_,λq k1 d=>?_,λq N k1 S f T C F R i V=>?_⟩,⟨rfl,rfl,rfl,by simp[bP],λb _ I=>dW (I r _ l u y),λ_ _ _ h=>h,λ_ _ h=>h,λq k1 f C F=>?_,λ_ _ _ h => .inl h⟩,λq W d=>?_⟩;·have D:l.b≠b:=λe=>O o x (e ▸ v);rw[iQi (w:=w) (dW D)];exact m.mem b o x v
 ·by_cases j:q=r;·subst j;rw[ab.get_put,if_pos rfl]at d;cases d;exact⟨l,y,J.bu K O⟩
  rw[ab.get_put,if_neg j]at d;obtain⟨f,s,t⟩:=m.live q k1 d;have G:l.b≠f.b:=λe=>j (m.inj q r k1 _ f l d u s y e.symm);exact⟨f,s,t.bF (λ_ _ _ h=>h) (λ_ _ h=>h) (dW G) t.frozen⟩
 ·obtain⟨p,B⟩:=c q k1 C;obtain⟨Q,X⟩:=c N S F;exact m.inj q N p Q f T B X R i V
 ·obtain⟨p,B⟩:=c q k1 C;exact .inr ⟨q,p,f,B,F,rfl⟩
 rw[ab.fB _ _ _ (by rw[u];rfl)];exact U q W d
def Fc{H:ab}(X:fk M ι H.get w)(hD:p8 ι H){t:TypeId}{m k x y:AV}{um p I:Value}(hm:VR M ι m um)(hk:VR M ι k p)(hx:VR M ι x I){H':ab}(h:gN P H t (some m) (some k) (some x)=some (y,H')) :
 ∃w',(Instr.mapUpdate t um p I).run P w = .ok () w'/\mZ M ι H w y H' undef w':=by
 unfold gN at h;split at h
 ·rename_i kt et r' k' x' ht J e2 e3;cases J;cases e2;cases e3;cases hm with | mp V S=>
  rename_i l;split at h
  ·rename_i kv z F Z;have Y:p=kv:=rU hk F;subst Y;obtain⟨a,f,entries,hg,hh,B,s,hks⟩:=yg X Z V S;have Q:l.b<w.heap.size:=(gv.1 hh).1;have L:(getObj l.b).run P w = .ok (.map entries entries.size) w:=by simp[getObj,Sem.run,hh]
   have R : ∀o,(setObj l.b o).run P w = .ok () (bP w l.b o):=by intro o;simp[setObj,Sem.run,hh,bP]
   split at h
   ·rename_i ks N;have n:=hks ks N;split at h
    ·rename_i i K;rw[n]at K;obtain⟨W,h⟩:=dH.1 h;cases h;obtain⟨h1,_,h3⟩:=pR K w;obtain⟨e,he,O⟩:=h3 i rfl;have q:entries[i]?=some e:=by simpa using he
     have hil:i<entries.size:=(gv.1 q).1;have T:Instr.sameBits 10000 e.key p=true:=(by rw[n]at W;simp only[lJ,Da,q,Option.map_some,du]at W;exact W);have D:(Instr.keyThatStays (((entries[i]?).map (·.key)).getD p) p).run P w = .ok p w:=(by rw[q];simp[Instr.keyThatStays,T]);refine⟨bP w l.b (.map (entries.modify i λe => { e with key:=p,val:=I}) entries.size),by simp only[Instr.mapUpdate,iQe,bf (vj ht),iQc,L,h1,O,D,R],M,ι,.v rfl,?_⟩;refine sd X hD V S hg (.inr (.inl ⟨z.set i (.tup [k,x]),entries.modify i λe => { e with key:=p,val:=I},rfl,rfl,rfl,?_,by simp[B],λj G J d c=>?_⟩));·rw[fp Q];simp
     rw[Ds]at c;by_cases C:i=j;·subst C;rw[if_pos rfl,q]at c;simp only[Option.map_some,du]at c;subst c;rw[FH (by omega)]at d;cases d;obtain⟨_,_,_,_,_,hb⟩:=s i _ e (dh (by omega)) q;exact⟨k,x,rfl,F,hx,hb⟩
     rw[if_neg C]at c;rw[Dr C]at d;exact s j G J d c
    ·rename_i K;rw[n]at K;cases h;obtain⟨h1,h2,_⟩:=pR K w;refine⟨bP w l.b (.map (entries.push { key:=p,val:=I,born:=entries.size}) (entries.size+1)),by simp only[Instr.mapUpdate,iQe,bf (vj ht),iQc,L,h1,h2 rfl,R],M,ι,.v rfl,?_⟩;refine sd X hD V S hg (.inr (.inl ⟨z++[.tup [k,x]],entries.push { key:=p,val:=I,born:=entries.size},rfl,rfl,rfl,?_,by simp[B],λj G J d c=>?_⟩));·rw[fp Q];simp
     rcases dT j entries.size with u | hge
     ·rw[B8 u,<-iG u]at c;rw[iB (by omega)]at d;exact s j G J d c
     rw[hY (by omega)]at d;have U:j=entries.size:=(by have:=(dB.1 d).1;simp at this;omega);subst U;simp only[B,sD,GO,du]at d;subst d;simp at c;subst c;exact⟨k,x,rfl,F,hx,rfl⟩
    cases h
   cases h
  cases h
 cases h
def GU{H:ab}(hS:fk M ι H.get w)(hD:p8 ι H){t:TypeId}{m k y:AV}{um C:Value}(hm:VR M ι m um)(hk:VR M ι k C){H':ab}(h:ou P H t (some m) (some k)=some (y,H')) :
 ∃u w',(Instr.mapEntry t um C).run P w = .ok u w'/\mZ M ι H w y H' u w':=by
 have U : ∀ {v:AV} {u:Value} (n:Nat),VR M ι v u->VR M ι (.tup [v,.v (.int .i64 n)]) (.tuple #[u,goInt n]):=by
  intro v u n J;refine .tup (by simp) rfl λi c u' I S=>?_;match i with
  | 0=>simp at I S;subst I;subst S;exact J
  | 1=>simp at I S;subst I;subst S;exact .v rfl
  | i+2=>simp at I
 unfold ou at h;split at h
 ·rename_i kt et r' k' ht T e2;cases T;cases e2;cases hm with | mp hr hz=>
  rename_i l;split at h
  ·rename_i kv p O hma;have huk:C=kv:=rU hk O;subst huk;obtain⟨a,f,entries,hg,hh,G,D,hks⟩:=yg hS hma hr hz;have Z:l.b<w.heap.size:=(gv.1 hh).1;have W:(getObj l.b).run P w = .ok (.map entries entries.size) w:=by simp[getObj,Sem.run,hh]
   have hso : ∀o,(setObj l.b o).run P w = .ok () (bP w l.b o):=by intro o;simp[setObj,Sem.run,hh,bP]
   split at h
   ·rename_i ks X;have B:=hks ks X;split at h
    ·rename_i i V;rw[B]at V;obtain⟨I,h⟩:=dH.1 h;obtain⟨v,J,h⟩:=bA.1 h;cases h;obtain⟨h1,_,h3⟩:=pR V w;obtain⟨e,he,Y⟩:=h3 i rfl;have q:entries[i]?=some e:=by simpa using he
     have hil:i<entries.size:=(gv.1 q).1;have hsb:Instr.sameBits 10000 e.key C=true:=(by rw[B]at I;simp only[lJ,Da,q,Option.map_some,du]at I;exact I);have N:(Instr.keyThatStays (((entries[i]?).map (·.key)).getD C) C).run P w = .ok C w:=(by rw[q];simp[Instr.keyThatStays,hsb]);obtain⟨F,Q,J⟩:=fH.1 J;obtain⟨ka,va,q1,q2,q3,q4⟩:=D i F e Q q;subst q1;simp only[zo,du]at J;subst J;refine⟨.tuple #[e.val,goInt i],bP w l.b (.map (entries.modify i λe => { e with key:=C}) entries.size),?_,M,ι,U i q3,?_⟩
     ·have R:(Option.map (λx:MapEntry=>(x.born:Int)) entries[i]?).getD 0=(i:Int):=by rw[q];simp[q4]
      simp only[Instr.mapEntry,iQe,iQg,bf (vj ht),iQc,W,h1,Y,N,hso,R]
     refine sd hS hD hr hz hg (.inr (.inl ⟨p.set i (.tup [k,va]),entries.modify i λe => { e with key:=C},rfl,rfl,rfl,?_,by simp[G],λj F T s d=>?_⟩));·rw[fp Z];simp
     rw[Ds]at d;by_cases L:i=j;·subst L;rw[if_pos rfl,q]at d;simp only[Option.map_some,du]at d;subst d;rw[FH (by omega)]at s;cases s;exact⟨k,va,rfl,O,q3,q4⟩
     rw[if_neg L]at d;rw[Dr L]at s;exact D j F T s d
    ·rename_i V;rw[B]at V;obtain⟨z,hzz,h⟩:=bA.1 h;cases h;obtain⟨h1,h2,_⟩:=pR V w;obtain⟨uz,S,J⟩:=uo hzz w;refine⟨.tuple #[uz,goInt p.length],bP w l.b (.map (entries.push { key:=C,val:=uz,born:=entries.size}) (entries.size+1)),?_,M,ι,U p.length (gP J),?_⟩;·simp only[Instr.mapEntry,iQe,iQg,bf (vj ht),iQc,W,h1,h2 rfl,S,hso,G]
     refine sd hS hD hr hz hg (.inr (.inl ⟨p++[.tup [k,z]],entries.push { key:=C,val:=uz,born:=entries.size},rfl,rfl,rfl,?_,by simp[G],λj F T s d=>?_⟩));·rw[fp Z];simp
     rcases dT j entries.size with K | hge
     ·rw[B8 K,<-iG K]at d;rw[iB (by omega)]at s;exact D j F T s d
     rw[hY (by omega)]at s;have hj0:j=entries.size:=(by have:=(dB.1 s).1;simp at this;omega);subst hj0;simp only[G,sD,GO,du]at s;subst s;simp at d;subst d;exact⟨k,z,rfl,O,gP J,rfl⟩
    cases h
   cases h
  cases h
 cases h
def Dy{H:ab}(S:fk M ι H.get w)(hD:p8 ι H){t:TypeId}{m s x y:AV}{T us B:Value}(hm:VR M ι m T)(hs:VR M ι s us)(Z:VR M ι x B){H':ab}(h:jI H (some m) (some s) (some x)=some (y,H')) :
 ∃w',(Instr.entryStore t T us B).run P w = .ok () w'/\mZ M ι H w y H' undef w':=by
 unfold jI at h;split at h
 ·rename_i r' kd n x' C e2 W;cases C;cases e2;cases W;cases hm with | mp R O=>
  rename_i l;cases hs;split at h
  ·rename_i z I;obtain⟨hn,h⟩:=dH.1 h;split at h
   ·rename_i Q va u;cases h;obtain⟨a,f,entries,hg,F,D,d,_⟩:=yg S I R O;have J:l.b<w.heap.size:=(gv.1 F).1;have G:(getObj l.b).run P w = .ok (.map entries entries.size) w:=by simp[getObj,Sem.run,F]
    have K : ∀o,(setObj l.b o).run P w = .ok () (bP w l.b o):=by intro o;simp[setObj,Sem.run,F,bP]
    have i:n.toNat<entries.size:=by have:=(dB.1 u).1;omega
    have born : ∀j (p:j<entries.size),entries[j].born=j:=(by intro j p;obtain⟨_,_,_,_,_,Y⟩:=d j _ entries[j] (dh (by omega)) (iG p);exact Y);have N:entries.findIdx? (λe=>(e.born:Int) == n)=some n.toNat:=by
     rw[Array.findIdx?_eq_some_iff_getElem];refine⟨i,?_,λj p=>?_⟩;·rw[born _ i];simp;omega
     rw[born j (by omega)];simp;omega
    obtain⟨ka',V,X,U,q3,q4⟩:=d n.toNat _ entries[n.toNat] u (iG i);cases X;refine⟨bP w l.b (.map (entries.modify n.toNat λe => { e with val:=B}) entries.size),?_,M,ι,.v rfl,?_⟩;·simp only[Instr.entryStore,iQe,iQg,iQc,G,asInt,asIntOf,N,K]
    refine sd S hD R O hg (.inr (.inl ⟨z.set n.toNat (.tup [Q,x]),entries.modify n.toNat λe => { e with val:=B},rfl,rfl,rfl,?_,by simp[D],λj L C p c=>?_⟩));·rw[fp J];simp
    rw[Ds]at c;by_cases q:n.toNat=j;·subst q;rw[if_pos rfl,iG i]at c;simp only[Option.map_some,du]at c;subst c;rw[FH (by omega)]at p;cases p;exact⟨Q,x,rfl,U,Z,q4⟩
    rw[if_neg q]at c;rw[Dr q]at p;exact d j L C p c
   cases h
  cases h
 cases h
def ES{g:cb}{r:Ref}{cap:Nat}{c:Bool}{b:List AV}(h:Se g r=some (cap,c,b)) :
 ∃n f,g r=some ⟨0,.v (.bool false) :: .v (.int .i64 n) :: .v (.bool c) :: b,false,f⟩/\n.toNat=cap:=by
 unfold Se at h;split at h;·rename_i n e d f i;cases h;exact⟨n,f,i,rfl⟩
 cases h
def HI(H:fk M ι g w){r:Ref}{l:Loc}(B:ι r=some l){cap:Nat}{m:Bool}{d:List AV}(h:Se g r=some (cap,m,d)) :
 ∃s t arr,w.heap[l.b]?=some (.chan cap arr m s t false)/\arr.size=d.length /\∀(i:Nat) x u,d[i]?=some x->arr[i]?=some u->VR M ι x u:=by
 obtain⟨n,f,I,K⟩:=ES h;obtain⟨L,j,y⟩:=H.live r _ I;rw[B]at j;cases j;rcases y.objOk rfl with ⟨_,_,_,_,_,_,_,_,_,e,_⟩ | ⟨_,_,_,_,e,_⟩ | ⟨c,s,t,z,p,arr,_,_,e,D,F,q⟩
 ·simp at e
 ·simp at e
 simp only[wa,AV.v.injEq,Value.int.injEq,Value.bool.injEq,iQs]at e;obtain⟨J,C,G⟩:=e;subst C G;have:c=cap:=by omega
 subst this;exact⟨s,t,arr,D,F,q⟩
def He(F:fk M ι g w)(v:r.k=0)(B:ι r=none){t e:TypeId}{b:Nat}(f:Iz P t=some e)(s:lg P e=some b)(k:IntKind)(n:Nat)(z:n<=1000000)(m:b<=1000000) :
 ∃u w',(Instr.makeChan t (.int k n)).run P w = .ok u w'/\ij M ι g w r (.ch r) [ER n false []] u w':=by
 unfold Iz at f;split at f
 ·rename_i D I H;cases f;unfold lg at s;obtain⟨i,hi,p⟩:=bA.1 s;have d:A8 w (w.alloc (.chan n #[] false 0 0 false)) (.chan n #[] false 0 0 false):=⟨rfl,rfl,rfl,rfl⟩;obtain⟨y,G⟩:=F0 F B d (k:=ER n false []) (.inr (.inr ⟨n,0,0,false,[], #[],rfl,rfl,rfl,by rw[d.heap];simp,rfl,λi x u h=>by simp at h⟩));have c:(i.bytes:Int) * n<=281474976710544:=by
   have J:i.bytes * n<=1000000 * 1000000:=Nat.mul_le_mul (p ▸ m) z;have y:((i.bytes * n:Nat):Int)=(i.bytes:Int) * n:=by simp
   omega
  refine⟨_,_,Go.Conc.run_makeChan H hi k n (by omega) c,M,jb ι r ⟨w.heap.size,0,0⟩,.ch (l:=⟨w.heap.size,0,0⟩) (by simp[jb]) rfl,by rw[pd _ _ v];exact y,by rw[pd _ _ v];exact G,?_⟩;intro q j C;have:q≠r:=by intro e;exact C 0 (by simp) (by rw[e];cases r;simp_all)
  simpa [jb,this] using j
 cases f
def D1(w:World)(c cap:Nat)(b:Array Value)(d:Bool)(s r:Nat):w.setChan c cap b d s r false=bP w c (.chan cap b d s r false):=rfl
def E8(P:Program)(o:Oper)(a:Act)(w:World)(S:Value->World->Prop):Prop:=
 ∀(b:Frame)(k:List Item)(cs:List Frame)(ops:Array Oper)(i:Nat)(rest:List Nat),b.kind = .normal->ops[i]?=some o->Region.wanted o (yielded ops a.tmps)=true ->
  ∃u w',S u w'/\step P (lone (b.atR a (.inRegion ops (i :: rest) :: k)) cs w) = .next (lone (b.atR (a.put o.dst u) (.inRegion ops rest :: k)) cs w')
def xk{P:Program}{b:Frame}{a:Act}{k:List Item}{cs:List Frame}{w w':World}{ops:Array Oper}{i:Nat}{rest:List Nat}{o:Oper}{cases:Array CommCase}{shape:CommShape}(m:b.kind = .normal)(f:ops[i]?=some o)
 (h:Region.wanted o (yielded ops a.tmps)=true) (n : ∀c,o.op ≠ .defer c) (j:(execOp a.eval o).run P w = .ok (.comm cases true shape) w') :
 ∃es,stepG P true (Go.Conc.G (b.atR a (.inRegion ops (i :: rest) :: k)) cs) w = .comm (Go.Conc.G (b.atR a (.inRegion ops (i :: rest) :: k)) cs) cases true shape w' es:=by
 have e:=stepGR_op (P:=P) (b:=b) (k:=k) (cs:=cs) (w:=w) (rest:=rest) f h;rw[Oper.semAt_eq _ _ _ n]at e;unfold Go.Conc.G;rw[e];have d:(b.kind == CallKind.early)=false:=by rw[m];rfl
 refine⟨Go.Conc.listed P b.fn a o w,?_⟩;simp[stepG.apply,j,Frame.atR,d,GStep.after,Go.Conc.listed]
def PK{P:Program}{o:Oper}{a:Act}{H:ab}(S:fk M ι H.get w)(hD:p8 ι H){C p:Operand}(B:o.op = .send C p){c x y:AV}{H':ab}(R:VR M ι c (a.eval C))(hx:VR M ι x (a.eval p))
 (h:Dw H (some c) (some x)=some (y,H')):E8 P o a w λu w'=>mZ M ι H w y H' u w':=by
 unfold Dw at h;split at h
 ·rename_i r x' V e2;cases V;cases e2;split at h
  ·rename_i cap e m;obtain⟨⟨hlt,hfl⟩,h⟩:=dH.1 h;cases h;generalize L:a.eval C=cv at R;cases R with | @ch _ _ l Q U=>
   obtain⟨s,t,arr,T,G,I⟩:=HI S Q m;obtain⟨n,f,W,_⟩:=ES m;have Z:l.b<w.heap.size:=(gv.1 T).1;intro b k cs ops i rest Y O X;obtain⟨es,J⟩:=xk (P:=P) (b:=b) (a:=a) (k:=k) (cs:=cs) (w:=w) (w':=w) (rest:=rest) (cases := #[Go.Conc.scase l.b (a.eval p) (.tuple #[])]) (shape := .send) Y O X (by simp[B]) (by simp[execOp,B,Go.Conc.scase,L]);have K:=Go.Conc.step_lone_send_room J T (by omega);obtain⟨k1,k2,k3⟩:=sd S hD Q U W (k':=ER cap false (e++[x])) (o' := .chan cap (arr.push (a.eval p)) false (s+1) t false)
    (.inr (.inr ⟨cap,s+1,t,false,e++[x],arr.push (a.eval p),rfl,rfl,rfl,fp Z,by simp[G],λj z u d q=>by
     rcases dT j e.length with D | D
     ·rw[iB D]at d;rw[B8 (by omega)]at q;exact I j z u d (by rw[<-q];exact iG (by omega))
     rw[hY D]at d;have F:j - e.length=0:=(by have:=(dB.1 d).1;simp at this;omega);rw[F]at d;have N:j=arr.size:=by omega
     rw[N,Array.getElem?_push_size]at q;simp at d q;subst d q;exact hx⟩))
   refine⟨undef,_,⟨M,ι,.v rfl,k1,k2,k3⟩,?_⟩;rw[Go.Conc.lone_eq_solo,K,iQt,O,Go.Conc.lone_eq_solo,D1];rfl
  cases h
 cases h
def Na{M:Mem}{ι:Map}{x:AV}{u:Value}(ok b:Bool)(h:VR M ι x u):VR M ι (Xp ok x b) (Go.Conc.got ok u b):=by
 cases ok with| false=>exact h| true=>
  refine .tup (by simp) rfl λi c v d e=>?_;match i with
  | 0=>simp at d e;subst d e;exact h
  | 1=>simp at d e;subst d e;exact .v rfl
  | i+2=>simp at d
def PL{P:Program}{o:Oper}{a:Act}{H:ab}(N:fk M ι H.get w)(hD:p8 ι H){t:TypeId}{Q:Operand}{ok:Bool}(F:o.op = .recv t Q ok){c y:AV}{H':ab}(hc:VR M ι c (a.eval Q))
 (h:FI P H t (some c) ok=some (y,H')):E8 P o a w λu w'=>mZ M ι H w y H' u w':=by
 unfold FI at h;split at h
 ·rename_i r z e1 D;cases e1;generalize X:a.eval Q=cv at hc;cases hc with | @ch _ _ l T hz=>
  obtain⟨e,he,K⟩:=fH.1 D;unfold Iz at he;split at he
  ·rename_i dir e' G;cases he;unfold eJ at K;obtain⟨v0,W,Z⟩:=fH.1 K;obtain⟨inf,hi,U⟩:=fH.1 W;have Y:VR M ι z v0:=gP Z;have p:(execOp a.eval o).run P w = .ok (.comm #[Go.Conc.rcase l.b v0] true (.recv ok)) w:=by
    simp[execOp,F,Go.Conc.rcase,X,run_underlying G,zeroValue,typeInfo,hi,U]
   split at h
   ·rename_i cap R x L m;cases h;obtain⟨s,t',arr,O,d,v⟩:=HI N T m;obtain⟨n,f,hg,_⟩:=ES m;have hb:l.b<w.heap.size:=(gv.1 O).1;have q:0<arr.size:=by rw[d];simp
    intro b k cs ops i rest V I S;obtain⟨es,B⟩:=xk (P:=P) (b:=b) (a:=a) (k:=k) (cs:=cs) (w:=w) (w':=w) (rest:=rest) V I S (by simp[F]) p;have C:=Go.Conc.step_lone_recv_buf ok B O q;obtain⟨k1,k2,k3⟩:=sd N hD T hz hg (k':=ER cap R L) (o' := .chan cap (arr.extract 1 arr.size) R s (t'+1) false)
     (.inr (.inr ⟨cap,s,t'+1,R,L,arr.extract 1 arr.size,rfl,rfl,rfl,fp hb,by simp[d],λj z u J G=>by
      refine v (j+1) z u (by simpa using J) ?_;have hj:=(dB.1 J).1;rw[Array.getElem?_extract]at G;rw[Nat.add_comm j 1];split at G;·exact G
      cases G⟩))
    refine⟨_,_,⟨M,ι,Na ok true (v 0 x (arr.getD 0 undef) rfl (by simp[Array.getD,q])),k1,k2,k3⟩,?_⟩;rw[Go.Conc.lone_eq_solo,C,iQt,I,Go.Conc.lone_eq_solo,D1];rfl
   ·rename_i cap m;cases h;obtain⟨s,t',arr,O,d,v⟩:=HI N T m;have ha:arr = #[]:=Ib (by simpa using d);subst ha;intro b k cs ops i rest V I S;obtain⟨es,B⟩:=xk (P:=P) (b:=b) (a:=a) (k:=k) (cs:=cs) (w:=w) (w':=w) (rest:=rest) V I S (by simp[F]) p;have C:=Go.Conc.step_lone_recv_shut ok B O;refine⟨_,_,⟨M,ι,Na ok false Y,N,qX.refl,hD⟩,?_⟩;rw[Go.Conc.lone_eq_solo,C,iQt,I,Go.Conc.lone_eq_solo];rfl
   cases h
  cases he
 cases h
def MT{P:Program}{o:Oper}{a:Act}{w:World}{K:Act->World->Prop}{ops:Array Oper}{i:Nat}(u:ops[i]?=some o)(C:Region.wanted o (yielded ops a.tmps)=true)(b:Frame)
 (h:o.wpIn (FW b.roundOf) 0 P a w K (λ_ _ _=>False)) (rest:List Nat) (k:List Item) (cs:List Frame) :
 ∃y w',K y w'/\Steps P (lone (b.atR a (.inRegion ops (i :: rest) :: k)) cs w) (lone (b.atR y (.inRegion ops rest :: k)) cs w'):=by
 obtain⟨_,h⟩:=h;have s:=stepGR_op (P:=P) (b:=b) (k:=k) (cs:=cs) (w:=w) (rest:=rest) u C;have j : ∀v,(b.atR a (.inRegion ops (i :: rest) :: k)).finish v=b.atR (a.put o.dst v) (.inRegion ops rest :: k):=by
  intro v;rw[iQt,u];rfl
 have p : ∀n,(FW b.roundOf).room n:=λn _ h=>by simp[FW,Fence.wide]at h
 rw[show(FW b.roundOf).round=b.roundOf from rfl]at h;unfold Oper.uponIn at h;split at h;·rename_i v w' m;refine⟨_,_,h,.one (iQo ?_)⟩;rw[s,<-j];simp[stepG.apply,m]
 ·rename_i w' m;refine⟨_,_,h,.one (iQo ?_)⟩;rw[s,<-j];simp[stepG.apply,m]
 ·rename_i d w' m;refine⟨_,_,h,.one (iQo ?_)⟩;have D:({ b.atR a (.inRegion ops (i :: rest) :: k)with defers:=d :: a.defers}:Frame).finish undef =
   b.atR ({ a with defers:=d :: a.defers}.put o.dst undef) (.inRegion ops rest :: k):=by
   have B:=iQt b { a with defers:=d :: a.defers} ops i rest k undef;rw[u]at B;exact B
  rw[s];simp only[stepG.apply,Sem.runT_eq,m,GStep.bare_after];exact iQh (λfr=>GStep.go { frame:=fr,callers:=cs,status := .running,dying:=none} w') D
 ·rename_i f args w' m;obtain⟨_,G,h⟩:=h;obtain⟨e,z,fr,q,t,_,F⟩:=h (b.atR a (.inRegion ops (i :: rest) :: k) :: cs) (p _);have c:step P (lone (b.atR a (.inRegion ops (i :: rest) :: k)) cs w) = .next (lone (Frame.enter P f args .normal) (b.atR a (.inRegion ops (i :: rest) :: k) :: cs) w'):=
   iQo (by rw[s];simp[stepG.apply,m,Frame.atR])
  cases e with| returned v=>refine⟨_,_,q,iQm (.one c) (iQm (iQx t) (.one ?_))⟩;rw[<-j];exact step_leave_returned F| panicked chain=>exact q.elim| outgrown=>obtain⟨_,_,x⟩:=q;exact x.elim
 ·rename_i row args w' m;obtain⟨_,h⟩:=h;obtain⟨v,z,q,t⟩:=h (b.atR a (.inRegion ops (i :: rest) :: k)) cs (p _);have c:step P (lone (b.atR a (.inRegion ops (i :: rest) :: k)) cs w) = .next (lone (Frame.ofRow P row args .normal) (b.atR a (.inRegion ops (i :: rest) :: k) :: cs) w'):=
   iQo (by rw[s];simp[stepG.apply,m,Frame.atR])
  refine⟨_,_,q,iQm (.one c) ?_⟩;rw[<-j];exact iQx t
 ·rename_i l f tmps assign body w' m;obtain⟨_,_,h⟩:=h;obtain⟨e,z,q,t⟩:=h (b.atR a (.inRegion ops (i :: rest) :: k)) cs (p _);have c:step P (lone (b.atR a (.inRegion ops (i :: rest) :: k)) cs w) = .next (lone (Frame.round l f tmps assign body .normal) (b.atR a (.inRegion ops (i :: rest) :: k) :: cs) w'):=
   iQo (by rw[s];simp[stepG.apply,m,Frame.atR])
  cases e with| returned v=>refine⟨_,_,q,iQm (.one c) ?_⟩;rw[<-j];exact iQx t| panicked chain=>exact q.elim| outgrown=>obtain⟨_,_,x⟩:=q;exact x.elim
 ·exact h.elim
 exact h.elim
end
end
section
def gy(r:Ref)(b:List Loc):Map:=λq=>if q.d=r.d/\q.t=r.t/\q.g=r.g then b[q.k]? else none
structure vU (M:Mem) (w:World) (y:AV) (v:Value) (M':Mem) (w':World):Prop where
 os:w'.os=w.os
 tape:w'.tape=w.tape
 output:w'.output=w.output
 size:w.heap.size<=w'.heap.size
 old : ∀b,b<w.heap.size->w'.heap[b]?=w.heap[b]?
 mem : ∀b o x,M b o=some x->M' b o=some x
 sound : ∀b o x,M' b o=some x->w'.cell? ⟨b,o,none⟩=some x
 new : ∀b o x,M' b o=some x->M b o=some x\/w.heap.size<=b
 res : ∀r:Ref,∃ls:List Loc,ls.length=(ae r depth y []).2.length/\VR M' (gy r ls) (ae r depth y []).1 v /\
  (∀(k:Nat) l b,ls[k]?=some l->(ae r depth y []).2[k]?=some b->nH M' (gy r ls) w' l b/\w.heap.size<=l.b) /\
  ∀(i j:Nat) l l',ls[i]?=some l->ls[j]?=some l'->l.b=l'.b->i=j
def iz(P:Program)(f:FuncId)(args:List AV)(y:AV):Prop:=
 (∃fn,P.funcs[f]?=some fn/\(fn.name == "runtime.NumGoroutine")=false/\fn.body.isSome=true) /\
 ∀(M:Mem)(w:World)(us:List Value),(∀b o x,M b o=some x->w.cell? ⟨b,o,none⟩=some x)->j7 M cT args us ->
  Calls P f us.toArray w λe w' =>∃v M',e = .returned v/\vU M w y v M' w'
def kU(P:Program):qJ->List AV->ab->AV->ab->Prop
 | .fn f,args,H,y,H'=>
  (∃fn,P.funcs[f]?=some fn/\(fn.name == "runtime.NumGoroutine")=false/\fn.body.isSome=true) /\
  ∀(M:Mem)(ι:Map)(w:World)(us:List Value),fk M ι H.get w->p8 ι H->j7 M ι args us ->
   Calls P f us.toArray w λe w' =>∃v,e = .returned v/\mZ M ι H w y H' v w'
 | .yld r,args,H,y,H' =>∀(M:Mem)(ι:Map)(w:World)(us:List Value)(l:Loc),fk M ι H.get w->p8 ι H->j7 M ι args us->ι r=some l ->
  ∃fn tmps assign body,(Instr.yield l.b us.toArray).run P w = .ok (.round l.b fn tmps assign body) w /\
   RoundIn (FW none) 0 P l.b fn tmps assign body w λe w' =>∃v,e = .returned v/\mZ M ι H w y H' v w'
def AF{M M':Mem}{ι A:Map} : ∀(n:Nat)(x:AV)(u:Value),flat n x=true->VR M ι x u->VR M' A x u:=by
 intro n;induction n with
 | zero=>intro x u h;simp[flat]at h
 | succ n f=>
  intro x u h t;cases t with
  | v q=>exact .v q
  | agg m e=>simp only[flat,eC]at h;exact .agg m λi c u b d=>f c u (h c (dk b)) (e i c u b d)
  | tup y m e=>simp only[flat,eC]at h;exact .tup y m λi c u b d=>f c u (h c (dk b)) (e i c u b d)
  | ifc e=>exact .ifc (f _ _ (by simpa [flat] using h) e)
  | fn s p e j=>simp only[flat,bD,eC]at h;exact .fn s p (λi c u b d=>f c u (h.1 c (dk b)) (e i c u b d)) λi c u b d=>f c u (h.2 c (dk b)) (j i c u b d)
  | yld=>simp[flat]at h
  | mp=>simp[flat]at h
  | ch=>simp[flat]at h
  | xv=>simp[flat]at h
  | cC=>simp[flat]at h
  | bO=>simp[flat]at h
  | dsl=>simp[flat]at h
  | ptr=>simp[flat]at h
  | iptr=>simp[flat]at h
def sP(r:Ref) : ∀(n m:Nat)(x:AV)(bs:List aP),flat m x=true->ae r n x bs=(x,bs):=by
 intro n;induction n with
 | zero=>intro m x bs h;rfl
 | succ n j=>
  intro m x bs h;have e : ∀(m:Nat)(cs b:List AV),(∀c∈cs,flat m c=true)->cs.foldl (λ(p:List AV × List aP) c=>(p.1++[(ae r n c p.2).1],(ae r n c p.2).2)) (b,bs)=(b++cs,bs):=by
   intro m cs;induction cs with
   | nil=>intro b _;simp
   | cons c cs f=>intro b i;rw[sG,j m c bs (i c (im ..))];rw[f (b++[c]) (λd q=>i d (iR _ q))];simp
  cases m with| zero=>simp[flat]at h| succ m=>
   cases x with
   | agg cs=>simp only[flat,eC]at h;have:=e m cs [] h;simp only[ae];rw[this];simp
   | tup cs=>simp only[flat,eC]at h;have:=e m cs [] h;simp only[ae];rw[this];simp
   | nsl=>simp[flat]at h
   | fsl=>simp[flat]at h
   | ifc t x=>simp only[ae];rw[j m x bs (by simpa [flat] using h)]
   | _=>rfl
def E4{g:cb}{r q:Ref}{bs:List aP}{b:aP}(h:pX g r bs q=some b):(q.d=r.d/\q.t=r.t/\q.g=r.g/\bs[q.k]?=some b)\/(¬(q.d=r.d/\q.t=r.t/\q.g=r.g/\q.k<bs.length)/\g q=some b):=by
 unfold pX at h;split at h;·rename_i c;exact .inl ⟨c.1,c.2.1,c.2.2.1,h⟩
 rename_i c;exact .inr ⟨c,h⟩
def EV{M ι g w}(J:fk M ι g w){r:Ref}(V : ∀k,ι { r with k:=k}=none){y:AV}{v:Value}{M':Mem}{w':World}(h:vU M w y v M' w') :
 ij M ι g w r (ae r depth y []).1 (ae r depth y []).2 v w':=by
 obtain⟨ls,Z,hv,X,hi⟩:=h.res r;have I : ∀q l,gy r ls q=some l->ι q=none:=by
  intro q l H;unfold gy at H;split at H
  ·rename_i hc;have:q = { r with k:=q.k}:=by cases q;cases r;simp_all
   rw[this];exact V _
  cases H
 have B : ∀q l,ι q=some l->(λq=>match ι q with | some l=>some l | none=>gy r ls q) q=some l:=by
  intro q l h;simp[h]
 have j : ∀q l,gy r ls q=some l->(λq=>match ι q with | some l=>some l | none=>gy r ls q) q=some l:=by
  intro q l h;simp[I q l h,h]
 have u : ∀q l,(λq=>match ι q with | some l=>some l | none=>gy r ls q) q=some l->ι q=some l\/(ι q=none/\gy r ls q=some l):=by
  intro q l h;simp only at h;split at h;·rename_i R C;exact .inl (by rw[C,h])
  rename_i Q;exact .inr ⟨Q,h⟩
 have m : ∀q b l,pX g r (ae r depth y []).2 q=some b->(λq=>match ι q with | some l=>some l | none=>gy r ls q) q=some l ->
  (g q=some b/\ι q=some l)\/(w.heap.size<=l.b/\gy r ls q=some l/\ls[q.k]?=some l/\q = { r with k:=q.k}):=by
  intro q b l z s;rcases E4 z with ⟨f,n,i,F⟩ | ⟨f,n⟩
  ·right;have p:q = { r with k:=q.k}:=by cases q;cases r;simp_all
   have Q:ι q=none:=by rw[p];exact V _
   rcases u q l s with d | ⟨_,d⟩
   ·rw[Q]at d;cases d
   have W:ls[q.k]?=some l:=by unfold gy at d;rw[if_pos ⟨f,n,i⟩]at d;exact d
   exact⟨(X q.k l b W F).2,d,W,p⟩
  left;obtain⟨Y,e,_⟩:=J.live q b n;rcases u q l s with d | ⟨d,_⟩
  ·exact⟨n,d⟩
  rw[e]at d;cases d
 refine⟨M',λq=>match ι q with | some l=>some l | none=>gy r ls q,hv.mono (λ_ _ _ h=>h) _ j,?_,?_,?_⟩
 ·refine⟨h.sound,?_,?_⟩
  ·intro q b z;rcases E4 z with ⟨f,n,i,F⟩ | ⟨f,n⟩
   ·have D:q.k<ls.length:=by rw[Z];exact(dB.1 F).1
    have K:ls[q.k]?=some ls[q.k]:=dh D;obtain⟨c,hge⟩:=X q.k _ b K F;have O:gy r ls q=some ls[q.k]:=by unfold gy;rw[if_pos ⟨f,n,i⟩];exact K
    refine⟨_,j q _ O,?_⟩;exact c.bF (λ_ _ _ h=>h) j rfl c.frozen
   obtain⟨l,C,c⟩:=J.live q b n;refine⟨l,B q l C,c.bF h.mem B (h.old _ c.lt) ?_⟩;intro o x S;rcases h.new _ _ _ S with i | i
   ·exact c.frozen o x i
   exact absurd c.lt (Dc.2 i)
  intro q U b T l R f n i F d;rcases m q b l f i with ⟨t,G⟩ | ⟨t,G,a3,a4⟩<;>rcases m U T R n F with ⟨b1,b2⟩ | ⟨b1,b2,b3,b4⟩
  ·exact J.inj q U b T l R t b1 G b2 d
  ·obtain⟨Y,e,c⟩:=J.live q b t;rw[G]at e;cases e;exact absurd c.lt (by rw[d];exact Dc.2 b1)
  ·obtain⟨Y,e,c⟩:=J.live U T b1;rw[b2]at e;cases e;exact absurd c.lt (by rw[<-d];exact Dc.2 t)
  have:=hi _ _ _ _ a3 b3 d;rw[a4,b4,this]
 ·refine⟨h.os,h.tape,h.output,h.size,λb N _=>h.old b N,h.mem,B,?_,?_⟩
  ·intro q b l f i;rcases m q b l f i with ⟨t,G⟩ | ⟨t,_⟩
   ·exact .inr ⟨q,b,l,t,G,rfl⟩
   exact .inl t
  intro b o x S;rcases h.new b o x S with f | f
  ·exact .inl f
  exact .inr (.inl f)
 intro q L H;simp only[L];unfold gy;split
 ·rename_i hc;have p:q = { r with k:=q.k}:=by cases q;cases r;simp_all
  have : ¬q.k<(ae r depth y []).2.length:=λD=>H q.k D p;exact tP (by rw[Z];omega)
 rfl
def Fz{M ι g w}(f:fk M ι g w){r:Ref}{y:AV}{v:Value}{t M':Mem}{w':World}(m:flat depth y=true)(h:vU t w y v M' w'):ij M ι g w r y [] v w':=by
 obtain⟨ls,z,j,u,hi⟩:=h.res r;rw[sP r depth depth y [] m]at j;refine⟨M,ι,AF depth y v m j,?_,?_,λq d _=>d⟩
 ·rw[lP];refine⟨?_,?_,f.inj⟩;·intro b o x p;have:=f.mem b o x p;rw[iQi (w:=w) (h.old _ (iQl w ⟨b,o,none⟩ this))];exact this
  intro q b d;obtain⟨l,e,c⟩:=f.live q b d;exact⟨l,e,c.bF (λ_ _ _ h=>h) (λ_ _ h=>h) (h.old _ c.lt) c.frozen⟩
 rw[lP];exact⟨h.os,h.tape,h.output,h.size,λb i _=>h.old b i,λ_ _ _ h=>h,λ_ _ h=>h,λq b l n s => .inr ⟨q,b,l,n,s,rfl⟩,λ_ _ _ h => .inl h⟩
def LM{M M':Mem}{ι A:Map}{e x:AV}{u:Value}{j:Nat}(d:flat depth e=true)(b:e.cells[j]?=some x)(h:VR M ι x u):VR M' A x u:=by
 cases e with
 | agg cs=>
  have f:x∈cs:=dk b;have : ∀c∈cs,flat 7 c=true:=by simpa [flat,depth] using d
  exact AF 7 x u (this x f) h
 | _=>
  simp only[AV.cells]at b;cases j with
  | zero=>simp at b;subst b;exact AF depth _ u d h
  | succ j=>simp at b
def Lg(r:Ref) : ∀(n:Nat)(x:AV)(bs:List aP),Af n x=true ->∃new,(ae r n x bs).2=bs++new/\(∀b∈new,0<b.esz/\b.arr=true/\b.fI=false /\∀e∈b.es,flat depth e=true) /\
 ∀(M M':Mem)(ι:Map)(u:Value),VR M ι (ae r n x bs).1 u->VR M' ι (ae r n x bs).1 u:=by
 intro n;induction n with
 | zero=>intro x bs h;simp[Af]at h
 | succ n Q=>
  intro x bs h;have y : ∀(cs s:List AV)(bs:List aP),(∀c∈cs,Af n c=true) ->∃(new:List aP) (zs:List AV),cs.foldl (λ(p:List AV × List aP) c=>(p.1++[(ae r n c p.2).1],(ae r n c p.2).2)) (s,bs)=(s++zs,bs++new) /\
   (∀b∈new,0<b.esz/\b.arr=true/\b.fI=false /\∀e∈b.es,flat depth e=true) /\∀(M M':Mem)(ι:Map)(z:AV),z∈zs ->∀u,VR M ι z u->VR M' ι z u:=by
   intro cs;induction cs with
   | nil=>intro s bs _;exact⟨[],[],by simp,λb m=>by simp at m,λ_ _ _ z C=>by simp at C⟩
   | cons c cs I=>
    intro s bs q;obtain⟨n1,W,R,Y⟩:=Q c bs (q c (im ..));obtain⟨n2,zs,b1,b2,b3⟩:=I (s++[(ae r n c bs).1]) (bs++n1) λd U=>q d (iR _ U);refine⟨n1++n2,(ae r n c bs).1 :: zs,?_,?_,?_⟩;·rw[sG];simp only;rw[W,b1];simp
    ·intro b m;rcases jG.1 m with m | m
     ·exact R b m
     exact b2 b m
    intro M M' ι z C u f;rcases dG.1 C with rfl | C
    ·exact Y M M' ι u f
    exact b3 M M' ι z C u f
  cases x with
  | v x=>exact⟨[],by simp[ae],λb m=>by simp at m,λM M' ι u f=>by simp only[ae]at f ⊢;cases f with | v F=>exact .v F⟩
  | agg cs=>
   simp only[Af,eC]at h;obtain⟨new,zs,B,G,D⟩:=y cs [] bs h;simp only[ae];rw[B];refine⟨new,rfl,G,λM M' ι u f=>?_⟩;simp only[ko]at f ⊢;cases f with | agg N H=>
   exact .agg N λi c u q O=>D M M' ι c (dk q) u (H i c u q O)
  | tup cs=>
   simp only[Af,eC]at h;obtain⟨new,zs,B,G,D⟩:=y cs [] bs h;simp only[ae];rw[B];refine⟨new,rfl,G,λM M' ι u f=>?_⟩;simp only[ko]at f ⊢;cases f with | tup V N H=>
   exact .tup V N λi c u q O=>D M M' ι c (dk q) u (H i c u q O)
  | fsl z es cap=>
   simp only[Af,bD,bne_iff_ne,ne_eq,eC]at h;simp only[ae];rw[if_neg h.1];refine⟨[⟨z,es,true,false⟩],rfl,?_,λM M' ι u f=>?_⟩;·intro b m;rw[l7.1 m];exact⟨wb h.1,rfl,rfl,h.2⟩
   cases f with | bO S m F X q T J C=>exact .bO S m F X q T J C
  | cC z es cap=>have L:es=[]:=(by simpa [Af] using h);subst L;refine⟨[],by simp[ae],λb m=>by simp at m,λM M' ι u f=>?_⟩;simp only[ae]at f ⊢;cases f with | cC cell F q J hm he H=>exact .cC cell F q J (λi j B=>by simp at B) he λi j e x B=>by simp at B
  | ifc t x=>obtain⟨new,B,G,D⟩:=Q x bs (by simpa [Af] using h);simp only[ae];exact⟨new,B,G,λM M' ι u f=>by cases f with | ifc K=>exact .ifc (D M M' ι _ K)⟩
  | _=>simp[Af]at h
def vU.own{M L M':Mem}{w w':World}{y:AV}{v:Value}(z : ∀b o x,M b o=some x->w.cell? ⟨b,o,none⟩=some x)(B:Af depth y=true)(h:vU L w y v M' w'):vU M w y v M w':=by
 have p : ∀b o x,M b o=some x->b<w.heap.size:=λb o x c=>iQl w ⟨b,o,none⟩ (z b o x c);refine⟨h.os,h.tape,h.output,h.size,h.old,λ_ _ _ h=>h,?_,λ_ _ _ h => .inl h,λr=>?_⟩;·intro b o x c;rw[iQi (w:=w) (h.old _ (p b o x c))];exact z b o x c
 obtain⟨ls,K,G,D,hi⟩:=h.res r;obtain⟨new,H,N,F⟩:=Lg r depth y [] B;refine⟨ls,K,F M' M _ v G,λk l b C d=>?_,hi⟩;obtain⟨q,m⟩:=D k l b C d;have f:b∈new:=by rw[H,ko]at d;exact dk d
 obtain⟨Q,S,R,O⟩:=N b f;have n : ∀o x,M l.b o=some x->b.fI=true/\o<b.es.length * b.esz:=λo x c=>absurd (p _ _ _ c) (Dc.2 m);refine⟨⟨q.esz,λs=>?_,λs=>by omega,n⟩,m⟩;obtain⟨c1,⟨arr,T,fz,d1,d2,d3,d4⟩,J,I,_⟩:=q.cellsOk s;refine⟨c1,⟨arr,T,fz,d1,d2,d3,λi j e x t c=>?_⟩,J,I,n⟩;obtain⟨u,f1,f2,f3⟩:=d4 i j e x t c;exact⟨u,f1,f2,LM (O e (dk t)) c f3⟩
def Cg{P:Program}{f:FuncId}(h : ∃fn,P.funcs[f]?=some fn/\(fn.name == "runtime.NumGoroutine")=false/\fn.body.isSome=true)(args:Array Value)(w:World) :
 (callFunc f args).run P w = .ok (.enter f args) w:=by
 obtain⟨fn,d,i,c⟩:=h;have j:fn.body≠none:=by intro e;rw[e]at c;cases c
 have b:fn.name ≠ "runtime.NumGoroutine" := by simpa using i
 simp[callFunc,d,b,j]
def BJ{P:Program}{a:Act}{o:Oper}{c:Call}{d:Operand}(e:o.op = .call c)(h:c.callee = .value d){f:FuncId}{first captured:Array Value}(b:a.eval d = .func (.func f) first captured)
 (i : ∃fn,P.funcs[f]?=some fn/\(fn.name == "runtime.NumGoroutine")=false/\fn.body.isSome=true) (w:World) :
 (execOp a.eval o).run P w = .ok (.enter f (first++c.args.map a.eval++captured)) w:=by
 simp[execOp,e,resolve,h,b,Deferred.ofValue,invoke,Cg i]
def Io{M ι g w}(j:fk M ι g w){c ys:List AV}{us:List Value}(h:c.mapM (view g depth)=some ys)(d:j7 M ι c us):j7 (jq M ι g w (bW g c)) cT ys us:=
 ⟨by rw[fq h];exact d.1,λi y u f m=>by
  obtain⟨x,b,e⟩:=nc h i y f;refine zO j depth x y u e ?_ (d.2 i x u b m);intro r n;exact eW.2 ⟨x,dk b,n⟩⟩
def VR.Uw{M ι}{f:FuncId}{a b:List AV}{u:Value}(h:VR M ι (.fn (.func f) a b) u) : ∃m j,u = .func (.func f) m j/\j7 M ι a m.toList/\j7 M ι b j.toList:=by
 cases h with | fn p n q e=>
 exact⟨_,_,rfl,⟨by simpa using p,λi x u c d=>q i x u c (by simpa using d)⟩,⟨by simpa using n,λi x u c d=>e i x u c (by simpa using d)⟩⟩
def DR(a b c:Array Value):(a.toList++b.toList++c.toList).toArray=a++b++c:=by
 apply Dd;simp
section
variable{E:Env}{M:Mem}{ι:Map}{g:cb}{w:World}{r:Ref}{a:Act}{tm:List AV}{o:Oper}
def QX(s:fk M ι g w)(Q:TR M ι tm a)(O : ∀k,ι { r with k:=k}=none){pc:FuncId->List AV->Option AV}(F : ∀f D y,pc f D=some y->iz E.P f D y)
 {c:Call} {N:Operand} (T:o.op = .call c) (q:c.callee = .value N) {args:List AV} (p:c.args.toList.mapM (ar tm)=some args) {x:AV} {bs:List aP} (h:jR E pc g r (ar tm N) args=some (x,bs)) :
 dF E.P o a w λu w'=>ij M ι g w r x bs u w':=by
 unfold jR at h;split at h
 ·rename_i S first captured H
  split at h;·cases h
  split at h
  ·rename_i D G;split at h
   ·rename_i y W;obtain⟨d,h⟩:=dH.1 h;injection h with h
    obtain⟨Y,m⟩:=F S D y W;obtain⟨V,U,K,L,J⟩:=(aG Q H).Uw;have j:=kI Q p;have t:j7 M ι (first++args++captured) (V.toList++(c.args.map a.eval).toList++U.toList):=(L.append (by simpa using j)).append J;obtain⟨z,Z⟩:=xI (R:=bW g (first++args++captured)) s;have i:=Io s G t;have b:=m (jq M ι g w (bW g (first++args++captured))) w _ (vO s.mem) i;rw[DR]at b;refine dF.Ep (BJ T q K Y w) (b.mono λe w' ⟨v,M',he,hend⟩=>⟨v,he,?_⟩);by_cases n:flat depth y=true
    ·have hi:=sP r depth depth y [] n;rw[hi]at h;injection h with X h2
     subst X;subst h2;exact Fz s n hend
    by_cases C:Af depth y=true;·have:=EV s O (hend.own s.mem C);rw[h]at this;exact this
    have I:lW g (bW g (first++args++captured))=true:=by
     simp only[lI,bD]at d;rcases d with (q | q) | q
     ·exact absurd q n
     ·exact q
     exact absurd q.2 C
    have B:=Jz I;rw[B]at z;have:=EV z O hend;rw[h]at this;exact ij.after B s this
   cases h
  cases h
 cases h
def Ij{H:ab}{d F:Nat}(I:fk M ι H.get w)(Q:p8 ι H)(O:TR M ι tm a){pc:FuncId->List AV->Option AV}(T : ∀f C y,pc f C=some y->iz E.P f C y)
 {tc:qJ->List AV->ab->bU} (L : ∀f C H y H',tc f C H=some (y,H')->kU E.P f C H y H')
 {c:Call} {fo:Operand} (S:o.op = .call c) (W:c.callee = .value fo) {args:List AV} (m:c.args.toList.mapM (ar tm)=some args) {x:AV} {H':ab}
 (h:l8 E pc tc H ⟨d,F,H.gen d F,0⟩ (ar tm fo) args=some (x,H')):dF E.P o a w λu w'=>mZ M ι H w x H' u w':=by
 unfold l8 at h;split at h
 ·rename_i fi first captured B
  obtain⟨a',b',N,hva,X⟩:=(aG O B).Uw;have j:=kI O m;have t:j7 M ι (first++args++captured) (a'.toList++(c.args.map a.eval).toList++b'.toList):=(hva.append (by simpa using j)).append X;split at h;·obtain⟨Y,K⟩:=L _ _ _ _ _ h;have i:=K M ι w _ I Q t;rw[DR]at i;exact dF.Ep (BJ S W N Y w) (i.mono λe w' ⟨v,he,hend⟩=>⟨v,he,hend⟩)
  split at h
  ·rename_i C U;simp only[bA]at h;obtain⟨y,D,h⟩:=h;injection h with h1 h2
   obtain⟨Y,z⟩:=T fi C y D;obtain⟨hS1,G⟩:=xI (R:=bW H.get (first++args++captured)) I;have p:=Io I U t;have i:=z (jq M ι H.get w (bW H.get (first++args++captured))) w _ (vO I.mem) p;rw[DR]at i;refine dF.Ep (BJ S W N Y w) (i.mono λe w' ⟨v,M',he,hend⟩=>⟨v,he,?_⟩);have V:p8 ι (bQ H (bW H.get (first++args++captured))):=(by intro q l hq;rw[ab.fM];exact Q q l hq);have n:=EV (r:=⟨d,F,H.gen d F,0⟩) hS1 (λk=>Q.fresh d F k) hend;rw[<-ab.cP]at n;have J:H.gen d F=(bQ H (bW H.get (first++args++captured))).gen d F:=(ab.fM _ _ _ _).symm;have key:mZ (jq M ι H.get w (bW H.get (first++args++captured))) ι (bQ H (bW H.get (first++args++captured))) w x H' v w':=(by subst h1;subst h2;rw[J]at n ⊢;exact n.Yb V);obtain⟨M2,Z,k1,k2,k3,k4⟩:=key;refine⟨M2,Z,k1,k2,?_,k4⟩;rw[<-ab.cP]at G;exact G.trans k3
  cases h
 ·rename_i q B;have j:=kI O m;have D:=aG O B;generalize hu:a.eval fo=u at D;cases D with | yld hr hz=>
  rename_i l;obtain⟨fn,tmps,assign,body,D,s⟩:=L _ _ _ _ _ h M ι w _ l I Q j hr;refine dF.Rh (l:=l.b) ?_ s;have e1:(c.args.map a.eval:Array Value)=(c.args.toList.map a.eval).toArray:=by rw[<-GD];simp
  rw[<-e1]at D;simp[execOp,S,resolve,W,hu,Deferred.ofValue,invoke,D]
 cases h
end
end
section
def VR.cut{M M':Mem}{ι:Map}{e:AV}{Q:Value}(S:VR M ι e Q) : ∀ {A:Map} {u:Value},VR M' A e u->(∀q l,ι q=some l->A q=some l)->VR M' ι e u:=by
 induction S with
 | v h=>intro A u h hi;cases h with | v H=>exact .v H
 | agg T _ t=>
  intro A u h hi;cases h with | agg C s=>
  refine .agg C λi c u f F=>?_;have D:=(dB.1 f).1;exact t i c _ f (iG (by omega)) (s i c u f F) hi
 | tup G T _ t=>
  intro A u h hi;cases h with | tup J C s=>
  refine .tup J C λi c u f F=>?_;have D:=(dB.1 f).1;exact t i c _ f (iG (by omega)) (s i c u f F) hi
 | cC cell H f I hm he _ t=>intro A u h hi;cases h with | cC cell H f I hm he s=>exact .cC cell H f I hm he s
 | bO j N H O f R I G=>
  intro A u h hi;have m:=hi _ _ j;cases h with | bO b n x p B y z d=>
  rw[m]at b;cases b;exact .bO j n x p B y z d
 | dsl j N H O f R I G=>
  intro A u h hi;have m:=hi _ _ j;cases h with | dsl b n x p B y z d=>
  rw[m]at b;cases b;exact .dsl j n x p B y z d
 | ptr j G=>
  intro A u h hi;have m:=hi _ _ j;cases h with | ptr b d=>
  rw[m]at b;cases b;exact .ptr j d
 | iptr cell hm he _ t=>intro A u h hi;cases h with | iptr cell hm he s=>exact .iptr cell hm he s
 | fn O N _ _ t K=>
  intro A u h hi;cases h with | fn p n s L=>
  refine .fn p n (λi c u f F=>?_) λi c u f F=>?_;·have D:=(dB.1 f).1;exact t i c _ f (iG (by omega)) (s i c u f F) hi
  have D:=(dB.1 f).1;exact K i c _ f (iG (by omega)) (L i c u f F) hi
 | ifc _ t=>intro A u h hi;cases h with | ifc s=>exact .ifc (t s hi)
 | yld j G=>
  intro A u h hi;have m:=hi _ _ j;cases h with | yld b d=>
  rw[m]at b;cases b;exact .yld j d
 | mp j G=>
  intro A u h hi;have m:=hi _ _ j;cases h with | mp b d=>
  rw[m]at b;cases b;exact .mp j d
 | ch j G=>
  intro A u h hi;have m:=hi _ _ j;cases h with | ch b d=>
  rw[m]at b;cases b;exact .ch j d
 | xv m=>intro A u h hi;cases h with | xv U=>exact .xv U
section
variable{M M':Mem}{ι A:Map}{w w':World}{l:Loc}{k:aP}
def eo.cut(c0:eo M ι w l k)(c:eo M' A w' l k)(hi : ∀q l,ι q=some l->A q=some l):eo M' ι w' l k:=by
 obtain⟨f,_,_,_,_,_,y⟩:=c0.heap;obtain⟨arr,T,fz,t,v,m,s⟩:=c.heap;refine⟨c.esz,⟨arr,T,fz,t,v,m,λi j e x d b=>?_⟩,c.len,c.cells,c.frozen⟩;obtain⟨z,_,_,v0⟩:=y i j e x d b;obtain⟨u,p,n,v1⟩:=s i j e x d b;refine⟨u,p,n,v0.cut v1 ?_⟩;unfold aP.map;split;·exact λ_ _ h=>h
 exact hi
def E7.cut(c0:E7 M ι w l k)(c:E7 M' A w' l k)(hi : ∀q l,ι q=some l->A q=some l):E7 M' ι w' l k:=by
 obtain⟨D,z,y,d,h,m,F,_,_,b,_,_,_,_,_,v0,_⟩:=c0;obtain⟨n,nt,ps,as,C,tm,r,s,B,e,j,p,x,f,i,v,u⟩:=c;rw[e]at b;simp only[wa,AV.lp.injEq]at b;obtain⟨_,⟨_,_,_,_,_,rfl⟩,_⟩:=b;exact⟨n,nt,ps,as,C,tm,r,s,B,e,j,p,x,f,i,λt=>(v0 t).cut (v t) hi,u⟩
def Kb.cut(c0:Kb M ι w l k)(c:Kb M' A w' l k)(hi : ∀q l,ι q=some l->A q=some l):Kb M' ι w' l k:=by
 obtain⟨m,d,_,_,p,_,L,v0⟩:=c0;obtain⟨h,entries,G,K,e,B,s,v⟩:=c;rw[e]at p;simp only[wa,iQs]at p;subst p;refine⟨h,entries,G,K,e,B,s,λi f z b j=>?_⟩;obtain⟨x,F,t,u,y,D⟩:=v i f z b j;have J:=(dB.1 b).1;obtain⟨H,C,n,_,I,_⟩:=v0 i f _ b (iG (by omega));rw[t]at n;simp only[AV.tup.injEq,wa]at n;obtain⟨_,rfl,_⟩:=n;exact⟨x,F,t,u,I.cut y hi,D⟩
def E9.cut(c0:E9 M ι w l k)(c:E9 M' A w' l k)(hi : ∀q l,ι q=some l->A q=some l):E9 M' ι w' l k:=by
 obtain⟨_,_,_,_,f,h,_,_,d,_,B,v0⟩:=c0;obtain⟨cap,s,r,j,buf,arr,p,y,e,m,n,v⟩:=c;rw[e]at d;simp only[wa,iQs]at d;obtain⟨_,_,rfl⟩:=d;refine⟨cap,s,r,j,buf,arr,p,y,e,m,n,λi x u b z=>?_⟩;have t:=(dB.1 b).1;exact(v0 i x _ b (iG (by omega))).cut (v i x u b z) hi
def mu.cut(c0:mu M ι w l k)(c:mu M' A w' l k)(hi : ∀q l,ι q=some l->A q=some l):mu M' ι w' l k:=by
 rcases c0 with c0 | c0 | c0<;>rcases c with c | c | c
 ·exact .inl (c0.cut c hi)
 ·obtain⟨_,_,_,_,_,_,_,_,_,b,_⟩:=c0;obtain⟨_,_,_,_,e,_⟩:=c;rw[e]at b;simp at b
 ·obtain⟨_,_,_,_,_,_,_,_,_,b,_⟩:=c0;obtain⟨_,_,_,_,_,_,_,_,e,_⟩:=c;rw[e]at b;simp at b
 ·obtain⟨_,_,_,_,_,_,_,_,_,b,_⟩:=c;obtain⟨_,_,_,_,e,_⟩:=c0;rw[e]at b;simp at b
 ·exact .inr (.inl (c0.cut c hi))
 ·obtain⟨_,_,_,_,b,_⟩:=c0;obtain⟨_,_,_,_,_,_,_,_,e,_⟩:=c;rw[e]at b;simp at b
 ·obtain⟨_,_,_,_,_,_,_,_,_,b,_⟩:=c;obtain⟨_,_,_,_,_,_,_,_,e,_⟩:=c0;rw[e]at b;simp at b
 ·obtain⟨_,_,_,_,b,_⟩:=c;obtain⟨_,_,_,_,_,_,_,_,e,_⟩:=c0;rw[e]at b;simp at b
 exact .inr (.inr (c0.cut c hi))
def nH.cut(c0:nH M ι w l k)(c:nH M' A w' l k)(hi : ∀q l,ι q=some l->A q=some l):nH M' ι w' l k:=
 ⟨c.esz,λh=>(c0.cellsOk h).cut (c.cellsOk h) hi,λh=>(c0.objOk h).cut (c.objOk h) hi,c.frozen⟩
def Oi{H H':ab}(j:fk M ι H.get w)(C:p8 ι H){y:AV}{v:Value}(s:flat depth y=true)(x : ∀q k,H.get q=some k->H'.get q=some k)(h:mZ M ι H w y H' v w'):mZ M ι H w y H v w':=by
 obtain⟨B,t,n,c,b,u⟩:=h;refine⟨B,ι,AF depth y v s n,⟨c.mem,λq k f=>?_,j.inj⟩,⟨b.os,b.tape,b.output,b.size,b.chg,b.mem,λ_ _ h=>h,λq k l m z => .inr ⟨q,k,l,m,z,rfl⟩,b.new⟩,C⟩;obtain⟨l,i,p⟩:=j.live q k f;obtain⟨D,d,e⟩:=c.live q k (x q k f);have:=b.map q l i;rw[this]at d;cases d;exact⟨l,i,p.cut e b.map⟩
def Im{u v:Value}(h:Mq u v=true):u=v:=by
 unfold Mq at h;split at h;·simp at h;rw[h]
 ·simp at h;rw[h.1,h.2]
 ·simp at h;rw[h]
 ·simp only[bD]at h;rw[iS h.1,iS h.2]
 ·rfl
 ·rfl
 cases h
def pa{f:AV->AV->Bool}(d : ∀x y,f x y=true->x=y) : ∀(b ys:List AV),b.length=ys.length->((b.zip ys).all λp=>f p.1 p.2)=true->b=ys:=by
 intro b;induction b with
 | nil=>intro ys h _;exact(we h.symm).symm
 | cons x b e=>
  intro ys h c;cases ys with
  | nil=>simp at h
  | cons y ys=>simp only[Kj,uU,bD]at c;rw[d x y c.1,e ys (by simpa using h) c.2]
def xn{r r':Ref}(h:D8 r r'=true):r=r':=by
 unfold D8 at h;simp only[bD]at h;cases r;cases r';simp only[Ref.mk.injEq];exact⟨iS h.1.2,iS h.1.1.1,iS h.1.1.2,iS h.2⟩
def Sh : ∀(n:Nat)(x y:AV),yO n x y=true->x=y:=by
 intro n;induction n with
 | zero=>intro x y h;simp[yO]at h
 | succ n b=>
  intro x y h;unfold yO at h;split at h;·rw[Im h]
  ·simp only[bD]at h;rw[pa b _ _ (iS h.1) h.2]
  ·simp only[bD]at h;rw[pa b _ _ (iS h.1) h.2]
  ·simp only[bD,iQb]at h;rw[pa b _ _ (iS h.1.2) h.2,iS h.1.1.1,h.1.1.2]
  ·simp only[bD,iQb]at h;rw[xn h.1.1.1,iS h.1.1.2,iS h.1.2,h.2]
  ·simp only[bD,iQb]at h;rw[xn h.1.1.1,iS h.1.1.2,iS h.1.2,h.2]
  ·simp only[bD]at h;rw[xn h.1.1,iS h.1.2,iS h.2]
  ·rw[xn h]
  ·rw[xn h]
  ·simp only[bD]at h;rw[iS h.1.1,pa b _ _ (iS h.1.2.1) h.1.2.2,pa b _ _ (iS h.2.1) h.2.2]
  ·simp only[bD]at h;rw[iS h.1,b _ _ h.2]
  cases h
def LY{k k':aP}(h:HN k k'=true):k=k':=by
 unfold HN at h;simp only[bD,iQk]at h;cases k;cases k';simp only[aP.mk.injEq];exact⟨iS h.1.1.1.1,pa (Sh 8) _ _ (iS h.1.2) h.2,h.1.1.1.2,h.1.1.2⟩
def get_mem : ∀(H:ab)(q:Ref)(k:aP),H.get q=some k ->∃b,(q,b)∈H:=by
 intro H;induction H with
 | nil=>intro q k h;cases h
 | cons p H f=>
  obtain⟨r,b⟩:=p;intro q k h;simp only[ab.get]at h;split at h;·rename_i e;subst e;exact⟨b,im ..⟩
  obtain⟨d,c⟩:=f q k h;exact⟨d,iR _ c⟩
def Jt{H H':ab}(h:EB H H'=true)(q:Ref)(k:aP)(d:H.get q=some k):H'.get q=some k:=by
 obtain⟨b,e⟩:=get_mem H q k d;have:=eC.1 h _ e;simp only[d]at this;split at this;·cases this
 rename_i k' c;rw[c,LY this]
def Ig{b:Bool}{sm:J7}{H H':ab}{c:bU}{y:AV}(h:pv b sm H c=some (y,H')):c=some (y,H') \/∃d,H'=H/\c=some (y,d)/\flat depth y=true /\∀q k,H.get q=some k->d.get q=some k:=by
 unfold pv at h;split at h;·rename_i f d;obtain⟨e,h⟩:=dH.1 h;cases h;exact .inr ⟨d,rfl,rfl,(re.1 e).1,(Dp.1 (re.1 e).2).elim Jt (sm.ok _ _)⟩
 exact .inl h
end
end
section
def rF(l:List AV)(d t:Nat)(x:AV):dc (zV l d x) t=if t=d then x else dc l t:=by
 induction l generalizing d t with
 | nil=>
  induction d generalizing t with| zero=>cases t<;>simp[zV,dc]| succ d b=>
   cases t with
   | zero=>simp[zV,dc]
   | succ t=>simp[zV,dc,b]
 | cons y l b=>
  cases d with| zero=>cases t<;>simp[zV,dc]| succ d=>
   cases t with
   | zero=>simp[zV,dc]
   | succ t=>simp[zV,dc,b]
def TR.put{M ι tm a}(e:TR M ι tm a){nt:Nat}(c:a.tmps.size=nt){dst:Option Tmp}{x:AV}{tm':List AV}(h:cG nt tm dst x=some tm'){u:Value}(f:VR M ι x u) :
 TR M ι tm' (a.put dst u)/\(a.put dst u).tmps.size=nt:=by
 unfold cG at h;split at h
 ·injection h with h
  subst h;exact⟨e,c⟩
 rename_i d;obtain⟨i,h⟩:=dH.1 h;injection h with h
 subst h;refine⟨⟨?_⟩,by simp[Act.put,c]⟩;intro t;rw[rF];simp only[Act.put,zN];by_cases b:t=d;·subst b;rw[if_pos rfl,Db (by rw[c];exact i)];exact f
 rw[if_neg b,yx (pF b),<-zN];exact e.at_ t
def iq{M ι tm a}(u:TR M ι tm a){ops:Array Oper}{o:Oper}{b:Bool}(h:wanted ops tm o=some b):Region.wanted o (yielded ops a.tmps)=b:=by
 unfold wanted at h;unfold Region.wanted;split at h
 ·rename_i p;injection h with h
  subst h;rw[p]
 rename_i j e p;rw[p];simp only;split at h
 ·rename_i t f;have d:=u.at_ t;rw[zN]at d;split at h
  ·rename_i c m;injection h with h
   subst h;rw[m]at d;have:a.tmps[t]?=some (.bool c):=by
    cases i:a.tmps[t]? with| none=>rw[i]at d;cases d| some v=>rw[i]at d;simp only[dP]at d;cases d;rfl
   simp only[yielded,f,cR,this];cases c<;>cases e<;>rfl
  ·rename_i s m;rw[m]at d;obtain⟨q,h⟩:=dH.1 h;injection h with h
   subst h;have n:s = #[]:=by simpa using q
   subst n;have:yielded ops a.tmps j=none:=by
    simp only[yielded,f,cR];cases i:a.tmps[t]? with
    | none=>rfl
    | some v=>rw[i]at d;simp only[dP]at d;cases d;rfl
   rw[this];rfl
  cases h
 rename_i f;injection h with h
 subst h;simp only[yielded,f,Dl];rfl
section
variable{E:Env}{M:Mem}{ι:Map}{g:cb}{w:World}{r:Ref}{a:Act}{tm:List AV}{o:Oper}
def oZ{x:Option AV}{y:AV}{bs:List aP}(h:ik x=some (y,bs)):x=some y/\bs=[]:=by
 simp only[ik,bA]at h;obtain⟨z,c,h⟩:=h;injection h with b d
 exact⟨by rw[c,b],d.symm⟩
def dF.same{s:Sem Value}(d:fk M ι g w)(f : ∀b,b=a.eval->execOp b o=(do pure (Next.value (<-s)))){x:AV}{bs:List aP}(h:bs=[] /\∃u,s.run E.P w = .ok u w/\VR M ι x u) :
 dF E.P o a w λu w'=>ij M ι g w r x bs u w':=by
 obtain⟨rfl,u,e,c⟩:=h;exact dF.of_run (by rw[f a.eval rfl];exact D6 e) (ij.same d c)
def dF.made{s:Sem Value}(e : ∀b,b=a.eval->execOp b o=(do pure (Next.value (<-s)))){x:AV}{bs:List aP}(h : ∃u w',s.run E.P w = .ok u w'/\ij M ι g w r x bs u w') :
 dF E.P o a w λu w'=>ij M ι g w r x bs u w':=by
 obtain⟨u,w',d,c⟩:=h;exact dF.of_run (by rw[e a.eval rfl];exact D6 d) c
def oC(ps:Array (Nat × Operand))(b:Operand->Value):(ps.map λ(p:Nat × Operand)=>(p.1,b p.2)).toList=ps.toList.map λp=>(p.1,b p.2):=by simp
def Hv{b:Type}{l:List b}(h:l.length=1) : ∃a,l=[a]:=Kr.1 h
def vH{c:Type}{l:List c}(h:l.length=2) : ∃a b,l=[a,b]:=by
 match l,h with
 | [a,b],_=>exact⟨a,b,rfl⟩
def dF.mono{P:Program}{Q b:Value->World->Prop}(h:dF P o a w Q)(e : ∀u w',Q u w'->b u w'):dF P o a w b:=
 λro K R c=>h ro K R λu w' d=>c u w' (e u w' d)
def eo.fI{l:Loc}{k:aP}(h:eo M ι w l k):eo M ι w l { k with fI:=true} :=
 ⟨h.esz,h.heap,h.len,h.cells,λo x b=>⟨rfl,(h.frozen o x b).2⟩⟩
def nH.fI{l:Loc}{k:aP}(h:nH M ι w l k):nH M ι w l { k with fI:=true} :=
 ⟨h.esz,λb=>(h.cellsOk b).fI,λb=>(h.objOk b).same rfl rfl rfl,λo x c=>⟨rfl,(h.frozen o x c).2⟩⟩
def AT{bs:List aP}{q:Ref}{c:aP}(h:pX g r (bs.map λk => { k with fI:=true}) q=some c) : ∃b,pX g r bs q=some b/\(c=b\/c = { b with fI:=true}):=by
 unfold pX at h ⊢;simp only[GA]at h;split at h;·rename_i d;rw[if_pos d];simp only[lJ,bA]at h;obtain⟨b,f,e⟩:=h;exact⟨b,f,.inr e.symm⟩
 rename_i d;rw[if_neg d];exact⟨c,h,.inl rfl⟩
def ij.LK{x:AV}{bs:List aP}{b:Bool}{u:Value}{w':World}(h:ij M ι g w r x bs u w'):ij M ι g w r x (Ab.LK b bs) u w':=by
 cases b with| false=>exact h| true=>
  obtain⟨M',A,D,s,c,C⟩:=h;refine⟨M',A,D,⟨s.mem,λq k p=>?_,λq z k k' l H m j B G v=>?_⟩,⟨c.os,c.tape,c.output,c.size,c.chg,c.mem,c.map,λq k l m j=>?_,c.new⟩,λq p F=>C q p λk n=>F k (by simpa [Ab.LK] using n)⟩
  ·obtain⟨b,y,e⟩:=AT p;obtain⟨l,t,f⟩:=s.live q b y;rcases e with rfl | rfl
   ·exact⟨l,t,f⟩
   exact⟨l,t,f.fI⟩
  ·obtain⟨b1,d,_⟩:=AT m;obtain⟨b2,i,_⟩:=AT j;exact s.inj q z b1 b2 l H d i B G v
  obtain⟨b1,d,_⟩:=AT m;exact c.live q b1 l d j
def vV(P:Program)(f:FuncId)(t:TypeId):Prop:=
 ∃fn tR,P.funcs[f]?=some fn/\(fn.name == "runtime.NumGoroutine")=false/\fn.body.isNone=true/\Extern.findNext fn=none/\Extern.find fn=some (Extern.SlicesOverlaps.overlaps #[t,t] #[tR])
def uD(B:fk M ι g w)(C:TR M ι tm a)(hr:r.k=0)(hq : ∀k,ι { r with k:=k}=none){pc:FuncId->List AV->Option AV}(hpc : ∀f xs y,pc f xs=some y->iz E.P f xs y)
 {Y:Bool} (hov:Y=false ->∀f t,E.o1 f=some t->vV E.P f t) {x:AV} {bs:List aP} (h:ca E pc Y g tm r o=some (x,bs)):dF E.P o a w λu w'=>ij M ι g w r x bs u w':=by
 have R:ι r=none:=by have:=hq 0;rwa [show({ r with k:=0}:Ref)=r by cases r;simp_all]at this
 unfold ca at h;split at h;·rename_i y d;obtain⟨q,rfl⟩:=oZ h;exact dF.of_run (u:=a.eval y) (w':=w) (by simp[execOp,d]) (ij.same B (aG C q))
 ·rename_i y d;obtain⟨q,rfl⟩:=oZ h;exact dF.of_run (u:=a.eval y) (w':=w) (by simp[execOp,d]) (ij.same B (aG C q))
 ·rename_i c y z d;obtain⟨rfl,u,F,I⟩:=QN (P:=E.P) (w:=w) C h;refine dF.of_run (u:=u) (w':=w) ?_ (ij.same B I);simp only[execOp,d];simp only[iQe]at F ⊢;cases X:(asBool (a.eval c)).run E.P w with
  | ok b w1=>
   rw[X]at F;simp only[iQc,iQg]at F ⊢;injection F with K L
   rw[K,L]
  | halt hh w1=>rw[X]at F;cases F
 ·rename_i e d;exact dF.made (λQ m=>by simp only[execOp,d]) (Ow B hr R h)
 ·rename_i e y d;cases q:ar tm y with
  | none=>rw[q]at h;simp[Fp]at h
  | some U=>rw[q]at h;exact dF.made (λQ m=>by simp only[execOp,d,m]) (TY B hr R (aG C q) h)
 ·rename_i t ps d;cases I:fw tm ps.toList with
  | none=>rw[I]at h;simp only[lz]at h;split at h<;>first | cases h | (rename_i K L;cases L)
  | some vs=>
   rw[I]at h;obtain⟨K,L⟩:=o7 (ι:=ι) C I;refine dF.same B (s:=Instr.build t (ps.map λ(p:Nat × Operand)=>(p.1,a.eval p.2))) (λQ m=>by simp only[execOp,d,m]) (Ov ?_ ?_ h);·rw[oC];exact K
   rw[oC];exact L
 ·rename_i t n ps d;cases I:fw tm ps.toList with
  | none=>rw[I]at h;simp[gw]at h
  | some vs=>
   rw[I]at h;obtain⟨K,L⟩:=o7 (ι:=ι) C I;refine dF.made (s:=Instr.buildSlice t n (ps.map λ(p:Nat × Operand)=>(p.1,a.eval p.2))) (λQ m=>by simp only[execOp,d,m]) (Eh B hr R h ?_ ?_);·rw[oC];exact K
   rw[oC];exact L
 ·rename_i t y d;cases q:ar tm y with
  | none=>rw[q]at h;simp[mP]at h
  | some U=>rw[q]at h;exact dF.same B (λQ m=>by simp only[execOp,d,m]) (QR B (aG C q) h)
 ·rename_i y d;unfold Bx at h;split at h
  ·rename_i r' i j q;injection h with h;injection h with K L;subst K;subst L
   have I:=aG C q;refine dF.of_run (u:=a.eval y) (w':=w) ?_ (ij.same B I);generalize hu:a.eval y=u at I;cases I;simp[execOp,d,hu]
  ·rename_i n es i j q;injection h with h;injection h with K L;subst K;subst L
   have I:=aG C q;refine dF.of_run (u:=a.eval y) (w':=w) ?_ (ij.same B I);generalize hu:a.eval y=u at I;cases I;simp[execOp,d,hu]
  ·rename_i f b c q;injection h with h;injection h with K L;subst K;subst L
   have I:=aG C q;refine dF.of_run (u:=a.eval y) (w':=w) ?_ (ij.same B I);generalize hu:a.eval y=u at I;cases I;simp[execOp,d,hu]
  cases h
 ·rename_i op t xo yo ty d;cases hx:ar tm xo with
  | none=>rw[hx]at h;simp[bE]at h
  | some x'=>
   cases q:ar tm yo with| none=>rw[hx,q]at h;simp[bE]at h| some U=>rw[hx,q]at h;exact dF.same B (λQ m=>by simp only[execOp,d,m]) (TZ (aG C hx) (aG C q) h)
 ·rename_i op t y d;cases q:ar tm y with
  | none=>rw[q]at h;simp[Vm,ik]at h
  | some U=>rw[q]at h;exact dF.same B (λQ m=>by simp only[execOp,d,m]) (Wz (aG C q) h)
 ·rename_i src dst y d;cases q:ar tm y with
  | none=>rw[q]at h;simp[bM]at h
  | some U=>rw[q]at h;exact dF.made (λQ m=>by simp only[execOp,d,m]) (I0 B hr R (aG C q) h)
 ·rename_i t y d;cases q:ar tm y with
  | none=>rw[q]at h;simp only[vq]at h;split at h<;>simp at h
  | some U=>rw[q]at h;exact dF.same B (λQ m=>by simp only[execOp,d,m]) (Ot (aG C q) h)
 ·rename_i f first captured d
  cases K:first.toList.mapM (ar tm) with| none=>rw[K]at h;simp[wy]at h| some xs=>
   cases L:captured.toList.mapM (ar tm) with
   | none=>rw[K,L]at h;simp[wy]at h
   | some ys=>
    rw[K,L]at h;obtain⟨rfl,I⟩:=QU (kI C K) (kI C L) h;refine dF.of_run (u := .func f (first.map a.eval) (captured.map a.eval)) (w':=w) (by simp[execOp,d,Instr.makeFunc]) (ij.same B ?_);have e1 : ∀l:Array Operand,(l.toList.map a.eval).toArray=l.map a.eval:=λl=>by apply Dd;simp
    rw[e1,e1]at I;exact I
 ·rename_i t l c d;cases hl:ar tm l with
  | none=>rw[hl]at h;simp only[wu,Dl]at h;split at h<;>first | cases h | (rename_i K L Z;cases L)
  | some l'=>
   cases X:ar tm c with
   | none=>rw[hl,X]at h;simp only[wu,Dl]at h;split at h<;>first | cases h | (rename_i K L Z;cases Z)
   | some c'=>rw[hl,X]at h;exact dF.made (λQ m=>by simp only[execOp,d,m]) (QP B hr R (aG C hl) (aG C X) h)
 ·rename_i t d;cases h;exact dF.made (s:=Instr.makeMap t none) (λQ m=>by simp only[execOp,d,xf]) (IX B hr R t)
 ·rename_i t y z ok d;cases q:ar tm y with
  | none=>rw[q]at h;simp only[jQ]at h;split at h<;>simp_all
  | some U=>
   cases V:ar tm z with| none=>rw[q,V]at h;simp only[jQ,Dl]at h;split at h<;>simp_all| some z'=>rw[q,V]at h;exact dF.same B (λQ m=>by simp only[execOp,d,m]) (K6 B (aG C q) (aG C V) h)
 ·rename_i t y lo hi mx d;cases hwd:(E.wide o && !Y) with
  | true=>
   rw[hwd]at h;simp only[iQn]at h;cases q:ar tm y with
   | none=>rw[q]at h;unfold sL at h;split at h<;>simp_all
   | some U=>
    cases K:ky tm lo with| none=>rw[K]at h;simp[sL]at h| some lo'=>
     cases L:ky tm hi with
     | none=>rw[L]at h;unfold sL at h;split at h<;>simp_all
     | some hi'=>
      cases Z:ky tm mx with
      | none=>rw[Z]at h;unfold sL at h;split at h<;>simp_all
      | some mx'=>rw[q,K,L,Z]at h;exact dF.same B (λQ m=>by simp only[execOp,d,m]) (K5 B (aG C q) (rI C K) (rI C L) (rI C Z) h)
  | false=>
  rw[hwd]at h;simp only[iQp]at h;cases q:ar tm y with
  | none=>rw[q]at h;simp only[dm]at h;split at h<;>simp at h
  | some U=>
   rw[q]at h;cases K:ky tm lo with
   | none=>rw[K]at h;simp[dm]at h
   | some lo'=>
    cases L:ky tm hi with| none=>rw[K,L]at h;simp[dm]at h| some hi'=>
     cases Z:ky tm mx with
     | none=>rw[K,L,Z]at h;simp[dm]at h
     | some mx'=>rw[K,L,Z]at h;exact dF.same B (λQ m=>by simp only[execOp,d,m]) (Oo B (aG C q) (rI C K) (rI C L) (rI C Z) h)
 ·rename_i t y f d;cases q:ar tm y with
  | none=>rw[q]at h;simp only[iy]at h;split at h<;>(try split at h)<;>simp_all
  | some U=>rw[q]at h;exact dF.same B (λQ m=>by simp only[execOp,d,m]) (Fo (aG C q) h)
 ·rename_i t y f d;cases q:ar tm y with
  | none=>rw[q]at h;simp only[qN]at h;split at h<;>simp_all
  | some U=>rw[q]at h;exact dF.same B (λQ m=>by simp only[execOp,d,m]) (Ou (aG C q) h)
 ·rename_i t y z d;cases q:ar tm y with
  | none=>rw[q]at h;simp only[bI]at h;(repeat' split at h)<;>simp_all
  | some U=>
   cases V:ar tm z with| none=>rw[q,V]at h;simp[bI]at h| some z'=>rw[q,V]at h;exact dF.same B (λQ m=>by simp only[execOp,d,m]) (Fm B (aG C q) (aG C V) h)
 ·rename_i t y z d;cases q:ar tm y with
  | none=>rw[q]at h;simp only[tk]at h;split at h<;>simp_all
  | some U=>
   cases V:ar tm z with| none=>rw[q,V]at h;simp only[tk,Dl]at h;(repeat' split at h)<;>simp_all| some z'=>rw[q,V]at h;exact dF.same B (λQ m=>by simp only[execOp,d,m]) (Oq (aG C q) (aG C V) h)
 ·rename_i y st want ok d;cases q:ar tm y with
  | none=>rw[q]at h;simp only[yc]at h;split at h<;>simp_all
  | some U=>rw[q]at h;exact dF.same B (λQ m=>by simp only[execOp,d,m]) (Lb (st:=st) (aG C q) h)
 ·rename_i y i d;cases q:ar tm y with
  | none=>rw[q]at h;simp[qy]at h
  | some U=>rw[q]at h;exact dF.same B (λQ m=>by simp only[execOp,d,m]) (IZ (aG C q) h)
 ·rename_i c d;split at h;·cases h
  rename_i args S;split at h
  ·rename_i fo X;split at h
   ·rename_i t T;unfold Ck at T;split at T
    ·rename_i fi;obtain⟨fn,tR,f1,f2,f3,f4,f5⟩:=hov rfl fi t T;have H:=kI C S;obtain⟨rfl,rfl,J⟩:=QO (P:=E.P) (tR:=tR) B H h;have G:(c.args.toList.map a.eval).toArray=c.args.map a.eval:=by apply Dd;simp
     rw[G]at J;have hex:(execOp a.eval o).run E.P w = .ok (.value (.bool false)) w:=by
      have h0:=run_callFunc_extern f1 f2 f3 f4 f5 (c.args.map a.eval) w;rw[J]at h0;simp only[iQc]at h0;have e0:(#[]++c.args.map a.eval ++ #[]:Array Value)=c.args.map a.eval:=by simp
      simp[execOp,d,resolve,X,Act.eval,Deferred.ofValue,invoke,h0]
     exact dF.of_run hex (ij.same B (.v rfl))
    cases T
   obtain⟨⟨x0,bs0⟩,h0,e⟩:=bA.1 h;cases e;exact(QX B C hq hpc d X S h0).mono λu w'=>ij.LK
  ·cases h
  rename_i b X;have H:=kI C S;have J : ∀(s:Sem Value)(us:List Value),(c.args.map a.eval).toList=us->(∀D,builtin b c.argTypes o.type D us.toArray=(do pure (Next.value (<-s)))) ->
   ∀ {u w'},s.run E.P w = .ok u w'->(execOp a.eval o).run E.P w = .ok (.value u) w':=by
   intro s us W hb u w' hs;have e1:c.args.map a.eval=us.toArray:=by rw[<-W]
   simp only[execOp,d,resolve,X,invoke,iQe,iQg,iQc,e1,hb,hs]
  have G:(c.args.map a.eval).toList=c.args.toList.map a.eval:=(by simp);unfold dX at h;split at h;·rename_i r';obtain⟨u,N⟩:=Hv H.1.symm;rw[N]at H;have I:=H.2 0 (.mp r') u rfl rfl;obtain⟨rfl,u',F,O⟩:=K7 (ty:=o.type) B I (Kx.1 h).2;exact dF.of_run (J _ [u] (by rw[G,N]) (λD=>rfl) F) (ij.same B O)
  ·rename_i y hnm;obtain⟨u,N⟩:=Hv H.1.symm;rw[N]at H;have I:=H.2 0 y u rfl rfl;obtain⟨rfl,u',F,O⟩:=TV (P:=E.P) (w:=w) (ty:=o.type) I h;exact dF.of_run (J _ [u] (by rw[G,N]) (λD=>rfl) F) (ij.same B O)
  ·obtain⟨hm,rfl⟩:=oZ h;obtain⟨u,us,W,u',F,O⟩:=F3 (w:=w) H hm;exact dF.of_run (J (us.foldlM Builtin.min2 u) (u :: us) (by rw[G,W]) (λD=>rfl) F) (ij.same B O)
  ·obtain⟨hm,rfl⟩:=oZ h;obtain⟨u,us,W,u',F,O⟩:=F3 (w:=w) H hm;exact dF.of_run (J (us.foldlM Builtin.max2 u) (u :: us) (by rw[G,W]) (λD=>rfl) F) (ij.same B O)
  ·rename_i y z;obtain⟨u,v,N⟩:=vH H.1.symm;rw[N]at H;obtain⟨u',w',F,O⟩:=Ej (P:=E.P) (ty:=o.type) B hr R (H.2 0 y u rfl rfl) (H.2 1 z v rfl rfl) h;exact dF.of_run (J _ [u,v] (by rw[G,N]) (λD=>rfl) F) O
  ·rename_i y;obtain⟨u,N⟩:=Hv H.1.symm;rw[N]at H;have I:=H.2 0 y u rfl rfl;obtain⟨rfl,u',F,O⟩:=TX (P:=E.P) (w:=w) (ty:=o.type) I h;exact dF.of_run (J _ [u] (by rw[G,N]) (λD=>rfl) F) (ij.same B O)
  cases h
 cases h
def Mp{H:ab}(p:fk M ι H.get w)(j:p8 ι H)(f:TR M ι tm a){t:TypeId}{m k y:Operand}{x:AV}{H':ab}
 (n : ∀c:Operand->Value,execOp c o=(do Instr.mapUpdate t (c m) (c k) (c y);pure Next.skip))
 (h:gN E.P H t (ar tm m) (ar tm k) (ar tm y)=some (x,H')):dF E.P o a w λu w'=>mZ M ι H w x H' u w':=by
 cases hm:ar tm m with| none=>rw[hm]at h;simp only[gN]at h;split at h<;>simp_all| some s=>
  cases d:ar tm k with
  | none=>rw[hm,d]at h;simp only[gN]at h;split at h<;>simp_all
  | some k'=>
   cases e:ar tm y with
   | none=>rw[hm,d,e]at h;simp only[gN]at h;split at h<;>simp_all
   | some q=>rw[hm,d,e]at h;obtain⟨w',i,b⟩:=Fc (P:=E.P) p j (aG f hm) (aG f d) (aG f e) h;exact dF.CU (by simp[n,i]) b
def RX{H:ab}{d tt:Nat}(J:fk M ι H.get w)(G:p8 ι H)(F:TR M ι tm a){pc:FuncId->List AV->Option AV}(V : ∀f W y,pc f W=some y->iz E.P f W y)
 {tc:qJ->List AV->ab->bU} (Y : ∀f W H y H',tc f W H=some (y,H')->kU E.P f W H y H') {x:AV} {H':ab}
 (R:Nn o.op=false) (h:evalW E pc tc H tm ⟨d,tt,H.gen d tt,0⟩ o=some (x,H')):dF E.P o a w λu w'=>mZ M ι H w x H' u w':=by
 unfold evalW at h;split at h
 ·rename_i t y z i;cases S:ar tm y with
  | none=>rw[S]at h;simp[iu]at h
  | some y'=>
   cases hz:ar tm z with| none=>rw[S,hz]at h;simp only[iu]at h;(repeat' split at h)<;>simp_all| some z'=>rw[S,hz]at h;obtain⟨w',Q,j⟩:=NL (P:=E.P) J G (aG F S) (aG F hz) h;exact dF.CU (by simp[execOp,i,Q]) j
 ·rename_i t m k y i;exact Mp J G F (λρ=>by simp[execOp,i]) h
 ·rename_i t m k y i;exact Mp J G F (λρ=>by simp[execOp,i]) h
 ·rename_i t m k i;cases K:ar tm m with
  | none=>rw[K]at h;simp only[ou]at h;split at h<;>simp_all
  | some m'=>
   cases hk:ar tm k with| none=>rw[K,hk]at h;simp only[ou]at h;split at h<;>simp_all| some k'=>rw[K,hk]at h;obtain⟨u,w',Q,j⟩:=GU (P:=E.P) J G (aG F K) (aG F hk) h;exact dF.of_run (by simp only[execOp,i];exact D6 Q) j
 ·rename_i t m s y i;cases K:ar tm m with
  | none=>rw[K]at h;simp[jI]at h
  | some m'=>
   cases T:ar tm s with| none=>rw[K,T]at h;simp[jI]at h| some s'=>
    cases S:ar tm y with
    | none=>rw[K,T,S]at h;simp[jI]at h
    | some y'=>rw[K,T,S]at h;obtain⟨w',Q,j⟩:=Dy (P:=E.P) (t:=t) J G (aG F K) (aG F T) (aG F S) h;exact dF.CU (by simp[execOp,i,Q]) j
 ·rename_i t n ps i;cases U:fw tm ps.toList with
  | none=>rw[U]at h;simp[iT]at h
  | some vs=>rw[U]at h;obtain⟨h1,h2⟩:=o7 (ι:=ι) F U;obtain⟨u,w',Q,j⟩:=DD (P:=E.P) (qs:=ps.map λ(p:Nat × Operand)=>(p.1,a.eval p.2)) J G h (by rw[oC];exact h1) (by rw[oC];exact h2);exact dF.of_run (by simp only[execOp,i];exact D6 Q) j
 ·rename_i t n i;unfold xQ at h;split at h
  ·rename_i kd m b hn hb;obtain⟨⟨h0,h1,h2⟩,h⟩:=dH.1 h;cases h;obtain⟨e,ht,hbe⟩:=fH.1 hb;have U:=aG F hn;generalize hev:a.eval n=nv at U;cases U;obtain⟨u,w',Q,j⟩:=He (P:=E.P) J rfl (G.fresh d tt 0) ht hbe kd m.toNat (by omega) h2;have K:((m.toNat:Nat):Int)=m:=by omega
   rw[K]at Q;exact dF.of_run (by simp only[execOp,i,hev];exact D6 Q) (j.Yb G)
  cases h
 ·rename_i i;rw[i]at R;cases R
 ·rename_i i;rw[i]at R;cases R
 ·rename_i c i;split at h;·cases h
  rename_i args D;split at h
  ·rename_i fo Z;rcases Ig h with h | ⟨H1,rfl,h,hfl,B⟩
   ·exact Ij J G F V Y i Z D h
   exact(Ij J G F V Y i Z D h).mono λu w' hw=>Oi J G hfl B hw
  ·cases h
  rename_i b Z;have C:=kI F D;have N : ∀(s:Sem Value)(us:List Value),(c.args.map a.eval).toList=us->(∀q,builtin b c.argTypes o.type q us.toArray=(do pure (Next.value (<-s)))) ->
   ∀ {u w'},s.run E.P w = .ok u w'->(execOp a.eval o).run E.P w = .ok (.value u) w':=by
   intro s us hus hb u w' T;have e1:c.args.map a.eval=us.toArray:=by rw[<-hus]
   simp only[execOp,i,resolve,Z,invoke,iQe,iQg,iQc,e1,hb,T]
  have B:(c.args.map a.eval).toList=c.args.toList.map a.eval:=(by simp);split at h;·rename_i y z;obtain⟨u,v,I⟩:=vH C.1.symm;rw[I]at C;obtain⟨u',w',O,L⟩:=DF (P:=E.P) (ty:=o.type) J G (C.2 0 y u rfl rfl) (C.2 1 z v rfl rfl) h;exact dF.of_run (N _ [u,v] (by rw[B,I]) (λq=>rfl) O) L
  ·rename_i y z;obtain⟨u,v,I⟩:=vH C.1.symm;rw[I]at C;cases X:E.wide o with
   | true=>rw[X]at h;simp only[iQn]at h;obtain⟨u',w',O,L⟩:=NM (P:=E.P) (ty:=o.type) J G (C.2 0 y u rfl rfl) (C.2 1 z v rfl rfl) h;exact dF.of_run (N _ [u,v] (by rw[B,I]) (λq=>rfl) O) L
   | false=>
   rw[X]at h;simp only[iQp]at h;obtain⟨u',w',O,L⟩:=PM (P:=E.P) (ty:=o.type) J G (C.2 0 y u rfl rfl) (C.2 1 z v rfl rfl) h;exact dF.of_run (N _ [u,v] (by rw[B,I]) (λq=>rfl) O) L
  cases h
 cases h
structure vT (M:Mem) (ι:Map) (st:St) (nt:Nat) (a:Act) (w:World):Prop where
 sim:fk M ι st.hp.get w
 dom:p8 ι st.hp
 tr:TR M ι st.tm a
 nt:a.tmps.size=nt
def iP(M:Mem)(ι:Map)(st:St)(a:Act)(w:World)(nt:Nat)(b:St)(c:Act)(w':World):Prop:=
 (∃M' A,vT M' A b nt c w'/\qX M ι st.hp.get w M' A b.hp.get w')/\c.defers=a.defers
def iP.refl{st nt}(h:vT M ι st nt a w):iP M ι st a w nt st a w:=⟨⟨M,ι,h,qX.refl⟩,rfl⟩
def JR{H H':ab}{tm:List AV}{dep:Nat}{o:Oper}{x:AV}(F:fk M ι H.get w)(D:p8 ι H)(G:TR M ι tm a)(i:AH E o=true)(h:uI E H tm ⟨dep,o.dst.getD 0,H.gen dep (o.dst.getD 0),0⟩ o=some (x,H')) :
 dF E.P o a w λu w'=>mZ M ι H w x H' u w':=by
 replace i:=(re.1 i).2;unfold uI at h;split at h
 ·rename_i t n ps e;cases s:fw tm ps.toList with
  | none=>rw[s]at h;simp[oV]at h
  | some Q=>rw[s]at h;obtain⟨L,O⟩:=o7 (ι:=ι) G s;obtain⟨u,w',K,q⟩:=KB (P:=E.P) (qs:=ps.map λ(p:Nat × Operand)=>(p.1,a.eval p.2)) F D h (by rw[oC];exact L) (by rw[oC];exact O);exact dF.of_run (by simp only[execOp,e];exact D6 K) q
 ·rename_i c e;have N:c.callee = .builtin .append:=by
   rw[e]at i;unfold V2 at i;simp only at i;split at i;·assumption
   cases i
  split at h
  ·rename_i y z f;have d:=kI G f;have j:(c.args.map a.eval).toList=c.args.toList.map a.eval:=by simp
   obtain⟨u,v,m⟩:=vH d.1.symm;rw[m]at d;obtain⟨R,w',B,C⟩:=PN (P:=E.P) (ty:=o.type) F D (d.2 0 y u rfl rfl) (d.2 1 z v rfl rfl) h;refine dF.of_run ?_ C;have J:c.args.map a.eval=[u,v].toArray:=by rw[<-m,<-j]
   have I : ∀b,builtin .append c.argTypes o.type b [u,v].toArray=(do pure (Next.value (<-Builtin.append_ c.argTypes o.type #[u,v]))):=λb=>rfl;simp only[execOp,e,resolve,N,invoke,iQe,iQg,iQc,J,I,B]
  cases h
 cases h
def BL{st n:St}{nt dep:Nat}{d:Bool}{ops:Array Oper}(b:vT M ι st nt a w){pc:FuncId->List AV->Option AV}(s : ∀f q y,pc f q=some y->iz E.P f q y)
 {tc:qJ->List AV->ab->bU} (J : ∀f q H y H',tc f q H=some (y,H')->kU E.P f q H y H') (F:d=false ->∀f t,E.o1 f=some t->vV E.P f t) (I:d=true\/Nn o.op=false) (h:evalOp E pc tc nt dep d ops o st=some n)
 {ro:Option Nat} {K:Act->World->Prop} {Q:Exit->Act->World->Prop} (C : ∀N w',iP M ι st a w nt n N w'->K N w') :
 if Region.wanted o (yielded ops a.tmps) then o.wpIn (FW ro) 0 E.P a w K Q else K (a.put o.dst undef) w:=by
 unfold evalOp at h;split at h;·cases h
 ·rename_i D;rw[iq b.tr D];simp only[bA]at h;obtain⟨tm',c,rfl⟩:=h;obtain⟨G,L⟩:=b.tr.put b.nt c (u:=undef) (.v rfl);simp only[hU,iQf];exact C _ _ ⟨⟨M,ι,⟨b.sim,b.dom,G,L⟩,qX.refl⟩,put_defers _ _ _⟩
 rename_i D;rw[iq b.tr D];simp only[if_true];have i : ∀ {x:AV} {H':ab} {tm':List AV},dF E.P o a w (λu w'=>mZ M ι st.hp w x H' u w')->cG nt st.tm o.dst x=some tm'->n=⟨tm',H'⟩->o.wpIn (FW ro) 0 E.P a w K Q:=by
  intro x H' tm' p c R;subst R;refine p ro K Q λu w' ⟨M',A,G,L,h3,h4⟩=>C _ _ ?_;obtain⟨S,O⟩:=(b.tr.mono h3.mem h3.map).put b.nt c G;exact⟨⟨M',A,⟨L,h4,S,O⟩,h3⟩,put_defers _ _ _⟩
 split at h;·rename_i x bs e;simp only[bA]at h;obtain⟨tm',c,rfl⟩:=h;replace e:=Ct e;have:=uD (E:=E) (o:=o) b.sim b.tr rfl (λk=>b.dom.fresh dep (o.dst.getD 0) k) s F e;exact i (λro K Q C=>this ro K Q λu w' B=>C u w' (B.Yb b.dom)) c rfl
 split at h;·cases h
 rename_i z;split at h
 ·rename_i x H' e;simp only[bA]at h;obtain⟨tm',c,rfl⟩:=h;have m:Nn o.op=false:=by
   rcases I with rfl | m
   ·simp only[kX,jH,Bool.not_eq_false]at z;cases p:o.op<;>first | rfl | (simp[fQ,Wc,xK,p]at z)
   exact m
  unfold pU at e;cases j:(d&&AH E o) with
  | true=>rw[j]at e;exact i (JR b.sim b.dom b.tr (re.1 j).2 e) c rfl
  | false=>rw[j]at e;exact i (RX (E:=E) (o:=o) b.sim b.dom b.tr s J m e) c rfl
 cases h
end
end
section
section
variable{E:Env}{M:Mem}{ι:Map}{w:World}{a:Act}
def iP.trans{st c d:St}{nt:Nat}{j n:Act}{i m:World}(h:iP M ι st a w nt c j i)(u : ∀e b,vT e b c nt j i->iP e b c j i nt d n m):iP M ι st a w nt d n m:=by
 obtain⟨⟨e,b,v,x⟩,p⟩:=h;obtain⟨⟨M2,f,q,t⟩,s⟩:=u e b v;exact⟨⟨M2,f,q,x.trans t⟩,s.trans p⟩
def HA{o:Oper}{st p:St}{nt dep:Nat}{ops:Array Oper}{i:Nat}(d:vT M ι st nt a w){pc:FuncId->List AV->Option AV}(O : ∀f N y,pc f N=some y->iz E.P f N y)
 {tc:qJ->List AV->ab->bU} (X : ∀f N H y H',tc f N H=some (y,H')->kU E.P f N H y H') (R : ∀f t,E.o1 f=some t->vV E.P f t) (h:evalOp E pc tc nt dep false ops o st=some p) (I:ops[i]?=some o)
 (b:Frame) (rest:List Nat) (k:List Item) (cs:List Frame) :
 ∃q w',iP M ι st a w nt p q w'/\(b.kind = .normal->Steps E.P (lone (b.atR a (.inRegion ops (i :: rest) :: k)) cs w) (lone (b.atR q (.inRegion ops rest :: k)) cs w')):=by
 have F:Region.wanted o (yielded ops a.tmps)=false->Steps E.P (lone (b.atR a (.inRegion ops (i :: rest) :: k)) cs w) (lone (b.atR (a.put o.dst undef) (.inRegion ops rest :: k)) cs w):=by
  intro s;have Z:=stepR_op_skip (P:=E.P) (b:=b) (a:=a) (k:=k) (cs:=cs) (w:=w) (ops:=ops) (i:=i) (rest:=rest) (by simp[I,s]);simp only[I,cR]at Z;exact .one Z
 cases n:Nn o.op with
 | false=>
  have z:=BL (E:=E) (ro:=b.roundOf) (Q:=λ_ _ _=>False) d O X (λ_=>R) (.inr n) h (K:=λq w'=>iP M ι st a w nt p q w') λq w' h=>h;by_cases s:Region.wanted o (yielded ops a.tmps)=true;·rw[if_pos s]at z;obtain⟨q,w',G,C⟩:=MT I s b z rest k cs;exact⟨q,w',G,λ_=>C⟩
  rw[if_neg s]at z;exact⟨_,_,z,λ_=>F (by simpa using s)⟩
 | true=>
  unfold evalOp at h;split at h;·cases h
  ·rename_i s;have B:=iq d.tr s;simp only[bA]at h;obtain⟨tm',j,rfl⟩:=h;obtain⟨z,G⟩:=d.tr.put d.nt j (u:=undef) (.v rfl);exact⟨_,_,⟨⟨M,ι,⟨d.sim,d.dom,z,G⟩,qX.refl⟩,put_defers _ _ _⟩,λ_=>F B⟩
  rename_i s;have B:=iq d.tr s;have L : ∀ {x:AV} {H':ab} {tm':List AV},E8 E.P o a w (λu w'=>mZ M ι st.hp w x H' u w')->cG nt st.tm o.dst x=some tm'->p=⟨tm',H'⟩ ->
   ∃q w',iP M ι st a w nt p q w'/\(b.kind = .normal->Steps E.P (lone (b.atR a (.inRegion ops (i :: rest) :: k)) cs w) (lone (b.atR q (.inRegion ops rest :: k)) cs w')):=by
   intro x H' tm' e j he;subst he;by_cases Y:b.kind = .normal;·obtain⟨u,w',⟨M',A,z,G,C,S⟩,J⟩:=e b k cs ops i rest Y I B;obtain⟨W,U⟩:=(d.tr.mono C.mem C.map).put d.nt j z;exact⟨_,_,⟨⟨M',A,⟨G,S,W,U⟩,C⟩,put_defers _ _ _⟩,λ_ => .one J⟩
   obtain⟨u,w',⟨M',A,z,G,C,S⟩,J⟩:=e { b with kind := .normal} k cs ops i rest rfl I B;obtain⟨W,U⟩:=(d.tr.mono C.mem C.map).put d.nt j z;exact⟨_,_,⟨⟨M',A,⟨G,S,W,U⟩,C⟩,put_defers _ _ _⟩,λh=>absurd h Y⟩
  have T:ca E pc false st.hp.get st.tm ⟨dep,o.dst.getD 0,st.hp.gen dep (o.dst.getD 0),0⟩ o=none:=(by unfold ca;cases e:o.op<;>rw[e]at n<;>first | rfl | (cases n));simp only[qQ,pU,tO,iQp]at h;rw[T]at h;simp only[hU,iQf]at h;split at h
  ·rename_i x H' m;simp only[bA]at h;obtain⟨tm',j,rfl⟩:=h;unfold evalW at m;cases e:o.op<;>rw[e]at n m<;>try (cases n;done)
   ·rename_i c y;simp only at m;cases D:ar st.tm c with
    | none=>rw[D]at m;simp[Dw]at m
    | some c'=>
     cases V:ar st.tm y with| none=>rw[D,V]at m;simp[Dw]at m| some y'=>rw[D,V]at m;exact L (PK d.sim d.dom e (aG d.tr D) (aG d.tr V) m) j rfl
   rename_i t c okb;simp only at m;cases D:ar st.tm c with
   | none=>rw[D]at m;simp[FI]at m
   | some c'=>rw[D]at m;exact L (PL d.sim d.dom e (aG d.tr D) m) j rfl
  cases h
def R8{H H':ab}{tm:List AV}{dep:Nat}{o:Oper}{x:AV}(c:fk M ι H.get w)(e:p8 ι H)(d:TR M ι tm a)(h:Nl E false H tm ⟨dep,o.dst.getD 0,H.gen dep (o.dst.getD 0),0⟩ o=some (some (x,H'))) :
 dF E.P o a w λu w'=>mZ M ι H w x H' u w':=by
 unfold Nl at h;split at h;·cases h
 rename_i b;simp only[du]at h;exact JR c e d (by simpa using b) h
def JI{o:Oper}{st q:St}{nt dep:Nat}{ops:Array Oper}{i:Nat}(c:vT M ι st nt a w){pc:FuncId->List AV->Option AV}(D : ∀f m y,pc f m=some y->iz E.P f m y)
 {tc:qJ->List AV->ab->bU} (G : ∀f m H y H',tc f m H=some (y,H')->kU E.P f m H y H') (F : ∀f t,E.o1 f=some t->vV E.P f t) (h:wC E pc tc nt dep false ops o st=some q) (z:ops[i]?=some o)
 (b:Frame) (rest:List Nat) (k:List Item) (cs:List Frame) :
 ∃j w',iP M ι st a w nt q j w'/\(b.kind = .normal->Steps E.P (lone (b.atR a (.inRegion ops (i :: rest) :: k)) cs w) (lone (b.atR j (.inRegion ops rest :: k)) cs w')):=by
 unfold wC at h;split at h;·exact HA c D G F h z b rest k cs
 rename_i N B;split at h;·cases h
 ·rename_i C;have d:=iq c.tr C;simp only[bA]at h;obtain⟨tm',e,rfl⟩:=h;obtain⟨p,s⟩:=c.tr.put c.nt e (u:=undef) (.v rfl);refine⟨_,_,⟨⟨M,ι,⟨c.sim,c.dom,p,s⟩,qX.refl⟩,put_defers _ _ _⟩,λ_=>?_⟩;have J:=stepR_op_skip (P:=E.P) (b:=b) (a:=a) (k:=k) (cs:=cs) (w:=w) (ops:=ops) (i:=i) (rest:=rest) (by simp[z,d]);simp only[z,cR]at J;exact .one J
 rename_i C;have d:=iq c.tr C;split at h
 ·rename_i x H';simp only[bA]at h;obtain⟨tm',e,rfl⟩:=h;have I:=R8 c.sim c.dom c.tr B;have p:o.wpIn (FW b.roundOf) 0 E.P a w (λj w'=>iP M ι st a w nt ⟨tm',H'⟩ j w') (λ_ _ _=>False):=by
   refine I _ _ _ λu w' ⟨M',A,p,s,n,h4⟩=>?_;obtain⟨L,K⟩:=(c.tr.mono n.mem n.map).put c.nt e p;exact⟨⟨M',A,⟨s,h4,L,K⟩,n⟩,put_defers _ _ _⟩
  obtain⟨j,w',s,n⟩:=MT z d b p rest k cs;exact⟨j,w',s,λ_=>n⟩
 cases h
def G8{pc:FuncId->List AV->Option AV}(s : ∀f e y,pc f e=some y->iz E.P f e y)
 {tc:qJ->List AV->ab->bU} (v : ∀f e H y H',tc f e H=some (y,H')->kU E.P f e H y H') (u : ∀f t,E.o1 f=some t->vV E.P f t) {nt dep:Nat} {ops:Array Oper} {i:St} (b:Frame) (k:List Item) (cs:List Frame) :
 ∀(l c:List Oper)(st:St)(M:Mem)(ι:Map)(a:Act)(w:World),ops.toList=c++l->lU E pc tc nt dep false ops l st=some i->vT M ι st nt a w ->
  ∃F w',iP M ι st a w nt i F w'/\(b.kind = .normal->Steps E.P (lone (b.atR a (.inRegion ops (List.range' c.length l.length) :: k)) cs w) (lone (b.atR F (.inRegion ops [] :: k)) cs w')):=by
 intro l;induction l with
 | nil=>intro c st M ι a w _ h D;simp only[lU,du]at h;subst h;exact⟨a,w,iP.refl D,λ_=>Steps.refl _ _⟩
 | cons o l U=>
  intro c st M ι a w G h D;simp only[lU]at h;split at h
  ·rename_i j T;have K:ops[c.length]?=some o:=by
    rw[<-Da,G];simp
   obtain⟨R,O,d,B⟩:=JI D s v u T K b (List.range' (c.length+1) l.length) k cs;obtain⟨⟨V,n,q,C⟩,L⟩:=d;obtain⟨Q,N,⟨⟨M2,p,m,z⟩,S⟩,x⟩:=U (c++[o]) j V n R O (by simp[G]) h q;refine⟨Q,N,⟨⟨M2,p,m,C.trans z⟩,S.trans L⟩,λI=>?_⟩;have J:=x I;simp only[eS,lZ,oq,qZ]at J;rw[lZ,List.range'_succ];exact(B I).trans J
  cases h
def Ha{pc:FuncId->List AV->Option AV}(i : ∀f c y,pc f c=some y->iz E.P f c y)
 {tc:qJ->List AV->ab->bU} (m : ∀f c H y H',tc f c H=some (y,H')->kU E.P f c H y H') (j : ∀f t,E.o1 f=some t->vV E.P f t) {nt dep id:Nat} {ops:Array Oper} {st d:St} (b:Frame) (k:List Item) (cs:List Frame)
 (h:lU E pc tc nt dep false ops ops.toList st=some d) (q:vT M ι st nt a w) :
 ∃e w',iP M ι st a w nt d e w'/\(b.kind = .normal->Steps E.P (lone (b.atR a (.code (.region id ops false) :: k)) cs w) (lone (b.atR e k) cs w')):=by
 obtain⟨e,w',n,s⟩:=G8 i m j b k cs ops.toList [] st M ι a w rfl h q;refine⟨e,w',n,λp=>iQm (.one ?_) (iQm (s p) (.one stepR_region_end))⟩;have:=stepR_region (P:=E.P) (b:=b) (a:=a) (k:=k) (cs:=cs) (w:=w) (id:=id) (ops:=ops);simpa [Kn] using this
structure Env.Ok (E:Env) (ok:Array Oper->Bool):Prop where
 fns : ∀f,E.allowed f=true ->∃fn,E.P.funcs[f]?=some fn/\(fn.name == "runtime.NumGoroutine")=false /\∀c,fn.body=some c->codeOk ok c=true
 specs : ∀f args y,E.spec f args=some y->iz E.P f args y
 same:E.ok=ok
 overs : ∀f t,E.o1 f=some t->vV E.P f t
 thrs : ∀f args H y H',E.thrSpec f args H=some (y,H')->kU E.P (.fn f) args H y H'
 draws : ∀(ops:Array Oper),ok ops=true ->∀ {pc:FuncId->List AV->Option AV},(∀f xs y,pc f xs=some y->iz E.P f xs y) ->
  ∀ {tc:qJ->List AV->ab->bU},(∀f xs H y H',tc f xs H=some (y,H')->kU E.P f xs H y H') ->∀(nt dep id:Nat)(st st':St)(M:Mem)(ι:Map)(a:Act)(w:World)(ro:Option Nat)(Q:Exit->Act->World->Prop),
  lU E pc tc nt dep true ops ops.toList st=some st'->qo E ops st'=true->vT M ι st nt a w->(∀a' w',iP M ι st a w nt st' a' w'->Q .normal a' w')->(Code.region id ops true).wpIn (FW ro) 0 E.P Q a w
def Gd{ok:Array Oper->Bool}{id:Nat} : ∀ {k k':List Item},exitTo id k=some k'->(∀i∈k,mU ok i=true) ->∀i∈k',mU ok i=true:=by
 intro k;induction k with
 | nil=>intro k' h;simp[exitTo]at h
 | cons x k c=>
  intro k' h d;have b : ∀i∈k,mU ok i=true:=λi hi=>d i (iR _ hi);cases x with
  | inBlock e=>
   simp only[exitTo]at h;split at h;·injection h with h;subst h;exact b
   exact c h b
  | _=>exact c (by simpa [exitTo] using h) b
def Wm{P:Program}{ro:Option Nat}{m b:Machine}(h:StepsIn (Machine.fenced P (FW ro)) P m b):Steps P m b:=iQx h
def IC{P:Program}{c:Code}{a:Act}{w:World}{R:Act->World->Prop}(b:Frame)(h:c.wpIn (FW b.roundOf) 0 P (λe a w=>e = .normal/\R a w) a w)(k:List Item)(cs:List Frame) :
 ∃f w',R f w'/\Steps P (lone (b.atR a (.code c :: k)) cs w) (lone (b.atR f k) cs w'):=by
 obtain⟨e,f,w',⟨he,i⟩,d⟩:=h b k cs rfl trivial (λ_ h=>by simp[FW,Fence.wide]at h);subst he;exact⟨f,w',i,Wm d⟩
def Ry{H:ab}{r:Ref}{n:Nat}{b:AV}(h:vF H r=some (n,b)) : ∃st a f,H.get r=some ⟨0,[.v (.int .i64 st),b],a,f⟩/\st.toNat=n:=by
 unfold vF at h;split at h;·rename_i st c a f d;cases h;exact⟨st,a,f,d,rfl⟩
 cases h
structure SE (r r':Loop):Prop where
 tmps:r'.tmps=r.tmps
 params:r'.params=r.params
 assign:r'.assign=r.assign
 body:r'.body=r.body
def yi{H:ab}{r:Ref}{l:Loc}{n:Nat}{p:AV}(F:fk M ι H.get w)(hD:p8 ι H)(U:ι r=some l)(ha:vF H r=some (n,p)) :
 ∃nt ps assign body tm y,p = .lp 0 nt ps assign body tm/\w.heap[l.b]?=some (.loop y)/\y.params=ps.toArray/\y.assign=assign/\y.body=body/\y.tmps.size=nt/\(∀t,VR M ι (dc tm t) (y.tmps.getD t undef))/\zX n y /\
  (∀D c,SE y c->zX D c->fk M ι (H.put r (some (eu D p))).get (bP w l.b (.loop c))/\qX M ι H.get w M ι (H.put r (some (eu D p))).get (bP w l.b (.loop c))/\p8 ι (H.put r (some (eu D p)))) /\
  ∀c,fk M ι (H.put r none).get (bP w l.b (.loop c))/\qX M ι H.get w M ι (H.put r none).get (bP w l.b (.loop c))/\p8 ι (H.put r none):=by
 obtain⟨st,a,f,I,hst⟩:=Ry ha;obtain⟨l',Q,hb⟩:=F.live r _ I;rw[U]at Q;cases Q;rcases hb.objOk rfl with ⟨n0,nt,ps,as,bd,tm,y,X,Z,C,K,Y,h6,h7,h8,h9,h10⟩ | ⟨_,_,_,_,C,_⟩ | ⟨_,_,_,_,_,_,_,_,C,_⟩
 case inr.inl=>simp at C
 case inr.inr=>simp at C
 simp only[wa,AV.v.injEq,Value.int.injEq,iQs,iQr]at C;obtain⟨e1,e2⟩:=C;subst e2;have hn:n0=n:=by rw[<-hst,e1];simp
 subst hn;have hlt:l.b<w.heap.size:=(gv.1 K).1;have hM : ∀o x,M l.b o=some x->False:=by
  intro o x V;have:=F.mem _ _ _ V;simp[World.cell?,K]at this
 have hlz:l.esz=0:=hb.esz;have j : ∀c d,∀q k,(H.put r d).get q=some k->q≠r ->∃m,ι q=some m/\nH M ι (bP w l.b (.loop c)) m k:=by
  intro c d q k i z;rw[ab.get_put,if_neg z]at i;obtain⟨m,S,T⟩:=F.live q k i;have hnb:l.b≠m.b:=λe=>z (F.inj q r k _ m l i I S U e.symm);exact⟨m,S,T.bF (λ_ _ _ h=>h) (λ_ _ h=>h) (dW hnb) T.frozen⟩
 have B : ∀c,∀b o x,M b o=some x->(bP w l.b (.loop c)).cell? ⟨b,o,none⟩=some x:=by
  intro c b o x V;have z:l.b≠b:=λe=>hM o x (e ▸ V);rw[iQi (w:=w) (dW z)];exact F.mem b o x V
 have s : ∀(d:Option aP) q k,(H.put r d).get q=some k ->∃J,H.get q=some J:=by
  intro d q k i;rw[ab.get_put]at i;split at i;·rename_i e;exact⟨_,e ▸ I⟩
  exact⟨k,i⟩
 have N : ∀(d:Option aP) q G k k' m W,(H.put r d).get q=some k->(H.put r d).get G=some k'->ι q=some m->ι G=some W->m.b=W.b->q=G:=by
  intro d q G k k' m W X Z C K Y;obtain⟨J,g1⟩:=s d q k X;obtain⟨k1,g2⟩:=s d G k' Z;exact F.inj q G J k1 m W g1 g2 C K Y
 have fwd : ∀(d:Option aP) c,qX M ι H.get w M ι (H.put r d).get (bP w l.b (.loop c)):=by
  intro d c;refine⟨rfl,rfl,rfl,by simp[bP],λb _ hno=>dW (hno r _ l I U),λ_ _ _ h=>h,λ_ _ h=>h,λq k m X Z=>?_,λ_ _ _ h => .inl h⟩;obtain⟨J,g1⟩:=s d q k X;exact .inr ⟨q,J,m,g1,Z,rfl⟩
 have L : ∀d:Option aP,p8 ι (H.put r d):=by
  intro d q lq i;rw[ab.fB _ _ _ (by rw[I];rfl)];exact hD q lq i
 refine⟨nt,ps,as,bd,tm,y,rfl,K,Y,h6,h7,h8,h9,h10,λD c R O=>⟨⟨B c,λq k i=>?_,N _⟩,fwd _ c,L _⟩,λc=>⟨⟨B c,λq k i=>?_,N _⟩,fwd _ c,L _⟩⟩
 ·by_cases u:q=r;·subst u;rw[ab.get_put,if_pos rfl]at i;cases i;refine⟨l,U,mu.bu (.inl ⟨D,nt,ps,as,bd,tm,c,rfl,rfl,rfl,fp hlt,by rw[R.params];exact Y,by rw[R.assign];exact h6,by rw[R.body];exact h7,by rw[R.tmps];exact h8,by rw[R.tmps];exact h9,O⟩) hlz hM⟩
  exact j c _ q k i u
 by_cases u:q=r;·rw[ab.get_put,if_pos u]at i;cases i
 exact j c _ q k i u
def Rz{H:ab}{d nt:Nat}{tm:List AV}{a:Act}{ps:Array Tmp}{assign body:Code}{fn:FuncId}(z:fk M ι H.get w)(R:p8 ι H)(X:TR M ι tm a)(T:a.tmps.size=nt){s:World}
 (F:s=(w.alloc (.deferred (some []))).alloc (.loop { state := .ready,pending:=none,fn,tmps:=a.tmps,params:=ps,assign,body,defers:=w.heap.size})) :
 let r:Ref:=⟨d,nt,H.gen d nt,0⟩
 let c:=jb ι r ⟨w.heap.size+1,0,0⟩
 fk M c (ab.get ((r,some (eu 0 (.lp 0 nt ps.toList assign body tm))) :: H)) s/\qX M ι H.get w M c (ab.get ((r,some (eu 0 (.lp 0 nt ps.toList assign body tm))) :: H)) s /\
  p8 c ((r,some (eu 0 (.lp 0 nt ps.toList assign body tm))) :: H)/\s.heap[w.heap.size]?=some (.deferred (some [])):=by
 intro r c;have V:ι r=none:=R.fresh d nt 0;have n:=CN (l:=⟨w.heap.size+1,0,0⟩) V;have f:s.heap=(w.heap.push (.deferred (some []))).push (.loop { state := .ready,pending:=none,fn,tmps:=a.tmps,params:=ps,assign,body,defers:=w.heap.size}):=by rw[F];rfl
 have j : ∀b,b<w.heap.size->s.heap[b]?=w.heap[b]?:=by
  intro b I;rw[f,B8 (by simp;omega),<-iG,B8 I,<-iG]
 have L:s.heap[w.heap.size]?=some (.deferred (some [])):=by rw[f,B8 (by simp),<-iG];simp
 have J:s.heap[w.heap.size+1]?=some (.loop { state := .ready,pending:=none,fn,tmps:=a.tmps,params:=ps,assign,body,defers:=w.heap.size}):=by rw[f,Array.getElem?_push];simp
 have p : ∀b o x,M b o=some x->b<w.heap.size:=λb o x h=>iQl w ⟨b,o,none⟩ (z.mem b o x h);have m : ∀q,ab.get ((r,some (eu 0 (.lp 0 nt ps.toList assign body tm))) :: H) q=if r=q then some (eu 0 (.lp 0 nt ps.toList assign body tm)) else H.get q:=λq=>rfl
 refine⟨⟨λb o x h=>?_,λq k h=>?_,λq Z k k' i Q C v h3 U h5=>?_⟩,⟨by rw[F];rfl,by rw[F];rfl,by rw[F];rfl,by rw[f];simp;omega,λb I _=>j b I,λ_ _ _ h=>h,n,λq k i C v=>?_,λ_ _ _ h => .inl h⟩,λq i h=>?_,L⟩;·rw[iQi (w:=w) (j b (p b o x h))];exact z.mem b o x h
 ·rw[m]at h;split at h;·rename_i e;subst e;cases h;refine⟨⟨w.heap.size+1,0,0⟩,by simp[c,jb],mu.bu (.inl ⟨0,nt,ps.toList,assign,body,tm,_,rfl,rfl,rfl,J,by simp,rfl,rfl,T,λt=>(X.at_ t).mono (λ_ _ _ h=>h) c n,⟨rfl,rfl⟩⟩) rfl ?_⟩;intro o x Y;have:=p _ _ _ Y;simp only at this;omega
  obtain⟨i,K,u⟩:=z.live q k h;exact⟨i,n q i K,u.bF (λ_ _ _ h=>h) n (j _ u.lt) u.frozen⟩
 ·have one : ∀ {q:Ref} {k i},ab.get ((r,some (eu 0 (.lp 0 nt ps.toList assign body tm))) :: H) q=some k->c q=some i->(q=r/\i.b=w.heap.size+1)\/(q≠r/\H.get q=some k/\ι q=some i/\i.b<w.heap.size):=by
   intro q k i h y;rw[m]at h;split at h;·rename_i e;subst e;simp only[c,jb,if_true]at y;cases y;exact .inl ⟨rfl,rfl⟩
   rename_i e;simp only[c,jb]at y;rw[if_neg (pF e)]at y;obtain⟨Q,B,G⟩:=z.live q k h;rw[y]at B;cases B;exact .inr ⟨pF e,h,y,G.lt⟩
  rcases one C h3 with ⟨N,S⟩ | ⟨N,S,W,e4⟩<;>rcases one v U with ⟨f1,f2⟩ | ⟨f1,f2,f3,f4⟩
  ·rw[N,f1]
  ·omega
  ·omega
  exact z.inj q Z k k' i Q S f2 W f3 h5
 ·rw[m]at C;simp only[c,jb]at v;split at C;·rename_i e;rw[if_pos e.symm]at v;cases v;exact .inl (A9 _)
  rename_i e;rw[if_neg (pF e)]at v;exact .inr ⟨q,k,i,C,v,rfl⟩
 simp only[c,jb]at h;simp only[ab.gen];by_cases D:q=r;·subst D;rw[if_pos ⟨rfl,rfl⟩];exact oU _
 rw[if_neg D]at h;have:=R q i h;split;·rename_i O;rw[<-O.1,<-O.2]at this;exact yV this
 exact this
def NR : ∀(args:List AV)(t:Nat),dc args t=(args[t]?).getD AV.undef:=by
 intro args;induction args with
 | nil=>intro t;simp[dc]
 | cons x l b=>
  intro t;cases t with
  | zero=>simp[dc]
  | succ t=>simp[dc,b]
def TG(tmps:Array Value):ResultVar->Sem Value
 | .tmp t=>pure (tmps.getD t undef)
 | .cell b t=>asAddr (tmps.getD b undef) >>= λx=>loadVar t x
def K0(fn:Func)(tmps:Array Value):results fn tmps=fn.results.mapM (TG tmps) >>= λb=>pure (if h:b.size=1 then b[0] else .tuple b):=by
 unfold results;congr 1
def KZ{fn:Func}{st:St}{nt:Nat}(G:vT M ι st nt a w){x:AV}(h:ur E.P fn st=some x) : ∃v,(results fn a.tmps).run E.P w = .ok v w/\VR M ι x v:=by
 have one : ∀(D:ResultVar)(y:AV),j4 E.P st D=some y ->∃v,(TG a.tmps D).run E.P w = .ok v w/\VR M ι y v:=by
  intro D y p;cases D with
  | tmp t=>simp only[j4,du]at p;subst p;exact⟨_,rfl,G.tr.at_ t⟩
  | cell b t=>
   simp only[j4]at p;split at p
   ·rename_i r i j g n H S J;split at p;·rename_i k N;have C:=G.tr.at_ b;rw[H]at C;obtain⟨v,q,m⟩:=MZ S J G.sim C N p;refine⟨v,?_,m⟩;simp only[TG];generalize a.tmps.getD b undef=u at C q ⊢;cases C;simpa [asAddr,Instr.loadAt,Instr.sureAddr] using q
    cases p
   cases p
 have many : ∀(rs:List ResultVar)(ys:List AV),rs.mapM (j4 E.P st)=some ys ->∃f,(rs.mapM (TG a.tmps)).run E.P w = .ok f w/\j7 M ι ys f:=by
  intro rs;induction rs with
  | nil=>intro ys h;simp at h;subst h;exact⟨[],rfl,j7.nil⟩
  | cons r rs Q=>intro ys h;simp only[lH,oT,pt,fH]at h;obtain⟨y,p,F,d,h⟩:=h;simp at h;subst h;obtain⟨v,q,m⟩:=one r y p;obtain⟨f,I,K⟩:=Q F d;refine⟨v :: f,?_,j7.cons m K⟩;rw[lH];simp only[iQe,q,iQc,I,iQg]
 unfold ur at h;have s : ∀ys,fn.results.toList.mapM (j4 E.P st)=some ys ->∃f:List Value,(results fn a.tmps).run E.P w = .ok (if h:f.toArray.size=1 then f.toArray[0] else .tuple f.toArray) w/\j7 M ι ys f:=by
  intro ys d;obtain⟨f,q,m⟩:=many _ ys d;refine⟨f,?_,m⟩;rw[K0];simp only[Array.mapM_eq_mapM_toList,iQe,Sem.run_map,q,iQc,iQg]
 split at h
 ·rename_i d;injection h with h
  subst h;obtain⟨f,q,m⟩:=s _ d;have:f=[]:=we (by rw[<-m.1];rfl);subst this;exact⟨_,q,.v rfl⟩
 ·rename_i y d;injection h with h
  subst h;obtain⟨f,q,m⟩:=s _ d;obtain⟨v,rfl⟩:=Hv m.1.symm;exact⟨v,by simpa using q,m.2 0 y v rfl rfl⟩
 ·rename_i ys B z d;injection h with h
  subst h;obtain⟨f,q,m⟩:=s _ d;have O:f.length≠1:=by
   intro h;rw[<-m.1]at h;obtain⟨y,p⟩:=Hv h;exact z y p
  refine⟨.tuple f.toArray,?_,.tup ?_ (by simpa using m.1) λi c u L R=>m.2 i c u L (by simpa using R)⟩;·rw[q,dif_neg (by simpa using O)]
  intro e;exact B e
 cases h
def marks(ds:List Nat):List Deferred:=ds.map λD => { target := .collected D,args := #[]}
def pk(w w':World)(ds:List Nat):Prop:=ds.Nodup /\∀D∈ds,w.heap.size<=D/\w'.heap[D]?=some (.deferred (some []))
def Er{M:Mem}{ι:Map}{g:cb}{w:World}(m:fk M ι g w){D:Nat}{x:Option (List Deferred)}(h:w.heap[D]?=some (.deferred x)) : ∀r k l,g r=some k->ι r=some l->l.b≠D:=by
 intro r k l n j e;obtain⟨p,d,i⟩:=m.live r k n;rw[j]at d;cases d;rcases Bf k.esz with f | f
 ·rcases(i.objOk f).obj with ⟨_,c⟩ | ⟨_,_,c⟩ | ⟨_,_,_,_,_,_,c⟩
  ·rw[e,h]at c;cases c
  ·rw[e,h]at c;cases c
  rw[e,h]at c;cases c
 obtain⟨_,_,_,c,_⟩:=(i.cellsOk f).heap;rw[e,h]at c;cases c
def pk.fwd{w b e:World}{ds:List Nat}{M1 ι1 g1 M2 ι2 g2}(h:pk w b ds)(i:fk M1 ι1 g1 b)(f:qX M1 ι1 g1 b M2 ι2 g2 e):pk w e ds:=
 ⟨h.1,λD d=>⟨(h.2 D d).1,by
  have c:=(h.2 D d).2;rw[f.chg D (gv.1 c).1 (Er i c)];exact c⟩⟩
def pk.append{w j i:World}{ds c:List Nat}(p:w.heap.size<=j.heap.size)(h:pk w i ds)(m : ∀D∈ds,D<j.heap.size)(f:pk j i c):pk w i (c++ds):=by
 refine⟨yW.2 ⟨f.1,h.1,λa q b n e=>?_⟩,λD s=>?_⟩;·have:=(f.2 a q).1;have:=m b n;omega
 rcases jG.1 s with d | d
 ·exact⟨sU p (f.2 D d).1,(f.2 D d).2⟩
 exact h.2 D d
def CL(P:Program)(rd:Option Ref)(M:Mem)(ι:Map)(st:St)(a:Act)(w:World)(nt:Nat)(d:St)(b:Frame)(cs:List Frame)(m:Machine):Prop:=match rd with
 | none=>b.roundOf=none->b.kind = .normal ->∃i w' e ds,(∃M' A,vT M' A d nt i w'/\qX M ι st.hp.get w M' A d.hp.get w')/\i.defers=marks ds++a.defers/\pk w w' ds /\
  Steps P m (lone { b.atR i e with mode := .returning} cs w')
 | some r =>∀l c f,ι r=some l->b.roundOf=some l.b->b.kind = .normal->cs=c :: f ->∃n h w',vF d.hp r=some (n,h)/\n≠1 /\
  (∃M' A,fk M' A d.hp.get w'/\qX M ι st.hp.get w M' A d.hp.get w'/\p8 A d.hp)/\Steps P m (lone (c.finish (.bool (n == 0))) f w')
def CL.of_steps{P:Program}{rd:Option Ref}{M B:Mem}{ι e:Map}{st d p:St}{a I:Act}{w q:World}{nt:Nat}{b:Frame}{cs:List Frame}{m F:Machine}{ds:List Nat}
 (H:b.roundOf=none\/rd≠none->b.kind = .normal->Steps P m F) (y:fk B e d.hp.get q) (s:qX M ι st.hp.get w B e d.hp.get q) (O:I.defers=marks ds++a.defers) (J:pk w q ds) (h:CL P rd B e d I q nt p b cs F):CL P rd M ι st a w nt p b cs m:=by
 unfold CL at h ⊢;cases rd with
 | none=>intro t i;obtain⟨K,w',todo,u,⟨M',A,Q,j⟩,x,v,f⟩:=h t i;refine⟨K,w',todo,u++ds,⟨M',A,Q,s.trans j⟩,?_,(J.fwd y j).append s.size (λD S=>(gv.1 (J.2 D S).2).1) v,(H (.inl t) i).trans f⟩;rw[x,O];simp[marks]
 | some r=>intro l c C L t G z;obtain⟨n,inf,w',T,V,⟨M',A,R,N,U⟩,f⟩:=h l c C (s.map r l L) t G z;exact⟨n,inf,w',T,V,⟨M',A,R,s.trans N,U⟩,(H (.inr (by simp)) G).trans f⟩
def qB{w w':World}:pk w w' []:=⟨List.nodup_nil,λD h=>by cases h⟩
def J8(E:Env)(ok:Array Oper->Bool)(n:Nat):Prop:=
 ∀(rd:Option Ref)(nt dep:Nat)(c:List Item)(st d:St),bT E n rd nt dep c st=some d->(∀i∈c,mU ok i=true) ->∀(M:Mem)(ι:Map)(a:Act)(w:World),vT M ι st nt a w ->
  ∀(b:Frame)(cs:List Frame),CL E.P rd M ι st a w nt d b cs (lone (b.atR a c) cs w)
def Jn{P:Program}{fr:Frame}{cs:List Frame} : ∀(ds:List Nat)(w:World),fr.mode = .returning->ds.Nodup->(∀D∈ds,w.heap[D]?=some (.deferred (some []))) ->
 ∃w',Steps P (lone { fr with defers:=marks ds} cs w) (lone { fr with defers:=[]} cs w')/\w'.os=w.os/\w'.tape=w.tape/\w'.output=w.output/\w'.heap.size=w.heap.size /\∀b,b ∉ ds->w'.heap[b]?=w.heap[b]?:=by
 intro ds;induction ds with
 | nil=>intro w _ _ _;exact⟨w,Steps.refl _ _,rfl,rfl,rfl,rfl,λ_ _=>rfl⟩
 | cons D ds y=>
  intro w m i n;have q:=run_takeDeferred (P:=P) (n D (im ..));have c:=step_collected (P:=P) (fr := { fr with defers:=marks (D :: ds)}) (cs:=cs) (w:=w) (d := { target := .collected D,args := #[]}) (r:=D) (ds:=marks ds) (by simp[m]) rfl rfl q;obtain⟨w',z,x,p,t,s,u⟩:=y (w.putObj D (.deferred none)) m (wY.1 i).2 (λv f=>by
   rw[iQB (by intro e;subst e;exact(wY.1 i).1 f)];exact n v (iR _ f))
  refine⟨w',iQm (.one c) (by simpa using z),x,p,t,by rw[s];simp,λb j=>?_⟩;rw[u b (λh=>j (iR _ h)),iQB (by intro e;subst e;exact j (im ..))]
def fk.other{M:Mem}{ι:Map}{g:cb}{w w':World}(e:fk M ι g w){ds:List Nat}(d : ∀D∈ds,w.heap[D]?=some (.deferred (some [])))(h : ∀b,b ∉ ds->w'.heap[b]?=w.heap[b]?):fk M ι g w':=by
 refine⟨λb o x m=>?_,λr k j=>?_,e.inj⟩;·have f:=e.mem b o x m;have c:b ∉ ds:=(by intro c;have:=d b c;simp[World.cell?,this]at f);rw[iQi (w:=w) (h b c)];exact f
 obtain⟨l,i,c⟩:=e.live r k j;exact⟨l,i,c.bF (λ_ _ _ h=>h) (λ_ _ h=>h) (h l.b λn=>Er e (d _ n) r k l j i rfl) c.frozen⟩
def Gi{ok:Array Oper->Bool}(hE:E.Ok ok){n:Nat}(hn:J8 E ok n){dep:Nat}{f:FuncId}{args:List AV}{H H':ab}{x:AV}(h:qR E (bT E n) dep f args H=some (x,H')):kU E.P (.fn f) args H x H':=by
 unfold qR at h;obtain⟨I,h⟩:=dH.1 h;obtain⟨fn,q,y,s⟩:=hE.fns f I;rw[q]at h;simp only at h;split at h
 ·rename_i c L;obtain⟨hlen,h⟩:=dH.1 h;split at h
  ·rename_i st J;simp only[bA]at h;obtain⟨x',Q,h⟩:=h;injection h with h1 G
   subst h1;subst G;refine⟨⟨fn,q,y,by rw[L];rfl⟩,?_⟩;intro M ι w us hS u W cs;have Y:=W.1;have hO:vT M ι ⟨args,H⟩ fn.ntmps { tmps:=us.toArray++Array.replicate (fn.ntmps - us.toArray.size) undef,defers:=[]} w:=by
    refine⟨hS,u,⟨?_⟩,by simp;omega⟩;intro t;rw[NR,zN];rcases dT t args.length with F | F
    ·rw[dh F,Kw (by simp;omega),dP];have X:us[t]?=some (us[t]'(by omega)):=dh _;simp only[Kp,X,dP];exact W.2 t _ _ (dh F) X
    rw[tP F,Array.getElem?_append_right (by simp;omega)];have : ∀k:Nat,((Array.replicate (fn.ntmps - us.toArray.size) undef)[k]?).getD undef=undef:=(by intro k;rw[Ks];split<;>rfl);rw[this];exact .v rfl
   let b:Frame := { (default:Frame)with fn:=f,kind := .normal}
   have m:Frame.enter E.P f us.toArray .normal=b.atR { tmps:=us.toArray++Array.replicate (fn.ntmps - us.toArray.size) undef,defers:=[]} [.code c]:=(by simp[Frame.enter,Frame.atR,q,L,b];rfl);obtain⟨z,w',todo,ds,⟨M',A,e,j⟩,B,p,d⟩:=hn none fn.ntmps dep [.code c] ⟨args,H⟩ st J (by intro i hi;simp at hi;subst hi;exact s c L) M ι _ w hO b cs rfl rfl;rw[<-m]at d;simp only[mz]at B;obtain⟨O,G,h3,h4,h5,h6,V⟩:=Jn (P:=E.P) (fr := { b.atR z todo with mode := .returning}) (cs:=cs) ds w' rfl p.1 (λD u=>(p.2 D u).2);have N : { { b.atR z todo with mode := .returning} with defers:=marks ds} = { b.atR z todo with mode := .returning}:=by rw[<-show z.defers=marks ds from B];rfl
   rw[N]at G;have C:=e.sim.other (λD u=>(p.2 D u).2) V;have S:qX M ι H.get w M' A st.hp.get O:=(by refine⟨h3.trans j.os,h4.trans j.tape,h5.trans j.output,by rw[h6];exact j.size,λT K U=>?_,j.mem,j.map,j.live,j.new⟩;rw[V T λu=>absurd (p.2 T u).1 (by omega)];exact j.chg T K U);obtain⟨v,Z,R⟩:=KZ (w:=O) ⟨C,e.dom,e.tr,e.nt⟩ Q;exact⟨.returned v,O, { { b.atR z todo with mode := .returning} with defers:=[]},⟨v,rfl,M',A,R,C,S,e.dom⟩,iQm d G,rfl,rfl,rfl,rfl,fn,q,Z⟩
  cases h
 cases h
end
end
section
def Cr{g:cb}(r:Ref) : ∀(n m:Nat)(x y:AV)(bs:List aP),view g n x=some y->ae r m y bs=(y,bs):=by
 intro n;induction n with
 | zero=>intro m x y bs h;simp[view]at h
 | succ n B=>
  intro m x y bs h;cases m with
  | zero=>rfl
  | succ m=>
   have q : ∀(cs ys d:List AV),cs.mapM (view g n)=some ys->ys.foldl (λ(p:List AV × List aP) c=>(p.1++[(ae r m c p.2).1],(ae r m c p.2).2)) (d,bs)=(d++ys,bs):=by
    intro cs;induction cs with
    | nil=>intro ys d h;simp at h;subst h;simp
    | cons c cs s=>intro ys d h;simp only[lH,oT,pt,fH]at h;obtain⟨y,z,u,e,h⟩:=h;simp at h;subst h;rw[sG,B m c y bs z,s u (d++[y]) e];simp
   cases x with
   | agg cs=>simp only[view,bA]at h;obtain⟨ys,e,rfl⟩:=h;have:=q cs ys [] e;simp only[ae];rw[this];simp
   | tup cs=>simp only[view,bA]at h;obtain⟨ys,e,rfl⟩:=h;have:=q cs ys [] e;simp only[ae];rw[this];simp
   | v x=>simp[view]at h;subst h;rfl
   | cC=>simp[view]at h;subst h;rfl
   | iptr=>simp[view]at h;subst h;rfl
   | fsl=>simp[view]at h
   | bO r' off len cap=>
    simp only[view]at h;split at h
    ·split at h;·cases h;rfl
     cases h
    cases h
   | nsl=>simp[view]at h
   | dsl r' off len cap=>
    simp only[view]at h;split at h
    ·split at h;·simp only[bA]at h;obtain⟨_,_,rfl⟩:=h;rfl
     cases h
    cases h
   | ptr r' i j=>
    simp only[view]at h;split at h
    ·split at h;·cases h;rfl
     simp only[bA]at h;obtain⟨_,_,rfl⟩:=h;rfl
    cases h
   | fn f a b=>
    simp only[view]at h;split at h;·cases h;rfl
    cases h
   | ifc t x=>simp only[view,bA]at h;obtain⟨y,z,rfl⟩:=h;simp only[ae];rw[B m x y bs z]
   | yld=>simp[view]at h
   | mp=>simp[view]at h
   | ch=>simp[view]at h
   | xv=>simp[view]at h
   | lp=>simp[view]at h
def aO(g:cb):Nat->AV->List Ref
 | 0,_=>[]
 | n+1,x=>
  match x with
  | .agg cs | .tup cs=>cs.flatMap (aO g n)
  | .bO r 0 len _=>(match g r with | some b=>if b.fI then [] else [r] | none=>[])
  | .dsl r 0 len _=>(match g r with | some b=>if b.fI then [] else b.es.flatMap (aO g n)++[r] | none=>[])
  | .mp r=>[r]
  | .ifc _ x=>aO g n x
  | _=>[]
def bS(g:cb):Nat->AV->List Ref
 | 0,_=>[]
 | n+1,x=>
  match x with
  | .agg cs | .tup cs=>cs.flatMap (bS g n)
  | .bO r 0 len _=>(match g r with | some b=>if b.fI then [r] else [] | none=>[r])
  | .dsl r 0 len _=>(match g r with | some b=>if b.fI then r :: b.es.flatMap (ad g n) else b.es.flatMap (bS g n) | none=>[r])
  | .mp _=>[]
  | .ifc _ x=>bS g n x
  | x=>ad g (n+1) x
def CY{g:cb} : ∀(n:Nat)(x:AV)(r:Ref),r∈aO g n x->r∈ad g n x:=by
 intro n;induction n with
 | zero=>intro x r h;simp[aO]at h
 | succ n f=>
  intro x r h;unfold aO at h;split at h;·simp only[eW]at h;obtain⟨c,d,e⟩:=h;simp only[ad,eW];exact⟨c,d,f c r e⟩
  ·simp only[eW]at h;obtain⟨c,d,e⟩:=h;simp only[ad,eW];exact⟨c,d,f c r e⟩
  ·split at h
   ·split at h;·cases h
    simpa [ad] using h
   cases h
  ·split at h
   ·rename_i b i;split at h;·cases h
    simp only[jG,eW,l7]at h;simp only[ad,i,dG,eW];rcases h with ⟨c,d,e⟩ | rfl
    ·exact .inr ⟨c,d,f c r e⟩
    exact .inl rfl
   cases h
  ·simpa [ad] using h
  ·simp only[ad];exact f _ r h
  cases h
def EJ{g:cb} : ∀(n:Nat)(x:AV),(ad g n x).Nodup->(aO g n x).Nodup /\∀r∈aO g n x,r ∉ bS g n x:=by
 intro n;induction n with
 | zero=>intro x h;simp[aO]
 | succ n K=>
  intro x h;have i : ∀(n:Nat)(x:AV)(r:Ref),r∈bS g n x->r∈ad g n x:=by
   intro n;induction n with
   | zero=>intro x r h;simp[bS]at h
   | succ n y=>
    intro x r h;unfold bS at h;split at h;·simp only[eW]at h;obtain⟨c,z,f⟩:=h;simp only[ad,eW];exact⟨c,z,y c r f⟩
    ·simp only[eW]at h;obtain⟨c,z,f⟩:=h;simp only[ad,eW];exact⟨c,z,y c r f⟩
    ·split at h
     ·split at h;·simpa [ad] using h
      cases h
     simpa [ad] using h
    ·split at h
     ·rename_i b u;split at h;·simpa [ad,u] using h
      simp only[eW]at h;obtain⟨c,z,f⟩:=h;simp only[ad,u,dG,eW];exact .inr ⟨c,z,y c r f⟩
     rename_i u;simpa [ad,u] using h
    ·cases h
    ·simp only[ad];exact y _ r h
    exact h
  have p : ∀cs:List AV,(cs.flatMap (ad g n)).Nodup->(cs.flatMap (aO g n)).Nodup /\∀r∈cs.flatMap (aO g n),r ∉ cs.flatMap (bS g n):=by
   intro cs;induction cs with
   | nil=>intro _;simp
   | cons c cs C=>
    intro J;rw[kY,yW]at J;obtain⟨H,I,F⟩:=J;obtain⟨O,R⟩:=K c H;obtain⟨Q,N⟩:=C I;have s : ∀r,r∈cs.flatMap (aO g n)->r∈cs.flatMap (ad g n):=by
     intro r f;simp only[eW]at f ⊢;obtain⟨d,B,f⟩:=f;exact⟨d,B,CY n d r f⟩
    have m : ∀r,r∈cs.flatMap (bS g n)->r∈cs.flatMap (ad g n):=(by intro r f;simp only[eW]at f ⊢;obtain⟨d,B,f⟩:=f;exact⟨d,B,i n d r f⟩);refine⟨?_,?_⟩;·rw[kY,yW];exact⟨O,Q,λa G b u e=>F a (CY n c a G) b (s b u) e⟩
    intro r f v;rw[kY,jG]at f v;rcases f with f | f<;>rcases v with v | v
    ·exact R r f v
    ·exact F r (CY n c r f) r (m r v) rfl
    ·exact F r (i n c r v) r (s r f) rfl
    exact N r f v
  cases x with
  | agg cs=>simpa [aO,bS] using p cs (by simpa [ad] using h)
  | tup cs=>simpa [aO,bS] using p cs (by simpa [ad] using h)
  | bO r off len cap=>
   cases off with
   | zero=>
    simp only[aO,bS];cases L:g r with
    | none=>simp
    | some b=>cases u:b.fI<;>simp[u]
   | succ off=>simp[aO]
  | dsl r off len cap=>
   cases off with
   | zero=>
    simp only[aO,bS];cases L:g r with
    | none=>simp
    | some b=>
     cases u:b.fI with| true=>simp[u]| false=>
      simp only[ad,L,wY]at h;obtain⟨f,D⟩:=h;obtain⟨H,I⟩:=p b.es D;have s : ∀q,q∈b.es.flatMap (aO g n)->q∈b.es.flatMap (ad g n):=by
       intro q j;simp only[eW]at j ⊢;obtain⟨d,B,j⟩:=j;exact⟨d,B,CY n d q j⟩
      have m : ∀q,q∈b.es.flatMap (bS g n)->q∈b.es.flatMap (ad g n):=(by intro q j;simp only[eW]at j ⊢;obtain⟨d,B,j⟩:=j;exact⟨d,B,i n d q j⟩);simp only[u,hU,iQf];refine⟨?_,?_⟩;·rw[yW];exact⟨H,by simp,λa G c z e=>by simp at z;subst z;subst e;exact f (s _ G)⟩
      intro q j v;rw[jG]at j;rcases j with j | j
      ·exact I q j v
      simp at j;subst j;exact f (m _ v)
   | succ off=>simp[aO]
  | mp r=>simp[aO,bS]
  | ifc t x=>simpa [aO,bS] using K x (by simpa [ad] using h)
  | _=>simp[aO]
def Out(g:cb)(q:Ref)(b:aP):Prop:=
 (∃k len,g q=some k/\k.fI=false/\k.arr=true/\b=⟨k.esz,k.es.take len,true,false⟩)\/(∃k c,g q=some k/\kA g q=some c/\(∀e∈c,flat depth e=true)/\b=nJ c) \/
 ∃k zs,g q=some k/\k.fI=false/\k.arr=false/\0<k.esz/\zs.length=k.es.length/\b=⟨k.esz,zs,false,false⟩
def L3(M:Mem)(A ι:Map)(g:cb)(w:World)(q:Ref)(b:aP):Prop :=∀k l,g q=some k->ι q=some l->k.arr=false->0<k.esz ->
 (∀(i j:Nat) z x,b.es[i]?=some z->z.cells[j]?=some x ->∃u,w.cell? ⟨l.b,i * k.esz+j,none⟩=some u/\VR M A x u) /\∀z∈b.es,z.cells.length=k.esz
def VR.XF{M:Mem}{ι:Map}{x:AV}{u:Value}(h:VR M ι x u)(c : ∀cs,x ≠ .agg cs):x.cells=[x]/\u.cells = #[u]:=by
 cases h with
 | agg=>exact absurd rfl (c _)
 | v b=>refine⟨rfl,?_⟩;cases u<;>first | rfl | simp[scalar]at b
 | xv b=>exact⟨rfl,by cases u<;>first | rfl | (cases b)⟩
 | _=>exact⟨rfl,rfl⟩
def F6{g:cb}{q:Ref}{b:List AV}(h:kA g q=some b) : ∃k,g q=some k/\k.esz=0/\k.es = .v (.bool true) :: b:=by
 unfold kA at h;split at h;·rename_i e f c;cases h;exact⟨_,c,rfl,rfl⟩
 cases h
def O1{M:Mem}{ι:Map}{g:cb}{w:World}{R:List Ref}(hS:fk M ι g w)(r:Ref) : ∀(n:Nat)(x y:AV)(u:Value)(bs:List aP),bK g n x=some y->VR M ι x u ->
 (∀q∈bS g n x,q∈R) ->
 ∃new:List aP,(ae r n y bs).2=bs++new/\new.length=(aO g n x).length /\
  (∀(i:Nat) q b,(aO g n x)[i]?=some q->new[i]?=some b->Out g q b) /\
  ∀H:List Loc,(∀(i:Nat) q l,(aO g n x)[i]?=some q->ι q=some l->H[bs.length+i]?=some l)->VR (jq M ι g w R) (gy r H) (ae r n y bs).1 u /\∀(i:Nat) q b,(aO g n x)[i]?=some q->new[i]?=some b->L3 (jq M ι g w R) (gy r H) ι g w q b:=by
 intro n;induction n with
 | zero=>intro x y u bs h;simp[bK]at h
 | succ n ih=>
  intro x y u bs h hv V;have plain:view g (n+1) x=some y->aO g (n+1) x=[]->(∀q∈ad g (n+1) x,q∈R) ->∃new:List aP,(ae r (n+1) y bs).2=bs++new/\new.length=(aO g (n+1) x).length /\
   (∀(i:Nat) q b,(aO g (n+1) x)[i]?=some q->new[i]?=some b->Out g q b) /\
   ∀H:List Loc,(∀(i:Nat) q l,(aO g (n+1) x)[i]?=some q->ι q=some l->H[bs.length+i]?=some l)->VR (jq M ι g w R) (gy r H) (ae r (n+1) y bs).1 u /\∀(i:Nat) q b,(aO g (n+1) x)[i]?=some q->new[i]?=some b->L3 (jq M ι g w R) (gy r H) ι g w q b:=by
   intro G J K;rw[Cr r (n+1) (n+1) x y bs G];exact⟨[],by simp,by rw[J];rfl,by rw[J];intro i q b F;simp at F,λH _=>⟨(zO hS (n+1) x y u G K hv).up _,by rw[J];intro i q b F;simp at F⟩⟩
  have X : ∀(cs ys:List AV)(us:List Value)(L:List AV)(bs:List aP),cs.mapM (bK g n)=some ys->j7 M ι cs us->(∀q∈cs.flatMap (bS g n),q∈R) ->
   ∃(new:List aP) (zs:List AV),ys.foldl (λ(p:List AV × List aP) c=>(p.1++[(ae r n c p.2).1],(ae r n c p.2).2)) (L,bs)=(L++zs,bs++new)/\new.length=(cs.flatMap (aO g n)).length /\
    (∀(i:Nat) q b,(cs.flatMap (aO g n))[i]?=some q->new[i]?=some b->Out g q b) /\
    ∀H:List Loc,(∀(i:Nat) q l,(cs.flatMap (aO g n))[i]?=some q->ι q=some l->H[bs.length+i]?=some l)->j7 (jq M ι g w R) (gy r H) zs us /\∀(i:Nat) q b,(cs.flatMap (aO g n))[i]?=some q->new[i]?=some b->L3 (jq M ι g w R) (gy r H) ι g w q b:=by
   intro cs;induction cs with
   | nil=>intro ys us L bs hy S _;simp at hy;subst hy;have:us=[]:=we (by rw[<-S.1];rfl);subst this;exact⟨[],[],by simp,rfl,by intro i q b F;simp at F,λ_ _=>⟨j7.nil,by intro i q b F;simp at F⟩⟩
   | cons c cs ihc=>
    intro ys us L bs hy S hRc;simp only[lH,oT,pt,fH]at hy;obtain⟨y,hy1,ys',N,hy2⟩:=hy;simp at hy2;subst hy2;cases us with
    | nil=>have:=S.1;simp at this
    | cons u us=>
     have hvc:VR M ι c u:=S.2 0 c u rfl rfl;have hvcs:j7 M ι cs us:=⟨by have:=S.1;simpa using this,λi x v hx hv=>S.2 (i+1) x v (by simpa using hx) (by simpa using hv)⟩;simp only[kY,jG]at hRc;obtain⟨new1,G,J,K,h4⟩:=ih c y u bs hy1 hvc (λq F=>hRc q (.inl F));obtain⟨new2,zs,h5,h6,h7,h8⟩:=ihc ys' us (L++[(ae r n y bs).1]) (bs++new1) N hvcs (λq F=>hRc q (.inr F));refine⟨new1++new2,(ae r n y bs).1 :: zs,?_,?_,?_,?_⟩;·rw[sG];simp only;rw[G,h5];simp
     ·simp[J,h6]
     ·intro i q b F Y;rw[kY]at F;rcases dT i (aO g n c).length with hi | hi
      ·rw[iB hi]at F;rw[iB (by omega)]at Y;exact K i q b F Y
      rw[hY hi]at F;rw[hY (by omega),J]at Y;exact h7 _ q b F Y
     intro H B;have p1:=h4 H (by
      intro i q l F hl;refine B i q l ?_ hl;rw[kY,iB (dB.1 F).1];exact F)
     have p2:=h8 H (by
      intro i q l F hl;have:=B ((aO g n c).length+i) q l (by
       rw[kY,hY (by omega),GN];exact F) hl
      rw[eS,J,Dj];exact this)
     refine⟨j7.cons p1.1 p2.1,λi q b F Y=>?_⟩;rw[kY]at F;rcases dT i (aO g n c).length with hi | hi
     ·rw[iB hi]at F;rw[iB (by omega)]at Y;exact p1.2 i q b F Y
     rw[hY hi]at F;rw[hY (by omega),J]at Y;exact p2.2 _ q b F Y
  cases x with
  | agg cs=>simp only[bK,bA]at h;obtain⟨ys,N,rfl⟩:=h;obtain⟨vs,rfl,S⟩:=hv.NH;obtain⟨new,zs,G,J,K,h4⟩:=X cs ys vs.toList [] bs N S (by simpa [bS] using V);simp only[ae];rw[G];refine⟨new,rfl,by simpa [aO] using J,by simpa [aO] using K,λH B=>?_⟩;have:=h4 H (by simpa [aO] using B);exact⟨by simpa using VR.oe.2 this.1,by simpa [aO] using this.2⟩
  | tup cs=>
   simp only[bK,bA]at h;obtain⟨ys,N,rfl⟩:=h;cases hv with | tup h0 hl hh=>
   rename_i vs;obtain⟨new,zs,G,J,K,h4⟩:=X cs ys vs.toList [] bs N ⟨by simpa using hl,λi x u hx I=>hh i x u hx (by simpa using I)⟩ (by simpa [bS] using V);simp only[ae];rw[G];refine⟨new,rfl,by simpa [aO] using J,by simpa [aO] using K,λH B=>?_⟩;obtain⟨this,hdp⟩:=h4 H (by simpa [aO] using B);simp only[ko];refine⟨.tup ?_ (by simpa using this.1) λi c u hc I=>this.2 i c u hc (by simpa using I),by simpa [aO] using hdp⟩;intro e;rw[e]at this;have h5:=this.1;simp at h5;have h6:vs.size=0:=by omega
   rw[h6]at hl;exact h0 (we hl)
  | bO q off len cap=>
   cases off with| succ off=>exact plain (by simpa [bK] using h) (by simp[aO]) (by simpa [bS] using V)| zero=>
    simp only[bK]at h;split at h
    ·rename_i k O;obtain⟨⟨C,hlen⟩,h⟩:=dH.1 h;injection h with h
     cases D:k.fI with
     | true=>
      rw[D]at h;simp only[if_true]at h;refine plain ?_ (by simp[aO,O,D]) (by
       intro Z f;refine V Z ?_;simp only[ad,l7]at f;simp[bS,O,D,f])
      simp only[view,O,C];rw[if_pos ⟨trivial,by omega⟩];simp[<-h]
     | false=>
      rw[D]at h;simp only[hU,iQf]at h;subst h;have m:aO g (n+1) (.bO q 0 len cap)=[q]:=by simp[aO,O,D]
      cases hv with | bO hr Y hs ha hc hn hkk hzl=>
      rename_i l a c;have hl2:(k.es.take len).length=len:=by rw[kp];omega
      have hkz0:k.esz≠0:=(by obtain⟨l0,hl0,Q⟩:=hS.live q k O;have:=Q.pos C;omega);refine⟨[⟨k.esz,k.es.take len,true,false⟩],by simp[ae,hkz0],by rw[m];rfl,?_,?_⟩
      ·intro i Z b f s;rw[m]at f;cases i with
       | succ i=>simp at f
       | zero=>simp at f s;subst f;subst s;exact .inl ⟨k,len,O,D,C,rfl⟩
      intro H B;have:=B 0 q l (by rw[m];rfl) hr;simp only[ae,hl2,if_neg hkz0];refine⟨.bO (l:=l) ?_ Y hs ha hc hn hkk hzl,λi Z b f s=>?_⟩;·unfold gy;simpa using this
      rw[m]at f;cases i with
      | succ i=>simp at f
      | zero=>simp at f;subst f;intro k' l' G _ K;rw[O]at G;cases G;rw[C]at K;cases K
    cases h
  | nsl=>simp[bK,view]at h
  | dsl q off len cap=>
   cases off with| succ off=>exact plain (by simpa [bK] using h) (by simp[aO]) (by simpa [bS] using V)| zero=>
    simp only[bK]at h;split at h
    ·rename_i k O;obtain⟨⟨C,hlen⟩,h⟩:=dH.1 h;cases D:k.fI with
     | true=>
      rw[D]at h;simp only[if_true]at h;refine plain ?_ (by simp[aO,O,D]) (by
       intro Z f;refine V Z ?_;simpa [bS,ad,O,D] using f)
      obtain⟨es',hes,rfl⟩:=bA.1 h;have hel:=fq hes;simp only[view,O];rw[if_pos ⟨C,by omega⟩,hes];simp only[Option.map_some,uW];rw[fG (by omega)]
     | false=>
      rw[D]at h;simp only[hU,iQf]at h;obtain⟨ys,N,rfl⟩:=bA.1 h;have m:aO g (n+1) (.dsl q 0 len cap)=k.es.flatMap (aO g n)++[q]:=by simp[aO,O,D]
      have hseen:bS g (n+1) (.dsl q 0 len cap)=k.es.flatMap (bS g n):=(by simp[bS,O,D]);cases hv with | dsl hr Y hs ha hc hn hkk hzl=>
      rename_i l a c;have Q:=hS.at hr hzl O;have hkz:0<k.esz:=by rw[<-Q.esz];exact hzl
      obtain⟨arr,T,fz,hh,hsz,_,W⟩:=Q.heap;have hcl : ∀o,w.cell? ⟨l.b,o,none⟩=arr[o]?:=λo=>gY hh;let val:Nat->AV->Value:=λi e=>match e with
       | .agg cs => .agg ((List.range cs.length).map λj=>(arr[i * k.esz+j]?).getD undef).toArray
       | _=>(arr[i * k.esz]?).getD undef
      have hval : ∀(i:Nat) e,k.es[i]?=some e->VR M ι e (val i e) /\∀(j:Nat) u,(val i e).cells[j]?=some u->arr[i * k.esz+j]?=some u:=by
       intro i e U;have hlen':=Q.cells e (dk U);by_cases hag : ∃cs,e = .agg cs
       ·obtain⟨cs,rfl⟩:=hag;refine⟨VR.oe.2 ⟨by simp[val],λj x u hx I=>?_⟩,λj u I=>?_⟩;·obtain⟨u',G,_,K⟩:=W i j _ x U (by simpa [AV.cells] using hx);rw[aP.map,if_neg (by simp[C])]at K;have hj:=(dB.1 hx).1;have:u=u':=(by simp only[val,List.toArray,lJ]at I;rw[C7 hj]at I;simp[G]at I;exact I.symm);rw[this];exact K
        have hj:j<cs.length:=(by have:=(gv.1 I).1;simpa [val,Value.cells] using this);obtain⟨u',G,_,_⟩:=W i j _ cs[j] U (by simp[AV.cells,hj]);have:(val i (.agg cs)).cells[j]?=some u':=by simp[val,Value.cells,hj,G]
        rw[this]at I;cases I;exact G
       have hne : ∀cs,e ≠ .agg cs:=λcs hc=>hag ⟨cs,hc⟩;have hc1:e.cells=[e]:=by cases e<;>first | rfl | exact absurd rfl (hne _)
       obtain⟨u',G,_,K⟩:=W i 0 e e U (by rw[hc1];rfl);rw[aP.map,if_neg (by simp[C])]at K;have hv0:val i e=u':=(by simp only[wW]at G;cases e<;>first | exact absurd rfl (hne _) | simp[val,G]);rw[hv0];refine⟨K,λj u I=>?_⟩;rw[(K.XF hne).2]at I;cases j with
       | zero=>simp at I;subst I;exact G
       | succ j=>simp at I
      let us:List Value:=(List.range k.es.length).map λi=>val i (k.es[i]?.getD AV.undef)
      have hus:j7 M ι k.es us:=(by refine⟨by simp[us],λi e u U I=>?_⟩;have hi:=(dB.1 U).1;simp only[us,lJ]at I;rw[C7 hi]at I;simp[U]at I;rw[<-I];exact(hval i e U).1);obtain⟨new,zs,G,J,K,h4⟩:=X k.es ys us [] bs N hus (by rw[hseen]at V;exact V);have hzl':zs.length=k.es.length/\ys.length=k.es.length:=by
       refine⟨?_,fq N⟩;have e1:=iQh (λp:List AV × List aP=>p.1.length) G;have : ∀(cs L:List AV)(bs:List aP),(cs.foldl (λ(p:List AV × List aP) c=>(p.1++[(ae r n c p.2).1],(ae r n c p.2).2)) (L,bs)).1.length=L.length+cs.length:=by
        intro cs;induction cs with
        | nil=>intro L bs;simp
        | cons c cs ihc=>intro L bs;rw[sG,ihc];simp;omega
       simp only[this]at e1;have e2:=fq N;simp at e1;omega
      refine⟨new++[⟨k.esz,zs,false,false⟩],?_,?_,?_,?_⟩;·simp only[ae];rw[G];simp
      ·rw[m];simp[J]
      ·intro i Z b f s;rw[m]at f;rcases dT i new.length with hi | hi
       ·rw[iB (by omega)]at f;rw[iB hi]at s;exact K i Z b f s
       rw[hY (by omega)]at f;rw[hY hi]at s;rw[<-J]at f;cases hd:i - new.length with
       | succ d=>rw[hd]at f;simp at f
       | zero=>rw[hd]at f s;simp at f s;subst f;subst s;exact .inr (.inr ⟨k,zs,O,D,C,hkz,hzl'.1,rfl⟩)
      intro H B;obtain⟨p1,p2⟩:=h4 H (by
       intro i Z l' f hl';refine B i Z l' ?_ hl';rw[m,iB (dB.1 f).1];exact f)
      have hq0:=B new.length q l (by rw[m,hY (by omega),J];simp) hr;simp only[ae];rw[G];simp only[ko];refine⟨?_,?_⟩;·rw[hzl'.2,<-hlen];refine .dsl (l:=l) ?_ Y hs ha hc hn hkk hzl;unfold gy;simpa using hq0
      intro i Z b f s;rw[m]at f;rcases dT i new.length with hi | hi
      ·rw[iB (by omega)]at f;rw[iB hi]at s;exact p2 i Z b f s
      rw[hY (by omega)]at f;rw[hY hi]at s;rw[<-J]at f;cases hd:i - new.length with
      | succ d=>rw[hd]at f;simp at f
      | zero=>
       rw[hd]at f s;simp at f s;subst f;subst s;intro k' l' e1 e2 _ _;rw[O]at e1;cases e1;rw[hr]at e2;cases e2;have zc : ∀(i:Nat) z,zs[i]?=some z ->∃e,k.es[i]?=some e/\j7 (jq M ι g w R) (gy r H) z.cells (val i e).cells.toList:=(by intro i z hz;have hi:=(dB.1 hz).1;have U:k.es[i]?=some (k.es[i]'(by omega)):=dh _;refine⟨_,U,(p1.2 i z _ hz ?_).cells⟩;simp only[us,lJ];rw[C7 (by omega)];simp[U]);refine⟨λi j z x hz hx=>?_,λz hz=>?_⟩
       ·obtain⟨e,U,hzv⟩:=zc i z hz;have hj:=(dB.1 hx).1;have hju:j<(val i e).cells.toList.length:=by rw[<-hzv.1];exact hj
        have I:(val i e).cells.toList[j]?=some ((val i e).cells.toList[j]):=dh hju;refine⟨_,?_,hzv.2 j x _ hx I⟩;rw[hcl];exact(hval i e U).2 j _ (by simpa using I)
       obtain⟨i,hi,rfl⟩:=ot hz;obtain⟨e,U,hzv⟩:=zc i _ (dh hi);have h5:=(hval i e U).1.cells;rw[hzv.1,<-h5.1];exact Q.cells e (dk U)
    cases h
  | v x=>exact plain (by simpa [bK] using h) (by simp[aO]) (by simpa [bS] using V)
  | cC=>exact plain (by simpa [bK] using h) (by simp[aO]) (by simpa [bS] using V)
  | iptr=>exact plain (by simpa [bK] using h) (by simp[aO]) (by simpa [bS] using V)
  | fsl=>exact plain (by simpa [bK] using h) (by simp[aO]) (by simpa [bS] using V)
  | ptr=>exact plain (by simpa [bK] using h) (by simp[aO]) (by simpa [bS] using V)
  | fn=>exact plain (by simpa [bK] using h) (by simp[aO]) (by simpa [bS] using V)
  | ifc t x=>
   simp only[bK,bA]at h;obtain⟨y,hy,rfl⟩:=h;cases hv with | ifc hv=>
   obtain⟨new,G,J,K,h4⟩:=ih x y _ bs hy hv (by simpa [bS] using V);simp only[ae];exact⟨new,G,by simpa [aO] using J,by simpa [aO] using K,λH B=>⟨.ifc (h4 H (by simpa [aO] using B)).1,by simpa [aO] using (h4 H (by simpa [aO] using B)).2⟩⟩
  | yld=>simp[bK,view]at h
  | ch q=>simp[bK,view]at h
  | xv q=>simp[bK,view]at h
  | mp q=>
   simp only[bK]at h;split at h
   ·rename_i ents hm;obtain⟨hfl,h⟩:=dH.1 h;injection h with h
    subst h;have m:aO g (n+1) (.mp q)=[q]:=by simp[aO]
    cases hv with | mp hr hz=>
    rename_i l;obtain⟨k,O,_,_⟩:=F6 hm;refine⟨[nJ ents],by simp[ae,nJ],by rw[m];rfl,?_,?_⟩
    ·intro i Z b f s;rw[m]at f;cases i with
     | succ i=>simp at f
     | zero=>simp at f s;subst f;subst s;exact .inr (.inl ⟨k,ents,O,hm,by simpa [eC] using hfl,rfl⟩)
    intro H B;have:=B 0 q l (by rw[m];rfl) hr;simp only[ae,if_true];refine⟨.mp (l:=l) ?_ hz,λi Z b f s=>?_⟩;·unfold gy;simpa using this
    rw[m]at f;cases i with
    | succ i=>simp at f
    | zero=>simp at f;subst f;intro k' l' G J _ h4;obtain⟨l0,hl0,Q⟩:=hS.live q k' G;rw[J]at hl0;cases hl0;rw[hr]at J;cases J;have:=Q.esz;omega
   cases h
  | lp=>simp[bK,view]at h
def Am:ab.get []=λ_=>none:=by funext q;rfl
def Tn{M:Mem}{w:World}(c : ∀b o x,M b o=some x->w.cell? ⟨b,o,none⟩=some x):fk M cT (ab.get []) w:=
 ⟨c,(λr k h=>by rw[Am]at h;cases h),(λr r' k k' l d h=>by rw[Am]at h;cases h)⟩
def UB:p8 cT []:=λq l h=>by cases h
def I3{M:Mem}{w:World}(G : ∀b o x,M b o=some x->w.cell? ⟨b,o,none⟩=some x){H':ab}{v:Value}{w':World}{f:Mem}{c:Map}{x:AV}
 (D:VR f c x v) (q:fk f c H'.get w') (d:qX M cT (ab.get []) w f c H'.get w') {R:List Ref} {y:AV}
 (m : ∀r:Ref,∃e:List Loc,e.length=(ae r depth y []).2.length/\VR (jq f c H'.get w' R) (gy r e) (ae r depth y []).1 v /\
  (∀(k:Nat) l b,e[k]?=some l->(ae r depth y []).2[k]?=some b->nH (jq f c H'.get w' R) (gy r e) w' l b/\w.heap.size<=l.b) /\
  ∀(i j:Nat) l l',e[i]?=some l->e[j]?=some l'->l.b=l'.b->i=j):vU M w y v (jq f c H'.get w' R) w':=by
 obtain⟨u,p⟩:=xI (R:=R) q;have n:=d.trans p;refine⟨d.os,d.tape,d.output,d.size,λb t=>d.chg b t (λr k l h=>by rw[Am]at h;cases h),n.mem,vO q.mem,?_,m⟩;intro b o z s;rcases n.new b o z s with h | h | ⟨F,C,B,h,_⟩
 ·exact .inl h
 ·exact .inr h
 rw[Am]at h;cases h
def Ev{M:Mem}{w:World}{H':ab}{w':World}{f:Mem}{c:Map}(e:qX M cT (ab.get []) w f c H'.get w'){r:Ref}{k:aP}{l:Loc}(d:H'.get r=some k)(i:c r=some l):w.heap.size<=l.b:=by
 rcases e.live r k l d i with h | ⟨j,n,m,h,_⟩
 ·exact h
 rw[Am]at h;cases h
def Out.live{g:cb}{q:Ref}{b:aP}(h:Out g q b) : ∃k,g q=some k:=by
 rcases h with ⟨k,_,c,_⟩ | ⟨k,_,c,_⟩ | ⟨k,_,c,_⟩<;>exact⟨k,c⟩
def O0 : ∀(n:Nat)(x:AV),flat n x=true->flat (n+1) x=true:=by
 intro n;induction n with
 | zero=>intro x h;simp[flat]at h
 | succ n e=>
  intro x h;cases x with
  | v x=>rfl
  | agg cs=>simp only[flat,eC]at h ⊢;exact λc d=>by have:=e c (h c d);simpa [flat] using this
  | tup cs=>simp only[flat,eC]at h ⊢;exact λc d=>by have:=e c (h c d);simpa [flat] using this
  | ifc t x=>have:=e x (by simpa [flat] using h);simpa [flat] using this
  | fn f a b=>simp only[flat,bD,eC]at h ⊢;exact⟨λc d=>by have:=e c (h.1 c d);simpa [flat] using this,λc d=>by have:=e c (h.2 c d);simpa [flat] using this⟩
  | _=>simp[flat]at h
def RT{cs:List AV}(h:flat depth (.tup cs)=true){c:AV}(b:c∈cs):flat depth c=true:=by
 have d:depth=(depth - 1)+1:=rfl;rw[d]at h ⊢;simp only[flat,eC]at h;exact O0 _ c (h c b)
def Cj{E:Env}{ok:Array Oper->Bool}(hE:E.Ok ok){n:Nat}(hn:J8 E ok n){f:FuncId}{args:List AV}{y:AV}(h:cD E (bT E n) f args=some y):iz E.P f args y:=by
 unfold cD at h;split at h;·rename_i s hs;cases h;exact hE.specs f args y hs
 split at h
 ·rename_i x H' hc;obtain⟨hfn,V⟩:=Gi hE hn hc;refine⟨hfn,λM w us hm hvs=>?_⟩;refine(V M cT w us (Tn hm) UB hvs).mono λe w' ⟨v,p,M1,ι1,hv,hS,hF,hD⟩=>⟨v,?_⟩;split at h
  ·obtain⟨hnd,h⟩:=dH.1 h;obtain⟨hnd1,J⟩:=EJ depth x hnd;refine⟨_,p,I3 (R:=bS H'.get depth x) hm hv hS hF λr=>?_⟩;obtain⟨new,h1,h2,h3,h4⟩:=O1 (R:=bS H'.get depth x) hS r depth x y v [] h hv (λq B=>B);rw[ko]at h1;let d:Ref->Loc:=λq=>(ι1 q).getD ⟨0,0,0⟩
   obtain⟨p1,p2⟩:=h4 ((aO H'.get depth x).map d) (by
    intro i q l B S;simp only[oq,qZ,lJ,B,Option.map_some,d,S,dP])
   refine⟨(aO H'.get depth x).map d,by rw[h1];simp[h2],p1,?_,?_⟩
   ·intro i l b S hb;rw[h1]at hb;have hl':=S;simp only[lJ,bA]at S;obtain⟨q,B,F⟩:=S;rcases h3 i q b B hb with ⟨k,len,t,N,C,rfl⟩ | ⟨k,ents,t,K,hfl,rfl⟩ | ⟨k,zs,t,N,C,D,hzl,rfl⟩
    rotate_left
    ·obtain⟨Y,m,c⟩:=hS.live q k t;have:l=Y:=by rw[<-F];simp[d,m]
     subst this;have Z:l.esz=0:=by
      obtain⟨k1,hk1,hz1,_⟩:=F6 K;rw[t]at hk1;cases hk1;rw[c.esz];exact hz1
     obtain⟨a,f,entries,hg,X,hsz,hent,_⟩:=yg hS K m Z;refine⟨mu.bu (.inr (.inl ⟨ents,entries,rfl,rfl,rfl,X,hsz,λH ent e p he'=>?_⟩)) Z (λo z hx=>?_),Ev hF t m⟩;·obtain⟨ka,va,e1,e2,e3⟩:=hent H ent e p he';subst e1;refine⟨ka,va,rfl,e2,AF depth va _ ?_ e3.1,e3.2⟩;have:=hfl _ (dk p);exact RT this (by simp)
     have:=(xI (R:=bS H'.get depth x) hS).1.mem _ _ _ hx;simp[World.cell?,X]at this
    ·obtain⟨Y,m,c⟩:=hS.live q k t;have:l=Y:=by rw[<-F];simp[d,m]
     subst this;refine⟨?_,Ev hF t m⟩;replace c:=c.cellsOk D;obtain⟨arr,T,fz,X,g1,g2,g3⟩:=c.heap;obtain⟨d1,d2⟩:=p2 i q _ B hb k l t m C D;refine eo.bu (k:=⟨k.esz,zs,false,false⟩) ⟨c.esz,⟨arr,T,fz,X,g1,g2,?_⟩,by have:=c.len;simp;omega,d2,?_⟩ D
     ·intro H j e x' p hx;obtain⟨u,hu,G⟩:=d1 H j e x' p hx;rw[gY X]at hu;have hi':H<k.es.length:=by
       have:=(dB.1 p).1;simp only at this;omega
      have hc0:=c.cells _ (kq hi');have hj:j<k.esz:=(by rw[<-d2 e (dk p)];exact(dB.1 hx).1);obtain⟨u',hu',ho',_⟩:=g3 H j _ _ (dh hi') (dh (by omega:j<(k.es[H]).cells.length));rw[hu]at hu';cases hu';exact⟨u,hu,ho',by rw[aP.map,if_neg (by simp)];exact G⟩
     intro o z Z;exfalso;rcases vP Z with h5 | ⟨r',Q,k',O,L,hl1',W,ho⟩
     ·have:=(c.frozen o z h5).1;rw[N]at this;cases this
     have e:=hS.inj r' q k' k O l L t hl1' m W;subst e;exact J r' (dk B) Q
    obtain⟨Y,m,c⟩:=hS.live q k t;have:l=Y:=by rw[<-F];simp[d,m]
    subst this;refine⟨?_,Ev hF t m⟩;have D:=c.pos C;replace c:=c.cellsOk D;obtain⟨arr,T,fz,X,g1,g2,g3⟩:=c.heap;refine eo.bu (k:=⟨k.esz,k.es.take len,true,false⟩) ⟨c.esz,⟨arr,T,fz,X,g1,g2,?_⟩,by have:=c.len;simp;omega,λe p=>c.cells e (w9 p),?_⟩ D
    ·intro H j e x' p hx;simp only at p;rw[w8]at p;split at p;·obtain⟨u,hu,ho,G⟩:=g3 H j e x' p hx;rw[aP.map,if_pos C]at G;exact⟨u,hu,ho,by rw[aP.map,if_pos rfl];exact G.mono sS _ (λ_ _ h=>h)⟩
     cases p
    intro o z Z;exfalso;rcases vP Z with h5 | ⟨r',Q,k',O,L,hl',W,ho⟩
    ·have:=(c.frozen o z h5).1;rw[N]at this;cases this
    have e:=hS.inj r' q k' k O l L t hl' m W;subst e;exact J r' (dk B) Q
   intro i j l O hi hj hb;simp only[lJ,bA]at hi hj;obtain⟨q,B,F⟩:=hi;obtain⟨q',U,hql'⟩:=hj;have hi2:i<new.length:=by rw[h2];exact(dB.1 B).1
   have hj2:j<new.length:=by rw[h2];exact(dB.1 U).1
   obtain⟨k,t⟩:=(h3 i q _ B (dh hi2)).live;obtain⟨k',hk'⟩:=(h3 j q' _ U (dh hj2)).live;obtain⟨Y,m,_⟩:=hS.live q k t;obtain⟨l0',I,_⟩:=hS.live q' k' hk';have e1:l=Y:=by rw[<-F];simp[d,m]
   have e2:O=l0':=by rw[<-hql'];simp[d,I]
   subst e1;subst e2;have e:=hS.inj q q' k k' l O t hk' m I hb;subst e;exact(List.getElem?_inj (dB.1 B).1 hnd1).1 (by rw[B,U])
  refine⟨_,p,I3 (R:=ad H'.get depth x) hm hv hS hF λr=>?_⟩;rw[Cr r depth depth x y [] h];exact⟨[],rfl,(zO hS depth x y v h (λq B=>B) hv).up _,by intro k l b S;simp at S,by intro i j l O hi;simp at hi⟩
 cases h
def KN : ∀(ps:List Tmp)(b:List AV)(tm:List AV)(us:List Value)(tmps:Array Value),((ps.zip us).foldl (λtmps (p:Tmp × Value)=>tmps.setIfInBounds p.1 p.2) tmps).size=tmps.size:=by
 intro ps;induction ps with
 | nil=>intro b tm us tmps;rfl
 | cons p ps c=>
  intro b tm us tmps;cases us with
  | nil=>rfl
  | cons u us=>simp only[Kj,sG];rw[c [] [] us];simp
def NY{M:Mem}{ι:Map}{nt:Nat} : ∀(ps:List Tmp)(b:List AV)(us:List Value)(tm:List AV)(tmps:Array Value),b.length=ps.length->j7 M ι b us->(∀p∈ps,p<nt)->tmps.size=nt->(∀t,VR M ι (dc tm t) (tmps.getD t undef)) ->
 ∀t,VR M ι (dc (tj tm ps b) t) (((ps.zip us).foldl (λtmps (p:Tmp × Value)=>tmps.setIfInBounds p.1 p.2) tmps).getD t undef):=by
 intro ps;induction ps with
 | nil=>intro b us tm tmps j d hp e h t;cases b<;>exact h t
 | cons p ps z=>
  intro b us tm tmps j d hp e h t;cases b with
  | nil=>simp at j
  | cons x b=>
   cases us with| nil=>have:=d.1;simp at this| cons u us=>
    simp only[Kj,sG,tj];refine z b us _ _ (by simpa using j) ⟨by have:=d.1;simpa using this,λi y v n m=>d.2 (i+1) y v (by simpa using n) (by simpa using m)⟩ (λq s=>hp q (iR _ s)) (by simpa using e) ?_ t;intro t';have f:=hp p (im ..);rw[rF,zN];by_cases c:t'=p;·subst c;rw[if_pos rfl,Db (by rw[e];exact f)];exact d.2 0 x u rfl rfl
    rw[if_neg c,yx (pF c),<-zN];exact h t'
def FG(ps:Array Tmp)(us:Array Value)(tmps:Array Value):(ps.zip us).foldl (λtmps (t,a)=>tmps.setIfInBounds t a) tmps=(ps.toList.zip us.toList).foldl (λtmps (p:Tmp × Value)=>tmps.setIfInBounds p.1 p.2) tmps:=by
 rw[<-Kk,Array.toList_zip]
def KY{E:Env}{ok:Array Oper->Bool}(hE:E.Ok ok){n dep:Nat}(S:J8 E ok n){r:Ref}{args:List AV}{H H':ab}{y:AV}(h:ya E (bT E n) dep r args H=some (y,H')):kU E.P (.yld r) args H y H':=by
 unfold ya at h;split at h
 ·rename_i f nt ps assign body tm F;obtain⟨⟨O,D,q,u⟩,h⟩:=dH.1 h;split at h
  ·rename_i st C;intro M ι w us l K N z J;obtain⟨R,X,as',V,tm',d,e,g1,L,T,g4,I,Q,g7,_,_⟩:=yi K N J F;cases e;have B:us.toArray.size=d.params.size:=by rw[L];simp;rw[<-O];exact z.1.symm
   refine⟨_,_,_,_,run_yield g1 B,trivial,λc cs _=>?_⟩;let b:Frame := { (default:Frame)with fn:=d.fn,kind := .normal,roundOf:=some l.b}
   have j : ∀tmps,Frame.round l.b d.fn tmps d.assign d.body .normal=b.atR { tmps:=tmps,defers:=[]} [.code assign,.beginRound,.code body]:=(by intro tmps;simp[Frame.round,Frame.atR,b,T,g4]);rw[j];have W:vT M ι ⟨tj tm ps args,H⟩ nt { tmps:=(d.params.zip us.toArray).foldl (λtmps (t,a)=>tmps.setIfInBounds t a) d.tmps,defers:=[]} w:=by
    refine⟨K,N,⟨?_⟩,?_⟩;·intro t;show VR M ι _ (((d.params.zip us.toArray).foldl (λtmps (t,a)=>tmps.setIfInBounds t a) d.tmps).getD t undef);rw[FG,L];exact NY ps args us tm d.tmps O z (λp hp=>by have:=eC.1 D p hp;simpa using this) I Q t
    show((d.params.zip us.toArray).foldl (λtmps (t,a)=>tmps.setIfInBounds t a) d.tmps).size=nt;rw[FG,KN _ [] []];exact I
   have x:=hE.same;obtain⟨m,inf,w',h1,h2,⟨M',A,Z,U,h5⟩,Y⟩:=S (some r) nt dep _ _ st C (by
    intro i hi;simp only[dG,Bc,iQM]at hi;rcases hi with rfl | rfl | rfl
    ·rw[<-x];exact q
    ·rfl
    rw[<-x];exact u) M ι _ w W b (c :: cs) l c cs J rfl rfl rfl
   rw[h1]at h;have s:Comes E.P (lone (b.atR { tmps:=(d.params.zip us.toArray).foldl (λtmps (t,a)=>tmps.setIfInBounds t a) d.tmps,defers:=[]} [.code assign,.beginRound,.code body]) (c :: cs) w) (lone (c.finish (.bool (m == 0))) cs w') (.returned (.bool (m == 0))):=Y;have G:y = .v (.bool (m == 0))/\H'=st.hp:=by
    rcases m with _ | _ | m
    ·simp only[du,tM]at h;exact⟨h.1.symm,h.2.symm⟩
    ·exact absurd rfl h2
    simp only[du,tM]at h;exact⟨h.1.symm,h.2.symm⟩
   obtain⟨rfl,rfl⟩:=G;exact⟨.returned (.bool (m == 0)),w',⟨_,rfl,M',A,.v rfl,Z,U,h5⟩,comesIn_wide.2 s⟩
  cases h
 cases h
def y9{E:Env}{ok:Array Oper->Bool}(b:E.Ok ok){n dep:Nat}(d:J8 E ok n){t:qJ}{args:List AV}{H H':ab}{y:AV}(h:dM E (bT E n) dep t args H=some (y,H')):kU E.P t args H y H':=by
 unfold dM at h;cases t with
 | fn f=>
  simp only at h;cases c:E.thrSpec f args H with
  | some z=>rw[c]at h;cases h;exact b.thrs f args H y H' c
  | none=>rw[c]at h;obtain⟨_,h⟩:=dH.1 h;exact Gi b d h
 | yld r=>exact KY b d h
def QE{E:Env}{ok:Array Oper->Bool}(hE:E.Ok ok) : ∀n,J8 E ok n:=by
 intro n;induction n with
 | zero=>intro rd nt dep B st C h;simp[bT]at h
 | succ n ih=>
  intro rd nt dep B st C h hi M ι a w F b cs;have X : ∀(q:List Item)(h':bT E n rd nt dep q st=some C),(∀i∈q,mU ok i=true)->Steps E.P (lone (b.atR a B) cs w) (lone (b.atR a q) cs w) ->
   CL E.P rd M ι st a w nt C b cs (lone (b.atR a B) cs w):=by
   intro q h' p O;exact CL.of_steps (ds:=[]) (λ_ _=>O) F.sim qX.refl rfl qB (ih rd nt dep q st C h' p M ι a w F b cs)
  have U : ∀(j:Nat)(u:Option Code),j≠1->(u.isNone=(j == 0))->(∀G:Loop,zX j { G with state:=if u.isNone then .ready else .done,pending:=u})->tq rd st j=some C->rd≠none ->
   (∀l c J v w',b.roundOf=some l->b.kind = .normal->cs=c :: J->(Instr.endRound l u).run E.P w = .ok v w'->Steps E.P (lone (b.atR a B) cs w) (lone (c.finish v) J w'))->CL E.P rd M ι st a w nt C b cs (lone (b.atR a B) cs w):=by
   intro j u hj hjn K h hrd O;cases rd with
   | none=>exact absurd rfl hrd
   | some r=>
    unfold tq at h;simp only at h;split at h
    ·rename_i inf z;cases h;intro l c J hr s N L;obtain⟨_,_,_,_,_,G,_,g1,_,_,_,_,_,_,g8,_⟩:=yi F.sim F.dom hr z;obtain⟨k1,k2,k3⟩:=g8 j { G with state:=if u.isNone then .ready else .done,pending:=u} ⟨rfl,rfl,rfl,rfl⟩ (K G);refine⟨j,inf,_,?_,hj,⟨M,ι,k1,k2,k3⟩,?_⟩;·simp[vF,ab.get_put,eu]
     rw[<-hjn];exact O l.b c J _ _ s N L (run_endRound u g1)
    cases h
  unfold bT at h;split at h
  ·cases rd with
   | none=>
    injection h with h
    subst h;intro s _;exact⟨a,w,[],[],⟨M,ι,F,qX.refl⟩,rfl,qB,.one (stepR_end s)⟩
   | some r=>exact U 0 none (by omega) rfl (λG=>⟨rfl,rfl⟩) h (by simp) λl c J v w' s N L hr=>by subst L;exact .one (stepR_round_end s N hr)
  ·rename_i k;have N : ∀i∈k,mU ok i=true:=λi h=>hi i (iR _ h);cases rd with
   | none=>cases h
   | some r=>
    simp only at h;split at h;·rename_i inf z;intro l c J hr s hkd L;obtain⟨_,_,_,_,_,G,_,g1,_,_,_,_,_,g7,g8,_⟩:=yi F.sim F.dom hr z;obtain⟨k1,k2,k3⟩:=g8 1 { G with state := .busy} ⟨rfl,rfl,rfl,rfl⟩ rfl;have O:Steps E.P (lone (b.atR a (.beginRound :: k)) cs w) (lone (b.atR a k) cs (bP w l.b (.loop { G with state := .busy}))) := .one (stepR_beginRound s (run_beginRound g1 g7.1));exact CL.of_steps (rd:=some r) (ds:=[]) (λ_ _=>O) k1 k2 rfl qB (ih (some r) nt dep k _ C h N M ι a _ ⟨k1,k3,F.tr,F.nt⟩ b cs) l c J hr s hkd L
    cases h
  ·rename_i c k;have S:codeOk ok c=true:=hi _ (im ..);have N : ∀i∈k,mU ok i=true:=λi h=>hi i (iR _ h);have two : ∀ {x y:Item},mU ok x=true->mU ok y=true ->∀i∈x :: y :: k,mU ok i=true:=by
    intro x y hx hy i p;rcases dG.1 p with rfl | p
    ·exact hx
    rcases dG.1 p with rfl | p
    ·exact hy
    exact N i p
   have one : ∀ {x:Item},mU ok x=true ->∀i∈x :: k,mU ok i=true:=by
    intro x hx i p;rcases dG.1 p with rfl | p
    ·exact hx
    exact N i p
   split at h;·exact X k h N (.one stepR_skip)
   ·exact X k h N (.one stepR_label)
   ·cases rd with
    | none=>
     simp only[tq,if_true]at h;injection h with h
     subst h;intro s _;exact⟨a,w,_,[],⟨M,ι,F,qX.refl⟩,rfl,qB,.one (stepR_ret s)⟩
    | some r=>exact U 2 (some .ret) (by omega) rfl (λG=>⟨rfl,rfl⟩) h (by simp) λl c J v w' s N L hr=>by subst L;exact .one (stepR_round_ret s N hr)
   ·rename_i x y;simp only[codeOk,bD]at S;exact X _ h (two S.1 S.2) (.one stepR_seq)
   ·rename_i cnd x y;simp only[codeOk,bD]at S;split at h;·rename_i s;simp only[fH]at s;obtain⟨cv,h1,h2⟩:=s;exact X _ h (one S.1) (.one (stepR_cond (yn (aG F.tr h1) h2)))
    ·rename_i s;simp only[fH]at s;obtain⟨cv,h1,h2⟩:=s;exact X _ h (one S.2) (.one (stepR_cond (yn (aG F.tr h1) h2)))
    cases h
   ·exact X _ h (two (by simpa [codeOk,mU] using S) rfl) (.one stepR_block)
   ·exact X _ h (two (by simpa [codeOk,mU] using S) rfl) (.one (iQo (by simp[stepG,stepG.exec,Frame.atR])))
   ·exact X _ h (two (by simpa [codeOk,mU] using S) (by simpa [codeOk,mU] using S)) (.one stepR_loop)
   ·rename_i id;split at h;·rename_i k' T;exact X _ h (Gd T N) (.one (stepR_exit T))
    rename_i T;cases rd with
    | none=>simp at h
    | some r=>exact U (id+3) (some (.exit id)) (by omega) (by simp) (λG=>⟨rfl,rfl⟩) (by simpa using h) (by simp) λl c J v w' s hkd L hr=>by subst L;exact .one (stepR_round_exit s hkd T hr)
   ·rename_i id ops draw;split at h
    ·rename_i Q hst1;have hap:draw=true->qo E ops Q=true:=by
      intro hd;cases s:qo E ops Q with
      | true=>rfl
      | false=>rw[hd,s]at h;simp at h
     replace h:bT E n rd nt dep k Q=some C:=by
      split at h;·cases h
      exact h
     have hpc : ∀f xs y,cD E (bT E n) f xs=some y->iz E.P f xs y:=λf xs y h=>Cj hE ih h;have htc : ∀f xs H y H',dM E (bT E n) dep f xs H=some (y,H')->kU E.P f xs H y H':=λf xs H y H' h=>y9 hE ih h;have hreg : ∃a1 w1,iP M ι st a w nt Q a1 w1/\(b.kind = .normal->Steps E.P (lone (b.atR a (.code (.region id ops draw) :: k)) cs w) (lone (b.atR a1 k) cs w1)):=by
      cases draw with| false=>exact Ha hpc htc hE.overs b k cs hst1 F| true=>
       have hwp:(Code.region id ops true).wpIn (FW b.roundOf) 0 E.P (λe a' w'=>e = .normal/\iP M ι st a w nt Q a' w') a w:=
        hE.draws ops (by simpa [codeOk] using S) hpc htc nt dep id st Q M ι a w b.roundOf _ hst1 (hap rfl) F λa' w' K=>⟨rfl,K⟩
       obtain⟨a1,w1,h1,h2⟩:=IC b hwp k cs;exact⟨a1,w1,h1,λ_=>h2⟩
     obtain⟨a1,w1,⟨⟨M1,ι1,hO1,hF1⟩,hd1⟩,O⟩:=hreg;exact CL.of_steps (ds:=[]) (λ_=>O) hO1.sim hF1 hd1 qB (ih rd nt dep k Q C h N M1 ι1 a1 w1 hO1 b cs)
    cases h
   ·rename_i g ps assign body;simp only[codeOk,bD]at S;split at h
    ·rename_i gi first captured hg
     split at h
     ·rename_i x H' hcall;obtain⟨hS1,hF1,hD1,hmk⟩:=Rz (d:=dep) (ps:=ps) (assign:=assign) (body:=body) (fn:=b.fn) F.sim F.dom F.tr F.nt rfl;obtain⟨hfn,hthr⟩:=y9 hE ih hcall;obtain⟨a',b',hfv,hva,hvb⟩:=(aG F.tr hg).Uw;have hmv:=λ{xs us} (h:j7 M ι xs us)=>h.mono (λ_ _ _ h=>h) hF1.map;have hyl:VR M (jb ι ⟨dep,nt,st.hp.gen dep nt,0⟩ ⟨w.heap.size+1,0,0⟩) (.yld ⟨dep,nt,st.hp.gen dep nt,0⟩) (.func (.yield (w.heap.size+1)) #[] #[]) := .yld (l:=⟨w.heap.size+1,0,0⟩) (by simp[jb]) rfl;have hall:=((hmv hva).append (j7.cons hyl j7.nil)).append (hmv hvb);have V:=hthr M _ _ _ hS1 hD1 hall;rw[show(a'.toList++[Value.func (.yield (w.heap.size+1)) #[] #[]]++b'.toList).toArray=a' ++ #[Value.func (.yield (w.heap.size+1)) #[] #[]]++b' by apply Dd;simp]at V;intro s;let c1:Frame:=b.atR { a with defers:=[{ target := .collected w.heap.size,args := #[]}]++a.defers} (.inRangeFunc (w.heap.size+1) :: k)
      have henter:=stepR_rangeFunc (P:=E.P) (b:=b) (a:=a) (k:=k) (cs:=cs) (w:=w) (g:=g) (ps:=ps) (assign:=assign) (body:=body) (l:=w.heap.size+1) (mark:=[{ target := .collected w.heap.size,args := #[]}])
       (d := { target := .fn (.func gi) b',args:=a' ++ #[Value.func (.yield (w.heap.size+1)) #[] #[]]}) (f:=gi) (args:=a' ++ #[Value.func (.yield (w.heap.size+1)) #[] #[]]++b')
       (by rw[s];exact run_enterLoop_outer b.fn a.tmps ps assign body) (by have hev : ∀x,a.eval (.const x)=x:=λ_=>rfl;simp[resolve,rangeCall,hfv,Deferred.ofValue,hev];rfl) (by simp[invoke,Cg hfn];rfl)
      obtain⟨e,w3,fr,⟨v,he,M3,W,hv3,hS3,hF3,hD3⟩,hcomes,hfr,hleave⟩:=V (c1 :: cs);subst he;have hs1:Steps E.P (lone (b.atR a (.code (.rangeFunc g ps assign body) :: k)) cs w) (lone (c1.finish v) cs w3):=iQm (.one henter) (iQm hcomes (.one (step_leave_returned hleave)));have hfin:c1.finish v=b.atR { a with defers:=[{ target := .collected w.heap.size,args := #[]}]++a.defers} (.endRangeFunc (w.heap.size+1) :: k):=finish_atR_inRangeFunc _ v;rw[hfin]at hs1;have Z:=hF1.trans hF3;have hr3:W ⟨dep,nt,st.hp.gen dep nt,0⟩=some ⟨w.heap.size+1,0,0⟩:=hF3.map _ _ (by simp[jb]);have hmk3:w3.heap[w.heap.size]?=some (.deferred (some [])):=(by rw[hF3.chg _ (gv.1 hmk).1 (Er hS1 hmk)];exact hmk);have I : ∀ {m:Nat} {inf:AV},vF H' ⟨dep,nt,st.hp.gen dep nt,0⟩=some (m,inf)->m≠1 ->∃G:Loop,∃w4,zX m G /\
       Steps E.P (lone (b.atR a (.code (.rangeFunc g ps assign body) :: k)) cs w) (lone (b.atR { a with defers:=[{ target := .collected w.heap.size,args := #[]}]++a.defers} ((G.pending.map Item.code).toList++k)) cs w4) /\
       vT M3 W ⟨st.tm,H'.put ⟨dep,nt,st.hp.gen dep nt,0⟩ none⟩ nt { a with defers:=[{ target := .collected w.heap.size,args := #[]}]++a.defers} w4/\qX M ι st.hp.get w M3 W (H'.put ⟨dep,nt,st.hp.gen dep nt,0⟩ none).get w4 /\
       pk w w4 [w.heap.size]:=by
       intro m inf z hm;obtain⟨_,_,_,_,_,G,_,g1,_,_,_,_,_,g7,_,g9⟩:=yi hS3 hD3 hr3 z;obtain⟨k1,k2,k3⟩:=g9 { G with state := .exhausted};have hnb:G.state ≠ .busy:=by
        match m,hm with
        | 0,_=>rw[g7.1];simp
        | 1,hm=>exact absurd rfl hm
        | 2,_=>rw[g7.1];simp
        | m+3,_=>rw[g7.1];simp
       refine⟨G,_,g7,iQm hs1 (.one (stepR_endRangeFunc (run_endLoop g1 hnb))),⟨k1,k3,⟨λt=>(F.tr.mono Z.mem Z.map).at_ t⟩,F.nt⟩,Z.trans k2,⟨by simp,λD hD=>?_⟩⟩;simp only[l7]at hD;subst hD;refine⟨aV _,?_⟩;show(bP w3 (w.heap.size+1) _).heap[w.heap.size]?=_;rw[dW (by omega)];exact hmk3
      split at h;·rename_i z;obtain⟨G,w4,K,O,R,Y,hM4⟩:=I z (by omega);rw[K.2]at O;exact CL.of_steps (rd:=none) (ds:=[w.heap.size]) (λ_ _=>O) R.sim Y rfl hM4 (ih none nt dep k _ C h N M3 W _ w4 R b cs) s
      ·rename_i z;obtain⟨G,w4,K,O,R,Y,hM4⟩:=I z (by omega);rw[K.2]at O;cases h;intro _;exact⟨_,w4,_,[w.heap.size],⟨M3,W,R,Y⟩,rfl,hM4,iQm O (.one (stepR_ret s))⟩
      ·rename_i id z;obtain⟨G,w4,K,O,R,Y,hM4⟩:=I z (by omega);rw[K.2]at O;split at h;·rename_i k' T;exact CL.of_steps (rd:=none) (ds:=[w.heap.size]) (λ_ _=>iQm O (.one (stepR_exit T))) R.sim Y rfl hM4 (ih none nt dep k' _ C h (Gd T N) M3 W _ w4 R b cs) s
       cases h
      cases h
     cases h
    cases h
   cases h
  ·rename_i c k;have S:codeOk ok c=true:=hi _ (im ..);have N : ∀i∈k,mU ok i=true:=λi h=>hi i (iR _ h);refine X _ h ?_ (.one stepR_inLoop);intro i p;rcases dG.1 p with rfl | p
   ·exact S
   rcases dG.1 p with rfl | p
   ·exact S
   exact N i p
  ·rename_i id k;exact X k h (λi h=>hi i (iR _ h)) (.one stepR_inBlock)
  ·rename_i id k;exact X k h (λi h=>hi i (iR _ h)) (.one (iQo (by simp[stepG,stepG.exec,Frame.atR])))
  cases h
def UF{E:Env}{ok:Array Oper->Bool}(b:E.Ok ok){n:Nat}{f:FuncId}{args:List AV}{y:AV}(h:cD E (bT E n) f args=some y):iz E.P f args y:=Cj b (QE b n) h
end
end Go.Ab
