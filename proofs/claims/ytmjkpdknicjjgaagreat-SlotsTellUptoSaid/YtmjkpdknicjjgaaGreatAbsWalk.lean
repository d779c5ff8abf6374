/-
  Maps of the abstract machine against the model's. No statement of a seat is proved here.
-/
import Derived.Conc.LoneCalls
import Derived.Test.YtmjkpdknicjjgaaGreatAbsOps
set_option linter.unusedVariables false
set_option linter.unusedSimpArgs false
set_option linter.unusedSectionVars false
set_option linter.unnecessarySimpa false
set_option linter.defProp false
namespace Go.Ab
section
def bU{c d:Type}{P:Program}(s:Sem c)(f:c->Sem d):bE P (s >>= f)=(bE P s).bind λa=>bE P (f a):=by
 induction s with| pure a=>rfl| program k b=>exact b P| mark m k b=>exact b| _=>rfl
def zJ{b:Type}{P:Program}(a:b):bE P (pure a:Sem b)=some a:=rfl
def dummy(es:List MapEntry):List MapEntry:=es.map λe=>⟨e.key,Go.undef,0⟩
def JL{d:TypeDesc}{k:Value} : ∀(es:List MapEntry)(i:Nat),(Instr.findNow d k es i=none↔Instr.findNow d k (dummy es) i=none)/\(Instr.findNow d k es i=some none↔Instr.findNow d k (dummy es) i=some none) /\
 ∀j v,Instr.findNow d k (dummy es) i=some (some (j,v))->i<=j /\∃e,es[j - i]?=some e/\Instr.findNow d k es i=some (some (j,e.val)):=by
 intro es;induction es with
 | nil=>intro i;simp[dummy,Instr.findNow]
 | cons e es c=>
  intro i;obtain⟨p,q,m⟩:=c (i+1);simp only[dummy,xp,Instr.findNow];cases t:Instr.sameNow d k e.key with
  | none=>simp
  | some b=>
   cases b with| true=>refine⟨by simp,by simp,λj v h=>?_⟩;simp only[ef,tT]at h;obtain⟨rfl,_⟩:=h;exact⟨cG _,e,by simp,rfl⟩| false=>refine⟨p,q,λj v h=>?_⟩;obtain⟨u,s,f,n⟩:=m j v h;refine⟨by omega,s,?_,n⟩;rw[show j - i=(j - (i+1))+1 by omega];simpa using f
def E1{P:Program}{f:TypeId}{k:Value} : ∀(es:List MapEntry)(i:Nat)(o:Option (Nat × Value)),bE P (Instr.findAsking f k (dummy es) i)=some o ->∀w:World,
 (o=none->(Instr.findAsking f k es i).run P w = .ok none w) /\∀j v,o=some (j,v)->i<=j /\∃e,es[j - i]?=some e/\(Instr.findAsking f k es i).run P w = .ok (some (j,e.val)) w:=by
 intro es;induction es with
 | nil=>intro i o h w;simp only[dummy,El,Instr.findAsking,zJ,ef]at h;subst h;exact⟨λ_=>rfl,λj v e=>by cases e⟩
 | cons e es p=>
  intro i o h w;simp only[dummy,xp,Instr.findAsking]at h;rw[bU]at h;obtain⟨b,q,h⟩:=iF.1 h;have d:=oK q w;cases b with
  | true=>simp only[if_true,zJ,ef]at h;subst h;refine⟨λe=>by (cases e),λj v c=>?_⟩;cases c;exact⟨cG _,e,by simp,by simp[Instr.findAsking,d]⟩
  | false=>simp only[eW,iQe]at h;obtain⟨n,t⟩:=p (i+1) o h w;refine⟨λc=>by simp[Instr.findAsking,d,n c],λj v c=>?_⟩;obtain⟨x,u,m,s⟩:=t j v c;refine⟨by omega,u,?_,by simp[Instr.findAsking,d,s]⟩;rw[show j - i=(j - (i+1))+1 by omega];simpa using m
def tu{P:Program}{c:Bool}{n:TypeId}{k:Value}{es:List MapEntry}{o:Option Nat}(h:DI P c n k (es.map (·.key))=some o)(w:World) :
 (Instr.checkKey c 10000 n k).run P w = .ok () w/\(o=none->(Instr.findKey n k es).run P w = .ok none w) /\∀j,o=some j ->∃e,es[j]?=some e/\(Instr.findKey n k es).run P w = .ok (some (j,e.val)) w:=by
 unfold DI at h;split at h
 ·rename_i F;obtain⟨o',b,e⟩:=bI.1 h;have v:(es.map (·.key)).map (λx=>(⟨x,Go.undef,0⟩:MapEntry))=dummy es:=by simp[dummy,Function.comp_def]
  rw[v]at b;unfold Instr.findKey at b;rw[bU]at b;obtain⟨d,hd,b⟩:=iF.1 b;have f:=oK hd w;refine⟨oK F w,?_⟩;obtain⟨y,G,u⟩:=JL (d:=d) (k:=k) es 0;cases i:Instr.findNow d k (dummy es) 0 with
  | some r=>
   rw[i]at b;simp only[zJ,ef]at b;subst b;cases r with
   | none=>
    simp only[AG]at e;subst e;refine⟨λ_=>?_,λj e=>?_⟩;·simp[Instr.findKey,f,G.2 i]
    cases e
   | some p=>obtain⟨t,v0⟩:=p;simp only[Option.map_some]at e;subst e;refine⟨λe=>(by cases e),λj e=>?_⟩;cases e;obtain⟨_,s,q,B⟩:=u t v0 i;exact⟨s,by simpa using q,by simp[Instr.findKey,f,B]⟩
  | none=>
   rw[i]at b;simp only at b;obtain⟨C,q⟩:=E1 es 0 o' b w;have m:=y.2 i;cases o' with
   | none=>
    simp only[AG]at e;subst e;refine⟨λ_=>?_,λj e=>?_⟩;·simp[Instr.findKey,f,m,C rfl]
    cases e
   | some p=>obtain⟨t,v0⟩:=p;simp only[Option.map_some]at e;subst e;refine⟨λe=>(by cases e),λj e=>?_⟩;cases e;obtain⟨_,s,z,D⟩:=q t v0 rfl;exact⟨s,by simpa using z,by simp[Instr.findKey,f,m,D]⟩
 cases h
def zC{P:Program}{t c b:TypeId}(h:Pc P t=some (c,b)):P.underlying t=some (.map c b):=by
 unfold Pc at h;split at h;·rename_i k e d;cases h;exact d
 cases h
section
variable{P:Program}{M:Mem}{ι:Map}{g:cV}{w:World}{r:Ref}
def BF(H:gS M ι g w){d:List AV}(p:nT g r=some d){l:Loc}(J:ι r=some l)(N:l.esz=0) :
 ∃a f c,g r=some ⟨0,.v (.bool true) :: d,a,f⟩/\w.heap[l.b]?=some (.map c c.size)/\c.size=d.length /\
  (∀(i:Nat) ent e,d[i]?=some ent->c[i]?=some e ->∃t s,ent = .tup [t,s]/\kH t=some e.key/\VR M ι s e.val/\e.born=i) /\∀q,d.mapM IS=some q->q=c.toList.map (·.key):=by
 unfold nT at p;split at p
 ·rename_i es f B;cases p;obtain⟨Q,n,I⟩:=H.live r _ B;rw[J]at n;cases n;rcases I.objOk rfl with ⟨_,_,_,_,_,_,_,_,_,h,_⟩ | ⟨x,c,O,R,h,F,G,z⟩ | ⟨_,_,_,_,_,_,_,_,h,_⟩
  ·simp at h
  rotate_left
  ·simp at h
  simp only[wR,iQs]at h;subst h;refine⟨false,f,c,B,F,G,z,λq m=>?_⟩;have L:=hJ m;apply KQ;intro i;rcases fl i c.size with hi | hi
  ·have j:i<d.length:=(by omega);obtain⟨y,D,u⟩:=lZ m i _ (dI j);obtain⟨t,s,K,C,_⟩:=z i _ c[i] (dI j) (kD hi);rw[D];rw[K]at u;simp only[IS]at u;rw[u]at C;cases C;simp[kD hi]
  rw[xZ (by rw[L];omega),xZ (by simp;omega)]
 cases p
def PJ(Y:gS M ι g w){t:TypeId}{x k y:AV}{T O:Value}(W:VR M ι x T)(X:VR M ι k O){ok:Bool}{bs:List bj}(h:o4 P g t (some x) (some k) ok=some (y,bs)) :
 bs=[] /\∃u,(Instr.lookup t T O ok).run P w = .ok u w/\VR M ι y u:=by
 have F : ∀ {v:AV} {u:Value} (b:Bool),VR M ι v u->VR M ι (if ok then .tup [v,.v (.bool b)] else v) (if ok then .tuple #[u,.bool b] else u):=by
  intro v u b j;cases ok with
  | false=>exact j
  | true=>
   refine .tup (by simp) rfl λi c u' C q=>?_;match i with
   | 0=>simp at C q;subst C;subst q;exact j
   | 1=>simp at C q;subst C;subst q;exact .v rfl
   | i+2=>simp at C
 unfold o4 at h;split at h
 ·rename_i kt et r' kv V L I;cases L;cases W with | mp hr hz=>
  rename_i l;have Q:O=kv:=by simpa using vR X (by simpa using I)
  subst Q;split at h
  ·rename_i S hm;obtain⟨a,f,entries,hg,U,hsz,s,J⟩:=BF Y hm hr hz;split at h
   ·rename_i R G;have d:=J R G;have m:entries.isEmpty=R.isEmpty:=by rw[d];simp
    split at h
    ·rename_i i D;rw[d]at D;obtain⟨v,j,h⟩:=bI.1 h;cases h;obtain⟨B,_,h3⟩:=tu D w;obtain⟨e,he,H⟩:=h3 i rfl;obtain⟨N,n,j⟩:=iF.1 j;obtain⟨ka,va,e1,e2,Z⟩:=s i N e n (by simpa using he);subst e1;simp only[LS,ef]at j;subst j;refine⟨rfl,_,?_,F true Z.1⟩;rw[<-d,<-m]at B;have p:(getObj l.b).run P w = .ok (.map entries entries.size) w:=by simp[getObj,Sem.run,U]
     simp only[Instr.lookup,iQf,iQj,bu (zC V),iQd,p,B,H]
    ·rename_i D;rw[d]at D;obtain⟨z,K,h⟩:=bI.1 h;cases h;obtain⟨B,h2,_⟩:=tu D w;obtain⟨u,q,j⟩:=yE K w;refine⟨rfl,_,?_,F false (jB j)⟩;rw[<-d,<-m]at B;have p:(getObj l.b).run P w = .ok (.map entries entries.size) w:=by simp[getObj,Sem.run,U]
     simp only[Instr.lookup,iQf,iQj,bu (zC V),iQd,p,B,h2 rfl,q]
    cases h
   cases h
  cases h
 cases h
def PK(y:gS M ι g w){j:Array TypeId}{ty:TypeId}{r':Ref}{x:AV}{m:Value}(q:VR M ι (.mp r') m){bs:List bj}(h:BC P g j[0]? r'=some (x,bs)) :
 bs=[] /\∃u,(Builtin.len_ j ty #[m]).run P w = .ok u w/\VR M ι x u:=by
 unfold BC at h;split at h
 ·rename_i p n i B;obtain⟨t,i,d⟩:=iF.1 i;cases h;cases q with | mp z s=>
  rename_i l;obtain⟨a,f,entries,D,C,e,_,_⟩:=BF y B z s;have c:(getObj l.b).run P w = .ok (.map entries entries.size) w:=by simp[getObj,Sem.run,C]
  refine⟨rfl,goInt entries.size,by simp[Builtin.len_,i,bu (zC d),c],?_⟩;rw[<-e];exact .v rfl
 cases h
def Ke(n:gS M ι g w)(K:ι r=none){w':World}{o:Obj}(d:Eg w w' o){k:bj}(v:oB M (iG ι r ⟨w.heap.size,0,0⟩) w' ⟨w.heap.size,0,0⟩ k) :
 gS M (iG ι r ⟨w.heap.size,0,0⟩) (mf g r k) w'/\uS M ι g w M (iG ι r ⟨w.heap.size,0,0⟩) (mf g r k) w':=by
 have i:=Gd (l:=⟨w.heap.size,0,0⟩) K;have m : ∀b o x,M b o=some x->b<w.heap.size:=λb o x h=>iQm w ⟨b,o,none⟩ (n.mem b o x h);have one : ∀ {q:Ref} {k' c},mf g r k q=some k'->iG ι r ⟨w.heap.size,0,0⟩ q=some c->(q=r/\c.b=w.heap.size)\/(q≠r/\g q=some k'/\ι q=some c/\c.b<w.heap.size):=by
  intro q k' c h j;unfold mf at h;unfold iG at j;split at h;·rename_i e;rw[if_pos e]at j;cases j;exact .inl ⟨e,rfl⟩
  rename_i e;rw[if_neg e]at j;obtain⟨D,s,u⟩:=n.live q k' h;rw[j]at s;cases s;exact .inr ⟨e,h,j,u.lt⟩
 refine⟨⟨λb o x h=>d.cell (n.mem b o x h),λq k' h=>?_,λq O k1 J c D z C H G I=>?_⟩,⟨d.os,d.tape,d.output,by rw[d.heap];simp,λb L _=>d.old b L,λ_ _ _ h=>h,i,λq k' c z C=>?_,λ_ _ _ h => .inl h⟩⟩
 ·unfold mf at h;split at h;·rename_i e;subst e;cases h;exact⟨⟨w.heap.size,0,0⟩,by simp[iG],v.Ud rfl λo x F=>absurd (m _ _ _ F) (xq _)⟩
  obtain⟨c,y,f⟩:=n.live q k' h;exact⟨c,i q c y,f.bD (λ_ _ _ h=>h) i (d.old _ f.lt) f.frozen⟩
 ·rcases one z H with ⟨t,p⟩ | ⟨t,p,B,N⟩<;>rcases one C G with ⟨f1,f2⟩ | ⟨f1,f2,f3,f4⟩
  ·rw[t,f1]
  ·omega
  ·omega
  exact n.inj q O k1 J c D p f2 B f3 I
 rcases one z C with ⟨t,p⟩ | ⟨t,p,B,N⟩
 ·exact .inl (by omega)
 exact .inr ⟨q,k',c,p,B,rfl⟩
def Nf(f:gS M ι g w)(d:r.k=0)(j:ι r=none)(t:TypeId) :
 ∃u w',(Instr.makeMap t none).run P w = .ok u w'/\j4 M ι g w r (.mp r) [pP []] u w':=by
 have b:Eg w (w.alloc (.map #[] 0)) (.map #[] 0):=⟨rfl,rfl,rfl,rfl⟩;obtain⟨m,s⟩:=Ke f j b (k:=pP []) (.inr (.inl ⟨[], #[],rfl,rfl,rfl,by rw[b.heap];simp,rfl,λi n e h=>by simp at h⟩));refine⟨.map (some w.heap.size),w.alloc (.map #[] 0),by simp[Instr.makeMap,run_newObj_alloc],M,iG ι r ⟨w.heap.size,0,0⟩,.mp (l:=⟨w.heap.size,0,0⟩) (by simp[iG]) rfl,by rw[so _ _ d];exact m,by rw[so _ _ d];exact s,?_⟩;intro q c p;have:q≠r:=by intro e;exact p 0 (by simp) (by rw[e];cases r;simp_all)
 simpa [iG,this] using c
def vY{H:aa}{l:Loc}{k:bj}(m:gS M ι H.get w)(T:s9 ι H)(y:ι r=some l)(K:l.esz=0)(p:H.get r=some k){k':bj}{o':Obj}(z:oB M ι (ck w l.b o') l k') :
 gS M ι (H.put r (some k')).get (ck w l.b o')/\uS M ι H.get w M ι (H.put r (some k')).get (ck w l.b o')/\s9 ι (H.put r (some k')):=by
 obtain⟨Y,u,N⟩:=m.live r _ p;rw[y]at u;cases u;have J:k.esz=0:=by rw[<-N.esz];exact K
 have L : ∀o x,M l.b o=some x->False:=by
  intro o x v;have:=m.mem _ _ _ v;rcases(N.objOk J).obj with ⟨_,i⟩ | ⟨_,_,i⟩ | ⟨_,_,_,_,_,_,i⟩
  ·simp[World.cell?,i]at this
  ·simp[World.cell?,i]at this
  simp[World.cell?,i]at this
 have c : ∀q k1,(H.put r (some k')).get q=some k1 ->∃t,H.get q=some t:=by
  intro q k1 d;rw[aa.ab]at d;split at d;·rename_i e;exact⟨_,e ▸ p⟩
  exact⟨k1,d⟩
 refine⟨⟨λb o x v=>?_,λq k1 d=>?_,λq O k1 W f S B I R i V=>?_⟩,⟨rfl,rfl,rfl,by simp[ck],λb _ C=>fu (C r _ l p y),λ_ _ _ h=>h,λ_ _ h=>h,λq k1 f B I=>?_,λ_ _ _ h => .inl h⟩,λq U d=>?_⟩;·have F:l.b≠b:=λe=>L o x (e ▸ v);rw[iQk (w:=w) (fu F)];exact m.mem b o x v
 ·by_cases j:q=r;·subst j;rw[aa.ab,if_pos rfl]at d;cases d;exact⟨l,y,z.Ud K L⟩
  rw[aa.ab,if_neg j]at d;obtain⟨f,s,n⟩:=m.live q k1 d;have D:l.b≠f.b:=λe=>j (m.inj q r k1 _ f l d p s y e.symm);exact⟨f,s,n.bD (λ_ _ _ h=>h) (λ_ _ h=>h) (fu D) n.frozen⟩
 ·obtain⟨t,G⟩:=c q k1 B;obtain⟨X,Q⟩:=c O W I;exact m.inj q O t X f S G Q R i V
 ·obtain⟨t,G⟩:=c q k1 B;exact .inr ⟨q,t,f,G,I,rfl⟩
 rw[aa.ej _ _ _ (by rw[p];rfl)];exact T q U d
def Jk{H:aa}(V:gS M ι H.get w)(hD:s9 ι H){t:TypeId}{m k x y:AV}{um q I:Value}(hm:VR M ι m um)(hk:VR M ι k q)(hx:VR M ι x I){H':aa}(h:jz P H t (some m) (some k) (some x)=some (y,H')) :
 ∃w',(Instr.mapUpdate t um q I).run P w = .ok () w'/\pg M ι H w y H' undef w':=by
 unfold jz at h;split at h
 ·rename_i kt et r' k' x' ht K e2 e3;cases K;cases e2;cases e3;cases hm with | mp hr Z=>
  rename_i l;split at h
  ·rename_i kv u G S;have huk:q=kv:=vR hk G;subst huk;obtain⟨a,f,entries,hg,Y,F,d,U⟩:=BF V S hr Z;have R:l.b<w.heap.size:=(jb.1 Y).1;have J:(getObj l.b).run P w = .ok (.map entries entries.size) w:=by simp[getObj,Sem.run,Y]
   have L : ∀o,(setObj l.b o).run P w = .ok () (ck w l.b o):=by intro o;simp[setObj,Sem.run,Y,ck]
   split at h
   ·rename_i ks O;have p:=U ks O;split at h
    ·rename_i i N;rw[p]at N;obtain⟨X,h⟩:=eY.1 h;cases h;obtain⟨T,_,h3⟩:=tu N w;obtain⟨e,he,Q⟩:=h3 i rfl;have s:entries[i]?=some e:=by simpa using he
     have hil:i<entries.size:=(jb.1 s).1;have W:Instr.sameBits 10000 e.key q=true:=(by rw[p]at X;simp only[mr,Gw,s,Option.map_some,ef]at X;exact X);have C:(Instr.keyThatStays (((entries[i]?).map (·.key)).getD q) q).run P w = .ok q w:=(by rw[s];simp[Instr.keyThatStays,W]);refine⟨ck w l.b (.map (entries.modify i λe => { e with key:=q,val:=I}) entries.size),by simp only[Instr.mapUpdate,iQf,bu (zC ht),iQd,J,T,Q,C,L],M,ι,.v rfl,?_⟩;refine vY V hD hr Z hg (.inr (.inl ⟨u.set i (.tup [k,x]),entries.modify i λe => { e with key:=q,val:=I},rfl,rfl,rfl,?_,by simp[F],λj D K n c=>?_⟩));·rw[gY R];simp
     rw[GU]at c;by_cases B:i=j;·subst B;rw[if_pos rfl,s]at c;simp only[Option.map_some,ef]at c;subst c;rw[GW (by omega)]at n;cases n;obtain⟨_,_,_,_,_,hb⟩:=d i _ e (dI (by omega)) s;exact⟨k,x,rfl,G,hx,hb⟩
     rw[if_neg B]at c;rw[GS B]at n;exact d j D K n c
    ·rename_i N;rw[p]at N;cases h;obtain⟨T,h2,_⟩:=tu N w;refine⟨ck w l.b (.map (entries.push { key:=q,val:=I,born:=entries.size}) (entries.size+1)),by simp only[Instr.mapUpdate,iQf,bu (zC ht),iQd,J,T,h2 rfl,L],M,ι,.v rfl,?_⟩;refine vY V hD hr Z hg (.inr (.inl ⟨u++[.tup [k,x]],entries.push { key:=q,val:=I,born:=entries.size},rfl,rfl,rfl,?_,by simp[F],λj D K n c=>?_⟩));·rw[gY R];simp
     rcases fl j entries.size with z | hge
     ·rw[Fo z,<-kD z]at c;rw[jU (by omega)]at n;exact d j D K n c
     rw[gU (by omega)]at n;have hj0:j=entries.size:=(by have:=(ee.1 n).1;simp at this;omega);subst hj0;simp only[F,pV,KW,ef]at n;subst n;simp at c;subst c;exact⟨k,x,rfl,G,hx,rfl⟩
    cases h
   cases h
  cases h
 cases h
def K5{H:aa}(hS:gS M ι H.get w)(hD:s9 ι H){t:TypeId}{m k y:AV}{um F:Value}(hm:VR M ι m um)(hk:VR M ι k F){H':aa}(h:qR P H t (some m) (some k)=some (y,H')) :
 ∃u w',(Instr.mapEntry t um F).run P w = .ok u w'/\pg M ι H w y H' u w':=by
 have T : ∀ {v:AV} {u:Value} (n:Nat),VR M ι v u->VR M ι (.tup [v,.v (.int .i64 n)]) (.tuple #[u,goInt n]):=by
  intro v u n I;refine .tup (by simp) rfl λi c u' G S=>?_;match i with
  | 0=>simp at G S;subst G;subst S;exact I
  | 1=>simp at G S;subst G;subst S;exact .v rfl
  | i+2=>simp at G
 unfold qR at h;split at h
 ·rename_i kt et r' k' ht V e2;cases V;cases e2;cases hm with | mp hr hz=>
  rename_i l;split at h
  ·rename_i kv p R hma;have huk:F=kv:=vR hk R;subst huk;obtain⟨a,f,entries,hg,hh,J,s,hks⟩:=BF hS hma hr hz;have hlt:l.b<w.heap.size:=(jb.1 hh).1;have U:(getObj l.b).run P w = .ok (.map entries entries.size) w:=by simp[getObj,Sem.run,hh]
   have W : ∀o,(setObj l.b o).run P w = .ok () (ck w l.b o):=by intro o;simp[setObj,Sem.run,hh,ck]
   split at h
   ·rename_i ks Y;have C:=hks ks Y;split at h
    ·rename_i i X;rw[C]at X;obtain⟨G,h⟩:=eY.1 h;obtain⟨v,I,h⟩:=bI.1 h;cases h;obtain⟨h1,_,h3⟩:=tu X w;obtain⟨e,he,Z⟩:=h3 i rfl;have q:entries[i]?=some e:=by simpa using he
     have hil:i<entries.size:=(jb.1 q).1;have hsb:Instr.sameBits 10000 e.key F=true:=(by rw[C]at G;simp only[mr,Gw,q,Option.map_some,ef]at G;exact G);have O:(Instr.keyThatStays (((entries[i]?).map (·.key)).getD F) F).run P w = .ok F w:=(by rw[q];simp[Instr.keyThatStays,hsb]);obtain⟨D,L,I⟩:=iF.1 I;obtain⟨ka,va,q1,q2,q3,q4⟩:=s i D e L q;subst q1;simp only[LS,ef]at I;subst I;refine⟨.tuple #[e.val,goInt i],ck w l.b (.map (entries.modify i λe => { e with key:=F}) entries.size),?_,M,ι,T i q3,?_⟩
     ·have Q:(Option.map (λx:MapEntry=>(x.born:Int)) entries[i]?).getD 0=(i:Int):=by rw[q];simp[q4]
      simp only[Instr.mapEntry,iQf,iQj,bu (zC ht),iQd,U,h1,Z,O,W,Q]
     refine vY hS hD hr hz hg (.inr (.inl ⟨p.set i (.tup [k,va]),entries.modify i λe => { e with key:=F},rfl,rfl,rfl,?_,by simp[J],λj D V B d=>?_⟩));·rw[gY hlt];simp
     rw[GU]at d;by_cases N:i=j;·subst N;rw[if_pos rfl,q]at d;simp only[Option.map_some,ef]at d;subst d;rw[GW (by omega)]at B;cases B;exact⟨k,va,rfl,R,q3,q4⟩
     rw[if_neg N]at d;rw[GS N]at B;exact s j D V B d
    ·rename_i X;rw[C]at X;obtain⟨z,hzz,h⟩:=bI.1 h;cases h;obtain⟨h1,h2,_⟩:=tu X w;obtain⟨uz,S,I⟩:=yE hzz w;refine⟨.tuple #[uz,goInt p.length],ck w l.b (.map (entries.push { key:=F,val:=uz,born:=entries.size}) (entries.size+1)),?_,M,ι,T p.length (jB I),?_⟩;·simp only[Instr.mapEntry,iQf,iQj,bu (zC ht),iQd,U,h1,h2 rfl,S,W,J]
     refine vY hS hD hr hz hg (.inr (.inl ⟨p++[.tup [k,z]],entries.push { key:=F,val:=uz,born:=entries.size},rfl,rfl,rfl,?_,by simp[J],λj D V B d=>?_⟩));·rw[gY hlt];simp
     rcases fl j entries.size with K | hge
     ·rw[Fo K,<-kD K]at d;rw[jU (by omega)]at B;exact s j D V B d
     rw[gU (by omega)]at B;have hj0:j=entries.size:=(by have:=(ee.1 B).1;simp at this;omega);subst hj0;simp only[J,pV,KW,ef]at B;subst B;simp at d;subst d;exact⟨k,z,rfl,R,jB I,rfl⟩
    cases h
   cases h
  cases h
 cases h
def Hb{H:aa}(O:gS M ι H.get w)(hD:s9 ι H){t:TypeId}{m s x y:AV}{S us B:Value}(hm:VR M ι m S)(V:VR M ι s us)(U:VR M ι x B){H':aa}(h:lR H (some m) (some s) (some x)=some (y,H')) :
 ∃w',(Instr.entryStore t S us B).run P w = .ok () w'/\pg M ι H w y H' undef w':=by
 unfold lR at h;split at h
 ·rename_i r' kd n x' F e2 Z;cases F;cases e2;cases Z;cases hm with | mp T Q=>
  rename_i l;cases V;split at h
  ·rename_i u C;obtain⟨hn,h⟩:=eY.1 h;split at h
   ·rename_i R va z;cases h;obtain⟨a,f,entries,hg,J,L,d,_⟩:=BF O C T Q;have N:l.b<w.heap.size:=(jb.1 J).1;have D:(getObj l.b).run P w = .ok (.map entries entries.size) w:=by simp[getObj,Sem.run,J]
    have I : ∀o,(setObj l.b o).run P w = .ok () (ck w l.b o):=by intro o;simp[setObj,Sem.run,J,ck]
    have i:n.toNat<entries.size:=by have:=(ee.1 z).1;omega
    have born : ∀j (p:j<entries.size),entries[j].born=j:=(by intro j p;obtain⟨_,_,_,_,_,Y⟩:=d j _ entries[j] (dI (by omega)) (kD p);exact Y);have G:entries.findIdx? (λe=>(e.born:Int) == n)=some n.toNat:=by
     rw[Array.findIdx?_eq_some_iff_getElem];refine⟨i,?_,λj p=>?_⟩;·rw[born _ i];simp;omega
     rw[born j (by omega)];simp;omega
    obtain⟨W,va',X,q2,q3,q4⟩:=d n.toNat _ entries[n.toNat] z (kD i);cases X;refine⟨ck w l.b (.map (entries.modify n.toNat λe => { e with val:=B}) entries.size),?_,M,ι,.v rfl,?_⟩;·simp only[Instr.entryStore,iQf,iQj,iQd,D,asInt,asIntOf,G,I]
    refine vY O hD T Q hg (.inr (.inl ⟨u.set n.toNat (.tup [R,x]),entries.modify n.toNat λe => { e with val:=B},rfl,rfl,rfl,?_,by simp[L],λj K F p c=>?_⟩));·rw[gY N];simp
    rw[GU]at c;by_cases q:n.toNat=j;·subst q;rw[if_pos rfl,kD i]at c;simp only[Option.map_some,ef]at c;subst c;rw[GW (by omega)]at p;cases p;exact⟨R,x,rfl,q2,U,q4⟩
    rw[if_neg q]at c;rw[GS q]at p;exact d j K F p c
   cases h
  cases h
 cases h
def IW{g:cV}{r:Ref}{cap:Nat}{d:Bool}{b:List AV}(h:Xk g r=some (cap,d,b)) :
 ∃n f,g r=some ⟨0,.v (.bool false) :: .v (.int .i64 n) :: .v (.bool d) :: b,false,f⟩/\n.toNat=cap:=by
 unfold Xk at h;split at h;·rename_i n e c f i;cases h;exact⟨n,f,i,rfl⟩
 cases h
def LY(C:gS M ι g w){r:Ref}{l:Loc}(F:ι r=some l){cap:Nat}{m:Bool}{d:List AV}(h:Xk g r=some (cap,m,d)) :
 ∃s t arr,w.heap[l.b]?=some (.chan cap arr m s t false)/\arr.size=d.length /\∀(i:Nat) x u,d[i]?=some x->arr[i]?=some u->VR M ι x u:=by
 obtain⟨n,f,y,J⟩:=IW h;obtain⟨K,j,D⟩:=C.live r _ y;rw[F]at j;cases j;rcases D.objOk rfl with ⟨_,_,_,_,_,_,_,_,_,e,_⟩ | ⟨_,_,_,_,e,_⟩ | ⟨c,s,t,H,p,arr,_,_,e,z,B,q⟩
 ·simp at e
 ·simp at e
 simp only[wR,AV.v.injEq,iQD,Value.bool.injEq,iQs]at e;obtain⟨L,I,G⟩:=e;subst I G;have:c=cap:=by omega
 subst this;exact⟨s,t,arr,z,B,q⟩
def Lw(F:gS M ι g w)(y:r.k=0)(G:ι r=none){t e:TypeId}{b:Nat}(f:MK P t=some e)(v:gP P e=some b)(k:IntKind)(n:Nat)(D:n<=1000000)(m:b<=1000000) :
 ∃u w',(Instr.makeChan t (.int k n)).run P w = .ok u w'/\j4 M ι g w r (.ch r) [IV n false []] u w':=by
 unfold MK at f;split at f
 ·rename_i z I B;cases f;unfold gP at v;obtain⟨i,hi,j⟩:=bI.1 v;have d:Eg w (w.alloc (.chan n #[] false 0 0 false)) (.chan n #[] false 0 0 false):=⟨rfl,rfl,rfl,rfl⟩;obtain⟨s,H⟩:=Ke F G d (k:=IV n false []) (.inr (.inr ⟨n,0,0,false,[], #[],rfl,rfl,rfl,by rw[d.heap];simp,rfl,λi x u h=>by simp at h⟩));have c:(i.bytes:Int) * n<=281474976710544:=by
   have J:i.bytes * n<=1000000 * 1000000:=Nat.mul_le_mul (j ▸ m) D;have s:((i.bytes * n:Nat):Int)=(i.bytes:Int) * n:=by simp
   omega
  refine⟨_,_,Go.Conc.run_makeChan B hi k n (by omega) c,M,iG ι r ⟨w.heap.size,0,0⟩,.ch (l:=⟨w.heap.size,0,0⟩) (by simp[iG]) rfl,by rw[so _ _ y];exact s,by rw[so _ _ y];exact H,?_⟩;intro q p C;have:q≠r:=by intro e;exact C 0 (by simp) (by rw[e];cases r;simp_all)
  simpa [iG,this] using p
 cases f
def HE(w:World)(c cap:Nat)(b:Array Value)(d:Bool)(s r:Nat):w.setChan c cap b d s r false=ck w c (.chan cap b d s r false):=rfl
def Jf(P:Program)(o:Oper)(a:Act)(w:World)(S:Value->World->Prop):Prop:=
 ∀(b:Frame)(k:List Item)(cs:List Frame)(ops:Array Oper)(i:Nat)(rest:List Nat),b.kind = .normal->ops[i]?=some o->Region.wanted o (yielded ops a.tmps)=true ->
  ∃u w',S u w'/\step P (lone (b.atR a (.inRegion ops (i :: rest) :: k)) cs w) = .next (lone (b.atR (a.put o.dst u) (.inRegion ops rest :: k)) cs w')
def AM{P:Program}{b:Frame}{a:Act}{k:List Item}{cs:List Frame}{w w':World}{ops:Array Oper}{i:Nat}{rest:List Nat}{o:Oper}{cases:Array CommCase}{shape:CommShape}(j:b.kind = .normal)(h:ops[i]?=some o)
 (f:Region.wanted o (yielded ops a.tmps)=true) (hd : ∀c,o.op ≠ .defer c) (m:(execOp a.eval o).run P w = .ok (.comm cases true shape) w') :
 ∃es,stepG P true (Go.Conc.G (b.atR a (.inRegion ops (i :: rest) :: k)) cs) w = .comm (Go.Conc.G (b.atR a (.inRegion ops (i :: rest) :: k)) cs) cases true shape w' es:=by
 have e:=stepGR_op (P:=P) (b:=b) (k:=k) (cs:=cs) (w:=w) (rest:=rest) h f;rw[Oper.semAt_eq _ _ _ hd]at e;unfold Go.Conc.G;rw[e];have d:(b.kind == CallKind.early)=false:=by rw[j];rfl
 refine⟨Go.Conc.listed P b.fn a o w,?_⟩;simp[stepG.apply,m,Frame.atR,d,GStep.after,Go.Conc.listed]
def UL{P:Program}{o:Oper}{a:Act}{H:aa}(O:gS M ι H.get w)(hD:s9 ι H){F m:Operand}(B:o.op = .send F m){c x y:AV}{H':aa}(Q:VR M ι c (a.eval F))(U:VR M ι x (a.eval m))
 (h:G9 H (some c) (some x)=some (y,H')):Jf P o a w λu w'=>pg M ι H w y H' u w':=by
 unfold G9 at h;split at h
 ·rename_i r x' Y e2;cases Y;cases e2;split at h
  ·rename_i cap e q;obtain⟨⟨hlt,hfl⟩,h⟩:=eY.1 h;cases h;generalize G:a.eval F=cv at Q;cases Q with | @ch _ _ l T hz=>
   obtain⟨s,t,arr,R,K,L⟩:=LY O T q;obtain⟨n,f,hg,_⟩:=IW q;have X:l.b<w.heap.size:=(jb.1 R).1;intro b k cs ops i rest V S hw;obtain⟨es,N⟩:=AM (P:=P) (b:=b) (a:=a) (k:=k) (cs:=cs) (w:=w) (w':=w) (rest:=rest) (cases := #[Go.Conc.scase l.b (a.eval m) (.tuple #[])]) (shape := .send) V S hw (by simp[B]) (by simp[execOp,B,Go.Conc.scase,G]);have C:=Go.Conc.step_lone_send_room N R (by omega);obtain⟨k1,W,Z⟩:=vY O hD T hz hg (k':=IV cap false (e++[x])) (o' := .chan cap (arr.push (a.eval m)) false (s+1) t false)
    (.inr (.inr ⟨cap,s+1,t,false,e++[x],arr.push (a.eval m),rfl,rfl,rfl,gY X,by simp[K],λj z u d p=>by
     rcases fl j e.length with D | D
     ·rw[jU D]at d;rw[Fo (by omega)]at p;exact L j z u d (by rw[<-p];exact kD (by omega))
     rw[gU D]at d;have J:j - e.length=0:=(by have:=(ee.1 d).1;simp at this;omega);rw[J]at d;have I:j=arr.size:=by omega
     rw[I,Array.getElem?_push_size]at p;simp at d p;subst d p;exact U⟩))
   refine⟨undef,_,⟨M,ι,.v rfl,k1,W,Z⟩,?_⟩;rw[Go.Conc.lone_eq_solo,C,iQq,S,Go.Conc.lone_eq_solo,HE];rfl
  cases h
 cases h
def RM{M:Mem}{ι:Map}{x:AV}{u:Value}(ok b:Bool)(h:VR M ι x u):VR M ι (adE ok x b) (Go.Conc.got ok u b):=by
 cases ok with| false=>exact h| true=>
  refine .tup (by simp) rfl λi c v d e=>?_;match i with
  | 0=>simp at d e;subst d e;exact h
  | 1=>simp at d e;subst d e;exact .v rfl
  | i+2=>simp at d
def UM{P:Program}{o:Oper}{a:Act}{H:aa}(N:gS M ι H.get w)(hD:s9 ι H){t:TypeId}{S:Operand}{ok:Bool}(C:o.op = .recv t S ok){c y:AV}{H':aa}(hc:VR M ι c (a.eval S))
 (h:JW P H t (some c) ok=some (y,H')):Jf P o a w λu w'=>pg M ι H w y H' u w':=by
 unfold JW at h;split at h
 ·rename_i r z e1 B;cases e1;generalize T:a.eval S=cv at hc;cases hc with | @ch _ _ l Y hz=>
  obtain⟨e,he,K⟩:=iF.1 B;unfold MK at he;split at he
  ·rename_i dir e' G;cases he;unfold eu at K;obtain⟨v0,R,X⟩:=iF.1 K;obtain⟨inf,hi,V⟩:=iF.1 R;have Z:VR M ι z v0:=jB X;have q:(execOp a.eval o).run P w = .ok (.comm #[Go.Conc.rcase l.b v0] true (.recv ok)) w:=by
    simp[execOp,C,Go.Conc.rcase,T,run_underlying G,zeroValue,typeInfo,hi,V]
   split at h
   ·rename_i cap W x J d;cases h;obtain⟨s,t',arr,O,m,D⟩:=LY N Y d;obtain⟨n,f,hg,_⟩:=IW d;have hb:l.b<w.heap.size:=(jb.1 O).1;have p:0<arr.size:=by rw[m];simp
    intro b k cs ops i rest Q L U;obtain⟨es,F⟩:=AM (P:=P) (b:=b) (a:=a) (k:=k) (cs:=cs) (w:=w) (w':=w) (rest:=rest) Q L U (by simp[C]) q;have v:=Go.Conc.step_lone_recv_buf ok F O p;obtain⟨k1,k2,k3⟩:=vY N hD Y hz hg (k':=IV cap W J) (o' := .chan cap (arr.extract 1 arr.size) W s (t'+1) false)
     (.inr (.inr ⟨cap,s,t'+1,W,J,arr.extract 1 arr.size,rfl,rfl,rfl,gY hb,by simp[m],λj z u I G=>by
      refine D (j+1) z u (by simpa using I) ?_;have hj:=(ee.1 I).1;rw[Array.getElem?_extract]at G;rw[Nat.add_comm j 1];split at G;·exact G
      cases G⟩))
    refine⟨_,_,⟨M,ι,RM ok true (D 0 x (arr.getD 0 undef) rfl (by simp[Array.getD,p])),k1,k2,k3⟩,?_⟩;rw[Go.Conc.lone_eq_solo,v,iQq,L,Go.Conc.lone_eq_solo,HE];rfl
   ·rename_i cap d;cases h;obtain⟨s,t',arr,O,m,D⟩:=LY N Y d;have ha:arr = #[]:=Mm (by simpa using m);subst ha;intro b k cs ops i rest Q L U;obtain⟨es,F⟩:=AM (P:=P) (b:=b) (a:=a) (k:=k) (cs:=cs) (w:=w) (w':=w) (rest:=rest) Q L U (by simp[C]) q;have v:=Go.Conc.step_lone_recv_shut ok F O;refine⟨_,_,⟨M,ι,RM ok false Z,N,uS.refl,hD⟩,?_⟩;rw[Go.Conc.lone_eq_solo,v,iQq,L,Go.Conc.lone_eq_solo];rfl
   cases h
  cases he
 cases h
def RB{P:Program}{o:Oper}{a:Act}{w:World}{K:Act->World->Prop}{ops:Array Oper}{i:Nat}(u:ops[i]?=some o)(C:Region.wanted o (yielded ops a.tmps)=true)(b:Frame)
 (h:o.wpIn (FW b.roundOf) 0 P a w K (λ_ _ _=>False)) (rest:List Nat) (k:List Item) (cs:List Frame) :
 ∃B w',K B w'/\Steps P (lone (b.atR a (.inRegion ops (i :: rest) :: k)) cs w) (lone (b.atR B (.inRegion ops rest :: k)) cs w'):=by
 obtain⟨_,h⟩:=h;have s:=stepGR_op (P:=P) (b:=b) (k:=k) (cs:=cs) (w:=w) (rest:=rest) u C;have j : ∀v,(b.atR a (.inRegion ops (i :: rest) :: k)).finish v=b.atR (a.put o.dst v) (.inRegion ops rest :: k):=by
  intro v;rw[iQq,u];rfl
 have m : ∀n,(FW b.roundOf).room n:=λn _ h=>by simp[FW,Fence.wide]at h
 rw[show(FW b.roundOf).round=b.roundOf from rfl]at h;unfold Oper.uponIn at h;split at h;·rename_i v w' p;refine⟨_,_,h,.one (iQo ?_)⟩;rw[s,<-j];simp[stepG.apply,p]
 ·rename_i w' p;refine⟨_,_,h,.one (iQo ?_)⟩;rw[s,<-j];simp[stepG.apply,p]
 ·rename_i d w' p;refine⟨_,_,h,.one (iQo ?_)⟩;have D:({ b.atR a (.inRegion ops (i :: rest) :: k)with defers:=d :: a.defers}:Frame).finish undef =
   b.atR ({ a with defers:=d :: a.defers}.put o.dst undef) (.inRegion ops rest :: k):=by
   have y:=iQq b { a with defers:=d :: a.defers} ops i rest k undef;rw[u]at y;exact y
  rw[s];simp only[stepG.apply,Sem.runT_eq,p,GStep.bare_after];exact iQg (λfr=>GStep.go { frame:=fr,callers:=cs,status := .running,dying:=none} w') D
 ·rename_i f args w' p;obtain⟨_,G,h⟩:=h;obtain⟨e,z,fr,q,t,_,F⟩:=h (b.atR a (.inRegion ops (i :: rest) :: k) :: cs) (m _);have c:step P (lone (b.atR a (.inRegion ops (i :: rest) :: k)) cs w) = .next (lone (Frame.enter P f args .normal) (b.atR a (.inRegion ops (i :: rest) :: k) :: cs) w'):=
   iQo (by rw[s];simp[stepG.apply,p,Frame.atR])
  cases e with| returned v=>refine⟨_,_,q,iQn (.one c) (iQn (iQx t) (.one ?_))⟩;rw[<-j];exact step_leave_returned F| panicked chain=>exact q.elim| outgrown=>obtain⟨_,_,x⟩:=q;exact x.elim
 ·rename_i row args w' p;obtain⟨_,h⟩:=h;obtain⟨v,z,q,t⟩:=h (b.atR a (.inRegion ops (i :: rest) :: k)) cs (m _);have c:step P (lone (b.atR a (.inRegion ops (i :: rest) :: k)) cs w) = .next (lone (Frame.ofRow P row args .normal) (b.atR a (.inRegion ops (i :: rest) :: k) :: cs) w'):=
   iQo (by rw[s];simp[stepG.apply,p,Frame.atR])
  refine⟨_,_,q,iQn (.one c) ?_⟩;rw[<-j];exact iQx t
 ·rename_i l f tmps assign body w' p;obtain⟨_,_,h⟩:=h;obtain⟨e,z,q,t⟩:=h (b.atR a (.inRegion ops (i :: rest) :: k)) cs (m _);have c:step P (lone (b.atR a (.inRegion ops (i :: rest) :: k)) cs w) = .next (lone (Frame.round l f tmps assign body .normal) (b.atR a (.inRegion ops (i :: rest) :: k) :: cs) w'):=
   iQo (by rw[s];simp[stepG.apply,p,Frame.atR])
  cases e with| returned v=>refine⟨_,_,q,iQn (.one c) ?_⟩;rw[<-j];exact iQx t| panicked chain=>exact q.elim| outgrown=>obtain⟨_,_,x⟩:=q;exact x.elim
 ·exact h.elim
 exact h.elim
end
end
section
def jh(r:Ref)(b:List Loc):Map:=λq=>if q.d=r.d/\q.t=r.t/\q.g=r.g then b[q.k]? else none
structure z5 (M:Mem) (w:World) (y:AV) (v:Value) (M':Mem) (w':World):Prop where
 os:w'.os=w.os
 tape:w'.tape=w.tape
 output:w'.output=w.output
 size:w.heap.size<=w'.heap.size
 old : ∀b,b<w.heap.size->w'.heap[b]?=w.heap[b]?
 mem : ∀b o x,M b o=some x->M' b o=some x
 sound : ∀b o x,M' b o=some x->w'.cell? ⟨b,o,none⟩=some x
 new : ∀b o x,M' b o=some x->M b o=some x\/w.heap.size<=b
 res : ∀r:Ref,∃ls:List Loc,ls.length=(ao r depth y []).2.length/\VR M' (jh r ls) (ao r depth y []).1 v /\
  (∀(k:Nat) l b,ls[k]?=some l->(ao r depth y []).2[k]?=some b->pM M' (jh r ls) w' l b/\w.heap.size<=l.b) /\
  ∀(i j:Nat) l l',ls[i]?=some l->ls[j]?=some l'->l.b=l'.b->i=j
def j5(P:Program)(f:FuncId)(args:List AV)(y:AV):Prop:=
 (∃fn,P.funcs[f]?=some fn/\(fn.name == "runtime.NumGoroutine")=false/\fn.body.isSome=true) /\
 ∀(M:Mem)(w:World)(us:List Value),(∀b o x,M b o=some x->w.cell? ⟨b,o,none⟩=some x)->mc M dO args us ->
  Calls P f us.toArray w λe w' =>∃v M',e = .returned v/\z5 M w y v M' w'
def jd(P:Program):uY->List AV->aa->AV->aa->Prop
 | .fn f,args,H,y,H'=>
  (∃fn,P.funcs[f]?=some fn/\(fn.name == "runtime.NumGoroutine")=false/\fn.body.isSome=true) /\
  ∀(M:Mem)(ι:Map)(w:World)(us:List Value),gS M ι H.get w->s9 ι H->mc M ι args us ->
   Calls P f us.toArray w λe w' =>∃v,e = .returned v/\pg M ι H w y H' v w'
 | .yld r,args,H,y,H' =>∀(M:Mem)(ι:Map)(w:World)(us:List Value)(l:Loc),gS M ι H.get w->s9 ι H->mc M ι args us->ι r=some l ->
  ∃fn tmps assign body,(Instr.yield l.b us.toArray).run P w = .ok (.round l.b fn tmps assign body) w /\
   RoundIn (FW none) 0 P l.b fn tmps assign body w λe w' =>∃v,e = .returned v/\pg M ι H w y H' v w'
def DX{M M':Mem}{ι A:Map} : ∀(n:Nat)(x:AV)(u:Value),flat n x=true->VR M ι x u->VR M' A x u:=by
 intro n;induction n with
 | zero=>intro x u h;simp[flat]at h
 | succ n f=>
  intro x u h q;cases q with
  | v p=>exact .v p
  | agg m e=>simp only[flat,gf]at h;exact .agg m λi c u b d=>f c u (h c (dJ b)) (e i c u b d)
  | tup t m e=>simp only[flat,gf]at h;exact .tup t m λi c u b d=>f c u (h c (dJ b)) (e i c u b d)
  | ifc e=>exact .ifc (f _ _ (by simpa [flat] using h) e)
  | fn y s e j=>simp only[flat,bo,gf]at h;exact .fn y s (λi c u b d=>f c u (h.1 c (dJ b)) (e i c u b d)) λi c u b d=>f c u (h.2 c (dJ b)) (j i c u b d)
  | yld=>simp[flat]at h
  | mp=>simp[flat]at h
  | ch=>simp[flat]at h
  | Aj=>simp[flat]at h
  | bg=>simp[flat]at h
  | bk=>simp[flat]at h
  | dsl=>simp[flat]at h
  | ptr=>simp[flat]at h
  | iptr=>simp[flat]at h
def xh(r:Ref) : ∀(n m:Nat)(x:AV)(bs:List bj),flat m x=true->ao r n x bs=(x,bs):=by
 intro n;induction n with
 | zero=>intro m x bs h;rfl
 | succ n i=>
  intro m x bs h;have e : ∀(m:Nat)(cs b:List AV),(∀c∈cs,flat m c=true)->cs.foldl (λ(p:List AV × List bj) c=>(p.1++[(ao r n c p.2).1],(ao r n c p.2).2)) (b,bs)=(b++cs,bs):=by
   intro m cs;induction cs with
   | nil=>intro b _;simp
   | cons c cs f=>intro b j;rw[wS,i m c bs (j c (j6 ..))];rw[f (b++[c]) (λd hd=>j d (j7 _ hd))];simp
  cases m with| zero=>simp[flat]at h| succ m=>
   cases x with
   | agg cs=>simp only[flat,gf]at h;have:=e m cs [] h;simp only[ao];rw[this];simp
   | tup cs=>simp only[flat,gf]at h;have:=e m cs [] h;simp only[ao];rw[this];simp
   | nsl=>simp[flat]at h
   | fsl=>simp[flat]at h
   | ifc t x=>simp only[ao];rw[i m x bs (by simpa [flat] using h)]
   | _=>rfl
def Ja{g:cV}{r q:Ref}{bs:List bj}{b:bj}(h:tB g r bs q=some b):(q.d=r.d/\q.t=r.t/\q.g=r.g/\bs[q.k]?=some b)\/(¬(q.d=r.d/\q.t=r.t/\q.g=r.g/\q.k<bs.length)/\g q=some b):=by
 unfold tB at h;split at h;·rename_i c;exact .inl ⟨c.1,c.2.1,c.2.2.1,h⟩
 rename_i c;exact .inr ⟨c,h⟩
def IX{M ι g w}(H:gS M ι g w){r:Ref}(X : ∀k,ι { r with k:=k}=none){y:AV}{v:Value}{M':Mem}{w':World}(h:z5 M w y v M' w') :
 j4 M ι g w r (ao r depth y []).1 (ao r depth y []).2 v w':=by
 obtain⟨ls,Z,hv,W,hi⟩:=h.res r;have J : ∀q l,jh r ls q=some l->ι q=none:=by
  intro q l G;unfold jh at G;split at G
  ·rename_i hc;have:q = { r with k:=q.k}:=by cases q;cases r;simp_all
   rw[this];exact X _
  cases G
 have C : ∀q l,ι q=some l->(λq=>match ι q with | some l=>some l | none=>jh r ls q) q=some l:=by
  intro q l h;simp[h]
 have m : ∀q l,jh r ls q=some l->(λq=>match ι q with | some l=>some l | none=>jh r ls q) q=some l:=by
  intro q l h;simp[J q l h,h]
 have u : ∀q l,(λq=>match ι q with | some l=>some l | none=>jh r ls q) q=some l->ι q=some l\/(ι q=none/\jh r ls q=some l):=by
  intro q l h;simp only at h;split at h;·rename_i R z;exact .inl (by rw[z,h])
  rename_i Q;exact .inr ⟨Q,h⟩
 have j : ∀q b l,tB g r (ao r depth y []).2 q=some b->(λq=>match ι q with | some l=>some l | none=>jh r ls q) q=some l ->
  (g q=some b/\ι q=some l)\/(w.heap.size<=l.b/\jh r ls q=some l/\ls[q.k]?=some l/\q = { r with k:=q.k}):=by
  intro q b l B s;rcases Ja B with ⟨f,n,i,F⟩ | ⟨f,n⟩
  ·right;have p:q = { r with k:=q.k}:=by cases q;cases r;simp_all
   have Q:ι q=none:=by rw[p];exact X _
   rcases u q l s with d | ⟨_,d⟩
   ·rw[Q]at d;cases d
   have V:ls[q.k]?=some l:=by unfold jh at d;rw[if_pos ⟨f,n,i⟩]at d;exact d
   exact⟨(W q.k l b V F).2,d,V,p⟩
  left;obtain⟨Y,e,_⟩:=H.live q b n;rcases u q l s with d | ⟨d,_⟩
  ·exact⟨n,d⟩
  rw[e]at d;cases d
 refine⟨M',λq=>match ι q with | some l=>some l | none=>jh r ls q,hv.mono (λ_ _ _ h=>h) _ m,?_,?_,?_⟩
 ·refine⟨h.sound,?_,?_⟩
  ·intro q b B;rcases Ja B with ⟨f,n,i,F⟩ | ⟨f,n⟩
   ·have D:q.k<ls.length:=by rw[Z];exact(ee.1 F).1
    have I:ls[q.k]?=some ls[q.k]:=dI D;obtain⟨c,hge⟩:=W q.k _ b I F;have O:jh r ls q=some ls[q.k]:=by unfold jh;rw[if_pos ⟨f,n,i⟩];exact I
    refine⟨_,m q _ O,?_⟩;exact c.bD (λ_ _ _ h=>h) m rfl c.frozen
   obtain⟨l,z,c⟩:=H.live q b n;refine⟨l,C q l z,c.bD h.mem C (h.old _ c.lt) ?_⟩;intro o x L;rcases h.new _ _ _ L with i | i
   ·exact c.frozen o x i
   exact absurd c.lt (Gz.2 i)
  intro q T b N l R f n i F d;rcases j q b l f i with ⟨t,K⟩ | ⟨t,K,a3,a4⟩<;>rcases j T N R n F with ⟨b1,b2⟩ | ⟨b1,b2,b3,b4⟩
  ·exact H.inj q T b N l R t b1 K b2 d
  ·obtain⟨Y,e,c⟩:=H.live q b t;rw[K]at e;cases e;exact absurd c.lt (by rw[d];exact Gz.2 b1)
  ·obtain⟨Y,e,c⟩:=H.live T N b1;rw[b2]at e;cases e;exact absurd c.lt (by rw[<-d];exact Gz.2 t)
  have:=hi _ _ _ _ a3 b3 d;rw[a4,b4,this]
 ·refine⟨h.os,h.tape,h.output,h.size,λb S _=>h.old b S,h.mem,C,?_,?_⟩
  ·intro q b l f i;rcases j q b l f i with ⟨t,K⟩ | ⟨t,_⟩
   ·exact .inr ⟨q,b,l,t,K,rfl⟩
   exact .inl t
  intro b o x L;rcases h.new b o x L with f | f
  ·exact .inl f
  exact .inr (.inl f)
 intro q U G;simp only[U];unfold jh;split
 ·rename_i hc;have p:q = { r with k:=q.k}:=by cases q;cases r;simp_all
  have : ¬q.k<(ao r depth y []).2.length:=λD=>G q.k D p;exact xZ (by rw[Z];omega)
 rfl
def JN{M ι g w}(d:gS M ι g w){r:Ref}{y:AV}{v:Value}{t M':Mem}{w':World}(j:flat depth y=true)(h:z5 t w y v M' w'):j4 M ι g w r y [] v w':=by
 obtain⟨ls,z,m,u,hi⟩:=h.res r;rw[xh r depth depth y [] j]at m;refine⟨M,ι,DX depth y v j m,?_,?_,λq f _=>f⟩
 ·rw[nV];refine⟨?_,?_,d.inj⟩;·intro b o x n;have:=d.mem b o x n;rw[iQk (w:=w) (h.old _ (iQm w ⟨b,o,none⟩ this))];exact this
  intro q b f;obtain⟨l,i,c⟩:=d.live q b f;exact⟨l,i,c.bD (λ_ _ _ h=>h) (λ_ _ h=>h) (h.old _ c.lt) c.frozen⟩
 rw[nV];exact⟨h.os,h.tape,h.output,h.size,λb e _=>h.old b e,λ_ _ _ h=>h,λ_ _ h=>h,λq b l p s => .inr ⟨q,b,l,p,s,rfl⟩,λ_ _ _ h => .inl h⟩
def Qm{M M':Mem}{ι A:Map}{e x:AV}{u:Value}{j:Nat}(d:flat depth e=true)(b:e.cells[j]?=some x)(h:VR M ι x u):VR M' A x u:=by
 cases e with
 | agg cs=>
  have f:x∈cs:=dJ b;have : ∀c∈cs,flat 7 c=true:=by simpa [flat,depth] using d
  exact DX 7 x u (this x f) h
 | _=>
  simp only[AV.cells]at b;cases j with
  | zero=>simp at b;subst b;exact DX depth _ u d h
  | succ j=>simp at b
def PT(r:Ref) : ∀(n:Nat)(x:AV)(bs:List bj),Dw n x=true ->∃new,(ao r n x bs).2=bs++new/\(∀b∈new,0<b.esz/\b.arr=true/\b.gR=false /\∀e∈b.es,flat depth e=true) /\
 ∀(M M':Mem)(ι:Map)(u:Value),VR M ι (ao r n x bs).1 u->VR M' ι (ao r n x bs).1 u:=by
 intro n;induction n with
 | zero=>intro x bs h;simp[Dw]at h
 | succ n Q=>
  intro x bs h;have y : ∀(cs s:List AV)(bs:List bj),(∀c∈cs,Dw n c=true) ->∃(new:List bj) (zs:List AV),cs.foldl (λ(p:List AV × List bj) c=>(p.1++[(ao r n c p.2).1],(ao r n c p.2).2)) (s,bs)=(s++zs,bs++new) /\
   (∀b∈new,0<b.esz/\b.arr=true/\b.gR=false /\∀e∈b.es,flat depth e=true) /\∀(M M':Mem)(ι:Map)(z:AV),z∈zs ->∀u,VR M ι z u->VR M' ι z u:=by
   intro cs;induction cs with
   | nil=>intro s bs _;exact⟨[],[],by simp,λb m=>by simp at m,λ_ _ _ z C=>by simp at C⟩
   | cons c cs L=>
    intro s bs q;obtain⟨n1,R,V,X⟩:=Q c bs (q c (j6 ..));obtain⟨n2,zs,b1,b2,b3⟩:=L (s++[(ao r n c bs).1]) (bs++n1) λd hd=>q d (j7 _ hd);refine⟨n1++n2,(ao r n c bs).1 :: zs,?_,?_,?_⟩;·rw[wS];simp only;rw[R,b1];simp
    ·intro b m;rcases mq.1 m with m | m
     ·exact V b m
     exact b2 b m
    intro M M' ι z C u f;rcases fh.1 C with rfl | C
    ·exact X M M' ι u f
    exact b3 M M' ι z C u f
  cases x with
  | v x=>exact⟨[],by simp[ao],λb m=>by simp at m,λM M' ι u f=>by simp only[ao]at f ⊢;cases f with | v D=>exact .v D⟩
  | agg cs=>
   simp only[Dw,gf]at h;obtain⟨new,zs,B,G,F⟩:=y cs [] bs h;simp only[ao];rw[B];refine⟨new,rfl,G,λM M' ι u f=>?_⟩;simp only[sO]at f ⊢;cases f with | agg O H=>
   exact .agg O λi c u q J=>F M M' ι c (dJ q) u (H i c u q J)
  | tup cs=>
   simp only[Dw,gf]at h;obtain⟨new,zs,B,G,F⟩:=y cs [] bs h;simp only[ao];rw[B];refine⟨new,rfl,G,λM M' ι u f=>?_⟩;simp only[sO]at f ⊢;cases f with | tup U O H=>
   exact .tup U O λi c u q J=>F M M' ι c (dJ q) u (H i c u q J)
  | fsl z es cap=>
   simp only[Dw,bo,bne_iff_ne,ne_eq,gf]at h;simp only[ao];rw[if_neg h.1];refine⟨[⟨z,es,true,false⟩],rfl,?_,λM M' ι u f=>?_⟩;·intro b m;rw[mA.1 m];exact⟨Aa h.1,rfl,rfl,h.2⟩
   cases f with | bk T m D W q S K C=>exact .bk T m D W q S K C
  | bg z es cap=>have I:es=[]:=(by simpa [Dw] using h);subst I;refine⟨[],by simp[ao],λb m=>by simp at m,λM M' ι u f=>?_⟩;simp only[ao]at f ⊢;cases f with | bg cell D q K hm he H=>exact .bg cell D q K (λi j B=>by simp at B) he λi j e x B=>by simp at B
  | ifc t x=>obtain⟨new,B,G,F⟩:=Q x bs (by simpa [Dw] using h);simp only[ao];exact⟨new,B,G,λM M' ι u f=>by cases f with | ifc N=>exact .ifc (F M M' ι _ N)⟩
  | _=>simp[Dw]at h
def z5.own{M N M':Mem}{w w':World}{y:AV}{v:Value}(s : ∀b o x,M b o=some x->w.cell? ⟨b,o,none⟩=some x)(H:Dw depth y=true)(h:z5 N w y v M' w'):z5 M w y v M w':=by
 have q : ∀b o x,M b o=some x->b<w.heap.size:=λb o x c=>iQm w ⟨b,o,none⟩ (s b o x c);refine⟨h.os,h.tape,h.output,h.size,h.old,λ_ _ _ h=>h,?_,λ_ _ _ h => .inl h,λr=>?_⟩;·intro b o x c;rw[iQk (w:=w) (h.old _ (q b o x c))];exact s b o x c
 obtain⟨ls,Q,K,F,hi⟩:=h.res r;obtain⟨new,C,O,J⟩:=PT r depth y [] H;refine⟨ls,Q,J M' M _ v K,λk l b D d=>?_,hi⟩;obtain⟨p,n⟩:=F k l b D d;have m:b∈new:=by rw[C,sO]at d;exact dJ d
 obtain⟨S,U,R,G⟩:=O b m;have f : ∀o x,M l.b o=some x->b.gR=true/\o<b.es.length * b.esz:=λo x c=>absurd (q _ _ _ c) (Gz.2 n);refine⟨⟨p.esz,λt=>?_,λt=>by omega,f⟩,n⟩;obtain⟨L,⟨arr,T,fz,d1,d2,d3,d4⟩,I,B,_⟩:=p.cellsOk t;refine⟨L,⟨arr,T,fz,d1,d2,d3,λi j e x z c=>?_⟩,I,B,f⟩;obtain⟨u,f1,f2,f3⟩:=d4 i j e x z c;exact⟨u,f1,f2,Qm (G e (dJ z)) c f3⟩
def Fv{P:Program}{f:FuncId}(d : ∃fn,P.funcs[f]?=some fn/\(fn.name == "runtime.NumGoroutine")=false/\fn.body.isSome=true)(args:Array Value)(w:World) :
 (callFunc f args).run P w = .ok (.enter f args) w:=by
 obtain⟨fn,h,j,c⟩:=d;have i:fn.body≠none:=by intro e;rw[e]at c;cases c
 have b:fn.name ≠ "runtime.NumGoroutine" := by simpa using j
 simp[callFunc,h,b,i]
def E2{P:Program}{a:Act}{o:Oper}{c:Call}{d:Operand}(h:o.op = .call c)(i:c.callee = .value d){f:FuncId}{first captured:Array Value}(b:a.eval d = .func (.func f) first captured)
 (e : ∃fn,P.funcs[f]?=some fn/\(fn.name == "runtime.NumGoroutine")=false/\fn.body.isSome=true) (w:World) :
 (execOp a.eval o).run P w = .ok (.enter f (first++c.args.map a.eval++captured)) w:=by
 simp[execOp,h,resolve,i,b,Deferred.ofValue,invoke,Fv e]
def Mw{M ι g w}(f:gS M ι g w){c e:List AV}{us:List Value}(h:c.mapM (view g depth)=some e)(d:mc M ι c us):mc (lz M ι g w (ct g c)) dO e us:=
 ⟨by rw[hJ h];exact d.1,λi y u j p=>by
  obtain⟨x,b,m⟩:=o6 h i y j;refine Df f depth x y u m ?_ (d.2 i x u b p);intro r n;exact iK.2 ⟨x,dJ b,n⟩⟩
def VR.aae{M ι}{f:FuncId}{a b:List AV}{u:Value}(h:VR M ι (.fn (.func f) a b) u) : ∃m j,u = .func (.func f) m j/\mc M ι a m.toList/\mc M ι b j.toList:=by
 cases h with | fn p n q d=>
 exact⟨_,_,rfl,⟨by simpa using p,λi x u c e=>q i x u c (by simpa using e)⟩,⟨by simpa using n,λi x u c e=>d i x u c (by simpa using e)⟩⟩
def Hv(a b c:Array Value):(a.toList++b.toList++c.toList).toArray=a++b++c:=by
 apply GA;simp
section
variable{E:Env}{M:Mem}{ι:Map}{g:cV}{w:World}{r:Ref}{a:Act}{tm:List AV}{o:Oper}
def V9(p:gS M ι g w)(N:TR M ι tm a)(O : ∀k,ι { r with k:=k}=none){pc:FuncId->List AV->Option AV}(F : ∀f D y,pc f D=some y->j5 E.P f D y)
 {c:Call} {Q:Operand} (U:o.op = .call c) (s:c.callee = .value Q) {args:List AV} (q:c.args.toList.mapM (aP tm)=some args) {x:AV} {bs:List bj} (h:k9 E pc g r (aP tm Q) args=some (x,bs)) :
 fb E.P o a w λu w'=>j4 M ι g w r x bs u w':=by
 unfold k9 at h;split at h
 ·rename_i W first captured H
  split at h;·cases h
  split at h
  ·rename_i D K;split at h
   ·rename_i y T;obtain⟨d,h⟩:=eY.1 h;injection h with h
    obtain⟨S,m⟩:=F W D y T;obtain⟨Z,V,G,L,J⟩:=(aX N H).aae;have i:=mS N q;have C:mc M ι (first++args++captured) (Z.toList++(c.args.map a.eval).toList++V.toList):=(L.append (by simpa using i)).append J;obtain⟨t,Y⟩:=A0 (R:=ct g (first++args++captured)) p;have j:=Mw p K C;have b:=m (lz M ι g w (ct g (first++args++captured))) w _ (zV p.mem) j;rw[Hv]at b;refine fb.Is (E2 U s G S w) (b.mono λe w' ⟨v,M',he,hend⟩=>⟨v,he,?_⟩);by_cases n:flat depth y=true
    ·have hi:=xh r depth depth y [] n;rw[hi]at h;injection h with X h2
     subst X;subst h2;exact JN p n hend
    by_cases z:Dw depth y=true;·have:=IX p O (hend.own p.mem z);rw[h]at this;exact this
    have I:mV g (ct g (first++args++captured))=true:=by
     simp only[jH,bo]at d;rcases d with (s | s) | s
     ·exact absurd s n
     ·exact s
     exact absurd s.2 z
    have B:=NN I;rw[B]at t;have:=IX t O hend;rw[h]at this;exact j4.after B p this
   cases h
  cases h
 cases h
def Mt{H:aa}{d C:Nat}(I:gS M ι H.get w)(Q:s9 ι H)(O:TR M ι tm a){pc:FuncId->List AV->Option AV}(S : ∀f D y,pc f D=some y->j5 E.P f D y)
 {tc:uY->List AV->aa->cR} (K : ∀f D H y H',tc f D H=some (y,H')->jd E.P f D H y H')
 {c:Call} {fo:Operand} (Z:o.op = .call c) (V:c.callee = .value fo) {args:List AV} (m:c.args.toList.mapM (aP tm)=some args) {x:AV} {H':aa}
 (h:nn E pc tc H ⟨d,C,H.gen d C,0⟩ (aP tm fo) args=some (x,H')):fb E.P o a w λu w'=>pg M ι H w x H' u w':=by
 unfold nn at h;split at h
 ·rename_i fi first captured B
  obtain⟨a',b',G,W,hvb⟩:=(aX O B).aae;have j:=mS O m;have t:mc M ι (first++args++captured) (a'.toList++(c.args.map a.eval).toList++b'.toList):=(W.append (by simpa using j)).append hvb;split at h;·obtain⟨Y,L⟩:=K _ _ _ _ _ h;have i:=L M ι w _ I Q t;rw[Hv]at i;exact fb.Is (E2 Z V G Y w) (i.mono λe w' ⟨v,he,hend⟩=>⟨v,he,hend⟩)
  split at h
  ·rename_i D X;simp only[bI]at h;obtain⟨y,F,h⟩:=h;injection h with h1 h2
   obtain⟨Y,z⟩:=S fi D y F;obtain⟨T,N⟩:=A0 (R:=ct H.get (first++args++captured)) I;have s:=Mw I X t;have i:=z (lz M ι H.get w (ct H.get (first++args++captured))) w _ (zV I.mem) s;rw[Hv]at i;refine fb.Is (E2 Z V G Y w) (i.mono λe w' ⟨v,M',he,hend⟩=>⟨v,he,?_⟩);have hD1:s9 ι (cg H (ct H.get (first++args++captured))):=(by intro q l hq;rw[aa.iI];exact Q q l hq);have n:=IX (r:=⟨d,C,H.gen d C,0⟩) T (λk=>Q.fresh d C k) hend;rw[<-aa.dG]at n;have J:H.gen d C=(cg H (ct H.get (first++args++captured))).gen d C:=(aa.iI _ _ _ _).symm;have key:pg (lz M ι H.get w (ct H.get (first++args++captured))) ι (cg H (ct H.get (first++args++captured))) w x H' v w':=(by subst h1;subst h2;rw[J]at n ⊢;exact n.toW hD1);obtain⟨M2,U,k1,k2,k3,k4⟩:=key;refine⟨M2,U,k1,k2,?_,k4⟩;rw[<-aa.dG]at N;exact N.trans k3
  cases h
 ·rename_i q B;have j:=mS O m;have F:=aX O B;generalize hu:a.eval fo=u at F;cases F with | yld hr hz=>
  rename_i l;obtain⟨fn,tmps,assign,body,F,p⟩:=K _ _ _ _ _ h M ι w _ l I Q j hr;refine fb.Wn (l:=l.b) ?_ p;have e1:(c.args.map a.eval:Array Value)=(c.args.toList.map a.eval).toArray:=by rw[<-KL];simp
  rw[<-e1]at F;simp[execOp,Z,resolve,V,hu,Deferred.ofValue,invoke,F]
 cases h
end
end
section
def VR.cut{M M':Mem}{ι:Map}{e:AV}{R:Value}(S:VR M ι e R) : ∀ {A:Map} {u:Value},VR M' A e u->(∀q l,ι q=some l->A q=some l)->VR M' ι e u:=by
 induction S with
 | v h=>intro A u h hi;cases h with | v G=>exact .v G
 | agg U _ t=>
  intro A u h hi;cases h with | agg z p=>
  refine .agg z λi c u f y=>?_;have F:=(ee.1 f).1;exact t i c _ f (kD (by omega)) (p i c u f y) hi
 | tup H U _ t=>
  intro A u h hi;cases h with | tup L z p=>
  refine .tup L z λi c u f y=>?_;have F:=(ee.1 f).1;exact t i c _ f (kD (by omega)) (p i c u f y) hi
 | bg cell G f I hm he _ t=>intro A u h hi;cases h with | bg cell G f I hm he p=>exact .bg cell G f I hm he p
 | bk j N G O f Q I H=>
  intro A u h hi;have m:=hi _ _ j;cases h with | bk b n B s D C x d=>
  rw[m]at b;cases b;exact .bk j n B s D C x d
 | dsl j N G O f Q I H=>
  intro A u h hi;have m:=hi _ _ j;cases h with | dsl b n B s D C x d=>
  rw[m]at b;cases b;exact .dsl j n B s D C x d
 | ptr j H=>
  intro A u h hi;have m:=hi _ _ j;cases h with | ptr b d=>
  rw[m]at b;cases b;exact .ptr j d
 | iptr cell hm he _ t=>intro A u h hi;cases h with | iptr cell hm he p=>exact .iptr cell hm he p
 | fn O N _ _ t K=>
  intro A u h hi;cases h with | fn s n p J=>
  refine .fn s n (λi c u f y=>?_) λi c u f y=>?_;·have F:=(ee.1 f).1;exact t i c _ f (kD (by omega)) (p i c u f y) hi
  have F:=(ee.1 f).1;exact K i c _ f (kD (by omega)) (J i c u f y) hi
 | ifc _ t=>intro A u h hi;cases h with | ifc p=>exact .ifc (t p hi)
 | yld j H=>
  intro A u h hi;have m:=hi _ _ j;cases h with | yld b d=>
  rw[m]at b;cases b;exact .yld j d
 | mp j H=>
  intro A u h hi;have m:=hi _ _ j;cases h with | mp b d=>
  rw[m]at b;cases b;exact .mp j d
 | ch j H=>
  intro A u h hi;have m:=hi _ _ j;cases h with | ch b d=>
  rw[m]at b;cases b;exact .ch j d
 | Aj m=>intro A u h hi;cases h with | Aj T=>exact .Aj T
section
variable{M M':Mem}{ι A:Map}{w w':World}{l:Loc}{k:bj}
def fH.cut(c0:fH M ι w l k)(c:fH M' A w' l k)(hi : ∀q l,ι q=some l->A q=some l):fH M' ι w' l k:=by
 obtain⟨f,_,_,_,_,_,t⟩:=c0.heap;obtain⟨arr,T,fz,s,y,n,m⟩:=c.heap;refine⟨c.esz,⟨arr,T,fz,s,y,n,λi j e x d b=>?_⟩,c.len,c.cells,c.frozen⟩;obtain⟨z,_,_,v0⟩:=t i j e x d b;obtain⟨u,p,v,v1⟩:=m i j e x d b;refine⟨u,p,v,v0.cut v1 ?_⟩;unfold bj.map;split;·exact λ_ _ h=>h
 exact hi
def Jd.cut(c0:Jd M ι w l k)(c:Jd M' A w' l k)(hi : ∀q l,ι q=some l->A q=some l):Jd M' ι w' l k:=by
 obtain⟨D,f,m,z,x,h,F,_,_,b,_,_,_,_,_,v0,_⟩:=c0;obtain⟨n,nt,ps,as,s,tm,r,p,C,e,j,i,u,d,B,v,y⟩:=c;rw[e]at b;simp only[wR,AV.lp.injEq]at b;obtain⟨_,⟨_,_,_,_,_,rfl⟩,_⟩:=b;exact⟨n,nt,ps,as,s,tm,r,p,C,e,j,i,u,d,B,λt=>(v0 t).cut (v t) hi,y⟩
def OC.cut(c0:OC M ι w l k)(c:OC M' A w' l k)(hi : ∀q l,ι q=some l->A q=some l):OC M' ι w' l k:=by
 obtain⟨n,d,_,_,j,_,L,v0⟩:=c0;obtain⟨f,entries,D,I,e,z,s,v⟩:=c;rw[e]at j;simp only[wR,iQs]at j;subst j;refine⟨f,entries,D,I,e,z,s,λi h u b m=>?_⟩;obtain⟨C,B,t,J,y,F⟩:=v i h u b m;have K:=(ee.1 b).1;obtain⟨x,G,p,_,H,_⟩:=v0 i h _ b (kD (by omega));rw[t]at p;simp only[AV.tup.injEq,wR]at p;obtain⟨_,rfl,_⟩:=p;exact⟨C,B,t,J,H.cut y hi,F⟩
def Jg.cut(c0:Jg M ι w l k)(c:Jg M' A w' l k)(hi : ∀q l,ι q=some l->A q=some l):Jg M' ι w' l k:=by
 obtain⟨_,_,_,_,h,f,_,_,d,_,B,v0⟩:=c0;obtain⟨cap,s,r,t,buf,arr,n,y,e,m,j,v⟩:=c;rw[e]at d;simp only[wR,iQs]at d;obtain⟨_,_,rfl⟩:=d;refine⟨cap,s,r,t,buf,arr,n,y,e,m,j,λi x u b p=>?_⟩;have z:=(ee.1 b).1;exact(v0 i x _ b (kD (by omega))).cut (v i x u b p) hi
def oB.cut(c0:oB M ι w l k)(c:oB M' A w' l k)(hi : ∀q l,ι q=some l->A q=some l):oB M' ι w' l k:=by
 rcases c0 with c0 | c0 | c0<;>rcases c with c | c | c
 ·exact .inl (c0.cut c hi)
 ·obtain⟨_,_,_,_,_,_,_,_,_,b,_⟩:=c0;obtain⟨_,_,_,_,e,_⟩:=c;rw[e]at b;simp at b
 ·obtain⟨_,_,_,_,_,_,_,_,_,b,_⟩:=c0;obtain⟨_,_,_,_,_,_,_,_,e,_⟩:=c;rw[e]at b;simp at b
 ·obtain⟨_,_,_,_,_,_,_,_,_,b,_⟩:=c;obtain⟨_,_,_,_,e,_⟩:=c0;rw[e]at b;simp at b
 ·exact .inr (.inl (c0.cut c hi))
 ·obtain⟨_,_,_,_,b,_⟩:=c0;obtain⟨_,_,_,_,_,_,_,_,e,_⟩:=c;rw[e]at b;simp at b
 ·obtain⟨_,_,_,_,_,_,_,_,_,b,_⟩:=c;obtain⟨_,_,_,_,_,_,_,_,e,_⟩:=c0;rw[e]at b;simp at b
 ·obtain⟨_,_,_,_,b,_⟩:=c;obtain⟨_,_,_,_,_,_,_,_,e,_⟩:=c0;rw[e]at b;simp at b
 exact .inr (.inr (c0.cut c hi))
def pM.cut(c0:pM M ι w l k)(c:pM M' A w' l k)(hi : ∀q l,ι q=some l->A q=some l):pM M' ι w' l k:=
 ⟨c.esz,λh=>(c0.cellsOk h).cut (c.cellsOk h) hi,λh=>(c0.objOk h).cut (c.objOk h) hi,c.frozen⟩
def S9{H H':aa}(f:gS M ι H.get w)(x:s9 ι H){y:AV}{v:Value}(m:flat depth y=true)(B : ∀q k,H.get q=some k->H'.get q=some k)(h:pg M ι H w y H' v w'):pg M ι H w y H v w':=by
 obtain⟨s,t,u,c,b,n⟩:=h;refine⟨s,ι,DX depth y v m u,⟨c.mem,λq k i=>?_,f.inj⟩,⟨b.os,b.tape,b.output,b.size,b.chg,b.mem,λ_ _ h=>h,λq k l z C => .inr ⟨q,k,l,z,C,rfl⟩,b.new⟩,x⟩;obtain⟨l,j,p⟩:=f.live q k i;obtain⟨D,d,e⟩:=c.live q k (B q k i);have:=b.map q l j;rw[this]at d;cases d;exact⟨l,j,p.cut e b.map⟩
def Mv{u v:Value}(h:Q7 u v=true):u=v:=by
 unfold Q7 at h;split at h;·simp at h;rw[h]
 ·simp at h;rw[h.1,h.2]
 ·simp at h;rw[h]
 ·simp only[bo]at h;rw[kT h.1,kT h.2]
 ·rfl
 ·rfl
 cases h
def sk{f:AV->AV->Bool}(e : ∀x y,f x y=true->x=y) : ∀(c b:List AV),c.length=b.length->((c.zip b).all λp=>f p.1 p.2)=true->c=b:=by
 intro c;induction c with
 | nil=>intro b h _;exact(Ad h.symm).symm
 | cons x c i=>
  intro b h d;cases b with
  | nil=>simp at h
  | cons y b=>simp only[OL,tU,bo]at d;rw[e x y d.1,i b (by simpa using h) d.2]
def AO{r r':Ref}(h:HW r r'=true):r=r':=by
 unfold HW at h;simp only[bo]at h;cases r;cases r';simp only[Ref.mk.injEq];exact⟨kT h.1.2,kT h.1.1.1,kT h.1.1.2,kT h.2⟩
def Xp : ∀(n:Nat)(x y:AV),Cs n x y=true->x=y:=by
 intro n;induction n with
 | zero=>intro x y h;simp[Cs]at h
 | succ n b=>
  intro x y h;unfold Cs at h;split at h;·rw[Mv h]
  ·simp only[bo]at h;rw[sk b _ _ (kT h.1) h.2]
  ·simp only[bo]at h;rw[sk b _ _ (kT h.1) h.2]
  ·simp only[bo,iQb]at h;rw[sk b _ _ (kT h.1.2) h.2,kT h.1.1.1,h.1.1.2]
  ·simp only[bo,iQb]at h;rw[AO h.1.1.1,kT h.1.1.2,kT h.1.2,h.2]
  ·simp only[bo,iQb]at h;rw[AO h.1.1.1,kT h.1.1.2,kT h.1.2,h.2]
  ·simp only[bo]at h;rw[AO h.1.1,kT h.1.2,kT h.2]
  ·rw[AO h]
  ·rw[AO h]
  ·simp only[bo]at h;rw[kT h.1.1,sk b _ _ (kT h.1.2.1) h.1.2.2,sk b _ _ (kT h.2.1) h.2.2]
  ·simp only[bo]at h;rw[kT h.1,b _ _ h.2]
  cases h
def QE{k k':bj}(h:L3 k k'=true):k=k':=by
 unfold L3 at h;simp only[bo,iQl]at h;cases k;cases k';simp only[bj.mk.injEq];exact⟨kT h.1.1.1.1,sk (Xp 8) _ _ (kT h.1.2) h.2,h.1.1.1.2,h.1.1.2⟩
def get_mem : ∀(H:aa)(q:Ref)(k:bj),H.get q=some k ->∃b,(q,b)∈H:=by
 intro H;induction H with
 | nil=>intro q k h;cases h
 | cons p H d=>
  obtain⟨r,b⟩:=p;intro q k h;simp only[aa.get]at h;split at h;·rename_i e;subst e;exact⟨b,j6 ..⟩
  obtain⟨c,f⟩:=d q k h;exact⟨c,j7 _ f⟩
def NK{H H':aa}(h:IH H H'=true)(q:Ref)(k:bj)(d:H.get q=some k):H'.get q=some k:=by
 obtain⟨b,e⟩:=get_mem H q k d;have:=gf.1 h _ e;simp only[d]at this;split at this;·cases this
 rename_i k' c;rw[c,QE this]
def Mr{b:Bool}{sm:Oz}{H H':aa}{c:cR}{y:AV}(h:sS b sm H c=some (y,H')):c=some (y,H') \/∃d,H'=H/\c=some (y,d)/\flat depth y=true /\∀q k,H.get q=some k->d.get q=some k:=by
 unfold sS at h;split at h;·rename_i f d;obtain⟨e,h⟩:=eY.1 h;cases h;exact .inr ⟨d,rfl,rfl,(xX.1 e).1,(GR.1 (xX.1 e).2).elim NK (sm.ok _ _)⟩
 exact .inl h
end
end
section
def ti(l:List AV)(d t:Nat)(x:AV):df (CP l d x) t=if t=d then x else df l t:=by
 induction l generalizing d t with
 | nil=>
  induction d generalizing t with| zero=>cases t<;>simp[CP,df]| succ d b=>
   cases t with
   | zero=>simp[CP,df]
   | succ t=>simp[CP,df,b]
 | cons y l b=>
  cases d with| zero=>cases t<;>simp[CP,df]| succ d=>
   cases t with
   | zero=>simp[CP,df]
   | succ t=>simp[CP,df,b]
def TR.put{M ι tm a}(e:TR M ι tm a){nt:Nat}(c:a.tmps.size=nt){dst:Option Tmp}{x:AV}{tm':List AV}(h:dx nt tm dst x=some tm'){u:Value}(f:VR M ι x u) :
 TR M ι tm' (a.put dst u)/\(a.put dst u).tmps.size=nt:=by
 unfold dx at h;split at h
 ·injection h with h
  subst h;exact⟨e,c⟩
 rename_i d;obtain⟨hd,h⟩:=eY.1 h;injection h with h
 subst h;refine⟨⟨?_⟩,by simp[Act.put,c]⟩;intro t;rw[ti];simp only[Act.put,Dd];by_cases b:t=d;·subst b;rw[if_pos rfl,Gy (by rw[c];exact hd)];exact f
 rw[if_neg b,BZ (ta b),<-Dd];exact e.at_ t
def j8{M ι tm a}(u:TR M ι tm a){ops:Array Oper}{o:Oper}{b:Bool}(h:wanted ops tm o=some b):Region.wanted o (yielded ops a.tmps)=b:=by
 unfold wanted at h;unfold Region.wanted;split at h
 ·rename_i m;injection h with h
  subst h;rw[m]
 rename_i j e m;rw[m];simp only;split at h
 ·rename_i t f;have d:=u.at_ t;rw[Dd]at d;split at h
  ·rename_i c p;injection h with h
   subst h;rw[p]at d;have:a.tmps[t]?=some (.bool c):=by
    cases i:a.tmps[t]? with| none=>rw[i]at d;cases d| some v=>rw[i]at d;simp only[cB]at d;cases d;rfl
   simp only[yielded,f,eD,this];cases c<;>cases e<;>rfl
  ·rename_i s p;rw[p]at d;obtain⟨q,h⟩:=eY.1 h;injection h with h
   subst h;have n:s = #[]:=by simpa using q
   subst n;have:yielded ops a.tmps j=none:=by
    simp only[yielded,f,eD];cases i:a.tmps[t]? with
    | none=>rfl
    | some v=>rw[i]at d;simp only[cB]at d;cases d;rfl
   rw[this];rfl
  cases h
 rename_i f;injection h with h
 subst h;simp only[yielded,f,GO];rfl
section
variable{E:Env}{M:Mem}{ι:Map}{g:cV}{w:World}{r:Ref}{a:Act}{tm:List AV}{o:Oper}
def rQ{x:Option AV}{y:AV}{bs:List bj}(h:iL x=some (y,bs)):x=some y/\bs=[]:=by
 simp only[iL,bI]at h;obtain⟨z,b,h⟩:=h;injection h with c d
 exact⟨by rw[b,c],d.symm⟩
def fb.same{s:Sem Value}(c:gS M ι g w)(d : ∀b,b=a.eval->execOp b o=(do pure (Next.value (<-s)))){x:AV}{bs:List bj}(h:bs=[] /\∃u,s.run E.P w = .ok u w/\VR M ι x u) :
 fb E.P o a w λu w'=>j4 M ι g w r x bs u w':=by
 obtain⟨rfl,u,e,f⟩:=h;exact fb.ko (by rw[d a.eval rfl];exact HR e) (j4.same c f)
def fb.made{s:Sem Value}(c : ∀b,b=a.eval->execOp b o=(do pure (Next.value (<-s)))){x:AV}{bs:List bj}(h : ∃u w',s.run E.P w = .ok u w'/\j4 M ι g w r x bs u w') :
 fb E.P o a w λu w'=>j4 M ι g w r x bs u w':=by
 obtain⟨u,w',e,d⟩:=h;exact fb.ko (by rw[c a.eval rfl];exact HR e) d
def qZ(ps:Array (Nat × Operand))(b:Operand->Value):(ps.map λ(p:Nat × Operand)=>(p.1,b p.2)).toList=ps.toList.map λp=>(p.1,b p.2):=by simp
def LJ{b:Type}{l:List b}(h:l.length=1) : ∃a,l=[a]:=List.length_eq_one_iff.1 h
def zP{c:Type}{l:List c}(h:l.length=2) : ∃a b,l=[a,b]:=by
 match l,h with
 | [a,b],_=>exact⟨a,b,rfl⟩
def fb.mono{P:Program}{Q b:Value->World->Prop}(h:fb P o a w Q)(c : ∀u w',Q u w'->b u w'):fb P o a w b:=
 λro K R e=>h ro K R λu w' d=>e u w' (c u w' d)
def fH.gR{l:Loc}{k:bj}(h:fH M ι w l k):fH M ι w l { k with gR:=true} :=
 ⟨h.esz,h.heap,h.len,h.cells,λo x b=>⟨rfl,(h.frozen o x b).2⟩⟩
def pM.gR{l:Loc}{k:bj}(h:pM M ι w l k):pM M ι w l { k with gR:=true} :=
 ⟨h.esz,λb=>(h.cellsOk b).gR,λb=>(h.objOk b).same rfl rfl rfl,λo x c=>⟨rfl,(h.frozen o x c).2⟩⟩
def D9{bs:List bj}{q:Ref}{c:bj}(h:tB g r (bs.map λk => { k with gR:=true}) q=some c) : ∃b,tB g r bs q=some b/\(c=b\/c = { b with gR:=true}):=by
 unfold tB at h ⊢;simp only[AF]at h;split at h;·rename_i d;rw[if_pos d];simp only[mr,bI]at h;obtain⟨b,f,e⟩:=h;exact⟨b,f,.inr e.symm⟩
 rename_i d;rw[if_neg d];exact⟨c,h,.inl rfl⟩
def j4.Qi{x:AV}{bs:List bj}{b:Bool}{u:Value}{w':World}(h:j4 M ι g w r x bs u w'):j4 M ι g w r x (Ab.Qi b bs) u w':=by
 cases b with| false=>exact h| true=>
  obtain⟨M',A,z,p,c,y⟩:=h;refine⟨M',A,z,⟨p.mem,λq k m=>?_,λq F k k' l C j n H v G=>?_⟩,⟨c.os,c.tape,c.output,c.size,c.chg,c.mem,c.map,λq k l j n=>?_,c.new⟩,λq m B=>y q m λk s=>B k (by simpa [Ab.Qi] using s)⟩
  ·obtain⟨b,D,e⟩:=D9 m;obtain⟨l,t,f⟩:=p.live q b D;rcases e with rfl | rfl
   ·exact⟨l,t,f⟩
   exact⟨l,t,f.gR⟩
  ·obtain⟨b1,d,_⟩:=D9 j;obtain⟨b2,i,_⟩:=D9 n;exact p.inj q F b1 b2 l C d i H v G
  obtain⟨b1,d,_⟩:=D9 j;exact c.live q b1 l d n
def xP(P:Program)(f:FuncId)(t:TypeId):Prop:=
 ∃fn tR,P.funcs[f]?=some fn/\(fn.name == "runtime.NumGoroutine")=false/\fn.body.isNone=true/\Extern.findNext fn=none/\Extern.find fn=some (Extern.SlicesOverlaps.overlaps #[t,t] #[tR])
def yS(B:gS M ι g w)(C:TR M ι tm a)(hr:r.k=0)(hq : ∀k,ι { r with k:=k}=none){pc:FuncId->List AV->Option AV}(hpc : ∀f xs y,pc f xs=some y->j5 E.P f xs y)
 {W:Bool} (hov:W=false ->∀f t,E.rR f=some t->xP E.P f t) {x:AV} {bs:List bj} (h:cQ E pc W g tm r o=some (x,bs)):fb E.P o a w λu w'=>j4 M ι g w r x bs u w':=by
 have R:ι r=none:=by have:=hq 0;rwa [show({ r with k:=0}:Ref)=r by cases r;simp_all]at this
 unfold cQ at h;split at h;·rename_i y d;obtain⟨q,rfl⟩:=rQ h;exact fb.ko (u:=a.eval y) (w':=w) (by simp[execOp,d]) (j4.same B (aX C q))
 ·rename_i y d;obtain⟨q,rfl⟩:=rQ h;exact fb.ko (u:=a.eval y) (w':=w) (by simp[execOp,d]) (j4.same B (aX C q))
 ·rename_i c y z d;obtain⟨rfl,u,F,I⟩:=V0 (P:=E.P) (w:=w) C h;refine fb.ko (u:=u) (w':=w) ?_ (j4.same B I);simp only[execOp,d];simp only[iQf]at F ⊢;cases X:(asBool (a.eval c)).run E.P w with
  | ok b w1=>
   rw[X]at F;simp only[iQd,iQj]at F ⊢;injection F with J L
   rw[J,L]
  | halt hh w1=>rw[X]at F;cases F
 ·rename_i e d;exact fb.made (λQ m=>by simp only[execOp,d]) (Th B hr R h)
 ·rename_i e y d;cases q:aP tm y with
  | none=>rw[q]at h;simp[Lx]at h
  | some T=>rw[q]at h;exact fb.made (λQ m=>by simp only[execOp,d,m]) (Zq B hr R (aX C q) h)
 ·rename_i t ps d;cases I:ia tm ps.toList with
  | none=>rw[I]at h;simp only[mI]at h;split at h<;>first | cases h | (rename_i J L;cases L)
  | some vs=>
   rw[I]at h;obtain⟨J,L⟩:=sh (ι:=ι) C I;refine fb.same B (s:=Instr.build t (ps.map λ(p:Nat × Operand)=>(p.1,a.eval p.2))) (λQ m=>by simp only[execOp,d,m]) (Tg ?_ ?_ h);·rw[qZ];exact J
   rw[qZ];exact L
 ·rename_i t n ps d;cases I:ia tm ps.toList with
  | none=>rw[I]at h;simp[gx]at h
  | some vs=>
   rw[I]at h;obtain⟨J,L⟩:=sh (ι:=ι) C I;refine fb.made (s:=Instr.buildSlice t n (ps.map λ(p:Nat × Operand)=>(p.1,a.eval p.2))) (λQ m=>by simp only[execOp,d,m]) (Ij B hr R h ?_ ?_);·rw[qZ];exact J
   rw[qZ];exact L
 ·rename_i t y d;cases q:aP tm y with
  | none=>rw[q]at h;simp[ow]at h
  | some T=>rw[q]at h;exact fb.same B (λQ m=>by simp only[execOp,d,m]) (V3 B (aX C q) h)
 ·rename_i y d;unfold Nd at h;split at h
  ·rename_i r' i j q;injection h with h;injection h with J L;subst J;subst L
   have I:=aX C q;refine fb.ko (u:=a.eval y) (w':=w) ?_ (j4.same B I);generalize hu:a.eval y=u at I;cases I;simp[execOp,d,hu]
  ·rename_i n es i j q;injection h with h;injection h with J L;subst J;subst L
   have I:=aX C q;refine fb.ko (u:=a.eval y) (w':=w) ?_ (j4.same B I);generalize hu:a.eval y=u at I;cases I;simp[execOp,d,hu]
  ·rename_i f b c q;injection h with h;injection h with J L;subst J;subst L
   have I:=aX C q;refine fb.ko (u:=a.eval y) (w':=w) ?_ (j4.same B I);generalize hu:a.eval y=u at I;cases I;simp[execOp,d,hu]
  cases h
 ·rename_i op t xo yo ty d;cases hx:aP tm xo with
  | none=>rw[hx]at h;simp[bC]at h
  | some x'=>
   cases q:aP tm yo with| none=>rw[hx,q]at h;simp[bC]at h| some T=>rw[hx,q]at h;exact fb.same B (λQ m=>by simp only[execOp,d,m]) (Zr (aX C hx) (aX C q) h)
 ·rename_i op t y d;cases q:aP tm y with
  | none=>rw[q]at h;simp[Zl,iL]at h
  | some T=>rw[q]at h;exact fb.same B (λQ m=>by simp only[execOp,d,m]) (acR (aX C q) h)
 ·rename_i src dst y d;cases q:aP tm y with
  | none=>rw[q]at h;simp[bY]at h
  | some T=>rw[q]at h;exact fb.made (λQ m=>by simp only[execOp,d,m]) (Ni B hr R (aX C q) h)
 ·rename_i t y d;cases q:aP tm y with
  | none=>rw[q]at h;simp only[zI]at h;split at h<;>simp at h
  | some T=>rw[q]at h;exact fb.same B (λQ m=>by simp only[execOp,d,m]) (Te (aX C q) h)
 ·rename_i f first captured d
  cases J:first.toList.mapM (aP tm) with| none=>rw[J]at h;simp[Ai]at h| some xs=>
   cases L:captured.toList.mapM (aP tm) with
   | none=>rw[J,L]at h;simp[Ai]at h
   | some ys=>
    rw[J,L]at h;obtain⟨rfl,I⟩:=V6 (mS C J) (mS C L) h;refine fb.ko (u := .func f (first.map a.eval) (captured.map a.eval)) (w':=w) (by simp[execOp,d,Instr.makeFunc]) (j4.same B ?_);have e1 : ∀l:Array Operand,(l.toList.map a.eval).toArray=l.map a.eval:=λl=>by apply GA;simp
    rw[e1,e1]at I;exact I
 ·rename_i t l c d;cases hl:aP tm l with
  | none=>rw[hl]at h;simp only[yL,GO]at h;split at h<;>first | cases h | (rename_i J L Z;cases L)
  | some l'=>
   cases X:aP tm c with
   | none=>rw[hl,X]at h;simp only[yL,GO]at h;split at h<;>first | cases h | (rename_i J L Z;cases Z)
   | some c'=>rw[hl,X]at h;exact fb.made (λQ m=>by simp only[execOp,d,m]) (V2 B hr R (aX C hl) (aX C X) h)
 ·rename_i t d;cases h;exact fb.made (s:=Instr.makeMap t none) (λQ m=>by simp only[execOp,d,AG]) (Nf B hr R t)
 ·rename_i t y z ok d;cases q:aP tm y with
  | none=>rw[q]at h;simp only[o4]at h;split at h<;>simp_all
  | some T=>
   cases Y:aP tm z with| none=>rw[q,Y]at h;simp only[o4,GO]at h;split at h<;>simp_all| some z'=>rw[q,Y]at h;exact fb.same B (λQ m=>by simp only[execOp,d,m]) (PJ B (aX C q) (aX C Y) h)
 ·rename_i t y lo hi mx d;cases hwd:(E.wide o && !W) with
  | true=>
   rw[hwd]at h;simp only[iQp]at h;cases q:aP tm y with
   | none=>rw[q]at h;unfold lW at h;split at h<;>simp_all
   | some T=>
    cases J:mJ tm lo with| none=>rw[J]at h;simp[lW]at h| some lo'=>
     cases L:mJ tm hi with
     | none=>rw[L]at h;unfold lW at h;split at h<;>simp_all
     | some hi'=>
      cases Z:mJ tm mx with
      | none=>rw[Z]at h;unfold lW at h;split at h<;>simp_all
      | some mx'=>rw[q,J,L,Z]at h;exact fb.same B (λQ m=>by simp only[execOp,d,m]) (PI B (aX C q) (vp C J) (vp C L) (vp C Z) h)
  | false=>
  rw[hwd]at h;simp only[iQt]at h;cases q:aP tm y with
  | none=>rw[q]at h;simp only[cr]at h;split at h<;>simp at h
  | some T=>
   rw[q]at h;cases J:mJ tm lo with
   | none=>rw[J]at h;simp[cr]at h
   | some lo'=>
    cases L:mJ tm hi with| none=>rw[J,L]at h;simp[cr]at h| some hi'=>
     cases Z:mJ tm mx with
     | none=>rw[J,L,Z]at h;simp[cr]at h
     | some mx'=>rw[J,L,Z]at h;exact fb.same B (λQ m=>by simp only[execOp,d,m]) (Tc B (aX C q) (vp C J) (vp C L) (vp C Z) h)
 ·rename_i t y f d;cases q:aP tm y with
  | none=>rw[q]at h;simp only[iM]at h;split at h<;>(try split at h)<;>simp_all
  | some T=>rw[q]at h;exact fb.same B (λQ m=>by simp only[execOp,d,m]) (JD (aX C q) h)
 ·rename_i t y f d;cases q:aP tm y with
  | none=>rw[q]at h;simp only[tn]at h;split at h<;>simp_all
  | some T=>rw[q]at h;exact fb.same B (λQ m=>by simp only[execOp,d,m]) (Tf (aX C q) h)
 ·rename_i t y z d;cases q:aP tm y with
  | none=>rw[q]at h;simp only[bH]at h;(repeat' split at h)<;>simp_all
  | some T=>
   cases Y:aP tm z with| none=>rw[q,Y]at h;simp[bH]at h| some z'=>rw[q,Y]at h;exact fb.same B (λQ m=>by simp only[execOp,d,m]) (JC B (aX C q) (aX C Y) h)
 ·rename_i t y z d;cases q:aP tm y with
  | none=>rw[q]at h;simp only[xD]at h;split at h<;>simp_all
  | some T=>
   cases Y:aP tm z with| none=>rw[q,Y]at h;simp only[xD,GO]at h;(repeat' split at h)<;>simp_all| some z'=>rw[q,Y]at h;exact fb.same B (λQ m=>by simp only[execOp,d,m]) (Td (aX C q) (aX C Y) h)
 ·rename_i y st want ok d;cases q:aP tm y with
  | none=>rw[q]at h;simp only[BD]at h;split at h<;>simp_all
  | some T=>rw[q]at h;exact fb.same B (λQ m=>by simp only[execOp,d,m]) (PN (st:=st) (aX C q) h)
 ·rename_i y i d;cases q:aP tm y with
  | none=>rw[q]at h;simp[ud]at h
  | some T=>rw[q]at h;exact fb.same B (λQ m=>by simp only[execOp,d,m]) (Nh (aX C q) h)
 ·rename_i c d;split at h;·cases h
  rename_i args S;split at h
  ·rename_i fo X;split at h
   ·rename_i t U;unfold Fz at U;split at U
    ·rename_i fi;obtain⟨fn,tR,f1,f2,f3,f4,f5⟩:=hov rfl fi t U;have H:=mS C S;obtain⟨rfl,rfl,K⟩:=V1 (P:=E.P) (tR:=tR) B H h;have G:(c.args.toList.map a.eval).toArray=c.args.map a.eval:=by apply GA;simp
     rw[G]at K;have hex:(execOp a.eval o).run E.P w = .ok (.value (.bool false)) w:=by
      have h0:=run_callFunc_extern f1 f2 f3 f4 f5 (c.args.map a.eval) w;rw[K]at h0;simp only[iQd]at h0;have e0:(#[]++c.args.map a.eval ++ #[]:Array Value)=c.args.map a.eval:=by simp
      simp[execOp,d,resolve,X,Act.eval,Deferred.ofValue,invoke,h0]
     exact fb.ko hex (j4.same B (.v rfl))
    cases U
   obtain⟨⟨x0,bs0⟩,h0,e⟩:=bI.1 h;cases e;exact(V9 B C hq hpc d X S h0).mono λu w'=>j4.Qi
  ·cases h
  rename_i b X;have H:=mS C S;have K : ∀(s:Sem Value)(us:List Value),(c.args.map a.eval).toList=us->(∀D,builtin b c.argTypes o.type D us.toArray=(do pure (Next.value (<-s)))) ->
   ∀ {u w'},s.run E.P w = .ok u w'->(execOp a.eval o).run E.P w = .ok (.value u) w':=by
   intro s us V hb u w' hs;have e1:c.args.map a.eval=us.toArray:=by rw[<-V]
   simp only[execOp,d,resolve,X,invoke,iQf,iQj,iQd,e1,hb,hs]
  have G:(c.args.map a.eval).toList=c.args.toList.map a.eval:=(by simp);unfold cb at h;split at h;·rename_i r';obtain⟨u,O⟩:=LJ H.1.symm;rw[O]at H;have I:=H.2 0 (.mp r') u rfl rfl;obtain⟨rfl,u',F,N⟩:=PK (ty:=o.type) B I (OZ.1 h).2;exact fb.ko (K _ [u] (by rw[G,O]) (λD=>rfl) F) (j4.same B N)
  ·rename_i y hnm;obtain⟨u,O⟩:=LJ H.1.symm;rw[O]at H;have I:=H.2 0 y u rfl rfl;obtain⟨rfl,u',F,N⟩:=Zm (P:=E.P) (w:=w) (ty:=o.type) I h;exact fb.ko (K _ [u] (by rw[G,O]) (λD=>rfl) F) (j4.same B N)
  ·obtain⟨hm,rfl⟩:=rQ h;obtain⟨u,us,V,u',F,N⟩:=Kg (w:=w) H hm;exact fb.ko (K (us.foldlM Builtin.min2 u) (u :: us) (by rw[G,V]) (λD=>rfl) F) (j4.same B N)
  ·obtain⟨hm,rfl⟩:=rQ h;obtain⟨u,us,V,u',F,N⟩:=Kg (w:=w) H hm;exact fb.ko (K (us.foldlM Builtin.max2 u) (u :: us) (by rw[G,V]) (λD=>rfl) F) (j4.same B N)
  ·rename_i y z;obtain⟨u,v,O⟩:=zP H.1.symm;rw[O]at H;obtain⟨u',w',F,N⟩:=Ik (P:=E.P) (ty:=o.type) B hr R (H.2 0 y u rfl rfl) (H.2 1 z v rfl rfl) h;exact fb.ko (K _ [u,v] (by rw[G,O]) (λD=>rfl) F) N
  ·rename_i y;obtain⟨u,O⟩:=LJ H.1.symm;rw[O]at H;have I:=H.2 0 y u rfl rfl;obtain⟨rfl,u',F,N⟩:=Zo (P:=E.P) (w:=w) (ty:=o.type) I h;exact fb.ko (K _ [u] (by rw[G,O]) (λD=>rfl) F) (j4.same B N)
  cases h
 cases h
def Q5{H:aa}(j:gS M ι H.get w)(i:s9 ι H)(f:TR M ι tm a){t:TypeId}{m k y:Operand}{x:AV}{H':aa}
 (n : ∀d:Operand->Value,execOp d o=(do Instr.mapUpdate t (d m) (d k) (d y);pure Next.skip))
 (h:jz E.P H t (aP tm m) (aP tm k) (aP tm y)=some (x,H')):fb E.P o a w λu w'=>pg M ι H w x H' u w':=by
 cases hm:aP tm m with| none=>rw[hm]at h;simp only[jz]at h;split at h<;>simp_all| some s=>
  cases c:aP tm k with
  | none=>rw[hm,c]at h;simp only[jz]at h;split at h<;>simp_all
  | some k'=>
   cases e:aP tm y with
   | none=>rw[hm,c,e]at h;simp only[jz]at h;split at h<;>simp_all
   | some q=>rw[hm,c,e]at h;obtain⟨w',p,b⟩:=Jk (P:=E.P) j i (aX f hm) (aX f c) (aX f e) h;exact fb.Gl (by simp[n,p]) b
def Xb{H:aa}{d tt:Nat}(I:gS M ι H.get w)(G:s9 ι H)(F:TR M ι tm a){pc:FuncId->List AV->Option AV}(V : ∀f W y,pc f W=some y->j5 E.P f W y)
 {tc:uY->List AV->aa->cR} (X : ∀f W H y H',tc f W H=some (y,H')->jd E.P f W H y H') {x:AV} {H':aa}
 (R:RY o.op=false) (h:evalW E pc tc H tm ⟨d,tt,H.gen d tt,0⟩ o=some (x,H')):fb E.P o a w λu w'=>pg M ι H w x H' u w':=by
 unfold evalW at h;split at h
 ·rename_i t y z i;cases S:aP tm y with
  | none=>rw[S]at h;simp[jy]at h
  | some y'=>
   cases hz:aP tm z with| none=>rw[S,hz]at h;simp only[jy]at h;(repeat' split at h)<;>simp_all| some z'=>rw[S,hz]at h;obtain⟨w',Q,j⟩:=Se (P:=E.P) I G (aX F S) (aX F hz) h;exact fb.Gl (by simp[execOp,i,Q]) j
 ·rename_i t m k y i;exact Q5 I G F (λρ=>by simp[execOp,i]) h
 ·rename_i t m k y i;exact Q5 I G F (λρ=>by simp[execOp,i]) h
 ·rename_i t m k i;cases K:aP tm m with
  | none=>rw[K]at h;simp only[qR]at h;split at h<;>simp_all
  | some m'=>
   cases hk:aP tm k with| none=>rw[K,hk]at h;simp only[qR]at h;split at h<;>simp_all| some k'=>rw[K,hk]at h;obtain⟨u,w',Q,j⟩:=K5 (P:=E.P) I G (aX F K) (aX F hk) h;exact fb.ko (by simp only[execOp,i];exact HR Q) j
 ·rename_i t m s y i;cases K:aP tm m with
  | none=>rw[K]at h;simp[lR]at h
  | some m'=>
   cases T:aP tm s with| none=>rw[K,T]at h;simp[lR]at h| some s'=>
    cases S:aP tm y with
    | none=>rw[K,T,S]at h;simp[lR]at h
    | some y'=>rw[K,T,S]at h;obtain⟨w',Q,j⟩:=Hb (P:=E.P) (t:=t) I G (aX F K) (aX F T) (aX F S) h;exact fb.Gl (by simp[execOp,i,Q]) j
 ·rename_i t n ps i;cases U:ia tm ps.toList with
  | none=>rw[U]at h;simp[jV]at h
  | some vs=>rw[U]at h;obtain⟨h1,h2⟩:=sh (ι:=ι) F U;obtain⟨u,w',Q,j⟩:=He (P:=E.P) (qs:=ps.map λ(p:Nat × Operand)=>(p.1,a.eval p.2)) I G h (by rw[qZ];exact h1) (by rw[qZ];exact h2);exact fb.ko (by simp only[execOp,i];exact HR Q) j
 ·rename_i t n i;unfold Bq at h;split at h
  ·rename_i kd m b hn hb;obtain⟨⟨h0,h1,h2⟩,h⟩:=eY.1 h;cases h;obtain⟨e,ht,hbe⟩:=iF.1 hb;have U:=aX F hn;generalize hev:a.eval n=nv at U;cases U;obtain⟨u,w',Q,j⟩:=Lw (P:=E.P) I rfl (G.fresh d tt 0) ht hbe kd m.toNat (by omega) h2;have K:((m.toNat:Nat):Int)=m:=by omega
   rw[K]at Q;exact fb.ko (by simp only[execOp,i,hev];exact HR Q) (j.toW G)
  cases h
 ·rename_i i;rw[i]at R;cases R
 ·rename_i i;rw[i]at R;cases R
 ·rename_i c i;split at h;·cases h
  rename_i args D;split at h
  ·rename_i fo Z;rcases Mr h with h | ⟨H1,rfl,h,hfl,B⟩
   ·exact Mt I G F V X i Z D h
   exact(Mt I G F V X i Z D h).mono λu w' hw=>S9 I G hfl B hw
  ·cases h
  rename_i b Z;have C:=mS F D;have O : ∀(s:Sem Value)(us:List Value),(c.args.map a.eval).toList=us->(∀q,builtin b c.argTypes o.type q us.toArray=(do pure (Next.value (<-s)))) ->
   ∀ {u w'},s.run E.P w = .ok u w'->(execOp a.eval o).run E.P w = .ok (.value u) w':=by
   intro s us hus hb u w' T;have e1:c.args.map a.eval=us.toArray:=by rw[<-hus]
   simp only[execOp,i,resolve,Z,invoke,iQf,iQj,iQd,e1,hb,T]
  have B:(c.args.map a.eval).toList=c.args.toList.map a.eval:=(by simp);split at h;·rename_i y z;obtain⟨u,v,J⟩:=zP C.1.symm;rw[J]at C;obtain⟨u',w',N,L⟩:=Hf (P:=E.P) (ty:=o.type) I G (C.2 0 y u rfl rfl) (C.2 1 z v rfl rfl) h;exact fb.ko (O _ [u,v] (by rw[B,J]) (λq=>rfl) N) L
  ·rename_i y z;obtain⟨u,v,J⟩:=zP C.1.symm;rw[J]at C;cases Y:E.wide o with
   | true=>rw[Y]at h;simp only[iQp]at h;obtain⟨u',w',N,L⟩:=Sf (P:=E.P) (ty:=o.type) I G (C.2 0 y u rfl rfl) (C.2 1 z v rfl rfl) h;exact fb.ko (O _ [u,v] (by rw[B,J]) (λq=>rfl) N) L
   | false=>
   rw[Y]at h;simp only[iQt]at h;obtain⟨u',w',N,L⟩:=UN (P:=E.P) (ty:=o.type) I G (C.2 0 y u rfl rfl) (C.2 1 z v rfl rfl) h;exact fb.ko (O _ [u,v] (by rw[B,J]) (λq=>rfl) N) L
  cases h
 cases h
structure z0 (M:Mem) (ι:Map) (st:St) (nt:Nat) (a:Act) (w:World):Prop where
 sim:gS M ι st.hp.get w
 dom:s9 ι st.hp
 tr:TR M ι st.tm a
 nt:a.tmps.size=nt
def kQ(M:Mem)(ι:Map)(st:St)(a:Act)(w:World)(nt:Nat)(st':St)(b:Act)(w':World):Prop:=
 (∃M' A,z0 M' A st' nt b w'/\uS M ι st.hp.get w M' A st'.hp.get w')/\b.defers=a.defers
def kQ.refl{st nt}(h:z0 M ι st nt a w):kQ M ι st a w nt st a w:=⟨⟨M,ι,h,uS.refl⟩,rfl⟩
def E4{st st':St}{nt dep:Nat}{d:Bool}{ops:Array Oper}(b:z0 M ι st nt a w){pc:FuncId->List AV->Option AV}(j : ∀f q y,pc f q=some y->j5 E.P f q y)
 {tc:uY->List AV->aa->cR} (G : ∀f q H y H',tc f q H=some (y,H')->jd E.P f q H y H') (C:d=false ->∀f t,E.rR f=some t->xP E.P f t) (D:d=true\/RY o.op=false) (h:evalOp E pc tc nt dep d ops o st=some st')
 {ro:Option Nat} {K:Act->World->Prop} {Q:Exit->Act->World->Prop} (s : ∀J w',kQ M ι st a w nt st' J w'->K J w') :
 if Region.wanted o (yielded ops a.tmps) then o.wpIn (FW ro) 0 E.P a w K Q else K (a.put o.dst undef) w:=by
 unfold evalOp at h;split at h;·cases h
 ·rename_i z;rw[j8 b.tr z];simp only[bI]at h;obtain⟨tm',c,rfl⟩:=h;obtain⟨B,I⟩:=b.tr.put b.nt c (u:=undef) (.v rfl);simp only[eW,iQe];exact s _ _ ⟨⟨M,ι,⟨b.sim,b.dom,B,I⟩,uS.refl⟩,iN _ _ _⟩
 rename_i z;rw[j8 b.tr z];simp only[if_true];have n : ∀ {x:AV} {H':aa} {tm':List AV},fb E.P o a w (λu w'=>pg M ι st.hp w x H' u w')->dx nt st.tm o.dst x=some tm'->st'=⟨tm',H'⟩->o.wpIn (FW ro) 0 E.P a w K Q:=by
  intro x H' tm' e c O;subst O;refine e ro K Q λu w' ⟨M',A,B,I,h3,h4⟩=>s _ _ ?_;obtain⟨N,L⟩:=(b.tr.mono h3.mem h3.map).put b.nt c B;exact⟨⟨M',A,⟨I,h4,N,L⟩,h3⟩,iN _ _ _⟩
 split at h;·rename_i x bs F;simp only[bI]at h;obtain⟨tm',c,rfl⟩:=h;have:=yS (E:=E) (o:=o) b.sim b.tr rfl (λk=>b.dom.fresh dep (o.dst.getD 0) k) j C F;exact n (λro K Q s=>this ro K Q λu w' p=>s u w' (p.toW b.dom)) c rfl
 split at h;·cases h
 rename_i m;split at h
 ·rename_i x H' F;simp only[bI]at h;obtain⟨tm',c,rfl⟩:=h;have i:RY o.op=false:=by
   rcases D with rfl | i
   ·simp only[iZ,iB,Bool.not_eq_false]at m;cases e:o.op<;>first | rfl | (simp[jv,wOp,BQ,e]at m)
   exact i
  exact n (Xb (E:=E) (o:=o) b.sim b.dom b.tr j G i F) c rfl
 cases h
end
end
section
section
variable{E:Env}{M:Mem}{ι:Map}{w:World}{a:Act}
def kQ.trans{st c d:St}{nt:Nat}{i n:Act}{f m:World}(h:kQ M ι st a w nt c i f)(p : ∀e b,z0 e b c nt i f->kQ e b c i f nt d n m):kQ M ι st a w nt d n m:=by
 obtain⟨⟨e,b,t,v⟩,u⟩:=h;obtain⟨⟨M2,j,s,q⟩,x⟩:=p e b t;exact⟨⟨M2,j,s,v.trans q⟩,x.trans u⟩
def LO{o:Oper}{st st':St}{nt dep:Nat}{ops:Array Oper}{i:Nat}(d:z0 M ι st nt a w){pc:FuncId->List AV->Option AV}(O : ∀f G y,pc f G=some y->j5 E.P f G y)
 {tc:uY->List AV->aa->cR} (U : ∀f G H y H',tc f G H=some (y,H')->jd E.P f G H y H') (T : ∀f t,E.rR f=some t->xP E.P f t) (h:evalOp E pc tc nt dep false ops o st=some st') (I:ops[i]?=some o)
 (b:Frame) (rest:List Nat) (k:List Item) (cs:List Frame) :
 ∃s w',kQ M ι st a w nt st' s w'/\(b.kind = .normal->Steps E.P (lone (b.atR a (.inRegion ops (i :: rest) :: k)) cs w) (lone (b.atR s (.inRegion ops rest :: k)) cs w')):=by
 have D:Region.wanted o (yielded ops a.tmps)=false->Steps E.P (lone (b.atR a (.inRegion ops (i :: rest) :: k)) cs w) (lone (b.atR (a.put o.dst undef) (.inRegion ops rest :: k)) cs w):=by
  intro q;have X:=stepR_op_skip (P:=E.P) (b:=b) (a:=a) (k:=k) (cs:=cs) (w:=w) (ops:=ops) (i:=i) (rest:=rest) (by simp[I,q]);simp only[I,eD]at X;exact .one X
 cases n:RY o.op with
 | false=>
  have p:=E4 (E:=E) (ro:=b.roundOf) (Q:=λ_ _ _=>False) d O U (λ_=>T) (.inr n) h (K:=λs w'=>kQ M ι st a w nt st' s w') λs w' h=>h;by_cases q:Region.wanted o (yielded ops a.tmps)=true;·rw[if_pos q]at p;obtain⟨s,w',F,z⟩:=RB I q b p rest k cs;exact⟨s,w',F,λ_=>z⟩
  rw[if_neg q]at p;exact⟨_,_,p,λ_=>D (by simpa using q)⟩
 | true=>
  unfold evalOp at h;split at h;·cases h
  ·rename_i q;have B:=j8 d.tr q;simp only[bI]at h;obtain⟨tm',j,rfl⟩:=h;obtain⟨p,F⟩:=d.tr.put d.nt j (u:=undef) (.v rfl);exact⟨_,_,⟨⟨M,ι,⟨d.sim,d.dom,p,F⟩,uS.refl⟩,iN _ _ _⟩,λ_=>D B⟩
  rename_i q;have B:=j8 d.tr q;have J : ∀ {x:AV} {H':aa} {tm':List AV},Jf E.P o a w (λu w'=>pg M ι st.hp w x H' u w')->dx nt st.tm o.dst x=some tm'->st'=⟨tm',H'⟩ ->
   ∃s w',kQ M ι st a w nt st' s w'/\(b.kind = .normal->Steps E.P (lone (b.atR a (.inRegion ops (i :: rest) :: k)) cs w) (lone (b.atR s (.inRegion ops rest :: k)) cs w')):=by
   intro x H' tm' e j he;subst he;by_cases Y:b.kind = .normal;·obtain⟨u,w',⟨M',A,p,F,z,R⟩,L⟩:=e b k cs ops i rest Y I B;obtain⟨W,N⟩:=(d.tr.mono z.mem z.map).put d.nt j p;exact⟨_,_,⟨⟨M',A,⟨F,R,W,N⟩,z⟩,iN _ _ _⟩,λ_ => .one L⟩
   obtain⟨u,w',⟨M',A,p,F,z,R⟩,L⟩:=e { b with kind := .normal} k cs ops i rest rfl I B;obtain⟨W,N⟩:=(d.tr.mono z.mem z.map).put d.nt j p;exact⟨_,_,⟨⟨M',A,⟨F,R,W,N⟩,z⟩,iN _ _ _⟩,λh=>absurd h Y⟩
  have S:cQ E pc false st.hp.get st.tm ⟨dep,o.dst.getD 0,st.hp.gen dep (o.dst.getD 0),0⟩ o=none:=(by unfold cQ;cases e:o.op<;>rw[e]at n<;>first | rfl | (cases n));rw[S]at h;simp only[qO,eW,iQe]at h;split at h
  ·rename_i x H' m;simp only[bI]at h;obtain⟨tm',j,rfl⟩:=h;unfold evalW at m;cases e:o.op<;>rw[e]at n m<;>try (cases n;done)
   ·rename_i c y;simp only at m;cases C:aP st.tm c with
    | none=>rw[C]at m;simp[G9]at m
    | some c'=>
     cases V:aP st.tm y with| none=>rw[C,V]at m;simp[G9]at m| some y'=>rw[C,V]at m;exact J (UL d.sim d.dom e (aX d.tr C) (aX d.tr V) m) j rfl
   rename_i t c Z;simp only at m;cases C:aP st.tm c with
   | none=>rw[C]at m;simp[JW]at m
   | some c'=>rw[C]at m;exact J (UM d.sim d.dom e (aX d.tr C) m) j rfl
  cases h
def Xh{H H':aa}{tm:List AV}{dep:Nat}{o:Oper}{x:AV}(F:gS M ι H.get w)(C:s9 ι H)(D:TR M ι tm a)(h:FK E false H tm ⟨dep,o.dst.getD 0,H.gen dep (o.dst.getD 0),0⟩ o=some (some (x,H'))) :
 fb E.P o a w λu w'=>pg M ι H w x H' u w':=by
 unfold FK at h;split at h;·cases h
 split at h
 ·rename_i t n ps e;simp only[ef]at h;cases s:ia tm ps.toList with
  | none=>rw[s]at h;simp[De]at h
  | some Q=>rw[s]at h;obtain⟨G,N⟩:=sh (ι:=ι) D s;obtain⟨u,w',J,m⟩:=O6 (P:=E.P) (qs:=ps.map λ(p:Nat × Operand)=>(p.1,a.eval p.2)) F C h (by rw[qZ];exact G) (by rw[qZ];exact N);exact fb.ko (by simp only[execOp,e];exact HR J) m
 ·rename_i c e;split at h
  ·rename_i L;simp only[ef]at h;split at h
   ·rename_i y z f;have d:=mS D f;have i:(c.args.map a.eval).toList=c.args.toList.map a.eval:=by simp
    obtain⟨u,v,j⟩:=zP d.1.symm;rw[j]at d;obtain⟨O,w',B,q⟩:=UO (P:=E.P) (ty:=o.type) F C (d.2 0 y u rfl rfl) (d.2 1 z v rfl rfl) h;refine fb.ko ?_ q;have K:c.args.map a.eval=[u,v].toArray:=by rw[<-j,<-i]
    have I : ∀b,builtin .append c.argTypes o.type b [u,v].toArray=(do pure (Next.value (<-Builtin.append_ c.argTypes o.type #[u,v]))):=λb=>rfl;simp only[execOp,e,resolve,L,invoke,iQf,iQj,iQd,K,I,B]
   cases h
  cases h
 cases h
def N1{o:Oper}{st st':St}{nt dep:Nat}{ops:Array Oper}{i:Nat}(c:z0 M ι st nt a w){pc:FuncId->List AV->Option AV}(B : ∀f p y,pc f p=some y->j5 E.P f p y)
 {tc:uY->List AV->aa->cR} (G : ∀f p H y H',tc f p H=some (y,H')->jd E.P f p H y H') (D : ∀f t,E.rR f=some t->xP E.P f t) (h:Am E pc tc nt dep false ops o st=some st') (s:ops[i]?=some o)
 (b:Frame) (rest:List Nat) (k:List Item) (cs:List Frame) :
 ∃j w',kQ M ι st a w nt st' j w'/\(b.kind = .normal->Steps E.P (lone (b.atR a (.inRegion ops (i :: rest) :: k)) cs w) (lone (b.atR j (.inRegion ops rest :: k)) cs w')):=by
 unfold Am at h;split at h;·exact LO c B G D h s b rest k cs
 rename_i wr F;split at h;·cases h
 ·rename_i z;have d:=j8 c.tr z;simp only[bI]at h;obtain⟨tm',e,rfl⟩:=h;obtain⟨n,q⟩:=c.tr.put c.nt e (u:=undef) (.v rfl);refine⟨_,_,⟨⟨M,ι,⟨c.sim,c.dom,n,q⟩,uS.refl⟩,iN _ _ _⟩,λ_=>?_⟩;have I:=stepR_op_skip (P:=E.P) (b:=b) (a:=a) (k:=k) (cs:=cs) (w:=w) (ops:=ops) (i:=i) (rest:=rest) (by simp[s,d]);simp only[s,eD]at I;exact .one I
 rename_i z;have d:=j8 c.tr z;split at h
 ·rename_i x H';simp only[bI]at h;obtain⟨tm',e,rfl⟩:=h;have C:=Xh c.sim c.dom c.tr F;have n:o.wpIn (FW b.roundOf) 0 E.P a w (λj w'=>kQ M ι st a w nt ⟨tm',H'⟩ j w') (λ_ _ _=>False):=by
   refine C _ _ _ λu w' ⟨M',A,n,q,m,h4⟩=>?_;obtain⟨K,J⟩:=(c.tr.mono m.mem m.map).put c.nt e n;exact⟨⟨M',A,⟨q,h4,K,J⟩,m⟩,iN _ _ _⟩
  obtain⟨j,w',q,m⟩:=RB s d b n rest k cs;exact⟨j,w',q,λ_=>m⟩
 cases h
def Lr{pc:FuncId->List AV->Option AV}(i : ∀f e y,pc f e=some y->j5 E.P f e y)
 {tc:uY->List AV->aa->cR} (B : ∀f e H y H',tc f e H=some (y,H')->jd E.P f e H y H') (q : ∀f t,E.rR f=some t->xP E.P f t) {nt dep:Nat} {ops:Array Oper} {st':St} (b:Frame) (k:List Item) (cs:List Frame) :
 ∀(l c:List Oper)(st:St)(M:Mem)(ι:Map)(a:Act)(w:World),ops.toList=c++l->oa E pc tc nt dep false ops l st=some st'->z0 M ι st nt a w ->
  ∃G w',kQ M ι st a w nt st' G w'/\(b.kind = .normal->Steps E.P (lone (b.atR a (.inRegion ops (List.range' c.length l.length) :: k)) cs w) (lone (b.atR G (.inRegion ops [] :: k)) cs w')):=by
 intro l;induction l with
 | nil=>intro c st M ι a w _ h x;simp only[oa,ef]at h;subst h;exact⟨a,w,kQ.refl x,λ_=>Steps.refl _ _⟩
 | cons o l R=>
  intro c st M ι a w F h x;simp only[oa]at h;split at h
  ·rename_i u N;have J:ops[c.length]?=some o:=by
    rw[<-Gw,F];simp
   obtain⟨L,K,d,m⟩:=N1 x i B q N J b (List.range' (c.length+1) l.length) k cs;obtain⟨⟨Q,v,n,s⟩,S⟩:=d;obtain⟨T,O,⟨⟨M2,z,j,C⟩,U⟩,p⟩:=R (c++[o]) u Q v L K (by simp[F]) h n;refine⟨T,O,⟨⟨M2,z,j,s.trans C⟩,U.trans S⟩,λD=>?_⟩;have I:=p D;simp only[ja,gD,kS,vG]at I;rw[gD,List.range'_succ];exact(m D).trans I
  cases h
def Lt{pc:FuncId->List AV->Option AV}(e : ∀f c y,pc f c=some y->j5 E.P f c y)
 {tc:uY->List AV->aa->cR} (j : ∀f c H y H',tc f c H=some (y,H')->jd E.P f c H y H') (i : ∀f t,E.rR f=some t->xP E.P f t) {nt dep id:Nat} {ops:Array Oper} {st st':St} (b:Frame) (k:List Item) (cs:List Frame)
 (h:oa E pc tc nt dep false ops ops.toList st=some st') (p:z0 M ι st nt a w) :
 ∃d w',kQ M ι st a w nt st' d w'/\(b.kind = .normal->Steps E.P (lone (b.atR a (.code (.region id ops false) :: k)) cs w) (lone (b.atR d k) cs w')):=by
 obtain⟨d,w',m,q⟩:=Lr e j i b k cs ops.toList [] st M ι a w rfl h p;refine⟨d,w',m,λn=>iQn (.one ?_) (iQn (q n) (.one stepR_region_end))⟩;have:=stepR_region (P:=E.P) (b:=b) (a:=a) (k:=k) (cs:=cs) (w:=w) (id:=id) (ops:=ops);simpa [OQ] using this
structure Env.Ok (E:Env) (ok:Array Oper->Bool):Prop where
 fns : ∀f,E.allowed f=true ->∃fn,E.P.funcs[f]?=some fn/\(fn.name == "runtime.NumGoroutine")=false /\∀c,fn.body=some c->codeOk ok c=true
 specs : ∀f args y,E.spec f args=some y->j5 E.P f args y
 same:E.ok=ok
 overs : ∀f t,E.rR f=some t->xP E.P f t
 thrs : ∀f args H y H',E.thrSpec f args H=some (y,H')->jd E.P (.fn f) args H y H'
 draws : ∀(ops:Array Oper),ok ops=true ->∀ {pc:FuncId->List AV->Option AV},(∀f xs y,pc f xs=some y->j5 E.P f xs y) ->
  ∀ {tc:uY->List AV->aa->cR},(∀f xs H y H',tc f xs H=some (y,H')->jd E.P f xs H y H') ->∀(nt dep id:Nat)(st st':St)(M:Mem)(ι:Map)(a:Act)(w:World)(ro:Option Nat)(Q:Exit->Act->World->Prop),
  oa E pc tc nt dep true ops ops.toList st=some st'->tM E ops st'=true->z0 M ι st nt a w->(∀a' w',kQ M ι st a w nt st' a' w'->Q .normal a' w')->(Code.region id ops true).wpIn (FW ro) 0 E.P Q a w
def Ks{ok:Array Oper->Bool}{id:Nat} : ∀ {k k':List Item},exitTo id k=some k'->(∀i∈k,oO ok i=true) ->∀i∈k',oO ok i=true:=by
 intro k;induction k with
 | nil=>intro k' h;simp[exitTo]at h
 | cons x k c=>
  intro k' h d;have b : ∀i∈k,oO ok i=true:=λi hi=>d i (j7 _ hi);cases x with
  | inBlock e=>
   simp only[exitTo]at h;split at h;·injection h with h;subst h;exact b
   exact c h b
  | _=>exact c (by simpa [exitTo] using h) b
def acn{P:Program}{ro:Option Nat}{m b:Machine}(h:StepsIn (Machine.fenced P (FW ro)) P m b):Steps P m b:=iQx h
def MM{P:Program}{c:Code}{a:Act}{w:World}{R:Act->World->Prop}(b:Frame)(h:c.wpIn (FW b.roundOf) 0 P (λe a w=>e = .normal/\R a w) a w)(k:List Item)(cs:List Frame) :
 ∃f w',R f w'/\Steps P (lone (b.atR a (.code c :: k)) cs w) (lone (b.atR f k) cs w'):=by
 obtain⟨e,f,w',⟨he,i⟩,d⟩:=h b k cs rfl trivial (λ_ h=>by simp[FW,Fence.wide]at h);subst he;exact⟨f,w',i,acn d⟩
def WD{H:aa}{r:Ref}{n:Nat}{b:AV}(h:yQ H r=some (n,b)) : ∃st a f,H.get r=some ⟨0,[.v (.int .i64 st),b],a,f⟩/\st.toNat=n:=by
 unfold yQ at h;split at h;·rename_i st c a f d;cases h;exact⟨st,a,f,d,rfl⟩
 cases h
structure XN (r r':Loop):Prop where
 tmps:r'.tmps=r.tmps
 params:r'.params=r.params
 assign:r'.assign=r.assign
 body:r'.body=r.body
def BG{H:aa}{r:Ref}{l:Loc}{n:Nat}{p:AV}(D:gS M ι H.get w)(hD:s9 ι H)(Y:ι r=some l)(ha:yQ H r=some (n,p)) :
 ∃nt ps assign body tm y,p = .lp 0 nt ps assign body tm/\w.heap[l.b]?=some (.loop y)/\y.params=ps.toArray/\y.assign=assign/\y.body=body/\y.tmps.size=nt/\(∀t,VR M ι (df tm t) (y.tmps.getD t undef))/\Dj n y /\
  (∀F c,XN y c->Dj F c->gS M ι (H.put r (some (ei F p))).get (ck w l.b (.loop c))/\uS M ι H.get w M ι (H.put r (some (ei F p))).get (ck w l.b (.loop c))/\s9 ι (H.put r (some (ei F p)))) /\
  ∀c,gS M ι (H.put r none).get (ck w l.b (.loop c))/\uS M ι H.get w M ι (H.put r none).get (ck w l.b (.loop c))/\s9 ι (H.put r none):=by
 obtain⟨st,a,f,O,hst⟩:=WD ha;obtain⟨l',K,hb⟩:=D.live r _ O;rw[Y]at K;cases K;rcases hb.objOk rfl with ⟨n0,nt,ps,as,bd,tm,y,V,Z,C,J,X,h6,h7,h8,h9,h10⟩ | ⟨_,_,_,_,C,_⟩ | ⟨_,_,_,_,_,_,_,_,C,_⟩
 case inr.inl=>simp at C
 case inr.inr=>simp at C
 simp only[wR,AV.v.injEq,iQD,iQs,iQr]at C;obtain⟨e1,e2⟩:=C;subst e2;have hn:n0=n:=by rw[<-hst,e1];simp
 subst hn;have hlt:l.b<w.heap.size:=(jb.1 J).1;have hM : ∀o x,M l.b o=some x->False:=by
  intro o x U;have:=D.mem _ _ _ U;simp[World.cell?,J]at this
 have hlz:l.esz=0:=hb.esz;have j : ∀c d,∀q k,(H.put r d).get q=some k->q≠r ->∃m,ι q=some m/\pM M ι (ck w l.b (.loop c)) m k:=by
  intro c d q k i z;rw[aa.ab,if_neg z]at i;obtain⟨m,Q,N⟩:=D.live q k i;have hnb:l.b≠m.b:=λe=>z (D.inj q r k _ m l i O Q Y e.symm);exact⟨m,Q,N.bD (λ_ _ _ h=>h) (λ_ _ h=>h) (fu hnb) N.frozen⟩
 have B : ∀c,∀b o x,M b o=some x->(ck w l.b (.loop c)).cell? ⟨b,o,none⟩=some x:=by
  intro c b o x U;have z:l.b≠b:=λe=>hM o x (e ▸ U);rw[iQk (w:=w) (fu z)];exact D.mem b o x U
 have u : ∀(d:Option bj) q k,(H.put r d).get q=some k ->∃R,H.get q=some R:=by
  intro d q k i;rw[aa.ab]at i;split at i;·rename_i e;exact⟨_,e ▸ O⟩
  exact⟨k,i⟩
 have L : ∀(d:Option bj) q G k k' m W,(H.put r d).get q=some k->(H.put r d).get G=some k'->ι q=some m->ι G=some W->m.b=W.b->q=G:=by
  intro d q G k k' m W V Z C J X;obtain⟨R,g1⟩:=u d q k V;obtain⟨k1,g2⟩:=u d G k' Z;exact D.inj q G R k1 m W g1 g2 C J X
 have fwd : ∀(d:Option bj) c,uS M ι H.get w M ι (H.put r d).get (ck w l.b (.loop c)):=by
  intro d c;refine⟨rfl,rfl,rfl,by simp[ck],λb _ hno=>fu (hno r _ l O Y),λ_ _ _ h=>h,λ_ _ h=>h,λq k m V Z=>?_,λ_ _ _ h => .inl h⟩;obtain⟨R,g1⟩:=u d q k V;exact .inr ⟨q,R,m,g1,Z,rfl⟩
 have T : ∀d:Option bj,s9 ι (H.put r d):=by
  intro d q lq i;rw[aa.ej _ _ _ (by rw[O];rfl)];exact hD q lq i
 refine⟨nt,ps,as,bd,tm,y,rfl,J,X,h6,h7,h8,h9,h10,λF c I S=>⟨⟨B c,λq k i=>?_,L _⟩,fwd _ c,T _⟩,λc=>⟨⟨B c,λq k i=>?_,L _⟩,fwd _ c,T _⟩⟩
 ·by_cases s:q=r;·subst s;rw[aa.ab,if_pos rfl]at i;cases i;refine⟨l,Y,oB.Ud (.inl ⟨F,nt,ps,as,bd,tm,c,rfl,rfl,rfl,gY hlt,by rw[I.params];exact X,by rw[I.assign];exact h6,by rw[I.body];exact h7,by rw[I.tmps];exact h8,by rw[I.tmps];exact h9,S⟩) hlz hM⟩
  exact j c _ q k i s
 by_cases s:q=r;·rw[aa.ab,if_pos s]at i;cases i
 exact j c _ q k i s
def WE{H:aa}{d nt:Nat}{tm:List AV}{a:Act}{ps:Array Tmp}{assign body:Code}{fn:FuncId}(B:gS M ι H.get w)(S:s9 ι H)(W:TR M ι tm a)(V:a.tmps.size=nt){p:World}
 (F:p=(w.alloc (.deferred (some []))).alloc (.loop { state := .ready,pending:=none,fn,tmps:=a.tmps,params:=ps,assign,body,defers:=w.heap.size})) :
 let r:Ref:=⟨d,nt,H.gen d nt,0⟩
 let c:=iG ι r ⟨w.heap.size+1,0,0⟩
 gS M c (aa.get ((r,some (ei 0 (.lp 0 nt ps.toList assign body tm))) :: H)) p/\uS M ι H.get w M c (aa.get ((r,some (ei 0 (.lp 0 nt ps.toList assign body tm))) :: H)) p /\
  s9 c ((r,some (ei 0 (.lp 0 nt ps.toList assign body tm))) :: H)/\p.heap[w.heap.size]?=some (.deferred (some [])):=by
 intro r c;have hq:ι r=none:=S.fresh d nt 0;have n:=Gd (l:=⟨w.heap.size+1,0,0⟩) hq;have f:p.heap=(w.heap.push (.deferred (some []))).push (.loop { state := .ready,pending:=none,fn,tmps:=a.tmps,params:=ps,assign,body,defers:=w.heap.size}):=by rw[F];rfl
 have j : ∀b,b<w.heap.size->p.heap[b]?=w.heap[b]?:=by
  intro b G;rw[f,Fo (by simp;omega),<-kD,Fo G,<-kD]
 have L:p.heap[w.heap.size]?=some (.deferred (some [])):=by rw[f,Fo (by simp),<-kD];simp
 have J:p.heap[w.heap.size+1]?=some (.loop { state := .ready,pending:=none,fn,tmps:=a.tmps,params:=ps,assign,body,defers:=w.heap.size}):=by rw[f,Array.getElem?_push];simp
 have s : ∀b o x,M b o=some x->b<w.heap.size:=λb o x h=>iQm w ⟨b,o,none⟩ (B.mem b o x h);have m : ∀q,aa.get ((r,some (ei 0 (.lp 0 nt ps.toList assign body tm))) :: H) q=if r=q then some (ei 0 (.lp 0 nt ps.toList assign body tm)) else H.get q:=λq=>rfl
 refine⟨⟨λb o x h=>?_,λq k h=>?_,λq Y k k' i R z v Z U h5=>?_⟩,⟨by rw[F];rfl,by rw[F];rfl,by rw[F];rfl,by rw[f];simp;omega,λb G _=>j b G,λ_ _ _ h=>h,n,λq k i z v=>?_,λ_ _ _ h => .inl h⟩,λq i h=>?_,L⟩;·rw[iQk (w:=w) (j b (s b o x h))];exact B.mem b o x h
 ·rw[m]at h;split at h;·rename_i e;subst e;cases h;refine⟨⟨w.heap.size+1,0,0⟩,by simp[c,iG],oB.Ud (.inl ⟨0,nt,ps.toList,assign,body,tm,_,rfl,rfl,rfl,J,by simp,rfl,rfl,V,λt=>(W.at_ t).mono (λ_ _ _ h=>h) c n,⟨rfl,rfl⟩⟩) rfl ?_⟩;intro o x T;have:=s _ _ _ T;simp only at this;omega
  obtain⟨i,K,u⟩:=B.live q k h;exact⟨i,n q i K,u.bD (λ_ _ _ h=>h) n (j _ u.lt) u.frozen⟩
 ·have one : ∀ {q:Ref} {k i},aa.get ((r,some (ei 0 (.lp 0 nt ps.toList assign body tm))) :: H) q=some k->c q=some i->(q=r/\i.b=w.heap.size+1)\/(q≠r/\H.get q=some k/\ι q=some i/\i.b<w.heap.size):=by
   intro q k i h y;rw[m]at h;split at h;·rename_i e;subst e;simp only[c,iG,if_true]at y;cases y;exact .inl ⟨rfl,rfl⟩
   rename_i e;simp only[c,iG]at y;rw[if_neg (ta e)]at y;obtain⟨R,D,I⟩:=B.live q k h;rw[y]at D;cases D;exact .inr ⟨ta e,h,y,I.lt⟩
  rcases one z Z with ⟨N,Q⟩ | ⟨N,Q,X,e4⟩<;>rcases one v U with ⟨f1,f2⟩ | ⟨f1,f2,f3,f4⟩
  ·rw[N,f1]
  ·omega
  ·omega
  exact B.inj q Y k k' i R Q f2 X f3 h5
 ·rw[m]at z;simp only[c,iG]at v;split at z;·rename_i e;rw[if_pos e.symm]at v;cases v;exact .inl (CE _)
  rename_i e;rw[if_neg (ta e)]at v;exact .inr ⟨q,k,i,z,v,rfl⟩
 simp only[c,iG]at h;simp only[aa.gen];by_cases C:q=r;·subst C;rw[if_pos ⟨rfl,rfl⟩];exact rJ _
 rw[if_neg C]at h;have:=S q i h;split;·rename_i O;rw[<-O.1,<-O.2]at this;exact CF this
 exact this
def Sn : ∀(args:List AV)(t:Nat),df args t=(args[t]?).getD AV.undef:=by
 intro args;induction args with
 | nil=>intro t;simp[df]
 | cons x l b=>
  intro t;cases t with
  | zero=>simp[df]
  | succ t=>simp[df,b]
def Zc(tmps:Array Value):ResultVar->Sem Value
 | .tmp t=>pure (tmps.getD t undef)
 | .cell b t=>asAddr (tmps.getD b undef) >>= λx=>loadVar t x
def PB(fn:Func)(tmps:Array Value):results fn tmps=fn.results.mapM (Zc tmps) >>= λb=>pure (if h:b.size=1 then b[0] else .tuple b):=by
 unfold results;congr 1
def PA{fn:Func}{st:St}{nt:Nat}(I:z0 M ι st nt a w){x:AV}(h:yH E.P fn st=some x) : ∃v,(results fn a.tmps).run E.P w = .ok v w/\VR M ι x v:=by
 have one : ∀(G:ResultVar)(y:AV),mg E.P st G=some y ->∃v,(Zc a.tmps G).run E.P w = .ok v w/\VR M ι y v:=by
  intro G y p;cases G with
  | tmp t=>simp only[mg,ef]at p;subst p;exact⟨_,rfl,I.tr.at_ t⟩
  | cell b t=>
   simp only[mg]at p;split at p
   ·rename_i r i j g n S J Q;split at p;·rename_i k N;have F:=I.tr.at_ b;rw[S]at F;obtain⟨v,q,m⟩:=RE J Q I.sim F N p;refine⟨v,?_,m⟩;simp only[Zc];generalize a.tmps.getD b undef=u at F q ⊢;cases F;simpa [asAddr,Instr.loadAt,Instr.sureAddr] using q
    cases p
   cases p
 have B : ∀(rs:List ResultVar)(s:List AV),rs.mapM (mg E.P st)=some s ->∃f,(rs.mapM (Zc a.tmps)).run E.P w = .ok f w/\mc M ι s f:=by
  intro rs;induction rs with
  | nil=>intro s h;simp at h;subst h;exact⟨[],rfl,mc.nil⟩
  | cons r rs R=>intro s h;simp only[nP,sP,tV,iF]at h;obtain⟨y,p,H,d,h⟩:=h;simp at h;subst h;obtain⟨v,q,m⟩:=one r y p;obtain⟨f,L,K⟩:=R H d;refine⟨v :: f,?_,mc.cons m K⟩;rw[nP];simp only[iQf,q,iQd,L,iQj]
 unfold yH at h;have z : ∀s,fn.results.toList.mapM (mg E.P st)=some s ->∃f:List Value,(results fn a.tmps).run E.P w = .ok (if h:f.toArray.size=1 then f.toArray[0] else .tuple f.toArray) w/\mc M ι s f:=by
  intro s d;obtain⟨f,q,m⟩:=B _ s d;refine⟨f,?_,m⟩;rw[PB];simp only[Array.mapM_eq_mapM_toList,iQf,Sem.run_map,q,iQd,iQj]
 split at h
 ·rename_i d;injection h with h
  subst h;obtain⟨f,q,m⟩:=z _ d;have:f=[]:=Ad (by rw[<-m.1];rfl);subst this;exact⟨_,q,.v rfl⟩
 ·rename_i y d;injection h with h
  subst h;obtain⟨f,q,m⟩:=z _ d;obtain⟨v,rfl⟩:=LJ m.1.symm;exact⟨v,by simpa using q,m.2 0 y v rfl rfl⟩
 ·rename_i s D C d;injection h with h
  subst h;obtain⟨f,q,m⟩:=z _ d;have U:f.length≠1:=by
   intro h;rw[<-m.1]at h;obtain⟨y,p⟩:=LJ h;exact C y p
  refine⟨.tuple f.toArray,?_,.tup ?_ (by simpa using m.1) λi c u T O=>m.2 i c u T (by simpa using O)⟩;·rw[q,dif_neg (by simpa using U)]
  intro e;exact D e
 cases h
def marks(ds:List Nat):List Deferred:=ds.map λD => { target := .collected D,args := #[]}
def sG(w w':World)(ds:List Nat):Prop:=ds.Nodup /\∀D∈ds,w.heap.size<=D/\w'.heap[D]?=some (.deferred (some []))
def Iw{M:Mem}{ι:Map}{g:cV}{w:World}(j:gS M ι g w){D:Nat}{x:Option (List Deferred)}(h:w.heap[D]?=some (.deferred x)) : ∀r k l,g r=some k->ι r=some l->l.b≠D:=by
 intro r k l m n e;obtain⟨p,d,i⟩:=j.live r k m;rw[n]at d;cases d;rcases Et k.esz with f | f
 ·rcases(i.objOk f).obj with ⟨_,c⟩ | ⟨_,_,c⟩ | ⟨_,_,_,_,_,_,c⟩
  ·rw[e,h]at c;cases c
  ·rw[e,h]at c;cases c
  rw[e,h]at c;cases c
 obtain⟨_,_,_,c,_⟩:=(i.cellsOk f).heap;rw[e,h]at c;cases c
def sG.fwd{w b e:World}{ds:List Nat}{M1 ι1 g1 M2 ι2 g2}(h:sG w b ds)(i:gS M1 ι1 g1 b)(f:uS M1 ι1 g1 b M2 ι2 g2 e):sG w e ds:=
 ⟨h.1,λD d=>⟨(h.2 D d).1,by
  have c:=(h.2 D d).2;rw[f.chg D (jb.1 c).1 (Iw i c)];exact c⟩⟩
def sG.append{w i j:World}{ds c:List Nat}(m:w.heap.size<=i.heap.size)(h:sG w j ds)(p : ∀D∈ds,D<i.heap.size)(f:sG i j c):sG w j (c++ds):=by
 refine⟨KO.2 ⟨f.1,h.1,λa s b n e=>?_⟩,λD q=>?_⟩;·have:=(f.2 a s).1;have:=p b n;omega
 rcases mq.1 q with d | d
 ·exact⟨wQ m (f.2 D d).1,(f.2 D d).2⟩
 exact h.2 D d
def Gb(P:Program)(rd:Option Ref)(M:Mem)(ι:Map)(st:St)(a:Act)(w:World)(nt:Nat)(st':St)(b:Frame)(cs:List Frame)(m:Machine):Prop:=match rd with
 | none=>b.roundOf=none->b.kind = .normal ->∃h w' d ds,(∃M' A,z0 M' A st' nt h w'/\uS M ι st.hp.get w M' A st'.hp.get w')/\h.defers=marks ds++a.defers/\sG w w' ds /\
  Steps P m (lone { b.atR h d with mode := .returning} cs w')
 | some r =>∀l c e,ι r=some l->b.roundOf=some l.b->b.kind = .normal->cs=c :: e ->∃n f w',yQ st'.hp r=some (n,f)/\n≠1 /\
  (∃M' A,gS M' A st'.hp.get w'/\uS M ι st.hp.get w M' A st'.hp.get w'/\s9 A st'.hp)/\Steps P m (lone (c.finish (.bool (n == 0))) e w')
def Gb.of_steps{P:Program}{rd:Option Ref}{M z:Mem}{ι f:Map}{st e st':St}{a F:Act}{w p:World}{nt:Nat}{b:Frame}{cs:List Frame}{m I:Machine}{ds:List Nat}
 (C:b.roundOf=none\/rd≠none->b.kind = .normal->Steps P m I) (v:gS z f e.hp.get p) (q:uS M ι st.hp.get w z f e.hp.get p) (hd:F.defers=marks ds++a.defers) (H:sG w p ds) (h:Gb P rd z f e F p nt st' b cs I):Gb P rd M ι st a w nt st' b cs m:=by
 unfold Gb at h ⊢;cases rd with
 | none=>intro s i;obtain⟨S,w',todo,t,⟨M',A,L,j⟩,u,y,d⟩:=h s i;refine⟨S,w',todo,t++ds,⟨M',A,L,q.trans j⟩,?_,(H.fwd v j).append q.size (λD O=>(jb.1 (H.2 D O).2).1) y,(C (.inl s) i).trans d⟩;rw[u,hd];simp[marks]
 | some r=>intro l c B R s G x;obtain⟨n,inf,w',K,T,⟨M',A,N,J,Q⟩,d⟩:=h l c B (q.map r l R) s G x;exact⟨n,inf,w',K,T,⟨M',A,N,q.trans J,Q⟩,(C (.inr (by simp)) G).trans d⟩
def uh{w w':World}:sG w w' []:=⟨List.nodup_nil,λD h=>by cases h⟩
def OA(E:Env)(ok:Array Oper->Bool)(n:Nat):Prop:=
 ∀(rd:Option Ref)(nt dep:Nat)(c:List Item)(st st':St),cD E n rd nt dep c st=some st'->(∀i∈c,oO ok i=true) ->∀(M:Mem)(ι:Map)(a:Act)(w:World),z0 M ι st nt a w ->
  ∀(b:Frame)(cs:List Frame),Gb E.P rd M ι st a w nt st' b cs (lone (b.atR a c) cs w)
def NA{P:Program}{fr:Frame}{cs:List Frame} : ∀(ds:List Nat)(w:World),fr.mode = .returning->ds.Nodup->(∀D∈ds,w.heap[D]?=some (.deferred (some []))) ->
 ∃w',Steps P (lone { fr with defers:=marks ds} cs w) (lone { fr with defers:=[]} cs w')/\w'.os=w.os/\w'.tape=w.tape/\w'.output=w.output/\w'.heap.size=w.heap.size /\∀b,b ∉ ds->w'.heap[b]?=w.heap[b]?:=by
 intro ds;induction ds with
 | nil=>intro w _ _ _;exact⟨w,Steps.refl _ _,rfl,rfl,rfl,rfl,λ_ _=>rfl⟩
 | cons D ds q=>
  intro w m i n;have v:=run_takeDeferred (P:=P) (n D (j6 ..));have c:=step_collected (P:=P) (fr := { fr with defers:=marks (D :: ds)}) (cs:=cs) (w:=w) (d := { target := .collected D,args := #[]}) (r:=D) (ds:=marks ds) (by simp[m]) rfl rfl v;obtain⟨w',y,t,s,x,p,z⟩:=q (w.putObj D (.deferred none)) m (Ax.1 i).2 (λu f=>by
   rw[iQC (by intro e;subst e;exact(Ax.1 i).1 f)];exact n u (j7 _ f))
  refine⟨w',iQn (.one c) (by simpa using y),t,s,x,by rw[p];simp,λb j=>?_⟩;rw[z b (λh=>j (j7 _ h)),iQC (by intro e;subst e;exact j (j6 ..))]
def gS.other{M:Mem}{ι:Map}{g:cV}{w w':World}(e:gS M ι g w){ds:List Nat}(d : ∀D∈ds,w.heap[D]?=some (.deferred (some [])))(h : ∀b,b ∉ ds->w'.heap[b]?=w.heap[b]?):gS M ι g w':=by
 refine⟨λb o x m=>?_,λr k f=>?_,e.inj⟩;·have j:=e.mem b o x m;have c:b ∉ ds:=(by intro c;have:=d b c;simp[World.cell?,this]at j);rw[iQk (w:=w) (h b c)];exact j
 obtain⟨l,i,c⟩:=e.live r k f;exact⟨l,i,c.bD (λ_ _ _ h=>h) (λ_ _ h=>h) (h l.b λn=>Iw e (d _ n) r k l f i rfl) c.frozen⟩
def Kx{ok:Array Oper->Bool}(hE:E.Ok ok){n:Nat}(hn:OA E ok n){dep:Nat}{f:FuncId}{args:List AV}{H H':aa}{x:AV}(h:wu E (cD E n) dep f args H=some (x,H')):jd E.P (.fn f) args H x H':=by
 unfold wu at h;obtain⟨O,h⟩:=eY.1 h;obtain⟨fn,q,s,u⟩:=hE.fns f O;rw[q]at h;simp only at h;split at h
 ·rename_i c K;obtain⟨hlen,h⟩:=eY.1 h;split at h
  ·rename_i st Q;simp only[bI]at h;obtain⟨x',I,h⟩:=h;injection h with Z F
   subst Z;subst F;refine⟨⟨fn,q,s,by rw[K];rfl⟩,?_⟩;intro M ι w us hS y W cs;have hul:=W.1;have hO:z0 M ι ⟨args,H⟩ fn.ntmps { tmps:=us.toArray++Array.replicate (fn.ntmps - us.toArray.size) undef,defers:=[]} w:=by
    refine⟨hS,y,⟨?_⟩,by simp;omega⟩;intro t;rw[Sn,Dd];rcases fl t args.length with G | G
    ·rw[dI G,OY (by simp;omega),cB];have U:us[t]?=some (us[t]'(by omega)):=dI _;simp only[OS,U,cB];exact W.2 t _ _ (dI G) U
    rw[xZ G,Array.getElem?_append_right (by simp;omega)];have : ∀k:Nat,((Array.replicate (fn.ntmps - us.toArray.size) undef)[k]?).getD undef=undef:=(by intro k;rw[OU];split<;>rfl);rw[this];exact .v rfl
   let b:Frame := { (default:Frame)with fn:=f,kind := .normal}
   have p:Frame.enter E.P f us.toArray .normal=b.atR { tmps:=us.toArray++Array.replicate (fn.ntmps - us.toArray.size) undef,defers:=[]} [.code c]:=(by simp[Frame.enter,Frame.atR,q,K,b];rfl);obtain⟨C,w',todo,ds,⟨M',A,e,m⟩,B,j,d⟩:=hn none fn.ntmps dep [.code c] ⟨args,H⟩ st Q (by intro i hi;simp at hi;subst hi;exact u c K) M ι _ w hO b cs rfl rfl;rw[<-p]at d;simp only[rI]at B;obtain⟨L,F,h3,Y,h5,X,V⟩:=NA (P:=E.P) (fr := { b.atR C todo with mode := .returning}) (cs:=cs) ds w' rfl j.1 (λD y=>(j.2 D y).2);have S : { { b.atR C todo with mode := .returning} with defers:=marks ds} = { b.atR C todo with mode := .returning}:=by rw[<-show C.defers=marks ds from B];rfl
   rw[S]at F;have z:=e.sim.other (λD y=>(j.2 D y).2) V;have T:uS M ι H.get w M' A st.hp.get L:=(by refine⟨h3.trans m.os,Y.trans m.tape,h5.trans m.output,by rw[X];exact m.size,λb0 R N=>?_,m.mem,m.map,m.live,m.new⟩;rw[V b0 λy=>absurd (j.2 b0 y).1 (by omega)];exact m.chg b0 R N);obtain⟨v,hr,J⟩:=PA (w:=L) ⟨z,e.dom,e.tr,e.nt⟩ I;exact⟨.returned v,L, { { b.atR C todo with mode := .returning} with defers:=[]},⟨v,rfl,M',A,J,z,T,e.dom⟩,iQn d F,rfl,rfl,rfl,rfl,fn,q,hr⟩
  cases h
 cases h
end
end
section
def FF{g:cV}(r:Ref) : ∀(n m:Nat)(x y:AV)(bs:List bj),view g n x=some y->ao r m y bs=(y,bs):=by
 intro n;induction n with
 | zero=>intro m x y bs h;simp[view]at h
 | succ n C=>
  intro m x y bs h;cases m with
  | zero=>rfl
  | succ m=>
   have e : ∀(cs s d:List AV),cs.mapM (view g n)=some s->s.foldl (λ(p:List AV × List bj) c=>(p.1++[(ao r m c p.2).1],(ao r m c p.2).2)) (d,bs)=(d++s,bs):=by
    intro cs;induction cs with
    | nil=>intro s d h;simp at h;subst h;simp
    | cons c cs z=>intro s d h;simp only[nP,sP,tV,iF]at h;obtain⟨y,B,u,q,h⟩:=h;simp at h;subst h;rw[wS,C m c y bs B,z u (d++[y]) q];simp
   cases x with
   | agg cs=>simp only[view,bI]at h;obtain⟨s,q,rfl⟩:=h;have:=e cs s [] q;simp only[ao];rw[this];simp
   | tup cs=>simp only[view,bI]at h;obtain⟨s,q,rfl⟩:=h;have:=e cs s [] q;simp only[ao];rw[this];simp
   | v x=>simp[view]at h;subst h;rfl
   | bg=>simp[view]at h;subst h;rfl
   | iptr=>simp[view]at h;subst h;rfl
   | fsl=>simp[view]at h
   | bk r' off len cap=>
    simp only[view]at h;split at h
    ·split at h;·cases h;rfl
     cases h
    cases h
   | nsl=>simp[view]at h
   | dsl r' off len cap=>
    simp only[view]at h;split at h
    ·split at h;·simp only[bI]at h;obtain⟨_,_,rfl⟩:=h;rfl
     cases h
    cases h
   | ptr r' i j=>
    simp only[view]at h;split at h
    ·split at h;·cases h;rfl
     simp only[bI]at h;obtain⟨_,_,rfl⟩:=h;rfl
    cases h
   | fn f a b=>
    simp only[view]at h;split at h;·cases h;rfl
    cases h
   | ifc t x=>simp only[view,bI]at h;obtain⟨y,B,rfl⟩:=h;simp only[ao];rw[C m x y bs B]
   | yld=>simp[view]at h
   | mp=>simp[view]at h
   | ch=>simp[view]at h
   | Aj=>simp[view]at h
   | lp=>simp[view]at h
def a9(g:cV):Nat->AV->List Ref
 | 0,_=>[]
 | n+1,x=>
  match x with
  | .agg cs | .tup cs=>cs.flatMap (a9 g n)
  | .bk r 0 len _=>(match g r with | some b=>if b.gR then [] else [r] | none=>[])
  | .dsl r 0 len _=>(match g r with | some b=>if b.gR then [] else b.es.flatMap (a9 g n)++[r] | none=>[])
  | .mp r=>[r]
  | .ifc _ x=>a9 g n x
  | _=>[]
def cC(g:cV):Nat->AV->List Ref
 | 0,_=>[]
 | n+1,x=>
  match x with
  | .agg cs | .tup cs=>cs.flatMap (cC g n)
  | .bk r 0 len _=>(match g r with | some b=>if b.gR then [r] else [] | none=>[r])
  | .dsl r 0 len _=>(match g r with | some b=>if b.gR then r :: b.es.flatMap (ah g n) else b.es.flatMap (cC g n) | none=>[r])
  | .mp _=>[]
  | .ifc _ x=>cC g n x
  | x=>ah g (n+1) x
def Gm{g:cV} : ∀(n:Nat)(x:AV)(r:Ref),r∈a9 g n x->r∈ah g n x:=by
 intro n;induction n with
 | zero=>intro x r h;simp[a9]at h
 | succ n f=>
  intro x r h;unfold a9 at h;split at h;·simp only[iK]at h;obtain⟨c,e,d⟩:=h;simp only[ah,iK];exact⟨c,e,f c r d⟩
  ·simp only[iK]at h;obtain⟨c,e,d⟩:=h;simp only[ah,iK];exact⟨c,e,f c r d⟩
  ·split at h
   ·split at h;·cases h
    simpa [ah] using h
   cases h
  ·split at h
   ·rename_i b i;split at h;·cases h
    simp only[mq,iK,mA]at h;simp only[ah,i,fh,iK];rcases h with ⟨c,e,d⟩ | rfl
    ·exact .inr ⟨c,e,f c r d⟩
    exact .inl rfl
   cases h
  ·simpa [ah] using h
  ·simp only[ah];exact f _ r h
  cases h
def IN{g:cV} : ∀(n:Nat)(x:AV),(ah g n x).Nodup->(a9 g n x).Nodup /\∀r∈a9 g n x,r ∉ cC g n x:=by
 intro n;induction n with
 | zero=>intro x h;simp[a9]
 | succ n K=>
  intro x h;have f : ∀(n:Nat)(x:AV)(r:Ref),r∈cC g n x->r∈ah g n x:=by
   intro n;induction n with
   | zero=>intro x r h;simp[cC]at h
   | succ n y=>
    intro x r h;unfold cC at h;split at h;·simp only[iK]at h;obtain⟨c,z,i⟩:=h;simp only[ah,iK];exact⟨c,z,y c r i⟩
    ·simp only[iK]at h;obtain⟨c,z,i⟩:=h;simp only[ah,iK];exact⟨c,z,y c r i⟩
    ·split at h
     ·split at h;·simpa [ah] using h
      cases h
     simpa [ah] using h
    ·split at h
     ·rename_i b v;split at h;·simpa [ah,v] using h
      simp only[iK]at h;obtain⟨c,z,i⟩:=h;simp only[ah,v,fh,iK];exact .inr ⟨c,z,y c r i⟩
     rename_i v;simpa [ah,v] using h
    ·cases h
    ·simp only[ah];exact y _ r h
    exact h
  have p : ∀cs:List AV,(cs.flatMap (ah g n)).Nodup->(cs.flatMap (a9 g n)).Nodup /\∀r∈cs.flatMap (a9 g n),r ∉ cs.flatMap (cC g n):=by
   intro cs;induction cs with
   | nil=>intro _;simp
   | cons c cs D=>
    intro I;rw[mz,KO]at I;obtain⟨B,H,F⟩:=I;obtain⟨N,Q⟩:=K c B;obtain⟨L,O⟩:=D H;have s : ∀r,r∈cs.flatMap (a9 g n)->r∈cs.flatMap (ah g n):=by
     intro r i;simp only[iK]at i ⊢;obtain⟨d,hd,i⟩:=i;exact⟨d,hd,Gm n d r i⟩
    have m : ∀r,r∈cs.flatMap (cC g n)->r∈cs.flatMap (ah g n):=(by intro r i;simp only[iK]at i ⊢;obtain⟨d,hd,i⟩:=i;exact⟨d,hd,f n d r i⟩);refine⟨?_,?_⟩;·rw[mz,KO];exact⟨N,L,λa G b v e=>F a (Gm n c a G) b (s b v) e⟩
    intro r i u;rw[mz,mq]at i u;rcases i with i | i<;>rcases u with u | u
    ·exact Q r i u
    ·exact F r (Gm n c r i) r (m r u) rfl
    ·exact F r (f n c r u) r (s r i) rfl
    exact O r i u
  cases x with
  | agg cs=>simpa [a9,cC] using p cs (by simpa [ah] using h)
  | tup cs=>simpa [a9,cC] using p cs (by simpa [ah] using h)
  | bk r off len cap=>
   cases off with
   | zero=>
    simp only[a9,cC];cases J:g r with
    | none=>simp
    | some b=>cases v:b.gR<;>simp[v]
   | succ off=>simp[a9]
  | dsl r off len cap=>
   cases off with
   | zero=>
    simp only[a9,cC];cases J:g r with
    | none=>simp
    | some b=>
     cases v:b.gR with| true=>simp[v]| false=>
      simp only[ah,J,Ax]at h;obtain⟨i,C⟩:=h;obtain⟨B,H⟩:=p b.es C;have s : ∀q,q∈b.es.flatMap (a9 g n)->q∈b.es.flatMap (ah g n):=by
       intro q j;simp only[iK]at j ⊢;obtain⟨d,hd,j⟩:=j;exact⟨d,hd,Gm n d q j⟩
      have m : ∀q,q∈b.es.flatMap (cC g n)->q∈b.es.flatMap (ah g n):=(by intro q j;simp only[iK]at j ⊢;obtain⟨d,hd,j⟩:=j;exact⟨d,hd,f n d q j⟩);simp only[v,eW,iQe];refine⟨?_,?_⟩;·rw[KO];exact⟨B,by simp,λa G c z e=>by simp at z;subst z;subst e;exact i (s _ G)⟩
      intro q j u;rw[mq]at j;rcases j with j | j
      ·exact H q j u
      simp at j;subst j;exact i (m _ u)
   | succ off=>simp[a9]
  | mp r=>simp[a9,cC]
  | ifc t x=>simpa [a9,cC] using K x (by simpa [ah] using h)
  | _=>simp[a9]
def Out(g:cV)(q:Ref)(b:bj):Prop:=
 (∃k len,g q=some k/\k.gR=false/\k.arr=true/\b=⟨k.esz,k.es.take len,true,false⟩)\/(∃k c,g q=some k/\nT g q=some c/\(∀e∈c,flat depth e=true)/\b=pP c) \/
 ∃k zs,g q=some k/\k.gR=false/\k.arr=false/\0<k.esz/\zs.length=k.es.length/\b=⟨k.esz,zs,false,false⟩
def QM(M:Mem)(A ι:Map)(g:cV)(w:World)(q:Ref)(b:bj):Prop :=∀k l,g q=some k->ι q=some l->k.arr=false->0<k.esz ->
 (∀(i j:Nat) z x,b.es[i]?=some z->z.cells[j]?=some x ->∃u,w.cell? ⟨l.b,i * k.esz+j,none⟩=some u/\VR M A x u) /\∀z∈b.es,z.cells.length=k.esz
def VR.adY{M:Mem}{ι:Map}{x:AV}{u:Value}(h:VR M ι x u)(c : ∀cs,x ≠ .agg cs):x.cells=[x]/\u.cells = #[u]:=by
 cases h with
 | agg=>exact absurd rfl (c _)
 | v b=>refine⟨rfl,?_⟩;cases u<;>first | rfl | simp[scalar]at b
 | Aj b=>exact⟨rfl,by cases u<;>first | rfl | (cases b)⟩
 | _=>exact⟨rfl,rfl⟩
def Kj{g:cV}{q:Ref}{b:List AV}(h:nT g q=some b) : ∃k,g q=some k/\k.esz=0/\k.es = .v (.bool true) :: b:=by
 unfold nT at h;split at h;·rename_i e f c;cases h;exact⟨_,c,rfl,rfl⟩
 cases h
def TT{M:Mem}{ι:Map}{g:cV}{w:World}{R:List Ref}(hS:gS M ι g w)(r:Ref) : ∀(n:Nat)(x y:AV)(u:Value)(bs:List bj),bO g n x=some y->VR M ι x u ->
 (∀q∈cC g n x,q∈R) ->
 ∃new:List bj,(ao r n y bs).2=bs++new/\new.length=(a9 g n x).length /\
  (∀(i:Nat) q b,(a9 g n x)[i]?=some q->new[i]?=some b->Out g q b) /\
  ∀H:List Loc,(∀(i:Nat) q l,(a9 g n x)[i]?=some q->ι q=some l->H[bs.length+i]?=some l)->VR (lz M ι g w R) (jh r H) (ao r n y bs).1 u /\∀(i:Nat) q b,(a9 g n x)[i]?=some q->new[i]?=some b->QM (lz M ι g w R) (jh r H) ι g w q b:=by
 intro n;induction n with
 | zero=>intro x y u bs h;simp[bO]at h
 | succ n ih=>
  intro x y u bs h hv V;have plain:view g (n+1) x=some y->a9 g (n+1) x=[]->(∀q∈ah g (n+1) x,q∈R) ->∃new:List bj,(ao r (n+1) y bs).2=bs++new/\new.length=(a9 g (n+1) x).length /\
   (∀(i:Nat) q b,(a9 g (n+1) x)[i]?=some q->new[i]?=some b->Out g q b) /\
   ∀H:List Loc,(∀(i:Nat) q l,(a9 g (n+1) x)[i]?=some q->ι q=some l->H[bs.length+i]?=some l)->VR (lz M ι g w R) (jh r H) (ao r (n+1) y bs).1 u /\∀(i:Nat) q b,(a9 g (n+1) x)[i]?=some q->new[i]?=some b->QM (lz M ι g w R) (jh r H) ι g w q b:=by
   intro G J K;rw[FF r (n+1) (n+1) x y bs G];exact⟨[],by simp,by rw[J];rfl,by rw[J];intro i q b F;simp at F,λH _=>⟨(Df hS (n+1) x y u G K hv).up _,by rw[J];intro i q b F;simp at F⟩⟩
  have X : ∀(cs ys:List AV)(us:List Value)(L:List AV)(bs:List bj),cs.mapM (bO g n)=some ys->mc M ι cs us->(∀q∈cs.flatMap (cC g n),q∈R) ->
   ∃(new:List bj) (zs:List AV),ys.foldl (λ(p:List AV × List bj) c=>(p.1++[(ao r n c p.2).1],(ao r n c p.2).2)) (L,bs)=(L++zs,bs++new)/\new.length=(cs.flatMap (a9 g n)).length /\
    (∀(i:Nat) q b,(cs.flatMap (a9 g n))[i]?=some q->new[i]?=some b->Out g q b) /\
    ∀H:List Loc,(∀(i:Nat) q l,(cs.flatMap (a9 g n))[i]?=some q->ι q=some l->H[bs.length+i]?=some l)->mc (lz M ι g w R) (jh r H) zs us /\∀(i:Nat) q b,(cs.flatMap (a9 g n))[i]?=some q->new[i]?=some b->QM (lz M ι g w R) (jh r H) ι g w q b:=by
   intro cs;induction cs with
   | nil=>intro ys us L bs hy Q _;simp at hy;subst hy;have:us=[]:=Ad (by rw[<-Q.1];rfl);subst this;exact⟨[],[],by simp,rfl,by intro i q b F;simp at F,λ_ _=>⟨mc.nil,by intro i q b F;simp at F⟩⟩
   | cons c cs ihc=>
    intro ys us L bs hy Q hRc;simp only[nP,sP,tV,iF]at hy;obtain⟨y,hy1,ys',N,hy2⟩:=hy;simp at hy2;subst hy2;cases us with
    | nil=>have:=Q.1;simp at this
    | cons u us=>
     have hvc:VR M ι c u:=Q.2 0 c u rfl rfl;have hvcs:mc M ι cs us:=⟨by have:=Q.1;simpa using this,λi x v hx hv=>Q.2 (i+1) x v (by simpa using hx) (by simpa using hv)⟩;simp only[mz,mq]at hRc;obtain⟨new1,G,J,K,h4⟩:=ih c y u bs hy1 hvc (λq F=>hRc q (.inl F));obtain⟨new2,zs,h5,h6,h7,h8⟩:=ihc ys' us (L++[(ao r n y bs).1]) (bs++new1) N hvcs (λq F=>hRc q (.inr F));refine⟨new1++new2,(ao r n y bs).1 :: zs,?_,?_,?_,?_⟩;·rw[wS];simp only;rw[G,h5];simp
     ·simp[J,h6]
     ·intro i q b F Y;rw[mz]at F;rcases fl i (a9 g n c).length with hi | hi
      ·rw[jU hi]at F;rw[jU (by omega)]at Y;exact K i q b F Y
      rw[gU hi]at F;rw[gU (by omega),J]at Y;exact h7 _ q b F Y
     intro H B;have p1:=h4 H (by
      intro i q l F hl;refine B i q l ?_ hl;rw[mz,jU (ee.1 F).1];exact F)
     have p2:=h8 H (by
      intro i q l F hl;have:=B ((a9 g n c).length+i) q l (by
       rw[mz,gU (by omega),KV];exact F) hl
      rw[ja,J,GL];exact this)
     refine⟨mc.cons p1.1 p2.1,λi q b F Y=>?_⟩;rw[mz]at F;rcases fl i (a9 g n c).length with hi | hi
     ·rw[jU hi]at F;rw[jU (by omega)]at Y;exact p1.2 i q b F Y
     rw[gU hi]at F;rw[gU (by omega),J]at Y;exact p2.2 _ q b F Y
  cases x with
  | agg cs=>simp only[bO,bI]at h;obtain⟨ys,N,rfl⟩:=h;obtain⟨vs,rfl,Q⟩:=hv.R8;obtain⟨new,zs,G,J,K,h4⟩:=X cs ys vs.toList [] bs N Q (by simpa [cC] using V);simp only[ao];rw[G];refine⟨new,rfl,by simpa [a9] using J,by simpa [a9] using K,λH B=>?_⟩;have:=h4 H (by simpa [a9] using B);exact⟨by simpa using VR.qE.2 this.1,by simpa [a9] using this.2⟩
  | tup cs=>
   simp only[bO,bI]at h;obtain⟨ys,N,rfl⟩:=h;cases hv with | tup h0 hl hh=>
   rename_i vs;obtain⟨new,zs,G,J,K,h4⟩:=X cs ys vs.toList [] bs N ⟨by simpa using hl,λi x u hx I=>hh i x u hx (by simpa using I)⟩ (by simpa [cC] using V);simp only[ao];rw[G];refine⟨new,rfl,by simpa [a9] using J,by simpa [a9] using K,λH B=>?_⟩;obtain⟨this,hdp⟩:=h4 H (by simpa [a9] using B);simp only[sO];refine⟨.tup ?_ (by simpa using this.1) λi c u hc I=>this.2 i c u hc (by simpa using I),by simpa [a9] using hdp⟩;intro e;rw[e]at this;have h5:=this.1;simp at h5;have h6:vs.size=0:=by omega
   rw[h6]at hl;exact h0 (Ad hl)
  | bk q off len cap=>
   cases off with| succ off=>exact plain (by simpa [bO] using h) (by simp[a9]) (by simpa [cC] using V)| zero=>
    simp only[bO]at h;split at h
    ·rename_i k O;obtain⟨⟨C,hlen⟩,h⟩:=eY.1 h;injection h with h
     cases D:k.gR with
     | true=>
      rw[D]at h;simp only[if_true]at h;refine plain ?_ (by simp[a9,O,D]) (by
       intro Z f;refine V Z ?_;simp only[ah,mA]at f;simp[cC,O,D,f])
      simp only[view,O,C];rw[if_pos ⟨trivial,by omega⟩];simp[<-h]
     | false=>
      rw[D]at h;simp only[eW,iQe]at h;subst h;have m:a9 g (n+1) (.bk q 0 len cap)=[q]:=by simp[a9,O,D]
      cases hv with | bk hr Y hs ha hc hn hkk hzl=>
      rename_i l a c;have hl2:(k.es.take len).length=len:=by rw[ku];omega
      have hkz0:k.esz≠0:=(by obtain⟨l0,hl0,S⟩:=hS.live q k O;have:=S.pos C;omega);refine⟨[⟨k.esz,k.es.take len,true,false⟩],by simp[ao,hkz0],by rw[m];rfl,?_,?_⟩
      ·intro i Z b f s;rw[m]at f;cases i with
       | succ i=>simp at f
       | zero=>simp at f s;subst f;subst s;exact .inl ⟨k,len,O,D,C,rfl⟩
      intro H B;have:=B 0 q l (by rw[m];rfl) hr;simp only[ao,hl2,if_neg hkz0];refine⟨.bk (l:=l) ?_ Y hs ha hc hn hkk hzl,λi Z b f s=>?_⟩;·unfold jh;simpa using this
      rw[m]at f;cases i with
      | succ i=>simp at f
      | zero=>simp at f;subst f;intro k' l' G _ K;rw[O]at G;cases G;rw[C]at K;cases K
    cases h
  | nsl=>simp[bO,view]at h
  | dsl q off len cap=>
   cases off with| succ off=>exact plain (by simpa [bO] using h) (by simp[a9]) (by simpa [cC] using V)| zero=>
    simp only[bO]at h;split at h
    ·rename_i k O;obtain⟨⟨C,hlen⟩,h⟩:=eY.1 h;cases D:k.gR with
     | true=>
      rw[D]at h;simp only[if_true]at h;refine plain ?_ (by simp[a9,O,D]) (by
       intro Z f;refine V Z ?_;simpa [cC,ah,O,D] using f)
      obtain⟨es',hes,rfl⟩:=bI.1 h;have hel:=hJ hes;simp only[view,O];rw[if_pos ⟨C,by omega⟩,hes];simp only[Option.map_some,En];rw[dq (by omega)]
     | false=>
      rw[D]at h;simp only[eW,iQe]at h;obtain⟨ys,N,rfl⟩:=bI.1 h;have m:a9 g (n+1) (.dsl q 0 len cap)=k.es.flatMap (a9 g n)++[q]:=by simp[a9,O,D]
      have hseen:cC g (n+1) (.dsl q 0 len cap)=k.es.flatMap (cC g n):=(by simp[cC,O,D]);cases hv with | dsl hr Y hs ha hc hn hkk hzl=>
      rename_i l a c;have S:=hS.at hr hzl O;have hkz:0<k.esz:=by rw[<-S.esz];exact hzl
      obtain⟨arr,T,fz,hh,hsz,_,W⟩:=S.heap;have hcl : ∀o,w.cell? ⟨l.b,o,none⟩=arr[o]?:=λo=>jP hh;let val:Nat->AV->Value:=λi e=>match e with
       | .agg cs => .agg ((List.range cs.length).map λj=>(arr[i * k.esz+j]?).getD undef).toArray
       | _=>(arr[i * k.esz]?).getD undef
      have hval : ∀(i:Nat) e,k.es[i]?=some e->VR M ι e (val i e) /\∀(j:Nat) u,(val i e).cells[j]?=some u->arr[i * k.esz+j]?=some u:=by
       intro i e U;have hlen':=S.cells e (dJ U);by_cases hag : ∃cs,e = .agg cs
       ·obtain⟨cs,rfl⟩:=hag;refine⟨VR.qE.2 ⟨by simp[val],λj x u hx I=>?_⟩,λj u I=>?_⟩;·obtain⟨u',G,_,K⟩:=W i j _ x U (by simpa [AV.cells] using hx);rw[bj.map,if_neg (by simp[C])]at K;have hj:=(ee.1 hx).1;have:u=u':=(by simp only[val,List.toArray,mr]at I;rw[Fk hj]at I;simp[G]at I;exact I.symm);rw[this];exact K
        have hj:j<cs.length:=(by have:=(jb.1 I).1;simpa [val,Value.cells] using this);obtain⟨u',G,_,_⟩:=W i j _ cs[j] U (by simp[AV.cells,hj]);have:(val i (.agg cs)).cells[j]?=some u':=by simp[val,Value.cells,hj,G]
        rw[this]at I;cases I;exact G
       have hne : ∀cs,e ≠ .agg cs:=λcs hc=>hag ⟨cs,hc⟩;have hc1:e.cells=[e]:=by cases e<;>first | rfl | exact absurd rfl (hne _)
       obtain⟨u',G,_,K⟩:=W i 0 e e U (by rw[hc1];rfl);rw[bj.map,if_neg (by simp[C])]at K;have hv0:val i e=u':=(by simp only[uE]at G;cases e<;>first | exact absurd rfl (hne _) | simp[val,G]);rw[hv0];refine⟨K,λj u I=>?_⟩;rw[(K.adY hne).2]at I;cases j with
       | zero=>simp at I;subst I;exact G
       | succ j=>simp at I
      let us:List Value:=(List.range k.es.length).map λi=>val i (k.es[i]?.getD AV.undef)
      have hus:mc M ι k.es us:=(by refine⟨by simp[us],λi e u U I=>?_⟩;have hi:=(ee.1 U).1;simp only[us,mr]at I;rw[Fk hi]at I;simp[U]at I;rw[<-I];exact(hval i e U).1);obtain⟨new,zs,G,J,K,h4⟩:=X k.es ys us [] bs N hus (by rw[hseen]at V;exact V);have hzl':zs.length=k.es.length/\ys.length=k.es.length:=by
       refine⟨?_,hJ N⟩;have e1:=iQg (λp:List AV × List bj=>p.1.length) G;have : ∀(cs L:List AV)(bs:List bj),(cs.foldl (λ(p:List AV × List bj) c=>(p.1++[(ao r n c p.2).1],(ao r n c p.2).2)) (L,bs)).1.length=L.length+cs.length:=by
        intro cs;induction cs with
        | nil=>intro L bs;simp
        | cons c cs ihc=>intro L bs;rw[wS,ihc];simp;omega
       simp only[this]at e1;have e2:=hJ N;simp at e1;omega
      refine⟨new++[⟨k.esz,zs,false,false⟩],?_,?_,?_,?_⟩;·simp only[ao];rw[G];simp
      ·rw[m];simp[J]
      ·intro i Z b f s;rw[m]at f;rcases fl i new.length with hi | hi
       ·rw[jU (by omega)]at f;rw[jU hi]at s;exact K i Z b f s
       rw[gU (by omega)]at f;rw[gU hi]at s;rw[<-J]at f;cases hd:i - new.length with
       | succ d=>rw[hd]at f;simp at f
       | zero=>rw[hd]at f s;simp at f s;subst f;subst s;exact .inr (.inr ⟨k,zs,O,D,C,hkz,hzl'.1,rfl⟩)
      intro H B;obtain⟨p1,p2⟩:=h4 H (by
       intro i Z l' f hl';refine B i Z l' ?_ hl';rw[m,jU (ee.1 f).1];exact f)
      have hq0:=B new.length q l (by rw[m,gU (by omega),J];simp) hr;simp only[ao];rw[G];simp only[sO];refine⟨?_,?_⟩;·rw[hzl'.2,<-hlen];refine .dsl (l:=l) ?_ Y hs ha hc hn hkk hzl;unfold jh;simpa using hq0
      intro i Z b f s;rw[m]at f;rcases fl i new.length with hi | hi
      ·rw[jU (by omega)]at f;rw[jU hi]at s;exact p2 i Z b f s
      rw[gU (by omega)]at f;rw[gU hi]at s;rw[<-J]at f;cases hd:i - new.length with
      | succ d=>rw[hd]at f;simp at f
      | zero=>
       rw[hd]at f s;simp at f s;subst f;subst s;intro k' l' e1 e2 _ _;rw[O]at e1;cases e1;rw[hr]at e2;cases e2;have zc : ∀(i:Nat) z,zs[i]?=some z ->∃e,k.es[i]?=some e/\mc (lz M ι g w R) (jh r H) z.cells (val i e).cells.toList:=(by intro i z hz;have hi:=(ee.1 hz).1;have U:k.es[i]?=some (k.es[i]'(by omega)):=dI _;refine⟨_,U,(p1.2 i z _ hz ?_).cells⟩;simp only[us,mr];rw[Fk (by omega)];simp[U]);refine⟨λi j z x hz hx=>?_,λz hz=>?_⟩
       ·obtain⟨e,U,hzv⟩:=zc i z hz;have hj:=(ee.1 hx).1;have hju:j<(val i e).cells.toList.length:=by rw[<-hzv.1];exact hj
        have I:(val i e).cells.toList[j]?=some ((val i e).cells.toList[j]):=dI hju;refine⟨_,?_,hzv.2 j x _ hx I⟩;rw[hcl];exact(hval i e U).2 j _ (by simpa using I)
       obtain⟨i,hi,rfl⟩:=pW hz;obtain⟨e,U,hzv⟩:=zc i _ (dI hi);have h5:=(hval i e U).1.cells;rw[hzv.1,<-h5.1];exact S.cells e (dJ U)
    cases h
  | v x=>exact plain (by simpa [bO] using h) (by simp[a9]) (by simpa [cC] using V)
  | bg=>exact plain (by simpa [bO] using h) (by simp[a9]) (by simpa [cC] using V)
  | iptr=>exact plain (by simpa [bO] using h) (by simp[a9]) (by simpa [cC] using V)
  | fsl=>exact plain (by simpa [bO] using h) (by simp[a9]) (by simpa [cC] using V)
  | ptr=>exact plain (by simpa [bO] using h) (by simp[a9]) (by simpa [cC] using V)
  | fn=>exact plain (by simpa [bO] using h) (by simp[a9]) (by simpa [cC] using V)
  | ifc t x=>
   simp only[bO,bI]at h;obtain⟨y,hy,rfl⟩:=h;cases hv with | ifc hv=>
   obtain⟨new,G,J,K,h4⟩:=ih x y _ bs hy hv (by simpa [cC] using V);simp only[ao];exact⟨new,G,by simpa [a9] using J,by simpa [a9] using K,λH B=>⟨.ifc (h4 H (by simpa [a9] using B)).1,by simpa [a9] using (h4 H (by simpa [a9] using B)).2⟩⟩
  | yld=>simp[bO,view]at h
  | ch q=>simp[bO,view]at h
  | Aj q=>simp[bO,view]at h
  | mp q=>
   simp only[bO]at h;split at h
   ·rename_i ents hm;obtain⟨hfl,h⟩:=eY.1 h;injection h with h
    subst h;have m:a9 g (n+1) (.mp q)=[q]:=by simp[a9]
    cases hv with | mp hr hz=>
    rename_i l;obtain⟨k,O,_,_⟩:=Kj hm;refine⟨[pP ents],by simp[ao,pP],by rw[m];rfl,?_,?_⟩
    ·intro i Z b f s;rw[m]at f;cases i with
     | succ i=>simp at f
     | zero=>simp at f s;subst f;subst s;exact .inr (.inl ⟨k,ents,O,hm,by simpa [gf] using hfl,rfl⟩)
    intro H B;have:=B 0 q l (by rw[m];rfl) hr;simp only[ao,if_true];refine⟨.mp (l:=l) ?_ hz,λi Z b f s=>?_⟩;·unfold jh;simpa using this
    rw[m]at f;cases i with
    | succ i=>simp at f
    | zero=>simp at f;subst f;intro k' l' G J _ h4;obtain⟨l0,hl0,S⟩:=hS.live q k' G;rw[J]at hl0;cases hl0;rw[hr]at J;cases J;have:=S.esz;omega
   cases h
  | lp=>simp[bO,view]at h
def DB:aa.get []=λ_=>none:=by funext q;rfl
def YG{M:Mem}{w:World}(c : ∀b o x,M b o=some x->w.cell? ⟨b,o,none⟩=some x):gS M dO (aa.get []) w:=
 ⟨c,(λr k h=>by rw[DB]at h;cases h),(λr r' k k' l d h=>by rw[DB]at h;cases h)⟩
def aam:s9 dO []:=λq l h=>by cases h
def Nl{M:Mem}{w:World}(G : ∀b o x,M b o=some x->w.cell? ⟨b,o,none⟩=some x){H':aa}{v:Value}{w':World}{f:Mem}{c:Map}{x:AV}
 (B:VR f c x v) (q:gS f c H'.get w') (e:uS M dO (aa.get []) w f c H'.get w') {R:List Ref} {y:AV}
 (n : ∀r:Ref,∃d:List Loc,d.length=(ao r depth y []).2.length/\VR (lz f c H'.get w' R) (jh r d) (ao r depth y []).1 v /\
  (∀(k:Nat) l b,d[k]?=some l->(ao r depth y []).2[k]?=some b->pM (lz f c H'.get w' R) (jh r d) w' l b/\w.heap.size<=l.b) /\
  ∀(i j:Nat) l l',d[i]?=some l->d[j]?=some l'->l.b=l'.b->i=j):z5 M w y v (lz f c H'.get w' R) w':=by
 obtain⟨t,p⟩:=A0 (R:=R) q;have m:=e.trans p;refine⟨e.os,e.tape,e.output,e.size,λb u=>e.chg b u (λr k l h=>by rw[DB]at h;cases h),m.mem,zV q.mem,?_,n⟩;intro b o z s;rcases m.new b o z s with h | h | ⟨D,C,F,h,_⟩
 ·exact .inl h
 ·exact .inr h
 rw[DB]at h;cases h
def IA{M:Mem}{w:World}{H':aa}{w':World}{i:Mem}{c:Map}(d:uS M dO (aa.get []) w i c H'.get w'){r:Ref}{k:bj}{l:Loc}(e:H'.get r=some k)(f:c r=some l):w.heap.size<=l.b:=by
 rcases d.live r k l e f with h | ⟨j,m,n,h,_⟩
 ·exact h
 rw[DB]at h;cases h
def Out.live{g:cV}{q:Ref}{b:bj}(h:Out g q b) : ∃k,g q=some k:=by
 rcases h with ⟨k,_,c,_⟩ | ⟨k,_,c,_⟩ | ⟨k,_,c,_⟩<;>exact⟨k,c⟩
def TQ : ∀(n:Nat)(x:AV),flat n x=true->flat (n+1) x=true:=by
 intro n;induction n with
 | zero=>intro x h;simp[flat]at h
 | succ n e=>
  intro x h;cases x with
  | v x=>rfl
  | agg cs=>simp only[flat,gf]at h ⊢;exact λc d=>by have:=e c (h c d);simpa [flat] using this
  | tup cs=>simp only[flat,gf]at h ⊢;exact λc d=>by have:=e c (h c d);simpa [flat] using this
  | ifc t x=>have:=e x (by simpa [flat] using h);simpa [flat] using this
  | fn f a b=>simp only[flat,bo,gf]at h ⊢;exact⟨λc d=>by have:=e c (h.1 c d);simpa [flat] using this,λc d=>by have:=e c (h.2 c d);simpa [flat] using this⟩
  | _=>simp[flat]at h
def W8{cs:List AV}(h:flat depth (.tup cs)=true){c:AV}(d:c∈cs):flat depth c=true:=by
 have b:depth=(depth - 1)+1:=rfl;rw[b]at h ⊢;simp only[flat,gf]at h;exact TQ _ c (h c d)
def Fy{E:Env}{ok:Array Oper->Bool}(hE:E.Ok ok){n:Nat}(hn:OA E ok n){f:FuncId}{args:List AV}{y:AV}(h:dv E (cD E n) f args=some y):j5 E.P f args y:=by
 unfold dv at h;split at h;·rename_i s hs;cases h;exact hE.specs f args y hs
 split at h
 ·rename_i x H' hc;obtain⟨hfn,L⟩:=Kx hE hn hc;refine⟨hfn,λM w us hm hvs=>?_⟩;refine(L M dO w us (YG hm) aam hvs).mono λe w' ⟨v,p,M1,ι1,hv,hS,hF,hD⟩=>⟨v,?_⟩;split at h
  ·obtain⟨hnd,h⟩:=eY.1 h;obtain⟨hnd1,H⟩:=IN depth x hnd;refine⟨_,p,Nl (R:=cC H'.get depth x) hm hv hS hF λr=>?_⟩;obtain⟨new,h1,h2,h3,h4⟩:=TT (R:=cC H'.get depth x) hS r depth x y v [] h hv (λq t=>t);rw[sO]at h1;let d:Ref->Loc:=λq=>(ι1 q).getD ⟨0,0,0⟩
   obtain⟨p1,p2⟩:=h4 ((a9 H'.get depth x).map d) (by
    intro i q l t Y;simp only[kS,vG,mr,t,Option.map_some,d,Y,cB])
   refine⟨(a9 H'.get depth x).map d,by rw[h1];simp[h2],p1,?_,?_⟩
   ·intro i l b Y hb;rw[h1]at hb;have hl':=Y;simp only[mr,bI]at Y;obtain⟨q,t,F⟩:=Y;rcases h3 i q b t hb with ⟨k,len,B,U,C,rfl⟩ | ⟨k,ents,B,I,hfl,rfl⟩ | ⟨k,zs,B,U,C,D,hzl,rfl⟩
    rotate_left
    ·obtain⟨X,m,c⟩:=hS.live q k B;have:l=X:=by rw[<-F];simp[d,m]
     subst this;have hz:l.esz=0:=by
      obtain⟨k1,hk1,hz1,_⟩:=Kj I;rw[B]at hk1;cases hk1;rw[c.esz];exact hz1
     obtain⟨a,f,entries,hg,W,hsz,hent,_⟩:=BF hS I m hz;refine⟨oB.Ud (.inr (.inl ⟨ents,entries,rfl,rfl,rfl,W,hsz,λJ ent e p he'=>?_⟩)) hz (λo z Z=>?_),IA hF B m⟩;·obtain⟨ka,va,e1,e2,e3⟩:=hent J ent e p he';subst e1;refine⟨ka,va,rfl,e2,DX depth va _ ?_ e3.1,e3.2⟩;have:=hfl _ (dJ p);exact W8 this (by simp)
     have:=(A0 (R:=cC H'.get depth x) hS).1.mem _ _ _ Z;simp[World.cell?,W]at this
    ·obtain⟨X,m,c⟩:=hS.live q k B;have:l=X:=by rw[<-F];simp[d,m]
     subst this;refine⟨?_,IA hF B m⟩;replace c:=c.cellsOk D;obtain⟨arr,T,fz,W,g1,g2,g3⟩:=c.heap;obtain⟨d1,d2⟩:=p2 i q _ t hb k l B m C D;refine fH.Ud (k:=⟨k.esz,zs,false,false⟩) ⟨c.esz,⟨arr,T,fz,W,g1,g2,?_⟩,by have:=c.len;simp;omega,d2,?_⟩ D
     ·intro J j e x' p Z;obtain⟨u,hu,G⟩:=d1 J j e x' p Z;rw[jP W]at hu;have hi':J<k.es.length:=by
       have:=(ee.1 p).1;simp only at this;omega
      have hc0:=c.cells _ (eE hi');have hj:j<k.esz:=(by rw[<-d2 e (dJ p)];exact(ee.1 Z).1);obtain⟨u',hu',ho',_⟩:=g3 J j _ _ (dI hi') (dI (by omega:j<(k.es[J]).cells.length));rw[hu]at hu';cases hu';exact⟨u,hu,ho',by rw[bj.map,if_neg (by simp)];exact G⟩
     intro o z hz;exfalso;rcases zW hz with h5 | ⟨r',Q,k',N,S,hl1',V,ho⟩
     ·have:=(c.frozen o z h5).1;rw[U]at this;cases this
     have e:=hS.inj r' q k' k N l S B hl1' m V;subst e;exact H r' (dJ t) Q
    obtain⟨X,m,c⟩:=hS.live q k B;have:l=X:=by rw[<-F];simp[d,m]
    subst this;refine⟨?_,IA hF B m⟩;have D:=c.pos C;replace c:=c.cellsOk D;obtain⟨arr,T,fz,W,g1,g2,g3⟩:=c.heap;refine fH.Ud (k:=⟨k.esz,k.es.take len,true,false⟩) ⟨c.esz,⟨arr,T,fz,W,g1,g2,?_⟩,by have:=c.len;simp;omega,λe p=>c.cells e (xY p),?_⟩ D
    ·intro J j e x' p Z;simp only at p;rw[Az]at p;split at p;·obtain⟨u,hu,ho,G⟩:=g3 J j e x' p Z;rw[bj.map,if_pos C]at G;exact⟨u,hu,ho,by rw[bj.map,if_pos rfl];exact G.mono xm _ (λ_ _ h=>h)⟩
     cases p
    intro o z hz;exfalso;rcases zW hz with h5 | ⟨r',Q,k',N,S,hl',V,ho⟩
    ·have:=(c.frozen o z h5).1;rw[U]at this;cases this
    have e:=hS.inj r' q k' k N l S B hl' m V;subst e;exact H r' (dJ t) Q
   intro i j l N hi hj hb;simp only[mr,bI]at hi hj;obtain⟨q,t,F⟩:=hi;obtain⟨q',O,hql'⟩:=hj;have hi2:i<new.length:=by rw[h2];exact(ee.1 t).1
   have hj2:j<new.length:=by rw[h2];exact(ee.1 O).1
   obtain⟨k,B⟩:=(h3 i q _ t (dI hi2)).live;obtain⟨k',hk'⟩:=(h3 j q' _ O (dI hj2)).live;obtain⟨X,m,_⟩:=hS.live q k B;obtain⟨l0',K,_⟩:=hS.live q' k' hk';have e1:l=X:=by rw[<-F];simp[d,m]
   have e2:N=l0':=by rw[<-hql'];simp[d,K]
   subst e1;subst e2;have e:=hS.inj q q' k k' l N B hk' m K hb;subst e;exact(List.getElem?_inj (ee.1 t).1 hnd1).1 (by rw[t,O])
  refine⟨_,p,Nl (R:=ah H'.get depth x) hm hv hS hF λr=>?_⟩;rw[FF r depth depth x y [] h];exact⟨[],rfl,(Df hS depth x y v h (λq t=>t) hv).up _,by intro k l b Y;simp at Y,by intro i j l N hi;simp at hi⟩
 cases h
def Pl : ∀(ps:List Tmp)(b:List AV)(tm:List AV)(us:List Value)(tmps:Array Value),((ps.zip us).foldl (λtmps (p:Tmp × Value)=>tmps.setIfInBounds p.1 p.2) tmps).size=tmps.size:=by
 intro ps;induction ps with
 | nil=>intro b tm us tmps;rfl
 | cons p ps c=>
  intro b tm us tmps;cases us with
  | nil=>rfl
  | cons u us=>simp only[OL,wS];rw[c [] [] us];simp
def Sx{M:Mem}{ι:Map}{nt:Nat} : ∀(ps:List Tmp)(b:List AV)(us:List Value)(tm:List AV)(tmps:Array Value),b.length=ps.length->mc M ι b us->(∀p∈ps,p<nt)->tmps.size=nt->(∀t,VR M ι (df tm t) (tmps.getD t undef)) ->
 ∀t,VR M ι (df (vT tm ps b) t) (((ps.zip us).foldl (λtmps (p:Tmp × Value)=>tmps.setIfInBounds p.1 p.2) tmps).getD t undef):=by
 intro ps;induction ps with
 | nil=>intro b us tm tmps m d hp j h t;cases b<;>exact h t
 | cons p ps z=>
  intro b us tm tmps m d hp j h t;cases b with
  | nil=>simp at m
  | cons x b=>
   cases us with| nil=>have:=d.1;simp at this| cons u us=>
    simp only[OL,wS,vT];refine z b us _ _ (by simpa using m) ⟨by have:=d.1;simpa using this,λi y v n e=>d.2 (i+1) y v (by simpa using n) (by simpa using e)⟩ (λq s=>hp q (j7 _ s)) (by simpa using j) ?_ t;intro t';have f:=hp p (j6 ..);rw[ti,Dd];by_cases c:t'=p;·subst c;rw[if_pos rfl,Gy (by rw[j];exact f)];exact d.2 0 x u rfl rfl
    rw[if_neg c,BZ (ta c),<-Dd];exact h t'
def JV(ps:Array Tmp)(us:Array Value)(tmps:Array Value):(ps.zip us).foldl (λtmps (t,a)=>tmps.setIfInBounds t a) tmps=(ps.toList.zip us.toList).foldl (λtmps (p:Tmp × Value)=>tmps.setIfInBounds p.1 p.2) tmps:=by
 rw[<-OM,Array.toList_zip]
def Px{E:Env}{ok:Array Oper->Bool}(hE:E.Ok ok){n dep:Nat}(T:OA E ok n){r:Ref}{args:List AV}{H H':aa}{y:AV}(h:BA E (cD E n) dep r args H=some (y,H')):jd E.P (.yld r) args H y H':=by
 unfold BA at h;split at h
 ·rename_i f nt ps assign body tm C;obtain⟨⟨O,B,s,q⟩,h⟩:=eY.1 h;split at h
  ·rename_i st G;intro M ι w us l I L x N;obtain⟨nt',U,X,W,tm',d,e,g1,J,g3,V,K,g6,g7,_,_⟩:=BG I L N C;cases e;have D:us.toArray.size=d.params.size:=by rw[J];simp;rw[<-O];exact x.1.symm
   refine⟨_,_,_,_,run_yield g1 D,trivial,λc cs _=>?_⟩;let b:Frame := { (default:Frame)with fn:=d.fn,kind := .normal,roundOf:=some l.b}
   have j : ∀tmps,Frame.round l.b d.fn tmps d.assign d.body .normal=b.atR { tmps:=tmps,defers:=[]} [.code assign,.beginRound,.code body]:=(by intro tmps;simp[Frame.round,Frame.atR,b,g3,V]);rw[j];have Y:z0 M ι ⟨vT tm ps args,H⟩ nt { tmps:=(d.params.zip us.toArray).foldl (λtmps (t,a)=>tmps.setIfInBounds t a) d.tmps,defers:=[]} w:=by
    refine⟨I,L,⟨?_⟩,?_⟩;·intro t;show VR M ι _ (((d.params.zip us.toArray).foldl (λtmps (t,a)=>tmps.setIfInBounds t a) d.tmps).getD t undef);rw[JV,J];exact Sx ps args us tm d.tmps O x (λp hp=>by have:=gf.1 B p hp;simpa using this) K g6 t
    show((d.params.zip us.toArray).foldl (λtmps (t,a)=>tmps.setIfInBounds t a) d.tmps).size=nt;rw[JV,Pl _ [] []];exact K
   have u:=hE.same;obtain⟨m,inf,w',S,h2,⟨M',A,Z,R,h5⟩,Q⟩:=T (some r) nt dep _ _ st G (by
    intro i hi;simp only[fh,zi,iQu]at hi;rcases hi with rfl | rfl | rfl
    ·rw[<-u];exact s
    ·rfl
    rw[<-u];exact q) M ι _ w Y b (c :: cs) l c cs N rfl rfl rfl
   rw[S]at h;have z:Comes E.P (lone (b.atR { tmps:=(d.params.zip us.toArray).foldl (λtmps (t,a)=>tmps.setIfInBounds t a) d.tmps,defers:=[]} [.code assign,.beginRound,.code body]) (c :: cs) w) (lone (c.finish (.bool (m == 0))) cs w') (.returned (.bool (m == 0))):=Q;have F:y = .v (.bool (m == 0))/\H'=st.hp:=by
    rcases m with _ | _ | m
    ·simp only[ef,tT]at h;exact⟨h.1.symm,h.2.symm⟩
    ·exact absurd rfl h2
    simp only[ef,tT]at h;exact⟨h.1.symm,h.2.symm⟩
   obtain⟨rfl,rfl⟩:=F;exact⟨.returned (.bool (m == 0)),w',⟨_,rfl,M',A,.v rfl,Z,R,h5⟩,comesIn_wide.2 z⟩
  cases h
 cases h
def zF{E:Env}{ok:Array Oper->Bool}(c:E.Ok ok){n dep:Nat}(d:OA E ok n){t:uY}{args:List AV}{H H':aa}{y:AV}(h:eF E (cD E n) dep t args H=some (y,H')):jd E.P t args H y H':=by
 unfold eF at h;cases t with
 | fn f=>
  simp only at h;cases b:E.thrSpec f args H with
  | some z=>rw[b]at h;cases h;exact c.thrs f args H y H' b
  | none=>rw[b]at h;obtain⟨_,h⟩:=eY.1 h;exact Kx c d h
 | yld r=>exact Px c d h
def HS{E:Env}{ok:Array Oper->Bool}(hE:E.Ok ok) : ∀n,OA E ok n:=by
 intro n;induction n with
 | zero=>intro rd nt dep B st st' h;simp[cD]at h
 | succ n ih=>
  intro rd nt dep B st st' h hi M ι a w C b cs;have W : ∀(q:List Item)(h':cD E n rd nt dep q st=some st'),(∀i∈q,oO ok i=true)->Steps E.P (lone (b.atR a B) cs w) (lone (b.atR a q) cs w) ->
   Gb E.P rd M ι st a w nt st' b cs (lone (b.atR a B) cs w):=by
   intro q h' p N;exact Gb.of_steps (ds:=[]) (λ_ _=>N) C.sim uS.refl rfl uh (ih rd nt dep q st st' h' p M ι a w C b cs)
  have O : ∀(j:Nat)(u:Option Code),j≠1->(u.isNone=(j == 0))->(∀F:Loop,Dj j { F with state:=if u.isNone then .ready else .done,pending:=u})->xG rd st j=some st'->rd≠none ->
   (∀l c I v w',b.roundOf=some l->b.kind = .normal->cs=c :: I->(Instr.endRound l u).run E.P w = .ok v w'->Steps E.P (lone (b.atR a B) cs w) (lone (c.finish v) I w'))->Gb E.P rd M ι st a w nt st' b cs (lone (b.atR a B) cs w):=by
   intro j u hj hjn J h hrd N;cases rd with
   | none=>exact absurd rfl hrd
   | some r=>
    unfold xG at h;simp only at h;split at h
    ·rename_i Z z;cases h;intro l c I hr s L K;obtain⟨_,_,_,_,_,F,_,g1,_,_,_,_,_,_,g8,_⟩:=BG C.sim C.dom hr z;obtain⟨k1,k2,k3⟩:=g8 j { F with state:=if u.isNone then .ready else .done,pending:=u} ⟨rfl,rfl,rfl,rfl⟩ (J F);refine⟨j,Z,_,?_,hj,⟨M,ι,k1,k2,k3⟩,?_⟩;·simp[yQ,aa.ab,ei]
     rw[<-hjn];exact N l.b c I _ _ s L K (run_endRound u g1)
    cases h
  unfold cD at h;split at h
  ·cases rd with
   | none=>
    injection h with h
    subst h;intro s _;exact⟨a,w,[],[],⟨M,ι,C,uS.refl⟩,rfl,uh,.one (stepR_end s)⟩
   | some r=>exact O 0 none (by omega) rfl (λF=>⟨rfl,rfl⟩) h (by simp) λl c I v w' s L K hr=>by subst K;exact .one (stepR_round_end s L hr)
  ·rename_i k;have L : ∀i∈k,oO ok i=true:=λi h=>hi i (j7 _ h);cases rd with
   | none=>cases h
   | some r=>
    simp only at h;split at h;·rename_i Z z;intro l c I hr s hkd K;obtain⟨_,_,_,_,_,F,_,g1,_,_,_,_,_,g7,g8,_⟩:=BG C.sim C.dom hr z;obtain⟨k1,k2,k3⟩:=g8 1 { F with state := .busy} ⟨rfl,rfl,rfl,rfl⟩ rfl;have N:Steps E.P (lone (b.atR a (.beginRound :: k)) cs w) (lone (b.atR a k) cs (ck w l.b (.loop { F with state := .busy}))) := .one (stepR_beginRound s (run_beginRound g1 g7.1));exact Gb.of_steps (rd:=some r) (ds:=[]) (λ_ _=>N) k1 k2 rfl uh (ih (some r) nt dep k _ st' h L M ι a _ ⟨k1,k3,C.tr,C.nt⟩ b cs) l c I hr s hkd K
    cases h
  ·rename_i c k;have Q:codeOk ok c=true:=hi _ (j6 ..);have L : ∀i∈k,oO ok i=true:=λi h=>hi i (j7 _ h);have two : ∀ {x y:Item},oO ok x=true->oO ok y=true ->∀i∈x :: y :: k,oO ok i=true:=by
    intro x y hx hy i p;rcases fh.1 p with rfl | p
    ·exact hx
    rcases fh.1 p with rfl | p
    ·exact hy
    exact L i p
   have one : ∀ {x:Item},oO ok x=true ->∀i∈x :: k,oO ok i=true:=by
    intro x hx i p;rcases fh.1 p with rfl | p
    ·exact hx
    exact L i p
   split at h;·exact W k h L (.one stepR_skip)
   ·exact W k h L (.one stepR_label)
   ·cases rd with
    | none=>
     simp only[xG,if_true]at h;injection h with h
     subst h;intro s _;exact⟨a,w,_,[],⟨M,ι,C,uS.refl⟩,rfl,uh,.one (stepR_ret s)⟩
    | some r=>exact O 2 (some .ret) (by omega) rfl (λF=>⟨rfl,rfl⟩) h (by simp) λl c I v w' s L K hr=>by subst K;exact .one (stepR_round_ret s L hr)
   ·rename_i x y;simp only[codeOk,bo]at Q;exact W _ h (two Q.1 Q.2) (.one stepR_seq)
   ·rename_i cnd x y;simp only[codeOk,bo]at Q;split at h;·rename_i s;simp only[iF]at s;obtain⟨cv,h1,h2⟩:=s;exact W _ h (one Q.1) (.one (stepR_cond (BL (aX C.tr h1) h2)))
    ·rename_i s;simp only[iF]at s;obtain⟨cv,h1,h2⟩:=s;exact W _ h (one Q.2) (.one (stepR_cond (BL (aX C.tr h1) h2)))
    cases h
   ·exact W _ h (two (by simpa [codeOk,oO] using Q) rfl) (.one stepR_block)
   ·exact W _ h (two (by simpa [codeOk,oO] using Q) rfl) (.one (iQo (by simp[stepG,stepG.exec,Frame.atR])))
   ·exact W _ h (two (by simpa [codeOk,oO] using Q) (by simpa [codeOk,oO] using Q)) (.one stepR_loop)
   ·rename_i id;split at h;·rename_i k' S;exact W _ h (Ks S L) (.one (stepR_exit S))
    rename_i S;cases rd with
    | none=>simp at h
    | some r=>exact O (id+3) (some (.exit id)) (by omega) (by simp) (λF=>⟨rfl,rfl⟩) (by simpa using h) (by simp) λl c I v w' s hkd K hr=>by subst K;exact .one (stepR_round_exit s hkd S hr)
   ·rename_i id ops Y;split at h
    ·rename_i T hst1;have hap:Y=true->tM E ops T=true:=by
      intro hd;cases s:tM E ops T with
      | true=>rfl
      | false=>rw[hd,s]at h;simp at h
     replace h:cD E n rd nt dep k T=some st':=by
      split at h;·cases h
      exact h
     have hpc : ∀f xs y,dv E (cD E n) f xs=some y->j5 E.P f xs y:=λf xs y h=>Fy hE ih h;have htc : ∀f xs H y H',eF E (cD E n) dep f xs H=some (y,H')->jd E.P f xs H y H':=λf xs H y H' h=>zF hE ih h;have hreg : ∃a1 w1,kQ M ι st a w nt T a1 w1/\(b.kind = .normal->Steps E.P (lone (b.atR a (.code (.region id ops Y) :: k)) cs w) (lone (b.atR a1 k) cs w1)):=by
      cases Y with| false=>exact Lt hpc htc hE.overs b k cs hst1 C| true=>
       have hwp:(Code.region id ops true).wpIn (FW b.roundOf) 0 E.P (λe a' w'=>e = .normal/\kQ M ι st a w nt T a' w') a w:=
        hE.draws ops (by simpa [codeOk] using Q) hpc htc nt dep id st T M ι a w b.roundOf _ hst1 (hap rfl) C λa' w' J=>⟨rfl,J⟩
       obtain⟨a1,w1,h1,h2⟩:=MM b hwp k cs;exact⟨a1,w1,h1,λ_=>h2⟩
     obtain⟨a1,w1,⟨⟨M1,ι1,hO1,hF1⟩,hd1⟩,N⟩:=hreg;exact Gb.of_steps (ds:=[]) (λ_=>N) hO1.sim hF1 hd1 uh (ih rd nt dep k T st' h L M1 ι1 a1 w1 hO1 b cs)
    cases h
   ·rename_i g ps assign body;simp only[codeOk,bo]at Q;split at h
    ·rename_i gi first captured hg
     split at h
     ·rename_i x H' hcall;obtain⟨hS1,hF1,hD1,hmk⟩:=WE (d:=dep) (ps:=ps) (assign:=assign) (body:=body) (fn:=b.fn) C.sim C.dom C.tr C.nt rfl;obtain⟨hfn,hthr⟩:=zF hE ih hcall;obtain⟨a',b',hfv,hva,hvb⟩:=(aX C.tr hg).aae;have hmv:=λ{xs us} (h:mc M ι xs us)=>h.mono (λ_ _ _ h=>h) hF1.map;have hyl:VR M (iG ι ⟨dep,nt,st.hp.gen dep nt,0⟩ ⟨w.heap.size+1,0,0⟩) (.yld ⟨dep,nt,st.hp.gen dep nt,0⟩) (.func (.yield (w.heap.size+1)) #[] #[]) := .yld (l:=⟨w.heap.size+1,0,0⟩) (by simp[iG]) rfl;have hall:=((hmv hva).append (mc.cons hyl mc.nil)).append (hmv hvb);have U:=hthr M _ _ _ hS1 hD1 hall;rw[show(a'.toList++[Value.func (.yield (w.heap.size+1)) #[] #[]]++b'.toList).toArray=a' ++ #[Value.func (.yield (w.heap.size+1)) #[] #[]]++b' by apply GA;simp]at U;intro s;let c1:Frame:=b.atR { a with defers:=[{ target := .collected w.heap.size,args := #[]}]++a.defers} (.inRangeFunc (w.heap.size+1) :: k)
      have henter:=stepR_rangeFunc (P:=E.P) (b:=b) (a:=a) (k:=k) (cs:=cs) (w:=w) (g:=g) (ps:=ps) (assign:=assign) (body:=body) (l:=w.heap.size+1) (mark:=[{ target := .collected w.heap.size,args := #[]}])
       (d := { target := .fn (.func gi) b',args:=a' ++ #[Value.func (.yield (w.heap.size+1)) #[] #[]]}) (f:=gi) (args:=a' ++ #[Value.func (.yield (w.heap.size+1)) #[] #[]]++b')
       (by rw[s];exact run_enterLoop_outer b.fn a.tmps ps assign body) (by have hev : ∀x,a.eval (.const x)=x:=λ_=>rfl;simp[resolve,rangeCall,hfv,Deferred.ofValue,hev];rfl) (by simp[invoke,Fv hfn];rfl)
      obtain⟨e,w3,fr,⟨v,he,M3,V,hv3,hS3,hF3,hD3⟩,hcomes,hfr,hleave⟩:=U (c1 :: cs);subst he;have hs1:Steps E.P (lone (b.atR a (.code (.rangeFunc g ps assign body) :: k)) cs w) (lone (c1.finish v) cs w3):=iQn (.one henter) (iQn hcomes (.one (step_leave_returned hleave)));have hfin:c1.finish v=b.atR { a with defers:=[{ target := .collected w.heap.size,args := #[]}]++a.defers} (.endRangeFunc (w.heap.size+1) :: k):=finish_atR_inRangeFunc _ v;rw[hfin]at hs1;have hF13:=hF1.trans hF3;have hr3:V ⟨dep,nt,st.hp.gen dep nt,0⟩=some ⟨w.heap.size+1,0,0⟩:=hF3.map _ _ (by simp[iG]);have hmk3:w3.heap[w.heap.size]?=some (.deferred (some [])):=(by rw[hF3.chg _ (jb.1 hmk).1 (Iw hS1 hmk)];exact hmk);have G : ∀ {m:Nat} {Z:AV},yQ H' ⟨dep,nt,st.hp.gen dep nt,0⟩=some (m,Z)->m≠1 ->∃F:Loop,∃w4,Dj m F /\
       Steps E.P (lone (b.atR a (.code (.rangeFunc g ps assign body) :: k)) cs w) (lone (b.atR { a with defers:=[{ target := .collected w.heap.size,args := #[]}]++a.defers} ((F.pending.map Item.code).toList++k)) cs w4) /\
       z0 M3 V ⟨st.tm,H'.put ⟨dep,nt,st.hp.gen dep nt,0⟩ none⟩ nt { a with defers:=[{ target := .collected w.heap.size,args := #[]}]++a.defers} w4/\uS M ι st.hp.get w M3 V (H'.put ⟨dep,nt,st.hp.gen dep nt,0⟩ none).get w4 /\
       sG w w4 [w.heap.size]:=by
       intro m Z z hm;obtain⟨_,_,_,_,_,F,_,g1,_,_,_,_,_,g7,_,g9⟩:=BG hS3 hD3 hr3 z;obtain⟨k1,k2,k3⟩:=g9 { F with state := .exhausted};have hnb:F.state ≠ .busy:=by
        match m,hm with
        | 0,_=>rw[g7.1];simp
        | 1,hm=>exact absurd rfl hm
        | 2,_=>rw[g7.1];simp
        | m+3,_=>rw[g7.1];simp
       refine⟨F,_,g7,iQn hs1 (.one (stepR_endRangeFunc (run_endLoop g1 hnb))),⟨k1,k3,⟨λt=>(C.tr.mono hF13.mem hF13.map).at_ t⟩,C.nt⟩,hF13.trans k2,⟨by simp,λD hD=>?_⟩⟩;simp only[mA]at hD;subst hD;refine⟨cG _,?_⟩;show(ck w3 (w.heap.size+1) _).heap[w.heap.size]?=_;rw[fu (by omega)];exact hmk3
      split at h;·rename_i z;obtain⟨F,w4,J,N,R,X,hM4⟩:=G z (by omega);rw[J.2]at N;exact Gb.of_steps (rd:=none) (ds:=[w.heap.size]) (λ_ _=>N) R.sim X rfl hM4 (ih none nt dep k _ st' h L M3 V _ w4 R b cs) s
      ·rename_i z;obtain⟨F,w4,J,N,R,X,hM4⟩:=G z (by omega);rw[J.2]at N;cases h;intro _;exact⟨_,w4,_,[w.heap.size],⟨M3,V,R,X⟩,rfl,hM4,iQn N (.one (stepR_ret s))⟩
      ·rename_i id z;obtain⟨F,w4,J,N,R,X,hM4⟩:=G z (by omega);rw[J.2]at N;split at h;·rename_i k' S;exact Gb.of_steps (rd:=none) (ds:=[w.heap.size]) (λ_ _=>iQn N (.one (stepR_exit S))) R.sim X rfl hM4 (ih none nt dep k' _ st' h (Ks S L) M3 V _ w4 R b cs) s
       cases h
      cases h
     cases h
    cases h
   cases h
  ·rename_i c k;have Q:codeOk ok c=true:=hi _ (j6 ..);have L : ∀i∈k,oO ok i=true:=λi h=>hi i (j7 _ h);refine W _ h ?_ (.one stepR_inLoop);intro i p;rcases fh.1 p with rfl | p
   ·exact Q
   rcases fh.1 p with rfl | p
   ·exact Q
   exact L i p
  ·rename_i id k;exact W k h (λi h=>hi i (j7 _ h)) (.one stepR_inBlock)
  ·rename_i id k;exact W k h (λi h=>hi i (j7 _ h)) (.one (iQo (by simp[stepG,stepG.exec,Frame.atR])))
  cases h
def R1{E:Env}{ok:Array Oper->Bool}(b:E.Ok ok){n:Nat}{f:FuncId}{args:List AV}{y:AV}(h:dv E (cD E n) f args=some y):j5 E.P f args y:=Fy b (HS b n) h
end
end Go.Ab
