/-
  What a quiet operation of the abstract machine looks at. No statement of a seat is proved here.
-/
import Derived.Test.YtmjkpdknicjjgaaGreatAbsWalk
set_option linter.unusedVariables false
set_option linter.unusedSimpArgs false
set_option linter.unusedSectionVars false
set_option linter.unnecessarySimpa false
set_option linter.defProp false
namespace Go.Ab
section
def mapM_congr{c j:Type}{f b:c->Option j} : ∀ {l:List c},(∀x∈l,f x=b x)->l.mapM f=l.mapM b:=by
 intro l;induction l with
 | nil=>intro _;rfl
 | cons a l e=>intro h;simp only[nP];rw[h a (j6 ..),e λx d=>h x (j7 _ d)]
def D8(tm tm':List AV)(a:List Operand):Prop :=∀x∈a,aP tm x=aP tm' x
def uM{tm tm':List AV}{ps:List (Nat × Operand)}(h : ∀p∈ps,aP tm p.2=aP tm' p.2):ia tm ps=ia tm' ps:=by
 unfold ia;exact mapM_congr λp hp=>by obtain⟨i,o⟩:=p;simp only[h (i,o) hp]
def zM{tm tm':List AV}{x:Option Operand}(h : ∀y,x=some y->aP tm y=aP tm' y):mJ tm x=mJ tm' x:=by
 cases x with| none=>rfl| some y=>simp only[mJ,h y rfl]
def ur{E:Env}{pc:FuncId->List AV->Option AV}{q:Bool}{g:cV}{tm tm':List AV}{r:Ref}{o:Oper}(h:D8 tm tm' o.op.operands.toList) :
 cQ E pc q g tm r o=cQ E pc q g tm' r o:=by
 unfold D8 at h;unfold cQ;split;·rename_i x j;rw[j]at h;simp only[Op.operands]at h;rw[h x (by simp)]
 ·rename_i x j;rw[j]at h;simp only[Op.operands]at h;rw[h x (by simp)]
 ·rename_i c a b j;rw[j]at h;simp only[Op.operands]at h;simp only[Ie];rw[h c (by simp),h a (by simp),h b (by simp)]
 ·rfl
 ·rename_i e x j;rw[j]at h;simp only[Op.operands]at h;rw[h x (by simp)]
 ·rename_i t ps j;rw[j]at h;simp only[Op.operands]at h;rw[uM λp hp=>h p.2 (by simp;exact⟨p.1,by simpa using hp⟩)]
 ·rename_i t n ps j;rw[j]at h;simp only[Op.operands]at h;rw[uM λp hp=>h p.2 (by simp;exact⟨p.1,by simpa using hp⟩)]
 ·rename_i t x j;rw[j]at h;simp only[Op.operands]at h;rw[h x (by simp)]
 ·rename_i x j;rw[j]at h;simp only[Op.operands]at h;rw[h x (by simp)]
 ·rename_i D t x y ty j;rw[j]at h;simp only[Op.operands]at h;rw[h x (by simp),h y (by simp)]
 ·rename_i D t x j;rw[j]at h;simp only[Op.operands]at h;rw[h x (by simp)]
 ·rename_i s d x j;rw[j]at h;simp only[Op.operands]at h;rw[h x (by simp)]
 ·rename_i t x j;rw[j]at h;simp only[Op.operands]at h;rw[h x (by simp)]
 ·rename_i f a b j;rw[j]at h;simp only[Op.operands]at h;rw[mapM_congr λx m=>h x (by simp at m ⊢;exact .inl m),mapM_congr λx m=>h x (by simp at m ⊢;exact .inr m)]
 ·rename_i t l c j;rw[j]at h;simp only[Op.operands]at h;rw[h l (by simp),h c (by simp)]
 ·rfl
 ·rename_i t x k ok j;rw[j]at h;simp only[Op.operands]at h;rw[h x (by simp),h k (by simp)]
 ·rename_i t x lo hi z j;rw[j]at h;simp only[Op.operands]at h;rw[h x (by simp),zM (x:=lo) λy u=>h y (by simp[u]),zM (x:=hi) λy u=>h y (by simp[u]),zM (x:=z) λy u=>h y (by simp[u])]
 ·rename_i t x f j;rw[j]at h;simp only[Op.operands]at h;rw[h x (by simp)]
 ·rename_i t x f j;rw[j]at h;simp only[Op.operands]at h;rw[h x (by simp)]
 ·rename_i t x y j;rw[j]at h;simp only[Op.operands]at h;rw[h x (by simp),h y (by simp)]
 ·rename_i t x y j;rw[j]at h;simp only[Op.operands]at h;rw[h x (by simp),h y (by simp)]
 ·rename_i x t F ok j;rw[j]at h;simp only[Op.operands]at h;rw[h x (by simp)]
 ·rename_i x i j;rw[j]at h;simp only[Op.operands]at h;rw[h x (by simp)]
 ·rename_i c j;rw[j]at h;simp only[Op.operands,Call.operands]at h;rw[mapM_congr (l:=c.args.toList) λx m=>h x (by simp at m ⊢;exact .inr m)];split;·rfl
  split;·rename_i f v;rw[h f (by simp[v])]
  ·rfl
  rfl
 rfl
def Xa{E:Env}{pc:FuncId->List AV->Option AV}{tc:uY->List AV->aa->cR}{H:aa}{tm tm':List AV}{r:Ref}{o:Oper}(h:D8 tm tm' o.op.operands.toList) :
 evalW E pc tc H tm r o=evalW E pc tc H tm' r o:=by
 unfold D8 at h;unfold evalW;generalize o.op=op at h ⊢;cases op<;>try rfl
 case store t x y=>simp only[Op.operands]at h;simp only;rw[h x (by simp),h y (by simp)]
 case mapUpdate t m k y=>simp only[Op.operands]at h;simp only;rw[h m (by simp),h k (by simp),h y (by simp)]
 case insert t m k y=>simp only[Op.operands]at h;simp only;rw[h m (by simp),h k (by simp),h y (by simp)]
 case mapEntry t m k=>simp only[Op.operands]at h;simp only;rw[h m (by simp),h k (by simp)]
 case entryStore t m k y=>simp only[Op.operands]at h;simp only;rw[h m (by simp),h k (by simp),h y (by simp)]
 case buildSlice t n ps=>simp only[Op.operands]at h;simp only;rw[uM λp hp=>h p.2 (by simp;exact⟨p.1,by simpa using hp⟩)]
 case makeChan t n=>simp only[Op.operands]at h;simp only;rw[h n (by simp)]
 case send c x=>simp only[Op.operands]at h;simp only;rw[h c (by simp),h x (by simp)]
 case recv t c b=>simp only[Op.operands]at h;simp only;rw[h c (by simp)]
 case call c=>
  simp only[Op.operands,Call.operands]at h;simp only;rw[mapM_congr (l:=c.args.toList) λx a=>h x (by simp at a ⊢;exact .inr a)];split;·rfl
  split;·rename_i f d;rw[h f (by simp[d])]
  ·rfl
  rfl
def Ef(ι:Map)(g C:cV):Prop :=∀q k,g q=some k->ι q≠none->C q=some k
section
variable{M:Mem}{ι:Map}{g C:cV}{w:World}
def RV{l:Loc}{k:bj}(d:fH M ι w l k){e:AV}(c:e∈k.es) : ∃u,VR M (k.map ι) e u:=by
 obtain⟨i,hi,a⟩:=pW c;have f:=d.cell i (by rw[dI hi,a]);obtain⟨us,b,_,_⟩:=f.values;cases e with
 | agg cs=>exact⟨.agg us.toArray,VR.qE.2 (by simpa [AV.cells] using b)⟩
 | _=>have h:=b.1;obtain⟨u,rfl⟩:=LJ h.symm;exact⟨u,b.2 0 _ u rfl rfl⟩
def Nt{f d:AV->Option AV}{l e:List AV}(h:l.mapM f=some e)(j : ∀x∈l,∀y,f x=some y->d x=some y):l.mapM d=some e:=by
 rw[<-h];refine mapM_congr λx c=>?_;obtain⟨i,hi,a⟩:=pW c;obtain⟨y,_,b⟩:=lZ h i x (by rw[dI hi,a]);rw[b,j x c y b]
def we{c j:Type}{f b:c->List j} : ∀ {l:List c},(∀x∈l,f x=b x)->l.flatMap f=l.flatMap b:=by
 intro l;induction l with
 | nil=>intro _;rfl
 | cons a l e=>intro h;rw[mz,mz,h a (j6 ..),e λx d=>h x (j7 _ d)]
def yb(hS:gS M ι C w)(hL:Ef ι g C) : ∀(n:Nat)(x y:AV)(u:Value)(p:Mem),view g n x=some y->VR p ι x u->view C n x=some y/\ah C n x=ah g n x /\∀r∈ah g n x,ι r≠none:=by
 intro n;induction n with
 | zero=>intro x y u p h;simp[view]at h
 | succ n S=>
  intro x y u p h hv;have e : ∀ {cs P:List AV},cs.mapM (view g n)=some P->(∀c∈cs,∃u p,VR p ι c u)->cs.mapM (view C n)=some P/\cs.flatMap (ah C n)=cs.flatMap (ah g n) /\∀r∈cs.flatMap (ah g n),ι r≠none:=by
   intro cs P z L;refine⟨Nt z λc s y Q=>?_,we λc s=>?_,?_⟩;·obtain⟨u,p,F⟩:=L c s;exact(S c y u p Q F).1
   ·obtain⟨u,p,F⟩:=L c s;obtain⟨i,hi,G⟩:=pW s;obtain⟨y,_,Q⟩:=lZ z i c (by rw[dI hi,G]);exact(S c y u p Q F).2.1
   intro r t;obtain⟨c,s,t⟩:=iK.1 t;obtain⟨u,p,F⟩:=L c s;obtain⟨i,hi,G⟩:=pW s;obtain⟨y,_,Q⟩:=lZ z i c (by rw[dI hi,G]);exact(S c y u p Q F).2.2 r t
  have inl : ∀ {cs:List AV} {R:Array Value},cs.length=R.size->(∀(i:Nat) c u,cs[i]?=some c->R[i]?=some u->VR p ι c u) ->∀c∈cs,∃u p,VR p ι c u:=(by intro cs R T J c s;obtain⟨i,hi,G⟩:=pW s;exact⟨R[i]'(by omega),p,J i c _ (by rw[dI hi,G]) (kD (by omega))⟩);cases hv with
  | v hs=>simp[view]at h;subst h;simp[view,ah]
  | agg T J=>simp only[view,bI]at h;obtain⟨P,z,rfl⟩:=h;obtain⟨D,I,H⟩:=e z (inl T J);exact⟨by simp[view,D],by simp only[ah];exact I,by simp only[ah];exact H⟩
  | tup h0 T J=>simp only[view,bI]at h;obtain⟨P,z,rfl⟩:=h;obtain⟨D,I,H⟩:=e z (inl T J);exact⟨by simp[view,D],by simp only[ah];exact I,by simp only[ah];exact H⟩
  | bg=>simp[view]at h;subst h;simp[view,ah]
  | iptr=>simp[view]at h;subst h;simp[view,ah]
  | bk t hb hs ha s hn hk K=>
   rename_i r Y len cap l a c;simp only[view]at h;split at h;·rename_i b f;have:=hL r b f (by rw[t];simp);exact⟨by simp only[view,this];exact h,by simp[ah],by intro q k;simp only[ah,mA]at k;rw[k,t];simp⟩
   cases h
  | dsl t hb hs ha s hn hk K=>
   rename_i r Y len cap l a c;simp only[view]at h;split at h
   ·rename_i b f;have m:=hL r b f (by rw[t];simp);split at h
    ·rename_i J;obtain⟨d,hlen⟩:=J;simp only[bI]at h;obtain⟨es,O,rfl⟩:=h;have N:=hS.at t K m;obtain⟨D,I,H⟩:=e O λc s=>by
      obtain⟨u,F⟩:=RV N s;rw[bj.map,d]at F;exact⟨u,M,by simpa using F⟩
     exact⟨by simp[view,m,d,hlen,D],by simp only[ah,m,f];rw[I],by
      intro q k;simp only[ah,f]at k;rcases fh.1 k with rfl | k
      ·rw[t];simp
      exact H q k⟩
    cases h
   cases h
  | ptr t K=>
   rename_i r i j l;simp only[view]at h;split at h
   ·rename_i b f;have m:=hL r b f (by rw[t];simp);cases d:b.arr with
    | true=>rw[d]at h;exact⟨by simp only[view,m,d];exact h,by simp[ah,m,f,d],by intro q k;simp[ah,f,d]at k;rw[k,t];simp⟩
    | false=>
     rw[d]at h;simp only[eW,iQe,bI]at h;obtain⟨es,O,rfl⟩:=h;have N:=hS.at t K m;obtain⟨D,I,H⟩:=e O λc s=>by
      obtain⟨u,F⟩:=RV N s;rw[bj.map,d]at F;exact⟨u,M,by simpa using F⟩
     exact⟨by simp[view,m,d,D],by simp only[ah,m,f,d];rw[if_neg (by simp),if_neg (by simp),I],by
      intro q k;simp only[ah,f,d]at k;rw[if_neg (by simp)]at k;rcases fh.1 k with rfl | k
      ·rw[t];simp
      exact H q k⟩
   cases h
  | fn U W X hhb=>
   simp only[view]at h;split at h
   ·rename_i a' b' ha' V;cases h;obtain⟨D,I,h5⟩:=e ha' (inl U X);obtain⟨H,h4,h6⟩:=e V (inl W hhb);exact⟨by simp[view,D,H],by simp only[ah];rw[I,h4],by
     intro q k;simp only[ah,mq]at k;rcases k with k | k
     ·exact h5 q k
     exact h6 q k⟩
   cases h
  | yld=>simp[view]at h
  | mp=>simp[view]at h
  | ch=>simp[view]at h
  | Aj=>simp[view]at h
  | ifc J=>simp only[view,bI]at h;obtain⟨y',Z,rfl⟩:=h;obtain⟨D,I,H⟩:=S _ y' _ p Z J;exact⟨by simp[view,D],by simp only[ah];exact I,by simp only[ah];exact H⟩
def Sg(j:gS M ι C w)(l:Ef ι g C){d m:List AV}{us:List Value}(h:d.mapM (view g depth)=some m)(n:mc M ι d us):d.mapM (view C depth)=some m/\ct C d=ct g d /\∀r∈ct g d,ι r≠none:=by
 have inl : ∀c∈d,∃u,VR M ι c u:=by
  intro c b;obtain⟨i,hi,a⟩:=pW b;have p:=n.1;exact⟨us[i]'(by omega),n.2 i c _ (by rw[dI hi,a]) (dI (by omega))⟩
 refine⟨Nt h λc b y e=>?_,we λc b=>?_,?_⟩;·obtain⟨u,f⟩:=inl c b;exact(yb j l depth c y u M e f).1
 ·obtain⟨u,f⟩:=inl c b;obtain⟨i,hi,a⟩:=pW b;obtain⟨y,_,e⟩:=lZ h i c (by rw[dI hi,a]);exact(yb j l depth c y u M e f).2.1
 intro r k;obtain⟨c,b,k⟩:=iK.1 k;obtain⟨u,f⟩:=inl c b;obtain⟨i,hi,a⟩:=pW b;obtain⟨y,_,e⟩:=lZ h i c (by rw[dI hi,a]);exact(yb j l depth c y u M e f).2.2 r k
def I8(d:Ef ι g C){R:List Ref}(B : ∀r∈R,ι r≠none)(h:mV g R=true):mV C R=true:=by
 simp only[mV,gf]at h ⊢;intro r c;have:=h r c;cases a:g r with
 | none=>rw[a]at this;simp at this
 | some b=>rw[a]at this;rw[d r b a (B r c)];exact this
def FJ(e:Ef ι g C){x:AV}{u:Value}(d:VR M ι x u){p:Nat × List AV}(h:cy g x=some p):cy C x=some p:=by
 cases d with
 | bk c=>
  simp only[cy]at h ⊢;split at h;·rename_i b a;rw[e _ b a (by rw[c];simp)];exact h
  cases h
 | v f=>cases ‹Value› <;> simp_all [cy]
 | bg=>exact h
 | _=>simp[cy]at h
def B8(f:gS M ι C w)(l:Ef ι g C){c q:List (Nat × AV)}(h:dp g c=some q)(t : ∀p∈c,∃u,VR M ι p.2 u) :
 dp C c=some q/\ct C (c.map (·.2))=ct g (c.map (·.2)) /\∀r∈ct g (c.map (·.2)),ι r≠none:=by
 have a : ∀p∈c,∃y u,view g depth p.2=some y/\VR M ι p.2 u:=by
  intro p hp;obtain⟨i,hi,m⟩:=pW hp;obtain⟨y,_,n⟩:=lZ h i p (by rw[dI hi,m]);obtain⟨u,v⟩:=t p hp;obtain⟨k,x⟩:=p;simp only[bI]at n;obtain⟨z,s,_⟩:=n;exact⟨z,u,s,v⟩
 refine⟨?_,?_,?_⟩;·unfold dp at h ⊢;rw[<-h];refine mapM_congr λp hp=>?_;obtain⟨y,u,b,d⟩:=a p hp;obtain⟨k,x⟩:=p;simp only at b d;simp only[b,(yb f l depth x y u M b d).1]
 ·unfold ct;refine we λx e=>?_;obtain⟨p,hp,rfl⟩:=nO.1 e;obtain⟨y,u,b,d⟩:=a p hp;exact(yb f l depth p.2 y u M b d).2.1
 intro r j;obtain⟨x,e,j⟩:=iK.1 j;obtain⟨p,hp,rfl⟩:=nO.1 e;obtain⟨y,u,b,d⟩:=a p hp;exact(yb f l depth p.2 y u M b d).2.2 r j
def Wh{tm:List AV}{a:Act}(d:TR M ι tm a){ps:List (Nat × Operand)}{c:List (Nat × AV)}(h:ia tm ps=some c) : ∀p∈c,∃u,VR M ι p.2 u:=by
 intro p hp;obtain⟨f,e⟩:=sh (ι:=ι) d h;obtain⟨i,hi,b⟩:=pW hp;exact⟨_,(e i p _ (by rw[dI hi,b]) (dI (by omega))).2⟩
def Ns{P:Program}(d:gS M ι C w)(m:Ef ι g C){t:TypeId}{n:Nat}{a:List (Nat × AV)}{b:bj}(h:mkSlice P g t n a=some b)(l : ∀p∈a,∃u,VR M ι p.2 u):mkSlice P C t n a=some b:=by
 unfold mkSlice at h ⊢;split at h;·cases h
 rename_i e f;try simp only[f]
 split at h
 ·rename_i q z s c j k;try simp only[(B8 d m c l).1,j,k]
  exact h
 cases h
def JG{P:Program}{t:TypeId}{n:Nat}{d:List (Nat × AV)}{b:bj}(h:mkSlice P g t n d=some b) : ∃a,dp g d=some a:=by
 unfold mkSlice at h;split at h;·cases h
 split at h;·rename_i a z s c e f;exact⟨a,c⟩
 cases h
def Kf{P:Program}(b:Ef ι g C){e:TypeId}{x:AV}{u:Value}(a:VR M ι x u){p:Nat × List AV}(h:mK P g e x=some p):mK P C e x=some p:=by
 unfold mK at h ⊢;split at h;·exact h
 ·exact h
 rename_i c d;exact FJ b a h
def Nk{P:Program}(k:Ef ι g C){r:Ref}{t t':Option TypeId}{s x:AV}{us y:Value}(n:VR M ι s us)(m:VR M ι x y){a:AV × List bj}(h:eG P g r t t' s x=some a):eG P C r t t' s x=some a:=by
 unfold eG at h ⊢;split at h;·cases h
 rename_i e p;try simp only[p]
 split at h;·cases h
 rename_i D;rw[if_neg D];split at h
 ·rename_i z by' zz G new l q d c;try simp only[l,q,d,Kf k m c]
  split at h;·cases h
  rename_i j;rw[if_neg j];cases n with
  | bk u=>
   simp only at h ⊢;split at h;·rename_i b f;rw[k _ b f (by rw[u];simp)];exact h
   cases h
  | v F=>(split at h)<;>first | exact h | cases h | simp_all
  | _=>exact h
 cases h
def Ki(d:Ef ι g C){r:Ref}(e:ι r≠none){a:List AV}(h:nT g r=some a):nT C r=some a:=by
 unfold nT at h ⊢;cases c:g r with
 | none=>rw[c]at h;cases h
 | some b=>rw[c]at h;rw[d r b c e];exact h
def Ng{P:Program}(f:Ef ι g C){t:TypeId}{x:AV}{u:Value}(e:VR M ι x u){k:Option AV}{ok:Bool}{a:AV × List bj}(h:o4 P g t (some x) k ok=some a):o4 P C t (some x) k ok=some a:=by
 unfold o4 at h ⊢;split at h
 ·rename_i s p r' q l c j;cases c;cases e with | mp d n=>
  try simp only[l,j]
  split at h;·rename_i b m;rw[Ki f (by rw[d];simp) m];exact h
  cases h
 cases h
def E3{E:Env}{pc:FuncId->List AV->Option AV}(hS:gS M ι C w)(D:Ef ι g C){tm:List AV}{a:Act}(O:TR M ι tm a){r:Ref}{o:Oper}{x:AV}{bs:List bj}
 (h:cQ E pc true g tm r o=some (x,bs)):cQ E pc true C tm r o=some (x,bs):=by
 unfold cQ at h ⊢;simp only[AD,Eo,iQt,zL]at h ⊢;split at h;·exact h
 ·exact h
 ·exact h
 ·exact h
 ·exact h
 ·exact h
 ·rename_i t n ps F;cases m:ia tm ps.toList with
  | none=>rw[m]at h;simp[gx]at h
  | some vs=>rw[m]at h;generalize (true && !E.strict o)=dr at h ⊢;simp only[gx]at h ⊢;obtain⟨N,L⟩:=eY.1 h;simp only[bI]at L;obtain⟨b,I,P⟩:=L;have U:=Wh O m;obtain⟨ws,Y⟩:=JG I;obtain⟨T,h5,h6⟩:=B8 hS D Y U;rw[h5,I8 D h6 N,Ns hS D I U];simp[P]
 ·rename_i t y F;unfold ow at h ⊢;split at h
  ·rename_i r' i j ag n l hg hn;try simp only[l,hg,hn]
   split at h
   ·rename_i b I;have m:=aX O l;generalize a.eval y=u at m;cases m with | ptr H hzl=>
    rw[D r' b I (by rw[H];simp)];exact h
   cases h
  ·rename_i esz es i j ag n l hg hn;try simp only[l,hg,hn]
   exact h
  cases h
 ·exact h
 ·exact h
 ·exact h
 ·rename_i s d y F;cases l:aP tm y with
  | none=>rw[l]at h;simp[bY]at h
  | some Z=>
   rw[l]at h;have m:=aX O l;unfold bY at h ⊢;split at h;·exact h
   ·exact h
   ·exact h
   ·rename_i z N L P G;injection G with G
    subst G;split at h
    ·rename_i R;try simp only[R,if_true]
     split at h;·rename_i p es hes;rw[FJ D m hes];exact h
     cases h
    rename_i R;try simp only[R]
    split at h
    ·rename_i hc2;try simp only[hc2,if_true]
     split at h
     ·generalize a.eval y=u at m;cases m with | bk H=>
      split at h;·rename_i k W;have:=D _ k W (by rw[H];simp);rw[this];exact h
      cases h
     cases h
    cases h
   rename_i G;cases G
 ·exact h
 ·exact h
 ·exact h
 ·exact h
 ·rename_i t y k ok F;cases l:aP tm y with
  | none=>rw[l]at h;simp only[o4]at h;split at h<;>simp_all
  | some Z=>rw[l]at h;exact Ng D (aX O l) h
 ·rename_i t y lo hi mx F;cases l:aP tm y with
  | none=>rw[l]at h;simp only[cr]at h ⊢;exact h
  | some Z=>
   rw[l]at h;have m:=aX O l;generalize a.eval y=u at m;cases m with
   | bk H=>
    simp only[cr]at h ⊢;split at h
    ·rename_i lo' hi' mx' N L P;try simp only[N,L,P]
     split at h;·rename_i b I;rw[D _ b I (by rw[H];simp)];exact h
     cases h
    cases h
   | dsl H=>
    simp only[cr]at h ⊢;split at h
    ·rename_i lo' hi' mx' N L P;try simp only[N,L,P]
     split at h;·rename_i b I;rw[D _ b I (by rw[H];simp)];exact h
     cases h
    cases h
   | _=>(unfold cr at h ⊢;(repeat' split at h)<;>simp_all)
 ·exact h
 ·exact h
 ·rename_i t y z F;cases l:aP tm y with
  | none=>rw[l]at h;exact h
  | some Z=>
   rw[l]at h;have m:=aX O l;generalize a.eval y=u at m;cases m with
   | bk H=>
    simp only[bH]at h ⊢;split at h
    ·rename_i k W;try simp only[W]
     split at h
     ·rename_i e G;try simp only[G]
      split at h;·rename_i esz es cap s f Q;cases f
      ·rename_i r' off len cap s f Q;injection f with f
       injection f with e1 e2 e3 e4
       subst e1;try simp only[Q]
       split at h;·rename_i b I;rw[D _ b I (by rw[H];simp)];subst e2;subst e3;exact h
       cases h
      ·rename_i f Q;cases f
      cases h
     rename_i G;try simp only[G]
     exact h
    cases h
   | dsl H=>
    simp only[bH]at h ⊢;split at h
    ·rename_i k W;try simp only[W]
     split at h
     ·rename_i e G;try simp only[G]
      split at h;·rename_i f Q;cases f
      ·rename_i f Q;cases f
      ·rename_i r' off len cap s f Q;injection f with f
       injection f with e1 e2 e3 e4
       subst e1;try simp only[Q]
       split at h;·rename_i b I;rw[D _ b I (by rw[H];simp)];subst e2;subst e3;exact h
       cases h
      cases h
     rename_i G;try simp only[G]
     exact h
    cases h
   | _=>(unfold bH at h ⊢;(repeat' split at h)<;>simp_all)
 ·exact h
 ·exact h
 ·exact h
 ·rename_i c F;split at h;·cases h
  rename_i args K;try simp only[K]
  have q:=mS O K;split at h
  ·rename_i fo R;try simp only[R]
   obtain⟨p0,h,e0⟩:=bI.1 h;refine bI.2 ⟨p0,?_,e0⟩;unfold k9 at h ⊢;split at h
   ·rename_i fi first captured V
    try simp only[V]
    split at h;·cases h
    rename_i hm;rw[if_neg hm];obtain⟨a',b',hfv,hva,hvb⟩:=(aX O V).aae;have X:mc M ι (first++args++captured) (a'.toList++c.args.toList.map a.eval++b'.toList):=(hva.append q).append hvb;split at h
    ·rename_i xs hxs;obtain⟨N,L,P⟩:=Sg hS D hxs X;try simp only[N]
     split at h
     ·rename_i y l;try simp only[l]
      obtain⟨J,h⟩:=eY.1 h;rw[L];rw[if_pos];·exact h
      simp only[jH]at J ⊢;rcases J with (T | T) | T
      ·exact .inl (.inl T)
      ·exact .inl (.inr (I8 D P T))
      exact .inr T
     cases h
    cases h
   cases h
  ·cases h
  rename_i b R;try simp only[R]
  unfold cb at h ⊢;split at h
  ·rename_i r';obtain⟨u,S⟩:=LJ q.1.symm;rw[S]at q;have m:=q.2 0 (.mp r') u rfl rfl;cases m with | mp H hz=>
   obtain⟨hd,h⟩:=OZ.1 h;simp only[if_neg hd];unfold BC at h ⊢;split at h
   ·rename_i p ents ht hm;try simp only[ht]
    simp only[Ki D (by rw[H];simp) hm];exact h
   cases h
  ·exact h
  ·exact h
  ·exact h
  ·rename_i y z;obtain⟨u,v,S⟩:=zP q.1.symm;rw[S]at q;exact Nk D (q.2 0 y u rfl rfl) (q.2 1 z v rfl rfl) h
  ·exact h
  cases h
 cases h
end
end
section
def Wx{b:List Nat}{i:Nat} : ∀(a:List Nat),(CV b a).testBit i=true ->∃j∈a,i=j\/(b.getD j 0).testBit i=true:=by
 intro a;induction a with
 | nil=>intro h;simp[CV]at h
 | cons j a c=>
  intro h;simp only[CV,Nat.testBit_or,jH]at h;rcases h with (h | h) | h
  ·rw[Nat.testBit_two_pow]at h;exact⟨j,j6 ..,.inl (by simpa using h:j=i).symm⟩
  ·exact⟨j,j6 ..,.inr h⟩
  obtain⟨k,d,h⟩:=c h;exact⟨k,j7 _ d,h⟩
def Ow : ∀(b:List Oper)(a:List Nat)(i:Nat),i<a.length->(dT b a).getD i 0=a.getD i 0:=by
 intro b;induction b with
 | nil=>intro a i h;rfl
 | cons o b c=>intro a i h;simp only[dT];rw[c _ i (by simp;omega)];simp[List.getD,jU h]
def aax : ∀(b:List Oper)(a:List Nat)(i:Nat)(o:Oper),b[i]?=some o ->
 ∀j,((dT b a).getD (a.length+i) 0).testBit j=true ->∃e∈fA o,j=e\/(e<a.length+i/\((dT b a).getD e 0).testBit j=true):=by
 intro b;induction b with
 | nil=>intro a i o h;simp at h
 | cons o' b l=>
  intro a i o h j c;cases i with
  | zero=>
   simp at h;subst h;simp only[dT,uE]at c ⊢;rw[Ow b _ a.length (by simp)]at c;simp only[List.getD,gU (cG _),pV,KW,cB]at c;obtain⟨e,he,c⟩:=Wx _ c;refine⟨e,he,?_⟩;rcases c with h | h
   ·exact .inl h
   right;rcases fl e a.length with d | f
   ·refine⟨d,?_⟩;have k:=Ow b (a++[CV a (fA o')]) e (by simp;omega);simp only[List.getD,jU d]at h k ⊢;rw[k];exact h
   rw[List.getD,xZ f]at h;simp at h
  | succ i=>
   simp only[dT]at c ⊢;have:=l (a++[CV a (fA o')]) i o (by simpa using h) j (by
    rw[ja,Eu];rwa [show a.length+1+i=a.length+(i+1) by omega])
   rw[ja,Eu]at this;rwa [show a.length+1+i=a.length+(i+1) by omega]at this
def aeb{ops:Array Oper}{i j:Nat}{o:Oper}(a:ops[i]?=some o)(b:((dT ops.toList []).getD i 0).testBit j=true) : ∃e∈fA o,j=e\/(e<i/\((dT ops.toList []).getD e 0).testBit j=true):=by
 have:=aax ops.toList [] i o (by simpa using a) j (by simpa using b);simpa using this
def qM(ops:Array Oper)(L:Nat->Bool):Prop :=∀(i:Nat)(o:Oper),L i=true->ops[i]?=some o ->∀e∈fA o,L e=true
def wx{ops:Array Oper}{L:Nat->Bool}(k:qM ops L) : ∀(i:Nat)(o:Oper),ops[i]?=some o->(∀e∈fA o,L e=true) ->∀j,((dT ops.toList []).getD i 0).testBit j=true->L j=true:=by
 intro i;induction i using Nat.strongRecOn with | ind i f=>
 intro o d a j l;obtain⟨e,he,h | ⟨c,h⟩⟩:=aeb d l;·rw[h];exact a e he
 have hi:i<ops.size:=(jb.1 d).1;have b:ops[e]?=some (ops[e]'(by omega)):=kD (by omega);exact f e c _ b (k e _ (a e he) b) j h
structure RegB (ops:Array Oper):Prop where
 edges : ∀(i:Nat)(o:Oper),ops[i]?=some o ->∀e∈fA o,e<i
 distinct : ∀(i j:Nat)(oi oj:Oper)(d:Tmp),ops[i]?=some oi->ops[j]?=some oj->oi.dst=some d->oj.dst=some d->i=j
 reads : ∀(i j:Nat)(oi oj:Oper)(d:Tmp),ops[i]?=some oi->ops[j]?=some oj->j≠i->oj.dst=some d->d∈oi.looksAt ops->(j<i/\((dT ops.toList []).getD i 0).testBit j=true)\/(i<j/\((dT ops.toList []).getD j 0).testBit i=true)
structure XO (E:Env) (ops:Array Oper):Prop extends RegB ops where
 site : ∀(i:Nat)(o:Oper),ops[i]?=some o->xR E o=true->jv E o=false->o.dst.isSome=true
 writes : ∀(i j:Nat)(oi oj:Oper),ops[i]?=some oi->ops[j]?=some oj->j<i->xR E oi=true->xR E oj=true->lk E ops i=true->((dT ops.toList []).getD i 0).testBit j=true
def RF{E:Env}{ops:Array Oper}{i j:Nat}{o:Oper}(b:ops[j]?=some o)(a:jv E o=true)(c:j<=i):lk E ops i=true:=by
 unfold lk;rw[KM];exact⟨j,xV.2 (by omega),by rw[b];exact a⟩
def ql{E:Env}{ops:Array Oper}{i:Nat}(h:lk E ops i=false){j:Nat}{o:Oper}(b:ops[j]?=some o)(a:j<=i):jv E o=false:=by
 cases hw:jv E o with| false=>rfl| true=>rw[RF b hw a]at h;cases h
def agP{E:Env}{ops:Array Oper}{i:Nat}(h:lk E ops i=true) : ∃j o,j<=i/\ops[j]?=some o/\jv E o=true:=by
 unfold lk at h;rw[KM]at h;obtain⟨k,c,h⟩:=h;have a:=xV.1 c;split at h;·rename_i o b;exact⟨k,o,by omega,b,h⟩
 cases h
def ZH{E:Env}{ops:Array Oper}{i j:Nat}(h:lk E ops j=true)(d:j<=i):lk E ops i=true:=by
 unfold lk at h;rw[KM]at h;obtain⟨k,c,h⟩:=h;have a:=xV.1 c;split at h;·rename_i o b;exact RF b h (by omega)
 cases h
def R6{ops:Array Oper}(one : ∀(i:Nat)(o:Oper),ops[i]?=some o->(fA o).all (· < i)=true)
 (s : ∀(i j:Nat)(oi a:Oper),ops[i]?=some oi->ops[j]?=some a->j<i->y8 ops (dT ops.toList []) oi a i j=true):RegB ops:=by
 have b : ∀(i j:Nat)(oi a:Oper),ops[i]?=some oi->ops[j]?=some a->j<i->(a.dst.isNone=true\/oi.dst≠a.dst)/\(∀d,a.dst=some d->d∈oi.looksAt ops->((dT ops.toList []).getD i 0).testBit j=true) /\
  (∀d,oi.dst=some d->d∈a.looksAt ops->((dT ops.toList []).getD i 0).testBit j=true):=by
  intro i j oi a hi l t;have:=s i j oi a hi l t;unfold y8 at this;simp only[bo]at this;obtain⟨⟨c,m⟩,f⟩:=this;refine⟨?_,?_,?_⟩;·simpa using c
  ·intro d hd p;rw[hd]at m;simp only[jH,iB]at m;rcases m with m | m
   ·have:(oi.looksAt ops).contains d=true:=KT.2 p;rw[m]at this;cases this
   exact m
  intro d hd p;rw[hd]at f;simp only[jH,iB]at f;rcases f with f | f
  ·have:(a.looksAt ops).contains d=true:=KT.2 p;rw[f]at this;cases this
  exact f
 refine⟨?_,?_,?_⟩;·intro i o v e u;have:=one i o v;simp only[gf,iQb]at this;exact this e u
 ·intro i j oi a d hi l k n;rcases CG i j with h | h | h
  ·exfalso;rcases(b j i a oi l hi h).1 with c | c
   ·rw[k]at c;cases c
   exact c (by rw[k,n])
  ·exact h
  exfalso;rcases(b i j oi a hi l h).1 with c | c
  ·rw[n]at c;cases c
  exact c (by rw[k,n])
 intro i j oi a d hi l q hd p;rcases ON q with h | h
 ·exact .inl ⟨h,(b i j oi a hi l h).2.1 d hd p⟩
 exact .inr ⟨h,(b j i a oi l hi h).2.2 d hd p⟩
def M7{E:Env}{ops:Array Oper}(h:Ds E ops=true):XO E ops:=by
 unfold Ds at h;simp only[gf,xV]at h;have one : ∀(i:Nat)(o:Oper),ops[i]?=some o->(fA o).all (· < i)=true/\(!xR E o||jv E o||o.dst.isSome)=true /\∀(j:Nat)(d:Oper),j<i->ops[j]?=some d->PS E ops (dT ops.toList []) o d i j=true:=by
  intro i o k;have hi:i<ops.size:=(jb.1 k).1;have:=h i hi;rw[k]at this;simp only[bo,gf,xV]at this;refine⟨by simpa using this.1.1,by simpa using this.1.2,λj d f m=>?_⟩;have l:=this.2 j f;rw[m]at l;exact l
 have split : ∀(i j:Nat)(oi d:Oper),ops[i]?=some oi->ops[j]?=some d->j<i->y8 ops (dT ops.toList []) oi d i j=true/\(xR E oi=true->xR E d=true->lk E ops i=true->((dT ops.toList []).getD i 0).testBit j=true):=by
  intro i j oi d hi f e;have:=(one i oi hi).2.2 j d e f;unfold PS at this;rw[bo]at this;refine⟨this.1,λa b c=>?_⟩;have n:=this.2;rw[a,b,c]at n;simpa using n
 refine⟨R6 (λi o k=>(one i o k).1) λi j oi d hi f e=>(split i j oi d hi f e).1,?_,λi j oi d hi f e=>(split i j oi d hi f e).2⟩;intro i o k p l;have:=(one i o k).2.1;rw[p,l]at this;simpa using this
def HT{E:Env}{pc:FuncId->List AV->Option AV}{tc:uY->List AV->aa->cR}{nt dep:Nat}{ops:Array Oper} : ∀(l:List Oper)(st st':St),oa E pc tc nt dep true ops l st=some st' ->
 ∃f:Nat->St,f 0=st/\f l.length=st' /\∀i o,l[i]?=some o->evalOp E pc tc nt dep true ops o (f i)=some (f (i+1)):=by
 intro l;induction l with
 | nil=>intro st st' h;simp only[oa,ef]at h;exact⟨λ_=>st,rfl,h,λi o hi=>by simp at hi⟩
 | cons o l e=>
  intro st st' h;simp only[oa,Qn]at h;split at h
  ·rename_i a d;obtain⟨f,j,c,b⟩:=e a st' h;refine⟨λn=>match n with | 0=>st | n+1=>f n,rfl,c,?_⟩;intro i o' hi;cases i with
   | zero=>simp at hi;subst hi;simp only;rw[j];exact d
   | succ i=>exact b i o' (by simpa using hi)
  cases h
inductive ahJ (E:Env) (pc:FuncId->List AV->Option AV) (nt dep:Nat) (ops:Array Oper) (o:Oper) (st st2:St):Prop
 | no (hw:wanted ops st.tm o=some false) (tm':List AV) (ht:dx nt st.tm o.dst AV.undef=some tm') (he:st2=⟨tm',st.hp⟩)
 | quiet (hw:wanted ops st.tm o=some true) (x:AV) (bs:List bj) (hq:cQ E pc true st.hp.get st.tm ⟨dep,o.dst.getD 0,st.hp.gen dep (o.dst.getD 0),0⟩ o=some (x,bs)) (tm':List AV)
  (ht:dx nt st.tm o.dst x=some tm') (he:st2=⟨tm',keyed ⟨dep,o.dst.getD 0,st.hp.gen dep (o.dst.getD 0),0⟩ 0 bs st.hp⟩)
 | write (hk:jv E o=true)
def oN{E:Env}{pc:FuncId->List AV->Option AV}{tc:uY->List AV->aa->cR}{nt dep:Nat}{ops:Array Oper}{o:Oper}{st a:St}(h:evalOp E pc tc nt dep true ops o st=some a):ahJ E pc nt dep ops o st a:=by
 unfold evalOp at h;split at h;·cases h
 ·rename_i b;simp only[bI]at h;obtain⟨tm',c,rfl⟩:=h;exact .no b tm' c rfl
 rename_i b;split at h;·rename_i x bs d;simp only[bI]at h;obtain⟨tm',c,rfl⟩:=h;exact .quiet b x bs d tm' c rfl
 split at h;·cases h
 rename_i e;refine .write ?_;simpa using e
def Ms{E:Env}{o:Oper}(h:jv E o=true):kI o.op=true:=by
 unfold jv at h;have d:(E.gR o&&BQ o.op)=true->kI o.op=true:=by
  intro h;replace h:=(xX.1 h).2;unfold BQ at h;split at h;·rename_i a;rw[a];rfl
  cases h
 by_cases e:(E.gR o&&BQ o.op)=true;·exact d e
 replace h:=(GR.1 h).resolve_right e;replace h:=(xX.1 h).2;unfold wOp at h;split at h;·rename_i a;rw[a];rfl
 ·rename_i a;rw[a];rfl
 ·rename_i a;rw[a];rfl
 ·rename_i a;rw[a];rfl
 ·rename_i a;rw[a];rfl
 ·rename_i c a;rw[a];unfold kI;split at h;·rename_i b;simp[b]
  ·rename_i b;simp[b]
  ·rename_i b;simp[b]
  ·rename_i b;simp[b]
  cases h
 cases h
def Tn{E:Env}{pc:FuncId->List AV->Option AV}{g:cV}{tm:List AV}{r:Ref}{o:Oper}(d:kI o.op=false){x:AV}{bs:List bj}(h:cQ E pc true g tm r o=some (x,bs)) :
 bs=[] /\∀C r',cQ E pc true C tm r' o=some (x,bs):=by
 have v : ∀ {y:Option AV},iL y=some (x,bs)->bs=[]:=λh=>(rQ h).2;unfold cQ at h ⊢;simp only[AD,Eo,iQt,zL]at h ⊢;split at h;·exact⟨v h,λ_ _=>h⟩
 ·exact⟨v h,λ_ _=>h⟩
 ·refine⟨?_,λ_ _=>h⟩;unfold Ie at h;split at h;·exact v h
  ·exact v h
  cases h
 ·rename_i a;rw[a]at d;simp[kI]at d
 ·rename_i a;rw[a]at d;simp[kI]at d
 ·refine⟨?_,λ_ _=>h⟩;unfold mI at h;(repeat' split at h)<;>(try simp_all)<;>(try (obtain⟨_,_,_,h⟩:=h;exact h))
 ·rename_i a;rw[a]at d;simp[kI]at d
 ·rename_i a;rw[a]at d;simp[kI]at d
 ·refine⟨?_,λ_ _=>h⟩;unfold Nd at h;(repeat' split at h)<;>(try simp_all)<;>(try (obtain⟨_,_,_,h⟩:=h;exact h))
 ·refine⟨?_,λ_ _=>h⟩;unfold bC at h;(repeat' split at h)<;>first | exact v h | (simp_all;done)
 ·exact⟨v h,λ_ _=>h⟩
 ·rename_i a;rw[a]at d;simp[kI]at d
 ·refine⟨?_,λ_ _=>h⟩;unfold zI at h;(repeat' split at h)<;>(try simp_all)<;>(try (obtain⟨_,_,_,h⟩:=h;exact h))
 ·refine⟨?_,λ_ _=>h⟩;unfold Ai at h;(repeat' split at h)<;>(try simp_all)<;>(try (obtain⟨_,_,_,h⟩:=h;exact h))
 ·rename_i a;rw[a]at d;simp[kI]at d
 ·rename_i a;rw[a]at d;simp[kI]at d
 ·rename_i a;rw[a]at d;simp[kI]at d
 ·rename_i a;rw[a]at d;simp[kI]at d
 ·refine⟨?_,λ_ _=>h⟩;unfold iM at h;(repeat' split at h)<;>(try simp_all)<;>(try (obtain⟨_,_,_,h⟩:=h;exact h))
 ·refine⟨?_,λ_ _=>h⟩;unfold tn at h;(repeat' split at h)<;>first | exact v h | (simp_all;done)
 ·rename_i a;rw[a]at d;simp[kI]at d
 ·refine⟨?_,λ_ _=>h⟩;unfold xD at h;(repeat' split at h)<;>first | exact v h | (simp_all;done)
 ·refine⟨?_,λ_ _=>h⟩;unfold BD at h;(repeat' split at h)<;>(try simp_all)<;>(try (obtain⟨_,_,_,h⟩:=h;exact h))
 ·refine⟨?_,λ_ _=>h⟩;unfold ud at h;(repeat' split at h)<;>first | exact v h | (simp_all;done)
 ·rename_i c a;rw[a]at d;simp only[kI]at d;split at h;·cases h
  rename_i args e;split at h;·rename_i f;rw[f]at d;simp at d
  ·cases h
  rename_i b f;rw[f]at d;unfold cb at h;split at h;·have j:PZ c=false:=(by simpa using d);unfold PZ at j;rw[j]at h;simp at h
  ·rename_i k;refine⟨?_,λ_ _=>by simpa [e,f,cb] using h⟩;unfold JB at h;(repeat' split at h)<;>(try simp_all)<;>(try (obtain⟨_,_,_,h⟩:=h;exact h))<;>(try (obtain⟨n,_,h⟩:=iF.1 h;simp at h;exact h.2))
  ·exact⟨v h,λ_ _=>by simpa [e,f,cb] using h⟩
  ·exact⟨v h,λ_ _=>by simpa [e,f,cb] using h⟩
  ·simp at d
  ·simp at d
  cases h
 cases h
def Ny{o:Op}(h:Nz o=true) : ∃c,o = .call c/\c.callee = .builtin .len:=by
 unfold Nz at h;split at h
 ·rename_i c;split at h;·rename_i a;exact⟨c,rfl,a⟩
  cases h
 cases h
def iH{E:Env}{o:Oper}(h:jv E o=true):xR E o=true:=by
 unfold xR;rw[Ms h,iZ];cases d:Nz o.op with
 | false=>simp
 | true=>exfalso;obtain⟨c,a,b⟩:=Ny d;simp[jv,a,wOp,b,BQ]at h
def yN{E:Env}{pc:FuncId->List AV->Option AV}{g:cV}{tm:List AV}{r:Ref}{o:Oper}(b:xR E o=false){x:AV}{bs:List bj}(h:cQ E pc true g tm r o=some (x,bs)) :
 bs=[] /\∀C r',cQ E pc true C tm r' o=some (x,bs):=by
 cases hp:kI o.op with| false=>exact Tn hp h| true=>
  unfold xR at b;rw[hp,iZ]at b;obtain⟨f,j⟩:=xX.1 (by simpa using b:(E.strict o&&Nz o.op)=true);obtain⟨c,d,k⟩:=Ny j;unfold cQ at h ⊢;simp only[d,k,f,Bool.true_or,GK]at h ⊢;split at h;·cases h
  rename_i args a;unfold cb at h ⊢;split at h;·simp at h
  ·rename_i y e;refine⟨?_,λ_ _=>?_⟩;·unfold JB at h;(repeat' split at h)<;>(try simp_all)<;>(try (obtain⟨_,_,_,h⟩:=h;exact h))<;>(try (obtain⟨n,_,h⟩:=iF.1 h;simp at h;exact h.2))
   exact h
  all_goals (first | cases h | simp_all)
end
section
def gH(ops:Array Oper)(dep:Nat)(sts:Nat->St)(i:Nat):Ref:=⟨dep,(jI ops i).getD 0,(sts i).hp.gen dep ((jI ops i).getD 0),0⟩
def newAt(E:Env)(pc:FuncId->List AV->Option AV)(ops:Array Oper)(dep:Nat)(sts:Nat->St)(i:Nat):List bj:=
 match ops[i]? with
 | none=>[]
 | some o=>if xR E o && !lk E ops i then
  match wanted ops (sts i).tm o with
  | some true=>(match cQ E pc true (sts i).hp.get (sts i).tm (gH ops dep sts i) o with
   | some (_,bs)=>bs
   | none=>[])
  | _=>[]
  else []
def gF(a:cV)(key:Nat->Ref)(new:Nat->List bj)(L:Nat->Bool):Nat->cV
 | 0=>a
 | i+1=>if L i then tB (gF a key new L i) (key i) (new i) else gF a key new L i
def mt(key:Nat->Ref)(new:Nat->List bj)(i:Nat)(q:Ref):Prop:=q.d=(key i).d/\q.t=(key i).t/\q.g=(key i).g/\q.k<(new i).length
def tK{b:cV}{key:Nat->Ref}{new:Nat->List bj}{L:Nat->Bool}{q:Ref} : ∀n,(∀i,i<n->L i=true ->¬mt key new i q)->gF b key new L n q=b q:=by
 intro n;induction n with
 | zero=>intro _;rfl
 | succ n a=>
  intro h;simp only[gF];split;·rename_i c;exact(if_neg (h n (rJ n) c)).trans (a λi hi=>h i (CF hi))
  exact a λi hi=>h i (CF hi)
def CX{c:cV}{key:Nat->Ref}{new:Nat->List bj}{L:Nat->Bool}{q:Ref}(a : ∀i j,mt key new i q->mt key new j q->i=j){i:Nat}(d:mt key new i q)(f:L i=true) :
 ∀n,i<n->gF c key new L n q=(new i)[q.k]?:=by
 intro n;induction n with
 | zero=>intro h;omega
 | succ n e=>
  intro h;simp only[gF];by_cases b:i=n;·subst b;rw[if_pos f];exact if_pos d
  have:gF c key new L n q=(new i)[q.k]?:=e (by omega);split;·exact(if_neg (λl=>b (a i n d l))).trans this
  exact this
section
variable{E:Env}{pc:FuncId->List AV->Option AV}{tc:uY->List AV->aa->cR}{nt dep:Nat}{ops:Array Oper}{sts:Nat->St}
def TS(ops:Array Oper)(sts:Nat->St)(L:Nat->Bool)(tm:List AV):Prop:=
 ∀t,(∀i,i<ops.size->L i=true->jI ops i=some t->df tm t=df (sts (i+1)).tm t)/\((∀i,i<ops.size->L i=true->jI ops i≠some t)->df tm t=df (sts 0).tm t)
def wW{tm tm':List AV}{dst:Option Tmp}{x:AV}(h:dx nt tm dst x=some tm')(t:Nat):df tm' t=if dst=some t then x else df tm t:=by
 unfold dx at h;split at h;·injection h with h;subst h;simp
 rename_i d;obtain⟨_,h⟩:=eY.1 h;injection h with h
 subst h;rw[ti];by_cases a:t=d;·subst a;simp
 rw[if_neg a,if_neg (by intro e;injection e with e;exact a e.symm)]
def lV{tm tm' tm1:List AV}{dst:Option Tmp}{x:AV}(h:dx nt tm dst x=some tm') : ∃a,dx nt tm1 dst x=some a:=by
 unfold dx at h ⊢;cases dst with
 | none=>exact⟨_,rfl⟩
 | some d=>simp only at h ⊢;obtain⟨hd,_⟩:=eY.1 h;rw[if_pos hd];exact⟨_,rfl⟩
def MN{o:Oper}{i:Nat}(A:evalOp E pc tc nt dep true ops o (sts i)=some (sts (i+1))) : ∃x,dx nt (sts i).tm o.dst x=some (sts (i+1)).tm:=by
 unfold evalOp at A;split at A;·cases A
 ·simp only[bI]at A;obtain⟨tm',a,he⟩:=A;exact⟨_,by rw[<-he];exact a⟩
 split at A;·simp only[bI]at A;obtain⟨tm',a,he⟩:=A;exact⟨_,by rw[<-he];exact a⟩
 split at A;·cases A
 split at A;·simp only[bI]at A;obtain⟨tm',a,he⟩:=A;exact⟨_,by rw[<-he];exact a⟩
 cases A
section
variable(B:RegB ops)(A : ∀i o,ops[i]?=some o->evalOp E pc tc nt dep true ops o (sts i)=some (sts (i+1)))
include B A
omit A in
theorem Xg{i j:Nat}{t:Nat}(hi:jI ops i=some t)(a:jI ops j=some t):i=j:=by
 simp only[jI,iF]at hi a;obtain⟨oi,e,f⟩:=hi;obtain⟨c,d,b⟩:=a;exact B.distinct i j oi c t e d f b
theorem Lh : ∀i,i<=ops.size->TS ops sts (λj=>decide (j<i)) (sts i).tm:=by
 intro i;induction i with
 | zero=>intro _ t;exact⟨λj _ f=>by simp at f,λ_=>rfl⟩
 | succ i q=>
  intro l t;have h:i<ops.size:=l;have m:=kD h;obtain⟨x,p⟩:=MN (A i _ m);have hd:jI ops i=ops[i].dst:=by simp[jI,m]
  have n:=wW p t;obtain⟨s,u⟩:=q (by omega) t;refine⟨λj f b c=>?_,λk=>?_⟩
  ·simp only[iQb]at b;by_cases d:j=i;·subst d;rfl
   have a:ops[i].dst≠some t:=(by intro e;rw[<-hd]at e;exact d (Xg B c e));rw[n,if_neg a];exact s j f (by simp;omega) c
  have a:ops[i].dst≠some t:=by rw[<-hd];exact k i h (by simp)
  rw[n,if_neg a];exact u λj f b=>k j f (by simp at b ⊢;omega)
theorem Ia{L:Nat->Bool}(u:qM ops L){i:Nat}{o:Oper}(p:ops[i]?=some o)(hi:L i=false)(q : ∀e∈fA o,L e=true){tm:List AV}(D:TS ops sts L tm){t:Nat}(v:t∈o.looksAt ops) :
 df tm t=df (sts i).tm t:=by
 have I:i<ops.size:=(jb.1 p).1;obtain⟨z,H⟩:=D t;obtain⟨y,x⟩:=Lh B A i (by omega) t;by_cases k : ∃j,j<ops.size/\L j=true/\jI ops j=some t
 ·obtain⟨j,l,c,b⟩:=k;have a:=b;simp only[jI,iF]at a;obtain⟨n,f,d⟩:=a;have s:j≠i:=by intro e;rw[e,hi]at c;cases c
  rcases B.reads i j o n t p f s d v with ⟨m,_⟩ | ⟨_,h⟩
  ·rw[z j l c b,y j l (by simpa using m) b]
  have:=wx u j n f (λe F=>u j n c f e F) i h;rw[hi]at this;cases this
 rw[H λj l c b=>k ⟨j,l,c,b⟩];refine(x λj l c b=>?_).symm;simp only[iQb]at c;have a:=b;simp only[jI,iF]at a;obtain⟨n,f,d⟩:=a;rcases B.reads i j o n t p f (by omega) d v with ⟨_,h⟩ | ⟨G,_⟩
 ·exact k ⟨j,l,wx u i o p q j h,b⟩
 omega
omit A in
theorem vd{L s:Nat->Bool}{i:Nat}{o:Oper}(q:ops[i]?=some o)(b : ∀j,s j=true↔(L j=true\/j=i))(hi:L i=false){tm tm':List AV}(y:TS ops sts L tm){x:AV}(u:dx nt (sts i).tm o.dst x=some (sts (i+1)).tm)
 (l:dx nt tm o.dst x=some tm'):TS ops sts s tm':=by
 intro t;have p:i<ops.size:=(jb.1 q).1;have hd:jI ops i=o.dst:=by simp[jI,q]
 obtain⟨v,D⟩:=y t;have z:=wW u t;have k:=wW l t;refine⟨λj m d a=>?_,λf=>?_⟩
 ·rcases(b j).1 d with h | h
  ·have n:j≠i:=by intro e;rw[e,hi]at h;cases h
   have c:o.dst≠some t:=by rw[<-hd];intro e;exact n (Xg B a e)
   rw[k,if_neg c];exact v j m h a
  subst h;rw[hd]at a;rw[k,if_pos a,z,if_pos a]
 have c:o.dst≠some t:=by rw[<-hd];exact f i p ((b i).2 (.inr rfl))
 rw[k,if_neg c];exact D λj m d=>f j m ((b j).2 (.inl d))
end
variable(B:XO E ops)(A : ∀i o,ops[i]?=some o->evalOp E pc tc nt dep true ops o (sts i)=some (sts (i+1)))
include B A
abbrev ZP(ops:Array Oper)(dep:Nat)(sts:Nat->St):Nat->Ref:=gH ops dep sts
omit B A in
theorem ug{i:Nat}(h:newAt E pc ops dep sts i≠[]) : ∃o,ops[i]?=some o/\xR E o=true/\lk E ops i=false:=by
 unfold newAt at h;split at h;·exact absurd rfl h
 rename_i o b;split at h;·rename_i a;simp only[bo,iB]at a;exact⟨o,b,a.1,a.2⟩
 exact absurd rfl h
omit A in
theorem LD{q:Ref}(i j:Nat)(h:mt (gH ops dep sts) (newAt E pc ops dep sts) i q)(f:mt (gH ops dep sts) (newAt E pc ops dep sts) j q):i=j:=by
 have ne : ∀ {i},mt (gH ops dep sts) (newAt E pc ops dep sts) i q->newAt E pc ops dep sts i≠[]:=by
  intro i h e;have:=h.2.2.2;rw[e]at this;simp at this
 obtain⟨oi,d,v,n⟩:=ug (ne h);obtain⟨k,c,u,m⟩:=ug (ne f);obtain⟨l,a⟩:=gT.1 (B.site i oi d v (ql n d (cG _)));obtain⟨p,b⟩:=gT.1 (B.site j k c u (ql m c (cG _)));have s:q.t=l:=by have:=h.2.1;simpa [gH,jI,d,a] using this
 have x:q.t=p:=by have:=f.2.1;simpa [gH,jI,c,b] using this
 exact B.distinct i j oi k l d c a (by rw[b,<-s,<-x])
def noW(E:Env)(ops:Array Oper)(n:Nat):Prop :=∀j o,j<n->ops[j]?=some o->jv E o=false
omit B A in
theorem Wq{n:Nat}(b:noW E ops (n+1)):lk E ops n=false:=by
 cases h:lk E ops n with| false=>rfl| true=>
  unfold lk at h;rw[KM]at h;obtain⟨k,d,h⟩:=h;have a:=xV.1 d;split at h;·rename_i o c;rw[b k o a c]at h;cases h
  cases h
omit B in
theorem Lj{n:Nat}(m:n<=ops.size)(c:noW E ops n):(sts n).hp.get=gF (sts 0).hp.get (gH ops dep sts) (newAt E pc ops dep sts) (λ_=>true) n:=by
 induction n with| zero=>rfl| succ n l=>
  have b:=kD (show n<ops.size from m);have e:=l (by omega) (λj o s=>c j o (by omega));simp only[gF,if_true];rw[<-e];have hd:jI ops n=ops[n].dst:=by simp[jI,b]
  have k:gH ops dep sts n=⟨dep,ops[n].dst.getD 0,(sts n).hp.gen dep (ops[n].dst.getD 0),0⟩:=(by simp[gH,hd]);rcases oN (A n _ b)with ⟨a,tm',p,he⟩ | ⟨a,x,bs,h,tm',p,he⟩ | d
  ·have:newAt E pc ops dep sts n=[]:=(by unfold newAt;rw[b];simp only[a];split<;>rfl);rw[this,nV,he]
  ·have f:=Wq c;rw[he];simp only;rw[aa.nI,<-k];congr 1;unfold newAt;rw[b];simp only[a,k,h,f,zg,GK];cases q:xR E ops[n] with
   | true=>rfl
   | false=>rw[(yN q h).1];rfl
  exact absurd d (by rw[c n _ (rJ n) b];simp)
omit B in
theorem MI{n:Nat}(G:n<=ops.size)(s:noW E ops n)(d t:Nat):(sts 0).hp.gen d t<=(sts n).hp.gen d t /\
 ((∀j,j<n->newAt E pc ops dep sts j≠[] ->¬(d=dep/\t=(jI ops j).getD 0))->(sts n).hp.gen d t=(sts 0).hp.gen d t) /\
 ∀j,j<n->newAt E pc ops dep sts j≠[]->d=dep->t=(jI ops j).getD 0->(gH ops dep sts j).g<(sts n).hp.gen d t:=by
 induction n with| zero=>exact⟨cG _,λ_=>rfl,λj k=>by omega⟩| succ n H=>
  have l:=kD (show n<ops.size from G);obtain⟨i1,i2,i3⟩:=H (by omega) (λj o k=>s j o (by omega));have hd:jI ops n=ops[n].dst:=by simp[jI,l]
  have z:gH ops dep sts n=⟨dep,ops[n].dst.getD 0,(sts n).hp.gen dep (ops[n].dst.getD 0),0⟩:=(by simp[gH,hd]);have same:(sts (n+1)).hp=(sts n).hp->newAt E pc ops dep sts n=[]->(sts 0).hp.gen d t<=(sts (n+1)).hp.gen d t /\
   ((∀j,j<n+1->newAt E pc ops dep sts j≠[] ->¬(d=dep/\t=(jI ops j).getD 0))->(sts (n+1)).hp.gen d t=(sts 0).hp.gen d t) /\
   ∀j,j<n+1->newAt E pc ops dep sts j≠[]->d=dep->t=(jI ops j).getD 0->(gH ops dep sts j).g<(sts (n+1)).hp.gen d t:=by
   intro I J;rw[I];refine⟨i1,λh=>i2 λj k=>h j (by omega),λj k a=>?_⟩;have:j≠n:=by intro e;rw[e]at a;exact a J
   exact i3 j (by omega) a
  rcases oN (A n _ l)with ⟨c,tm',F,he⟩ | ⟨c,x,bs,D,tm',F,he⟩ | u
  ·refine same (by rw[he]) ?_;unfold newAt;rw[l];simp only[c];split<;>rfl
  ·have y:=Wq s;have m:newAt E pc ops dep sts n=bs:=by
    unfold newAt;rw[l];simp only[c,z,D,y,zg,GK];cases K:xR E ops[n] with
    | true=>rfl
    | false=>rw[(yN K D).1];rfl
   by_cases p:bs=[];·refine same ?_ (by rw[m,p]);rw[he,p];rfl
   rw[he];simp only;rw[aa.mR];simp only[ne_eq,p,not_false_eq_true,iQr];by_cases b:d=dep/\t=ops[n].dst.getD 0
   ·rw[if_pos b];obtain⟨rfl,rfl⟩:=b;refine⟨by omega,λh=>?_,λj k a v q=>?_⟩;·exact absurd ⟨rfl,by rw[hd]⟩ (h n (rJ n) (by rw[m];exact p))
    by_cases f:j=n;·rw[f,z];exact rJ _
    have:=i3 j (by omega) a rfl q;omega
   rw[if_neg b];refine⟨i1,λh=>i2 λj k=>h j (by omega),λj k a v q=>?_⟩;by_cases f:j=n;·subst f;exact absurd ⟨v,by rw[q,hd]⟩ b
   exact i3 j (by omega) a v q
  exact absurd u (by rw[s n _ (rJ n) l];simp)
theorem Km{ι:Map}(s:s9 ι (sts 0).hp){i:Nat}{o:Oper}(c:ops[i]?=some o)(y:xR E o=true)(l:jv E o=false)(p:noW E ops i)(k:Nat):ι { gH ops dep sts i with k:=k}=none:=by
 have hi:i<ops.size:=(jb.1 c).1;obtain⟨d,hd⟩:=gT.1 (B.site i o c y l);have h:jI ops i=some d:=by simp[jI,c,hd]
 obtain⟨_,v,_⟩:=MI (pc:=pc) (tc:=tc) (nt:=nt) (dep:=dep) A (iY hi) p dep d;have q:(sts i).hp.gen dep d=(sts 0).hp.gen dep d:=v λj z e t=>by
  obtain⟨n,a,f,m⟩:=ug e;obtain⟨x,b⟩:=gT.1 (B.site j n a f (ql m a (cG _)));have:d=x:=by have:=t.2;simpa [jI,a,b] using this
  exact absurd (B.distinct i j o n d c a hd (by rw[b,this])) (by omega)
 have u:gH ops dep sts i=⟨dep,d,(sts 0).hp.gen dep d,0⟩:=by simp[gH,h,q]
 rw[u];exact s.fresh dep d k
end
end
section
def A8{ops:Array Oper}{o:Oper}{tm tm':List AV}(h : ∀t∈o.looksAt ops,df tm t=df tm' t):D8 tm tm' o.op.operands.toList:=by
 intro x a;cases x with
 | tmp t=>simp only[aP];rw[h t];unfold Oper.looksAt;exact KS _ (List.mem_filterMap.2 ⟨_,a,rfl⟩)
 | _=>rfl
def zj{ops:Array Oper}{o:Oper}{tm tm':List AV}(h : ∀t∈o.looksAt ops,df tm t=df tm' t):wanted ops tm o=wanted ops tm' o:=by
 unfold wanted;cases a:o.guard with
 | none=>rfl
 | some p=>
  obtain⟨j,b⟩:=p;simp only;cases hd:(ops[j]?).bind (·.dst) with
  | none=>rfl
  | some t=>simp only;rw[h t];unfold Oper.looksAt;rw[a];simp[hd]
def FL{p p':Nat->Bool}{i:Nat}(b : ∀j,p' j=true->p j=true)(f:p i=true)(e:p' i=false) : ∀l:List Nat,i∈l->l.countP p'<l.countP p:=by
 intro l hi;have mono : ∀l:List Nat,l.countP p'<=l.countP p:=λl=>List.countP_mono_left λx _=>b x;induction l with
 | nil=>cases hi
 | cons a l d=>
  simp only[List.countP_cons];by_cases c:a=i;·subst c;have:=mono l;rw[f,e];simp;omega
  have:=d (by simpa [ta c] using hi);have h:(if p' a=true then 1 else 0)<=(if p a=true then 1 else 0):=by
   by_cases hp:p' a=true;·rw[if_pos hp,if_pos (b a hp)];exact cG _
   rw[if_neg hp];exact uD _
  omega
def Kt{E:Env}{pc:FuncId->List AV->Option AV}{tc:uY->List AV->aa->cR}{nt dep:Nat}{ops:Array Oper}{o:Oper}{st st':St}{tm1:List AV}(h : ∀t∈o.looksAt ops,df tm1 t=df st.tm t)
 (a:evalOp E pc tc nt dep true ops o st=some st') : ∃x b,dx nt st.tm o.dst x=some st'.tm/\dx nt tm1 o.dst x=some b/\evalOp E pc tc nt dep true ops o ⟨tm1,st.hp⟩=some ⟨b,st'.hp⟩:=by
 have d:=A8 h;have e:=zj h;unfold evalOp at a ⊢;simp only;rw[e,ur d,Xa d];have c : ∀ {x:AV} {H:aa},(dx nt st.tm o.dst x).map (λtm=>(⟨tm,H⟩:St))=some st' ->∃k b,dx nt st.tm o.dst k=some st'.tm/\dx nt tm1 o.dst k=some b/\(dx nt tm1 o.dst x).map (λtm=>(⟨tm,H⟩:St))=some ⟨b,st'.hp⟩:=by
  intro x H m;obtain⟨tm',l,rfl⟩:=bI.1 m;obtain⟨b,f⟩:=lV (tm1:=tm1) l;exact⟨x,b,l,f,by rw[f];rfl⟩
 revert a;generalize wanted ops st.tm o=W;generalize cQ E pc true st.hp.get st.tm ⟨dep,o.dst.getD 0,st.hp.gen dep (o.dst.getD 0),0⟩ o=X;generalize evalW E pc tc st.hp st.tm ⟨dep,o.dst.getD 0,st.hp.gen dep (o.dst.getD 0),0⟩ o=Y;intro a;rcases W with _ | ⟨_ | _⟩
 ·cases a
 ·exact c a
 rcases X with _ | ⟨x,bs⟩
 ·simp only at a ⊢;by_cases j:(true && !jv E o)=true;·rw[if_pos j]at a;cases a
  rw[if_neg j]at a ⊢;rcases Y with _ | ⟨x,H⟩
  ·cases a
  exact c a
 exact c a
section
variable{E:Env}{pc:FuncId->List AV->Option AV}{tc:uY->List AV->aa->cR}{nt dep:Nat}{ops:Array Oper}{sts:Nat->St}
variable(B:XO E ops)(A : ∀i o,ops[i]?=some o->evalOp E pc tc nt dep true ops o (sts i)=some (sts (i+1)))
abbrev gL(E:Env)(pc:FuncId->List AV->Option AV)(ops:Array Oper)(dep:Nat)(sts:Nat->St)(L:Nat->Bool)(n:Nat):cV:=gF (sts 0).hp.get (gH ops dep sts) (newAt E pc ops dep sts) L n
structure XR (E:Env) (pc:FuncId->List AV->Option AV) (ops:Array Oper) (dep:Nat) (sts:Nat->St) (M:Mem) (ι:Map) (w:World) (L:Nat->Bool) (M1:Mem) (ι1:Map) (w1:World):Prop where
 quiet : ∀i o,L i=true->ops[i]?=some o->xR E o=true->lk E ops i=false
 sim:gS M1 ι1 (gL E pc ops dep sts L ops.size) w1
 fwd:uS M ι (sts 0).hp.get w M1 ι1 (gL E pc ops dep sts L ops.size) w1
 dom : ∀q,ι q=none->(∀i,i<ops.size->L i=true ->¬mt (gH ops dep sts) (newAt E pc ops dep sts) i q)->ι1 q=none
structure Ul (E:Env) (ops:Array Oper) (sts:Nat->St) (M:Mem) (ι:Map) (w:World) (L:Nat->Bool) (M1:Mem) (ι1:Map) (w1:World) (k:Nat):Prop where
 le:k<=ops.size
 wrote : ∃j o,j<k/\ops[j]?=some o/\jv E o=true
 upto : ∀i o,ops[i]?=some o->xR E o=true->(L i=true↔i<k)
 sim:gS M1 ι1 (sts k).hp.get w1
 dom:s9 ι1 (sts k).hp
 fwd:uS M ι (sts 0).hp.get w M1 ι1 (sts k).hp.get w1
structure Inv (E:Env) (pc:FuncId->List AV->Option AV) (nt:Nat) (ops:Array Oper) (dep:Nat) (sts:Nat->St) (M:Mem) (ι:Map) (w:World) (ds:List Deferred) (L:Nat->Bool) (a1:Act) (w1:World):Prop where
 closed:qM ops L
 defers:a1.defers=ds
 at_ : ∃M1 ι1 tm1,TS ops sts L tm1/\TR M1 ι1 tm1 a1/\a1.tmps.size=nt/\(XR E pc ops dep sts M ι w L M1 ι1 w1 \/∃k,Ul E ops sts M ι w L M1 ι1 w1 k)
theorem qM.next{L f:Nat->Bool}{i:Nat}{o:Oper}(m:qM ops L)(k:ops[i]?=some o)(c : ∀e∈fA o,L e=true)(b : ∀j,f j=true↔(L j=true\/j=i)):qM ops f:=by
 intro j l n a e d;rcases(b j).1 n with h | h
 ·exact(b e).2 (.inl (m j l h a e d))
 subst h;rw[k]at a;injection a with a
 subst a;exact(b e).2 (.inl (c e d))
theorem TB(r:Ref)(H:aa):keyed r 0 [] H=H:=rfl
include A in
theorem NJ{k:Nat} : ∀n,k<=n->n<=ops.size->(∀j o,k<=j->j<n->ops[j]?=some o->xR E o=false)->(sts n).hp=(sts k).hp:=by
 intro n;induction n with
 | zero=>intro h _ _;rw[GC.1 h]
 | succ n m=>
  intro t p h;rcases fl n k with q | c
  ·rw[show k=n+1 by omega]
  have f:=kD (show n<ops.size from p);have e:=h n _ c (rJ n) f;rw[<-m c (by omega) λj o a b=>h j o a (by omega)];rcases oN (A n _ f)with ⟨_,tm',s,he⟩ | ⟨_,x,bs,l,tm',s,he⟩ | d
  ·rw[he]
  ·rw[he,(yN e l).1];rfl
  rw[iH d]at e;cases e
theorem Wp{i:Nat}{o:Oper}(d:ops[i]?=some o)(f:xR E o=true)(a:lk E ops i=false):noW E ops i:=
 λj e c b=>ql a b (iY c)
include B A in
theorem Wu{ι:Map}(h:s9 ι (sts 0).hp){i:Nat}{q:Ref}(d:mt (gH ops dep sts) (newAt E pc ops dep sts) i q):ι q=none:=by
 have c:newAt E pc ops dep sts i≠[]:=by
  intro e;have:=d.2.2.2;rw[e]at this;simp at this
 obtain⟨o,b,f,a⟩:=ug c;have:=Km (pc:=pc) (tc:=tc) (nt:=nt) B A h b f (ql a b (cG _)) (Wp b f a) q.k;rwa [show({ gH ops dep sts i with k:=q.k}:Ref)=q by
  obtain⟨m,n,l,j⟩:=d;cases q;simp_all]at this
include B in
theorem W5{L l:Nat->Bool}{i:Nat}(hi:i<ops.size)(e : ∀j,l j=true↔(L j=true\/j=i)):gL E pc ops dep sts l ops.size=tB (gL E pc ops dep sts L ops.size) (gH ops dep sts i) (newAt E pc ops dep sts i):=by
 funext q;unfold tB;have c : ∀i j,mt (gH ops dep sts) (newAt E pc ops dep sts) i q->mt (gH ops dep sts) (newAt E pc ops dep sts) j q->i=j:=λi j=>LD B i j;split;·rename_i k;exact CX c (i:=i) k ((e i).2 (.inr rfl)) ops.size hi
 rename_i k;by_cases d : ∃j,j<ops.size/\L j=true/\mt (gH ops dep sts) (newAt E pc ops dep sts) j q;·obtain⟨j,f,b,a⟩:=d;rw[gL,CX c a ((e j).2 (.inl b)) _ f,gL,CX c a b _ f]
 rw[gL,tK,gL,tK];·intro j f b a;exact d ⟨j,f,b,a⟩
 intro j f b a;rcases(e j).1 b with h | h
 ·exact d ⟨j,f,h,a⟩
 subst h;exact k a
include B in
theorem RQ{L:Nat->Bool}{n:Nat}(v:n<=ops.size)(h : ∀j o,j<ops.size->ops[j]?=some o->xR E o=true->lk E ops j=false->(L j=true↔j<n)):gL E pc ops dep sts (λ_=>true) n=gL E pc ops dep sts L ops.size:=by
 funext q;have b : ∀i j,mt (gH ops dep sts) (newAt E pc ops dep sts) i q->mt (gH ops dep sts) (newAt E pc ops dep sts) j q->i=j:=λi j=>LD B i j;have made : ∀ {j},mt (gH ops dep sts) (newAt E pc ops dep sts) j q ->∃o,ops[j]?=some o/\xR E o=true/\lk E ops j=false:=by
  intro j t;refine ug (pc:=pc) (dep:=dep) (sts:=sts) ?_;intro e;have:=t.2.2.2;rw[e]at this;simp at this
 by_cases f : ∃j,mt (gH ops dep sts) (newAt E pc ops dep sts) j q
 ·obtain⟨j,c⟩:=f;obtain⟨o,p,u,m⟩:=made c;have s:j<ops.size:=(jb.1 p).1;have d:=h j o s p u m;by_cases k:j<n;·rw[gL,CX b c rfl _ k,gL,CX b c (d.2 k) _ s]
  rw[gL,tK,gL,tK];·intro i hi l a;have:=b i j a c;subst this;exact k (d.1 l)
  intro i hi l a;have:=b i j a c;omega
 rw[gL,tK _ (λi _ _ a=>f ⟨i,a⟩),gL,tK _ (λi _ _ a=>f ⟨i,a⟩)]
include A in
theorem N8{M:Mem}{ι c:Map}(D:s9 ι (sts 0).hp){L:Nat->Bool}{n:Nat}(G:n<=ops.size)(x:noW E ops n)
 (k : ∀q,ι q=none->(∀i,i<ops.size->L i=true ->¬mt (gH ops dep sts) (newAt E pc ops dep sts) i q)->c q=none)
 (v : ∀q l,ι q=some l->c q=some l) (h : ∀j o,j<ops.size->ops[j]?=some o->xR E o=true->lk E ops j=false->L j=true->j<n):s9 c (sts n).hp:=by
 intro q l u;obtain⟨F,J,z⟩:=MI (pc:=pc) (tc:=tc) (nt:=nt) (dep:=dep) A G x q.d q.t;cases m:ι q with
 | some H=>exact Ay (D q H m) F
 | none=>
  by_cases p : ∃i,i<ops.size/\L i=true/\mt (gH ops dep sts) (newAt E pc ops dep sts) i q;·obtain⟨i,hi,b,a⟩:=p;have f:newAt E pc ops dep sts i≠[]:=(by intro e;have:=a.2.2.2;rw[e]at this;simp at this);obtain⟨o,y,I,s⟩:=ug f;have:=z i (h i o hi y I s b) f a.1 a.2.1;rw[a.2.2.1];exact this
  rw[k q m λi hi b a=>p ⟨i,hi,b,a⟩]at u;cases u
variable{M:Mem}{ι:Map}{w:World}{ds:List Deferred}
include B A in
theorem WS(hpc : ∀f xs y,pc f xs=some y->j5 E.P f xs y)(htc : ∀f xs H y H',tc f xs H=some (y,H')->jd E.P f xs H y H'){ro:Option Nat}{Q:Exit->Act->World->Prop}
 (hS0:gS M ι (sts 0).hp.get w) (hD0:s9 ι (sts 0).hp) {L L':Nat->Bool} {i:Nat} {o:Oper} (D:ops[i]?=some o) (hi:L i=false) (hed : ∀e∈fA o,L e=true)
 (n : ∀j,L' j=true↔(L j=true\/j=i)) {a1:Act} {w1:World} (hI:Inv E pc nt ops dep sts M ι w ds L a1 w1) {K:Act->World->Prop} (hK : ∀a' w',Inv E pc nt ops dep sts M ι w ds L' a' w'->K a' w') :
 if Region.wanted o (yielded ops a1.tmps) then o.wpIn (FW ro) 0 E.P a1 w1 K Q else K (a1.put o.dst undef) w1:=by
 obtain⟨hc,hds,M1,N,tm1,hTS,F,hnt,I⟩:=hI;have R:i<ops.size:=(jb.1 D).1;have hc':qM ops L':=qM.next hc D hed n;have V : ∀t∈o.looksAt ops,df tm1 t=df (sts i).tm t:=λt ht=>Ia B.toRegB A hc D hi hed hTS ht;have hag:=A8 V;have hwd:=zj V;have step:=A i o D;have anc:=wx hc i o D hed;cases hb:(xR E o&&lk E ops i) with
 | true=>
  obtain⟨O,hwk⟩:=xX.1 hb;have G : ∀j d,j<i->ops[j]?=some d->xR E d=true->L j=true:=λj d W a c=>anc j (B.writes i j o d D a W O c hwk);have hO:z0 M1 N ⟨tm1,(sts i).hp⟩ nt a1 w1/\uS M ι (sts 0).hp.get w M1 N (sts i).hp.get w1 /\∀j d,ops[j]?=some d->xR E d=true->(L j=true->j<i):=by
   rcases I with l | ⟨k,l⟩
   ·have T:noW E ops i:=by
     intro j d W a;cases T:jv E d with
     | false=>rfl
     | true=>have:=ql (l.quiet j d (G j d W a (iH T)) a (iH T)) a (cG _);rw[T]at this;cases this
    have hle : ∀j d,ops[j]?=some d->xR E d=true->(L j=true->j<i):=by
     intro j d a c p;rcases CG j i with h | h | h
     ·exact h
     ·subst h;rw[hi]at p;cases p
     have:=ZH hwk (iY h);rw[l.quiet j d p a c]at this;cases this
    have hg:(sts i).hp.get=gL E pc ops dep sts L ops.size:=(by rw[Lj (pc:=pc) A (iY R) T];exact RQ B (iY R) λj d W a c _=>⟨hle j d a c,λhji=>G j d hji a c⟩);refine⟨⟨by rw[hg];exact l.sim,?_,F,hnt⟩,by rw[hg];exact l.fwd,hle⟩;exact N8 (M:=M) (tc:=tc) (nt:=nt) A hD0 (iY R) T l.dom l.fwd.map λj d _ a c _=>hle j d a c
   have hki:k<=i:=by
    rcases fl i k with h | h
    ·rw[(l.upto i o D O).2 h]at hi;cases hi
    exact h
   have hst:(sts i).hp=(sts k).hp:=NJ A i hki (iY R) λj d hkj hji a=>by
    cases c:xR E d with| false=>rfl| true=>have:=(l.upto j d a c).1 (G j d hji a c);omega
   refine⟨⟨by rw[hst];exact l.sim,by rw[hst];exact l.dom,F,hnt⟩,by rw[hst];exact l.fwd,λj d a c p=>?_⟩;have:=(l.upto j d a c).1 p;omega
  obtain⟨hO,hF,hle⟩:=hO;obtain⟨x,m,hx,s,hev⟩:=Kt V step;refine E4 (E:=E) (Q:=Q) hO hpc htc (λh=>by cases h) (.inl rfl) hev λa' w' ⟨⟨M',z,hO',hF'⟩,hd'⟩=>hK a' w' ⟨hc',hd'.trans hds,M',z,m,?_,hO'.tr,hO'.nt,.inr ⟨i+1,?_⟩⟩;·exact vd B.toRegB D n hi hTS hx s
  obtain⟨j0,o0,hj0,ho0,hw0⟩:=agP hwk;refine⟨R,⟨j0,o0,by omega,ho0,hw0⟩,λj d a c=>⟨λW=>?_,λW=>?_⟩,hO'.sim,hO'.dom,hF.trans hF'⟩
  ·rcases(n j).1 W with h | h
   ·exact CF (hle j d a c h)
   omega
  rcases fl j i with h | h
  ·exact(n j).2 (.inl (G j d h a c))
  exact(n j).2 (.inr (by omega))
 | false=>
  have hnl:xR E o=true->lk E ops i=false:=(by intro O;rw[O,iZ]at hb;exact hb);have hk:gH ops dep sts i=⟨dep,o.dst.getD 0,(sts i).hp.gen dep (o.dst.getD 0),0⟩:=(by simp[gH,jI,D]);have still : ∀(u:Value)(x:AV)(m:List AV)(w':World)(M':Mem)(z:Map),newAt E pc ops dep sts i=[]->(I:(XR E pc ops dep sts M ι w L M1 N w1->XR E pc ops dep sts M ι w L M' z w') /\∀k,Ul E ops sts M ι w L M1 N w1 k->Ul E ops sts M ι w L M' z w' k) ->
   (xR E o=false \/∀k,¬Ul E ops sts M ι w L M1 N w1 k)->dx nt (sts i).tm o.dst x=some (sts (i+1)).tm->dx nt tm1 o.dst x=some m->TR M' z m (a1.put o.dst u)->(a1.put o.dst u).tmps.size=nt ->
   Inv E pc nt ops dep sts M ι w ds L' (a1.put o.dst u) w':=by
   intro u x m w' M' z hnil hcs S hx s htr hn;refine⟨hc',(iN _ _ _).trans hds,M',z,m,vd B.toRegB D n hi hTS hx s,htr,hn,?_⟩;rcases I with l | ⟨k,l⟩
   ·have J:=hcs.1 l;have hg:gL E pc ops dep sts L' ops.size=gL E pc ops dep sts L ops.size:=by rw[W5 B R n,hnil,nV]
    refine .inl ⟨λj d W a c=>?_,by rw[hg];exact J.sim,by rw[hg];exact J.fwd,λq hq hno=>J.dom q hq λj W p=>hno j W ((n j).2 (.inl p))⟩;rcases(n j).1 W with h | h
    ·exact J.quiet j d h a c
    subst h;rw[D]at a;injection a with a;rw[<-a]at c;exact hnl c
   have J:=hcs.2 k l;refine .inr ⟨k,J.le,J.wrote,λj d a c=>?_,J.sim,J.dom,J.fwd⟩;rcases S with S | S
   ·rw[<-J.upto j d a c,n j];constructor
    ·rintro(h | h);·exact h
     subst h;rw[D]at a;injection a with a;rw[<-a,S]at c;cases c
    exact .inl
   exact absurd l (S k)
  have Z:xR E o=true ->∀k,¬Ul E ops sts M ι w L M1 N w1 k:=by
   intro O k l;obtain⟨j,d,hjk,a,hwj⟩:=l.wrote;rcases fl i k with h | h
   ·rw[(l.upto i o D O).2 h]at hi;cases hi
   have:=RF a hwj (show j<=i by omega);rw[hnl O]at this;cases this
  have S:xR E o=false \/∀k,¬Ul E ops sts M ι w L M1 N w1 k:=by
   cases O:xR E o with| false=>exact .inl rfl| true=>exact .inr (Z O)
  rcases oN step with ⟨T,tm',ht,he⟩ | ⟨T,x,bs,hq,tm',ht,he⟩ | hwk'
  ·rw[<-hwd]at T;rw[j8 F T];simp only[eW,iQe];have hx:dx nt (sts i).tm o.dst AV.undef=some (sts (i+1)).tm:=by rw[he];exact ht
   obtain⟨m,s⟩:=lV (tm1:=tm1) hx;obtain⟨h1,h2⟩:=F.put hnt s (u:=undef) (.v rfl);refine hK _ _ (still undef AV.undef m w1 M1 N ?_ ⟨id,λ_=>id⟩ S hx s h1 h2);unfold newAt;rw[D];rw[hwd]at T;simp only[T];split<;>rfl
  ·have hw':=T;rw[<-hwd]at T;rw[j8 F T];simp only[if_true];have hx:dx nt (sts i).tm o.dst x=some (sts (i+1)).tm:=by rw[he];exact ht
   obtain⟨m,s⟩:=lV (tm1:=tm1) hx;cases O:xR E o with
   | false=>
    obtain⟨hbs,hall⟩:=yN O hq;subst hbs;have hnil:newAt E pc ops dep sts i=[]:=(by unfold newAt;rw[D];simp[O]);rcases I with l | ⟨k,l⟩
    ·have U : ∀k,N { (⟨dep+1,0,(sts 0).hp.gen (dep+1) 0,0⟩:Ref)with k:=k}=none:=λk=>l.dom _ (hD0.fresh _ _ k) λj _ _ hm=>by
      have:=hm.1;simp only[gH]at this;omega
     have hq':cQ E pc true (gL E pc ops dep sts L ops.size) tm1 ⟨dep+1,0,(sts 0).hp.gen (dep+1) 0,0⟩ o=some (x,[]):=by rw[ur hag];exact hall _ _
     refine yS (E:=E) (o:=o) l.sim F rfl U hpc (λh=>by cases h) hq' ro K Q λu w' ⟨M',z,h1,h2,h3,h4⟩=>hK _ _ ?_;rw[nV]at h2 h3;obtain⟨h5,h6⟩:=(F.mono h3.mem h3.map).put hnt s h1;refine still u x m w' M' z hnil ⟨λ_=>⟨l.quiet,h2,l.fwd.trans h3,λq hq hno=>h4 q (l.dom q hq hno) (λk hk=>by simp at hk)⟩,λk hl=>?_⟩ (.inl O) hx s h5 h6;obtain⟨j,d,hjk,a,hwj⟩:=hl.wrote;have:=ql (l.quiet j d ((hl.upto j d a (iH hwj)).2 hjk) a (iH hwj)) a (cG _);rw[hwj]at this;cases this
    have hq':cQ E pc true (sts k).hp.get tm1 ⟨dep,0,(sts k).hp.gen dep 0,0⟩ o=some (x,[]):=by rw[ur hag];exact hall _ _
    refine yS (E:=E) (o:=o) l.sim F rfl (λk'=>l.dom.fresh dep 0 k') hpc (λh=>by cases h) hq' ro K Q λu w' hout=>hK _ _ ?_;obtain⟨M',z,h1,h2,h3,h4⟩:=hout.toW l.dom;rw[TB]at h2 h3 h4;obtain⟨h5,h6⟩:=(F.mono h3.mem h3.map).put hnt s h1;refine⟨hc',(iN _ _ _).trans hds,M',z,m,vd B.toRegB D n hi hTS hx s,h5,h6,.inr ⟨k,l.le,l.wrote,λj d a c=>?_,h2,h4,l.fwd.trans h3⟩⟩;rw[<-l.upto j d a c,n j];constructor
    ·rintro(h | h);·exact h
     subst h;rw[D]at a;injection a with a;rw[<-a,O]at c;cases c
    exact .inl
   | true=>
    rcases I with l | ⟨k,l⟩
    ·have hlk:=hnl O;have hwk:=ql hlk D (cG _);have hnw:=Wp D O hlk;have hbs:newAt E pc ops dep sts i=bs:=(by unfold newAt;rw[D];simp only[hw',hk,hq,O,hlk,zg,GK,if_true]);rw[<-hk,Lj (pc:=pc) A (iY R) hnw]at hq;have hloc:Ef N (gF (sts 0).hp.get (gH ops dep sts) (newAt E pc ops dep sts) (λ_=>true) i) (gL E pc ops dep sts L ops.size):=by
      intro q b hg hne;have Y : ∀i j,mt (gH ops dep sts) (newAt E pc ops dep sts) i q->mt (gH ops dep sts) (newAt E pc ops dep sts) j q->i=j:=λi j=>LD B i j;by_cases hex : ∃j,mt (gH ops dep sts) (newAt E pc ops dep sts) j q
      ·obtain⟨j,hjm⟩:=hex;have hf:ι q=none:=Wu (tc:=tc) (nt:=nt) B A hD0 hjm;have hjs:j<ops.size:=(by have:newAt E pc ops dep sts j≠[]:=(by intro e;have:=hjm.2.2.2;rw[e]at this;simp at this);obtain⟨d,a,_⟩:=ug this;exact(jb.1 a).1);cases p:L j with
       | false=>exact absurd (l.dom q hf λi' _ hL X=>by rw[Y i' j X hjm,p]at hL;cases hL) hne
       | true=>
        by_cases hji:j<i;·rw[CX Y hjm rfl _ hji]at hg;rw[gL,CX Y hjm p _ hjs];exact hg
        rw[tK _ (λi' hi' _ X=>by have:=Y i' j X hjm;omega),hS0.ZC hf]at hg;cases hg
      rw[tK _ (λi' _ _ X=>hex ⟨i',X⟩)]at hg;rw[gL,tK _ (λi' _ _ X=>hex ⟨i',X⟩)];exact hg
     rw[<-ur hag]at hq;have hq':=E3 l.sim hloc F hq;have U : ∀k,N { gH ops dep sts i with k:=k}=none:=λk=>l.dom _ (Km (pc:=pc) (tc:=tc) (nt:=nt) B A hD0 D O hwk hnw k) λj _ p hm=>by
      have hne:newAt E pc ops dep sts j≠[]:=(by intro e;have:=hm.2.2.2;rw[e]at this;simp at this);obtain⟨d,a,c,hnj⟩:=ug hne;obtain⟨dj,hdj⟩:=gT.1 (B.site j d a c (ql hnj a (cG _)));obtain⟨di,hdi⟩:=gT.1 (B.site i o D O hwk);have:di=dj:=by have:=hm.2.1;simpa [gH,jI,a,hdj,D,hdi] using this
      have:=B.distinct i j o d di D a hdi (by rw[hdj,this]);subst this;rw[hi]at p;cases p
     refine yS (E:=E) (o:=o) l.sim F (by simp[gH]) U hpc (λh=>by cases h) hq' ro K Q λu w' ⟨M',z,h1,h2,h3,h4⟩=>hK _ _ ?_;obtain⟨h5,h6⟩:=(F.mono h3.mem h3.map).put hnt s h1;have hg':gL E pc ops dep sts L' ops.size=tB (gL E pc ops dep sts L ops.size) (gH ops dep sts i) bs:=by rw[W5 B R n,hbs]
     refine⟨hc',(iN _ _ _).trans hds,M',z,m,vd B.toRegB D n hi hTS hx s,h5,h6,.inl ⟨λj d W a c=>?_,by rw[hg'];exact h2,by rw[hg'];exact l.fwd.trans h3,λq hq hno=>?_⟩⟩
     ·rcases(n j).1 W with h | h
      ·exact l.quiet j d h a c
      subst h;exact hlk
     refine h4 q (l.dom q hq λj W p=>hno j W ((n j).2 (.inl p))) λk hk' e=>?_;refine hno i R ((n i).2 (.inr rfl)) ?_;rw[e];exact⟨rfl,rfl,rfl,by rw[hbs];exact hk'⟩
    exact absurd l (Z O k)
  have h1:=hnl (iH hwk');rw[RF D hwk' (cG i)]at h1;cases h1
include B A in
theorem RJ(y:s9 ι (sts 0).hp){L:Nat->Bool}(c : ∀i,i<ops.size->L i=true){a v:Act}{G:World}(u:a.defers=ds)(O:Inv E pc nt ops dep sts M ι w ds L v G):kQ M ι (sts 0) a w nt (sts ops.size) v G:=by
 obtain⟨R,s,x,m,tm1,z,D,q,h⟩:=O;have F : ∀t,df tm1 t=df (sts ops.size).tm t:=by
  intro t;obtain⟨K,Q⟩:=z t;obtain⟨J,I⟩:=Lh B.toRegB A ops.size (cG _) t;by_cases n : ∃j,j<ops.size/\jI ops j=some t;·obtain⟨j,b,hd⟩:=n;rw[K j b (c j b) hd,J j b (by simpa using b) hd]
  rw[Q λj b _ hd=>n ⟨j,b,hd⟩,I λj b _ hd=>n ⟨j,b,hd⟩]
 have f:TR x m (sts ops.size).tm v:=⟨λt=>by rw[<-F];exact D.at_ t⟩;rcases h with d | ⟨k,d⟩
 ·have p:noW E ops ops.size:=λj o b e=>by
   cases p:jv E o with| false=>rfl| true=>have:=ql (d.quiet j o (c j b) e (iH p)) e (cG _);rw[p]at this;cases this
  have H:(sts ops.size).hp.get=gL E pc ops dep sts L ops.size:=(by rw[Lj (pc:=pc) A (cG _) p];exact RQ B (cG _) λj o b _ _ _=>⟨λ_=>b,λ_=>c j b⟩);refine⟨⟨x,m,⟨by rw[H];exact d.sim,?_,f,q⟩,by rw[H];exact d.fwd⟩,s.trans u.symm⟩;exact N8 (M:=M) (tc:=tc) (nt:=nt) A y (cG _) p d.dom d.fwd.map λj o b _ _ _ _=>b
 have l:(sts ops.size).hp=(sts k).hp:=NJ A ops.size d.le (cG _) λj o N b e=>by
  cases P:xR E o with| false=>rfl| true=>have:=(d.upto j o e P).1 (c j b);omega
 exact⟨⟨x,m,⟨by rw[l];exact d.sim,by rw[l];exact d.dom,f,q⟩,by rw[l];exact d.fwd⟩,s.trans u.symm⟩
include B in
theorem C3{a:Array Bool}(j:a.size=ops.size)(h:Region.ready .any ops a=[]) : ∀i,i<ops.size->a.getD i false=true:=by
 intro i;induction i using Nat.strongRecOn with | ind i l=>
 intro hi;cases n:a.getD i false with
 | true=>rfl
 | false=>
  exfalso;have f:=kD hi;have d:a.getD i true=false:=by
   have:i<a.size:=(by omega);simpa [Array.getD,this] using n
  have:i∈Region.ready .any ops a:=(by rw[iQw];refine⟨d,_,f,λe k m=>?_⟩;have b:e.on∈fA ops[i]:=(by unfold fA;exact nO.2 ⟨e,Ep.2 ⟨by simpa using k,m⟩,rfl⟩);have c:=B.edges i _ f _ b;exact l e.on c (by omega));rw[h]at this;cases this
include B A in
theorem aea(O : ∀f x y,pc f x=some y->j5 E.P f x y)(V : ∀f x H y H',tc f x H=some (y,H')->jd E.P f x H y H'){ro:Option Nat}{a0:Act}(v:a0.defers=ds){Q:Exit->Act->World->Prop}
 (U:gS M ι (sts 0).hp.get w) (l:s9 ι (sts 0).hp) (X : ∀J w',kQ M ι (sts 0) a0 w nt (sts ops.size) J w'->Q .normal J w') : ∀(b:Nat)(a:Array Bool)(F:Act)(D:World),a.size=ops.size ->
 (List.range ops.size).countP (λi => !a.getD i false)<=b->Inv E pc nt ops dep sts M ι w ds (λi=>a.getD i false) F D->wpAnyIn (FW ro) 0 E.P .any ops Q b a F D:=by
 intro b;induction b with
 | zero=>
  intro a F D k Z I;have c : ∀i,i<ops.size->a.getD i false=true:=by
   intro i hi;cases W:a.getD i false with
   | true=>rfl
   | false=>exfalso;have:0<(List.range ops.size).countP (λi => !a.getD i false):=List.countP_pos_iff.2 ⟨i,xV.2 hi,by rw[W];rfl⟩;omega
  refine⟨?_,X _ _ (RJ B A l c v I)⟩;refine UA.2 λi hi=>?_;rw[iQw]at hi;obtain⟨z,o,s,_⟩:=hi;have q:i<ops.size:=(jb.1 s).1;have G:=c i q;have:i<a.size:=by omega
  simp[Array.getD,this]at z G;rw[G]at z;cases z
 | succ b ih=>
  intro a F D k Z I;refine⟨λhr=>X _ _ (RJ B A l (C3 B k hr) v I),λi hi=>?_⟩;rw[iQw]at hi;obtain⟨z,o,s,S⟩:=hi;have q:i<ops.size:=(jb.1 s).1;have u:i<a.size:=by omega
  have t:a.getD i false=false:=(by simpa [Array.getD,u] using z);have m : ∀e∈fA o,(λi=>a.getD i false) e=true:=(by intro e Y;unfold fA at Y;obtain⟨d,hd,rfl⟩:=nO.1 Y;obtain⟨G,h2⟩:=Ep.1 hd;exact S d (by simpa using G) h2);have h : ∀j,(λj=>(a.setIfInBounds i true).getD j false) j=true↔((λj=>a.getD j false) j=true\/j=i):=by
   intro j;simp only;by_cases n:j=i;·subst n;simp[u]
   rw[getD_set_ne false (ta n)];simp[n]
  have:=WS (E:=E) (tc:=tc) (ro:=ro) (K:=wpAnyIn (FW ro) 0 E.P .any ops Q b (a.setIfInBounds i true)) (Q:=Q) B A O V U l (L:=λi=>a.getD i false) s t m h I λJ w' R=>by
   refine ih _ J w' (by simp[k]) ?_ R;have:=FL (p:=λj => !a.getD j false) (p':=λj => !(a.setIfInBounds i true).getD j false) (i:=i) (λj T=>by
    simp only[iB]at T ⊢;cases W:a.getD j false with
    | false=>rfl
    | true=>have:=(h j).2 (.inl W);simp only at this;rw[this]at T;cases T) (by simp only[t,zg]) (by have:=(h i).2 (.inr rfl);simp only at this ⊢;rw[this];rfl) (List.range ops.size) (xV.2 q)
   omega
  unfold wpOpIn;rw[s];simp only;split;·rename_i N;rw[if_pos N]at this;exact this
  rename_i N;rw[if_neg N]at this;exact⟨λ_ _=>trivial,this⟩
end
def N6{E:Env}(K:E.P.follows .mixedOrders=true){ops:Array Oper}(p:Ds E ops=true){pc:FuncId->List AV->Option AV}(m : ∀f d y,pc f d=some y->j5 E.P f d y)
 {tc:uY->List AV->aa->cR} (u : ∀f d H y H',tc f d H=some (y,H')->jd E.P f d H y H') {nt dep id:Nat} {st st':St} {M:Mem} {ι:Map} {a:Act} {w:World} {ro:Option Nat} {Q:Exit->Act->World->Prop}
 (h:oa E pc tc nt dep true ops ops.toList st=some st') (e:z0 M ι st nt a w) (G : ∀j w',kQ M ι st a w nt st' j w'->Q .normal j w'):(Code.region id ops true).wpIn (FW ro) 0 E.P Q a w:=by
 obtain⟨sts,I,v,F⟩:=HT ops.toList st st' h;rw[BX]at v;have B:=M7 p;have A : ∀i o,ops[i]?=some o->evalOp E pc tc nt dep true ops o (sts i)=some (sts (i+1)):=λi o x=>F i o (by simpa using x);subst I;refine wpIn_region_any K ?_;have s:uS M ι (sts 0).hp.get w M ι (sts 0).hp.get { w with drawn:=w.drawn+1} :=
  ⟨rfl,rfl,rfl,cG _,λ_ _ _=>rfl,λ_ _ _ h=>h,λ_ _ h=>h,λr k l h D => .inr ⟨r,k,l,h,D,rfl⟩,λ_ _ _ h => .inl h⟩
 have c : ∀i,(Array.replicate ops.size false).getD i false=false:=by
  intro i;simp only[Dd,OU];split<;>rfl
 have b : ∀n,gF (sts 0).hp.get (gH ops dep sts) (newAt E pc ops dep sts) (λi=>(Array.replicate ops.size false).getD i false) n=(sts 0).hp.get:=by
  intro n;funext q;refine tK n λi _ hi=>?_;exact absurd ((c i).symm.trans hi) (by simp)
 refine aea (tc:=tc) (M:=M) (ι:=ι) (w:=w) (a0:=a) B A m u rfl e.sim e.dom (λj w' z=>G j w' (v ▸ z)) ops.size _ a _ (by simp) ?_ ?_;·exact wQ iQJ (by simp)
 refine⟨λi o hi=>?_,rfl,M,ι,(sts 0).tm,?_,e.tr,e.nt,.inl ⟨λi o hi=>?_,?_,?_,λq J _=>J⟩⟩;·exact absurd ((c i).symm.trans hi) (by simp)
 ·exact λt=>⟨λi _ hi=>absurd ((c i).symm.trans hi) (by simp),λ_=>rfl⟩
 ·exact absurd ((c i).symm.trans hi) (by simp)
 ·rw[gL,b];exact e.sim.drew rfl
 rw[gL,b];exact s
end
end Go.Ab
