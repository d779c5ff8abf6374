/-
  What a quiet operation of the abstract machine looks at. No statement of a seat is proved here.
-/
import Derived.Test.YtehkjjcdkbcebaaGreatAbsWalk
set_option linter.unusedVariables false
set_option linter.unusedSimpArgs false
set_option linter.unusedSectionVars false
set_option linter.unnecessarySimpa false
set_option linter.defProp false
namespace Go.Ab
section
def mapM_congr{b j:Type}{f c:b->Option j} : ∀ {l:List b},(∀x∈l,f x=c x)->l.mapM f=l.mapM c:=by
 intro l;induction l with
 | nil=>intro _;rfl
 | cons a l d=>intro h;simp only[lH];rw[h a (im ..),d λx e=>h x (iR _ e)]
def rC(tm tm':List AV)(a:List Operand):Prop :=∀x∈a,ar tm x=ar tm' x
def od{tm tm':List AV}{ps:List (Nat × Operand)}(h : ∀p∈ps,ar tm p.2=ar tm' p.2):fw tm ps=fw tm' ps:=by
 unfold fw;exact mapM_congr λp hp=>by obtain⟨i,o⟩:=p;simp only[h (i,o) hp]
def vw{tm tm':List AV}{x:Option Operand}(h : ∀y,x=some y->ar tm y=ar tm' y):ky tm x=ky tm' x:=by
 cases x with| none=>rfl| some y=>simp only[ky,h y rfl]
def qE{E:Env}{pc:FuncId->List AV->Option AV}{q:Bool}{g:cb}{tm tm':List AV}{r:Ref}{o:Oper}(h:rC tm tm' o.op.operands.toList) :
 ca E pc q g tm r o=ca E pc q g tm' r o:=by
 unfold rC at h;unfold ca;split;·rename_i x j;rw[j]at h;simp only[Op.operands]at h;rw[h x (by simp)]
 ·rename_i x j;rw[j]at h;simp only[Op.operands]at h;rw[h x (by simp)]
 ·rename_i c a b j;rw[j]at h;simp only[Op.operands]at h;simp only[Ee];rw[h c (by simp),h a (by simp),h b (by simp)]
 ·rfl
 ·rename_i e x j;rw[j]at h;simp only[Op.operands]at h;rw[h x (by simp)]
 ·rename_i t ps j;rw[j]at h;simp only[Op.operands]at h;rw[od λp hp=>h p.2 (by simp;exact⟨p.1,by simpa using hp⟩)]
 ·rename_i t n ps j;rw[j]at h;simp only[Op.operands]at h;rw[od λp hp=>h p.2 (by simp;exact⟨p.1,by simpa using hp⟩)]
 ·rename_i t x j;rw[j]at h;simp only[Op.operands]at h;rw[h x (by simp)]
 ·rename_i x j;rw[j]at h;simp only[Op.operands]at h;rw[h x (by simp)]
 ·rename_i D t x y ty j;rw[j]at h;simp only[Op.operands]at h;rw[h x (by simp),h y (by simp)]
 ·rename_i D t x j;rw[j]at h;simp only[Op.operands]at h;rw[h x (by simp)]
 ·rename_i s d x j;rw[j]at h;simp only[Op.operands]at h;rw[h x (by simp)]
 ·rename_i t x j;rw[j]at h;simp only[Op.operands]at h;rw[h x (by simp)]
 ·rename_i f a b j;rw[j]at h;simp only[Op.operands]at h;rw[mapM_congr λx m=>h x (by simp at m ⊢;exact .inl m),mapM_congr λx m=>h x (by simp at m ⊢;exact .inr m)]
 ·rename_i t l c j;rw[j]at h;simp only[Op.operands]at h;rw[h l (by simp),h c (by simp)]
 ·rfl
 ·rename_i t x k ok j;rw[j]at h;simp only[Op.operands]at h;rw[h x (by simp),h k (by simp)]
 ·rename_i t x lo hi v j;rw[j]at h;simp only[Op.operands]at h;rw[h x (by simp),vw (x:=lo) λy u=>h y (by simp[u]),vw (x:=hi) λy u=>h y (by simp[u]),vw (x:=v) λy u=>h y (by simp[u])]
 ·rename_i t x f j;rw[j]at h;simp only[Op.operands]at h;rw[h x (by simp)]
 ·rename_i t x f j;rw[j]at h;simp only[Op.operands]at h;rw[h x (by simp)]
 ·rename_i t x y j;rw[j]at h;simp only[Op.operands]at h;rw[h x (by simp),h y (by simp)]
 ·rename_i t x y j;rw[j]at h;simp only[Op.operands]at h;rw[h x (by simp),h y (by simp)]
 ·rename_i x t F ok j;rw[j]at h;simp only[Op.operands]at h;rw[h x (by simp)]
 ·rename_i x i j;rw[j]at h;simp only[Op.operands]at h;rw[h x (by simp)]
 ·rename_i c j;rw[j]at h;simp only[Op.operands,Call.operands]at h;rw[mapM_congr (l:=c.args.toList) λx m=>h x (by simp at m ⊢;exact .inr m)];split;·rfl
  split;·rename_i f z;rw[h f (by simp[z])]
  ·rfl
  rfl
 rfl
def RW{E:Env}{pc:FuncId->List AV->Option AV}{tc:qJ->List AV->ab->bU}{H:ab}{tm tm':List AV}{r:Ref}{o:Oper}(h:rC tm tm' o.op.operands.toList) :
 evalW E pc tc H tm r o=evalW E pc tc H tm' r o:=by
 unfold rC at h;unfold evalW;generalize o.op=op at h ⊢;cases op<;>try rfl
 case store t x y=>simp only[Op.operands]at h;simp only;rw[h x (by simp),h y (by simp)]
 case mapUpdate t m k y=>simp only[Op.operands]at h;simp only;rw[h m (by simp),h k (by simp),h y (by simp)]
 case insert t m k y=>simp only[Op.operands]at h;simp only;rw[h m (by simp),h k (by simp),h y (by simp)]
 case mapEntry t m k=>simp only[Op.operands]at h;simp only;rw[h m (by simp),h k (by simp)]
 case entryStore t m k y=>simp only[Op.operands]at h;simp only;rw[h m (by simp),h k (by simp),h y (by simp)]
 case buildSlice t n ps=>simp only[Op.operands]at h;simp only;rw[od λp hp=>h p.2 (by simp;exact⟨p.1,by simpa using hp⟩)]
 case makeChan t n=>simp only[Op.operands]at h;simp only;rw[h n (by simp)]
 case send c x=>simp only[Op.operands]at h;simp only;rw[h c (by simp),h x (by simp)]
 case recv t c b=>simp only[Op.operands]at h;simp only;rw[h c (by simp)]
 case call c=>
  simp only[Op.operands,Call.operands]at h;simp only;rw[mapM_congr (l:=c.args.toList) λx a=>h x (by simp at a ⊢;exact .inr a)];split;·rfl
  split;·rename_i f d;rw[h f (by simp[d])]
  ·rfl
  rfl
def R9{E:Env}{H:ab}{tm tm':List AV}{r:Ref}{o:Oper}(h:rC tm tm' o.op.operands.toList):uI E H tm r o=uI E H tm' r o:=by
 unfold rC at h;unfold uI;generalize o.op=op at h ⊢;cases op<;>try rfl
 case buildSlice t n ps=>simp only[Op.operands]at h;simp only;rw[od λp hp=>h p.2 (by simp;exact⟨p.1,by simpa using hp⟩)]
 case call c=>
  simp only[Op.operands,Call.operands]at h;simp only;rw[mapM_congr (l:=c.args.toList) λx a=>h x (by simp at a ⊢;exact .inr a)]
def O3{E:Env}{pc:FuncId->List AV->Option AV}{a:Bool}{g:cb}{tm tm':List AV}{r:Ref}{o:Oper}(h:rC tm tm' o.op.operands.toList) :
 qQ E pc a g tm r o=qQ E pc a g tm' r o:=by
 unfold qQ;rw[qE h]
def O2{E:Env}{pc:FuncId->List AV->Option AV}{tc:qJ->List AV->ab->bU}{a:Bool}{H:ab}{tm tm':List AV}{r:Ref}{o:Oper}(h:rC tm tm' o.op.operands.toList) :
 pU E pc tc a H tm r o=pU E pc tc a H tm' r o:=by
 unfold pU;rw[RW h,R9 h]
def A0(ι:Map)(g C:cb):Prop :=∀q k,g q=some k->ι q≠none->C q=some k
section
variable{M:Mem}{ι:Map}{g C:cb}{w:World}
def Ni{l:Loc}{k:aP}(c:eo M ι w l k){e:AV}(h:e∈k.es) : ∃u,VR M (k.map ι) e u:=by
 obtain⟨i,hi,b⟩:=ot h;have d:=c.cell i (by rw[dh hi,b]);obtain⟨us,a,_,_⟩:=d.values;cases e with
 | agg cs=>exact⟨.agg us.toArray,VR.oe.2 (by simpa [AV.cells] using a)⟩
 | _=>have f:=a.1;obtain⟨u,rfl⟩:=Hv f.symm;exact⟨u,a.2 0 _ u rfl rfl⟩
def Jf{f c:AV->Option AV}{l e:List AV}(h:l.mapM f=some e)(j : ∀x∈l,∀y,f x=some y->c x=some y):l.mapM c=some e:=by
 rw[<-h];refine mapM_congr λx b=>?_;obtain⟨i,hi,a⟩:=ot b;obtain⟨y,_,d⟩:=jU h i x (by rw[dh hi,a]);rw[d,j x b y d]
def sh{b j:Type}{f c:b->List j} : ∀ {l:List b},(∀x∈l,f x=c x)->l.flatMap f=l.flatMap c:=by
 intro l;induction l with
 | nil=>intro _;rfl
 | cons a l d=>intro h;rw[kY,kY,h a (im ..),d λx e=>h x (iR _ e)]
def tQ(hS:fk M ι C w)(hL:A0 ι g C) : ∀(n:Nat)(x y:AV)(u:Value)(p:Mem),view g n x=some y->VR p ι x u->view C n x=some y/\ad C n x=ad g n x /\∀r∈ad g n x,ι r≠none:=by
 intro n;induction n with
 | zero=>intro x y u p h;simp[view]at h
 | succ n P=>
  intro x y u p h hv;have e : ∀ {cs ys:List AV},cs.mapM (view g n)=some ys->(∀c∈cs,∃u p,VR p ι c u)->cs.mapM (view C n)=some ys/\cs.flatMap (ad C n)=cs.flatMap (ad g n) /\∀r∈cs.flatMap (ad g n),ι r≠none:=by
   intro cs ys z N;refine⟨Jf z λc t y O=>?_,sh λc t=>?_,?_⟩;·obtain⟨u,p,hu⟩:=N c t;exact(P c y u p O hu).1
   ·obtain⟨u,p,hu⟩:=N c t;obtain⟨i,hi,G⟩:=ot t;obtain⟨y,_,O⟩:=jU z i c (by rw[dh hi,G]);exact(P c y u p O hu).2.1
   intro r s;obtain⟨c,t,s⟩:=eW.1 s;obtain⟨u,p,hu⟩:=N c t;obtain⟨i,hi,G⟩:=ot t;obtain⟨y,_,O⟩:=jU z i c (by rw[dh hi,G]);exact(P c y u p O hu).2.2 r s
  have inl : ∀ {cs:List AV} {Q:Array Value},cs.length=Q.size->(∀(i:Nat) c u,cs[i]?=some c->Q[i]?=some u->VR p ι c u) ->∀c∈cs,∃u p,VR p ι c u:=(by intro cs Q R J c t;obtain⟨i,hi,G⟩:=ot t;exact⟨Q[i]'(by omega),p,J i c _ (by rw[dh hi,G]) (iG (by omega))⟩);cases hv with
  | v hs=>simp[view]at h;subst h;simp[view,ad]
  | agg R J=>simp only[view,bA]at h;obtain⟨ys,z,rfl⟩:=h;obtain⟨F,H,D⟩:=e z (inl R J);exact⟨by simp[view,F],by simp only[ad];exact H,by simp only[ad];exact D⟩
  | tup h0 R J=>simp only[view,bA]at h;obtain⟨ys,z,rfl⟩:=h;obtain⟨F,H,D⟩:=e z (inl R J);exact⟨by simp[view,F],by simp only[ad];exact H,by simp only[ad];exact D⟩
  | cC=>simp[view]at h;subst h;simp[view,ad]
  | iptr=>simp[view]at h;subst h;simp[view,ad]
  | bO s hb hs ha t hn hk I=>
   rename_i r S len cap l a c;simp only[view]at h;split at h;·rename_i b k;have:=hL r b k (by rw[s];simp);exact⟨by simp only[view,this];exact h,by simp[ad],by intro q f;simp only[ad,l7]at f;rw[f,s];simp⟩
   cases h
  | dsl s hb hs ha t hn hk I=>
   rename_i r S len cap l a c;simp only[view]at h;split at h
   ·rename_i b k;have m:=hL r b k (by rw[s];simp);split at h
    ·rename_i J;obtain⟨d,hlen⟩:=J;simp only[bA]at h;obtain⟨es,L,rfl⟩:=h;have K:=hS.at s I m;obtain⟨F,H,D⟩:=e L λc t=>by
      obtain⟨u,hu⟩:=Ni K t;rw[aP.map,d]at hu;exact⟨u,M,by simpa using hu⟩
     exact⟨by simp[view,m,d,hlen,F],by simp only[ad,m,k];rw[H],by
      intro q f;simp only[ad,k]at f;rcases dG.1 f with rfl | f
      ·rw[s];simp
      exact D q f⟩
    cases h
   cases h
  | ptr s I=>
   rename_i r i j l;simp only[view]at h;split at h
   ·rename_i b k;have m:=hL r b k (by rw[s];simp);cases d:b.arr with
    | true=>rw[d]at h;exact⟨by simp only[view,m,d];exact h,by simp[ad,m,k,d],by intro q f;simp[ad,k,d]at f;rw[f,s];simp⟩
    | false=>
     rw[d]at h;simp only[hU,iQf,bA]at h;obtain⟨es,L,rfl⟩:=h;have K:=hS.at s I m;obtain⟨F,H,D⟩:=e L λc t=>by
      obtain⟨u,hu⟩:=Ni K t;rw[aP.map,d]at hu;exact⟨u,M,by simpa using hu⟩
     exact⟨by simp[view,m,d,F],by simp only[ad,m,k,d];rw[if_neg (by simp),if_neg (by simp),H],by
      intro q f;simp only[ad,k,d]at f;rw[if_neg (by simp)]at f;rcases dG.1 f with rfl | f
      ·rw[s];simp
      exact D q f⟩
   cases h
  | fn W Z V T=>
   simp only[view]at h;split at h
   ·rename_i a' b' X U;cases h;obtain⟨F,H,h5⟩:=e X (inl W V);obtain⟨D,h4,h6⟩:=e U (inl Z T);exact⟨by simp[view,F,D],by simp only[ad];rw[H,h4],by
     intro q f;simp only[ad,jG]at f;rcases f with f | f
     ·exact h5 q f
     exact h6 q f⟩
   cases h
  | yld=>simp[view]at h
  | mp=>simp[view]at h
  | ch=>simp[view]at h
  | xv=>simp[view]at h
  | ifc J=>simp only[view,bA]at h;obtain⟨y',Y,rfl⟩:=h;obtain⟨F,H,D⟩:=P _ y' _ p Y J;exact⟨by simp[view,F],by simp only[ad];exact H,by simp only[ad];exact D⟩
def NN(f:fk M ι C w)(k:A0 ι g C){d ys:List AV}{us:List Value}(h:d.mapM (view g depth)=some ys)(l:j7 M ι d us):d.mapM (view C depth)=some ys/\bW C d=bW g d /\∀r∈bW g d,ι r≠none:=by
 have inl : ∀c∈d,∃u,VR M ι c u:=by
  intro c b;obtain⟨i,hi,a⟩:=ot b;have m:=l.1;exact⟨us[i]'(by omega),l.2 i c _ (by rw[dh hi,a]) (dh (by omega))⟩
 refine⟨Jf h λc b y e=>?_,sh λc b=>?_,?_⟩;·obtain⟨u,hu⟩:=inl c b;exact(tQ f k depth c y u M e hu).1
 ·obtain⟨u,hu⟩:=inl c b;obtain⟨i,hi,a⟩:=ot b;obtain⟨y,_,e⟩:=jU h i c (by rw[dh hi,a]);exact(tQ f k depth c y u M e hu).2.1
 intro r j;obtain⟨c,b,j⟩:=eW.1 j;obtain⟨u,hu⟩:=inl c b;obtain⟨i,hi,a⟩:=ot b;obtain⟨y,_,e⟩:=jU h i c (by rw[dh hi,a]);exact(tQ f k depth c y u M e hu).2.2 r j
def E2(d:A0 ι g C){R:List Ref}(B : ∀r∈R,ι r≠none)(h:lW g R=true):lW C R=true:=by
 simp only[lW,eC]at h ⊢;intro r c;have:=h r c;cases a:g r with
 | none=>rw[a]at this;simp at this
 | some b=>rw[a]at this;rw[d r b a (B r c)];exact this
def Cu(e:A0 ι g C){x:AV}{u:Value}(a:VR M ι x u){p:Nat × List AV}(h:cr g x=some p):cr C x=some p:=by
 cases a with
 | bO d=>
  simp only[cr]at h ⊢;split at h;·rename_i b c;rw[e _ b c (by rw[d];simp)];exact h
  cases h
 | v f=>cases ‹Value› <;> simp_all [cr]
 | cC=>exact h
 | _=>simp[cr]at h
def yz(j:fk M ι C w)(m:A0 ι g C){b q:List (Nat × AV)}(h:eU g b=some q)(t : ∀p∈b,∃u,VR M ι p.2 u) :
 eU C b=some q/\bW C (b.map (·.2))=bW g (b.map (·.2)) /\∀r∈bW g (b.map (·.2)),ι r≠none:=by
 have a : ∀p∈b,∃y u,view g depth p.2=some y/\VR M ι p.2 u:=by
  intro p hp;obtain⟨i,hi,l⟩:=ot hp;obtain⟨y,_,n⟩:=jU h i p (by rw[dh hi,l]);obtain⟨u,hu⟩:=t p hp;obtain⟨k,x⟩:=p;simp only[bA]at n;obtain⟨z,s,_⟩:=n;exact⟨z,u,s,hu⟩
 refine⟨?_,?_,?_⟩;·unfold eU at h ⊢;rw[<-h];refine mapM_congr λp hp=>?_;obtain⟨y,u,c,d⟩:=a p hp;obtain⟨k,x⟩:=p;simp only at c d;simp only[c,(tQ j m depth x y u M c d).1]
 ·unfold bW;refine sh λx e=>?_;obtain⟨p,hp,rfl⟩:=lX.1 e;obtain⟨y,u,c,d⟩:=a p hp;exact(tQ j m depth p.2 y u M c d).2.1
 intro r f;obtain⟨x,e,f⟩:=eW.1 f;obtain⟨p,hp,rfl⟩:=lX.1 e;obtain⟨y,u,c,d⟩:=a p hp;exact(tQ j m depth p.2 y u M c d).2.2 r f
def Q8{tm:List AV}{a:Act}(e:TR M ι tm a){ps:List (Nat × Operand)}{c:List (Nat × AV)}(h:fw tm ps=some c) : ∀p∈c,∃u,VR M ι p.2 u:=by
 intro p hp;obtain⟨f,d⟩:=o7 (ι:=ι) e h;obtain⟨i,hi,b⟩:=ot hp;exact⟨_,(d i p _ (by rw[dh hi,b]) (dh (by omega))).2⟩
def Jb{P:Program}(j:fk M ι C w)(m:A0 ι g C){t:TypeId}{n:Nat}{a:List (Nat × AV)}{b:aP}(h:mkSlice P g t n a=some b)(d : ∀p∈a,∃u,VR M ι p.2 u):mkSlice P C t n a=some b:=by
 unfold mkSlice at h ⊢;split at h;·cases h
 rename_i e l;try simp only[l]
 split at h
 ·rename_i q z s c f k;try simp only[(yz j m c d).1,f,k]
  exact h
 cases h
def Fv{P:Program}{t:TypeId}{n:Nat}{d:List (Nat × AV)}{b:aP}(h:mkSlice P g t n d=some b) : ∃a,eU g d=some a:=by
 unfold mkSlice at h;split at h;·cases h
 split at h;·rename_i a z s c e f;exact⟨a,c⟩
 cases h
def F1{P:Program}(b:A0 ι g C){e:TypeId}{x:AV}{u:Value}(a:VR M ι x u){p:Nat × List AV}(h:lN P g e x=some p):lN P C e x=some p:=by
 unfold lN at h ⊢;split at h;·exact h
 ·exact h
 rename_i c d;exact Cu b a h
def I2{P:Program}(k:A0 ι g C){r:Ref}{t t':Option TypeId}{s x:AV}{us y:Value}(p:VR M ι s us)(n:VR M ι x y){a:AV × List aP}(h:dY P g r t t' s x=some a):dY P C r t t' s x=some a:=by
 unfold dY at h ⊢;split at h;·cases h
 rename_i e u;try simp only[u]
 split at h;·cases h
 rename_i D;rw[if_neg D];split at h
 ·rename_i z by' zz G new l m f c;try simp only[l,m,f,F1 k n c]
  split at h;·cases h
  rename_i d;rw[if_neg d];cases p with
  | bO q=>
   simp only at h ⊢;split at h;·rename_i b j;rw[k _ b j (by rw[q];simp)];exact h
   cases h
  | v F=>(split at h)<;>first | exact h | cases h | simp_all
  | _=>exact h
 cases h
def F5(e:A0 ι g C){r:Ref}(d:ι r≠none){a:List AV}(h:kA g r=some a):kA C r=some a:=by
 unfold kA at h ⊢;cases c:g r with
 | none=>rw[c]at h;cases h
 | some b=>rw[c]at h;rw[e r b c d];exact h
def IY{P:Program}(m:A0 ι g C){t:TypeId}{x:AV}{u:Value}(c:VR M ι x u){k:Option AV}{ok:Bool}{a:AV × List aP}(h:jQ P g t (some x) k ok=some a):jQ P C t (some x) k ok=some a:=by
 unfold jQ at h ⊢;split at h
 ·rename_i s p r' q d j e;cases j;cases c with | mp f n=>
  try simp only[d,e]
  split at h;·rename_i b l;rw[F5 m (by rw[f];simp) l];exact h
  cases h
 cases h
def BK{E:Env}{pc:FuncId->List AV->Option AV}(hS:fk M ι C w)(D:A0 ι g C){tm:List AV}{a:Act}(N:TR M ι tm a){r:Ref}{o:Oper}{x:AV}{bs:List aP}
 (h:ca E pc true g tm r o=some (x,bs)):ca E pc true C tm r o=some (x,bs):=by
 unfold ca at h ⊢;simp only[tN,vZ,iQp,vu]at h ⊢;split at h;·exact h
 ·exact h
 ·exact h
 ·exact h
 ·exact h
 ·exact h
 ·rename_i t n ps H;cases m:fw tm ps.toList with
  | none=>rw[m]at h;simp[gw]at h
  | some vs=>rw[m]at h;generalize (true && !E.strict o)=dr at h ⊢;simp only[gw]at h ⊢;obtain⟨P,L⟩:=dH.1 h;simp only[bA]at L;obtain⟨b,I,O⟩:=L;have X:=Q8 N m;obtain⟨ws,hws⟩:=Fv I;obtain⟨T,h5,h6⟩:=yz hS D hws X;rw[h5,E2 D h6 P,Jb hS D I X];simp[O]
 ·rename_i t y H;unfold mP at h ⊢;split at h
  ·rename_i r' i j ag n l hg hn;try simp only[l,hg,hn]
   split at h
   ·rename_i b I;have m:=aG N l;generalize a.eval y=u at m;cases m with | ptr F hzl=>
    rw[D r' b I (by rw[F];simp)];exact h
   cases h
  ·rename_i esz es i j ag n l hg hn;try simp only[l,hg,hn]
   exact h
  cases h
 ·exact h
 ·exact h
 ·exact h
 ·rename_i s d y H;cases l:ar tm y with
  | none=>rw[l]at h;simp[bM]at h
  | some y'=>
   rw[l]at h;have m:=aG N l;unfold bM at h ⊢;split at h;·exact h
   ·exact h
   ·exact h
   ·rename_i z P L O G;injection G with G
    subst G;split at h
    ·rename_i R;try simp only[R,if_true]
     split at h;·rename_i p es hes;rw[Cu D m hes];exact h
     cases h
    rename_i R;try simp only[R]
    split at h
    ·rename_i hc2;try simp only[hc2,if_true]
     split at h
     ·generalize a.eval y=u at m;cases m with | bO F=>
      split at h;·rename_i k W;have:=D _ k W (by rw[F];simp);rw[this];exact h
      cases h
     cases h
    cases h
   rename_i G;cases G
 ·exact h
 ·exact h
 ·exact h
 ·exact h
 ·rename_i t y k ok H;cases l:ar tm y with
  | none=>rw[l]at h;simp only[jQ]at h;split at h<;>simp_all
  | some y'=>rw[l]at h;exact IY D (aG N l) h
 ·rename_i t y lo hi mx H;cases l:ar tm y with
  | none=>rw[l]at h;simp only[dm]at h ⊢;exact h
  | some y'=>
   rw[l]at h;have m:=aG N l;generalize a.eval y=u at m;cases m with
   | bO F=>
    simp only[dm]at h ⊢;split at h
    ·rename_i lo' hi' mx' P L O;try simp only[P,L,O]
     split at h;·rename_i b I;rw[D _ b I (by rw[F];simp)];exact h
     cases h
    cases h
   | dsl F=>
    simp only[dm]at h ⊢;split at h
    ·rename_i lo' hi' mx' P L O;try simp only[P,L,O]
     split at h;·rename_i b I;rw[D _ b I (by rw[F];simp)];exact h
     cases h
    cases h
   | _=>(unfold dm at h ⊢;(repeat' split at h)<;>simp_all)
 ·exact h
 ·exact h
 ·rename_i t y z H;cases l:ar tm y with
  | none=>rw[l]at h;exact h
  | some y'=>
   rw[l]at h;have m:=aG N l;generalize a.eval y=u at m;cases m with
   | bO F=>
    simp only[bI]at h ⊢;split at h
    ·rename_i k W;try simp only[W]
     split at h
     ·rename_i e G;try simp only[G]
      split at h;·rename_i esz es cap s f S;cases f
      ·rename_i r' Y len cap s f S;injection f with f
       injection f with e1 e2 e3 e4
       subst e1;try simp only[S]
       split at h;·rename_i b I;rw[D _ b I (by rw[F];simp)];subst e2;subst e3;exact h
       cases h
      ·rename_i f S;cases f
      cases h
     rename_i G;try simp only[G]
     exact h
    cases h
   | dsl F=>
    simp only[bI]at h ⊢;split at h
    ·rename_i k W;try simp only[W]
     split at h
     ·rename_i e G;try simp only[G]
      split at h;·rename_i f S;cases f
      ·rename_i f S;cases f
      ·rename_i r' Y len cap s f S;injection f with f
       injection f with e1 e2 e3 e4
       subst e1;try simp only[S]
       split at h;·rename_i b I;rw[D _ b I (by rw[F];simp)];subst e2;subst e3;exact h
       cases h
      cases h
     rename_i G;try simp only[G]
     exact h
    cases h
   | _=>(unfold bI at h ⊢;(repeat' split at h)<;>simp_all)
 ·exact h
 ·exact h
 ·exact h
 ·rename_i c H;split at h;·cases h
  rename_i args K;try simp only[K]
  have q:=kI N K;split at h
  ·rename_i fo R;try simp only[R]
   obtain⟨p0,h,e0⟩:=bA.1 h;refine bA.2 ⟨p0,?_,e0⟩;unfold jR at h ⊢;split at h
   ·rename_i fi first captured V
    try simp only[V]
    split at h;·cases h
    rename_i hm;rw[if_neg hm];obtain⟨a',b',hfv,Z,hvb⟩:=(aG N V).Uw;have U:j7 M ι (first++args++captured) (a'.toList++c.args.toList.map a.eval++b'.toList):=(Z.append q).append hvb;split at h
    ·rename_i xs hxs;obtain⟨P,L,O⟩:=NN hS D hxs U;try simp only[P]
     split at h
     ·rename_i y l;try simp only[l]
      obtain⟨J,h⟩:=dH.1 h;rw[L];rw[if_pos];·exact h
      simp only[lI]at J ⊢;rcases J with (T | T) | T
      ·exact .inl (.inl T)
      ·exact .inl (.inr (E2 D O T))
      exact .inr T
     cases h
    cases h
   cases h
  ·cases h
  rename_i b R;try simp only[R]
  unfold dX at h ⊢;split at h
  ·rename_i r';obtain⟨u,Q⟩:=Hv q.1.symm;rw[Q]at q;have m:=q.2 0 (.mp r') u rfl rfl;cases m with | mp F hz=>
   obtain⟨hd,h⟩:=Kx.1 h;simp only[if_neg hd];unfold yb at h ⊢;split at h
   ·rename_i p ents ht hm;try simp only[ht]
    simp only[F5 D (by rw[F];simp) hm];exact h
   cases h
  ·exact h
  ·exact h
  ·exact h
  ·rename_i y z;obtain⟨u,v,Q⟩:=vH q.1.symm;rw[Q]at q;exact I2 D (q.2 0 y u rfl rfl) (q.2 1 z v rfl rfl) h
  ·exact h
  cases h
 cases h
end
end
section
def Rr{a:List Nat}{i:Nat} : ∀(b:List Nat),(zk a b).testBit i=true ->∃j∈b,i=j\/(a.getD j 0).testBit i=true:=by
 intro b;induction b with
 | nil=>intro h;simp[zk]at h
 | cons j b d=>
  intro h;simp only[zk,Nat.testBit_or,lI]at h;rcases h with (h | h) | h
  ·rw[Nat.testBit_two_pow]at h;exact⟨j,im ..,.inl (by simpa using h:j=i).symm⟩
  ·exact⟨j,im ..,.inr h⟩
  obtain⟨k,c,h⟩:=d h;exact⟨k,iR _ c,h⟩
def J5 : ∀(b:List Oper)(a:List Nat)(i:Nat),i<a.length->(cW b a).getD i 0=a.getD i 0:=by
 intro b;induction b with
 | nil=>intro a i h;rfl
 | cons o b c=>intro a i h;simp only[cW];rw[c _ i (by simp;omega)];simp[List.getD,iB h]
def UQ : ∀(b:List Oper)(a:List Nat)(i:Nat)(o:Oper),b[i]?=some o ->
 ∀j,((cW b a).getD (a.length+i) 0).testBit j=true ->∃e∈eg o,j=e\/(e<a.length+i/\((cW b a).getD e 0).testBit j=true):=by
 intro b;induction b with
 | nil=>intro a i o h;simp at h
 | cons o' b l=>
  intro a i o h j c;cases i with
  | zero=>
   simp at h;subst h;simp only[cW,wW]at c ⊢;rw[J5 b _ a.length (by simp)]at c;simp only[List.getD,hY (aV _),sD,GO,dP]at c;obtain⟨e,he,c⟩:=Rr _ c;refine⟨e,he,?_⟩;rcases c with h | h
   ·exact .inl h
   right;rcases dT e a.length with d | f
   ·refine⟨d,?_⟩;have k:=J5 b (a++[zk a (eg o')]) e (by simp;omega);simp only[List.getD,iB d]at h k ⊢;rw[k];exact h
   rw[List.getD,tP f]at h;simp at h
  | succ i=>
   simp only[cW]at c ⊢;have:=l (a++[zk a (eg o')]) i o (by simpa using h) j (by
    rw[eS,C9];rwa [show a.length+1+i=a.length+(i+1) by omega])
   rw[eS,C9]at this;rwa [show a.length+1+i=a.length+(i+1) by omega]at this
def XQ{ops:Array Oper}{i j:Nat}{o:Oper}(a:ops[i]?=some o)(b:((cW ops.toList []).getD i 0).testBit j=true) : ∃e∈eg o,j=e\/(e<i/\((cW ops.toList []).getD e 0).testBit j=true):=by
 have:=UQ ops.toList [] i o (by simpa using a) j (by simpa using b);simpa using this
def Closed(ops:Array Oper)(L:Nat->Bool):Prop :=∀(i:Nat)(o:Oper),L i=true->ops[i]?=some o ->∀e∈eg o,L e=true
def sk{ops:Array Oper}{L:Nat->Bool}(k:Closed ops L) : ∀(i:Nat)(o:Oper),ops[i]?=some o->(∀e∈eg o,L e=true) ->∀j,((cW ops.toList []).getD i 0).testBit j=true->L j=true:=by
 intro i;induction i using Nat.strongRecOn with | ind i l=>
 intro o d b j f;obtain⟨e,he,h | ⟨c,h⟩⟩:=XQ d f;·rw[h];exact b e he
 have hi:i<ops.size:=(gv.1 d).1;have a:ops[e]?=some (ops[e]'(by omega)):=iG (by omega);exact l e c _ a (k e _ (b e he) a) j h
structure RegB (ops:Array Oper):Prop where
 edges : ∀(i:Nat)(o:Oper),ops[i]?=some o ->∀e∈eg o,e<i
 distinct : ∀(i j:Nat)(oi oj:Oper)(d:Tmp),ops[i]?=some oi->ops[j]?=some oj->oi.dst=some d->oj.dst=some d->i=j
 reads : ∀(i j:Nat)(oi oj:Oper)(d:Tmp),ops[i]?=some oi->ops[j]?=some oj->j≠i->oj.dst=some d->d∈oi.looksAt ops->(j<i/\((cW ops.toList []).getD i 0).testBit j=true)\/(i<j/\((cW ops.toList []).getD j 0).testBit i=true)
structure SF (E:Env) (ops:Array Oper):Prop extends RegB ops where
 site : ∀(i:Nat)(o:Oper),ops[i]?=some o->tH E o=true->fQ E o=false->o.dst.isSome=true
 writes : ∀(i j:Nat)(oi oj:Oper),ops[i]?=some oi->ops[j]?=some oj->j<i->tH E oi=true->tH E oj=true->lk E ops i=true->((cW ops.toList []).getD i 0).testBit j=true
def M4{E:Env}{ops:Array Oper}{i j:Nat}{o:Oper}(a:ops[j]?=some o)(b:fQ E o=true)(c:j<=i):lk E ops i=true:=by
 unfold lk;rw[GF];exact⟨j,sE.2 (by omega),by rw[a];exact b⟩
def nS{E:Env}{ops:Array Oper}{i:Nat}(h:lk E ops i=false){j:Nat}{o:Oper}(b:ops[j]?=some o)(a:j<=i):fQ E o=false:=by
 cases hw:fQ E o with| false=>rfl| true=>rw[M4 b hw a]at h;cases h
def aaj{E:Env}{ops:Array Oper}{i:Nat}(h:lk E ops i=true) : ∃j o,j<=i/\ops[j]?=some o/\fQ E o=true:=by
 unfold lk at h;rw[GF]at h;obtain⟨k,b,h⟩:=h;have c:=sE.1 b;split at h;·rename_i o a;exact⟨k,o,by omega,a,h⟩
 cases h
def Uf{E:Env}{ops:Array Oper}{i j:Nat}(h:lk E ops j=true)(b:j<=i):lk E ops i=true:=by
 unfold lk at h;rw[GF]at h;obtain⟨k,c,h⟩:=h;have d:=sE.1 c;split at h;·rename_i o a;exact M4 a h (by omega)
 cases h
def Nx{ops:Array Oper}(one : ∀(i:Nat)(o:Oper),ops[i]?=some o->(eg o).all (· < i)=true)
 (t : ∀(i j:Nat)(oi a:Oper),ops[i]?=some oi->ops[j]?=some a->j<i->uP ops (cW ops.toList []) oi a i j=true):RegB ops:=by
 have b : ∀(i j:Nat)(oi a:Oper),ops[i]?=some oi->ops[j]?=some a->j<i->(a.dst.isNone=true\/oi.dst≠a.dst)/\(∀d,a.dst=some d->d∈oi.looksAt ops->((cW ops.toList []).getD i 0).testBit j=true) /\
  (∀d,oi.dst=some d->d∈a.looksAt ops->((cW ops.toList []).getD i 0).testBit j=true):=by
  intro i j oi a hi k s;have:=t i j oi a hi k s;unfold uP at this;simp only[bD]at this;obtain⟨⟨c,m⟩,l⟩:=this;refine⟨?_,?_,?_⟩;·simpa using c
  ·intro d q p;rw[q]at m;simp only[lI,jH]at m;rcases m with m | m
   ·have:(oi.looksAt ops).contains d=true:=GK.2 p;rw[m]at this;cases this
   exact m
  intro d q p;rw[q]at l;simp only[lI,jH]at l;rcases l with l | l
  ·have:(a.looksAt ops).contains d=true:=GK.2 p;rw[l]at this;cases this
  exact l
 refine⟨?_,?_,?_⟩;·intro i o v e x;have:=one i o v;simp only[eC,iQb]at this;exact this e x
 ·intro i j oi a d hi k f n;rcases Be i j with h | h | h
  ·exfalso;rcases(b j i a oi k hi h).1 with c | c
   ·rw[f]at c;cases c
   exact c (by rw[f,n])
  ·exact h
  exfalso;rcases(b i j oi a hi k h).1 with c | c
  ·rw[n]at c;cases c
  exact c (by rw[f,n])
 intro i j oi a d hi k u q p;rcases Kl u with h | h
 ·exact .inl ⟨h,(b i j oi a hi k h).2.1 d q p⟩
 exact .inr ⟨h,(b j i a oi k hi h).2.2 d q p⟩
def IS{E:Env}{ops:Array Oper}(h:z6 E ops=true):SF E ops:=by
 unfold z6 at h;simp only[eC,sE]at h;have one : ∀(i:Nat)(o:Oper),ops[i]?=some o->(eg o).all (· < i)=true/\(!tH E o||fQ E o||o.dst.isSome)=true /\∀(j:Nat)(d:Oper),j<i->ops[j]?=some d->Le E ops (cW ops.toList []) o d i j=true:=by
  intro i o k;have hi:i<ops.size:=(gv.1 k).1;have:=h i hi;rw[k]at this;simp only[bD,eC,sE]at this;refine⟨by simpa using this.1.1,by simpa using this.1.2,λj d f m=>?_⟩;have l:=this.2 j f;rw[m]at l;exact l
 have split : ∀(i j:Nat)(oi d:Oper),ops[i]?=some oi->ops[j]?=some d->j<i->uP ops (cW ops.toList []) oi d i j=true/\(tH E oi=true->tH E d=true->lk E ops i=true->((cW ops.toList []).getD i 0).testBit j=true):=by
  intro i j oi d hi f e;have:=(one i oi hi).2.2 j d e f;unfold Le at this;rw[bD]at this;refine⟨this.1,λa b c=>?_⟩;have n:=this.2;rw[a,b,c]at n;simpa using n
 refine⟨Nx (λi o k=>(one i o k).1) λi j oi d hi f e=>(split i j oi d hi f e).1,?_,λi j oi d hi f e=>(split i j oi d hi f e).2⟩;intro i o k p l;have:=(one i o k).2.1;rw[p,l]at this;simpa using this
def D7{E:Env}{pc:FuncId->List AV->Option AV}{tc:qJ->List AV->ab->bU}{nt dep:Nat}{ops:Array Oper} : ∀(l:List Oper)(st a:St),lU E pc tc nt dep true ops l st=some a ->
 ∃f:Nat->St,f 0=st/\f l.length=a /\∀i o,l[i]?=some o->evalOp E pc tc nt dep true ops o (f i)=some (f (i+1)):=by
 intro l;induction l with
 | nil=>intro st a h;simp only[lU,du]at h;exact⟨λ_=>st,rfl,h,λi o hi=>by simp at hi⟩
 | cons o l j=>
  intro st a h;simp only[lU,LN]at h;split at h
  ·rename_i b e;obtain⟨f,k,c,d⟩:=j b a h;refine⟨λn=>match n with | 0=>st | n+1=>f n,rfl,c,?_⟩;intro i o' hi;cases i with
   | zero=>simp at hi;subst hi;simp only;rw[k];exact e
   | succ i=>exact d i o' (by simpa using hi)
  cases h
inductive abk (E:Env) (pc:FuncId->List AV->Option AV) (nt dep:Nat) (ops:Array Oper) (o:Oper) (st st2:St):Prop
 | no (hw:wanted ops st.tm o=some false) (tm':List AV) (ht:cG nt st.tm o.dst AV.undef=some tm') (he:st2=⟨tm',st.hp⟩)
 | quiet (hw:wanted ops st.tm o=some true) (x:AV) (bs:List aP) (hq:ca E pc true st.hp.get st.tm ⟨dep,o.dst.getD 0,st.hp.gen dep (o.dst.getD 0),0⟩ o=some (x,bs)) (tm':List AV)
  (ht:cG nt st.tm o.dst x=some tm') (he:st2=⟨tm',keyed ⟨dep,o.dst.getD 0,st.hp.gen dep (o.dst.getD 0),0⟩ 0 bs st.hp⟩)
 | write (hk:fQ E o=true)
def mT{E:Env}{pc:FuncId->List AV->Option AV}{tc:qJ->List AV->ab->bU}{nt dep:Nat}{ops:Array Oper}{o:Oper}{st a:St}(h:evalOp E pc tc nt dep true ops o st=some a):abk E pc nt dep ops o st a:=by
 unfold evalOp at h;split at h;·cases h
 ·rename_i c;simp only[bA]at h;obtain⟨tm',b,rfl⟩:=h;exact .no c tm' b rfl
 rename_i c;split at h;·rename_i x bs d;simp only[bA]at h;obtain⟨tm',b,rfl⟩:=h;exact .quiet c x bs (Ct d) tm' b rfl
 split at h;·cases h
 rename_i e;refine .write ?_;simpa using e
def Ih{E:Env}{o:Oper}(h:fQ E o=true):iJ o.op=true:=by
 unfold fQ at h;have d:((E.fI o||E.deep o)&&xK o.op)=true->iJ o.op=true:=by
  intro h;replace h:=(re.1 h).2;unfold xK at h;split at h;·rename_i a;rw[a];rfl
  cases h
 by_cases e:((E.fI o||E.deep o)&&xK o.op)=true;·exact d e
 replace h:=(Dp.1 h).resolve_right e;replace h:=(re.1 h).2;unfold Wc at h;split at h;·rename_i a;rw[a];rfl
 ·rename_i a;rw[a];rfl
 ·rename_i a;rw[a];rfl
 ·rename_i a;rw[a];rfl
 ·rename_i a;rw[a];rfl
 ·rename_i c a;rw[a];unfold iJ;split at h;·rename_i b;simp[b]
  ·rename_i b;simp[b]
  ·rename_i b;simp[b]
  ·rename_i b;simp[b]
  cases h
 cases h
def OB{E:Env}{pc:FuncId->List AV->Option AV}{g:cb}{tm:List AV}{r:Ref}{o:Oper}(d:iJ o.op=false){x:AV}{bs:List aP}(h:ca E pc true g tm r o=some (x,bs)) :
 bs=[] /\∀C r',ca E pc true C tm r' o=some (x,bs):=by
 have v : ∀ {y:Option AV},ik y=some (x,bs)->bs=[]:=λh=>(oZ h).2;unfold ca at h ⊢;simp only[tN,vZ,iQp,vu]at h ⊢;split at h;·exact⟨v h,λ_ _=>h⟩
 ·exact⟨v h,λ_ _=>h⟩
 ·refine⟨?_,λ_ _=>h⟩;unfold Ee at h;split at h;·exact v h
  ·exact v h
  cases h
 ·rename_i a;rw[a]at d;simp[iJ]at d
 ·rename_i a;rw[a]at d;simp[iJ]at d
 ·refine⟨?_,λ_ _=>h⟩;unfold lz at h;(repeat' split at h)<;>(try simp_all)<;>(try (obtain⟨_,_,_,h⟩:=h;exact h))
 ·rename_i a;rw[a]at d;simp[iJ]at d
 ·rename_i a;rw[a]at d;simp[iJ]at d
 ·refine⟨?_,λ_ _=>h⟩;unfold Bx at h;(repeat' split at h)<;>(try simp_all)<;>(try (obtain⟨_,_,_,h⟩:=h;exact h))
 ·refine⟨?_,λ_ _=>h⟩;unfold bE at h;(repeat' split at h)<;>first | exact v h | (simp_all;done)
 ·exact⟨v h,λ_ _=>h⟩
 ·rename_i a;rw[a]at d;simp[iJ]at d
 ·refine⟨?_,λ_ _=>h⟩;unfold vq at h;(repeat' split at h)<;>(try simp_all)<;>(try (obtain⟨_,_,_,h⟩:=h;exact h))
 ·refine⟨?_,λ_ _=>h⟩;unfold wy at h;(repeat' split at h)<;>(try simp_all)<;>(try (obtain⟨_,_,_,h⟩:=h;exact h))
 ·rename_i a;rw[a]at d;simp[iJ]at d
 ·rename_i a;rw[a]at d;simp[iJ]at d
 ·rename_i a;rw[a]at d;simp[iJ]at d
 ·rename_i a;rw[a]at d;simp[iJ]at d
 ·refine⟨?_,λ_ _=>h⟩;unfold iy at h;(repeat' split at h)<;>(try simp_all)<;>(try (obtain⟨_,_,_,h⟩:=h;exact h))
 ·refine⟨?_,λ_ _=>h⟩;unfold qN at h;(repeat' split at h)<;>first | exact v h | (simp_all;done)
 ·rename_i a;rw[a]at d;simp[iJ]at d
 ·refine⟨?_,λ_ _=>h⟩;unfold tk at h;(repeat' split at h)<;>first | exact v h | (simp_all;done)
 ·refine⟨?_,λ_ _=>h⟩;unfold yc at h;(repeat' split at h)<;>(try simp_all)<;>(try (obtain⟨_,_,_,h⟩:=h;exact h))
 ·refine⟨?_,λ_ _=>h⟩;unfold qy at h;(repeat' split at h)<;>first | exact v h | (simp_all;done)
 ·rename_i c a;rw[a]at d;simp only[iJ]at d;split at h;·cases h
  rename_i args e;split at h;·rename_i f;rw[f]at d;simp at d
  ·cases h
  rename_i b f;rw[f]at d;unfold dX at h;split at h;·have j:Ly c=false:=(by simpa using d);unfold Ly at j;rw[j]at h;simp at h
  ·rename_i k;refine⟨?_,λ_ _=>by simpa [e,f,dX] using h⟩;unfold Fl at h;(repeat' split at h)<;>(try simp_all)<;>(try (obtain⟨_,_,_,h⟩:=h;exact h))<;>(try (obtain⟨n,_,h⟩:=fH.1 h;simp at h;exact h.2))
  ·exact⟨v h,λ_ _=>by simpa [e,f,dX] using h⟩
  ·exact⟨v h,λ_ _=>by simpa [e,f,dX] using h⟩
  ·simp at d
  ·simp at d
  cases h
 cases h
def Jl{o:Op}(h:Jm o=true) : ∃c,o = .call c/\c.callee = .builtin .len:=by
 unfold Jm at h;split at h
 ·rename_i c;split at h;·rename_i a;exact⟨c,rfl,a⟩
  cases h
 cases h
def fL{E:Env}{o:Oper}(h:fQ E o=true):tH E o=true:=by
 unfold tH;rw[Ih h,kX];cases d:Jm o.op with
 | false=>simp
 | true=>exfalso;obtain⟨c,a,b⟩:=Jl d;simp[fQ,a,Wc,b,xK]at h
def uu{E:Env}{pc:FuncId->List AV->Option AV}{g:cb}{tm:List AV}{r:Ref}{o:Oper}(b:tH E o=false){x:AV}{bs:List aP}(h:ca E pc true g tm r o=some (x,bs)) :
 bs=[] /\∀C r',ca E pc true C tm r' o=some (x,bs):=by
 cases hp:iJ o.op with| false=>exact OB hp h| true=>
  unfold tH at b;rw[hp,kX]at b;obtain⟨f,k⟩:=re.1 (by simpa using b:(E.strict o&&Jm o.op)=true);obtain⟨c,d,j⟩:=Jl k;unfold ca at h ⊢;simp only[d,j,f,Bb,yv]at h ⊢;split at h;·cases h
  rename_i args a;unfold dX at h ⊢;split at h;·simp at h
  ·rename_i y e;refine⟨?_,λ_ _=>?_⟩;·unfold Fl at h;(repeat' split at h)<;>(try simp_all)<;>(try (obtain⟨_,_,_,h⟩:=h;exact h))<;>(try (obtain⟨n,_,h⟩:=fH.1 h;simp at h;exact h.2))
   exact h
  all_goals (first | cases h | simp_all)
end
section
def eY(ops:Array Oper)(dep:Nat)(sts:Nat->St)(i:Nat):Ref:=⟨dep,(gT ops i).getD 0,(sts i).hp.gen dep ((gT ops i).getD 0),0⟩
def newAt(E:Env)(pc:FuncId->List AV->Option AV)(ops:Array Oper)(dep:Nat)(sts:Nat->St)(i:Nat):List aP:=
 match ops[i]? with
 | none=>[]
 | some o=>if tH E o && !lk E ops i then
  match wanted ops (sts i).tm o with
  | some true=>(match ca E pc true (sts i).hp.get (sts i).tm (eY ops dep sts i) o with
   | some (_,bs)=>bs
   | none=>[])
  | _=>[]
  else []
def gF(a:cb)(key:Nat->Ref)(new:Nat->List aP)(L:Nat->Bool):Nat->cb
 | 0=>a
 | i+1=>if L i then pX (gF a key new L i) (key i) (new i) else gF a key new L i
def mt(key:Nat->Ref)(new:Nat->List aP)(i:Nat)(q:Ref):Prop:=q.d=(key i).d/\q.t=(key i).t/\q.g=(key i).g/\q.k<(new i).length
def ql{a:cb}{key:Nat->Ref}{new:Nat->List aP}{L:Nat->Bool}{q:Ref} : ∀n,(∀i,i<n->L i=true ->¬mt key new i q)->gF a key new L n q=a q:=by
 intro n;induction n with
 | zero=>intro _;rfl
 | succ n b=>
  intro h;simp only[gF];split;·rename_i c;exact(if_neg (h n (oU n) c)).trans (b λi hi=>h i (yV hi))
  exact b λi hi=>h i (yV hi)
def zn{c:cb}{key:Nat->Ref}{new:Nat->List aP}{L:Nat->Bool}{q:Ref}(a : ∀i j,mt key new i q->mt key new j q->i=j){i:Nat}(d:mt key new i q)(l:L i=true) :
 ∀n,i<n->gF c key new L n q=(new i)[q.k]?:=by
 intro n;induction n with
 | zero=>intro h;omega
 | succ n e=>
  intro h;simp only[gF];by_cases b:i=n;·subst b;rw[if_pos l];exact if_pos d
  have:gF c key new L n q=(new i)[q.k]?:=e (by omega);split;·exact(if_neg (λf=>b (a i n d f))).trans this
  exact this
section
variable{E:Env}{pc:FuncId->List AV->Option AV}{tc:qJ->List AV->ab->bU}{nt dep:Nat}{ops:Array Oper}{sts:Nat->St}
def TS(ops:Array Oper)(sts:Nat->St)(L:Nat->Bool)(tm:List AV):Prop:=
 ∀t,(∀i,i<ops.size->L i=true->gT ops i=some t->dc tm t=dc (sts (i+1)).tm t)/\((∀i,i<ops.size->L i=true->gT ops i≠some t)->dc tm t=dc (sts 0).tm t)
def sH{tm tm':List AV}{dst:Option Tmp}{x:AV}(h:cG nt tm dst x=some tm')(t:Nat):dc tm' t=if dst=some t then x else dc tm t:=by
 unfold cG at h;split at h;·injection h with h;subst h;simp
 rename_i d;obtain⟨_,h⟩:=dH.1 h;injection h with h
 subst h;rw[rF];by_cases a:t=d;·subst a;simp
 rw[if_neg a,if_neg (by intro e;injection e with e;exact a e.symm)]
def jP{tm tm' tm1:List AV}{dst:Option Tmp}{x:AV}(h:cG nt tm dst x=some tm') : ∃a,cG nt tm1 dst x=some a:=by
 unfold cG at h ⊢;cases dst with
 | none=>exact⟨_,rfl⟩
 | some d=>simp only at h ⊢;obtain⟨b,_⟩:=dH.1 h;rw[if_pos b];exact⟨_,rfl⟩
def ID{o:Oper}{i:Nat}(A:evalOp E pc tc nt dep true ops o (sts i)=some (sts (i+1))) : ∃x,cG nt (sts i).tm o.dst x=some (sts (i+1)).tm:=by
 unfold evalOp at A;split at A;·cases A
 ·simp only[bA]at A;obtain⟨tm',a,he⟩:=A;exact⟨_,by rw[<-he];exact a⟩
 split at A;·simp only[bA]at A;obtain⟨tm',a,he⟩:=A;exact⟨_,by rw[<-he];exact a⟩
 split at A;·cases A
 split at A;·simp only[bA]at A;obtain⟨tm',a,he⟩:=A;exact⟨_,by rw[<-he];exact a⟩
 cases A
section
variable(B:RegB ops)(A : ∀i o,ops[i]?=some o->evalOp E pc tc nt dep true ops o (sts i)=some (sts (i+1)))
include B A
omit A in
theorem R3{i j:Nat}{t:Nat}(hi:gT ops i=some t)(a:gT ops j=some t):i=j:=by
 simp only[gT,fH]at hi a;obtain⟨oi,c,f⟩:=hi;obtain⟨d,e,b⟩:=a;exact B.distinct i j oi d t c e f b
theorem G4 : ∀i,i<=ops.size->TS ops sts (λj=>decide (j<i)) (sts i).tm:=by
 intro i;induction i with
 | zero=>intro _ t;exact⟨λj _ d=>by simp at d,λ_=>rfl⟩
 | succ i u=>
  intro l t;have f:i<ops.size:=l;have m:=iG f;obtain⟨x,s⟩:=ID (A i _ m);have n:gT ops i=ops[i].dst:=by simp[gT,m]
  have p:=sH s t;obtain⟨q,v⟩:=u (by omega) t;refine⟨λj d a h=>?_,λk=>?_⟩
  ·simp only[iQb]at a;by_cases c:j=i;·subst c;rfl
   have b:ops[i].dst≠some t:=(by intro e;rw[<-n]at e;exact c (R3 B h e));rw[p,if_neg b];exact q j d (by simp;omega) h
  have b:ops[i].dst≠some t:=by rw[<-n];exact k i f (by simp)
  rw[p,if_neg b];exact v λj d a=>k j d (by simp at a ⊢;omega)
theorem Ea{L:Nat->Bool}(s:Closed ops L){i:Nat}{o:Oper}(p:ops[i]?=some o)(hi:L i=false)(q : ∀e∈eg o,L e=true){tm:List AV}(I:TS ops sts L tm){t:Nat}(v:t∈o.looksAt ops) :
 dc tm t=dc (sts i).tm t:=by
 have F:i<ops.size:=(gv.1 p).1;obtain⟨D,H⟩:=I t;obtain⟨x,z⟩:=G4 B A i (by omega) t;by_cases k : ∃j,j<ops.size/\L j=true/\gT ops j=some t
 ·obtain⟨j,l,a,c⟩:=k;have b:=c;simp only[gT,fH]at b;obtain⟨n,f,h⟩:=b;have u:j≠i:=by intro e;rw[e,hi]at a;cases a
  rcases B.reads i j o n t p f u h v with ⟨m,_⟩ | ⟨_,d⟩
  ·rw[D j l a c,x j l (by simpa using m) c]
  have:=sk s j n f (λe y=>s j n a f e y) i d;rw[hi]at this;cases this
 rw[H λj l a c=>k ⟨j,l,a,c⟩];refine(z λj l a c=>?_).symm;simp only[iQb]at a;have b:=c;simp only[gT,fH]at b;obtain⟨n,f,h⟩:=b;rcases B.reads i j o n t p f (by omega) h v with ⟨_,d⟩ | ⟨G,_⟩
 ·exact k ⟨j,l,sk s i o p q j d,c⟩
 omega
omit A in
theorem rj{L u:Nat->Bool}{i:Nat}{o:Oper}(s:ops[i]?=some o)(b : ∀j,u j=true↔(L j=true\/j=i))(hi:L i=false){tm tm':List AV}(F:TS ops sts L tm){x:AV}(v:cG nt (sts i).tm o.dst x=some (sts (i+1)).tm)
 (l:cG nt tm o.dst x=some tm'):TS ops sts u tm':=by
 intro t;have n:i<ops.size:=(gv.1 s).1;have p:gT ops i=o.dst:=by simp[gT,s]
 obtain⟨z,D⟩:=F t;have y:=sH v t;have q:=sH l t;refine⟨λj k c a=>?_,λf=>?_⟩
 ·rcases(b j).1 c with h | h
  ·have m:j≠i:=by intro e;rw[e,hi]at h;cases h
   have d:o.dst≠some t:=by rw[<-p];intro e;exact m (R3 B a e)
   rw[q,if_neg d];exact z j k h a
  subst h;rw[p]at a;rw[q,if_pos a,y,if_pos a]
 have d:o.dst≠some t:=by rw[<-p];exact f i n ((b i).2 (.inr rfl))
 rw[q,if_neg d];exact D λj k c=>f j k ((b j).2 (.inl c))
end
variable(B:SF E ops)(A : ∀i o,ops[i]?=some o->evalOp E pc tc nt dep true ops o (sts i)=some (sts (i+1)))
include B A
abbrev aat(ops:Array Oper)(dep:Nat)(sts:Nat->St):Nat->Ref:=eY ops dep sts
omit B A in
theorem qA{i:Nat}(h:newAt E pc ops dep sts i≠[]) : ∃o,ops[i]?=some o/\tH E o=true/\lk E ops i=false:=by
 unfold newAt at h;split at h;·exact absurd rfl h
 rename_i o b;split at h;·rename_i a;simp only[bD,jH]at a;exact⟨o,b,a.1,a.2⟩
 exact absurd rfl h
omit A in
theorem Ho{q:Ref}(i j:Nat)(h:mt (eY ops dep sts) (newAt E pc ops dep sts) i q)(f:mt (eY ops dep sts) (newAt E pc ops dep sts) j q):i=j:=by
 have ne : ∀ {i},mt (eY ops dep sts) (newAt E pc ops dep sts) i q->newAt E pc ops dep sts i≠[]:=by
  intro i h e;have:=h.2.2.2;rw[e]at this;simp at this
 obtain⟨oi,d,u,s⟩:=qA (ne h);obtain⟨k,c,n,m⟩:=qA (ne f);obtain⟨l,a⟩:=fP.1 (B.site i oi d u (nS s d (aV _)));obtain⟨x,b⟩:=fP.1 (B.site j k c n (nS m c (aV _)));have p:q.t=l:=by have:=h.2.1;simpa [eY,gT,d,a] using this
 have v:q.t=x:=by have:=f.2.1;simpa [eY,gT,c,b] using this
 exact B.distinct i j oi k l d c a (by rw[b,<-p,<-v])
def Vs(E:Env)(ops:Array Oper)(n:Nat):Prop :=∀j o,j<n->ops[j]?=some o->fQ E o=false
omit B A in
theorem Rk{n:Nat}(c:Vs E ops (n+1)):lk E ops n=false:=by
 cases h:lk E ops n with| false=>rfl| true=>
  unfold lk at h;rw[GF]at h;obtain⟨k,d,h⟩:=h;have a:=sE.1 d;split at h;·rename_i o b;rw[c k o a b]at h;cases h
  cases h
omit B in
theorem G6{n:Nat}(s:n<=ops.size)(c:Vs E ops n):(sts n).hp.get=gF (sts 0).hp.get (eY ops dep sts) (newAt E pc ops dep sts) (λ_=>true) n:=by
 induction n with| zero=>rfl| succ n p=>
  have b:=iG (show n<ops.size from s);have d:=p (by omega) (λj o t=>c j o (by omega));simp only[gF,if_true];rw[<-d];have m:gT ops n=ops[n].dst:=by simp[gT,b]
  have k:eY ops dep sts n=⟨dep,ops[n].dst.getD 0,(sts n).hp.gen dep (ops[n].dst.getD 0),0⟩:=(by simp[eY,m]);rcases mT (A n _ b)with ⟨a,tm',l,he⟩ | ⟨a,x,bs,h,tm',l,he⟩ | e
  ·have:newAt E pc ops dep sts n=[]:=(by unfold newAt;rw[b];simp only[a];split<;>rfl);rw[this,lP,he]
  ·have f:=Rk c;rw[he];simp only;rw[ab.lA,<-k];congr 1;unfold newAt;rw[b];simp only[a,k,h,f,sF,yv];cases q:tH E ops[n] with
   | true=>rfl
   | false=>rw[(uu q h).1];rfl
  exact absurd e (by rw[c n _ (oU n) b];simp)
omit B in
theorem Iy{n:Nat}(H:n<=ops.size)(s:Vs E ops n)(d t:Nat):(sts 0).hp.gen d t<=(sts n).hp.gen d t /\
 ((∀j,j<n->newAt E pc ops dep sts j≠[] ->¬(d=dep/\t=(gT ops j).getD 0))->(sts n).hp.gen d t=(sts 0).hp.gen d t) /\
 ∀j,j<n->newAt E pc ops dep sts j≠[]->d=dep->t=(gT ops j).getD 0->(eY ops dep sts j).g<(sts n).hp.gen d t:=by
 induction n with| zero=>exact⟨aV _,λ_=>rfl,λj k=>by omega⟩| succ n K=>
  have l:=iG (show n<ops.size from H);obtain⟨i1,i2,i3⟩:=K (by omega) (λj o k=>s j o (by omega));have z:gT ops n=ops[n].dst:=by simp[gT,l]
  have F:eY ops dep sts n=⟨dep,ops[n].dst.getD 0,(sts n).hp.gen dep (ops[n].dst.getD 0),0⟩:=(by simp[eY,z]);have same:(sts (n+1)).hp=(sts n).hp->newAt E pc ops dep sts n=[]->(sts 0).hp.gen d t<=(sts (n+1)).hp.gen d t /\
   ((∀j,j<n+1->newAt E pc ops dep sts j≠[] ->¬(d=dep/\t=(gT ops j).getD 0))->(sts (n+1)).hp.gen d t=(sts 0).hp.gen d t) /\
   ∀j,j<n+1->newAt E pc ops dep sts j≠[]->d=dep->t=(gT ops j).getD 0->(eY ops dep sts j).g<(sts (n+1)).hp.gen d t:=by
   intro G I;rw[G];refine⟨i1,λh=>i2 λj k=>h j (by omega),λj k a=>?_⟩;have:j≠n:=by intro e;rw[e]at a;exact a I
   exact i3 j (by omega) a
  rcases mT (A n _ l)with ⟨f,tm',J,he⟩ | ⟨f,x,bs,D,tm',J,he⟩ | u
  ·refine same (by rw[he]) ?_;unfold newAt;rw[l];simp only[f];split<;>rfl
  ·have v:=Rk s;have m:newAt E pc ops dep sts n=bs:=by
    unfold newAt;rw[l];simp only[f,F,D,v,sF,yv];cases L:tH E ops[n] with
    | true=>rfl
    | false=>rw[(uu L D).1];rfl
   by_cases p:bs=[];·refine same ?_ (by rw[m,p]);rw[he,p];rfl
   rw[he];simp only;rw[ab.kG];simp only[ne_eq,p,not_false_eq_true,iQr];by_cases b:d=dep/\t=ops[n].dst.getD 0
   ·rw[if_pos b];obtain⟨rfl,rfl⟩:=b;refine⟨by omega,λh=>?_,λj k a y q=>?_⟩;·exact absurd ⟨rfl,by rw[z]⟩ (h n (oU n) (by rw[m];exact p))
    by_cases c:j=n;·rw[c,F];exact oU _
    have:=i3 j (by omega) a rfl q;omega
   rw[if_neg b];refine⟨i1,λh=>i2 λj k=>h j (by omega),λj k a y q=>?_⟩;by_cases c:j=n;·subst c;exact absurd ⟨y,by rw[q,z]⟩ b
   exact i3 j (by omega) a y q
  exact absurd u (by rw[s n _ (oU n) l];simp)
theorem F8{ι:Map}(x:p8 ι (sts 0).hp){i:Nat}{o:Oper}(c:ops[i]?=some o)(v:tH E o=true)(m:fQ E o=false)(t:Vs E ops i)(k:Nat):ι { eY ops dep sts i with k:=k}=none:=by
 have hi:i<ops.size:=(gv.1 c).1;obtain⟨d,p⟩:=fP.1 (B.site i o c v m);have l:gT ops i=some d:=by simp[gT,c,p]
 obtain⟨_,u,_⟩:=Iy (pc:=pc) (tc:=tc) (nt:=nt) (dep:=dep) A (gK hi) t dep d;have y:(sts i).hp.gen dep d=(sts 0).hp.gen dep d:=u λj D f q=>by
  obtain⟨n,a,h,e⟩:=qA f;obtain⟨z,b⟩:=fP.1 (B.site j n a h (nS e a (aV _)));have:d=z:=by have:=q.2;simpa [gT,a,b] using this
  exact absurd (B.distinct i j o n d c a p (by rw[b,this])) (by omega)
 have s:eY ops dep sts i=⟨dep,d,(sts 0).hp.gen dep d,0⟩:=by simp[eY,l,y]
 rw[s];exact x.fresh dep d k
end
end
section
def xJ{ops:Array Oper}{o:Oper}{tm tm':List AV}(h : ∀t∈o.looksAt ops,dc tm t=dc tm' t):rC tm tm' o.op.operands.toList:=by
 intro x a;cases x with
 | tmp t=>simp only[ar];rw[h t];unfold Oper.looksAt;exact B0 _ (List.mem_filterMap.2 ⟨_,a,rfl⟩)
 | _=>rfl
def uX{ops:Array Oper}{o:Oper}{tm tm':List AV}(h : ∀t∈o.looksAt ops,dc tm t=dc tm' t):wanted ops tm o=wanted ops tm' o:=by
 unfold wanted;cases c:o.guard with
 | none=>rfl
 | some p=>
  obtain⟨j,b⟩:=p;simp only;cases a:(ops[j]?).bind (·.dst) with
  | none=>rfl
  | some t=>simp only;rw[h t];unfold Oper.looksAt;rw[c];simp[a]
def Cv{p p':Nat->Bool}{i:Nat}(b : ∀j,p' j=true->p j=true)(f:p i=true)(d:p' i=false) : ∀l:List Nat,i∈l->l.countP p'<l.countP p:=by
 intro l hi;have mono : ∀l:List Nat,l.countP p'<=l.countP p:=λl=>List.countP_mono_left λx _=>b x;induction l with
 | nil=>cases hi
 | cons a l e=>
  simp only[List.countP_cons];by_cases c:a=i;·subst c;have:=mono l;rw[f,d];simp;omega
  have:=e (by simpa [pF c] using hi);have h:(if p' a=true then 1 else 0)<=(if p a=true then 1 else 0):=by
   by_cases hp:p' a=true;·rw[if_pos hp,if_pos (b a hp)];exact aV _
   rw[if_neg hp];exact uT _
  omega
def Ge{E:Env}{pc:FuncId->List AV->Option AV}{tc:qJ->List AV->ab->bU}{nt dep:Nat}{ops:Array Oper}{o:Oper}{st c:St}{tm1:List AV}(h : ∀t∈o.looksAt ops,dc tm1 t=dc st.tm t)
 (a:evalOp E pc tc nt dep true ops o st=some c) : ∃x b,cG nt st.tm o.dst x=some c.tm/\cG nt tm1 o.dst x=some b/\evalOp E pc tc nt dep true ops o ⟨tm1,st.hp⟩=some ⟨b,c.hp⟩:=by
 have e:=xJ h;have f:=uX h;unfold evalOp at a ⊢;simp only;rw[f,O3 e,O2 e];have d : ∀ {x:AV} {H:ab},(cG nt st.tm o.dst x).map (λtm=>(⟨tm,H⟩:St))=some c ->∃m b,cG nt st.tm o.dst m=some c.tm/\cG nt tm1 o.dst m=some b/\(cG nt tm1 o.dst x).map (λtm=>(⟨tm,H⟩:St))=some ⟨b,c.hp⟩:=by
  intro x H n;obtain⟨tm',k,rfl⟩:=bA.1 n;obtain⟨b,j⟩:=jP (tm1:=tm1) k;exact⟨x,b,k,j,by rw[j];rfl⟩
 revert a;generalize wanted ops st.tm o=W;generalize qQ E pc true st.hp.get st.tm ⟨dep,o.dst.getD 0,st.hp.gen dep (o.dst.getD 0),0⟩ o=X;generalize pU E pc tc true st.hp st.tm ⟨dep,o.dst.getD 0,st.hp.gen dep (o.dst.getD 0),0⟩ o=Y;intro a;rcases W with _ | ⟨_ | _⟩
 ·cases a
 ·exact d a
 rcases X with _ | ⟨x,bs⟩
 ·simp only at a ⊢;by_cases l:(true && !fQ E o)=true;·rw[if_pos l]at a;cases a
  rw[if_neg l]at a ⊢;rcases Y with _ | ⟨x,H⟩
  ·cases a
  exact d a
 exact d a
section
variable{E:Env}{pc:FuncId->List AV->Option AV}{tc:qJ->List AV->ab->bU}{nt dep:Nat}{ops:Array Oper}{sts:Nat->St}
variable(B:SF E ops)(A : ∀i o,ops[i]?=some o->evalOp E pc tc nt dep true ops o (sts i)=some (sts (i+1)))
abbrev gL(E:Env)(pc:FuncId->List AV->Option AV)(ops:Array Oper)(dep:Nat)(sts:Nat->St)(L:Nat->Bool)(n:Nat):cb:=gF (sts 0).hp.get (eY ops dep sts) (newAt E pc ops dep sts) L n
structure SI (E:Env) (pc:FuncId->List AV->Option AV) (ops:Array Oper) (dep:Nat) (sts:Nat->St) (M:Mem) (ι:Map) (w:World) (L:Nat->Bool) (M1:Mem) (ι1:Map) (w1:World):Prop where
 quiet : ∀i o,L i=true->ops[i]?=some o->tH E o=true->lk E ops i=false
 sim:fk M1 ι1 (gL E pc ops dep sts L ops.size) w1
 fwd:qX M ι (sts 0).hp.get w M1 ι1 (gL E pc ops dep sts L ops.size) w1
 dom : ∀q,ι q=none->(∀i,i<ops.size->L i=true ->¬mt (eY ops dep sts) (newAt E pc ops dep sts) i q)->ι1 q=none
structure Late (E:Env) (ops:Array Oper) (sts:Nat->St) (M:Mem) (ι:Map) (w:World) (L:Nat->Bool) (M1:Mem) (ι1:Map) (w1:World) (k:Nat):Prop where
 le:k<=ops.size
 wrote : ∃j o,j<k/\ops[j]?=some o/\fQ E o=true
 upto : ∀i o,ops[i]?=some o->tH E o=true->(L i=true↔i<k)
 sim:fk M1 ι1 (sts k).hp.get w1
 dom:p8 ι1 (sts k).hp
 fwd:qX M ι (sts 0).hp.get w M1 ι1 (sts k).hp.get w1
structure Inv (E:Env) (pc:FuncId->List AV->Option AV) (nt:Nat) (ops:Array Oper) (dep:Nat) (sts:Nat->St) (M:Mem) (ι:Map) (w:World) (ds:List Deferred) (L:Nat->Bool) (a1:Act) (w1:World):Prop where
 closed:Closed ops L
 defers:a1.defers=ds
 at_ : ∃M1 ι1 tm1,TS ops sts L tm1/\TR M1 ι1 tm1 a1/\a1.tmps.size=nt/\(SI E pc ops dep sts M ι w L M1 ι1 w1 \/∃k,Late E ops sts M ι w L M1 ι1 w1 k)
theorem Closed.next{L d:Nat->Bool}{i:Nat}{o:Oper}(m:Closed ops L)(k:ops[i]?=some o)(c : ∀e∈eg o,L e=true)(b : ∀j,d j=true↔(L j=true\/j=i)):Closed ops d:=by
 intro j n l a e f;rcases(b j).1 l with h | h
 ·exact(b e).2 (.inl (m j n h a e f))
 subst h;rw[k]at a;injection a with a
 subst a;exact(b e).2 (.inl (c e f))
theorem OP(r:Ref)(H:ab):keyed r 0 [] H=H:=rfl
include A in
theorem Js{k:Nat} : ∀n,k<=n->n<=ops.size->(∀j o,k<=j->j<n->ops[j]?=some o->tH E o=false)->(sts n).hp=(sts k).hp:=by
 intro n;induction n with
 | zero=>intro h _ _;rw[Df.1 h]
 | succ n q=>
  intro t s h;rcases dT n k with m | c
  ·rw[show k=n+1 by omega]
  have f:=iG (show n<ops.size from s);have d:=h n _ c (oU n) f;rw[<-q c (by omega) λj o a b=>h j o a (by omega)];rcases mT (A n _ f)with ⟨_,tm',l,he⟩ | ⟨_,x,bs,p,tm',l,he⟩ | e
  ·rw[he]
  ·rw[he,(uu d p).1];rfl
  rw[fL e]at d;cases d
theorem Rj{i:Nat}{o:Oper}(d:ops[i]?=some o)(e:tH E o=true)(a:lk E ops i=false):Vs E ops i:=
 λj f c b=>nS a b (gK c)
include B A in
theorem Rn{ι:Map}(h:p8 ι (sts 0).hp){i:Nat}{q:Ref}(d:mt (eY ops dep sts) (newAt E pc ops dep sts) i q):ι q=none:=by
 have c:newAt E pc ops dep sts i≠[]:=by
  intro e;have:=d.2.2.2;rw[e]at this;simp at this
 obtain⟨o,b,f,a⟩:=qA c;have:=F8 (pc:=pc) (tc:=tc) (nt:=nt) B A h b f (nS a b (aV _)) (Rj b f a) q.k;rwa [show({ eY ops dep sts i with k:=q.k}:Ref)=q by
  obtain⟨l,n,m,j⟩:=d;cases q;simp_all]at this
include B in
theorem RP{L l:Nat->Bool}{i:Nat}(hi:i<ops.size)(d : ∀j,l j=true↔(L j=true\/j=i)):gL E pc ops dep sts l ops.size=pX (gL E pc ops dep sts L ops.size) (eY ops dep sts i) (newAt E pc ops dep sts i):=by
 funext q;unfold pX;have c : ∀i j,mt (eY ops dep sts) (newAt E pc ops dep sts) i q->mt (eY ops dep sts) (newAt E pc ops dep sts) j q->i=j:=λi j=>Ho B i j;split;·rename_i k;exact zn c (i:=i) k ((d i).2 (.inr rfl)) ops.size hi
 rename_i k;by_cases e : ∃j,j<ops.size/\L j=true/\mt (eY ops dep sts) (newAt E pc ops dep sts) j q;·obtain⟨j,f,b,a⟩:=e;rw[gL,zn c a ((d j).2 (.inl b)) _ f,gL,zn c a b _ f]
 rw[gL,ql,gL,ql];·intro j f b a;exact e ⟨j,f,b,a⟩
 intro j f b a;rcases(d j).1 b with h | h
 ·exact e ⟨j,f,h,a⟩
 subst h;exact k a
include B in
theorem Nd{L:Nat->Bool}{n:Nat}(v:n<=ops.size)(h : ∀j o,j<ops.size->ops[j]?=some o->tH E o=true->lk E ops j=false->(L j=true↔j<n)):gL E pc ops dep sts (λ_=>true) n=gL E pc ops dep sts L ops.size:=by
 funext q;have b : ∀i j,mt (eY ops dep sts) (newAt E pc ops dep sts) i q->mt (eY ops dep sts) (newAt E pc ops dep sts) j q->i=j:=λi j=>Ho B i j;have made : ∀ {j},mt (eY ops dep sts) (newAt E pc ops dep sts) j q ->∃o,ops[j]?=some o/\tH E o=true/\lk E ops j=false:=by
  intro j u;refine qA (pc:=pc) (dep:=dep) (sts:=sts) ?_;intro e;have:=u.2.2.2;rw[e]at this;simp at this
 by_cases k : ∃j,mt (eY ops dep sts) (newAt E pc ops dep sts) j q
 ·obtain⟨j,c⟩:=k;obtain⟨o,p,t,m⟩:=made c;have s:j<ops.size:=(gv.1 p).1;have d:=h j o s p t m;by_cases f:j<n;·rw[gL,zn b c rfl _ f,gL,zn b c (d.2 f) _ s]
  rw[gL,ql,gL,ql];·intro i hi l a;have:=b i j a c;subst this;exact f (d.1 l)
  intro i hi l a;have:=b i j a c;omega
 rw[gL,ql _ (λi _ _ a=>k ⟨i,a⟩),gL,ql _ (λi _ _ a=>k ⟨i,a⟩)]
include A in
theorem JP{M:Mem}{ι b:Map}(G:p8 ι (sts 0).hp){L:Nat->Bool}{n:Nat}(F:n<=ops.size)(z:Vs E ops n)
 (m : ∀q,ι q=none->(∀i,i<ops.size->L i=true ->¬mt (eY ops dep sts) (newAt E pc ops dep sts) i q)->b q=none)
 (u : ∀q l,ι q=some l->b q=some l) (h : ∀j o,j<ops.size->ops[j]?=some o->tH E o=true->lk E ops j=false->L j=true->j<n):p8 b (sts n).hp:=by
 intro q l v;obtain⟨H,J,y⟩:=Iy (pc:=pc) (tc:=tc) (nt:=nt) (dep:=dep) A F z q.d q.t;cases f:ι q with
 | some D=>exact zK (G q D f) H
 | none=>
  by_cases k : ∃i,i<ops.size/\L i=true/\mt (eY ops dep sts) (newAt E pc ops dep sts) i q;·obtain⟨i,hi,c,a⟩:=k;have p:newAt E pc ops dep sts i≠[]:=(by intro e;have:=a.2.2.2;rw[e]at this;simp at this);obtain⟨o,x,I,s⟩:=qA p;have:=y i (h i o hi x I s c) p a.1 a.2.1;rw[a.2.2.1];exact this
  rw[m q f λi hi c a=>k ⟨i,hi,c,a⟩]at v;cases v
variable{M:Mem}{ι:Map}{w:World}{ds:List Deferred}
include B A in
theorem RI(hpc : ∀f xs y,pc f xs=some y->iz E.P f xs y)(htc : ∀f xs H y H',tc f xs H=some (y,H')->kU E.P f xs H y H'){ro:Option Nat}{Q:Exit->Act->World->Prop}
 (hS0:fk M ι (sts 0).hp.get w) (hD0:p8 ι (sts 0).hp) {L L':Nat->Bool} {i:Nat} {o:Oper} (D:ops[i]?=some o) (hi:L i=false) (hed : ∀e∈eg o,L e=true)
 (n : ∀j,L' j=true↔(L j=true\/j=i)) {a1:Act} {w1:World} (hI:Inv E pc nt ops dep sts M ι w ds L a1 w1) {K:Act->World->Prop} (hK : ∀a' w',Inv E pc nt ops dep sts M ι w ds L' a' w'->K a' w') :
 if Region.wanted o (yielded ops a1.tmps) then o.wpIn (FW ro) 0 E.P a1 w1 K Q else K (a1.put o.dst undef) w1:=by
 obtain⟨hc,hds,M1,I,tm1,hTS,F,hnt,J⟩:=hI;have R:i<ops.size:=(gv.1 D).1;have hc':Closed ops L':=Closed.next hc D hed n;have W : ∀t∈o.looksAt ops,dc tm1 t=dc (sts i).tm t:=λt ht=>Ea B.toRegB A hc D hi hed hTS ht;have hag:=xJ W;have hwd:=uX W;have step:=A i o D;have anc:=sk hc i o D hed;cases hb:(tH E o&&lk E ops i) with
 | true=>
  obtain⟨O,hwk⟩:=re.1 hb;have G : ∀j d,j<i->ops[j]?=some d->tH E d=true->L j=true:=λj d S a c=>anc j (B.writes i j o d D a S O c hwk);have hO:vT M1 I ⟨tm1,(sts i).hp⟩ nt a1 w1/\qX M ι (sts 0).hp.get w M1 I (sts i).hp.get w1 /\∀j d,ops[j]?=some d->tH E d=true->(L j=true->j<i):=by
   rcases J with l | ⟨k,l⟩
   ·have T:Vs E ops i:=by
     intro j d S a;cases T:fQ E d with
     | false=>rfl
     | true=>have:=nS (l.quiet j d (G j d S a (fL T)) a (fL T)) a (aV _);rw[T]at this;cases this
    have hle : ∀j d,ops[j]?=some d->tH E d=true->(L j=true->j<i):=by
     intro j d a c p;rcases Be j i with h | h | h
     ·exact h
     ·subst h;rw[hi]at p;cases p
     have:=Uf hwk (gK h);rw[l.quiet j d p a c]at this;cases this
    have hg:(sts i).hp.get=gL E pc ops dep sts L ops.size:=(by rw[G6 (pc:=pc) A (gK R) T];exact Nd B (gK R) λj d S a c _=>⟨hle j d a c,λhji=>G j d hji a c⟩);refine⟨⟨by rw[hg];exact l.sim,?_,F,hnt⟩,by rw[hg];exact l.fwd,hle⟩;exact JP (M:=M) (tc:=tc) (nt:=nt) A hD0 (gK R) T l.dom l.fwd.map λj d _ a c _=>hle j d a c
   have hki:k<=i:=by
    rcases dT i k with h | h
    ·rw[(l.upto i o D O).2 h]at hi;cases hi
    exact h
   have hst:(sts i).hp=(sts k).hp:=Js A i hki (gK R) λj d hkj hji a=>by
    cases c:tH E d with| false=>rfl| true=>have:=(l.upto j d a c).1 (G j d hji a c);omega
   refine⟨⟨by rw[hst];exact l.sim,by rw[hst];exact l.dom,F,hnt⟩,by rw[hst];exact l.fwd,λj d a c p=>?_⟩;have:=(l.upto j d a c).1 p;omega
  obtain⟨hO,hF,hle⟩:=hO;obtain⟨x,m,hx,s,hev⟩:=Ge W step;refine BL (E:=E) (Q:=Q) hO hpc htc (λh=>by cases h) (.inl rfl) hev λa' w' ⟨⟨M',z,hO',hF'⟩,hd'⟩=>hK a' w' ⟨hc',hd'.trans hds,M',z,m,?_,hO'.tr,hO'.nt,.inr ⟨i+1,?_⟩⟩;·exact rj B.toRegB D n hi hTS hx s
  obtain⟨j0,o0,hj0,ho0,hw0⟩:=aaj hwk;refine⟨R,⟨j0,o0,by omega,ho0,hw0⟩,λj d a c=>⟨λS=>?_,λS=>?_⟩,hO'.sim,hO'.dom,hF.trans hF'⟩
  ·rcases(n j).1 S with h | h
   ·exact yV (hle j d a c h)
   omega
  rcases dT j i with h | h
  ·exact(n j).2 (.inl (G j d h a c))
  exact(n j).2 (.inr (by omega))
 | false=>
  have hnl:tH E o=true->lk E ops i=false:=(by intro O;rw[O,kX]at hb;exact hb);have hk:eY ops dep sts i=⟨dep,o.dst.getD 0,(sts i).hp.gen dep (o.dst.getD 0),0⟩:=(by simp[eY,gT,D]);have still : ∀(u:Value)(x:AV)(m:List AV)(w':World)(M':Mem)(z:Map),newAt E pc ops dep sts i=[]->(J:(SI E pc ops dep sts M ι w L M1 I w1->SI E pc ops dep sts M ι w L M' z w') /\∀k,Late E ops sts M ι w L M1 I w1 k->Late E ops sts M ι w L M' z w' k) ->
   (tH E o=false \/∀k,¬Late E ops sts M ι w L M1 I w1 k)->cG nt (sts i).tm o.dst x=some (sts (i+1)).tm->cG nt tm1 o.dst x=some m->TR M' z m (a1.put o.dst u)->(a1.put o.dst u).tmps.size=nt ->
   Inv E pc nt ops dep sts M ι w ds L' (a1.put o.dst u) w':=by
   intro u x m w' M' z hnil hcs V hx s htr hn;refine⟨hc',(put_defers _ _ _).trans hds,M',z,m,rj B.toRegB D n hi hTS hx s,htr,hn,?_⟩;rcases J with l | ⟨k,l⟩
   ·have N:=hcs.1 l;have hg:gL E pc ops dep sts L' ops.size=gL E pc ops dep sts L ops.size:=by rw[RP B R n,hnil,lP]
    refine .inl ⟨λj d S a c=>?_,by rw[hg];exact N.sim,by rw[hg];exact N.fwd,λq hq hno=>N.dom q hq λj S p=>hno j S ((n j).2 (.inl p))⟩;rcases(n j).1 S with h | h
    ·exact N.quiet j d h a c
    subst h;rw[D]at a;injection a with a;rw[<-a]at c;exact hnl c
   have N:=hcs.2 k l;refine .inr ⟨k,N.le,N.wrote,λj d a c=>?_,N.sim,N.dom,N.fwd⟩;rcases V with V | V
   ·rw[<-N.upto j d a c,n j];constructor
    ·rintro(h | h);·exact h
     subst h;rw[D]at a;injection a with a;rw[<-a,V]at c;cases c
    exact .inl
   exact absurd l (V k)
  have Z:tH E o=true ->∀k,¬Late E ops sts M ι w L M1 I w1 k:=by
   intro O k l;obtain⟨j,d,hjk,a,hwj⟩:=l.wrote;rcases dT i k with h | h
   ·rw[(l.upto i o D O).2 h]at hi;cases hi
   have:=M4 a hwj (show j<=i by omega);rw[hnl O]at this;cases this
  have V:tH E o=false \/∀k,¬Late E ops sts M ι w L M1 I w1 k:=by
   cases O:tH E o with| false=>exact .inl rfl| true=>exact .inr (Z O)
  rcases mT step with ⟨T,tm',ht,he⟩ | ⟨T,x,bs,hq,tm',ht,he⟩ | hwk'
  ·rw[<-hwd]at T;rw[iq F T];simp only[hU,iQf];have hx:cG nt (sts i).tm o.dst AV.undef=some (sts (i+1)).tm:=by rw[he];exact ht
   obtain⟨m,s⟩:=jP (tm1:=tm1) hx;obtain⟨h1,h2⟩:=F.put hnt s (u:=undef) (.v rfl);refine hK _ _ (still undef AV.undef m w1 M1 I ?_ ⟨id,λ_=>id⟩ V hx s h1 h2);unfold newAt;rw[D];rw[hwd]at T;simp only[T];split<;>rfl
  ·have hw':=T;rw[<-hwd]at T;rw[iq F T];simp only[if_true];have hx:cG nt (sts i).tm o.dst x=some (sts (i+1)).tm:=by rw[he];exact ht
   obtain⟨m,s⟩:=jP (tm1:=tm1) hx;cases O:tH E o with
   | false=>
    obtain⟨hbs,hall⟩:=uu O hq;subst hbs;have hnil:newAt E pc ops dep sts i=[]:=(by unfold newAt;rw[D];simp[O]);rcases J with l | ⟨k,l⟩
    ·have U : ∀k,I { (⟨dep+1,0,(sts 0).hp.gen (dep+1) 0,0⟩:Ref)with k:=k}=none:=λk=>l.dom _ (hD0.fresh _ _ k) λj _ _ hm=>by
      have:=hm.1;simp only[eY]at this;omega
     have hq':ca E pc true (gL E pc ops dep sts L ops.size) tm1 ⟨dep+1,0,(sts 0).hp.gen (dep+1) 0,0⟩ o=some (x,[]):=by rw[qE hag];exact hall _ _
     refine uD (E:=E) (o:=o) l.sim F rfl U hpc (λh=>by cases h) hq' ro K Q λu w' ⟨M',z,h1,h2,h3,h4⟩=>hK _ _ ?_;rw[lP]at h2 h3;obtain⟨h5,h6⟩:=(F.mono h3.mem h3.map).put hnt s h1;refine still u x m w' M' z hnil ⟨λ_=>⟨l.quiet,h2,l.fwd.trans h3,λq hq hno=>h4 q (l.dom q hq hno) (λk hk=>by simp at hk)⟩,λk hl=>?_⟩ (.inl O) hx s h5 h6;obtain⟨j,d,hjk,a,hwj⟩:=hl.wrote;have:=nS (l.quiet j d ((hl.upto j d a (fL hwj)).2 hjk) a (fL hwj)) a (aV _);rw[hwj]at this;cases this
    have hq':ca E pc true (sts k).hp.get tm1 ⟨dep,0,(sts k).hp.gen dep 0,0⟩ o=some (x,[]):=by rw[qE hag];exact hall _ _
    refine uD (E:=E) (o:=o) l.sim F rfl (λk'=>l.dom.fresh dep 0 k') hpc (λh=>by cases h) hq' ro K Q λu w' hout=>hK _ _ ?_;obtain⟨M',z,h1,h2,h3,h4⟩:=hout.Yb l.dom;rw[OP]at h2 h3 h4;obtain⟨h5,h6⟩:=(F.mono h3.mem h3.map).put hnt s h1;refine⟨hc',(put_defers _ _ _).trans hds,M',z,m,rj B.toRegB D n hi hTS hx s,h5,h6,.inr ⟨k,l.le,l.wrote,λj d a c=>?_,h2,h4,l.fwd.trans h3⟩⟩;rw[<-l.upto j d a c,n j];constructor
    ·rintro(h | h);·exact h
     subst h;rw[D]at a;injection a with a;rw[<-a,O]at c;cases c
    exact .inl
   | true=>
    rcases J with l | ⟨k,l⟩
    ·have hlk:=hnl O;have hwk:=nS hlk D (aV _);have hnw:=Rj D O hlk;have hbs:newAt E pc ops dep sts i=bs:=(by unfold newAt;rw[D];simp only[hw',hk,hq,O,hlk,sF,yv,if_true]);rw[<-hk,G6 (pc:=pc) A (gK R) hnw]at hq;have hloc:A0 I (gF (sts 0).hp.get (eY ops dep sts) (newAt E pc ops dep sts) (λ_=>true) i) (gL E pc ops dep sts L ops.size):=by
      intro q b hg hne;have Y : ∀i j,mt (eY ops dep sts) (newAt E pc ops dep sts) i q->mt (eY ops dep sts) (newAt E pc ops dep sts) j q->i=j:=λi j=>Ho B i j;by_cases hex : ∃j,mt (eY ops dep sts) (newAt E pc ops dep sts) j q
      ·obtain⟨j,hjm⟩:=hex;have hf:ι q=none:=Rn (tc:=tc) (nt:=nt) B A hD0 hjm;have hjs:j<ops.size:=(by have:newAt E pc ops dep sts j≠[]:=(by intro e;have:=hjm.2.2.2;rw[e]at this;simp at this);obtain⟨d,a,_⟩:=qA this;exact(gv.1 a).1);cases p:L j with
       | false=>exact absurd (l.dom q hf λi' _ hL X=>by rw[Y i' j X hjm,p]at hL;cases hL) hne
       | true=>
        by_cases hji:j<i;·rw[zn Y hjm rfl _ hji]at hg;rw[gL,zn Y hjm p _ hjs];exact hg
        rw[ql _ (λi' hi' _ X=>by have:=Y i' j X hjm;omega),hS0.Ub hf]at hg;cases hg
      rw[ql _ (λi' _ _ X=>hex ⟨i',X⟩)]at hg;rw[gL,ql _ (λi' _ _ X=>hex ⟨i',X⟩)];exact hg
     rw[<-qE hag]at hq;have hq':=BK l.sim hloc F hq;have U : ∀k,I { eY ops dep sts i with k:=k}=none:=λk=>l.dom _ (F8 (pc:=pc) (tc:=tc) (nt:=nt) B A hD0 D O hwk hnw k) λj _ p hm=>by
      have hne:newAt E pc ops dep sts j≠[]:=(by intro e;have:=hm.2.2.2;rw[e]at this;simp at this);obtain⟨d,a,c,hnj⟩:=qA hne;obtain⟨dj,hdj⟩:=fP.1 (B.site j d a c (nS hnj a (aV _)));obtain⟨di,hdi⟩:=fP.1 (B.site i o D O hwk);have:di=dj:=by have:=hm.2.1;simpa [eY,gT,a,hdj,D,hdi] using this
      have:=B.distinct i j o d di D a hdi (by rw[hdj,this]);subst this;rw[hi]at p;cases p
     refine uD (E:=E) (o:=o) l.sim F (by simp[eY]) U hpc (λh=>by cases h) hq' ro K Q λu w' ⟨M',z,h1,h2,h3,h4⟩=>hK _ _ ?_;obtain⟨h5,h6⟩:=(F.mono h3.mem h3.map).put hnt s h1;have hg':gL E pc ops dep sts L' ops.size=pX (gL E pc ops dep sts L ops.size) (eY ops dep sts i) bs:=by rw[RP B R n,hbs]
     refine⟨hc',(put_defers _ _ _).trans hds,M',z,m,rj B.toRegB D n hi hTS hx s,h5,h6,.inl ⟨λj d S a c=>?_,by rw[hg'];exact h2,by rw[hg'];exact l.fwd.trans h3,λq hq hno=>?_⟩⟩
     ·rcases(n j).1 S with h | h
      ·exact l.quiet j d h a c
      subst h;exact hlk
     refine h4 q (l.dom q hq λj S p=>hno j S ((n j).2 (.inl p))) λk hk' e=>?_;refine hno i R ((n i).2 (.inr rfl)) ?_;rw[e];exact⟨rfl,rfl,rfl,by rw[hbs];exact hk'⟩
    exact absurd l (Z O k)
  have h1:=hnl (fL hwk');rw[M4 D hwk' (aV i)]at h1;cases h1
include B A in
theorem M9(G:p8 ι (sts 0).hp){L:Nat->Bool}(c : ∀i,i<ops.size->L i=true){a y:Act}{H:World}(v:a.defers=ds)(O:Inv E pc nt ops dep sts M ι w ds L y H):iP M ι (sts 0) a w nt (sts ops.size) y H:=by
 obtain⟨S,u,F,h,tm1,z,x,q,n⟩:=O;have D : ∀t,dc tm1 t=dc (sts ops.size).tm t:=by
  intro t;obtain⟨N,Q⟩:=z t;obtain⟨J,K⟩:=G4 B.toRegB A ops.size (aV _) t;by_cases m : ∃j,j<ops.size/\gT ops j=some t;·obtain⟨j,b,p⟩:=m;rw[N j b (c j b) p,J j b (by simpa using b) p]
  rw[Q λj b _ p=>m ⟨j,b,p⟩,K λj b _ p=>m ⟨j,b,p⟩]
 have f:TR F h (sts ops.size).tm y:=⟨λt=>by rw[<-D];exact x.at_ t⟩;rcases n with d | ⟨k,d⟩
 ·have s:Vs E ops ops.size:=λj o b e=>by
   cases s:fQ E o with| false=>rfl| true=>have:=nS (d.quiet j o (c j b) e (fL s)) e (aV _);rw[s]at this;cases this
  have I:(sts ops.size).hp.get=gL E pc ops dep sts L ops.size:=(by rw[G6 (pc:=pc) A (aV _) s];exact Nd B (aV _) λj o b _ _ _=>⟨λ_=>b,λ_=>c j b⟩);refine⟨⟨F,h,⟨by rw[I];exact d.sim,?_,f,q⟩,by rw[I];exact d.fwd⟩,u.trans v.symm⟩;exact JP (M:=M) (tc:=tc) (nt:=nt) A G (aV _) s d.dom d.fwd.map λj o b _ _ _ _=>b
 have l:(sts ops.size).hp=(sts k).hp:=Js A ops.size d.le (aV _) λj o P b e=>by
  cases R:tH E o with| false=>rfl| true=>have:=(d.upto j o e R).1 (c j b);omega
 exact⟨⟨F,h,⟨by rw[l];exact d.sim,by rw[l];exact d.dom,f,q⟩,by rw[l];exact d.fwd⟩,u.trans v.symm⟩
include B in
theorem zw{a:Array Bool}(k:a.size=ops.size)(h:Region.ready .any ops a=[]) : ∀i,i<ops.size->a.getD i false=true:=by
 intro i;induction i using Nat.strongRecOn with | ind i m=>
 intro hi;cases l:a.getD i false with
 | true=>rfl
 | false=>
  exfalso;have f:=iG hi;have d:a.getD i true=false:=by
   have:i<a.size:=(by omega);simpa [Array.getD,this] using l
  have:i∈Region.ready .any ops a:=(by rw[iQw];refine⟨d,_,f,λe n j=>?_⟩;have b:e.on∈eg ops[i]:=(by unfold eg;exact lX.2 ⟨e,Gz.2 ⟨by simpa using n,j⟩,rfl⟩);have c:=B.edges i _ f _ b;exact m e.on c (by omega));rw[h]at this;cases this
include B A in
theorem XP(R : ∀f t y,pc f t=some y->iz E.P f t y)(V : ∀f t H y H',tc f t H=some (y,H')->kU E.P f t H y H'){ro:Option Nat}{a0:Act}(z:a0.defers=ds){Q:Exit->Act->World->Prop}
 (T:fk M ι (sts 0).hp.get w) (q:p8 ι (sts 0).hp) (Y : ∀D w',iP M ι (sts 0) a0 w nt (sts ops.size) D w'->Q .normal D w') : ∀(b:Nat)(a:Array Bool)(G:Act)(F:World),a.size=ops.size ->
 (List.range ops.size).countP (λi => !a.getD i false)<=b->Inv E pc nt ops dep sts M ι w ds (λi=>a.getD i false) G F->wpAnyIn (FW ro) 0 E.P .any ops Q b a G F:=by
 intro b;induction b with
 | zero=>
  intro a G F k hf J;have c : ∀i,i<ops.size->a.getD i false=true:=by
   intro i hi;cases W:a.getD i false with
   | true=>rfl
   | false=>exfalso;have:0<(List.range ops.size).countP (λi => !a.getD i false):=List.countP_pos_iff.2 ⟨i,sE.2 hi,by rw[W];rfl⟩;omega
  refine⟨?_,Y _ _ (M9 B A q c z J)⟩;refine PH.2 λi hi=>?_;rw[iQw]at hi;obtain⟨x,o,s,_⟩:=hi;have m:i<ops.size:=(gv.1 s).1;have I:=c i m;have:i<a.size:=by omega
  simp[Array.getD,this]at x I;rw[I]at x;cases x
 | succ b ih=>
  intro a G F k hf J;refine⟨λZ=>Y _ _ (M9 B A q (zw B k Z) z J),λi hi=>?_⟩;rw[iQw]at hi;obtain⟨x,o,s,U⟩:=hi;have m:i<ops.size:=(gv.1 s).1;have u:i<a.size:=by omega
  have v:a.getD i false=false:=(by simpa [Array.getD,u] using x);have n : ∀e∈eg o,(λi=>a.getD i false) e=true:=(by intro e X;unfold eg at X;obtain⟨d,hd,rfl⟩:=lX.1 X;obtain⟨I,h2⟩:=Gz.1 hd;exact U d (by simpa using I) h2);have h : ∀j,(λj=>(a.setIfInBounds i true).getD j false) j=true↔((λj=>a.getD j false) j=true\/j=i):=by
   intro j;simp only;by_cases l:j=i;·subst l;simp[u]
   rw[getD_set_ne false (pF l)];simp[l]
  have:=RI (E:=E) (tc:=tc) (ro:=ro) (K:=wpAnyIn (FW ro) 0 E.P .any ops Q b (a.setIfInBounds i true)) (Q:=Q) B A R V T q (L:=λi=>a.getD i false) s v n h J λD w' N=>by
   refine ih _ D w' (by simp[k]) ?_ N;have:=Cv (p:=λj => !a.getD j false) (p':=λj => !(a.setIfInBounds i true).getD j false) (i:=i) (λj O=>by
    simp only[jH]at O ⊢;cases W:a.getD j false with
    | false=>rfl
    | true=>have:=(h j).2 (.inl W);simp only at this;rw[this]at O;cases O) (by simp only[v,sF]) (by have:=(h i).2 (.inr rfl);simp only at this ⊢;rw[this];rfl) (List.range ops.size) (sE.2 m)
   omega
  unfold wpOpIn;rw[s];simp only;split;·rename_i S;rw[if_pos S]at this;exact this
  rename_i S;rw[if_neg S]at this;exact⟨λ_ _=>trivial,this⟩
end
def JN{E:Env}(L:E.P.follows .mixedOrders=true){ops:Array Oper}(p:z6 E ops=true){pc:FuncId->List AV->Option AV}(s : ∀f e y,pc f e=some y->iz E.P f e y)
 {tc:qJ->List AV->ab->bU} (v : ∀f e H y H',tc f e H=some (y,H')->kU E.P f e H y H') {nt dep id:Nat} {st d:St} {M:Mem} {ι:Map} {a:Act} {w:World} {ro:Option Nat} {Q:Exit->Act->World->Prop}
 (h:lU E pc tc nt dep true ops ops.toList st=some d) (j:vT M ι st nt a w) (G : ∀m w',iP M ι st a w nt d m w'->Q .normal m w'):(Code.region id ops true).wpIn (FW ro) 0 E.P Q a w:=by
 obtain⟨sts,J,x,F⟩:=D7 ops.toList st d h;rw[yw]at x;have B:=IS p;have A : ∀i o,ops[i]?=some o->evalOp E pc tc nt dep true ops o (sts i)=some (sts (i+1)):=λi o z=>F i o (by simpa using z);subst J;refine wpIn_region_any L ?_;have u:qX M ι (sts 0).hp.get w M ι (sts 0).hp.get { w with drawn:=w.drawn+1} :=
  ⟨rfl,rfl,rfl,aV _,λ_ _ _=>rfl,λ_ _ _ h=>h,λ_ _ h=>h,λr k l h I => .inr ⟨r,k,l,h,I,rfl⟩,λ_ _ _ h => .inl h⟩
 have c : ∀i,(Array.replicate ops.size false).getD i false=false:=by
  intro i;simp only[zN,Ks];split<;>rfl
 have b : ∀n,gF (sts 0).hp.get (eY ops dep sts) (newAt E pc ops dep sts) (λi=>(Array.replicate ops.size false).getD i false) n=(sts 0).hp.get:=by
  intro n;funext q;refine ql n λi _ hi=>?_;exact absurd ((c i).symm.trans hi) (by simp)
 refine XP (tc:=tc) (M:=M) (ι:=ι) (w:=w) (a0:=a) B A s v rfl j.sim j.dom (λm w' D=>G m w' (x ▸ D)) ops.size _ a _ (by simp) ?_ ?_;·exact sU iQF (by simp)
 refine⟨λi o hi=>?_,rfl,M,ι,(sts 0).tm,?_,j.tr,j.nt,.inl ⟨λi o hi=>?_,?_,?_,λq K _=>K⟩⟩;·exact absurd ((c i).symm.trans hi) (by simp)
 ·exact λt=>⟨λi _ hi=>absurd ((c i).symm.trans hi) (by simp),λ_=>rfl⟩
 ·exact absurd ((c i).symm.trans hi) (by simp)
 ·rw[gL,b];exact j.sim.drew rfl
 rw[gL,b];exact u
end
end Go.Ab
