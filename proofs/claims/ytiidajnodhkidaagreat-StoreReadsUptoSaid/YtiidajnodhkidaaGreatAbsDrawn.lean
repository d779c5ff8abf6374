/-
  What a quiet operation of the abstract machine looks at. No statement of a seat is proved here.
-/
import Derived.Test.YtiidajnodhkidaaGreatAbsWalk
set_option linter.unusedVariables false
set_option linter.unusedSimpArgs false
set_option linter.unusedSectionVars false
set_option linter.unnecessarySimpa false
set_option linter.defProp false
namespace Go.Ab
section
def mapM_congr{b j:Type}{f c:b->Option j} : ∀ {l:List b},(∀x∈l,f x=c x)->l.mapM f=l.mapM c:=by
 intro l;induction l with
 | nil=>intro _;rfl
 | cons a l d=>intro h;simp only[oo];rw[h a (j1 ..),d λx e=>h x (kQ _ e)]
def Ei(tm tm':List AV)(a:List Operand):Prop :=∀x∈a,aW tm x=aW tm' x
def uZ{tm tm':List AV}{ps:List (Nat × Operand)}(h : ∀p∈ps,aW tm p.2=aW tm' p.2):iJ tm ps=iJ tm' ps:=by
 unfold iJ;exact mapM_congr λp hp=>by obtain⟨i,o⟩:=p;simp only[h (i,o) hp]
def zQ{tm tm':List AV}{x:Option Operand}(h : ∀y,x=some y->aW tm y=aW tm' y):nc tm x=nc tm' x:=by
 cases x with| none=>rfl| some y=>simp only[nc,h y rfl]
def uL{E:Env}{pc:FuncId->List AV->Option AV}{m:Bool}{g:dv}{tm tm':List AV}{r:Ref}{o:Oper}(h:Ei tm tm' o.op.operands.toList) :
 dq E pc m g tm r o=dq E pc m g tm' r o:=by
 unfold Ei at h;unfold dq;split;·rename_i x j;rw[j]at h;simp only[Op.operands]at h;rw[h x (by simp)]
 ·rename_i x j;rw[j]at h;simp only[Op.operands]at h;rw[h x (by simp)]
 ·rename_i c a b j;rw[j]at h;simp only[Op.operands]at h;simp only[Ig];rw[h c (by simp),h a (by simp),h b (by simp)]
 ·rfl
 ·rename_i e x j;rw[j]at h;simp only[Op.operands]at h;rw[h x (by simp)]
 ·rename_i t ps j;rw[j]at h;simp only[Op.operands]at h;rw[uZ λp hp=>h p.2 (by simp;exact⟨p.1,by simpa using hp⟩)]
 ·rename_i t n ps j;rw[j]at h;simp only[Op.operands]at h;rw[uZ λp hp=>h p.2 (by simp;exact⟨p.1,by simpa using hp⟩)]
 ·rename_i t x j;rw[j]at h;simp only[Op.operands]at h;rw[h x (by simp)]
 ·rename_i x j;rw[j]at h;simp only[Op.operands]at h;rw[h x (by simp)]
 ·rename_i D t x y ty j;rw[j]at h;simp only[Op.operands]at h;rw[h x (by simp),h y (by simp)]
 ·rename_i D t x j;rw[j]at h;simp only[Op.operands]at h;rw[h x (by simp)]
 ·rename_i s d x j;rw[j]at h;simp only[Op.operands]at h;rw[h x (by simp)]
 ·rename_i t x j;rw[j]at h;simp only[Op.operands]at h;rw[h x (by simp)]
 ·rename_i f a b j;rw[j]at h;simp only[Op.operands]at h;rw[mapM_congr λx q=>h x (by simp at q ⊢;exact .inl q),mapM_congr λx q=>h x (by simp at q ⊢;exact .inr q)]
 ·rename_i t l c j;rw[j]at h;simp only[Op.operands]at h;rw[h l (by simp),h c (by simp)]
 ·rfl
 ·rename_i t x k ok j;rw[j]at h;simp only[Op.operands]at h;rw[h x (by simp),h k (by simp)]
 ·rename_i t x lo hi z j;rw[j]at h;simp only[Op.operands]at h;rw[h x (by simp),zQ (x:=lo) λy u=>h y (by simp[u]),zQ (x:=hi) λy u=>h y (by simp[u]),zQ (x:=z) λy u=>h y (by simp[u])]
 ·rename_i t x f j;rw[j]at h;simp only[Op.operands]at h;rw[h x (by simp)]
 ·rename_i t x f j;rw[j]at h;simp only[Op.operands]at h;rw[h x (by simp)]
 ·rename_i t x y j;rw[j]at h;simp only[Op.operands]at h;rw[h x (by simp),h y (by simp)]
 ·rename_i t x y j;rw[j]at h;simp only[Op.operands]at h;rw[h x (by simp),h y (by simp)]
 ·rename_i x t F ok j;rw[j]at h;simp only[Op.operands]at h;rw[h x (by simp)]
 ·rename_i x i j;rw[j]at h;simp only[Op.operands]at h;rw[h x (by simp)]
 ·rename_i c j;rw[j]at h;simp only[Op.operands,Call.operands]at h;rw[mapM_congr (l:=c.args.toList) λx q=>h x (by simp at q ⊢;exact .inr q)];split;·rfl
  split;·rename_i f v;rw[h f (by simp[v])]
  ·rfl
  rfl
 rfl
def WO{E:Env}{pc:FuncId->List AV->Option AV}{tc:vl->List AV->aa->dA}{H:aa}{tm tm':List AV}{r:Ref}{o:Oper}(h:Ei tm tm' o.op.operands.toList) :
 evalW E pc tc H tm r o=evalW E pc tc H tm' r o:=by
 unfold Ei at h;unfold evalW;generalize o.op=op at h ⊢;cases op<;>try rfl
 case store t x y=>simp only[Op.operands]at h;simp only;rw[h x (by simp),h y (by simp)]
 case mapUpdate t m k y=>simp only[Op.operands]at h;simp only;rw[h m (by simp),h k (by simp),h y (by simp)]
 case insert t m k y=>simp only[Op.operands]at h;simp only;rw[h m (by simp),h k (by simp),h y (by simp)]
 case mapEntry t m k=>simp only[Op.operands]at h;simp only;rw[h m (by simp),h k (by simp)]
 case entryStore t m k y=>simp only[Op.operands]at h;simp only;rw[h m (by simp),h k (by simp),h y (by simp)]
 case buildSlice t n ps=>simp only[Op.operands]at h;simp only;rw[uZ λp hp=>h p.2 (by simp;exact⟨p.1,by simpa using hp⟩)]
 case makeChan t n=>simp only[Op.operands]at h;simp only;rw[h n (by simp)]
 case send c x=>simp only[Op.operands]at h;simp only;rw[h c (by simp),h x (by simp)]
 case recv t c b=>simp only[Op.operands]at h;simp only;rw[h c (by simp)]
 case call c=>
  simp only[Op.operands,Call.operands]at h;simp only;rw[mapM_congr (l:=c.args.toList) λx a=>h x (by simp at a ⊢;exact .inr a)];split;·rfl
  split;·rename_i f d;rw[h f (by simp[d])]
  ·rfl
  rfl
def Ep(ι:Map)(g C:dv):Prop :=∀q k,g q=some k->ι q≠none->C q=some k
section
variable{M:Mem}{ι:Map}{g C:dv}{w:World}
def RP{l:Loc}{k:bC}(d:gm M ι w l k){e:AV}(c:e∈k.es) : ∃u,VR M (k.map ι) e u:=by
 obtain⟨i,hi,b⟩:=qC c;have h:=d.cell i (by rw[eu hi,b]);obtain⟨us,a,_,_⟩:=h.values;cases e with
 | agg cs=>exact⟨.agg us.toArray,VR.rh.2 (by simpa [AV.cells] using a)⟩
 | _=>have f:=a.1;obtain⟨u,rfl⟩:=D1 f.symm;exact⟨u,a.2 0 _ u rfl rfl⟩
def NH{f c:AV->Option AV}{l d:List AV}(h:l.mapM f=some d)(j : ∀x∈l,∀y,f x=some y->c x=some y):l.mapM c=some d:=by
 rw[<-h];refine mapM_congr λx e=>?_;obtain⟨i,hi,a⟩:=qC e;obtain⟨y,_,b⟩:=mB h i x (by rw[eu hi,a]);rw[b,j x e y b]
def wq{b j:Type}{f c:b->List j} : ∀ {l:List b},(∀x∈l,f x=c x)->l.flatMap f=l.flatMap c:=by
 intro l;induction l with
 | nil=>intro _;rfl
 | cons a l d=>intro h;rw[nL,nL,h a (j1 ..),d λx e=>h x (kQ _ e)]
def yh(hS:iA M ι C w)(Y:Ep ι g C) : ∀(n:Nat)(x y:AV)(u:Value)(p:Mem),view g n x=some y->VR p ι x u->view C n x=some y/\aj C n x=aj g n x /\∀r∈aj g n x,ι r≠none:=by
 intro n;induction n with
 | zero=>intro x y u p h;simp[view]at h
 | succ n T=>
  intro x y u p h hv;have e : ∀ {cs P:List AV},cs.mapM (view g n)=some P->(∀c∈cs,∃u p,VR p ι c u)->cs.mapM (view C n)=some P/\cs.flatMap (aj C n)=cs.flatMap (aj g n) /\∀r∈cs.flatMap (aj g n),ι r≠none:=by
   intro cs P t O;refine⟨NH t λc z y Q=>?_,wq λc z=>?_,?_⟩;·obtain⟨u,p,F⟩:=O c z;exact(T c y u p Q F).1
   ·obtain⟨u,p,F⟩:=O c z;obtain⟨i,hi,G⟩:=qC z;obtain⟨y,_,Q⟩:=mB t i c (by rw[eu hi,G]);exact(T c y u p Q F).2.1
   intro r s;obtain⟨c,z,s⟩:=jO.1 s;obtain⟨u,p,F⟩:=O c z;obtain⟨i,hi,G⟩:=qC z;obtain⟨y,_,Q⟩:=mB t i c (by rw[eu hi,G]);exact(T c y u p Q F).2.2 r s
  have inl : ∀ {cs:List AV} {S:Array Value},cs.length=S.size->(∀(i:Nat) c u,cs[i]?=some c->S[i]?=some u->VR p ι c u) ->∀c∈cs,∃u p,VR p ι c u:=(by intro cs S R J c z;obtain⟨i,hi,G⟩:=qC z;exact⟨S[i]'(by omega),p,J i c _ (by rw[eu hi,G]) (kY (by omega))⟩);cases hv with
  | v hs=>simp[view]at h;subst h;simp[view,aj]
  | agg R J=>simp only[view,bU]at h;obtain⟨P,t,rfl⟩:=h;obtain⟨I,D,H⟩:=e t (inl R J);exact⟨by simp[view,I],by simp only[aj];exact D,by simp only[aj];exact H⟩
  | tup h0 R J=>simp only[view,bU]at h;obtain⟨P,t,rfl⟩:=h;obtain⟨I,D,H⟩:=e t (inl R J);exact⟨by simp[view,I],by simp only[aj];exact D,by simp only[aj];exact H⟩
  | bE=>simp[view]at h;subst h;simp[view,aj]
  | iptr=>simp[view]at h;subst h;simp[view,aj]
  | ct s hb hs ha z hn hk K=>
   rename_i r V len cap l a c;simp only[view]at h;split at h;·rename_i b f;have:=Y r b f (by rw[s];simp);exact⟨by simp only[view,this];exact h,by simp[aj],by intro q k;simp only[aj,lX]at k;rw[k,s];simp⟩
   cases h
  | dsl s hb hs ha z hn hk K=>
   rename_i r V len cap l a c;simp only[view]at h;split at h
   ·rename_i b f;have m:=Y r b f (by rw[s];simp);split at h
    ·rename_i J;obtain⟨d,hlen⟩:=J;simp only[bU]at h;obtain⟨es,L,rfl⟩:=h;have N:=hS.at s K m;obtain⟨I,D,H⟩:=e L λc z=>by
      obtain⟨u,F⟩:=RP N z;rw[bC.map,d]at F;exact⟨u,M,by simpa using F⟩
     exact⟨by simp[view,m,d,hlen,I],by simp only[aj,m,f];rw[D],by
      intro q k;simp only[aj,f]at k;rcases fR.1 k with rfl | k
      ·rw[s];simp
      exact H q k⟩
    cases h
   cases h
  | ptr s K=>
   rename_i r i j l;simp only[view]at h;split at h
   ·rename_i b f;have m:=Y r b f (by rw[s];simp);cases d:b.arr with
    | true=>rw[d]at h;exact⟨by simp only[view,m,d];exact h,by simp[aj,m,f,d],by intro q k;simp[aj,f,d]at k;rw[k,s];simp⟩
    | false=>
     rw[d]at h;simp only[gB,iQe,bU]at h;obtain⟨es,L,rfl⟩:=h;have N:=hS.at s K m;obtain⟨I,D,H⟩:=e L λc z=>by
      obtain⟨u,F⟩:=RP N z;rw[bC.map,d]at F;exact⟨u,M,by simpa using F⟩
     exact⟨by simp[view,m,d,I],by simp only[aj,m,f,d];rw[if_neg (by simp),if_neg (by simp),D],by
      intro q k;simp only[aj,f,d]at k;rw[if_neg (by simp)]at k;rcases fR.1 k with rfl | k
      ·rw[s];simp
      exact H q k⟩
   cases h
  | fn hla hlb X W=>
   simp only[view]at h;split at h
   ·rename_i a' b' ha' Z;cases h;obtain⟨I,D,h5⟩:=e ha' (inl hla X);obtain⟨H,h4,h6⟩:=e Z (inl hlb W);exact⟨by simp[view,I,H],by simp only[aj];rw[D,h4],by
     intro q k;simp only[aj,mS]at k;rcases k with k | k
     ·exact h5 q k
     exact h6 q k⟩
   cases h
  | yld=>simp[view]at h
  | mp=>simp[view]at h
  | ch=>simp[view]at h
  | Az=>simp[view]at h
  | ifc J=>simp only[view,bU]at h;obtain⟨y',U,rfl⟩:=h;obtain⟨I,D,H⟩:=T _ y' _ p U J;exact⟨by simp[view,I],by simp only[aj];exact D,by simp only[aj];exact H⟩
def R7(j:iA M ι C w)(k:Ep ι g C){d n:List AV}{us:List Value}(h:d.mapM (view g depth)=some n)(m:mM M ι d us):d.mapM (view C depth)=some n/\cO C d=cO g d /\∀r∈cO g d,ι r≠none:=by
 have inl : ∀c∈d,∃u,VR M ι c u:=by
  intro c b;obtain⟨i,hi,a⟩:=qC b;have p:=m.1;exact⟨us[i]'(by omega),m.2 i c _ (by rw[eu hi,a]) (eu (by omega))⟩
 refine⟨NH h λc b y e=>?_,wq λc b=>?_,?_⟩;·obtain⟨u,f⟩:=inl c b;exact(yh j k depth c y u M e f).1
 ·obtain⟨u,f⟩:=inl c b;obtain⟨i,hi,a⟩:=qC b;obtain⟨y,_,e⟩:=mB h i c (by rw[eu hi,a]);exact(yh j k depth c y u M e f).2.1
 intro r l;obtain⟨c,b,l⟩:=jO.1 l;obtain⟨u,f⟩:=inl c b;obtain⟨i,hi,a⟩:=qC b;obtain⟨y,_,e⟩:=mB h i c (by rw[eu hi,a]);exact(yh j k depth c y u M e f).2.2 r l
def I5(d:Ep ι g C){R:List Ref}(B : ∀r∈R,ι r≠none)(h:kB g R=true):kB C R=true:=by
 simp only[kB,gP]at h ⊢;intro r c;have:=h r c;cases a:g r with
 | none=>rw[a]at this;simp at this
 | some b=>rw[a]at this;rw[d r b a (B r c)];exact this
def FT(d:Ep ι g C){x:AV}{u:Value}(a:VR M ι x u){p:Nat × List AV}(h:dt g x=some p):dt C x=some p:=by
 cases a with
 | ct e=>
  simp only[dt]at h ⊢;split at h;·rename_i b c;rw[d _ b c (by rw[e];simp)];exact h
  cases h
 | v f=>cases ‹Value› <;> simp_all [dt]
 | bE=>exact h
 | _=>simp[dt]at h
def Cj(e:iA M ι C w)(l:Ep ι g C){b n:List (Nat × AV)}(h:dG g b=some n)(s : ∀p∈b,∃u,VR M ι p.2 u) :
 dG C b=some n/\cO C (b.map (·.2))=cO g (b.map (·.2)) /\∀r∈cO g (b.map (·.2)),ι r≠none:=by
 have a : ∀p∈b,∃y u,view g depth p.2=some y/\VR M ι p.2 u:=by
  intro p hp;obtain⟨i,hi,j⟩:=qC hp;obtain⟨y,_,q⟩:=mB h i p (by rw[eu hi,j]);obtain⟨u,t⟩:=s p hp;obtain⟨k,x⟩:=p;simp only[bU]at q;obtain⟨z,v,_⟩:=q;exact⟨z,u,v,t⟩
 refine⟨?_,?_,?_⟩;·unfold dG at h ⊢;rw[<-h];refine mapM_congr λp hp=>?_;obtain⟨y,u,c,d⟩:=a p hp;obtain⟨k,x⟩:=p;simp only at c d;simp only[c,(yh e l depth x y u M c d).1]
 ·unfold cO;refine wq λx m=>?_;obtain⟨p,hp,rfl⟩:=mo.1 m;obtain⟨y,u,c,d⟩:=a p hp;exact(yh e l depth p.2 y u M c d).2.1
 intro r f;obtain⟨x,m,f⟩:=jO.1 f;obtain⟨p,hp,rfl⟩:=mo.1 m;obtain⟨y,u,c,d⟩:=a p hp;exact(yh e l depth p.2 y u M c d).2.2 r f
def VZ{tm:List AV}{a:Act}(e:TR M ι tm a){ps:List (Nat × Operand)}{c:List (Nat × AV)}(h:iJ tm ps=some c) : ∀p∈c,∃u,VR M ι p.2 u:=by
 intro p hp;obtain⟨f,d⟩:=sJ (ι:=ι) e h;obtain⟨i,hi,b⟩:=qC hp;exact⟨_,(d i p _ (by rw[eu hi,b]) (eu (by omega))).2⟩
def NF{P:Program}(d:iA M ι C w)(m:Ep ι g C){t:TypeId}{n:Nat}{a:List (Nat × AV)}{b:bC}(h:mkSlice P g t n a=some b)(j : ∀p∈a,∃u,VR M ι p.2 u):mkSlice P C t n a=some b:=by
 unfold mkSlice at h ⊢;split at h;·cases h
 rename_i e k;try simp only[k]
 split at h
 ·rename_i q z s c l f;try simp only[(Cj d m c j).1,l,f]
  exact h
 cases h
def JH{P:Program}{t:TypeId}{n:Nat}{d:List (Nat × AV)}{b:bC}(h:mkSlice P g t n d=some b) : ∃a,dG g d=some a:=by
 unfold mkSlice at h;split at h;·cases h
 split at h;·rename_i a z s c f e;exact⟨a,c⟩
 cases h
def Kp{P:Program}(b:Ep ι g C){e:TypeId}{x:AV}{u:Value}(a:VR M ι x u){p:Nat × List AV}(h:nP P g e x=some p):nP P C e x=some p:=by
 unfold nP at h ⊢;split at h;·exact h
 ·exact h
 rename_i d c;exact FT b a h
def Nu{P:Program}(k:Ep ι g C){r:Ref}{t t':Option TypeId}{s x:AV}{us n:Value}(q:VR M ι s us)(y:VR M ι x n){a:AV × List bC}(h:fx P g r t t' s x=some a):fx P C r t t' s x=some a:=by
 unfold fx at h ⊢;split at h;·cases h
 rename_i e u;try simp only[u]
 split at h;·cases h
 rename_i D;rw[if_neg D];split at h
 ·rename_i z by' zz G new m l j c;try simp only[m,l,j,Kp k y c]
  split at h;·cases h
  rename_i d;rw[if_neg d];cases q with
  | ct p=>
   simp only at h ⊢;split at h;·rename_i b f;rw[k _ b f (by rw[p];simp)];exact h
   cases h
  | v F=>(split at h)<;>first | exact h | cases h | simp_all
  | _=>exact h
 cases h
def Ks(d:Ep ι g C){r:Ref}(e:ι r≠none){a:List AV}(h:oz g r=some a):oz C r=some a:=by
 unfold oz at h ⊢;cases c:g r with
 | none=>rw[c]at h;cases h
 | some b=>rw[c]at h;rw[d r b c e];exact h
def Nq{P:Program}(l:Ep ι g C){t:TypeId}{x:AV}{u:Value}(d:VR M ι x u){k:Option AV}{ok:Bool}{a:AV × List bC}(h:pB P g t (some x) k ok=some a):pB P C t (some x) k ok=some a:=by
 unfold pB at h ⊢;split at h
 ·rename_i q p r' n e f j;cases f;cases d with | mp m s=>
  try simp only[e,j]
  split at h;·rename_i b c;rw[Ks l (by rw[m];simp) c];exact h
  cases h
 cases h
def Fh{E:Env}{pc:FuncId->List AV->Option AV}(Y:iA M ι C w)(D:Ep ι g C){tm:List AV}{a:Act}(N:TR M ι tm a){r:Ref}{o:Oper}{x:AV}{bs:List bC}
 (h:dq E pc true g tm r o=some (x,bs)):dq E pc true C tm r o=some (x,bs):=by
 unfold dq at h ⊢;simp only[AI,CN,iQt,zP]at h ⊢;split at h;·exact h
 ·exact h
 ·exact h
 ·exact h
 ·exact h
 ·exact h
 ·rename_i t n ps H;cases m:iJ tm ps.toList with
  | none=>rw[m]at h;simp[gY]at h
  | some vs=>rw[m]at h;generalize (true && !E.strict o)=dr at h ⊢;simp only[gY]at h ⊢;obtain⟨P,L⟩:=fP.1 h;simp only[bU]at L;obtain⟨b,I,O⟩:=L;have W:=VZ N m;obtain⟨ws,hws⟩:=JH I;obtain⟨T,h5,h6⟩:=Cj Y D hws W;rw[h5,I5 D h6 P,NF Y D I W];simp[O]
 ·rename_i t y H;unfold oT at h ⊢;split at h
  ·rename_i r' i j ag n l hg hn;try simp only[l,hg,hn]
   split at h
   ·rename_i b I;have m:=bk N l;generalize a.eval y=u at m;cases m with | ptr F hzl=>
    rw[D r' b I (by rw[F];simp)];exact h
   cases h
  ·rename_i esz es i j ag n l hg hn;try simp only[l,hg,hn]
   exact h
  cases h
 ·exact h
 ·exact h
 ·exact h
 ·rename_i s d y H;cases l:aW tm y with
  | none=>rw[l]at h;simp[cE]at h
  | some y'=>
   rw[l]at h;have m:=bk N l;unfold cE at h ⊢;split at h;·exact h
   ·exact h
   ·exact h
   ·rename_i z P L O G;injection G with G
    subst G;split at h
    ·rename_i S;try simp only[S,if_true]
     split at h;·rename_i p es hes;rw[FT D m hes];exact h
     cases h
    rename_i S;try simp only[S]
    split at h
    ·rename_i hc2;try simp only[hc2,if_true]
     split at h
     ·generalize a.eval y=u at m;cases m with | ct F=>
      split at h;·rename_i k V;have:=D _ k V (by rw[F];simp);rw[this];exact h
      cases h
     cases h
    cases h
   rename_i G;cases G
 ·exact h
 ·exact h
 ·exact h
 ·exact h
 ·rename_i t y k ok H;cases l:aW tm y with
  | none=>rw[l]at h;simp only[pB]at h;split at h<;>simp_all
  | some y'=>rw[l]at h;exact Nq D (bk N l) h
 ·rename_i t y lo hi mx H;cases l:aW tm y with
  | none=>rw[l]at h;simp only[dx]at h ⊢;exact h
  | some y'=>
   rw[l]at h;have m:=bk N l;generalize a.eval y=u at m;cases m with
   | ct F=>
    simp only[dx]at h ⊢;split at h
    ·rename_i Z hi' mx' P L O;try simp only[P,L,O]
     split at h;·rename_i b I;rw[D _ b I (by rw[F];simp)];exact h
     cases h
    cases h
   | dsl F=>
    simp only[dx]at h ⊢;split at h
    ·rename_i Z hi' mx' P L O;try simp only[P,L,O]
     split at h;·rename_i b I;rw[D _ b I (by rw[F];simp)];exact h
     cases h
    cases h
   | _=>(unfold dx at h ⊢;(repeat' split at h)<;>simp_all)
 ·exact h
 ·exact h
 ·rename_i t y z H;cases l:aW tm y with
  | none=>rw[l]at h;exact h
  | some y'=>
   rw[l]at h;have m:=bk N l;generalize a.eval y=u at m;cases m with
   | ct F=>
    simp only[cb]at h ⊢;split at h
    ·rename_i k V;try simp only[V]
     split at h
     ·rename_i e G;try simp only[G]
      split at h;·rename_i esz es cap s f R;cases f
      ·rename_i r' off len cap s f R;injection f with f
       injection f with e1 e2 e3 e4
       subst e1;try simp only[R]
       split at h;·rename_i b I;rw[D _ b I (by rw[F];simp)];subst e2;subst e3;exact h
       cases h
      ·rename_i f R;cases f
      cases h
     rename_i G;try simp only[G]
     exact h
    cases h
   | dsl F=>
    simp only[cb]at h ⊢;split at h
    ·rename_i k V;try simp only[V]
     split at h
     ·rename_i e G;try simp only[G]
      split at h;·rename_i f R;cases f
      ·rename_i f R;cases f
      ·rename_i r' off len cap s f R;injection f with f
       injection f with e1 e2 e3 e4
       subst e1;try simp only[R]
       split at h;·rename_i b I;rw[D _ b I (by rw[F];simp)];subst e2;subst e3;exact h
       cases h
      cases h
     rename_i G;try simp only[G]
     exact h
    cases h
   | _=>(unfold cb at h ⊢;(repeat' split at h)<;>simp_all)
 ·exact h
 ·exact h
 ·exact h
 ·rename_i c H;split at h;·cases h
  rename_i args K;try simp only[K]
  have q:=nk N K;split at h
  ·rename_i fo S;try simp only[S]
   obtain⟨p0,h,e0⟩:=bU.1 h;refine bU.2 ⟨p0,?_,e0⟩;unfold lY at h ⊢;split at h
   ·rename_i fi first captured X
    try simp only[X]
    split at h;·cases h
    rename_i hm;rw[if_neg hm];obtain⟨a',b',hfv,hva,hvb⟩:=(bk N X).ZM;have U:mM M ι (first++args++captured) (a'.toList++c.args.toList.map a.eval++b'.toList):=(hva.append q).append hvb;split at h
    ·rename_i xs hxs;obtain⟨P,L,O⟩:=R7 Y D hxs U;try simp only[P]
     split at h
     ·rename_i y l;try simp only[l]
      obtain⟨J,h⟩:=fP.1 h;rw[L];rw[if_pos];·exact h
      simp only[jf]at J ⊢;rcases J with (T | T) | T
      ·exact .inl (.inl T)
      ·exact .inl (.inr (I5 D O T))
      exact .inr T
     cases h
    cases h
   cases h
  ·cases h
  rename_i b S;try simp only[S]
  unfold eD at h ⊢;split at h
  ·rename_i r';obtain⟨u,Q⟩:=D1 q.1.symm;rw[Q]at q;have m:=q.2 0 (.mp r') u rfl rfl;cases m with | mp F hz=>
   obtain⟨hd,h⟩:=O5.1 h;simp only[if_neg hd];unfold BJ at h ⊢;split at h
   ·rename_i p ents ht hm;try simp only[ht]
    simp only[Ks D (by rw[F];simp) hm];exact h
   cases h
  ·exact h
  ·exact h
  ·exact h
  ·rename_i y z;obtain⟨u,v,Q⟩:=wM q.1.symm;rw[Q]at q;exact Nu D (q.2 0 y u rfl rfl) (q.2 1 z v rfl rfl) h
  ·exact h
  cases h
 cases h
end
end
section
def Wi{b:List Nat}{i:Nat} : ∀(a:List Nat),(C5 b a).testBit i=true ->∃j∈a,i=j\/(b.getD j 0).testBit i=true:=by
 intro a;induction a with
 | nil=>intro h;simp[C5]at h
 | cons j a c=>
  intro h;simp only[C5,Nat.testBit_or,jf]at h;rcases h with (h | h) | h
  ·rw[Nat.testBit_two_pow]at h;exact⟨j,j1 ..,.inl (by simpa using h:j=i).symm⟩
  ·exact⟨j,j1 ..,.inr h⟩
  obtain⟨k,d,h⟩:=c h;exact⟨k,kQ _ d,h⟩
def OA : ∀(b:List Oper)(a:List Nat)(i:Nat),i<a.length->(eG b a).getD i 0=a.getD i 0:=by
 intro b;induction b with
 | nil=>intro a i h;rfl
 | cons o b c=>intro a i h;simp only[eG];rw[c _ i (by simp;omega)];simp[List.getD,kR h]
def Z1 : ∀(b:List Oper)(a:List Nat)(i:Nat)(o:Oper),b[i]?=some o ->
 ∀j,((eG b a).getD (a.length+i) 0).testBit j=true ->∃e∈gf o,j=e\/(e<a.length+i/\((eG b a).getD e 0).testBit j=true):=by
 intro b;induction b with
 | nil=>intro a i o h;simp at h
 | cons o' b l=>
  intro a i o h j c;cases i with
  | zero=>
   simp at h;subst h;simp only[eG,AD]at c ⊢;rw[OA b _ a.length (by simp)]at c;simp only[List.getD,kj (bM _),vO,K8,cU]at c;obtain⟨e,he,c⟩:=Wi _ c;refine⟨e,he,?_⟩;rcases c with h | h
   ·exact .inl h
   right;rcases fQ e a.length with d | f
   ·refine⟨d,?_⟩;have k:=OA b (a++[C5 a (gf o')]) e (by simp;omega);simp only[List.getD,kR d]at h k ⊢;rw[k];exact h
   rw[List.getD,yf f]at h;simp at h
  | succ i=>
   simp only[eG]at c ⊢;have:=l (a++[C5 a (gf o')]) i o (by simpa using h) j (by
    rw[iX,EF];rwa [show a.length+1+i=a.length+(i+1) by omega])
   rw[iX,EF]at this;rwa [show a.length+1+i=a.length+(i+1) by omega]at this
def adF{ops:Array Oper}{i j:Nat}{o:Oper}(a:ops[i]?=some o)(b:((eG ops.toList []).getD i 0).testBit j=true) : ∃e∈gf o,j=e\/(e<i/\((eG ops.toList []).getD e 0).testBit j=true):=by
 have:=Z1 ops.toList [] i o (by simpa using a) j (by simpa using b);simpa using this
def rr(ops:Array Oper)(L:Nat->Bool):Prop :=∀(i:Nat)(o:Oper),L i=true->ops[i]?=some o ->∀e∈gf o,L e=true
def wz{ops:Array Oper}{L:Nat->Bool}(l:rr ops L) : ∀(i:Nat)(o:Oper),ops[i]?=some o->(∀e∈gf o,L e=true) ->∀j,((eG ops.toList []).getD i 0).testBit j=true->L j=true:=by
 intro i;induction i using Nat.strongRecOn with | ind i f=>
 intro o d a j k;obtain⟨e,he,h | ⟨c,h⟩⟩:=adF d k;·rw[h];exact a e he
 have hi:i<ops.size:=(jx.1 d).1;have b:ops[e]?=some (ops[e]'(by omega)):=kY (by omega);exact f e c _ b (l e _ (a e he) b) j h
structure RegB (ops:Array Oper):Prop where
 edges : ∀(i:Nat)(o:Oper),ops[i]?=some o ->∀e∈gf o,e<i
 distinct : ∀(i j:Nat)(oi oj:Oper)(d:Tmp),ops[i]?=some oi->ops[j]?=some oj->oi.dst=some d->oj.dst=some d->i=j
 reads : ∀(i j:Nat)(oi oj:Oper)(d:Tmp),ops[i]?=some oi->ops[j]?=some oj->j≠i->oj.dst=some d->d∈oi.looksAt ops->(j<i/\((eG ops.toList []).getD i 0).testBit j=true)\/(i<j/\((eG ops.toList []).getD j 0).testBit i=true)
structure Xv (E:Env) (ops:Array Oper):Prop extends RegB ops where
 site : ∀(i:Nat)(o:Oper),ops[i]?=some o->xU E o=true->jQ E o=false->o.dst.isSome=true
 writes : ∀(i j:Nat)(oi oj:Oper),ops[i]?=some oi->ops[j]?=some oj->j<i->xU E oi=true->xU E oj=true->lk E ops i=true->((eG ops.toList []).getD i 0).testBit j=true
def Rz{E:Env}{ops:Array Oper}{i j:Nat}{o:Oper}(a:ops[j]?=some o)(c:jQ E o=true)(b:j<=i):lk E ops i=true:=by
 unfold lk;rw[KX];exact⟨j,xZ.2 (by omega),by rw[a];exact c⟩
def qK{E:Env}{ops:Array Oper}{i:Nat}(h:lk E ops i=false){j:Nat}{o:Oper}(b:ops[j]?=some o)(a:j<=i):jQ E o=false:=by
 cases hw:jQ E o with| false=>rfl| true=>rw[Rz b hw a]at h;cases h
def agG{E:Env}{ops:Array Oper}{i:Nat}(h:lk E ops i=true) : ∃j o,j<=i/\ops[j]?=some o/\jQ E o=true:=by
 unfold lk at h;rw[KX]at h;obtain⟨k,b,h⟩:=h;have c:=xZ.1 b;split at h;·rename_i o a;exact⟨k,o,by omega,a,h⟩
 cases h
def Zm{E:Env}{ops:Array Oper}{i j:Nat}(h:lk E ops j=true)(b:j<=i):lk E ops i=true:=by
 unfold lk at h;rw[KX]at h;obtain⟨k,c,h⟩:=h;have d:=xZ.1 c;split at h;·rename_i o a;exact Rz a h (by omega)
 cases h
def RZ{ops:Array Oper}(one : ∀(i:Nat)(o:Oper),ops[i]?=some o->(gf o).all (· < i)=true)
 (s : ∀(i j:Nat)(oi a:Oper),ops[i]?=some oi->ops[j]?=some a->j<i->ze ops (eG ops.toList []) oi a i j=true):RegB ops:=by
 have b : ∀(i j:Nat)(oi a:Oper),ops[i]?=some oi->ops[j]?=some a->j<i->(a.dst.isNone=true\/oi.dst≠a.dst)/\(∀d,a.dst=some d->d∈oi.looksAt ops->((eG ops.toList []).getD i 0).testBit j=true) /\
  (∀d,oi.dst=some d->d∈a.looksAt ops->((eG ops.toList []).getD i 0).testBit j=true):=by
  intro i j oi a hi l q;have:=s i j oi a hi l q;unfold ze at this;simp only[bI]at this;obtain⟨⟨c,k⟩,f⟩:=this;refine⟨?_,?_,?_⟩;·simpa using c
  ·intro d hd p;rw[hd]at k;simp only[jf,ij]at k;rcases k with k | k
   ·have:(oi.looksAt ops).contains d=true:=K5.2 p;rw[k]at this;cases this
   exact k
  intro d hd p;rw[hd]at f;simp only[jf,ij]at f;rcases f with f | f
  ·have:(a.looksAt ops).contains d=true:=K5.2 p;rw[f]at this;cases this
  exact f
 refine⟨?_,?_,?_⟩;·intro i o u e v;have:=one i o u;simp only[gP,iQb]at this;exact this e v
 ·intro i j oi a d hi l n m;rcases EA i j with h | h | h
  ·exfalso;rcases(b j i a oi l hi h).1 with c | c
   ·rw[n]at c;cases c
   exact c (by rw[n,m])
  ·exact h
  exfalso;rcases(b i j oi a hi l h).1 with c | c
  ·rw[m]at c;cases c
  exact c (by rw[n,m])
 intro i j oi a d hi l t hd p;rcases OU t with h | h
 ·exact .inl ⟨h,(b i j oi a hi l h).2.1 d hd p⟩
 exact .inr ⟨h,(b j i a oi l hi h).2.2 d hd p⟩
def Ni{E:Env}{ops:Array Oper}(h:DI E ops=true):Xv E ops:=by
 unfold DI at h;simp only[gP,xZ]at h;have one : ∀(i:Nat)(o:Oper),ops[i]?=some o->(gf o).all (· < i)=true/\(!xU E o||jQ E o||o.dst.isSome)=true /\∀(j:Nat)(d:Oper),j<i->ops[j]?=some d->PX E ops (eG ops.toList []) o d i j=true:=by
  intro i o k;have hi:i<ops.size:=(jx.1 k).1;have:=h i hi;rw[k]at this;simp only[bI,gP,xZ]at this;refine⟨by simpa using this.1.1,by simpa using this.1.2,λj d f m=>?_⟩;have l:=this.2 j f;rw[m]at l;exact l
 have split : ∀(i j:Nat)(oi d:Oper),ops[i]?=some oi->ops[j]?=some d->j<i->ze ops (eG ops.toList []) oi d i j=true/\(xU E oi=true->xU E d=true->lk E ops i=true->((eG ops.toList []).getD i 0).testBit j=true):=by
  intro i j oi d hi f e;have:=(one i oi hi).2.2 j d e f;unfold PX at this;rw[bI]at this;refine⟨this.1,λa b c=>?_⟩;have n:=this.2;rw[a,b,c]at n;simpa using n
 refine⟨RZ (λi o k=>(one i o k).1) λi j oi d hi f e=>(split i j oi d hi f e).1,?_,λi j oi d hi f e=>(split i j oi d hi f e).2⟩;intro i o k p l;have:=(one i o k).2.1;rw[p,l]at this;simpa using this
def HW{E:Env}{pc:FuncId->List AV->Option AV}{tc:vl->List AV->aa->dA}{nt dep:Nat}{ops:Array Oper} : ∀(l:List Oper)(st st':St),oI E pc tc nt dep true ops l st=some st' ->
 ∃f:Nat->St,f 0=st/\f l.length=st' /\∀i o,l[i]?=some o->evalOp E pc tc nt dep true ops o (f i)=some (f (i+1)):=by
 intro l;induction l with
 | nil=>intro st st' h;simp only[oI,eS]at h;exact⟨λ_=>st,rfl,h,λi o hi=>by simp at hi⟩
 | cons o l d=>
  intro st st' h;simp only[oI,Qn]at h;split at h
  ·rename_i a e;obtain⟨f,b,c,j⟩:=d a st' h;refine⟨λn=>match n with | 0=>st | n+1=>f n,rfl,c,?_⟩;intro i o' hi;cases i with
   | zero=>simp at hi;subst hi;simp only;rw[b];exact e
   | succ i=>exact j i o' (by simpa using hi)
  cases h
inductive ahH (E:Env) (pc:FuncId->List AV->Option AV) (nt dep:Nat) (ops:Array Oper) (o:Oper) (st st2:St):Prop
 | no (hw:wanted ops st.tm o=some false) (tm':List AV) (ht:dP nt st.tm o.dst AV.undef=some tm') (he:st2=⟨tm',st.hp⟩)
 | quiet (hw:wanted ops st.tm o=some true) (x:AV) (bs:List bC) (hq:dq E pc true st.hp.get st.tm ⟨dep,o.dst.getD 0,st.hp.gen dep (o.dst.getD 0),0⟩ o=some (x,bs)) (tm':List AV)
  (ht:dP nt st.tm o.dst x=some tm') (he:st2=⟨tm',keyed ⟨dep,o.dst.getD 0,st.hp.gen dep (o.dst.getD 0),0⟩ 0 bs st.hp⟩)
 | write (hk:jQ E o=true)
def pg{E:Env}{pc:FuncId->List AV->Option AV}{tc:vl->List AV->aa->dA}{nt dep:Nat}{ops:Array Oper}{o:Oper}{st a:St}(h:evalOp E pc tc nt dep true ops o st=some a):ahH E pc nt dep ops o st a:=by
 unfold evalOp at h;split at h;·cases h
 ·rename_i b;simp only[bU]at h;obtain⟨tm',c,rfl⟩:=h;exact .no b tm' c rfl
 rename_i b;split at h;·rename_i x bs d;simp only[bU]at h;obtain⟨tm',c,rfl⟩:=h;exact .quiet b x bs d tm' c rfl
 split at h;·cases h
 rename_i e;refine .write ?_;simpa using e
def Mz{E:Env}{o:Oper}(h:jQ E o=true):k8 o.op=true:=by
 unfold jQ at h;have d:(E.jq o&&B9 o.op)=true->k8 o.op=true:=by
  intro h;replace h:=(ye.1 h).2;unfold B9 at h;split at h;·rename_i a;rw[a];rfl
  cases h
 by_cases e:(E.jq o&&B9 o.op)=true;·exact d e
 replace h:=(G0.1 h).resolve_right e;replace h:=(ye.1 h).2;unfold wOp at h;split at h;·rename_i a;rw[a];rfl
 ·rename_i a;rw[a];rfl
 ·rename_i a;rw[a];rfl
 ·rename_i a;rw[a];rfl
 ·rename_i a;rw[a];rfl
 ·rename_i c a;rw[a];unfold k8;split at h;·rename_i b;simp[b]
  ·rename_i b;simp[b]
  ·rename_i b;simp[b]
  ·rename_i b;simp[b]
  cases h
 cases h
def Tc{E:Env}{pc:FuncId->List AV->Option AV}{g:dv}{tm:List AV}{r:Ref}{o:Oper}(d:k8 o.op=false){x:AV}{bs:List bC}(h:dq E pc true g tm r o=some (x,bs)) :
 bs=[] /\∀C r',dq E pc true C tm r' o=some (x,bs):=by
 have v : ∀ {y:Option AV},ku y=some (x,bs)->bs=[]:=λh=>(sq h).2;unfold dq at h ⊢;simp only[AI,CN,iQt,zP]at h ⊢;split at h;·exact⟨v h,λ_ _=>h⟩
 ·exact⟨v h,λ_ _=>h⟩
 ·refine⟨?_,λ_ _=>h⟩;unfold Ig at h;split at h;·exact v h
  ·exact v h
  cases h
 ·rename_i a;rw[a]at d;simp[k8]at d
 ·rename_i a;rw[a]at d;simp[k8]at d
 ·refine⟨?_,λ_ _=>h⟩;unfold oK at h;(repeat' split at h)<;>(try simp_all)<;>(try (obtain⟨_,_,_,h⟩:=h;exact h))
 ·rename_i a;rw[a]at d;simp[k8]at d
 ·rename_i a;rw[a]at d;simp[k8]at d
 ·refine⟨?_,λ_ _=>h⟩;unfold No at h;(repeat' split at h)<;>(try simp_all)<;>(try (obtain⟨_,_,_,h⟩:=h;exact h))
 ·refine⟨?_,λ_ _=>h⟩;unfold bZ at h;(repeat' split at h)<;>first | exact v h | (simp_all;done)
 ·exact⟨v h,λ_ _=>h⟩
 ·rename_i a;rw[a]at d;simp[k8]at d
 ·refine⟨?_,λ_ _=>h⟩;unfold zN at h;(repeat' split at h)<;>(try simp_all)<;>(try (obtain⟨_,_,_,h⟩:=h;exact h))
 ·refine⟨?_,λ_ _=>h⟩;unfold yR at h;(repeat' split at h)<;>(try simp_all)<;>(try (obtain⟨_,_,_,h⟩:=h;exact h))
 ·rename_i a;rw[a]at d;simp[k8]at d
 ·rename_i a;rw[a]at d;simp[k8]at d
 ·rename_i a;rw[a]at d;simp[k8]at d
 ·rename_i a;rw[a]at d;simp[k8]at d
 ·refine⟨?_,λ_ _=>h⟩;unfold kM at h;(repeat' split at h)<;>(try simp_all)<;>(try (obtain⟨_,_,_,h⟩:=h;exact h))
 ·refine⟨?_,λ_ _=>h⟩;unfold uV at h;(repeat' split at h)<;>first | exact v h | (simp_all;done)
 ·rename_i a;rw[a]at d;simp[k8]at d
 ·refine⟨?_,λ_ _=>h⟩;unfold xG at h;(repeat' split at h)<;>first | exact v h | (simp_all;done)
 ·refine⟨?_,λ_ _=>h⟩;unfold BK at h;(repeat' split at h)<;>(try simp_all)<;>(try (obtain⟨_,_,_,h⟩:=h;exact h))
 ·refine⟨?_,λ_ _=>h⟩;unfold uE at h;(repeat' split at h)<;>first | exact v h | (simp_all;done)
 ·rename_i c a;rw[a]at d;simp only[k8]at d;split at h;·cases h
  rename_i args e;split at h;·rename_i f;rw[f]at d;simp at d
  ·cases h
  rename_i b f;rw[f]at d;unfold eD at h;split at h;·have j:P4 c=false:=(by simpa using d);unfold P4 at j;rw[j]at h;simp at h
  ·rename_i k;refine⟨?_,λ_ _=>by simpa [e,f,eD] using h⟩;unfold JA at h;(repeat' split at h)<;>(try simp_all)<;>(try (obtain⟨_,_,_,h⟩:=h;exact h))<;>(try (obtain⟨n,_,h⟩:=jb.1 h;simp at h;exact h.2))
  ·exact⟨v h,λ_ _=>by simpa [e,f,eD] using h⟩
  ·exact⟨v h,λ_ _=>by simpa [e,f,eD] using h⟩
  ·simp at d
  ·simp at d
  cases h
 cases h
def NL{o:Op}(h:NM o=true) : ∃c,o = .call c/\c.callee = .builtin .len:=by
 unfold NM at h;split at h
 ·rename_i c;split at h;·rename_i a;exact⟨c,rfl,a⟩
  cases h
 cases h
def jd{E:Env}{o:Oper}(h:jQ E o=true):xU E o=true:=by
 unfold xU;rw[Mz h,ig];cases b:NM o.op with
 | false=>simp
 | true=>exfalso;obtain⟨c,a,d⟩:=NL b;simp[jQ,a,wOp,d,B9]at h
def yT{E:Env}{pc:FuncId->List AV->Option AV}{g:dv}{tm:List AV}{r:Ref}{o:Oper}(a:xU E o=false){x:AV}{bs:List bC}(h:dq E pc true g tm r o=some (x,bs)) :
 bs=[] /\∀C r',dq E pc true C tm r' o=some (x,bs):=by
 cases hp:k8 o.op with| false=>exact Tc hp h| true=>
  unfold xU at a;rw[hp,ig]at a;obtain⟨f,e⟩:=ye.1 (by simpa using a:(E.strict o&&NM o.op)=true);obtain⟨c,d,k⟩:=NL e;unfold dq at h ⊢;simp only[d,k,f,iQT,GW]at h ⊢;split at h;·cases h
  rename_i args b;unfold eD at h ⊢;split at h;·simp at h
  ·rename_i y j;refine⟨?_,λ_ _=>?_⟩;·unfold JA at h;(repeat' split at h)<;>(try simp_all)<;>(try (obtain⟨_,_,_,h⟩:=h;exact h))<;>(try (obtain⟨n,_,h⟩:=jb.1 h;simp at h;exact h.2))
   exact h
  all_goals (first | cases h | simp_all)
end
section
def ik(ops:Array Oper)(dep:Nat)(sts:Nat->St)(i:Nat):Ref:=⟨dep,(j2 ops i).getD 0,(sts i).hp.gen dep ((j2 ops i).getD 0),0⟩
def newAt(E:Env)(pc:FuncId->List AV->Option AV)(ops:Array Oper)(dep:Nat)(sts:Nat->St)(i:Nat):List bC:=
 match ops[i]? with
 | none=>[]
 | some o=>if xU E o && !lk E ops i then
  match wanted ops (sts i).tm o with
  | some true=>(match dq E pc true (sts i).hp.get (sts i).tm (ik ops dep sts i) o with
   | some (_,bs)=>bs
   | none=>[])
  | _=>[]
  else []
def gF(a:dv)(key:Nat->Ref)(new:Nat->List bC)(L:Nat->Bool):Nat->dv
 | 0=>a
 | i+1=>if L i then tV (gF a key new L i) (key i) (new i) else gF a key new L i
def mt(key:Nat->Ref)(new:Nat->List bC)(i:Nat)(q:Ref):Prop:=q.d=(key i).d/\q.t=(key i).t/\q.g=(key i).g/\q.k<(new i).length
def ug{b:dv}{key:Nat->Ref}{new:Nat->List bC}{L:Nat->Bool}{q:Ref} : ∀n,(∀i,i<n->L i=true ->¬mt key new i q)->gF b key new L n q=b q:=by
 intro n;induction n with
 | zero=>intro _;rfl
 | succ n a=>
  intro h;simp only[gF];split;·rename_i c;exact(if_neg (h n (sg n) c)).trans (a λi hi=>h i (CO hi))
  exact a λi hi=>h i (CO hi)
def C7{d:dv}{key:Nat->Ref}{new:Nat->List bC}{L:Nat->Bool}{q:Ref}(a : ∀i j,mt key new i q->mt key new j q->i=j){i:Nat}(c:mt key new i q)(l:L i=true) :
 ∀n,i<n->gF d key new L n q=(new i)[q.k]?:=by
 intro n;induction n with
 | zero=>intro h;omega
 | succ n f=>
  intro h;simp only[gF];by_cases b:i=n;·subst b;rw[if_pos l];exact if_pos c
  have:gF d key new L n q=(new i)[q.k]?:=f (by omega);split;·exact(if_neg (λe=>b (a i n c e))).trans this
  exact this
section
variable{E:Env}{pc:FuncId->List AV->Option AV}{tc:vl->List AV->aa->dA}{nt dep:Nat}{ops:Array Oper}{sts:Nat->St}
def TS(ops:Array Oper)(sts:Nat->St)(L:Nat->Bool)(tm:List AV):Prop:=
 ∀t,(∀i,i<ops.size->L i=true->j2 ops i=some t->dE tm t=dE (sts (i+1)).tm t)/\((∀i,i<ops.size->L i=true->j2 ops i≠some t)->dE tm t=dE (sts 0).tm t)
def wW{tm tm':List AV}{dst:Option Tmp}{x:AV}(h:dP nt tm dst x=some tm')(t:Nat):dE tm' t=if dst=some t then x else dE tm t:=by
 unfold dP at h;split at h;·injection h with h;subst h;simp
 rename_i d;obtain⟨_,h⟩:=fP.1 h;injection h with h
 subst h;rw[tI];by_cases a:t=d;·subst a;simp
 rw[if_neg a,if_neg (by intro e;injection e with e;exact a e.symm)]
def mw{tm tm' tm1:List AV}{dst:Option Tmp}{x:AV}(h:dP nt tm dst x=some tm') : ∃a,dP nt tm1 dst x=some a:=by
 unfold dP at h ⊢;cases dst with
 | none=>exact⟨_,rfl⟩
 | some d=>simp only at h ⊢;obtain⟨hd,_⟩:=fP.1 h;rw[if_pos hd];exact⟨_,rfl⟩
def MX{o:Oper}{i:Nat}(A:evalOp E pc tc nt dep true ops o (sts i)=some (sts (i+1))) : ∃x,dP nt (sts i).tm o.dst x=some (sts (i+1)).tm:=by
 unfold evalOp at A;split at A;·cases A
 ·simp only[bU]at A;obtain⟨tm',a,he⟩:=A;exact⟨_,by rw[<-he];exact a⟩
 split at A;·simp only[bU]at A;obtain⟨tm',a,he⟩:=A;exact⟨_,by rw[<-he];exact a⟩
 split at A;·cases A
 split at A;·simp only[bU]at A;obtain⟨tm',a,he⟩:=A;exact⟨_,by rw[<-he];exact a⟩
 cases A
section
variable(B:RegB ops)(A : ∀i o,ops[i]?=some o->evalOp E pc tc nt dep true ops o (sts i)=some (sts (i+1)))
include B A
omit A in
theorem WZ{i j:Nat}{t:Nat}(hi:j2 ops i=some t)(a:j2 ops j=some t):i=j:=by
 simp only[j2,jb]at hi a;obtain⟨oi,e,d⟩:=hi;obtain⟨c,b,f⟩:=a;exact B.distinct i j oi c t e b d f
theorem Lt : ∀i,i<=ops.size->TS ops sts (λj=>decide (j<i)) (sts i).tm:=by
 intro i;induction i with
 | zero=>intro _ t;exact⟨λj _ f=>by simp at f,λ_=>rfl⟩
 | succ i q=>
  intro l t;have c:i<ops.size:=l;have m:=kY c;obtain⟨x,u⟩:=MX (A i _ m);have hd:j2 ops i=ops[i].dst:=by simp[j2,m]
  have n:=wW u t;obtain⟨s,p⟩:=q (by omega) t;refine⟨λj f b k=>?_,λd=>?_⟩
  ·simp only[iQb]at b;by_cases h:j=i;·subst h;rfl
   have a:ops[i].dst≠some t:=(by intro e;rw[<-hd]at e;exact h (WZ B k e));rw[n,if_neg a];exact s j f (by simp;omega) k
  have a:ops[i].dst≠some t:=by rw[<-hd];exact d i c (by simp)
  rw[n,if_neg a];exact p λj f b=>d j f (by simp at b ⊢;omega)
theorem Ic{L:Nat->Bool}(u:rr ops L){i:Nat}{o:Oper}(p:ops[i]?=some o)(hi:L i=false)(q : ∀e∈gf o,L e=true){tm:List AV}(D:TS ops sts L tm){t:Nat}(v:t∈o.looksAt ops) :
 dE tm t=dE (sts i).tm t:=by
 have F:i<ops.size:=(jx.1 p).1;obtain⟨I,y⟩:=D t;obtain⟨G,x⟩:=Lt B A i (by omega) t;by_cases k : ∃j,j<ops.size/\L j=true/\j2 ops j=some t
 ·obtain⟨j,l,c,b⟩:=k;have a:=b;simp only[j2,jb]at a;obtain⟨n,f,h⟩:=a;have s:j≠i:=by intro e;rw[e,hi]at c;cases c
  rcases B.reads i j o n t p f s h v with ⟨m,_⟩ | ⟨_,d⟩
  ·rw[I j l c b,G j l (by simpa using m) b]
  have:=wz u j n f (λe H=>u j n c f e H) i d;rw[hi]at this;cases this
 rw[y λj l c b=>k ⟨j,l,c,b⟩];refine(x λj l c b=>?_).symm;simp only[iQb]at c;have a:=b;simp only[j2,jb]at a;obtain⟨n,f,h⟩:=a;rcases B.reads i j o n t p f (by omega) h v with ⟨_,d⟩ | ⟨z,_⟩
 ·exact k ⟨j,l,wz u i o p q j d,b⟩
 omega
omit A in
theorem vq{L s:Nat->Bool}{i:Nat}{o:Oper}(q:ops[i]?=some o)(b : ∀j,s j=true↔(L j=true\/j=i))(hi:L i=false){tm tm':List AV}(v:TS ops sts L tm){x:AV}(z:dP nt (sts i).tm o.dst x=some (sts (i+1)).tm)
 (m:dP nt tm o.dst x=some tm'):TS ops sts s tm':=by
 intro t;have n:i<ops.size:=(jx.1 q).1;have hd:j2 ops i=o.dst:=by simp[j2,q]
 obtain⟨y,u⟩:=v t;have g1:=wW z t;have p:=wW m t;refine⟨λj k d a=>?_,λf=>?_⟩
 ·rcases(b j).1 d with h | h
  ·have l:j≠i:=by intro e;rw[e,hi]at h;cases h
   have c:o.dst≠some t:=by rw[<-hd];intro e;exact l (WZ B a e)
   rw[p,if_neg c];exact y j k h a
  subst h;rw[hd]at a;rw[p,if_pos a,g1,if_pos a]
 have c:o.dst≠some t:=by rw[<-hd];exact f i n ((b i).2 (.inr rfl))
 rw[p,if_neg c];exact u λj k d=>f j k ((b j).2 (.inl d))
end
variable(B:Xv E ops)(A : ∀i o,ops[i]?=some o->evalOp E pc tc nt dep true ops o (sts i)=some (sts (i+1)))
include B A
abbrev Zr(ops:Array Oper)(dep:Nat)(sts:Nat->St):Nat->Ref:=ik ops dep sts
omit B A in
theorem uG{i:Nat}(h:newAt E pc ops dep sts i≠[]) : ∃o,ops[i]?=some o/\xU E o=true/\lk E ops i=false:=by
 unfold newAt at h;split at h;·exact absurd rfl h
 rename_i o b;split at h;·rename_i a;simp only[bI,ij]at a;exact⟨o,b,a.1,a.2⟩
 exact absurd rfl h
omit A in
theorem LR{q:Ref}(i j:Nat)(h:mt (ik ops dep sts) (newAt E pc ops dep sts) i q)(f:mt (ik ops dep sts) (newAt E pc ops dep sts) j q):i=j:=by
 have ne : ∀ {i},mt (ik ops dep sts) (newAt E pc ops dep sts) i q->newAt E pc ops dep sts i≠[]:=by
  intro i h e;have:=h.2.2.2;rw[e]at this;simp at this
 obtain⟨oi,c,p,m⟩:=uG (ne h);obtain⟨k,d,v,s⟩:=uG (ne f);obtain⟨l,b⟩:=iB.1 (B.site i oi c p (qK m c (bM _)));obtain⟨u,a⟩:=iB.1 (B.site j k d v (qK s d (bM _)));have n:q.t=l:=by have:=h.2.1;simpa [ik,j2,c,b] using this
 have x:q.t=u:=by have:=f.2.1;simpa [ik,j2,d,a] using this
 exact B.distinct i j oi k l c d b (by rw[a,<-n,<-x])
def noW(E:Env)(ops:Array Oper)(n:Nat):Prop :=∀j o,j<n->ops[j]?=some o->jQ E o=false
omit B A in
theorem Wa{n:Nat}(d:noW E ops (n+1)):lk E ops n=false:=by
 cases h:lk E ops n with| false=>rfl| true=>
  unfold lk at h;rw[KX]at h;obtain⟨k,c,h⟩:=h;have a:=xZ.1 c;split at h;·rename_i o b;rw[d k o a b]at h;cases h
  cases h
omit B in
theorem Lv{n:Nat}(m:n<=ops.size)(c:noW E ops n):(sts n).hp.get=gF (sts 0).hp.get (ik ops dep sts) (newAt E pc ops dep sts) (λ_=>true) n:=by
 induction n with| zero=>rfl| succ n p=>
  have b:=kY (show n<ops.size from m);have f:=p (by omega) (λj o s=>c j o (by omega));simp only[gF,if_true];rw[<-f];have hd:j2 ops n=ops[n].dst:=by simp[j2,b]
  have k:ik ops dep sts n=⟨dep,ops[n].dst.getD 0,(sts n).hp.gen dep (ops[n].dst.getD 0),0⟩:=(by simp[ik,hd]);rcases pg (A n _ b)with ⟨a,tm',q,he⟩ | ⟨a,x,bs,h,tm',q,he⟩ | e
  ·have:newAt E pc ops dep sts n=[]:=(by unfold newAt;rw[b];simp only[a];split<;>rfl);rw[this,oB,he]
  ·have d:=Wa c;rw[he];simp only;rw[aa.n8,<-k];congr 1;unfold newAt;rw[b];simp only[a,k,h,d,zm,GW];cases l:xU E ops[n] with
   | true=>rfl
   | false=>rw[(yT l h).1];rfl
  exact absurd e (by rw[c n _ (sg n) b];simp)
omit B in
theorem MS{n:Nat}(H:n<=ops.size)(s:noW E ops n)(d t:Nat):(sts 0).hp.gen d t<=(sts n).hp.gen d t /\
 ((∀j,j<n->newAt E pc ops dep sts j≠[] ->¬(d=dep/\t=(j2 ops j).getD 0))->(sts n).hp.gen d t=(sts 0).hp.gen d t) /\
 ∀j,j<n->newAt E pc ops dep sts j≠[]->d=dep->t=(j2 ops j).getD 0->(ik ops dep sts j).g<(sts n).hp.gen d t:=by
 induction n with| zero=>exact⟨bM _,λ_=>rfl,λj k=>by omega⟩| succ n I=>
  have l:=kY (show n<ops.size from H);obtain⟨i1,i2,i3⟩:=I (by omega) (λj o k=>s j o (by omega));have hd:j2 ops n=ops[n].dst:=by simp[j2,l]
  have D:ik ops dep sts n=⟨dep,ops[n].dst.getD 0,(sts n).hp.gen dep (ops[n].dst.getD 0),0⟩:=(by simp[ik,hd]);have same:(sts (n+1)).hp=(sts n).hp->newAt E pc ops dep sts n=[]->(sts 0).hp.gen d t<=(sts (n+1)).hp.gen d t /\
   ((∀j,j<n+1->newAt E pc ops dep sts j≠[] ->¬(d=dep/\t=(j2 ops j).getD 0))->(sts (n+1)).hp.gen d t=(sts 0).hp.gen d t) /\
   ∀j,j<n+1->newAt E pc ops dep sts j≠[]->d=dep->t=(j2 ops j).getD 0->(ik ops dep sts j).g<(sts (n+1)).hp.gen d t:=by
   intro F K;rw[F];refine⟨i1,λh=>i2 λj k=>h j (by omega),λj k a=>?_⟩;have:j≠n:=by intro e;rw[e]at a;exact a K
   exact i3 j (by omega) a
  rcases pg (A n _ l)with ⟨f,tm',J,he⟩ | ⟨f,x,bs,z,tm',J,he⟩ | v
  ·refine same (by rw[he]) ?_;unfold newAt;rw[l];simp only[f];split<;>rfl
  ·have u:=Wa s;have m:newAt E pc ops dep sts n=bs:=by
    unfold newAt;rw[l];simp only[f,D,z,u,zm,GW];cases G:xU E ops[n] with
    | true=>rfl
    | false=>rw[(yT G z).1];rfl
   by_cases q:bs=[];·refine same ?_ (by rw[m,q]);rw[he,q];rfl
   rw[he];simp only;rw[aa.nj];simp only[ne_eq,q,not_false_eq_true,iQr];by_cases b:d=dep/\t=ops[n].dst.getD 0
   ·rw[if_pos b];obtain⟨rfl,rfl⟩:=b;refine⟨by omega,λh=>?_,λj k a y p=>?_⟩;·exact absurd ⟨rfl,by rw[hd]⟩ (h n (sg n) (by rw[m];exact q))
    by_cases c:j=n;·rw[c,D];exact sg _
    have:=i3 j (by omega) a rfl p;omega
   rw[if_neg b];refine⟨i1,λh=>i2 λj k=>h j (by omega),λj k a y p=>?_⟩;by_cases c:j=n;·subst c;exact absurd ⟨y,by rw[p,hd]⟩ b
   exact i3 j (by omega) a y p
  exact absurd v (by rw[s n _ (sg n) l];simp)
theorem Kw{ι:Map}(u:uq ι (sts 0).hp){i:Nat}{o:Oper}(c:ops[i]?=some o)(p:xU E o=true)(h:jQ E o=false)(s:noW E ops i)(k:Nat):ι { ik ops dep sts i with k:=k}=none:=by
 have hi:i<ops.size:=(jx.1 c).1;obtain⟨d,hd⟩:=iB.1 (B.site i o c p h);have f:j2 ops i=some d:=by simp[j2,c,hd]
 obtain⟨_,q,_⟩:=MS (pc:=pc) (tc:=tc) (nt:=nt) (dep:=dep) A (jw hi) s dep d;have x:(sts i).hp.gen dep d=(sts 0).hp.gen dep d:=q λj z l y=>by
  obtain⟨n,a,m,e⟩:=uG l;obtain⟨t,b⟩:=iB.1 (B.site j n a m (qK e a (bM _)));have:d=t:=by have:=y.2;simpa [j2,a,b] using this
  exact absurd (B.distinct i j o n d c a hd (by rw[b,this])) (by omega)
 have v:ik ops dep sts i=⟨dep,d,(sts 0).hp.gen dep d,0⟩:=by simp[ik,f,x]
 rw[v];exact u.fresh dep d k
end
end
section
def Bg{ops:Array Oper}{o:Oper}{tm tm':List AV}(h : ∀t∈o.looksAt ops,dE tm t=dE tm' t):Ei tm tm' o.op.operands.toList:=by
 intro x a;cases x with
 | tmp t=>simp only[aW];rw[h t];unfold Oper.looksAt;exact K4 _ (List.mem_filterMap.2 ⟨_,a,rfl⟩)
 | _=>rfl
def zn{ops:Array Oper}{o:Oper}{tm tm':List AV}(h : ∀t∈o.looksAt ops,dE tm t=dE tm' t):wanted ops tm o=wanted ops tm' o:=by
 unfold wanted;cases a:o.guard with
 | none=>rfl
 | some p=>
  obtain⟨j,b⟩:=p;simp only;cases hd:(ops[j]?).bind (·.dst) with
  | none=>rfl
  | some t=>simp only;rw[h t];unfold Oper.looksAt;rw[a];simp[hd]
def FV{p p':Nat->Bool}{i:Nat}(c : ∀j,p' j=true->p j=true)(e:p i=true)(d:p' i=false) : ∀l:List Nat,i∈l->l.countP p'<l.countP p:=by
 intro l hi;have mono : ∀l:List Nat,l.countP p'<=l.countP p:=λl=>List.countP_mono_left λx _=>c x;induction l with
 | nil=>cases hi
 | cons a l f=>
  simp only[List.countP_cons];by_cases b:a=i;·subst b;have:=mono l;rw[e,d];simp;omega
  have:=f (by simpa [tC b] using hi);have h:(if p' a=true then 1 else 0)<=(if p a=true then 1 else 0):=by
   by_cases hp:p' a=true;·rw[if_pos hp,if_pos (c a hp)];exact bM _
   rw[if_neg hp];exact Ae _
  omega
def KB{E:Env}{pc:FuncId->List AV->Option AV}{tc:vl->List AV->aa->dA}{nt dep:Nat}{ops:Array Oper}{o:Oper}{st st':St}{tm1:List AV}(h : ∀t∈o.looksAt ops,dE tm1 t=dE st.tm t)
 (a:evalOp E pc tc nt dep true ops o st=some st') : ∃x b,dP nt st.tm o.dst x=some st'.tm/\dP nt tm1 o.dst x=some b/\evalOp E pc tc nt dep true ops o ⟨tm1,st.hp⟩=some ⟨b,st'.hp⟩:=by
 have d:=Bg h;have e:=zn h;unfold evalOp at a ⊢;simp only;rw[e,uL d,WO d];have c : ∀ {x:AV} {H:aa},(dP nt st.tm o.dst x).map (λtm=>(⟨tm,H⟩:St))=some st' ->∃f b,dP nt st.tm o.dst f=some st'.tm/\dP nt tm1 o.dst f=some b/\(dP nt tm1 o.dst x).map (λtm=>(⟨tm,H⟩:St))=some ⟨b,st'.hp⟩:=by
  intro x H m;obtain⟨tm',j,rfl⟩:=bU.1 m;obtain⟨b,l⟩:=mw (tm1:=tm1) j;exact⟨x,b,j,l,by rw[l];rfl⟩
 revert a;generalize wanted ops st.tm o=W;generalize dq E pc true st.hp.get st.tm ⟨dep,o.dst.getD 0,st.hp.gen dep (o.dst.getD 0),0⟩ o=X;generalize evalW E pc tc st.hp st.tm ⟨dep,o.dst.getD 0,st.hp.gen dep (o.dst.getD 0),0⟩ o=Y;intro a;rcases W with _ | ⟨_ | _⟩
 ·cases a
 ·exact c a
 rcases X with _ | ⟨x,bs⟩
 ·simp only at a ⊢;by_cases k:(true && !jQ E o)=true;·rw[if_pos k]at a;cases a
  rw[if_neg k]at a ⊢;rcases Y with _ | ⟨x,H⟩
  ·cases a
  exact c a
 exact c a
section
variable{E:Env}{pc:FuncId->List AV->Option AV}{tc:vl->List AV->aa->dA}{nt dep:Nat}{ops:Array Oper}{sts:Nat->St}
variable(B:Xv E ops)(A : ∀i o,ops[i]?=some o->evalOp E pc tc nt dep true ops o (sts i)=some (sts (i+1)))
abbrev gL(E:Env)(pc:FuncId->List AV->Option AV)(ops:Array Oper)(dep:Nat)(sts:Nat->St)(L:Nat->Bool)(n:Nat):dv:=gF (sts 0).hp.get (ik ops dep sts) (newAt E pc ops dep sts) L n
structure Xy (E:Env) (pc:FuncId->List AV->Option AV) (ops:Array Oper) (dep:Nat) (sts:Nat->St) (M:Mem) (ι:Map) (w:World) (L:Nat->Bool) (M1:Mem) (ι1:Map) (w1:World):Prop where
 quiet : ∀i o,L i=true->ops[i]?=some o->xU E o=true->lk E ops i=false
 sim:iA M1 ι1 (gL E pc ops dep sts L ops.size) w1
 fwd:vg M ι (sts 0).hp.get w M1 ι1 (gL E pc ops dep sts L ops.size) w1
 dom : ∀q,ι q=none->(∀i,i<ops.size->L i=true ->¬mt (ik ops dep sts) (newAt E pc ops dep sts) i q)->ι1 q=none
structure TZ (E:Env) (ops:Array Oper) (sts:Nat->St) (M:Mem) (ι:Map) (w:World) (L:Nat->Bool) (M1:Mem) (ι1:Map) (w1:World) (k:Nat):Prop where
 le:k<=ops.size
 wrote : ∃j o,j<k/\ops[j]?=some o/\jQ E o=true
 upto : ∀i o,ops[i]?=some o->xU E o=true->(L i=true↔i<k)
 sim:iA M1 ι1 (sts k).hp.get w1
 dom:uq ι1 (sts k).hp
 fwd:vg M ι (sts 0).hp.get w M1 ι1 (sts k).hp.get w1
structure Inv (E:Env) (pc:FuncId->List AV->Option AV) (nt:Nat) (ops:Array Oper) (dep:Nat) (sts:Nat->St) (M:Mem) (ι:Map) (w:World) (ds:List Deferred) (L:Nat->Bool) (a1:Act) (w1:World):Prop where
 closed:rr ops L
 defers:a1.defers=ds
 at_ : ∃M1 ι1 tm1,TS ops sts L tm1/\TR M1 ι1 tm1 a1/\a1.tmps.size=nt/\(Xy E pc ops dep sts M ι w L M1 ι1 w1 \/∃k,TZ E ops sts M ι w L M1 ι1 w1 k)
theorem rr.next{L d:Nat->Bool}{i:Nat}{o:Oper}(n:rr ops L)(m:ops[i]?=some o)(c : ∀e∈gf o,L e=true)(b : ∀j,d j=true↔(L j=true\/j=i)):rr ops d:=by
 intro j k l a e f;rcases(b j).1 l with h | h
 ·exact(b e).2 (.inl (n j k h a e f))
 subst h;rw[m]at a;injection a with a
 subst a;exact(b e).2 (.inl (c e f))
theorem Tp(r:Ref)(H:aa):keyed r 0 [] H=H:=rfl
include A in
theorem NS{k:Nat} : ∀n,k<=n->n<=ops.size->(∀j o,k<=j->j<n->ops[j]?=some o->xU E o=false)->(sts n).hp=(sts k).hp:=by
 intro n;induction n with
 | zero=>intro h _ _;rw[GR.1 h]
 | succ n p=>
  intro t m h;rcases fQ n k with l | c
  ·rw[show k=n+1 by omega]
  have f:=kY (show n<ops.size from m);have d:=h n _ c (sg n) f;rw[<-p c (by omega) λj o a b=>h j o a (by omega)];rcases pg (A n _ f)with ⟨_,tm',s,he⟩ | ⟨_,x,bs,q,tm',s,he⟩ | e
  ·rw[he]
  ·rw[he,(yT d q).1];rfl
  rw[jd e]at d;cases d
theorem V9{i:Nat}{o:Oper}(d:ops[i]?=some o)(e:xU E o=true)(b:lk E ops i=false):noW E ops i:=
 λj f c a=>qK b a (jw c)
include B A in
theorem Wf{ι:Map}(h:uq ι (sts 0).hp){i:Nat}{q:Ref}(d:mt (ik ops dep sts) (newAt E pc ops dep sts) i q):ι q=none:=by
 have b:newAt E pc ops dep sts i≠[]:=by
  intro e;have:=d.2.2.2;rw[e]at this;simp at this
 obtain⟨o,c,f,a⟩:=uG b;have:=Kw (pc:=pc) (tc:=tc) (nt:=nt) B A h c f (qK a c (bM _)) (V9 c f a) q.k;rwa [show({ ik ops dep sts i with k:=q.k}:Ref)=q by
  obtain⟨m,l,j,n⟩:=d;cases q;simp_all]at this
include B in
theorem WI{L l:Nat->Bool}{i:Nat}(hi:i<ops.size)(d : ∀j,l j=true↔(L j=true\/j=i)):gL E pc ops dep sts l ops.size=tV (gL E pc ops dep sts L ops.size) (ik ops dep sts i) (newAt E pc ops dep sts i):=by
 funext q;unfold tV;have c : ∀i j,mt (ik ops dep sts) (newAt E pc ops dep sts) i q->mt (ik ops dep sts) (newAt E pc ops dep sts) j q->i=j:=λi j=>LR B i j;split;·rename_i k;exact C7 c (i:=i) k ((d i).2 (.inr rfl)) ops.size hi
 rename_i k;by_cases e : ∃j,j<ops.size/\L j=true/\mt (ik ops dep sts) (newAt E pc ops dep sts) j q;·obtain⟨j,f,b,a⟩:=e;rw[gL,C7 c a ((d j).2 (.inl b)) _ f,gL,C7 c a b _ f]
 rw[gL,ug,gL,ug];·intro j f b a;exact e ⟨j,f,b,a⟩
 intro j f b a;rcases(d j).1 b with h | h
 ·exact e ⟨j,f,h,a⟩
 subst h;exact k a
include B in
theorem RJ{L:Nat->Bool}{n:Nat}(v:n<=ops.size)(h : ∀j o,j<ops.size->ops[j]?=some o->xU E o=true->lk E ops j=false->(L j=true↔j<n)):gL E pc ops dep sts (λ_=>true) n=gL E pc ops dep sts L ops.size:=by
 funext q;have b : ∀i j,mt (ik ops dep sts) (newAt E pc ops dep sts) i q->mt (ik ops dep sts) (newAt E pc ops dep sts) j q->i=j:=λi j=>LR B i j;have made : ∀ {j},mt (ik ops dep sts) (newAt E pc ops dep sts) j q ->∃o,ops[j]?=some o/\xU E o=true/\lk E ops j=false:=by
  intro j t;refine uG (pc:=pc) (dep:=dep) (sts:=sts) ?_;intro e;have:=t.2.2.2;rw[e]at this;simp at this
 by_cases f : ∃j,mt (ik ops dep sts) (newAt E pc ops dep sts) j q
 ·obtain⟨j,c⟩:=f;obtain⟨o,s,u,m⟩:=made c;have p:j<ops.size:=(jx.1 s).1;have d:=h j o p s u m;by_cases k:j<n;·rw[gL,C7 b c rfl _ k,gL,C7 b c (d.2 k) _ p]
  rw[gL,ug,gL,ug];·intro i hi l a;have:=b i j a c;subst this;exact k (d.1 l)
  intro i hi l a;have:=b i j a c;omega
 rw[gL,ug _ (λi _ _ a=>f ⟨i,a⟩),gL,ug _ (λi _ _ a=>f ⟨i,a⟩)]
include A in
theorem Oh{M:Mem}{ι b:Map}(D:uq ι (sts 0).hp){L:Nat->Bool}{n:Nat}(H:n<=ops.size)(x:noW E ops n)
 (p : ∀q,ι q=none->(∀i,i<ops.size->L i=true ->¬mt (ik ops dep sts) (newAt E pc ops dep sts) i q)->b q=none)
 (u : ∀q l,ι q=some l->b q=some l) (h : ∀j o,j<ops.size->ops[j]?=some o->xU E o=true->lk E ops j=false->L j=true->j<n):uq b (sts n).hp:=by
 intro q l v;obtain⟨z,J,F⟩:=MS (pc:=pc) (tc:=tc) (nt:=nt) (dep:=dep) A H x q.d q.t;cases f:ι q with
 | some I=>exact AE (D q I f) z
 | none=>
  by_cases k : ∃i,i<ops.size/\L i=true/\mt (ik ops dep sts) (newAt E pc ops dep sts) i q;·obtain⟨i,hi,c,a⟩:=k;have m:newAt E pc ops dep sts i≠[]:=(by intro e;have:=a.2.2.2;rw[e]at this;simp at this);obtain⟨o,y,G,s⟩:=uG m;have:=F i (h i o hi y G s c) m a.1 a.2.1;rw[a.2.2.1];exact this
  rw[p q f λi hi c a=>k ⟨i,hi,c,a⟩]at v;cases v
variable{M:Mem}{ι:Map}{w:World}{ds:List Deferred}
include B A in
theorem Wy(hpc : ∀f xs y,pc f xs=some y->kE E.P f xs y)(htc : ∀f xs H y H',tc f xs H=some (y,H')->nH E.P f xs H y H'){ro:Option Nat}{Q:Exit->Act->World->Prop}
 (hS0:iA M ι (sts 0).hp.get w) (hD0:uq ι (sts 0).hp) {L L':Nat->Bool} {i:Nat} {o:Oper} (D:ops[i]?=some o) (hi:L i=false) (hed : ∀e∈gf o,L e=true)
 (n : ∀j,L' j=true↔(L j=true\/j=i)) {a1:Act} {w1:World} (hI:Inv E pc nt ops dep sts M ι w ds L a1 w1) {K:Act->World->Prop} (hK : ∀a' w',Inv E pc nt ops dep sts M ι w ds L' a' w'->K a' w') :
 if Region.wanted o (yielded ops a1.tmps) then o.wpIn (FW ro) 0 E.P a1 w1 K Q else K (a1.put o.dst undef) w1:=by
 obtain⟨hc,hds,M1,J,tm1,hTS,F,hnt,N⟩:=hI;have R:i<ops.size:=(jx.1 D).1;have hc':rr ops L':=rr.next hc D hed n;have X : ∀t∈o.looksAt ops,dE tm1 t=dE (sts i).tm t:=λt ht=>Ic B.toRegB A hc D hi hed hTS ht;have hag:=Bg X;have hwd:=zn X;have step:=A i o D;have anc:=wz hc i o D hed;cases hb:(xU E o&&lk E ops i) with
 | true=>
  obtain⟨O,hwk⟩:=ye.1 hb;have G : ∀j l,j<i->ops[j]?=some l->xU E l=true->L j=true:=λj l U a c=>anc j (B.writes i j o l D a U O c hwk);have hO:z7 M1 J ⟨tm1,(sts i).hp⟩ nt a1 w1/\vg M ι (sts 0).hp.get w M1 J (sts i).hp.get w1 /\∀j l,ops[j]?=some l->xU E l=true->(L j=true->j<i):=by
   rcases N with d | ⟨k,d⟩
   ·have W:noW E ops i:=by
     intro j l U a;cases W:jQ E l with
     | false=>rfl
     | true=>have:=qK (d.quiet j l (G j l U a (jd W)) a (jd W)) a (bM _);rw[W]at this;cases this
    have hle : ∀j l,ops[j]?=some l->xU E l=true->(L j=true->j<i):=by
     intro j l a c p;rcases EA j i with h | h | h
     ·exact h
     ·subst h;rw[hi]at p;cases p
     have:=Zm hwk (jw h);rw[d.quiet j l p a c]at this;cases this
    have hg:(sts i).hp.get=gL E pc ops dep sts L ops.size:=(by rw[Lv (pc:=pc) A (jw R) W];exact RJ B (jw R) λj l U a c _=>⟨hle j l a c,λhji=>G j l hji a c⟩);refine⟨⟨by rw[hg];exact d.sim,?_,F,hnt⟩,by rw[hg];exact d.fwd,hle⟩;exact Oh (M:=M) (tc:=tc) (nt:=nt) A hD0 (jw R) W d.dom d.fwd.map λj l _ a c _=>hle j l a c
   have hki:k<=i:=by
    rcases fQ i k with h | h
    ·rw[(d.upto i o D O).2 h]at hi;cases hi
    exact h
   have hst:(sts i).hp=(sts k).hp:=NS A i hki (jw R) λj l hkj hji a=>by
    cases c:xU E l with| false=>rfl| true=>have:=(d.upto j l a c).1 (G j l hji a c);omega
   refine⟨⟨by rw[hst];exact d.sim,by rw[hst];exact d.dom,F,hnt⟩,by rw[hst];exact d.fwd,λj l a c p=>?_⟩;have:=(d.upto j l a c).1 p;omega
  obtain⟨hO,hF,hle⟩:=hO;obtain⟨x,m,hx,s,hev⟩:=KB X step;refine Fi (E:=E) (Q:=Q) hO hpc htc (λh=>by cases h) (.inl rfl) hev λa' w' ⟨⟨M',z,hO',hF'⟩,hd'⟩=>hK a' w' ⟨hc',hd'.trans hds,M',z,m,?_,hO'.tr,hO'.nt,.inr ⟨i+1,?_⟩⟩;·exact vq B.toRegB D n hi hTS hx s
  obtain⟨j0,o0,hj0,ho0,hw0⟩:=agG hwk;refine⟨R,⟨j0,o0,by omega,ho0,hw0⟩,λj l a c=>⟨λU=>?_,λU=>?_⟩,hO'.sim,hO'.dom,hF.trans hF'⟩
  ·rcases(n j).1 U with h | h
   ·exact CO (hle j l a c h)
   omega
  rcases fQ j i with h | h
  ·exact(n j).2 (.inl (G j l h a c))
  exact(n j).2 (.inr (by omega))
 | false=>
  have hnl:xU E o=true->lk E ops i=false:=(by intro O;rw[O,ig]at hb;exact hb);have hk:ik ops dep sts i=⟨dep,o.dst.getD 0,(sts i).hp.gen dep (o.dst.getD 0),0⟩:=(by simp[ik,j2,D]);have still : ∀(u:Value)(x:AV)(m:List AV)(w':World)(M':Mem)(z:Map),newAt E pc ops dep sts i=[]->(N:(Xy E pc ops dep sts M ι w L M1 J w1->Xy E pc ops dep sts M ι w L M' z w') /\∀k,TZ E ops sts M ι w L M1 J w1 k->TZ E ops sts M ι w L M' z w' k) ->
   (xU E o=false \/∀k,¬TZ E ops sts M ι w L M1 J w1 k)->dP nt (sts i).tm o.dst x=some (sts (i+1)).tm->dP nt tm1 o.dst x=some m->TR M' z m (a1.put o.dst u)->(a1.put o.dst u).tmps.size=nt ->
   Inv E pc nt ops dep sts M ι w ds L' (a1.put o.dst u) w':=by
   intro u x m w' M' z hnil hcs T hx s htr hn;refine⟨hc',(jh _ _ _).trans hds,M',z,m,vq B.toRegB D n hi hTS hx s,htr,hn,?_⟩;rcases N with d | ⟨k,d⟩
   ·have I:=hcs.1 d;have hg:gL E pc ops dep sts L' ops.size=gL E pc ops dep sts L ops.size:=by rw[WI B R n,hnil,oB]
    refine .inl ⟨λj l U a c=>?_,by rw[hg];exact I.sim,by rw[hg];exact I.fwd,λq hq hno=>I.dom q hq λj U p=>hno j U ((n j).2 (.inl p))⟩;rcases(n j).1 U with h | h
    ·exact I.quiet j l h a c
    subst h;rw[D]at a;injection a with a;rw[<-a]at c;exact hnl c
   have I:=hcs.2 k d;refine .inr ⟨k,I.le,I.wrote,λj l a c=>?_,I.sim,I.dom,I.fwd⟩;rcases T with T | T
   ·rw[<-I.upto j l a c,n j];constructor
    ·rintro(h | h);·exact h
     subst h;rw[D]at a;injection a with a;rw[<-a,T]at c;cases c
    exact .inl
   exact absurd d (T k)
  have Y:xU E o=true ->∀k,¬TZ E ops sts M ι w L M1 J w1 k:=by
   intro O k d;obtain⟨j,l,hjk,a,hwj⟩:=d.wrote;rcases fQ i k with h | h
   ·rw[(d.upto i o D O).2 h]at hi;cases hi
   have:=Rz a hwj (show j<=i by omega);rw[hnl O]at this;cases this
  have T:xU E o=false \/∀k,¬TZ E ops sts M ι w L M1 J w1 k:=by
   cases O:xU E o with| false=>exact .inl rfl| true=>exact .inr (Y O)
  rcases pg step with ⟨W,tm',ht,he⟩ | ⟨W,x,bs,hq,tm',ht,he⟩ | hwk'
  ·rw[<-hwd]at W;rw[kF F W];simp only[gB,iQe];have hx:dP nt (sts i).tm o.dst AV.undef=some (sts (i+1)).tm:=by rw[he];exact ht
   obtain⟨m,s⟩:=mw (tm1:=tm1) hx;obtain⟨h1,h2⟩:=F.put hnt s (u:=undef) (.v rfl);refine hK _ _ (still undef AV.undef m w1 M1 J ?_ ⟨id,λ_=>id⟩ T hx s h1 h2);unfold newAt;rw[D];rw[hwd]at W;simp only[W];split<;>rfl
  ·have hw':=W;rw[<-hwd]at W;rw[kF F W];simp only[if_true];have hx:dP nt (sts i).tm o.dst x=some (sts (i+1)).tm:=by rw[he];exact ht
   obtain⟨m,s⟩:=mw (tm1:=tm1) hx;cases O:xU E o with
   | false=>
    obtain⟨hbs,hall⟩:=yT O hq;subst hbs;have hnil:newAt E pc ops dep sts i=[]:=(by unfold newAt;rw[D];simp[O]);rcases N with d | ⟨k,d⟩
    ·have S : ∀k,J { (⟨dep+1,0,(sts 0).hp.gen (dep+1) 0,0⟩:Ref)with k:=k}=none:=λk=>d.dom _ (hD0.fresh _ _ k) λj _ _ hm=>by
      have:=hm.1;simp only[ik]at this;omega
     have hq':dq E pc true (gL E pc ops dep sts L ops.size) tm1 ⟨dep+1,0,(sts 0).hp.gen (dep+1) 0,0⟩ o=some (x,[]):=by rw[uL hag];exact hall _ _
     refine yZ (E:=E) (o:=o) d.sim F rfl S hpc (λh=>by cases h) hq' ro K Q λu w' ⟨M',z,h1,h2,h3,h4⟩=>hK _ _ ?_;rw[oB]at h2 h3;obtain⟨h5,h6⟩:=(F.mono h3.mem h3.map).put hnt s h1;refine still u x m w' M' z hnil ⟨λ_=>⟨d.quiet,h2,d.fwd.trans h3,λq hq hno=>h4 q (d.dom q hq hno) (λk hk=>by simp at hk)⟩,λk hl=>?_⟩ (.inl O) hx s h5 h6;obtain⟨j,l,hjk,a,hwj⟩:=hl.wrote;have:=qK (d.quiet j l ((hl.upto j l a (jd hwj)).2 hjk) a (jd hwj)) a (bM _);rw[hwj]at this;cases this
    have hq':dq E pc true (sts k).hp.get tm1 ⟨dep,0,(sts k).hp.gen dep 0,0⟩ o=some (x,[]):=by rw[uL hag];exact hall _ _
    refine yZ (E:=E) (o:=o) d.sim F rfl (λk'=>d.dom.fresh dep 0 k') hpc (λh=>by cases h) hq' ro K Q λu w' hout=>hK _ _ ?_;obtain⟨M',z,h1,h2,h3,h4⟩:=hout.toW d.dom;rw[Tp]at h2 h3 h4;obtain⟨h5,h6⟩:=(F.mono h3.mem h3.map).put hnt s h1;refine⟨hc',(jh _ _ _).trans hds,M',z,m,vq B.toRegB D n hi hTS hx s,h5,h6,.inr ⟨k,d.le,d.wrote,λj l a c=>?_,h2,h4,d.fwd.trans h3⟩⟩;rw[<-d.upto j l a c,n j];constructor
    ·rintro(h | h);·exact h
     subst h;rw[D]at a;injection a with a;rw[<-a,O]at c;cases c
    exact .inl
   | true=>
    rcases N with d | ⟨k,d⟩
    ·have hlk:=hnl O;have hwk:=qK hlk D (bM _);have hnw:=V9 D O hlk;have hbs:newAt E pc ops dep sts i=bs:=(by unfold newAt;rw[D];simp only[hw',hk,hq,O,hlk,zm,GW,if_true]);rw[<-hk,Lv (pc:=pc) A (jw R) hnw]at hq;have hloc:Ep J (gF (sts 0).hp.get (ik ops dep sts) (newAt E pc ops dep sts) (λ_=>true) i) (gL E pc ops dep sts L ops.size):=by
      intro q b hg hne;have Z : ∀i j,mt (ik ops dep sts) (newAt E pc ops dep sts) i q->mt (ik ops dep sts) (newAt E pc ops dep sts) j q->i=j:=λi j=>LR B i j;by_cases hex : ∃j,mt (ik ops dep sts) (newAt E pc ops dep sts) j q
      ·obtain⟨j,hjm⟩:=hex;have hf:ι q=none:=Wf (tc:=tc) (nt:=nt) B A hD0 hjm;have hjs:j<ops.size:=(by have:newAt E pc ops dep sts j≠[]:=(by intro e;have:=hjm.2.2.2;rw[e]at this;simp at this);obtain⟨l,a,_⟩:=uG this;exact(jx.1 a).1);cases p:L j with
       | false=>exact absurd (d.dom q hf λi' _ hL V=>by rw[Z i' j V hjm,p]at hL;cases hL) hne
       | true=>
        by_cases hji:j<i;·rw[C7 Z hjm rfl _ hji]at hg;rw[gL,C7 Z hjm p _ hjs];exact hg
        rw[ug _ (λi' hi' _ V=>by have:=Z i' j V hjm;omega),hS0.Zh hf]at hg;cases hg
      rw[ug _ (λi' _ _ V=>hex ⟨i',V⟩)]at hg;rw[gL,ug _ (λi' _ _ V=>hex ⟨i',V⟩)];exact hg
     rw[<-uL hag]at hq;have hq':=Fh d.sim hloc F hq;have S : ∀k,J { ik ops dep sts i with k:=k}=none:=λk=>d.dom _ (Kw (pc:=pc) (tc:=tc) (nt:=nt) B A hD0 D O hwk hnw k) λj _ p hm=>by
      have hne:newAt E pc ops dep sts j≠[]:=(by intro e;have:=hm.2.2.2;rw[e]at this;simp at this);obtain⟨l,a,c,hnj⟩:=uG hne;obtain⟨dj,hdj⟩:=iB.1 (B.site j l a c (qK hnj a (bM _)));obtain⟨di,hdi⟩:=iB.1 (B.site i o D O hwk);have:di=dj:=by have:=hm.2.1;simpa [ik,j2,a,hdj,D,hdi] using this
      have:=B.distinct i j o l di D a hdi (by rw[hdj,this]);subst this;rw[hi]at p;cases p
     refine yZ (E:=E) (o:=o) d.sim F (by simp[ik]) S hpc (λh=>by cases h) hq' ro K Q λu w' ⟨M',z,h1,h2,h3,h4⟩=>hK _ _ ?_;obtain⟨h5,h6⟩:=(F.mono h3.mem h3.map).put hnt s h1;have hg':gL E pc ops dep sts L' ops.size=tV (gL E pc ops dep sts L ops.size) (ik ops dep sts i) bs:=by rw[WI B R n,hbs]
     refine⟨hc',(jh _ _ _).trans hds,M',z,m,vq B.toRegB D n hi hTS hx s,h5,h6,.inl ⟨λj l U a c=>?_,by rw[hg'];exact h2,by rw[hg'];exact d.fwd.trans h3,λq hq hno=>?_⟩⟩
     ·rcases(n j).1 U with h | h
      ·exact d.quiet j l h a c
      subst h;exact hlk
     refine h4 q (d.dom q hq λj U p=>hno j U ((n j).2 (.inl p))) λk hk' e=>?_;refine hno i R ((n i).2 (.inr rfl)) ?_;rw[e];exact⟨rfl,rfl,rfl,by rw[hbs];exact hk'⟩
    exact absurd d (Y O k)
  have h1:=hnl (jd hwk');rw[Rz D hwk' (bM i)]at h1;cases h1
include B A in
theorem RC(y:uq ι (sts 0).hp){L:Nat->Bool}(c : ∀i,i<ops.size->L i=true){a a1:Act}{F:World}(u:a.defers=ds)(N:Inv E pc nt ops dep sts M ι w ds L a1 F):lB M ι (sts 0) a w nt (sts ops.size) a1 F:=by
 obtain⟨Q,s,v,m,tm1,z,D,q,n⟩:=N;have x : ∀t,dE tm1 t=dE (sts ops.size).tm t:=by
  intro t;obtain⟨O,H⟩:=z t;obtain⟨I,P⟩:=Lt B.toRegB A ops.size (bM _) t;by_cases l : ∃j,j<ops.size/\j2 ops j=some t;·obtain⟨j,b,hd⟩:=l;rw[O j b (c j b) hd,I j b (by simpa using b) hd]
  rw[H λj b _ hd=>l ⟨j,b,hd⟩,P λj b _ hd=>l ⟨j,b,hd⟩]
 have f:TR v m (sts ops.size).tm a1:=⟨λt=>by rw[<-x];exact D.at_ t⟩;rcases n with d | ⟨k,d⟩
 ·have p:noW E ops ops.size:=λj o b e=>by
   cases p:jQ E o with| false=>rfl| true=>have:=qK (d.quiet j o (c j b) e (jd p)) e (bM _);rw[p]at this;cases this
  have G:(sts ops.size).hp.get=gL E pc ops dep sts L ops.size:=(by rw[Lv (pc:=pc) A (bM _) p];exact RJ B (bM _) λj o b _ _ _=>⟨λ_=>b,λ_=>c j b⟩);refine⟨⟨v,m,⟨by rw[G];exact d.sim,?_,f,q⟩,by rw[G];exact d.fwd⟩,s.trans u.symm⟩;exact Oh (M:=M) (tc:=tc) (nt:=nt) A y (bM _) p d.dom d.fwd.map λj o b _ _ _ _=>b
 have h:(sts ops.size).hp=(sts k).hp:=NS A ops.size d.le (bM _) λj o K b e=>by
  cases J:xU E o with| false=>rfl| true=>have:=(d.upto j o e J).1 (c j b);omega
 exact⟨⟨v,m,⟨by rw[h];exact d.sim,by rw[h];exact d.dom,f,q⟩,by rw[h];exact d.fwd⟩,s.trans u.symm⟩
include B in
theorem De{a:Array Bool}(j:a.size=ops.size)(h:Region.ready .any ops a=[]) : ∀i,i<ops.size->a.getD i false=true:=by
 intro i;induction i using Nat.strongRecOn with | ind i k=>
 intro hi;cases n:a.getD i false with
 | true=>rfl
 | false=>
  exfalso;have f:=kY hi;have d:a.getD i true=false:=by
   have:i<a.size:=(by omega);simpa [Array.getD,this] using n
  have:i∈Region.ready .any ops a:=(by rw[iQw];refine⟨d,_,f,λe l m=>?_⟩;have b:e.on∈gf ops[i]:=(by unfold gf;exact mo.2 ⟨e,KS.2 ⟨by simpa using l,m⟩,rfl⟩);have c:=B.edges i _ f _ b;exact k e.on c (by omega));rw[h]at this;cases this
include B A in
theorem adE(J : ∀f s y,pc f s=some y->kE E.P f s y)(U : ∀f s H y W,tc f s H=some (y,W)->nH E.P f s H y W){ro:Option Nat}{a0:Act}(z:a0.defers=ds){Q:Exit->Act->World->Prop}
 (R:iA M ι (sts 0).hp.get w) (l:uq ι (sts 0).hp) (X : ∀G w',lB M ι (sts 0) a0 w nt (sts ops.size) G w'->Q .normal G w') : ∀(b:Nat)(a:Array Bool)(a1:Act)(D:World),a.size=ops.size ->
 (List.range ops.size).countP (λi => !a.getD i false)<=b->Inv E pc nt ops dep sts M ι w ds (λi=>a.getD i false) a1 D->wpAnyIn (FW ro) 0 E.P .any ops Q b a a1 D:=by
 intro b;induction b with
 | zero=>
  intro a a1 D n hf F;have c : ∀i,i<ops.size->a.getD i false=true:=by
   intro i hi;cases S:a.getD i false with
   | true=>rfl
   | false=>exfalso;have:0<(List.range ops.size).countP (λi => !a.getD i false):=List.countP_pos_iff.2 ⟨i,xZ.2 hi,by rw[S];rfl⟩;omega
  refine⟨?_,X _ _ (RC B A l c z F)⟩;refine Ui.2 λi hi=>?_;rw[iQw]at hi;obtain⟨x,o,t,_⟩:=hi;have m:i<ops.size:=(jx.1 t).1;have I:=c i m;have:i<a.size:=by omega
  simp[Array.getD,this]at x I;rw[I]at x;cases x
 | succ b ih=>
  intro a a1 D n hf F;refine⟨λhr=>X _ _ (RC B A l (De B n hr) z F),λi hi=>?_⟩;rw[iQw]at hi;obtain⟨x,o,t,T⟩:=hi;have m:i<ops.size:=(jx.1 t).1;have u:i<a.size:=by omega
  have v:a.getD i false=false:=(by simpa [Array.getD,u] using x);have h : ∀e∈gf o,(λi=>a.getD i false) e=true:=(by intro e Y;unfold gf at Y;obtain⟨d,hd,rfl⟩:=mo.1 Y;obtain⟨I,Z⟩:=KS.1 hd;exact T d (by simpa using I) Z);have q : ∀j,(λj=>(a.setIfInBounds i true).getD j false) j=true↔((λj=>a.getD j false) j=true\/j=i):=by
   intro j;simp only;by_cases k:j=i;·subst k;simp[u]
   rw[getD_set_ne false (tC k)];simp[k]
  have:=Wy (E:=E) (tc:=tc) (ro:=ro) (K:=wpAnyIn (FW ro) 0 E.P .any ops Q b (a.setIfInBounds i true)) (Q:=Q) B A J U R l (L:=λi=>a.getD i false) t v h q F λG w' V=>by
   refine ih _ G w' (by simp[n]) ?_ V;have:=FV (p:=λj => !a.getD j false) (p':=λj => !(a.setIfInBounds i true).getD j false) (i:=i) (λj O=>by
    simp only[ij]at O ⊢;cases S:a.getD j false with
    | false=>rfl
    | true=>have:=(q j).2 (.inl S);simp only at this;rw[this]at O;cases O) (by simp only[v,zm]) (by have:=(q i).2 (.inr rfl);simp only at this ⊢;rw[this];rfl) (List.range ops.size) (xZ.2 m)
   omega
  unfold wpOpIn;rw[t];simp only;split;·rename_i N;rw[if_pos N]at this;exact this
  rename_i N;rw[if_neg N]at this;exact⟨λ_ _=>trivial,this⟩
end
def Of{E:Env}(I:E.P.follows .mixedOrders=true){ops:Array Oper}(s:DI E ops=true){pc:FuncId->List AV->Option AV}(m : ∀f d y,pc f d=some y->kE E.P f d y)
 {tc:vl->List AV->aa->dA} (u : ∀f d H y x,tc f d H=some (y,x)->nH E.P f d H y x) {nt dep id:Nat} {st st':St} {M:Mem} {ι:Map} {a:Act} {w:World} {ro:Option Nat} {Q:Exit->Act->World->Prop}
 (h:oI E pc tc nt dep true ops ops.toList st=some st') (e:z7 M ι st nt a w) (F : ∀j w',lB M ι st a w nt st' j w'->Q .normal j w'):(Code.region id ops true).wpIn (FW ro) 0 E.P Q a w:=by
 obtain⟨sts,L,v,G⟩:=HW ops.toList st st' h;rw[Cg]at v;have B:=Ni s;have A : ∀i o,ops[i]?=some o->evalOp E pc tc nt dep true ops o (sts i)=some (sts (i+1)):=λi o D=>G i o (by simpa using D);subst L;refine wpIn_region_any I ?_;have p:vg M ι (sts 0).hp.get w M ι (sts 0).hp.get { w with drawn:=w.drawn+1} :=
  ⟨rfl,rfl,rfl,bM _,λ_ _ _=>rfl,λ_ _ _ h=>h,λ_ _ h=>h,λr k l h z => .inr ⟨r,k,l,h,z,rfl⟩,λ_ _ _ h => .inl h⟩
 have c : ∀i,(Array.replicate ops.size false).getD i false=false:=by
  intro i;simp only[Du,O1];split<;>rfl
 have b : ∀n,gF (sts 0).hp.get (ik ops dep sts) (newAt E pc ops dep sts) (λi=>(Array.replicate ops.size false).getD i false) n=(sts 0).hp.get:=by
  intro n;funext q;refine ug n λi _ hi=>?_;exact absurd ((c i).symm.trans hi) (by simp)
 refine adE (tc:=tc) (M:=M) (ι:=ι) (w:=w) (a0:=a) B A m u rfl e.sim e.dom (λj w' J=>F j w' (v ▸ J)) ops.size _ a _ (by simp) ?_ ?_;·exact wT iQK (by simp)
 refine⟨λi o hi=>?_,rfl,M,ι,(sts 0).tm,?_,e.tr,e.nt,.inl ⟨λi o hi=>?_,?_,?_,λq K _=>K⟩⟩;·exact absurd ((c i).symm.trans hi) (by simp)
 ·exact λt=>⟨λi _ hi=>absurd ((c i).symm.trans hi) (by simp),λ_=>rfl⟩
 ·exact absurd ((c i).symm.trans hi) (by simp)
 ·rw[gL,b];exact e.sim.drew rfl
 rw[gL,b];exact p
end
end Go.Ab
