/-
  What a quiet operation of the abstract machine looks at. No statement of a seat is proved here.
-/
import Derived.Test.YtmjkpdknicjjgaaGreatAbsWalk
set_option linter.unusedVariables false
set_option linter.unusedSimpArgs false
set_option linter.unusedSectionVars false
set_option linter.unnecessarySimpa false
set_option linter.defProp false
namespace Go.Ab
section
def mapM_congr{c j:Type}{f b:c->Option j} : ∀ {l:List c},(∀x∈l,f x=b x)->l.mapM f=l.mapM b:=by
 intro l;induction l with
 | nil=>intro _;rfl
 | cons a l e=>intro h;simp only[na];rw[h a (gD ..),e λx d=>h x (iS _ d)]
def CW(tm tm':List AV)(a:List Operand):Prop :=∀x∈a,aL tm x=aL tm' x
def tj{tm tm':List AV}{ps:List (Nat × Operand)}(h : ∀p∈ps,aL tm p.2=aL tm' p.2):gO tm ps=gO tm' ps:=by
 unfold gO;exact mapM_congr λp hp=>by obtain⟨i,o⟩:=p;simp only[h (i,o) hp]
def yi{tm tm':List AV}{x:Option Operand}(h : ∀y,x=some y->aL tm y=aL tm' y):mc tm x=mc tm' x:=by
 cases x with| none=>rfl| some y=>simp only[mc,h y rfl]
def sV{E:Env}{pc:FuncId->List AV->Option AV}{m:Bool}{g:cL}{tm tm':List AV}{r:Ref}{o:Oper}(h:CW tm tm' o.op.operands.toList) :
 cI E pc m g tm r o=cI E pc m g tm' r o:=by
 unfold CW at h;unfold cI;split;·rename_i x j;rw[j]at h;simp only[Op.operands]at h;rw[h x (by simp)]
 ·rename_i x j;rw[j]at h;simp only[Op.operands]at h;rw[h x (by simp)]
 ·rename_i c a b j;rw[j]at h;simp only[Op.operands]at h;simp only[Gw];rw[h c (by simp),h a (by simp),h b (by simp)]
 ·rfl
 ·rename_i e x j;rw[j]at h;simp only[Op.operands]at h;rw[h x (by simp)]
 ·rename_i t ps j;rw[j]at h;simp only[Op.operands]at h;rw[tj λp hp=>h p.2 (by simp;exact⟨p.1,by simpa using hp⟩)]
 ·rename_i t n ps j;rw[j]at h;simp only[Op.operands]at h;rw[tj λp hp=>h p.2 (by simp;exact⟨p.1,by simpa using hp⟩)]
 ·rename_i t x j;rw[j]at h;simp only[Op.operands]at h;rw[h x (by simp)]
 ·rename_i x j;rw[j]at h;simp only[Op.operands]at h;rw[h x (by simp)]
 ·rename_i op t x y ty j;rw[j]at h;simp only[Op.operands]at h;rw[h x (by simp),h y (by simp)]
 ·rename_i op t x j;rw[j]at h;simp only[Op.operands]at h;rw[h x (by simp)]
 ·rename_i s d x j;rw[j]at h;simp only[Op.operands]at h;rw[h x (by simp)]
 ·rename_i t x j;rw[j]at h;simp only[Op.operands]at h;rw[h x (by simp)]
 ·rename_i f a b j;rw[j]at h;simp only[Op.operands]at h;rw[mapM_congr λx q=>h x (by simp at q ⊢;exact .inl q),mapM_congr λx q=>h x (by simp at q ⊢;exact .inr q)]
 ·rename_i t l c j;rw[j]at h;simp only[Op.operands]at h;rw[h l (by simp),h c (by simp)]
 ·rfl
 ·rename_i t x k ok j;rw[j]at h;simp only[Op.operands]at h;rw[h x (by simp),h k (by simp)]
 ·rename_i t x lo hi v j;rw[j]at h;simp only[Op.operands]at h;rw[h x (by simp),yi (x:=lo) λy u=>h y (by simp[u]),yi (x:=hi) λy u=>h y (by simp[u]),yi (x:=v) λy u=>h y (by simp[u])]
 ·rename_i t x f j;rw[j]at h;simp only[Op.operands]at h;rw[h x (by simp)]
 ·rename_i t x f j;rw[j]at h;simp only[Op.operands]at h;rw[h x (by simp)]
 ·rename_i t x y j;rw[j]at h;simp only[Op.operands]at h;rw[h x (by simp),h y (by simp)]
 ·rename_i t x y j;rw[j]at h;simp only[Op.operands]at h;rw[h x (by simp),h y (by simp)]
 ·rename_i x t D ok j;rw[j]at h;simp only[Op.operands]at h;rw[h x (by simp)]
 ·rename_i x i j;rw[j]at h;simp only[Op.operands]at h;rw[h x (by simp)]
 ·rename_i c j;rw[j]at h;simp only[Op.operands,Call.operands]at h;rw[mapM_congr (l:=c.args.toList) λx q=>h x (by simp at q ⊢;exact .inr q)];split;·rfl
  split;·rename_i f z;rw[h f (by simp[z])]
  ·rfl
  rfl
 rfl
def Va{E:Env}{pc:FuncId->List AV->Option AV}{tc:tE->List AV->aa->cJ}{H:aa}{tm tm':List AV}{r:Ref}{o:Oper}(h:CW tm tm' o.op.operands.toList) :
 evalW E pc tc H tm r o=evalW E pc tc H tm' r o:=by
 unfold CW at h;unfold evalW;generalize o.op=op at h ⊢;cases op<;>try rfl
 case store t x y=>simp only[Op.operands]at h;simp only;rw[h x (by simp),h y (by simp)]
 case mapUpdate t m k y=>simp only[Op.operands]at h;simp only;rw[h m (by simp),h k (by simp),h y (by simp)]
 case insert t m k y=>simp only[Op.operands]at h;simp only;rw[h m (by simp),h k (by simp),h y (by simp)]
 case mapEntry t m k=>simp only[Op.operands]at h;simp only;rw[h m (by simp),h k (by simp)]
 case entryStore t m k y=>simp only[Op.operands]at h;simp only;rw[h m (by simp),h k (by simp),h y (by simp)]
 case buildSlice t n ps=>simp only[Op.operands]at h;simp only;rw[tj λp hp=>h p.2 (by simp;exact⟨p.1,by simpa using hp⟩)]
 case makeChan t n=>simp only[Op.operands]at h;simp only;rw[h n (by simp)]
 case send c x=>simp only[Op.operands]at h;simp only;rw[h c (by simp),h x (by simp)]
 case recv t c b=>simp only[Op.operands]at h;simp only;rw[h c (by simp)]
 case call c=>
  simp only[Op.operands,Call.operands]at h;simp only;rw[mapM_congr (l:=c.args.toList) λx a=>h x (by simp at a ⊢;exact .inr a)];split;·rfl
  split;·rename_i f d;rw[h f (by simp[d])]
  ·rfl
  rfl
def C4(ι:Map)(g C:cL):Prop :=∀q k,g q=some k->ι q≠none->C q=some k
section
variable{M:Mem}{ι:Map}{g C:cL}{w:World}
def P8{l:Loc}{k:aY}(f:fp M ι w l k){e:AV}(d:e∈k.es) : ∃u,VR M (k.map ι) e u:=by
 obtain⟨i,hi,a⟩:=o5 d;have c:=f.cell i (by rw[de hi,a]);obtain⟨us,b,_,_⟩:=c.values;cases e with
 | agg cs=>exact⟨.agg us.toArray,VR.pv.2 (by simpa [AV.cells] using b)⟩
 | _=>have h:=b.1;obtain⟨u,rfl⟩:=J2 h.symm;exact⟨u,b.2 0 _ u rfl rfl⟩
def LG{f c:AV->Option AV}{l d:List AV}(h:l.mapM f=some d)(j : ∀x∈l,∀y,f x=some y->c x=some y):l.mapM c=some d:=by
 rw[<-h];refine mapM_congr λx b=>?_;obtain⟨i,hi,a⟩:=o5 b;obtain⟨y,_,e⟩:=lE h i x (by rw[de hi,a]);rw[e,j x b y e]
def uJ{c j:Type}{f b:c->List j} : ∀ {l:List c},(∀x∈l,f x=b x)->l.flatMap f=l.flatMap b:=by
 intro l;induction l with
 | nil=>intro _;rfl
 | cons a l e=>intro h;rw[lU,lU,h a (gD ..),e λx d=>h x (iS _ d)]
def wG(hS:gA M ι C w)(Y:C4 ι g C) : ∀(n:Nat)(x y:AV)(u:Value)(p:Mem),view g n x=some y->VR p ι x u->view C n x=some y/\af C n x=af g n x /\∀r∈af g n x,ι r≠none:=by
 intro n;induction n with
 | zero=>intro x y u p h;simp[view]at h
 | succ n Q=>
  intro x y u p h hv;have e : ∀ {cs ys:List AV},cs.mapM (view g n)=some ys->(∀c∈cs,∃u p,VR p ι c u)->cs.mapM (view C n)=some ys/\cs.flatMap (af C n)=cs.flatMap (af g n) /\∀r∈cs.flatMap (af g n),ι r≠none:=by
   intro cs ys t N;refine⟨LG t λc z y P=>?_,uJ λc z=>?_,?_⟩;·obtain⟨u,p,I⟩:=N c z;exact(Q c y u p P I).1
   ·obtain⟨u,p,I⟩:=N c z;obtain⟨i,hi,G⟩:=o5 z;obtain⟨y,_,P⟩:=lE t i c (by rw[de hi,G]);exact(Q c y u p P I).2.1
   intro r s;obtain⟨c,z,s⟩:=gC.1 s;obtain⟨u,p,I⟩:=N c z;obtain⟨i,hi,G⟩:=o5 z;obtain⟨y,_,P⟩:=lE t i c (by rw[de hi,G]);exact(Q c y u p P I).2.2 r s
  have inl : ∀ {cs:List AV} {S:Array Value},cs.length=S.size->(∀(i:Nat) c u,cs[i]?=some c->S[i]?=some u->VR p ι c u) ->∀c∈cs,∃u p,VR p ι c u:=(by intro cs S R K c z;obtain⟨i,hi,G⟩:=o5 z;exact⟨S[i]'(by omega),p,K i c _ (by rw[de hi,G]) (kn (by omega))⟩);cases hv with
  | v hs=>simp[view]at h;subst h;simp[view,af]
  | agg R K=>simp only[view,bG]at h;obtain⟨ys,t,rfl⟩:=h;obtain⟨F,H,D⟩:=e t (inl R K);exact⟨by simp[view,F],by simp only[af];exact H,by simp only[af];exact D⟩
  | tup h0 R K=>simp only[view,bG]at h;obtain⟨ys,t,rfl⟩:=h;obtain⟨F,H,D⟩:=e t (inl R K);exact⟨by simp[view,F],by simp only[af];exact H,by simp only[af];exact D⟩
  | bq=>simp[view]at h;subst h;simp[view,af]
  | iptr=>simp[view]at h;subst h;simp[view,af]
  | bA s hb hs ha z hn hk J=>
   rename_i r off len cap l a c;simp only[view]at h;split at h;·rename_i b k;have:=Y r b k (by rw[s];simp);exact⟨by simp only[view,this];exact h,by simp[af],by intro q f;simp only[af,k9]at f;rw[f,s];simp⟩
   cases h
  | dsl s hb hs ha z hn hk J=>
   rename_i r off len cap l a c;simp only[view]at h;split at h
   ·rename_i b k;have m:=Y r b k (by rw[s];simp);split at h
    ·rename_i K;obtain⟨d,hlen⟩:=K;simp only[bG]at h;obtain⟨es,O,rfl⟩:=h;have L:=hS.at s J m;obtain⟨F,H,D⟩:=e O λc z=>by
      obtain⟨u,I⟩:=P8 L z;rw[aY.map,d]at I;exact⟨u,M,by simpa using I⟩
     exact⟨by simp[view,m,d,hlen,F],by simp only[af,m,k];rw[H],by
      intro q f;simp only[af,k]at f;rcases ef.1 f with rfl | f
      ·rw[s];simp
      exact D q f⟩
    cases h
   cases h
  | ptr s J=>
   rename_i r i j l;simp only[view]at h;split at h
   ·rename_i b k;have m:=Y r b k (by rw[s];simp);cases d:b.arr with
    | true=>rw[d]at h;exact⟨by simp only[view,m,d];exact h,by simp[af,m,k,d],by intro q f;simp[af,k,d]at f;rw[f,s];simp⟩
    | false=>
     rw[d]at h;simp only[gj,iQh,bG]at h;obtain⟨es,O,rfl⟩:=h;have L:=hS.at s J m;obtain⟨F,H,D⟩:=e O λc z=>by
      obtain⟨u,I⟩:=P8 L z;rw[aY.map,d]at I;exact⟨u,M,by simpa using I⟩
     exact⟨by simp[view,m,d,F],by simp only[af,m,k,d];rw[if_neg (by simp),if_neg (by simp),H],by
      intro q f;simp only[af,k,d]at f;rw[if_neg (by simp)]at f;rcases ef.1 f with rfl | f
      ·rw[s];simp
      exact D q f⟩
   cases h
  | fn hla V X U=>
   simp only[view]at h;split at h
   ·rename_i a' b' Z W;cases h;obtain⟨F,H,h5⟩:=e Z (inl hla X);obtain⟨D,h4,h6⟩:=e W (inl V U);exact⟨by simp[view,F,D],by simp only[af];rw[H,h4],by
     intro q f;simp only[af,kQ]at f;rcases f with f | f
     ·exact h5 q f
     exact h6 q f⟩
   cases h
  | yld=>simp[view]at h
  | mp=>simp[view]at h
  | ch=>simp[view]at h
  | yM=>simp[view]at h
  | ifc K=>simp only[view,bG]at h;obtain⟨y',T,rfl⟩:=h;obtain⟨F,H,D⟩:=Q _ y' _ p T K;exact⟨by simp[view,F],by simp only[af];exact H,by simp only[af];exact D⟩
def Qt(j:gA M ι C w)(k:C4 ι g C){d ys:List AV}{us:List Value}(h:d.mapM (view g depth)=some ys)(m:lI M ι d us):d.mapM (view C depth)=some ys/\bH C d=bH g d /\∀r∈bH g d,ι r≠none:=by
 have inl : ∀c∈d,∃u,VR M ι c u:=by
  intro c b;obtain⟨i,hi,a⟩:=o5 b;have n:=m.1;exact⟨us[i]'(by omega),m.2 i c _ (by rw[de hi,a]) (de (by omega))⟩
 refine⟨LG h λc b y f=>?_,uJ λc b=>?_,?_⟩;·obtain⟨u,e⟩:=inl c b;exact(wG j k depth c y u M f e).1
 ·obtain⟨u,e⟩:=inl c b;obtain⟨i,hi,a⟩:=o5 b;obtain⟨y,_,f⟩:=lE h i c (by rw[de hi,a]);exact(wG j k depth c y u M f e).2.1
 intro r l;obtain⟨c,b,l⟩:=gC.1 l;obtain⟨u,e⟩:=inl c b;obtain⟨i,hi,a⟩:=o5 b;obtain⟨y,_,f⟩:=lE h i c (by rw[de hi,a]);exact(wG j k depth c y u M f e).2.2 r l
def Hp(d:C4 ι g C){R:List Ref}(B : ∀r∈R,ι r≠none)(h:m0 g R=true):m0 C R=true:=by
 simp only[m0,dY]at h ⊢;intro r c;have:=h r c;cases a:g r with
 | none=>rw[a]at this;simp at this
 | some b=>rw[a]at this;rw[d r b a (B r c)];exact this
def Es(a:C4 ι g C){x:AV}{u:Value}(d:VR M ι x u){p:Nat × List AV}(h:cy g x=some p):cy C x=some p:=by
 cases d with
 | bA e=>
  simp only[cy]at h ⊢;split at h;·rename_i b c;rw[a _ b c (by rw[e];simp)];exact h
  cases h
 | v f=>cases ‹Value› <;> simp_all [cy]
 | bq=>exact h
 | _=>simp[cy]at h
def AG(j:gA M ι C w)(f:C4 ι g C){b q:List (Nat × AV)}(h:cZ g b=some q)(t : ∀p∈b,∃u,VR M ι p.2 u) :
 cZ C b=some q/\bH C (b.map (·.2))=bH g (b.map (·.2)) /\∀r∈bH g (b.map (·.2)),ι r≠none:=by
 have a : ∀p∈b,∃y u,view g depth p.2=some y/\VR M ι p.2 u:=by
  intro p hp;obtain⟨i,hi,l⟩:=o5 hp;obtain⟨y,_,n⟩:=lE h i p (by rw[de hi,l]);obtain⟨u,s⟩:=t p hp;obtain⟨k,x⟩:=p;simp only[bG]at n;obtain⟨z,v,_⟩:=n;exact⟨z,u,v,s⟩
 refine⟨?_,?_,?_⟩;·unfold cZ at h ⊢;rw[<-h];refine mapM_congr λp hp=>?_;obtain⟨y,u,c,d⟩:=a p hp;obtain⟨k,x⟩:=p;simp only at c d;simp only[c,(wG j f depth x y u M c d).1]
 ·unfold bH;refine uJ λx e=>?_;obtain⟨p,hp,rfl⟩:=j6.1 e;obtain⟨y,u,c,d⟩:=a p hp;exact(wG j f depth p.2 y u M c d).2.1
 intro r m;obtain⟨x,e,m⟩:=gC.1 m;obtain⟨p,hp,rfl⟩:=j6.1 e;obtain⟨y,u,c,d⟩:=a p hp;exact(wG j f depth p.2 y u M c d).2.2 r m
def Uk{tm:List AV}{a:Act}(e:TR M ι tm a){ps:List (Nat × Operand)}{c:List (Nat × AV)}(h:gO tm ps=some c) : ∀p∈c,∃u,VR M ι p.2 u:=by
 intro p hp;obtain⟨f,d⟩:=qS (ι:=ι) e h;obtain⟨i,hi,b⟩:=o5 hp;exact⟨_,(d i p _ (by rw[de hi,b]) (de (by omega))).2⟩
def LF{P:Program}(l:gA M ι C w)(f:C4 ι g C){t:TypeId}{n:Nat}{a:List (Nat × AV)}{b:aY}(h:mkSlice P g t n a=some b)(k : ∀p∈a,∃u,VR M ι p.2 u):mkSlice P C t n a=some b:=by
 unfold mkSlice at h ⊢;split at h;·cases h
 rename_i e j;try simp only[j]
 split at h
 ·rename_i q z s c m d;try simp only[(AG l f c k).1,m,d]
  exact h
 cases h
def HX{P:Program}{t:TypeId}{n:Nat}{d:List (Nat × AV)}{b:aY}(h:mkSlice P g t n d=some b) : ∃a,cZ g d=some a:=by
 unfold mkSlice at h;split at h;·cases h
 split at h;·rename_i a z s c f e;exact⟨a,c⟩
 cases h
def IE{P:Program}(b:C4 ι g C){e:TypeId}{x:AV}{u:Value}(a:VR M ι x u){p:Nat × List AV}(h:md P g e x=some p):md P C e x=some p:=by
 unfold md at h ⊢;split at h;·exact h
 ·exact h
 rename_i d c;exact Es b a h
def Lt{P:Program}(k:C4 ι g C){r:Ref}{t t':Option TypeId}{s x:AV}{us p:Value}(l:VR M ι s us)(m:VR M ι x p){a:AV × List aY}(h:ei P g r t t' s x=some a):ei P C r t t' s x=some a:=by
 unfold ei at h ⊢;split at h;·cases h
 rename_i e u;try simp only[u]
 split at h;·cases h
 rename_i D;rw[if_neg D];split at h
 ·rename_i z by' zz G new q n j c;try simp only[q,n,j,IE k m c]
  split at h;·cases h
  rename_i d;rw[if_neg d];cases l with
  | bA y=>
   simp only at h ⊢;split at h;·rename_i b f;rw[k _ b f (by rw[y];simp)];exact h
   cases h
  | v F=>(split at h)<;>first | exact h | cases h | simp_all
  | _=>exact h
 cases h
def IH(d:C4 ι g C){r:Ref}(e:ι r≠none){a:List AV}(h:ni g r=some a):ni C r=some a:=by
 unfold ni at h ⊢;cases c:g r with
 | none=>rw[c]at h;cases h
 | some b=>rw[c]at h;rw[d r b c e];exact h
def Lp{P:Program}(d:C4 ι g C){t:TypeId}{x:AV}{u:Value}(l:VR M ι x u){k:Option AV}{ok:Bool}{a:AV × List aY}(h:oo P g t (some x) k ok=some a):oo P C t (some x) k ok=some a:=by
 unfold oo at h ⊢;split at h
 ·rename_i p n r' q e f j;cases f;cases l with | mp m s=>
  try simp only[e,j]
  split at h;·rename_i b c;rw[IH d (by rw[m];simp) c];exact h
  cases h
 cases h
def DP{E:Env}{pc:FuncId->List AV->Option AV}(hS:gA M ι C w)(D:C4 ι g C){tm:List AV}{a:Act}(P:TR M ι tm a){r:Ref}{o:Oper}{x:AV}{bs:List aY}
 (h:cI E pc true g tm r o=some (x,bs)):cI E pc true C tm r o=some (x,bs):=by
 unfold cI at h ⊢;simp only[ze,Bn,iQu,yf]at h ⊢;split at h;·exact h
 ·exact h
 ·exact h
 ·exact h
 ·exact h
 ·exact h
 ·rename_i t n ps G;cases m:gO tm ps.toList with
  | none=>rw[m]at h;simp[fT]at h
  | some vs=>rw[m]at h;generalize (true && !E.strict o)=dr at h ⊢;simp only[fT]at h ⊢;obtain⟨O,L⟩:=eQ.1 h;simp only[bG]at L;obtain⟨b,I,N⟩:=L;have W:=Uk P m;obtain⟨ws,hws⟩:=HX I;obtain⟨T,h5,h6⟩:=AG hS D hws W;rw[h5,Hp D h6 O,LF hS D I W];simp[N]
 ·rename_i t y G;unfold nh at h ⊢;split at h
  ·rename_i r' i j ag n l hg hn;try simp only[l,hg,hn]
   split at h
   ·rename_i b I;have m:=aU P l;generalize a.eval y=u at m;cases m with | ptr F hzl=>
    rw[D r' b I (by rw[F];simp)];exact h
   cases h
  ·rename_i esz es i j ag n l hg hn;try simp only[l,hg,hn]
   exact h
  cases h
 ·exact h
 ·exact h
 ·exact h
 ·rename_i s d y G;cases l:aL tm y with
  | none=>rw[l]at h;simp[bX]at h
  | some Y=>
   rw[l]at h;have m:=aU P l;unfold bX at h ⊢;split at h;·exact h
   ·exact h
   ·exact h
   ·rename_i z O L N H;injection H with H
    subst H;split at h
    ·rename_i S;try simp only[S,if_true]
     split at h;·rename_i p es hes;rw[Es D m hes];exact h
     cases h
    rename_i S;try simp only[S]
    split at h
    ·rename_i hc2;try simp only[hc2,if_true]
     split at h
     ·generalize a.eval y=u at m;cases m with | bA F=>
      split at h;·rename_i k V;have:=D _ k V (by rw[F];simp);rw[this];exact h
      cases h
     cases h
    cases h
   rename_i H;cases H
 ·exact h
 ·exact h
 ·exact h
 ·exact h
 ·rename_i t y k ok G;cases l:aL tm y with
  | none=>rw[l]at h;simp only[oo]at h;split at h<;>simp_all
  | some Y=>rw[l]at h;exact Lp D (aU P l) h
 ·rename_i t y lo hi mx G;cases l:aL tm y with
  | none=>rw[l]at h;simp only[cm]at h ⊢;exact h
  | some Y=>
   rw[l]at h;have m:=aU P l;generalize a.eval y=u at m;cases m with
   | bA F=>
    simp only[cm]at h ⊢;split at h
    ·rename_i lo' hi' mx' O L N;try simp only[O,L,N]
     split at h;·rename_i b I;rw[D _ b I (by rw[F];simp)];exact h
     cases h
    cases h
   | dsl F=>
    simp only[cm]at h ⊢;split at h
    ·rename_i lo' hi' mx' O L N;try simp only[O,L,N]
     split at h;·rename_i b I;rw[D _ b I (by rw[F];simp)];exact h
     cases h
    cases h
   | _=>(unfold cm at h ⊢;(repeat' split at h)<;>simp_all)
 ·exact h
 ·exact h
 ·rename_i t y z G;cases l:aL tm y with
  | none=>rw[l]at h;exact h
  | some Y=>
   rw[l]at h;have m:=aU P l;generalize a.eval y=u at m;cases m with
   | bA F=>
    simp only[bK]at h ⊢;split at h
    ·rename_i k V;try simp only[V]
     split at h
     ·rename_i e H;try simp only[H]
      split at h;·rename_i esz es cap s f Q;cases f
      ·rename_i r' off len cap s f Q;injection f with f
       injection f with e1 Z e3 e4
       subst e1;try simp only[Q]
       split at h;·rename_i b I;rw[D _ b I (by rw[F];simp)];subst Z;subst e3;exact h
       cases h
      ·rename_i f Q;cases f
      cases h
     rename_i H;try simp only[H]
     exact h
    cases h
   | dsl F=>
    simp only[bK]at h ⊢;split at h
    ·rename_i k V;try simp only[V]
     split at h
     ·rename_i e H;try simp only[H]
      split at h;·rename_i f Q;cases f
      ·rename_i f Q;cases f
      ·rename_i r' off len cap s f Q;injection f with f
       injection f with e1 Z e3 e4
       subst e1;try simp only[Q]
       split at h;·rename_i b I;rw[D _ b I (by rw[F];simp)];subst Z;subst e3;exact h
       cases h
      cases h
     rename_i H;try simp only[H]
     exact h
    cases h
   | _=>(unfold bK at h ⊢;(repeat' split at h)<;>simp_all)
 ·exact h
 ·exact h
 ·exact h
 ·rename_i c G;split at h;·cases h
  rename_i args K;try simp only[K]
  have q:=ml P K;split at h
  ·rename_i fo S;try simp only[S]
   obtain⟨p0,h,e0⟩:=bG.1 h;refine bG.2 ⟨p0,?_,e0⟩;unfold kT at h ⊢;split at h
   ·rename_i fi first captured U
    try simp only[U]
    split at h;·cases h
    rename_i hm;rw[if_neg hm];obtain⟨a',b',hfv,hva,hvb⟩:=(aU P U).Yf;have X:lI M ι (first++args++captured) (a'.toList++c.args.toList.map a.eval++b'.toList):=(hva.append q).append hvb;split at h
    ·rename_i xs hxs;obtain⟨O,L,N⟩:=Qt hS D hxs X;try simp only[O]
     split at h
     ·rename_i y l;try simp only[l]
      obtain⟨J,h⟩:=eQ.1 h;rw[L];rw[if_pos];·exact h
      simp only[jt]at J ⊢;rcases J with (T | T) | T
      ·exact .inl (.inl T)
      ·exact .inl (.inr (Hp D N T))
      exact .inr T
     cases h
    cases h
   cases h
  ·cases h
  rename_i b S;try simp only[S]
  unfold cO at h ⊢;split at h
  ·rename_i r';obtain⟨u,R⟩:=J2 q.1.symm;rw[R]at q;have m:=q.2 0 (.mp r') u rfl rfl;cases m with | mp F hz=>
   obtain⟨hd,h⟩:=Nf.1 h;simp only[if_neg hd];unfold Ac at h ⊢;split at h
   ·rename_i p ents ht hm;try simp only[ht]
    simp only[IH D (by rw[F];simp) hm];exact h
   cases h
  ·exact h
  ·exact h
  ·exact h
  ·rename_i y z;obtain⟨u,v,R⟩:=yn q.1.symm;rw[R]at q;exact Lt D (q.2 0 y u rfl rfl) (q.2 1 z v rfl rfl) h
  ·exact h
  cases h
 cases h
end
end
section
def UA{a:List Nat}{i:Nat} : ∀(b:List Nat),(BD a b).testBit i=true ->∃j∈b,i=j\/(a.getD j 0).testBit i=true:=by
 intro b;induction b with
 | nil=>intro h;simp[BD]at h
 | cons j b c=>
  intro h;simp only[BD,Nat.testBit_or,jt]at h;rcases h with (h | h) | h
  ·rw[Nat.testBit_two_pow]at h;exact⟨j,gD ..,.inl (by simpa using h:j=i).symm⟩
  ·exact⟨j,gD ..,.inr h⟩
  obtain⟨k,d,h⟩:=c h;exact⟨k,iS _ d,h⟩
def MI : ∀(b:List Oper)(a:List Nat)(i:Nat),i<a.length->(dM b a).getD i 0=a.getD i 0:=by
 intro b;induction b with
 | nil=>intro a i h;rfl
 | cons o b c=>intro a i h;simp only[dM];rw[c _ i (by simp;omega)];simp[List.getD,jG h]
def Yw : ∀(b:List Oper)(a:List Nat)(i:Nat)(o:Oper),b[i]?=some o ->
 ∀j,((dM b a).getD (a.length+i) 0).testBit j=true ->∃e∈fh o,j=e\/(e<a.length+i/\((dM b a).getD e 0).testBit j=true):=by
 intro b;induction b with
 | nil=>intro a i o h;simp at h
 | cons o' b l=>
  intro a i o h j c;cases i with
  | zero=>
   simp at h;subst h;simp only[dM,ug]at c ⊢;rw[MI b _ a.length (by simp)]at c;simp only[List.getD,ic (bg _),rz,Jm,cb]at c;obtain⟨e,he,c⟩:=UA _ c;refine⟨e,he,?_⟩;rcases c with h | h
   ·exact .inl h
   right;rcases eU e a.length with d | f
   ·refine⟨d,?_⟩;have k:=MI b (a++[BD a (fh o')]) e (by simp;omega);simp only[List.getD,jG d]at h k ⊢;rw[k];exact h
   rw[List.getD,wE f]at h;simp at h
  | succ i=>
   simp only[dM]at c ⊢;have:=l (a++[BD a (fh o')]) i o (by simpa using h) j (by
    rw[ju,Fy];rwa [show a.length+1+i=a.length+(i+1) by omega])
   rw[ju,Fy]at this;rwa [show a.length+1+i=a.length+(i+1) by omega]at this
def ab9{ops:Array Oper}{i j:Nat}{o:Oper}(b:ops[i]?=some o)(a:((dM ops.toList []).getD i 0).testBit j=true) : ∃e∈fh o,j=e\/(e<i/\((dM ops.toList []).getD e 0).testBit j=true):=by
 have:=Yw ops.toList [] i o (by simpa using b) j (by simpa using a);simpa using this
def pD(ops:Array Oper)(L:Nat->Bool):Prop :=∀(i:Nat)(o:Oper),L i=true->ops[i]?=some o ->∀e∈fh o,L e=true
def uO{ops:Array Oper}{L:Nat->Bool}(l:pD ops L) : ∀(i:Nat)(o:Oper),ops[i]?=some o->(∀e∈fh o,L e=true) ->∀j,((dM ops.toList []).getD i 0).testBit j=true->L j=true:=by
 intro i;induction i using Nat.strongRecOn with | ind i k=>
 intro o d a j f;obtain⟨e,he,h | ⟨c,h⟩⟩:=ab9 d f;·rw[h];exact a e he
 have hi:i<ops.size:=(iT.1 d).1;have b:ops[e]?=some (ops[e]'(by omega)):=kn (by omega);exact k e c _ b (l e _ (a e he) b) j h
structure RegB (ops:Array Oper):Prop where
 edges : ∀(i:Nat)(o:Oper),ops[i]?=some o ->∀e∈fh o,e<i
 distinct : ∀(i j:Nat)(oi oj:Oper)(d:Tmp),ops[i]?=some oi->ops[j]?=some oj->oi.dst=some d->oj.dst=some d->i=j
 reads : ∀(i j:Nat)(oi oj:Oper)(d:Tmp),ops[i]?=some oi->ops[j]?=some oj->j≠i->oj.dst=some d->d∈oi.looksAt ops->(j<i/\((dM ops.toList []).getD i 0).testBit j=true)\/(i<j/\((dM ops.toList []).getD j 0).testBit i=true)
structure VS (E:Env) (ops:Array Oper):Prop extends RegB ops where
 site : ∀(i:Nat)(o:Oper),ops[i]?=some o->wo E o=true->jj E o=false->o.dst.isSome=true
 writes : ∀(i j:Nat)(oi oj:Oper),ops[i]?=some oi->ops[j]?=some oj->j<i->wo E oi=true->wo E oj=true->lk E ops i=true->((dM ops.toList []).getD i 0).testBit j=true
def PT{E:Env}{ops:Array Oper}{i j:Nat}{o:Oper}(c:ops[j]?=some o)(b:jj E o=true)(a:j<=i):lk E ops i=true:=by
 unfold lk;rw[Jd];exact⟨j,wz.2 (by omega),by rw[c];exact b⟩
def pg{E:Env}{ops:Array Oper}{i:Nat}(h:lk E ops i=false){j:Nat}{o:Oper}(b:ops[j]?=some o)(a:j<=i):jj E o=false:=by
 cases hw:jj E o with| false=>rfl| true=>rw[PT b hw a]at h;cases h
def aeZ{E:Env}{ops:Array Oper}{i:Nat}(h:lk E ops i=true) : ∃j o,j<=i/\ops[j]?=some o/\jj E o=true:=by
 unfold lk at h;rw[Jd]at h;obtain⟨k,b,h⟩:=h;have a:=wz.1 b;split at h;·rename_i o c;exact⟨k,o,by omega,c,h⟩
 cases h
def XI{E:Env}{ops:Array Oper}{i j:Nat}(h:lk E ops j=true)(a:j<=i):lk E ops i=true:=by
 unfold lk at h;rw[Jd]at h;obtain⟨k,c,h⟩:=h;have b:=wz.1 c;split at h;·rename_i o d;exact PT d h (by omega)
 cases h
def Qj{ops:Array Oper}(one : ∀(i:Nat)(o:Oper),ops[i]?=some o->(fh o).all (· < i)=true)
 (s : ∀(i j:Nat)(oi a:Oper),ops[i]?=some oi->ops[j]?=some a->j<i->xy ops (dM ops.toList []) oi a i j=true):RegB ops:=by
 have b : ∀(i j:Nat)(oi a:Oper),ops[i]?=some oi->ops[j]?=some a->j<i->(a.dst.isNone=true\/oi.dst≠a.dst)/\(∀d,a.dst=some d->d∈oi.looksAt ops->((dM ops.toList []).getD i 0).testBit j=true) /\
  (∀d,oi.dst=some d->d∈a.looksAt ops->((dM ops.toList []).getD i 0).testBit j=true):=by
  intro i j oi a hi k t;have:=s i j oi a hi k t;unfold xy at this;simp only[bt]at this;obtain⟨⟨c,l⟩,f⟩:=this;refine⟨?_,?_,?_⟩;·simpa using c
  ·intro d hd p;rw[hd]at l;simp only[jt,gz]at l;rcases l with l | l
   ·have:(oi.looksAt ops).contains d=true:=Jj.2 p;rw[l]at this;cases this
   exact l
  intro d hd p;rw[hd]at f;simp only[jt,gz]at f;rcases f with f | f
  ·have:(a.looksAt ops).contains d=true:=Jj.2 p;rw[f]at this;cases this
  exact f
 refine⟨?_,?_,?_⟩;·intro i o v e u;have:=one i o v;simp only[dY,iQb]at this;exact this e u
 ·intro i j oi a d hi k m n;rcases Bq i j with h | h | h
  ·exfalso;rcases(b j i a oi k hi h).1 with c | c
   ·rw[m]at c;cases c
   exact c (by rw[m,n])
  ·exact h
  exfalso;rcases(b i j oi a hi k h).1 with c | c
  ·rw[n]at c;cases c
  exact c (by rw[m,n])
 intro i j oi a d hi k q hd p;rcases MY q with h | h
 ·exact .inl ⟨h,(b i j oi a hi k h).2.1 d hd p⟩
 exact .inr ⟨h,(b j i a oi k hi h).2.2 d hd p⟩
def Lg{E:Env}{ops:Array Oper}(h:Ch E ops=true):VS E ops:=by
 unfold Ch at h;simp only[dY,wz]at h;have one : ∀(i:Nat)(o:Oper),ops[i]?=some o->(fh o).all (· < i)=true/\(!wo E o||jj E o||o.dst.isSome)=true /\∀(j:Nat)(d:Oper),j<i->ops[j]?=some d->N3 E ops (dM ops.toList []) o d i j=true:=by
  intro i o k;have hi:i<ops.size:=(iT.1 k).1;have:=h i hi;rw[k]at this;simp only[bt,dY,wz]at this;refine⟨by simpa using this.1.1,by simpa using this.1.2,λj d f m=>?_⟩;have l:=this.2 j f;rw[m]at l;exact l
 have split : ∀(i j:Nat)(oi d:Oper),ops[i]?=some oi->ops[j]?=some d->j<i->xy ops (dM ops.toList []) oi d i j=true/\(wo E oi=true->wo E d=true->lk E ops i=true->((dM ops.toList []).getD i 0).testBit j=true):=by
  intro i j oi d hi f e;have:=(one i oi hi).2.2 j d e f;unfold N3 at this;rw[bt]at this;refine⟨this.1,λa b c=>?_⟩;have n:=this.2;rw[a,b,c]at n;simpa using n
 refine⟨Qj (λi o k=>(one i o k).1) λi j oi d hi f e=>(split i j oi d hi f e).1,?_,λi j oi d hi f e=>(split i j oi d hi f e).2⟩;intro i o k p l;have:=(one i o k).2.1;rw[p,l]at this;simpa using this
def Gl{E:Env}{pc:FuncId->List AV->Option AV}{tc:tE->List AV->aa->cJ}{nt dep:Nat}{ops:Array Oper} : ∀(l:List Oper)(st st':St),nw E pc tc nt dep true ops l st=some st' ->
 ∃f:Nat->St,f 0=st/\f l.length=st' /\∀i o,l[i]?=some o->evalOp E pc tc nt dep true ops o (f i)=some (f (i+1)):=by
 intro l;induction l with
 | nil=>intro st st' h;simp only[nw,dV]at h;exact⟨λ_=>st,rfl,h,λi o hi=>by simp at hi⟩
 | cons o l c=>
  intro st st' h;simp only[nw,OF]at h;split at h
  ·rename_i a e;obtain⟨f,j,b,d⟩:=c a st' h;refine⟨λn=>match n with | 0=>st | n+1=>f n,rfl,b,?_⟩;intro i o' hi;cases i with
   | zero=>simp at hi;subst hi;simp only;rw[j];exact e
   | succ i=>exact d i o' (by simpa using hi)
  cases h
inductive afQ (E:Env) (pc:FuncId->List AV->Option AV) (nt dep:Nat) (ops:Array Oper) (o:Oper) (st st2:St):Prop
 | no (hw:wanted ops st.tm o=some false) (tm':List AV) (ht:dg nt st.tm o.dst AV.undef=some tm') (he:st2=⟨tm',st.hp⟩)
 | quiet (hw:wanted ops st.tm o=some true) (x:AV) (bs:List aY) (hq:cI E pc true st.hp.get st.tm ⟨dep,o.dst.getD 0,st.hp.gen dep (o.dst.getD 0),0⟩ o=some (x,bs)) (tm':List AV)
  (ht:dg nt st.tm o.dst x=some tm') (he:st2=⟨tm',keyed ⟨dep,o.dst.getD 0,st.hp.gen dep (o.dst.getD 0),0⟩ 0 bs st.hp⟩)
 | write (hk:jj E o=true)
def nY{E:Env}{pc:FuncId->List AV->Option AV}{tc:tE->List AV->aa->cJ}{nt dep:Nat}{ops:Array Oper}{o:Oper}{st a:St}(h:evalOp E pc tc nt dep true ops o st=some a):afQ E pc nt dep ops o st a:=by
 unfold evalOp at h;split at h;·cases h
 ·rename_i c;simp only[bG]at h;obtain⟨tm',b,rfl⟩:=h;exact .no c tm' b rfl
 rename_i c;split at h;·rename_i x bs d;simp only[bG]at h;obtain⟨tm',b,rfl⟩:=h;exact .quiet c x bs d tm' b rfl
 split at h;·cases h
 rename_i e;refine .write ?_;simpa using e
def KF{E:Env}{o:Oper}(h:jj E o=true):ku o.op=true:=by
 unfold jj at h;have d:(E.gB o&&Aw o.op)=true->ku o.op=true:=by
  intro h;replace h:=(wD.1 h).2;unfold Aw at h;split at h;·rename_i a;rw[a];rfl
  cases h
 by_cases e:(E.gB o&&Aw o.op)=true;·exact d e
 replace h:=(Fv.1 h).resolve_right e;replace h:=(wD.1 h).2;unfold Z6 at h;split at h;·rename_i a;rw[a];rfl
 ·rename_i a;rw[a];rfl
 ·rename_i a;rw[a];rfl
 ·rename_i a;rw[a];rfl
 ·rename_i a;rw[a];rfl
 ·rename_i c a;rw[a];unfold ku;split at h;·rename_i b;simp[b]
  ·rename_i b;simp[b]
  ·rename_i b;simp[b]
  ·rename_i b;simp[b]
  cases h
 cases h
def Rr{E:Env}{pc:FuncId->List AV->Option AV}{g:cL}{tm:List AV}{r:Ref}{o:Oper}(d:ku o.op=false){x:AV}{bs:List aY}(h:cI E pc true g tm r o=some (x,bs)) :
 bs=[] /\∀C r',cI E pc true C tm r' o=some (x,bs):=by
 have v : ∀ {y:Option AV},jI y=some (x,bs)->bs=[]:=λh=>(qA h).2;unfold cI at h ⊢;simp only[ze,Bn,iQu,yf]at h ⊢;split at h;·exact⟨v h,λ_ _=>h⟩
 ·exact⟨v h,λ_ _=>h⟩
 ·refine⟨?_,λ_ _=>h⟩;unfold Gw at h;split at h;·exact v h
  ·exact v h
  cases h
 ·rename_i a;rw[a]at d;simp[ku]at d
 ·rename_i a;rw[a]at d;simp[ku]at d
 ·refine⟨?_,λ_ _=>h⟩;unfold nS at h;(repeat' split at h)<;>(try simp_all)<;>(try (obtain⟨_,_,_,h⟩:=h;exact h))
 ·rename_i a;rw[a]at d;simp[ku]at d
 ·rename_i a;rw[a]at d;simp[ku]at d
 ·refine⟨?_,λ_ _=>h⟩;unfold Ln at h;(repeat' split at h)<;>(try simp_all)<;>(try (obtain⟨_,_,_,h⟩:=h;exact h))
 ·refine⟨?_,λ_ _=>h⟩;unfold bN at h;(repeat' split at h)<;>first | exact v h | (simp_all;done)
 ·exact⟨v h,λ_ _=>h⟩
 ·rename_i a;rw[a]at d;simp[ku]at d
 ·refine⟨?_,λ_ _=>h⟩;unfold yc at h;(repeat' split at h)<;>(try simp_all)<;>(try (obtain⟨_,_,_,h⟩:=h;exact h))
 ·refine⟨?_,λ_ _=>h⟩;unfold yL at h;(repeat' split at h)<;>(try simp_all)<;>(try (obtain⟨_,_,_,h⟩:=h;exact h))
 ·rename_i a;rw[a]at d;simp[ku]at d
 ·rename_i a;rw[a]at d;simp[ku]at d
 ·rename_i a;rw[a]at d;simp[ku]at d
 ·rename_i a;rw[a]at d;simp[ku]at d
 ·refine⟨?_,λ_ _=>h⟩;unfold iB at h;(repeat' split at h)<;>(try simp_all)<;>(try (obtain⟨_,_,_,h⟩:=h;exact h))
 ·refine⟨?_,λ_ _=>h⟩;unfold tf at h;(repeat' split at h)<;>first | exact v h | (simp_all;done)
 ·rename_i a;rw[a]at d;simp[ku]at d
 ·refine⟨?_,λ_ _=>h⟩;unfold vT at h;(repeat' split at h)<;>first | exact v h | (simp_all;done)
 ·refine⟨?_,λ_ _=>h⟩;unfold Ad at h;(repeat' split at h)<;>(try simp_all)<;>(try (obtain⟨_,_,_,h⟩:=h;exact h))
 ·refine⟨?_,λ_ _=>h⟩;unfold sP at h;(repeat' split at h)<;>first | exact v h | (simp_all;done)
 ·rename_i c a;rw[a]at d;simp only[ku]at d;split at h;·cases h
  rename_i args e;split at h;·rename_i f;rw[f]at d;simp at d
  ·cases h
  rename_i b f;rw[f]at d;unfold cO at h;split at h;·have j:Oc c=false:=(by simpa using d);unfold Oc at j;rw[j]at h;simp at h
  ·rename_i k;refine⟨?_,λ_ _=>by simpa [e,f,cO] using h⟩;unfold HR at h;(repeat' split at h)<;>(try simp_all)<;>(try (obtain⟨_,_,_,h⟩:=h;exact h))<;>(try (obtain⟨n,_,h⟩:=iz.1 h;simp at h;exact h.2))
  ·exact⟨v h,λ_ _=>by simpa [e,f,cO] using h⟩
  ·exact⟨v h,λ_ _=>by simpa [e,f,cO] using h⟩
  ·simp at d
  ·simp at d
  cases h
 cases h
def LK{o:Op}(h:LL o=true) : ∃c,o = .call c/\c.callee = .builtin .len:=by
 unfold LL at h;split at h
 ·rename_i c;split at h;·rename_i a;exact⟨c,rfl,a⟩
  cases h
 cases h
def iv{E:Env}{o:Oper}(h:jj E o=true):wo E o=true:=by
 unfold wo;rw[KF h,ia];cases a:LL o.op with
 | false=>simp
 | true=>exfalso;obtain⟨c,d,b⟩:=LK a;simp[jj,d,Z6,b,Aw]at h
def xl{E:Env}{pc:FuncId->List AV->Option AV}{g:cL}{tm:List AV}{r:Ref}{o:Oper}(a:wo E o=false){x:AV}{bs:List aY}(h:cI E pc true g tm r o=some (x,bs)) :
 bs=[] /\∀C r',cI E pc true C tm r' o=some (x,bs):=by
 cases hp:ku o.op with| false=>exact Rr hp h| true=>
  unfold wo at a;rw[hp,ia]at a;obtain⟨d,f⟩:=wD.1 (by simpa using a:(E.strict o&&LL o.op)=true);obtain⟨c,k,j⟩:=LK f;unfold cI at h ⊢;simp only[k,j,d,Bool.true_or,zd]at h ⊢;split at h;·cases h
  rename_i args b;unfold cO at h ⊢;split at h;·simp at h
  ·rename_i y e;refine⟨?_,λ_ _=>?_⟩;·unfold HR at h;(repeat' split at h)<;>(try simp_all)<;>(try (obtain⟨_,_,_,h⟩:=h;exact h))<;>(try (obtain⟨n,_,h⟩:=iz.1 h;simp at h;exact h.2))
   exact h
  all_goals (first | cases h | simp_all)
end
section
def gk(ops:Array Oper)(dep:Nat)(sts:Nat->St)(i:Nat):Ref:=⟨dep,(jv ops i).getD 0,(sts i).hp.gen dep ((jv ops i).getD 0),0⟩
def newAt(E:Env)(pc:FuncId->List AV->Option AV)(ops:Array Oper)(dep:Nat)(sts:Nat->St)(i:Nat):List aY:=
 match ops[i]? with
 | none=>[]
 | some o=>if wo E o && !lk E ops i then
  match wanted ops (sts i).tm o with
  | some true=>(match cI E pc true (sts i).hp.get (sts i).tm (gk ops dep sts i) o with
   | some (_,bs)=>bs
   | none=>[])
  | _=>[]
  else []
def gF(a:cL)(key:Nat->Ref)(new:Nat->List aY)(L:Nat->Bool):Nat->cL
 | 0=>a
 | i+1=>if L i then sj (gF a key new L i) (key i) (new i) else gF a key new L i
def mt(key:Nat->Ref)(new:Nat->List aY)(i:Nat)(q:Ref):Prop:=q.d=(key i).d/\q.t=(key i).t/\q.g=(key i).g/\q.k<(new i).length
def sw{a:cL}{key:Nat->Ref}{new:Nat->List aY}{L:Nat->Bool}{q:Ref} : ∀n,(∀i,i<n->L i=true ->¬mt key new i q)->gF a key new L n q=a q:=by
 intro n;induction n with
 | zero=>intro _;rfl
 | succ n b=>
  intro h;simp only[gF];split;·rename_i c;exact(if_neg (h n (qp n) c)).trans (b λi hi=>h i (Bp hi))
  exact b λi hi=>h i (Bp hi)
def BF{d:cL}{key:Nat->Ref}{new:Nat->List aY}{L:Nat->Bool}{q:Ref}(a : ∀i j,mt key new i q->mt key new j q->i=j){i:Nat}(c:mt key new i q)(e:L i=true) :
 ∀n,i<n->gF d key new L n q=(new i)[q.k]?:=by
 intro n;induction n with
 | zero=>intro h;omega
 | succ n f=>
  intro h;simp only[gF];by_cases b:i=n;·subst b;rw[if_pos e];exact if_pos c
  have:gF d key new L n q=(new i)[q.k]?:=f (by omega);split;·exact(if_neg (λl=>b (a i n c l))).trans this
  exact this
section
variable{E:Env}{pc:FuncId->List AV->Option AV}{tc:tE->List AV->aa->cJ}{nt dep:Nat}{ops:Array Oper}{sts:Nat->St}
def TS(ops:Array Oper)(sts:Nat->St)(L:Nat->Bool)(tm:List AV):Prop:=
 ∀t,(∀i,i<ops.size->L i=true->jv ops i=some t->cX tm t=cX (sts (i+1)).tm t)/\((∀i,i<ops.size->L i=true->jv ops i≠some t)->cX tm t=cX (sts 0).tm t)
def vn{tm tm':List AV}{dst:Option Tmp}{x:AV}(h:dg nt tm dst x=some tm')(t:Nat):cX tm' t=if dst=some t then x else cX tm t:=by
 unfold dg at h;split at h;·injection h with h;subst h;simp
 rename_i d;obtain⟨_,h⟩:=eQ.1 h;injection h with h
 subst h;rw[rT];by_cases a:t=d;·subst a;simp
 rw[if_neg a,if_neg (by intro e;injection e with e;exact a e.symm)]
def lA{tm tm' tm1:List AV}{dst:Option Tmp}{x:AV}(h:dg nt tm dst x=some tm') : ∃a,dg nt tm1 dst x=some a:=by
 unfold dg at h ⊢;cases dst with
 | none=>exact⟨_,rfl⟩
 | some d=>simp only at h ⊢;obtain⟨hd,_⟩:=eQ.1 h;rw[if_pos hd];exact⟨_,rfl⟩
def KY{o:Oper}{i:Nat}(A:evalOp E pc tc nt dep true ops o (sts i)=some (sts (i+1))) : ∃x,dg nt (sts i).tm o.dst x=some (sts (i+1)).tm:=by
 unfold evalOp at A;split at A;·cases A
 ·simp only[bG]at A;obtain⟨tm',a,he⟩:=A;exact⟨_,by rw[<-he];exact a⟩
 split at A;·simp only[bG]at A;obtain⟨tm',a,he⟩:=A;exact⟨_,by rw[<-he];exact a⟩
 split at A;·cases A
 split at A;·simp only[bG]at A;obtain⟨tm',a,he⟩:=A;exact⟨_,by rw[<-he];exact a⟩
 cases A
section
variable(B:RegB ops)(A : ∀i o,ops[i]?=some o->evalOp E pc tc nt dep true ops o (sts i)=some (sts (i+1)))
include B A
omit A in
theorem Vg{i j:Nat}{t:Nat}(hi:jv ops i=some t)(a:jv ops j=some t):i=j:=by
 simp only[jv,iz]at hi a;obtain⟨oi,f,c⟩:=hi;obtain⟨d,b,e⟩:=a;exact B.distinct i j oi d t f b c e
theorem JE : ∀i,i<=ops.size->TS ops sts (λj=>decide (j<i)) (sts i).tm:=by
 intro i;induction i with
 | zero=>intro _ t;exact⟨λj _ c=>by simp at c,λ_=>rfl⟩
 | succ i s=>
  intro l t;have k:i<ops.size:=l;have n:=kn k;obtain⟨x,p⟩:=KY (A i _ n);have hd:jv ops i=ops[i].dst:=by simp[jv,n]
  have m:=vn p t;obtain⟨u,q⟩:=s (by omega) t;refine⟨λj c b f=>?_,λh=>?_⟩
  ·simp only[iQb]at b;by_cases d:j=i;·subst d;rfl
   have a:ops[i].dst≠some t:=(by intro e;rw[<-hd]at e;exact d (Vg B f e));rw[m,if_neg a];exact u j c (by simp;omega) f
  have a:ops[i].dst≠some t:=by rw[<-hd];exact h i k (by simp)
  rw[m,if_neg a];exact q λj c b=>h j c (by simp at b ⊢;omega)
theorem Gs{L:Nat->Bool}(u:pD ops L){i:Nat}{o:Oper}(p:ops[i]?=some o)(hi:L i=false)(q : ∀e∈fh o,L e=true){tm:List AV}(H:TS ops sts L tm){t:Nat}(v:t∈o.looksAt ops) :
 cX tm t=cX (sts i).tm t:=by
 have y:i<ops.size:=(iT.1 p).1;obtain⟨D,F⟩:=H t;obtain⟨x,z⟩:=JE B A i (by omega) t;by_cases k : ∃j,j<ops.size/\L j=true/\jv ops j=some t
 ·obtain⟨j,l,b,c⟩:=k;have a:=c;simp only[jv,iz]at a;obtain⟨m,h,d⟩:=a;have s:j≠i:=by intro e;rw[e,hi]at b;cases b
  rcases B.reads i j o m t p h s d v with ⟨n,_⟩ | ⟨_,f⟩
  ·rw[D j l b c,x j l (by simpa using n) c]
  have:=uO u j m h (λe G=>u j m b h e G) i f;rw[hi]at this;cases this
 rw[F λj l b c=>k ⟨j,l,b,c⟩];refine(z λj l b c=>?_).symm;simp only[iQb]at b;have a:=c;simp only[jv,iz]at a;obtain⟨m,h,d⟩:=a;rcases B.reads i j o m t p h (by omega) d v with ⟨_,f⟩ | ⟨I,_⟩
 ·exact k ⟨j,l,uO u i o p q j f,c⟩
 omega
omit A in
theorem tI{L s:Nat->Bool}{i:Nat}{o:Oper}(q:ops[i]?=some o)(d : ∀j,s j=true↔(L j=true\/j=i))(hi:L i=false){tm tm':List AV}(z:TS ops sts L tm){x:AV}(u:dg nt (sts i).tm o.dst x=some (sts (i+1)).tm)
 (k:dg nt tm o.dst x=some tm'):TS ops sts s tm':=by
 intro t;have l:i<ops.size:=(iT.1 q).1;have hd:jv ops i=o.dst:=by simp[jv,q]
 obtain⟨v,y⟩:=z t;have D:=vn u t;have p:=vn k t;refine⟨λj m c a=>?_,λf=>?_⟩
 ·rcases(d j).1 c with h | h
  ·have n:j≠i:=by intro e;rw[e,hi]at h;cases h
   have b:o.dst≠some t:=by rw[<-hd];intro e;exact n (Vg B a e)
   rw[p,if_neg b];exact v j m h a
  subst h;rw[hd]at a;rw[p,if_pos a,D,if_pos a]
 have b:o.dst≠some t:=by rw[<-hd];exact f i l ((d i).2 (.inr rfl))
 rw[p,if_neg b];exact y λj m c=>f j m ((d j).2 (.inl c))
end
variable(B:VS E ops)(A : ∀i o,ops[i]?=some o->evalOp E pc tc nt dep true ops o (sts i)=some (sts (i+1)))
include B A
abbrev XQ(ops:Array Oper)(dep:Nat)(sts:Nat->St):Nat->Ref:=gk ops dep sts
omit B A in
theorem sR{i:Nat}(h:newAt E pc ops dep sts i≠[]) : ∃o,ops[i]?=some o/\wo E o=true/\lk E ops i=false:=by
 unfold newAt at h;split at h;·exact absurd rfl h
 rename_i o b;split at h;·rename_i a;simp only[bt,gz]at a;exact⟨o,b,a.1,a.2⟩
 exact absurd rfl h
omit A in
theorem JZ{q:Ref}(i j:Nat)(h:mt (gk ops dep sts) (newAt E pc ops dep sts) i q)(l:mt (gk ops dep sts) (newAt E pc ops dep sts) j q):i=j:=by
 have ne : ∀ {i},mt (gk ops dep sts) (newAt E pc ops dep sts) i q->newAt E pc ops dep sts i≠[]:=by
  intro i h e;have:=h.2.2.2;rw[e]at this;simp at this
 obtain⟨oi,d,n,m⟩:=sR (ne h);obtain⟨k,c,u,v⟩:=sR (ne l);obtain⟨f,a⟩:=ib.1 (B.site i oi d n (pg m d (bg _)));obtain⟨s,b⟩:=ib.1 (B.site j k c u (pg v c (bg _)));have x:q.t=f:=by have:=h.2.1;simpa [gk,jv,d,a] using this
 have p:q.t=s:=by have:=l.2.1;simpa [gk,jv,c,b] using this
 exact B.distinct i j oi k f d c a (by rw[b,<-x,<-p])
def Zh(E:Env)(ops:Array Oper)(n:Nat):Prop :=∀j o,j<n->ops[j]?=some o->jj E o=false
omit B A in
theorem Uv{n:Nat}(c:Zh E ops (n+1)):lk E ops n=false:=by
 cases h:lk E ops n with| false=>rfl| true=>
  unfold lk at h;rw[Jd]at h;obtain⟨k,b,h⟩:=h;have a:=wz.1 b;split at h;·rename_i o d;rw[c k o a d]at h;cases h
  cases h
omit B in
theorem JG{n:Nat}(q:n<=ops.size)(d:Zh E ops n):(sts n).hp.get=gF (sts 0).hp.get (gk ops dep sts) (newAt E pc ops dep sts) (λ_=>true) n:=by
 induction n with| zero=>rfl| succ n m=>
  have b:=kn (show n<ops.size from q);have e:=m (by omega) (λj o s=>d j o (by omega));simp only[gF,if_true];rw[<-e];have hd:jv ops n=ops[n].dst:=by simp[jv,b]
  have k:gk ops dep sts n=⟨dep,ops[n].dst.getD 0,(sts n).hp.gen dep (ops[n].dst.getD 0),0⟩:=(by simp[gk,hd]);rcases nY (A n _ b)with ⟨a,tm',l,he⟩ | ⟨a,x,bs,h,tm',l,he⟩ | f
  ·have:newAt E pc ops dep sts n=[]:=(by unfold newAt;rw[b];simp only[a];split<;>rfl);rw[this,nj,he]
  ·have c:=Uv d;rw[he];simp only;rw[aa.mV,<-k];congr 1;unfold newAt;rw[b];simp only[a,k,h,c,xE,zd];cases p:wo E ops[n] with
   | true=>rfl
   | false=>rw[(xl p h).1];rfl
  exact absurd f (by rw[d n _ (qp n) b];simp)
omit B in
theorem KT{n:Nat}(K:n<=ops.size)(u:Zh E ops n)(d t:Nat):(sts 0).hp.gen d t<=(sts n).hp.gen d t /\
 ((∀j,j<n->newAt E pc ops dep sts j≠[] ->¬(d=dep/\t=(jv ops j).getD 0))->(sts n).hp.gen d t=(sts 0).hp.gen d t) /\
 ∀j,j<n->newAt E pc ops dep sts j≠[]->d=dep->t=(jv ops j).getD 0->(gk ops dep sts j).g<(sts n).hp.gen d t:=by
 induction n with| zero=>exact⟨bg _,λ_=>rfl,λj k=>by omega⟩| succ n G=>
  have m:=kn (show n<ops.size from K);obtain⟨i1,i2,i3⟩:=G (by omega) (λj o k=>u j o (by omega));have hd:jv ops n=ops[n].dst:=by simp[jv,m]
  have D:gk ops dep sts n=⟨dep,ops[n].dst.getD 0,(sts n).hp.gen dep (ops[n].dst.getD 0),0⟩:=(by simp[gk,hd]);have same:(sts (n+1)).hp=(sts n).hp->newAt E pc ops dep sts n=[]->(sts 0).hp.gen d t<=(sts (n+1)).hp.gen d t /\
   ((∀j,j<n+1->newAt E pc ops dep sts j≠[] ->¬(d=dep/\t=(jv ops j).getD 0))->(sts (n+1)).hp.gen d t=(sts 0).hp.gen d t) /\
   ∀j,j<n+1->newAt E pc ops dep sts j≠[]->d=dep->t=(jv ops j).getD 0->(gk ops dep sts j).g<(sts (n+1)).hp.gen d t:=by
   intro J H;rw[J];refine⟨i1,λh=>i2 λj k=>h j (by omega),λj k a=>?_⟩;have:j≠n:=by intro e;rw[e]at a;exact a H
   exact i3 j (by omega) a
  rcases nY (A n _ m)with ⟨f,tm',F,he⟩ | ⟨f,x,bs,z,tm',F,he⟩ | y
  ·refine same (by rw[he]) ?_;unfold newAt;rw[m];simp only[f];split<;>rfl
  ·have s:=Uv u;have l:newAt E pc ops dep sts n=bs:=by
    unfold newAt;rw[m];simp only[f,D,z,s,xE,zd];cases I:wo E ops[n] with
    | true=>rfl
    | false=>rw[(xl I z).1];rfl
   by_cases p:bs=[];·refine same ?_ (by rw[l,p]);rw[he,p];rfl
   rw[he];simp only;rw[aa.mj];simp only[ne_eq,p,not_false_eq_true,iQs];by_cases b:d=dep/\t=ops[n].dst.getD 0
   ·rw[if_pos b];obtain⟨rfl,rfl⟩:=b;refine⟨by omega,λh=>?_,λj k a v q=>?_⟩;·exact absurd ⟨rfl,by rw[hd]⟩ (h n (qp n) (by rw[l];exact p))
    by_cases c:j=n;·rw[c,D];exact qp _
    have:=i3 j (by omega) a rfl q;omega
   rw[if_neg b];refine⟨i1,λh=>i2 λj k=>h j (by omega),λj k a v q=>?_⟩;by_cases c:j=n;·subst c;exact absurd ⟨v,by rw[q,hd]⟩ b
   exact i3 j (by omega) a v q
  exact absurd y (by rw[u n _ (qp n) m];simp)
theorem IM{ι:Map}(v:rN ι (sts 0).hp){i:Nat}{o:Oper}(c:ops[i]?=some o)(x:wo E o=true)(f:jj E o=false)(t:Zh E ops i)(k:Nat):ι { gk ops dep sts i with k:=k}=none:=by
 have hi:i<ops.size:=(iT.1 c).1;obtain⟨d,hd⟩:=ib.1 (B.site i o c x f);have m:jv ops i=some d:=by simp[jv,c,hd]
 obtain⟨_,p,_⟩:=KT (pc:=pc) (tc:=tc) (nt:=nt) (dep:=dep) A (ji hi) t dep d;have q:(sts i).hp.gen dep d=(sts 0).hp.gen dep d:=p λj z e y=>by
  obtain⟨n,a,l,h⟩:=sR e;obtain⟨u,b⟩:=ib.1 (B.site j n a l (pg h a (bg _)));have:d=u:=by have:=y.2;simpa [jv,a,b] using this
  exact absurd (B.distinct i j o n d c a hd (by rw[b,this])) (by omega)
 have s:gk ops dep sts i=⟨dep,d,(sts 0).hp.gen dep d,0⟩:=by simp[gk,m,q]
 rw[s];exact v.fresh dep d k
end
end
section
def zI{ops:Array Oper}{o:Oper}{tm tm':List AV}(h : ∀t∈o.looksAt ops,cX tm t=cX tm' t):CW tm tm' o.op.operands.toList:=by
 intro x a;cases x with
 | tmp t=>simp only[aL];rw[h t];unfold Oper.looksAt;exact D3 _ (List.mem_filterMap.2 ⟨_,a,rfl⟩)
 | _=>rfl
def xG{ops:Array Oper}{o:Oper}{tm tm':List AV}(h : ∀t∈o.looksAt ops,cX tm t=cX tm' t):wanted ops tm o=wanted ops tm' o:=by
 unfold wanted;cases a:o.guard with
 | none=>rfl
 | some p=>
  obtain⟨j,b⟩:=p;simp only;cases hd:(ops[j]?).bind (·.dst) with
  | none=>rfl
  | some t=>simp only;rw[h t];unfold Oper.looksAt;rw[a];simp[hd]
def Eu{p p':Nat->Bool}{i:Nat}(c : ∀j,p' j=true->p j=true)(e:p i=true)(d:p' i=false) : ∀l:List Nat,i∈l->l.countP p'<l.countP p:=by
 intro l hi;have mono : ∀l:List Nat,l.countP p'<=l.countP p:=λl=>List.countP_mono_left λx _=>c x;induction l with
 | nil=>cases hi
 | cons a l f=>
  simp only[List.countP_cons];by_cases b:a=i;·subst b;have:=mono l;rw[e,d];simp;omega
  have:=f (by simpa [rO b] using hi);have h:(if p' a=true then 1 else 0)<=(if p a=true then 1 else 0):=by
   by_cases hp:p' a=true;·rw[if_pos hp,if_pos (c a hp)];exact bg _
   rw[if_neg hp];exact s8 _
  omega
def IV{E:Env}{pc:FuncId->List AV->Option AV}{tc:tE->List AV->aa->cJ}{nt dep:Nat}{ops:Array Oper}{o:Oper}{st st':St}{tm1:List AV}(h : ∀t∈o.looksAt ops,cX tm1 t=cX st.tm t)
 (a:evalOp E pc tc nt dep true ops o st=some st') : ∃x b,dg nt st.tm o.dst x=some st'.tm/\dg nt tm1 o.dst x=some b/\evalOp E pc tc nt dep true ops o ⟨tm1,st.hp⟩=some ⟨b,st'.hp⟩:=by
 have d:=zI h;have e:=xG h;unfold evalOp at a ⊢;simp only;rw[e,sV d,Va d];have c : ∀ {x:AV} {H:aa},(dg nt st.tm o.dst x).map (λtm=>(⟨tm,H⟩:St))=some st' ->∃j b,dg nt st.tm o.dst j=some st'.tm/\dg nt tm1 o.dst j=some b/\(dg nt tm1 o.dst x).map (λtm=>(⟨tm,H⟩:St))=some ⟨b,st'.hp⟩:=by
  intro x H m;obtain⟨tm',f,rfl⟩:=bG.1 m;obtain⟨b,k⟩:=lA (tm1:=tm1) f;exact⟨x,b,f,k,by rw[k];rfl⟩
 revert a;generalize wanted ops st.tm o=W;generalize cI E pc true st.hp.get st.tm ⟨dep,o.dst.getD 0,st.hp.gen dep (o.dst.getD 0),0⟩ o=X;generalize evalW E pc tc st.hp st.tm ⟨dep,o.dst.getD 0,st.hp.gen dep (o.dst.getD 0),0⟩ o=Y;intro a;rcases W with _ | ⟨_ | _⟩
 ·cases a
 ·exact c a
 rcases X with _ | ⟨x,bs⟩
 ·simp only at a ⊢;by_cases l:(true && !jj E o)=true;·rw[if_pos l]at a;cases a
  rw[if_neg l]at a ⊢;rcases Y with _ | ⟨x,H⟩
  ·cases a
  exact c a
 exact c a
section
variable{E:Env}{pc:FuncId->List AV->Option AV}{tc:tE->List AV->aa->cJ}{nt dep:Nat}{ops:Array Oper}{sts:Nat->St}
variable(B:VS E ops)(A : ∀i o,ops[i]?=some o->evalOp E pc tc nt dep true ops o (sts i)=some (sts (i+1)))
abbrev gL(E:Env)(pc:FuncId->List AV->Option AV)(ops:Array Oper)(dep:Nat)(sts:Nat->St)(L:Nat->Bool)(n:Nat):cL:=gF (sts 0).hp.get (gk ops dep sts) (newAt E pc ops dep sts) L n
structure VV (E:Env) (pc:FuncId->List AV->Option AV) (ops:Array Oper) (dep:Nat) (sts:Nat->St) (M:Mem) (ι:Map) (w:World) (L:Nat->Bool) (M1:Mem) (ι1:Map) (w1:World):Prop where
 quiet : ∀i o,L i=true->ops[i]?=some o->wo E o=true->lk E ops i=false
 sim:gA M1 ι1 (gL E pc ops dep sts L ops.size) w1
 fwd:tz M ι (sts 0).hp.get w M1 ι1 (gL E pc ops dep sts L ops.size) w1
 dom : ∀q,ι q=none->(∀i,i<ops.size->L i=true ->¬mt (gk ops dep sts) (newAt E pc ops dep sts) i q)->ι1 q=none
structure Sm (E:Env) (ops:Array Oper) (sts:Nat->St) (M:Mem) (ι:Map) (w:World) (L:Nat->Bool) (M1:Mem) (ι1:Map) (w1:World) (k:Nat):Prop where
 le:k<=ops.size
 wrote : ∃j o,j<k/\ops[j]?=some o/\jj E o=true
 upto : ∀i o,ops[i]?=some o->wo E o=true->(L i=true↔i<k)
 sim:gA M1 ι1 (sts k).hp.get w1
 dom:rN ι1 (sts k).hp
 fwd:tz M ι (sts 0).hp.get w M1 ι1 (sts k).hp.get w1
structure Inv (E:Env) (pc:FuncId->List AV->Option AV) (nt:Nat) (ops:Array Oper) (dep:Nat) (sts:Nat->St) (M:Mem) (ι:Map) (w:World) (ds:List Deferred) (L:Nat->Bool) (a1:Act) (w1:World):Prop where
 closed:pD ops L
 defers:a1.defers=ds
 at_ : ∃M1 ι1 tm1,TS ops sts L tm1/\TR M1 ι1 tm1 a1/\a1.tmps.size=nt/\(VV E pc ops dep sts M ι w L M1 ι1 w1 \/∃k,Sm E ops sts M ι w L M1 ι1 w1 k)
theorem pD.next{L f:Nat->Bool}{i:Nat}{o:Oper}(m:pD ops L)(n:ops[i]?=some o)(c : ∀e∈fh o,L e=true)(b : ∀j,f j=true↔(L j=true\/j=i)):pD ops f:=by
 intro j l k a e d;rcases(b j).1 k with h | h
 ·exact(b e).2 (.inl (m j l h a e d))
 subst h;rw[n]at a;injection a with a
 subst a;exact(b e).2 (.inl (c e d))
theorem RB(r:Ref)(H:aa):keyed r 0 [] H=H:=rfl
include A in
theorem LS{k:Nat} : ∀n,k<=n->n<=ops.size->(∀j o,k<=j->j<n->ops[j]?=some o->wo E o=false)->(sts n).hp=(sts k).hp:=by
 intro n;induction n with
 | zero=>intro h _ _;rw[Fk.1 h]
 | succ n p=>
  intro t q h;rcases eU n k with s | c
  ·rw[show k=n+1 by omega]
  have f:=kn (show n<ops.size from q);have d:=h n _ c (qp n) f;rw[<-p c (by omega) λj o a b=>h j o a (by omega)];rcases nY (A n _ f)with ⟨_,tm',l,he⟩ | ⟨_,x,bs,m,tm',l,he⟩ | e
  ·rw[he]
  ·rw[he,(xl d m).1];rfl
  rw[iv e]at d;cases d
theorem Uu{i:Nat}{o:Oper}(f:ops[i]?=some o)(d:wo E o=true)(a:lk E ops i=false):Zh E ops i:=
 λj e c b=>pg a b (ji c)
include B A in
theorem Uy{ι:Map}(h:rN ι (sts 0).hp){i:Nat}{q:Ref}(d:mt (gk ops dep sts) (newAt E pc ops dep sts) i q):ι q=none:=by
 have b:newAt E pc ops dep sts i≠[]:=by
  intro e;have:=d.2.2.2;rw[e]at this;simp at this
 obtain⟨o,c,f,a⟩:=sR b;have:=IM (pc:=pc) (tc:=tc) (nt:=nt) B A h c f (pg a c (bg _)) (Uu c f a) q.k;rwa [show({ gk ops dep sts i with k:=q.k}:Ref)=q by
  obtain⟨n,l,j,m⟩:=d;cases q;simp_all]at this
include B in
theorem U5{L l:Nat->Bool}{i:Nat}(hi:i<ops.size)(e : ∀j,l j=true↔(L j=true\/j=i)):gL E pc ops dep sts l ops.size=sj (gL E pc ops dep sts L ops.size) (gk ops dep sts i) (newAt E pc ops dep sts i):=by
 funext q;unfold sj;have c : ∀i j,mt (gk ops dep sts) (newAt E pc ops dep sts) i q->mt (gk ops dep sts) (newAt E pc ops dep sts) j q->i=j:=λi j=>JZ B i j;split;·rename_i k;exact BF c (i:=i) k ((e i).2 (.inr rfl)) ops.size hi
 rename_i k;by_cases d : ∃j,j<ops.size/\L j=true/\mt (gk ops dep sts) (newAt E pc ops dep sts) j q;·obtain⟨j,f,b,a⟩:=d;rw[gL,BF c a ((e j).2 (.inl b)) _ f,gL,BF c a b _ f]
 rw[gL,sw,gL,sw];·intro j f b a;exact d ⟨j,f,b,a⟩
 intro j f b a;rcases(e j).1 b with h | h
 ·exact d ⟨j,f,h,a⟩
 subst h;exact k a
include B in
theorem P3{L:Nat->Bool}{n:Nat}(v:n<=ops.size)(h : ∀j o,j<ops.size->ops[j]?=some o->wo E o=true->lk E ops j=false->(L j=true↔j<n)):gL E pc ops dep sts (λ_=>true) n=gL E pc ops dep sts L ops.size:=by
 funext q;have b : ∀i j,mt (gk ops dep sts) (newAt E pc ops dep sts) i q->mt (gk ops dep sts) (newAt E pc ops dep sts) j q->i=j:=λi j=>JZ B i j;have made : ∀ {j},mt (gk ops dep sts) (newAt E pc ops dep sts) j q ->∃o,ops[j]?=some o/\wo E o=true/\lk E ops j=false:=by
  intro j t;refine sR (pc:=pc) (dep:=dep) (sts:=sts) ?_;intro e;have:=t.2.2.2;rw[e]at this;simp at this
 by_cases k : ∃j,mt (gk ops dep sts) (newAt E pc ops dep sts) j q
 ·obtain⟨j,c⟩:=k;obtain⟨o,s,u,m⟩:=made c;have p:j<ops.size:=(iT.1 s).1;have d:=h j o p s u m;by_cases f:j<n;·rw[gL,BF b c rfl _ f,gL,BF b c (d.2 f) _ p]
  rw[gL,sw,gL,sw];·intro i hi l a;have:=b i j a c;subst this;exact f (d.1 l)
  intro i hi l a;have:=b i j a c;omega
 rw[gL,sw _ (λi _ _ a=>k ⟨i,a⟩),gL,sw _ (λi _ _ a=>k ⟨i,a⟩)]
include A in
theorem Mm{M:Mem}{ι c:Map}(z:rN ι (sts 0).hp){L:Nat->Bool}{n:Nat}(I:n<=ops.size)(y:Zh E ops n)
 (p : ∀q,ι q=none->(∀i,i<ops.size->L i=true ->¬mt (gk ops dep sts) (newAt E pc ops dep sts) i q)->c q=none)
 (u : ∀q l,ι q=some l->c q=some l) (h : ∀j o,j<ops.size->ops[j]?=some o->wo E o=true->lk E ops j=false->L j=true->j<n):rN c (sts n).hp:=by
 intro q l v;obtain⟨F,J,x⟩:=KT (pc:=pc) (tc:=tc) (nt:=nt) (dep:=dep) A I y q.d q.t;cases f:ι q with
 | some H=>exact yD (z q H f) F
 | none=>
  by_cases k : ∃i,i<ops.size/\L i=true/\mt (gk ops dep sts) (newAt E pc ops dep sts) i q;·obtain⟨i,hi,b,a⟩:=k;have m:newAt E pc ops dep sts i≠[]:=(by intro e;have:=a.2.2.2;rw[e]at this;simp at this);obtain⟨o,G,D,s⟩:=sR m;have:=x i (h i o hi G D s b) m a.1 a.2.1;rw[a.2.2.1];exact this
  rw[p q f λi hi b a=>k ⟨i,hi,b,a⟩]at v;cases v
variable{M:Mem}{ι:Map}{w:World}{ds:List Deferred}
include B A in
theorem UX(hpc : ∀f xs y,pc f xs=some y->ja E.P f xs y)(htc : ∀f xs H y H',tc f xs H=some (y,H')->il E.P f xs H y H'){ro:Option Nat}{Q:Exit->Act->World->Prop}
 (hS0:gA M ι (sts 0).hp.get w) (hD0:rN ι (sts 0).hp) {L L':Nat->Bool} {i:Nat} {o:Oper} (D:ops[i]?=some o) (hi:L i=false) (hed : ∀e∈fh o,L e=true)
 (n : ∀j,L' j=true↔(L j=true\/j=i)) {a1:Act} {w1:World} (hI:Inv E pc nt ops dep sts M ι w ds L a1 w1) {K:Act->World->Prop} (hK : ∀a' w',Inv E pc nt ops dep sts M ι w ds L' a' w'->K a' w') :
 if Region.wanted o (yielded ops a1.tmps) then o.wpIn (FW ro) 0 E.P a1 w1 K Q else K (a1.put o.dst undef) w1:=by
 obtain⟨hc,hds,M1,I,tm1,hTS,F,hnt,N⟩:=hI;have R:i<ops.size:=(iT.1 D).1;have hc':pD ops L':=pD.next hc D hed n;have T : ∀t∈o.looksAt ops,cX tm1 t=cX (sts i).tm t:=λt ht=>Gs B.toRegB A hc D hi hed hTS ht;have hag:=zI T;have hwd:=xG T;have step:=A i o D;have anc:=uO hc i o D hed;cases hb:(wo E o&&lk E ops i) with
 | true=>
  obtain⟨O,hwk⟩:=wD.1 hb;have G : ∀j d,j<i->ops[j]?=some d->wo E d=true->L j=true:=λj d S a c=>anc j (B.writes i j o d D a S O c hwk);have hO:yy M1 I ⟨tm1,(sts i).hp⟩ nt a1 w1/\tz M ι (sts 0).hp.get w M1 I (sts i).hp.get w1 /\∀j d,ops[j]?=some d->wo E d=true->(L j=true->j<i):=by
   rcases N with l | ⟨k,l⟩
   ·have X:Zh E ops i:=by
     intro j d S a;cases X:jj E d with
     | false=>rfl
     | true=>have:=pg (l.quiet j d (G j d S a (iv X)) a (iv X)) a (bg _);rw[X]at this;cases this
    have hle : ∀j d,ops[j]?=some d->wo E d=true->(L j=true->j<i):=by
     intro j d a c p;rcases Bq j i with h | h | h
     ·exact h
     ·subst h;rw[hi]at p;cases p
     have:=XI hwk (ji h);rw[l.quiet j d p a c]at this;cases this
    have hg:(sts i).hp.get=gL E pc ops dep sts L ops.size:=(by rw[JG (pc:=pc) A (ji R) X];exact P3 B (ji R) λj d S a c _=>⟨hle j d a c,λhji=>G j d hji a c⟩);refine⟨⟨by rw[hg];exact l.sim,?_,F,hnt⟩,by rw[hg];exact l.fwd,hle⟩;exact Mm (M:=M) (tc:=tc) (nt:=nt) A hD0 (ji R) X l.dom l.fwd.map λj d _ a c _=>hle j d a c
   have hki:k<=i:=by
    rcases eU i k with h | h
    ·rw[(l.upto i o D O).2 h]at hi;cases hi
    exact h
   have hst:(sts i).hp=(sts k).hp:=LS A i hki (ji R) λj d hkj hji a=>by
    cases c:wo E d with| false=>rfl| true=>have:=(l.upto j d a c).1 (G j d hji a c);omega
   refine⟨⟨by rw[hst];exact l.sim,by rw[hst];exact l.dom,F,hnt⟩,by rw[hst];exact l.fwd,λj d a c p=>?_⟩;have:=(l.upto j d a c).1 p;omega
  obtain⟨hO,hF,hle⟩:=hO;obtain⟨x,m,hx,s,hev⟩:=IV T step;refine DQ (E:=E) (Q:=Q) hO hpc htc (λh=>by cases h) (.inl rfl) hev λa' w' ⟨⟨M',z,hO',hF'⟩,hd'⟩=>hK a' w' ⟨hc',hd'.trans hds,M',z,m,?_,hO'.tr,hO'.nt,.inr ⟨i+1,?_⟩⟩;·exact tI B.toRegB D n hi hTS hx s
  obtain⟨j0,o0,hj0,ho0,hw0⟩:=aeZ hwk;refine⟨R,⟨j0,o0,by omega,ho0,hw0⟩,λj d a c=>⟨λS=>?_,λS=>?_⟩,hO'.sim,hO'.dom,hF.trans hF'⟩
  ·rcases(n j).1 S with h | h
   ·exact Bp (hle j d a c h)
   omega
  rcases eU j i with h | h
  ·exact(n j).2 (.inl (G j d h a c))
  exact(n j).2 (.inr (by omega))
 | false=>
  have hnl:wo E o=true->lk E ops i=false:=(by intro O;rw[O,ia]at hb;exact hb);have hk:gk ops dep sts i=⟨dep,o.dst.getD 0,(sts i).hp.gen dep (o.dst.getD 0),0⟩:=(by simp[gk,jv,D]);have still : ∀(u:Value)(x:AV)(m:List AV)(w':World)(M':Mem)(z:Map),newAt E pc ops dep sts i=[]->(N:(VV E pc ops dep sts M ι w L M1 I w1->VV E pc ops dep sts M ι w L M' z w') /\∀k,Sm E ops sts M ι w L M1 I w1 k->Sm E ops sts M ι w L M' z w' k) ->
   (wo E o=false \/∀k,¬Sm E ops sts M ι w L M1 I w1 k)->dg nt (sts i).tm o.dst x=some (sts (i+1)).tm->dg nt tm1 o.dst x=some m->TR M' z m (a1.put o.dst u)->(a1.put o.dst u).tmps.size=nt ->
   Inv E pc nt ops dep sts M ι w ds L' (a1.put o.dst u) w':=by
   intro u x m w' M' z hnil hcs W hx s htr hn;refine⟨hc',(iC _ _ _).trans hds,M',z,m,tI B.toRegB D n hi hTS hx s,htr,hn,?_⟩;rcases N with l | ⟨k,l⟩
   ·have J:=hcs.1 l;have hg:gL E pc ops dep sts L' ops.size=gL E pc ops dep sts L ops.size:=by rw[U5 B R n,hnil,nj]
    refine .inl ⟨λj d S a c=>?_,by rw[hg];exact J.sim,by rw[hg];exact J.fwd,λq hq hno=>J.dom q hq λj S p=>hno j S ((n j).2 (.inl p))⟩;rcases(n j).1 S with h | h
    ·exact J.quiet j d h a c
    subst h;rw[D]at a;injection a with a;rw[<-a]at c;exact hnl c
   have J:=hcs.2 k l;refine .inr ⟨k,J.le,J.wrote,λj d a c=>?_,J.sim,J.dom,J.fwd⟩;rcases W with W | W
   ·rw[<-J.upto j d a c,n j];constructor
    ·rintro(h | h);·exact h
     subst h;rw[D]at a;injection a with a;rw[<-a,W]at c;cases c
    exact .inl
   exact absurd l (W k)
  have Z:wo E o=true ->∀k,¬Sm E ops sts M ι w L M1 I w1 k:=by
   intro O k l;obtain⟨j,d,hjk,a,hwj⟩:=l.wrote;rcases eU i k with h | h
   ·rw[(l.upto i o D O).2 h]at hi;cases hi
   have:=PT a hwj (show j<=i by omega);rw[hnl O]at this;cases this
  have W:wo E o=false \/∀k,¬Sm E ops sts M ι w L M1 I w1 k:=by
   cases O:wo E o with| false=>exact .inl rfl| true=>exact .inr (Z O)
  rcases nY step with ⟨X,tm',ht,he⟩ | ⟨X,x,bs,hq,tm',ht,he⟩ | hwk'
  ·rw[<-hwd]at X;rw[jT F X];simp only[gj,iQh];have hx:dg nt (sts i).tm o.dst AV.undef=some (sts (i+1)).tm:=by rw[he];exact ht
   obtain⟨m,s⟩:=lA (tm1:=tm1) hx;obtain⟨h1,h2⟩:=F.put hnt s (u:=undef) (.v rfl);refine hK _ _ (still undef AV.undef m w1 M1 I ?_ ⟨id,λ_=>id⟩ W hx s h1 h2);unfold newAt;rw[D];rw[hwd]at X;simp only[X];split<;>rfl
  ·have hw':=X;rw[<-hwd]at X;rw[jT F X];simp only[if_true];have hx:dg nt (sts i).tm o.dst x=some (sts (i+1)).tm:=by rw[he];exact ht
   obtain⟨m,s⟩:=lA (tm1:=tm1) hx;cases O:wo E o with
   | false=>
    obtain⟨hbs,hall⟩:=xl O hq;subst hbs;have hnil:newAt E pc ops dep sts i=[]:=(by unfold newAt;rw[D];simp[O]);rcases N with l | ⟨k,l⟩
    ·have V : ∀k,I { (⟨dep+1,0,(sts 0).hp.gen (dep+1) 0,0⟩:Ref)with k:=k}=none:=λk=>l.dom _ (hD0.fresh _ _ k) λj _ _ hm=>by
      have:=hm.1;simp only[gk]at this;omega
     have hq':cI E pc true (gL E pc ops dep sts L ops.size) tm1 ⟨dep+1,0,(sts 0).hp.gen (dep+1) 0,0⟩ o=some (x,[]):=by rw[sV hag];exact hall _ _
     refine xt (E:=E) (o:=o) l.sim F rfl V hpc (λh=>by cases h) hq' ro K Q λu w' ⟨M',z,h1,h2,h3,h4⟩=>hK _ _ ?_;rw[nj]at h2 h3;obtain⟨h5,h6⟩:=(F.mono h3.mem h3.map).put hnt s h1;refine still u x m w' M' z hnil ⟨λ_=>⟨l.quiet,h2,l.fwd.trans h3,λq hq hno=>h4 q (l.dom q hq hno) (λk hk=>by simp at hk)⟩,λk hl=>?_⟩ (.inl O) hx s h5 h6;obtain⟨j,d,hjk,a,hwj⟩:=hl.wrote;have:=pg (l.quiet j d ((hl.upto j d a (iv hwj)).2 hjk) a (iv hwj)) a (bg _);rw[hwj]at this;cases this
    have hq':cI E pc true (sts k).hp.get tm1 ⟨dep,0,(sts k).hp.gen dep 0,0⟩ o=some (x,[]):=by rw[sV hag];exact hall _ _
    refine xt (E:=E) (o:=o) l.sim F rfl (λk'=>l.dom.fresh dep 0 k') hpc (λh=>by cases h) hq' ro K Q λu w' hout=>hK _ _ ?_;obtain⟨M',z,h1,h2,h3,h4⟩:=hout.toW l.dom;rw[RB]at h2 h3 h4;obtain⟨h5,h6⟩:=(F.mono h3.mem h3.map).put hnt s h1;refine⟨hc',(iC _ _ _).trans hds,M',z,m,tI B.toRegB D n hi hTS hx s,h5,h6,.inr ⟨k,l.le,l.wrote,λj d a c=>?_,h2,h4,l.fwd.trans h3⟩⟩;rw[<-l.upto j d a c,n j];constructor
    ·rintro(h | h);·exact h
     subst h;rw[D]at a;injection a with a;rw[<-a,O]at c;cases c
    exact .inl
   | true=>
    rcases N with l | ⟨k,l⟩
    ·have hlk:=hnl O;have hwk:=pg hlk D (bg _);have hnw:=Uu D O hlk;have hbs:newAt E pc ops dep sts i=bs:=(by unfold newAt;rw[D];simp only[hw',hk,hq,O,hlk,xE,zd,if_true]);rw[<-hk,JG (pc:=pc) A (ji R) hnw]at hq;have hloc:C4 I (gF (sts 0).hp.get (gk ops dep sts) (newAt E pc ops dep sts) (λ_=>true) i) (gL E pc ops dep sts L ops.size):=by
      intro q b hg hne;have Y : ∀i j,mt (gk ops dep sts) (newAt E pc ops dep sts) i q->mt (gk ops dep sts) (newAt E pc ops dep sts) j q->i=j:=λi j=>JZ B i j;by_cases hex : ∃j,mt (gk ops dep sts) (newAt E pc ops dep sts) j q
      ·obtain⟨j,hjm⟩:=hex;have hf:ι q=none:=Uy (tc:=tc) (nt:=nt) B A hD0 hjm;have hjs:j<ops.size:=(by have:newAt E pc ops dep sts j≠[]:=(by intro e;have:=hjm.2.2.2;rw[e]at this;simp at this);obtain⟨d,a,_⟩:=sR this;exact(iT.1 a).1);cases p:L j with
       | false=>exact absurd (l.dom q hf λi' _ hL U=>by rw[Y i' j U hjm,p]at hL;cases hL) hne
       | true=>
        by_cases hji:j<i;·rw[BF Y hjm rfl _ hji]at hg;rw[gL,BF Y hjm p _ hjs];exact hg
        rw[sw _ (λi' hi' _ U=>by have:=Y i' j U hjm;omega),hS0.XB hf]at hg;cases hg
      rw[sw _ (λi' _ _ U=>hex ⟨i',U⟩)]at hg;rw[gL,sw _ (λi' _ _ U=>hex ⟨i',U⟩)];exact hg
     rw[<-sV hag]at hq;have hq':=DP l.sim hloc F hq;have V : ∀k,I { gk ops dep sts i with k:=k}=none:=λk=>l.dom _ (IM (pc:=pc) (tc:=tc) (nt:=nt) B A hD0 D O hwk hnw k) λj _ p hm=>by
      have hne:newAt E pc ops dep sts j≠[]:=(by intro e;have:=hm.2.2.2;rw[e]at this;simp at this);obtain⟨d,a,c,hnj⟩:=sR hne;obtain⟨dj,hdj⟩:=ib.1 (B.site j d a c (pg hnj a (bg _)));obtain⟨di,hdi⟩:=ib.1 (B.site i o D O hwk);have:di=dj:=by have:=hm.2.1;simpa [gk,jv,a,hdj,D,hdi] using this
      have:=B.distinct i j o d di D a hdi (by rw[hdj,this]);subst this;rw[hi]at p;cases p
     refine xt (E:=E) (o:=o) l.sim F (by simp[gk]) V hpc (λh=>by cases h) hq' ro K Q λu w' ⟨M',z,h1,h2,h3,h4⟩=>hK _ _ ?_;obtain⟨h5,h6⟩:=(F.mono h3.mem h3.map).put hnt s h1;have hg':gL E pc ops dep sts L' ops.size=sj (gL E pc ops dep sts L ops.size) (gk ops dep sts i) bs:=by rw[U5 B R n,hbs]
     refine⟨hc',(iC _ _ _).trans hds,M',z,m,tI B.toRegB D n hi hTS hx s,h5,h6,.inl ⟨λj d S a c=>?_,by rw[hg'];exact h2,by rw[hg'];exact l.fwd.trans h3,λq hq hno=>?_⟩⟩
     ·rcases(n j).1 S with h | h
      ·exact l.quiet j d h a c
      subst h;exact hlk
     refine h4 q (l.dom q hq λj S p=>hno j S ((n j).2 (.inl p))) λk hk' e=>?_;refine hno i R ((n i).2 (.inr rfl)) ?_;rw[e];exact⟨rfl,rfl,rfl,by rw[hbs];exact hk'⟩
    exact absurd l (Z O k)
  have h1:=hnl (iv hwk');rw[PT D hwk' (bg i)]at h1;cases h1
include B A in
theorem PW(y:rN ι (sts 0).hp){L:Nat->Bool}(c : ∀i,i<ops.size->L i=true){a v:Act}{G:World}(q:a.defers=ds)(N:Inv E pc nt ops dep sts M ι w ds L v G):kD M ι (sts 0) a w nt (sts ops.size) v G:=by
 obtain⟨R,s,D,m,tm1,x,F,u,l⟩:=N;have z : ∀t,cX tm1 t=cX (sts ops.size).tm t:=by
  intro t;obtain⟨O,Q⟩:=x t;obtain⟨I,K⟩:=JE B.toRegB A ops.size (bg _) t;by_cases h : ∃j,j<ops.size/\jv ops j=some t;·obtain⟨j,b,hd⟩:=h;rw[O j b (c j b) hd,I j b (by simpa using b) hd]
  rw[Q λj b _ hd=>h ⟨j,b,hd⟩,K λj b _ hd=>h ⟨j,b,hd⟩]
 have f:TR D m (sts ops.size).tm v:=⟨λt=>by rw[<-z];exact F.at_ t⟩;rcases l with d | ⟨k,d⟩
 ·have p:Zh E ops ops.size:=λj o b e=>by
   cases p:jj E o with| false=>rfl| true=>have:=pg (d.quiet j o (c j b) e (iv p)) e (bg _);rw[p]at this;cases this
  have H:(sts ops.size).hp.get=gL E pc ops dep sts L ops.size:=(by rw[JG (pc:=pc) A (bg _) p];exact P3 B (bg _) λj o b _ _ _=>⟨λ_=>b,λ_=>c j b⟩);refine⟨⟨D,m,⟨by rw[H];exact d.sim,?_,f,u⟩,by rw[H];exact d.fwd⟩,s.trans q.symm⟩;exact Mm (M:=M) (tc:=tc) (nt:=nt) A y (bg _) p d.dom d.fwd.map λj o b _ _ _ _=>b
 have n:(sts ops.size).hp=(sts k).hp:=LS A ops.size d.le (bg _) λj o P b e=>by
  cases J:wo E o with| false=>rfl| true=>have:=(d.upto j o e J).1 (c j b);omega
 exact⟨⟨D,m,⟨by rw[n];exact d.sim,by rw[n];exact d.dom,f,u⟩,by rw[n];exact d.fwd⟩,s.trans q.symm⟩
include B in
theorem BM{a:Array Bool}(n:a.size=ops.size)(h:Region.ready .any ops a=[]) : ∀i,i<ops.size->a.getD i false=true:=by
 intro i;induction i using Nat.strongRecOn with | ind i j=>
 intro hi;cases m:a.getD i false with
 | true=>rfl
 | false=>
  exfalso;have f:=kn hi;have c:a.getD i true=false:=by
   have:i<a.size:=(by omega);simpa [Array.getD,this] using m
  have:i∈Region.ready .any ops a:=(by rw[iQx];refine⟨c,_,f,λe k l=>?_⟩;have b:e.on∈fh ops[i]:=(by unfold fh;exact j6.2 ⟨e,C9.2 ⟨by simpa using k,l⟩,rfl⟩);have d:=B.edges i _ f _ b;exact j e.on d (by omega));rw[h]at this;cases this
include B A in
theorem ab8(W : ∀f x y,pc f x=some y->ja E.P f x y)(V : ∀f x H y H',tc f x H=some (y,H')->il E.P f x H y H'){ro:Option Nat}{a0:Act}(u:a0.defers=ds){Q:Exit->Act->World->Prop}
 (S:gA M ι (sts 0).hp.get w) (h:rN ι (sts 0).hp) (X : ∀J w',kD M ι (sts 0) a0 w nt (sts ops.size) J w'->Q .normal J w') : ∀(b:Nat)(a:Array Bool)(D:Act)(I:World),a.size=ops.size ->
 (List.range ops.size).countP (λi => !a.getD i false)<=b->Inv E pc nt ops dep sts M ι w ds (λi=>a.getD i false) D I->wpAnyIn (FW ro) 0 E.P .any ops Q b a D I:=by
 intro b;induction b with
 | zero=>
  intro a D I q hf F;have c : ∀i,i<ops.size->a.getD i false=true:=by
   intro i hi;cases T:a.getD i false with
   | true=>rfl
   | false=>exfalso;have:0<(List.range ops.size).countP (λi => !a.getD i false):=List.countP_pos_iff.2 ⟨i,wz.2 hi,by rw[T];rfl⟩;omega
  refine⟨?_,X _ _ (PW B A h c u F)⟩;refine SG.2 λi hi=>?_;rw[iQx]at hi;obtain⟨t,o,z,_⟩:=hi;have k:i<ops.size:=(iT.1 z).1;have G:=c i k;have:i<a.size:=by omega
  simp[Array.getD,this]at t G;rw[G]at t;cases t
 | succ b Z=>
  intro a D I q hf F;refine⟨λhr=>X _ _ (PW B A h (BM B q hr) u F),λi hi=>?_⟩;rw[iQx]at hi;obtain⟨t,o,z,N⟩:=hi;have k:i<ops.size:=(iT.1 z).1;have s:i<a.size:=by omega
  have v:a.getD i false=false:=(by simpa [Array.getD,s] using t);have m : ∀e∈fh o,(λi=>a.getD i false) e=true:=(by intro e Y;unfold fh at Y;obtain⟨d,hd,rfl⟩:=j6.1 Y;obtain⟨G,h2⟩:=C9.1 hd;exact N d (by simpa using G) h2);have n : ∀j,(λj=>(a.setIfInBounds i true).getD j false) j=true↔((λj=>a.getD j false) j=true\/j=i):=by
   intro j;simp only;by_cases l:j=i;·subst l;simp[s]
   rw[getD_set_ne false (rO l)];simp[l]
  have:=UX (E:=E) (tc:=tc) (ro:=ro) (K:=wpAnyIn (FW ro) 0 E.P .any ops Q b (a.setIfInBounds i true)) (Q:=Q) B A W V S h (L:=λi=>a.getD i false) z v m n F λJ w' O=>by
   refine Z _ J w' (by simp[q]) ?_ O;have:=Eu (p:=λj => !a.getD j false) (p':=λj => !(a.setIfInBounds i true).getD j false) (i:=i) (λj U=>by
    simp only[gz]at U ⊢;cases T:a.getD j false with
    | false=>rfl
    | true=>have:=(n j).2 (.inl T);simp only at this;rw[this]at U;cases U) (by simp only[v,xE]) (by have:=(n i).2 (.inr rfl);simp only at this ⊢;rw[this];rfl) (List.range ops.size) (wz.2 k)
   omega
  unfold wpOpIn;rw[z];simp only;split;·rename_i R;rw[if_pos R]at this;exact this
  rename_i R;rw[if_neg R]at this;exact⟨λ_ _=>trivial,this⟩
end
def Mj{E:Env}(z:E.P.follows .mixedOrders=true){ops:Array Oper}(m:Ch E ops=true){pc:FuncId->List AV->Option AV}(u : ∀f d y,pc f d=some y->ja E.P f d y)
 {tc:tE->List AV->aa->cJ} (s : ∀f d H y H',tc f d H=some (y,H')->il E.P f d H y H') {nt dep id:Nat} {st st':St} {M:Mem} {ι:Map} {a:Act} {w:World} {ro:Option Nat} {Q:Exit->Act->World->Prop}
 (h:nw E pc tc nt dep true ops ops.toList st=some st') (e:yy M ι st nt a w) (F : ∀j w',kD M ι st a w nt st' j w'->Q .normal j w'):(Code.region id ops true).wpIn (FW ro) 0 E.P Q a w:=by
 obtain⟨sts,I,v,D⟩:=Gl ops.toList st st' h;rw[Az]at v;have B:=Lg m;have A : ∀i o,ops[i]?=some o->evalOp E pc tc nt dep true ops o (sts i)=some (sts (i+1)):=λi o K=>D i o (by simpa using K);subst I;refine wpIn_region_any z ?_;have p:tz M ι (sts 0).hp.get w M ι (sts 0).hp.get { w with drawn:=w.drawn+1} :=
  ⟨rfl,rfl,rfl,bg _,λ_ _ _=>rfl,λ_ _ _ h=>h,λ_ _ h=>h,λr k l h G => .inr ⟨r,k,l,h,G,rfl⟩,λ_ _ _ h => .inl h⟩
 have c : ∀i,(Array.replicate ops.size false).getD i false=false:=by
  intro i;simp only[BY,M9];split<;>rfl
 have b : ∀n,gF (sts 0).hp.get (gk ops dep sts) (newAt E pc ops dep sts) (λi=>(Array.replicate ops.size false).getD i false) n=(sts 0).hp.get:=by
  intro n;funext q;refine sw n λi _ hi=>?_;exact absurd ((c i).symm.trans hi) (by simp)
 refine ab8 (tc:=tc) (M:=M) (ι:=ι) (w:=w) (a0:=a) B A u s rfl e.sim e.dom (λj w' x=>F j w' (v ▸ x)) ops.size _ a _ (by simp) ?_ ?_;·exact vj iQK (by simp)
 refine⟨λi o hi=>?_,rfl,M,ι,(sts 0).tm,?_,e.tr,e.nt,.inl ⟨λi o hi=>?_,?_,?_,λq J _=>J⟩⟩;·exact absurd ((c i).symm.trans hi) (by simp)
 ·exact λt=>⟨λi _ hi=>absurd ((c i).symm.trans hi) (by simp),λ_=>rfl⟩
 ·exact absurd ((c i).symm.trans hi) (by simp)
 ·rw[gL,b];exact e.sim.drew rfl
 rw[gL,b];exact p
end
end Go.Ab
