/-
  What a quiet operation of the abstract machine looks at. No statement of a seat is proved here.
-/
import Derived.Test.YtmkmimgokagimaaGreatAbsWalk
set_option linter.unusedVariables false
set_option linter.unusedSimpArgs false
set_option linter.unusedSectionVars false
set_option linter.unnecessarySimpa false
set_option linter.defProp false
namespace Go.Ab
section
def mapM_congr{b d:Type}{f c:b->Option d} : ∀ {l:List b},(∀x∈l,f x=c x)->l.mapM f=l.mapM c:=by
 intro l;induction l with
 | nil=>intro _;rfl
 | cons a l j=>intro h;simp only[mH];rw[h a (gy ..),j λx e=>h x (fO _ e)]
def u9(tm tm':List AV)(xs:List Operand):Prop :=∀x∈xs,aC tm x=aC tm' x
def qz{tm tm':List AV}{ps:List (Nat × Operand)}(h : ∀p∈ps,aC tm p.2=aC tm' p.2):gK tm ps=gK tm' ps:=by
 unfold gK;exact mapM_congr λp hp=>by obtain⟨i,o⟩:=p;simp only[h (i,o) hp]
def zJ{tm tm':List AV}{x:Option Operand}(h : ∀y,x=some y->aC tm y=aC tm' y):mP tm x=mP tm' x:=by
 cases x with| none=>rfl| some y=>simp only[mP,h y rfl]
def uA{E:Env}{pc:FuncId->List AV->Option AV}{m:Bool}{g:cF}{tm tm':List AV}{r:Ref}{o:Oper}(h:u9 tm tm' o.op.operands.toList) :
 cr E pc m g tm r o=cr E pc m g tm' r o:=by
 unfold u9 at h;unfold cr;split;·rename_i x j;rw[j]at h;simp only[Op.operands]at h;rw[h x (by simp)]
 ·rename_i x j;rw[j]at h;simp only[Op.operands]at h;rw[h x (by simp)]
 ·rename_i c a b j;rw[j]at h;simp only[Op.operands]at h;simp only[HU];rw[h c (by simp),h a (by simp),h b (by simp)]
 ·rfl
 ·rename_i e x j;rw[j]at h;simp only[Op.operands]at h;rw[h x (by simp)]
 ·rename_i t ps j;rw[j]at h;simp only[Op.operands]at h;rw[qz λp hp=>h p.2 (by simp;exact⟨p.1,by simpa using hp⟩)]
 ·rename_i t n ps j;rw[j]at h;simp only[Op.operands]at h;rw[qz λp hp=>h p.2 (by simp;exact⟨p.1,by simpa using hp⟩)]
 ·rename_i t x j;rw[j]at h;simp only[Op.operands]at h;rw[h x (by simp)]
 ·rename_i x j;rw[j]at h;simp only[Op.operands]at h;rw[h x (by simp)]
 ·rename_i D t x y ty j;rw[j]at h;simp only[Op.operands]at h;rw[h x (by simp),h y (by simp)]
 ·rename_i D t x j;rw[j]at h;simp only[Op.operands]at h;rw[h x (by simp)]
 ·rename_i s d x j;rw[j]at h;simp only[Op.operands]at h;rw[h x (by simp)]
 ·rename_i t x j;rw[j]at h;simp only[Op.operands]at h;rw[h x (by simp)]
 ·rename_i f a b j;rw[j]at h;simp only[Op.operands]at h;rw[mapM_congr λx q=>h x (by simp at q ⊢;exact .inl q),mapM_congr λx q=>h x (by simp at q ⊢;exact .inr q)]
 ·rename_i t l c j;rw[j]at h;simp only[Op.operands]at h;rw[h l (by simp),h c (by simp)]
 ·rfl
 ·rename_i t x k ok j;rw[j]at h;simp only[Op.operands]at h;rw[h x (by simp),h k (by simp)]
 ·rename_i t x z G F j;rw[j]at h;simp only[Op.operands]at h;rw[h x (by simp),zJ (x:=z) λy u=>h y (by simp[u]),zJ (x:=G) λy u=>h y (by simp[u]),zJ (x:=F) λy u=>h y (by simp[u])]
 ·rename_i t x f j;rw[j]at h;simp only[Op.operands]at h;rw[h x (by simp)]
 ·rename_i t x f j;rw[j]at h;simp only[Op.operands]at h;rw[h x (by simp)]
 ·rename_i t x y j;rw[j]at h;simp only[Op.operands]at h;rw[h x (by simp),h y (by simp)]
 ·rename_i t x y j;rw[j]at h;simp only[Op.operands]at h;rw[h x (by simp),h y (by simp)]
 ·rename_i x t H ok j;rw[j]at h;simp only[Op.operands]at h;rw[h x (by simp)]
 ·rename_i x i j;rw[j]at h;simp only[Op.operands]at h;rw[h x (by simp)]
 ·rename_i c j;rw[j]at h;simp only[Op.operands,Call.operands]at h;rw[mapM_congr (l:=c.args.toList) λx q=>h x (by simp at q ⊢;exact .inr q)];split;·rfl
  split;·rename_i f v;rw[h f (by simp[v])]
  ·rfl
  rfl
 rfl
def WN{E:Env}{pc:FuncId->List AV->Option AV}{tc:uE->List AV->aa->cp}{H:aa}{tm tm':List AV}{r:Ref}{o:Oper}(h:u9 tm tm' o.op.operands.toList) :
 evalW E pc tc H tm r o=evalW E pc tc H tm' r o:=by
 unfold u9 at h;unfold evalW;generalize o.op=op at h ⊢;cases op<;>try rfl
 case store t x y=>simp only[Op.operands]at h;simp only;rw[h x (by simp),h y (by simp)]
 case mapUpdate t m k y=>simp only[Op.operands]at h;simp only;rw[h m (by simp),h k (by simp),h y (by simp)]
 case insert t m k y=>simp only[Op.operands]at h;simp only;rw[h m (by simp),h k (by simp),h y (by simp)]
 case mapEntry t m k=>simp only[Op.operands]at h;simp only;rw[h m (by simp),h k (by simp)]
 case entryStore t m k y=>simp only[Op.operands]at h;simp only;rw[h m (by simp),h k (by simp),h y (by simp)]
 case buildSlice t n ps=>simp only[Op.operands]at h;simp only;rw[qz λp hp=>h p.2 (by simp;exact⟨p.1,by simpa using hp⟩)]
 case makeChan t n=>simp only[Op.operands]at h;simp only;rw[h n (by simp)]
 case send c x=>simp only[Op.operands]at h;simp only;rw[h c (by simp),h x (by simp)]
 case recv t c b=>simp only[Op.operands]at h;simp only;rw[h c (by simp)]
 case call c=>
  simp only[Op.operands,Call.operands]at h;simp only;rw[mapM_congr (l:=c.args.toList) λx a=>h x (by simp at a ⊢;exact .inr a)];split;·rfl
  split;·rename_i f d;rw[h f (by simp[d])]
  ·rfl
  rfl
def W4{E:Env}{H:aa}{tm tm':List AV}{r:Ref}{o:Oper}(h:u9 tm tm' o.op.operands.toList):yV E H tm r o=yV E H tm' r o:=by
 unfold u9 at h;unfold yV;generalize o.op=op at h ⊢;cases op<;>try rfl
 case buildSlice t n ps=>simp only[Op.operands]at h;simp only;rw[qz λp hp=>h p.2 (by simp;exact⟨p.1,by simpa using hp⟩)]
 case call c=>
  simp only[Op.operands,Call.operands]at h;simp only;rw[mapM_congr (l:=c.args.toList) λx a=>h x (by simp at a ⊢;exact .inr a)]
def Tv{E:Env}{pc:FuncId->List AV->Option AV}{a:Bool}{g:cF}{tm tm':List AV}{r:Ref}{o:Oper}(h:u9 tm tm' o.op.operands.toList) :
 uL E pc a g tm r o=uL E pc a g tm' r o:=by
 unfold uL;rw[uA h]
def Tu{E:Env}{pc:FuncId->List AV->Option AV}{tc:uE->List AV->aa->cp}{a:Bool}{H:aa}{tm tm':List AV}{r:Ref}{o:Oper}(h:u9 tm tm' o.op.operands.toList) :
 tK E pc tc a H tm r o=tK E pc tc a H tm' r o:=by
 unfold tK;rw[WN h,W4 h]
def Ej(ι:Map)(g C:cF):Prop :=∀q k,g q=some k->ι q≠none->C q=some k
section
variable{M:Mem}{ι:Map}{g C:cF}{w:World}
def RA{l:Loc}{k:aQ}(j:eW M ι w l k){e:AV}(f:e∈k.es) : ∃u,VR M (k.map ι) e u:=by
 obtain⟨i,d,a⟩:=qP f;have c:=j.cell i (by rw[dy d,a]);obtain⟨us,b,_,_⟩:=c.values;cases e with
 | agg cs=>exact⟨.agg us.toArray,VR.qA.2 (by simpa [AV.cells] using b)⟩
 | _=>have h:=b.1;obtain⟨u,rfl⟩:=Lt h.symm;exact⟨u,b.2 0 _ u rfl rfl⟩
def Nr{f b:AV->Option AV}{l e:List AV}(h:l.mapM f=some e)(k : ∀x∈l,∀y,f x=some y->b x=some y):l.mapM b=some e:=by
 rw[<-h];refine mapM_congr λx c=>?_;obtain⟨i,j,a⟩:=qP c;obtain⟨y,_,d⟩:=lT h i x (by rw[dy j,a]);rw[d,k x c y d]
def vU{b d:Type}{f c:b->List d} : ∀ {l:List b},(∀x∈l,f x=c x)->l.flatMap f=l.flatMap c:=by
 intro l;induction l with
 | nil=>intro _;rfl
 | cons a l j=>intro h;rw[na,na,h a (gy ..),j λx e=>h x (fO _ e)]
def yg(hS:gA M ι C w)(hL:Ej ι g C) : ∀(n:Nat)(x y:AV)(u:Value)(p:Mem),view g n x=some y->VR p ι x u->view C n x=some y/\ah C n x=ah g n x /\∀r∈ah g n x,ι r≠none:=by
 intro n;induction n with
 | zero=>intro x y u p h;simp[view]at h
 | succ n T=>
  intro x y u p h hv;have e : ∀ {cs ys:List AV},cs.mapM (view g n)=some ys->(∀c∈cs,∃u p,VR p ι c u)->cs.mapM (view C n)=some ys/\cs.flatMap (ah C n)=cs.flatMap (ah g n) /\∀r∈cs.flatMap (ah g n),ι r≠none:=by
   intro cs ys z L;refine⟨Nr z λc t y P=>?_,vU λc t=>?_,?_⟩;·obtain⟨u,p,hu⟩:=L c t;exact(T c y u p P hu).1
   ·obtain⟨u,p,hu⟩:=L c t;obtain⟨i,Q,G⟩:=qP t;obtain⟨y,_,P⟩:=lT z i c (by rw[dy Q,G]);exact(T c y u p P hu).2.1
   intro r D;obtain⟨c,t,D⟩:=fq.1 D;obtain⟨u,p,hu⟩:=L c t;obtain⟨i,Q,G⟩:=qP t;obtain⟨y,_,P⟩:=lT z i c (by rw[dy Q,G]);exact(T c y u p P hu).2.2 r D
  have inl : ∀ {cs:List AV} {R:Array Value},cs.length=R.size->(∀(i:Nat) c u,cs[i]?=some c->R[i]?=some u->VR p ι c u) ->∀c∈cs,∃u p,VR p ι c u:=(by intro cs R S K c t;obtain⟨i,Q,G⟩:=qP t;exact⟨R[i]'(by omega),p,K i c _ (by rw[dy Q,G]) (kJ (by omega))⟩);cases hv with
  | v hs=>simp[view]at h;subst h;simp[view,ah]
  | agg S K=>simp only[view,bG]at h;obtain⟨ys,z,rfl⟩:=h;obtain⟨F,I,H⟩:=e z (inl S K);exact⟨by simp[view,F],by simp only[ah];exact I,by simp only[ah];exact H⟩
  | tup h0 S K=>simp only[view,bG]at h;obtain⟨ys,z,rfl⟩:=h;obtain⟨F,I,H⟩:=e z (inl S K);exact⟨by simp[view,F],by simp only[ah];exact I,by simp only[ah];exact H⟩
  | cC=>simp[view]at h;subst h;simp[view,ah]
  | iptr=>simp[view]at h;subst h;simp[view,ah]
  | bN D hb hs ha t hn hk J=>
   rename_i r Z len cap l a c;simp only[view]at h;split at h;·rename_i b f;have:=hL r b f (by rw[D];simp);exact⟨by simp only[view,this];exact h,by simp[ah],by intro q k;simp only[ah,nc]at k;rw[k,D];simp⟩
   cases h
  | dsl D hb hs ha t hn hk J=>
   rename_i r Z len cap l a c;simp only[view]at h;split at h
   ·rename_i b f;have m:=hL r b f (by rw[D];simp);split at h
    ·rename_i K;obtain⟨d,hlen⟩:=K;simp only[bG]at h;obtain⟨es,N,rfl⟩:=h;have O:=hS.at D J m;obtain⟨F,I,H⟩:=e N λc t=>by
      obtain⟨u,hu⟩:=RA O t;rw[aQ.map,d]at hu;exact⟨u,M,by simpa using hu⟩
     exact⟨by simp[view,m,d,hlen,F],by simp only[ah,m,f];rw[I],by
      intro q k;simp only[ah,f]at k;rcases eD.1 k with rfl | k
      ·rw[D];simp
      exact H q k⟩
    cases h
   cases h
  | ptr D J=>
   rename_i r i j l;simp only[view]at h;split at h
   ·rename_i b f;have m:=hL r b f (by rw[D];simp);cases d:b.arr with
    | true=>rw[d]at h;exact⟨by simp only[view,m,d];exact h,by simp[ah,m,f,d],by intro q k;simp[ah,f,d]at k;rw[k,D];simp⟩
    | false=>
     rw[d]at h;simp only[mJ,iQf,bG]at h;obtain⟨es,N,rfl⟩:=h;have O:=hS.at D J m;obtain⟨F,I,H⟩:=e N λc t=>by
      obtain⟨u,hu⟩:=RA O t;rw[aQ.map,d]at hu;exact⟨u,M,by simpa using hu⟩
     exact⟨by simp[view,m,d,F],by simp only[ah,m,f,d];rw[if_neg (by simp),if_neg (by simp),I],by
      intro q k;simp only[ah,f,d]at k;rw[if_neg (by simp)]at k;rcases eD.1 k with rfl | k
      ·rw[D];simp
      exact H q k⟩
   cases h
  | fn X W U V=>
   simp only[view]at h;split at h
   ·rename_i a' b' ha' hb';cases h;obtain⟨F,I,h5⟩:=e ha' (inl X U);obtain⟨H,h4,h6⟩:=e hb' (inl W V);exact⟨by simp[view,F,H],by simp only[ah];rw[I,h4],by
     intro q k;simp only[ah,iN]at k;rcases k with k | k
     ·exact h5 q k
     exact h6 q k⟩
   cases h
  | yld=>simp[view]at h
  | mp=>simp[view]at h
  | ch=>simp[view]at h
  | Bc=>simp[view]at h
  | ifc K=>simp only[view,bG]at h;obtain⟨y',Y,rfl⟩:=h;obtain⟨F,I,H⟩:=T _ y' _ p Y K;exact⟨by simp[view,F],by simp only[ah];exact I,by simp only[ah];exact H⟩
def RU(k:gA M ι C w)(f:Ej ι g C){xs ys:List AV}{us:List Value}(h:xs.mapM (view g depth)=some ys)(l:mh M ι xs us):xs.mapM (view C depth)=some ys/\bX C xs=bX g xs /\∀r∈bX g xs,ι r≠none:=by
 have inl : ∀c∈xs,∃u,VR M ι c u:=by
  intro c b;obtain⟨i,e,a⟩:=qP b;have m:=l.1;exact⟨us[i]'(by omega),l.2 i c _ (by rw[dy e,a]) (dy (by omega))⟩
 refine⟨Nr h λc b y d=>?_,vU λc b=>?_,?_⟩;·obtain⟨u,hu⟩:=inl c b;exact(yg k f depth c y u M d hu).1
 ·obtain⟨u,hu⟩:=inl c b;obtain⟨i,e,a⟩:=qP b;obtain⟨y,_,d⟩:=lT h i c (by rw[dy e,a]);exact(yg k f depth c y u M d hu).2.1
 intro r j;obtain⟨c,b,j⟩:=fq.1 j;obtain⟨u,hu⟩:=inl c b;obtain⟨i,e,a⟩:=qP b;obtain⟨y,_,d⟩:=lT h i c (by rw[dy e,a]);exact(yg k f depth c y u M d hu).2.2 r j
def IW(d:Ej ι g C){R:List Ref}(B : ∀r∈R,ι r≠none)(h:kO g R=true):kO C R=true:=by
 simp only[kO,gx]at h ⊢;intro r c;have:=h r c;cases a:g r with
 | none=>rw[a]at this;simp at this
 | some b=>rw[a]at this;rw[d r b a (B r c)];exact this
def FQ(c:Ej ι g C){x:AV}{u:Value}(a:VR M ι x u){p:Nat × List AV}(h:cL g x=some p):cL C x=some p:=by
 cases a with
 | bN d=>
  simp only[cL]at h ⊢;split at h;·rename_i b e;rw[c _ b e (by rw[d];simp)];exact h
  cases h
 | v f=>cases ‹Value› <;> simp_all [cL]
 | cC=>exact h
 | _=>simp[cL]at h
def B9(f:gA M ι C w)(j:Ej ι g C){b q:List (Nat × AV)}(h:fS g b=some q)(t : ∀p∈b,∃u,VR M ι p.2 u) :
 fS C b=some q/\bX C (b.map (·.2))=bX g (b.map (·.2)) /\∀r∈bX g (b.map (·.2)),ι r≠none:=by
 have a : ∀p∈b,∃y u,view g depth p.2=some y/\VR M ι p.2 u:=by
  intro p hp;obtain⟨i,D,l⟩:=qP hp;obtain⟨y,_,n⟩:=lT h i p (by rw[dy D,l]);obtain⟨u,hu⟩:=t p hp;obtain⟨k,x⟩:=p;simp only[bG]at n;obtain⟨z,v,_⟩:=n;exact⟨z,u,v,hu⟩
 refine⟨?_,?_,?_⟩;·unfold fS at h ⊢;rw[<-h];refine mapM_congr λp hp=>?_;obtain⟨y,u,c,d⟩:=a p hp;obtain⟨k,x⟩:=p;simp only at c d;simp only[c,(yg f j depth x y u M c d).1]
 ·unfold bX;refine vU λx m=>?_;obtain⟨p,hp,rfl⟩:=jO.1 m;obtain⟨y,u,c,d⟩:=a p hp;exact(yg f j depth p.2 y u M c d).2.1
 intro r e;obtain⟨x,m,e⟩:=fq.1 e;obtain⟨p,hp,rfl⟩:=jO.1 m;obtain⟨y,u,c,d⟩:=a p hp;exact(yg f j depth p.2 y u M c d).2.2 r e
def VK{tm:List AV}{a:Act}(d:TR M ι tm a){ps:List (Nat × Operand)}{c:List (Nat × AV)}(h:gK tm ps=some c) : ∀p∈c,∃u,VR M ι p.2 u:=by
 intro p hp;obtain⟨j,e⟩:=sr (ι:=ι) d h;obtain⟨i,f,b⟩:=qP hp;exact⟨_,(e i p _ (by rw[dy f,b]) (dy (by omega))).2⟩
def Nn{P:Program}(l:gA M ι C w)(j:Ej ι g C){t:TypeId}{n:Nat}{a:List (Nat × AV)}{b:aQ}(h:mkSlice P g t n a=some b)(d : ∀p∈a,∃u,VR M ι p.2 u):mkSlice P C t n a=some b:=by
 unfold mkSlice at h ⊢;split at h;·cases h
 rename_i e k;try simp only[k]
 split at h
 ·rename_i q z s c m f;try simp only[(B9 l j c d).1,m,f]
  exact h
 cases h
def Jz{P:Program}{t:TypeId}{n:Nat}{d:List (Nat × AV)}{b:aQ}(h:mkSlice P g t n d=some b) : ∃c,fS g d=some c:=by
 unfold mkSlice at h;split at h;·cases h
 split at h;·rename_i c z s a f e;exact⟨c,a⟩
 cases h
def J7{P:Program}(b:Ej ι g C){e:TypeId}{x:AV}{u:Value}(a:VR M ι x u){p:Nat × List AV}(h:oe P g e x=some p):oe P C e x=some p:=by
 unfold oe at h ⊢;split at h;·exact h
 ·exact h
 rename_i c d;exact FQ b a h
def M9{P:Program}(k:Ej ι g C){r:Ref}{t t':Option TypeId}{s x:AV}{us q:Value}(m:VR M ι s us)(D:VR M ι x q){c:AV × List aQ}(h:fu P g r t t' s x=some c):fu P C r t t' s x=some c:=by
 unfold fu at h ⊢;split at h;·cases h
 rename_i e u;try simp only[u]
 split at h;·cases h
 rename_i l;rw[if_neg l];split at h
 ·rename_i z by' H G new p y j a;try simp only[p,y,j,J7 k D a]
  split at h;·cases h
  rename_i f;rw[if_neg f];cases m with
  | bN n=>
   simp only at h ⊢;split at h;·rename_i b d;rw[k _ b d (by rw[n];simp)];exact h
   cases h
  | v F=>(split at h)<;>first | exact h | cases h | simp_all
  | _=>exact h
 cases h
def Ka(c:Ej ι g C){r:Ref}(d:ι r≠none){ents:List AV}(h:kE g r=some ents):kE C r=some ents:=by
 unfold kE at h ⊢;cases a:g r with
 | none=>rw[a]at h;cases h
 | some b=>rw[a]at h;rw[c r b a d];exact h
def MZ{P:Program}(c:Ej ι g C){t:TypeId}{x:AV}{u:Value}(b:VR M ι x u){k:Option AV}{ok:Bool}{a:AV × List aQ}(h:fe P g t (some x) k ok=some a):fe P C t (some x) k ok=some a:=by
 unfold fe at h ⊢;split at h
 ·rename_i n et r' m j e f;cases e;cases b with | mp d p=>
  try simp only[j,f]
  split at h;·rename_i ents l;rw[Ka c (by rw[d];simp) l];exact h
  cases h
 cases h
def E6{E:Env}{pc:FuncId->List AV->Option AV}(hS:gA M ι C w)(D:Ej ι g C){tm:List AV}{a:Act}(N:TR M ι tm a){r:Ref}{o:Oper}{x:AV}{bs:List aQ}
 (h:cr E pc true g tm r o=some (x,bs)):cr E pc true C tm r o=some (x,bs):=by
 unfold cr at h ⊢;simp only[zd,AK,iQs,zI]at h ⊢;split at h;·exact h
 ·exact h
 ·exact h
 ·exact h
 ·exact h
 ·exact h
 ·rename_i t n ps H;cases m:gK tm ps.toList with
  | none=>rw[m]at h;simp[iQ]at h
  | some vs=>rw[m]at h;generalize (true && !E.strict o)=dr at h ⊢;simp only[iQ]at h ⊢;obtain⟨O,L⟩:=eK.1 h;simp only[bG]at L;obtain⟨b,I,P⟩:=L;have X:=VK N m;obtain⟨ws,hws⟩:=Jz I;obtain⟨T,h5,h6⟩:=B9 hS D hws X;rw[h5,IW D h6 O,Nn hS D I X];simp[P]
 ·rename_i t y H;unfold uh at h ⊢;split at h
  ·rename_i r' i j ag n l hg hn;try simp only[l,hg,hn]
   split at h
   ·rename_i b I;have m:=aL N l;generalize a.eval y=u at m;cases m with | ptr F hzl=>
    rw[D r' b I (by rw[F];simp)];exact h
   cases h
  ·rename_i esz es i j ag n l hg hn;try simp only[l,hg,hn]
   exact h
  cases h
 ·exact h
 ·exact h
 ·exact h
 ·rename_i s d y H;cases l:aC tm y with
  | none=>rw[l]at h;simp[eE]at h
  | some y'=>
   rw[l]at h;have m:=aL N l;unfold eE at h ⊢;split at h;·exact h
   ·exact h
   ·exact h
   ·rename_i z O L P G;injection G with G
    subst G;split at h
    ·rename_i Q;try simp only[Q,if_true]
     split at h;·rename_i p es hes;rw[FQ D m hes];exact h
     cases h
    rename_i Q;try simp only[Q]
    split at h
    ·rename_i hc2;try simp only[hc2,if_true]
     split at h
     ·generalize a.eval y=u at m;cases m with | bN F=>
      split at h;·rename_i k U;have:=D _ k U (by rw[F];simp);rw[this];exact h
      cases h
     cases h
    cases h
   rename_i G;cases G
 ·exact h
 ·exact h
 ·exact h
 ·exact h
 ·rename_i t y k ok H;cases l:aC tm y with
  | none=>rw[l]at h;simp only[fe]at h;split at h<;>simp_all
  | some y'=>rw[l]at h;exact MZ D (aL N l) h
 ·rename_i t y lo hi mx H;cases l:aC tm y with
  | none=>rw[l]at h;simp only[iT]at h ⊢;exact h
  | some y'=>
   rw[l]at h;have m:=aL N l;generalize a.eval y=u at m;cases m with
   | bN F=>
    simp only[iT]at h ⊢;split at h
    ·rename_i lo' hi' mx' O L P;try simp only[O,L,P]
     split at h;·rename_i b I;rw[D _ b I (by rw[F];simp)];exact h
     cases h
    cases h
   | dsl F=>
    simp only[iT]at h ⊢;split at h
    ·rename_i lo' hi' mx' O L P;try simp only[O,L,P]
     split at h;·rename_i b I;rw[D _ b I (by rw[F];simp)];exact h
     cases h
    cases h
   | _=>(unfold iT at h ⊢;(repeat' split at h)<;>simp_all)
 ·exact h
 ·exact h
 ·rename_i t y z H;cases l:aC tm y with
  | none=>rw[l]at h;exact h
  | some y'=>
   rw[l]at h;have m:=aL N l;generalize a.eval y=u at m;cases m with
   | bN F=>
    simp only[da]at h ⊢;split at h
    ·rename_i k U;try simp only[U]
     split at h
     ·rename_i e G;try simp only[G]
      split at h;·rename_i esz es cap s f R;cases f
      ·rename_i r' off len cap s f R;injection f with f
       injection f with e1 e2 e3 e4
       subst e1;try simp only[R]
       split at h;·rename_i b I;rw[D _ b I (by rw[F];simp)];subst e2;subst e3;exact h
       cases h
      ·rename_i f R;cases f
      cases h
     rename_i G;try simp only[G]
     exact h
    cases h
   | dsl F=>
    simp only[da]at h ⊢;split at h
    ·rename_i k U;try simp only[U]
     split at h
     ·rename_i e G;try simp only[G]
      split at h;·rename_i f R;cases f
      ·rename_i f R;cases f
      ·rename_i r' off len cap s f R;injection f with f
       injection f with e1 e2 e3 e4
       subst e1;try simp only[R]
       split at h;·rename_i b I;rw[D _ b I (by rw[F];simp)];subst e2;subst e3;exact h
       cases h
      cases h
     rename_i G;try simp only[G]
     exact h
    cases h
   | _=>(unfold da at h ⊢;(repeat' split at h)<;>simp_all)
 ·exact h
 ·exact h
 ·exact h
 ·rename_i c H;split at h;·cases h
  rename_i args J;try simp only[J]
  have q:=mU N J;split at h
  ·rename_i fo Q;try simp only[Q]
   obtain⟨p0,h,e0⟩:=bG.1 h;refine bG.2 ⟨p0,?_,e0⟩;unfold kW at h ⊢;split at h
   ·rename_i fi first captured V
    try simp only[V]
    split at h;·cases h
    rename_i hm;rw[if_neg hm];obtain⟨a',b',hfv,hva,Z⟩:=(aL N V).Zs;have W:mh M ι (first++args++captured) (a'.toList++c.args.toList.map a.eval++b'.toList):=(hva.append q).append Z;split at h
    ·rename_i xs Y;obtain⟨O,L,P⟩:=RU hS D Y W;try simp only[O]
     split at h
     ·rename_i y l;try simp only[l]
      obtain⟨K,h⟩:=eK.1 h;rw[L];rw[if_pos];·exact h
      simp only[fp]at K ⊢;rcases K with (T | T) | T
      ·exact .inl (.inl T)
      ·exact .inl (.inr (IW D P T))
      exact .inr T
     cases h
    cases h
   cases h
  ·cases h
  rename_i b Q;try simp only[Q]
  unfold cP at h ⊢;split at h
  ·rename_i r';obtain⟨u,S⟩:=Lt q.1.symm;rw[S]at q;have m:=q.2 0 (.mp r') u rfl rfl;cases m with | mp F hz=>
   obtain⟨hd,h⟩:=O5.1 h;simp only[if_neg hd];unfold wT at h ⊢;split at h
   ·rename_i p ents ht hm;try simp only[ht]
    simp only[Ka D (by rw[F];simp) hm];exact h
   cases h
  ·exact h
  ·exact h
  ·exact h
  ·rename_i y z;obtain⟨u,v,S⟩:=zO q.1.symm;rw[S]at q;exact M9 D (q.2 0 y u rfl rfl) (q.2 1 z v rfl rfl) h
  ·exact h
  cases h
 cases h
end
end
section
def Wh{a:List Nat}{i:Nat} : ∀(b:List Nat),(CI a b).testBit i=true ->∃j∈b,i=j\/(a.getD j 0).testBit i=true:=by
 intro b;induction b with
 | nil=>intro h;simp[CI]at h
 | cons j b d=>
  intro h;simp only[CI,Nat.testBit_or,fp]at h;rcases h with (h | h) | h
  ·rw[Nat.testBit_two_pow]at h;exact⟨j,gy ..,.inl (by simpa using h:j=i).symm⟩
  ·exact⟨j,gy ..,.inr h⟩
  obtain⟨k,c,h⟩:=d h;exact⟨k,fO _ c,h⟩
def Ow : ∀(b:List Oper)(a:List Nat)(i:Nat),i<a.length->(du b a).getD i 0=a.getD i 0:=by
 intro b;induction b with
 | nil=>intro a i h;rfl
 | cons o b c=>intro a i h;simp only[du];rw[c _ i (by simp;omega)];simp[List.getD,kA h]
def ZG : ∀(b:List Oper)(a:List Nat)(i:Nat)(o:Oper),b[i]?=some o ->
 ∀j,((du b a).getD (a.length+i) 0).testBit j=true ->∃e∈eS o,j=e\/(e<a.length+i/\((du b a).getD e 0).testBit j=true):=by
 intro b;induction b with
 | nil=>intro a i o h;simp at h
 | cons o' b l=>
  intro a i o h j c;cases i with
  | zero=>
   simp at h;subst h;simp only[du,xt]at c ⊢;rw[Ow b _ a.length (by simp)]at c;simp only[List.getD,jP (cH _),wH,KJ,cI]at c;obtain⟨e,he,c⟩:=Wh _ c;refine⟨e,he,?_⟩;rcases c with h | h
   ·exact .inl h
   right;rcases eC e a.length with d | f
   ·refine⟨d,?_⟩;have k:=Ow b (a++[CI a (eS o')]) e (by simp;omega);simp only[List.getD,kA d]at h k ⊢;rw[k];exact h
   rw[List.getD,wJ f]at h;simp at h
  | succ i=>
   simp only[du]at c ⊢;have:=l (a++[CI a (eS o')]) i o (by simpa using h) j (by
    rw[mI,GV];rwa [show a.length+1+i=a.length+(i+1) by omega])
   rw[mI,GV]at this;rwa [show a.length+1+i=a.length+(i+1) by omega]at this
def acU{ops:Array Oper}{i j:Nat}{o:Oper}(b:ops[i]?=some o)(a:((du ops.toList []).getD i 0).testBit j=true) : ∃e∈eS o,j=e\/(e<i/\((du ops.toList []).getD e 0).testBit j=true):=by
 have:=ZG ops.toList [] i o (by simpa using b) j (by simpa using a);simpa using this
def Closed(ops:Array Oper)(L:Nat->Bool):Prop :=∀(i:Nat)(o:Oper),L i=true->ops[i]?=some o ->∀e∈eS o,L e=true
def wa{ops:Array Oper}{L:Nat->Bool}(f:Closed ops L) : ∀(i:Nat)(o:Oper),ops[i]?=some o->(∀e∈eS o,L e=true) ->∀j,((du ops.toList []).getD i 0).testBit j=true->L j=true:=by
 intro i;induction i using Nat.strongRecOn with | ind i l=>
 intro o d a j k;obtain⟨e,he,h | ⟨c,h⟩⟩:=acU d k;·rw[h];exact a e he
 have m:i<ops.size:=(iO.1 d).1;have b:ops[e]?=some (ops[e]'(by omega)):=kJ (by omega);exact l e c _ b (f e _ (a e he) b) j h
structure RegB (ops:Array Oper):Prop where
 edges : ∀(i:Nat)(o:Oper),ops[i]?=some o ->∀e∈eS o,e<i
 distinct : ∀(i j:Nat)(oi oj:Oper)(d:Tmp),ops[i]?=some oi->ops[j]?=some oj->oi.dst=some d->oj.dst=some d->i=j
 reads : ∀(i j:Nat)(oi oj:Oper)(d:Tmp),ops[i]?=some oi->ops[j]?=some oj->j≠i->oj.dst=some d->d∈oi.looksAt ops->(j<i/\((du ops.toList []).getD i 0).testBit j=true)\/(i<j/\((du ops.toList []).getD j 0).testBit i=true)
structure Xt (E:Env) (ops:Array Oper):Prop extends RegB ops where
 site : ∀(i:Nat)(o:Oper),ops[i]?=some o->xV E o=true->il E o=false->o.dst.isSome=true
 writes : ∀(i j:Nat)(oi oj:Oper),ops[i]?=some oi->ops[j]?=some oj->j<i->xV E oi=true->xV E oj=true->lk E ops i=true->((du ops.toList []).getD i 0).testBit j=true
def Ri{E:Env}{ops:Array Oper}{i j:Nat}{o:Oper}(c:ops[j]?=some o)(a:il E o=true)(b:j<=i):lk E ops i=true:=by
 unfold lk;rw[GP];exact⟨j,yb.2 (by omega),by rw[c];exact a⟩
def p6{E:Env}{ops:Array Oper}{i:Nat}(h:lk E ops i=false){j:Nat}{o:Oper}(b:ops[j]?=some o)(a:j<=i):il E o=false:=by
 cases hw:il E o with| false=>rfl| true=>rw[Ri b hw a]at h;cases h
def agd{E:Env}{ops:Array Oper}{i:Nat}(h:lk E ops i=true) : ∃j o,j<=i/\ops[j]?=some o/\il E o=true:=by
 unfold lk at h;rw[GP]at h;obtain⟨k,b,h⟩:=h;have a:=yb.1 b;split at h;·rename_i o c;exact⟨k,o,by omega,c,h⟩
 cases h
def YR{E:Env}{ops:Array Oper}{i j:Nat}(h:lk E ops j=true)(c:j<=i):lk E ops i=true:=by
 unfold lk at h;rw[GP]at h;obtain⟨k,b,h⟩:=h;have a:=yb.1 b;split at h;·rename_i o d;exact Ri d h (by omega)
 cases h
def RK{ops:Array Oper}(one : ∀(i:Nat)(o:Oper),ops[i]?=some o->(eS o).all (· < i)=true)
 (two : ∀(i j:Nat)(oi a:Oper),ops[i]?=some oi->ops[j]?=some a->j<i->y3 ops (du ops.toList []) oi a i j=true):RegB ops:=by
 have b : ∀(i j:Nat)(oi a:Oper),ops[i]?=some oi->ops[j]?=some a->j<i->(a.dst.isNone=true\/oi.dst≠a.dst)/\(∀d,a.dst=some d->d∈oi.looksAt ops->((du ops.toList []).getD i 0).testBit j=true) /\
  (∀d,oi.dst=some d->d∈a.looksAt ops->((du ops.toList []).getD i 0).testBit j=true):=by
  intro i j oi a p m v;have:=two i j oi a p m v;unfold y3 at this;simp only[aT]at this;obtain⟨⟨c,n⟩,l⟩:=this;refine⟨?_,?_,?_⟩;·simpa using c
  ·intro d q t;rw[q]at n;simp only[fp,dI]at n;rcases n with n | n
   ·have:(oi.looksAt ops).contains d=true:=KG.2 t;rw[n]at this;cases this
   exact n
  intro d q t;rw[q]at l;simp only[fp,dI]at l;rcases l with l | l
  ·have:(a.looksAt ops).contains d=true:=KG.2 t;rw[l]at this;cases this
  exact l
 refine⟨?_,?_,?_⟩;·intro i o y e x;have:=one i o y;simp only[gx,iQb]at this;exact this e x
 ·intro i j oi a d p m f k;rcases Ew i j with h | h | h
  ·exfalso;rcases(b j i a oi m p h).1 with c | c
   ·rw[f]at c;cases c
   exact c (by rw[f,k])
  ·exact h
  exfalso;rcases(b i j oi a p m h).1 with c | c
  ·rw[k]at c;cases c
  exact c (by rw[f,k])
 intro i j oi a d p m u q t;rcases OQ u with h | h
 ·exact .inl ⟨h,(b i j oi a p m h).2.1 d q t⟩
 exact .inr ⟨h,(b j i a oi m p h).2.2 d q t⟩
def MP{E:Env}{ops:Array Oper}(h:Ds E ops=true):Xt E ops:=by
 unfold Ds at h;simp only[gx,yb]at h;have one : ∀(i:Nat)(o:Oper),ops[i]?=some o->(eS o).all (· < i)=true/\(!xV E o||il E o||o.dst.isSome)=true /\∀(j:Nat)(d:Oper),j<i->ops[j]?=some d->PO E ops (du ops.toList []) o d i j=true:=by
  intro i o l;have k:i<ops.size:=(iO.1 l).1;have:=h i k;rw[l]at this;simp only[aT,gx,yb]at this;refine⟨by simpa using this.1.1,by simpa using this.1.2,λj d f n=>?_⟩;have m:=this.2 j f;rw[n]at m;exact m
 have split : ∀(i j:Nat)(oi d:Oper),ops[i]?=some oi->ops[j]?=some d->j<i->y3 ops (du ops.toList []) oi d i j=true/\(xV E oi=true->xV E d=true->lk E ops i=true->((du ops.toList []).getD i 0).testBit j=true):=by
  intro i j oi d k f e;have:=(one i oi k).2.2 j d e f;unfold PO at this;rw[aT]at this;refine⟨this.1,λa b c=>?_⟩;have p:=this.2;rw[a,b,c]at p;simpa using p
 refine⟨RK (λi o l=>(one i o l).1) λi j oi d k f e=>(split i j oi d k f e).1,?_,λi j oi d k f e=>(split i j oi d k f e).2⟩;intro i o l q m;have:=(one i o l).2.1;rw[q,m]at this;simpa using this
def HL{E:Env}{pc:FuncId->List AV->Option AV}{tc:uE->List AV->aa->cp}{nt dep:Nat}{ops:Array Oper} : ∀(l:List Oper)(st a:St),nW E pc tc nt dep true ops l st=some a ->
 ∃f:Nat->St,f 0=st/\f l.length=a /\∀i o,l[i]?=some o->evalOp E pc tc nt dep true ops o (f i)=some (f (i+1)):=by
 intro l;induction l with
 | nil=>intro st a h;simp only[nW,dG]at h;exact⟨λ_=>st,rfl,h,λi o b=>by simp at b⟩
 | cons o l m=>
  intro st a h;simp only[nW,Qm]at h;split at h
  ·rename_i c d;obtain⟨f,k,e,j⟩:=m c a h;refine⟨λn=>match n with | 0=>st | n+1=>f n,rfl,e,?_⟩;intro i o' b;cases i with
   | zero=>simp at b;subst b;simp only;rw[k];exact d
   | succ i=>exact j i o' (by simpa using b)
  cases h
inductive ahn (E:Env) (pc:FuncId->List AV->Option AV) (nt dep:Nat) (ops:Array Oper) (o:Oper) (st st2:St):Prop
 | no (hw:wanted ops st.tm o=some false) (tm':List AV) (ht:cQ nt st.tm o.dst AV.undef=some tm') (he:st2=⟨tm',st.hp⟩)
 | quiet (hw:wanted ops st.tm o=some true) (x:AV) (bs:List aQ) (hq:cr E pc true st.hp.get st.tm ⟨dep,o.dst.getD 0,st.hp.gen dep (o.dst.getD 0),0⟩ o=some (x,bs)) (tm':List AV)
  (ht:cQ nt st.tm o.dst x=some tm') (he:st2=⟨tm',keyed ⟨dep,o.dst.getD 0,st.hp.gen dep (o.dst.getD 0),0⟩ 0 bs st.hp⟩)
 | write (hk:il E o=true)
def oX{E:Env}{pc:FuncId->List AV->Option AV}{tc:uE->List AV->aa->cp}{nt dep:Nat}{ops:Array Oper}{o:Oper}{st a:St}(h:evalOp E pc tc nt dep true ops o st=some a):ahn E pc nt dep ops o st a:=by
 unfold evalOp at h;split at h;·cases h
 ·rename_i b;simp only[bG]at h;obtain⟨tm',c,rfl⟩:=h;exact .no b tm' c rfl
 rename_i b;split at h;·rename_i x e d;simp only[bG]at h;obtain⟨tm',c,rfl⟩:=h;exact .quiet b x e (FP d) tm' c rfl
 split at h;·cases h
 rename_i f;refine .write ?_;simpa using f
def L3{E:Env}{o:Oper}(h:il E o=true):kM o.op=true:=by
 unfold il at h;have two:((E.gJ o||E.deep o)&&Bq o.op)=true->kM o.op=true:=by
  intro h;replace h:=(uS.1 h).2;unfold Bq at h;split at h;·rename_i a;rw[a];rfl
  cases h
 by_cases d:((E.gJ o||E.deep o)&&Bq o.op)=true;·exact two d
 replace h:=(KF.1 h).resolve_right d;replace h:=(uS.1 h).2;unfold wOp at h;split at h;·rename_i a;rw[a];rfl
 ·rename_i a;rw[a];rfl
 ·rename_i a;rw[a];rfl
 ·rename_i a;rw[a];rfl
 ·rename_i a;rw[a];rfl
 ·rename_i c a;rw[a];unfold kM;split at h;·rename_i b;simp[b]
  ·rename_i b;simp[b]
  ·rename_i b;simp[b]
  ·rename_i b;simp[b]
  cases h
 cases h
def SY{E:Env}{pc:FuncId->List AV->Option AV}{g:cF}{tm:List AV}{r:Ref}{o:Oper}(d:kM o.op=false){x:AV}{j:List aQ}(h:cr E pc true g tm r o=some (x,j)) :
 j=[] /\∀C r',cr E pc true C tm r' o=some (x,j):=by
 have v : ∀ {y:Option AV},kC y=some (x,j)->j=[]:=λh=>(rZ h).2;unfold cr at h ⊢;simp only[zd,AK,iQs,zI]at h ⊢;split at h;·exact⟨v h,λ_ _=>h⟩
 ·exact⟨v h,λ_ _=>h⟩
 ·refine⟨?_,λ_ _=>h⟩;unfold HU at h;split at h;·exact v h
  ·exact v h
  cases h
 ·rename_i a;rw[a]at d;simp[kM]at d
 ·rename_i a;rw[a]at d;simp[kM]at d
 ·refine⟨?_,λ_ _=>h⟩;unfold nz at h;(repeat' split at h)<;>(try simp_all)<;>(try (obtain⟨_,_,_,h⟩:=h;exact h))
 ·rename_i a;rw[a]at d;simp[kM]at d
 ·rename_i a;rw[a]at d;simp[kM]at d
 ·refine⟨?_,λ_ _=>h⟩;unfold MX at h;(repeat' split at h)<;>(try simp_all)<;>(try (obtain⟨_,_,_,h⟩:=h;exact h))
 ·refine⟨?_,λ_ _=>h⟩;unfold bP at h;(repeat' split at h)<;>first | exact v h | (simp_all;done)
 ·exact⟨v h,λ_ _=>h⟩
 ·rename_i a;rw[a]at d;simp[kM]at d
 ·refine⟨?_,λ_ _=>h⟩;unfold tG at h;(repeat' split at h)<;>(try simp_all)<;>(try (obtain⟨_,_,_,h⟩:=h;exact h))
 ·refine⟨?_,λ_ _=>h⟩;unfold wU at h;(repeat' split at h)<;>(try simp_all)<;>(try (obtain⟨_,_,_,h⟩:=h;exact h))
 ·rename_i a;rw[a]at d;simp[kM]at d
 ·rename_i a;rw[a]at d;simp[kM]at d
 ·rename_i a;rw[a]at d;simp[kM]at d
 ·rename_i a;rw[a]at d;simp[kM]at d
 ·refine⟨?_,λ_ _=>h⟩;unfold kr at h;(repeat' split at h)<;>(try simp_all)<;>(try (obtain⟨_,_,_,h⟩:=h;exact h))
 ·refine⟨?_,λ_ _=>h⟩;unfold vL at h;(repeat' split at h)<;>first | exact v h | (simp_all;done)
 ·rename_i a;rw[a]at d;simp[kM]at d
 ·refine⟨?_,λ_ _=>h⟩;unfold r8 at h;(repeat' split at h)<;>first | exact v h | (simp_all;done)
 ·refine⟨?_,λ_ _=>h⟩;unfold tV at h;(repeat' split at h)<;>(try simp_all)<;>(try (obtain⟨_,_,_,h⟩:=h;exact h))
 ·refine⟨?_,λ_ _=>h⟩;unfold ui at h;(repeat' split at h)<;>first | exact v h | (simp_all;done)
 ·rename_i c a;rw[a]at d;simp only[kM]at d;split at h;·cases h
  rename_i args e;split at h;·rename_i f;rw[f]at d;simp at d
  ·cases h
  rename_i b f;rw[f]at d;unfold cP at h;split at h;·have k:P5 c=false:=(by simpa using d);unfold P5 at k;rw[k]at h;simp at h
  ·rename_i l;refine⟨?_,λ_ _=>by simpa [e,f,cP] using h⟩;unfold Jr at h;(repeat' split at h)<;>(try simp_all)<;>(try (obtain⟨_,_,_,h⟩:=h;exact h))<;>(try (obtain⟨n,_,h⟩:=ib.1 h;simp at h;exact h.2))
  ·exact⟨v h,λ_ _=>by simpa [e,f,cP] using h⟩
  ·exact⟨v h,λ_ _=>by simpa [e,f,cP] using h⟩
  ·simp at d
  ·simp at d
  cases h
 cases h
def Nw{o:Op}(h:Nx o=true) : ∃c,o = .call c/\c.callee = .builtin .len:=by
 unfold Nx at h;split at h
 ·rename_i c;split at h;·rename_i a;exact⟨c,rfl,a⟩
  cases h
 cases h
def ig{E:Env}{o:Oper}(h:il E o=true):xV E o=true:=by
 unfold xV;rw[L3 h,m9];cases b:Nx o.op with
 | false=>simp
 | true=>exfalso;obtain⟨c,d,a⟩:=Nw b;simp[il,d,wOp,a,Bq]at h
def yJ{E:Env}{pc:FuncId->List AV->Option AV}{g:cF}{tm:List AV}{r:Ref}{o:Oper}(a:xV E o=false){x:AV}{d:List aQ}(h:cr E pc true g tm r o=some (x,d)) :
 d=[] /\∀C r',cr E pc true C tm r' o=some (x,d):=by
 cases hp:kM o.op with| false=>exact SY hp h| true=>
  unfold xV at a;rw[hp,m9]at a;obtain⟨f,l⟩:=uS.1 (by simpa using a:(E.strict o&&Nx o.op)=true);obtain⟨c,k,e⟩:=Nw l;unfold cr at h ⊢;simp only[k,e,f,iQY,AI]at h ⊢;split at h;·cases h
  rename_i args b;unfold cP at h ⊢;split at h;·simp at h
  ·rename_i y j;refine⟨?_,λ_ _=>?_⟩;·unfold Jr at h;(repeat' split at h)<;>(try simp_all)<;>(try (obtain⟨_,_,_,h⟩:=h;exact h))<;>(try (obtain⟨n,_,h⟩:=ib.1 h;simp at h;exact h.2))
   exact h
  all_goals (first | cases h | simp_all)
end
section
def fU(ops:Array Oper)(dep:Nat)(sts:Nat->St)(i:Nat):Ref:=⟨dep,(jy ops i).getD 0,(sts i).hp.gen dep ((jy ops i).getD 0),0⟩
def newAt(E:Env)(pc:FuncId->List AV->Option AV)(ops:Array Oper)(dep:Nat)(sts:Nat->St)(i:Nat):List aQ:=
 match ops[i]? with
 | none=>[]
 | some o=>if xV E o && !lk E ops i then
  match wanted ops (sts i).tm o with
  | some true=>(match cr E pc true (sts i).hp.get (sts i).tm (fU ops dep sts i) o with
   | some (_,a)=>a
   | none=>[])
  | _=>[]
  else []
def gF(a:cF)(key:Nat->Ref)(new:Nat->List aQ)(L:Nat->Bool):Nat->cF
 | 0=>a
 | i+1=>if L i then tN (gF a key new L i) (key i) (new i) else gF a key new L i
def mt(key:Nat->Ref)(new:Nat->List aQ)(i:Nat)(q:Ref):Prop:=q.d=(key i).d/\q.t=(key i).t/\q.g=(key i).g/\q.k<(new i).length
def tW{b:cF}{key:Nat->Ref}{new:Nat->List aQ}{L:Nat->Bool}{q:Ref} : ∀n,(∀i,i<n->L i=true ->¬mt key new i q)->gF b key new L n q=b q:=by
 intro n;induction n with
 | zero=>intro _;rfl
 | succ n c=>
  intro h;simp only[gF];split;·rename_i d;exact(if_neg (h n (rS n) d)).trans (c λi a=>h i (Cz a))
  exact c λi a=>h i (Cz a)
def CK{c:cF}{key:Nat->Ref}{new:Nat->List aQ}{L:Nat->Bool}{q:Ref}(a : ∀i j,mt key new i q->mt key new j q->i=j){i:Nat}(d:mt key new i q)(e:L i=true) :
 ∀n,i<n->gF c key new L n q=(new i)[q.k]?:=by
 intro n;induction n with
 | zero=>intro h;omega
 | succ n l=>
  intro h;simp only[gF];by_cases b:i=n;·subst b;rw[if_pos e];exact if_pos d
  have:gF c key new L n q=(new i)[q.k]?:=l (by omega);split;·exact(if_neg (λf=>b (a i n d f))).trans this
  exact this
section
variable{E:Env}{pc:FuncId->List AV->Option AV}{tc:uE->List AV->aa->cp}{nt dep:Nat}{ops:Array Oper}{sts:Nat->St}
def TS(ops:Array Oper)(sts:Nat->St)(L:Nat->Bool)(tm:List AV):Prop:=
 ∀t,(∀i,i<ops.size->L i=true->jy ops i=some t->dA tm t=dA (sts (i+1)).tm t)/\((∀i,i<ops.size->L i=true->jy ops i≠some t)->dA tm t=dA (sts 0).tm t)
def wO{tm tm':List AV}{b:Option Tmp}{x:AV}(h:cQ nt tm b x=some tm')(t:Nat):dA tm' t=if b=some t then x else dA tm t:=by
 unfold cQ at h;split at h;·injection h with h;subst h;simp
 rename_i d;obtain⟨_,h⟩:=eK.1 h;injection h with h
 subst h;rw[vg];by_cases a:t=d;·subst a;simp
 rw[if_neg a,if_neg (by intro e;injection e with e;exact a e.symm)]
def lR{tm tm' tm1:List AV}{a:Option Tmp}{x:AV}(h:cQ nt tm a x=some tm') : ∃b,cQ nt tm1 a x=some b:=by
 unfold cQ at h ⊢;cases a with
 | none=>exact⟨_,rfl⟩
 | some d=>simp only at h ⊢;obtain⟨c,_⟩:=eK.1 h;rw[if_pos c];exact⟨_,rfl⟩
def Mr{o:Oper}{i:Nat}(A:evalOp E pc tc nt dep true ops o (sts i)=some (sts (i+1))) : ∃x,cQ nt (sts i).tm o.dst x=some (sts (i+1)).tm:=by
 unfold evalOp at A;split at A;·cases A
 ·simp only[bG]at A;obtain⟨tm',a,he⟩:=A;exact⟨_,by rw[<-he];exact a⟩
 split at A;·simp only[bG]at A;obtain⟨tm',a,he⟩:=A;exact⟨_,by rw[<-he];exact a⟩
 split at A;·cases A
 split at A;·simp only[bG]at A;obtain⟨tm',a,he⟩:=A;exact⟨_,by rw[<-he];exact a⟩
 cases A
section
variable(B:RegB ops)(A : ∀i o,ops[i]?=some o->evalOp E pc tc nt dep true ops o (sts i)=some (sts (i+1)))
include B A
omit A in
theorem WX{i j:Nat}{t:Nat}(b:jy ops i=some t)(a:jy ops j=some t):i=j:=by
 simp only[jy,ib]at b a;obtain⟨oi,d,h⟩:=b;obtain⟨c,e,f⟩:=a;exact B.distinct i j oi c t d e h f
theorem KX : ∀i,i<=ops.size->TS ops sts (λj=>decide (j<i)) (sts i).tm:=by
 intro i;induction i with
 | zero=>intro _ t;exact⟨λj _ h=>by simp at h,λ_=>rfl⟩
 | succ i y=>
  intro l t;have f:i<ops.size:=l;have p:=kJ f;obtain⟨x,u⟩:=Mr (A i _ p);have m:jy ops i=ops[i].dst:=by simp[jy,p]
  have n:=wO u t;obtain⟨q,v⟩:=y (by omega) t;refine⟨λj h a d=>?_,λc=>?_⟩
  ·simp only[iQb]at a;by_cases k:j=i;·subst k;rfl
   have b:ops[i].dst≠some t:=(by intro e;rw[<-m]at e;exact k (WX B d e));rw[n,if_neg b];exact q j h (by simp;omega) d
  have b:ops[i].dst≠some t:=by rw[<-m];exact c i f (by simp)
  rw[n,if_neg b];exact v λj h a=>c j h (by simp at a ⊢;omega)
theorem HR{L:Nat->Bool}(q:Closed ops L){i:Nat}{o:Oper}(p:ops[i]?=some o)(y:L i=false)(u : ∀e∈eS o,L e=true){tm:List AV}(z:TS ops sts L tm){t:Nat}(x:t∈o.looksAt ops) :
 dA tm t=dA (sts i).tm t:=by
 have D:i<ops.size:=(iO.1 p).1;obtain⟨G,J⟩:=z t;obtain⟨H,I⟩:=KX B A i (by omega) t;by_cases k : ∃j,j<ops.size/\L j=true/\jy ops j=some t
 ·obtain⟨j,l,a,b⟩:=k;have c:=b;simp only[jy,ib]at c;obtain⟨m,d,h⟩:=c;have v:j≠i:=by intro e;rw[e,y]at a;cases a
  rcases B.reads i j o m t p d v h x with ⟨n,_⟩ | ⟨_,f⟩
  ·rw[G j l a b,H j l (by simpa using n) b]
  have:=wa q j m d (λe F=>q j m a d e F) i f;rw[y]at this;cases this
 rw[J λj l a b=>k ⟨j,l,a,b⟩];refine(I λj l a b=>?_).symm;simp only[iQb]at a;have c:=b;simp only[jy,ib]at c;obtain⟨m,d,h⟩:=c;rcases B.reads i j o m t p d (by omega) h x with ⟨_,f⟩ | ⟨K,_⟩
 ·exact k ⟨j,l,wa q i o p u j f,b⟩
 omega
omit A in
theorem u4{L v:Nat->Bool}{i:Nat}{o:Oper}(u:ops[i]?=some o)(d : ∀j,v j=true↔(L j=true\/j=i))(H:L i=false){tm tm':List AV}(y:TS ops sts L tm){x:AV}(F:cQ nt (sts i).tm o.dst x=some (sts (i+1)).tm)
 (q:cQ nt tm o.dst x=some tm'):TS ops sts v tm':=by
 intro t;have l:i<ops.size:=(iO.1 u).1;have k:jy ops i=o.dst:=by simp[jy,u]
 obtain⟨D,G⟩:=y t;have z:=wO F t;have p:=wO q t;refine⟨λj m b a=>?_,λf=>?_⟩
 ·rcases(d j).1 b with h | h
  ·have n:j≠i:=by intro e;rw[e,H]at h;cases h
   have c:o.dst≠some t:=by rw[<-k];intro e;exact n (WX B a e)
   rw[p,if_neg c];exact D j m h a
  subst h;rw[k]at a;rw[p,if_pos a,z,if_pos a]
 have c:o.dst≠some t:=by rw[<-k];exact f i l ((d i).2 (.inr rfl))
 rw[p,if_neg c];exact G λj m b=>f j m ((d j).2 (.inl b))
end
variable(B:Xt E ops)(A : ∀i o,ops[i]?=some o->evalOp E pc tc nt dep true ops o (sts i)=some (sts (i+1)))
include B A
abbrev ago(ops:Array Oper)(dep:Nat)(sts:Nat->St):Nat->Ref:=fU ops dep sts
omit B A in
theorem uq{i:Nat}(h:newAt E pc ops dep sts i≠[]) : ∃o,ops[i]?=some o/\xV E o=true/\lk E ops i=false:=by
 unfold newAt at h;split at h;·exact absurd rfl h
 rename_i o b;split at h;·rename_i a;simp only[aT,dI]at a;exact⟨o,b,a.1,a.2⟩
 exact absurd rfl h
omit A in
theorem Lo{q:Ref}(i j:Nat)(h:mt (fU ops dep sts) (newAt E pc ops dep sts) i q)(k:mt (fU ops dep sts) (newAt E pc ops dep sts) j q):i=j:=by
 have ne : ∀ {i},mt (fU ops dep sts) (newAt E pc ops dep sts) i q->newAt E pc ops dep sts i≠[]:=by
  intro i h e;have:=h.2.2.2;rw[e]at this;simp at this
 obtain⟨oi,c,y,x⟩:=uq (ne h);obtain⟨f,d,p,v⟩:=uq (ne k);obtain⟨l,a⟩:=ik.1 (B.site i oi c y (p6 x c (cH _)));obtain⟨u,b⟩:=ik.1 (B.site j f d p (p6 v d (cH _)));have n:q.t=l:=by have:=h.2.1;simpa [fU,jy,c,a] using this
 have m:q.t=u:=by have:=k.2.1;simpa [fU,jy,d,b] using this
 exact B.distinct i j oi f l c d a (by rw[b,<-n,<-m])
def noW(E:Env)(ops:Array Oper)(n:Nat):Prop :=∀j o,j<n->ops[j]?=some o->il E o=false
omit B A in
theorem V6{n:Nat}(b:noW E ops (n+1)):lk E ops n=false:=by
 cases h:lk E ops n with| false=>rfl| true=>
  unfold lk at h;rw[GP]at h;obtain⟨k,c,h⟩:=h;have a:=yb.1 c;split at h;·rename_i o d;rw[b k o a d]at h;cases h
  cases h
omit B in
theorem KZ{n:Nat}(p:n<=ops.size)(f:noW E ops n):(sts n).hp.get=gF (sts 0).hp.get (fU ops dep sts) (newAt E pc ops dep sts) (λ_=>true) n:=by
 induction n with| zero=>rfl| succ n t=>
  have b:=kJ (show n<ops.size from p);have e:=t (by omega) (λj o v=>f j o (by omega));simp only[gF,if_true];rw[<-e];have m:jy ops n=ops[n].dst:=by simp[jy,b]
  have h:fU ops dep sts n=⟨dep,ops[n].dst.getD 0,(sts n).hp.gen dep (ops[n].dst.getD 0),0⟩:=(by simp[fU,m]);rcases oX (A n _ b)with ⟨a,tm',q,he⟩ | ⟨a,x,u,k,tm',q,he⟩ | c
  ·have:newAt E pc ops dep sts n=[]:=(by unfold newAt;rw[b];simp only[a];split<;>rfl);rw[this,nP,he]
  ·have d:=V6 f;rw[he];simp only;rw[aa.nF,<-h];congr 1;unfold newAt;rw[b];simp only[a,h,k,d,B3,AI];cases l:xV E ops[n] with
   | true=>rfl
   | false=>rw[(yJ l k).1];rfl
  exact absurd c (by rw[f n _ (rS n) b];simp)
omit B in
theorem Mm{n:Nat}(J:n<=ops.size)(D:noW E ops n)(d t:Nat):(sts 0).hp.gen d t<=(sts n).hp.gen d t /\
 ((∀j,j<n->newAt E pc ops dep sts j≠[] ->¬(d=dep/\t=(jy ops j).getD 0))->(sts n).hp.gen d t=(sts 0).hp.gen d t) /\
 ∀j,j<n->newAt E pc ops dep sts j≠[]->d=dep->t=(jy ops j).getD 0->(fU ops dep sts j).g<(sts n).hp.gen d t:=by
 induction n with| zero=>exact⟨cH _,λ_=>rfl,λj k=>by omega⟩| succ n O=>
  have l:=kJ (show n<ops.size from J);obtain⟨i1,i2,i3⟩:=O (by omega) (λj o k=>D j o (by omega));have u:jy ops n=ops[n].dst:=by simp[jy,l]
  have F:fU ops dep sts n=⟨dep,ops[n].dst.getD 0,(sts n).hp.gen dep (ops[n].dst.getD 0),0⟩:=(by simp[fU,u]);have same:(sts (n+1)).hp=(sts n).hp->newAt E pc ops dep sts n=[]->(sts 0).hp.gen d t<=(sts (n+1)).hp.gen d t /\
   ((∀j,j<n+1->newAt E pc ops dep sts j≠[] ->¬(d=dep/\t=(jy ops j).getD 0))->(sts (n+1)).hp.gen d t=(sts 0).hp.gen d t) /\
   ∀j,j<n+1->newAt E pc ops dep sts j≠[]->d=dep->t=(jy ops j).getD 0->(fU ops dep sts j).g<(sts (n+1)).hp.gen d t:=by
   intro L K;rw[L];refine⟨i1,λh=>i2 λj k=>h j (by omega),λj k a=>?_⟩;have:j≠n:=by intro e;rw[e]at a;exact a K
   exact i3 j (by omega) a
  rcases oX (A n _ l)with ⟨c,tm',N,he⟩ | ⟨c,x,G,H,tm',N,he⟩ | y
  ·refine same (by rw[he]) ?_;unfold newAt;rw[l];simp only[c];split<;>rfl
  ·have v:=V6 D;have m:newAt E pc ops dep sts n=G:=by
    unfold newAt;rw[l];simp only[c,F,H,v,B3,AI];cases I:xV E ops[n] with
    | true=>rfl
    | false=>rw[(yJ I H).1];rfl
   by_cases p:G=[];·refine same ?_ (by rw[m,p]);rw[he,p];rfl
   rw[he];simp only;rw[aa.mS];simp only[ne_eq,p,not_false_eq_true,iQv];by_cases b:d=dep/\t=ops[n].dst.getD 0
   ·rw[if_pos b];obtain⟨rfl,rfl⟩:=b;refine⟨by omega,λh=>?_,λj k a z q=>?_⟩;·exact absurd ⟨rfl,by rw[u]⟩ (h n (rS n) (by rw[m];exact p))
    by_cases f:j=n;·rw[f,F];exact rS _
    have:=i3 j (by omega) a rfl q;omega
   rw[if_neg b];refine⟨i1,λh=>i2 λj k=>h j (by omega),λj k a z q=>?_⟩;by_cases f:j=n;·subst f;exact absurd ⟨z,by rw[q,u]⟩ b
   exact i3 j (by omega) a z q
  exact absurd y (by rw[D n _ (rS n) l];simp)
theorem Kf{ι:Map}(z:tT ι (sts 0).hp){i:Nat}{o:Oper}(c:ops[i]?=some o)(q:xV E o=true)(f:il E o=false)(y:noW E ops i)(k:Nat):ι { fU ops dep sts i with k:=k}=none:=by
 have F:i<ops.size:=(iO.1 c).1;obtain⟨d,n⟩:=ik.1 (B.site i o c q f);have l:jy ops i=some d:=by simp[jy,c,n]
 obtain⟨_,D,_⟩:=Mm (pc:=pc) (tc:=tc) (nt:=nt) (dep:=dep) A (jd F) y dep d;have u:(sts i).hp.gen dep d=(sts 0).hp.gen dep d:=D λj G e t=>by
  obtain⟨p,a,h,m⟩:=uq e;obtain⟨x,b⟩:=ik.1 (B.site j p a h (p6 m a (cH _)));have:d=x:=by have:=t.2;simpa [jy,a,b] using this
  exact absurd (B.distinct i j o p d c a n (by rw[b,this])) (by omega)
 have v:fU ops dep sts i=⟨dep,d,(sts 0).hp.gen dep d,0⟩:=by simp[fU,l,u]
 rw[v];exact z.fresh dep d k
end
end
section
def Bo{ops:Array Oper}{o:Oper}{tm tm':List AV}(h : ∀t∈o.looksAt ops,dA tm t=dA tm' t):u9 tm tm' o.op.operands.toList:=by
 intro x a;cases x with
 | tmp t=>simp only[aC];rw[h t];unfold Oper.looksAt;exact Aj _ (List.mem_filterMap.2 ⟨_,a,rfl⟩)
 | _=>rfl
def zf{ops:Array Oper}{o:Oper}{tm tm':List AV}(h : ∀t∈o.looksAt ops,dA tm t=dA tm' t):wanted ops tm o=wanted ops tm' o:=by
 unfold wanted;cases c:o.guard with
 | none=>rfl
 | some p=>
  obtain⟨j,b⟩:=p;simp only;cases a:(ops[j]?).bind (·.dst) with
  | none=>rfl
  | some t=>simp only;rw[h t];unfold Oper.looksAt;rw[c];simp[a]
def FR{p p':Nat->Bool}{i:Nat}(c : ∀j,p' j=true->p j=true)(f:p i=true)(e:p' i=false) : ∀l:List Nat,i∈l->l.countP p'<l.countP p:=by
 intro l b;have mono : ∀l:List Nat,l.countP p'<=l.countP p:=λl=>List.countP_mono_left λx _=>c x;induction l with
 | nil=>cases b
 | cons a l h=>
  simp only[List.countP_cons];by_cases d:a=i;·subst d;have:=mono l;rw[f,e];simp;omega
  have:=h (by simpa [tx d] using b);have k:(if p' a=true then 1 else 0)<=(if p a=true then 1 else 0):=by
   by_cases hp:p' a=true;·rw[if_pos hp,if_pos (c a hp)];exact cH _
   rw[if_neg hp];exact En _
  omega
def Km{E:Env}{pc:FuncId->List AV->Option AV}{tc:uE->List AV->aa->cp}{nt dep:Nat}{ops:Array Oper}{o:Oper}{st c:St}{tm1:List AV}(h : ∀t∈o.looksAt ops,dA tm1 t=dA st.tm t)
 (a:evalOp E pc tc nt dep true ops o st=some c) : ∃x b,cQ nt st.tm o.dst x=some c.tm/\cQ nt tm1 o.dst x=some b/\evalOp E pc tc nt dep true ops o ⟨tm1,st.hp⟩=some ⟨b,c.hp⟩:=by
 have e:=Bo h;have f:=zf h;unfold evalOp at a ⊢;simp only;rw[f,Tv e,Tu e];have d : ∀ {x:AV} {H:aa},(cQ nt st.tm o.dst x).map (λtm=>(⟨tm,H⟩:St))=some c ->∃j b,cQ nt st.tm o.dst j=some c.tm/\cQ nt tm1 o.dst j=some b/\(cQ nt tm1 o.dst x).map (λtm=>(⟨tm,H⟩:St))=some ⟨b,c.hp⟩:=by
  intro x H n;obtain⟨tm',m,rfl⟩:=bG.1 n;obtain⟨b,l⟩:=lR (tm1:=tm1) m;exact⟨x,b,m,l,by rw[l];rfl⟩
 revert a;generalize wanted ops st.tm o=W;generalize uL E pc true st.hp.get st.tm ⟨dep,o.dst.getD 0,st.hp.gen dep (o.dst.getD 0),0⟩ o=X;generalize tK E pc tc true st.hp st.tm ⟨dep,o.dst.getD 0,st.hp.gen dep (o.dst.getD 0),0⟩ o=Y;intro a;rcases W with _ | ⟨_ | _⟩
 ·cases a
 ·exact d a
 rcases X with _ | ⟨x,p⟩
 ·simp only at a ⊢;by_cases k:(true && !il E o)=true;·rw[if_pos k]at a;cases a
  rw[if_neg k]at a ⊢;rcases Y with _ | ⟨x,H⟩
  ·cases a
  exact d a
 exact d a
section
variable{E:Env}{pc:FuncId->List AV->Option AV}{tc:uE->List AV->aa->cp}{nt dep:Nat}{ops:Array Oper}{sts:Nat->St}
variable(B:Xt E ops)(A : ∀i o,ops[i]?=some o->evalOp E pc tc nt dep true ops o (sts i)=some (sts (i+1)))
abbrev gL(E:Env)(pc:FuncId->List AV->Option AV)(ops:Array Oper)(dep:Nat)(sts:Nat->St)(L:Nat->Bool)(n:Nat):cF:=gF (sts 0).hp.get (fU ops dep sts) (newAt E pc ops dep sts) L n
structure Xx (E:Env) (pc:FuncId->List AV->Option AV) (ops:Array Oper) (dep:Nat) (sts:Nat->St) (M:Mem) (ι:Map) (w:World) (L:Nat->Bool) (M1:Mem) (ι1:Map) (w1:World):Prop where
 quiet : ∀i o,L i=true->ops[i]?=some o->xV E o=true->lk E ops i=false
 sim:gA M1 ι1 (gL E pc ops dep sts L ops.size) w1
 fwd:uN M ι (sts 0).hp.get w M1 ι1 (gL E pc ops dep sts L ops.size) w1
 dom : ∀q,ι q=none->(∀i,i<ops.size->L i=true ->¬mt (fU ops dep sts) (newAt E pc ops dep sts) i q)->ι1 q=none
structure Late (E:Env) (ops:Array Oper) (sts:Nat->St) (M:Mem) (ι:Map) (w:World) (L:Nat->Bool) (M1:Mem) (ι1:Map) (w1:World) (k:Nat):Prop where
 le:k<=ops.size
 wrote : ∃j o,j<k/\ops[j]?=some o/\il E o=true
 upto : ∀i o,ops[i]?=some o->xV E o=true->(L i=true↔i<k)
 sim:gA M1 ι1 (sts k).hp.get w1
 dom:tT ι1 (sts k).hp
 fwd:uN M ι (sts 0).hp.get w M1 ι1 (sts k).hp.get w1
structure Inv (E:Env) (pc:FuncId->List AV->Option AV) (nt:Nat) (ops:Array Oper) (dep:Nat) (sts:Nat->St) (M:Mem) (ι:Map) (w:World) (ds:List Deferred) (L:Nat->Bool) (a1:Act) (w1:World):Prop where
 closed:Closed ops L
 defers:a1.defers=ds
 at_ : ∃M1 ι1 tm1,TS ops sts L tm1/\TR M1 ι1 tm1 a1/\a1.tmps.size=nt/\(Xx E pc ops dep sts M ι w L M1 ι1 w1 \/∃k,Late E ops sts M ι w L M1 ι1 w1 k)
theorem Closed.next{L f:Nat->Bool}{i:Nat}{o:Oper}(k:Closed ops L)(l:ops[i]?=some o)(c : ∀e∈eS o,L e=true)(b : ∀j,f j=true↔(L j=true\/j=i)):Closed ops f:=by
 intro j m n a e d;rcases(b j).1 n with h | h
 ·exact(b e).2 (.inl (k j m h a e d))
 subst h;rw[l]at a;injection a with a
 subst a;exact(b e).2 (.inl (c e d))
theorem Tf(r:Ref)(H:aa):keyed r 0 [] H=H:=rfl
include A in
theorem NJ{k:Nat} : ∀n,k<=n->n<=ops.size->(∀j o,k<=j->j<n->ops[j]?=some o->xV E o=false)->(sts n).hp=(sts k).hp:=by
 intro n;induction n with
 | zero=>intro h _ _;rw[GG.1 h]
 | succ n t=>
  intro v m h;rcases eC n k with q | c
  ·rw[show k=n+1 by omega]
  have f:=kJ (show n<ops.size from m);have e:=h n _ c (rS n) f;rw[<-t c (by omega) λj o a b=>h j o a (by omega)];rcases oX (A n _ f)with ⟨_,tm',p,he⟩ | ⟨_,x,u,l,tm',p,he⟩ | d
  ·rw[he]
  ·rw[he,(yJ e l).1];rfl
  rw[ig d]at e;cases e
theorem V5{i:Nat}{o:Oper}(f:ops[i]?=some o)(e:xV E o=true)(a:lk E ops i=false):noW E ops i:=
 λj d c b=>p6 a b (jd c)
include B A in
theorem Wb{ι:Map}(h:tT ι (sts 0).hp){i:Nat}{q:Ref}(f:mt (fU ops dep sts) (newAt E pc ops dep sts) i q):ι q=none:=by
 have b:newAt E pc ops dep sts i≠[]:=by
  intro e;have:=f.2.2.2;rw[e]at this;simp at this
 obtain⟨o,c,d,a⟩:=uq b;have:=Kf (pc:=pc) (tc:=tc) (nt:=nt) B A h c d (p6 a c (cH _)) (V5 c d a) q.k;rwa [show({ fU ops dep sts i with k:=q.k}:Ref)=q by
  obtain⟨j,n,l,m⟩:=f;cases q;simp_all]at this
include B in
theorem WG{L l:Nat->Bool}{i:Nat}(m:i<ops.size)(e : ∀j,l j=true↔(L j=true\/j=i)):gL E pc ops dep sts l ops.size=tN (gL E pc ops dep sts L ops.size) (fU ops dep sts i) (newAt E pc ops dep sts i):=by
 funext q;unfold tN;have c : ∀i j,mt (fU ops dep sts) (newAt E pc ops dep sts) i q->mt (fU ops dep sts) (newAt E pc ops dep sts) j q->i=j:=λi j=>Lo B i j;split;·rename_i k;exact CK c (i:=i) k ((e i).2 (.inr rfl)) ops.size m
 rename_i k;by_cases d : ∃j,j<ops.size/\L j=true/\mt (fU ops dep sts) (newAt E pc ops dep sts) j q;·obtain⟨j,f,b,a⟩:=d;rw[gL,CK c a ((e j).2 (.inl b)) _ f,gL,CK c a b _ f]
 rw[gL,tW,gL,tW];·intro j f b a;exact d ⟨j,f,b,a⟩
 intro j f b a;rcases(e j).1 b with h | h
 ·exact d ⟨j,f,h,a⟩
 subst h;exact k a
include B in
theorem Rt{L:Nat->Bool}{n:Nat}(y:n<=ops.size)(h : ∀j o,j<ops.size->ops[j]?=some o->xV E o=true->lk E ops j=false->(L j=true↔j<n)):gL E pc ops dep sts (λ_=>true) n=gL E pc ops dep sts L ops.size:=by
 funext q;have b : ∀i j,mt (fU ops dep sts) (newAt E pc ops dep sts) i q->mt (fU ops dep sts) (newAt E pc ops dep sts) j q->i=j:=λi j=>Lo B i j;have made : ∀ {j},mt (fU ops dep sts) (newAt E pc ops dep sts) j q ->∃o,ops[j]?=some o/\xV E o=true/\lk E ops j=false:=by
  intro j v;refine uq (pc:=pc) (dep:=dep) (sts:=sts) ?_;intro e;have:=v.2.2.2;rw[e]at this;simp at this
 by_cases k : ∃j,mt (fU ops dep sts) (newAt E pc ops dep sts) j q
 ·obtain⟨j,c⟩:=k;obtain⟨o,p,u,m⟩:=made c;have t:j<ops.size:=(iO.1 p).1;have d:=h j o t p u m;by_cases f:j<n;·rw[gL,CK b c rfl _ f,gL,CK b c (d.2 f) _ t]
  rw[gL,tW,gL,tW];·intro i x l a;have:=b i j a c;subst this;exact f (d.1 l)
  intro i x l a;have:=b i j a c;omega
 rw[gL,tW _ (λi _ _ a=>k ⟨i,a⟩),gL,tW _ (λi _ _ a=>k ⟨i,a⟩)]
include A in
theorem N9{M:Mem}{ι b:Map}(G:tT ι (sts 0).hp){L:Nat->Bool}{n:Nat}(F:n<=ops.size)(I:noW E ops n)
 (p : ∀q,ι q=none->(∀i,i<ops.size->L i=true ->¬mt (fU ops dep sts) (newAt E pc ops dep sts) i q)->b q=none)
 (x : ∀q l,ι q=some l->b q=some l) (h : ∀j o,j<ops.size->ops[j]?=some o->xV E o=true->lk E ops j=false->L j=true->j<n):tT b (sts n).hp:=by
 intro q l y;obtain⟨H,N,J⟩:=Mm (pc:=pc) (tc:=tc) (nt:=nt) (dep:=dep) A F I q.d q.t;cases m:ι q with
 | some K=>exact C1 (G q K m) H
 | none=>
  by_cases k : ∃i,i<ops.size/\L i=true/\mt (fU ops dep sts) (newAt E pc ops dep sts) i q;·obtain⟨i,v,c,a⟩:=k;have f:newAt E pc ops dep sts i≠[]:=(by intro e;have:=a.2.2.2;rw[e]at this;simp at this);obtain⟨o,D,z,u⟩:=uq f;have:=J i (h i o v D z u c) f a.1 a.2.1;rw[a.2.2.1];exact this
  rw[p q m λi v c a=>k ⟨i,v,c,a⟩]at y;cases y
variable{M:Mem}{ι:Map}{w:World}{ds:List Deferred}
include B A in
theorem Wv(hpc : ∀f xs y,pc f xs=some y->mu E.P f xs y)(htc : ∀f xs H y H',tc f xs H=some (y,H')->rz E.P f xs H y H'){ro:Option Nat}{Q:Exit->Act->World->Prop}
 (hS0:gA M ι (sts 0).hp.get w) (hD0:tT ι (sts 0).hp) {L L':Nat->Bool} {i:Nat} {o:Oper} (F:ops[i]?=some o) (hi:L i=false) (hed : ∀e∈eS o,L e=true)
 (n : ∀j,L' j=true↔(L j=true\/j=i)) {a1:Act} {w1:World} (hI:Inv E pc nt ops dep sts M ι w ds L a1 w1) {K:Act->World->Prop} (hK : ∀a' w',Inv E pc nt ops dep sts M ι w ds L' a' w'->K a' w') :
 if Region.wanted o (yielded ops a1.tmps) then o.wpIn (FW ro) 0 E.P a1 w1 K Q else K (a1.put o.dst undef) w1:=by
 obtain⟨hc,hds,M1,J,tm1,hTS,G,hnt,O⟩:=hI;have S:i<ops.size:=(iO.1 F).1;have hc':Closed ops L':=Closed.next hc F hed n;have W : ∀t∈o.looksAt ops,dA tm1 t=dA (sts i).tm t:=λt ht=>HR B.toRegB A hc F hi hed hTS ht;have hag:=Bo W;have hwd:=zf W;have step:=A i o F;have anc:=wa hc i o F hed;cases hb:(xV E o&&lk E ops i) with
 | true=>
  obtain⟨R,hwk⟩:=uS.1 hb;have I : ∀j l,j<i->ops[j]?=some l->xV E l=true->L j=true:=λj l T a c=>anc j (B.writes i j o l F a T R c hwk);have hO:z8 M1 J ⟨tm1,(sts i).hp⟩ nt a1 w1/\uN M ι (sts 0).hp.get w M1 J (sts i).hp.get w1 /\∀j l,ops[j]?=some l->xV E l=true->(L j=true->j<i):=by
   rcases O with d | ⟨k,d⟩
   ·have V:noW E ops i:=by
     intro j l T a;cases V:il E l with
     | false=>rfl
     | true=>have:=p6 (d.quiet j l (I j l T a (ig V)) a (ig V)) a (cH _);rw[V]at this;cases this
    have hle : ∀j l,ops[j]?=some l->xV E l=true->(L j=true->j<i):=by
     intro j l a c p;rcases Ew j i with h | h | h
     ·exact h
     ·subst h;rw[hi]at p;cases p
     have:=YR hwk (jd h);rw[d.quiet j l p a c]at this;cases this
    have hg:(sts i).hp.get=gL E pc ops dep sts L ops.size:=(by rw[KZ (pc:=pc) A (jd S) V];exact Rt B (jd S) λj l T a c _=>⟨hle j l a c,λhji=>I j l hji a c⟩);refine⟨⟨by rw[hg];exact d.sim,?_,G,hnt⟩,by rw[hg];exact d.fwd,hle⟩;exact N9 (M:=M) (tc:=tc) (nt:=nt) A hD0 (jd S) V d.dom d.fwd.map λj l _ a c _=>hle j l a c
   have hki:k<=i:=by
    rcases eC i k with h | h
    ·rw[(d.upto i o F R).2 h]at hi;cases hi
    exact h
   have hst:(sts i).hp=(sts k).hp:=NJ A i hki (jd S) λj l hkj hji a=>by
    cases c:xV E l with| false=>rfl| true=>have:=(d.upto j l a c).1 (I j l hji a c);omega
   refine⟨⟨by rw[hst];exact d.sim,by rw[hst];exact d.dom,G,hnt⟩,by rw[hst];exact d.fwd,λj l a c p=>?_⟩;have:=(d.upto j l a c).1 p;omega
  obtain⟨hO,hF,hle⟩:=hO;obtain⟨x,m,hx,z,hev⟩:=Km W step;refine E7 (E:=E) (Q:=Q) hO hpc htc (λh=>by cases h) (.inl rfl) hev λa' w' ⟨⟨M',D,hO',hF'⟩,hd'⟩=>hK a' w' ⟨hc',hd'.trans hds,M',D,m,?_,hO'.tr,hO'.nt,.inr ⟨i+1,?_⟩⟩;·exact u4 B.toRegB F n hi hTS hx z
  obtain⟨j0,o0,hj0,ho0,hw0⟩:=agd hwk;refine⟨S,⟨j0,o0,by omega,ho0,hw0⟩,λj l a c=>⟨λT=>?_,λT=>?_⟩,hO'.sim,hO'.dom,hF.trans hF'⟩
  ·rcases(n j).1 T with h | h
   ·exact Cz (hle j l a c h)
   omega
  rcases eC j i with h | h
  ·exact(n j).2 (.inl (I j l h a c))
  exact(n j).2 (.inr (by omega))
 | false=>
  have hnl:xV E o=true->lk E ops i=false:=(by intro R;rw[R,m9]at hb;exact hb);have hk:fU ops dep sts i=⟨dep,o.dst.getD 0,(sts i).hp.gen dep (o.dst.getD 0),0⟩:=(by simp[fU,jy,F]);have still : ∀(u:Value)(x:AV)(m:List AV)(w':World)(M':Mem)(D:Map),newAt E pc ops dep sts i=[]->(O:(Xx E pc ops dep sts M ι w L M1 J w1->Xx E pc ops dep sts M ι w L M' D w') /\∀k,Late E ops sts M ι w L M1 J w1 k->Late E ops sts M ι w L M' D w' k) ->
   (xV E o=false \/∀k,¬Late E ops sts M ι w L M1 J w1 k)->cQ nt (sts i).tm o.dst x=some (sts (i+1)).tm->cQ nt tm1 o.dst x=some m->TR M' D m (a1.put o.dst u)->(a1.put o.dst u).tmps.size=nt ->
   Inv E pc nt ops dep sts M ι w ds L' (a1.put o.dst u) w':=by
   intro u x m w' M' D hnil hcs Y hx z htr hn;refine⟨hc',(put_defers _ _ _).trans hds,M',D,m,u4 B.toRegB F n hi hTS hx z,htr,hn,?_⟩;rcases O with d | ⟨k,d⟩
   ·have N:=hcs.1 d;have hg:gL E pc ops dep sts L' ops.size=gL E pc ops dep sts L ops.size:=by rw[WG B S n,hnil,nP]
    refine .inl ⟨λj l T a c=>?_,by rw[hg];exact N.sim,by rw[hg];exact N.fwd,λq hq hno=>N.dom q hq λj T p=>hno j T ((n j).2 (.inl p))⟩;rcases(n j).1 T with h | h
    ·exact N.quiet j l h a c
    subst h;rw[F]at a;injection a with a;rw[<-a]at c;exact hnl c
   have N:=hcs.2 k d;refine .inr ⟨k,N.le,N.wrote,λj l a c=>?_,N.sim,N.dom,N.fwd⟩;rcases Y with Y | Y
   ·rw[<-N.upto j l a c,n j];constructor
    ·rintro(h | h);·exact h
     subst h;rw[F]at a;injection a with a;rw[<-a,Y]at c;cases c
    exact .inl
   exact absurd d (Y k)
  have noLate:xV E o=true ->∀k,¬Late E ops sts M ι w L M1 J w1 k:=by
   intro R k d;obtain⟨j,l,hjk,a,hwj⟩:=d.wrote;rcases eC i k with h | h
   ·rw[(d.upto i o F R).2 h]at hi;cases hi
   have:=Ri a hwj (show j<=i by omega);rw[hnl R]at this;cases this
  have Y:xV E o=false \/∀k,¬Late E ops sts M ι w L M1 J w1 k:=by
   cases R:xV E o with| false=>exact .inl rfl| true=>exact .inr (noLate R)
  rcases oX step with ⟨V,tm',ht,he⟩ | ⟨V,x,bs,hq,tm',ht,he⟩ | hwk'
  ·rw[<-hwd]at V;rw[ke G V];simp only[mJ,iQf];have hx:cQ nt (sts i).tm o.dst AV.undef=some (sts (i+1)).tm:=by rw[he];exact ht
   obtain⟨m,z⟩:=lR (tm1:=tm1) hx;obtain⟨h1,h2⟩:=G.put hnt z (u:=undef) (.v rfl);refine hK _ _ (still undef AV.undef m w1 M1 J ?_ ⟨id,λ_=>id⟩ Y hx z h1 h2);unfold newAt;rw[F];rw[hwd]at V;simp only[V];split<;>rfl
  ·have hw':=V;rw[<-hwd]at V;rw[ke G V];simp only[if_true];have hx:cQ nt (sts i).tm o.dst x=some (sts (i+1)).tm:=by rw[he];exact ht
   obtain⟨m,z⟩:=lR (tm1:=tm1) hx;cases R:xV E o with
   | false=>
    obtain⟨hbs,hall⟩:=yJ R hq;subst hbs;have hnil:newAt E pc ops dep sts i=[]:=(by unfold newAt;rw[F];simp[R]);rcases O with d | ⟨k,d⟩
    ·have X : ∀k,J { (⟨dep+1,0,(sts 0).hp.gen (dep+1) 0,0⟩:Ref)with k:=k}=none:=λk=>d.dom _ (hD0.fresh _ _ k) λj _ _ hm=>by
      have:=hm.1;simp only[fU]at this;omega
     have hq':cr E pc true (gL E pc ops dep sts L ops.size) tm1 ⟨dep+1,0,(sts 0).hp.gen (dep+1) 0,0⟩ o=some (x,[]):=by rw[uA hag];exact hall _ _
     refine yO (E:=E) (o:=o) d.sim G rfl X hpc (λh=>by cases h) hq' ro K Q λu w' ⟨M',D,h1,h2,h3,h4⟩=>hK _ _ ?_;rw[nP]at h2 h3;obtain⟨h5,h6⟩:=(G.mono h3.mem h3.map).put hnt z h1;refine still u x m w' M' D hnil ⟨λ_=>⟨d.quiet,h2,d.fwd.trans h3,λq hq hno=>h4 q (d.dom q hq hno) (λk hk=>by simp at hk)⟩,λk hl=>?_⟩ (.inl R) hx z h5 h6;obtain⟨j,l,hjk,a,hwj⟩:=hl.wrote;have:=p6 (d.quiet j l ((hl.upto j l a (ig hwj)).2 hjk) a (ig hwj)) a (cH _);rw[hwj]at this;cases this
    have hq':cr E pc true (sts k).hp.get tm1 ⟨dep,0,(sts k).hp.gen dep 0,0⟩ o=some (x,[]):=by rw[uA hag];exact hall _ _
    refine yO (E:=E) (o:=o) d.sim G rfl (λk'=>d.dom.fresh dep 0 k') hpc (λh=>by cases h) hq' ro K Q λu w' hout=>hK _ _ ?_;obtain⟨M',D,h1,h2,h3,h4⟩:=hout.toW d.dom;rw[Tf]at h2 h3 h4;obtain⟨h5,h6⟩:=(G.mono h3.mem h3.map).put hnt z h1;refine⟨hc',(put_defers _ _ _).trans hds,M',D,m,u4 B.toRegB F n hi hTS hx z,h5,h6,.inr ⟨k,d.le,d.wrote,λj l a c=>?_,h2,h4,d.fwd.trans h3⟩⟩;rw[<-d.upto j l a c,n j];constructor
    ·rintro(h | h);·exact h
     subst h;rw[F]at a;injection a with a;rw[<-a,R]at c;cases c
    exact .inl
   | true=>
    rcases O with d | ⟨k,d⟩
    ·have hlk:=hnl R;have hwk:=p6 hlk F (cH _);have hnw:=V5 F R hlk;have hbs:newAt E pc ops dep sts i=bs:=(by unfold newAt;rw[F];simp only[hw',hk,hq,R,hlk,B3,AI,if_true]);rw[<-hk,KZ (pc:=pc) A (jd S) hnw]at hq;have hloc:Ej J (gF (sts 0).hp.get (fU ops dep sts) (newAt E pc ops dep sts) (λ_=>true) i) (gL E pc ops dep sts L ops.size):=by
      intro q b hg hne;have Z : ∀i j,mt (fU ops dep sts) (newAt E pc ops dep sts) i q->mt (fU ops dep sts) (newAt E pc ops dep sts) j q->i=j:=λi j=>Lo B i j;by_cases hex : ∃j,mt (fU ops dep sts) (newAt E pc ops dep sts) j q
      ·obtain⟨j,hjm⟩:=hex;have hf:ι q=none:=Wb (tc:=tc) (nt:=nt) B A hD0 hjm;have hjs:j<ops.size:=(by have:newAt E pc ops dep sts j≠[]:=(by intro e;have:=hjm.2.2.2;rw[e]at this;simp at this);obtain⟨l,a,_⟩:=uq this;exact(iO.1 a).1);cases p:L j with
       | false=>exact absurd (d.dom q hf λi' _ hL U=>by rw[Z i' j U hjm,p]at hL;cases hL) hne
       | true=>
        by_cases hji:j<i;·rw[CK Z hjm rfl _ hji]at hg;rw[gL,CK Z hjm p _ hjs];exact hg
        rw[tW _ (λi' hi' _ U=>by have:=Z i' j U hjm;omega),hS0.YN hf]at hg;cases hg
      rw[tW _ (λi' _ _ U=>hex ⟨i',U⟩)]at hg;rw[gL,tW _ (λi' _ _ U=>hex ⟨i',U⟩)];exact hg
     rw[<-uA hag]at hq;have hq':=E6 d.sim hloc G hq;have X : ∀k,J { fU ops dep sts i with k:=k}=none:=λk=>d.dom _ (Kf (pc:=pc) (tc:=tc) (nt:=nt) B A hD0 F R hwk hnw k) λj _ p hm=>by
      have hne:newAt E pc ops dep sts j≠[]:=(by intro e;have:=hm.2.2.2;rw[e]at this;simp at this);obtain⟨l,a,c,hnj⟩:=uq hne;obtain⟨dj,hdj⟩:=ik.1 (B.site j l a c (p6 hnj a (cH _)));obtain⟨di,hdi⟩:=ik.1 (B.site i o F R hwk);have:di=dj:=by have:=hm.2.1;simpa [fU,jy,a,hdj,F,hdi] using this
      have:=B.distinct i j o l di F a hdi (by rw[hdj,this]);subst this;rw[hi]at p;cases p
     refine yO (E:=E) (o:=o) d.sim G (by simp[fU]) X hpc (λh=>by cases h) hq' ro K Q λu w' ⟨M',D,h1,h2,h3,h4⟩=>hK _ _ ?_;obtain⟨h5,h6⟩:=(G.mono h3.mem h3.map).put hnt z h1;have hg':gL E pc ops dep sts L' ops.size=tN (gL E pc ops dep sts L ops.size) (fU ops dep sts i) bs:=by rw[WG B S n,hbs]
     refine⟨hc',(put_defers _ _ _).trans hds,M',D,m,u4 B.toRegB F n hi hTS hx z,h5,h6,.inl ⟨λj l T a c=>?_,by rw[hg'];exact h2,by rw[hg'];exact d.fwd.trans h3,λq hq hno=>?_⟩⟩
     ·rcases(n j).1 T with h | h
      ·exact d.quiet j l h a c
      subst h;exact hlk
     refine h4 q (d.dom q hq λj T p=>hno j T ((n j).2 (.inl p))) λk hk' e=>?_;refine hno i S ((n i).2 (.inr rfl)) ?_;rw[e];exact⟨rfl,rfl,rfl,by rw[hbs];exact hk'⟩
    exact absurd d (noLate R k)
  have h1:=hnl (ig hwk');rw[Ri F hwk' (cH i)]at h1;cases h1
include B A in
theorem Rp(y:tT ι (sts 0).hp){L:Nat->Bool}(c : ∀i,i<ops.size->L i=true){a G:Act}{I:World}(x:a.defers=ds)(Q:Inv E pc nt ops dep sts M ι w ds L G I):kS M ι (sts 0) a w nt (sts ops.size) G I:=by
 obtain⟨T,q,D,h,tm1,z,F,u,l⟩:=Q;have H : ∀t,dA tm1 t=dA (sts ops.size).tm t:=by
  intro t;obtain⟨O,S⟩:=z t;obtain⟨P,R⟩:=KX B.toRegB A ops.size (cH _) t;by_cases n : ∃j,j<ops.size/\jy ops j=some t;·obtain⟨j,b,p⟩:=n;rw[O j b (c j b) p,P j b (by simpa using b) p]
  rw[S λj b _ p=>n ⟨j,b,p⟩,R λj b _ p=>n ⟨j,b,p⟩]
 have f:TR D h (sts ops.size).tm G:=⟨λt=>by rw[<-H];exact F.at_ t⟩;rcases l with d | ⟨k,d⟩
 ·have v:noW E ops ops.size:=λj o b e=>by
   cases v:il E o with| false=>rfl| true=>have:=p6 (d.quiet j o (c j b) e (ig v)) e (cH _);rw[v]at this;cases this
  have J:(sts ops.size).hp.get=gL E pc ops dep sts L ops.size:=(by rw[KZ (pc:=pc) A (cH _) v];exact Rt B (cH _) λj o b _ _ _=>⟨λ_=>b,λ_=>c j b⟩);refine⟨⟨D,h,⟨by rw[J];exact d.sim,?_,f,u⟩,by rw[J];exact d.fwd⟩,q.trans x.symm⟩;exact N9 (M:=M) (tc:=tc) (nt:=nt) A y (cH _) v d.dom d.fwd.map λj o b _ _ _ _=>b
 have m:(sts ops.size).hp=(sts k).hp:=NJ A ops.size d.le (cH _) λj o N b e=>by
  cases K:xV E o with| false=>rfl| true=>have:=(d.upto j o e K).1 (c j b);omega
 exact⟨⟨D,h,⟨by rw[m];exact d.sim,by rw[m];exact d.dom,f,u⟩,by rw[m];exact d.fwd⟩,q.trans x.symm⟩
include B in
theorem CN{a:Array Bool}(k:a.size=ops.size)(h:Region.ready .any ops a=[]) : ∀i,i<ops.size->a.getD i false=true:=by
 intro i;induction i using Nat.strongRecOn with | ind i n=>
 intro p;cases m:a.getD i false with
 | true=>rfl
 | false=>
  exfalso;have f:=kJ p;have c:a.getD i true=false:=by
   have:i<a.size:=(by omega);simpa [Array.getD,this] using m
  have:i∈Region.ready .any ops a:=(by rw[iQx];refine⟨c,_,f,λe j l=>?_⟩;have b:e.on∈eS ops[i]:=(by unfold eS;exact jO.2 ⟨e,AR.2 ⟨by simpa using j,l⟩,rfl⟩);have d:=B.edges i _ f _ b;exact n e.on d (by omega));rw[h]at this;cases this
include B A in
theorem acT(O : ∀f xs y,pc f xs=some y->mu E.P f xs y)(X : ∀f xs H y H',tc f xs H=some (y,H')->rz E.P f xs H y H'){ro:Option Nat}{a0:Act}(z:a0.defers=ds){Q:Exit->Act->World->Prop}
 (V:gA M ι (sts 0).hp.get w) (k:tT ι (sts 0).hp) (Z : ∀G w',kS M ι (sts 0) a0 w nt (sts ops.size) G w'->Q .normal G w') : ∀(b:Nat)(a:Array Bool)(N:Act)(F:World),a.size=ops.size ->
 (List.range ops.size).countP (λi => !a.getD i false)<=b->Inv E pc nt ops dep sts M ι w ds (λi=>a.getD i false) N F->wpAnyIn (FW ro) 0 E.P .any ops Q b a N F:=by
 intro b;induction b with
 | zero=>
  intro a N F l hf J;have c : ∀i,i<ops.size->a.getD i false=true:=by
   intro i q;cases T:a.getD i false with
   | true=>rfl
   | false=>exfalso;have:0<(List.range ops.size).countP (λi => !a.getD i false):=List.countP_pos_iff.2 ⟨i,yb.2 q,by rw[T];rfl⟩;omega
  refine⟨?_,Z _ _ (Rp B A k c z J)⟩;refine Ug.2 λi q=>?_;rw[iQx]at q;obtain⟨u,o,v,_⟩:=q;have m:i<ops.size:=(iO.1 v).1;have I:=c i m;have:i<a.size:=by omega
  simp[Array.getD,this]at u I;rw[I]at u;cases u
 | succ b ih=>
  intro a N F l hf J;refine⟨λhr=>Z _ _ (Rp B A k (CN B l hr) z J),λi q=>?_⟩;rw[iQx]at q;obtain⟨u,o,v,S⟩:=q;have m:i<ops.size:=(iO.1 v).1;have x:i<a.size:=by omega
  have D:a.getD i false=false:=(by simpa [Array.getD,x] using u);have h : ∀e∈eS o,(λi=>a.getD i false) e=true:=(by intro e Y;unfold eS at Y;obtain⟨d,hd,rfl⟩:=jO.1 Y;obtain⟨I,h2⟩:=AR.1 hd;exact S d (by simpa using I) h2);have t : ∀j,(λj=>(a.setIfInBounds i true).getD j false) j=true↔((λj=>a.getD j false) j=true\/j=i):=by
   intro j;simp only;by_cases n:j=i;·subst n;simp[x]
   rw[getD_set_ne false (tx n)];simp[n]
  have:=Wv (E:=E) (tc:=tc) (ro:=ro) (K:=wpAnyIn (FW ro) 0 E.P .any ops Q b (a.setIfInBounds i true)) (Q:=Q) B A O X V k (L:=λi=>a.getD i false) v D h t J λG w' R=>by
   refine ih _ G w' (by simp[l]) ?_ R;have:=FR (p:=λj => !a.getD j false) (p':=λj => !(a.setIfInBounds i true).getD j false) (i:=i) (λj U=>by
    simp only[dI]at U ⊢;cases T:a.getD j false with
    | false=>rfl
    | true=>have:=(t j).2 (.inl T);simp only at this;rw[this]at U;cases U) (by simp only[D,B3]) (by have:=(t i).2 (.inr rfl);simp only at this ⊢;rw[this];rfl) (List.range ops.size) (yb.2 m)
   omega
  unfold wpOpIn;rw[v];simp only;split;·rename_i W;rw[if_pos W]at this;exact this
  rename_i W;rw[if_neg W]at this;exact⟨λ_ _=>trivial,this⟩
end
def WY{E:Env}(G:E.P.follows .mixedOrders=true){ops:Array Oper}(u:Ds E ops=true){pc:FuncId->List AV->Option AV}(v : ∀f xs y,pc f xs=some y->mu E.P f xs y)
 {tc:uE->List AV->aa->cp} (x : ∀f xs H y H',tc f xs H=some (y,H')->rz E.P f xs H y H') {nt dep id:Nat} {st d:St} {M:Mem} {ι:Map} {a:Act} {w:World} {ro:Option Nat} {Q:Exit->Act->World->Prop}
 (h:nW E pc tc nt dep true ops ops.toList st=some d) (j:z8 M ι st nt a w) (I : ∀m w',kS M ι st a w nt d m w'->Q .normal m w'):(Code.region id ops true).wpIn (FW ro) 0 E.P Q a w:=by
 obtain⟨sts,J,z,L⟩:=HL ops.toList st d h;rw[B4]at z;have B:=MP u;have A : ∀i o,ops[i]?=some o->evalOp E pc tc nt dep true ops o (sts i)=some (sts (i+1)):=λi o F=>L i o (by simpa using F);subst J;refine wpIn_region_any G ?_;have p:uN M ι (sts 0).hp.get w M ι (sts 0).hp.get { w with drawn:=w.drawn+1} :=
  ⟨rfl,rfl,rfl,cH _,λ_ _ _=>rfl,λ_ _ _ h=>h,λ_ _ h=>h,λr k l h K => .inr ⟨r,k,l,h,K,rfl⟩,λ_ _ _ h => .inl h⟩
 have c : ∀i,(Array.replicate ops.size false).getD i false=false:=by
  intro i;simp only[C3,O1];split<;>rfl
 have b : ∀n,gF (sts 0).hp.get (fU ops dep sts) (newAt E pc ops dep sts) (λi=>(Array.replicate ops.size false).getD i false) n=(sts 0).hp.get:=by
  intro n;funext q;refine tW n λi _ e=>?_;exact absurd ((c i).symm.trans e) (by simp)
 refine acT (tc:=tc) (M:=M) (ι:=ι) (w:=w) (a0:=a) B A v x rfl j.sim j.dom (λm w' D=>I m w' (z ▸ D)) ops.size _ a _ (by simp) ?_ ?_;·exact xv iQM (by simp)
 refine⟨λi o e=>?_,rfl,M,ι,(sts 0).tm,?_,j.tr,j.nt,.inl ⟨λi o e=>?_,?_,?_,λq N _=>N⟩⟩;·exact absurd ((c i).symm.trans e) (by simp)
 ·exact λt=>⟨λi _ e=>absurd ((c i).symm.trans e) (by simp),λ_=>rfl⟩
 ·exact absurd ((c i).symm.trans e) (by simp)
 ·rw[gL,b];exact j.sim.drew rfl
 rw[gL,b];exact p
end
end Go.Ab
