/-
  What a quiet operation of the abstract machine looks at. No statement of a seat is proved here.
  A region that draws its order: whichever comes, what the order of the text gives. No statement of a seat is proved here.
  A region that draws its order: whichever comes, what the order of the text gives: the theorem. No statement of a seat is proved here.
  A region that draws its order: the step and the end. No statement of a seat is proved here.
-/
import Derived.Test.YtdbiffjdomokfaaGreatAbsWalk
set_option linter.unusedVariables false
set_option linter.unusedSimpArgs false
set_option linter.unusedSectionVars false
set_option linter.unnecessarySimpa false
namespace Go.Ab
theorem mapM_congr{α c:Type}{f b:α->Option c} : ∀ {l:List α},(∀x∈l,f x=b x)->l.mapM f=l.mapM b:=by
 intro l
 induction l with
 | nil=>intro _;rfl
 | cons a l d=>
  intro h
  simp only[lX]
  rw[h a (gG ..),d λx e=>h x (fW _ e)]
def De(tm tm':List AV)(xs:List Operand):Prop :=∀x∈xs,aM tm x=aM tm' x
theorem tH{tm tm':List AV}{ps:List (Nat × Operand)}(h : ∀p∈ps,aM tm p.2=aM tm' p.2):iM tm ps=iM tm' ps:=by
 unfold iM
 exact mapM_congr λp hp=>by obtain⟨i,o⟩:=p;simp only[h (i,o) hp]
theorem yX{tm tm':List AV}{x:Option Operand}(h : ∀y,x=some y->aM tm y=aM tm' y):ma tm x=ma tm' x:=by
 cases x with
 | none=>rfl
 | some y=>simp only[ma,h y rfl]
theorem tw{E:Env}{pc:FuncId->List AV->Option AV}{m:Bool}{g:db}{tm tm':List AV}{r:Ref}{o:Oper}(h:De tm tm' o.op.operands.toList) :
 ct E pc m g tm r o=ct E pc m g tm' r o:=by
 unfold De at h
 unfold ct
 split
 ·rename_i x j;rw[j]at h;simp only[Op.operands]at h;rw[h x (by simp)]
 ·rename_i x j;rw[j]at h;simp only[Op.operands]at h;rw[h x (by simp)]
 ·rename_i c a b j;rw[j]at h;simp only[Op.operands]at h;simp only[GA];rw[h c (by simp),h a (by simp),h b (by simp)]
 ·rfl
 ·rename_i e x j;rw[j]at h;simp only[Op.operands]at h;rw[h x (by simp)]
 ·rename_i t ps j;rw[j]at h;simp only[Op.operands]at h;rw[tH λp hp=>h p.2 (by simp;exact⟨p.1,by simpa using hp⟩)]
 ·rename_i t n ps j;rw[j]at h;simp only[Op.operands]at h;rw[tH λp hp=>h p.2 (by simp;exact⟨p.1,by simpa using hp⟩)]
 ·rename_i t x j;rw[j]at h;simp only[Op.operands]at h;rw[h x (by simp)]
 ·rename_i x j;rw[j]at h;simp only[Op.operands]at h;rw[h x (by simp)]
 ·rename_i C t x y ty j;rw[j]at h;simp only[Op.operands]at h;rw[h x (by simp),h y (by simp)]
 ·rename_i C t x j;rw[j]at h;simp only[Op.operands]at h;rw[h x (by simp)]
 ·rename_i s d x j;rw[j]at h;simp only[Op.operands]at h;rw[h x (by simp)]
 ·rename_i t x j;rw[j]at h;simp only[Op.operands]at h;rw[h x (by simp)]
 ·rename_i f a b j;rw[j]at h;simp only[Op.operands]at h;rw[mapM_congr λx q=>h x (by simp at q ⊢;exact .inl q),mapM_congr λx q=>h x (by simp at q ⊢;exact .inr q)]
 ·rename_i t l c j;rw[j]at h;simp only[Op.operands]at h;rw[h l (by simp),h c (by simp)]
 ·rfl
 ·rename_i t x k ok j;rw[j]at h;simp only[Op.operands]at h;rw[h x (by simp),h k (by simp)]
 ·rename_i t x A z v j
  rw[j]at h
  simp only[Op.operands]at h
  rw[h x (by simp),yX (x:=A) λy u=>h y (by simp[u]),yX (x:=z) λy u=>h y (by simp[u]),yX (x:=v) λy u=>h y (by simp[u])]
 ·rename_i t x f j;rw[j]at h;simp only[Op.operands]at h;rw[h x (by simp)]
 ·rename_i t x f j;rw[j]at h;simp only[Op.operands]at h;rw[h x (by simp)]
 ·rename_i t x y j;rw[j]at h;simp only[Op.operands]at h;rw[h x (by simp),h y (by simp)]
 ·rename_i t x y j;rw[j]at h;simp only[Op.operands]at h;rw[h x (by simp),h y (by simp)]
 ·rename_i x t D ok j;rw[j]at h;simp only[Op.operands]at h;rw[h x (by simp)]
 ·rename_i x i j;rw[j]at h;simp only[Op.operands]at h;rw[h x (by simp)]
 ·rename_i c j
  rw[j]at h
  simp only[Op.operands,Call.operands]at h
  rw[mapM_congr (l:=c.args.toList) λx q=>h x (by simp at q ⊢;exact .inr q)]
  split
  ·rfl
  ·split
   ·rename_i f B;rw[h f (by simp[B])]
   ·rfl
   ·rfl
 ·rfl
theorem UX{E:Env}{pc:FuncId->List AV->Option AV}{tc:xd->List AV->ai->dv}{H:ai}{tm tm':List AV}{r:Ref}{o:Oper}(h:De tm tm' o.op.operands.toList) :
 evalW E pc tc H tm r o=evalW E pc tc H tm' r o:=by
 unfold De at h
 unfold evalW
 generalize o.op=op at h ⊢
 cases op<;>try rfl
 case store t x y=>simp only[Op.operands]at h;simp only;rw[h x (by simp),h y (by simp)]
 case mapUpdate t m k y=>simp only[Op.operands]at h;simp only;rw[h m (by simp),h k (by simp),h y (by simp)]
 case insert t m k y=>simp only[Op.operands]at h;simp only;rw[h m (by simp),h k (by simp),h y (by simp)]
 case mapEntry t m k=>simp only[Op.operands]at h;simp only;rw[h m (by simp),h k (by simp)]
 case entryStore t m k y=>simp only[Op.operands]at h;simp only;rw[h m (by simp),h k (by simp),h y (by simp)]
 case buildSlice t n ps=>simp only[Op.operands]at h;simp only;rw[tH λp hp=>h p.2 (by simp;exact⟨p.1,by simpa using hp⟩)]
 case makeChan t n=>simp only[Op.operands]at h;simp only;rw[h n (by simp)]
 case send c x=>simp only[Op.operands]at h;simp only;rw[h c (by simp),h x (by simp)]
 case recv t c b=>simp only[Op.operands]at h;simp only;rw[h c (by simp)]
 case call c=>
  simp only[Op.operands,Call.operands]at h
  simp only
  rw[mapM_congr (l:=c.args.toList) λx a=>h x (by simp at a ⊢;exact .inr a)]
  split
  ·rfl
  ·split
   ·rename_i f d;rw[h f (by simp[d])]
   ·rfl
   ·rfl
def Dn(ι:Map)(g g':db):Prop :=∀q k,g q=some k->ι q≠none->g' q=some k
section
variable{M:Mem}{ι:Map}{g g':db}{w:World}
theorem Xu{l:Loc}{k:bA}(d:fV M ι w l k){e:AV}(h:e∈k.es) : ∃u,VR M (k.map ι) e u:=by
 obtain⟨i,f,b⟩:=qK h
 have c:=d.cell i (by rw[eC f,b])
 obtain⟨us,a,_,_⟩:=c.values
 cases e with
 | agg cs=>exact⟨.agg us.toArray,VR.rD.2 (by simpa [AV.cells] using a)⟩
 | _=>
  have j:=a.1
  obtain⟨u,rfl⟩:=Kl j.symm
  exact⟨u,a.2 0 _ u rfl rfl⟩
theorem Mb{f b:AV->Option AV}{l d:List AV}(h:l.mapM f=some d)(k : ∀x∈l,∀y,f x=some y->b x=some y):l.mapM b=some d:=by
 rw[<-h]
 refine mapM_congr λx c=>?_
 obtain⟨i,j,a⟩:=qK c
 obtain⟨y,_,e⟩:=jN h i x (by rw[eC j,a])
 rw[e,k x c y e]
theorem u6{α c:Type}{f b:α->List c} : ∀ {l:List α},(∀x∈l,f x=b x)->l.flatMap f=l.flatMap b:=by
 intro l
 induction l with
 | nil=>intro _;rfl
 | cons a l d=>
  intro h
  rw[zu,zu,h a (gG ..),d λx e=>h x (fW _ e)]
theorem xt(hS:gA M ι g' w)(Y:Dn ι g g') : ∀(n:Nat)(x y:AV)(u:Value)(k:Mem),view g n x=some y->VR k ι x u->view g' n x=some y/\ax g' n x=ax g n x /\∀r∈ax g n x,ι r≠none:=by
 intro n
 induction n with
 | zero=>intro x y u k h;simp[view]at h
 | succ n O=>
  intro x y u k h hv
  have e : ∀ {cs ys:List AV},cs.mapM (view g n)=some ys->(∀c∈cs,∃u k,VR k ι c u)->cs.mapM (view g' n)=some ys/\cs.flatMap (ax g' n)=cs.flatMap (ax g n) /\∀r∈cs.flatMap (ax g n),ι r≠none:=by
   intro cs ys m H
   refine⟨Mb m λc t y K=>?_,u6 λc t=>?_,?_⟩
   ·obtain⟨u,k,hu⟩:=H c t
    exact(O c y u k K hu).1
   ·obtain⟨u,k,hu⟩:=H c t
    obtain⟨i,I,A⟩:=qK t
    obtain⟨y,_,K⟩:=jN m i c (by rw[eC I,A])
    exact(O c y u k K hu).2.1
   ·intro r z
    obtain⟨c,t,z⟩:=sa.1 z
    obtain⟨u,k,hu⟩:=H c t
    obtain⟨i,I,A⟩:=qK t
    obtain⟨y,_,K⟩:=jN m i c (by rw[eC I,A])
    exact(O c y u k K hu).2.2 r z
  have inl : ∀ {cs:List AV} {N:Array Value},cs.length=N.size->(∀(i:Nat) c u,cs[i]?=some c->N[i]?=some u->VR k ι c u) ->∀c∈cs,∃u k,VR k ι c u:=by
   intro cs N L G c t
   obtain⟨i,I,A⟩:=qK t
   exact⟨N[i]'(by omega),k,G i c _ (by rw[eC I,A]) (jS (by omega))⟩
  cases hv with
  | v Z=>simp[view]at h;subst h;simp[view,ax]
  | agg L G=>
   simp only[view,bO]at h
   obtain⟨ys,m,rfl⟩:=h
   obtain⟨C,F,D⟩:=e m (inl L G)
   exact⟨by simp[view,C],by simp only[ax];exact F,by simp only[ax];exact D⟩
  | tup h0 L G=>
   simp only[view,bO]at h
   obtain⟨ys,m,rfl⟩:=h
   obtain⟨C,F,D⟩:=e m (inl L G)
   exact⟨by simp[view,C],by simp only[ax];exact F,by simp only[ax];exact D⟩
  | cG=>simp[view]at h;subst h;simp[view,ax]
  | iptr=>simp[view]at h;subst h;simp[view,ax]
  | cC z hb Z ha t hn hk J=>
   rename_i r off len cap l a c
   simp only[view]at h
   split at h
   ·rename_i b p
    have:=Y r b p (by rw[z];simp)
    exact⟨by simp only[view,this];exact h,by simp[ax],by intro q f;simp only[ax,uC]at f;rw[f,z];simp⟩
   ·cases h
  | ptr z J=>
   rename_i r i j l
   simp only[view]at h
   split at h
   ·rename_i b p
    have B:=Y r b p (by rw[z];simp)
    cases d:b.arr with
    | true=>
     rw[d]at h
     exact⟨by simp only[view,B,d];exact h,by simp[ax,B,p,d],by intro q f;simp[ax,p,d]at f;rw[f,z];simp⟩
    | false=>
     rw[d]at h
     simp only[jH,if_false,bO]at h
     obtain⟨es,X,rfl⟩:=h
     have S:=hS.at z J B
     obtain⟨C,F,D⟩:=e X λc t=>by
      obtain⟨u,hu⟩:=Xu S t
      rw[bA.map,d]at hu
      exact⟨u,M,by simpa using hu⟩
     exact⟨by simp[view,B,d,C],by simp only[ax,B,p,d];rw[if_neg (by simp),if_neg (by simp),F],by
      intro q f
      simp only[ax,p,d]at f
      rw[if_neg (by simp)]at f
      rcases nw.1 f with rfl | f
      ·rw[z];simp
      ·exact D q f⟩
   ·cases h
  | fn U W R T=>
   simp only[view]at h
   split at h
   ·rename_i a' b' Q P
    cases h
    obtain⟨C,F,h5⟩:=e Q (inl U R)
    obtain⟨D,h4,h6⟩:=e P (inl W T)
    exact⟨by simp[view,C,D],by simp only[ax];rw[F,h4],by
     intro q f
     simp only[ax,nM]at f
     rcases f with f | f
     ·exact h5 q f
     ·exact h6 q f⟩
   ·cases h
  | yld=>simp[view]at h
  | mp=>simp[view]at h
  | ch=>simp[view]at h
  | ifc G=>
   simp only[view,bO]at h
   obtain⟨y',V,rfl⟩:=h
   obtain⟨C,F,D⟩:=O _ y' _ k V G
   exact⟨by simp[view,C],by simp only[ax];exact F,by simp only[ax];exact D⟩
theorem Qx(j:gA M ι g' w)(k:Dn ι g g'){xs ys:List AV}{us:List Value}(h:xs.mapM (view g depth)=some ys)(l:lR M ι xs us):xs.mapM (view g' depth)=some ys/\bY g' xs=bY g xs /\∀r∈bY g xs,ι r≠none:=by
 have inl : ∀c∈xs,∃u,VR M ι c u:=by
  intro c b
  obtain⟨i,d,a⟩:=qK b
  have m:=l.1
  exact⟨us[i]'(by omega),l.2 i c _ (by rw[eC d,a]) (eC (by omega))⟩
 refine⟨Mb h λc b y e=>?_,u6 λc b=>?_,?_⟩
 ·obtain⟨u,hu⟩:=inl c b
  exact(xt j k depth c y u M e hu).1
 ·obtain⟨u,hu⟩:=inl c b
  obtain⟨i,d,a⟩:=qK b
  obtain⟨y,_,e⟩:=jN h i c (by rw[eC d,a])
  exact(xt j k depth c y u M e hu).2.1
 ·intro r f
  obtain⟨c,b,f⟩:=sa.1 f
  obtain⟨u,hu⟩:=inl c b
  obtain⟨i,d,a⟩:=qK b
  obtain⟨y,_,e⟩:=jN h i c (by rw[eC d,a])
  exact(xt j k depth c y u M e hu).2.2 r f
theorem Hn(d:Dn ι g g'){R:List Ref}(hR : ∀r∈R,ι r≠none)(h:jX g R=true):jX g' R=true:=by
 simp only[jX,fZ]at h ⊢
 intro r c
 have:=h r c
 cases a:g r with
 | none=>rw[a]at this;simp at this
 | some b=>rw[a]at this;rw[d r b a (hR r c)];exact this
theorem EF(d:Dn ι g g'){x:AV}{u:Value}(e:VR M ι x u){p:Nat × List AV}(h:cU g x=some p):cU g' x=some p:=by
 cases e with
 | cC a=>
  simp only[cU]at h ⊢
  split at h
  ·rename_i b c
   rw[d _ b c (by rw[a];simp)]
   exact h
  ·cases h
 | v f=>cases ‹Value› <;> simp_all [cU]
 | cG=>exact h
 | _=>simp[cU]at h
theorem Bm(j:gA M ι g' w)(l:Dn ι g g'){b n:List (Nat × AV)}(h:fG g b=some n)(A : ∀p∈b,∃u,VR M ι p.2 u) :
 fG g' b=some n/\bY g' (b.map (·.2))=bY g (b.map (·.2)) /\∀r∈bY g (b.map (·.2)),ι r≠none:=by
 have a : ∀p∈b,∃y u,view g depth p.2=some y/\VR M ι p.2 u:=by
  intro p hp
  obtain⟨i,v,f⟩:=qK hp
  obtain⟨y,_,q⟩:=jN h i p (by rw[eC v,f])
  obtain⟨u,hu⟩:=A p hp
  obtain⟨k,x⟩:=p
  simp only[bO]at q
  obtain⟨z,t,_⟩:=q
  exact⟨z,u,t,hu⟩
 refine⟨?_,?_,?_⟩
 ·unfold fG at h ⊢
  rw[<-h]
  refine mapM_congr λp hp=>?_
  obtain⟨y,u,c,d⟩:=a p hp
  obtain⟨k,x⟩:=p
  simp only at c d
  simp only[c,(xt j l depth x y u M c d).1]
 ·unfold bY
  refine u6 λx m=>?_
  obtain⟨p,hp,rfl⟩:=r8.1 m
  obtain⟨y,u,c,d⟩:=a p hp
  exact(xt j l depth p.2 y u M c d).2.1
 ·intro r e
  obtain⟨x,m,e⟩:=sa.1 e
  obtain⟨p,hp,rfl⟩:=r8.1 m
  obtain⟨y,u,c,d⟩:=a p hp
  exact(xt j l depth p.2 y u M c d).2.2 r e
theorem T4{tm:List AV}{a:Act}(e:TR M ι tm a){ps:List (Nat × Operand)}{c:List (Nat × AV)}(h:iM tm ps=some c) : ∀p∈c,∃u,VR M ι p.2 u:=by
 intro p hp
 obtain⟨j,f⟩:=uf (ι:=ι) e h
 obtain⟨i,d,b⟩:=qK hp
 exact⟨_,(f i p _ (by rw[eC d,b]) (eC (by omega))).2⟩
theorem L6{P:Program}(j:gA M ι g' w)(l:Dn ι g g'){t:TypeId}{n:Nat}{a:List (Nat × AV)}{b:bA}(h:mkSlice P g t n a=some b)(m : ∀p∈a,∃u,VR M ι p.2 u):mkSlice P g' t n a=some b:=by
 unfold mkSlice at h ⊢
 split at h
 ·cases h
 ·rename_i e k
  try simp only[k]
  split at h
  ·rename_i q z s c f d
   try simp only[(Bm j l c m).1,f,d]
   exact h
  ·cases h
theorem HU{P:Program}{t:TypeId}{n:Nat}{d:List (Nat × AV)}{b:bA}(h:mkSlice P g t n d=some b) : ∃a,fG g d=some a:=by
 unfold mkSlice at h
 split at h
 ·cases h
 ·split at h
  ·rename_i a z s c f e;exact⟨a,c⟩
  ·cases h
theorem IV{P:Program}(a:Dn ι g g'){e:TypeId}{x:AV}{u:Value}(b:VR M ι x u){p:Nat × List AV}(h:pg P g e x=some p):pg P g' e x=some p:=by
 unfold pg at h ⊢
 split at h
 ·exact h
 ·exact h
 ·rename_i c d
  exact EF a b h
theorem LU{P:Program}(k:Dn ι g g'){r:Ref}{t t':Option TypeId}{s x:AV}{us q:Value}(l:VR M ι s us)(B:VR M ι x q){c:AV × List bA}(h:jv P g r t t' s x=some c):jv P g' r t t' s x=some c:=by
 unfold jv at h ⊢
 split at h
 ·cases h
 ·rename_i e A
  try simp only[A]
  split at h
  ·cases h
  ·rename_i u
   rw[if_neg u]
   split at h
   ·rename_i z y C D new n p f a
    try simp only[n,p,f,IV k B a]
    split at h
    ·cases h
    ·rename_i d
     rw[if_neg d]
     cases l with
     | cC m=>
      simp only at h ⊢
      split at h
      ·rename_i b j
       rw[k _ b j (by rw[m];simp)]
       exact h
      ·cases h
     | v F=>(split at h)<;>first | exact h | cases h | simp_all
     | _=>exact h
   ·cases h
theorem IY(d:Dn ι g g'){r:Ref}(c:ι r≠none){ents:List AV}(h:jO g r=some ents):jO g' r=some ents:=by
 unfold jO at h ⊢
 cases a:g r with
 | none=>rw[a]at h;cases h
 | some b=>rw[a]at h;rw[d r b a c];exact h
theorem LO{P:Program}(e:Dn ι g g'){t:TypeId}{x:AV}{u:Value}(l:VR M ι x u){k:Option AV}{ok:Bool}{a:AV × List bA}(h:eT P g t (some x) k ok=some a):eT P g' t (some x) k ok=some a:=by
 unfold eT at h ⊢
 split at h
 ·rename_i m et r' n f d c
  cases d
  cases l with | mp b p=>
  try simp only[f,c]
  split at h
  ·rename_i ents j
   rw[IY e (by rw[b];simp) j]
   exact h
  ·cases h
 ·cases h
theorem D4{E:Env}{pc:FuncId->List AV->Option AV}(X:gA M ι g' w)(q:Dn ι g g'){tm:List AV}{a:Act}(I:TR M ι tm a){r:Ref}{o:Oper}{x:AV}{bs:List bA}
 (h:ct E pc true g tm r o=some (x,bs)):ct E pc true g' tm r o=some (x,bs):=by
 unfold ct at h ⊢
 simp only[zZ,FB,cond_false,yW]at h ⊢
 split at h
 ·exact h
 ·exact h
 ·exact h
 ·exact h
 ·exact h
 ·exact h
 ·
  rename_i t n ps A
  cases l:iM tm ps.toList with
  | none=>rw[l]at h;simp[ik]at h
  | some vs=>
   rw[l]at h
   generalize (true && !E.strict o)=dr at h ⊢
   simp only[ik]at h ⊢
   obtain⟨N,K⟩:=fa.1 h
   simp only[bO]at K
   obtain⟨b,H,P⟩:=K
   have Q:=T4 I l
   obtain⟨ws,hws⟩:=HU H
   obtain⟨O,h5,h6⟩:=Bm X q hws Q
   rw[h5,Hn q h6 N,L6 X q H Q]
   simp[P]
 ·
  rename_i t y A
  unfold sf at h ⊢
  split at h
  ·rename_i r' i j ag n f Z W
   try simp only[f,Z,W]
   split at h
   ·rename_i b H
    have l:=aX I f
    generalize a.eval y=u at l
    cases l with | ptr F hzl=>
    rw[q r' b H (by rw[F];simp)]
    exact h
   ·cases h
  ·rename_i esz es i j ag n f Z W
   try simp only[f,Z,W]
   exact h
  ·cases h
 ·exact h
 ·exact h
 ·exact h
 ·
  rename_i s d y A
  cases f:aM tm y with
  | none=>rw[f]at h;simp[gf]at h
  | some y'=>
   rw[f]at h
   have l:=aX I f
   unfold gf at h ⊢
   split at h
   ·exact h
   ·exact h
   ·exact h
   ·rename_i z N K P G
    injection G with G
    subst G
    split at h
    ·rename_i L
     try simp only[L,if_true]
     split at h
     ·rename_i p es hes
      rw[EF q l hes]
      exact h
     ·cases h
    ·rename_i L
     try simp only[L]
     split at h
     ·rename_i T
      try simp only[T,if_true]
      split at h
      ·generalize a.eval y=u at l
       cases l with | cC F=>
       split at h
       ·rename_i k hk
        have:=q _ k hk (by rw[F];simp)
        rw[this]
        exact h
       ·cases h
      ·cases h
     ·cases h
   ·rename_i G;cases G
 ·exact h
 ·exact h
 ·exact h
 ·exact h
 ·
  rename_i t y k ok A
  cases f:aM tm y with
  | none=>rw[f]at h;simp only[eT]at h;split at h<;>simp_all
  | some y'=>
   rw[f]at h
   exact LO q (aX I f) h
 ·
  rename_i t y lo hi mx A
  cases f:aM tm y with
  | none=>rw[f]at h;simp only[iJ]at h ⊢;exact h
  | some y'=>
   rw[f]at h
   have l:=aX I f
   generalize a.eval y=u at l
   cases l with
   | cC F=>
    simp only[iJ]at h ⊢
    split at h
    ·rename_i lo' hi' mx' N K P
     try simp only[N,K,P]
     split at h
     ·rename_i b H
      rw[q _ b H (by rw[F];simp)]
      exact h
     ·cases h
    ·cases h
   | _=>(unfold iJ at h ⊢;(repeat' split at h)<;>simp_all)
 ·exact h
 ·exact h
 ·
  rename_i t y z A
  cases f:aM tm y with
  | none=>rw[f]at h;exact h
  | some y'=>
   rw[f]at h
   have l:=aX I f
   generalize a.eval y=u at l
   cases l with
   | cC F=>
    simp only[cT]at h ⊢
    split at h
    ·rename_i k hk
     try simp only[hk]
     split at h
     ·rename_i e G
      try simp only[G]
      split at h
      ·rename_i esz es cap s B hs
       cases B
      ·rename_i r' off len cap s B hs
       injection B with B
       injection B with e1 e2 e3 e4
       subst e1
       try simp only[hs]
       split at h
       ·rename_i b H
        rw[q _ b H (by rw[F];simp)]
        subst e2;subst e3
        exact h
       ·cases h
      ·cases h
     ·rename_i G
      try simp only[G]
      exact h
    ·cases h
   | _=>(unfold cT at h ⊢;(repeat' split at h)<;>simp_all)
 ·exact h
 ·exact h
 ·exact h
 ·
  rename_i c A
  split at h
  ·cases h
  ·rename_i args C
   try simp only[C]
   have m:=m9 I C
   split at h
   ·rename_i fo L
    try simp only[L]
    obtain⟨p0,h,e0⟩:=bO.1 h
    refine bO.2 ⟨p0,?_,e0⟩
    unfold kn at h ⊢
    split at h
    ·rename_i fi first captured R
     try simp only[R]
     split at h
     ·cases h
     ·rename_i Y
      rw[if_neg Y]
      obtain⟨a',b',hfv,U,hvb⟩:=(aX I R).Xp
      have S:lR M ι (first++args++captured) (a'.toList++c.args.toList.map a.eval++b'.toList):=(U.append m).append hvb
      split at h
      ·rename_i xs V
       obtain⟨N,K,P⟩:=Qx X q V S
       try simp only[N]
       split at h
       ·rename_i y f
        try simp only[f]
        obtain⟨D,h⟩:=fa.1 h
        rw[K]
        rw[if_pos]
        ·exact h
        ·simp only[ff]at D ⊢
         rcases D with (O | O) | O
         ·exact .inl (.inl O)
         ·exact .inl (.inr (Hn q P O))
         ·exact .inr O
       ·cases h
      ·cases h
    ·cases h
   ·cases h
   ·rename_i b L
    try simp only[L]
    unfold ck at h ⊢
    split at h
    ·rename_i r'
     obtain⟨u,J⟩:=Kl m.1.symm
     rw[J]at m
     have l:=m.2 0 (.mp r') u rfl rfl
     cases l with | mp F hz=>
     obtain⟨hd,h⟩:=NO.1 h
     simp only[if_neg hd]
     unfold vZ at h ⊢
     split at h
     ·rename_i p ents ht Y
      try simp only[ht]
      simp only[IY q (by rw[F];simp) Y]
      exact h
     ·cases h
    ·exact h
    ·exact h
    ·exact h
    ·rename_i y z
     obtain⟨u,v,J⟩:=zS m.1.symm
     rw[J]at m
     exact LU q (m.2 0 y u rfl rfl) (m.2 1 z v rfl rfl) h
    ·exact h
    ·cases h
 ·cases h
end
end Go.Ab
namespace Go.Ab
theorem Uv{a:List Nat}{i:Nat} : ∀(b:List Nat),(BP a b).testBit i=true ->∃j∈b,i=j\/(a.getD j 0).testBit i=true:=by
 intro b
 induction b with
 | nil=>intro h;simp[BP]at h
 | cons j b c=>
  intro h
  simp only[BP,Nat.testBit_or,ff]at h
  rcases h with (h | h) | h
  ·rw[Nat.testBit_two_pow]at h
   exact⟨j,gG ..,.inl (by simpa using h:j=i).symm⟩
  ·exact⟨j,gG ..,.inr h⟩
  ·obtain⟨k,d,h⟩:=c h
   exact⟨k,fW _ d,h⟩
theorem Nd : ∀(b:List Oper)(a:List Nat)(i:Nat),i<a.length->(du b a).getD i 0=a.getD i 0:=by
 intro b
 induction b with
 | nil=>intro a i h;rfl
 | cons o b c=>
  intro a i h
  simp only[du]
  rw[c _ i (by simp;omega)]
  simp[List.getD,nN h]
theorem XC : ∀(b:List Oper)(a:List Nat)(i:Nat)(o:Oper),b[i]?=some o ->
 ∀j,((du b a).getD (a.length+i) 0).testBit j=true ->∃e∈eI o,j=e\/(e<a.length+i/\((du b a).getD e 0).testBit j=true):=by
 intro b
 induction b with
 | nil=>intro a i o h;simp at h
 | cons o' b l=>
  intro a i o h j c
  cases i with
  | zero=>
   simp at h
   subst h
   simp only[du,Bc]at c ⊢
   rw[Nd b _ a.length (by simp)]at c
   simp only[List.getD,o5 (bD _),Nat.sub_self,NL,fQ]at c
   obtain⟨e,he,c⟩:=Uv _ c
   refine⟨e,he,?_⟩
   rcases c with h | h
   ·exact .inl h
   ·right
    rcases fe e a.length with d | f
    ·refine⟨d,?_⟩
     have k:=Nd b (a++[BP a (eI o')]) e (by simp;omega)
     simp only[List.getD,nN d]at h k ⊢
     rw[k]
     exact h
    ·rw[List.getD,xp f]at h
     simp at h
  | succ i=>
   simp only[du]at c ⊢
   have:=l (a++[BP a (eI o')]) i o (by simpa using h) j (by
    rw[oN,List.length_singleton]
    rwa [show a.length+1+i=a.length+(i+1) by omega])
   rw[oN,List.length_singleton]at this
   rwa [show a.length+1+i=a.length+(i+1) by omega]at this
theorem aaU{ops:Array Oper}{i j:Nat}{o:Oper}(a:ops[i]?=some o)(b:((du ops.toList []).getD i 0).testBit j=true) : ∃e∈eI o,j=e\/(e<i/\((du ops.toList []).getD e 0).testBit j=true):=by
 have:=XC ops.toList [] i o (by simpa using a) j (by simpa using b)
 simpa using this
def Closed(ops:Array Oper)(L:Nat->Bool):Prop :=∀(i:Nat)(o:Oper),L i=true->ops[i]?=some o ->∀e∈eI o,L e=true
theorem vi{ops:Array Oper}{L:Nat->Bool}(f:Closed ops L) : ∀(i:Nat)(o:Oper),ops[i]?=some o->(∀e∈eI o,L e=true) ->∀j,((du ops.toList []).getD i 0).testBit j=true->L j=true:=by
 intro i
 induction i using Nat.strongRecOn with | ind i k=>
 intro o d b j l
 obtain⟨e,he,h | ⟨c,h⟩⟩:=aaU d l
 ·rw[h];exact b e he
 ·have m:i<ops.size:=(ij.1 d).1
  have a:ops[e]?=some (ops[e]'(by omega)):=jS (by omega)
  exact k e c _ a (f e _ (b e he) a) j h
structure RegB (ops:Array Oper):Prop where
 edges : ∀(i:Nat)(o:Oper),ops[i]?=some o ->∀e∈eI o,e<i
 distinct : ∀(i j:Nat)(oi oj:Oper)(d:Tmp),ops[i]?=some oi->ops[j]?=some oj->oi.dst=some d->oj.dst=some d->i=j
 reads : ∀(i j:Nat)(oi oj:Oper)(d:Tmp),ops[i]?=some oi->ops[j]?=some oj->j≠i->oj.dst=some d->d∈oi.looksAt ops->(j<i/\((du ops.toList []).getD i 0).testBit j=true)\/(i<j/\((du ops.toList []).getD j 0).testBit i=true)
structure Vs (E:Env) (ops:Array Oper):Prop extends RegB ops where
 site : ∀(i:Nat)(o:Oper),ops[i]?=some o->xe E o=true->jj E o=false->o.dst.isSome=true
 writes : ∀(i j:Nat)(oi oj:Oper),ops[i]?=some oi->ops[j]?=some oj->j<i->xe E oi=true->xe E oj=true->lk E ops i=true->((du ops.toList []).getD i 0).testBit j=true
theorem P1{E:Env}{ops:Array Oper}{i j:Nat}{o:Oper}(c:ops[j]?=some o)(a:jj E o=true)(b:j<=i):lk E ops i=true:=by
 unfold lk
 rw[FH]
 exact⟨j,xl.2 (by omega),by rw[c];exact a⟩
theorem pt{E:Env}{ops:Array Oper}{i:Nat}(h:lk E ops i=false){j:Nat}{o:Oper}(b:ops[j]?=some o)(a:j<=i):jj E o=false:=by
 cases hw:jj E o with
 | false=>rfl
 | true=>rw[P1 b hw a]at h;cases h
theorem aej{E:Env}{ops:Array Oper}{i:Nat}(h:lk E ops i=true) : ∃j o,j<=i/\ops[j]?=some o/\jj E o=true:=by
 unfold lk at h
 rw[FH]at h
 obtain⟨k,b,h⟩:=h
 have c:=xl.1 b
 split at h
 ·rename_i o a;exact⟨k,o,by omega,a,h⟩
 ·cases h
theorem W0{E:Env}{ops:Array Oper}{i j:Nat}(h:lk E ops j=true)(a:j<=i):lk E ops i=true:=by
 unfold lk at h
 rw[FH]at h
 obtain⟨k,c,h⟩:=h
 have d:=xl.1 c
 split at h
 ·rename_i o b;exact P1 b h (by omega)
 ·cases h
theorem Qp{ops:Array Oper}(one : ∀(i:Nat)(o:Oper),ops[i]?=some o->(eI o).all (· < i)=true)
 (two : ∀(i j:Nat)(oi a:Oper),ops[i]?=some oi->ops[j]?=some a->j<i->yi ops (du ops.toList []) oi a i j=true):RegB ops:=by
 have b : ∀(i j:Nat)(oi a:Oper),ops[i]?=some oi->ops[j]?=some a->j<i->(a.dst.isNone=true\/oi.dst≠a.dst)/\(∀d,a.dst=some d->d∈oi.looksAt ops->((du ops.toList []).getD i 0).testBit j=true) /\
  (∀d,oi.dst=some d->d∈a.looksAt ops->((du ops.toList []).getD i 0).testBit j=true):=by
  intro i j oi a k l u
  have:=two i j oi a k l u
  unfold yi at this
  simp only[aZ]at this
  obtain⟨⟨c,p⟩,n⟩:=this
  refine⟨?_,?_,?_⟩
  ·simpa using c
  ·intro d t q
   rw[t]at p
   simp only[ff,dQ]at p
   rcases p with p | p
   ·have:(oi.looksAt ops).contains d=true:=JA.2 q
    rw[p]at this;cases this
   ·exact p
  ·intro d t q
   rw[t]at n
   simp only[ff,dQ]at n
   rcases n with n | n
   ·have:(a.looksAt ops).contains d=true:=JA.2 q
    rw[n]at this;cases this
   ·exact n
 refine⟨?_,?_,?_⟩
 ·intro i o y e x
  have:=one i o y
  simp only[fZ,decide_eq_true_eq]at this
  exact this e x
 ·intro i j oi a d k l f m
  rcases Dw i j with h | h | h
  ·exfalso
   rcases(b j i a oi l k h).1 with c | c
   ·rw[f]at c;cases c
   ·exact c (by rw[f,m])
  ·exact h
  ·exfalso
   rcases(b i j oi a k l h).1 with c | c
   ·rw[m]at c;cases c
   ·exact c (by rw[f,m])
 ·intro i j oi a d k l v t q
  rcases Nz v with h | h
  ·exact .inl ⟨h,(b i j oi a k l h).2.1 d t q⟩
  ·exact .inr ⟨h,(b j i a oi l k h).2.2 d t q⟩
theorem LF{E:Env}{ops:Array Oper}(h:CC E ops=true):Vs E ops:=by
 unfold CC at h
 simp only[fZ,xl]at h
 have one : ∀(i:Nat)(o:Oper),ops[i]?=some o->(eI o).all (· < i)=true/\(!xe E o||jj E o||o.dst.isSome)=true /\∀(j:Nat)(d:Oper),j<i->ops[j]?=some d->OB E ops (du ops.toList []) o d i j=true:=by
  intro i o l
  have f:i<ops.size:=(ij.1 l).1
  have:=h i f
  rw[l]at this
  simp only[aZ,fZ,xl]at this
  refine⟨by simpa using this.1.1,by simpa using this.1.2,λj d k n=>?_⟩
  have m:=this.2 j k
  rw[n]at m
  exact m
 have split : ∀(i j:Nat)(oi d:Oper),ops[i]?=some oi->ops[j]?=some d->j<i->yi ops (du ops.toList []) oi d i j=true/\(xe E oi=true->xe E d=true->lk E ops i=true->((du ops.toList []).getD i 0).testBit j=true):=by
  intro i j oi d f k e
  have:=(one i oi f).2.2 j d e k
  unfold OB at this
  rw[aZ]at this
  refine⟨this.1,λa b c=>?_⟩
  have p:=this.2
  rw[a,b,c]at p
  simpa using p
 refine⟨Qp (λi o l=>(one i o l).1) λi j oi d f k e=>(split i j oi d f k e).1,?_,λi j oi d f k e=>(split i j oi d f k e).2⟩
 intro i o l q m
 have:=(one i o l).2.1
 rw[q,m]at this
 simpa using this
theorem Gv{E:Env}{pc:FuncId->List AV->Option AV}{tc:xd->List AV->ai->dv}{nt dep:Nat}{ops:Array Oper} : ∀(l:List Oper)(st a:St),ng E pc tc nt dep true ops l st=some a ->
 ∃f:Nat->St,f 0=st/\f l.length=a /\∀i o,l[i]?=some o->evalOp E pc tc nt dep true ops o (f i)=some (f (i+1)):=by
 intro l
 induction l with
 | nil=>
  intro st a h
  simp only[ng,dR]at h
  exact⟨λ_=>st,rfl,h,λi o b=>by simp at b⟩
 | cons o l k=>
  intro st a h
  simp only[ng]at h
  split at h
  ·rename_i c d
   obtain⟨f,e,m,j⟩:=k c a h
   refine⟨λn=>match n with | 0=>st | n+1=>f n,rfl,m,?_⟩
   intro i o' b
   cases i with
   | zero=>simp at b;subst b;simp only;rw[e];exact d
   | succ i=>exact j i o' (by simpa using b)
  ·cases h
inductive afy (E:Env) (pc:FuncId->List AV->Option AV) (nt dep:Nat) (ops:Array Oper) (o:Oper) (st st2:St):Prop
 | no (hw:wanted ops st.tm o=some false) (tm':List AV) (ht:dn nt st.tm o.dst AV.undef=some tm') (he:st2=⟨tm',st.hp⟩)
 | quiet (hw:wanted ops st.tm o=some true) (x:AV) (bs:List bA) (hq:ct E pc true st.hp.get st.tm ⟨dep,o.dst.getD 0,st.hp.gen dep (o.dst.getD 0),0⟩ o=some (x,bs)) (tm':List AV)
  (ht:dn nt st.tm o.dst x=some tm') (he:st2=⟨tm',keyed ⟨dep,o.dst.getD 0,st.hp.gen dep (o.dst.getD 0),0⟩ 0 bs st.hp⟩)
 | write (hk:jj E o=true)
theorem oo{E:Env}{pc:FuncId->List AV->Option AV}{tc:xd->List AV->ai->dv}{nt dep:Nat}{ops:Array Oper}{o:Oper}{st a:St}(h:evalOp E pc tc nt dep true ops o st=some a):afy E pc nt dep ops o st a:=by
 unfold evalOp at h
 split at h
 ·cases h
 ·rename_i b
  simp only[bO]at h
  obtain⟨tm',c,rfl⟩:=h
  exact .no b tm' c rfl
 ·rename_i b
  split at h
  ·rename_i x e f
   simp only[bO]at h
   obtain⟨tm',c,rfl⟩:=h
   exact .quiet b x e f tm' c rfl
  ·split at h
   ·cases h
   ·rename_i d
    refine .write ?_
    simpa using d
theorem KY{E:Env}{o:Oper}(h:jj E o=true):jV o.op=true:=by
 unfold jj at h
 have two:(E.k8 o&&Bb o.op)=true->jV o.op=true:=by
  intro h
  replace h:=(xn.1 h).2
  unfold Bb at h
  split at h
  ·rename_i a;rw[a];rfl
  ·cases h
 by_cases d:(E.k8 o&&Bb o.op)=true
 ·exact two d
 replace h:=(Jz.1 h).resolve_right d
 replace h:=(xn.1 h).2
 unfold Y7 at h
 split at h
 ·rename_i a;rw[a];rfl
 ·rename_i a;rw[a];rfl
 ·rename_i a;rw[a];rfl
 ·rename_i a;rw[a];rfl
 ·rename_i a;rw[a];rfl
 ·rename_i c a
  rw[a]
  unfold jV
  split at h
  ·rename_i b;simp[b]
  ·rename_i b;simp[b]
  ·rename_i b;simp[b]
  ·rename_i b;simp[b]
  ·cases h
 ·cases h
theorem Rr{E:Env}{pc:FuncId->List AV->Option AV}{g:db}{tm:List AV}{r:Ref}{o:Oper}(d:jV o.op=false){x:AV}{j:List bA}(h:ct E pc true g tm r o=some (x,j)) :
 j=[] /\∀g' r',ct E pc true g' tm r' o=some (x,j):=by
 have v : ∀ {y:Option AV},jK y=some (x,j)->j=[]:=λh=>(qT h).2
 unfold ct at h ⊢
 simp only[zZ,FB,cond_false,yW]at h ⊢
 split at h
 ·exact⟨v h,λ_ _=>h⟩
 ·exact⟨v h,λ_ _=>h⟩
 ·refine⟨?_,λ_ _=>h⟩
  unfold GA at h
  split at h
  ·exact v h
  ·exact v h
  ·cases h
 ·rename_i a;rw[a]at d;simp[jV]at d
 ·rename_i a;rw[a]at d;simp[jV]at d
 ·refine⟨?_,λ_ _=>h⟩
  unfold lx at h
  (repeat' split at h)<;>(try simp_all)<;>(try (obtain⟨_,_,_,h⟩:=h;exact h))
 ·rename_i a;rw[a]at d;simp[jV]at d
 ·rename_i a;rw[a]at d;simp[jV]at d
 ·refine⟨?_,λ_ _=>h⟩
  unfold LM at h
  (repeat' split at h)<;>(try simp_all)<;>(try (obtain⟨_,_,_,h⟩:=h;exact h))
 ·refine⟨?_,λ_ _=>h⟩
  unfold bS at h
  (repeat' split at h)<;>first | exact v h | (simp_all;done)
 ·exact⟨v h,λ_ _=>h⟩
 ·rename_i a;rw[a]at d;simp[jV]at d
 ·refine⟨?_,λ_ _=>h⟩
  unfold sI at h
  (repeat' split at h)<;>(try simp_all)<;>(try (obtain⟨_,_,_,h⟩:=h;exact h))
 ·refine⟨?_,λ_ _=>h⟩
  unfold xR at h
  (repeat' split at h)<;>(try simp_all)<;>(try (obtain⟨_,_,_,h⟩:=h;exact h))
 ·rename_i a;rw[a]at d;simp[jV]at d
 ·rename_i a;rw[a]at d;simp[jV]at d
 ·rename_i a;rw[a]at d;simp[jV]at d
 ·rename_i a;rw[a]at d;simp[jV]at d
 ·refine⟨?_,λ_ _=>h⟩
  unfold iK at h
  (repeat' split at h)<;>(try simp_all)<;>(try (obtain⟨_,_,_,h⟩:=h;exact h))
 ·refine⟨?_,λ_ _=>h⟩
  unfold uV at h
  (repeat' split at h)<;>first | exact v h | (simp_all;done)
 ·rename_i a;rw[a]at d;simp[jV]at d
 ·refine⟨?_,λ_ _=>h⟩
  unfold qU at h
  (repeat' split at h)<;>first | exact v h | (simp_all;done)
 ·refine⟨?_,λ_ _=>h⟩
  unfold sR at h
  (repeat' split at h)<;>(try simp_all)<;>(try (obtain⟨_,_,_,h⟩:=h;exact h))
 ·refine⟨?_,λ_ _=>h⟩
  unfold ti at h
  (repeat' split at h)<;>first | exact v h | (simp_all;done)
 ·rename_i c a
  rw[a]at d
  simp only[jV]at d
  split at h
  ·cases h
  ·rename_i args e
   split at h
   ·rename_i f;rw[f]at d;simp at d
   ·cases h
   ·rename_i b f
    rw[f]at d
    unfold ck at h
    split at h
    ·have k:OO c=false:=by simpa using d
     unfold OO at k
     rw[k]at h
     simp at h
    ·rename_i l
     refine⟨?_,λ_ _=>by simpa [e,f,ck] using h⟩
     unfold HN at h
     (repeat' split at h)<;>(try simp_all)<;>(try (obtain⟨_,_,_,h⟩:=h;exact h))<;>(try (obtain⟨n,_,h⟩:=gE.1 h;simp at h;exact h.2))
    ·exact⟨v h,λ_ _=>by simpa [e,f,ck] using h⟩
    ·exact⟨v h,λ_ _=>by simpa [e,f,ck] using h⟩
    ·simp at d
    ·simp at d
    ·cases h
 ·cases h
theorem Mh{o:Op}(h:Mi o=true) : ∃c,o = .call c/\c.callee = .builtin .len:=by
 unfold Mi at h
 split at h
 ·rename_i c
  split at h
  ·rename_i a;exact⟨c,rfl,a⟩
  ·cases h
 ·cases h
theorem gC{E:Env}{o:Oper}(h:jj E o=true):xe E o=true:=by
 unfold xe
 rw[KY h,nu]
 cases d:Mi o.op with
 | false=>simp
 | true=>
  exfalso
  obtain⟨c,b,a⟩:=Mh d
  simp[jj,b,Y7,a,Bb]at h
theorem xT{E:Env}{pc:FuncId->List AV->Option AV}{g:db}{tm:List AV}{r:Ref}{o:Oper}(d:xe E o=false){x:AV}{a:List bA}(h:ct E pc true g tm r o=some (x,a)) :
 a=[] /\∀g' r',ct E pc true g' tm r' o=some (x,a):=by
 cases hp:jV o.op with
 | false=>exact Rr hp h
 | true=>
  unfold xe at d
  rw[hp,nu]at d
  obtain⟨e,l⟩:=xn.1 (by simpa using d:(E.strict o&&Mi o.op)=true)
  obtain⟨c,k,f⟩:=Mh l
  unfold ct at h ⊢
  simp only[k,f,e,Bool.true_or,zY]at h ⊢
  split at h
  ·cases h
  ·rename_i args b
   unfold ck at h ⊢
   split at h
   ·simp at h
   ·rename_i y j
    refine⟨?_,λ_ _=>?_⟩
    ·unfold HN at h
     (repeat' split at h)<;>(try simp_all)<;>(try (obtain⟨_,_,_,h⟩:=h;exact h))<;>(try (obtain⟨n,_,h⟩:=gE.1 h;simp at h;exact h.2))
    ·exact h
   all_goals (first | cases h | simp_all)
end Go.Ab
namespace Go.Ab
def fI(ops:Array Oper)(dep:Nat)(sts:Nat->St)(i:Nat):Ref:=⟨dep,(iQ ops i).getD 0,(sts i).hp.gen dep ((iQ ops i).getD 0),0⟩
def newAt(E:Env)(pc:FuncId->List AV->Option AV)(ops:Array Oper)(dep:Nat)(sts:Nat->St)(i:Nat):List bA:=
 match ops[i]? with
 | none=>[]
 | some o=>if xe E o && !lk E ops i then
  match wanted ops (sts i).tm o with
  | some true=>(match ct E pc true (sts i).hp.get (sts i).tm (fI ops dep sts i) o with
   | some (_,a)=>a
   | none=>[])
  | _=>[]
  else []
def gF(a:db)(key:Nat->Ref)(new:Nat->List bA)(L:Nat->Bool):Nat->db
 | 0=>a
 | i+1=>if L i then sM (gF a key new L i) (key i) (new i) else gF a key new L i
def mt(key:Nat->Ref)(new:Nat->List bA)(i:Nat)(q:Ref):Prop:=q.d=(key i).d/\q.t=(key i).t/\q.g=(key i).g/\q.k<(new i).length
theorem sS{b:db}{key:Nat->Ref}{new:Nat->List bA}{L:Nat->Bool}{q:Ref} : ∀n,(∀i,i<n->L i=true ->¬mt key new i q)->gF b key new L n q=b q:=by
 intro n
 induction n with
 | zero=>intro _;rfl
 | succ n c=>
  intro h
  simp only[gF]
  split
  ·rename_i d
   exact(if_neg (h n (qJ n) d)).trans (c λi a=>h i (Fm a))
  ·exact c λi a=>h i (Fm a)
theorem BR{c:db}{key:Nat->Ref}{new:Nat->List bA}{L:Nat->Bool}{q:Ref}(a : ∀i j,mt key new i q->mt key new j q->i=j){i:Nat}(d:mt key new i q)(l:L i=true) :
 ∀n,i<n->gF c key new L n q=(new i)[q.k]?:=by
 intro n
 induction n with
 | zero=>intro h;omega
 | succ n e=>
  intro h
  simp only[gF]
  by_cases b:i=n
  ·subst b
   rw[if_pos l]
   exact if_pos d
  ·have:gF c key new L n q=(new i)[q.k]?:=e (by omega)
   split
   ·exact(if_neg (λf=>b (a i n d f))).trans this
   ·exact this
section
variable{E:Env}{pc:FuncId->List AV->Option AV}{tc:xd->List AV->ai->dv}{nt dep:Nat}{ops:Array Oper}{sts:Nat->St}
def TS(ops:Array Oper)(sts:Nat->St)(L:Nat->Bool)(tm:List AV):Prop:=
 ∀t,(∀i,i<ops.size->L i=true->iQ ops i=some t->cY tm t=cY (sts (i+1)).tm t)/\((∀i,i<ops.size->L i=true->iQ ops i≠some t)->cY tm t=cY (sts 0).tm t)
theorem vV{tm tm':List AV}{b:Option Tmp}{x:AV}(h:dn nt tm b x=some tm')(t:Nat):cY tm' t=if b=some t then x else cY tm t:=by
 unfold dn at h
 split at h
 ·injection h with h;subst h;simp
 ·rename_i d
  obtain⟨_,h⟩:=fa.1 h
  injection h with h
  subst h
  rw[oC]
  by_cases a:t=d
  ·subst a;simp
  ·rw[if_neg a,if_neg (by intro e;injection e with e;exact a e.symm)]
theorem k6{tm tm' tm1:List AV}{a:Option Tmp}{x:AV}(h:dn nt tm a x=some tm') : ∃b,dn nt tm1 a x=some b:=by
 unfold dn at h ⊢
 cases a with
 | none=>exact⟨_,rfl⟩
 | some d=>
  simp only at h ⊢
  obtain⟨c,_⟩:=fa.1 h
  rw[if_pos c]
  exact⟨_,rfl⟩
theorem Lh{o:Oper}{i:Nat}(hrun:evalOp E pc tc nt dep true ops o (sts i)=some (sts (i+1))) : ∃x,dn nt (sts i).tm o.dst x=some (sts (i+1)).tm:=by
 unfold evalOp at hrun
 split at hrun
 ·cases hrun
 ·simp only[bO]at hrun
  obtain⟨tm',a,he⟩:=hrun
  exact⟨_,by rw[<-he];exact a⟩
 ·split at hrun
  ·simp only[bO]at hrun
   obtain⟨tm',a,he⟩:=hrun
   exact⟨_,by rw[<-he];exact a⟩
  ·split at hrun
   ·cases hrun
   ·split at hrun
    ·simp only[bO]at hrun
     obtain⟨tm',a,he⟩:=hrun
     exact⟨_,by rw[<-he];exact a⟩
    ·cases hrun
section
variable(hR:RegB ops)(hrun : ∀i o,ops[i]?=some o->evalOp E pc tc nt dep true ops o (sts i)=some (sts (i+1)))
include hR hrun
omit hrun in
theorem U3{i j:Nat}{t:Nat}(a:iQ ops i=some t)(b:iQ ops j=some t):i=j:=by
 simp only[iQ,gE]at a b
 obtain⟨oi,e,f⟩:=a
 obtain⟨c,d,h⟩:=b
 exact hR.distinct i j oi c t e d f h
theorem JS : ∀i,i<=ops.size->TS ops sts (λj=>decide (j<i)) (sts i).tm:=by
 intro i
 induction i with
 | zero=>intro _ t;exact⟨λj _ h=>by simp at h,λ_=>rfl⟩
 | succ i q=>
  intro l t
  have f:i<ops.size:=l
  have n:=jS f
  obtain⟨x,y⟩:=Lh (hrun i _ n)
  have p:iQ ops i=ops[i].dst:=by simp[iQ,n]
  have m:=vV y t
  obtain⟨u,v⟩:=q (by omega) t
  refine⟨λj h b d=>?_,λc=>?_⟩
  ·simp only[decide_eq_true_eq]at b
   by_cases k:j=i
   ·subst k;rfl
   ·have a:ops[i].dst≠some t:=by
     intro e
     rw[<-p]at e
     exact k (U3 hR d e)
    rw[m,if_neg a]
    exact u j h (by simp;omega) d
  ·have a:ops[i].dst≠some t:=by rw[<-p];exact c i f (by simp)
   rw[m,if_neg a]
   exact v λj h b=>c j h (by simp at b ⊢;omega)
theorem Gy{L:Nat->Bool}(u:Closed ops L){i:Nat}{o:Oper}(p:ops[i]?=some o)(x:L i=false)(v : ∀e∈eI o,L e=true){tm:List AV}(H:TS ops sts L tm){t:Nat}(y:t∈o.looksAt ops) :
 cY tm t=cY (sts i).tm t:=by
 have z:i<ops.size:=(ij.1 p).1
 obtain⟨A,B⟩:=H t
 obtain⟨G,C⟩:=JS hR hrun i (by omega) t
 by_cases k : ∃j,j<ops.size/\L j=true/\iQ ops j=some t
 ·obtain⟨j,l,b,a⟩:=k
  have c:=a
  simp only[iQ,gE]at c
  obtain⟨m,h,f⟩:=c
  have q:j≠i:=by intro e;rw[e,x]at b;cases b
  rcases hR.reads i j o m t p h q f y with ⟨n,_⟩ | ⟨_,d⟩
  ·rw[A j l b a,G j l (by simpa using n) a]
  ·have:=vi u j m h (λe D=>u j m b h e D) i d
   rw[x]at this
   cases this
 ·rw[B λj l b a=>k ⟨j,l,b,a⟩]
  refine(C λj l b a=>?_).symm
  simp only[decide_eq_true_eq]at b
  have c:=a
  simp only[iQ,gE]at c
  obtain⟨m,h,f⟩:=c
  rcases hR.reads i j o m t p h (by omega) f y with ⟨_,d⟩ | ⟨F,_⟩
  ·exact k ⟨j,l,vi u i o p v j d,a⟩
  ·omega
omit hrun in
theorem tW{L u:Nat->Bool}{i:Nat}{o:Oper}(v:ops[i]?=some o)(c : ∀j,u j=true↔(L j=true\/j=i))(y:L i=false){tm tm':List AV}(C:TS ops sts L tm){x:AV}(D:dn nt (sts i).tm o.dst x=some (sts (i+1)).tm)
 (k:dn nt tm o.dst x=some tm'):TS ops sts u tm':=by
 intro t
 have m:i<ops.size:=(ij.1 v).1
 have p:iQ ops i=o.dst:=by simp[iQ,v]
 obtain⟨z,A⟩:=C t
 have B:=vV D t
 have q:=vV k t
 refine⟨λj l d a=>?_,λf=>?_⟩
 ·rcases(c j).1 d with h | h
  ·have n:j≠i:=by intro e;rw[e,y]at h;cases h
   have b:o.dst≠some t:=by rw[<-p];intro e;exact n (U3 hR a e)
   rw[q,if_neg b]
   exact z j l h a
  ·subst h
   rw[p]at a
   rw[q,if_pos a,B,if_pos a]
 ·have b:o.dst≠some t:=by rw[<-p];exact f i m ((c i).2 (.inr rfl))
  rw[q,if_neg b]
  exact A λj l d=>f j l ((c j).2 (.inl d))
end
variable(hR:Vs E ops)(hrun : ∀i o,ops[i]?=some o->evalOp E pc tc nt dep true ops o (sts i)=some (sts (i+1)))
include hR hrun
abbrev aew(ops:Array Oper)(dep:Nat)(sts:Nat->St):Nat->Ref:=fI ops dep sts
omit hR hrun in
theorem tn{i:Nat}(h:newAt E pc ops dep sts i≠[]) : ∃o,ops[i]?=some o/\xe E o=true/\lk E ops i=false:=by
 unfold newAt at h
 split at h
 ·exact absurd rfl h
 ·rename_i o b
  split at h
  ·rename_i a
   simp only[aZ,dQ]at a
   exact⟨o,b,a.1,a.2⟩
  ·exact absurd rfl h
omit hrun in
theorem Kf{q:Ref}(i j:Nat)(h:mt (fI ops dep sts) (newAt E pc ops dep sts) i q)(k:mt (fI ops dep sts) (newAt E pc ops dep sts) j q):i=j:=by
 have ne : ∀ {i},mt (fI ops dep sts) (newAt E pc ops dep sts) i q->newAt E pc ops dep sts i≠[]:=by
  intro i h e
  have:=h.2.2.2
  rw[e]at this
  simp at this
 obtain⟨oi,c,u,p⟩:=tn (ne h)
 obtain⟨f,d,y,x⟩:=tn (ne k)
 obtain⟨l,a⟩:=gH.1 (hR.site i oi c u (pt p c (bD _)))
 obtain⟨v,b⟩:=gH.1 (hR.site j f d y (pt x d (bD _)))
 have n:q.t=l:=by have:=h.2.1;simpa [fI,iQ,c,a] using this
 have m:q.t=v:=by have:=k.2.1;simpa [fI,iQ,d,b] using this
 exact hR.distinct i j oi f l c d a (by rw[b,<-n,<-m])
def Yc(E:Env)(ops:Array Oper)(n:Nat):Prop :=∀j o,j<n->ops[j]?=some o->jj E o=false
omit hR hrun in
theorem Un{n:Nat}(b:Yc E ops (n+1)):lk E ops n=false:=by
 cases h:lk E ops n with
 | false=>rfl
 | true=>
  unfold lk at h
  rw[FH]at h
  obtain⟨k,d,h⟩:=h
  have a:=xl.1 d
  split at h
  ·rename_i o c;rw[b k o a c]at h;cases h
  ·cases h
omit hR in
theorem JU{n:Nat}(m:n<=ops.size)(f:Yc E ops n):(sts n).hp.get=gF (sts 0).hp.get (fI ops dep sts) (newAt E pc ops dep sts) (λ_=>true) n:=by
 induction n with
 | zero=>rfl
 | succ n l=>
  have b:=jS (show n<ops.size from m)
  have e:=l (by omega) (λj o u=>f j o (by omega))
  simp only[gF,if_true]
  rw[<-e]
  have t:iQ ops n=ops[n].dst:=by simp[iQ,b]
  have h:fI ops dep sts n=⟨dep,ops[n].dst.getD 0,(sts n).hp.gen dep (ops[n].dst.getD 0),0⟩:=by simp[fI,t]
  rcases oo (hrun n _ b)with ⟨a,tm',p,he⟩ | ⟨a,x,v,k,tm',p,he⟩ | d
  ·have:newAt E pc ops dep sts n=[]:=by
    unfold newAt
    rw[b]
    simp only[a]
    split<;>rfl
   rw[this,m0,he]
  ·have c:=Un f
   rw[he]
   simp only
   rw[ai.lD,<-h]
   congr 1
   unfold newAt
   rw[b]
   simp only[a,h,k,c,BI,zY]
   cases q:xe E ops[n] with
   | true=>rfl
   | false=>
    rw[(xT q k).1]
    rfl
  ·exact absurd d (by rw[f n _ (qJ n) b];simp)
omit hR in
theorem Le{n:Nat}(J:n<=ops.size)(A:Yc E ops n)(d t:Nat):(sts 0).hp.gen d t<=(sts n).hp.gen d t /\
 ((∀j,j<n->newAt E pc ops dep sts j≠[] ->¬(d=dep/\t=(iQ ops j).getD 0))->(sts n).hp.gen d t=(sts 0).hp.gen d t) /\
 ∀j,j<n->newAt E pc ops dep sts j≠[]->d=dep->t=(iQ ops j).getD 0->(fI ops dep sts j).g<(sts n).hp.gen d t:=by
 induction n with
 | zero=>exact⟨bD _,λ_=>rfl,λj k=>by omega⟩
 | succ n I=>
  have m:=jS (show n<ops.size from J)
  obtain⟨i1,i2,i3⟩:=I (by omega) (λj o k=>A j o (by omega))
  have z:iQ ops n=ops[n].dst:=by simp[iQ,m]
  have B:fI ops dep sts n=⟨dep,ops[n].dst.getD 0,(sts n).hp.gen dep (ops[n].dst.getD 0),0⟩:=by simp[fI,z]
  have same:(sts (n+1)).hp=(sts n).hp->newAt E pc ops dep sts n=[]->(sts 0).hp.gen d t<=(sts (n+1)).hp.gen d t /\
   ((∀j,j<n+1->newAt E pc ops dep sts j≠[] ->¬(d=dep/\t=(iQ ops j).getD 0))->(sts (n+1)).hp.gen d t=(sts 0).hp.gen d t) /\
   ∀j,j<n+1->newAt E pc ops dep sts j≠[]->d=dep->t=(iQ ops j).getD 0->(fI ops dep sts j).g<(sts (n+1)).hp.gen d t:=by
   intro G F
   rw[G]
   refine⟨i1,λh=>i2 λj k=>h j (by omega),λj k a=>?_⟩
   have:j≠n:=by intro e;rw[e]at a;exact a F
   exact i3 j (by omega) a
  rcases oo (hrun n _ m)with ⟨c,tm',H,he⟩ | ⟨c,x,C,D,tm',H,he⟩ | v
  ·refine same (by rw[he]) ?_
   unfold newAt
   rw[m]
   simp only[c]
   split<;>rfl
  ·have u:=Un A
   have l:newAt E pc ops dep sts n=C:=by
    unfold newAt
    rw[m]
    simp only[c,B,D,u,BI,zY]
    cases K:xe E ops[n] with
    | true=>rfl
    | false=>rw[(xT K D).1];rfl
   by_cases p:C=[]
   ·refine same ?_ (by rw[l,p])
    rw[he,p]
    rfl
   ·rw[he]
    simp only
    rw[ai.kX]
    simp only[ne_eq,p,not_false_eq_true,and_true]
    by_cases b:d=dep/\t=ops[n].dst.getD 0
    ·rw[if_pos b]
     obtain⟨rfl,rfl⟩:=b
     refine⟨by omega,λh=>?_,λj k a y q=>?_⟩
     ·exact absurd ⟨rfl,by rw[z]⟩ (h n (qJ n) (by rw[l];exact p))
     ·by_cases f:j=n
      ·rw[f,B];exact qJ _
      ·have:=i3 j (by omega) a rfl q
       omega
    ·rw[if_neg b]
     refine⟨i1,λh=>i2 λj k=>h j (by omega),λj k a y q=>?_⟩
     by_cases f:j=n
     ·subst f
      exact absurd ⟨y,by rw[q,z]⟩ b
     ·exact i3 j (by omega) a y q
  ·exact absurd v (by rw[A n _ (qJ n) m];simp)
theorem I4{ι:Map}(x:tB ι (sts 0).hp){i:Nat}{o:Oper}(c:ops[i]?=some o)(B:xe E o=true)(e:jj E o=false)(y:Yc E ops i)(k:Nat):ι { fI ops dep sts i with k:=k}=none:=by
 have u:i<ops.size:=(ij.1 c).1
 obtain⟨d,p⟩:=gH.1 (hR.site i o c B e)
 have h:iQ ops i=some d:=by simp[iQ,c,p]
 obtain⟨_,z,_⟩:=Le (pc:=pc) (tc:=tc) (nt:=nt) (dep:=dep) hrun (iB u) y dep d
 have v:(sts i).hp.gen dep d=(sts 0).hp.gen dep d:=z λj C l q=>by
  obtain⟨n,a,m,f⟩:=tn l
  obtain⟨A,b⟩:=gH.1 (hR.site j n a m (pt f a (bD _)))
  have:d=A:=by have:=q.2;simpa [iQ,a,b] using this
  exact absurd (hR.distinct i j o n d c a p (by rw[b,this])) (by omega)
 have t:fI ops dep sts i=⟨dep,d,(sts 0).hp.gen dep d,0⟩:=by simp[fI,h,v]
 rw[t]
 exact x.fresh dep d k
end
end Go.Ab
namespace Go.Ab
theorem AA{ops:Array Oper}{o:Oper}{tm tm':List AV}(h : ∀t∈o.looksAt ops,cY tm t=cY tm' t):De tm tm' o.op.operands.toList:=by
 intro x a
 cases x with
 | tmp t=>
  simp only[aM]
  rw[h t]
  unfold Oper.looksAt
  exact NH _ (Ny.2 ⟨_,a,rfl⟩)
 | _=>rfl
theorem yv{ops:Array Oper}{o:Oper}{tm tm':List AV}(h : ∀t∈o.looksAt ops,cY tm t=cY tm' t):wanted ops tm o=wanted ops tm' o:=by
 unfold wanted
 cases a:o.guard with
 | none=>rfl
 | some p=>
  obtain⟨j,b⟩:=p
  simp only
  cases c:(ops[j]?).bind (·.dst) with
  | none=>rfl
  | some t=>
   simp only
   rw[h t]
   unfold Oper.looksAt
   rw[a]
   simp[c]
theorem EG{p p':Nat->Bool}{i:Nat}(d : ∀j,p' j=true->p j=true)(h:p i=true)(f:p' i=false) : ∀l:List Nat,i∈l->l.countP p'<l.countP p:=by
 intro l b
 have mono : ∀l:List Nat,l.countP p'<=l.countP p:=λl=>List.countP_mono_left λx _=>d x
 induction l with
 | nil=>cases b
 | cons a l e=>
  simp only[vP]
  by_cases c:a=i
  ·subst c
   have:=mono l
   rw[h,f]
   simp
   omega
  ·have:=e (by simpa [sA c] using b)
   have k:(if p' a=true then 1 else 0)<=(if p a=true then 1 else 0):=by
    by_cases hp:p' a=true
    ·rw[if_pos hp,if_pos (d a hp)];exact bD _
    ·rw[if_neg hp];exact Dq _
   omega
theorem Jc{E:Env}{pc:FuncId->List AV->Option AV}{tc:xd->List AV->ai->dv}{nt dep:Nat}{ops:Array Oper}{o:Oper}{st c:St}{tm1:List AV}(h : ∀t∈o.looksAt ops,cY tm1 t=cY st.tm t)
 (a:evalOp E pc tc nt dep true ops o st=some c) : ∃x b,dn nt st.tm o.dst x=some c.tm/\dn nt tm1 o.dst x=some b/\evalOp E pc tc nt dep true ops o ⟨tm1,st.hp⟩=some ⟨b,c.hp⟩:=by
 have e:=AA h
 have f:=yv h
 unfold evalOp at a ⊢
 simp only
 rw[f,tw e,UX e]
 have d : ∀ {x:AV} {H:ai},(dn nt st.tm o.dst x).map (λtm=>(⟨tm,H⟩:St))=some c ->∃m b,dn nt st.tm o.dst m=some c.tm/\dn nt tm1 o.dst m=some b/\(dn nt tm1 o.dst x).map (λtm=>(⟨tm,H⟩:St))=some ⟨b,c.hp⟩:=by
  intro x H n
  obtain⟨tm',j,rfl⟩:=bO.1 n
  obtain⟨b,k⟩:=k6 (tm1:=tm1) j
  exact⟨x,b,j,k,by rw[k];rfl⟩
 revert a
 generalize wanted ops st.tm o=W
 generalize ct E pc true st.hp.get st.tm ⟨dep,o.dst.getD 0,st.hp.gen dep (o.dst.getD 0),0⟩ o=X
 generalize evalW E pc tc st.hp st.tm ⟨dep,o.dst.getD 0,st.hp.gen dep (o.dst.getD 0),0⟩ o=Y
 intro a
 rcases W with _ | ⟨_ | _⟩
 ·cases a
 ·exact d a
 ·rcases X with _ | ⟨x,p⟩
  ·simp only at a ⊢
   by_cases l:(true && !jj E o)=true
   ·rw[if_pos l]at a;cases a
   ·rw[if_neg l]at a ⊢
    rcases Y with _ | ⟨x,H⟩
    ·cases a
    ·exact d a
  ·exact d a
section
variable{E:Env}{pc:FuncId->List AV->Option AV}{tc:xd->List AV->ai->dv}{nt dep:Nat}{ops:Array Oper}{sts:Nat->St}
variable(hR:Vs E ops)(hrun : ∀i o,ops[i]?=some o->evalOp E pc tc nt dep true ops o (sts i)=some (sts (i+1)))
abbrev gL(E:Env)(pc:FuncId->List AV->Option AV)(ops:Array Oper)(dep:Nat)(sts:Nat->St)(L:Nat->Bool)(n:Nat):db:=gF (sts 0).hp.get (fI ops dep sts) (newAt E pc ops dep sts) L n
structure Vy (E:Env) (pc:FuncId->List AV->Option AV) (ops:Array Oper) (dep:Nat) (sts:Nat->St) (M:Mem) (ι:Map) (w:World) (L:Nat->Bool) (M1:Mem) (ι1:Map) (w1:World):Prop where
 quiet : ∀i o,L i=true->ops[i]?=some o->xe E o=true->lk E ops i=false
 sim:gA M1 ι1 (gL E pc ops dep sts L ops.size) w1
 fwd:tA M ι (sts 0).hp.get w M1 ι1 (gL E pc ops dep sts L ops.size) w1
 dom : ∀q,ι q=none->(∀i,i<ops.size->L i=true ->¬mt (fI ops dep sts) (newAt E pc ops dep sts) i q)->ι1 q=none
structure Late (E:Env) (ops:Array Oper) (sts:Nat->St) (M:Mem) (ι:Map) (w:World) (L:Nat->Bool) (M1:Mem) (ι1:Map) (w1:World) (k:Nat):Prop where
 le:k<=ops.size
 wrote : ∃j o,j<k/\ops[j]?=some o/\jj E o=true
 upto : ∀i o,ops[i]?=some o->xe E o=true->(L i=true↔i<k)
 sim:gA M1 ι1 (sts k).hp.get w1
 dom:tB ι1 (sts k).hp
 fwd:tA M ι (sts 0).hp.get w M1 ι1 (sts k).hp.get w1
structure Inv (E:Env) (pc:FuncId->List AV->Option AV) (nt:Nat) (ops:Array Oper) (dep:Nat) (sts:Nat->St) (M:Mem) (ι:Map) (w:World) (ds:List Deferred) (L:Nat->Bool) (a1:Act) (w1:World):Prop where
 closed:Closed ops L
 defers:a1.defers=ds
 at_ : ∃M1 ι1 tm1,TS ops sts L tm1/\TR M1 ι1 tm1 a1/\a1.tmps.size=nt/\(Vy E pc ops dep sts M ι w L M1 ι1 w1 \/∃k,Late E ops sts M ι w L M1 ι1 w1 k)
theorem Closed.next{L d:Nat->Bool}{i:Nat}{o:Oper}(k:Closed ops L)(n:ops[i]?=some o)(c : ∀e∈eI o,L e=true)(b : ∀j,d j=true↔(L j=true\/j=i)):Closed ops d:=by
 intro j m l a e f
 rcases(b j).1 l with h | h
 ·exact(b e).2 (.inl (k j m h a e f))
 ·subst h
  rw[n]at a
  injection a with a
  subst a
  exact(b e).2 (.inl (c e f))
theorem RI(r:Ref)(H:ai):keyed r 0 [] H=H:=rfl
include hrun in
theorem Mu{k:Nat} : ∀n,k<=n->n<=ops.size->(∀j o,k<=j->j<n->ops[j]?=some o->xe E o=false)->(sts n).hp=(sts k).hp:=by
 intro n
 induction n with
 | zero=>intro h _ _;rw[Fw.1 h]
 | succ n l=>
  intro u m h
  rcases fe n k with p | c
  ·rw[show k=n+1 by omega]
  ·have f:=jS (show n<ops.size from m)
   have e:=h n _ c (qJ n) f
   rw[<-l c (by omega) λj o a b=>h j o a (by omega)]
   rcases oo (hrun n _ f)with ⟨_,tm',q,he⟩ | ⟨_,x,v,t,tm',q,he⟩ | d
   ·rw[he]
   ·rw[he,(xT e t).1];rfl
   ·rw[gC d]at e;cases e
theorem Um{i:Nat}{o:Oper}(e:ops[i]?=some o)(f:xe E o=true)(b:lk E ops i=false):Yc E ops i:=
 λj d c a=>pt b a (iB c)
include hR hrun in
theorem Ur{ι:Map}(h:tB ι (sts 0).hp){i:Nat}{q:Ref}(d:mt (fI ops dep sts) (newAt E pc ops dep sts) i q):ι q=none:=by
 have b:newAt E pc ops dep sts i≠[]:=by
  intro e
  have:=d.2.2.2
  rw[e]at this
  simp at this
 obtain⟨o,c,f,a⟩:=tn b
 have:=I4 (pc:=pc) (tc:=tc) (nt:=nt) hR hrun h c f (pt a c (bD _)) (Um c f a) q.k
 rwa [show({ fI ops dep sts i with k:=q.k}:Ref)=q by
  obtain⟨l,m,j,n⟩:=d
  cases q
  simp_all]at this
include hR in
theorem UQ{L l:Nat->Bool}{i:Nat}(m:i<ops.size)(d : ∀j,l j=true↔(L j=true\/j=i)):gL E pc ops dep sts l ops.size=sM (gL E pc ops dep sts L ops.size) (fI ops dep sts i) (newAt E pc ops dep sts i):=by
 funext q
 unfold sM
 have c : ∀i j,mt (fI ops dep sts) (newAt E pc ops dep sts) i q->mt (fI ops dep sts) (newAt E pc ops dep sts) j q->i=j:=λi j=>Kf hR i j
 split
 ·rename_i k
  exact BR c (i:=i) k ((d i).2 (.inr rfl)) ops.size m
 ·rename_i k
  by_cases e : ∃j,j<ops.size/\L j=true/\mt (fI ops dep sts) (newAt E pc ops dep sts) j q
  ·obtain⟨j,f,b,a⟩:=e
   rw[gL,BR c a ((d j).2 (.inl b)) _ f,gL,BR c a b _ f]
  ·rw[gL,sS,gL,sS]
   ·intro j f b a
    exact e ⟨j,f,b,a⟩
   ·intro j f b a
    rcases(d j).1 b with h | h
    ·exact e ⟨j,f,h,a⟩
    ·subst h;exact k a
include hR in
theorem Qa{L:Nat->Bool}{n:Nat}(y:n<=ops.size)(h : ∀j o,j<ops.size->ops[j]?=some o->xe E o=true->lk E ops j=false->(L j=true↔j<n)):gL E pc ops dep sts (λ_=>true) n=gL E pc ops dep sts L ops.size:=by
 funext q
 have b : ∀i j,mt (fI ops dep sts) (newAt E pc ops dep sts) i q->mt (fI ops dep sts) (newAt E pc ops dep sts) j q->i=j:=λi j=>Kf hR i j
 have made : ∀ {j},mt (fI ops dep sts) (newAt E pc ops dep sts) j q ->∃o,ops[j]?=some o/\xe E o=true/\lk E ops j=false:=by
  intro j v
  refine tn (pc:=pc) (dep:=dep) (sts:=sts) ?_
  intro e
  have:=v.2.2.2
  rw[e]at this
  simp at this
 by_cases k : ∃j,mt (fI ops dep sts) (newAt E pc ops dep sts) j q
 ·obtain⟨j,c⟩:=k
  obtain⟨o,t,x,m⟩:=made c
  have p:j<ops.size:=(ij.1 t).1
  have d:=h j o p t x m
  by_cases f:j<n
  ·rw[gL,BR b c rfl _ f,gL,BR b c (d.2 f) _ p]
  ·rw[gL,sS,gL,sS]
   ·intro i u l a
    have:=b i j a c
    subst this
    exact f (d.1 l)
   ·intro i u l a
    have:=b i j a c
    omega
 ·rw[gL,sS _ (λi _ _ a=>k ⟨i,a⟩),gL,sS _ (λi _ _ a=>k ⟨i,a⟩)]
include hrun in
theorem MS{M:Mem}{ι b:Map}(z:tB ι (sts 0).hp){L:Nat->Bool}{n:Nat}(B:n<=ops.size)(D:Yc E ops n)
 (m : ∀q,ι q=none->(∀i,i<ops.size->L i=true ->¬mt (fI ops dep sts) (newAt E pc ops dep sts) i q)->b q=none)
 (y : ∀q l,ι q=some l->b q=some l) (h : ∀j o,j<ops.size->ops[j]?=some o->xe E o=true->lk E ops j=false->L j=true->j<n):tB b (sts n).hp:=by
 intro q l x
 obtain⟨A,I,F⟩:=Le (pc:=pc) (tc:=tc) (nt:=nt) (dep:=dep) hrun B D q.d q.t
 cases k:ι q with
 | some C=>exact El (z q C k) A
 | none=>
  by_cases p : ∃i,i<ops.size/\L i=true/\mt (fI ops dep sts) (newAt E pc ops dep sts) i q
  ·obtain⟨i,v,c,a⟩:=p
   have f:newAt E pc ops dep sts i≠[]:=by
    intro e
    have:=a.2.2.2
    rw[e]at this
    simp at this
   obtain⟨o,G,H,u⟩:=tn f
   have:=F i (h i o v G H u c) f a.1 a.2.1
   rw[a.2.2.1]
   exact this
  ·rw[m q k λi v c a=>p ⟨i,v,c,a⟩]at x
   cases x
variable{M:Mem}{ι:Map}{w:World}{ds:List Deferred}
include hR hrun in
theorem UL(hpc : ∀f xs y,pc f xs=some y->kJ E.P f xs y)(htc : ∀f xs H y H',tc f xs H=some (y,H')->qv E.P f xs H y H'){ro:Option Nat}{Q:Exit->Act->World->Prop}
 (hS0:gA M ι (sts 0).hp.get w) (hD0:tB ι (sts 0).hp) {L L':Nat->Bool} {i:Nat} {o:Oper} (B:ops[i]?=some o) (hi:L i=false) (hed : ∀e∈eI o,L e=true)
 (n : ∀j,L' j=true↔(L j=true\/j=i)) {a1:Act} {w1:World} (hI:Inv E pc nt ops dep sts M ι w ds L a1 w1) {K:Act->World->Prop} (hK : ∀a' w',Inv E pc nt ops dep sts M ι w ds L' a' w'->K a' w') :
 if Region.wanted o (yielded ops a1.tmps) then o.wpIn (FW ro) 0 E.P a1 w1 K Q else K (a1.put o.dst undef) w1:=by
 obtain⟨hc,hds,M1,F,tm1,hTS,C,hnt,G⟩:=hI
 have N:i<ops.size:=(ij.1 B).1
 have hc':Closed ops L':=Closed.next hc B hed n
 have S : ∀t∈o.looksAt ops,cY tm1 t=cY (sts i).tm t:=λt ht=>Gy hR.toRegB hrun hc B hi hed hTS ht
 have hag:=AA S
 have hwd:=yv S
 have step:=hrun i o B
 have anc:=vi hc i o B hed
 cases hb:(xe E o&&lk E ops i) with
 | true=>
  obtain⟨J,Z⟩:=xn.1 hb
  have D : ∀j l,j<i->ops[j]?=some l->xe E l=true->L j=true:=λj l T a c=>anc j (hR.writes i j o l B a T J c Z)
  have hO:vH M1 F ⟨tm1,(sts i).hp⟩ nt a1 w1/\tA M ι (sts 0).hp.get w M1 F (sts i).hp.get w1 /\∀j l,ops[j]?=some l->xe E l=true->(L j=true->j<i):=by
   rcases G with d | ⟨k,d⟩
   ·have R:Yc E ops i:=by
     intro j l T a
     cases R:jj E l with
     | false=>rfl
     | true=>have:=pt (d.quiet j l (D j l T a (gC R)) a (gC R)) a (bD _);rw[R]at this;cases this
    have hle : ∀j l,ops[j]?=some l->xe E l=true->(L j=true->j<i):=by
     intro j l a c p
     rcases Dw j i with h | h | h
     ·exact h
     ·subst h;rw[hi]at p;cases p
     ·have:=W0 Z (iB h)
      rw[d.quiet j l p a c]at this
      cases this
    have hg:(sts i).hp.get=gL E pc ops dep sts L ops.size:=by
     rw[JU (pc:=pc) hrun (iB N) R]
     exact Qa hR (iB N) λj l T a c _=>⟨hle j l a c,λhji=>D j l hji a c⟩
    refine⟨⟨by rw[hg];exact d.sim,?_,C,hnt⟩,by rw[hg];exact d.fwd,hle⟩
    exact MS (M:=M) (tc:=tc) (nt:=nt) hrun hD0 (iB N) R d.dom d.fwd.map λj l _ a c _=>hle j l a c
   ·have hki:k<=i:=by
     rcases fe i k with h | h
     ·rw[(d.upto i o B J).2 h]at hi;cases hi
     ·exact h
    have hst:(sts i).hp=(sts k).hp:=Mu hrun i hki (iB N) λj l hkj hji a=>by
     cases c:xe E l with
     | false=>rfl
     | true=>have:=(d.upto j l a c).1 (D j l hji a c);omega
    refine⟨⟨by rw[hst];exact d.sim,by rw[hst];exact d.dom,C,hnt⟩,by rw[hst];exact d.fwd,λj l a c p=>?_⟩
    have:=(d.upto j l a c).1 p
    omega
  obtain⟨hO,hF,hle⟩:=hO
  obtain⟨x,m,hx,z,hev⟩:=Jc S step
  refine D5 (E:=E) (Q:=Q) hO hpc htc (λh=>by cases h) (.inl rfl) hev λa' w' ⟨⟨M',A,hO',hF'⟩,hd'⟩=>hK a' w' ⟨hc',hd'.trans hds,M',A,m,?_,hO'.tr,hO'.nt,.inr ⟨i+1,?_⟩⟩
  ·exact tW hR.toRegB B n hi hTS hx z
  ·obtain⟨j0,o0,hj0,ho0,hw0⟩:=aej Z
   refine⟨N,⟨j0,o0,by omega,ho0,hw0⟩,λj l a c=>⟨λT=>?_,λT=>?_⟩,hO'.sim,hO'.dom,hF.trans hF'⟩
   ·rcases(n j).1 T with h | h
    ·exact Fm (hle j l a c h)
    ·omega
   ·rcases fe j i with h | h
    ·exact(n j).2 (.inl (D j l h a c))
    ·exact(n j).2 (.inr (by omega))
 | false=>
  have hnl:xe E o=true->lk E ops i=false:=by
   intro J
   rw[J,nu]at hb
   exact hb
  have hk:fI ops dep sts i=⟨dep,o.dst.getD 0,(sts i).hp.gen dep (o.dst.getD 0),0⟩:=by simp[fI,iQ,B]
  have still : ∀(u:Value)(x:AV)(m:List AV)(w':World)(M':Mem)(A:Map),newAt E pc ops dep sts i=[]->(G:(Vy E pc ops dep sts M ι w L M1 F w1->Vy E pc ops dep sts M ι w L M' A w') /\∀k,Late E ops sts M ι w L M1 F w1 k->Late E ops sts M ι w L M' A w' k) ->
   (xe E o=false \/∀k,¬Late E ops sts M ι w L M1 F w1 k)->dn nt (sts i).tm o.dst x=some (sts (i+1)).tm->dn nt tm1 o.dst x=some m->TR M' A m (a1.put o.dst u)->(a1.put o.dst u).tmps.size=nt ->
   Inv E pc nt ops dep sts M ι w ds L' (a1.put o.dst u) w':=by
   intro u x m w' M' A hnil hcs V hx z htr hn
   refine⟨hc',(put_defers _ _ _).trans hds,M',A,m,tW hR.toRegB B n hi hTS hx z,htr,hn,?_⟩
   rcases G with d | ⟨k,d⟩
   ·have I:=hcs.1 d
    have hg:gL E pc ops dep sts L' ops.size=gL E pc ops dep sts L ops.size:=by rw[UQ hR N n,hnil,m0]
    refine .inl ⟨λj l T a c=>?_,by rw[hg];exact I.sim,by rw[hg];exact I.fwd,λq hq Y=>I.dom q hq λj T p=>Y j T ((n j).2 (.inl p))⟩
    rcases(n j).1 T with h | h
    ·exact I.quiet j l h a c
    ·subst h;rw[B]at a;injection a with a;rw[<-a]at c;exact hnl c
   ·have I:=hcs.2 k d
    refine .inr ⟨k,I.le,I.wrote,λj l a c=>?_,I.sim,I.dom,I.fwd⟩
    rcases V with V | V
    ·rw[<-I.upto j l a c,n j]
     constructor
     ·rintro(h | h)
      ·exact h
      ·subst h;rw[B]at a;injection a with a;rw[<-a,V]at c;cases c
     ·exact .inl
    ·exact absurd d (V k)
  have X:xe E o=true ->∀k,¬Late E ops sts M ι w L M1 F w1 k:=by
   intro J k d
   obtain⟨j,l,hjk,a,hwj⟩:=d.wrote
   rcases fe i k with h | h
   ·rw[(d.upto i o B J).2 h]at hi;cases hi
   ·have:=P1 a hwj (show j<=i by omega)
    rw[hnl J]at this;cases this
  have V:xe E o=false \/∀k,¬Late E ops sts M ι w L M1 F w1 k:=by
   cases J:xe E o with
   | false=>exact .inl rfl
   | true=>exact .inr (X J)
  rcases oo step with ⟨R,tm',ht,he⟩ | ⟨R,x,bs,hq,tm',ht,he⟩ | hwk'
  ·rw[<-hwd]at R
   rw[kW C R]
   simp only[jH,if_false]
   have hx:dn nt (sts i).tm o.dst AV.undef=some (sts (i+1)).tm:=by rw[he];exact ht
   obtain⟨m,z⟩:=k6 (tm1:=tm1) hx
   obtain⟨h1,h2⟩:=C.put hnt z (u:=undef) (.v rfl)
   refine hK _ _ (still undef AV.undef m w1 M1 F ?_ ⟨id,λ_=>id⟩ V hx z h1 h2)
   unfold newAt
   rw[B]
   rw[hwd]at R
   simp only[R]
   split<;>rfl
  ·have hw':=R
   rw[<-hwd]at R
   rw[kW C R]
   simp only[if_true]
   have hx:dn nt (sts i).tm o.dst x=some (sts (i+1)).tm:=by rw[he];exact ht
   obtain⟨m,z⟩:=k6 (tm1:=tm1) hx
   cases J:xe E o with
   | false=>
    obtain⟨hbs,hall⟩:=xT J hq
    subst hbs
    have hnil:newAt E pc ops dep sts i=[]:=by
     unfold newAt
     rw[B]
     simp[J]
    rcases G with d | ⟨k,d⟩
    ·have U : ∀k,F { (⟨dep+1,0,(sts 0).hp.gen (dep+1) 0,0⟩:Ref)with k:=k}=none:=λk=>d.dom _ (hD0.fresh _ _ k) λj _ _ hm=>by
      have:=hm.1
      simp only[fI]at this
      omega
     have hq':ct E pc true (gL E pc ops dep sts L ops.size) tm1 ⟨dep+1,0,(sts 0).hp.gen (dep+1) 0,0⟩ o=some (x,[]):=by rw[tw hag];exact hall _ _
     refine xZ (E:=E) (o:=o) d.sim C rfl U hpc (λh=>by cases h) hq' ro K Q λu w' ⟨M',A,h1,h2,h3,h4⟩=>hK _ _ ?_
     rw[m0]at h2 h3
     obtain⟨h5,h6⟩:=(C.mono h3.mem h3.map).put hnt z h1
     refine still u x m w' M' A hnil ⟨λ_=>⟨d.quiet,h2,d.fwd.trans h3,λq hq Y=>h4 q (d.dom q hq Y) (λk hk=>by simp at hk)⟩,λk hl=>?_⟩ (.inl J) hx z h5 h6
     obtain⟨j,l,hjk,a,hwj⟩:=hl.wrote
     have:=pt (d.quiet j l ((hl.upto j l a (gC hwj)).2 hjk) a (gC hwj)) a (bD _)
     rw[hwj]at this;cases this
    ·have hq':ct E pc true (sts k).hp.get tm1 ⟨dep,0,(sts k).hp.gen dep 0,0⟩ o=some (x,[]):=by rw[tw hag];exact hall _ _
     refine xZ (E:=E) (o:=o) d.sim C rfl (λk'=>d.dom.fresh dep 0 k') hpc (λh=>by cases h) hq' ro K Q λu w' hout=>hK _ _ ?_
     obtain⟨M',A,h1,h2,h3,h4⟩:=hout.toW d.dom
     rw[RI]at h2 h3 h4
     obtain⟨h5,h6⟩:=(C.mono h3.mem h3.map).put hnt z h1
     refine⟨hc',(put_defers _ _ _).trans hds,M',A,m,tW hR.toRegB B n hi hTS hx z,h5,h6,.inr ⟨k,d.le,d.wrote,λj l a c=>?_,h2,h4,d.fwd.trans h3⟩⟩
     rw[<-d.upto j l a c,n j]
     constructor
     ·rintro(h | h)
      ·exact h
      ·subst h;rw[B]at a;injection a with a;rw[<-a,J]at c;cases c
     ·exact .inl
   | true=>
    rcases G with d | ⟨k,d⟩
    ·have hlk:=hnl J
     have Z:=pt hlk B (bD _)
     have hnw:=Um B J hlk
     have hbs:newAt E pc ops dep sts i=bs:=by
      unfold newAt
      rw[B]
      simp only[hw',hk,hq,J,hlk,BI,zY,if_true]
     rw[<-hk,JU (pc:=pc) hrun (iB N) hnw]at hq
     have hloc:Dn F (gF (sts 0).hp.get (fI ops dep sts) (newAt E pc ops dep sts) (λ_=>true) i) (gL E pc ops dep sts L ops.size):=by
      intro q b hg hne
      have W : ∀i j,mt (fI ops dep sts) (newAt E pc ops dep sts) i q->mt (fI ops dep sts) (newAt E pc ops dep sts) j q->i=j:=λi j=>Kf hR i j
      by_cases hex : ∃j,mt (fI ops dep sts) (newAt E pc ops dep sts) j q
      ·obtain⟨j,hjm⟩:=hex
       have hf:ι q=none:=Ur (tc:=tc) (nt:=nt) hR hrun hD0 hjm
       have hjs:j<ops.size:=by
        have:newAt E pc ops dep sts j≠[]:=by
         intro e
         have:=hjm.2.2.2
         rw[e]at this
         simp at this
        obtain⟨l,a,_⟩:=tn this
        exact(ij.1 a).1
       cases p:L j with
       | false=>exact absurd (d.dom q hf λi' _ hL O=>by rw[W i' j O hjm,p]at hL;cases hL) hne
       | true=>
        by_cases hji:j<i
        ·rw[BR W hjm rfl _ hji]at hg
         rw[gL,BR W hjm p _ hjs];exact hg
        ·rw[sS _ (λi' hi' _ O=>by have:=W i' j O hjm;omega),hS0.WW hf]at hg
         cases hg
      ·rw[sS _ (λi' _ _ O=>hex ⟨i',O⟩)]at hg
       rw[gL,sS _ (λi' _ _ O=>hex ⟨i',O⟩)]
       exact hg
     rw[<-tw hag]at hq
     have hq':=D4 d.sim hloc C hq
     have U : ∀k,F { fI ops dep sts i with k:=k}=none:=λk=>d.dom _ (I4 (pc:=pc) (tc:=tc) (nt:=nt) hR hrun hD0 B J Z hnw k) λj _ p hm=>by
      have hne:newAt E pc ops dep sts j≠[]:=by
       intro e
       have:=hm.2.2.2
       rw[e]at this
       simp at this
      obtain⟨l,a,c,hnj⟩:=tn hne
      obtain⟨dj,hdj⟩:=gH.1 (hR.site j l a c (pt hnj a (bD _)))
      obtain⟨di,hdi⟩:=gH.1 (hR.site i o B J Z)
      have:di=dj:=by have:=hm.2.1;simpa [fI,iQ,a,hdj,B,hdi] using this
      have:=hR.distinct i j o l di B a hdi (by rw[hdj,this])
      subst this
      rw[hi]at p;cases p
     refine xZ (E:=E) (o:=o) d.sim C (by simp[fI]) U hpc (λh=>by cases h) hq' ro K Q λu w' ⟨M',A,h1,h2,h3,h4⟩=>hK _ _ ?_
     obtain⟨h5,h6⟩:=(C.mono h3.mem h3.map).put hnt z h1
     have hg':gL E pc ops dep sts L' ops.size=sM (gL E pc ops dep sts L ops.size) (fI ops dep sts i) bs:=by rw[UQ hR N n,hbs]
     refine⟨hc',(put_defers _ _ _).trans hds,M',A,m,tW hR.toRegB B n hi hTS hx z,h5,h6,.inl ⟨λj l T a c=>?_,by rw[hg'];exact h2,by rw[hg'];exact d.fwd.trans h3,λq hq Y=>?_⟩⟩
     ·rcases(n j).1 T with h | h
      ·exact d.quiet j l h a c
      ·subst h;exact hlk
     ·refine h4 q (d.dom q hq λj T p=>Y j T ((n j).2 (.inl p))) λk hk' e=>?_
      refine Y i N ((n i).2 (.inr rfl)) ?_
      rw[e]
      exact⟨rfl,rfl,rfl,by rw[hbs];exact hk'⟩
    ·exact absurd d (X J k)
  ·have h1:=hnl (gC hwk')
   rw[P1 B hwk' (bD i)]at h1;cases h1
include hR hrun in
theorem P7(A:tB ι (sts 0).hp){L:Nat->Bool}(c : ∀i,i<ops.size->L i=true){a y:Act}{G:World}(q:a.defers=ds)(H:Inv E pc nt ops dep sts M ι w ds L y G):kV M ι (sts 0) a w nt (sts ops.size) y G:=by
 obtain⟨Q,x,B,h,tm1,C,D,v,m⟩:=H
 have z : ∀t,cY tm1 t=cY (sts ops.size).tm t:=by
  intro t
  obtain⟨J,K⟩:=C t
  obtain⟨O,N⟩:=JS hR.toRegB hrun ops.size (bD _) t
  by_cases n : ∃j,j<ops.size/\iQ ops j=some t
  ·obtain⟨j,b,p⟩:=n
   rw[J j b (c j b) p,O j b (by simpa using b) p]
  ·rw[K λj b _ p=>n ⟨j,b,p⟩,N λj b _ p=>n ⟨j,b,p⟩]
 have f:TR B h (sts ops.size).tm y:=⟨λt=>by rw[<-z];exact D.at_ t⟩
 rcases m with d | ⟨k,d⟩
 ·have u:Yc E ops ops.size:=λj o b e=>by
   cases u:jj E o with
   | false=>rfl
   | true=>have:=pt (d.quiet j o (c j b) e (gC u)) e (bD _);rw[u]at this;cases this
  have F:(sts ops.size).hp.get=gL E pc ops dep sts L ops.size:=by
   rw[JU (pc:=pc) hrun (bD _) u]
   exact Qa hR (bD _) λj o b _ _ _=>⟨λ_=>b,λ_=>c j b⟩
  refine⟨⟨B,h,⟨by rw[F];exact d.sim,?_,f,v⟩,by rw[F];exact d.fwd⟩,x.trans q.symm⟩
  exact MS (M:=M) (tc:=tc) (nt:=nt) hrun A (bD _) u d.dom d.fwd.map λj o b _ _ _ _=>b
 ·have l:(sts ops.size).hp=(sts k).hp:=Mu hrun ops.size d.le (bD _) λj o I b e=>by
   cases P:xe E o with
   | false=>rfl
   | true=>have:=(d.upto j o e P).1 (c j b);omega
  exact⟨⟨B,h,⟨by rw[l];exact d.sim,by rw[l];exact d.dom,f,v⟩,by rw[l];exact d.fwd⟩,x.trans q.symm⟩
include hR in
theorem BV{a:Array Bool}(p:a.size=ops.size)(h:Region.ready .any ops a=[]) : ∀i,i<ops.size->a.getD i false=true:=by
 intro i
 induction i using Nat.strongRecOn with | ind i j=>
 intro l
 cases n:a.getD i false with
 | true=>rfl
 | false=>
  exfalso
  have f:=jS l
  have d:a.getD i true=false:=by
   have:i<a.size:=by omega
   simpa [Array.getD,this] using n
  have:i∈Region.ready .any ops a:=by
   rw[mem_ready]
   refine⟨d,_,f,λe m k=>?_⟩
   have b:e.on∈eI ops[i]:=by
    unfold eI
    exact r8.2 ⟨e,Fl.2 ⟨by simpa using m,k⟩,rfl⟩
   have c:=hR.edges i _ f _ b
   exact j e.on c (by omega)
  rw[h]at this
  cases this
include hR hrun in
theorem aaT(R : ∀f xs y,pc f xs=some y->kJ E.P f xs y)(I : ∀f xs H y H',tc f xs H=some (y,H')->qv E.P f xs H y H'){ro:Option Nat}{a0:Act}(u:a0.defers=ds){Q:Exit->Act->World->Prop}
 (O:gA M ι (sts 0).hp.get w) (m:tB ι (sts 0).hp) (V : ∀G w',kV M ι (sts 0) a0 w nt (sts ops.size) G w'->Q .normal G w') : ∀(b:Nat)(a:Array Bool)(C:Act)(D:World),a.size=ops.size ->
 (List.range ops.size).countP (λi => !a.getD i false)<=b->Inv E pc nt ops dep sts M ι w ds (λi=>a.getD i false) C D->wpAnyIn (FW ro) 0 E.P .any ops Q b a C D:=by
 intro b
 induction b with
 | zero=>
  intro a C D q hf B
  have c : ∀i,i<ops.size->a.getD i false=true:=by
   intro i h
   cases T:a.getD i false with
   | true=>rfl
   | false=>
    exfalso
    have:0<(List.range ops.size).countP (λi => !a.getD i false):=List.countP_pos_iff.2 ⟨i,xl.2 h,by rw[T];rfl⟩
    omega
  refine⟨?_,V _ _ (P7 hR hrun m c u B)⟩
  refine Sv.2 λi h=>?_
  rw[mem_ready]at h
  obtain⟨x,o,A,_⟩:=h
  have k:i<ops.size:=(ij.1 A).1
  have F:=c i k
  have:i<a.size:=by omega
  simp[Array.getD,this]at x F
  rw[F]at x
  cases x
 | succ b ih=>
  intro a C D q hf B
  refine⟨λX=>V _ _ (P7 hR hrun m (BV hR q X) u B),λi h=>?_⟩
  rw[mem_ready]at h
  obtain⟨x,o,A,U⟩:=h
  have k:i<ops.size:=(ij.1 A).1
  have z:i<a.size:=by omega
  have v:a.getD i false=false:=by simpa [Array.getD,z] using x
  have t : ∀e∈eI o,(λi=>a.getD i false) e=true:=by
   intro e W
   unfold eI at W
   obtain⟨d,Z,rfl⟩:=r8.1 W
   obtain⟨F,Y⟩:=Fl.1 Z
   exact U d (by simpa using F) Y
  have l : ∀j,(λj=>(a.setIfInBounds i true).getD j false) j=true↔((λj=>a.getD j false) j=true\/j=i):=by
   intro j
   simp only
   by_cases n:j=i
   ·subst n
    simp[z]
   ·rw[getD_set_ne false (sA n)]
    simp[n]
  have:=UL (E:=E) (tc:=tc) (ro:=ro) (K:=wpAnyIn (FW ro) 0 E.P .any ops Q b (a.setIfInBounds i true)) (Q:=Q) hR hrun R I O m (L:=λi=>a.getD i false) A v t l B λG w' J=>by
   refine ih _ G w' (by simp[q]) ?_ J
   have:=EG (p:=λj => !a.getD j false) (p':=λj => !(a.setIfInBounds i true).getD j false) (i:=i) (λj N=>by
    simp only[dQ]at N ⊢
    cases T:a.getD j false with
    | false=>rfl
    | true=>have:=(l j).2 (.inl T);simp only at this;rw[this]at N;cases N) (by simp only[v,BI]) (by have:=(l i).2 (.inr rfl);simp only at this ⊢;rw[this];rfl) (List.range ops.size) (xl.2 k)
   omega
  unfold wpOpIn
  rw[A]
  simp only
  split
  ·rename_i S
   rw[if_pos S]at this
   exact this
  ·rename_i S
   rw[if_neg S]at this
   exact⟨λ_ _=>trivial,this⟩
end
theorem U4{E:Env}(I:E.P.follows .mixedOrders=true){ops:Array Oper}(v:CC E ops=true){pc:FuncId->List AV->Option AV}(u : ∀f xs y,pc f xs=some y->kJ E.P f xs y)
 {tc:xd->List AV->ai->dv} (p : ∀f xs H y H',tc f xs H=some (y,H')->qv E.P f xs H y H') {nt dep id:Nat} {st d:St} {M:Mem} {ι:Map} {a:Act} {w:World} {ro:Option Nat} {Q:Exit->Act->World->Prop}
 (h:ng E pc tc nt dep true ops ops.toList st=some d) (j:vH M ι st nt a w) (B : ∀m w',kV M ι st a w nt d m w'->Q .normal m w'):(Code.region id ops true).wpIn (FW ro) 0 E.P Q a w:=by
 obtain⟨sts,C,z,F⟩:=Gv ops.toList st d h
 rw[Ca]at z
 have hR:=LF v
 have hrun : ∀i o,ops[i]?=some o->evalOp E pc tc nt dep true ops o (sts i)=some (sts (i+1)):=λi o G=>F i o (by simpa using G)
 subst C
 refine wpIn_region_any I ?_
 have x:tA M ι (sts 0).hp.get w M ι (sts 0).hp.get { w with drawn:=w.drawn+1} :=
  ⟨rfl,rfl,rfl,bD _,λ_ _ _=>rfl,λ_ _ _ h=>h,λ_ _ h=>h,λr k l h D => .inr ⟨r,k,l,h,D,rfl⟩,λ_ _ _ h => .inl h⟩
 have c : ∀i,(Array.replicate ops.size false).getD i false=false:=by
  intro i
  simp only[Bh,JE]
  split<;>rfl
 have b : ∀n,gF (sts 0).hp.get (fI ops dep sts) (newAt E pc ops dep sts) (λi=>(Array.replicate ops.size false).getD i false) n=(sts 0).hp.get:=by
  intro n
  funext q
  refine sS n λi _ e=>?_
  exact absurd ((c i).symm.trans e) (by simp)
 refine aaT (tc:=tc) (M:=M) (ι:=ι) (w:=w) (a0:=a) hR hrun u p rfl j.sim j.dom (λm w' A=>B m w' (z ▸ A)) ops.size _ a _ (by simp) ?_ ?_
 ·exact uA List.countP_le_length (by simp)
 ·refine⟨λi o e=>?_,rfl,M,ι,(sts 0).tm,?_,j.tr,j.nt,.inl ⟨λi o e=>?_,?_,?_,λq J _=>J⟩⟩
  ·exact absurd ((c i).symm.trans e) (by simp)
  ·exact λt=>⟨λi _ e=>absurd ((c i).symm.trans e) (by simp),λ_=>rfl⟩
  ·exact absurd ((c i).symm.trans e) (by simp)
  ·rw[gL,b];exact j.sim.drew rfl
  ·rw[gL,b];exact x
end Go.Ab
