/-
  What a quiet operation of the abstract machine looks at. No statement of a seat is proved here.
-/
import Derived.Test.YtmkmimgokagimaaGreatAbsWalk
set_option linter.unusedVariables false
set_option linter.unusedSimpArgs false
set_option linter.unusedSectionVars false
set_option linter.unnecessarySimpa false
namespace Go.Ab
section
theorem mapM_congr{b e:Type}{f c:b->Option e} : ∀ {l:List b},(∀x∈l,f x=c x)->l.mapM f=l.mapM c:=by
 intro l
 induction l with
 | nil=>intro _;rfl
 | cons a l d=>
  intro h
  simp only[nY]
  rw[h a (jB ..),d λx j=>h x (iA _ j)]
def EN(tm tm':List AV)(xs:List Operand):Prop :=∀x∈xs,aK tm x=aK tm' x
theorem u9{tm tm':List AV}{ps:List (Nat × Operand)}(h : ∀p∈ps,aK tm p.2=aK tm' p.2):jc tm ps=jc tm' ps:=by
 unfold jc
 exact mapM_congr λp hp=>by obtain⟨i,o⟩:=p;simp only[h (i,o) hp]
theorem Aq{tm tm':List AV}{x:Option Operand}(h : ∀y,x=some y->aK tm y=aK tm' y):mG tm x=mG tm' x:=by
 cases x with
 | none=>rfl
 | some y=>simp only[mG,h y rfl]
theorem uU{E:Env}{pc:FuncId->List AV->Option AV}{q:Bool}{g:cX}{tm tm':List AV}{r:Ref}{o:Oper}(h:EN tm tm' o.op.operands.toList) :
 cz E pc q g tm r o=cz E pc q g tm' r o:=by
 unfold EN at h
 unfold cz
 split
 ·rename_i x j;rw[j]at h;simp only[Op.operands]at h;rw[h x (by simp)]
 ·rename_i x j;rw[j]at h;simp only[Op.operands]at h;rw[h x (by simp)]
 ·rename_i c a b j;rw[j]at h;simp only[Op.operands]at h;simp only[IL];rw[h c (by simp),h a (by simp),h b (by simp)]
 ·rfl
 ·rename_i e x j;rw[j]at h;simp only[Op.operands]at h;rw[h x (by simp)]
 ·rename_i t ps j;rw[j]at h;simp only[Op.operands]at h;rw[u9 λp hp=>h p.2 (by simp;exact⟨p.1,by simpa using hp⟩)]
 ·rename_i t n ps j;rw[j]at h;simp only[Op.operands]at h;rw[u9 λp hp=>h p.2 (by simp;exact⟨p.1,by simpa using hp⟩)]
 ·rename_i t x j;rw[j]at h;simp only[Op.operands]at h;rw[h x (by simp)]
 ·rename_i x j;rw[j]at h;simp only[Op.operands]at h;rw[h x (by simp)]
 ·rename_i v t x y ty j;rw[j]at h;simp only[Op.operands]at h;rw[h x (by simp),h y (by simp)]
 ·rename_i v t x j;rw[j]at h;simp only[Op.operands]at h;rw[h x (by simp)]
 ·rename_i s d x j;rw[j]at h;simp only[Op.operands]at h;rw[h x (by simp)]
 ·rename_i t x j;rw[j]at h;simp only[Op.operands]at h;rw[h x (by simp)]
 ·rename_i f a b j;rw[j]at h;simp only[Op.operands]at h;rw[mapM_congr λx m=>h x (by simp at m ⊢;exact .inl m),mapM_congr λx m=>h x (by simp at m ⊢;exact .inr m)]
 ·rename_i t l c j;rw[j]at h;simp only[Op.operands]at h;rw[h l (by simp),h c (by simp)]
 ·rfl
 ·rename_i t x k ok j;rw[j]at h;simp only[Op.operands]at h;rw[h x (by simp),h k (by simp)]
 ·rename_i t x G D z j
  rw[j]at h
  simp only[Op.operands]at h
  rw[h x (by simp),Aq (x:=G) λy u=>h y (by simp[u]),Aq (x:=D) λy u=>h y (by simp[u]),Aq (x:=z) λy u=>h y (by simp[u])]
 ·rename_i t x f j;rw[j]at h;simp only[Op.operands]at h;rw[h x (by simp)]
 ·rename_i t x f j;rw[j]at h;simp only[Op.operands]at h;rw[h x (by simp)]
 ·rename_i t x y j;rw[j]at h;simp only[Op.operands]at h;rw[h x (by simp),h y (by simp)]
 ·rename_i t x y j;rw[j]at h;simp only[Op.operands]at h;rw[h x (by simp),h y (by simp)]
 ·rename_i x t H ok j;rw[j]at h;simp only[Op.operands]at h;rw[h x (by simp)]
 ·rename_i x i j;rw[j]at h;simp only[Op.operands]at h;rw[h x (by simp)]
 ·rename_i c j
  rw[j]at h
  simp only[Op.operands,Call.operands]at h
  rw[mapM_congr (l:=c.args.toList) λx m=>h x (by simp at m ⊢;exact .inr m)]
  split
  ·rfl
  ·split
   ·rename_i f F;rw[h f (by simp[F])]
   ·rfl
   ·rfl
 ·rfl
theorem WU{E:Env}{pc:FuncId->List AV->Option AV}{tc:yD->List AV->aa->dz}{H:aa}{tm tm':List AV}{r:Ref}{o:Oper}(h:EN tm tm' o.op.operands.toList) :
 evalW E pc tc H tm r o=evalW E pc tc H tm' r o:=by
 unfold EN at h
 unfold evalW
 generalize o.op=op at h ⊢
 cases op<;>try rfl
 case store t x y=>simp only[Op.operands]at h;simp only;rw[h x (by simp),h y (by simp)]
 case mapUpdate t m k y=>simp only[Op.operands]at h;simp only;rw[h m (by simp),h k (by simp),h y (by simp)]
 case insert t m k y=>simp only[Op.operands]at h;simp only;rw[h m (by simp),h k (by simp),h y (by simp)]
 case mapEntry t m k=>simp only[Op.operands]at h;simp only;rw[h m (by simp),h k (by simp)]
 case entryStore t m k y=>simp only[Op.operands]at h;simp only;rw[h m (by simp),h k (by simp),h y (by simp)]
 case buildSlice t n ps=>simp only[Op.operands]at h;simp only;rw[u9 λp hp=>h p.2 (by simp;exact⟨p.1,by simpa using hp⟩)]
 case makeChan t n=>simp only[Op.operands]at h;simp only;rw[h n (by simp)]
 case send c x=>simp only[Op.operands]at h;simp only;rw[h c (by simp),h x (by simp)]
 case recv t c b=>simp only[Op.operands]at h;simp only;rw[h c (by simp)]
 case call c=>
  simp only[Op.operands,Call.operands]at h
  simp only
  rw[mapM_congr (l:=c.args.toList) λx a=>h x (by simp at a ⊢;exact .inr a)]
  split
  ·rfl
  ·split
   ·rename_i f d;rw[h f (by simp[d])]
   ·rfl
   ·rfl
def EV(ι:Map)(g C:cX):Prop :=∀q k,g q=some k->ι q≠none->C q=some k
section
variable{M:Mem}{ι:Map}{g C:cX}{w:World}
theorem Zv{l:Loc}{k:bw}(d:gq M ι w l k){e:AV}(h:e∈k.es) : ∃u,VR M (k.map ι) e u:=by
 obtain⟨i,c,a⟩:=tD h
 have f:=d.cell i (by rw[fj c,a])
 obtain⟨us,b,_,_⟩:=f.values
 cases e with
 | agg cs=>exact⟨.agg us.toArray,VR.sS.2 (by simpa [AV.cells] using b)⟩
 | _=>
  have j:=b.1
  obtain⟨u,rfl⟩:=Mg j.symm
  exact⟨u,b.2 0 _ u rfl rfl⟩
theorem Om{f c:AV->Option AV}{l e:List AV}(h:l.mapM f=some e)(k : ∀x∈l,∀y,f x=some y->c x=some y):l.mapM c=some e:=by
 rw[<-h]
 refine mapM_congr λx d=>?_
 obtain⟨i,j,a⟩:=tD d
 obtain⟨y,_,b⟩:=lL h i x (by rw[fj j,a])
 rw[b,k x d y b]
theorem wy{b e:Type}{f c:b->List e} : ∀ {l:List b},(∀x∈l,f x=c x)->l.flatMap f=l.flatMap c:=by
 intro l
 induction l with
 | nil=>intro _;rfl
 | cons a l d=>
  intro h
  rw[AP,AP,h a (jB ..),d λx j=>h x (iA _ j)]
theorem yP(hS:iv M ι C w)(hL:EV ι g C) : ∀(n:Nat)(x y:AV)(u:Value)(k:Mem),view g n x=some y->VR k ι x u->view C n x=some y/\ao C n x=ao g n x /\∀r∈ao g n x,ι r≠none:=by
 intro n
 induction n with
 | zero=>intro x y u k h;simp[view]at h
 | succ n Q=>
  intro x y u k h hv
  have e : ∀ {cs ys:List AV},cs.mapM (view g n)=some ys->(∀c∈cs,∃u k,VR k ι c u)->cs.mapM (view C n)=some ys/\cs.flatMap (ao C n)=cs.flatMap (ao g n) /\∀r∈cs.flatMap (ao g n),ι r≠none:=by
   intro cs ys p J
   refine⟨Om p λc t y L=>?_,wy λc t=>?_,?_⟩
   ·obtain⟨u,k,hu⟩:=J c t
    exact(Q c y u k L hu).1
   ·obtain⟨u,k,hu⟩:=J c t
    obtain⟨i,O,z⟩:=tD t
    obtain⟨y,_,L⟩:=lL p i c (by rw[fj O,z])
    exact(Q c y u k L hu).2.1
   ·intro r D
    obtain⟨c,t,D⟩:=tC.1 D
    obtain⟨u,k,hu⟩:=J c t
    obtain⟨i,O,z⟩:=tD t
    obtain⟨y,_,L⟩:=lL p i c (by rw[fj O,z])
    exact(Q c y u k L hu).2.2 r D
  have inl : ∀ {cs:List AV} {R:Array Value},cs.length=R.size->(∀(i:Nat) c u,cs[i]?=some c->R[i]?=some u->VR k ι c u) ->∀c∈cs,∃u k,VR k ι c u:=by
   intro cs R P K c t
   obtain⟨i,O,z⟩:=tD t
   exact⟨R[i]'(by omega),k,K i c _ (by rw[fj O,z]) (ku (by omega))⟩
  cases hv with
  | v hs=>simp[view]at h;subst h;simp[view,ao]
  | agg P K=>
   simp only[view,bN]at h
   obtain⟨ys,p,rfl⟩:=h
   obtain⟨I,H,G⟩:=e p (inl P K)
   exact⟨by simp[view,I],by simp only[ao];exact H,by simp only[ao];exact G⟩
  | tup h0 P K=>
   simp only[view,bN]at h
   obtain⟨ys,p,rfl⟩:=h
   obtain⟨I,H,G⟩:=e p (inl P K)
   exact⟨by simp[view,I],by simp only[ao];exact H,by simp only[ao];exact G⟩
  | cD=>simp[view]at h;subst h;simp[view,ao]
  | iptr=>simp[view]at h;subst h;simp[view,ao]
  | cG D hb hs ha t hn hk N=>
   rename_i r off len cap l a c
   simp only[view]at h
   split at h
   ·rename_i b m
    have:=hL r b m (by rw[D];simp)
    exact⟨by simp only[view,this];exact h,by simp[ao],by intro q f;simp only[ao,vS]at f;rw[f,D];simp⟩
   ·cases h
  | ptr D N=>
   rename_i r i j l
   simp only[view]at h
   split at h
   ·rename_i b m
    have F:=hL r b m (by rw[D];simp)
    cases d:b.arr with
    | true=>
     rw[d]at h
     exact⟨by simp only[view,F,d];exact h,by simp[ao,F,m,d],by intro q f;simp[ao,m,d]at f;rw[f,D];simp⟩
    | false=>
     rw[d]at h
     simp only[mr,if_false,bN]at h
     obtain⟨es,Z,rfl⟩:=h
     have S:=hS.at D N F
     obtain⟨I,H,G⟩:=e Z λc t=>by
      obtain⟨u,hu⟩:=Zv S t
      rw[bw.map,d]at hu
      exact⟨u,M,by simpa using hu⟩
     exact⟨by simp[view,F,d,I],by simp only[ao,F,m,d];rw[if_neg (by simp),if_neg (by simp),H],by
      intro q f
      simp only[ao,m,d]at f
      rw[if_neg (by simp)]at f
      rcases nB.1 f with rfl | f
      ·rw[D];simp
      ·exact G q f⟩
   ·cases h
  | fn X hlb V U=>
   simp only[view]at h
   split at h
   ·rename_i a' b' W Y
    cases h
    obtain⟨I,H,h5⟩:=e W (inl X V)
    obtain⟨G,h4,h6⟩:=e Y (inl hlb U)
    exact⟨by simp[view,I,G],by simp only[ao];rw[H,h4],by
     intro q f
     simp only[ao,oH]at f
     rcases f with f | f
     ·exact h5 q f
     ·exact h6 q f⟩
   ·cases h
  | yld=>simp[view]at h
  | mp=>simp[view]at h
  | ch=>simp[view]at h
  | ifc K=>
   simp only[view,bN]at h
   obtain⟨y',T,rfl⟩:=h
   obtain⟨I,H,G⟩:=Q _ y' _ k T K
   exact⟨by simp[view,I],by simp only[ao];exact H,by simp only[ao];exact G⟩
theorem Sx(f:iv M ι C w)(j:EV ι g C){xs ys:List AV}{us:List Value}(h:xs.mapM (view g depth)=some ys)(l:mA M ι xs us):xs.mapM (view C depth)=some ys/\ck C xs=ck g xs /\∀r∈ck g xs,ι r≠none:=by
 have inl : ∀c∈xs,∃u,VR M ι c u:=by
  intro c b
  obtain⟨i,d,a⟩:=tD b
  have m:=l.1
  exact⟨us[i]'(by omega),l.2 i c _ (by rw[fj d,a]) (fj (by omega))⟩
 refine⟨Om h λc b y e=>?_,wy λc b=>?_,?_⟩
 ·obtain⟨u,hu⟩:=inl c b
  exact(yP f j depth c y u M e hu).1
 ·obtain⟨u,hu⟩:=inl c b
  obtain⟨i,d,a⟩:=tD b
  obtain⟨y,_,e⟩:=lL h i c (by rw[fj d,a])
  exact(yP f j depth c y u M e hu).2.1
 ·intro r k
  obtain⟨c,b,k⟩:=tC.1 k
  obtain⟨u,hu⟩:=inl c b
  obtain⟨i,d,a⟩:=tD b
  obtain⟨y,_,e⟩:=lL h i c (by rw[fj d,a])
  exact(yP f j depth c y u M e hu).2.2 r k
theorem JA(d:EV ι g C){R:List Ref}(B : ∀r∈R,ι r≠none)(h:kB g R=true):kB C R=true:=by
 simp only[kB,gy]at h ⊢
 intro r c
 have:=h r c
 cases a:g r with
 | none=>rw[a]at this;simp at this
 | some b=>rw[a]at this;rw[d r b a (B r c)];exact this
theorem Gn(a:EV ι g C){x:AV}{u:Value}(e:VR M ι x u){p:Nat × List AV}(h:cT g x=some p):cT C x=some p:=by
 cases e with
 | cG c=>
  simp only[cT]at h ⊢
  split at h
  ·rename_i b d
   rw[a _ b d (by rw[c];simp)]
   exact h
  ·cases h
 | v f=>cases ‹Value› <;> simp_all [cT]
 | cD=>exact h
 | _=>simp[cT]at h
theorem CF(l:iv M ι C w)(m:EV ι g C){b n:List (Nat × AV)}(h:eb g b=some n)(D : ∀p∈b,∃u,VR M ι p.2 u) :
 eb C b=some n/\ck C (b.map (·.2))=ck g (b.map (·.2)) /\∀r∈ck g (b.map (·.2)),ι r≠none:=by
 have a : ∀p∈b,∃y u,view g depth p.2=some y/\VR M ι p.2 u:=by
  intro p hp
  obtain⟨i,t,e⟩:=tD hp
  obtain⟨y,_,q⟩:=lL h i p (by rw[fj t,e])
  obtain⟨u,hu⟩:=D p hp
  obtain⟨k,x⟩:=p
  simp only[bN]at q
  obtain⟨z,v,_⟩:=q
  exact⟨z,u,v,hu⟩
 refine⟨?_,?_,?_⟩
 ·unfold eb at h ⊢
  rw[<-h]
  refine mapM_congr λp hp=>?_
  obtain⟨y,u,c,d⟩:=a p hp
  obtain⟨k,x⟩:=p
  simp only at c d
  simp only[c,(yP l m depth x y u M c d).1]
 ·unfold ck
  refine wy λx j=>?_
  obtain⟨p,hp,rfl⟩:=vd.1 j
  obtain⟨y,u,c,d⟩:=a p hp
  exact(yP l m depth p.2 y u M c d).2.1
 ·intro r f
  obtain⟨x,j,f⟩:=tC.1 f
  obtain⟨p,hp,rfl⟩:=vd.1 j
  obtain⟨y,u,c,d⟩:=a p hp
  exact(yP l m depth p.2 y u M c d).2.2 r f
theorem V2{tm:List AV}{a:Act}(f:TR M ι tm a){ps:List (Nat × Operand)}{c:List (Nat × AV)}(h:jc tm ps=some c) : ∀p∈c,∃u,VR M ι p.2 u:=by
 intro p hp
 obtain⟨j,d⟩:=vC (ι:=ι) f h
 obtain⟨i,e,b⟩:=tD hp
 exact⟨_,(d i p _ (by rw[fj e,b]) (fj (by omega))).2⟩
theorem Oh{P:Program}(d:iv M ι C w)(f:EV ι g C){t:TypeId}{n:Nat}{c:List (Nat × AV)}{b:bw}(h:mkSlice P g t n c=some b)(l : ∀p∈c,∃u,VR M ι p.2 u):mkSlice P C t n c=some b:=by
 unfold mkSlice at h ⊢
 split at h
 ·cases h
 ·rename_i e j
  try simp only[j]
  split at h
  ·rename_i q z s a k m
   try simp only[(CF d f a l).1,k,m]
   exact h
  ·cases h
theorem J9{P:Program}{t:TypeId}{n:Nat}{d:List (Nat × AV)}{b:bw}(h:mkSlice P g t n d=some b) : ∃a,eb g d=some a:=by
 unfold mkSlice at h
 split at h
 ·cases h
 ·split at h
  ·rename_i a z s c e f;exact⟨a,c⟩
  ·cases h
theorem KL{P:Program}(a:EV ι g C){e:TypeId}{x:AV}{u:Value}(b:VR M ι x u){p:Nat × List AV}(h:ql P g e x=some p):ql P C e x=some p:=by
 unfold ql at h ⊢
 split at h
 ·exact h
 ·exact h
 ·rename_i d c
  exact Gn a b h
theorem N5{P:Program}(k:EV ι g C){r:Ref}{t t':Option TypeId}{s x:AV}{us y:Value}(u:VR M ι s us)(n:VR M ι x y){c:AV × List bw}(h:jL P g r t t' s x=some c):jL P C r t t' s x=some c:=by
 unfold jL at h ⊢
 split at h
 ·cases h
 ·rename_i e p
  try simp only[p]
  split at h
  ·cases h
  ·rename_i m
   rw[if_neg m]
   split at h
   ·rename_i z D G I new q F d a
    try simp only[q,F,d,KL k n a]
    split at h
    ·cases h
    ·rename_i f
     rw[if_neg f]
     cases u with
     | cG l=>
      simp only at h ⊢
      split at h
      ·rename_i b j
       rw[k _ b j (by rw[l];simp)]
       exact h
      ·cases h
     | v H=>(split at h)<;>first | exact h | cases h | simp_all
     | _=>exact h
   ·cases h
theorem KO(c:EV ι g C){r:Ref}(d:ι r≠none){ents:List AV}(h:kn g r=some ents):kn C r=some ents:=by
 unfold kn at h ⊢
 cases a:g r with
 | none=>rw[a]at h;cases h
 | some b=>rw[a]at h;rw[c r b a d];exact h
theorem NZ{P:Program}(c:EV ι g C){t:TypeId}{x:AV}{u:Value}(l:VR M ι x u){k:Option AV}{ok:Bool}{a:AV × List bw}(h:ff P g t (some x) k ok=some a):ff P C t (some x) k ok=some a:=by
 unfold ff at h ⊢
 split at h
 ·rename_i n et r' m e j f
  cases j
  cases l with | mp d p=>
  try simp only[e,f]
  split at h
  ·rename_i ents b
   rw[KO c (by rw[d];simp) b]
   exact h
  ·cases h
 ·cases h
theorem FE{E:Env}{pc:FuncId->List AV->Option AV}(hS:iv M ι C w)(D:EV ι g C){tm:List AV}{a:Act}(L:TR M ι tm a){r:Ref}{o:Oper}{x:AV}{bs:List bw}
 (h:cz E pc true g tm r o=some (x,bs)):cz E pc true C tm r o=some (x,bs):=by
 unfold cz at h ⊢
 simp only[FT,Ht,cond_false,Ao]at h ⊢
 split at h
 ·exact h
 ·exact h
 ·exact h
 ·exact h
 ·exact h
 ·exact h
 ·
  rename_i t n ps q
  cases l:jc tm ps.toList with
  | none=>rw[l]at h;simp[iB]at h
  | some vs=>
   rw[l]at h
   generalize (true && !E.strict o)=dr at h ⊢
   simp only[iB]at h ⊢
   obtain⟨S,O⟩:=fO.1 h
   simp only[bN]at O
   obtain⟨b,K,R⟩:=O
   have V:=V2 L l
   obtain⟨ws,hws⟩:=J9 K
   obtain⟨Q,h5,h6⟩:=CF hS D hws V
   rw[h5,JA D h6 S,Oh hS D K V]
   simp[R]
 ·
  rename_i t y q
  unfold uL at h ⊢
  split at h
  ·rename_i r' i j ag n f hg hn
   try simp only[f,hg,hn]
   split at h
   ·rename_i b K
    have l:=aT L f
    generalize a.eval y=u at l
    cases l with | ptr J hzl=>
    rw[D r' b K (by rw[J];simp)]
    exact h
   ·cases h
  ·rename_i esz es i j ag n f hg hn
   try simp only[f,hg,hn]
   exact h
  ·cases h
 ·exact h
 ·exact h
 ·exact h
 ·
  rename_i s d y q
  cases f:aK tm y with
  | none=>rw[f]at h;simp[gB]at h
  | some y'=>
   rw[f]at h
   have l:=aT L f
   unfold gB at h ⊢
   split at h
   ·exact h
   ·exact h
   ·exact h
   ·rename_i z S O R I
    injection I with I
    subst I
    split at h
    ·rename_i N
     try simp only[N,if_true]
     split at h
     ·rename_i p es hes
      rw[Gn D l hes]
      exact h
     ·cases h
    ·rename_i N
     try simp only[N]
     split at h
     ·rename_i hc2
      try simp only[hc2,if_true]
      split at h
      ·generalize a.eval y=u at l
       cases l with | cG J=>
       split at h
       ·rename_i k X
        have:=D _ k X (by rw[J];simp)
        rw[this]
        exact h
       ·cases h
      ·cases h
     ·cases h
   ·rename_i I;cases I
 ·exact h
 ·exact h
 ·exact h
 ·exact h
 ·
  rename_i t y k ok q
  cases f:aK tm y with
  | none=>rw[f]at h;simp only[ff]at h;split at h<;>simp_all
  | some y'=>
   rw[f]at h
   exact NZ D (aT L f) h
 ·
  rename_i t y lo hi mx q
  cases f:aK tm y with
  | none=>rw[f]at h;simp only[ja]at h ⊢;exact h
  | some y'=>
   rw[f]at h
   have l:=aT L f
   generalize a.eval y=u at l
   cases l with
   | cG J=>
    simp only[ja]at h ⊢
    split at h
    ·rename_i lo' hi' mx' S O R
     try simp only[S,O,R]
     split at h
     ·rename_i b K
      rw[D _ b K (by rw[J];simp)]
      exact h
     ·cases h
    ·cases h
   | _=>(unfold ja at h ⊢;(repeat' split at h)<;>simp_all)
 ·exact h
 ·exact h
 ·
  rename_i t y z q
  cases f:aK tm y with
  | none=>rw[f]at h;exact h
  | some y'=>
   rw[f]at h
   have l:=aT L f
   generalize a.eval y=u at l
   cases l with
   | cG J=>
    simp only[ep]at h ⊢
    split at h
    ·rename_i k X
     try simp only[X]
     split at h
     ·rename_i e I
      try simp only[I]
      split at h
      ·rename_i esz es cap s F hs
       cases F
      ·rename_i r' off len cap s F hs
       injection F with F
       injection F with e1 e2 e3 e4
       subst e1
       try simp only[hs]
       split at h
       ·rename_i b K
        rw[D _ b K (by rw[J];simp)]
        subst e2;subst e3
        exact h
       ·cases h
      ·cases h
     ·rename_i I
      try simp only[I]
      exact h
    ·cases h
   | _=>(unfold ep at h ⊢;(repeat' split at h)<;>simp_all)
 ·exact h
 ·exact h
 ·exact h
 ·
  rename_i c q
  split at h
  ·cases h
  ·rename_i args H
   try simp only[H]
   have m:=nQ L H
   split at h
   ·rename_i fo N
    try simp only[N]
    obtain⟨p0,h,e0⟩:=bN.1 h
    refine bN.2 ⟨p0,?_,e0⟩
    unfold kJ at h ⊢
    split at h
    ·rename_i fi first captured T
     try simp only[T]
     split at h
     ·cases h
     ·rename_i W
      rw[if_neg W]
      obtain⟨a',b',hfv,Y,Z⟩:=(aT L T).Zq
      have U:mA M ι (first++args++captured) (a'.toList++c.args.toList.map a.eval++b'.toList):=(Y.append m).append Z
      split at h
      ·rename_i xs hxs
       obtain⟨S,O,R⟩:=Sx hS D hxs U
       try simp only[S]
       split at h
       ·rename_i y f
        try simp only[f]
        obtain⟨G,h⟩:=fO.1 h
        rw[O]
        rw[if_pos]
        ·exact h
        ·simp only[fv]at G ⊢
         rcases G with (Q | Q) | Q
         ·exact .inl (.inl Q)
         ·exact .inl (.inr (JA D R Q))
         ·exact .inr Q
       ·cases h
      ·cases h
    ·cases h
   ·cases h
   ·rename_i b N
    try simp only[N]
    unfold cN at h ⊢
    split at h
    ·rename_i r'
     obtain⟨u,P⟩:=Mg m.1.symm
     rw[P]at m
     have l:=m.2 0 (.mp r') u rfl rfl
     cases l with | mp J hz=>
     obtain⟨hd,h⟩:=PY.1 h
     simp only[if_neg hd]
     unfold xl at h ⊢
     split at h
     ·rename_i p ents ht W
      try simp only[ht]
      simp only[KO D (by rw[J];simp) W]
      exact h
     ·cases h
    ·exact h
    ·exact h
    ·exact h
    ·rename_i y z
     obtain⟨u,v,P⟩:=Bk m.1.symm
     rw[P]at m
     exact N5 D (m.2 0 y u rfl rfl) (m.2 1 z v rfl rfl) h
    ·exact h
    ·cases h
 ·cases h
end
end
section
theorem Wq{b:List Nat}{i:Nat} : ∀(a:List Nat),(Da b a).testBit i=true ->∃j∈a,i=j\/(b.getD j 0).testBit i=true:=by
 intro a
 induction a with
 | nil=>intro h;simp[Da]at h
 | cons j a c=>
  intro h
  simp only[Da,Nat.testBit_or,fv]at h
  rcases h with (h | h) | h
  ·rw[Nat.testBit_two_pow]at h
   exact⟨j,jB ..,.inl (by simpa using h:j=i).symm⟩
  ·exact⟨j,jB ..,.inr h⟩
  ·obtain⟨k,d,h⟩:=c h
   exact⟨k,iA _ d,h⟩
theorem Pk : ∀(b:List Oper)(a:List Nat)(i:Nat),i<a.length->(dw b a).getD i 0=a.getD i 0:=by
 intro b
 induction b with
 | nil=>intro a i h;rfl
 | cons o b c=>
  intro a i h
  simp only[dw]
  rw[c _ i (by simp;omega)]
  simp[List.getD,oI h]
theorem ZD : ∀(b:List Oper)(a:List Nat)(i:Nat)(o:Oper),b[i]?=some o ->
 ∀j,((dw b a).getD (a.length+i) 0).testBit j=true ->∃e∈eR o,j=e\/(e<a.length+i/\((dw b a).getD e 0).testBit j=true):=by
 intro b
 induction b with
 | nil=>intro a i o h;simp at h
 | cons o' b l=>
  intro a i o h j c
  cases i with
  | zero=>
   simp at h
   subst h
   simp only[dw,Ds]at c ⊢
   rw[Pk b _ a.length (by simp)]at c
   simp only[List.getD,p4 (de _),Nat.sub_self,PU,cY]at c
   obtain⟨e,he,c⟩:=Wq _ c
   refine⟨e,he,?_⟩
   rcases c with h | h
   ·exact .inl h
   ·right
    rcases fE e a.length with d | f
    ·refine⟨d,?_⟩
     have k:=Pk b (a++[Da a (eR o')]) e (by simp;omega)
     simp only[List.getD,oI d]at h k ⊢
     rw[k]
     exact h
    ·rw[List.getD,AR f]at h
     simp at h
  | succ i=>
   simp only[dw]at c ⊢
   have:=l (a++[Da a (eR o')]) i o (by simpa using h) j (by
    rw[pH,List.length_singleton]
    rwa [show a.length+1+i=a.length+(i+1) by omega])
   rw[pH,List.length_singleton]at this
   rwa [show a.length+1+i=a.length+(i+1) by omega]at this
theorem ade{ops:Array Oper}{i j:Nat}{o:Oper}(a:ops[i]?=some o)(b:((dw ops.toList []).getD i 0).testBit j=true) : ∃e∈eR o,j=e\/(e<i/\((dw ops.toList []).getD e 0).testBit j=true):=by
 have:=ZD ops.toList [] i o (by simpa using a) j (by simpa using b)
 simpa using this
def Closed(ops:Array Oper)(L:Nat->Bool):Prop :=∀(i:Nat)(o:Oper),L i=true->ops[i]?=some o ->∀e∈eR o,L e=true
theorem wF{ops:Array Oper}{L:Nat->Bool}(l:Closed ops L) : ∀(i:Nat)(o:Oper),ops[i]?=some o->(∀e∈eR o,L e=true) ->∀j,((dw ops.toList []).getD i 0).testBit j=true->L j=true:=by
 intro i
 induction i using Nat.strongRecOn with | ind i f=>
 intro o d a j k
 obtain⟨e,he,h | ⟨c,h⟩⟩:=ade d k
 ·rw[h];exact a e he
 ·have m:i<ops.size:=(iR.1 d).1
  have b:ops[e]?=some (ops[e]'(by omega)):=ku (by omega)
  exact f e c _ b (l e _ (a e he) b) j h
structure RegB (ops:Array Oper):Prop where
 edges : ∀(i:Nat)(o:Oper),ops[i]?=some o ->∀e∈eR o,e<i
 distinct : ∀(i j:Nat)(oi oj:Oper)(d:Tmp),ops[i]?=some oi->ops[j]?=some oj->oi.dst=some d->oj.dst=some d->i=j
 reads : ∀(i j:Nat)(oi oj:Oper)(d:Tmp),ops[i]?=some oi->ops[j]?=some oj->j≠i->oj.dst=some d->d∈oi.looksAt ops->(j<i/\((dw ops.toList []).getD i 0).testBit j=true)\/(i<j/\((dw ops.toList []).getD j 0).testBit i=true)
structure Xp (E:Env) (ops:Array Oper):Prop extends RegB ops where
 site : ∀(i:Nat)(o:Oper),ops[i]?=some o->yC E o=true->jC E o=false->o.dst.isSome=true
 writes : ∀(i j:Nat)(oi oj:Oper),ops[i]?=some oi->ops[j]?=some oj->j<i->yC E oi=true->yC E oj=true->lk E ops i=true->((dw ops.toList []).getD i 0).testBit j=true
theorem R1{E:Env}{ops:Array Oper}{i j:Nat}{o:Oper}(a:ops[j]?=some o)(c:jC E o=true)(b:j<=i):lk E ops i=true:=by
 unfold lk
 rw[HC]
 exact⟨j,yL.2 (by omega),by rw[a];exact c⟩
theorem qx{E:Env}{ops:Array Oper}{i:Nat}(h:lk E ops i=false){j:Nat}{o:Oper}(b:ops[j]?=some o)(a:j<=i):jC E o=false:=by
 cases hw:jC E o with
 | false=>rfl
 | true=>rw[R1 b hw a]at h;cases h
theorem agV{E:Env}{ops:Array Oper}{i:Nat}(h:lk E ops i=true) : ∃j o,j<=i/\ops[j]?=some o/\jC E o=true:=by
 unfold lk at h
 rw[HC]at h
 obtain⟨k,b,h⟩:=h
 have c:=yL.1 b
 split at h
 ·rename_i o a;exact⟨k,o,by omega,a,h⟩
 ·cases h
theorem YO{E:Env}{ops:Array Oper}{i j:Nat}(h:lk E ops j=true)(b:j<=i):lk E ops i=true:=by
 unfold lk at h
 rw[HC]at h
 obtain⟨k,c,h⟩:=h
 have d:=yL.1 c
 split at h
 ·rename_i o a;exact R1 a h (by omega)
 ·cases h
theorem So{ops:Array Oper}(one : ∀(i:Nat)(o:Oper),ops[i]?=some o->(eR o).all (· < i)=true)
 (two : ∀(i j:Nat)(oi a:Oper),ops[i]?=some oi->ops[j]?=some a->j<i->zH ops (dw ops.toList []) oi a i j=true):RegB ops:=by
 have b : ∀(i j:Nat)(oi a:Oper),ops[i]?=some oi->ops[j]?=some a->j<i->(a.dst.isNone=true\/oi.dst≠a.dst)/\(∀d,a.dst=some d->d∈oi.looksAt ops->((dw ops.toList []).getD i 0).testBit j=true) /\
  (∀d,oi.dst=some d->d∈a.looksAt ops->((dw ops.toList []).getD i 0).testBit j=true):=by
  intro i j oi a n m v
  have:=two i j oi a n m v
  unfold zH at this
  simp only[aY]at this
  obtain⟨⟨c,f⟩,l⟩:=this
  refine⟨?_,?_,?_⟩
  ·simpa using c
  ·intro d q t
   rw[q]at f
   simp only[fv,dN]at f
   rcases f with f | f
   ·have:(oi.looksAt ops).contains d=true:=Lq.2 t
    rw[f]at this;cases this
   ·exact f
  ·intro d q t
   rw[q]at l
   simp only[fv,dN]at l
   rcases l with l | l
   ·have:(a.looksAt ops).contains d=true:=Lq.2 t
    rw[l]at this;cases this
   ·exact l
 refine⟨?_,?_,?_⟩
 ·intro i o x e y
  have:=one i o x
  simp only[gy,decide_eq_true_eq]at this
  exact this e y
 ·intro i j oi a d n m p k
  rcases Km i j with h | h | h
  ·exfalso
   rcases(b j i a oi m n h).1 with c | c
   ·rw[p]at c;cases c
   ·exact c (by rw[p,k])
  ·exact h
  ·exfalso
   rcases(b i j oi a n m h).1 with c | c
   ·rw[k]at c;cases c
   ·exact c (by rw[p,k])
 ·intro i j oi a d n m u q t
  rcases PG u with h | h
  ·exact .inl ⟨h,(b i j oi a n m h).2.1 d q t⟩
  ·exact .inr ⟨h,(b j i a oi m n h).2.2 d q t⟩
theorem NP{E:Env}{ops:Array Oper}(h:D9 E ops=true):Xp E ops:=by
 unfold D9 at h
 simp only[gy,yL]at h
 have one : ∀(i:Nat)(o:Oper),ops[i]?=some o->(eR o).all (· < i)=true/\(!yC E o||jC E o||o.dst.isSome)=true /\∀(j:Nat)(d:Oper),j<i->ops[j]?=some d->QE E ops (dw ops.toList []) o d i j=true:=by
  intro i o l
  have k:i<ops.size:=(iR.1 l).1
  have:=h i k
  rw[l]at this
  simp only[aY,gy,yL]at this
  refine⟨by simpa using this.1.1,by simpa using this.1.2,λj d f n=>?_⟩
  have m:=this.2 j f
  rw[n]at m
  exact m
 have split : ∀(i j:Nat)(oi d:Oper),ops[i]?=some oi->ops[j]?=some d->j<i->zH ops (dw ops.toList []) oi d i j=true/\(yC E oi=true->yC E d=true->lk E ops i=true->((dw ops.toList []).getD i 0).testBit j=true):=by
  intro i j oi d k f e
  have:=(one i oi k).2.2 j d e f
  unfold QE at this
  rw[aY]at this
  refine⟨this.1,λa b c=>?_⟩
  have p:=this.2
  rw[a,b,c]at p
  simpa using p
 refine⟨So (λi o l=>(one i o l).1) λi j oi d k f e=>(split i j oi d k f e).1,?_,λi j oi d k f e=>(split i j oi d k f e).2⟩
 intro i o l q m
 have:=(one i o l).2.1
 rw[q,m]at this
 simpa using this
theorem IG{E:Env}{pc:FuncId->List AV->Option AV}{tc:yD->List AV->aa->dz}{nt dep:Nat}{ops:Array Oper} : ∀(l:List Oper)(st a:St),nU E pc tc nt dep true ops l st=some a ->
 ∃f:Nat->St,f 0=st/\f l.length=a /\∀i o,l[i]?=some o->evalOp E pc tc nt dep true ops o (f i)=some (f (i+1)):=by
 intro l
 induction l with
 | nil=>
  intro st a h
  simp only[nU,dT]at h
  exact⟨λ_=>st,rfl,h,λi o b=>by simp at b⟩
 | cons o l e=>
  intro st a h
  simp only[nU]at h
  split at h
  ·rename_i c k
   obtain⟨f,j,d,m⟩:=e c a h
   refine⟨λn=>match n with | 0=>st | n+1=>f n,rfl,d,?_⟩
   intro i o' b
   cases i with
   | zero=>simp at b;subst b;simp only;rw[j];exact k
   | succ i=>exact m i o' (by simpa using b)
  ·cases h
inductive ah8 (E:Env) (pc:FuncId->List AV->Option AV) (nt dep:Nat) (ops:Array Oper) (o:Oper) (st st2:St):Prop
 | no (hw:wanted ops st.tm o=some false) (tm':List AV) (ht:dt nt st.tm o.dst AV.undef=some tm') (he:st2=⟨tm',st.hp⟩)
 | quiet (hw:wanted ops st.tm o=some true) (x:AV) (bs:List bw) (hq:cz E pc true st.hp.get st.tm ⟨dep,o.dst.getD 0,st.hp.gen dep (o.dst.getD 0),0⟩ o=some (x,bs)) (tm':List AV)
  (ht:dt nt st.tm o.dst x=some tm') (he:st2=⟨tm',keyed ⟨dep,o.dst.getD 0,st.hp.gen dep (o.dst.getD 0),0⟩ 0 bs st.hp⟩)
 | write (hk:jC E o=true)
theorem oZ{E:Env}{pc:FuncId->List AV->Option AV}{tc:yD->List AV->aa->dz}{nt dep:Nat}{ops:Array Oper}{o:Oper}{st a:St}(h:evalOp E pc tc nt dep true ops o st=some a):ah8 E pc nt dep ops o st a:=by
 unfold evalOp at h
 split at h
 ·cases h
 ·rename_i b
  simp only[bN]at h
  obtain⟨tm',c,rfl⟩:=h
  exact .no b tm' c rfl
 ·rename_i b
  split at h
  ·rename_i x f d
   simp only[bN]at h
   obtain⟨tm',c,rfl⟩:=h
   exact .quiet b x f d tm' c rfl
  ·split at h
   ·cases h
   ·rename_i e
    refine .write ?_
    simpa using e
theorem M9{E:Env}{o:Oper}(h:jC E o=true):kA o.op=true:=by
 unfold jC at h
 have two:(E.kq o&&Cv o.op)=true->kA o.op=true:=by
  intro h
  replace h:=(yN.1 h).2
  unfold Cv at h
  split at h
  ·rename_i a;rw[a];rfl
  ·cases h
 by_cases d:(E.kq o&&Cv o.op)=true
 ·exact two d
 replace h:=(HF.1 h).resolve_right d
 replace h:=(yN.1 h).2
 unfold wOp at h
 split at h
 ·rename_i a;rw[a];rfl
 ·rename_i a;rw[a];rfl
 ·rename_i a;rw[a];rfl
 ·rename_i a;rw[a];rfl
 ·rename_i a;rw[a];rfl
 ·rename_i c a
  rw[a]
  unfold kA
  split at h
  ·rename_i b;simp[b]
  ·rename_i b;simp[b]
  ·rename_i b;simp[b]
  ·rename_i b;simp[b]
  ·cases h
 ·cases h
theorem Ts{E:Env}{pc:FuncId->List AV->Option AV}{g:cX}{tm:List AV}{r:Ref}{o:Oper}(d:kA o.op=false){x:AV}{j:List bw}(h:cz E pc true g tm r o=some (x,j)) :
 j=[] /\∀C r',cz E pc true C tm r' o=some (x,j):=by
 have v : ∀ {y:Option AV},kf y=some (x,j)->j=[]:=λh=>(sw h).2
 unfold cz at h ⊢
 simp only[FT,Ht,cond_false,Ao]at h ⊢
 split at h
 ·exact⟨v h,λ_ _=>h⟩
 ·exact⟨v h,λ_ _=>h⟩
 ·refine⟨?_,λ_ _=>h⟩
  unfold IL at h
  split at h
  ·exact v h
  ·exact v h
  ·cases h
 ·rename_i a;rw[a]at d;simp[kA]at d
 ·rename_i a;rw[a]at d;simp[kA]at d
 ·refine⟨?_,λ_ _=>h⟩
  unfold jD at h
  (repeat' split at h)<;>(try simp_all)<;>(try (obtain⟨_,_,_,h⟩:=h;exact h))
 ·rename_i a;rw[a]at d;simp[kA]at d
 ·rename_i a;rw[a]at d;simp[kA]at d
 ·refine⟨?_,λ_ _=>h⟩
  unfold NX at h
  (repeat' split at h)<;>(try simp_all)<;>(try (obtain⟨_,_,_,h⟩:=h;exact h))
 ·refine⟨?_,λ_ _=>h⟩
  unfold bY at h
  (repeat' split at h)<;>first | exact v h | (simp_all;done)
 ·exact⟨v h,λ_ _=>h⟩
 ·rename_i a;rw[a]at d;simp[kA]at d
 ·refine⟨?_,λ_ _=>h⟩
  unfold tX at h
  (repeat' split at h)<;>(try simp_all)<;>(try (obtain⟨_,_,_,h⟩:=h;exact h))
 ·refine⟨?_,λ_ _=>h⟩
  unfold gY at h
  (repeat' split at h)<;>(try simp_all)<;>(try (obtain⟨_,_,_,h⟩:=h;exact h))
 ·rename_i a;rw[a]at d;simp[kA]at d
 ·rename_i a;rw[a]at d;simp[kA]at d
 ·rename_i a;rw[a]at d;simp[kA]at d
 ·rename_i a;rw[a]at d;simp[kA]at d
 ·refine⟨?_,λ_ _=>h⟩
  unfold jW at h
  (repeat' split at h)<;>(try simp_all)<;>(try (obtain⟨_,_,_,h⟩:=h;exact h))
 ·refine⟨?_,λ_ _=>h⟩
  unfold yj at h
  (repeat' split at h)<;>first | exact v h | (simp_all;done)
 ·rename_i a;rw[a]at d;simp[kA]at d
 ·refine⟨?_,λ_ _=>h⟩
  unfold sx at h
  (repeat' split at h)<;>first | exact v h | (simp_all;done)
 ·refine⟨?_,λ_ _=>h⟩
  unfold uv at h
  (repeat' split at h)<;>(try simp_all)<;>(try (obtain⟨_,_,_,h⟩:=h;exact h))
 ·refine⟨?_,λ_ _=>h⟩
  unfold uM at h
  (repeat' split at h)<;>first | exact v h | (simp_all;done)
 ·rename_i c a
  rw[a]at d
  simp only[kA]at d
  split at h
  ·cases h
  ·rename_i args e
   split at h
   ·rename_i f;rw[f]at d;simp at d
   ·cases h
   ·rename_i b f
    rw[f]at d
    unfold cN at h
    split at h
    ·have k:QW c=false:=by simpa using d
     unfold QW at k
     rw[k]at h
     simp at h
    ·rename_i l
     refine⟨?_,λ_ _=>by simpa [e,f,cN] using h⟩
     unfold J2 at h
     (repeat' split at h)<;>(try simp_all)<;>(try (obtain⟨_,_,_,h⟩:=h;exact h))<;>(try (obtain⟨n,_,h⟩:=iw.1 h;simp at h;exact h.2))
    ·exact⟨v h,λ_ _=>by simpa [e,f,cN] using h⟩
    ·exact⟨v h,λ_ _=>by simpa [e,f,cN] using h⟩
    ·simp at d
    ·simp at d
    ·cases h
 ·cases h
theorem Ov{o:Op}(h:Ow o=true) : ∃c,o = .call c/\c.callee = .builtin .len:=by
 unfold Ow at h
 split at h
 ·rename_i c
  split at h
  ·rename_i a;exact⟨c,rfl,a⟩
  ·cases h
 ·cases h
theorem gS{E:Env}{o:Oper}(h:jC E o=true):yC E o=true:=by
 unfold yC
 rw[M9 h,nX]
 cases d:Ow o.op with
 | false=>simp
 | true=>
  exfalso
  obtain⟨c,a,b⟩:=Ov d
  simp[jC,a,wOp,b,Cv]at h
theorem zl{E:Env}{pc:FuncId->List AV->Option AV}{g:cX}{tm:List AV}{r:Ref}{o:Oper}(d:yC E o=false){x:AV}{a:List bw}(h:cz E pc true g tm r o=some (x,a)) :
 a=[] /\∀C r',cz E pc true C tm r' o=some (x,a):=by
 cases hp:kA o.op with
 | false=>exact Ts hp h
 | true=>
  unfold yC at d
  rw[hp,nX]at d
  obtain⟨k,l⟩:=yN.1 (by simpa using d:(E.strict o&&Ow o.op)=true)
  obtain⟨c,e,f⟩:=Ov l
  unfold cz at h ⊢
  simp only[e,f,k,Bool.true_or,C1]at h ⊢
  split at h
  ·cases h
  ·rename_i args b
   unfold cN at h ⊢
   split at h
   ·simp at h
   ·rename_i y j
    refine⟨?_,λ_ _=>?_⟩
    ·unfold J2 at h
     (repeat' split at h)<;>(try simp_all)<;>(try (obtain⟨_,_,_,h⟩:=h;exact h))<;>(try (obtain⟨n,_,h⟩:=iw.1 h;simp at h;exact h.2))
    ·exact h
   all_goals (first | cases h | simp_all)
end
section
def fV(ops:Array Oper)(dep:Nat)(sts:Nat->St)(i:Nat):Ref:=⟨dep,(ji ops i).getD 0,(sts i).hp.gen dep ((ji ops i).getD 0),0⟩
def newAt(E:Env)(pc:FuncId->List AV->Option AV)(ops:Array Oper)(dep:Nat)(sts:Nat->St)(i:Nat):List bw:=
 match ops[i]? with
 | none=>[]
 | some o=>if yC E o && !lk E ops i then
  match wanted ops (sts i).tm o with
  | some true=>(match cz E pc true (sts i).hp.get (sts i).tm (fV ops dep sts i) o with
   | some (_,a)=>a
   | none=>[])
  | _=>[]
  else []
def gF(a:cX)(key:Nat->Ref)(new:Nat->List bw)(L:Nat->Bool):Nat->cX
 | 0=>a
 | i+1=>if L i then ui (gF a key new L i) (key i) (new i) else gF a key new L i
def mt(key:Nat->Ref)(new:Nat->List bw)(i:Nat)(q:Ref):Prop:=q.d=(key i).d/\q.t=(key i).t/\q.g=(key i).g/\q.k<(new i).length
theorem uw{c:cX}{key:Nat->Ref}{new:Nat->List bw}{L:Nat->Bool}{q:Ref} : ∀n,(∀i,i<n->L i=true ->¬mt key new i q)->gF c key new L n q=c q:=by
 intro n
 induction n with
 | zero=>intro _;rfl
 | succ n b=>
  intro h
  simp only[gF]
  split
  ·rename_i d
   exact(if_neg (h n (sa n) d)).trans (b λi a=>h i (Hg a))
  ·exact b λi a=>h i (Hg a)
theorem Dc{d:cX}{key:Nat->Ref}{new:Nat->List bw}{L:Nat->Bool}{q:Ref}(a : ∀i j,mt key new i q->mt key new j q->i=j){i:Nat}(c:mt key new i q)(l:L i=true) :
 ∀n,i<n->gF d key new L n q=(new i)[q.k]?:=by
 intro n
 induction n with
 | zero=>intro h;omega
 | succ n e=>
  intro h
  simp only[gF]
  by_cases b:i=n
  ·subst b
   rw[if_pos l]
   exact if_pos c
  ·have:gF d key new L n q=(new i)[q.k]?:=e (by omega)
   split
   ·exact(if_neg (λf=>b (a i n c f))).trans this
   ·exact this
section
variable{E:Env}{pc:FuncId->List AV->Option AV}{tc:yD->List AV->aa->dz}{nt dep:Nat}{ops:Array Oper}{sts:Nat->St}
def TS(ops:Array Oper)(sts:Nat->St)(L:Nat->Bool)(tm:List AV):Prop:=
 ∀t,(∀i,i<ops.size->L i=true->ji ops i=some t->dJ tm t=dJ (sts (i+1)).tm t)/\((∀i,i<ops.size->L i=true->ji ops i≠some t)->dJ tm t=dJ (sts 0).tm t)
theorem xg{tm tm':List AV}{b:Option Tmp}{x:AV}(h:dt nt tm b x=some tm')(t:Nat):dJ tm' t=if b=some t then x else dJ tm t:=by
 unfold dt at h
 split at h
 ·injection h with h;subst h;simp
 ·rename_i d
  obtain⟨_,h⟩:=fO.1 h
  injection h with h
  subst h
  rw[vG]
  by_cases a:t=d
  ·subst a;simp
  ·rw[if_neg a,if_neg (by intro e;injection e with e;exact a e.symm)]
theorem lK{tm tm' tm1:List AV}{a:Option Tmp}{x:AV}(h:dt nt tm a x=some tm') : ∃b,dt nt tm1 a x=some b:=by
 unfold dt at h ⊢
 cases a with
 | none=>exact⟨_,rfl⟩
 | some d=>
  simp only at h ⊢
  obtain⟨c,_⟩:=fO.1 h
  rw[if_pos c]
  exact⟨_,rfl⟩
theorem Nt{o:Oper}{i:Nat}(A:evalOp E pc tc nt dep true ops o (sts i)=some (sts (i+1))) : ∃x,dt nt (sts i).tm o.dst x=some (sts (i+1)).tm:=by
 unfold evalOp at A
 split at A
 ·cases A
 ·simp only[bN]at A
  obtain⟨tm',a,he⟩:=A
  exact⟨_,by rw[<-he];exact a⟩
 ·split at A
  ·simp only[bN]at A
   obtain⟨tm',a,he⟩:=A
   exact⟨_,by rw[<-he];exact a⟩
  ·split at A
   ·cases A
   ·split at A
    ·simp only[bN]at A
     obtain⟨tm',a,he⟩:=A
     exact⟨_,by rw[<-he];exact a⟩
    ·cases A
section
variable(B:RegB ops)(A : ∀i o,ops[i]?=some o->evalOp E pc tc nt dep true ops o (sts i)=some (sts (i+1)))
include B A
omit A in
theorem W0{i j:Nat}{t:Nat}(b:ji ops i=some t)(a:ji ops j=some t):i=j:=by
 simp only[ji,iw]at b a
 obtain⟨oi,e,c⟩:=b
 obtain⟨h,d,f⟩:=a
 exact B.distinct i j oi h t e d c f
theorem LG : ∀i,i<=ops.size->TS ops sts (λj=>decide (j<i)) (sts i).tm:=by
 intro i
 induction i with
 | zero=>intro _ t;exact⟨λj _ c=>by simp at c,λ_=>rfl⟩
 | succ i q=>
  intro l t
  have k:i<ops.size:=l
  have m:=ku k
  obtain⟨x,y⟩:=Nt (A i _ m)
  have n:ji ops i=ops[i].dst:=by simp[ji,m]
  have p:=xg y t
  obtain⟨v,u⟩:=q (by omega) t
  refine⟨λj c a h=>?_,λd=>?_⟩
  ·simp only[decide_eq_true_eq]at a
   by_cases f:j=i
   ·subst f;rfl
   ·have b:ops[i].dst≠some t:=by
     intro e
     rw[<-n]at e
     exact f (W0 B h e)
    rw[p,if_neg b]
    exact v j c (by simp;omega) h
  ·have b:ops[i].dst≠some t:=by rw[<-n];exact d i k (by simp)
   rw[p,if_neg b]
   exact u λj c a=>d j c (by simp at a ⊢;omega)
theorem IJ{L:Nat->Bool}(v:Closed ops L){i:Nat}{o:Oper}(p:ops[i]?=some o)(x:L i=false)(q : ∀e∈eR o,L e=true){tm:List AV}(K:TS ops sts L tm){t:Nat}(y:t∈o.looksAt ops) :
 dJ tm t=dJ (sts i).tm t:=by
 have I:i<ops.size:=(iR.1 p).1
 obtain⟨H,G⟩:=K t
 obtain⟨z,J⟩:=LG B A i (by omega) t
 by_cases k : ∃j,j<ops.size/\L j=true/\ji ops j=some t
 ·obtain⟨j,l,a,c⟩:=k
  have b:=c
  simp only[ji,iw]at b
  obtain⟨n,d,f⟩:=b
  have u:j≠i:=by intro e;rw[e,x]at a;cases a
  rcases B.reads i j o n t p d u f y with ⟨m,_⟩ | ⟨_,h⟩
  ·rw[H j l a c,z j l (by simpa using m) c]
  ·have:=wF v j n d (λe F=>v j n a d e F) i h
   rw[x]at this
   cases this
 ·rw[G λj l a c=>k ⟨j,l,a,c⟩]
  refine(J λj l a c=>?_).symm
  simp only[decide_eq_true_eq]at a
  have b:=c
  simp only[ji,iw]at b
  obtain⟨n,d,f⟩:=b
  rcases B.reads i j o n t p d (by omega) f y with ⟨_,h⟩ | ⟨D,_⟩
  ·exact k ⟨j,l,wF v i o p q j h,c⟩
  ·omega
omit A in
theorem vv{L v:Nat->Bool}{i:Nat}{o:Oper}(u:ops[i]?=some o)(c : ∀j,v j=true↔(L j=true\/j=i))(y:L i=false){tm tm':List AV}(H:TS ops sts L tm){x:AV}(D:dt nt (sts i).tm o.dst x=some (sts (i+1)).tm)
 (m:dt nt tm o.dst x=some tm'):TS ops sts v tm':=by
 intro t
 have q:i<ops.size:=(iR.1 u).1
 have l:ji ops i=o.dst:=by simp[ji,u]
 obtain⟨G,F⟩:=H t
 have z:=xg D t
 have p:=xg m t
 refine⟨λj k b a=>?_,λf=>?_⟩
 ·rcases(c j).1 b with h | h
  ·have n:j≠i:=by intro e;rw[e,y]at h;cases h
   have d:o.dst≠some t:=by rw[<-l];intro e;exact n (W0 B a e)
   rw[p,if_neg d]
   exact G j k h a
  ·subst h
   rw[l]at a
   rw[p,if_pos a,z,if_pos a]
 ·have d:o.dst≠some t:=by rw[<-l];exact f i q ((c i).2 (.inr rfl))
  rw[p,if_neg d]
  exact F λj k b=>f j k ((c j).2 (.inl b))
end
variable(B:Xp E ops)(A : ∀i o,ops[i]?=some o->evalOp E pc tc nt dep true ops o (sts i)=some (sts (i+1)))
include B A
abbrev ag5(ops:Array Oper)(dep:Nat)(sts:Nat->St):Nat->Ref:=fV ops dep sts
omit B A in
theorem uO{i:Nat}(h:newAt E pc ops dep sts i≠[]) : ∃o,ops[i]?=some o/\yC E o=true/\lk E ops i=false:=by
 unfold newAt at h
 split at h
 ·exact absurd rfl h
 ·rename_i o b
  split at h
  ·rename_i a
   simp only[aY,dN]at a
   exact⟨o,b,a.1,a.2⟩
  ·exact absurd rfl h
omit A in
theorem L9{q:Ref}(i j:Nat)(h:mt (fV ops dep sts) (newAt E pc ops dep sts) i q)(f:mt (fV ops dep sts) (newAt E pc ops dep sts) j q):i=j:=by
 have ne : ∀ {i},mt (fV ops dep sts) (newAt E pc ops dep sts) i q->newAt E pc ops dep sts i≠[]:=by
  intro i h e
  have:=h.2.2.2
  rw[e]at this
  simp at this
 obtain⟨oi,c,m,p⟩:=uO (ne h)
 obtain⟨l,d,n,y⟩:=uO (ne f)
 obtain⟨k,b⟩:=gU.1 (B.site i oi c m (qx p c (de _)))
 obtain⟨v,a⟩:=gU.1 (B.site j l d n (qx y d (de _)))
 have u:q.t=k:=by have:=h.2.1;simpa [fV,ji,c,b] using this
 have x:q.t=v:=by have:=f.2.1;simpa [fV,ji,d,a] using this
 exact B.distinct i j oi l k c d b (by rw[a,<-u,<-x])
def noW(E:Env)(ops:Array Oper)(n:Nat):Prop :=∀j o,j<n->ops[j]?=some o->jC E o=false
omit B A in
theorem Wf{n:Nat}(d:noW E ops (n+1)):lk E ops n=false:=by
 cases h:lk E ops n with
 | false=>rfl
 | true=>
  unfold lk at h
  rw[HC]at h
  obtain⟨k,c,h⟩:=h
  have a:=yL.1 c
  split at h
  ·rename_i o b;rw[d k o a b]at h;cases h
  ·cases h
omit B in
theorem LI{n:Nat}(m:n<=ops.size)(d:noW E ops n):(sts n).hp.get=gF (sts 0).hp.get (fV ops dep sts) (newAt E pc ops dep sts) (λ_=>true) n:=by
 induction n with
 | zero=>rfl
 | succ n l=>
  have b:=ku (show n<ops.size from m)
  have f:=l (by omega) (λj o u=>d j o (by omega))
  simp only[gF,if_true]
  rw[<-f]
  have p:ji ops n=ops[n].dst:=by simp[ji,b]
  have k:fV ops dep sts n=⟨dep,ops[n].dst.getD 0,(sts n).hp.gen dep (ops[n].dst.getD 0),0⟩:=by simp[fV,p]
  rcases oZ (A n _ b)with ⟨a,tm',q,he⟩ | ⟨a,x,v,h,tm',q,he⟩ | e
  ·have:newAt E pc ops dep sts n=[]:=by
    unfold newAt
    rw[b]
    simp only[a]
    split<;>rfl
   rw[this,nL,he]
  ·have c:=Wf d
   rw[he]
   simp only
   rw[aa.nm,<-k]
   congr 1
   unfold newAt
   rw[b]
   simp only[a,k,h,c,Hc,C1]
   cases t:yC E ops[n] with
   | true=>rfl
   | false=>
    rw[(zl t h).1]
    rfl
  ·exact absurd e (by rw[d n _ (sa n) b];simp)
omit B in
theorem Np{n:Nat}(K:n<=ops.size)(y:noW E ops n)(d t:Nat):(sts 0).hp.gen d t<=(sts n).hp.gen d t /\
 ((∀j,j<n->newAt E pc ops dep sts j≠[] ->¬(d=dep/\t=(ji ops j).getD 0))->(sts n).hp.gen d t=(sts 0).hp.gen d t) /\
 ∀j,j<n->newAt E pc ops dep sts j≠[]->d=dep->t=(ji ops j).getD 0->(fV ops dep sts j).g<(sts n).hp.gen d t:=by
 induction n with
 | zero=>exact⟨de _,λ_=>rfl,λj k=>by omega⟩
 | succ n J=>
  have l:=ku (show n<ops.size from K)
  obtain⟨i1,i2,i3⟩:=J (by omega) (λj o k=>y j o (by omega))
  have u:ji ops n=ops[n].dst:=by simp[ji,l]
  have G:fV ops dep sts n=⟨dep,ops[n].dst.getD 0,(sts n).hp.gen dep (ops[n].dst.getD 0),0⟩:=by simp[fV,u]
  have same:(sts (n+1)).hp=(sts n).hp->newAt E pc ops dep sts n=[]->(sts 0).hp.gen d t<=(sts (n+1)).hp.gen d t /\
   ((∀j,j<n+1->newAt E pc ops dep sts j≠[] ->¬(d=dep/\t=(ji ops j).getD 0))->(sts (n+1)).hp.gen d t=(sts 0).hp.gen d t) /\
   ∀j,j<n+1->newAt E pc ops dep sts j≠[]->d=dep->t=(ji ops j).getD 0->(fV ops dep sts j).g<(sts (n+1)).hp.gen d t:=by
   intro I N
   rw[I]
   refine⟨i1,λh=>i2 λj k=>h j (by omega),λj k a=>?_⟩
   have:j≠n:=by intro e;rw[e]at a;exact a N
   exact i3 j (by omega) a
  rcases oZ (A n _ l)with ⟨c,tm',L,he⟩ | ⟨c,x,H,F,tm',L,he⟩ | z
  ·refine same (by rw[he]) ?_
   unfold newAt
   rw[l]
   simp only[c]
   split<;>rfl
  ·have v:=Wf y
   have m:newAt E pc ops dep sts n=H:=by
    unfold newAt
    rw[l]
    simp only[c,G,F,v,Hc,C1]
    cases O:yC E ops[n] with
    | true=>rfl
    | false=>rw[(zl O F).1];rfl
   by_cases q:H=[]
   ·refine same ?_ (by rw[m,q])
    rw[he,q]
    rfl
   ·rw[he]
    simp only
    rw[aa.mK]
    simp only[ne_eq,q,not_false_eq_true,and_true]
    by_cases b:d=dep/\t=ops[n].dst.getD 0
    ·rw[if_pos b]
     obtain⟨rfl,rfl⟩:=b
     refine⟨by omega,λh=>?_,λj k a D p=>?_⟩
     ·exact absurd ⟨rfl,by rw[u]⟩ (h n (sa n) (by rw[m];exact q))
     ·by_cases f:j=n
      ·rw[f,G];exact sa _
      ·have:=i3 j (by omega) a rfl p
       omega
    ·rw[if_neg b]
     refine⟨i1,λh=>i2 λj k=>h j (by omega),λj k a D p=>?_⟩
     by_cases f:j=n
     ·subst f
      exact absurd ⟨D,by rw[p,u]⟩ b
     ·exact i3 j (by omega) a D p
  ·exact absurd z (by rw[y n _ (sa n) l];simp)
theorem KT{ι:Map}(D:vM ι (sts 0).hp){i:Nat}{o:Oper}(c:ops[i]?=some o)(F:yC E o=true)(e:jC E o=false)(t:noW E ops i)(k:Nat):ι { fV ops dep sts i with k:=k}=none:=by
 have v:i<ops.size:=(iR.1 c).1
 obtain⟨d,n⟩:=gU.1 (B.site i o c F e)
 have l:ji ops i=some d:=by simp[ji,c,n]
 obtain⟨_,q,_⟩:=Np (pc:=pc) (tc:=tc) (nt:=nt) (dep:=dep) A (iQ v) t dep d
 have x:(sts i).hp.gen dep d=(sts 0).hp.gen dep d:=q λj G h z=>by
  obtain⟨p,a,m,f⟩:=uO h
  obtain⟨u,b⟩:=gU.1 (B.site j p a m (qx f a (de _)))
  have:d=u:=by have:=z.2;simpa [ji,a,b] using this
  exact absurd (B.distinct i j o p d c a n (by rw[b,this])) (by omega)
 have y:fV ops dep sts i=⟨dep,d,(sts 0).hp.gen dep d,0⟩:=by simp[fV,l,x]
 rw[y]
 exact D.fresh dep d k
end
end
section
theorem BS{ops:Array Oper}{o:Oper}{tm tm':List AV}(h : ∀t∈o.looksAt ops,dJ tm t=dJ tm' t):EN tm tm' o.op.operands.toList:=by
 intro x a
 cases x with
 | tmp t=>
  simp only[aK]
  rw[h t]
  unfold Oper.looksAt
  exact PN _ (List.mem_filterMap.2 ⟨_,a,rfl⟩)
 | _=>rfl
theorem zQ{ops:Array Oper}{o:Oper}{tm tm':List AV}(h : ∀t∈o.looksAt ops,dJ tm t=dJ tm' t):wanted ops tm o=wanted ops tm' o:=by
 unfold wanted
 cases c:o.guard with
 | none=>rfl
 | some p=>
  obtain⟨j,b⟩:=p
  simp only
  cases a:(ops[j]?).bind (·.dst) with
  | none=>rfl
  | some t=>
   simp only
   rw[h t]
   unfold Oper.looksAt
   rw[c]
   simp[a]
theorem Gp{p p':Nat->Bool}{i:Nat}(d : ∀j,p' j=true->p j=true)(f:p i=true)(h:p' i=false) : ∀l:List Nat,i∈l->l.countP p'<l.countP p:=by
 intro l c
 have mono : ∀l:List Nat,l.countP p'<=l.countP p:=λl=>List.countP_mono_left λx _=>d x
 induction l with
 | nil=>cases c
 | cons a l e=>
  simp only[List.countP_cons]
  by_cases b:a=i
  ·subst b
   have:=mono l
   rw[f,h]
   simp
   omega
  ·have:=e (by simpa [tP b] using c)
   have k:(if p' a=true then 1 else 0)<=(if p a=true then 1 else 0):=by
    by_cases hp:p' a=true
    ·rw[if_pos hp,if_pos (d a hp)];exact de _
    ·rw[if_neg hp];exact EY _
   omega
theorem K2{E:Env}{pc:FuncId->List AV->Option AV}{tc:yD->List AV->aa->dz}{nt dep:Nat}{ops:Array Oper}{o:Oper}{st c:St}{tm1:List AV}(h : ∀t∈o.looksAt ops,dJ tm1 t=dJ st.tm t)
 (a:evalOp E pc tc nt dep true ops o st=some c) : ∃x b,dt nt st.tm o.dst x=some c.tm/\dt nt tm1 o.dst x=some b/\evalOp E pc tc nt dep true ops o ⟨tm1,st.hp⟩=some ⟨b,c.hp⟩:=by
 have e:=BS h
 have f:=zQ h
 unfold evalOp at a ⊢
 simp only
 rw[f,uU e,WU e]
 have d : ∀ {x:AV} {H:aa},(dt nt st.tm o.dst x).map (λtm=>(⟨tm,H⟩:St))=some c ->∃j b,dt nt st.tm o.dst j=some c.tm/\dt nt tm1 o.dst j=some b/\(dt nt tm1 o.dst x).map (λtm=>(⟨tm,H⟩:St))=some ⟨b,c.hp⟩:=by
  intro x H n
  obtain⟨tm',l,rfl⟩:=bN.1 n
  obtain⟨b,m⟩:=lK (tm1:=tm1) l
  exact⟨x,b,l,m,by rw[m];rfl⟩
 revert a
 generalize wanted ops st.tm o=W
 generalize cz E pc true st.hp.get st.tm ⟨dep,o.dst.getD 0,st.hp.gen dep (o.dst.getD 0),0⟩ o=X
 generalize evalW E pc tc st.hp st.tm ⟨dep,o.dst.getD 0,st.hp.gen dep (o.dst.getD 0),0⟩ o=Y
 intro a
 rcases W with _ | ⟨_ | _⟩
 ·cases a
 ·exact d a
 ·rcases X with _ | ⟨x,p⟩
  ·simp only at a ⊢
   by_cases k:(true && !jC E o)=true
   ·rw[if_pos k]at a;cases a
   ·rw[if_neg k]at a ⊢
    rcases Y with _ | ⟨x,H⟩
    ·cases a
    ·exact d a
  ·exact d a
section
variable{E:Env}{pc:FuncId->List AV->Option AV}{tc:yD->List AV->aa->dz}{nt dep:Nat}{ops:Array Oper}{sts:Nat->St}
variable(B:Xp E ops)(A : ∀i o,ops[i]?=some o->evalOp E pc tc nt dep true ops o (sts i)=some (sts (i+1)))
abbrev gL(E:Env)(pc:FuncId->List AV->Option AV)(ops:Array Oper)(dep:Nat)(sts:Nat->St)(L:Nat->Bool)(n:Nat):cX:=gF (sts 0).hp.get (fV ops dep sts) (newAt E pc ops dep sts) L n
structure Xw (E:Env) (pc:FuncId->List AV->Option AV) (ops:Array Oper) (dep:Nat) (sts:Nat->St) (M:Mem) (ι:Map) (w:World) (L:Nat->Bool) (M1:Mem) (ι1:Map) (w1:World):Prop where
 quiet : ∀i o,L i=true->ops[i]?=some o->yC E o=true->lk E ops i=false
 sim:iv M1 ι1 (gL E pc ops dep sts L ops.size) w1
 fwd:vp M ι (sts 0).hp.get w M1 ι1 (gL E pc ops dep sts L ops.size) w1
 dom : ∀q,ι q=none->(∀i,i<ops.size->L i=true ->¬mt (fV ops dep sts) (newAt E pc ops dep sts) i q)->ι1 q=none
structure Late (E:Env) (ops:Array Oper) (sts:Nat->St) (M:Mem) (ι:Map) (w:World) (L:Nat->Bool) (M1:Mem) (ι1:Map) (w1:World) (k:Nat):Prop where
 le:k<=ops.size
 wrote : ∃j o,j<k/\ops[j]?=some o/\jC E o=true
 upto : ∀i o,ops[i]?=some o->yC E o=true->(L i=true↔i<k)
 sim:iv M1 ι1 (sts k).hp.get w1
 dom:vM ι1 (sts k).hp
 fwd:vp M ι (sts 0).hp.get w M1 ι1 (sts k).hp.get w1
structure Inv (E:Env) (pc:FuncId->List AV->Option AV) (nt:Nat) (ops:Array Oper) (dep:Nat) (sts:Nat->St) (M:Mem) (ι:Map) (w:World) (ds:List Deferred) (L:Nat->Bool) (a1:Act) (w1:World):Prop where
 closed:Closed ops L
 defers:a1.defers=ds
 at_ : ∃M1 ι1 tm1,TS ops sts L tm1/\TR M1 ι1 tm1 a1/\a1.tmps.size=nt/\(Xw E pc ops dep sts M ι w L M1 ι1 w1 \/∃k,Late E ops sts M ι w L M1 ι1 w1 k)
theorem Closed.next{L f:Nat->Bool}{i:Nat}{o:Oper}(m:Closed ops L)(k:ops[i]?=some o)(c : ∀e∈eR o,L e=true)(b : ∀j,f j=true↔(L j=true\/j=i)):Closed ops f:=by
 intro j n l a e d
 rcases(b j).1 l with h | h
 ·exact(b e).2 (.inl (m j n h a e d))
 ·subst h
  rw[k]at a
  injection a with a
  subst a
  exact(b e).2 (.inl (c e d))
theorem TG(r:Ref)(H:aa):keyed r 0 [] H=H:=rfl
include A in
theorem OG{k:Nat} : ∀n,k<=n->n<=ops.size->(∀j o,k<=j->j<n->ops[j]?=some o->yC E o=false)->(sts n).hp=(sts k).hp:=by
 intro n
 induction n with
 | zero=>intro h _ _;rw[Ho.1 h]
 | succ n l=>
  intro u m h
  rcases fE n k with t | c
  ·rw[show k=n+1 by omega]
  ·have f:=ku (show n<ops.size from m)
   have e:=h n _ c (sa n) f
   rw[<-l c (by omega) λj o a b=>h j o a (by omega)]
   rcases oZ (A n _ f)with ⟨_,tm',q,he⟩ | ⟨_,x,v,p,tm',q,he⟩ | d
   ·rw[he]
   ·rw[he,(zl e p).1];rfl
   ·rw[gS d]at e;cases e
theorem We{i:Nat}{o:Oper}(d:ops[i]?=some o)(f:yC E o=true)(a:lk E ops i=false):noW E ops i:=
 λj e c b=>qx a b (iQ c)
include B A in
theorem Wk{ι:Map}(h:vM ι (sts 0).hp){i:Nat}{q:Ref}(f:mt (fV ops dep sts) (newAt E pc ops dep sts) i q):ι q=none:=by
 have c:newAt E pc ops dep sts i≠[]:=by
  intro e
  have:=f.2.2.2
  rw[e]at this
  simp at this
 obtain⟨o,b,d,a⟩:=uO c
 have:=KT (pc:=pc) (tc:=tc) (nt:=nt) B A h b d (qx a b (de _)) (We b d a) q.k
 rwa [show({ fV ops dep sts i with k:=q.k}:Ref)=q by
  obtain⟨m,j,l,n⟩:=f
  cases q
  simp_all]at this
include B in
theorem WO{L l:Nat->Bool}{i:Nat}(m:i<ops.size)(e : ∀j,l j=true↔(L j=true\/j=i)):gL E pc ops dep sts l ops.size=ui (gL E pc ops dep sts L ops.size) (fV ops dep sts i) (newAt E pc ops dep sts i):=by
 funext q
 unfold ui
 have c : ∀i j,mt (fV ops dep sts) (newAt E pc ops dep sts) i q->mt (fV ops dep sts) (newAt E pc ops dep sts) j q->i=j:=λi j=>L9 B i j
 split
 ·rename_i k
  exact Dc c (i:=i) k ((e i).2 (.inr rfl)) ops.size m
 ·rename_i k
  by_cases d : ∃j,j<ops.size/\L j=true/\mt (fV ops dep sts) (newAt E pc ops dep sts) j q
  ·obtain⟨j,f,b,a⟩:=d
   rw[gL,Dc c a ((e j).2 (.inl b)) _ f,gL,Dc c a b _ f]
  ·rw[gL,uw,gL,uw]
   ·intro j f b a
    exact d ⟨j,f,b,a⟩
   ·intro j f b a
    rcases(e j).1 b with h | h
    ·exact d ⟨j,f,h,a⟩
    ·subst h;exact k a
include B in
theorem R8{L:Nat->Bool}{n:Nat}(y:n<=ops.size)(h : ∀j o,j<ops.size->ops[j]?=some o->yC E o=true->lk E ops j=false->(L j=true↔j<n)):gL E pc ops dep sts (λ_=>true) n=gL E pc ops dep sts L ops.size:=by
 funext q
 have b : ∀i j,mt (fV ops dep sts) (newAt E pc ops dep sts) i q->mt (fV ops dep sts) (newAt E pc ops dep sts) j q->i=j:=λi j=>L9 B i j
 have made : ∀ {j},mt (fV ops dep sts) (newAt E pc ops dep sts) j q ->∃o,ops[j]?=some o/\yC E o=true/\lk E ops j=false:=by
  intro j v
  refine uO (pc:=pc) (dep:=dep) (sts:=sts) ?_
  intro e
  have:=v.2.2.2
  rw[e]at this
  simp at this
 by_cases k : ∃j,mt (fV ops dep sts) (newAt E pc ops dep sts) j q
 ·obtain⟨j,c⟩:=k
  obtain⟨o,p,u,m⟩:=made c
  have t:j<ops.size:=(iR.1 p).1
  have d:=h j o t p u m
  by_cases f:j<n
  ·rw[gL,Dc b c rfl _ f,gL,Dc b c (d.2 f) _ t]
  ·rw[gL,uw,gL,uw]
   ·intro i x l a
    have:=b i j a c
    subst this
    exact f (d.1 l)
   ·intro i x l a
    have:=b i j a c
    omega
 ·rw[gL,uw _ (λi _ _ a=>k ⟨i,a⟩),gL,uw _ (λi _ _ a=>k ⟨i,a⟩)]
include A in
theorem O3{M:Mem}{ι b:Map}(H:vM ι (sts 0).hp){L:Nat->Bool}{n:Nat}(I:n<=ops.size)(J:noW E ops n)
 (k : ∀q,ι q=none->(∀i,i<ops.size->L i=true ->¬mt (fV ops dep sts) (newAt E pc ops dep sts) i q)->b q=none)
 (y : ∀q l,ι q=some l->b q=some l) (h : ∀j o,j<ops.size->ops[j]?=some o->yC E o=true->lk E ops j=false->L j=true->j<n):vM b (sts n).hp:=by
 intro q l x
 obtain⟨K,N,F⟩:=Np (pc:=pc) (tc:=tc) (nt:=nt) (dep:=dep) A I J q.d q.t
 cases p:ι q with
 | some G=>exact FX (H q G p) K
 | none=>
  by_cases f : ∃i,i<ops.size/\L i=true/\mt (fV ops dep sts) (newAt E pc ops dep sts) i q
  ·obtain⟨i,u,c,a⟩:=f
   have m:newAt E pc ops dep sts i≠[]:=by
    intro e
    have:=a.2.2.2
    rw[e]at this
    simp at this
   obtain⟨o,z,D,v⟩:=uO m
   have:=F i (h i o u z D v c) m a.1 a.2.1
   rw[a.2.2.1]
   exact this
  ·rw[k q p λi u c a=>f ⟨i,u,c,a⟩]at x
   cases x
variable{M:Mem}{ι:Map}{w:World}{ds:List Deferred}
include B A in
theorem WJ(hpc : ∀f xs y,pc f xs=some y->gP E.P f xs y)(htc : ∀f xs H y H',tc f xs H=some (y,H')->rO E.P f xs H y H'){ro:Option Nat}{Q:Exit->Act->World->Prop}
 (hS0:iv M ι (sts 0).hp.get w) (hD0:vM ι (sts 0).hp) {L L':Nat->Bool} {i:Nat} {o:Oper} (F:ops[i]?=some o) (hi:L i=false) (hed : ∀e∈eR o,L e=true)
 (n : ∀j,L' j=true↔(L j=true\/j=i)) {a1:Act} {w1:World} (hI:Inv E pc nt ops dep sts M ι w ds L a1 w1) {K:Act->World->Prop} (hK : ∀a' w',Inv E pc nt ops dep sts M ι w ds L' a' w'->K a' w') :
 if Region.wanted o (yielded ops a1.tmps) then o.wpIn (FW ro) 0 E.P a1 w1 K Q else K (a1.put o.dst undef) w1:=by
 obtain⟨hc,hds,M1,J,tm1,hTS,G,hnt,N⟩:=hI
 have S:i<ops.size:=(iR.1 F).1
 have hc':Closed ops L':=Closed.next hc F hed n
 have X : ∀t∈o.looksAt ops,dJ tm1 t=dJ (sts i).tm t:=λt ht=>IJ B.toRegB A hc F hi hed hTS ht
 have hag:=BS X
 have hwd:=zQ X
 have step:=A i o F
 have anc:=wF hc i o F hed
 cases hb:(yC E o&&lk E ops i) with
 | true=>
  obtain⟨R,hwk⟩:=yN.1 hb
  have I : ∀j l,j<i->ops[j]?=some l->yC E l=true->L j=true:=λj l V a c=>anc j (B.writes i j o l F a V R c hwk)
  have hO:Bo M1 J ⟨tm1,(sts i).hp⟩ nt a1 w1/\vp M ι (sts 0).hp.get w M1 J (sts i).hp.get w1 /\∀j l,ops[j]?=some l->yC E l=true->(L j=true->j<i):=by
   rcases N with d | ⟨k,d⟩
   ·have U:noW E ops i:=by
     intro j l V a
     cases U:jC E l with
     | false=>rfl
     | true=>have:=qx (d.quiet j l (I j l V a (gS U)) a (gS U)) a (de _);rw[U]at this;cases this
    have hle : ∀j l,ops[j]?=some l->yC E l=true->(L j=true->j<i):=by
     intro j l a c p
     rcases Km j i with h | h | h
     ·exact h
     ·subst h;rw[hi]at p;cases p
     ·have:=YO hwk (iQ h)
      rw[d.quiet j l p a c]at this
      cases this
    have hg:(sts i).hp.get=gL E pc ops dep sts L ops.size:=by
     rw[LI (pc:=pc) A (iQ S) U]
     exact R8 B (iQ S) λj l V a c _=>⟨hle j l a c,λhji=>I j l hji a c⟩
    refine⟨⟨by rw[hg];exact d.sim,?_,G,hnt⟩,by rw[hg];exact d.fwd,hle⟩
    exact O3 (M:=M) (tc:=tc) (nt:=nt) A hD0 (iQ S) U d.dom d.fwd.map λj l _ a c _=>hle j l a c
   ·have hki:k<=i:=by
     rcases fE i k with h | h
     ·rw[(d.upto i o F R).2 h]at hi;cases hi
     ·exact h
    have hst:(sts i).hp=(sts k).hp:=OG A i hki (iQ S) λj l hkj hji a=>by
     cases c:yC E l with
     | false=>rfl
     | true=>have:=(d.upto j l a c).1 (I j l hji a c);omega
    refine⟨⟨by rw[hst];exact d.sim,by rw[hst];exact d.dom,G,hnt⟩,by rw[hst];exact d.fwd,λj l a c p=>?_⟩
    have:=(d.upto j l a c).1 p
    omega
  obtain⟨hO,hF,hle⟩:=hO
  obtain⟨x,m,hx,z,hev⟩:=K2 X step
  refine FF (E:=E) (Q:=Q) hO hpc htc (λh=>by cases h) (.inl rfl) hev λa' w' ⟨⟨M',D,hO',hF'⟩,hd'⟩=>hK a' w' ⟨hc',hd'.trans hds,M',D,m,?_,hO'.tr,hO'.nt,.inr ⟨i+1,?_⟩⟩
  ·exact vv B.toRegB F n hi hTS hx z
  ·obtain⟨j0,o0,hj0,ho0,hw0⟩:=agV hwk
   refine⟨S,⟨j0,o0,by omega,ho0,hw0⟩,λj l a c=>⟨λV=>?_,λV=>?_⟩,hO'.sim,hO'.dom,hF.trans hF'⟩
   ·rcases(n j).1 V with h | h
    ·exact Hg (hle j l a c h)
    ·omega
   ·rcases fE j i with h | h
    ·exact(n j).2 (.inl (I j l h a c))
    ·exact(n j).2 (.inr (by omega))
 | false=>
  have hnl:yC E o=true->lk E ops i=false:=by
   intro R
   rw[R,nX]at hb
   exact hb
  have hk:fV ops dep sts i=⟨dep,o.dst.getD 0,(sts i).hp.gen dep (o.dst.getD 0),0⟩:=by simp[fV,ji,F]
  have still : ∀(u:Value)(x:AV)(m:List AV)(w':World)(M':Mem)(D:Map),newAt E pc ops dep sts i=[]->(N:(Xw E pc ops dep sts M ι w L M1 J w1->Xw E pc ops dep sts M ι w L M' D w') /\∀k,Late E ops sts M ι w L M1 J w1 k->Late E ops sts M ι w L M' D w' k) ->
   (yC E o=false \/∀k,¬Late E ops sts M ι w L M1 J w1 k)->dt nt (sts i).tm o.dst x=some (sts (i+1)).tm->dt nt tm1 o.dst x=some m->TR M' D m (a1.put o.dst u)->(a1.put o.dst u).tmps.size=nt ->
   Inv E pc nt ops dep sts M ι w ds L' (a1.put o.dst u) w':=by
   intro u x m w' M' D hnil hcs T hx z htr hn
   refine⟨hc',(put_defers _ _ _).trans hds,M',D,m,vv B.toRegB F n hi hTS hx z,htr,hn,?_⟩
   rcases N with d | ⟨k,d⟩
   ·have O:=hcs.1 d
    have hg:gL E pc ops dep sts L' ops.size=gL E pc ops dep sts L ops.size:=by rw[WO B S n,hnil,nL]
    refine .inl ⟨λj l V a c=>?_,by rw[hg];exact O.sim,by rw[hg];exact O.fwd,λq hq hno=>O.dom q hq λj V p=>hno j V ((n j).2 (.inl p))⟩
    rcases(n j).1 V with h | h
    ·exact O.quiet j l h a c
    ·subst h;rw[F]at a;injection a with a;rw[<-a]at c;exact hnl c
   ·have O:=hcs.2 k d
    refine .inr ⟨k,O.le,O.wrote,λj l a c=>?_,O.sim,O.dom,O.fwd⟩
    rcases T with T | T
    ·rw[<-O.upto j l a c,n j]
     constructor
     ·rintro(h | h)
      ·exact h
      ·subst h;rw[F]at a;injection a with a;rw[<-a,T]at c;cases c
     ·exact .inl
    ·exact absurd d (T k)
  have noLate:yC E o=true ->∀k,¬Late E ops sts M ι w L M1 J w1 k:=by
   intro R k d
   obtain⟨j,l,hjk,a,hwj⟩:=d.wrote
   rcases fE i k with h | h
   ·rw[(d.upto i o F R).2 h]at hi;cases hi
   ·have:=R1 a hwj (show j<=i by omega)
    rw[hnl R]at this;cases this
  have T:yC E o=false \/∀k,¬Late E ops sts M ι w L M1 J w1 k:=by
   cases R:yC E o with
   | false=>exact .inl rfl
   | true=>exact .inr (noLate R)
  rcases oZ step with ⟨U,tm',ht,he⟩ | ⟨U,x,bs,hq,tm',ht,he⟩ | hwk'
  ·rw[<-hwd]at U
   rw[lE G U]
   simp only[mr,if_false]
   have hx:dt nt (sts i).tm o.dst AV.undef=some (sts (i+1)).tm:=by rw[he];exact ht
   obtain⟨m,z⟩:=lK (tm1:=tm1) hx
   obtain⟨h1,h2⟩:=G.put hnt z (u:=undef) (.v rfl)
   refine hK _ _ (still undef AV.undef m w1 M1 J ?_ ⟨id,λ_=>id⟩ T hx z h1 h2)
   unfold newAt
   rw[F]
   rw[hwd]at U
   simp only[U]
   split<;>rfl
  ·have hw':=U
   rw[<-hwd]at U
   rw[lE G U]
   simp only[if_true]
   have hx:dt nt (sts i).tm o.dst x=some (sts (i+1)).tm:=by rw[he];exact ht
   obtain⟨m,z⟩:=lK (tm1:=tm1) hx
   cases R:yC E o with
   | false=>
    obtain⟨hbs,hall⟩:=zl R hq
    subst hbs
    have hnil:newAt E pc ops dep sts i=[]:=by
     unfold newAt
     rw[F]
     simp[R]
    rcases N with d | ⟨k,d⟩
    ·have W : ∀k,J { (⟨dep+1,0,(sts 0).hp.gen (dep+1) 0,0⟩:Ref)with k:=k}=none:=λk=>d.dom _ (hD0.fresh _ _ k) λj _ _ hm=>by
      have:=hm.1
      simp only[fV]at this
      omega
     have hq':cz E pc true (gL E pc ops dep sts L ops.size) tm1 ⟨dep+1,0,(sts 0).hp.gen (dep+1) 0,0⟩ o=some (x,[]):=by rw[uU hag];exact hall _ _
     refine zw (E:=E) (o:=o) d.sim G rfl W hpc (λh=>by cases h) hq' ro K Q λu w' ⟨M',D,h1,h2,h3,h4⟩=>hK _ _ ?_
     rw[nL]at h2 h3
     obtain⟨h5,h6⟩:=(G.mono h3.mem h3.map).put hnt z h1
     refine still u x m w' M' D hnil ⟨λ_=>⟨d.quiet,h2,d.fwd.trans h3,λq hq hno=>h4 q (d.dom q hq hno) (λk hk=>by simp at hk)⟩,λk hl=>?_⟩ (.inl R) hx z h5 h6
     obtain⟨j,l,hjk,a,hwj⟩:=hl.wrote
     have:=qx (d.quiet j l ((hl.upto j l a (gS hwj)).2 hjk) a (gS hwj)) a (de _)
     rw[hwj]at this;cases this
    ·have hq':cz E pc true (sts k).hp.get tm1 ⟨dep,0,(sts k).hp.gen dep 0,0⟩ o=some (x,[]):=by rw[uU hag];exact hall _ _
     refine zw (E:=E) (o:=o) d.sim G rfl (λk'=>d.dom.fresh dep 0 k') hpc (λh=>by cases h) hq' ro K Q λu w' hout=>hK _ _ ?_
     obtain⟨M',D,h1,h2,h3,h4⟩:=hout.toW d.dom
     rw[TG]at h2 h3 h4
     obtain⟨h5,h6⟩:=(G.mono h3.mem h3.map).put hnt z h1
     refine⟨hc',(put_defers _ _ _).trans hds,M',D,m,vv B.toRegB F n hi hTS hx z,h5,h6,.inr ⟨k,d.le,d.wrote,λj l a c=>?_,h2,h4,d.fwd.trans h3⟩⟩
     rw[<-d.upto j l a c,n j]
     constructor
     ·rintro(h | h)
      ·exact h
      ·subst h;rw[F]at a;injection a with a;rw[<-a,R]at c;cases c
     ·exact .inl
   | true=>
    rcases N with d | ⟨k,d⟩
    ·have hlk:=hnl R
     have hwk:=qx hlk F (de _)
     have hnw:=We F R hlk
     have hbs:newAt E pc ops dep sts i=bs:=by
      unfold newAt
      rw[F]
      simp only[hw',hk,hq,R,hlk,Hc,C1,if_true]
     rw[<-hk,LI (pc:=pc) A (iQ S) hnw]at hq
     have hloc:EV J (gF (sts 0).hp.get (fV ops dep sts) (newAt E pc ops dep sts) (λ_=>true) i) (gL E pc ops dep sts L ops.size):=by
      intro q b hg hne
      have Z : ∀i j,mt (fV ops dep sts) (newAt E pc ops dep sts) i q->mt (fV ops dep sts) (newAt E pc ops dep sts) j q->i=j:=λi j=>L9 B i j
      by_cases hex : ∃j,mt (fV ops dep sts) (newAt E pc ops dep sts) j q
      ·obtain⟨j,hjm⟩:=hex
       have hf:ι q=none:=Wk (tc:=tc) (nt:=nt) B A hD0 hjm
       have hjs:j<ops.size:=by
        have:newAt E pc ops dep sts j≠[]:=by
         intro e
         have:=hjm.2.2.2
         rw[e]at this
         simp at this
        obtain⟨l,a,_⟩:=uO this
        exact(iR.1 a).1
       cases p:L j with
       | false=>exact absurd (d.dom q hf λi' _ hL Y=>by rw[Z i' j Y hjm,p]at hL;cases hL) hne
       | true=>
        by_cases hji:j<i
        ·rw[Dc Z hjm rfl _ hji]at hg
         rw[gL,Dc Z hjm p _ hjs];exact hg
        ·rw[uw _ (λi' hi' _ Y=>by have:=Z i' j Y hjm;omega),hS0.YK hf]at hg
         cases hg
      ·rw[uw _ (λi' _ _ Y=>hex ⟨i',Y⟩)]at hg
       rw[gL,uw _ (λi' _ _ Y=>hex ⟨i',Y⟩)]
       exact hg
     rw[<-uU hag]at hq
     have hq':=FE d.sim hloc G hq
     have W : ∀k,J { fV ops dep sts i with k:=k}=none:=λk=>d.dom _ (KT (pc:=pc) (tc:=tc) (nt:=nt) B A hD0 F R hwk hnw k) λj _ p hm=>by
      have hne:newAt E pc ops dep sts j≠[]:=by
       intro e
       have:=hm.2.2.2
       rw[e]at this
       simp at this
      obtain⟨l,a,c,hnj⟩:=uO hne
      obtain⟨dj,hdj⟩:=gU.1 (B.site j l a c (qx hnj a (de _)))
      obtain⟨di,hdi⟩:=gU.1 (B.site i o F R hwk)
      have:di=dj:=by have:=hm.2.1;simpa [fV,ji,a,hdj,F,hdi] using this
      have:=B.distinct i j o l di F a hdi (by rw[hdj,this])
      subst this
      rw[hi]at p;cases p
     refine zw (E:=E) (o:=o) d.sim G (by simp[fV]) W hpc (λh=>by cases h) hq' ro K Q λu w' ⟨M',D,h1,h2,h3,h4⟩=>hK _ _ ?_
     obtain⟨h5,h6⟩:=(G.mono h3.mem h3.map).put hnt z h1
     have hg':gL E pc ops dep sts L' ops.size=ui (gL E pc ops dep sts L ops.size) (fV ops dep sts i) bs:=by rw[WO B S n,hbs]
     refine⟨hc',(put_defers _ _ _).trans hds,M',D,m,vv B.toRegB F n hi hTS hx z,h5,h6,.inl ⟨λj l V a c=>?_,by rw[hg'];exact h2,by rw[hg'];exact d.fwd.trans h3,λq hq hno=>?_⟩⟩
     ·rcases(n j).1 V with h | h
      ·exact d.quiet j l h a c
      ·subst h;exact hlk
     ·refine h4 q (d.dom q hq λj V p=>hno j V ((n j).2 (.inl p))) λk hk' e=>?_
      refine hno i S ((n i).2 (.inr rfl)) ?_
      rw[e]
      exact⟨rfl,rfl,rfl,by rw[hbs];exact hk'⟩
    ·exact absurd d (noLate R k)
  ·have h1:=hnl (gS hwk')
   rw[R1 F hwk' (de i)]at h1;cases h1
include B A in
theorem R6(F:vM ι (sts 0).hp){L:Nat->Bool}(c : ∀i,i<ops.size->L i=true){a G:Act}{I:World}(u:a.defers=ds)(S:Inv E pc nt ops dep sts M ι w ds L G I):lD M ι (sts 0) a w nt (sts ops.size) G I:=by
 obtain⟨T,q,z,h,tm1,D,H,v,n⟩:=S
 have y : ∀t,dJ tm1 t=dJ (sts ops.size).tm t:=by
  intro t
  obtain⟨Q,P⟩:=D t
  obtain⟨O,R⟩:=LG B.toRegB A ops.size (de _) t
  by_cases m : ∃j,j<ops.size/\ji ops j=some t
  ·obtain⟨j,b,p⟩:=m
   rw[Q j b (c j b) p,O j b (by simpa using b) p]
  ·rw[P λj b _ p=>m ⟨j,b,p⟩,R λj b _ p=>m ⟨j,b,p⟩]
 have f:TR z h (sts ops.size).tm G:=⟨λt=>by rw[<-y];exact H.at_ t⟩
 rcases n with d | ⟨k,d⟩
 ·have x:noW E ops ops.size:=λj o b e=>by
   cases x:jC E o with
   | false=>rfl
   | true=>have:=qx (d.quiet j o (c j b) e (gS x)) e (de _);rw[x]at this;cases this
  have J:(sts ops.size).hp.get=gL E pc ops dep sts L ops.size:=by
   rw[LI (pc:=pc) A (de _) x]
   exact R8 B (de _) λj o b _ _ _=>⟨λ_=>b,λ_=>c j b⟩
  refine⟨⟨z,h,⟨by rw[J];exact d.sim,?_,f,v⟩,by rw[J];exact d.fwd⟩,q.trans u.symm⟩
  exact O3 (M:=M) (tc:=tc) (nt:=nt) A F (de _) x d.dom d.fwd.map λj o b _ _ _ _=>b
 ·have l:(sts ops.size).hp=(sts k).hp:=OG A ops.size d.le (de _) λj o N b e=>by
   cases K:yC E o with
   | false=>rfl
   | true=>have:=(d.upto j o e K).1 (c j b);omega
  exact⟨⟨z,h,⟨by rw[l];exact d.sim,by rw[l];exact d.dom,f,v⟩,by rw[l];exact d.fwd⟩,q.trans u.symm⟩
include B in
theorem Dk{a:Array Bool}(n:a.size=ops.size)(h:Region.ready .any ops a=[]) : ∀i,i<ops.size->a.getD i false=true:=by
 intro i
 induction i using Nat.strongRecOn with | ind i j=>
 intro k
 cases p:a.getD i false with
 | true=>rfl
 | false=>
  exfalso
  have f:=ku k
  have c:a.getD i true=false:=by
   have:i<a.size:=by omega
   simpa [Array.getD,this] using p
  have:i∈Region.ready .any ops a:=by
   rw[mem_ready]
   refine⟨c,_,f,λe m l=>?_⟩
   have b:e.on∈eR ops[i]:=by
    unfold eR
    exact vd.2 ⟨e,Hw.2 ⟨by simpa using m,l⟩,rfl⟩
   have d:=B.edges i _ f _ b
   exact j e.on d (by omega)
  rw[h]at this
  cases this
include B A in
theorem adb(S : ∀f xs y,pc f xs=some y->gP E.P f xs y)(W : ∀f xs H y H',tc f xs H=some (y,H')->rO E.P f xs H y H'){ro:Option Nat}{a0:Act}(x:a0.defers=ds){Q:Exit->Act->World->Prop}
 (X:iv M ι (sts 0).hp.get w) (q:vM ι (sts 0).hp) (Z : ∀G w',lD M ι (sts 0) a0 w nt (sts ops.size) G w'->Q .normal G w') : ∀(b:Nat)(a:Array Bool)(J:Act)(F:World),a.size=ops.size ->
 (List.range ops.size).countP (λi => !a.getD i false)<=b->Inv E pc nt ops dep sts M ι w ds (λi=>a.getD i false) J F->wpAnyIn (FW ro) 0 E.P .any ops Q b a J F:=by
 intro b
 induction b with
 | zero=>
  intro a J F m hf N
  have c : ∀i,i<ops.size->a.getD i false=true:=by
   intro i l
   cases T:a.getD i false with
   | true=>rfl
   | false=>
    exfalso
    have:0<(List.range ops.size).countP (λi => !a.getD i false):=List.countP_pos_iff.2 ⟨i,yL.2 l,by rw[T];rfl⟩
    omega
  refine⟨?_,Z _ _ (R6 B A q c x N)⟩
  refine Uu.2 λi l=>?_
  rw[mem_ready]at l
  obtain⟨D,o,u,_⟩:=l
  have t:i<ops.size:=(iR.1 u).1
  have I:=c i t
  have:i<a.size:=by omega
  simp[Array.getD,this]at D I
  rw[I]at D
  cases D
 | succ b ih=>
  intro a J F m hf N
  refine⟨λhr=>Z _ _ (R6 B A q (Dk B m hr) x N),λi l=>?_⟩
  rw[mem_ready]at l
  obtain⟨D,o,u,O⟩:=l
  have t:i<ops.size:=(iR.1 u).1
  have v:i<a.size:=by omega
  have z:a.getD i false=false:=by simpa [Array.getD,v] using D
  have h : ∀e∈eR o,(λi=>a.getD i false) e=true:=by
   intro e Y
   unfold eR at Y
   obtain⟨d,hd,rfl⟩:=vd.1 Y
   obtain⟨I,h2⟩:=Hw.1 hd
   exact O d (by simpa using I) h2
  have k : ∀j,(λj=>(a.setIfInBounds i true).getD j false) j=true↔((λj=>a.getD j false) j=true\/j=i):=by
   intro j
   simp only
   by_cases n:j=i
   ·subst n
    simp[v]
   ·rw[getD_set_ne false (tP n)]
    simp[n]
  have:=WJ (E:=E) (tc:=tc) (ro:=ro) (K:=wpAnyIn (FW ro) 0 E.P .any ops Q b (a.setIfInBounds i true)) (Q:=Q) B A S W X q (L:=λi=>a.getD i false) u z h k N λG w' U=>by
   refine ih _ G w' (by simp[m]) ?_ U
   have:=Gp (p:=λj => !a.getD j false) (p':=λj => !(a.setIfInBounds i true).getD j false) (i:=i) (λj R=>by
    simp only[dN]at R ⊢
    cases T:a.getD j false with
    | false=>rfl
    | true=>have:=(k j).2 (.inl T);simp only at this;rw[this]at R;cases R) (by simp only[z,Hc]) (by have:=(k i).2 (.inr rfl);simp only at this ⊢;rw[this];rfl) (List.range ops.size) (yL.2 t)
   omega
  unfold wpOpIn
  rw[u]
  simp only
  split
  ·rename_i V
   rw[if_pos V]at this
   exact this
  ·rename_i V
   rw[if_neg V]at this
   exact⟨λ_ _=>trivial,this⟩
end
theorem O0{E:Env}(I:E.P.follows .mixedOrders=true){ops:Array Oper}(v:D9 E ops=true){pc:FuncId->List AV->Option AV}(p : ∀f xs y,pc f xs=some y->gP E.P f xs y)
 {tc:yD->List AV->aa->dz} (x : ∀f xs H y H',tc f xs H=some (y,H')->rO E.P f xs H y H') {nt dep id:Nat} {st d:St} {M:Mem} {ι:Map} {a:Act} {w:World} {ro:Option Nat} {Q:Exit->Act->World->Prop}
 (h:nU E pc tc nt dep true ops ops.toList st=some d) (j:Bo M ι st nt a w) (K : ∀m w',lD M ι st a w nt d m w'->Q .normal m w'):(Code.region id ops true).wpIn (FW ro) 0 E.P Q a w:=by
 obtain⟨sts,N,z,F⟩:=IG ops.toList st d h
 rw[Dx]at z
 have B:=NP v
 have A : ∀i o,ops[i]?=some o->evalOp E pc tc nt dep true ops o (sts i)=some (sts (i+1)):=λi o D=>F i o (by simpa using D)
 subst N
 refine wpIn_region_any I ?_
 have u:vp M ι (sts 0).hp.get w M ι (sts 0).hp.get { w with drawn:=w.drawn+1} :=
  ⟨rfl,rfl,rfl,de _,λ_ _ _=>rfl,λ_ _ _ h=>h,λ_ _ h=>h,λr k l h L => .inr ⟨r,k,l,h,L,rfl⟩,λ_ _ _ h => .inl h⟩
 have c : ∀i,(Array.replicate ops.size false).getD i false=false:=by
  intro i
  simp only[F0,PV]
  split<;>rfl
 have b : ∀n,gF (sts 0).hp.get (fV ops dep sts) (newAt E pc ops dep sts) (λi=>(Array.replicate ops.size false).getD i false) n=(sts 0).hp.get:=by
  intro n
  funext q
  refine uw n λi _ e=>?_
  exact absurd ((c i).symm.trans e) (by simp)
 refine adb (tc:=tc) (M:=M) (ι:=ι) (w:=w) (a0:=a) B A p x rfl j.sim j.dom (λm w' J=>K m w' (z ▸ J)) ops.size _ a _ (by simp) ?_ ?_
 ·exact Cy List.countP_le_length (by simp)
 ·refine⟨λi o e=>?_,rfl,M,ι,(sts 0).tm,?_,j.tr,j.nt,.inl ⟨λi o e=>?_,?_,?_,λq G _=>G⟩⟩
  ·exact absurd ((c i).symm.trans e) (by simp)
  ·exact λt=>⟨λi _ e=>absurd ((c i).symm.trans e) (by simp),λ_=>rfl⟩
  ·exact absurd ((c i).symm.trans e) (by simp)
  ·rw[gL,b];exact j.sim.drew rfl
  ·rw[gL,b];exact u
end
end Go.Ab
