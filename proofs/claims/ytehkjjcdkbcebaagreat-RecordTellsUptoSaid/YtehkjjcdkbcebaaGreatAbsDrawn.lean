/-
  What a quiet operation of the abstract machine looks at. No statement of a seat is proved here.
-/
import Derived.Test.YtehkjjcdkbcebaaGreatAbsWalk
set_option linter.unusedVariables false
set_option linter.unusedSimpArgs false
set_option linter.unusedSectionVars false
set_option linter.unnecessarySimpa false
namespace Go.Ab
section
theorem mapM_congr{b j:Type}{f c:b->Option j} : ∀ {l:List b},(∀x∈l,f x=c x)->l.mapM f=l.mapM c:=by
 intro l
 induction l with
 | nil=>intro _;rfl
 | cons a l e=>
  intro h
  simp only[kI]
  rw[h a (jM ..),e λx d=>h x (jI _ d)]
def yM(tm tm':List AV)(a:List Operand):Prop :=∀x∈a,aq tm x=aq tm' x
theorem pJ{tm tm':List AV}{ps:List (Nat × Operand)}(h : ∀p∈ps,aq tm p.2=aq tm' p.2):fj tm ps=fj tm' ps:=by
 unfold fj
 exact mapM_congr λp hp=>by obtain⟨i,o⟩:=p;simp only[h (i,o) hp]
theorem tO{tm tm':List AV}{x:Option Operand}(h : ∀y,x=some y->aq tm y=aq tm' y):jR tm x=jR tm' x:=by
 cases x with
 | none=>rfl
 | some y=>simp only[jR,h y rfl]
theorem pv{E:Env}{pc:FuncId->List AV->Option AV}{q:Bool}{g:cf}{tm tm':List AV}{r:Ref}{o:Oper}(h:yM tm tm' o.op.operands.toList) :
 bR E pc q g tm r o=bR E pc q g tm' r o:=by
 unfold yM at h
 unfold bR
 split
 ·rename_i x j;rw[j]at h;simp only[Op.operands]at h;rw[h x (by simp)]
 ·rename_i x j;rw[j]at h;simp only[Op.operands]at h;rw[h x (by simp)]
 ·rename_i c a b j;rw[j]at h;simp only[Op.operands]at h;simp only[Ch];rw[h c (by simp),h a (by simp),h b (by simp)]
 ·rfl
 ·rename_i e x j;rw[j]at h;simp only[Op.operands]at h;rw[h x (by simp)]
 ·rename_i t ps j;rw[j]at h;simp only[Op.operands]at h;rw[pJ λp hp=>h p.2 (by simp;exact⟨p.1,by simpa using hp⟩)]
 ·rename_i t n ps j;rw[j]at h;simp only[Op.operands]at h;rw[pJ λp hp=>h p.2 (by simp;exact⟨p.1,by simpa using hp⟩)]
 ·rename_i t x j;rw[j]at h;simp only[Op.operands]at h;rw[h x (by simp)]
 ·rename_i x j;rw[j]at h;simp only[Op.operands]at h;rw[h x (by simp)]
 ·rename_i z t x y ty j;rw[j]at h;simp only[Op.operands]at h;rw[h x (by simp),h y (by simp)]
 ·rename_i z t x j;rw[j]at h;simp only[Op.operands]at h;rw[h x (by simp)]
 ·rename_i s d x j;rw[j]at h;simp only[Op.operands]at h;rw[h x (by simp)]
 ·rename_i t x j;rw[j]at h;simp only[Op.operands]at h;rw[h x (by simp)]
 ·rename_i f a b j;rw[j]at h;simp only[Op.operands]at h;rw[mapM_congr λx m=>h x (by simp at m ⊢;exact .inl m),mapM_congr λx m=>h x (by simp at m ⊢;exact .inr m)]
 ·rename_i t l c j;rw[j]at h;simp only[Op.operands]at h;rw[h l (by simp),h c (by simp)]
 ·rfl
 ·rename_i t x k ok j;rw[j]at h;simp only[Op.operands]at h;rw[h x (by simp),h k (by simp)]
 ·rename_i t x lo hi v j
  rw[j]at h
  simp only[Op.operands]at h
  rw[h x (by simp),tO (x:=lo) λy u=>h y (by simp[u]),tO (x:=hi) λy u=>h y (by simp[u]),tO (x:=v) λy u=>h y (by simp[u])]
 ·rename_i t x f j;rw[j]at h;simp only[Op.operands]at h;rw[h x (by simp)]
 ·rename_i t x f j;rw[j]at h;simp only[Op.operands]at h;rw[h x (by simp)]
 ·rename_i t x y j;rw[j]at h;simp only[Op.operands]at h;rw[h x (by simp),h y (by simp)]
 ·rename_i t x y j;rw[j]at h;simp only[Op.operands]at h;rw[h x (by simp),h y (by simp)]
 ·rename_i x t F ok j;rw[j]at h;simp only[Op.operands]at h;rw[h x (by simp)]
 ·rename_i x i j;rw[j]at h;simp only[Op.operands]at h;rw[h x (by simp)]
 ·rename_i c j
  rw[j]at h
  simp only[Op.operands,Call.operands]at h
  rw[mapM_congr (l:=c.args.toList) λx m=>h x (by simp at m ⊢;exact .inr m)]
  split
  ·rfl
  ·split
   ·rename_i f D;rw[h f (by simp[D])]
   ·rfl
   ·rfl
 ·rfl
theorem Oj{E:Env}{pc:FuncId->List AV->Option AV}{tc:pY->List AV->ab->cb}{H:ab}{tm tm':List AV}{r:Ref}{o:Oper}(h:yM tm tm' o.op.operands.toList) :
 evalW E pc tc H tm r o=evalW E pc tc H tm' r o:=by
 unfold yM at h
 unfold evalW
 generalize o.op=op at h ⊢
 cases op<;>try rfl
 case store t x y=>simp only[Op.operands]at h;simp only;rw[h x (by simp),h y (by simp)]
 case mapUpdate t m k y=>simp only[Op.operands]at h;simp only;rw[h m (by simp),h k (by simp),h y (by simp)]
 case insert t m k y=>simp only[Op.operands]at h;simp only;rw[h m (by simp),h k (by simp),h y (by simp)]
 case mapEntry t m k=>simp only[Op.operands]at h;simp only;rw[h m (by simp),h k (by simp)]
 case entryStore t m k y=>simp only[Op.operands]at h;simp only;rw[h m (by simp),h k (by simp),h y (by simp)]
 case buildSlice t n ps=>simp only[Op.operands]at h;simp only;rw[pJ λp hp=>h p.2 (by simp;exact⟨p.1,by simpa using hp⟩)]
 case makeChan t n=>simp only[Op.operands]at h;simp only;rw[h n (by simp)]
 case send c x=>simp only[Op.operands]at h;simp only;rw[h c (by simp),h x (by simp)]
 case recv t c b=>simp only[Op.operands]at h;simp only;rw[h c (by simp)]
 case call c=>
  simp only[Op.operands,Call.operands]at h
  simp only
  rw[mapM_congr (l:=c.args.toList) λx a=>h x (by simp at a ⊢;exact .inr a)]
  split
  ·rfl
  ·split
   ·rename_i f d;rw[h f (by simp[d])]
   ·rfl
   ·rfl
def yT(ι:Map)(g C:cf):Prop :=∀q k,g q=some k->ι q≠none->C q=some k
section
variable{M:Mem}{ι:Map}{g C:cf}{w:World}
theorem Kn{l:Loc}{k:aJ}(h:dU M ι w l k){e:AV}(f:e∈k.es) : ∃u,VR M (k.map ι) e u:=by
 obtain⟨i,hi,a⟩:=mw f
 have d:=h.cell i (by rw[cw hi,a])
 obtain⟨us,b,_,_⟩:=d.values
 cases e with
 | agg cs=>exact⟨.agg us.toArray,VR.mP.2 (by simpa [AV.cells] using b)⟩
 | _=>
  have c:=b.1
  obtain⟨u,rfl⟩:=Fi c.symm
  exact⟨u,b.2 0 _ u rfl rfl⟩
theorem GK{f d:AV->Option AV}{l c:List AV}(h:l.mapM f=some c)(j : ∀x∈l,∀y,f x=some y->d x=some y):l.mapM d=some c:=by
 rw[<-h]
 refine mapM_congr λx b=>?_
 obtain⟨i,hi,a⟩:=mw b
 obtain⟨y,_,e⟩:=jq h i x (by rw[cw hi,a])
 rw[e,j x b y e]
theorem qL{b j:Type}{f c:b->List j} : ∀ {l:List b},(∀x∈l,f x=c x)->l.flatMap f=l.flatMap c:=by
 intro l
 induction l with
 | nil=>intro _;rfl
 | cons a l e=>
  intro h
  rw[kZ,kZ,h a (jM ..),e λx d=>h x (jI _ d)]
theorem sq(hS:eW M ι C w)(Y:yT ι g C) : ∀(n:Nat)(x y:AV)(u:Value)(p:Mem),view g n x=some y->VR p ι x u->view C n x=some y/\ad C n x=ad g n x /\∀r∈ad g n x,ι r≠none:=by
 intro n
 induction n with
 | zero=>intro x y u p h;simp[view]at h
 | succ n S=>
  intro x y u p h hv
  have e : ∀ {cs Q:List AV},cs.mapM (view g n)=some Q->(∀c∈cs,∃u p,VR p ι c u)->cs.mapM (view C n)=some Q/\cs.flatMap (ad C n)=cs.flatMap (ad g n) /\∀r∈cs.flatMap (ad g n),ι r≠none:=by
   intro cs Q t L
   refine⟨GK t λc z y P=>?_,qL λc z=>?_,?_⟩
   ·obtain⟨u,p,H⟩:=L c z
    exact(S c y u p P H).1
   ·obtain⟨u,p,H⟩:=L c z
    obtain⟨i,hi,F⟩:=mw z
    obtain⟨y,_,P⟩:=jq t i c (by rw[cw hi,F])
    exact(S c y u p P H).2.1
   ·intro r s
    obtain⟨c,z,s⟩:=hY.1 s
    obtain⟨u,p,H⟩:=L c z
    obtain⟨i,hi,F⟩:=mw z
    obtain⟨y,_,P⟩:=jq t i c (by rw[cw hi,F])
    exact(S c y u p P H).2.2 r s
  have inl : ∀ {cs:List AV} {T:Array Value},cs.length=T.size->(∀(i:Nat) c u,cs[i]?=some c->T[i]?=some u->VR p ι c u) ->∀c∈cs,∃u p,VR p ι c u:=by
   intro cs T R J c z
   obtain⟨i,hi,F⟩:=mw z
   exact⟨T[i]'(by omega),p,J i c _ (by rw[cw hi,F]) (ir (by omega))⟩
  cases hv with
  | v hs=>simp[view]at h;subst h;simp[view,ad]
  | agg R J=>
   simp only[view,aZ]at h
   obtain⟨Q,t,rfl⟩:=h
   obtain⟨I,G,D⟩:=e t (inl R J)
   exact⟨by simp[view,I],by simp only[ad];exact G,by simp only[ad];exact D⟩
  | tup h0 R J=>
   simp only[view,aZ]at h
   obtain⟨Q,t,rfl⟩:=h
   obtain⟨I,G,D⟩:=e t (inl R J)
   exact⟨by simp[view,I],by simp only[ad];exact G,by simp only[ad];exact D⟩
  | bl=>simp[view]at h;subst h;simp[view,ad]
  | iptr=>simp[view]at h;subst h;simp[view,ad]
  | bD s hb hs ha z hn hk K=>
   rename_i r Zs len cap l a c
   simp only[view]at h
   split at h
   ·rename_i b f
    have:=Y r b f (by rw[s];simp)
    exact⟨by simp only[view,this];exact h,by simp[ad],by intro q k;simp only[ad,pT]at k;rw[k,s];simp⟩
   ·cases h
  | dsl s hb hs ha z hn hk K=>
   rename_i r Zs len cap l a c
   simp only[view]at h
   split at h
   ·rename_i b f
    have m:=Y r b f (by rw[s];simp)
    split at h
    ·rename_i J
     obtain⟨d,hlen⟩:=J
     simp only[aZ]at h
     obtain⟨es,O,rfl⟩:=h
     have N:=hS.at s K m
     obtain⟨I,G,D⟩:=e O λc z=>by
      obtain⟨u,H⟩:=Kn N z
      rw[aJ.map,d]at H
      exact⟨u,M,by simpa using H⟩
     exact⟨by simp[view,m,d,hlen,I],by simp only[ad,m,f];rw[G],by
      intro q k
      simp only[ad,f]at k
      rcases eU.1 k with rfl | k
      ·rw[s];simp
      ·exact D q k⟩
    ·cases h
   ·cases h
  | ptr s K=>
   rename_i r i j l
   simp only[view]at h
   split at h
   ·rename_i b f
    have m:=Y r b f (by rw[s];simp)
    cases d:b.arr with
    | true=>
     rw[d]at h
     exact⟨by simp only[view,m,d];exact h,by simp[ad,m,f,d],by intro q k;simp[ad,f,d]at k;rw[k,s];simp⟩
    | false=>
     rw[d]at h
     simp only[gH,if_false,aZ]at h
     obtain⟨es,O,rfl⟩:=h
     have N:=hS.at s K m
     obtain⟨I,G,D⟩:=e O λc z=>by
      obtain⟨u,H⟩:=Kn N z
      rw[aJ.map,d]at H
      exact⟨u,M,by simpa using H⟩
     exact⟨by simp[view,m,d,I],by simp only[ad,m,f,d];rw[if_neg (by simp),if_neg (by simp),G],by
      intro q k
      simp only[ad,f,d]at k
      rw[if_neg (by simp)]at k
      rcases eU.1 k with rfl | k
      ·rw[s];simp
      ·exact D q k⟩
   ·cases h
  | fn W U Zt Z=>
   simp only[view]at h
   split at h
   ·rename_i a' b' Zu V
    cases h
    obtain⟨I,G,h5⟩:=e Zu (inl W Zt)
    obtain⟨D,h4,h6⟩:=e V (inl U Z)
    exact⟨by simp[view,I,D],by simp only[ad];rw[G,h4],by
     intro q k
     simp only[ad,kY]at k
     rcases k with k | k
     ·exact h5 q k
     ·exact h6 q k⟩
   ·cases h
  | yld=>simp[view]at h
  | mp=>simp[view]at h
  | ch=>simp[view]at h
  | uP=>simp[view]at h
  | ifc J=>
   simp only[view,aZ]at h
   obtain⟨y',X,rfl⟩:=h
   obtain⟨I,G,D⟩:=S _ y' _ p X J
   exact⟨by simp[view,I],by simp only[ad];exact G,by simp only[ad];exact D⟩
theorem KI(j:eW M ι C w)(k:yT ι g C){d m:List AV}{us:List Value}(h:d.mapM (view g depth)=some m)(n:jD M ι d us):d.mapM (view C depth)=some m/\ba C d=ba g d /\∀r∈ba g d,ι r≠none:=by
 have inl : ∀c∈d,∃u,VR M ι c u:=by
  intro c b
  obtain⟨i,hi,a⟩:=mw b
  have p:=n.1
  exact⟨us[i]'(by omega),n.2 i c _ (by rw[cw hi,a]) (cw (by omega))⟩
 refine⟨GK h λc b y f=>?_,qL λc b=>?_,?_⟩
 ·obtain⟨u,e⟩:=inl c b
  exact(sq j k depth c y u M f e).1
 ·obtain⟨u,e⟩:=inl c b
  obtain⟨i,hi,a⟩:=mw b
  obtain⟨y,_,f⟩:=jq h i c (by rw[cw hi,a])
  exact(sq j k depth c y u M f e).2.1
 ·intro r l
  obtain⟨c,b,l⟩:=hY.1 l
  obtain⟨u,e⟩:=inl c b
  obtain⟨i,hi,a⟩:=mw b
  obtain⟨y,_,f⟩:=jq h i c (by rw[cw hi,a])
  exact(sq j k depth c y u M f e).2.2 r l
theorem CX(d:yT ι g C){R:List Ref}(B : ∀r∈R,ι r≠none)(h:kX g R=true):kX C R=true:=by
 simp only[kX,da]at h ⊢
 intro r c
 have:=h r c
 cases a:g r with
 | none=>rw[a]at this;simp at this
 | some b=>rw[a]at this;rw[d r b a (B r c)];exact this
theorem Aj(a:yT ι g C){x:AV}{u:Value}(d:VR M ι x u){p:Nat × List AV}(h:bW g x=some p):bW C x=some p:=by
 cases d with
 | bD c=>
  simp only[bW]at h ⊢
  split at h
  ·rename_i b e
   rw[a _ b e (by rw[c];simp)]
   exact h
  ·cases h
 | v f=>cases ‹Value› <;> simp_all [bW]
 | bl=>exact h
 | _=>simp[bW]at h
theorem wE(l:eW M ι C w)(m:yT ι g C){c q:List (Nat × AV)}(h:dt g c=some q)(s : ∀p∈c,∃u,VR M ι p.2 u) :
 dt C c=some q/\ba C (c.map (·.2))=ba g (c.map (·.2)) /\∀r∈ba g (c.map (·.2)),ι r≠none:=by
 have a : ∀p∈c,∃y u,view g depth p.2=some y/\VR M ι p.2 u:=by
  intro p hp
  obtain⟨i,hi,e⟩:=mw hp
  obtain⟨y,_,n⟩:=jq h i p (by rw[cw hi,e])
  obtain⟨u,t⟩:=s p hp
  obtain⟨k,x⟩:=p
  simp only[aZ]at n
  obtain⟨z,v,_⟩:=n
  exact⟨z,u,v,t⟩
 refine⟨?_,?_,?_⟩
 ·unfold dt at h ⊢
  rw[<-h]
  refine mapM_congr λp hp=>?_
  obtain⟨y,u,b,d⟩:=a p hp
  obtain⟨k,x⟩:=p
  simp only at b d
  simp only[b,(sq l m depth x y u M b d).1]
 ·unfold ba
  refine qL λx f=>?_
  obtain⟨p,hp,rfl⟩:=kf.1 f
  obtain⟨y,u,b,d⟩:=a p hp
  exact(sq l m depth p.2 y u M b d).2.1
 ·intro r j
  obtain⟨x,f,j⟩:=hY.1 j
  obtain⟨p,hp,rfl⟩:=kf.1 f
  obtain⟨y,u,b,d⟩:=a p hp
  exact(sq l m depth p.2 y u M b d).2.2 r j
theorem NI{tm:List AV}{a:Act}(d:TR M ι tm a){ps:List (Nat × Operand)}{c:List (Nat × AV)}(h:fj tm ps=some c) : ∀p∈c,∃u,VR M ι p.2 u:=by
 intro p hp
 obtain⟨f,e⟩:=nP (ι:=ι) d h
 obtain⟨i,hi,b⟩:=mw hp
 exact⟨_,(e i p _ (by rw[cw hi,b]) (cw (by omega))).2⟩
theorem GJ{P:Program}(j:eW M ι C w)(k:yT ι g C){t:TypeId}{n:Nat}{c:List (Nat × AV)}{b:aJ}(h:mkSlice P g t n c=some b)(m : ∀p∈c,∃u,VR M ι p.2 u):mkSlice P C t n c=some b:=by
 unfold mkSlice at h ⊢
 split at h
 ·cases h
 ·rename_i e l
  try simp only[l]
  split at h
  ·rename_i q z s a f d
   try simp only[(wE j k a m).1,f,d]
   exact h
  ·cases h
theorem Dl{P:Program}{t:TypeId}{n:Nat}{d:List (Nat × AV)}{b:aJ}(h:mkSlice P g t n d=some b) : ∃c,dt g d=some c:=by
 unfold mkSlice at h
 split at h
 ·cases h
 ·split at h
  ·rename_i c z s a f e;exact⟨c,a⟩
  ·cases h
theorem DV{P:Program}(a:yT ι g C){e:TypeId}{x:AV}{u:Value}(b:VR M ι x u){p:Nat × List AV}(h:kn P g e x=some p):kn P C e x=some p:=by
 unfold kn at h ⊢
 split at h
 ·exact h
 ·exact h
 ·rename_i c d
  exact Aj a b h
theorem GA{P:Program}(k:yT ι g C){r:Ref}{t t':Option TypeId}{s x:AV}{us l:Value}(q:VR M ι s us)(m:VR M ι x l){a:AV × List aJ}(h:dy P g r t t' s x=some a):dy P C r t t' s x=some a:=by
 unfold dy at h ⊢
 split at h
 ·cases h
 ·rename_i e y
  try simp only[y]
  split at h
  ·cases h
  ·rename_i n
   rw[if_neg n]
   split at h
   ·rename_i z by' zz F new u D f c
    try simp only[u,D,f,DV k m c]
    split at h
    ·cases h
    ·rename_i d
     rw[if_neg d]
     cases q with
     | bD p=>
      simp only at h ⊢
      split at h
      ·rename_i b j
       rw[k _ b j (by rw[p];simp)]
       exact h
      ·cases h
     | v G=>(split at h)<;>first | exact h | cases h | simp_all
     | _=>exact h
   ·cases h
theorem DY(d:yT ι g C){r:Ref}(e:ι r≠none){a:List AV}(h:kN g r=some a):kN C r=some a:=by
 unfold kN at h ⊢
 cases c:g r with
 | none=>rw[c]at h;cases h
 | some b=>rw[c]at h;rw[d r b c e];exact h
theorem Gw{P:Program}(e:yT ι g C){t:TypeId}{x:AV}{u:Value}(l:VR M ι x u){k:Option AV}{ok:Bool}{a:AV × List aJ}(h:lN P g t (some x) k ok=some a):lN P C t (some x) k ok=some a:=by
 unfold lN at h ⊢
 split at h
 ·rename_i p s r' q c j d
  cases j
  cases l with | mp f n=>
  try simp only[c,d]
  split at h
  ·rename_i b m
   rw[DY e (by rw[f];simp) m]
   exact h
  ·cases h
 ·cases h
theorem zH{E:Env}{pc:FuncId->List AV->Option AV}(hS:eW M ι C w)(D:yT ι g C){tm:List AV}{a:Act}(O:TR M ι tm a){r:Ref}{o:Oper}{x:AV}{bs:List aJ}
 (h:bR E pc true g tm r o=some (x,bs)):bR E pc true C tm r o=some (x,bs):=by
 unfold bR at h ⊢
 simp only[vc,xc,cond_false,tN]at h ⊢
 split at h
 ·exact h
 ·exact h
 ·exact h
 ·exact h
 ·exact h
 ·exact h
 ·
  rename_i t n ps G
  cases m:fj tm ps.toList with
  | none=>rw[m]at h;simp[fQ]at h
  | some vs=>
   rw[m]at h
   generalize (true && !E.strict o)=dr at h ⊢
   simp only[fQ]at h ⊢
   obtain⟨P,L⟩:=dG.1 h
   simp only[aZ]at L
   obtain⟨b,I,N⟩:=L
   have W:=NI O m
   obtain⟨ws,Zv⟩:=Dl I
   obtain⟨T,h5,h6⟩:=wE hS D Zv W
   rw[h5,CX D h6 P,GJ hS D I W]
   simp[N]
 ·
  rename_i t y G
  unfold lz at h ⊢
  split at h
  ·rename_i r' i j ag n l hg hn
   try simp only[l,hg,hn]
   split at h
   ·rename_i b I
    have m:=ay O l
    generalize a.eval y=u at m
    cases m with | ptr F ZE=>
    rw[D r' b I (by rw[F];simp)]
    exact h
   ·cases h
  ·rename_i esz es i j ag n l hg hn
   try simp only[l,hg,hn]
   exact h
  ·cases h
 ·exact h
 ·exact h
 ·exact h
 ·
  rename_i s d y G
  cases l:aq tm y with
  | none=>rw[l]at h;simp[bC]at h
  | some y'=>
   rw[l]at h
   have m:=ay O l
   unfold bC at h ⊢
   split at h
   ·exact h
   ·exact h
   ·exact h
   ·rename_i z P L N H
    injection H with H
    subst H
    split at h
    ·rename_i S
     try simp only[S,if_true]
     split at h
     ·rename_i p es Zw
      rw[Aj D m Zw]
      exact h
     ·cases h
    ·rename_i S
     try simp only[S]
     split at h
     ·rename_i Zx
      try simp only[Zx,if_true]
      split at h
      ·generalize a.eval y=u at m
       cases m with | bD F=>
       split at h
       ·rename_i k U
        have:=D _ k U (by rw[F];simp)
        rw[this]
        exact h
       ·cases h
      ·cases h
     ·cases h
   ·rename_i H;cases H
 ·exact h
 ·exact h
 ·exact h
 ·exact h
 ·
  rename_i t y k ok G
  cases l:aq tm y with
  | none=>rw[l]at h;simp only[lN]at h;split at h<;>simp_all
  | some y'=>
   rw[l]at h
   exact Gw D (ay O l) h
 ·
  rename_i t y lo hi mx G
  cases l:aq tm y with
  | none=>rw[l]at h;simp only[ca]at h ⊢;exact h
  | some y'=>
   rw[l]at h
   have m:=ay O l
   generalize a.eval y=u at m
   cases m with
   | bD F=>
    simp only[ca]at h ⊢
    split at h
    ·rename_i Zz Zu Zt P L N
     try simp only[P,L,N]
     split at h
     ·rename_i b I
      rw[D _ b I (by rw[F];simp)]
      exact h
     ·cases h
    ·cases h
   | dsl F=>
    simp only[ca]at h ⊢
    split at h
    ·rename_i Zz Zu Zt P L N
     try simp only[P,L,N]
     split at h
     ·rename_i b I
      rw[D _ b I (by rw[F];simp)]
      exact h
     ·cases h
    ·cases h
   | _=>(unfold ca at h ⊢;(repeat' split at h)<;>simp_all)
 ·exact h
 ·exact h
 ·
  rename_i t y z G
  cases l:aq tm y with
  | none=>rw[l]at h;exact h
  | some y'=>
   rw[l]at h
   have m:=ay O l
   generalize a.eval y=u at m
   cases m with
   | bD F=>
    simp only[bE]at h ⊢
    split at h
    ·rename_i k U
     try simp only[U]
     split at h
     ·rename_i e H
      try simp only[H]
      split at h
      ·rename_i esz es cap s f R
       cases f
      ·rename_i r' ZA len cap s f R
       injection f with f
       injection f with e1 Z Y e4
       subst e1
       try simp only[R]
       split at h
       ·rename_i b I
        rw[D _ b I (by rw[F];simp)]
        subst Z;subst Y
        exact h
       ·cases h
      ·rename_i f R
       cases f
      ·cases h
     ·rename_i H
      try simp only[H]
      exact h
    ·cases h
   | dsl F=>
    simp only[bE]at h ⊢
    split at h
    ·rename_i k U
     try simp only[U]
     split at h
     ·rename_i e H
      try simp only[H]
      split at h
      ·rename_i f R
       cases f
      ·rename_i f R
       cases f
      ·rename_i r' ZA len cap s f R
       injection f with f
       injection f with e1 Z Y e4
       subst e1
       try simp only[R]
       split at h
       ·rename_i b I
        rw[D _ b I (by rw[F];simp)]
        subst Z;subst Y
        exact h
       ·cases h
      ·cases h
     ·rename_i H
      try simp only[H]
      exact h
    ·cases h
   | _=>(unfold bE at h ⊢;(repeat' split at h)<;>simp_all)
 ·exact h
 ·exact h
 ·exact h
 ·
  rename_i c G
  split at h
  ·cases h
  ·rename_i args K
   try simp only[K]
   have q:=jW O K
   split at h
   ·rename_i fo S
    try simp only[S]
    obtain⟨p0,h,e0⟩:=aZ.1 h
    refine aZ.2 ⟨p0,?_,e0⟩
    unfold iZ at h ⊢
    split at h
    ·rename_i fi first captured X
     try simp only[X]
     split at h
     ·cases h
     ·rename_i hm
      rw[if_neg hm]
      obtain⟨a',b',ZD,Zy,ZB⟩:=(ay O X).QL
      have V:jD M ι (first++args++captured) (a'.toList++c.args.toList.map a.eval++b'.toList):=(Zy.append q).append ZB
      split at h
      ·rename_i xs Zs
       obtain⟨P,L,N⟩:=KI hS D Zs V
       try simp only[P]
       split at h
       ·rename_i y l
        try simp only[l]
        obtain⟨J,h⟩:=dG.1 h
        rw[L]
        rw[if_pos]
        ·exact h
        ·simp only[jh]at J ⊢
         rcases J with (T | T) | T
         ·exact .inl (.inl T)
         ·exact .inl (.inr (CX D N T))
         ·exact .inr T
       ·cases h
      ·cases h
    ·cases h
   ·cases h
   ·rename_i b S
    try simp only[S]
    unfold cW at h ⊢
    split at h
    ·rename_i r'
     obtain⟨u,Q⟩:=Fi q.1.symm
     rw[Q]at q
     have m:=q.2 0 (.mp r') u rfl rfl
     cases m with | mp F hz=>
     obtain⟨hd,h⟩:=HS.1 h
     simp only[if_neg hd]
     unfold vR at h ⊢
     split at h
     ·rename_i p ZC ht hm
      try simp only[ht]
      simp only[DY D (by rw[F];simp) hm]
      exact h
     ·cases h
    ·exact h
    ·exact h
    ·exact h
    ·rename_i y z
     obtain⟨u,v,Q⟩:=tU q.1.symm
     rw[Q]at q
     exact GA D (q.2 0 y u rfl rfl) (q.2 1 z v rfl rfl) h
    ·exact h
    ·cases h
 ·cases h
end
end
section
theorem NV{a:List Nat}{i:Nat} : ∀(b:List Nat),(xu a b).testBit i=true ->∃j∈b,i=j\/(a.getD j 0).testBit i=true:=by
 intro b
 induction b with
 | nil=>intro h;simp[xu]at h
 | cons j b d=>
  intro h
  simp only[xu,Nat.testBit_or,jh]at h
  rcases h with (h | h) | h
  ·rw[Nat.testBit_two_pow]at h
   exact⟨j,jM ..,.inl (by simpa using h:j=i).symm⟩
  ·exact⟨j,jM ..,.inr h⟩
  ·obtain⟨k,c,h⟩:=d h
   exact⟨k,jI _ c,h⟩
theorem Ht : ∀(b:List Oper)(a:List Nat)(i:Nat),i<a.length->(cN b a).getD i 0=a.getD i 0:=by
 intro b
 induction b with
 | nil=>intro a i h;rfl
 | cons o b c=>
  intro a i h
  simp only[cN]
  rw[c _ i (by simp;omega)]
  simp[List.getD,ia h]
theorem QW : ∀(b:List Oper)(a:List Nat)(i:Nat)(o:Oper),b[i]?=some o ->
 ∀j,((cN b a).getD (a.length+i) 0).testBit j=true ->∃e∈dP o,j=e\/(e<a.length+i/\((cN b a).getD e 0).testBit j=true):=by
 intro b
 induction b with
 | nil=>intro a i o h;simp at h
 | cons o' b l=>
  intro a i o h j c
  cases i with
  | zero=>
   simp at h
   subst h
   simp only[cN,uU]at c ⊢
   rw[Ht b _ a.length (by simp)]at c
   simp only[List.getD,iL (aW _),uY,EF,bO]at c
   obtain⟨e,he,c⟩:=NV _ c
   refine⟨e,he,?_⟩
   rcases c with h | h
   ·exact .inl h
   ·right
    rcases dH e a.length with d | f
    ·refine⟨d,?_⟩
     have k:=Ht b (a++[xu a (dP o')]) e (by simp;omega)
     simp only[List.getD,ia d]at h k ⊢
     rw[k]
     exact h
    ·rw[List.getD,sn f]at h
     simp at h
  | succ i=>
   simp only[cN]at c ⊢
   have:=l (a++[xu a (dP o')]) i o (by simpa using h) j (by
    rw[gG,Bf]
    rwa [show a.length+1+i=a.length+(i+1) by omega])
   rw[gG,Bf]at this
   rwa [show a.length+1+i=a.length+(i+1) by omega]at this
theorem TV{ops:Array Oper}{i j:Nat}{o:Oper}(a:ops[i]?=some o)(b:((cN ops.toList []).getD i 0).testBit j=true) : ∃e∈dP o,j=e\/(e<i/\((cN ops.toList []).getD e 0).testBit j=true):=by
 have:=QW ops.toList [] i o (by simpa using a) j (by simpa using b)
 simpa using this
def mV(ops:Array Oper)(L:Nat->Bool):Prop :=∀(i:Nat)(o:Oper),L i=true->ops[i]?=some o ->∀e∈dP o,L e=true
theorem qQ{ops:Array Oper}{L:Nat->Bool}(k:mV ops L) : ∀(i:Nat)(o:Oper),ops[i]?=some o->(∀e∈dP o,L e=true) ->∀j,((cN ops.toList []).getD i 0).testBit j=true->L j=true:=by
 intro i
 induction i using Nat.strongRecOn with | ind i l=>
 intro o d b j f
 obtain⟨e,he,h | ⟨c,h⟩⟩:=TV d f
 ·rw[h];exact b e he
 ·have hi:i<ops.size:=(fP.1 d).1
  have a:ops[e]?=some (ops[e]'(by omega)):=ir (by omega)
  exact l e c _ a (k e _ (b e he) a) j h
structure RegB (ops:Array Oper):Prop where
 edges : ∀(i:Nat)(o:Oper),ops[i]?=some o ->∀e∈dP o,e<i
 distinct : ∀(i j:Nat)(oi oj:Oper)(d:Tmp),ops[i]?=some oi->ops[j]?=some oj->oi.dst=some d->oj.dst=some d->i=j
 reads : ∀(i j:Nat)(oi oj:Oper)(d:Tmp),ops[i]?=some oi->ops[j]?=some oj->j≠i->oj.dst=some d->d∈oi.looksAt ops->(j<i/\((cN ops.toList []).getD i 0).testBit j=true)\/(i<j/\((cN ops.toList []).getD j 0).testBit i=true)
structure O2 (E:Env) (ops:Array Oper):Prop extends RegB ops where
 site : ∀(i:Nat)(o:Oper),ops[i]?=some o->sf E o=true->gj E o=false->o.dst.isSome=true
 writes : ∀(i j:Nat)(oi oj:Oper),ops[i]?=some oi->ops[j]?=some oj->j<i->sf E oi=true->sf E oj=true->lk E ops i=true->((cN ops.toList []).getD i 0).testBit j=true
theorem Kb{E:Env}{ops:Array Oper}{i j:Nat}{o:Oper}(b:ops[j]?=some o)(a:gj E o=true)(c:j<=i):lk E ops i=true:=by
 unfold lk
 rw[Eu]
 exact⟨j,sj.2 (by omega),by rw[b];exact a⟩
theorem mG{E:Env}{ops:Array Oper}{i:Nat}(h:lk E ops i=false){j:Nat}{o:Oper}(b:ops[j]?=some o)(a:j<=i):gj E o=false:=by
 cases hw:gj E o with
 | false=>rfl
 | true=>rw[Kb b hw a]at h;cases h
theorem We{E:Env}{ops:Array Oper}{i:Nat}(h:lk E ops i=true) : ∃j o,j<=i/\ops[j]?=some o/\gj E o=true:=by
 unfold lk at h
 rw[Eu]at h
 obtain⟨k,a,h⟩:=h
 have c:=sj.1 a
 split at h
 ·rename_i o b;exact⟨k,o,by omega,b,h⟩
 ·cases h
theorem Qs{E:Env}{ops:Array Oper}{i j:Nat}(h:lk E ops j=true)(c:j<=i):lk E ops i=true:=by
 unfold lk at h
 rw[Eu]at h
 obtain⟨k,b,h⟩:=h
 have d:=sj.1 b
 split at h
 ·rename_i o a;exact Kb a h (by omega)
 ·cases h
theorem Kz{ops:Array Oper}(one : ∀(i:Nat)(o:Oper),ops[i]?=some o->(dP o).all (· < i)=true)
 (u : ∀(i j:Nat)(oi a:Oper),ops[i]?=some oi->ops[j]?=some a->j<i->tf ops (cN ops.toList []) oi a i j=true):RegB ops:=by
 have b : ∀(i j:Nat)(oi a:Oper),ops[i]?=some oi->ops[j]?=some a->j<i->(a.dst.isNone=true\/oi.dst≠a.dst)/\(∀d,a.dst=some d->d∈oi.looksAt ops->((cN ops.toList []).getD i 0).testBit j=true) /\
  (∀d,oi.dst=some d->d∈a.looksAt ops->((cN ops.toList []).getD i 0).testBit j=true):=by
  intro i j oi a hi f t
  have:=u i j oi a hi f t
  unfold tf at this
  simp only[aY]at this
  obtain⟨⟨c,k⟩,m⟩:=this
  refine⟨?_,?_,?_⟩
  ·simpa using c
  ·intro d q p
   rw[q]at k
   simp only[jh,gE]at k
   rcases k with k | k
   ·have:(oi.looksAt ops).contains d=true:=EC.2 p
    rw[k]at this;cases this
   ·exact k
  ·intro d q p
   rw[q]at m
   simp only[jh,gE]at m
   rcases m with m | m
   ·have:(a.looksAt ops).contains d=true:=EC.2 p
    rw[m]at this;cases this
   ·exact m
 refine⟨?_,?_,?_⟩
 ·intro i o v e x
  have:=one i o v
  simp only[da,decide_eq_true_eq]at this
  exact this e x
 ·intro i j oi a d hi f l n
  rcases za i j with h | h | h
  ·exfalso
   rcases(b j i a oi f hi h).1 with c | c
   ·rw[l]at c;cases c
   ·exact c (by rw[l,n])
  ·exact h
  ·exfalso
   rcases(b i j oi a hi f h).1 with c | c
   ·rw[n]at c;cases c
   ·exact c (by rw[l,n])
 ·intro i j oi a d hi f s q p
  rcases HH s with h | h
  ·exact .inl ⟨h,(b i j oi a hi f h).2.1 d q p⟩
  ·exact .inr ⟨h,(b j i a oi f hi h).2.2 d q p⟩
theorem Gp{E:Env}{ops:Array Oper}(h:yc E ops=true):O2 E ops:=by
 unfold yc at h
 simp only[da,sj]at h
 have one : ∀(i:Nat)(o:Oper),ops[i]?=some o->(dP o).all (· < i)=true/\(!sf E o||gj E o||o.dst.isSome)=true /\∀(j:Nat)(d:Oper),j<i->ops[j]?=some d->IN E ops (cN ops.toList []) o d i j=true:=by
  intro i o k
  have hi:i<ops.size:=(fP.1 k).1
  have:=h i hi
  rw[k]at this
  simp only[aY,da,sj]at this
  refine⟨by simpa using this.1.1,by simpa using this.1.2,λj d f m=>?_⟩
  have l:=this.2 j f
  rw[m]at l
  exact l
 have split : ∀(i j:Nat)(oi d:Oper),ops[i]?=some oi->ops[j]?=some d->j<i->tf ops (cN ops.toList []) oi d i j=true/\(sf E oi=true->sf E d=true->lk E ops i=true->((cN ops.toList []).getD i 0).testBit j=true):=by
  intro i j oi d hi f e
  have:=(one i oi hi).2.2 j d e f
  unfold IN at this
  rw[aY]at this
  refine⟨this.1,λa b c=>?_⟩
  have n:=this.2
  rw[a,b,c]at n
  simpa using n
 refine⟨Kz (λi o k=>(one i o k).1) λi j oi d hi f e=>(split i j oi d hi f e).1,?_,λi j oi d hi f e=>(split i j oi d hi f e).2⟩
 intro i o k p l
 have:=(one i o k).2.1
 rw[p,l]at this
 simpa using this
theorem B8{E:Env}{pc:FuncId->List AV->Option AV}{tc:pY->List AV->ab->cb}{nt dep:Nat}{ops:Array Oper} : ∀(l:List Oper)(st a:St),kU E pc tc nt dep true ops l st=some a ->
 ∃f:Nat->St,f 0=st/\f l.length=a /\∀i o,l[i]?=some o->evalOp E pc tc nt dep true ops o (f i)=some (f (i+1)):=by
 intro l
 induction l with
 | nil=>
  intro st a h
  simp only[kU,dc]at h
  exact⟨λ_=>st,rfl,h,λi o hi=>by simp at hi⟩
 | cons o l j=>
  intro st a h
  simp only[kU,Jc]at h
  split at h
  ·rename_i b k
   obtain⟨f,c,d,e⟩:=j b a h
   refine⟨λn=>match n with | 0=>st | n+1=>f n,rfl,d,?_⟩
   intro i o' hi
   cases i with
   | zero=>simp at hi;subst hi;simp only;rw[c];exact k
   | succ i=>exact e i o' (by simpa using hi)
  ·cases h
inductive Xd (E:Env) (pc:FuncId->List AV->Option AV) (nt dep:Nat) (ops:Array Oper) (o:Oper) (st st2:St):Prop
 | no (hw:wanted ops st.tm o=some false) (tm':List AV) (ht:ct nt st.tm o.dst AV.undef=some tm') (he:st2=⟨tm',st.hp⟩)
 | quiet (hw:wanted ops st.tm o=some true) (x:AV) (bs:List aJ) (hq:bR E pc true st.hp.get st.tm ⟨dep,o.dst.getD 0,st.hp.gen dep (o.dst.getD 0),0⟩ o=some (x,bs)) (tm':List AV)
  (ht:ct nt st.tm o.dst x=some tm') (he:st2=⟨tm',keyed ⟨dep,o.dst.getD 0,st.hp.gen dep (o.dst.getD 0),0⟩ 0 bs st.hp⟩)
 | write (hk:gj E o=true)
theorem lD{E:Env}{pc:FuncId->List AV->Option AV}{tc:pY->List AV->ab->cb}{nt dep:Nat}{ops:Array Oper}{o:Oper}{st a:St}(h:evalOp E pc tc nt dep true ops o st=some a):Xd E pc nt dep ops o st a:=by
 unfold evalOp at h
 split at h
 ·cases h
 ·rename_i b
  simp only[aZ]at h
  obtain⟨tm',c,rfl⟩:=h
  exact .no b tm' c rfl
 ·rename_i b
  split at h
  ·rename_i x bs e
   simp only[aZ]at h
   obtain⟨tm',c,rfl⟩:=h
   exact .quiet b x bs e tm' c rfl
  ·split at h
   ·cases h
   ·rename_i d
    refine .write ?_
    simpa using d
theorem FT{E:Env}{o:Oper}(h:gj E o=true):iz o.op=true:=by
 unfold gj at h
 have d:(E.fN o&&wi o.op)=true->iz o.op=true:=by
  intro h
  replace h:=(sk.1 h).2
  unfold wi at h
  split at h
  ·rename_i a;rw[a];rfl
  ·cases h
 by_cases e:(E.fN o&&wi o.op)=true
 ·exact d e
 replace h:=(Bc.1 h).resolve_right e
 replace h:=(sk.1 h).2
 unfold Sc at h
 split at h
 ·rename_i a;rw[a];rfl
 ·rename_i a;rw[a];rfl
 ·rename_i a;rw[a];rfl
 ·rename_i a;rw[a];rfl
 ·rename_i a;rw[a];rfl
 ·rename_i c a
  rw[a]
  unfold iz
  split at h
  ·rename_i b;simp[b]
  ·rename_i b;simp[b]
  ·rename_i b;simp[b]
  ·rename_i b;simp[b]
  ·cases h
 ·cases h
theorem Lt{E:Env}{pc:FuncId->List AV->Option AV}{g:cf}{tm:List AV}{r:Ref}{o:Oper}(d:iz o.op=false){x:AV}{bs:List aJ}(h:bR E pc true g tm r o=some (x,bs)) :
 bs=[] /\∀C r',bR E pc true C tm r' o=some (x,bs):=by
 have v : ∀ {y:Option AV},gJ y=some (x,bs)->bs=[]:=λh=>(nG h).2
 unfold bR at h ⊢
 simp only[vc,xc,cond_false,tN]at h ⊢
 split at h
 ·exact⟨v h,λ_ _=>h⟩
 ·exact⟨v h,λ_ _=>h⟩
 ·refine⟨?_,λ_ _=>h⟩
  unfold Ch at h
  split at h
  ·exact v h
  ·exact v h
  ·cases h
 ·rename_i a;rw[a]at d;simp[iz]at d
 ·rename_i a;rw[a]at d;simp[iz]at d
 ·refine⟨?_,λ_ _=>h⟩
  unfold kW at h
  (repeat' split at h)<;>(try simp_all)<;>(try (obtain⟨_,_,_,h⟩:=h;exact h))
 ·rename_i a;rw[a]at d;simp[iz]at d
 ·rename_i a;rw[a]at d;simp[iz]at d
 ·refine⟨?_,λ_ _=>h⟩
  unfold Gu at h
  (repeat' split at h)<;>(try simp_all)<;>(try (obtain⟨_,_,_,h⟩:=h;exact h))
 ·refine⟨?_,λ_ _=>h⟩
  unfold bK at h
  (repeat' split at h)<;>first | exact v h | (simp_all;done)
 ·exact⟨v h,λ_ _=>h⟩
 ·rename_i a;rw[a]at d;simp[iz]at d
 ·refine⟨?_,λ_ _=>h⟩
  unfold tK at h
  (repeat' split at h)<;>(try simp_all)<;>(try (obtain⟨_,_,_,h⟩:=h;exact h))
 ·refine⟨?_,λ_ _=>h⟩
  unfold uB at h
  (repeat' split at h)<;>(try simp_all)<;>(try (obtain⟨_,_,_,h⟩:=h;exact h))
 ·rename_i a;rw[a]at d;simp[iz]at d
 ·rename_i a;rw[a]at d;simp[iz]at d
 ·rename_i a;rw[a]at d;simp[iz]at d
 ·rename_i a;rw[a]at d;simp[iz]at d
 ·refine⟨?_,λ_ _=>h⟩
  unfold jA at h
  (repeat' split at h)<;>(try simp_all)<;>(try (obtain⟨_,_,_,h⟩:=h;exact h))
 ·refine⟨?_,λ_ _=>h⟩
  unfold pE at h
  (repeat' split at h)<;>first | exact v h | (simp_all;done)
 ·rename_i a;rw[a]at d;simp[iz]at d
 ·refine⟨?_,λ_ _=>h⟩
  unfold rV at h
  (repeat' split at h)<;>first | exact v h | (simp_all;done)
 ·refine⟨?_,λ_ _=>h⟩
  unfold vS at h
  (repeat' split at h)<;>(try simp_all)<;>(try (obtain⟨_,_,_,h⟩:=h;exact h))
 ·refine⟨?_,λ_ _=>h⟩
  unfold pj at h
  (repeat' split at h)<;>first | exact v h | (simp_all;done)
 ·rename_i c a
  rw[a]at d
  simp only[iz]at d
  split at h
  ·cases h
  ·rename_i args e
   split at h
   ·rename_i f;rw[f]at d;simp at d
   ·cases h
   ·rename_i b f
    rw[f]at d
    unfold cW at h
    split at h
    ·have j:IW c=false:=by simpa using d
     unfold IW at j
     rw[j]at h
     simp at h
    ·rename_i k
     refine⟨?_,λ_ _=>by simpa [e,f,cW] using h⟩
     unfold De at h
     (repeat' split at h)<;>(try simp_all)<;>(try (obtain⟨_,_,_,h⟩:=h;exact h))<;>(try (obtain⟨n,_,h⟩:=fD.1 h;simp at h;exact h.2))
    ·exact⟨v h,λ_ _=>by simpa [e,f,cW] using h⟩
    ·exact⟨v h,λ_ _=>by simpa [e,f,cW] using h⟩
    ·simp at d
    ·simp at d
    ·cases h
 ·cases h
theorem GO{o:Op}(h:GP o=true) : ∃c,o = .call c/\c.callee = .builtin .len:=by
 unfold GP at h
 split at h
 ·rename_i c
  split at h
  ·rename_i a;exact⟨c,rfl,a⟩
  ·cases h
 ·cases h
theorem fA{E:Env}{o:Oper}(h:gj E o=true):sf E o=true:=by
 unfold sf
 rw[FT h,hU]
 cases b:GP o.op with
 | false=>simp
 | true=>
  exfalso
  obtain⟨c,d,a⟩:=GO b
  simp[gj,d,Sc,a,wi]at h
theorem sR{E:Env}{pc:FuncId->List AV->Option AV}{g:cf}{tm:List AV}{r:Ref}{o:Oper}(a:sf E o=false){x:AV}{bs:List aJ}(h:bR E pc true g tm r o=some (x,bs)) :
 bs=[] /\∀C r',bR E pc true C tm r' o=some (x,bs):=by
 cases hp:iz o.op with
 | false=>exact Lt hp h
 | true=>
  unfold sf at a
  rw[hp,hU]at a
  obtain⟨j,k⟩:=sk.1 (by simpa using a:(E.strict o&&GP o.op)=true)
  obtain⟨c,f,e⟩:=GO k
  unfold bR at h ⊢
  simp only[f,e,j,Bool.true_or,u9]at h ⊢
  split at h
  ·cases h
  ·rename_i args b
   unfold cW at h ⊢
   split at h
   ·simp at h
   ·rename_i y d
    refine⟨?_,λ_ _=>?_⟩
    ·unfold De at h
     (repeat' split at h)<;>(try simp_all)<;>(try (obtain⟨_,_,_,h⟩:=h;exact h))<;>(try (obtain⟨n,_,h⟩:=fD.1 h;simp at h;exact h.2))
    ·exact h
   all_goals (first | cases h | simp_all)
end
section
def eK(ops:Array Oper)(dep:Nat)(sts:Nat->St)(i:Nat):Ref:=⟨dep,(gx ops i).getD 0,(sts i).hp.gen dep ((gx ops i).getD 0),0⟩
def newAt(E:Env)(pc:FuncId->List AV->Option AV)(ops:Array Oper)(dep:Nat)(sts:Nat->St)(i:Nat):List aJ:=
 match ops[i]? with
 | none=>[]
 | some o=>if sf E o && !lk E ops i then
  match wanted ops (sts i).tm o with
  | some true=>(match bR E pc true (sts i).hp.get (sts i).tm (eK ops dep sts i) o with
   | some (_,bs)=>bs
   | none=>[])
  | _=>[]
  else []
def gF(a:cf)(key:Nat->Ref)(new:Nat->List aJ)(L:Nat->Bool):Nat->cf
 | 0=>a
 | i+1=>if L i then oQ (gF a key new L i) (key i) (new i) else gF a key new L i
def mt(key:Nat->Ref)(new:Nat->List aJ)(i:Nat)(q:Ref):Prop:=q.d=(key i).d/\q.t=(key i).t/\q.g=(key i).g/\q.k<(new i).length
theorem oY{b:cf}{key:Nat->Ref}{new:Nat->List aJ}{L:Nat->Bool}{q:Ref} : ∀n,(∀i,i<n->L i=true ->¬mt key new i q)->gF b key new L n q=b q:=by
 intro n
 induction n with
 | zero=>intro _;rfl
 | succ n a=>
  intro h
  simp only[gF]
  split
  ·rename_i c
   exact(if_neg (h n (nD n) c)).trans (a λi hi=>h i (AQ hi))
  ·exact a λi hi=>h i (AQ hi)
theorem xy{c:cf}{key:Nat->Ref}{new:Nat->List aJ}{L:Nat->Bool}{q:Ref}(a : ∀i j,mt key new i q->mt key new j q->i=j){i:Nat}(d:mt key new i q)(f:L i=true) :
 ∀n,i<n->gF c key new L n q=(new i)[q.k]?:=by
 intro n
 induction n with
 | zero=>intro h;omega
 | succ n l=>
  intro h
  simp only[gF]
  by_cases b:i=n
  ·subst b
   rw[if_pos f]
   exact if_pos d
  ·have:gF c key new L n q=(new i)[q.k]?:=l (by omega)
   split
   ·exact(if_neg (λe=>b (a i n d e))).trans this
   ·exact this
section
variable{E:Env}{pc:FuncId->List AV->Option AV}{tc:pY->List AV->ab->cb}{nt dep:Nat}{ops:Array Oper}{sts:Nat->St}
def TS(ops:Array Oper)(sts:Nat->St)(L:Nat->Bool)(tm:List AV):Prop:=
 ∀t,(∀i,i<ops.size->L i=true->gx ops i=some t->bZ tm t=bZ (sts (i+1)).tm t)/\((∀i,i<ops.size->L i=true->gx ops i≠some t)->bZ tm t=bZ (sts 0).tm t)
theorem rp{tm tm':List AV}{dst:Option Tmp}{x:AV}(h:ct nt tm dst x=some tm')(t:Nat):bZ tm' t=if dst=some t then x else bZ tm t:=by
 unfold ct at h
 split at h
 ·injection h with h;subst h;simp
 ·rename_i d
  obtain⟨_,h⟩:=dG.1 h
  injection h with h
  subst h
  rw[oB]
  by_cases a:t=d
  ·subst a;simp
  ·rw[if_neg a,if_neg (by intro e;injection e with e;exact a e.symm)]
theorem jn{tm tm' tm1:List AV}{dst:Option Tmp}{x:AV}(h:ct nt tm dst x=some tm') : ∃a,ct nt tm1 dst x=some a:=by
 unfold ct at h ⊢
 cases dst with
 | none=>exact⟨_,rfl⟩
 | some d=>
  simp only at h ⊢
  obtain⟨b,_⟩:=dG.1 h
  rw[if_pos b]
  exact⟨_,rfl⟩
theorem Gc{o:Oper}{i:Nat}(A:evalOp E pc tc nt dep true ops o (sts i)=some (sts (i+1))) : ∃x,ct nt (sts i).tm o.dst x=some (sts (i+1)).tm:=by
 unfold evalOp at A
 split at A
 ·cases A
 ·simp only[aZ]at A
  obtain⟨tm',a,he⟩:=A
  exact⟨_,by rw[<-he];exact a⟩
 ·split at A
  ·simp only[aZ]at A
   obtain⟨tm',a,he⟩:=A
   exact⟨_,by rw[<-he];exact a⟩
  ·split at A
   ·cases A
   ·split at A
    ·simp only[aZ]at A
     obtain⟨tm',a,he⟩:=A
     exact⟨_,by rw[<-he];exact a⟩
    ·cases A
section
variable(B:RegB ops)(A : ∀i o,ops[i]?=some o->evalOp E pc tc nt dep true ops o (sts i)=some (sts (i+1)))
include B A
omit A in
theorem Ou{i j:Nat}{t:Nat}(hi:gx ops i=some t)(a:gx ops j=some t):i=j:=by
 simp only[gx,fD]at hi a
 obtain⟨oi,f,d⟩:=hi
 obtain⟨c,e,b⟩:=a
 exact B.distinct i j oi c t f e d b
theorem ER : ∀i,i<=ops.size->TS ops sts (λj=>decide (j<i)) (sts i).tm:=by
 intro i
 induction i with
 | zero=>intro _ t;exact⟨λj _ c=>by simp at c,λ_=>rfl⟩
 | succ i u=>
  intro l t
  have d:i<ops.size:=l
  have n:=ir d
  obtain⟨x,s⟩:=Gc (A i _ n)
  have m:gx ops i=ops[i].dst:=by simp[gx,n]
  have p:=rp s t
  obtain⟨v,q⟩:=u (by omega) t
  refine⟨λj c b h=>?_,λk=>?_⟩
  ·simp only[decide_eq_true_eq]at b
   by_cases f:j=i
   ·subst f;rfl
   ·have a:ops[i].dst≠some t:=by
     intro e
     rw[<-m]at e
     exact f (Ou B h e)
    rw[p,if_neg a]
    exact v j c (by simp;omega) h
  ·have a:ops[i].dst≠some t:=by rw[<-m];exact k i d (by simp)
   rw[p,if_neg a]
   exact q λj c b=>k j c (by simp at b ⊢;omega)
theorem Cd{L:Nat->Bool}(s:mV ops L){i:Nat}{o:Oper}(p:ops[i]?=some o)(hi:L i=false)(q : ∀e∈dP o,L e=true){tm:List AV}(D:TS ops sts L tm){t:Nat}(v:t∈o.looksAt ops) :
 bZ tm t=bZ (sts i).tm t:=by
 have G:i<ops.size:=(fP.1 p).1
 obtain⟨H,x⟩:=D t
 obtain⟨y,F⟩:=ER B A i (by omega) t
 by_cases k : ∃j,j<ops.size/\L j=true/\gx ops j=some t
 ·obtain⟨j,l,c,a⟩:=k
  have b:=a
  simp only[gx,fD]at b
  obtain⟨n,f,h⟩:=b
  have u:j≠i:=by intro e;rw[e,hi]at c;cases c
  rcases B.reads i j o n t p f u h v with ⟨m,_⟩ | ⟨_,d⟩
  ·rw[H j l c a,y j l (by simpa using m) a]
  ·have:=qQ s j n f (λe I=>s j n c f e I) i d
   rw[hi]at this
   cases this
 ·rw[x λj l c a=>k ⟨j,l,c,a⟩]
  refine(F λj l c a=>?_).symm
  simp only[decide_eq_true_eq]at c
  have b:=a
  simp only[gx,fD]at b
  obtain⟨n,f,h⟩:=b
  rcases B.reads i j o n t p f (by omega) h v with ⟨_,d⟩ | ⟨z,_⟩
  ·exact k ⟨j,l,qQ s i o p q j d,a⟩
  ·omega
omit A in
theorem qe{L s:Nat->Bool}{i:Nat}{o:Oper}(u:ops[i]?=some o)(b : ∀j,s j=true↔(L j=true\/j=i))(hi:L i=false){tm tm':List AV}(z:TS ops sts L tm){x:AV}(y:ct nt (sts i).tm o.dst x=some (sts (i+1)).tm)
 (n:ct nt tm o.dst x=some tm'):TS ops sts s tm':=by
 intro t
 have p:i<ops.size:=(fP.1 u).1
 have m:gx ops i=o.dst:=by simp[gx,u]
 obtain⟨F,v⟩:=z t
 have D:=rp y t
 have l:=rp n t
 refine⟨λj k d a=>?_,λf=>?_⟩
 ·rcases(b j).1 d with h | h
  ·have q:j≠i:=by intro e;rw[e,hi]at h;cases h
   have c:o.dst≠some t:=by rw[<-m];intro e;exact q (Ou B a e)
   rw[l,if_neg c]
   exact F j k h a
  ·subst h
   rw[m]at a
   rw[l,if_pos a,D,if_pos a]
 ·have c:o.dst≠some t:=by rw[<-m];exact f i p ((b i).2 (.inr rfl))
  rw[l,if_neg c]
  exact v λj k d=>f j k ((b j).2 (.inl d))
end
variable(B:O2 E ops)(A : ∀i o,ops[i]?=some o->evalOp E pc tc nt dep true ops o (sts i)=some (sts (i+1)))
include B A
abbrev Wp(ops:Array Oper)(dep:Nat)(sts:Nat->St):Nat->Ref:=eK ops dep sts
omit B A in
theorem po{i:Nat}(h:newAt E pc ops dep sts i≠[]) : ∃o,ops[i]?=some o/\sf E o=true/\lk E ops i=false:=by
 unfold newAt at h
 split at h
 ·exact absurd rfl h
 ·rename_i o b
  split at h
  ·rename_i a
   simp only[aY,gE]at a
   exact⟨o,b,a.1,a.2⟩
  ·exact absurd rfl h
omit A in
theorem Ff{q:Ref}(i j:Nat)(h:mt (eK ops dep sts) (newAt E pc ops dep sts) i q)(k:mt (eK ops dep sts) (newAt E pc ops dep sts) j q):i=j:=by
 have ne : ∀ {i},mt (eK ops dep sts) (newAt E pc ops dep sts) i q->newAt E pc ops dep sts i≠[]:=by
  intro i h e
  have:=h.2.2.2
  rw[e]at this
  simp at this
 obtain⟨oi,d,p,u⟩:=po (ne h)
 obtain⟨f,c,m,x⟩:=po (ne k)
 obtain⟨l,a⟩:=fO.1 (B.site i oi d p (mG u d (aW _)))
 obtain⟨s,b⟩:=fO.1 (B.site j f c m (mG x c (aW _)))
 have v:q.t=l:=by have:=h.2.1;simpa [eK,gx,d,a] using this
 have n:q.t=s:=by have:=k.2.1;simpa [eK,gx,c,b] using this
 exact B.distinct i j oi f l d c a (by rw[b,<-v,<-n])
def Ry(E:Env)(ops:Array Oper)(n:Nat):Prop :=∀j o,j<n->ops[j]?=some o->gj E o=false
omit B A in
theorem NQ{n:Nat}(b:Ry E ops (n+1)):lk E ops n=false:=by
 cases h:lk E ops n with
 | false=>rfl
 | true=>
  unfold lk at h
  rw[Eu]at h
  obtain⟨k,c,h⟩:=h
  have a:=sj.1 c
  split at h
  ·rename_i o d;rw[b k o a d]at h;cases h
  ·cases h
omit B in
theorem ET{n:Nat}(l:n<=ops.size)(c:Ry E ops n):(sts n).hp.get=gF (sts 0).hp.get (eK ops dep sts) (newAt E pc ops dep sts) (λ_=>true) n:=by
 induction n with
 | zero=>rfl
 | succ n q=>
  have b:=ir (show n<ops.size from l)
  have f:=q (by omega) (λj o t=>c j o (by omega))
  simp only[gF,if_true]
  rw[<-f]
  have p:gx ops n=ops[n].dst:=by simp[gx,b]
  have h:eK ops dep sts n=⟨dep,ops[n].dst.getD 0,(sts n).hp.gen dep (ops[n].dst.getD 0),0⟩:=by simp[eK,p]
  rcases lD (A n _ b)with ⟨a,tm',m,he⟩ | ⟨a,x,bs,k,tm',m,he⟩ | e
  ·have:newAt E pc ops dep sts n=[]:=by
    unfold newAt
    rw[b]
    simp only[a]
    split<;>rfl
   rw[this,kP,he]
  ·have d:=NQ c
   rw[he]
   simp only
   rw[ab.kF,<-h]
   congr 1
   unfold newAt
   rw[b]
   simp only[a,h,k,d,xK,u9]
   cases s:sf E ops[n] with
   | true=>rfl
   | false=>
    rw[(sR s k).1]
    rfl
  ·exact absurd e (by rw[c n _ (nD n) b];simp)
omit B in
theorem F8{n:Nat}(G:n<=ops.size)(s:Ry E ops n)(d t:Nat):(sts 0).hp.gen d t<=(sts n).hp.gen d t /\
 ((∀j,j<n->newAt E pc ops dep sts j≠[] ->¬(d=dep/\t=(gx ops j).getD 0))->(sts n).hp.gen d t=(sts 0).hp.gen d t) /\
 ∀j,j<n->newAt E pc ops dep sts j≠[]->d=dep->t=(gx ops j).getD 0->(eK ops dep sts j).g<(sts n).hp.gen d t:=by
 induction n with
 | zero=>exact⟨aW _,λ_=>rfl,λj k=>by omega⟩
 | succ n K=>
  have l:=ir (show n<ops.size from G)
  obtain⟨i1,i2,i3⟩:=K (by omega) (λj o k=>s j o (by omega))
  have y:gx ops n=ops[n].dst:=by simp[gx,l]
  have D:eK ops dep sts n=⟨dep,ops[n].dst.getD 0,(sts n).hp.gen dep (ops[n].dst.getD 0),0⟩:=by simp[eK,y]
  have same:(sts (n+1)).hp=(sts n).hp->newAt E pc ops dep sts n=[]->(sts 0).hp.gen d t<=(sts (n+1)).hp.gen d t /\
   ((∀j,j<n+1->newAt E pc ops dep sts j≠[] ->¬(d=dep/\t=(gx ops j).getD 0))->(sts (n+1)).hp.gen d t=(sts 0).hp.gen d t) /\
   ∀j,j<n+1->newAt E pc ops dep sts j≠[]->d=dep->t=(gx ops j).getD 0->(eK ops dep sts j).g<(sts (n+1)).hp.gen d t:=by
   intro L H
   rw[L]
   refine⟨i1,λh=>i2 λj k=>h j (by omega),λj k a=>?_⟩
   have:j≠n:=by intro e;rw[e]at a;exact a H
   exact i3 j (by omega) a
  rcases lD (A n _ l)with ⟨c,tm',J,he⟩ | ⟨c,x,bs,F,tm',J,he⟩ | v
  ·refine same (by rw[he]) ?_
   unfold newAt
   rw[l]
   simp only[c]
   split<;>rfl
  ·have u:=NQ s
   have m:newAt E pc ops dep sts n=bs:=by
    unfold newAt
    rw[l]
    simp only[c,D,F,u,xK,u9]
    cases I:sf E ops[n] with
    | true=>rfl
    | false=>rw[(sR I F).1];rfl
   by_cases q:bs=[]
   ·refine same ?_ (by rw[m,q])
    rw[he,q]
    rfl
   ·rw[he]
    simp only
    rw[ab.jV]
    simp only[ne_eq,q,not_false_eq_true,and_true]
    by_cases b:d=dep/\t=ops[n].dst.getD 0
    ·rw[if_pos b]
     obtain⟨rfl,rfl⟩:=b
     refine⟨by omega,λh=>?_,λj k a z p=>?_⟩
     ·exact absurd ⟨rfl,by rw[y]⟩ (h n (nD n) (by rw[m];exact q))
     ·by_cases f:j=n
      ·rw[f,D];exact nD _
      ·have:=i3 j (by omega) a rfl p
       omega
    ·rw[if_neg b]
     refine⟨i1,λh=>i2 λj k=>h j (by omega),λj k a z p=>?_⟩
     by_cases f:j=n
     ·subst f
      exact absurd ⟨z,by rw[p,y]⟩ b
     ·exact i3 j (by omega) a z p
  ·exact absurd v (by rw[s n _ (nD n) l];simp)
theorem D4{ι:Map}(s:o6 ι (sts 0).hp){i:Nat}{o:Oper}(c:ops[i]?=some o)(t:sf E o=true)(h:gj E o=false)(q:Ry E ops i)(k:Nat):ι { eK ops dep sts i with k:=k}=none:=by
 have hi:i<ops.size:=(fP.1 c).1
 obtain⟨d,p⟩:=fO.1 (B.site i o c t h)
 have e:gx ops i=some d:=by simp[gx,c,p]
 obtain⟨_,v,_⟩:=F8 (pc:=pc) (tc:=tc) (nt:=nt) (dep:=dep) A (gh hi) q dep d
 have z:(sts i).hp.gen dep d=(sts 0).hp.gen dep d:=v λj D m y=>by
  obtain⟨n,a,f,l⟩:=po m
  obtain⟨x,b⟩:=fO.1 (B.site j n a f (mG l a (aW _)))
  have:d=x:=by have:=y.2;simpa [gx,a,b] using this
  exact absurd (B.distinct i j o n d c a p (by rw[b,this])) (by omega)
 have u:eK ops dep sts i=⟨dep,d,(sts 0).hp.gen dep d,0⟩:=by simp[eK,e,z]
 rw[u]
 exact s.fresh dep d k
end
end
section
theorem vw{ops:Array Oper}{o:Oper}{tm tm':List AV}(h : ∀t∈o.looksAt ops,bZ tm t=bZ tm' t):yM tm tm' o.op.operands.toList:=by
 intro x a
 cases x with
 | tmp t=>
  simp only[aq]
  rw[h t]
  unfold Oper.looksAt
  exact EB _ (List.mem_filterMap.2 ⟨_,a,rfl⟩)
 | _=>rfl
theorem tp{ops:Array Oper}{o:Oper}{tm tm':List AV}(h : ∀t∈o.looksAt ops,bZ tm t=bZ tm' t):wanted ops tm o=wanted ops tm' o:=by
 unfold wanted
 cases c:o.guard with
 | none=>rfl
 | some p=>
  obtain⟨j,b⟩:=p
  simp only
  cases a:(ops[j]?).bind (·.dst) with
  | none=>rfl
  | some t=>
   simp only
   rw[h t]
   unfold Oper.looksAt
   rw[c]
   simp[a]
theorem Al{p p':Nat->Bool}{i:Nat}(b : ∀j,p' j=true->p j=true)(d:p i=true)(e:p' i=false) : ∀l:List Nat,i∈l->l.countP p'<l.countP p:=by
 intro l hi
 have mono : ∀l:List Nat,l.countP p'<=l.countP p:=λl=>List.countP_mono_left λx _=>b x
 induction l with
 | nil=>cases hi
 | cons a l f=>
  simp only[List.countP_cons]
  by_cases c:a=i
  ·subst c
   have:=mono l
   rw[d,e]
   simp
   omega
  ·have:=f (by simpa [nE c] using hi)
   have h:(if p' a=true then 1 else 0)<=(if p a=true then 1 else 0):=by
    by_cases hp:p' a=true
    ·rw[if_pos hp,if_pos (b a hp)];exact aW _
    ·rw[if_neg hp];exact ui _
   omega
theorem Ec{E:Env}{pc:FuncId->List AV->Option AV}{tc:pY->List AV->ab->cb}{nt dep:Nat}{ops:Array Oper}{o:Oper}{st c:St}{tm1:List AV}(h : ∀t∈o.looksAt ops,bZ tm1 t=bZ st.tm t)
 (a:evalOp E pc tc nt dep true ops o st=some c) : ∃x b,ct nt st.tm o.dst x=some c.tm/\ct nt tm1 o.dst x=some b/\evalOp E pc tc nt dep true ops o ⟨tm1,st.hp⟩=some ⟨b,c.hp⟩:=by
 have e:=vw h
 have f:=tp h
 unfold evalOp at a ⊢
 simp only
 rw[f,pv e,Oj e]
 have d : ∀ {x:AV} {H:ab},(ct nt st.tm o.dst x).map (λtm=>(⟨tm,H⟩:St))=some c ->∃j b,ct nt st.tm o.dst j=some c.tm/\ct nt tm1 o.dst j=some b/\(ct nt tm1 o.dst x).map (λtm=>(⟨tm,H⟩:St))=some ⟨b,c.hp⟩:=by
  intro x H n
  obtain⟨tm',l,rfl⟩:=aZ.1 n
  obtain⟨b,m⟩:=jn (tm1:=tm1) l
  exact⟨x,b,l,m,by rw[m];rfl⟩
 revert a
 generalize wanted ops st.tm o=W
 generalize bR E pc true st.hp.get st.tm ⟨dep,o.dst.getD 0,st.hp.gen dep (o.dst.getD 0),0⟩ o=X
 generalize evalW E pc tc st.hp st.tm ⟨dep,o.dst.getD 0,st.hp.gen dep (o.dst.getD 0),0⟩ o=Y
 intro a
 rcases W with _ | ⟨_ | _⟩
 ·cases a
 ·exact d a
 ·rcases X with _ | ⟨x,bs⟩
  ·simp only at a ⊢
   by_cases k:(true && !gj E o)=true
   ·rw[if_pos k]at a;cases a
   ·rw[if_neg k]at a ⊢
    rcases Y with _ | ⟨x,H⟩
    ·cases a
    ·exact d a
  ·exact d a
section
variable{E:Env}{pc:FuncId->List AV->Option AV}{tc:pY->List AV->ab->cb}{nt dep:Nat}{ops:Array Oper}{sts:Nat->St}
variable(B:O2 E ops)(A : ∀i o,ops[i]?=some o->evalOp E pc tc nt dep true ops o (sts i)=some (sts (i+1)))
abbrev gL(E:Env)(pc:FuncId->List AV->Option AV)(ops:Array Oper)(dep:Nat)(sts:Nat->St)(L:Nat->Bool)(n:Nat):cf:=gF (sts 0).hp.get (eK ops dep sts) (newAt E pc ops dep sts) L n
structure O5 (E:Env) (pc:FuncId->List AV->Option AV) (ops:Array Oper) (dep:Nat) (sts:Nat->St) (M:Mem) (ι:Map) (w:World) (L:Nat->Bool) (M1:Mem) (ι1:Map) (w1:World):Prop where
 quiet : ∀i o,L i=true->ops[i]?=some o->sf E o=true->lk E ops i=false
 sim:eW M1 ι1 (gL E pc ops dep sts L ops.size) w1
 fwd:pN M ι (sts 0).hp.get w M1 ι1 (gL E pc ops dep sts L ops.size) w1
 dom : ∀q,ι q=none->(∀i,i<ops.size->L i=true ->¬mt (eK ops dep sts) (newAt E pc ops dep sts) i q)->ι1 q=none
structure L9 (E:Env) (ops:Array Oper) (sts:Nat->St) (M:Mem) (ι:Map) (w:World) (L:Nat->Bool) (M1:Mem) (ι1:Map) (w1:World) (k:Nat):Prop where
 le:k<=ops.size
 wrote : ∃j o,j<k/\ops[j]?=some o/\gj E o=true
 upto : ∀i o,ops[i]?=some o->sf E o=true->(L i=true↔i<k)
 sim:eW M1 ι1 (sts k).hp.get w1
 dom:o6 ι1 (sts k).hp
 fwd:pN M ι (sts 0).hp.get w M1 ι1 (sts k).hp.get w1
structure Inv (E:Env) (pc:FuncId->List AV->Option AV) (nt:Nat) (ops:Array Oper) (dep:Nat) (sts:Nat->St) (M:Mem) (ι:Map) (w:World) (ds:List Deferred) (L:Nat->Bool) (a1:Act) (w1:World):Prop where
 closed:mV ops L
 defers:a1.defers=ds
 at_ : ∃M1 ι1 tm1,TS ops sts L tm1/\TR M1 ι1 tm1 a1/\a1.tmps.size=nt/\(O5 E pc ops dep sts M ι w L M1 ι1 w1 \/∃k,L9 E ops sts M ι w L M1 ι1 w1 k)
theorem mV.next{L d:Nat->Bool}{i:Nat}{o:Oper}(m:mV ops L)(n:ops[i]?=some o)(c : ∀e∈dP o,L e=true)(b : ∀j,d j=true↔(L j=true\/j=i)):mV ops d:=by
 intro j l k a e f
 rcases(b j).1 k with h | h
 ·exact(b e).2 (.inl (m j l h a e f))
 ·subst h
  rw[n]at a
  injection a with a
  subst a
  exact(b e).2 (.inl (c e f))
theorem LC(r:Ref)(H:ab):keyed r 0 [] H=H:=rfl
include A in
theorem GV{k:Nat} : ∀n,k<=n->n<=ops.size->(∀j o,k<=j->j<n->ops[j]?=some o->sf E o=false)->(sts n).hp=(sts k).hp:=by
 intro n
 induction n with
 | zero=>intro h _ _;rw[AY.1 h]
 | succ n s=>
  intro t l h
  rcases dH n k with p | c
  ·rw[show k=n+1 by omega]
  ·have f:=ir (show n<ops.size from l)
   have e:=h n _ c (nD n) f
   rw[<-s c (by omega) λj o a b=>h j o a (by omega)]
   rcases lD (A n _ f)with ⟨_,tm',m,he⟩ | ⟨_,x,bs,q,tm',m,he⟩ | d
   ·rw[he]
   ·rw[he,(sR e q).1];rfl
   ·rw[fA d]at e;cases e
theorem NP{i:Nat}{o:Oper}(d:ops[i]?=some o)(f:sf E o=true)(a:lk E ops i=false):Ry E ops i:=
 λj e c b=>mG a b (gh c)
include B A in
theorem NT{ι:Map}(h:o6 ι (sts 0).hp){i:Nat}{q:Ref}(f:mt (eK ops dep sts) (newAt E pc ops dep sts) i q):ι q=none:=by
 have b:newAt E pc ops dep sts i≠[]:=by
  intro e
  have:=f.2.2.2
  rw[e]at this
  simp at this
 obtain⟨o,c,d,a⟩:=po b
 have:=D4 (pc:=pc) (tc:=tc) (nt:=nt) B A h c d (mG a c (aW _)) (NP c d a) q.k
 rwa [show({ eK ops dep sts i with k:=q.k}:Ref)=q by
  obtain⟨n,l,m,j⟩:=f
  cases q
  simp_all]at this
include B in
theorem Oe{L l:Nat->Bool}{i:Nat}(hi:i<ops.size)(e : ∀j,l j=true↔(L j=true\/j=i)):gL E pc ops dep sts l ops.size=oQ (gL E pc ops dep sts L ops.size) (eK ops dep sts i) (newAt E pc ops dep sts i):=by
 funext q
 unfold oQ
 have c : ∀i j,mt (eK ops dep sts) (newAt E pc ops dep sts) i q->mt (eK ops dep sts) (newAt E pc ops dep sts) j q->i=j:=λi j=>Ff B i j
 split
 ·rename_i k
  exact xy c (i:=i) k ((e i).2 (.inr rfl)) ops.size hi
 ·rename_i k
  by_cases d : ∃j,j<ops.size/\L j=true/\mt (eK ops dep sts) (newAt E pc ops dep sts) j q
  ·obtain⟨j,f,b,a⟩:=d
   rw[gL,xy c a ((e j).2 (.inl b)) _ f,gL,xy c a b _ f]
  ·rw[gL,oY,gL,oY]
   ·intro j f b a
    exact d ⟨j,f,b,a⟩
   ·intro j f b a
    rcases(e j).1 b with h | h
    ·exact d ⟨j,f,h,a⟩
    ·subst h;exact k a
include B in
theorem Kj{L:Nat->Bool}{n:Nat}(v:n<=ops.size)(h : ∀j o,j<ops.size->ops[j]?=some o->sf E o=true->lk E ops j=false->(L j=true↔j<n)):gL E pc ops dep sts (λ_=>true) n=gL E pc ops dep sts L ops.size:=by
 funext q
 have b : ∀i j,mt (eK ops dep sts) (newAt E pc ops dep sts) i q->mt (eK ops dep sts) (newAt E pc ops dep sts) j q->i=j:=λi j=>Ff B i j
 have made : ∀ {j},mt (eK ops dep sts) (newAt E pc ops dep sts) j q ->∃o,ops[j]?=some o/\sf E o=true/\lk E ops j=false:=by
  intro j u
  refine po (pc:=pc) (dep:=dep) (sts:=sts) ?_
  intro e
  have:=u.2.2.2
  rw[e]at this
  simp at this
 by_cases f : ∃j,mt (eK ops dep sts) (newAt E pc ops dep sts) j q
 ·obtain⟨j,c⟩:=f
  obtain⟨o,s,t,m⟩:=made c
  have p:j<ops.size:=(fP.1 s).1
  have d:=h j o p s t m
  by_cases k:j<n
  ·rw[gL,xy b c rfl _ k,gL,xy b c (d.2 k) _ p]
  ·rw[gL,oY,gL,oY]
   ·intro i hi l a
    have:=b i j a c
    subst this
    exact k (d.1 l)
   ·intro i hi l a
    have:=b i j a c
    omega
 ·rw[gL,oY _ (λi _ _ a=>f ⟨i,a⟩),gL,oY _ (λi _ _ a=>f ⟨i,a⟩)]
include A in
theorem Hh{M:Mem}{ι b:Map}(H:o6 ι (sts 0).hp){L:Nat->Bool}{n:Nat}(z:n<=ops.size)(x:Ry E ops n)
 (f : ∀q,ι q=none->(∀i,i<ops.size->L i=true ->¬mt (eK ops dep sts) (newAt E pc ops dep sts) i q)->b q=none)
 (u : ∀q l,ι q=some l->b q=some l) (h : ∀j o,j<ops.size->ops[j]?=some o->sf E o=true->lk E ops j=false->L j=true->j<n):o6 b (sts n).hp:=by
 intro q l v
 obtain⟨I,J,D⟩:=F8 (pc:=pc) (tc:=tc) (nt:=nt) (dep:=dep) A z x q.d q.t
 cases p:ι q with
 | some y=>exact xN (H q y p) I
 | none=>
  by_cases k : ∃i,i<ops.size/\L i=true/\mt (eK ops dep sts) (newAt E pc ops dep sts) i q
  ·obtain⟨i,hi,c,a⟩:=k
   have m:newAt E pc ops dep sts i≠[]:=by
    intro e
    have:=a.2.2.2
    rw[e]at this
    simp at this
   obtain⟨o,F,G,s⟩:=po m
   have:=D i (h i o hi F G s c) m a.1 a.2.1
   rw[a.2.2.1]
   exact this
  ·rw[f q p λi hi c a=>k ⟨i,hi,c,a⟩]at v
   cases v
variable{M:Mem}{ι:Map}{w:World}{ds:List Deferred}
include B A in
theorem Oa(ZG : ∀f xs y,pc f xs=some y->fV E.P f xs y)(Z3 : ∀f xs H y H',tc f xs H=some (y,H')->lL E.P f xs H y H'){ro:Option Nat}{Q:Exit->Act->World->Prop}
 (Z0:eW M ι (sts 0).hp.get w) (ZF:o6 ι (sts 0).hp) {L L':Nat->Bool} {i:Nat} {o:Oper} (D:ops[i]?=some o) (hi:L i=false) (ZM : ∀e∈dP o,L e=true)
 (n : ∀j,L' j=true↔(L j=true\/j=i)) {a1:Act} {w1:World} (hI:Inv E pc nt ops dep sts M ι w ds L a1 w1) {K:Act->World->Prop} (hK : ∀a' w',Inv E pc nt ops dep sts M ι w ds L' a' w'->K a' w') :
 if Region.wanted o (yielded ops a1.tmps) then o.wpIn (FW ro) 0 E.P a1 w1 K Q else K (a1.put o.dst undef) w1:=by
 obtain⟨hc,ZI,M1,J,tm1,ZB,F,Zv,I⟩:=hI
 have R:i<ops.size:=(fP.1 D).1
 have ZJ:mV ops L':=mV.next hc D ZM n
 have T : ∀t∈o.looksAt ops,bZ tm1 t=bZ (sts i).tm t:=λt ht=>Cd B.toRegB A hc D hi ZM ZB ht
 have ZP:=vw T
 have ZQ:=tp T
 have step:=A i o D
 have Z1:=qQ hc i o D ZM
 cases hb:(sf E o&&lk E ops i) with
 | true=>
  obtain⟨O,Zu⟩:=sk.1 hb
  have G : ∀j l,j<i->ops[j]?=some l->sf E l=true->L j=true:=λj l S a c=>Z1 j (B.writes i j o l D a S O c Zu)
  have hO:ue M1 J ⟨tm1,(sts i).hp⟩ nt a1 w1/\pN M ι (sts 0).hp.get w M1 J (sts i).hp.get w1 /\∀j l,ops[j]?=some l->sf E l=true->(L j=true->j<i):=by
   rcases I with d | ⟨k,d⟩
   ·have W:Ry E ops i:=by
     intro j l S a
     cases W:gj E l with
     | false=>rfl
     | true=>have:=mG (d.quiet j l (G j l S a (fA W)) a (fA W)) a (aW _);rw[W]at this;cases this
    have ZC : ∀j l,ops[j]?=some l->sf E l=true->(L j=true->j<i):=by
     intro j l a c p
     rcases za j i with h | h | h
     ·exact h
     ·subst h;rw[hi]at p;cases p
     ·have:=Qs Zu (gh h)
      rw[d.quiet j l p a c]at this
      cases this
    have hg:(sts i).hp.get=gL E pc ops dep sts L ops.size:=by
     rw[ET (pc:=pc) A (gh R) W]
     exact Kj B (gh R) λj l S a c _=>⟨ZC j l a c,λZz=>G j l Zz a c⟩
    refine⟨⟨by rw[hg];exact d.sim,?_,F,Zv⟩,by rw[hg];exact d.fwd,ZC⟩
    exact Hh (M:=M) (tc:=tc) (nt:=nt) A ZF (gh R) W d.dom d.fwd.map λj l _ a c _=>ZC j l a c
   ·have Z8:k<=i:=by
     rcases dH i k with h | h
     ·rw[(d.upto i o D O).2 h]at hi;cases hi
     ·exact h
    have ZO:(sts i).hp=(sts k).hp:=GV A i Z8 (gh R) λj l hkj Zz a=>by
     cases c:sf E l with
     | false=>rfl
     | true=>have:=(d.upto j l a c).1 (G j l Zz a c);omega
    refine⟨⟨by rw[ZO];exact d.sim,by rw[ZO];exact d.dom,F,Zv⟩,by rw[ZO];exact d.fwd,λj l a c p=>?_⟩
    have:=(d.upto j l a c).1 p
    omega
  obtain⟨hO,hF,ZC⟩:=hO
  obtain⟨x,m,hx,z,Z5⟩:=Ec T step
  refine zI (E:=E) (Q:=Q) hO ZG Z3 (λh=>by cases h) (.inl rfl) Z5 λa' w' ⟨⟨M',s,hO',hF'⟩,hd'⟩=>hK a' w' ⟨ZJ,hd'.trans ZI,M',s,m,?_,hO'.tr,hO'.nt,.inr ⟨i+1,?_⟩⟩
  ·exact qe B.toRegB D n hi ZB hx z
  ·obtain⟨j0,o0,hj0,Z4,hw0⟩:=We Zu
   refine⟨R,⟨j0,o0,by omega,Z4,hw0⟩,λj l a c=>⟨λS=>?_,λS=>?_⟩,hO'.sim,hO'.dom,hF.trans hF'⟩
   ·rcases(n j).1 S with h | h
    ·exact AQ (ZC j l a c h)
    ·omega
   ·rcases dH j i with h | h
    ·exact(n j).2 (.inl (G j l h a c))
    ·exact(n j).2 (.inr (by omega))
 | false=>
  have ZE:sf E o=true->lk E ops i=false:=by
   intro O
   rw[O,hU]at hb
   exact hb
  have hk:eK ops dep sts i=⟨dep,o.dst.getD 0,(sts i).hp.gen dep (o.dst.getD 0),0⟩:=by simp[eK,gx,D]
  have Zy : ∀(u:Value)(x:AV)(m:List AV)(w':World)(M':Mem)(s:Map),newAt E pc ops dep sts i=[]->(I:(O5 E pc ops dep sts M ι w L M1 J w1->O5 E pc ops dep sts M ι w L M' s w') /\∀k,L9 E ops sts M ι w L M1 J w1 k->L9 E ops sts M ι w L M' s w' k) ->
   (sf E o=false \/∀k,¬L9 E ops sts M ι w L M1 J w1 k)->ct nt (sts i).tm o.dst x=some (sts (i+1)).tm->ct nt tm1 o.dst x=some m->TR M' s m (a1.put o.dst u)->(a1.put o.dst u).tmps.size=nt ->
   Inv E pc nt ops dep sts M ι w ds L' (a1.put o.dst u) w':=by
   intro u x m w' M' s Zw ZS U hx z Z2 hn
   refine⟨ZJ,(fF _ _ _).trans ZI,M',s,m,qe B.toRegB D n hi ZB hx z,Z2,hn,?_⟩
   rcases I with d | ⟨k,d⟩
   ·have N:=ZS.1 d
    have hg:gL E pc ops dep sts L' ops.size=gL E pc ops dep sts L ops.size:=by rw[Oe B R n,Zw,kP]
    refine .inl ⟨λj l S a c=>?_,by rw[hg];exact N.sim,by rw[hg];exact N.fwd,λq hq Zt=>N.dom q hq λj S p=>Zt j S ((n j).2 (.inl p))⟩
    rcases(n j).1 S with h | h
    ·exact N.quiet j l h a c
    ·subst h;rw[D]at a;injection a with a;rw[<-a]at c;exact ZE c
   ·have N:=ZS.2 k d
    refine .inr ⟨k,N.le,N.wrote,λj l a c=>?_,N.sim,N.dom,N.fwd⟩
    rcases U with U | U
    ·rw[<-N.upto j l a c,n j]
     constructor
     ·rintro(h | h)
      ·exact h
      ·subst h;rw[D]at a;injection a with a;rw[<-a,U]at c;cases c
     ·exact .inl
    ·exact absurd d (U k)
  have Y:sf E o=true ->∀k,¬L9 E ops sts M ι w L M1 J w1 k:=by
   intro O k d
   obtain⟨j,l,ZV,a,ZA⟩:=d.wrote
   rcases dH i k with h | h
   ·rw[(d.upto i o D O).2 h]at hi;cases hi
   ·have:=Kb a ZA (show j<=i by omega)
    rw[ZE O]at this;cases this
  have U:sf E o=false \/∀k,¬L9 E ops sts M ι w L M1 J w1 k:=by
   cases O:sf E o with
   | false=>exact .inl rfl
   | true=>exact .inr (Y O)
  rcases lD step with ⟨W,tm',ht,he⟩ | ⟨W,x,bs,hq,tm',ht,he⟩ | ZL
  ·rw[<-ZQ]at W
   rw[gS F W]
   simp only[gH,if_false]
   have hx:ct nt (sts i).tm o.dst AV.undef=some (sts (i+1)).tm:=by rw[he];exact ht
   obtain⟨m,z⟩:=jn (tm1:=tm1) hx
   obtain⟨h1,h2⟩:=F.put Zv z (u:=undef) (.v rfl)
   refine hK _ _ (Zy undef AV.undef m w1 M1 J ?_ ⟨id,λ_=>id⟩ U hx z h1 h2)
   unfold newAt
   rw[D]
   rw[ZQ]at W
   simp only[W]
   split<;>rfl
  ·have Z9:=W
   rw[<-ZQ]at W
   rw[gS F W]
   simp only[if_true]
   have hx:ct nt (sts i).tm o.dst x=some (sts (i+1)).tm:=by rw[he];exact ht
   obtain⟨m,z⟩:=jn (tm1:=tm1) hx
   cases O:sf E o with
   | false=>
    obtain⟨ZD,ZK⟩:=sR O hq
    subst ZD
    have Zw:newAt E pc ops dep sts i=[]:=by
     unfold newAt
     rw[D]
     simp[O]
    rcases I with d | ⟨k,d⟩
    ·have V : ∀k,J { (⟨dep+1,0,(sts 0).hp.gen (dep+1) 0,0⟩:Ref)with k:=k}=none:=λk=>d.dom _ (ZF.fresh _ _ k) λj _ _ hm=>by
      have:=hm.1
      simp only[eK]at this
      omega
     have Zx:bR E pc true (gL E pc ops dep sts L ops.size) tm1 ⟨dep+1,0,(sts 0).hp.gen (dep+1) 0,0⟩ o=some (x,[]):=by rw[pv ZP];exact ZK _ _
     refine sX (E:=E) (o:=o) d.sim F rfl V ZG (λh=>by cases h) Zx ro K Q λu w' ⟨M',s,h1,h2,h3,h4⟩=>hK _ _ ?_
     rw[kP]at h2 h3
     obtain⟨h5,h6⟩:=(F.mono h3.mem h3.map).put Zv z h1
     refine Zy u x m w' M' s Zw ⟨λ_=>⟨d.quiet,h2,d.fwd.trans h3,λq hq Zt=>h4 q (d.dom q hq Zt) (λk hk=>by simp at hk)⟩,λk hl=>?_⟩ (.inl O) hx z h5 h6
     obtain⟨j,l,ZV,a,ZA⟩:=hl.wrote
     have:=mG (d.quiet j l ((hl.upto j l a (fA ZA)).2 ZV) a (fA ZA)) a (aW _)
     rw[ZA]at this;cases this
    ·have Zx:bR E pc true (sts k).hp.get tm1 ⟨dep,0,(sts k).hp.gen dep 0,0⟩ o=some (x,[]):=by rw[pv ZP];exact ZK _ _
     refine sX (E:=E) (o:=o) d.sim F rfl (λk'=>d.dom.fresh dep 0 k') ZG (λh=>by cases h) Zx ro K Q λu w' ZX=>hK _ _ ?_
     obtain⟨M',s,h1,h2,h3,h4⟩:=ZX.Si d.dom
     rw[LC]at h2 h3 h4
     obtain⟨h5,h6⟩:=(F.mono h3.mem h3.map).put Zv z h1
     refine⟨ZJ,(fF _ _ _).trans ZI,M',s,m,qe B.toRegB D n hi ZB hx z,h5,h6,.inr ⟨k,d.le,d.wrote,λj l a c=>?_,h2,h4,d.fwd.trans h3⟩⟩
     rw[<-d.upto j l a c,n j]
     constructor
     ·rintro(h | h)
      ·exact h
      ·subst h;rw[D]at a;injection a with a;rw[<-a,O]at c;cases c
     ·exact .inl
   | true=>
    rcases I with d | ⟨k,d⟩
    ·have ZH:=ZE O
     have Zu:=mG ZH D (aW _)
     have ZU:=NP D O ZH
     have ZD:newAt E pc ops dep sts i=bs:=by
      unfold newAt
      rw[D]
      simp only[Z9,hk,hq,O,ZH,xK,u9,if_true]
     rw[<-hk,ET (pc:=pc) A (gh R) ZU]at hq
     have ZY:yT J (gF (sts 0).hp.get (eK ops dep sts) (newAt E pc ops dep sts) (λ_=>true) i) (gL E pc ops dep sts L ops.size):=by
      intro q b hg ZR
      have Z : ∀i j,mt (eK ops dep sts) (newAt E pc ops dep sts) i q->mt (eK ops dep sts) (newAt E pc ops dep sts) j q->i=j:=λi j=>Ff B i j
      by_cases ZN : ∃j,mt (eK ops dep sts) (newAt E pc ops dep sts) j q
      ·obtain⟨j,Zs⟩:=ZN
       have hf:ι q=none:=NT (tc:=tc) (nt:=nt) B A ZF Zs
       have hjs:j<ops.size:=by
        have:newAt E pc ops dep sts j≠[]:=by
         intro e
         have:=Zs.2.2.2
         rw[e]at this
         simp at this
        obtain⟨l,a,_⟩:=po this
        exact(fP.1 a).1
       cases p:L j with
       | false=>exact absurd (d.dom q hf λi' _ hL X=>by rw[Z i' j X Zs,p]at hL;cases hL) ZR
       | true=>
        by_cases Zz:j<i
        ·rw[xy Z Zs rfl _ Zz]at hg
         rw[gL,xy Z Zs p _ hjs];exact hg
        ·rw[oY _ (λi' hi' _ X=>by have:=Z i' j X Zs;omega),Z0.Qo hf]at hg
         cases hg
      ·rw[oY _ (λi' _ _ X=>ZN ⟨i',X⟩)]at hg
       rw[gL,oY _ (λi' _ _ X=>ZN ⟨i',X⟩)]
       exact hg
     rw[<-pv ZP]at hq
     have Zx:=zH d.sim ZY F hq
     have V : ∀k,J { eK ops dep sts i with k:=k}=none:=λk=>d.dom _ (D4 (pc:=pc) (tc:=tc) (nt:=nt) B A ZF D O Zu ZU k) λj _ p hm=>by
      have ZR:newAt E pc ops dep sts j≠[]:=by
       intro e
       have:=hm.2.2.2
       rw[e]at this
       simp at this
      obtain⟨l,a,c,Z7⟩:=po ZR
      obtain⟨dj,ZZ⟩:=fO.1 (B.site j l a c (mG Z7 a (aW _)))
      obtain⟨di,ZT⟩:=fO.1 (B.site i o D O Zu)
      have:di=dj:=by have:=hm.2.1;simpa [eK,gx,a,ZZ,D,ZT] using this
      have:=B.distinct i j o l di D a ZT (by rw[ZZ,this])
      subst this
      rw[hi]at p;cases p
     refine sX (E:=E) (o:=o) d.sim F (by simp[eK]) V ZG (λh=>by cases h) Zx ro K Q λu w' ⟨M',s,h1,h2,h3,h4⟩=>hK _ _ ?_
     obtain⟨h5,h6⟩:=(F.mono h3.mem h3.map).put Zv z h1
     have ZW:gL E pc ops dep sts L' ops.size=oQ (gL E pc ops dep sts L ops.size) (eK ops dep sts i) bs:=by rw[Oe B R n,ZD]
     refine⟨ZJ,(fF _ _ _).trans ZI,M',s,m,qe B.toRegB D n hi ZB hx z,h5,h6,.inl ⟨λj l S a c=>?_,by rw[ZW];exact h2,by rw[ZW];exact d.fwd.trans h3,λq hq Zt=>?_⟩⟩
     ·rcases(n j).1 S with h | h
      ·exact d.quiet j l h a c
      ·subst h;exact ZH
     ·refine h4 q (d.dom q hq λj S p=>Zt j S ((n j).2 (.inl p))) λk Z6 e=>?_
      refine Zt i R ((n i).2 (.inr rfl)) ?_
      rw[e]
      exact⟨rfl,rfl,rfl,by rw[ZD];exact Z6⟩
    ·exact absurd d (Y O k)
  ·have h1:=ZE (fA ZL)
   rw[Kb D ZL (aW i)]at h1;cases h1
include B A in
theorem Ke(F:o6 ι (sts 0).hp){L:Nat->Bool}(c : ∀i,i<ops.size->L i=true){a G:Act}{H:World}(u:a.defers=ds)(R:Inv E pc nt ops dep sts M ι w ds L G H):iH M ι (sts 0) a w nt (sts ops.size) G H:=by
 obtain⟨S,v,z,h,tm1,y,x,s,l⟩:=R
 have D : ∀t,bZ tm1 t=bZ (sts ops.size).tm t:=by
  intro t
  obtain⟨Q,J⟩:=y t
  obtain⟨K,O⟩:=ER B.toRegB A ops.size (aW _) t
  by_cases n : ∃j,j<ops.size/\gx ops j=some t
  ·obtain⟨j,b,p⟩:=n
   rw[Q j b (c j b) p,K j b (by simpa using b) p]
  ·rw[J λj b _ p=>n ⟨j,b,p⟩,O λj b _ p=>n ⟨j,b,p⟩]
 have f:TR z h (sts ops.size).tm G:=⟨λt=>by rw[<-D];exact x.at_ t⟩
 rcases l with d | ⟨k,d⟩
 ·have q:Ry E ops ops.size:=λj o b e=>by
   cases q:gj E o with
   | false=>rfl
   | true=>have:=mG (d.quiet j o (c j b) e (fA q)) e (aW _);rw[q]at this;cases this
  have I:(sts ops.size).hp.get=gL E pc ops dep sts L ops.size:=by
   rw[ET (pc:=pc) A (aW _) q]
   exact Kj B (aW _) λj o b _ _ _=>⟨λ_=>b,λ_=>c j b⟩
  refine⟨⟨z,h,⟨by rw[I];exact d.sim,?_,f,s⟩,by rw[I];exact d.fwd⟩,v.trans u.symm⟩
  exact Hh (M:=M) (tc:=tc) (nt:=nt) A F (aW _) q d.dom d.fwd.map λj o b _ _ _ _=>b
 ·have m:(sts ops.size).hp=(sts k).hp:=GV A ops.size d.le (aW _) λj o P b e=>by
   cases N:sf E o with
   | false=>rfl
   | true=>have:=(d.upto j o e N).1 (c j b);omega
  exact⟨⟨z,h,⟨by rw[m];exact d.sim,by rw[m];exact d.dom,f,s⟩,by rw[m];exact d.fwd⟩,v.trans u.symm⟩
include B in
theorem xB{a:Array Bool}(l:a.size=ops.size)(h:Region.ready .any ops a=[]) : ∀i,i<ops.size->a.getD i false=true:=by
 intro i
 induction i using Nat.strongRecOn with | ind i k=>
 intro hi
 cases j:a.getD i false with
 | true=>rfl
 | false=>
  exfalso
  have f:=ir hi
  have c:a.getD i true=false:=by
   have:i<a.size:=by omega
   simpa [Array.getD,this] using j
  have:i∈Region.ready .any ops a:=by
   rw[mem_ready]
   refine⟨c,_,f,λe m n=>?_⟩
   have b:e.on∈dP ops[i]:=by
    unfold dP
    exact kf.2 ⟨e,Eo.2 ⟨by simpa using m,n⟩,rfl⟩
   have d:=B.edges i _ f _ b
   exact k e.on d (by omega)
  rw[h]at this
  cases this
include B A in
theorem TU(W : ∀f u y,pc f u=some y->fV E.P f u y)(T : ∀f u H y Y,tc f u H=some (y,Y)->lL E.P f u H y Y){ro:Option Nat}{a0:Act}(v:a0.defers=ds){Q:Exit->Act->World->Prop}
 (S:eW M ι (sts 0).hp.get w) (n:o6 ι (sts 0).hp) (X : ∀F w',iH M ι (sts 0) a0 w nt (sts ops.size) F w'->Q .normal F w') : ∀(b:Nat)(a:Array Bool)(I:Act)(D:World),a.size=ops.size ->
 (List.range ops.size).countP (λi => !a.getD i false)<=b->Inv E pc nt ops dep sts M ι w ds (λi=>a.getD i false) I D->wpAnyIn (FW ro) 0 E.P .any ops Q b a I D:=by
 intro b
 induction b with
 | zero=>
  intro a I D q hf J
  have c : ∀i,i<ops.size->a.getD i false=true:=by
   intro i hi
   cases V:a.getD i false with
   | true=>rfl
   | false=>
    exfalso
    have:0<(List.range ops.size).countP (λi => !a.getD i false):=List.countP_pos_iff.2 ⟨i,sj.2 hi,by rw[V];rfl⟩
    omega
  refine⟨?_,X _ _ (Ke B A n c v J)⟩
  refine Ml.2 λi hi=>?_
  rw[mem_ready]at hi
  obtain⟨x,o,t,_⟩:=hi
  have k:i<ops.size:=(fP.1 t).1
  have G:=c i k
  have:i<a.size:=by omega
  simp[Array.getD,this]at x G
  rw[G]at x
  cases x
 | succ b ih=>
  intro a I D q hf J
  refine⟨λhr=>X _ _ (Ke B A n (xB B q hr) v J),λi hi=>?_⟩
  rw[mem_ready]at hi
  obtain⟨x,o,t,R⟩:=hi
  have k:i<ops.size:=(fP.1 t).1
  have s:i<a.size:=by omega
  have z:a.getD i false=false:=by simpa [Array.getD,s] using x
  have m : ∀e∈dP o,(λi=>a.getD i false) e=true:=by
   intro e Z
   unfold dP at Z
   obtain⟨d,hd,rfl⟩:=kf.1 Z
   obtain⟨G,h2⟩:=Eo.1 hd
   exact R d (by simpa using G) h2
  have h : ∀j,(λj=>(a.setIfInBounds i true).getD j false) j=true↔((λj=>a.getD j false) j=true\/j=i):=by
   intro j
   simp only
   by_cases l:j=i
   ·subst l
    simp[s]
   ·rw[getD_set_ne false (nE l)]
    simp[l]
  have:=Oa (E:=E) (tc:=tc) (ro:=ro) (K:=wpAnyIn (FW ro) 0 E.P .any ops Q b (a.setIfInBounds i true)) (Q:=Q) B A W T S n (L:=λi=>a.getD i false) t z m h J λF w' U=>by
   refine ih _ F w' (by simp[q]) ?_ U
   have:=Al (p:=λj => !a.getD j false) (p':=λj => !(a.setIfInBounds i true).getD j false) (i:=i) (λj O=>by
    simp only[gE]at O ⊢
    cases V:a.getD j false with
    | false=>rfl
    | true=>have:=(h j).2 (.inl V);simp only at this;rw[this]at O;cases O) (by simp only[z,xK]) (by have:=(h i).2 (.inr rfl);simp only at this ⊢;rw[this];rfl) (List.range ops.size) (sj.2 k)
   omega
  unfold wpOpIn
  rw[t]
  simp only
  split
  ·rename_i N
   rw[if_pos N]at this
   exact this
  ·rename_i N
   rw[if_neg N]at this
   exact⟨λ_ _=>trivial,this⟩
end
theorem Hf{E:Env}(N:E.P.follows .mixedOrders=true){ops:Array Oper}(u:yc E ops=true){pc:FuncId->List AV->Option AV}(v : ∀f e y,pc f e=some y->fV E.P f e y)
 {tc:pY->List AV->ab->cb} (s : ∀f e H y z,tc f e H=some (y,z)->lL E.P f e H y z) {nt dep id:Nat} {st d:St} {M:Mem} {ι:Map} {a:Act} {w:World} {ro:Option Nat} {Q:Exit->Act->World->Prop}
 (h:kU E pc tc nt dep true ops ops.toList st=some d) (j:ue M ι st nt a w) (D : ∀m w',iH M ι st a w nt d m w'->Q .normal m w'):(Code.region id ops true).wpIn (FW ro) 0 E.P Q a w:=by
 obtain⟨sts,L,x,F⟩:=B8 ops.toList st d h
 rw[wB]at x
 have B:=Gp u
 have A : ∀i o,ops[i]?=some o->evalOp E pc tc nt dep true ops o (sts i)=some (sts (i+1)):=λi o I=>F i o (by simpa using I)
 subst L
 refine wpIn_region_any N ?_
 have p:pN M ι (sts 0).hp.get w M ι (sts 0).hp.get { w with drawn:=w.drawn+1} :=
  ⟨rfl,rfl,rfl,aW _,λ_ _ _=>rfl,λ_ _ _ h=>h,λ_ _ h=>h,λr k l h G => .inr ⟨r,k,l,h,G,rfl⟩,λ_ _ _ h => .inl h⟩
 have c : ∀i,(Array.replicate ops.size false).getD i false=false:=by
  intro i
  simp only[xR,HO]
  split<;>rfl
 have b : ∀n,gF (sts 0).hp.get (eK ops dep sts) (newAt E pc ops dep sts) (λi=>(Array.replicate ops.size false).getD i false) n=(sts 0).hp.get:=by
  intro n
  funext q
  refine oY n λi _ hi=>?_
  exact absurd ((c i).symm.trans hi) (by simp)
 refine TU (tc:=tc) (M:=M) (ι:=ι) (w:=w) (a0:=a) B A v s rfl j.sim j.dom (λm w' J=>D m w' (x ▸ J)) ops.size _ a _ (by simp) ?_ ?_
 ·exact rk List.countP_le_length (by simp)
 ·refine⟨λi o hi=>?_,rfl,M,ι,(sts 0).tm,?_,j.tr,j.nt,.inl ⟨λi o hi=>?_,?_,?_,λq K _=>K⟩⟩
  ·exact absurd ((c i).symm.trans hi) (by simp)
  ·exact λt=>⟨λi _ hi=>absurd ((c i).symm.trans hi) (by simp),λ_=>rfl⟩
  ·exact absurd ((c i).symm.trans hi) (by simp)
  ·rw[gL,b];exact j.sim.drew rfl
  ·rw[gL,b];exact p
end
end Go.Ab
