/-
  What a quiet operation of the abstract machine looks at. No statement of a seat is proved here.
-/
import Derived.Test.YtjampffmlnplcaaAbsWalk
set_option linter.unusedVariables false
set_option linter.unusedSimpArgs false
set_option linter.unusedSectionVars false
set_option linter.unnecessarySimpa false
namespace Go.Ab
section
theorem mapM_congr{b j:Type}{f c:b->Option j} : ∀ {l:List b},(∀x∈l,f x=c x)->l.mapM f=l.mapM c:=by
 intro l
 induction l with
 | nil=>intro _;rfl
 | cons a l d=>
  intro h
  simp only[jQ]
  rw[h a (gu ..),d λx e=>h x (gv _ e)]
def pM(tm tm':List AV)(a:List Operand):Prop :=∀x∈a,ak tm x=ak tm' x
theorem j8{tm tm':List AV}{ps:List (Nat × Operand)}(h : ∀p∈ps,ak tm p.2=ak tm' p.2):cX tm ps=cX tm' ps:=by
 unfold cX
 exact mapM_congr λp hp=>by obtain⟨i,o⟩:=p;simp only[h (i,o) hp]
theorem mJ{tm tm':List AV}{x:Option Operand}(h : ∀y,x=some y->ak tm y=ak tm' y):fH tm x=fH tm' x:=by
 cases x with
 | none=>rfl
 | some y=>simp only[fH,h y rfl]
theorem j3{E:Env}{pc:FuncId->List AV->Option AV}{q:Bool}{g:bD}{tm tm':List AV}{r:Ref}{o:Oper}(h:pM tm tm' o.op.operands.toList) :
 bh E pc q g tm r o=bh E pc q g tm' r o:=by
 unfold pM at h
 unfold bh
 split
 ·rename_i x j;rw[j]at h;simp only[Op.operands]at h;rw[h x (by simp)]
 ·rename_i x j;rw[j]at h;simp only[Op.operands]at h;rw[h x (by simp)]
 ·rename_i c a b j;rw[j]at h;simp only[Op.operands]at h;simp only[sn];rw[h c (by simp),h a (by simp),h b (by simp)]
 ·rfl
 ·rename_i e x j;rw[j]at h;simp only[Op.operands]at h;rw[h x (by simp)]
 ·rename_i t ps j;rw[j]at h;simp only[Op.operands]at h;rw[j8 λp hp=>h p.2 (by simp;exact⟨p.1,by simpa using hp⟩)]
 ·rename_i t n ps j;rw[j]at h;simp only[Op.operands]at h;rw[j8 λp hp=>h p.2 (by simp;exact⟨p.1,by simpa using hp⟩)]
 ·rename_i t x j;rw[j]at h;simp only[Op.operands]at h;rw[h x (by simp)]
 ·rename_i x j;rw[j]at h;simp only[Op.operands]at h;rw[h x (by simp)]
 ·rename_i G t x y ty j;rw[j]at h;simp only[Op.operands]at h;rw[h x (by simp),h y (by simp)]
 ·rename_i G t x j;rw[j]at h;simp only[Op.operands]at h;rw[h x (by simp)]
 ·rename_i s d x j;rw[j]at h;simp only[Op.operands]at h;rw[h x (by simp)]
 ·rename_i t x j;rw[j]at h;simp only[Op.operands]at h;rw[h x (by simp)]
 ·rename_i f a b j;rw[j]at h;simp only[Op.operands]at h;rw[mapM_congr λx m=>h x (by simp at m ⊢;exact .inl m),mapM_congr λx m=>h x (by simp at m ⊢;exact .inr m)]
 ·rename_i t l c j;rw[j]at h;simp only[Op.operands]at h;rw[h l (by simp),h c (by simp)]
 ·rfl
 ·rename_i t x k ok j;rw[j]at h;simp only[Op.operands]at h;rw[h x (by simp),h k (by simp)]
 ·rename_i t x F v z j
  rw[j]at h
  simp only[Op.operands]at h
  rw[h x (by simp),mJ (x:=F) λy u=>h y (by simp[u]),mJ (x:=v) λy u=>h y (by simp[u]),mJ (x:=z) λy u=>h y (by simp[u])]
 ·rename_i t x f j;rw[j]at h;simp only[Op.operands]at h;rw[h x (by simp)]
 ·rename_i t x f j;rw[j]at h;simp only[Op.operands]at h;rw[h x (by simp)]
 ·rename_i t x y j;rw[j]at h;simp only[Op.operands]at h;rw[h x (by simp),h y (by simp)]
 ·rename_i t x y j;rw[j]at h;simp only[Op.operands]at h;rw[h x (by simp),h y (by simp)]
 ·rename_i x t H ok j;rw[j]at h;simp only[Op.operands]at h;rw[h x (by simp)]
 ·rename_i x i j;rw[j]at h;simp only[Op.operands]at h;rw[h x (by simp)]
 ·rename_i c j
  rw[j]at h
  simp only[Op.operands,Call.operands]at h
  rw[mapM_congr (l:=c.args.toList) λx m=>h x (by simp at m ⊢;exact .inr m)]
  split
  ·rfl
  ·split
   ·rename_i f D;rw[h f (by simp[D])]
   ·rfl
   ·rfl
 ·rfl
theorem DA{E:Env}{pc:FuncId->List AV->Option AV}{tc:lb->List AV->aa->bk}{H:aa}{tm tm':List AV}{r:Ref}{o:Oper}(h:pM tm tm' o.op.operands.toList) :
 evalW E pc tc H tm r o=evalW E pc tc H tm' r o:=by
 unfold pM at h
 unfold evalW
 generalize o.op=op at h ⊢
 cases op<;>try rfl
 case store t x y=>simp only[Op.operands]at h;simp only;rw[h x (by simp),h y (by simp)]
 case mapUpdate t m k y=>simp only[Op.operands]at h;simp only;rw[h m (by simp),h k (by simp),h y (by simp)]
 case insert t m k y=>simp only[Op.operands]at h;simp only;rw[h m (by simp),h k (by simp),h y (by simp)]
 case mapEntry t m k=>simp only[Op.operands]at h;simp only;rw[h m (by simp),h k (by simp)]
 case entryStore t m k y=>simp only[Op.operands]at h;simp only;rw[h m (by simp),h k (by simp),h y (by simp)]
 case buildSlice t n ps=>simp only[Op.operands]at h;simp only;rw[j8 λp hp=>h p.2 (by simp;exact⟨p.1,by simpa using hp⟩)]
 case makeChan t n=>simp only[Op.operands]at h;simp only;rw[h n (by simp)]
 case send c x=>simp only[Op.operands]at h;simp only;rw[h c (by simp),h x (by simp)]
 case recv t c b=>simp only[Op.operands]at h;simp only;rw[h c (by simp)]
 case call c=>
  simp only[Op.operands,Call.operands]at h
  simp only
  rw[mapM_congr (l:=c.args.toList) λx a=>h x (by simp at a ⊢;exact .inr a)]
  split
  ·rfl
  ·split
   ·rename_i f d;rw[h f (by simp[d])]
   ·rfl
   ·rfl
def pQ(ι:Map)(g C:bD):Prop :=∀q k,g q=some k->ι q≠none->C q=some k
section
variable{M:Mem}{ι:Map}{g C:bD}{w:World}
theorem AG{l:Loc}{k:ax}(d:cy M ι w l k){e:AV}(c:e∈k.es) : ∃u,VR M (k.map ι) e u:=by
 obtain⟨i,j,b⟩:=il c
 have f:=d.cell i (by rw[bG j,b])
 obtain⟨us,a,_,_⟩:=f.values
 cases e with
 | agg cs=>exact⟨.agg us.toArray,VR.iE.2 (by simpa [AV.cells] using a)⟩
 | _=>
  have h:=a.1
  obtain⟨u,rfl⟩:=vI h.symm
  exact⟨u,a.2 0 _ u rfl rfl⟩
theorem xn{f e:AV->Option AV}{l b:List AV}(h:l.mapM f=some b)(j : ∀x∈l,∀y,f x=some y->e x=some y):l.mapM e=some b:=by
 rw[<-h]
 refine mapM_congr λx c=>?_
 obtain⟨i,k,a⟩:=il c
 obtain⟨y,_,d⟩:=fl h i x (by rw[bG k,a])
 rw[d,j x c y d]
theorem kY{b j:Type}{f c:b->List j} : ∀ {l:List b},(∀x∈l,f x=c x)->l.flatMap f=l.flatMap c:=by
 intro l
 induction l with
 | nil=>intro _;rfl
 | cons a l d=>
  intro h
  rw[gz,gz,h a (gu ..),d λx e=>h x (gv _ e)]
theorem lY(hS:cT M ι C w)(hL:pQ ι g C) : ∀(n:Nat)(x y:AV)(u:Value)(p:Mem),view g n x=some y->VR p ι x u->view C n x=some y/\ab C n x=ab g n x /\∀r∈ab g n x,ι r≠none:=by
 intro n
 induction n with
 | zero=>intro x y u p h;simp[view]at h
 | succ n T=>
  intro x y u p h hv
  have e : ∀ {cs R:List AV},cs.mapM (view g n)=some R->(∀c∈cs,∃u p,VR p ι c u)->cs.mapM (view C n)=some R/\cs.flatMap (ab C n)=cs.flatMap (ab g n) /\∀r∈cs.flatMap (ab g n),ι r≠none:=by
   intro cs R z L
   refine⟨xn z λc t y Q=>?_,kY λc t=>?_,?_⟩
   ·obtain⟨u,p,I⟩:=L c t
    exact(T c y u p Q I).1
   ·obtain⟨u,p,I⟩:=L c t
    obtain⟨i,P,D⟩:=il t
    obtain⟨y,_,Q⟩:=fl z i c (by rw[bG P,D])
    exact(T c y u p Q I).2.1
   ·intro r s
    obtain⟨c,t,s⟩:=dt.1 s
    obtain⟨u,p,I⟩:=L c t
    obtain⟨i,P,D⟩:=il t
    obtain⟨y,_,Q⟩:=fl z i c (by rw[bG P,D])
    exact(T c y u p Q I).2.2 r s
  have inl : ∀ {cs:List AV} {S:Array Value},cs.length=S.size->(∀(i:Nat) c u,cs[i]?=some c->S[i]?=some u->VR p ι c u) ->∀c∈cs,∃u p,VR p ι c u:=by
   intro cs S U K c t
   obtain⟨i,P,D⟩:=il t
   exact⟨S[i]'(by omega),p,K i c _ (by rw[bG P,D]) (ey (by omega))⟩
  cases hv with
  | v hs=>simp[view]at h;subst h;simp[view,ab]
  | agg U K=>
   simp only[view,aC]at h
   obtain⟨R,z,rfl⟩:=h
   obtain⟨F,G,H⟩:=e z (inl U K)
   exact⟨by simp[view,F],by simp only[ab];exact G,by simp only[ab];exact H⟩
  | tup h0 U K=>
   simp only[view,aC]at h
   obtain⟨R,z,rfl⟩:=h
   obtain⟨F,G,H⟩:=e z (inl U K)
   exact⟨by simp[view,F],by simp only[ab];exact G,by simp only[ab];exact H⟩
  | cE=>simp[view]at h;subst h;simp[view,ab]
  | iptr=>simp[view]at h;subst h;simp[view,ab]
  | aD s hb hs ha t hn hk J=>
   rename_i r V len cap l a c
   simp only[view]at h
   split at h
   ·rename_i b f
    have:=hL r b f (by rw[s];simp)
    exact⟨by simp only[view,this];exact h,by simp[ab],by intro q k;simp only[ab,kE]at k;rw[k,s];simp⟩
   ·cases h
  | dsl s hb hs ha t hn hk J=>
   rename_i r V len cap l a c
   simp only[view]at h
   split at h
   ·rename_i b f
    have m:=hL r b f (by rw[s];simp)
    split at h
    ·rename_i K
     obtain⟨d,hlen⟩:=K
     simp only[aC]at h
     obtain⟨es,N,rfl⟩:=h
     have O:=hS.at s J m
     obtain⟨F,G,H⟩:=e N λc t=>by
      obtain⟨u,I⟩:=AG O t
      rw[ax.map,d]at I
      exact⟨u,M,by simpa using I⟩
     exact⟨by simp[view,m,d,hlen,F],by simp only[ab,m,f];rw[G],by
      intro q k
      simp only[ab,f]at k
      rcases dg.1 k with rfl | k
      ·rw[s];simp
      ·exact H q k⟩
    ·cases h
   ·cases h
  | ptr s J=>
   rename_i r i j l
   simp only[view]at h
   split at h
   ·rename_i b f
    have m:=hL r b f (by rw[s];simp)
    cases d:b.arr with
    | true=>
     rw[d]at h
     exact⟨by simp only[view,m,d];exact h,by simp[ab,m,f,d],by intro q k;simp[ab,f,d]at k;rw[k,s];simp⟩
    | false=>
     rw[d]at h
     simp only[kF,if_false,aC]at h
     obtain⟨es,N,rfl⟩:=h
     have O:=hS.at s J m
     obtain⟨F,G,H⟩:=e N λc t=>by
      obtain⟨u,I⟩:=AG O t
      rw[ax.map,d]at I
      exact⟨u,M,by simpa using I⟩
     exact⟨by simp[view,m,d,F],by simp only[ab,m,f,d];rw[if_neg (by simp),if_neg (by simp),G],by
      intro q k
      simp only[ab,f,d]at k
      rw[if_neg (by simp)]at k
      rcases dg.1 k with rfl | k
      ·rw[s];simp
      ·exact H q k⟩
   ·cases h
  | fn Ko X x6 Y=>
   simp only[view]at h
   split at h
   ·rename_i a' b' W Z
    cases h
    obtain⟨F,G,h5⟩:=e W (inl Ko x6)
    obtain⟨H,h4,h6⟩:=e Z (inl X Y)
    exact⟨by simp[view,F,H],by simp only[ab];rw[G,h4],by
     intro q k
     simp only[ab,fc]at k
     rcases k with k | k
     ·exact h5 q k
     ·exact h6 q k⟩
   ·cases h
  | yld=>simp[view]at h
  | mp=>simp[view]at h
  | ch=>simp[view]at h
  | m7=>simp[view]at h
  | ifc K=>
   simp only[view,aC]at h
   obtain⟨y',Kn,rfl⟩:=h
   obtain⟨F,G,H⟩:=T _ y' _ p Kn K
   exact⟨by simp[view,F],by simp only[ab];exact G,by simp only[ab];exact H⟩
theorem AR(k:cT M ι C w)(m:pQ ι g C){d p:List AV}{us:List Value}(h:d.mapM (view g depth)=some p)(n:fq M ι d us):d.mapM (view C depth)=some p/\aP C d=aP g d /\∀r∈aP g d,ι r≠none:=by
 have inl : ∀c∈d,∃u,VR M ι c u:=by
  intro c b
  obtain⟨i,j,a⟩:=il b
  have q:=n.1
  exact⟨us[i]'(by omega),n.2 i c _ (by rw[bG j,a]) (bG (by omega))⟩
 refine⟨xn h λc b y e=>?_,kY λc b=>?_,?_⟩
 ·obtain⟨u,f⟩:=inl c b
  exact(lY k m depth c y u M e f).1
 ·obtain⟨u,f⟩:=inl c b
  obtain⟨i,j,a⟩:=il b
  obtain⟨y,_,e⟩:=fl h i c (by rw[bG j,a])
  exact(lY k m depth c y u M e f).2.1
 ·intro r l
  obtain⟨c,b,l⟩:=dt.1 l
  obtain⟨u,f⟩:=inl c b
  obtain⟨i,j,a⟩:=il b
  obtain⟨y,_,e⟩:=fl h i c (by rw[bG j,a])
  exact(lY k m depth c y u M e f).2.2 r l
theorem ta(d:pQ ι g C){R:List Ref}(B : ∀r∈R,ι r≠none)(h:gM g R=true):gM C R=true:=by
 simp only[gM,dh]at h ⊢
 intro r c
 have:=h r c
 cases a:g r with
 | none=>rw[a]at this;simp at this
 | some b=>rw[a]at this;rw[d r b a (B r c)];exact this
theorem qA(e:pQ ι g C){x:AV}{u:Value}(a:VR M ι x u){p:Nat × List AV}(h:aV g x=some p):aV C x=some p:=by
 cases a with
 | aD d=>
  simp only[aV]at h ⊢
  split at h
  ·rename_i b c
   rw[e _ b c (by rw[d];simp)]
   exact h
  ·cases h
 | v f=>cases ‹Value› <;> simp_all [aV]
 | cE=>exact h
 | _=>simp[aV]at h
theorem ow(e:cT M ι C w)(m:pQ ι g C){c n:List (Nat × AV)}(h:cA g c=some n)(t : ∀p∈c,∃u,VR M ι p.2 u) :
 cA C c=some n/\aP C (c.map (·.2))=aP g (c.map (·.2)) /\∀r∈aP g (c.map (·.2)),ι r≠none:=by
 have a : ∀p∈c,∃y u,view g depth p.2=some y/\VR M ι p.2 u:=by
  intro p hp
  obtain⟨i,s,l⟩:=il hp
  obtain⟨y,_,q⟩:=fl h i p (by rw[bG s,l])
  obtain⟨u,D⟩:=t p hp
  obtain⟨k,x⟩:=p
  simp only[aC]at q
  obtain⟨z,v,_⟩:=q
  exact⟨z,u,v,D⟩
 refine⟨?_,?_,?_⟩
 ·unfold cA at h ⊢
  rw[<-h]
  refine mapM_congr λp hp=>?_
  obtain⟨y,u,b,d⟩:=a p hp
  obtain⟨k,x⟩:=p
  simp only at b d
  simp only[b,(lY e m depth x y u M b d).1]
 ·unfold aP
  refine kY λx f=>?_
  obtain⟨p,hp,rfl⟩:=gy.1 f
  obtain⟨y,u,b,d⟩:=a p hp
  exact(lY e m depth p.2 y u M b d).2.1
 ·intro r j
  obtain⟨x,f,j⟩:=dt.1 j
  obtain⟨p,hp,rfl⟩:=gy.1 f
  obtain⟨y,u,b,d⟩:=a p hp
  exact(lY e m depth p.2 y u M b d).2.2 r j
theorem CS{tm:List AV}{a:Act}(d:TR M ι tm a){ps:List (Nat × Operand)}{c:List (Nat × AV)}(h:cX tm ps=some c) : ∀p∈c,∃u,VR M ι p.2 u:=by
 intro p hp
 obtain⟨j,e⟩:=jf (ι:=ι) d h
 obtain⟨i,f,b⟩:=il hp
 exact⟨_,(e i p _ (by rw[bG f,b]) (bG (by omega))).2⟩
theorem xm{P:Program}(d:cT M ι C w)(m:pQ ι g C){t:TypeId}{n:Nat}{c:List (Nat × AV)}{b:ax}(h:mkSlice P g t n c=some b)(f : ∀p∈c,∃u,VR M ι p.2 u):mkSlice P C t n c=some b:=by
 unfold mkSlice at h ⊢
 split at h
 ·cases h
 ·rename_i e l
  try simp only[l]
  split at h
  ·rename_i q z s a k j
   try simp only[(ow d m a f).1,k,j]
   exact h
  ·cases h
theorem tC{P:Program}{t:TypeId}{n:Nat}{d:List (Nat × AV)}{b:ax}(h:mkSlice P g t n d=some b) : ∃a,cA g d=some a:=by
 unfold mkSlice at h
 split at h
 ·cases h
 ·split at h
  ·rename_i a z s c f e;exact⟨a,c⟩
  ·cases h
theorem uy{P:Program}(b:pQ ι g C){e:TypeId}{x:AV}{u:Value}(a:VR M ι x u){p:Nat × List AV}(h:hY P g e x=some p):hY P C e x=some p:=by
 unfold hY at h ⊢
 split at h
 ·exact h
 ·exact h
 ·rename_i c d
  exact qA b a h
theorem xc{P:Program}(k:pQ ι g C){r:Ref}{t t':Option TypeId}{s x:AV}{us p:Value}(q:VR M ι s us)(l:VR M ι x p){a:AV × List ax}(h:ec P g r t t' s x=some a):ec P C r t t' s x=some a:=by
 unfold ec at h ⊢
 split at h
 ·cases h
 ·rename_i e m
  try simp only[m]
  split at h
  ·cases h
  ·rename_i D
   rw[if_neg D]
   split at h
   ·rename_i z by' zz F new u y d c
    try simp only[u,y,d,uy k l c]
    split at h
    ·cases h
    ·rename_i f
     rw[if_neg f]
     cases q with
     | aD n=>
      simp only at h ⊢
      split at h
      ·rename_i b j
       rw[k _ b j (by rw[n];simp)]
       exact h
      ·cases h
     | v G=>(split at h)<;>first | exact h | cases h | simp_all
     | _=>exact h
   ·cases h
theorem uD(e:pQ ι g C){r:Ref}(d:ι r≠none){a:List AV}(h:gj g r=some a):gj C r=some a:=by
 unfold gj at h ⊢
 cases c:g r with
 | none=>rw[c]at h;cases h
 | some b=>rw[c]at h;rw[e r b c d];exact h
theorem w7{P:Program}(m:pQ ι g C){t:TypeId}{x:AV}{u:Value}(e:VR M ι x u){k:Option AV}{ok:Bool}{a:AV × List ax}(h:gU P g t (some x) k ok=some a):gU P C t (some x) k ok=some a:=by
 unfold gU at h ⊢
 split at h
 ·rename_i s n r' p c f j
  cases f
  cases e with | mp l q=>
  try simp only[c,j]
  split at h
  ·rename_i b d
   rw[uD m (by rw[l];simp) d]
   exact h
  ·cases h
 ·cases h
theorem qb{E:Env}{pc:FuncId->List AV->Option AV}(hS:cT M ι C w)(D:pQ ι g C){tm:List AV}{a:Act}(P:TR M ι tm a){r:Ref}{o:Oper}{x:AV}{bs:List ax}
 (h:bh E pc true g tm r o=some (x,bs)):bh E pc true C tm r o=some (x,bs):=by
 unfold bh at h ⊢
 simp only[uT,rB,cond_false,mI]at h ⊢
 split at h
 ·exact h
 ·exact h
 ·exact h
 ·exact h
 ·exact h
 ·exact h
 ·
  rename_i t n ps H
  cases m:cX tm ps.toList with
  | none=>rw[m]at h;simp[dA]at h
  | some vs=>
   rw[m]at h
   generalize (true && !E.strict o)=dr at h ⊢
   simp only[dA]at h ⊢
   obtain⟨O,N⟩:=cc.1 h
   simp only[aC]at N
   obtain⟨b,J,Q⟩:=N
   have X:=CS P m
   obtain⟨ws,Ko⟩:=tC J
   obtain⟨U,h5,h6⟩:=ow hS D Ko X
   rw[h5,ta D h6 O,xm hS D J X]
   simp[Q]
 ·
  rename_i t y H
  unfold jU at h ⊢
  split at h
  ·rename_i r' i j ag n l Z hn
   try simp only[l,Z,hn]
   split at h
   ·rename_i b J
    have m:=ao P l
    generalize a.eval y=u at m
    cases m with | ptr G Kx=>
    rw[D r' b J (by rw[G];simp)]
    exact h
   ·cases h
  ·rename_i esz es i j ag n l Z hn
   try simp only[l,Z,hn]
   exact h
  ·cases h
 ·exact h
 ·exact h
 ·exact h
 ·
  rename_i s d y H
  cases l:ak tm y with
  | none=>rw[l]at h;simp[bI]at h
  | some y'=>
   rw[l]at h
   have m:=ao P l
   unfold bI at h ⊢
   split at h
   ·exact h
   ·exact h
   ·exact h
   ·rename_i z O N Q F
    injection F with F
    subst F
    split at h
    ·rename_i T
     try simp only[T,if_true]
     split at h
     ·rename_i p es Kv
      rw[qA D m Kv]
      exact h
     ·cases h
    ·rename_i T
     try simp only[T]
     split at h
     ·rename_i Kn
      try simp only[Kn,if_true]
      split at h
      ·generalize a.eval y=u at m
       cases m with | aD G=>
       split at h
       ·rename_i k V
        have:=D _ k V (by rw[G];simp)
        rw[this]
        exact h
       ·cases h
      ·cases h
     ·cases h
   ·rename_i F;cases F
 ·exact h
 ·exact h
 ·exact h
 ·exact h
 ·
  rename_i t y k ok H
  cases l:ak tm y with
  | none=>rw[l]at h;simp only[gU]at h;split at h<;>simp_all
  | some y'=>
   rw[l]at h
   exact w7 D (ao P l) h
 ·
  rename_i t y lo hi mx H
  cases l:ak tm y with
  | none=>rw[l]at h;simp only[dN]at h ⊢;exact h
  | some y'=>
   rw[l]at h
   have m:=ao P l
   generalize a.eval y=u at m
   cases m with
   | aD G=>
    simp only[dN]at h ⊢
    split at h
    ·rename_i Kr Ks Kp O N Q
     try simp only[O,N,Q]
     split at h
     ·rename_i b J
      rw[D _ b J (by rw[G];simp)]
      exact h
     ·cases h
    ·cases h
   | dsl G=>
    simp only[dN]at h ⊢
    split at h
    ·rename_i Kr Ks Kp O N Q
     try simp only[O,N,Q]
     split at h
     ·rename_i b J
      rw[D _ b J (by rw[G];simp)]
      exact h
     ·cases h
    ·cases h
   | _=>(unfold dN at h ⊢;(repeat' split at h)<;>simp_all)
 ·exact h
 ·exact h
 ·
  rename_i t y z H
  cases l:ak tm y with
  | none=>rw[l]at h;exact h
  | some y'=>
   rw[l]at h
   have m:=ao P l
   generalize a.eval y=u at m
   cases m with
   | aD G=>
    simp only[bj]at h ⊢
    split at h
    ·rename_i k V
     try simp only[V]
     split at h
     ·rename_i e F
      try simp only[F]
      split at h
      ·rename_i esz es cap s f S
       cases f
      ·rename_i r' x6 len cap s f S
       injection f with f
       injection f with e1 e2 e3 e4
       subst e1
       try simp only[S]
       split at h
       ·rename_i b J
        rw[D _ b J (by rw[G];simp)]
        subst e2;subst e3
        exact h
       ·cases h
      ·rename_i f S
       cases f
      ·cases h
     ·rename_i F
      try simp only[F]
      exact h
    ·cases h
   | dsl G=>
    simp only[bj]at h ⊢
    split at h
    ·rename_i k V
     try simp only[V]
     split at h
     ·rename_i e F
      try simp only[F]
      split at h
      ·rename_i f S
       cases f
      ·rename_i f S
       cases f
      ·rename_i r' x6 len cap s f S
       injection f with f
       injection f with e1 e2 e3 e4
       subst e1
       try simp only[S]
       split at h
       ·rename_i b J
        rw[D _ b J (by rw[G];simp)]
        subst e2;subst e3
        exact h
       ·cases h
      ·cases h
     ·rename_i F
      try simp only[F]
      exact h
    ·cases h
   | _=>(unfold bj at h ⊢;(repeat' split at h)<;>simp_all)
 ·exact h
 ·exact h
 ·exact h
 ·
  rename_i c H
  split at h
  ·cases h
  ·rename_i args L
   try simp only[L]
   have q:=fN P L
   split at h
   ·rename_i fo T
    try simp only[T]
    obtain⟨p0,h,e0⟩:=aC.1 h
    refine aC.2 ⟨p0,?_,e0⟩
    unfold iq at h ⊢
    split at h
    ·rename_i fi first I W
     try simp only[W]
     split at h
     ·cases h
     ·rename_i hm
      rw[if_neg hm]
      obtain⟨a',b',Ky,Kq,Ku⟩:=(ao P W).Fk
      have Y:fq M ι (first++args++I) (a'.toList++c.args.toList.map a.eval++b'.toList):=(Kq.append q).append Ku
      split at h
      ·rename_i xs Kt
       obtain⟨O,N,Q⟩:=AR hS D Kt Y
       try simp only[O]
       split at h
       ·rename_i y l
        try simp only[l]
        obtain⟨K,h⟩:=cc.1 h
        rw[N]
        rw[if_pos]
        ·exact h
        ·simp only[iK]at K ⊢
         rcases K with (U | U) | U
         ·exact .inl (.inl U)
         ·exact .inl (.inr (ta D Q U))
         ·exact .inr U
       ·cases h
      ·cases h
    ·cases h
   ·cases h
   ·rename_i b T
    try simp only[T]
    unfold bS at h ⊢
    split at h
    ·rename_i r'
     obtain⟨u,R⟩:=vI q.1.symm
     rw[R]at q
     have m:=q.2 0 (.mp r') u rfl rfl
     cases m with | mp G hz=>
     obtain⟨hd,h⟩:=yH.1 h
     simp only[if_neg hd]
     unfold nR at h ⊢
     split at h
     ·rename_i p Kw ht hm
      try simp only[ht]
      simp only[uD D (by rw[G];simp) hm]
      exact h
     ·cases h
    ·exact h
    ·exact h
    ·exact h
    ·rename_i y z
     obtain⟨u,v,R⟩:=mM q.1.symm
     rw[R]at q
     exact xc D (q.2 0 y u rfl rfl) (q.2 1 z v rfl rfl) h
    ·exact h
    ·cases h
 ·cases h
end
end
section
theorem C8{a:List Nat}{i:Nat} : ∀(b:List Nat),(oT a b).testBit i=true ->∃j∈b,i=j\/(a.getD j 0).testBit i=true:=by
 intro b
 induction b with
 | nil=>intro h;simp[oT]at h
 | cons j b c=>
  intro h
  simp only[oT,Nat.testBit_or,iK]at h
  rcases h with (h | h) | h
  ·rw[Nat.testBit_two_pow]at h
   exact⟨j,gu ..,.inl (by simpa using h:j=i).symm⟩
  ·exact⟨j,gu ..,.inr h⟩
  ·obtain⟨k,d,h⟩:=c h
   exact⟨k,gv _ d,h⟩
theorem yd : ∀(b:List Oper)(a:List Nat)(i:Nat),i<a.length->(bF b a).getD i 0=a.getD i 0:=by
 intro b
 induction b with
 | nil=>intro a i h;rfl
 | cons o b c=>
  intro a i h
  simp only[bF]
  rw[c _ i (by simp;omega)]
  simp[List.getD,dY h]
theorem FB : ∀(b:List Oper)(a:List Nat)(i:Nat)(o:Oper),b[i]?=some o ->
 ∀j,((bF b a).getD (a.length+i) 0).testBit j=true ->∃e∈cw o,j=e\/(e<a.length+i/\((bF b a).getD e 0).testBit j=true):=by
 intro b
 induction b with
 | nil=>intro a i o h;simp at h
 | cons o' b l=>
  intro a i o h j c
  cases i with
  | zero=>
   simp at h
   subst h
   simp only[bF,oc]at c ⊢
   rw[yd b _ a.length (by simp)]at c
   simp only[List.getD,fS (a7 _),kf,u9,bQ]at c
   obtain⟨e,he,c⟩:=C8 _ c
   refine⟨e,he,?_⟩
   rcases c with h | h
   ·exact .inl h
   ·right
    rcases cr e a.length with d | f
    ·refine⟨d,?_⟩
     have k:=yd b (a++[oT a (cw o')]) e (by simp;omega)
     simp only[List.getD,dY d]at h k ⊢
     rw[k]
     exact h
    ·rw[List.getD,lX f]at h
     simp at h
  | succ i=>
   simp only[bF]at c ⊢
   have:=l (a++[oT a (cw o')]) i o (by simpa using h) j (by
    rw[iU,u6]
    rwa [show a.length+1+i=a.length+(i+1) by omega])
   rw[iU,u6]at this
   rwa [show a.length+1+i=a.length+(i+1) by omega]at this
theorem HI{ops:Array Oper}{i j:Nat}{o:Oper}(a:ops[i]?=some o)(b:((bF ops.toList []).getD i 0).testBit j=true) : ∃e∈cw o,j=e\/(e<i/\((bF ops.toList []).getD e 0).testBit j=true):=by
 have:=FB ops.toList [] i o (by simpa using a) j (by simpa using b)
 simpa using this
def iI(ops:Array Oper)(L:Nat->Bool):Prop :=∀(i:Nat)(o:Oper),L i=true->ops[i]?=some o ->∀e∈cw o,L e=true
theorem k7{ops:Array Oper}{L:Nat->Bool}(f:iI ops L) : ∀(i:Nat)(o:Oper),ops[i]?=some o->(∀e∈cw o,L e=true) ->∀j,((bF ops.toList []).getD i 0).testBit j=true->L j=true:=by
 intro i
 induction i using Nat.strongRecOn with | ind i k=>
 intro o d b j l
 obtain⟨e,he,h | ⟨c,h⟩⟩:=HI d l
 ·rw[h];exact b e he
 ·have m:i<ops.size:=(dz.1 d).1
  have a:ops[e]?=some (ops[e]'(by omega)):=ey (by omega)
  exact k e c _ a (f e _ (b e he) a) j h
structure RegB (ops:Array Oper):Prop where
 edges : ∀(i:Nat)(o:Oper),ops[i]?=some o ->∀e∈cw o,e<i
 distinct : ∀(i j:Nat)(oi oj:Oper)(d:Tmp),ops[i]?=some oi->ops[j]?=some oj->oi.dst=some d->oj.dst=some d->i=j
 reads : ∀(i j:Nat)(oi oj:Oper)(d:Tmp),ops[i]?=some oi->ops[j]?=some oj->j≠i->oj.dst=some d->d∈oi.looksAt ops->(j<i/\((bF ops.toList []).getD i 0).testBit j=true)\/(i<j/\((bF ops.toList []).getD j 0).testBit i=true)
structure D9 (E:Env) (ops:Array Oper):Prop extends RegB ops where
 site : ∀(i:Nat)(o:Oper),ops[i]?=some o->lP E o=true->dK E o=false->o.dst.isSome=true
 writes : ∀(i j:Nat)(oi oj:Oper),ops[i]?=some oi->ops[j]?=some oj->j<i->lP E oi=true->lP E oj=true->lk E ops i=true->((bF ops.toList []).getD i 0).testBit j=true
theorem Aq{E:Env}{ops:Array Oper}{i j:Nat}{o:Oper}(a:ops[j]?=some o)(c:dK E o=true)(b:j<=i):lk E ops i=true:=by
 unfold lk
 rw[uW]
 exact⟨j,lT.2 (by omega),by rw[a];exact c⟩
theorem iu{E:Env}{ops:Array Oper}{i:Nat}(h:lk E ops i=false){j:Nat}{o:Oper}(b:ops[j]?=some o)(a:j<=i):dK E o=false:=by
 cases hw:dK E o with
 | false=>rfl
 | true=>rw[Aq b hw a]at h;cases h
theorem I1{E:Env}{ops:Array Oper}{i:Nat}(h:lk E ops i=true) : ∃j o,j<=i/\ops[j]?=some o/\dK E o=true:=by
 unfold lk at h
 rw[uW]at h
 obtain⟨k,a,h⟩:=h
 have c:=lT.1 a
 split at h
 ·rename_i o b;exact⟨k,o,by omega,b,h⟩
 ·cases h
theorem E8{E:Env}{ops:Array Oper}{i j:Nat}(h:lk E ops j=true)(c:j<=i):lk E ops i=true:=by
 unfold lk at h
 rw[uW]at h
 obtain⟨k,a,h⟩:=h
 have d:=lT.1 a
 split at h
 ·rename_i o b;exact Aq b h (by omega)
 ·cases h
theorem AN{ops:Array Oper}(one : ∀(i:Nat)(o:Oper),ops[i]?=some o->(cw o).all (· < i)=true)
 (t : ∀(i j:Nat)(oi a:Oper),ops[i]?=some oi->ops[j]?=some a->j<i->mv ops (bF ops.toList []) oi a i j=true):RegB ops:=by
 have b : ∀(i j:Nat)(oi a:Oper),ops[i]?=some oi->ops[j]?=some a->j<i->(a.dst.isNone=true\/oi.dst≠a.dst)/\(∀d,a.dst=some d->d∈oi.looksAt ops->((bF ops.toList []).getD i 0).testBit j=true) /\
  (∀d,oi.dst=some d->d∈a.looksAt ops->((bF ops.toList []).getD i 0).testBit j=true):=by
  intro i j oi a l n v
  have:=t i j oi a l n v
  unfold mv at this
  simp only[bR]at this
  obtain⟨⟨c,k⟩,p⟩:=this
  refine⟨?_,?_,?_⟩
  ·simpa using c
  ·intro d s q
   rw[s]at k
   simp only[iK,gb]at k
   rcases k with k | k
   ·have:(oi.looksAt ops).contains d=true:=u4.2 q
    rw[k]at this;cases this
   ·exact k
  ·intro d s q
   rw[s]at p
   simp only[iK,gb]at p
   rcases p with p | p
   ·have:(a.looksAt ops).contains d=true:=u4.2 q
    rw[p]at this;cases this
   ·exact p
 refine⟨?_,?_,?_⟩
 ·intro i o x e y
  have:=one i o x
  simp only[dh,decide_eq_true_eq]at this
  exact this e y
 ·intro i j oi a d l n m f
  rcases re i j with h | h | h
  ·exfalso
   rcases(b j i a oi n l h).1 with c | c
   ·rw[m]at c;cases c
   ·exact c (by rw[m,f])
  ·exact h
  ·exfalso
   rcases(b i j oi a l n h).1 with c | c
   ·rw[f]at c;cases c
   ·exact c (by rw[m,f])
 ·intro i j oi a d l n u s q
  rcases yw u with h | h
  ·exact .inl ⟨h,(b i j oi a l n h).2.1 d s q⟩
  ·exact .inr ⟨h,(b j i a oi n l h).2.2 d s q⟩
theorem wY{E:Env}{ops:Array Oper}(h:pl E ops=true):D9 E ops:=by
 unfold pl at h
 simp only[dh,lT]at h
 have one : ∀(i:Nat)(o:Oper),ops[i]?=some o->(cw o).all (· < i)=true/\(!lP E o||dK E o||o.dst.isSome)=true /\∀(j:Nat)(d:Oper),j<i->ops[j]?=some d->zb E ops (bF ops.toList []) o d i j=true:=by
  intro i o l
  have f:i<ops.size:=(dz.1 l).1
  have:=h i f
  rw[l]at this
  simp only[bR,dh,lT]at this
  refine⟨by simpa using this.1.1,by simpa using this.1.2,λj d k n=>?_⟩
  have m:=this.2 j k
  rw[n]at m
  exact m
 have split : ∀(i j:Nat)(oi d:Oper),ops[i]?=some oi->ops[j]?=some d->j<i->mv ops (bF ops.toList []) oi d i j=true/\(lP E oi=true->lP E d=true->lk E ops i=true->((bF ops.toList []).getD i 0).testBit j=true):=by
  intro i j oi d f k e
  have:=(one i oi f).2.2 j d e k
  unfold zb at this
  rw[bR]at this
  refine⟨this.1,λa b c=>?_⟩
  have p:=this.2
  rw[a,b,c]at p
  simpa using p
 refine⟨AN (λi o l=>(one i o l).1) λi j oi d f k e=>(split i j oi d f k e).1,?_,λi j oi d f k e=>(split i j oi d f k e).2⟩
 intro i o l q m
 have:=(one i o l).2.1
 rw[q,m]at this
 simpa using this
theorem sf{E:Env}{pc:FuncId->List AV->Option AV}{tc:lb->List AV->aa->bk}{nt dep:Nat}{ops:Array Oper} : ∀(l:List Oper)(st st':St),iW E pc tc nt dep true ops l st=some st' ->
 ∃f:Nat->St,f 0=st/\f l.length=st' /\∀i o,l[i]?=some o->evalOp E pc tc nt dep true ops o (f i)=some (f (i+1)):=by
 intro l
 induction l with
 | nil=>
  intro st st' h
  simp only[iW,cz]at h
  exact⟨λ_=>st,rfl,h,λi o a=>by simp at a⟩
 | cons o l e=>
  intro st st' h
  simp only[iW,zC]at h
  split at h
  ·rename_i b c
   obtain⟨f,d,j,k⟩:=e b st' h
   refine⟨λn=>match n with | 0=>st | n+1=>f n,rfl,j,?_⟩
   intro i o' a
   cases i with
   | zero=>simp at a;subst a;simp only;rw[d];exact c
   | succ i=>exact k i o' (by simpa using a)
  ·cases h
inductive Jw (E:Env) (pc:FuncId->List AV->Option AV) (nt dep:Nat) (ops:Array Oper) (o:Oper) (st st2:St):Prop
 | no (hw:wanted ops st.tm o=some false) (tm':List AV) (ht:bl nt st.tm o.dst AV.undef=some tm') (he:st2=⟨tm',st.hp⟩)
 | quiet (hw:wanted ops st.tm o=some true) (x:AV) (bs:List ax) (hq:bh E pc true st.hp.get st.tm ⟨dep,o.dst.getD 0,st.hp.gen dep (o.dst.getD 0),0⟩ o=some (x,bs)) (tm':List AV)
  (ht:bl nt st.tm o.dst x=some tm') (he:st2=⟨tm',keyed ⟨dep,o.dst.getD 0,st.hp.gen dep (o.dst.getD 0),0⟩ 0 bs st.hp⟩)
 | write (hk:dK E o=true)
theorem gG{E:Env}{pc:FuncId->List AV->Option AV}{tc:lb->List AV->aa->bk}{nt dep:Nat}{ops:Array Oper}{o:Oper}{st a:St}(h:evalOp E pc tc nt dep true ops o st=some a):Jw E pc nt dep ops o st a:=by
 unfold evalOp at h
 split at h
 ·cases h
 ·rename_i c
  simp only[aC]at h
  obtain⟨tm',b,rfl⟩:=h
  exact .no c tm' b rfl
 ·rename_i c
  split at h
  ·rename_i x f d
   simp only[aC]at h
   obtain⟨tm',b,rfl⟩:=h
   exact .quiet c x f d tm' b rfl
  ·split at h
   ·cases h
   ·rename_i e
    refine .write ?_
    simpa using e
theorem wB{E:Env}{o:Oper}(h:dK E o=true):eC o.op=true:=by
 unfold dK at h
 have d:(E.cS o&&n9 o.op)=true->eC o.op=true:=by
  intro h
  replace h:=(lW.1 h).2
  unfold n9 at h
  split at h
  ·rename_i a;rw[a];rfl
  ·cases h
 by_cases e:(E.cS o&&n9 o.op)=true
 ·exact d e
 replace h:=(rF.1 h).resolve_right e
 replace h:=(lW.1 h).2
 unfold Gj at h
 split at h
 ·rename_i a;rw[a];rfl
 ·rename_i a;rw[a];rfl
 ·rename_i a;rw[a];rfl
 ·rename_i a;rw[a];rfl
 ·rename_i a;rw[a];rfl
 ·rename_i c a
  rw[a]
  unfold eC
  split at h
  ·rename_i b;simp[b]
  ·rename_i b;simp[b]
  ·rename_i b;simp[b]
  ·rename_i b;simp[b]
  ·cases h
 ·cases h
theorem Bj{E:Env}{pc:FuncId->List AV->Option AV}{g:bD}{tm:List AV}{r:Ref}{o:Oper}(d:eC o.op=false){x:AV}{j:List ax}(h:bh E pc true g tm r o=some (x,j)) :
 j=[] /\∀C r',bh E pc true C tm r' o=some (x,j):=by
 have v : ∀ {y:Option AV},fa y=some (x,j)->j=[]:=λh=>(iY h).2
 unfold bh at h ⊢
 simp only[uT,rB,cond_false,mI]at h ⊢
 split at h
 ·exact⟨v h,λ_ _=>h⟩
 ·exact⟨v h,λ_ _=>h⟩
 ·refine⟨?_,λ_ _=>h⟩
  unfold sn at h
  split at h
  ·exact v h
  ·exact v h
  ·cases h
 ·rename_i a;rw[a]at d;simp[eC]at d
 ·rename_i a;rw[a]at d;simp[eC]at d
 ·refine⟨?_,λ_ _=>h⟩
  unfold iG at h
  (repeat' split at h)<;>(try simp_all)<;>(try (obtain⟨_,_,_,h⟩:=h;exact h))
 ·rename_i a;rw[a]at d;simp[eC]at d
 ·rename_i a;rw[a]at d;simp[eC]at d
 ·refine⟨?_,λ_ _=>h⟩
  unfold EU at h
  (repeat' split at h)<;>(try simp_all)<;>(try (obtain⟨_,_,_,h⟩:=h;exact h))
 ·refine⟨?_,λ_ _=>h⟩
  unfold cK at h
  (repeat' split at h)<;>first | exact v h | (simp_all;done)
 ·exact⟨v h,λ_ _=>h⟩
 ·rename_i a;rw[a]at d;simp[eC]at d
 ·refine⟨?_,λ_ _=>h⟩
  unfold pY at h
  (repeat' split at h)<;>(try simp_all)<;>(try (obtain⟨_,_,_,h⟩:=h;exact h))
 ·refine⟨?_,λ_ _=>h⟩
  unfold ss at h
  (repeat' split at h)<;>(try simp_all)<;>(try (obtain⟨_,_,_,h⟩:=h;exact h))
 ·rename_i a;rw[a]at d;simp[eC]at d
 ·rename_i a;rw[a]at d;simp[eC]at d
 ·rename_i a;rw[a]at d;simp[eC]at d
 ·rename_i a;rw[a]at d;simp[eC]at d
 ·refine⟨?_,λ_ _=>h⟩
  unfold du at h
  (repeat' split at h)<;>(try simp_all)<;>(try (obtain⟨_,_,_,h⟩:=h;exact h))
 ·refine⟨?_,λ_ _=>h⟩
  unfold pZ at h
  (repeat' split at h)<;>first | exact v h | (simp_all;done)
 ·rename_i a;rw[a]at d;simp[eC]at d
 ·refine⟨?_,λ_ _=>h⟩
  unfold oQ at h
  (repeat' split at h)<;>first | exact v h | (simp_all;done)
 ·refine⟨?_,λ_ _=>h⟩
  unfold nS at h
  (repeat' split at h)<;>(try simp_all)<;>(try (obtain⟨_,_,_,h⟩:=h;exact h))
 ·refine⟨?_,λ_ _=>h⟩
  unfold jV at h
  (repeat' split at h)<;>first | exact v h | (simp_all;done)
 ·rename_i c a
  rw[a]at d
  simp only[eC]at d
  split at h
  ·cases h
  ·rename_i args e
   split at h
   ·rename_i f;rw[f]at d;simp at d
   ·cases h
   ·rename_i b f
    rw[f]at d
    unfold bS at h
    split at h
    ·have k:zj c=false:=by simpa using d
     unfold zj at k
     rw[k]at h
     simp at h
    ·rename_i l
     refine⟨?_,λ_ _=>by simpa [e,f,bS] using h⟩
     unfold tv at h
     (repeat' split at h)<;>(try simp_all)<;>(try (obtain⟨_,_,_,h⟩:=h;exact h))<;>(try (obtain⟨n,_,h⟩:=dL.1 h;simp at h;exact h.2))
    ·exact⟨v h,λ_ _=>by simpa [e,f,bS] using h⟩
    ·exact⟨v h,λ_ _=>by simpa [e,f,bS] using h⟩
    ·simp at d
    ·simp at d
    ·cases h
 ·cases h
theorem xu{o:Op}(h:xv o=true) : ∃c,o = .call c/\c.callee = .builtin .len:=by
 unfold xv at h
 split at h
 ·rename_i c
  split at h
  ·rename_i a;exact⟨c,rfl,a⟩
  ·cases h
 ·cases h
theorem dp{E:Env}{o:Oper}(h:dK E o=true):lP E o=true:=by
 unfold lP
 rw[wB h,o6]
 cases d:xv o.op with
 | false=>simp
 | true=>
  exfalso
  obtain⟨c,a,b⟩:=xu d
  simp[dK,a,Gj,b,n9]at h
theorem mf{E:Env}{pc:FuncId->List AV->Option AV}{g:bD}{tm:List AV}{r:Ref}{o:Oper}(b:lP E o=false){x:AV}{d:List ax}(h:bh E pc true g tm r o=some (x,d)) :
 d=[] /\∀C r',bh E pc true C tm r' o=some (x,d):=by
 cases hp:eC o.op with
 | false=>exact Bj hp h
 | true=>
  unfold lP at b
  rw[hp,o6]at b
  obtain⟨f,l⟩:=lW.1 (by simpa using b:(E.strict o&&xv o.op)=true)
  obtain⟨c,e,k⟩:=xu l
  unfold bh at h ⊢
  simp only[e,k,f,Bool.true_or,ry]at h ⊢
  split at h
  ·cases h
  ·rename_i args a
   unfold bS at h ⊢
   split at h
   ·simp at h
   ·rename_i y j
    refine⟨?_,λ_ _=>?_⟩
    ·unfold tv at h
     (repeat' split at h)<;>(try simp_all)<;>(try (obtain⟨_,_,_,h⟩:=h;exact h))<;>(try (obtain⟨n,_,h⟩:=dL.1 h;simp at h;exact h.2))
    ·exact h
   all_goals (first | cases h | simp_all)
end
section
def cL(ops:Array Oper)(dep:Nat)(sts:Nat->St)(i:Nat):Ref:=⟨dep,(dQ ops i).getD 0,(sts i).hp.gen dep ((dQ ops i).getD 0),0⟩
def newAt(E:Env)(pc:FuncId->List AV->Option AV)(ops:Array Oper)(dep:Nat)(sts:Nat->St)(i:Nat):List ax:=
 match ops[i]? with
 | none=>[]
 | some o=>if lP E o && !lk E ops i then
  match wanted ops (sts i).tm o with
  | some true=>(match bh E pc true (sts i).hp.get (sts i).tm (cL ops dep sts i) o with
   | some (_,bs)=>bs
   | none=>[])
  | _=>[]
  else []
def gF(a:bD)(key:Nat->Ref)(new:Nat->List ax)(L:Nat->Bool):Nat->bD
 | 0=>a
 | i+1=>if L i then jJ (gF a key new L i) (key i) (new i) else gF a key new L i
def mt(key:Nat->Ref)(new:Nat->List ax)(i:Nat)(q:Ref):Prop:=q.d=(key i).d/\q.t=(key i).t/\q.g=(key i).g/\q.k<(new i).length
theorem jK{b:bD}{key:Nat->Ref}{new:Nat->List ax}{L:Nat->Bool}{q:Ref} : ∀n,(∀i,i<n->L i=true ->¬mt key new i q)->gF b key new L n q=b q:=by
 intro n
 induction n with
 | zero=>intro _;rfl
 | succ n c=>
  intro h
  simp only[gF]
  split
  ·rename_i d
   exact(if_neg (h n (iT n) d)).trans (c λi a=>h i (rb a))
  ·exact c λi a=>h i (rb a)
theorem oU{d:bD}{key:Nat->Ref}{new:Nat->List ax}{L:Nat->Bool}{q:Ref}(a : ∀i j,mt key new i q->mt key new j q->i=j){i:Nat}(c:mt key new i q)(f:L i=true) :
 ∀n,i<n->gF d key new L n q=(new i)[q.k]?:=by
 intro n
 induction n with
 | zero=>intro h;omega
 | succ n e=>
  intro h
  simp only[gF]
  by_cases b:i=n
  ·subst b
   rw[if_pos f]
   exact if_pos c
  ·have:gF d key new L n q=(new i)[q.k]?:=e (by omega)
   split
   ·exact(if_neg (λl=>b (a i n c l))).trans this
   ·exact this
section
variable{E:Env}{pc:FuncId->List AV->Option AV}{tc:lb->List AV->aa->bk}{nt dep:Nat}{ops:Array Oper}{sts:Nat->St}
def TS(ops:Array Oper)(sts:Nat->St)(L:Nat->Bool)(tm:List AV):Prop:=
 ∀t,(∀i,i<ops.size->L i=true->dQ ops i=some t->cm tm t=cm (sts (i+1)).tm t)/\((∀i,i<ops.size->L i=true->dQ ops i≠some t)->cm tm t=cm (sts 0).tm t)
theorem lj{tm tm':List AV}{b:Option Tmp}{x:AV}(h:bl nt tm b x=some tm')(t:Nat):cm tm' t=if b=some t then x else cm tm t:=by
 unfold bl at h
 split at h
 ·injection h with h;subst h;simp
 ·rename_i d
  obtain⟨_,h⟩:=cc.1 h
  injection h with h
  subst h
  rw[nL]
  by_cases a:t=d
  ·subst a;simp
  ·rw[if_neg a,if_neg (by intro e;injection e with e;exact a e.symm)]
theorem fh{tm tm' tm1:List AV}{a:Option Tmp}{x:AV}(h:bl nt tm a x=some tm') : ∃b,bl nt tm1 a x=some b:=by
 unfold bl at h ⊢
 cases a with
 | none=>exact⟨_,rfl⟩
 | some d=>
  simp only at h ⊢
  obtain⟨c,_⟩:=cc.1 h
  rw[if_pos c]
  exact⟨_,rfl⟩
theorem wS{o:Oper}{i:Nat}(A:evalOp E pc tc nt dep true ops o (sts i)=some (sts (i+1))) : ∃x,bl nt (sts i).tm o.dst x=some (sts (i+1)).tm:=by
 unfold evalOp at A
 split at A
 ·cases A
 ·simp only[aC]at A
  obtain⟨tm',a,he⟩:=A
  exact⟨_,by rw[<-he];exact a⟩
 ·split at A
  ·simp only[aC]at A
   obtain⟨tm',a,he⟩:=A
   exact⟨_,by rw[<-he];exact a⟩
  ·split at A
   ·cases A
   ·split at A
    ·simp only[aC]at A
     obtain⟨tm',a,he⟩:=A
     exact⟨_,by rw[<-he];exact a⟩
    ·cases A
section
variable(B:RegB ops)(A : ∀i o,ops[i]?=some o->evalOp E pc tc nt dep true ops o (sts i)=some (sts (i+1)))
include B A
omit A in
theorem DI{i j:Nat}{t:Nat}(a:dQ ops i=some t)(b:dQ ops j=some t):i=j:=by
 simp only[dQ,dL]at a b
 obtain⟨oi,d,e⟩:=a
 obtain⟨c,f,h⟩:=b
 exact B.distinct i j oi c t d f e h
theorem vl : ∀i,i<=ops.size->TS ops sts (λj=>decide (j<i)) (sts i).tm:=by
 intro i
 induction i with
 | zero=>intro _ t;exact⟨λj _ h=>by simp at h,λ_=>rfl⟩
 | succ i v=>
  intro l t
  have f:i<ops.size:=l
  have n:=ey f
  obtain⟨x,q⟩:=wS (A i _ n)
  have p:dQ ops i=ops[i].dst:=by simp[dQ,n]
  have m:=lj q t
  obtain⟨s,u⟩:=v (by omega) t
  refine⟨λj h a c=>?_,λd=>?_⟩
  ·simp only[decide_eq_true_eq]at a
   by_cases k:j=i
   ·subst k;rfl
   ·have b:ops[i].dst≠some t:=by
     intro e
     rw[<-p]at e
     exact k (DI B c e)
    rw[m,if_neg b]
    exact s j h (by simp;omega) c
  ·have b:ops[i].dst≠some t:=by rw[<-p];exact d i f (by simp)
   rw[m,if_neg b]
   exact u λj h a=>d j h (by simp at a ⊢;omega)
theorem sj{L:Nat->Bool}(s:iI ops L){i:Nat}{o:Oper}(p:ops[i]?=some o)(x:L i=false)(q : ∀e∈cw o,L e=true){tm:List AV}(D:TS ops sts L tm){t:Nat}(v:t∈o.looksAt ops) :
 cm tm t=cm (sts i).tm t:=by
 have I:i<ops.size:=(dz.1 p).1
 obtain⟨y,F⟩:=D t
 obtain⟨G,J⟩:=vl B A i (by omega) t
 by_cases k : ∃j,j<ops.size/\L j=true/\dQ ops j=some t
 ·obtain⟨j,l,a,b⟩:=k
  have c:=b
  simp only[dQ,dL]at c
  obtain⟨n,d,h⟩:=c
  have u:j≠i:=by intro e;rw[e,x]at a;cases a
  rcases B.reads i j o n t p d u h v with ⟨m,_⟩ | ⟨_,f⟩
  ·rw[y j l a b,G j l (by simpa using m) b]
  ·have:=k7 s j n d (λe z=>s j n a d e z) i f
   rw[x]at this
   cases this
 ·rw[F λj l a b=>k ⟨j,l,a,b⟩]
  refine(J λj l a b=>?_).symm
  simp only[decide_eq_true_eq]at a
  have c:=b
  simp only[dQ,dL]at c
  obtain⟨n,d,h⟩:=c
  rcases B.reads i j o n t p d (by omega) h v with ⟨_,f⟩ | ⟨H,_⟩
  ·exact k ⟨j,l,k7 s i o p q j f,b⟩
  ·omega
omit A in
theorem ko{L u:Nat->Bool}{i:Nat}{o:Oper}(s:ops[i]?=some o)(b : ∀j,u j=true↔(L j=true\/j=i))(F:L i=false){tm tm':List AV}(z:TS ops sts L tm){x:AV}(v:bl nt (sts i).tm o.dst x=some (sts (i+1)).tm)
 (l:bl nt tm o.dst x=some tm'):TS ops sts u tm':=by
 intro t
 have p:i<ops.size:=(dz.1 s).1
 have n:dQ ops i=o.dst:=by simp[dQ,s]
 obtain⟨y,D⟩:=z t
 have G:=lj v t
 have k:=lj l t
 refine⟨λj m c a=>?_,λf=>?_⟩
 ·rcases(b j).1 c with h | h
  ·have q:j≠i:=by intro e;rw[e,F]at h;cases h
   have d:o.dst≠some t:=by rw[<-n];intro e;exact q (DI B a e)
   rw[k,if_neg d]
   exact y j m h a
  ·subst h
   rw[n]at a
   rw[k,if_pos a,G,if_pos a]
 ·have d:o.dst≠some t:=by rw[<-n];exact f i p ((b i).2 (.inr rfl))
  rw[k,if_neg d]
  exact D λj m c=>f j m ((b j).2 (.inl c))
end
variable(B:D9 E ops)(A : ∀i o,ops[i]?=some o->evalOp E pc tc nt dep true ops o (sts i)=some (sts (i+1)))
include B A
abbrev I2(ops:Array Oper)(dep:Nat)(sts:Nat->St):Nat->Ref:=cL ops dep sts
omit B A in
theorem jX{i:Nat}(h:newAt E pc ops dep sts i≠[]) : ∃o,ops[i]?=some o/\lP E o=true/\lk E ops i=false:=by
 unfold newAt at h
 split at h
 ·exact absurd rfl h
 ·rename_i o b
  split at h
  ·rename_i a
   simp only[bR,gb]at a
   exact⟨o,b,a.1,a.2⟩
  ·exact absurd rfl h
omit A in
theorem vF{q:Ref}(i j:Nat)(h:mt (cL ops dep sts) (newAt E pc ops dep sts) i q)(k:mt (cL ops dep sts) (newAt E pc ops dep sts) j q):i=j:=by
 have ne : ∀ {i},mt (cL ops dep sts) (newAt E pc ops dep sts) i q->newAt E pc ops dep sts i≠[]:=by
  intro i h e
  have:=h.2.2.2
  rw[e]at this
  simp at this
 obtain⟨oi,c,n,v⟩:=jX (ne h)
 obtain⟨f,d,m,u⟩:=jX (ne k)
 obtain⟨l,b⟩:=fe.1 (B.site i oi c n (iu v c (a7 _)))
 obtain⟨p,a⟩:=fe.1 (B.site j f d m (iu u d (a7 _)))
 have s:q.t=l:=by have:=h.2.1;simpa [cL,dQ,c,b] using this
 have x:q.t=p:=by have:=k.2.1;simpa [cL,dQ,d,a] using this
 exact B.distinct i j oi f l c d b (by rw[a,<-s,<-x])
def FY(E:Env)(ops:Array Oper)(n:Nat):Prop :=∀j o,j<n->ops[j]?=some o->dK E o=false
omit B A in
theorem C1{n:Nat}(d:FY E ops (n+1)):lk E ops n=false:=by
 cases h:lk E ops n with
 | false=>rfl
 | true=>
  unfold lk at h
  rw[uW]at h
  obtain⟨k,b,h⟩:=h
  have a:=lT.1 b
  split at h
  ·rename_i o c;rw[d k o a c]at h;cases h
  ·cases h
omit B in
theorem vo{n:Nat}(s:n<=ops.size)(f:FY E ops n):(sts n).hp.get=gF (sts 0).hp.get (cL ops dep sts) (newAt E pc ops dep sts) (λ_=>true) n:=by
 induction n with
 | zero=>rfl
 | succ n q=>
  have b:=ey (show n<ops.size from s)
  have c:=q (by omega) (λj o t=>f j o (by omega))
  simp only[gF,if_true]
  rw[<-c]
  have m:dQ ops n=ops[n].dst:=by simp[dQ,b]
  have h:cL ops dep sts n=⟨dep,ops[n].dst.getD 0,(sts n).hp.gen dep (ops[n].dst.getD 0),0⟩:=by simp[cL,m]
  rcases gG (A n _ b)with ⟨a,tm',l,he⟩ | ⟨a,x,bs,k,tm',l,he⟩ | d
  ·have:newAt E pc ops dep sts n=[]:=by
    unfold newAt
    rw[b]
    simp only[a]
    split<;>rfl
   rw[this,gk,he]
  ·have e:=C1 f
   rw[he]
   simp only
   rw[aa.fZ,<-h]
   congr 1
   unfold newAt
   rw[b]
   simp only[a,h,k,e,rA,ry]
   cases p:lP E ops[n] with
   | true=>rfl
   | false=>
    rw[(mf p k).1]
    rfl
  ·exact absurd d (by rw[f n _ (iT n) b];simp)
omit B in
theorem wL{n:Nat}(J:n<=ops.size)(u:FY E ops n)(d t:Nat):(sts 0).hp.gen d t<=(sts n).hp.gen d t /\
 ((∀j,j<n->newAt E pc ops dep sts j≠[] ->¬(d=dep/\t=(dQ ops j).getD 0))->(sts n).hp.gen d t=(sts 0).hp.gen d t) /\
 ∀j,j<n->newAt E pc ops dep sts j≠[]->d=dep->t=(dQ ops j).getD 0->(cL ops dep sts j).g<(sts n).hp.gen d t:=by
 induction n with
 | zero=>exact⟨a7 _,λ_=>rfl,λj k=>by omega⟩
 | succ n H=>
  have m:=ey (show n<ops.size from J)
  obtain⟨i1,i2,i3⟩:=H (by omega) (λj o k=>u j o (by omega))
  have v:dQ ops n=ops[n].dst:=by simp[dQ,m]
  have D:cL ops dep sts n=⟨dep,ops[n].dst.getD 0,(sts n).hp.gen dep (ops[n].dst.getD 0),0⟩:=by simp[cL,v]
  have same:(sts (n+1)).hp=(sts n).hp->newAt E pc ops dep sts n=[]->(sts 0).hp.gen d t<=(sts (n+1)).hp.gen d t /\
   ((∀j,j<n+1->newAt E pc ops dep sts j≠[] ->¬(d=dep/\t=(dQ ops j).getD 0))->(sts (n+1)).hp.gen d t=(sts 0).hp.gen d t) /\
   ∀j,j<n+1->newAt E pc ops dep sts j≠[]->d=dep->t=(dQ ops j).getD 0->(cL ops dep sts j).g<(sts (n+1)).hp.gen d t:=by
   intro I L
   rw[I]
   refine⟨i1,λh=>i2 λj k=>h j (by omega),λj k a=>?_⟩
   have:j≠n:=by intro e;rw[e]at a;exact a L
   exact i3 j (by omega) a
  rcases gG (A n _ m)with ⟨c,tm',G,he⟩ | ⟨c,x,bs,F,tm',G,he⟩ | y
  ·refine same (by rw[he]) ?_
   unfold newAt
   rw[m]
   simp only[c]
   split<;>rfl
  ·have z:=C1 u
   have l:newAt E pc ops dep sts n=bs:=by
    unfold newAt
    rw[m]
    simp only[c,D,F,z,rA,ry]
    cases K:lP E ops[n] with
    | true=>rfl
    | false=>rw[(mf K F).1];rfl
   by_cases q:bs=[]
   ·refine same ?_ (by rw[l,q])
    rw[he,q]
    rfl
   ·rw[he]
    simp only
    rw[aa.fM]
    simp only[ne_eq,q,not_false_eq_true,and_true]
    by_cases b:d=dep/\t=ops[n].dst.getD 0
    ·rw[if_pos b]
     obtain⟨rfl,rfl⟩:=b
     refine⟨by omega,λh=>?_,λj k a s p=>?_⟩
     ·exact absurd ⟨rfl,by rw[v]⟩ (h n (iT n) (by rw[l];exact q))
     ·by_cases f:j=n
      ·rw[f,D];exact iT _
      ·have:=i3 j (by omega) a rfl p
       omega
    ·rw[if_neg b]
     refine⟨i1,λh=>i2 λj k=>h j (by omega),λj k a s p=>?_⟩
     by_cases f:j=n
     ·subst f
      exact absurd ⟨s,by rw[p,v]⟩ b
     ·exact i3 j (by omega) a s p
  ·exact absurd y (by rw[u n _ (iT n) m];simp)
theorem uG{ι:Map}(s:jA ι (sts 0).hp){i:Nat}{o:Oper}(c:ops[i]?=some o)(t:lP E o=true)(l:dK E o=false)(D:FY E ops i)(k:Nat):ι { cL ops dep sts i with k:=k}=none:=by
 have z:i<ops.size:=(dz.1 c).1
 obtain⟨d,p⟩:=fe.1 (B.site i o c t l)
 have f:dQ ops i=some d:=by simp[dQ,c,p]
 obtain⟨_,v,_⟩:=wL (pc:=pc) (tc:=tc) (nt:=nt) (dep:=dep) A (dJ z) D dep d
 have q:(sts i).hp.gen dep d=(sts 0).hp.gen dep d:=v λj F h u=>by
  obtain⟨n,a,m,e⟩:=jX h
  obtain⟨x,b⟩:=fe.1 (B.site j n a m (iu e a (a7 _)))
  have:d=x:=by have:=u.2;simpa [dQ,a,b] using this
  exact absurd (B.distinct i j o n d c a p (by rw[b,this])) (by omega)
 have y:cL ops dep sts i=⟨dep,d,(sts 0).hp.gen dep d,0⟩:=by simp[cL,f,q]
 rw[y]
 exact s.fresh dep d k
end
end
section
theorem nz{ops:Array Oper}{o:Oper}{tm tm':List AV}(h : ∀t∈o.looksAt ops,cm tm t=cm tm' t):pM tm tm' o.op.operands.toList:=by
 intro x a
 cases x with
 | tmp t=>
  simp only[ak]
  rw[h t]
  unfold Oper.looksAt
  exact rH _ (List.mem_filterMap.2 ⟨_,a,rfl⟩)
 | _=>rfl
theorem mA{ops:Array Oper}{o:Oper}{tm tm':List AV}(h : ∀t∈o.looksAt ops,cm tm t=cm tm' t):wanted ops tm o=wanted ops tm' o:=by
 unfold wanted
 cases a:o.guard with
 | none=>rfl
 | some p=>
  obtain⟨j,b⟩:=p
  simp only
  cases c:(ops[j]?).bind (·.dst) with
  | none=>rfl
  | some t=>
   simp only
   rw[h t]
   unfold Oper.looksAt
   rw[a]
   simp[c]
theorem qB{p p':Nat->Bool}{i:Nat}(b : ∀j,p' j=true->p j=true)(e:p i=true)(h:p' i=false) : ∀l:List Nat,i∈l->l.countP p'<l.countP p:=by
 intro l c
 have mono : ∀l:List Nat,l.countP p'<=l.countP p:=λl=>List.countP_mono_left λx _=>b x
 induction l with
 | nil=>cases c
 | cons a l f=>
  simp only[List.countP_cons]
  by_cases d:a=i
  ·subst d
   have:=mono l
   rw[e,h]
   simp
   omega
  ·have:=f (by simpa [jB d] using c)
   have k:(if p' a=true then 1 else 0)<=(if p a=true then 1 else 0):=by
    by_cases hp:p' a=true
    ·rw[if_pos hp,if_pos (b a hp)];exact a7 _
    ·rw[if_neg hp];exact rq _
   omega
theorem uL{E:Env}{pc:FuncId->List AV->Option AV}{tc:lb->List AV->aa->bk}{nt dep:Nat}{ops:Array Oper}{o:Oper}{st st':St}{tm1:List AV}(h : ∀t∈o.looksAt ops,cm tm1 t=cm st.tm t)
 (a:evalOp E pc tc nt dep true ops o st=some st') : ∃x b,bl nt st.tm o.dst x=some st'.tm/\bl nt tm1 o.dst x=some b/\evalOp E pc tc nt dep true ops o ⟨tm1,st.hp⟩=some ⟨b,st'.hp⟩:=by
 have d:=nz h
 have e:=mA h
 unfold evalOp at a ⊢
 simp only
 rw[e,j3 d,DA d]
 have c : ∀ {x:AV} {H:aa},(bl nt st.tm o.dst x).map (λtm=>(⟨tm,H⟩:St))=some st' ->∃k b,bl nt st.tm o.dst k=some st'.tm/\bl nt tm1 o.dst k=some b/\(bl nt tm1 o.dst x).map (λtm=>(⟨tm,H⟩:St))=some ⟨b,st'.hp⟩:=by
  intro x H m
  obtain⟨tm',f,rfl⟩:=aC.1 m
  obtain⟨b,j⟩:=fh (tm1:=tm1) f
  exact⟨x,b,f,j,by rw[j];rfl⟩
 revert a
 generalize wanted ops st.tm o=W
 generalize bh E pc true st.hp.get st.tm ⟨dep,o.dst.getD 0,st.hp.gen dep (o.dst.getD 0),0⟩ o=X
 generalize evalW E pc tc st.hp st.tm ⟨dep,o.dst.getD 0,st.hp.gen dep (o.dst.getD 0),0⟩ o=Y
 intro a
 rcases W with _ | ⟨_ | _⟩
 ·cases a
 ·exact c a
 ·rcases X with _ | ⟨x,bs⟩
  ·simp only at a ⊢
   by_cases l:(true && !dK E o)=true
   ·rw[if_pos l]at a;cases a
   ·rw[if_neg l]at a ⊢
    rcases Y with _ | ⟨x,H⟩
    ·cases a
    ·exact c a
  ·exact c a
section
variable{E:Env}{pc:FuncId->List AV->Option AV}{tc:lb->List AV->aa->bk}{nt dep:Nat}{ops:Array Oper}{sts:Nat->St}
variable(B:D9 E ops)(A : ∀i o,ops[i]?=some o->evalOp E pc tc nt dep true ops o (sts i)=some (sts (i+1)))
abbrev gL(E:Env)(pc:FuncId->List AV->Option AV)(ops:Array Oper)(dep:Nat)(sts:Nat->St)(L:Nat->Bool)(n:Nat):bD:=gF (sts 0).hp.get (cL ops dep sts) (newAt E pc ops dep sts) L n
structure Ed (E:Env) (pc:FuncId->List AV->Option AV) (ops:Array Oper) (dep:Nat) (sts:Nat->St) (M:Mem) (ι:Map) (w:World) (L:Nat->Bool) (M1:Mem) (ι1:Map) (w1:World):Prop where
 quiet : ∀i o,L i=true->ops[i]?=some o->lP E o=true->lk E ops i=false
 sim:cT M1 ι1 (gL E pc ops dep sts L ops.size) w1
 fwd:kb M ι (sts 0).hp.get w M1 ι1 (gL E pc ops dep sts L ops.size) w1
 dom : ∀q,ι q=none->(∀i,i<ops.size->L i=true ->¬mt (cL ops dep sts) (newAt E pc ops dep sts) i q)->ι1 q=none
structure BT (E:Env) (ops:Array Oper) (sts:Nat->St) (M:Mem) (ι:Map) (w:World) (L:Nat->Bool) (M1:Mem) (ι1:Map) (w1:World) (k:Nat):Prop where
 le:k<=ops.size
 wrote : ∃j o,j<k/\ops[j]?=some o/\dK E o=true
 upto : ∀i o,ops[i]?=some o->lP E o=true->(L i=true↔i<k)
 sim:cT M1 ι1 (sts k).hp.get w1
 dom:jA ι1 (sts k).hp
 fwd:kb M ι (sts 0).hp.get w M1 ι1 (sts k).hp.get w1
structure Inv (E:Env) (pc:FuncId->List AV->Option AV) (nt:Nat) (ops:Array Oper) (dep:Nat) (sts:Nat->St) (M:Mem) (ι:Map) (w:World) (ds:List Deferred) (L:Nat->Bool) (a1:Act) (w1:World):Prop where
 closed:iI ops L
 defers:a1.defers=ds
 at_ : ∃M1 ι1 tm1,TS ops sts L tm1/\TR M1 ι1 tm1 a1/\a1.tmps.size=nt/\(Ed E pc ops dep sts M ι w L M1 ι1 w1 \/∃k,BT E ops sts M ι w L M1 ι1 w1 k)
theorem iI.next{L d:Nat->Bool}{i:Nat}{o:Oper}(m:iI ops L)(k:ops[i]?=some o)(c : ∀e∈cw o,L e=true)(b : ∀j,d j=true↔(L j=true\/j=i)):iI ops d:=by
 intro j l n a e f
 rcases(b j).1 n with h | h
 ·exact(b e).2 (.inl (m j l h a e f))
 ·subst h
  rw[k]at a
  injection a with a
  subst a
  exact(b e).2 (.inl (c e f))
theorem Bs(r:Ref)(H:aa):keyed r 0 [] H=H:=rfl
include A in
theorem xC{k:Nat} : ∀n,k<=n->n<=ops.size->(∀j o,k<=j->j<n->ops[j]?=some o->lP E o=false)->(sts n).hp=(sts k).hp:=by
 intro n
 induction n with
 | zero=>intro h _ _;rw[rn.1 h]
 | succ n p=>
  intro t s h
  rcases cr n k with q | c
  ·rw[show k=n+1 by omega]
  ·have f:=ey (show n<ops.size from s)
   have d:=h n _ c (iT n) f
   rw[<-p c (by omega) λj o a b=>h j o a (by omega)]
   rcases gG (A n _ f)with ⟨_,tm',l,he⟩ | ⟨_,x,bs,m,tm',l,he⟩ | e
   ·rw[he]
   ·rw[he,(mf d m).1];rfl
   ·rw[dp e]at d;cases d
theorem C0{i:Nat}{o:Oper}(d:ops[i]?=some o)(f:lP E o=true)(b:lk E ops i=false):FY E ops i:=
 λj e c a=>iu b a (dJ c)
include B A in
theorem C4{ι:Map}(h:jA ι (sts 0).hp){i:Nat}{q:Ref}(d:mt (cL ops dep sts) (newAt E pc ops dep sts) i q):ι q=none:=by
 have c:newAt E pc ops dep sts i≠[]:=by
  intro e
  have:=d.2.2.2
  rw[e]at this
  simp at this
 obtain⟨o,b,f,a⟩:=jX c
 have:=uG (pc:=pc) (tc:=tc) (nt:=nt) B A h b f (iu a b (a7 _)) (C0 b f a) q.k
 rwa [show({ cL ops dep sts i with k:=q.k}:Ref)=q by
  obtain⟨j,l,m,n⟩:=d
  cases q
  simp_all]at this
include B in
theorem Du{L l:Nat->Bool}{i:Nat}(m:i<ops.size)(d : ∀j,l j=true↔(L j=true\/j=i)):gL E pc ops dep sts l ops.size=jJ (gL E pc ops dep sts L ops.size) (cL ops dep sts i) (newAt E pc ops dep sts i):=by
 funext q
 unfold jJ
 have c : ∀i j,mt (cL ops dep sts) (newAt E pc ops dep sts) i q->mt (cL ops dep sts) (newAt E pc ops dep sts) j q->i=j:=λi j=>vF B i j
 split
 ·rename_i k
  exact oU c (i:=i) k ((d i).2 (.inr rfl)) ops.size m
 ·rename_i k
  by_cases e : ∃j,j<ops.size/\L j=true/\mt (cL ops dep sts) (newAt E pc ops dep sts) j q
  ·obtain⟨j,f,b,a⟩:=e
   rw[gL,oU c a ((d j).2 (.inl b)) _ f,gL,oU c a b _ f]
  ·rw[gL,jK,gL,jK]
   ·intro j f b a
    exact e ⟨j,f,b,a⟩
   ·intro j f b a
    rcases(d j).1 b with h | h
    ·exact e ⟨j,f,h,a⟩
    ·subst h;exact k a
include B in
theorem Az{L:Nat->Bool}{n:Nat}(x:n<=ops.size)(h : ∀j o,j<ops.size->ops[j]?=some o->lP E o=true->lk E ops j=false->(L j=true↔j<n)):gL E pc ops dep sts (λ_=>true) n=gL E pc ops dep sts L ops.size:=by
 funext q
 have b : ∀i j,mt (cL ops dep sts) (newAt E pc ops dep sts) i q->mt (cL ops dep sts) (newAt E pc ops dep sts) j q->i=j:=λi j=>vF B i j
 have made : ∀ {j},mt (cL ops dep sts) (newAt E pc ops dep sts) j q ->∃o,ops[j]?=some o/\lP E o=true/\lk E ops j=false:=by
  intro j t
  refine jX (pc:=pc) (dep:=dep) (sts:=sts) ?_
  intro e
  have:=t.2.2.2
  rw[e]at this
  simp at this
 by_cases f : ∃j,mt (cL ops dep sts) (newAt E pc ops dep sts) j q
 ·obtain⟨j,c⟩:=f
  obtain⟨o,p,u,m⟩:=made c
  have s:j<ops.size:=(dz.1 p).1
  have d:=h j o s p u m
  by_cases k:j<n
  ·rw[gL,oU b c rfl _ k,gL,oU b c (d.2 k) _ s]
  ·rw[gL,jK,gL,jK]
   ·intro i v l a
    have:=b i j a c
    subst this
    exact k (d.1 l)
   ·intro i v l a
    have:=b i j a c
    omega
 ·rw[gL,jK _ (λi _ _ a=>f ⟨i,a⟩),gL,jK _ (λi _ _ a=>f ⟨i,a⟩)]
include A in
theorem xP{M:Mem}{ι b:Map}(y:jA ι (sts 0).hp){L:Nat->Bool}{n:Nat}(D:n<=ops.size)(G:FY E ops n)
 (k : ∀q,ι q=none->(∀i,i<ops.size->L i=true ->¬mt (cL ops dep sts) (newAt E pc ops dep sts) i q)->b q=none)
 (v : ∀q l,ι q=some l->b q=some l) (h : ∀j o,j<ops.size->ops[j]?=some o->lP E o=true->lk E ops j=false->L j=true->j<n):jA b (sts n).hp:=by
 intro q l x
 obtain⟨z,K,F⟩:=wL (pc:=pc) (tc:=tc) (nt:=nt) (dep:=dep) A D G q.d q.t
 cases m:ι q with
 | some J=>exact o9 (y q J m) z
 | none=>
  by_cases f : ∃i,i<ops.size/\L i=true/\mt (cL ops dep sts) (newAt E pc ops dep sts) i q
  ·obtain⟨i,s,c,a⟩:=f
   have p:newAt E pc ops dep sts i≠[]:=by
    intro e
    have:=a.2.2.2
    rw[e]at this
    simp at this
   obtain⟨o,H,I,u⟩:=jX p
   have:=F i (h i o s H I u c) p a.1 a.2.1
   rw[a.2.2.1]
   exact this
  ·rw[k q m λi s c a=>f ⟨i,s,c,a⟩]at x
   cases x
variable{M:Mem}{ι:Map}{w:World}{ds:List Deferred}
include B A in
theorem Dp(Kz : ∀f xs y,pc f xs=some y->ea E.P f xs y)(K0 : ∀f xs H y H',tc f xs H=some (y,H')->dC E.P f xs H y H'){ro:Option Nat}{Q:Exit->Act->World->Prop}
 (KW:cT M ι (sts 0).hp.get w) (Ky:jA ι (sts 0).hp) {L L':Nat->Bool} {i:Nat} {o:Oper} (D:ops[i]?=some o) (hi:L i=false) (KH : ∀e∈cw o,L e=true)
 (n : ∀j,L' j=true↔(L j=true\/j=i)) {a1:Act} {w1:World} (hI:Inv E pc nt ops dep sts M ι w ds L a1 w1) {K:Act->World->Prop} (hK : ∀a' w',Inv E pc nt ops dep sts M ι w ds L' a' w'->K a' w') :
 if Region.wanted o (yielded ops a1.tmps) then o.wpIn (FW ro) 0 E.P a1 w1 K Q else K (a1.put o.dst undef) w1:=by
 obtain⟨hc,KD,M1,N,tm1,Kv,F,Kn,J⟩:=hI
 have R:i<ops.size:=(dz.1 D).1
 have KB:iI ops L':=iI.next hc D KH n
 have W : ∀t∈o.looksAt ops,cm tm1 t=cm (sts i).tm t:=λt ht=>sj B.toRegB A hc D hi KH Kv ht
 have KJ:=nz W
 have KI:=mA W
 have step:=A i o D
 have K4:=k7 hc i o D KH
 cases hb:(lP E o&&lk E ops i) with
 | true=>
  obtain⟨O,Kp⟩:=lW.1 hb
  have G : ∀j l,j<i->ops[j]?=some l->lP E l=true->L j=true:=λj l X a c=>K4 j (B.writes i j o l D a X O c Kp)
  have hO:mU M1 N ⟨tm1,(sts i).hp⟩ nt a1 w1/\kb M ι (sts 0).hp.get w M1 N (sts i).hp.get w1 /\∀j l,ops[j]?=some l->lP E l=true->(L j=true->j<i):=by
   rcases J with d | ⟨k,d⟩
   ·have U:FY E ops i:=by
     intro j l X a
     cases U:dK E l with
     | false=>rfl
     | true=>have:=iu (d.quiet j l (G j l X a (dp U)) a (dp U)) a (a7 _);rw[U]at this;cases this
    have Ks : ∀j l,ops[j]?=some l->lP E l=true->(L j=true->j<i):=by
     intro j l a c p
     rcases re j i with h | h | h
     ·exact h
     ·subst h;rw[hi]at p;cases p
     ·have:=E8 Kp (dJ h)
      rw[d.quiet j l p a c]at this
      cases this
    have hg:(sts i).hp.get=gL E pc ops dep sts L ops.size:=by
     rw[vo (pc:=pc) A (dJ R) U]
     exact Az B (dJ R) λj l X a c _=>⟨Ks j l a c,λKu=>G j l Ku a c⟩
    refine⟨⟨by rw[hg];exact d.sim,?_,F,Kn⟩,by rw[hg];exact d.fwd,Ks⟩
    exact xP (M:=M) (tc:=tc) (nt:=nt) A Ky (dJ R) U d.dom d.fwd.map λj l _ a c _=>Ks j l a c
   ·have KY:k<=i:=by
     rcases cr i k with h | h
     ·rw[(d.upto i o D O).2 h]at hi;cases hi
     ·exact h
    have KL:(sts i).hp=(sts k).hp:=xC A i KY (dJ R) λj l K8 Ku a=>by
     cases c:lP E l with
     | false=>rfl
     | true=>have:=(d.upto j l a c).1 (G j l Ku a c);omega
    refine⟨⟨by rw[KL];exact d.sim,by rw[KL];exact d.dom,F,Kn⟩,by rw[KL];exact d.fwd,λj l a c p=>?_⟩
    have:=(d.upto j l a c).1 p
    omega
  obtain⟨hO,hF,Ks⟩:=hO
  obtain⟨x,m,hx,s,KZ⟩:=uL W step
  refine qc (E:=E) (Q:=Q) hO Kz K0 (λh=>by cases h) (.inl rfl) KZ λa' w' ⟨⟨M',z,hO',hF'⟩,hd'⟩=>hK a' w' ⟨KB,hd'.trans KD,M',z,m,?_,hO'.tr,hO'.nt,.inr ⟨i+1,?_⟩⟩
  ·exact ko B.toRegB D n hi Kv hx s
  ·obtain⟨j0,o0,K6,K1,KU⟩:=I1 Kp
   refine⟨R,⟨j0,o0,by omega,K1,KU⟩,λj l a c=>⟨λX=>?_,λX=>?_⟩,hO'.sim,hO'.dom,hF.trans hF'⟩
   ·rcases(n j).1 X with h | h
    ·exact rb (Ks j l a c h)
    ·omega
   ·rcases cr j i with h | h
    ·exact(n j).2 (.inl (G j l h a c))
    ·exact(n j).2 (.inr (by omega))
 | false=>
  have KC:lP E o=true->lk E ops i=false:=by
   intro O
   rw[O,o6]at hb
   exact hb
  have hk:cL ops dep sts i=⟨dep,o.dst.getD 0,(sts i).hp.gen dep (o.dst.getD 0),0⟩:=by simp[cL,dQ,D]
  have Kt : ∀(u:Value)(x:AV)(m:List AV)(w':World)(M':Mem)(z:Map),newAt E pc ops dep sts i=[]->(J:(Ed E pc ops dep sts M ι w L M1 N w1->Ed E pc ops dep sts M ι w L M' z w') /\∀k,BT E ops sts M ι w L M1 N w1 k->BT E ops sts M ι w L M' z w' k) ->
   (lP E o=false \/∀k,¬BT E ops sts M ι w L M1 N w1 k)->bl nt (sts i).tm o.dst x=some (sts (i+1)).tm->bl nt tm1 o.dst x=some m->TR M' z m (a1.put o.dst u)->(a1.put o.dst u).tmps.size=nt ->
   Inv E pc nt ops dep sts M ι w ds L' (a1.put o.dst u) w':=by
   intro u x m w' M' z Kw KQ T hx s K2 hn
   refine⟨KB,(dv _ _ _).trans KD,M',z,m,ko B.toRegB D n hi Kv hx s,K2,hn,?_⟩
   rcases J with d | ⟨k,d⟩
   ·have I:=KQ.1 d
    have hg:gL E pc ops dep sts L' ops.size=gL E pc ops dep sts L ops.size:=by rw[Du B R n,Kw,gk]
    refine .inl ⟨λj l X a c=>?_,by rw[hg];exact I.sim,by rw[hg];exact I.fwd,λq hq x6=>I.dom q hq λj X p=>x6 j X ((n j).2 (.inl p))⟩
    rcases(n j).1 X with h | h
    ·exact I.quiet j l h a c
    ·subst h;rw[D]at a;injection a with a;rw[<-a]at c;exact KC c
   ·have I:=KQ.2 k d
    refine .inr ⟨k,I.le,I.wrote,λj l a c=>?_,I.sim,I.dom,I.fwd⟩
    rcases T with T | T
    ·rw[<-I.upto j l a c,n j]
     constructor
     ·rintro(h | h)
      ·exact h
      ·subst h;rw[D]at a;injection a with a;rw[<-a,T]at c;cases c
     ·exact .inl
    ·exact absurd d (T k)
  have Y:lP E o=true ->∀k,¬BT E ops sts M ι w L M1 N w1 k:=by
   intro O k d
   obtain⟨j,l,KT,a,Kr⟩:=d.wrote
   rcases cr i k with h | h
   ·rw[(d.upto i o D O).2 h]at hi;cases hi
   ·have:=Aq a Kr (show j<=i by omega)
    rw[KC O]at this;cases this
  have T:lP E o=false \/∀k,¬BT E ops sts M ι w L M1 N w1 k:=by
   cases O:lP E o with
   | false=>exact .inl rfl
   | true=>exact .inr (Y O)
  rcases gG step with ⟨U,tm',ht,he⟩ | ⟨U,x,bs,hq,tm',ht,he⟩ | KE
  ·rw[<-KI]at U
   rw[eb F U]
   simp only[kF,if_false]
   have hx:bl nt (sts i).tm o.dst AV.undef=some (sts (i+1)).tm:=by rw[he];exact ht
   obtain⟨m,s⟩:=fh (tm1:=tm1) hx
   obtain⟨h1,h2⟩:=F.put Kn s (u:=undef) (.v rfl)
   refine hK _ _ (Kt undef AV.undef m w1 M1 N ?_ ⟨id,λ_=>id⟩ T hx s h1 h2)
   unfold newAt
   rw[D]
   rw[KI]at U
   simp only[U]
   split<;>rfl
  ·have K3:=U
   rw[<-KI]at U
   rw[eb F U]
   simp only[if_true]
   have hx:bl nt (sts i).tm o.dst x=some (sts (i+1)).tm:=by rw[he];exact ht
   obtain⟨m,s⟩:=fh (tm1:=tm1) hx
   cases O:lP E o with
   | false=>
    obtain⟨Kx,KF⟩:=mf O hq
    subst Kx
    have Kw:newAt E pc ops dep sts i=[]:=by
     unfold newAt
     rw[D]
     simp[O]
    rcases J with d | ⟨k,d⟩
    ·have V : ∀k,N { (⟨dep+1,0,(sts 0).hp.gen (dep+1) 0,0⟩:Ref)with k:=k}=none:=λk=>d.dom _ (Ky.fresh _ _ k) λj _ _ hm=>by
      have:=hm.1
      simp only[cL]at this
      omega
     have Kq:bh E pc true (gL E pc ops dep sts L ops.size) tm1 ⟨dep+1,0,(sts 0).hp.gen (dep+1) 0,0⟩ o=some (x,[]):=by rw[j3 KJ];exact KF _ _
     refine ml (E:=E) (o:=o) d.sim F rfl V Kz (λh=>by cases h) Kq ro K Q λu w' ⟨M',z,h1,h2,h3,h4⟩=>hK _ _ ?_
     rw[gk]at h2 h3
     obtain⟨h5,h6⟩:=(F.mono h3.mem h3.map).put Kn s h1
     refine Kt u x m w' M' z Kw ⟨λ_=>⟨d.quiet,h2,d.fwd.trans h3,λq hq x6=>h4 q (d.dom q hq x6) (λk hk=>by simp at hk)⟩,λk hl=>?_⟩ (.inl O) hx s h5 h6
     obtain⟨j,l,KT,a,Kr⟩:=hl.wrote
     have:=iu (d.quiet j l ((hl.upto j l a (dp Kr)).2 KT) a (dp Kr)) a (a7 _)
     rw[Kr]at this;cases this
    ·have Kq:bh E pc true (sts k).hp.get tm1 ⟨dep,0,(sts k).hp.gen dep 0,0⟩ o=some (x,[]):=by rw[j3 KJ];exact KF _ _
     refine ml (E:=E) (o:=o) d.sim F rfl (λk'=>d.dom.fresh dep 0 k') Kz (λh=>by cases h) Kq ro K Q λu w' KN=>hK _ _ ?_
     obtain⟨M',z,h1,h2,h3,h4⟩:=KN.HO d.dom
     rw[Bs]at h2 h3 h4
     obtain⟨h5,h6⟩:=(F.mono h3.mem h3.map).put Kn s h1
     refine⟨KB,(dv _ _ _).trans KD,M',z,m,ko B.toRegB D n hi Kv hx s,h5,h6,.inr ⟨k,d.le,d.wrote,λj l a c=>?_,h2,h4,d.fwd.trans h3⟩⟩
     rw[<-d.upto j l a c,n j]
     constructor
     ·rintro(h | h)
      ·exact h
      ·subst h;rw[D]at a;injection a with a;rw[<-a,O]at c;cases c
     ·exact .inl
   | true=>
    rcases J with d | ⟨k,d⟩
    ·have KA:=KC O
     have Kp:=iu KA D (a7 _)
     have KP:=C0 D O KA
     have Kx:newAt E pc ops dep sts i=bs:=by
      unfold newAt
      rw[D]
      simp only[K3,hk,hq,O,KA,rA,ry,if_true]
     rw[<-hk,vo (pc:=pc) A (dJ R) KP]at hq
     have KR:pQ N (gF (sts 0).hp.get (cL ops dep sts) (newAt E pc ops dep sts) (λ_=>true) i) (gL E pc ops dep sts L ops.size):=by
      intro q b hg KK
      have Z : ∀i j,mt (cL ops dep sts) (newAt E pc ops dep sts) i q->mt (cL ops dep sts) (newAt E pc ops dep sts) j q->i=j:=λi j=>vF B i j
      by_cases KG : ∃j,mt (cL ops dep sts) (newAt E pc ops dep sts) j q
      ·obtain⟨j,Ko⟩:=KG
       have hf:ι q=none:=C4 (tc:=tc) (nt:=nt) B A Ky Ko
       have KX:j<ops.size:=by
        have:newAt E pc ops dep sts j≠[]:=by
         intro e
         have:=Ko.2.2.2
         rw[e]at this
         simp at this
        obtain⟨l,a,_⟩:=jX this
        exact(dz.1 a).1
       cases p:L j with
       | false=>exact absurd (d.dom q hf λi' _ hL S=>by rw[Z i' j S Ko,p]at hL;cases hL) KK
       | true=>
        by_cases Ku:j<i
        ·rw[oU Z Ko rfl _ Ku]at hg
         rw[gL,oU Z Ko p _ KX];exact hg
        ·rw[jK _ (λi' K7 _ S=>by have:=Z i' j S Ko;omega),KW.E5 hf]at hg
         cases hg
      ·rw[jK _ (λi' _ _ S=>KG ⟨i',S⟩)]at hg
       rw[gL,jK _ (λi' _ _ S=>KG ⟨i',S⟩)]
       exact hg
     rw[<-j3 KJ]at hq
     have Kq:=qb d.sim KR F hq
     have V : ∀k,N { cL ops dep sts i with k:=k}=none:=λk=>d.dom _ (uG (pc:=pc) (tc:=tc) (nt:=nt) B A Ky D O Kp KP k) λj _ p hm=>by
      have KK:newAt E pc ops dep sts j≠[]:=by
       intro e
       have:=hm.2.2.2
       rw[e]at this
       simp at this
      obtain⟨l,a,c,KV⟩:=jX KK
      obtain⟨dj,KM⟩:=fe.1 (B.site j l a c (iu KV a (a7 _)))
      obtain⟨di,KS⟩:=fe.1 (B.site i o D O Kp)
      have:di=dj:=by have:=hm.2.1;simpa [cL,dQ,a,KM,D,KS] using this
      have:=B.distinct i j o l di D a KS (by rw[KM,this])
      subst this
      rw[hi]at p;cases p
     refine ml (E:=E) (o:=o) d.sim F (by simp[cL]) V Kz (λh=>by cases h) Kq ro K Q λu w' ⟨M',z,h1,h2,h3,h4⟩=>hK _ _ ?_
     obtain⟨h5,h6⟩:=(F.mono h3.mem h3.map).put Kn s h1
     have KO:gL E pc ops dep sts L' ops.size=jJ (gL E pc ops dep sts L ops.size) (cL ops dep sts i) bs:=by rw[Du B R n,Kx]
     refine⟨KB,(dv _ _ _).trans KD,M',z,m,ko B.toRegB D n hi Kv hx s,h5,h6,.inl ⟨λj l X a c=>?_,by rw[KO];exact h2,by rw[KO];exact d.fwd.trans h3,λq hq x6=>?_⟩⟩
     ·rcases(n j).1 X with h | h
      ·exact d.quiet j l h a c
      ·subst h;exact KA
     ·refine h4 q (d.dom q hq λj X p=>x6 j X ((n j).2 (.inl p))) λk K5 e=>?_
      refine x6 i R ((n i).2 (.inr rfl)) ?_
      rw[e]
      exact⟨rfl,rfl,rfl,by rw[Kx];exact K5⟩
    ·exact absurd d (Y O k)
  ·have h1:=KC (dp KE)
   rw[Aq D KE (a7 i)]at h1;cases h1
include B A in
theorem Au(G:jA ι (sts 0).hp){L:Nat->Bool}(c : ∀i,i<ops.size->L i=true){a D:Act}{I:World}(q:a.defers=ds)(O:Inv E pc nt ops dep sts M ι w ds L D I):eD M ι (sts 0) a w nt (sts ops.size) D I:=by
 obtain⟨S,v,y,m,tm1,z,F,s,n⟩:=O
 have x : ∀t,cm tm1 t=cm (sts ops.size).tm t:=by
  intro t
  obtain⟨J,K⟩:=z t
  obtain⟨P,R⟩:=vl B.toRegB A ops.size (a7 _) t
  by_cases l : ∃j,j<ops.size/\dQ ops j=some t
  ·obtain⟨j,b,p⟩:=l
   rw[J j b (c j b) p,P j b (by simpa using b) p]
  ·rw[K λj b _ p=>l ⟨j,b,p⟩,R λj b _ p=>l ⟨j,b,p⟩]
 have f:TR y m (sts ops.size).tm D:=⟨λt=>by rw[<-x];exact F.at_ t⟩
 rcases n with d | ⟨k,d⟩
 ·have u:FY E ops ops.size:=λj o b e=>by
   cases u:dK E o with
   | false=>rfl
   | true=>have:=iu (d.quiet j o (c j b) e (dp u)) e (a7 _);rw[u]at this;cases this
  have H:(sts ops.size).hp.get=gL E pc ops dep sts L ops.size:=by
   rw[vo (pc:=pc) A (a7 _) u]
   exact Az B (a7 _) λj o b _ _ _=>⟨λ_=>b,λ_=>c j b⟩
  refine⟨⟨y,m,⟨by rw[H];exact d.sim,?_,f,s⟩,by rw[H];exact d.fwd⟩,v.trans q.symm⟩
  exact xP (M:=M) (tc:=tc) (nt:=nt) A G (a7 _) u d.dom d.fwd.map λj o b _ _ _ _=>b
 ·have h:(sts ops.size).hp=(sts k).hp:=xC A ops.size d.le (a7 _) λj o N b e=>by
   cases Q:lP E o with
   | false=>rfl
   | true=>have:=(d.upto j o e Q).1 (c j b);omega
  exact⟨⟨y,m,⟨by rw[h];exact d.sim,by rw[h];exact d.dom,f,s⟩,by rw[h];exact d.fwd⟩,v.trans q.symm⟩
include B in
theorem oY{a:Array Bool}(j:a.size=ops.size)(h:Region.ready .any ops a=[]) : ∀i,i<ops.size->a.getD i false=true:=by
 intro i
 induction i using Nat.strongRecOn with | ind i n=>
 intro p
 cases m:a.getD i false with
 | true=>rfl
 | false=>
  exfalso
  have f:=ey p
  have d:a.getD i true=false:=by
   have:i<a.size:=by omega
   simpa [Array.getD,this] using m
  have:i∈Region.ready .any ops a:=by
   rw[mem_ready]
   refine⟨d,_,f,λe k l=>?_⟩
   have b:e.on∈cw ops[i]:=by
    unfold cw
    exact gy.2 ⟨e,oh.2 ⟨by simpa using k,l⟩,rfl⟩
   have c:=B.edges i _ f _ b
   exact n e.on c (by omega)
  rw[h]at this
  cases this
include B A in
theorem HH(R : ∀f z y,pc f z=some y->ea E.P f z y)(O : ∀f z H y H',tc f z H=some (y,H')->dC E.P f z H y H'){ro:Option Nat}{a0:Act}(u:a0.defers=ds){Q:Exit->Act->World->Prop}
 (W:cT M ι (sts 0).hp.get w) (q:jA ι (sts 0).hp) (Y : ∀I w',eD M ι (sts 0) a0 w nt (sts ops.size) I w'->Q .normal I w') : ∀(b:Nat)(a:Array Bool)(J:Act)(N:World),a.size=ops.size ->
 (List.range ops.size).countP (λi => !a.getD i false)<=b->Inv E pc nt ops dep sts M ι w ds (λi=>a.getD i false) J N->wpAnyIn (FW ro) 0 E.P .any ops Q b a J N:=by
 intro b
 induction b with
 | zero=>
  intro a J N m hf G
  have c : ∀i,i<ops.size->a.getD i false=true:=by
   intro i l
   cases X:a.getD i false with
   | true=>rfl
   | false=>
    exfalso
    have:0<(List.range ops.size).countP (λi => !a.getD i false):=List.countP_pos_iff.2 ⟨i,lT.2 l,by rw[X];rfl⟩
    omega
  refine⟨?_,Y _ _ (Au B A q c u G)⟩
  refine Cb.2 λi l=>?_
  rw[mem_ready]at l
  obtain⟨t,o,D,_⟩:=l
  have n:i<ops.size:=(dz.1 D).1
  have F:=c i n
  have:i<a.size:=by omega
  simp[Array.getD,this]at t F
  rw[F]at t
  cases t
 | succ b ih=>
  intro a J N m hf G
  refine⟨λhr=>Y _ _ (Au B A q (oY B m hr) u G),λi l=>?_⟩
  rw[mem_ready]at l
  obtain⟨t,o,D,V⟩:=l
  have n:i<ops.size:=(dz.1 D).1
  have x:i<a.size:=by omega
  have v:a.getD i false=false:=by simpa [Array.getD,x] using t
  have k : ∀e∈cw o,(λi=>a.getD i false) e=true:=by
   intro e Z
   unfold cw at Z
   obtain⟨d,hd,rfl⟩:=gy.1 Z
   obtain⟨F,h2⟩:=oh.1 hd
   exact V d (by simpa using F) h2
  have h : ∀j,(λj=>(a.setIfInBounds i true).getD j false) j=true↔((λj=>a.getD j false) j=true\/j=i):=by
   intro j
   simp only
   by_cases s:j=i
   ·subst s
    simp[x]
   ·rw[getD_set_ne false (jB s)]
    simp[s]
  have:=Dp (E:=E) (tc:=tc) (ro:=ro) (K:=wpAnyIn (FW ro) 0 E.P .any ops Q b (a.setIfInBounds i true)) (Q:=Q) B A R O W q (L:=λi=>a.getD i false) D v k h G λI w' U=>by
   refine ih _ I w' (by simp[m]) ?_ U
   have:=qB (p:=λj => !a.getD j false) (p':=λj => !(a.setIfInBounds i true).getD j false) (i:=i) (λj S=>by
    simp only[gb]at S ⊢
    cases X:a.getD j false with
    | false=>rfl
    | true=>have:=(h j).2 (.inl X);simp only at this;rw[this]at S;cases S) (by simp only[v,rA]) (by have:=(h i).2 (.inr rfl);simp only at this ⊢;rw[this];rfl) (List.range ops.size) (lT.2 n)
   omega
  unfold wpOpIn
  rw[D]
  simp only
  split
  ·rename_i T
   rw[if_pos T]at this
   exact this
  ·rename_i T
   rw[if_neg T]at this
   exact⟨λ_ _=>trivial,this⟩
end
theorem xN{E:Env}(D:E.P.follows .mixedOrders=true){ops:Array Oper}(s:pl E ops=true){pc:FuncId->List AV->Option AV}(v : ∀f e y,pc f e=some y->ea E.P f e y)
 {tc:lb->List AV->aa->bk} (p : ∀f e H y H',tc f e H=some (y,H')->dC E.P f e H y H') {nt dep id:Nat} {st st':St} {M:Mem} {ι:Map} {a:Act} {w:World} {ro:Option Nat} {Q:Exit->Act->World->Prop}
 (h:iW E pc tc nt dep true ops ops.toList st=some st') (j:mU M ι st nt a w) (z : ∀m w',eD M ι st a w nt st' m w'->Q .normal m w'):(Code.region id ops true).wpIn (FW ro) 0 E.P Q a w:=by
 obtain⟨sts,G,x,I⟩:=sf ops.toList st st' h
 rw[oq]at x
 have B:=wY s
 have A : ∀i o,ops[i]?=some o->evalOp E pc tc nt dep true ops o (sts i)=some (sts (i+1)):=λi o J=>I i o (by simpa using J)
 subst G
 refine wpIn_region_any D ?_
 have u:kb M ι (sts 0).hp.get w M ι (sts 0).hp.get { w with drawn:=w.drawn+1} :=
  ⟨rfl,rfl,rfl,a7 _,λ_ _ _=>rfl,λ_ _ _ h=>h,λ_ _ h=>h,λr k l h F => .inr ⟨r,k,l,h,F,rfl⟩,λ_ _ _ h => .inl h⟩
 have c : ∀i,(Array.replicate ops.size false).getD i false=false:=by
  intro i
  simp only[pb,yC]
  split<;>rfl
 have b : ∀n,gF (sts 0).hp.get (cL ops dep sts) (newAt E pc ops dep sts) (λi=>(Array.replicate ops.size false).getD i false) n=(sts 0).hp.get:=by
  intro n
  funext q
  refine jK n λi _ d=>?_
  exact absurd ((c i).symm.trans d) (by simp)
 refine HH (tc:=tc) (M:=M) (ι:=ι) (w:=w) (a0:=a) B A v p rfl j.sim j.dom (λm w' K=>z m w' (x ▸ K)) ops.size _ a _ (by simp) ?_ ?_
 ·exact ld List.countP_le_length (by simp)
 ·refine⟨λi o d=>?_,rfl,M,ι,(sts 0).tm,?_,j.tr,j.nt,.inl ⟨λi o d=>?_,?_,?_,λq L _=>L⟩⟩
  ·exact absurd ((c i).symm.trans d) (by simp)
  ·exact λt=>⟨λi _ d=>absurd ((c i).symm.trans d) (by simp),λ_=>rfl⟩
  ·exact absurd ((c i).symm.trans d) (by simp)
  ·rw[gL,b];exact j.sim.drew rfl
  ·rw[gL,b];exact u
end
end Go.Ab
