/-
  What a quiet operation of the abstract machine looks at. No statement of a seat is proved here.
  A region that draws its order: whichever comes, what the order of the text gives. No statement of a seat is proved here.
  A region that draws its order: whichever comes, what the order of the text gives: the theorem. No statement of a seat is proved here.
  A region that draws its order: the step and the end. No statement of a seat is proved here.
-/
import Derived.Test.YtmkmimgokagimaaGreatAbsWalk
set_option linter.unusedVariables false
set_option linter.unusedSimpArgs false
set_option linter.unusedSectionVars false
set_option linter.unnecessarySimpa false
namespace Go.Ab
theorem mapM_congr{α d:Type}{f b:α->Option d} : ∀ {l:List α},(∀x∈l,f x=b x)->l.mapM f=l.mapM b:=by
 intro l
 induction l with
 | nil=>intro _;rfl
 | cons a l c=>
  intro h
  simp only[ny]
  rw[h a (jn ..),c λx e=>h x (il _ e)]
def Dg(tm tm':List AV)(xs:List Operand):Prop :=∀x∈xs,aO tm x=aO tm' x
theorem tW{tm tm':List AV}{ps:List (Nat × Operand)}(h : ∀p∈ps,aO tm p.2=aO tm' p.2):iS tm ps=iS tm' ps:=by
 unfold iS
 exact mapM_congr λp hp=>by obtain⟨i,o⟩:=p;simp only[h (i,o) hp]
theorem yZ{tm tm':List AV}{x:Option Operand}(h : ∀y,x=some y->aO tm y=aO tm' y):mh tm x=mh tm' x:=by
 cases x with
 | none=>rfl
 | some y=>simp only[mh,h y rfl]
theorem tN{E:Env}{pc:FuncId->List AV->Option AV}{q:Bool}{g:da}{tm tm':List AV}{r:Ref}{o:Oper}(h:Dg tm tm' o.op.operands.toList) :
 cE E pc q g tm r o=cE E pc q g tm' r o:=by
 unfold Dg at h
 unfold cE
 split
 ·rename_i x j;rw[j]at h;simp only[Op.operands]at h;rw[h x (by simp)]
 ·rename_i x j;rw[j]at h;simp only[Op.operands]at h;rw[h x (by simp)]
 ·rename_i c a b j;rw[j]at h;simp only[Op.operands]at h;simp only[GG];rw[h c (by simp),h a (by simp),h b (by simp)]
 ·rfl
 ·rename_i e x j;rw[j]at h;simp only[Op.operands]at h;rw[h x (by simp)]
 ·rename_i t ps j;rw[j]at h;simp only[Op.operands]at h;rw[tW λp hp=>h p.2 (by simp;exact⟨p.1,by simpa using hp⟩)]
 ·rename_i t n ps j;rw[j]at h;simp only[Op.operands]at h;rw[tW λp hp=>h p.2 (by simp;exact⟨p.1,by simpa using hp⟩)]
 ·rename_i t x j;rw[j]at h;simp only[Op.operands]at h;rw[h x (by simp)]
 ·rename_i x j;rw[j]at h;simp only[Op.operands]at h;rw[h x (by simp)]
 ·rename_i C t x y ty j;rw[j]at h;simp only[Op.operands]at h;rw[h x (by simp),h y (by simp)]
 ·rename_i C t x j;rw[j]at h;simp only[Op.operands]at h;rw[h x (by simp)]
 ·rename_i s d x j;rw[j]at h;simp only[Op.operands]at h;rw[h x (by simp)]
 ·rename_i t x j;rw[j]at h;simp only[Op.operands]at h;rw[h x (by simp)]
 ·rename_i f a b j;rw[j]at h;simp only[Op.operands]at h;rw[mapM_congr λx m=>h x (by simp at m ⊢;exact .inl m),mapM_congr λx m=>h x (by simp at m ⊢;exact .inr m)]
 ·rename_i t l c j;rw[j]at h;simp only[Op.operands]at h;rw[h l (by simp),h c (by simp)]
 ·rfl
 ·rename_i t x k ok j;rw[j]at h;simp only[Op.operands]at h;rw[h x (by simp),h k (by simp)]
 ·rename_i t x z v A j
  rw[j]at h
  simp only[Op.operands]at h
  rw[h x (by simp),yZ (x:=z) λy u=>h y (by simp[u]),yZ (x:=v) λy u=>h y (by simp[u]),yZ (x:=A) λy u=>h y (by simp[u])]
 ·rename_i t x f j;rw[j]at h;simp only[Op.operands]at h;rw[h x (by simp)]
 ·rename_i t x f j;rw[j]at h;simp only[Op.operands]at h;rw[h x (by simp)]
 ·rename_i t x y j;rw[j]at h;simp only[Op.operands]at h;rw[h x (by simp),h y (by simp)]
 ·rename_i t x y j;rw[j]at h;simp only[Op.operands]at h;rw[h x (by simp),h y (by simp)]
 ·rename_i x t F ok j;rw[j]at h;simp only[Op.operands]at h;rw[h x (by simp)]
 ·rename_i x i j;rw[j]at h;simp only[Op.operands]at h;rw[h x (by simp)]
 ·rename_i c j
  rw[j]at h
  simp only[Op.operands,Call.operands]at h
  rw[mapM_congr (l:=c.args.toList) λx m=>h x (by simp at m ⊢;exact .inr m)]
  split
  ·rfl
  ·split
   ·rename_i f D;rw[h f (by simp[D])]
   ·rfl
   ·rfl
 ·rfl
theorem U6{E:Env}{pc:FuncId->List AV->Option AV}{tc:xb->List AV->ai->du}{H:ai}{tm tm':List AV}{r:Ref}{o:Oper}(h:Dg tm tm' o.op.operands.toList) :
 evalW E pc tc H tm r o=evalW E pc tc H tm' r o:=by
 unfold Dg at h
 unfold evalW
 generalize o.op=op at h ⊢
 cases op<;>try rfl
 case store t x y=>simp only[Op.operands]at h;simp only;rw[h x (by simp),h y (by simp)]
 case mapUpdate t m k y=>simp only[Op.operands]at h;simp only;rw[h m (by simp),h k (by simp),h y (by simp)]
 case insert t m k y=>simp only[Op.operands]at h;simp only;rw[h m (by simp),h k (by simp),h y (by simp)]
 case mapEntry t m k=>simp only[Op.operands]at h;simp only;rw[h m (by simp),h k (by simp)]
 case entryStore t m k y=>simp only[Op.operands]at h;simp only;rw[h m (by simp),h k (by simp),h y (by simp)]
 case buildSlice t n ps=>simp only[Op.operands]at h;simp only;rw[tW λp hp=>h p.2 (by simp;exact⟨p.1,by simpa using hp⟩)]
 case makeChan t n=>simp only[Op.operands]at h;simp only;rw[h n (by simp)]
 case send c x=>simp only[Op.operands]at h;simp only;rw[h c (by simp),h x (by simp)]
 case recv t c b=>simp only[Op.operands]at h;simp only;rw[h c (by simp)]
 case call c=>
  simp only[Op.operands,Call.operands]at h
  simp only
  rw[mapM_congr (l:=c.args.toList) λx a=>h x (by simp at a ⊢;exact .inr a)]
  split
  ·rfl
  ·split
   ·rename_i f d;rw[h f (by simp[d])]
   ·rfl
   ·rfl
def Dn(ι:Map)(g g':da):Prop :=∀q k,g q=some k->ι q≠none->g' q=some k
section
variable{M:Mem}{ι:Map}{g g':da}{w:World}
theorem XC{l:Loc}{k:bz}(h:fY M ι w l k){e:AV}(d:e∈k.es) : ∃u,VR M (k.map ι) e u:=by
 obtain⟨i,c,a⟩:=sw d
 have f:=h.cell i (by rw[fc c,a])
 obtain⟨us,b,_,_⟩:=f.values
 cases e with
 | agg cs=>exact⟨.agg us.toArray,VR.rO.2 (by simpa [AV.cells] using b)⟩
 | _=>
  have j:=b.1
  obtain⟨u,rfl⟩:=Kf j.symm
  exact⟨u,b.2 0 _ u rfl rfl⟩
theorem Mc{f c:AV->Option AV}{l e:List AV}(h:l.mapM f=some e)(k : ∀x∈l,∀y,f x=some y->c x=some y):l.mapM c=some e:=by
 rw[<-h]
 refine mapM_congr λx d=>?_
 obtain⟨i,j,a⟩:=sw d
 obtain⟨y,_,b⟩:=lA h i x (by rw[fc j,a])
 rw[b,k x d y b]
theorem vk{α d:Type}{f b:α->List d} : ∀ {l:List α},(∀x∈l,f x=b x)->l.flatMap f=l.flatMap b:=by
 intro l
 induction l with
 | nil=>intro _;rfl
 | cons a l c=>
  intro h
  rw[zG,zG,h a (jn ..),c λx e=>h x (il _ e)]
theorem xj(hS:ic M ι g' w)(Z:Dn ι g g') : ∀(n:Nat)(x y:AV)(u:Value)(k:Mem),view g n x=some y->VR k ι x u->view g' n x=some y/\ay g' n x=ay g n x /\∀r∈ay g n x,ι r≠none:=by
 intro n
 induction n with
 | zero=>intro x y u k h;simp[view]at h
 | succ n O=>
  intro x y u k h hv
  have e : ∀ {cs ys:List AV},cs.mapM (view g n)=some ys->(∀c∈cs,∃u k,VR k ι c u)->cs.mapM (view g' n)=some ys/\cs.flatMap (ay g' n)=cs.flatMap (ay g n) /\∀r∈cs.flatMap (ay g n),ι r≠none:=by
   intro cs ys m I
   refine⟨Mc m λc t y L=>?_,vk λc t=>?_,?_⟩
   ·obtain⟨u,k,hu⟩:=I c t
    exact(O c y u k L hu).1
   ·obtain⟨u,k,hu⟩:=I c t
    obtain⟨i,K,z⟩:=sw t
    obtain⟨y,_,L⟩:=lA m i c (by rw[fc K,z])
    exact(O c y u k L hu).2.1
   ·intro r C
    obtain⟨c,t,C⟩:=sv.1 C
    obtain⟨u,k,hu⟩:=I c t
    obtain⟨i,K,z⟩:=sw t
    obtain⟨y,_,L⟩:=lA m i c (by rw[fc K,z])
    exact(O c y u k L hu).2.2 r C
  have inl : ∀ {cs:List AV} {P:Array Value},cs.length=P.size->(∀(i:Nat) c u,cs[i]?=some c->P[i]?=some u->VR k ι c u) ->∀c∈cs,∃u k,VR k ι c u:=by
   intro cs P N H c t
   obtain⟨i,K,z⟩:=sw t
   exact⟨P[i]'(by omega),k,H i c _ (by rw[fc K,z]) (jY (by omega))⟩
  cases hv with
  | v hs=>simp[view]at h;subst h;simp[view,ay]
  | agg N H=>
   simp only[view,bO]at h
   obtain⟨ys,m,rfl⟩:=h
   obtain⟨G,F,D⟩:=e m (inl N H)
   exact⟨by simp[view,G],by simp only[ay];exact F,by simp only[ay];exact D⟩
  | tup h0 N H=>
   simp only[view,bO]at h
   obtain⟨ys,m,rfl⟩:=h
   obtain⟨G,F,D⟩:=e m (inl N H)
   exact⟨by simp[view,G],by simp only[ay];exact F,by simp only[ay];exact D⟩
  | bW=>simp[view]at h;subst h;simp[view,ay]
  | iptr=>simp[view]at h;subst h;simp[view,ay]
  | cL C hb hs ha t hn hk J=>
   rename_i r off len cap l a c
   simp only[view]at h
   split at h
   ·rename_i b p
    have:=Z r b p (by rw[C];simp)
    exact⟨by simp only[view,this];exact h,by simp[ay],by intro q f;simp only[ay,uP]at f;rw[f,C];simp⟩
   ·cases h
  | ptr C J=>
   rename_i r i j l
   simp only[view]at h
   split at h
   ·rename_i b p
    have A:=Z r b p (by rw[C];simp)
    cases d:b.arr with
    | true=>
     rw[d]at h
     exact⟨by simp only[view,A,d];exact h,by simp[ay,A,p,d],by intro q f;simp[ay,p,d]at f;rw[f,C];simp⟩
    | false=>
     rw[d]at h
     simp only[nz,if_false,bO]at h
     obtain⟨es,S,rfl⟩:=h
     have Y:=hS.at C J A
     obtain⟨G,F,D⟩:=e S λc t=>by
      obtain⟨u,hu⟩:=XC Y t
      rw[bz.map,d]at hu
      exact⟨u,M,by simpa using hu⟩
     exact⟨by simp[view,A,d,G],by simp only[ay,A,p,d];rw[if_neg (by simp),if_neg (by simp),F],by
      intro q f
      simp only[ay,p,d]at f
      rw[if_neg (by simp)]at f
      rcases m6.1 f with rfl | f
      ·rw[C];simp
      ·exact D q f⟩
   ·cases h
  | fn W X T Q=>
   simp only[view]at h
   split at h
   ·rename_i a' b' V R
    cases h
    obtain⟨G,F,h5⟩:=e V (inl W T)
    obtain⟨D,h4,h6⟩:=e R (inl X Q)
    exact⟨by simp[view,G,D],by simp only[ay];rw[F,h4],by
     intro q f
     simp only[ay,nR]at f
     rcases f with f | f
     ·exact h5 q f
     ·exact h6 q f⟩
   ·cases h
  | yld=>simp[view]at h
  | mp=>simp[view]at h
  | ch=>simp[view]at h
  | ifc H=>
   simp only[view,bO]at h
   obtain⟨y',U,rfl⟩:=h
   obtain⟨G,F,D⟩:=O _ y' _ k U H
   exact⟨by simp[view,G],by simp only[ay];exact F,by simp only[ay];exact D⟩
theorem QA(f:ic M ι g' w)(j:Dn ι g g'){xs ys:List AV}{us:List Value}(h:xs.mapM (view g depth)=some ys)(l:mc M ι xs us):xs.mapM (view g' depth)=some ys/\cq g' xs=cq g xs /\∀r∈cq g xs,ι r≠none:=by
 have inl : ∀c∈xs,∃u,VR M ι c u:=by
  intro c b
  obtain⟨i,d,a⟩:=sw b
  have m:=l.1
  exact⟨us[i]'(by omega),l.2 i c _ (by rw[fc d,a]) (fc (by omega))⟩
 refine⟨Mc h λc b y e=>?_,vk λc b=>?_,?_⟩
 ·obtain⟨u,hu⟩:=inl c b
  exact(xj f j depth c y u M e hu).1
 ·obtain⟨u,hu⟩:=inl c b
  obtain⟨i,d,a⟩:=sw b
  obtain⟨y,_,e⟩:=lA h i c (by rw[fc d,a])
  exact(xj f j depth c y u M e hu).2.1
 ·intro r k
  obtain⟨c,b,k⟩:=sv.1 k
  obtain⟨u,hu⟩:=inl c b
  obtain⟨i,d,a⟩:=sw b
  obtain⟨y,_,e⟩:=lA h i c (by rw[fc d,a])
  exact(xj f j depth c y u M e hu).2.2 r k
theorem Hp(d:Dn ι g g'){R:List Ref}(hR : ∀r∈R,ι r≠none)(h:kg g R=true):kg g' R=true:=by
 simp only[kg,gD]at h ⊢
 intro r c
 have:=h r c
 cases a:g r with
 | none=>rw[a]at this;simp at this
 | some b=>rw[a]at this;rw[d r b a (hR r c)];exact this
theorem EK(c:Dn ι g g'){x:AV}{u:Value}(e:VR M ι x u){p:Nat × List AV}(h:cS g x=some p):cS g' x=some p:=by
 cases e with
 | cL d=>
  simp only[cS]at h ⊢
  split at h
  ·rename_i b a
   rw[c _ b a (by rw[d];simp)]
   exact h
  ·cases h
 | v f=>cases ‹Value› <;> simp_all [cS]
 | bW=>exact h
 | _=>simp[cS]at h
theorem Br(l:ic M ι g' w)(m:Dn ι g g'){c q:List (Nat × AV)}(h:fI g c=some q)(A : ∀p∈c,∃u,VR M ι p.2 u) :
 fI g' c=some q/\cq g' (c.map (·.2))=cq g (c.map (·.2)) /\∀r∈cq g (c.map (·.2)),ι r≠none:=by
 have a : ∀p∈c,∃y u,view g depth p.2=some y/\VR M ι p.2 u:=by
  intro p hp
  obtain⟨i,t,e⟩:=sw hp
  obtain⟨y,_,n⟩:=lA h i p (by rw[fc t,e])
  obtain⟨u,hu⟩:=A p hp
  obtain⟨k,x⟩:=p
  simp only[bO]at n
  obtain⟨z,v,_⟩:=n
  exact⟨z,u,v,hu⟩
 refine⟨?_,?_,?_⟩
 ·unfold fI at h ⊢
  rw[<-h]
  refine mapM_congr λp hp=>?_
  obtain⟨y,u,b,d⟩:=a p hp
  obtain⟨k,x⟩:=p
  simp only at b d
  simp only[b,(xj l m depth x y u M b d).1]
 ·unfold cq
  refine vk λx f=>?_
  obtain⟨p,hp,rfl⟩:=tY.1 f
  obtain⟨y,u,b,d⟩:=a p hp
  exact(xj l m depth p.2 y u M b d).2.1
 ·intro r j
  obtain⟨x,f,j⟩:=sv.1 j
  obtain⟨p,hp,rfl⟩:=tY.1 f
  obtain⟨y,u,b,d⟩:=a p hp
  exact(xj l m depth p.2 y u M b d).2.2 r j
theorem Ud{tm:List AV}{a:Act}(e:TR M ι tm a){ps:List (Nat × Operand)}{c:List (Nat × AV)}(h:iS tm ps=some c) : ∀p∈c,∃u,VR M ι p.2 u:=by
 intro p hp
 obtain⟨j,f⟩:=uy (ι:=ι) e h
 obtain⟨i,d,b⟩:=sw hp
 exact⟨_,(f i p _ (by rw[fc d,b]) (fc (by omega))).2⟩
theorem L8{P:Program}(f:ic M ι g' w)(k:Dn ι g g'){t:TypeId}{n:Nat}{c:List (Nat × AV)}{b:bz}(h:mkSlice P g t n c=some b)(m : ∀p∈c,∃u,VR M ι p.2 u):mkSlice P g' t n c=some b:=by
 unfold mkSlice at h ⊢
 split at h
 ·cases h
 ·rename_i e d
  try simp only[d]
  split at h
  ·rename_i q z s a l j
   try simp only[(Br f k a m).1,l,j]
   exact h
  ·cases h
theorem HX{P:Program}{t:TypeId}{n:Nat}{d:List (Nat × AV)}{b:bz}(h:mkSlice P g t n d=some b) : ∃c,fI g d=some c:=by
 unfold mkSlice at h
 split at h
 ·cases h
 ·split at h
  ·rename_i c z s a e f;exact⟨c,a⟩
  ·cases h
theorem IT{P:Program}(a:Dn ι g g'){e:TypeId}{x:AV}{u:Value}(b:VR M ι x u){p:Nat × List AV}(h:pv P g e x=some p):pv P g' e x=some p:=by
 unfold pv at h ⊢
 split at h
 ·exact h
 ·exact h
 ·rename_i c d
  exact EK a b h
theorem LU{P:Program}(k:Dn ι g g'){r:Ref}{t t':Option TypeId}{s x:AV}{us m:Value}(l:VR M ι s us)(u:VR M ι x m){a:AV × List bz}(h:jB P g r t t' s x=some a):jB P g' r t t' s x=some a:=by
 unfold jB at h ⊢
 split at h
 ·cases h
 ·rename_i e A
  try simp only[A]
  split at h
  ·cases h
  ·rename_i n
   rw[if_neg n]
   split at h
   ·rename_i z q F D new C p d c
    try simp only[C,p,d,IT k u c]
    split at h
    ·cases h
    ·rename_i j
     rw[if_neg j]
     cases l with
     | cL y=>
      simp only at h ⊢
      split at h
      ·rename_i b f
       rw[k _ b f (by rw[y];simp)]
       exact h
      ·cases h
     | v G=>(split at h)<;>first | exact h | cases h | simp_all
     | _=>exact h
   ·cases h
theorem IW(c:Dn ι g g'){r:Ref}(d:ι r≠none){ents:List AV}(h:jU g r=some ents):jU g' r=some ents:=by
 unfold jU at h ⊢
 cases a:g r with
 | none=>rw[a]at h;cases h
 | some b=>rw[a]at h;rw[c r b a d];exact h
theorem LN{P:Program}(d:Dn ι g g'){t:TypeId}{x:AV}{u:Value}(f:VR M ι x u){k:Option AV}{ok:Bool}{a:AV × List bz}(h:eU P g t (some x) k ok=some a):eU P g' t (some x) k ok=some a:=by
 unfold eU at h ⊢
 split at h
 ·rename_i p et r' m j b e
  cases b
  cases f with | mp l n=>
  try simp only[j,e]
  split at h
  ·rename_i ents c
   rw[IW d (by rw[l];simp) c]
   exact h
  ·cases h
 ·cases h
theorem D5{E:Env}{pc:FuncId->List AV->Option AV}(hS:ic M ι g' w)(A:Dn ι g g'){tm:List AV}{a:Act}(J:TR M ι tm a){r:Ref}{o:Oper}{x:AV}{bs:List bz}
 (h:cE E pc true g tm r o=some (x,bs)):cE E pc true g' tm r o=some (x,bs):=by
 unfold cE at h ⊢
 simp only[Em,FF,cond_false,yY]at h ⊢
 split at h
 ·exact h
 ·exact h
 ·exact h
 ·exact h
 ·exact h
 ·exact h
 ·
  rename_i t n ps q
  cases l:iS tm ps.toList with
  | none=>rw[l]at h;simp[im]at h
  | some vs=>
   rw[l]at h
   generalize (true && !E.strict o)=dr at h ⊢
   simp only[im]at h ⊢
   obtain⟨Q,L⟩:=fB.1 h
   simp only[bO]at L
   obtain⟨b,I,O⟩:=L
   have S:=Ud J l
   obtain⟨ws,U⟩:=HX I
   obtain⟨P,h5,h6⟩:=Br hS A U S
   rw[h5,Hp A h6 Q,L8 hS A I S]
   simp[O]
 ·
  rename_i t y q
  unfold tD at h ⊢
  split at h
  ·rename_i r' i j ag n f V hn
   try simp only[f,V,hn]
   split at h
   ·rename_i b I
    have l:=aY J f
    generalize a.eval y=u at l
    cases l with | ptr G hzl=>
    rw[A r' b I (by rw[G];simp)]
    exact h
   ·cases h
  ·rename_i esz es i j ag n f V hn
   try simp only[f,V,hn]
   exact h
  ·cases h
 ·exact h
 ·exact h
 ·exact h
 ·
  rename_i s d y q
  cases f:aO tm y with
  | none=>rw[f]at h;simp[gl]at h
  | some y'=>
   rw[f]at h
   have l:=aY J f
   unfold gl at h ⊢
   split at h
   ·exact h
   ·exact h
   ·exact h
   ·rename_i z Q L O H
    injection H with H
    subst H
    split at h
    ·rename_i K
     try simp only[K,if_true]
     split at h
     ·rename_i p es Y
      rw[EK A l Y]
      exact h
     ·cases h
    ·rename_i K
     try simp only[K]
     split at h
     ·rename_i hc2
      try simp only[hc2,if_true]
      split at h
      ·generalize a.eval y=u at l
       cases l with | cL G=>
       split at h
       ·rename_i k X
        have:=A _ k X (by rw[G];simp)
        rw[this]
        exact h
       ·cases h
      ·cases h
     ·cases h
   ·rename_i H;cases H
 ·exact h
 ·exact h
 ·exact h
 ·exact h
 ·
  rename_i t y k ok q
  cases f:aO tm y with
  | none=>rw[f]at h;simp only[eU]at h;split at h<;>simp_all
  | some y'=>
   rw[f]at h
   exact LN A (aY J f) h
 ·
  rename_i t y lo hi mx q
  cases f:aO tm y with
  | none=>rw[f]at h;simp only[iQ]at h ⊢;exact h
  | some y'=>
   rw[f]at h
   have l:=aY J f
   generalize a.eval y=u at l
   cases l with
   | cL G=>
    simp only[iQ]at h ⊢
    split at h
    ·rename_i lo' hi' mx' Q L O
     try simp only[Q,L,O]
     split at h
     ·rename_i b I
      rw[A _ b I (by rw[G];simp)]
      exact h
     ·cases h
    ·cases h
   | _=>(unfold iQ at h ⊢;(repeat' split at h)<;>simp_all)
 ·exact h
 ·exact h
 ·
  rename_i t y z q
  cases f:aO tm y with
  | none=>rw[f]at h;exact h
  | some y'=>
   rw[f]at h
   have l:=aY J f
   generalize a.eval y=u at l
   cases l with
   | cL G=>
    simp only[eg]at h ⊢
    split at h
    ·rename_i k X
     try simp only[X]
     split at h
     ·rename_i e H
      try simp only[H]
      split at h
      ·rename_i esz es cap s F hs
       cases F
      ·rename_i r' off len cap s F hs
       injection F with F
       injection F with e1 e2 e3 e4
       subst e1
       try simp only[hs]
       split at h
       ·rename_i b I
        rw[A _ b I (by rw[G];simp)]
        subst e2;subst e3
        exact h
       ·cases h
      ·cases h
     ·rename_i H
      try simp only[H]
      exact h
    ·cases h
   | _=>(unfold eg at h ⊢;(repeat' split at h)<;>simp_all)
 ·exact h
 ·exact h
 ·exact h
 ·
  rename_i c q
  split at h
  ·cases h
  ·rename_i args D
   try simp only[D]
   have m:=np J D
   split at h
   ·rename_i fo K
    try simp only[K]
    obtain⟨p0,h,e0⟩:=bO.1 h
    refine bO.2 ⟨p0,?_,e0⟩
    unfold ku at h ⊢
    split at h
    ·rename_i fi first captured R
     try simp only[R]
     split at h
     ·cases h
     ·rename_i Z
      rw[if_neg Z]
      obtain⟨a',b',hfv,hva,hvb⟩:=(aY J R).Xw
      have T:mc M ι (first++args++captured) (a'.toList++c.args.toList.map a.eval++b'.toList):=(hva.append m).append hvb
      split at h
      ·rename_i xs W
       obtain⟨Q,L,O⟩:=QA hS A W T
       try simp only[Q]
       split at h
       ·rename_i y f
        try simp only[f]
        obtain⟨C,h⟩:=fB.1 h
        rw[L]
        rw[if_pos]
        ·exact h
        ·simp only[fe]at C ⊢
         rcases C with (P | P) | P
         ·exact .inl (.inl P)
         ·exact .inl (.inr (Hp A O P))
         ·exact .inr P
       ·cases h
      ·cases h
    ·cases h
   ·cases h
   ·rename_i b K
    try simp only[K]
    unfold cO at h ⊢
    split at h
    ·rename_i r'
     obtain⟨u,N⟩:=Kf m.1.symm
     rw[N]at m
     have l:=m.2 0 (.mp r') u rfl rfl
     cases l with | mp G hz=>
     obtain⟨hd,h⟩:=NS.1 h
     simp only[if_neg hd]
     unfold wb at h ⊢
     split at h
     ·rename_i p ents ht Z
      try simp only[ht]
      simp only[IW A (by rw[G];simp) Z]
      exact h
     ·cases h
    ·exact h
    ·exact h
    ·exact h
    ·rename_i y z
     obtain⟨u,v,N⟩:=z7 m.1.symm
     rw[N]at m
     exact LU A (m.2 0 y u rfl rfl) (m.2 1 z v rfl rfl) h
    ·exact h
    ·cases h
 ·cases h
end
end Go.Ab
namespace Go.Ab
theorem UA{a:List Nat}{i:Nat} : ∀(b:List Nat),(BW a b).testBit i=true ->∃j∈b,i=j\/(a.getD j 0).testBit i=true:=by
 intro b
 induction b with
 | nil=>intro h;simp[BW]at h
 | cons j b c=>
  intro h
  simp only[BW,Nat.testBit_or,fe]at h
  rcases h with (h | h) | h
  ·rw[Nat.testBit_two_pow]at h
   exact⟨j,jn ..,.inl (by simpa using h:j=i).symm⟩
  ·exact⟨j,jn ..,.inr h⟩
  ·obtain⟨k,d,h⟩:=c h
   exact⟨k,il _ d,h⟩
theorem Nc : ∀(b:List Oper)(a:List Nat)(i:Nat),i<a.length->(dp b a).getD i 0=a.getD i 0:=by
 intro b
 induction b with
 | nil=>intro a i h;rfl
 | cons o b c=>
  intro a i h
  simp only[dp]
  rw[c _ i (by simp;omega)]
  simp[List.getD,nS h]
theorem XL : ∀(b:List Oper)(a:List Nat)(i:Nat)(o:Oper),b[i]?=some o ->
 ∀j,((dp b a).getD (a.length+i) 0).testBit j=true ->∃e∈eI o,j=e\/(e<a.length+i/\((dp b a).getD e 0).testBit j=true):=by
 intro b
 induction b with
 | nil=>intro a i o h;simp at h
 | cons o' b l=>
  intro a i o h j c
  cases i with
  | zero=>
   simp at h
   subst h
   simp only[dp,Cb]at c ⊢
   rw[Nc b _ a.length (by simp)]at c
   simp only[List.getD,pf (dc _),Nat.sub_self,NO,cX]at c
   obtain⟨e,he,c⟩:=UA _ c
   refine⟨e,he,?_⟩
   rcases c with h | h
   ·exact .inl h
   ·right
    rcases fm e a.length with d | f
    ·refine⟨d,?_⟩
     have k:=Nc b (a++[BW a (eI o')]) e (by simp;omega)
     simp only[List.getD,nS d]at h k ⊢
     rw[k]
     exact h
    ·rw[List.getD,zI f]at h
     simp at h
  | succ i=>
   simp only[dp]at c ⊢
   have:=l (a++[BW a (eI o')]) i o (by simpa using h) j (by
    rw[oT,List.length_singleton]
    rwa [show a.length+1+i=a.length+(i+1) by omega])
   rw[oT,List.length_singleton]at this
   rwa [show a.length+1+i=a.length+(i+1) by omega]at this
theorem aaO{ops:Array Oper}{i j:Nat}{o:Oper}(a:ops[i]?=some o)(b:((dp ops.toList []).getD i 0).testBit j=true) : ∃e∈eI o,j=e\/(e<i/\((dp ops.toList []).getD e 0).testBit j=true):=by
 have:=XL ops.toList [] i o (by simpa using a) j (by simpa using b)
 simpa using this
def Closed(ops:Array Oper)(L:Nat->Bool):Prop :=∀(i:Nat)(o:Oper),L i=true->ops[i]?=some o ->∀e∈eI o,L e=true
theorem vt{ops:Array Oper}{L:Nat->Bool}(k:Closed ops L) : ∀(i:Nat)(o:Oper),ops[i]?=some o->(∀e∈eI o,L e=true) ->∀j,((dp ops.toList []).getD i 0).testBit j=true->L j=true:=by
 intro i
 induction i using Nat.strongRecOn with | ind i f=>
 intro o d a j l
 obtain⟨e,he,h | ⟨c,h⟩⟩:=aaO d l
 ·rw[h];exact a e he
 ·have m:i<ops.size:=(iG.1 d).1
  have b:ops[e]?=some (ops[e]'(by omega)):=jY (by omega)
  exact f e c _ b (k e _ (a e he) b) j h
structure RegB (ops:Array Oper):Prop where
 edges : ∀(i:Nat)(o:Oper),ops[i]?=some o ->∀e∈eI o,e<i
 distinct : ∀(i j:Nat)(oi oj:Oper)(d:Tmp),ops[i]?=some oi->ops[j]?=some oj->oi.dst=some d->oj.dst=some d->i=j
 reads : ∀(i j:Nat)(oi oj:Oper)(d:Tmp),ops[i]?=some oi->ops[j]?=some oj->j≠i->oj.dst=some d->d∈oi.looksAt ops->(j<i/\((dp ops.toList []).getD i 0).testBit j=true)\/(i<j/\((dp ops.toList []).getD j 0).testBit i=true)
structure VC (E:Env) (ops:Array Oper):Prop extends RegB ops where
 site : ∀(i:Nat)(o:Oper),ops[i]?=some o->xa E o=true->jo E o=false->o.dst.isSome=true
 writes : ∀(i j:Nat)(oi oj:Oper),ops[i]?=some oi->ops[j]?=some oj->j<i->xa E oi=true->xa E oj=true->lk E ops i=true->((dp ops.toList []).getD i 0).testBit j=true
theorem P2{E:Env}{ops:Array Oper}{i j:Nat}{o:Oper}(b:ops[j]?=some o)(a:jo E o=true)(c:j<=i):lk E ops i=true:=by
 unfold lk
 rw[FN]
 exact⟨j,xf.2 (by omega),by rw[b];exact a⟩
theorem pE{E:Env}{ops:Array Oper}{i:Nat}(h:lk E ops i=false){j:Nat}{o:Oper}(b:ops[j]?=some o)(a:j<=i):jo E o=false:=by
 cases hw:jo E o with
 | false=>rfl
 | true=>rw[P2 b hw a]at h;cases h
theorem ad2{E:Env}{ops:Array Oper}{i:Nat}(h:lk E ops i=true) : ∃j o,j<=i/\ops[j]?=some o/\jo E o=true:=by
 unfold lk at h
 rw[FN]at h
 obtain⟨k,c,h⟩:=h
 have a:=xf.1 c
 split at h
 ·rename_i o b;exact⟨k,o,by omega,b,h⟩
 ·cases h
theorem W6{E:Env}{ops:Array Oper}{i j:Nat}(h:lk E ops j=true)(d:j<=i):lk E ops i=true:=by
 unfold lk at h
 rw[FN]at h
 obtain⟨k,c,h⟩:=h
 have a:=xf.1 c
 split at h
 ·rename_i o b;exact P2 b h (by omega)
 ·cases h
theorem Qs{ops:Array Oper}(one : ∀(i:Nat)(o:Oper),ops[i]?=some o->(eI o).all (· < i)=true)
 (two : ∀(i j:Nat)(oi a:Oper),ops[i]?=some oi->ops[j]?=some a->j<i->yh ops (dp ops.toList []) oi a i j=true):RegB ops:=by
 have b : ∀(i j:Nat)(oi a:Oper),ops[i]?=some oi->ops[j]?=some a->j<i->(a.dst.isNone=true\/oi.dst≠a.dst)/\(∀d,a.dst=some d->d∈oi.looksAt ops->((dp ops.toList []).getD i 0).testBit j=true) /\
  (∀d,oi.dst=some d->d∈a.looksAt ops->((dp ops.toList []).getD i 0).testBit j=true):=by
  intro i j oi a k n u
  have:=two i j oi a k n u
  unfold yh at this
  simp only[bh]at this
  obtain⟨⟨c,m⟩,l⟩:=this
  refine⟨?_,?_,?_⟩
  ·simpa using c
  ·intro d q t
   rw[q]at m
   simp only[fe,dV]at m
   rcases m with m | m
   ·have:(oi.looksAt ops).contains d=true:=Jz.2 t
    rw[m]at this;cases this
   ·exact m
  ·intro d q t
   rw[q]at l
   simp only[fe,dV]at l
   rcases l with l | l
   ·have:(a.looksAt ops).contains d=true:=Jz.2 t
    rw[l]at this;cases this
   ·exact l
 refine⟨?_,?_,?_⟩
 ·intro i o x e y
  have:=one i o x
  simp only[gD,decide_eq_true_eq]at this
  exact this e y
 ·intro i j oi a d k n f p
  rcases Ip i j with h | h | h
  ·exfalso
   rcases(b j i a oi n k h).1 with c | c
   ·rw[f]at c;cases c
   ·exact c (by rw[f,p])
  ·exact h
  ·exfalso
   rcases(b i j oi a k n h).1 with c | c
   ·rw[p]at c;cases c
   ·exact c (by rw[f,p])
 ·intro i j oi a d k n v q t
  rcases NA v with h | h
  ·exact .inl ⟨h,(b i j oi a k n h).2.1 d q t⟩
  ·exact .inr ⟨h,(b j i a oi n k h).2.2 d q t⟩
theorem LD{E:Env}{ops:Array Oper}(h:CD E ops=true):VC E ops:=by
 unfold CD at h
 simp only[gD,xf]at h
 have one : ∀(i:Nat)(o:Oper),ops[i]?=some o->(eI o).all (· < i)=true/\(!xa E o||jo E o||o.dst.isSome)=true /\∀(j:Nat)(d:Oper),j<i->ops[j]?=some d->OE E ops (dp ops.toList []) o d i j=true:=by
  intro i o l
  have f:i<ops.size:=(iG.1 l).1
  have:=h i f
  rw[l]at this
  simp only[bh,gD,xf]at this
  refine⟨by simpa using this.1.1,by simpa using this.1.2,λj d k n=>?_⟩
  have m:=this.2 j k
  rw[n]at m
  exact m
 have split : ∀(i j:Nat)(oi d:Oper),ops[i]?=some oi->ops[j]?=some d->j<i->yh ops (dp ops.toList []) oi d i j=true/\(xa E oi=true->xa E d=true->lk E ops i=true->((dp ops.toList []).getD i 0).testBit j=true):=by
  intro i j oi d f k e
  have:=(one i oi f).2.2 j d e k
  unfold OE at this
  rw[bh]at this
  refine⟨this.1,λa b c=>?_⟩
  have p:=this.2
  rw[a,b,c]at p
  simpa using p
 refine⟨Qs (λi o l=>(one i o l).1) λi j oi d f k e=>(split i j oi d f k e).1,?_,λi j oi d f k e=>(split i j oi d f k e).2⟩
 intro i o l q m
 have:=(one i o l).2.1
 rw[q,m]at this
 simpa using this
theorem GA{E:Env}{pc:FuncId->List AV->Option AV}{tc:xb->List AV->ai->du}{nt dep:Nat}{ops:Array Oper} : ∀(l:List Oper)(st a:St),nu E pc tc nt dep true ops l st=some a ->
 ∃f:Nat->St,f 0=st/\f l.length=a /\∀i o,l[i]?=some o->evalOp E pc tc nt dep true ops o (f i)=some (f (i+1)):=by
 intro l
 induction l with
 | nil=>
  intro st a h
  simp only[nu,dW]at h
  exact⟨λ_=>st,rfl,h,λi o b=>by simp at b⟩
 | cons o l k=>
  intro st a h
  simp only[nu]at h
  split at h
  ·rename_i c d
   obtain⟨f,m,e,j⟩:=k c a h
   refine⟨λn=>match n with | 0=>st | n+1=>f n,rfl,e,?_⟩
   intro i o' b
   cases i with
   | zero=>simp at b;subst b;simp only;rw[m];exact d
   | succ i=>exact j i o' (by simpa using b)
  ·cases h
inductive afd (E:Env) (pc:FuncId->List AV->Option AV) (nt dep:Nat) (ops:Array Oper) (o:Oper) (st st2:St):Prop
 | no (hw:wanted ops st.tm o=some false) (tm':List AV) (ht:dg nt st.tm o.dst AV.undef=some tm') (he:st2=⟨tm',st.hp⟩)
 | quiet (hw:wanted ops st.tm o=some true) (x:AV) (bs:List bz) (hq:cE E pc true st.hp.get st.tm ⟨dep,o.dst.getD 0,st.hp.gen dep (o.dst.getD 0),0⟩ o=some (x,bs)) (tm':List AV)
  (ht:dg nt st.tm o.dst x=some tm') (he:st2=⟨tm',keyed ⟨dep,o.dst.getD 0,st.hp.gen dep (o.dst.getD 0),0⟩ 0 bs st.hp⟩)
 | write (hk:jo E o=true)
theorem ov{E:Env}{pc:FuncId->List AV->Option AV}{tc:xb->List AV->ai->du}{nt dep:Nat}{ops:Array Oper}{o:Oper}{st a:St}(h:evalOp E pc tc nt dep true ops o st=some a):afd E pc nt dep ops o st a:=by
 unfold evalOp at h
 split at h
 ·cases h
 ·rename_i b
  simp only[bO]at h
  obtain⟨tm',c,rfl⟩:=h
  exact .no b tm' c rfl
 ·rename_i b
  split at h
  ·rename_i x e d
   simp only[bO]at h
   obtain⟨tm',c,rfl⟩:=h
   exact .quiet b x e d tm' c rfl
  ·split at h
   ·cases h
   ·rename_i f
    refine .write ?_
    simpa using f
theorem KT{E:Env}{o:Oper}(h:jo E o=true):ke o.op=true:=by
 unfold jo at h
 have two:(E.kH o&&Bi o.op)=true->ke o.op=true:=by
  intro h
  replace h:=(xi.1 h).2
  unfold Bi at h
  split at h
  ·rename_i a;rw[a];rfl
  ·cases h
 by_cases d:(E.kH o&&Bi o.op)=true
 ·exact two d
 replace h:=(Jy.1 h).resolve_right d
 replace h:=(xi.1 h).2
 unfold Y3 at h
 split at h
 ·rename_i a;rw[a];rfl
 ·rename_i a;rw[a];rfl
 ·rename_i a;rw[a];rfl
 ·rename_i a;rw[a];rfl
 ·rename_i a;rw[a];rfl
 ·rename_i c a
  rw[a]
  unfold ke
  split at h
  ·rename_i b;simp[b]
  ·rename_i b;simp[b]
  ·rename_i b;simp[b]
  ·rename_i b;simp[b]
  ·cases h
 ·cases h
theorem Rz{E:Env}{pc:FuncId->List AV->Option AV}{g:da}{tm:List AV}{r:Ref}{o:Oper}(d:ke o.op=false){x:AV}{j:List bz}(h:cE E pc true g tm r o=some (x,j)) :
 j=[] /\∀g' r',cE E pc true g' tm r' o=some (x,j):=by
 have v : ∀ {y:Option AV},jQ y=some (x,j)->j=[]:=λh=>(ri h).2
 unfold cE at h ⊢
 simp only[Em,FF,cond_false,yY]at h ⊢
 split at h
 ·exact⟨v h,λ_ _=>h⟩
 ·exact⟨v h,λ_ _=>h⟩
 ·refine⟨?_,λ_ _=>h⟩
  unfold GG at h
  split at h
  ·exact v h
  ·exact v h
  ·cases h
 ·rename_i a;rw[a]at d;simp[ke]at d
 ·rename_i a;rw[a]at d;simp[ke]at d
 ·refine⟨?_,λ_ _=>h⟩
  unfold mP at h
  (repeat' split at h)<;>(try simp_all)<;>(try (obtain⟨_,_,_,h⟩:=h;exact h))
 ·rename_i a;rw[a]at d;simp[ke]at d
 ·rename_i a;rw[a]at d;simp[ke]at d
 ·refine⟨?_,λ_ _=>h⟩
  unfold LL at h
  (repeat' split at h)<;>(try simp_all)<;>(try (obtain⟨_,_,_,h⟩:=h;exact h))
 ·refine⟨?_,λ_ _=>h⟩
  unfold cf at h
  (repeat' split at h)<;>first | exact v h | (simp_all;done)
 ·exact⟨v h,λ_ _=>h⟩
 ·rename_i a;rw[a]at d;simp[ke]at d
 ·refine⟨?_,λ_ _=>h⟩
  unfold sT at h
  (repeat' split at h)<;>(try simp_all)<;>(try (obtain⟨_,_,_,h⟩:=h;exact h))
 ·refine⟨?_,λ_ _=>h⟩
  unfold ue at h
  (repeat' split at h)<;>(try simp_all)<;>(try (obtain⟨_,_,_,h⟩:=h;exact h))
 ·rename_i a;rw[a]at d;simp[ke]at d
 ·rename_i a;rw[a]at d;simp[ke]at d
 ·rename_i a;rw[a]at d;simp[ke]at d
 ·rename_i a;rw[a]at d;simp[ke]at d
 ·refine⟨?_,λ_ _=>h⟩
  unfold jM at h
  (repeat' split at h)<;>(try simp_all)<;>(try (obtain⟨_,_,_,h⟩:=h;exact h))
 ·refine⟨?_,λ_ _=>h⟩
  unfold tT at h
  (repeat' split at h)<;>first | exact v h | (simp_all;done)
 ·rename_i a;rw[a]at d;simp[ke]at d
 ·refine⟨?_,λ_ _=>h⟩
  unfold rj at h
  (repeat' split at h)<;>first | exact v h | (simp_all;done)
 ·refine⟨?_,λ_ _=>h⟩
  unfold s9 at h
  (repeat' split at h)<;>(try simp_all)<;>(try (obtain⟨_,_,_,h⟩:=h;exact h))
 ·refine⟨?_,λ_ _=>h⟩
  unfold tE at h
  (repeat' split at h)<;>first | exact v h | (simp_all;done)
 ·rename_i c a
  rw[a]at d
  simp only[ke]at d
  split at h
  ·cases h
  ·rename_i args e
   split at h
   ·rename_i f;rw[f]at d;simp at d
   ·cases h
   ·rename_i b f
    rw[f]at d
    unfold cO at h
    split at h
    ·have k:OT c=false:=by simpa using d
     unfold OT at k
     rw[k]at h
     simp at h
    ·rename_i l
     refine⟨?_,λ_ _=>by simpa [e,f,cO] using h⟩
     unfold HQ at h
     (repeat' split at h)<;>(try simp_all)<;>(try (obtain⟨_,_,_,h⟩:=h;exact h))<;>(try (obtain⟨n,_,h⟩:=ig.1 h;simp at h;exact h.2))
    ·exact⟨v h,λ_ _=>by simpa [e,f,cO] using h⟩
    ·exact⟨v h,λ_ _=>by simpa [e,f,cO] using h⟩
    ·simp at d
    ·simp at d
    ·cases h
 ·cases h
theorem Mi{o:Op}(h:Mj o=true) : ∃c,o = .call c/\c.callee = .builtin .len:=by
 unfold Mj at h
 split at h
 ·rename_i c
  split at h
  ·rename_i a;exact⟨c,rfl,a⟩
  ·cases h
 ·cases h
theorem gG{E:Env}{o:Oper}(h:jo E o=true):xa E o=true:=by
 unfold xa
 rw[KT h,nx]
 cases d:Mj o.op with
 | false=>simp
 | true=>
  exfalso
  obtain⟨c,b,a⟩:=Mi d
  simp[jo,b,Y3,a,Bi]at h
theorem xQ{E:Env}{pc:FuncId->List AV->Option AV}{g:da}{tm:List AV}{r:Ref}{o:Oper}(b:xa E o=false){x:AV}{a:List bz}(h:cE E pc true g tm r o=some (x,a)) :
 a=[] /\∀g' r',cE E pc true g' tm r' o=some (x,a):=by
 cases hp:ke o.op with
 | false=>exact Rz hp h
 | true=>
  unfold xa at b
  rw[hp,nx]at b
  obtain⟨f,l⟩:=xi.1 (by simpa using b:(E.strict o&&Mj o.op)=true)
  obtain⟨c,e,k⟩:=Mi l
  unfold cE at h ⊢
  simp only[e,k,f,Bool.true_or,BN]at h ⊢
  split at h
  ·cases h
  ·rename_i args d
   unfold cO at h ⊢
   split at h
   ·simp at h
   ·rename_i y j
    refine⟨?_,λ_ _=>?_⟩
    ·unfold HQ at h
     (repeat' split at h)<;>(try simp_all)<;>(try (obtain⟨_,_,_,h⟩:=h;exact h))<;>(try (obtain⟨n,_,h⟩:=ig.1 h;simp at h;exact h.2))
    ·exact h
   all_goals (first | cases h | simp_all)
end Go.Ab
namespace Go.Ab
def fM(ops:Array Oper)(dep:Nat)(sts:Nat->St)(i:Nat):Ref:=⟨dep,(iY ops i).getD 0,(sts i).hp.gen dep ((iY ops i).getD 0),0⟩
def newAt(E:Env)(pc:FuncId->List AV->Option AV)(ops:Array Oper)(dep:Nat)(sts:Nat->St)(i:Nat):List bz:=
 match ops[i]? with
 | none=>[]
 | some o=>if xa E o && !lk E ops i then
  match wanted ops (sts i).tm o with
  | some true=>(match cE E pc true (sts i).hp.get (sts i).tm (fM ops dep sts i) o with
   | some (_,a)=>a
   | none=>[])
  | _=>[]
  else []
def gF(a:da)(key:Nat->Ref)(new:Nat->List bz)(L:Nat->Bool):Nat->da
 | 0=>a
 | i+1=>if L i then sX (gF a key new L i) (key i) (new i) else gF a key new L i
def mt(key:Nat->Ref)(new:Nat->List bz)(i:Nat)(q:Ref):Prop:=q.d=(key i).d/\q.t=(key i).t/\q.g=(key i).g/\q.k<(new i).length
theorem ti{c:da}{key:Nat->Ref}{new:Nat->List bz}{L:Nat->Bool}{q:Ref} : ∀n,(∀i,i<n->L i=true ->¬mt key new i q)->gF c key new L n q=c q:=by
 intro n
 induction n with
 | zero=>intro _;rfl
 | succ n b=>
  intro h
  simp only[gF]
  split
  ·rename_i d
   exact(if_neg (h n (qY n) d)).trans (b λi a=>h i (Fs a))
  ·exact b λi a=>h i (Fs a)
theorem BY{d:da}{key:Nat->Ref}{new:Nat->List bz}{L:Nat->Bool}{q:Ref}(a : ∀i j,mt key new i q->mt key new j q->i=j){i:Nat}(c:mt key new i q)(l:L i=true) :
 ∀n,i<n->gF d key new L n q=(new i)[q.k]?:=by
 intro n
 induction n with
 | zero=>intro h;omega
 | succ n e=>
  intro h
  simp only[gF]
  by_cases b:i=n
  ·subst b
   rw[if_pos l]
   exact if_pos c
  ·have:gF d key new L n q=(new i)[q.k]?:=e (by omega)
   split
   ·exact(if_neg (λf=>b (a i n c f))).trans this
   ·exact this
section
variable{E:Env}{pc:FuncId->List AV->Option AV}{tc:xb->List AV->ai->du}{nt dep:Nat}{ops:Array Oper}{sts:Nat->St}
def TS(ops:Array Oper)(sts:Nat->St)(L:Nat->Bool)(tm:List AV):Prop:=
 ∀t,(∀i,i<ops.size->L i=true->iY ops i=some t->dH tm t=dH (sts (i+1)).tm t)/\((∀i,i<ops.size->L i=true->iY ops i≠some t)->dH tm t=dH (sts 0).tm t)
theorem vX{tm tm':List AV}{b:Option Tmp}{x:AV}(h:dg nt tm b x=some tm')(t:Nat):dH tm' t=if b=some t then x else dH tm t:=by
 unfold dg at h
 split at h
 ·injection h with h;subst h;simp
 ·rename_i d
  obtain⟨_,h⟩:=fB.1 h
  injection h with h
  subst h
  rw[uD]
  by_cases a:t=d
  ·subst a;simp
  ·rw[if_neg a,if_neg (by intro e;injection e with e;exact a e.symm)]
theorem ly{tm tm' tm1:List AV}{a:Option Tmp}{x:AV}(h:dg nt tm a x=some tm') : ∃b,dg nt tm1 a x=some b:=by
 unfold dg at h ⊢
 cases a with
 | none=>exact⟨_,rfl⟩
 | some d=>
  simp only at h ⊢
  obtain⟨c,_⟩:=fB.1 h
  rw[if_pos c]
  exact⟨_,rfl⟩
theorem Lg{o:Oper}{i:Nat}(hrun:evalOp E pc tc nt dep true ops o (sts i)=some (sts (i+1))) : ∃x,dg nt (sts i).tm o.dst x=some (sts (i+1)).tm:=by
 unfold evalOp at hrun
 split at hrun
 ·cases hrun
 ·simp only[bO]at hrun
  obtain⟨tm',a,he⟩:=hrun
  exact⟨_,by rw[<-he];exact a⟩
 ·split at hrun
  ·simp only[bO]at hrun
   obtain⟨tm',a,he⟩:=hrun
   exact⟨_,by rw[<-he];exact a⟩
  ·split at hrun
   ·cases hrun
   ·split at hrun
    ·simp only[bO]at hrun
     obtain⟨tm',a,he⟩:=hrun
     exact⟨_,by rw[<-he];exact a⟩
    ·cases hrun
section
variable(hR:RegB ops)(hrun : ∀i o,ops[i]?=some o->evalOp E pc tc nt dep true ops o (sts i)=some (sts (i+1)))
include hR hrun
omit hrun in
theorem Vc{i j:Nat}{t:Nat}(a:iY ops i=some t)(b:iY ops j=some t):i=j:=by
 simp only[iY,ig]at a b
 obtain⟨oi,d,f⟩:=a
 obtain⟨c,e,h⟩:=b
 exact hR.distinct i j oi c t d e f h
theorem JN : ∀i,i<=ops.size->TS ops sts (λj=>decide (j<i)) (sts i).tm:=by
 intro i
 induction i with
 | zero=>intro _ t;exact⟨λj _ h=>by simp at h,λ_=>rfl⟩
 | succ i q=>
  intro l t
  have f:i<ops.size:=l
  have m:=jY f
  obtain⟨x,y⟩:=Lg (hrun i _ m)
  have p:iY ops i=ops[i].dst:=by simp[iY,m]
  have n:=vX y t
  obtain⟨u,v⟩:=q (by omega) t
  refine⟨λj h a d=>?_,λk=>?_⟩
  ·simp only[decide_eq_true_eq]at a
   by_cases c:j=i
   ·subst c;rfl
   ·have b:ops[i].dst≠some t:=by
     intro e
     rw[<-p]at e
     exact c (Vc hR d e)
    rw[n,if_neg b]
    exact u j h (by simp;omega) d
  ·have b:ops[i].dst≠some t:=by rw[<-p];exact k i f (by simp)
   rw[n,if_neg b]
   exact v λj h a=>k j h (by simp at a ⊢;omega)
theorem GD{L:Nat->Bool}(q:Closed ops L){i:Nat}{o:Oper}(p:ops[i]?=some o)(x:L i=false)(u : ∀e∈eI o,L e=true){tm:List AV}(A:TS ops sts L tm){t:Nat}(y:t∈o.looksAt ops) :
 dH tm t=dH (sts i).tm t:=by
 have H:i<ops.size:=(iG.1 p).1
 obtain⟨z,I⟩:=A t
 obtain⟨C,D⟩:=JN hR hrun i (by omega) t
 by_cases k : ∃j,j<ops.size/\L j=true/\iY ops j=some t
 ·obtain⟨j,l,a,b⟩:=k
  have c:=b
  simp only[iY,ig]at c
  obtain⟨n,f,h⟩:=c
  have v:j≠i:=by intro e;rw[e,x]at a;cases a
  rcases hR.reads i j o n t p f v h y with ⟨m,_⟩ | ⟨_,d⟩
  ·rw[z j l a b,C j l (by simpa using m) b]
  ·have:=vt q j n f (λe G=>q j n a f e G) i d
   rw[x]at this
   cases this
 ·rw[I λj l a b=>k ⟨j,l,a,b⟩]
  refine(D λj l a b=>?_).symm
  simp only[decide_eq_true_eq]at a
  have c:=b
  simp only[iY,ig]at c
  obtain⟨n,f,h⟩:=c
  rcases hR.reads i j o n t p f (by omega) h y with ⟨_,d⟩ | ⟨F,_⟩
  ·exact k ⟨j,l,vt q i o p u j d,b⟩
  ·omega
omit hrun in
theorem uo{L v:Nat->Bool}{i:Nat}{o:Oper}(u:ops[i]?=some o)(b : ∀j,v j=true↔(L j=true\/j=i))(y:L i=false){tm tm':List AV}(A:TS ops sts L tm){x:AV}(C:dg nt (sts i).tm o.dst x=some (sts (i+1)).tm)
 (l:dg nt tm o.dst x=some tm'):TS ops sts v tm':=by
 intro t
 have n:i<ops.size:=(iG.1 u).1
 have m:iY ops i=o.dst:=by simp[iY,u]
 obtain⟨z,F⟩:=A t
 have D:=vX C t
 have q:=vX l t
 refine⟨λj p c a=>?_,λf=>?_⟩
 ·rcases(b j).1 c with h | h
  ·have k:j≠i:=by intro e;rw[e,y]at h;cases h
   have d:o.dst≠some t:=by rw[<-m];intro e;exact k (Vc hR a e)
   rw[q,if_neg d]
   exact z j p h a
  ·subst h
   rw[m]at a
   rw[q,if_pos a,D,if_pos a]
 ·have d:o.dst≠some t:=by rw[<-m];exact f i n ((b i).2 (.inr rfl))
  rw[q,if_neg d]
  exact F λj p c=>f j p ((b j).2 (.inl c))
end
variable(hR:VC E ops)(hrun : ∀i o,ops[i]?=some o->evalOp E pc tc nt dep true ops o (sts i)=some (sts (i+1)))
include hR hrun
abbrev aee(ops:Array Oper)(dep:Nat)(sts:Nat->St):Nat->Ref:=fM ops dep sts
omit hR hrun in
theorem tH{i:Nat}(h:newAt E pc ops dep sts i≠[]) : ∃o,ops[i]?=some o/\xa E o=true/\lk E ops i=false:=by
 unfold newAt at h
 split at h
 ·exact absurd rfl h
 ·rename_i o b
  split at h
  ·rename_i a
   simp only[bh,dV]at a
   exact⟨o,b,a.1,a.2⟩
  ·exact absurd rfl h
omit hrun in
theorem J9{q:Ref}(i j:Nat)(h:mt (fM ops dep sts) (newAt E pc ops dep sts) i q)(l:mt (fM ops dep sts) (newAt E pc ops dep sts) j q):i=j:=by
 have ne : ∀ {i},mt (fM ops dep sts) (newAt E pc ops dep sts) i q->newAt E pc ops dep sts i≠[]:=by
  intro i h e
  have:=h.2.2.2
  rw[e]at this
  simp at this
 obtain⟨oi,c,y,x⟩:=tH (ne h)
 obtain⟨f,d,u,v⟩:=tH (ne l)
 obtain⟨k,a⟩:=gI.1 (hR.site i oi c y (pE x c (dc _)))
 obtain⟨p,b⟩:=gI.1 (hR.site j f d u (pE v d (dc _)))
 have n:q.t=k:=by have:=h.2.1;simpa [fM,iY,c,a] using this
 have m:q.t=p:=by have:=l.2.1;simpa [fM,iY,d,b] using this
 exact hR.distinct i j oi f k c d a (by rw[b,<-n,<-m])
def Yh(E:Env)(ops:Array Oper)(n:Nat):Prop :=∀j o,j<n->ops[j]?=some o->jo E o=false
omit hR hrun in
theorem Ur{n:Nat}(b:Yh E ops (n+1)):lk E ops n=false:=by
 cases h:lk E ops n with
 | false=>rfl
 | true=>
  unfold lk at h
  rw[FN]at h
  obtain⟨k,d,h⟩:=h
  have a:=xf.1 d
  split at h
  ·rename_i o c;rw[b k o a c]at h;cases h
  ·cases h
omit hR in
theorem JP{n:Nat}(p:n<=ops.size)(c:Yh E ops n):(sts n).hp.get=gF (sts 0).hp.get (fM ops dep sts) (newAt E pc ops dep sts) (λ_=>true) n:=by
 induction n with
 | zero=>rfl
 | succ n l=>
  have b:=jY (show n<ops.size from p)
  have e:=l (by omega) (λj o v=>c j o (by omega))
  simp only[gF,if_true]
  rw[<-e]
  have q:iY ops n=ops[n].dst:=by simp[iY,b]
  have k:fM ops dep sts n=⟨dep,ops[n].dst.getD 0,(sts n).hp.gen dep (ops[n].dst.getD 0),0⟩:=by simp[fM,q]
  rcases ov (hrun n _ b)with ⟨a,tm',t,he⟩ | ⟨a,x,u,h,tm',t,he⟩ | d
  ·have:newAt E pc ops dep sts n=[]:=by
    unfold newAt
    rw[b]
    simp only[a]
    split<;>rfl
   rw[this,ng,he]
  ·have f:=Ur c
   rw[he]
   simp only
   rw[ai.mV,<-k]
   congr 1
   unfold newAt
   rw[b]
   simp only[a,k,h,f,Fm,BN]
   cases m:xa E ops[n] with
   | true=>rfl
   | false=>
    rw[(xQ m h).1]
    rfl
  ·exact absurd d (by rw[c n _ (qY n) b];simp)
omit hR in
theorem Lb{n:Nat}(I:n<=ops.size)(u:Yh E ops n)(d t:Nat):(sts 0).hp.gen d t<=(sts n).hp.gen d t /\
 ((∀j,j<n->newAt E pc ops dep sts j≠[] ->¬(d=dep/\t=(iY ops j).getD 0))->(sts n).hp.gen d t=(sts 0).hp.gen d t) /\
 ∀j,j<n->newAt E pc ops dep sts j≠[]->d=dep->t=(iY ops j).getD 0->(fM ops dep sts j).g<(sts n).hp.gen d t:=by
 induction n with
 | zero=>exact⟨dc _,λ_=>rfl,λj k=>by omega⟩
 | succ n K=>
  have l:=jY (show n<ops.size from I)
  obtain⟨i1,i2,i3⟩:=K (by omega) (λj o k=>u j o (by omega))
  have z:iY ops n=ops[n].dst:=by simp[iY,l]
  have D:fM ops dep sts n=⟨dep,ops[n].dst.getD 0,(sts n).hp.gen dep (ops[n].dst.getD 0),0⟩:=by simp[fM,z]
  have same:(sts (n+1)).hp=(sts n).hp->newAt E pc ops dep sts n=[]->(sts 0).hp.gen d t<=(sts (n+1)).hp.gen d t /\
   ((∀j,j<n+1->newAt E pc ops dep sts j≠[] ->¬(d=dep/\t=(iY ops j).getD 0))->(sts (n+1)).hp.gen d t=(sts 0).hp.gen d t) /\
   ∀j,j<n+1->newAt E pc ops dep sts j≠[]->d=dep->t=(iY ops j).getD 0->(fM ops dep sts j).g<(sts (n+1)).hp.gen d t:=by
   intro G J
   rw[G]
   refine⟨i1,λh=>i2 λj k=>h j (by omega),λj k a=>?_⟩
   have:j≠n:=by intro e;rw[e]at a;exact a J
   exact i3 j (by omega) a
  rcases ov (hrun n _ l)with ⟨f,tm',L,he⟩ | ⟨f,x,C,F,tm',L,he⟩ | v
  ·refine same (by rw[he]) ?_
   unfold newAt
   rw[l]
   simp only[f]
   split<;>rfl
  ·have A:=Ur u
   have m:newAt E pc ops dep sts n=C:=by
    unfold newAt
    rw[l]
    simp only[f,D,F,A,Fm,BN]
    cases H:xa E ops[n] with
    | true=>rfl
    | false=>rw[(xQ H F).1];rfl
   by_cases p:C=[]
   ·refine same ?_ (by rw[m,p])
    rw[he,p]
    rfl
   ·rw[he]
    simp only
    rw[ai.mo]
    simp only[ne_eq,p,not_false_eq_true,and_true]
    by_cases b:d=dep/\t=ops[n].dst.getD 0
    ·rw[if_pos b]
     obtain⟨rfl,rfl⟩:=b
     refine⟨by omega,λh=>?_,λj k a y q=>?_⟩
     ·exact absurd ⟨rfl,by rw[z]⟩ (h n (qY n) (by rw[m];exact p))
     ·by_cases c:j=n
      ·rw[c,D];exact qY _
      ·have:=i3 j (by omega) a rfl q
       omega
    ·rw[if_neg b]
     refine⟨i1,λh=>i2 λj k=>h j (by omega),λj k a y q=>?_⟩
     by_cases c:j=n
     ·subst c
      exact absurd ⟨y,by rw[q,z]⟩ b
     ·exact i3 j (by omega) a y q
  ·exact absurd v (by rw[u n _ (qY n) l];simp)
theorem I1{ι:Map}(y:uK ι (sts 0).hp){i:Nat}{o:Oper}(c:ops[i]?=some o)(x:xa E o=true)(l:jo E o=false)(t:Yh E ops i)(k:Nat):ι { fM ops dep sts i with k:=k}=none:=by
 have q:i<ops.size:=(iG.1 c).1
 obtain⟨d,p⟩:=gI.1 (hR.site i o c x l)
 have e:iY ops i=some d:=by simp[iY,c,p]
 obtain⟨_,A,_⟩:=Lb (pc:=pc) (tc:=tc) (nt:=nt) (dep:=dep) hrun (iF q) t dep d
 have v:(sts i).hp.gen dep d=(sts 0).hp.gen dep d:=A λj D m z=>by
  obtain⟨n,a,f,h⟩:=tH m
  obtain⟨u,b⟩:=gI.1 (hR.site j n a f (pE h a (dc _)))
  have:d=u:=by have:=z.2;simpa [iY,a,b] using this
  exact absurd (hR.distinct i j o n d c a p (by rw[b,this])) (by omega)
 have C:fM ops dep sts i=⟨dep,d,(sts 0).hp.gen dep d,0⟩:=by simp[fM,e,v]
 rw[C]
 exact y.fresh dep d k
end
end Go.Ab
namespace Go.Ab
theorem AF{ops:Array Oper}{o:Oper}{tm tm':List AV}(h : ∀t∈o.looksAt ops,dH tm t=dH tm' t):Dg tm tm' o.op.operands.toList:=by
 intro x a
 cases x with
 | tmp t=>
  simp only[aO]
  rw[h t]
  unfold Oper.looksAt
  exact NI _ (List.mem_filterMap.2 ⟨_,a,rfl⟩)
 | _=>rfl
theorem yw{ops:Array Oper}{o:Oper}{tm tm':List AV}(h : ∀t∈o.looksAt ops,dH tm t=dH tm' t):wanted ops tm o=wanted ops tm' o:=by
 unfold wanted
 cases a:o.guard with
 | none=>rfl
 | some p=>
  obtain⟨j,b⟩:=p
  simp only
  cases c:(ops[j]?).bind (·.dst) with
  | none=>rfl
  | some t=>
   simp only
   rw[h t]
   unfold Oper.looksAt
   rw[a]
   simp[c]
theorem EL{p p':Nat->Bool}{i:Nat}(c : ∀j,p' j=true->p j=true)(h:p i=true)(f:p' i=false) : ∀l:List Nat,i∈l->l.countP p'<l.countP p:=by
 intro l b
 have mono : ∀l:List Nat,l.countP p'<=l.countP p:=λl=>List.countP_mono_left λx _=>c x
 induction l with
 | nil=>cases b
 | cons a l e=>
  simp only[List.countP_cons]
  by_cases d:a=i
  ·subst d
   have:=mono l
   rw[h,f]
   simp
   omega
  ·have:=e (by simpa [sL d] using b)
   have k:(if p' a=true then 1 else 0)<=(if p a=true then 1 else 0):=by
    by_cases hp:p' a=true
    ·rw[if_pos hp,if_pos (c a hp)];exact dc _
    ·rw[if_neg hp];exact Dr _
   omega
theorem Ja{E:Env}{pc:FuncId->List AV->Option AV}{tc:xb->List AV->ai->du}{nt dep:Nat}{ops:Array Oper}{o:Oper}{st c:St}{tm1:List AV}(h : ∀t∈o.looksAt ops,dH tm1 t=dH st.tm t)
 (a:evalOp E pc tc nt dep true ops o st=some c) : ∃x b,dg nt st.tm o.dst x=some c.tm/\dg nt tm1 o.dst x=some b/\evalOp E pc tc nt dep true ops o ⟨tm1,st.hp⟩=some ⟨b,c.hp⟩:=by
 have e:=AF h
 have f:=yw h
 unfold evalOp at a ⊢
 simp only
 rw[f,tN e,U6 e]
 have d : ∀ {x:AV} {H:ai},(dg nt st.tm o.dst x).map (λtm=>(⟨tm,H⟩:St))=some c ->∃l b,dg nt st.tm o.dst l=some c.tm/\dg nt tm1 o.dst l=some b/\(dg nt tm1 o.dst x).map (λtm=>(⟨tm,H⟩:St))=some ⟨b,c.hp⟩:=by
  intro x H n
  obtain⟨tm',m,rfl⟩:=bO.1 n
  obtain⟨b,j⟩:=ly (tm1:=tm1) m
  exact⟨x,b,m,j,by rw[j];rfl⟩
 revert a
 generalize wanted ops st.tm o=W
 generalize cE E pc true st.hp.get st.tm ⟨dep,o.dst.getD 0,st.hp.gen dep (o.dst.getD 0),0⟩ o=X
 generalize evalW E pc tc st.hp st.tm ⟨dep,o.dst.getD 0,st.hp.gen dep (o.dst.getD 0),0⟩ o=Y
 intro a
 rcases W with _ | ⟨_ | _⟩
 ·cases a
 ·exact d a
 ·rcases X with _ | ⟨x,p⟩
  ·simp only at a ⊢
   by_cases k:(true && !jo E o)=true
   ·rw[if_pos k]at a;cases a
   ·rw[if_neg k]at a ⊢
    rcases Y with _ | ⟨x,H⟩
    ·cases a
    ·exact d a
  ·exact d a
section
variable{E:Env}{pc:FuncId->List AV->Option AV}{tc:xb->List AV->ai->du}{nt dep:Nat}{ops:Array Oper}{sts:Nat->St}
variable(hR:VC E ops)(hrun : ∀i o,ops[i]?=some o->evalOp E pc tc nt dep true ops o (sts i)=some (sts (i+1)))
abbrev gL(E:Env)(pc:FuncId->List AV->Option AV)(ops:Array Oper)(dep:Nat)(sts:Nat->St)(L:Nat->Bool)(n:Nat):da:=gF (sts 0).hp.get (fM ops dep sts) (newAt E pc ops dep sts) L n
structure VJ (E:Env) (pc:FuncId->List AV->Option AV) (ops:Array Oper) (dep:Nat) (sts:Nat->St) (M:Mem) (ι:Map) (w:World) (L:Nat->Bool) (M1:Mem) (ι1:Map) (w1:World):Prop where
 quiet : ∀i o,L i=true->ops[i]?=some o->xa E o=true->lk E ops i=false
 sim:ic M1 ι1 (gL E pc ops dep sts L ops.size) w1
 fwd:uh M ι (sts 0).hp.get w M1 ι1 (gL E pc ops dep sts L ops.size) w1
 dom : ∀q,ι q=none->(∀i,i<ops.size->L i=true ->¬mt (fM ops dep sts) (newAt E pc ops dep sts) i q)->ι1 q=none
structure Late (E:Env) (ops:Array Oper) (sts:Nat->St) (M:Mem) (ι:Map) (w:World) (L:Nat->Bool) (M1:Mem) (ι1:Map) (w1:World) (k:Nat):Prop where
 le:k<=ops.size
 wrote : ∃j o,j<k/\ops[j]?=some o/\jo E o=true
 upto : ∀i o,ops[i]?=some o->xa E o=true->(L i=true↔i<k)
 sim:ic M1 ι1 (sts k).hp.get w1
 dom:uK ι1 (sts k).hp
 fwd:uh M ι (sts 0).hp.get w M1 ι1 (sts k).hp.get w1
structure Inv (E:Env) (pc:FuncId->List AV->Option AV) (nt:Nat) (ops:Array Oper) (dep:Nat) (sts:Nat->St) (M:Mem) (ι:Map) (w:World) (ds:List Deferred) (L:Nat->Bool) (a1:Act) (w1:World):Prop where
 closed:Closed ops L
 defers:a1.defers=ds
 at_ : ∃M1 ι1 tm1,TS ops sts L tm1/\TR M1 ι1 tm1 a1/\a1.tmps.size=nt/\(VJ E pc ops dep sts M ι w L M1 ι1 w1 \/∃k,Late E ops sts M ι w L M1 ι1 w1 k)
theorem Closed.next{L f:Nat->Bool}{i:Nat}{o:Oper}(m:Closed ops L)(k:ops[i]?=some o)(c : ∀e∈eI o,L e=true)(b : ∀j,f j=true↔(L j=true\/j=i)):Closed ops f:=by
 intro j l n a e d
 rcases(b j).1 n with h | h
 ·exact(b e).2 (.inl (m j l h a e d))
 ·subst h
  rw[k]at a
  injection a with a
  subst a
  exact(b e).2 (.inl (c e d))
theorem RL(r:Ref)(H:ai):keyed r 0 [] H=H:=rfl
include hrun in
theorem Mv{k:Nat} : ∀n,k<=n->n<=ops.size->(∀j o,k<=j->j<n->ops[j]?=some o->xa E o=false)->(sts n).hp=(sts k).hp:=by
 intro n
 induction n with
 | zero=>intro h _ _;rw[FA.1 h]
 | succ n m=>
  intro v p h
  rcases fm n k with q | c
  ·rw[show k=n+1 by omega]
  ·have f:=jY (show n<ops.size from p)
   have e:=h n _ c (qY n) f
   rw[<-m c (by omega) λj o a b=>h j o a (by omega)]
   rcases ov (hrun n _ f)with ⟨_,tm',t,he⟩ | ⟨_,x,u,l,tm',t,he⟩ | d
   ·rw[he]
   ·rw[he,(xQ e l).1];rfl
   ·rw[gG d]at e;cases e
theorem Uq{i:Nat}{o:Oper}(d:ops[i]?=some o)(e:xa E o=true)(b:lk E ops i=false):Yh E ops i:=
 λj f c a=>pE b a (iF c)
include hR hrun in
theorem Uw{ι:Map}(h:uK ι (sts 0).hp){i:Nat}{q:Ref}(d:mt (fM ops dep sts) (newAt E pc ops dep sts) i q):ι q=none:=by
 have c:newAt E pc ops dep sts i≠[]:=by
  intro e
  have:=d.2.2.2
  rw[e]at this
  simp at this
 obtain⟨o,b,f,a⟩:=tH c
 have:=I1 (pc:=pc) (tc:=tc) (nt:=nt) hR hrun h b f (pE a b (dc _)) (Uq b f a) q.k
 rwa [show({ fM ops dep sts i with k:=q.k}:Ref)=q by
  obtain⟨j,m,l,n⟩:=d
  cases q
  simp_all]at this
include hR in
theorem U1{L l:Nat->Bool}{i:Nat}(m:i<ops.size)(d : ∀j,l j=true↔(L j=true\/j=i)):gL E pc ops dep sts l ops.size=sX (gL E pc ops dep sts L ops.size) (fM ops dep sts i) (newAt E pc ops dep sts i):=by
 funext q
 unfold sX
 have c : ∀i j,mt (fM ops dep sts) (newAt E pc ops dep sts) i q->mt (fM ops dep sts) (newAt E pc ops dep sts) j q->i=j:=λi j=>J9 hR i j
 split
 ·rename_i k
  exact BY c (i:=i) k ((d i).2 (.inr rfl)) ops.size m
 ·rename_i k
  by_cases e : ∃j,j<ops.size/\L j=true/\mt (fM ops dep sts) (newAt E pc ops dep sts) j q
  ·obtain⟨j,f,b,a⟩:=e
   rw[gL,BY c a ((d j).2 (.inl b)) _ f,gL,BY c a b _ f]
  ·rw[gL,ti,gL,ti]
   ·intro j f b a
    exact e ⟨j,f,b,a⟩
   ·intro j f b a
    rcases(d j).1 b with h | h
    ·exact e ⟨j,f,h,a⟩
    ·subst h;exact k a
include hR in
theorem Qc{L:Nat->Bool}{n:Nat}(y:n<=ops.size)(h : ∀j o,j<ops.size->ops[j]?=some o->xa E o=true->lk E ops j=false->(L j=true↔j<n)):gL E pc ops dep sts (λ_=>true) n=gL E pc ops dep sts L ops.size:=by
 funext q
 have b : ∀i j,mt (fM ops dep sts) (newAt E pc ops dep sts) i q->mt (fM ops dep sts) (newAt E pc ops dep sts) j q->i=j:=λi j=>J9 hR i j
 have made : ∀ {j},mt (fM ops dep sts) (newAt E pc ops dep sts) j q ->∃o,ops[j]?=some o/\xa E o=true/\lk E ops j=false:=by
  intro j v
  refine tH (pc:=pc) (dep:=dep) (sts:=sts) ?_
  intro e
  have:=v.2.2.2
  rw[e]at this
  simp at this
 by_cases f : ∃j,mt (fM ops dep sts) (newAt E pc ops dep sts) j q
 ·obtain⟨j,c⟩:=f
  obtain⟨o,p,x,m⟩:=made c
  have t:j<ops.size:=(iG.1 p).1
  have d:=h j o t p x m
  by_cases k:j<n
  ·rw[gL,BY b c rfl _ k,gL,BY b c (d.2 k) _ t]
  ·rw[gL,ti,gL,ti]
   ·intro i u l a
    have:=b i j a c
    subst this
    exact k (d.1 l)
   ·intro i u l a
    have:=b i j a c
    omega
 ·rw[gL,ti _ (λi _ _ a=>f ⟨i,a⟩),gL,ti _ (λi _ _ a=>f ⟨i,a⟩)]
include hrun in
theorem MS{M:Mem}{ι c:Map}(I:uK ι (sts 0).hp){L:Nat->Bool}{n:Nat}(F:n<=ops.size)(z:Yh E ops n)
 (f : ∀q,ι q=none->(∀i,i<ops.size->L i=true ->¬mt (fM ops dep sts) (newAt E pc ops dep sts) i q)->c q=none)
 (x : ∀q l,ι q=some l->c q=some l) (h : ∀j o,j<ops.size->ops[j]?=some o->xa E o=true->lk E ops j=false->L j=true->j<n):uK c (sts n).hp:=by
 intro q l y
 obtain⟨G,J,H⟩:=Lb (pc:=pc) (tc:=tc) (nt:=nt) (dep:=dep) hrun F z q.d q.t
 cases m:ι q with
 | some C=>exact Ep (I q C m) G
 | none=>
  by_cases k : ∃i,i<ops.size/\L i=true/\mt (fM ops dep sts) (newAt E pc ops dep sts) i q
  ·obtain⟨i,u,b,a⟩:=k
   have p:newAt E pc ops dep sts i≠[]:=by
    intro e
    have:=a.2.2.2
    rw[e]at this
    simp at this
   obtain⟨o,A,D,v⟩:=tH p
   have:=H i (h i o u A D v b) p a.1 a.2.1
   rw[a.2.2.1]
   exact this
  ·rw[f q m λi u b a=>k ⟨i,u,b,a⟩]at y
   cases y
variable{M:Mem}{ι:Map}{w:World}{ds:List Deferred}
include hR hrun in
theorem UU(hpc : ∀f xs y,pc f xs=some y->cW E.P f xs y)(htc : ∀f xs H y H',tc f xs H=some (y,H')->sh E.P f xs H y H'){ro:Option Nat}{Q:Exit->Act->World->Prop}
 (hS0:ic M ι (sts 0).hp.get w) (hD0:uK ι (sts 0).hp) {L L':Nat->Bool} {i:Nat} {o:Oper} (C:ops[i]?=some o) (hi:L i=false) (hed : ∀e∈eI o,L e=true)
 (n : ∀j,L' j=true↔(L j=true\/j=i)) {a1:Act} {w1:World} (hI:Inv E pc nt ops dep sts M ι w ds L a1 w1) {K:Act->World->Prop} (hK : ∀a' w',Inv E pc nt ops dep sts M ι w ds L' a' w'->K a' w') :
 if Region.wanted o (yielded ops a1.tmps) then o.wpIn (FW ro) 0 E.P a1 w1 K Q else K (a1.put o.dst undef) w1:=by
 obtain⟨hc,hds,M1,G,tm1,hTS,D,hnt,I⟩:=hI
 have O:i<ops.size:=(iG.1 C).1
 have hc':Closed ops L':=Closed.next hc C hed n
 have T : ∀t∈o.looksAt ops,dH tm1 t=dH (sts i).tm t:=λt ht=>GD hR.toRegB hrun hc C hi hed hTS ht
 have hag:=AF T
 have hwd:=yw T
 have step:=hrun i o C
 have anc:=vt hc i o C hed
 cases hb:(xa E o&&lk E ops i) with
 | true=>
  obtain⟨N,Z⟩:=xi.1 hb
  have F : ∀j l,j<i->ops[j]?=some l->xa E l=true->L j=true:=λj l W a c=>anc j (hR.writes i j o l C a W N c Z)
  have hO:Ac M1 G ⟨tm1,(sts i).hp⟩ nt a1 w1/\uh M ι (sts 0).hp.get w M1 G (sts i).hp.get w1 /\∀j l,ops[j]?=some l->xa E l=true->(L j=true->j<i):=by
   rcases I with d | ⟨k,d⟩
   ·have S:Yh E ops i:=by
     intro j l W a
     cases S:jo E l with
     | false=>rfl
     | true=>have:=pE (d.quiet j l (F j l W a (gG S)) a (gG S)) a (dc _);rw[S]at this;cases this
    have hle : ∀j l,ops[j]?=some l->xa E l=true->(L j=true->j<i):=by
     intro j l a c p
     rcases Ip j i with h | h | h
     ·exact h
     ·subst h;rw[hi]at p;cases p
     ·have:=W6 Z (iF h)
      rw[d.quiet j l p a c]at this
      cases this
    have hg:(sts i).hp.get=gL E pc ops dep sts L ops.size:=by
     rw[JP (pc:=pc) hrun (iF O) S]
     exact Qc hR (iF O) λj l W a c _=>⟨hle j l a c,λhji=>F j l hji a c⟩
    refine⟨⟨by rw[hg];exact d.sim,?_,D,hnt⟩,by rw[hg];exact d.fwd,hle⟩
    exact MS (M:=M) (tc:=tc) (nt:=nt) hrun hD0 (iF O) S d.dom d.fwd.map λj l _ a c _=>hle j l a c
   ·have hki:k<=i:=by
     rcases fm i k with h | h
     ·rw[(d.upto i o C N).2 h]at hi;cases hi
     ·exact h
    have hst:(sts i).hp=(sts k).hp:=Mv hrun i hki (iF O) λj l hkj hji a=>by
     cases c:xa E l with
     | false=>rfl
     | true=>have:=(d.upto j l a c).1 (F j l hji a c);omega
    refine⟨⟨by rw[hst];exact d.sim,by rw[hst];exact d.dom,D,hnt⟩,by rw[hst];exact d.fwd,λj l a c p=>?_⟩
    have:=(d.upto j l a c).1 p
    omega
  obtain⟨hO,hF,hle⟩:=hO
  obtain⟨x,m,hx,A,hev⟩:=Ja T step
  refine D6 (E:=E) (Q:=Q) hO hpc htc (λh=>by cases h) (.inl rfl) hev λa' w' ⟨⟨M',z,hO',hF'⟩,hd'⟩=>hK a' w' ⟨hc',hd'.trans hds,M',z,m,?_,hO'.tr,hO'.nt,.inr ⟨i+1,?_⟩⟩
  ·exact uo hR.toRegB C n hi hTS hx A
  ·obtain⟨j0,o0,hj0,ho0,hw0⟩:=ad2 Z
   refine⟨O,⟨j0,o0,by omega,ho0,hw0⟩,λj l a c=>⟨λW=>?_,λW=>?_⟩,hO'.sim,hO'.dom,hF.trans hF'⟩
   ·rcases(n j).1 W with h | h
    ·exact Fs (hle j l a c h)
    ·omega
   ·rcases fm j i with h | h
    ·exact(n j).2 (.inl (F j l h a c))
    ·exact(n j).2 (.inr (by omega))
 | false=>
  have hnl:xa E o=true->lk E ops i=false:=by
   intro N
   rw[N,nx]at hb
   exact hb
  have hk:fM ops dep sts i=⟨dep,o.dst.getD 0,(sts i).hp.gen dep (o.dst.getD 0),0⟩:=by simp[fM,iY,C]
  have still : ∀(u:Value)(x:AV)(m:List AV)(w':World)(M':Mem)(z:Map),newAt E pc ops dep sts i=[]->(I:(VJ E pc ops dep sts M ι w L M1 G w1->VJ E pc ops dep sts M ι w L M' z w') /\∀k,Late E ops sts M ι w L M1 G w1 k->Late E ops sts M ι w L M' z w' k) ->
   (xa E o=false \/∀k,¬Late E ops sts M ι w L M1 G w1 k)->dg nt (sts i).tm o.dst x=some (sts (i+1)).tm->dg nt tm1 o.dst x=some m->TR M' z m (a1.put o.dst u)->(a1.put o.dst u).tmps.size=nt ->
   Inv E pc nt ops dep sts M ι w ds L' (a1.put o.dst u) w':=by
   intro u x m w' M' z hnil hcs U hx A htr hn
   refine⟨hc',(put_defers _ _ _).trans hds,M',z,m,uo hR.toRegB C n hi hTS hx A,htr,hn,?_⟩
   rcases I with d | ⟨k,d⟩
   ·have J:=hcs.1 d
    have hg:gL E pc ops dep sts L' ops.size=gL E pc ops dep sts L ops.size:=by rw[U1 hR O n,hnil,ng]
    refine .inl ⟨λj l W a c=>?_,by rw[hg];exact J.sim,by rw[hg];exact J.fwd,λq hq hno=>J.dom q hq λj W p=>hno j W ((n j).2 (.inl p))⟩
    rcases(n j).1 W with h | h
    ·exact J.quiet j l h a c
    ·subst h;rw[C]at a;injection a with a;rw[<-a]at c;exact hnl c
   ·have J:=hcs.2 k d
    refine .inr ⟨k,J.le,J.wrote,λj l a c=>?_,J.sim,J.dom,J.fwd⟩
    rcases U with U | U
    ·rw[<-J.upto j l a c,n j]
     constructor
     ·rintro(h | h)
      ·exact h
      ·subst h;rw[C]at a;injection a with a;rw[<-a,U]at c;cases c
     ·exact .inl
    ·exact absurd d (U k)
  have X:xa E o=true ->∀k,¬Late E ops sts M ι w L M1 G w1 k:=by
   intro N k d
   obtain⟨j,l,hjk,a,hwj⟩:=d.wrote
   rcases fm i k with h | h
   ·rw[(d.upto i o C N).2 h]at hi;cases hi
   ·have:=P2 a hwj (show j<=i by omega)
    rw[hnl N]at this;cases this
  have U:xa E o=false \/∀k,¬Late E ops sts M ι w L M1 G w1 k:=by
   cases N:xa E o with
   | false=>exact .inl rfl
   | true=>exact .inr (X N)
  rcases ov step with ⟨S,tm',ht,he⟩ | ⟨S,x,bs,hq,tm',ht,he⟩ | hwk'
  ·rw[<-hwd]at S
   rw[lb D S]
   simp only[nz,if_false]
   have hx:dg nt (sts i).tm o.dst AV.undef=some (sts (i+1)).tm:=by rw[he];exact ht
   obtain⟨m,A⟩:=ly (tm1:=tm1) hx
   obtain⟨h1,h2⟩:=D.put hnt A (u:=undef) (.v rfl)
   refine hK _ _ (still undef AV.undef m w1 M1 G ?_ ⟨id,λ_=>id⟩ U hx A h1 h2)
   unfold newAt
   rw[C]
   rw[hwd]at S
   simp only[S]
   split<;>rfl
  ·have hw':=S
   rw[<-hwd]at S
   rw[lb D S]
   simp only[if_true]
   have hx:dg nt (sts i).tm o.dst x=some (sts (i+1)).tm:=by rw[he];exact ht
   obtain⟨m,A⟩:=ly (tm1:=tm1) hx
   cases N:xa E o with
   | false=>
    obtain⟨hbs,hall⟩:=xQ N hq
    subst hbs
    have hnil:newAt E pc ops dep sts i=[]:=by
     unfold newAt
     rw[C]
     simp[N]
    rcases I with d | ⟨k,d⟩
    ·have V : ∀k,G { (⟨dep+1,0,(sts 0).hp.gen (dep+1) 0,0⟩:Ref)with k:=k}=none:=λk=>d.dom _ (hD0.fresh _ _ k) λj _ _ hm=>by
      have:=hm.1
      simp only[fM]at this
      omega
     have hq':cE E pc true (gL E pc ops dep sts L ops.size) tm1 ⟨dep+1,0,(sts 0).hp.gen (dep+1) 0,0⟩ o=some (x,[]):=by rw[tN hag];exact hall _ _
     refine xY (E:=E) (o:=o) d.sim D rfl V hpc (λh=>by cases h) hq' ro K Q λu w' ⟨M',z,h1,h2,h3,h4⟩=>hK _ _ ?_
     rw[ng]at h2 h3
     obtain⟨h5,h6⟩:=(D.mono h3.mem h3.map).put hnt A h1
     refine still u x m w' M' z hnil ⟨λ_=>⟨d.quiet,h2,d.fwd.trans h3,λq hq hno=>h4 q (d.dom q hq hno) (λk hk=>by simp at hk)⟩,λk hl=>?_⟩ (.inl N) hx A h5 h6
     obtain⟨j,l,hjk,a,hwj⟩:=hl.wrote
     have:=pE (d.quiet j l ((hl.upto j l a (gG hwj)).2 hjk) a (gG hwj)) a (dc _)
     rw[hwj]at this;cases this
    ·have hq':cE E pc true (sts k).hp.get tm1 ⟨dep,0,(sts k).hp.gen dep 0,0⟩ o=some (x,[]):=by rw[tN hag];exact hall _ _
     refine xY (E:=E) (o:=o) d.sim D rfl (λk'=>d.dom.fresh dep 0 k') hpc (λh=>by cases h) hq' ro K Q λu w' hout=>hK _ _ ?_
     obtain⟨M',z,h1,h2,h3,h4⟩:=hout.toW d.dom
     rw[RL]at h2 h3 h4
     obtain⟨h5,h6⟩:=(D.mono h3.mem h3.map).put hnt A h1
     refine⟨hc',(put_defers _ _ _).trans hds,M',z,m,uo hR.toRegB C n hi hTS hx A,h5,h6,.inr ⟨k,d.le,d.wrote,λj l a c=>?_,h2,h4,d.fwd.trans h3⟩⟩
     rw[<-d.upto j l a c,n j]
     constructor
     ·rintro(h | h)
      ·exact h
      ·subst h;rw[C]at a;injection a with a;rw[<-a,N]at c;cases c
     ·exact .inl
   | true=>
    rcases I with d | ⟨k,d⟩
    ·have hlk:=hnl N
     have Z:=pE hlk C (dc _)
     have hnw:=Uq C N hlk
     have hbs:newAt E pc ops dep sts i=bs:=by
      unfold newAt
      rw[C]
      simp only[hw',hk,hq,N,hlk,Fm,BN,if_true]
     rw[<-hk,JP (pc:=pc) hrun (iF O) hnw]at hq
     have hloc:Dn G (gF (sts 0).hp.get (fM ops dep sts) (newAt E pc ops dep sts) (λ_=>true) i) (gL E pc ops dep sts L ops.size):=by
      intro q b hg hne
      have Y : ∀i j,mt (fM ops dep sts) (newAt E pc ops dep sts) i q->mt (fM ops dep sts) (newAt E pc ops dep sts) j q->i=j:=λi j=>J9 hR i j
      by_cases hex : ∃j,mt (fM ops dep sts) (newAt E pc ops dep sts) j q
      ·obtain⟨j,hjm⟩:=hex
       have hf:ι q=none:=Uw (tc:=tc) (nt:=nt) hR hrun hD0 hjm
       have hjs:j<ops.size:=by
        have:newAt E pc ops dep sts j≠[]:=by
         intro e
         have:=hjm.2.2.2
         rw[e]at this
         simp at this
        obtain⟨l,a,_⟩:=tH this
        exact(iG.1 a).1
       cases p:L j with
       | false=>exact absurd (d.dom q hf λi' _ hL R=>by rw[Y i' j R hjm,p]at hL;cases hL) hne
       | true=>
        by_cases hji:j<i
        ·rw[BY Y hjm rfl _ hji]at hg
         rw[gL,BY Y hjm p _ hjs];exact hg
        ·rw[ti _ (λi' hi' _ R=>by have:=Y i' j R hjm;omega),hS0.W2 hf]at hg
         cases hg
      ·rw[ti _ (λi' _ _ R=>hex ⟨i',R⟩)]at hg
       rw[gL,ti _ (λi' _ _ R=>hex ⟨i',R⟩)]
       exact hg
     rw[<-tN hag]at hq
     have hq':=D5 d.sim hloc D hq
     have V : ∀k,G { fM ops dep sts i with k:=k}=none:=λk=>d.dom _ (I1 (pc:=pc) (tc:=tc) (nt:=nt) hR hrun hD0 C N Z hnw k) λj _ p hm=>by
      have hne:newAt E pc ops dep sts j≠[]:=by
       intro e
       have:=hm.2.2.2
       rw[e]at this
       simp at this
      obtain⟨l,a,c,hnj⟩:=tH hne
      obtain⟨dj,hdj⟩:=gI.1 (hR.site j l a c (pE hnj a (dc _)))
      obtain⟨di,hdi⟩:=gI.1 (hR.site i o C N Z)
      have:di=dj:=by have:=hm.2.1;simpa [fM,iY,a,hdj,C,hdi] using this
      have:=hR.distinct i j o l di C a hdi (by rw[hdj,this])
      subst this
      rw[hi]at p;cases p
     refine xY (E:=E) (o:=o) d.sim D (by simp[fM]) V hpc (λh=>by cases h) hq' ro K Q λu w' ⟨M',z,h1,h2,h3,h4⟩=>hK _ _ ?_
     obtain⟨h5,h6⟩:=(D.mono h3.mem h3.map).put hnt A h1
     have hg':gL E pc ops dep sts L' ops.size=sX (gL E pc ops dep sts L ops.size) (fM ops dep sts i) bs:=by rw[U1 hR O n,hbs]
     refine⟨hc',(put_defers _ _ _).trans hds,M',z,m,uo hR.toRegB C n hi hTS hx A,h5,h6,.inl ⟨λj l W a c=>?_,by rw[hg'];exact h2,by rw[hg'];exact d.fwd.trans h3,λq hq hno=>?_⟩⟩
     ·rcases(n j).1 W with h | h
      ·exact d.quiet j l h a c
      ·subst h;exact hlk
     ·refine h4 q (d.dom q hq λj W p=>hno j W ((n j).2 (.inl p))) λk hk' e=>?_
      refine hno i O ((n i).2 (.inr rfl)) ?_
      rw[e]
      exact⟨rfl,rfl,rfl,by rw[hbs];exact hk'⟩
    ·exact absurd d (X N k)
  ·have h1:=hnl (gG hwk')
   rw[P2 C hwk' (dc i)]at h1;cases h1
include hR hrun in
theorem P8(D:uK ι (sts 0).hp){L:Nat->Bool}(c : ∀i,i<ops.size->L i=true){a a1:Act}{G:World}(v:a.defers=ds)(I:Inv E pc nt ops dep sts M ι w ds L a1 G):la M ι (sts 0) a w nt (sts ops.size) a1 G:=by
 obtain⟨Q,u,C,m,tm1,y,A,x,n⟩:=I
 have z : ∀t,dH tm1 t=dH (sts ops.size).tm t:=by
  intro t
  obtain⟨J,P⟩:=y t
  obtain⟨K,O⟩:=JN hR.toRegB hrun ops.size (dc _) t
  by_cases h : ∃j,j<ops.size/\iY ops j=some t
  ·obtain⟨j,b,p⟩:=h
   rw[J j b (c j b) p,K j b (by simpa using b) p]
  ·rw[P λj b _ p=>h ⟨j,b,p⟩,O λj b _ p=>h ⟨j,b,p⟩]
 have f:TR C m (sts ops.size).tm a1:=⟨λt=>by rw[<-z];exact A.at_ t⟩
 rcases n with d | ⟨k,d⟩
 ·have q:Yh E ops ops.size:=λj o b e=>by
   cases q:jo E o with
   | false=>rfl
   | true=>have:=pE (d.quiet j o (c j b) e (gG q)) e (dc _);rw[q]at this;cases this
  have F:(sts ops.size).hp.get=gL E pc ops dep sts L ops.size:=by
   rw[JP (pc:=pc) hrun (dc _) q]
   exact Qc hR (dc _) λj o b _ _ _=>⟨λ_=>b,λ_=>c j b⟩
  refine⟨⟨C,m,⟨by rw[F];exact d.sim,?_,f,x⟩,by rw[F];exact d.fwd⟩,u.trans v.symm⟩
  exact MS (M:=M) (tc:=tc) (nt:=nt) hrun D (dc _) q d.dom d.fwd.map λj o b _ _ _ _=>b
 ·have l:(sts ops.size).hp=(sts k).hp:=Mv hrun ops.size d.le (dc _) λj o N b e=>by
   cases H:xa E o with
   | false=>rfl
   | true=>have:=(d.upto j o e H).1 (c j b);omega
  exact⟨⟨C,m,⟨by rw[l];exact d.sim,by rw[l];exact d.dom,f,x⟩,by rw[l];exact d.fwd⟩,u.trans v.symm⟩
include hR in
theorem B2{a:Array Bool}(n:a.size=ops.size)(h:Region.ready .any ops a=[]) : ∀i,i<ops.size->a.getD i false=true:=by
 intro i
 induction i using Nat.strongRecOn with | ind i l=>
 intro j
 cases p:a.getD i false with
 | true=>rfl
 | false=>
  exfalso
  have f:=jY j
  have c:a.getD i true=false:=by
   have:i<a.size:=by omega
   simpa [Array.getD,this] using p
  have:i∈Region.ready .any ops a:=by
   rw[mem_ready]
   refine⟨c,_,f,λe k m=>?_⟩
   have b:e.on∈eI ops[i]:=by
    unfold eI
    exact tY.2 ⟨e,FI.2 ⟨by simpa using k,m⟩,rfl⟩
   have d:=hR.edges i _ f _ b
   exact l e.on d (by omega)
  rw[h]at this
  cases this
include hR hrun in
theorem aaN(O : ∀f xs y,pc f xs=some y->cW E.P f xs y)(T : ∀f xs H y H',tc f xs H=some (y,H')->sh E.P f xs H y H'){ro:Option Nat}{a0:Act}(v:a0.defers=ds){Q:Exit->Act->World->Prop}
 (N:ic M ι (sts 0).hp.get w) (t:uK ι (sts 0).hp) (V : ∀G w',la M ι (sts 0) a0 w nt (sts ops.size) G w'->Q .normal G w') : ∀(b:Nat)(a:Array Bool)(a1:Act)(F:World),a.size=ops.size ->
 (List.range ops.size).countP (λi => !a.getD i false)<=b->Inv E pc nt ops dep sts M ι w ds (λi=>a.getD i false) a1 F->wpAnyIn (FW ro) 0 E.P .any ops Q b a a1 F:=by
 intro b
 induction b with
 | zero=>
  intro a a1 F n hf C
  have c : ∀i,i<ops.size->a.getD i false=true:=by
   intro i k
   cases R:a.getD i false with
   | true=>rfl
   | false=>
    exfalso
    have:0<(List.range ops.size).countP (λi => !a.getD i false):=List.countP_pos_iff.2 ⟨i,xf.2 k,by rw[R];rfl⟩
    omega
  refine⟨?_,V _ _ (P8 hR hrun t c v C)⟩
  refine SB.2 λi k=>?_
  rw[mem_ready]at k
  obtain⟨A,o,u,_⟩:=k
  have q:i<ops.size:=(iG.1 u).1
  have D:=c i q
  have:i<a.size:=by omega
  simp[Array.getD,this]at A D
  rw[D]at A
  cases A
 | succ b Z=>
  intro a a1 F n hf C
  refine⟨λY=>V _ _ (P8 hR hrun t (B2 hR n Y) v C),λi k=>?_⟩
  rw[mem_ready]at k
  obtain⟨A,o,u,S⟩:=k
  have q:i<ops.size:=(iG.1 u).1
  have x:i<a.size:=by omega
  have z:a.getD i false=false:=by simpa [Array.getD,x] using A
  have h : ∀e∈eI o,(λi=>a.getD i false) e=true:=by
   intro e W
   unfold eI at W
   obtain⟨d,X,rfl⟩:=tY.1 W
   obtain⟨D,h2⟩:=FI.1 X
   exact S d (by simpa using D) h2
  have l : ∀j,(λj=>(a.setIfInBounds i true).getD j false) j=true↔((λj=>a.getD j false) j=true\/j=i):=by
   intro j
   simp only
   by_cases m:j=i
   ·subst m
    simp[x]
   ·rw[getD_set_ne false (sL m)]
    simp[m]
  have:=UU (E:=E) (tc:=tc) (ro:=ro) (K:=wpAnyIn (FW ro) 0 E.P .any ops Q b (a.setIfInBounds i true)) (Q:=Q) hR hrun O T N t (L:=λi=>a.getD i false) u z h l C λG w' J=>by
   refine Z _ G w' (by simp[n]) ?_ J
   have:=EL (p:=λj => !a.getD j false) (p':=λj => !(a.setIfInBounds i true).getD j false) (i:=i) (λj U=>by
    simp only[dV]at U ⊢
    cases R:a.getD j false with
    | false=>rfl
    | true=>have:=(l j).2 (.inl R);simp only at this;rw[this]at U;cases U) (by simp only[z,Fm]) (by have:=(l i).2 (.inr rfl);simp only at this ⊢;rw[this];rfl) (List.range ops.size) (xf.2 q)
   omega
  unfold wpOpIn
  rw[u]
  simp only
  split
  ·rename_i I
   rw[if_pos I]at this
   exact this
  ·rename_i I
   rw[if_neg I]at this
   exact⟨λ_ _=>trivial,this⟩
end
theorem Vd{E:Env}(C:E.P.follows .mixedOrders=true){ops:Array Oper}(p:CD E ops=true){pc:FuncId->List AV->Option AV}(v : ∀f xs y,pc f xs=some y->cW E.P f xs y)
 {tc:xb->List AV->ai->du} (x : ∀f xs H y H',tc f xs H=some (y,H')->sh E.P f xs H y H') {nt dep id:Nat} {st d:St} {M:Mem} {ι:Map} {a:Act} {w:World} {ro:Option Nat} {Q:Exit->Act->World->Prop}
 (h:nu E pc tc nt dep true ops ops.toList st=some d) (j:Ac M ι st nt a w) (I : ∀m w',la M ι st a w nt d m w'->Q .normal m w'):(Code.region id ops true).wpIn (FW ro) 0 E.P Q a w:=by
 obtain⟨sts,F,z,G⟩:=GA ops.toList st d h
 rw[Cg]at z
 have hR:=LD p
 have hrun : ∀i o,ops[i]?=some o->evalOp E pc tc nt dep true ops o (sts i)=some (sts (i+1)):=λi o A=>G i o (by simpa using A)
 subst F
 refine wpIn_region_any C ?_
 have u:uh M ι (sts 0).hp.get w M ι (sts 0).hp.get { w with drawn:=w.drawn+1} :=
  ⟨rfl,rfl,rfl,dc _,λ_ _ _=>rfl,λ_ _ _ h=>h,λ_ _ h=>h,λr k l h K => .inr ⟨r,k,l,h,K,rfl⟩,λ_ _ _ h => .inl h⟩
 have c : ∀i,(Array.replicate ops.size false).getD i false=false:=by
  intro i
  simp only[Et,NP]
  split<;>rfl
 have b : ∀n,gF (sts 0).hp.get (fM ops dep sts) (newAt E pc ops dep sts) (λi=>(Array.replicate ops.size false).getD i false) n=(sts 0).hp.get:=by
  intro n
  funext q
  refine ti n λi _ e=>?_
  exact absurd ((c i).symm.trans e) (by simp)
 refine aaN (tc:=tc) (M:=M) (ι:=ι) (w:=w) (a0:=a) hR hrun v x rfl j.sim j.dom (λm w' D=>I m w' (z ▸ D)) ops.size _ a _ (by simp) ?_ ?_
 ·exact Bk List.countP_le_length (by simp)
 ·refine⟨λi o e=>?_,rfl,M,ι,(sts 0).tm,?_,j.tr,j.nt,.inl ⟨λi o e=>?_,?_,?_,λq J _=>J⟩⟩
  ·exact absurd ((c i).symm.trans e) (by simp)
  ·exact λt=>⟨λi _ e=>absurd ((c i).symm.trans e) (by simp),λ_=>rfl⟩
  ·exact absurd ((c i).symm.trans e) (by simp)
  ·rw[gL,b];exact j.sim.drew rfl
  ·rw[gL,b];exact u
end Go.Ab
