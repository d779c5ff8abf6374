/-
  What a quiet operation of the abstract machine looks at. No statement of a seat is proved here.
  A region that draws its order: whichever comes, what the order of the text gives. No statement of a seat is proved here.
  A region that draws its order: whichever comes, what the order of the text gives: the theorem. No statement of a seat is proved here.
  A region that draws its order: the step and the end. No statement of a seat is proved here.
-/
import Derived.Test.YtdbiffjdomokfaaGreatAbsWalk
set_option linter.unusedVariables false
set_option linter.unusedSimpArgs false
namespace Go.Ab
theorem mapM_congr{α β:Type}{f f':α→Option β} : ∀ {l:List α},(∀x∈l,f x=f' x)→l.mapM f=l.mapM f':=by
 intro l
 induction l with
 | nil=>intro _;rfl
 | cons a l ih =>
  intro h
  simp only[List.mapM_cons]
  rw[h a (List.mem_cons_self ..),ih fun x hx=>h x (List.mem_cons_of_mem _ hx)]
def zo(tm tm':List AV)(xs:List Operand):Prop :=∀x∈xs,aZ tm x=aZ tm' x
theorem pG{tm tm':List AV}{ps:List (Nat × Operand)}(h : ∀p∈ps,aZ tm p.2=aZ tm' p.2):ga tm ps=ga tm' ps:=by
 unfold ga
 exact mapM_congr fun p hp=>by obtain⟨i,o⟩:=p;simp only[h (i,o) hp]
theorem tz{tm tm':List AV}{x:Option Operand}(h : ∀y,x=some y→aZ tm y=aZ tm' y):jH tm x=jH tm' x:=by
 cases x with
 | none=>rfl
 | some y=>simp only[jH,h y rfl]
theorem pt{E:Env}{pc:FuncId→List AV→Option AV}{draw:Bool}{g:dk}{tm tm':List AV}{r:Ref}{o:Oper}(h:zo tm tm' o.op.operands.toList) :
 cB E pc draw g tm r o=cB E pc draw g tm' r o:=by
 unfold zo at h
 unfold cB
 split
 ·rename_i x hop;rw[hop]at h;simp only[Op.operands]at h;rw[h x (by simp)]
 ·rename_i x hop;rw[hop]at h;simp only[Op.operands]at h;rw[h x (by simp)]
 ·rename_i c a b hop;rw[hop]at h;simp only[Op.operands]at h;simp only[B4];rw[h c (by simp),h a (by simp),h b (by simp)]
 ·rfl
 ·rename_i e x hop;rw[hop]at h;simp only[Op.operands]at h;rw[h x (by simp)]
 ·rename_i t ps hop;rw[hop]at h;simp only[Op.operands]at h;rw[pG fun p hp=>h p.2 (by simp;exact⟨p.1,by simpa using hp⟩)]
 ·rename_i t n ps hop;rw[hop]at h;simp only[Op.operands]at h;rw[pG fun p hp=>h p.2 (by simp;exact⟨p.1,by simpa using hp⟩)]
 ·rename_i t x hop;rw[hop]at h;simp only[Op.operands]at h;rw[h x (by simp)]
 ·rename_i x hop;rw[hop]at h;simp only[Op.operands]at h;rw[h x (by simp)]
 ·rename_i op t x y ty hop;rw[hop]at h;simp only[Op.operands]at h;rw[h x (by simp),h y (by simp)]
 ·rename_i op t x hop;rw[hop]at h;simp only[Op.operands]at h;rw[h x (by simp)]
 ·rename_i s d x hop;rw[hop]at h;simp only[Op.operands]at h;rw[h x (by simp)]
 ·rename_i t x hop;rw[hop]at h;simp only[Op.operands]at h;rw[h x (by simp)]
 ·rename_i f a b hop;rw[hop]at h;simp only[Op.operands]at h;rw[mapM_congr fun x hx=>h x (by simp at hx ⊢;exact .inl hx),mapM_congr fun x hx=>h x (by simp at hx ⊢;exact .inr hx)]
 ·rename_i t l c hop;rw[hop]at h;simp only[Op.operands]at h;rw[h l (by simp),h c (by simp)]
 ·rfl
 ·rename_i t x k ok hop;rw[hop]at h;simp only[Op.operands]at h;rw[h x (by simp),h k (by simp)]
 ·rename_i t x lo hi mx hop
  rw[hop]at h
  simp only[Op.operands]at h
  rw[h x (by simp),tz (x:=lo) fun y hy=>h y (by simp[hy]),tz (x:=hi) fun y hy=>h y (by simp[hy]),tz (x:=mx) fun y hy=>h y (by simp[hy])]
 ·rename_i t x f hop;rw[hop]at h;simp only[Op.operands]at h;rw[h x (by simp)]
 ·rename_i t x f hop;rw[hop]at h;simp only[Op.operands]at h;rw[h x (by simp)]
 ·rename_i t x y hop;rw[hop]at h;simp only[Op.operands]at h;rw[h x (by simp),h y (by simp)]
 ·rename_i t x y hop;rw[hop]at h;simp only[Op.operands]at h;rw[h x (by simp),h y (by simp)]
 ·rename_i x t wt ok hop;rw[hop]at h;simp only[Op.operands]at h;rw[h x (by simp)]
 ·rename_i x i hop;rw[hop]at h;simp only[Op.operands]at h;rw[h x (by simp)]
 ·rename_i c hop
  rw[hop]at h
  simp only[Op.operands,Call.operands]at h
  rw[mapM_congr (l:=c.args.toList) fun x hx=>h x (by simp at hx ⊢;exact .inr hx)]
  split
  ·rfl
  ·split
   ·rename_i f hf;rw[h f (by simp[hf])]
   ·rfl
   ·rfl
 ·rfl
theorem OG{E:Env}{pc:FuncId→List AV→Option AV}{tc:sn→List AV→ab→dz}{H:ab}{tm tm':List AV}{r:Ref}{o:Oper}(h:zo tm tm' o.op.operands.toList) :
 evalW E pc tc H tm r o=evalW E pc tc H tm' r o:=by
 unfold zo at h
 unfold evalW
 generalize o.op=op at h ⊢
 cases op<;>try rfl
 case store t x y=>simp only[Op.operands]at h;simp only;rw[h x (by simp),h y (by simp)]
 case mapUpdate t m k y=>simp only[Op.operands]at h;simp only;rw[h m (by simp),h k (by simp),h y (by simp)]
 case insert t m k y=>simp only[Op.operands]at h;simp only;rw[h m (by simp),h k (by simp),h y (by simp)]
 case mapEntry t m k=>simp only[Op.operands]at h;simp only;rw[h m (by simp),h k (by simp)]
 case entryStore t m k y=>simp only[Op.operands]at h;simp only;rw[h m (by simp),h k (by simp),h y (by simp)]
 case buildSlice t n ps=>simp only[Op.operands]at h;simp only;rw[pG fun p hp=>h p.2 (by simp;exact⟨p.1,by simpa using hp⟩)]
 case makeChan t n=>simp only[Op.operands]at h;simp only;rw[h n (by simp)]
 case send c x=>simp only[Op.operands]at h;simp only;rw[h c (by simp),h x (by simp)]
 case recv t c b=>simp only[Op.operands]at h;simp only;rw[h c (by simp)]
 case call c =>
  simp only[Op.operands,Call.operands]at h
  simp only
  rw[mapM_congr (l:=c.args.toList) fun x hx=>h x (by simp at hx ⊢;exact .inr hx)]
  split
  ·rfl
  ·split
   ·rename_i f hf;rw[h f (by simp[hf])]
   ·rfl
   ·rfl
def zy(ι:Map)(g g':dk):Prop :=∀q k,g q=some k→ι q≠none→g' q=some k
section
variable{M:Mem}{ι:Map}{g g':dk}{w:World}
theorem Rb{l:Loc}{k:bN}(hb:eX M ι w l k){e:AV}(he:e∈k.es) : ∃u,VR M (k.map ι) e u:=by
 obtain⟨i,hi,hie⟩:=List.getElem_of_mem he
 have hc:=hb.cell i (by rw[List.getElem?_eq_getElem hi,hie])
 obtain⟨us,h1,_,_⟩:=hc.values
 cases e with
 | agg cs=>exact⟨.agg us.toArray,VR.oe.2 (by simpa [AV.cells] using h1)⟩
 | _ =>
  have hl:=h1.1
  obtain⟨u,rfl⟩:=FH hl.symm
  exact⟨u,h1.2 0 _ u rfl rfl⟩
theorem Hm{f f':AV→Option AV}{l l':List AV}(h:l.mapM f=some l')(hf : ∀x∈l,∀y,f x=some y→f' x=some y):l.mapM f'=some l':=by
 rw[←h]
 refine mapM_congr fun x hx=>?_
 obtain⟨i,hi,hix⟩:=List.getElem_of_mem hx
 obtain⟨y,_,hy⟩:=gZ h i x (by rw[List.getElem?_eq_getElem hi,hix])
 rw[hy,hf x hx y hy]
theorem qu{α β:Type}{f f':α→List β} : ∀ {l:List α},(∀x∈l,f x=f' x)→l.flatMap f=l.flatMap f':=by
 intro l
 induction l with
 | nil=>intro _;rfl
 | cons a l ih =>
  intro h
  rw[List.flatMap_cons,List.flatMap_cons,h a (List.mem_cons_self ..),ih fun x hx=>h x (List.mem_cons_of_mem _ hx)]
theorem sv(hS:fh M ι g' w)(hL:zy ι g g') : ∀(n:Nat)(x y:AV)(u:Value)(M0:Mem),view g n x=some y→VR M0 ι x u→view g' n x=some y∧aH g' n x=aH g n x ∧∀r∈aH g n x,ι r≠none:=by
 intro n
 induction n with
 | zero=>intro x y u M0 h;simp[view]at h
 | succ n ih =>
  intro x y u M0 h hv
  have lists : ∀ {cs ys:List AV},cs.mapM (view g n)=some ys→(∀c∈cs,∃u M0,VR M0 ι c u)→cs.mapM (view g' n)=some ys∧cs.flatMap (aH g' n)=cs.flatMap (aH g n) ∧∀r∈cs.flatMap (aH g n),ι r≠none:=by
   intro cs ys hys hvs
   refine⟨Hm hys fun c hc y hy=>?_,qu fun c hc=>?_,?_⟩
   ·obtain⟨u,M0,hu⟩:=hvs c hc
    exact(ih c y u M0 hy hu).1
   ·obtain⟨u,M0,hu⟩:=hvs c hc
    obtain⟨i,hi,hic⟩:=List.getElem_of_mem hc
    obtain⟨y,_,hy⟩:=gZ hys i c (by rw[List.getElem?_eq_getElem hi,hic])
    exact(ih c y u M0 hy hu).2.1
   ·intro r hr
    obtain⟨c,hc,hr⟩:=List.mem_flatMap.1 hr
    obtain⟨u,M0,hu⟩:=hvs c hc
    obtain⟨i,hi,hic⟩:=List.getElem_of_mem hc
    obtain⟨y,_,hy⟩:=gZ hys i c (by rw[List.getElem?_eq_getElem hi,hic])
    exact(ih c y u M0 hy hu).2.2 r hr
  have inl : ∀ {cs:List AV} {vs:Array Value},cs.length=vs.size→(∀(i:Nat) c u,cs[i]?=some c→vs[i]?=some u→VR M0 ι c u) →∀c∈cs,∃u M0,VR M0 ι c u:=by
   intro cs vs hl hh c hc
   obtain⟨i,hi,hic⟩:=List.getElem_of_mem hc
   exact⟨vs[i]'(by omega),M0,hh i c _ (by rw[List.getElem?_eq_getElem hi,hic]) (Array.getElem?_eq_getElem (by omega))⟩
  cases hv with
  | v hs=>simp[view]at h;subst h;simp[view,aH]
  | agg hl hh =>
   simp only[view,Option.map_eq_some_iff]at h
   obtain⟨ys,hys,rfl⟩:=h
   obtain⟨h1,h2,h3⟩:=lists hys (inl hl hh)
   exact⟨by simp[view,h1],by simp only[aH];exact h2,by simp only[aH];exact h3⟩
  | tup h0 hl hh =>
   simp only[view,Option.map_eq_some_iff]at h
   obtain⟨ys,hys,rfl⟩:=h
   obtain⟨h1,h2,h3⟩:=lists hys (inl hl hh)
   exact⟨by simp[view,h1],by simp only[aH];exact h2,by simp only[aH];exact h3⟩
  | cw=>simp[view]at h;subst h;simp[view,aH]
  | iptr=>simp[view]at h;subst h;simp[view,aH]
  | cM hr hb hs ha hc hn hk hzl =>
   rename_i r off len cap l a c
   simp only[view]at h
   split at h
   ·rename_i b hgb
    have:=hL r b hgb (by rw[hr];simp)
    exact⟨by simp only[view,this];exact h,by simp[aH],by intro q hq;simp only[aH,List.mem_singleton]at hq;rw[hq,hr];simp⟩
   ·cases h
  | ptr hr hzl =>
   rename_i r i j l
   simp only[view]at h
   split at h
   ·rename_i b hgb
    have hg':=hL r b hgb (by rw[hr];simp)
    cases harr:b.arr with
    | true =>
     rw[harr]at h
     exact⟨by simp only[view,hg',harr];exact h,by simp[aH,hg',hgb,harr],by intro q hq;simp[aH,hgb,harr]at hq;rw[hq,hr];simp⟩
    | false =>
     rw[harr]at h
     simp only[Bool.false_eq_true,if_false,Option.map_eq_some_iff]at h
     obtain⟨es,hes,rfl⟩:=h
     have hbk:=hS.at hr hzl hg'
     obtain⟨h1,h2,h3⟩:=lists hes fun c hc=>by
      obtain⟨u,hu⟩:=Rb hbk hc
      rw[bN.map,harr]at hu
      exact⟨u,M,by simpa using hu⟩
     exact⟨by simp[view,hg',harr,h1],by simp only[aH,hg',hgb,harr];rw[if_neg (by simp),if_neg (by simp),h2],by
      intro q hq
      simp only[aH,hgb,harr]at hq
      rw[if_neg (by simp)]at hq
      rcases List.mem_cons.1 hq with rfl | hq
      ·rw[hr];simp
      ·exact h3 q hq⟩
   ·cases h
  | fn hla hlb hha hhb =>
   simp only[view]at h
   split at h
   ·rename_i a' b' ha' hb'
    cases h
    obtain⟨h1,h2,h5⟩:=lists ha' (inl hla hha)
    obtain⟨h3,h4,h6⟩:=lists hb' (inl hlb hhb)
    exact⟨by simp[view,h1,h3],by simp only[aH];rw[h2,h4],by
     intro q hq
     simp only[aH,List.mem_append]at hq
     rcases hq with hq | hq
     ·exact h5 q hq
     ·exact h6 q hq⟩
   ·cases h
  | yld=>simp[view]at h
  | mp=>simp[view]at h
  | ch=>simp[view]at h
  | ifc hh =>
   simp only[view,Option.map_eq_some_iff]at h
   obtain⟨y',hy',rfl⟩:=h
   obtain⟨h1,h2,h3⟩:=ih _ y' _ M0 hy' hh
   exact⟨by simp[view,h1],by simp only[aH];exact h2,by simp only[aH];exact h3⟩
theorem K3(hS:fh M ι g' w)(hL:zy ι g g'){xs ys:List AV}{us:List Value}(h:xs.mapM (view g depth)=some ys)(hv:jC M ι xs us):xs.mapM (view g' depth)=some ys∧ck g' xs=ck g xs ∧∀r∈ck g xs,ι r≠none:=by
 have inl : ∀c∈xs,∃u,VR M ι c u:=by
  intro c hc
  obtain⟨i,hi,hic⟩:=List.getElem_of_mem hc
  have hl:=hv.1
  exact⟨us[i]'(by omega),hv.2 i c _ (by rw[List.getElem?_eq_getElem hi,hic]) (List.getElem?_eq_getElem (by omega))⟩
 refine⟨Hm h fun c hc y hy=>?_,qu fun c hc=>?_,?_⟩
 ·obtain⟨u,hu⟩:=inl c hc
  exact(sv hS hL depth c y u M hy hu).1
 ·obtain⟨u,hu⟩:=inl c hc
  obtain⟨i,hi,hic⟩:=List.getElem_of_mem hc
  obtain⟨y,_,hy⟩:=gZ h i c (by rw[List.getElem?_eq_getElem hi,hic])
  exact(sv hS hL depth c y u M hy hu).2.1
 ·intro r hr
  obtain⟨c,hc,hr⟩:=List.mem_flatMap.1 hr
  obtain⟨u,hu⟩:=inl c hc
  obtain⟨i,hi,hic⟩:=List.getElem_of_mem hc
  obtain⟨y,_,hy⟩:=gZ h i c (by rw[List.getElem?_eq_getElem hi,hic])
  exact(sv hS hL depth c y u M hy hu).2.2 r hr
theorem De(hL:zy ι g g'){R:List Ref}(hR : ∀r∈R,ι r≠none)(h:ic g R=true):ic g' R=true:=by
 simp only[ic,List.all_eq_true]at h ⊢
 intro r hr
 have:=h r hr
 cases hg:g r with
 | none=>rw[hg]at this;simp at this
 | some b=>rw[hg]at this;rw[hL r b hg (hR r hr)];exact this
theorem AI(hL:zy ι g g'){x:AV}{u:Value}(hv:VR M ι x u){p:Nat × List AV}(h:cT g x=some p):cT g' x=some p:=by
 cases hv with
 | cM hr =>
  simp only[cT]at h ⊢
  split at h
  ·rename_i b hb
   rw[hL _ b hb (by rw[hr];simp)]
   exact h
  ·cases h
 | v hs=>cases ‹Value› <;> simp_all [cT]
 | cw=>exact h
 | _=>simp[cT]at h
theorem wI(hS:fh M ι g' w)(hL:zy ι g g'){vs ws:List (Nat × AV)}(h:eT g vs=some ws)(hv : ∀p∈vs,∃u,VR M ι p.2 u) :
 eT g' vs=some ws∧ck g' (vs.map (·.2))=ck g (vs.map (·.2)) ∧∀r∈ck g (vs.map (·.2)),ι r≠none:=by
 have each : ∀p∈vs,∃y u,view g depth p.2=some y∧VR M ι p.2 u:=by
  intro p hp
  obtain⟨i,hi,hip⟩:=List.getElem_of_mem hp
  obtain⟨y,_,hy⟩:=gZ h i p (by rw[List.getElem?_eq_getElem hi,hip])
  obtain⟨u,hu⟩:=hv p hp
  obtain⟨k,x⟩:=p
  simp only[Option.map_eq_some_iff]at hy
  obtain⟨z,hz,_⟩:=hy
  exact⟨z,u,hz,hu⟩
 refine⟨?_,?_,?_⟩
 ·unfold eT at h ⊢
  rw[←h]
  refine mapM_congr fun p hp=>?_
  obtain⟨y,u,h1,h2⟩:=each p hp
  obtain⟨k,x⟩:=p
  simp only at h1 h2
  simp only[h1,(sv hS hL depth x y u M h1 h2).1]
 ·unfold ck
  refine qu fun x hx=>?_
  obtain⟨p,hp,rfl⟩:=List.mem_map.1 hx
  obtain⟨y,u,h1,h2⟩:=each p hp
  exact(sv hS hL depth p.2 y u M h1 h2).2.1
 ·intro r hr
  obtain⟨x,hx,hr⟩:=List.mem_flatMap.1 hr
  obtain⟨p,hp,rfl⟩:=List.mem_map.1 hx
  obtain⟨y,u,h1,h2⟩:=each p hp
  exact(sv hS hL depth p.2 y u M h1 h2).2.2 r hr
theorem NT{tm:List AV}{a:Act}(hT:TR M ι tm a){ps:List (Nat × Operand)}{vs:List (Nat × AV)}(h:ga tm ps=some vs) : ∀p∈vs,∃u,VR M ι p.2 u:=by
 intro p hp
 obtain⟨h1,h2⟩:=pV (ι:=ι) hT h
 obtain⟨i,hi,hip⟩:=List.getElem_of_mem hp
 exact⟨_,(h2 i p _ (by rw[List.getElem?_eq_getElem hi,hip]) (List.getElem?_eq_getElem (by omega))).2⟩
theorem Hi{P:Program}(hS:fh M ι g' w)(hL:zy ι g g'){t:TypeId}{n:Nat}{vs:List (Nat × AV)}{b:bN}(h:mkSlice P g t n vs=some b)(hv : ∀p∈vs,∃u,VR M ι p.2 u):mkSlice P g' t n vs=some b:=by
 unfold mkSlice at h ⊢
 split at h
 ·cases h
 ·rename_i e he
  try simp only[he]
  split at h
  ·rename_i ws z s hws hz hs
   try simp only[(wI hS hL hws hv).1,hz,hs]
   exact h
  ·cases h
theorem DK{P:Program}{t:TypeId}{n:Nat}{vs:List (Nat × AV)}{b:bN}(h:mkSlice P g t n vs=some b) : ∃ws,eT g vs=some ws:=by
 unfold mkSlice at h
 split at h
 ·cases h
 ·split at h
  ·rename_i ws z s hws hz hs;exact⟨ws,hws⟩
  ·cases h
theorem EG{P:Program}(hL:zy ι g g'){e:TypeId}{x:AV}{u:Value}(hv:VR M ι x u){p:Nat × List AV}(h:mq P g e x=some p):mq P g' e x=some p:=by
 unfold mq at h ⊢
 split at h
 ·exact h
 ·exact h
 ·rename_i h1 h2
  exact AI hL hv h
theorem G7{P:Program}(hL:zy ι g g'){r:Ref}{t t':Option TypeId}{s x:AV}{us ux:Value}(hs:VR M ι s us)(hx:VR M ι x ux){res:AV × List bN}(h:gK P g r t t' s x=some res):gK P g' r t t' s x=some res:=by
 unfold gK at h ⊢
 split at h
 ·cases h
 ·rename_i e he
  try simp only[he]
  split at h
  ·cases h
  ·rename_i hc
   rw[if_neg hc]
   split at h
   ·rename_i z by' zz ez new hz hb hzz hnew
    try simp only[hz,hb,hzz,EG hL hx hnew]
    split at h
    ·cases h
    ·rename_i hc2
     rw[if_neg hc2]
     cases hs with
     | cM hr =>
      simp only at h ⊢
      split at h
      ·rename_i b hgb
       rw[hL _ b hgb (by rw[hr];simp)]
       exact h
      ·cases h
     | v hv=>(split at h)<;>first | exact h | cases h | simp_all
     | _=>exact h
   ·cases h
theorem EJ(hL:zy ι g g'){r:Ref}(hr:ι r≠none){ents:List AV}(h:hJ g r=some ents):hJ g' r=some ents:=by
 unfold hJ at h ⊢
 cases hg:g r with
 | none=>rw[hg]at h;cases h
 | some b=>rw[hg]at h;rw[hL r b hg hr];exact h
theorem G2{P:Program}(hL:zy ι g g'){t:TypeId}{x:AV}{u:Value}(hv:VR M ι x u){k:Option AV}{ok:Bool}{res:AV × List bN}(h:da P g t (some x) k ok=some res):da P g' t (some x) k ok=some res:=by
 unfold da at h ⊢
 split at h
 ·rename_i kt et r' kv ht he hk
  cases he
  cases hv with | mp hr hz =>
  try simp only[ht,hk]
  split at h
  ·rename_i ents hm
   rw[EJ hL (by rw[hr];simp) hm]
   exact h
  ·cases h
 ·cases h
theorem z8{E:Env}{pc:FuncId→List AV→Option AV}(hS:fh M ι g' w)(hL:zy ι g g'){tm:List AV}{a:Act}(hT:TR M ι tm a){r:Ref}{o:Oper}{x:AV}{bs:List bN}
 (h:cB E pc true g tm r o=some (x,bs)):cB E pc true g' tm r o=some (x,bs):=by
 unfold cB at h ⊢
 simp only[Bool.not_true,Bool.and_false,cond_false,tx]at h ⊢
 split at h
 ·exact h
 ·exact h
 ·exact h
 ·exact h
 ·exact h
 ·exact h
 ·
  rename_i t n ps hop
  cases hv:ga tm ps.toList with
  | none=>rw[hv]at h;simp[fG]at h
  | some vs =>
   rw[hv]at h
   generalize (true && !E.strict o)=dr at h ⊢
   simp only[fG]at h ⊢
   obtain⟨h1,h2⟩:=Option.ite_none_right_eq_some.1 h
   simp only[Option.map_eq_some_iff]at h2
   obtain⟨b,hb,h3⟩:=h2
   have hpv:=NT hT hv
   obtain⟨ws,hws⟩:=DK hb
   obtain⟨h4,h5,h6⟩:=wI hS hL hws hpv
   rw[h5,De hL h6 h1,Hi hS hL hb hpv]
   simp[h3]
 ·
  rename_i t y hop
  unfold aj at h ⊢
  split at h
  ·rename_i r' i j ag n hy hg hn
   try simp only[hy,hg,hn]
   split at h
   ·rename_i b hb
    have hv:=bn hT hy
    generalize a.eval y=u at hv
    cases hv with | ptr hr hzl =>
    rw[hL r' b hb (by rw[hr];simp)]
    exact h
   ·cases h
  ·rename_i esz es i j ag n hy hg hn
   try simp only[hy,hg,hn]
   exact h
  ·cases h
 ·exact h
 ·exact h
 ·exact h
 ·
  rename_i s d y hop
  cases hy:aZ tm y with
  | none=>rw[hy]at h;simp[cW]at h
  | some y' =>
   rw[hy]at h
   have hv:=bn hT hy
   unfold cW at h ⊢
   split at h
   ·exact h
   ·exact h
   ·exact h
   ·rename_i z h1 h2 h3 he
    injection he with he
    subst he
    split at h
    ·rename_i hc
     try simp only[hc,if_true]
     split at h
     ·rename_i p es hes
      rw[AI hL hv hes]
      exact h
     ·cases h
    ·rename_i hc
     try simp only[hc]
     split at h
     ·rename_i hc2
      try simp only[hc2,if_true]
      split at h
      ·generalize a.eval y=u at hv
       cases hv with | cM hr =>
       split at h
       ·rename_i k hk
        have:=hL _ k hk (by rw[hr];simp)
        rw[this]
        exact h
       ·cases h
      ·cases h
     ·cases h
   ·rename_i he;cases he
 ·exact h
 ·exact h
 ·exact h
 ·exact h
 ·
  rename_i t y k ok hop
  cases hy:aZ tm y with
  | none=>rw[hy]at h;simp only[da]at h;split at h<;>simp_all
  | some y' =>
   rw[hy]at h
   exact G2 hL (bn hT hy) h
 ·
  rename_i t y lo hi mx hop
  cases hy:aZ tm y with
  | none=>rw[hy]at h;simp only[eQ]at h ⊢;exact h
  | some y' =>
   rw[hy]at h
   have hv:=bn hT hy
   generalize a.eval y=u at hv
   cases hv with
   | cM hr =>
    simp only[eQ]at h ⊢
    split at h
    ·rename_i lo' hi' mx' h1 h2 h3
     try simp only[h1,h2,h3]
     split at h
     ·rename_i b hb
      rw[hL _ b hb (by rw[hr];simp)]
      exact h
     ·cases h
    ·cases h
   | _=>(unfold eQ at h ⊢;(repeat' split at h)<;>simp_all)
 ·exact h
 ·exact h
 ·
  rename_i t y z hop
  cases hy:aZ tm y with
  | none=>rw[hy]at h;exact h
  | some y' =>
   rw[hy]at h
   have hv:=bn hT hy
   generalize a.eval y=u at hv
   cases hv with
   | cM hr =>
    simp only[aM]at h ⊢
    split at h
    ·rename_i k hk
     try simp only[hk]
     split at h
     ·rename_i e he
      try simp only[he]
      split at h
      ·rename_i esz es cap s hye hs
       cases hye
      ·rename_i r' off len cap s hye hs
       injection hye with hye
       injection hye with e1 e2 e3 e4
       subst e1
       try simp only[hs]
       split at h
       ·rename_i b hb
        rw[hL _ b hb (by rw[hr];simp)]
        subst e2;subst e3
        exact h
       ·cases h
      ·cases h
     ·rename_i he
      try simp only[he]
      exact h
    ·cases h
   | _=>(unfold aM at h ⊢;(repeat' split at h)<;>simp_all)
 ·exact h
 ·exact h
 ·exact h
 ·
  rename_i c hop
  split at h
  ·cases h
  ·rename_i args hargs
   try simp only[hargs]
   have hvs:=kV hT hargs
   split at h
   ·rename_i fo hc
    try simp only[hc]
    obtain⟨p0,h,e0⟩:=Option.map_eq_some_iff.1 h
    refine Option.map_eq_some_iff.2 ⟨p0,?_,e0⟩
    unfold ik at h ⊢
    split at h
    ·rename_i fi first captured hfo
     try simp only[hfo]
     split at h
     ·cases h
     ·rename_i hm
      rw[if_neg hm]
      obtain⟨a',b',hfv,hva,hvb⟩:=(bn hT hfo).Q6
      have hall:jC M ι (first++args++captured) (a'.toList++c.args.toList.map a.eval++b'.toList):=(hva.append hvs).append hvb
      split at h
      ·rename_i xs hxs
       obtain⟨h1,h2,h3⟩:=K3 hS hL hxs hall
       try simp only[h1]
       split at h
       ·rename_i y hy
        try simp only[hy]
        obtain⟨hcond,h⟩:=Option.ite_none_right_eq_some.1 h
        rw[h2]
        rw[if_pos]
        ·exact h
        ·simp only[Bool.or_eq_true]at hcond ⊢
         rcases hcond with (h4 | h4) | h4
         ·exact .inl (.inl h4)
         ·exact .inl (.inr (De hL h3 h4))
         ·exact .inr h4
       ·cases h
      ·cases h
    ·cases h
   ·cases h
   ·rename_i b hc
    try simp only[hc]
    unfold aJ at h ⊢
    split at h
    ·rename_i r'
     obtain⟨u,hu1⟩:=FH hvs.1.symm
     rw[hu1]at hvs
     have hv:=hvs.2 0 (.mp r') u rfl rfl
     cases hv with | mp hr hz =>
     obtain⟨hd,h⟩:=Option.ite_none_left_eq_some.1 h
     simp only[if_neg hd]
     unfold re at h ⊢
     split at h
     ·rename_i p ents ht hm
      try simp only[ht]
      simp only[EJ hL (by rw[hr];simp) hm]
      exact h
     ·cases h
    ·exact h
    ·exact h
    ·exact h
    ·rename_i y z
     obtain⟨u,v,hu1⟩:=uK hvs.1.symm
     rw[hu1]at hvs
     exact G7 hL (hvs.2 0 y u rfl rfl) (hvs.2 1 z v rfl rfl) h
    ·exact h
    ·cases h
 ·cases h
end
end Go.Ab
namespace Go.Ab
theorem Ob{acc:List Nat}{i:Nat} : ∀(js:List Nat),(xy acc js).testBit i=true →∃j∈js,i=j∨(acc.getD j 0).testBit i=true:=by
 intro js
 induction js with
 | nil=>intro h;simp[xy]at h
 | cons j js ih =>
  intro h
  simp only[xy,Nat.testBit_or,Bool.or_eq_true]at h
  rcases h with (h | h) | h
  ·rw[Nat.testBit_two_pow]at h
   exact⟨j,List.mem_cons_self ..,.inl (by simpa using h:j=i).symm⟩
  ·exact⟨j,List.mem_cons_self ..,.inr h⟩
  ·obtain⟨k,hk,h⟩:=ih h
   exact⟨k,List.mem_cons_of_mem _ hk,h⟩
theorem Iv : ∀(os:List Oper)(acc:List Nat)(i:Nat),i<acc.length→(dy os acc).getD i 0=acc.getD i 0:=by
 intro os
 induction os with
 | nil=>intro acc i h;rfl
 | cons o os ih =>
  intro acc i h
  simp only[dy]
  rw[ih _ i (by simp;omega)]
  simp[List.getD,List.getElem?_append_left h]
theorem Rk : ∀(os:List Oper)(acc:List Nat)(i:Nat)(o:Oper),os[i]?=some o →
 ∀j,((dy os acc).getD (acc.length+i) 0).testBit j=true →∃e∈ep o,j=e∨(e<acc.length+i∧((dy os acc).getD e 0).testBit j=true):=by
 intro os
 induction os with
 | nil=>intro acc i o h;simp at h
 | cons o' os ih =>
  intro acc i o h j hj
  cases i with
  | zero =>
   simp at h
   subst h
   simp only[dy,Nat.add_zero]at hj ⊢
   rw[Iv os _ acc.length (by simp)]at hj
   simp only[List.getD,List.getElem?_append_right (Nat.le_refl _),Nat.sub_self,List.getElem?_cons_zero,Option.getD_some]at hj
   obtain⟨e,he,hj⟩:=Ob _ hj
   refine⟨e,he,?_⟩
   rcases hj with h | h
   ·exact .inl h
   ·right
    rcases Nat.lt_or_ge e acc.length with hlt | hge
    ·refine⟨hlt,?_⟩
     have h2:=Iv os (acc++[xy acc (ep o')]) e (by simp;omega)
     simp only[List.getD,List.getElem?_append_left hlt]at h h2 ⊢
     rw[h2]
     exact h
    ·rw[List.getD,List.getElem?_eq_none hge]at h
     simp at h
  | succ i =>
   simp only[dy]at hj ⊢
   have:=ih (acc++[xy acc (ep o')]) i o (by simpa using h) j (by
    rw[List.length_append,List.length_singleton]
    rwa [show acc.length+1+i=acc.length+(i+1) by omega])
   rw[List.length_append,List.length_singleton]at this
   rwa [show acc.length+1+i=acc.length+(i+1) by omega]at this
theorem Ul{ops:Array Oper}{i j:Nat}{o:Oper}(ho:ops[i]?=some o)(hj:((dy ops.toList []).getD i 0).testBit j=true) : ∃e∈ep o,j=e∨(e<i∧((dy ops.toList []).getD e 0).testBit j=true):=by
 have:=Rk ops.toList [] i o (by simpa using ho) j (by simpa using hj)
 simpa using this
def Closed(ops:Array Oper)(L:Nat→Bool):Prop :=∀(i:Nat)(o:Oper),L i=true→ops[i]?=some o →∀e∈ep o,L e=true
theorem qH{ops:Array Oper}{L:Nat→Bool}(hc:Closed ops L) : ∀(i:Nat)(o:Oper),ops[i]?=some o→(∀e∈ep o,L e=true) →∀j,((dy ops.toList []).getD i 0).testBit j=true→L j=true:=by
 intro i
 induction i using Nat.strongRecOn with | ind i ih =>
 intro o ho hed j hj
 obtain⟨e,he,h | ⟨hlt,h⟩⟩:=Ul ho hj
 ·rw[h];exact hed e he
 ·have hi:i<ops.size:=(Array.getElem?_eq_some_iff.1 ho).1
  have hoe:ops[e]?=some (ops[e]'(by omega)):=Array.getElem?_eq_getElem (by omega)
  exact ih e hlt _ hoe (hc e _ (hed e he) hoe) j h
structure RegB (ops:Array Oper):Prop where
 edges : ∀(i:Nat)(o:Oper),ops[i]?=some o →∀e∈ep o,e<i
 distinct : ∀(i j:Nat)(oi oj:Oper)(d:Tmp),ops[i]?=some oi→ops[j]?=some oj→oi.dst=some d→oj.dst=some d→i=j
 reads : ∀(i j:Nat)(oi oj:Oper)(d:Tmp),ops[i]?=some oi→ops[j]?=some oj→j≠i→oj.dst=some d→d∈oi.looksAt ops→(j<i∧((dy ops.toList []).getD i 0).testBit j=true)∨(i<j∧((dy ops.toList []).getD j 0).testBit i=true)
structure Pb (E:Env) (ops:Array Oper):Prop extends RegB ops where
 site : ∀(i:Nat)(o:Oper),ops[i]?=some o→so E o=true→gB E o=false→o.dst.isSome=true
 writes : ∀(i j:Nat)(oi oj:Oper),ops[i]?=some oi→ops[j]?=some oj→j<i→so E oi=true→so E oj=true→lk E ops i=true→((dy ops.toList []).getD i 0).testBit j=true
theorem KB{E:Env}{ops:Array Oper}{i j:Nat}{o:Oper}(ho:ops[j]?=some o)(hw:gB E o=true)(hji:j≤i):lk E ops i=true:=by
 unfold lk
 rw[List.any_eq_true]
 exact⟨j,List.mem_range.2 (by omega),by rw[ho];exact hw⟩
theorem mw{E:Env}{ops:Array Oper}{i:Nat}(h:lk E ops i=false){j:Nat}{o:Oper}(ho:ops[j]?=some o)(hji:j≤i):gB E o=false:=by
 cases hw:gB E o with
 | false=>rfl
 | true=>rw[KB ho hw hji]at h;cases h
theorem Xv{E:Env}{ops:Array Oper}{i:Nat}(h:lk E ops i=true) : ∃j o,j≤i∧ops[j]?=some o∧gB E o=true:=by
 unfold lk at h
 rw[List.any_eq_true]at h
 obtain⟨k,hk,h⟩:=h
 have hk':=List.mem_range.1 hk
 split at h
 ·rename_i o ho;exact⟨k,o,by omega,ho,h⟩
 ·cases h
theorem QL{E:Env}{ops:Array Oper}{i j:Nat}(h:lk E ops j=true)(hji:j≤i):lk E ops i=true:=by
 unfold lk at h
 rw[List.any_eq_true]at h
 obtain⟨k,hk,h⟩:=h
 have hk':=List.mem_range.1 hk
 split at h
 ·rename_i o ho;exact KB ho h (by omega)
 ·cases h
theorem KX{ops:Array Oper}(one : ∀(i:Nat)(o:Oper),ops[i]?=some o→(ep o).all (· < i)=true)
 (two : ∀(i j:Nat)(oi oj:Oper),ops[i]?=some oi→ops[j]?=some oj→j<i→s7 ops (dy ops.toList []) oi oj i j=true):RegB ops:=by
 have pair : ∀(i j:Nat)(oi oj:Oper),ops[i]?=some oi→ops[j]?=some oj→j<i→(oj.dst.isNone=true∨oi.dst≠oj.dst)∧(∀d,oj.dst=some d→d∈oi.looksAt ops→((dy ops.toList []).getD i 0).testBit j=true) ∧
  (∀d,oi.dst=some d→d∈oj.looksAt ops→((dy ops.toList []).getD i 0).testBit j=true):=by
  intro i j oi oj hi hj hlt
  have:=two i j oi oj hi hj hlt
  unfold s7 at this
  simp only[Bool.and_eq_true]at this
  obtain⟨⟨h1,h2⟩,h3⟩:=this
  refine⟨?_,?_,?_⟩
  ·simpa using h1
  ·intro d hd hl
   rw[hd]at h2
   simp only[Bool.or_eq_true,Bool.not_eq_true']at h2
   rcases h2 with h2 | h2
   ·have:(oi.looksAt ops).contains d=true:=List.contains_iff_mem.2 hl
    rw[h2]at this;cases this
   ·exact h2
  ·intro d hd hl
   rw[hd]at h3
   simp only[Bool.or_eq_true,Bool.not_eq_true']at h3
   rcases h3 with h3 | h3
   ·have:(oj.looksAt ops).contains d=true:=List.contains_iff_mem.2 hl
    rw[h3]at this;cases this
   ·exact h3
 refine⟨?_,?_,?_⟩
 ·intro i o ho e he
  have:=one i o ho
  simp only[List.all_eq_true,decide_eq_true_eq]at this
  exact this e he
 ·intro i j oi oj d hi hj hdi hdj
  rcases Nat.lt_trichotomy i j with h | h | h
  ·exfalso
   rcases(pair j i oj oi hj hi h).1 with h1 | h1
   ·rw[hdi]at h1;cases h1
   ·exact h1 (by rw[hdi,hdj])
  ·exact h
  ·exfalso
   rcases(pair i j oi oj hi hj h).1 with h1 | h1
   ·rw[hdj]at h1;cases h1
   ·exact h1 (by rw[hdi,hdj])
 ·intro i j oi oj d hi hj hne hd hl
  rcases Nat.lt_or_gt_of_ne hne with h | h
  ·exact .inl ⟨h,(pair i j oi oj hi hj h).2.1 d hd hl⟩
  ·exact .inr ⟨h,(pair j i oj oi hj hi h).2.2 d hd hl⟩
theorem GX{E:Env}{ops:Array Oper}(h:yw E ops=true):Pb E ops:=by
 unfold yw at h
 simp only[List.all_eq_true,List.mem_range]at h
 have one : ∀(i:Nat)(o:Oper),ops[i]?=some o→(ep o).all (· < i)=true∧(!so E o||gB E o||o.dst.isSome)=true ∧∀(j:Nat)(oj:Oper),j<i→ops[j]?=some oj→Ji E ops (dy ops.toList []) o oj i j=true:=by
  intro i o ho
  have hi:i<ops.size:=(Array.getElem?_eq_some_iff.1 ho).1
  have:=h i hi
  rw[ho]at this
  simp only[Bool.and_eq_true,List.all_eq_true,List.mem_range]at this
  refine⟨by simpa using this.1.1,by simpa using this.1.2,fun j oj hj hoj=>?_⟩
  have h2:=this.2 j hj
  rw[hoj]at h2
  exact h2
 have split : ∀(i j:Nat)(oi oj:Oper),ops[i]?=some oi→ops[j]?=some oj→j<i→s7 ops (dy ops.toList []) oi oj i j=true∧(so E oi=true→so E oj=true→lk E ops i=true→((dy ops.toList []).getD i 0).testBit j=true):=by
  intro i j oi oj hi hj hlt
  have:=(one i oi hi).2.2 j oj hlt hj
  unfold Ji at this
  rw[Bool.and_eq_true]at this
  refine⟨this.1,fun a b c=>?_⟩
  have h4:=this.2
  rw[a,b,c]at h4
  simpa using h4
 refine⟨KX (fun i o ho=>(one i o ho).1) fun i j oi oj hi hj hlt=>(split i j oi oj hi hj hlt).1,?_,fun i j oi oj hi hj hlt=>(split i j oi oj hi hj hlt).2⟩
 intro i o ho h1 h2
 have:=(one i o ho).2.1
 rw[h1,h2]at this
 simpa using this
theorem B1{E:Env}{pc:FuncId→List AV→Option AV}{tc:sn→List AV→ab→dz}{nt dep:Nat}{ops:Array Oper} : ∀(l:List Oper)(st st':St),kY E pc tc nt dep true ops l st=some st' →
 ∃f:Nat→St,f 0=st∧f l.length=st' ∧∀i o,l[i]?=some o→evalOp E pc tc nt dep true ops o (f i)=some (f (i+1)):=by
 intro l
 induction l with
 | nil =>
  intro st st' h
  simp only[kY,Option.some.injEq]at h
  exact⟨fun _=>st,rfl,h,fun i o hi=>by simp at hi⟩
 | cons o l ih =>
  intro st st' h
  simp only[kY]at h
  split at h
  ·rename_i st1 h1
   obtain⟨f,h2,h3,h4⟩:=ih st1 st' h
   refine⟨fun n=>match n with | 0=>st | n+1=>f n,rfl,h3,?_⟩
   intro i o' hi
   cases i with
   | zero=>simp at hi;subst hi;simp only;rw[h2];exact h1
   | succ i=>exact h4 i o' (by simpa using hi)
  ·cases h
inductive YD (E:Env) (pc:FuncId→List AV→Option AV) (nt dep:Nat) (ops:Array Oper) (o:Oper) (st st2:St):Prop
 | no (hw:wanted ops st.tm o=some false) (tm':List AV) (ht:dq nt st.tm o.dst AV.undef=some tm') (he:st2=⟨tm',st.hp⟩)
 | quiet (hw:wanted ops st.tm o=some true) (x:AV) (bs:List bN) (hq:cB E pc true st.hp.get st.tm ⟨dep,o.dst.getD 0,st.hp.gen dep (o.dst.getD 0),0⟩ o=some (x,bs)) (tm':List AV)
  (ht:dq nt st.tm o.dst x=some tm') (he:st2=⟨tm',keyed ⟨dep,o.dst.getD 0,st.hp.gen dep (o.dst.getD 0),0⟩ 0 bs st.hp⟩)
 | write (hk:gB E o=true)
theorem lG{E:Env}{pc:FuncId→List AV→Option AV}{tc:sn→List AV→ab→dz}{nt dep:Nat}{ops:Array Oper}{o:Oper}{st st2:St}(h:evalOp E pc tc nt dep true ops o st=some st2):YD E pc nt dep ops o st st2:=by
 unfold evalOp at h
 split at h
 ·cases h
 ·rename_i hw
  simp only[Option.map_eq_some_iff]at h
  obtain⟨tm',ht,rfl⟩:=h
  exact .no hw tm' ht rfl
 ·rename_i hw
  split at h
  ·rename_i x bs hq
   simp only[Option.map_eq_some_iff]at h
   obtain⟨tm',ht,rfl⟩:=h
   exact .quiet hw x bs hq tm' ht rfl
  ·split at h
   ·cases h
   ·rename_i hk
    refine .write ?_
    simpa using hk
theorem Gj{E:Env}{o:Oper}(h:gB E o=true):ib o.op=true:=by
 unfold gB at h
 have two:(E.jb o&&wE o.op)=true→ib o.op=true:=by
  intro h
  replace h:=(Bool.and_eq_true_iff.1 h).2
  unfold wE at h
  split at h
  ·rename_i hop;rw[hop];rfl
  ·cases h
 by_cases h2:(E.jb o&&wE o.op)=true
 ·exact two h2
 replace h:=(Bool.or_eq_true_iff.1 h).resolve_right h2
 replace h:=(Bool.and_eq_true_iff.1 h).2
 unfold Sz at h
 split at h
 ·rename_i hop;rw[hop];rfl
 ·rename_i hop;rw[hop];rfl
 ·rename_i hop;rw[hop];rfl
 ·rename_i hop;rw[hop];rfl
 ·rename_i hop;rw[hop];rfl
 ·rename_i c hop
  rw[hop]
  unfold ib
  split at h
  ·rename_i hc;simp[hc]
  ·rename_i hc;simp[hc]
  ·rename_i hc;simp[hc]
  ·rename_i hc;simp[hc]
  ·cases h
 ·cases h
theorem LJ{E:Env}{pc:FuncId→List AV→Option AV}{g:dk}{tm:List AV}{r:Ref}{o:Oper}(hh:ib o.op=false){x:AV}{bs:List bN}(h:cB E pc true g tm r o=some (x,bs)) :
 bs=[] ∧∀g' r',cB E pc true g' tm r' o=some (x,bs):=by
 have v : ∀ {y:Option AV},cF y=some (x,bs)→bs=[]:=fun h=>(nK h).2
 unfold cB at h ⊢
 simp only[Bool.not_true,Bool.and_false,cond_false,tx]at h ⊢
 split at h
 ·exact⟨v h,fun _ _=>h⟩
 ·exact⟨v h,fun _ _=>h⟩
 ·refine⟨?_,fun _ _=>h⟩
  unfold B4 at h
  split at h
  ·exact v h
  ·exact v h
  ·cases h
 ·rename_i hop;rw[hop]at hh;simp[ib]at hh
 ·rename_i hop;rw[hop]at hh;simp[ib]at hh
 ·refine⟨?_,fun _ _=>h⟩
  unfold cK at h
  (repeat' split at h)<;>(try simp_all)<;>(try (obtain⟨_,_,_,h⟩:=h;exact h))
 ·rename_i hop;rw[hop]at hh;simp[ib]at hh
 ·rename_i hop;rw[hop]at hh;simp[ib]at hh
 ·refine⟨?_,fun _ _=>h⟩
  unfold jX at h
  (repeat' split at h)<;>(try simp_all)<;>(try (obtain⟨_,_,_,h⟩:=h;exact h))
 ·refine⟨?_,fun _ _=>h⟩
  unfold aE at h
  (repeat' split at h)<;>first | exact v h | (simp_all;done)
 ·exact⟨v h,fun _ _=>h⟩
 ·rename_i hop;rw[hop]at hh;simp[ib]at hh
 ·refine⟨?_,fun _ _=>h⟩
  unfold oL at h
  (repeat' split at h)<;>(try simp_all)<;>(try (obtain⟨_,_,_,h⟩:=h;exact h))
 ·refine⟨?_,fun _ _=>h⟩
  unfold sG at h
  (repeat' split at h)<;>(try simp_all)<;>(try (obtain⟨_,_,_,h⟩:=h;exact h))
 ·rename_i hop;rw[hop]at hh;simp[ib]at hh
 ·rename_i hop;rw[hop]at hh;simp[ib]at hh
 ·rename_i hop;rw[hop]at hh;simp[ib]at hh
 ·rename_i hop;rw[hop]at hh;simp[ib]at hh
 ·refine⟨?_,fun _ _=>h⟩
  unfold aa at h
  (repeat' split at h)<;>(try simp_all)<;>(try (obtain⟨_,_,_,h⟩:=h;exact h))
 ·refine⟨?_,fun _ _=>h⟩
  unfold lC at h
  (repeat' split at h)<;>first | exact v h | (simp_all;done)
 ·rename_i hop;rw[hop]at hh;simp[ib]at hh
 ·refine⟨?_,fun _ _=>h⟩
  unfold nL at h
  (repeat' split at h)<;>first | exact v h | (simp_all;done)
 ·refine⟨?_,fun _ _=>h⟩
  unfold o3 at h
  (repeat' split at h)<;>(try simp_all)<;>(try (obtain⟨_,_,_,h⟩:=h;exact h))
 ·refine⟨?_,fun _ _=>h⟩
  unfold aF at h
  (repeat' split at h)<;>first | exact v h | (simp_all;done)
 ·rename_i c hop
  rw[hop]at hh
  simp only[ib]at hh
  split at h
  ·cases h
  ·rename_i args hargs
   split at h
   ·rename_i hc;rw[hc]at hh;simp at hh
   ·cases h
   ·rename_i b hc
    rw[hc]at hh
    unfold aJ at h
    split at h
    ·have hl:Jx c=false:=by simpa using hh
     unfold Jx at hl
     rw[hl]at h
     simp at h
    ·rename_i hnm
     refine⟨?_,fun _ _=>by simpa [hargs,hc,aJ] using h⟩
     unfold DD at h
     (repeat' split at h)<;>(try simp_all)<;>(try (obtain⟨_,_,_,h⟩:=h;exact h))<;>(try (obtain⟨n,_,h⟩:=Option.bind_eq_some_iff.1 h;simp at h;exact h.2))
    ·exact⟨v h,fun _ _=>by simpa [hargs,hc,aJ] using h⟩
    ·exact⟨v h,fun _ _=>by simpa [hargs,hc,aJ] using h⟩
    ·simp at hh
    ·simp at hh
    ·cases h
 ·cases h
theorem Hw{o:Op}(h:Hy o=true) : ∃c,o = .call c∧c.callee = .builtin .len:=by
 unfold Hy at h
 split at h
 ·rename_i c
  split at h
  ·rename_i hc;exact⟨c,rfl,hc⟩
  ·cases h
 ·cases h
theorem fm{E:Env}{o:Oper}(h:gB E o=true):so E o=true:=by
 unfold so
 rw[Gj h,Bool.true_and]
 cases hl:Hy o.op with
 | false=>simp
 | true =>
  exfalso
  obtain⟨c,ho,hc⟩:=Hw hl
  simp[gB,ho,Sz,hc,wE]at h
theorem sH{E:Env}{pc:FuncId→List AV→Option AV}{g:dk}{tm:List AV}{r:Ref}{o:Oper}(hh:so E o=false){x:AV}{bs:List bN}(h:cB E pc true g tm r o=some (x,bs)) :
 bs=[] ∧∀g' r',cB E pc true g' tm r' o=some (x,bs):=by
 cases hp:ib o.op with
 | false=>exact LJ hp h
 | true =>
  unfold so at hh
  rw[hp,Bool.true_and]at hh
  obtain⟨hs,hl⟩:=Bool.and_eq_true_iff.1 (by simpa using hh:(E.strict o&&Hy o.op)=true)
  obtain⟨c,ho,hc⟩:=Hw hl
  unfold cB at h ⊢
  simp only[ho,hc,hs,Bool.true_or,Bool.and_true]at h ⊢
  split at h
  ·cases h
  ·rename_i args hargs
   unfold aJ at h ⊢
   split at h
   ·simp at h
   ·rename_i y hnm
    refine⟨?_,fun _ _=>?_⟩
    ·unfold DD at h
     (repeat' split at h)<;>(try simp_all)<;>(try (obtain⟨_,_,_,h⟩:=h;exact h))<;>(try (obtain⟨n,_,h⟩:=Option.bind_eq_some_iff.1 h;simp at h;exact h.2))
    ·exact h
   all_goals (first | cases h | simp_all)
end Go.Ab
namespace Go.Ab
def eU(ops:Array Oper)(dep:Nat)(sts:Nat→St)(i:Nat):Ref:=⟨dep,(gl ops i).getD 0,(sts i).hp.gen dep ((gl ops i).getD 0),0⟩
def newAt(E:Env)(pc:FuncId→List AV→Option AV)(ops:Array Oper)(dep:Nat)(sts:Nat→St)(i:Nat):List bN :=
 match ops[i]? with
 | none=>[]
 | some o=>if so E o && !lk E ops i then
  match wanted ops (sts i).tm o with
  | some true=>(match cB E pc true (sts i).hp.get (sts i).tm (eU ops dep sts i) o with
   | some (_,bs)=>bs
   | none=>[])
  | _=>[]
  else []
def gF(g0:dk)(key:Nat→Ref)(new:Nat→List bN)(L:Nat→Bool):Nat→dk
 | 0=>g0
 | i+1=>if L i then oV (gF g0 key new L i) (key i) (new i) else gF g0 key new L i
def mt(key:Nat→Ref)(new:Nat→List bN)(i:Nat)(q:Ref):Prop:=q.d=(key i).d∧q.t=(key i).t∧q.g=(key i).g∧q.k<(new i).length
theorem o4{g0:dk}{key:Nat→Ref}{new:Nat→List bN}{L:Nat→Bool}{q:Ref} : ∀n,(∀i,i<n→L i=true →¬mt key new i q)→gF g0 key new L n q=g0 q:=by
 intro n
 induction n with
 | zero=>intro _;rfl
 | succ n ih =>
  intro h
  simp only[gF]
  split
  ·rename_i hL
   exact(if_neg (h n (Nat.lt_succ_self n) hL)).trans (ih fun i hi=>h i (Nat.lt_succ_of_lt hi))
  ·exact ih fun i hi=>h i (Nat.lt_succ_of_lt hi)
theorem xC{g0:dk}{key:Nat→Ref}{new:Nat→List bN}{L:Nat→Bool}{q:Ref}(huniq : ∀i j,mt key new i q→mt key new j q→i=j){i:Nat}(hm:mt key new i q)(hL:L i=true) :
 ∀n,i<n→gF g0 key new L n q=(new i)[q.k]?:=by
 intro n
 induction n with
 | zero=>intro h;omega
 | succ n ih =>
  intro h
  simp only[gF]
  by_cases hin:i=n
  ·subst hin
   rw[if_pos hL]
   exact if_pos hm
  ·have:gF g0 key new L n q=(new i)[q.k]?:=ih (by omega)
   split
   ·exact(if_neg (fun hn=>hin (huniq i n hm hn))).trans this
   ·exact this
section
variable{E:Env}{pc:FuncId→List AV→Option AV}{tc:sn→List AV→ab→dz}{nt dep:Nat}{ops:Array Oper}{sts:Nat→St}
def TS(ops:Array Oper)(sts:Nat→St)(L:Nat→Bool)(tm:List AV):Prop :=
 ∀t,(∀i,i<ops.size→L i=true→gl ops i=some t→cU tm t=cU (sts (i+1)).tm t)∧((∀i,i<ops.size→L i=true→gl ops i≠some t)→cU tm t=cU (sts 0).tm t)
theorem q7{tm tm':List AV}{dst:Option Tmp}{x:AV}(h:dq nt tm dst x=some tm')(t:Nat):cU tm' t=if dst=some t then x else cU tm t:=by
 unfold dq at h
 split at h
 ·injection h with h;subst h;simp
 ·rename_i d
  obtain⟨_,h⟩:=Option.ite_none_right_eq_some.1 h
  injection h with h
  subst h
  rw[lN]
  by_cases htd:t=d
  ·subst htd;simp
  ·rw[if_neg htd,if_neg (by intro e;injection e with e;exact htd e.symm)]
theorem jh{tm tm' tm1:List AV}{dst:Option Tmp}{x:AV}(h:dq nt tm dst x=some tm') : ∃tm1',dq nt tm1 dst x=some tm1':=by
 unfold dq at h ⊢
 cases dst with
 | none=>exact⟨_,rfl⟩
 | some d =>
  simp only at h ⊢
  obtain⟨hd,_⟩:=Option.ite_none_right_eq_some.1 h
  rw[if_pos hd]
  exact⟨_,rfl⟩
theorem GC{o:Oper}{i:Nat}(hrun:evalOp E pc tc nt dep true ops o (sts i)=some (sts (i+1))) : ∃x,dq nt (sts i).tm o.dst x=some (sts (i+1)).tm:=by
 unfold evalOp at hrun
 split at hrun
 ·cases hrun
 ·simp only[Option.map_eq_some_iff]at hrun
  obtain⟨tm',ht,he⟩:=hrun
  exact⟨_,by rw[←he];exact ht⟩
 ·split at hrun
  ·simp only[Option.map_eq_some_iff]at hrun
   obtain⟨tm',ht,he⟩:=hrun
   exact⟨_,by rw[←he];exact ht⟩
  ·split at hrun
   ·cases hrun
   ·split at hrun
    ·simp only[Option.map_eq_some_iff]at hrun
     obtain⟨tm',ht,he⟩:=hrun
     exact⟨_,by rw[←he];exact ht⟩
    ·cases hrun
section
variable(hR:RegB ops)(hrun : ∀i o,ops[i]?=some o→evalOp E pc tc nt dep true ops o (sts i)=some (sts (i+1)))
include hR hrun
omit hrun in
theorem OK{i j:Nat}{t:Nat}(hi:gl ops i=some t)(hj:gl ops j=some t):i=j:=by
 simp only[gl,Option.bind_eq_some_iff]at hi hj
 obtain⟨oi,h1,h2⟩:=hi
 obtain⟨oj,h3,h4⟩:=hj
 exact hR.distinct i j oi oj t h1 h3 h2 h4
theorem Fh : ∀i,i≤ops.size→TS ops sts (fun j=>decide (j<i)) (sts i).tm:=by
 intro i
 induction i with
 | zero=>intro _ t;exact⟨fun j _ hj=>by simp at hj,fun _=>rfl⟩
 | succ i ih =>
  intro hle t
  have hlt:i<ops.size:=hle
  have ho:=Array.getElem?_eq_getElem hlt
  obtain⟨x,hx⟩:=GC (hrun i _ ho)
  have hd:gl ops i=ops[i].dst:=by simp[gl,ho]
  have hg:=q7 hx t
  obtain⟨h1,h2⟩:=ih (by omega) t
  refine⟨fun j hj hjL hjd=>?_,fun hno=>?_⟩
  ·simp only[decide_eq_true_eq]at hjL
   by_cases hji:j=i
   ·subst hji;rfl
   ·have hne:ops[i].dst≠some t:=by
     intro e
     rw[←hd]at e
     exact hji (OK hR hjd e)
    rw[hg,if_neg hne]
    exact h1 j hj (by simp;omega) hjd
  ·have hne:ops[i].dst≠some t:=by rw[←hd];exact hno i hlt (by simp)
   rw[hg,if_neg hne]
   exact h2 fun j hj hjL=>hno j hj (by simp at hjL ⊢;omega)
theorem B2{L:Nat→Bool}(hc:Closed ops L){i:Nat}{o:Oper}(ho:ops[i]?=some o)(hi:L i=false)(hed : ∀e∈ep o,L e=true){tm:List AV}(hT:TS ops sts L tm){t:Nat}(ht:t∈o.looksAt ops) :
 cU tm t=cU (sts i).tm t:=by
 have hlt:i<ops.size:=(Array.getElem?_eq_some_iff.1 ho).1
 obtain⟨h1,h2⟩:=hT t
 obtain⟨h3,h4⟩:=Fh hR hrun i (by omega) t
 by_cases hex : ∃j,j<ops.size∧L j=true∧gl ops j=some t
 ·obtain⟨j,hj,hjL,hjd⟩:=hex
  have hjd':=hjd
  simp only[gl,Option.bind_eq_some_iff]at hjd'
  obtain⟨oj,hoj,hojd⟩:=hjd'
  have hne:j≠i:=by intro e;rw[e,hi]at hjL;cases hjL
  rcases hR.reads i j o oj t ho hoj hne hojd ht with ⟨hlt',_⟩ | ⟨_,hanc⟩
  ·rw[h1 j hj hjL hjd,h3 j hj (by simpa using hlt') hjd]
  ·have:=qH hc j oj hoj (fun e he=>hc j oj hjL hoj e he) i hanc
   rw[hi]at this
   cases this
 ·rw[h2 fun j hj hjL hjd=>hex ⟨j,hj,hjL,hjd⟩]
  refine(h4 fun j hj hjL hjd=>?_).symm
  simp only[decide_eq_true_eq]at hjL
  have hjd':=hjd
  simp only[gl,Option.bind_eq_some_iff]at hjd'
  obtain⟨oj,hoj,hojd⟩:=hjd'
  rcases hR.reads i j o oj t ho hoj (by omega) hojd ht with ⟨_,hanc⟩ | ⟨hgt,_⟩
  ·exact hex ⟨j,hj,qH hc i o ho hed j hanc,hjd⟩
  ·omega
omit hrun in
theorem pN{L L':Nat→Bool}{i:Nat}{o:Oper}(ho:ops[i]?=some o)(hL' : ∀j,L' j=true↔(L j=true∨j=i))(hi:L i=false){tm tm':List AV}(hT:TS ops sts L tm){x:AV}(hx:dq nt (sts i).tm o.dst x=some (sts (i+1)).tm)
 (hx':dq nt tm o.dst x=some tm'):TS ops sts L' tm':=by
 intro t
 have hlt:i<ops.size:=(Array.getElem?_eq_some_iff.1 ho).1
 have hd:gl ops i=o.dst:=by simp[gl,ho]
 obtain⟨h1,h2⟩:=hT t
 have g1:=q7 hx t
 have g2:=q7 hx' t
 refine⟨fun j hj hjL hjd=>?_,fun hno=>?_⟩
 ·rcases(hL' j).1 hjL with h | h
  ·have hji:j≠i:=by intro e;rw[e,hi]at h;cases h
   have hne:o.dst≠some t:=by rw[←hd];intro e;exact hji (OK hR hjd e)
   rw[g2,if_neg hne]
   exact h1 j hj h hjd
  ·subst h
   rw[hd]at hjd
   rw[g2,if_pos hjd,g1,if_pos hjd]
 ·have hne:o.dst≠some t:=by rw[←hd];exact hno i hlt ((hL' i).2 (.inr rfl))
  rw[g2,if_neg hne]
  exact h2 fun j hj hjL=>hno j hj ((hL' j).2 (.inl hjL))
end
variable(hR:Pb E ops)(hrun : ∀i o,ops[i]?=some o→evalOp E pc tc nt dep true ops o (sts i)=some (sts (i+1)))
include hR hrun
abbrev XI(ops:Array Oper)(dep:Nat)(sts:Nat→St):Nat→Ref:=eU ops dep sts
omit hR hrun in
theorem ph{i:Nat}(h:newAt E pc ops dep sts i≠[]) : ∃o,ops[i]?=some o∧so E o=true∧lk E ops i=false:=by
 unfold newAt at h
 split at h
 ·exact absurd rfl h
 ·rename_i o ho
  split at h
  ·rename_i hc
   simp only[Bool.and_eq_true,Bool.not_eq_true']at hc
   exact⟨o,ho,hc.1,hc.2⟩
  ·exact absurd rfl h
omit hrun in
theorem Fy{q:Ref}(i j:Nat)(h:mt (eU ops dep sts) (newAt E pc ops dep sts) i q)(h':mt (eU ops dep sts) (newAt E pc ops dep sts) j q):i=j:=by
 have ne : ∀ {i},mt (eU ops dep sts) (newAt E pc ops dep sts) i q→newAt E pc ops dep sts i≠[]:=by
  intro i h e
  have:=h.2.2.2
  rw[e]at this
  simp at this
 obtain⟨oi,h1,h2,h3⟩:=ph (ne h)
 obtain⟨oj,h4,h5,h6⟩:=ph (ne h')
 obtain⟨di,hdi⟩:=Option.isSome_iff_exists.1 (hR.site i oi h1 h2 (mw h3 h1 (Nat.le_refl _)))
 obtain⟨dj,hdj⟩:=Option.isSome_iff_exists.1 (hR.site j oj h4 h5 (mw h6 h4 (Nat.le_refl _)))
 have e1:q.t=di:=by have:=h.2.1;simpa [eU,gl,h1,hdi] using this
 have e2:q.t=dj:=by have:=h'.2.1;simpa [eU,gl,h4,hdj] using this
 exact hR.distinct i j oi oj di h1 h4 hdi (by rw[hdj,←e1,←e2])
def RH(E:Env)(ops:Array Oper)(n:Nat):Prop :=∀j o,j<n→ops[j]?=some o→gB E o=false
omit hR hrun in
theorem N5{n:Nat}(hw:RH E ops (n+1)):lk E ops n=false:=by
 cases h:lk E ops n with
 | false=>rfl
 | true =>
  unfold lk at h
  rw[List.any_eq_true]at h
  obtain⟨k,hk,h⟩:=h
  have hk':=List.mem_range.1 hk
  split at h
  ·rename_i o ho;rw[hw k o hk' ho]at h;cases h
  ·cases h
omit hR in
theorem Fj{n:Nat}(hn:n≤ops.size)(hw:RH E ops n):(sts n).hp.get=gF (sts 0).hp.get (eU ops dep sts) (newAt E pc ops dep sts) (fun _=>true) n:=by
 induction n with
 | zero=>rfl
 | succ n ih =>
  have ho:=Array.getElem?_eq_getElem (show n<ops.size from hn)
  have ih':=ih (by omega) (fun j o hj=>hw j o (by omega))
  simp only[gF,if_true]
  rw[←ih']
  have hd:gl ops n=ops[n].dst:=by simp[gl,ho]
  have hk:eU ops dep sts n=⟨dep,ops[n].dst.getD 0,(sts n).hp.gen dep (ops[n].dst.getD 0),0⟩:=by simp[eU,hd]
  rcases lG (hrun n _ ho)with ⟨hwn,tm',ht,he⟩ | ⟨hwn,x,bs,hq,tm',ht,he⟩ | hwk
  ·have:newAt E pc ops dep sts n=[]:=by
    unfold newAt
    rw[ho]
    simp only[hwn]
    split<;>rfl
   rw[this,kR,he]
  ·have hnw:=N5 hw
   rw[he]
   simp only
   rw[ab.ju,←hk]
   congr 1
   unfold newAt
   rw[ho]
   simp only[hwn,hk,hq,hnw,Bool.not_false,Bool.and_true]
   cases hh:so E ops[n] with
   | true=>rfl
   | false =>
    rw[(sH hh hq).1]
    rfl
  ·exact absurd hwk (by rw[hw n _ (Nat.lt_succ_self n) ho];simp)
omit hR in
theorem Gz{n:Nat}(hn:n≤ops.size)(hw:RH E ops n)(d t:Nat):(sts 0).hp.gen d t≤(sts n).hp.gen d t ∧
 ((∀j,j<n→newAt E pc ops dep sts j≠[] →¬(d=dep∧t=(gl ops j).getD 0))→(sts n).hp.gen d t=(sts 0).hp.gen d t) ∧
 ∀j,j<n→newAt E pc ops dep sts j≠[]→d=dep→t=(gl ops j).getD 0→(eU ops dep sts j).g<(sts n).hp.gen d t:=by
 induction n with
 | zero=>exact⟨Nat.le_refl _,fun _=>rfl,fun j hj=>by omega⟩
 | succ n ih =>
  have ho:=Array.getElem?_eq_getElem (show n<ops.size from hn)
  obtain⟨i1,i2,i3⟩:=ih (by omega) (fun j o hj=>hw j o (by omega))
  have hd:gl ops n=ops[n].dst:=by simp[gl,ho]
  have hk:eU ops dep sts n=⟨dep,ops[n].dst.getD 0,(sts n).hp.gen dep (ops[n].dst.getD 0),0⟩:=by simp[eU,hd]
  have same:(sts (n+1)).hp=(sts n).hp→newAt E pc ops dep sts n=[]→(sts 0).hp.gen d t≤(sts (n+1)).hp.gen d t ∧
   ((∀j,j<n+1→newAt E pc ops dep sts j≠[] →¬(d=dep∧t=(gl ops j).getD 0))→(sts (n+1)).hp.gen d t=(sts 0).hp.gen d t) ∧
   ∀j,j<n+1→newAt E pc ops dep sts j≠[]→d=dep→t=(gl ops j).getD 0→(eU ops dep sts j).g<(sts (n+1)).hp.gen d t:=by
   intro e1 e2
   rw[e1]
   refine⟨i1,fun h=>i2 fun j hj=>h j (by omega),fun j hj hne=>?_⟩
   have:j≠n:=by intro e;rw[e]at hne;exact hne e2
   exact i3 j (by omega) hne
  rcases lG (hrun n _ ho)with ⟨hwn,tm',ht,he⟩ | ⟨hwn,x,bs,hq,tm',ht,he⟩ | hwk
  ·refine same (by rw[he]) ?_
   unfold newAt
   rw[ho]
   simp only[hwn]
   split<;>rfl
  ·have hnw:=N5 hw
   have hbs:newAt E pc ops dep sts n=bs:=by
    unfold newAt
    rw[ho]
    simp only[hwn,hk,hq,hnw,Bool.not_false,Bool.and_true]
    cases hh:so E ops[n] with
    | true=>rfl
    | false=>rw[(sH hh hq).1];rfl
   by_cases hb:bs=[]
   ·refine same ?_ (by rw[hbs,hb])
    rw[he,hb]
    rfl
   ·rw[he]
    simp only
    rw[ab.ja]
    simp only[ne_eq,hb,not_false_eq_true,and_true]
    by_cases hdt:d=dep∧t=ops[n].dst.getD 0
    ·rw[if_pos hdt]
     obtain⟨rfl,rfl⟩:=hdt
     refine⟨by omega,fun h=>?_,fun j hj hne h1 h2=>?_⟩
     ·exact absurd ⟨rfl,by rw[hd]⟩ (h n (Nat.lt_succ_self n) (by rw[hbs];exact hb))
     ·by_cases hjn:j=n
      ·rw[hjn,hk];exact Nat.lt_succ_self _
      ·have:=i3 j (by omega) hne rfl h2
       omega
    ·rw[if_neg hdt]
     refine⟨i1,fun h=>i2 fun j hj=>h j (by omega),fun j hj hne h1 h2=>?_⟩
     by_cases hjn:j=n
     ·subst hjn
      exact absurd ⟨h1,by rw[h2,hd]⟩ hdt
     ·exact i3 j (by omega) hne h1 h2
  ·exact absurd hwk (by rw[hw n _ (Nat.lt_succ_self n) ho];simp)
theorem EO{ι:Map}(hD:pB ι (sts 0).hp){i:Nat}{o:Oper}(ho:ops[i]?=some o)(hh:so E o=true)(hnw:gB E o=false)(hw:RH E ops i)(k:Nat):ι { eU ops dep sts i with k:=k}=none:=by
 have hi:i<ops.size:=(Array.getElem?_eq_some_iff.1 ho).1
 obtain⟨d,hd⟩:=Option.isSome_iff_exists.1 (hR.site i o ho hh hnw)
 have hds:gl ops i=some d:=by simp[gl,ho,hd]
 obtain⟨_,h2,_⟩:=Gz (pc:=pc) (tc:=tc) (nt:=nt) (dep:=dep) hrun (Nat.le_of_lt hi) hw dep d
 have hg:(sts i).hp.gen dep d=(sts 0).hp.gen dep d:=h2 fun j hj hne hc=>by
  obtain⟨oj,hoj,hhj,hnj⟩:=ph hne
  obtain⟨dj,hdj⟩:=Option.isSome_iff_exists.1 (hR.site j oj hoj hhj (mw hnj hoj (Nat.le_refl _)))
  have:d=dj:=by have:=hc.2;simpa [gl,hoj,hdj] using this
  exact absurd (hR.distinct i j o oj d ho hoj hd (by rw[hdj,this])) (by omega)
 have hk:eU ops dep sts i=⟨dep,d,(sts 0).hp.gen dep d,0⟩:=by simp[eU,hds,hg]
 rw[hk]
 exact hD.fresh dep d k
end
end Go.Ab
namespace Go.Ab
theorem vq{ops:Array Oper}{o:Oper}{tm tm':List AV}(h : ∀t∈o.looksAt ops,cU tm t=cU tm' t):zo tm tm' o.op.operands.toList:=by
 intro x hx
 cases x with
 | tmp t =>
  simp only[aZ]
  rw[h t]
  unfold Oper.looksAt
  exact List.mem_append_left _ (List.mem_filterMap.2 ⟨_,hx,rfl⟩)
 | _=>rfl
theorem ti{ops:Array Oper}{o:Oper}{tm tm':List AV}(h : ∀t∈o.looksAt ops,cU tm t=cU tm' t):wanted ops tm o=wanted ops tm' o:=by
 unfold wanted
 cases hg:o.guard with
 | none=>rfl
 | some p =>
  obtain⟨j,b⟩:=p
  simp only
  cases hd:(ops[j]?).bind (·.dst) with
  | none=>rfl
  | some t =>
   simp only
   rw[h t]
   unfold Oper.looksAt
   rw[hg]
   simp[hd]
theorem AJ{p p':Nat→Bool}{i:Nat}(h1 : ∀j,p' j=true→p j=true)(h2:p i=true)(h3:p' i=false) : ∀l:List Nat,i∈l→l.countP p'<l.countP p:=by
 intro l hi
 have mono : ∀l:List Nat,l.countP p'≤l.countP p:=fun l=>List.countP_mono_left fun x _=>h1 x
 induction l with
 | nil=>cases hi
 | cons a l ih =>
  simp only[List.countP_cons]
  by_cases ha:a=i
  ·subst ha
   have:=mono l
   rw[h2,h3]
   simp
   omega
  ·have:=ih (by simpa [Ne.symm ha] using hi)
   have h4:(if p' a=true then 1 else 0)≤(if p a=true then 1 else 0):=by
    by_cases hp:p' a=true
    ·rw[if_pos hp,if_pos (h1 a hp)];exact Nat.le_refl _
    ·rw[if_neg hp];exact Nat.zero_le _
   omega
theorem EW{E:Env}{pc:FuncId→List AV→Option AV}{tc:sn→List AV→ab→dz}{nt dep:Nat}{ops:Array Oper}{o:Oper}{st st':St}{tm1:List AV}(h : ∀t∈o.looksAt ops,cU tm1 t=cU st.tm t)
 (hev:evalOp E pc tc nt dep true ops o st=some st') : ∃x tm1',dq nt st.tm o.dst x=some st'.tm∧dq nt tm1 o.dst x=some tm1'∧evalOp E pc tc nt dep true ops o ⟨tm1,st.hp⟩=some ⟨tm1',st'.hp⟩:=by
 have hag:=vq h
 have hwd:=ti h
 unfold evalOp at hev ⊢
 simp only
 rw[hwd,pt hag,OG hag]
 have fin : ∀ {x:AV} {H:ab},(dq nt st.tm o.dst x).map (fun tm=>(⟨tm,H⟩:St))=some st' →∃x' tm1',dq nt st.tm o.dst x'=some st'.tm∧dq nt tm1 o.dst x'=some tm1'∧(dq nt tm1 o.dst x).map (fun tm=>(⟨tm,H⟩:St))=some ⟨tm1',st'.hp⟩:=by
  intro x H hm
  obtain⟨tm',ht,rfl⟩:=Option.map_eq_some_iff.1 hm
  obtain⟨tm1',h1⟩:=jh (tm1:=tm1) ht
  exact⟨x,tm1',ht,h1,by rw[h1];rfl⟩
 revert hev
 generalize wanted ops st.tm o=W
 generalize cB E pc true st.hp.get st.tm ⟨dep,o.dst.getD 0,st.hp.gen dep (o.dst.getD 0),0⟩ o=X
 generalize evalW E pc tc st.hp st.tm ⟨dep,o.dst.getD 0,st.hp.gen dep (o.dst.getD 0),0⟩ o=Y
 intro hev
 rcases W with _ | ⟨_ | _⟩
 ·cases hev
 ·exact fin hev
 ·rcases X with _ | ⟨x,bs⟩
  ·simp only at hev ⊢
   by_cases hk:(true && !gB E o)=true
   ·rw[if_pos hk]at hev;cases hev
   ·rw[if_neg hk]at hev ⊢
    rcases Y with _ | ⟨x,H⟩
    ·cases hev
    ·exact fin hev
  ·exact fin hev
section
variable{E:Env}{pc:FuncId→List AV→Option AV}{tc:sn→List AV→ab→dz}{nt dep:Nat}{ops:Array Oper}{sts:Nat→St}
variable(hR:Pb E ops)(hrun : ∀i o,ops[i]?=some o→evalOp E pc tc nt dep true ops o (sts i)=some (sts (i+1)))
abbrev gL(E:Env)(pc:FuncId→List AV→Option AV)(ops:Array Oper)(dep:Nat)(sts:Nat→St)(L:Nat→Bool)(n:Nat):dk:=gF (sts 0).hp.get (eU ops dep sts) (newAt E pc ops dep sts) L n
structure Ph (E:Env) (pc:FuncId→List AV→Option AV) (ops:Array Oper) (dep:Nat) (sts:Nat→St) (M:Mem) (ι:Map) (w:World) (L:Nat→Bool) (M1:Mem) (ι1:Map) (w1:World):Prop where
 quiet : ∀i o,L i=true→ops[i]?=some o→so E o=true→lk E ops i=false
 sim:fh M1 ι1 (gL E pc ops dep sts L ops.size) w1
 fwd:pA M ι (sts 0).hp.get w M1 ι1 (gL E pc ops dep sts L ops.size) w1
 dom : ∀q,ι q=none→(∀i,i<ops.size→L i=true →¬mt (eU ops dep sts) (newAt E pc ops dep sts) i q)→ι1 q=none
structure Late (E:Env) (ops:Array Oper) (sts:Nat→St) (M:Mem) (ι:Map) (w:World) (L:Nat→Bool) (M1:Mem) (ι1:Map) (w1:World) (k:Nat):Prop where
 le:k≤ops.size
 wrote : ∃j o,j<k∧ops[j]?=some o∧gB E o=true
 upto : ∀i o,ops[i]?=some o→so E o=true→(L i=true↔i<k)
 sim:fh M1 ι1 (sts k).hp.get w1
 dom:pB ι1 (sts k).hp
 fwd:pA M ι (sts 0).hp.get w M1 ι1 (sts k).hp.get w1
structure Inv (E:Env) (pc:FuncId→List AV→Option AV) (nt:Nat) (ops:Array Oper) (dep:Nat) (sts:Nat→St) (M:Mem) (ι:Map) (w:World) (ds:List Deferred) (L:Nat→Bool) (a1:Act) (w1:World):Prop where
 closed:Closed ops L
 defers:a1.defers=ds
 at_ : ∃M1 ι1 tm1,TS ops sts L tm1∧TR M1 ι1 tm1 a1∧a1.tmps.size=nt∧(Ph E pc ops dep sts M ι w L M1 ι1 w1 ∨∃k,Late E ops sts M ι w L M1 ι1 w1 k)
theorem Closed.next{L L':Nat→Bool}{i:Nat}{o:Oper}(hc:Closed ops L)(ho:ops[i]?=some o)(hed : ∀e∈ep o,L e=true)(hL' : ∀j,L' j=true↔(L j=true∨j=i)):Closed ops L':=by
 intro j oj hj hoj e he
 rcases(hL' j).1 hj with h | h
 ·exact(hL' e).2 (.inl (hc j oj h hoj e he))
 ·subst h
  rw[ho]at hoj
  injection hoj with hoj
  subst hoj
  exact(hL' e).2 (.inl (hed e he))
theorem L2(r:Ref)(H:ab):keyed r 0 [] H=H:=rfl
include hrun in
theorem HI{k:Nat} : ∀n,k≤n→n≤ops.size→(∀j o,k≤j→j<n→ops[j]?=some o→so E o=false)→(sts n).hp=(sts k).hp:=by
 intro n
 induction n with
 | zero=>intro h _ _;rw[Nat.le_zero.1 h]
 | succ n ih =>
  intro hk hn h
  rcases Nat.lt_or_ge n k with hlt | hge
  ·rw[show k=n+1 by omega]
  ·have ho:=Array.getElem?_eq_getElem (show n<ops.size from hn)
   have hh:=h n _ hge (Nat.lt_succ_self n) ho
   rw[←ih hge (by omega) fun j o a b=>h j o a (by omega)]
   rcases lG (hrun n _ ho)with ⟨_,tm',ht,he⟩ | ⟨_,x,bs,hq,tm',ht,he⟩ | hwk
   ·rw[he]
   ·rw[he,(sH hh hq).1];rfl
   ·rw[fm hwk]at hh;cases hh
theorem N4{i:Nat}{o:Oper}(ho:ops[i]?=some o)(hh:so E o=true)(hnw:lk E ops i=false):RH E ops i :=
 fun j oj hj hoj=>mw hnw hoj (Nat.le_of_lt hj)
include hR hrun in
theorem N9{ι:Map}(hD:pB ι (sts 0).hp){i:Nat}{q:Ref}(hm:mt (eU ops dep sts) (newAt E pc ops dep sts) i q):ι q=none:=by
 have hne:newAt E pc ops dep sts i≠[]:=by
  intro e
  have:=hm.2.2.2
  rw[e]at this
  simp at this
 obtain⟨o,ho,hh,hnw⟩:=ph hne
 have:=EO (pc:=pc) (tc:=tc) (nt:=nt) hR hrun hD ho hh (mw hnw ho (Nat.le_refl _)) (N4 ho hh hnw) q.k
 rwa [show({ eU ops dep sts i with k:=q.k}:Ref)=q by
  obtain⟨h1,h2,h3,h4⟩:=hm
  cases q
  simp_all]at this
include hR in
theorem Oz{L L':Nat→Bool}{i:Nat}(hi:i<ops.size)(hL' : ∀j,L' j=true↔(L j=true∨j=i)):gL E pc ops dep sts L' ops.size=oV (gL E pc ops dep sts L ops.size) (eU ops dep sts i) (newAt E pc ops dep sts i):=by
 funext q
 unfold oV
 have uniq : ∀i j,mt (eU ops dep sts) (newAt E pc ops dep sts) i q→mt (eU ops dep sts) (newAt E pc ops dep sts) j q→i=j:=fun i j=>Fy hR i j
 split
 ·rename_i hm
  exact xC uniq (i:=i) hm ((hL' i).2 (.inr rfl)) ops.size hi
 ·rename_i hm
  by_cases hex : ∃j,j<ops.size∧L j=true∧mt (eU ops dep sts) (newAt E pc ops dep sts) j q
  ·obtain⟨j,hj,hjL,hjm⟩:=hex
   rw[gL,xC uniq hjm ((hL' j).2 (.inl hjL)) _ hj,gL,xC uniq hjm hjL _ hj]
  ·rw[gL,o4,gL,o4]
   ·intro j hj hjL hjm
    exact hex ⟨j,hj,hjL,hjm⟩
   ·intro j hj hjL hjm
    rcases(hL' j).1 hjL with h | h
    ·exact hex ⟨j,hj,h,hjm⟩
    ·subst h;exact hm hjm
include hR in
theorem KK{L:Nat→Bool}{n:Nat}(hn:n≤ops.size)(h : ∀j o,j<ops.size→ops[j]?=some o→so E o=true→lk E ops j=false→(L j=true↔j<n)):gL E pc ops dep sts (fun _=>true) n=gL E pc ops dep sts L ops.size:=by
 funext q
 have uniq : ∀i j,mt (eU ops dep sts) (newAt E pc ops dep sts) i q→mt (eU ops dep sts) (newAt E pc ops dep sts) j q→i=j:=fun i j=>Fy hR i j
 have made : ∀ {j},mt (eU ops dep sts) (newAt E pc ops dep sts) j q →∃o,ops[j]?=some o∧so E o=true∧lk E ops j=false:=by
  intro j hm
  refine ph (pc:=pc) (dep:=dep) (sts:=sts) ?_
  intro e
  have:=hm.2.2.2
  rw[e]at this
  simp at this
 by_cases hex : ∃j,mt (eU ops dep sts) (newAt E pc ops dep sts) j q
 ·obtain⟨j,hjm⟩:=hex
  obtain⟨o,ho,hh,hnw⟩:=made hjm
  have hj:j<ops.size:=(Array.getElem?_eq_some_iff.1 ho).1
  have hiff:=h j o hj ho hh hnw
  by_cases hjn:j<n
  ·rw[gL,xC uniq hjm rfl _ hjn,gL,xC uniq hjm (hiff.2 hjn) _ hj]
  ·rw[gL,o4,gL,o4]
   ·intro i hi hiL him
    have:=uniq i j him hjm
    subst this
    exact hjn (hiff.1 hiL)
   ·intro i hi hiL him
    have:=uniq i j him hjm
    omega
 ·rw[gL,o4 _ (fun i _ _ him=>hex ⟨i,him⟩),gL,o4 _ (fun i _ _ him=>hex ⟨i,him⟩)]
include hrun in
theorem Ib{M:Mem}{ι ι1:Map}(hD:pB ι (sts 0).hp){L:Nat→Bool}{n:Nat}(hn:n≤ops.size)(hw:RH E ops n)
 (hdom : ∀q,ι q=none→(∀i,i<ops.size→L i=true →¬mt (eU ops dep sts) (newAt E pc ops dep sts) i q)→ι1 q=none)
 (hmap : ∀q l,ι q=some l→ι1 q=some l) (h : ∀j o,j<ops.size→ops[j]?=some o→so E o=true→lk E ops j=false→L j=true→j<n):pB ι1 (sts n).hp:=by
 intro q l hq
 obtain⟨h1,h2,h3⟩:=Gz (pc:=pc) (tc:=tc) (nt:=nt) (dep:=dep) hrun hn hw q.d q.t
 cases hι:ι q with
 | some l0=>exact Nat.lt_of_lt_of_le (hD q l0 hι) h1
 | none =>
  by_cases hex : ∃i,i<ops.size∧L i=true∧mt (eU ops dep sts) (newAt E pc ops dep sts) i q
  ·obtain⟨i,hi,hiL,him⟩:=hex
   have hne:newAt E pc ops dep sts i≠[]:=by
    intro e
    have:=him.2.2.2
    rw[e]at this
    simp at this
   obtain⟨o,ho,hh,hnw⟩:=ph hne
   have:=h3 i (h i o hi ho hh hnw hiL) hne him.1 him.2.1
   rw[him.2.2.1]
   exact this
  ·rw[hdom q hι fun i hi hiL him=>hex ⟨i,hi,hiL,him⟩]at hq
   cases hq
variable{M:Mem}{ι:Map}{w:World}{ds:List Deferred}
include hR hrun in
theorem Ou(hpc : ∀f xs y,pc f xs=some y→iL E.P f xs y)(htc : ∀f xs H y H',tc f xs H=some (y,H')→nc E.P f xs H y H'){ro:Option Nat}{Q:Exit→Act→World→Prop}
 (hS0:fh M ι (sts 0).hp.get w) (hD0:pB ι (sts 0).hp) {L L':Nat→Bool} {i:Nat} {o:Oper} (ho:ops[i]?=some o) (hi:L i=false) (hed : ∀e∈ep o,L e=true)
 (hL' : ∀j,L' j=true↔(L j=true∨j=i)) {a1:Act} {w1:World} (hI:Inv E pc nt ops dep sts M ι w ds L a1 w1) {K:Act→World→Prop} (hK : ∀a' w',Inv E pc nt ops dep sts M ι w ds L' a' w'→K a' w') :
 if Region.wanted o (yielded ops a1.tmps) then o.wpIn (FW ro) 0 E.P a1 w1 K Q else K (a1.put o.dst undef) w1:=by
 obtain⟨hc,hds,M1,ι1,tm1,hTS,hTR,hnt,hcase⟩:=hI
 have hlt:i<ops.size:=(Array.getElem?_eq_some_iff.1 ho).1
 have hc':Closed ops L':=Closed.next hc ho hed hL'
 have hlook : ∀t∈o.looksAt ops,cU tm1 t=cU (sts i).tm t:=fun t ht=>B2 hR.toRegB hrun hc ho hi hed hTS ht
 have hag:=vq hlook
 have hwd:=ti hlook
 have step:=hrun i o ho
 have anc:=qH hc i o ho hed
 cases hb:(so E o&&lk E ops i) with
 | true =>
  obtain⟨hh,hwk⟩:=Bool.and_eq_true_iff.1 hb
  have before : ∀j oj,j<i→ops[j]?=some oj→so E oj=true→L j=true:=fun j oj hj hoj hhj=>anc j (hR.writes i j o oj ho hoj hj hh hhj hwk)
  have hO:qU M1 ι1 ⟨tm1,(sts i).hp⟩ nt a1 w1∧pA M ι (sts 0).hp.get w M1 ι1 (sts i).hp.get w1 ∧∀j oj,ops[j]?=some oj→so E oj=true→(L j=true→j<i):=by
   rcases hcase with hE | ⟨k,hE⟩
   ·have hw:RH E ops i:=by
     intro j oj hj hoj
     cases hw:gB E oj with
     | false=>rfl
     | true=>have:=mw (hE.quiet j oj (before j oj hj hoj (fm hw)) hoj (fm hw)) hoj (Nat.le_refl _);rw[hw]at this;cases this
    have hle : ∀j oj,ops[j]?=some oj→so E oj=true→(L j=true→j<i):=by
     intro j oj hoj hhj hjL
     rcases Nat.lt_trichotomy j i with h | h | h
     ·exact h
     ·subst h;rw[hi]at hjL;cases hjL
     ·have:=QL hwk (Nat.le_of_lt h)
      rw[hE.quiet j oj hjL hoj hhj]at this
      cases this
    have hg:(sts i).hp.get=gL E pc ops dep sts L ops.size:=by
     rw[Fj (pc:=pc) hrun (Nat.le_of_lt hlt) hw]
     exact KK hR (Nat.le_of_lt hlt) fun j oj hj hoj hhj _=>⟨hle j oj hoj hhj,fun hji=>before j oj hji hoj hhj⟩
    refine⟨⟨by rw[hg];exact hE.sim,?_,hTR,hnt⟩,by rw[hg];exact hE.fwd,hle⟩
    exact Ib (M:=M) (tc:=tc) (nt:=nt) hrun hD0 (Nat.le_of_lt hlt) hw hE.dom hE.fwd.map fun j oj _ hoj hhj _=>hle j oj hoj hhj
   ·have hki:k≤i:=by
     rcases Nat.lt_or_ge i k with h | h
     ·rw[(hE.upto i o ho hh).2 h]at hi;cases hi
     ·exact h
    have hst:(sts i).hp=(sts k).hp:=HI hrun i hki (Nat.le_of_lt hlt) fun j oj hkj hji hoj=>by
     cases hhj:so E oj with
     | false=>rfl
     | true=>have:=(hE.upto j oj hoj hhj).1 (before j oj hji hoj hhj);omega
    refine⟨⟨by rw[hst];exact hE.sim,by rw[hst];exact hE.dom,hTR,hnt⟩,by rw[hst];exact hE.fwd,fun j oj hoj hhj hjL=>?_⟩
    have:=(hE.upto j oj hoj hhj).1 hjL
    omega
  obtain⟨hO,hF,hle⟩:=hO
  obtain⟨x,tm1',hx,hx',hev⟩:=EW hlook step
  refine z9 (E:=E) (Q:=Q) hO hpc htc (fun h=>by cases h) (.inl rfl) hev fun a' w' ⟨⟨M',ι',hO',hF'⟩,hd'⟩=>hK a' w' ⟨hc',hd'.trans hds,M',ι',tm1',?_,hO'.tr,hO'.nt,.inr ⟨i+1,?_⟩⟩
  ·exact pN hR.toRegB ho hL' hi hTS hx hx'
  ·obtain⟨j0,o0,hj0,ho0,hw0⟩:=Xv hwk
   refine⟨hlt,⟨j0,o0,by omega,ho0,hw0⟩,fun j oj hoj hhj=>⟨fun hj=>?_,fun hj=>?_⟩,hO'.sim,hO'.dom,hF.trans hF'⟩
   ·rcases(hL' j).1 hj with h | h
    ·exact Nat.lt_succ_of_lt (hle j oj hoj hhj h)
    ·omega
   ·rcases Nat.lt_or_ge j i with h | h
    ·exact(hL' j).2 (.inl (before j oj h hoj hhj))
    ·exact(hL' j).2 (.inr (by omega))
 | false =>
  have hnl:so E o=true→lk E ops i=false:=by
   intro hh
   rw[hh,Bool.true_and]at hb
   exact hb
  have hk:eU ops dep sts i=⟨dep,o.dst.getD 0,(sts i).hp.gen dep (o.dst.getD 0),0⟩:=by simp[eU,gl,ho]
  have still : ∀(u:Value)(x:AV)(tm1':List AV)(w':World)(M':Mem)(ι':Map),newAt E pc ops dep sts i=[]→(hcase:(Ph E pc ops dep sts M ι w L M1 ι1 w1→Ph E pc ops dep sts M ι w L M' ι' w') ∧∀k,Late E ops sts M ι w L M1 ι1 w1 k→Late E ops sts M ι w L M' ι' w' k) →
   (so E o=false ∨∀k,¬Late E ops sts M ι w L M1 ι1 w1 k)→dq nt (sts i).tm o.dst x=some (sts (i+1)).tm→dq nt tm1 o.dst x=some tm1'→TR M' ι' tm1' (a1.put o.dst u)→(a1.put o.dst u).tmps.size=nt →
   Inv E pc nt ops dep sts M ι w ds L' (a1.put o.dst u) w':=by
   intro u x tm1' w' M' ι' hnil hcs hor hx hx' htr hn
   refine⟨hc',(put_defers _ _ _).trans hds,M',ι',tm1',pN hR.toRegB ho hL' hi hTS hx hx',htr,hn,?_⟩
   rcases hcase with hE | ⟨k,hE⟩
   ·have hE':=hcs.1 hE
    have hg:gL E pc ops dep sts L' ops.size=gL E pc ops dep sts L ops.size:=by rw[Oz hR hlt hL',hnil,kR]
    refine .inl ⟨fun j oj hj hoj hhj=>?_,by rw[hg];exact hE'.sim,by rw[hg];exact hE'.fwd,fun q hq hno=>hE'.dom q hq fun j hj hjL=>hno j hj ((hL' j).2 (.inl hjL))⟩
    rcases(hL' j).1 hj with h | h
    ·exact hE'.quiet j oj h hoj hhj
    ·subst h;rw[ho]at hoj;injection hoj with hoj;rw[←hoj]at hhj;exact hnl hhj
   ·have hE':=hcs.2 k hE
    refine .inr ⟨k,hE'.le,hE'.wrote,fun j oj hoj hhj=>?_,hE'.sim,hE'.dom,hE'.fwd⟩
    rcases hor with hor | hor
    ·rw[←hE'.upto j oj hoj hhj,hL' j]
     constructor
     ·rintro(h | h)
      ·exact h
      ·subst h;rw[ho]at hoj;injection hoj with hoj;rw[←hoj,hor]at hhj;cases hhj
     ·exact .inl
    ·exact absurd hE (hor k)
  have noLate:so E o=true →∀k,¬Late E ops sts M ι w L M1 ι1 w1 k:=by
   intro hh k hE
   obtain⟨j,oj,hjk,hoj,hwj⟩:=hE.wrote
   rcases Nat.lt_or_ge i k with h | h
   ·rw[(hE.upto i o ho hh).2 h]at hi;cases hi
   ·have:=KB hoj hwj (show j≤i by omega)
    rw[hnl hh]at this;cases this
  have hor:so E o=false ∨∀k,¬Late E ops sts M ι w L M1 ι1 w1 k:=by
   cases hh:so E o with
   | false=>exact .inl rfl
   | true=>exact .inr (noLate hh)
  rcases lG step with ⟨hw,tm',ht,he⟩ | ⟨hw,x,bs,hq,tm',ht,he⟩ | hwk'
  ·rw[←hwd]at hw
   rw[iZ hTR hw]
   simp only[Bool.false_eq_true,if_false]
   have hx:dq nt (sts i).tm o.dst AV.undef=some (sts (i+1)).tm:=by rw[he];exact ht
   obtain⟨tm1',hx'⟩:=jh (tm1:=tm1) hx
   obtain⟨h1,h2⟩:=hTR.put hnt hx' (u:=undef) (.v rfl)
   refine hK _ _ (still undef AV.undef tm1' w1 M1 ι1 ?_ ⟨id,fun _=>id⟩ hor hx hx' h1 h2)
   unfold newAt
   rw[ho]
   rw[hwd]at hw
   simp only[hw]
   split<;>rfl
  ·have hw':=hw
   rw[←hwd]at hw
   rw[iZ hTR hw]
   simp only[if_true]
   have hx:dq nt (sts i).tm o.dst x=some (sts (i+1)).tm:=by rw[he];exact ht
   obtain⟨tm1',hx'⟩:=jh (tm1:=tm1) hx
   cases hh:so E o with
   | false =>
    obtain⟨hbs,hall⟩:=sH hh hq
    subst hbs
    have hnil:newAt E pc ops dep sts i=[]:=by
     unfold newAt
     rw[ho]
     simp[hh]
    rcases hcase with hE | ⟨k,hE⟩
    ·have hfree : ∀k,ι1 { (⟨dep+1,0,(sts 0).hp.gen (dep+1) 0,0⟩:Ref)with k:=k}=none:=fun k=>hE.dom _ (hD0.fresh _ _ k) fun j _ _ hm=>by
      have:=hm.1
      simp only[eU]at this
      omega
     have hq':cB E pc true (gL E pc ops dep sts L ops.size) tm1 ⟨dep+1,0,(sts 0).hp.gen (dep+1) 0,0⟩ o=some (x,[]):=by rw[pt hag];exact hall _ _
     refine sO (E:=E) (o:=o) hE.sim hTR rfl hfree hpc (fun h=>by cases h) hq' ro K Q fun u w' ⟨M',ι',h1,h2,h3,h4⟩=>hK _ _ ?_
     rw[kR]at h2 h3
     obtain⟨h5,h6⟩:=(hTR.mono h3.mem h3.map).put hnt hx' h1
     refine still u x tm1' w' M' ι' hnil ⟨fun _=>⟨hE.quiet,h2,hE.fwd.trans h3,fun q hq hno=>h4 q (hE.dom q hq hno) (fun k hk=>by simp at hk)⟩,fun k hl=>?_⟩ (.inl hh) hx hx' h5 h6
     obtain⟨j,oj,hjk,hoj,hwj⟩:=hl.wrote
     have:=mw (hE.quiet j oj ((hl.upto j oj hoj (fm hwj)).2 hjk) hoj (fm hwj)) hoj (Nat.le_refl _)
     rw[hwj]at this;cases this
    ·have hq':cB E pc true (sts k).hp.get tm1 ⟨dep,0,(sts k).hp.gen dep 0,0⟩ o=some (x,[]):=by rw[pt hag];exact hall _ _
     refine sO (E:=E) (o:=o) hE.sim hTR rfl (fun k'=>hE.dom.fresh dep 0 k') hpc (fun h=>by cases h) hq' ro K Q fun u w' hout=>hK _ _ ?_
     obtain⟨M',ι',h1,h2,h3,h4⟩:=hout.YP hE.dom
     rw[L2]at h2 h3 h4
     obtain⟨h5,h6⟩:=(hTR.mono h3.mem h3.map).put hnt hx' h1
     refine⟨hc',(put_defers _ _ _).trans hds,M',ι',tm1',pN hR.toRegB ho hL' hi hTS hx hx',h5,h6,.inr ⟨k,hE.le,hE.wrote,fun j oj hoj hhj=>?_,h2,h4,hE.fwd.trans h3⟩⟩
     rw[←hE.upto j oj hoj hhj,hL' j]
     constructor
     ·rintro(h | h)
      ·exact h
      ·subst h;rw[ho]at hoj;injection hoj with hoj;rw[←hoj,hh]at hhj;cases hhj
     ·exact .inl
   | true =>
    rcases hcase with hE | ⟨k,hE⟩
    ·have hlk:=hnl hh
     have hwk:=mw hlk ho (Nat.le_refl _)
     have hnw:=N4 ho hh hlk
     have hbs:newAt E pc ops dep sts i=bs:=by
      unfold newAt
      rw[ho]
      simp only[hw',hk,hq,hh,hlk,Bool.not_false,Bool.and_true,if_true]
     rw[←hk,Fj (pc:=pc) hrun (Nat.le_of_lt hlt) hnw]at hq
     have hloc:zy ι1 (gF (sts 0).hp.get (eU ops dep sts) (newAt E pc ops dep sts) (fun _=>true) i) (gL E pc ops dep sts L ops.size):=by
      intro q b hg hne
      have uniq : ∀i j,mt (eU ops dep sts) (newAt E pc ops dep sts) i q→mt (eU ops dep sts) (newAt E pc ops dep sts) j q→i=j:=fun i j=>Fy hR i j
      by_cases hex : ∃j,mt (eU ops dep sts) (newAt E pc ops dep sts) j q
      ·obtain⟨j,hjm⟩:=hex
       have hf:ι q=none:=N9 (tc:=tc) (nt:=nt) hR hrun hD0 hjm
       have hjs:j<ops.size:=by
        have:newAt E pc ops dep sts j≠[]:=by
         intro e
         have:=hjm.2.2.2
         rw[e]at this
         simp at this
        obtain⟨oj,hoj,_⟩:=ph this
        exact(Array.getElem?_eq_some_iff.1 hoj).1
       cases hjL:L j with
       | false=>exact absurd (hE.dom q hf fun i' _ hL him=>by rw[uniq i' j him hjm,hjL]at hL;cases hL) hne
       | true =>
        by_cases hji:j<i
        ·rw[xC uniq hjm rfl _ hji]at hg
         rw[gL,xC uniq hjm hjL _ hjs];exact hg
        ·rw[o4 _ (fun i' hi' _ him=>by have:=uniq i' j him hjm;omega),hS0.QI hf]at hg
         cases hg
      ·rw[o4 _ (fun i' _ _ him=>hex ⟨i',him⟩)]at hg
       rw[gL,o4 _ (fun i' _ _ him=>hex ⟨i',him⟩)]
       exact hg
     rw[←pt hag]at hq
     have hq':=z8 hE.sim hloc hTR hq
     have hfree : ∀k,ι1 { eU ops dep sts i with k:=k}=none:=fun k=>hE.dom _ (EO (pc:=pc) (tc:=tc) (nt:=nt) hR hrun hD0 ho hh hwk hnw k) fun j _ hjL hm=>by
      have hne:newAt E pc ops dep sts j≠[]:=by
       intro e
       have:=hm.2.2.2
       rw[e]at this
       simp at this
      obtain⟨oj,hoj,hhj,hnj⟩:=ph hne
      obtain⟨dj,hdj⟩:=Option.isSome_iff_exists.1 (hR.site j oj hoj hhj (mw hnj hoj (Nat.le_refl _)))
      obtain⟨di,hdi⟩:=Option.isSome_iff_exists.1 (hR.site i o ho hh hwk)
      have:di=dj:=by have:=hm.2.1;simpa [eU,gl,hoj,hdj,ho,hdi] using this
      have:=hR.distinct i j o oj di ho hoj hdi (by rw[hdj,this])
      subst this
      rw[hi]at hjL;cases hjL
     refine sO (E:=E) (o:=o) hE.sim hTR (by simp[eU]) hfree hpc (fun h=>by cases h) hq' ro K Q fun u w' ⟨M',ι',h1,h2,h3,h4⟩=>hK _ _ ?_
     obtain⟨h5,h6⟩:=(hTR.mono h3.mem h3.map).put hnt hx' h1
     have hg':gL E pc ops dep sts L' ops.size=oV (gL E pc ops dep sts L ops.size) (eU ops dep sts i) bs:=by rw[Oz hR hlt hL',hbs]
     refine⟨hc',(put_defers _ _ _).trans hds,M',ι',tm1',pN hR.toRegB ho hL' hi hTS hx hx',h5,h6,.inl ⟨fun j oj hj hoj hhj=>?_,by rw[hg'];exact h2,by rw[hg'];exact hE.fwd.trans h3,fun q hq hno=>?_⟩⟩
     ·rcases(hL' j).1 hj with h | h
      ·exact hE.quiet j oj h hoj hhj
      ·subst h;exact hlk
     ·refine h4 q (hE.dom q hq fun j hj hjL=>hno j hj ((hL' j).2 (.inl hjL))) fun k hk' e=>?_
      refine hno i hlt ((hL' i).2 (.inr rfl)) ?_
      rw[e]
      exact⟨rfl,rfl,rfl,by rw[hbs];exact hk'⟩
    ·exact absurd hE (noLate hh k)
  ·have h1:=hnl (fm hwk')
   rw[KB ho hwk' (Nat.le_refl i)]at h1;cases h1
include hR hrun in
theorem KH(hD0:pB ι (sts 0).hp){L:Nat→Bool}(hall : ∀i,i<ops.size→L i=true){a a1:Act}{w1:World}(hds:a.defers=ds)(hI:Inv E pc nt ops dep sts M ι w ds L a1 w1):iY M ι (sts 0) a w nt (sts ops.size) a1 w1:=by
 obtain⟨hc,hd1,M1,ι1,tm1,hTS,hTR,hnt,hcase⟩:=hI
 have htm : ∀t,cU tm1 t=cU (sts ops.size).tm t:=by
  intro t
  obtain⟨h1,h2⟩:=hTS t
  obtain⟨h3,h4⟩:=Fh hR.toRegB hrun ops.size (Nat.le_refl _) t
  by_cases hex : ∃j,j<ops.size∧gl ops j=some t
  ·obtain⟨j,hj,hd⟩:=hex
   rw[h1 j hj (hall j hj) hd,h3 j hj (by simpa using hj) hd]
  ·rw[h2 fun j hj _ hd=>hex ⟨j,hj,hd⟩,h4 fun j hj _ hd=>hex ⟨j,hj,hd⟩]
 have hTR':TR M1 ι1 (sts ops.size).tm a1:=⟨fun t=>by rw[←htm];exact hTR.at_ t⟩
 rcases hcase with hE | ⟨k,hE⟩
 ·have hw:RH E ops ops.size:=fun j o hj hoj=>by
   cases hw:gB E o with
   | false=>rfl
   | true=>have:=mw (hE.quiet j o (hall j hj) hoj (fm hw)) hoj (Nat.le_refl _);rw[hw]at this;cases this
  have hg:(sts ops.size).hp.get=gL E pc ops dep sts L ops.size:=by
   rw[Fj (pc:=pc) hrun (Nat.le_refl _) hw]
   exact KK hR (Nat.le_refl _) fun j o hj _ _ _=>⟨fun _=>hj,fun _=>hall j hj⟩
  refine⟨⟨M1,ι1,⟨by rw[hg];exact hE.sim,?_,hTR',hnt⟩,by rw[hg];exact hE.fwd⟩,hd1.trans hds.symm⟩
  exact Ib (M:=M) (tc:=tc) (nt:=nt) hrun hD0 (Nat.le_refl _) hw hE.dom hE.fwd.map fun j o hj _ _ _ _=>hj
 ·have hst:(sts ops.size).hp=(sts k).hp:=HI hrun ops.size hE.le (Nat.le_refl _) fun j o hkj hj hoj=>by
   cases hh:so E o with
   | false=>rfl
   | true=>have:=(hE.upto j o hoj hh).1 (hall j hj);omega
  exact⟨⟨M1,ι1,⟨by rw[hst];exact hE.sim,by rw[hst];exact hE.dom,hTR',hnt⟩,by rw[hst];exact hE.fwd⟩,hd1.trans hds.symm⟩
include hR in
theorem xK{listed:Array Bool}(hsz:listed.size=ops.size)(h:Region.ready .any ops listed=[]) : ∀i,i<ops.size→listed.getD i false=true:=by
 intro i
 induction i using Nat.strongRecOn with | ind i ih =>
 intro hi
 cases hl:listed.getD i false with
 | true=>rfl
 | false =>
  exfalso
  have ho:=Array.getElem?_eq_getElem hi
  have hl':listed.getD i true=false:=by
   have:i<listed.size:=by omega
   simpa [Array.getD,this] using hl
  have:i∈Region.ready .any ops listed:=by
   rw[mem_ready]
   refine⟨hl',_,ho,fun e he hb=>?_⟩
   have hmem:e.on∈ep ops[i]:=by
    unfold ep
    exact List.mem_map.2 ⟨e,List.mem_filter.2 ⟨by simpa using he,hb⟩,rfl⟩
   have hlt:=hR.edges i _ ho _ hmem
   exact ih e.on hlt (by omega)
  rw[h]at this
  cases this
include hR hrun in
theorem Uk(hpc : ∀f xs y,pc f xs=some y→iL E.P f xs y)(htc : ∀f xs H y H',tc f xs H=some (y,H')→nc E.P f xs H y H'){ro:Option Nat}{a0:Act}(hds:a0.defers=ds){Q:Exit→Act→World→Prop}
 (hS0:fh M ι (sts 0).hp.get w) (hD0:pB ι (sts 0).hp) (hQ : ∀a' w',iY M ι (sts 0) a0 w nt (sts ops.size) a' w'→Q .normal a' w') : ∀(fuel:Nat)(listed:Array Bool)(a1:Act)(w1:World),listed.size=ops.size →
 (List.range ops.size).countP (fun i => !listed.getD i false)≤fuel→Inv E pc nt ops dep sts M ι w ds (fun i=>listed.getD i false) a1 w1→wpAnyIn (FW ro) 0 E.P .any ops Q fuel listed a1 w1:=by
 intro fuel
 induction fuel with
 | zero =>
  intro listed a1 w1 hsz hf hI
  have hall : ∀i,i<ops.size→listed.getD i false=true:=by
   intro i hi
   cases hl:listed.getD i false with
   | true=>rfl
   | false =>
    exfalso
    have:0<(List.range ops.size).countP (fun i => !listed.getD i false):=List.countP_pos_iff.2 ⟨i,List.mem_range.2 hi,by rw[hl];rfl⟩
    omega
  refine⟨?_,hQ _ _ (KH hR hrun hD0 hall hds hI)⟩
  refine List.eq_nil_iff_forall_not_mem.2 fun i hi=>?_
  rw[mem_ready]at hi
  obtain⟨h0,o,ho,_⟩:=hi
  have hlt:i<ops.size:=(Array.getElem?_eq_some_iff.1 ho).1
  have h1:=hall i hlt
  have:i<listed.size:=by omega
  simp[Array.getD,this]at h0 h1
  rw[h1]at h0
  cases h0
 | succ fuel ih =>
  intro listed a1 w1 hsz hf hI
  refine⟨fun hr=>hQ _ _ (KH hR hrun hD0 (xK hR hsz hr) hds hI),fun i hi=>?_⟩
  rw[mem_ready]at hi
  obtain⟨h0,o,ho,hed⟩:=hi
  have hlt:i<ops.size:=(Array.getElem?_eq_some_iff.1 ho).1
  have hil:i<listed.size:=by omega
  have hi0:listed.getD i false=false:=by simpa [Array.getD,hil] using h0
  have hedge : ∀e∈ep o,(fun i=>listed.getD i false) e=true:=by
   intro e he
   unfold ep at he
   obtain⟨d,hd,rfl⟩:=List.mem_map.1 he
   obtain⟨h1,h2⟩:=List.mem_filter.1 hd
   exact hed d (by simpa using h1) h2
  have hL' : ∀j,(fun j=>(listed.setIfInBounds i true).getD j false) j=true↔((fun j=>listed.getD j false) j=true∨j=i):=by
   intro j
   simp only
   by_cases hji:j=i
   ·subst hji
    simp[hil]
   ·rw[getD_set_ne false (Ne.symm hji)]
    simp[hji]
  have:=Ou (E:=E) (tc:=tc) (ro:=ro) (K:=wpAnyIn (FW ro) 0 E.P .any ops Q fuel (listed.setIfInBounds i true)) (Q:=Q) hR hrun hpc htc hS0 hD0 (L:=fun i=>listed.getD i false) ho hi0 hedge hL' hI fun a' w' hI'=>by
   refine ih _ a' w' (by simp[hsz]) ?_ hI'
   have:=AJ (p:=fun j => !listed.getD j false) (p':=fun j => !(listed.setIfInBounds i true).getD j false) (i:=i) (fun j hj=>by
    simp only[Bool.not_eq_true']at hj ⊢
    cases hl:listed.getD j false with
    | false=>rfl
    | true=>have:=(hL' j).2 (.inl hl);simp only at this;rw[this]at hj;cases hj) (by simp only[hi0,Bool.not_false]) (by have:=(hL' i).2 (.inr rfl);simp only at this ⊢;rw[this];rfl) (List.range ops.size) (List.mem_range.2 hlt)
   omega
  unfold wpOpIn
  rw[ho]
  simp only
  split
  ·rename_i hw
   rw[if_pos hw]at this
   exact this
  ·rename_i hw
   rw[if_neg hw]at this
   exact⟨fun _ _=>trivial,this⟩
end
theorem OL{E:Env}(hm:E.P.follows .mixedOrders=true){ops:Array Oper}(hok:yw E ops=true){pc:FuncId→List AV→Option AV}(hpc : ∀f xs y,pc f xs=some y→iL E.P f xs y)
 {tc:sn→List AV→ab→dz} (htc : ∀f xs H y H',tc f xs H=some (y,H')→nc E.P f xs H y H') {nt dep id:Nat} {st st':St} {M:Mem} {ι:Map} {a:Act} {w:World} {ro:Option Nat} {Q:Exit→Act→World→Prop}
 (h:kY E pc tc nt dep true ops ops.toList st=some st') (hO:qU M ι st nt a w) (hQ : ∀a' w',iY M ι st a w nt st' a' w'→Q .normal a' w'):(Code.region id ops true).wpIn (FW ro) 0 E.P Q a w:=by
 obtain⟨sts,h1,h2,h3⟩:=B1 ops.toList st st' h
 rw[Array.length_toList]at h2
 have hR:=GX hok
 have hrun : ∀i o,ops[i]?=some o→evalOp E pc tc nt dep true ops o (sts i)=some (sts (i+1)):=fun i o ho=>h3 i o (by simpa using ho)
 subst h1
 refine wpIn_region_any hm ?_
 have hF0:pA M ι (sts 0).hp.get w M ι (sts 0).hp.get { w with drawn:=w.drawn+1} :=
  ⟨rfl,rfl,rfl,Nat.le_refl _,fun _ _ _=>rfl,fun _ _ _ h=>h,fun _ _ h=>h,fun r k l h h' => .inr ⟨r,k,l,h,h',rfl⟩,fun _ _ _ h => .inl h⟩
 have hno : ∀i,(Array.replicate ops.size false).getD i false=false:=by
  intro i
  simp only[Array.getD_eq_getD_getElem?,Array.getElem?_replicate]
  split<;>rfl
 have hmiss : ∀n,gF (sts 0).hp.get (eU ops dep sts) (newAt E pc ops dep sts) (fun i=>(Array.replicate ops.size false).getD i false) n=(sts 0).hp.get:=by
  intro n
  funext q
  refine o4 n fun i _ hi=>?_
  exact absurd ((hno i).symm.trans hi) (by simp)
 refine Uk (tc:=tc) (M:=M) (ι:=ι) (w:=w) (a0:=a) hR hrun hpc htc rfl hO.sim hO.dom (fun a' w' hs=>hQ a' w' (h2 ▸ hs)) ops.size _ a _ (by simp) ?_ ?_
 ·exact Nat.le_trans List.countP_le_length (by simp)
 ·refine⟨fun i o hi=>?_,rfl,M,ι,(sts 0).tm,?_,hO.tr,hO.nt,.inl ⟨fun i o hi=>?_,?_,?_,fun q hq _=>hq⟩⟩
  ·exact absurd ((hno i).symm.trans hi) (by simp)
  ·exact fun t=>⟨fun i _ hi=>absurd ((hno i).symm.trans hi) (by simp),fun _=>rfl⟩
  ·exact absurd ((hno i).symm.trans hi) (by simp)
  ·rw[gL,hmiss];exact hO.sim.drew rfl
  ·rw[gL,hmiss];exact hF0
end Go.Ab
