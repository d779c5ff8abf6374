/-
  What the abstract machine's quiet operations give is what the model's give: the first part. No statement of a seat is proved here.
-/
import Derived.Lib.Overlaps
import Derived.Lib.SliceRun
import Derived.WalkSpells
import Derived.Test.YtmkmimgokagimaaGreatAbsCore
set_option linter.unusedVariables false
set_option linter.unusedSimpArgs false
set_option linter.unusedSectionVars false
set_option linter.unnecessarySimpa false
namespace Go.Ab
section
def ui(g:cX)(r:Ref)(a:List bw):cX:=λq=>if q.d=r.d/\q.t=r.t/\q.g=r.g/\q.k<a.length then a[q.k]? else g q
theorem nL(g:cX)(r:Ref):ui g r []=g:=by funext q;simp[ui]
theorem sT(g:cX)(r:Ref)(a:r.k=0)(b:bw):ui g r [b]=lU g r b:=by
 funext q
 unfold ui lU
 by_cases h:q=r
 ·subst h;simp[a]
 ·rw[if_neg h,if_neg]
  intro c
  apply h
  cases q;cases r
  simp_all
structure TR (M:Mem) (ι:Map) (tm:List AV) (a:Act):Prop where
 at_ : ∀t,VR M ι (dJ tm t) (a.tmps.getD t undef)
theorem TR.mono{M ι tm a M' ι'}(h:TR M ι tm a)(d : ∀b o x,M b o=some x->M' b o=some x)(c : ∀r l,ι r=some l->ι' r=some l):TR M' ι' tm a:=
 ⟨λt=>(h.at_ t).mono d ι' c⟩
theorem aT{M ι tm a}(h:TR M ι tm a){x:Operand}{y:AV}(b:aK tm x=some y):VR M ι y (a.eval x):=by
 cases x with
 | tmp t=>simp[aK]at b;subst b;exact h.at_ t
 | const v=>simp only[aK]at b;exact jX b
 | global g=>simp[aK]at b
 | func f=>simp[aK]at b;subst b;exact .fn rfl rfl (λi c u d=>by simp at d) (λi c u d=>by simp at d)
theorem nQ{M ι tm a}(h:TR M ι tm a){xs:List Operand}{ys:List AV}(d:xs.mapM (aK tm)=some ys):mA M ι ys (xs.map a.eval):=
 ⟨by simpa using kj d,λi y u e c=>by
  obtain⟨x,b,f⟩:=sA d i y e
  simp only[pG,b,Option.map_some,dT]at c
  subst c
  exact aT h f⟩
def jJ(M:Mem)(ι:Map)(g:cX)(w:World)(r:Ref)(x:AV)(b:List bw)(u:Value)(w':World):Prop:=
 ∃M' a,VR M' a x u/\iv M' a (ui g r b) w'/\vp M ι g w M' a (ui g r b) w' /\∀q,ι q=none->(∀k,k<b.length->q ≠ { r with k:=k})->a q=none
theorem jJ.same{M ι g w r x u}(a:iv M ι g w)(h:VR M ι x u):jJ M ι g w r x [] u w:=
 ⟨M,ι,h,by rw[nL];exact a,by rw[nL];exact vp.refl,λq b _=>b⟩
theorem iv.drew{M ι g w w'}(a:iv M ι g w)(d:w'.heap=w.heap):iv M ι g w':=
 ⟨λb o x h=>by rw[World.cell?_of_block (w:=w) (by rw[d])];exact a.mem b o x h,λr k h=>by
  obtain⟨l,e,c⟩:=a.live r k h
  exact⟨l,e,c.bQ (λ_ _ _ h=>h) (λ_ _ h=>h) (by rw[d]) c.frozen⟩,a.inj⟩
def FW(ro:Option Nat):Fence := { Fence.wide with round:=ro}
def eV(P:Program)(o:Oper)(a:Act)(w:World)(S:Value->World->Prop):Prop:=
 ∀(ro:Option Nat)(K:Act->World->Prop)(Q:Exit->Act->World->Prop),(∀u w',S u w'->K (a.put o.dst u) w')->o.wpIn (FW ro) 0 P a w K Q
theorem Ce{P:Program}{o:Oper}{a:Operand->Value}{w w':World}{x:Next}(ro:Option Nat)(h:(execOp a o).run P w = .ok x w')(k : ∀d,x ≠ .defer d):(Oper.semAt ro a o).run P w = .ok x w':=by
 by_cases f : ∃c,o.op = .defer c
 ·exfalso
  obtain⟨c,b⟩:=f
  simp only[execOp,b]at h
  rw[Sem.run_bind]at h
  cases i:(resolve a c o.type).run P w with
  | ok d j=>rw[i]at h;simp only[Result.andThen_ok,Sem.run_pure,Result.ok.injEq]at h;exact k _ h.1.symm
  | halt e j=>rw[i]at h;cases h
 ·rw[Oper.semAt_eq ro a o λc b=>f ⟨c,b⟩]
  exact h
theorem eV.of_run{P o a w S u w'}(b:(execOp a.eval o).run P w = .ok (.value u) w')(h:S u w'):eV P o a w S:=by
 intro ro K Q c
 refine⟨λ_ _=>trivial,?_⟩
 rw[Ce (x := .value u) (FW ro).round b (by intro d e;cases e)]
 exact c _ _ h
theorem eV.G1{P o a w S w'}(b:(execOp a.eval o).run P w = .ok .skip w')(h:S undef w'):eV P o a w S:=by
 intro ro K Q c
 refine⟨λ_ _=>trivial,?_⟩
 rw[Ce (x := .skip) (FW ro).round b (by intro d e;cases e)]
 exact c _ _ h
theorem eV.IS{P o a w S f args w0}(b:(execOp a.eval o).run P w = .ok (.enter f args) w0)(h:Calls P f args w0 λe w' =>∃u,e = .returned u/\S u w'):eV P o a w S:=by
 intro ro K Q j
 refine⟨λ_ _=>trivial,?_⟩
 rw[Ce (x := .enter f args) (FW ro).round b (by intro d e;cases e)]
 refine⟨λh=>absurd h (by simp[FW,Fence.wide]),?_⟩
 have c:CallsIn Fence.wide 0 P f args w0 λe w' =>∃u,e = .returned u/\S u w':=callsIn_wide.2 h
 have i:CallsIn (FW ro) (0 - 1) P f args w0 λe w' =>∃u,e = .returned u/\S u w':=c
 refine i.mono λe w' ⟨u,he,hS⟩=>?_
 subst he
 exact j _ _ hS
theorem eV.Wa{P o a w S l f tmps assign body w0}(b:(execOp a.eval o).run P w = .ok (.round l f tmps assign body) w0)(h:RoundIn (FW none) 0 P l f tmps assign body w0 λe w' =>∃u,e = .returned u/\S u w'):eV P o a w S:=by
 intro ro K Q i
 refine⟨λ_ _=>trivial,?_⟩
 rw[Ce (x := .round l f tmps assign body) (FW ro).round b (by intro d e;cases e)]
 refine⟨λh=>absurd h (by simp[FW,Fence.wide]),?_⟩
 have c:RoundIn (FW ro) (0 - 1) P l f tmps assign body w0 λe w' =>∃u,e = .returned u/\S u w':=h
 refine c.mono λe w' ⟨u,he,hS⟩=>?_
 subst he
 exact i _ _ hS
theorem put_defers(a:Act)(d:Option Tmp)(u:Value):(a.put d u).defers=a.defers:=by cases d<;>rfl
theorem KF{P:Program}{s:Sem Value}{w w':World}{u:Value}(h:s.run P w = .ok u w'):(do pure (Next.value (<-s)):Sem Next).run P w = .ok (.value u) w':=by
 simp[h]
section
variable{P:Program}{M:Mem}{ι:Map}{g:cX}{w:World}{r:Ref}
theorem Cn{x:AV}{u:Value}{b:Bool}(h:VR M ι x u)(a:FL x=some b):u = .bool b:=by
 cases h<;>simp[FL]at a
 split at a<;>simp_all
theorem zu{x:AV}{u:Value}{n:Int}(h:VR M ι x u)(a:Ab.intOf x=some n) : ∃k,u = .int k n:=by
 cases h<;>simp[Ab.intOf]at a
 split at a<;>simp_all
theorem Wj(D:iv M ι g w)(m:r.k=0)(v:ι r=none){e:TypeId}{n:Nat}{x:AV}{u:Value}(A:VR M ι x u)(E:x.cells.length=n)(p:x.cells.all AV.one=true)(o:0<n) :
 ∃w',(Instr.box e u).run P w = .ok (.pointer (some ⟨w.heap.size,0,none⟩)) w'/\jJ M ι g w r (.ptr r 0 0) [⟨n,[x],false,false⟩] (.pointer (some ⟨w.heap.size,0,none⟩)) w':=by
 have a:=A.cells
 have d:u.cells.size=n:=by have:=a.1;simp at this;omega
 obtain⟨C,t⟩:=D.alloc (q:=r) v (w':=w.alloc (.cells u.cells e)) (arr:=u.cells) (T:=e) (fz:=(0,0)) ⟨rfl,rfl,rfl,rfl⟩ ⟨n,[x],false,false⟩ o 1 (by simpa using d) (ET.zero _ _) (by simp) (by simp[E])
  (by
   intro i j F y c b
   cases i with
   | succ i=>simp at c
   | zero=>
    simp at c
    subst c
    have h:j<u.cells.size:=by have:=(iX.1 b).1;omega
    refine⟨u.cells[j],by simp,?_,?_⟩
    ·have B:=a.2 j y u.cells[j] b (by simp[h])
     exact B.one (by simp only[gy]at p;exact p y (fU b))
    ·simpa [bw.map] using a.2 j y u.cells[j] b (by simp[h]))
 refine⟨w.alloc (.cells u.cells e),by simp[Instr.box,newVar,newRow],M,_,?_,by rw[sT _ _ m];exact C,by rw[sT _ _ m];exact t,?_⟩
 ·have:=VR.ptr (M:=M) (ι:=kS ι r ⟨w.heap.size,n,1⟩) (r:=r) (i:=0) (j:=0) (l:=⟨w.heap.size,n,1⟩) (by simp[kS]) o
  simpa using this
 ·intro q f z
  have:q≠r:=by intro e;exact z 0 (by simp) (by rw[e];cases r;simp_all)
  simpa [kS,this] using f
theorem Tp(d:iv M ι g w)(i:r.k=0)(f:ι r=none){e:TypeId}{x:AV}{b:List bw}(h:yl P r e=some (x,b)) :
 ∃u w',(Instr.alloc e true (.tuple #[])).run P w = .ok u w'/\jJ M ι g w r x b u w':=by
 unfold yl at h
 split at h
 ·rename_i z n l o
  split at h
  ·rename_i a
   cases h
   obtain⟨u,hu,m⟩:=zg l w
   obtain⟨w',j,c⟩:=Wj (P:=P) (e:=e) d i f (jX m) a.1 a.2.1 a.2.2
   refine⟨_,w',?_,c⟩
   have:(Instr.alloc e true (.tuple #[])).run P w=(Instr.box e u).run P w:=by simp[Instr.alloc,hu,Instr.box]
   rw[this];exact j
  ·cases h
 ·cases h
theorem Yu(f:iv M ι g w)(l:r.k=0)(i:ι r=none){e:TypeId}{y x:AV}{c:Value}(j:VR M ι y c){b:List bw}(h:L1 P r e (some y)=some (x,b)) :
 ∃u w',(Instr.box e c).run P w = .ok u w'/\jJ M ι g w r x b u w':=by
 unfold L1 at h
 split at h
 ·rename_i q n o p
  cases o
  split at h
  ·rename_i a
   cases h
   obtain⟨w',m,d⟩:=Wj (P:=P) (e:=e) f l i j a.1 a.2.1 a.2.2
   exact⟨_,w',m,d⟩
  ·cases h
 ·cases h
theorem VP(f:iv M ι g w){t:TypeId}{y x:AV}{m:Value}(k:VR M ι y m){l:List bw}(h:uL P g t (some y)=some (x,l)) :
 l=[] /\∃u,(Instr.loadAt t m).run P w = .ok u w/\VR M ι x u:=by
 unfold uL at h
 split at h
 ·rename_i r' i j o n c e d
  cases c
  split at h
  ·rename_i b p
   simp only[kf,bN]at h
   obtain⟨q,a,c⟩:=h
   cases c
   exact⟨rfl,R0 e d f k p a⟩
  ·cases h
 ·rename_i esz es i j o n c e d
  cases c
  simp only[kf,bN]at h
  obtain⟨q,a,c⟩:=h
  cases c
  exact⟨rfl,WL e d f.mem k a⟩
 ·cases h
theorem RS{t:TypeId}{cs:List AV}{c:Array Value}{a:Nat}{x:AV}(f:mA M ι cs c.toList)(h:BI P t cs a=some x) : ∃u,(part t c a).run P w = .ok u w/\VR M ι x u:=by
 unfold BI at h
 split at h
 ·rename_i n d i
  split at h
  ·rename_i k
   cases h
   refine⟨.agg (c.extract a (a+n)),by simp[part,Cg d,run_sizeOf i],VR.sS.2 ?_⟩
   have:=(f.drop a).take n
   have e:(c.extract a (a+n)).toList=(c.toList.drop a).take n:=by
    rw[PM,PW,Lr]
   rw[e]
   exact this
  ·cases h
 ·rename_i d
  have j:=(iX.1 h).1
  have b:a<c.size:=by have:=f.1;simp at this;omega
  refine⟨c[a],by simp[part,Cg d,ku b],f.2 a x _ h (by simp[b])⟩
 ·cases h
theorem VR.Sq{cs:List AV}{u:Value}(h:VR M ι (.agg cs) u) : ∃a,u = .agg a/\mA M ι cs a.toList:=by
 cases h with | agg b c=>exact⟨_,rfl,VR.sS.1 (.agg b c)⟩
theorem Ku{t:TypeId}{f a:Nat}{ft:TypeId}(h:nT P t f=some (a,ft)) : ∃b fd,P.underlying t=some (.struct b)/\b[f]?=some fd/\fd.offset=a/\fd.type=ft:=by
 unfold nT at h
 split at h
 ·rename_i b d
  simp only[bN]at h
  obtain⟨fd,c,he⟩:=h
  cases he
  exact⟨b,fd,d,c,rfl,rfl⟩
 ·cases h
theorem Tn{t:TypeId}{f:Nat}{y x:AV}{e:Value}(i:VR M ι y e){d:List bw}(h:yj P t (some y) f=some (x,d)) :
 d=[] /\∃u,(Instr.field t e f).run P w = .ok u w/\VR M ι x u:=by
 unfold yj at h
 split at h
 ·rename_i m ft cs j b
  cases b
  simp only[kf,bN]at h
  obtain⟨q,a,b⟩:=h
  cases b
  obtain⟨p,rfl,c⟩:=i.Sq
  obtain⟨o,fd,n,l,rfl,rfl⟩:=Ku j
  obtain⟨u,hu,k⟩:=RS (w:=w) c a
  exact⟨rfl,u,by simp[Instr.field,bz n,l,asAgg,hu],k⟩
 ·cases h
theorem Jk{t:TypeId}{f a s:Nat}(h:aq P t f=some (a,s)) : ∃b fd,P.underlying t=some (.struct b)/\b[f]?=some fd/\fd.offset=a/\aH P fd.type=some s:=by
 unfold aq at h
 split at h
 ·rename_i c ft l
  simp only[bN]at h
  obtain⟨n,i,he⟩:=h
  cases he
  obtain⟨b,fd,j,d,e,k⟩:=Ku l
  exact⟨b,fd,j,d,e,k ▸ i⟩
 ·cases h
theorem J4{t:TypeId}{f:Nat}{y x:AV}{c:Value}(k:VR M ι y c){m:List bw}(h:jW P t (some y) f=some (x,m)) :
 m=[] /\∃u,(Instr.fieldAt t c f).run P w = .ok u w/\VR M ι x u:=by
 unfold jW at h
 split at h
 ·rename_i B s v
  obtain⟨F,fd,C,A,rfl,D⟩:=Jk v
  split at h
  ·rename_i E
   have p : ∀(b o:Nat),c = .pointer (some ⟨b,o,none⟩)->(Instr.fieldAt t c f).run P w = .ok (.pointer (some ⟨b,o+fd.offset,none⟩)) w:=by
    intro b o e
    subst e
    simp[Instr.fieldAt,bz C,A,Instr.sureAddr,fieldPlace,run_sizeOf D,show s≠0 by omega,iW]
   split at h
   ·rename_i r' i j a
    cases a
    cases h
    cases k with | ptr z d=>
    rename_i l
    exact⟨rfl,_,p _ _ rfl,by rw[Lh];exact .ptr z d⟩
   ·rename_i n es i j a
    cases a
    cases h
    cases k with | iptr cell hm a q=>
    rename_i b o
    exact⟨rfl,_,p _ _ rfl,by rw[show o+(i * n+j)+fd.offset=o+(i * n+(j+fd.offset)) by omega];exact .iptr cell hm a q⟩
   ·cases h
  ·cases h
 ·cases h
theorem iU{t e:TypeId}(h:dY P t=some e):P.underlying t=some (.slice e):=by
 unfold dY at h
 split at h
 ·cases h;assumption
 ·cases h
theorem GU{t e:TypeId}{n:Nat}(h:kP P t=some (n,e)):P.underlying t=some (.array n e):=by
 unfold kP at h
 split at h
 ·cases h;assumption
 ·cases h
theorem J3(hS:iv M ι g w){t:TypeId}{y z x:AV}{F S:Value}(D:VR M ι y F)(X:VR M ι z S){T:List bw}(h:ep P g t (some y) (some z)=some (x,T)) :
 T=[] /\∃u,(Instr.indexAt t F S).run P w = .ok u w/\VR M ι x u:=by
 unfold ep at h
 simp only[fN]at h
 split at h
 ·rename_i k W
  obtain⟨ki,rfl⟩:=zu X W
  split at h
  ·rename_i e J
   have E:=iU J
   split at h
   ·rename_i esz es cap s d q
    cases d
    split at h
    ·rename_i m
     obtain⟨Q,v,rfl⟩:=m
     cases h
     cases D with | cD cell f L O hm N R=>
     rename_i a c
     refine⟨rfl,.pointer (some (a.add (k.toNat * s))),?_,?_⟩
     ·simp[Instr.indexAt,asIntOf,bz E,Q,v,run_sizeOf q]
     ·have f:=f.resolve_right (by intro e;subst e;simp at v;omega)
      rw[lQ f,iW]
      have:=VR.iptr (M:=M) (ι:=ι) (i:=k.toNat) (j:=0) (b:=a.block) (o:=a.off) cell hm N R
      simpa using this
    ·cases h
   ·rename_i r' A len cap s d q
    cases d
    split at h
    ·rename_i b hb
     split at h
     ·rename_i m
      obtain⟨Q,v,I⟩:=m
      cases h
      cases D with | cG V K f H L hn O p=>
      rename_i l a c
      obtain⟨l',C,G⟩:=hS.live r' b hb
      rw[V]at C;cases C
      refine⟨rfl,.pointer (some (a.add (k.toNat * s))),?_,?_⟩
      ·simp[Instr.indexAt,asIntOf,bz E,Q,v,run_sizeOf q]
      ·have B:a.off=A * l.esz:=by
        rcases H with h | h
        ·omega
        ·exact h
       rw[lQ f,iW,K,B,I,<-G.esz,<-nA]
       have:=VR.ptr (M:=M) (ι:=ι) (i:=A+k.toNat) (j:=0) V p
       simpa using this
     ·cases h
    ·cases h
   ·cases h
  ·split at h
   ·rename_i n e H
    have E:=GU H
    have U : ∀(b o s:Nat),F = .pointer (some ⟨b,o,none⟩)->aH P e=some s->0<=k->k<n->(Instr.indexAt t F (.int ki k)).run P w = .ok (.pointer (some ⟨b,o+k.toNat * s,none⟩)) w:=by
     intro b o s e v h2 Z
     subst e
     simp[Instr.indexAt,asIntOf,bz E,Instr.sureAddr,h2,Z,run_sizeOf v,iW]
    split at h
    ·rename_i r' i j s d q
     cases d
     split at h
     ·rename_i m
      cases h
      cases D with | ptr Y p=>
      exact⟨rfl,_,U _ _ _ rfl q m.1 m.2,by rw[Lh];exact .ptr Y p⟩
     ·cases h
    ·rename_i esz es i j s d q
     cases d
     split at h
     ·rename_i m
      cases h
      cases D with | iptr cell hm J R=>
      rename_i b o
      exact⟨rfl,_,U _ _ _ rfl q m.1 m.2,by rw[show o+(i * esz+j)+k.toNat * s=o+(i * esz+(j+k.toNat * s)) by omega];exact .iptr cell hm J R⟩
     ·cases h
    ·cases h
   ·cases h
 ·cases h
theorem N0{y x:AV}{e:Value}{i:Nat}(j:VR M ι y e){d:List bw}(h:uM (some y) i=some (x,d)) :
 d=[] /\∃u,(Instr.extract e i).run P w = .ok u w/\VR M ι x u:=by
 unfold uM at h
 split at h
 ·rename_i k c
  cases c
  simp only[kf,bN]at h
  obtain⟨m,a,c⟩:=h
  cases c
  cases j with | tup l n f=>
  rename_i us
  have b:i<us.size:=by have:=(iX.1 a).1;omega
  exact⟨rfl,us[i],by simp[Instr.extract,ku b],f i _ _ a (ku b)⟩
 ·cases h
theorem Fo{t:TypeId}{y x:AV}{b:Value}(f:VR M ι y b){e:List bw}(h:tX P t (some y)=some (x,e)) :
 e=[] /\∃u,(Instr.makeInterface t b).run P w = .ok u w/\VR M ι x u:=by
 unfold tX at h
 split at h
 ·cases h
 ·rename_i d a c
  simp at h
  obtain⟨rfl,rfl⟩:=h
  refine⟨rfl,.iface t b,?_,.ifc f⟩
  simp only[Instr.makeInterface,Sem.run_bind,bz c,Result.andThen_ok]
  cases d<;>first | rfl | (exact absurd c (a _))
 ·cases h
theorem C8{st a:TypeId}{ok:Bool}{y x:AV}{n:Value}(m:VR M ι y n){D:List bw}(h:uv P (some y) a ok=some (x,D)) :
 D=[] /\∃u,(Instr.typeAssert n st a ok).run P w = .ok u w/\VR M ι x u:=by
 have k : ∀d,P.underlying a=some d->(∀F,d ≠ .interface F) ->∀z,eI P a=some z->ok=true->(n = .nilIface \/∃t v,n = .iface t v/\t≠a) ->
  ∃u,(Instr.typeAssert n st a ok).run P w = .ok u w/\VR M ι (.tup [z,.v (.bool false)]) u:=by
  intro d l b z o f j
  subst f
  obtain⟨v,E,C⟩:=zg o w
  refine⟨.tuple #[v,.bool false],?_,?_⟩
  ·simp only[Instr.typeAssert,Sem.run_bind,bz l,Result.andThen_ok]
   rcases j with rfl | ⟨t,x,rfl,p⟩
   ·cases d<;>first | (simp[E];done) | exact absurd rfl (b _)
   ·cases d<;>first | (simp[E,p];done) | exact absurd rfl (b _)
  ·refine .tup (by simp) rfl λi c u e j=>?_
   match i with
   | 0=>simp at e j;subst e;subst j;exact jX C
   | 1=>simp at e j;subst e;subst j;exact .v rfl
   | i+2=>simp at e
 unfold uv at h
 split at h
 ·cases h
 ·rename_i d t G b l A
  cases A
  cases m with | ifc m=>
  rename_i q
  split at h
  ·rename_i B
   subst B
   simp at h
   obtain⟨rfl,rfl⟩:=h
   refine⟨rfl,(if ok then .tuple #[q,.bool true] else q),?_,?_⟩
   ·simp only[Instr.typeAssert,Sem.run_bind,bz l,Result.andThen_ok]
    cases d<;>first | (simp;done) | exact absurd l (by intro h;exact b _ h)
   ·cases ok with
    | false=>simpa using m
    | true=>
     simp only[if_true]
     refine .tup (by simp) rfl λi c u e j=>?_
     match i with
     | 0=>simp at e j;subst e;subst j;exact m
     | 1=>simp at e j;subst e;subst j;exact .v rfl
     | i+2=>simp at e
  ·rename_i B
   split at h
   ·rename_i f
    simp at h
    obtain⟨z,o,rfl,rfl⟩:=h
    exact⟨rfl,k d l b z o f (.inr ⟨t,q,rfl,B⟩)⟩
   ·cases h
 ·rename_i d b l A
  cases A
  split at h
  ·rename_i f
   simp at h
   obtain⟨z,o,rfl,rfl⟩:=h
   cases m
   exact⟨rfl,k d l b z o f (.inl rfl)⟩
  ·cases h
 ·cases h
end
end
section
section
variable{P:Program}{M:Mem}{ι:Map}{g:cX}{w:World}{r:Ref}
theorem ON(a:Nat) : ∀(us:List Value)(k:Nat)(cells:Array Value),a+k+us.length<=cells.size ->
 (us.zipIdx k).foldl (λcs (p:Value × Nat)=>cs.setIfInBounds (a+p.2) p.1) cells=cw cells (a+k) us:=by
 intro us
 induction us with
 | nil=>intro k cells h;simp[cw]
 | cons u us c=>
  intro k cells h
  simp only[sc]at h
  rw[List.zipIdx_cons,w8,c (k+1) _ (by simp;omega)]
  apply FY
  intro i
  rw[iC (by simp;omega),iC (by simp;omega)]
  by_cases d:i=a+k
  ·subst d
   rw[if_neg (by omega),if_pos ⟨de _,by simp⟩]
   simp[show a+k<cells.size by omega]
  ·by_cases b:a+(k+1)<=i/\i<a+(k+1)+us.length
   ·rw[if_pos b,if_pos (by simp;omega)]
    rw[show i - (a+k)=(i - (a+(k+1)))+1 by omega]
    simp
   ·rw[if_neg b,if_neg (by simp;omega)]
    rw[CC (by omega)]
theorem mA.patch{cs new:List AV}{us a:List Value}{j:Nat}(h:mA M ι cs us)(b:mA M ι new a):mA M ι (patch cs j new) (us.take j++a++us.drop (j+a.length)):=by
 unfold Ab.patch
 rw[<-b.1]
 exact((h.take j).append b).append (h.drop _)
theorem Sc(c:Nat->Option (Nat × Nat)) : ∀(ps:List (Nat × AV)) (qs:List (Nat × Value)) (cs b:List AV) (d:Array Value),mc c cs ps=some b->mA M ι cs d.toList ->
 ps.length=qs.length->(∀(i:Nat) p q,ps[i]?=some p->qs[i]?=some q->p.1=q.1/\VR M ι p.2 q.2) ->
 ∃e,Instr.fill c d qs=some e/\mA M ι b e.toList:=by
 intro ps
 induction ps with
 | nil=>
  intro qs cs b d h o t hp
  simp[mc]at h
  subst h
  cases qs with
  | nil=>exact⟨d,rfl,o⟩
  | cons q qs=>simp at t
 | cons p ps H=>
  intro qs cs b d h o t hp
  cases qs with
  | nil=>simp at t
  | cons q qs=>
   obtain⟨i,v⟩:=p
   obtain⟨K,u⟩:=q
   obtain⟨C,B⟩:=hp 0 _ _ rfl rfl
   simp only at C B
   subst C
   simp only[mc]at h
   split at h
   ·cases h
   ·rename_i a n y
    split at h
    ·rename_i F
     obtain⟨G,hle⟩:=F
     have m:=B.cells
     have J:u.cells.size=n:=by have:=m.1;simp at this;omega
     have E:d.size=cs.length:=by have:=o.1;simp at this;omega
     have f:=ON a u.cells.toList 0 d (by simp;omega)
     have l:u.cells.zipIdx.foldl (λcs (p:Value × Nat)=>cs.setIfInBounds (a+p.2) p.1) d=cw d a u.cells.toList:=by
      rw[Ds]at f
      rw[<-f,<-PF,Array.toList_zipIdx]
     have z:mA M ι (patch cs a v.cells) (cw d a u.cells.toList).toList:=by
      have:=o.patch (j:=a) m
      simpa [cw] using this
     obtain⟨e,D,I⟩:=H qs (patch cs a v.cells) b (cw d a u.cells.toList) h z (by simpa using t) (λk p q x A=>hp (k+1) p q x A)
     refine⟨e,?_,I⟩
     simp only[Instr.fill,y]
     rw[if_neg (by simp;omega)]
     rw[<-D,<-l]
    ·cases h
theorem vC{tm:List AV}{a:Act}(h:TR M ι tm a){ps:List (Nat × Operand)}{b:List (Nat × AV)}(c:jc tm ps=some b) :
 b.length=(ps.map λp=>(p.1,a.eval p.2)).length /\∀(i:Nat) p q,b[i]?=some p->(ps.map λp=>(p.1,a.eval p.2))[i]?=some q->p.1=q.1/\VR M ι p.2 q.2:=by
 unfold jc at c
 refine⟨by simpa using kj c,λi p q hp d=>?_⟩
 obtain⟨⟨k,o⟩,f,e⟩:=sA c i p hp
 simp only[bN]at e
 obtain⟨y,j,rfl⟩:=e
 simp only[pG,f,Option.map_some,dT]at d
 subst d
 exact⟨rfl,aT h j⟩
theorem wa{t:TypeId}{z:AV}(h:eI P t=some z) : ∃i u,P.info? t=some i/\i.zero=some u/\ofValue u=some z:=by
 simp only[eI,iw]at h
 obtain⟨u,⟨i,a,b⟩,hu⟩:=h
 exact⟨i,u,a,b,hu⟩
theorem To{t:TypeId}{l:List (Nat × AV)}{qs:Array (Nat × Value)}{x:AV}{A:List bw}(B:l.length=qs.toList.length)
 (hp : ∀(i:Nat) p q,l[i]?=some p->qs.toList[i]?=some q->p.1=q.1/\VR M ι p.2 q.2) (h:jD P t (some l)=some (x,A)) :
 A=[] /\∃u,(Instr.build t qs).run P w = .ok u w/\VR M ι x u:=by
 unfold jD at h
 split at h
 ·rename_i z G E j
  cases j
  obtain⟨it,u,f,d,hu⟩:=wa E
  obtain⟨C,rfl,k⟩:=(jX (M:=M) (ι:=ι) hu).Sq
  split at h
  ·rename_i n e D
   split at h
   ·rename_i s F
    simp only[bN]at h
    obtain⟨cs,c,j⟩:=h
    cases j
    obtain⟨H,v,rfl⟩:=Af F
    obtain⟨a,y,m⟩:=Sc (M:=M) (ι:=ι) _ l qs.toList z cs C c k B hp
    refine⟨rfl,.agg a,run_build w t qs a ?_,VR.sS.2 m⟩
    simp[Program.built,f,GU D,d,v,Value.cells,y]
   ·cases h
  ·split at h
   ·rename_i ps b
    simp only[bN]at h
    obtain⟨cs,c,j⟩:=h
    cases j
    unfold placesOf at b
    split at b
    ·rename_i I o
     obtain⟨a,y,m⟩:=Sc (M:=M) (ι:=ι) _ l qs.toList z cs C c k B hp
     refine⟨rfl,.agg a,run_build w t qs a ?_,VR.sS.2 m⟩
     simp only[Program.built,f,o,d,b,Value.cells]
     rw[<-y]
     congr 1
     funext i
     simp
    ·cases b
   ·cases h
 ·cases h
theorem Yv{b:BinOp}{t:TypeId}{o k:Operand}{x y z:AV}{u v:Value}(m:VR M ι x u)(j:VR M ι y v){B:List bw}(h:bY P b t o k (some x) (some y)=some (z,B)) :
 B=[] /\∃r,(do eqGuard b t o k u v;binOp b t u v:Sem Value).run P w = .ok r w/\VR M ι z r:=by
 simp only[bY]at h
 ·split at h
  ·rename_i A
   have key:(∃a n c,u = .slice (some a) n c/\v = .slice none 0 0)\/(∃a n c,v = .slice (some a) n c/\u = .slice none 0 0):=by
    simp only[fv,aY]at A
    rcases A with ⟨q,f⟩ | ⟨q,f⟩
    ·left
     have:v = .slice none 0 0:=by
      cases j<;>simp[oW]at f
      split at f<;>simp_all
     cases m<;>simp[Ml]at q
     ·exact⟨_,_,_,rfl,this⟩
     ·exact⟨_,_,_,rfl,this⟩
    ·right
     have:u = .slice none 0 0:=by
      cases m<;>simp[oW]at f
      split at f<;>simp_all
     cases j<;>simp[Ml]at q
     ·exact⟨_,_,_,rfl,this⟩
     ·exact⟨_,_,_,rfl,this⟩
   have i : ∀b,(eqGuard b t o k u v).run P w = .ok () w:=by
    intro b
    rcases key with ⟨a,n,c,rfl,rfl⟩ | ⟨a,n,c,rfl,rfl⟩<;>(unfold eqGuard;cases b<;>simp)
   split at h
   ·rename_i e d
    simp at h;obtain⟨rfl,rfl⟩:=h
    refine⟨rfl,.bool false,?_,.v rfl⟩
    simp only[Sem.run_bind,i,Result.andThen_ok]
    rcases key with ⟨a,n,c,rfl,rfl⟩ | ⟨a,n,c,rfl,rfl⟩
    ·rw[Lib.run_eql_slice_nil w t e (some a) n c 0 0 d];rfl
    ·rw[run_eql_nil_slice w t e (some a) n c 0 0 d];rfl
   ·rename_i e d
    simp at h;obtain⟨rfl,rfl⟩:=h
    refine⟨rfl,.bool true,?_,.v rfl⟩
    simp only[Sem.run_bind,i,Result.andThen_ok]
    rcases key with ⟨a,n,c,rfl,rfl⟩ | ⟨a,n,c,rfl,rfl⟩
    ·rw[run_neq_slice_nil_any w t e (some a) n c 0 0 d];rfl
    ·rw[run_neq_nil_slice w t e (some a) n c 0 0 d];rfl
   ·cases h
  ·split at h
   ·rename_i H I p l
    simp only[kf,bN,iw]at h
    obtain⟨G,⟨r,D,E⟩,he⟩:=h
    cases he
    have C:=wb m p
    have F:=wb j l
    subst C;subst F
    exact⟨rfl,r,oT D w,oV E⟩
   ·cases h
theorem abD{a:UnOp}{x z:AV}{u:Value}(d:VR M ι x u){b:List bw}(h:qUn P a (some x)=some (z,b)) :
 b=[] /\∃r,(Op.unary a u).run P w = .ok r w/\VR M ι z r:=by
 simp only[qUn,kf,bN,iw,dT]at h
 obtain⟨i,⟨r,⟨v,⟨j,rfl,e⟩,c⟩,f⟩,he⟩:=h
 cases he
 have:=P6 d e
 subst this
 exact⟨rfl,r,oT c w,oV f⟩
theorem XS{xs:List AV}{us d:List Value}(c:mA M ι xs us)(h:xs.mapM Ks=some d):us=d:=by
 apply Lm
 intro i
 rcases fE i us.length with a | a
 ·have b:i<xs.length:=by rw[c.1];exact a
  obtain⟨v,f,e⟩:=lL h i xs[i] (fj b)
  rw[f,fj a,P6 (c.2 i _ _ (fj b) (fj a)) e]
 ·have:=kj h
  rw[AR a,AR (by rw[this,c.1];exact a)]
theorem KN{f:Value->Value->Sem Value}{xs:List AV}{us:List Value}{z:AV}(d:mA M ι xs us)(h:Ma f P xs=some z) :
 ∃u a,us=u :: a /\∃r,(a.foldlM f u).run P w = .ok r w/\VR M ι z r:=by
 unfold Ma at h
 split at h
 ·rename_i u a b
  have:=XS d b
  subst this
  simp only[iw]at h
  obtain⟨r,c,e⟩:=h
  exact⟨u,a,rfl,r,oT c w,oV e⟩
 ·cases h
theorem uQ{t:TypeId}(h:isStr P t=true):P.underlying t=some .string:=by
 unfold isStr at h
 split at h
 ·assumption
 ·cases h
theorem sJ{t:TypeId}(h:fS P t=true) : ∃e,P.underlying t=some (.slice e)/\P.underlying e=some (.int .u8):=by
 unfold fS at h
 split at h
 ·rename_i e a
  split at h
  ·exact⟨e,a,by assumption⟩
  ·cases h
 ·cases h
theorem WI{t:TypeId}(h:isInt P t=true) : ∃k,P.underlying t=some (.int k):=by
 unfold isInt at h
 split at h
 ·exact⟨_,by assumption⟩
 ·cases h
end
end
section
section
variable{P:Program}{M:Mem}{ι:Map}{g:cX}{w:World}{r:Ref}
structure Src (P:Program) (M:Mem) (w:World) (u:Value) (z:Nat) (es:List AV) (us:List Value):Prop where
 len:us.length=es.length * z
 K5 : ∀e∈es,e.cells.length=z
 one : ∀x∈us,x.oneCell'=true
 vr : ∀(i j:Nat) e x,es[i]?=some e->e.cells[j]?=some x ->∃u,us[i * z+j]?=some u/\VR M eB x u
 lenOf : ∀w':World,(Builtin.lenOf u).run P w' = .ok es.length w'
 first : ∀(n:Nat)(w':World),n<=es.length->w'.heap=w.heap->(Builtin.firstCells z n u).run P w' = .ok (us.take (n * z)).toArray w'
theorem Td{es:List AV}{z:Nat}(h : ∀e∈es,e.cells.length=z)(cell:Nat->Nat->Value) :
 ∃us:List Value,us.length=es.length * z /\∀i j,i<es.length->j<z->us[i * z+j]?=some (cell i j):=by
 refine⟨(List.range (es.length * z)).map λk=>cell (k / z) (k % z),by simp,?_⟩
 intro i j c a
 have b:0<z:=by omega
 have:=FA c a
 rw[pG,List.getElem?_range this]
 simp only[Option.map_some,dT]
 rw[Nat.mul_comm i z,Nat.mul_add_div b,Nat.div_eq_of_lt a,Nat.mul_add_mod,Nat.mod_eq_of_lt a,Ds]
theorem RD{es:List AV}{z:Nat}(d : ∀e∈es,e.cells.length=z)(F:0<z\/es=[]){a:Addr}{c:Nat}(y:a.spot=none\/es=[])(cell:Nat->Nat->Value)
 (D : ∀i j,i<es.length->j<z->w.cell? ⟨a.block,a.off+(i * z+j),none⟩=some (cell i j)/\(cell i j).oneCell'=true)
 (G : ∀(i j:Nat) e x,es[i]?=some e->e.cells[j]?=some x->VR M eB x (cell i j)) : ∃us,Src P M w (.slice (some a) es.length c) z es us:=by
 obtain⟨us,B,A⟩:=Td d cell
 have f : ∀k,k<us.length->0<z/\k / z<es.length/\k % z<z/\k / z * z+k % z=k:=by
  intro k o
  rw[B]at o
  have b:0<z:=by
   rcases F with h | h
   ·exact h
   ·subst h;simp at o
  exact⟨b,(Nat.div_lt_iff_lt_mul b).2 o,Nat.mod_lt _ b,by rw[Nat.mul_comm];exact Nat.div_add_mod k z⟩
 refine⟨us,B,d,?_,?_,λw'=>by simp[Builtin.lenOf],?_⟩
 ·intro x q
  obtain⟨k,o,t⟩:=tD q
  obtain⟨b,l,p,e⟩:=f k o
  have:=A _ _ l p
  rw[e,fj o,t]at this
  injection this with this
  rw[this]
  exact(D _ _ l p).2
 ·intro i j e x u q
  have E:=(iX.1 u).1
  have m:j<z:=by
   rw[<-d e (fU u)]
   exact(iX.1 q).1
  exact⟨cell i j,A i j E m,G i j e x u q⟩
 ·intro n w' H C
  have J:n * z<=us.length:=by rw[B];exact mY _ H
  refine run_firstCells_some (P:=P) w' z n a es.length c (us.take (n * z)) (by simp;omega) ?_
  intro j v m
  rw[CB]at m
  split at m
  ·rename_i I
   obtain⟨b,l,p,e⟩:=f j (by omega)
   have:=A _ _ l p
   rw[e,m]at this
   cases this
   have y:=y.resolve_right (by intro e;subst e;simp at l)
   rw[lQ y,iW]
   have:=(D _ _ l p).1
   rw[e]at this
   rw[World.cell?_of_block (w:=w) (by rw[C])]
   exact this
  ·cases m
theorem getElems(es:List AV)(a len:Nat)(c:a+len<=es.length):((es.drop a).take len).length=len /\∀i,i<len->((es.drop a).take len)[i]?=es[a+i]? :=
 ⟨by simp;omega,λi b=>by rw[CB,if_pos b,Hh]⟩
theorem o6(L:iv M ι g w){x:AV}{u:Value}(k:VR M ι x u){z:Nat}{es:List AV}(J:0<z)(h:cT g x=some (z,es)) : ∃us,Src P M w u z es us:=by
 unfold cT at h
 split at h
 ·rename_i s
  cases h
  cases k
  refine⟨s.data.toList.map λb => .int .u8 b.toNat,?_,?_,?_,?_,?_,?_⟩
  ·simp
  ·intro e f
   simp only[vd]at f
   obtain⟨b,_,rfl⟩:=f
   rfl
  ·intro x k
   simp only[vd]at k
   obtain⟨b,_,rfl⟩:=k
   rfl
  ·intro i j e x f k
   simp only[pG,bN]at f
   obtain⟨b,H,rfl⟩:=f
   cases j with
   | succ j=>simp[AV.cells]at k
   | zero=>
    simp[AV.cells]at k
    subst k
    exact⟨.int .u8 b.toNat,by simp[H],.v rfl⟩
  ·intro w'
   simp only[Builtin.lenOf,Sem.run_pure,uD,Dx]
   rfl
  ·intro n w' W T
   simp only[Builtin.firstCells,Nat.mul_one,Sem.run_pure]
   congr 1
   apply Hm
   simp only[Array.toList_map,ByteArray.data_extract,PM]
   rw[PW]
   simp[Lg]
 ·rename_i esz S cap
  cases h
  cases k with | cD cell E I R hm f X=>
  rename_i a c
  exact RD f (.inl J) E cell (λi j o p=>⟨L.mem _ _ _ (hm i j o p).1,(hm i j o p).2⟩) X
 ·rename_i r' d len cap
  split at h
  ·rename_i b H
   split at h
   ·rename_i I
    cases h
    obtain⟨y,hlen⟩:=I
    cases k with | cG U G E Q V W R D=>
    rename_i l a c
    have m:=L.at U D H
    obtain⟨C,B⟩:=getElems b.es d len hlen
    have q:0<len->a.off=d * b.esz:=by
     intro Y
     rcases Q with h | h
     ·omega
     ·rw[h,m.esz]
    have key : ∀i j,i<len->j<b.esz ->∃u,w.cell? ⟨a.block,a.off+(i * b.esz+j),none⟩=some u/\u.oneCell'=true /\∀e x,b.es[d+i]?=some e->e.cells[j]?=some x->VR M eB x u:=by
     intro i j o p
     have f:b.es[d+i]?=some b.es[d+i]:=fj (by omega)
     have N:=m.cells b.es[d+i] (mq _)
     obtain⟨u,hu,C,B⟩:=m.cell (d+i) f j _ (fj (by omega:j<b.es[d+i].cells.length))
     refine⟨u,?_,C,?_⟩
     ·rw[q (by omega),G,show d * b.esz+(i * b.esz+j)=(d+i) * b.esz+j by rw[nA];omega]
      exact hu
     ·intro e x t A
      rw[f]at t;cases t
      rw[fj (by omega:j<b.es[d+i].cells.length)]at A;cases A
      rw[bw.map,if_pos y]at B
      exact B
    let cell:Nat->Nat->Value:=λi j=>(w.cell? ⟨a.block,a.off+(i * b.esz+j),none⟩).getD undef
    have:=RD (P:=P) (M:=M) (w:=w) (es:=(b.es.drop d).take len) (z:=b.esz) (a:=a) (c:=c)
     (by intro e f;exact m.cells e (Hj (AQ f))) (.inl J) (.inl E) cell
     (by
      intro i j o p
      rw[C]at o
      obtain⟨u,F,K,_⟩:=key i j o p
      simp[cell,F,K])
     (by
      intro i j e x f k
      have o:i<len:=by have:=(iX.1 f).1;omega
      rw[B i o]at f
      have p:j<b.esz:=by
       rw[<-m.cells e (fU f)]
       exact(iX.1 k).1
      obtain⟨u,F,K,O⟩:=key i j o p
      simp only[cell,F,cY]
      exact O e x f k)
    rw[C]at this
    exact this
   ·cases h
  ·cases h
 ·cases h
inductive EU:Option Value->Option Int->Prop
 | none:EU none none
 | some (k n):EU (some (.int k n)) (some n)
theorem vI{tm:List AV}{a:Act}(h:TR M ι tm a){o:Option Operand}{x:Option Int}(b:mG tm o=some x):EU (o.map a.eval) x:=by
 cases o with
 | none=>simp only[mG,dT]at b;subst b;exact .none
 | some o=>
  simp only[mG]at b
  split at b
  ·rename_i n c
   injection b with b
   subst b
   simp only[iw]at c
   obtain⟨y,e,d⟩:=c
   obtain⟨k,f⟩:=zu (aT h e) d
   rw[Option.map_some,f]
   exact .some k n
  ·cases b
theorem FK{len c:Nat}{cap:Option Nat}(K:len<=c)(B : ∀k,cap=some k->c=k){G E D:Option Int}{l h:Nat}{I:Option Nat}(b:bounds len cap G E D=some (l,h,I))
 {q p u:Option Value} (A:EU q G) (H:EU p E) (N:EU u D) :
 l<=h/\h<=len /\∃m,h<=m/\m<=c/\(∀k,I=some k->m - l=k)/\(Instr.sliceBounds true len c q p u).run P w = .ok (l,h,m) w:=by
 have f : ∀(k:IntKind)(i:Int)(y:Nat)(a:BoundsCode),0<=i->i<=y->(Instr.sliceBound (.int k i) y a).run P w = .ok i.toNat w:=λk i y a=>run_sliceBound w k i y a
 cases N with
 | some F m=>
  cases H with
  | none=>simp[bounds]at b
  | some o d=>
   simp only[bounds]at b
   obtain⟨⟨n,j,x,C,Q⟩,b⟩:=fO.1 b
   simp only[dT,yJ]at b
   obtain⟨rfl,rfl,rfl⟩:=b
   have J:m<=c:=by
    cases cap with
    | none=>simp at C;omega
    | some k=>have:=B k rfl;simp at C;omega
   have R:((m.toNat:Nat):Int)=m:=Dw (by omega)
   have O:((d.toNat:Nat):Int)=d:=Dw (by omega)
   refine⟨by omega,by omega,m.toNat,by omega,by omega,by intro k e;cases e;rfl,?_⟩
   cases A with
   | none=>
    simp only[vR]at n j
    simp only[Instr.sliceBounds,Sem.run_bind,f F m c _ (by omega) (by omega),Result.andThen_ok,f o d m.toNat _ (by omega) (by omega),Sem.run_pure,vR]
    rfl
   | some t v=>
    simp only[cY]at n j
    simp only[Instr.sliceBounds,Sem.run_bind,f F m c _ (by omega) (by omega),Result.andThen_ok,f o d m.toNat _ (by omega) (by omega),f t v d.toNat _ (by omega) (by omega),Sem.run_pure,cY]
 | none=>
  simp only[bounds]at b
  obtain⟨⟨n,j,x⟩,b⟩:=fO.1 b
  simp only[dT,yJ]at b
  obtain⟨rfl,rfl,rfl⟩:=b
  refine⟨by omega,by omega,c,by omega,de _,?_,?_⟩
  ·intro k e
   simp only[bN]at e
   obtain⟨L,z,rfl⟩:=e
   rw[B L z]
  ·cases H with
   | none=>
    simp only[vR]at j x ⊢
    cases A with
    | none=>simp[Instr.sliceBounds]
    | some t v=>
     simp only[cY]at n j ⊢
     simp only[Instr.sliceBounds,Sem.run_bind,Sem.run_pure,Result.andThen_ok,f t v len _ (by omega) (by omega)]
     simp
   | some o d=>
    simp only[cY]at j x ⊢
    have O:((d.toNat:Nat):Int)=d:=Dw (by omega)
    cases A with
    | none=>
     simp only[vR]at n j ⊢
     simp only[Instr.sliceBounds,Sem.run_bind,Sem.run_pure,Result.andThen_ok,f o d c _ (by omega) (by omega)]
     simp
    | some t v=>
     simp only[cY]at n j ⊢
     simp only[Instr.sliceBounds,Sem.run_bind,Sem.run_pure,Result.andThen_ok,f o d c _ (by omega) (by omega),f t v d.toNat _ (by omega) (by omega)]
theorem vx{t e:TypeId}(i:P.underlying t=some (.slice e)){s:Nat}(k:aH P e=some s){a:Option Addr}{len c l h m:Nat}{d b f:Option Value}
 (j:(Instr.sliceBounds true len c d b f).run P w = .ok (l,h,m) w) :
 (Instr.sliceAt t (.slice a len c) d b f).run P w = .ok (.slice (if m=l then a else a.map (·.add (l * s))) (h - l) (m - l)) w:=by
 simp[Instr.sliceAt,bz i,Instr.slice,j,run_sizeOf k]
theorem Tl(hS:iv M ι g w){t:TypeId}{y x:AV}{u0:Value}(T:VR M ι y u0){lo q mx:Option Int}{J H R:Option Value}
 (L:EU J lo) (X:EU H q) (W:EU R mx)
 {bs:List bw} (h:ja P g t (some y) (some lo) (some q) (some mx)=some (x,bs)) :
 bs=[] /\∃u,(Instr.sliceAt t u0 J H R).run P w = .ok u w/\VR M ι x u:=by
 simp only[ja]at h
 split at h
 ·
  rename_i e
  cases e
  cases T
  obtain⟨n,h⟩:=fO.1 h
  simp only[bN]at h
  obtain⟨⟨l,f,O⟩,p,e⟩:=h
  cases e
  obtain⟨s,z⟩:=gU.1 n
  simp only[iw]at z
  obtain⟨e,A,z⟩:=z
  obtain⟨b1,b2,m,b3,b4,G,I⟩:=FK (P:=P) (w:=w) (de 0) (by intro k E;cases E;rfl) p L X W
  have e1:l=0:=by omega
  have Q:f=0:=by omega
  have e3:m=0:=by omega
  subst e1;subst Q;subst e3
  exact⟨rfl,_,vx (iU A) z I,.v rfl⟩
 ·
  rename_i s e
  cases e
  cases T
  obtain⟨n,h'⟩:=fO.1 h
  clear h
  simp only[aY,Option.isNone_iff_eq_none]at n
  obtain⟨n,rfl⟩:=n
  cases W
  obtain⟨⟨l,f,O⟩,p,e⟩:=bN.1 h'
  cases e
  have V:=uQ n
  have Y : ∀(k:IntKind)(i:Int)(y:Nat)(o:BoundsCode),0<=i->i<=y->(Instr.sliceBound (.int k i) y o).run P w = .ok i.toNat w:=λk i y o=>run_sliceBound w k i y o
  simp only[bounds]at p
  obtain⟨⟨C,B,S⟩,p⟩:=fO.1 p
  simp only[dT,yJ]at p
  obtain⟨rfl,rfl,rfl⟩:=p
  refine⟨rfl,.string (s.extract (lo.getD 0).toNat (q.getD s.size).toNat),?_,.v rfl⟩
  cases X with
  | none=>
   simp only[vR]at B S;try simp only[vR,cY]
   cases L with
   | none=>simp[Instr.sliceAt,bz V,Instr.slice,Instr.sliceBounds]
   | some kl ll=>
    simp only[cY]at C B;try simp only[vR,cY]
    simp[Instr.sliceAt,bz V,Instr.slice,Instr.sliceBounds,Y kl ll s.size _ C B]
  | some kh f=>
   simp only[cY]at B S;try simp only[vR,cY]
   have eh:((f.toNat:Nat):Int)=f:=Dw (by omega)
   cases L with
   | none=>
    simp only[vR]at C B;try simp only[vR,cY]
    simp[Instr.sliceAt,bz V,Instr.slice,Instr.sliceBounds,Y kh f s.size _ B S]
   | some kl ll=>
    simp only[cY]at C B;try simp only[vR,cY]
    simp[Instr.sliceAt,bz V,Instr.slice,Instr.sliceBounds,Y kh f s.size _ (by omega) S,Y kl ll f.toNat _ C (by omega)]
 ·
  rename_i esz es cap e
  cases e
  obtain⟨n,h⟩:=fO.1 h
  simp only[bN]at h
  obtain⟨⟨l,f,O⟩,p,e⟩:=h
  cases e
  simp only[iw]at n
  obtain⟨e,A,z⟩:=n
  cases T with | cD cell d U E hm hes hh'=>
  rename_i a c
  obtain⟨b1,b2,m,b3,b4,G,I⟩:=FK (P:=P) (w:=w) U E p L X W
  refine⟨rfl,_,vx (iU A) z I,?_⟩
  obtain⟨g1,g2⟩:=getElems es l (f - l) (by omega)
  have:=VR.cD (M:=M) (ι:=ι) (esz:=esz) (es:=(es.drop l).take (f - l)) (cap:=O) (a:=(if m=l then a else a.add (l * esz))) (c:=m - l) (λi j=>cell (l+i) j)
   (by
    rcases d with d | d
    ·left
     split
     ·exact d
     ·rw[lQ d,iW]
    ·right;subst d;simp) (by omega) G
   (by
    intro i j q hj
    rw[g1]at q
    have d:=d.resolve_right (by intro e;subst e;simp at b2 U;omega)
    rw[if_neg (by omega),lQ d,iW]
    have:=hm (l+i) j (by omega) hj
    rw[show a.off+((l+i) * esz+j)=a.off+l * esz+(i * esz+j) by rw[nA];omega]at this
    exact this)
   (by intro e A;exact hes e (Hj (AQ A)))
   (by
    intro i j e x q hx
    have hi':i<f - l:=by have:=(iX.1 q).1;omega
    rw[g2 i hi']at q
    exact hh' (l+i) j e x q hx)
  rw[g1]at this
  have Q:(if m=l then some a else (some a).map (·.add (l * esz)))=some (if m=l then a else a.add (l * esz)):=by split<;>rfl
  rw[Q]
  exact this
 ·
  rename_i r' off len cap e
  cases e
  split at h
  ·rename_i b hb'
   obtain⟨n,h⟩:=fO.1 h
   simp only[bN]at h
   obtain⟨⟨l,f,O⟩,p,e⟩:=h
   cases e
   simp only[iw]at n
   obtain⟨e,A,z⟩:=n
   cases T with | cG hr K d ha U hn E D=>
   rename_i lo' a c
   obtain⟨l',N,Z⟩:=hS.live r' b hb'
   rw[hr]at N;cases N
   obtain⟨b1,b2,m,b3,b4,G,I⟩:=FK (P:=P) (w:=w) U E p L X W
   refine⟨rfl,_,vx (iU A) z I,?_⟩
   have Q:(if m=l then some a else (some a).map (·.add (l * b.esz)))=some (if m=l then a else a.add (l * b.esz)):=by split<;>rfl
   rw[Q]
   show VR M ι (.cG r' (off+l) (f - l) O) _
   by_cases F:m=l
   ·rw[if_pos F]
    exact .cG hr K d (.inl (by omega)) (by omega) (.inl (by omega)) G D
   ·rw[if_neg F,lQ d,iW]
    refine .cG hr K rfl (.inr ?_) (by omega) (.inr ?_) G D
    ·rcases ha with h | h
     ·omega
     ·simp only[h,Z.esz,nA]
    ·rcases hn with h | h
     ·omega
     ·omega
  ·cases h
 ·cases h
theorem Ri{len c:Nat}(v:len<=c){j h:Option Int}(m:0<=j.getD 0)(f:j.getD 0<=h.getD len)(q:h.getD len<=c)
 {e d:Option Value} (t:EU e j) (u:EU d h) :
 (Instr.sliceBounds true len c e d none).run P w = .ok ((j.getD 0).toNat,(h.getD len).toNat,c) w:=by
 have l : ∀(k:IntKind)(i:Int)(y:Nat)(a:BoundsCode),0<=i->i<=y->(Instr.sliceBound (.int k i) y a).run P w = .ok i.toNat w:=λk i y a=>run_sliceBound w k i y a
 cases u with
 | none=>
  simp only[vR]at f q ⊢
  cases t with
  | none=>simp[Instr.sliceBounds]
  | some n o=>
   simp only[cY]at m f ⊢
   simp only[Instr.sliceBounds,Sem.run_bind,Sem.run_pure,Result.andThen_ok,l n o len _ (by omega) (by omega)]
   simp
 | some p b=>
  simp only[cY]at f q ⊢
  have x:((b.toNat:Nat):Int)=b:=Dw (by omega)
  cases t with
  | none=>
   simp only[vR]at m f ⊢
   simp only[Instr.sliceBounds,Sem.run_bind,Sem.run_pure,Result.andThen_ok,l p b c _ (by omega) (by omega)]
   simp
  | some n o=>
   simp only[cY]at m f ⊢
   simp only[Instr.sliceBounds,Sem.run_bind,Sem.run_pure,Result.andThen_ok,l p b c _ (by omega) (by omega),l n o b.toNat _ (by omega) (by omega)]
theorem Qw(hS:iv M ι g w){t:TypeId}{y x:AV}{X:Value}(Z:VR M ι y X){v d V:Option Int}{o n B:Option Value}
 (h1:EU o v) (h2:EU n d) (h3:EU B V)
 {T:List bw} (h:xk P g t (some y) (some v) (some d) (some V)=some (x,T)) :
 T=[] /\∃u,(Instr.sliceAt t X o n B).run P w = .ok u w/\VR M ι x u:=by
 unfold xk at h
 split at h
 ·rename_i H hi' r' F len cap I N W O
  simp only[dT]at I N W O
  subst I N W O
  cases h3
  split at h
  ·rename_i b J
   obtain⟨⟨U,Q,c2,D⟩,h⟩:=fO.1 h
   simp only[dT,yJ]at h
   obtain⟨rfl,rfl⟩:=h
   simp only[iw]at U
   obtain⟨e,he,hs⟩:=U
   cases Z with | cG K p q Y S hn R f=>
   rename_i H a c
   have j:((cap.getD len:Nat):Int)<=c:=by
    cases cap with
    | none=>simpa using S
    | some k=>rw[R k rfl];simp
   have z : ∀m:Nat,∀k,cap.map (· - m)=some k->c - m=k:=by
    intro m k G
    obtain⟨k0,E,rfl⟩:=bN.1 G
    rw[R k0 E]
   replace D:d.getD (len:Int)<=c:=Int.le_trans D j
   clear j
   obtain⟨l',A,C⟩:=hS.live r' b J
   rw[K]at A;cases A
   have b6:=Ri (P:=P) (w:=w) S Q c2 D h1 h2
   have I:(((v.getD 0).toNat:Nat):Int)=v.getD 0:=Dw Q
   have N:(((d.getD (len:Int)).toNat:Nat):Int)=d.getD len:=Dw (by omega)
   generalize (v.getD 0).toNat=l at *
   generalize (d.getD (len:Int)).toNat=hh at *
   refine⟨rfl,_,vx (iU he) hs b6,?_⟩
   have L:(if c=l then some a else (some a).map (·.add (l * b.esz)))=some (if c=l then a else a.add (l * b.esz)):=by split<;>rfl
   rw[L]
   show VR M ι (.cG r' (F+l) (hh - l) (cap.map (· - l))) _
   by_cases i:c=l
   ·rw[if_pos i]
    exact .cG K p q (.inl (by omega)) (by omega) (.inl (by omega)) (z l) f
   ·rw[if_neg i,lQ q,iW]
    refine .cG K p rfl (.inr ?_) (by omega) (.inr ?_) (z l) f
    ·rcases Y with h | h
     ·omega
     ·simp only[h,C.esz,nA]
    ·rcases hn with h | h
     ·omega
     ·omega
  ·cases h
 ·cases h
theorem VN(L:iv M ι g w){t tR:TypeId}{args:List AV}{us:List Value}(hv:mA M ι args us){x:AV}{V:List bw}(h:NW P g t args=some (x,V)) :
 V=[]/\x = .v (.bool false)/\(Extern.SlicesOverlaps.overlaps #[t,t] #[tR] us.toArray).run P w = .ok (.bool false) w:=by
 unfold NW at h
 split at h
 ·rename_i r u len cap r' p i cap' e he
  split at h
  ·rename_i b b' z hb B hz
   obtain⟨⟨D,h1,h2,h3⟩,h⟩:=fO.1 h
   simp only[dT,yJ]at h
   obtain⟨rfl,rfl⟩:=h
   refine⟨rfl,rfl,?_⟩
   obtain⟨hlen,d⟩:=hv
   match us,hlen,d with
   | [ua,ub],hlen,d=>
   have va:=d 0 _ ua rfl rfl
   have vb:=d 1 _ ub rfl rfl
   clear d hlen
   cases va with | cG hr j hsp ha hc hn hk E=>
   rename_i l a c
   cases vb with | cG y m W ha' hc' K hk' C=>
   rename_i Q a' N
   have Y:=iU he
   have X:=L.at hr E hb
   have hB:=L.at y C B
   obtain⟨arr,T,fz,S,J,o,_⟩:=X.heap
   obtain⟨arr',T',fz',I,A,hfz',_⟩:=hB.heap
   have R:l.b≠Q.b:=λe=>D (L.inj r r' b b' l Q hb B hr y e)
   have k : ∀w:World,(Go.sizeOf e).run P w = .ok z w:=λw=>run_sizeOf hz w
   show(Extern.SlicesOverlaps.overlaps #[t,t] #[tR] #[.slice (some a) len c,.slice (some a') i N]).run P w=_
   by_cases h0:len=0\/i=0
   ·have F:(len=0\/i=0\/z=0):=by omega
    have e2 : ∀ {G β:Type} (x:G) (f:G->Sem β),(pure x:Sem G).bind f=f x:=λ_ _=>rfl
    conv=>lhs;arg 2;whnf
    simp[Sem.run,Sem.bind,e2,Y,k,F]
   ·have hcn:u+c<=l.n:=by rcases hn with h | h<;>omega
    have Z:p+N<=Q.n:=by rcases K with h | h<;>omega
    have H:a.off=u * l.esz:=by rcases ha with h | h<;>omega
    have U:0<arr'.size:=by rw[A];exact Nat.mul_pos (by omega) (by omega)
    have O:a.off<arr.size:=by
     rw[H,J,X.esz]
     exact(Nat.mul_lt_mul_right (by omega)).2 (by omega)
    refine Lib.run_overlaps_apart (P:=P) w t tR e Y z k a a' len c i N (by rw[j,m];exact R) T T' arr.size arr'.size ?_ ?_ (by omega) ?_ ?_
    ·unfold World.shape?;rw[j,S]
    ·unfold World.shape?;rw[m,I]
    ·unfold World.frozen?
     rw[j,S]
     have:=o.1 a.off O
     obtain⟨f1,f2⟩:=fz
     simp only at this ⊢
     rw[PQ]
     simp only[decide_eq_false_iff_not]
     by_cases q:f1<=a.off
     ·exact .inr λq2=>this ⟨q,.inl q2⟩
     ·exact .inl q
    ·unfold World.frozen?
     simp only
     rw[j,S]
     have:=o.2 h1
     obtain⟨f1,f2⟩:=fz
     simp only at this ⊢
     rw[PQ]
     simp only[decide_eq_false_iff_not]
     by_cases q:f1<=arr.size
     ·exact .inr λq2=>this ⟨q,q2⟩
     ·exact .inl q
  ·cases h
 ·cases h
end
end
section
section
variable{P:Program}{M:Mem}{ι:Map}{g:cX}{w:World}{r:Ref}
structure Row (M:Mem) (z:Nat) (es:List AV) (us:List Value):Prop where
 len:us.length=es.length * z
 K5 : ∀e∈es,e.cells.length=z
 one : ∀x∈us,x.oneCell'=true
 vr : ∀(i j:Nat) e x,es[i]?=some e->e.cells[j]?=some x ->∃u,us[i * z+j]?=some u/\VR M eB x u
theorem Src.row{u z es us}(h:Src P M w u z es us):Row M z es us:=⟨h.len,h.K5,h.one,h.vr⟩
theorem Row.nil{z:Nat}:Row M z [] []:=⟨by simp,by simp,by simp,by intro i j e x h;simp at h⟩
theorem Row.append{z es us es' us'}(h:Row M z es us)(c:Row M z es' us'):Row M z (es++es') (us++us'):=by
 refine⟨by simp[h.len,c.len,nA],?_,?_,?_⟩
 ·intro e a
  rcases oH.1 a with b | b
  ·exact h.K5 e b
  ·exact c.K5 e b
 ·intro e a
  rcases oH.1 a with b | b
  ·exact h.one e b
  ·exact c.one e b
 ·intro i j e x a k
  rcases fE i es.length with d | d
  ·rw[oI d]at a
   obtain⟨u,hu,f⟩:=h.vr i j e x a k
   exact⟨u,by rw[oI (iX.1 hu).1];exact hu,f⟩
  ·rw[p4 d]at a
   obtain⟨u,hu,f⟩:=c.vr _ j e x a k
   have l:es.length * z<=i * z:=mY _ d
   refine⟨u,?_,f⟩
   rw[p4 (by rw[h.len];omega),h.len,show i * z+j - es.length * z=(i - es.length) * z+j by rw[Hn];omega]
   exact hu
theorem Row.cons{z es us e vs}(d:mA M eB e vs)(l:e.length=z)(m : ∀x∈vs,x.oneCell'=true)(y:AV)(k:y.cells=e)(h:Row M z es us):Row M z (y :: es) (vs++us):=by
 have:Row M z [y] vs:=by
  refine⟨by rw[<-d.1,l];simp,by intro n a;simp at a;subst a;rw[k];exact l,m,?_⟩
  intro i j n x b c
  cases i with
  | succ i=>simp at b
  | zero=>
   simp at b
   subst b
   rw[k]at c
   have f:j<vs.length:=by have:=(iX.1 c).1;rw[<-d.1];exact this
   exact⟨vs[j],by simp[f],d.2 j x vs[j] c (fj f)⟩
 exact this.append h
theorem Row.replicate{z:Nat}{y:AV}{u:Value}(h:VR M eB y u)(l:y.cells.length=z)(e:y.cells.all AV.one=true) : ∀n,Row M z (List.replicate n y) (List.replicate n u.cells.toList).flatten:=by
 intro n
 have b : ∀x∈u.cells.toList,x.oneCell'=true:=by
  intro x k
  obtain⟨j,d,c⟩:=tD k
  have f:=h.cells
  have a:j<y.cells.length:=by rw[f.1];exact d
  have:=f.2 j _ x (fj a) (by rw[<-c];exact fj d)
  exact this.one (by simp only[gy]at e;exact e _ (mq a))
 induction n with
 | zero=>exact Row.nil
 | succ n i=>rw[PK,PK,List.flatten_cons];exact Row.cons h.cells l b y rfl i
theorem Row.mono{z es us}{M':Mem}(h:Row M z es us)(d : ∀b o x,M b o=some x->M' b o=some x):Row M' z es us:=
 ⟨h.len,h.K5,h.one,λi j e x c a=>by obtain⟨u,hu,f⟩:=h.vr i j e x c a;exact⟨u,hu,f.mono d _ (λ_ _ h=>h)⟩⟩
theorem zJ(D:iv M ι g w)(o:r.k=0)(v:ι r=none){w':World}{arr:Array Value}{T:TypeId}{fz:Nat × Nat}(E:FP w w' (.cells arr T fz))
 {z:Nat} {es:List AV} {us:List Value} (a:Row M z es us) (d : ∀(k:Nat) u,us[k]?=some u->arr[k]?=some u) {n c:Nat} (h:arr.size=n * z)
 (f:ET z arr.size fz) (F:es.length<=c) (H:c<=n) {cap:Option Nat} (b : ∀k,cap=some k->c=k) (p:0<z) :
 jJ M ι g w r (.cG r 0 es.length cap) [⟨z,es,true,false⟩] (.slice (some ⟨w.heap.size,0,none⟩) es.length c) w':=by
 obtain⟨t,G⟩:=D.alloc (q:=r) v E ⟨z,es,true,false⟩ p n h f (by simp;omega) a.K5
  (by
   intro i j e x B A
   obtain⟨u,hu,C⟩:=a.vr i j e x B A
   exact⟨u,d _ _ hu,a.one u (fU hu),by simpa [bw.map] using C⟩)
 refine⟨M,_,?_,by rw[sT _ _ o];exact t,by rw[sT _ _ o];exact G,?_⟩
 ·exact .cG (l:=⟨w.heap.size,z,n⟩) (by simp[kS]) rfl rfl (.inr (by simp)) F (.inr (by simp;omega)) b p
 ·intro q m y
  have:q≠r:=by intro e;exact y 0 (by simp) (by rw[e];cases r;simp_all)
  simpa [kS,this] using m
def OC(M:Mem)(b:Nat)(us:List Value):Mem:=λb' o=>if b'=b then us[o]? else M b' o
theorem Ub(A:iv M ι g w){w':World}{arr:Array Value}{T:TypeId}{fz:Nat × Nat}(f:FP w w' (.cells arr T fz))
 {z:Nat} {es:List AV} {us:List Value} (d:Row M z es us) (t : ∀(k:Nat) u,us[k]?=some u->arr[k]?=some u) {c:Nat}
 (L:es.length<=c) {cap:Option Nat} (p : ∀k,cap=some k->c=k) :
 jJ M ι g w r (.cD z es cap) [] (.slice (some ⟨w.heap.size,0,none⟩) es.length c) w':=by
 have y : ∀b o x,M b o=some x->b<w.heap.size:=λb o x h=>World.block_lt_of_cell? w ⟨b,o,none⟩ (A.mem b o x h)
 have m : ∀b o x,M b o=some x->OC M w.heap.size us b o=some x:=by
  intro b o x h
  unfold OC
  rw[if_neg (Nat.ne_of_lt (y b o x h))]
  exact h
 have v:w'.heap[w.heap.size]?=some (.cells arr T fz):=by rw[f.heap];simp
 have B : ∀i j,i<es.length->j<z ->∃u,us[i * z+j]?=some u:=by
  intro i j D C
  exact⟨us[i * z+j]'(by rw[d.len];exact FA D C),fj _⟩
 refine⟨OC M w.heap.size us,ι,?_,?_,?_,λq E _=>E⟩
 ·refine VR.cD (M:=OC M w.heap.size us) (ι:=ι) (esz:=z) (es:=es) (cap:=cap) (a:=⟨w.heap.size,0,none⟩) (c:=c) (λi j=>(us[i * z+j]?).getD undef) (.inl rfl) L p ?_ d.K5 ?_
  ·intro i j D C
   obtain⟨u,hu⟩:=B i j D C
   simp only[OC,if_true,vQ,hu,cY]
   exact⟨trivial,d.one u (fU hu)⟩
  ·intro i j e x H G
   obtain⟨u,hu,I⟩:=d.vr i j e x H G
   simp only[hu,cY]
   exact I.mono m _ (λ_ _ h=>h)
 ·rw[nL]
  refine⟨?_,?_,A.inj⟩
  ·intro b o x h
   unfold OC at h
   split at h
   ·rename_i e;subst e;rw[lP v];exact t o x h
   ·exact f.cell (A.mem b o x h)
  ·intro r' k F
   obtain⟨l,J,n⟩:=A.live r' k F
   refine⟨l,J,n.bQ m (λ_ _ h=>h) (f.old _ n.lt) ?_⟩
   intro o x h
   unfold OC at h
   rw[if_neg (Nat.ne_of_lt n.lt)]at h
   exact n.frozen o x h
 ·rw[nL]
  refine⟨f.os,f.tape,f.output,by rw[f.heap];simp,λb n _=>f.old b n,m,λ_ _ h=>h,λr' k l h K => .inr ⟨r',k,l,h,K,rfl⟩,?_⟩
  intro b o x h
  unfold OC at h
  split at h
  ·rename_i e;exact .inr (.inl (by omega))
  ·exact .inl h
theorem jJ.after{R:List Ref}(k:wV g R=g)(e:iv M ι g w){x:AV}{b:List bw}{u:Value}{w':World}(h:jJ (nK M ι g w R) ι g w r x b u w'):jJ M ι g w r x b u w':=by
 obtain⟨_,c⟩:=BP (R:=R) e
 rw[k]at c
 obtain⟨M',a,i,d,f,j⟩:=h
 exact⟨M',a,i,d,c.trans f,j⟩
theorem Lv(l:iv M ι g w){a c:List (Nat × AV)}(h:eb g a=some c){qs:List (Nat × Value)}(t:a.length=qs.length)
 (hp : ∀(i:Nat) p q,a[i]?=some p->qs[i]?=some q->p.1=q.1/\VR M ι p.2 q.2) :
 c.length=qs.length /\∀(i:Nat) p q,c[i]?=some p->qs[i]?=some q->p.1=q.1/\VR (nK M ι g w (ck g (a.map (·.2)))) eB p.2 q.2:=by
 unfold eb at h
 refine⟨by rw[kj h,t],?_⟩
 intro i p q d b
 obtain⟨⟨k,x⟩,e,f⟩:=sA h i p d
 simp only[bN]at f
 obtain⟨y,m,rfl⟩:=f
 obtain⟨o,j⟩:=hp i _ q e b
 refine⟨o,Dz l depth x y q.2 m ?_ j⟩
 intro r n
 simp only[ck,tC,vd]
 exact⟨x,⟨(k,x),fU e,rfl⟩,n⟩
theorem Mq{z:Nat} : ∀(n:List (Nat × AV)) (qs:List (Nat × Value)) (es b:List AV) (us:Array Value),jb es n=some b->Row M z es us.toList ->
 n.length=qs.length->(∀(i:Nat) p q,n[i]?=some p->qs[i]?=some q->p.1=q.1/\VR M eB p.2 q.2)->(∀p∈n,p.2.cells.length=z/\p.2.cells.all AV.one=true) ->
 b.length=es.length /\∃l,Instr.fill (λi=>some (i * z,z)) us qs=some l/\Row M z b l.toList:=by
 intro n
 induction n with
 | nil=>
  intro qs es b us h a G hp J
  simp[jb]at h
  subst h
  cases qs with
  | nil=>exact⟨rfl,us,rfl,a⟩
  | cons q qs=>simp at G
 | cons p n X=>
  intro qs es b us h a G hp J
  cases qs with
  | nil=>simp at G
  | cons q qs=>
   obtain⟨i,v⟩:=p
   obtain⟨i',u⟩:=q
   obtain⟨T,S⟩:=hp 0 _ _ rfl rfl
   simp only at T S
   subst T
   simp only[jb]at h
   split at h
   ·rename_i R
    obtain⟨D,A⟩:=J _ (jB ..)
    simp only at D A
    have c:=S.cells
    have Q:u.cells.size=z:=by have:=c.1;simp at this;omega
    have K:us.size=es.length * z:=by have:=a.len;simpa using this
    have hle:i * z+z<=us.size:=by
     have:(i+1) * z<=es.length * z:=mY _ R
     rw[nA]at this
     omega
    have m:=ON (i * z) u.cells.toList 0 us (by simp;omega)
    have o:u.cells.zipIdx.foldl (λcs (p:Value × Nat)=>cs.setIfInBounds (i * z+p.2) p.1) us=cw us (i * z) u.cells.toList:=by
     rw[Ds]at m
     rw[<-m,<-PF,Array.toList_zipIdx]
    have F : ∀x∈u.cells.toList,x.oneCell'=true:=by
     intro x f
     obtain⟨j,C,H⟩:=tD f
     have E:j<v.cells.length:=by rw[c.1];exact C
     have:=c.2 j _ x (fj E) (by rw[<-H];exact fj C)
     exact this.one (by simp only[gy]at A;exact A _ (mq E))
    have y:Row M z (es.set i v) (cw us (i * z) u.cells.toList).toList:=by
     refine⟨?_,?_,?_,?_⟩
     ·simp only[Dx,Lj]
      rw[jn (by simp;omega),K]
     ·intro e d
      rcases List.mem_or_eq_of_mem_set d with h | h
      ·exact a.K5 e h
      ·rw[h];exact D
     ·intro x f
      simp only[cw,oH]at f
      rcases f with (h | h) | h
      ·exact a.one x (AQ h)
      ·exact F x h
      ·exact a.one x (Hj h)
     ·intro k j e x d f
      have Y:k<es.length:=by have:=(iX.1 d).1;simpa using this
      rw[Ko,iC (by simp;omega)]
      by_cases I:i=k
      ·subst I
       rw[MZ R]at d
       injection d with d
       subst d
       have C:j<v.cells.length:=(iX.1 f).1
       rw[if_pos ⟨by omega,by simp;omega⟩,Lr]
       have B:j<u.cells.toList.length:=by rw[<-c.1];exact C
       exact⟨u.cells.toList[j],fj B,c.2 j x _ f (fj B)⟩
      ·rw[MW I]at d
       have C:j<z:=by
        rw[<-a.K5 e (fU d)]
        exact(iX.1 f).1
       obtain⟨W,N,L⟩:=a.vr k j e x d f
       rw[if_neg]
       ·exact⟨W,by simpa using N,L⟩
       ·simp only[Dx,Q]
        rcases PG I with h | h
        ·have:(i+1) * z<=k * z:=mY _ h
         rw[nA]at this
         omega
        ·have:(k+1) * z<=i * z:=mY _ h
         rw[nA]at this
         omega
    obtain⟨V,l,Z,U⟩:=X qs (es.set i v) b (cw us (i * z) u.cells.toList) h y (by simpa using G) (λk p q t O=>hp (k+1) p q t O) (λp t=>J p (iA _ t))
    refine⟨by rw[V];simp,l,?_,U⟩
    simp only[Instr.fill]
    rw[if_neg (by simp;omega)]
    rw[<-Z,<-o]
   ·cases h
theorem BR{zs:Array Value}{n:Nat}(c:0<zs.size):((Array.range (n * zs.size)).map (zs[· % zs.size]!)).toList=(List.replicate n zs.toList).flatten:=by
 apply Lm
 intro k
 rcases fE k (n * zs.size)with a | a
 ·have b:k % zs.size<zs.size:=Nat.mod_lt _ c
  have f:k / zs.size<n:=(Nat.div_lt_iff_lt_mul c).2 a
  have e:((Array.range (n * zs.size)).map (zs[· % zs.size]!)).toList[k]?=some zs[k % zs.size]:=by
   simp[a,b,getElem!_pos]
  rw[e]
  have : ∀n k,k<n * zs.size->(List.replicate n zs.toList).flatten[k]?=zs.toList[k % zs.size]?:=by
   intro n
   induction n with
   | zero=>intro k a;simp at a
   | succ n d=>
    intro k a
    rw[PK,List.flatten_cons]
    rcases fE k zs.size with h | h
    ·rw[oI (by simpa using h),Nat.mod_eq_of_lt h]
    ·rw[p4 (by simpa using h),Dx,d (k - zs.size) (by rw[nA]at a;omega)]
     congr 1
     rw[<-Nat.mod_eq_sub_mod h]
  rw[this n k a]
  simp[b]
 ·rw[AR (by simpa using a),AR (by simpa using a)]
theorem I1{t:TypeId}{n:Nat}(S:iv M ι g w){f:List (Nat × AV)}{qs:Array (Nat × Value)}{b:bw}(h:mkSlice P g t n f=some b)(Q:f.length=qs.toList.length)
 (hp : ∀(i:Nat) p q,f[i]?=some p->qs.toList[i]?=some q->p.1=q.1/\VR M ι p.2 q.2) :
 b.arr=true/\b.kq=false/\b.es.length=n /\∃e arr,(Instr.buildSlice t n qs).run P w = .ok (.slice (some ⟨w.heap.size,0,none⟩) n n) (w.alloc (.cells arr e))/\arr.size=n * b.esz /\
  Row (nK M ι g w (ck g (f.map (·.2)))) b.esz b.es arr.toList:=by
 unfold mkSlice at h
 split at h
 ·cases h
 ·rename_i e L
  split at h
  ·rename_i J z s B N F
   obtain⟨K,h⟩:=fO.1 h
   obtain⟨W,X,R,I,C⟩:=K
   simp only[bN]at h
   obtain⟨es,A,rfl⟩:=h
   obtain⟨it,u,k,y,hu⟩:=wa N
   obtain⟨V,o,O⟩:=Af F
   rw[k]at o;cases o
   have j:=jX (M:=nK M ι g w (ck g (f.map (·.2)))) (ι:=eB) hu
   have x:u.cells.size=s:=by have:=j.cells.1;simp at this;omega
   have d:=Row.replicate j R I n
   obtain⟨H,U⟩:=Lv S B Q hp
   have c:Row (nK M ι g w (ck g (f.map (·.2)))) s (List.replicate n z) ((Array.range (n * s)).map (u.cells[· % u.cells.size]!)).toList:=by
    have:=BR (zs:=u.cells) (n:=n) (by omega)
    rw[x]at this
    rw[x,this]
    exact d
   obtain⟨E,m,T,G⟩:=Mq J qs.toList (List.replicate n z) es _ A c H U (by
    intro p l
    simp only[gy,aY,decide_eq_true_eq]at C
    exact⟨(C p l).1,by simp only[gy];exact(C p l).2⟩)
   refine⟨rfl,rfl,by simpa using E,e,m,?_,?_,G⟩
   ·have D : ¬16777216<n * s:=by omega
    have a:Instr.fill (λi=>some (i * s,s)) ((Array.range (n * s)).map ((if n * s=0 then #[] else u.cells)[· % (if n * s=0 then #[] else u.cells).size]!)) qs.toList=some m:=by
     rw[<-T]
     congr 1
     by_cases h:n * s=0
     ·simp[h]
     ·rw[if_neg h]
    simp only[Instr.buildSlice,Sem.run_bind,bz (iU L),Result.andThen_ok,run_sizeOf F,gt_iff_lt]
    rw[if_neg D]
    by_cases v:n * s=0
    ·rw[if_pos v]at a ⊢
     simp only[pure_bind]
     rw[a]
     simp[newRow]
    ·rw[if_neg v]at a ⊢
     simp only[Sem.run_bind,zeroValue,typeInfo,k,y,run_program,Result.andThen_ok,Sem.run_pure,a]
     simp[newRow]
   ·rw[<-Dx,G.len,E]
    simp
  ·cases h
theorem Ge{P:Program}{g:cX}{t:TypeId}{n:Nat}{a:List (Nat × AV)}{b:bw}(h:mkSlice P g t n a=some b):0<b.esz:=by
 unfold mkSlice at h
 split at h
 ·cases h
 ·split at h
  ·obtain⟨c,h⟩:=fO.1 h
   obtain⟨_,_,rfl⟩:=bN.1 h
   exact c.1
  ·cases h
theorem IP(y:iv M ι g w)(G:r.k=0)(F:ι r=none){d:Bool}{t:TypeId}{n:Nat}{l:List (Nat × AV)}{qs:Array (Nat × Value)}{x:AV}{B:List bw}
 (h:iB P d g r t n (some l)=some (x,B)) (H:l.length=qs.toList.length)
 (hp : ∀(i:Nat) p q,l[i]?=some p->qs.toList[i]?=some q->p.1=q.1/\VR M ι p.2 q.2) :
 ∃u w',(Instr.buildSlice t n qs).run P w = .ok u w'/\jJ M ι g w r x B u w':=by
 simp only[iB]at h
 obtain⟨z,h⟩:=fO.1 h
 simp only[bN]at h
 obtain⟨b,C,h⟩:=h
 obtain⟨K,J,A,e,arr,I,E,D⟩:=I1 y C H hp
 have j:=OM z
 obtain⟨f,_⟩:=BP (R:=ck g (l.map (·.2))) y
 rw[j]at f
 have a:FP w (w.alloc (.cells arr e)) (.cells arr e (0,0)):=⟨rfl,rfl,rfl,rfl⟩
 refine⟨_,_,I,jJ.after j y ?_⟩
 have o:b=⟨b.esz,b.es,true,false⟩:=by cases b;simp_all
 cases d with
 | true=>
  simp at h
  obtain⟨rfl,rfl⟩:=h
  have:=Ub (r:=r) f a D (λk u v=>by simpa using v) (c:=n) (by omega) (cap:=some n) (by intro k m;cases m;rfl)
  rw[A]at this
  exact this
 | false=>
  simp at h
  obtain⟨rfl,rfl⟩:=h
  have:=zJ f G F a D (λk u v=>by simpa using v) (n:=n) (c:=n) E (ET.zero _ _) (by omega) (de _) (cap:=some n) (by intro k m;cases m;rfl)
  rw[A,<-o]at this
  exact this (Ge C)
end
end
section
section
variable{P:Program}{M:Mem}{ι:Map}{g:cX}{w:World}{r:Ref}
inductive App (P:Program) (w:World) (t':Option TypeId) (x:Value) (e z:Nat) (n:Nat) (us:List Value):Prop
 | src {d:TypeDesc} (ht:t'.bind P.underlying=some d) (hd : ∀k,d ≠ .int k) (hl : ∀w':World,(Builtin.lenOf x).run P w' = .ok n w')
  (hf : ∀w':World,w'.heap=w.heap->(Builtin.firstCells z n x).run P w' = .ok us.toArray w')
 | zeros {k kx:IntKind} (u:Value) (ht:t'.bind P.underlying=some (.int k)) (hx:x = .int kx n) (hn:n<=bn) (hu : ∀w':World,(zeroValue e).run P w' = .ok u w') (hz:u.cells.size=z)
  (hus:us=(List.replicate n u.cells.toList).flatten)
theorem E5{n:Nat}(h:n<=bn):IntKind.i64.wrap (n:Int)=n:=by
 unfold bn at h
 exact IntWalk.i64_in n ⟨by omega,by omega⟩
theorem FR{u:Value}{n:Nat}:(Builtin.zeroCells u.cells n).toList=(List.replicate n u.cells.toList).flatten:=by
 unfold Builtin.zeroCells
 rcases Kn u.cells.size with h | h
 ·have:u.cells.toList=[]:=by simpa using M5 h
  simp[h,this]
 ·exact BR h
theorem GM{j:Array TypeId}{t:TypeId}{ty:TypeId}(q:j[0]?=some t){e z l:Nat}(p:P.underlying t=some (.slice e))(o:aH P e=some z)(v:pU P e=some l)
 {a:Option Addr} {len c:Nat} (h:len<=c) {x:Value} (E:App P w j[1]? x e z 0 []) :
 (Builtin.append_ j ty #[.slice a len c,x]).run P w = .ok (.slice a len c) w:=by
 simp only[pU,bN]at v
 obtain⟨i,y,rfl⟩:=v
 cases E with
 | src b hm D B=>
  rename_i d
  simp only[iw]at b
  obtain⟨t',f,b⟩:=b
  have m:=B w rfl
  have n:(match d with | .int _=>true | _=>false)=false:=by cases d<;>first | rfl | exact absurd rfl (hm _)
  cases a<;>simp[n,Builtin.append_,q,f,bz p,bz b,run_sizeOf o,D,h,m,storeCells]
 | zeros u b A F C H I=>
  rename_i k kx
  subst A
  simp only[iw]at b
  obtain⟨t',f,b⟩:=b
  have G:IntKind.i64.wrap 0=0:=by simpa using E5 F
  cases a<;>simp[Builtin.append_,q,f,bz p,bz b,run_sizeOf o,asInt,asIntOf,G,typeInfo,y,h,storeCells]
theorem wg{S:Array TypeId}{t:TypeId}{ty:TypeId}(N:S[0]?=some t){e z q:Nat}(L:P.underlying t=some (.slice e))(I:aH P e=some z)(Y:pU P e=some q)
 {F:Value} (m : ∀w':World,(zeroValue e).run P w' = .ok F w') (hzs:F.cells.size=z)
 {a:Option Addr} {len c n:Nat} {x:Value} {olds us:List Value} (G : ∀w':World,w'.heap=w.heap->(Builtin.firstCells z len (.slice a len c)).run P w' = .ok olds.toArray w')
 (hA:App P w S[1]? x e z n us) (Q:c<len+n) (b:(len+n) * q<=bn) (y:0<q) :
 ∃cap w',len+n<=cap/\(Builtin.append_ S ty #[.slice a len c,x]).run P w = .ok (.slice (some ⟨w.heap.size,0,none⟩) (len+n) cap) w' /\
  FP w w' (.cells (olds.toArray++us.toArray++Builtin.zeroCells F.cells (cap - (len+n))) e (0,0)):=by
 simp only[pU,bN]at Y
 obtain⟨i,R,rfl⟩:=Y
 have j : ¬(9223372036854775807<(len:Int)+(n:Int)):=by
  have:(len+n) * 1<=(len+n) * i.bytes:=Nat.mul_le_mul_left _ y
  unfold bn at b
  omega
 have v : ¬(281474976710656<Builtin.nextslicecap (len+n) c * i.bytes):=by
  have:=growslice_fits (need:=len+n) (old:=c) (bytes:=i.bytes) Q (by unfold bn at b;exact b)
  omega
 have p : ¬(len+n<=c):=by omega
 have f:=G w.drew rfl
 obtain⟨A,W⟩ : ∃A,A=olds.toArray:=⟨_,rfl⟩
 rw[<-W]at f ⊢
 refine⟨grownCap w (len+n) c e,w.drew.alloc (.cells (A++us.toArray++Builtin.zeroCells F.cells (grownCap w (len+n) c e - (len+n))) e (0,0)),grownCap_ge _ _ _ _,?_,⟨rfl,rfl,rfl,rfl⟩⟩
 cases hA with
 | src l hm hl hf=>
  rename_i d
  simp only[iw]at l
  obtain⟨t',o,l⟩:=l
  have C:=hf w.drew rfl
  obtain⟨B,K⟩ : ∃B,B=us.toArray:=⟨_,rfl⟩
  rw[<-K]at C ⊢
  have T:(match d with | .int _=>true | _=>false)=false:=by cases d<;>first | rfl | exact absurd rfl (hm _)
  simp[T,Builtin.append_,N,o,bz L,bz l,run_sizeOf I,hl,p,C,f,j,v,typeInfo,R,Question.forced,m,newRow,grownCap]
 | zeros u l Z hn J U O=>
  rename_i k kx
  subst Z
  simp only[iw]at l
  obtain⟨t',o,l⟩:=l
  have X:=E5 hn
  have e1:u=F:=by
   have V:=J w
   rw[m w]at V
   cases V
   rfl
  subst e1
  have H : ¬((n:Int)<0):=by omega
  have D : ¬(281474976710656<(n:Int) * (i.bytes:Int)):=by
   have V:n * i.bytes<=(len+n) * i.bytes:=mY _ (by omega)
   unfold bn at b
   have h2:((n * i.bytes:Nat):Int)=(n:Int) * (i.bytes:Int):=by simp
   omega
  have E:us.toArray=if n * z=0 then #[] else Builtin.zeroCells u.cells n:=by
   rw[O,<-FR]
   by_cases h:n * z=0
   ·rw[if_pos h]
    have:(Builtin.zeroCells u.cells n).size=0:=by rw[size_zeroCells,U,h]
    rw[Array.toArray_toList]
    exact M5 this
   ·rw[if_neg h]
  rw[E]
  by_cases h:n * z=0
  ·simp[Builtin.append_,N,o,bz L,bz l,run_sizeOf I,asInt,asIntOf,X,H,D,typeInfo,R,p,j,v,h,f,Question.forced,m,newRow,grownCap]
  ·simp[Builtin.append_,N,o,bz L,bz l,run_sizeOf I,asInt,asIntOf,X,H,D,typeInfo,R,p,j,v,h,f,Question.forced,m,newRow,grownCap]
theorem CI{J:Array TypeId}{t:TypeId}{ty:TypeId}(H:J[0]?=some t){e z v:Nat}(F:P.underlying t=some (.slice e))(D:aH P e=some z)(O:pU P e=some v)
 {b o len c n:Nat} {x:Value} {us:List Value} (W:App P w J[1]? x e z n us) (q:len+n<=c) (p:(len+n) * v<=bn)
 {arr:Array Value} {T:TypeId} {fz:Nat × Nat} (B:w.heap[b]?=some (.cells arr T fz)) (U:o+len * z+us.length<=arr.size) (C : ∀j,j<arr.size ->¬(fz.1<=j/\(j<fz.2\/fz.2<fz.1))) (Q : ∀u∈us,u.oneCell'=true) :
 (Builtin.append_ J ty #[.slice (some ⟨b,o,none⟩) len c,x]).run P w = .ok (.slice (some ⟨b,o,none⟩) (len+n) c) (bX w b (.cells (cw arr (o+len * z) us) T fz)):=by
 simp only[pU,bN]at O
 obtain⟨i,N,rfl⟩:=O
 have f:=m7 (P:=P) (o+len * z) us 0 arr w B (by simpa using U) C Q
 rw[Ds]at f
 cases W with
 | src l hm V S=>
  rename_i d
  simp only[iw]at l
  obtain⟨t',m,l⟩:=l
  have G:=S w rfl
  have K:(match d with | .int _=>true | _=>false)=false:=by cases d<;>first | rfl | exact absurd rfl (hm _)
  simp[K,Builtin.append_,H,m,bz F,bz l,run_sizeOf D,V,q,G,iW,f]
 | zeros u l R X E L I=>
  rename_i k kx
  subst R
  simp only[iw]at l
  obtain⟨t',m,l⟩:=l
  have B:=E5 X
  have A : ¬((n:Int)<0):=by omega
  have y : ¬(281474976710656<(n:Int) * (i.bytes:Int)):=by
   have Q:n * i.bytes<=(len+n) * i.bytes:=mY _ (by omega)
   unfold bn at p
   have Y:((n * i.bytes:Nat):Int)=(n:Int) * (i.bytes:Int):=by simp
   omega
  have a:us=(if n * z=0 then #[] else Builtin.zeroCells u.cells n).toList:=by
   rw[I,<-FR]
   by_cases h:n * z=0
   ·rw[if_pos h]
    have:(Builtin.zeroCells u.cells n).size=0:=by rw[size_zeroCells,L,h]
    rw[M5 this]
   ·rw[if_neg h]
  by_cases h:n * z=0
  ·rw[if_pos h]at a
   simp only[Array.toList_empty]at a
   rw[a]at f ⊢
   simp[Builtin.append_,H,m,bz F,bz l,run_sizeOf D,asInt,asIntOf,B,A,y,typeInfo,N,q,h,iW,f]
  ·rw[if_neg h]at a
   rw[a]at f ⊢
   simp[Builtin.append_,H,m,bz F,bz l,run_sizeOf D,asInt,asIntOf,B,A,y,typeInfo,N,q,h,E,iW,f]
end
end
section
section
variable{P:Program}{M:Mem}{ι:Map}{g:cX}{w:World}{r:Ref}
theorem Tm{t:TypeId}{y z x:AV}{p l:Value}(m:VR M ι y p)(q:VR M ι z l){o:List bw}(h:sx P t (some y) (some z)=some (x,o)) :
 o=[] /\∃u,(Instr.index t p l).run P w = .ok u w/\VR M ι x u:=by
 simp only[sx,fN]at h
 split at h
 ·rename_i k cs f a
  injection a with a
  subst a
  obtain⟨C,rfl⟩:=zu q f
  split at h
  ·rename_i n e A
   split at h
   ·rename_i s d
    obtain⟨c,h⟩:=fO.1 h
    simp only[kf,bN]at h
    obtain⟨F,i,he⟩:=h
    cases he
    obtain⟨G,rfl,j⟩:=m.Sq
    obtain⟨u,hu,B⟩:=RS (w:=w) j i
    exact⟨rfl,u,by simp[Instr.index,asIntOf,bz (GU A),c.1,c.2,run_sizeOf d,hu],B⟩
   ·cases h
  ·cases h
 ·rename_i k s f d
  injection d with d
  subst d
  obtain⟨C,rfl⟩:=zu q f
  cases m
  obtain⟨c,h⟩:=fO.1 h
  simp only[kf,bN]at h
  obtain⟨F,⟨b,E,rfl⟩,he⟩:=h
  cases he
  refine⟨rfl,.int .u8 b.toNat,?_,.v rfl⟩
  have D:=c.2
  simp[Instr.index,asIntOf,bz (uQ c.1),D,E]
 ·cases h
theorem VS{f:Fn}{a b:List AV}{j k:List Value}(l:mA M ι a j)(m:mA M ι b k){x:AV}{n:List bw}(h:gY f (some a) (some b)=some (x,n)) :
 n=[]/\VR M ι x (.func f j.toArray k.toArray):=by
 simp only[gY,dT,yJ]at h
 obtain⟨rfl,rfl⟩:=h
 exact⟨rfl,.fn (by simpa using l.1) (by simpa using m.1) (λi c u e d=>l.2 i c u e (by simpa using d)) (λi c u e d=>m.2 i c u e (by simpa using d))⟩
theorem VM{tm:List AV}{a:Act}(h:TR M ι tm a){c x y:Operand}{z:AV}{j:List bw}(d:IL (aK tm) c x y=some (z,j)) :
 j=[] /\∃u,(do pure (if <-asBool (a.eval c) then a.eval x else a.eval y):Sem Value).run P w = .ok u w/\VR M ι z u:=by
 unfold IL at d
 split at d
 ·rename_i e
  simp only[iw]at e
  obtain⟨k,f,b⟩:=e
  have:=Cn (aT h f) b
  simp only[kf,bN]at d
  obtain⟨l,i,he⟩:=d
  cases he
  exact⟨rfl,_,by simp[this,asBool],aT h i⟩
 ·rename_i e
  simp only[iw]at e
  obtain⟨k,f,b⟩:=e
  have:=Cn (aT h f) b
  simp only[kf,bN]at d
  obtain⟨l,i,he⟩:=d
  cases he
  exact⟨rfl,_,by simp[this,asBool],aT h i⟩
 ·cases d
theorem Yt{n:Array TypeId}{ty:TypeId}{y x:AV}{m:Value}(f:VR M ι y m){j:List bw}(h:abK P n[0]? y=some (x,j)) :
 j=[] /\∃u,(Builtin.cap_ n ty #[m]).run P w = .ok u w/\VR M ι x u:=by
 unfold abK at h
 split at h
 ·rename_i e b
  obtain⟨t,d,b⟩:=iw.1 b
  cases h
  cases f
  exact⟨rfl,goInt 0,by simp[Builtin.cap_,d,bz (iU b)],.v rfl⟩
 ·rename_i e z es k b
  obtain⟨t,d,b⟩:=iw.1 b
  cases h
  cases f with | cD cell q p i hm B G=>
  rename_i a c
  have:=i k rfl
  subst this
  exact⟨rfl,goInt c,by simp[Builtin.cap_,d,bz (iU b)],.v rfl⟩
 ·rename_i e r A len k b
  obtain⟨t,d,b⟩:=iw.1 b
  cases h
  cases f with | cG D F q C p E i o=>
  rename_i l a c
  have:=i k rfl
  subst this
  exact⟨rfl,goInt c,by simp[Builtin.cap_,d,bz (iU b)],.v rfl⟩
 ·cases h
theorem Yr{m:Array TypeId}{ty:TypeId}{y x:AV}{l:Value}(f:VR M ι y l){k:List bw}(h:J2 P m[0]? y=some (x,k)) :
 k=[] /\∃u,(Builtin.len_ m ty #[l]).run P w = .ok u w/\VR M ι x u:=by
 unfold J2 at h
 split at h
 ·cases h
 ·rename_i t c
  split at h
  ·rename_i n e o
   injection h with h
   injection h with d b
   subst d;subst b
   exact⟨rfl,goInt n,by simp[Builtin.len_,c,bz (GU o)],.v rfl⟩
  ·split at h
   ·rename_i j
    split at h
    ·injection h with h
     injection h with d b
     subst d;subst b
     cases f
     exact⟨rfl,goInt _,by simp[Builtin.len_,c,bz (uQ j)],.v rfl⟩
    ·cases h
   ·obtain⟨j,h⟩:=fO.1 h
    obtain⟨e,he⟩:=gU.1 j
    have i:=iU he
    simp only[bN]at h
    obtain⟨n,a,h⟩:=h
    injection h with d b
    subst d;subst b
    refine⟨rfl,goInt n,?_,.v rfl⟩
    unfold xz at a
    split at a
    ·injection a with a;subst a;cases f;simp[Builtin.len_,c,bz i]
    ·injection a with a;subst a;cases f;simp[Builtin.len_,c,bz i]
    ·injection a with a;subst a;cases f;simp[Builtin.len_,c,bz i]
    ·cases a
theorem K8{x:AV}{u:Value}{b:UInt8}(a:VR M ι x u)(h:byteOf x=some b) : ∃n:Int,u = .int .u8 n/\b=UInt8.ofNat n.toNat:=by
 unfold byteOf at h
 split at h
 ·injection h with h
  cases a
  exact⟨_,rfl,h.symm⟩
 ·cases h
theorem Ra : ∀(a:List Int)(s:ByteArray),a.foldl (λr n=>r.push (UInt8.ofNat n.toNat)) s=⟨s.data++(a.map λn=>UInt8.ofNat n.toNat).toArray⟩:=by
 intro a
 induction a with
 | nil=>intro s;simp
 | cons n a b=>
  intro s
  rw[w8,b]
  simp[ByteArray.push]
theorem N1(O:iv M ι g w)(hr:r.k=0)(hq:ι r=none){K Q:TypeId}{y x:AV}{u0:Value}(S:VR M ι y u0){bs:List bw}(h:gB P g r K Q (some y)=some (x,bs)) :
 ∃u w',(Go.convert K Q u0).run P w = .ok u w'/\jJ M ι g w r x bs u w':=by
 unfold gB at h
 split at h
 ·rename_i e
  injection e with e
  subst e
  cases S
  obtain⟨p,h⟩:=fO.1 h
  simp only[aY]at p
  obtain⟨e,D,F⟩:=sJ p.1
  injection h with h
  injection h with I W
  subst I;subst W
  exact⟨.string .empty,w,by rw[run_convert_bytes_string w K Q e none 0 0 D F (uQ p.2)];rfl,jJ.same O (.v rfl)⟩
 ·rename_i s e
  injection e with e
  subst e
  cases S
  split at h
  ·rename_i p
   simp only[aY]at p
   injection h with h
   injection h with I W
   subst I;subst W
   exact⟨.string s,w,by simp[Go.convert,bz (uQ p.1),bz (uQ p.2)],jJ.same O (.v rfl)⟩
  ·split at h
   ·rename_i p
    simp only[aY]at p
    obtain⟨hrm,h⟩:=fO.1 h
    injection h with h
    injection h with I W
    subst I;subst W
    obtain⟨e,D,F⟩:=sJ p.2
    have hrun:=run_bytes_of_string (P:=P) w K Q e s (uQ p.1) D F
    have hcap:=grownCap_ge w s.size 0 e
    have hrow:Row M 1 (s.data.toList.map λb=>AV.v (.int .u8 b.toNat)) (s.data.toList.map λb=>Value.int .u8 b.toNat):=by
     refine⟨by simp,?_,?_,?_⟩
     ·intro e J
      simp only[vd]at J
      obtain⟨b,_,rfl⟩:=J
      rfl
     ·intro x hx
      simp only[vd]at hx
      obtain⟨b,_,rfl⟩:=hx
      rfl
     ·intro i j e x J hx
      simp only[pG,bN]at J
      obtain⟨b,hb,rfl⟩:=J
      cases j with
      | succ j=>simp[AV.cells]at hx
      | zero=>
       simp[AV.cells]at hx
       subst hx
       exact⟨.int .u8 b.toNat,by simp[hb],.v rfl⟩
    have X:(bytesRow s (grownCap w s.size 0 e)).size=grownCap w s.size 0 e:=by
     have:s.data.size=s.size:=rfl
     simp[bytesRow]
     omega
    have:=zJ O hr hq (w':=w.drew.alloc (.cells (bytesRow s (grownCap w s.size 0 e)) e ((bytesRow s (grownCap w s.size 0 e)).size,(bytesRow s (grownCap w s.size 0 e)).size+1)))
     ⟨rfl,rfl,rfl,rfl⟩ hrow (by
      intro k u hu
      have E:=(iX.1 hu).1
      unfold bytesRow
      rw[PX (by simpa using E)]
      rw[<-hu]
      simp) (n:=grownCap w s.size 0 e) (c:=grownCap w s.size 0 e) (by rw[X];simp) ⟨by intro o ho h;simp only at h;omega,λh=>absurd h (by decide)⟩ (by simpa using hcap) (de _) (cap:=none) (by intro k E;cases E) Nat.one_pos
    simp only[uD,Dx]at this
    exact⟨_,_,hrun,this⟩
   ·cases h
 ·rename_i v hne1 hne2 e
  injection e with e
  subst e
  simp only[kf,bN,iw]at h
  obtain⟨z,⟨u,hu,hz⟩,J⟩:=h
  cases J
  cases S
  exact⟨u,w,oT hu w,jJ.same O (oV hz)⟩
 ·rename_i y' hne1 hne2 R e
  injection e with e
  subst e
  split at h
  ·rename_i p
   simp only[aY]at p
   obtain⟨e,D,F⟩:=sJ p.1
   split at h
   ·rename_i z es d
    simp only[bN]at h
    obtain⟨l,hl,h⟩:=h
    injection h with I W
    subst I;subst W
    have hz1:z=1\/es=[]:=by
     cases es with
     | nil=>exact .inr rfl
     | cons e0 es0=>
      left
      obtain⟨b,_,hb⟩:=lL hl 0 e0 rfl
      unfold byteOf at hb
      split at hb
      ·rename_i n
       cases S with
       | cD cell hs hcc' E hm J hh=>
        simp only[cT,dT,yJ]at d
        obtain⟨rfl,rfl⟩:=d
        have:=J _ (jB ..)
        simpa [AV.cells] using this.symm
       | cG U hb' hs ha hcc' hn E G=>
        rename_i r1 off1 Mg cap1 l1 a1 c1
        simp only[cT]at d
        split at d
        ·rename_i b1 N
         obtain⟨L,d⟩:=fO.1 d
         injection d with d
         injection d with h3 Z
         have C:=O.at U G N
         have hmem:(AV.v (.int .u8 n))∈b1.es:=by
          have:(AV.v (.int .u8 n))∈(b1.es.drop off1).take Mg:=by rw[Z];exact jB ..
          exact Hj (AQ this)
         have:=C.cells _ hmem
         rw[<-h3,<-this]
         rfl
        ·cases d
       | v hv=>exact absurd rfl (R _)
       | _=>simp[cT]at d
      ·cases hb
    have hlen:=kj hl
    obtain⟨a,n,c,rfl,hn,A⟩ : ∃a n c,u0 = .slice (some a) n c/\es.length=n /\∀j,j<n ->∃b:Int,w.cell? (a.add j)=some (.int .u8 b)/\l[j]?=some (UInt8.ofNat b.toNat):=by
     rcases hz1 with rfl | rfl
     ·obtain⟨us,hsrc⟩:=o6 (P:=P) O S (Nat.one_pos) d
      cases S with
      | cD cell hs p E hm J hh=>
       rename_i esz H cap a c
       simp only[cT,dT,yJ]at d
       obtain⟨rfl,rfl⟩:=d
       refine⟨a,H.length,c,rfl,rfl,?_⟩
       intro j t
       have V:=fj t
       obtain⟨b,N,B⟩:=lL hl j _ V
       have hcl:=J _ (mq t)
       have hbv:H[j].cells=[H[j]]:=by
        unfold byteOf at B
        split at B
        ·rename_i heq;rw[heq];rfl
        ·cases B
       have hvr:=hh j 0 _ _ V (show H[j].cells[0]?=some H[j] by rw[hbv];rfl)
       obtain⟨nb,hnb,rfl⟩:=K8 hvr B
       refine⟨nb,?_,N⟩
       have:=O.mem _ _ _ (hm j 0 t (by omega)).1
       rw[lQ (hs.resolve_right (by intro e;subst e;simp at t)),iW]
       rw[hnb]at this
       simpa using this
      | cG U hb' hs ha p hn E G=>
       rename_i r1 m len cap l1 a c
       simp only[cT]at d
       split at d
       ·rename_i b1 N
        obtain⟨L,d⟩:=fO.1 d
        injection d with d
        injection d with h3 Z
        subst Z
        have C:=O.at U G N
        obtain⟨g1,g2⟩:=getElems b1.es m len L.2
        refine⟨a,len,c,rfl,g1,?_⟩
        intro j t
        have V:((b1.es.drop m).take len)[j]?=some b1.es[m+j]:=by rw[g2 j t];exact fj (by omega)
        obtain⟨b,hb1',B⟩:=lL hl j _ V
        have hcl:=C.cells _ (mq (by omega:m+j<b1.es.length))
        have hbv:b1.es[m+j].cells=[b1.es[m+j]]:=by
         unfold byteOf at B
         split at B
         ·rename_i heq;rw[heq];rfl
         ·cases B
        obtain⟨u,hu1,hu2,hu3⟩:=C.cell (m+j) (fj (by omega)) 0 b1.es[m+j] (by rw[hbv];rfl)
        obtain⟨nb,hnb,rfl⟩:=K8 hu3 B
        refine⟨nb,?_,hb1'⟩
        have hoff:a.off=m * l1.esz:=by
         rcases ha with h | h
         ·omega
         ·exact h
        rw[lQ hs,iW,hb',hoff,C.esz,h3]
        rw[h3,hnb]at hu1
        simp only[Nat.mul_one,Ds]at hu1 ⊢
        exact hu1
       ·cases d
      | v hv=>exact absurd rfl (R _)
      | _=>simp[cT]at d
     ·cases S with
      | cD cell hs p E hm J hh=>
       rename_i esz H cap a c
       simp only[cT,dT,yJ]at d
       obtain⟨rfl,rfl⟩:=d
       exact⟨a,0,c,rfl,rfl,λj t=>by omega⟩
      | cG U hb' hs ha p hn E G=>
       rename_i r1 m len cap l1 a c
       simp only[cT]at d
       split at d
       ·obtain⟨L,d⟩:=fO.1 d
        injection d with d
        injection d with h3 Z
        have:len=0:=by
         have:=(getElems _ m len L.2).1
         rw[Z]at this
         simpa using this.symm
        exact⟨a,len,c,rfl,by simp[this],λj t=>by omega⟩
       ·cases d
      | v hv=>exact absurd rfl (R _)
      | _=>simp[cT]at d
    refine⟨.string ⟨l.toArray⟩,w,?_,jJ.same O (.v rfl)⟩
    rw[run_convert_bytes_string w K Q e (some a) n c D F (uQ p.2)]
    let f:Nat->Int:=λj=>if h:j<n then (A j h).choose else 0
    have hf1 : ∀j,j<n->w.cell? (a.add j)=some (.int .u8 (f j)):=λj t=>by simp only[f,dif_pos t];exact(A j t).choose_spec.1
    have hf2 : ∀j,j<n->l[j]?=some (UInt8.ofNat (f j).toNat):=λj t=>by simp only[f,dif_pos t];exact(A j t).choose_spec.2
    have Y:=run_loadCells (P:=P) w a n (λj => .int .u8 (f j)) (λj t=>hf1 j t)
    have hns:(loadCells a n).run P w = .ok (((List.range n).map f).map (Value.int .u8)).toArray w:=by rw[Y];simp
    rw[run_bytesToString w a n c _ hns,Ra]
    have:((List.range n).map f).map (λn=>UInt8.ofNat n.toNat)=l:=by
     apply Lm
     intro j
     rcases fE j n with t | t
     ·rw[hf2 j t];simp[t]
     ·rw[AR (by simpa using t),AR (by omega)]
    rw[this]
    have he0:ByteArray.empty.data = #[]:=rfl
    rw[he0]
    simp
   ·cases h
  ·replace h:=fO.1 h
   obtain⟨p,h⟩:=h
   simp only[aY,beq_iff_eq]at p
   obtain⟨he0,p⟩:=p
   subst he0
   obtain⟨e,D,F⟩:=sJ p
   cases y with
   | cG r' m len cap=>
    obtain⟨k,E,hk1,h⟩ : ∃k,g r'=some k/\k.esz=1/\some (AV.cG r' m len cap,([]:List bw))=some (x,bs):=by
     cases E:g r' with
     | none=>simp only[E]at h;cases h
     | some k=>
      simp only[E]at h
      obtain⟨I,h⟩:=fO.1 h
      exact⟨k,rfl,I,h⟩
    injection h with h;injection h with I W;subst I;subst W
    have hy0:=S
    cases S with | cG hrl hbb hsp ha L hn hkk G=>
    rename_i l a c
    have C:=O.at hrl G E
    obtain⟨arr,T,fz,hh,hsz,hfz,hcells⟩:=C.heap
    have hlt:=C.lt
    have hfr:w.freeze ⟨a.block,arr.size,none⟩ 1=bX w l.b (.cells arr T (if fz.1 == fz.2 then (arr.size,arr.size+1) else (min fz.1 arr.size,max fz.2 (arr.size+1)))):=by
     unfold World.freeze bX
     rw[if_neg (by decide)]
     congr 1
     apply FY
     intro i
     rw[MX,hbb]
     by_cases hi:l.b=i
     ·subst hi
      rw[if_pos rfl,hh,Hk hlt]
      rfl
     ·rw[if_neg hi,CC hi]
    have hfz' : ∀o,o<arr.size ->¬((if fz.1 == fz.2 then (arr.size,arr.size+1) else (min fz.1 arr.size,max fz.2 (arr.size+1)):Nat × Nat).1<=o/\(o<(if fz.1 == fz.2 then (arr.size,arr.size+1) else (min fz.1 arr.size,max fz.2 (arr.size+1)):Nat × Nat).2\/(if fz.1 == fz.2 then (arr.size,arr.size+1) else (min fz.1 arr.size,max fz.2 (arr.size+1)):Nat × Nat).2<(if fz.1 == fz.2 then (arr.size,arr.size+1) else (min fz.1 arr.size,max fz.2 (arr.size+1)):Nat × Nat).1)):=by
     intro o ho
     split
     ·simp only;omega
     ·rename_i hne
      simp only[beq_iff_eq]at hne
      have I:arr.size<=fz.1:=by
       rcases fE fz.1 arr.size with h | h
       ·exact absurd ⟨de _,by omega⟩ (hfz.1 fz.1 h)
       ·exact h
      simp only
      omega
    obtain⟨h3,Z⟩:=O.mark E hrl hh hfr ⟨hfz',λI=>by omega⟩
    refine⟨.slice (some a) len c,_,?_,M,ι,hy0,by rw[nL];exact h3,by rw[nL];exact Z,λq hq _=>hq⟩
    have hsh:w.shape? a.block=some (T,arr.size):=by
     unfold World.shape?
     rw[hbb,hh]
    simp[Go.convert,bz D,bz F,markStringish,hsh]
   | _=>cases h
 ·rename_i e;cases e
theorem VO(hS:iv M ι g w)(hr:r.k=0)(hq:ι r=none){t:TypeId}{y z x:AV}{Z V:Value}(hy:VR M ι y Z)(hz:VR M ι z V){X:List bw}(h:Gb P r t (some y) (some z)=some (x,X)) :
 ∃u w',(Instr.makeSlice t Z V).run P w = .ok u w'/\jJ M ι g w r x X u w':=by
 unfold Gb at h
 simp only[fN]at h
 split at h
 ·rename_i e l c Y hl hc
  obtain⟨kl,rfl⟩:=zu hy hl
  obtain⟨kc,rfl⟩:=zu hz hc
  split at h
  ·rename_i zv s b O Q hb
   obtain⟨B,h⟩:=fO.1 h
   obtain⟨W,c2,c3,c4,c5,U,c7⟩:=B
   injection h with h
   injection h with h1 h2
   subst h1;subst h2
   obtain⟨it,u,j,S,hu⟩:=wa O
   obtain⟨i',F,hsz⟩:=Af Q
   rw[j]at F;cases F
   simp only[pU,j,Option.map_some,dT]at hb
   have q:=jX (M:=M) (ι:=eB) hu
   have L:u.cells.size=s:=by have:=q.cells.1;simp at this;omega
   obtain⟨m,rfl⟩:=M4 W
   obtain⟨a,rfl⟩:=M4 (Int.le_trans W c2)
   have J:IntKind.i64.wrap (m:Int)=m:=IntWalk.i64_in _ ⟨by omega,by omega⟩
   have I:IntKind.i64.wrap (a:Int)=a:=IntWalk.i64_in _ ⟨by omega,by omega⟩
   have D : ¬((a:Int)<0):=by omega
   have o : ¬(281474976710656<(it.bytes:Int) * (a:Int)):=by
    rw[hb,Int.mul_comm]
    have e1:((bn:Nat):Int)=140737488355328:=rfl
    omega
   have H : ¬((m:Int)<0):=by omega
   have G : ¬((a:Int)<(m:Int)):=by omega
   have f:=BR (zs:=u.cells) (n:=a) (by omega)
   rw[L]at f
   have d:((Array.range (a * s)).map ((if a * s=0 then #[] else u.cells)[· % (if a * s=0 then #[] else u.cells).size]!)).toList=(List.replicate a u.cells.toList).flatten:=by
    by_cases K:a * s=0
    ·have R:a=0:=by
      rcases Nat.mul_eq_zero.1 K with h | h
      ·exact h
      ·omega
     simp[R]
    ·rw[if_neg K,L];exact f
   obtain⟨arr,i⟩ : ∃arr,arr=(Array.range (a * s)).map ((if a * s=0 then #[] else u.cells)[· % (if a * s=0 then #[] else u.cells).size]!):=⟨_,rfl⟩
   rw[<-i]at d
   have A:=Row.replicate q U c7 a
   have p:arr.size=a * s:=by rw[<-Dx,d];have:=A.len;simpa using this
   have C:(Instr.makeSlice t (.int kl m) (.int kc a)).run P w = .ok (.slice (some ⟨w.heap.size,0,none⟩) m a) (w.alloc (.cells arr e)):=by
    subst i
    by_cases K:a * s=0
    ·simp[Instr.makeSlice,bz (iU Y),asInt,asIntOf,typeInfo,j,J,I,D,o,H,G,run_sizeOf Q,K,newRow]
    ·simp[Instr.makeSlice,bz (iU Y),asInt,asIntOf,typeInfo,j,J,I,D,o,H,G,run_sizeOf Q,K,newRow,zeroValue,S]
   refine⟨_,_,C,?_⟩
   have E:=Row.replicate q U c7 m
   have:=zJ hS hr hq (w':=w.alloc (.cells arr e)) ⟨rfl,rfl,rfl,rfl⟩ E (by
    intro k v N
    rw[<-Ko,d]
    have T:(List.replicate a u.cells.toList)=List.replicate m u.cells.toList++List.replicate (a - m) u.cells.toList:=by rw[List.replicate_append_replicate];congr 1;omega
    rw[T,List.flatten_append,oI (iX.1 N).1]
    exact N) (n:=a) (c:=a) p (ET.zero _ _) (by simp;omega) (de _) (cap:=none) (by intro k N;cases N) c5
   simpa using this
  ·cases h
 ·cases h
end
end
section
section
variable{P:Program}{M:Mem}{ι:Map}{g:cX}{w:World}{r:Ref}
theorem I0(X:iv M ι g w){t':Option TypeId}{e z:Nat}(hz:aH P e=some z)(E:0<z){x:AV}{S:Value}(B:VR M ι x S){new:List AV}
 (R : ¬((t'.bind P.underlying).isNone=true\/(t'.map (isInt P)).getD false≠isNum x)) (h:ql P g e x=some (z,new)) : ∃us,Row M z new us/\App P w t' S e z new.length us:=by
 have I : ∃d,t'.bind P.underlying=some d/\(isNum x=false ->∀k,d ≠ .int k)/\(isNum x=true ->∃k,d = .int k):=by
  have f : ¬(t'.bind P.underlying).isNone=true:=λh=>R (.inl h)
  have b:(t'.map (isInt P)).getD false=isNum x:=Bs.1 λh=>R (.inr h)
  cases t' with
  | none=>simp at f
  | some t=>
   simp only[fN]at f ⊢
   cases hu:P.underlying t with
   | none=>simp[hu]at f
   | some d=>
    simp only[Option.map_some,cY]at b
    refine⟨d,rfl,?_,?_⟩
    ·intro L k y
     subst y
     rw[L]at b
     simp[isInt,hu]at b
    ·intro L
     rw[L]at b
     obtain⟨k,y⟩:=WI b
     rw[hu]at y
     exact⟨k,by simpa using y⟩
 obtain⟨d,H,j,K⟩:=I
 unfold ql at h
 split at h
 ·simp only[bN]at h
  obtain⟨O,N,h⟩:=h
  injection h with f b
  subst b
  cases B
  exact⟨[],Row.nil,.src H (j rfl) (λw'=>rfl) (λw' _=>rfl)⟩
 ·rename_i k n
  split at h
  ·rename_i wv O D N
   obtain⟨c,h⟩:=fO.1 h
   injection h with h
   injection h with f b
   subst f;subst b
   obtain⟨U,Y,T,W⟩:=c
   obtain⟨m,rfl⟩:=M4 U
   obtain⟨k',rfl⟩:=K rfl
   cases B
   obtain⟨u,q,A⟩:=zg D w
   have C : ∀w':World,(zeroValue e).run P w' = .ok u w':=by
    intro w'
    obtain⟨u',f,b⟩:=zg D w'
    obtain⟨it,v,l,o,J⟩:=wa D
    have V:(zeroValue e).run P w = .ok v w:=by simp[zeroValue,typeInfo,l,o]
    have Z:(zeroValue e).run P w' = .ok v w':=by simp[zeroValue,typeInfo,l,o]
    rw[V]at q
    cases q
    exact Z
   have J:=jX (M:=M) (ι:=eB) A
   have F:u.cells.size=O:=by have:=J.cells.1;simp at this;omega
   refine⟨_,Row.replicate J T W m,?_⟩
   rw[PC]
   exact .zeros (kx:=k) u H (by simp) (by simpa using Y) C F (by simp)
  ·cases h
 ·rename_i Q p
  have i:isNum x=false:=by
   unfold isNum
   split
   ·exact absurd rfl (p _ _)
   ·rfl
  obtain⟨us,a⟩:=o6 (P:=P) X B E h
  refine⟨us,a.row,.src H (j i) a.lenOf λw' G=>?_⟩
  have:=a.first new.length w' (de _) G
  rwa [fe (by rw[a.len];exact de _)]at this
theorem C0{e z:Nat}(f:aH P e=some z){y:AV}(c:eI P e=some y)(h:y.cells.length=z) : ∃u,(∀w':World,(zeroValue e).run P w' = .ok u w')/\u.cells.size=z:=by
 obtain⟨it,v,b,a,d⟩:=wa c
 refine⟨v,λw'=>by simp[zeroValue,typeInfo,b,a],?_⟩
 have:=(jX (M:=λ_ _=>none) (ι:=eB) d).cells.1
 simp at this
 omega
theorem BN{olds us:List Value}{b:Value}{z n1 n2 cap:Nat}(e:olds.length=n1 * z)(d:us.length=n2 * z)(f:b.cells.size=z)(h:n1+n2<=cap) :
 (olds.toArray++us.toArray++Builtin.zeroCells b.cells (cap - (n1+n2))).size=cap * z /\
 ∀(k:Nat) u,(olds++us)[k]?=some u->(olds.toArray++us.toArray++Builtin.zeroCells b.cells (cap - (n1+n2)))[k]?=some u:=by
 constructor
 ·simp only[Array.size_append,List.size_toArray,size_zeroCells,f,e,d,<-nA]
  congr 1
  omega
 ·intro k u c
  have a:=(iX.1 c).1
  rw[PX (by simpa using a)]
  simpa using c
theorem Cj{a:Option Addr}{len c z:Nat}{es:List AV}{us:List Value}{u:Value}(d:u = .slice a len c)(e:es.length=len)(h:Src P M w u z es us) :
 ∀w':World,w'.heap=w.heap->(Builtin.firstCells z len (.slice a len c)).run P w' = .ok us.toArray w':=by
 intro w' b
 have:=h.first es.length w' (de _) b
 rw[fe (by rw[h.len];exact de _),d,e]at this
 exact this
theorem QA(K:iv M ι g w)(hr:r.k=0)(hq:ι r=none){Z:Array TypeId}{ty:TypeId}{s x y:AV}{us ux:Value}(U:VR M ι s us)(hx:VR M ι x ux){bs:List bw}
 (h:jL P g r Z[0]? Z[1]? s x=some (y,bs)) : ∃u w',(Builtin.append_ Z ty #[us,ux]).run P w = .ok u w'/\jJ M ι g w r y bs u w':=by
 unfold jL at h
 split at h
 ·cases h
 ·rename_i e he
  simp only[iw]at he
  obtain⟨t,ht,he⟩:=he
  have hu:=iU he
  split at h
  ·cases h
  ·rename_i hc
   split at h
   ·rename_i z W zz J new hz hb hzz hnew
    split at h
    ·cases h
    ·rename_i i
     have V:J=z:=Bs.1 λh=>i (.inl h)
     have D:0<z:=CA λh=>i (.inr (.inl h))
     have hb0:0<W:=CA λh=>i (.inr (.inr (.inl h)))
     have R:zz.cells.length=z:=Bs.1 λh=>i (.inr (.inr (.inr h)))
     have hez':=V
     subst V
     obtain⟨X,q,hA⟩:=I0 (w:=w) K hz D hx hc hnew
     have f:new=[] ->∀a len c,len<=c->us = .slice a len c->(Builtin.append_ Z ty #[us,ux]).run P w = .ok us w:=by
      intro E a len c hlc G
      subst E
      have:X=[]:=Dy (by rw[q.len];simp)
      subst this
      rw[G]
      exact GM ht hu hz hb hlc hA
     have fresh : ∀ {a:Option Addr} {len c:Nat} {es:List AV} {us0:List Value},us = .slice a len c->es.length=len->Row M J es us0 ->
      (∀w':World,w'.heap=w.heap->(Builtin.firstCells J len (.slice a len c)).run P w' = .ok us0.toArray w')->c<len+new.length->(len+new.length) * W<=bn ->
      ∃u w',(Builtin.append_ Z ty #[us,ux]).run P w = .ok u w'/\jJ M ι g w r (.cG r 0 (len+new.length) none) [⟨J,es++new,true,false⟩] u w':=by
      intro a len c es us0 G C B hold N d
      obtain⟨zv,hzv,Y⟩:=C0 hz hzz R
      obtain⟨cap,w',Q,O,L⟩:=wg (P:=P) (w:=w) (ty:=ty) ht hu hz hb hzv Y hold hA N d hb0
      obtain⟨p,o⟩:=BN (olds:=us0) (us:=X) (n1:=len) (n2:=new.length) (cap:=cap) (by rw[B.len,C]) q.len Y Q
      refine⟨_,w',by rw[G];exact O,?_⟩
      have:=zJ K hr hq L (B.append q) o (n:=cap) (c:=cap) p (ET.zero _ _) (by simp;omega) (de _) (cap:=none) (by intro k S;cases S) D
      simp only[pH,C]at this
      exact this
     split at h
     ·
      cases U
      split at h
      ·rename_i E
       injection h with h;injection h with p o;subst p;subst o
       exact⟨_,w,f E none 0 0 (de _) rfl,jJ.same K (.v rfl)⟩
      ·rename_i E
       obtain⟨d,h⟩:=fO.1 h
       injection h with h;injection h with p o;subst p;subst o
       have hpos:0<new.length:=Hi.2 E
       have:=fresh (a:=none) (len:=0) (c:=0) (es:=[]) (us0:=[]) rfl rfl Row.nil (λw' _=>rfl) (by omega) (by simpa using d)
       simpa using this
     ·
      rename_i n es cap
      split at h
      ·cases h
      ·rename_i H
       have H:n=J:=Bs.1 H
       subst H
       have A:=U
       cases U with | cD cell hsp I S hm hes hh=>
       rename_i a c
       split at h
       ·rename_i E
        injection h with h;injection h with p o;subst p;subst o
        exact⟨_,w,f E _ _ _ I rfl,jJ.same K A⟩
       ·cases cap with
        | some k=>
         obtain⟨⟨N,d⟩,h⟩:=fO.1 h
         injection h with h;injection h with p o;subst p;subst o
         have hck:=S k rfl
         obtain⟨us0,j⟩:=o6 (P:=P) (g:=g) (z:=n) (es:=es) K A D rfl
         exact fresh rfl rfl j.row (Cj rfl rfl j) (by omega) d
        | none=>cases h
     ·
      rename_i r' F len cap
      split at h
      ·rename_i b hb'
       split at h
       ·cases h
       ·rename_i m
        have hbz:b.esz=J:=Bs.1 λh=>m (.inl h)
        have T:b.arr=true:=by
         cases hh:b.arr with
         | true=>rfl
         | false=>exact absurd (.inr hh) m
        have A:=U
        cases U with | cG hrl hbb hsp ha I E S R=>
        rename_i l a c
        split at h
        ·rename_i hn'
         injection h with h;injection h with p o;subst p;subst o
         exact⟨_,w,f hn' _ _ _ I rfl,jJ.same K A⟩
        ·cases cap with
         | some k=>
          obtain⟨⟨hle,N,d⟩,h⟩:=fO.1 h
          injection h with h;injection h with p o;subst p;subst o
          have hck:=S k rfl
          have C:cT g (.cG r' F len (some k))=some (J,(b.es.drop F).take len):=by
           simp only[cT,hb',T,hle,and_self,if_true,hbz]
          obtain⟨us0,j⟩:=o6 (P:=P) K A D C
          have hl:=(getElems b.es F len hle).1
          exact fresh rfl hl j.row (Cj rfl hl j) (by omega) d
         | none=>cases h
      ·cases h
     ·cases h
   ·cases h
end
end
section
theorem aa.get_put(H:aa)(r q:Ref)(b:Option bw):(H.put r b).get q=if q=r then b else H.get q:=by
 induction H with
 | nil=>
  simp only[aa.put,aa.get]
  by_cases h:q=r
  ·rw[if_pos h.symm,if_pos h]
  ·rw[if_neg (tP h),if_neg h]
 | cons p H e=>
  obtain⟨r',b'⟩:=p
  simp only[aa.put]
  by_cases d:r'=r
  ·rw[if_pos d]
   simp only[aa.get]
   by_cases a:q=r
   ·rw[if_pos a.symm,if_pos a]
   ·rw[if_neg (tP a),if_neg a,if_neg (by rw[d];exact tP a)]
  ·rw[if_neg d]
   simp only[aa.get]
   by_cases c:r'=q
   ·rw[if_pos c,if_neg (by rw[<-c];exact d),if_pos c]
   ·rw[if_neg c,e,if_neg c]
theorem aa.np(H:aa)(r:Ref)(b:Option bw)(h:(H.get r).isSome=true)(d t:Nat):(H.put r b).gen d t=H.gen d t:=by
 induction H with
 | nil=>simp[aa.get]at h
 | cons p H c=>
  obtain⟨r',b'⟩:=p
  simp only[aa.put]
  by_cases a:r'=r
  ·rw[if_pos a,a];rfl
  ·rw[if_neg a]
   simp only[aa.gen]
   simp only[aa.get,if_neg a]at h
   rw[c h]
theorem aa.eG(R:List Ref) : ∀(H:aa),(cH H R).get=wV H.get R:=by
 induction R with
 | nil=>intro H;funext q;simp[cH,wV]
 | cons r R e=>
  intro H
  funext q
  simp only[cH]
  split
  ·rename_i b d
   rw[e]
   unfold wV
   simp only[nB,aa.get_put]
   by_cases a:q=r
   ·subst a
    simp[d]
   ·simp only[if_neg a]
    by_cases c:q∈R
    ·simp[c]
    ·simp[c,a]
  ·rename_i d
   rw[e]
   unfold wV
   simp only[nB]
   by_cases a:q=r
   ·subst a
    simp[d]
   ·by_cases c:q∈R
    ·simp[c]
    ·simp[c,a]
theorem aa.kL(R:List Ref) : ∀(H:aa)(d t:Nat),(cH H R).gen d t=H.gen d t:=by
 induction R with
 | nil=>intro H d t;rfl
 | cons r R a=>
  intro H d t
  simp only[cH]
  split
  ·rename_i b c
   rw[a,aa.np H r _ (by rw[c];rfl)]
  ·exact a H d t
theorem aa.KZ(r:Ref) : ∀(c:List bw)(k:Nat)(H:aa)(q:Ref),(keyed r k c H).get q=if q.d=r.d/\q.t=r.t/\q.g=r.g/\k<=q.k/\q.k<k+c.length then c[q.k - k]? else H.get q:=by
 intro c
 induction c with
 | nil=>intro k H q;rw[if_neg (by intro h;simp only[Hf]at h;omega)];rfl
 | cons b c f=>
  intro k H q
  simp only[keyed,f,aa.get,sc]
  by_cases a:q.d=r.d/\q.t=r.t/\q.g=r.g
  ·by_cases e:q.k=k
   ·rw[if_neg (by omega),if_pos (by cases q;cases r;simp_all),if_pos ⟨a.1,a.2.1,a.2.2,by omega,by omega⟩]
    simp[e]
   ·by_cases i:k+1<=q.k/\q.k<k+1+c.length
    ·rw[if_pos ⟨a.1,a.2.1,a.2.2,i⟩,if_pos ⟨a.1,a.2.1,a.2.2,by omega,by omega⟩]
     rw[show q.k - k=(q.k - (k+1))+1 by omega]
     simp
    ·rw[if_neg (by omega),if_neg (by intro h;apply e;rw[<-h]),if_neg (by omega)]
  ·rw[if_neg (by intro h;exact a ⟨h.1,h.2.1,h.2.2.1⟩),if_neg (by intro h;apply a;rw[<-h];exact⟨rfl,rfl,rfl⟩),if_neg (by intro h;exact a ⟨h.1,h.2.1,h.2.2.1⟩)]
theorem aa.nm(r:Ref)(a:List bw)(H:aa):(keyed r 0 a H).get=ui H.get r a:=by
 funext q
 rw[aa.KZ]
 unfold ui
 simp
theorem aa.mK(r:Ref) : ∀(c:List bw)(k:Nat)(H:aa)(d t:Nat),(keyed r k c H).gen d t=if d=r.d/\t=r.t/\c≠[] then r.g+1 else H.gen d t:=by
 intro c
 induction c with
 | nil=>intro k H d t;simp[keyed]
 | cons b c f=>
  intro k H d t
  simp only[keyed,f,aa.gen]
  by_cases h:d=r.d/\t=r.t
  ·obtain⟨rfl,rfl⟩:=h
   by_cases e:c=[]
   ·simp[e]
   ·simp[e]
  ·have i : ¬(r.d=d/\r.t=t):=λa=>h ⟨a.1.symm,a.2.symm⟩
   rw[if_neg (by intro a;exact h ⟨a.1,a.2.1⟩),if_neg i,if_neg (by intro a;exact h ⟨a.1,a.2.1⟩)]
def vM(ι:Map)(H:aa):Prop :=∀q l,ι q=some l->q.g<H.gen q.d q.t
theorem vM.fresh{ι:Map}{H:aa}(h:vM ι H)(d t k:Nat):ι ⟨d,t,H.gen d t,k⟩=none:=by
 cases a:ι ⟨d,t,H.gen d t,k⟩ with
 | none=>rfl
 | some l=>exact absurd (h _ l a) (Cz _)
section
variable{P:Program}{M:Mem}{ι:Map}{g:cX}{w:World}{r:Ref}
def wW(M:Mem)(ι:Map)(H:aa)(w:World)(x:AV)(H':aa)(u:Value)(w':World):Prop:=
 ∃M' a,VR M' a x u/\iv M' a H'.get w'/\vp M ι H.get w M' a H'.get w'/\vM a H'
theorem jJ.toW{H:aa}{x:AV}{b:List bw}{u:Value}{w':World}(p:vM ι H){d t:Nat}(h:jJ M ι H.get w ⟨d,t,H.gen d t,0⟩ x b u w'):wW M ι H w x (keyed ⟨d,t,H.gen d t,0⟩ 0 b H) u w':=by
 obtain⟨M',f,y,v,n,z⟩:=h
 refine⟨M',f,y,by rw[aa.nm];exact v,by rw[aa.nm];exact n,?_⟩
 intro q l i
 rw[aa.mK]
 cases j:ι q with
 | some o=>
  have:=p q o j
  split
  ·rename_i m;rw[m.1,m.2.1]at this;exact Hg this
  ·exact this
 | none=>
  by_cases a : ∃k,k<b.length/\q = { (⟨d,t,H.gen d t,0⟩:Ref)with k:=k}
  ·obtain⟨k,a,rfl⟩:=a
   rw[if_pos ⟨rfl,rfl,by intro e;rw[e]at a;simp at a⟩]
   exact sa _
  ·rw[z q j (λk c e=>a ⟨k,c,e⟩)]at i
   cases i
theorem N8{cs new:List AV}{j:Nat}(h:j+new.length<=cs.length)(k:Nat):(patch cs j new)[k]?=if j<=k/\k<j+new.length then new[k - j]? else cs[k]?:=by
 unfold patch
 have c:(cs.take j).length=j:=by simp;omega
 rcases fE k j with a | a
 ·rw[Dv,oI (by omega),CB,if_pos a,if_neg (by omega)]
 ·rcases fE k (j+new.length)with b | b
  ·rw[Dv,p4 (by omega),oI (by omega),if_pos ⟨a,b⟩,c]
  ·rw[p4 (by simp;omega),Hh,if_neg (by omega)]
   simp only[pH,c]
   congr 1
   omega
theorem Tv{x:AV}(h:x.one=true):x.cells=[x]:=by
 cases x<;>first | rfl | (simp[AV.one]at h)
theorem Ls{e c:AV}{j:Nat}{new:List AV}(h:tQ e j new=some c)(i:new.all AV.one=true):j+new.length<=e.cells.length/\c.cells=patch e.cells j new:=by
 have a : ∀x,(∀cs,e ≠ .agg cs)->j=0->new=[x]->c=x->j+new.length<=e.cells.length/\c.cells=patch e.cells j new:=by
  intro x b l k f
  have d:e.cells=[e]:=by cases e<;>first | rfl | exact absurd rfl (b _)
  subst l;subst k;subst f
  simp only[Br,List.all_nil,C1]at i
  rw[d,Tv i]
  exact⟨by simp,by simp[patch]⟩
 unfold tQ at h
 split at h
 ·obtain⟨d,h⟩:=fO.1 h
  injection h with h
  subst h
  exact⟨d,rfl⟩
 ·rename_i b
  split at h
  ·injection h with h
   exact a _ (λcs f=>b cs f) rfl rfl h.symm
  ·cases h
theorem HG(V:iv M ι g w){k:bw}{l:Loc}{i j:Nat}{new q:List AV}(R:g r=some k)(U:ι r=some l)(C:0<l.esz)(Q:k.kq=false)(E:iJ k.es i j new=some q)(O:new.all AV.one=true)
 {us:List Value} (t:mA M (k.map ι) new us) :
 ∃arr T fz,w.heap[l.b]?=some (.cells arr T fz)/\i * k.esz+j+us.length<=arr.size/\(∀o,o<arr.size ->¬(fz.1<=o/\(o<fz.2\/fz.2<fz.1)))/\(∀u∈us,u.oneCell'=true) /\
  iv M ι (lU g r { k with es:=q}) (bX w l.b (.cells (cw arr (i * k.esz+j) us) T fz))/\vp M ι g w M ι (lU g r { k with es:=q}) (bX w l.b (.cells (cw arr (i * k.esz+j) us) T fz)):=by
 have z:=V.at U C R
 obtain⟨arr,T,fz,hh,F,B,S⟩:=z.heap
 unfold iJ at E
 split at E
 ·cases E
 ·rename_i e L
  simp only[bN]at E
  obtain⟨X,K,rfl⟩:=E
  obtain⟨hle,d⟩:=Ls K O
  have hi:i<k.es.length:=(iX.1 L).1
  have J:=z.cells e (fU L)
  have W:=t.1
  have a:i * k.esz+j+us.length<=arr.size:=by
   have h2:(i+1) * k.esz<=l.n * k.esz:=mY _ (by have:=z.len;omega)
   rw[nA]at h2
   rw[F]
   omega
  have p : ∀u∈us,u.oneCell'=true:=by
   intro u Y
   obtain⟨m,hm,I⟩:=tD Y
   have D:m<new.length:=by omega
   have:=t.2 m _ u (fj D) (by rw[<-I];exact fj hm)
   exact this.one (by simp only[gy]at O;exact O _ (mq D))
  obtain⟨h3,Z⟩:=V.write (k' := { k with es:=k.es.set i X}) R U C (arr:=cw arr (i * k.esz+j) us) (T:=T) (fz:=fz) rfl rfl rfl (by rw[jn a];exact F)
   (by rw[jn a];exact B) (by simp;exact z.len)
   (by
    intro H N
    rcases List.mem_or_eq_of_mem_set N with h | h
    ·exact z.cells H h
    ·rw[h,d,<-J]
     simp[patch]
     omega)
   (by
    intro o x f
    have:=(z.frozen o x f).1
    rw[Q]at this
    cases this)
   (by
    intro G y H x c f
    rw[iC a]
    by_cases v:i=G
    ·subst v
     rw[MZ hi]at c
     injection c with c
     subst c
     rw[d,N8 hle]at f
     split at f
     ·rename_i hr
      rw[if_pos (by omega),show i * k.esz+y - (i * k.esz+j)=y - j by omega]
      have A:y - j<us.length:=by omega
      exact⟨us[y - j],fj A,p _ (mq A),t.2 _ _ _ f (fj A)⟩
     ·rename_i hr
      rw[if_neg (by omega)]
      exact S i y e x L f
    ·rw[MW v]at c
     have hj':y<k.esz:=by
      rw[<-z.cells H (fU c)]
      exact(iX.1 f).1
     rw[if_neg]
     ·exact S G y H x c f
     ·rcases PG v with h | h
      ·have:(i+1) * k.esz<=G * k.esz:=mY _ h
       rw[nA]at this
       omega
      ·have:(G+1) * k.esz<=i * k.esz:=mY _ h
       rw[nA]at this
       omega)
  exact⟨arr,T,fz,hh,a,B.1,p,h3,Z⟩
theorem BD{t:TypeId}{n:Nat}(e:aH P t=some n){b o:Nat}{u:Value}(d:u.cells.size=n){arr:Array Value}{T:TypeId}{fz:Nat × Nat}(f:w.heap[b]?=some (.cells arr T fz))
 (a:o+u.cells.toList.length<=arr.size) (c : ∀o,o<arr.size ->¬(fz.1<=o/\(o<fz.2\/fz.2<fz.1))) (h : ∀x∈u.cells.toList,x.oneCell'=true) :
 (Instr.storeAt t (.pointer (some ⟨b,o,none⟩)) u).run P w = .ok () (bX w b (.cells (cw arr o u.cells.toList) T fz)):=by
 have:=m7 (P:=P) o u.cells.toList 0 arr w f (by simpa using a) c h
 simp only[Ds]at this
 simp[Instr.storeAt,Instr.sureAddr,storeVar,run_sizeOf e,d,this]
theorem uJ(H:aa)(r:Ref)(k:bw):(H.put r (some k)).get=lU H.get r k:=by
 funext q
 rw[aa.get_put]
 rfl
theorem Sv{H:aa}(A:iv M ι H.get w)(hD:vM ι H){t:TypeId}{a x y:AV}{ua d:Value}(ha:VR M ι a ua)(hx:VR M ι x d){H':aa}(h:nS P H t (some a) (some x)=some (y,H')) :
 ∃w',(Instr.storeAt t ua d).run P w = .ok () w'/\wW M ι H w y H' undef w':=by
 unfold nS at h
 split at h
 ·rename_i r' i j x' n W e2 hn
  injection W with W;injection e2 with e2
  subst W;subst e2
  cases ha with | ptr G k=>
  rename_i l
  split at h
  ·rename_i b B
   obtain⟨⟨hxn,X,u⟩,h⟩:=fO.1 h
   obtain⟨l',p,f⟩:=A.live r' b B
   rw[G]at p;cases p
   have z:=hx.cells
   have o:d.cells.size=n:=by have:=z.1;simp at this;omega
   split at h
   ·rename_i c
    split at h
    ·rename_i y' E
     split at h
     ·cases h
     ·rename_i F
      obtain⟨L,h⟩:=fO.1 h
      simp only[bN]at h
      obtain⟨I,e,h⟩:=h
      injection h with Z Y
      subst Z;subst Y
      obtain⟨S,K⟩:=BP (R:=ao H.get depth x) A
      have hv:=Dz A depth x y' d E (λr hr=>hr) hx
      have m:wV H.get (ao H.get depth x) r'=some b:=by unfold wV;rw[if_neg F];exact B
      have J:=hv.cells
      obtain⟨arr,T,fz,V,O,C,Q,U,N⟩:=HG S m G k u e L (us:=d.cells.toList) (by rw[bw.map,if_pos c];exact J)
      refine⟨bX w l.b (.cells (cw arr (i * b.esz+j) d.cells.toList) T fz),?_,nK M ι H.get w (ao H.get depth x),ι,.v rfl,?_,?_,?_⟩
      ·rw[f.esz]
       exact BD hn o V O C Q
      ·rw[uJ,aa.eG];exact U
      ·rw[uJ,aa.eG];exact K.trans N
      ·intro q lq D
       rw[aa.np _ _ _ (by rw[aa.eG,m];rfl),aa.kL]
       exact hD q lq D
    ·cases h
   ·rename_i c
    simp only[bN]at h
    obtain⟨I,e,h⟩:=h
    injection h with Z Y
    subst Z;subst Y
    obtain⟨arr,T,fz,V,O,C,Q,U,N⟩:=HG A B G k u e X (us:=d.cells.toList) (by rw[bw.map,if_neg c];exact z)
    refine⟨bX w l.b (.cells (cw arr (i * b.esz+j) d.cells.toList) T fz),?_,M,ι,.v rfl,?_,?_,?_⟩
    ·rw[f.esz]
     exact BD hn o V O C Q
    ·rw[uJ];exact U
    ·rw[uJ];exact N
    ·intro q lq D
     rw[aa.np _ _ _ (by rw[B];rfl)]
     exact hD q lq D
  ·cases h
 ·cases h
end
end
section
section
variable{P:Program}{M:Mem}{ι:Map}{g:cX}{w:World}{r:Ref}
def tJ(g:cX)(r:Ref):cX:=λq=>if q=r then none else g q
theorem R3(b:iv M ι g w)(r:Ref):iv M ι (tJ g r) w/\vp M ι g w M ι (tJ g r) w:=by
 have a : ∀ {q k},tJ g r q=some k->g q=some k:=by
  intro q k h
  unfold tJ at h
  split at h
  ·cases h
  ·exact h
 exact⟨⟨b.mem,λq k h=>b.live q k (a h),λq c k k' l d h e=>b.inj q c k k' l d (a h) (a e)⟩,
  ⟨rfl,rfl,rfl,de _,λ_ _ _=>rfl,λ_ _ _ h=>h,λ_ _ h=>h,λq k l h f => .inr ⟨q,k,l,a h,f,rfl⟩,λ_ _ _ h => .inl h⟩⟩
theorem KH(z:iv M ι g w){r q:Ref}{k k':bw}{l:Loc}(G:g r=some k)(C:ι r=some l)(hq:ι q=none){arr':Array Value}{w':World}
 (hw : ∃arr T fz,w.heap[l.b]?=some (.cells arr T fz)/\arr.size=arr'.size/\w'=bX w l.b (.cells arr' T fz)) (a:k'.esz=k.esz) (H:k'.arr=true) (E:k.arr=true) (J:k'.kq=k.kq)
 (D : ∀(o:Nat) u,o<k.es.length * k.esz ->∀arr T fz,w.heap[l.b]?=some (.cells arr T fz)->arr[o]?=some u->arr'[o]?=some u)
 (L:k'.es.length<=l.n) (hle:k.es.length<=k'.es.length) (v : ∀e∈k'.es,e.cells.length=k.esz)
 (hc : ∀(i j:Nat) e x,k'.es[i]?=some e->e.cells[j]?=some x ->∃u,arr'[i * k.esz+j]?=some u/\u.oneCell'=true/\VR M eB x u) :
 iv M (kS ι q l) (lU (tJ g r) q k') w'/\vp M ι g w M (kS ι q l) (lU (tJ g r) q k') w':=by
 obtain⟨arr,T,fz,hh,R,c⟩:=hw
 obtain⟨l',Y,A⟩:=z.live r k G
 rw[C]at Y;cases Y
 have K:=A.pos E
 replace A:=A.cellsOk K
 obtain⟨arr0,T0,fz0,S,h1,h2,h3⟩:=A.heap
 rw[hh]at S;cases S
 have Z:=A.lt
 have m:=GS (l:=l) hq
 have hqr:q≠r:=by intro e;rw[e,C]at hq;cases hq
 refine⟨⟨?_,?_,?_⟩,?_⟩
 ·intro b o x B
  by_cases O:l.b=b
  ·subst O
   have ho:=(A.frozen o x B).2
   have V:=z.mem _ _ _ B
   rw[lP hh]at V
   rw[lP (by rw[c];exact gA Z)]
   exact D o x ho arr T fz hh V
  ·rw[World.cell?_of_block (w:=w) (by rw[c];exact eN O)]
   exact z.mem b o x B
 ·intro r' p t
  unfold lU at t
  split at t
  ·rename_i e
   subst e
   injection t with t
   subst t
   refine⟨l,by simp[kS],gq.Xa ⟨by rw[A.esz,a],⟨arr',T,fz,by rw[c];exact gA Z,by rw[<-R,a];exact h1,by rw[<-R,a];exact h2,?_⟩,L,by rw[a];exact v,?_⟩ (by rw[a];exact K)⟩
   ·intro i j e x he B
    rw[a]
    obtain⟨u,hu,ho,hv⟩:=hc i j e x he B
    refine⟨u,hu,ho,?_⟩
    rw[bw.map,if_pos H]
    exact hv
   ·intro o x B
    rw[J,a]
    have:=A.frozen o x B
    exact⟨this.1,FX this.2 (mY _ hle)⟩
  ·rename_i hne
   unfold tJ at t
   split at t
   ·cases t
   ·rename_i I
    obtain⟨f,U,N⟩:=z.live r' p t
    have hnb:l.b≠f.b:=λe=>I (z.inj r' r p k f l t G U C e.symm)
    exact⟨f,m r' f U,N.bQ (λ_ _ _ h=>h) m (by rw[c];exact eN hnb) N.frozen⟩
 ·have y : ∀ {r1 p f},lU (tJ g r) q k' r1=some p->kS ι q l r1=some f->(r1=q/\f=l)\/(r1≠q/\r1≠r/\g r1=some p/\ι r1=some f):=by
   intro r1 p f h d
   unfold lU at h
   unfold kS at d
   split at h
   ·rename_i e;rw[if_pos e]at d;injection d with d;exact .inl ⟨e,d.symm⟩
   ·rename_i e
    rw[if_neg e]at d
    unfold tJ at h
    split at h
    ·cases h
    ·rename_i e';exact .inr ⟨e,e',h,d⟩
  intro r1 r2 p k2 f l2 h1 h2 h3 h4 h5
  rcases y h1 h3 with ⟨e1,e2⟩ | ⟨e1,e2,e3,e4⟩<;>rcases y h2 h4 with ⟨X,F⟩ | ⟨X,F,W,Q⟩
  ·rw[e1,X]
  ·exact absurd (z.inj r r2 k k2 l l2 G W C Q (by rw[<-e2];exact h5)).symm F
  ·exact absurd (z.inj r r1 k p l f G e3 C e4 (by rw[<-F];exact h5.symm)).symm e2
  ·exact z.inj r1 r2 p k2 f l2 e3 W e4 Q h5
 ·refine⟨by rw[c];rfl,by rw[c];rfl,by rw[c];rfl,by rw[c];simp[bX],?_,λ_ _ _ h=>h,m,?_,λ_ _ _ h => .inl h⟩
  ·intro b _ hno
   rw[c]
   exact eN (hno r k l G C)
  ·intro r1 p f h d
   unfold lU at h
   unfold kS at d
   split at h
   ·rename_i e;rw[if_pos e]at d;injection d with d;subst d;exact .inr ⟨r,k,l,G,C,rfl⟩
   ·rename_i e
    rw[if_neg e]at d
    unfold tJ at h
    split at h
    ·cases h
    ·exact .inr ⟨r1,p,f,h,d,rfl⟩
theorem get_append(H:aa)(q r:Ref)(k:bw)(b:q≠r):aa.get ((q,some k) :: H.put r none)=lU (tJ H.get r) q k:=by
 funext x
 simp only[aa.get,aa.get_put]
 unfold lU tJ
 by_cases a:q=x
 ·subst a;simp
 ·rw[if_neg a,if_neg (tP a)]
theorem Q9(H:aa)(r:Ref)(k:bw)(a:(H.get r).isSome=true)(d t:Nat) :
 aa.gen ((⟨r.d,r.t,H.gen r.d r.t,0⟩,some k) :: H.put r none) d t=if r.d=d/\r.t=t then H.gen r.d r.t+1 else H.gen d t:=by
 simp only[aa.gen]
 split
 ·rfl
 ·rw[aa.np H r none a]
theorem P2{H:aa}(hS:iv M ι H.get w)(hD:vM ι H){ts:Array TypeId}{ty:TypeId}{s x y:AV}{us ux:Value}(hs:VR M ι s us)(hx:VR M ι x ux){H':aa}
 (h:m6 P H ts[0]? ts[1]? s x=some (y,H')) : ∃u w',(Builtin.append_ ts ty #[us,ux]).run P w = .ok u w'/\wW M ι H w y H' u w':=by
 unfold m6 at h
 split at h
 ·cases h
 ·rename_i e he
  simp only[iw]at he
  obtain⟨t,ht,he⟩:=he
  have hu:=iU he
  split at h
  ·cases h
  ·rename_i hc
   split at h
   ·rename_i z by' zz ez new hz hb hzz I
    split at h
    ·cases h
    ·rename_i m
     have hez:ez=z:=Bs.1 λh=>m (.inl h)
     have O:0<z:=CA λh=>m (.inr (.inl h))
     have hb0:0<by':=CA λh=>m (.inr (.inr (.inl h)))
     have hn0:new≠[]:=λh=>m (.inr (.inr (.inr (.inl h))))
     have hzl:zz.cells.length=z:=Bs.1 λh=>m (.inr (.inr (.inr (.inr h))))
     subst hez
     obtain⟨Q,f,hA⟩:=I0 (w:=w) hS hz O hx hc I
     split at h
     ·rename_i r' off len
      split at h
      ·rename_i b R
       obtain⟨⟨hoff,F,hbz,hlen,G⟩,h⟩:=fO.1 h
       injection h with h;injection h with h1 h2;subst h1;subst h2
       subst hoff
       subst hlen
       subst hbz
       have hs0:=hs
       cases hs with | cG hrl hbb hsp ha hcc hn hk X=>
       rename_i l a c
       have hq:=hD.fresh r'.d r'.t 0
       have S:(⟨r'.d,r'.t,H.gen r'.d r'.t,0⟩:Ref)≠r':=by intro e;rw[e,hrl]at hq;cases hq
       have Y:=hS.at hrl X R
       obtain⟨arr,T,fz,hh,hsz,hfz,N⟩:=Y.heap
       have hpos:0<new.length:=Hi.2 hn0
       have hel:cT H.get (.cG r' 0 b.es.length none)=some (b.esz,(b.es.drop 0).take b.es.length):=by
        simp[cT,R,F]
       obtain⟨us0,B⟩:=o6 (P:=P) hS hs0 O hel
       have hee:(b.es.drop 0).take b.es.length=b.es:=by simp
       rw[hee]at B
       have W : ∀ι':Map,(∀q,ι q=none->q≠⟨r'.d,r'.t,H.gen r'.d r'.t,0⟩->ι' q=none)->vM ι' ((⟨r'.d,r'.t,H.gen r'.d r'.t,0⟩,some ⟨b.esz,b.es++new,true,b.kq⟩) :: H.put r' none):=by
        intro ι' hι q lq hql
        rw[Q9 H r' _ (by rw[R];rfl)]
        cases D:ι q with
        | some l0=>
         have:=hD q l0 D
         split
         ·rename_i V;rw[<-V.1,<-V.2]at this;exact Hg this
         ·exact this
        | none=>
         by_cases hqq:q=⟨r'.d,r'.t,H.gen r'.d r'.t,0⟩
         ·subst hqq
          rw[if_pos ⟨rfl,rfl⟩]
          exact sa _
         ·rw[hι q D hqq]at hql
          cases hql
       by_cases U:b.es.length+new.length<=c
       ·
        have J:a.off=0:=by
         rcases ha with h | h
         ·omega
         ·simpa using h
        have hcn:0+c<=l.n:=by
         rcases hn with h | h
         ·omega
         ·exact h
        have hae:a=⟨l.b,0,none⟩:=by rw[lQ hsp,hbb,J]
        have K:0+b.es.length * b.esz+Q.length<=arr.size:=by
         rw[f.len,hsz,vQ,<-nA]
         exact mY _ (by omega)
        have C:=CI (P:=P) (w:=w) (ty:=ty) ht hu hz hb (b:=l.b) (o:=0) hA U G hh K hfz.1 f.one
        rw[vQ]at C K
        obtain⟨h3,h4⟩:=KH (M:=M) (q:=⟨r'.d,r'.t,H.gen r'.d r'.t,0⟩) (k':=⟨b.esz,b.es++new,true,b.kq⟩) hS R hrl hq (arr':=cw arr (b.es.length * b.esz) Q)
         ⟨arr,T,fz,hh,(jn K).symm,rfl⟩ rfl rfl F rfl
         (by
          intro o u ho arr1 T1 fz1 hh1 p
          rw[hh]at hh1;cases hh1
          rw[iC K,if_neg (by omega)]
          exact p)
         (by simp;omega) (by simp) (by
          intro L he1
          rcases oH.1 he1 with h | h
          ·exact Y.cells L h
          ·exact f.K5 L h)
         (by
          intro i j L x1 D v
          rw[iC K]
          rcases fE i b.es.length with hlt | hge
          ·rw[oI hlt]at D
           have hj:j<b.esz:=by
            rw[<-Y.cells L (fU D)]
            exact(iX.1 v).1
           have:=FA hlt hj
           rw[if_neg (by omega)]
           obtain⟨u,p,ho,hv⟩:=N i j L x1 D v
           rw[bw.map,if_pos F]at hv
           exact⟨u,p,ho,hv⟩
          ·rw[p4 hge]at D
           obtain⟨u,p,hv⟩:=f.vr _ j L x1 D v
           have hlt:=(iX.1 p).1
           have hge':b.es.length * b.esz<=i * b.esz:=mY _ hge
           have hii:(i - b.es.length) * b.esz=i * b.esz - b.es.length * b.esz:=Hn _ _ _
           rw[if_pos (by omega),show i * b.esz+j - b.es.length * b.esz=(i - b.es.length) * b.esz+j by omega]
           exact⟨u,p,f.one u (fU p),hv⟩)
        refine⟨.slice (some a) (b.es.length+new.length) c,_,by rw[hae];exact C,M,_,?_,by rw[get_append H _ r' _ S];exact h3,by rw[get_append H _ r' _ S];exact h4,?_⟩
        ·exact .cG (l:=l) (by simp[kS]) hbb hsp (.inr (by rw[J];simp)) U (.inr hcn) (by intro k hk;cases hk) X
        ·exact W _ (by intro q hq' Z;simp[kS,Z,hq'])
       ·
        obtain⟨zv,hzv,hzs⟩:=C0 hz hzz hzl
        obtain⟨cap,w',E,C,hgrew⟩:=wg (P:=P) (w:=w) (ty:=ty) ht hu hz hb hzv hzs (Cj (a:=some a) (len:=b.es.length) (c:=c) rfl rfl B) hA (by omega) G hb0
        obtain⟨h1,h2⟩:=BN (olds:=us0) (us:=Q) (n1:=b.es.length) (n2:=new.length) (cap:=cap) B.len f.len hzs E
        obtain⟨h3,h4⟩:=R3 hS r'
        have A:=B.row.append f
        have I : ∀(i j:Nat) e x,(b.es++new)[i]?=some e->e.cells[j]?=some x ->∃u,(us0.toArray++Q.toArray++Builtin.zeroCells zv.cells (cap - (b.es.length+new.length)))[i * b.esz+j]?=some u/\u.oneCell'=true/\VR M eB x u:=by
         intro i j L x1 D v
         obtain⟨u,p,hv⟩:=A.vr i j L x1 D v
         exact⟨u,h2 _ _ p,A.one u (fU p),hv⟩
        obtain⟨h5,h6⟩:=h3.alloc (q:=⟨r'.d,r'.t,H.gen r'.d r'.t,0⟩) hq hgrew ⟨b.esz,b.es++new,true,b.kq⟩ O cap h1 (ET.zero _ _) (by simpa using E) A.K5
         (by intro i j L x1 D v;rw[bw.map,if_pos rfl];exact I i j L x1 D v)
        refine⟨_,w',C,M,_,?_,by rw[get_append H _ r' _ S];exact h5,by rw[get_append H _ r' _ S];exact h4.trans h6,?_⟩
        ·exact .cG (l:=⟨w.heap.size,b.esz,cap⟩) (by simp[kS]) rfl rfl (.inr (by simp)) E (.inr (by simp)) (by intro k hk;cases hk) O
        ·exact W _ (by intro q hq' Z;simp[kS,Z,hq'])
      ·cases h
     ·cases h
   ·cases h
theorem Nc{H:aa}(hS:iv M ι g w){ts:Array TypeId}{ty:TypeId}{s x y:AV}{us ux:Value}(hs:VR M ι s us)(hx:VR M ι x ux){H':aa}
 (hag : ∀r',jK s=some r'->H.get r'≠none->g r'=H.get r') (hnw : ∀e p,ql P H.get e x=some p->ql P g e x=some p) (hfree : ∀r',jK s=some r'->H.get r'≠none->ι ⟨r'.d,r'.t,H.gen r'.d r'.t,0⟩=none)
 (h:m6 P H ts[0]? ts[1]? s x=some (y,H')) : ∃r' b k',jK s=some r'/\H.get r'=some b/\(⟨r'.d,r'.t,H.gen r'.d r'.t,0⟩:Ref)≠r'/\H'=(⟨r'.d,r'.t,H.gen r'.d r'.t,0⟩,some k') :: H.put r' none /\
  ∃u w' R,(Builtin.append_ ts ty #[us,ux]).run P w = .ok u w'/\VR M R y u/\iv M R (lU (tJ g r') ⟨r'.d,r'.t,H.gen r'.d r'.t,0⟩ k') w'/\vp M ι g w M R (lU (tJ g r') ⟨r'.d,r'.t,H.gen r'.d r'.t,0⟩ k') w' /\
   ∀q,ι q=none->q≠⟨r'.d,r'.t,H.gen r'.d r'.t,0⟩->R q=none:=by
 unfold m6 at h
 split at h
 ·cases h
 ·rename_i e he
  simp only[iw]at he
  obtain⟨t,ht,he⟩:=he
  have hu:=iU he
  split at h
  ·cases h
  ·rename_i hc
   split at h
   ·rename_i z by' zz ez new hz hb hzz I
    split at h
    ·cases h
    ·rename_i m
     have hez:ez=z:=Bs.1 λh=>m (.inl h)
     have O:0<z:=CA λh=>m (.inr (.inl h))
     have hb0:0<by':=CA λh=>m (.inr (.inr (.inl h)))
     have hn0:new≠[]:=λh=>m (.inr (.inr (.inr (.inl h))))
     have hzl:zz.cells.length=z:=Bs.1 λh=>m (.inr (.inr (.inr (.inr h))))
     subst hez
     obtain⟨Q,f,hA⟩:=I0 (w:=w) hS hz O hx hc (hnw _ _ I)
     split at h
     ·rename_i r' off len
      split at h
      ·rename_i b U
       obtain⟨⟨hoff,F,hbz,hlen,G⟩,h⟩:=fO.1 h
       injection h with h;injection h with h1 h2;subst h1;subst h2
       subst hoff
       subst hlen
       subst hbz
       have hs0:=hs
       cases hs with | cG hrl hbb hsp ha hcc hn hk W=>
       rename_i l a c
       have hq:=hfree r' rfl (by rw[U];simp)
       have Z:g r'=some b:=by rw[hag r' rfl (by rw[U];simp),U]
       have hqr:(⟨r'.d,r'.t,H.gen r'.d r'.t,0⟩:Ref)≠r':=by intro e;rw[e,hrl]at hq;cases hq
       have X:=hS.at hrl W Z
       obtain⟨arr,T,fz,hh,hsz,hfz,N⟩:=X.heap
       have hpos:0<new.length:=Hi.2 hn0
       have hel:cT g (.cG r' 0 b.es.length none)=some (b.esz,(b.es.drop 0).take b.es.length):=by
        simp[cT,Z,F]
       obtain⟨us0,C⟩:=o6 (P:=P) hS hs0 O hel
       have hee:(b.es.drop 0).take b.es.length=b.es:=by simp
       rw[hee]at C
       refine⟨r',b,⟨b.esz,b.es++new,true,b.kq⟩,rfl,U,hqr,rfl,?_⟩
       by_cases V:b.es.length+new.length<=c
       ·
        have J:a.off=0:=by
         rcases ha with h | h
         ·omega
         ·simpa using h
        have hcn:0+c<=l.n:=by
         rcases hn with h | h
         ·omega
         ·exact h
        have hae:a=⟨l.b,0,none⟩:=by rw[lQ hsp,hbb,J]
        have K:0+b.es.length * b.esz+Q.length<=arr.size:=by
         rw[f.len,hsz,vQ,<-nA]
         exact mY _ (by omega)
        have D:=CI (P:=P) (w:=w) (ty:=ty) ht hu hz hb (b:=l.b) (o:=0) hA V G hh K hfz.1 f.one
        rw[vQ]at D K
        obtain⟨h3,h4⟩:=KH (M:=M) (q:=⟨r'.d,r'.t,H.gen r'.d r'.t,0⟩) (k':=⟨b.esz,b.es++new,true,b.kq⟩) hS Z hrl hq (arr':=cw arr (b.es.length * b.esz) Q)
         ⟨arr,T,fz,hh,(jn K).symm,rfl⟩ rfl rfl F rfl
         (by
          intro o u ho arr1 T1 fz1 hh1 v
          rw[hh]at hh1;cases hh1
          rw[iC K,if_neg (by omega)]
          exact v)
         (by simp;omega) (by simp) (by
          intro L he1
          rcases oH.1 he1 with h | h
          ·exact X.cells L h
          ·exact f.K5 L h)
         (by
          intro i j L x1 S A
          rw[iC K]
          rcases fE i b.es.length with hlt | hge
          ·rw[oI hlt]at S
           have hj:j<b.esz:=by
            rw[<-X.cells L (fU S)]
            exact(iX.1 A).1
           have:=FA hlt hj
           rw[if_neg (by omega)]
           obtain⟨u,v,ho,hv⟩:=N i j L x1 S A
           rw[bw.map,if_pos F]at hv
           exact⟨u,v,ho,hv⟩
          ·rw[p4 hge]at S
           obtain⟨u,v,hv⟩:=f.vr _ j L x1 S A
           have hlt:=(iX.1 v).1
           have hge':b.es.length * b.esz<=i * b.esz:=mY _ hge
           have hii:(i - b.es.length) * b.esz=i * b.esz - b.es.length * b.esz:=Hn _ _ _
           rw[if_pos (by omega),show i * b.esz+j - b.es.length * b.esz=(i - b.es.length) * b.esz+j by omega]
           exact⟨u,v,f.one u (fU v),hv⟩)
        refine⟨.slice (some a) (b.es.length+new.length) c,_,_,by rw[hae];exact D,?_,h3,h4,?_⟩
        ·exact .cG (l:=l) (by simp[kS]) hbb hsp (.inr (by rw[J];simp)) V (.inr hcn) (by intro k hk;cases hk) W
        ·intro q hq' Y;simp[kS,Y,hq']
       ·
        obtain⟨zv,hzv,hzs⟩:=C0 hz hzz hzl
        obtain⟨cap,w',E,D,hgrew⟩:=wg (P:=P) (w:=w) (ty:=ty) ht hu hz hb hzv hzs (Cj (a:=some a) (len:=b.es.length) (c:=c) rfl rfl C) hA (by omega) G hb0
        obtain⟨h1,h2⟩:=BN (olds:=us0) (us:=Q) (n1:=b.es.length) (n2:=new.length) (cap:=cap) C.len f.len hzs E
        obtain⟨h3,h4⟩:=R3 hS r'
        have B:=C.row.append f
        have I : ∀(i j:Nat) e x,(b.es++new)[i]?=some e->e.cells[j]?=some x ->∃u,(us0.toArray++Q.toArray++Builtin.zeroCells zv.cells (cap - (b.es.length+new.length)))[i * b.esz+j]?=some u/\u.oneCell'=true/\VR M eB x u:=by
         intro i j L x1 S A
         obtain⟨u,v,hv⟩:=B.vr i j L x1 S A
         exact⟨u,h2 _ _ v,B.one u (fU v),hv⟩
        obtain⟨h5,h6⟩:=h3.alloc (q:=⟨r'.d,r'.t,H.gen r'.d r'.t,0⟩) hq hgrew ⟨b.esz,b.es++new,true,b.kq⟩ O cap h1 (ET.zero _ _) (by simpa using E) B.K5
         (by intro i j L x1 S A;rw[bw.map,if_pos rfl];exact I i j L x1 S A)
        refine⟨_,w',_,D,?_,h5,h4.trans h6,?_⟩
        ·exact .cG (l:=⟨w.heap.size,b.esz,cap⟩) (by simp[kS]) rfl rfl (.inr (by simp)) E (.inr (by simp)) (by intro k hk;cases hk) O
        ·intro q hq' Y;simp[kS,Y,hq']
      ·cases h
     ·cases h
   ·cases h
theorem HN{H:aa}(J:iv M ι H.get w)(E:vM ι H){d a:Nat}{t:TypeId}{n:Nat}{o:List (Nat × AV)}{qs:Array (Nat × Value)}{x:AV}{H':aa}
 (h:kH P H ⟨d,a,H.gen d a,0⟩ t n (some o)=some (x,H')) (T:o.length=qs.toList.length)
 (hp : ∀(i:Nat) p q,o[i]?=some p->qs.toList[i]?=some q->p.1=q.1/\VR M ι p.2 q.2) :
 ∃u w',(Instr.buildSlice t n qs).run P w = .ok u w'/\wW M ι H w x H' u w':=by
 simp only[kH,bN]at h
 obtain⟨b,K,h⟩:=h
 injection h with Q e2
 subst Q;subst e2
 obtain⟨h1,h2,N,e,arr,Z,L,h6⟩:=I1 J K T hp
 obtain⟨F,hF⟩:=BP (R:=ck H.get (o.map (·.2))) J
 have D:b=⟨b.esz,b.es,true,false⟩:=by cases b;simp_all
 have m:FP w (w.alloc (.cells arr e)) (.cells arr e (0,0)):=⟨rfl,rfl,rfl,rfl⟩
 have C:=E.fresh d a 0
 have f:=zJ (r:=⟨d,a,H.gen d a,0⟩) F rfl C m h6 (λk u U=>by simpa using U) (n:=n) (c:=n) L (ET.zero _ _) (by omega) (de _) (cap:=some n) (by intro k A;cases A;rfl) (Ge K)
 rw[N,<-D]at f
 have X:vM ι (cH H (ck H.get (o.map (·.2)))):=by
  intro q l C
  rw[aa.kL]
  exact E q l C
 obtain⟨M',v,S,Y,V,W⟩:=f
 have j:aa.get (((⟨d,a,H.gen d a,0⟩:Ref),some b) :: cH H (ck H.get (o.map (·.2))))=ui (wV H.get (ck H.get (o.map (·.2)))) ⟨d,a,H.gen d a,0⟩ [b]:=by
  rw[sT _ _ rfl]
  funext q
  simp only[aa.get,aa.eG]
  unfold lU
  by_cases B:q=⟨d,a,H.gen d a,0⟩
  ·rw[if_pos B.symm,if_pos B]
  ·rw[if_neg (tP B),if_neg B]
 refine⟨_,_,Z,M',v,S,?_,?_,?_⟩
 ·show iv M' v (aa.get (_ :: _)) _
  rw[j];exact Y
 ·show vp M ι H.get w M' v (aa.get (_ :: _)) _
  rw[j];exact hF.trans V
 ·intro q l y
  simp only[aa.gen,aa.kL]
  cases G:ι q with
  | some O=>
   have:=E q O G
   split
   ·rename_i I;rw[<-I.1,<-I.2]at this;exact Hg this
   ·exact this
  | none=>
   by_cases A:q=⟨d,a,H.gen d a,0⟩
   ·subst A
    rw[if_pos ⟨rfl,rfl⟩]
    exact sa _
   ·rw[W q G (λk z e=>A (by rw[e];simp at z;rw[z]))]at y
    cases y
theorem Row.sub{z es us}(h:Row M z es us)(n:Nat):Row M z (es.take n) (us.take (n * z)):=by
 refine⟨?_,λe a=>h.K5 e (AQ a),λx b=>h.one x (AQ b),?_⟩
 ·rw[uG,uG,h.len]
  rcases Nat.le_total n es.length with hle | hle
  ·rw[Hv hle,Hv (mY _ hle)]
  ·rw[Pz hle,Pz (mY _ hle)]
 ·intro i j e x a b
  rw[CB]at a
  split at a
  ·rename_i f
   obtain⟨u,hu,c⟩:=h.vr i j e x a b
   have d:j<z:=by
    rw[<-h.K5 e (fU a)]
    exact(iX.1 b).1
   refine⟨u,?_,c⟩
   rw[CB,if_pos (FA f d)]
   exact hu
  ·cases a
theorem UA{H:aa}(hS:iv M ι H.get w)(hD:vM ι H){ts:Array TypeId}{ty:TypeId}{s x y:AV}{us ux:Value}(hs:VR M ι s us)(hx:VR M ι x ux){H':aa}
 (h:Na P H ts[0]? s x=some (y,H')) : ∃u w',(Builtin.copy_ ts ty #[us,ux]).run P w = .ok u w'/\wW M ι H w y H' u w':=by
 unfold Na at h
 split at h
 ·cases h
 ·rename_i e he
  simp only[iw]at he
  obtain⟨t,ht,he⟩:=he
  have hu:=iU he
  split at h
  ·cases h
  ·rename_i z hz
   split at h
   ·cases h
   ·rename_i ez f D
    split at h
    ·cases h
    ·rename_i E
     have hez:ez=z:=Bs.1 λh=>E (.inl h)
     have hz0:0<z:=CA λh=>E (.inr h)
     subst hez
     have hS0 : ∃m,Src P M w ux ez f m:=by
      split at D
      ·rename_i hn
       injection D with D
       injection D with h1 h2
       subst h2
       have:ux = .slice none 0 0:=by
        cases hx<;>simp[oW]at hn
        split at hn<;>simp_all
       subst this
       exact⟨[],by simp,by simp,by simp,by intro i j e x h;simp at h,λw'=>rfl,λn w' hn' _=>by simp[Builtin.firstCells]⟩
      ·exact o6 hS hx hz0 D
     obtain⟨m,C⟩:=hS0
     split at h
     ·
      cases hs
      injection h with h;injection h with h1 h2;subst h1;subst h2
      have hf:=C.first 0 w (EY _) rfl
      have hl:=C.lenOf w
      refine⟨.int .i64 0,w,?_,M,ι,.v rfl,hS,vp.refl,hD⟩
      simp only[Nat.zero_mul,List.take_zero]at hf
      have hm:f.length.min 0=0:=Nat.min_zero _
      simp[Builtin.copy_,ht,bz hu,run_sizeOf hz,hl,hm,hf,goInt]
     ·rename_i r' d len cap
      split at h
      ·rename_i b hb
       obtain⟨⟨N,hbz,hfr,hle⟩,h⟩:=fO.1 h
       injection h with h;injection h with h1 h2;subst h1;subst h2
       subst hbz
       cases hs with | cG Z hbb hsp ha hcc hn hk O=>
       rename_i l a c
       have A:=hS.at Z O hb
       obtain⟨arr,T,fz,hh,hsz,W,G⟩:=A.heap
       obtain⟨n,I⟩ : ∃n,n=Nat.min f.length len:=⟨_,rfl⟩
       have Y:n<=f.length:=by rw[I];exact Nat.min_le_left _ _
       have hn2:n<=len:=by rw[I];exact Nat.min_le_right _ _
       rw[<-I]
       have hf:=C.first n w Y rfl
       have hl:=C.lenOf w
       have B:=C.row.sub n
       have K:(f.take n).length=n:=by rw[uG,Hv Y]
       have R:(m.take (n * b.esz)).length=n * b.esz:=by rw[B.len,K]
       have hbl:=A.len
       have p:d * b.esz+(m.take (n * b.esz)).length<=arr.size:=by
        rw[R,hsz,<-nA]
        exact mY _ (by omega)
       have hes : ∀i,(b.es.take d++f.take n++b.es.drop (d+n))[i]?=if d<=i/\i<d+n then (f.take n)[i - d]? else b.es[i]?:=by
        intro i
        have:=N8 (cs:=b.es) (new:=f.take n) (j:=d) (by rw[K];omega) i
        rw[K]at this
        rw[<-this]
        unfold patch
        rw[K]
       obtain⟨h3,h4⟩:=hS.write (k' := { b with es:=b.es.take d++f.take n++b.es.drop (d+n)}) hb Z O (arr:=cw arr (d * b.esz) (m.take (n * b.esz))) (T:=T) (fz:=fz) rfl rfl rfl
        (by rw[jn p];exact hsz) (by rw[jn p];exact W) (by simp;omega)
        (by
         intro J X
         simp only[oH]at X
         rcases X with (h | h) | h
         ·exact A.cells J (AQ h)
         ·exact B.K5 J h
         ·exact A.cells J (Hj h))
        (by
         intro o v V
         have:=(A.frozen o v V).1
         rw[hfr]at this
         cases this)
        (by
         intro i j J x1 S U
         rw[bw.map,if_pos N]
         simp only at S
         rw[hes i]at S
         rw[iC p,R]
         by_cases hr:d<=i/\i<d+n
         ·rw[if_pos hr]at S
          obtain⟨u,F,V⟩:=B.vr (i - d) j J x1 S U
          have hlt:=(iX.1 F).1
          rw[R]at hlt
          have h5:d * b.esz<=i * b.esz:=mY _ hr.1
          have h6:(i - d) * b.esz=i * b.esz - d * b.esz:=Hn _ _ _
          rw[if_pos (by omega),show i * b.esz+j - d * b.esz=(i - d) * b.esz+j by omega]
          exact⟨u,F,B.one u (fU F),V⟩
         ·rw[if_neg hr]at S
          have hj:j<b.esz:=by
           rw[<-A.cells J (fU S)]
           exact(iX.1 U).1
          rw[if_neg]
          ·obtain⟨u,F,ho,V⟩:=G i j J x1 S U
           rw[bw.map,if_pos N]at V
           exact⟨u,F,ho,V⟩
          ·intro hcon
           apply hr
           have e1':d * b.esz+n * b.esz=(d+n) * b.esz:=(nA _ _ _).symm
           constructor
           ·rcases fE i d with h | h
            ·have:(i+1) * b.esz<=d * b.esz:=mY _ h
             rw[nA]at this
             omega
            ·exact h
           ·rcases fE i (d+n)with h | h
            ·exact h
            ·have:(d+n) * b.esz<=i * b.esz:=mY _ h
             omega)
       have L:(storeCells a (m.take (n * b.esz))).run P w = .ok () (bX w l.b (.cells (cw arr (d * b.esz) (m.take (n * b.esz))) T fz)):=by
        by_cases h0:n=0
        ·have e0:m.take (n * b.esz)=[]:=by rw[h0];simp
         rw[e0]
         have J:cw arr (d * b.esz) []=arr:=by simp[cw]
         rw[J]
         have e2:bX w l.b (.cells arr T fz)=w:=by
          unfold bX
          have:w.heap.setIfInBounds l.b (.cells arr T fz)=w.heap:=by
           apply FY
           intro k
           by_cases hk:l.b=k
           ·subst hk;rw[hh,Hk A.lt]
           ·rw[CC hk]
          rw[this]
         rw[e2]
         simp[storeCells]
        ·have Q:a.off=d * b.esz:=by
          rcases ha with h | h
          ·omega
          ·rw[h,A.esz]
         have:=m7 (P:=P) (d * b.esz) (m.take (n * b.esz)) 0 arr w hh (by simpa using p) W.1 B.one
         rw[Ds]at this
         rw[lQ hsp,hbb,Q]
         exact this
       refine⟨.int .i64 n,_,?_,M,ι,.v rfl,by rw[uJ];exact h3,by rw[uJ];exact h4,?_⟩
       ·have hm:f.length.min len=n:=I.symm
        simp[Builtin.copy_,ht,bz hu,run_sizeOf hz,hl,hm,hf,L,goInt]
       ·intro q lq hq
        rw[aa.np _ _ _ (by rw[hb];rfl)]
        exact hD q lq hq
      ·cases h
     ·cases h
theorem Sw{H:aa}(hS:iv M ι H.get w)(hD:vM ι H){ts:Array TypeId}{ty:TypeId}{s x y:AV}{us ux:Value}(hs:VR M ι s us)(hx:VR M ι x ux){H':aa}
 (h:HM P H ts[0]? s x=some (y,H')) : ∃u w',(Builtin.copy_ ts ty #[us,ux]).run P w = .ok u w'/\wW M ι H w y H' u w':=by
 unfold HM at h
 split at h
 ·rename_i z r' d len cap r2 A Bk cap2 he
  simp only[iw]at he
  obtain⟨e,⟨t,ht,he⟩,hz⟩:=he
  have hu:=iU he
  split at h
  ·rename_i b b2 hb hb2
   obtain⟨⟨L,R,hbz,hbz2,hz0,hfr,hle0,N⟩,h⟩:=fO.1 h
   injection h with h;injection h with h1 h2;subst h1;subst h2
   subst hbz
   cases hs with | cG S hbb hsp ha hcc hn hk D=>
   rename_i l a c
   cases hx with | cG hrl2 hbb2 hsp2 ha2 Y hn2' hk2 hzl2=>
   rename_i l2 a2 X
   obtain⟨n,G⟩ : ∃n,n=Nat.min Bk len:=⟨_,rfl⟩
   have hnl:n<=Bk:=by rw[G];exact Nat.min_le_left _ _
   have hn2:n<=len:=by rw[G];exact Nat.min_le_right _ _
   rw[<-G]at N ⊢
   have hv2:VR M ι (.cG r2 A n none) (.slice (some a2) n X) := .cG hrl2 hbb2 hsp2 ha2 (Cy hnl Y) hn2' (λk hk=>by cases hk) hzl2
   have Z:cT H.get (.cG r2 A n none)=some (b2.esz,(b2.es.drop A).take n):=by
    simp only[cT,hb2]
    rw[if_pos ⟨R,N⟩]
   rw[hbz2]at Z
   obtain⟨B,K⟩:=o6 (P:=P) hS hv2 hz0 Z
   have hsl:((b2.es.drop A).take n).length=n:=by rw[uG,E4];omega
   generalize (b2.es.drop A).take n=src at *
   have hn1:n<=src.length:=by omega
   have htk:src.take n=src:=fe (by omega)
   suffices C : ∃u w',(Builtin.copy_ ts ty #[.slice (some a) len c,.slice (some a2) Bk X]).run P w = .ok u w'/\wW M ι H w (.v (.int .i64 n)) (H.put r' (some { b with es:=b.es.take d++src.take n++b.es.drop (d+n)})) u w' by
    rw[htk]at C;exact C
   have hcl:d+n<=l.n:=by
    rcases hn with h | h
    ·have:=(hS.at S D hb).len;omega
    ·omega
   have m:=hS.at S D hb
   obtain⟨arr,T,fz,hh,hsz,hfz,F⟩:=m.heap
   have hf:(Builtin.firstCells b.esz n (.slice (some a2) Bk X)).run P w=_:=K.first n w hn1 rfl
   have hl:(Builtin.lenOf (.slice (some a2) Bk X)).run P w = .ok Bk w:=by simp[Builtin.lenOf]
   have p:=K.row.sub n
   have htl:(src.take n).length=n:=by rw[uG,Hv hn1]
   have Q:(B.take (n * b.esz)).length=n * b.esz:=by rw[p.len,htl]
   have hbl:=m.len
   have f:d * b.esz+(B.take (n * b.esz)).length<=arr.size:=by
    rw[Q,hsz,<-nA]
    exact mY _ (by omega)
   have hes : ∀i,(b.es.take d++src.take n++b.es.drop (d+n))[i]?=if d<=i/\i<d+n then (src.take n)[i - d]? else b.es[i]?:=by
    intro i
    have l1:(b.es.take d).length=d:=by rw[uG];omega
    by_cases c1:i<d
    ·rw[if_neg (by omega),Dv,oI (by omega),List.getElem?_take_of_lt c1]
    ·by_cases X:i<d+n
     ·rw[if_pos ⟨by omega,X⟩,Dv,p4 (by omega),l1,oI (by omega)]
     ·rw[if_neg (by omega),p4 (by rw[pH];omega),pH,l1,htl,Hh]
      congr 1;omega
   obtain⟨h3,h4⟩:=hS.write (k' := { b with es:=b.es.take d++src.take n++b.es.drop (d+n)}) hb S D (arr:=cw arr (d * b.esz) (B.take (n * b.esz))) (T:=T) (fz:=fz) rfl rfl rfl
    (by rw[jn f];exact hsz) (by rw[jn f];exact hfz) (by simp only[pH,uG,E4];omega)
    (by
     intro I he1
     simp only[oH]at he1
     rcases he1 with (h | h) | h
     ·exact m.cells I (AQ h)
     ·exact p.K5 I h
     ·exact m.cells I (Hj h))
    (by
     intro o v W
     have:=(m.frozen o v W).1
     rw[hfr]at this
     cases this)
    (by
     intro i j I x1 U V
     rw[bw.map,if_pos L]
     simp only at U
     rw[hes i]at U
     rw[iC f,Q]
     by_cases hr:d<=i/\i<d+n
     ·rw[if_pos hr]at U
      obtain⟨u,E,W⟩:=p.vr (i - d) j I x1 U V
      have hlt:=(iX.1 E).1
      rw[Q]at hlt
      have h5:d * b.esz<=i * b.esz:=mY _ hr.1
      have h6:(i - d) * b.esz=i * b.esz - d * b.esz:=Hn _ _ _
      rw[if_pos (by omega),show i * b.esz+j - d * b.esz=(i - d) * b.esz+j by omega]
      exact⟨u,E,p.one u (fU E),W⟩
     ·rw[if_neg hr]at U
      have hj:j<b.esz:=by
       rw[<-m.cells I (fU U)]
       exact(iX.1 V).1
      rw[if_neg]
      ·obtain⟨u,E,ho,W⟩:=F i j I x1 U V
       rw[bw.map,if_pos L]at W
       exact⟨u,E,ho,W⟩
      ·intro hcon
       apply hr
       have e1':d * b.esz+n * b.esz=(d+n) * b.esz:=(nA _ _ _).symm
       constructor
       ·rcases fE i d with h | h
        ·have:(i+1) * b.esz<=d * b.esz:=mY _ h
         rw[nA]at this
         omega
        ·exact h
       ·rcases fE i (d+n)with h | h
        ·exact h
        ·have:(d+n) * b.esz<=i * b.esz:=mY _ h
         omega)
   have J:(storeCells a (B.take (n * b.esz))).run P w = .ok () (bX w l.b (.cells (cw arr (d * b.esz) (B.take (n * b.esz))) T fz)):=by
    by_cases h0:n=0
    ·have e0:B.take (n * b.esz)=[]:=by rw[h0];simp
     rw[e0]
     have I:cw arr (d * b.esz) []=arr:=by simp[cw]
     rw[I]
     have e2:bX w l.b (.cells arr T fz)=w:=by
      unfold bX
      have:w.heap.setIfInBounds l.b (.cells arr T fz)=w.heap:=by
       apply FY
       intro k
       by_cases hk:l.b=k
       ·subst hk;rw[hh,Hk m.lt]
       ·rw[CC hk]
      rw[this]
     rw[e2]
     simp[storeCells]
    ·have O:a.off=d * b.esz:=by
      rcases ha with h | h
      ·omega
      ·rw[h,m.esz]
     have:=m7 (P:=P) (d * b.esz) (B.take (n * b.esz)) 0 arr w hh (by simpa using f) hfz.1 p.one
     rw[Ds]at this
     rw[lQ hsp,hbb,O]
     exact this
   refine⟨.int .i64 n,_,?_,M,ι,.v rfl,by rw[uJ];exact h3,by rw[uJ];exact h4,?_⟩
   ·have hm:Nat.min Bk len=n:=G.symm
    simp[Builtin.copy_,ht,bz hu,run_sizeOf hz,hl,hm,hf,J,goInt]
   ·intro q lq hq
    rw[aa.np _ _ _ (by rw[hb];rfl)]
    exact hD q lq hq
  ·cases h
 ·cases h
end
end
end Go.Ab
