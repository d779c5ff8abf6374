/-
  What the abstract machine's quiet operations give is what the model's give: the first part. No statement of a seat is proved here.
  What the abstract machine's quiet operations give is what the model's give: the second part. No statement of a seat is proved here.
  What the abstract machine's quiet operations give is what the model's give: the third part. No statement of a seat is proved here.
  What the abstract machine's quiet operations give is what the model's give: new rows. No statement of a seat is proved here.
  What the abstract machine's quiet operations give is what the model's give: appends, and what is left. No statement of a seat is proved here.
  What the abstract machine's quiet operations give is what the model's give: what is left but calls. No statement of a seat is proved here.
  What the abstract machine's operations give is what the model's give: appends, stores, copies. No statement of a seat is proved here.
  What the abstract machine's writing operations give is what the model's give. No statement of a seat is proved here.
  What the abstract machine's writing operations give is what the model's give: the second part. No statement of a seat is proved here.
-/
import Derived.Lib.Overlaps
import Derived.Lib.SliceRun
import Derived.WalkSpells
import Derived.Test.YtdbiffjdomokfaaGreatAbsCore
set_option linter.unusedVariables false
set_option linter.unusedSimpArgs false
set_option linter.unusedSectionVars false
set_option linter.unnecessarySimpa false
namespace Go.Ab
def sM(g:db)(r:Ref)(a:List bA):db:=λq=>if q.d=r.d/\q.t=r.t/\q.g=r.g/\q.k<a.length then a[q.k]? else g q
theorem m0(g:db)(r:Ref):sM g r []=g:=by funext q;simp[sM]
theorem pB(g:db)(r:Ref)(a:r.k=0)(b:bA):sM g r [b]=ku g r b:=by
 funext q
 unfold sM ku
 by_cases h:q=r
 ·subst h;simp[a]
 ·rw[if_neg h,if_neg]
  intro c
  apply h
  cases q;cases r
  simp_all
structure TR (M:Mem) (ι:Map) (tm:List AV) (a:Act):Prop where
 at_ : ∀t,VR M ι (cY tm t) (a.tmps.getD t undef)
theorem TR.mono{M ι tm a M' ι'}(h:TR M ι tm a)(d : ∀b o x,M b o=some x->M' b o=some x)(c : ∀r l,ι r=some l->ι' r=some l):TR M' ι' tm a:=
 ⟨λt=>(h.at_ t).mono d ι' c⟩
theorem aX{M ι tm a}(h:TR M ι tm a){x:Operand}{y:AV}(b:aM tm x=some y):VR M ι y (a.eval x):=by
 cases x with
 | tmp t=>simp[aM]at b;subst b;exact h.at_ t
 | const v=>simp only[aM]at b;exact jC b
 | global g=>simp[aM]at b
 | func f=>simp[aM]at b;subst b;exact .fn rfl rfl (λi c u d=>by simp at d) (λi c u d=>by simp at d)
theorem m9{M ι tm a}(h:TR M ι tm a){xs:List Operand}{ys:List AV}(c:xs.mapM (aM tm)=some ys):lR M ι ys (xs.map a.eval):=
 ⟨by simpa using jM c,λi y u e d=>by
  obtain⟨x,b,f⟩:=qV c i y e
  simp only[oM,b,Option.map_some,dR]at d
  subst d
  exact aX h f⟩
def jq(M:Mem)(ι:Map)(g:db)(w:World)(r:Ref)(x:AV)(b:List bA)(u:Value)(w':World):Prop:=
 ∃M' a,VR M' a x u/\gA M' a (sM g r b) w'/\tA M ι g w M' a (sM g r b) w' /\∀q,ι q=none->(∀k,k<b.length->q ≠ { r with k:=k})->a q=none
theorem jq.same{M ι g w r x u}(a:gA M ι g w)(h:VR M ι x u):jq M ι g w r x [] u w:=
 ⟨M,ι,h,by rw[m0];exact a,by rw[m0];exact tA.refl,λq b _=>b⟩
theorem gA.drew{M ι g w w'}(a:gA M ι g w)(d:w'.heap=w.heap):gA M ι g w':=
 ⟨λb o x h=>by rw[World.cell?_of_block (w:=w) (by rw[d])];exact a.mem b o x h,λr k h=>by
  obtain⟨l,e,c⟩:=a.live r k h
  exact⟨l,e,c.cz (λ_ _ _ h=>h) (λ_ _ h=>h) (by rw[d]) c.frozen⟩,a.inj⟩
def FW(ro:Option Nat):Fence := { Fence.wide with round:=ro}
def eM(P:Program)(o:Oper)(a:Act)(w:World)(S:Value->World->Prop):Prop:=
 ∀(ro:Option Nat)(K:Act->World->Prop)(Q:Exit->Act->World->Prop),(∀u w',S u w'->K (a.put o.dst u) w')->o.wpIn (FW ro) 0 P a w K Q
theorem AR{P:Program}{o:Oper}{a:Operand->Value}{w w':World}{x:Next}(ro:Option Nat)(h:(execOp a o).run P w = .ok x w')(k : ∀d,x ≠ .defer d):(Oper.semAt ro a o).run P w = .ok x w':=by
 by_cases i : ∃c,o.op = .defer c
 ·exfalso
  obtain⟨c,b⟩:=i
  simp only[execOp,b]at h
  rw[Sem.run_bind]at h
  cases f:(resolve a c o.type).run P w with
  | ok d j=>rw[f]at h;simp only[Result.andThen_ok,Sem.run_pure,Result.ok.injEq]at h;exact k _ h.1.symm
  | halt e j=>rw[f]at h;cases h
 ·rw[Oper.semAt_eq ro a o λc b=>i ⟨c,b⟩]
  exact h
theorem eM.of_run{P o a w S u w'}(b:(execOp a.eval o).run P w = .ok (.value u) w')(h:S u w'):eM P o a w S:=by
 intro ro K Q c
 refine⟨λ_ _=>trivial,?_⟩
 rw[AR (x := .value u) (FW ro).round b (by intro d e;cases e)]
 exact c _ _ h
theorem eM.E9{P o a w S w'}(b:(execOp a.eval o).run P w = .ok .skip w')(h:S undef w'):eM P o a w S:=by
 intro ro K Q c
 refine⟨λ_ _=>trivial,?_⟩
 rw[AR (x := .skip) (FW ro).round b (by intro d e;cases e)]
 exact c _ _ h
theorem eM.GG{P o a w S f args w0}(c:(execOp a.eval o).run P w = .ok (.enter f args) w0)(h:Calls P f args w0 λe w' =>∃u,e = .returned u/\S u w'):eM P o a w S:=by
 intro ro K Q j
 refine⟨λ_ _=>trivial,?_⟩
 rw[AR (x := .enter f args) (FW ro).round c (by intro d e;cases e)]
 refine⟨λh=>absurd h (by simp[FW,Fence.wide]),?_⟩
 have i:CallsIn Fence.wide 0 P f args w0 λe w' =>∃u,e = .returned u/\S u w':=callsIn_wide.2 h
 have b:CallsIn (FW ro) (0 - 1) P f args w0 λe w' =>∃u,e = .returned u/\S u w':=i
 refine b.mono λe w' ⟨u,he,hS⟩=>?_
 subst he
 exact j _ _ hS
theorem eM.Uf{P o a w S l f tmps assign body w0}(c:(execOp a.eval o).run P w = .ok (.round l f tmps assign body) w0)(h:RoundIn (FW none) 0 P l f tmps assign body w0 λe w' =>∃u,e = .returned u/\S u w'):eM P o a w S:=by
 intro ro K Q i
 refine⟨λ_ _=>trivial,?_⟩
 rw[AR (x := .round l f tmps assign body) (FW ro).round c (by intro d e;cases e)]
 refine⟨λh=>absurd h (by simp[FW,Fence.wide]),?_⟩
 have b:RoundIn (FW ro) (0 - 1) P l f tmps assign body w0 λe w' =>∃u,e = .returned u/\S u w':=h
 refine b.mono λe w' ⟨u,he,hS⟩=>?_
 subst he
 exact i _ _ hS
theorem put_defers(a:Act)(d:Option Tmp)(u:Value):(a.put d u).defers=a.defers:=by cases d<;>rfl
theorem IJ{P:Program}{s:Sem Value}{w w':World}{u:Value}(h:s.run P w = .ok u w'):(do pure (Next.value (<-s)):Sem Next).run P w = .ok (.value u) w':=by
 simp[h]
section
variable{P:Program}{M:Mem}{ι:Map}{g:db}{w:World}{r:Ref}
theorem A6{x:AV}{u:Value}{b:Bool}(h:VR M ι x u)(a:Ec x=some b):u = .bool b:=by
 cases h<;>simp[Ec]at a
 split at a<;>simp_all
theorem xY{x:AV}{u:Value}{n:Int}(h:VR M ι x u)(a:Ab.intOf x=some n) : ∃k,u = .int k n:=by
 cases h<;>simp[Ab.intOf]at a
 split at a<;>simp_all
theorem Uq(A:gA M ι g w)(h:r.k=0)(D:ι r=none){e:TypeId}{n:Nat}{x:AV}{u:Value}(C:VR M ι x u)(z:x.cells.length=n)(p:x.cells.all AV.one=true)(m:0<n) :
 ∃w',(Instr.box e u).run P w = .ok (.pointer (some ⟨w.heap.size,0,none⟩)) w'/\jq M ι g w r (.ptr r 0 0) [⟨n,[x],false,false⟩] (.pointer (some ⟨w.heap.size,0,none⟩)) w':=by
 have a:=C.cells
 have c:u.cells.size=n:=by have:=a.1;simp at this;omega
 obtain⟨t,B⟩:=A.alloc (q:=r) D (w':=w.alloc (.cells u.cells e)) (arr:=u.cells) (T:=e) (fz:=(0,0)) ⟨rfl,rfl,rfl,rfl⟩ ⟨n,[x],false,false⟩ m 1 (by simpa using c) (Dk.zero _ _) (by simp) (by simp[z])
  (by
   intro i j F y f b
   cases i with
   | succ i=>simp at f
   | zero=>
    simp at f
    subst f
    have o:j<u.cells.size:=by have:=(iG.1 b).1;omega
    refine⟨u.cells[j],by simp,?_,?_⟩
    ·have E:=a.2 j y u.cells[j] b (by simp[o])
     exact E.one (by simp only[fZ]at p;exact p y (fC b))
    ·simpa [bA.map] using a.2 j y u.cells[j] b (by simp[o]))
 refine⟨w.alloc (.cells u.cells e),by simp[Instr.box,newVar,newRow],M,_,?_,by rw[pB _ _ h];exact t,by rw[pB _ _ h];exact B,?_⟩
 ·have:=VR.ptr (M:=M) (ι:=iU ι r ⟨w.heap.size,n,1⟩) (r:=r) (i:=0) (j:=0) (l:=⟨w.heap.size,n,1⟩) (by simp[iU]) m
  simpa using this
 ·intro q d v
  have:q≠r:=by intro e;exact v 0 (by simp) (by rw[e];cases r;simp_all)
  simpa [iU,this] using d
theorem Ro(f:gA M ι g w)(c:r.k=0)(l:ι r=none){e:TypeId}{x:AV}{b:List bA}(h:uW P r e=some (x,b)) :
 ∃u w',(Instr.alloc e true (.tuple #[])).run P w = .ok u w'/\jq M ι g w r x b u w':=by
 unfold uW at h
 split at h
 ·rename_i z n d o
  split at h
  ·rename_i a
   cases h
   obtain⟨u,hu,m⟩:=xO d w
   obtain⟨w',i,j⟩:=Uq (P:=P) (e:=e) f c l (jC m) a.1 a.2.1 a.2.2
   refine⟨_,w',?_,j⟩
   have:(Instr.alloc e true (.tuple #[])).run P w=(Instr.box e u).run P w:=by simp[Instr.alloc,hu,Instr.box]
   rw[this];exact i
  ·cases h
 ·cases h
theorem WH(f:gA M ι g w)(d:r.k=0)(m:ι r=none){e:TypeId}{y x:AV}{c:Value}(o:VR M ι y c){b:List bA}(h:Ka P r e (some y)=some (x,b)) :
 ∃u w',(Instr.box e c).run P w = .ok u w'/\jq M ι g w r x b u w':=by
 unfold Ka at h
 split at h
 ·rename_i q n i p
  cases i
  split at h
  ·rename_i a
   cases h
   obtain⟨w',l,j⟩:=Uq (P:=P) (e:=e) f d m o a.1 a.2.1 a.2.2
   exact⟨_,w',l,j⟩
  ·cases h
 ·cases h
theorem TO(f:gA M ι g w){t:TypeId}{y x:AV}{l:Value}(m:VR M ι y l){k:List bA}(h:sf P g t (some y)=some (x,k)) :
 k=[] /\∃u,(Instr.loadAt t l).run P w = .ok u w/\VR M ι x u:=by
 unfold sf at h
 split at h
 ·rename_i r' i j q n a e d
  cases a
  split at h
  ·rename_i b o
   simp only[jK,bO]at h
   obtain⟨p,c,a⟩:=h
   cases a
   exact⟨rfl,P0 e d f m o c⟩
  ·cases h
 ·rename_i esz es i j q n a e d
  cases a
  simp only[jK,bO]at h
  obtain⟨p,c,a⟩:=h
  cases a
  exact⟨rfl,UN e d f.mem m c⟩
 ·cases h
theorem PQ{t:TypeId}{cs:List AV}{c:Array Value}{a:Nat}{x:AV}(f:lR M ι cs c.toList)(h:Am P t cs a=some x) : ∃u,(part t c a).run P w = .ok u w/\VR M ι x u:=by
 unfold Am at h
 split at h
 ·rename_i n d i
  split at h
  ·rename_i k
   cases h
   refine⟨.agg (c.extract a (a+n)),by simp[part,AT d,run_sizeOf i],VR.rD.2 ?_⟩
   have:=(f.drop a).take n
   have e:(c.extract a (a+n)).toList=(c.toList.drop a).take n:=by
    rw[NG,NN,JD]
   rw[e]
   exact this
  ·cases h
 ·rename_i d
  have j:=(iG.1 h).1
  have b:a<c.size:=by have:=f.1;simp at this;omega
  refine⟨c[a],by simp[part,AT d,jS b],f.2 a x _ h (by simp[b])⟩
 ·cases h
theorem VR.Qr{cs:List AV}{u:Value}(h:VR M ι (.agg cs) u) : ∃a,u = .agg a/\lR M ι cs a.toList:=by
 cases h with | agg b c=>exact⟨_,rfl,VR.rD.1 (.agg b c)⟩
theorem Iv{t:TypeId}{f a:Nat}{ft:TypeId}(h:nX P t f=some (a,ft)) : ∃b fd,P.underlying t=some (.struct b)/\b[f]?=some fd/\fd.offset=a/\fd.type=ft:=by
 unfold nX at h
 split at h
 ·rename_i b d
  simp only[bO]at h
  obtain⟨fd,c,he⟩:=h
  cases he
  exact⟨b,fd,d,c,rfl,rfl⟩
 ·cases h
theorem Rl{t:TypeId}{f:Nat}{y x:AV}{d:Value}(m:VR M ι y d){e:List bA}(h:uV P t (some y) f=some (x,e)) :
 e=[] /\∃u,(Instr.field t d f).run P w = .ok u w/\VR M ι x u:=by
 unfold uV at h
 split at h
 ·rename_i k ft cs l a
  cases a
  simp only[jK,bO]at h
  obtain⟨q,b,a⟩:=h
  cases a
  obtain⟨o,rfl,c⟩:=m.Qr
  obtain⟨p,fd,i,j,rfl,rfl⟩:=Iv l
  obtain⟨u,hu,n⟩:=PQ (w:=w) c b
  exact⟨rfl,u,by simp[Instr.field,bu i,j,asAgg,hu],n⟩
 ·cases h
theorem G3{t:TypeId}{f a s:Nat}(h:aA P t f=some (a,s)) : ∃b fd,P.underlying t=some (.struct b)/\b[f]?=some fd/\fd.offset=a/\aJ P fd.type=some s:=by
 unfold aA at h
 split at h
 ·rename_i c ft e
  simp only[bO]at h
  obtain⟨n,d,he⟩:=h
  cases he
  obtain⟨b,fd,j,k,i,l⟩:=Iv e
  exact⟨b,fd,j,k,i,l ▸ d⟩
 ·cases h
theorem HP{t:TypeId}{f:Nat}{y x:AV}{c:Value}(p:VR M ι y c){m:List bA}(h:iK P t (some y) f=some (x,m)) :
 m=[] /\∃u,(Instr.fieldAt t c f).run P w = .ok u w/\VR M ι x u:=by
 unfold iK at h
 split at h
 ·rename_i B s C
  obtain⟨F,fd,v,z,rfl,A⟩:=G3 C
  split at h
  ·rename_i E
   have k : ∀(b o:Nat),c = .pointer (some ⟨b,o,none⟩)->(Instr.fieldAt t c f).run P w = .ok (.pointer (some ⟨b,o+fd.offset,none⟩)) w:=by
    intro b o e
    subst e
    simp[Instr.fieldAt,bu v,z,Instr.sureAddr,fieldPlace,run_sizeOf A,show s≠0 by omega,iE]
   split at h
   ·rename_i r' i j a
    cases a
    cases h
    cases p with | ptr D d=>
    rename_i l
    exact⟨rfl,_,k _ _ rfl,by rw[Jq];exact .ptr D d⟩
   ·rename_i n es i j a
    cases a
    cases h
    cases p with | iptr cell hm a q=>
    rename_i b o
    exact⟨rfl,_,k _ _ rfl,by rw[show o+(i * n+j)+fd.offset=o+(i * n+(j+fd.offset)) by omega];exact .iptr cell hm a q⟩
   ·cases h
  ·cases h
 ·cases h
theorem iD{t e:TypeId}(h:dN P t=some e):P.underlying t=some (.slice e):=by
 unfold dN at h
 split at h
 ·cases h;assumption
 ·cases h
theorem E3{t e:TypeId}{n:Nat}(h:jI P t=some (n,e)):P.underlying t=some (.array n e):=by
 unfold jI at h
 split at h
 ·cases h;assumption
 ·cases h
theorem HO(W:gA M ι g w){t:TypeId}{y z x:AV}{E U:Value}(F:VR M ι y E)(Z:VR M ι z U){T:List bA}(h:cT P g t (some y) (some z)=some (x,T)) :
 T=[] /\∃u,(Instr.indexAt t E U).run P w = .ok u w/\VR M ι x u:=by
 unfold cT at h
 simp only[fy]at h
 split at h
 ·rename_i k hk
  obtain⟨ki,rfl⟩:=xY Z hk
  split at h
  ·rename_i e I
   have D:=iD I
   split at h
   ·rename_i esz es cap s d p
    cases d
    split at h
    ·rename_i m
     obtain⟨H,v,rfl⟩:=m
     cases h
     cases F with | cG cell f L O hm R J=>
     rename_i a c
     refine⟨rfl,.pointer (some (a.add (k.toNat * s))),?_,?_⟩
     ·simp[Instr.indexAt,asIntOf,bu D,H,v,run_sizeOf p]
     ·have f:=f.resolve_right (by intro e;subst e;simp at v;omega)
      rw[lf f,iE]
      have:=VR.iptr (M:=M) (ι:=ι) (i:=k.toNat) (j:=0) (b:=a.block) (o:=a.off) cell hm R J
      simpa using this
    ·cases h
   ·rename_i r' B len cap s d p
    cases d
    split at h
    ·rename_i b hb
     split at h
     ·rename_i m
      obtain⟨H,v,K⟩:=m
      cases h
      cases F with | cC S Q f G L hn O q=>
      rename_i l a c
      obtain⟨l',C,N⟩:=W.live r' b hb
      rw[S]at C;cases C
      refine⟨rfl,.pointer (some (a.add (k.toNat * s))),?_,?_⟩
      ·simp[Instr.indexAt,asIntOf,bu D,H,v,run_sizeOf p]
      ·have A:a.off=B * l.esz:=by
        rcases G with h | h
        ·omega
        ·exact h
       rw[lf f,iE,Q,A,K,<-N.esz,<-mS]
       have:=VR.ptr (M:=M) (ι:=ι) (i:=B+k.toNat) (j:=0) S q
       simpa using this
     ·cases h
    ·cases h
   ·cases h
  ·split at h
   ·rename_i n e G
    have D:=E3 G
    have V : ∀(b o s:Nat),E = .pointer (some ⟨b,o,none⟩)->aJ P e=some s->0<=k->k<n->(Instr.indexAt t E (.int ki k)).run P w = .ok (.pointer (some ⟨b,o+k.toNat * s,none⟩)) w:=by
     intro b o s e v h2 X
     subst e
     simp[Instr.indexAt,asIntOf,bu D,Instr.sureAddr,h2,X,run_sizeOf v,iE]
    split at h
    ·rename_i r' i j s d p
     cases d
     split at h
     ·rename_i m
      cases h
      cases F with | ptr Y q=>
      exact⟨rfl,_,V _ _ _ rfl p m.1 m.2,by rw[Jq];exact .ptr Y q⟩
     ·cases h
    ·rename_i esz es i j s d p
     cases d
     split at h
     ·rename_i m
      cases h
      cases F with | iptr cell hm I J=>
      rename_i b o
      exact⟨rfl,_,V _ _ _ rfl p m.1 m.2,by rw[show o+(i * esz+j)+k.toNat * s=o+(i * esz+(j+k.toNat * s)) by omega];exact .iptr cell hm I J⟩
     ·cases h
    ·cases h
   ·cases h
 ·cases h
theorem LP{y x:AV}{e:Value}{i:Nat}(j:VR M ι y e){d:List bA}(h:ti (some y) i=some (x,d)) :
 d=[] /\∃u,(Instr.extract e i).run P w = .ok u w/\VR M ι x u:=by
 unfold ti at h
 split at h
 ·rename_i k c
  cases c
  simp only[jK,bO]at h
  obtain⟨l,b,c⟩:=h
  cases c
  cases j with | tup n m f=>
  rename_i us
  have a:i<us.size:=by have:=(iG.1 b).1;omega
  exact⟨rfl,us[i],by simp[Instr.extract,jS a],f i _ _ b (jS a)⟩
 ·cases h
theorem DN{t:TypeId}{y x:AV}{b:Value}(f:VR M ι y b){c:List bA}(h:sI P t (some y)=some (x,c)) :
 c=[] /\∃u,(Instr.makeInterface t b).run P w = .ok u w/\VR M ι x u:=by
 unfold sI at h
 split at h
 ·cases h
 ·rename_i d a e
  simp at h
  obtain⟨rfl,rfl⟩:=h
  refine⟨rfl,.iface t b,?_,.ifc f⟩
  simp only[Instr.makeInterface,Sem.run_bind,bu e,Result.andThen_ok]
  cases d<;>first | rfl | (exact absurd e (a _))
 ·cases h
theorem BN{st a:TypeId}{ok:Bool}{y x:AV}{n:Value}(p:VR M ι y n){D:List bA}(h:sR P (some y) a ok=some (x,D)) :
 D=[] /\∃u,(Instr.typeAssert n st a ok).run P w = .ok u w/\VR M ι x u:=by
 have j : ∀d,P.underlying a=some d->(∀F,d ≠ .interface F) ->∀z,eD P a=some z->ok=true->(n = .nilIface \/∃t v,n = .iface t v/\t≠a) ->
  ∃u,(Instr.typeAssert n st a ok).run P w = .ok u w/\VR M ι (.tup [z,.v (.bool false)]) u:=by
  intro d l b z m k e
  subst k
  obtain⟨v,E,A⟩:=xO m w
  refine⟨.tuple #[v,.bool false],?_,?_⟩
  ·simp only[Instr.typeAssert,Sem.run_bind,bu l,Result.andThen_ok]
   rcases e with rfl | ⟨t,x,rfl,o⟩
   ·cases d<;>first | (simp[E];done) | exact absurd rfl (b _)
   ·cases d<;>first | (simp[E,o];done) | exact absurd rfl (b _)
  ·refine .tup (by simp) rfl λi c u f e=>?_
   match i with
   | 0=>simp at f e;subst f;subst e;exact jC A
   | 1=>simp at f e;subst f;subst e;exact .v rfl
   | i+2=>simp at f
 unfold sR at h
 split at h
 ·cases h
 ·rename_i d t G b l B
  cases B
  cases p with | ifc p=>
  rename_i C
  split at h
  ·rename_i q
   subst q
   simp at h
   obtain⟨rfl,rfl⟩:=h
   refine⟨rfl,(if ok then .tuple #[C,.bool true] else C),?_,?_⟩
   ·simp only[Instr.typeAssert,Sem.run_bind,bu l,Result.andThen_ok]
    cases d<;>first | (simp;done) | exact absurd l (by intro h;exact b _ h)
   ·cases ok with
    | false=>simpa using p
    | true=>
     simp only[if_true]
     refine .tup (by simp) rfl λi c u f e=>?_
     match i with
     | 0=>simp at f e;subst f;subst e;exact p
     | 1=>simp at f e;subst f;subst e;exact .v rfl
     | i+2=>simp at f
  ·rename_i q
   split at h
   ·rename_i k
    simp at h
    obtain⟨z,m,rfl,rfl⟩:=h
    exact⟨rfl,j d l b z m k (.inr ⟨t,C,rfl,q⟩)⟩
   ·cases h
 ·rename_i d b l B
  cases B
  split at h
  ·rename_i k
   simp at h
   obtain⟨z,m,rfl,rfl⟩:=h
   cases p
   exact⟨rfl,j d l b z m k (.inl rfl)⟩
  ·cases h
 ·cases h
end
end Go.Ab
namespace Go.Ab
section
variable{P:Program}{M:Mem}{ι:Map}{g:db}{w:World}{r:Ref}
theorem MB(a:Nat) : ∀(us:List Value)(k:Nat)(cells:Array Value),a+k+us.length<=cells.size ->
 (us.zipIdx k).foldl (λcs (p:Value × Nat)=>cs.setIfInBounds (a+p.2) p.1) cells=cr cells (a+k) us:=by
 intro us
 induction us with
 | nil=>intro k cells h;simp[cr]
 | cons u us d=>
  intro k cells h
  simp only[nx]at h
  rw[List.zipIdx_cons,vO,d (k+1) _ (by simp;omega)]
  apply Em
  intro i
  rw[il (by simp;omega),il (by simp;omega)]
  by_cases c:i=a+k
  ·subst c
   rw[if_neg (by omega),if_pos ⟨bD _,by simp⟩]
   simp[show a+k<cells.size by omega]
  ·by_cases b:a+(k+1)<=i/\i<a+(k+1)+us.length
   ·rw[if_pos b,if_pos (by simp;omega)]
    rw[show i - (a+k)=(i - (a+(k+1)))+1 by omega]
    simp
   ·rw[if_neg b,if_neg (by simp;omega)]
    rw[Bi (by omega)]
theorem lR.patch{cs new:List AV}{us a:List Value}{j:Nat}(h:lR M ι cs us)(b:lR M ι new a):lR M ι (patch cs j new) (us.take j++a++us.drop (j+a.length)):=by
 unfold Ab.patch
 rw[<-b.1]
 exact((h.take j).append b).append (h.drop _)
theorem Qe(c:Nat->Option (Nat × Nat)) : ∀(ps:List (Nat × AV)) (qs:List (Nat × Value)) (cs d:List AV) (b:Array Value),lE c cs ps=some d->lR M ι cs b.toList ->
 ps.length=qs.length->(∀(i:Nat) p q,ps[i]?=some p->qs[i]?=some q->p.1=q.1/\VR M ι p.2 q.2) ->
 ∃e,Instr.fill c b qs=some e/\lR M ι d e.toList:=by
 intro ps
 induction ps with
 | nil=>
  intro qs cs d b h t o hp
  simp[lE]at h
  subst h
  cases qs with
  | nil=>exact⟨b,rfl,t⟩
  | cons q qs=>simp at o
 | cons p ps H=>
  intro qs cs d b h t o hp
  cases qs with
  | nil=>simp at o
  | cons q qs=>
   obtain⟨i,v⟩:=p
   obtain⟨K,u⟩:=q
   obtain⟨B,C⟩:=hp 0 _ _ rfl rfl
   simp only at B C
   subst B
   simp only[lE]at h
   split at h
   ·cases h
   ·rename_i a m x
    split at h
    ·rename_i G
     obtain⟨E,hle⟩:=G
     have n:=C.cells
     have F:u.cells.size=m:=by have:=n.1;simp at this;omega
     have J:b.size=cs.length:=by have:=t.1;simp at this;omega
     have f:=MB a u.cells.toList 0 b (by simp;omega)
     have l:u.cells.zipIdx.foldl (λcs (p:Value × Nat)=>cs.setIfInBounds (a+p.2) p.1) b=cr b a u.cells.toList:=by
      rw[Bc]at f
      rw[<-f,<-Nx,Array.toList_zipIdx]
     have z:lR M ι (patch cs a v.cells) (cr b a u.cells.toList).toList:=by
      have:=t.patch (j:=a) n
      simpa [cr] using this
     obtain⟨e,I,D⟩:=H qs (patch cs a v.cells) d (cr b a u.cells.toList) h z (by simpa using o) (λk p q y A=>hp (k+1) p q y A)
     refine⟨e,?_,D⟩
     simp only[Instr.fill,x]
     rw[if_neg (by simp;omega)]
     rw[<-I,<-l]
    ·cases h
theorem uf{tm:List AV}{a:Act}(h:TR M ι tm a){ps:List (Nat × Operand)}{b:List (Nat × AV)}(c:iM tm ps=some b) :
 b.length=(ps.map λp=>(p.1,a.eval p.2)).length /\∀(i:Nat) p q,b[i]?=some p->(ps.map λp=>(p.1,a.eval p.2))[i]?=some q->p.1=q.1/\VR M ι p.2 q.2:=by
 unfold iM at c
 refine⟨by simpa using jM c,λi p q hp e=>?_⟩
 obtain⟨⟨k,o⟩,f,d⟩:=qV c i p hp
 simp only[bO]at d
 obtain⟨y,j,rfl⟩:=d
 simp only[oM,f,Option.map_some,dR]at e
 subst e
 exact⟨rfl,aX h j⟩
theorem uP{t:TypeId}{z:AV}(h:eD P t=some z) : ∃i u,P.info? t=some i/\i.zero=some u/\ofValue u=some z:=by
 simp only[eD,gE]at h
 obtain⟨u,⟨i,b,a⟩,hu⟩:=h
 exact⟨i,u,b,a,hu⟩
theorem Rm{t:TypeId}{f:List (Nat × AV)}{qs:Array (Nat × Value)}{x:AV}{B:List bA}(C:f.length=qs.toList.length)
 (hp : ∀(i:Nat) p q,f[i]?=some p->qs.toList[i]?=some q->p.1=q.1/\VR M ι p.2 q.2) (h:lx P t (some f)=some (x,B)) :
 B=[] /\∃u,(Instr.build t qs).run P w = .ok u w/\VR M ι x u:=by
 unfold lx at h
 split at h
 ·rename_i z G E l
  cases l
  obtain⟨it,u,d,k,hu⟩:=uP E
  obtain⟨A,rfl,j⟩:=(jC (M:=M) (ι:=ι) hu).Qr
  split at h
  ·rename_i n e F
   split at h
   ·rename_i s D
    simp only[bO]at h
    obtain⟨cs,c,l⟩:=h
    cases l
    obtain⟨I,y,rfl⟩:=yM D
    obtain⟨a,o,v⟩:=Qe (M:=M) (ι:=ι) _ f qs.toList z cs A c j C hp
    refine⟨rfl,.agg a,run_build w t qs a ?_,VR.rD.2 v⟩
    simp[Program.built,d,E3 F,k,y,Value.cells,o]
   ·cases h
  ·split at h
   ·rename_i ps b
    simp only[bO]at h
    obtain⟨cs,c,l⟩:=h
    cases l
    unfold placesOf at b
    split at b
    ·rename_i H m
     obtain⟨a,o,v⟩:=Qe (M:=M) (ι:=ι) _ f qs.toList z cs A c j C hp
     refine⟨rfl,.agg a,run_build w t qs a ?_,VR.rD.2 v⟩
     simp only[Program.built,d,m,k,b,Value.cells]
     rw[<-o]
     congr 1
     funext i
     simp
    ·cases b
   ·cases h
 ·cases h
theorem WI{b:BinOp}{t:TypeId}{k l:Operand}{x y z:AV}{u v:Value}(p:VR M ι x u)(q:VR M ι y v){B:List bA}(h:bS P b t k l (some x) (some y)=some (z,B)) :
 B=[] /\∃r,(do eqGuard b t k l u v;binOp b t u v:Sem Value).run P w = .ok r w/\VR M ι z r:=by
 simp only[bS]at h
 ·split at h
  ·rename_i A
   have key:(∃a n c,u = .slice (some a) n c/\v = .slice none 0 0)\/(∃a n c,v = .slice (some a) n c/\u = .slice none 0 0):=by
    simp only[ff,aZ]at A
    rcases A with ⟨m,d⟩ | ⟨m,d⟩
    ·left
     have:v = .slice none 0 0:=by
      cases q<;>simp[oa]at d
      split at d<;>simp_all
     cases p<;>simp[Kq]at m
     ·exact⟨_,_,_,rfl,this⟩
     ·exact⟨_,_,_,rfl,this⟩
    ·right
     have:u = .slice none 0 0:=by
      cases p<;>simp[oa]at d
      split at d<;>simp_all
     cases q<;>simp[Kq]at m
     ·exact⟨_,_,_,rfl,this⟩
     ·exact⟨_,_,_,rfl,this⟩
   have i : ∀b,(eqGuard b t k l u v).run P w = .ok () w:=by
    intro b
    rcases key with ⟨a,n,c,rfl,rfl⟩ | ⟨a,n,c,rfl,rfl⟩<;>(unfold eqGuard;cases b<;>simp)
   split at h
   ·rename_i e f
    simp at h;obtain⟨rfl,rfl⟩:=h
    refine⟨rfl,.bool false,?_,.v rfl⟩
    simp only[Sem.run_bind,i,Result.andThen_ok]
    rcases key with ⟨a,n,c,rfl,rfl⟩ | ⟨a,n,c,rfl,rfl⟩
    ·rw[Lib.run_eql_slice_nil w t e (some a) n c 0 0 f];rfl
    ·rw[run_eql_nil_slice w t e (some a) n c 0 0 f];rfl
   ·rename_i e f
    simp at h;obtain⟨rfl,rfl⟩:=h
    refine⟨rfl,.bool true,?_,.v rfl⟩
    simp only[Sem.run_bind,i,Result.andThen_ok]
    rcases key with ⟨a,n,c,rfl,rfl⟩ | ⟨a,n,c,rfl,rfl⟩
    ·rw[run_neq_slice_nil_any w t e (some a) n c 0 0 f];rfl
    ·rw[run_neq_nil_slice w t e (some a) n c 0 0 f];rfl
   ·cases h
  ·split at h
   ·rename_i H I j o
    simp only[jK,bO,gE]at h
    obtain⟨G,⟨r,C,D⟩,he⟩:=h
    cases he
    have F:=uR p j
    have E:=uR q o
    subst F;subst E
    exact⟨rfl,r,n7 C w,n8 D⟩
   ·cases h
theorem Zw{a:UnOp}{x z:AV}{u:Value}(e:VR M ι x u){b:List bA}(h:X7 P a (some x)=some (z,b)) :
 b=[] /\∃r,(Op.unary a u).run P w = .ok r w/\VR M ι z r:=by
 simp only[X7,jK,bO,gE,dR]at h
 obtain⟨i,⟨r,⟨v,⟨j,rfl,f⟩,c⟩,d⟩,he⟩:=h
 cases he
 have:=NX e f
 subst this
 exact⟨rfl,r,n7 c w,n8 d⟩
theorem VX{xs:List AV}{us d:List Value}(c:lR M ι xs us)(h:xs.mapM Ir=some d):us=d:=by
 apply Jv
 intro i
 rcases fe i us.length with a | a
 ·have b:i<xs.length:=by rw[c.1];exact a
  obtain⟨v,f,e⟩:=jN h i xs[i] (eC b)
  rw[f,eC a,NX (c.2 i _ _ (eC b) (eC a)) e]
 ·have:=jM h
  rw[xp a,xp (by rw[this,c.1];exact a)]
theorem IX{f:Value->Value->Sem Value}{xs:List AV}{us:List Value}{z:AV}(e:lR M ι xs us)(h:Kg f P xs=some z) :
 ∃u a,us=u :: a /\∃r,(a.foldlM f u).run P w = .ok r w/\VR M ι z r:=by
 unfold Kg at h
 split at h
 ·rename_i u a d
  have:=VX e d
  subst this
  simp only[gE]at h
  obtain⟨r,b,c⟩:=h
  exact⟨u,a,rfl,r,n7 b w,n8 c⟩
 ·cases h
theorem tq{t:TypeId}(h:isStr P t=true):P.underlying t=some .string:=by
 unfold isStr at h
 split at h
 ·assumption
 ·cases h
theorem re{t:TypeId}(h:fE P t=true) : ∃e,P.underlying t=some (.slice e)/\P.underlying e=some (.int .u8):=by
 unfold fE at h
 split at h
 ·rename_i e a
  split at h
  ·exact⟨e,a,by assumption⟩
  ·cases h
 ·cases h
theorem UK{t:TypeId}(h:isInt P t=true) : ∃k,P.underlying t=some (.int k):=by
 unfold isInt at h
 split at h
 ·exact⟨_,by assumption⟩
 ·cases h
end
end Go.Ab
namespace Go.Ab
section
variable{P:Program}{M:Mem}{ι:Map}{g:db}{w:World}{r:Ref}
structure Src (P:Program) (M:Mem) (w:World) (u:Value) (z:Nat) (es:List AV) (us:List Value):Prop where
 len:us.length=es.length * z
 Je : ∀e∈es,e.cells.length=z
 one : ∀x∈us,x.oneCell'=true
 vr : ∀(i j:Nat) e x,es[i]?=some e->e.cells[j]?=some x ->∃u,us[i * z+j]?=some u/\VR M ei x u
 lenOf : ∀w':World,(Builtin.lenOf u).run P w' = .ok es.length w'
 first : ∀(n:Nat)(w':World),n<=es.length->w'.heap=w.heap->(Builtin.firstCells z n u).run P w' = .ok (us.take (n * z)).toArray w'
theorem Rb{es:List AV}{z:Nat}(h : ∀e∈es,e.cells.length=z)(cell:Nat->Nat->Value) :
 ∃us:List Value,us.length=es.length * z /\∀i j,i<es.length->j<z->us[i * z+j]?=some (cell i j):=by
 refine⟨(List.range (es.length * z)).map λk=>cell (k / z) (k % z),by simp,?_⟩
 intro i j c a
 have b:0<z:=by omega
 have:=DY c a
 rw[oM,List.getElem?_range this]
 simp only[Option.map_some,dR]
 rw[Nat.mul_comm i z,Nat.mul_add_div b,Nat.div_eq_of_lt a,Nat.mul_add_mod,Nat.mod_eq_of_lt a,Bc]
theorem Py{es:List AV}{z:Nat}(b : ∀e∈es,e.cells.length=z)(E:0<z\/es=[]){a:Addr}{c:Nat}(t:a.spot=none\/es=[])(cell:Nat->Nat->Value)
 (D : ∀i j,i<es.length->j<z->w.cell? ⟨a.block,a.off+(i * z+j),none⟩=some (cell i j)/\(cell i j).oneCell'=true)
 (J : ∀(i j:Nat) e x,es[i]?=some e->e.cells[j]?=some x->VR M ei x (cell i j)) : ∃us,Src P M w (.slice (some a) es.length c) z es us:=by
 obtain⟨us,u,y⟩:=Rb b cell
 have f : ∀k,k<us.length->0<z/\k / z<es.length/\k % z<z/\k / z * z+k % z=k:=by
  intro k o
  rw[u]at o
  have d:0<z:=by
   rcases E with h | h
   ·exact h
   ·subst h;simp at o
  exact⟨d,(Nat.div_lt_iff_lt_mul d).2 o,Nat.mod_lt _ d,by rw[Nat.mul_comm];exact Nat.div_add_mod k z⟩
 refine⟨us,u,b,?_,?_,λw'=>by simp[Builtin.lenOf],?_⟩
 ·intro x q
  obtain⟨k,o,A⟩:=qK q
  obtain⟨d,m,p,e⟩:=f k o
  have:=y _ _ m p
  rw[e,eC o,A]at this
  injection this with this
  rw[this]
  exact(D _ _ m p).2
 ·intro i j e x C q
  have F:=(iG.1 C).1
  have l:j<z:=by
   rw[<-b e (fC C)]
   exact(iG.1 q).1
  exact⟨cell i j,y i j F l,J i j e x C q⟩
 ·intro n w' I B
  have H:n * z<=us.length:=by rw[u];exact mA _ I
  refine run_firstCells_some (P:=P) w' z n a es.length c (us.take (n * z)) (by simp;omega) ?_
  intro j v l
  rw[Bg]at l
  split at l
  ·rename_i G
   obtain⟨d,m,p,e⟩:=f j (by omega)
   have:=y _ _ m p
   rw[e,l]at this
   cases this
   have t:=t.resolve_right (by intro e;subst e;simp at m)
   rw[lf t,iE]
   have:=(D _ _ m p).1
   rw[e]at this
   rw[World.cell?_of_block (w:=w) (by rw[B])]
   exact this
  ·cases l
theorem getElems(es:List AV)(a len:Nat)(c:a+len<=es.length):((es.drop a).take len).length=len /\∀i,i<len->((es.drop a).take len)[i]?=es[a+i]? :=
 ⟨by simp;omega,λi b=>by rw[Bg,if_pos b,Fo]⟩
theorem ow(J:gA M ι g w){x:AV}{u:Value}(k:VR M ι x u){z:Nat}{es:List AV}(K:0<z)(h:cU g x=some (z,es)) : ∃us,Src P M w u z es us:=by
 unfold cU at h
 split at h
 ·rename_i s
  cases h
  cases k
  refine⟨s.data.toList.map λb => .int .u8 b.toNat,?_,?_,?_,?_,?_,?_⟩
  ·simp
  ·intro e f
   simp only[r8]at f
   obtain⟨b,_,rfl⟩:=f
   rfl
  ·intro x k
   simp only[r8]at k
   obtain⟨b,_,rfl⟩:=k
   rfl
  ·intro i j e x f k
   simp only[oM,bO]at f
   obtain⟨b,G,rfl⟩:=f
   cases j with
   | succ j=>simp[AV.cells]at k
   | zero=>
    simp[AV.cells]at k
    subst k
    exact⟨.int .u8 b.toNat,by simp[G],.v rfl⟩
  ·intro w'
   simp only[Builtin.lenOf,Sem.run_pure,p7,Ca]
   rfl
  ·intro n w' R V
   simp only[Builtin.firstCells,Nat.mul_one,Sem.run_pure]
   congr 1
   apply Fu
   simp only[Array.toList_map,ByteArray.data_extract,NG]
   rw[NN]
   simp[Jp]
 ·rename_i esz Q cap
  cases h
  cases k with | cG cell D L X hm f S=>
  rename_i a c
  exact Py f (.inl K) D cell (λi j o p=>⟨J.mem _ _ _ (hm i j o p).1,(hm i j o p).2⟩) S
 ·rename_i r' d len cap
  split at h
  ·rename_i b G
   split at h
   ·rename_i L
    cases h
    obtain⟨y,hlen⟩:=L
    cases k with | cC N H D O U R X F=>
    rename_i l a c
    have m:=J.at N F G
    obtain⟨B,C⟩:=getElems b.es d len hlen
    have q:0<len->a.off=d * b.esz:=by
     intro Y
     rcases O with h | h
     ·omega
     ·rw[h,m.esz]
    have key : ∀i j,i<len->j<b.esz ->∃u,w.cell? ⟨a.block,a.off+(i * b.esz+j),none⟩=some u/\u.oneCell'=true /\∀e x,b.es[d+i]?=some e->e.cells[j]?=some x->VR M ei x u:=by
     intro i j o p
     have f:b.es[d+i]?=some b.es[d+i]:=eC (by omega)
     have W:=m.cells b.es[d+i] (lM _)
     obtain⟨u,hu,B,C⟩:=m.cell (d+i) f j _ (eC (by omega:j<b.es[d+i].cells.length))
     refine⟨u,?_,B,?_⟩
     ·rw[q (by omega),H,show d * b.esz+(i * b.esz+j)=(d+i) * b.esz+j by rw[mS];omega]
      exact hu
     ·intro e x A t
      rw[f]at A;cases A
      rw[eC (by omega:j<b.es[d+i].cells.length)]at t;cases t
      rw[bA.map,if_pos y]at C
      exact C
    let cell:Nat->Nat->Value:=λi j=>(w.cell? ⟨a.block,a.off+(i * b.esz+j),none⟩).getD undef
    have:=Py (P:=P) (M:=M) (w:=w) (es:=(b.es.drop d).take len) (z:=b.esz) (a:=a) (c:=c)
     (by intro e f;exact m.cells e (Fq (zw f))) (.inl K) (.inl D) cell
     (by
      intro i j o p
      rw[B]at o
      obtain⟨u,E,I,_⟩:=key i j o p
      simp[cell,E,I])
     (by
      intro i j e x f k
      have o:i<len:=by have:=(iG.1 f).1;omega
      rw[C i o]at f
      have p:j<b.esz:=by
       rw[<-m.cells e (fC f)]
       exact(iG.1 k).1
      obtain⟨u,E,I,T⟩:=key i j o p
      simp only[cell,E,fQ]
      exact T e x f k)
    rw[B]at this
    exact this
   ·cases h
  ·cases h
 ·cases h
inductive Dm:Option Value->Option Int->Prop
 | none:Dm none none
 | some (k n):Dm (some (.int k n)) (some n)
theorem uo{tm:List AV}{a:Act}(h:TR M ι tm a){o:Option Operand}{x:Option Int}(b:ma tm o=some x):Dm (o.map a.eval) x:=by
 cases o with
 | none=>simp only[ma,dR]at b;subst b;exact .none
 | some o=>
  simp only[ma]at b
  split at b
  ·rename_i n c
   injection b with b
   subst b
   simp only[gE]at c
   obtain⟨y,f,e⟩:=c
   obtain⟨k,d⟩:=xY (aX h f) e
   rw[Option.map_some,d]
   exact .some k n
  ·cases b
theorem Eb{len c:Nat}{cap:Option Nat}(N:len<=c)(H : ∀k,cap=some k->c=k){G B D:Option Int}{l h:Nat}{C:Option Nat}(b:bounds len cap G B D=some (l,h,C))
 {o v p:Option Value} (x:Dm o G) (E:Dm v B) (L:Dm p D) :
 l<=h/\h<=len /\∃m,h<=m/\m<=c/\(∀k,C=some k->m - l=k)/\(Instr.sliceBounds true len c o v p).run P w = .ok (l,h,m) w:=by
 have e : ∀(k:IntKind)(i:Int)(y:Nat)(d:BoundsCode),0<=i->i<=y->(Instr.sliceBound (.int k i) y d).run P w = .ok i.toNat w:=λk i y d=>run_sliceBound w k i y d
 cases L with
 | some I m=>
  cases E with
  | none=>simp[bounds]at b
  | some q a=>
   simp only[bounds]at b
   obtain⟨⟨n,j,z,F,Q⟩,b⟩:=fa.1 b
   simp only[dR,xk]at b
   obtain⟨rfl,rfl,rfl⟩:=b
   have K:m<=c:=by
    cases cap with
    | none=>simp at F;omega
    | some k=>have:=H k rfl;simp at F;omega
   have R:((m.toNat:Nat):Int)=m:=B9 (by omega)
   have O:((a.toNat:Nat):Int)=a:=B9 (by omega)
   refine⟨by omega,by omega,m.toNat,by omega,by omega,by intro k f;cases f;rfl,?_⟩
   cases x with
   | none=>
    simp only[uB]at n j
    simp only[Instr.sliceBounds,Sem.run_bind,e I m c _ (by omega) (by omega),Result.andThen_ok,e q a m.toNat _ (by omega) (by omega),Sem.run_pure,uB]
    rfl
   | some t u=>
    simp only[fQ]at n j
    simp only[Instr.sliceBounds,Sem.run_bind,e I m c _ (by omega) (by omega),Result.andThen_ok,e q a m.toNat _ (by omega) (by omega),e t u a.toNat _ (by omega) (by omega),Sem.run_pure,fQ]
 | none=>
  simp only[bounds]at b
  obtain⟨⟨n,j,z⟩,b⟩:=fa.1 b
  simp only[dR,xk]at b
  obtain⟨rfl,rfl,rfl⟩:=b
  refine⟨by omega,by omega,c,by omega,bD _,?_,?_⟩
  ·intro k f
   simp only[bO]at f
   obtain⟨J,A,rfl⟩:=f
   rw[H J A]
  ·cases E with
   | none=>
    simp only[uB]at j z ⊢
    cases x with
    | none=>simp[Instr.sliceBounds]
    | some t u=>
     simp only[fQ]at n j ⊢
     simp only[Instr.sliceBounds,Sem.run_bind,Sem.run_pure,Result.andThen_ok,e t u len _ (by omega) (by omega)]
     simp
   | some q a=>
    simp only[fQ]at j z ⊢
    have O:((a.toNat:Nat):Int)=a:=B9 (by omega)
    cases x with
    | none=>
     simp only[uB]at n j ⊢
     simp only[Instr.sliceBounds,Sem.run_bind,Sem.run_pure,Result.andThen_ok,e q a c _ (by omega) (by omega)]
     simp
    | some t u=>
     simp only[fQ]at n j ⊢
     simp only[Instr.sliceBounds,Sem.run_bind,Sem.run_pure,Result.andThen_ok,e q a c _ (by omega) (by omega),e t u a.toNat _ (by omega) (by omega)]
theorem tX{t e:TypeId}(k:P.underlying t=some (.slice e)){s:Nat}(i:aJ P e=some s){a:Option Addr}{len c l h m:Nat}{f d b:Option Value}
 (j:(Instr.sliceBounds true len c f d b).run P w = .ok (l,h,m) w) :
 (Instr.sliceAt t (.slice a len c) f d b).run P w = .ok (.slice (if m=l then a else a.map (·.add (l * s))) (h - l) (m - l)) w:=by
 simp[Instr.sliceAt,bu k,Instr.slice,j,run_sizeOf i]
theorem Rj(hS:gA M ι g w){t:TypeId}{y x:AV}{u0:Value}(X:VR M ι y u0){lo q mx:Option Int}{E J G:Option Value}
 (D:Dm E lo) (V:Dm J q) (U:Dm G mx)
 {bs:List bA} (h:iJ P g t (some y) (some lo) (some q) (some mx)=some (x,bs)) :
 bs=[] /\∃u,(Instr.sliceAt t u0 E J G).run P w = .ok u w/\VR M ι x u:=by
 simp only[iJ]at h
 split at h
 ·
  rename_i e
  cases e
  cases X
  obtain⟨n,h⟩:=fa.1 h
  simp only[bO]at h
  obtain⟨⟨l,f,F⟩,o,e⟩:=h
  cases e
  obtain⟨s,z⟩:=gH.1 n
  simp only[gE]at z
  obtain⟨e,A,z⟩:=z
  obtain⟨b1,b2,m,b3,b4,b5,K⟩:=Eb (P:=P) (w:=w) (bD 0) (by intro k N;cases N;rfl) o D V U
  have e1:l=0:=by omega
  have C:f=0:=by omega
  have e3:m=0:=by omega
  subst e1;subst C;subst e3
  exact⟨rfl,_,tX (iD A) z K,.v rfl⟩
 ·
  rename_i s e
  cases e
  cases X
  obtain⟨n,h'⟩:=fa.1 h
  clear h
  simp only[aZ,Option.isNone_iff_eq_none]at n
  obtain⟨n,rfl⟩:=n
  cases U
  obtain⟨⟨l,f,F⟩,o,e⟩:=bO.1 h'
  cases e
  have S:=tq n
  have R : ∀(k:IntKind)(i:Int)(y:Nat)(p:BoundsCode),0<=i->i<=y->(Instr.sliceBound (.int k i) y p).run P w = .ok i.toNat w:=λk i y p=>run_sliceBound w k i y p
  simp only[bounds]at o
  obtain⟨⟨H,B,T⟩,o⟩:=fa.1 o
  simp only[dR,xk]at o
  obtain⟨rfl,rfl,rfl⟩:=o
  refine⟨rfl,.string (s.extract (lo.getD 0).toNat (q.getD s.size).toNat),?_,.v rfl⟩
  cases V with
  | none=>
   simp only[uB]at B T;try simp only[uB,fQ]
   cases D with
   | none=>simp[Instr.sliceAt,bu S,Instr.slice,Instr.sliceBounds]
   | some kl ll=>
    simp only[fQ]at H B;try simp only[uB,fQ]
    simp[Instr.sliceAt,bu S,Instr.slice,Instr.sliceBounds,R kl ll s.size _ H B]
  | some kh f=>
   simp only[fQ]at B T;try simp only[uB,fQ]
   have eh:((f.toNat:Nat):Int)=f:=B9 (by omega)
   cases D with
   | none=>
    simp only[uB]at H B;try simp only[uB,fQ]
    simp[Instr.sliceAt,bu S,Instr.slice,Instr.sliceBounds,R kh f s.size _ B T]
   | some kl ll=>
    simp only[fQ]at H B;try simp only[uB,fQ]
    simp[Instr.sliceAt,bu S,Instr.slice,Instr.sliceBounds,R kh f s.size _ (by omega) T,R kl ll f.toNat _ H (by omega)]
 ·
  rename_i esz es cap e
  cases e
  obtain⟨n,h⟩:=fa.1 h
  simp only[bO]at h
  obtain⟨⟨l,f,F⟩,o,e⟩:=h
  cases e
  simp only[gE]at n
  obtain⟨e,A,z⟩:=n
  cases X with | cG cell d W N hm hes hh'=>
  rename_i a c
  obtain⟨b1,b2,m,b3,b4,b5,K⟩:=Eb (P:=P) (w:=w) W N o D V U
  refine⟨rfl,_,tX (iD A) z K,?_⟩
  obtain⟨g1,g2⟩:=getElems es l (f - l) (by omega)
  have:=VR.cG (M:=M) (ι:=ι) (esz:=esz) (es:=(es.drop l).take (f - l)) (cap:=F) (a:=(if m=l then a else a.add (l * esz))) (c:=m - l) (λi j=>cell (l+i) j)
   (by
    rcases d with d | d
    ·left
     split
     ·exact d
     ·rw[lf d,iE]
    ·right;subst d;simp) (by omega) b5
   (by
    intro i j q hj
    rw[g1]at q
    have d:=d.resolve_right (by intro e;subst e;simp at b2 W;omega)
    rw[if_neg (by omega),lf d,iE]
    have:=hm (l+i) j (by omega) hj
    rw[show a.off+((l+i) * esz+j)=a.off+l * esz+(i * esz+j) by rw[mS];omega]at this
    exact this)
   (by intro e A;exact hes e (Fq (zw A)))
   (by
    intro i j e x q hx
    have hi':i<f - l:=by have:=(iG.1 q).1;omega
    rw[g2 i hi']at q
    exact hh' (l+i) j e x q hx)
  rw[g1]at this
  have C:(if m=l then some a else (some a).map (·.add (l * esz)))=some (if m=l then a else a.add (l * esz)):=by split<;>rfl
  rw[C]
  exact this
 ·
  rename_i r' off len cap e
  cases e
  split at h
  ·rename_i b Y
   obtain⟨n,h⟩:=fa.1 h
   simp only[bO]at h
   obtain⟨⟨l,f,F⟩,o,e⟩:=h
   cases e
   simp only[gE]at n
   obtain⟨e,A,z⟩:=n
   cases X with | cC Z Q d ha W hn N I=>
   rename_i lo' a c
   obtain⟨l',O,hbk⟩:=hS.live r' b Y
   rw[Z]at O;cases O
   obtain⟨b1,b2,m,b3,b4,b5,K⟩:=Eb (P:=P) (w:=w) W N o D V U
   refine⟨rfl,_,tX (iD A) z K,?_⟩
   have C:(if m=l then some a else (some a).map (·.add (l * b.esz)))=some (if m=l then a else a.add (l * b.esz)):=by split<;>rfl
   rw[C]
   show VR M ι (.cC r' (off+l) (f - l) F) _
   by_cases L:m=l
   ·rw[if_pos L]
    exact .cC Z Q d (.inl (by omega)) (by omega) (.inl (by omega)) b5 I
   ·rw[if_neg L,lf d,iE]
    refine .cC Z Q rfl (.inr ?_) (by omega) (.inr ?_) b5 I
    ·rcases ha with h | h
     ·omega
     ·simp only[h,hbk.esz,mS]
    ·rcases hn with h | h
     ·omega
     ·omega
  ·cases h
 ·cases h
theorem Pc{len c:Nat}(v:len<=c){l h:Option Int}(o:0<=l.getD 0)(e:l.getD 0<=h.getD len)(q:h.getD len<=c)
 {d b:Option Value} (p:Dm d l) (u:Dm b h) :
 (Instr.sliceBounds true len c d b none).run P w = .ok ((l.getD 0).toNat,(h.getD len).toNat,c) w:=by
 have j : ∀(k:IntKind)(i:Int)(y:Nat)(a:BoundsCode),0<=i->i<=y->(Instr.sliceBound (.int k i) y a).run P w = .ok i.toNat w:=λk i y a=>run_sliceBound w k i y a
 cases u with
 | none=>
  simp only[uB]at e q ⊢
  cases p with
  | none=>simp[Instr.sliceBounds]
  | some n m=>
   simp only[fQ]at o e ⊢
   simp only[Instr.sliceBounds,Sem.run_bind,Sem.run_pure,Result.andThen_ok,j n m len _ (by omega) (by omega)]
   simp
 | some t f=>
  simp only[fQ]at e q ⊢
  have x:((f.toNat:Nat):Int)=f:=B9 (by omega)
  cases p with
  | none=>
   simp only[uB]at o e ⊢
   simp only[Instr.sliceBounds,Sem.run_bind,Sem.run_pure,Result.andThen_ok,j t f c _ (by omega) (by omega)]
   simp
  | some n m=>
   simp only[fQ]at o e ⊢
   simp only[Instr.sliceBounds,Sem.run_bind,Sem.run_pure,Result.andThen_ok,j t f c _ (by omega) (by omega),j n m f.toNat _ (by omega) (by omega)]
theorem Ot(hS:gA M ι g w){t:TypeId}{y x:AV}{T:Value}(hy:VR M ι y T){v d S:Option Int}{f o j:Option Value}
 (h1:Dm f v) (h2:Dm o d) (h3:Dm j S)
 {Q:List bA} (h:vY P g t (some y) (some v) (some d) (some S)=some (x,Q)) :
 Q=[] /\∃u,(Instr.sliceAt t T f o j).run P w = .ok u w/\VR M ι x u:=by
 unfold vY at h
 split at h
 ·rename_i K hi' r' L len cap F E X O
  simp only[dR]at F E X O
  subst F E X O
  cases h3
  split at h
  ·rename_i b C
   obtain⟨⟨U,R,c2,H⟩,h⟩:=fa.1 h
   simp only[dR,xk]at h
   obtain⟨rfl,rfl⟩:=h
   simp only[gE]at U
   obtain⟨e,he,Z⟩:=U
   cases hy with | cC D B i ha V hn W n=>
   rename_i K a c
   have z:((cap.getD len:Nat):Int)<=c:=by
    cases cap with
    | none=>simpa using V
    | some k=>rw[W k rfl];simp
   have p : ∀m:Nat,∀k,cap.map (· - m)=some k->c - m=k:=by
    intro m k N
    obtain⟨Y,I,rfl⟩:=bO.1 N
    rw[W Y I]
   replace H:d.getD (len:Int)<=c:=Int.le_trans H z
   clear z
   obtain⟨l',A,J⟩:=hS.live r' b C
   rw[D]at A;cases A
   have b6:=Pc (P:=P) (w:=w) V R c2 H h1 h2
   have F:(((v.getD 0).toNat:Nat):Int)=v.getD 0:=B9 R
   have E:(((d.getD (len:Int)).toNat:Nat):Int)=d.getD len:=B9 (by omega)
   generalize (v.getD 0).toNat=l at *
   generalize (d.getD (len:Int)).toNat=hh at *
   refine⟨rfl,_,tX (iD he) Z b6,?_⟩
   have G:(if c=l then some a else (some a).map (·.add (l * b.esz)))=some (if c=l then a else a.add (l * b.esz)):=by split<;>rfl
   rw[G]
   show VR M ι (.cC r' (L+l) (hh - l) (cap.map (· - l))) _
   by_cases q:c=l
   ·rw[if_pos q]
    exact .cC D B i (.inl (by omega)) (by omega) (.inl (by omega)) (p l) n
   ·rw[if_neg q,lf i,iE]
    refine .cC D B rfl (.inr ?_) (by omega) (.inr ?_) (p l) n
    ·rcases ha with h | h
     ·omega
     ·simp only[h,J.esz,mS]
    ·rcases hn with h | h
     ·omega
     ·omega
  ·cases h
 ·cases h
theorem TM(G:gA M ι g w){t tR:TypeId}{args:List AV}{us:List Value}(hv:lR M ι args us){x:AV}{Y:List bA}(h:LL P g t args=some (x,Y)) :
 Y=[]/\x = .v (.bool false)/\(Extern.SlicesOverlaps.overlaps #[t,t] #[tR] us.toArray).run P w = .ok (.bool false) w:=by
 unfold LL at h
 split at h
 ·rename_i r y len cap r' B d X e he
  split at h
  ·rename_i b b' z Z m hz
   obtain⟨⟨C,h1,h2,h3⟩,h⟩:=fa.1 h
   simp only[dR,xk]at h
   obtain⟨rfl,rfl⟩:=h
   refine⟨rfl,rfl,?_⟩
   obtain⟨hlen,f⟩:=hv
   match us,hlen,f with
   | [ua,ub],hlen,f=>
   have va:=f 0 _ ua rfl rfl
   have vb:=f 1 _ ub rfl rfl
   clear f hlen
   cases va with | cC U i hsp ha hc hn hk H=>
   rename_i l a c
   cases vb with | cC o k V ha' hc' Q hk' u=>
   rename_i L R F
   have ht:=iD he
   have hA:=G.at U H Z
   have hB:=G.at o u m
   obtain⟨arr,T,fz,I,N,p,_⟩:=hA.heap
   obtain⟨arr',T',fz',J,A,W,_⟩:=hB.heap
   have S:l.b≠L.b:=λe=>C (G.inj r r' b b' l L Z m U o e)
   have j : ∀w:World,(Go.sizeOf e).run P w = .ok z w:=λw=>run_sizeOf hz w
   show(Extern.SlicesOverlaps.overlaps #[t,t] #[tR] #[.slice (some a) len c,.slice (some R) d F]).run P w=_
   by_cases h0:len=0\/d=0
   ·have E:(len=0\/d=0\/z=0):=by omega
    change Sem.run P (α:=Value) (do
     let some t:=(#[t,t]:Array TypeId)[0]? | stuck "slices.overlaps: no parameter types"
     let .slice elem <-underlying t | stuck "slices.overlaps: slice type expected"
     let size <-sizeOf elem
     match (some a:Option Addr),(some R:Option Addr) with
     | some a,some b=>
      if len=0\/d=0\/size=0 then pure (Value.bool false)
      else if a.block != b.block&&(<-frozen a)&&(<-frozen b) then unsupported .addressObserved
      else do
       if a.block != b.block then do
        noView a;noView b
        if <-mayBeOne a b then return Value.bool ((<-choose (.extern "sameAddr.stringBytes" 2)) == 1)
       pure (Value.bool (a.block == b.block&&a.off<b.off+d * size&&b.off<a.off+len * size))
     | _,_=>pure (Value.bool false)) w=_
    simp[run_underlying ht,j,E]
   ·have hcn:y+c<=l.n:=by rcases hn with h | h<;>omega
    have hcn':B+F<=L.n:=by rcases Q with h | h<;>omega
    have O:a.off=y * l.esz:=by rcases ha with h | h<;>omega
    have hpos:0<arr'.size:=by rw[A];exact Nat.mul_pos (by omega) (by omega)
    have K:a.off<arr.size:=by
     rw[O,N,hA.esz]
     exact(Nat.mul_lt_mul_right (by omega)).2 (by omega)
    refine Lib.run_overlaps_apart (P:=P) w t tR e ht z j a R len c d F (by rw[i,k];exact S) T T' arr.size arr'.size ?_ ?_ (by omega) ?_ ?_
    ·unfold World.shape?;rw[i,I]
    ·unfold World.shape?;rw[k,J]
    ·unfold World.frozen?
     rw[i,I]
     have:=p.1 a.off K
     obtain⟨f1,f2⟩:=fz
     simp only at this ⊢
     rw[NI]
     simp only[decide_eq_false_iff_not]
     by_cases q:f1<=a.off
     ·exact .inr λD=>this ⟨q,.inl D⟩
     ·exact .inl q
    ·unfold World.frozen?
     simp only
     rw[i,I]
     have:=p.2 h1
     obtain⟨f1,f2⟩:=fz
     simp only at this ⊢
     rw[NI]
     simp only[decide_eq_false_iff_not]
     by_cases q:f1<=arr.size
     ·exact .inr λD=>this ⟨q,D⟩
     ·exact .inl q
  ·cases h
 ·cases h
end
end Go.Ab
namespace Go.Ab
section
variable{P:Program}{M:Mem}{ι:Map}{g:db}{w:World}{r:Ref}
structure Row (M:Mem) (z:Nat) (es:List AV) (us:List Value):Prop where
 len:us.length=es.length * z
 Je : ∀e∈es,e.cells.length=z
 one : ∀x∈us,x.oneCell'=true
 vr : ∀(i j:Nat) e x,es[i]?=some e->e.cells[j]?=some x ->∃u,us[i * z+j]?=some u/\VR M ei x u
theorem Src.row{u z es us}(h:Src P M w u z es us):Row M z es us:=⟨h.len,h.Je,h.one,h.vr⟩
theorem Row.nil{z:Nat}:Row M z [] []:=⟨by simp,by simp,by simp,by intro i j e x h;simp at h⟩
theorem Row.append{z es us es' us'}(h:Row M z es us)(c:Row M z es' us'):Row M z (es++es') (us++us'):=by
 refine⟨by simp[h.len,c.len,mS],?_,?_,?_⟩
 ·intro e a
  rcases nM.1 a with b | b
  ·exact h.Je e b
  ·exact c.Je e b
 ·intro e a
  rcases nM.1 a with b | b
  ·exact h.one e b
  ·exact c.one e b
 ·intro i j e x a k
  rcases fe i es.length with d | d
  ·rw[nN d]at a
   obtain⟨u,hu,f⟩:=h.vr i j e x a k
   exact⟨u,by rw[nN (iG.1 hu).1];exact hu,f⟩
  ·rw[o5 d]at a
   obtain⟨u,hu,f⟩:=c.vr _ j e x a k
   have l:es.length * z<=i * z:=mA _ d
   refine⟨u,?_,f⟩
   rw[o5 (by rw[h.len];omega),h.len,show i * z+j - es.length * z=(i - es.length) * z+j by rw[Fv];omega]
   exact hu
theorem Row.cons{z es us e vs}(c:lR M ei e vs)(k:e.length=z)(n : ∀x∈vs,x.oneCell'=true)(y:AV)(l:y.cells=e)(h:Row M z es us):Row M z (y :: es) (vs++us):=by
 have:Row M z [y] vs:=by
  refine⟨by rw[<-c.1,k];simp,by intro m a;simp at a;subst a;rw[l];exact k,n,?_⟩
  intro i j m x b d
  cases i with
  | succ i=>simp at b
  | zero=>
   simp at b
   subst b
   rw[l]at d
   have f:j<vs.length:=by have:=(iG.1 d).1;rw[<-c.1];exact this
   exact⟨vs[j],by simp[f],c.2 j x vs[j] d (eC f)⟩
 exact this.append h
theorem Row.replicate{z:Nat}{y:AV}{u:Value}(h:VR M ei y u)(k:y.cells.length=z)(f:y.cells.all AV.one=true) : ∀n,Row M z (List.replicate n y) (List.replicate n u.cells.toList).flatten:=by
 intro n
 have b : ∀x∈u.cells.toList,x.oneCell'=true:=by
  intro x l
  obtain⟨j,e,c⟩:=qK l
  have d:=h.cells
  have a:j<y.cells.length:=by rw[d.1];exact e
  have:=d.2 j _ x (eC a) (by rw[<-c];exact eC e)
  exact this.one (by simp only[fZ]at f;exact f _ (lM a))
 induction n with
 | zero=>exact Row.nil
 | succ n i=>rw[ND,ND,List.flatten_cons];exact Row.cons h.cells k b y rfl i
theorem Row.mono{z es us}{M':Mem}(h:Row M z es us)(d : ∀b o x,M b o=some x->M' b o=some x):Row M' z es us:=
 ⟨h.len,h.Je,h.one,λi j e x a c=>by obtain⟨u,hu,f⟩:=h.vr i j e x a c;exact⟨u,hu,f.mono d _ (λ_ _ h=>h)⟩⟩
theorem yl(A:gA M ι g w)(o:r.k=0)(F:ι r=none){w':World}{arr:Array Value}{T:TypeId}{fz:Nat × Nat}(C:Ef w w' (.cells arr T fz))
 {z:Nat} {es:List AV} {us:List Value} (a:Row M z es us) (d : ∀(k:Nat) u,us[k]?=some u->arr[k]?=some u) {n c:Nat} (f:arr.size=n * z)
 (h:Dk z arr.size fz) (t:es.length<=c) (H:c<=n) {cap:Option Nat} (b : ∀k,cap=some k->c=k) (p:0<z) :
 jq M ι g w r (.cC r 0 es.length cap) [⟨z,es,true,false⟩] (.slice (some ⟨w.heap.size,0,none⟩) es.length c) w':=by
 obtain⟨D,v⟩:=A.alloc (q:=r) F C ⟨z,es,true,false⟩ p n f h (by simp;omega) a.Je
  (by
   intro i j e x B E
   obtain⟨u,hu,G⟩:=a.vr i j e x B E
   exact⟨u,d _ _ hu,a.one u (fC hu),by simpa [bA.map] using G⟩)
 refine⟨M,_,?_,by rw[pB _ _ o];exact D,by rw[pB _ _ o];exact v,?_⟩
 ·exact .cC (l:=⟨w.heap.size,z,n⟩) (by simp[iU]) rfl rfl (.inr (by simp)) t (.inr (by simp;omega)) b p
 ·intro q m y
  have:q≠r:=by intro e;exact y 0 (by simp) (by rw[e];cases r;simp_all)
  simpa [iU,this] using m
def Mq(M:Mem)(b:Nat)(us:List Value):Mem:=λb' o=>if b'=b then us[o]? else M b' o
theorem Sa(A:gA M ι g w){w':World}{arr:Array Value}{T:TypeId}{fz:Nat × Nat}(f:Ef w w' (.cells arr T fz))
 {z:Nat} {es:List AV} {us:List Value} (d:Row M z es us) (y : ∀(k:Nat) u,us[k]?=some u->arr[k]?=some u) {c:Nat}
 (E:es.length<=c) {cap:Option Nat} (v : ∀k,cap=some k->c=k) :
 jq M ι g w r (.cG z es cap) [] (.slice (some ⟨w.heap.size,0,none⟩) es.length c) w':=by
 have p : ∀b o x,M b o=some x->b<w.heap.size:=λb o x h=>World.block_lt_of_cell? w ⟨b,o,none⟩ (A.mem b o x h)
 have m : ∀b o x,M b o=some x->Mq M w.heap.size us b o=some x:=by
  intro b o x h
  unfold Mq
  rw[if_neg (Nat.ne_of_lt (p b o x h))]
  exact h
 have t:w'.heap[w.heap.size]?=some (.cells arr T fz):=by rw[f.heap];simp
 have D : ∀i j,i<es.length->j<z ->∃u,us[i * z+j]?=some u:=by
  intro i j B C
  exact⟨us[i * z+j]'(by rw[d.len];exact DY B C),eC _⟩
 refine⟨Mq M w.heap.size us,ι,?_,?_,?_,λq K _=>K⟩
 ·refine VR.cG (M:=Mq M w.heap.size us) (ι:=ι) (esz:=z) (es:=es) (cap:=cap) (a:=⟨w.heap.size,0,none⟩) (c:=c) (λi j=>(us[i * z+j]?).getD undef) (.inl rfl) E v ?_ d.Je ?_
  ·intro i j B C
   obtain⟨u,hu⟩:=D i j B C
   simp only[Mq,if_true,uy,hu,fQ]
   exact⟨trivial,d.one u (fC hu)⟩
  ·intro i j e x H J
   obtain⟨u,hu,L⟩:=d.vr i j e x H J
   simp only[hu,fQ]
   exact L.mono m _ (λ_ _ h=>h)
 ·rw[m0]
  refine⟨?_,?_,A.inj⟩
  ·intro b o x h
   unfold Mq at h
   split at h
   ·rename_i e;subst e;rw[ld t];exact y o x h
   ·exact f.cell (A.mem b o x h)
  ·intro r' k G
   obtain⟨l,I,n⟩:=A.live r' k G
   refine⟨l,I,n.cz m (λ_ _ h=>h) (f.old _ n.lt) ?_⟩
   intro o x h
   unfold Mq at h
   rw[if_neg (Nat.ne_of_lt n.lt)]at h
   exact n.frozen o x h
 ·rw[m0]
  refine⟨f.os,f.tape,f.output,by rw[f.heap];simp,λb n _=>f.old b n,m,λ_ _ h=>h,λr' k l h F => .inr ⟨r',k,l,h,F,rfl⟩,?_⟩
  intro b o x h
  unfold Mq at h
  split at h
  ·rename_i e;exact .inr (.inl (by omega))
  ·exact .inl h
theorem jq.after{R:List Ref}(f:vF g R=g)(d:gA M ι g w){x:AV}{b:List bA}{u:Value}{w':World}(h:jq (mZ M ι g w R) ι g w r x b u w'):jq M ι g w r x b u w':=by
 obtain⟨_,c⟩:=Ax (R:=R) d
 rw[f]at c
 obtain⟨M',a,i,j,e,k⟩:=h
 exact⟨M',a,i,j,c.trans e,k⟩
theorem JJ(l:gA M ι g w){a b:List (Nat × AV)}(h:fG g a=some b){qs:List (Nat × Value)}(n:a.length=qs.length)
 (hp : ∀(i:Nat) p q,a[i]?=some p->qs[i]?=some q->p.1=q.1/\VR M ι p.2 q.2) :
 b.length=qs.length /\∀(i:Nat) p q,b[i]?=some p->qs[i]?=some q->p.1=q.1/\VR (mZ M ι g w (bY g (a.map (·.2)))) ei p.2 q.2:=by
 unfold fG at h
 refine⟨by rw[jM h,n],?_⟩
 intro i p q c d
 obtain⟨⟨k,x⟩,f,e⟩:=qV h i p c
 simp only[bO]at e
 obtain⟨y,t,rfl⟩:=e
 obtain⟨m,o⟩:=hp i _ q f d
 refine⟨m,Cd l depth x y q.2 t ?_ o⟩
 intro r j
 simp only[bY,sa,r8]
 exact⟨x,⟨(k,x),fC f,rfl⟩,j⟩
theorem Kt{z:Nat} : ∀(A:List (Nat × AV)) (qs:List (Nat × Value)) (es b:List AV) (us:Array Value),iL es A=some b->Row M z es us.toList ->
 A.length=qs.length->(∀(i:Nat) p q,A[i]?=some p->qs[i]?=some q->p.1=q.1/\VR M ei p.2 q.2)->(∀p∈A,p.2.cells.length=z/\p.2.cells.all AV.one=true) ->
 b.length=es.length /\∃f,Instr.fill (λi=>some (i * z,z)) us qs=some f/\Row M z b f.toList:=by
 intro A
 induction A with
 | nil=>
  intro qs es b us h a G hp H
  simp[iL]at h
  subst h
  cases qs with
  | nil=>exact⟨rfl,us,rfl,a⟩
  | cons q qs=>simp at G
 | cons p A Y=>
  intro qs es b us h a G hp H
  cases qs with
  | nil=>simp at G
  | cons q qs=>
   obtain⟨i,v⟩:=p
   obtain⟨i',u⟩:=q
   obtain⟨S,T⟩:=hp 0 _ _ rfl rfl
   simp only at S T
   subst S
   simp only[iL]at h
   split at h
   ·rename_i R
    obtain⟨D,o⟩:=H _ (gG ..)
    simp only at D o
    have c:=T.cells
    have L:u.cells.size=z:=by have:=c.1;simp at this;omega
    have K:us.size=es.length * z:=by have:=a.len;simpa using this
    have V:i * z+z<=us.size:=by
     have:(i+1) * z<=es.length * z:=mA _ R
     rw[mS]at this
     omega
    have m:=MB (i * z) u.cells.toList 0 us (by simp;omega)
    have t:u.cells.zipIdx.foldl (λcs (p:Value × Nat)=>cs.setIfInBounds (i * z+p.2) p.1) us=cr us (i * z) u.cells.toList:=by
     rw[Bc]at m
     rw[<-m,<-Nx,Array.toList_zipIdx]
    have C : ∀x∈u.cells.toList,x.oneCell'=true:=by
     intro x l
     obtain⟨j,E,J⟩:=qK l
     have B:j<v.cells.length:=by rw[c.1];exact E
     have:=c.2 j _ x (eC B) (by rw[<-J];exact eC E)
     exact this.one (by simp only[fZ]at o;exact o _ (lM B))
    have y:Row M z (es.set i v) (cr us (i * z) u.cells.toList).toList:=by
     refine⟨?_,?_,?_,?_⟩
     ·simp only[Ca,Js]
      rw[iV (by simp;omega),K]
     ·intro e d
      rcases List.mem_or_eq_of_mem_set d with h | h
      ·exact a.Je e h
      ·rw[h];exact D
     ·intro x l
      simp only[cr,nM]at l
      rcases l with (h | h) | h
      ·exact a.one x (zw h)
      ·exact C x h
      ·exact a.one x (Fq h)
     ·intro k j e x d l
      have X:k<es.length:=by have:=(iG.1 d).1;simpa using this
      rw[Io,il (by simp;omega)]
      by_cases O:i=k
      ·subst O
       rw[KR R]at d
       injection d with d
       subst d
       have E:j<v.cells.length:=(iG.1 l).1
       rw[if_pos ⟨by omega,by simp;omega⟩,JD]
       have F:j<u.cells.toList.length:=by rw[<-c.1];exact E
       exact⟨u.cells.toList[j],eC F,c.2 j x _ l (eC F)⟩
      ·rw[FK O]at d
       have E:j<z:=by
        rw[<-a.Je e (fC d)]
        exact(iG.1 l).1
       obtain⟨Z,N,I⟩:=a.vr k j e x d l
       rw[if_neg]
       ·exact⟨Z,by simpa using N,I⟩
       ·simp only[Ca,L]
        rcases Nz O with h | h
        ·have:(i+1) * z<=k * z:=mA _ h
         rw[mS]at this
         omega
        ·have:(k+1) * z<=i * z:=mA _ h
         rw[mS]at this
         omega
    obtain⟨h3,f,W,U⟩:=Y qs (es.set i v) b (cr us (i * z) u.cells.toList) h y (by simpa using G) (λk p q n Q=>hp (k+1) p q n Q) (λp n=>H p (fW _ n))
    refine⟨by rw[h3];simp,f,?_,U⟩
    simp only[Instr.fill]
    rw[if_neg (by simp;omega)]
    rw[<-W,<-t]
   ·cases h
theorem Az{zs:Array Value}{n:Nat}(c:0<zs.size):((Array.range (n * zs.size)).map (zs[· % zs.size]!)).toList=(List.replicate n zs.toList).flatten:=by
 apply Jv
 intro k
 rcases fe k (n * zs.size)with a | a
 ·have b:k % zs.size<zs.size:=Nat.mod_lt _ c
  have f:k / zs.size<n:=(Nat.div_lt_iff_lt_mul c).2 a
  have e:((Array.range (n * zs.size)).map (zs[· % zs.size]!)).toList[k]?=some zs[k % zs.size]:=by
   simp[a,b,getElem!_pos]
  rw[e]
  have : ∀n k,k<n * zs.size->(List.replicate n zs.toList).flatten[k]?=zs.toList[k % zs.size]?:=by
   intro n
   induction n with
   | zero=>intro k a;simp at a
   | succ n d=>
    intro k a
    rw[ND,List.flatten_cons]
    rcases fe k zs.size with h | h
    ·rw[nN (by simpa using h),Nat.mod_eq_of_lt h]
    ·rw[o5 (by simpa using h),Ca,d (k - zs.size) (by rw[mS]at a;omega)]
     congr 1
     rw[<-Nat.mod_eq_sub_mod h]
  rw[this n k a]
  simp[b]
 ·rw[xp (by simpa using a),xp (by simpa using a)]
theorem GL{t:TypeId}{n:Nat}(N:gA M ι g w){f:List (Nat × AV)}{qs:Array (Nat × Value)}{b:bA}(h:mkSlice P g t n f=some b)(S:f.length=qs.toList.length)
 (hp : ∀(i:Nat) p q,f[i]?=some p->qs.toList[i]?=some q->p.1=q.1/\VR M ι p.2 q.2) :
 b.arr=true/\b.k8=false/\b.es.length=n /\∃e arr,(Instr.buildSlice t n qs).run P w = .ok (.slice (some ⟨w.heap.size,0,none⟩) n n) (w.alloc (.cells arr e))/\arr.size=n * b.esz /\
  Row (mZ M ι g w (bY g (f.map (·.2)))) b.esz b.es arr.toList:=by
 unfold mkSlice at h
 split at h
 ·cases h
 ·rename_i e O
  split at h
  ·rename_i Q z s y H F
   obtain⟨L,h⟩:=fa.1 h
   obtain⟨W,V,J,R,B⟩:=L
   simp only[bO]at h
   obtain⟨es,D,rfl⟩:=h
   obtain⟨it,u,k,C,hu⟩:=uP H
   obtain⟨X,v,K⟩:=yM F
   rw[k]at v;cases v
   have x:=jC (M:=mZ M ι g w (bY g (f.map (·.2)))) (ι:=ei) hu
   have o:u.cells.size=s:=by have:=x.cells.1;simp at this;omega
   have d:=Row.replicate x J R n
   obtain⟨U,T⟩:=JJ N y S hp
   have c:Row (mZ M ι g w (bY g (f.map (·.2)))) s (List.replicate n z) ((Array.range (n * s)).map (u.cells[· % u.cells.size]!)).toList:=by
    have:=Az (zs:=u.cells) (n:=n) (by omega)
    rw[o]at this
    rw[o,this]
    exact d
   obtain⟨E,j,I,G⟩:=Kt Q qs.toList (List.replicate n z) es _ D c U T (by
    intro p l
    simp only[fZ,aZ,decide_eq_true_eq]at B
    exact⟨(B p l).1,by simp only[fZ];exact(B p l).2⟩)
   refine⟨rfl,rfl,by simpa using E,e,j,?_,?_,G⟩
   ·have A : ¬16777216<n * s:=by omega
    have a:Instr.fill (λi=>some (i * s,s)) ((Array.range (n * s)).map ((if n * s=0 then #[] else u.cells)[· % (if n * s=0 then #[] else u.cells).size]!)) qs.toList=some j:=by
     rw[<-I]
     congr 1
     by_cases h:n * s=0
     ·simp[h]
     ·rw[if_neg h]
    simp only[Instr.buildSlice,Sem.run_bind,bu (iD O),Result.andThen_ok,run_sizeOf F,gt_iff_lt]
    rw[if_neg A]
    by_cases m:n * s=0
    ·rw[if_pos m]at a ⊢
     simp only[pure_bind]
     rw[a]
     simp[newRow]
    ·rw[if_neg m]at a ⊢
     simp only[Sem.run_bind,zeroValue,typeInfo,k,C,run_program,Result.andThen_ok,Sem.run_pure,a]
     simp[newRow]
   ·rw[<-Ca,G.len,E]
    simp
  ·cases h
theorem Ex{P:Program}{g:db}{t:TypeId}{n:Nat}{c:List (Nat × AV)}{b:bA}(h:mkSlice P g t n c=some b):0<b.esz:=by
 unfold mkSlice at h
 split at h
 ·cases h
 ·split at h
  ·obtain⟨a,h⟩:=fa.1 h
   obtain⟨_,_,rfl⟩:=bO.1 h
   exact a.1
  ·cases h
theorem GD(v:gA M ι g w)(E:r.k=0)(H:ι r=none){d:Bool}{t:TypeId}{n:Nat}{l:List (Nat × AV)}{qs:Array (Nat × Value)}{x:AV}{C:List bA}
 (h:ik P d g r t n (some l)=some (x,C)) (G:l.length=qs.toList.length)
 (hp : ∀(i:Nat) p q,l[i]?=some p->qs.toList[i]?=some q->p.1=q.1/\VR M ι p.2 q.2) :
 ∃u w',(Instr.buildSlice t n qs).run P w = .ok u w'/\jq M ι g w r x C u w':=by
 simp only[ik]at h
 obtain⟨y,h⟩:=fa.1 h
 simp only[bO]at h
 obtain⟨b,A,h⟩:=h
 obtain⟨J,K,D,e,arr,F,I,B⟩:=GL v A G hp
 have j:=MA y
 obtain⟨f,_⟩:=Ax (R:=bY g (l.map (·.2))) v
 rw[j]at f
 have a:Ef w (w.alloc (.cells arr e)) (.cells arr e (0,0)):=⟨rfl,rfl,rfl,rfl⟩
 refine⟨_,_,F,jq.after j v ?_⟩
 have z:b=⟨b.esz,b.es,true,false⟩:=by cases b;simp_all
 cases d with
 | true=>
  simp at h
  obtain⟨rfl,rfl⟩:=h
  have:=Sa (r:=r) f a B (λk u m=>by simpa using m) (c:=n) (by omega) (cap:=some n) (by intro k o;cases o;rfl)
  rw[D]at this
  exact this
 | false=>
  simp at h
  obtain⟨rfl,rfl⟩:=h
  have:=yl f E H a B (λk u m=>by simpa using m) (n:=n) (c:=n) I (Dk.zero _ _) (by omega) (bD _) (cap:=some n) (by intro k o;cases o;rfl)
  rw[D,<-z]at this
  exact this (Ex A)
end
end Go.Ab
namespace Go.Ab
section
variable{P:Program}{M:Mem}{ι:Map}{g:db}{w:World}{r:Ref}
inductive App (P:Program) (w:World) (t':Option TypeId) (x:Value) (e z:Nat) (n:Nat) (us:List Value):Prop
 | src {d:TypeDesc} (ht:t'.bind P.underlying=some d) (hd : ∀k,d ≠ .int k) (hl : ∀w':World,(Builtin.lenOf x).run P w' = .ok n w')
  (hf : ∀w':World,w'.heap=w.heap->(Builtin.firstCells z n x).run P w' = .ok us.toArray w')
 | zeros {k kx:IntKind} (u:Value) (ht:t'.bind P.underlying=some (.int k)) (hx:x = .int kx n) (hn:n<=bI) (hu : ∀w':World,(zeroValue e).run P w' = .ok u w') (hz:u.cells.size=z)
  (hus:us=(List.replicate n u.cells.toList).flatten)
theorem Dx{n:Nat}(h:n<=bI):IntKind.i64.wrap (n:Int)=n:=by
 unfold bI at h
 exact IntWalk.i64_in n ⟨by omega,by omega⟩
theorem Ej{u:Value}{n:Nat}:(Builtin.zeroCells u.cells n).toList=(List.replicate n u.cells.toList).flatten:=by
 unfold Builtin.zeroCells
 rcases Il u.cells.size with h | h
 ·have:u.cells.toList=[]:=by simpa using KT h
  simp[h,this]
 ·exact Az h
theorem EX{n:Array TypeId}{t:TypeId}{ty:TypeId}(q:n[0]?=some t){e z m:Nat}(v:P.underlying t=some (.slice e))(o:aJ P e=some z)(p:nY P e=some m)
 {a:Option Addr} {len c:Nat} (h:len<=c) {x:Value} (E:App P w n[1]? x e z 0 []) :
 (Builtin.append_ n ty #[.slice a len c,x]).run P w = .ok (.slice a len c) w:=by
 simp only[nY,bO]at p
 obtain⟨i,y,rfl⟩:=p
 cases E with
 | src b hm H F=>
  rename_i d
  simp only[gE]at b
  obtain⟨t',f,b⟩:=b
  have j:=F w rfl
  have l:(match d with | .int _=>true | _=>false)=false:=by cases d<;>first | rfl | exact absurd rfl (hm _)
  cases a<;>simp[l,Builtin.append_,q,f,bu v,bu b,run_sizeOf o,H,h,j,storeCells]
 | zeros u b I D B A C=>
  rename_i k kx
  subst I
  simp only[gE]at b
  obtain⟨t',f,b⟩:=b
  have G:IntKind.i64.wrap 0=0:=by simpa using Dx D
  cases a<;>simp[Builtin.append_,q,f,bu v,bu b,run_sizeOf o,asInt,asIntOf,G,typeInfo,y,h,storeCells]
theorem uT{O:Array TypeId}{t:TypeId}{ty:TypeId}(T:O[0]?=some t){e z q:Nat}(L:P.underlying t=some (.slice e))(S:aJ P e=some z)(Y:nY P e=some q)
 {G:Value} (m : ∀w':World,(zeroValue e).run P w' = .ok G w') (hzs:G.cells.size=z)
 {a:Option Addr} {len c n:Nat} {x:Value} {olds us:List Value} (D : ∀w':World,w'.heap=w.heap->(Builtin.firstCells z len (.slice a len c)).run P w' = .ok olds.toArray w')
 (hA:App P w O[1]? x e z n us) (W:c<len+n) (f:(len+n) * q<=bI) (H:0<q) :
 ∃cap w',len+n<=cap/\(Builtin.append_ O ty #[.slice a len c,x]).run P w = .ok (.slice (some ⟨w.heap.size,0,none⟩) (len+n) cap) w' /\
  Ef w w' (.cells (olds.toArray++us.toArray++Builtin.zeroCells G.cells (cap - (len+n))) e (0,0)):=by
 simp only[nY,bO]at Y
 obtain⟨i,I,rfl⟩:=Y
 have j : ¬(9223372036854775807<(len:Int)+(n:Int)):=by
  have:(len+n) * 1<=(len+n) * i.bytes:=Nat.mul_le_mul_left _ H
  unfold bI at f
  omega
 have v : ¬(281474976710656<Builtin.nextslicecap (len+n) c * i.bytes):=by
  have:=growslice_fits (need:=len+n) (old:=c) (bytes:=i.bytes) W (by unfold bI at f;exact f)
  omega
 have p : ¬(len+n<=c):=by omega
 have b:=D w.drew rfl
 obtain⟨A,V⟩ : ∃A,A=olds.toArray:=⟨_,rfl⟩
 rw[<-V]at b ⊢
 refine⟨grownCap w (len+n) c e,w.drew.alloc (.cells (A++us.toArray++Builtin.zeroCells G.cells (grownCap w (len+n) c e - (len+n))) e (0,0)),grownCap_ge _ _ _ _,?_,⟨rfl,rfl,rfl,rfl⟩⟩
 cases hA with
 | src l hm hl hf=>
  rename_i d
  simp only[gE]at l
  obtain⟨t',o,l⟩:=l
  have y:=hf w.drew rfl
  obtain⟨B,Q⟩ : ∃B,B=us.toArray:=⟨_,rfl⟩
  rw[<-Q]at y ⊢
  have R:(match d with | .int _=>true | _=>false)=false:=by cases d<;>first | rfl | exact absurd rfl (hm _)
  simp[R,Builtin.append_,T,o,bu L,bu l,run_sizeOf S,hl,p,y,b,j,v,typeInfo,I,Question.forced,m,newRow,grownCap]
 | zeros u l hx hn U J N=>
  rename_i k kx
  subst hx
  simp only[gE]at l
  obtain⟨t',o,l⟩:=l
  have X:=Dx hn
  have Z:u=G:=by
   have K:=U w
   rw[m w]at K
   cases K
   rfl
  subst Z
  have E : ¬((n:Int)<0):=by omega
  have F : ¬(281474976710656<(n:Int) * (i.bytes:Int)):=by
   have K:n * i.bytes<=(len+n) * i.bytes:=mA _ (by omega)
   unfold bI at f
   have h2:((n * i.bytes:Nat):Int)=(n:Int) * (i.bytes:Int):=by simp
   omega
  have C:us.toArray=if n * z=0 then #[] else Builtin.zeroCells u.cells n:=by
   rw[N,<-Ej]
   by_cases h:n * z=0
   ·rw[if_pos h]
    have:(Builtin.zeroCells u.cells n).size=0:=by rw[size_zeroCells,J,h]
    rw[Array.toArray_toList]
    exact KT this
   ·rw[if_neg h]
  rw[C]
  by_cases h:n * z=0
  ·simp[Builtin.append_,T,o,bu L,bu l,run_sizeOf S,asInt,asIntOf,X,E,F,typeInfo,I,p,j,v,h,b,Question.forced,m,newRow,grownCap]
  ·simp[Builtin.append_,T,o,bu L,bu l,run_sizeOf S,asInt,asIntOf,X,E,F,typeInfo,I,p,j,v,h,b,Question.forced,m,newRow,grownCap]
theorem Bp{H:Array TypeId}{t:TypeId}{ty:TypeId}(K:H[0]?=some t){e z y:Nat}(E:P.underlying t=some (.slice e))(J:aJ P e=some z)(Q:nY P e=some y)
 {b o len c n:Nat} {x:Value} {us:List Value} (W:App P w H[1]? x e z n us) (p:len+n<=c) (q:(len+n) * y<=bI)
 {arr:Array Value} {T:TypeId} {fz:Nat × Nat} (B:w.heap[b]?=some (.cells arr T fz)) (R:o+len * z+us.length<=arr.size) (G : ∀j,j<arr.size ->¬(fz.1<=j/\(j<fz.2\/fz.2<fz.1))) (O : ∀u∈us,u.oneCell'=true) :
 (Builtin.append_ H ty #[.slice (some ⟨b,o,none⟩) len c,x]).run P w = .ok (.slice (some ⟨b,o,none⟩) (len+n) c) (bQ w b (.cells (cr arr (o+len * z) us) T fz)):=by
 simp only[nY,bO]at Q
 obtain⟨i,N,rfl⟩:=Q
 have f:=mJ (P:=P) (o+len * z) us 0 arr w B (by simpa using R) G O
 rw[Bc]at f
 cases W with
 | src l hm V U=>
  rename_i d
  simp only[gE]at l
  obtain⟨t',m,l⟩:=l
  have C:=U w rfl
  have I:(match d with | .int _=>true | _=>false)=false:=by cases d<;>first | rfl | exact absurd rfl (hm _)
  simp[I,Builtin.append_,K,m,bu E,bu l,run_sizeOf J,V,p,C,iE,f]
 | zeros u l X S L D F=>
  rename_i k kx
  subst X
  simp only[gE]at l
  obtain⟨t',m,l⟩:=l
  have B:=Dx S
  have v : ¬((n:Int)<0):=by omega
  have A : ¬(281474976710656<(n:Int) * (i.bytes:Int)):=by
   have O:n * i.bytes<=(len+n) * i.bytes:=mA _ (by omega)
   unfold bI at q
   have Y:((n * i.bytes:Nat):Int)=(n:Int) * (i.bytes:Int):=by simp
   omega
  have a:us=(if n * z=0 then #[] else Builtin.zeroCells u.cells n).toList:=by
   rw[F,<-Ej]
   by_cases h:n * z=0
   ·rw[if_pos h]
    have:(Builtin.zeroCells u.cells n).size=0:=by rw[size_zeroCells,D,h]
    rw[KT this]
   ·rw[if_neg h]
  by_cases h:n * z=0
  ·rw[if_pos h]at a
   simp only[Array.toList_empty]at a
   rw[a]at f ⊢
   simp[Builtin.append_,K,m,bu E,bu l,run_sizeOf J,asInt,asIntOf,B,v,A,typeInfo,N,p,h,iE,f]
  ·rw[if_neg h]at a
   rw[a]at f ⊢
   simp[Builtin.append_,K,m,bu E,bu l,run_sizeOf J,asInt,asIntOf,B,v,A,typeInfo,N,p,h,L,iE,f]
end
end Go.Ab
namespace Go.Ab
section
variable{P:Program}{M:Mem}{ι:Map}{g:db}{w:World}{r:Ref}
theorem Rk{t:TypeId}{y z x:AV}{m p:Value}(q:VR M ι y m)(l:VR M ι z p){o:List bA}(h:qU P t (some y) (some z)=some (x,o)) :
 o=[] /\∃u,(Instr.index t m p).run P w = .ok u w/\VR M ι x u:=by
 simp only[qU,fy]at h
 split at h
 ·rename_i k cs f a
  injection a with a
  subst a
  obtain⟨C,rfl⟩:=xY l f
  split at h
  ·rename_i n e B
   split at h
   ·rename_i s c
    obtain⟨d,h⟩:=fa.1 h
    simp only[jK,bO]at h
    obtain⟨E,i,he⟩:=h
    cases he
    obtain⟨G,rfl,j⟩:=q.Qr
    obtain⟨u,hu,F⟩:=PQ (w:=w) j i
    exact⟨rfl,u,by simp[Instr.index,asIntOf,bu (E3 B),d.1,d.2,run_sizeOf c,hu],F⟩
   ·cases h
  ·cases h
 ·rename_i k s f c
  injection c with c
  subst c
  obtain⟨C,rfl⟩:=xY l f
  cases q
  obtain⟨d,h⟩:=fa.1 h
  simp only[jK,bO]at h
  obtain⟨E,⟨b,A,rfl⟩,he⟩:=h
  cases he
  refine⟨rfl,.int .u8 b.toNat,?_,.v rfl⟩
  have D:=d.2
  simp[Instr.index,asIntOf,bu (tq d.1),D,A]
 ·cases h
theorem TT{f:Fn}{a b:List AV}{l n:List Value}(k:lR M ι a l)(j:lR M ι b n){x:AV}{m:List bA}(h:xR f (some a) (some b)=some (x,m)) :
 m=[]/\VR M ι x (.func f l.toArray n.toArray):=by
 simp only[xR,dR,xk]at h
 obtain⟨rfl,rfl⟩:=h
 exact⟨rfl,.fn (by simpa using k.1) (by simpa using j.1) (λi c u d e=>k.2 i c u d (by simpa using e)) (λi c u d e=>j.2 i c u d (by simpa using e))⟩
theorem TL{tm:List AV}{a:Act}(h:TR M ι tm a){c x y:Operand}{z:AV}{j:List bA}(d:GA (aM tm) c x y=some (z,j)) :
 j=[] /\∃u,(do pure (if <-asBool (a.eval c) then a.eval x else a.eval y):Sem Value).run P w = .ok u w/\VR M ι z u:=by
 unfold GA at d
 split at d
 ·rename_i e
  simp only[gE]at e
  obtain⟨k,f,b⟩:=e
  have:=A6 (aX h f) b
  simp only[jK,bO]at d
  obtain⟨l,i,he⟩:=d
  cases he
  exact⟨rfl,_,by simp[this,asBool],aX h i⟩
 ·rename_i e
  simp only[gE]at e
  obtain⟨k,f,b⟩:=e
  have:=A6 (aX h f) b
  simp only[jK,bO]at d
  obtain⟨l,i,he⟩:=d
  cases he
  exact⟨rfl,_,by simp[this,asBool],aX h i⟩
 ·cases d
theorem WG{m:Array TypeId}{ty:TypeId}{y x:AV}{j:Value}(i:VR M ι y j){n:List bA}(h:ZD P m[0]? y=some (x,n)) :
 n=[] /\∃u,(Builtin.cap_ m ty #[j]).run P w = .ok u w/\VR M ι x u:=by
 unfold ZD at h
 split at h
 ·rename_i e b
  obtain⟨t,d,b⟩:=gE.1 b
  cases h
  cases i
  exact⟨rfl,goInt 0,by simp[Builtin.cap_,d,bu (iD b)],.v rfl⟩
 ·rename_i e z es k b
  obtain⟨t,d,b⟩:=gE.1 b
  cases h
  cases i with | cG cell o p f hm q F=>
  rename_i a c
  have:=f k rfl
  subst this
  exact⟨rfl,goInt c,by simp[Builtin.cap_,d,bu (iD b)],.v rfl⟩
 ·rename_i e r A len k b
  obtain⟨t,d,b⟩:=gE.1 b
  cases h
  cases i with | cC C D o E p G f B=>
  rename_i l a c
  have:=f k rfl
  subst this
  exact⟨rfl,goInt c,by simp[Builtin.cap_,d,bu (iD b)],.v rfl⟩
 ·cases h
theorem WD{k:Array TypeId}{ty:TypeId}{y x:AV}{m:Value}(f:VR M ι y m){l:List bA}(h:HN P k[0]? y=some (x,l)) :
 l=[] /\∃u,(Builtin.len_ k ty #[m]).run P w = .ok u w/\VR M ι x u:=by
 unfold HN at h
 split at h
 ·cases h
 ·rename_i t b
  split at h
  ·rename_i n e o
   injection h with h
   injection h with c d
   subst c;subst d
   exact⟨rfl,goInt n,by simp[Builtin.len_,b,bu (E3 o)],.v rfl⟩
  ·split at h
   ·rename_i i
    split at h
    ·injection h with h
     injection h with c d
     subst c;subst d
     cases f
     exact⟨rfl,goInt _,by simp[Builtin.len_,b,bu (tq i)],.v rfl⟩
    ·cases h
   ·obtain⟨i,h⟩:=fa.1 h
    obtain⟨e,he⟩:=gH.1 i
    have j:=iD he
    simp only[bO]at h
    obtain⟨n,a,h⟩:=h
    injection h with c d
    subst c;subst d
    refine⟨rfl,goInt n,?_,.v rfl⟩
    unfold wh at a
    split at a
    ·injection a with a;subst a;cases f;simp[Builtin.len_,b,bu j]
    ·injection a with a;subst a;cases f;simp[Builtin.len_,b,bu j]
    ·injection a with a;subst a;cases f;simp[Builtin.len_,b,bu j]
    ·cases a
theorem Jg{x:AV}{u:Value}{b:UInt8}(a:VR M ι x u)(h:byteOf x=some b) : ∃n:Int,u = .int .u8 n/\b=UInt8.ofNat n.toNat:=by
 unfold byteOf at h
 split at h
 ·injection h with h
  cases a
  exact⟨_,rfl,h.symm⟩
 ·cases h
theorem O2 : ∀(a:List Int)(s:ByteArray),a.foldl (λr n=>r.push (UInt8.ofNat n.toNat)) s=⟨s.data++(a.map λn=>UInt8.ofNat n.toNat).toArray⟩:=by
 intro a
 induction a with
 | nil=>intro s;simp
 | cons n a b=>
  intro s
  rw[vO,b]
  simp[ByteArray.push]
theorem LQ(O:gA M ι g w)(hr:r.k=0)(hq:ι r=none){R K:TypeId}{y x:AV}{u0:Value}(W:VR M ι y u0){bs:List bA}(h:gf P g r R K (some y)=some (x,bs)) :
 ∃u w',(Go.convert R K u0).run P w = .ok u w'/\jq M ι g w r x bs u w':=by
 unfold gf at h
 split at h
 ·rename_i e
  injection e with e
  subst e
  cases W
  obtain⟨p,h⟩:=fa.1 h
  simp only[aZ]at p
  obtain⟨e,D,F⟩:=re p.1
  injection h with h
  injection h with H U
  subst H;subst U
  exact⟨.string .empty,w,by rw[run_convert_bytes_string w R K e none 0 0 D F (tq p.2)];rfl,jq.same O (.v rfl)⟩
 ·rename_i s e
  injection e with e
  subst e
  cases W
  split at h
  ·rename_i p
   simp only[aZ]at p
   injection h with h
   injection h with H U
   subst H;subst U
   exact⟨.string s,w,by simp[Go.convert,bu (tq p.1),bu (tq p.2)],jq.same O (.v rfl)⟩
  ·split at h
   ·rename_i p
    simp only[aZ]at p
    obtain⟨hrm,h⟩:=fa.1 h
    injection h with h
    injection h with H U
    subst H;subst U
    obtain⟨e,D,F⟩:=re p.2
    have hrun:=run_bytes_of_string (P:=P) w R K e s (tq p.1) D F
    have hcap:=grownCap_ge w s.size 0 e
    have hrow:Row M 1 (s.data.toList.map λb=>AV.v (.int .u8 b.toNat)) (s.data.toList.map λb=>Value.int .u8 b.toNat):=by
     refine⟨by simp,?_,?_,?_⟩
     ·intro e J
      simp only[r8]at J
      obtain⟨b,_,rfl⟩:=J
      rfl
     ·intro x hx
      simp only[r8]at hx
      obtain⟨b,_,rfl⟩:=hx
      rfl
     ·intro i j e x J hx
      simp only[oM,bO]at J
      obtain⟨b,hb,rfl⟩:=J
      cases j with
      | succ j=>simp[AV.cells]at hx
      | zero=>
       simp[AV.cells]at hx
       subst hx
       exact⟨.int .u8 b.toNat,by simp[hb],.v rfl⟩
    have hsize:(bytesRow s (grownCap w s.size 0 e)).size=grownCap w s.size 0 e:=by
     have:s.data.size=s.size:=rfl
     simp[bytesRow]
     omega
    have:=yl O hr hq (w':=w.drew.alloc (.cells (bytesRow s (grownCap w s.size 0 e)) e ((bytesRow s (grownCap w s.size 0 e)).size,(bytesRow s (grownCap w s.size 0 e)).size+1)))
     ⟨rfl,rfl,rfl,rfl⟩ hrow (by
      intro k u hu
      have E:=(iG.1 hu).1
      unfold bytesRow
      rw[JF (by simpa using E)]
      rw[<-hu]
      simp) (n:=grownCap w s.size 0 e) (c:=grownCap w s.size 0 e) (by rw[hsize];simp) ⟨by intro o ho h;simp only at h;omega,λh=>absurd h (by decide)⟩ (by simpa using hcap) (bD _) (cap:=none) (by intro k E;cases E) Nat.one_pos
    simp only[p7,Ca]at this
    exact⟨_,_,hrun,this⟩
   ·cases h
 ·rename_i v hne1 hne2 e
  injection e with e
  subst e
  simp only[jK,bO,gE]at h
  obtain⟨z,⟨u,hu,hz⟩,J⟩:=h
  cases J
  cases W
  exact⟨u,w,n7 hu w,jq.same O (n8 hz)⟩
 ·rename_i y' hne1 hne2 N e
  injection e with e
  subst e
  split at h
  ·rename_i p
   simp only[aZ]at p
   obtain⟨e,D,F⟩:=re p.1
   split at h
   ·rename_i z es d
    simp only[bO]at h
    obtain⟨l,hl,h⟩:=h
    injection h with H U
    subst H;subst U
    have hz1:z=1\/es=[]:=by
     cases es with
     | nil=>exact .inr rfl
     | cons e0 es0=>
      left
      obtain⟨b,_,hb⟩:=jN hl 0 e0 rfl
      unfold byteOf at hb
      split at hb
      ·rename_i n
       cases W with
       | cG cell hs hcc' E hm J hh=>
        simp only[cU,dR,xk]at d
        obtain⟨rfl,rfl⟩:=d
        have:=J _ (gG ..)
        simpa [AV.cells] using this.symm
       | cC S Y hs ha hcc' hn E I=>
        rename_i r1 off1 Kl cap1 l1 a1 c1
        simp only[cU]at d
        split at d
        ·rename_i b1 L
         obtain⟨Q,d⟩:=fa.1 d
         injection d with d
         injection d with h3 h4
         have C:=O.at S I L
         have hmem:(AV.v (.int .u8 n))∈b1.es:=by
          have:(AV.v (.int .u8 n))∈(b1.es.drop off1).take Kl:=by rw[h4];exact gG ..
          exact Fq (zw this)
         have:=C.cells _ hmem
         rw[<-h3,<-this]
         rfl
        ·cases d
       | v hv=>exact absurd rfl (N _)
       | _=>simp[cU]at d
      ·cases hb
    have hlen:=jM hl
    obtain⟨a,n,c,rfl,hn,A⟩ : ∃a n c,u0 = .slice (some a) n c/\es.length=n /\∀j,j<n ->∃b:Int,w.cell? (a.add j)=some (.int .u8 b)/\l[j]?=some (UInt8.ofNat b.toNat):=by
     rcases hz1 with rfl | rfl
     ·obtain⟨us,hsrc⟩:=ow (P:=P) O W (Nat.one_pos) d
      cases W with
      | cG cell hs p E hm J hh=>
       rename_i esz G cap a c
       simp only[cU,dR,xk]at d
       obtain⟨rfl,rfl⟩:=d
       refine⟨a,G.length,c,rfl,rfl,?_⟩
       intro j t
       have V:=eC t
       obtain⟨b,L,B⟩:=jN hl j _ V
       have hcl:=J _ (lM t)
       have hbv:G[j].cells=[G[j]]:=by
        unfold byteOf at B
        split at B
        ·rename_i Z;rw[Z];rfl
        ·cases B
       have hvr:=hh j 0 _ _ V (show G[j].cells[0]?=some G[j] by rw[hbv];rfl)
       obtain⟨nb,hnb,rfl⟩:=Jg hvr B
       refine⟨nb,?_,L⟩
       have:=O.mem _ _ _ (hm j 0 t (by omega)).1
       rw[lf (hs.resolve_right (by intro e;subst e;simp at t)),iE]
       rw[hnb]at this
       simpa using this
      | cC S Y hs ha p hn E I=>
       rename_i r1 m len cap l1 a c
       simp only[cU]at d
       split at d
       ·rename_i b1 L
        obtain⟨Q,d⟩:=fa.1 d
        injection d with d
        injection d with h3 h4
        subst h4
        have C:=O.at S I L
        obtain⟨g1,g2⟩:=getElems b1.es m len Q.2
        refine⟨a,len,c,rfl,g1,?_⟩
        intro j t
        have V:((b1.es.drop m).take len)[j]?=some b1.es[m+j]:=by rw[g2 j t];exact eC (by omega)
        obtain⟨b,hb1',B⟩:=jN hl j _ V
        have hcl:=C.cells _ (lM (by omega:m+j<b1.es.length))
        have hbv:b1.es[m+j].cells=[b1.es[m+j]]:=by
         unfold byteOf at B
         split at B
         ·rename_i Z;rw[Z];rfl
         ·cases B
        obtain⟨u,X,hu2,hu3⟩:=C.cell (m+j) (eC (by omega)) 0 b1.es[m+j] (by rw[hbv];rfl)
        obtain⟨nb,hnb,rfl⟩:=Jg hu3 B
        refine⟨nb,?_,hb1'⟩
        have hoff:a.off=m * l1.esz:=by
         rcases ha with h | h
         ·omega
         ·exact h
        rw[lf hs,iE,Y,hoff,C.esz,h3]
        rw[h3,hnb]at X
        simp only[Nat.mul_one,Bc]at X ⊢
        exact X
       ·cases d
      | v hv=>exact absurd rfl (N _)
      | _=>simp[cU]at d
     ·cases W with
      | cG cell hs p E hm J hh=>
       rename_i esz G cap a c
       simp only[cU,dR,xk]at d
       obtain⟨rfl,rfl⟩:=d
       exact⟨a,0,c,rfl,rfl,λj t=>by omega⟩
      | cC S Y hs ha p hn E I=>
       rename_i r1 m len cap l1 a c
       simp only[cU]at d
       split at d
       ·obtain⟨Q,d⟩:=fa.1 d
        injection d with d
        injection d with h3 h4
        have:len=0:=by
         have:=(getElems _ m len Q.2).1
         rw[h4]at this
         simpa using this.symm
        exact⟨a,len,c,rfl,by simp[this],λj t=>by omega⟩
       ·cases d
      | v hv=>exact absurd rfl (N _)
      | _=>simp[cU]at d
    refine⟨.string ⟨l.toArray⟩,w,?_,jq.same O (.v rfl)⟩
    rw[run_convert_bytes_string w R K e (some a) n c D F (tq p.2)]
    let f:Nat->Int:=λj=>if h:j<n then (A j h).choose else 0
    have hf1 : ∀j,j<n->w.cell? (a.add j)=some (.int .u8 (f j)):=λj t=>by simp only[f,dif_pos t];exact(A j t).choose_spec.1
    have hf2 : ∀j,j<n->l[j]?=some (UInt8.ofNat (f j).toNat):=λj t=>by simp only[f,dif_pos t];exact(A j t).choose_spec.2
    have hload:=run_loadCells (P:=P) w a n (λj => .int .u8 (f j)) (λj t=>hf1 j t)
    have hns:(loadCells a n).run P w = .ok (((List.range n).map f).map (Value.int .u8)).toArray w:=by rw[hload];simp
    rw[run_bytesToString w a n c _ hns,O2]
    have:((List.range n).map f).map (λn=>UInt8.ofNat n.toNat)=l:=by
     apply Jv
     intro j
     rcases fe j n with t | t
     ·rw[hf2 j t];simp[t]
     ·rw[xp (by simpa using t),xp (by omega)]
    rw[this]
    have he0:ByteArray.empty.data = #[]:=rfl
    rw[he0]
    simp
   ·cases h
  ·replace h:=fa.1 h
   obtain⟨p,h⟩:=h
   simp only[aZ,beq_iff_eq]at p
   obtain⟨he0,p⟩:=p
   subst he0
   obtain⟨e,D,F⟩:=re p
   cases y with
   | cC r' m len cap=>
    obtain⟨k,E,hk1,h⟩ : ∃k,g r'=some k/\k.esz=1/\some (AV.cC r' m len cap,([]:List bA))=some (x,bs):=by
     cases E:g r' with
     | none=>simp only[E]at h;cases h
     | some k=>
      simp only[E]at h
      obtain⟨H,h⟩:=fa.1 h
      exact⟨k,rfl,H,h⟩
    injection h with h;injection h with H U;subst H;subst U
    have hy0:=W
    cases W with | cC hrl hbb hsp ha Q hn hkk I=>
    rename_i l a c
    have C:=O.at hrl I E
    obtain⟨arr,T,fz,hh,hsz,hfz,hcells⟩:=C.heap
    have hlt:=C.lt
    have hfr:w.freeze ⟨a.block,arr.size,none⟩ 1=bQ w l.b (.cells arr T (if fz.1 == fz.2 then (arr.size,arr.size+1) else (min fz.1 arr.size,max fz.2 (arr.size+1)))):=by
     unfold World.freeze bQ
     rw[if_neg (by decide)]
     congr 1
     apply Em
     intro i
     rw[KQ,hbb]
     by_cases hi:l.b=i
     ·subst hi
      rw[if_pos rfl,hh,Fs hlt]
      rfl
     ·rw[if_neg hi,Bi hi]
    have hfz' : ∀o,o<arr.size ->¬((if fz.1 == fz.2 then (arr.size,arr.size+1) else (min fz.1 arr.size,max fz.2 (arr.size+1)):Nat × Nat).1<=o/\(o<(if fz.1 == fz.2 then (arr.size,arr.size+1) else (min fz.1 arr.size,max fz.2 (arr.size+1)):Nat × Nat).2\/(if fz.1 == fz.2 then (arr.size,arr.size+1) else (min fz.1 arr.size,max fz.2 (arr.size+1)):Nat × Nat).2<(if fz.1 == fz.2 then (arr.size,arr.size+1) else (min fz.1 arr.size,max fz.2 (arr.size+1)):Nat × Nat).1)):=by
     intro o ho
     split
     ·simp only;omega
     ·rename_i hne
      simp only[beq_iff_eq]at hne
      have H:arr.size<=fz.1:=by
       rcases fe fz.1 arr.size with h | h
       ·exact absurd ⟨bD _,by omega⟩ (hfz.1 fz.1 h)
       ·exact h
      simp only
      omega
    obtain⟨h3,h4⟩:=O.mark E hrl hh hfr ⟨hfz',λH=>by omega⟩
    refine⟨.slice (some a) len c,_,?_,M,ι,hy0,by rw[m0];exact h3,by rw[m0];exact h4,λq hq _=>hq⟩
    have hsh:w.shape? a.block=some (T,arr.size):=by
     unfold World.shape?
     rw[hbb,hh]
    simp[Go.convert,bu D,bu F,markStringish,hsh]
   | _=>cases h
 ·rename_i e;cases e
theorem TN(hS:gA M ι g w)(hr:r.k=0)(hq:ι r=none){t:TypeId}{y z x:AV}{u0 Y:Value}(hy:VR M ι y u0)(hz:VR M ι z Y){W:List bA}(h:Ev P r t (some y) (some z)=some (x,W)) :
 ∃u w',(Instr.makeSlice t u0 Y).run P w = .ok u w'/\jq M ι g w r x W u w':=by
 unfold Ev at h
 simp only[fy]at h
 split at h
 ·rename_i e l c V hl hc
  obtain⟨kl,rfl⟩:=xY hy hl
  obtain⟨kc,rfl⟩:=xY hz hc
  split at h
  ·rename_i zv s b T O hb
   obtain⟨B,h⟩:=fa.1 h
   obtain⟨X,c2,c3,c4,c5,U,Z⟩:=B
   injection h with h
   injection h with h1 h2
   subst h1;subst h2
   obtain⟨it,u,j,R,hu⟩:=uP T
   obtain⟨i',I,hsz⟩:=yM O
   rw[j]at I;cases I
   simp only[nY,j,Option.map_some,dR]at hb
   have A:=jC (M:=M) (ι:=ei) hu
   have F:u.cells.size=s:=by have:=A.cells.1;simp at this;omega
   obtain⟨m,rfl⟩:=KS X
   obtain⟨a,rfl⟩:=KS (Int.le_trans X c2)
   have D:IntKind.i64.wrap (m:Int)=m:=IntWalk.i64_in _ ⟨by omega,by omega⟩
   have K:IntKind.i64.wrap (a:Int)=a:=IntWalk.i64_in _ ⟨by omega,by omega⟩
   have J : ¬((a:Int)<0):=by omega
   have o : ¬(281474976710656<(it.bytes:Int) * (a:Int)):=by
    rw[hb,Int.mul_comm]
    have e1:((bI:Nat):Int)=140737488355328:=rfl
    omega
   have C : ¬((m:Int)<0):=by omega
   have L : ¬((a:Int)<(m:Int)):=by omega
   have i:=Az (zs:=u.cells) (n:=a) (by omega)
   rw[F]at i
   have d:((Array.range (a * s)).map ((if a * s=0 then #[] else u.cells)[· % (if a * s=0 then #[] else u.cells).size]!)).toList=(List.replicate a u.cells.toList).flatten:=by
    by_cases E:a * s=0
    ·have S:a=0:=by
      rcases Nat.mul_eq_zero.1 E with h | h
      ·exact h
      ·omega
     simp[S]
    ·rw[if_neg E,F];exact i
   obtain⟨arr,f⟩ : ∃arr,arr=(Array.range (a * s)).map ((if a * s=0 then #[] else u.cells)[· % (if a * s=0 then #[] else u.cells).size]!):=⟨_,rfl⟩
   rw[<-f]at d
   have q:=Row.replicate A U Z a
   have p:arr.size=a * s:=by rw[<-Ca,d];have:=q.len;simpa using this
   have H:(Instr.makeSlice t (.int kl m) (.int kc a)).run P w = .ok (.slice (some ⟨w.heap.size,0,none⟩) m a) (w.alloc (.cells arr e)):=by
    subst f
    by_cases E:a * s=0
    ·simp[Instr.makeSlice,bu (iD V),asInt,asIntOf,typeInfo,j,D,K,J,o,C,L,run_sizeOf O,E,newRow]
    ·simp[Instr.makeSlice,bu (iD V),asInt,asIntOf,typeInfo,j,D,K,J,o,C,L,run_sizeOf O,E,newRow,zeroValue,R]
   refine⟨_,_,H,?_⟩
   have G:=Row.replicate A U Z m
   have:=yl hS hr hq (w':=w.alloc (.cells arr e)) ⟨rfl,rfl,rfl,rfl⟩ G (by
    intro k v N
    rw[<-Io,d]
    have Q:(List.replicate a u.cells.toList)=List.replicate m u.cells.toList++List.replicate (a - m) u.cells.toList:=by rw[List.replicate_append_replicate];congr 1;omega
    rw[Q,List.flatten_append,nN (iG.1 N).1]
    exact N) (n:=a) (c:=a) p (Dk.zero _ _) (by simp;omega) (bD _) (cap:=none) (by intro k N;cases N) c5
   simpa using this
  ·cases h
 ·cases h
end
end Go.Ab
namespace Go.Ab
section
variable{P:Program}{M:Mem}{ι:Map}{g:db}{w:World}{r:Ref}
theorem GK(W:gA M ι g w){t':Option TypeId}{e z:Nat}(hz:aJ P e=some z)(J:0<z){x:AV}{O:Value}(N:VR M ι x O){new:List AV}
 (S : ¬((t'.bind P.underlying).isNone=true\/(t'.map (isInt P)).getD false≠isNum x)) (h:pg P g e x=some (z,new)) : ∃us,Row M z new us/\App P w t' O e z new.length us:=by
 have F : ∃d,t'.bind P.underlying=some d/\(isNum x=false ->∀k,d ≠ .int k)/\(isNum x=true ->∃k,d = .int k):=by
  have c : ¬(t'.bind P.underlying).isNone=true:=λh=>S (.inl h)
  have b:(t'.map (isInt P)).getD false=isNum x:=zX.1 λh=>S (.inr h)
  cases t' with
  | none=>simp at c
  | some t=>
   simp only[fy]at c ⊢
   cases hu:P.underlying t with
   | none=>simp[hu]at c
   | some d=>
    simp only[Option.map_some,fQ]at b
    refine⟨d,rfl,?_,?_⟩
    ·intro E k y
     subst y
     rw[E]at b
     simp[isInt,hu]at b
    ·intro E
     rw[E]at b
     obtain⟨k,y⟩:=UK b
     rw[hu]at y
     exact⟨k,by simpa using y⟩
 obtain⟨d,D,p,G⟩:=F
 unfold pg at h
 split at h
 ·simp only[bO]at h
  obtain⟨R,B,h⟩:=h
  injection h with c b
  subst b
  cases N
  exact⟨[],Row.nil,.src D (p rfl) (λw'=>rfl) (λw' _=>rfl)⟩
 ·rename_i k n
  split at h
  ·rename_i wv R H B
   obtain⟨f,h⟩:=fa.1 h
   injection h with h
   injection h with c b
   subst c;subst b
   obtain⟨Y,X,V,Z⟩:=f
   obtain⟨m,rfl⟩:=KS Y
   obtain⟨k',rfl⟩:=G rfl
   cases N
   obtain⟨u,i,A⟩:=xO H w
   have K : ∀w':World,(zeroValue e).run P w' = .ok u w':=by
    intro w'
    obtain⟨u',c,b⟩:=xO H w'
    obtain⟨it,v,j,l,I⟩:=uP H
    have U:(zeroValue e).run P w = .ok v w:=by simp[zeroValue,typeInfo,j,l]
    have T:(zeroValue e).run P w' = .ok v w':=by simp[zeroValue,typeInfo,j,l]
    rw[U]at i
    cases i
    exact T
   have I:=jC (M:=M) (ι:=ei) A
   have C:u.cells.size=R:=by have:=I.cells.1;simp at this;omega
   refine⟨_,Row.replicate I V Z m,?_⟩
   rw[Nv]
   exact .zeros (kx:=k) u D (by simp) (by simpa using X) K C (by simp)
  ·cases h
 ·rename_i Q o
  have q:isNum x=false:=by
   unfold isNum
   split
   ·exact absurd rfl (o _ _)
   ·rfl
  obtain⟨us,a⟩:=ow (P:=P) W N J h
  refine⟨us,a.row,.src D (p q) a.lenOf λw' L=>?_⟩
  have:=a.first new.length w' (bD _) L
  rwa [gw (by rw[a.len];exact bD _)]at this
theorem BH{e z:Nat}(f:aJ P e=some z){y:AV}(c:eD P e=some y)(h:y.cells.length=z) : ∃u,(∀w':World,(zeroValue e).run P w' = .ok u w')/\u.cells.size=z:=by
 obtain⟨it,v,a,b,d⟩:=uP c
 refine⟨v,λw'=>by simp[zeroValue,typeInfo,a,b],?_⟩
 have:=(jC (M:=λ_ _=>none) (ι:=ei) d).cells.1
 simp at this
 omega
theorem Av{olds us:List Value}{b:Value}{z n1 n2 cap:Nat}(e:olds.length=n1 * z)(f:us.length=n2 * z)(d:b.cells.size=z)(h:n1+n2<=cap) :
 (olds.toArray++us.toArray++Builtin.zeroCells b.cells (cap - (n1+n2))).size=cap * z /\
 ∀(k:Nat) u,(olds++us)[k]?=some u->(olds.toArray++us.toArray++Builtin.zeroCells b.cells (cap - (n1+n2)))[k]?=some u:=by
 constructor
 ·simp only[Array.size_append,List.size_toArray,size_zeroCells,d,e,f,<-mS]
  congr 1
  omega
 ·intro k u c
  have a:=(iG.1 c).1
  rw[JF (by simpa using a)]
  simpa using c
theorem AZ{a:Option Addr}{len c z:Nat}{es:List AV}{us:List Value}{u:Value}(e:u = .slice a len c)(d:es.length=len)(h:Src P M w u z es us) :
 ∀w':World,w'.heap=w.heap->(Builtin.firstCells z len (.slice a len c)).run P w' = .ok us.toArray w':=by
 intro w' b
 have:=h.first es.length w' (bD _) b
 rw[gw (by rw[h.len];exact bD _),e,d]at this
 exact this
theorem Ox(H:gA M ι g w)(hr:r.k=0)(hq:ι r=none){T:Array TypeId}{ty:TypeId}{s x y:AV}{us ux:Value}(O:VR M ι s us)(hx:VR M ι x ux){bs:List bA}
 (h:jv P g r T[0]? T[1]? s x=some (y,bs)) : ∃u w',(Builtin.append_ T ty #[us,ux]).run P w = .ok u w'/\jq M ι g w r y bs u w':=by
 unfold jv at h
 split at h
 ·cases h
 ·rename_i e he
  simp only[gE]at he
  obtain⟨t,ht,he⟩:=he
  have hu:=iD he
  split at h
  ·cases h
  ·rename_i hc
   split at h
   ·rename_i z by' zz L new hz hb hzz S
    split at h
    ·cases h
    ·rename_i i
     have Q:L=z:=zX.1 λh=>i (.inl h)
     have C:0<z:=Bf λh=>i (.inr (.inl h))
     have hb0:0<by':=Bf λh=>i (.inr (.inr (.inl h)))
     have X:zz.cells.length=z:=zX.1 λh=>i (.inr (.inr (.inr h)))
     have hez':=Q
     subst Q
     obtain⟨Z,B,hA⟩:=GK (w:=w) H hz C hx hc S
     have f:new=[] ->∀a len c,len<=c->us = .slice a len c->(Builtin.append_ T ty #[us,ux]).run P w = .ok us w:=by
      intro E a len c hlc G
      subst E
      have:Z=[]:=Cb (by rw[B.len];simp)
      subst this
      rw[G]
      exact EX ht hu hz hb hlc hA
     have fresh : ∀ {a:Option Addr} {len c:Nat} {es:List AV} {us0:List Value},us = .slice a len c->es.length=len->Row M L es us0 ->
      (∀w':World,w'.heap=w.heap->(Builtin.firstCells L len (.slice a len c)).run P w' = .ok us0.toArray w')->c<len+new.length->(len+new.length) * by'<=bI ->
      ∃u w',(Builtin.append_ T ty #[us,ux]).run P w = .ok u w'/\jq M ι g w r (.cC r 0 (len+new.length) none) [⟨L,es++new,true,false⟩] u w':=by
      intro a len c es us0 G D A V J d
      obtain⟨zv,hzv,U⟩:=BH hz hzz X
      obtain⟨cap,w',W,R,I⟩:=uT (P:=P) (w:=w) (ty:=ty) ht hu hz hb hzv U V hA J d hb0
      obtain⟨o,p⟩:=Av (olds:=us0) (us:=Z) (n1:=len) (n2:=new.length) (cap:=cap) (by rw[A.len,D]) B.len U W
      refine⟨_,w',by rw[G];exact R,?_⟩
      have:=yl H hr hq I (A.append B) p (n:=cap) (c:=cap) o (Dk.zero _ _) (by simp;omega) (bD _) (cap:=none) (by intro k hk;cases hk) C
      simp only[oN,D]at this
      exact this
     split at h
     ·
      cases O
      split at h
      ·rename_i E
       injection h with h;injection h with o p;subst o;subst p
       exact⟨_,w,f E none 0 0 (bD _) rfl,jq.same H (.v rfl)⟩
      ·rename_i E
       obtain⟨d,h⟩:=fa.1 h
       injection h with h;injection h with o p;subst o;subst p
       have hpos:0<new.length:=Fp.2 E
       have:=fresh (a:=none) (len:=0) (c:=0) (es:=[]) (us0:=[]) rfl rfl Row.nil (λw' _=>rfl) (by omega) (by simpa using d)
       simpa using this
     ·
      rename_i n es cap
      split at h
      ·cases h
      ·rename_i F
       have F:n=L:=zX.1 F
       subst F
       have q:=O
       cases O with | cG cell hsp K hk hm hes hh=>
       rename_i a c
       split at h
       ·rename_i E
        injection h with h;injection h with o p;subst o;subst p
        exact⟨_,w,f E _ _ _ K rfl,jq.same H q⟩
       ·cases cap with
        | some k=>
         obtain⟨⟨J,d⟩,h⟩:=fa.1 h
         injection h with h;injection h with o p;subst o;subst p
         have hck:=hk k rfl
         obtain⟨us0,j⟩:=ow (P:=P) (g:=g) (z:=n) (es:=es) H q C rfl
         exact fresh rfl rfl j.row (AZ rfl rfl j) (by omega) d
        | none=>cases h
     ·
      rename_i r' N len cap
      split at h
      ·rename_i b hb'
       split at h
       ·cases h
       ·rename_i m
        have hbz:b.esz=L:=zX.1 λh=>m (.inl h)
        have Y:b.arr=true:=by
         cases hh:b.arr with
         | true=>rfl
         | false=>exact absurd (.inr hh) m
        have q:=O
        cases O with | cC hrl hbb hsp ha K E hk X=>
        rename_i l a c
        split at h
        ·rename_i hn'
         injection h with h;injection h with o p;subst o;subst p
         exact⟨_,w,f hn' _ _ _ K rfl,jq.same H q⟩
        ·cases cap with
         | some k=>
          obtain⟨⟨hle,J,d⟩,h⟩:=fa.1 h
          injection h with h;injection h with o p;subst o;subst p
          have hck:=hk k rfl
          have D:cU g (.cC r' N len (some k))=some (L,(b.es.drop N).take len):=by
           simp only[cU,hb',Y,hle,and_self,if_true,hbz]
          obtain⟨us0,j⟩:=ow (P:=P) H q C D
          have hl:=(getElems b.es N len hle).1
          exact fresh rfl hl j.row (AZ rfl hl j) (by omega) d
         | none=>cases h
      ·cases h
     ·cases h
   ·cases h
end
end Go.Ab
namespace Go.Ab
theorem ai.get_put(H:ai)(r q:Ref)(b:Option bA):(H.put r b).get q=if q=r then b else H.get q:=by
 induction H with
 | nil=>
  simp only[ai.put,ai.get]
  by_cases h:q=r
  ·rw[if_pos h.symm,if_pos h]
  ·rw[if_neg (sA h),if_neg h]
 | cons p H e=>
  obtain⟨r',b'⟩:=p
  simp only[ai.put]
  by_cases d:r'=r
  ·rw[if_pos d]
   simp only[ai.get]
   by_cases c:q=r
   ·rw[if_pos c.symm,if_pos c]
   ·rw[if_neg (sA c),if_neg c,if_neg (by rw[d];exact sA c)]
  ·rw[if_neg d]
   simp only[ai.get]
   by_cases a:r'=q
   ·rw[if_pos a,if_neg (by rw[<-a];exact d),if_pos a]
   ·rw[if_neg a,e,if_neg a]
theorem ai.mO(H:ai)(r:Ref)(b:Option bA)(h:(H.get r).isSome=true)(d t:Nat):(H.put r b).gen d t=H.gen d t:=by
 induction H with
 | nil=>simp[ai.get]at h
 | cons p H c=>
  obtain⟨r',b'⟩:=p
  simp only[ai.put]
  by_cases a:r'=r
  ·rw[if_pos a,a];rfl
  ·rw[if_neg a]
   simp only[ai.gen]
   simp only[ai.get,if_neg a]at h
   rw[c h]
theorem ai.eB(R:List Ref) : ∀(H:ai),(cH H R).get=vF H.get R:=by
 induction R with
 | nil=>intro H;funext q;simp[cH,vF]
 | cons r R e=>
  intro H
  funext q
  simp only[cH]
  split
  ·rename_i b d
   rw[e]
   unfold vF
   simp only[nw,ai.get_put]
   by_cases a:q=r
   ·subst a
    simp[d]
   ·simp only[if_neg a]
    by_cases c:q∈R
    ·simp[c]
    ·simp[c,a]
  ·rename_i d
   rw[e]
   unfold vF
   simp only[nw]
   by_cases a:q=r
   ·subst a
    simp[d]
   ·by_cases c:q∈R
    ·simp[c]
    ·simp[c,a]
theorem ai.ko(R:List Ref) : ∀(H:ai)(d t:Nat),(cH H R).gen d t=H.gen d t:=by
 induction R with
 | nil=>intro H d t;rfl
 | cons r R a=>
  intro H d t
  simp only[cH]
  split
  ·rename_i b c
   rw[a,ai.mO H r _ (by rw[c];rfl)]
  ·exact a H d t
theorem ai.I9(r:Ref) : ∀(c:List bA)(k:Nat)(H:ai)(q:Ref),(keyed r k c H).get q=if q.d=r.d/\q.t=r.t/\q.g=r.g/\k<=q.k/\q.k<k+c.length then c[q.k - k]? else H.get q:=by
 intro c
 induction c with
 | nil=>intro k H q;rw[if_neg (by intro h;simp only[Fk]at h;omega)];rfl
 | cons b c i=>
  intro k H q
  simp only[keyed,i,ai.get,nx]
  by_cases a:q.d=r.d/\q.t=r.t/\q.g=r.g
  ·by_cases e:q.k=k
   ·rw[if_neg (by omega),if_pos (by cases q;cases r;simp_all),if_pos ⟨a.1,a.2.1,a.2.2,by omega,by omega⟩]
    simp[e]
   ·by_cases f:k+1<=q.k/\q.k<k+1+c.length
    ·rw[if_pos ⟨a.1,a.2.1,a.2.2,f⟩,if_pos ⟨a.1,a.2.1,a.2.2,by omega,by omega⟩]
     rw[show q.k - k=(q.k - (k+1))+1 by omega]
     simp
    ·rw[if_neg (by omega),if_neg (by intro h;apply e;rw[<-h]),if_neg (by omega)]
  ·rw[if_neg (by intro h;exact a ⟨h.1,h.2.1,h.2.2.1⟩),if_neg (by intro h;apply a;rw[<-h];exact⟨rfl,rfl,rfl⟩),if_neg (by intro h;exact a ⟨h.1,h.2.1,h.2.2.1⟩)]
theorem ai.lD(r:Ref)(a:List bA)(H:ai):(keyed r 0 a H).get=sM H.get r a:=by
 funext q
 rw[ai.I9]
 unfold sM
 simp
theorem ai.kX(r:Ref) : ∀(c:List bA)(k:Nat)(H:ai)(d t:Nat),(keyed r k c H).gen d t=if d=r.d/\t=r.t/\c≠[] then r.g+1 else H.gen d t:=by
 intro c
 induction c with
 | nil=>intro k H d t;simp[keyed]
 | cons b c f=>
  intro k H d t
  simp only[keyed,f,ai.gen]
  by_cases h:d=r.d/\t=r.t
  ·obtain⟨rfl,rfl⟩:=h
   by_cases e:c=[]
   ·simp[e]
   ·simp[e]
  ·have i : ¬(r.d=d/\r.t=t):=λa=>h ⟨a.1.symm,a.2.symm⟩
   rw[if_neg (by intro a;exact h ⟨a.1,a.2.1⟩),if_neg i,if_neg (by intro a;exact h ⟨a.1,a.2.1⟩)]
def tB(ι:Map)(H:ai):Prop :=∀q l,ι q=some l->q.g<H.gen q.d q.t
theorem tB.fresh{ι:Map}{H:ai}(h:tB ι H)(d t k:Nat):ι ⟨d,t,H.gen d t,k⟩=none:=by
 cases a:ι ⟨d,t,H.gen d t,k⟩ with
 | none=>rfl
 | some l=>exact absurd (h _ l a) (Bd _)
section
variable{P:Program}{M:Mem}{ι:Map}{g:db}{w:World}{r:Ref}
def vj(M:Mem)(ι:Map)(H:ai)(w:World)(x:AV)(H':ai)(u:Value)(w':World):Prop:=
 ∃M' a,VR M' a x u/\gA M' a H'.get w'/\tA M ι H.get w M' a H'.get w'/\tB a H'
theorem jq.toW{H:ai}{x:AV}{f:List bA}{u:Value}{w':World}(n:tB ι H){d t:Nat}(h:jq M ι H.get w ⟨d,t,H.gen d t,0⟩ x f u w'):vj M ι H w x (keyed ⟨d,t,H.gen d t,0⟩ 0 f H) u w':=by
 obtain⟨M',c,o,p,z,v⟩:=h
 refine⟨M',c,o,by rw[ai.lD];exact p,by rw[ai.lD];exact z,?_⟩
 intro q l m
 rw[ai.kX]
 cases i:ι q with
 | some y=>
  have:=n q y i
  split
  ·rename_i j;rw[j.1,j.2.1]at this;exact Fm this
  ·exact this
 | none=>
  by_cases a : ∃k,k<f.length/\q = { (⟨d,t,H.gen d t,0⟩:Ref)with k:=k}
  ·obtain⟨k,a,rfl⟩:=a
   rw[if_pos ⟨rfl,rfl,by intro e;rw[e]at a;simp at a⟩]
   exact qJ _
  ·rw[v q i (λk b e=>a ⟨k,b,e⟩)]at m
   cases m
theorem LX{cs new:List AV}{j:Nat}(h:j+new.length<=cs.length)(k:Nat):(patch cs j new)[k]?=if j<=k/\k<j+new.length then new[k - j]? else cs[k]?:=by
 unfold patch
 have c:(cs.take j).length=j:=by simp;omega
 rcases fe k j with a | a
 ·rw[B8,nN (by omega),Bg,if_pos a,if_neg (by omega)]
 ·rcases fe k (j+new.length)with b | b
  ·rw[B8,o5 (by omega),nN (by omega),if_pos ⟨a,b⟩,c]
  ·rw[o5 (by simp;omega),Fo,if_neg (by omega)]
   simp only[oN,c]
   congr 1
   omega
theorem Rx{x:AV}(h:x.one=true):x.cells=[x]:=by
 cases x<;>first | rfl | (simp[AV.one]at h)
theorem JG{e c:AV}{j:Nat}{new:List AV}(h:sC e j new=some c)(i:new.all AV.one=true):j+new.length<=e.cells.length/\c.cells=patch e.cells j new:=by
 have a : ∀x,(∀cs,e ≠ .agg cs)->j=0->new=[x]->c=x->j+new.length<=e.cells.length/\c.cells=patch e.cells j new:=by
  intro x b l k f
  have d:e.cells=[e]:=by cases e<;>first | rfl | exact absurd rfl (b _)
  subst l;subst k;subst f
  simp only[zq,Jm,zY]at i
  rw[d,Rx i]
  exact⟨by simp,by simp[patch]⟩
 unfold sC at h
 split at h
 ·obtain⟨d,h⟩:=fa.1 h
  injection h with h
  subst h
  exact⟨d,rfl⟩
 ·rename_i b
  split at h
  ·injection h with h
   exact a _ (λcs f=>b cs f) rfl rfl h.symm
  ·cases h
theorem FL(R:gA M ι g w){k:bA}{l:Loc}{i j:Nat}{new v:List AV}(V:g r=some k)(S:ι r=some l)(D:0<l.esz)(L:k.k8=false)(C:jt k.es i j new=some v)(I:new.all AV.one=true)
 {us:List Value} (t:lR M (k.map ι) new us) :
 ∃arr T fz,w.heap[l.b]?=some (.cells arr T fz)/\i * k.esz+j+us.length<=arr.size/\(∀o,o<arr.size ->¬(fz.1<=o/\(o<fz.2\/fz.2<fz.1)))/\(∀u∈us,u.oneCell'=true) /\
  gA M ι (ku g r { k with es:=v}) (bQ w l.b (.cells (cr arr (i * k.esz+j) us) T fz))/\tA M ι g w M ι (ku g r { k with es:=v}) (bQ w l.b (.cells (cr arr (i * k.esz+j) us) T fz)):=by
 have y:=R.at S D V
 obtain⟨arr,T,fz,hh,E,B,U⟩:=y.heap
 unfold jt at C
 split at C
 ·cases C
 ·rename_i e J
  simp only[bO]at C
  obtain⟨e',N,rfl⟩:=C
  obtain⟨hle,d⟩:=JG N I
  have Z:i<k.es.length:=(iG.1 J).1
  have O:=y.cells e (fC J)
  have Y:=t.1
  have a:i * k.esz+j+us.length<=arr.size:=by
   have h2:(i+1) * k.esz<=l.n * k.esz:=mA _ (by have:=y.len;omega)
   rw[mS]at h2
   rw[E]
   omega
  have f : ∀u∈us,u.oneCell'=true:=by
   intro u hu
   obtain⟨m,hm,Q⟩:=qK hu
   have F:m<new.length:=by omega
   have:=t.2 m _ u (eC F) (by rw[<-Q];exact eC hm)
   exact this.one (by simp only[fZ]at I;exact I _ (lM F))
  obtain⟨h3,h4⟩:=R.write (k' := { k with es:=k.es.set i e'}) V S D (arr:=cr arr (i * k.esz+j) us) (T:=T) (fz:=fz) rfl rfl rfl (by rw[iV a];exact E)
   (by rw[iV a];exact B) (by simp;exact y.len)
   (by
    intro G K
    rcases List.mem_or_eq_of_mem_set K with h | h
    ·exact y.cells G h
    ·rw[h,d,<-O]
     simp[patch]
     omega)
   (by
    intro o x p
    have:=(y.frozen o x p).1
    rw[L]at this
    cases this)
   (by
    intro H q G x c p
    rw[il a]
    by_cases A:i=H
    ·subst A
     rw[KR Z]at c
     injection c with c
     subst c
     rw[d,LX hle]at p
     split at p
     ·rename_i X
      rw[if_pos (by omega),show i * k.esz+q - (i * k.esz+j)=q - j by omega]
      have z:q - j<us.length:=by omega
      exact⟨us[q - j],eC z,f _ (lM z),t.2 _ _ _ p (eC z)⟩
     ·rename_i X
      rw[if_neg (by omega)]
      exact U i q e x J p
    ·rw[FK A]at c
     have W:q<k.esz:=by
      rw[<-y.cells G (fC c)]
      exact(iG.1 p).1
     rw[if_neg]
     ·exact U H q G x c p
     ·rcases Nz A with h | h
      ·have:(i+1) * k.esz<=H * k.esz:=mA _ h
       rw[mS]at this
       omega
      ·have:(H+1) * k.esz<=i * k.esz:=mA _ h
       rw[mS]at this
       omega)
  exact⟨arr,T,fz,hh,a,B.1,f,h3,h4⟩
theorem Ag{t:TypeId}{n:Nat}(d:aJ P t=some n){b o:Nat}{u:Value}(h:u.cells.size=n){arr:Array Value}{T:TypeId}{fz:Nat × Nat}(e:w.heap[b]?=some (.cells arr T fz))
 (a:o+u.cells.toList.length<=arr.size) (c : ∀o,o<arr.size ->¬(fz.1<=o/\(o<fz.2\/fz.2<fz.1))) (f : ∀x∈u.cells.toList,x.oneCell'=true) :
 (Instr.storeAt t (.pointer (some ⟨b,o,none⟩)) u).run P w = .ok () (bQ w b (.cells (cr arr o u.cells.toList) T fz)):=by
 have:=mJ (P:=P) o u.cells.toList 0 arr w e (by simpa using a) c f
 simp only[Bc]at this
 simp[Instr.storeAt,Instr.sureAddr,storeVar,run_sizeOf d,h,this]
theorem s8(H:ai)(r:Ref)(k:bA):(H.put r (some k)).get=ku H.get r k:=by
 funext q
 rw[ai.get_put]
 rfl
theorem Qv{H:ai}(A:gA M ι H.get w)(hD:tB ι H){t:TypeId}{a x y:AV}{ua d:Value}(ha:VR M ι a ua)(hx:VR M ι x d){H':ai}(h:nc P H t (some a) (some x)=some (y,H')) :
 ∃w',(Instr.storeAt t ua d).run P w = .ok () w'/\vj M ι H w y H' undef w':=by
 unfold nc at h
 split at h
 ·rename_i r' i j x' n E D hn
  injection E with E;injection D with D
  subst E;subst D
  cases ha with | ptr N o=>
  rename_i l
  split at h
  ·rename_i b B
   obtain⟨⟨hxn,U,m⟩,h⟩:=fa.1 h
   obtain⟨l',z,p⟩:=A.live r' b B
   rw[N]at z;cases z
   have k:=hx.cells
   have f:d.cells.size=n:=by have:=k.1;simp at this;omega
   split at h
   ·rename_i c
    split at h
    ·rename_i y' Z
     split at h
     ·cases h
     ·rename_i hnr
      obtain⟨Y,h⟩:=fa.1 h
      simp only[bO]at h
      obtain⟨K,e,h⟩:=h
      injection h with G V
      subst G;subst V
      obtain⟨J,W⟩:=Ax (R:=ax H.get depth x) A
      have hv:=Cd A depth x y' d Z (λr hr=>hr) hx
      have u:vF H.get (ax H.get depth x) r'=some b:=by unfold vF;rw[if_neg hnr];exact B
      have F:=hv.cells
      obtain⟨arr,T,fz,L,I,Q,O,S,C⟩:=FL J u N o m e Y (us:=d.cells.toList) (by rw[bA.map,if_pos c];exact F)
      refine⟨bQ w l.b (.cells (cr arr (i * b.esz+j) d.cells.toList) T fz),?_,mZ M ι H.get w (ax H.get depth x),ι,.v rfl,?_,?_,?_⟩
      ·rw[p.esz]
       exact Ag hn f L I Q O
      ·rw[s8,ai.eB];exact S
      ·rw[s8,ai.eB];exact W.trans C
      ·intro q X hq
       rw[ai.mO _ _ _ (by rw[ai.eB,u];rfl),ai.ko]
       exact hD q X hq
    ·cases h
   ·rename_i c
    simp only[bO]at h
    obtain⟨K,e,h⟩:=h
    injection h with G V
    subst G;subst V
    obtain⟨arr,T,fz,L,I,Q,O,S,C⟩:=FL A B N o m e U (us:=d.cells.toList) (by rw[bA.map,if_neg c];exact k)
    refine⟨bQ w l.b (.cells (cr arr (i * b.esz+j) d.cells.toList) T fz),?_,M,ι,.v rfl,?_,?_,?_⟩
    ·rw[p.esz]
     exact Ag hn f L I Q O
    ·rw[s8];exact S
    ·rw[s8];exact C
    ·intro q X hq
     rw[ai.mO _ _ _ (by rw[B];rfl)]
     exact hD q X hq
  ·cases h
 ·cases h
end
end Go.Ab
namespace Go.Ab
section
variable{P:Program}{M:Mem}{ι:Map}{g:db}{w:World}{r:Ref}
def sj(g:db)(r:Ref):db:=λq=>if q=r then none else g q
theorem P4(b:gA M ι g w)(r:Ref):gA M ι (sj g r) w/\tA M ι g w M ι (sj g r) w:=by
 have a : ∀ {q k},sj g r q=some k->g q=some k:=by
  intro q k h
  unfold sj at h
  split at h
  ·cases h
  ·exact h
 exact⟨⟨b.mem,λq k h=>b.live q k (a h),λq f k k' l e h d=>b.inj q f k k' l e (a h) (a d)⟩,
  ⟨rfl,rfl,rfl,bD _,λ_ _ _=>rfl,λ_ _ _ h=>h,λ_ _ h=>h,λq k l h c => .inr ⟨q,k,l,a h,c,rfl⟩,λ_ _ _ h => .inl h⟩⟩
theorem IL(y:gA M ι g w){r q:Ref}{k k':bA}{l:Loc}(G:g r=some k)(D:ι r=some l)(hq:ι q=none){arr':Array Value}{w':World}
 (hw : ∃arr T fz,w.heap[l.b]?=some (.cells arr T fz)/\arr.size=arr'.size/\w'=bQ w l.b (.cells arr' T fz)) (a:k'.esz=k.esz) (L:k'.arr=true) (E:k.arr=true) (Z:k'.k8=k.k8)
 (B : ∀(o:Nat) u,o<k.es.length * k.esz ->∀arr T fz,w.heap[l.b]?=some (.cells arr T fz)->arr[o]?=some u->arr'[o]?=some u)
 (X:k'.es.length<=l.n) (hle:k.es.length<=k'.es.length) (v : ∀e∈k'.es,e.cells.length=k.esz)
 (hc : ∀(i j:Nat) e x,k'.es[i]?=some e->e.cells[j]?=some x ->∃u,arr'[i * k.esz+j]?=some u/\u.oneCell'=true/\VR M ei x u) :
 gA M (iU ι q l) (ku (sj g r) q k') w'/\tA M ι g w M (iU ι q l) (ku (sj g r) q k') w':=by
 obtain⟨arr,T,fz,hh,S,c⟩:=hw
 obtain⟨l',W,z⟩:=y.live r k G
 rw[D]at W;cases W
 have R:=z.pos E
 replace z:=z.cellsOk R
 obtain⟨arr0,T0,fz0,I,h1,h2,h3⟩:=z.heap
 rw[hh]at I;cases I
 have O:=z.lt
 have m:=Co (l:=l) hq
 have hqr:q≠r:=by intro e;rw[e,D]at hq;cases hq
 refine⟨⟨?_,?_,?_⟩,?_⟩
 ·intro b o x F
  by_cases Y:l.b=b
  ·subst Y
   have ho:=(z.frozen o x F).2
   have H:=y.mem _ _ _ F
   rw[ld hh]at H
   rw[ld (by rw[c];exact eV O)]
   exact B o x ho arr T fz hh H
  ·rw[World.cell?_of_block (w:=w) (by rw[c];exact eE Y)]
   exact y.mem b o x F
 ·intro r' p t
  unfold ku at t
  split at t
  ·rename_i e
   subst e
   injection t with t
   subst t
   refine⟨l,by simp[iU],fV.Sg ⟨by rw[z.esz,a],⟨arr',T,fz,by rw[c];exact eV O,by rw[<-S,a];exact h1,by rw[<-S,a];exact h2,?_⟩,X,by rw[a];exact v,?_⟩ (by rw[a];exact R)⟩
   ·intro i j e x he F
    rw[a]
    obtain⟨u,hu,ho,hv⟩:=hc i j e x he F
    refine⟨u,hu,ho,?_⟩
    rw[bA.map,if_pos L]
    exact hv
   ·intro o x F
    rw[Z,a]
    have:=z.frozen o x F
    exact⟨this.1,El this.2 (mA _ hle)⟩
  ·rename_i hne
   unfold sj at t
   split at t
   ·cases t
   ·rename_i U
    obtain⟨f,V,Q⟩:=y.live r' p t
    have hnb:l.b≠f.b:=λe=>U (y.inj r' r p k f l t G V D e.symm)
    exact⟨f,m r' f V,Q.cz (λ_ _ _ h=>h) m (by rw[c];exact eE hnb) Q.frozen⟩
 ·have A : ∀ {r1 p f},ku (sj g r) q k' r1=some p->iU ι q l r1=some f->(r1=q/\f=l)\/(r1≠q/\r1≠r/\g r1=some p/\ι r1=some f):=by
   intro r1 p f h d
   unfold ku at h
   unfold iU at d
   split at h
   ·rename_i e;rw[if_pos e]at d;injection d with d;exact .inl ⟨e,d.symm⟩
   ·rename_i e
    rw[if_neg e]at d
    unfold sj at h
    split at h
    ·cases h
    ·rename_i e';exact .inr ⟨e,e',h,d⟩
  intro r1 r2 p k2 f l2 h1 h2 h3 h4 h5
  rcases A h1 h3 with ⟨e1,e2⟩ | ⟨e1,e2,e3,e4⟩<;>rcases A h2 h4 with ⟨K,C⟩ | ⟨K,C,J,N⟩
  ·rw[e1,K]
  ·exact absurd (y.inj r r2 k k2 l l2 G J D N (by rw[<-e2];exact h5)).symm C
  ·exact absurd (y.inj r r1 k p l f G e3 D e4 (by rw[<-C];exact h5.symm)).symm e2
  ·exact y.inj r1 r2 p k2 f l2 e3 J e4 N h5
 ·refine⟨by rw[c];rfl,by rw[c];rfl,by rw[c];rfl,by rw[c];simp[bQ],?_,λ_ _ _ h=>h,m,?_,λ_ _ _ h => .inl h⟩
  ·intro b _ hno
   rw[c]
   exact eE (hno r k l G D)
  ·intro r1 p f h d
   unfold ku at h
   unfold iU at d
   split at h
   ·rename_i e;rw[if_pos e]at d;injection d with d;subst d;exact .inr ⟨r,k,l,G,D,rfl⟩
   ·rename_i e
    rw[if_neg e]at d
    unfold sj at h
    split at h
    ·cases h
    ·exact .inr ⟨r1,p,f,h,d,rfl⟩
theorem get_append(H:ai)(q r:Ref)(k:bA)(b:q≠r):ai.get ((q,some k) :: H.put r none)=ku (sj H.get r) q k:=by
 funext x
 simp only[ai.get,ai.get_put]
 unfold ku sj
 by_cases a:q=x
 ·subst a;simp
 ·rw[if_neg a,if_neg (sA a)]
theorem O1(H:ai)(r:Ref)(k:bA)(a:(H.get r).isSome=true)(d t:Nat) :
 ai.gen ((⟨r.d,r.t,H.gen r.d r.t,0⟩,some k) :: H.put r none) d t=if r.d=d/\r.t=t then H.gen r.d r.t+1 else H.gen d t:=by
 simp only[ai.gen]
 split
 ·rfl
 ·rw[ai.mO H r none a]
theorem NS{H:ai}(hS:gA M ι H.get w)(hD:tB ι H){ts:Array TypeId}{ty:TypeId}{s x y:AV}{us ux:Value}(hs:VR M ι s us)(hx:VR M ι x ux){H':ai}
 (h:mI P H ts[0]? ts[1]? s x=some (y,H')) : ∃u w',(Builtin.append_ ts ty #[us,ux]).run P w = .ok u w'/\vj M ι H w y H' u w':=by
 unfold mI at h
 split at h
 ·cases h
 ·rename_i e he
  simp only[gE]at he
  obtain⟨t,ht,he⟩:=he
  have hu:=iD he
  split at h
  ·cases h
  ·rename_i hc
   split at h
   ·rename_i z by' zz ez new hz hb hzz F
    split at h
    ·cases h
    ·rename_i f
     have hez:ez=z:=zX.1 λh=>f (.inl h)
     have S:0<z:=Bf λh=>f (.inr (.inl h))
     have hb0:0<by':=Bf λh=>f (.inr (.inr (.inl h)))
     have hn0:new≠[]:=λh=>f (.inr (.inr (.inr (.inl h))))
     have hzl:zz.cells.length=z:=zX.1 λh=>f (.inr (.inr (.inr (.inr h))))
     subst hez
     obtain⟨R,m,hA⟩:=GK (w:=w) hS hz S hx hc F
     split at h
     ·rename_i r' off len
      split at h
      ·rename_i b N
       obtain⟨⟨hoff,G,hbz,hlen,K⟩,h⟩:=fa.1 h
       injection h with h;injection h with h1 h2;subst h1;subst h2
       subst hoff
       subst hlen
       subst hbz
       have hs0:=hs
       cases hs with | cC hrl hbb hsp ha hcc hn hk X=>
       rename_i l a c
       have hq:=hD.fresh r'.d r'.t 0
       have Q:(⟨r'.d,r'.t,H.gen r'.d r'.t,0⟩:Ref)≠r':=by intro e;rw[e,hrl]at hq;cases hq
       have hbk:=hS.at hrl X N
       obtain⟨arr,T,fz,hh,hsz,hfz,O⟩:=hbk.heap
       have hpos:0<new.length:=Fp.2 hn0
       have hel:cU H.get (.cC r' 0 b.es.length none)=some (b.esz,(b.es.drop 0).take b.es.length):=by
        simp[cU,N,G]
       obtain⟨us0,C⟩:=ow (P:=P) hS hs0 S hel
       have hee:(b.es.drop 0).take b.es.length=b.es:=by simp
       rw[hee]at C
       have W : ∀ι':Map,(∀q,ι q=none->q≠⟨r'.d,r'.t,H.gen r'.d r'.t,0⟩->ι' q=none)->tB ι' ((⟨r'.d,r'.t,H.gen r'.d r'.t,0⟩,some ⟨b.esz,b.es++new,true,b.k8⟩) :: H.put r' none):=by
        intro ι' hι q lq hql
        rw[O1 H r' _ (by rw[N];rfl)]
        cases D:ι q with
        | some l0=>
         have:=hD q l0 D
         split
         ·rename_i V;rw[<-V.1,<-V.2]at this;exact Fm this
         ·exact this
        | none=>
         by_cases hqq:q=⟨r'.d,r'.t,H.gen r'.d r'.t,0⟩
         ·subst hqq
          rw[if_pos ⟨rfl,rfl⟩]
          exact qJ _
         ·rw[hι q D hqq]at hql
          cases hql
       by_cases U:b.es.length+new.length<=c
       ·
        have I:a.off=0:=by
         rcases ha with h | h
         ·omega
         ·simpa using h
        have hcn:0+c<=l.n:=by
         rcases hn with h | h
         ·omega
         ·exact h
        have hae:a=⟨l.b,0,none⟩:=by rw[lf hsp,hbb,I]
        have E:0+b.es.length * b.esz+R.length<=arr.size:=by
         rw[m.len,hsz,uy,<-mS]
         exact mA _ (by omega)
        have B:=Bp (P:=P) (w:=w) (ty:=ty) ht hu hz hb (b:=l.b) (o:=0) hA U K hh E hfz.1 m.one
        rw[uy]at B E
        obtain⟨h3,h4⟩:=IL (M:=M) (q:=⟨r'.d,r'.t,H.gen r'.d r'.t,0⟩) (k':=⟨b.esz,b.es++new,true,b.k8⟩) hS N hrl hq (arr':=cr arr (b.es.length * b.esz) R)
         ⟨arr,T,fz,hh,(iV E).symm,rfl⟩ rfl rfl G rfl
         (by
          intro o u ho arr1 T1 fz1 hh1 p
          rw[hh]at hh1;cases hh1
          rw[il E,if_neg (by omega)]
          exact p)
         (by simp;omega) (by simp) (by
          intro L he1
          rcases nM.1 he1 with h | h
          ·exact hbk.cells L h
          ·exact m.Je L h)
         (by
          intro i j L x1 D A
          rw[il E]
          rcases fe i b.es.length with Z | hge
          ·rw[nN Z]at D
           have hj:j<b.esz:=by
            rw[<-hbk.cells L (fC D)]
            exact(iG.1 A).1
           have:=DY Z hj
           rw[if_neg (by omega)]
           obtain⟨u,p,ho,hv⟩:=O i j L x1 D A
           rw[bA.map,if_pos G]at hv
           exact⟨u,p,ho,hv⟩
          ·rw[o5 hge]at D
           obtain⟨u,p,hv⟩:=m.vr _ j L x1 D A
           have Z:=(iG.1 p).1
           have hge':b.es.length * b.esz<=i * b.esz:=mA _ hge
           have hii:(i - b.es.length) * b.esz=i * b.esz - b.es.length * b.esz:=Fv _ _ _
           rw[if_pos (by omega),show i * b.esz+j - b.es.length * b.esz=(i - b.es.length) * b.esz+j by omega]
           exact⟨u,p,m.one u (fC p),hv⟩)
        refine⟨.slice (some a) (b.es.length+new.length) c,_,by rw[hae];exact B,M,_,?_,by rw[get_append H _ r' _ Q];exact h3,by rw[get_append H _ r' _ Q];exact h4,?_⟩
        ·exact .cC (l:=l) (by simp[iU]) hbb hsp (.inr (by rw[I];simp)) U (.inr hcn) (by intro k hk;cases hk) X
        ·exact W _ (by intro q hq' Y;simp[iU,Y,hq'])
       ·
        obtain⟨zv,hzv,hzs⟩:=BH hz hzz hzl
        obtain⟨cap,w',J,B,hgrew⟩:=uT (P:=P) (w:=w) (ty:=ty) ht hu hz hb hzv hzs (AZ (a:=some a) (len:=b.es.length) (c:=c) rfl rfl C) hA (by omega) K hb0
        obtain⟨h1,h2⟩:=Av (olds:=us0) (us:=R) (n1:=b.es.length) (n2:=new.length) (cap:=cap) C.len m.len hzs J
        obtain⟨h3,h4⟩:=P4 hS r'
        have v:=C.row.append m
        have F : ∀(i j:Nat) e x,(b.es++new)[i]?=some e->e.cells[j]?=some x ->∃u,(us0.toArray++R.toArray++Builtin.zeroCells zv.cells (cap - (b.es.length+new.length)))[i * b.esz+j]?=some u/\u.oneCell'=true/\VR M ei x u:=by
         intro i j L x1 D A
         obtain⟨u,p,hv⟩:=v.vr i j L x1 D A
         exact⟨u,h2 _ _ p,v.one u (fC p),hv⟩
        obtain⟨h5,h6⟩:=h3.alloc (q:=⟨r'.d,r'.t,H.gen r'.d r'.t,0⟩) hq hgrew ⟨b.esz,b.es++new,true,b.k8⟩ S cap h1 (Dk.zero _ _) (by simpa using J) v.Je
         (by intro i j L x1 D A;rw[bA.map,if_pos rfl];exact F i j L x1 D A)
        refine⟨_,w',B,M,_,?_,by rw[get_append H _ r' _ Q];exact h5,by rw[get_append H _ r' _ Q];exact h4.trans h6,?_⟩
        ·exact .cC (l:=⟨w.heap.size,b.esz,cap⟩) (by simp[iU]) rfl rfl (.inr (by simp)) J (.inr (by simp)) (by intro k hk;cases hk) S
        ·exact W _ (by intro q hq' Y;simp[iU,Y,hq'])
      ·cases h
     ·cases h
   ·cases h
theorem K1{H:ai}(hS:gA M ι g w){ts:Array TypeId}{ty:TypeId}{s x y:AV}{us ux:Value}(hs:VR M ι s us)(hx:VR M ι x ux){H':ai}
 (hag : ∀r',ju s=some r'->H.get r'≠none->g r'=H.get r') (hnw : ∀e p,pg P H.get e x=some p->pg P g e x=some p) (hfree : ∀r',ju s=some r'->H.get r'≠none->ι ⟨r'.d,r'.t,H.gen r'.d r'.t,0⟩=none)
 (h:mI P H ts[0]? ts[1]? s x=some (y,H')) : ∃r' b k',ju s=some r'/\H.get r'=some b/\(⟨r'.d,r'.t,H.gen r'.d r'.t,0⟩:Ref)≠r'/\H'=(⟨r'.d,r'.t,H.gen r'.d r'.t,0⟩,some k') :: H.put r' none /\
  ∃u w' R,(Builtin.append_ ts ty #[us,ux]).run P w = .ok u w'/\VR M R y u/\gA M R (ku (sj g r') ⟨r'.d,r'.t,H.gen r'.d r'.t,0⟩ k') w'/\tA M ι g w M R (ku (sj g r') ⟨r'.d,r'.t,H.gen r'.d r'.t,0⟩ k') w' /\
   ∀q,ι q=none->q≠⟨r'.d,r'.t,H.gen r'.d r'.t,0⟩->R q=none:=by
 unfold mI at h
 split at h
 ·cases h
 ·rename_i e he
  simp only[gE]at he
  obtain⟨t,ht,he⟩:=he
  have hu:=iD he
  split at h
  ·cases h
  ·rename_i hc
   split at h
   ·rename_i z by' zz ez new hz hb hzz F
    split at h
    ·cases h
    ·rename_i f
     have hez:ez=z:=zX.1 λh=>f (.inl h)
     have U:0<z:=Bf λh=>f (.inr (.inl h))
     have hb0:0<by':=Bf λh=>f (.inr (.inr (.inl h)))
     have hn0:new≠[]:=λh=>f (.inr (.inr (.inr (.inl h))))
     have hzl:zz.cells.length=z:=zX.1 λh=>f (.inr (.inr (.inr (.inr h))))
     subst hez
     obtain⟨S,m,hA⟩:=GK (w:=w) hS hz U hx hc (hnw _ _ F)
     split at h
     ·rename_i r' off len
      split at h
      ·rename_i b N
       obtain⟨⟨hoff,G,hbz,hlen,K⟩,h⟩:=fa.1 h
       injection h with h;injection h with h1 h2;subst h1;subst h2
       subst hoff
       subst hlen
       subst hbz
       have hs0:=hs
       cases hs with | cC hrl hbb hsp ha hcc hn hk W=>
       rename_i l a c
       have hq:=hfree r' rfl (by rw[N];simp)
       have Z:g r'=some b:=by rw[hag r' rfl (by rw[N];simp),N]
       have hqr:(⟨r'.d,r'.t,H.gen r'.d r'.t,0⟩:Ref)≠r':=by intro e;rw[e,hrl]at hq;cases hq
       have hbk:=hS.at hrl W Z
       obtain⟨arr,T,fz,hh,hsz,hfz,Q⟩:=hbk.heap
       have hpos:0<new.length:=Fp.2 hn0
       have hel:cU g (.cC r' 0 b.es.length none)=some (b.esz,(b.es.drop 0).take b.es.length):=by
        simp[cU,Z,G]
       obtain⟨us0,D⟩:=ow (P:=P) hS hs0 U hel
       have hee:(b.es.drop 0).take b.es.length=b.es:=by simp
       rw[hee]at D
       refine⟨r',b,⟨b.esz,b.es++new,true,b.k8⟩,rfl,N,hqr,rfl,?_⟩
       by_cases V:b.es.length+new.length<=c
       ·
        have I:a.off=0:=by
         rcases ha with h | h
         ·omega
         ·simpa using h
        have hcn:0+c<=l.n:=by
         rcases hn with h | h
         ·omega
         ·exact h
        have hae:a=⟨l.b,0,none⟩:=by rw[lf hsp,hbb,I]
        have E:0+b.es.length * b.esz+S.length<=arr.size:=by
         rw[m.len,hsz,uy,<-mS]
         exact mA _ (by omega)
        have C:=Bp (P:=P) (w:=w) (ty:=ty) ht hu hz hb (b:=l.b) (o:=0) hA V K hh E hfz.1 m.one
        rw[uy]at C E
        obtain⟨h3,h4⟩:=IL (M:=M) (q:=⟨r'.d,r'.t,H.gen r'.d r'.t,0⟩) (k':=⟨b.esz,b.es++new,true,b.k8⟩) hS Z hrl hq (arr':=cr arr (b.es.length * b.esz) S)
         ⟨arr,T,fz,hh,(iV E).symm,rfl⟩ rfl rfl G rfl
         (by
          intro o u ho arr1 T1 fz1 hh1 v
          rw[hh]at hh1;cases hh1
          rw[il E,if_neg (by omega)]
          exact v)
         (by simp;omega) (by simp) (by
          intro L he1
          rcases nM.1 he1 with h | h
          ·exact hbk.cells L h
          ·exact m.Je L h)
         (by
          intro i j L x1 O B
          rw[il E]
          rcases fe i b.es.length with Y | hge
          ·rw[nN Y]at O
           have hj:j<b.esz:=by
            rw[<-hbk.cells L (fC O)]
            exact(iG.1 B).1
           have:=DY Y hj
           rw[if_neg (by omega)]
           obtain⟨u,v,ho,hv⟩:=Q i j L x1 O B
           rw[bA.map,if_pos G]at hv
           exact⟨u,v,ho,hv⟩
          ·rw[o5 hge]at O
           obtain⟨u,v,hv⟩:=m.vr _ j L x1 O B
           have Y:=(iG.1 v).1
           have hge':b.es.length * b.esz<=i * b.esz:=mA _ hge
           have hii:(i - b.es.length) * b.esz=i * b.esz - b.es.length * b.esz:=Fv _ _ _
           rw[if_pos (by omega),show i * b.esz+j - b.es.length * b.esz=(i - b.es.length) * b.esz+j by omega]
           exact⟨u,v,m.one u (fC v),hv⟩)
        refine⟨.slice (some a) (b.es.length+new.length) c,_,_,by rw[hae];exact C,?_,h3,h4,?_⟩
        ·exact .cC (l:=l) (by simp[iU]) hbb hsp (.inr (by rw[I];simp)) V (.inr hcn) (by intro k hk;cases hk) W
        ·intro q hq' X;simp[iU,X,hq']
       ·
        obtain⟨zv,hzv,hzs⟩:=BH hz hzz hzl
        obtain⟨cap,w',J,C,hgrew⟩:=uT (P:=P) (w:=w) (ty:=ty) ht hu hz hb hzv hzs (AZ (a:=some a) (len:=b.es.length) (c:=c) rfl rfl D) hA (by omega) K hb0
        obtain⟨h1,h2⟩:=Av (olds:=us0) (us:=S) (n1:=b.es.length) (n2:=new.length) (cap:=cap) D.len m.len hzs J
        obtain⟨h3,h4⟩:=P4 hS r'
        have A:=D.row.append m
        have F : ∀(i j:Nat) e x,(b.es++new)[i]?=some e->e.cells[j]?=some x ->∃u,(us0.toArray++S.toArray++Builtin.zeroCells zv.cells (cap - (b.es.length+new.length)))[i * b.esz+j]?=some u/\u.oneCell'=true/\VR M ei x u:=by
         intro i j L x1 O B
         obtain⟨u,v,hv⟩:=A.vr i j L x1 O B
         exact⟨u,h2 _ _ v,A.one u (fC v),hv⟩
        obtain⟨h5,h6⟩:=h3.alloc (q:=⟨r'.d,r'.t,H.gen r'.d r'.t,0⟩) hq hgrew ⟨b.esz,b.es++new,true,b.k8⟩ U cap h1 (Dk.zero _ _) (by simpa using J) A.Je
         (by intro i j L x1 O B;rw[bA.map,if_pos rfl];exact F i j L x1 O B)
        refine⟨_,w',_,C,?_,h5,h4.trans h6,?_⟩
        ·exact .cC (l:=⟨w.heap.size,b.esz,cap⟩) (by simp[iU]) rfl rfl (.inr (by simp)) J (.inr (by simp)) (by intro k hk;cases hk) U
        ·intro q hq' X;simp[iU,X,hq']
      ·cases h
     ·cases h
   ·cases h
theorem FR{H:ai}(K:gA M ι H.get w)(C:tB ι H){d a:Nat}{t:TypeId}{n:Nat}{m:List (Nat × AV)}{qs:Array (Nat × Value)}{x:AV}{H':ai}
 (h:kg P H ⟨d,a,H.gen d a,0⟩ t n (some m)=some (x,H')) (hl:m.length=qs.toList.length)
 (hp : ∀(i:Nat) p q,m[i]?=some p->qs.toList[i]?=some q->p.1=q.1/\VR M ι p.2 q.2) :
 ∃u w',(Instr.buildSlice t n qs).run P w = .ok u w'/\vj M ι H w x H' u w':=by
 simp only[kg,bO]at h
 obtain⟨b,G,h⟩:=h
 injection h with N L
 subst N;subst L
 obtain⟨h1,h2,Z,e,arr,T,h5,O⟩:=GL K G hl hp
 obtain⟨D,S⟩:=Ax (R:=bY H.get (m.map (·.2))) K
 have E:b=⟨b.esz,b.es,true,false⟩:=by cases b;simp_all
 have v:Ef w (w.alloc (.cells arr e)) (.cells arr e (0,0)):=⟨rfl,rfl,rfl,rfl⟩
 have F:=C.fresh d a 0
 have j:=yl (r:=⟨d,a,H.gen d a,0⟩) D rfl F v O (λk u U=>by simpa using U) (n:=n) (c:=n) h5 (Dk.zero _ _) (by omega) (bD _) (cap:=some n) (by intro k A;cases A;rfl) (Ex G)
 rw[Z,<-E]at j
 have Q:tB ι (cH H (bY H.get (m.map (·.2)))):=by
  intro q l F
  rw[ai.ko]
  exact C q l F
 obtain⟨M',o,V,Y,g3,W⟩:=j
 have f:ai.get (((⟨d,a,H.gen d a,0⟩:Ref),some b) :: cH H (bY H.get (m.map (·.2))))=sM (vF H.get (bY H.get (m.map (·.2)))) ⟨d,a,H.gen d a,0⟩ [b]:=by
  rw[pB _ _ rfl]
  funext q
  simp only[ai.get,ai.eB]
  unfold ku
  by_cases B:q=⟨d,a,H.gen d a,0⟩
  ·rw[if_pos B.symm,if_pos B]
  ·rw[if_neg (sA B),if_neg B]
 refine⟨_,_,T,M',o,V,?_,?_,?_⟩
 ·show gA M' o (ai.get (_ :: _)) _
  rw[f];exact Y
 ·show tA M ι H.get w M' o (ai.get (_ :: _)) _
  rw[f];exact S.trans g3
 ·intro q l z
  simp only[ai.gen,ai.ko]
  cases I:ι q with
  | some X=>
   have:=C q X I
   split
   ·rename_i J;rw[<-J.1,<-J.2]at this;exact Fm this
   ·exact this
  | none=>
   by_cases A:q=⟨d,a,H.gen d a,0⟩
   ·subst A
    rw[if_pos ⟨rfl,rfl⟩]
    exact qJ _
   ·rw[W q I (λk y e=>A (by rw[e];simp at y;rw[y]))]at z
    cases z
theorem Row.sub{z es us}(h:Row M z es us)(n:Nat):Row M z (es.take n) (us.take (n * z)):=by
 refine⟨?_,λe a=>h.Je e (zw a),λx b=>h.one x (zw b),?_⟩
 ·rw[sX,sX,h.len]
  rcases Nat.le_total n es.length with hle | hle
  ·rw[FD hle,FD (mA _ hle)]
  ·rw[Ns hle,Ns (mA _ hle)]
 ·intro i j e x a b
  rw[Bg]at a
  split at a
  ·rename_i c
   obtain⟨u,hu,f⟩:=h.vr i j e x a b
   have d:j<z:=by
    rw[<-h.Je e (fC a)]
    exact(iG.1 b).1
   refine⟨u,?_,f⟩
   rw[Bg,if_pos (DY c d)]
   exact hu
  ·cases a
theorem SB{H:ai}(hS:gA M ι H.get w)(hD:tB ι H){ts:Array TypeId}{ty:TypeId}{s x y:AV}{us ux:Value}(hs:VR M ι s us)(hx:VR M ι x ux){H':ai}
 (h:KZ P H ts[0]? s x=some (y,H')) : ∃u w',(Builtin.copy_ ts ty #[us,ux]).run P w = .ok u w'/\vj M ι H w y H' u w':=by
 unfold KZ at h
 split at h
 ·cases h
 ·rename_i e he
  simp only[gE]at he
  obtain⟨t,ht,he⟩:=he
  have hu:=iD he
  split at h
  ·cases h
  ·rename_i z hz
   split at h
   ·cases h
   ·rename_i ez f A
    split at h
    ·cases h
    ·rename_i F
     have hez:ez=z:=zX.1 λh=>F (.inl h)
     have hz0:0<z:=Bf λh=>F (.inr h)
     subst hez
     have hS0 : ∃m,Src P M w ux ez f m:=by
      split at A
      ·rename_i hn
       injection A with A
       injection A with h1 h2
       subst h2
       have:ux = .slice none 0 0:=by
        cases hx<;>simp[oa]at hn
        split at hn<;>simp_all
       subst this
       exact⟨[],by simp,by simp,by simp,by intro i j e x h;simp at h,λw'=>rfl,λn w' hn' _=>by simp[Builtin.firstCells]⟩
      ·exact ow hS hx hz0 A
     obtain⟨m,B⟩:=hS0
     split at h
     ·
      cases hs
      injection h with h;injection h with h1 h2;subst h1;subst h2
      have hf:=B.first 0 w (Dq _) rfl
      have hl:=B.lenOf w
      refine⟨.int .i64 0,w,?_,M,ι,.v rfl,hS,tA.refl,hD⟩
      simp only[Nat.zero_mul,List.take_zero]at hf
      have hm:f.length.min 0=0:=Nat.min_zero _
      simp[Builtin.copy_,ht,bu hu,run_sizeOf hz,hl,hm,hf,goInt]
     ·rename_i r' d len cap
      split at h
      ·rename_i b hb
       obtain⟨⟨O,hbz,hfr,hle⟩,h⟩:=fa.1 h
       injection h with h;injection h with h1 h2;subst h1;subst h2
       subst hbz
       cases hs with | cC Z hbb hsp ha hcc hn hk N=>
       rename_i l a c
       have C:=hS.at Z N hb
       obtain⟨arr,T,fz,hh,hsz,W,J⟩:=C.heap
       obtain⟨n,K⟩ : ∃n,n=Nat.min f.length len:=⟨_,rfl⟩
       have Y:n<=f.length:=by rw[K];exact Nat.min_le_left _ _
       have hn2:n<=len:=by rw[K];exact Nat.min_le_right _ _
       rw[<-K]
       have hf:=B.first n w Y rfl
       have hl:=B.lenOf w
       have D:=B.row.sub n
       have L:(f.take n).length=n:=by rw[sX,FD Y]
       have Q:(m.take (n * b.esz)).length=n * b.esz:=by rw[D.len,L]
       have hbl:=C.len
       have p:d * b.esz+(m.take (n * b.esz)).length<=arr.size:=by
        rw[Q,hsz,<-mS]
        exact mA _ (by omega)
       have hes : ∀i,(b.es.take d++f.take n++b.es.drop (d+n))[i]?=if d<=i/\i<d+n then (f.take n)[i - d]? else b.es[i]?:=by
        intro i
        have:=LX (cs:=b.es) (new:=f.take n) (j:=d) (by rw[L];omega) i
        rw[L]at this
        rw[<-this]
        unfold patch
        rw[L]
       obtain⟨h3,h4⟩:=hS.write (k' := { b with es:=b.es.take d++f.take n++b.es.drop (d+n)}) hb Z N (arr:=cr arr (d * b.esz) (m.take (n * b.esz))) (T:=T) (fz:=fz) rfl rfl rfl
        (by rw[iV p];exact hsz) (by rw[iV p];exact W) (by simp;omega)
        (by
         intro I X
         simp only[nM]at X
         rcases X with (h | h) | h
         ·exact C.cells I (zw h)
         ·exact D.Je I h
         ·exact C.cells I (Fq h))
        (by
         intro o v V
         have:=(C.frozen o v V).1
         rw[hfr]at this
         cases this)
        (by
         intro i j I x1 R U
         rw[bA.map,if_pos O]
         simp only at R
         rw[hes i]at R
         rw[il p,Q]
         by_cases hr:d<=i/\i<d+n
         ·rw[if_pos hr]at R
          obtain⟨u,E,V⟩:=D.vr (i - d) j I x1 R U
          have hlt:=(iG.1 E).1
          rw[Q]at hlt
          have h5:d * b.esz<=i * b.esz:=mA _ hr.1
          have h6:(i - d) * b.esz=i * b.esz - d * b.esz:=Fv _ _ _
          rw[if_pos (by omega),show i * b.esz+j - d * b.esz=(i - d) * b.esz+j by omega]
          exact⟨u,E,D.one u (fC E),V⟩
         ·rw[if_neg hr]at R
          have hj:j<b.esz:=by
           rw[<-C.cells I (fC R)]
           exact(iG.1 U).1
          rw[if_neg]
          ·obtain⟨u,E,ho,V⟩:=J i j I x1 R U
           rw[bA.map,if_pos O]at V
           exact⟨u,E,ho,V⟩
          ·intro hcon
           apply hr
           have e1':d * b.esz+n * b.esz=(d+n) * b.esz:=(mS _ _ _).symm
           constructor
           ·rcases fe i d with h | h
            ·have:(i+1) * b.esz<=d * b.esz:=mA _ h
             rw[mS]at this
             omega
            ·exact h
           ·rcases fe i (d+n)with h | h
            ·exact h
            ·have:(d+n) * b.esz<=i * b.esz:=mA _ h
             omega)
       have G:(storeCells a (m.take (n * b.esz))).run P w = .ok () (bQ w l.b (.cells (cr arr (d * b.esz) (m.take (n * b.esz))) T fz)):=by
        by_cases h0:n=0
        ·have e0:m.take (n * b.esz)=[]:=by rw[h0];simp
         rw[e0]
         have I:cr arr (d * b.esz) []=arr:=by simp[cr]
         rw[I]
         have e2:bQ w l.b (.cells arr T fz)=w:=by
          unfold bQ
          have:w.heap.setIfInBounds l.b (.cells arr T fz)=w.heap:=by
           apply Em
           intro k
           by_cases hk:l.b=k
           ·subst hk;rw[hh,Fs C.lt]
           ·rw[Bi hk]
          rw[this]
         rw[e2]
         simp[storeCells]
        ·have S:a.off=d * b.esz:=by
          rcases ha with h | h
          ·omega
          ·rw[h,C.esz]
         have:=mJ (P:=P) (d * b.esz) (m.take (n * b.esz)) 0 arr w hh (by simpa using p) W.1 D.one
         rw[Bc]at this
         rw[lf hsp,hbb,S]
         exact this
       refine⟨.int .i64 n,_,?_,M,ι,.v rfl,by rw[s8];exact h3,by rw[s8];exact h4,?_⟩
       ·have hm:f.length.min len=n:=K.symm
        simp[Builtin.copy_,ht,bu hu,run_sizeOf hz,hl,hm,hf,G,goInt]
       ·intro q lq hq
        rw[ai.mO _ _ _ (by rw[hb];rfl)]
        exact hD q lq hq
      ·cases h
     ·cases h
theorem Qw{H:ai}(hS:gA M ι H.get w)(hD:tB ι H){ts:Array TypeId}{ty:TypeId}{s x y:AV}{us ux:Value}(hs:VR M ι s us)(hx:VR M ι x ux){H':ai}
 (h:FQ P H ts[0]? s x=some (y,H')) : ∃u w',(Builtin.copy_ ts ty #[us,ux]).run P w = .ok u w'/\vj M ι H w y H' u w':=by
 unfold FQ at h
 split at h
 ·rename_i z r' d len cap r2 p zS cap2 he
  simp only[gE]at he
  obtain⟨e,⟨t,ht,he⟩,hz⟩:=he
  have hu:=iD he
  split at h
  ·rename_i b b2 hb hb2
   obtain⟨⟨N,U,hbz,hbz2,hz0,hfr,hle0,L⟩,h⟩:=fa.1 h
   injection h with h;injection h with h1 h2;subst h1;subst h2
   subst hbz
   cases hs with | cC V hbb hsp ha hcc hn hk E=>
   rename_i l a c
   cases hx with | cC hrl2 hbb2 Z ha2 hcc2 hn2' hk2 Y=>
   rename_i l2 a2 W
   obtain⟨n,J⟩ : ∃n,n=Nat.min zS len:=⟨_,rfl⟩
   have hnl:n<=zS:=by rw[J];exact Nat.min_le_left _ _
   have hn2:n<=len:=by rw[J];exact Nat.min_le_right _ _
   rw[<-J]at L ⊢
   have hv2:VR M ι (.cC r2 p n none) (.slice (some a2) n W) := .cC hrl2 hbb2 Z ha2 (uA hnl hcc2) hn2' (λk hk=>by cases hk) Y
   have hel:cU H.get (.cC r2 p n none)=some (b2.esz,(b2.es.drop p).take n):=by
    simp only[cU,hb2]
    rw[if_pos ⟨U,L⟩]
   rw[hbz2]at hel
   obtain⟨B,K⟩:=ow (P:=P) hS hv2 hz0 hel
   have hsl:((b2.es.drop p).take n).length=n:=by rw[sX,Dv];omega
   generalize (b2.es.drop p).take n=src at *
   have hn1:n<=src.length:=by omega
   have htk:src.take n=src:=gw (by omega)
   suffices D : ∃u w',(Builtin.copy_ ts ty #[.slice (some a) len c,.slice (some a2) zS W]).run P w = .ok u w'/\vj M ι H w (.v (.int .i64 n)) (H.put r' (some { b with es:=b.es.take d++src.take n++b.es.drop (d+n)})) u w' by
    rw[htk]at D;exact D
   have hcl:d+n<=l.n:=by
    rcases hn with h | h
    ·have:=(hS.at V E hb).len;omega
    ·omega
   have m:=hS.at V E hb
   obtain⟨arr,T,fz,hh,hsz,hfz,I⟩:=m.heap
   have hf:(Builtin.firstCells b.esz n (.slice (some a2) zS W)).run P w=_:=K.first n w hn1 rfl
   have hl:(Builtin.lenOf (.slice (some a2) zS W)).run P w = .ok zS w:=by simp[Builtin.lenOf]
   have A:=K.row.sub n
   have htl:(src.take n).length=n:=by rw[sX,FD hn1]
   have O:(B.take (n * b.esz)).length=n * b.esz:=by rw[A.len,htl]
   have hbl:=m.len
   have f:d * b.esz+(B.take (n * b.esz)).length<=arr.size:=by
    rw[O,hsz,<-mS]
    exact mA _ (by omega)
   have hes : ∀i,(b.es.take d++src.take n++b.es.drop (d+n))[i]?=if d<=i/\i<d+n then (src.take n)[i - d]? else b.es[i]?:=by
    intro i
    have l1:(b.es.take d).length=d:=by rw[sX];omega
    by_cases c1:i<d
    ·rw[if_neg (by omega),B8,nN (by omega),List.getElem?_take_of_lt c1]
    ·by_cases W:i<d+n
     ·rw[if_pos ⟨by omega,W⟩,B8,o5 (by omega),l1,nN (by omega)]
     ·rw[if_neg (by omega),o5 (by rw[oN];omega),oN,l1,htl,Fo]
      congr 1;omega
   obtain⟨h3,h4⟩:=hS.write (k' := { b with es:=b.es.take d++src.take n++b.es.drop (d+n)}) hb V E (arr:=cr arr (d * b.esz) (B.take (n * b.esz))) (T:=T) (fz:=fz) rfl rfl rfl
    (by rw[iV f];exact hsz) (by rw[iV f];exact hfz) (by simp only[oN,sX,Dv];omega)
    (by
     intro G he1
     simp only[nM]at he1
     rcases he1 with (h | h) | h
     ·exact m.cells G (zw h)
     ·exact A.Je G h
     ·exact m.cells G (Fq h))
    (by
     intro o v X
     have:=(m.frozen o v X).1
     rw[hfr]at this
     cases this)
    (by
     intro i j G x1 Q S
     rw[bA.map,if_pos N]
     simp only at Q
     rw[hes i]at Q
     rw[il f,O]
     by_cases hr:d<=i/\i<d+n
     ·rw[if_pos hr]at Q
      obtain⟨u,C,X⟩:=A.vr (i - d) j G x1 Q S
      have hlt:=(iG.1 C).1
      rw[O]at hlt
      have h5:d * b.esz<=i * b.esz:=mA _ hr.1
      have h6:(i - d) * b.esz=i * b.esz - d * b.esz:=Fv _ _ _
      rw[if_pos (by omega),show i * b.esz+j - d * b.esz=(i - d) * b.esz+j by omega]
      exact⟨u,C,A.one u (fC C),X⟩
     ·rw[if_neg hr]at Q
      have hj:j<b.esz:=by
       rw[<-m.cells G (fC Q)]
       exact(iG.1 S).1
      rw[if_neg]
      ·obtain⟨u,C,ho,X⟩:=I i j G x1 Q S
       rw[bA.map,if_pos N]at X
       exact⟨u,C,ho,X⟩
      ·intro hcon
       apply hr
       have e1':d * b.esz+n * b.esz=(d+n) * b.esz:=(mS _ _ _).symm
       constructor
       ·rcases fe i d with h | h
        ·have:(i+1) * b.esz<=d * b.esz:=mA _ h
         rw[mS]at this
         omega
        ·exact h
       ·rcases fe i (d+n)with h | h
        ·exact h
        ·have:(d+n) * b.esz<=i * b.esz:=mA _ h
         omega)
   have F:(storeCells a (B.take (n * b.esz))).run P w = .ok () (bQ w l.b (.cells (cr arr (d * b.esz) (B.take (n * b.esz))) T fz)):=by
    by_cases h0:n=0
    ·have e0:B.take (n * b.esz)=[]:=by rw[h0];simp
     rw[e0]
     have G:cr arr (d * b.esz) []=arr:=by simp[cr]
     rw[G]
     have e2:bQ w l.b (.cells arr T fz)=w:=by
      unfold bQ
      have:w.heap.setIfInBounds l.b (.cells arr T fz)=w.heap:=by
       apply Em
       intro k
       by_cases hk:l.b=k
       ·subst hk;rw[hh,Fs m.lt]
       ·rw[Bi hk]
      rw[this]
     rw[e2]
     simp[storeCells]
    ·have R:a.off=d * b.esz:=by
      rcases ha with h | h
      ·omega
      ·rw[h,m.esz]
     have:=mJ (P:=P) (d * b.esz) (B.take (n * b.esz)) 0 arr w hh (by simpa using f) hfz.1 A.one
     rw[Bc]at this
     rw[lf hsp,hbb,R]
     exact this
   refine⟨.int .i64 n,_,?_,M,ι,.v rfl,by rw[s8];exact h3,by rw[s8];exact h4,?_⟩
   ·have hm:Nat.min zS len=n:=J.symm
    simp[Builtin.copy_,ht,bu hu,run_sizeOf hz,hl,hm,hf,F,goInt]
   ·intro q lq hq
    rw[ai.mO _ _ _ (by rw[hb];rfl)]
    exact hD q lq hq
  ·cases h
 ·cases h
end
end Go.Ab
