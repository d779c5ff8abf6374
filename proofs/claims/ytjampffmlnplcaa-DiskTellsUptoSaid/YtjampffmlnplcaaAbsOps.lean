/-
  What the abstract machine's quiet operations give is what the model's give: the first part. No statement of a seat is proved here.
-/
import Derived.Lib.Overlaps
import Derived.Lib.SliceRun
import Derived.WalkSpells
import Derived.Test.YtjampffmlnplcaaAbsCore
set_option linter.unusedVariables false
set_option linter.unusedSimpArgs false
set_option linter.unusedSectionVars false
set_option linter.unnecessarySimpa false
namespace Go.Ab
section
def jJ(g:bD)(r:Ref)(a:List ax):bD:=λq=>if q.d=r.d/\q.t=r.t/\q.g=r.g/\q.k<a.length then a[q.k]? else g q
theorem gk(g:bD)(r:Ref):jJ g r []=g:=by funext q;simp[jJ]
theorem jk(g:bD)(r:Ref)(a:r.k=0)(b:ax):jJ g r [b]=fv g r b:=by
 funext q
 unfold jJ fv
 by_cases h:q=r
 ·subst h;simp[a]
 ·rw[if_neg h,if_neg]
  intro c
  apply h
  cases q;cases r
  simp_all
structure TR (M:Mem) (ι:Map) (tm:List AV) (a:Act):Prop where
 at_ : ∀t,VR M ι (cm tm t) (a.tmps.getD t undef)
theorem TR.mono{M ι tm a M' ι'}(h:TR M ι tm a)(d : ∀b o x,M b o=some x->M' b o=some x)(c : ∀r l,ι r=some l->ι' r=some l):TR M' ι' tm a:=
 ⟨λt=>(h.at_ t).mono d ι' c⟩
theorem ao{M ι tm a}(h:TR M ι tm a){x:Operand}{y:AV}(b:ak tm x=some y):VR M ι y (a.eval x):=by
 cases x with
 | tmp t=>simp[ak]at b;subst b;exact h.at_ t
 | const v=>simp only[ak]at b;exact dO b
 | global g=>simp[ak]at b
 | func f=>simp[ak]at b;subst b;exact .fn rfl rfl (λi c u d=>by simp at d) (λi c u d=>by simp at d)
theorem fN{M ι tm a}(h:TR M ι tm a){c:List Operand}{f:List AV}(e:c.mapM (ak tm)=some f):fq M ι f (c.map a.eval):=
 ⟨by simpa using cW e,λi y u j d=>by
  obtain⟨x,b,k⟩:=gV e i y j
  simp only[fU,b,Option.map_some,cz]at d
  subst d
  exact ao h k⟩
def dZ(M:Mem)(ι:Map)(g:bD)(w:World)(r:Ref)(x:AV)(b:List ax)(u:Value)(w':World):Prop:=
 ∃M' a,VR M' a x u/\cT M' a (jJ g r b) w'/\kb M ι g w M' a (jJ g r b) w' /\∀q,ι q=none->(∀k,k<b.length->q ≠ { r with k:=k})->a q=none
theorem dZ.same{M ι g w r x u}(b:cT M ι g w)(h:VR M ι x u):dZ M ι g w r x [] u w:=
 ⟨M,ι,h,by rw[gk];exact b,by rw[gk];exact kb.refl,λq a _=>a⟩
theorem cT.drew{M ι g w w'}(a:cT M ι g w)(c:w'.heap=w.heap):cT M ι g w':=
 ⟨λb o x h=>by rw[World.cell?_of_block (w:=w) (by rw[c])];exact a.mem b o x h,λr k h=>by
  obtain⟨l,e,d⟩:=a.live r k h
  exact⟨l,e,d.bm (λ_ _ _ h=>h) (λ_ _ h=>h) (by rw[c]) d.frozen⟩,a.inj⟩
def FW(ro:Option Nat):Fence := { Fence.wide with round:=ro}
def cf(P:Program)(o:Oper)(a:Act)(w:World)(S:Value->World->Prop):Prop:=
 ∀(ro:Option Nat)(K:Act->World->Prop)(Q:Exit->Act->World->Prop),(∀u w',S u w'->K (a.put o.dst u) w')->o.wpIn (FW ro) 0 P a w K Q
theorem nN{P:Program}{o:Oper}{a:Operand->Value}{w w':World}{x:Next}(ro:Option Nat)(h:(execOp a o).run P w = .ok x w')(j : ∀d,x ≠ .defer d):(Oper.semAt ro a o).run P w = .ok x w':=by
 by_cases i : ∃c,o.op = .defer c
 ·exfalso
  obtain⟨c,b⟩:=i
  simp only[execOp,b]at h
  rw[Sem.run_bind]at h
  cases f:(resolve a c o.type).run P w with
  | ok d k=>rw[f]at h;simp only[Result.andThen_ok,Sem.run_pure,Result.ok.injEq]at h;exact j _ h.1.symm
  | halt e k=>rw[f]at h;cases h
 ·rw[Oper.semAt_eq ro a o λc b=>i ⟨c,b⟩]
  exact h
theorem cf.ef{P o a w S u w'}(b:(execOp a.eval o).run P w = .ok (.value u) w')(h:S u w'):cf P o a w S:=by
 intro ro K Q c
 refine⟨λ_ _=>trivial,?_⟩
 rw[nN (x := .value u) (FW ro).round b (by intro d e;cases e)]
 exact c _ _ h
theorem cf.qX{P o a w S w'}(b:(execOp a.eval o).run P w = .ok .skip w')(h:S undef w'):cf P o a w S:=by
 intro ro K Q c
 refine⟨λ_ _=>trivial,?_⟩
 rw[nN (x := .skip) (FW ro).round b (by intro d e;cases e)]
 exact c _ _ h
theorem cf.sC{P o a w S f args w0}(b:(execOp a.eval o).run P w = .ok (.enter f args) w0)(h:Calls P f args w0 λe w' =>∃u,e = .returned u/\S u w'):cf P o a w S:=by
 intro ro K Q j
 refine⟨λ_ _=>trivial,?_⟩
 rw[nN (x := .enter f args) (FW ro).round b (by intro d e;cases e)]
 refine⟨λh=>absurd h (by simp[FW,Fence.wide]),?_⟩
 have i:CallsIn Fence.wide 0 P f args w0 λe w' =>∃u,e = .returned u/\S u w':=callsIn_wide.2 h
 have c:CallsIn (FW ro) (0 - 1) P f args w0 λe w' =>∃u,e = .returned u/\S u w':=i
 refine c.mono λe w' ⟨u,he,hS⟩=>?_
 subst he
 exact j _ _ hS
theorem cf.CY{P o a w S l f tmps assign body w0}(b:(execOp a.eval o).run P w = .ok (.round l f tmps assign body) w0)(h:RoundIn (FW none) 0 P l f tmps assign body w0 λe w' =>∃u,e = .returned u/\S u w'):cf P o a w S:=by
 intro ro K Q i
 refine⟨λ_ _=>trivial,?_⟩
 rw[nN (x := .round l f tmps assign body) (FW ro).round b (by intro d e;cases e)]
 refine⟨λh=>absurd h (by simp[FW,Fence.wide]),?_⟩
 have c:RoundIn (FW ro) (0 - 1) P l f tmps assign body w0 λe w' =>∃u,e = .returned u/\S u w':=h
 refine c.mono λe w' ⟨u,he,hS⟩=>?_
 subst he
 exact i _ _ hS
theorem dv(a:Act)(d:Option Tmp)(u:Value):(a.put d u).defers=a.defers:=by cases d<;>rfl
theorem se{P:Program}{s:Sem Value}{w w':World}{u:Value}(h:s.run P w = .ok u w'):(do pure (Next.value (<-s)):Sem Next).run P w = .ok (.value u) w':=by
 simp[h]
section
variable{P:Program}{M:Mem}{ι:Map}{g:bD}{w:World}{r:Ref}
theorem n6{x:AV}{u:Value}{b:Bool}(h:VR M ι x u)(a:qg x=some b):u = .bool b:=by
 cases h<;>simp[qg]at a
 split at a<;>simp_all
theorem mj{x:AV}{u:Value}{n:Int}(h:VR M ι x u)(a:Ab.kT x=some n) : ∃k,u = .int k n:=by
 cases h<;>simp[Ab.kT]at a
 split at a<;>simp_all
theorem C3(s:cT M ι g w)(m:r.k=0)(D:ι r=none){e:TypeId}{n:Nat}{x:AV}{u:Value}(t:VR M ι x u)(z:x.cells.length=n)(h:x.cells.all AV.one=true)(p:0<n) :
 ∃w',(Instr.box e u).run P w = .ok (.pointer (some ⟨w.heap.size,0,none⟩)) w'/\dZ M ι g w r (.ptr r 0 0) [⟨n,[x],false,false⟩] (.pointer (some ⟨w.heap.size,0,none⟩)) w':=by
 have a:=t.cells
 have f:u.cells.size=n:=by have:=a.1;simp at this;omega
 obtain⟨v,A⟩:=s.alloc (q:=r) D (w':=w.alloc (.cells u.cells e)) (arr:=u.cells) (T:=e) (fz:=(0,0)) ⟨rfl,rfl,rfl,rfl⟩ ⟨n,[x],false,false⟩ p 1 (by simpa using f) (oZ.zero _ _) (by simp) (by simp[z])
  (by
   intro i j E y c b
   cases i with
   | succ i=>simp at c
   | zero=>
    simp at c
    subst c
    have o:j<u.cells.size:=by have:=(bL.1 b).1;omega
    refine⟨u.cells[j],by simp,?_,?_⟩
    ·have B:=a.2 j y u.cells[j] b (by simp[o])
     exact B.one (by simp only[dh]at h;exact h y (da b))
    ·simpa [ax.map] using a.2 j y u.cells[j] b (by simp[o]))
 refine⟨w.alloc (.cells u.cells e),by simp[Instr.box,newVar,newRow],M,_,?_,by rw[jk _ _ m];exact v,by rw[jk _ _ m];exact A,?_⟩
 ·have:=VR.ptr (M:=M) (ι:=dm ι r ⟨w.heap.size,n,1⟩) (r:=r) (i:=0) (j:=0) (l:=⟨w.heap.size,n,1⟩) (by simp[dm]) p
  simpa using this
 ·intro q d C
  have:q≠r:=by intro e;exact C 0 (by simp) (by rw[e];cases r;simp_all)
  simpa [dm,this] using d
theorem Bh(c:cT M ι g w)(m:r.k=0)(l:ι r=none){e:TypeId}{x:AV}{b:List ax}(h:mG P r e=some (x,b)) :
 ∃u w',(Instr.alloc e true (.tuple #[])).run P w = .ok u w'/\dZ M ι g w r x b u w':=by
 unfold mG at h
 split at h
 ·rename_i z n i p
  split at h
  ·rename_i a
   cases h
   obtain⟨u,o,d⟩:=mc i w
   obtain⟨w',f,j⟩:=C3 (P:=P) (e:=e) c m l (dO d) a.1 a.2.1 a.2.2
   refine⟨_,w',?_,j⟩
   have:(Instr.alloc e true (.tuple #[])).run P w=(Instr.box e u).run P w:=by simp[Instr.alloc,o,Instr.box]
   rw[this];exact f
  ·cases h
 ·cases h
theorem EZ(d:cT M ι g w)(o:r.k=0)(m:ι r=none){e:TypeId}{y x:AV}{b:Value}(f:VR M ι y b){c:List ax}(h:tz P r e (some y)=some (x,c)) :
 ∃u w',(Instr.box e b).run P w = .ok u w'/\dZ M ι g w r x c u w':=by
 unfold tz at h
 split at h
 ·rename_i p n j q
  cases j
  split at h
  ·rename_i a
   cases h
   obtain⟨w',i,l⟩:=C3 (P:=P) (e:=e) d o m f a.1 a.2.1 a.2.2
   exact⟨_,w',i,l⟩
  ·cases h
 ·cases h
theorem CK(f:cT M ι g w){t:TypeId}{y x:AV}{l:Value}(k:VR M ι y l){m:List ax}(h:jU P g t (some y)=some (x,m)) :
 m=[] /\∃u,(Instr.loadAt t l).run P w = .ok u w/\VR M ι x u:=by
 unfold jU at h
 split at h
 ·rename_i r' i j q n c d e
  cases c
  split at h
  ·rename_i b p
   simp only[fa,aC]at h
   obtain⟨o,a,c⟩:=h
   cases c
   exact⟨rfl,Ap d e f k p a⟩
  ·cases h
 ·rename_i esz es i j q n c d e
  cases c
  simp only[fa,aC]at h
  obtain⟨o,a,c⟩:=h
  cases c
  exact⟨rfl,Dr d e f.mem k a⟩
 ·cases h
theorem Al{t:TypeId}{cs:List AV}{c:Array Value}{a:Nat}{x:AV}(f:fq M ι cs c.toList)(h:vC P t cs a=some x) : ∃u,(part t c a).run P w = .ok u w/\VR M ι x u:=by
 unfold vC at h
 split at h
 ·rename_i n d k
  split at h
  ·rename_i i
   cases h
   refine⟨.agg (c.extract a (a+n)),by simp[part,nP d,aX k],VR.iE.2 ?_⟩
   have:=(f.drop a).take n
   have e:(c.extract a (a+n)).toList=(c.toList.drop a).take n:=by
    rw[Array.toList_extract,List.extract_eq_take_drop,yB]
   rw[e]
   exact this
  ·cases h
 ·rename_i d
  have j:=(bL.1 h).1
  have b:a<c.size:=by have:=f.1;simp at this;omega
  refine⟨c[a],by simp[part,nP d,ey b],f.2 a x _ h (by simp[b])⟩
 ·cases h
theorem VR.AO{cs:List AV}{u:Value}(h:VR M ι (.agg cs) u) : ∃a,u = .agg a/\fq M ι cs a.toList:=by
 cases h with | agg c b=>exact⟨_,rfl,VR.iE.1 (.agg c b)⟩
theorem ud{t:TypeId}{f b:Nat}{i:TypeId}(h:vn P t f=some (b,i)) : ∃c a,P.underlying t=some (.struct c)/\c[f]?=some a/\a.offset=b/\a.type=i:=by
 unfold vn at h
 split at h
 ·rename_i c e
  simp only[aC]at h
  obtain⟨a,d,he⟩:=h
  cases he
  exact⟨c,a,e,d,rfl,rfl⟩
 ·cases h
theorem Bf{t:TypeId}{f:Nat}{y x:AV}{d:Value}(l:VR M ι y d){e:List ax}(h:pZ P t (some y) f=some (x,e)) :
 e=[] /\∃u,(Instr.field t d f).run P w = .ok u w/\VR M ι x u:=by
 unfold pZ at h
 split at h
 ·rename_i i s cs n a
  cases a
  simp only[fa,aC]at h
  obtain⟨v,c,a⟩:=h
  cases a
  obtain⟨q,rfl,b⟩:=l.AO
  obtain⟨p,fd,j,k,rfl,rfl⟩:=ud n
  obtain⟨u,o,m⟩:=Al (w:=w) b c
  exact⟨rfl,u,by simp[Instr.field,az j,k,asAgg,o],m⟩
 ·cases h
theorem sU{t:TypeId}{f b s:Nat}(h:bT P t f=some (b,s)) : ∃c a,P.underlying t=some (.struct c)/\c[f]?=some a/\a.offset=b/\ay P a.type=some s:=by
 unfold bT at h
 split at h
 ·rename_i d o i
  simp only[aC]at h
  obtain⟨n,k,he⟩:=h
  cases he
  obtain⟨c,a,e,j,l,m⟩:=ud i
  exact⟨c,a,e,j,l,m ▸ k⟩
 ·cases h
theorem tx{t:TypeId}{f:Nat}{y x:AV}{c:Value}(k:VR M ι y c){m:List ax}(h:du P t (some y) f=some (x,m)) :
 m=[] /\∃u,(Instr.fieldAt t c f).run P w = .ok u w/\VR M ι x u:=by
 unfold du at h
 split at h
 ·rename_i q s B
  obtain⟨E,fd,v,z,rfl,D⟩:=sU B
  split at h
  ·rename_i F
   have p : ∀(b o:Nat),c = .pointer (some ⟨b,o,none⟩)->(Instr.fieldAt t c f).run P w = .ok (.pointer (some ⟨b,o+fd.offset,none⟩)) w:=by
    intro b o e
    subst e
    simp[Instr.fieldAt,az v,z,Instr.sureAddr,fieldPlace,aX D,show s≠0 by omega,cY]
   split at h
   ·rename_i r' i j a
    cases a
    cases h
    cases k with | ptr C d=>
    rename_i l
    exact⟨rfl,_,p _ _ rfl,by rw[rz];exact .ptr C d⟩
   ·rename_i n es i j a
    cases a
    cases h
    cases k with | iptr cell hm a A=>
    rename_i b o
    exact⟨rfl,_,p _ _ rfl,by rw[show o+(i * n+j)+fd.offset=o+(i * n+(j+fd.offset)) by omega];exact .iptr cell hm a A⟩
   ·cases h
  ·cases h
 ·cases h
theorem cU{t e:TypeId}(h:bg P t=some e):P.underlying t=some (.slice e):=by
 unfold bg at h
 split at h
 ·cases h;assumption
 ·cases h
theorem qT{t e:TypeId}{n:Nat}(h:n8 P t=some (n,e)):P.underlying t=some (.array n e):=by
 unfold n8 at h
 split at h
 ·cases h;assumption
 ·cases h
theorem tw(W:cT M ι g w){t:TypeId}{y z x:AV}{O U:Value}(I:VR M ι y O)(hz:VR M ι z U){V:List ax}(h:bj P g t (some y) (some z)=some (x,V)) :
 V=[] /\∃u,(Instr.indexAt t O U).run P w = .ok u w/\VR M ι x u:=by
 unfold bj at h
 simp only[cQ]at h
 split at h
 ·rename_i k hk
  obtain⟨ki,rfl⟩:=mj hz hk
  split at h
  ·rename_i e Q
   have K:=cU Q
   split at h
   ·rename_i esz es cap s d B
    cases d
    split at h
    ·rename_i v
     obtain⟨J,C,rfl⟩:=v
     cases h
     cases I with | cE cell f L G hm S R=>
     rename_i a c
     refine⟨rfl,.pointer (some (a.add (k.toNat * s))),?_,?_⟩
     ·simp[Instr.indexAt,asIntOf,az K,J,C,aX B]
     ·have f:=f.resolve_right (by intro e;subst e;simp at C;omega)
      rw[eu f,cY]
      have:=VR.iptr (M:=M) (ι:=ι) (i:=k.toNat) (j:=0) (b:=a.block) (o:=a.off) cell hm S R
      simpa using this
    ·cases h
   ·rename_i r' m len cap s d B
    cases d
    split at h
    ·rename_i b T
     split at h
     ·rename_i v
      obtain⟨J,C,D⟩:=v
      cases h
      cases I with | aD H E f N L Z G q=>
      rename_i l a c
      obtain⟨Y,A,F⟩:=W.live r' b T
      rw[H]at A;cases A
      refine⟨rfl,.pointer (some (a.add (k.toNat * s))),?_,?_⟩
      ·simp[Instr.indexAt,asIntOf,az K,J,C,aX B]
      ·have p:a.off=m * l.esz:=by
        rcases N with h | h
        ·omega
        ·exact h
       rw[eu f,cY,E,p,D,<-F.esz,<-fC]
       have:=VR.ptr (M:=M) (ι:=ι) (i:=m+k.toNat) (j:=0) H q
       simpa using this
     ·cases h
    ·cases h
   ·rename_i r' m len cap s d B
    cases d
    split at h
    ·rename_i b T
     split at h
     ·rename_i v
      obtain⟨J,C,D⟩:=v
      cases h
      cases I with | dsl H E f N L Z G q=>
      rename_i l a c
      obtain⟨Y,A,F⟩:=W.live r' b T
      rw[H]at A;cases A
      refine⟨rfl,.pointer (some (a.add (k.toNat * s))),?_,?_⟩
      ·simp[Instr.indexAt,asIntOf,az K,J,C,aX B]
      ·have p:a.off=m * l.esz:=by
        rcases N with h | h
        ·omega
        ·exact h
       rw[eu f,cY,E,p,D,<-F.esz,<-fC]
       have:=VR.ptr (M:=M) (ι:=ι) (i:=m+k.toNat) (j:=0) H q
       simpa using this
     ·cases h
    ·cases h
   ·cases h
  ·split at h
   ·rename_i n e N
    have K:=qT N
    have X : ∀(b o s:Nat),O = .pointer (some ⟨b,o,none⟩)->ay P e=some s->0<=k->k<n->(Instr.indexAt t O (.int ki k)).run P w = .ok (.pointer (some ⟨b,o+k.toNat * s,none⟩)) w:=by
     intro b o s e C h2 h3
     subst e
     simp[Instr.indexAt,asIntOf,az K,Instr.sureAddr,h2,h3,aX C,cY]
    split at h
    ·rename_i r' i j s d B
     cases d
     split at h
     ·rename_i v
      cases h
      cases I with | ptr hl q=>
      exact⟨rfl,_,X _ _ _ rfl B v.1 v.2,by rw[rz];exact .ptr hl q⟩
     ·cases h
    ·rename_i esz es i j s d B
     cases d
     split at h
     ·rename_i v
      cases h
      cases I with | iptr cell hm Q R=>
      rename_i b o
      exact⟨rfl,_,X _ _ _ rfl B v.1 v.2,by rw[show o+(i * esz+j)+k.toNat * s=o+(i * esz+(j+k.toNat * s)) by omega];exact .iptr cell hm Q R⟩
     ·cases h
    ·cases h
   ·cases h
 ·cases h
theorem w8{y x:AV}{d:Value}{i:Nat}(f:VR M ι y d){e:List ax}(h:jV (some y) i=some (x,e)) :
 e=[] /\∃u,(Instr.extract d i).run P w = .ok u w/\VR M ι x u:=by
 unfold jV at h
 split at h
 ·rename_i n c
  cases c
  simp only[fa,aC]at h
  obtain⟨l,a,c⟩:=h
  cases c
  cases f with | tup k m j=>
  rename_i us
  have b:i<us.size:=by have:=(bL.1 a).1;omega
  exact⟨rfl,us[i],by simp[Instr.extract,ey b],j i _ _ a (ey b)⟩
 ·cases h
theorem Be{t:TypeId}{y x:AV}{a:Value}(f:VR M ι y a){c:List ax}(h:pY P t (some y)=some (x,c)) :
 c=[] /\∃u,(Instr.makeInterface t a).run P w = .ok u w/\VR M ι x u:=by
 unfold pY at h
 split at h
 ·cases h
 ·rename_i d b e
  simp at h
  obtain⟨rfl,rfl⟩:=h
  refine⟨rfl,.iface t a,?_,.ifc f⟩
  simp only[Instr.makeInterface,Sem.run_bind,az e,Result.andThen_ok]
  cases d<;>first | rfl | (exact absurd e (b _))
 ·cases h
theorem y8{st a:TypeId}{ok:Bool}{y x:AV}{p:Value}(n:VR M ι y p){D:List ax}(h:nS P (some y) a ok=some (x,D)) :
 D=[] /\∃u,(Instr.typeAssert p st a ok).run P w = .ok u w/\VR M ι x u:=by
 have f : ∀d,P.underlying a=some d->(∀E,d ≠ .interface E) ->∀z,ep P a=some z->ok=true->(p = .nilIface \/∃t v,p = .iface t v/\t≠a) ->
  ∃u,(Instr.typeAssert p st a ok).run P w = .ok u w/\VR M ι (.tup [z,.v (.bool false)]) u:=by
  intro d l b z o e k
  subst e
  obtain⟨v,C,A⟩:=mc o w
  refine⟨.tuple #[v,.bool false],?_,?_⟩
  ·simp only[Instr.typeAssert,Sem.run_bind,az l,Result.andThen_ok]
   rcases k with rfl | ⟨t,x,rfl,m⟩
   ·cases d<;>first | (simp[C];done) | exact absurd rfl (b _)
   ·cases d<;>first | (simp[C,m];done) | exact absurd rfl (b _)
  ·refine .tup (by simp) rfl λi c u j k=>?_
   match i with
   | 0=>simp at j k;subst j;subst k;exact dO A
   | 1=>simp at j k;subst j;subst k;exact .v rfl
   | i+2=>simp at j
 unfold nS at h
 split at h
 ·cases h
 ·rename_i d t F b l s
  cases s
  cases n with | ifc n=>
  rename_i B
  split at h
  ·rename_i q
   subst q
   simp at h
   obtain⟨rfl,rfl⟩:=h
   refine⟨rfl,(if ok then .tuple #[B,.bool true] else B),?_,?_⟩
   ·simp only[Instr.typeAssert,Sem.run_bind,az l,Result.andThen_ok]
    cases d<;>first | (simp;done) | exact absurd l (by intro h;exact b _ h)
   ·cases ok with
    | false=>simpa using n
    | true=>
     simp only[if_true]
     refine .tup (by simp) rfl λi c u j k=>?_
     match i with
     | 0=>simp at j k;subst j;subst k;exact n
     | 1=>simp at j k;subst j;subst k;exact .v rfl
     | i+2=>simp at j
  ·rename_i q
   split at h
   ·rename_i e
    simp at h
    obtain⟨z,o,rfl,rfl⟩:=h
    exact⟨rfl,f d l b z o e (.inr ⟨t,B,rfl,q⟩)⟩
   ·cases h
 ·rename_i d b l s
  cases s
  split at h
  ·rename_i e
   simp at h
   obtain⟨z,o,rfl,rfl⟩:=h
   cases n
   exact⟨rfl,f d l b z o e (.inl rfl)⟩
  ·cases h
 ·cases h
end
end
section
section
variable{P:Program}{M:Mem}{ι:Map}{g:bD}{w:World}{r:Ref}
theorem xH(a:Nat) : ∀(us:List Value)(k:Nat)(cells:Array Value),a+k+us.length<=cells.size ->
 (us.zipIdx k).foldl (λcs (p:Value × Nat)=>cs.setIfInBounds (a+p.2) p.1) cells=aZ cells (a+k) us:=by
 intro us
 induction us with
 | nil=>intro k cells h;simp[aZ]
 | cons u us c=>
  intro k cells h
  simp only[kC]at h
  rw[List.zipIdx_cons,lg,c (k+1) _ (by simp;omega)]
  apply ql
  intro i
  rw[dB (by simp;omega),dB (by simp;omega)]
  by_cases d:i=a+k
  ·subst d
   rw[if_neg (by omega),if_pos ⟨a7 _,by simp⟩]
   simp[show a+k<cells.size by omega]
  ·by_cases b:a+(k+1)<=i/\i<a+(k+1)+us.length
   ·rw[if_pos b,if_pos (by simp;omega)]
    rw[show i - (a+k)=(i - (a+(k+1)))+1 by omega]
    simp
   ·rw[if_neg b,if_neg (by simp;omega)]
    rw[ou (by omega)]
theorem fq.patch{cs new:List AV}{us a:List Value}{j:Nat}(h:fq M ι cs us)(b:fq M ι new a):fq M ι (patch cs j new) (us.take j++a++us.drop (j+a.length)):=by
 unfold Ab.patch
 rw[<-b.1]
 exact((h.take j).append b).append (h.drop _)
theorem AB(d:Nat->Option (Nat × Nat)) : ∀(ps:List (Nat × AV)) (qs:List (Nat × Value)) (cs b:List AV) (c:Array Value),kZ d cs ps=some b->fq M ι cs c.toList ->
 ps.length=qs.length->(∀(i:Nat) p q,ps[i]?=some p->qs[i]?=some q->p.1=q.1/\VR M ι p.2 q.2) ->
 ∃e,Instr.fill d c qs=some e/\fq M ι b e.toList:=by
 intro ps
 induction ps with
 | nil=>
  intro qs cs b c h o s hp
  simp[kZ]at h
  subst h
  cases qs with
  | nil=>exact⟨c,rfl,o⟩
  | cons q qs=>simp at s
 | cons p ps C=>
  intro qs cs b c h o s hp
  cases qs with
  | nil=>simp at s
  | cons q qs=>
   obtain⟨i,v⟩:=p
   obtain⟨J,u⟩:=q
   obtain⟨A,B⟩:=hp 0 _ _ rfl rfl
   simp only at A B
   subst A
   simp only[kZ]at h
   split at h
   ·cases h
   ·rename_i a n z
    split at h
    ·rename_i H
     obtain⟨G,hle⟩:=H
     have m:=B.cells
     have D:u.cells.size=n:=by have:=m.1;simp at this;omega
     have F:c.size=cs.length:=by have:=o.1;simp at this;omega
     have f:=xH a u.cells.toList 0 c (by simp;omega)
     have l:u.cells.zipIdx.foldl (λcs (p:Value × Nat)=>cs.setIfInBounds (a+p.2) p.1) c=aZ c a u.cells.toList:=by
      rw[oc]at f
      rw[<-f,<-yv,Array.toList_zipIdx]
     have x:fq M ι (patch cs a v.cells) (aZ c a u.cells.toList).toList:=by
      have:=o.patch (j:=a) m
      simpa [aZ] using this
     obtain⟨e,E,I⟩:=C qs (patch cs a v.cells) b (aZ c a u.cells.toList) h x (by simpa using s) (λk p q t y=>hp (k+1) p q t y)
     refine⟨e,?_,I⟩
     simp only[Instr.fill,z]
     rw[if_neg (by simp;omega)]
     rw[<-E,<-l]
    ·cases h
theorem jf{tm:List AV}{a:Act}(h:TR M ι tm a){ps:List (Nat × Operand)}{c:List (Nat × AV)}(b:cX tm ps=some c) :
 c.length=(ps.map λp=>(p.1,a.eval p.2)).length /\∀(i:Nat) p q,c[i]?=some p->(ps.map λp=>(p.1,a.eval p.2))[i]?=some q->p.1=q.1/\VR M ι p.2 q.2:=by
 unfold cX at b
 refine⟨by simpa using cW b,λi p q hp e=>?_⟩
 obtain⟨⟨k,o⟩,f,d⟩:=gV b i p hp
 simp only[aC]at d
 obtain⟨y,j,rfl⟩:=d
 simp only[fU,f,Option.map_some,cz]at e
 subst e
 exact⟨rfl,ao h j⟩
theorem jD{t:TypeId}{z:AV}(h:ep P t=some z) : ∃i u,P.info? t=some i/\i.zero=some u/\ofValue u=some z:=by
 simp only[ep,dL]at h
 obtain⟨u,⟨i,b,c⟩,a⟩:=h
 exact⟨i,u,b,c,a⟩
theorem Bg{t:TypeId}{j:List (Nat × AV)}{qs:Array (Nat × Value)}{x:AV}{C:List ax}(B:j.length=qs.toList.length)
 (hp : ∀(i:Nat) p q,j[i]?=some p->qs.toList[i]?=some q->p.1=q.1/\VR M ι p.2 q.2) (h:iG P t (some j)=some (x,C)) :
 C=[] /\∃u,(Instr.build t qs).run P w = .ok u w/\VR M ι x u:=by
 unfold iG at h
 split at h
 ·rename_i z D F d
  cases d
  obtain⟨it,u,l,f,G⟩:=jD F
  obtain⟨A,rfl,k⟩:=(dO (M:=M) (ι:=ι) G).AO
  split at h
  ·rename_i n e H
   split at h
   ·rename_i s E
    simp only[aC]at h
    obtain⟨cs,c,d⟩:=h
    cases d
    obtain⟨J,y,rfl⟩:=kK E
    obtain⟨a,m,o⟩:=AB (M:=M) (ι:=ι) _ j qs.toList z cs A c k B hp
    refine⟨rfl,.agg a,run_build w t qs a ?_,VR.iE.2 o⟩
    simp[Program.built,l,qT H,f,y,Value.cells,m]
   ·cases h
  ·split at h
   ·rename_i ps b
    simp only[aC]at h
    obtain⟨cs,c,d⟩:=h
    cases d
    unfold kO at b
    split at b
    ·rename_i I v
     obtain⟨a,m,o⟩:=AB (M:=M) (ι:=ι) _ j qs.toList z cs A c k B hp
     refine⟨rfl,.agg a,run_build w t qs a ?_,VR.iE.2 o⟩
     simp only[Program.built,l,v,f,b,Value.cells]
     rw[<-m]
     congr 1
     funext i
     simp
    ·cases b
   ·cases h
 ·cases h
theorem E0{b:BinOp}{t:TypeId}{o l:Operand}{x y z:AV}{u v:Value}(j:VR M ι x u)(q:VR M ι y v){A:List ax}(h:cK P b t o l (some x) (some y)=some (z,A)) :
 A=[] /\∃r,(do eqGuard b t o l u v;binOp b t u v:Sem Value).run P w = .ok r w/\VR M ι z r:=by
 simp only[cK]at h
 ·split at h
  ·rename_i s
   have key:(∃a n c,u = .slice (some a) n c/\v = .slice none 0 0)\/(∃a n c,v = .slice (some a) n c/\u = .slice none 0 0):=by
    simp only[iK,bR]at s
    rcases s with ⟨k,f⟩ | ⟨k,f⟩
    ·left
     have:v = .slice none 0 0:=by
      cases q<;>simp[gE]at f
      split at f<;>simp_all
     cases j<;>simp[zk]at k
     ·exact⟨_,_,_,rfl,this⟩
     ·exact⟨_,_,_,rfl,this⟩
     ·exact⟨_,_,_,rfl,this⟩
    ·right
     have:u = .slice none 0 0:=by
      cases j<;>simp[gE]at f
      split at f<;>simp_all
     cases q<;>simp[zk]at k
     ·exact⟨_,_,_,rfl,this⟩
     ·exact⟨_,_,_,rfl,this⟩
     ·exact⟨_,_,_,rfl,this⟩
   have d : ∀b,(eqGuard b t o l u v).run P w = .ok () w:=by
    intro b
    rcases key with ⟨a,n,c,rfl,rfl⟩ | ⟨a,n,c,rfl,rfl⟩<;>(unfold eqGuard;cases b<;>simp)
   split at h
   ·rename_i e i
    simp at h;obtain⟨rfl,rfl⟩:=h
    refine⟨rfl,.bool false,?_,.v rfl⟩
    simp only[Sem.run_bind,d,Result.andThen_ok]
    rcases key with ⟨a,n,c,rfl,rfl⟩ | ⟨a,n,c,rfl,rfl⟩
    ·rw[Lib.run_eql_slice_nil w t e (some a) n c 0 0 i];rfl
    ·rw[run_eql_nil_slice w t e (some a) n c 0 0 i];rfl
   ·rename_i e i
    simp at h;obtain⟨rfl,rfl⟩:=h
    refine⟨rfl,.bool true,?_,.v rfl⟩
    simp only[Sem.run_bind,d,Result.andThen_ok]
    rcases key with ⟨a,n,c,rfl,rfl⟩ | ⟨a,n,c,rfl,rfl⟩
    ·rw[run_neq_slice_nil_any w t e (some a) n c 0 0 i];rfl
    ·rw[run_neq_nil_slice w t e (some a) n c 0 0 i];rfl
   ·cases h
  ·split at h
   ·rename_i G H m p
    simp only[fa,aC,dL]at h
    obtain⟨F,⟨r,B,D⟩,he⟩:=h
    cases he
    have C:=kL j m
    have E:=kL q p
    subst C;subst E
    exact⟨rfl,r,gC B w,gD D⟩
   ·cases h
theorem GO{b:UnOp}{x z:AV}{u:Value}(c:VR M ι x u){a:List ax}(h:ET P b (some x)=some (z,a)) :
 a=[] /\∃r,(Op.unary b u).run P w = .ok r w/\VR M ι z r:=by
 simp only[ET,fa,aC,dL,cz]at h
 obtain⟨j,⟨r,⟨v,⟨i,rfl,d⟩,f⟩,e⟩,he⟩:=h
 cases he
 have:=yM c d
 subst this
 exact⟨rfl,r,gC f w,gD e⟩
theorem Ez{c:List AV}{us e:List Value}(d:fq M ι c us)(h:c.mapM HN=some e):us=e:=by
 apply uY
 intro i
 rcases cr i us.length with a | a
 ·have b:i<c.length:=by rw[d.1];exact a
  obtain⟨v,f,j⟩:=fl h i c[i] (bG b)
  rw[f,bG a,yM (d.2 i _ _ (bG b) (bG a)) j]
 ·have:=cW h
  rw[lX a,lX (by rw[this,d.1];exact a)]
theorem uB{f:Value->Value->Sem Value}{b:List AV}{us:List Value}{z:AV}(d:fq M ι b us)(h:vG f P b=some z) :
 ∃u a,us=u :: a /\∃r,(a.foldlM f u).run P w = .ok r w/\VR M ι z r:=by
 unfold vG at h
 split at h
 ·rename_i u a c
  have:=Ez d c
  subst this
  simp only[dL]at h
  obtain⟨r,i,e⟩:=h
  exact⟨u,a,rfl,r,gC i w,gD e⟩
 ·cases h
theorem jZ{t:TypeId}(h:isStr P t=true):P.underlying t=some .string:=by
 unfold isStr at h
 split at h
 ·assumption
 ·cases h
theorem ja{t:TypeId}(h:bp P t=true) : ∃e,P.underlying t=some (.slice e)/\P.underlying e=some (.int .u8):=by
 unfold bp at h
 split at h
 ·rename_i e a
  split at h
  ·exact⟨e,a,by assumption⟩
  ·cases h
 ·cases h
theorem Dl{t:TypeId}(h:isInt P t=true) : ∃k,P.underlying t=some (.int k):=by
 unfold isInt at h
 split at h
 ·exact⟨_,by assumption⟩
 ·cases h
end
end
section
section
variable{P:Program}{M:Mem}{ι:Map}{g:bD}{w:World}{r:Ref}
structure Src (P:Program) (M:Mem) (w:World) (u:Value) (z:Nat) (es:List AV) (us:List Value):Prop where
 len:us.length=es.length * z
 tG : ∀e∈es,e.cells.length=z
 one : ∀x∈us,x.oneCell'=true
 vr : ∀(i j:Nat) e x,es[i]?=some e->e.cells[j]?=some x ->∃u,us[i * z+j]?=some u/\VR M bB x u
 lenOf : ∀w':World,(Builtin.lenOf u).run P w' = .ok es.length w'
 first : ∀(n:Nat)(w':World),n<=es.length->w'.heap=w.heap->(Builtin.firstCells z n u).run P w' = .ok (us.take (n * z)).toArray w'
theorem A8{es:List AV}{z:Nat}(h : ∀e∈es,e.cells.length=z)(cell:Nat->Nat->Value) :
 ∃us:List Value,us.length=es.length * z /\∀i j,i<es.length->j<z->us[i * z+j]?=some (cell i j):=by
 refine⟨(List.range (es.length * z)).map λk=>cell (k / z) (k % z),by simp,?_⟩
 intro i j b a
 have c:0<z:=by omega
 have:=p7 b a
 rw[fU,rg this]
 simp only[Option.map_some,cz]
 rw[Nat.mul_comm i z,Nat.mul_add_div c,Nat.div_eq_of_lt a,Nat.mul_add_mod,Nat.mod_eq_of_lt a,oc]
theorem Ad{es:List AV}{z:Nat}(b : ∀e∈es,e.cells.length=z)(H:0<z\/es=[]){a:Addr}{c:Nat}(B:a.spot=none\/es=[])(cell:Nat->Nat->Value)
 (C : ∀i j,i<es.length->j<z->w.cell? ⟨a.block,a.off+(i * z+j),none⟩=some (cell i j)/\(cell i j).oneCell'=true)
 (G : ∀(i j:Nat) e x,es[i]?=some e->e.cells[j]?=some x->VR M bB x (cell i j)) : ∃us,Src P M w (.slice (some a) es.length c) z es us:=by
 obtain⟨us,s,u⟩:=A8 b cell
 have f : ∀k,k<us.length->0<z/\k / z<es.length/\k % z<z/\k / z * z+k % z=k:=by
  intro k m
  rw[s]at m
  have d:0<z:=by
   rcases H with h | h
   ·exact h
   ·subst h;simp at m
  exact⟨d,(Nat.div_lt_iff_lt_mul d).2 m,Nat.mod_lt _ d,by rw[Nat.mul_comm];exact Nat.div_add_mod k z⟩
 refine⟨us,s,b,?_,?_,λw'=>by simp[Builtin.lenOf],?_⟩
 ·intro x q
  obtain⟨k,m,y⟩:=il q
  obtain⟨d,o,p,e⟩:=f k m
  have:=u _ _ o p
  rw[e,bG m,y]at this
  injection this with this
  rw[this]
  exact(C _ _ o p).2
 ·intro i j e x t q
  have D:=(bL.1 t).1
  have l:j<z:=by
   rw[<-b e (da t)]
   exact(bL.1 q).1
  exact⟨cell i j,u i j D l,G i j e x t q⟩
 ·intro n w' E A
  have F:n * z<=us.length:=by rw[s];exact fV _ E
  refine run_firstCells_some (P:=P) w' z n a es.length c (us.take (n * z)) (by simp;omega) ?_
  intro j v l
  rw[nh]at l
  split at l
  ·rename_i I
   obtain⟨d,o,p,e⟩:=f j (by omega)
   have:=u _ _ o p
   rw[e,l]at this
   cases this
   have B:=B.resolve_right (by intro e;subst e;simp at o)
   rw[eu B,cY]
   have:=(C _ _ o p).1
   rw[e]at this
   rw[World.cell?_of_block (w:=w) (by rw[A])]
   exact this
  ·cases l
theorem getElems(es:List AV)(a len:Nat)(c:a+len<=es.length):((es.drop a).take len).length=len /\∀i,i<len->((es.drop a).take len)[i]?=es[a+i]? :=
 ⟨by simp;omega,λi b=>by rw[nh,if_pos b,oo]⟩
theorem gI(L:cT M ι g w){x:AV}{u:Value}(k:VR M ι x u){z:Nat}{es:List AV}(I:0<z)(h:aV g x=some (z,es)) : ∃us,Src P M w u z es us:=by
 unfold aV at h
 split at h
 ·rename_i s
  cases h
  cases k
  refine⟨s.data.toList.map λb => .int .u8 b.toNat,?_,?_,?_,?_,?_,?_⟩
  ·simp
  ·intro e f
   simp only[gy]at f
   obtain⟨b,_,rfl⟩:=f
   rfl
  ·intro x k
   simp only[gy]at k
   obtain⟨b,_,rfl⟩:=k
   rfl
  ·intro i j e x f k
   simp only[fU,aC]at f
   obtain⟨b,G,rfl⟩:=f
   cases j with
   | succ j=>simp[AV.cells]at k
   | zero=>
    simp[AV.cells]at k
    subst k
    exact⟨.int .u8 b.toNat,by simp[G],.v rfl⟩
  ·intro w'
   simp only[Builtin.lenOf,Sem.run_pure,pT,oq]
   rfl
  ·intro n w' O Q
   simp only[Builtin.firstCells,Nat.mul_one,Sem.run_pure]
   congr 1
   apply rl
   simp only[Array.toList_map,ByteArray.data_extract,Array.toList_extract]
   rw[List.extract_eq_take_drop]
   simp[List.map_take]
 ·rename_i esz es' cap
  cases h
  cases k with | cE cell E J S hm f R=>
  rename_i a c
  exact Ad f (.inl I) E cell (λi j o q=>⟨L.mem _ _ _ (hm i j o q).1,(hm i j o q).2⟩) R
 ·rename_i r' d len cap
  split at h
  ·rename_i b G
   split at h
   ·rename_i J
    cases h
    obtain⟨t,hlen⟩:=J
    cases k with | aD N H E X W O S D=>
    rename_i l a c
    have m:=L.at N D G
    obtain⟨B,C⟩:=getElems b.es d len hlen
    have p:0<len->a.off=d * b.esz:=by
     intro Y
     rcases X with h | h
     ·omega
     ·rw[h,m.esz]
    have key : ∀i j,i<len->j<b.esz ->∃u,w.cell? ⟨a.block,a.off+(i * b.esz+j),none⟩=some u/\u.oneCell'=true /\∀e x,b.es[d+i]?=some e->e.cells[j]?=some x->VR M bB x u:=by
     intro i j o q
     have f:b.es[d+i]?=some b.es[d+i]:=bG (by omega)
     have T:=m.cells b.es[d+i] (eE _)
     obtain⟨u,V,B,C⟩:=m.cell (d+i) f j _ (bG (by omega:j<b.es[d+i].cells.length))
     refine⟨u,?_,B,?_⟩
     ·rw[p (by omega),H,show d * b.esz+(i * b.esz+j)=(d+i) * b.esz+j by rw[fC];omega]
      exact V
     ·intro e x A y
      rw[f]at A;cases A
      rw[bG (by omega:j<b.es[d+i].cells.length)]at y;cases y
      rw[ax.map,if_pos t]at C
      exact C
    let cell:Nat->Nat->Value:=λi j=>(w.cell? ⟨a.block,a.off+(i * b.esz+j),none⟩).getD undef
    have:=Ad (P:=P) (M:=M) (w:=w) (es:=(b.es.drop d).take len) (z:=b.esz) (a:=a) (c:=c)
     (by intro e f;exact m.cells e (pa (m0 f))) (.inl I) (.inl E) cell
     (by
      intro i j o q
      rw[B]at o
      obtain⟨u,F,K,_⟩:=key i j o q
      simp[cell,F,K])
     (by
      intro i j e x f k
      have o:i<len:=by have:=(bL.1 f).1;omega
      rw[C i o]at f
      have q:j<b.esz:=by
       rw[<-m.cells e (da f)]
       exact(bL.1 k).1
      obtain⟨u,F,K,U⟩:=key i j o q
      simp only[cell,F,bQ]
      exact U e x f k)
    rw[B]at this
    exact this
   ·cases h
  ·cases h
 ·cases h
inductive pP:Option Value->Option Int->Prop
 | none:pP none none
 | some (k n):pP (some (.int k n)) (some n)
theorem kA{tm:List AV}{a:Act}(h:TR M ι tm a){o:Option Operand}{x:Option Int}(b:fH tm o=some x):pP (o.map a.eval) x:=by
 cases o with
 | none=>simp only[fH,cz]at b;subst b;exact .none
 | some o=>
  simp only[fH]at b
  split at b
  ·rename_i n c
   injection b with b
   subst b
   simp only[dL]at c
   obtain⟨y,d,f⟩:=c
   obtain⟨k,e⟩:=mj (ao h d) f
   rw[Option.map_some,e]
   exact .some k n
  ·cases b
theorem nZ{len c:Nat}{cap:Option Nat}(I:len<=c)(B : ∀k,cap=some k->c=k){C A F:Option Int}{l h:Nat}{c':Option Nat}(d:bounds len cap C A F=some (l,h,c'))
 {o p u:Option Value} (x:pP o C) (E:pP p A) (L:pP u F) :
 l<=h/\h<=len /\∃m,h<=m/\m<=c/\(∀k,c'=some k->m - l=k)/\(Instr.sliceBounds true len c o p u).run P w = .ok (l,h,m) w:=by
 have e : ∀(k:IntKind)(i:Int)(y:Nat)(a:BoundsCode),0<=i->i<=y->(Instr.sliceBound (.int k i) y a).run P w = .ok i.toNat w:=λk i y a=>run_sliceBound w k i y a
 cases L with
 | some D m=>
  cases E with
  | none=>simp[bounds]at d
  | some q b=>
   simp only[bounds]at d
   obtain⟨⟨n,j,v,G,N⟩,d⟩:=cc.1 d
   simp only[cz,mY]at d
   obtain⟨rfl,rfl,rfl⟩:=d
   have J:m<=c:=by
    cases cap with
    | none=>simp at G;omega
    | some k=>have:=B k rfl;simp at G;omega
   have O:((m.toNat:Nat):Int)=m:=qm (by omega)
   have K:((b.toNat:Nat):Int)=b:=qm (by omega)
   refine⟨by omega,by omega,m.toNat,by omega,by omega,by intro k f;cases f;rfl,?_⟩
   cases x with
   | none=>
    simp only[lU]at n j
    simp only[Instr.sliceBounds,Sem.run_bind,e D m c _ (by omega) (by omega),Result.andThen_ok,e q b m.toNat _ (by omega) (by omega),Sem.run_pure,lU]
    rfl
   | some t s=>
    simp only[bQ]at n j
    simp only[Instr.sliceBounds,Sem.run_bind,e D m c _ (by omega) (by omega),Result.andThen_ok,e q b m.toNat _ (by omega) (by omega),e t s b.toNat _ (by omega) (by omega),Sem.run_pure,bQ]
 | none=>
  simp only[bounds]at d
  obtain⟨⟨n,j,v⟩,d⟩:=cc.1 d
  simp only[cz,mY]at d
  obtain⟨rfl,rfl,rfl⟩:=d
  refine⟨by omega,by omega,c,by omega,a7 _,?_,?_⟩
  ·intro k f
   simp only[aC]at f
   obtain⟨H,z,rfl⟩:=f
   rw[B H z]
  ·cases E with
   | none=>
    simp only[lU]at j v ⊢
    cases x with
    | none=>simp[Instr.sliceBounds]
    | some t s=>
     simp only[bQ]at n j ⊢
     simp only[Instr.sliceBounds,Sem.run_bind,Sem.run_pure,Result.andThen_ok,e t s len _ (by omega) (by omega)]
     simp
   | some q b=>
    simp only[bQ]at j v ⊢
    have K:((b.toNat:Nat):Int)=b:=qm (by omega)
    cases x with
    | none=>
     simp only[lU]at n j ⊢
     simp only[Instr.sliceBounds,Sem.run_bind,Sem.run_pure,Result.andThen_ok,e q b c _ (by omega) (by omega)]
     simp
    | some t s=>
     simp only[bQ]at n j ⊢
     simp only[Instr.sliceBounds,Sem.run_bind,Sem.run_pure,Result.andThen_ok,e q b c _ (by omega) (by omega),e t s b.toNat _ (by omega) (by omega)]
theorem iV{t e:TypeId}(k:P.underlying t=some (.slice e)){s:Nat}(i:ay P e=some s){a:Option Addr}{len c l h m:Nat}{b d f:Option Value}
 (j:(Instr.sliceBounds true len c b d f).run P w = .ok (l,h,m) w) :
 (Instr.sliceAt t (.slice a len c) b d f).run P w = .ok (.slice (if m=l then a else a.map (·.add (l * s))) (h - l) (m - l)) w:=by
 simp[Instr.sliceAt,az k,Instr.slice,j,aX i]
theorem Bc(hS:cT M ι g w){t:TypeId}{y x:AV}{u0:Value}(U:VR M ι y u0){lo E mx:Option Int}{S V Y:Option Value}
 (R:pP S lo) (W:pP V E) (X:pP Y mx)
 {bs:List ax} (h:dN P g t (some y) (some lo) (some E) (some mx)=some (x,bs)) :
 bs=[] /\∃u,(Instr.sliceAt t u0 S V Y).run P w = .ok u w/\VR M ι x u:=by
 simp only[dN]at h
 split at h
 ·
  rename_i e
  cases e
  cases U
  obtain⟨n,h⟩:=cc.1 h
  simp only[aC]at h
  obtain⟨⟨l,f,c'⟩,o,e⟩:=h
  cases e
  obtain⟨s,C⟩:=fe.1 n
  simp only[dL]at C
  obtain⟨e,D,C⟩:=C
  obtain⟨b1,b2,m,b3,b4,F,N⟩:=nZ (P:=P) (w:=w) (a7 0) (by intro k I;cases I;rfl) o R W X
  have e1:l=0:=by omega
  have L:f=0:=by omega
  have e3:m=0:=by omega
  subst e1;subst L;subst e3
  exact⟨rfl,_,iV (cU D) C N,.v rfl⟩
 ·
  rename_i s e
  cases e
  cases U
  obtain⟨n,h'⟩:=cc.1 h
  clear h
  simp only[bR,Option.isNone_iff_eq_none]at n
  obtain⟨n,rfl⟩:=n
  cases X
  obtain⟨⟨l,f,c'⟩,o,e⟩:=aC.1 h'
  cases e
  have hu:=jZ n
  have Z : ∀(k:IntKind)(i:Int)(y:Nat)(q:BoundsCode),0<=i->i<=y->(Instr.sliceBound (.int k i) y q).run P w = .ok i.toNat w:=λk i y q=>run_sliceBound w k i y q
  simp only[bounds]at o
  obtain⟨⟨T,J,c3⟩,o⟩:=cc.1 o
  simp only[cz,mY]at o
  obtain⟨rfl,rfl,rfl⟩:=o
  refine⟨rfl,.string (s.extract (lo.getD 0).toNat (E.getD s.size).toNat),?_,.v rfl⟩
  cases W with
  | none=>
   simp only[lU]at J c3;try simp only[lU,bQ]
   cases R with
   | none=>simp[Instr.sliceAt,az hu,Instr.slice,Instr.sliceBounds]
   | some kl ll=>
    simp only[bQ]at T J;try simp only[lU,bQ]
    simp[Instr.sliceAt,az hu,Instr.slice,Instr.sliceBounds,Z kl ll s.size _ T J]
  | some kh f=>
   simp only[bQ]at J c3;try simp only[lU,bQ]
   have eh:((f.toNat:Nat):Int)=f:=qm (by omega)
   cases R with
   | none=>
    simp only[lU]at T J;try simp only[lU,bQ]
    simp[Instr.sliceAt,az hu,Instr.slice,Instr.sliceBounds,Z kh f s.size _ J c3]
   | some kl ll=>
    simp only[bQ]at T J;try simp only[lU,bQ]
    simp[Instr.sliceAt,az hu,Instr.slice,Instr.sliceBounds,Z kh f s.size _ (by omega) c3,Z kl ll f.toNat _ T (by omega)]
 ·
  rename_i esz es cap e
  cases e
  obtain⟨n,h⟩:=cc.1 h
  simp only[aC]at h
  obtain⟨⟨l,f,c'⟩,o,e⟩:=h
  cases e
  simp only[dL]at n
  obtain⟨e,D,C⟩:=n
  cases U with | cE cell d Q I hm Kp Ko=>
  rename_i a c
  obtain⟨b1,b2,m,b3,b4,F,N⟩:=nZ (P:=P) (w:=w) Q I o R W X
  refine⟨rfl,_,iV (cU D) C N,?_⟩
  obtain⟨g1,g2⟩:=getElems es l (f - l) (by omega)
  have:=VR.cE (M:=M) (ι:=ι) (esz:=esz) (es:=(es.drop l).take (f - l)) (cap:=c') (a:=(if m=l then a else a.add (l * esz))) (c:=m - l) (λi j=>cell (l+i) j)
   (by
    rcases d with d | d
    ·left
     split
     ·exact d
     ·rw[eu d,cY]
    ·right;subst d;simp) (by omega) F
   (by
    intro i j E hj
    rw[g1]at E
    have d:=d.resolve_right (by intro e;subst e;simp at b2 Q;omega)
    rw[if_neg (by omega),eu d,cY]
    have:=hm (l+i) j (by omega) hj
    rw[show a.off+((l+i) * esz+j)=a.off+l * esz+(i * esz+j) by rw[fC];omega]at this
    exact this)
   (by intro e D;exact Kp e (pa (m0 D)))
   (by
    intro i j e x E hx
    have Kn:i<f - l:=by have:=(bL.1 E).1;omega
    rw[g2 i Kn]at E
    exact Ko (l+i) j e x E hx)
  rw[g1]at this
  have L:(if m=l then some a else (some a).map (·.add (l * esz)))=some (if m=l then a else a.add (l * esz)):=by split<;>rfl
  rw[L]
  exact this
 ·
  rename_i r' G len cap e
  cases e
  split at h
  ·rename_i b K
   obtain⟨n,h⟩:=cc.1 h
   simp only[aC]at h
   obtain⟨⟨l,f,c'⟩,o,e⟩:=h
   cases e
   simp only[dL]at n
   obtain⟨e,D,C⟩:=n
   cases U with | aD H A d ha Q hn I p=>
   rename_i x6 a c
   obtain⟨l',B,O⟩:=hS.live r' b K
   rw[H]at B;cases B
   obtain⟨b1,b2,m,b3,b4,F,N⟩:=nZ (P:=P) (w:=w) Q I o R W X
   refine⟨rfl,_,iV (cU D) C N,?_⟩
   have L:(if m=l then some a else (some a).map (·.add (l * b.esz)))=some (if m=l then a else a.add (l * b.esz)):=by split<;>rfl
   rw[L]
   show VR M ι (.aD r' (G+l) (f - l) c') _
   by_cases z:m=l
   ·rw[if_pos z]
    exact .aD H A d (.inl (by omega)) (by omega) (.inl (by omega)) F p
   ·rw[if_neg z,eu d,cY]
    refine .aD H A rfl (.inr ?_) (by omega) (.inr ?_) F p
    ·rcases ha with h | h
     ·omega
     ·simp only[h,O.esz,fC]
    ·rcases hn with h | h
     ·omega
     ·omega
  ·cases h
 ·
  rename_i r' G len cap e
  cases e
  split at h
  ·rename_i b K
   obtain⟨n,h⟩:=cc.1 h
   simp only[aC]at h
   obtain⟨⟨l,f,c'⟩,o,e⟩:=h
   cases e
   simp only[dL]at n
   obtain⟨e,D,C⟩:=n
   cases U with | dsl H A d ha Q hn I p=>
   rename_i x6 a c
   obtain⟨l',B,O⟩:=hS.live r' b K
   rw[H]at B;cases B
   obtain⟨b1,b2,m,b3,b4,F,N⟩:=nZ (P:=P) (w:=w) Q I o R W X
   refine⟨rfl,_,iV (cU D) C N,?_⟩
   have L:(if m=l then some a else (some a).map (·.add (l * b.esz)))=some (if m=l then a else a.add (l * b.esz)):=by split<;>rfl
   rw[L]
   show VR M ι (.dsl r' (G+l) (f - l) c') _
   by_cases z:m=l
   ·rw[if_pos z]
    exact .dsl H A d (.inl (by omega)) (by omega) (.inl (by omega)) F p
   ·rw[if_neg z,eu d,cY]
    refine .dsl H A rfl (.inr ?_) (by omega) (.inr ?_) F p
    ·rcases ha with h | h
     ·omega
     ·simp only[h,O.esz,fC]
    ·rcases hn with h | h
     ·omega
     ·omega
  ·cases h
 ·cases h
theorem zJ{len c:Nat}(u:len<=c){l j:Option Int}(o:0<=l.getD 0)(e:l.getD 0<=j.getD len)(s:j.getD len<=c)
 {b f:Option Value} (q:pP b l) (t:pP f j) :
 (Instr.sliceBounds true len c b f none).run P w = .ok ((l.getD 0).toNat,(j.getD len).toNat,c) w:=by
 have h : ∀(k:IntKind)(i:Int)(y:Nat)(a:BoundsCode),0<=i->i<=y->(Instr.sliceBound (.int k i) y a).run P w = .ok i.toNat w:=λk i y a=>run_sliceBound w k i y a
 cases t with
 | none=>
  simp only[lU]at e s ⊢
  cases q with
  | none=>simp[Instr.sliceBounds]
  | some n m=>
   simp only[bQ]at o e ⊢
   simp only[Instr.sliceBounds,Sem.run_bind,Sem.run_pure,Result.andThen_ok,h n m len _ (by omega) (by omega)]
   simp
 | some p d=>
  simp only[bQ]at e s ⊢
  have v:((d.toNat:Nat):Int)=d:=qm (by omega)
  cases q with
  | none=>
   simp only[lU]at o e ⊢
   simp only[Instr.sliceBounds,Sem.run_bind,Sem.run_pure,Result.andThen_ok,h p d c _ (by omega) (by omega)]
   simp
  | some n m=>
   simp only[bQ]at o e ⊢
   simp only[Instr.sliceBounds,Sem.run_bind,Sem.run_pure,Result.andThen_ok,h p d c _ (by omega) (by omega),h n m d.toNat _ (by omega) (by omega)]
theorem y5(hS:cT M ι g w){t:TypeId}{y x:AV}{V:Value}(Z:VR M ι y V){n d U:Option Int}{f o p:Option Value}
 (h1:pP f n) (h2:pP o d) (h3:pP p U)
 {S:List ax} (h:fj P g t (some y) (some n) (some d) (some U)=some (x,S)) :
 S=[] /\∃u,(Instr.sliceAt t V f o p).run P w = .ok u w/\VR M ι x u:=by
 unfold fj at h
 split at h
 ·rename_i H x6 r' B len cap E G Q W
  simp only[cz]at E G Q W
  subst E G Q W
  cases h3
  split at h
  ·rename_i b F
   obtain⟨⟨T,N,c2,C⟩,h⟩:=cc.1 h
   simp only[cz,mY]at h
   obtain⟨rfl,rfl⟩:=h
   simp only[dL]at T
   obtain⟨e,he,hs⟩:=T
   cases Z with | aD D z s ha O Y R j=>
   rename_i H a c
   have v:((cap.getD len:Nat):Int)<=c:=by
    cases cap with
    | none=>simpa using O
    | some k=>rw[R k rfl];simp
   have i : ∀m:Nat,∀k,cap.map (· - m)=some k->c - m=k:=by
    intro m k L
    obtain⟨X,I,rfl⟩:=aC.1 L
    rw[R X I]
   replace C:d.getD (len:Int)<=c:=Int.le_trans C v
   clear v
   obtain⟨l',A,K⟩:=hS.live r' b F
   rw[D]at A;cases A
   have b6:=zJ (P:=P) (w:=w) O N c2 C h1 h2
   have E:(((n.getD 0).toNat:Nat):Int)=n.getD 0:=qm N
   have G:(((d.getD (len:Int)).toNat:Nat):Int)=d.getD len:=qm (by omega)
   generalize (n.getD 0).toNat=l at *
   generalize (d.getD (len:Int)).toNat=hh at *
   refine⟨rfl,_,iV (cU he) hs b6,?_⟩
   have J:(if c=l then some a else (some a).map (·.add (l * b.esz)))=some (if c=l then a else a.add (l * b.esz)):=by split<;>rfl
   rw[J]
   show VR M ι (.aD r' (B+l) (hh - l) (cap.map (· - l))) _
   by_cases q:c=l
   ·rw[if_pos q]
    exact .aD D z s (.inl (by omega)) (by omega) (.inl (by omega)) (i l) j
   ·rw[if_neg q,eu s,cY]
    refine .aD D z rfl (.inr ?_) (by omega) (.inr ?_) (i l) j
    ·rcases ha with h | h
     ·omega
     ·simp only[h,K.esz,fC]
    ·rcases Y with h | h
     ·omega
     ·omega
  ·cases h
 ·cases h
theorem CI(L:cT M ι g w){t tR:TypeId}{args:List AV}{us:List Value}(hv:fq M ι args us){x:AV}{X:List ax}(h:uj P g t args=some (x,X)) :
 X=[]/\x = .v (.bool false)/\(Extern.SlicesOverlaps.overlaps #[t,t] #[tR] us.toArray).run P w = .ok (.bool false) w:=by
 unfold uj at h
 split at h
 ·rename_i r p len cap r' u i Kn e he
  split at h
  ·rename_i b b' z hb A hz
   obtain⟨⟨J,h1,h2,h3⟩,h⟩:=cc.1 h
   simp only[cz,mY]at h
   obtain⟨rfl,rfl⟩:=h
   refine⟨rfl,rfl,?_⟩
   obtain⟨hlen,d⟩:=hv
   match us,hlen,d with
   | [ua,ub],hlen,d=>
   have va:=d 0 _ ua rfl rfl
   have vb:=d 1 _ ub rfl rfl
   clear d hlen
   cases va with | aD V j Kt ha hc hn hk F=>
   rename_i l a c
   cases vb with | aD y k U Kp Kq E Ku B=>
   rename_i D W c'
   have Z:=cU he
   have Y:=L.at V F hb
   have hB:=L.at y B A
   obtain⟨arr,T,fz,H,O,o,_⟩:=Y.heap
   obtain⟨arr',T',Ks,N,s,x6,_⟩:=hB.heap
   have G:l.b≠D.b:=λe=>J (L.inj r r' b b' l D hb A V y e)
   have m : ∀w:World,(Go.sizeOf e).run P w = .ok z w:=λw=>aX hz w
   show(Extern.SlicesOverlaps.overlaps #[t,t] #[tR] #[.slice (some a) len c,.slice (some W) i c']).run P w=_
   by_cases h0:len=0\/i=0
   ·have C:(len=0\/i=0\/z=0):=by omega
    have e2 : ∀ {R β:Type} (x:R) (f:R->Sem β),(pure x:Sem R).bind f=f x:=λ_ _=>rfl
    conv=>lhs;arg 2;whnf
    simp[Sem.run,Sem.bind,e2,Z,m,C]
   ·have Kr:p+c<=l.n:=by rcases hn with h | h<;>omega
    have S:u+c'<=D.n:=by rcases E with h | h<;>omega
    have K:a.off=p * l.esz:=by rcases ha with h | h<;>omega
    have Ko:0<arr'.size:=by rw[s];exact Nat.mul_pos (by omega) (by omega)
    have Q:a.off<arr.size:=by
     rw[K,O,Y.esz]
     exact(Nat.mul_lt_mul_right (by omega)).2 (by omega)
    refine Lib.run_overlaps_apart (P:=P) w t tR e Z z m a W len c i c' (by rw[j,k];exact G) T T' arr.size arr'.size ?_ ?_ (by omega) ?_ ?_
    ·unfold World.shape?;rw[j,H]
    ·unfold World.shape?;rw[k,N]
    ·unfold World.frozen?
     rw[j,H]
     have:=o.1 a.off Q
     obtain⟨f1,f2⟩:=fz
     simp only at this ⊢
     rw[yz]
     simp only[decide_eq_false_iff_not]
     by_cases q:f1<=a.off
     ·exact .inr λI=>this ⟨q,.inl I⟩
     ·exact .inl q
    ·unfold World.frozen?
     simp only
     rw[j,H]
     have:=o.2 h1
     obtain⟨f1,f2⟩:=fz
     simp only at this ⊢
     rw[yz]
     simp only[decide_eq_false_iff_not]
     by_cases q:f1<=arr.size
     ·exact .inr λI=>this ⟨q,I⟩
     ·exact .inl q
  ·cases h
 ·cases h
end
end
section
section
variable{P:Program}{M:Mem}{ι:Map}{g:bD}{w:World}{r:Ref}
structure Row (M:Mem) (z:Nat) (es:List AV) (us:List Value):Prop where
 len:us.length=es.length * z
 tG : ∀e∈es,e.cells.length=z
 one : ∀x∈us,x.oneCell'=true
 vr : ∀(i j:Nat) e x,es[i]?=some e->e.cells[j]?=some x ->∃u,us[i * z+j]?=some u/\VR M bB x u
theorem Src.row{u z es us}(h:Src P M w u z es us):Row M z es us:=⟨h.len,h.tG,h.one,h.vr⟩
theorem Row.nil{z:Nat}:Row M z [] []:=⟨by simp,by simp,by simp,by intro i j e x h;simp at h⟩
theorem Row.append{z es us es' us'}(h:Row M z es us)(f:Row M z es' us'):Row M z (es++es') (us++us'):=by
 refine⟨by simp[h.len,f.len,fC],?_,?_,?_⟩
 ·intro e a
  rcases fc.1 a with b | b
  ·exact h.tG e b
  ·exact f.tG e b
 ·intro e a
  rcases fc.1 a with b | b
  ·exact h.one e b
  ·exact f.one e b
 ·intro i j e x a l
  rcases cr i es.length with d | d
  ·rw[dY d]at a
   obtain⟨u,c,k⟩:=h.vr i j e x a l
   exact⟨u,by rw[dY (bL.1 c).1];exact c,k⟩
  ·rw[fS d]at a
   obtain⟨u,c,k⟩:=f.vr _ j e x a l
   have m:es.length * z<=i * z:=fV _ d
   refine⟨u,?_,k⟩
   rw[fS (by rw[h.len];omega),h.len,show i * z+j - es.length * z=(i - es.length) * z+j by rw[rm];omega]
   exact c
theorem Row.cons{z es us e vs}(c:fq M bB e vs)(k:e.length=z)(m : ∀x∈vs,x.oneCell'=true)(y:AV)(f:y.cells=e)(h:Row M z es us):Row M z (y :: es) (vs++us):=by
 have:Row M z [y] vs:=by
  refine⟨by rw[<-c.1,k];simp,by intro n a;simp at a;subst a;rw[f];exact k,m,?_⟩
  intro i j n x d b
  cases i with
  | succ i=>simp at d
  | zero=>
   simp at d
   subst d
   rw[f]at b
   have l:j<vs.length:=by have:=(bL.1 b).1;rw[<-c.1];exact this
   exact⟨vs[j],by simp[l],c.2 j x vs[j] b (bG l)⟩
 exact this.append h
theorem Row.replicate{z:Nat}{y:AV}{u:Value}(d:VR M bB y u)(k:y.cells.length=z)(e:y.cells.all AV.one=true) : ∀n,Row M z (List.replicate n y) (List.replicate n u.cells.toList).flatten:=by
 intro n
 have a : ∀x∈u.cells.toList,x.oneCell'=true:=by
  intro x i
  obtain⟨j,h,c⟩:=il i
  have f:=d.cells
  have b:j<y.cells.length:=by rw[f.1];exact h
  have:=f.2 j _ x (bG b) (by rw[<-c];exact bG h)
  exact this.one (by simp only[dh]at e;exact e _ (eE b))
 induction n with
 | zero=>exact Row.nil
 | succ n l=>rw[yy,yy,List.flatten_cons];exact Row.cons d.cells k a y rfl l
theorem Row.mono{z es us}{M':Mem}(h:Row M z es us)(k : ∀b o x,M b o=some x->M' b o=some x):Row M' z es us:=
 ⟨h.len,h.tG,h.one,λi j e x d a=>by obtain⟨u,f,c⟩:=h.vr i j e x d a;exact⟨u,f,c.mono k _ (λ_ _ h=>h)⟩⟩
theorem kB(t:cT M ι g w)(o:r.k=0)(F:ι r=none){w':World}{arr:Array Value}{T:TypeId}{fz:Nat × Nat}(C:pR w w' (.cells arr T fz))
 {z:Nat} {es:List AV} {us:List Value} (a:Row M z es us) (b : ∀(k:Nat) u,us[k]?=some u->arr[k]?=some u) {n c:Nat} (m:arr.size=n * z)
 (f:oZ z arr.size fz) (y:es.length<=c) (H:c<=n) {cap:Option Nat} (d : ∀k,cap=some k->c=k) (p:0<z) :
 dZ M ι g w r (.aD r 0 es.length cap) [⟨z,es,true,false⟩] (.slice (some ⟨w.heap.size,0,none⟩) es.length c) w':=by
 obtain⟨B,G⟩:=t.alloc (q:=r) F C ⟨z,es,true,false⟩ p n m f (by simp;omega) a.tG
  (by
   intro i j e x A v
   obtain⟨u,s,D⟩:=a.vr i j e x A v
   exact⟨u,b _ _ s,a.one u (da s),by simpa [ax.map] using D⟩)
 refine⟨M,_,?_,by rw[jk _ _ o];exact B,by rw[jk _ _ o];exact G,?_⟩
 ·exact .aD (l:=⟨w.heap.size,z,n⟩) (by simp[dm]) rfl rfl (.inr (by simp)) y (.inr (by simp;omega)) d p
 ·intro q h E
  have:q≠r:=by intro e;exact E 0 (by simp) (by rw[e];cases r;simp_all)
  simpa [dm,this] using h
def xB(M:Mem)(b:Nat)(us:List Value):Mem:=λa o=>if a=b then us[o]? else M a o
theorem BQ(y:cT M ι g w){w':World}{arr:Array Value}{T:TypeId}{fz:Nat × Nat}(f:pR w w' (.cells arr T fz))
 {z:Nat} {es:List AV} {us:List Value} (d:Row M z es us) (p : ∀(k:Nat) u,us[k]?=some u->arr[k]?=some u) {c:Nat}
 (G:es.length<=c) {cap:Option Nat} (v : ∀k,cap=some k->c=k) :
 dZ M ι g w r (.cE z es cap) [] (.slice (some ⟨w.heap.size,0,none⟩) es.length c) w':=by
 have s : ∀b o x,M b o=some x->b<w.heap.size:=λb o x h=>World.block_lt_of_cell? w ⟨b,o,none⟩ (y.mem b o x h)
 have m : ∀b o x,M b o=some x->xB M w.heap.size us b o=some x:=by
  intro b o x h
  unfold xB
  rw[if_neg (Nat.ne_of_lt (s b o x h))]
  exact h
 have t:w'.heap[w.heap.size]?=some (.cells arr T fz):=by rw[f.heap];simp
 have D : ∀i j,i<es.length->j<z ->∃u,us[i * z+j]?=some u:=by
  intro i j B C
  exact⟨us[i * z+j]'(by rw[d.len];exact p7 B C),bG _⟩
 refine⟨xB M w.heap.size us,ι,?_,?_,?_,λq L _=>L⟩
 ·refine VR.cE (M:=xB M w.heap.size us) (ι:=ι) (esz:=z) (es:=es) (cap:=cap) (a:=⟨w.heap.size,0,none⟩) (c:=c) (λi j=>(us[i * z+j]?).getD undef) (.inl rfl) G v ?_ d.tG ?_
  ·intro i j B C
   obtain⟨u,A⟩:=D i j B C
   simp only[xB,if_true,lS,A,bQ]
   exact⟨trivial,d.one u (da A)⟩
  ·intro i j e x H E
   obtain⟨u,A,I⟩:=d.vr i j e x H E
   simp only[A,bQ]
   exact I.mono m _ (λ_ _ h=>h)
 ·rw[gk]
  refine⟨?_,?_,y.inj⟩
  ·intro b o x h
   unfold xB at h
   split at h
   ·rename_i e;subst e;rw[dU t];exact p o x h
   ·exact f.cell (y.mem b o x h)
  ·intro r' k K
   obtain⟨l,J,n⟩:=y.live r' k K
   refine⟨l,J,n.bm m (λ_ _ h=>h) (f.old _ n.lt) ?_⟩
   intro o x h
   unfold xB at h
   rw[if_neg (Nat.ne_of_lt n.lt)]at h
   exact n.frozen o x h
 ·rw[gk]
  refine⟨f.os,f.tape,f.output,by rw[f.heap];simp,λb n _=>f.old b n,m,λ_ _ h=>h,λr' k l h F => .inr ⟨r',k,l,h,F,rfl⟩,?_⟩
  intro b o x h
  unfold xB at h
  split at h
  ·rename_i e;exact .inr (.inl (by omega))
  ·exact .inl h
theorem dZ.after{R:List Ref}(i:j7 g R=g)(d:cT M ι g w){x:AV}{c:List ax}{u:Value}{w':World}(h:dZ (eU M ι g w R) ι g w r x c u w'):dZ M ι g w r x c u w':=by
 obtain⟨_,b⟩:=nx (R:=R) d
 rw[i]at b
 obtain⟨M',a,e,f,j,k⟩:=h
 exact⟨M',a,e,f,b.trans j,k⟩
theorem vh(j:cT M ι g w){a d:List (Nat × AV)}(h:cA g a=some d){qs:List (Nat × Value)}(o:a.length=qs.length)
 (hp : ∀(i:Nat) p q,a[i]?=some p->qs[i]?=some q->p.1=q.1/\VR M ι p.2 q.2) :
 d.length=qs.length /\∀(i:Nat) p q,d[i]?=some p->qs[i]?=some q->p.1=q.1/\VR (eU M ι g w (aP g (a.map (·.2)))) bB p.2 q.2:=by
 unfold cA at h
 refine⟨by rw[cW h,o],?_⟩
 intro i p q c b
 obtain⟨⟨k,x⟩,e,f⟩:=gV h i p c
 simp only[aC]at f
 obtain⟨y,l,rfl⟩:=f
 obtain⟨m,n⟩:=hp i _ q e b
 refine⟨m,pf j depth x y q.2 l ?_ n⟩
 intro r s
 simp only[aP,dt,gy]
 exact⟨x,⟨(k,x),da e,rfl⟩,s⟩
theorem pF{z:Nat} : ∀(s:List (Nat × AV)) (qs:List (Nat × Value)) (es es':List AV) (us:Array Value),dP es s=some es'->Row M z es us.toList ->
 s.length=qs.length->(∀(i:Nat) p q,s[i]?=some p->qs[i]?=some q->p.1=q.1/\VR M bB p.2 q.2)->(∀p∈s,p.2.cells.length=z/\p.2.cells.all AV.one=true) ->
 es'.length=es.length /\∃f,Instr.fill (λi=>some (i * z,z)) us qs=some f/\Row M z es' f.toList:=by
 intro s
 induction s with
 | nil=>
  intro qs es es' us h a E hp K
  simp[dP]at h
  subst h
  cases qs with
  | nil=>exact⟨rfl,us,rfl,a⟩
  | cons q qs=>simp at E
 | cons p s U=>
  intro qs es es' us h a E hp K
  cases qs with
  | nil=>simp at E
  | cons q qs=>
   obtain⟨i,v⟩:=p
   obtain⟨Z,u⟩:=q
   obtain⟨O,Q⟩:=hp 0 _ _ rfl rfl
   simp only at O Q
   subst O
   simp only[dP]at h
   split at h
   ·rename_i R
    obtain⟨D,t⟩:=K _ (gu ..)
    simp only at D t
    have b:=Q.cells
    have I:u.cells.size=z:=by have:=b.1;simp at this;omega
    have L:us.size=es.length * z:=by have:=a.len;simpa using this
    have X:i * z+z<=us.size:=by
     have:(i+1) * z<=es.length * z:=fV _ R
     rw[fC]at this
     omega
    have l:=xH (i * z) u.cells.toList 0 us (by simp;omega)
    have n:u.cells.zipIdx.foldl (λcs (p:Value × Nat)=>cs.setIfInBounds (i * z+p.2) p.1) us=aZ us (i * z) u.cells.toList:=by
     rw[oc]at l
     rw[<-l,<-yv,Array.toList_zipIdx]
    have C : ∀x∈u.cells.toList,x.oneCell'=true:=by
     intro x d
     obtain⟨j,B,F⟩:=il d
     have A:j<v.cells.length:=by rw[b.1];exact B
     have:=b.2 j _ x (bG A) (by rw[<-F];exact bG B)
     exact this.one (by simp only[dh]at t;exact t _ (eE A))
    have m:Row M z (es.set i v) (aZ us (i * z) u.cells.toList).toList:=by
     refine⟨?_,?_,?_,?_⟩
     ·simp only[oq,yl]
      rw[dS (by simp;omega),L]
     ·intro e c
      rcases yE c with h | h
      ·exact a.tG e h
      ·rw[h];exact D
     ·intro x d
      simp only[aZ,fc]at d
      rcases d with (h | h) | h
      ·exact a.one x (m0 h)
      ·exact C x h
      ·exact a.one x (pa h)
     ·intro k j e x c d
      have W:k<es.length:=by have:=(bL.1 c).1;simpa using this
      rw[ri,dB (by simp;omega)]
      by_cases N:i=k
      ·subst N
       rw[tW R]at c
       injection c with c
       subst c
       have B:j<v.cells.length:=(bL.1 d).1
       rw[if_pos ⟨by omega,by simp;omega⟩,yB]
       have y:j<u.cells.toList.length:=by rw[<-b.1];exact B
       exact⟨u.cells.toList[j],bG y,b.2 j x _ d (bG y)⟩
      ·rw[rG N]at c
       have B:j<z:=by
        rw[<-a.tG e (da c)]
        exact(bL.1 d).1
       obtain⟨S,G,H⟩:=a.vr k j e x c d
       rw[if_neg]
       ·exact⟨S,by simpa using G,H⟩
       ·simp only[oq,I]
        rcases yw N with h | h
        ·have:(i+1) * z<=k * z:=fV _ h
         rw[fC]at this
         omega
        ·have:(k+1) * z<=i * z:=fV _ h
         rw[fC]at this
         omega
    obtain⟨V,f,Y,T⟩:=U qs (es.set i v) es' (aZ us (i * z) u.cells.toList) h m (by simpa using E) (λk p q o J=>hp (k+1) p q o J) (λp o=>K p (gv _ o))
    refine⟨by rw[V];simp,f,?_,T⟩
    simp only[Instr.fill]
    rw[if_neg (by simp;omega)]
    rw[<-Y,<-n]
   ·cases h
theorem lB{zs:Array Value}{n:Nat}(c:0<zs.size):((Array.range (n * zs.size)).map (zs[· % zs.size]!)).toList=(List.replicate n zs.toList).flatten:=by
 apply uY
 intro k
 rcases cr k (n * zs.size)with a | a
 ·have b:k % zs.size<zs.size:=Nat.mod_lt _ c
  have f:k / zs.size<n:=(Nat.div_lt_iff_lt_mul c).2 a
  have e:((Array.range (n * zs.size)).map (zs[· % zs.size]!)).toList[k]?=some zs[k % zs.size]:=by
   simp[a,b,getElem!_pos]
  rw[e]
  have : ∀n k,k<n * zs.size->(List.replicate n zs.toList).flatten[k]?=zs.toList[k % zs.size]?:=by
   intro n
   induction n with
   | zero=>intro k a;simp at a
   | succ n d=>
    intro k a
    rw[yy,List.flatten_cons]
    rcases cr k zs.size with h | h
    ·rw[dY (by simpa using h),Nat.mod_eq_of_lt h]
    ·rw[fS (by simpa using h),oq,d (k - zs.size) (by rw[fC]at a;omega)]
     congr 1
     rw[<-Nat.mod_eq_sub_mod h]
  rw[this n k a]
  simp[b]
 ·rw[lX (by simpa using a),lX (by simpa using a)]
theorem sI{t:TypeId}{n:Nat}(H:cT M ι g w){f:List (Nat × AV)}{qs:Array (Nat × Value)}{b:ax}(h:mkSlice P g t n f=some b)(S:f.length=qs.toList.length)
 (hp : ∀(i:Nat) p q,f[i]?=some p->qs.toList[i]?=some q->p.1=q.1/\VR M ι p.2 q.2) :
 b.arr=true/\b.cS=false/\b.es.length=n /\∃e arr,(Instr.buildSlice t n qs).run P w = .ok (.slice (some ⟨w.heap.size,0,none⟩) n n) (w.alloc (.cells arr e))/\arr.size=n * b.esz /\
  Row (eU M ι g w (aP g (f.map (·.2)))) b.esz b.es arr.toList:=by
 unfold mkSlice at h
 split at h
 ·cases h
 ·rename_i e J
  split at h
  ·rename_i L z s C O F
   obtain⟨R,h⟩:=cc.1 h
   obtain⟨W,X,K,N,D⟩:=R
   simp only[aC]at h
   obtain⟨es,A,rfl⟩:=h
   obtain⟨it,u,m,y,T⟩:=jD O
   obtain⟨Y,o,Q⟩:=kK F
   rw[m]at o;cases o
   have x:=dO (M:=eU M ι g w (aP g (f.map (·.2)))) (ι:=bB) T
   have l:u.cells.size=s:=by have:=x.cells.1;simp at this;omega
   have d:=Row.replicate x K N n
   obtain⟨I,V⟩:=vh H C S hp
   have c:Row (eU M ι g w (aP g (f.map (·.2)))) s (List.replicate n z) ((Array.range (n * s)).map (u.cells[· % u.cells.size]!)).toList:=by
    have:=lB (zs:=u.cells) (n:=n) (by omega)
    rw[l]at this
    rw[l,this]
    exact d
   obtain⟨G,v,U,E⟩:=pF L qs.toList (List.replicate n z) es _ A c I V (by
    intro p k
    simp only[dh,bR,decide_eq_true_eq]at D
    exact⟨(D p k).1,by simp only[dh];exact(D p k).2⟩)
   refine⟨rfl,rfl,by simpa using G,e,v,?_,?_,E⟩
   ·have B : ¬16777216<n * s:=by omega
    have a:Instr.fill (λi=>some (i * s,s)) ((Array.range (n * s)).map ((if n * s=0 then #[] else u.cells)[· % (if n * s=0 then #[] else u.cells).size]!)) qs.toList=some v:=by
     rw[<-U]
     congr 1
     by_cases h:n * s=0
     ·simp[h]
     ·rw[if_neg h]
    simp only[Instr.buildSlice,Sem.run_bind,az (cU J),Result.andThen_ok,aX F,gt_iff_lt]
    rw[if_neg B]
    by_cases j:n * s=0
    ·rw[if_pos j]at a ⊢
     simp only[pure_bind]
     rw[a]
     simp[newRow]
    ·rw[if_neg j]at a ⊢
     simp only[Sem.run_bind,zeroValue,typeInfo,m,y,run_program,Result.andThen_ok,Sem.run_pure,a]
     simp[newRow]
   ·rw[<-oq,E.len,G]
    simp
  ·cases h
theorem qv{P:Program}{g:bD}{t:TypeId}{n:Nat}{c:List (Nat × AV)}{b:ax}(h:mkSlice P g t n c=some b):0<b.esz:=by
 unfold mkSlice at h
 split at h
 ·cases h
 ·split at h
  ·obtain⟨a,h⟩:=cc.1 h
   obtain⟨_,_,rfl⟩:=aC.1 h
   exact a.1
  ·cases h
theorem su(m:cT M ι g w)(E:r.k=0)(G:ι r=none){d:Bool}{t:TypeId}{n:Nat}{l:List (Nat × AV)}{qs:Array (Nat × Value)}{x:AV}{B:List ax}
 (h:dA P d g r t n (some l)=some (x,B)) (F:l.length=qs.toList.length)
 (hp : ∀(i:Nat) p q,l[i]?=some p->qs.toList[i]?=some q->p.1=q.1/\VR M ι p.2 q.2) :
 ∃u w',(Instr.buildSlice t n qs).run P w = .ok u w'/\dZ M ι g w r x B u w':=by
 simp only[dA]at h
 obtain⟨y,h⟩:=cc.1 h
 simp only[aC]at h
 obtain⟨b,A,h⟩:=h
 obtain⟨I,J,z,e,arr,H,D,C⟩:=sI m A F hp
 have j:=xG y
 obtain⟨f,_⟩:=nx (R:=aP g (l.map (·.2))) m
 rw[j]at f
 have a:pR w (w.alloc (.cells arr e)) (.cells arr e (0,0)):=⟨rfl,rfl,rfl,rfl⟩
 refine⟨_,_,H,dZ.after j m ?_⟩
 have v:b=⟨b.esz,b.es,true,false⟩:=by cases b;simp_all
 cases d with
 | true=>
  simp at h
  obtain⟨rfl,rfl⟩:=h
  have:=BQ (r:=r) f a C (λk u o=>by simpa using o) (c:=n) (by omega) (cap:=some n) (by intro k s;cases s;rfl)
  rw[z]at this
  exact this
 | false=>
  simp at h
  obtain⟨rfl,rfl⟩:=h
  have:=kB f E G a C (λk u o=>by simpa using o) (n:=n) (c:=n) D (oZ.zero _ _) (by omega) (a7 _) (cap:=some n) (by intro k s;cases s;rfl)
  rw[z,<-v]at this
  exact this (qv A)
end
end
section
section
variable{P:Program}{M:Mem}{ι:Map}{g:bD}{w:World}{r:Ref}
inductive App (P:Program) (w:World) (t':Option TypeId) (x:Value) (e z:Nat) (n:Nat) (us:List Value):Prop
 | src {d:TypeDesc} (ht:t'.bind P.underlying=some d) (hd : ∀k,d ≠ .int k) (hl : ∀w':World,(Builtin.lenOf x).run P w' = .ok n w')
  (hf : ∀w':World,w'.heap=w.heap->(Builtin.firstCells z n x).run P w' = .ok us.toArray w')
 | zeros {k kx:IntKind} (u:Value) (ht:t'.bind P.underlying=some (.int k)) (hx:x = .int kx n) (hn:n<=aO) (hu : ∀w':World,(zeroValue e).run P w' = .ok u w') (hz:u.cells.size=z)
  (hus:us=(List.replicate n u.cells.toList).flatten)
theorem pU{n:Nat}(h:n<=aO):IntKind.i64.wrap (n:Int)=n:=by
 unfold aO at h
 exact IntWalk.i64_in n ⟨by omega,by omega⟩
theorem qj{u:Value}{n:Nat}:(Builtin.zeroCells u.cells n).toList=(List.replicate n u.cells.toList).flatten:=by
 unfold Builtin.zeroCells
 rcases tT u.cells.size with h | h
 ·have:u.cells.toList=[]:=by simpa using wu h
  simp[h,this]
 ·exact lB h
theorem qI{l:Array TypeId}{t:TypeId}{ty:TypeId}(n:l[0]?=some t){e z by':Nat}(q:P.underlying t=some (.slice e))(o:ay P e=some z)(p:db P e=some by')
 {a:Option Addr} {len c:Nat} (h:len<=c) {x:Value} (G:App P w l[1]? x e z 0 []) :
 (Builtin.append_ l ty #[.slice a len c,x]).run P w = .ok (.slice a len c) w:=by
 simp only[db,aC]at p
 obtain⟨i,y,rfl⟩:=p
 cases G with
 | src b hm E D=>
  rename_i d
  simp only[dL]at b
  obtain⟨t',f,b⟩:=b
  have m:=D w rfl
  have j:(match d with | .int _=>true | _=>false)=false:=by cases d<;>first | rfl | exact absurd rfl (hm _)
  cases a<;>simp[j,Builtin.append_,n,f,az q,az b,aX o,E,h,m,storeCells]
 | zeros u b s B F v A=>
  rename_i k kx
  subst s
  simp only[dL]at b
  obtain⟨t',f,b⟩:=b
  have C:IntKind.i64.wrap 0=0:=by simpa using pU B
  cases a<;>simp[Builtin.append_,n,f,az q,az b,aX o,asInt,asIntOf,C,typeInfo,y,h,storeCells]
theorem kN{N:Array TypeId}{t:TypeId}{ty:TypeId}(Q:N[0]?=some t){e z by':Nat}(S:P.underlying t=some (.slice e))(L:ay P e=some z)(W:db P e=some by')
 {F:Value} (m : ∀w':World,(zeroValue e).run P w' = .ok F w') (x6:F.cells.size=z)
 {a:Option Addr} {len c n:Nat} {x:Value} {olds us:List Value} (v : ∀w':World,w'.heap=w.heap->(Builtin.firstCells z len (.slice a len c)).run P w' = .ok olds.toArray w')
 (hA:App P w N[1]? x e z n us) (J:c<len+n) (f:(len+n) * by'<=aO) (E:0<by') :
 ∃cap w',len+n<=cap/\(Builtin.append_ N ty #[.slice a len c,x]).run P w = .ok (.slice (some ⟨w.heap.size,0,none⟩) (len+n) cap) w' /\
  pR w w' (.cells (olds.toArray++us.toArray++Builtin.zeroCells F.cells (cap - (len+n))) e (0,0)):=by
 simp only[db,aC]at W
 obtain⟨i,G,rfl⟩:=W
 have j : ¬(9223372036854775807<(len:Int)+(n:Int)):=by
  have:(len+n) * 1<=(len+n) * i.bytes:=Nat.mul_le_mul_left _ E
  unfold aO at f
  omega
 have p : ¬(281474976710656<Builtin.nextslicecap (len+n) c * i.bytes):=by
  have:=growslice_fits (need:=len+n) (old:=c) (bytes:=i.bytes) J (by unfold aO at f;exact f)
  omega
 have q : ¬(len+n<=c):=by omega
 have b:=v w.drew rfl
 obtain⟨A,H⟩ : ∃A,A=olds.toArray:=⟨_,rfl⟩
 rw[<-H]at b ⊢
 refine⟨grownCap w (len+n) c e,w.drew.alloc (.cells (A++us.toArray++Builtin.zeroCells F.cells (grownCap w (len+n) c e - (len+n))) e (0,0)),grownCap_ge _ _ _ _,?_,⟨rfl,rfl,rfl,rfl⟩⟩
 cases hA with
 | src l hm hl hf=>
  rename_i d
  simp only[dL]at l
  obtain⟨t',o,l⟩:=l
  have D:=hf w.drew rfl
  obtain⟨B,O⟩ : ∃B,B=us.toArray:=⟨_,rfl⟩
  rw[<-O]at D ⊢
  have K:(match d with | .int _=>true | _=>false)=false:=by cases d<;>first | rfl | exact absurd rfl (hm _)
  simp[K,Builtin.append_,Q,o,az S,az l,aX L,hl,q,D,b,j,p,typeInfo,G,Question.forced,m,newRow,grownCap]
 | zeros u l X Z T U I=>
  rename_i k kx
  subst X
  simp only[dL]at l
  obtain⟨t',o,l⟩:=l
  have V:=pU Z
  have Y:u=F:=by
   have R:=T w
   rw[m w]at R
   cases R
   rfl
  subst Y
  have C : ¬((n:Int)<0):=by omega
  have s : ¬(281474976710656<(n:Int) * (i.bytes:Int)):=by
   have R:n * i.bytes<=(len+n) * i.bytes:=fV _ (by omega)
   unfold aO at f
   have h2:((n * i.bytes:Nat):Int)=(n:Int) * (i.bytes:Int):=by simp
   omega
  have y:us.toArray=if n * z=0 then #[] else Builtin.zeroCells u.cells n:=by
   rw[I,<-qj]
   by_cases h:n * z=0
   ·rw[if_pos h]
    have:(Builtin.zeroCells u.cells n).size=0:=by rw[size_zeroCells,U,h]
    rw[Array.toArray_toList]
    exact wu this
   ·rw[if_neg h]
  rw[y]
  by_cases h:n * z=0
  ·simp[Builtin.append_,Q,o,az S,az l,aX L,asInt,asIntOf,V,C,s,typeInfo,G,q,j,p,h,b,Question.forced,m,newRow,grownCap]
  ·simp[Builtin.append_,Q,o,az S,az l,aX L,asInt,asIntOf,V,C,s,typeInfo,G,q,j,p,h,b,Question.forced,m,newRow,grownCap]
theorem oy{E:Array TypeId}{t:TypeId}{ty:TypeId}(F:E[0]?=some t){e z by':Nat}(G:P.underlying t=some (.slice e))(D:ay P e=some z)(N:db P e=some by')
 {b o len c n:Nat} {x:Value} {us:List Value} (U:App P w E[1]? x e z n us) (p:len+n<=c) (q:(len+n) * by'<=aO)
 {arr:Array Value} {T:TypeId} {fz:Nat × Nat} (y:w.heap[b]?=some (.cells arr T fz)) (R:o+len * z+us.length<=arr.size) (A : ∀j,j<arr.size ->¬(fz.1<=j/\(j<fz.2\/fz.2<fz.1))) (L : ∀u∈us,u.oneCell'=true) :
 (Builtin.append_ E ty #[.slice (some ⟨b,o,none⟩) len c,x]).run P w = .ok (.slice (some ⟨b,o,none⟩) (len+n) c) (aJ w b (.cells (aZ arr (o+len * z) us) T fz)):=by
 simp only[db,aC]at N
 obtain⟨i,K,rfl⟩:=N
 have f:=fY (P:=P) (o+len * z) us 0 arr w y (by simpa using R) A L
 rw[oc]at f
 cases U with
 | src l hm V S=>
  rename_i d
  simp only[dL]at l
  obtain⟨t',m,l⟩:=l
  have H:=S w rfl
  have C:(match d with | .int _=>true | _=>false)=false:=by cases d<;>first | rfl | exact absurd rfl (hm _)
  simp[C,Builtin.append_,F,m,az G,az l,aX D,V,p,H,cY,f]
 | zeros u l O Q I J B=>
  rename_i k kx
  subst O
  simp only[dL]at l
  obtain⟨t',m,l⟩:=l
  have y:=pU Q
  have v : ¬((n:Int)<0):=by omega
  have s : ¬(281474976710656<(n:Int) * (i.bytes:Int)):=by
   have L:n * i.bytes<=(len+n) * i.bytes:=fV _ (by omega)
   unfold aO at q
   have W:((n * i.bytes:Nat):Int)=(n:Int) * (i.bytes:Int):=by simp
   omega
  have a:us=(if n * z=0 then #[] else Builtin.zeroCells u.cells n).toList:=by
   rw[B,<-qj]
   by_cases h:n * z=0
   ·rw[if_pos h]
    have:(Builtin.zeroCells u.cells n).size=0:=by rw[size_zeroCells,J,h]
    rw[wu this]
   ·rw[if_neg h]
  by_cases h:n * z=0
  ·rw[if_pos h]at a
   simp only[Array.toList_empty]at a
   rw[a]at f ⊢
   simp[Builtin.append_,F,m,az G,az l,aX D,asInt,asIntOf,y,v,s,typeInfo,K,p,h,cY,f]
  ·rw[if_neg h]at a
   rw[a]at f ⊢
   simp[Builtin.append_,F,m,az G,az l,aX D,asInt,asIntOf,y,v,s,typeInfo,K,p,h,I,cY,f]
end
end
section
section
variable{P:Program}{M:Mem}{ι:Map}{g:bD}{w:World}{r:Ref}
theorem Bd{t:TypeId}{y z x:AV}{o p:Value}(l:VR M ι y o)(m:VR M ι z p){q:List ax}(h:oQ P t (some y) (some z)=some (x,q)) :
 q=[] /\∃u,(Instr.index t o p).run P w = .ok u w/\VR M ι x u:=by
 simp only[oQ,cQ]at h
 split at h
 ·rename_i k cs j a
  injection a with a
  subst a
  obtain⟨B,rfl⟩:=mj m j
  split at h
  ·rename_i n e G
   split at h
   ·rename_i s c
    obtain⟨d,h⟩:=cc.1 h
    simp only[fa,aC]at h
    obtain⟨D,i,he⟩:=h
    cases he
    obtain⟨H,rfl,f⟩:=l.AO
    obtain⟨u,F,C⟩:=Al (w:=w) f i
    exact⟨rfl,u,by simp[Instr.index,asIntOf,az (qT G),d.1,d.2,aX c,F],C⟩
   ·cases h
  ·cases h
 ·rename_i k s j c
  injection c with c
  subst c
  obtain⟨B,rfl⟩:=mj m j
  cases l
  obtain⟨d,h⟩:=cc.1 h
  simp only[fa,aC]at h
  obtain⟨D,⟨b,E,rfl⟩,he⟩:=h
  cases he
  refine⟨rfl,.int .u8 b.toNat,?_,.v rfl⟩
  have A:=d.2
  simp[Instr.index,asIntOf,az (jZ d.1),A,E]
 ·cases h
theorem CM{f:Fn}{a b:List AV}{k n:List Value}(m:fq M ι a k)(j:fq M ι b n){x:AV}{l:List ax}(h:ss f (some a) (some b)=some (x,l)) :
 l=[]/\VR M ι x (.func f k.toArray n.toArray):=by
 simp only[ss,cz,mY]at h
 obtain⟨rfl,rfl⟩:=h
 exact⟨rfl,.fn (by simpa using m.1) (by simpa using j.1) (λi c u d e=>m.2 i c u d (by simpa using e)) (λi c u d e=>j.2 i c u d (by simpa using e))⟩
theorem CH{tm:List AV}{a:Act}(h:TR M ι tm a){c x y:Operand}{z:AV}{j:List ax}(d:sn (ak tm) c x y=some (z,j)) :
 j=[] /\∃u,(do pure (if <-asBool (a.eval c) then a.eval x else a.eval y):Sem Value).run P w = .ok u w/\VR M ι z u:=by
 unfold sn at d
 split at d
 ·rename_i e
  simp only[dL]at e
  obtain⟨k,i,b⟩:=e
  have:=n6 (ao h i) b
  simp only[fa,aC]at d
  obtain⟨l,f,he⟩:=d
  cases he
  exact⟨rfl,_,by simp[this,asBool],ao h f⟩
 ·rename_i e
  simp only[dL]at e
  obtain⟨k,i,b⟩:=e
  have:=n6 (ao h i) b
  simp only[fa,aC]at d
  obtain⟨l,f,he⟩:=d
  cases he
  exact⟨rfl,_,by simp[this,asBool],ao h f⟩
 ·cases d
theorem EX{j:Array TypeId}{ty:TypeId}{y x:AV}{m:Value}(f:VR M ι y m){n:List ax}(h:EY P j[0]? y=some (x,n)) :
 n=[] /\∃u,(Builtin.cap_ j ty #[m]).run P w = .ok u w/\VR M ι x u:=by
 unfold EY at h
 split at h
 ·rename_i e b
  obtain⟨t,d,b⟩:=dL.1 b
  cases h
  cases f
  exact⟨rfl,goInt 0,by simp[Builtin.cap_,d,az (cU b)],.v rfl⟩
 ·rename_i e z es k b
  obtain⟨t,d,b⟩:=dL.1 b
  cases h
  cases f with | cE cell s A i hm o D=>
  rename_i a c
  have:=i k rfl
  subst this
  exact⟨rfl,goInt c,by simp[Builtin.cap_,d,az (cU b)],.v rfl⟩
 ·rename_i e r p len k b
  obtain⟨t,d,b⟩:=dL.1 b
  cases h
  cases f with | aD B E s F A C i q=>
  rename_i l a c
  have:=i k rfl
  subst this
  exact⟨rfl,goInt c,by simp[Builtin.cap_,d,az (cU b)],.v rfl⟩
 ·cases h
theorem EV{k:Array TypeId}{ty:TypeId}{y x:AV}{l:Value}(c:VR M ι y l){m:List ax}(h:tv P k[0]? y=some (x,m)) :
 m=[] /\∃u,(Builtin.len_ k ty #[l]).run P w = .ok u w/\VR M ι x u:=by
 unfold tv at h
 split at h
 ·cases h
 ·rename_i t b
  split at h
  ·rename_i n e o
   injection h with h
   injection h with d f
   subst d;subst f
   exact⟨rfl,goInt n,by simp[Builtin.len_,b,az (qT o)],.v rfl⟩
  ·split at h
   ·rename_i j
    split at h
    ·injection h with h
     injection h with d f
     subst d;subst f
     cases c
     exact⟨rfl,goInt _,by simp[Builtin.len_,b,az (jZ j)],.v rfl⟩
    ·cases h
   ·obtain⟨j,h⟩:=cc.1 h
    obtain⟨e,he⟩:=fe.1 j
    have i:=cU he
    simp only[aC]at h
    obtain⟨n,a,h⟩:=h
    injection h with d f
    subst d;subst f
    refine⟨rfl,goInt n,?_,.v rfl⟩
    unfold kS at a
    split at a
    ·injection a with a;subst a;cases c;simp[Builtin.len_,b,az i]
    ·injection a with a;subst a;cases c;simp[Builtin.len_,b,az i]
    ·injection a with a;subst a;cases c;simp[Builtin.len_,b,az i]
    ·injection a with a;subst a;cases c;simp[Builtin.len_,b,az i]
    ·cases a
theorem uP{x:AV}{u:Value}{b:UInt8}(a:VR M ι x u)(h:byteOf x=some b) : ∃n:Int,u = .int .u8 n/\b=UInt8.ofNat n.toNat:=by
 unfold byteOf at h
 split at h
 ·injection h with h
  cases a
  exact⟨_,rfl,h.symm⟩
 ·cases h
theorem zy : ∀(a:List Int)(s:ByteArray),a.foldl (λr n=>r.push (UInt8.ofNat n.toNat)) s=⟨s.data++(a.map λn=>UInt8.ofNat n.toNat).toArray⟩:=by
 intro a
 induction a with
 | nil=>intro s;simp
 | cons n a b=>
  intro s
  rw[lg,b]
  simp[ByteArray.push]
theorem w9(O:cT M ι g w)(hr:r.k=0)(hq:ι r=none){L N:TypeId}{y x:AV}{u0:Value}(V:VR M ι y u0){bs:List ax}(h:bI P g r L N (some y)=some (x,bs)) :
 ∃u w',(Go.convert L N u0).run P w = .ok u w'/\dZ M ι g w r x bs u w':=by
 unfold bI at h
 split at h
 ·rename_i e
  injection e with e
  subst e
  cases V
  obtain⟨p,h⟩:=cc.1 h
  simp only[bR]at p
  obtain⟨e,D,F⟩:=ja p.1
  injection h with h
  injection h with H U
  subst H;subst U
  exact⟨.string .empty,w,by rw[run_convert_bytes_string w L N e none 0 0 D F (jZ p.2)];rfl,dZ.same O (.v rfl)⟩
 ·rename_i s e
  injection e with e
  subst e
  cases V
  split at h
  ·rename_i p
   simp only[bR]at p
   injection h with h
   injection h with H U
   subst H;subst U
   exact⟨.string s,w,by simp[Go.convert,az (jZ p.1),az (jZ p.2)],dZ.same O (.v rfl)⟩
  ·split at h
   ·rename_i p
    simp only[bR]at p
    obtain⟨K3,h⟩:=cc.1 h
    injection h with h
    injection h with H U
    subst H;subst U
    obtain⟨e,D,F⟩:=ja p.2
    have KB:=run_bytes_of_string (P:=P) w L N e s (jZ p.1) D F
    have KF:=grownCap_ge w s.size 0 e
    have Kv:Row M 1 (s.data.toList.map λb=>AV.v (.int .u8 b.toNat)) (s.data.toList.map λb=>Value.int .u8 b.toNat):=by
     refine⟨by simp,?_,?_,?_⟩
     ·intro e I
      simp only[gy]at I
      obtain⟨b,_,rfl⟩:=I
      rfl
     ·intro x hx
      simp only[gy]at hx
      obtain⟨b,_,rfl⟩:=hx
      rfl
     ·intro i j e x I hx
      simp only[fU,aC]at I
      obtain⟨b,hb,rfl⟩:=I
      cases j with
      | succ j=>simp[AV.cells]at hx
      | zero=>
       simp[AV.cells]at hx
       subst hx
       exact⟨.int .u8 b.toNat,by simp[hb],.v rfl⟩
    have Kp:(bytesRow s (grownCap w s.size 0 e)).size=grownCap w s.size 0 e:=by
     have:s.data.size=s.size:=rfl
     simp[bytesRow]
     omega
    have:=kB O hr hq (w':=w.drew.alloc (.cells (bytesRow s (grownCap w s.size 0 e)) e ((bytesRow s (grownCap w s.size 0 e)).size,(bytesRow s (grownCap w s.size 0 e)).size+1)))
     ⟨rfl,rfl,rfl,rfl⟩ Kv (by
      intro k u hu
      have E:=(bL.1 hu).1
      unfold bytesRow
      rw[yG (by simpa using E)]
      rw[<-hu]
      simp) (n:=grownCap w s.size 0 e) (c:=grownCap w s.size 0 e) (by rw[Kp];simp) ⟨by intro o ho h;simp only at h;omega,λh=>absurd h (by decide)⟩ (by simpa using KF) (a7 _) (cap:=none) (by intro k E;cases E) Nat.one_pos
    simp only[pT,oq]at this
    exact⟨_,_,KB,this⟩
   ·cases h
 ·rename_i v Kz KC e
  injection e with e
  subst e
  simp only[fa,aC,dL]at h
  obtain⟨z,⟨u,hu,hz⟩,I⟩:=h
  cases I
  cases V
  exact⟨u,w,gC hu w,dZ.same O (gD hz)⟩
 ·rename_i y' Kz KC J e
  injection e with e
  subst e
  split at h
  ·rename_i p
   simp only[bR]at p
   obtain⟨e,D,F⟩:=ja p.1
   split at h
   ·rename_i z es d
    simp only[aC]at h
    obtain⟨l,hl,h⟩:=h
    injection h with H U
    subst H;subst U
    have KM:z=1\/es=[]:=by
     cases es with
     | nil=>exact .inr rfl
     | cons e0 KX=>
      left
      obtain⟨b,_,hb⟩:=fl hl 0 e0 rfl
      unfold byteOf at hb
      split at hb
      ·rename_i n
       cases V with
       | cE cell Y Kw E hm I Z=>
        simp only[aV,cz,mY]at d
        obtain⟨rfl,rfl⟩:=d
        have:=I _ (gu ..)
        simpa [AV.cells] using this.symm
       | aD W x6 Y ha Kw hn E G=>
        rename_i r1 KD vI KV l1 a1 c1
        simp only[aV]at d
        split at d
        ·rename_i R K
         obtain⟨Q,d⟩:=cc.1 d
         injection d with d
         injection d with h3 h4
         have C:=O.at W G K
         have Kx:(AV.v (.int .u8 n))∈R.es:=by
          have:(AV.v (.int .u8 n))∈(R.es.drop KD).take vI:=by rw[h4];exact gu ..
          exact pa (m0 this)
         have:=C.cells _ Kx
         rw[<-h3,<-this]
         rfl
        ·cases d
       | v hv=>exact absurd rfl (J _)
       | _=>simp[aV]at d
      ·cases hb
    have KW:=cW hl
    obtain⟨a,n,c,rfl,hn,A⟩ : ∃a n c,u0 = .slice (some a) n c/\es.length=n /\∀j,j<n ->∃b:Int,w.cell? (a.add j)=some (.int .u8 b)/\l[j]?=some (UInt8.ofNat b.toNat):=by
     rcases KM with rfl | rfl
     ·obtain⟨us,KU⟩:=gI (P:=P) O V (Nat.one_pos) d
      cases V with
      | cE cell Y p E hm I Z=>
       rename_i esz es' cap a c
       simp only[aV,cz,mY]at d
       obtain⟨rfl,rfl⟩:=d
       refine⟨a,es'.length,c,rfl,rfl,?_⟩
       intro j t
       have S:=bG t
       obtain⟨b,K,B⟩:=fl hl j _ S
       have KI:=I _ (eE t)
       have Kq:es'[j].cells=[es'[j]]:=by
        unfold byteOf at B
        split at B
        ·rename_i Ks;rw[Ks];rfl
        ·cases B
       have KJ:=Z j 0 _ _ S (show es'[j].cells[0]?=some es'[j] by rw[Kq];rfl)
       obtain⟨nb,Kr,rfl⟩:=uP KJ B
       refine⟨nb,?_,K⟩
       have:=O.mem _ _ _ (hm j 0 t (by omega)).1
       rw[eu (Y.resolve_right (by intro e;subst e;simp at t)),cY]
       rw[Kr]at this
       simpa using this
      | aD W x6 Y ha p hn E G=>
       rename_i r1 m len cap l1 a c
       simp only[aV]at d
       split at d
       ·rename_i R K
        obtain⟨Q,d⟩:=cc.1 d
        injection d with d
        injection d with h3 h4
        subst h4
        have C:=O.at W G K
        obtain⟨g1,g2⟩:=getElems R.es m len Q.2
        refine⟨a,len,c,rfl,g1,?_⟩
        intro j t
        have S:((R.es.drop m).take len)[j]?=some R.es[m+j]:=by rw[g2 j t];exact bG (by omega)
        obtain⟨b,Ku,B⟩:=fl hl j _ S
        have KI:=C.cells _ (eE (by omega:m+j<R.es.length))
        have Kq:R.es[m+j].cells=[R.es[m+j]]:=by
         unfold byteOf at B
         split at B
         ·rename_i Ks;rw[Ks];rfl
         ·cases B
        obtain⟨u,Kn,KZ,KL⟩:=C.cell (m+j) (bG (by omega)) 0 R.es[m+j] (by rw[Kq];rfl)
        obtain⟨nb,Kr,rfl⟩:=uP KL B
        refine⟨nb,?_,Ku⟩
        have Kt:a.off=m * l1.esz:=by
         rcases ha with h | h
         ·omega
         ·exact h
        rw[eu Y,cY,x6,Kt,C.esz,h3]
        rw[h3,Kr]at Kn
        simp only[Nat.mul_one,oc]at Kn ⊢
        exact Kn
       ·cases d
      | v hv=>exact absurd rfl (J _)
      | _=>simp[aV]at d
     ·cases V with
      | cE cell Y p E hm I Z=>
       rename_i esz es' cap a c
       simp only[aV,cz,mY]at d
       obtain⟨rfl,rfl⟩:=d
       exact⟨a,0,c,rfl,rfl,λj t=>by omega⟩
      | aD W x6 Y ha p hn E G=>
       rename_i r1 m len cap l1 a c
       simp only[aV]at d
       split at d
       ·obtain⟨Q,d⟩:=cc.1 d
        injection d with d
        injection d with h3 h4
        have:len=0:=by
         have:=(getElems _ m len Q.2).1
         rw[h4]at this
         simpa using this.symm
        exact⟨a,len,c,rfl,by simp[this],λj t=>by omega⟩
       ·cases d
      | v hv=>exact absurd rfl (J _)
      | _=>simp[aV]at d
    refine⟨.string ⟨l.toArray⟩,w,?_,dZ.same O (.v rfl)⟩
    rw[run_convert_bytes_string w L N e (some a) n c D F (jZ p.2)]
    let f:Nat->Int:=λj=>if h:j<n then (A j h).choose else 0
    have KQ : ∀j,j<n->w.cell? (a.add j)=some (.int .u8 (f j)):=λj t=>by simp only[f,dif_pos t];exact(A j t).choose_spec.1
    have KT : ∀j,j<n->l[j]?=some (UInt8.ofNat (f j).toNat):=λj t=>by simp only[f,dif_pos t];exact(A j t).choose_spec.2
    have X:=run_loadCells (P:=P) w a n (λj => .int .u8 (f j)) (λj t=>KQ j t)
    have KK:(loadCells a n).run P w = .ok (((List.range n).map f).map (Value.int .u8)).toArray w:=by rw[X];simp
    rw[run_bytesToString w a n c _ KK,zy]
    have:((List.range n).map f).map (λn=>UInt8.ofNat n.toNat)=l:=by
     apply uY
     intro j
     rcases cr j n with t | t
     ·rw[KT j t];simp[t]
     ·rw[lX (by simpa using t),lX (by omega)]
    rw[this]
    have Ko:ByteArray.empty.data = #[]:=rfl
    rw[Ko]
    simp
   ·cases h
  ·replace h:=cc.1 h
   obtain⟨p,h⟩:=h
   simp only[bR,beq_iff_eq]at p
   obtain⟨Ko,p⟩:=p
   subst Ko
   obtain⟨e,D,F⟩:=ja p
   cases y with
   | aD r' m len cap=>
    obtain⟨k,E,K1,h⟩ : ∃k,g r'=some k/\k.esz=1/\some (AV.aD r' m len cap,([]:List ax))=some (x,bs):=by
     cases E:g r' with
     | none=>simp only[E]at h;cases h
     | some k=>
      simp only[E]at h
      obtain⟨H,h⟩:=cc.1 h
      exact⟨k,rfl,H,h⟩
    injection h with h;injection h with H U;subst H;subst U
    have KN:=V
    cases V with | aD Ky KE K2 ha Q hn KY G=>
    rename_i l a c
    have C:=O.at Ky G E
    obtain⟨arr,T,fz,Z,K0,KP,KG⟩:=C.heap
    have KO:=C.lt
    have KS:w.freeze ⟨a.block,arr.size,none⟩ 1=aJ w l.b (.cells arr T (if fz.1 == fz.2 then (arr.size,arr.size+1) else (min fz.1 arr.size,max fz.2 (arr.size+1)))):=by
     unfold World.freeze aJ
     rw[if_neg (by decide)]
     congr 1
     apply ql
     intro i
     rw[wm,KE]
     by_cases hi:l.b=i
     ·subst hi
      rw[if_pos rfl,Z,rk KO]
      rfl
     ·rw[if_neg hi,ou hi]
    have KA : ∀o,o<arr.size ->¬((if fz.1 == fz.2 then (arr.size,arr.size+1) else (min fz.1 arr.size,max fz.2 (arr.size+1)):Nat × Nat).1<=o/\(o<(if fz.1 == fz.2 then (arr.size,arr.size+1) else (min fz.1 arr.size,max fz.2 (arr.size+1)):Nat × Nat).2\/(if fz.1 == fz.2 then (arr.size,arr.size+1) else (min fz.1 arr.size,max fz.2 (arr.size+1)):Nat × Nat).2<(if fz.1 == fz.2 then (arr.size,arr.size+1) else (min fz.1 arr.size,max fz.2 (arr.size+1)):Nat × Nat).1)):=by
     intro o ho
     split
     ·simp only;omega
     ·rename_i KR
      simp only[beq_iff_eq]at KR
      have H:arr.size<=fz.1:=by
       rcases cr fz.1 arr.size with h | h
       ·exact absurd ⟨a7 _,by omega⟩ (KP.1 fz.1 h)
       ·exact h
      simp only
      omega
    obtain⟨h3,h4⟩:=O.mark E Ky Z KS ⟨KA,λH=>by omega⟩
    refine⟨.slice (some a) len c,_,?_,M,ι,KN,by rw[gk];exact h3,by rw[gk];exact h4,λq hq _=>hq⟩
    have KH:w.shape? a.block=some (T,arr.size):=by
     unfold World.shape?
     rw[KE,Z]
    simp[Go.convert,az D,az F,markStringish,KH]
   | _=>cases h
 ·rename_i e;cases e
theorem CJ(hS:cT M ι g w)(hr:r.k=0)(hq:ι r=none){t:TypeId}{y z x:AV}{u0 X:Value}(hy:VR M ι y u0)(hz:VR M ι z X){Y:List ax}(h:oz P r t (some y) (some z)=some (x,Y)) :
 ∃u w',(Instr.makeSlice t u0 X).run P w = .ok u w'/\dZ M ι g w r x Y u w':=by
 unfold oz at h
 simp only[cQ]at h
 split at h
 ·rename_i e l c U hl hc
  obtain⟨kl,rfl⟩:=mj hy hl
  obtain⟨kc,rfl⟩:=mj hz hc
  split at h
  ·rename_i zv s b R Q hb
   obtain⟨A,h⟩:=cc.1 h
   obtain⟨V,c2,c3,c4,c5,W,Z⟩:=A
   injection h with h
   injection h with h1 h2
   subst h1;subst h2
   obtain⟨it,u,j,S,hu⟩:=jD R
   obtain⟨i',J,x6⟩:=kK Q
   rw[j]at J;cases J
   simp only[db,j,Option.map_some,cz]at hb
   have B:=dO (M:=M) (ι:=bB) hu
   have D:u.cells.size=s:=by have:=B.cells.1;simp at this;omega
   obtain⟨m,rfl⟩:=u7 V
   obtain⟨a,rfl⟩:=u7 (Int.le_trans V c2)
   have L:IntKind.i64.wrap (m:Int)=m:=IntWalk.i64_in _ ⟨by omega,by omega⟩
   have C:IntKind.i64.wrap (a:Int)=a:=IntWalk.i64_in _ ⟨by omega,by omega⟩
   have H : ¬((a:Int)<0):=by omega
   have o : ¬(281474976710656<(it.bytes:Int) * (a:Int)):=by
    rw[hb,Int.mul_comm]
    have e1:((aO:Nat):Int)=140737488355328:=rfl
    omega
   have E : ¬((m:Int)<0):=by omega
   have F : ¬((a:Int)<(m:Int)):=by omega
   have i:=lB (zs:=u.cells) (n:=a) (by omega)
   rw[D]at i
   have f:((Array.range (a * s)).map ((if a * s=0 then #[] else u.cells)[· % (if a * s=0 then #[] else u.cells).size]!)).toList=(List.replicate a u.cells.toList).flatten:=by
    by_cases G:a * s=0
    ·have O:a=0:=by
      rcases Nat.mul_eq_zero.1 G with h | h
      ·exact h
      ·omega
     simp[O]
    ·rw[if_neg G,D];exact i
   obtain⟨arr,d⟩ : ∃arr,arr=(Array.range (a * s)).map ((if a * s=0 then #[] else u.cells)[· % (if a * s=0 then #[] else u.cells).size]!):=⟨_,rfl⟩
   rw[<-d]at f
   have p:=Row.replicate B W Z a
   have q:arr.size=a * s:=by rw[<-oq,f];have:=p.len;simpa using this
   have K:(Instr.makeSlice t (.int kl m) (.int kc a)).run P w = .ok (.slice (some ⟨w.heap.size,0,none⟩) m a) (w.alloc (.cells arr e)):=by
    subst d
    by_cases G:a * s=0
    ·simp[Instr.makeSlice,az (cU U),asInt,asIntOf,typeInfo,j,L,C,H,o,E,F,aX Q,G,newRow]
    ·simp[Instr.makeSlice,az (cU U),asInt,asIntOf,typeInfo,j,L,C,H,o,E,F,aX Q,G,newRow,zeroValue,S]
   refine⟨_,_,K,?_⟩
   have I:=Row.replicate B W Z m
   have:=kB hS hr hq (w':=w.alloc (.cells arr e)) ⟨rfl,rfl,rfl,rfl⟩ I (by
    intro k v N
    rw[<-ri,f]
    have T:(List.replicate a u.cells.toList)=List.replicate m u.cells.toList++List.replicate (a - m) u.cells.toList:=by rw[List.replicate_append_replicate];congr 1;omega
    rw[T,List.flatten_append,dY (bL.1 N).1]
    exact N) (n:=a) (c:=a) q (oZ.zero _ _) (by simp;omega) (a7 _) (cap:=none) (by intro k N;cases N) c5
   simpa using this
  ·cases h
 ·cases h
end
end
section
section
variable{P:Program}{M:Mem}{ι:Map}{g:bD}{w:World}{r:Ref}
theorem sG(Y:cT M ι g w){t':Option TypeId}{e z:Nat}(hz:ay P e=some z)(L:0<z){x:AV}{R:Value}(y:VR M ι x R){new:List AV}
 (Q : ¬((t'.bind P.underlying).isNone=true\/(t'.map (isInt P)).getD false≠isNum x)) (h:hY P g e x=some (z,new)) : ∃us,Row M z new us/\App P w t' R e z new.length us:=by
 have A : ∃d,t'.bind P.underlying=some d/\(isNum x=false ->∀k,d ≠ .int k)/\(isNum x=true ->∃k,d = .int k):=by
  have f : ¬(t'.bind P.underlying).isNone=true:=λh=>Q (.inl h)
  have b:(t'.map (isInt P)).getD false=isNum x:=kD.1 λh=>Q (.inr h)
  cases t' with
  | none=>simp at f
  | some t=>
   simp only[cQ]at f ⊢
   cases K:P.underlying t with
   | none=>simp[K]at f
   | some d=>
    simp only[Option.map_some,bQ]at b
    refine⟨d,rfl,?_,?_⟩
    ·intro C k s
     subst s
     rw[C]at b
     simp[isInt,K]at b
    ·intro C
     rw[C]at b
     obtain⟨k,s⟩:=Dl b
     rw[K]at s
     exact⟨k,by simpa using s⟩
 obtain⟨d,G,j,I⟩:=A
 unfold hY at h
 split at h
 ·simp only[aC]at h
  obtain⟨S,N,h⟩:=h
  injection h with f b
  subst b
  cases y
  exact⟨[],Row.nil,.src G (j rfl) (λw'=>rfl) (λw' _=>rfl)⟩
 ·rename_i k n
  split at h
  ·rename_i wv S F N
   obtain⟨c,h⟩:=cc.1 h
   injection h with h
   injection h with f b
   subst f;subst b
   obtain⟨T,W,U,Z⟩:=c
   obtain⟨m,rfl⟩:=u7 T
   obtain⟨k',rfl⟩:=I rfl
   cases y
   obtain⟨u,i,H⟩:=mc F w
   have D : ∀w':World,(zeroValue e).run P w' = .ok u w':=by
    intro w'
    obtain⟨u',f,b⟩:=mc F w'
    obtain⟨it,v,p,l,J⟩:=jD F
    have V:(zeroValue e).run P w = .ok v w:=by simp[zeroValue,typeInfo,p,l]
    have X:(zeroValue e).run P w' = .ok v w':=by simp[zeroValue,typeInfo,p,l]
    rw[V]at i
    cases i
    exact X
   have J:=dO (M:=M) (ι:=bB) H
   have B:u.cells.size=S:=by have:=J.cells.1;simp at this;omega
   refine⟨_,Row.replicate J U Z m,?_⟩
   rw[Int.toNat_natCast]
   exact .zeros (kx:=k) u G (by simp) (by simpa using W) D B (by simp)
  ·cases h
 ·rename_i O q
  have o:isNum x=false:=by
   unfold isNum
   split
   ·exact absurd rfl (q _ _)
   ·rfl
  obtain⟨us,a⟩:=gI (P:=P) Y y L h
  refine⟨us,a.row,.src G (j o) a.lenOf λw' E=>?_⟩
  have:=a.first new.length w' (a7 _) E
  rwa [ej (by rw[a.len];exact a7 _)]at this
theorem oM{e z:Nat}(f:ay P e=some z){y:AV}(c:ep P e=some y)(h:y.cells.length=z) : ∃u,(∀w':World,(zeroValue e).run P w' = .ok u w')/\u.cells.size=z:=by
 obtain⟨it,v,a,b,d⟩:=jD c
 refine⟨v,λw'=>by simp[zeroValue,typeInfo,a,b],?_⟩
 have:=(dO (M:=λ_ _=>none) (ι:=bB) d).cells.1
 simp at this
 omega
theorem nu{olds us:List Value}{b:Value}{z n1 n2 cap:Nat}(d:olds.length=n1 * z)(f:us.length=n2 * z)(e:b.cells.size=z)(h:n1+n2<=cap) :
 (olds.toArray++us.toArray++Builtin.zeroCells b.cells (cap - (n1+n2))).size=cap * z /\
 ∀(k:Nat) u,(olds++us)[k]?=some u->(olds.toArray++us.toArray++Builtin.zeroCells b.cells (cap - (n1+n2)))[k]?=some u:=by
 constructor
 ·simp only[Array.size_append,List.size_toArray,size_zeroCells,e,d,f,<-fC]
  congr 1
  omega
 ·intro k u c
  have a:=(bL.1 c).1
  rw[yG (by simpa using a)]
  simpa using c
theorem nT{a:Option Addr}{len c z:Nat}{es:List AV}{us:List Value}{u:Value}(e:u = .slice a len c)(d:es.length=len)(h:Src P M w u z es us) :
 ∀w':World,w'.heap=w.heap->(Builtin.firstCells z len (.slice a len c)).run P w' = .ok us.toArray w':=by
 intro w' b
 have:=h.first es.length w' (a7 _) b
 rw[ej (by rw[h.len];exact a7 _),e,d]at this
 exact this
theorem sw(I:cT M ι g w)(hr:r.k=0)(hq:ι r=none){T:Array TypeId}{ty:TypeId}{s x y:AV}{us ux:Value}(S:VR M ι s us)(hx:VR M ι x ux){bs:List ax}
 (h:ec P g r T[0]? T[1]? s x=some (y,bs)) : ∃u w',(Builtin.append_ T ty #[us,ux]).run P w = .ok u w'/\dZ M ι g w r y bs u w':=by
 unfold ec at h
 split at h
 ·cases h
 ·rename_i e he
  simp only[dL]at he
  obtain⟨t,ht,he⟩:=he
  have hu:=cU he
  split at h
  ·cases h
  ·rename_i hc
   split at h
   ·rename_i z by' zz J new hz hb Kn Y
    split at h
    ·cases h
    ·rename_i i
     have R:J=z:=kD.1 λh=>i (.inl h)
     have D:0<z:=ng λh=>i (.inr (.inl h))
     have Ks:0<by':=ng λh=>i (.inr (.inr (.inl h)))
     have Q:zz.cells.length=z:=kD.1 λh=>i (.inr (.inr (.inr h)))
     have Kw:=R
     subst R
     obtain⟨Z,B,hA⟩:=sG (w:=w) I hz D hx hc Y
     have f:new=[] ->∀a len c,len<=c->us = .slice a len c->(Builtin.append_ T ty #[us,ux]).run P w = .ok us w:=by
      intro E a len c Kp G
      subst E
      have:Z=[]:=rj (by rw[B.len];simp)
      subst this
      rw[G]
      exact qI ht hu hz hb Kp hA
     have fresh : ∀ {a:Option Addr} {len c:Nat} {es:List AV} {us0:List Value},us = .slice a len c->es.length=len->Row M J es us0 ->
      (∀w':World,w'.heap=w.heap->(Builtin.firstCells J len (.slice a len c)).run P w' = .ok us0.toArray w')->c<len+new.length->(len+new.length) * by'<=aO ->
      ∃u w',(Builtin.append_ T ty #[us,ux]).run P w = .ok u w'/\dZ M ι g w r (.aD r 0 (len+new.length) none) [⟨J,es++new,true,false⟩] u w':=by
      intro a len c es us0 G C q V L d
      obtain⟨zv,Kr,U⟩:=oM hz Kn Q
      obtain⟨cap,w',x6,X,K⟩:=kN (P:=P) (w:=w) (ty:=ty) ht hu hz hb Kr U V hA L d Ks
      obtain⟨o,p⟩:=nu (olds:=us0) (us:=Z) (n1:=len) (n2:=new.length) (cap:=cap) (by rw[q.len,C]) B.len U x6
      refine⟨_,w',by rw[G];exact X,?_⟩
      have:=kB I hr hq K (q.append B) p (n:=cap) (c:=cap) o (oZ.zero _ _) (by simp;omega) (a7 _) (cap:=none) (by intro k W;cases W) D
      simp only[iU,C]at this
      exact this
     split at h
     ·
      cases S
      split at h
      ·rename_i E
       injection h with h;injection h with o p;subst o;subst p
       exact⟨_,w,f E none 0 0 (a7 _) rfl,dZ.same I (.v rfl)⟩
      ·rename_i E
       obtain⟨d,h⟩:=cc.1 h
       injection h with h;injection h with o p;subst o;subst p
       have Kx:0<new.length:=yx.2 E
       have:=fresh (a:=none) (len:=0) (c:=0) (es:=[]) (us0:=[]) rfl rfl Row.nil (λw' _=>rfl) (by omega) (by simpa using d)
       simpa using this
     ·
      rename_i n es cap
      split at h
      ·cases h
      ·rename_i H
       have H:n=J:=kD.1 H
       subst H
       have A:=S
       cases S with | cE cell Ku N W hm Kz hh=>
       rename_i a c
       split at h
       ·rename_i E
        injection h with h;injection h with o p;subst o;subst p
        exact⟨_,w,f E _ _ _ N rfl,dZ.same I A⟩
       ·cases cap with
        | some k=>
         obtain⟨⟨L,d⟩,h⟩:=cc.1 h
         injection h with h;injection h with o p;subst o;subst p
         have Kv:=W k rfl
         obtain⟨us0,j⟩:=gI (P:=P) (g:=g) (z:=n) (es:=es) I A D rfl
         exact fresh rfl rfl j.row (nT rfl rfl j) (by omega) d
        | none=>cases h
     ·
      rename_i r' F len cap
      split at h
      ·rename_i b Kq
       split at h
       ·cases h
       ·rename_i m
        have Kt:b.esz=J:=kD.1 λh=>m (.inl h)
        have O:b.arr=true:=by
         cases hh:b.arr with
         | true=>rfl
         | false=>exact absurd (.inr hh) m
        have A:=S
        cases S with | aD Ky KA Ku ha N E W Q=>
        rename_i l a c
        split at h
        ·rename_i Ko
         injection h with h;injection h with o p;subst o;subst p
         exact⟨_,w,f Ko _ _ _ N rfl,dZ.same I A⟩
        ·cases cap with
         | some k=>
          obtain⟨⟨hle,L,d⟩,h⟩:=cc.1 h
          injection h with h;injection h with o p;subst o;subst p
          have Kv:=W k rfl
          have C:aV g (.aD r' F len (some k))=some (J,(b.es.drop F).take len):=by
           simp only[aV,Kq,O,hle,and_self,if_true,Kt]
          obtain⟨us0,j⟩:=gI (P:=P) I A D C
          have hl:=(getElems b.es F len hle).1
          exact fresh rfl hl j.row (nT rfl hl j) (by omega) d
         | none=>cases h
      ·cases h
     ·cases h
   ·cases h
end
end
section
theorem aa.aj(H:aa)(r q:Ref)(b:Option ax):(H.put r b).get q=if q=r then b else H.get q:=by
 induction H with
 | nil=>
  simp only[aa.put,aa.get]
  by_cases h:q=r
  ·rw[if_pos h.symm,if_pos h]
  ·rw[if_neg (jB h),if_neg h]
 | cons p H e=>
  obtain⟨r',f⟩:=p
  simp only[aa.put]
  by_cases d:r'=r
  ·rw[if_pos d]
   simp only[aa.get]
   by_cases c:q=r
   ·rw[if_pos c.symm,if_pos c]
   ·rw[if_neg (jB c),if_neg c,if_neg (by rw[d];exact jB c)]
  ·rw[if_neg d]
   simp only[aa.get]
   by_cases a:r'=q
   ·rw[if_pos a,if_neg (by rw[<-a];exact d),if_pos a]
   ·rw[if_neg a,e,if_neg a]
theorem aa.b8(H:aa)(r:Ref)(b:Option ax)(h:(H.get r).isSome=true)(d t:Nat):(H.put r b).gen d t=H.gen d t:=by
 induction H with
 | nil=>simp[aa.get]at h
 | cons p H c=>
  obtain⟨r',e⟩:=p
  simp only[aa.put]
  by_cases a:r'=r
  ·rw[if_pos a,a];rfl
  ·rw[if_neg a]
   simp only[aa.gen]
   simp only[aa.get,if_neg a]at h
   rw[c h]
theorem aa.bu(R:List Ref) : ∀(H:aa),(aT H R).get=j7 H.get R:=by
 induction R with
 | nil=>intro H;funext q;simp[aT,j7]
 | cons r R e=>
  intro H
  funext q
  simp only[aT]
  split
  ·rename_i b d
   rw[e]
   unfold j7
   simp only[dg,aa.aj]
   by_cases a:q=r
   ·subst a
    simp[d]
   ·simp only[if_neg a]
    by_cases c:q∈R
    ·simp[c]
    ·simp[c,a]
  ·rename_i d
   rw[e]
   unfold j7
   simp only[dg]
   by_cases a:q=r
   ·subst a
    simp[d]
   ·by_cases c:q∈R
    ·simp[c]
    ·simp[c,a]
theorem aa.dq(R:List Ref) : ∀(H:aa)(d t:Nat),(aT H R).gen d t=H.gen d t:=by
 induction R with
 | nil=>intro H d t;rfl
 | cons r R a=>
  intro H d t
  simp only[aT]
  split
  ·rename_i b c
   rw[a,aa.b8 H r _ (by rw[c];rfl)]
  ·exact a H d t
theorem aa.nX(r:Ref) : ∀(c:List ax)(k:Nat)(H:aa)(q:Ref),(keyed r k c H).get q=if q.d=r.d/\q.t=r.t/\q.g=r.g/\k<=q.k/\q.k<k+c.length then c[q.k - k]? else H.get q:=by
 intro c
 induction c with
 | nil=>intro k H q;rw[if_neg (by intro h;simp only[ra]at h;omega)];rfl
 | cons b c f=>
  intro k H q
  simp only[keyed,f,aa.get,kC]
  by_cases a:q.d=r.d/\q.t=r.t/\q.g=r.g
  ·by_cases e:q.k=k
   ·rw[if_neg (by omega),if_pos (by cases q;cases r;simp_all),if_pos ⟨a.1,a.2.1,a.2.2,by omega,by omega⟩]
    simp[e]
   ·by_cases i:k+1<=q.k/\q.k<k+1+c.length
    ·rw[if_pos ⟨a.1,a.2.1,a.2.2,i⟩,if_pos ⟨a.1,a.2.1,a.2.2,by omega,by omega⟩]
     rw[show q.k - k=(q.k - (k+1))+1 by omega]
     simp
    ·rw[if_neg (by omega),if_neg (by intro h;apply e;rw[<-h]),if_neg (by omega)]
  ·rw[if_neg (by intro h;exact a ⟨h.1,h.2.1,h.2.2.1⟩),if_neg (by intro h;apply a;rw[<-h];exact⟨rfl,rfl,rfl⟩),if_neg (by intro h;exact a ⟨h.1,h.2.1,h.2.2.1⟩)]
theorem aa.fZ(r:Ref)(a:List ax)(H:aa):(keyed r 0 a H).get=jJ H.get r a:=by
 funext q
 rw[aa.nX]
 unfold jJ
 simp
theorem aa.fM(r:Ref) : ∀(c:List ax)(k:Nat)(H:aa)(d t:Nat),(keyed r k c H).gen d t=if d=r.d/\t=r.t/\c≠[] then r.g+1 else H.gen d t:=by
 intro c
 induction c with
 | nil=>intro k H d t;simp[keyed]
 | cons b c i=>
  intro k H d t
  simp only[keyed,i,aa.gen]
  by_cases h:d=r.d/\t=r.t
  ·obtain⟨rfl,rfl⟩:=h
   by_cases e:c=[]
   ·simp[e]
   ·simp[e]
  ·have f : ¬(r.d=d/\r.t=t):=λa=>h ⟨a.1.symm,a.2.symm⟩
   rw[if_neg (by intro a;exact h ⟨a.1,a.2.1⟩),if_neg f,if_neg (by intro a;exact h ⟨a.1,a.2.1⟩)]
def jA(ι:Map)(H:aa):Prop :=∀q l,ι q=some l->q.g<H.gen q.d q.t
theorem jA.fresh{ι:Map}{H:aa}(h:jA ι H)(d t k:Nat):ι ⟨d,t,H.gen d t,k⟩=none:=by
 cases a:ι ⟨d,t,H.gen d t,k⟩ with
 | none=>rfl
 | some l=>exact absurd (h _ l a) (od _)
section
variable{P:Program}{M:Mem}{ι:Map}{g:bD}{w:World}{r:Ref}
def hJ(M:Mem)(ι:Map)(H:aa)(w:World)(x:AV)(H':aa)(u:Value)(w':World):Prop:=
 ∃M' a,VR M' a x u/\cT M' a H'.get w'/\kb M ι H.get w M' a H'.get w'/\jA a H'
theorem dZ.HO{H:aa}{x:AV}{f:List ax}{u:Value}{w':World}(n:jA ι H){d t:Nat}(h:dZ M ι H.get w ⟨d,t,H.gen d t,0⟩ x f u w'):hJ M ι H w x (keyed ⟨d,t,H.gen d t,0⟩ 0 f H) u w':=by
 obtain⟨M',b,o,p,s,y⟩:=h
 refine⟨M',b,o,by rw[aa.fZ];exact p,by rw[aa.fZ];exact s,?_⟩
 intro q l m
 rw[aa.fM]
 cases i:ι q with
 | some v=>
  have:=n q v i
  split
  ·rename_i j;rw[j.1,j.2.1]at this;exact rb this
  ·exact this
 | none=>
  by_cases a : ∃k,k<f.length/\q = { (⟨d,t,H.gen d t,0⟩:Ref)with k:=k}
  ·obtain⟨k,a,rfl⟩:=a
   rw[if_pos ⟨rfl,rfl,by intro e;rw[e]at a;simp at a⟩]
   exact iT _
  ·rw[y q i (λk c e=>a ⟨k,c,e⟩)]at m
   cases m
theorem xf{cs new:List AV}{j:Nat}(h:j+new.length<=cs.length)(k:Nat):(patch cs j new)[k]?=if j<=k/\k<j+new.length then new[k - j]? else cs[k]?:=by
 unfold patch
 have b:(cs.take j).length=j:=by simp;omega
 rcases cr k j with a | a
 ·rw[om,dY (by omega),nh,if_pos a,if_neg (by omega)]
 ·rcases cr k (j+new.length)with c | c
  ·rw[om,fS (by omega),dY (by omega),if_pos ⟨a,c⟩,b]
  ·rw[fS (by simp;omega),oo,if_neg (by omega)]
   simp only[iU,b]
   congr 1
   omega
theorem Bm{x:AV}(h:x.one=true):x.cells=[x]:=by
 cases x<;>first | rfl | (simp[AV.one]at h)
theorem ve{e c:AV}{j:Nat}{new:List AV}(h:jC e j new=some c)(i:new.all AV.one=true):j+new.length<=e.cells.length/\c.cells=patch e.cells j new:=by
 have a : ∀x,(∀cs,e ≠ .agg cs)->j=0->new=[x]->c=x->j+new.length<=e.cells.length/\c.cells=patch e.cells j new:=by
  intro x b k l d
  have f:e.cells=[e]:=by cases e<;>first | rfl | exact absurd rfl (b _)
  subst k;subst l;subst d
  simp only[pS,List.all_nil,ry]at i
  rw[f,Bm i]
  exact⟨by simp,by simp[patch]⟩
 unfold jC at h
 split at h
 ·obtain⟨f,h⟩:=cc.1 h
  injection h with h
  subst h
  exact⟨f,rfl⟩
 ·rename_i b
  split at h
  ·injection h with h
   exact a _ (λcs d=>b cs d) rfl rfl h.symm
  ·cases h
theorem rI(R:cT M ι g w){k:ax}{l:Loc}{i j:Nat}{new es':List AV}(Q:g r=some k)(S:ι r=some l)(B:0<l.esz)(J:k.cS=false)(A:eA k.es i j new=some es')(K:new.all AV.one=true)
 {us:List Value} (q:fq M (k.map ι) new us) :
 ∃arr T fz,w.heap[l.b]?=some (.cells arr T fz)/\i * k.esz+j+us.length<=arr.size/\(∀o,o<arr.size ->¬(fz.1<=o/\(o<fz.2\/fz.2<fz.1)))/\(∀u∈us,u.oneCell'=true) /\
  cT M ι (fv g r { k with es:=es'}) (aJ w l.b (.cells (aZ arr (i * k.esz+j) us) T fz))/\kb M ι g w M ι (fv g r { k with es:=es'}) (aJ w l.b (.cells (aZ arr (i * k.esz+j) us) T fz)):=by
 have v:=R.at S B Q
 obtain⟨arr,T,fz,X,D,z,O⟩:=v.heap
 unfold eA at A
 split at A
 ·cases A
 ·rename_i e H
  simp only[aC]at A
  obtain⟨Y,N,rfl⟩:=A
  obtain⟨hle,d⟩:=ve N K
  have V:i<k.es.length:=(bL.1 H).1
  have I:=v.cells e (da H)
  have x6:=q.1
  have a:i * k.esz+j+us.length<=arr.size:=by
   have Z:(i+1) * k.esz<=l.n * k.esz:=fV _ (by have:=v.len;omega)
   rw[fC]at Z
   rw[D]
   omega
  have p : ∀u∈us,u.oneCell'=true:=by
   intro u hu
   obtain⟨m,hm,L⟩:=il hu
   have C:m<new.length:=by omega
   have:=q.2 m _ u (bG C) (by rw[<-L];exact bG hm)
   exact this.one (by simp only[dh]at K;exact K _ (eE C))
  obtain⟨h3,h4⟩:=R.write (k' := { k with es:=k.es.set i Y}) Q S B (arr:=aZ arr (i * k.esz+j) us) (T:=T) (fz:=fz) rfl rfl rfl (by rw[dS a];exact D)
   (by rw[dS a];exact z) (by simp;exact v.len)
   (by
    intro E G
    rcases yE G with h | h
    ·exact v.cells E h
    ·rw[h,d,<-I]
     simp[patch]
     omega)
   (by
    intro o x f
    have:=(v.frozen o x f).1
    rw[J]at this
    cases this)
   (by
    intro F t E x c f
    rw[dB a]
    by_cases s:i=F
    ·subst s
     rw[tW V]at c
     injection c with c
     subst c
     rw[d,xf hle]at f
     split at f
     ·rename_i U
      rw[if_pos (by omega),show i * k.esz+t - (i * k.esz+j)=t - j by omega]
      have y:t - j<us.length:=by omega
      exact⟨us[t - j],bG y,p _ (eE y),q.2 _ _ _ f (bG y)⟩
     ·rename_i U
      rw[if_neg (by omega)]
      exact O i t e x H f
    ·rw[rG s]at c
     have W:t<k.esz:=by
      rw[<-v.cells E (da c)]
      exact(bL.1 f).1
     rw[if_neg]
     ·exact O F t E x c f
     ·rcases yw s with h | h
      ·have:(i+1) * k.esz<=F * k.esz:=fV _ h
       rw[fC]at this
       omega
      ·have:(F+1) * k.esz<=i * k.esz:=fV _ h
       rw[fC]at this
       omega)
  exact⟨arr,T,fz,X,a,z.1,p,h3,h4⟩
theorem nj{t:TypeId}{n:Nat}(f:ay P t=some n){b o:Nat}{u:Value}(e:u.cells.size=n){arr:Array Value}{T:TypeId}{fz:Nat × Nat}(h:w.heap[b]?=some (.cells arr T fz))
 (a:o+u.cells.toList.length<=arr.size) (c : ∀o,o<arr.size ->¬(fz.1<=o/\(o<fz.2\/fz.2<fz.1))) (d : ∀x∈u.cells.toList,x.oneCell'=true) :
 (Instr.storeAt t (.pointer (some ⟨b,o,none⟩)) u).run P w = .ok () (aJ w b (.cells (aZ arr o u.cells.toList) T fz)):=by
 have:=fY (P:=P) o u.cells.toList 0 arr w h (by simpa using a) c d
 simp only[oc]at this
 simp[Instr.storeAt,Instr.sureAddr,storeVar,aX f,e,this]
theorem jT(H:aa)(r:Ref)(k:ax):(H.put r (some k)).get=fv H.get r k:=by
 funext q
 rw[aa.aj]
 rfl
theorem AP{H:aa}(z:cT M ι H.get w)(hD:jA ι H){t:TypeId}{a x y:AV}{ua d:Value}(ha:VR M ι a ua)(hx:VR M ι x d){H':aa}(h:eB P H t (some a) (some x)=some (y,H')) :
 ∃w',(Instr.storeAt t ua d).run P w = .ok () w'/\hJ M ι H w y H' undef w':=by
 unfold eB at h
 split at h
 ·rename_i r' i j x' n C K hn
  injection C with C;injection K with K
  subst C;subst K
  cases ha with | ptr X f=>
  rename_i l
  split at h
  ·rename_i b A
   obtain⟨⟨x6,G,m⟩,h⟩:=cc.1 h
   obtain⟨l',s,u⟩:=z.live r' b A
   rw[X]at s;cases s
   have o:=hx.cells
   have k:d.cells.size=n:=by have:=o.1;simp at this;omega
   split at h
   ·rename_i c
    split at h
    ·rename_i y' W
     split at h
     ·cases h
     ·rename_i B
      obtain⟨V,h⟩:=cc.1 h
      simp only[aC]at h
      obtain⟨es',e,h⟩:=h
      injection h with Q S
      subst Q;subst S
      obtain⟨D,N⟩:=nx (R:=ab H.get depth x) z
      have hv:=pf z depth x y' d W (λr hr=>hr) hx
      have p:j7 H.get (ab H.get depth x) r'=some b:=by unfold j7;rw[if_neg B];exact A
      have Z:=hv.cells
      obtain⟨arr,T,fz,U,L,O,J,F,I⟩:=rI D p X f m e V (us:=d.cells.toList) (by rw[ax.map,if_pos c];exact Z)
      refine⟨aJ w l.b (.cells (aZ arr (i * b.esz+j) d.cells.toList) T fz),?_,eU M ι H.get w (ab H.get depth x),ι,.v rfl,?_,?_,?_⟩
      ·rw[u.esz]
       exact nj hn k U L O J
      ·rw[jT,aa.bu];exact F
      ·rw[jT,aa.bu];exact N.trans I
      ·intro q E Y
       rw[aa.b8 _ _ _ (by rw[aa.bu,p];rfl),aa.dq]
       exact hD q E Y
    ·cases h
   ·rename_i c
    simp only[aC]at h
    obtain⟨es',e,h⟩:=h
    injection h with Q S
    subst Q;subst S
    obtain⟨arr,T,fz,U,L,O,J,F,I⟩:=rI z A X f m e G (us:=d.cells.toList) (by rw[ax.map,if_neg c];exact o)
    refine⟨aJ w l.b (.cells (aZ arr (i * b.esz+j) d.cells.toList) T fz),?_,M,ι,.v rfl,?_,?_,?_⟩
    ·rw[u.esz]
     exact nj hn k U L O J
    ·rw[jT];exact F
    ·rw[jT];exact I
    ·intro q E Y
     rw[aa.b8 _ _ _ (by rw[A];rfl)]
     exact hD q E Y
  ·cases h
 ·cases h
end
end
section
section
variable{P:Program}{M:Mem}{ι:Map}{g:bD}{w:World}{r:Ref}
def jy(g:bD)(r:Ref):bD:=λq=>if q=r then none else g q
theorem Ar(b:cT M ι g w)(r:Ref):cT M ι (jy g r) w/\kb M ι g w M ι (jy g r) w:=by
 have a : ∀ {q k},jy g r q=some k->g q=some k:=by
  intro q k h
  unfold jy at h
  split at h
  ·cases h
  ·exact h
 exact⟨⟨b.mem,λq k h=>b.live q k (a h),λq c k k' l d h e=>b.inj q c k k' l d (a h) (a e)⟩,
  ⟨rfl,rfl,rfl,a7 _,λ_ _ _=>rfl,λ_ _ _ h=>h,λ_ _ h=>h,λq k l h f => .inr ⟨q,k,l,a h,f,rfl⟩,λ_ _ _ h => .inl h⟩⟩
theorem uh(t:cT M ι g w){r q:Ref}{k k':ax}{l:Loc}(E:g r=some k)(B:ι r=some l)(hq:ι q=none){arr':Array Value}{w':World}
 (hw : ∃arr T fz,w.heap[l.b]?=some (.cells arr T fz)/\arr.size=arr'.size/\w'=aJ w l.b (.cells arr' T fz)) (a:k'.esz=k.esz) (H:k'.arr=true) (z:k.arr=true) (N:k'.cS=k.cS)
 (C : ∀(o:Nat) u,o<k.es.length * k.esz ->∀arr T fz,w.heap[l.b]?=some (.cells arr T fz)->arr[o]?=some u->arr'[o]?=some u)
 (V:k'.es.length<=l.n) (Ko:k.es.length<=k'.es.length) (s : ∀e∈k'.es,e.cells.length=k.esz)
 (hc : ∀(i j:Nat) e x,k'.es[i]?=some e->e.cells[j]?=some x ->∃u,arr'[i * k.esz+j]?=some u/\u.oneCell'=true/\VR M bB x u) :
 cT M (dm ι q l) (fv (jy g r) q k') w'/\kb M ι g w M (dm ι q l) (fv (jy g r) q k') w':=by
 obtain⟨arr,T,fz,Y,R,c⟩:=hw
 obtain⟨l',X,y⟩:=t.live r k E
 rw[B]at X;cases X
 have I:=y.pos z
 replace y:=y.cellsOk I
 obtain⟨Kp,T0,Ks,Q,h1,h2,h3⟩:=y.heap
 rw[Y]at Q;cases Q
 have U:=y.lt
 have m:=qR (l:=l) hq
 have Kq:q≠r:=by intro e;rw[e,B]at hq;cases hq
 refine⟨⟨?_,?_,?_⟩,?_⟩
 ·intro b o x A
  by_cases W:l.b=b
  ·subst W
   have ho:=(y.frozen o x A).2
   have K:=t.mem _ _ _ A
   rw[dU Y]at K
   rw[dU (by rw[c];exact cV U)]
   exact C o x ho arr T fz Y K
  ·rw[World.cell?_of_block (w:=w) (by rw[c];exact cu W)]
   exact t.mem b o x A
 ·intro r' k1 p
  unfold fv at p
  split at p
  ·rename_i e
   subst e
   injection p with p
   subst p
   refine⟨l,by simp[dm],cy.BM ⟨by rw[y.esz,a],⟨arr',T,fz,by rw[c];exact cV U,by rw[<-R,a];exact h1,by rw[<-R,a];exact h2,?_⟩,V,by rw[a];exact s,?_⟩ (by rw[a];exact I)⟩
   ·intro i j e x he A
    rw[a]
    obtain⟨u,hu,ho,hv⟩:=hc i j e x he A
    refine⟨u,hu,ho,?_⟩
    rw[ax.map,if_pos H]
    exact hv
   ·intro o x A
    rw[N,a]
    have:=y.frozen o x A
    exact⟨this.1,o9 this.2 (fV _ Ko)⟩
  ·rename_i Kr
   unfold jy at p
   split at p
   ·cases p
   ·rename_i F
    obtain⟨f,L,S⟩:=t.live r' k1 p
    have Kn:l.b≠f.b:=λe=>F (t.inj r' r k1 k f l p E L B e.symm)
    exact⟨f,m r' f L,S.bm (λ_ _ _ h=>h) m (by rw[c];exact cu Kn) S.frozen⟩
 ·have v : ∀ {r1 k1 f},fv (jy g r) q k' r1=some k1->dm ι q l r1=some f->(r1=q/\f=l)\/(r1≠q/\r1≠r/\g r1=some k1/\ι r1=some f):=by
   intro r1 k1 f h d
   unfold fv at h
   unfold dm at d
   split at h
   ·rename_i e;rw[if_pos e]at d;injection d with d;exact .inl ⟨e,d.symm⟩
   ·rename_i e
    rw[if_neg e]at d
    unfold jy at h
    split at h
    ·cases h
    ·rename_i e';exact .inr ⟨e,e',h,d⟩
  intro r1 r2 k1 k2 f l2 h1 h2 h3 h4 h5
  rcases v h1 h3 with ⟨e1,Z⟩ | ⟨e1,Z,e3,e4⟩<;>rcases v h2 h4 with ⟨J,D⟩ | ⟨J,D,G,O⟩
  ·rw[e1,J]
  ·exact absurd (t.inj r r2 k k2 l l2 E G B O (by rw[<-Z];exact h5)).symm D
  ·exact absurd (t.inj r r1 k k1 l f E e3 B e4 (by rw[<-D];exact h5.symm)).symm Z
  ·exact t.inj r1 r2 k1 k2 f l2 e3 G e4 O h5
 ·refine⟨by rw[c];rfl,by rw[c];rfl,by rw[c];rfl,by rw[c];simp[aJ],?_,λ_ _ _ h=>h,m,?_,λ_ _ _ h => .inl h⟩
  ·intro b _ x6
   rw[c]
   exact cu (x6 r k l E B)
  ·intro r1 k1 f h d
   unfold fv at h
   unfold dm at d
   split at h
   ·rename_i e;rw[if_pos e]at d;injection d with d;subst d;exact .inr ⟨r,k,l,E,B,rfl⟩
   ·rename_i e
    rw[if_neg e]at d
    unfold jy at h
    split at h
    ·cases h
    ·exact .inr ⟨r1,k1,f,h,d,rfl⟩
theorem get_append(H:aa)(q r:Ref)(k:ax)(b:q≠r):aa.get ((q,some k) :: H.put r none)=fv (jy H.get r) q k:=by
 funext x
 simp only[aa.get,aa.aj]
 unfold fv jy
 by_cases a:q=x
 ·subst a;simp
 ·rw[if_neg a,if_neg (jB a)]
theorem zw(H:aa)(r:Ref)(k:ax)(a:(H.get r).isSome=true)(d t:Nat) :
 aa.gen ((⟨r.d,r.t,H.gen r.d r.t,0⟩,some k) :: H.put r none) d t=if r.d=d/\r.t=t then H.gen r.d r.t+1 else H.gen d t:=by
 simp only[aa.gen]
 split
 ·rfl
 ·rw[aa.b8 H r none a]
theorem rN{H:aa}(hS:cT M ι H.get w)(hD:jA ι H){ts:Array TypeId}{ty:TypeId}{s x y:AV}{us ux:Value}(hs:VR M ι s us)(hx:VR M ι x ux){H':aa}
 (h:fg P H ts[0]? ts[1]? s x=some (y,H')) : ∃u w',(Builtin.append_ ts ty #[us,ux]).run P w = .ok u w'/\hJ M ι H w y H' u w':=by
 unfold fg at h
 split at h
 ·cases h
 ·rename_i e he
  simp only[dL]at he
  obtain⟨t,ht,he⟩:=he
  have hu:=cU he
  split at h
  ·cases h
  ·rename_i hc
   split at h
   ·rename_i z by' zz ez new hz hb KH J
    split at h
    ·cases h
    ·rename_i f
     have KL:ez=z:=kD.1 λh=>f (.inl h)
     have R:0<z:=ng λh=>f (.inr (.inl h))
     have KD:0<by':=ng λh=>f (.inr (.inr (.inl h)))
     have KB:new≠[]:=λh=>f (.inr (.inr (.inr (.inl h))))
     have KK:zz.cells.length=z:=kD.1 λh=>f (.inr (.inr (.inr (.inr h))))
     subst KL
     obtain⟨S,m,hA⟩:=sG (w:=w) hS hz R hx hc J
     split at h
     ·rename_i r' KT len
      split at h
      ·rename_i b O
       obtain⟨⟨Kr,E,KN,hlen,G⟩,h⟩:=cc.1 h
       injection h with h;injection h with h1 h2;subst h1;subst h2
       subst Kr
       subst hlen
       subst KN
       have KA:=hs
       cases hs with | aD Kp Ky Kx ha KV hn hk V=>
       rename_i l a c
       have hq:=hD.fresh r'.d r'.t 0
       have Q:(⟨r'.d,r'.t,H.gen r'.d r'.t,0⟩:Ref)≠r':=by intro e;rw[e,Kp]at hq;cases hq
       have Kn:=hS.at Kp V O
       obtain⟨arr,T,fz,hh,KE,KG,N⟩:=Kn.heap
       have KR:0<new.length:=yx.2 KB
       have KI:aV H.get (.aD r' 0 b.es.length none)=some (b.esz,(b.es.drop 0).take b.es.length):=by
        simp[aV,O,E]
       obtain⟨us0,B⟩:=gI (P:=P) hS KA R KI
       have KM:(b.es.drop 0).take b.es.length=b.es:=by simp
       rw[KM]at B
       have U : ∀Ko:Map,(∀q,ι q=none->q≠⟨r'.d,r'.t,H.gen r'.d r'.t,0⟩->Ko q=none)->jA Ko ((⟨r'.d,r'.t,H.gen r'.d r'.t,0⟩,some ⟨b.esz,b.es++new,true,b.cS⟩) :: H.put r' none):=by
        intro Ko KF q lq Kt
        rw[zw H r' _ (by rw[O];rfl)]
        cases D:ι q with
        | some l0=>
         have:=hD q l0 D
         split
         ·rename_i W;rw[<-W.1,<-W.2]at this;exact rb this
         ·exact this
        | none=>
         by_cases Kw:q=⟨r'.d,r'.t,H.gen r'.d r'.t,0⟩
         ·subst Kw
          rw[if_pos ⟨rfl,rfl⟩]
          exact iT _
         ·rw[KF q D Kw]at Kt
          cases Kt
       by_cases X:b.es.length+new.length<=c
       ·
        have I:a.off=0:=by
         rcases ha with h | h
         ·omega
         ·simpa using h
        have KJ:0+c<=l.n:=by
         rcases hn with h | h
         ·omega
         ·exact h
        have KO:a=⟨l.b,0,none⟩:=by rw[eu Kx,Ky,I]
        have F:0+b.es.length * b.esz+S.length<=arr.size:=by
         rw[m.len,KE,lS,<-fC]
         exact fV _ (by omega)
        have C:=oy (P:=P) (w:=w) (ty:=ty) ht hu hz hb (b:=l.b) (o:=0) hA X G hh F KG.1 m.one
        rw[lS]at C F
        obtain⟨h3,h4⟩:=uh (M:=M) (q:=⟨r'.d,r'.t,H.gen r'.d r'.t,0⟩) (k':=⟨b.esz,b.es++new,true,b.cS⟩) hS O Kp hq (arr':=aZ arr (b.es.length * b.esz) S)
         ⟨arr,T,fz,hh,(dS F).symm,rfl⟩ rfl rfl E rfl
         (by
          intro o u ho KQ T1 KS Kv p
          rw[hh]at Kv;cases Kv
          rw[dB F,if_neg (by omega)]
          exact p)
         (by simp;omega) (by simp) (by
          intro L Kz
          rcases fc.1 Kz with h | h
          ·exact Kn.cells L h
          ·exact m.tG L h)
         (by
          intro i j L x1 D A
          rw[dB F]
          rcases cr i b.es.length with x6 | Ks
          ·rw[dY x6]at D
           have hj:j<b.esz:=by
            rw[<-Kn.cells L (da D)]
            exact(bL.1 A).1
           have:=p7 x6 hj
           rw[if_neg (by omega)]
           obtain⟨u,p,ho,hv⟩:=N i j L x1 D A
           rw[ax.map,if_pos E]at hv
           exact⟨u,p,ho,hv⟩
          ·rw[fS Ks]at D
           obtain⟨u,p,hv⟩:=m.vr _ j L x1 D A
           have x6:=(bL.1 p).1
           have KP:b.es.length * b.esz<=i * b.esz:=fV _ Ks
           have KU:(i - b.es.length) * b.esz=i * b.esz - b.es.length * b.esz:=rm _ _ _
           rw[if_pos (by omega),show i * b.esz+j - b.es.length * b.esz=(i - b.es.length) * b.esz+j by omega]
           exact⟨u,p,m.one u (da p),hv⟩)
        refine⟨.slice (some a) (b.es.length+new.length) c,_,by rw[KO];exact C,M,_,?_,by rw[get_append H _ r' _ Q];exact h3,by rw[get_append H _ r' _ Q];exact h4,?_⟩
        ·exact .aD (l:=l) (by simp[dm]) Ky Kx (.inr (by rw[I];simp)) X (.inr KJ) (by intro k hk;cases hk) V
        ·exact U _ (by intro q Y Kq;simp[dm,Kq,Y])
       ·
        obtain⟨zv,KC,Ku⟩:=oM hz KH KK
        obtain⟨cap,w',K,C,Z⟩:=kN (P:=P) (w:=w) (ty:=ty) ht hu hz hb KC Ku (nT (a:=some a) (len:=b.es.length) (c:=c) rfl rfl B) hA (by omega) G KD
        obtain⟨h1,h2⟩:=nu (olds:=us0) (us:=S) (n1:=b.es.length) (n2:=new.length) (cap:=cap) B.len m.len Ku K
        obtain⟨h3,h4⟩:=Ar hS r'
        have v:=B.row.append m
        have J : ∀(i j:Nat) e x,(b.es++new)[i]?=some e->e.cells[j]?=some x ->∃u,(us0.toArray++S.toArray++Builtin.zeroCells zv.cells (cap - (b.es.length+new.length)))[i * b.esz+j]?=some u/\u.oneCell'=true/\VR M bB x u:=by
         intro i j L x1 D A
         obtain⟨u,p,hv⟩:=v.vr i j L x1 D A
         exact⟨u,h2 _ _ p,v.one u (da p),hv⟩
        obtain⟨h5,h6⟩:=h3.alloc (q:=⟨r'.d,r'.t,H.gen r'.d r'.t,0⟩) hq Z ⟨b.esz,b.es++new,true,b.cS⟩ R cap h1 (oZ.zero _ _) (by simpa using K) v.tG
         (by intro i j L x1 D A;rw[ax.map,if_pos rfl];exact J i j L x1 D A)
        refine⟨_,w',C,M,_,?_,by rw[get_append H _ r' _ Q];exact h5,by rw[get_append H _ r' _ Q];exact h4.trans h6,?_⟩
        ·exact .aD (l:=⟨w.heap.size,b.esz,cap⟩) (by simp[dm]) rfl rfl (.inr (by simp)) K (.inr (by simp)) (by intro k hk;cases hk) R
        ·exact U _ (by intro q Y Kq;simp[dm,Kq,Y])
      ·cases h
     ·cases h
   ·cases h
theorem wD{H:aa}(hS:cT M ι g w){ts:Array TypeId}{ty:TypeId}{s x y:AV}{us ux:Value}(hs:VR M ι s us)(hx:VR M ι x ux){H':aa}
 (KG : ∀r',fG s=some r'->H.get r'≠none->g r'=H.get r') (KL : ∀e p,hY P H.get e x=some p->hY P g e x=some p) (Y : ∀r',fG s=some r'->H.get r'≠none->ι ⟨r'.d,r'.t,H.gen r'.d r'.t,0⟩=none)
 (h:fg P H ts[0]? ts[1]? s x=some (y,H')) : ∃r' b k',fG s=some r'/\H.get r'=some b/\(⟨r'.d,r'.t,H.gen r'.d r'.t,0⟩:Ref)≠r'/\H'=(⟨r'.d,r'.t,H.gen r'.d r'.t,0⟩,some k') :: H.put r' none /\
  ∃u w' Q,(Builtin.append_ ts ty #[us,ux]).run P w = .ok u w'/\VR M Q y u/\cT M Q (fv (jy g r') ⟨r'.d,r'.t,H.gen r'.d r'.t,0⟩ k') w'/\kb M ι g w M Q (fv (jy g r') ⟨r'.d,r'.t,H.gen r'.d r'.t,0⟩ k') w' /\
   ∀q,ι q=none->q≠⟨r'.d,r'.t,H.gen r'.d r'.t,0⟩->Q q=none:=by
 unfold fg at h
 split at h
 ·cases h
 ·rename_i e he
  simp only[dL]at he
  obtain⟨t,ht,he⟩:=he
  have hu:=cU he
  split at h
  ·cases h
  ·rename_i hc
   split at h
   ·rename_i z by' zz ez new hz hb KE J
    split at h
    ·cases h
    ·rename_i f
     have KJ:ez=z:=kD.1 λh=>f (.inl h)
     have S:0<z:=ng λh=>f (.inr (.inl h))
     have KB:0<by':=ng λh=>f (.inr (.inr (.inl h)))
     have Kz:new≠[]:=λh=>f (.inr (.inr (.inr (.inl h))))
     have KI:zz.cells.length=z:=kD.1 λh=>f (.inr (.inr (.inr (.inr h))))
     subst KJ
     obtain⟨U,m,hA⟩:=sG (w:=w) hS hz S hx hc (KL _ _ J)
     split at h
     ·rename_i r' KT len
      split at h
      ·rename_i b O
       obtain⟨⟨Kr,E,KN,hlen,G⟩,h⟩:=cc.1 h
       injection h with h;injection h with h1 h2;subst h1;subst h2
       subst Kr
       subst hlen
       subst KN
       have Ky:=hs
       cases hs with | aD Ko Kw Kv ha KV hn hk V=>
       rename_i l a c
       have hq:=Y r' rfl (by rw[O];simp)
       have Kq:g r'=some b:=by rw[KG r' rfl (by rw[O];simp),O]
       have KK:(⟨r'.d,r'.t,H.gen r'.d r'.t,0⟩:Ref)≠r':=by intro e;rw[e,Ko]at hq;cases hq
       have Kn:=hS.at Ko V Kq
       obtain⟨arr,T,fz,hh,KC,KD,N⟩:=Kn.heap
       have KR:0<new.length:=yx.2 Kz
       have KF:aV g (.aD r' 0 b.es.length none)=some (b.esz,(b.es.drop 0).take b.es.length):=by
        simp[aV,Kq,E]
       obtain⟨us0,C⟩:=gI (P:=P) hS Ky S KF
       have KM:(b.es.drop 0).take b.es.length=b.es:=by simp
       rw[KM]at C
       refine⟨r',b,⟨b.esz,b.es++new,true,b.cS⟩,rfl,O,KK,rfl,?_⟩
       by_cases W:b.es.length+new.length<=c
       ·
        have I:a.off=0:=by
         rcases ha with h | h
         ·omega
         ·simpa using h
        have KH:0+c<=l.n:=by
         rcases hn with h | h
         ·omega
         ·exact h
        have KO:a=⟨l.b,0,none⟩:=by rw[eu Kv,Kw,I]
        have F:0+b.es.length * b.esz+U.length<=arr.size:=by
         rw[m.len,KC,lS,<-fC]
         exact fV _ (by omega)
        have D:=oy (P:=P) (w:=w) (ty:=ty) ht hu hz hb (b:=l.b) (o:=0) hA W G hh F KD.1 m.one
        rw[lS]at D F
        obtain⟨h3,h4⟩:=uh (M:=M) (q:=⟨r'.d,r'.t,H.gen r'.d r'.t,0⟩) (k':=⟨b.esz,b.es++new,true,b.cS⟩) hS Kq Ko hq (arr':=aZ arr (b.es.length * b.esz) U)
         ⟨arr,T,fz,hh,(dS F).symm,rfl⟩ rfl rfl E rfl
         (by
          intro o u ho KQ T1 KS Ku v
          rw[hh]at Ku;cases Ku
          rw[dB F,if_neg (by omega)]
          exact v)
         (by simp;omega) (by simp) (by
          intro L Kx
          rcases fc.1 Kx with h | h
          ·exact Kn.cells L h
          ·exact m.tG L h)
         (by
          intro i j L x1 R B
          rw[dB F]
          rcases cr i b.es.length with x6 | Ks
          ·rw[dY x6]at R
           have hj:j<b.esz:=by
            rw[<-Kn.cells L (da R)]
            exact(bL.1 B).1
           have:=p7 x6 hj
           rw[if_neg (by omega)]
           obtain⟨u,v,ho,hv⟩:=N i j L x1 R B
           rw[ax.map,if_pos E]at hv
           exact⟨u,v,ho,hv⟩
          ·rw[fS Ks]at R
           obtain⟨u,v,hv⟩:=m.vr _ j L x1 R B
           have x6:=(bL.1 v).1
           have KP:b.es.length * b.esz<=i * b.esz:=fV _ Ks
           have KU:(i - b.es.length) * b.esz=i * b.esz - b.es.length * b.esz:=rm _ _ _
           rw[if_pos (by omega),show i * b.esz+j - b.es.length * b.esz=(i - b.es.length) * b.esz+j by omega]
           exact⟨u,v,m.one u (da v),hv⟩)
        refine⟨.slice (some a) (b.es.length+new.length) c,_,_,by rw[KO];exact D,?_,h3,h4,?_⟩
        ·exact .aD (l:=l) (by simp[dm]) Kw Kv (.inr (by rw[I];simp)) W (.inr KH) (by intro k hk;cases hk) V
        ·intro q X Kp;simp[dm,Kp,X]
       ·
        obtain⟨zv,KA,Kt⟩:=oM hz KE KI
        obtain⟨cap,w',K,D,Z⟩:=kN (P:=P) (w:=w) (ty:=ty) ht hu hz hb KA Kt (nT (a:=some a) (len:=b.es.length) (c:=c) rfl rfl C) hA (by omega) G KB
        obtain⟨h1,h2⟩:=nu (olds:=us0) (us:=U) (n1:=b.es.length) (n2:=new.length) (cap:=cap) C.len m.len Kt K
        obtain⟨h3,h4⟩:=Ar hS r'
        have A:=C.row.append m
        have J : ∀(i j:Nat) e x,(b.es++new)[i]?=some e->e.cells[j]?=some x ->∃u,(us0.toArray++U.toArray++Builtin.zeroCells zv.cells (cap - (b.es.length+new.length)))[i * b.esz+j]?=some u/\u.oneCell'=true/\VR M bB x u:=by
         intro i j L x1 R B
         obtain⟨u,v,hv⟩:=A.vr i j L x1 R B
         exact⟨u,h2 _ _ v,A.one u (da v),hv⟩
        obtain⟨h5,h6⟩:=h3.alloc (q:=⟨r'.d,r'.t,H.gen r'.d r'.t,0⟩) hq Z ⟨b.esz,b.es++new,true,b.cS⟩ S cap h1 (oZ.zero _ _) (by simpa using K) A.tG
         (by intro i j L x1 R B;rw[ax.map,if_pos rfl];exact J i j L x1 R B)
        refine⟨_,w',_,D,?_,h5,h4.trans h6,?_⟩
        ·exact .aD (l:=⟨w.heap.size,b.esz,cap⟩) (by simp[dm]) rfl rfl (.inr (by simp)) K (.inr (by simp)) (by intro k hk;cases hk) S
        ·intro q X Kp;simp[dm,Kp,X]
      ·cases h
     ·cases h
   ·cases h
theorem rM{H:aa}(F:cT M ι H.get w)(B:jA ι H){d a:Nat}{t:TypeId}{n:Nat}{o:List (Nat × AV)}{qs:Array (Nat × Value)}{x:AV}{H':aa}
 (h:eF P H ⟨d,a,H.gen d a,0⟩ t n (some o)=some (x,H')) (U:o.length=qs.toList.length)
 (hp : ∀(i:Nat) p q,o[i]?=some p->qs.toList[i]?=some q->p.1=q.1/\VR M ι p.2 q.2) :
 ∃u w',(Instr.buildSlice t n qs).run P w = .ok u w'/\hJ M ι H w x H' u w':=by
 simp only[eF,aC]at h
 obtain⟨b,I,h⟩:=h
 injection h with O Z
 subst O;subst Z
 obtain⟨h1,h2,S,e,arr,h4,K,X⟩:=sI F I U hp
 obtain⟨C,W⟩:=nx (R:=aP H.get (o.map (·.2))) F
 have E:b=⟨b.esz,b.es,true,false⟩:=by cases b;simp_all
 have s:pR w (w.alloc (.cells arr e)) (.cells arr e (0,0)):=⟨rfl,rfl,rfl,rfl⟩
 have D:=B.fresh d a 0
 have f:=kB (r:=⟨d,a,H.gen d a,0⟩) C rfl D s X (λk u V=>by simpa using V) (n:=n) (c:=n) K (oZ.zero _ _) (by omega) (a7 _) (cap:=some n) (by intro k A;cases A;rfl) (qv I)
 rw[S,<-E]at f
 have x6:jA ι (aT H (aP H.get (o.map (·.2)))):=by
  intro q l D
  rw[aa.dq]
  exact B q l D
 obtain⟨M',m,Q,N,T,L⟩:=f
 have j:aa.get (((⟨d,a,H.gen d a,0⟩:Ref),some b) :: aT H (aP H.get (o.map (·.2))))=jJ (j7 H.get (aP H.get (o.map (·.2)))) ⟨d,a,H.gen d a,0⟩ [b]:=by
  rw[jk _ _ rfl]
  funext q
  simp only[aa.get,aa.bu]
  unfold fv
  by_cases z:q=⟨d,a,H.gen d a,0⟩
  ·rw[if_pos z.symm,if_pos z]
  ·rw[if_neg (jB z),if_neg z]
 refine⟨_,_,h4,M',m,Q,?_,?_,?_⟩
 ·show cT M' m (aa.get (_ :: _)) _
  rw[j];exact N
 ·show kb M ι H.get w M' m (aa.get (_ :: _)) _
  rw[j];exact W.trans T
 ·intro q l v
  simp only[aa.gen,aa.dq]
  cases G:ι q with
  | some Y=>
   have:=B q Y G
   split
   ·rename_i J;rw[<-J.1,<-J.2]at this;exact rb this
   ·exact this
  | none=>
   by_cases A:q=⟨d,a,H.gen d a,0⟩
   ·subst A
    rw[if_pos ⟨rfl,rfl⟩]
    exact iT _
   ·rw[L q G (λk y e=>A (by rw[e];simp at y;rw[y]))]at v
    cases v
theorem Row.sub{z es us}(h:Row M z es us)(n:Nat):Row M z (es.take n) (us.take (n * z)):=by
 refine⟨?_,λe a=>h.tG e (m0 a),λx b=>h.one x (m0 b),?_⟩
 ·rw[ik,ik,h.len]
  rcases Nat.le_total n es.length with hle | hle
  ·rw[o8 hle,o8 (fV _ hle)]
  ·rw[yn hle,yn (fV _ hle)]
 ·intro i j e x a b
  rw[nh]at a
  split at a
  ·rename_i d
   obtain⟨u,c,f⟩:=h.vr i j e x a b
   have k:j<z:=by
    rw[<-h.tG e (da a)]
    exact(bL.1 b).1
   refine⟨u,?_,f⟩
   rw[nh,if_pos (p7 d k)]
   exact c
  ·cases a
theorem Ci{H:aa}(hS:cT M ι H.get w)(hD:jA ι H){ts:Array TypeId}{ty:TypeId}{s x y:AV}{us ux:Value}(hs:VR M ι s us)(hx:VR M ι x ux){H':aa}
 (h:pd P H ts[0]? s x=some (y,H')) : ∃u w',(Builtin.copy_ ts ty #[us,ux]).run P w = .ok u w'/\hJ M ι H w y H' u w':=by
 unfold pd at h
 split at h
 ·cases h
 ·rename_i e he
  simp only[dL]at he
  obtain⟨t,ht,he⟩:=he
  have hu:=cU he
  split at h
  ·cases h
  ·rename_i z hz
   split at h
   ·cases h
   ·rename_i ez f A
    split at h
    ·cases h
    ·rename_i F
     have Ko:ez=z:=kD.1 λh=>F (.inl h)
     have Ku:0<z:=ng λh=>F (.inr h)
     subst Ko
     have Kp : ∃p,Src P M w ux ez f p:=by
      split at A
      ·rename_i hn
       injection A with A
       injection A with h1 Z
       subst Z
       have:ux = .slice none 0 0:=by
        cases hx<;>simp[gE]at hn
        split at hn<;>simp_all
       subst this
       exact⟨[],by simp,by simp,by simp,by intro i j e x h;simp at h,λw'=>rfl,λn w' Ky _=>by simp[Builtin.firstCells]⟩
      ·exact gI hS hx Ku A
     obtain⟨p,C⟩:=Kp
     split at h
     ·
      cases hs
      injection h with h;injection h with h1 Z;subst h1;subst Z
      have hf:=C.first 0 w (rq _) rfl
      have hl:=C.lenOf w
      refine⟨.int .i64 0,w,?_,M,ι,.v rfl,hS,kb.refl,hD⟩
      simp only[Nat.zero_mul,List.take_zero]at hf
      have hm:f.length.min 0=0:=Nat.min_zero _
      simp[Builtin.copy_,ht,az hu,aX hz,hl,hm,hf,goInt]
     ·rename_i r' d len cap
      split at h
      ·rename_i b hb
       obtain⟨⟨N,Kr,Kq,hle⟩,h⟩:=cc.1 h
       injection h with h;injection h with h1 Z;subst h1;subst Z
       subst Kr
       cases hs with | aD Y Kw Kt ha KC hn hk O=>
       rename_i l a c
       have D:=hS.at Y O hb
       obtain⟨arr,T,fz,hh,x6,W,L⟩:=D.heap
       obtain⟨n,J⟩ : ∃n,n=Nat.min f.length len:=⟨_,rfl⟩
       have Kn:n<=f.length:=by rw[J];exact Nat.min_le_left _ _
       have KA:n<=len:=by rw[J];exact Nat.min_le_right _ _
       rw[<-J]
       have hf:=C.first n w Kn rfl
       have hl:=C.lenOf w
       have B:=C.row.sub n
       have I:(f.take n).length=n:=by rw[ik,o8 Kn]
       have U:(p.take (n * b.esz)).length=n * b.esz:=by rw[B.len,I]
       have KB:=D.len
       have m:d * b.esz+(p.take (n * b.esz)).length<=arr.size:=by
        rw[U,x6,<-fC]
        exact fV _ (by omega)
       have Ks : ∀i,(b.es.take d++f.take n++b.es.drop (d+n))[i]?=if d<=i/\i<d+n then (f.take n)[i - d]? else b.es[i]?:=by
        intro i
        have:=xf (cs:=b.es) (new:=f.take n) (j:=d) (by rw[I];omega) i
        rw[I]at this
        rw[<-this]
        unfold patch
        rw[I]
       obtain⟨h3,h4⟩:=hS.write (k' := { b with es:=b.es.take d++f.take n++b.es.drop (d+n)}) hb Y O (arr:=aZ arr (d * b.esz) (p.take (n * b.esz))) (T:=T) (fz:=fz) rfl rfl rfl
        (by rw[dS m];exact x6) (by rw[dS m];exact W) (by simp;omega)
        (by
         intro G X
         simp only[fc]at X
         rcases X with (h | h) | h
         ·exact D.cells G (m0 h)
         ·exact B.tG G h
         ·exact D.cells G (pa h))
        (by
         intro o v V
         have:=(D.frozen o v V).1
         rw[Kq]at this
         cases this)
        (by
         intro i j G x1 Q S
         rw[ax.map,if_pos N]
         simp only at Q
         rw[Ks i]at Q
         rw[dB m,U]
         by_cases hr:d<=i/\i<d+n
         ·rw[if_pos hr]at Q
          obtain⟨u,E,V⟩:=B.vr (i - d) j G x1 Q S
          have Kv:=(bL.1 E).1
          rw[U]at Kv
          have h5:d * b.esz<=i * b.esz:=fV _ hr.1
          have h6:(i - d) * b.esz=i * b.esz - d * b.esz:=rm _ _ _
          rw[if_pos (by omega),show i * b.esz+j - d * b.esz=(i - d) * b.esz+j by omega]
          exact⟨u,E,B.one u (da E),V⟩
         ·rw[if_neg hr]at Q
          have hj:j<b.esz:=by
           rw[<-D.cells G (da Q)]
           exact(bL.1 S).1
          rw[if_neg]
          ·obtain⟨u,E,ho,V⟩:=L i j G x1 Q S
           rw[ax.map,if_pos N]at V
           exact⟨u,E,ho,V⟩
          ·intro Kx
           apply hr
           have Kz:d * b.esz+n * b.esz=(d+n) * b.esz:=(fC _ _ _).symm
           constructor
           ·rcases cr i d with h | h
            ·have:(i+1) * b.esz<=d * b.esz:=fV _ h
             rw[fC]at this
             omega
            ·exact h
           ·rcases cr i (d+n)with h | h
            ·exact h
            ·have:(d+n) * b.esz<=i * b.esz:=fV _ h
             omega)
       have K:(storeCells a (p.take (n * b.esz))).run P w = .ok () (aJ w l.b (.cells (aZ arr (d * b.esz) (p.take (n * b.esz))) T fz)):=by
        by_cases h0:n=0
        ·have e0:p.take (n * b.esz)=[]:=by rw[h0];simp
         rw[e0]
         have G:aZ arr (d * b.esz) []=arr:=by simp[aZ]
         rw[G]
         have e2:aJ w l.b (.cells arr T fz)=w:=by
          unfold aJ
          have:w.heap.setIfInBounds l.b (.cells arr T fz)=w.heap:=by
           apply ql
           intro k
           by_cases hk:l.b=k
           ·subst hk;rw[hh,rk D.lt]
           ·rw[ou hk]
          rw[this]
         rw[e2]
         simp[storeCells]
        ·have R:a.off=d * b.esz:=by
          rcases ha with h | h
          ·omega
          ·rw[h,D.esz]
         have:=fY (P:=P) (d * b.esz) (p.take (n * b.esz)) 0 arr w hh (by simpa using m) W.1 B.one
         rw[oc]at this
         rw[eu Kt,Kw,R]
         exact this
       refine⟨.int .i64 n,_,?_,M,ι,.v rfl,by rw[jT];exact h3,by rw[jT];exact h4,?_⟩
       ·have hm:f.length.min len=n:=J.symm
        simp[Builtin.copy_,ht,az hu,aX hz,hl,hm,hf,K,goInt]
       ·intro q lq hq
        rw[aa.b8 _ _ _ (by rw[hb];rfl)]
        exact hD q lq hq
      ·cases h
     ·cases h
theorem AQ{H:aa}(hS:cT M ι H.get w)(hD:jA ι H){ts:Array TypeId}{ty:TypeId}{s x y:AV}{us ux:Value}(hs:VR M ι s us)(hx:VR M ι x ux){H':aa}
 (h:kH P H ts[0]? s x=some (y,H')) : ∃u w',(Builtin.copy_ ts ty #[us,ux]).run P w = .ok u w'/\hJ M ι H w y H' u w':=by
 unfold kH at h
 split at h
 ·rename_i z r' d len cap r2 m mM KJ he
  simp only[dL]at he
  obtain⟨e,⟨t,ht,he⟩,hz⟩:=he
  have hu:=cU he
  split at h
  ·rename_i b b2 hb Kx
   obtain⟨⟨K,U,KC,Kt,KG,Ky,KL,N⟩,h⟩:=cc.1 h
   injection h with h;injection h with h1 h2;subst h1;subst h2
   subst KC
   cases hs with | aD O KI KE ha KS hn hk E=>
   rename_i l a c
   cases hx with | aD Kv Kq Kr KA Kw Kp KO Kn=>
   rename_i l2 a2 W
   obtain⟨n,G⟩ : ∃n,n=Nat.min mM len:=⟨_,rfl⟩
   have Kz:n<=mM:=by rw[G];exact Nat.min_le_left _ _
   have KP:n<=len:=by rw[G];exact Nat.min_le_right _ _
   rw[<-G]at N ⊢
   have KB:VR M ι (.aD r2 m n none) (.slice (some a2) n W) := .aD Kv Kq Kr KA (ld Kz Kw) Kp (λk hk=>by cases hk) Kn
   have x6:aV H.get (.aD r2 m n none)=some (b2.esz,(b2.es.drop m).take n):=by
    simp only[aV,Kx]
    rw[if_pos ⟨U,N⟩]
   rw[Kt]at x6
   obtain⟨B,L⟩:=gI (P:=P) hS KB KG x6
   have KN:((b2.es.drop m).take n).length=n:=by rw[ik,List.length_drop];omega
   generalize (b2.es.drop m).take n=src at *
   have Ku:n<=src.length:=by omega
   have KF:src.take n=src:=ej (by omega)
   suffices D : ∃u w',(Builtin.copy_ ts ty #[.slice (some a) len c,.slice (some a2) mM W]).run P w = .ok u w'/\hJ M ι H w (.v (.int .i64 n)) (H.put r' (some { b with es:=b.es.take d++src.take n++b.es.drop (d+n)})) u w' by
    rw[KF]at D;exact D
   have KQ:d+n<=l.n:=by
    rcases hn with h | h
    ·have:=(hS.at O E hb).len;omega
    ·omega
   have A:=hS.at O E hb
   obtain⟨arr,T,fz,hh,Ks,Y,J⟩:=A.heap
   have hf:(Builtin.firstCells b.esz n (.slice (some a2) mM W)).run P w=_:=L.first n w Ku rfl
   have hl:(Builtin.lenOf (.slice (some a2) mM W)).run P w = .ok mM w:=by simp[Builtin.lenOf]
   have p:=L.row.sub n
   have Ko:(src.take n).length=n:=by rw[ik,o8 Ku]
   have V:(B.take (n * b.esz)).length=n * b.esz:=by rw[p.len,Ko]
   have KR:=A.len
   have f:d * b.esz+(B.take (n * b.esz)).length<=arr.size:=by
    rw[V,Ks,<-fC]
    exact fV _ (by omega)
   have KD : ∀i,(b.es.take d++src.take n++b.es.drop (d+n))[i]?=if d<=i/\i<d+n then (src.take n)[i - d]? else b.es[i]?:=by
    intro i
    have l1:(b.es.take d).length=d:=by rw[ik];omega
    by_cases c1:i<d
    ·rw[if_neg (by omega),om,dY (by omega),yD c1]
    ·by_cases W:i<d+n
     ·rw[if_pos ⟨by omega,W⟩,om,fS (by omega),l1,dY (by omega)]
     ·rw[if_neg (by omega),fS (by rw[iU];omega),iU,l1,Ko,oo]
      congr 1;omega
   obtain⟨h3,h4⟩:=hS.write (k' := { b with es:=b.es.take d++src.take n++b.es.drop (d+n)}) hb O E (arr:=aZ arr (d * b.esz) (B.take (n * b.esz))) (T:=T) (fz:=fz) rfl rfl rfl
    (by rw[dS f];exact Ks) (by rw[dS f];exact Y) (by simp only[iU,ik,List.length_drop];omega)
    (by
     intro F Z
     simp only[fc]at Z
     rcases Z with (h | h) | h
     ·exact A.cells F (m0 h)
     ·exact p.tG F h
     ·exact A.cells F (pa h))
    (by
     intro o v X
     have:=(A.frozen o v X).1
     rw[Ky]at this
     cases this)
    (by
     intro i j F x1 Q S
     rw[ax.map,if_pos K]
     simp only at Q
     rw[KD i]at Q
     rw[dB f,V]
     by_cases hr:d<=i/\i<d+n
     ·rw[if_pos hr]at Q
      obtain⟨u,C,X⟩:=p.vr (i - d) j F x1 Q S
      have KH:=(bL.1 C).1
      rw[V]at KH
      have h5:d * b.esz<=i * b.esz:=fV _ hr.1
      have h6:(i - d) * b.esz=i * b.esz - d * b.esz:=rm _ _ _
      rw[if_pos (by omega),show i * b.esz+j - d * b.esz=(i - d) * b.esz+j by omega]
      exact⟨u,C,p.one u (da C),X⟩
     ·rw[if_neg hr]at Q
      have hj:j<b.esz:=by
       rw[<-A.cells F (da Q)]
       exact(bL.1 S).1
      rw[if_neg]
      ·obtain⟨u,C,ho,X⟩:=J i j F x1 Q S
       rw[ax.map,if_pos K]at X
       exact⟨u,C,ho,X⟩
      ·intro KK
       apply hr
       have KM:d * b.esz+n * b.esz=(d+n) * b.esz:=(fC _ _ _).symm
       constructor
       ·rcases cr i d with h | h
        ·have:(i+1) * b.esz<=d * b.esz:=fV _ h
         rw[fC]at this
         omega
        ·exact h
       ·rcases cr i (d+n)with h | h
        ·exact h
        ·have:(d+n) * b.esz<=i * b.esz:=fV _ h
         omega)
   have I:(storeCells a (B.take (n * b.esz))).run P w = .ok () (aJ w l.b (.cells (aZ arr (d * b.esz) (B.take (n * b.esz))) T fz)):=by
    by_cases h0:n=0
    ·have e0:B.take (n * b.esz)=[]:=by rw[h0];simp
     rw[e0]
     have F:aZ arr (d * b.esz) []=arr:=by simp[aZ]
     rw[F]
     have e2:aJ w l.b (.cells arr T fz)=w:=by
      unfold aJ
      have:w.heap.setIfInBounds l.b (.cells arr T fz)=w.heap:=by
       apply ql
       intro k
       by_cases hk:l.b=k
       ·subst hk;rw[hh,rk A.lt]
       ·rw[ou hk]
      rw[this]
     rw[e2]
     simp[storeCells]
    ·have R:a.off=d * b.esz:=by
      rcases ha with h | h
      ·omega
      ·rw[h,A.esz]
     have:=fY (P:=P) (d * b.esz) (B.take (n * b.esz)) 0 arr w hh (by simpa using f) Y.1 p.one
     rw[oc]at this
     rw[eu KE,KI,R]
     exact this
   refine⟨.int .i64 n,_,?_,M,ι,.v rfl,by rw[jT];exact h3,by rw[jT];exact h4,?_⟩
   ·have hm:Nat.min mM len=n:=G.symm
    simp[Builtin.copy_,ht,az hu,aX hz,hl,hm,hf,I,goInt]
   ·intro q lq hq
    rw[aa.b8 _ _ _ (by rw[hb];rfl)]
    exact hD q lq hq
  ·cases h
 ·cases h
end
def mK(arr:Array Value)(z n:Nat):List AV:=(List.range n).map λi => .agg ((List.range z).map λj => .m7 (arr.getD (i * z+j) Go.undef))
theorem Bk{arr:Array Value}{z n i j:Nat}{e x:AV}(a:(mK arr z n)[i]?=some e)(b:e.cells[j]?=some x):i<n/\j<z/\x = .m7 (arr.getD (i * z+j) Go.undef):=by
 unfold mK at a
 rw[fU]at a
 rcases cr i n with c | c
 ·rw[rg c]at a
  cases a
  simp only[AV.cells,fU]at b
  rcases cr j z with d | d
  ·rw[rg d]at b
   cases b
   exact⟨c,d,rfl⟩
  ·rw[lX (by simpa using d)]at b
   cases b
 ·rw[lX (by simpa using c)]at a
  cases a
theorem cy.m7{M:Mem}{ι:Map}{w:World}{l:Loc}{k:ax}(h:cy M ι w l k) : ∃es:List AV,es.length=k.es.length/\(∀e∈es,e.cells.length=k.esz)/\cy M ι w l ⟨k.esz,es,true,k.cS⟩ /\
 ∀(i j:Nat) e x,es[i]?=some e->e.cells[j]?=some x ->∃u b c,x = .m7 u/\k.es[i]?=some b/\b.cells[j]?=some c/\VR M (k.map ι) c u:=by
 obtain⟨arr,T,fz,s,t,z,D⟩:=h.heap
 have key : ∀(i j:Nat) e x,(mK arr k.esz k.es.length)[i]?=some e->e.cells[j]?=some x ->∃u b c,x = .m7 u/\arr[i * k.esz+j]?=some u/\u.oneCell'=true/\k.es[i]?=some b/\b.cells[j]?=some c/\VR M (k.map ι) c u:=by
  intro i j e x a d
  obtain⟨n,A,rfl⟩:=Bk a d
  have b:k.es[i]?=some k.es[i]:=bG n
  have B:j<k.es[i].cells.length:=by rw[h.cells _ (eE n)];exact A
  have p:k.es[i].cells[j]?=some k.es[i].cells[j]:=bG B
  obtain⟨u,f,m,C⟩:=D i j _ _ b p
  exact⟨u,_,_,by rw[pb,f];rfl,f,m,b,p,C⟩
 refine⟨mK arr k.esz k.es.length,by simp[mK],λe a=>?_,⟨h.esz,⟨arr,T,fz,s,t,z,λi j e x a d=>?_⟩,by simpa [mK] using h.len,λe a=>?_,λo x d=>by simpa [mK] using h.frozen o x d⟩,λi j e x a d=>?_⟩
 ·simp only[mK,gy]at a
  obtain⟨i,_,rfl⟩:=a
  simp[AV.cells]
 ·obtain⟨u,b,c,rfl,f,m,_⟩:=key i j e x a d
  exact⟨u,f,m,.m7 m⟩
 ·simp only[mK,gy]at a
  obtain⟨i,_,rfl⟩:=a
  simp[AV.cells]
 ·obtain⟨u,b,c,E,_,_,y,v,q⟩:=key i j e x a d
  exact⟨u,b,c,E,y,v,q⟩
theorem cT.m7{M:Mem}{ι:Map}{H:aa}{w:World}(d:cT M ι H.get w){r:Ref}{k:ax}(t:H.get r=some k)(I:k.arr=false)(v:0<k.esz) :
 ∃es:List AV,es.length=k.es.length/\(∀e∈es,e.cells.length=k.esz)/\cT M ι (H.put r (some ⟨k.esz,es,true,k.cS⟩)).get w /\
  ∀(i j:Nat) e x,es[i]?=some e->e.cells[j]?=some x ->∃u s p,x = .m7 u/\k.es[i]?=some s/\s.cells[j]?=some p/\VR M ι p u:=by
 obtain⟨l,n,D⟩:=d.live r k t
 obtain⟨es,C,G,F,z⟩:=(D.cellsOk v).m7
 have B:k.map ι=ι:=by unfold ax.map;rw[I];rfl
 rw[B]at z
 refine⟨es,C,G,⟨d.mem,λq b a=>?_,λq y b f l A a m n o=>?_⟩,z⟩
 ·rw[aa.aj]at a
  split at a
  ·rename_i e
   cases a
   rw[e]
   exact⟨l,n,F.BM v⟩
  ·exact d.live q b a
 ·have : ∀q b,(H.put r (some ⟨k.esz,es,true,k.cS⟩)).get q=some b ->∃f,H.get q=some f:=by
   intro q b a
   rw[aa.aj]at a
   split at a
   ·rename_i e;rw[e];exact⟨k,t⟩
   ·exact⟨b,a⟩
  obtain⟨c,E⟩:=this q b a
  obtain⟨c',h⟩:=this y f m
  exact d.inj q y c c' l A E h n o
theorem hJ.AH{M:Mem}{ι:Map}{H H0 F H':aa}{w w':World}{x:Ref}{m:Nat}{cap:Option Nat}{k1:ax}{u:Value}{es':List AV}
 (n : ∀q k,H0.get q=some k ->∃k',H.get q=some k') (h1:F.get x=some k1) (N:0<k1.esz) (D:k1.arr=true)
 (E:H'.get x=some ⟨k1.esz,es',false,k1.cS⟩) (A : ∀q k,q≠x->H'.get q=some k->F.get q=some k) (G : ∀d t,F.gen d t<=H'.gen d t)
 (B:es'.length=k1.es.length) (S : ∀e∈es',e.cells.length=k1.esz)
 (J : ∀(M':Mem)(c:Map),(∀b o v,M b o=some v->M' b o=some v)->(∀q l,ι q=some l->c q=some l) ->∀(i j:Nat) e' x',es'[i]?=some e'->e'.cells[j]?=some x' ->
  ∃L O,k1.es[i]?=some L/\L.cells[j]?=some O /\∀u,VR M' bB O u->VR M' c x' u)
 (hW:hJ M ι H0 w (.aD x 0 m cap) F u w'):hJ M ι H w (.dsl x 0 m cap) H' u w':=by
 obtain⟨M',c,hv,Q,s,hD⟩:=hW
 have p : ∀q k,H'.get q=some k ->∃k',F.get q=some k':=by
  intro q k hq
  by_cases e:q=x
  ·rw[e];exact⟨k1,h1⟩
  ·exact⟨k,A q k e hq⟩
 refine⟨M',c,?_,⟨Q.mem,?_,?_⟩,⟨s.os,s.tape,s.output,s.size,?_,s.mem,s.map,?_,?_⟩,?_⟩
 ·cases hv with | aD hr f hs D hc hn I N=>exact .dsl hr f hs D hc hn I N
 ·intro q k I
  by_cases e:q=x
  ·rw[e,E]at I
   cases I
   rw[e]
   obtain⟨l,z,f⟩:=Q.live x k1 h1
   refine⟨l,z,f.esz,λ_=>⟨f.esz,?_,?_,S,?_⟩,λe=>by simp only at e;omega,?_⟩
   ·obtain⟨arr,T,fz,a1,a2,a3,a4⟩:=(f.cellsOk N).heap
    refine⟨arr,T,fz,a1,a2,a3,λi j e x he E=>?_⟩
    obtain⟨L,O,b1,b2,b3⟩:=J M' c s.mem s.map i j e x he E
    obtain⟨u,c1,c2,c3⟩:=a4 i j L O b1 b2
    have hm:k1.map c=bB:=by unfold ax.map;rw[D];rfl
    rw[hm]at c3
    exact⟨u,c1,c2,b3 u c3⟩
   ·have:=(f.cellsOk N).len
    simp only
    omega
   ·intro o v X
    have:=f.frozen o v X
    simp only
    rw[B]
    exact this
   ·intro o v X
    have:=f.frozen o v X
    simp only
    rw[B]
    exact this
  ·exact Q.live q k (A q k e I)
 ·intro q q' k k' l l' h C z Y
  obtain⟨a,D⟩:=p q k h
  obtain⟨b,f⟩:=p q' k' C
  exact Q.inj q q' a b l l' D f z Y
 ·intro b f V
  exact s.chg b f λr k l h0 z=>by
   obtain⟨k',C⟩:=n r k h0
   exact V r k' l C z
 ·intro r k l h z
  obtain⟨a,D⟩:=p r k h
  rcases s.live r a l D z with y | ⟨K,R,U,y,W,Z⟩
  ·exact .inl y
  ·obtain⟨k',C⟩:=n K R y
   exact .inr ⟨K,k',U,C,W,Z⟩
 ·intro b o x E
  rcases s.new b o x E with y | y | ⟨K,R,U,y,W,Z⟩
  ·exact .inl y
  ·exact .inr (.inl y)
  ·obtain⟨k',C⟩:=n K R y
   exact .inr (.inr ⟨K,k',U,C,W,Z⟩)
 ·intro q l z
  exact o9 (hD q l z) (G _ _)
theorem hJ.deep{M:Mem}{ι:Map}{H H0 y H':aa}{w w':World}{x:Ref}{m:Nat}{cap:Option Nat}{k1:ax}{u:Value}{es':List AV}
 (n : ∀q k,H0.get q=some k ->∃k',H.get q=some k') (D:y.get x=some k1) (E:0<k1.esz) (F:k1.arr=true)
 (a : ∀q,H'.get q=if q=x then some ⟨k1.esz,es',false,k1.cS⟩ else y.get q) (p : ∀d t,y.gen d t<=H'.gen d t)
 (s:es'.length=k1.es.length) (z : ∀e∈es',e.cells.length=k1.esz)
 (f : ∀(M':Mem)(c:Map),(∀b o v,M b o=some v->M' b o=some v)->(∀q l,ι q=some l->c q=some l) ->∀(i j:Nat) e' x',es'[i]?=some e'->e'.cells[j]?=some x' ->
  ∃A B,k1.es[i]?=some A/\A.cells[j]?=some B /\∀u,VR M' bB B u->VR M' c x' u)
 (C:hJ M ι H0 w (.aD x 0 m cap) y u w'):hJ M ι H w (.dsl x 0 m cap) H' u w':=
 C.AH n D E F (by rw[a,if_pos rfl]) (λq k e h=>by rw[a,if_neg e]at h;exact h) p s z f
section
variable{P:Program}{M:Mem}{ι:Map}{w:World}
theorem p8(r:Ref)(b:Option ax)(H:aa)(q:Ref):aa.get ((r,b) :: H) q=if r=q then b else H.get q:=rfl
theorem Ds(r:Ref)(b:Option ax)(H:aa)(d t:Nat):aa.gen ((r,b) :: H) d t=if r.d=d/\r.t=t then r.g+1 else H.gen d t:=rfl
theorem yL{H:aa}(hS:cT M ι H.get w)(hD:jA ι H){d v:Nat}{t:TypeId}{n:Nat}{vs:List (Nat × AV)}{qs:Array (Nat × Value)}{x:AV}{H':aa}
 (h:pe P H ⟨d,v,H.gen d v,0⟩ t n (some vs)=some (x,H')) (hl:vs.length=qs.toList.length)
 (hp : ∀(i:Nat) p q,vs[i]?=some p->qs.toList[i]?=some q->p.1=q.1/\VR M ι p.2 q.2) :
 ∃u w',(Instr.buildSlice t n qs).run P w = .ok u w'/\hJ M ι H w x H' u w':=by
 unfold pe at h
 split at h
 ·rename_i cs e V Z
  simp only[cz]at V
  subst V
  split at h
  ·rename_i z s hz hs
   obtain⟨T,hh⟩:=cc.1 h
   clear h
   obtain⟨Kw,h0,h1,h2,h3,h4,h5⟩:=T
   subst Kw
   injection hh with hh
   injection hh with g1 g2
   subst g1;subst g2
   obtain⟨q,G⟩ : ∃q,qs.toList=[q]:=List.length_eq_one_iff.1 hl.symm
   obtain⟨q1,A⟩:=hp 0 _ q rfl (by rw[G];rfl)
   obtain⟨k,S⟩:=q
   simp only at q1 A
   subst q1
   have b:=A.cells
   have O:S.cells.size=s:=by have:=b.1;simp[AV.cells]at this;omega
   obtain⟨E,a⟩ : ∃E:List AV,E=S.cells.toList.map AV.m7:=⟨_,rfl⟩
   have m : ∀u∈S.cells.toList,u.oneCell'=true:=by
    intro u f
    obtain⟨i,hi⟩:=List.mem_iff_getElem?.1 f
    have Ks:=(bL.1 hi).1
    obtain⟨y,hy⟩ : ∃y,(AV.agg cs).cells[i]?=some y:=⟨_,bG (by rw[b.1];exact Ks)⟩
    refine(b.2 i y u hy hi).one ?_
    rw[dh]at h5
    exact h5 y (da hy)
   have K:VR M bB (.agg E) (.agg S.cells):=by
    refine .agg (by rw[a];simp) λi c u T f=>?_
    rw[a,fU]at T
    rw[<-ri]at f
    rw[f]at T
    cases T
    exact .m7 (m u (da f))
   obtain⟨it,zu,X,Kt,Kr⟩:=jD hz
   obtain⟨ie,Y,Ky⟩:=kK hs
   rw[X]at Y;cases Y
   have U:=dO (M:=M) (ι:=bB) Kr
   have L:zu.cells.size=s:=by have:=U.cells.1;simp at this;omega
   have o:=Row.replicate U h2 h3 1
   have B:Row M s (List.replicate 1 z) ((Array.range (1 * s)).map (zu.cells[· % zu.cells.size]!)).toList:=by
    have:=lB (zs:=zu.cells) (n:=1) (by omega)
    rw[L]at this
    rw[L,this]
    exact o
   have R : ∃us,S = .agg us:=by cases A with | agg hl h=>exact⟨_,rfl⟩
   obtain⟨us,rfl⟩:=R
   have Ko:(Value.agg us).cells=us:=rfl
   rw[Ko]at K O a m b
   obtain⟨h7,l,h8,h9⟩:=pF (M:=M) [(0,AV.agg E)] [(0,Value.agg us)] (List.replicate 1 z) [.agg E] _ rfl B rfl (λi p q hp G=>by
    match i,hp,G with
    | 0,hp,G=>cases hp;cases G;exact⟨rfl,K⟩) (by
    intro p J
    simp only[kE]at J
    subst J
    refine⟨by simp[AV.cells,a,O],?_⟩
    rw[a]
    simp[AV.cells,AV.one])
   have W:(Instr.buildSlice t 1 qs).run P w = .ok (.slice (some ⟨w.heap.size,0,none⟩) 1 1) (w.alloc (.cells l e)):=by
    have Ku : ¬16777216<1 * s:=by omega
    have Kp : ¬1 * s=0:=by omega
    simp only[Instr.buildSlice,Sem.run_bind,az (cU Z),Result.andThen_ok,aX hs,gt_iff_lt]
    rw[if_neg Ku,if_neg Kp]
    simp only[Sem.run_bind,zeroValue,typeInfo,X,Kt,run_program,Result.andThen_ok,Sem.run_pure,G,h8]
    simp[newRow]
   have C:pR w (w.alloc (.cells l e)) (.cells l e (0,0)):=⟨rfl,rfl,rfl,rfl⟩
   have Q:l.size=1 * s:=by
    rw[<-oq,h9.len];rfl
   have Kn:=kB (r:=⟨d,v,H.gen d v,0⟩) hS rfl (hD.fresh d v 0) C h9 (λk u f=>by simpa using f) (n:=1) (c:=1) Q (oZ.zero _ _) (a7 _) (a7 _) (cap:=some 1) (by intro k F;cases F;rfl) h0
   have hW:=Kn.HO hD
   refine⟨_,_,W,hW.AH (k1:=⟨s,[.agg E],true,false⟩) (es':=[.agg cs]) (λq k F=>⟨k,F⟩) ?_ h0 rfl ?_ ?_ ?_ rfl ?_ ?_⟩
   ·simp[keyed,aa.get]
   ·simp[aa.get]
   ·intro q k Kq F
    have I : ¬(⟨d,v,H.gen d v,0⟩:Ref)=q:=λe=>Kq e.symm
    simp only[aa.get,if_neg I,keyed]at F ⊢
    exact F
   ·intro d' t'
    exact a7 _
   ·intro e Z
    simp only[kE]at Z
    subst Z
    exact h4
   ·intro M' x6 hM Kv i j e' x' D N
    match i,D with
    | 0,D=>
     cases D
     have hj:=(bL.1 N).1
     obtain⟨u,f⟩ : ∃u,us.toList[j]?=some u:=⟨_,bG (by rw[<-b.1];exact hj)⟩
     refine⟨_,.m7 u,rfl,by simp only[AV.cells,a,fU,f];rfl,λu' Kx=>?_⟩
     have h6:=b.2 j x' u N f
     cases Kx with | m7 _=>exact h6.mono hM x6 Kv
  ·cases h
 ·cases h
theorem Cj{H:aa}(hS:cT M ι H.get w)(hD:jA ι H){d p:Nat}{Y:Array TypeId}{ty:TypeId}{s x y:AV}{us ux:Value}(hs:VR M ι s us)(hx:VR M ι x ux){H':aa}
 (h:z9 P H ⟨d,p,H.gen d p,0⟩ Y[0]? Y[1]? s x=some (y,H')) : ∃u w',(Builtin.append_ Y ty #[us,ux]).run P w = .ok u w'/\hJ M ι H w y H' u w':=by
 unfold z9 at h
 split at h
 ·rename_i e D m cx he
  split at h
  ·cases h
  ·rename_i hc
   split at h
   ·rename_i z by' zz n hz T KD E
    split at h
    ·cases h
    ·rename_i c
     have KR:n.arr=false:=by
      cases hh:n.arr with
      | false=>rfl
      | true=>exact absurd (.inl hh) c
     have Kw:n.esz=z:=kD.1 λh=>c (.inr (.inl h))
     have KK:z≠0:=λh=>c (.inr (.inr (.inl h)))
     have KB:by'≠0:=λh=>c (.inr (.inr (.inr (.inl h))))
     have KP:n.es≠[]:=λh=>c (.inr (.inr (.inr (.inr (.inl h)))))
     have KF:zz.cells.length=z:=kD.1 λh=>c (.inr (.inr (.inr (.inr (.inr (.inl h))))))
     have hm:m=n.es.length:=kD.1 λh=>c (.inr (.inr (.inr (.inr (.inr (.inr h))))))
     have x6 : ∀e∈n.es,e.cells.length=z:=by
      obtain⟨l,_,T⟩:=hS.live D n E
      rw[<-Kw]
      exact(T.cellsOk (by omega)).cells
     obtain⟨a,U,a2,a3,a4⟩:=hS.m7 E KR (by omega)
     obtain⟨H0,Kx⟩ : ∃H0,H0=H.put D (some ⟨n.esz,a,true,n.cS⟩):=⟨_,rfl⟩
     rw[<-Kx]at a3
     have N : ∀q,H0.get q=if q=D then some ⟨n.esz,a,true,n.cS⟩ else H.get q:=λq=>by rw[Kx,aa.aj]
     have o : ∀d t,H0.gen d t=H.gen d t:=λd t=>by rw[Kx,aa.b8 _ _ _ (by rw[E];rfl)]
     have KA:jA ι H0:=λq l hl=>by rw[o];exact hD q l hl
     have KC:VR M ι (.aD D 0 m cx) ux:=by cases hx with | dsl hr T hs ha hc hn A hz=>exact .aD hr T hs ha hc hn A hz
     have Kz:H0.get D=some ⟨n.esz,a,true,n.cS⟩:=by rw[N,if_pos rfl]
     have KE : ∀K:aa,K.get D=some ⟨n.esz,a,true,n.cS⟩->hY P K.get e (.aD D 0 m cx)=some (z,a):=by
      intro K hK
      have e1:(a.drop 0).take m=a:=by
       rw[uU,hm,<-U,uX]
      simp only[hY,aV,hK]
      rw[if_pos ⟨trivial,by omega⟩,e1,Kw]
     have Kp:a≠[]:=λh=>KP (tX.1 (by rw[<-U,h];rfl))
     have Ky : ¬((Y[1]?.bind P.underlying).isNone=true\/(Y[1]?.map (isInt P)).getD false≠isNum (.aD D 0 m cx)):=hc
     have L : ∀q k,H0.get q=some k ->∃k',H.get q=some k':=by
      intro q k G
      rw[N]at G
      split at G
      ·rename_i e;rw[e];exact⟨n,E⟩
      ·exact⟨k,G⟩
     split at h
     ·obtain⟨C,h⟩:=cc.1 h
      cases h
      have Kn:=hD.fresh d p 0
      have R:H.get ⟨d,p,H.gen d p,0⟩=none:=by
       cases hg:H.get ⟨d,p,H.gen d p,0⟩ with
       | none=>rfl
       | some b=>
        obtain⟨l,hl,_⟩:=hS.live _ _ hg
        rw[hl]at Kn;cases Kn
      have KT:(⟨d,p,H.gen d p,0⟩:Ref)≠D:=λe=>by rw[e,E]at R;cases R
      have G:ec P H0.get ⟨d,p,H0.gen d p,0⟩ Y[0]? Y[1]? (.v (.slice none 0 0)) (.aD D 0 m cx)=some (.aD ⟨d,p,H0.gen d p,0⟩ 0 a.length none,[⟨z,a,true,false⟩]):=by
       simp only[ec,he,if_neg Ky,hz,T,KD,KE H0 Kz]
       rw[if_neg (λh=>h.elim (λh=>h rfl) λh=>h.elim KK λh=>h.elim KB λh=>h KF),if_neg Kp,if_pos (by rw[U,<-hm];exact C)]
      obtain⟨u,w',h5,h6⟩:=sw (P:=P) (ty:=ty) a3 rfl (KA.fresh d p 0) hs KC G
      have hW:=h6.HO KA
      rw[o,U,<-hm]at hW
      refine⟨u,w',h5,hW.AH (k1:=⟨z,a,true,false⟩) (es':=n.es) L ?_ (by simp only;omega) rfl ?_ ?_ ?_ U.symm x6 ?_⟩
      ·simp[keyed,aa.get]
      ·simp[aa.get]
      ·intro q k G A
       have J : ¬(⟨d,p,H.gen d p,0⟩:Ref)=q:=λe=>G e.symm
       simp only[keyed]
       rw[p8,if_neg J,aa.aj]at A
       rw[p8,if_neg J,N]
       split at A
       ·cases A
       ·rename_i KJ;rw[if_neg KJ];exact A
      ·intro d' t'
       simp only[keyed,Ds,aa.b8 _ _ _ (show(H.get D).isSome=true by rw[E];rfl),o]
       exact a7 _
      ·intro M' V hM Ku i j e' x' f I
       have hi:i<a.length:=by rw[U];exact(bL.1 f).1
       have g0:a[i]?=some a[i]:=bG hi
       have hj:j<a[i].cells.length:=by
        have h5:=(bL.1 I).1
        rw[x6 _ (da f)]at h5
        rw[a2 _ (eE hi)]
        omega
       have X:a[i].cells[j]?=some a[i].cells[j]:=bG hj
       obtain⟨u,e2,x2,b1,b2,b3,b4⟩:=a4 i j _ _ g0 X
       rw[f]at b2
       cases b2
       rw[I]at b3
       cases b3
       refine⟨_,_,g0,X,λu' O=>?_⟩
       rw[b1]at O
       cases O with | m7 _=>exact b4.mono hM V Ku
     ·rename_i r' len
      split at h
      ·rename_i b Z
       obtain⟨⟨KS,Kv,hlen,Kt,C⟩,h⟩:=cc.1 h
       cases h
       have Ko:H0.get r'=some b:=by rw[N,if_neg Kt];exact Z
       have KI : ∀e∈b.es,e.cells.length=z:=by
        obtain⟨l,_,T⟩:=hS.live r' b Z
        rw[<-Kv]
        exact(T.cellsOk (by omega)).cells
       obtain⟨S,c1,c2,c3,c4⟩:=a3.m7 Ko KS (by omega)
       obtain⟨F,Ks⟩ : ∃F,F=H0.put r' (some ⟨b.esz,S,true,b.cS⟩):=⟨_,rfl⟩
       rw[<-Ks]at c3
       have W : ∀q,F.get q=if q=r' then some ⟨b.esz,S,true,b.cS⟩ else H0.get q:=λq=>by rw[Ks,aa.aj]
       have B : ∀d t,F.gen d t=H.gen d t:=λd t=>by rw[Ks,aa.b8 _ _ _ (by rw[Ko];rfl),o]
       have KM:jA ι F:=λq l hl=>by rw[B];exact hD q l hl
       have KO:VR M ι (.aD r' 0 len none) us:=by cases hs with | dsl hr T hs ha hc hn A hz=>exact .aD hr T hs ha hc hn A hz
       have KG:F.get r'=some ⟨b.esz,S,true,b.cS⟩:=by rw[W,if_pos rfl]
       have KH:F.get D=some ⟨n.esz,a,true,n.cS⟩:=by rw[W,if_neg (λe=>Kt e.symm)];exact Kz
       have Kr : ∀q k,F.get q=some k ->∃k',H.get q=some k':=by
        intro q k G
        rw[W]at G
        split at G
        ·rename_i e;rw[e];exact⟨b,Z⟩
        ·exact L q k G
       have hw:fg P F Y[0]? Y[1]? (.aD r' 0 len none) (.aD D 0 m cx)=some (.aD ⟨r'.d,r'.t,F.gen r'.d r'.t,0⟩ 0 (len+a.length) none,(⟨r'.d,r'.t,F.gen r'.d r'.t,0⟩,some ⟨z,S++a,true,b.cS⟩) :: F.put r' none):=by
        simp only[fg,he,if_neg Ky,hz,T,KD,KE F KH]
        rw[if_neg (λh=>h.elim (λh=>h rfl) λh=>h.elim KK λh=>h.elim KB λh=>h.elim Kp λh=>h KF)]
        simp only[KG]
        rw[if_pos ⟨trivial,trivial,Kv,by rw[c1];exact hlen,by rw[U,<-hm];exact C⟩]
       obtain⟨u,w',h5,hW⟩:=rN (P:=P) (ty:=ty) c3 KM KO KC hw
       rw[B,U,<-hm]at hW
       have KL : ∀e∈b.es++n.es,e.cells.length=z:=λe he=>(fc.1 he).elim (KI e) (x6 e)
       refine⟨u,w',h5,hW.AH (k1:=⟨z,S++a,true,b.cS⟩) (es':=b.es++n.es) Kr ?_ (by simp only;omega) rfl ?_ ?_ ?_ (by simp only[iU,U,c1]) KL ?_⟩
       ·rw[p8,if_pos rfl]
       ·rw[p8,if_pos rfl]
       ·intro q k G A
        have J : ¬(⟨r'.d,r'.t,H.gen r'.d r'.t,0⟩:Ref)=q:=λe=>G e.symm
        rw[p8,if_neg J,aa.aj]at A
        rw[p8,if_neg J,aa.aj]
        split at A
        ·cases A
        ·rename_i n1
         rw[aa.aj]at A
         split at A
         ·cases A
         ·rename_i n2
          rw[if_neg n1,W,if_neg n1,N,if_neg n2]
          exact A
       ·intro d' t'
        have s1:(H.get D).isSome=true:=by rw[E];rfl
        have s2:((H.put D none).get r').isSome=true:=by rw[aa.aj,if_neg Kt,Z];rfl
        have s3:(F.get r').isSome=true:=by rw[KG];rfl
        simp only[Ds,aa.b8 _ _ _ s2,aa.b8 _ _ _ s1,aa.b8 _ _ _ s3,B]
        exact a7 _
       ·intro M' V hM Ku i j e' x' f I
        have Kq : ∀ {k:ax} {Q:List AV} (i:Nat),Q.length=k.es.length->(∀e∈Q,e.cells.length=k.esz)->(∀e∈k.es,e.cells.length=k.esz)->(∀(i j:Nat) e x,Q[i]?=some e->e.cells[j]?=some x ->∃u e0 x0,x = .m7 u/\k.es[i]?=some e0/\e0.cells[j]?=some x0/\VR M ι x0 u) ->
         k.es[i]?=some e' ->∃e1 x1,Q[i]?=some e1/\e1.cells[j]?=some x1 /\∀u,VR M' bB x1 u->VR M' V x' u:=by
         intro k Q i l1 l2 l4 l3 f
         have hi:i<Q.length:=by rw[l1];exact(bL.1 f).1
         have g0:Q[i]?=some Q[i]:=bG hi
         have hj:j<Q[i].cells.length:=by
          have h5:=(bL.1 I).1
          rw[l4 _ (da f)]at h5
          rw[l2 _ (eE hi)]
          exact h5
         have X:Q[i].cells[j]?=some Q[i].cells[j]:=bG hj
         obtain⟨u,e2,x2,b1,b2,b3,b4⟩:=l3 i j _ _ g0 X
         rw[f]at b2
         cases b2
         rw[I]at b3
         cases b3
         refine⟨_,_,g0,X,λu' O=>?_⟩
         rw[b1]at O
         cases O with | m7 _=>exact b4.mono hM V Ku
        rcases cr i b.es.length with KQ | KN
        ·rw[dY KQ]at f
         obtain⟨e1,x1,X,g2,g3⟩:=Kq (k:=b) i c1 c2 (by rw[Kv];exact KI) c4 f
         exact⟨e1,x1,by rw[dY (by omega)];exact X,g2,g3⟩
        ·rw[fS KN]at f
         obtain⟨e1,x1,X,g2,g3⟩:=Kq (k:=n) (i - b.es.length) U a2 (by rw[Kw];exact x6) a4 f
         exact⟨e1,x1,by rw[fS (by omega),c1];exact X,g2,g3⟩
      ·cases h
     ·cases h
   ·cases h
 ·cases h
end
end
end Go.Ab
