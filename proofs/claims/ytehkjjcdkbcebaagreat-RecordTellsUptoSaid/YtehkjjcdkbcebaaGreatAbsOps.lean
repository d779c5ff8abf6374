/-
  What the abstract machine's quiet operations give is what the model's give: the first part. No statement of a seat is proved here.
-/
import Derived.Lib.Overlaps
import Derived.Lib.SliceRun
import Derived.WalkSpells
import Derived.Test.YtehkjjcdkbcebaaGreatAbsCore
set_option linter.unusedVariables false
set_option linter.unusedSimpArgs false
set_option linter.unusedSectionVars false
set_option linter.unnecessarySimpa false
namespace Go.Ab
section
def oQ(g:cf)(r:Ref)(bs:List aJ):cf:=λq=>if q.d=r.d/\q.t=r.t/\q.g=r.g/\q.k<bs.length then bs[q.k]? else g q
theorem kP(g:cf)(r:Ref):oQ g r []=g:=by funext q;simp[oQ]
theorem nS(g:cf)(r:Ref)(a:r.k=0)(b:aJ):oQ g r [b]=jx g r b:=by
 funext q
 unfold oQ jx
 by_cases h:q=r
 ·subst h;simp[a]
 ·rw[if_neg h,if_neg]
  intro c
  apply h
  cases q;cases r
  simp_all
structure TR (M:Mem) (ι:Map) (tm:List AV) (a:Act):Prop where
 at_ : ∀t,VR M ι (bZ tm t) (a.tmps.getD t undef)
theorem TR.mono{M ι tm a M' ι'}(h:TR M ι tm a)(d : ∀b o x,M b o=some x->M' b o=some x)(c : ∀r l,ι r=some l->ι' r=some l):TR M' ι' tm a:=
 ⟨λt=>(h.at_ t).mono d ι' c⟩
theorem ay{M ι tm a}(h:TR M ι tm a){x:Operand}{y:AV}(b:aq tm x=some y):VR M ι y (a.eval x):=by
 cases x with
 | tmp t=>simp[aq]at b;subst b;exact h.at_ t
 | const v=>simp only[aq]at b;exact gp b
 | global g=>simp[aq]at b
 | func f=>simp[aq]at b;subst b;exact .fn rfl rfl (λi c u d=>by simp at d) (λi c u d=>by simp at d)
theorem jW{M ι tm a}(h:TR M ι tm a){f:List Operand}{e:List AV}(d:f.mapM (aq tm)=some e):jD M ι e (f.map a.eval):=
 ⟨by simpa using fg d,λi y u j c=>by
  obtain⟨x,b,k⟩:=lO d i y j
  simp only[kJ,b,Option.map_some,dc]at c
  subst c
  exact ay h k⟩
def gP(M:Mem)(ι:Map)(g:cf)(w:World)(r:Ref)(x:AV)(bs:List aJ)(u:Value)(w':World):Prop:=
 ∃M' a,VR M' a x u/\eW M' a (oQ g r bs) w'/\pN M ι g w M' a (oQ g r bs) w' /\∀q,ι q=none->(∀k,k<bs.length->q ≠ { r with k:=k})->a q=none
theorem gP.same{M ι g w r x u}(a:eW M ι g w)(h:VR M ι x u):gP M ι g w r x [] u w:=
 ⟨M,ι,h,by rw[kP];exact a,by rw[kP];exact pN.refl,λq b _=>b⟩
theorem eW.drew{M ι g w w'}(a:eW M ι g w)(c:w'.heap=w.heap):eW M ι g w':=
 ⟨λb o x h=>by rw[World.cell?_of_block (w:=w) (by rw[c])];exact a.mem b o x h,λr k h=>by
  obtain⟨l,e,d⟩:=a.live r k h
  exact⟨l,e,d.cy (λ_ _ _ h=>h) (λ_ _ h=>h) (by rw[c]) d.frozen⟩,a.inj⟩
def FW(ro:Option Nat):Fence := { Fence.wide with round:=ro}
def dB(P:Program)(o:Oper)(a:Act)(w:World)(S:Value->World->Prop):Prop:=
 ∀(ro:Option Nat)(K:Act->World->Prop)(Q:Exit->Act->World->Prop),(∀u w',S u w'->K (a.put o.dst u) w')->o.wpIn (FW ro) 0 P a w K Q
theorem vL{P:Program}{o:Oper}{a:Operand->Value}{w w':World}{x:Next}(ro:Option Nat)(h:(execOp a o).run P w = .ok x w')(k : ∀d,x ≠ .defer d):(Oper.semAt ro a o).run P w = .ok x w':=by
 by_cases f : ∃c,o.op = .defer c
 ·exfalso
  obtain⟨c,b⟩:=f
  simp only[execOp,b]at h
  rw[Sem.run_bind]at h
  cases i:(resolve a c o.type).run P w with
  | ok d j=>rw[i]at h;simp only[Result.andThen_ok,Sem.run_pure,Result.ok.injEq]at h;exact k _ h.1.symm
  | halt e j=>rw[i]at h;cases h
 ·rw[Oper.semAt_eq ro a o λc b=>f ⟨c,b⟩]
  exact h
theorem dB.gY{P o a w S u w'}(c:(execOp a.eval o).run P w = .ok (.value u) w')(h:S u w'):dB P o a w S:=by
 intro ro K Q b
 refine⟨λ_ _=>trivial,?_⟩
 rw[vL (x := .value u) (FW ro).round c (by intro d e;cases e)]
 exact b _ _ h
theorem dB.AK{P o a w S w'}(c:(execOp a.eval o).run P w = .ok .skip w')(h:S undef w'):dB P o a w S:=by
 intro ro K Q b
 refine⟨λ_ _=>trivial,?_⟩
 rw[vL (x := .skip) (FW ro).round c (by intro d e;cases e)]
 exact b _ _ h
theorem dB.Cr{P o a w S f args w0}(i:(execOp a.eval o).run P w = .ok (.enter f args) w0)(h:Calls P f args w0 λe w' =>∃u,e = .returned u/\S u w'):dB P o a w S:=by
 intro ro K Q c
 refine⟨λ_ _=>trivial,?_⟩
 rw[vL (x := .enter f args) (FW ro).round i (by intro d e;cases e)]
 refine⟨λh=>absurd h (by simp[FW,Fence.wide]),?_⟩
 have j:CallsIn Fence.wide 0 P f args w0 λe w' =>∃u,e = .returned u/\S u w':=callsIn_wide.2 h
 have b:CallsIn (FW ro) (0 - 1) P f args w0 λe w' =>∃u,e = .returned u/\S u w':=j
 refine b.mono λe w' ⟨u,he,hS⟩=>?_
 subst he
 exact c _ _ hS
theorem dB.NN{P o a w S l f tmps assign body w0}(i:(execOp a.eval o).run P w = .ok (.round l f tmps assign body) w0)(h:RoundIn (FW none) 0 P l f tmps assign body w0 λe w' =>∃u,e = .returned u/\S u w'):dB P o a w S:=by
 intro ro K Q c
 refine⟨λ_ _=>trivial,?_⟩
 rw[vL (x := .round l f tmps assign body) (FW ro).round i (by intro d e;cases e)]
 refine⟨λh=>absurd h (by simp[FW,Fence.wide]),?_⟩
 have b:RoundIn (FW ro) (0 - 1) P l f tmps assign body w0 λe w' =>∃u,e = .returned u/\S u w':=h
 refine b.mono λe w' ⟨u,he,hS⟩=>?_
 subst he
 exact c _ _ hS
theorem fF(a:Act)(d:Option Tmp)(u:Value):(a.put d u).defers=a.defers:=by cases d<;>rfl
theorem B0{P:Program}{s:Sem Value}{w w':World}{u:Value}(h:s.run P w = .ok u w'):(do pure (Next.value (<-s)):Sem Next).run P w = .ok (.value u) w':=by
 simp[h]
section
variable{P:Program}{M:Mem}{ι:Map}{g:cf}{w:World}{r:Ref}
theorem wa{x:AV}{u:Value}{b:Bool}(h:VR M ι x u)(a:zN x=some b):u = .bool b:=by
 cases h<;>simp[zN]at a
 split at a<;>simp_all
theorem sV{x:AV}{u:Value}{n:Int}(h:VR M ι x u)(a:Ab.qK x=some n) : ∃k,u = .int k n:=by
 cases h<;>simp[Ab.qK]at a
 split at a<;>simp_all
theorem NS(B:eW M ι g w)(m:r.k=0)(D:ι r=none){e:TypeId}{n:Nat}{x:AV}{u:Value}(z:VR M ι x u)(s:x.cells.length=n)(p:x.cells.all AV.one=true)(o:0<n) :
 ∃w',(Instr.box e u).run P w = .ok (.pointer (some ⟨w.heap.size,0,none⟩)) w'/\gP M ι g w r (.ptr r 0 0) [⟨n,[x],false,false⟩] (.pointer (some ⟨w.heap.size,0,none⟩)) w':=by
 have a:=z.cells
 have f:u.cells.size=n:=by have:=a.1;simp at this;omega
 obtain⟨t,v⟩:=B.alloc (q:=r) D (w':=w.alloc (.cells u.cells e)) (arr:=u.cells) (T:=e) (fz:=(0,0)) ⟨rfl,rfl,rfl,rfl⟩ ⟨n,[x],false,false⟩ o 1 (by simpa using f) (xF.zero _ _) (by simp) (by simp[s])
  (by
   intro i j E y d b
   cases i with
   | succ i=>simp at d
   | zero=>
    simp at d
    subst d
    have h:j<u.cells.size:=by have:=(dE.1 b).1;omega
    refine⟨u.cells[j],by simp,?_,?_⟩
    ·have A:=a.2 j y u.cells[j] b (by simp[h])
     exact A.one (by simp only[da]at p;exact p y (eY b))
    ·simpa [aJ.map] using a.2 j y u.cells[j] b (by simp[h]))
 refine⟨w.alloc (.cells u.cells e),by simp[Instr.box,newVar,newRow],M,_,?_,by rw[nS _ _ m];exact t,by rw[nS _ _ m];exact v,?_⟩
 ·have:=VR.ptr (M:=M) (ι:=iV ι r ⟨w.heap.size,n,1⟩) (r:=r) (i:=0) (j:=0) (l:=⟨w.heap.size,n,1⟩) (by simp[iV]) o
  simpa using this
 ·intro q c C
  have:q≠r:=by intro e;exact C 0 (by simp) (by rw[e];cases r;simp_all)
  simpa [iV,this] using c
theorem Ln(c:eW M ι g w)(j:r.k=0)(i:ι r=none){e:TypeId}{x:AV}{bs:List aJ}(h:oG P r e=some (x,bs)) :
 ∃u w',(Instr.alloc e true (.tuple #[])).run P w = .ok u w'/\gP M ι g w r x bs u w':=by
 unfold oG at h
 split at h
 ·rename_i z n d o
  split at h
  ·rename_i a
   cases h
   obtain⟨u,b,m⟩:=sO d w
   obtain⟨w',l,f⟩:=NS (P:=P) (e:=e) c j i (gp m) a.1 a.2.1 a.2.2
   refine⟨_,w',?_,f⟩
   have:(Instr.alloc e true (.tuple #[])).run P w=(Instr.box e u).run P w:=by simp[Instr.alloc,b,Instr.box]
   rw[this];exact l
  ·cases h
 ·cases h
theorem Qd(c:eW M ι g w)(i:r.k=0)(f:ι r=none){e:TypeId}{y x:AV}{b:Value}(j:VR M ι y b){bs:List aJ}(h:E5 P r e (some y)=some (x,bs)) :
 ∃u w',(Instr.box e b).run P w = .ok u w'/\gP M ι g w r x bs u w':=by
 unfold E5 at h
 split at h
 ·rename_i p n m o
  cases m
  split at h
  ·rename_i a
   cases h
   obtain⟨w',l,d⟩:=NS (P:=P) (e:=e) c i f j a.1 a.2.1 a.2.2
   exact⟨_,w',l,d⟩
  ·cases h
 ·cases h
theorem Nw(f:eW M ι g w){t:TypeId}{y x:AV}{k:Value}(l:VR M ι y k){bs:List aJ}(h:lz P g t (some y)=some (x,bs)) :
 bs=[] /\∃u,(Instr.loadAt t k).run P w = .ok u w/\VR M ι x u:=by
 unfold lz at h
 split at h
 ·rename_i r' i j o n c e d
  cases c
  split at h
  ·rename_i b p
   simp only[gJ,aZ]at h
   obtain⟨m,a,c⟩:=h
   cases c
   exact⟨rfl,Ka e d f l p a⟩
  ·cases h
 ·rename_i esz es i j o n c e d
  cases c
  simp only[gJ,aZ]at h
  obtain⟨m,a,c⟩:=h
  cases c
  exact⟨rfl,Ob e d f.mem l a⟩
 ·cases h
theorem J3{t:TypeId}{cs:List AV}{c:Array Value}{a:Nat}{x:AV}(f:jD M ι cs c.toList)(h:vl P t cs a=some x) : ∃u,(part t c a).run P w = .ok u w/\VR M ι x u:=by
 unfold vl at h
 split at h
 ·rename_i n d i
  split at h
  ·rename_i k
   cases h
   refine⟨.agg (c.extract a (a+n)),by simp[part,vO d,bP i],VR.mP.2 ?_⟩
   have:=(f.drop a).take n
   have e:(c.extract a (a+n)).toList=(c.toList.drop a).take n:=by
    rw[HL,HP,EE]
   rw[e]
   exact this
  ·cases h
 ·rename_i d
  have j:=(dE.1 h).1
  have b:a<c.size:=by have:=f.1;simp at this;omega
  refine⟨c[a],by simp[part,vO d,ir b],f.2 a x _ h (by simp[b])⟩
 ·cases h
theorem VR.KA{cs:List AV}{u:Value}(h:VR M ι (.agg cs) u) : ∃a,u = .agg a/\jD M ι cs a.toList:=by
 cases h with | agg b c=>exact⟨_,rfl,VR.mP.1 (.agg b c)⟩
theorem DF{t:TypeId}{f b:Nat}{i:TypeId}(h:oC P t f=some (b,i)) : ∃c a,P.underlying t=some (.struct c)/\c[f]?=some a/\a.offset=b/\a.type=i:=by
 unfold oC at h
 split at h
 ·rename_i c e
  simp only[aZ]at h
  obtain⟨a,d,he⟩:=h
  cases he
  exact⟨c,a,e,d,rfl,rfl⟩
 ·cases h
theorem Ll{t:TypeId}{f:Nat}{y x:AV}{d:Value}(j:VR M ι y d){bs:List aJ}(h:pE P t (some y) f=some (x,bs)) :
 bs=[] /\∃u,(Instr.field t d f).run P w = .ok u w/\VR M ι x u:=by
 unfold pE at h
 split at h
 ·rename_i i p cs m c
  cases c
  simp only[gJ,aZ]at h
  obtain⟨o,b,c⟩:=h
  cases c
  obtain⟨s,rfl,a⟩:=j.KA
  obtain⟨q,fd,n,e,rfl,rfl⟩:=DF m
  obtain⟨u,l,k⟩:=J3 (w:=w) a b
  exact⟨rfl,u,by simp[Instr.field,aN n,e,asAgg,l],k⟩
 ·cases h
theorem CK{t:TypeId}{f a s:Nat}(h:az P t f=some (a,s)) : ∃c b,P.underlying t=some (.struct c)/\c[f]?=some b/\b.offset=a/\av P b.type=some s:=by
 unfold az at h
 split at h
 ·rename_i d o k
  simp only[aZ]at h
  obtain⟨n,e,he⟩:=h
  cases he
  obtain⟨c,b,m,j,l,i⟩:=DF k
  exact⟨c,b,m,j,l,i ▸ e⟩
 ·cases h
theorem Dg{t:TypeId}{f:Nat}{y x:AV}{c:Value}(m:VR M ι y c){bs:List aJ}(h:jA P t (some y) f=some (x,bs)) :
 bs=[] /\∃u,(Instr.fieldAt t c f).run P w = .ok u w/\VR M ι x u:=by
 unfold jA at h
 split at h
 ·rename_i q s B
  obtain⟨E,fd,C,p,rfl,z⟩:=CK B
  split at h
  ·rename_i D
   have k : ∀(b o:Nat),c = .pointer (some ⟨b,o,none⟩)->(Instr.fieldAt t c f).run P w = .ok (.pointer (some ⟨b,o+fd.offset,none⟩)) w:=by
    intro b o e
    subst e
    simp[Instr.fieldAt,aN C,p,Instr.sureAddr,fieldPlace,bP z,show s≠0 by omega,fk]
   split at h
   ·rename_i r' i j a
    cases a
    cases h
    cases m with | ptr A d=>
    rename_i l
    exact⟨rfl,_,k _ _ rfl,by rw[A8];exact .ptr A d⟩
   ·rename_i n es i j a
    cases a
    cases h
    cases m with | iptr cell hm a v=>
    rename_i b o
    exact⟨rfl,_,k _ _ rfl,by rw[show o+(i * n+j)+fd.offset=o+(i * n+(j+fd.offset)) by omega];exact .iptr cell hm a v⟩
   ·cases h
  ·cases h
 ·cases h
theorem fc{t e:TypeId}(h:dV P t=some e):P.underlying t=some (.slice e):=by
 unfold dV at h
 split at h
 ·cases h;assumption
 ·cases h
theorem AF{t e:TypeId}{n:Nat}(h:mi P t=some (n,e)):P.underlying t=some (.array n e):=by
 unfold mi at h
 split at h
 ·cases h;assumption
 ·cases h
theorem Df(U:eW M ι g w){t:TypeId}{y z x:AV}{O W:Value}(I:VR M ι y O)(Z:VR M ι z W){bs:List aJ}(h:bE P g t (some y) (some z)=some (x,bs)) :
 bs=[] /\∃u,(Instr.indexAt t O W).run P w = .ok u w/\VR M ι x u:=by
 unfold bE at h
 simp only[dF]at h
 split at h
 ·rename_i k hk
  obtain⟨Y,rfl⟩:=sV Z hk
  split at h
  ·rename_i e T
   have N:=fc T
   split at h
   ·rename_i esz es cap s d B
    cases d
    split at h
    ·rename_i q
     obtain⟨K,C,rfl⟩:=q
     cases h
     cases I with | bl cell f G J hm Q S=>
     rename_i a c
     refine⟨rfl,.pointer (some (a.add (k.toNat * s))),?_,?_⟩
     ·simp[Instr.indexAt,asIntOf,aN N,K,C,bP B]
     ·have f:=f.resolve_right (by intro e;subst e;simp at C;omega)
      rw[ik f,fk]
      have:=VR.iptr (M:=M) (ι:=ι) (i:=k.toNat) (j:=0) (b:=a.block) (o:=a.off) cell hm Q S
      simpa using this
    ·cases h
   ·rename_i r' p len cap s d B
    cases d
    split at h
    ·rename_i b R
     split at h
     ·rename_i q
      obtain⟨K,C,D⟩:=q
      cases h
      cases I with | bD H F f L G hn J A=>
      rename_i l a c
      obtain⟨l',m,E⟩:=U.live r' b R
      rw[H]at m;cases m
      refine⟨rfl,.pointer (some (a.add (k.toNat * s))),?_,?_⟩
      ·simp[Instr.indexAt,asIntOf,aN N,K,C,bP B]
      ·have v:a.off=p * l.esz:=by
        rcases L with h | h
        ·omega
        ·exact h
       rw[ik f,fk,F,v,D,<-E.esz,<-jH]
       have:=VR.ptr (M:=M) (ι:=ι) (i:=p+k.toNat) (j:=0) H A
       simpa using this
     ·cases h
    ·cases h
   ·rename_i r' p len cap s d B
    cases d
    split at h
    ·rename_i b R
     split at h
     ·rename_i q
      obtain⟨K,C,D⟩:=q
      cases h
      cases I with | dsl H F f L G hn J A=>
      rename_i l a c
      obtain⟨l',m,E⟩:=U.live r' b R
      rw[H]at m;cases m
      refine⟨rfl,.pointer (some (a.add (k.toNat * s))),?_,?_⟩
      ·simp[Instr.indexAt,asIntOf,aN N,K,C,bP B]
      ·have v:a.off=p * l.esz:=by
        rcases L with h | h
        ·omega
        ·exact h
       rw[ik f,fk,F,v,D,<-E.esz,<-jH]
       have:=VR.ptr (M:=M) (ι:=ι) (i:=p+k.toNat) (j:=0) H A
       simpa using this
     ·cases h
    ·cases h
   ·cases h
  ·split at h
   ·rename_i n e L
    have N:=AF L
    have V : ∀(b o s:Nat),O = .pointer (some ⟨b,o,none⟩)->av P e=some s->0<=k->k<n->(Instr.indexAt t O (.int Y k)).run P w = .ok (.pointer (some ⟨b,o+k.toNat * s,none⟩)) w:=by
     intro b o s e C h2 X
     subst e
     simp[Instr.indexAt,asIntOf,aN N,Instr.sureAddr,h2,X,bP C,fk]
    split at h
    ·rename_i r' i j s d B
     cases d
     split at h
     ·rename_i q
      cases h
      cases I with | ptr hl A=>
      exact⟨rfl,_,V _ _ _ rfl B q.1 q.2,by rw[A8];exact .ptr hl A⟩
     ·cases h
    ·rename_i esz es i j s d B
     cases d
     split at h
     ·rename_i q
      cases h
      cases I with | iptr cell hm T S=>
      rename_i b o
      exact⟨rfl,_,V _ _ _ rfl B q.1 q.2,by rw[show o+(i * esz+j)+k.toNat * s=o+(i * esz+(j+k.toNat * s)) by omega];exact .iptr cell hm T S⟩
     ·cases h
    ·cases h
   ·cases h
 ·cases h
theorem Gx{y x:AV}{d:Value}{i:Nat}(f:VR M ι y d){bs:List aJ}(h:pj (some y) i=some (x,bs)) :
 bs=[] /\∃u,(Instr.extract d i).run P w = .ok u w/\VR M ι x u:=by
 unfold pj at h
 split at h
 ·rename_i m c
  cases c
  simp only[gJ,aZ]at h
  obtain⟨k,b,c⟩:=h
  cases c
  cases f with | tup l j e=>
  rename_i us
  have a:i<us.size:=by have:=(dE.1 b).1;omega
  exact⟨rfl,us[i],by simp[Instr.extract,ir a],e i _ _ b (ir a)⟩
 ·cases h
theorem Lk{t:TypeId}{y x:AV}{a:Value}(e:VR M ι y a){bs:List aJ}(h:tK P t (some y)=some (x,bs)) :
 bs=[] /\∃u,(Instr.makeInterface t a).run P w = .ok u w/\VR M ι x u:=by
 unfold tK at h
 split at h
 ·cases h
 ·rename_i d b c
  simp at h
  obtain⟨rfl,rfl⟩:=h
  refine⟨rfl,.iface t a,?_,.ifc e⟩
  simp only[Instr.makeInterface,Sem.run_bind,aN c,Result.andThen_ok]
  cases d<;>first | rfl | (exact absurd c (b _))
 ·cases h
theorem IJ{st a:TypeId}{ok:Bool}{y x:AV}{p:Value}(n:VR M ι y p){bs:List aJ}(h:vS P (some y) a ok=some (x,bs)) :
 bs=[] /\∃u,(Instr.typeAssert p st a ok).run P w = .ok u w/\VR M ι x u:=by
 have k : ∀d,P.underlying a=some d->(∀D,d ≠ .interface D) ->∀z,ei P a=some z->ok=true->(p = .nilIface \/∃t v,p = .iface t v/\t≠a) ->
  ∃u,(Instr.typeAssert p st a ok).run P w = .ok u w/\VR M ι (.tup [z,.v (.bool false)]) u:=by
  intro d l b z o j f
  subst j
  obtain⟨v,C,q⟩:=sO o w
  refine⟨.tuple #[v,.bool false],?_,?_⟩
  ·simp only[Instr.typeAssert,Sem.run_bind,aN l,Result.andThen_ok]
   rcases f with rfl | ⟨t,x,rfl,m⟩
   ·cases d<;>first | (simp[C];done) | exact absurd rfl (b _)
   ·cases d<;>first | (simp[C,m];done) | exact absurd rfl (b _)
  ·refine .tup (by simp) rfl λi c u e f=>?_
   match i with
   | 0=>simp at e f;subst e;subst f;exact gp q
   | 1=>simp at e f;subst e;subst f;exact .v rfl
   | i+2=>simp at e
 unfold vS at h
 split at h
 ·cases h
 ·rename_i d t E b l B
  cases B
  cases n with | ifc n=>
  rename_i A
  split at h
  ·rename_i s
   subst s
   simp at h
   obtain⟨rfl,rfl⟩:=h
   refine⟨rfl,(if ok then .tuple #[A,.bool true] else A),?_,?_⟩
   ·simp only[Instr.typeAssert,Sem.run_bind,aN l,Result.andThen_ok]
    cases d<;>first | (simp;done) | exact absurd l (by intro h;exact b _ h)
   ·cases ok with
    | false=>simpa using n
    | true=>
     simp only[if_true]
     refine .tup (by simp) rfl λi c u e f=>?_
     match i with
     | 0=>simp at e f;subst e;subst f;exact n
     | 1=>simp at e f;subst e;subst f;exact .v rfl
     | i+2=>simp at e
  ·rename_i s
   split at h
   ·rename_i j
    simp at h
    obtain⟨z,o,rfl,rfl⟩:=h
    exact⟨rfl,k d l b z o j (.inr ⟨t,A,rfl,s⟩)⟩
   ·cases h
 ·rename_i d b l B
  cases B
  split at h
  ·rename_i j
   simp at h
   obtain⟨z,o,rfl,rfl⟩:=h
   cases n
   exact⟨rfl,k d l b z o j (.inl rfl)⟩
  ·cases h
 ·cases h
end
end
section
section
variable{P:Program}{M:Mem}{ι:Map}{g:cf}{w:World}{r:Ref}
theorem G1(a:Nat) : ∀(us:List Value)(k:Nat)(cells:Array Value),a+k+us.length<=cells.size ->
 (us.zipIdx k).foldl (λcs (p:Value × Nat)=>cs.setIfInBounds (a+p.2) p.1) cells=bQ cells (a+k) us:=by
 intro us
 induction us with
 | nil=>intro k cells h;simp[bQ]
 | cons u us c=>
  intro k cells h
  simp only[ji]at h
  rw[List.zipIdx_cons,uq,c (k+1) _ (by simp;omega)]
  apply zS
  intro i
  rw[fR (by simp;omega),fR (by simp;omega)]
  by_cases d:i=a+k
  ·subst d
   rw[if_neg (by omega),if_pos ⟨aW _,by simp⟩]
   simp[show a+k<cells.size by omega]
  ·by_cases b:a+(k+1)<=i/\i<a+(k+1)+us.length
   ·rw[if_pos b,if_pos (by simp;omega)]
    rw[show i - (a+k)=(i - (a+(k+1)))+1 by omega]
    simp
   ·rw[if_neg b,if_neg (by simp;omega)]
    rw[wC (by omega)]
theorem jD.patch{cs new:List AV}{us a:List Value}{j:Nat}(h:jD M ι cs us)(b:jD M ι new a):jD M ι (patch cs j new) (us.take j++a++us.drop (j+a.length)):=by
 unfold Ab.patch
 rw[<-b.1]
 exact((h.take j).append b).append (h.drop _)
theorem Kl(d:Nat->Option (Nat × Nat)) : ∀(ps:List (Nat × AV)) (qs:List (Nat × Value)) (cs c:List AV) (b:Array Value),qM d cs ps=some c->jD M ι cs b.toList ->
 ps.length=qs.length->(∀(i:Nat) p q,ps[i]?=some p->qs[i]?=some q->p.1=q.1/\VR M ι p.2 q.2) ->
 ∃e,Instr.fill d b qs=some e/\jD M ι c e.toList:=by
 intro ps
 induction ps with
 | nil=>
  intro qs cs c b h o s hp
  simp[qM]at h
  subst h
  cases qs with
  | nil=>exact⟨b,rfl,o⟩
  | cons q qs=>simp at s
 | cons p ps G=>
  intro qs cs c b h o s hp
  cases qs with
  | nil=>simp at s
  | cons q qs=>
   obtain⟨i,v⟩:=p
   obtain⟨J,u⟩:=q
   obtain⟨B,A⟩:=hp 0 _ _ rfl rfl
   simp only at B A
   subst B
   simp only[qM]at h
   split at h
   ·cases h
   ·rename_i a m y
    split at h
    ·rename_i D
     obtain⟨I,hle⟩:=D
     have n:=A.cells
     have H:u.cells.size=m:=by have:=n.1;simp at this;omega
     have E:b.size=cs.length:=by have:=o.1;simp at this;omega
     have f:=G1 a u.cells.toList 0 b (by simp;omega)
     have l:u.cells.zipIdx.foldl (λcs (p:Value × Nat)=>cs.setIfInBounds (a+p.2) p.1) b=bQ b a u.cells.toList:=by
      rw[uU]at f
      rw[<-f,<-HG,Array.toList_zipIdx]
     have x:jD M ι (patch cs a v.cells) (bQ b a u.cells.toList).toList:=by
      have:=o.patch (j:=a) n
      simpa [bQ] using this
     obtain⟨e,C,F⟩:=G qs (patch cs a v.cells) c (bQ b a u.cells.toList) h x (by simpa using s) (λk p q z t=>hp (k+1) p q z t)
     refine⟨e,?_,F⟩
     simp only[Instr.fill,y]
     rw[if_neg (by simp;omega)]
     rw[<-C,<-l]
    ·cases h
theorem nP{tm:List AV}{a:Act}(h:TR M ι tm a){ps:List (Nat × Operand)}{c:List (Nat × AV)}(b:fj tm ps=some c) :
 c.length=(ps.map λp=>(p.1,a.eval p.2)).length /\∀(i:Nat) p q,c[i]?=some p->(ps.map λp=>(p.1,a.eval p.2))[i]?=some q->p.1=q.1/\VR M ι p.2 q.2:=by
 unfold fj at b
 refine⟨by simpa using fg b,λi p q hp e=>?_⟩
 obtain⟨⟨k,o⟩,f,d⟩:=lO b i p hp
 simp only[aZ]at d
 obtain⟨y,j,rfl⟩:=d
 simp only[kJ,f,Option.map_some,dc]at e
 subst e
 exact⟨rfl,ay h j⟩
theorem oA{t:TypeId}{z:AV}(h:ei P t=some z) : ∃i u,P.info? t=some i/\i.zero=some u/\ofValue u=some z:=by
 simp only[ei,fD]at h
 obtain⟨u,⟨i,hi,b⟩,a⟩:=h
 exact⟨i,u,hi,b,a⟩
theorem Lm{t:TypeId}{l:List (Nat × AV)}{qs:Array (Nat × Value)}{x:AV}{bs:List aJ}(B:l.length=qs.toList.length)
 (hp : ∀(i:Nat) p q,l[i]?=some p->qs.toList[i]?=some q->p.1=q.1/\VR M ι p.2 q.2) (h:kW P t (some l)=some (x,bs)) :
 bs=[] /\∃u,(Instr.build t qs).run P w = .ok u w/\VR M ι x u:=by
 unfold kW at h
 split at h
 ·rename_i z D G k
  cases k
  obtain⟨it,u,j,d,E⟩:=oA G
  obtain⟨A,rfl,f⟩:=(gp (M:=M) (ι:=ι) E).KA
  split at h
  ·rename_i n e C
   split at h
   ·rename_i s F
    simp only[aZ]at h
    obtain⟨cs,c,k⟩:=h
    cases k
    obtain⟨H,v,rfl⟩:=qC F
    obtain⟨a,y,o⟩:=Kl (M:=M) (ι:=ι) _ l qs.toList z cs A c f B hp
    refine⟨rfl,.agg a,run_build w t qs a ?_,VR.mP.2 o⟩
    simp[Program.built,j,AF C,d,v,Value.cells,y]
   ·cases h
  ·split at h
   ·rename_i ps b
    simp only[aZ]at h
    obtain⟨cs,c,k⟩:=h
    cases k
    unfold ic at b
    split at b
    ·rename_i I m
     obtain⟨a,y,o⟩:=Kl (M:=M) (ι:=ι) _ l qs.toList z cs A c f B hp
     refine⟨rfl,.agg a,run_build w t qs a ?_,VR.mP.2 o⟩
     simp only[Program.built,j,m,d,b,Value.cells]
     rw[<-y]
     congr 1
     funext i
     simp
    ·cases b
   ·cases h
 ·cases h
theorem Qe{b:BinOp}{t:TypeId}{o p:Operand}{x y z:AV}{u v:Value}(j:VR M ι x u)(k:VR M ι y v){bs:List aJ}(h:bK P b t o p (some x) (some y)=some (z,bs)) :
 bs=[] /\∃r,(do eqGuard b t o p u v;binOp b t u v:Sem Value).run P w = .ok r w/\VR M ι z r:=by
 simp only[bK]at h
 ·split at h
  ·rename_i s
   have key:(∃a n c,u = .slice (some a) n c/\v = .slice none 0 0)\/(∃a n c,v = .slice (some a) n c/\u = .slice none 0 0):=by
    simp only[jh,aY]at s
    rcases s with ⟨q,d⟩ | ⟨q,d⟩
    ·left
     have:v = .slice none 0 0:=by
      cases k<;>simp[jo]at d
      split at d<;>simp_all
     cases j<;>simp[Az]at q
     ·exact⟨_,_,_,rfl,this⟩
     ·exact⟨_,_,_,rfl,this⟩
     ·exact⟨_,_,_,rfl,this⟩
    ·right
     have:u = .slice none 0 0:=by
      cases j<;>simp[jo]at d
      split at d<;>simp_all
     cases k<;>simp[Az]at q
     ·exact⟨_,_,_,rfl,this⟩
     ·exact⟨_,_,_,rfl,this⟩
     ·exact⟨_,_,_,rfl,this⟩
   have i : ∀b,(eqGuard b t o p u v).run P w = .ok () w:=by
    intro b
    rcases key with ⟨a,n,c,rfl,rfl⟩ | ⟨a,n,c,rfl,rfl⟩<;>(unfold eqGuard;cases b<;>simp)
   split at h
   ·rename_i e f
    simp at h;obtain⟨rfl,rfl⟩:=h
    refine⟨rfl,.bool false,?_,.v rfl⟩
    simp only[Sem.run_bind,i,Result.andThen_ok]
    rcases key with ⟨a,n,c,rfl,rfl⟩ | ⟨a,n,c,rfl,rfl⟩
    ·rw[Lib.run_eql_slice_nil w t e (some a) n c 0 0 f];rfl
    ·rw[run_eql_nil_slice w t e (some a) n c 0 0 f];rfl
   ·rename_i e f
    simp at h;obtain⟨rfl,rfl⟩:=h
    refine⟨rfl,.bool true,?_,.v rfl⟩
    simp only[Sem.run_bind,i,Result.andThen_ok]
    rcases key with ⟨a,n,c,rfl,rfl⟩ | ⟨a,n,c,rfl,rfl⟩
    ·rw[run_neq_slice_nil_any w t e (some a) n c 0 0 f];rfl
    ·rw[run_neq_nil_slice w t e (some a) n c 0 0 f];rfl
   ·cases h
  ·split at h
   ·rename_i E G l m
    simp only[gJ,aZ,fD]at h
    obtain⟨F,⟨r,B,C⟩,he⟩:=h
    cases he
    have D:=qD j l
    have A:=qD k m
    subst D;subst A
    exact⟨rfl,r,lB B w,lC C⟩
   ·cases h
theorem SF{a:UnOp}{x z:AV}{u:Value}(c:VR M ι x u){bs:List aJ}(h:Ru P a (some x)=some (z,bs)) :
 bs=[] /\∃r,(Op.unary a u).run P w = .ok r w/\VR M ι z r:=by
 simp only[Ru,gJ,aZ,fD,dc]at h
 obtain⟨i,⟨r,⟨v,⟨f,rfl,e⟩,d⟩,b⟩,he⟩:=h
 cases he
 have:=Ia c e
 subst this
 exact⟨rfl,r,lB d w,lC b⟩
theorem Pt{b:List AV}{us d:List Value}(c:jD M ι b us)(h:b.mapM DB=some d):us=d:=by
 apply Ey
 intro i
 rcases dH i us.length with hi | hi
 ·have a:i<b.length:=by rw[c.1];exact hi
  obtain⟨v,f,e⟩:=jq h i b[i] (cw a)
  rw[f,cw hi,Ia (c.2 i _ _ (cw a) (cw hi)) e]
 ·have:=fg h
  rw[sn hi,sn (by rw[this,c.1];exact hi)]
theorem DW{f:Value->Value->Sem Value}{b:List AV}{us:List Value}{z:AV}(d:jD M ι b us)(h:Fg f P b=some z) :
 ∃u a,us=u :: a /\∃r,(a.foldlM f u).run P w = .ok r w/\VR M ι z r:=by
 unfold Fg at h
 split at h
 ·rename_i u a i
  have:=Pt d i
  subst this
  simp only[fD]at h
  obtain⟨r,e,c⟩:=h
  exact⟨u,a,rfl,r,lB e w,lC c⟩
 ·cases h
theorem pt{t:TypeId}(h:isStr P t=true):P.underlying t=some .string:=by
 unfold isStr at h
 split at h
 ·assumption
 ·cases h
theorem nM{t:TypeId}(h:cI P t=true) : ∃e,P.underlying t=some (.slice e)/\P.underlying e=some (.int .u8):=by
 unfold cI at h
 split at h
 ·rename_i e a
  split at h
  ·exact⟨e,a,by assumption⟩
  ·cases h
 ·cases h
theorem N9{t:TypeId}(h:isInt P t=true) : ∃k,P.underlying t=some (.int k):=by
 unfold isInt at h
 split at h
 ·exact⟨_,by assumption⟩
 ·cases h
end
end
section
section
variable{P:Program}{M:Mem}{ι:Map}{g:cf}{w:World}{r:Ref}
structure Src (P:Program) (M:Mem) (w:World) (u:Value) (z:Nat) (es:List AV) (us:List Value):Prop where
 len:us.length=es.length * z
 C4 : ∀e∈es,e.cells.length=z
 one : ∀x∈us,x.oneCell'=true
 vr : ∀(i j:Nat) e x,es[i]?=some e->e.cells[j]?=some x ->∃u,us[i * z+j]?=some u/\VR M cQ x u
 lenOf : ∀w':World,(Builtin.lenOf u).run P w' = .ok es.length w'
 first : ∀(n:Nat)(w':World),n<=es.length->w'.heap=w.heap->(Builtin.firstCells z n u).run P w' = .ok (us.take (n * z)).toArray w'
theorem Lc{es:List AV}{z:Nat}(h : ∀e∈es,e.cells.length=z)(cell:Nat->Nat->Value) :
 ∃us:List Value,us.length=es.length * z /\∀i j,i<es.length->j<z->us[i * z+j]?=some (cell i j):=by
 refine⟨(List.range (es.length * z)).map λk=>cell (k / z) (k % z),by simp,?_⟩
 intro i j hi a
 have b:0<z:=by omega
 have:=zB hi a
 rw[kJ,AR this]
 simp only[Option.map_some,dc]
 rw[yZ i z,Nat.mul_add_div b,Nat.div_eq_of_lt a,Nat.mul_add_mod,Es a,uU]
theorem JL{es:List AV}{z:Nat}(b : ∀e∈es,e.cells.length=z)(F:0<z\/es=[]){a:Addr}{c:Nat}(u:a.spot=none\/es=[])(cell:Nat->Nat->Value)
 (C : ∀i j,i<es.length->j<z->w.cell? ⟨a.block,a.off+(i * z+j),none⟩=some (cell i j)/\(cell i j).oneCell'=true)
 (E : ∀(i j:Nat) e x,es[i]?=some e->e.cells[j]?=some x->VR M cQ x (cell i j)) : ∃us,Src P M w (.slice (some a) es.length c) z es us:=by
 obtain⟨us,B,s⟩:=Lc b cell
 have f : ∀k,k<us.length->0<z/\k / z<es.length/\k % z<z/\k / z * z+k % z=k:=by
  intro k o
  rw[B]at o
  have d:0<z:=by
   rcases F with h | h
   ·exact h
   ·subst h;simp at o
  exact⟨d,(Nat.div_lt_iff_lt_mul d).2 o,Nat.mod_lt _ d,by rw[yZ];exact Nat.div_add_mod k z⟩
 refine⟨us,B,b,?_,?_,λw'=>by simp[Builtin.lenOf],?_⟩
 ·intro x q
  obtain⟨k,o,t⟩:=mw q
  obtain⟨d,m,p,e⟩:=f k o
  have:=s _ _ m p
  rw[e,cw o,t]at this
  injection this with this
  rw[this]
  exact(C _ _ m p).2
 ·intro i j e x A q
  have hi:=(dE.1 A).1
  have l:j<z:=by
   rw[<-b e (eY A)]
   exact(dE.1 q).1
  exact⟨cell i j,s i j hi l,E i j e x A q⟩
 ·intro n w' D y
  have H:n * z<=us.length:=by rw[B];exact jN _ D
  refine run_firstCells_some (P:=P) w' z n a es.length c (us.take (n * z)) (by simp;omega) ?_
  intro j v l
  rw[uW]at l
  split at l
  ·rename_i G
   obtain⟨d,m,p,e⟩:=f j (by omega)
   have:=s _ _ m p
   rw[e,l]at this
   cases this
   have u:=u.resolve_right (by intro e;subst e;simp at m)
   rw[ik u,fk]
   have:=(C _ _ m p).1
   rw[e]at this
   rw[World.cell?_of_block (w:=w) (by rw[y])]
   exact this
  ·cases l
theorem getElems(es:List AV)(a len:Nat)(b:a+len<=es.length):((es.drop a).take len).length=len /\∀i,i<len->((es.drop a).take len)[i]?=es[a+i]? :=
 ⟨by simp;omega,λi hi=>by rw[uW,if_pos hi,wA]⟩
theorem lG(H:eW M ι g w){x:AV}{u:Value}(k:VR M ι x u){z:Nat}{es:List AV}(I:0<z)(h:bW g x=some (z,es)) : ∃us,Src P M w u z es us:=by
 unfold bW at h
 split at h
 ·rename_i s
  cases h
  cases k
  refine⟨s.data.toList.map λb => .int .u8 b.toNat,?_,?_,?_,?_,?_,?_⟩
  ·simp
  ·intro e f
   simp only[kf]at f
   obtain⟨b,_,rfl⟩:=f
   rfl
  ·intro x k
   simp only[kf]at k
   obtain⟨b,_,rfl⟩:=k
   rfl
  ·intro i j e x f k
   simp only[kJ,aZ]at f
   obtain⟨b,E,rfl⟩:=f
   cases j with
   | succ j=>simp[AV.cells]at k
   | zero=>
    simp[AV.cells]at k
    subst k
    exact⟨.int .u8 b.toNat,by simp[E],.v rfl⟩
  ·intro w'
   simp only[Builtin.lenOf,Sem.run_pure,xM,wB]
   rfl
  ·intro n w' R W
   simp only[Builtin.firstCells,Nat.mul_one,Sem.run_pure]
   congr 1
   apply AW
   simp only[Array.toList_map,ByteArray.data_extract,HL]
   rw[HP]
   simp[List.map_take]
 ·rename_i esz es' cap
  cases h
  cases k with | bl cell D J Q hm f U=>
  rename_i a c
  exact JL f (.inl I) D cell (λi j hi o=>⟨H.mem _ _ _ (hm i j hi o).1,(hm i j hi o).2⟩) U
 ·rename_i r' d len cap
  split at h
  ·rename_i b E
   split at h
   ·rename_i J
    cases h
    obtain⟨t,hlen⟩:=J
    cases k with | bD N F D T L R Q G=>
    rename_i l a c
    have m:=H.at N G E
    obtain⟨B,A⟩:=getElems b.es d len hlen
    have p:0<len->a.off=d * b.esz:=by
     intro X
     rcases T with h | h
     ·omega
     ·rw[h,m.esz]
    have key : ∀i j,i<len->j<b.esz ->∃u,w.cell? ⟨a.block,a.off+(i * b.esz+j),none⟩=some u/\u.oneCell'=true /\∀e x,b.es[d+i]?=some e->e.cells[j]?=some x->VR M cQ x u:=by
     intro i j hi o
     have f:b.es[d+i]?=some b.es[d+i]:=cw (by omega)
     have S:=m.cells b.es[d+i] (gD _)
     obtain⟨u,V,B,A⟩:=m.cell (d+i) f j _ (cw (by omega:j<b.es[d+i].cells.length))
     refine⟨u,?_,B,?_⟩
     ·rw[p (by omega),F,show d * b.esz+(i * b.esz+j)=(d+i) * b.esz+j by rw[jH];omega]
      exact V
     ·intro e x q y
      rw[f]at q;cases q
      rw[cw (by omega:j<b.es[d+i].cells.length)]at y;cases y
      rw[aJ.map,if_pos t]at A
      exact A
    let cell:Nat->Nat->Value:=λi j=>(w.cell? ⟨a.block,a.off+(i * b.esz+j),none⟩).getD undef
    have:=JL (P:=P) (M:=M) (w:=w) (es:=(b.es.drop d).take len) (z:=b.esz) (a:=a) (c:=c)
     (by intro e f;exact m.cells e (zT (uX f))) (.inl I) (.inl D) cell
     (by
      intro i j hi o
      rw[B]at hi
      obtain⟨u,C,K,_⟩:=key i j hi o
      simp[cell,C,K])
     (by
      intro i j e x f k
      have hi:i<len:=by have:=(dE.1 f).1;omega
      rw[A i hi]at f
      have o:j<b.esz:=by
       rw[<-m.cells e (eY f)]
       exact(dE.1 k).1
      obtain⟨u,C,K,O⟩:=key i j hi o
      simp only[cell,C,bO]
      exact O e x f k)
    rw[B]at this
    exact this
   ·cases h
  ·cases h
 ·cases h
inductive yS:Option Value->Option Int->Prop
 | none:yS none none
 | some (k n):yS (some (.int k n)) (some n)
theorem qp{tm:List AV}{a:Act}(h:TR M ι tm a){o:Option Operand}{x:Option Int}(b:jR tm o=some x):yS (o.map a.eval) x:=by
 cases o with
 | none=>simp only[jR,dc]at b;subst b;exact .none
 | some o=>
  simp only[jR]at b
  split at b
  ·rename_i n c
   injection b with b
   subst b
   simp only[fD]at c
   obtain⟨y,e,hi⟩:=c
   obtain⟨k,d⟩:=sV (ay h e) hi
   rw[Option.map_some,d]
   exact .some k n
  ·cases b
theorem vZ{len c:Nat}{cap:Option Nat}(J:len<=c)(A : ∀k,cap=some k->c=k){lo hi C:Option Int}{l h:Nat}{F:Option Nat}(a:bounds len cap lo hi C=some (l,h,F))
 {q t s:Option Value} (z:yS q lo) (D:yS t hi) (H:yS s C) :
 l<=h/\h<=len /\∃m,h<=m/\m<=c/\(∀k,F=some k->m - l=k)/\(Instr.sliceBounds true len c q t s).run P w = .ok (l,h,m) w:=by
 have f : ∀(k:IntKind)(i:Int)(y:Nat)(d:BoundsCode),0<=i->i<=y->(Instr.sliceBound (.int k i) y d).run P w = .ok i.toNat w:=λk i y d=>run_sliceBound w k i y d
 cases H with
 | some B m=>
  cases D with
  | none=>simp[bounds]at a
  | some u b=>
   simp only[bounds]at a
   obtain⟨⟨n,j,x,E,L⟩,a⟩:=dG.1 a
   simp only[dc,si]at a
   obtain⟨rfl,rfl,rfl⟩:=a
   have G:m<=c:=by
    cases cap with
    | none=>simp at E;omega
    | some k=>have:=A k rfl;simp at E;omega
   have N:((m.toNat:Nat):Int)=m:=xP (by omega)
   have I:((b.toNat:Nat):Int)=b:=xP (by omega)
   refine⟨by omega,by omega,m.toNat,by omega,by omega,by intro k e;cases e;rfl,?_⟩
   cases z with
   | none=>
    simp only[qy]at n j
    simp only[Instr.sliceBounds,Sem.run_bind,f B m c _ (by omega) (by omega),Result.andThen_ok,f u b m.toNat _ (by omega) (by omega),Sem.run_pure,qy]
    rfl
   | some o p=>
    simp only[bO]at n j
    simp only[Instr.sliceBounds,Sem.run_bind,f B m c _ (by omega) (by omega),Result.andThen_ok,f u b m.toNat _ (by omega) (by omega),f o p b.toNat _ (by omega) (by omega),Sem.run_pure,bO]
 | none=>
  simp only[bounds]at a
  obtain⟨⟨n,j,x⟩,a⟩:=dG.1 a
  simp only[dc,si]at a
  obtain⟨rfl,rfl,rfl⟩:=a
  refine⟨by omega,by omega,c,by omega,aW _,?_,?_⟩
  ·intro k e
   simp only[aZ]at e
   obtain⟨K,v,rfl⟩:=e
   rw[A K v]
  ·cases D with
   | none=>
    simp only[qy]at j x ⊢
    cases z with
    | none=>simp[Instr.sliceBounds]
    | some o p=>
     simp only[bO]at n j ⊢
     simp only[Instr.sliceBounds,Sem.run_bind,Sem.run_pure,Result.andThen_ok,f o p len _ (by omega) (by omega)]
     simp
   | some u b=>
    simp only[bO]at j x ⊢
    have I:((b.toNat:Nat):Int)=b:=xP (by omega)
    cases z with
    | none=>
     simp only[qy]at n j ⊢
     simp only[Instr.sliceBounds,Sem.run_bind,Sem.run_pure,Result.andThen_ok,f u b c _ (by omega) (by omega)]
     simp
    | some o p=>
     simp only[bO]at n j ⊢
     simp only[Instr.sliceBounds,Sem.run_bind,Sem.run_pure,Result.andThen_ok,f u b c _ (by omega) (by omega),f o p b.toNat _ (by omega) (by omega)]
theorem nF{t e:TypeId}(i:P.underlying t=some (.slice e)){s:Nat}(j:av P e=some s){a:Option Addr}{len c l h m:Nat}{b d f:Option Value}
 (k:(Instr.sliceBounds true len c b d f).run P w = .ok (l,h,m) w) :
 (Instr.sliceAt t (.slice a len c) b d f).run P w = .ok (.slice (if m=l then a else a.map (·.add (l * s))) (h - l) (m - l)) w:=by
 simp[Instr.sliceAt,aN i,Instr.slice,k,bP j]
theorem Li(hS:eW M ι g w){t:TypeId}{y x:AV}{u0:Value}(R:VR M ι y u0){lo hi mx:Option Int}{S W U:Option Value}
 (O:yS S lo) (V:yS W hi) (Q:yS U mx)
 {bs:List aJ} (h:ca P g t (some y) (some lo) (some hi) (some mx)=some (x,bs)) :
 bs=[] /\∃u,(Instr.sliceAt t u0 S W U).run P w = .ok u w/\VR M ι x u:=by
 simp only[ca]at h
 split at h
 ·
  rename_i e
  cases e
  cases R
  obtain⟨n,h⟩:=dG.1 h
  simp only[aZ]at h
  obtain⟨⟨l,f,L⟩,o,e⟩:=h
  cases e
  obtain⟨s,C⟩:=fO.1 n
  simp only[fD]at C
  obtain⟨e,D,C⟩:=C
  obtain⟨b1,b2,m,b3,b4,b5,b6⟩:=vZ (P:=P) (w:=w) (aW 0) (by intro k I;cases I;rfl) o O V Q
  have e1:l=0:=by omega
  have E:f=0:=by omega
  have e3:m=0:=by omega
  subst e1;subst E;subst e3
  exact⟨rfl,_,nF (fc D) C b6,.v rfl⟩
 ·
  rename_i s e
  cases e
  cases R
  obtain⟨n,h'⟩:=dG.1 h
  clear h
  simp only[aY,Option.isNone_iff_eq_none]at n
  obtain⟨n,rfl⟩:=n
  cases Q
  obtain⟨⟨l,f,L⟩,o,e⟩:=aZ.1 h'
  cases e
  have Y:=pt n
  have X : ∀(k:IntKind)(i:Int)(y:Nat)(z:BoundsCode),0<=i->i<=y->(Instr.sliceBound (.int k i) y z).run P w = .ok i.toNat w:=λk i y z=>run_sliceBound w k i y z
  simp only[bounds]at o
  obtain⟨⟨T,G,Z⟩,o⟩:=dG.1 o
  simp only[dc,si]at o
  obtain⟨rfl,rfl,rfl⟩:=o
  refine⟨rfl,.string (s.extract (lo.getD 0).toNat (hi.getD s.size).toNat),?_,.v rfl⟩
  cases V with
  | none=>
   simp only[qy]at G Z;try simp only[qy,bO]
   cases O with
   | none=>simp[Instr.sliceAt,aN Y,Instr.slice,Instr.sliceBounds]
   | some kl ll=>
    simp only[bO]at T G;try simp only[qy,bO]
    simp[Instr.sliceAt,aN Y,Instr.slice,Instr.sliceBounds,X kl ll s.size _ T G]
  | some kh f=>
   simp only[bO]at G Z;try simp only[qy,bO]
   have eh:((f.toNat:Nat):Int)=f:=xP (by omega)
   cases O with
   | none=>
    simp only[qy]at T G;try simp only[qy,bO]
    simp[Instr.sliceAt,aN Y,Instr.slice,Instr.sliceBounds,X kh f s.size _ G Z]
   | some kl ll=>
    simp only[bO]at T G;try simp only[qy,bO]
    simp[Instr.sliceAt,aN Y,Instr.slice,Instr.sliceBounds,X kh f s.size _ (by omega) Z,X kl ll f.toNat _ T (by omega)]
 ·
  rename_i esz es cap e
  cases e
  obtain⟨n,h⟩:=dG.1 h
  simp only[aZ]at h
  obtain⟨⟨l,f,L⟩,o,e⟩:=h
  cases e
  simp only[fD]at n
  obtain⟨e,D,C⟩:=n
  cases R with | bl cell d N I hm Zu Zs=>
  rename_i a c
  obtain⟨b1,b2,m,b3,b4,b5,b6⟩:=vZ (P:=P) (w:=w) N I o O V Q
  refine⟨rfl,_,nF (fc D) C b6,?_⟩
  obtain⟨g1,g2⟩:=getElems es l (f - l) (by omega)
  have:=VR.bl (M:=M) (ι:=ι) (esz:=esz) (es:=(es.drop l).take (f - l)) (cap:=L) (a:=(if m=l then a else a.add (l * esz))) (c:=m - l) (λi j=>cell (l+i) j)
   (by
    rcases d with d | d
    ·left
     split
     ·exact d
     ·rw[ik d,fk]
    ·right;subst d;simp) (by omega) b5
   (by
    intro i j hi hj
    rw[g1]at hi
    have d:=d.resolve_right (by intro e;subst e;simp at b2 N;omega)
    rw[if_neg (by omega),ik d,fk]
    have:=hm (l+i) j (by omega) hj
    rw[show a.off+((l+i) * esz+j)=a.off+l * esz+(i * esz+j) by rw[jH];omega]at this
    exact this)
   (by intro e D;exact Zu e (zT (uX D)))
   (by
    intro i j e x hi hx
    have Zt:i<f - l:=by have:=(dE.1 hi).1;omega
    rw[g2 i Zt]at hi
    exact Zs (l+i) j e x hi hx)
  rw[g1]at this
  have E:(if m=l then some a else (some a).map (·.add (l * esz)))=some (if m=l then a else a.add (l * esz)):=by split<;>rfl
  rw[E]
  exact this
 ·
  rename_i r' K len cap e
  cases e
  split at h
  ·rename_i b H
   obtain⟨n,h⟩:=dG.1 h
   simp only[aZ]at h
   obtain⟨⟨l,f,L⟩,o,e⟩:=h
   cases e
   simp only[fD]at n
   obtain⟨e,D,C⟩:=n
   cases R with | bD F A d ha N hn I B=>
   rename_i Zv a c
   obtain⟨l',p,J⟩:=hS.live r' b H
   rw[F]at p;cases p
   obtain⟨b1,b2,m,b3,b4,b5,b6⟩:=vZ (P:=P) (w:=w) N I o O V Q
   refine⟨rfl,_,nF (fc D) C b6,?_⟩
   have E:(if m=l then some a else (some a).map (·.add (l * b.esz)))=some (if m=l then a else a.add (l * b.esz)):=by split<;>rfl
   rw[E]
   show VR M ι (.bD r' (K+l) (f - l) L) _
   by_cases q:m=l
   ·rw[if_pos q]
    exact .bD F A d (.inl (by omega)) (by omega) (.inl (by omega)) b5 B
   ·rw[if_neg q,ik d,fk]
    refine .bD F A rfl (.inr ?_) (by omega) (.inr ?_) b5 B
    ·rcases ha with h | h
     ·omega
     ·simp only[h,J.esz,jH]
    ·rcases hn with h | h
     ·omega
     ·omega
  ·cases h
 ·
  rename_i r' K len cap e
  cases e
  split at h
  ·rename_i b H
   obtain⟨n,h⟩:=dG.1 h
   simp only[aZ]at h
   obtain⟨⟨l,f,L⟩,o,e⟩:=h
   cases e
   simp only[fD]at n
   obtain⟨e,D,C⟩:=n
   cases R with | dsl F A d ha N hn I B=>
   rename_i Zv a c
   obtain⟨l',p,J⟩:=hS.live r' b H
   rw[F]at p;cases p
   obtain⟨b1,b2,m,b3,b4,b5,b6⟩:=vZ (P:=P) (w:=w) N I o O V Q
   refine⟨rfl,_,nF (fc D) C b6,?_⟩
   have E:(if m=l then some a else (some a).map (·.add (l * b.esz)))=some (if m=l then a else a.add (l * b.esz)):=by split<;>rfl
   rw[E]
   show VR M ι (.dsl r' (K+l) (f - l) L) _
   by_cases q:m=l
   ·rw[if_pos q]
    exact .dsl F A d (.inl (by omega)) (by omega) (.inl (by omega)) b5 B
   ·rw[if_neg q,ik d,fk]
    refine .dsl F A rfl (.inr ?_) (by omega) (.inr ?_) b5 B
    ·rcases ha with h | h
     ·omega
     ·simp only[h,J.esz,jH]
    ·rcases hn with h | h
     ·omega
     ·omega
  ·cases h
 ·cases h
theorem Jl{len c:Nat}(q:len<=c){lo hi:Option Int}(m:0<=lo.getD 0)(d:lo.getD 0<=hi.getD len)(o:hi.getD len<=c)
 {f b:Option Value} (p:yS f lo) (s:yS b hi) :
 (Instr.sliceBounds true len c f b none).run P w = .ok ((lo.getD 0).toNat,(hi.getD len).toNat,c) w:=by
 have h : ∀(k:IntKind)(i:Int)(y:Nat)(a:BoundsCode),0<=i->i<=y->(Instr.sliceBound (.int k i) y a).run P w = .ok i.toNat w:=λk i y a=>run_sliceBound w k i y a
 cases s with
 | none=>
  simp only[qy]at d o ⊢
  cases p with
  | none=>simp[Instr.sliceBounds]
  | some j l=>
   simp only[bO]at m d ⊢
   simp only[Instr.sliceBounds,Sem.run_bind,Sem.run_pure,Result.andThen_ok,h j l len _ (by omega) (by omega)]
   simp
 | some n e=>
  simp only[bO]at d o ⊢
  have t:((e.toNat:Nat):Int)=e:=xP (by omega)
  cases p with
  | none=>
   simp only[qy]at m d ⊢
   simp only[Instr.sliceBounds,Sem.run_bind,Sem.run_pure,Result.andThen_ok,h n e c _ (by omega) (by omega)]
   simp
  | some j l=>
   simp only[bO]at m d ⊢
   simp only[Instr.sliceBounds,Sem.run_bind,Sem.run_pure,Result.andThen_ok,h n e c _ (by omega) (by omega),h j l e.toNat _ (by omega) (by omega)]
theorem IE(Y:eW M ι g w){t:TypeId}{y x:AV}{S:Value}(V:VR M ι y S){lo hi O:Option Int}{f q o:Option Value}
 (h1:yS f lo) (h2:yS q hi) (U:yS o O)
 {bs:List aJ} (h:rz P g t (some y) (some lo) (some hi) (some O)=some (x,bs)) :
 bs=[] /\∃u,(Instr.sliceAt t S f q o).run P w = .ok u w/\VR M ι x u:=by
 unfold rz at h
 split at h
 ·rename_i H Z r' I len cap F z K R
  simp only[dc]at F z K R
  subst F z K R
  cases U
  split at h
  ·rename_i b D
   obtain⟨⟨T,N,W,J⟩,h⟩:=dG.1 h
   simp only[dc,si]at h
   obtain⟨rfl,rfl⟩:=h
   simp only[fD]at T
   obtain⟨e,he,X⟩:=T
   cases V with | bD B s i ha Q hn L v=>
   rename_i H a c
   have j:((cap.getD len:Nat):Int)<=c:=by
    cases cap with
    | none=>simpa using Q
    | some k=>rw[L k rfl];simp
   have n : ∀m:Nat,∀k,cap.map (· - m)=some k->c - m=k:=by
    intro m k C
    obtain⟨k0,A,rfl⟩:=aZ.1 C
    rw[L k0 A]
   replace J:hi.getD (len:Int)<=c:=Int.le_trans J j
   clear j
   obtain⟨l',d,E⟩:=Y.live r' b D
   rw[B]at d;cases d
   have b6:=Jl (P:=P) (w:=w) Q N W J h1 h2
   have F:(((lo.getD 0).toNat:Nat):Int)=lo.getD 0:=xP N
   have z:(((hi.getD (len:Int)).toNat:Nat):Int)=hi.getD len:=xP (by omega)
   generalize (lo.getD 0).toNat=l at *
   generalize (hi.getD (len:Int)).toNat=hh at *
   refine⟨rfl,_,nF (fc he) X b6,?_⟩
   have G:(if c=l then some a else (some a).map (·.add (l * b.esz)))=some (if c=l then a else a.add (l * b.esz)):=by split<;>rfl
   rw[G]
   show VR M ι (.bD r' (I+l) (hh - l) (cap.map (· - l))) _
   by_cases p:c=l
   ·rw[if_pos p]
    exact .bD B s i (.inl (by omega)) (by omega) (.inl (by omega)) (n l) v
   ·rw[if_neg p,ik i,fk]
    refine .bD B s rfl (.inr ?_) (by omega) (.inr ?_) (n l) v
    ·rcases ha with h | h
     ·omega
     ·simp only[h,E.esz,jH]
    ·rcases hn with h | h
     ·omega
     ·omega
  ·cases h
 ·cases h
theorem Nt(F:eW M ι g w){t tR:TypeId}{args:List AV}{us:List Value}(hv:jD M ι args us){x:AV}{bs:List aJ}(h:Gt P g t args=some (x,bs)) :
 bs=[]/\x = .v (.bool false)/\(Extern.SlicesOverlaps.overlaps #[t,t] #[tR] us.toArray).run P w = .ok (.bool false) w:=by
 unfold Gt at h
 split at h
 ·rename_i r y len cap r' o i X e he
  split at h
  ·rename_i b b' z Y p hz
   obtain⟨⟨O,h1,h2,h3⟩,h⟩:=dG.1 h
   simp only[dc,si]at h
   obtain⟨rfl,rfl⟩:=h
   refine⟨rfl,rfl,?_⟩
   obtain⟨hlen,d⟩:=hv
   match us,hlen,d with
   | [ua,ub],hlen,d=>
   have va:=d 0 _ ua rfl rfl
   have vb:=d 1 _ ub rfl rfl
   clear d hlen
   cases va with | bD W j Zv ha hc hn hk K=>
   rename_i l a c
   cases vb with | bD s m Zt Zy Zz L Zu u=>
   rename_i R a' J
   have ht:=fc he
   have Z:=F.at W K Y
   have hB:=F.at s u p
   obtain⟨arr,T,fz,H,S,A,_⟩:=Z.heap
   obtain⟨arr',T',Zw,E,B,V,_⟩:=hB.heap
   have C:l.b≠R.b:=λe=>O (F.inj r r' b b' l R Y p W s e)
   have k : ∀w:World,(Go.sizeOf e).run P w = .ok z w:=λw=>bP hz w
   show(Extern.SlicesOverlaps.overlaps #[t,t] #[tR] #[.slice (some a) len c,.slice (some a') i J]).run P w=_
   by_cases h0:len=0\/i=0
   ·have N:(len=0\/i=0\/z=0):=by omega
    have e2 : ∀ {I β:Type} (x:I) (f:I->Sem β),(pure x:Sem I).bind f=f x:=λ_ _=>rfl
    conv=>lhs;arg 2;whnf
    simp[Sem.run,Sem.bind,e2,ht,k,N]
   ·have Zx:y+c<=l.n:=by rcases hn with h | h<;>omega
    have U:o+J<=R.n:=by rcases L with h | h<;>omega
    have G:a.off=y * l.esz:=by rcases ha with h | h<;>omega
    have Zs:0<arr'.size:=by rw[B];exact Nat.mul_pos (by omega) (by omega)
    have Q:a.off<arr.size:=by
     rw[G,S,Z.esz]
     exact(Nat.mul_lt_mul_right (by omega)).2 (by omega)
    refine Lib.run_overlaps_apart (P:=P) w t tR e ht z k a a' len c i J (by rw[j,m];exact C) T T' arr.size arr'.size ?_ ?_ (by omega) ?_ ?_
    ·unfold World.shape?;rw[j,H]
    ·unfold World.shape?;rw[m,E]
    ·unfold World.frozen?
     rw[j,H]
     have:=A.1 a.off Q
     obtain⟨f1,f2⟩:=fz
     simp only at this ⊢
     rw[Dz]
     simp only[decide_eq_false_iff_not]
     by_cases q:f1<=a.off
     ·exact .inr λD=>this ⟨q,.inl D⟩
     ·exact .inl q
    ·unfold World.frozen?
     simp only
     rw[j,H]
     have:=A.2 h1
     obtain⟨f1,f2⟩:=fz
     simp only at this ⊢
     rw[Dz]
     simp only[decide_eq_false_iff_not]
     by_cases q:f1<=arr.size
     ·exact .inr λD=>this ⟨q,D⟩
     ·exact .inl q
  ·cases h
 ·cases h
end
end
section
section
variable{P:Program}{M:Mem}{ι:Map}{g:cf}{w:World}{r:Ref}
structure Row (M:Mem) (z:Nat) (es:List AV) (us:List Value):Prop where
 len:us.length=es.length * z
 C4 : ∀e∈es,e.cells.length=z
 one : ∀x∈us,x.oneCell'=true
 vr : ∀(i j:Nat) e x,es[i]?=some e->e.cells[j]?=some x ->∃u,us[i * z+j]?=some u/\VR M cQ x u
theorem Src.row{u z es us}(h:Src P M w u z es us):Row M z es us:=⟨h.len,h.C4,h.one,h.vr⟩
theorem Row.nil{z:Nat}:Row M z [] []:=⟨by simp,by simp,by simp,by intro i j e x h;simp at h⟩
theorem Row.append{z es us es' us'}(h:Row M z es us)(d:Row M z es' us'):Row M z (es++es') (us++us'):=by
 refine⟨by simp[h.len,d.len,jH],?_,?_,?_⟩
 ·intro e a
  rcases kY.1 a with b | b
  ·exact h.C4 e b
  ·exact d.C4 e b
 ·intro e a
  rcases kY.1 a with b | b
  ·exact h.one e b
  ·exact d.one e b
 ·intro i j e x a k
  rcases dH i es.length with hi | hi
  ·rw[ia hi]at a
   obtain⟨u,c,f⟩:=h.vr i j e x a k
   exact⟨u,by rw[ia (dE.1 c).1];exact c,f⟩
  ·rw[iL hi]at a
   obtain⟨u,c,f⟩:=d.vr _ j e x a k
   have l:es.length * z<=i * z:=jN _ hi
   refine⟨u,?_,f⟩
   rw[iL (by rw[h.len];omega),h.len,show i * z+j - es.length * z=(i - es.length) * z+j by rw[AX];omega]
   exact c
theorem Row.cons{z es us e vs}(c:jD M cQ e vs)(d:e.length=z)(m : ∀x∈vs,x.oneCell'=true)(y:AV)(k:y.cells=e)(h:Row M z es us):Row M z (y :: es) (vs++us):=by
 have:Row M z [y] vs:=by
  refine⟨by rw[<-c.1,d];simp,by intro l a;simp at a;subst a;rw[k];exact d,m,?_⟩
  intro i j l x hi b
  cases i with
  | succ i=>simp at hi
  | zero=>
   simp at hi
   subst hi
   rw[k]at b
   have f:j<vs.length:=by have:=(dE.1 b).1;rw[<-c.1];exact this
   exact⟨vs[j],by simp[f],c.2 j x vs[j] b (cw f)⟩
 exact this.append h
theorem Row.replicate{z:Nat}{y:AV}{u:Value}(h:VR M cQ y u)(i:y.cells.length=z)(f:y.cells.all AV.one=true) : ∀n,Row M z (List.replicate n y) (List.replicate n u.cells.toList).flatten:=by
 intro n
 have a : ∀x∈u.cells.toList,x.oneCell'=true:=by
  intro x k
  obtain⟨j,d,c⟩:=mw k
  have e:=h.cells
  have b:j<y.cells.length:=by rw[e.1];exact d
  have:=e.2 j _ x (cw b) (by rw[<-c];exact cw d)
  exact this.one (by simp only[da]at f;exact f _ (gD b))
 induction n with
 | zero=>exact Row.nil
 | succ n l=>rw[HI,HI,List.flatten_cons];exact Row.cons h.cells i a y rfl l
theorem Row.mono{z es us}{M':Mem}(h:Row M z es us)(d : ∀b o x,M b o=some x->M' b o=some x):Row M' z es us:=
 ⟨h.len,h.C4,h.one,λi j e x f c=>by obtain⟨u,a,k⟩:=h.vr i j e x f c;exact⟨u,a,k.mono d _ (λ_ _ h=>h)⟩⟩
theorem qv(B:eW M ι g w)(o:r.k=0)(E:ι r=none){w':World}{arr:Array Value}{T:TypeId}{fz:Nat × Nat}(t:yU w w' (.cells arr T fz))
 {z:Nat} {es:List AV} {us:List Value} (a:Row M z es us) (b : ∀(k:Nat) u,us[k]?=some u->arr[k]?=some u) {n c:Nat} (m:arr.size=n * z)
 (h:xF z arr.size fz) (G:es.length<=c) (H:c<=n) {cap:Option Nat} (d : ∀k,cap=some k->c=k) (s:0<z) :
 gP M ι g w r (.bD r 0 es.length cap) [⟨z,es,true,false⟩] (.slice (some ⟨w.heap.size,0,none⟩) es.length c) w':=by
 obtain⟨v,C⟩:=B.alloc (q:=r) E t ⟨z,es,true,false⟩ s n m h (by simp;omega) a.C4
  (by
   intro i j e x F y
   obtain⟨u,p,A⟩:=a.vr i j e x F y
   exact⟨u,b _ _ p,a.one u (eY p),by simpa [aJ.map] using A⟩)
 refine⟨M,_,?_,by rw[nS _ _ o];exact v,by rw[nS _ _ o];exact C,?_⟩
 ·exact .bD (l:=⟨w.heap.size,z,n⟩) (by simp[iV]) rfl rfl (.inr (by simp)) G (.inr (by simp;omega)) d s
 ·intro q f D
  have:q≠r:=by intro e;exact D 0 (by simp) (by rw[e];cases r;simp_all)
  simpa [iV,this] using f
def GU(M:Mem)(b:Nat)(us:List Value):Mem:=λb' o=>if b'=b then us[o]? else M b' o
theorem L3(A:eW M ι g w){w':World}{arr:Array Value}{T:TypeId}{fz:Nat × Nat}(f:yU w w' (.cells arr T fz))
 {z:Nat} {es:List AV} {us:List Value} (d:Row M z es us) (t : ∀(k:Nat) u,us[k]?=some u->arr[k]?=some u) {c:Nat}
 (J:es.length<=c) {cap:Option Nat} (v : ∀k,cap=some k->c=k) :
 gP M ι g w r (.bl z es cap) [] (.slice (some ⟨w.heap.size,0,none⟩) es.length c) w':=by
 have p : ∀b o x,M b o=some x->b<w.heap.size:=λb o x h=>World.block_lt_of_cell? w ⟨b,o,none⟩ (A.mem b o x h)
 have m : ∀b o x,M b o=some x->GU M w.heap.size us b o=some x:=by
  intro b o x h
  unfold GU
  rw[if_neg (Nat.ne_of_lt (p b o x h))]
  exact h
 have s:w'.heap[w.heap.size]?=some (.cells arr T fz):=by rw[f.heap];simp
 have C : ∀i j,i<es.length->j<z ->∃u,us[i * z+j]?=some u:=by
  intro i j hi B
  exact⟨us[i * z+j]'(by rw[d.len];exact zB hi B),cw _⟩
 refine⟨GU M w.heap.size us,ι,?_,?_,?_,λq I _=>I⟩
 ·refine VR.bl (M:=GU M w.heap.size us) (ι:=ι) (esz:=z) (es:=es) (cap:=cap) (a:=⟨w.heap.size,0,none⟩) (c:=c) (λi j=>(us[i * z+j]?).getD undef) (.inl rfl) J v ?_ d.C4 ?_
  ·intro i j hi B
   obtain⟨u,y⟩:=C i j hi B
   simp only[GU,if_true,qx,y,bO]
   exact⟨trivial,d.one u (eY y)⟩
  ·intro i j e x K D
   obtain⟨u,y,F⟩:=d.vr i j e x K D
   simp only[y,bO]
   exact F.mono m _ (λ_ _ h=>h)
 ·rw[kP]
  refine⟨?_,?_,A.inj⟩
  ·intro b o x h
   unfold GU at h
   split at h
   ·rename_i e;subst e;rw[gA s];exact t o x h
   ·exact f.cell (A.mem b o x h)
  ·intro r' k H
   obtain⟨l,G,n⟩:=A.live r' k H
   refine⟨l,G,n.cy m (λ_ _ h=>h) (f.old _ n.lt) ?_⟩
   intro o x h
   unfold GU at h
   rw[if_neg (Nat.ne_of_lt n.lt)]at h
   exact n.frozen o x h
 ·rw[kP]
  refine⟨f.os,f.tape,f.output,by rw[f.heap];simp,λb n _=>f.old b n,m,λ_ _ h=>h,λr' k l h E => .inr ⟨r',k,l,h,E,rfl⟩,?_⟩
  intro b o x h
  unfold GU at h
  split at h
  ·rename_i e;exact .inr (.inl (by omega))
  ·exact .inl h
theorem gP.after{R:List Ref}(c:pI g R=g)(d:eW M ι g w){x:AV}{bs:List aJ}{u:Value}{w':World}(h:gP (iD M ι g w R) ι g w r x bs u w'):gP M ι g w r x bs u w':=by
 obtain⟨_,b⟩:=vv (R:=R) d
 rw[c]at b
 obtain⟨M',a,j,f,i,e⟩:=h
 exact⟨M',a,j,f,b.trans i,e⟩
theorem EK(j:eW M ι g w){a d:List (Nat × AV)}(h:dt g a=some d){qs:List (Nat × Value)}(l:a.length=qs.length)
 (hp : ∀(i:Nat) p q,a[i]?=some p->qs[i]?=some q->p.1=q.1/\VR M ι p.2 q.2) :
 d.length=qs.length /\∀(i:Nat) p q,d[i]?=some p->qs[i]?=some q->p.1=q.1/\VR (iD M ι g w (ba g (a.map (·.2)))) cQ p.2 q.2:=by
 unfold dt at h
 refine⟨by rw[fg h,l],?_⟩
 intro i p q c b
 obtain⟨⟨k,x⟩,f,e⟩:=lO h i p c
 simp only[aZ]at e
 obtain⟨y,o,rfl⟩:=e
 obtain⟨s,m⟩:=hp i _ q f b
 refine⟨s,xU j depth x y q.2 o ?_ m⟩
 intro r n
 simp only[ba,hY,kf]
 exact⟨x,⟨(k,x),eY f,rfl⟩,n⟩
theorem yC{z:Nat} : ∀(t:List (Nat × AV)) (qs:List (Nat × Value)) (es es':List AV) (us:Array Value),gq es t=some es'->Row M z es us.toList ->
 t.length=qs.length->(∀(i:Nat) p q,t[i]?=some p->qs[i]?=some q->p.1=q.1/\VR M cQ p.2 q.2)->(∀p∈t,p.2.cells.length=z/\p.2.cells.all AV.one=true) ->
 es'.length=es.length /\∃f,Instr.fill (λi=>some (i * z,z)) us qs=some f/\Row M z es' f.toList:=by
 intro t
 induction t with
 | nil=>
  intro qs es es' us h a E hp J
  simp[gq]at h
  subst h
  cases qs with
  | nil=>exact⟨rfl,us,rfl,a⟩
  | cons q qs=>simp at E
 | cons p t W=>
  intro qs es es' us h a E hp J
  cases qs with
  | nil=>simp at E
  | cons q qs=>
   obtain⟨i,v⟩:=p
   obtain⟨Y,u⟩:=q
   obtain⟨Q,O⟩:=hp 0 _ _ rfl rfl
   simp only at Q O
   subst Q
   simp only[gq]at h
   split at h
   ·rename_i hi
    obtain⟨C,n⟩:=J _ (jM ..)
    simp only at C n
    have b:=O.cells
    have L:u.cells.size=z:=by have:=b.1;simp at this;omega
    have N:us.size=es.length * z:=by have:=a.len;simpa using this
    have X:i * z+z<=us.size:=by
     have:(i+1) * z<=es.length * z:=jN _ hi
     rw[jH]at this
     omega
    have l:=G1 (i * z) u.cells.toList 0 us (by simp;omega)
    have o:u.cells.zipIdx.foldl (λcs (p:Value × Nat)=>cs.setIfInBounds (i * z+p.2) p.1) us=bQ us (i * z) u.cells.toList:=by
     rw[uU]at l
     rw[<-l,<-HG,Array.toList_zipIdx]
    have A : ∀x∈u.cells.toList,x.oneCell'=true:=by
     intro x d
     obtain⟨j,y,I⟩:=mw d
     have D:j<v.cells.length:=by rw[b.1];exact y
     have:=b.2 j _ x (cw D) (by rw[<-I];exact cw y)
     exact this.one (by simp only[da]at n;exact n _ (gD D))
    have s:Row M z (es.set i v) (bQ us (i * z) u.cells.toList).toList:=by
     refine⟨?_,?_,?_,?_⟩
     ·simp only[wB,List.length_set]
      rw[gz (by simp;omega),N]
     ·intro e c
      rcases List.mem_or_eq_of_mem_set c with h | h
      ·exact a.C4 e h
      ·rw[h];exact C
     ·intro x d
      simp only[bQ,kY]at d
      rcases d with (h | h) | h
      ·exact a.one x (uX h)
      ·exact A x h
      ·exact a.one x (zT h)
     ·intro k j e x c d
      have S:k<es.length:=by have:=(dE.1 c).1;simpa using this
      rw[AS,fR (by simp;omega)]
      by_cases K:i=k
      ·subst K
       rw[Bk hi]at c
       injection c with c
       subst c
       have y:j<v.cells.length:=(dE.1 d).1
       rw[if_pos ⟨by omega,by simp;omega⟩,EE]
       have B:j<u.cells.toList.length:=by rw[<-b.1];exact y
       exact⟨u.cells.toList[j],cw B,b.2 j x _ d (cw B)⟩
      ·rw[Be K]at c
       have y:j<z:=by
        rw[<-a.C4 e (eY c)]
        exact(dE.1 d).1
       obtain⟨V,G,H⟩:=a.vr k j e x c d
       rw[if_neg]
       ·exact⟨V,by simpa using G,H⟩
       ·simp only[wB,L]
        rcases HH K with h | h
        ·have:(i+1) * z<=k * z:=jN _ h
         rw[jH]at this
         omega
        ·have:(k+1) * z<=i * z:=jN _ h
         rw[jH]at this
         omega
    obtain⟨R,f,U,T⟩:=W qs (es.set i v) es' (bQ us (i * z) u.cells.toList) h s (by simpa using E) (λk p q m F=>hp (k+1) p q m F) (λp m=>J p (jI _ m))
    refine⟨by rw[R];simp,f,?_,T⟩
    simp only[Instr.fill]
    rw[if_neg (by simp;omega)]
    rw[<-U,<-o]
   ·cases h
theorem rJ{zs:Array Value}{n:Nat}(c:0<zs.size):((Array.range (n * zs.size)).map (zs[· % zs.size]!)).toList=(List.replicate n zs.toList).flatten:=by
 apply Ey
 intro k
 rcases dH k (n * zs.size)with a | a
 ·have b:k % zs.size<zs.size:=Nat.mod_lt _ c
  have f:k / zs.size<n:=(Nat.div_lt_iff_lt_mul c).2 a
  have e:((Array.range (n * zs.size)).map (zs[· % zs.size]!)).toList[k]?=some zs[k % zs.size]:=by
   simp[a,b,getElem!_pos]
  rw[e]
  have : ∀n k,k<n * zs.size->(List.replicate n zs.toList).flatten[k]?=zs.toList[k % zs.size]?:=by
   intro n
   induction n with
   | zero=>intro k a;simp at a
   | succ n d=>
    intro k a
    rw[HI,List.flatten_cons]
    rcases dH k zs.size with h | h
    ·rw[ia (by simpa using h),Es h]
    ·rw[iL (by simpa using h),wB,d (k - zs.size) (by rw[jH]at a;omega)]
     congr 1
     rw[<-Nat.mod_eq_sub_mod h]
  rw[this n k a]
  simp[b]
 ·rw[sn (by simpa using a),sn (by simpa using a)]
theorem Cw{t:TypeId}{n:Nat}(Q:eW M ι g w){f:List (Nat × AV)}{qs:Array (Nat × Value)}{b:aJ}(h:mkSlice P g t n f=some b)(R:f.length=qs.toList.length)
 (hp : ∀(i:Nat) p q,f[i]?=some p->qs.toList[i]?=some q->p.1=q.1/\VR M ι p.2 q.2) :
 b.arr=true/\b.fN=false/\b.es.length=n /\∃e arr,(Instr.buildSlice t n qs).run P w = .ok (.slice (some ⟨w.heap.size,0,none⟩) n n) (w.alloc (.cells arr e))/\arr.size=n * b.esz /\
  Row (iD M ι g w (ba g (f.map (·.2)))) b.esz b.es arr.toList:=by
 unfold mkSlice at h
 split at h
 ·cases h
 ·rename_i e T
  split at h
  ·rename_i S z s C O G
   obtain⟨J,h⟩:=dG.1 h
   obtain⟨X,Y,H,I,B⟩:=J
   simp only[aZ]at h
   obtain⟨es,A,rfl⟩:=h
   obtain⟨it,u,m,y,L⟩:=oA O
   obtain⟨W,l,U⟩:=qC G
   rw[m]at l;cases l
   have v:=gp (M:=iD M ι g w (ba g (f.map (·.2)))) (ι:=cQ) L
   have j:u.cells.size=s:=by have:=v.cells.1;simp at this;omega
   have d:=Row.replicate v H I n
   obtain⟨N,V⟩:=EK Q C R hp
   have c:Row (iD M ι g w (ba g (f.map (·.2)))) s (List.replicate n z) ((Array.range (n * s)).map (u.cells[· % u.cells.size]!)).toList:=by
    have:=rJ (zs:=u.cells) (n:=n) (by omega)
    rw[j]at this
    rw[j,this]
    exact d
   obtain⟨E,x,K,F⟩:=yC S qs.toList (List.replicate n z) es _ A c N V (by
    intro p k
    simp only[da,aY,decide_eq_true_eq]at B
    exact⟨(B p k).1,by simp only[da];exact(B p k).2⟩)
   refine⟨rfl,rfl,by simpa using E,e,x,?_,?_,F⟩
   ·have D : ¬16777216<n * s:=by omega
    have a:Instr.fill (λi=>some (i * s,s)) ((Array.range (n * s)).map ((if n * s=0 then #[] else u.cells)[· % (if n * s=0 then #[] else u.cells).size]!)) qs.toList=some x:=by
     rw[<-K]
     congr 1
     by_cases h:n * s=0
     ·simp[h]
     ·rw[if_neg h]
    simp only[Instr.buildSlice,Sem.run_bind,aN (fc T),Result.andThen_ok,bP G,gt_iff_lt]
    rw[if_neg D]
    by_cases o:n * s=0
    ·rw[if_pos o]at a ⊢
     simp only[pure_bind]
     rw[a]
     simp[newRow]
    ·rw[if_neg o]at a ⊢
     simp only[Sem.run_bind,zeroValue,typeInfo,m,y,run_program,Result.andThen_ok,Sem.run_pure,a]
     simp[newRow]
   ·rw[<-wB,F.len,E]
    simp
  ·cases h
theorem Ae{P:Program}{g:cf}{t:TypeId}{n:Nat}{c:List (Nat × AV)}{b:aJ}(h:mkSlice P g t n c=some b):0<b.esz:=by
 unfold mkSlice at h
 split at h
 ·cases h
 ·split at h
  ·obtain⟨a,h⟩:=dG.1 h
   obtain⟨_,_,rfl⟩:=aZ.1 h
   exact a.1
  ·cases h
theorem Ck(v:eW M ι g w)(C:r.k=0)(G:ι r=none){d:Bool}{t:TypeId}{n:Nat}{l:List (Nat × AV)}{qs:Array (Nat × Value)}{x:AV}{bs:List aJ}
 (h:fQ P d g r t n (some l)=some (x,bs)) (E:l.length=qs.toList.length)
 (hp : ∀(i:Nat) p q,l[i]?=some p->qs.toList[i]?=some q->p.1=q.1/\VR M ι p.2 q.2) :
 ∃u w',(Instr.buildSlice t n qs).run P w = .ok u w'/\gP M ι g w r x bs u w':=by
 simp only[fQ]at h
 obtain⟨m,h⟩:=dG.1 h
 simp only[aZ]at h
 obtain⟨b,B,h⟩:=h
 obtain⟨I,H,z,e,arr,F,D,A⟩:=Cw v B E hp
 have j:=GZ m
 obtain⟨f,_⟩:=vv (R:=ba g (l.map (·.2))) v
 rw[j]at f
 have a:yU w (w.alloc (.cells arr e)) (.cells arr e (0,0)):=⟨rfl,rfl,rfl,rfl⟩
 refine⟨_,_,F,gP.after j v ?_⟩
 have s:b=⟨b.esz,b.es,true,false⟩:=by cases b;simp_all
 cases d with
 | true=>
  simp at h
  obtain⟨rfl,rfl⟩:=h
  have:=L3 (r:=r) f a A (λk u o=>by simpa using o) (c:=n) (by omega) (cap:=some n) (by intro k y;cases y;rfl)
  rw[z]at this
  exact this
 | false=>
  simp at h
  obtain⟨rfl,rfl⟩:=h
  have:=qv f C G a A (λk u o=>by simpa using o) (n:=n) (c:=n) D (xF.zero _ _) (by omega) (aW _) (cap:=some n) (by intro k y;cases y;rfl)
  rw[z,<-s]at this
  exact this (Ae B)
end
end
section
section
variable{P:Program}{M:Mem}{ι:Map}{g:cf}{w:World}{r:Ref}
inductive App (P:Program) (w:World) (t':Option TypeId) (x:Value) (e z:Nat) (n:Nat) (us:List Value):Prop
 | src {d:TypeDesc} (ht:t'.bind P.underlying=some d) (hd : ∀k,d ≠ .int k) (hl : ∀w':World,(Builtin.lenOf x).run P w' = .ok n w')
  (hf : ∀w':World,w'.heap=w.heap->(Builtin.firstCells z n x).run P w' = .ok us.toArray w')
 | zeros {k kx:IntKind} (u:Value) (ht:t'.bind P.underlying=some (.int k)) (hx:x = .int kx n) (hn:n<=aX) (hu : ∀w':World,(zeroValue e).run P w' = .ok u w') (hz:u.cells.size=z)
  (hus:us=(List.replicate n u.cells.toList).flatten)
theorem zd{n:Nat}(h:n<=aX):IntKind.i64.wrap (n:Int)=n:=by
 unfold aX at h
 exact IntWalk.i64_in n ⟨by omega,by omega⟩
theorem zQ{u:Value}{n:Nat}:(Builtin.zeroCells u.cells n).toList=(List.replicate n u.cells.toList).flatten:=by
 unfold Builtin.zeroCells
 rcases zb u.cells.size with h | h
 ·have:u.cells.toList=[]:=by simpa using FN h
  simp[h,this]
 ·exact rJ h
theorem Av{l:Array TypeId}{t:TypeId}{ty:TypeId}(p:l[0]?=some t){e z by':Nat}(n:P.underlying t=some (.slice e))(o:av P e=some z)(q:ly P e=some by')
 {a:Option Addr} {len c:Nat} (h:len<=c) {x:Value} (y:App P w l[1]? x e z 0 []) :
 (Builtin.append_ l ty #[.slice a len c,x]).run P w = .ok (.slice a len c) w:=by
 simp only[ly,aZ]at q
 obtain⟨i,hi,rfl⟩:=q
 cases y with
 | src b hm C D=>
  rename_i d
  simp only[fD]at b
  obtain⟨t',f,b⟩:=b
  have j:=D w rfl
  have m:(match d with | .int _=>true | _=>false)=false:=by cases d<;>first | rfl | exact absurd rfl (hm _)
  cases a<;>simp[m,Builtin.append_,p,f,aN n,aN b,bP o,C,h,j,storeCells]
 | zeros u b B A v E F=>
  rename_i k kx
  subst B
  simp only[fD]at b
  obtain⟨t',f,b⟩:=b
  have s:IntKind.i64.wrap 0=0:=by simpa using zd A
  cases a<;>simp[Builtin.append_,p,f,aN n,aN b,bP o,asInt,asIntOf,s,typeInfo,hi,h,storeCells]
theorem qG{N:Array TypeId}{t:TypeId}{ty:TypeId}(O:N[0]?=some t){e z by':Nat}(L:P.underlying t=some (.slice e))(H:av P e=some z)(U:ly P e=some by')
 {C:Value} (o : ∀w':World,(zeroValue e).run P w' = .ok C w') (Zs:C.cells.size=z)
 {a:Option Addr} {len c n:Nat} {x:Value} {olds us:List Value} (E : ∀w':World,w'.heap=w.heap->(Builtin.firstCells z len (.slice a len c)).run P w' = .ok olds.toArray w')
 (Z:App P w N[1]? x e z n us) (K:c<len+n) (b:(len+n) * by'<=aX) (D:0<by') :
 ∃cap w',len+n<=cap/\(Builtin.append_ N ty #[.slice a len c,x]).run P w = .ok (.slice (some ⟨w.heap.size,0,none⟩) (len+n) cap) w' /\
  yU w w' (.cells (olds.toArray++us.toArray++Builtin.zeroCells C.cells (cap - (len+n))) e (0,0)):=by
 simp only[ly,aZ]at U
 obtain⟨i,hi,rfl⟩:=U
 have j : ¬(9223372036854775807<(len:Int)+(n:Int)):=by
  have:(len+n) * 1<=(len+n) * i.bytes:=Nat.mul_le_mul_left _ D
  unfold aX at b
  omega
 have p : ¬(281474976710656<Builtin.nextslicecap (len+n) c * i.bytes):=by
  have:=growslice_fits (need:=len+n) (old:=c) (bytes:=i.bytes) K (by unfold aX at b;exact b)
  omega
 have q : ¬(len+n<=c):=by omega
 have f:=E w.drew rfl
 obtain⟨A,J⟩ : ∃A,A=olds.toArray:=⟨_,rfl⟩
 rw[<-J]at f ⊢
 refine⟨grownCap w (len+n) c e,w.drew.alloc (.cells (A++us.toArray++Builtin.zeroCells C.cells (grownCap w (len+n) c e - (len+n))) e (0,0)),grownCap_ge _ _ _ _,?_,⟨rfl,rfl,rfl,rfl⟩⟩
 cases Z with
 | src l hm X hf=>
  rename_i d
  simp only[fD]at l
  obtain⟨t',m,l⟩:=l
  have v:=hf w.drew rfl
  obtain⟨B,I⟩ : ∃B,B=us.toArray:=⟨_,rfl⟩
  rw[<-I]at v ⊢
  have Q:(match d with | .int _=>true | _=>false)=false:=by cases d<;>first | rfl | exact absurd rfl (hm _)
  simp[Q,Builtin.append_,O,m,aN L,aN l,bP H,X,q,v,f,j,p,typeInfo,hi,Question.forced,o,newRow,grownCap]
 | zeros u l W hn G R S=>
  rename_i k kx
  subst W
  simp only[fD]at l
  obtain⟨t',m,l⟩:=l
  have V:=zd hn
  have Y:u=C:=by
   have T:=G w
   rw[o w]at T
   cases T
   rfl
  subst Y
  have y : ¬((n:Int)<0):=by omega
  have s : ¬(281474976710656<(n:Int) * (i.bytes:Int)):=by
   have T:n * i.bytes<=(len+n) * i.bytes:=jN _ (by omega)
   unfold aX at b
   have h2:((n * i.bytes:Nat):Int)=(n:Int) * (i.bytes:Int):=by simp
   omega
  have F:us.toArray=if n * z=0 then #[] else Builtin.zeroCells u.cells n:=by
   rw[S,<-zQ]
   by_cases h:n * z=0
   ·rw[if_pos h]
    have:(Builtin.zeroCells u.cells n).size=0:=by rw[size_zeroCells,R,h]
    rw[Array.toArray_toList]
    exact FN this
   ·rw[if_neg h]
  rw[F]
  by_cases h:n * z=0
  ·simp[Builtin.append_,O,m,aN L,aN l,bP H,asInt,asIntOf,V,y,s,typeInfo,hi,q,j,p,h,f,Question.forced,o,newRow,grownCap]
  ·simp[Builtin.append_,O,m,aN L,aN l,bP H,asInt,asIntOf,V,y,s,typeInfo,hi,q,j,p,h,f,Question.forced,o,newRow,grownCap]
theorem wK{F:Array TypeId}{t:TypeId}{ty:TypeId}(G:F[0]?=some t){e z by':Nat}(E:P.underlying t=some (.slice e))(C:av P e=some z)(K:ly P e=some by')
 {b o len c n:Nat} {x:Value} {us:List Value} (R:App P w F[1]? x e z n us) (q:len+n<=c) (p:(len+n) * by'<=aX)
 {arr:Array Value} {T:TypeId} {fz:Nat × Nat} (y:w.heap[b]?=some (.cells arr T fz)) (O:o+len * z+us.length<=arr.size) (D : ∀j,j<arr.size ->¬(fz.1<=j/\(j<fz.2\/fz.2<fz.1))) (L : ∀u∈us,u.oneCell'=true) :
 (Builtin.append_ F ty #[.slice (some ⟨b,o,none⟩) len c,x]).run P w = .ok (.slice (some ⟨b,o,none⟩) (len+n) c) (bA w b (.cells (bQ arr (o+len * z) us) T fz)):=by
 simp only[ly,aZ]at K
 obtain⟨i,hi,rfl⟩:=K
 have f:=kA (P:=P) (o+len * z) us 0 arr w y (by simpa using O) D L
 rw[uU]at f
 cases R with
 | src l hm Q U=>
  rename_i d
  simp only[fD]at l
  obtain⟨t',m,l⟩:=l
  have B:=U w rfl
  have H:(match d with | .int _=>true | _=>false)=false:=by cases d<;>first | rfl | exact absurd rfl (hm _)
  simp[H,Builtin.append_,G,m,aN E,aN l,bP C,Q,q,B,fk,f]
 | zeros u l N S A I J=>
  rename_i k kx
  subst N
  simp only[fD]at l
  obtain⟨t',m,l⟩:=l
  have y:=zd S
  have v : ¬((n:Int)<0):=by omega
  have s : ¬(281474976710656<(n:Int) * (i.bytes:Int)):=by
   have L:n * i.bytes<=(len+n) * i.bytes:=jN _ (by omega)
   unfold aX at p
   have V:((n * i.bytes:Nat):Int)=(n:Int) * (i.bytes:Int):=by simp
   omega
  have a:us=(if n * z=0 then #[] else Builtin.zeroCells u.cells n).toList:=by
   rw[J,<-zQ]
   by_cases h:n * z=0
   ·rw[if_pos h]
    have:(Builtin.zeroCells u.cells n).size=0:=by rw[size_zeroCells,I,h]
    rw[FN this]
   ·rw[if_neg h]
  by_cases h:n * z=0
  ·rw[if_pos h]at a
   simp only[Array.toList_empty]at a
   rw[a]at f ⊢
   simp[Builtin.append_,G,m,aN E,aN l,bP C,asInt,asIntOf,y,v,s,typeInfo,hi,q,h,fk,f]
  ·rw[if_neg h]at a
   rw[a]at f ⊢
   simp[Builtin.append_,G,m,aN E,aN l,bP C,asInt,asIntOf,y,v,s,typeInfo,hi,q,h,A,fk,f]
end
end
section
section
variable{P:Program}{M:Mem}{ι:Map}{g:cf}{w:World}{r:Ref}
theorem Lj{t:TypeId}{y z x:AV}{m p:Value}(l:VR M ι y m)(o:VR M ι z p){bs:List aJ}(h:rV P t (some y) (some z)=some (x,bs)) :
 bs=[] /\∃u,(Instr.index t m p).run P w = .ok u w/\VR M ι x u:=by
 simp only[rV,dF]at h
 split at h
 ·rename_i k cs i a
  injection a with a
  subst a
  obtain⟨q,rfl⟩:=sV o i
  split at h
  ·rename_i n e B
   split at h
   ·rename_i s d
    obtain⟨c,h⟩:=dG.1 h
    simp only[gJ,aZ]at h
    obtain⟨A,j,he⟩:=h
    cases he
    obtain⟨G,rfl,f⟩:=l.KA
    obtain⟨u,D,C⟩:=J3 (w:=w) f j
    exact⟨rfl,u,by simp[Instr.index,asIntOf,aN (AF B),c.1,c.2,bP d,D],C⟩
   ·cases h
  ·cases h
 ·rename_i k s i d
  injection d with d
  subst d
  obtain⟨q,rfl⟩:=sV o i
  cases l
  obtain⟨c,h⟩:=dG.1 h
  simp only[gJ,aZ]at h
  obtain⟨A,⟨b,F,rfl⟩,he⟩:=h
  cases he
  refine⟨rfl,.int .u8 b.toNat,?_,.v rfl⟩
  have E:=c.2
  simp[Instr.index,asIntOf,aN (pt c.1),E,F]
 ·cases h
theorem Ny{f:Fn}{a b:List AV}{l j:List Value}(k:jD M ι a l)(m:jD M ι b j){x:AV}{bs:List aJ}(h:uB f (some a) (some b)=some (x,bs)) :
 bs=[]/\VR M ι x (.func f l.toArray j.toArray):=by
 simp only[uB,dc,si]at h
 obtain⟨rfl,rfl⟩:=h
 exact⟨rfl,.fn (by simpa using k.1) (by simpa using m.1) (λi c u e d=>k.2 i c u e (by simpa using d)) (λi c u e d=>m.2 i c u e (by simpa using d))⟩
theorem Ns{tm:List AV}{a:Act}(h:TR M ι tm a){c x y:Operand}{z:AV}{bs:List aJ}(d:Ch (aq tm) c x y=some (z,bs)) :
 bs=[] /\∃u,(do pure (if <-asBool (a.eval c) then a.eval x else a.eval y):Sem Value).run P w = .ok u w/\VR M ι z u:=by
 unfold Ch at d
 split at d
 ·rename_i e
  simp only[fD]at e
  obtain⟨j,i,b⟩:=e
  have:=wa (ay h i) b
  simp only[gJ,aZ]at d
  obtain⟨k,f,he⟩:=d
  cases he
  exact⟨rfl,_,by simp[this,asBool],ay h f⟩
 ·rename_i e
  simp only[fD]at e
  obtain⟨j,i,b⟩:=e
  have:=wa (ay h i) b
  simp only[gJ,aZ]at d
  obtain⟨k,f,he⟩:=d
  cases he
  exact⟨rfl,_,by simp[this,asBool],ay h f⟩
 ·cases d
theorem Qc{m:Array TypeId}{ty:TypeId}{y x:AV}{j:Value}(f:VR M ι y j){bs:List aJ}(h:SP P m[0]? y=some (x,bs)) :
 bs=[] /\∃u,(Builtin.cap_ m ty #[j]).run P w = .ok u w/\VR M ι x u:=by
 unfold SP at h
 split at h
 ·rename_i e b
  obtain⟨t,d,b⟩:=fD.1 b
  cases h
  cases f
  exact⟨rfl,goInt 0,by simp[Builtin.cap_,d,aN (fc b)],.v rfl⟩
 ·rename_i e z es k b
  obtain⟨t,d,b⟩:=fD.1 b
  cases h
  cases f with | bl cell q p i hm n D=>
  rename_i a c
  have:=i k rfl
  subst this
  exact⟨rfl,goInt c,by simp[Builtin.cap_,d,aN (fc b)],.v rfl⟩
 ·rename_i e r o len k b
  obtain⟨t,d,b⟩:=fD.1 b
  cases h
  cases f with | bD B E q C p A i s=>
  rename_i l a c
  have:=i k rfl
  subst this
  exact⟨rfl,goInt c,by simp[Builtin.cap_,d,aN (fc b)],.v rfl⟩
 ·cases h
theorem Qa{l:Array TypeId}{ty:TypeId}{y x:AV}{k:Value}(d:VR M ι y k){bs:List aJ}(h:De P l[0]? y=some (x,bs)) :
 bs=[] /\∃u,(Builtin.len_ l ty #[k]).run P w = .ok u w/\VR M ι x u:=by
 unfold De at h
 split at h
 ·cases h
 ·rename_i t b
  split at h
  ·rename_i n e m
   injection h with h
   injection h with f c
   subst f;subst c
   exact⟨rfl,goInt n,by simp[Builtin.len_,b,aN (AF m)],.v rfl⟩
  ·split at h
   ·rename_i j
    split at h
    ·injection h with h
     injection h with f c
     subst f;subst c
     cases d
     exact⟨rfl,goInt _,by simp[Builtin.len_,b,aN (pt j)],.v rfl⟩
    ·cases h
   ·obtain⟨j,h⟩:=dG.1 h
    obtain⟨e,he⟩:=fO.1 j
    have i:=fc he
    simp only[aZ]at h
    obtain⟨n,a,h⟩:=h
    injection h with f c
    subst f;subst c
    refine⟨rfl,goInt n,?_,.v rfl⟩
    unfold pr at a
    split at a
    ·injection a with a;subst a;cases d;simp[Builtin.len_,b,aN i]
    ·injection a with a;subst a;cases d;simp[Builtin.len_,b,aN i]
    ·injection a with a;subst a;cases d;simp[Builtin.len_,b,aN i]
    ·injection a with a;subst a;cases d;simp[Builtin.len_,b,aN i]
    ·cases a
theorem Eh{x:AV}{u:Value}{b:UInt8}(a:VR M ι x u)(h:byteOf x=some b) : ∃n:Int,u = .int .u8 n/\b=UInt8.ofNat n.toNat:=by
 unfold byteOf at h
 split at h
 ·injection h with h
  cases a
  exact⟨_,rfl,h.symm⟩
 ·cases h
theorem Ja : ∀(a:List Int)(s:ByteArray),a.foldl (λr n=>r.push (UInt8.ofNat n.toNat)) s=⟨s.data++(a.map λn=>UInt8.ofNat n.toNat).toArray⟩:=by
 intro a
 induction a with
 | nil=>intro s;simp
 | cons n a b=>
  intro s
  rw[uq,b]
  simp[ByteArray.push]
theorem Gy(N:eW M ι g w)(hr:r.k=0)(hq:ι r=none){src dst:TypeId}{y x:AV}{u0:Value}(Q:VR M ι y u0){bs:List aJ}(h:bC P g r src dst (some y)=some (x,bs)) :
 ∃u w',(Go.convert src dst u0).run P w = .ok u w'/\gP M ι g w r x bs u w':=by
 unfold bC at h
 split at h
 ·rename_i e
  injection e with e
  subst e
  cases Q
  obtain⟨p,h⟩:=dG.1 h
  simp only[aY]at p
  obtain⟨e,F,E⟩:=nM p.1
  injection h with h
  injection h with H R
  subst H;subst R
  exact⟨.string .empty,w,by rw[run_convert_bytes_string w src dst e none 0 0 F E (pt p.2)];rfl,gP.same N (.v rfl)⟩
 ·rename_i s e
  injection e with e
  subst e
  cases Q
  split at h
  ·rename_i p
   simp only[aY]at p
   injection h with h
   injection h with H R
   subst H;subst R
   exact⟨.string s,w,by simp[Go.convert,aN (pt p.1),aN (pt p.2)],gP.same N (.v rfl)⟩
  ·split at h
   ·rename_i p
    simp only[aY]at p
    obtain⟨Z6,h⟩:=dG.1 h
    injection h with h
    injection h with H R
    subst H;subst R
    obtain⟨e,F,E⟩:=nM p.2
    have ZD:=run_bytes_of_string (P:=P) w src dst e s (pt p.1) F E
    have ZA:=grownCap_ge w s.size 0 e
    have ZE:Row M 1 (s.data.toList.map λb=>AV.v (.int .u8 b.toNat)) (s.data.toList.map λb=>Value.int .u8 b.toNat):=by
     refine⟨by simp,?_,?_,?_⟩
     ·intro e I
      simp only[kf]at I
      obtain⟨b,_,rfl⟩:=I
      rfl
     ·intro x hx
      simp only[kf]at hx
      obtain⟨b,_,rfl⟩:=hx
      rfl
     ·intro i j e x I hx
      simp only[kJ,aZ]at I
      obtain⟨b,hb,rfl⟩:=I
      cases j with
      | succ j=>simp[AV.cells]at hx
      | zero=>
       simp[AV.cells]at hx
       subst hx
       exact⟨.int .u8 b.toNat,by simp[hb],.v rfl⟩
    have Zu:(bytesRow s (grownCap w s.size 0 e)).size=grownCap w s.size 0 e:=by
     have:s.data.size=s.size:=rfl
     simp[bytesRow]
     omega
    have:=qv N hr hq (w':=w.drew.alloc (.cells (bytesRow s (grownCap w s.size 0 e)) e ((bytesRow s (grownCap w s.size 0 e)).size,(bytesRow s (grownCap w s.size 0 e)).size+1)))
     ⟨rfl,rfl,rfl,rfl⟩ ZE (by
      intro k u hu
      have D:=(dE.1 hu).1
      unfold bytesRow
      rw[HR (by simpa using D)]
      rw[<-hu]
      simp) (n:=grownCap w s.size 0 e) (c:=grownCap w s.size 0 e) (by rw[Zu];simp) ⟨by intro o ho h;simp only at h;omega,λh=>absurd h (by decide)⟩ (by simpa using ZA) (aW _) (cap:=none) (by intro k D;cases D) Nat.one_pos
    simp only[xM,wB]at this
    exact⟨_,_,ZD,this⟩
   ·cases h
 ·rename_i v Zx Zw e
  injection e with e
  subst e
  simp only[gJ,aZ,fD]at h
  obtain⟨z,⟨u,hu,hz⟩,I⟩:=h
  cases I
  cases Q
  exact⟨u,w,lB hu w,gP.same N (lC hz)⟩
 ·rename_i y' Zx Zw J e
  injection e with e
  subst e
  split at h
  ·rename_i p
   simp only[aY]at p
   obtain⟨e,F,E⟩:=nM p.1
   split at h
   ·rename_i z es d
    simp only[aZ]at h
    obtain⟨l,hl,h⟩:=h
    injection h with H R
    subst H;subst R
    have ZQ:z=1\/es=[]:=by
     cases es with
     | nil=>exact .inr rfl
     | cons e0 Z0=>
      left
      obtain⟨b,_,hb⟩:=jq hl 0 e0 rfl
      unfold byteOf at hb
      split at hb
      ·rename_i n
       cases Q with
       | bl cell hs ZI D hm I X=>
        simp only[bW,dc,si]at d
        obtain⟨rfl,rfl⟩:=d
        have:=I _ (jM ..)
        simpa [AV.cells] using this.symm
       | bD S U hs ha ZI hn D G=>
        rename_i r1 Zz Fi ZY l1 a1 c1
        simp only[bW]at d
        split at d
        ·rename_i b1 K
         obtain⟨L,d⟩:=dG.1 d
         injection d with d
         injection d with Z h4
         have C:=N.at S G K
         have ZB:(AV.v (.int .u8 n))∈b1.es:=by
          have:(AV.v (.int .u8 n))∈(b1.es.drop Zz).take Fi:=by rw[h4];exact jM ..
          exact zT (uX this)
         have:=C.cells _ ZB
         rw[<-Z,<-this]
         rfl
        ·cases d
       | v hv=>exact absurd rfl (J _)
       | _=>simp[bW]at d
      ·cases hb
    have ZX:=fg hl
    obtain⟨a,n,c,rfl,hn,A⟩ : ∃a n c,u0 = .slice (some a) n c/\es.length=n /\∀j,j<n ->∃b:Int,w.cell? (a.add j)=some (.int .u8 b)/\l[j]?=some (UInt8.ofNat b.toNat):=by
     rcases ZQ with rfl | rfl
     ·obtain⟨us,ZZ⟩:=lG (P:=P) N Q (Nat.one_pos) d
      cases Q with
      | bl cell hs p D hm I X=>
       rename_i esz es' cap a c
       simp only[bW,dc,si]at d
       obtain⟨rfl,rfl⟩:=d
       refine⟨a,es'.length,c,rfl,rfl,?_⟩
       intro j t
       have O:=cw t
       obtain⟨b,K,B⟩:=jq hl j _ O
       have ZM:=I _ (gD t)
       have Zv:es'[j].cells=[es'[j]]:=by
        unfold byteOf at B
        split at B
        ·rename_i W;rw[W];rfl
        ·cases B
       have ZS:=X j 0 _ _ O (show es'[j].cells[0]?=some es'[j] by rw[Zv];rfl)
       obtain⟨nb,Zt,rfl⟩:=Eh ZS B
       refine⟨nb,?_,K⟩
       have:=N.mem _ _ _ (hm j 0 t (by omega)).1
       rw[ik (hs.resolve_right (by intro e;subst e;simp at t)),fk]
       rw[Zt]at this
       simpa using this
      | bD S U hs ha p hn D G=>
       rename_i r1 m len cap l1 a c
       simp only[bW]at d
       split at d
       ·rename_i b1 K
        obtain⟨L,d⟩:=dG.1 d
        injection d with d
        injection d with Z h4
        subst h4
        have C:=N.at S G K
        obtain⟨g1,g2⟩:=getElems b1.es m len L.2
        refine⟨a,len,c,rfl,g1,?_⟩
        intro j t
        have O:((b1.es.drop m).take len)[j]?=some b1.es[m+j]:=by rw[g2 j t];exact cw (by omega)
        obtain⟨b,ZH,B⟩:=jq hl j _ O
        have ZM:=C.cells _ (gD (by omega:m+j<b1.es.length))
        have Zv:b1.es[m+j].cells=[b1.es[m+j]]:=by
         unfold byteOf at B
         split at B
         ·rename_i W;rw[W];rfl
         ·cases B
        obtain⟨u,Y,Z2,ZT⟩:=C.cell (m+j) (cw (by omega)) 0 b1.es[m+j] (by rw[Zv];rfl)
        obtain⟨nb,Zt,rfl⟩:=Eh ZT B
        refine⟨nb,?_,ZH⟩
        have ZF:a.off=m * l1.esz:=by
         rcases ha with h | h
         ·omega
         ·exact h
        rw[ik hs,fk,U,ZF,C.esz,Z]
        rw[Z,Zt]at Y
        simp only[Nat.mul_one,uU]at Y ⊢
        exact Y
       ·cases d
      | v hv=>exact absurd rfl (J _)
      | _=>simp[bW]at d
     ·cases Q with
      | bl cell hs p D hm I X=>
       rename_i esz es' cap a c
       simp only[bW,dc,si]at d
       obtain⟨rfl,rfl⟩:=d
       exact⟨a,0,c,rfl,rfl,λj t=>by omega⟩
      | bD S U hs ha p hn D G=>
       rename_i r1 m len cap l1 a c
       simp only[bW]at d
       split at d
       ·obtain⟨L,d⟩:=dG.1 d
        injection d with d
        injection d with Z h4
        have:len=0:=by
         have:=(getElems _ m len L.2).1
         rw[h4]at this
         simpa using this.symm
        exact⟨a,len,c,rfl,by simp[this],λj t=>by omega⟩
       ·cases d
      | v hv=>exact absurd rfl (J _)
      | _=>simp[bW]at d
    refine⟨.string ⟨l.toArray⟩,w,?_,gP.same N (.v rfl)⟩
    rw[run_convert_bytes_string w src dst e (some a) n c F E (pt p.2)]
    let f:Nat->Int:=λj=>if h:j<n then (A j h).choose else 0
    have ZN : ∀j,j<n->w.cell? (a.add j)=some (.int .u8 (f j)):=λj t=>by simp only[f,dif_pos t];exact(A j t).choose_spec.1
    have ZK : ∀j,j<n->l[j]?=some (UInt8.ofNat (f j).toNat):=λj t=>by simp only[f,dif_pos t];exact(A j t).choose_spec.2
    have Zs:=run_loadCells (P:=P) w a n (λj => .int .u8 (f j)) (λj t=>ZN j t)
    have ZL:(loadCells a n).run P w = .ok (((List.range n).map f).map (Value.int .u8)).toArray w:=by rw[Zs];simp
    rw[run_bytesToString w a n c _ ZL,Ja]
    have:((List.range n).map f).map (λn=>UInt8.ofNat n.toNat)=l:=by
     apply Ey
     intro j
     rcases dH j n with t | t
     ·rw[ZK j t];simp[t]
     ·rw[sn (by simpa using t),sn (by omega)]
    rw[this]
    have V:ByteArray.empty.data = #[]:=rfl
    rw[V]
    simp
   ·cases h
  ·replace h:=dG.1 h
   obtain⟨p,h⟩:=h
   simp only[aY,beq_iff_eq]at p
   obtain⟨V,p⟩:=p
   subst V
   obtain⟨e,F,E⟩:=nM p
   cases y with
   | bD r' m len cap=>
    obtain⟨k,D,Z3,h⟩ : ∃k,g r'=some k/\k.esz=1/\some (AV.bD r' m len cap,([]:List aJ))=some (x,bs):=by
     cases D:g r' with
     | none=>simp only[D]at h;cases h
     | some k=>
      simp only[D]at h
      obtain⟨H,h⟩:=dG.1 h
      exact⟨k,rfl,H,h⟩
    injection h with h;injection h with H R;subst H;subst R
    have ZR:=Q
    cases Q with | bD Zy ZG Z1 ha L hn Z5 G=>
    rename_i l a c
    have C:=N.at Zy G D
    obtain⟨arr,T,fz,X,Z4,ZO,ZJ⟩:=C.heap
    have ZW:=C.lt
    have ZP:w.freeze ⟨a.block,arr.size,none⟩ 1=bA w l.b (.cells arr T (if fz.1 == fz.2 then (arr.size,arr.size+1) else (min fz.1 arr.size,max fz.2 (arr.size+1)))):=by
     unfold World.freeze bA
     rw[if_neg (by decide)]
     congr 1
     apply zS
     intro i
     rw[Bg,ZG]
     by_cases hi:l.b=i
     ·subst hi
      rw[if_pos rfl,X,AT ZW]
      rfl
     ·rw[if_neg hi,wC hi]
    have ZC : ∀o,o<arr.size ->¬((if fz.1 == fz.2 then (arr.size,arr.size+1) else (min fz.1 arr.size,max fz.2 (arr.size+1)):Nat × Nat).1<=o/\(o<(if fz.1 == fz.2 then (arr.size,arr.size+1) else (min fz.1 arr.size,max fz.2 (arr.size+1)):Nat × Nat).2\/(if fz.1 == fz.2 then (arr.size,arr.size+1) else (min fz.1 arr.size,max fz.2 (arr.size+1)):Nat × Nat).2<(if fz.1 == fz.2 then (arr.size,arr.size+1) else (min fz.1 arr.size,max fz.2 (arr.size+1)):Nat × Nat).1)):=by
     intro o ho
     split
     ·simp only;omega
     ·rename_i ZV
      simp only[beq_iff_eq]at ZV
      have H:arr.size<=fz.1:=by
       rcases dH fz.1 arr.size with h | h
       ·exact absurd ⟨aW _,by omega⟩ (ZO.1 fz.1 h)
       ·exact h
      simp only
      omega
    obtain⟨Z,h4⟩:=N.mark D Zy X ZP ⟨ZC,λH=>by omega⟩
    refine⟨.slice (some a) len c,_,?_,M,ι,ZR,by rw[kP];exact Z,by rw[kP];exact h4,λq hq _=>hq⟩
    have ZU:w.shape? a.block=some (T,arr.size):=by
     unfold World.shape?
     rw[ZG,X]
    simp[Go.convert,aN F,aN E,markStringish,ZU]
   | _=>cases h
 ·rename_i e;cases e
theorem Nu(hS:eW M ι g w)(hr:r.k=0)(hq:ι r=none){t:TypeId}{y z x:AV}{X Z:Value}(hy:VR M ι y X)(hz:VR M ι z Z){bs:List aJ}(h:uy P r t (some y) (some z)=some (x,bs)) :
 ∃u w',(Instr.makeSlice t X Z).run P w = .ok u w'/\gP M ι g w r x bs u w':=by
 unfold uy at h
 simp only[dF]at h
 split at h
 ·rename_i e l c he hl hc
  obtain⟨kl,rfl⟩:=sV hy hl
  obtain⟨kc,rfl⟩:=sV hz hc
  split at h
  ·rename_i zv s b S O W
   obtain⟨q,h⟩:=dG.1 h
   obtain⟨V,c2,c3,c4,c5,Y,U⟩:=q
   injection h with h
   injection h with h1 h2
   subst h1;subst h2
   obtain⟨it,u,m,R,hu⟩:=oA S
   obtain⟨i',E,Zs⟩:=qC O
   rw[m]at E;cases E
   simp only[ly,m,Option.map_some,dc]at W
   have p:=gp (M:=M) (ι:=cQ) hu
   have J:u.cells.size=s:=by have:=p.cells.1;simp at this;omega
   obtain⟨j,rfl⟩:=Bl V
   obtain⟨a,rfl⟩:=Bl (Int.le_trans V c2)
   have I:IntKind.i64.wrap (j:Int)=j:=IntWalk.i64_in _ ⟨by omega,by omega⟩
   have L:IntKind.i64.wrap (a:Int)=a:=IntWalk.i64_in _ ⟨by omega,by omega⟩
   have D : ¬((a:Int)<0):=by omega
   have o : ¬(281474976710656<(it.bytes:Int) * (a:Int)):=by
    rw[W,Int.mul_comm]
    have e1:((aX:Nat):Int)=140737488355328:=rfl
    omega
   have C : ¬((j:Int)<0):=by omega
   have H : ¬((a:Int)<(j:Int)):=by omega
   have f:=rJ (zs:=u.cells) (n:=a) (by omega)
   rw[J]at f
   have i:((Array.range (a * s)).map ((if a * s=0 then #[] else u.cells)[· % (if a * s=0 then #[] else u.cells).size]!)).toList=(List.replicate a u.cells.toList).flatten:=by
    by_cases G:a * s=0
    ·have Q:a=0:=by
      rcases Nat.mul_eq_zero.1 G with h | h
      ·exact h
      ·omega
     simp[Q]
    ·rw[if_neg G,J];exact f
   obtain⟨arr,d⟩ : ∃arr,arr=(Array.range (a * s)).map ((if a * s=0 then #[] else u.cells)[· % (if a * s=0 then #[] else u.cells).size]!):=⟨_,rfl⟩
   rw[<-d]at i
   have A:=Row.replicate p Y U a
   have B:arr.size=a * s:=by rw[<-wB,i];have:=A.len;simpa using this
   have F:(Instr.makeSlice t (.int kl j) (.int kc a)).run P w = .ok (.slice (some ⟨w.heap.size,0,none⟩) j a) (w.alloc (.cells arr e)):=by
    subst d
    by_cases G:a * s=0
    ·simp[Instr.makeSlice,aN (fc he),asInt,asIntOf,typeInfo,m,I,L,D,o,C,H,bP O,G,newRow]
    ·simp[Instr.makeSlice,aN (fc he),asInt,asIntOf,typeInfo,m,I,L,D,o,C,H,bP O,G,newRow,zeroValue,R]
   refine⟨_,_,F,?_⟩
   have K:=Row.replicate p Y U j
   have:=qv hS hr hq (w':=w.alloc (.cells arr e)) ⟨rfl,rfl,rfl,rfl⟩ K (by
    intro k v N
    rw[<-AS,i]
    have T:(List.replicate a u.cells.toList)=List.replicate j u.cells.toList++List.replicate (a - j) u.cells.toList:=by rw[Mm];congr 1;omega
    rw[T,List.flatten_append,ia (dE.1 N).1]
    exact N) (n:=a) (c:=a) B (xF.zero _ _) (by simp;omega) (aW _) (cap:=none) (by intro k N;cases N) c5
   simpa using this
  ·cases h
 ·cases h
end
end
section
section
variable{P:Program}{M:Mem}{ι:Map}{g:cf}{w:World}{r:Ref}
theorem Cv(V:eW M ι g w){t':Option TypeId}{e z:Nat}(hz:av P e=some z)(E:0<z){x:AV}{O:Value}(y:VR M ι x O){new:List AV}
 (S : ¬((t'.bind P.underlying).isNone=true\/(t'.map (isInt P)).getD false≠isNum x)) (h:kn P g e x=some (z,new)) : ∃us,Row M z new us/\App P w t' O e z new.length us:=by
 have H : ∃d,t'.bind P.underlying=some d/\(isNum x=false ->∀k,d ≠ .int k)/\(isNum x=true ->∃k,d = .int k):=by
  have f : ¬(t'.bind P.underlying).isNone=true:=λh=>S (.inl h)
  have b:(t'.map (isInt P)).getD false=isNum x:=rm.1 λh=>S (.inr h)
  cases t' with
  | none=>simp at f
  | some t=>
   simp only[dF]at f ⊢
   cases G:P.underlying t with
   | none=>simp[G]at f
   | some d=>
    simp only[Option.map_some,bO]at b
    refine⟨d,rfl,?_,?_⟩
    ·intro D k s
     subst s
     rw[D]at b
     simp[isInt,G]at b
    ·intro D
     rw[D]at b
     obtain⟨k,s⟩:=N9 b
     rw[G]at s
     exact⟨k,by simpa using s⟩
 obtain⟨d,A,p,J⟩:=H
 unfold kn at h
 split at h
 ·simp only[aZ]at h
  obtain⟨R,K,h⟩:=h
  injection h with f b
  subst b
  cases y
  exact⟨[],Row.nil,.src A (p rfl) (λw'=>rfl) (λw' _=>rfl)⟩
 ·rename_i k n
  split at h
  ·rename_i wv R C K
   obtain⟨c,h⟩:=dG.1 h
   injection h with h
   injection h with f b
   subst f;subst b
   obtain⟨W,U,Z,Y⟩:=c
   obtain⟨m,rfl⟩:=Bl W
   obtain⟨k',rfl⟩:=J rfl
   cases y
   obtain⟨u,i,B⟩:=sO C w
   have N : ∀w':World,(zeroValue e).run P w' = .ok u w':=by
    intro w'
    obtain⟨u',f,b⟩:=sO C w'
    obtain⟨it,v,l,q,F⟩:=oA C
    have X:(zeroValue e).run P w = .ok v w:=by simp[zeroValue,typeInfo,l,q]
    have T:(zeroValue e).run P w' = .ok v w':=by simp[zeroValue,typeInfo,l,q]
    rw[X]at i
    cases i
    exact T
   have F:=gp (M:=M) (ι:=cQ) B
   have L:u.cells.size=R:=by have:=F.cells.1;simp at this;omega
   refine⟨_,Row.replicate F Z Y m,?_⟩
   rw[Ex]
   exact .zeros (kx:=k) u A (by simp) (by simpa using U) N L (by simp)
  ·cases h
 ·rename_i Q o
  have j:isNum x=false:=by
   unfold isNum
   split
   ·exact absurd rfl (o _ _)
   ·rfl
  obtain⟨us,a⟩:=lG (P:=P) V y E h
  refine⟨us,a.row,.src A (p j) a.lenOf λw' I=>?_⟩
  have:=a.first new.length w' (aW _) I
  rwa [fC (by rw[a.len];exact aW _)]at this
theorem wY{e z:Nat}(f:av P e=some z){y:AV}(c:ei P e=some y)(h:y.cells.length=z) : ∃u,(∀w':World,(zeroValue e).run P w' = .ok u w')/\u.cells.size=z:=by
 obtain⟨it,v,b,a,d⟩:=oA c
 refine⟨v,λw'=>by simp[zeroValue,typeInfo,b,a],?_⟩
 have:=(gp (M:=λ_ _=>none) (ι:=cQ) d).cells.1
 simp at this
 omega
theorem vt{olds us:List Value}{b:Value}{z n1 n2 cap:Nat}(f:olds.length=n1 * z)(e:us.length=n2 * z)(d:b.cells.size=z)(h:n1+n2<=cap) :
 (olds.toArray++us.toArray++Builtin.zeroCells b.cells (cap - (n1+n2))).size=cap * z /\
 ∀(k:Nat) u,(olds++us)[k]?=some u->(olds.toArray++us.toArray++Builtin.zeroCells b.cells (cap - (n1+n2)))[k]?=some u:=by
 constructor
 ·simp only[Array.size_append,List.size_toArray,size_zeroCells,d,f,e,<-jH]
  congr 1
  omega
 ·intro k u c
  have a:=(dE.1 c).1
  rw[HR (by simpa using a)]
  simpa using c
theorem vU{a:Option Addr}{len c z:Nat}{es:List AV}{us:List Value}{u:Value}(d:u = .slice a len c)(e:es.length=len)(h:Src P M w u z es us) :
 ∀w':World,w'.heap=w.heap->(Builtin.firstCells z len (.slice a len c)).run P w' = .ok us.toArray w':=by
 intro w' b
 have:=h.first es.length w' (aW _) b
 rw[fC (by rw[h.len];exact aW _),d,e]at this
 exact this
theorem Cl(I:eW M ι g w)(hr:r.k=0)(hq:ι r=none){W:Array TypeId}{ty:TypeId}{s x y:AV}{us ux:Value}(Q:VR M ι s us)(hx:VR M ι x ux){bs:List aJ}
 (h:dy P g r W[0]? W[1]? s x=some (y,bs)) : ∃u w',(Builtin.append_ W ty #[us,ux]).run P w = .ok u w'/\gP M ι g w r y bs u w':=by
 unfold dy at h
 split at h
 ·cases h
 ·rename_i e he
  simp only[fD]at he
  obtain⟨t,ht,he⟩:=he
  have hu:=fc he
  split at h
  ·cases h
  ·rename_i hc
   split at h
   ·rename_i z by' zz H new hz hb Zt O
    split at h
    ·cases h
    ·rename_i i
     have U:H=z:=rm.1 λh=>i (.inl h)
     have C:0<z:=ur λh=>i (.inr (.inl h))
     have Zv:0<by':=ur λh=>i (.inr (.inr (.inl h)))
     have X:zz.cells.length=z:=rm.1 λh=>i (.inr (.inr (.inr h)))
     have ZD:=U
     subst U
     obtain⟨Y,B,hA⟩:=Cv (w:=w) I hz C hx hc O
     have f:new=[] ->∀a len c,len<=c->us = .slice a len c->(Builtin.append_ W ty #[us,ux]).run P w = .ok us w:=by
      intro E a len c Zz N
      subst E
      have:Y=[]:=uw (by rw[B.len];simp)
      subst this
      rw[N]
      exact Av ht hu hz hb Zz hA
     have fresh : ∀ {a:Option Addr} {len c:Nat} {es:List AV} {us0:List Value},us = .slice a len c->es.length=len->Row M H es us0 ->
      (∀w':World,w'.heap=w.heap->(Builtin.firstCells H len (.slice a len c)).run P w' = .ok us0.toArray w')->c<len+new.length->(len+new.length) * by'<=aX ->
      ∃u w',(Builtin.append_ W ty #[us,ux]).run P w = .ok u w'/\gP M ι g w r (.bD r 0 (len+new.length) none) [⟨H,es++new,true,false⟩] u w':=by
      intro a len c es us0 N D q Zs K d
      obtain⟨zv,ZB,T⟩:=wY hz Zt X
      obtain⟨cap,w',Z,S,F⟩:=qG (P:=P) (w:=w) (ty:=ty) ht hu hz hb ZB T Zs hA K d Zv
      obtain⟨p,o⟩:=vt (olds:=us0) (us:=Y) (n1:=len) (n2:=new.length) (cap:=cap) (by rw[q.len,D]) B.len T Z
      refine⟨_,w',by rw[N];exact S,?_⟩
      have:=qv I hr hq F (q.append B) o (n:=cap) (c:=cap) p (xF.zero _ _) (by simp;omega) (aW _) (cap:=none) (by intro k R;cases R) C
      simp only[gG,D]at this
      exact this
     split at h
     ·
      cases Q
      split at h
      ·rename_i E
       injection h with h;injection h with p o;subst p;subst o
       exact⟨_,w,f E none 0 0 (aW _) rfl,gP.same I (.v rfl)⟩
      ·rename_i E
       obtain⟨d,h⟩:=dG.1 h
       injection h with h;injection h with p o;subst p;subst o
       have ZC:0<new.length:=xO.2 E
       have:=fresh (a:=none) (len:=0) (c:=0) (es:=[]) (us0:=[]) rfl rfl Row.nil (λw' _=>rfl) (by omega) (by simpa using d)
       simpa using this
     ·
      rename_i n es cap
      split at h
      ·cases h
      ·rename_i L
       have L:n=H:=rm.1 L
       subst L
       have A:=Q
       cases Q with | bl cell Zw G R hm ZE hh=>
       rename_i a c
       split at h
       ·rename_i E
        injection h with h;injection h with p o;subst p;subst o
        exact⟨_,w,f E _ _ _ G rfl,gP.same I A⟩
       ·cases cap with
        | some k=>
         obtain⟨⟨K,d⟩,h⟩:=dG.1 h
         injection h with h;injection h with p o;subst p;subst o
         have Zx:=R k rfl
         obtain⟨us0,j⟩:=lG (P:=P) (g:=g) (z:=n) (es:=es) I A C rfl
         exact fresh rfl rfl j.row (vU rfl rfl j) (by omega) d
        | none=>cases h
     ·
      rename_i r' J len cap
      split at h
      ·rename_i b Zu
       split at h
       ·cases h
       ·rename_i m
        have Zy:b.esz=H:=rm.1 λh=>m (.inl h)
        have V:b.arr=true:=by
         cases hh:b.arr with
         | true=>rfl
         | false=>exact absurd (.inr hh) m
        have A:=Q
        cases Q with | bD ZG ZF Zw ha G E R X=>
        rename_i l a c
        split at h
        ·rename_i ZA
         injection h with h;injection h with p o;subst p;subst o
         exact⟨_,w,f ZA _ _ _ G rfl,gP.same I A⟩
        ·cases cap with
         | some k=>
          obtain⟨⟨hle,K,d⟩,h⟩:=dG.1 h
          injection h with h;injection h with p o;subst p;subst o
          have Zx:=R k rfl
          have D:bW g (.bD r' J len (some k))=some (H,(b.es.drop J).take len):=by
           simp only[bW,Zu,V,hle,and_self,if_true,Zy]
          obtain⟨us0,j⟩:=lG (P:=P) I A C D
          have hl:=(getElems b.es J len hle).1
          exact fresh rfl hl j.row (vU rfl hl j) (by omega) d
         | none=>cases h
      ·cases h
     ·cases h
   ·cases h
end
end
section
theorem ab.aj(H:ab)(r q:Ref)(b:Option aJ):(H.put r b).get q=if q=r then b else H.get q:=by
 induction H with
 | nil=>
  simp only[ab.put,ab.get]
  by_cases h:q=r
  ·rw[if_pos h.symm,if_pos h]
  ·rw[if_neg (nE h),if_neg h]
 | cons p H e=>
  obtain⟨r',b'⟩:=p
  simp only[ab.put]
  by_cases d:r'=r
  ·rw[if_pos d]
   simp only[ab.get]
   by_cases c:q=r
   ·rw[if_pos c.symm,if_pos c]
   ·rw[if_neg (nE c),if_neg c,if_neg (by rw[d];exact nE c)]
  ·rw[if_neg d]
   simp only[ab.get]
   by_cases a:r'=q
   ·rw[if_pos a,if_neg (by rw[<-a];exact d),if_pos a]
   ·rw[if_neg a,e,if_neg a]
theorem ab.fp(H:ab)(r:Ref)(b:Option aJ)(h:(H.get r).isSome=true)(d t:Nat):(H.put r b).gen d t=H.gen d t:=by
 induction H with
 | nil=>simp[ab.get]at h
 | cons p H c=>
  obtain⟨r',b'⟩:=p
  simp only[ab.put]
  by_cases a:r'=r
  ·rw[if_pos a,a];rfl
  ·rw[if_neg a]
   simp only[ab.gen]
   simp only[ab.get,if_neg a]at h
   rw[c h]
theorem ab.cB(R:List Ref) : ∀(H:ab),(bG H R).get=pI H.get R:=by
 induction R with
 | nil=>intro H;funext q;simp[bG,pI]
 | cons r R e=>
  intro H
  funext q
  simp only[bG]
  split
  ·rename_i b d
   rw[e]
   unfold pI
   simp only[eU,ab.aj]
   by_cases a:q=r
   ·subst a
    simp[d]
   ·simp only[if_neg a]
    by_cases c:q∈R
    ·simp[c]
    ·simp[c,a]
  ·rename_i d
   rw[e]
   unfold pI
   simp only[eU]
   by_cases a:q=r
   ·subst a
    simp[d]
   ·by_cases c:q∈R
    ·simp[c]
    ·simp[c,a]
theorem ab.fB(R:List Ref) : ∀(H:ab)(d t:Nat),(bG H R).gen d t=H.gen d t:=by
 induction R with
 | nil=>intro H d t;rfl
 | cons r R a=>
  intro H d t
  simp only[bG]
  split
  ·rename_i b c
   rw[a,ab.fp H r _ (by rw[c];rfl)]
  ·exact a H d t
theorem ab.vX(r:Ref) : ∀(bs:List aJ)(k:Nat)(H:ab)(q:Ref),(keyed r k bs H).get q=if q.d=r.d/\q.t=r.t/\q.g=r.g/\k<=q.k/\q.k<k+bs.length then bs[q.k - k]? else H.get q:=by
 intro bs
 induction bs with
 | nil=>intro k H q;rw[if_neg (by intro h;simp only[lV]at h;omega)];rfl
 | cons b bs f=>
  intro k H q
  simp only[keyed,f,ab.get,ji]
  by_cases a:q.d=r.d/\q.t=r.t/\q.g=r.g
  ·by_cases c:q.k=k
   ·rw[if_neg (by omega),if_pos (by cases q;cases r;simp_all),if_pos ⟨a.1,a.2.1,a.2.2,by omega,by omega⟩]
    simp[c]
   ·by_cases e:k+1<=q.k/\q.k<k+1+bs.length
    ·rw[if_pos ⟨a.1,a.2.1,a.2.2,e⟩,if_pos ⟨a.1,a.2.1,a.2.2,by omega,by omega⟩]
     rw[show q.k - k=(q.k - (k+1))+1 by omega]
     simp
    ·rw[if_neg (by omega),if_neg (by intro h;apply c;rw[<-h]),if_neg (by omega)]
  ·rw[if_neg (by intro h;exact a ⟨h.1,h.2.1,h.2.2.1⟩),if_neg (by intro h;apply a;rw[<-h];exact⟨rfl,rfl,rfl⟩),if_neg (by intro h;exact a ⟨h.1,h.2.1,h.2.2.1⟩)]
theorem ab.kF(r:Ref)(bs:List aJ)(H:ab):(keyed r 0 bs H).get=oQ H.get r bs:=by
 funext q
 rw[ab.vX]
 unfold oQ
 simp
theorem ab.jV(r:Ref) : ∀(bs:List aJ)(k:Nat)(H:ab)(d t:Nat),(keyed r k bs H).gen d t=if d=r.d/\t=r.t/\bs≠[] then r.g+1 else H.gen d t:=by
 intro bs
 induction bs with
 | nil=>intro k H d t;simp[keyed]
 | cons b bs e=>
  intro k H d t
  simp only[keyed,e,ab.gen]
  by_cases h:d=r.d/\t=r.t
  ·obtain⟨rfl,rfl⟩:=h
   by_cases c:bs=[]
   ·simp[c]
   ·simp[c]
  ·have f : ¬(r.d=d/\r.t=t):=λa=>h ⟨a.1.symm,a.2.symm⟩
   rw[if_neg (by intro a;exact h ⟨a.1,a.2.1⟩),if_neg f,if_neg (by intro a;exact h ⟨a.1,a.2.1⟩)]
def o6(ι:Map)(H:ab):Prop :=∀q l,ι q=some l->q.g<H.gen q.d q.t
theorem o6.fresh{ι:Map}{H:ab}(h:o6 ι H)(d t k:Nat):ι ⟨d,t,H.gen d t,k⟩=none:=by
 cases hi:ι ⟨d,t,H.gen d t,k⟩ with
 | none=>rfl
 | some l=>exact absurd (h _ l hi) (wu _)
section
variable{P:Program}{M:Mem}{ι:Map}{g:cf}{w:World}{r:Ref}
def mT(M:Mem)(ι:Map)(H:ab)(w:World)(x:AV)(b:ab)(u:Value)(w':World):Prop:=
 ∃M' a,VR M' a x u/\eW M' a b.get w'/\pN M ι H.get w M' a b.get w'/\o6 a b
theorem gP.Si{H:ab}{x:AV}{bs:List aJ}{u:Value}{w':World}(o:o6 ι H){d t:Nat}(h:gP M ι H.get w ⟨d,t,H.gen d t,0⟩ x bs u w'):mT M ι H w x (keyed ⟨d,t,H.gen d t,0⟩ 0 bs H) u w':=by
 obtain⟨M',b,s,m,n,p⟩:=h
 refine⟨M',b,s,by rw[ab.kF];exact m,by rw[ab.kF];exact n,?_⟩
 intro q l i
 rw[ab.jV]
 cases hi:ι q with
 | some j=>
  have:=o q j hi
  split
  ·rename_i f;rw[f.1,f.2.1]at this;exact AQ this
  ·exact this
 | none=>
  by_cases a : ∃k,k<bs.length/\q = { (⟨d,t,H.gen d t,0⟩:Ref)with k:=k}
  ·obtain⟨k,a,rfl⟩:=a
   rw[if_pos ⟨rfl,rfl,by intro e;rw[e]at a;simp at a⟩]
   exact nD _
  ·rw[p q hi (λk c e=>a ⟨k,c,e⟩)]at i
   cases i
theorem GF{cs new:List AV}{j:Nat}(h:j+new.length<=cs.length)(k:Nat):(patch cs j new)[k]?=if j<=k/\k<j+new.length then new[k - j]? else cs[k]?:=by
 unfold patch
 have b:(cs.take j).length=j:=by simp;omega
 rcases dH k j with a | a
 ·rw[pS,ia (by omega),uW,if_pos a,if_neg (by omega)]
 ·rcases dH k (j+new.length)with c | c
  ·rw[pS,iL (by omega),ia (by omega),if_pos ⟨a,c⟩,b]
  ·rw[iL (by simp;omega),wA,if_neg (by omega)]
   simp only[gG,b]
   congr 1
   omega
theorem Lx{x:AV}(h:x.one=true):x.cells=[x]:=by
 cases x<;>first | rfl | (simp[AV.one]at h)
theorem EG{e c:AV}{j:Nat}{new:List AV}(h:lM e j new=some c)(i:new.all AV.one=true):j+new.length<=e.cells.length/\c.cells=patch e.cells j new:=by
 have a : ∀x,(∀cs,e ≠ .agg cs)->j=0->new=[x]->c=x->j+new.length<=e.cells.length/\c.cells=patch e.cells j new:=by
  intro x b l k f
  have d:e.cells=[e]:=by cases e<;>first | rfl | exact absurd rfl (b _)
  subst l;subst k;subst f
  simp only[tj,yY,u9]at i
  rw[d,Lx i]
  exact⟨by simp,by simp[patch]⟩
 unfold lM at h
 split at h
 ·obtain⟨d,h⟩:=dG.1 h
  injection h with h
  subst h
  exact⟨d,rfl⟩
 ·rename_i b
  split at h
  ·injection h with h
   exact a _ (λcs f=>b cs f) rfl rfl h.symm
  ·cases h
theorem Bm(O:eW M ι g w){k:aJ}{l:Loc}{i j:Nat}{new es':List AV}(R:g r=some k)(Q:ι r=some l)(B:0<l.esz)(J:k.fN=false)(z:fE k.es i j new=some es')(L:new.all AV.one=true)
 {us:List Value} (y:jD M (k.map ι) new us) :
 ∃arr T fz,w.heap[l.b]?=some (.cells arr T fz)/\i * k.esz+j+us.length<=arr.size/\(∀o,o<arr.size ->¬(fz.1<=o/\(o<fz.2\/fz.2<fz.1)))/\(∀u∈us,u.oneCell'=true) /\
  eW M ι (jx g r { k with es:=es'}) (bA w l.b (.cells (bQ arr (i * k.esz+j) us) T fz))/\pN M ι g w M ι (jx g r { k with es:=es'}) (bA w l.b (.cells (bQ arr (i * k.esz+j) us) T fz)):=by
 have s:=O.at Q B R
 obtain⟨arr,T,fz,Z,D,A,S⟩:=s.heap
 unfold fE at z
 split at z
 ·cases z
 ·rename_i e N
  simp only[aZ]at z
  obtain⟨V,H,rfl⟩:=z
  obtain⟨hle,d⟩:=EG H L
  have hi:i<k.es.length:=(dE.1 N).1
  have K:=s.cells e (eY N)
  have X:=y.1
  have a:i * k.esz+j+us.length<=arr.size:=by
   have Y:(i+1) * k.esz<=l.n * k.esz:=jN _ (by have:=s.len;omega)
   rw[jH]at Y
   rw[D]
   omega
  have f : ∀u∈us,u.oneCell'=true:=by
   intro u hu
   obtain⟨m,hm,G⟩:=mw hu
   have C:m<new.length:=by omega
   have:=y.2 m _ u (cw C) (by rw[<-G];exact cw hm)
   exact this.one (by simp only[da]at L;exact L _ (gD C))
  obtain⟨U,h4⟩:=O.write (k' := { k with es:=k.es.set i V}) R Q B (arr:=bQ arr (i * k.esz+j) us) (T:=T) (fz:=fz) rfl rfl rfl (by rw[gz a];exact D)
   (by rw[gz a];exact A) (by simp;exact s.len)
   (by
    intro F I
    rcases List.mem_or_eq_of_mem_set I with h | h
    ·exact s.cells F h
    ·rw[h,d,<-K]
     simp[patch]
     omega)
   (by
    intro o x p
    have:=(s.frozen o x p).1
    rw[J]at this
    cases this)
   (by
    intro E q F x c p
    rw[fR a]
    by_cases t:i=E
    ·subst t
     rw[Bk hi]at c
     injection c with c
     subst c
     rw[d,GF hle]at p
     split at p
     ·rename_i W
      rw[if_pos (by omega),show i * k.esz+q - (i * k.esz+j)=q - j by omega]
      have v:q - j<us.length:=by omega
      exact⟨us[q - j],cw v,f _ (gD v),y.2 _ _ _ p (cw v)⟩
     ·rename_i W
      rw[if_neg (by omega)]
      exact S i q e x N p
    ·rw[Be t]at c
     have Zs:q<k.esz:=by
      rw[<-s.cells F (eY c)]
      exact(dE.1 p).1
     rw[if_neg]
     ·exact S E q F x c p
     ·rcases HH t with h | h
      ·have:(i+1) * k.esz<=E * k.esz:=jN _ h
       rw[jH]at this
       omega
      ·have:(E+1) * k.esz<=i * k.esz:=jN _ h
       rw[jH]at this
       omega)
  exact⟨arr,T,fz,Z,a,A.1,f,U,h4⟩
theorem vi{t:TypeId}{n:Nat}(f:av P t=some n){b o:Nat}{u:Value}(e:u.cells.size=n){arr:Array Value}{T:TypeId}{fz:Nat × Nat}(d:w.heap[b]?=some (.cells arr T fz))
 (a:o+u.cells.toList.length<=arr.size) (c : ∀o,o<arr.size ->¬(fz.1<=o/\(o<fz.2\/fz.2<fz.1))) (h : ∀x∈u.cells.toList,x.oneCell'=true) :
 (Instr.storeAt t (.pointer (some ⟨b,o,none⟩)) u).run P w = .ok () (bA w b (.cells (bQ arr o u.cells.toList) T fz)):=by
 have:=kA (P:=P) o u.cells.toList 0 arr w d (by simpa using a) c h
 simp only[uU]at this
 simp[Instr.storeAt,Instr.sureAddr,storeVar,bP f,e,this]
theorem ph(H:ab)(r:Ref)(k:aJ):(H.put r (some k)).get=jx H.get r k:=by
 funext q
 rw[ab.aj]
 rfl
theorem KG{H:ab}(z:eW M ι H.get w)(hD:o6 ι H){t:TypeId}{a x y:AV}{ua d:Value}(ha:VR M ι a ua)(hx:VR M ι x d){H':ab}(h:iu P H t (some a) (some x)=some (y,H')) :
 ∃w',(Instr.storeAt t ua d).run P w = .ok () w'/\mT M ι H w y H' undef w':=by
 unfold iu at h
 split at h
 ·rename_i r' i j x' n O B hn
  injection O with O;injection B with B
  subst O;subst B
  cases ha with | ptr I u=>
  rename_i l
  split at h
  ·rename_i b A
   obtain⟨⟨Zs,Z,s⟩,h⟩:=dG.1 h
   obtain⟨l',m,p⟩:=z.live r' b A
   rw[I]at m;cases m
   have o:=hx.cells
   have f:d.cells.size=n:=by have:=o.1;simp at this;omega
   split at h
   ·rename_i c
    split at h
    ·rename_i y' J
     split at h
     ·cases h
     ·rename_i L
      obtain⟨U,h⟩:=dG.1 h
      simp only[aZ]at h
      obtain⟨es',e,h⟩:=h
      injection h with X S
      subst X;subst S
      obtain⟨G,N⟩:=vv (R:=ad H.get depth x) z
      have hv:=xU z depth x y' d J (λr hr=>hr) hx
      have k:pI H.get (ad H.get depth x) r'=some b:=by unfold pI;rw[if_neg L];exact A
      have K:=hv.cells
      obtain⟨arr,T,fz,C,V,F,Q,E,D⟩:=Bm G k I u s e U (us:=d.cells.toList) (by rw[aJ.map,if_pos c];exact K)
      refine⟨bA w l.b (.cells (bQ arr (i * b.esz+j) d.cells.toList) T fz),?_,iD M ι H.get w (ad H.get depth x),ι,.v rfl,?_,?_,?_⟩
      ·rw[p.esz]
       exact vi hn f C V F Q
      ·rw[ph,ab.cB];exact E
      ·rw[ph,ab.cB];exact N.trans D
      ·intro q Y W
       rw[ab.fp _ _ _ (by rw[ab.cB,k];rfl),ab.fB]
       exact hD q Y W
    ·cases h
   ·rename_i c
    simp only[aZ]at h
    obtain⟨es',e,h⟩:=h
    injection h with X S
    subst X;subst S
    obtain⟨arr,T,fz,C,V,F,Q,E,D⟩:=Bm z A I u s e Z (us:=d.cells.toList) (by rw[aJ.map,if_neg c];exact o)
    refine⟨bA w l.b (.cells (bQ arr (i * b.esz+j) d.cells.toList) T fz),?_,M,ι,.v rfl,?_,?_,?_⟩
    ·rw[p.esz]
     exact vi hn f C V F Q
    ·rw[ph];exact E
    ·rw[ph];exact D
    ·intro q Y W
     rw[ab.fp _ _ _ (by rw[A];rfl)]
     exact hD q Y W
  ·cases h
 ·cases h
end
end
section
section
variable{P:Program}{M:Mem}{ι:Map}{g:cf}{w:World}{r:Ref}
def oo(g:cf)(r:Ref):cf:=λq=>if q=r then none else g q
theorem Kc(b:eW M ι g w)(r:Ref):eW M ι (oo g r) w/\pN M ι g w M ι (oo g r) w:=by
 have a : ∀ {q k},oo g r q=some k->g q=some k:=by
  intro q k h
  unfold oo at h
  split at h
  ·cases h
  ·exact h
 exact⟨⟨b.mem,λq k h=>b.live q k (a h),λq f k k' l c h d=>b.inj q f k k' l c (a h) (a d)⟩,
  ⟨rfl,rfl,rfl,aW _,λ_ _ _=>rfl,λ_ _ _ h=>h,λ_ _ h=>h,λq k l h e => .inr ⟨q,k,l,a h,e,rfl⟩,λ_ _ _ h => .inl h⟩⟩
theorem DP(v:eW M ι g w){r q:Ref}{k k':aJ}{l:Loc}(F:g r=some k)(C:ι r=some l)(hq:ι q=none){arr':Array Value}{w':World}
 (hw : ∃arr T fz,w.heap[l.b]?=some (.cells arr T fz)/\arr.size=arr'.size/\w'=bA w l.b (.cells arr' T fz)) (a:k'.esz=k.esz) (O:k'.arr=true) (A:k.arr=true) (J:k'.fN=k.fN)
 (D : ∀(o:Nat) u,o<k.es.length * k.esz ->∀arr T fz,w.heap[l.b]?=some (.cells arr T fz)->arr[o]?=some u->arr'[o]?=some u)
 (G:k'.es.length<=l.n) (Zu:k.es.length<=k'.es.length) (t : ∀e∈k'.es,e.cells.length=k.esz)
 (hc : ∀(i j:Nat) e x,k'.es[i]?=some e->e.cells[j]?=some x ->∃u,arr'[i * k.esz+j]?=some u/\u.oneCell'=true/\VR M cQ x u) :
 eW M (iV ι q l) (jx (oo g r) q k') w'/\pN M ι g w M (iV ι q l) (jx (oo g r) q k') w':=by
 obtain⟨arr,T,fz,hh,X,c⟩:=hw
 obtain⟨l',H,z⟩:=v.live r k F
 rw[C]at H;cases H
 have L:=z.pos A
 replace z:=z.cellsOk L
 obtain⟨Zv,T0,Zw,U,h1,h2,h3⟩:=z.heap
 rw[hh]at U;cases U
 have V:=z.lt
 have p:=AE (l:=l) hq
 have Zy:q≠r:=by intro e;rw[e,C]at hq;cases hq
 refine⟨⟨?_,?_,?_⟩,?_⟩
 ·intro b o x B
  by_cases Q:l.b=b
  ·subst Q
   have ho:=(z.frozen o x B).2
   have S:=v.mem _ _ _ B
   rw[gA hh]at S
   rw[gA (by rw[c];exact fe V)]
   exact D o x ho arr T fz hh S
  ·rw[World.cell?_of_block (w:=w) (by rw[c];exact dK Q)]
   exact v.mem b o x B
 ·intro r' k1 s
  unfold jx at s
  split at s
  ·rename_i e
   subst e
   injection s with s
   subst s
   refine⟨l,by simp[iV],dU.LY ⟨by rw[z.esz,a],⟨arr',T,fz,by rw[c];exact fe V,by rw[<-X,a];exact h1,by rw[<-X,a];exact h2,?_⟩,G,by rw[a];exact t,?_⟩ (by rw[a];exact L)⟩
   ·intro i j e x he B
    rw[a]
    obtain⟨u,hu,ho,hv⟩:=hc i j e x he B
    refine⟨u,hu,ho,?_⟩
    rw[aJ.map,if_pos O]
    exact hv
   ·intro o x B
    rw[J,a]
    have:=z.frozen o x B
    exact⟨this.1,xN this.2 (jN _ Zu)⟩
  ·rename_i Zx
   unfold oo at s
   split at s
   ·cases s
   ·rename_i N
    obtain⟨f,R,I⟩:=v.live r' k1 s
    have Zs:l.b≠f.b:=λe=>N (v.inj r' r k1 k f l s F R C e.symm)
    exact⟨f,p r' f R,I.cy (λ_ _ _ h=>h) p (by rw[c];exact dK Zs) I.frozen⟩
 ·have y : ∀ {m k1 f},jx (oo g r) q k' m=some k1->iV ι q l m=some f->(m=q/\f=l)\/(m≠q/\m≠r/\g m=some k1/\ι m=some f):=by
   intro m k1 f h d
   unfold jx at h
   unfold iV at d
   split at h
   ·rename_i e;rw[if_pos e]at d;injection d with d;exact .inl ⟨e,d.symm⟩
   ·rename_i e
    rw[if_neg e]at d
    unfold oo at h
    split at h
    ·cases h
    ·rename_i e';exact .inr ⟨e,e',h,d⟩
  intro m r2 k1 k2 f l2 h1 h2 h3 h4 h5
  rcases y h1 h3 with ⟨e1,Z⟩ | ⟨e1,Z,e3,e4⟩<;>rcases y h2 h4 with ⟨Y,E⟩ | ⟨Y,E,K,W⟩
  ·rw[e1,Y]
  ·exact absurd (v.inj r r2 k k2 l l2 F K C W (by rw[<-Z];exact h5)).symm E
  ·exact absurd (v.inj r m k k1 l f F e3 C e4 (by rw[<-E];exact h5.symm)).symm Z
  ·exact v.inj m r2 k1 k2 f l2 e3 K e4 W h5
 ·refine⟨by rw[c];rfl,by rw[c];rfl,by rw[c];rfl,by rw[c];simp[bA],?_,λ_ _ _ h=>h,p,?_,λ_ _ _ h => .inl h⟩
  ·intro b _ Zt
   rw[c]
   exact dK (Zt r k l F C)
  ·intro m k1 f h d
   unfold jx at h
   unfold iV at d
   split at h
   ·rename_i e;rw[if_pos e]at d;injection d with d;subst d;exact .inr ⟨r,k,l,F,C,rfl⟩
   ·rename_i e
    rw[if_neg e]at d
    unfold oo at h
    split at h
    ·cases h
    ·exact .inr ⟨m,k1,f,h,d,rfl⟩
theorem get_append(H:ab)(q r:Ref)(k:aJ)(b:q≠r):ab.get ((q,some k) :: H.put r none)=jx (oo H.get r) q k:=by
 funext x
 simp only[ab.get,ab.aj]
 unfold jx oo
 by_cases a:q=x
 ·subst a;simp
 ·rw[if_neg a,if_neg (nE a)]
theorem I7(H:ab)(r:Ref)(k:aJ)(a:(H.get r).isSome=true)(d t:Nat) :
 ab.gen ((⟨r.d,r.t,H.gen r.d r.t,0⟩,some k) :: H.put r none) d t=if r.d=d/\r.t=t then H.gen r.d r.t+1 else H.gen d t:=by
 simp only[ab.gen]
 split
 ·rfl
 ·rw[ab.fp H r none a]
theorem Bu{H:ab}(hS:eW M ι H.get w)(hD:o6 ι H){ts:Array TypeId}{ty:TypeId}{s x y:AV}{us ux:Value}(hs:VR M ι s us)(hx:VR M ι x ux){H':ab}
 (h:gT P H ts[0]? ts[1]? s x=some (y,H')) : ∃u w',(Builtin.append_ ts ty #[us,ux]).run P w = .ok u w'/\mT M ι H w y H' u w':=by
 unfold gT at h
 split at h
 ·cases h
 ·rename_i e he
  simp only[fD]at he
  obtain⟨t,ht,he⟩:=he
  have hu:=fc he
  split at h
  ·cases h
  ·rename_i hc
   split at h
   ·rename_i z by' zz ez new hz hb ZN G
    split at h
    ·cases h
    ·rename_i f
     have ZI:ez=z:=rm.1 λh=>f (.inl h)
     have Q:0<z:=ur λh=>f (.inr (.inl h))
     have ZP:0<by':=ur λh=>f (.inr (.inr (.inl h)))
     have ZO:new≠[]:=λh=>f (.inr (.inr (.inr (.inl h))))
     have ZK:zz.cells.length=z:=rm.1 λh=>f (.inr (.inr (.inr (.inr h))))
     subst ZI
     obtain⟨O,m,hA⟩:=Cv (w:=w) hS hz Q hx hc G
     split at h
     ·rename_i r' Z0 len
      split at h
      ·rename_i b L
       obtain⟨⟨ZB,I,ZF,hlen,E⟩,h⟩:=dG.1 h
       injection h with h;injection h with h1 h2;subst h1;subst h2
       subst ZB
       subst hlen
       subst ZF
       have ZG:=hs
       cases hs with | bD Y ZD Zx ha ZX hn hk S=>
       rename_i l a c
       have hq:=hD.fresh r'.d r'.t 0
       have R:(⟨r'.d,r'.t,H.gen r'.d r'.t,0⟩:Ref)≠r':=by intro e;rw[e,Y]at hq;cases hq
       have Zs:=hS.at Y S L
       obtain⟨arr,T,fz,hh,ZM,ZH,N⟩:=Zs.heap
       have ZU:0<new.length:=xO.2 ZO
       have ZS:bW H.get (.bD r' 0 b.es.length none)=some (b.esz,(b.es.drop 0).take b.es.length):=by
        simp[bW,L,I]
       obtain⟨us0,C⟩:=lG (P:=P) hS ZG Q ZS
       have ZE:(b.es.drop 0).take b.es.length=b.es:=by simp
       rw[ZE]at C
       have V : ∀Zt:Map,(∀q,ι q=none->q≠⟨r'.d,r'.t,H.gen r'.d r'.t,0⟩->Zt q=none)->o6 Zt ((⟨r'.d,r'.t,H.gen r'.d r'.t,0⟩,some ⟨b.esz,b.es++new,true,b.fN⟩) :: H.put r' none):=by
        intro Zt ZL q lq Zz
        rw[I7 H r' _ (by rw[L];rfl)]
        cases hi:ι q with
        | some l0=>
         have:=hD q l0 hi
         split
         ·rename_i W;rw[<-W.1,<-W.2]at this;exact AQ this
         ·exact this
        | none=>
         by_cases Zy:q=⟨r'.d,r'.t,H.gen r'.d r'.t,0⟩
         ·subst Zy
          rw[if_pos ⟨rfl,rfl⟩]
          exact nD _
         ·rw[ZL q hi Zy]at Zz
          cases Zz
       by_cases U:b.es.length+new.length<=c
       ·
        have D:a.off=0:=by
         rcases ha with h | h
         ·omega
         ·simpa using h
        have ZQ:0+c<=l.n:=by
         rcases hn with h | h
         ·omega
         ·exact h
        have ZJ:a=⟨l.b,0,none⟩:=by rw[ik Zx,ZD,D]
        have J:0+b.es.length * b.esz+O.length<=arr.size:=by
         rw[m.len,ZM,qx,<-jH]
         exact jN _ (by omega)
        have B:=wK (P:=P) (w:=w) (ty:=ty) ht hu hz hb (b:=l.b) (o:=0) hA U E hh J ZH.1 m.one
        rw[qx]at B J
        obtain⟨h3,h4⟩:=DP (M:=M) (q:=⟨r'.d,r'.t,H.gen r'.d r'.t,0⟩) (k':=⟨b.esz,b.es++new,true,b.fN⟩) hS L Y hq (arr':=bQ arr (b.es.length * b.esz) O)
         ⟨arr,T,fz,hh,(gz J).symm,rfl⟩ rfl rfl I rfl
         (by
          intro o u ho ZV T1 ZZ Zw p
          rw[hh]at Zw;cases Zw
          rw[fR J,if_neg (by omega)]
          exact p)
         (by simp;omega) (by simp) (by
          intro K ZR
          rcases kY.1 ZR with h | h
          ·exact Zs.cells K h
          ·exact m.C4 K h)
         (by
          intro i j K x1 hi A
          rw[fR J]
          rcases dH i b.es.length with Zv | ZA
          ·rw[ia Zv]at hi
           have hj:j<b.esz:=by
            rw[<-Zs.cells K (eY hi)]
            exact(dE.1 A).1
           have:=zB Zv hj
           rw[if_neg (by omega)]
           obtain⟨u,p,ho,hv⟩:=N i j K x1 hi A
           rw[aJ.map,if_pos I]at hv
           exact⟨u,p,ho,hv⟩
          ·rw[iL ZA]at hi
           obtain⟨u,p,hv⟩:=m.vr _ j K x1 hi A
           have Zv:=(dE.1 p).1
           have ZW:b.es.length * b.esz<=i * b.esz:=jN _ ZA
           have ZY:(i - b.es.length) * b.esz=i * b.esz - b.es.length * b.esz:=AX _ _ _
           rw[if_pos (by omega),show i * b.esz+j - b.es.length * b.esz=(i - b.es.length) * b.esz+j by omega]
           exact⟨u,p,m.one u (eY p),hv⟩)
        refine⟨.slice (some a) (b.es.length+new.length) c,_,by rw[ZJ];exact B,M,_,?_,by rw[get_append H _ r' _ R];exact h3,by rw[get_append H _ r' _ R];exact h4,?_⟩
        ·exact .bD (l:=l) (by simp[iV]) ZD Zx (.inr (by rw[D];simp)) U (.inr ZQ) (by intro k hk;cases hk) S
        ·exact V _ (by intro q X Zu;simp[iV,Zu,X])
       ·
        obtain⟨zv,ZT,ZC⟩:=wY hz ZN ZK
        obtain⟨cap,w',F,B,Z⟩:=qG (P:=P) (w:=w) (ty:=ty) ht hu hz hb ZT ZC (vU (a:=some a) (len:=b.es.length) (c:=c) rfl rfl C) hA (by omega) E ZP
        obtain⟨h1,h2⟩:=vt (olds:=us0) (us:=O) (n1:=b.es.length) (n2:=new.length) (cap:=cap) C.len m.len ZC F
        obtain⟨h3,h4⟩:=Kc hS r'
        have v:=C.row.append m
        have G : ∀(i j:Nat) e x,(b.es++new)[i]?=some e->e.cells[j]?=some x ->∃u,(us0.toArray++O.toArray++Builtin.zeroCells zv.cells (cap - (b.es.length+new.length)))[i * b.esz+j]?=some u/\u.oneCell'=true/\VR M cQ x u:=by
         intro i j K x1 hi A
         obtain⟨u,p,hv⟩:=v.vr i j K x1 hi A
         exact⟨u,h2 _ _ p,v.one u (eY p),hv⟩
        obtain⟨h5,h6⟩:=h3.alloc (q:=⟨r'.d,r'.t,H.gen r'.d r'.t,0⟩) hq Z ⟨b.esz,b.es++new,true,b.fN⟩ Q cap h1 (xF.zero _ _) (by simpa using F) v.C4
         (by intro i j K x1 hi A;rw[aJ.map,if_pos rfl];exact G i j K x1 hi A)
        refine⟨_,w',B,M,_,?_,by rw[get_append H _ r' _ R];exact h5,by rw[get_append H _ r' _ R];exact h4.trans h6,?_⟩
        ·exact .bD (l:=⟨w.heap.size,b.esz,cap⟩) (by simp[iV]) rfl rfl (.inr (by simp)) F (.inr (by simp)) (by intro k hk;cases hk) Q
        ·exact V _ (by intro q X Zu;simp[iV,Zu,X])
      ·cases h
     ·cases h
   ·cases h
theorem FX{H:ab}(hS:eW M ι g w){ts:Array TypeId}{ty:TypeId}{s x y:AV}{us ux:Value}(hs:VR M ι s us)(hx:VR M ι x ux){H':ab}
 (ZK : ∀r',iY s=some r'->H.get r'≠none->g r'=H.get r') (ZL : ∀e p,kn P H.get e x=some p->kn P g e x=some p) (Y : ∀r',iY s=some r'->H.get r'≠none->ι ⟨r'.d,r'.t,H.gen r'.d r'.t,0⟩=none)
 (h:gT P H ts[0]? ts[1]? s x=some (y,H')) : ∃r' b k',iY s=some r'/\H.get r'=some b/\(⟨r'.d,r'.t,H.gen r'.d r'.t,0⟩:Ref)≠r'/\H'=(⟨r'.d,r'.t,H.gen r'.d r'.t,0⟩,some k') :: H.put r' none /\
  ∃u w' S,(Builtin.append_ ts ty #[us,ux]).run P w = .ok u w'/\VR M S y u/\eW M S (jx (oo g r') ⟨r'.d,r'.t,H.gen r'.d r'.t,0⟩ k') w'/\pN M ι g w M S (jx (oo g r') ⟨r'.d,r'.t,H.gen r'.d r'.t,0⟩ k') w' /\
   ∀q,ι q=none->q≠⟨r'.d,r'.t,H.gen r'.d r'.t,0⟩->S q=none:=by
 unfold gT at h
 split at h
 ·cases h
 ·rename_i e he
  simp only[fD]at he
  obtain⟨t,ht,he⟩:=he
  have hu:=fc he
  split at h
  ·cases h
  ·rename_i hc
   split at h
   ·rename_i z by' zz ez new hz hb ZM I
    split at h
    ·cases h
    ·rename_i f
     have ZG:ez=z:=rm.1 λh=>f (.inl h)
     have R:0<z:=ur λh=>f (.inr (.inl h))
     have ZO:0<by':=ur λh=>f (.inr (.inr (.inl h)))
     have ZN:new≠[]:=λh=>f (.inr (.inr (.inr (.inl h))))
     have ZI:zz.cells.length=z:=rm.1 λh=>f (.inr (.inr (.inr (.inr h))))
     subst ZG
     obtain⟨Q,m,hA⟩:=Cv (w:=w) hS hz R hx hc (ZL _ _ I)
     split at h
     ·rename_i r' Z0 len
      split at h
      ·rename_i b N
       obtain⟨⟨Zz,J,ZD,hlen,F⟩,h⟩:=dG.1 h
       injection h with h;injection h with h1 h2;subst h1;subst h2
       subst Zz
       subst hlen
       subst ZD
       have ZE:=hs
       cases hs with | bD Z ZB Zx ha ZX hn hk U=>
       rename_i l a c
       have hq:=Y r' rfl (by rw[N];simp)
       have W:g r'=some b:=by rw[ZK r' rfl (by rw[N];simp),N]
       have ZR:(⟨r'.d,r'.t,H.gen r'.d r'.t,0⟩:Ref)≠r':=by intro e;rw[e,Z]at hq;cases hq
       have Zt:=hS.at Z U W
       obtain⟨arr,T,fz,hh,ZJ,ZF,O⟩:=Zt.heap
       have ZU:0<new.length:=xO.2 ZN
       have ZS:bW g (.bD r' 0 b.es.length none)=some (b.esz,(b.es.drop 0).take b.es.length):=by
        simp[bW,W,J]
       obtain⟨us0,D⟩:=lG (P:=P) hS ZE R ZS
       have ZC:(b.es.drop 0).take b.es.length=b.es:=by simp
       rw[ZC]at D
       refine⟨r',b,⟨b.esz,b.es++new,true,b.fN⟩,rfl,N,ZR,rfl,?_⟩
       by_cases V:b.es.length+new.length<=c
       ·
        have E:a.off=0:=by
         rcases ha with h | h
         ·omega
         ·simpa using h
        have ZP:0+c<=l.n:=by
         rcases hn with h | h
         ·omega
         ·exact h
        have ZH:a=⟨l.b,0,none⟩:=by rw[ik Zx,ZB,E]
        have K:0+b.es.length * b.esz+Q.length<=arr.size:=by
         rw[m.len,ZJ,qx,<-jH]
         exact jN _ (by omega)
        have C:=wK (P:=P) (w:=w) (ty:=ty) ht hu hz hb (b:=l.b) (o:=0) hA V F hh K ZF.1 m.one
        rw[qx]at C K
        obtain⟨h3,h4⟩:=DP (M:=M) (q:=⟨r'.d,r'.t,H.gen r'.d r'.t,0⟩) (k':=⟨b.esz,b.es++new,true,b.fN⟩) hS W Z hq (arr':=bQ arr (b.es.length * b.esz) Q)
         ⟨arr,T,fz,hh,(gz K).symm,rfl⟩ rfl rfl J rfl
         (by
          intro o u ho ZV T1 ZZ Zw v
          rw[hh]at Zw;cases Zw
          rw[fR K,if_neg (by omega)]
          exact v)
         (by simp;omega) (by simp) (by
          intro L ZQ
          rcases kY.1 ZQ with h | h
          ·exact Zt.cells L h
          ·exact m.C4 L h)
         (by
          intro i j L x1 hi B
          rw[fR K]
          rcases dH i b.es.length with Zv | Zy
          ·rw[ia Zv]at hi
           have hj:j<b.esz:=by
            rw[<-Zt.cells L (eY hi)]
            exact(dE.1 B).1
           have:=zB Zv hj
           rw[if_neg (by omega)]
           obtain⟨u,v,ho,hv⟩:=O i j L x1 hi B
           rw[aJ.map,if_pos J]at hv
           exact⟨u,v,ho,hv⟩
          ·rw[iL Zy]at hi
           obtain⟨u,v,hv⟩:=m.vr _ j L x1 hi B
           have Zv:=(dE.1 v).1
           have ZW:b.es.length * b.esz<=i * b.esz:=jN _ Zy
           have ZY:(i - b.es.length) * b.esz=i * b.esz - b.es.length * b.esz:=AX _ _ _
           rw[if_pos (by omega),show i * b.esz+j - b.es.length * b.esz=(i - b.es.length) * b.esz+j by omega]
           exact⟨u,v,m.one u (eY v),hv⟩)
        refine⟨.slice (some a) (b.es.length+new.length) c,_,_,by rw[ZH];exact C,?_,h3,h4,?_⟩
        ·exact .bD (l:=l) (by simp[iV]) ZB Zx (.inr (by rw[E];simp)) V (.inr ZP) (by intro k hk;cases hk) U
        ·intro q X Zu;simp[iV,Zu,X]
       ·
        obtain⟨zv,ZT,ZA⟩:=wY hz ZM ZI
        obtain⟨cap,w',G,C,Zs⟩:=qG (P:=P) (w:=w) (ty:=ty) ht hu hz hb ZT ZA (vU (a:=some a) (len:=b.es.length) (c:=c) rfl rfl D) hA (by omega) F ZO
        obtain⟨h1,h2⟩:=vt (olds:=us0) (us:=Q) (n1:=b.es.length) (n2:=new.length) (cap:=cap) D.len m.len ZA G
        obtain⟨h3,h4⟩:=Kc hS r'
        have A:=D.row.append m
        have I : ∀(i j:Nat) e x,(b.es++new)[i]?=some e->e.cells[j]?=some x ->∃u,(us0.toArray++Q.toArray++Builtin.zeroCells zv.cells (cap - (b.es.length+new.length)))[i * b.esz+j]?=some u/\u.oneCell'=true/\VR M cQ x u:=by
         intro i j L x1 hi B
         obtain⟨u,v,hv⟩:=A.vr i j L x1 hi B
         exact⟨u,h2 _ _ v,A.one u (eY v),hv⟩
        obtain⟨h5,h6⟩:=h3.alloc (q:=⟨r'.d,r'.t,H.gen r'.d r'.t,0⟩) hq Zs ⟨b.esz,b.es++new,true,b.fN⟩ R cap h1 (xF.zero _ _) (by simpa using G) A.C4
         (by intro i j L x1 hi B;rw[aJ.map,if_pos rfl];exact I i j L x1 hi B)
        refine⟨_,w',_,C,?_,h5,h4.trans h6,?_⟩
        ·exact .bD (l:=⟨w.heap.size,b.esz,cap⟩) (by simp[iV]) rfl rfl (.inr (by simp)) G (.inr (by simp)) (by intro k hk;cases hk) R
        ·intro q X Zu;simp[iV,Zu,X]
      ·cases h
     ·cases h
   ·cases h
theorem Bt{H:ab}(I:eW M ι H.get w)(D:o6 ι H){d a:Nat}{t:TypeId}{n:Nat}{s:List (Nat × AV)}{qs:Array (Nat × Value)}{x:AV}{F:ab}
 (h:iM P H ⟨d,a,H.gen d a,0⟩ t n (some s)=some (x,F)) (W:s.length=qs.toList.length)
 (hp : ∀(i:Nat) p q,s[i]?=some p->qs.toList[i]?=some q->p.1=q.1/\VR M ι p.2 q.2) :
 ∃u w',(Instr.buildSlice t n qs).run P w = .ok u w'/\mT M ι H w x F u w':=by
 simp only[iM,aZ]at h
 obtain⟨b,J,h⟩:=h
 injection h with e1 L
 subst e1;subst L
 obtain⟨h1,h2,O,e,arr,X,V,h6⟩:=Cw I J W hp
 obtain⟨B,Q⟩:=vv (R:=ba H.get (s.map (·.2))) I
 have C:b=⟨b.esz,b.es,true,false⟩:=by cases b;simp_all
 have m:yU w (w.alloc (.cells arr e)) (.cells arr e (0,0)):=⟨rfl,rfl,rfl,rfl⟩
 have E:=D.fresh d a 0
 have j:=qv (r:=⟨d,a,H.gen d a,0⟩) B rfl E m h6 (λk u S=>by simpa using S) (n:=n) (c:=n) V (xF.zero _ _) (by omega) (aW _) (cap:=some n) (by intro k A;cases A;rfl) (Ae J)
 rw[O,<-C]at j
 have T:o6 ι (bG H (ba H.get (s.map (·.2)))):=by
  intro q l E
  rw[ab.fB]
  exact D q l E
 obtain⟨M',o,Y,N,U,Z⟩:=j
 have f:ab.get (((⟨d,a,H.gen d a,0⟩:Ref),some b) :: bG H (ba H.get (s.map (·.2))))=oQ (pI H.get (ba H.get (s.map (·.2)))) ⟨d,a,H.gen d a,0⟩ [b]:=by
  rw[nS _ _ rfl]
  funext q
  simp only[ab.get,ab.cB]
  unfold jx
  by_cases z:q=⟨d,a,H.gen d a,0⟩
  ·rw[if_pos z.symm,if_pos z]
  ·rw[if_neg (nE z),if_neg z]
 refine⟨_,_,X,M',o,Y,?_,?_,?_⟩
 ·show eW M' o (ab.get (_ :: _)) _
  rw[f];exact N
 ·show pN M ι H.get w M' o (ab.get (_ :: _)) _
  rw[f];exact Q.trans U
 ·intro q l v
  simp only[ab.gen,ab.fB]
  cases hi:ι q with
  | some K=>
   have:=D q K hi
   split
   ·rename_i G;rw[<-G.1,<-G.2]at this;exact AQ this
   ·exact this
  | none=>
   by_cases A:q=⟨d,a,H.gen d a,0⟩
   ·subst A
    rw[if_pos ⟨rfl,rfl⟩]
    exact nD _
   ·rw[Z q hi (λk y e=>A (by rw[e];simp at y;rw[y]))]at v
    cases v
theorem Row.sub{z es us}(h:Row M z es us)(n:Nat):Row M z (es.take n) (us.take (n * z)):=by
 refine⟨?_,λe a=>h.C4 e (uX a),λx b=>h.one x (uX b),?_⟩
 ·rw[lW,lW,h.len]
  rcases Nat.le_total n es.length with hle | hle
  ·rw[A9 hle,A9 (jN _ hle)]
  ·rw[HD hle,HD (jN _ hle)]
 ·intro i j e x a b
  rw[uW]at a
  split at a
  ·rename_i hi
   obtain⟨u,c,f⟩:=h.vr i j e x a b
   have d:j<z:=by
    rw[<-h.C4 e (eY a)]
    exact(dE.1 b).1
   refine⟨u,?_,f⟩
   rw[uW,if_pos (zB hi d)]
   exact c
  ·cases a
theorem Mt{H:ab}(hS:eW M ι H.get w)(hD:o6 ι H){ts:Array TypeId}{ty:TypeId}{s x y:AV}{us ux:Value}(hs:VR M ι s us)(hx:VR M ι x ux){H':ab}
 (h:FU P H ts[0]? s x=some (y,H')) : ∃u w',(Builtin.copy_ ts ty #[us,ux]).run P w = .ok u w'/\mT M ι H w y H' u w':=by
 unfold FU at h
 split at h
 ·cases h
 ·rename_i e he
  simp only[fD]at he
  obtain⟨t,ht,he⟩:=he
  have hu:=fc he
  split at h
  ·cases h
  ·rename_i z hz
   split at h
   ·cases h
   ·rename_i ez src C
    split at h
    ·cases h
    ·rename_i E
     have Zx:ez=z:=rm.1 λh=>E (.inl h)
     have Zw:0<z:=ur λh=>E (.inr h)
     subst Zx
     have Zs : ∃m,Src P M w ux ez src m:=by
      split at C
      ·rename_i hn
       injection C with C
       injection C with h1 V
       subst V
       have:ux = .slice none 0 0:=by
        cases hx<;>simp[jo]at hn
        split at hn<;>simp_all
       subst this
       exact⟨[],by simp,by simp,by simp,by intro i j e x h;simp at h,λw'=>rfl,λn w' ZF _=>by simp[Builtin.firstCells]⟩
      ·exact lG hS hx Zw C
     obtain⟨m,B⟩:=Zs
     split at h
     ·
      cases hs
      injection h with h;injection h with h1 V;subst h1;subst V
      have hf:=B.first 0 w (ui _) rfl
      have hl:=B.lenOf w
      refine⟨.int .i64 0,w,?_,M,ι,.v rfl,hS,pN.refl,hD⟩
      simp only[Nat.zero_mul,List.take_zero]at hf
      have hm:src.length.min 0=0:=Nat.min_zero _
      simp[Builtin.copy_,ht,aN hu,bP hz,hl,hm,hf,goInt]
     ·rename_i r' d len cap
      split at h
      ·rename_i b hb
       obtain⟨⟨N,Zv,Zy,hle⟩,h⟩:=dG.1 h
       injection h with h;injection h with h1 V;subst h1;subst V
       subst Zv
       cases hs with | bD Y Zz Zt ha ZD hn hk L=>
       rename_i l a c
       have A:=hS.at Y L hb
       obtain⟨arr,T,fz,hh,Z,X,I⟩:=A.heap
       obtain⟨n,F⟩ : ∃n,n=Nat.min src.length len:=⟨_,rfl⟩
       have U:n<=src.length:=by rw[F];exact Nat.min_le_left _ _
       have ZE:n<=len:=by rw[F];exact Nat.min_le_right _ _
       rw[<-F]
       have hf:=B.first n w U rfl
       have hl:=B.lenOf w
       have p:=B.row.sub n
       have J:(src.take n).length=n:=by rw[lW,A9 U]
       have Q:(m.take (n * b.esz)).length=n * b.esz:=by rw[p.len,J]
       have ZC:=A.len
       have f:d * b.esz+(m.take (n * b.esz)).length<=arr.size:=by
        rw[Q,Z,<-jH]
        exact jN _ (by omega)
       have Zu : ∀i,(b.es.take d++src.take n++b.es.drop (d+n))[i]?=if d<=i/\i<d+n then (src.take n)[i - d]? else b.es[i]?:=by
        intro i
        have:=GF (cs:=b.es) (new:=src.take n) (j:=d) (by rw[J];omega) i
        rw[J]at this
        rw[<-this]
        unfold patch
        rw[J]
       obtain⟨h3,h4⟩:=hS.write (k' := { b with es:=b.es.take d++src.take n++b.es.drop (d+n)}) hb Y L (arr:=bQ arr (d * b.esz) (m.take (n * b.esz))) (T:=T) (fz:=fz) rfl rfl rfl
        (by rw[gz f];exact Z) (by rw[gz f];exact X) (by simp;omega)
        (by
         intro G W
         simp only[kY]at W
         rcases W with (h | h) | h
         ·exact A.cells G (uX h)
         ·exact p.C4 G h
         ·exact A.cells G (zT h))
        (by
         intro o v S
         have:=(A.frozen o v S).1
         rw[Zy]at this
         cases this)
        (by
         intro i j G x1 hi R
         rw[aJ.map,if_pos N]
         simp only at hi
         rw[Zu i]at hi
         rw[fR f,Q]
         by_cases hr:d<=i/\i<d+n
         ·rw[if_pos hr]at hi
          obtain⟨u,D,S⟩:=p.vr (i - d) j G x1 hi R
          have ZA:=(dE.1 D).1
          rw[Q]at ZA
          have h5:d * b.esz<=i * b.esz:=jN _ hr.1
          have h6:(i - d) * b.esz=i * b.esz - d * b.esz:=AX _ _ _
          rw[if_pos (by omega),show i * b.esz+j - d * b.esz=(i - d) * b.esz+j by omega]
          exact⟨u,D,p.one u (eY D),S⟩
         ·rw[if_neg hr]at hi
          have hj:j<b.esz:=by
           rw[<-A.cells G (eY hi)]
           exact(dE.1 R).1
          rw[if_neg]
          ·obtain⟨u,D,ho,S⟩:=I i j G x1 hi R
           rw[aJ.map,if_pos N]at S
           exact⟨u,D,ho,S⟩
          ·intro ZB
           apply hr
           have ZG:d * b.esz+n * b.esz=(d+n) * b.esz:=(jH _ _ _).symm
           constructor
           ·rcases dH i d with h | h
            ·have:(i+1) * b.esz<=d * b.esz:=jN _ h
             rw[jH]at this
             omega
            ·exact h
           ·rcases dH i (d+n)with h | h
            ·exact h
            ·have:(d+n) * b.esz<=i * b.esz:=jN _ h
             omega)
       have K:(storeCells a (m.take (n * b.esz))).run P w = .ok () (bA w l.b (.cells (bQ arr (d * b.esz) (m.take (n * b.esz))) T fz)):=by
        by_cases h0:n=0
        ·have e0:m.take (n * b.esz)=[]:=by rw[h0];simp
         rw[e0]
         have G:bQ arr (d * b.esz) []=arr:=by simp[bQ]
         rw[G]
         have e2:bA w l.b (.cells arr T fz)=w:=by
          unfold bA
          have:w.heap.setIfInBounds l.b (.cells arr T fz)=w.heap:=by
           apply zS
           intro k
           by_cases hk:l.b=k
           ·subst hk;rw[hh,AT A.lt]
           ·rw[wC hk]
          rw[this]
         rw[e2]
         simp[storeCells]
        ·have O:a.off=d * b.esz:=by
          rcases ha with h | h
          ·omega
          ·rw[h,A.esz]
         have:=kA (P:=P) (d * b.esz) (m.take (n * b.esz)) 0 arr w hh (by simpa using f) X.1 p.one
         rw[uU]at this
         rw[ik Zt,Zz,O]
         exact this
       refine⟨.int .i64 n,_,?_,M,ι,.v rfl,by rw[ph];exact h3,by rw[ph];exact h4,?_⟩
       ·have hm:src.length.min len=n:=F.symm
        simp[Builtin.copy_,ht,aN hu,bP hz,hl,hm,hf,K,goInt]
       ·intro q lq hq
        rw[ab.fp _ _ _ (by rw[hb];rfl)]
        exact hD q lq hq
      ·cases h
     ·cases h
theorem KH{H:ab}(hS:eW M ι H.get w)(hD:o6 ι H){ts:Array TypeId}{ty:TypeId}{s x y:AV}{us ux:Value}(hs:VR M ι s us)(hx:VR M ι x ux){H':ab}
 (h:Bs P H ts[0]? s x=some (y,H')) : ∃u w',(Builtin.copy_ ts ty #[us,ux]).run P w = .ok u w'/\mT M ι H w y H' u w':=by
 unfold Bs at h
 split at h
 ·rename_i z r' d len cap r2 m tU ZR he
  simp only[fD]at he
  obtain⟨e,⟨t,ht,he⟩,hz⟩:=he
  have hu:=fc he
  split at h
  ·rename_i b b2 hb ZF
   obtain⟨⟨N,R,ZI,Z,ZK,ZL,ZP,K⟩,h⟩:=dG.1 h
   injection h with h;injection h with h1 h2;subst h1;subst h2
   subst ZI
   cases hs with | bD S ZM ZJ ha ZT hn Y D=>
   rename_i l a c
   cases hx with | bD ZB Zy X ZN Zt Zz ZX Zu=>
   rename_i l2 a2 V
   obtain⟨n,F⟩ : ∃n,n=Nat.min tU len:=⟨_,rfl⟩
   have ZE:n<=tU:=by rw[F];exact Nat.min_le_left _ _
   have ZV:n<=len:=by rw[F];exact Nat.min_le_right _ _
   rw[<-F]at K ⊢
   have ZD:VR M ι (.bD r2 m n none) (.slice (some a2) n V) := .bD ZB Zy X ZN (rk ZE Zt) Zz (λk Y=>by cases Y) Zu
   have ZA:bW H.get (.bD r2 m n none)=some (b2.esz,(b2.es.drop m).take n):=by
    simp only[bW,ZF]
    rw[if_pos ⟨R,K⟩]
   rw[Z]at ZA
   obtain⟨B,L⟩:=lG (P:=P) hS ZD ZK ZA
   have ZU:((b2.es.drop m).take n).length=n:=by rw[lW,lg];omega
   generalize (b2.es.drop m).take n=src at *
   have Zs:n<=src.length:=by omega
   have ZG:src.take n=src:=fC (by omega)
   suffices E : ∃u w',(Builtin.copy_ ts ty #[.slice (some a) len c,.slice (some a2) tU V]).run P w = .ok u w'/\mT M ι H w (.v (.int .i64 n)) (H.put r' (some { b with es:=b.es.take d++src.take n++b.es.drop (d+n)})) u w' by
    rw[ZG]at E;exact E
   have ZW:d+n<=l.n:=by
    rcases hn with h | h
    ·have:=(hS.at S D hb).len;omega
    ·omega
   have A:=hS.at S D hb
   obtain⟨arr,T,fz,hh,ZC,Zw,I⟩:=A.heap
   have hf:(Builtin.firstCells b.esz n (.slice (some a2) tU V)).run P w=_:=L.first n w Zs rfl
   have hl:(Builtin.lenOf (.slice (some a2) tU V)).run P w = .ok tU w:=by simp[Builtin.lenOf]
   have p:=L.row.sub n
   have Zx:(src.take n).length=n:=by rw[lW,A9 Zs]
   have Q:(B.take (n * b.esz)).length=n * b.esz:=by rw[p.len,Zx]
   have ZS:=A.len
   have f:d * b.esz+(B.take (n * b.esz)).length<=arr.size:=by
    rw[Q,ZC,<-jH]
    exact jN _ (by omega)
   have ZH : ∀i,(b.es.take d++src.take n++b.es.drop (d+n))[i]?=if d<=i/\i<d+n then (src.take n)[i - d]? else b.es[i]?:=by
    intro i
    have l1:(b.es.take d).length=d:=by rw[lW];omega
    by_cases c1:i<d
    ·rw[if_neg (by omega),pS,ia (by omega),List.getElem?_take_of_lt c1]
    ·by_cases V:i<d+n
     ·rw[if_pos ⟨by omega,V⟩,pS,iL (by omega),l1,ia (by omega)]
     ·rw[if_neg (by omega),iL (by rw[gG];omega),gG,l1,Zx,wA]
      congr 1;omega
   obtain⟨h3,h4⟩:=hS.write (k' := { b with es:=b.es.take d++src.take n++b.es.drop (d+n)}) hb S D (arr:=bQ arr (d * b.esz) (B.take (n * b.esz))) (T:=T) (fz:=fz) rfl rfl rfl
    (by rw[gz f];exact ZC) (by rw[gz f];exact Zw) (by simp only[gG,lW,lg];omega)
    (by
     intro G Zv
     simp only[kY]at Zv
     rcases Zv with (h | h) | h
     ·exact A.cells G (uX h)
     ·exact p.C4 G h
     ·exact A.cells G (zT h))
    (by
     intro o v W
     have:=(A.frozen o v W).1
     rw[ZL]at this
     cases this)
    (by
     intro i j G x1 hi U
     rw[aJ.map,if_pos N]
     simp only at hi
     rw[ZH i]at hi
     rw[fR f,Q]
     by_cases hr:d<=i/\i<d+n
     ·rw[if_pos hr]at hi
      obtain⟨u,C,W⟩:=p.vr (i - d) j G x1 hi U
      have ZO:=(dE.1 C).1
      rw[Q]at ZO
      have h5:d * b.esz<=i * b.esz:=jN _ hr.1
      have h6:(i - d) * b.esz=i * b.esz - d * b.esz:=AX _ _ _
      rw[if_pos (by omega),show i * b.esz+j - d * b.esz=(i - d) * b.esz+j by omega]
      exact⟨u,C,p.one u (eY C),W⟩
     ·rw[if_neg hr]at hi
      have hj:j<b.esz:=by
       rw[<-A.cells G (eY hi)]
       exact(dE.1 U).1
      rw[if_neg]
      ·obtain⟨u,C,ho,W⟩:=I i j G x1 hi U
       rw[aJ.map,if_pos N]at W
       exact⟨u,C,ho,W⟩
      ·intro ZQ
       apply hr
       have ZY:d * b.esz+n * b.esz=(d+n) * b.esz:=(jH _ _ _).symm
       constructor
       ·rcases dH i d with h | h
        ·have:(i+1) * b.esz<=d * b.esz:=jN _ h
         rw[jH]at this
         omega
        ·exact h
       ·rcases dH i (d+n)with h | h
        ·exact h
        ·have:(d+n) * b.esz<=i * b.esz:=jN _ h
         omega)
   have J:(storeCells a (B.take (n * b.esz))).run P w = .ok () (bA w l.b (.cells (bQ arr (d * b.esz) (B.take (n * b.esz))) T fz)):=by
    by_cases h0:n=0
    ·have e0:B.take (n * b.esz)=[]:=by rw[h0];simp
     rw[e0]
     have G:bQ arr (d * b.esz) []=arr:=by simp[bQ]
     rw[G]
     have e2:bA w l.b (.cells arr T fz)=w:=by
      unfold bA
      have:w.heap.setIfInBounds l.b (.cells arr T fz)=w.heap:=by
       apply zS
       intro k
       by_cases Y:l.b=k
       ·subst Y;rw[hh,AT A.lt]
       ·rw[wC Y]
      rw[this]
     rw[e2]
     simp[storeCells]
    ·have O:a.off=d * b.esz:=by
      rcases ha with h | h
      ·omega
      ·rw[h,A.esz]
     have:=kA (P:=P) (d * b.esz) (B.take (n * b.esz)) 0 arr w hh (by simpa using f) Zw.1 p.one
     rw[uU]at this
     rw[ik ZJ,ZM,O]
     exact this
   refine⟨.int .i64 n,_,?_,M,ι,.v rfl,by rw[ph];exact h3,by rw[ph];exact h4,?_⟩
   ·have hm:Nat.min tU len=n:=F.symm
    simp[Builtin.copy_,ht,aN hu,bP hz,hl,hm,hf,J,goInt]
   ·intro q lq hq
    rw[ab.fp _ _ _ (by rw[hb];rfl)]
    exact hD q lq hq
  ·cases h
 ·cases h
end
def tP(arr:Array Value)(z n:Nat):List AV:=(List.range n).map λi => .agg ((List.range z).map λj => .uP (arr.getD (i * z+j) Go.undef))
theorem Lu{arr:Array Value}{z n i j:Nat}{e x:AV}(a:(tP arr z n)[i]?=some e)(b:e.cells[j]?=some x):i<n/\j<z/\x = .uP (arr.getD (i * z+j) Go.undef):=by
 unfold tP at a
 rw[kJ]at a
 rcases dH i n with hi | hi
 ·rw[AR hi]at a
  cases a
  simp only[AV.cells,kJ]at b
  rcases dH j z with c | c
  ·rw[AR c]at b
   cases b
   exact⟨hi,c,rfl⟩
  ·rw[sn (by simpa using c)]at b
   cases b
 ·rw[sn (by simpa using hi)]at a
  cases a
theorem dU.uP{M:Mem}{ι:Map}{w:World}{l:Loc}{k:aJ}(h:dU M ι w l k) : ∃es:List AV,es.length=k.es.length/\(∀e∈es,e.cells.length=k.esz)/\dU M ι w l ⟨k.esz,es,true,k.fN⟩ /\
 ∀(i j:Nat) e x,es[i]?=some e->e.cells[j]?=some x ->∃u a c,x = .uP u/\k.es[i]?=some a/\a.cells[j]?=some c/\VR M (k.map ι) c u:=by
 obtain⟨arr,T,fz,z,s,t,y⟩:=h.heap
 have key : ∀(i j:Nat) e x,(tP arr k.esz k.es.length)[i]?=some e->e.cells[j]?=some x ->∃u a c,x = .uP u/\arr[i * k.esz+j]?=some u/\u.oneCell'=true/\k.es[i]?=some a/\a.cells[j]?=some c/\VR M (k.map ι) c u:=by
  intro i j e x b d
  obtain⟨hi,q,rfl⟩:=Lu b d
  have a:k.es[i]?=some k.es[i]:=cw hi
  have v:j<k.es[i].cells.length:=by rw[h.cells _ (gD hi)];exact q
  have n:k.es[i].cells[j]?=some k.es[i].cells[j]:=cw v
  obtain⟨u,m,f,p⟩:=y i j _ _ a n
  exact⟨u,_,_,by rw[xR,m];rfl,m,f,a,n,p⟩
 refine⟨tP arr k.esz k.es.length,by simp[tP],λe b=>?_,⟨h.esz,⟨arr,T,fz,z,s,t,λi j e x b d=>?_⟩,by simpa [tP] using h.len,λe b=>?_,λo x d=>by simpa [tP] using h.frozen o x d⟩,λi j e x b d=>?_⟩
 ·simp only[tP,kf]at b
  obtain⟨i,_,rfl⟩:=b
  simp[AV.cells]
 ·obtain⟨u,a,c,rfl,m,f,_⟩:=key i j e x b d
  exact⟨u,m,f,.uP f⟩
 ·simp only[tP,kf]at b
  obtain⟨i,_,rfl⟩:=b
  simp[AV.cells]
 ·obtain⟨u,a,c,b1,_,_,b2,b3,b4⟩:=key i j e x b d
  exact⟨u,a,c,b1,b2,b3,b4⟩
theorem eW.uP{M:Mem}{ι:Map}{H:ab}{w:World}(d:eW M ι H.get w){r:Ref}{k:aJ}(o:H.get r=some k)(D:k.arr=false)(v:0<k.esz) :
 ∃es:List AV,es.length=k.es.length/\(∀e∈es,e.cells.length=k.esz)/\eW M ι (H.put r (some ⟨k.esz,es,true,k.fN⟩)).get w /\
  ∀(i j:Nat) e x,es[i]?=some e->e.cells[j]?=some x ->∃u y p,x = .uP u/\k.es[i]?=some y/\y.cells[j]?=some p/\VR M ι p u:=by
 obtain⟨l,m,C⟩:=d.live r k o
 obtain⟨es,G,z,A,t⟩:=(C.cellsOk v).uP
 have I:k.map ι=ι:=by unfold aJ.map;rw[D];rfl
 rw[I]at t
 refine⟨es,G,z,⟨d.mem,λq b a=>?_,λq s b b' l F a f m h=>?_⟩,t⟩
 ·rw[ab.aj]at a
  split at a
  ·rename_i e
   cases a
   rw[e]
   exact⟨l,m,A.LY v⟩
  ·exact d.live q b a
 ·have : ∀q b,(H.put r (some ⟨k.esz,es,true,k.fN⟩)).get q=some b ->∃b',H.get q=some b':=by
   intro q b a
   rw[ab.aj]at a
   split at a
   ·rename_i e;rw[e];exact⟨k,o⟩
   ·exact⟨b,a⟩
  obtain⟨c,B⟩:=this q b a
  obtain⟨E,n⟩:=this s b' f
  exact d.inj q s c E l F B n m h
theorem mT.Ko{M:Mem}{ι:Map}{H H0 F K:ab}{w w':World}{x:Ref}{m:Nat}{cap:Option Nat}{k1:aJ}{u:Value}{es':List AV}
 (s : ∀q k,H0.get q=some k ->∃k',H.get q=some k') (h1:F.get x=some k1) (O:0<k1.esz) (D:k1.arr=true)
 (E:K.get x=some ⟨k1.esz,es',false,k1.fN⟩) (B : ∀q k,q≠x->K.get q=some k->F.get q=some k) (I : ∀d t,F.gen d t<=K.gen d t)
 (A:es'.length=k1.es.length) (X : ∀e∈es',e.cells.length=k1.esz)
 (J : ∀(M':Mem)(c:Map),(∀b o v,M b o=some v->M' b o=some v)->(∀q l,ι q=some l->c q=some l) ->∀(i j:Nat) e' x',es'[i]?=some e'->e'.cells[j]?=some x' ->
  ∃R N,k1.es[i]?=some R/\R.cells[j]?=some N /\∀u,VR M' cQ N u->VR M' c x' u)
 (hW:mT M ι H0 w (.bD x 0 m cap) F u w'):mT M ι H w (.dsl x 0 m cap) K u w':=by
 obtain⟨M',c,hv,Q,p,hD⟩:=hW
 have n : ∀q k,K.get q=some k ->∃k',F.get q=some k':=by
  intro q k hq
  by_cases e:q=x
  ·rw[e];exact⟨k1,h1⟩
  ·exact⟨k,B q k e hq⟩
 refine⟨M',c,?_,⟨Q.mem,?_,?_⟩,⟨p.os,p.tape,p.output,p.size,?_,p.mem,p.map,?_,?_⟩,?_⟩
 ·cases hv with | bD hr f hs D hc hn G O=>exact .dsl hr f hs D hc hn G O
 ·intro q k G
  by_cases e:q=x
  ·rw[e,E]at G
   cases G
   rw[e]
   obtain⟨l,y,f⟩:=Q.live x k1 h1
   refine⟨l,y,f.esz,λ_=>⟨f.esz,?_,?_,X,?_⟩,λe=>by simp only at e;omega,?_⟩
   ·obtain⟨arr,T,fz,a1,a2,a3,a4⟩:=(f.cellsOk O).heap
    refine⟨arr,T,fz,a1,a2,a3,λi j e x he E=>?_⟩
    obtain⟨R,N,b1,b2,b3⟩:=J M' c p.mem p.map i j e x he E
    obtain⟨u,c1,c2,c3⟩:=a4 i j R N b1 b2
    have hm:k1.map c=cQ:=by unfold aJ.map;rw[D];rfl
    rw[hm]at c3
    exact⟨u,c1,c2,b3 u c3⟩
   ·have:=(f.cellsOk O).len
    simp only
    omega
   ·intro o v Y
    have:=f.frozen o v Y
    simp only
    rw[A]
    exact this
   ·intro o v Y
    have:=f.frozen o v Y
    simp only
    rw[A]
    exact this
  ·exact Q.live q k (B q k e G)
 ·intro q q' k k' l l' h C y S
  obtain⟨a,D⟩:=n q k h
  obtain⟨b,f⟩:=n q' k' C
  exact Q.inj q q' a b l l' D f y S
 ·intro b f V
  exact p.chg b f λr k l h0 y=>by
   obtain⟨k',C⟩:=s r k h0
   exact V r k' l C y
 ·intro r k l h y
  obtain⟨a,D⟩:=n r k h
  rcases p.live r a l D y with z | ⟨L,k0,W,z,U,Z⟩
  ·exact .inl z
  ·obtain⟨k',C⟩:=s L k0 z
   exact .inr ⟨L,k',W,C,U,Z⟩
 ·intro b o x E
  rcases p.new b o x E with z | z | ⟨L,k0,W,z,U,Z⟩
  ·exact .inl z
  ·exact .inr (.inl z)
  ·obtain⟨k',C⟩:=s L k0 z
   exact .inr (.inr ⟨L,k',W,C,U,Z⟩)
 ·intro q l y
  exact xN (hD q l y) (I _ _)
theorem mT.deep{M:Mem}{ι:Map}{H C y z:ab}{w w':World}{x:Ref}{m:Nat}{cap:Option Nat}{k1:aJ}{u:Value}{es':List AV}
 (n : ∀q k,C.get q=some k ->∃k',H.get q=some k') (I:y.get x=some k1) (G:0<k1.esz) (F:k1.arr=true)
 (a : ∀q,z.get q=if q=x then some ⟨k1.esz,es',false,k1.fN⟩ else y.get q) (s : ∀d t,y.gen d t<=z.gen d t)
 (f:es'.length=k1.es.length) (A : ∀e∈es',e.cells.length=k1.esz)
 (c : ∀(M':Mem)(p:Map),(∀b o v,M b o=some v->M' b o=some v)->(∀q l,ι q=some l->p q=some l) ->∀(i j:Nat) e' x',es'[i]?=some e'->e'.cells[j]?=some x' ->
  ∃D B,k1.es[i]?=some D/\D.cells[j]?=some B /\∀u,VR M' cQ B u->VR M' p x' u)
 (E:mT M ι C w (.bD x 0 m cap) y u w'):mT M ι H w (.dsl x 0 m cap) z u w':=
 E.Ko n I G F (by rw[a,if_pos rfl]) (λq k e h=>by rw[a,if_neg e]at h;exact h) s f A c
section
variable{P:Program}{M:Mem}{ι:Map}{w:World}
theorem zC(r:Ref)(b:Option aJ)(H:ab)(q:Ref):ab.get ((r,b) :: H) q=if r=q then b else H.get q:=rfl
theorem Od(r:Ref)(b:Option aJ)(H:ab)(d t:Nat):ab.gen ((r,b) :: H) d t=if r.d=d/\r.t=t then r.g+1 else H.gen d t:=rfl
theorem HV{H:ab}(hS:eW M ι H.get w)(hD:o6 ι H){d o:Nat}{t:TypeId}{n:Nat}{vs:List (Nat × AV)}{qs:Array (Nat × Value)}{x:AV}{H':ab}
 (h:xT P H ⟨d,o,H.gen d o,0⟩ t n (some vs)=some (x,H')) (hl:vs.length=qs.toList.length)
 (hp : ∀(i:Nat) p q,vs[i]?=some p->qs.toList[i]?=some q->p.1=q.1/\VR M ι p.2 q.2) :
 ∃u w',(Instr.buildSlice t n qs).run P w = .ok u w'/\mT M ι H w x H' u w':=by
 unfold xT at h
 split at h
 ·rename_i cs e I he
  simp only[dc]at I
  subst I
  split at h
  ·rename_i z s hz hs
   obtain⟨T,hh⟩:=dG.1 h
   clear h
   obtain⟨Zx,h0,h1,h2,h3,h4,h5⟩:=T
   subst Zx
   injection hh with hh
   injection hh with g1 g2
   subst g1;subst g2
   obtain⟨q,F⟩ : ∃q,qs.toList=[q]:=List.length_eq_one_iff.1 hl.symm
   obtain⟨q1,D⟩:=hp 0 _ q rfl (by rw[F];rfl)
   obtain⟨k,X⟩:=q
   simp only at q1 D
   subst q1
   have b:=D.cells
   have Y:X.cells.size=s:=by have:=b.1;simp[AV.cells]at this;omega
   obtain⟨G,a⟩ : ∃G:List AV,G=X.cells.toList.map AV.uP:=⟨_,rfl⟩
   have m : ∀u∈X.cells.toList,u.oneCell'=true:=by
    intro u f
    obtain⟨i,hi⟩:=List.mem_iff_getElem?.1 f
    have Zw:=(dE.1 hi).1
    obtain⟨y,hy⟩ : ∃y,(AV.agg cs).cells[i]?=some y:=⟨_,cw (by rw[b.1];exact Zw)⟩
    refine(b.2 i y u hy hi).one ?_
    rw[da]at h5
    exact h5 y (eY hy)
   have L:VR M cQ (.agg G) (.agg X.cells):=by
    refine .agg (by rw[a];simp) λi c u T f=>?_
    rw[a,kJ]at T
    rw[<-AS]at f
    rw[f]at T
    cases T
    exact .uP (m u (eY f))
   obtain⟨it,Z,K,Zy,Zv⟩:=oA hz
   obtain⟨ie,R,ZE⟩:=qC hs
   rw[K]at R;cases R
   have W:=gp (M:=M) (ι:=cQ) Zv
   have Q:Z.cells.size=s:=by have:=W.cells.1;simp at this;omega
   have C:=Row.replicate W h2 h3 1
   have B:Row M s (List.replicate 1 z) ((Array.range (1 * s)).map (Z.cells[· % Z.cells.size]!)).toList:=by
    have:=rJ (zs:=Z.cells) (n:=1) (by omega)
    rw[Q]at this
    rw[Q,this]
    exact C
   have N : ∃us,X = .agg us:=by cases D with | agg hl h=>exact⟨_,rfl⟩
   obtain⟨us,rfl⟩:=N
   have Zt:(Value.agg us).cells=us:=rfl
   rw[Zt]at L Y a m b
   obtain⟨h7,l,h8,h9⟩:=yC (M:=M) [(0,AV.agg G)] [(0,Value.agg us)] (List.replicate 1 z) [.agg G] _ rfl B rfl (λi p q hp F=>by
    match i,hp,F with
    | 0,hp,F=>cases hp;cases F;exact⟨rfl,L⟩) (by
    intro p J
    simp only[pT]at J
    subst J
    refine⟨by simp[AV.cells,a,Y],?_⟩
    rw[a]
    simp[AV.cells,AV.one])
   have O:(Instr.buildSlice t 1 qs).run P w = .ok (.slice (some ⟨w.heap.size,0,none⟩) 1 1) (w.alloc (.cells l e)):=by
    have ZD : ¬16777216<1 * s:=by omega
    have Zu : ¬1 * s=0:=by omega
    simp only[Instr.buildSlice,Sem.run_bind,aN (fc he),Result.andThen_ok,bP hs,gt_iff_lt]
    rw[if_neg ZD,if_neg Zu]
    simp only[Sem.run_bind,zeroValue,typeInfo,K,Zy,run_program,Result.andThen_ok,Sem.run_pure,F,h8]
    simp[newRow]
   have v:yU w (w.alloc (.cells l e)) (.cells l e (0,0)):=⟨rfl,rfl,rfl,rfl⟩
   have U:l.size=1 * s:=by
    rw[<-wB,h9.len];rfl
   have Zz:=qv (r:=⟨d,o,H.gen d o,0⟩) hS rfl (hD.fresh d o 0) v h9 (λk u f=>by simpa using f) (n:=1) (c:=1) U (xF.zero _ _) (aW _) (aW _) (cap:=some 1) (by intro k E;cases E;rfl) h0
   have hW:=Zz.Si hD
   refine⟨_,_,O,hW.Ko (k1:=⟨s,[.agg G],true,false⟩) (es':=[.agg cs]) (λq k E=>⟨k,E⟩) ?_ h0 rfl ?_ ?_ ?_ rfl ?_ ?_⟩
   ·simp[keyed,ab.get]
   ·simp[ab.get]
   ·intro q k ZB E
    have S : ¬(⟨d,o,H.gen d o,0⟩:Ref)=q:=λe=>ZB e.symm
    simp only[ab.get,if_neg S,keyed]at E ⊢
    exact E
   ·intro d' t'
    exact aW _
   ·intro e he
    simp only[pT]at he
    subst he
    exact h4
   ·intro M' ZA hM ZC i j e' x' A V
    match i,A with
    | 0,A=>
     cases A
     have hj:=(dE.1 V).1
     obtain⟨u,f⟩ : ∃u,us.toList[j]?=some u:=⟨_,cw (by rw[<-b.1];exact hj)⟩
     refine⟨_,.uP u,rfl,by simp only[AV.cells,a,kJ,f];rfl,λu' Zs=>?_⟩
     have h6:=b.2 j x' u V f
     cases Zs with | uP _=>exact h6.mono hM ZA ZC
  ·cases h
 ·cases h
theorem Mu{H:ab}(hS:eW M ι H.get w)(hD:o6 ι H){d p:Nat}{ts:Array TypeId}{ty:TypeId}{s x y:AV}{us ux:Value}(hs:VR M ι s us)(hx:VR M ι x ux){H':ab}
 (h:JH P H ⟨d,p,H.gen d p,0⟩ ts[0]? ts[1]? s x=some (y,H')) : ∃u w',(Builtin.append_ ts ty #[us,ux]).run P w = .ok u w'/\mT M ι H w y H' u w':=by
 unfold JH at h
 split at h
 ·rename_i e B m cx he
  split at h
  ·cases h
  ·rename_i hc
   split at h
   ·rename_i z by' zz n hz V ZI C
    split at h
    ·cases h
    ·rename_i c
     have ZR:n.arr=false:=by
      cases hh:n.arr with
      | false=>rfl
      | true=>exact absurd (.inl hh) c
     have Zw:n.esz=z:=rm.1 λh=>c (.inr (.inl h))
     have ZP:z≠0:=λh=>c (.inr (.inr (.inl h)))
     have ZJ:by'≠0:=λh=>c (.inr (.inr (.inr (.inl h))))
     have ZW:n.es≠[]:=λh=>c (.inr (.inr (.inr (.inr (.inl h)))))
     have ZG:zz.cells.length=z:=rm.1 λh=>c (.inr (.inr (.inr (.inr (.inr (.inl h))))))
     have hm:m=n.es.length:=rm.1 λh=>c (.inr (.inr (.inr (.inr (.inr (.inr h))))))
     have Y : ∀e∈n.es,e.cells.length=z:=by
      obtain⟨l,_,V⟩:=hS.live B n C
      rw[<-Zw]
      exact(V.cellsOk (by omega)).cells
     obtain⟨a,U,a2,a3,a4⟩:=hS.uP C ZR (by omega)
     obtain⟨F,ZC⟩ : ∃F,F=H.put B (some ⟨n.esz,a,true,n.fN⟩):=⟨_,rfl⟩
     rw[<-ZC]at a3
     have O : ∀q,F.get q=if q=B then some ⟨n.esz,a,true,n.fN⟩ else H.get q:=λq=>by rw[ZC,ab.aj]
     have o : ∀d t,F.gen d t=H.gen d t:=λd t=>by rw[ZC,ab.fp _ _ _ (by rw[C];rfl)]
     have ZL:o6 ι F:=λq l hl=>by rw[o];exact hD q l hl
     have ZH:VR M ι (.bD B 0 m cx) ux:=by cases hx with | dsl hr V hs ha hc hn A hz=>exact .bD hr V hs ha hc hn A hz
     have ZO:F.get B=some ⟨n.esz,a,true,n.fN⟩:=by rw[O,if_pos rfl]
     have ZQ : ∀K:ab,K.get B=some ⟨n.esz,a,true,n.fN⟩->kn P K.get e (.bD B 0 m cx)=some (z,a):=by
      intro K hK
      have e1:(a.drop 0).take m=a:=by
       rw[y0,hm,<-U,wz]
      simp only[kn,bW,hK]
      rw[if_pos ⟨trivial,by omega⟩,e1,Zw]
     have Zs:a≠[]:=λh=>ZW (uu.1 (by rw[<-U,h];rfl))
     have ZN : ¬((ts[1]?.bind P.underlying).isNone=true\/(ts[1]?.map (isInt P)).getD false≠isNum (.bD B 0 m cx)):=hc
     have R : ∀q k,F.get q=some k ->∃k',H.get q=some k':=by
      intro q k I
      rw[O]at I
      split at I
      ·rename_i e;rw[e];exact⟨n,C⟩
      ·exact⟨k,I⟩
     split at h
     ·obtain⟨D,h⟩:=dG.1 h
      cases h
      have Zv:=hD.fresh d p 0
      have J:H.get ⟨d,p,H.gen d p,0⟩=none:=by
       cases hg:H.get ⟨d,p,H.gen d p,0⟩ with
       | none=>rfl
       | some b=>
        obtain⟨l,hl,_⟩:=hS.live _ _ hg
        rw[hl]at Zv;cases Zv
      have ZY:(⟨d,p,H.gen d p,0⟩:Ref)≠B:=λe=>by rw[e,C]at J;cases J
      have I:dy P F.get ⟨d,p,F.gen d p,0⟩ ts[0]? ts[1]? (.v (.slice none 0 0)) (.bD B 0 m cx)=some (.bD ⟨d,p,F.gen d p,0⟩ 0 a.length none,[⟨z,a,true,false⟩]):=by
       simp only[dy,he,if_neg ZN,hz,V,ZI,ZQ F ZO]
       rw[if_neg (λh=>h.elim (λh=>h rfl) λh=>h.elim ZP λh=>h.elim ZJ λh=>h ZG),if_neg Zs,if_pos (by rw[U,<-hm];exact D)]
      obtain⟨u,w',h5,h6⟩:=Cl (P:=P) (ty:=ty) a3 rfl (ZL.fresh d p 0) hs ZH I
      have hW:=h6.Si ZL
      rw[o,U,<-hm]at hW
      refine⟨u,w',h5,hW.Ko (k1:=⟨z,a,true,false⟩) (es':=n.es) R ?_ (by simp only;omega) rfl ?_ ?_ ?_ U.symm Y ?_⟩
      ·simp[keyed,ab.get]
      ·simp[ab.get]
      ·intro q k I A
       have L : ¬(⟨d,p,H.gen d p,0⟩:Ref)=q:=λe=>I e.symm
       simp only[keyed]
       rw[zC,if_neg L,ab.aj]at A
       rw[zC,if_neg L,O]
       split at A
       ·cases A
       ·rename_i ZE;rw[if_neg ZE];exact A
      ·intro d' t'
       simp only[keyed,Od,ab.fp _ _ _ (show(H.get B).isSome=true by rw[C];rfl),o]
       exact aW _
      ·intro M' Z hM Zx i j e' x' f S
       have hi:i<a.length:=by rw[U];exact(dE.1 f).1
       have g0:a[i]?=some a[i]:=cw hi
       have hj:j<a[i].cells.length:=by
        have h5:=(dE.1 S).1
        rw[Y _ (eY f)]at h5
        rw[a2 _ (gD hi)]
        omega
       have g1:a[i].cells[j]?=some a[i].cells[j]:=cw hj
       obtain⟨u,e2,x2,b1,b2,b3,b4⟩:=a4 i j _ _ g0 g1
       rw[f]at b2
       cases b2
       rw[S]at b3
       cases b3
       refine⟨_,_,g0,g1,λu' Q=>?_⟩
       rw[b1]at Q
       cases Q with | uP _=>exact b4.mono hM Z Zx
     ·rename_i r' len
      split at h
      ·rename_i b W
       obtain⟨⟨ZU,Zy,hlen,ZB,D⟩,h⟩:=dG.1 h
       cases h
       have Zt:F.get r'=some b:=by rw[O,if_neg ZB];exact W
       have ZK : ∀e∈b.es,e.cells.length=z:=by
        obtain⟨l,_,V⟩:=hS.live r' b W
        rw[<-Zy]
        exact(V.cellsOk (by omega)).cells
       obtain⟨N,c1,c2,c3,c4⟩:=a3.uP Zt ZU (by omega)
       obtain⟨G,Zz⟩ : ∃G,G=F.put r' (some ⟨b.esz,N,true,b.fN⟩):=⟨_,rfl⟩
       rw[<-Zz]at c3
       have X : ∀q,G.get q=if q=r' then some ⟨b.esz,N,true,b.fN⟩ else F.get q:=λq=>by rw[Zz,ab.aj]
       have E : ∀d t,G.gen d t=H.gen d t:=λd t=>by rw[Zz,ab.fp _ _ _ (by rw[Zt];rfl),o]
       have ZV:o6 ι G:=λq l hl=>by rw[E];exact hD q l hl
       have ZS:VR M ι (.bD r' 0 len none) us:=by cases hs with | dsl hr V hs ha hc hn A hz=>exact .bD hr V hs ha hc hn A hz
       have ZM:G.get r'=some ⟨b.esz,N,true,b.fN⟩:=by rw[X,if_pos rfl]
       have ZD:G.get B=some ⟨n.esz,a,true,n.fN⟩:=by rw[X,if_neg (λe=>ZB e.symm)];exact ZO
       have ZA : ∀q k,G.get q=some k ->∃k',H.get q=some k':=by
        intro q k I
        rw[X]at I
        split at I
        ·rename_i e;rw[e];exact⟨b,W⟩
        ·exact R q k I
       have hw:gT P G ts[0]? ts[1]? (.bD r' 0 len none) (.bD B 0 m cx)=some (.bD ⟨r'.d,r'.t,G.gen r'.d r'.t,0⟩ 0 (len+a.length) none,(⟨r'.d,r'.t,G.gen r'.d r'.t,0⟩,some ⟨z,N++a,true,b.fN⟩) :: G.put r' none):=by
        simp only[gT,he,if_neg ZN,hz,V,ZI,ZQ G ZD]
        rw[if_neg (λh=>h.elim (λh=>h rfl) λh=>h.elim ZP λh=>h.elim ZJ λh=>h.elim Zs λh=>h ZG)]
        simp only[ZM]
        rw[if_pos ⟨trivial,trivial,Zy,by rw[c1];exact hlen,by rw[U,<-hm];exact D⟩]
       obtain⟨u,w',h5,hW⟩:=Bu (P:=P) (ty:=ty) c3 ZV ZS ZH hw
       rw[E,U,<-hm]at hW
       have ZF : ∀e∈b.es++n.es,e.cells.length=z:=λe he=>(kY.1 he).elim (ZK e) (Y e)
       refine⟨u,w',h5,hW.Ko (k1:=⟨z,N++a,true,b.fN⟩) (es':=b.es++n.es) ZA ?_ (by simp only;omega) rfl ?_ ?_ ?_ (by simp only[gG,U,c1]) ZF ?_⟩
       ·rw[zC,if_pos rfl]
       ·rw[zC,if_pos rfl]
       ·intro q k I A
        have L : ¬(⟨r'.d,r'.t,H.gen r'.d r'.t,0⟩:Ref)=q:=λe=>I e.symm
        rw[zC,if_neg L,ab.aj]at A
        rw[zC,if_neg L,ab.aj]
        split at A
        ·cases A
        ·rename_i n1
         rw[ab.aj]at A
         split at A
         ·cases A
         ·rename_i n2
          rw[if_neg n1,X,if_neg n1,O,if_neg n2]
          exact A
       ·intro d' t'
        have s1:(H.get B).isSome=true:=by rw[C];rfl
        have s2:((H.put B none).get r').isSome=true:=by rw[ab.aj,if_neg ZB,W];rfl
        have s3:(G.get r').isSome=true:=by rw[ZM];rfl
        simp only[Od,ab.fp _ _ _ s2,ab.fp _ _ _ s1,ab.fp _ _ _ s3,E]
        exact aW _
       ·intro M' Z hM Zx i j e' x' f S
        have Zu : ∀ {k:aJ} {T:List AV} (i:Nat),T.length=k.es.length->(∀e∈T,e.cells.length=k.esz)->(∀e∈k.es,e.cells.length=k.esz)->(∀(i j:Nat) e x,T[i]?=some e->e.cells[j]?=some x ->∃u e0 x0,x = .uP u/\k.es[i]?=some e0/\e0.cells[j]?=some x0/\VR M ι x0 u) ->
         k.es[i]?=some e' ->∃e1 x1,T[i]?=some e1/\e1.cells[j]?=some x1 /\∀u,VR M' cQ x1 u->VR M' Z x' u:=by
         intro k T i l1 l2 l4 l3 f
         have hi:i<T.length:=by rw[l1];exact(dE.1 f).1
         have g0:T[i]?=some T[i]:=cw hi
         have hj:j<T[i].cells.length:=by
          have h5:=(dE.1 S).1
          rw[l4 _ (eY f)]at h5
          rw[l2 _ (gD hi)]
          exact h5
         have g1:T[i].cells[j]?=some T[i].cells[j]:=cw hj
         obtain⟨u,e2,x2,b1,b2,b3,b4⟩:=l3 i j _ _ g0 g1
         rw[f]at b2
         cases b2
         rw[S]at b3
         cases b3
         refine⟨_,_,g0,g1,λu' Q=>?_⟩
         rw[b1]at Q
         cases Q with | uP _=>exact b4.mono hM Z Zx
        rcases dH i b.es.length with ZX | ZT
        ·rw[ia ZX]at f
         obtain⟨e1,x1,g1,g2,g3⟩:=Zu (k:=b) i c1 c2 (by rw[Zy];exact ZK) c4 f
         exact⟨e1,x1,by rw[ia (by omega)];exact g1,g2,g3⟩
        ·rw[iL ZT]at f
         obtain⟨e1,x1,g1,g2,g3⟩:=Zu (k:=n) (i - b.es.length) U a2 (by rw[Zw];exact Y) a4 f
         exact⟨e1,x1,by rw[iL (by omega),c1];exact g1,g2,g3⟩
      ·cases h
     ·cases h
   ·cases h
 ·cases h
end
end
end Go.Ab
