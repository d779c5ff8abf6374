/-
  What the abstract machine's quiet operations give is what the model's give: the first part. No statement of a seat is proved here.
  What the abstract machine's quiet operations give is what the model's give: the second part. No statement of a seat is proved here.
  What the abstract machine's quiet operations give is what the model's give: the third part. No statement of a seat is proved here.
  What the abstract machine's quiet operations give is what the model's give: new rows. No statement of a seat is proved here.
  What the abstract machine's quiet operations give is what the model's give: appends, and what is left. No statement of a seat is proved here.
  What the abstract machine's quiet operations give is what the model's give: what is left but calls. No statement of a seat is proved here.
  What the abstract machine's operations give is what the model's give: appends, stores, copies. No statement of a seat is proved here.
  What the abstract machine's writing operations give is what the model's give. No statement of a seat is proved here.
  What the abstract machine's writing operations give is what the model's give: the second part. No statement of a seat is proved here.
-/
import Derived.Lib.Overlaps
import Derived.Lib.SliceRun
import Derived.WalkSpells
import Derived.Test.YtmkmimgokagimaaGreatAbsCore
set_option linter.unusedVariables false
set_option linter.unusedSimpArgs false
set_option linter.unusedSectionVars false
set_option linter.unnecessarySimpa false
namespace Go.Ab
def sX(g:da)(r:Ref)(a:List bz):da:=λq=>if q.d=r.d/\q.t=r.t/\q.g=r.g/\q.k<a.length then a[q.k]? else g q
theorem ng(g:da)(r:Ref):sX g r []=g:=by funext q;simp[sX]
theorem rP(g:da)(r:Ref)(a:r.k=0)(b:bz):sX g r [b]=lI g r b:=by
 funext q
 unfold sX lI
 by_cases h:q=r
 ·subst h;simp[a]
 ·rw[if_neg h,if_neg]
  intro c
  apply h
  cases q;cases r
  simp_all
structure TR (M:Mem) (ι:Map) (tm:List AV) (a:Act):Prop where
 at_ : ∀t,VR M ι (dH tm t) (a.tmps.getD t undef)
theorem TR.mono{M ι tm a M' ι'}(h:TR M ι tm a)(d : ∀b o x,M b o=some x->M' b o=some x)(c : ∀r l,ι r=some l->ι' r=some l):TR M' ι' tm a:=
 ⟨λt=>(h.at_ t).mono d ι' c⟩
theorem aY{M ι tm a}(h:TR M ι tm a){x:Operand}{y:AV}(b:aO tm x=some y):VR M ι y (a.eval x):=by
 cases x with
 | tmp t=>simp[aO]at b;subst b;exact h.at_ t
 | const v=>simp only[aO]at b;exact jN b
 | global g=>simp[aO]at b
 | func f=>simp[aO]at b;subst b;exact .fn rfl rfl (λi c u d=>by simp at d) (λi c u d=>by simp at d)
theorem np{M ι tm a}(h:TR M ι tm a){xs:List Operand}{ys:List AV}(d:xs.mapM (aO tm)=some ys):mc M ι ys (xs.map a.eval):=
 ⟨by simpa using jT d,λi y u e c=>by
  obtain⟨x,b,f⟩:=rp d i y e
  simp only[oS,b,Option.map_some,dW]at c
  subst c
  exact aY h f⟩
def jx(M:Mem)(ι:Map)(g:da)(w:World)(r:Ref)(x:AV)(b:List bz)(u:Value)(w':World):Prop:=
 ∃M' a,VR M' a x u/\ic M' a (sX g r b) w'/\uh M ι g w M' a (sX g r b) w' /\∀q,ι q=none->(∀k,k<b.length->q ≠ { r with k:=k})->a q=none
theorem jx.same{M ι g w r x u}(b:ic M ι g w)(h:VR M ι x u):jx M ι g w r x [] u w:=
 ⟨M,ι,h,by rw[ng];exact b,by rw[ng];exact uh.refl,λq a _=>a⟩
theorem ic.drew{M ι g w w'}(a:ic M ι g w)(d:w'.heap=w.heap):ic M ι g w':=
 ⟨λb o x h=>by rw[World.cell?_of_block (w:=w) (by rw[d])];exact a.mem b o x h,λr k h=>by
  obtain⟨l,e,c⟩:=a.live r k h
  exact⟨l,e,c.cr (λ_ _ _ h=>h) (λ_ _ h=>h) (by rw[d]) c.frozen⟩,a.inj⟩
def FW(ro:Option Nat):Fence := { Fence.wide with round:=ro}
def eM(P:Program)(o:Oper)(a:Act)(w:World)(S:Value->World->Prop):Prop:=
 ∀(ro:Option Nat)(K:Act->World->Prop)(Q:Exit->Act->World->Prop),(∀u w',S u w'->K (a.put o.dst u) w')->o.wpIn (FW ro) 0 P a w K Q
theorem AZ{P:Program}{o:Oper}{a:Operand->Value}{w w':World}{x:Next}(ro:Option Nat)(h:(execOp a o).run P w = .ok x w')(k : ∀d,x ≠ .defer d):(Oper.semAt ro a o).run P w = .ok x w':=by
 by_cases f : ∃c,o.op = .defer c
 ·exfalso
  obtain⟨c,b⟩:=f
  simp only[execOp,b]at h
  rw[Sem.run_bind]at h
  cases i:(resolve a c o.type).run P w with
  | ok d j=>rw[i]at h;simp only[Result.andThen_ok,Sem.run_pure,Result.ok.injEq]at h;exact k _ h.1.symm
  | halt e j=>rw[i]at h;cases h
 ·rw[Oper.semAt_eq ro a o λc b=>f ⟨c,b⟩]
  exact h
theorem eM.of_run{P o a w S u w'}(b:(execOp a.eval o).run P w = .ok (.value u) w')(h:S u w'):eM P o a w S:=by
 intro ro K Q c
 refine⟨λ_ _=>trivial,?_⟩
 rw[AZ (x := .value u) (FW ro).round b (by intro d e;cases e)]
 exact c _ _ h
theorem eM.Fe{P o a w S w'}(b:(execOp a.eval o).run P w = .ok .skip w')(h:S undef w'):eM P o a w S:=by
 intro ro K Q c
 refine⟨λ_ _=>trivial,?_⟩
 rw[AZ (x := .skip) (FW ro).round b (by intro d e;cases e)]
 exact c _ _ h
theorem eM.GL{P o a w S f args w0}(i:(execOp a.eval o).run P w = .ok (.enter f args) w0)(h:Calls P f args w0 λe w' =>∃u,e = .returned u/\S u w'):eM P o a w S:=by
 intro ro K Q j
 refine⟨λ_ _=>trivial,?_⟩
 rw[AZ (x := .enter f args) (FW ro).round i (by intro d e;cases e)]
 refine⟨λh=>absurd h (by simp[FW,Fence.wide]),?_⟩
 have c:CallsIn Fence.wide 0 P f args w0 λe w' =>∃u,e = .returned u/\S u w':=callsIn_wide.2 h
 have b:CallsIn (FW ro) (0 - 1) P f args w0 λe w' =>∃u,e = .returned u/\S u w':=c
 refine b.mono λe w' ⟨u,he,hS⟩=>?_
 subst he
 exact j _ _ hS
theorem eM.Uk{P o a w S l f tmps assign body w0}(c:(execOp a.eval o).run P w = .ok (.round l f tmps assign body) w0)(h:RoundIn (FW none) 0 P l f tmps assign body w0 λe w' =>∃u,e = .returned u/\S u w'):eM P o a w S:=by
 intro ro K Q i
 refine⟨λ_ _=>trivial,?_⟩
 rw[AZ (x := .round l f tmps assign body) (FW ro).round c (by intro d e;cases e)]
 refine⟨λh=>absurd h (by simp[FW,Fence.wide]),?_⟩
 have b:RoundIn (FW ro) (0 - 1) P l f tmps assign body w0 λe w' =>∃u,e = .returned u/\S u w':=h
 refine b.mono λe w' ⟨u,he,hS⟩=>?_
 subst he
 exact i _ _ hS
theorem put_defers(a:Act)(d:Option Tmp)(u:Value):(a.put d u).defers=a.defers:=by cases d<;>rfl
theorem IL{P:Program}{s:Sem Value}{w w':World}{u:Value}(h:s.run P w = .ok u w'):(do pure (Next.value (<-s)):Sem Next).run P w = .ok (.value u) w':=by
 simp[h]
section
variable{P:Program}{M:Mem}{ι:Map}{g:da}{w:World}{r:Ref}
theorem Bc{x:AV}{u:Value}{b:Bool}(h:VR M ι x u)(a:Ed x=some b):u = .bool b:=by
 cases h<;>simp[Ed]at a
 split at a<;>simp_all
theorem xW{x:AV}{u:Value}{n:Int}(h:VR M ι x u)(a:Ab.intOf x=some n) : ∃k,u = .int k n:=by
 cases h<;>simp[Ab.intOf]at a
 split at a<;>simp_all
theorem Uv(C:ic M ι g w)(m:r.k=0)(D:ι r=none){e:TypeId}{n:Nat}{x:AV}{u:Value}(A:VR M ι x u)(t:x.cells.length=n)(h:x.cells.all AV.one=true)(o:0<n) :
 ∃w',(Instr.box e u).run P w = .ok (.pointer (some ⟨w.heap.size,0,none⟩)) w'/\jx M ι g w r (.ptr r 0 0) [⟨n,[x],false,false⟩] (.pointer (some ⟨w.heap.size,0,none⟩)) w':=by
 have a:=A.cells
 have d:u.cells.size=n:=by have:=a.1;simp at this;omega
 obtain⟨E,v⟩:=C.alloc (q:=r) D (w':=w.alloc (.cells u.cells e)) (arr:=u.cells) (T:=e) (fz:=(0,0)) ⟨rfl,rfl,rfl,rfl⟩ ⟨n,[x],false,false⟩ o 1 (by simpa using d) (Dl.zero _ _) (by simp) (by simp[t])
  (by
   intro i j G y f b
   cases i with
   | succ i=>simp at f
   | zero=>
    simp at f
    subst f
    have p:j<u.cells.size:=by have:=(iN.1 b).1;omega
    refine⟨u.cells[j],by simp,?_,?_⟩
    ·have F:=a.2 j y u.cells[j] b (by simp[p])
     exact F.one (by simp only[gD]at h;exact h y (fL b))
    ·simpa [bz.map] using a.2 j y u.cells[j] b (by simp[p]))
 refine⟨w.alloc (.cells u.cells e),by simp[Instr.box,newVar,newRow],M,_,?_,by rw[rP _ _ m];exact E,by rw[rP _ _ m];exact v,?_⟩
 ·have:=VR.ptr (M:=M) (ι:=kD ι r ⟨w.heap.size,n,1⟩) (r:=r) (i:=0) (j:=0) (l:=⟨w.heap.size,n,1⟩) (by simp[kD]) o
  simpa using this
 ·intro q c z
  have:q≠r:=by intro e;exact z 0 (by simp) (by rw[e];cases r;simp_all)
  simpa [kD,this] using c
theorem Rw(c:ic M ι g w)(m:r.k=0)(d:ι r=none){e:TypeId}{x:AV}{b:List bz}(h:wV P r e=some (x,b)) :
 ∃u w',(Instr.alloc e true (.tuple #[])).run P w = .ok u w'/\jx M ι g w r x b u w':=by
 unfold wV at h
 split at h
 ·rename_i z n j o
  split at h
  ·rename_i a
   cases h
   obtain⟨u,hu,l⟩:=xL j w
   obtain⟨w',f,i⟩:=Uv (P:=P) (e:=e) c m d (jN l) a.1 a.2.1 a.2.2
   refine⟨_,w',?_,i⟩
   have:(Instr.alloc e true (.tuple #[])).run P w=(Instr.box e u).run P w:=by simp[Instr.alloc,hu,Instr.box]
   rw[this];exact f
  ·cases h
 ·cases h
theorem WN(d:ic M ι g w)(o:r.k=0)(i:ι r=none){e:TypeId}{y x:AV}{c:Value}(j:VR M ι y c){b:List bz}(h:J4 P r e (some y)=some (x,b)) :
 ∃u w',(Instr.box e c).run P w = .ok u w'/\jx M ι g w r x b u w':=by
 unfold J4 at h
 split at h
 ·rename_i q n f p
  cases f
  split at h
  ·rename_i a
   cases h
   obtain⟨w',l,m⟩:=Uv (P:=P) (e:=e) d o i j a.1 a.2.1 a.2.2
   exact⟨_,w',l,m⟩
  ·cases h
 ·cases h
theorem TU(f:ic M ι g w){t:TypeId}{y x:AV}{m:Value}(l:VR M ι y m){k:List bz}(h:tD P g t (some y)=some (x,k)) :
 k=[] /\∃u,(Instr.loadAt t m).run P w = .ok u w/\VR M ι x u:=by
 unfold tD at h
 split at h
 ·rename_i r' i j q n a d e
  cases a
  split at h
  ·rename_i b o
   simp only[jQ,bO]at h
   obtain⟨p,c,a⟩:=h
   cases a
   exact⟨rfl,P1 d e f l o c⟩
  ·cases h
 ·rename_i esz es i j q n a d e
  cases a
  simp only[jQ,bO]at h
  obtain⟨p,c,a⟩:=h
  cases a
  exact⟨rfl,UX d e f.mem l c⟩
 ·cases h
theorem PV{t:TypeId}{cs:List AV}{c:Array Value}{a:Nat}{x:AV}(f:mc M ι cs c.toList)(h:Au P t cs a=some x) : ∃u,(part t c a).run P w = .ok u w/\VR M ι x u:=by
 unfold Au at h
 split at h
 ·rename_i n d i
  split at h
  ·rename_i k
   cases h
   refine⟨.agg (c.extract a (a+n)),by simp[part,A1 d,run_sizeOf i],VR.rO.2 ?_⟩
   have:=(f.drop a).take n
   have e:(c.extract a (a+n)).toList=(c.toList.drop a).take n:=by
    rw[NH,NQ,JA]
   rw[e]
   exact this
  ·cases h
 ·rename_i d
  have j:=(iN.1 h).1
  have b:a<c.size:=by have:=f.1;simp at this;omega
  refine⟨c[a],by simp[part,A1 d,jY b],f.2 a x _ h (by simp[b])⟩
 ·cases h
theorem VR.Qu{cs:List AV}{u:Value}(h:VR M ι (.agg cs) u) : ∃a,u = .agg a/\mc M ι cs a.toList:=by
 cases h with | agg b c=>exact⟨_,rfl,VR.rO.1 (.agg b c)⟩
theorem Iz{t:TypeId}{f a:Nat}{ft:TypeId}(h:oc P t f=some (a,ft)) : ∃b fd,P.underlying t=some (.struct b)/\b[f]?=some fd/\fd.offset=a/\fd.type=ft:=by
 unfold oc at h
 split at h
 ·rename_i b c
  simp only[bO]at h
  obtain⟨fd,d,he⟩:=h
  cases he
  exact⟨b,fd,c,d,rfl,rfl⟩
 ·cases h
theorem Ru{t:TypeId}{f:Nat}{y x:AV}{e:Value}(j:VR M ι y e){d:List bz}(h:tT P t (some y) f=some (x,d)) :
 d=[] /\∃u,(Instr.field t e f).run P w = .ok u w/\VR M ι x u:=by
 unfold tT at h
 split at h
 ·rename_i i ft cs l b
  cases b
  simp only[jQ,bO]at h
  obtain⟨p,c,b⟩:=h
  cases b
  obtain⟨q,rfl,a⟩:=j.Qu
  obtain⟨o,fd,k,m,rfl,rfl⟩:=Iz l
  obtain⟨u,hu,n⟩:=PV (w:=w) a c
  exact⟨rfl,u,by simp[Instr.field,bB k,m,asAgg,hu],n⟩
 ·cases h
theorem G7{t:TypeId}{f a s:Nat}(h:aD P t f=some (a,s)) : ∃b fd,P.underlying t=some (.struct b)/\b[f]?=some fd/\fd.offset=a/\aL P fd.type=some s:=by
 unfold aD at h
 split at h
 ·rename_i c ft j
  simp only[bO]at h
  obtain⟨n,d,he⟩:=h
  cases he
  obtain⟨b,fd,e,k,i,l⟩:=Iz j
  exact⟨b,fd,e,k,i,l ▸ d⟩
 ·cases h
theorem HS{t:TypeId}{f:Nat}{y x:AV}{c:Value}(m:VR M ι y c){k:List bz}(h:jM P t (some y) f=some (x,k)) :
 k=[] /\∃u,(Instr.fieldAt t c f).run P w = .ok u w/\VR M ι x u:=by
 unfold jM at h
 split at h
 ·rename_i q s D
  obtain⟨F,fd,z,E,rfl,A⟩:=G7 D
  split at h
  ·rename_i G
   have p : ∀(b o:Nat),c = .pointer (some ⟨b,o,none⟩)->(Instr.fieldAt t c f).run P w = .ok (.pointer (some ⟨b,o+fd.offset,none⟩)) w:=by
    intro b o e
    subst e
    simp[Instr.fieldAt,bB z,E,Instr.sureAddr,fieldPlace,run_sizeOf A,show s≠0 by omega,iL]
   split at h
   ·rename_i r' i j a
    cases a
    cases h
    cases m with | ptr C d=>
    rename_i l
    exact⟨rfl,_,p _ _ rfl,by rw[Jp];exact .ptr C d⟩
   ·rename_i n es i j a
    cases a
    cases h
    cases m with | iptr cell hm a v=>
    rename_i b o
    exact⟨rfl,_,p _ _ rfl,by rw[show o+(i * n+j)+fd.offset=o+(i * n+(j+fd.offset)) by omega];exact .iptr cell hm a v⟩
   ·cases h
  ·cases h
 ·cases h
theorem iI{t e:TypeId}(h:ei P t=some e):P.underlying t=some (.slice e):=by
 unfold ei at h
 split at h
 ·cases h;assumption
 ·cases h
theorem E9{t e:TypeId}{n:Nat}(h:lx P t=some (n,e)):P.underlying t=some (.array n e):=by
 unfold lx at h
 split at h
 ·cases h;assumption
 ·cases h
theorem HR(hS:ic M ι g w){t:TypeId}{y z x:AV}{G U:Value}(F:VR M ι y G)(hz:VR M ι z U){T:List bz}(h:eg P g t (some y) (some z)=some (x,T)) :
 T=[] /\∃u,(Instr.indexAt t G U).run P w = .ok u w/\VR M ι x u:=by
 unfold eg at h
 simp only[fH]at h
 split at h
 ·rename_i k Z
  obtain⟨ki,rfl⟩:=xW hz Z
  split at h
  ·rename_i e O
   have E:=iI O
   split at h
   ·rename_i esz es cap s d q
    cases d
    split at h
    ·rename_i m
     obtain⟨R,v,rfl⟩:=m
     cases h
     cases F with | bW cell f L K hm J I=>
     rename_i a c
     refine⟨rfl,.pointer (some (a.add (k.toNat * s))),?_,?_⟩
     ·simp[Instr.indexAt,asIntOf,bB E,R,v,run_sizeOf q]
     ·have f:=f.resolve_right (by intro e;subst e;simp at v;omega)
      rw[lG f,iL]
      have:=VR.iptr (M:=M) (ι:=ι) (i:=k.toNat) (j:=0) (b:=a.block) (o:=a.off) cell hm J I
      simpa using this
    ·cases h
   ·rename_i r' A len cap s d q
    cases d
    split at h
    ·rename_i b X
     split at h
     ·rename_i m
      obtain⟨R,v,S⟩:=m
      cases h
      cases F with | cL W H f N L hn K p=>
      rename_i l a c
      obtain⟨l',C,Q⟩:=hS.live r' b X
      rw[W]at C;cases C
      refine⟨rfl,.pointer (some (a.add (k.toNat * s))),?_,?_⟩
      ·simp[Instr.indexAt,asIntOf,bB E,R,v,run_sizeOf q]
      ·have D:a.off=A * l.esz:=by
        rcases N with h | h
        ·omega
        ·exact h
       rw[lG f,iL,H,D,S,<-Q.esz,<-m5]
       have:=VR.ptr (M:=M) (ι:=ι) (i:=A+k.toNat) (j:=0) W p
       simpa using this
     ·cases h
    ·cases h
   ·cases h
  ·split at h
   ·rename_i n e N
    have E:=E9 N
    have V : ∀(b o s:Nat),G = .pointer (some ⟨b,o,none⟩)->aL P e=some s->0<=k->k<n->(Instr.indexAt t G (.int ki k)).run P w = .ok (.pointer (some ⟨b,o+k.toNat * s,none⟩)) w:=by
     intro b o s e v h2 Y
     subst e
     simp[Instr.indexAt,asIntOf,bB E,Instr.sureAddr,h2,Y,run_sizeOf v,iL]
    split at h
    ·rename_i r' i j s d q
     cases d
     split at h
     ·rename_i m
      cases h
      cases F with | ptr hl p=>
      exact⟨rfl,_,V _ _ _ rfl q m.1 m.2,by rw[Jp];exact .ptr hl p⟩
     ·cases h
    ·rename_i esz es i j s d q
     cases d
     split at h
     ·rename_i m
      cases h
      cases F with | iptr cell hm O I=>
      rename_i b o
      exact⟨rfl,_,V _ _ _ rfl q m.1 m.2,by rw[show o+(i * esz+j)+k.toNat * s=o+(i * esz+(j+k.toNat * s)) by omega];exact .iptr cell hm O I⟩
     ·cases h
    ·cases h
   ·cases h
 ·cases h
theorem LO{y x:AV}{e:Value}{i:Nat}(j:VR M ι y e){d:List bz}(h:tE (some y) i=some (x,d)) :
 d=[] /\∃u,(Instr.extract e i).run P w = .ok u w/\VR M ι x u:=by
 unfold tE at h
 split at h
 ·rename_i n c
  cases c
  simp only[jQ,bO]at h
  obtain⟨l,a,c⟩:=h
  cases c
  cases j with | tup k m f=>
  rename_i us
  have b:i<us.size:=by have:=(iN.1 a).1;omega
  exact⟨rfl,us[i],by simp[Instr.extract,jY b],f i _ _ a (jY b)⟩
 ·cases h
theorem DP{t:TypeId}{y x:AV}{a:Value}(f:VR M ι y a){c:List bz}(h:sT P t (some y)=some (x,c)) :
 c=[] /\∃u,(Instr.makeInterface t a).run P w = .ok u w/\VR M ι x u:=by
 unfold sT at h
 split at h
 ·cases h
 ·rename_i d b e
  simp at h
  obtain⟨rfl,rfl⟩:=h
  refine⟨rfl,.iface t a,?_,.ifc f⟩
  simp only[Instr.makeInterface,Sem.run_bind,bB e,Result.andThen_ok]
  cases d<;>first | rfl | (exact absurd e (b _))
 ·cases h
theorem BU{st a:TypeId}{ok:Bool}{y x:AV}{p:Value}(m:VR M ι y p){E:List bz}(h:s9 P (some y) a ok=some (x,E)) :
 E=[] /\∃u,(Instr.typeAssert p st a ok).run P w = .ok u w/\VR M ι x u:=by
 have k : ∀d,P.underlying a=some d->(∀G,d ≠ .interface G) ->∀z,ff P a=some z->ok=true->(p = .nilIface \/∃t v,p = .iface t v/\t≠a) ->
  ∃u,(Instr.typeAssert p st a ok).run P w = .ok u w/\VR M ι (.tup [z,.v (.bool false)]) u:=by
  intro d l b z o j e
  subst j
  obtain⟨v,F,q⟩:=xL o w
  refine⟨.tuple #[v,.bool false],?_,?_⟩
  ·simp only[Instr.typeAssert,Sem.run_bind,bB l,Result.andThen_ok]
   rcases e with rfl | ⟨t,x,rfl,n⟩
   ·cases d<;>first | (simp[F];done) | exact absurd rfl (b _)
   ·cases d<;>first | (simp[F,n];done) | exact absurd rfl (b _)
  ·refine .tup (by simp) rfl λi c u f e=>?_
   match i with
   | 0=>simp at f e;subst f;subst e;exact jN q
   | 1=>simp at f e;subst f;subst e;exact .v rfl
   | i+2=>simp at f
 unfold s9 at h
 split at h
 ·cases h
 ·rename_i d t H b l C
  cases C
  cases m with | ifc m=>
  rename_i A
  split at h
  ·rename_i D
   subst D
   simp at h
   obtain⟨rfl,rfl⟩:=h
   refine⟨rfl,(if ok then .tuple #[A,.bool true] else A),?_,?_⟩
   ·simp only[Instr.typeAssert,Sem.run_bind,bB l,Result.andThen_ok]
    cases d<;>first | (simp;done) | exact absurd l (by intro h;exact b _ h)
   ·cases ok with
    | false=>simpa using m
    | true=>
     simp only[if_true]
     refine .tup (by simp) rfl λi c u f e=>?_
     match i with
     | 0=>simp at f e;subst f;subst e;exact m
     | 1=>simp at f e;subst f;subst e;exact .v rfl
     | i+2=>simp at f
  ·rename_i D
   split at h
   ·rename_i j
    simp at h
    obtain⟨z,o,rfl,rfl⟩:=h
    exact⟨rfl,k d l b z o j (.inr ⟨t,A,rfl,D⟩)⟩
   ·cases h
 ·rename_i d b l C
  cases C
  split at h
  ·rename_i j
   simp at h
   obtain⟨z,o,rfl,rfl⟩:=h
   cases m
   exact⟨rfl,k d l b z o j (.inl rfl)⟩
  ·cases h
 ·cases h
end
end Go.Ab
namespace Go.Ab
section
variable{P:Program}{M:Mem}{ι:Map}{g:da}{w:World}{r:Ref}
theorem MC(a:Nat) : ∀(us:List Value)(k:Nat)(cells:Array Value),a+k+us.length<=cells.size ->
 (us.zipIdx k).foldl (λcs (p:Value × Nat)=>cs.setIfInBounds (a+p.2) p.1) cells=cD cells (a+k) us:=by
 intro us
 induction us with
 | nil=>intro k cells h;simp[cD]
 | cons u us d=>
  intro k cells h
  simp only[qZ]at h
  rw[List.zipIdx_cons,vR,d (k+1) _ (by simp;omega)]
  apply Er
  intro i
  rw[iq (by simp;omega),iq (by simp;omega)]
  by_cases c:i=a+k
  ·subst c
   rw[if_neg (by omega),if_pos ⟨dc _,by simp⟩]
   simp[show a+k<cells.size by omega]
  ·by_cases b:a+(k+1)<=i/\i<a+(k+1)+us.length
   ·rw[if_pos b,if_pos (by simp;omega)]
    rw[show i - (a+k)=(i - (a+(k+1)))+1 by omega]
    simp
   ·rw[if_neg b,if_neg (by simp;omega)]
    rw[Bo (by omega)]
theorem mc.patch{cs new:List AV}{us a:List Value}{j:Nat}(h:mc M ι cs us)(b:mc M ι new a):mc M ι (patch cs j new) (us.take j++a++us.drop (j+a.length)):=by
 unfold Ab.patch
 rw[<-b.1]
 exact((h.take j).append b).append (h.drop _)
theorem Qg(c:Nat->Option (Nat × Nat)) : ∀(ps:List (Nat × AV)) (qs:List (Nat × Value)) (cs d:List AV) (b:Array Value),lP c cs ps=some d->mc M ι cs b.toList ->
 ps.length=qs.length->(∀(i:Nat) p q,ps[i]?=some p->qs[i]?=some q->p.1=q.1/\VR M ι p.2 q.2) ->
 ∃e,Instr.fill c b qs=some e/\mc M ι d e.toList:=by
 intro ps
 induction ps with
 | nil=>
  intro qs cs d b h t o hp
  simp[lP]at h
  subst h
  cases qs with
  | nil=>exact⟨b,rfl,t⟩
  | cons q qs=>simp at o
 | cons p ps K=>
  intro qs cs d b h t o hp
  cases qs with
  | nil=>simp at o
  | cons q qs=>
   obtain⟨i,v⟩:=p
   obtain⟨L,u⟩:=q
   obtain⟨C,D⟩:=hp 0 _ _ rfl rfl
   simp only at C D
   subst C
   simp only[lP]at h
   split at h
   ·cases h
   ·rename_i a n z
    split at h
    ·rename_i F
     obtain⟨I,hle⟩:=F
     have m:=D.cells
     have E:u.cells.size=n:=by have:=m.1;simp at this;omega
     have G:b.size=cs.length:=by have:=t.1;simp at this;omega
     have f:=MC a u.cells.toList 0 b (by simp;omega)
     have l:u.cells.zipIdx.foldl (λcs (p:Value × Nat)=>cs.setIfInBounds (a+p.2) p.1) b=cD b a u.cells.toList:=by
      rw[Cb]at f
      rw[<-f,<-Nz,Array.toList_zipIdx]
     have A:mc M ι (patch cs a v.cells) (cD b a u.cells.toList).toList:=by
      have:=t.patch (j:=a) m
      simpa [cD] using this
     obtain⟨e,H,J⟩:=K qs (patch cs a v.cells) d (cD b a u.cells.toList) h A (by simpa using o) (λk p q y x=>hp (k+1) p q y x)
     refine⟨e,?_,J⟩
     simp only[Instr.fill,z]
     rw[if_neg (by simp;omega)]
     rw[<-H,<-l]
    ·cases h
theorem uy{tm:List AV}{a:Act}(h:TR M ι tm a){ps:List (Nat × Operand)}{c:List (Nat × AV)}(b:iS tm ps=some c) :
 c.length=(ps.map λp=>(p.1,a.eval p.2)).length /\∀(i:Nat) p q,c[i]?=some p->(ps.map λp=>(p.1,a.eval p.2))[i]?=some q->p.1=q.1/\VR M ι p.2 q.2:=by
 unfold iS at b
 refine⟨by simpa using jT b,λi p q hp d=>?_⟩
 obtain⟨⟨k,o⟩,f,e⟩:=rp b i p hp
 simp only[bO]at e
 obtain⟨y,j,rfl⟩:=e
 simp only[oS,f,Option.map_some,dW]at d
 subst d
 exact⟨rfl,aY h j⟩
theorem uZ{t:TypeId}{z:AV}(h:ff P t=some z) : ∃i u,P.info? t=some i/\i.zero=some u/\ofValue u=some z:=by
 simp only[ff,ig]at h
 obtain⟨u,⟨i,a,b⟩,hu⟩:=h
 exact⟨i,u,a,b,hu⟩
theorem Rv{t:TypeId}{l:List (Nat × AV)}{qs:Array (Nat × Value)}{x:AV}{A:List bz}(D:l.length=qs.toList.length)
 (hp : ∀(i:Nat) p q,l[i]?=some p->qs.toList[i]?=some q->p.1=q.1/\VR M ι p.2 q.2) (h:mP P t (some l)=some (x,A)) :
 A=[] /\∃u,(Instr.build t qs).run P w = .ok u w/\VR M ι x u:=by
 unfold mP at h
 split at h
 ·rename_i z G H f
  cases f
  obtain⟨it,u,j,d,hu⟩:=uZ H
  obtain⟨C,rfl,k⟩:=(jN (M:=M) (ι:=ι) hu).Qu
  split at h
  ·rename_i n e F
   split at h
   ·rename_i s E
    simp only[bO]at h
    obtain⟨cs,c,f⟩:=h
    cases f
    obtain⟨J,v,rfl⟩:=yP E
    obtain⟨a,o,y⟩:=Qg (M:=M) (ι:=ι) _ l qs.toList z cs C c k D hp
    refine⟨rfl,.agg a,run_build w t qs a ?_,VR.rO.2 y⟩
    simp[Program.built,j,E9 F,d,v,Value.cells,o]
   ·cases h
  ·split at h
   ·rename_i ps b
    simp only[bO]at h
    obtain⟨cs,c,f⟩:=h
    cases f
    unfold placesOf at b
    split at b
    ·rename_i I m
     obtain⟨a,o,y⟩:=Qg (M:=M) (ι:=ι) _ l qs.toList z cs C c k D hp
     refine⟨rfl,.agg a,run_build w t qs a ?_,VR.rO.2 y⟩
     simp only[Program.built,j,m,d,b,Value.cells]
     rw[<-o]
     congr 1
     funext i
     simp
    ·cases b
   ·cases h
 ·cases h
theorem WO{b:BinOp}{t:TypeId}{q j:Operand}{x y z:AV}{u v:Value}(o:VR M ι x u)(k:VR M ι y v){A:List bz}(h:cf P b t q j (some x) (some y)=some (z,A)) :
 A=[] /\∃r,(do eqGuard b t q j u v;binOp b t u v:Sem Value).run P w = .ok r w/\VR M ι z r:=by
 simp only[cf]at h
 ·split at h
  ·rename_i C
   have key:(∃a n c,u = .slice (some a) n c/\v = .slice none 0 0)\/(∃a n c,v = .slice (some a) n c/\u = .slice none 0 0):=by
    simp only[fe,bh]at C
    rcases C with ⟨l,f⟩ | ⟨l,f⟩
    ·left
     have:v = .slice none 0 0:=by
      cases k<;>simp[oh]at f
      split at f<;>simp_all
     cases o<;>simp[Kj]at l
     ·exact⟨_,_,_,rfl,this⟩
     ·exact⟨_,_,_,rfl,this⟩
    ·right
     have:u = .slice none 0 0:=by
      cases o<;>simp[oh]at f
      split at f<;>simp_all
     cases k<;>simp[Kj]at l
     ·exact⟨_,_,_,rfl,this⟩
     ·exact⟨_,_,_,rfl,this⟩
   have i : ∀b,(eqGuard b t q j u v).run P w = .ok () w:=by
    intro b
    rcases key with ⟨a,n,c,rfl,rfl⟩ | ⟨a,n,c,rfl,rfl⟩<;>(unfold eqGuard;cases b<;>simp)
   split at h
   ·rename_i e d
    simp at h;obtain⟨rfl,rfl⟩:=h
    refine⟨rfl,.bool false,?_,.v rfl⟩
    simp only[Sem.run_bind,i,Result.andThen_ok]
    rcases key with ⟨a,n,c,rfl,rfl⟩ | ⟨a,n,c,rfl,rfl⟩
    ·rw[Lib.run_eql_slice_nil w t e (some a) n c 0 0 d];rfl
    ·rw[run_eql_nil_slice w t e (some a) n c 0 0 d];rfl
   ·rename_i e d
    simp at h;obtain⟨rfl,rfl⟩:=h
    refine⟨rfl,.bool true,?_,.v rfl⟩
    simp only[Sem.run_bind,i,Result.andThen_ok]
    rcases key with ⟨a,n,c,rfl,rfl⟩ | ⟨a,n,c,rfl,rfl⟩
    ·rw[run_neq_slice_nil_any w t e (some a) n c 0 0 d];rfl
    ·rw[run_neq_nil_slice w t e (some a) n c 0 0 d];rfl
   ·cases h
  ·split at h
   ·rename_i J I m p
    simp only[jQ,bO,ig]at h
    obtain⟨H,⟨r,E,G⟩,he⟩:=h
    cases he
    have D:=u5 o m
    have F:=u5 k p
    subst D;subst F
    exact⟨rfl,r,oe E w,og G⟩
   ·cases h
theorem Zx{b:UnOp}{x z:AV}{u:Value}(e:VR M ι x u){a:List bz}(h:Ye P b (some x)=some (z,a)) :
 a=[] /\∃r,(Op.unary b u).run P w = .ok r w/\VR M ι z r:=by
 simp only[Ye,jQ,bO,ig,dW]at h
 obtain⟨j,⟨r,⟨v,⟨i,rfl,d⟩,f⟩,c⟩,he⟩:=h
 cases he
 have:=N1 e d
 subst this
 exact⟨rfl,r,oe f w,og c⟩
theorem V8{xs:List AV}{us d:List Value}(c:mc M ι xs us)(h:xs.mapM Iv=some d):us=d:=by
 apply Ju
 intro i
 rcases fm i us.length with a | a
 ·have b:i<xs.length:=by rw[c.1];exact a
  obtain⟨v,f,e⟩:=lA h i xs[i] (fc b)
  rw[f,fc a,N1 (c.2 i _ _ (fc b) (fc a)) e]
 ·have:=jT h
  rw[zI a,zI (by rw[this,c.1];exact a)]
theorem IV{f:Value->Value->Sem Value}{xs:List AV}{us:List Value}{z:AV}(d:mc M ι xs us)(h:Ka f P xs=some z) :
 ∃u a,us=u :: a /\∃r,(a.foldlM f u).run P w = .ok r w/\VR M ι z r:=by
 unfold Ka at h
 split at h
 ·rename_i u a b
  have:=V8 d b
  subst this
  simp only[ig]at h
  obtain⟨r,e,c⟩:=h
  exact⟨u,a,rfl,r,oe e w,og c⟩
 ·cases h
theorem tJ{t:TypeId}(h:isStr P t=true):P.underlying t=some .string:=by
 unfold isStr at h
 split at h
 ·assumption
 ·cases h
theorem rE{t:TypeId}(h:fF P t=true) : ∃e,P.underlying t=some (.slice e)/\P.underlying e=some (.int .u8):=by
 unfold fF at h
 split at h
 ·rename_i e a
  split at h
  ·exact⟨e,a,by assumption⟩
  ·cases h
 ·cases h
theorem UT{t:TypeId}(h:isInt P t=true) : ∃k,P.underlying t=some (.int k):=by
 unfold isInt at h
 split at h
 ·exact⟨_,by assumption⟩
 ·cases h
end
end Go.Ab
namespace Go.Ab
section
variable{P:Program}{M:Mem}{ι:Map}{g:da}{w:World}{r:Ref}
structure Src (P:Program) (M:Mem) (w:World) (u:Value) (z:Nat) (es:List AV) (us:List Value):Prop where
 len:us.length=es.length * z
 Jd : ∀e∈es,e.cells.length=z
 one : ∀x∈us,x.oneCell'=true
 vr : ∀(i j:Nat) e x,es[i]?=some e->e.cells[j]?=some x ->∃u,us[i * z+j]?=some u/\VR M ek x u
 lenOf : ∀w':World,(Builtin.lenOf u).run P w' = .ok es.length w'
 first : ∀(n:Nat)(w':World),n<=es.length->w'.heap=w.heap->(Builtin.firstCells z n u).run P w' = .ok (us.take (n * z)).toArray w'
theorem Rj{es:List AV}{z:Nat}(h : ∀e∈es,e.cells.length=z)(cell:Nat->Nat->Value) :
 ∃us:List Value,us.length=es.length * z /\∀i j,i<es.length->j<z->us[i * z+j]?=some (cell i j):=by
 refine⟨(List.range (es.length * z)).map λk=>cell (k / z) (k % z),by simp,?_⟩
 intro i j b a
 have c:0<z:=by omega
 have:=D1 b a
 rw[oS,List.getElem?_range this]
 simp only[Option.map_some,dW]
 rw[Nat.mul_comm i z,Nat.mul_add_div c,Nat.div_eq_of_lt a,Nat.mul_add_mod,Nat.mod_eq_of_lt a,Cb]
theorem PD{es:List AV}{z:Nat}(d : ∀e∈es,e.cells.length=z)(I:0<z\/es=[]){a:Addr}{c:Nat}(u:a.spot=none\/es=[])(cell:Nat->Nat->Value)
 (E : ∀i j,i<es.length->j<z->w.cell? ⟨a.block,a.off+(i * z+j),none⟩=some (cell i j)/\(cell i j).oneCell'=true)
 (J : ∀(i j:Nat) e x,es[i]?=some e->e.cells[j]?=some x->VR M ek x (cell i j)) : ∃us,Src P M w (.slice (some a) es.length c) z es us:=by
 obtain⟨us,y,D⟩:=Rj d cell
 have f : ∀k,k<us.length->0<z/\k / z<es.length/\k % z<z/\k / z * z+k % z=k:=by
  intro k l
  rw[y]at l
  have b:0<z:=by
   rcases I with h | h
   ·exact h
   ·subst h;simp at l
  exact⟨b,(Nat.div_lt_iff_lt_mul b).2 l,Nat.mod_lt _ b,by rw[Nat.mul_comm];exact Nat.div_add_mod k z⟩
 refine⟨us,y,d,?_,?_,λw'=>by simp[Builtin.lenOf],?_⟩
 ·intro x q
  obtain⟨k,l,t⟩:=sw q
  obtain⟨b,m,p,e⟩:=f k l
  have:=D _ _ m p
  rw[e,fc l,t]at this
  injection this with this
  rw[this]
  exact(E _ _ m p).2
 ·intro i j e x A q
  have F:=(iN.1 A).1
  have o:j<z:=by
   rw[<-d e (fL A)]
   exact(iN.1 q).1
  exact⟨cell i j,D i j F o,J i j e x A q⟩
 ·intro n w' G C
  have K:n * z<=us.length:=by rw[y];exact mH _ G
  refine run_firstCells_some (P:=P) w' z n a es.length c (us.take (n * z)) (by simp;omega) ?_
  intro j v o
  rw[Bn]at o
  split at o
  ·rename_i H
   obtain⟨b,m,p,e⟩:=f j (by omega)
   have:=D _ _ m p
   rw[e,o]at this
   cases this
   have u:=u.resolve_right (by intro e;subst e;simp at m)
   rw[lG u,iL]
   have:=(E _ _ m p).1
   rw[e]at this
   rw[World.cell?_of_block (w:=w) (by rw[C])]
   exact this
  ·cases o
theorem getElems(es:List AV)(a len:Nat)(c:a+len<=es.length):((es.drop a).take len).length=len /\∀i,i<len->((es.drop a).take len)[i]?=es[a+i]? :=
 ⟨by simp;omega,λi b=>by rw[Bn,if_pos b,Ft]⟩
theorem oz(N:ic M ι g w){x:AV}{u:Value}(k:VR M ι x u){z:Nat}{es:List AV}(L:0<z)(h:cS g x=some (z,es)) : ∃us,Src P M w u z es us:=by
 unfold cS at h
 split at h
 ·rename_i s
  cases h
  cases k
  refine⟨s.data.toList.map λb => .int .u8 b.toNat,?_,?_,?_,?_,?_,?_⟩
  ·simp
  ·intro e f
   simp only[tY]at f
   obtain⟨b,_,rfl⟩:=f
   rfl
  ·intro x k
   simp only[tY]at k
   obtain⟨b,_,rfl⟩:=k
   rfl
  ·intro i j e x f k
   simp only[oS,bO]at f
   obtain⟨b,F,rfl⟩:=f
   cases j with
   | succ j=>simp[AV.cells]at k
   | zero=>
    simp[AV.cells]at k
    subst k
    exact⟨.int .u8 b.toNat,by simp[F],.v rfl⟩
  ·intro w'
   simp only[Builtin.lenOf,Sem.run_pure,so,Cg]
   rfl
  ·intro n w' U S
   simp only[Builtin.firstCells,Nat.mul_one,Sem.run_pure]
   congr 1
   apply Fy
   simp only[Array.toList_map,ByteArray.data_extract,NH]
   rw[NQ]
   simp[Jo]
 ·rename_i esz Y cap
  cases h
  cases k with | bW cell I J R hm f Q=>
  rename_i a c
  exact PD f (.inl L) I cell (λi j o q=>⟨N.mem _ _ _ (hm i j o q).1,(hm i j o q).2⟩) Q
 ·rename_i r' d len cap
  split at h
  ·rename_i b F
   split at h
   ·rename_i J
    cases h
    obtain⟨t,hlen⟩:=J
    cases k with | cL X E I V T U R H=>
    rename_i l a c
    have m:=N.at X H F
    obtain⟨D,C⟩:=getElems b.es d len hlen
    have p:0<len->a.off=d * b.esz:=by
     intro Z
     rcases V with h | h
     ·omega
     ·rw[h,m.esz]
    have key : ∀i j,i<len->j<b.esz ->∃u,w.cell? ⟨a.block,a.off+(i * b.esz+j),none⟩=some u/\u.oneCell'=true /\∀e x,b.es[d+i]?=some e->e.cells[j]?=some x->VR M ek x u:=by
     intro i j o q
     have f:b.es[d+i]?=some b.es[d+i]:=fc (by omega)
     have W:=m.cells b.es[d+i] (lY _)
     obtain⟨u,hu,D,C⟩:=m.cell (d+i) f j _ (fc (by omega:j<b.es[d+i].cells.length))
     refine⟨u,?_,D,?_⟩
     ·rw[p (by omega),E,show d * b.esz+(i * b.esz+j)=(d+i) * b.esz+j by rw[m5];omega]
      exact hu
     ·intro e x A y
      rw[f]at A;cases A
      rw[fc (by omega:j<b.es[d+i].cells.length)]at y;cases y
      rw[bz.map,if_pos t]at C
      exact C
    let cell:Nat->Nat->Value:=λi j=>(w.cell? ⟨a.block,a.off+(i * b.esz+j),none⟩).getD undef
    have:=PD (P:=P) (M:=M) (w:=w) (es:=(b.es.drop d).take len) (z:=b.esz) (a:=a) (c:=c)
     (by intro e f;exact m.cells e (Fv (zH f))) (.inl L) (.inl I) cell
     (by
      intro i j o q
      rw[D]at o
      obtain⟨u,G,K,_⟩:=key i j o q
      simp[cell,G,K])
     (by
      intro i j e x f k
      have o:i<len:=by have:=(iN.1 f).1;omega
      rw[C i o]at f
      have q:j<b.esz:=by
       rw[<-m.cells e (fL f)]
       exact(iN.1 k).1
      obtain⟨u,G,K,O⟩:=key i j o q
      simp only[cell,G,cX]
      exact O e x f k)
    rw[D]at this
    exact this
   ·cases h
  ·cases h
 ·cases h
inductive Dm:Option Value->Option Int->Prop
 | none:Dm none none
 | some (k n):Dm (some (.int k n)) (some n)
theorem uG{tm:List AV}{a:Act}(h:TR M ι tm a){o:Option Operand}{x:Option Int}(b:mh tm o=some x):Dm (o.map a.eval) x:=by
 cases o with
 | none=>simp only[mh,dW]at b;subst b;exact .none
 | some o=>
  simp only[mh]at b
  split at b
  ·rename_i n c
   injection b with b
   subst b
   simp only[ig]at c
   obtain⟨y,e,d⟩:=c
   obtain⟨k,f⟩:=xW (aY h e) d
   rw[Option.map_some,f]
   exact .some k n
  ·cases b
theorem Ec{len c:Nat}{cap:Option Nat}(I:len<=c)(x : ∀k,cap=some k->c=k){D A E:Option Int}{l h:Nat}{F:Option Nat}(b:bounds len cap D A E=some (l,h,F))
 {q n t:Option Value} (v:Dm q D) (z:Dm n A) (H:Dm t E) :
 l<=h/\h<=len /\∃m,h<=m/\m<=c/\(∀k,F=some k->m - l=k)/\(Instr.sliceBounds true len c q n t).run P w = .ok (l,h,m) w:=by
 have f : ∀(k:IntKind)(i:Int)(y:Nat)(d:BoundsCode),0<=i->i<=y->(Instr.sliceBound (.int k i) y d).run P w = .ok i.toNat w:=λk i y d=>run_sliceBound w k i y d
 cases H with
 | some C m=>
  cases z with
  | none=>simp[bounds]at b
  | some o a=>
   simp only[bounds]at b
   obtain⟨⟨c1,c2,c3,c4,c5⟩,b⟩:=fB.1 b
   simp only[dW,xe]at b
   obtain⟨rfl,rfl,rfl⟩:=b
   have J:m<=c:=by
    cases cap with
    | none=>simp at c4;omega
    | some k=>have:=x k rfl;simp at c4;omega
   have K:((m.toNat:Nat):Int)=m:=Cf (by omega)
   have G:((a.toNat:Nat):Int)=a:=Cf (by omega)
   refine⟨by omega,by omega,m.toNat,by omega,by omega,by intro k e;cases e;rfl,?_⟩
   cases v with
   | none=>
    simp only[uO]at c1 c2
    simp only[Instr.sliceBounds,Sem.run_bind,f C m c _ (by omega) (by omega),Result.andThen_ok,f o a m.toNat _ (by omega) (by omega),Sem.run_pure,uO]
    rfl
   | some p j=>
    simp only[cX]at c1 c2
    simp only[Instr.sliceBounds,Sem.run_bind,f C m c _ (by omega) (by omega),Result.andThen_ok,f o a m.toNat _ (by omega) (by omega),f p j a.toNat _ (by omega) (by omega),Sem.run_pure,cX]
 | none=>
  simp only[bounds]at b
  obtain⟨⟨c1,c2,c3⟩,b⟩:=fB.1 b
  simp only[dW,xe]at b
  obtain⟨rfl,rfl,rfl⟩:=b
  refine⟨by omega,by omega,c,by omega,dc _,?_,?_⟩
  ·intro k e
   simp only[bO]at e
   obtain⟨k0,u,rfl⟩:=e
   rw[x k0 u]
  ·cases z with
   | none=>
    simp only[uO]at c2 c3 ⊢
    cases v with
    | none=>simp[Instr.sliceBounds]
    | some p j=>
     simp only[cX]at c1 c2 ⊢
     simp only[Instr.sliceBounds,Sem.run_bind,Sem.run_pure,Result.andThen_ok,f p j len _ (by omega) (by omega)]
     simp
   | some o a=>
    simp only[cX]at c2 c3 ⊢
    have G:((a.toNat:Nat):Int)=a:=Cf (by omega)
    cases v with
    | none=>
     simp only[uO]at c1 c2 ⊢
     simp only[Instr.sliceBounds,Sem.run_bind,Sem.run_pure,Result.andThen_ok,f o a c _ (by omega) (by omega)]
     simp
    | some p j=>
     simp only[cX]at c1 c2 ⊢
     simp only[Instr.sliceBounds,Sem.run_bind,Sem.run_pure,Result.andThen_ok,f o a c _ (by omega) (by omega),f p j a.toNat _ (by omega) (by omega)]
theorem uq{t e:TypeId}(i:P.underlying t=some (.slice e)){s:Nat}(j:aL P e=some s){a:Option Addr}{len c l h m:Nat}{d b f:Option Value}
 (k:(Instr.sliceBounds true len c d b f).run P w = .ok (l,h,m) w) :
 (Instr.sliceAt t (.slice a len c) d b f).run P w = .ok (.slice (if m=l then a else a.map (·.add (l * s))) (h - l) (m - l)) w:=by
 simp[Instr.sliceAt,bB i,Instr.slice,k,run_sizeOf j]
theorem Rs(hS:ic M ι g w){t:TypeId}{y x:AV}{u0:Value}(W:VR M ι y u0){lo q mx:Option Int}{O G Q:Option Value}
 (J:Dm O lo) (U:Dm G q) (T:Dm Q mx)
 {bs:List bz} (h:iQ P g t (some y) (some lo) (some q) (some mx)=some (x,bs)) :
 bs=[] /\∃u,(Instr.sliceAt t u0 O G Q).run P w = .ok u w/\VR M ι x u:=by
 simp only[iQ]at h
 split at h
 ·
  rename_i e
  cases e
  cases W
  obtain⟨n,h⟩:=fB.1 h
  simp only[bO]at h
  obtain⟨⟨l,f,N⟩,o,e⟩:=h
  cases e
  obtain⟨s,z⟩:=gI.1 n
  simp only[ig]at z
  obtain⟨e,A,z⟩:=z
  obtain⟨b1,b2,m,b3,b4,D,I⟩:=Ec (P:=P) (w:=w) (dc 0) (by intro k F;cases F;rfl) o J U T
  have e1:l=0:=by omega
  have L:f=0:=by omega
  have e3:m=0:=by omega
  subst e1;subst L;subst e3
  exact⟨rfl,_,uq (iI A) z I,.v rfl⟩
 ·
  rename_i s e
  cases e
  cases W
  obtain⟨n,h'⟩:=fB.1 h
  clear h
  simp only[bh,Option.isNone_iff_eq_none]at n
  obtain⟨n,rfl⟩:=n
  cases T
  obtain⟨⟨l,f,N⟩,o,e⟩:=bO.1 h'
  cases e
  have V:=tJ n
  have R : ∀(k:IntKind)(i:Int)(y:Nat)(p:BoundsCode),0<=i->i<=y->(Instr.sliceBound (.int k i) y p).run P w = .ok i.toNat w:=λk i y p=>run_sliceBound w k i y p
  simp only[bounds]at o
  obtain⟨⟨c1,c2,c3⟩,o⟩:=fB.1 o
  simp only[dW,xe]at o
  obtain⟨rfl,rfl,rfl⟩:=o
  refine⟨rfl,.string (s.extract (lo.getD 0).toNat (q.getD s.size).toNat),?_,.v rfl⟩
  cases U with
  | none=>
   simp only[uO]at c2 c3;try simp only[uO,cX]
   cases J with
   | none=>simp[Instr.sliceAt,bB V,Instr.slice,Instr.sliceBounds]
   | some kl Z=>
    simp only[cX]at c1 c2;try simp only[uO,cX]
    simp[Instr.sliceAt,bB V,Instr.slice,Instr.sliceBounds,R kl Z s.size _ c1 c2]
  | some kh f=>
   simp only[cX]at c2 c3;try simp only[uO,cX]
   have eh:((f.toNat:Nat):Int)=f:=Cf (by omega)
   cases J with
   | none=>
    simp only[uO]at c1 c2;try simp only[uO,cX]
    simp[Instr.sliceAt,bB V,Instr.slice,Instr.sliceBounds,R kh f s.size _ c2 c3]
   | some kl Z=>
    simp only[cX]at c1 c2;try simp only[uO,cX]
    simp[Instr.sliceAt,bB V,Instr.slice,Instr.sliceBounds,R kh f s.size _ (by omega) c3,R kl Z f.toNat _ c1 (by omega)]
 ·
  rename_i esz es cap e
  cases e
  obtain⟨n,h⟩:=fB.1 h
  simp only[bO]at h
  obtain⟨⟨l,f,N⟩,o,e⟩:=h
  cases e
  simp only[ig]at n
  obtain⟨e,A,z⟩:=n
  cases W with | bW cell d S F hm hes hh'=>
  rename_i a c
  obtain⟨b1,b2,m,b3,b4,D,I⟩:=Ec (P:=P) (w:=w) S F o J U T
  refine⟨rfl,_,uq (iI A) z I,?_⟩
  obtain⟨g1,g2⟩:=getElems es l (f - l) (by omega)
  have:=VR.bW (M:=M) (ι:=ι) (esz:=esz) (es:=(es.drop l).take (f - l)) (cap:=N) (a:=(if m=l then a else a.add (l * esz))) (c:=m - l) (λi j=>cell (l+i) j)
   (by
    rcases d with d | d
    ·left
     split
     ·exact d
     ·rw[lG d,iL]
    ·right;subst d;simp) (by omega) D
   (by
    intro i j q hj
    rw[g1]at q
    have d:=d.resolve_right (by intro e;subst e;simp at b2 S;omega)
    rw[if_neg (by omega),lG d,iL]
    have:=hm (l+i) j (by omega) hj
    rw[show a.off+((l+i) * esz+j)=a.off+l * esz+(i * esz+j) by rw[m5];omega]at this
    exact this)
   (by intro e A;exact hes e (Fv (zH A)))
   (by
    intro i j e x q hx
    have hi':i<f - l:=by have:=(iN.1 q).1;omega
    rw[g2 i hi']at q
    exact hh' (l+i) j e x q hx)
  rw[g1]at this
  have L:(if m=l then some a else (some a).map (·.add (l * esz)))=some (if m=l then a else a.add (l * esz)):=by split<;>rfl
  rw[L]
  exact this
 ·
  rename_i r' X len cap e
  cases e
  split at h
  ·rename_i b Y
   obtain⟨n,h⟩:=fB.1 h
   simp only[bO]at h
   obtain⟨⟨l,f,N⟩,o,e⟩:=h
   cases e
   simp only[ig]at n
   obtain⟨e,A,z⟩:=n
   cases W with | cL hr C d ha S hn F E=>
   rename_i lo' a c
   obtain⟨l',H,hbk⟩:=hS.live r' b Y
   rw[hr]at H;cases H
   obtain⟨b1,b2,m,b3,b4,D,I⟩:=Ec (P:=P) (w:=w) S F o J U T
   refine⟨rfl,_,uq (iI A) z I,?_⟩
   have L:(if m=l then some a else (some a).map (·.add (l * b.esz)))=some (if m=l then a else a.add (l * b.esz)):=by split<;>rfl
   rw[L]
   show VR M ι (.cL r' (X+l) (f - l) N) _
   by_cases K:m=l
   ·rw[if_pos K]
    exact .cL hr C d (.inl (by omega)) (by omega) (.inl (by omega)) D E
   ·rw[if_neg K,lG d,iL]
    refine .cL hr C rfl (.inr ?_) (by omega) (.inr ?_) D E
    ·rcases ha with h | h
     ·omega
     ·simp only[h,hbk.esz,m5]
    ·rcases hn with h | h
     ·omega
     ·omega
  ·cases h
 ·cases h
theorem Pj{len c:Nat}(p:len<=c){j f:Option Int}(c1:0<=j.getD 0)(c2:j.getD 0<=f.getD len)(c3:f.getD len<=c)
 {e d:Option Value} (n:Dm e j) (q:Dm d f) :
 (Instr.sliceBounds true len c e d none).run P w = .ok ((j.getD 0).toNat,(f.getD len).toNat,c) w:=by
 have h : ∀(k:IntKind)(i:Int)(y:Nat)(a:BoundsCode),0<=i->i<=y->(Instr.sliceBound (.int k i) y a).run P w = .ok i.toNat w:=λk i y a=>run_sliceBound w k i y a
 cases q with
 | none=>
  simp only[uO]at c2 c3 ⊢
  cases n with
  | none=>simp[Instr.sliceBounds]
  | some m l=>
   simp only[cX]at c1 c2 ⊢
   simp only[Instr.sliceBounds,Sem.run_bind,Sem.run_pure,Result.andThen_ok,h m l len _ (by omega) (by omega)]
   simp
 | some o b=>
  simp only[cX]at c2 c3 ⊢
  have t:((b.toNat:Nat):Int)=b:=Cf (by omega)
  cases n with
  | none=>
   simp only[uO]at c1 c2 ⊢
   simp only[Instr.sliceBounds,Sem.run_bind,Sem.run_pure,Result.andThen_ok,h o b c _ (by omega) (by omega)]
   simp
  | some m l=>
   simp only[cX]at c1 c2 ⊢
   simp only[Instr.sliceBounds,Sem.run_bind,Sem.run_pure,Result.andThen_ok,h o b c _ (by omega) (by omega),h m l b.toNat _ (by omega) (by omega)]
theorem Ov(hS:ic M ι g w){t:TypeId}{y x:AV}{V:Value}(hy:VR M ι y V){q d U:Option Int}{A n C:Option Value}
 (h1:Dm A q) (Y:Dm n d) (X:Dm C U)
 {O:List bz} (h:wa P g t (some y) (some q) (some d) (some U)=some (x,O)) :
 O=[] /\∃u,(Instr.sliceAt t V A n C).run P w = .ok u w/\VR M ι x u:=by
 unfold wa at h
 split at h
 ·rename_i J hi' r' D len cap E L S T
  simp only[dW]at E L S T
  subst E L S T
  cases X
  split at h
  ·rename_i b H
   obtain⟨⟨W,c1,c2,c3⟩,h⟩:=fB.1 h
   simp only[dW,xe]at h
   obtain⟨rfl,rfl⟩:=h
   simp only[ig]at W
   obtain⟨e,he,hs⟩:=W
   cases hy with | cL K f z ha Q hn R i=>
   rename_i J a c
   have j:((cap.getD len:Nat):Int)<=c:=by
    cases cap with
    | none=>simpa using Q
    | some k=>rw[R k rfl];simp
   have p : ∀m:Nat,∀k,cap.map (· - m)=some k->c - m=k:=by
    intro m k F
    obtain⟨k0,G,rfl⟩:=bO.1 F
    rw[R k0 G]
   replace c3:d.getD (len:Int)<=c:=Int.le_trans c3 j
   clear j
   obtain⟨l',o,N⟩:=hS.live r' b H
   rw[K]at o;cases o
   have Z:=Pj (P:=P) (w:=w) Q c1 c2 c3 h1 Y
   have E:(((q.getD 0).toNat:Nat):Int)=q.getD 0:=Cf c1
   have L:(((d.getD (len:Int)).toNat:Nat):Int)=d.getD len:=Cf (by omega)
   generalize (q.getD 0).toNat=l at *
   generalize (d.getD (len:Int)).toNat=hh at *
   refine⟨rfl,_,uq (iI he) hs Z,?_⟩
   have I:(if c=l then some a else (some a).map (·.add (l * b.esz)))=some (if c=l then a else a.add (l * b.esz)):=by split<;>rfl
   rw[I]
   show VR M ι (.cL r' (D+l) (hh - l) (cap.map (· - l))) _
   by_cases v:c=l
   ·rw[if_pos v]
    exact .cL K f z (.inl (by omega)) (by omega) (.inl (by omega)) (p l) i
   ·rw[if_neg v,lG z,iL]
    refine .cL K f rfl (.inr ?_) (by omega) (.inr ?_) (p l) i
    ·rcases ha with h | h
     ·omega
     ·simp only[h,N.esz,m5]
    ·rcases hn with h | h
     ·omega
     ·omega
  ·cases h
 ·cases h
theorem TQ(Q:ic M ι g w){t tR:TypeId}{args:List AV}{us:List Value}(hv:mc M ι args us){x:AV}{V:List bz}(h:LK P g t args=some (x,V)) :
 V=[]/\x = .v (.bool false)/\(Extern.SlicesOverlaps.overlaps #[t,t] #[tR] us.toArray).run P w = .ok (.bool false) w:=by
 unfold LK at h
 split at h
 ·rename_i r m len cap r' A d U e he
  split at h
  ·rename_i b b' z W p hz
   obtain⟨⟨K,h1,h2,h3⟩,h⟩:=fB.1 h
   simp only[dW,xe]at h
   obtain⟨rfl,rfl⟩:=h
   refine⟨rfl,rfl,?_⟩
   obtain⟨hlen,f⟩:=hv
   match us,hlen,f with
   | [ua,ub],hlen,f=>
   have va:=f 0 _ ua rfl rfl
   have vb:=f 1 _ ub rfl rfl
   clear f hlen
   cases va with | cL hr i hsp ha hc hn hk G=>
   rename_i l a c
   cases vb with | cL C k Y ha' hc' H hk' u=>
   rename_i J O R
   have ht:=iI he
   have hA:=Q.at hr G W
   have hB:=Q.at C u p
   obtain⟨arr,T,fz,D,F,y,_⟩:=hA.heap
   obtain⟨arr',T',fz',I,o,X,_⟩:=hB.heap
   have N:l.b≠J.b:=λe=>K (Q.inj r r' b b' l J W p hr C e)
   have j : ∀w:World,(Go.sizeOf e).run P w = .ok z w:=λw=>run_sizeOf hz w
   show(Extern.SlicesOverlaps.overlaps #[t,t] #[tR] #[.slice (some a) len c,.slice (some O) d R]).run P w=_
   by_cases h0:len=0\/d=0
   ·have E:(len=0\/d=0\/z=0):=by omega
    change Sem.run P (α:=Value) (do
     let some t:=(#[t,t]:Array TypeId)[0]? | stuck "slices.overlaps: no parameter types"
     let .slice elem <-underlying t | stuck "slices.overlaps: slice type expected"
     let size <-sizeOf elem
     match (some a:Option Addr),(some O:Option Addr) with
     | some a,some b=>
      if len=0\/d=0\/size=0 then pure (Value.bool false)
      else if a.block != b.block&&(<-frozen a)&&(<-frozen b) then unsupported .addressObserved
      else do
       if a.block != b.block then do
        noView a;noView b
        if <-mayBeOne a b then return Value.bool ((<-choose (.extern "sameAddr.stringBytes" 2)) == 1)
       pure (Value.bool (a.block == b.block&&a.off<b.off+d * size&&b.off<a.off+len * size))
     | _,_=>pure (Value.bool false)) w=_
    simp[run_underlying ht,j,E]
   ·have hcn:m+c<=l.n:=by rcases hn with h | h<;>omega
    have Z:A+R<=J.n:=by rcases H with h | h<;>omega
    have L:a.off=m * l.esz:=by rcases ha with h | h<;>omega
    have hpos:0<arr'.size:=by rw[o];exact Nat.mul_pos (by omega) (by omega)
    have S:a.off<arr.size:=by
     rw[L,F,hA.esz]
     exact(Nat.mul_lt_mul_right (by omega)).2 (by omega)
    refine Lib.run_overlaps_apart (P:=P) w t tR e ht z j a O len c d R (by rw[i,k];exact N) T T' arr.size arr'.size ?_ ?_ (by omega) ?_ ?_
    ·unfold World.shape?;rw[i,D]
    ·unfold World.shape?;rw[k,I]
    ·unfold World.frozen?
     rw[i,D]
     have:=y.1 a.off S
     obtain⟨f1,f2⟩:=fz
     simp only at this ⊢
     rw[NK]
     simp only[decide_eq_false_iff_not]
     by_cases q:f1<=a.off
     ·exact .inr λq2=>this ⟨q,.inl q2⟩
     ·exact .inl q
    ·unfold World.frozen?
     simp only
     rw[i,D]
     have:=y.2 h1
     obtain⟨f1,f2⟩:=fz
     simp only at this ⊢
     rw[NK]
     simp only[decide_eq_false_iff_not]
     by_cases q:f1<=arr.size
     ·exact .inr λq2=>this ⟨q,q2⟩
     ·exact .inl q
  ·cases h
 ·cases h
end
end Go.Ab
namespace Go.Ab
section
variable{P:Program}{M:Mem}{ι:Map}{g:da}{w:World}{r:Ref}
structure Row (M:Mem) (z:Nat) (es:List AV) (us:List Value):Prop where
 len:us.length=es.length * z
 Jd : ∀e∈es,e.cells.length=z
 one : ∀x∈us,x.oneCell'=true
 vr : ∀(i j:Nat) e x,es[i]?=some e->e.cells[j]?=some x ->∃u,us[i * z+j]?=some u/\VR M ek x u
theorem Src.row{u z es us}(h:Src P M w u z es us):Row M z es us:=⟨h.len,h.Jd,h.one,h.vr⟩
theorem Row.nil{z:Nat}:Row M z [] []:=⟨by simp,by simp,by simp,by intro i j e x h;simp at h⟩
theorem Row.append{z es us es' us'}(h:Row M z es us)(d:Row M z es' us'):Row M z (es++es') (us++us'):=by
 refine⟨by simp[h.len,d.len,m5],?_,?_,?_⟩
 ·intro e a
  rcases nR.1 a with b | b
  ·exact h.Jd e b
  ·exact d.Jd e b
 ·intro e a
  rcases nR.1 a with b | b
  ·exact h.one e b
  ·exact d.one e b
 ·intro i j e x a k
  rcases fm i es.length with c | c
  ·rw[nS c]at a
   obtain⟨u,hu,f⟩:=h.vr i j e x a k
   exact⟨u,by rw[nS (iN.1 hu).1];exact hu,f⟩
  ·rw[pf c]at a
   obtain⟨u,hu,f⟩:=d.vr _ j e x a k
   have l:es.length * z<=i * z:=mH _ c
   refine⟨u,?_,f⟩
   rw[pf (by rw[h.len];omega),h.len,show i * z+j - es.length * z=(i - es.length) * z+j by rw[Fz];omega]
   exact hu
theorem Row.cons{z es us e vs}(c:mc M ek e vs)(l:e.length=z)(m : ∀x∈vs,x.oneCell'=true)(y:AV)(f:y.cells=e)(h:Row M z es us):Row M z (y :: es) (vs++us):=by
 have:Row M z [y] vs:=by
  refine⟨by rw[<-c.1,l];simp,by intro n a;simp at a;subst a;rw[f];exact l,m,?_⟩
  intro i j n x b d
  cases i with
  | succ i=>simp at b
  | zero=>
   simp at b
   subst b
   rw[f]at d
   have k:j<vs.length:=by have:=(iN.1 d).1;rw[<-c.1];exact this
   exact⟨vs[j],by simp[k],c.2 j x vs[j] d (fc k)⟩
 exact this.append h
theorem Row.replicate{z:Nat}{y:AV}{u:Value}(h:VR M ek y u)(l:y.cells.length=z)(e:y.cells.all AV.one=true) : ∀n,Row M z (List.replicate n y) (List.replicate n u.cells.toList).flatten:=by
 intro n
 have b : ∀x∈u.cells.toList,x.oneCell'=true:=by
  intro x k
  obtain⟨j,f,c⟩:=sw k
  have d:=h.cells
  have a:j<y.cells.length:=by rw[d.1];exact f
  have:=d.2 j _ x (fc a) (by rw[<-c];exact fc f)
  exact this.one (by simp only[gD]at e;exact e _ (lY a))
 induction n with
 | zero=>exact Row.nil
 | succ n i=>rw[NF,NF,List.flatten_cons];exact Row.cons h.cells l b y rfl i
theorem Row.mono{z es us}{M':Mem}(h:Row M z es us)(c : ∀b o x,M b o=some x->M' b o=some x):Row M' z es us:=
 ⟨h.len,h.Jd,h.one,λi j e x a f=>by obtain⟨u,hu,d⟩:=h.vr i j e x a f;exact⟨u,hu,d.mono c _ (λ_ _ h=>h)⟩⟩
theorem yj(F:ic M ι g w)(o:r.k=0)(G:ι r=none){w':World}{arr:Array Value}{T:TypeId}{fz:Nat × Nat}(t:Ei w w' (.cells arr T fz))
 {z:Nat} {es:List AV} {us:List Value} (a:Row M z es us) (d : ∀(k:Nat) u,us[k]?=some u->arr[k]?=some u) {n c:Nat} (h:arr.size=n * z)
 (m:Dl z arr.size fz) (v:es.length<=c) (I:c<=n) {cap:Option Nat} (b : ∀k,cap=some k->c=k) (p:0<z) :
 jx M ι g w r (.cL r 0 es.length cap) [⟨z,es,true,false⟩] (.slice (some ⟨w.heap.size,0,none⟩) es.length c) w':=by
 obtain⟨y,D⟩:=F.alloc (q:=r) G t ⟨z,es,true,false⟩ p n h m (by simp;omega) a.Jd
  (by
   intro i j e x E C
   obtain⟨u,hu,H⟩:=a.vr i j e x E C
   exact⟨u,d _ _ hu,a.one u (fL hu),by simpa [bz.map] using H⟩)
 refine⟨M,_,?_,by rw[rP _ _ o];exact y,by rw[rP _ _ o];exact D,?_⟩
 ·exact .cL (l:=⟨w.heap.size,z,n⟩) (by simp[kD]) rfl rfl (.inr (by simp)) v (.inr (by simp;omega)) b p
 ·intro q f A
  have:q≠r:=by intro e;exact A 0 (by simp) (by rw[e];cases r;simp_all)
  simpa [kD,this] using f
def Mr(M:Mem)(b:Nat)(us:List Value):Mem:=λb' o=>if b'=b then us[o]? else M b' o
theorem Sf(A:ic M ι g w){w':World}{arr:Array Value}{T:TypeId}{fz:Nat × Nat}(f:Ei w w' (.cells arr T fz))
 {z:Nat} {es:List AV} {us:List Value} (d:Row M z es us) (y : ∀(k:Nat) u,us[k]?=some u->arr[k]?=some u) {c:Nat}
 (F:es.length<=c) {cap:Option Nat} (v : ∀k,cap=some k->c=k) :
 jx M ι g w r (.bW z es cap) [] (.slice (some ⟨w.heap.size,0,none⟩) es.length c) w':=by
 have p : ∀b o x,M b o=some x->b<w.heap.size:=λb o x h=>World.block_lt_of_cell? w ⟨b,o,none⟩ (A.mem b o x h)
 have m : ∀b o x,M b o=some x->Mr M w.heap.size us b o=some x:=by
  intro b o x h
  unfold Mr
  rw[if_neg (Nat.ne_of_lt (p b o x h))]
  exact h
 have t:w'.heap[w.heap.size]?=some (.cells arr T fz):=by rw[f.heap];simp
 have D : ∀i j,i<es.length->j<z ->∃u,us[i * z+j]?=some u:=by
  intro i j C E
  exact⟨us[i * z+j]'(by rw[d.len];exact D1 C E),fc _⟩
 refine⟨Mr M w.heap.size us,ι,?_,?_,?_,λq K _=>K⟩
 ·refine VR.bW (M:=Mr M w.heap.size us) (ι:=ι) (esz:=z) (es:=es) (cap:=cap) (a:=⟨w.heap.size,0,none⟩) (c:=c) (λi j=>(us[i * z+j]?).getD undef) (.inl rfl) F v ?_ d.Jd ?_
  ·intro i j C E
   obtain⟨u,hu⟩:=D i j C E
   simp only[Mr,if_true,uN,hu,cX]
   exact⟨trivial,d.one u (fL hu)⟩
  ·intro i j e x J H
   obtain⟨u,hu,N⟩:=d.vr i j e x J H
   simp only[hu,cX]
   exact N.mono m _ (λ_ _ h=>h)
 ·rw[ng]
  refine⟨?_,?_,A.inj⟩
  ·intro b o x h
   unfold Mr at h
   split at h
   ·rename_i e;subst e;rw[lF t];exact y o x h
   ·exact f.cell (A.mem b o x h)
  ·intro r' k G
   obtain⟨l,I,n⟩:=A.live r' k G
   refine⟨l,I,n.cr m (λ_ _ h=>h) (f.old _ n.lt) ?_⟩
   intro o x h
   unfold Mr at h
   rw[if_neg (Nat.ne_of_lt n.lt)]at h
   exact n.frozen o x h
 ·rw[ng]
  refine⟨f.os,f.tape,f.output,by rw[f.heap];simp,λb n _=>f.old b n,m,λ_ _ h=>h,λr' k l h L => .inr ⟨r',k,l,h,L,rfl⟩,?_⟩
  intro b o x h
  unfold Mr at h
  split at h
  ·rename_i e;exact .inr (.inl (by omega))
  ·exact .inl h
theorem jx.after{R:List Ref}(k:vK g R=g)(d:ic M ι g w){x:AV}{c:List bz}{u:Value}{w':World}(h:jx (nd M ι g w R) ι g w r x c u w'):jx M ι g w r x c u w':=by
 obtain⟨_,b⟩:=AB (R:=R) d
 rw[k]at b
 obtain⟨M',a,e,i,f,j⟩:=h
 exact⟨M',a,e,i,b.trans f,j⟩
theorem JE(j:ic M ι g w){a c:List (Nat × AV)}(h:fI g a=some c){qs:List (Nat × Value)}(o:a.length=qs.length)
 (hp : ∀(i:Nat) p q,a[i]?=some p->qs[i]?=some q->p.1=q.1/\VR M ι p.2 q.2) :
 c.length=qs.length /\∀(i:Nat) p q,c[i]?=some p->qs[i]?=some q->p.1=q.1/\VR (nd M ι g w (cq g (a.map (·.2)))) ek p.2 q.2:=by
 unfold fI at h
 refine⟨by rw[jT h,o],?_⟩
 intro i p q b d
 obtain⟨⟨k,x⟩,f,e⟩:=rp h i p b
 simp only[bO]at e
 obtain⟨y,l,rfl⟩:=e
 obtain⟨m,n⟩:=hp i _ q f d
 refine⟨m,Ci j depth x y q.2 l ?_ n⟩
 intro r t
 simp only[cq,sv,tY]
 exact⟨x,⟨(k,x),fL f,rfl⟩,t⟩
theorem Km{z:Nat} : ∀(o:List (Nat × AV)) (qs:List (Nat × Value)) (es b:List AV) (us:Array Value),iR es o=some b->Row M z es us.toList ->
 o.length=qs.length->(∀(i:Nat) p q,o[i]?=some p->qs[i]?=some q->p.1=q.1/\VR M ek p.2 q.2)->(∀p∈o,p.2.cells.length=z/\p.2.cells.all AV.one=true) ->
 b.length=es.length /\∃l,Instr.fill (λi=>some (i * z,z)) us qs=some l/\Row M z b l.toList:=by
 intro o
 induction o with
 | nil=>
  intro qs es b us h a H hp R
  simp[iR]at h
  subst h
  cases qs with
  | nil=>exact⟨rfl,us,rfl,a⟩
  | cons q qs=>simp at H
 | cons p o ih=>
  intro qs es b us h a H hp R
  cases qs with
  | nil=>simp at H
  | cons q qs=>
   obtain⟨i,v⟩:=p
   obtain⟨i',u⟩:=q
   obtain⟨T,U⟩:=hp 0 _ _ rfl rfl
   simp only at T U
   subst T
   simp only[iR]at h
   split at h
   ·rename_i S
    obtain⟨F,t⟩:=R _ (jn ..)
    simp only at F t
    have c:=U.cells
    have K:u.cells.size=z:=by have:=c.1;simp at this;omega
    have N:us.size=es.length * z:=by have:=a.len;simpa using this
    have hle:i * z+z<=us.size:=by
     have:(i+1) * z<=es.length * z:=mH _ S
     rw[m5]at this
     omega
    have m:=MC (i * z) u.cells.toList 0 us (by simp;omega)
    have A:u.cells.zipIdx.foldl (λcs (p:Value × Nat)=>cs.setIfInBounds (i * z+p.2) p.1) us=cD us (i * z) u.cells.toList:=by
     rw[Cb]at m
     rw[<-m,<-Nz,Array.toList_zipIdx]
    have E : ∀x∈u.cells.toList,x.oneCell'=true:=by
     intro x f
     obtain⟨j,G,L⟩:=sw f
     have D:j<v.cells.length:=by rw[c.1];exact G
     have:=c.2 j _ x (fc D) (by rw[<-L];exact fc G)
     exact this.one (by simp only[gD]at t;exact t _ (lY D))
    have y:Row M z (es.set i v) (cD us (i * z) u.cells.toList).toList:=by
     refine⟨?_,?_,?_,?_⟩
     ·simp only[Cg,Jr]
      rw[jd (by simp;omega),N]
     ·intro e d
      rcases List.mem_or_eq_of_mem_set d with h | h
      ·exact a.Jd e h
      ·rw[h];exact F
     ·intro x f
      simp only[cD,nR]at f
      rcases f with (h | h) | h
      ·exact a.one x (zH h)
      ·exact E x h
      ·exact a.one x (Fv h)
     ·intro k j e x d f
      have Z:k<es.length:=by have:=(iN.1 d).1;simpa using this
      rw[Ir,iq (by simp;omega)]
      by_cases O:i=k
      ·subst O
       rw[KM S]at d
       injection d with d
       subst d
       have G:j<v.cells.length:=(iN.1 f).1
       rw[if_pos ⟨by omega,by simp;omega⟩,JA]
       have C:j<u.cells.toList.length:=by rw[<-c.1];exact G
       exact⟨u.cells.toList[j],fc C,c.2 j x _ f (fc C)⟩
      ·rw[KJ O]at d
       have G:j<z:=by
        rw[<-a.Jd e (fL d)]
        exact(iN.1 f).1
       obtain⟨Y,Q,J⟩:=a.vr k j e x d f
       rw[if_neg]
       ·exact⟨Y,by simpa using Q,J⟩
       ·simp only[Cg,K]
        rcases NA O with h | h
        ·have:(i+1) * z<=k * z:=mH _ h
         rw[m5]at this
         omega
        ·have:(k+1) * z<=i * z:=mH _ h
         rw[m5]at this
         omega
    obtain⟨W,l,X,V⟩:=ih qs (es.set i v) b (cD us (i * z) u.cells.toList) h y (by simpa using H) (λk p q n I=>hp (k+1) p q n I) (λp n=>R p (il _ n))
    refine⟨by rw[W];simp,l,?_,V⟩
    simp only[Instr.fill]
    rw[if_neg (by simp;omega)]
    rw[<-X,<-A]
   ·cases h
theorem AE{zs:Array Value}{n:Nat}(c:0<zs.size):((Array.range (n * zs.size)).map (zs[· % zs.size]!)).toList=(List.replicate n zs.toList).flatten:=by
 apply Ju
 intro k
 rcases fm k (n * zs.size)with a | a
 ·have b:k % zs.size<zs.size:=Nat.mod_lt _ c
  have f:k / zs.size<n:=(Nat.div_lt_iff_lt_mul c).2 a
  have d:((Array.range (n * zs.size)).map (zs[· % zs.size]!)).toList[k]?=some zs[k % zs.size]:=by
   simp[a,b,getElem!_pos]
  rw[d]
  have : ∀n k,k<n * zs.size->(List.replicate n zs.toList).flatten[k]?=zs.toList[k % zs.size]?:=by
   intro n
   induction n with
   | zero=>intro k a;simp at a
   | succ n e=>
    intro k a
    rw[NF,List.flatten_cons]
    rcases fm k zs.size with h | h
    ·rw[nS (by simpa using h),Nat.mod_eq_of_lt h]
    ·rw[pf (by simpa using h),Cg,e (k - zs.size) (by rw[m5]at a;omega)]
     congr 1
     rw[<-Nat.mod_eq_sub_mod h]
  rw[this n k a]
  simp[b]
 ·rw[zI (by simpa using a),zI (by simpa using a)]
theorem GQ{t:TypeId}{n:Nat}(S:ic M ι g w){f:List (Nat × AV)}{qs:Array (Nat × Value)}{b:bz}(h:mkSlice P g t n f=some b)(O:f.length=qs.toList.length)
 (hp : ∀(i:Nat) p q,f[i]?=some p->qs.toList[i]?=some q->p.1=q.1/\VR M ι p.2 q.2) :
 b.arr=true/\b.kH=false/\b.es.length=n /\∃e arr,(Instr.buildSlice t n qs).run P w = .ok (.slice (some ⟨w.heap.size,0,none⟩) n n) (w.alloc (.cells arr e))/\arr.size=n * b.esz /\
  Row (nd M ι g w (cq g (f.map (·.2)))) b.esz b.es arr.toList:=by
 unfold mkSlice at h
 split at h
 ·cases h
 ·rename_i e R
  split at h
  ·rename_i N z s y V G
   obtain⟨J,h⟩:=fB.1 h
   obtain⟨Y,X,U,K,C⟩:=J
   simp only[bO]at h
   obtain⟨es,D,rfl⟩:=h
   obtain⟨it,u,o,A,hu⟩:=uZ V
   obtain⟨W,m,L⟩:=yP G
   rw[o]at m;cases m
   have k:=jN (M:=nd M ι g w (cq g (f.map (·.2)))) (ι:=ek) hu
   have v:u.cells.size=s:=by have:=k.cells.1;simp at this;omega
   have c:=Row.replicate k U K n
   obtain⟨I,T⟩:=JE S y O hp
   have d:Row (nd M ι g w (cq g (f.map (·.2)))) s (List.replicate n z) ((Array.range (n * s)).map (u.cells[· % u.cells.size]!)).toList:=by
    have:=AE (zs:=u.cells) (n:=n) (by omega)
    rw[v]at this
    rw[v,this]
    exact c
   obtain⟨H,l,Q,F⟩:=Km N qs.toList (List.replicate n z) es _ D d I T (by
    intro p j
    simp only[gD,bh,decide_eq_true_eq]at C
    exact⟨(C p j).1,by simp only[gD];exact(C p j).2⟩)
   refine⟨rfl,rfl,by simpa using H,e,l,?_,?_,F⟩
   ·have E : ¬16777216<n * s:=by omega
    have a:Instr.fill (λi=>some (i * s,s)) ((Array.range (n * s)).map ((if n * s=0 then #[] else u.cells)[· % (if n * s=0 then #[] else u.cells).size]!)) qs.toList=some l:=by
     rw[<-Q]
     congr 1
     by_cases h:n * s=0
     ·simp[h]
     ·rw[if_neg h]
    simp only[Instr.buildSlice,Sem.run_bind,bB (iI R),Result.andThen_ok,run_sizeOf G,gt_iff_lt]
    rw[if_neg E]
    by_cases x:n * s=0
    ·rw[if_pos x]at a ⊢
     simp only[pure_bind]
     rw[a]
     simp[newRow]
    ·rw[if_neg x]at a ⊢
     simp only[Sem.run_bind,zeroValue,typeInfo,o,A,run_program,Result.andThen_ok,Sem.run_pure,a]
     simp[newRow]
   ·rw[<-Cg,F.len,H]
    simp
  ·cases h
theorem EC{P:Program}{g:da}{t:TypeId}{n:Nat}{c:List (Nat × AV)}{b:bz}(h:mkSlice P g t n c=some b):0<b.esz:=by
 unfold mkSlice at h
 split at h
 ·cases h
 ·split at h
  ·obtain⟨a,h⟩:=fB.1 h
   obtain⟨_,_,rfl⟩:=bO.1 h
   exact a.1
  ·cases h
theorem GJ(z:ic M ι g w)(I:r.k=0)(J:ι r=none){d:Bool}{t:TypeId}{n:Nat}{l:List (Nat × AV)}{qs:Array (Nat × Value)}{x:AV}{A:List bz}
 (h:im P d g r t n (some l)=some (x,A)) (H:l.length=qs.toList.length)
 (hp : ∀(i:Nat) p q,l[i]?=some p->qs.toList[i]?=some q->p.1=q.1/\VR M ι p.2 q.2) :
 ∃u w',(Instr.buildSlice t n qs).run P w = .ok u w'/\jx M ι g w r x A u w':=by
 simp only[im]at h
 obtain⟨y,h⟩:=fB.1 h
 simp only[bO]at h
 obtain⟨b,C,h⟩:=h
 obtain⟨K,L,D,e,arr,G,F,E⟩:=GQ z C H hp
 have j:=MB y
 obtain⟨f,_⟩:=AB (R:=cq g (l.map (·.2))) z
 rw[j]at f
 have a:Ei w (w.alloc (.cells arr e)) (.cells arr e (0,0)):=⟨rfl,rfl,rfl,rfl⟩
 refine⟨_,_,G,jx.after j z ?_⟩
 have m:b=⟨b.esz,b.es,true,false⟩:=by cases b;simp_all
 cases d with
 | true=>
  simp at h
  obtain⟨rfl,rfl⟩:=h
  have:=Sf (r:=r) f a E (λk u o=>by simpa using o) (c:=n) (by omega) (cap:=some n) (by intro k v;cases v;rfl)
  rw[D]at this
  exact this
 | false=>
  simp at h
  obtain⟨rfl,rfl⟩:=h
  have:=yj f I J a E (λk u o=>by simpa using o) (n:=n) (c:=n) F (Dl.zero _ _) (by omega) (dc _) (cap:=some n) (by intro k v;cases v;rfl)
  rw[D,<-m]at this
  exact this (EC C)
end
end Go.Ab
namespace Go.Ab
section
variable{P:Program}{M:Mem}{ι:Map}{g:da}{w:World}{r:Ref}
inductive App (P:Program) (w:World) (t':Option TypeId) (x:Value) (e z:Nat) (n:Nat) (us:List Value):Prop
 | src {d:TypeDesc} (ht:t'.bind P.underlying=some d) (hd : ∀k,d ≠ .int k) (hl : ∀w':World,(Builtin.lenOf x).run P w' = .ok n w')
  (hf : ∀w':World,w'.heap=w.heap->(Builtin.firstCells z n x).run P w' = .ok us.toArray w')
 | zeros {k kx:IntKind} (u:Value) (ht:t'.bind P.underlying=some (.int k)) (hx:x = .int kx n) (hn:n<=bI) (hu : ∀w':World,(zeroValue e).run P w' = .ok u w') (hz:u.cells.size=z)
  (hus:us=(List.replicate n u.cells.toList).flatten)
theorem Dx{n:Nat}(h:n<=bI):IntKind.i64.wrap (n:Int)=n:=by
 unfold bI at h
 exact IntWalk.i64_in n ⟨by omega,by omega⟩
theorem El{u:Value}{n:Nat}:(Builtin.zeroCells u.cells n).toList=(List.replicate n u.cells.toList).flatten:=by
 unfold Builtin.zeroCells
 rcases Iq u.cells.size with h | h
 ·have:u.cells.toList=[]:=by simpa using KO h
  simp[h,this]
 ·exact AE h
theorem E2{m:Array TypeId}{t:TypeId}{ty:TypeId}(v:m[0]?=some t){e z l:Nat}(o:P.underlying t=some (.slice e))(q:aL P e=some z)(p:o9 P e=some l)
 {a:Option Addr} {len c:Nat} (h:len<=c) {x:Value} (J:App P w m[1]? x e z 0 []) :
 (Builtin.append_ m ty #[.slice a len c,x]).run P w = .ok (.slice a len c) w:=by
 simp only[o9,bO]at p
 obtain⟨i,y,rfl⟩:=p
 cases J with
 | src b hm G I=>
  rename_i d
  simp only[ig]at b
  obtain⟨t',f,b⟩:=b
  have j:=I w rfl
  have n:(match d with | .int _=>true | _=>false)=false:=by cases d<;>first | rfl | exact absurd rfl (hm _)
  cases a<;>simp[n,Builtin.append_,v,f,bB o,bB b,run_sizeOf q,G,h,j,storeCells]
 | zeros u b F E H D C=>
  rename_i k kx
  subst F
  simp only[ig]at b
  obtain⟨t',f,b⟩:=b
  have A:IntKind.i64.wrap 0=0:=by simpa using Dx E
  cases a<;>simp[Builtin.append_,v,f,bB o,bB b,run_sizeOf q,asInt,asIntOf,A,typeInfo,y,h,storeCells]
theorem u7{U:Array TypeId}{t:TypeId}{ty:TypeId}(W:U[0]?=some t){e z p:Nat}(Q:P.underlying t=some (.slice e))(N:aL P e=some z)(X:o9 P e=some p)
 {F:Value} (o : ∀w':World,(zeroValue e).run P w' = .ok F w') (hzs:F.cells.size=z)
 {a:Option Addr} {len c n:Nat} {x:Value} {olds us:List Value} (E : ∀w':World,w'.heap=w.heap->(Builtin.firstCells z len (.slice a len c)).run P w' = .ok olds.toArray w')
 (hA:App P w U[1]? x e z n us) (I:c<len+n) (b:(len+n) * p<=bI) (H:0<p) :
 ∃cap w',len+n<=cap/\(Builtin.append_ U ty #[.slice a len c,x]).run P w = .ok (.slice (some ⟨w.heap.size,0,none⟩) (len+n) cap) w' /\
  Ei w w' (.cells (olds.toArray++us.toArray++Builtin.zeroCells F.cells (cap - (len+n))) e (0,0)):=by
 simp only[o9,bO]at X
 obtain⟨i,O,rfl⟩:=X
 have j : ¬(9223372036854775807<(len:Int)+(n:Int)):=by
  have:(len+n) * 1<=(len+n) * i.bytes:=Nat.mul_le_mul_left _ H
  unfold bI at b
  omega
 have q : ¬(281474976710656<Builtin.nextslicecap (len+n) c * i.bytes):=by
  have:=growslice_fits (need:=len+n) (old:=c) (bytes:=i.bytes) I (by unfold bI at b;exact b)
  omega
 have v : ¬(len+n<=c):=by omega
 have f:=E w.drew rfl
 obtain⟨A,K⟩ : ∃A,A=olds.toArray:=⟨_,rfl⟩
 rw[<-K]at f ⊢
 refine⟨grownCap w (len+n) c e,w.drew.alloc (.cells (A++us.toArray++Builtin.zeroCells F.cells (grownCap w (len+n) c e - (len+n))) e (0,0)),grownCap_ge _ _ _ _,?_,⟨rfl,rfl,rfl,rfl⟩⟩
 cases hA with
 | src l hm hl hf=>
  rename_i d
  simp only[ig]at l
  obtain⟨t',m,l⟩:=l
  have D:=hf w.drew rfl
  obtain⟨B,L⟩ : ∃B,B=us.toArray:=⟨_,rfl⟩
  rw[<-L]at D ⊢
  have V:(match d with | .int _=>true | _=>false)=false:=by cases d<;>first | rfl | exact absurd rfl (hm _)
  simp[V,Builtin.append_,W,m,bB Q,bB l,run_sizeOf N,hl,v,D,f,j,q,typeInfo,O,Question.forced,o,newRow,grownCap]
 | zeros u l hx hn J S R=>
  rename_i k kx
  subst hx
  simp only[ig]at l
  obtain⟨t',m,l⟩:=l
  have Y:=Dx hn
  have Z:u=F:=by
   have T:=J w
   rw[o w]at T
   cases T
   rfl
  subst Z
  have C : ¬((n:Int)<0):=by omega
  have y : ¬(281474976710656<(n:Int) * (i.bytes:Int)):=by
   have T:n * i.bytes<=(len+n) * i.bytes:=mH _ (by omega)
   unfold bI at b
   have h2:((n * i.bytes:Nat):Int)=(n:Int) * (i.bytes:Int):=by simp
   omega
  have G:us.toArray=if n * z=0 then #[] else Builtin.zeroCells u.cells n:=by
   rw[R,<-El]
   by_cases h:n * z=0
   ·rw[if_pos h]
    have:(Builtin.zeroCells u.cells n).size=0:=by rw[size_zeroCells,S,h]
    rw[Array.toArray_toList]
    exact KO this
   ·rw[if_neg h]
  rw[G]
  by_cases h:n * z=0
  ·simp[Builtin.append_,W,m,bB Q,bB l,run_sizeOf N,asInt,asIntOf,Y,C,y,typeInfo,O,v,j,q,h,f,Question.forced,o,newRow,grownCap]
  ·simp[Builtin.append_,W,m,bB Q,bB l,run_sizeOf N,asInt,asIntOf,Y,C,y,typeInfo,O,v,j,q,h,f,Question.forced,o,newRow,grownCap]
theorem Bv{J:Array TypeId}{t:TypeId}{ty:TypeId}(N:J[0]?=some t){e z y:Nat}(G:P.underlying t=some (.slice e))(E:aL P e=some z)(O:o9 P e=some y)
 {b o len c n:Nat} {x:Value} {us:List Value} (Y:App P w J[1]? x e z n us) (q:len+n<=c) (p:(len+n) * y<=bI)
 {arr:Array Value} {T:TypeId} {fz:Nat × Nat} (C:w.heap[b]?=some (.cells arr T fz)) (V:o+len * z+us.length<=arr.size) (K : ∀j,j<arr.size ->¬(fz.1<=j/\(j<fz.2\/fz.2<fz.1))) (R : ∀u∈us,u.oneCell'=true) :
 (Builtin.append_ J ty #[.slice (some ⟨b,o,none⟩) len c,x]).run P w = .ok (.slice (some ⟨b,o,none⟩) (len+n) c) (cd w b (.cells (cD arr (o+len * z) us) T fz)):=by
 simp only[o9,bO]at O
 obtain⟨i,Q,rfl⟩:=O
 have f:=mO (P:=P) (o+len * z) us 0 arr w C (by simpa using V) K R
 rw[Cb]at f
 cases Y with
 | src l hm S X=>
  rename_i d
  simp only[ig]at l
  obtain⟨t',m,l⟩:=l
  have F:=X w rfl
  have L:(match d with | .int _=>true | _=>false)=false:=by cases d<;>first | rfl | exact absurd rfl (hm _)
  simp[L,Builtin.append_,N,m,bB G,bB l,run_sizeOf E,S,q,F,iL,f]
 | zeros u l W U D I H=>
  rename_i k kx
  subst W
  simp only[ig]at l
  obtain⟨t',m,l⟩:=l
  have C:=Dx U
  have A : ¬((n:Int)<0):=by omega
  have v : ¬(281474976710656<(n:Int) * (i.bytes:Int)):=by
   have R:n * i.bytes<=(len+n) * i.bytes:=mH _ (by omega)
   unfold bI at p
   have Z:((n * i.bytes:Nat):Int)=(n:Int) * (i.bytes:Int):=by simp
   omega
  have a:us=(if n * z=0 then #[] else Builtin.zeroCells u.cells n).toList:=by
   rw[H,<-El]
   by_cases h:n * z=0
   ·rw[if_pos h]
    have:(Builtin.zeroCells u.cells n).size=0:=by rw[size_zeroCells,I,h]
    rw[KO this]
   ·rw[if_neg h]
  by_cases h:n * z=0
  ·rw[if_pos h]at a
   simp only[Array.toList_empty]at a
   rw[a]at f ⊢
   simp[Builtin.append_,N,m,bB G,bB l,run_sizeOf E,asInt,asIntOf,C,A,v,typeInfo,Q,q,h,iL,f]
  ·rw[if_neg h]at a
   rw[a]at f ⊢
   simp[Builtin.append_,N,m,bB G,bB l,run_sizeOf E,asInt,asIntOf,C,A,v,typeInfo,Q,q,h,D,iL,f]
end
end Go.Ab
namespace Go.Ab
section
variable{P:Program}{M:Mem}{ι:Map}{g:da}{w:World}{r:Ref}
theorem Rt{t:TypeId}{y z x:AV}{q o:Value}(m:VR M ι y q)(p:VR M ι z o){l:List bz}(h:rj P t (some y) (some z)=some (x,l)) :
 l=[] /\∃u,(Instr.index t q o).run P w = .ok u w/\VR M ι x u:=by
 simp only[rj,fH]at h
 split at h
 ·rename_i k cs i a
  injection a with a
  subst a
  obtain⟨E,rfl⟩:=xW p i
  split at h
  ·rename_i n e C
   split at h
   ·rename_i s c
    obtain⟨d,h⟩:=fB.1 h
    simp only[jQ,bO]at h
    obtain⟨D,j,he⟩:=h
    cases he
    obtain⟨H,rfl,f⟩:=m.Qu
    obtain⟨u,hu,G⟩:=PV (w:=w) f j
    exact⟨rfl,u,by simp[Instr.index,asIntOf,bB (E9 C),d.1,d.2,run_sizeOf c,hu],G⟩
   ·cases h
  ·cases h
 ·rename_i k s i c
  injection c with c
  subst c
  obtain⟨E,rfl⟩:=xW p i
  cases m
  obtain⟨d,h⟩:=fB.1 h
  simp only[jQ,bO]at h
  obtain⟨D,⟨b,A,rfl⟩,he⟩:=h
  cases he
  refine⟨rfl,.int .u8 b.toNat,?_,.v rfl⟩
  have F:=d.2
  simp[Instr.index,asIntOf,bB (tJ d.1),F,A]
 ·cases h
theorem TW{f:Fn}{a b:List AV}{j m:List Value}(n:mc M ι a j)(l:mc M ι b m){x:AV}{k:List bz}(h:ue f (some a) (some b)=some (x,k)) :
 k=[]/\VR M ι x (.func f j.toArray m.toArray):=by
 simp only[ue,dW,xe]at h
 obtain⟨rfl,rfl⟩:=h
 exact⟨rfl,.fn (by simpa using n.1) (by simpa using l.1) (λi c u e d=>n.2 i c u e (by simpa using d)) (λi c u e d=>l.2 i c u e (by simpa using d))⟩
theorem TP{tm:List AV}{a:Act}(h:TR M ι tm a){c x y:Operand}{z:AV}{j:List bz}(b:GG (aO tm) c x y=some (z,j)) :
 j=[] /\∃u,(do pure (if <-asBool (a.eval c) then a.eval x else a.eval y):Sem Value).run P w = .ok u w/\VR M ι z u:=by
 unfold GG at b
 split at b
 ·rename_i e
  simp only[ig]at e
  obtain⟨k,f,d⟩:=e
  have:=Bc (aY h f) d
  simp only[jQ,bO]at b
  obtain⟨l,i,he⟩:=b
  cases he
  exact⟨rfl,_,by simp[this,asBool],aY h i⟩
 ·rename_i e
  simp only[ig]at e
  obtain⟨k,f,d⟩:=e
  have:=Bc (aY h f) d
  simp only[jQ,bO]at b
  obtain⟨l,i,he⟩:=b
  cases he
  exact⟨rfl,_,by simp[this,asBool],aY h i⟩
 ·cases b
theorem WM{m:Array TypeId}{ty:TypeId}{y x:AV}{n:Value}(f:VR M ι y n){j:List bz}(h:ZE P m[0]? y=some (x,j)) :
 j=[] /\∃u,(Builtin.cap_ m ty #[n]).run P w = .ok u w/\VR M ι x u:=by
 unfold ZE at h
 split at h
 ·rename_i e b
  obtain⟨t,d,b⟩:=ig.1 b
  cases h
  cases f
  exact⟨rfl,goInt 0,by simp[Builtin.cap_,d,bB (iI b)],.v rfl⟩
 ·rename_i e z es k b
  obtain⟨t,d,b⟩:=ig.1 b
  cases h
  cases f with | bW cell p q i hm C D=>
  rename_i a c
  have:=i k rfl
  subst this
  exact⟨rfl,goInt c,by simp[Builtin.cap_,d,bB (iI b)],.v rfl⟩
 ·rename_i e r o len k b
  obtain⟨t,d,b⟩:=ig.1 b
  cases h
  cases f with | cL H F p G q E i A=>
  rename_i l a c
  have:=i k rfl
  subst this
  exact⟨rfl,goInt c,by simp[Builtin.cap_,d,bB (iI b)],.v rfl⟩
 ·cases h
theorem WK{m:Array TypeId}{ty:TypeId}{y x:AV}{l:Value}(f:VR M ι y l){k:List bz}(h:HQ P m[0]? y=some (x,k)) :
 k=[] /\∃u,(Builtin.len_ m ty #[l]).run P w = .ok u w/\VR M ι x u:=by
 unfold HQ at h
 split at h
 ·cases h
 ·rename_i t d
  split at h
  ·rename_i n e o
   injection h with h
   injection h with b c
   subst b;subst c
   exact⟨rfl,goInt n,by simp[Builtin.len_,d,bB (E9 o)],.v rfl⟩
  ·split at h
   ·rename_i j
    split at h
    ·injection h with h
     injection h with b c
     subst b;subst c
     cases f
     exact⟨rfl,goInt _,by simp[Builtin.len_,d,bB (tJ j)],.v rfl⟩
    ·cases h
   ·obtain⟨j,h⟩:=fB.1 h
    obtain⟨e,he⟩:=gI.1 j
    have i:=iI he
    simp only[bO]at h
    obtain⟨n,a,h⟩:=h
    injection h with b c
    subst b;subst c
    refine⟨rfl,goInt n,?_,.v rfl⟩
    unfold wh at a
    split at a
    ·injection a with a;subst a;cases f;simp[Builtin.len_,d,bB i]
    ·injection a with a;subst a;cases f;simp[Builtin.len_,d,bB i]
    ·injection a with a;subst a;cases f;simp[Builtin.len_,d,bB i]
    ·cases a
theorem Jg{x:AV}{u:Value}{b:UInt8}(a:VR M ι x u)(h:byteOf x=some b) : ∃n:Int,u = .int .u8 n/\b=UInt8.ofNat n.toNat:=by
 unfold byteOf at h
 split at h
 ·injection h with h
  cases a
  exact⟨_,rfl,h.symm⟩
 ·cases h
theorem O7 : ∀(a:List Int)(s:ByteArray),a.foldl (λr n=>r.push (UInt8.ofNat n.toNat)) s=⟨s.data++(a.map λn=>UInt8.ofNat n.toNat).toArray⟩:=by
 intro a
 induction a with
 | nil=>intro s;simp
 | cons n a b=>
  intro s
  rw[vR,b]
  simp[ByteArray.push]
theorem LP(S:ic M ι g w)(hr:r.k=0)(hq:ι r=none){Q R:TypeId}{y x:AV}{u0:Value}(V:VR M ι y u0){bs:List bz}(h:gl P g r Q R (some y)=some (x,bs)) :
 ∃u w',(Go.convert Q R u0).run P w = .ok u w'/\jx M ι g w r x bs u w':=by
 unfold gl at h
 split at h
 ·rename_i e
  injection e with e
  subst e
  cases V
  obtain⟨p,h⟩:=fB.1 h
  simp only[bh]at p
  obtain⟨e,F,G⟩:=rE p.1
  injection h with h
  injection h with I W
  subst I;subst W
  exact⟨.string .empty,w,by rw[run_convert_bytes_string w Q R e none 0 0 F G (tJ p.2)];rfl,jx.same S (.v rfl)⟩
 ·rename_i s e
  injection e with e
  subst e
  cases V
  split at h
  ·rename_i p
   simp only[bh]at p
   injection h with h
   injection h with I W
   subst I;subst W
   exact⟨.string s,w,by simp[Go.convert,bB (tJ p.1),bB (tJ p.2)],jx.same S (.v rfl)⟩
  ·split at h
   ·rename_i p
    simp only[bh]at p
    obtain⟨hrm,h⟩:=fB.1 h
    injection h with h
    injection h with I W
    subst I;subst W
    obtain⟨e,F,G⟩:=rE p.2
    have hrun:=run_bytes_of_string (P:=P) w Q R e s (tJ p.1) F G
    have hcap:=grownCap_ge w s.size 0 e
    have hrow:Row M 1 (s.data.toList.map λb=>AV.v (.int .u8 b.toNat)) (s.data.toList.map λb=>Value.int .u8 b.toNat):=by
     refine⟨by simp,?_,?_,?_⟩
     ·intro e K
      simp only[tY]at K
      obtain⟨b,_,rfl⟩:=K
      rfl
     ·intro x hx
      simp only[tY]at hx
      obtain⟨b,_,rfl⟩:=hx
      rfl
     ·intro i j e x K hx
      simp only[oS,bO]at K
      obtain⟨b,hb,rfl⟩:=K
      cases j with
      | succ j=>simp[AV.cells]at hx
      | zero=>
       simp[AV.cells]at hx
       subst hx
       exact⟨.int .u8 b.toNat,by simp[hb],.v rfl⟩
    have hsize:(bytesRow s (grownCap w s.size 0 e)).size=grownCap w s.size 0 e:=by
     have:s.data.size=s.size:=rfl
     simp[bytesRow]
     omega
    have:=yj S hr hq (w':=w.drew.alloc (.cells (bytesRow s (grownCap w s.size 0 e)) e ((bytesRow s (grownCap w s.size 0 e)).size,(bytesRow s (grownCap w s.size 0 e)).size+1)))
     ⟨rfl,rfl,rfl,rfl⟩ hrow (by
      intro k u hu
      have E:=(iN.1 hu).1
      unfold bytesRow
      rw[NR (by simpa using E)]
      rw[<-hu]
      simp) (n:=grownCap w s.size 0 e) (c:=grownCap w s.size 0 e) (by rw[hsize];simp) ⟨by intro o ho h;simp only at h;omega,λh=>absurd h (by decide)⟩ (by simpa using hcap) (dc _) (cap:=none) (by intro k E;cases E) Nat.one_pos
    simp only[so,Cg]at this
    exact⟨_,_,hrun,this⟩
   ·cases h
 ·rename_i v hne1 hne2 e
  injection e with e
  subst e
  simp only[jQ,bO,ig]at h
  obtain⟨z,⟨u,hu,hz⟩,K⟩:=h
  cases K
  cases V
  exact⟨u,w,oe hu w,jx.same S (og hz)⟩
 ·rename_i y' hne1 hne2 N e
  injection e with e
  subst e
  split at h
  ·rename_i p
   simp only[bh]at p
   obtain⟨e,F,G⟩:=rE p.1
   split at h
   ·rename_i z es d
    simp only[bO]at h
    obtain⟨l,hl,h⟩:=h
    injection h with I W
    subst I;subst W
    have hz1:z=1\/es=[]:=by
     cases es with
     | nil=>exact .inr rfl
     | cons e0 es0=>
      left
      obtain⟨b,_,hb⟩:=lA hl 0 e0 rfl
      unfold byteOf at hb
      split at hb
      ·rename_i n
       cases V with
       | bW cell hs hcc' E hm K Y=>
        simp only[cS,dW,xe]at d
        obtain⟨rfl,rfl⟩:=d
        have:=K _ (jn ..)
        simpa [AV.cells] using this.symm
       | cL X Z hs ha hcc' hn E H=>
        rename_i r1 off1 Kf cap1 l1 a1 c1
        simp only[cS]at d
        split at d
        ·rename_i b1 L
         obtain⟨O,d⟩:=fB.1 d
         injection d with d
         injection d with h3 h4
         have D:=S.at X H L
         have hmem:(AV.v (.int .u8 n))∈b1.es:=by
          have:(AV.v (.int .u8 n))∈(b1.es.drop off1).take Kf:=by rw[h4];exact jn ..
          exact Fv (zH this)
         have:=D.cells _ hmem
         rw[<-h3,<-this]
         rfl
        ·cases d
       | v hv=>exact absurd rfl (N _)
       | _=>simp[cS]at d
      ·cases hb
    have hlen:=jT hl
    obtain⟨a,n,c,rfl,hn,A⟩ : ∃a n c,u0 = .slice (some a) n c/\es.length=n /\∀j,j<n ->∃b:Int,w.cell? (a.add j)=some (.int .u8 b)/\l[j]?=some (UInt8.ofNat b.toNat):=by
     rcases hz1 with rfl | rfl
     ·obtain⟨us,hsrc⟩:=oz (P:=P) S V (Nat.one_pos) d
      cases V with
      | bW cell hs p E hm K Y=>
       rename_i esz J cap a c
       simp only[cS,dW,xe]at d
       obtain⟨rfl,rfl⟩:=d
       refine⟨a,J.length,c,rfl,rfl,?_⟩
       intro j t
       have U:=fc t
       obtain⟨b,L,C⟩:=lA hl j _ U
       have hcl:=K _ (lY t)
       have hbv:J[j].cells=[J[j]]:=by
        unfold byteOf at C
        split at C
        ·rename_i heq;rw[heq];rfl
        ·cases C
       have hvr:=Y j 0 _ _ U (show J[j].cells[0]?=some J[j] by rw[hbv];rfl)
       obtain⟨nb,hnb,rfl⟩:=Jg hvr C
       refine⟨nb,?_,L⟩
       have:=S.mem _ _ _ (hm j 0 t (by omega)).1
       rw[lG (hs.resolve_right (by intro e;subst e;simp at t)),iL]
       rw[hnb]at this
       simpa using this
      | cL X Z hs ha p hn E H=>
       rename_i r1 m len cap l1 a c
       simp only[cS]at d
       split at d
       ·rename_i b1 L
        obtain⟨O,d⟩:=fB.1 d
        injection d with d
        injection d with h3 h4
        subst h4
        have D:=S.at X H L
        obtain⟨g1,g2⟩:=getElems b1.es m len O.2
        refine⟨a,len,c,rfl,g1,?_⟩
        intro j t
        have U:((b1.es.drop m).take len)[j]?=some b1.es[m+j]:=by rw[g2 j t];exact fc (by omega)
        obtain⟨b,hb1',C⟩:=lA hl j _ U
        have hcl:=D.cells _ (lY (by omega:m+j<b1.es.length))
        have hbv:b1.es[m+j].cells=[b1.es[m+j]]:=by
         unfold byteOf at C
         split at C
         ·rename_i heq;rw[heq];rfl
         ·cases C
        obtain⟨u,hu1,hu2,hu3⟩:=D.cell (m+j) (fc (by omega)) 0 b1.es[m+j] (by rw[hbv];rfl)
        obtain⟨nb,hnb,rfl⟩:=Jg hu3 C
        refine⟨nb,?_,hb1'⟩
        have hoff:a.off=m * l1.esz:=by
         rcases ha with h | h
         ·omega
         ·exact h
        rw[lG hs,iL,Z,hoff,D.esz,h3]
        rw[h3,hnb]at hu1
        simp only[Nat.mul_one,Cb]at hu1 ⊢
        exact hu1
       ·cases d
      | v hv=>exact absurd rfl (N _)
      | _=>simp[cS]at d
     ·cases V with
      | bW cell hs p E hm K Y=>
       rename_i esz J cap a c
       simp only[cS,dW,xe]at d
       obtain⟨rfl,rfl⟩:=d
       exact⟨a,0,c,rfl,rfl,λj t=>by omega⟩
      | cL X Z hs ha p hn E H=>
       rename_i r1 m len cap l1 a c
       simp only[cS]at d
       split at d
       ·obtain⟨O,d⟩:=fB.1 d
        injection d with d
        injection d with h3 h4
        have:len=0:=by
         have:=(getElems _ m len O.2).1
         rw[h4]at this
         simpa using this.symm
        exact⟨a,len,c,rfl,by simp[this],λj t=>by omega⟩
       ·cases d
      | v hv=>exact absurd rfl (N _)
      | _=>simp[cS]at d
    refine⟨.string ⟨l.toArray⟩,w,?_,jx.same S (.v rfl)⟩
    rw[run_convert_bytes_string w Q R e (some a) n c F G (tJ p.2)]
    let f:Nat->Int:=λj=>if h:j<n then (A j h).choose else 0
    have hf1 : ∀j,j<n->w.cell? (a.add j)=some (.int .u8 (f j)):=λj t=>by simp only[f,dif_pos t];exact(A j t).choose_spec.1
    have hf2 : ∀j,j<n->l[j]?=some (UInt8.ofNat (f j).toNat):=λj t=>by simp only[f,dif_pos t];exact(A j t).choose_spec.2
    have hload:=run_loadCells (P:=P) w a n (λj => .int .u8 (f j)) (λj t=>hf1 j t)
    have hns:(loadCells a n).run P w = .ok (((List.range n).map f).map (Value.int .u8)).toArray w:=by rw[hload];simp
    rw[run_bytesToString w a n c _ hns,O7]
    have:((List.range n).map f).map (λn=>UInt8.ofNat n.toNat)=l:=by
     apply Ju
     intro j
     rcases fm j n with t | t
     ·rw[hf2 j t];simp[t]
     ·rw[zI (by simpa using t),zI (by omega)]
    rw[this]
    have he0:ByteArray.empty.data = #[]:=rfl
    rw[he0]
    simp
   ·cases h
  ·replace h:=fB.1 h
   obtain⟨p,h⟩:=h
   simp only[bh,beq_iff_eq]at p
   obtain⟨he0,p⟩:=p
   subst he0
   obtain⟨e,F,G⟩:=rE p
   cases y with
   | cL r' m len cap=>
    obtain⟨k,E,hk1,h⟩ : ∃k,g r'=some k/\k.esz=1/\some (AV.cL r' m len cap,([]:List bz))=some (x,bs):=by
     cases E:g r' with
     | none=>simp only[E]at h;cases h
     | some k=>
      simp only[E]at h
      obtain⟨I,h⟩:=fB.1 h
      exact⟨k,rfl,I,h⟩
    injection h with h;injection h with I W;subst I;subst W
    have hy0:=V
    cases V with | cL hrl hbb hsp ha O hn hkk H=>
    rename_i l a c
    have D:=S.at hrl H E
    obtain⟨arr,T,fz,Y,hsz,hfz,hcells⟩:=D.heap
    have hlt:=D.lt
    have hfr:w.freeze ⟨a.block,arr.size,none⟩ 1=cd w l.b (.cells arr T (if fz.1 == fz.2 then (arr.size,arr.size+1) else (min fz.1 arr.size,max fz.2 (arr.size+1)))):=by
     unfold World.freeze cd
     rw[if_neg (by decide)]
     congr 1
     apply Er
     intro i
     rw[KK,hbb]
     by_cases hi:l.b=i
     ·subst hi
      rw[if_pos rfl,Y,Fw hlt]
      rfl
     ·rw[if_neg hi,Bo hi]
    have hfz' : ∀o,o<arr.size ->¬((if fz.1 == fz.2 then (arr.size,arr.size+1) else (min fz.1 arr.size,max fz.2 (arr.size+1)):Nat × Nat).1<=o/\(o<(if fz.1 == fz.2 then (arr.size,arr.size+1) else (min fz.1 arr.size,max fz.2 (arr.size+1)):Nat × Nat).2\/(if fz.1 == fz.2 then (arr.size,arr.size+1) else (min fz.1 arr.size,max fz.2 (arr.size+1)):Nat × Nat).2<(if fz.1 == fz.2 then (arr.size,arr.size+1) else (min fz.1 arr.size,max fz.2 (arr.size+1)):Nat × Nat).1)):=by
     intro o ho
     split
     ·simp only;omega
     ·rename_i hne
      simp only[beq_iff_eq]at hne
      have I:arr.size<=fz.1:=by
       rcases fm fz.1 arr.size with h | h
       ·exact absurd ⟨dc _,by omega⟩ (hfz.1 fz.1 h)
       ·exact h
      simp only
      omega
    obtain⟨h3,h4⟩:=S.mark E hrl Y hfr ⟨hfz',λI=>by omega⟩
    refine⟨.slice (some a) len c,_,?_,M,ι,hy0,by rw[ng];exact h3,by rw[ng];exact h4,λq hq _=>hq⟩
    have hsh:w.shape? a.block=some (T,arr.size):=by
     unfold World.shape?
     rw[hbb,Y]
    simp[Go.convert,bB F,bB G,markStringish,hsh]
   | _=>cases h
 ·rename_i e;cases e
theorem TT(hS:ic M ι g w)(hr:r.k=0)(hq:ι r=none){t:TypeId}{y z x:AV}{Z X:Value}(hy:VR M ι y Z)(hz:VR M ι z X){V:List bz}(h:Ez P r t (some y) (some z)=some (x,V)) :
 ∃u w',(Instr.makeSlice t Z X).run P w = .ok u w'/\jx M ι g w r x V u w':=by
 unfold Ez at h
 simp only[fH]at h
 split at h
 ·rename_i e l c Y hl hc
  obtain⟨kl,rfl⟩:=xW hy hl
  obtain⟨kc,rfl⟩:=xW hz hc
  split at h
  ·rename_i zv s b T S W
   obtain⟨q,h⟩:=fB.1 h
   obtain⟨c1,c2,c3,c4,c5,c6,c7⟩:=q
   injection h with h
   injection h with h1 h2
   subst h1;subst h2
   obtain⟨it,u,m,Q,hu⟩:=uZ T
   obtain⟨i',H,hsz⟩:=yP S
   rw[m]at H;cases H
   simp only[o9,m,Option.map_some,dW]at W
   have C:=jN (M:=M) (ι:=ek) hu
   have F:u.cells.size=s:=by have:=C.cells.1;simp at this;omega
   obtain⟨j,rfl⟩:=KN c1
   obtain⟨a,rfl⟩:=KN (Int.le_trans c1 c2)
   have G:IntKind.i64.wrap (j:Int)=j:=IntWalk.i64_in _ ⟨by omega,by omega⟩
   have K:IntKind.i64.wrap (a:Int)=a:=IntWalk.i64_in _ ⟨by omega,by omega⟩
   have I : ¬((a:Int)<0):=by omega
   have o : ¬(281474976710656<(it.bytes:Int) * (a:Int)):=by
    rw[W,Int.mul_comm]
    have e1:((bI:Nat):Int)=140737488355328:=rfl
    omega
   have L : ¬((j:Int)<0):=by omega
   have J : ¬((a:Int)<(j:Int)):=by omega
   have d:=AE (zs:=u.cells) (n:=a) (by omega)
   rw[F]at d
   have f:((Array.range (a * s)).map ((if a * s=0 then #[] else u.cells)[· % (if a * s=0 then #[] else u.cells).size]!)).toList=(List.replicate a u.cells.toList).flatten:=by
    by_cases N:a * s=0
    ·have R:a=0:=by
      rcases Nat.mul_eq_zero.1 N with h | h
      ·exact h
      ·omega
     simp[R]
    ·rw[if_neg N,F];exact d
   obtain⟨arr,i⟩ : ∃arr,arr=(Array.range (a * s)).map ((if a * s=0 then #[] else u.cells)[· % (if a * s=0 then #[] else u.cells).size]!):=⟨_,rfl⟩
   rw[<-i]at f
   have A:=Row.replicate C c6 c7 a
   have p:arr.size=a * s:=by rw[<-Cg,f];have:=A.len;simpa using this
   have D:(Instr.makeSlice t (.int kl j) (.int kc a)).run P w = .ok (.slice (some ⟨w.heap.size,0,none⟩) j a) (w.alloc (.cells arr e)):=by
    subst i
    by_cases N:a * s=0
    ·simp[Instr.makeSlice,bB (iI Y),asInt,asIntOf,typeInfo,m,G,K,I,o,L,J,run_sizeOf S,N,newRow]
    ·simp[Instr.makeSlice,bB (iI Y),asInt,asIntOf,typeInfo,m,G,K,I,o,L,J,run_sizeOf S,N,newRow,zeroValue,Q]
   refine⟨_,_,D,?_⟩
   have E:=Row.replicate C c6 c7 j
   have:=yj hS hr hq (w':=w.alloc (.cells arr e)) ⟨rfl,rfl,rfl,rfl⟩ E (by
    intro k v O
    rw[<-Ir,f]
    have U:(List.replicate a u.cells.toList)=List.replicate j u.cells.toList++List.replicate (a - j) u.cells.toList:=by rw[List.replicate_append_replicate];congr 1;omega
    rw[U,List.flatten_append,nS (iN.1 O).1]
    exact O) (n:=a) (c:=a) p (Dl.zero _ _) (by simp;omega) (dc _) (cap:=none) (by intro k O;cases O) c5
   simpa using this
  ·cases h
 ·cases h
end
end Go.Ab
namespace Go.Ab
section
variable{P:Program}{M:Mem}{ι:Map}{g:da}{w:World}{r:Ref}
theorem GP(W:ic M ι g w){t':Option TypeId}{e z:Nat}(Z:aL P e=some z)(N:0<z){x:AV}{Q:Value}(K:VR M ι x Q){new:List AV}
 (R : ¬((t'.bind P.underlying).isNone=true\/(t'.map (isInt P)).getD false≠isNum x)) (h:pv P g e x=some (z,new)) : ∃us,Row M z new us/\App P w t' Q e z new.length us:=by
 have D : ∃d,t'.bind P.underlying=some d/\(isNum x=false ->∀k,d ≠ .int k)/\(isNum x=true ->∃k,d = .int k):=by
  have f : ¬(t'.bind P.underlying).isNone=true:=λh=>R (.inl h)
  have b:(t'.map (isInt P)).getD false=isNum x:=Ae.1 λh=>R (.inr h)
  cases t' with
  | none=>simp at f
  | some t=>
   simp only[fH]at f ⊢
   cases hu:P.underlying t with
   | none=>simp[hu]at f
   | some d=>
    simp only[Option.map_some,cX]at b
    refine⟨d,rfl,?_,?_⟩
    ·intro J k y
     subst y
     rw[J]at b
     simp[isInt,hu]at b
    ·intro J
     rw[J]at b
     obtain⟨k,y⟩:=UT b
     rw[hu]at y
     exact⟨k,by simpa using y⟩
 obtain⟨d,C,o,L⟩:=D
 unfold pv at h
 split at h
 ·simp only[bO]at h
  obtain⟨S,I,h⟩:=h
  injection h with f b
  subst b
  cases K
  exact⟨[],Row.nil,.src C (o rfl) (λw'=>rfl) (λw' _=>rfl)⟩
 ·rename_i k n
  split at h
  ·rename_i Y S G I
   obtain⟨c,h⟩:=fB.1 h
   injection h with h
   injection h with f b
   subst f;subst b
   obtain⟨c1,c2,c3,c4⟩:=c
   obtain⟨m,rfl⟩:=KN c1
   obtain⟨k',rfl⟩:=L rfl
   cases K
   obtain⟨u,l,A⟩:=xL G w
   have F : ∀w':World,(zeroValue e).run P w' = .ok u w':=by
    intro w'
    obtain⟨X,f,b⟩:=xL G w'
    obtain⟨it,v,q,i,O⟩:=uZ G
    have U:(zeroValue e).run P w = .ok v w:=by simp[zeroValue,typeInfo,q,i]
    have V:(zeroValue e).run P w' = .ok v w':=by simp[zeroValue,typeInfo,q,i]
    rw[U]at l
    cases l
    exact V
   have O:=jN (M:=M) (ι:=ek) A
   have H:u.cells.size=S:=by have:=O.cells.1;simp at this;omega
   refine⟨_,Row.replicate O c3 c4 m,?_⟩
   rw[Nx]
   exact .zeros (kx:=k) u C (by simp) (by simpa using c2) F H (by simp)
  ·cases h
 ·rename_i T p
  have j:isNum x=false:=by
   unfold isNum
   split
   ·exact absurd rfl (p _ _)
   ·rfl
  obtain⟨us,a⟩:=oz (P:=P) W K N h
  refine⟨us,a.row,.src C (o j) a.lenOf λw' E=>?_⟩
  have:=a.first new.length w' (dc _) E
  rwa [gh (by rw[a.len];exact dc _)]at this
theorem BM{e z:Nat}(f:aL P e=some z){y:AV}(c:ff P e=some y)(h:y.cells.length=z) : ∃u,(∀w':World,(zeroValue e).run P w' = .ok u w')/\u.cells.size=z:=by
 obtain⟨it,v,a,b,d⟩:=uZ c
 refine⟨v,λw'=>by simp[zeroValue,typeInfo,a,b],?_⟩
 have:=(jN (M:=λ_ _=>none) (ι:=ek) d).cells.1
 simp at this
 omega
theorem AA{olds us:List Value}{a:Value}{z n1 n2 cap:Nat}(d:olds.length=n1 * z)(e:us.length=n2 * z)(f:a.cells.size=z)(h:n1+n2<=cap) :
 (olds.toArray++us.toArray++Builtin.zeroCells a.cells (cap - (n1+n2))).size=cap * z /\
 ∀(k:Nat) u,(olds++us)[k]?=some u->(olds.toArray++us.toArray++Builtin.zeroCells a.cells (cap - (n1+n2)))[k]?=some u:=by
 constructor
 ·simp only[Array.size_append,List.size_toArray,size_zeroCells,f,d,e,<-m5]
  congr 1
  omega
 ·intro k u c
  have b:=(iN.1 c).1
  rw[NR (by simpa using b)]
  simpa using c
theorem A6{a:Option Addr}{len c z:Nat}{es:List AV}{us:List Value}{u:Value}(d:u = .slice a len c)(e:es.length=len)(h:Src P M w u z es us) :
 ∀w':World,w'.heap=w.heap->(Builtin.firstCells z len (.slice a len c)).run P w' = .ok us.toArray w':=by
 intro w' b
 have:=h.first es.length w' (dc _) b
 rw[gh (by rw[h.len];exact dc _),d,e]at this
 exact this
theorem Oz(N:ic M ι g w)(hr:r.k=0)(hq:ι r=none){ts:Array TypeId}{ty:TypeId}{s x y:AV}{us ux:Value}(Z:VR M ι s us)(hx:VR M ι x ux){bs:List bz}
 (h:jB P g r ts[0]? ts[1]? s x=some (y,bs)) : ∃u w',(Builtin.append_ ts ty #[us,ux]).run P w = .ok u w'/\jx M ι g w r y bs u w':=by
 unfold jB at h
 split at h
 ·cases h
 ·rename_i e he
  simp only[ig]at he
  obtain⟨t,ht,he⟩:=he
  have hu:=iI he
  split at h
  ·cases h
  ·rename_i hc
   split at h
   ·rename_i z S zz J new hz hb hzz U
    split at h
    ·cases h
    ·rename_i i
     have V:J=z:=Ae.1 λh=>i (.inl h)
     have E:0<z:=Bm λh=>i (.inr (.inl h))
     have hb0:0<S:=Bm λh=>i (.inr (.inr (.inl h)))
     have R:zz.cells.length=z:=Ae.1 λh=>i (.inr (.inr (.inr h)))
     have hez':=V
     subst V
     obtain⟨us',C,hA⟩:=GP (w:=w) N hz E hx hc U
     have f:new=[] ->∀a len c,len<=c->us = .slice a len c->(Builtin.append_ ts ty #[us,ux]).run P w = .ok us w:=by
      intro F a len c hlc L
      subst F
      have:us'=[]:=Ch (by rw[C.len];simp)
      subst this
      rw[L]
      exact E2 ht hu hz hb hlc hA
     have fresh : ∀ {a:Option Addr} {len c:Nat} {es:List AV} {us0:List Value},us = .slice a len c->es.length=len->Row M J es us0 ->
      (∀w':World,w'.heap=w.heap->(Builtin.firstCells J len (.slice a len c)).run P w' = .ok us0.toArray w')->c<len+new.length->(len+new.length) * S<=bI ->
      ∃u w',(Builtin.append_ ts ty #[us,ux]).run P w = .ok u w'/\jx M ι g w r (.cL r 0 (len+new.length) none) [⟨J,es++new,true,false⟩] u w':=by
      intro a len c es us0 L D A Y O d
      obtain⟨zv,hzv,hzs⟩:=BM hz hzz R
      obtain⟨cap,w',W,Q,I⟩:=u7 (P:=P) (w:=w) (ty:=ty) ht hu hz hb hzv hzs Y hA O d hb0
      obtain⟨p,o⟩:=AA (olds:=us0) (us:=us') (n1:=len) (n2:=new.length) (cap:=cap) (by rw[A.len,D]) C.len hzs W
      refine⟨_,w',by rw[L];exact Q,?_⟩
      have:=yj N hr hq I (A.append C) o (n:=cap) (c:=cap) p (Dl.zero _ _) (by simp;omega) (dc _) (cap:=none) (by intro k T;cases T) E
      simp only[oT,D]at this
      exact this
     split at h
     ·
      cases Z
      split at h
      ·rename_i F
       injection h with h;injection h with p o;subst p;subst o
       exact⟨_,w,f F none 0 0 (dc _) rfl,jx.same N (.v rfl)⟩
      ·rename_i F
       obtain⟨d,h⟩:=fB.1 h
       injection h with h;injection h with p o;subst p;subst o
       have hpos:0<new.length:=Fu.2 F
       have:=fresh (a:=none) (len:=0) (c:=0) (es:=[]) (us0:=[]) rfl rfl Row.nil (λw' _=>rfl) (by omega) (by simpa using d)
       simpa using this
     ·
      rename_i n es cap
      split at h
      ·cases h
      ·rename_i H
       have H:n=J:=Ae.1 H
       subst H
       have q:=Z
       cases Z with | bW cell hsp K T hm hes hh=>
       rename_i a c
       split at h
       ·rename_i F
        injection h with h;injection h with p o;subst p;subst o
        exact⟨_,w,f F _ _ _ K rfl,jx.same N q⟩
       ·cases cap with
        | some k=>
         obtain⟨⟨O,d⟩,h⟩:=fB.1 h
         injection h with h;injection h with p o;subst p;subst o
         have hck:=T k rfl
         obtain⟨us0,j⟩:=oz (P:=P) (g:=g) (z:=n) (es:=es) N q E rfl
         exact fresh rfl rfl j.row (A6 rfl rfl j) (by omega) d
        | none=>cases h
     ·
      rename_i r' G len cap
      split at h
      ·rename_i b hb'
       split at h
       ·cases h
       ·rename_i m
        have hbz:b.esz=J:=Ae.1 λh=>m (.inl h)
        have X:b.arr=true:=by
         cases hh:b.arr with
         | true=>rfl
         | false=>exact absurd (.inr hh) m
        have q:=Z
        cases Z with | cL hrl hbb hsp ha K F T R=>
        rename_i l a c
        split at h
        ·rename_i hn'
         injection h with h;injection h with p o;subst p;subst o
         exact⟨_,w,f hn' _ _ _ K rfl,jx.same N q⟩
        ·cases cap with
         | some k=>
          obtain⟨⟨hle,O,d⟩,h⟩:=fB.1 h
          injection h with h;injection h with p o;subst p;subst o
          have hck:=T k rfl
          have D:cS g (.cL r' G len (some k))=some (J,(b.es.drop G).take len):=by
           simp only[cS,hb',X,hle,and_self,if_true,hbz]
          obtain⟨us0,j⟩:=oz (P:=P) N q E D
          have hl:=(getElems b.es G len hle).1
          exact fresh rfl hl j.row (A6 rfl hl j) (by omega) d
         | none=>cases h
      ·cases h
     ·cases h
   ·cases h
end
end Go.Ab
namespace Go.Ab
theorem ai.get_put(H:ai)(r q:Ref)(b:Option bz):(H.put r b).get q=if q=r then b else H.get q:=by
 induction H with
 | nil=>
  simp only[ai.put,ai.get]
  by_cases h:q=r
  ·rw[if_pos h.symm,if_pos h]
  ·rw[if_neg (sL h),if_neg h]
 | cons p H e=>
  obtain⟨r',b'⟩:=p
  simp only[ai.put]
  by_cases d:r'=r
  ·rw[if_pos d]
   simp only[ai.get]
   by_cases c:q=r
   ·rw[if_pos c.symm,if_pos c]
   ·rw[if_neg (sL c),if_neg c,if_neg (by rw[d];exact sL c)]
  ·rw[if_neg d]
   simp only[ai.get]
   by_cases a:r'=q
   ·rw[if_pos a,if_neg (by rw[<-a];exact d),if_pos a]
   ·rw[if_neg a,e,if_neg a]
theorem ai.mW(H:ai)(r:Ref)(b:Option bz)(h:(H.get r).isSome=true)(d t:Nat):(H.put r b).gen d t=H.gen d t:=by
 induction H with
 | nil=>simp[ai.get]at h
 | cons p H c=>
  obtain⟨r',b'⟩:=p
  simp only[ai.put]
  by_cases a:r'=r
  ·rw[if_pos a,a];rfl
  ·rw[if_neg a]
   simp only[ai.gen]
   simp only[ai.get,if_neg a]at h
   rw[c h]
theorem ai.eu(R:List Ref) : ∀(H:ai),(cJ H R).get=vK H.get R:=by
 induction R with
 | nil=>intro H;funext q;simp[cJ,vK]
 | cons r R e=>
  intro H
  funext q
  simp only[cJ]
  split
  ·rename_i b d
   rw[e]
   unfold vK
   simp only[m6,ai.get_put]
   by_cases a:q=r
   ·subst a
    simp[d]
   ·simp only[if_neg a]
    by_cases c:q∈R
    ·simp[c]
    ·simp[c,a]
  ·rename_i d
   rw[e]
   unfold vK
   simp only[m6]
   by_cases a:q=r
   ·subst a
    simp[d]
   ·by_cases c:q∈R
    ·simp[c]
    ·simp[c,a]
theorem ai.ky(R:List Ref) : ∀(H:ai)(d t:Nat),(cJ H R).gen d t=H.gen d t:=by
 induction R with
 | nil=>intro H d t;rfl
 | cons r R a=>
  intro H d t
  simp only[cJ]
  split
  ·rename_i b c
   rw[a,ai.mW H r _ (by rw[c];rfl)]
  ·exact a H d t
theorem ai.I7(r:Ref) : ∀(c:List bz)(k:Nat)(H:ai)(q:Ref),(keyed r k c H).get q=if q.d=r.d/\q.t=r.t/\q.g=r.g/\k<=q.k/\q.k<k+c.length then c[q.k - k]? else H.get q:=by
 intro c
 induction c with
 | nil=>intro k H q;rw[if_neg (by intro h;simp only[Fq]at h;omega)];rfl
 | cons b c i=>
  intro k H q
  simp only[keyed,i,ai.get,qZ]
  by_cases a:q.d=r.d/\q.t=r.t/\q.g=r.g
  ·by_cases e:q.k=k
   ·rw[if_neg (by omega),if_pos (by cases q;cases r;simp_all),if_pos ⟨a.1,a.2.1,a.2.2,by omega,by omega⟩]
    simp[e]
   ·by_cases f:k+1<=q.k/\q.k<k+1+c.length
    ·rw[if_pos ⟨a.1,a.2.1,a.2.2,f⟩,if_pos ⟨a.1,a.2.1,a.2.2,by omega,by omega⟩]
     rw[show q.k - k=(q.k - (k+1))+1 by omega]
     simp
    ·rw[if_neg (by omega),if_neg (by intro h;apply e;rw[<-h]),if_neg (by omega)]
  ·rw[if_neg (by intro h;exact a ⟨h.1,h.2.1,h.2.2.1⟩),if_neg (by intro h;apply a;rw[<-h];exact⟨rfl,rfl,rfl⟩),if_neg (by intro h;exact a ⟨h.1,h.2.1,h.2.2.1⟩)]
theorem ai.mV(r:Ref)(a:List bz)(H:ai):(keyed r 0 a H).get=sX H.get r a:=by
 funext q
 rw[ai.I7]
 unfold sX
 simp
theorem ai.mo(r:Ref) : ∀(c:List bz)(k:Nat)(H:ai)(d t:Nat),(keyed r k c H).gen d t=if d=r.d/\t=r.t/\c≠[] then r.g+1 else H.gen d t:=by
 intro c
 induction c with
 | nil=>intro k H d t;simp[keyed]
 | cons b c f=>
  intro k H d t
  simp only[keyed,f,ai.gen]
  by_cases h:d=r.d/\t=r.t
  ·obtain⟨rfl,rfl⟩:=h
   by_cases e:c=[]
   ·simp[e]
   ·simp[e]
  ·have i : ¬(r.d=d/\r.t=t):=λa=>h ⟨a.1.symm,a.2.symm⟩
   rw[if_neg (by intro a;exact h ⟨a.1,a.2.1⟩),if_neg i,if_neg (by intro a;exact h ⟨a.1,a.2.1⟩)]
def uK(ι:Map)(H:ai):Prop :=∀q l,ι q=some l->q.g<H.gen q.d q.t
theorem uK.fresh{ι:Map}{H:ai}(h:uK ι H)(d t k:Nat):ι ⟨d,t,H.gen d t,k⟩=none:=by
 cases a:ι ⟨d,t,H.gen d t,k⟩ with
 | none=>rfl
 | some l=>exact absurd (h _ l a) (Bl _)
section
variable{P:Program}{M:Mem}{ι:Map}{g:da}{w:World}{r:Ref}
def vM(M:Mem)(ι:Map)(H:ai)(w:World)(x:AV)(H':ai)(u:Value)(w':World):Prop:=
 ∃M' a,VR M' a x u/\ic M' a H'.get w'/\uh M ι H.get w M' a H'.get w'/\uK a H'
theorem jx.toW{H:ai}{x:AV}{b:List bz}{u:Value}{w':World}(y:uK ι H){d t:Nat}(h:jx M ι H.get w ⟨d,t,H.gen d t,0⟩ x b u w'):vM M ι H w x (keyed ⟨d,t,H.gen d t,0⟩ 0 b H) u w':=by
 obtain⟨M',c,o,z,p,v⟩:=h
 refine⟨M',c,o,by rw[ai.mV];exact z,by rw[ai.mV];exact p,?_⟩
 intro q l m
 rw[ai.mo]
 cases i:ι q with
 | some n=>
  have:=y q n i
  split
  ·rename_i j;rw[j.1,j.2.1]at this;exact Fs this
  ·exact this
 | none=>
  by_cases a : ∃k,k<b.length/\q = { (⟨d,t,H.gen d t,0⟩:Ref)with k:=k}
  ·obtain⟨k,a,rfl⟩:=a
   rw[if_pos ⟨rfl,rfl,by intro e;rw[e]at a;simp at a⟩]
   exact qY _
  ·rw[v q i (λk f e=>a ⟨k,f,e⟩)]at m
   cases m
theorem LX{cs new:List AV}{j:Nat}(h:j+new.length<=cs.length)(k:Nat):(patch cs j new)[k]?=if j<=k/\k<j+new.length then new[k - j]? else cs[k]?:=by
 unfold patch
 have c:(cs.take j).length=j:=by simp;omega
 rcases fm k j with a | a
 ·rw[Ce,nS (by omega),Bn,if_pos a,if_neg (by omega)]
 ·rcases fm k (j+new.length)with b | b
  ·rw[Ce,pf (by omega),nS (by omega),if_pos ⟨a,b⟩,c]
  ·rw[pf (by simp;omega),Ft,if_neg (by omega)]
   simp only[oT,c]
   congr 1
   omega
theorem RC{x:AV}(h:x.one=true):x.cells=[x]:=by
 cases x<;>first | rfl | (simp[AV.one]at h)
theorem JB{e c:AV}{j:Nat}{new:List AV}(h:sM e j new=some c)(i:new.all AV.one=true):j+new.length<=e.cells.length/\c.cells=patch e.cells j new:=by
 have a : ∀x,(∀cs,e ≠ .agg cs)->j=0->new=[x]->c=x->j+new.length<=e.cells.length/\c.cells=patch e.cells j new:=by
  intro x b l k d
  have f:e.cells=[e]:=by cases e<;>first | rfl | exact absurd rfl (b _)
  subst l;subst k;subst d
  simp only[Ad,List.all_nil,BN]at i
  rw[f,RC i]
  exact⟨by simp,by simp[patch]⟩
 unfold sM at h
 split at h
 ·obtain⟨f,h⟩:=fB.1 h
  injection h with h
  subst h
  exact⟨f,rfl⟩
 ·rename_i b
  split at h
  ·injection h with h
   exact a _ (λcs d=>b cs d) rfl rfl h.symm
  ·cases h
theorem FQ(W:ic M ι g w){k:bz}{l:Loc}{i j:Nat}{new A:List AV}(U:g r=some k)(V:ι r=some l)(C:0<l.esz)(J:k.kH=false)(E:jz k.es i j new=some A)(L:new.all AV.one=true)
 {us:List Value} (v:mc M (k.map ι) new us) :
 ∃arr T fz,w.heap[l.b]?=some (.cells arr T fz)/\i * k.esz+j+us.length<=arr.size/\(∀o,o<arr.size ->¬(fz.1<=o/\(o<fz.2\/fz.2<fz.1)))/\(∀u∈us,u.oneCell'=true) /\
  ic M ι (lI g r { k with es:=A}) (cd w l.b (.cells (cD arr (i * k.esz+j) us) T fz))/\uh M ι g w M ι (lI g r { k with es:=A}) (cd w l.b (.cells (cD arr (i * k.esz+j) us) T fz)):=by
 have q:=W.at V C U
 obtain⟨arr,T,fz,X,D,F,S⟩:=q.heap
 unfold jz at E
 split at E
 ·cases E
 ·rename_i e R
  simp only[bO]at E
  obtain⟨e',Q,rfl⟩:=E
  obtain⟨hle,d⟩:=JB Q L
  have hi:i<k.es.length:=(iN.1 R).1
  have O:=q.cells e (fL R)
  have hul:=v.1
  have a:i * k.esz+j+us.length<=arr.size:=by
   have h2:(i+1) * k.esz<=l.n * k.esz:=mH _ (by have:=q.len;omega)
   rw[m5]at h2
   rw[D]
   omega
  have f : ∀u∈us,u.oneCell'=true:=by
   intro u hu
   obtain⟨m,hm,K⟩:=sw hu
   have G:m<new.length:=by omega
   have:=v.2 m _ u (fc G) (by rw[<-K];exact fc hm)
   exact this.one (by simp only[gD]at L;exact L _ (lY G))
  obtain⟨Y,Z⟩:=W.write (k' := { k with es:=k.es.set i e'}) U V C (arr:=cD arr (i * k.esz+j) us) (T:=T) (fz:=fz) rfl rfl rfl (by rw[jd a];exact D)
   (by rw[jd a];exact F) (by simp;exact q.len)
   (by
    intro H N
    rcases List.mem_or_eq_of_mem_set N with h | h
    ·exact q.cells H h
    ·rw[h,d,<-O]
     simp[patch]
     omega)
   (by
    intro o x p
    have:=(q.frozen o x p).1
    rw[J]at this
    cases this)
   (by
    intro I y H x c p
    rw[iq a]
    by_cases t:i=I
    ·subst t
     rw[KM hi]at c
     injection c with c
     subst c
     rw[d,LX hle]at p
     split at p
     ·rename_i hr
      rw[if_pos (by omega),show i * k.esz+y - (i * k.esz+j)=y - j by omega]
      have z:y - j<us.length:=by omega
      exact⟨us[y - j],fc z,f _ (lY z),v.2 _ _ _ p (fc z)⟩
     ·rename_i hr
      rw[if_neg (by omega)]
      exact S i y e x R p
    ·rw[KJ t]at c
     have hj':y<k.esz:=by
      rw[<-q.cells H (fL c)]
      exact(iN.1 p).1
     rw[if_neg]
     ·exact S I y H x c p
     ·rcases NA t with h | h
      ·have:(i+1) * k.esz<=I * k.esz:=mH _ h
       rw[m5]at this
       omega
      ·have:(I+1) * k.esz<=i * k.esz:=mH _ h
       rw[m5]at this
       omega)
  exact⟨arr,T,fz,X,a,F.1,f,Y,Z⟩
theorem Ap{t:TypeId}{n:Nat}(f:aL P t=some n){b o:Nat}{u:Value}(e:u.cells.size=n){arr:Array Value}{T:TypeId}{fz:Nat × Nat}(d:w.heap[b]?=some (.cells arr T fz))
 (a:o+u.cells.toList.length<=arr.size) (c : ∀o,o<arr.size ->¬(fz.1<=o/\(o<fz.2\/fz.2<fz.1))) (h : ∀x∈u.cells.toList,x.oneCell'=true) :
 (Instr.storeAt t (.pointer (some ⟨b,o,none⟩)) u).run P w = .ok () (cd w b (.cells (cD arr o u.cells.toList) T fz)):=by
 have:=mO (P:=P) o u.cells.toList 0 arr w d (by simpa using a) c h
 simp only[Cb]at this
 simp[Instr.storeAt,Instr.sureAddr,storeVar,run_sizeOf f,e,this]
theorem tA(H:ai)(r:Ref)(k:bz):(H.put r (some k)).get=lI H.get r k:=by
 funext q
 rw[ai.get_put]
 rfl
theorem Qy{H:ai}(C:ic M ι H.get w)(hD:uK ι H){t:TypeId}{a x y:AV}{ua d:Value}(ha:VR M ι a ua)(hx:VR M ι x d){H':ai}(h:nT P H t (some a) (some x)=some (y,H')) :
 ∃w',(Instr.storeAt t ua d).run P w = .ok () w'/\vM M ι H w y H' undef w':=by
 unfold nT at h
 split at h
 ·rename_i r' i j x' n D X hn
  injection D with D;injection X with X
  subst D;subst X
  cases ha with | ptr J m=>
  rename_i l
  split at h
  ·rename_i b A
   obtain⟨⟨hxn,U,o⟩,h⟩:=fB.1 h
   obtain⟨l',p,z⟩:=C.live r' b A
   rw[J]at p;cases p
   have k:=hx.cells
   have u:d.cells.size=n:=by have:=k.1;simp at this;omega
   split at h
   ·rename_i c
    split at h
    ·rename_i y' K
     split at h
     ·cases h
     ·rename_i hnr
      obtain⟨N,h⟩:=fB.1 h
      simp only[bO]at h
      obtain⟨es',e,h⟩:=h
      injection h with V Q
      subst V;subst Q
      obtain⟨S,O⟩:=AB (R:=ay H.get depth x) C
      have hv:=Ci C depth x y' d K (λr hr=>hr) hx
      have f:vK H.get (ay H.get depth x) r'=some b:=by unfold vK;rw[if_neg hnr];exact A
      have E:=hv.cells
      obtain⟨arr,T,fz,G,I,F,L,Y,W⟩:=FQ S f J m o e N (us:=d.cells.toList) (by rw[bz.map,if_pos c];exact E)
      refine⟨cd w l.b (.cells (cD arr (i * b.esz+j) d.cells.toList) T fz),?_,nd M ι H.get w (ay H.get depth x),ι,.v rfl,?_,?_,?_⟩
      ·rw[z.esz]
       exact Ap hn u G I F L
      ·rw[tA,ai.eu];exact Y
      ·rw[tA,ai.eu];exact O.trans W
      ·intro q lq Z
       rw[ai.mW _ _ _ (by rw[ai.eu,f];rfl),ai.ky]
       exact hD q lq Z
    ·cases h
   ·rename_i c
    simp only[bO]at h
    obtain⟨es',e,h⟩:=h
    injection h with V Q
    subst V;subst Q
    obtain⟨arr,T,fz,G,I,F,L,Y,W⟩:=FQ C A J m o e U (us:=d.cells.toList) (by rw[bz.map,if_neg c];exact k)
    refine⟨cd w l.b (.cells (cD arr (i * b.esz+j) d.cells.toList) T fz),?_,M,ι,.v rfl,?_,?_,?_⟩
    ·rw[z.esz]
     exact Ap hn u G I F L
    ·rw[tA];exact Y
    ·rw[tA];exact W
    ·intro q lq Z
     rw[ai.mW _ _ _ (by rw[A];rfl)]
     exact hD q lq Z
  ·cases h
 ·cases h
end
end Go.Ab
namespace Go.Ab
section
variable{P:Program}{M:Mem}{ι:Map}{g:da}{w:World}{r:Ref}
def sE(g:da)(r:Ref):da:=λq=>if q=r then none else g q
theorem P5(b:ic M ι g w)(r:Ref):ic M ι (sE g r) w/\uh M ι g w M ι (sE g r) w:=by
 have a : ∀ {q k},sE g r q=some k->g q=some k:=by
  intro q k h
  unfold sE at h
  split at h
  ·cases h
  ·exact h
 exact⟨⟨b.mem,λq k h=>b.live q k (a h),λq d k k' l f h c=>b.inj q d k k' l f (a h) (a c)⟩,
  ⟨rfl,rfl,rfl,dc _,λ_ _ _=>rfl,λ_ _ _ h=>h,λ_ _ h=>h,λq k l h e => .inr ⟨q,k,l,a h,e,rfl⟩,λ_ _ _ h => .inl h⟩⟩
theorem IN(z:ic M ι g w){r q:Ref}{k k':bz}{l:Loc}(G:g r=some k)(C:ι r=some l)(hq:ι q=none){arr':Array Value}{w':World}
 (hw : ∃arr T fz,w.heap[l.b]?=some (.cells arr T fz)/\arr.size=arr'.size/\w'=cd w l.b (.cells arr' T fz)) (a:k'.esz=k.esz) (S:k'.arr=true) (D:k.arr=true) (Q:k'.kH=k.kH)
 (E : ∀(o:Nat) u,o<k.es.length * k.esz ->∀arr T fz,w.heap[l.b]?=some (.cells arr T fz)->arr[o]?=some u->arr'[o]?=some u)
 (R:k'.es.length<=l.n) (hle:k.es.length<=k'.es.length) (t : ∀e∈k'.es,e.cells.length=k.esz)
 (hc : ∀(i j:Nat) e x,k'.es[i]?=some e->e.cells[j]?=some x ->∃u,arr'[i * k.esz+j]?=some u/\u.oneCell'=true/\VR M ek x u) :
 ic M (kD ι q l) (lI (sE g r) q k') w'/\uh M ι g w M (kD ι q l) (lI (sE g r) q k') w':=by
 obtain⟨arr,T,fz,hh,J,c⟩:=hw
 obtain⟨l',O,v⟩:=z.live r k G
 rw[C]at O;cases O
 have L:=v.pos D
 replace v:=v.cellsOk L
 obtain⟨arr0,T0,fz0,U,h1,h2,h3⟩:=v.heap
 rw[hh]at U;cases U
 have W:=v.lt
 have m:=E7 (l:=l) hq
 have hqr:q≠r:=by intro e;rw[e,C]at hq;cases hq
 refine⟨⟨?_,?_,?_⟩,?_⟩
 ·intro b o x F
  by_cases H:l.b=b
  ·subst H
   have ho:=(v.frozen o x F).2
   have V:=z.mem _ _ _ F
   rw[lF hh]at V
   rw[lF (by rw[c];exact gk W)]
   exact E o x ho arr T fz hh V
  ·rw[World.cell?_of_block (w:=w) (by rw[c];exact eE H)]
   exact z.mem b o x F
 ·intro r' k1 p
  unfold lI at p
  split at p
  ·rename_i e
   subst e
   injection p with p
   subst p
   refine⟨l,by simp[kD],fY.Vo ⟨by rw[v.esz,a],⟨arr',T,fz,by rw[c];exact gk W,by rw[<-J,a];exact h1,by rw[<-J,a];exact h2,?_⟩,R,by rw[a];exact t,?_⟩ (by rw[a];exact L)⟩
   ·intro i j e x he F
    rw[a]
    obtain⟨u,hu,ho,hv⟩:=hc i j e x he F
    refine⟨u,hu,ho,?_⟩
    rw[bz.map,if_pos S]
    exact hv
   ·intro o x F
    rw[Q,a]
    have:=v.frozen o x F
    exact⟨this.1,Ep this.2 (mH _ hle)⟩
  ·rename_i hne
   unfold sE at p
   split at p
   ·cases p
   ·rename_i N
    obtain⟨f,Y,I⟩:=z.live r' k1 p
    have hnb:l.b≠f.b:=λe=>N (z.inj r' r k1 k f l p G Y C e.symm)
    exact⟨f,m r' f Y,I.cr (λ_ _ _ h=>h) m (by rw[c];exact eE hnb) I.frozen⟩
 ·have y : ∀ {r1 k1 f},lI (sE g r) q k' r1=some k1->kD ι q l r1=some f->(r1=q/\f=l)\/(r1≠q/\r1≠r/\g r1=some k1/\ι r1=some f):=by
   intro r1 k1 f h d
   unfold lI at h
   unfold kD at d
   split at h
   ·rename_i e;rw[if_pos e]at d;injection d with d;exact .inl ⟨e,d.symm⟩
   ·rename_i e
    rw[if_neg e]at d
    unfold sE at h
    split at h
    ·cases h
    ·rename_i e';exact .inr ⟨e,e',h,d⟩
  intro r1 r2 k1 k2 f l2 h1 h2 h3 h4 h5
  rcases y h1 h3 with ⟨e1,e2⟩ | ⟨e1,e2,e3,e4⟩<;>rcases y h2 h4 with ⟨Z,A⟩ | ⟨Z,A,K,X⟩
  ·rw[e1,Z]
  ·exact absurd (z.inj r r2 k k2 l l2 G K C X (by rw[<-e2];exact h5)).symm A
  ·exact absurd (z.inj r r1 k k1 l f G e3 C e4 (by rw[<-A];exact h5.symm)).symm e2
  ·exact z.inj r1 r2 k1 k2 f l2 e3 K e4 X h5
 ·refine⟨by rw[c];rfl,by rw[c];rfl,by rw[c];rfl,by rw[c];simp[cd],?_,λ_ _ _ h=>h,m,?_,λ_ _ _ h => .inl h⟩
  ·intro b _ hno
   rw[c]
   exact eE (hno r k l G C)
  ·intro r1 k1 f h d
   unfold lI at h
   unfold kD at d
   split at h
   ·rename_i e;rw[if_pos e]at d;injection d with d;subst d;exact .inr ⟨r,k,l,G,C,rfl⟩
   ·rename_i e
    rw[if_neg e]at d
    unfold sE at h
    split at h
    ·cases h
    ·exact .inr ⟨r1,k1,f,h,d,rfl⟩
theorem get_append(H:ai)(q r:Ref)(k:bz)(b:q≠r):ai.get ((q,some k) :: H.put r none)=lI (sE H.get r) q k:=by
 funext x
 simp only[ai.get,ai.get_put]
 unfold lI sE
 by_cases a:q=x
 ·subst a;simp
 ·rw[if_neg a,if_neg (sL a)]
theorem O6(H:ai)(r:Ref)(k:bz)(a:(H.get r).isSome=true)(d t:Nat) :
 ai.gen ((⟨r.d,r.t,H.gen r.d r.t,0⟩,some k) :: H.put r none) d t=if r.d=d/\r.t=t then H.gen r.d r.t+1 else H.gen d t:=by
 simp only[ai.gen]
 split
 ·rfl
 ·rw[ai.mW H r none a]
theorem NW{H:ai}(hS:ic M ι H.get w)(hD:uK ι H){ts:Array TypeId}{ty:TypeId}{s x y:AV}{us ux:Value}(hs:VR M ι s us)(hx:VR M ι x ux){H':ai}
 (h:mN P H ts[0]? ts[1]? s x=some (y,H')) : ∃u w',(Builtin.append_ ts ty #[us,ux]).run P w = .ok u w'/\vM M ι H w y H' u w':=by
 unfold mN at h
 split at h
 ·cases h
 ·rename_i e he
  simp only[ig]at he
  obtain⟨t,ht,he⟩:=he
  have hu:=iI he
  split at h
  ·cases h
  ·rename_i hc
   split at h
   ·rename_i z by' zz ez new hz hb hzz J
    split at h
    ·cases h
    ·rename_i f
     have hez:ez=z:=Ae.1 λh=>f (.inl h)
     have R:0<z:=Bm λh=>f (.inr (.inl h))
     have hb0:0<by':=Bm λh=>f (.inr (.inr (.inl h)))
     have hn0:new≠[]:=λh=>f (.inr (.inr (.inr (.inl h))))
     have hzl:zz.cells.length=z:=Ae.1 λh=>f (.inr (.inr (.inr (.inr h))))
     subst hez
     obtain⟨U,m,hA⟩:=GP (w:=w) hS hz R hx hc J
     split at h
     ·rename_i r' off len
      split at h
      ·rename_i b O
       obtain⟨⟨hoff,F,hbz,hlen,I⟩,h⟩:=fB.1 h
       injection h with h;injection h with h1 h2;subst h1;subst h2
       subst hoff
       subst hlen
       subst hbz
       have hs0:=hs
       cases hs with | cL hrl hbb hsp ha hcc hn hk W=>
       rename_i l a c
       have hq:=hD.fresh r'.d r'.t 0
       have S:(⟨r'.d,r'.t,H.gen r'.d r'.t,0⟩:Ref)≠r':=by intro e;rw[e,hrl]at hq;cases hq
       have hbk:=hS.at hrl W O
       obtain⟨arr,T,fz,hh,hsz,hfz,Q⟩:=hbk.heap
       have hpos:0<new.length:=Fu.2 hn0
       have hel:cS H.get (.cL r' 0 b.es.length none)=some (b.esz,(b.es.drop 0).take b.es.length):=by
        simp[cS,O,F]
       obtain⟨us0,D⟩:=oz (P:=P) hS hs0 R hel
       have hee:(b.es.drop 0).take b.es.length=b.es:=by simp
       rw[hee]at D
       have Y : ∀ι':Map,(∀q,ι q=none->q≠⟨r'.d,r'.t,H.gen r'.d r'.t,0⟩->ι' q=none)->uK ι' ((⟨r'.d,r'.t,H.gen r'.d r'.t,0⟩,some ⟨b.esz,b.es++new,true,b.kH⟩) :: H.put r' none):=by
        intro ι' hι q lq hql
        rw[O6 H r' _ (by rw[O];rfl)]
        cases E:ι q with
        | some l0=>
         have:=hD q l0 E
         split
         ·rename_i V;rw[<-V.1,<-V.2]at this;exact Fs this
         ·exact this
        | none=>
         by_cases hqq:q=⟨r'.d,r'.t,H.gen r'.d r'.t,0⟩
         ·subst hqq
          rw[if_pos ⟨rfl,rfl⟩]
          exact qY _
         ·rw[hι q E hqq]at hql
          cases hql
       by_cases X:b.es.length+new.length<=c
       ·
        have G:a.off=0:=by
         rcases ha with h | h
         ·omega
         ·simpa using h
        have hcn:0+c<=l.n:=by
         rcases hn with h | h
         ·omega
         ·exact h
        have hae:a=⟨l.b,0,none⟩:=by rw[lG hsp,hbb,G]
        have L:0+b.es.length * b.esz+U.length<=arr.size:=by
         rw[m.len,hsz,uN,<-m5]
         exact mH _ (by omega)
        have C:=Bv (P:=P) (w:=w) (ty:=ty) ht hu hz hb (b:=l.b) (o:=0) hA X I hh L hfz.1 m.one
        rw[uN]at C L
        obtain⟨h3,h4⟩:=IN (M:=M) (q:=⟨r'.d,r'.t,H.gen r'.d r'.t,0⟩) (k':=⟨b.esz,b.es++new,true,b.kH⟩) hS O hrl hq (arr':=cD arr (b.es.length * b.esz) U)
         ⟨arr,T,fz,hh,(jd L).symm,rfl⟩ rfl rfl F rfl
         (by
          intro o u ho arr1 T1 fz1 hh1 p
          rw[hh]at hh1;cases hh1
          rw[iq L,if_neg (by omega)]
          exact p)
         (by simp;omega) (by simp) (by
          intro N he1
          rcases nR.1 he1 with h | h
          ·exact hbk.cells N h
          ·exact m.Jd N h)
         (by
          intro i j N x1 E A
          rw[iq L]
          rcases fm i b.es.length with hlt | hge
          ·rw[nS hlt]at E
           have hj:j<b.esz:=by
            rw[<-hbk.cells N (fL E)]
            exact(iN.1 A).1
           have:=D1 hlt hj
           rw[if_neg (by omega)]
           obtain⟨u,p,ho,hv⟩:=Q i j N x1 E A
           rw[bz.map,if_pos F]at hv
           exact⟨u,p,ho,hv⟩
          ·rw[pf hge]at E
           obtain⟨u,p,hv⟩:=m.vr _ j N x1 E A
           have hlt:=(iN.1 p).1
           have hge':b.es.length * b.esz<=i * b.esz:=mH _ hge
           have hii:(i - b.es.length) * b.esz=i * b.esz - b.es.length * b.esz:=Fz _ _ _
           rw[if_pos (by omega),show i * b.esz+j - b.es.length * b.esz=(i - b.es.length) * b.esz+j by omega]
           exact⟨u,p,m.one u (fL p),hv⟩)
        refine⟨.slice (some a) (b.es.length+new.length) c,_,by rw[hae];exact C,M,_,?_,by rw[get_append H _ r' _ S];exact h3,by rw[get_append H _ r' _ S];exact h4,?_⟩
        ·exact .cL (l:=l) (by simp[kD]) hbb hsp (.inr (by rw[G];simp)) X (.inr hcn) (by intro k hk;cases hk) W
        ·exact Y _ (by intro q Z hne;simp[kD,hne,Z])
       ·
        obtain⟨zv,hzv,hzs⟩:=BM hz hzz hzl
        obtain⟨cap,w',K,C,hgrew⟩:=u7 (P:=P) (w:=w) (ty:=ty) ht hu hz hb hzv hzs (A6 (a:=some a) (len:=b.es.length) (c:=c) rfl rfl D) hA (by omega) I hb0
        obtain⟨h1,h2⟩:=AA (olds:=us0) (us:=U) (n1:=b.es.length) (n2:=new.length) (cap:=cap) D.len m.len hzs K
        obtain⟨h3,h4⟩:=P5 hS r'
        have v:=D.row.append m
        have J : ∀(i j:Nat) e x,(b.es++new)[i]?=some e->e.cells[j]?=some x ->∃u,(us0.toArray++U.toArray++Builtin.zeroCells zv.cells (cap - (b.es.length+new.length)))[i * b.esz+j]?=some u/\u.oneCell'=true/\VR M ek x u:=by
         intro i j N x1 E A
         obtain⟨u,p,hv⟩:=v.vr i j N x1 E A
         exact⟨u,h2 _ _ p,v.one u (fL p),hv⟩
        obtain⟨h5,h6⟩:=h3.alloc (q:=⟨r'.d,r'.t,H.gen r'.d r'.t,0⟩) hq hgrew ⟨b.esz,b.es++new,true,b.kH⟩ R cap h1 (Dl.zero _ _) (by simpa using K) v.Jd
         (by intro i j N x1 E A;rw[bz.map,if_pos rfl];exact J i j N x1 E A)
        refine⟨_,w',C,M,_,?_,by rw[get_append H _ r' _ S];exact h5,by rw[get_append H _ r' _ S];exact h4.trans h6,?_⟩
        ·exact .cL (l:=⟨w.heap.size,b.esz,cap⟩) (by simp[kD]) rfl rfl (.inr (by simp)) K (.inr (by simp)) (by intro k hk;cases hk) R
        ·exact Y _ (by intro q Z hne;simp[kD,hne,Z])
      ·cases h
     ·cases h
   ·cases h
theorem KW{H:ai}(hS:ic M ι g w){ts:Array TypeId}{ty:TypeId}{s x y:AV}{us ux:Value}(hs:VR M ι s us)(hx:VR M ι x ux){H':ai}
 (hag : ∀r',jA s=some r'->H.get r'≠none->g r'=H.get r') (hnw : ∀e p,pv P H.get e x=some p->pv P g e x=some p) (hfree : ∀r',jA s=some r'->H.get r'≠none->ι ⟨r'.d,r'.t,H.gen r'.d r'.t,0⟩=none)
 (h:mN P H ts[0]? ts[1]? s x=some (y,H')) : ∃r' b k',jA s=some r'/\H.get r'=some b/\(⟨r'.d,r'.t,H.gen r'.d r'.t,0⟩:Ref)≠r'/\H'=(⟨r'.d,r'.t,H.gen r'.d r'.t,0⟩,some k') :: H.put r' none /\
  ∃u w' S,(Builtin.append_ ts ty #[us,ux]).run P w = .ok u w'/\VR M S y u/\ic M S (lI (sE g r') ⟨r'.d,r'.t,H.gen r'.d r'.t,0⟩ k') w'/\uh M ι g w M S (lI (sE g r') ⟨r'.d,r'.t,H.gen r'.d r'.t,0⟩ k') w' /\
   ∀q,ι q=none->q≠⟨r'.d,r'.t,H.gen r'.d r'.t,0⟩->S q=none:=by
 unfold mN at h
 split at h
 ·cases h
 ·rename_i e he
  simp only[ig]at he
  obtain⟨t,ht,he⟩:=he
  have hu:=iI he
  split at h
  ·cases h
  ·rename_i hc
   split at h
   ·rename_i z by' zz ez new hz hb hzz J
    split at h
    ·cases h
    ·rename_i f
     have hez:ez=z:=Ae.1 λh=>f (.inl h)
     have U:0<z:=Bm λh=>f (.inr (.inl h))
     have hb0:0<by':=Bm λh=>f (.inr (.inr (.inl h)))
     have hn0:new≠[]:=λh=>f (.inr (.inr (.inr (.inl h))))
     have hzl:zz.cells.length=z:=Ae.1 λh=>f (.inr (.inr (.inr (.inr h))))
     subst hez
     obtain⟨V,m,hA⟩:=GP (w:=w) hS hz U hx hc (hnw _ _ J)
     split at h
     ·rename_i r' off len
      split at h
      ·rename_i b O
       obtain⟨⟨hoff,F,hbz,hlen,I⟩,h⟩:=fB.1 h
       injection h with h;injection h with h1 h2;subst h1;subst h2
       subst hoff
       subst hlen
       subst hbz
       have hs0:=hs
       cases hs with | cL Z hbb hsp ha hcc hn hk W=>
       rename_i l a c
       have hq:=hfree r' rfl (by rw[O];simp)
       have hbG:g r'=some b:=by rw[hag r' rfl (by rw[O];simp),O]
       have hqr:(⟨r'.d,r'.t,H.gen r'.d r'.t,0⟩:Ref)≠r':=by intro e;rw[e,Z]at hq;cases hq
       have hbk:=hS.at Z W hbG
       obtain⟨arr,T,fz,hh,hsz,hfz,Q⟩:=hbk.heap
       have hpos:0<new.length:=Fu.2 hn0
       have hel:cS g (.cL r' 0 b.es.length none)=some (b.esz,(b.es.drop 0).take b.es.length):=by
        simp[cS,hbG,F]
       obtain⟨us0,E⟩:=oz (P:=P) hS hs0 U hel
       have hee:(b.es.drop 0).take b.es.length=b.es:=by simp
       rw[hee]at E
       refine⟨r',b,⟨b.esz,b.es++new,true,b.kH⟩,rfl,O,hqr,rfl,?_⟩
       by_cases X:b.es.length+new.length<=c
       ·
        have G:a.off=0:=by
         rcases ha with h | h
         ·omega
         ·simpa using h
        have hcn:0+c<=l.n:=by
         rcases hn with h | h
         ·omega
         ·exact h
        have hae:a=⟨l.b,0,none⟩:=by rw[lG hsp,hbb,G]
        have L:0+b.es.length * b.esz+V.length<=arr.size:=by
         rw[m.len,hsz,uN,<-m5]
         exact mH _ (by omega)
        have D:=Bv (P:=P) (w:=w) (ty:=ty) ht hu hz hb (b:=l.b) (o:=0) hA X I hh L hfz.1 m.one
        rw[uN]at D L
        obtain⟨h3,h4⟩:=IN (M:=M) (q:=⟨r'.d,r'.t,H.gen r'.d r'.t,0⟩) (k':=⟨b.esz,b.es++new,true,b.kH⟩) hS hbG Z hq (arr':=cD arr (b.es.length * b.esz) V)
         ⟨arr,T,fz,hh,(jd L).symm,rfl⟩ rfl rfl F rfl
         (by
          intro o u ho arr1 T1 fz1 hh1 v
          rw[hh]at hh1;cases hh1
          rw[iq L,if_neg (by omega)]
          exact v)
         (by simp;omega) (by simp) (by
          intro N he1
          rcases nR.1 he1 with h | h
          ·exact hbk.cells N h
          ·exact m.Jd N h)
         (by
          intro i j N x1 R C
          rw[iq L]
          rcases fm i b.es.length with hlt | hge
          ·rw[nS hlt]at R
           have hj:j<b.esz:=by
            rw[<-hbk.cells N (fL R)]
            exact(iN.1 C).1
           have:=D1 hlt hj
           rw[if_neg (by omega)]
           obtain⟨u,v,ho,hv⟩:=Q i j N x1 R C
           rw[bz.map,if_pos F]at hv
           exact⟨u,v,ho,hv⟩
          ·rw[pf hge]at R
           obtain⟨u,v,hv⟩:=m.vr _ j N x1 R C
           have hlt:=(iN.1 v).1
           have hge':b.es.length * b.esz<=i * b.esz:=mH _ hge
           have hii:(i - b.es.length) * b.esz=i * b.esz - b.es.length * b.esz:=Fz _ _ _
           rw[if_pos (by omega),show i * b.esz+j - b.es.length * b.esz=(i - b.es.length) * b.esz+j by omega]
           exact⟨u,v,m.one u (fL v),hv⟩)
        refine⟨.slice (some a) (b.es.length+new.length) c,_,_,by rw[hae];exact D,?_,h3,h4,?_⟩
        ·exact .cL (l:=l) (by simp[kD]) hbb hsp (.inr (by rw[G];simp)) X (.inr hcn) (by intro k hk;cases hk) W
        ·intro q Y hne;simp[kD,hne,Y]
       ·
        obtain⟨zv,hzv,hzs⟩:=BM hz hzz hzl
        obtain⟨cap,w',K,D,hgrew⟩:=u7 (P:=P) (w:=w) (ty:=ty) ht hu hz hb hzv hzs (A6 (a:=some a) (len:=b.es.length) (c:=c) rfl rfl E) hA (by omega) I hb0
        obtain⟨h1,h2⟩:=AA (olds:=us0) (us:=V) (n1:=b.es.length) (n2:=new.length) (cap:=cap) E.len m.len hzs K
        obtain⟨h3,h4⟩:=P5 hS r'
        have A:=E.row.append m
        have J : ∀(i j:Nat) e x,(b.es++new)[i]?=some e->e.cells[j]?=some x ->∃u,(us0.toArray++V.toArray++Builtin.zeroCells zv.cells (cap - (b.es.length+new.length)))[i * b.esz+j]?=some u/\u.oneCell'=true/\VR M ek x u:=by
         intro i j N x1 R C
         obtain⟨u,v,hv⟩:=A.vr i j N x1 R C
         exact⟨u,h2 _ _ v,A.one u (fL v),hv⟩
        obtain⟨h5,h6⟩:=h3.alloc (q:=⟨r'.d,r'.t,H.gen r'.d r'.t,0⟩) hq hgrew ⟨b.esz,b.es++new,true,b.kH⟩ U cap h1 (Dl.zero _ _) (by simpa using K) A.Jd
         (by intro i j N x1 R C;rw[bz.map,if_pos rfl];exact J i j N x1 R C)
        refine⟨_,w',_,D,?_,h5,h4.trans h6,?_⟩
        ·exact .cL (l:=⟨w.heap.size,b.esz,cap⟩) (by simp[kD]) rfl rfl (.inr (by simp)) K (.inr (by simp)) (by intro k hk;cases hk) U
        ·intro q Y hne;simp[kD,hne,Y]
      ·cases h
     ·cases h
   ·cases h
theorem FZ{H:ai}(L:ic M ι H.get w)(G:uK ι H){d a:Nat}{t:TypeId}{n:Nat}{v:List (Nat × AV)}{qs:Array (Nat × Value)}{x:AV}{H':ai}
 (h:kq P H ⟨d,a,H.gen d a,0⟩ t n (some v)=some (x,H')) (X:v.length=qs.toList.length)
 (hp : ∀(i:Nat) p q,v[i]?=some p->qs.toList[i]?=some q->p.1=q.1/\VR M ι p.2 q.2) :
 ∃u w',(Instr.buildSlice t n qs).run P w = .ok u w'/\vM M ι H w x H' u w':=by
 simp only[kq,bO]at h
 obtain⟨b,K,h⟩:=h
 injection h with N Z
 subst N;subst Z
 obtain⟨h1,h2,U,e,arr,W,O,h6⟩:=GQ L K X hp
 obtain⟨E,S⟩:=AB (R:=cq H.get (v.map (·.2))) L
 have D:b=⟨b.esz,b.es,true,false⟩:=by cases b;simp_all
 have m:Ei w (w.alloc (.cells arr e)) (.cells arr e (0,0)):=⟨rfl,rfl,rfl,rfl⟩
 have F:=G.fresh d a 0
 have j:=yj (r:=⟨d,a,H.gen d a,0⟩) E rfl F m h6 (λk u Q=>by simpa using Q) (n:=n) (c:=n) O (Dl.zero _ _) (by omega) (dc _) (cap:=some n) (by intro k C;cases C;rfl) (EC K)
 rw[U,<-D]at j
 have V:uK ι (cJ H (cq H.get (v.map (·.2)))):=by
  intro q l F
  rw[ai.ky]
  exact G q l F
 obtain⟨M',o,g1,g2,g3,Y⟩:=j
 have f:ai.get (((⟨d,a,H.gen d a,0⟩:Ref),some b) :: cJ H (cq H.get (v.map (·.2))))=sX (vK H.get (cq H.get (v.map (·.2)))) ⟨d,a,H.gen d a,0⟩ [b]:=by
  rw[rP _ _ rfl]
  funext q
  simp only[ai.get,ai.eu]
  unfold lI
  by_cases A:q=⟨d,a,H.gen d a,0⟩
  ·rw[if_pos A.symm,if_pos A]
  ·rw[if_neg (sL A),if_neg A]
 refine⟨_,_,W,M',o,g1,?_,?_,?_⟩
 ·show ic M' o (ai.get (_ :: _)) _
  rw[f];exact g2
 ·show uh M ι H.get w M' o (ai.get (_ :: _)) _
  rw[f];exact S.trans g3
 ·intro q l y
  simp only[ai.gen,ai.ky]
  cases I:ι q with
  | some T=>
   have:=G q T I
   split
   ·rename_i J;rw[<-J.1,<-J.2]at this;exact Fs this
   ·exact this
  | none=>
   by_cases C:q=⟨d,a,H.gen d a,0⟩
   ·subst C
    rw[if_pos ⟨rfl,rfl⟩]
    exact qY _
   ·rw[Y q I (λk z e=>C (by rw[e];simp at z;rw[z]))]at y
    cases y
theorem Row.sub{z es us}(h:Row M z es us)(n:Nat):Row M z (es.take n) (us.take (n * z)):=by
 refine⟨?_,λe a=>h.Jd e (zH a),λx b=>h.one x (zH b),?_⟩
 ·rw[tv,tv,h.len]
  rcases Nat.le_total n es.length with hle | hle
  ·rw[FH hle,FH (mH _ hle)]
  ·rw[Nu hle,Nu (mH _ hle)]
 ·intro i j e x a b
  rw[Bn]at a
  split at a
  ·rename_i c
   obtain⟨u,hu,f⟩:=h.vr i j e x a b
   have d:j<z:=by
    rw[<-h.Jd e (fL a)]
    exact(iN.1 b).1
   refine⟨u,?_,f⟩
   rw[Bn,if_pos (D1 c d)]
   exact hu
  ·cases a
theorem SH{H:ai}(hS:ic M ι H.get w)(hD:uK ι H){ts:Array TypeId}{ty:TypeId}{s x y:AV}{us ux:Value}(hs:VR M ι s us)(hx:VR M ι x ux){H':ai}
 (h:KU P H ts[0]? s x=some (y,H')) : ∃u w',(Builtin.copy_ ts ty #[us,ux]).run P w = .ok u w'/\vM M ι H w y H' u w':=by
 unfold KU at h
 split at h
 ·cases h
 ·rename_i e he
  simp only[ig]at he
  obtain⟨t,ht,he⟩:=he
  have hu:=iI he
  split at h
  ·cases h
  ·rename_i z hz
   split at h
   ·cases h
   ·rename_i ez f C
    split at h
    ·cases h
    ·rename_i F
     have hez:ez=z:=Ae.1 λh=>F (.inl h)
     have hz0:0<z:=Bm λh=>F (.inr h)
     subst hez
     have hS0 : ∃p,Src P M w ux ez f p:=by
      split at C
      ·rename_i hn
       injection C with C
       injection C with h1 Z
       subst Z
       have:ux = .slice none 0 0:=by
        cases hx<;>simp[oh]at hn
        split at hn<;>simp_all
       subst this
       exact⟨[],by simp,by simp,by simp,by intro i j e x h;simp at h,λw'=>rfl,λn w' hn' _=>by simp[Builtin.firstCells]⟩
      ·exact oz hS hx hz0 C
     obtain⟨p,D⟩:=hS0
     split at h
     ·
      cases hs
      injection h with h;injection h with h1 Z;subst h1;subst Z
      have hf:=D.first 0 w (Dr _) rfl
      have hl:=D.lenOf w
      refine⟨.int .i64 0,w,?_,M,ι,.v rfl,hS,uh.refl,hD⟩
      simp only[Nat.zero_mul,List.take_zero]at hf
      have hm:f.length.min 0=0:=Nat.min_zero _
      simp[Builtin.copy_,ht,bB hu,run_sizeOf hz,hl,hm,hf,goInt]
     ·rename_i r' d len cap
      split at h
      ·rename_i b hb
       obtain⟨⟨O,hbz,hfr,hle⟩,h⟩:=fB.1 h
       injection h with h;injection h with h1 Z;subst h1;subst Z
       subst hbz
       cases hs with | cL hrl hbb hsp ha hcc hn hk Q=>
       rename_i l a c
       have E:=hS.at hrl Q hb
       obtain⟨arr,T,fz,hh,Y,hfz,J⟩:=E.heap
       obtain⟨n,L⟩ : ∃n,n=Nat.min f.length len:=⟨_,rfl⟩
       have X:n<=f.length:=by rw[L];exact Nat.min_le_left _ _
       have hn2:n<=len:=by rw[L];exact Nat.min_le_right _ _
       rw[<-L]
       have hf:=D.first n w X rfl
       have hl:=D.lenOf w
       have A:=D.row.sub n
       have K:(f.take n).length=n:=by rw[tv,FH X]
       have R:(p.take (n * b.esz)).length=n * b.esz:=by rw[A.len,K]
       have hbl:=E.len
       have m:d * b.esz+(p.take (n * b.esz)).length<=arr.size:=by
        rw[R,Y,<-m5]
        exact mH _ (by omega)
       have hes : ∀i,(b.es.take d++f.take n++b.es.drop (d+n))[i]?=if d<=i/\i<d+n then (f.take n)[i - d]? else b.es[i]?:=by
        intro i
        have:=LX (cs:=b.es) (new:=f.take n) (j:=d) (by rw[K];omega) i
        rw[K]at this
        rw[<-this]
        unfold patch
        rw[K]
       obtain⟨h3,h4⟩:=hS.write (k' := { b with es:=b.es.take d++f.take n++b.es.drop (d+n)}) hb hrl Q (arr:=cD arr (d * b.esz) (p.take (n * b.esz))) (T:=T) (fz:=fz) rfl rfl rfl
        (by rw[jd m];exact Y) (by rw[jd m];exact hfz) (by simp;omega)
        (by
         intro I he1
         simp only[nR]at he1
         rcases he1 with (h | h) | h
         ·exact E.cells I (zH h)
         ·exact A.Jd I h
         ·exact E.cells I (Fv h))
        (by
         intro o v W
         have:=(E.frozen o v W).1
         rw[hfr]at this
         cases this)
        (by
         intro i j I x1 S U
         rw[bz.map,if_pos O]
         simp only at S
         rw[hes i]at S
         rw[iq m,R]
         by_cases hr:d<=i/\i<d+n
         ·rw[if_pos hr]at S
          obtain⟨u,G,W⟩:=A.vr (i - d) j I x1 S U
          have hlt:=(iN.1 G).1
          rw[R]at hlt
          have h5:d * b.esz<=i * b.esz:=mH _ hr.1
          have h6:(i - d) * b.esz=i * b.esz - d * b.esz:=Fz _ _ _
          rw[if_pos (by omega),show i * b.esz+j - d * b.esz=(i - d) * b.esz+j by omega]
          exact⟨u,G,A.one u (fL G),W⟩
         ·rw[if_neg hr]at S
          have hj:j<b.esz:=by
           rw[<-E.cells I (fL S)]
           exact(iN.1 U).1
          rw[if_neg]
          ·obtain⟨u,G,ho,W⟩:=J i j I x1 S U
           rw[bz.map,if_pos O]at W
           exact⟨u,G,ho,W⟩
          ·intro hcon
           apply hr
           have e1':d * b.esz+n * b.esz=(d+n) * b.esz:=(m5 _ _ _).symm
           constructor
           ·rcases fm i d with h | h
            ·have:(i+1) * b.esz<=d * b.esz:=mH _ h
             rw[m5]at this
             omega
            ·exact h
           ·rcases fm i (d+n)with h | h
            ·exact h
            ·have:(d+n) * b.esz<=i * b.esz:=mH _ h
             omega)
       have N:(storeCells a (p.take (n * b.esz))).run P w = .ok () (cd w l.b (.cells (cD arr (d * b.esz) (p.take (n * b.esz))) T fz)):=by
        by_cases h0:n=0
        ·have e0:p.take (n * b.esz)=[]:=by rw[h0];simp
         rw[e0]
         have I:cD arr (d * b.esz) []=arr:=by simp[cD]
         rw[I]
         have e2:cd w l.b (.cells arr T fz)=w:=by
          unfold cd
          have:w.heap.setIfInBounds l.b (.cells arr T fz)=w.heap:=by
           apply Er
           intro k
           by_cases hk:l.b=k
           ·subst hk;rw[hh,Fw E.lt]
           ·rw[Bo hk]
          rw[this]
         rw[e2]
         simp[storeCells]
        ·have V:a.off=d * b.esz:=by
          rcases ha with h | h
          ·omega
          ·rw[h,E.esz]
         have:=mO (P:=P) (d * b.esz) (p.take (n * b.esz)) 0 arr w hh (by simpa using m) hfz.1 A.one
         rw[Cb]at this
         rw[lG hsp,hbb,V]
         exact this
       refine⟨.int .i64 n,_,?_,M,ι,.v rfl,by rw[tA];exact h3,by rw[tA];exact h4,?_⟩
       ·have hm:f.length.min len=n:=L.symm
        simp[Builtin.copy_,ht,bB hu,run_sizeOf hz,hl,hm,hf,N,goInt]
       ·intro q lq hq
        rw[ai.mW _ _ _ (by rw[hb];rfl)]
        exact hD q lq hq
      ·cases h
     ·cases h
theorem Qz{H:ai}(hS:ic M ι H.get w)(hD:uK ι H){ts:Array TypeId}{ty:TypeId}{s x y:AV}{us ux:Value}(hs:VR M ι s us)(hx:VR M ι x ux){H':ai}
 (h:FY P H ts[0]? s x=some (y,H')) : ∃u w',(Builtin.copy_ ts ty #[us,ux]).run P w = .ok u w'/\vM M ι H w y H' u w':=by
 unfold FY at h
 split at h
 ·rename_i z r' d len cap r2 p z7 cap2 he
  simp only[ig]at he
  obtain⟨e,⟨t,ht,he⟩,hz⟩:=he
  have hu:=iI he
  split at h
  ·rename_i b b2 hb hb2
   obtain⟨⟨N,Q,hbz,hbz2,hz0,hfr,hle0,O⟩,h⟩:=fB.1 h
   injection h with h;injection h with h1 h2;subst h1;subst h2
   subst hbz
   cases hs with | cL S hbb hsp ha hcc hn hk D=>
   rename_i l a c
   cases hx with | cL hrl2 hbb2 Y ha2 hcc2 Z hk2 hzl2=>
   rename_i l2 a2 c2
   obtain⟨n,J⟩ : ∃n,n=Nat.min z7 len:=⟨_,rfl⟩
   have hnl:n<=z7:=by rw[J];exact Nat.min_le_left _ _
   have hn2:n<=len:=by rw[J];exact Nat.min_le_right _ _
   rw[<-J]at O ⊢
   have hv2:VR M ι (.cL r2 p n none) (.slice (some a2) n c2) := .cL hrl2 hbb2 Y ha2 (Bk hnl hcc2) Z (λk hk=>by cases hk) hzl2
   have hel:cS H.get (.cL r2 p n none)=some (b2.esz,(b2.es.drop p).take n):=by
    simp only[cS,hb2]
    rw[if_pos ⟨Q,O⟩]
   rw[hbz2]at hel
   obtain⟨C,L⟩:=oz (P:=P) hS hv2 hz0 hel
   have hsl:((b2.es.drop p).take n).length=n:=by rw[tv,Dw];omega
   generalize (b2.es.drop p).take n=src at *
   have hn1:n<=src.length:=by omega
   have htk:src.take n=src:=gh (by omega)
   suffices F : ∃u w',(Builtin.copy_ ts ty #[.slice (some a) len c,.slice (some a2) z7 c2]).run P w = .ok u w'/\vM M ι H w (.v (.int .i64 n)) (H.put r' (some { b with es:=b.es.take d++src.take n++b.es.drop (d+n)})) u w' by
    rw[htk]at F;exact F
   have hcl:d+n<=l.n:=by
    rcases hn with h | h
    ·have:=(hS.at S D hb).len;omega
    ·omega
   have A:=hS.at S D hb
   obtain⟨arr,T,fz,hh,hsz,hfz,I⟩:=A.heap
   have hf:(Builtin.firstCells b.esz n (.slice (some a2) z7 c2)).run P w=_:=L.first n w hn1 rfl
   have hl:(Builtin.lenOf (.slice (some a2) z7 c2)).run P w = .ok z7 w:=by simp[Builtin.lenOf]
   have m:=L.row.sub n
   have htl:(src.take n).length=n:=by rw[tv,FH hn1]
   have R:(C.take (n * b.esz)).length=n * b.esz:=by rw[m.len,htl]
   have hbl:=A.len
   have f:d * b.esz+(C.take (n * b.esz)).length<=arr.size:=by
    rw[R,hsz,<-m5]
    exact mH _ (by omega)
   have hes : ∀i,(b.es.take d++src.take n++b.es.drop (d+n))[i]?=if d<=i/\i<d+n then (src.take n)[i - d]? else b.es[i]?:=by
    intro i
    have l1:(b.es.take d).length=d:=by rw[tv];omega
    by_cases c1:i<d
    ·rw[if_neg (by omega),Ce,nS (by omega),List.getElem?_take_of_lt c1]
    ·by_cases c2:i<d+n
     ·rw[if_pos ⟨by omega,c2⟩,Ce,pf (by omega),l1,nS (by omega)]
     ·rw[if_neg (by omega),pf (by rw[oT];omega),oT,l1,htl,Ft]
      congr 1;omega
   obtain⟨h3,h4⟩:=hS.write (k' := { b with es:=b.es.take d++src.take n++b.es.drop (d+n)}) hb S D (arr:=cD arr (d * b.esz) (C.take (n * b.esz))) (T:=T) (fz:=fz) rfl rfl rfl
    (by rw[jd f];exact hsz) (by rw[jd f];exact hfz) (by simp only[oT,tv,Dw];omega)
    (by
     intro G he1
     simp only[nR]at he1
     rcases he1 with (h | h) | h
     ·exact A.cells G (zH h)
     ·exact m.Jd G h
     ·exact A.cells G (Fv h))
    (by
     intro o v X
     have:=(A.frozen o v X).1
     rw[hfr]at this
     cases this)
    (by
     intro i j G x1 U V
     rw[bz.map,if_pos N]
     simp only at U
     rw[hes i]at U
     rw[iq f,R]
     by_cases hr:d<=i/\i<d+n
     ·rw[if_pos hr]at U
      obtain⟨u,E,X⟩:=m.vr (i - d) j G x1 U V
      have hlt:=(iN.1 E).1
      rw[R]at hlt
      have h5:d * b.esz<=i * b.esz:=mH _ hr.1
      have h6:(i - d) * b.esz=i * b.esz - d * b.esz:=Fz _ _ _
      rw[if_pos (by omega),show i * b.esz+j - d * b.esz=(i - d) * b.esz+j by omega]
      exact⟨u,E,m.one u (fL E),X⟩
     ·rw[if_neg hr]at U
      have hj:j<b.esz:=by
       rw[<-A.cells G (fL U)]
       exact(iN.1 V).1
      rw[if_neg]
      ·obtain⟨u,E,ho,X⟩:=I i j G x1 U V
       rw[bz.map,if_pos N]at X
       exact⟨u,E,ho,X⟩
      ·intro hcon
       apply hr
       have e1':d * b.esz+n * b.esz=(d+n) * b.esz:=(m5 _ _ _).symm
       constructor
       ·rcases fm i d with h | h
        ·have:(i+1) * b.esz<=d * b.esz:=mH _ h
         rw[m5]at this
         omega
        ·exact h
       ·rcases fm i (d+n)with h | h
        ·exact h
        ·have:(d+n) * b.esz<=i * b.esz:=mH _ h
         omega)
   have K:(storeCells a (C.take (n * b.esz))).run P w = .ok () (cd w l.b (.cells (cD arr (d * b.esz) (C.take (n * b.esz))) T fz)):=by
    by_cases h0:n=0
    ·have e0:C.take (n * b.esz)=[]:=by rw[h0];simp
     rw[e0]
     have G:cD arr (d * b.esz) []=arr:=by simp[cD]
     rw[G]
     have e2:cd w l.b (.cells arr T fz)=w:=by
      unfold cd
      have:w.heap.setIfInBounds l.b (.cells arr T fz)=w.heap:=by
       apply Er
       intro k
       by_cases hk:l.b=k
       ·subst hk;rw[hh,Fw A.lt]
       ·rw[Bo hk]
      rw[this]
     rw[e2]
     simp[storeCells]
    ·have W:a.off=d * b.esz:=by
      rcases ha with h | h
      ·omega
      ·rw[h,A.esz]
     have:=mO (P:=P) (d * b.esz) (C.take (n * b.esz)) 0 arr w hh (by simpa using f) hfz.1 m.one
     rw[Cb]at this
     rw[lG hsp,hbb,W]
     exact this
   refine⟨.int .i64 n,_,?_,M,ι,.v rfl,by rw[tA];exact h3,by rw[tA];exact h4,?_⟩
   ·have hm:Nat.min z7 len=n:=J.symm
    simp[Builtin.copy_,ht,bB hu,run_sizeOf hz,hl,hm,hf,K,goInt]
   ·intro q lq hq
    rw[ai.mW _ _ _ (by rw[hb];rfl)]
    exact hD q lq hq
  ·cases h
 ·cases h
end
end Go.Ab
