/-
  What the abstract machine's quiet operations give is what the model's give: the first part. No statement of a seat is proved here.
-/
import Derived.Lib.Overlaps
import Derived.Lib.SliceRun
import Derived.WalkSpells
import Derived.Test.YtehkjjcdkbcebaaGreatAbsCore
set_option linter.unusedVariables false
set_option linter.unusedSimpArgs false
set_option linter.unusedSectionVars false
set_option linter.unnecessarySimpa false
set_option linter.defProp false
namespace Go.Ab
section
def pX(g:cb)(r:Ref)(bs:List aP):cb:=λq=>if q.d=r.d/\q.t=r.t/\q.g=r.g/\q.k<bs.length then bs[q.k]? else g q
def lP(g:cb)(r:Ref):pX g r []=g:=by funext q;simp[pX]
def pd(g:cb)(r:Ref)(a:r.k=0)(b:aP):pX g r [b]=j3 g r b:=by
 funext q;unfold pX j3;by_cases h:q=r;·subst h;simp[a]
 rw[if_neg h,if_neg];intro c;apply h;cases q;cases r;simp_all
structure TR (M:Mem) (ι:Map) (tm:List AV) (a:Act):Prop where
 at_ : ∀t,VR M ι (dc tm t) (a.tmps.getD t undef)
def TR.mono{M ι tm a M' ι'}(h:TR M ι tm a)(d : ∀b o x,M b o=some x->M' b o=some x)(c : ∀r l,ι r=some l->ι' r=some l):TR M' ι' tm a:=
 ⟨λt=>(h.at_ t).mono d ι' c⟩
def aG{M ι tm a}(h:TR M ι tm a){x:Operand}{y:AV}(b:ar tm x=some y):VR M ι y (a.eval x):=by
 cases x with| tmp t=>simp[ar]at b;subst b;exact h.at_ t| const v=>simp only[ar]at b;exact gP b| global g=>simp[ar]at b| func f=>simp[ar]at b;subst b;exact .fn rfl rfl (λi c u d=>by simp at d) (λi c u d=>by simp at d)
def kI{M ι tm a}(h:TR M ι tm a){c:List Operand}{ys:List AV}(e:c.mapM (ar tm)=some ys):j7 M ι ys (c.map a.eval):=
 ⟨by simpa using fq e,λi y u f d=>by
  obtain⟨x,b,j⟩:=nc e i y f;simp only[lJ,b,Option.map_some,du]at d;subst d;exact aG h j⟩
def ij(M:Mem)(ι:Map)(g:cb)(w:World)(r:Ref)(x:AV)(bs:List aP)(u:Value)(w':World):Prop:=
 ∃M' a,VR M' a x u/\fk M' a (pX g r bs) w'/\qX M ι g w M' a (pX g r bs) w' /\∀q,ι q=none->(∀k,k<bs.length->q ≠ { r with k:=k})->a q=none
def ij.same{M ι g w r x u}(b:fk M ι g w)(h:VR M ι x u):ij M ι g w r x [] u w:=
 ⟨M,ι,h,by rw[lP];exact b,by rw[lP];exact qX.refl,λq a _=>a⟩
def fk.drew{M ι g w w'}(a:fk M ι g w)(d:w'.heap=w.heap):fk M ι g w':=
 ⟨λb o x h=>by rw[iQi (w:=w) (by rw[d])];exact a.mem b o x h,λr k h=>by
  obtain⟨l,e,c⟩:=a.live r k h;exact⟨l,e,c.bF (λ_ _ _ h=>h) (λ_ _ h=>h) (by rw[d]) c.frozen⟩,a.inj⟩
def FW(ro:Option Nat):Fence := { Fence.wide with round:=ro}
def dF(P:Program)(o:Oper)(a:Act)(w:World)(S:Value->World->Prop):Prop:=
 ∀(ro:Option Nat)(K:Act->World->Prop)(Q:Exit->Act->World->Prop),(∀u w',S u w'->K (a.put o.dst u) w')->o.wpIn (FW ro) 0 P a w K Q
def xV{P:Program}{o:Oper}{a:Operand->Value}{w w':World}{x:Next}(ro:Option Nat)(h:(execOp a o).run P w = .ok x w')(j : ∀d,x ≠ .defer d):(Oper.semAt ro a o).run P w = .ok x w':=by
 by_cases f : ∃c,o.op = .defer c
 ·exfalso;obtain⟨c,b⟩:=f;simp only[execOp,b]at h;rw[iQe]at h;cases i:(resolve a c o.type).run P w with
  | ok d k=>rw[i]at h;simp only[iQc,iQg,Result.ok.injEq]at h;exact j _ h.1.symm
  | halt e k=>rw[i]at h;cases h
 rw[Oper.semAt_eq ro a o λc b=>f ⟨c,b⟩];exact h
def dF.of_run{P o a w S u w'}(c:(execOp a.eval o).run P w = .ok (.value u) w')(h:S u w'):dF P o a w S:=by
 intro ro K Q b;refine⟨λ_ _=>trivial,?_⟩;rw[xV (x := .value u) (FW ro).round c (by intro d e;cases e)];exact b _ _ h
def dF.CU{P o a w S w'}(c:(execOp a.eval o).run P w = .ok .skip w')(h:S undef w'):dF P o a w S:=by
 intro ro K Q b;refine⟨λ_ _=>trivial,?_⟩;rw[xV (x := .skip) (FW ro).round c (by intro d e;cases e)];exact b _ _ h
def dF.Ep{P o a w S f args w0}(j:(execOp a.eval o).run P w = .ok (.enter f args) w0)(h:Calls P f args w0 λe w' =>∃u,e = .returned u/\S u w'):dF P o a w S:=by
 intro ro K Q b;refine⟨λ_ _=>trivial,?_⟩;rw[xV (x := .enter f args) (FW ro).round j (by intro d e;cases e)];refine⟨λh=>absurd h (by simp[FW,Fence.wide]),?_⟩;have i:CallsIn Fence.wide 0 P f args w0 λe w' =>∃u,e = .returned u/\S u w':=callsIn_wide.2 h;have c:CallsIn (FW ro) (0 - 1) P f args w0 λe w' =>∃u,e = .returned u/\S u w':=i;refine c.mono λe w' ⟨u,he,hS⟩=>?_;subst he;exact b _ _ hS
def dF.Rh{P o a w S l f tmps assign body w0}(i:(execOp a.eval o).run P w = .ok (.round l f tmps assign body) w0)(h:RoundIn (FW none) 0 P l f tmps assign body w0 λe w' =>∃u,e = .returned u/\S u w'):dF P o a w S:=by
 intro ro K Q b;refine⟨λ_ _=>trivial,?_⟩;rw[xV (x := .round l f tmps assign body) (FW ro).round i (by intro d e;cases e)];refine⟨λh=>absurd h (by simp[FW,Fence.wide]),?_⟩;have c:RoundIn (FW ro) (0 - 1) P l f tmps assign body w0 λe w' =>∃u,e = .returned u/\S u w':=h;refine c.mono λe w' ⟨u,he,hS⟩=>?_;subst he;exact b _ _ hS
def put_defers(a:Act)(d:Option Tmp)(u:Value):(a.put d u).defers=a.defers:=by cases d<;>rfl
def D6{P:Program}{s:Sem Value}{w w':World}{u:Value}(h:s.run P w = .ok u w'):(do pure (Next.value (<-s)):Sem Next).run P w = .ok (.value u) w':=by
 simp[h]
section
variable{P:Program}{M:Mem}{ι:Map}{g:cb}{w:World}{r:Ref}
def yn{x:AV}{u:Value}{b:Bool}(h:VR M ι x u)(a:BQ x=some b):u = .bool b:=by
 cases h<;>simp[BQ]at a;split at a<;>simp_all
def uC{x:AV}{u:Value}{n:Int}(h:VR M ι x u)(a:Ab.intOf x=some n) : ∃k,u = .int k n:=by
 cases h<;>simp[Ab.intOf]at a;split at a<;>simp_all
def Rm(C:fk M ι g w)(o:r.k=0)(A:ι r=none){e:TypeId}{n:Nat}{x:AV}{u:Value}(s:VR M ι x u)(v:x.cells.length=n)(p:x.cells.all AV.one=true)(h:0<n) :
 ∃w',(Instr.box e u).run P w = .ok (.pointer (some ⟨w.heap.size,0,none⟩)) w'/\ij M ι g w r (.ptr r 0 0) [⟨n,[x],false,false⟩] (.pointer (some ⟨w.heap.size,0,none⟩)) w':=by
 have a:=s.cells;have d:u.cells.size=n:=by have:=a.1;simp at this;omega
 obtain⟨D,t⟩:=C.alloc (q:=r) A (w':=w.alloc (.cells u.cells e)) (arr:=u.cells) (T:=e) (fz:=(0,0)) ⟨rfl,rfl,rfl,rfl⟩ ⟨n,[x],false,false⟩ h 1 (by simpa using d) (zD.zero _ _) (by simp) (by simp[v])
  (by
   intro i j E y f b;cases i with
   | succ i=>simp at f
   | zero=>
    simp at f;subst f;have m:j<u.cells.size:=by have:=(dB.1 b).1;omega
    refine⟨u.cells[j],by simp,?_,?_⟩;·have z:=a.2 j y u.cells[j] b (by simp[m]);exact z.one (by simp only[eC]at p;exact p y (dk b))
    simpa [aP.map] using a.2 j y u.cells[j] b (by simp[m]))
 refine⟨w.alloc (.cells u.cells e),by simp[Instr.box,newVar,newRow],M,_,?_,by rw[pd _ _ o];exact D,by rw[pd _ _ o];exact t,?_⟩;·have:=VR.ptr (M:=M) (ι:=jb ι r ⟨w.heap.size,n,1⟩) (r:=r) (i:=0) (j:=0) (l:=⟨w.heap.size,n,1⟩) (by simp[jb]) h;simpa using this
 intro q c B;have:q≠r:=by intro e;exact B 0 (by simp) (by rw[e];cases r;simp_all)
 simpa [jb,this] using c
def Ow(i:fk M ι g w)(l:r.k=0)(f:ι r=none){e:TypeId}{x:AV}{bs:List aP}(h:tn P r e=some (x,bs)) :
 ∃u w',(Instr.alloc e true (.tuple #[])).run P w = .ok u w'/\ij M ι g w r x bs u w':=by
 unfold tn at h;split at h
 ·rename_i z n d m;split at h
  ·rename_i a;cases h;obtain⟨u,hu,b⟩:=uo d w;obtain⟨w',c,j⟩:=Rm (P:=P) (e:=e) i l f (gP b) a.1 a.2.1 a.2.2;refine⟨_,w',?_,j⟩;have:(Instr.alloc e true (.tuple #[])).run P w=(Instr.box e u).run P w:=by simp[Instr.alloc,hu,Instr.box]
   rw[this];exact c
  cases h
 cases h
def TY(i:fk M ι g w)(l:r.k=0)(d:ι r=none){e:TypeId}{y x:AV}{b:Value}(f:VR M ι y b){bs:List aP}(h:Fp P r e (some y)=some (x,bs)) :
 ∃u w',(Instr.box e b).run P w = .ok u w'/\ij M ι g w r x bs u w':=by
 unfold Fp at h;split at h
 ·rename_i p n m o;cases m;split at h;·rename_i a;cases h;obtain⟨w',c,j⟩:=Rm (P:=P) (e:=e) i l d f a.1 a.2.1 a.2.2;exact⟨_,w',c,j⟩
  cases h
 cases h
def QR(k:fk M ι g w){t:TypeId}{y x:AV}{l:Value}(f:VR M ι y l){bs:List aP}(h:mP P g t (some y)=some (x,bs)) :
 bs=[] /\∃u,(Instr.loadAt t l).run P w = .ok u w/\VR M ι x u:=by
 unfold mP at h;split at h
 ·rename_i r' i j m n a d e;cases a;split at h;·rename_i b o;simp only[ik,bA]at h;obtain⟨p,c,a⟩:=h;cases a;exact⟨rfl,MZ d e k f o c⟩
  cases h
 ·rename_i esz es i j m n a d e;cases a;simp only[ik,bA]at h;obtain⟨p,c,a⟩:=h;cases a;exact⟨rfl,RJ d e k.mem f c⟩
 cases h
def MN{t:TypeId}{cs:List AV}{c:Array Value}{a:Nat}{x:AV}(d:j7 M ι cs c.toList)(h:xu P t cs a=some x) : ∃u,(part t c a).run P w = .ok u w/\VR M ι x u:=by
 unfold xu at h;split at h
 ·rename_i n f k;split at h
  ·rename_i j;cases h;refine⟨.agg (c.extract a (a+n)),by simp[part,xZ f,run_sizeOf k],VR.oe.2 ?_⟩;have:=(d.drop a).take n;have e:(c.extract a (a+n)).toList=(c.toList.drop a).take n:=by
    rw[Ko,Kt,GN]
   rw[e];exact this
  cases h
 ·rename_i f;have i:=(dB.1 h).1;have b:a<c.size:=by have:=d.1;simp at this;omega
  refine⟨c[a],by simp[part,xZ f,iG b],d.2 a x _ h (by simp[b])⟩
 cases h
def VR.NH{cs:List AV}{u:Value}(h:VR M ι (.agg cs) u) : ∃a,u = .agg a/\j7 M ι cs a.toList:=by
 cases h with | agg c b=>exact⟨_,rfl,VR.oe.1 (.agg c b)⟩
def FJ{t:TypeId}{f a:Nat}{e:TypeId}(h:pM P t f=some (a,e)) : ∃fs b,P.underlying t=some (.struct fs)/\fs[f]?=some b/\b.offset=a/\b.type=e:=by
 unfold pM at h;split at h;·rename_i fs d;simp only[bA]at h;obtain⟨b,c,he⟩:=h;cases he;exact⟨fs,b,d,c,rfl,rfl⟩
 cases h
def Ou{t:TypeId}{f:Nat}{y x:AV}{d:Value}(i:VR M ι y d){bs:List aP}(h:qN P t (some y) f=some (x,bs)) :
 bs=[] /\∃u,(Instr.field t d f).run P w = .ok u w/\VR M ι x u:=by
 unfold qN at h;split at h;·rename_i e o cs l a;cases a;simp only[ik,bA]at h;obtain⟨p,c,a⟩:=h;cases a;obtain⟨n,rfl,b⟩:=i.NH;obtain⟨fs,fd,j,m,rfl,rfl⟩:=FJ l;obtain⟨u,hu,k⟩:=MN (w:=w) b c;exact⟨rfl,u,by simp[Instr.field,bf j,m,asAgg,hu],k⟩
 cases h
def EI{t:TypeId}{f a s:Nat}(h:aC P t f=some (a,s)) : ∃fs b,P.underlying t=some (.struct fs)/\fs[f]?=some b/\b.offset=a/\av P b.type=some s:=by
 unfold aC at h;split at h;·rename_i c m i;simp only[bA]at h;obtain⟨n,l,he⟩:=h;cases he;obtain⟨fs,b,e,k,j,d⟩:=FJ i;exact⟨fs,b,e,k,j,d ▸ l⟩
 cases h
def Fo{t:TypeId}{f:Nat}{y x:AV}{c:Value}(k:VR M ι y c){bs:List aP}(h:iy P t (some y) f=some (x,bs)) :
 bs=[] /\∃u,(Instr.fieldAt t c f).run P w = .ok u w/\VR M ι x u:=by
 unfold iy at h;split at h
 ·rename_i p s z;obtain⟨fs,fd,v,B,rfl,q⟩:=EI z;split at h
  ·rename_i D;have m : ∀(b o:Nat),c = .pointer (some ⟨b,o,none⟩)->(Instr.fieldAt t c f).run P w = .ok (.pointer (some ⟨b,o+fd.offset,none⟩)) w:=by
    intro b o e;subst e;simp[Instr.fieldAt,bf v,B,Instr.sureAddr,fieldPlace,run_sizeOf q,show s≠0 by omega,fy]
   split at h
   ·rename_i r' i j a;cases a;cases h;cases k with | ptr A d=>
    rename_i l;exact⟨rfl,_,m _ _ rfl,by rw[Dj];exact .ptr A d⟩
   ·rename_i n es i j a;cases a;cases h;cases k with | iptr cell hm a C=>
    rename_i b o;exact⟨rfl,_,m _ _ rfl,by rw[show o+(i * n+j)+fd.offset=o+(i * n+(j+fd.offset)) by omega];exact .iptr cell hm a C⟩
   cases h
  cases h
 cases h
def fm{t e:TypeId}(h:de P t=some e):P.underlying t=some (.slice e):=by
 unfold de at h;split at h;·cases h;assumption
 cases h
def CP{t e:TypeId}{n:Nat}(h:lK P t=some (n,e)):P.underlying t=some (.array n e):=by
 unfold lK at h;split at h;·cases h;assumption
 cases h
def Fm(V:fk M ι g w){t:TypeId}{y z x:AV}{O W:Value}(K:VR M ι y O)(X:VR M ι z W){bs:List aP}(h:bI P g t (some y) (some z)=some (x,bs)) :
 bs=[] /\∃u,(Instr.indexAt t O W).run P w = .ok u w/\VR M ι x u:=by
 unfold bI at h;simp only[cR]at h;split at h
 ·rename_i k Z;obtain⟨ki,rfl⟩:=uC X Z;split at h
  ·rename_i e Q;have N:=fm Q;split at h
   ·rename_i esz es cap s d B;cases d;split at h
    ·rename_i v;obtain⟨J,C,rfl⟩:=v;cases h;cases K with | cC cell f H G hm S T=>
     rename_i a c;refine⟨rfl,.pointer (some (a.add (k.toNat * s))),?_,?_⟩;·simp[Instr.indexAt,asIntOf,bf N,J,C,run_sizeOf B]
     have f:=f.resolve_right (by intro e;subst e;simp at C;omega);rw[iE f,fy];have:=VR.iptr (M:=M) (ι:=ι) (i:=k.toNat) (j:=0) (b:=a.block) (o:=a.off) cell hm S T;simpa using this
    cases h
   ·rename_i r' p len cap s d B;cases d;split at h
    ·rename_i b R;split at h
     ·rename_i v;obtain⟨J,C,D⟩:=v;cases h;cases K with | bO I F f L H Y G m=>
      rename_i l a c;obtain⟨l',A,E⟩:=V.live r' b R;rw[I]at A;cases A;refine⟨rfl,.pointer (some (a.add (k.toNat * s))),?_,?_⟩;·simp[Instr.indexAt,asIntOf,bf N,J,C,run_sizeOf B]
      have q:a.off=p * l.esz:=by
       rcases L with h | h
       ·omega
       exact h
      rw[iE f,fy,F,q,D,<-E.esz,<-ke];have:=VR.ptr (M:=M) (ι:=ι) (i:=p+k.toNat) (j:=0) I m;simpa using this
     cases h
    cases h
   ·rename_i r' p len cap s d B;cases d;split at h
    ·rename_i b R;split at h
     ·rename_i v;obtain⟨J,C,D⟩:=v;cases h;cases K with | dsl I F f L H Y G m=>
      rename_i l a c;obtain⟨l',A,E⟩:=V.live r' b R;rw[I]at A;cases A;refine⟨rfl,.pointer (some (a.add (k.toNat * s))),?_,?_⟩;·simp[Instr.indexAt,asIntOf,bf N,J,C,run_sizeOf B]
      have q:a.off=p * l.esz:=by
       rcases L with h | h
       ·omega
       exact h
      rw[iE f,fy,F,q,D,<-E.esz,<-ke];have:=VR.ptr (M:=M) (ι:=ι) (i:=p+k.toNat) (j:=0) I m;simpa using this
     cases h
    cases h
   cases h
  split at h
  ·rename_i n e L;have N:=CP L;have U : ∀(b o s:Nat),O = .pointer (some ⟨b,o,none⟩)->av P e=some s->0<=k->k<n->(Instr.indexAt t O (.int ki k)).run P w = .ok (.pointer (some ⟨b,o+k.toNat * s,none⟩)) w:=by
    intro b o s e C h2 h3;subst e;simp[Instr.indexAt,asIntOf,bf N,Instr.sureAddr,h2,h3,run_sizeOf C,fy]
   split at h
   ·rename_i r' i j s d B;cases d;split at h
    ·rename_i v;cases h;cases K with | ptr hl m=>
     exact⟨rfl,_,U _ _ _ rfl B v.1 v.2,by rw[Dj];exact .ptr hl m⟩
    cases h
   ·rename_i esz es i j s d B;cases d;split at h
    ·rename_i v;cases h;cases K with | iptr cell hm Q T=>
     rename_i b o;exact⟨rfl,_,U _ _ _ rfl B v.1 v.2,by rw[show o+(i * esz+j)+k.toNat * s=o+(i * esz+(j+k.toNat * s)) by omega];exact .iptr cell hm Q T⟩
    cases h
   cases h
  cases h
 cases h
def IZ{y x:AV}{d:Value}{i:Nat}(e:VR M ι y d){bs:List aP}(h:qy (some y) i=some (x,bs)) :
 bs=[] /\∃u,(Instr.extract d i).run P w = .ok u w/\VR M ι x u:=by
 unfold qy at h;split at h
 ·rename_i j c;cases c;simp only[ik,bA]at h;obtain⟨m,b,c⟩:=h;cases c;cases e with | tup l k f=>
  rename_i us;have a:i<us.size:=by have:=(dB.1 b).1;omega
  exact⟨rfl,us[i],by simp[Instr.extract,iG a],f i _ _ b (iG a)⟩
 cases h
def Ot{t:TypeId}{y x:AV}{b:Value}(e:VR M ι y b){bs:List aP}(h:vq P t (some y)=some (x,bs)) :
 bs=[] /\∃u,(Instr.makeInterface t b).run P w = .ok u w/\VR M ι x u:=by
 unfold vq at h;split at h;·cases h
 ·rename_i d a c;simp at h;obtain⟨rfl,rfl⟩:=h;refine⟨rfl,.iface t b,?_,.ifc e⟩;simp only[Instr.makeInterface,iQe,bf c,iQc];cases d<;>first | rfl | (exact absurd c (a _))
 cases h
def Lb{st a:TypeId}{ok:Bool}{y x:AV}{o:Value}(n:VR M ι y o){bs:List aP}(h:yc P (some y) a ok=some (x,bs)) :
 bs=[] /\∃u,(Instr.typeAssert o st a ok).run P w = .ok u w/\VR M ι x u:=by
 have j : ∀d,P.underlying a=some d->(∀D,d ≠ .interface D) ->∀z,eJ P a=some z->ok=true->(o = .nilIface \/∃t v,o = .iface t v/\t≠a) ->
  ∃u,(Instr.typeAssert o st a ok).run P w = .ok u w/\VR M ι (.tup [z,.v (.bool false)]) u:=by
  intro d l b z m e k;subst e;obtain⟨v,C,q⟩:=uo m w;refine⟨.tuple #[v,.bool false],?_,?_⟩
  ·simp only[Instr.typeAssert,iQe,bf l,iQc];rcases k with rfl | ⟨t,x,rfl,p⟩
   ·cases d<;>first | (simp[C];done) | exact absurd rfl (b _)
   cases d<;>first | (simp[C,p];done) | exact absurd rfl (b _)
  refine .tup (by simp) rfl λi c u f k=>?_;match i with
  | 0=>simp at f k;subst f;subst k;exact gP q
  | 1=>simp at f k;subst f;subst k;exact .v rfl
  | i+2=>simp at f
 unfold yc at h;split at h;·cases h
 ·rename_i d t E b l s;cases s;cases n with | ifc n=>
  rename_i A;split at h
  ·rename_i B;subst B;simp at h;obtain⟨rfl,rfl⟩:=h;refine⟨rfl,(if ok then .tuple #[A,.bool true] else A),?_,?_⟩;·simp only[Instr.typeAssert,iQe,bf l,iQc];cases d<;>first | (simp;done) | exact absurd l (by intro h;exact b _ h)
   cases ok with| false=>simpa using n| true=>
    simp only[if_true];refine .tup (by simp) rfl λi c u f k=>?_;match i with
    | 0=>simp at f k;subst f;subst k;exact n
    | 1=>simp at f k;subst f;subst k;exact .v rfl
    | i+2=>simp at f
  rename_i B;split at h;·rename_i e;simp at h;obtain⟨z,m,rfl,rfl⟩:=h;exact⟨rfl,j d l b z m e (.inr ⟨t,A,rfl,B⟩)⟩
  cases h
 ·rename_i d b l s;cases s;split at h;·rename_i e;simp at h;obtain⟨z,m,rfl,rfl⟩:=h;cases n;exact⟨rfl,j d l b z m e (.inl rfl)⟩
  cases h
 cases h
end
end
section
section
variable{P:Program}{M:Mem}{ι:Map}{g:cb}{w:World}{r:Ref}
def JB(a:Nat) : ∀(us:List Value)(k:Nat)(cells:Array Value),a+k+us.length<=cells.size ->
 (us.zipIdx k).foldl (λcs (p:Value × Nat)=>cs.setIfInBounds (a+p.2) p.1) cells=cd cells (a+k) us:=by
 intro us;induction us with
 | nil=>intro k cells h;simp[cd]
 | cons u us c=>
  intro k cells h;simp only[lZ]at h;rw[List.zipIdx_cons,sG,c (k+1) _ (by simp;omega)];apply BX;intro i;rw[gx (by simp;omega),gx (by simp;omega)];by_cases d:i=a+k;·subst d;rw[if_neg (by omega),if_pos ⟨aV _,by simp⟩];simp[show a+k<cells.size by omega]
  by_cases b:a+(k+1)<=i/\i<a+(k+1)+us.length;·rw[if_pos b,if_pos (by simp;omega)];rw[show i - (a+k)=(i - (a+(k+1)))+1 by omega];simp
  rw[if_neg b,if_neg (by simp;omega)];rw[yx (by omega)]
def j7.patch{cs new:List AV}{us a:List Value}{j:Nat}(h:j7 M ι cs us)(b:j7 M ι new a):j7 M ι (patch cs j new) (us.take j++a++us.drop (j+a.length)):=by
 unfold Ab.patch;rw[<-b.1];exact((h.take j).append b).append (h.drop _)
def Ng(b:Nat->Option (Nat × Nat)) : ∀(ps:List (Nat × AV)) (qs:List (Nat × Value)) (cs d:List AV) (c:Array Value),pS b cs ps=some d->j7 M ι cs c.toList ->
 ps.length=qs.length->(∀(i:Nat) p q,ps[i]?=some p->qs[i]?=some q->p.1=q.1/\VR M ι p.2 q.2) ->
 ∃e,Instr.fill b c qs=some e/\j7 M ι d e.toList:=by
 intro ps;induction ps with
 | nil=>
  intro qs cs d c h o s hp;simp[pS]at h;subst h;cases qs with
  | nil=>exact⟨c,rfl,o⟩
  | cons q qs=>simp at s
 | cons p ps I=>
  intro qs cs d c h o s hp;cases qs with
  | nil=>simp at s
  | cons q qs=>
   obtain⟨i,v⟩:=p;obtain⟨J,u⟩:=q;obtain⟨A,B⟩:=hp 0 _ _ rfl rfl;simp only at A B;subst A;simp only[pS]at h;split at h;·cases h
   rename_i a m y;split at h
   ·rename_i H;obtain⟨D,hle⟩:=H;have n:=B.cells;have G:u.cells.size=m:=by have:=n.1;simp at this;omega
    have C:c.size=cs.length:=by have:=o.1;simp at this;omega
    have f:=JB a u.cells.toList 0 c (by simp;omega);have l:u.cells.zipIdx.foldl (λcs (p:Value × Nat)=>cs.setIfInBounds (a+p.2) p.1) c=cd c a u.cells.toList:=(by rw[wW]at f;rw[<-f,<-Kk,iQO]);have z:j7 M ι (patch cs a v.cells) (cd c a u.cells.toList).toList:=(by have:=o.patch (j:=a) n;simpa [cd] using this);obtain⟨e,E,F⟩:=I qs (patch cs a v.cells) d (cd c a u.cells.toList) h z (by simpa using s) (λk p q x t=>hp (k+1) p q x t);refine⟨e,?_,F⟩;simp only[Instr.fill,y];rw[if_neg (by simp;omega)];rw[<-E,<-l]
   cases h
def o7{tm:List AV}{a:Act}(h:TR M ι tm a){ps:List (Nat × Operand)}{c:List (Nat × AV)}(b:fw tm ps=some c) :
 c.length=(ps.map λp=>(p.1,a.eval p.2)).length /\∀(i:Nat) p q,c[i]?=some p->(ps.map λp=>(p.1,a.eval p.2))[i]?=some q->p.1=q.1/\VR M ι p.2 q.2:=by
 unfold fw at b;refine⟨by simpa using fq b,λi p q hp e=>?_⟩;obtain⟨⟨k,o⟩,f,d⟩:=nc b i p hp;simp only[bA]at d;obtain⟨y,j,rfl⟩:=d;simp only[lJ,f,Option.map_some,du]at e;subst e;exact⟨rfl,aG h j⟩
def pL{t:TypeId}{z:AV}(h:eJ P t=some z) : ∃i u,P.info? t=some i/\i.zero=some u/\ofValue u=some z:=by
 simp only[eJ,fH]at h;obtain⟨u,⟨i,hi,a⟩,hu⟩:=h;exact⟨i,u,hi,a,hu⟩
def Ov{t:TypeId}{d:List (Nat × AV)}{qs:Array (Nat × Value)}{x:AV}{bs:List aP}(B:d.length=qs.toList.length)
 (hp : ∀(i:Nat) p q,d[i]?=some p->qs.toList[i]?=some q->p.1=q.1/\VR M ι p.2 q.2) (h:lz P t (some d)=some (x,bs)) :
 bs=[] /\∃u,(Instr.build t qs).run P w = .ok u w/\VR M ι x u:=by
 unfold lz at h;split at h
 ·rename_i z F C f;cases f;obtain⟨it,u,l,k,hu⟩:=pL C;obtain⟨A,rfl,j⟩:=(gP (M:=M) (ι:=ι) hu).NH;split at h
  ·rename_i n e E;split at h;·rename_i s D;simp only[bA]at h;obtain⟨cs,c,f⟩:=h;cases f;obtain⟨G,m,rfl⟩:=rT D;obtain⟨a,o,y⟩:=Ng (M:=M) (ι:=ι) _ d qs.toList z cs A c j B hp;refine⟨rfl,.agg a,run_build w t qs a ?_,VR.oe.2 y⟩;simp[Program.built,l,CP E,k,m,Value.cells,o]
   cases h
  split at h
  ·rename_i ps b;simp only[bA]at h;obtain⟨cs,c,f⟩:=h;cases f;unfold placesOf at b;split at b;·rename_i fs v;obtain⟨a,o,y⟩:=Ng (M:=M) (ι:=ι) _ d qs.toList z cs A c j B hp;refine⟨rfl,.agg a,run_build w t qs a ?_,VR.oe.2 y⟩;simp only[Program.built,l,v,k,b,Value.cells];rw[<-o];congr 1;funext i;simp
   cases b
  cases h
 cases h
def TZ{b:BinOp}{t:TypeId}{xo o:Operand}{x y z:AV}{u v:Value}(j:VR M ι x u)(l:VR M ι y v){bs:List aP}(h:bE P b t xo o (some x) (some y)=some (z,bs)) :
 bs=[] /\∃r,(do eqGuard b t xo o u v;binOp b t u v:Sem Value).run P w = .ok r w/\VR M ι z r:=by
 simp only[bE]at h;split at h
 ·rename_i q;have key:(∃a n c,u = .slice (some a) n c/\v = .slice none 0 0)\/(∃a n c,v = .slice (some a) n c/\u = .slice none 0 0):=by
   simp only[lI,bD]at q;rcases q with ⟨m,f⟩ | ⟨m,f⟩
   ·left;have:v = .slice none 0 0:=by
     cases l<;>simp[jT]at f;split at f<;>simp_all
    cases j<;>simp[CJ]at m;·exact⟨_,_,_,rfl,this⟩
    ·exact⟨_,_,_,rfl,this⟩
    exact⟨_,_,_,rfl,this⟩
   right;have:u = .slice none 0 0:=by
    cases j<;>simp[jT]at f;split at f<;>simp_all
   cases l<;>simp[CJ]at m;·exact⟨_,_,_,rfl,this⟩
   ·exact⟨_,_,_,rfl,this⟩
   exact⟨_,_,_,rfl,this⟩
  have d : ∀b,(eqGuard b t xo o u v).run P w = .ok () w:=(by intro b;rcases key with ⟨a,n,c,rfl,rfl⟩ | ⟨a,n,c,rfl,rfl⟩<;>(unfold eqGuard;cases b<;>simp));split at h
  ·rename_i e i;simp at h;obtain⟨rfl,rfl⟩:=h;refine⟨rfl,.bool false,?_,.v rfl⟩;simp only[iQe,d,iQc];rcases key with ⟨a,n,c,rfl,rfl⟩ | ⟨a,n,c,rfl,rfl⟩
   ·rw[Lib.run_eql_slice_nil w t e (some a) n c 0 0 i];rfl
   rw[run_eql_nil_slice w t e (some a) n c 0 0 i];rfl
  ·rename_i e i;simp at h;obtain⟨rfl,rfl⟩:=h;refine⟨rfl,.bool true,?_,.v rfl⟩;simp only[iQe,d,iQc];rcases key with ⟨a,n,c,rfl,rfl⟩ | ⟨a,n,c,rfl,rfl⟩
   ·rw[run_neq_slice_nil_any w t e (some a) n c 0 0 i];rfl
   rw[run_neq_nil_slice w t e (some a) n c 0 0 i];rfl
  cases h
 split at h;·rename_i F D k p;simp only[ik,bA,fH]at h;obtain⟨E,⟨r,B,s⟩,he⟩:=h;cases he;have A:=rU j k;have C:=rU l p;subst A;subst C;exact⟨rfl,r,mR B w,mS s⟩
 cases h
def Wz{a:UnOp}{x z:AV}{u:Value}(d:VR M ι x u){bs:List aP}(h:Vm P a (some x)=some (z,bs)) :
 bs=[] /\∃r,(Op.unary a u).run P w = .ok r w/\VR M ι z r:=by
 simp only[Vm,ik,bA,fH,du]at h;obtain⟨f,⟨r,⟨v,⟨i,rfl,b⟩,e⟩,c⟩,he⟩:=h;cases he;have:=KG d b;subst this;exact⟨rfl,r,mR e w,mS c⟩
def S6{b:List AV}{us d:List Value}(c:j7 M ι b us)(h:b.mapM HS=some d):us=d:=by
 apply GH;intro i;rcases dT i us.length with hi | hi
 ·have a:i<b.length:=by rw[c.1];exact hi
  obtain⟨v,e,f⟩:=jU h i b[i] (dh a);rw[e,dh hi,KG (c.2 i _ _ (dh a) (dh hi)) f]
 have:=fq h;rw[tP hi,tP (by rw[this,c.1];exact hi)]
def F3{f:Value->Value->Sem Value}{b:List AV}{us:List Value}{z:AV}(d:j7 M ι b us)(h:Hp f P b=some z) :
 ∃u a,us=u :: a /\∃r,(a.foldlM f u).run P w = .ok r w/\VR M ι z r:=by
 unfold Hp at h;split at h;·rename_i u a i;have:=S6 d i;subst this;simp only[fH]at h;obtain⟨r,e,c⟩:=h;exact⟨u,a,rfl,r,mR e w,mS c⟩
 cases h
def qD{t:TypeId}(h:isStr P t=true):P.underlying t=some .string:=by
 unfold isStr at h;split at h;·assumption
 cases h
def o5{t:TypeId}(h:cM P t=true) : ∃e,P.underlying t=some (.slice e)/\P.underlying e=some (.int .u8):=by
 unfold cM at h;split at h
 ·rename_i e a;split at h;·exact⟨e,a,by assumption⟩
  cases h
 cases h
def RH{t:TypeId}(h:isInt P t=true) : ∃k,P.underlying t=some (.int k):=by
 unfold isInt at h;split at h;·exact⟨_,by assumption⟩
 cases h
end
end
section
section
variable{P:Program}{M:Mem}{ι:Map}{g:cb}{w:World}{r:Ref}
structure Src (P:Program) (M:Mem) (w:World) (u:Value) (z:Nat) (es:List AV) (us:List Value):Prop where
 len:us.length=es.length * z
 Fa : ∀e∈es,e.cells.length=z
 one : ∀x∈us,x.oneCell'=true
 vr : ∀(i j:Nat) e x,es[i]?=some e->e.cells[j]?=some x ->∃u,us[i * z+j]?=some u/\VR M cT x u
 lenOf : ∀w':World,(Builtin.lenOf u).run P w' = .ok es.length w'
 first : ∀(n:Nat)(w':World),n<=es.length->w'.heap=w.heap->(Builtin.firstCells z n u).run P w' = .ok (us.take (n * z)).toArray w'
def Og{es:List AV}{z:Nat}(h : ∀e∈es,e.cells.length=z)(cell:Nat->Nat->Value) :
 ∃us:List Value,us.length=es.length * z /\∀i j,i<es.length->j<z->us[i * z+j]?=some (cell i j):=by
 refine⟨(List.range (es.length * z)).map λk=>cell (k / z) (k % z),by simp,?_⟩;intro i j hi a;have b:0<z:=by omega
 have:=BH hi a;rw[lJ,C7 this];simp only[Option.map_some,du];rw[Gt i z,Nat.mul_add_div b,Nat.div_eq_of_lt a,Nat.mul_add_mod,GC a,wW]
def Mv{es:List AV}{z:Nat}(b : ∀e∈es,e.cells.length=z)(D:0<z\/es=[]){a:Addr}{c:Nat}(t:a.spot=none\/es=[])(cell:Nat->Nat->Value)
 (C : ∀i j,i<es.length->j<z->w.cell? ⟨a.block,a.off+(i * z+j),none⟩=some (cell i j)/\(cell i j).oneCell'=true)
 (G : ∀(i j:Nat) e x,es[i]?=some e->e.cells[j]?=some x->VR M cT x (cell i j)) : ∃us,Src P M w (.slice (some a) es.length c) z es us:=by
 obtain⟨us,A,B⟩:=Og b cell;have f : ∀k,k<us.length->0<z/\k / z<es.length/\k % z<z/\k / z * z+k % z=k:=by
  intro k o;rw[A]at o;have d:0<z:=by
   rcases D with h | h
   ·exact h
   subst h;simp at o
  exact⟨d,(iQG d).2 o,Nat.mod_lt _ d,by rw[Gt];exact Nat.div_add_mod k z⟩
 refine⟨us,A,b,?_,?_,λw'=>by simp[Builtin.lenOf],?_⟩
 ·intro x q;obtain⟨k,o,s⟩:=ot q;obtain⟨d,m,p,e⟩:=f k o;have:=B _ _ m p;rw[e,dh o,s]at this;injection this with this
  rw[this];exact(C _ _ m p).2
 ·intro i j e x u q;have hi:=(dB.1 u).1;have l:j<z:=by
   rw[<-b e (dk u)];exact(dB.1 q).1
  exact⟨cell i j,B i j hi l,G i j e x u q⟩
 intro n w' F y;have E:n * z<=us.length:=by rw[A];exact kr _ F
 refine run_firstCells_some (P:=P) w' z n a es.length c (us.take (n * z)) (by simp;omega) ?_;intro j v l;rw[w8]at l;split at l;·rename_i H;obtain⟨d,m,p,e⟩:=f j (by omega);have:=B _ _ m p;rw[e,l]at this;cases this;have t:=t.resolve_right (by intro e;subst e;simp at m);rw[iE t,fy];have:=(C _ _ m p).1;rw[e]at this;rw[iQi (w:=w) (by rw[y])];exact this
 cases l
def getElems(es:List AV)(a len:Nat)(b:a+len<=es.length):((es.drop a).take len).length=len /\∀i,i<len->((es.drop a).take len)[i]?=es[a+i]? :=
 ⟨by simp;omega,λi hi=>by rw[w8,if_pos hi,wZ]⟩
def mW(K:fk M ι g w){x:AV}{u:Value}(k:VR M ι x u){z:Nat}{es:List AV}(H:0<z)(h:cr g x=some (z,es)) : ∃us,Src P M w u z es us:=by
 unfold cr at h;split at h
 ·rename_i s;cases h;cases k;refine⟨s.data.toList.map λb => .int .u8 b.toNat,?_,?_,?_,?_,?_,?_⟩;·simp
  ·intro e f;simp only[lX]at f;obtain⟨b,_,rfl⟩:=f;rfl
  ·intro x k;simp only[lX]at k;obtain⟨b,_,rfl⟩:=k;rfl
  ·intro i j e x f k;simp only[lJ,bA]at f;obtain⟨b,D,rfl⟩:=f;cases j with
   | succ j=>simp[AV.cells]at k
   | zero=>simp[AV.cells]at k;subst k;exact⟨.int .u8 b.toNat,by simp[D],.v rfl⟩
  ·intro w';simp only[Builtin.lenOf,iQg,GA,yw];rfl
  intro n w' O Q;simp only[Builtin.firstCells,Nat.mul_one,iQg];congr 1;apply Dd;simp only[Array.toList_map,ByteArray.data_extract,Ko];rw[Kt];simp[List.map_take]
 ·rename_i esz es' cap;cases h;cases k with | cC cell F J R hm f V=>
  rename_i a c;exact Mv f (.inl H) F cell (λi j hi o=>⟨K.mem _ _ _ (hm i j hi o).1,(hm i j hi o).2⟩) V
 ·rename_i r' d len cap;split at h
  ·rename_i b D;split at h
   ·rename_i J;cases h;obtain⟨t,hlen⟩:=J;cases k with | bO N G F S L O R C=>
    rename_i l a c;have m:=K.at N C D;obtain⟨A,B⟩:=getElems b.es d len hlen;have p:0<len->a.off=d * b.esz:=by
     intro W;rcases S with h | h
     ·omega
     rw[h,m.esz]
    have key : ∀i j,i<len->j<b.esz ->∃u,w.cell? ⟨a.block,a.off+(i * b.esz+j),none⟩=some u/\u.oneCell'=true /\∀e x,b.es[d+i]?=some e->e.cells[j]?=some x->VR M cT x u:=by
     intro i j hi o;have f:b.es[d+i]?=some b.es[d+i]:=dh (by omega);have U:=m.cells b.es[d+i] (kq _);obtain⟨u,hu,A,B⟩:=m.cell (d+i) f j _ (dh (by omega:j<b.es[d+i].cells.length));refine⟨u,?_,A,?_⟩;·rw[p (by omega),G,show d * b.esz+(i * b.esz+j)=(d+i) * b.esz+j by rw[ke];omega];exact hu
     intro e x q y;rw[f]at q;cases q;rw[dh (by omega:j<b.es[d+i].cells.length)]at y;cases y;rw[aP.map,if_pos t]at B;exact B
    let cell:Nat->Nat->Value:=λi j=>(w.cell? ⟨a.block,a.off+(i * b.esz+j),none⟩).getD undef
    have:=Mv (P:=P) (M:=M) (w:=w) (es:=(b.es.drop d).take len) (z:=b.esz) (a:=a) (c:=c)
     (by intro e f;exact m.cells e (BZ (w9 f))) (.inl H) (.inl F) cell
     (by
      intro i j hi o;rw[A]at hi;obtain⟨u,E,I,_⟩:=key i j hi o;simp[cell,E,I])
     (by
      intro i j e x f k;have hi:i<len:=by have:=(dB.1 f).1;omega
      rw[B i hi]at f;have o:j<b.esz:=(by rw[<-m.cells e (dk f)];exact(dB.1 k).1);obtain⟨u,E,I,T⟩:=key i j hi o;simp only[cell,E,dP];exact T e x f k)
    rw[A]at this;exact this
   cases h
  cases h
 cases h
inductive AZ:Option Value->Option Int->Prop
 | none:AZ none none
 | some (k n):AZ (some (.int k n)) (some n)
def rI{tm:List AV}{a:Act}(h:TR M ι tm a){o:Option Operand}{x:Option Int}(b:ky tm o=some x):AZ (o.map a.eval) x:=by
 cases o with| none=>simp only[ky,du]at b;subst b;exact .none| some o=>
  simp only[ky]at b;split at b
  ·rename_i n c;injection b with b
   subst b;simp only[fH]at c;obtain⟨y,e,hi⟩:=c;obtain⟨k,d⟩:=uC (aG h e) hi;rw[Option.map_some,d];exact .some k n
  cases b
def ym{len c:Nat}{cap:Option Nat}(G:len<=c)(A : ∀k,cap=some k->c=k){lo hi x:Option Int}{l h:Nat}{z:Option Nat}(a:bounds len cap lo hi x=some (l,h,z))
 {q n p:Option Value} (u:AZ q lo) (D:AZ n hi) (F:AZ p x) :
 l<=h/\h<=len /\∃m,h<=m/\m<=c/\(∀k,z=some k->m - l=k)/\(Instr.sliceBounds true len c q n p).run P w = .ok (l,h,m) w:=by
 have e : ∀(k:IntKind)(i:Int)(y:Nat)(code:BoundsCode),0<=i->i<=y->(Instr.sliceBound (.int k i) y code).run P w = .ok i.toNat w:=λk i y code=>iQH w k i y code;cases F with
 | some C m=>
  cases D with| none=>simp[bounds]at a| some j b=>
   simp only[bounds]at a;obtain⟨⟨c1,f,v,B,K⟩,a⟩:=dH.1 a;simp only[du,tM]at a;obtain⟨rfl,rfl,rfl⟩:=a;have I:m<=c:=by
    cases cap with
    | none=>simp at B;omega
    | some k=>have:=A k rfl;simp at B;omega
   have J:((m.toNat:Nat):Int)=m:=zL (by omega);have H:((b.toNat:Nat):Int)=b:=zL (by omega);refine⟨by omega,by omega,m.toNat,by omega,by omega,by intro k d;cases d;rfl,?_⟩;cases u with
   | none=>simp only[qp]at c1 f;simp only[Instr.sliceBounds,iQe,e C m c _ (by omega) (by omega),iQc,e j b m.toNat _ (by omega) (by omega),iQg,qp];rfl
   | some s o=>simp only[dP]at c1 f;simp only[Instr.sliceBounds,iQe,e C m c _ (by omega) (by omega),iQc,e j b m.toNat _ (by omega) (by omega),e s o b.toNat _ (by omega) (by omega),iQg,dP]
 | none=>
  simp only[bounds]at a;obtain⟨⟨c1,f,v⟩,a⟩:=dH.1 a;simp only[du,tM]at a;obtain⟨rfl,rfl,rfl⟩:=a;refine⟨by omega,by omega,c,by omega,aV _,?_,?_⟩;·intro k d;simp only[bA]at d;obtain⟨E,t,rfl⟩:=d;rw[A E t]
  cases D with
  | none=>
   simp only[qp]at f v ⊢;cases u with
   | none=>simp[Instr.sliceBounds]
   | some s o=>simp only[dP]at c1 f ⊢;simp only[Instr.sliceBounds,iQe,iQg,iQc,e s o len _ (by omega) (by omega)];simp
  | some j b=>
   simp only[dP]at f v ⊢;have H:((b.toNat:Nat):Int)=b:=zL (by omega);cases u with
   | none=>simp only[qp]at c1 f ⊢;simp only[Instr.sliceBounds,iQe,iQg,iQc,e j b c _ (by omega) (by omega)];simp
   | some s o=>simp only[dP]at c1 f ⊢;simp only[Instr.sliceBounds,iQe,iQg,iQc,e j b c _ (by omega) (by omega),e s o b.toNat _ (by omega) (by omega)]
def oY{t e:TypeId}(k:P.underlying t=some (.slice e)){s:Nat}(j:av P e=some s){a:Option Addr}{len c l h m:Nat}{b f d:Option Value}
 (i:(Instr.sliceBounds true len c b f d).run P w = .ok (l,h,m) w) :
 (Instr.sliceAt t (.slice a len c) b f d).run P w = .ok (.slice (if m=l then a else a.map (·.add (l * s))) (h - l) (m - l)) w:=by
 simp[Instr.sliceAt,bf k,Instr.slice,i,run_sizeOf j]
def Oo(hS:fk M ι g w){t:TypeId}{y x:AV}{u0:Value}(T:VR M ι y u0){lo hi mx:Option Int}{V R U:Option Value}
 (Q:AZ V lo) (W:AZ R hi) (S:AZ U mx)
 {bs:List aP} (h:dm P g t (some y) (some lo) (some hi) (some mx)=some (x,bs)) :
 bs=[] /\∃u,(Instr.sliceAt t u0 V R U).run P w = .ok u w/\VR M ι x u:=by
 simp only[dm]at h;split at h
 ·rename_i e;cases e;cases T;obtain⟨n,h⟩:=dH.1 h;simp only[bA]at h;obtain⟨⟨l,f,F⟩,o,e⟩:=h;cases e;obtain⟨s,B⟩:=fP.1 n;simp only[fH]at B;obtain⟨e,C,B⟩:=B;obtain⟨b1,b2,m,b3,b4,D,N⟩:=ym (P:=P) (w:=w) (aV 0) (by intro k K;cases K;rfl) o Q W S;have e1:l=0:=by omega
  have L:f=0:=(by omega);have e3:m=0:=(by omega);subst e1;subst L;subst e3;exact⟨rfl,_,oY (fm C) B N,.v rfl⟩
 ·rename_i s e;cases e;cases T;obtain⟨n,h'⟩:=dH.1 h;clear h;simp only[bD,Option.isNone_iff_eq_none]at n;obtain⟨n,rfl⟩:=n;cases S;obtain⟨⟨l,f,F⟩,o,e⟩:=bA.1 h';cases e;have Z:=qD n;have X : ∀(k:IntKind)(i:Int)(y:Nat)(code:BoundsCode),0<=i->i<=y->(Instr.sliceBound (.int k i) y code).run P w = .ok i.toNat w:=λk i y code=>iQH w k i y code;simp only[bounds]at o;obtain⟨⟨c1,J,Y⟩,o⟩:=dH.1 o;simp only[du,tM]at o;obtain⟨rfl,rfl,rfl⟩:=o;refine⟨rfl,.string (s.extract (lo.getD 0).toNat (hi.getD s.size).toNat),?_,.v rfl⟩;cases W with
  | none=>
   simp only[qp]at J Y;try simp only[qp,dP]
   cases Q with| none=>simp[Instr.sliceAt,bf Z,Instr.slice,Instr.sliceBounds]| some kl ll=>
    simp only[dP]at c1 J;try simp only[qp,dP]
    simp[Instr.sliceAt,bf Z,Instr.slice,Instr.sliceBounds,X kl ll s.size _ c1 J]
  | some kh f=>
   simp only[dP]at J Y;try simp only[qp,dP]
   have eh:((f.toNat:Nat):Int)=f:=zL (by omega);cases Q with
   | none=>
    simp only[qp]at c1 J;try simp only[qp,dP]
    simp[Instr.sliceAt,bf Z,Instr.slice,Instr.sliceBounds,X kh f s.size _ J Y]
   | some kl ll=>
    simp only[dP]at c1 J;try simp only[qp,dP]
    simp[Instr.sliceAt,bf Z,Instr.slice,Instr.sliceBounds,X kh f s.size _ (by omega) Y,X kl ll f.toNat _ c1 (by omega)]
 ·rename_i esz es cap e;cases e;obtain⟨n,h⟩:=dH.1 h;simp only[bA]at h;obtain⟨⟨l,f,F⟩,o,e⟩:=h;cases e;simp only[fH]at n;obtain⟨e,C,B⟩:=n;cases T with | cC cell d O K hm hes hh'=>
  rename_i a c;obtain⟨b1,b2,m,b3,b4,D,N⟩:=ym (P:=P) (w:=w) O K o Q W S;refine⟨rfl,_,oY (fm C) B N,?_⟩;obtain⟨g1,g2⟩:=getElems es l (f - l) (by omega);have:=VR.cC (M:=M) (ι:=ι) (esz:=esz) (es:=(es.drop l).take (f - l)) (cap:=F) (a:=(if m=l then a else a.add (l * esz))) (c:=m - l) (λi j=>cell (l+i) j)
   (by
    rcases d with d | d
    ·left;split;·exact d
     rw[iE d,fy]
    right;subst d;simp) (by omega) D
   (by
    intro i j hi hj;rw[g1]at hi;have d:=d.resolve_right (by intro e;subst e;simp at b2 O;omega);rw[if_neg (by omega),iE d,fy];have:=hm (l+i) j (by omega) hj;rw[show a.off+((l+i) * esz+j)=a.off+l * esz+(i * esz+j) by rw[ke];omega]at this;exact this)
   (by intro e C;exact hes e (BZ (w9 C)))
   (by
    intro i j e x hi hx;have hi':i<f - l:=by have:=(dB.1 hi).1;omega
    rw[g2 i hi']at hi;exact hh' (l+i) j e x hi hx)
  rw[g1]at this;have L:(if m=l then some a else (some a).map (·.add (l * esz)))=some (if m=l then a else a.add (l * esz)):=by split<;>rfl
  rw[L];exact this
 ·rename_i r' E len cap e;cases e;split at h
  ·rename_i b G;obtain⟨n,h⟩:=dH.1 h;simp only[bA]at h;obtain⟨⟨l,f,F⟩,o,e⟩:=h;cases e;simp only[fH]at n;obtain⟨e,C,B⟩:=n;cases T with | bO H A d ha O hn K p=>
   rename_i lo' a c;obtain⟨l',z,I⟩:=hS.live r' b G;rw[H]at z;cases z;obtain⟨b1,b2,m,b3,b4,D,N⟩:=ym (P:=P) (w:=w) O K o Q W S;refine⟨rfl,_,oY (fm C) B N,?_⟩;have L:(if m=l then some a else (some a).map (·.add (l * b.esz)))=some (if m=l then a else a.add (l * b.esz)):=by split<;>rfl
   rw[L];show VR M ι (.bO r' (E+l) (f - l) F) _;by_cases q:m=l;·rw[if_pos q];exact .bO H A d (.inl (by omega)) (by omega) (.inl (by omega)) D p
   rw[if_neg q,iE d,fy];refine .bO H A rfl (.inr ?_) (by omega) (.inr ?_) D p
   ·rcases ha with h | h
    ·omega
    simp only[h,I.esz,ke]
   rcases hn with h | h
   ·omega
   omega
  cases h
 ·rename_i r' E len cap e;cases e;split at h
  ·rename_i b G;obtain⟨n,h⟩:=dH.1 h;simp only[bA]at h;obtain⟨⟨l,f,F⟩,o,e⟩:=h;cases e;simp only[fH]at n;obtain⟨e,C,B⟩:=n;cases T with | dsl H A d ha O hn K p=>
   rename_i lo' a c;obtain⟨l',z,I⟩:=hS.live r' b G;rw[H]at z;cases z;obtain⟨b1,b2,m,b3,b4,D,N⟩:=ym (P:=P) (w:=w) O K o Q W S;refine⟨rfl,_,oY (fm C) B N,?_⟩;have L:(if m=l then some a else (some a).map (·.add (l * b.esz)))=some (if m=l then a else a.add (l * b.esz)):=by split<;>rfl
   rw[L];show VR M ι (.dsl r' (E+l) (f - l) F) _;by_cases q:m=l;·rw[if_pos q];exact .dsl H A d (.inl (by omega)) (by omega) (.inl (by omega)) D p
   rw[if_neg q,iE d,fy];refine .dsl H A rfl (.inr ?_) (by omega) (.inr ?_) D p
   ·rcases ha with h | h
    ·omega
    simp only[h,I.esz,ke]
   rcases hn with h | h
   ·omega
   omega
  cases h
 cases h
def LV{len c:Nat}(p:len<=c){lo hi:Option Int}(h:0<=lo.getD 0)(a:lo.getD 0<=hi.getD len)(o:hi.getD len<=c)
 {b d:Option Value} (m:AZ b lo) (q:AZ d hi) :
 (Instr.sliceBounds true len c b d none).run P w = .ok ((lo.getD 0).toNat,(hi.getD len).toNat,c) w:=by
 have f : ∀(k:IntKind)(i:Int)(y:Nat)(code:BoundsCode),0<=i->i<=y->(Instr.sliceBound (.int k i) y code).run P w = .ok i.toNat w:=λk i y code=>iQH w k i y code;cases q with
 | none=>
  simp only[qp]at a o ⊢;cases m with
  | none=>simp[Instr.sliceBounds]
  | some l j=>simp only[dP]at h a ⊢;simp only[Instr.sliceBounds,iQe,iQg,iQc,f l j len _ (by omega) (by omega)];simp
 | some n e=>
  simp only[dP]at a o ⊢;have s:((e.toNat:Nat):Int)=e:=zL (by omega);cases m with
  | none=>simp only[qp]at h a ⊢;simp only[Instr.sliceBounds,iQe,iQg,iQc,f n e c _ (by omega) (by omega)];simp
  | some l j=>simp only[dP]at h a ⊢;simp only[Instr.sliceBounds,iQe,iQg,iQc,f n e c _ (by omega) (by omega),f l j e.toNat _ (by omega) (by omega)]
def K5(W:fk M ι g w){t:TypeId}{y x:AV}{L:Value}(Y:VR M ι y L){lo hi K:Option Int}{v j p:Option Value}
 (h1:AZ v lo) (h2:AZ j hi) (X:AZ p K)
 {bs:List aP} (h:sL P g t (some y) (some lo) (some hi) (some K)=some (x,bs)) :
 bs=[] /\∃u,(Instr.sliceAt t L v j p).run P w = .ok u w/\VR M ι x u:=by
 unfold sL at h;split at h
 ·rename_i H hi' r' z len cap A I Q S;simp only[du]at A I Q S;subst A I Q S;cases X;split at h
  ·rename_i b C;obtain⟨⟨R,c1,V,J⟩,h⟩:=dH.1 h;simp only[du,tM]at h;obtain⟨rfl,rfl⟩:=h;simp only[fH]at R;obtain⟨e,he,Z⟩:=R;cases Y with | bO D q s ha N T O d=>
   rename_i H a c;have n:((cap.getD len:Nat):Int)<=c:=by
    cases cap with| none=>simpa using N| some k=>rw[O k rfl];simp
   have f : ∀m:Nat,∀k,cap.map (· - m)=some k->c - m=k:=(by intro m k F;obtain⟨U,B,rfl⟩:=bA.1 F;rw[O U B]);replace J:hi.getD (len:Int)<=c:=Int.le_trans J n;clear n;obtain⟨l',o,E⟩:=W.live r' b C;rw[D]at o;cases o;have b6:=LV (P:=P) (w:=w) N c1 V J h1 h2;have A:(((lo.getD 0).toNat:Nat):Int)=lo.getD 0:=zL c1;have I:(((hi.getD (len:Int)).toNat:Nat):Int)=hi.getD len:=zL (by omega);generalize (lo.getD 0).toNat=l at *;generalize (hi.getD (len:Int)).toNat=hh at *;refine⟨rfl,_,oY (fm he) Z b6,?_⟩;have G:(if c=l then some a else (some a).map (·.add (l * b.esz)))=some (if c=l then a else a.add (l * b.esz)):=by split<;>rfl
   rw[G];show VR M ι (.bO r' (z+l) (hh - l) (cap.map (· - l))) _;by_cases i:c=l;·rw[if_pos i];exact .bO D q s (.inl (by omega)) (by omega) (.inl (by omega)) (f l) d
   rw[if_neg i,iE s,fy];refine .bO D q rfl (.inr ?_) (by omega) (.inr ?_) (f l) d
   ·rcases ha with h | h
    ·omega
    simp only[h,E.esz,ke]
   rcases T with h | h
   ·omega
   omega
  cases h
 cases h
def QO(J:fk M ι g w){t tR:TypeId}{args:List AV}{us:List Value}(hv:j7 M ι args us){x:AV}{bs:List aP}(h:IW P g t args=some (x,bs)) :
 bs=[]/\x = .v (.bool false)/\(Extern.SlicesOverlaps.overlaps #[t,t] #[tR] us.toArray).run P w = .ok (.bool false) w:=by
 unfold IW at h;split at h
 ·rename_i r o len cap r' u i W e he;split at h
  ·rename_i b b' z hb s hz;obtain⟨⟨H,h1,h2,h3⟩,h⟩:=dH.1 h;simp only[du,tM]at h;obtain⟨rfl,rfl⟩:=h;refine⟨rfl,rfl,?_⟩;obtain⟨hlen,d⟩:=hv;match us,hlen,d with
   | [ua,ub],hlen,d=>
   have va:=d 0 _ ua rfl rfl;have vb:=d 1 _ ub rfl rfl;clear d hlen;cases va with | bO X j hsp ha hc hn hk C=>
   rename_i l a c;cases vb with | bO A m Z ha' hc' I hk' B=>
   rename_i K U F;have ht:=fm he;have V:=J.at X C hb;have hB:=J.at A B s;obtain⟨arr,T,fz,S,E,y,_⟩:=V.heap;obtain⟨arr',T',fz',Q,p,hfz',_⟩:=hB.heap;have N:l.b≠K.b:=λe=>H (J.inj r r' b b' l K hb s X A e);have k : ∀w:World,(Go.sizeOf e).run P w = .ok z w:=λw=>run_sizeOf hz w;show(Extern.SlicesOverlaps.overlaps #[t,t] #[tR] #[.slice (some a) len c,.slice (some U) i F]).run P w=_;by_cases h0:len=0\/i=0
   ·have G:(len=0\/i=0\/z=0):=(by omega);have e2 : ∀ {O β:Type} (x:O) (f:O->Sem β),(pure x:Sem O).bind f=f x:=λ_ _=>rfl;conv=>lhs;arg 2;whnf
    simp[Sem.run,Sem.bind,e2,ht,k,G]
   have hcn:o+c<=l.n:=by rcases hn with h | h<;>omega
   have Y:u+F<=K.n:=by rcases I with h | h<;>omega
   have L:a.off=o * l.esz:=by rcases ha with h | h<;>omega
   have hpos:0<arr'.size:=by rw[p];exact Nat.mul_pos (by omega) (by omega)
   have R:a.off<arr.size:=(by rw[L,E,V.esz];exact(Nat.mul_lt_mul_right (by omega)).2 (by omega));refine Lib.run_overlaps_apart (P:=P) w t tR e ht z k a U len c i F (by rw[j,m];exact N) T T' arr.size arr'.size ?_ ?_ (by omega) ?_ ?_;·unfold World.shape?;rw[j,S]
   ·unfold World.shape?;rw[m,Q]
   ·unfold World.frozen?;rw[j,S];have:=y.1 a.off R;obtain⟨f1,f2⟩:=fz;simp only at this ⊢;rw[Bg];simp only[iQd];by_cases q:f1<=a.off;·exact .inr λD=>this ⟨q,.inl D⟩
    exact .inl q
   unfold World.frozen?;simp only;rw[j,S];have:=y.2 h1;obtain⟨f1,f2⟩:=fz;simp only at this ⊢;rw[Bg];simp only[iQd];by_cases q:f1<=arr.size;·exact .inr λD=>this ⟨q,D⟩
   exact .inl q
  cases h
 cases h
end
end
section
section
variable{P:Program}{M:Mem}{ι:Map}{g:cb}{w:World}{r:Ref}
structure Row (M:Mem) (z:Nat) (es:List AV) (us:List Value):Prop where
 len:us.length=es.length * z
 Fa : ∀e∈es,e.cells.length=z
 one : ∀x∈us,x.oneCell'=true
 vr : ∀(i j:Nat) e x,es[i]?=some e->e.cells[j]?=some x ->∃u,us[i * z+j]?=some u/\VR M cT x u
def Src.row{u z es us}(h:Src P M w u z es us):Row M z es us:=⟨h.len,h.Fa,h.one,h.vr⟩
def Row.nil{z:Nat}:Row M z [] []:=⟨by simp,by simp,by simp,by intro i j e x h;simp at h⟩
def Row.append{z es us es' us'}(h:Row M z es us)(c:Row M z es' us'):Row M z (es++es') (us++us'):=by
 refine⟨by simp[h.len,c.len,ke],?_,?_,?_⟩
 ·intro e a;rcases jG.1 a with b | b
  ·exact h.Fa e b
  exact c.Fa e b
 ·intro e a;rcases jG.1 a with b | b
  ·exact h.one e b
  exact c.one e b
 intro i j e x a f;rcases dT i es.length with hi | hi
 ·rw[iB hi]at a;obtain⟨u,hu,d⟩:=h.vr i j e x a f;exact⟨u,by rw[iB (dB.1 hu).1];exact hu,d⟩
 rw[hY hi]at a;obtain⟨u,hu,d⟩:=c.vr _ j e x a f;have k:es.length * z<=i * z:=kr _ hi;refine⟨u,?_,d⟩;rw[hY (by rw[h.len];omega),h.len,show i * z+j - es.length * z=(i - es.length) * z+j by rw[De];omega];exact hu
def Row.cons{z es us e vs}(c:j7 M cT e vs)(f:e.length=z)(l : ∀x∈vs,x.oneCell'=true)(y:AV)(k:y.cells=e)(h:Row M z es us):Row M z (y :: es) (vs++us):=by
 have:Row M z [y] vs:=by
  refine⟨by rw[<-c.1,f];simp,by intro m a;simp at a;subst a;rw[k];exact f,l,?_⟩;intro i j m x hi b;cases i with
  | succ i=>simp at hi
  | zero=>
   simp at hi;subst hi;rw[k]at b;have d:j<vs.length:=by have:=(dB.1 b).1;rw[<-c.1];exact this
   exact⟨vs[j],by simp[d],c.2 j x vs[j] b (dh d)⟩
 exact this.append h
def Row.replicate{z:Nat}{y:AV}{u:Value}(d:VR M cT y u)(k:y.cells.length=z)(e:y.cells.all AV.one=true) : ∀n,Row M z (List.replicate n y) (List.replicate n u.cells.toList).flatten:=by
 intro n;have b : ∀x∈u.cells.toList,x.oneCell'=true:=by
  intro x i;obtain⟨j,f,c⟩:=ot i;have h:=d.cells;have a:j<y.cells.length:=by rw[h.1];exact f
  have:=h.2 j _ x (dh a) (by rw[<-c];exact dh f);exact this.one (by simp only[eC]at e;exact e _ (kq a))
 induction n with| zero=>exact Row.nil| succ n l=>rw[Km,Km,List.flatten_cons];exact Row.cons d.cells k b y rfl l
def Row.mono{z es us}{M':Mem}(h:Row M z es us)(d : ∀b o x,M b o=some x->M' b o=some x):Row M' z es us:=
 ⟨h.len,h.Fa,h.one,λi j e x f c=>by obtain⟨u,hu,a⟩:=h.vr i j e x f c;exact⟨u,hu,a.mono d _ (λ_ _ h=>h)⟩⟩
def rK(F:fk M ι g w)(p:r.k=0)(D:ι r=none){w':World}{arr:Array Value}{T:TypeId}{fz:Nat × Nat}(v:A8 w w' (.cells arr T fz))
 {z:Nat} {es:List AV} {us:List Value} (a:Row M z es us) (b : ∀(k:Nat) u,us[k]?=some u->arr[k]?=some u) {n c:Nat} (h:arr.size=n * z)
 (m:zD z arr.size fz) (B:es.length<=c) (G:c<=n) {cap:Option Nat} (d : ∀k,cap=some k->c=k) (o:0<z) :
 ij M ι g w r (.bO r 0 es.length cap) [⟨z,es,true,false⟩] (.slice (some ⟨w.heap.size,0,none⟩) es.length c) w':=by
 obtain⟨t,A⟩:=F.alloc (q:=r) D v ⟨z,es,true,false⟩ o n h m (by simp;omega) a.Fa
  (by
   intro i j e x y s;obtain⟨u,hu,C⟩:=a.vr i j e x y s;exact⟨u,b _ _ hu,a.one u (dk hu),by simpa [aP.map] using C⟩)
 refine⟨M,_,?_,by rw[pd _ _ p];exact t,by rw[pd _ _ p];exact A,?_⟩;·exact .bO (l:=⟨w.heap.size,z,n⟩) (by simp[jb]) rfl rfl (.inr (by simp)) B (.inr (by simp;omega)) d o
 intro q f E;have:q≠r:=by intro e;exact E 0 (by simp) (by rw[e];cases r;simp_all)
 simpa [jb,this] using f
def Jr(M:Mem)(b:Nat)(us:List Value):Mem:=λa o=>if a=b then us[o]? else M a o
def Pj(y:fk M ι g w){w':World}{arr:Array Value}{T:TypeId}{fz:Nat × Nat}(f:A8 w w' (.cells arr T fz))
 {z:Nat} {es:List AV} {us:List Value} (d:Row M z es us) (t : ∀(k:Nat) u,us[k]?=some u->arr[k]?=some u) {c:Nat}
 (F:es.length<=c) {cap:Option Nat} (v : ∀k,cap=some k->c=k) :
 ij M ι g w r (.cC z es cap) [] (.slice (some ⟨w.heap.size,0,none⟩) es.length c) w':=by
 have s : ∀b o x,M b o=some x->b<w.heap.size:=λb o x h=>iQl w ⟨b,o,none⟩ (y.mem b o x h);have m : ∀b o x,M b o=some x->Jr M w.heap.size us b o=some x:=by
  intro b o x h;unfold Jr;rw[if_neg (Nat.ne_of_lt (s b o x h))];exact h
 have p:w'.heap[w.heap.size]?=some (.cells arr T fz):=by rw[f.heap];simp
 have B : ∀i j,i<es.length->j<z ->∃u,us[i * z+j]?=some u:=by
  intro i j hi A;exact⟨us[i * z+j]'(by rw[d.len];exact BH hi A),dh _⟩
 refine⟨Jr M w.heap.size us,ι,?_,?_,?_,λq H _=>H⟩
 ·refine VR.cC (M:=Jr M w.heap.size us) (ι:=ι) (esz:=z) (es:=es) (cap:=cap) (a:=⟨w.heap.size,0,none⟩) (c:=c) (λi j=>(us[i * z+j]?).getD undef) (.inl rfl) F v ?_ d.Fa ?_;·intro i j hi A;obtain⟨u,hu⟩:=B i j hi A;simp only[Jr,if_true,qZ,hu,dP];exact⟨trivial,d.one u (dk hu)⟩
  intro i j e x D C;obtain⟨u,hu,G⟩:=d.vr i j e x D C;simp only[hu,dP];exact G.mono m _ (λ_ _ h=>h)
 ·rw[lP];refine⟨?_,?_,y.inj⟩
  ·intro b o x h;unfold Jr at h;split at h;·rename_i e;subst e;rw[gY p];exact t o x h
   exact f.cell (y.mem b o x h)
  intro r' k I;obtain⟨l,J,n⟩:=y.live r' k I;refine⟨l,J,n.bF m (λ_ _ h=>h) (f.old _ n.lt) ?_⟩;intro o x h;unfold Jr at h;rw[if_neg (Nat.ne_of_lt n.lt)]at h;exact n.frozen o x h
 rw[lP];refine⟨f.os,f.tape,f.output,by rw[f.heap];simp,λb n _=>f.old b n,m,λ_ _ h=>h,λr' k l h E => .inr ⟨r',k,l,h,E,rfl⟩,?_⟩;intro b o x h;unfold Jr at h;split at h;·rename_i e;exact .inr (.inl (by omega))
 exact .inl h
def ij.after{R:List Ref}(e:qP g R=g)(i:fk M ι g w){x:AV}{bs:List aP}{u:Value}{w':World}(h:ij (jq M ι g w R) ι g w r x bs u w'):ij M ι g w r x bs u w':=by
 obtain⟨_,b⟩:=xI (R:=R) i;rw[e]at b;obtain⟨M',a,d,j,f,c⟩:=h;exact⟨M',a,d,j,b.trans f,c⟩
def GW(n:fk M ι g w){a c:List (Nat × AV)}(h:eU g a=some c){qs:List (Nat × Value)}(l:a.length=qs.length)
 (hp : ∀(i:Nat) p q,a[i]?=some p->qs[i]?=some q->p.1=q.1/\VR M ι p.2 q.2) :
 c.length=qs.length /\∀(i:Nat) p q,c[i]?=some p->qs[i]?=some q->p.1=q.1/\VR (jq M ι g w (bW g (a.map (·.2)))) cT p.2 q.2:=by
 unfold eU at h;refine⟨by rw[fq h,l],?_⟩;intro i p q b d;obtain⟨⟨k,x⟩,e,f⟩:=nc h i p b;simp only[bA]at f;obtain⟨y,m,rfl⟩:=f;obtain⟨j,o⟩:=hp i _ q e d;refine⟨j,zO n depth x y q.2 m ?_ o⟩;intro r s;simp only[bW,eW,lX];exact⟨x,⟨(k,x),dk e,rfl⟩,s⟩
def AG{z:Nat} : ∀(t:List (Nat × AV)) (qs:List (Nat × Value)) (es es':List AV) (us:Array Value),gR es t=some es'->Row M z es us.toList ->
 t.length=qs.length->(∀(i:Nat) p q,t[i]?=some p->qs[i]?=some q->p.1=q.1/\VR M cT p.2 q.2)->(∀p∈t,p.2.cells.length=z/\p.2.cells.all AV.one=true) ->
 es'.length=es.length /\∃d,Instr.fill (λi=>some (i * z,z)) us qs=some d/\Row M z es' d.toList:=by
 intro t;induction t with
 | nil=>
  intro qs es es' us h a E hp G;simp[gR]at h;subst h;cases qs with
  | nil=>exact⟨rfl,us,rfl,a⟩
  | cons q qs=>simp at E
 | cons p t X=>
  intro qs es es' us h a E hp G;cases qs with
  | nil=>simp at E
  | cons q qs=>
   obtain⟨i,v⟩:=p;obtain⟨Y,u⟩:=q;obtain⟨O,Q⟩:=hp 0 _ _ rfl rfl;simp only at O Q;subst O;simp only[gR]at h;split at h
   ·rename_i hi;obtain⟨C,n⟩:=G _ (im ..);simp only at C n;have b:=Q.cells;have J:u.cells.size=z:=by have:=b.1;simp at this;omega
    have I:us.size=es.length * z:=by have:=a.len;simpa using this
    have R:i * z+z<=us.size:=(by have:(i+1) * z<=es.length * z:=kr _ hi;rw[ke]at this;omega);have l:=JB (i * z) u.cells.toList 0 us (by simp;omega);have m:u.cells.zipIdx.foldl (λcs (p:Value × Nat)=>cs.setIfInBounds (i * z+p.2) p.1) us=cd us (i * z) u.cells.toList:=(by rw[wW]at l;rw[<-l,<-Kk,iQO]);have D : ∀x∈u.cells.toList,x.oneCell'=true:=by
     intro x f;obtain⟨j,y,F⟩:=ot f;have B:j<v.cells.length:=by rw[b.1];exact y
     have:=b.2 j _ x (dh B) (by rw[<-F];exact dh y);exact this.one (by simp only[eC]at n;exact n _ (kq B))
    have s:Row M z (es.set i v) (cd us (i * z) u.cells.toList).toList:=by
     refine⟨?_,?_,?_,?_⟩;·simp only[yw,List.length_set];rw[gV (by simp;omega),I]
     ·intro e c;rcases GP c with h | h
      ·exact a.Fa e h
      rw[h];exact C
     ·intro x f;simp only[cd,jG]at f;rcases f with (h | h) | h
      ·exact a.one x (w9 h)
      ·exact D x h
      exact a.one x (BZ h)
     intro k j e x c f;have V:k<es.length:=by have:=(dB.1 c).1;simpa using this
     rw[Da,gx (by simp;omega)];by_cases L:i=k
     ·subst L;rw[FH hi]at c;injection c with c
      subst c;have y:j<v.cells.length:=(dB.1 f).1;rw[if_pos ⟨by omega,by simp;omega⟩,GN];have A:j<u.cells.toList.length:=by rw[<-b.1];exact y
      exact⟨u.cells.toList[j],dh A,b.2 j x _ f (dh A)⟩
     rw[Dr L]at c;have y:j<z:=(by rw[<-a.Fa e (dk c)];exact(dB.1 f).1);obtain⟨W,N,K⟩:=a.vr k j e x c f;rw[if_neg];·exact⟨W,by simpa using N,K⟩
     simp only[yw,J];rcases Kl L with h | h
     ·have:(i+1) * z<=k * z:=kr _ h;rw[ke]at this;omega
     have:(k+1) * z<=i * z:=kr _ h;rw[ke]at this;omega
    obtain⟨S,d,T,U⟩:=X qs (es.set i v) es' (cd us (i * z) u.cells.toList) h s (by simpa using E) (λk p q o H=>hp (k+1) p q o H) (λp o=>G p (iR _ o));refine⟨by rw[S];simp,d,?_,U⟩;simp only[Instr.fill];rw[if_neg (by simp;omega)];rw[<-T,<-m]
   cases h
def sQ{zs:Array Value}{n:Nat}(c:0<zs.size):((Array.range (n * zs.size)).map (zs[· % zs.size]!)).toList=(List.replicate n zs.toList).flatten:=by
 apply GH;intro k;rcases dT k (n * zs.size)with a | a
 ·have b:k % zs.size<zs.size:=Nat.mod_lt _ c;have f:k / zs.size<n:=(iQG c).2 a;have e:((Array.range (n * zs.size)).map (zs[· % zs.size]!)).toList[k]?=some zs[k % zs.size]:=(by simp[a,b,getElem!_pos]);rw[e];have : ∀n k,k<n * zs.size->(List.replicate n zs.toList).flatten[k]?=zs.toList[k % zs.size]?:=by
   intro n;induction n with
   | zero=>intro k a;simp at a
   | succ n d=>
    intro k a;rw[Km,List.flatten_cons];rcases dT k zs.size with h | h
    ·rw[iB (by simpa using h),GC h]
    rw[hY (by simpa using h),yw,d (k - zs.size) (by rw[ke]at a;omega)];congr 1;rw[<-Nat.mod_eq_sub_mod h]
  rw[this n k a];simp[b]
 rw[tP (by simpa using a),tP (by simpa using a)]
def Et{t:TypeId}{n:Nat}(T:fk M ι g w){f:List (Nat × AV)}{qs:Array (Nat × Value)}{b:aP}(h:mkSlice P g t n f=some b)(R:f.length=qs.toList.length)
 (hp : ∀(i:Nat) p q,f[i]?=some p->qs.toList[i]?=some q->p.1=q.1/\VR M ι p.2 q.2) :
 b.arr=true/\b.fI=false/\b.es.length=n /\∃e arr,(Instr.buildSlice t n qs).run P w = .ok (.slice (some ⟨w.heap.size,0,none⟩) n n) (w.alloc (.cells arr e))/\arr.size=n * b.esz /\
  Row (jq M ι g w (bW g (f.map (·.2)))) b.esz b.es arr.toList:=by
 unfold mkSlice at h;split at h;·cases h
 rename_i e L;split at h
 ·rename_i S z s A I F;obtain⟨Q,h⟩:=dH.1 h;obtain⟨X,V,U,K,B⟩:=Q;simp only[bA]at h;obtain⟨es,D,rfl⟩:=h;obtain⟨it,u,x,C,hu⟩:=pL I;obtain⟨W,k,J⟩:=rT F;rw[x]at k;cases k;have o:=gP (M:=jq M ι g w (bW g (f.map (·.2)))) (ι:=cT) hu;have m:u.cells.size=s:=by have:=o.cells.1;simp at this;omega
  have c:=Row.replicate o U K n;obtain⟨O,H⟩:=GW T A R hp;have d:Row (jq M ι g w (bW g (f.map (·.2)))) s (List.replicate n z) ((Array.range (n * s)).map (u.cells[· % u.cells.size]!)).toList:=(by have:=sQ (zs:=u.cells) (n:=n) (by omega);rw[m]at this;rw[m,this];exact c);obtain⟨E,j,N,G⟩:=AG S qs.toList (List.replicate n z) es _ D d O H (by
   intro p v;simp only[eC,bD,iQb]at B;exact⟨(B p v).1,by simp only[eC];exact(B p v).2⟩)
  refine⟨rfl,rfl,by simpa using E,e,j,?_,?_,G⟩
  ·have y : ¬16777216<n * s:=(by omega);have a:Instr.fill (λi=>some (i * s,s)) ((Array.range (n * s)).map ((if n * s=0 then #[] else u.cells)[· % (if n * s=0 then #[] else u.cells).size]!)) qs.toList=some j:=by
    rw[<-N];congr 1;by_cases h:n * s=0;·simp[h]
    rw[if_neg h]
   simp only[Instr.buildSlice,iQe,bf (fm L),iQc,run_sizeOf F,gt_iff_lt];rw[if_neg y];by_cases l:n * s=0;·rw[if_pos l]at a ⊢;simp only[pure_bind];rw[a];simp[newRow]
   rw[if_neg l]at a ⊢;simp only[iQe,zeroValue,typeInfo,x,C,run_program,iQc,iQg,a];simp[newRow]
  rw[<-yw,G.len,E];simp
 cases h
def Cn{P:Program}{g:cb}{t:TypeId}{n:Nat}{c:List (Nat × AV)}{b:aP}(h:mkSlice P g t n c=some b):0<b.esz:=by
 unfold mkSlice at h;split at h;·cases h
 split at h;·obtain⟨a,h⟩:=dH.1 h;obtain⟨_,_,rfl⟩:=bA.1 h;exact a.1
 cases h
def Eh(v:fk M ι g w)(C:r.k=0)(F:ι r=none){d:Bool}{t:TypeId}{n:Nat}{l:List (Nat × AV)}{qs:Array (Nat × Value)}{x:AV}{bs:List aP}
 (h:gw P d g r t n (some l)=some (x,bs)) (G:l.length=qs.toList.length)
 (hp : ∀(i:Nat) p q,l[i]?=some p->qs.toList[i]?=some q->p.1=q.1/\VR M ι p.2 q.2) :
 ∃u w',(Instr.buildSlice t n qs).run P w = .ok u w'/\ij M ι g w r x bs u w':=by
 simp only[gw]at h;obtain⟨o,h⟩:=dH.1 h;simp only[bA]at h;obtain⟨b,A,h⟩:=h;obtain⟨H,I,B,e,arr,D,E,z⟩:=Et v A G hp;have j:=Jz o;obtain⟨f,_⟩:=xI (R:=bW g (l.map (·.2))) v;rw[j]at f;have a:A8 w (w.alloc (.cells arr e)) (.cells arr e (0,0)):=⟨rfl,rfl,rfl,rfl⟩;refine⟨_,_,D,ij.after j v ?_⟩;have m:b=⟨b.esz,b.es,true,false⟩:=by cases b;simp_all
 cases d with| true=>simp at h;obtain⟨rfl,rfl⟩:=h;have:=Pj (r:=r) f a z (λk u y=>by simpa using y) (c:=n) (by omega) (cap:=some n) (by intro k s;cases s;rfl);rw[B]at this;exact this| false=>simp at h;obtain⟨rfl,rfl⟩:=h;have:=rK f C F a z (λk u y=>by simpa using y) (n:=n) (c:=n) E (zD.zero _ _) (by omega) (aV _) (cap:=some n) (by intro k s;cases s;rfl);rw[B,<-m]at this;exact this (Cn A)
end
end
section
section
variable{P:Program}{M:Mem}{ι:Map}{g:cb}{w:World}{r:Ref}
inductive App (P:Program) (w:World) (t':Option TypeId) (x:Value) (e z:Nat) (n:Nat) (us:List Value):Prop
 | src {d:TypeDesc} (ht:t'.bind P.underlying=some d) (hd : ∀k,d ≠ .int k) (hl : ∀w':World,(Builtin.lenOf x).run P w' = .ok n w')
  (hf : ∀w':World,w'.heap=w.heap->(Builtin.firstCells z n x).run P w' = .ok us.toArray w')
 | zeros {k kx:IntKind} (u:Value) (ht:t'.bind P.underlying=some (.int k)) (hx:x = .int kx n) (hn:n<=aY) (hu : ∀w':World,(zeroValue e).run P w' = .ok u w') (hz:u.cells.size=z)
  (hus:us=(List.replicate n u.cells.toList).flatten)
def Bj{n:Nat}(h:n<=aY):IntKind.i64.wrap (n:Int)=n:=by
 unfold aY at h;exact iQa n ⟨by omega,by omega⟩
def BV{u:Value}{n:Nat}:(Builtin.zeroCells u.cells n).toList=(List.replicate n u.cells.toList).flatten:=by
 unfold Builtin.zeroCells;rcases Bf u.cells.size with h | h
 ·have:u.cells.toList=[]:=by simpa using Ib h
  simp[h,this]
 exact sQ h
def CH{l:Array TypeId}{t:TypeId}{ty:TypeId}(p:l[0]?=some t){e z by':Nat}(q:P.underlying t=some (.slice e))(n:av P e=some z)(o:lg P e=some by')
 {a:Option Addr} {len c:Nat} (h:len<=c) {x:Value} (y:App P w l[1]? x e z 0 []) :
 (Builtin.append_ l ty #[.slice a len c,x]).run P w = .ok (.slice a len c) w:=by
 simp only[lg,bA]at o;obtain⟨i,hi,rfl⟩:=o;cases y with
 | src b hm F E=>
  rename_i d;simp only[fH]at b;obtain⟨t',f,b⟩:=b;have m:=E w rfl;have j:(match d with | .int _=>true | _=>false)=false:=by cases d<;>first | rfl | exact absurd rfl (hm _)
  cases a<;>simp[j,Builtin.append_,p,f,bf q,bf b,run_sizeOf n,F,h,m,storeCells]
 | zeros u b v B s C D=>
  rename_i k kx;subst v;simp only[fH]at b;obtain⟨t',f,b⟩:=b;have A:IntKind.i64.wrap 0=0:=by simpa using Bj B
  cases a<;>simp[Builtin.append_,p,f,bf q,bf b,run_sizeOf n,asInt,asIntOf,A,typeInfo,hi,h,storeCells]
def rX{O:Array TypeId}{t:TypeId}{ty:TypeId}(R:O[0]?=some t){e z by':Nat}(T:P.underlying t=some (.slice e))(G:av P e=some z)(V:lg P e=some by')
 {v:Value} (o : ∀w':World,(zeroValue e).run P w' = .ok v w') (Z:v.cells.size=z)
 {a:Option Addr} {len c n:Nat} {x:Value} {olds us:List Value} (s : ∀w':World,w'.heap=w.heap->(Builtin.firstCells z len (.slice a len c)).run P w' = .ok olds.toArray w')
 (X:App P w O[1]? x e z n us) (K:c<len+n) (b:(len+n) * by'<=aY) (E:0<by') :
 ∃cap w',len+n<=cap/\(Builtin.append_ O ty #[.slice a len c,x]).run P w = .ok (.slice (some ⟨w.heap.size,0,none⟩) (len+n) cap) w' /\
  A8 w w' (.cells (olds.toArray++us.toArray++Builtin.zeroCells v.cells (cap - (len+n))) e (0,0)):=by
 simp only[lg,bA]at V;obtain⟨i,hi,rfl⟩:=V;have j : ¬(9223372036854775807<(len:Int)+(n:Int)):=by
  have:(len+n) * 1<=(len+n) * i.bytes:=Nat.mul_le_mul_left _ E;unfold aY at b;omega
 have p : ¬(281474976710656<Builtin.nextslicecap (len+n) c * i.bytes):=by
  have:=growslice_fits (need:=len+n) (old:=c) (bytes:=i.bytes) K (by unfold aY at b;exact b);omega
 have q : ¬(len+n<=c):=by omega
 have f:=s w.drew rfl;obtain⟨A,L⟩ : ∃A,A=olds.toArray:=⟨_,rfl⟩;rw[<-L]at f ⊢;refine⟨grownCap w (len+n) c e,w.drew.alloc (.cells (A++us.toArray++Builtin.zeroCells v.cells (grownCap w (len+n) c e - (len+n))) e (0,0)),grownCap_ge _ _ _ _,?_,⟨rfl,rfl,rfl,rfl⟩⟩;cases X with
 | src l hm hl hf=>
  rename_i d;simp only[fH]at l;obtain⟨t',m,l⟩:=l;have y:=hf w.drew rfl;obtain⟨B,S⟩ : ∃B,B=us.toArray:=⟨_,rfl⟩;rw[<-S]at y ⊢;have H:(match d with | .int _=>true | _=>false)=false:=by cases d<;>first | rfl | exact absurd rfl (hm _)
  simp[H,Builtin.append_,R,m,bf T,bf l,run_sizeOf G,hl,q,y,f,j,p,typeInfo,hi,Question.forced,o,newRow,grownCap]
 | zeros u l hx Y N I J=>
  rename_i k kx;subst hx;simp only[fH]at l;obtain⟨t',m,l⟩:=l;have U:=Bj Y;have W:u=v:=by
   have Q:=N w;rw[o w]at Q;cases Q;rfl
  subst W;have F : ¬((n:Int)<0):=by omega
  have C : ¬(281474976710656<(n:Int) * (i.bytes:Int)):=by
   have Q:n * i.bytes<=(len+n) * i.bytes:=kr _ (by omega);unfold aY at b;have h2:((n * i.bytes:Nat):Int)=(n:Int) * (i.bytes:Int):=by simp
   omega
  have D:us.toArray=if n * z=0 then #[] else Builtin.zeroCells u.cells n:=by
   rw[J,<-BV];by_cases h:n * z=0
   ·rw[if_pos h];have:(Builtin.zeroCells u.cells n).size=0:=by rw[iQI,I,h]
    rw[Array.toArray_toList];exact Ib this
   rw[if_neg h]
  rw[D];by_cases h:n * z=0;·simp[Builtin.append_,R,m,bf T,bf l,run_sizeOf G,asInt,asIntOf,U,F,C,typeInfo,hi,q,j,p,h,f,Question.forced,o,newRow,grownCap]
  simp[Builtin.append_,R,m,bf T,bf l,run_sizeOf G,asInt,asIntOf,U,F,C,typeInfo,hi,q,j,p,h,f,Question.forced,o,newRow,grownCap]
def yG{H:Array TypeId}{t:TypeId}{ty:TypeId}(I:H[0]?=some t){e z by':Nat}(J:P.underlying t=some (.slice e))(A:av P e=some z)(K:lg P e=some by')
 {b o len c n:Nat} {x:Value} {us:List Value} (N:App P w H[1]? x e z n us) (q:len+n<=c) (p:(len+n) * by'<=aY)
 {arr:Array Value} {T:TypeId} {fz:Nat × Nat} (y:w.heap[b]?=some (.cells arr T fz)) (S:o+len * z+us.length<=arr.size) (G : ∀j,j<arr.size ->¬(fz.1<=j/\(j<fz.2\/fz.2<fz.1))) (L : ∀u∈us,u.oneCell'=true) :
 (Builtin.append_ H ty #[.slice (some ⟨b,o,none⟩) len c,x]).run P w = .ok (.slice (some ⟨b,o,none⟩) (len+n) c) (bP w b (.cells (cd arr (o+len * z) us) T fz)):=by
 simp only[lg,bA]at K;obtain⟨i,hi,rfl⟩:=K;have f:=lj (P:=P) (o+len * z) us 0 arr w y (by simpa using S) G L;rw[wW]at f;cases N with
 | src l hm U Q=>
  rename_i d;simp only[fH]at l;obtain⟨t',m,l⟩:=l;have E:=Q w rfl;have B:(match d with | .int _=>true | _=>false)=false:=by cases d<;>first | rfl | exact absurd rfl (hm _)
  simp[B,Builtin.append_,I,m,bf J,bf l,run_sizeOf A,U,q,E,fy,f]
 | zeros u l R O F C D=>
  rename_i k kx;subst R;simp only[fH]at l;obtain⟨t',m,l⟩:=l;have y:=Bj O;have v : ¬((n:Int)<0):=by omega
  have s : ¬(281474976710656<(n:Int) * (i.bytes:Int)):=by
   have L:n * i.bytes<=(len+n) * i.bytes:=kr _ (by omega);unfold aY at p;have V:((n * i.bytes:Nat):Int)=(n:Int) * (i.bytes:Int):=by simp
   omega
  have a:us=(if n * z=0 then #[] else Builtin.zeroCells u.cells n).toList:=by
   rw[D,<-BV];by_cases h:n * z=0
   ·rw[if_pos h];have:(Builtin.zeroCells u.cells n).size=0:=by rw[iQI,C,h]
    rw[Ib this]
   rw[if_neg h]
  by_cases h:n * z=0;·rw[if_pos h]at a;simp only[Array.toList_empty]at a;rw[a]at f ⊢;simp[Builtin.append_,I,m,bf J,bf l,run_sizeOf A,asInt,asIntOf,y,v,s,typeInfo,hi,q,h,fy,f]
  rw[if_neg h]at a;rw[a]at f ⊢;simp[Builtin.append_,I,m,bf J,bf l,run_sizeOf A,asInt,asIntOf,y,v,s,typeInfo,hi,q,h,F,fy,f]
end
end
section
section
variable{P:Program}{M:Mem}{ι:Map}{g:cb}{w:World}{r:Ref}
def Oq{t:TypeId}{y z x:AV}{o p:Value}(m:VR M ι y o)(l:VR M ι z p){bs:List aP}(h:tk P t (some y) (some z)=some (x,bs)) :
 bs=[] /\∃u,(Instr.index t o p).run P w = .ok u w/\VR M ι x u:=by
 simp only[tk,cR]at h;split at h
 ·rename_i k cs f a;injection a with a
  subst a;obtain⟨D,rfl⟩:=uC l f;split at h
  ·rename_i n e A;split at h;·rename_i s c;obtain⟨d,h⟩:=dH.1 h;simp only[ik,bA]at h;obtain⟨B,j,he⟩:=h;cases he;obtain⟨F,rfl,i⟩:=m.NH;obtain⟨u,hu,C⟩:=MN (w:=w) i j;exact⟨rfl,u,by simp[Instr.index,asIntOf,bf (CP A),d.1,d.2,run_sizeOf c,hu],C⟩
   cases h
  cases h
 ·rename_i k s f c;injection c with c
  subst c;obtain⟨D,rfl⟩:=uC l f;cases m;obtain⟨d,h⟩:=dH.1 h;simp only[ik,bA]at h;obtain⟨B,⟨b,q,rfl⟩,he⟩:=h;cases he;refine⟨rfl,.int .u8 b.toNat,?_,.v rfl⟩;have E:=d.2;simp[Instr.index,asIntOf,bf (qD d.1),E,q]
 cases h
def QU{f:Fn}{a b:List AV}{j l:List Value}(m:j7 M ι a j)(k:j7 M ι b l){x:AV}{bs:List aP}(h:wy f (some a) (some b)=some (x,bs)) :
 bs=[]/\VR M ι x (.func f j.toArray l.toArray):=by
 simp only[wy,du,tM]at h;obtain⟨rfl,rfl⟩:=h;exact⟨rfl,.fn (by simpa using m.1) (by simpa using k.1) (λi c u d e=>m.2 i c u d (by simpa using e)) (λi c u d e=>k.2 i c u d (by simpa using e))⟩
def QN{tm:List AV}{a:Act}(h:TR M ι tm a){c x y:Operand}{z:AV}{bs:List aP}(d:Ee (ar tm) c x y=some (z,bs)) :
 bs=[] /\∃u,(do pure (if <-asBool (a.eval c) then a.eval x else a.eval y):Sem Value).run P w = .ok u w/\VR M ι z u:=by
 unfold Ee at d;split at d;·rename_i e;simp only[fH]at e;obtain⟨j,i,b⟩:=e;have:=yn (aG h i) b;simp only[ik,bA]at d;obtain⟨k,f,he⟩:=d;cases he;exact⟨rfl,_,by simp[this,asBool],aG h f⟩
 ·rename_i e;simp only[fH]at e;obtain⟨j,i,b⟩:=e;have:=yn (aG h i) b;simp only[ik,bA]at d;obtain⟨k,f,he⟩:=d;cases he;exact⟨rfl,_,by simp[this,asBool],aG h f⟩
 cases d
def TX{m:Array TypeId}{ty:TypeId}{y x:AV}{j:Value}(f:VR M ι y j){bs:List aP}(h:WK P m[0]? y=some (x,bs)) :
 bs=[] /\∃u,(Builtin.cap_ m ty #[j]).run P w = .ok u w/\VR M ι x u:=by
 unfold WK at h;split at h;·rename_i e b;obtain⟨t,d,b⟩:=fH.1 b;cases h;cases f;exact⟨rfl,goInt 0,by simp[Builtin.cap_,d,bf (fm b)],.v rfl⟩
 ·rename_i e z es k b;obtain⟨t,d,b⟩:=fH.1 b;cases h;cases f with | cC cell p q i hm s E=>
  rename_i a c;have:=i k rfl;subst this;exact⟨rfl,goInt c,by simp[Builtin.cap_,d,bf (fm b)],.v rfl⟩
 ·rename_i e r o len k b;obtain⟨t,d,b⟩:=fH.1 b;cases h;cases f with | bO B A p D q C i n=>
  rename_i l a c;have:=i k rfl;subst this;exact⟨rfl,goInt c,by simp[Builtin.cap_,d,bf (fm b)],.v rfl⟩
 cases h
def TV{l:Array TypeId}{ty:TypeId}{y x:AV}{k:Value}(d:VR M ι y k){bs:List aP}(h:Fl P l[0]? y=some (x,bs)) :
 bs=[] /\∃u,(Builtin.len_ l ty #[k]).run P w = .ok u w/\VR M ι x u:=by
 unfold Fl at h;split at h;·cases h
 rename_i t b;split at h
 ·rename_i n e m;injection h with h
  injection h with c f
  subst c;subst f;exact⟨rfl,goInt n,by simp[Builtin.len_,b,bf (CP m)],.v rfl⟩
 split at h
 ·rename_i j;split at h
  ·injection h with h
   injection h with c f
   subst c;subst f;cases d;exact⟨rfl,goInt _,by simp[Builtin.len_,b,bf (qD j)],.v rfl⟩
  cases h
 obtain⟨j,h⟩:=dH.1 h;obtain⟨e,he⟩:=fP.1 j;have i:=fm he;simp only[bA]at h;obtain⟨n,a,h⟩:=h;injection h with c f
 subst c;subst f;refine⟨rfl,goInt n,?_,.v rfl⟩;unfold pz at a;split at a;·injection a with a;subst a;cases d;simp[Builtin.len_,b,bf i]
 ·injection a with a;subst a;cases d;simp[Builtin.len_,b,bf i]
 ·injection a with a;subst a;cases d;simp[Builtin.len_,b,bf i]
 ·injection a with a;subst a;cases d;simp[Builtin.len_,b,bf i]
 cases a
def Gj{x:AV}{u:Value}{b:UInt8}(a:VR M ι x u)(h:byteOf x=some b) : ∃n:Int,u = .int .u8 n/\b=UInt8.ofNat n.toNat:=by
 unfold byteOf at h;split at h
 ·injection h with h
  cases a;exact⟨_,rfl,h.symm⟩
 cases h
def LL : ∀(a:List Int)(s:ByteArray),a.foldl (λr n=>r.push (UInt8.ofNat n.toNat)) s=⟨s.data++(a.map λn=>UInt8.ofNat n.toNat).toArray⟩:=by
 intro a;induction a with
 | nil=>intro s;simp
 | cons n a b=>intro s;rw[sG,b];simp[ByteArray.push]
def I0(N:fk M ι g w)(hr:r.k=0)(hq:ι r=none){src dst:TypeId}{y x:AV}{u0:Value}(R:VR M ι y u0){bs:List aP}(h:bM P g r src dst (some y)=some (x,bs)) :
 ∃u w',(Go.convert src dst u0).run P w = .ok u w'/\ij M ι g w r x bs u w':=by
 unfold bM at h;split at h
 ·rename_i e;injection e with e
  subst e;cases R;obtain⟨p,h⟩:=dH.1 h;simp only[bD]at p;obtain⟨e,F,E⟩:=o5 p.1;injection h with h
  injection h with H Q
  subst H;subst Q;exact⟨.string .empty,w,by rw[iQA w src dst e none 0 0 F E (qD p.2)];rfl,ij.same N (.v rfl)⟩
 ·rename_i s e;injection e with e
  subst e;cases R;split at h
  ·rename_i p;simp only[bD]at p;injection h with h
   injection h with H Q
   subst H;subst Q;exact⟨.string s,w,by simp[Go.convert,bf (qD p.1),bf (qD p.2)],ij.same N (.v rfl)⟩
  split at h
  ·rename_i p;simp only[bD]at p;obtain⟨hrm,h⟩:=dH.1 h;injection h with h
   injection h with H Q
   subst H;subst Q;obtain⟨e,F,E⟩:=o5 p.2;have hrun:=run_bytes_of_string (P:=P) w src dst e s (qD p.1) F E;have hcap:=grownCap_ge w s.size 0 e;have hrow:Row M 1 (s.data.toList.map λb=>AV.v (.int .u8 b.toNat)) (s.data.toList.map λb=>Value.int .u8 b.toNat):=by
    refine⟨by simp,?_,?_,?_⟩;·intro e I;simp only[lX]at I;obtain⟨b,_,rfl⟩:=I;rfl
    ·intro x hx;simp only[lX]at hx;obtain⟨b,_,rfl⟩:=hx;rfl
    intro i j e x I hx;simp only[lJ,bA]at I;obtain⟨b,hb,rfl⟩:=I;cases j with
    | succ j=>simp[AV.cells]at hx
    | zero=>simp[AV.cells]at hx;subst hx;exact⟨.int .u8 b.toNat,by simp[hb],.v rfl⟩
   have hsize:(bytesRow s (grownCap w s.size 0 e)).size=grownCap w s.size 0 e:=(by have:s.data.size=s.size:=rfl;simp[bytesRow];omega);have:=rK N hr hq (w':=w.drew.alloc (.cells (bytesRow s (grownCap w s.size 0 e)) e ((bytesRow s (grownCap w s.size 0 e)).size,(bytesRow s (grownCap w s.size 0 e)).size+1)))
    ⟨rfl,rfl,rfl,rfl⟩ hrow (by
     intro k u hu;have D:=(dB.1 hu).1;unfold bytesRow;rw[Kw (by simpa using D)];rw[<-hu];simp) (n:=grownCap w s.size 0 e) (c:=grownCap w s.size 0 e) (by rw[hsize];simp) ⟨by intro o ho h;simp only at h;omega,λh=>absurd h (by decide)⟩ (by simpa using hcap) (aV _) (cap:=none) (by intro k D;cases D) Nat.one_pos
   simp only[GA,yw]at this;exact⟨_,_,hrun,this⟩
  cases h
 ·rename_i v hne1 hne2 e;injection e with e
  subst e;simp only[ik,bA,fH]at h;obtain⟨z,⟨u,hu,hz⟩,I⟩:=h;cases I;cases R;exact⟨u,w,mR hu w,ij.same N (mS hz)⟩
 ·rename_i y' hne1 hne2 J e;injection e with e
  subst e;split at h
  ·rename_i p;simp only[bD]at p;obtain⟨e,F,E⟩:=o5 p.1;split at h
   ·rename_i z es d;simp only[bA]at h;obtain⟨l,hl,h⟩:=h;injection h with H Q
    subst H;subst Q;have hz1:z=1\/es=[]:=by
     cases es with| nil=>exact .inr rfl| cons e0 es0=>
      left;obtain⟨b,_,hb⟩:=jU hl 0 e0 rfl;unfold byteOf at hb;split at hb
      ·rename_i n;cases R with
       | cC cell W hcc' D hm I hh=>simp only[cr,du,tM]at d;obtain⟨rfl,rfl⟩:=d;have:=I _ (im ..);simpa [AV.cells] using this.symm
       | bO O Y W ha hcc' hn D G=>
        rename_i r1 off1 Hv cap1 l1 a1 c1;simp only[cr]at d;split at d
        ·rename_i b1 K;obtain⟨L,d⟩:=dH.1 d;injection d with d
         injection d with V Z
         have C:=N.at O G K;have hmem:(AV.v (.int .u8 n))∈b1.es:=by
          have:(AV.v (.int .u8 n))∈(b1.es.drop off1).take Hv:=by rw[Z];exact im ..
          exact BZ (w9 this)
         have:=C.cells _ hmem;rw[<-V,<-this];rfl
        cases d
       | v hv=>exact absurd rfl (J _)
       | _=>simp[cr]at d
      cases hb
    have hlen:=fq hl;obtain⟨a,n,c,rfl,hn,B⟩ : ∃a n c,u0 = .slice (some a) n c/\es.length=n /\∀j,j<n ->∃b:Int,w.cell? (a.add j)=some (.int .u8 b)/\l[j]?=some (UInt8.ofNat b.toNat):=by
     rcases hz1 with rfl | rfl
     ·obtain⟨us,hsrc⟩:=mW (P:=P) N R (Nat.one_pos) d;cases R with
      | cC cell W p D hm I hh=>
       rename_i esz es' cap a c;simp only[cr,du,tM]at d;obtain⟨rfl,rfl⟩:=d;refine⟨a,es'.length,c,rfl,rfl,?_⟩;intro j t;have S:=dh t;obtain⟨b,K,A⟩:=jU hl j _ S;have hcl:=I _ (kq t);have X:es'[j].cells=[es'[j]]:=by
        unfold byteOf at A;split at A;·rename_i heq;rw[heq];rfl
        cases A
       have hvr:=hh j 0 _ _ S (show es'[j].cells[0]?=some es'[j] by rw[X];rfl);obtain⟨nb,hnb,rfl⟩:=Gj hvr A;refine⟨nb,?_,K⟩;have:=N.mem _ _ _ (hm j 0 t (by omega)).1;rw[iE (W.resolve_right (by intro e;subst e;simp at t)),fy];rw[hnb]at this;simpa using this
      | bO O Y W ha p hn D G=>
       rename_i r1 m len cap l1 a c;simp only[cr]at d;split at d
       ·rename_i b1 K;obtain⟨L,d⟩:=dH.1 d;injection d with d
        injection d with V Z
        subst Z;have C:=N.at O G K;obtain⟨g1,g2⟩:=getElems b1.es m len L.2;refine⟨a,len,c,rfl,g1,?_⟩;intro j t;have S:((b1.es.drop m).take len)[j]?=some b1.es[m+j]:=by rw[g2 j t];exact dh (by omega)
        obtain⟨b,hb1',A⟩:=jU hl j _ S;have hcl:=C.cells _ (kq (by omega:m+j<b1.es.length));have X:b1.es[m+j].cells=[b1.es[m+j]]:=by
         unfold byteOf at A;split at A;·rename_i heq;rw[heq];rfl
         cases A
        obtain⟨u,U,hu2,hu3⟩:=C.cell (m+j) (dh (by omega)) 0 b1.es[m+j] (by rw[X];rfl);obtain⟨nb,hnb,rfl⟩:=Gj hu3 A;refine⟨nb,?_,hb1'⟩;have hoff:a.off=m * l1.esz:=by
         rcases ha with h | h
         ·omega
         exact h
        rw[iE W,fy,Y,hoff,C.esz,V];rw[V,hnb]at U;simp only[Nat.mul_one,wW]at U ⊢;exact U
       cases d
      | v hv=>exact absurd rfl (J _)
      | _=>simp[cr]at d
     cases R with
     | cC cell W p D hm I hh=>rename_i esz es' cap a c;simp only[cr,du,tM]at d;obtain⟨rfl,rfl⟩:=d;exact⟨a,0,c,rfl,rfl,λj t=>by omega⟩
     | bO O Y W ha p hn D G=>
      rename_i r1 m len cap l1 a c;simp only[cr]at d;split at d
      ·obtain⟨L,d⟩:=dH.1 d;injection d with d
       injection d with V Z
       have:len=0:=(by have:=(getElems _ m len L.2).1;rw[Z]at this;simpa using this.symm);exact⟨a,len,c,rfl,by simp[this],λj t=>by omega⟩
      cases d
     | v hv=>exact absurd rfl (J _)
     | _=>simp[cr]at d
    refine⟨.string ⟨l.toArray⟩,w,?_,ij.same N (.v rfl)⟩;rw[iQA w src dst e (some a) n c F E (qD p.2)];let f:Nat->Int:=λj=>if h:j<n then (B j h).choose else 0
    have hf1 : ∀j,j<n->w.cell? (a.add j)=some (.int .u8 (f j)):=λj t=>by simp only[f,dif_pos t];exact(B j t).choose_spec.1
    have hf2 : ∀j,j<n->l[j]?=some (UInt8.ofNat (f j).toNat):=λj t=>by simp only[f,dif_pos t];exact(B j t).choose_spec.2
    have hload:=run_loadCells (P:=P) w a n (λj => .int .u8 (f j)) (λj t=>hf1 j t);have hns:(loadCells a n).run P w = .ok (((List.range n).map f).map (Value.int .u8)).toArray w:=by rw[hload];simp
    rw[run_bytesToString w a n c _ hns,LL];have:((List.range n).map f).map (λn=>UInt8.ofNat n.toNat)=l:=by
     apply GH;intro j;rcases dT j n with t | t
     ·rw[hf2 j t];simp[t]
     rw[tP (by simpa using t),tP (by omega)]
    rw[this];have he0:ByteArray.empty.data = #[]:=rfl;rw[he0];simp
   cases h
  replace h:=dH.1 h;obtain⟨p,h⟩:=h;simp only[bD,iQk]at p;obtain⟨he0,p⟩:=p;subst he0;obtain⟨e,F,E⟩:=o5 p;cases y with
  | bO r' m len cap=>
   obtain⟨k,D,hk1,h⟩ : ∃k,g r'=some k/\k.esz=1/\some (AV.bO r' m len cap,([]:List aP))=some (x,bs):=by
    cases D:g r' with| none=>simp only[D]at h;cases h| some k=>simp only[D]at h;obtain⟨H,h⟩:=dH.1 h;exact⟨k,rfl,H,h⟩
   injection h with h;injection h with H Q;subst H;subst Q
   have hy0:=R;cases R with | bO hrl hbb hsp ha L hn hkk G=>
   rename_i l a c;have C:=N.at hrl G D;obtain⟨arr,T,fz,hh,hsz,hfz,hcells⟩:=C.heap;have hlt:=C.lt;have hfr:w.freeze ⟨a.block,arr.size,none⟩ 1=bP w l.b (.cells arr T (if fz.1 == fz.2 then (arr.size,arr.size+1) else (min fz.1 arr.size,max fz.2 (arr.size+1)))):=by
    unfold World.freeze bP;rw[if_neg (by decide)];congr 1;apply BX;intro i;rw[Ds,hbb];by_cases hi:l.b=i;·subst hi;rw[if_pos rfl,hh,Db hlt];rfl
    rw[if_neg hi,yx hi]
   have hfz' : ∀o,o<arr.size ->¬((if fz.1 == fz.2 then (arr.size,arr.size+1) else (min fz.1 arr.size,max fz.2 (arr.size+1)):Nat × Nat).1<=o/\(o<(if fz.1 == fz.2 then (arr.size,arr.size+1) else (min fz.1 arr.size,max fz.2 (arr.size+1)):Nat × Nat).2\/(if fz.1 == fz.2 then (arr.size,arr.size+1) else (min fz.1 arr.size,max fz.2 (arr.size+1)):Nat × Nat).2<(if fz.1 == fz.2 then (arr.size,arr.size+1) else (min fz.1 arr.size,max fz.2 (arr.size+1)):Nat × Nat).1)):=by
    intro o ho;split;·simp only;omega
    rename_i hne;simp only[iQk]at hne;have H:arr.size<=fz.1:=by
     rcases dT fz.1 arr.size with h | h
     ·exact absurd ⟨aV _,by omega⟩ (hfz.1 fz.1 h)
     exact h
    simp only;omega
   obtain⟨V,Z⟩:=N.mark D hrl hh hfr ⟨hfz',λH=>by omega⟩;refine⟨.slice (some a) len c,_,?_,M,ι,hy0,by rw[lP];exact V,by rw[lP];exact Z,λq hq _=>hq⟩;have hsh:w.shape? a.block=some (T,arr.size):=(by unfold World.shape?;rw[hbb,hh]);simp[Go.convert,bf F,bf E,markStringish,hsh]
  | _=>cases h
 rename_i e;cases e
def QP(hS:fk M ι g w)(hr:r.k=0)(hq:ι r=none){t:TypeId}{y z x:AV}{V Y:Value}(hy:VR M ι y V)(hz:VR M ι z Y){bs:List aP}(h:wu P r t (some y) (some z)=some (x,bs)) :
 ∃u w',(Instr.makeSlice t V Y).run P w = .ok u w'/\ij M ι g w r x bs u w':=by
 unfold wu at h;simp only[cR]at h;split at h
 ·rename_i e l c W hl hc;obtain⟨kl,rfl⟩:=uC hy hl;obtain⟨kc,rfl⟩:=uC hz hc;split at h
  ·rename_i zv s b S R X;obtain⟨q,h⟩:=dH.1 h;obtain⟨c1,c2,c3,c4,c5,Z,U⟩:=q;injection h with h
   injection h with h1 h2
   subst h1;subst h2;obtain⟨it,u,m,O,hu⟩:=pL S;obtain⟨i',I,hsz⟩:=rT R;rw[m]at I;cases I;simp only[lg,m,Option.map_some,du]at X;have B:=gP (M:=M) (ι:=cT) hu;have C:u.cells.size=s:=by have:=B.cells.1;simp at this;omega
   obtain⟨j,rfl⟩:=Dt c1;obtain⟨a,rfl⟩:=Dt (Int.le_trans c1 c2);have K:IntKind.i64.wrap (j:Int)=j:=iQa _ ⟨by omega,by omega⟩;have H:IntKind.i64.wrap (a:Int)=a:=iQa _ ⟨by omega,by omega⟩;have L : ¬((a:Int)<0):=by omega
   have o : ¬(281474976710656<(it.bytes:Int) * (a:Int)):=(by rw[X,Int.mul_comm];have e1:((aY:Nat):Int)=140737488355328:=rfl;omega);have F : ¬((j:Int)<0):=(by omega);have G : ¬((a:Int)<(j:Int)):=(by omega);have i:=sQ (zs:=u.cells) (n:=a) (by omega);rw[C]at i;have d:((Array.range (a * s)).map ((if a * s=0 then #[] else u.cells)[· % (if a * s=0 then #[] else u.cells).size]!)).toList=(List.replicate a u.cells.toList).flatten:=by
    by_cases D:a * s=0
    ·have T:a=0:=by
      rcases Nat.mul_eq_zero.1 D with h | h
      ·exact h
      omega
     simp[T]
    rw[if_neg D,C];exact i
   obtain⟨arr,f⟩ : ∃arr,arr=(Array.range (a * s)).map ((if a * s=0 then #[] else u.cells)[· % (if a * s=0 then #[] else u.cells).size]!):=⟨_,rfl⟩;rw[<-f]at d;have p:=Row.replicate B Z U a;have A:arr.size=a * s:=by rw[<-yw,d];have:=p.len;simpa using this
   have E:(Instr.makeSlice t (.int kl j) (.int kc a)).run P w = .ok (.slice (some ⟨w.heap.size,0,none⟩) j a) (w.alloc (.cells arr e)):=by
    subst f;by_cases D:a * s=0;·simp[Instr.makeSlice,bf (fm W),asInt,asIntOf,typeInfo,m,K,H,L,o,F,G,run_sizeOf R,D,newRow]
    simp[Instr.makeSlice,bf (fm W),asInt,asIntOf,typeInfo,m,K,H,L,o,F,G,run_sizeOf R,D,newRow,zeroValue,O]
   refine⟨_,_,E,?_⟩;have J:=Row.replicate B Z U j;have:=rK hS hr hq (w':=w.alloc (.cells arr e)) ⟨rfl,rfl,rfl,rfl⟩ J (by
    intro k v N;rw[<-Da,d];have Q:(List.replicate a u.cells.toList)=List.replicate j u.cells.toList++List.replicate (a - j) u.cells.toList:=by rw[List.replicate_append_replicate];congr 1;omega
    rw[Q,List.flatten_append,iB (dB.1 N).1];exact N) (n:=a) (c:=a) A (zD.zero _ _) (by simp;omega) (aV _) (cap:=none) (by intro k N;cases N) c5
   simpa using this
  cases h
 cases h
end
end
section
section
variable{P:Program}{M:Mem}{ι:Map}{g:cb}{w:World}{r:Ref}
def Es(U:fk M ι g w){t':Option TypeId}{e z:Nat}(Y:av P e=some z)(L:0<z){x:AV}{Q:Value}(G:VR M ι x Q){new:List AV}
 (N : ¬((t'.bind P.underlying).isNone=true\/(t'.map (isInt P)).getD false≠isNum x)) (h:lN P g e x=some (z,new)) : ∃us,Row M z new us/\App P w t' Q e z new.length us:=by
 have F : ∃d,t'.bind P.underlying=some d/\(isNum x=false ->∀k,d ≠ .int k)/\(isNum x=true ->∃k,d = .int k):=by
  have f : ¬(t'.bind P.underlying).isNone=true:=λh=>N (.inl h);have b:(t'.map (isInt P)).getD false=isNum x:=q9.1 λh=>N (.inr h);cases t' with
  | none=>simp at f
  | some t=>
   simp only[cR]at f ⊢;cases hu:P.underlying t with
   | none=>simp[hu]at f
   | some d=>
    simp only[Option.map_some,dP]at b;refine⟨d,rfl,?_,?_⟩;·intro A k s;subst s;rw[A]at b;simp[isInt,hu]at b
    intro A;rw[A]at b;obtain⟨k,s⟩:=RH b;rw[hu]at s;exact⟨k,by simpa using s⟩
 obtain⟨d,E,o,H⟩:=F;unfold lN at h;split at h
 ·simp only[bA]at h;obtain⟨R,B,h⟩:=h;injection h with f b
  subst b;cases G;exact⟨[],Row.nil,.src E (o rfl) (λw'=>rfl) (λw' _=>rfl)⟩
 ·rename_i k n;split at h
  ·rename_i Z R y B;obtain⟨c,h⟩:=dH.1 h;injection h with h
   injection h with f b
   subst f;subst b;obtain⟨c1,T,X,W⟩:=c;obtain⟨m,rfl⟩:=Dt c1;obtain⟨k',rfl⟩:=H rfl;cases G;obtain⟨u,i,J⟩:=uo y w;have I : ∀w':World,(zeroValue e).run P w' = .ok u w':=by
    intro w';obtain⟨u',f,b⟩:=uo y w';obtain⟨it,v,q,l,K⟩:=pL y;have S:(zeroValue e).run P w = .ok v w:=by simp[zeroValue,typeInfo,q,l]
    have V:(zeroValue e).run P w' = .ok v w':=(by simp[zeroValue,typeInfo,q,l]);rw[S]at i;cases i;exact V
   have K:=gP (M:=M) (ι:=cT) J;have C:u.cells.size=R:=by have:=K.cells.1;simp at this;omega
   refine⟨_,Row.replicate K X W m,?_⟩;rw[BW];exact .zeros (kx:=k) u E (by simp) (by simpa using T) I C (by simp)
  cases h
 rename_i O p;have j:isNum x=false:=by
  unfold isNum;split;·exact absurd rfl (p _ _)
  rfl
 obtain⟨us,a⟩:=mW (P:=P) U G L h;refine⟨us,a.row,.src E (o j) a.lenOf λw' D=>?_⟩;have:=a.first new.length w' (aV _) D;rwa [fG (by rw[a.len];exact aV _)]at this
def yU{e z:Nat}(f:av P e=some z){y:AV}(d:eJ P e=some y)(h:y.cells.length=z) : ∃u,(∀w':World,(zeroValue e).run P w' = .ok u w')/\u.cells.size=z:=by
 obtain⟨it,v,b,a,c⟩:=pL d;refine⟨v,λw'=>by simp[zeroValue,typeInfo,b,a],?_⟩;have:=(gP (M:=λ_ _=>none) (ι:=cT) c).cells.1;simp at this;omega
def xC{olds us:List Value}{b:Value}{z n1 n2 cap:Nat}(d:olds.length=n1 * z)(f:us.length=n2 * z)(e:b.cells.size=z)(h:n1+n2<=cap) :
 (olds.toArray++us.toArray++Builtin.zeroCells b.cells (cap - (n1+n2))).size=cap * z /\
 ∀(k:Nat) u,(olds++us)[k]?=some u->(olds.toArray++us.toArray++Builtin.zeroCells b.cells (cap - (n1+n2)))[k]?=some u:=by
 constructor;·simp only[Array.size_append,List.size_toArray,iQI,e,d,f,<-ke];congr 1;omega
 intro k u c;have a:=(dB.1 c).1;rw[Kw (by simpa using a)];simpa using c
def ye{a:Option Addr}{len c z:Nat}{es:List AV}{us:List Value}{u:Value}(e:u = .slice a len c)(d:es.length=len)(h:Src P M w u z es us) :
 ∀w':World,w'.heap=w.heap->(Builtin.firstCells z len (.slice a len c)).run P w' = .ok us.toArray w':=by
 intro w' b;have:=h.first es.length w' (aV _) b;rw[fG (by rw[h.len];exact aV _),e,d]at this;exact this
def Ej(K:fk M ι g w)(hr:r.k=0)(hq:ι r=none){ts:Array TypeId}{ty:TypeId}{s x y:AV}{us ux:Value}(Z:VR M ι s us)(hx:VR M ι x ux){bs:List aP}
 (h:dY P g r ts[0]? ts[1]? s x=some (y,bs)) : ∃u w',(Builtin.append_ ts ty #[us,ux]).run P w = .ok u w'/\ij M ι g w r y bs u w':=by
 unfold dY at h;split at h;·cases h
 rename_i e he;simp only[fH]at he;obtain⟨t,ht,he⟩:=he;have hu:=fm he;split at h;·cases h
 rename_i hc;split at h
 ·rename_i z by' zz J new hz hb hzz R;split at h;·cases h
  rename_i i;have X:J=z:=q9.1 λh=>i (.inl h);have D:0<z:=wb λh=>i (.inr (.inl h));have hb0:0<by':=wb λh=>i (.inr (.inr (.inl h)));have O:zz.cells.length=z:=q9.1 λh=>i (.inr (.inr (.inr h)));have hez':=X;subst X;obtain⟨Q,A,hA⟩:=Es (w:=w) K hz D hx hc R;have f:new=[] ->∀a len c,len<=c->us = .slice a len c->(Builtin.append_ ts ty #[us,ux]).run P w = .ok us w:=by
   intro E a len c hlc I;subst E;have:Q=[]:=we (by rw[A.len];simp);subst this;rw[I];exact CH ht hu hz hb hlc hA
  have fresh : ∀ {a:Option Addr} {len c:Nat} {es:List AV} {us0:List Value},us = .slice a len c->es.length=len->Row M J es us0 ->
   (∀w':World,w'.heap=w.heap->(Builtin.firstCells J len (.slice a len c)).run P w' = .ok us0.toArray w')->c<len+new.length->(len+new.length) * by'<=aY ->
   ∃u w',(Builtin.append_ ts ty #[us,ux]).run P w = .ok u w'/\ij M ι g w r (.bO r 0 (len+new.length) none) [⟨J,es++new,true,false⟩] u w':=by
   intro a len c es us0 I C B T N d;obtain⟨zv,hzv,S⟩:=yU hz hzz O;obtain⟨cap,w',W,Y,L⟩:=rX (P:=P) (w:=w) (ty:=ty) ht hu hz hb hzv S T hA N d hb0;obtain⟨o,p⟩:=xC (olds:=us0) (us:=Q) (n1:=len) (n2:=new.length) (cap:=cap) (by rw[B.len,C]) A.len S W;refine⟨_,w',by rw[I];exact Y,?_⟩;have:=rK K hr hq L (B.append A) p (n:=cap) (c:=cap) o (zD.zero _ _) (by simp;omega) (aV _) (cap:=none) (by intro k V;cases V) D;simp only[eS,C]at this;exact this
  split at h
  ·cases Z;split at h
   ·rename_i E;injection h with h;injection h with o p;subst o;subst p
    exact⟨_,w,f E none 0 0 (aV _) rfl,ij.same K (.v rfl)⟩
   rename_i E;obtain⟨d,h⟩:=dH.1 h;injection h with h;injection h with o p;subst o;subst p
   have hpos:0<new.length:=BY.2 E;have:=fresh (a:=none) (len:=0) (c:=0) (es:=[]) (us0:=[]) rfl rfl Row.nil (λw' _=>rfl) (by omega) (by simpa using d);simpa using this
  ·rename_i n es cap;split at h;·cases h
   rename_i H;have H:n=J:=q9.1 H;subst H;have q:=Z;cases Z with | cC cell hsp G V hm hes hh=>
   rename_i a c;split at h
   ·rename_i E;injection h with h;injection h with o p;subst o;subst p
    exact⟨_,w,f E _ _ _ G rfl,ij.same K q⟩
   cases cap with
   | some k=>
    obtain⟨⟨N,d⟩,h⟩:=dH.1 h;injection h with h;injection h with o p;subst o;subst p
    have hck:=V k rfl;obtain⟨us0,j⟩:=mW (P:=P) (g:=g) (z:=n) (es:=es) K q D rfl;exact fresh rfl rfl j.row (ye rfl rfl j) (by omega) d
   | none=>cases h
  ·rename_i r' F len cap;split at h
   ·rename_i b hb';split at h;·cases h
    rename_i m;have hbz:b.esz=J:=q9.1 λh=>m (.inl h);have U:b.arr=true:=by
     cases hh:b.arr with| true=>rfl| false=>exact absurd (.inr hh) m
    have q:=Z;cases Z with | bO hrl hbb hsp ha G E V O=>
    rename_i l a c;split at h
    ·rename_i hn';injection h with h;injection h with o p;subst o;subst p
     exact⟨_,w,f hn' _ _ _ G rfl,ij.same K q⟩
    cases cap with
    | some k=>
     obtain⟨⟨hle,N,d⟩,h⟩:=dH.1 h;injection h with h;injection h with o p;subst o;subst p
     have hck:=V k rfl;have C:cr g (.bO r' F len (some k))=some (J,(b.es.drop F).take len):=(by simp only[cr,hb',U,hle,and_self,if_true,hbz]);obtain⟨us0,j⟩:=mW (P:=P) K q D C;have hl:=(getElems b.es F len hle).1;exact fresh rfl hl j.row (ye rfl hl j) (by omega) d
    | none=>cases h
   cases h
  cases h
 cases h
end
end
section
def ab.get_put(H:ab)(r q:Ref)(b:Option aP):(H.put r b).get q=if q=r then b else H.get q:=by
 induction H with
 | nil=>
  simp only[ab.put,ab.get];by_cases h:q=r;·rw[if_pos h.symm,if_pos h]
  rw[if_neg (pF h),if_neg h]
 | cons p H e=>
  obtain⟨r',f⟩:=p;simp only[ab.put];by_cases d:r'=r
  ·rw[if_pos d];simp only[ab.get];by_cases c:q=r;·rw[if_pos c.symm,if_pos c]
   rw[if_neg (pF c),if_neg c,if_neg (by rw[d];exact pF c)]
  rw[if_neg d];simp only[ab.get];by_cases a:r'=q;·rw[if_pos a,if_neg (by rw[<-a];exact d),if_pos a]
  rw[if_neg a,e,if_neg a]
def ab.fB(H:ab)(r:Ref)(b:Option aP)(h:(H.get r).isSome=true)(d t:Nat):(H.put r b).gen d t=H.gen d t:=by
 induction H with| nil=>simp[ab.get]at h| cons p H c=>
  obtain⟨r',e⟩:=p;simp only[ab.put];by_cases a:r'=r;·rw[if_pos a,a];rfl
  rw[if_neg a];simp only[ab.gen];simp only[ab.get,if_neg a]at h;rw[c h]
def ab.cP(R:List Ref) : ∀(H:ab),(bQ H R).get=qP H.get R:=by
 induction R with| nil=>intro H;funext q;simp[bQ,qP]| cons r R e=>
  intro H;funext q;simp only[bQ];split
  ·rename_i b d;rw[e];unfold qP;simp only[dG,ab.get_put];by_cases a:q=r;·subst a;simp[d]
   simp only[if_neg a];by_cases c:q∈R;·simp[c]
   simp[c,a]
  rename_i d;rw[e];unfold qP;simp only[dG];by_cases a:q=r;·subst a;simp[d]
  by_cases c:q∈R;·simp[c]
  simp[c,a]
def ab.fM(R:List Ref) : ∀(H:ab)(d t:Nat),(bQ H R).gen d t=H.gen d t:=by
 induction R with| nil=>intro H d t;rfl| cons r R a=>
  intro H d t;simp only[bQ];split;·rename_i b c;rw[a,ab.fB H r _ (by rw[c];rfl)]
  exact a H d t
def ab.yj(r:Ref) : ∀(bs:List aP)(k:Nat)(H:ab)(q:Ref),(keyed r k bs H).get q=if q.d=r.d/\q.t=r.t/\q.g=r.g/\k<=q.k/\q.k<k+bs.length then bs[q.k - k]? else H.get q:=by
 intro bs;induction bs with
 | nil=>intro k H q;rw[if_neg (by intro h;simp only[oq]at h;omega)];rfl
 | cons b bs f=>
  intro k H q;simp only[keyed,f,ab.get,lZ];by_cases a:q.d=r.d/\q.t=r.t/\q.g=r.g
  ·by_cases c:q.k=k;·rw[if_neg (by omega),if_pos (by cases q;cases r;simp_all),if_pos ⟨a.1,a.2.1,a.2.2,by omega,by omega⟩];simp[c]
   by_cases e:k+1<=q.k/\q.k<k+1+bs.length;·rw[if_pos ⟨a.1,a.2.1,a.2.2,e⟩,if_pos ⟨a.1,a.2.1,a.2.2,by omega,by omega⟩];rw[show q.k - k=(q.k - (k+1))+1 by omega];simp
   rw[if_neg (by omega),if_neg (by intro h;apply c;rw[<-h]),if_neg (by omega)]
  rw[if_neg (by intro h;exact a ⟨h.1,h.2.1,h.2.2.1⟩),if_neg (by intro h;apply a;rw[<-h];exact⟨rfl,rfl,rfl⟩),if_neg (by intro h;exact a ⟨h.1,h.2.1,h.2.2.1⟩)]
def ab.lA(r:Ref)(bs:List aP)(H:ab):(keyed r 0 bs H).get=pX H.get r bs:=by
 funext q;rw[ab.yj];unfold pX;simp
def ab.kG(r:Ref) : ∀(bs:List aP)(k:Nat)(H:ab)(d t:Nat),(keyed r k bs H).gen d t=if d=r.d/\t=r.t/\bs≠[] then r.g+1 else H.gen d t:=by
 intro bs;induction bs with
 | nil=>intro k H d t;simp[keyed]
 | cons b bs f=>
  intro k H d t;simp only[keyed,f,ab.gen];by_cases h:d=r.d/\t=r.t
  ·obtain⟨rfl,rfl⟩:=h;by_cases c:bs=[];·simp[c]
   simp[c]
  have e : ¬(r.d=d/\r.t=t):=λa=>h ⟨a.1.symm,a.2.symm⟩;rw[if_neg (by intro a;exact h ⟨a.1,a.2.1⟩),if_neg e,if_neg (by intro a;exact h ⟨a.1,a.2.1⟩)]
def p8(ι:Map)(H:ab):Prop :=∀q l,ι q=some l->q.g<H.gen q.d q.t
def p8.fresh{ι:Map}{H:ab}(h:p8 ι H)(d t k:Nat):ι ⟨d,t,H.gen d t,k⟩=none:=by
 cases hi:ι ⟨d,t,H.gen d t,k⟩ with| none=>rfl| some l=>exact absurd (h _ l hi) (wX _)
section
variable{P:Program}{M:Mem}{ι:Map}{g:cb}{w:World}{r:Ref}
def mZ(M:Mem)(ι:Map)(H:ab)(w:World)(x:AV)(H':ab)(u:Value)(w':World):Prop:=
 ∃M' a,VR M' a x u/\fk M' a H'.get w'/\qX M ι H.get w M' a H'.get w'/\p8 a H'
def ij.Yb{H:ab}{x:AV}{bs:List aP}{u:Value}{w':World}(n:p8 ι H){d t:Nat}(h:ij M ι H.get w ⟨d,t,H.gen d t,0⟩ x bs u w'):mZ M ι H w x (keyed ⟨d,t,H.gen d t,0⟩ 0 bs H) u w':=by
 obtain⟨M',c,p,s,j,o⟩:=h;refine⟨M',c,p,by rw[ab.lA];exact s,by rw[ab.lA];exact j,?_⟩;intro q l i;rw[ab.kG];cases hi:ι q with
 | some m=>
  have:=n q m hi;split;·rename_i f;rw[f.1,f.2.1]at this;exact yV this
  exact this
 | none=>
  by_cases a : ∃k,k<bs.length/\q = { (⟨d,t,H.gen d t,0⟩:Ref)with k:=k};·obtain⟨k,a,rfl⟩:=a;rw[if_pos ⟨rfl,rfl,by intro e;rw[e]at a;simp at a⟩];exact oU _
  rw[o q hi (λk b e=>a ⟨k,b,e⟩)]at i;cases i
def I4{cs new:List AV}{j:Nat}(h:j+new.length<=cs.length)(k:Nat):(patch cs j new)[k]?=if j<=k/\k<j+new.length then new[k - j]? else cs[k]?:=by
 unfold patch;have b:(cs.take j).length=j:=by simp;omega
 rcases dT k j with a | a
 ·rw[il,iB (by omega),w8,if_pos a,if_neg (by omega)]
 rcases dT k (j+new.length)with c | c
 ·rw[il,hY (by omega),iB (by omega),if_pos ⟨a,c⟩,b]
 rw[hY (by simp;omega),wZ,if_neg (by omega)];simp only[eS,b];congr 1;omega
def OI{x:AV}(h:x.one=true):x.cells=[x]:=by
 cases x<;>first | rfl | (simp[AV.one]at h)
def GR{e c:AV}{j:Nat}{new:List AV}(h:pG e j new=some c)(i:new.all AV.one=true):j+new.length<=e.cells.length/\c.cells=patch e.cells j new:=by
 have a : ∀x,(∀cs,e ≠ .agg cs)->j=0->new=[x]->c=x->j+new.length<=e.cells.length/\c.cells=patch e.cells j new:=by
  intro x b l k f;have d:e.cells=[e]:=by cases e<;>first | rfl | exact absurd rfl (b _)
  subst l;subst k;subst f;simp only[uU,iQT,yv]at i;rw[d,OI i];exact⟨by simp,by simp[patch]⟩
 unfold pG at h;split at h
 ·obtain⟨d,h⟩:=dH.1 h;injection h with h
  subst h;exact⟨d,rfl⟩
 rename_i b;split at h
 ·injection h with h
  exact a _ (λcs f=>b cs f) rfl rfl h.symm
 cases h
def Du(R:fk M ι g w){k:aP}{l:Loc}{i j:Nat}{new es':List AV}(Q:g r=some k)(S:ι r=some l)(z:0<l.esz)(K:k.fI=false)(B:eA k.es i j new=some es')(N:new.all AV.one=true)
 {us:List Value} (q:j7 M (k.map ι) new us) :
 ∃arr T fz,w.heap[l.b]?=some (.cells arr T fz)/\i * k.esz+j+us.length<=arr.size/\(∀o,o<arr.size ->¬(fz.1<=o/\(o<fz.2\/fz.2<fz.1)))/\(∀u∈us,u.oneCell'=true) /\
  fk M ι (j3 g r { k with es:=es'}) (bP w l.b (.cells (cd arr (i * k.esz+j) us) T fz))/\qX M ι g w M ι (j3 g r { k with es:=es'}) (bP w l.b (.cells (cd arr (i * k.esz+j) us) T fz)):=by
 have v:=R.at S z Q;obtain⟨arr,T,fz,hh,A,C,O⟩:=v.heap;unfold eA at B;split at B;·cases B
 rename_i e H;simp only[bA]at B;obtain⟨Y,J,rfl⟩:=B;obtain⟨hle,d⟩:=GR J N;have hi:i<k.es.length:=(dB.1 H).1;have G:=v.cells e (dk H);have U:=q.1;have a:i * k.esz+j+us.length<=arr.size:=by
  have h2:(i+1) * k.esz<=l.n * k.esz:=kr _ (by have:=v.len;omega);rw[ke]at h2;rw[A];omega
 have p : ∀u∈us,u.oneCell'=true:=by
  intro u hu;obtain⟨m,hm,I⟩:=ot hu;have D:m<new.length:=by omega
  have:=q.2 m _ u (dh D) (by rw[<-I];exact dh hm);exact this.one (by simp only[eC]at N;exact N _ (kq D))
 obtain⟨Z,W⟩:=R.write (k' := { k with es:=k.es.set i Y}) Q S z (arr:=cd arr (i * k.esz+j) us) (T:=T) (fz:=fz) rfl rfl rfl (by rw[gV a];exact A)
  (by rw[gV a];exact C) (by simp;exact v.len)
  (by
   intro E L;rcases GP L with h | h
   ·exact v.cells E h
   rw[h,d,<-G];simp[patch];omega)
  (by
   intro o x f;have:=(v.frozen o x f).1;rw[K]at this;cases this)
  (by
   intro F t E x c f;rw[gx a];by_cases s:i=F
   ·subst s;rw[FH hi]at c;injection c with c
    subst c;rw[d,I4 hle]at f;split at f
    ·rename_i V;rw[if_pos (by omega),show i * k.esz+t - (i * k.esz+j)=t - j by omega];have y:t - j<us.length:=by omega
     exact⟨us[t - j],dh y,p _ (kq y),q.2 _ _ _ f (dh y)⟩
    rename_i V;rw[if_neg (by omega)];exact O i t e x H f
   rw[Dr s]at c;have X:t<k.esz:=(by rw[<-v.cells E (dk c)];exact(dB.1 f).1);rw[if_neg];·exact O F t E x c f
   rcases Kl s with h | h
   ·have:(i+1) * k.esz<=F * k.esz:=kr _ h;rw[ke]at this;omega
   have:(F+1) * k.esz<=i * k.esz:=kr _ h;rw[ke]at this;omega)
 exact⟨arr,T,fz,hh,a,C.1,p,Z,W⟩
def xm{t:TypeId}{n:Nat}(h:av P t=some n){b o:Nat}{u:Value}(f:u.cells.size=n){arr:Array Value}{T:TypeId}{fz:Nat × Nat}(e:w.heap[b]?=some (.cells arr T fz))
 (a:o+u.cells.toList.length<=arr.size) (c : ∀o,o<arr.size ->¬(fz.1<=o/\(o<fz.2\/fz.2<fz.1))) (d : ∀x∈u.cells.toList,x.oneCell'=true) :
 (Instr.storeAt t (.pointer (some ⟨b,o,none⟩)) u).run P w = .ok () (bP w b (.cells (cd arr o u.cells.toList) T fz)):=by
 have:=lj (P:=P) o u.cells.toList 0 arr w e (by simpa using a) c d;simp only[wW]at this;simp[Instr.storeAt,Instr.sureAddr,storeVar,run_sizeOf h,f,this]
def qw(H:ab)(r:Ref)(k:aP):(H.put r (some k)).get=j3 H.get r k:=by
 funext q;rw[ab.get_put];rfl
def NL{H:ab}(z:fk M ι H.get w)(hD:p8 ι H){t:TypeId}{a x y:AV}{ua d:Value}(ha:VR M ι a ua)(hx:VR M ι x d){H':ab}(h:iu P H t (some a) (some x)=some (y,H')) :
 ∃w',(Instr.storeAt t ua d).run P w = .ok () w'/\mZ M ι H w y H' undef w':=by
 unfold iu at h;split at h
 ·rename_i r' i j x' n B U hn;injection B with B;injection U with U
  subst B;subst U;cases ha with | ptr X f=>
  rename_i l;split at h
  ·rename_i b A;obtain⟨⟨hxn,J,p⟩,h⟩:=dH.1 h;obtain⟨l',s,o⟩:=z.live r' b A;rw[X]at s;cases s;have m:=hx.cells;have k:d.cells.size=n:=by have:=m.1;simp at this;omega
   split at h
   ·rename_i c;split at h
    ·rename_i y' N;split at h;·cases h
     rename_i G;obtain⟨K,h⟩:=dH.1 h;simp only[bA]at h;obtain⟨es',e,h⟩:=h;injection h with V Y
     subst V;subst Y;obtain⟨S,L⟩:=xI (R:=ad H.get depth x) z;have hv:=zO z depth x y' d N (λr hr=>hr) hx;have u:qP H.get (ad H.get depth x) r'=some b:=by unfold qP;rw[if_neg G];exact A
     have D:=hv.cells;obtain⟨arr,T,fz,Q,E,W,O,C,F⟩:=Du S u X f p e K (us:=d.cells.toList) (by rw[aP.map,if_pos c];exact D);refine⟨bP w l.b (.cells (cd arr (i * b.esz+j) d.cells.toList) T fz),?_,jq M ι H.get w (ad H.get depth x),ι,.v rfl,?_,?_,?_⟩;·rw[o.esz];exact xm hn k Q E W O
     ·rw[qw,ab.cP];exact C
     ·rw[qw,ab.cP];exact L.trans F
     intro q Z I;rw[ab.fB _ _ _ (by rw[ab.cP,u];rfl),ab.fM];exact hD q Z I
    cases h
   rename_i c;simp only[bA]at h;obtain⟨es',e,h⟩:=h;injection h with V Y
   subst V;subst Y;obtain⟨arr,T,fz,Q,E,W,O,C,F⟩:=Du z A X f p e J (us:=d.cells.toList) (by rw[aP.map,if_neg c];exact m);refine⟨bP w l.b (.cells (cd arr (i * b.esz+j) d.cells.toList) T fz),?_,M,ι,.v rfl,?_,?_,?_⟩;·rw[o.esz];exact xm hn k Q E W O
   ·rw[qw];exact C
   ·rw[qw];exact F
   intro q Z I;rw[ab.fB _ _ _ (by rw[A];rfl)];exact hD q Z I
  cases h
 cases h
end
end
section
section
variable{P:Program}{M:Mem}{ι:Map}{g:cb}{w:World}{r:Ref}
def pB(g:cb)(r:Ref):cb:=λq=>if q=r then none else g q
def M7(b:fk M ι g w)(r:Ref):fk M ι (pB g r) w/\qX M ι g w M ι (pB g r) w:=by
 have a : ∀ {q k},pB g r q=some k->g q=some k:=by
  intro q k h;unfold pB at h;split at h;·cases h
  exact h
 exact⟨⟨b.mem,λq k h=>b.live q k (a h),λq f k k' l e h c=>b.inj q f k k' l e (a h) (a c)⟩,
  ⟨rfl,rfl,rfl,aV _,λ_ _ _=>rfl,λ_ _ _ h=>h,λ_ _ h=>h,λq k l h d => .inr ⟨q,k,l,a h,d,rfl⟩,λ_ _ _ h => .inl h⟩⟩
def FQ(t:fk M ι g w){r q:Ref}{k k':aP}{l:Loc}(E:g r=some k)(C:ι r=some l)(Z:ι q=none){arr':Array Value}{w':World}
 (hw : ∃arr T fz,w.heap[l.b]?=some (.cells arr T fz)/\arr.size=arr'.size/\w'=bP w l.b (.cells arr' T fz)) (a:k'.esz=k.esz) (I:k'.arr=true) (z:k.arr=true) (N:k'.fI=k.fI)
 (D : ∀(o:Nat) u,o<k.es.length * k.esz ->∀arr T fz,w.heap[l.b]?=some (.cells arr T fz)->arr[o]?=some u->arr'[o]?=some u)
 (W:k'.es.length<=l.n) (hle:k.es.length<=k'.es.length) (s : ∀e∈k'.es,e.cells.length=k.esz)
 (hc : ∀(i j:Nat) e x,k'.es[i]?=some e->e.cells[j]?=some x ->∃u,arr'[i * k.esz+j]?=some u/\u.oneCell'=true/\VR M cT x u) :
 fk M (jb ι q l) (j3 (pB g r) q k') w'/\qX M ι g w M (jb ι q l) (j3 (pB g r) q k') w':=by
 obtain⟨arr,T,fz,hh,G,c⟩:=hw;obtain⟨l',L,v⟩:=t.live r k E;rw[C]at L;cases L;have V:=v.pos z;replace v:=v.cellsOk V;obtain⟨arr0,T0,fz0,H,h1,h2,h3⟩:=v.heap;rw[hh]at H;cases H;have S:=v.lt;have m:=CN (l:=l) Z;have hqr:q≠r:=by intro e;rw[e,C]at Z;cases Z
 refine⟨⟨?_,?_,?_⟩,?_⟩
 ·intro b o x B;by_cases R:l.b=b;·subst R;have Y:=(v.frozen o x B).2;have K:=t.mem _ _ _ B;rw[gY hh]at K;rw[gY (by rw[c];exact fp S)];exact D o x Y arr T fz hh K
  rw[iQi (w:=w) (by rw[c];exact dW R)];exact t.mem b o x B
 ·intro r' k1 p;unfold j3 at p;split at p
  ·rename_i e;subst e;injection p with p
   subst p;refine⟨l,by simp[jb],eo.bu ⟨by rw[v.esz,a],⟨arr',T,fz,by rw[c];exact fp S,by rw[<-G,a];exact h1,by rw[<-G,a];exact h2,?_⟩,W,by rw[a];exact s,?_⟩ (by rw[a];exact V)⟩;·intro i j e x he B;rw[a];obtain⟨u,hu,Y,hv⟩:=hc i j e x he B;refine⟨u,hu,Y,?_⟩;rw[aP.map,if_pos I];exact hv
   intro o x B;rw[N,a];have:=v.frozen o x B;exact⟨this.1,zK this.2 (kr _ hle)⟩
  rename_i hne;unfold pB at p;split at p;·cases p
  rename_i Q;obtain⟨f,U,X⟩:=t.live r' k1 p;have hnb:l.b≠f.b:=λe=>Q (t.inj r' r k1 k f l p E U C e.symm);exact⟨f,m r' f U,X.bF (λ_ _ _ h=>h) m (by rw[c];exact dW hnb) X.frozen⟩
 ·have y : ∀ {r1 k1 f},j3 (pB g r) q k' r1=some k1->jb ι q l r1=some f->(r1=q/\f=l)\/(r1≠q/\r1≠r/\g r1=some k1/\ι r1=some f):=by
   intro r1 k1 f h d;unfold j3 at h;unfold jb at d;split at h;·rename_i e;rw[if_pos e]at d;injection d with d;exact .inl ⟨e,d.symm⟩
   rename_i e;rw[if_neg e]at d;unfold pB at h;split at h;·cases h
   rename_i e';exact .inr ⟨e,e',h,d⟩
  intro r1 r2 k1 k2 f l2 h1 h2 h3 h4 h5;rcases y h1 h3 with ⟨e1,e2⟩ | ⟨e1,e2,e3,e4⟩<;>rcases y h2 h4 with ⟨O,A⟩ | ⟨O,A,F,J⟩
  ·rw[e1,O]
  ·exact absurd (t.inj r r2 k k2 l l2 E F C J (by rw[<-e2];exact h5)).symm A
  ·exact absurd (t.inj r r1 k k1 l f E e3 C e4 (by rw[<-A];exact h5.symm)).symm e2
  exact t.inj r1 r2 k1 k2 f l2 e3 F e4 J h5
 refine⟨by rw[c];rfl,by rw[c];rfl,by rw[c];rfl,by rw[c];simp[bP],?_,λ_ _ _ h=>h,m,?_,λ_ _ _ h => .inl h⟩;·intro b _ hno;rw[c];exact dW (hno r k l E C)
 intro r1 k1 f h d;unfold j3 at h;unfold jb at d;split at h;·rename_i e;rw[if_pos e]at d;injection d with d;subst d;exact .inr ⟨r,k,l,E,C,rfl⟩
 rename_i e;rw[if_neg e]at d;unfold pB at h;split at h;·cases h
 exact .inr ⟨r1,k1,f,h,d,rfl⟩
def get_append(H:ab)(q r:Ref)(k:aP)(b:q≠r):ab.get ((q,some k) :: H.put r none)=j3 (pB H.get r) q k:=by
 funext x;simp only[ab.get,ab.get_put];unfold j3 pB;by_cases a:q=x;·subst a;simp
 rw[if_neg a,if_neg (pF a)]
def LJ(H:ab)(r:Ref)(k:aP)(a:(H.get r).isSome=true)(d t:Nat) :
 ab.gen ((⟨r.d,r.t,H.gen r.d r.t,0⟩,some k) :: H.put r none) d t=if r.d=d/\r.t=t then H.gen r.d r.t+1 else H.gen d t:=by
 simp only[ab.gen];split;·rfl
 rw[ab.fB H r none a]
def DF{H:ab}(hS:fk M ι H.get w)(hD:p8 ι H){ts:Array TypeId}{ty:TypeId}{s x y:AV}{us ux:Value}(hs:VR M ι s us)(hx:VR M ι x ux){H':ab}
 (h:iH P H ts[0]? ts[1]? s x=some (y,H')) : ∃u w',(Builtin.append_ ts ty #[us,ux]).run P w = .ok u w'/\mZ M ι H w y H' u w':=by
 unfold iH at h;split at h;·cases h
 rename_i e he;simp only[fH]at he;obtain⟨t,ht,he⟩:=he;have hu:=fm he;split at h;·cases h
 rename_i hc;split at h
 ·rename_i z by' zz ez new hz hb hzz E;split at h;·cases h
  rename_i m;have hez:ez=z:=q9.1 λh=>m (.inl h);have N:0<z:=wb λh=>m (.inr (.inl h));have hb0:0<by':=wb λh=>m (.inr (.inr (.inl h)));have hn0:new≠[]:=λh=>m (.inr (.inr (.inr (.inl h))));have hzl:zz.cells.length=z:=q9.1 λh=>m (.inr (.inr (.inr (.inr h))));subst hez;obtain⟨L,f,hA⟩:=Es (w:=w) hS hz N hx hc E;split at h
  ·rename_i r' off len;split at h
   ·rename_i b O;obtain⟨⟨hoff,F,hbz,hlen,I⟩,h⟩:=dH.1 h;injection h with h;injection h with h1 h2;subst h1;subst h2
    subst hoff;subst hlen;subst hbz;have hs0:=hs;cases hs with | bO hrl hbb hsp ha hcc hn hk W=>
    rename_i l a c;have hq:=hD.fresh r'.d r'.t 0;have R:(⟨r'.d,r'.t,H.gen r'.d r'.t,0⟩:Ref)≠r':=by intro e;rw[e,hrl]at hq;cases hq
    have X:=hS.at hrl W O;obtain⟨arr,T,fz,hh,hsz,hfz,Q⟩:=X.heap;have hpos:0<new.length:=BY.2 hn0;have hel:cr H.get (.bO r' 0 b.es.length none)=some (b.esz,(b.es.drop 0).take b.es.length):=(by simp[cr,O,F]);obtain⟨us0,B⟩:=mW (P:=P) hS hs0 N hel;have hee:(b.es.drop 0).take b.es.length=b.es:=by simp
    rw[hee]at B;have U : ∀Y:Map,(∀q,ι q=none->q≠⟨r'.d,r'.t,H.gen r'.d r'.t,0⟩->Y q=none)->p8 Y ((⟨r'.d,r'.t,H.gen r'.d r'.t,0⟩,some ⟨b.esz,b.es++new,true,b.fI⟩) :: H.put r' none):=by
     intro Y hι q lq hql;rw[LJ H r' _ (by rw[O];rfl)];cases hi:ι q with
     | some l0=>
      have:=hD q l0 hi;split;·rename_i S;rw[<-S.1,<-S.2]at this;exact yV this
      exact this
     | none=>
      by_cases hqq:q=⟨r'.d,r'.t,H.gen r'.d r'.t,0⟩;·subst hqq;rw[if_pos ⟨rfl,rfl⟩];exact oU _
      rw[hι q hi hqq]at hql;cases hql
    by_cases V:b.es.length+new.length<=c
    ·have D:a.off=0:=by
      rcases ha with h | h
      ·omega
      simpa using h
     have hcn:0+c<=l.n:=by
      rcases hn with h | h
      ·omega
      exact h
     have hae:a=⟨l.b,0,none⟩:=(by rw[iE hsp,hbb,D]);have G:0+b.es.length * b.esz+L.length<=arr.size:=(by rw[f.len,hsz,qZ,<-ke];exact kr _ (by omega));have C:=yG (P:=P) (w:=w) (ty:=ty) ht hu hz hb (b:=l.b) (o:=0) hA V I hh G hfz.1 f.one;rw[qZ]at C G;obtain⟨h3,h4⟩:=FQ (M:=M) (q:=⟨r'.d,r'.t,H.gen r'.d r'.t,0⟩) (k':=⟨b.esz,b.es++new,true,b.fI⟩) hS O hrl hq (arr':=cd arr (b.es.length * b.esz) L)
      ⟨arr,T,fz,hh,(gV G).symm,rfl⟩ rfl rfl F rfl
      (by
       intro o u ho arr1 T1 fz1 hh1 p;rw[hh]at hh1;cases hh1;rw[gx G,if_neg (by omega)];exact p)
      (by simp;omega) (by simp) (by
       intro K he1;rcases jG.1 he1 with h | h
       ·exact X.cells K h
       exact f.Fa K h)
      (by
       intro i j K x1 hi v;rw[gx G];rcases dT i b.es.length with hlt | hge
       ·rw[iB hlt]at hi;have hj:j<b.esz:=(by rw[<-X.cells K (dk hi)];exact(dB.1 v).1);have:=BH hlt hj;rw[if_neg (by omega)];obtain⟨u,p,ho,hv⟩:=Q i j K x1 hi v;rw[aP.map,if_pos F]at hv;exact⟨u,p,ho,hv⟩
       rw[hY hge]at hi;obtain⟨u,p,hv⟩:=f.vr _ j K x1 hi v;have hlt:=(dB.1 p).1;have hge':b.es.length * b.esz<=i * b.esz:=kr _ hge;have hii:(i - b.es.length) * b.esz=i * b.esz - b.es.length * b.esz:=De _ _ _;rw[if_pos (by omega),show i * b.esz+j - b.es.length * b.esz=(i - b.es.length) * b.esz+j by omega];exact⟨u,p,f.one u (dk p),hv⟩)
     refine⟨.slice (some a) (b.es.length+new.length) c,_,by rw[hae];exact C,M,_,?_,by rw[get_append H _ r' _ R];exact h3,by rw[get_append H _ r' _ R];exact h4,?_⟩;·exact .bO (l:=l) (by simp[jb]) hbb hsp (.inr (by rw[D];simp)) V (.inr hcn) (by intro k hk;cases hk) W
     exact U _ (by intro q Z hne;simp[jb,hne,Z])
    obtain⟨zv,hzv,hzs⟩:=yU hz hzz hzl;obtain⟨cap,w',J,C,hgrew⟩:=rX (P:=P) (w:=w) (ty:=ty) ht hu hz hb hzv hzs (ye (a:=some a) (len:=b.es.length) (c:=c) rfl rfl B) hA (by omega) I hb0;obtain⟨h1,h2⟩:=xC (olds:=us0) (us:=L) (n1:=b.es.length) (n2:=new.length) (cap:=cap) B.len f.len hzs J;obtain⟨h3,h4⟩:=M7 hS r';have A:=B.row.append f;have E : ∀(i j:Nat) e x,(b.es++new)[i]?=some e->e.cells[j]?=some x ->∃u,(us0.toArray++L.toArray++Builtin.zeroCells zv.cells (cap - (b.es.length+new.length)))[i * b.esz+j]?=some u/\u.oneCell'=true/\VR M cT x u:=(by intro i j K x1 hi v;obtain⟨u,p,hv⟩:=A.vr i j K x1 hi v;exact⟨u,h2 _ _ p,A.one u (dk p),hv⟩);obtain⟨h5,h6⟩:=h3.alloc (q:=⟨r'.d,r'.t,H.gen r'.d r'.t,0⟩) hq hgrew ⟨b.esz,b.es++new,true,b.fI⟩ N cap h1 (zD.zero _ _) (by simpa using J) A.Fa
     (by intro i j K x1 hi v;rw[aP.map,if_pos rfl];exact E i j K x1 hi v)
    refine⟨_,w',C,M,_,?_,by rw[get_append H _ r' _ R];exact h5,by rw[get_append H _ r' _ R];exact h4.trans h6,?_⟩;·exact .bO (l:=⟨w.heap.size,b.esz,cap⟩) (by simp[jb]) rfl rfl (.inr (by simp)) J (.inr (by simp)) (by intro k hk;cases hk) N
    exact U _ (by intro q Z hne;simp[jb,hne,Z])
   cases h
  cases h
 cases h
def Ik{H:ab}(hS:fk M ι g w){ts:Array TypeId}{ty:TypeId}{s x y:AV}{us ux:Value}(hs:VR M ι s us)(hx:VR M ι x ux){H':ab}
 (hag : ∀r',iC s=some r'->H.get r'≠none->g r'=H.get r') (hnw : ∀e p,lN P H.get e x=some p->lN P g e x=some p) (Y : ∀r',iC s=some r'->H.get r'≠none->ι ⟨r'.d,r'.t,H.gen r'.d r'.t,0⟩=none)
 (h:iH P H ts[0]? ts[1]? s x=some (y,H')) : ∃r' b k',iC s=some r'/\H.get r'=some b/\(⟨r'.d,r'.t,H.gen r'.d r'.t,0⟩:Ref)≠r'/\H'=(⟨r'.d,r'.t,H.gen r'.d r'.t,0⟩,some k') :: H.put r' none /\
  ∃u w' Q,(Builtin.append_ ts ty #[us,ux]).run P w = .ok u w'/\VR M Q y u/\fk M Q (j3 (pB g r') ⟨r'.d,r'.t,H.gen r'.d r'.t,0⟩ k') w'/\qX M ι g w M Q (j3 (pB g r') ⟨r'.d,r'.t,H.gen r'.d r'.t,0⟩ k') w' /\
   ∀q,ι q=none->q≠⟨r'.d,r'.t,H.gen r'.d r'.t,0⟩->Q q=none:=by
 unfold iH at h;split at h;·cases h
 rename_i e he;simp only[fH]at he;obtain⟨t,ht,he⟩:=he;have hu:=fm he;split at h;·cases h
 rename_i hc;split at h
 ·rename_i z by' zz ez new hz hb hzz F;split at h;·cases h
  rename_i m;have hez:ez=z:=q9.1 λh=>m (.inl h);have O:0<z:=wb λh=>m (.inr (.inl h));have hb0:0<by':=wb λh=>m (.inr (.inr (.inl h)));have hn0:new≠[]:=λh=>m (.inr (.inr (.inr (.inl h))));have hzl:zz.cells.length=z:=q9.1 λh=>m (.inr (.inr (.inr (.inr h))));subst hez;obtain⟨N,f,hA⟩:=Es (w:=w) hS hz O hx hc (hnw _ _ F);split at h
  ·rename_i r' off len;split at h
   ·rename_i b R;obtain⟨⟨hoff,G,hbz,hlen,J⟩,h⟩:=dH.1 h;injection h with h;injection h with h1 h2;subst h1;subst h2
    subst hoff;subst hlen;subst hbz;have hs0:=hs;cases hs with | bO hrl hbb hsp ha hcc hn hk V=>
    rename_i l a c;have hq:=Y r' rfl (by rw[R];simp);have W:g r'=some b:=by rw[hag r' rfl (by rw[R];simp),R]
    have hqr:(⟨r'.d,r'.t,H.gen r'.d r'.t,0⟩:Ref)≠r':=by intro e;rw[e,hrl]at hq;cases hq
    have X:=hS.at hrl V W;obtain⟨arr,T,fz,hh,hsz,hfz,S⟩:=X.heap;have hpos:0<new.length:=BY.2 hn0;have hel:cr g (.bO r' 0 b.es.length none)=some (b.esz,(b.es.drop 0).take b.es.length):=(by simp[cr,W,G]);obtain⟨us0,C⟩:=mW (P:=P) hS hs0 O hel;have hee:(b.es.drop 0).take b.es.length=b.es:=by simp
    rw[hee]at C;refine⟨r',b,⟨b.esz,b.es++new,true,b.fI⟩,rfl,R,hqr,rfl,?_⟩;by_cases U:b.es.length+new.length<=c
    ·have E:a.off=0:=by
      rcases ha with h | h
      ·omega
      simpa using h
     have hcn:0+c<=l.n:=by
      rcases hn with h | h
      ·omega
      exact h
     have hae:a=⟨l.b,0,none⟩:=(by rw[iE hsp,hbb,E]);have I:0+b.es.length * b.esz+N.length<=arr.size:=(by rw[f.len,hsz,qZ,<-ke];exact kr _ (by omega));have D:=yG (P:=P) (w:=w) (ty:=ty) ht hu hz hb (b:=l.b) (o:=0) hA U J hh I hfz.1 f.one;rw[qZ]at D I;obtain⟨h3,h4⟩:=FQ (M:=M) (q:=⟨r'.d,r'.t,H.gen r'.d r'.t,0⟩) (k':=⟨b.esz,b.es++new,true,b.fI⟩) hS W hrl hq (arr':=cd arr (b.es.length * b.esz) N)
      ⟨arr,T,fz,hh,(gV I).symm,rfl⟩ rfl rfl G rfl
      (by
       intro o u ho arr1 T1 fz1 hh1 v;rw[hh]at hh1;cases hh1;rw[gx I,if_neg (by omega)];exact v)
      (by simp;omega) (by simp) (by
       intro L he1;rcases jG.1 he1 with h | h
       ·exact X.cells L h
       exact f.Fa L h)
      (by
       intro i j L x1 hi A;rw[gx I];rcases dT i b.es.length with hlt | hge
       ·rw[iB hlt]at hi;have hj:j<b.esz:=(by rw[<-X.cells L (dk hi)];exact(dB.1 A).1);have:=BH hlt hj;rw[if_neg (by omega)];obtain⟨u,v,ho,hv⟩:=S i j L x1 hi A;rw[aP.map,if_pos G]at hv;exact⟨u,v,ho,hv⟩
       rw[hY hge]at hi;obtain⟨u,v,hv⟩:=f.vr _ j L x1 hi A;have hlt:=(dB.1 v).1;have hge':b.es.length * b.esz<=i * b.esz:=kr _ hge;have hii:(i - b.es.length) * b.esz=i * b.esz - b.es.length * b.esz:=De _ _ _;rw[if_pos (by omega),show i * b.esz+j - b.es.length * b.esz=(i - b.es.length) * b.esz+j by omega];exact⟨u,v,f.one u (dk v),hv⟩)
     refine⟨.slice (some a) (b.es.length+new.length) c,_,_,by rw[hae];exact D,?_,h3,h4,?_⟩;·exact .bO (l:=l) (by simp[jb]) hbb hsp (.inr (by rw[E];simp)) U (.inr hcn) (by intro k hk;cases hk) V
     intro q Z hne;simp[jb,hne,Z]
    obtain⟨zv,hzv,hzs⟩:=yU hz hzz hzl;obtain⟨cap,w',K,D,hgrew⟩:=rX (P:=P) (w:=w) (ty:=ty) ht hu hz hb hzv hzs (ye (a:=some a) (len:=b.es.length) (c:=c) rfl rfl C) hA (by omega) J hb0;obtain⟨h1,h2⟩:=xC (olds:=us0) (us:=N) (n1:=b.es.length) (n2:=new.length) (cap:=cap) C.len f.len hzs K;obtain⟨h3,h4⟩:=M7 hS r';have B:=C.row.append f;have F : ∀(i j:Nat) e x,(b.es++new)[i]?=some e->e.cells[j]?=some x ->∃u,(us0.toArray++N.toArray++Builtin.zeroCells zv.cells (cap - (b.es.length+new.length)))[i * b.esz+j]?=some u/\u.oneCell'=true/\VR M cT x u:=(by intro i j L x1 hi A;obtain⟨u,v,hv⟩:=B.vr i j L x1 hi A;exact⟨u,h2 _ _ v,B.one u (dk v),hv⟩);obtain⟨h5,h6⟩:=h3.alloc (q:=⟨r'.d,r'.t,H.gen r'.d r'.t,0⟩) hq hgrew ⟨b.esz,b.es++new,true,b.fI⟩ O cap h1 (zD.zero _ _) (by simpa using K) B.Fa
     (by intro i j L x1 hi A;rw[aP.map,if_pos rfl];exact F i j L x1 hi A)
    refine⟨_,w',_,D,?_,h5,h4.trans h6,?_⟩;·exact .bO (l:=⟨w.heap.size,b.esz,cap⟩) (by simp[jb]) rfl rfl (.inr (by simp)) K (.inr (by simp)) (by intro k hk;cases hk) O
    intro q Z hne;simp[jb,hne,Z]
   cases h
  cases h
 cases h
def DD{H:ab}(I:fk M ι H.get w)(C:p8 ι H){d a:Nat}{t:TypeId}{n:Nat}{m:List (Nat × AV)}{qs:Array (Nat × Value)}{x:AV}{H':ab}
 (h:iT P H ⟨d,a,H.gen d a,0⟩ t n (some m)=some (x,H')) (Y:m.length=qs.toList.length)
 (hp : ∀(i:Nat) p q,m[i]?=some p->qs.toList[i]?=some q->p.1=q.1/\VR M ι p.2 q.2) :
 ∃u w',(Instr.buildSlice t n qs).run P w = .ok u w'/\mZ M ι H w x H' u w':=by
 simp only[iT,bA]at h;obtain⟨b,F,h⟩:=h;injection h with K U
 subst K;subst U;obtain⟨h1,h2,O,e,arr,V,X,J⟩:=Et I F Y hp;obtain⟨B,N⟩:=xI (R:=bW H.get (m.map (·.2))) I;have D:b=⟨b.esz,b.es,true,false⟩:=by cases b;simp_all
 have o:A8 w (w.alloc (.cells arr e)) (.cells arr e (0,0)):=⟨rfl,rfl,rfl,rfl⟩;have E:=C.fresh d a 0;have f:=rK (r:=⟨d,a,H.gen d a,0⟩) B rfl E o J (λk u hu=>by simpa using hu) (n:=n) (c:=n) X (zD.zero _ _) (by omega) (aV _) (cap:=some n) (by intro k z;cases z;rfl) (Cn F);rw[O,<-D]at f;have L:p8 ι (bQ H (bW H.get (m.map (·.2)))):=by
  intro q l E;rw[ab.fM];exact C q l E
 obtain⟨M',s,T,W,S,Z⟩:=f;have j:ab.get (((⟨d,a,H.gen d a,0⟩:Ref),some b) :: bQ H (bW H.get (m.map (·.2))))=pX (qP H.get (bW H.get (m.map (·.2)))) ⟨d,a,H.gen d a,0⟩ [b]:=by
  rw[pd _ _ rfl];funext q;simp only[ab.get,ab.cP];unfold j3;by_cases A:q=⟨d,a,H.gen d a,0⟩;·rw[if_pos A.symm,if_pos A]
  rw[if_neg (pF A),if_neg A]
 refine⟨_,_,V,M',s,T,?_,?_,?_⟩;·show fk M' s (ab.get (_ :: _)) _;rw[j];exact W
 ·show qX M ι H.get w M' s (ab.get (_ :: _)) _;rw[j];exact N.trans S
 intro q l v;simp only[ab.gen,ab.fM];cases hi:ι q with
 | some Q=>
  have:=C q Q hi;split;·rename_i G;rw[<-G.1,<-G.2]at this;exact yV this
  exact this
 | none=>
  by_cases z:q=⟨d,a,H.gen d a,0⟩;·subst z;rw[if_pos ⟨rfl,rfl⟩];exact oU _
  rw[Z q hi (λk y e=>z (by rw[e];simp at y;rw[y]))]at v;cases v
def Row.sub{z es us}(h:Row M z es us)(n:Nat):Row M z (es.take n) (us.take (n * z)):=by
 refine⟨?_,λe a=>h.Fa e (w9 a),λx b=>h.one x (w9 b),?_⟩
 ·rw[kp,kp,h.len];rcases Nat.le_total n es.length with hle | hle
  ·rw[Gy hle,Gy (kr _ hle)]
  rw[Nat.min_eq_right hle,Nat.min_eq_right (kr _ hle)]
 intro i j e x a b;rw[w8]at a;split at a
 ·rename_i hi;obtain⟨u,hu,c⟩:=h.vr i j e x a b;have d:j<z:=by
   rw[<-h.Fa e (dk a)];exact(dB.1 b).1
  refine⟨u,?_,c⟩;rw[w8,if_pos (BH hi d)];exact hu
 cases a
def PM{H:ab}(hS:fk M ι H.get w)(hD:p8 ι H){ts:Array TypeId}{ty:TypeId}{s x y:AV}{us ux:Value}(hs:VR M ι s us)(hx:VR M ι x ux){H':ab}
 (h:Ii P H ts[0]? s x=some (y,H')) : ∃u w',(Builtin.copy_ ts ty #[us,ux]).run P w = .ok u w'/\mZ M ι H w y H' u w':=by
 unfold Ii at h;split at h;·cases h
 rename_i e he;simp only[fH]at he;obtain⟨t,ht,he⟩:=he;have hu:=fm he;split at h;·cases h
 rename_i z hz;split at h;·cases h
 rename_i ez src B;split at h;·cases h
 rename_i E;have hez:ez=z:=q9.1 λh=>E (.inl h);have hz0:0<z:=wb λh=>E (.inr h);subst hez;have hS0 : ∃f,Src P M w ux ez src f:=by
  split at B
  ·rename_i hn;injection B with B
   injection B with h1 Z
   subst Z;have:ux = .slice none 0 0:=by
    cases hx<;>simp[jT]at hn;split at hn<;>simp_all
   subst this;exact⟨[],by simp,by simp,by simp,by intro i j e x h;simp at h,λw'=>rfl,λn w' hn' _=>by simp[Builtin.firstCells]⟩
  exact mW hS hx hz0 B
 obtain⟨f,C⟩:=hS0;split at h
 ·cases hs;injection h with h;injection h with h1 Z;subst h1;subst Z
  have hf:=C.first 0 w (uT _) rfl;have hl:=C.lenOf w;refine⟨.int .i64 0,w,?_,M,ι,.v rfl,hS,qX.refl,hD⟩;simp only[Nat.zero_mul,List.take_zero]at hf;have hm:src.length.min 0=0:=Nat.min_zero _;simp[Builtin.copy_,ht,bf hu,run_sizeOf hz,hl,hm,hf,goInt]
 ·rename_i r' d len cap;split at h
  ·rename_i b hb;obtain⟨⟨L,hbz,hfr,hle⟩,h⟩:=dH.1 h;injection h with h;injection h with h1 Z;subst h1;subst Z
   subst hbz;cases hs with | bO W hbb hsp ha hcc hn hk N=>
   rename_i l a c;have p:=hS.at W N hb;obtain⟨arr,T,fz,hh,U,X,I⟩:=p.heap;obtain⟨n,G⟩ : ∃n,n=Nat.min src.length len:=⟨_,rfl⟩;have V:n<=src.length:=by rw[G];exact Nat.min_le_left _ _
   have hn2:n<=len:=by rw[G];exact Nat.min_le_right _ _
   rw[<-G];have hf:=C.first n w V rfl;have hl:=C.lenOf w;have A:=C.row.sub n;have K:(src.take n).length=n:=by rw[kp,Gy V]
   have Q:(f.take (n * b.esz)).length=n * b.esz:=(by rw[A.len,K]);have hbl:=p.len;have m:d * b.esz+(f.take (n * b.esz)).length<=arr.size:=(by rw[Q,U,<-ke];exact kr _ (by omega));have hes : ∀i,(b.es.take d++src.take n++b.es.drop (d+n))[i]?=if d<=i/\i<d+n then (src.take n)[i - d]? else b.es[i]?:=(by intro i;have:=I4 (cs:=b.es) (new:=src.take n) (j:=d) (by rw[K];omega) i;rw[K]at this;rw[<-this];unfold patch;rw[K])
   obtain⟨h3,h4⟩:=hS.write (k' := { b with es:=b.es.take d++src.take n++b.es.drop (d+n)}) hb W N (arr:=cd arr (d * b.esz) (f.take (n * b.esz))) (T:=T) (fz:=fz) rfl rfl rfl
    (by rw[gV m];exact U) (by rw[gV m];exact X) (by simp;omega)
    (by
     intro F Y;simp only[jG]at Y;rcases Y with (h | h) | h
     ·exact p.cells F (w9 h)
     ·exact A.Fa F h
     exact p.cells F (BZ h))
    (by
     intro o v S;have:=(p.frozen o v S).1;rw[hfr]at this;cases this)
    (by
     intro i j F x1 hi R;rw[aP.map,if_pos L];simp only at hi;rw[hes i]at hi;rw[gx m,Q];by_cases hr:d<=i/\i<d+n;·rw[if_pos hr]at hi;obtain⟨u,D,S⟩:=A.vr (i - d) j F x1 hi R;have hlt:=(dB.1 D).1;rw[Q]at hlt;have h5:d * b.esz<=i * b.esz:=kr _ hr.1;have h6:(i - d) * b.esz=i * b.esz - d * b.esz:=De _ _ _;rw[if_pos (by omega),show i * b.esz+j - d * b.esz=(i - d) * b.esz+j by omega];exact⟨u,D,A.one u (dk D),S⟩
     rw[if_neg hr]at hi;have hj:j<b.esz:=(by rw[<-p.cells F (dk hi)];exact(dB.1 R).1);rw[if_neg];·obtain⟨u,D,ho,S⟩:=I i j F x1 hi R;rw[aP.map,if_pos L]at S;exact⟨u,D,ho,S⟩
     intro hcon;apply hr;have e1':d * b.esz+n * b.esz=(d+n) * b.esz:=(ke _ _ _).symm;constructor
     ·rcases dT i d with h | h
      ·have:(i+1) * b.esz<=d * b.esz:=kr _ h;rw[ke]at this;omega
      exact h
     rcases dT i (d+n)with h | h
     ·exact h
     have:(d+n) * b.esz<=i * b.esz:=kr _ h;omega)
   have J:(storeCells a (f.take (n * b.esz))).run P w = .ok () (bP w l.b (.cells (cd arr (d * b.esz) (f.take (n * b.esz))) T fz)):=by
    by_cases h0:n=0
    ·have e0:f.take (n * b.esz)=[]:=by rw[h0];simp
     rw[e0];have F:cd arr (d * b.esz) []=arr:=by simp[cd]
     rw[F];have e2:bP w l.b (.cells arr T fz)=w:=by
      unfold bP;have:w.heap.setIfInBounds l.b (.cells arr T fz)=w.heap:=by
       apply BX;intro k;by_cases hk:l.b=k;·subst hk;rw[hh,Db p.lt]
       rw[yx hk]
      rw[this]
     rw[e2];simp[storeCells]
    have O:a.off=d * b.esz:=by
     rcases ha with h | h
     ·omega
     rw[h,p.esz]
    have:=lj (P:=P) (d * b.esz) (f.take (n * b.esz)) 0 arr w hh (by simpa using m) X.1 A.one;rw[wW]at this;rw[iE hsp,hbb,O];exact this
   refine⟨.int .i64 n,_,?_,M,ι,.v rfl,by rw[qw];exact h3,by rw[qw];exact h4,?_⟩;·have hm:src.length.min len=n:=G.symm;simp[Builtin.copy_,ht,bf hu,run_sizeOf hz,hl,hm,hf,J,goInt]
   intro q lq hq;rw[ab.fB _ _ _ (by rw[hb];rfl)];exact hD q lq hq
  cases h
 cases h
def NM{H:ab}(hS:fk M ι H.get w)(hD:p8 ι H){ts:Array TypeId}{ty:TypeId}{s x y:AV}{us ux:Value}(hs:VR M ι s us)(hx:VR M ι x ux){H':ab}
 (h:Dz P H ts[0]? s x=some (y,H')) : ∃u w',(Builtin.copy_ ts ty #[us,ux]).run P w = .ok u w'/\mZ M ι H w y H' u w':=by
 unfold Dz at h;split at h
 ·rename_i z r' d len cap r2 A vH cap2 he;simp only[fH]at he;obtain⟨e,⟨t,ht,he⟩,hz⟩:=he;have hu:=fm he;split at h
  ·rename_i b b2 hb hb2;obtain⟨⟨K,Q,hbz,hbz2,hz0,hfr,hle0,L⟩,h⟩:=dH.1 h;injection h with h;injection h with h1 h2;subst h1;subst h2
   subst hbz;cases hs with | bO S hbb hsp ha hcc hn hk E=>
   rename_i l a c;cases hx with | bO hrl2 hbb2 X ha2 hcc2 hn2' hk2 hzl2=>
   rename_i l2 a2 V;obtain⟨n,G⟩ : ∃n,n=Nat.min vH len:=⟨_,rfl⟩;have hnl:n<=vH:=by rw[G];exact Nat.min_le_left _ _
   have hn2:n<=len:=by rw[G];exact Nat.min_le_right _ _
   rw[<-G]at L ⊢;have hv2:VR M ι (.bO r2 A n none) (.slice (some a2) n V) := .bO hrl2 hbb2 X ha2 (sU hnl hcc2) hn2' (λk hk=>by cases hk) hzl2;have Z:cr H.get (.bO r2 A n none)=some (b2.esz,(b2.es.drop A).take n):=(by simp only[cr,hb2];rw[if_pos ⟨Q,L⟩]);rw[hbz2]at Z;obtain⟨B,N⟩:=mW (P:=P) hS hv2 hz0 Z;have hsl:((b2.es.drop A).take n).length=n:=by rw[kp,rP];omega
   generalize (b2.es.drop A).take n=src at *;have hn1:n<=src.length:=by omega
   have htk:src.take n=src:=fG (by omega);suffices D : ∃u w',(Builtin.copy_ ts ty #[.slice (some a) len c,.slice (some a2) vH V]).run P w = .ok u w'/\mZ M ι H w (.v (.int .i64 n)) (H.put r' (some { b with es:=b.es.take d++src.take n++b.es.drop (d+n)})) u w' by
    rw[htk]at D;exact D
   have hcl:d+n<=l.n:=by
    rcases hn with h | h
    ·have:=(hS.at S E hb).len;omega
    omega
   have m:=hS.at S E hb;obtain⟨arr,T,fz,hh,Y,hfz,I⟩:=m.heap;have hf:(Builtin.firstCells b.esz n (.slice (some a2) vH V)).run P w=_:=N.first n w hn1 rfl;have hl:(Builtin.lenOf (.slice (some a2) vH V)).run P w = .ok vH w:=by simp[Builtin.lenOf]
   have p:=N.row.sub n;have htl:(src.take n).length=n:=by rw[kp,Gy hn1]
   have R:(B.take (n * b.esz)).length=n * b.esz:=(by rw[p.len,htl]);have hbl:=m.len;have f:d * b.esz+(B.take (n * b.esz)).length<=arr.size:=(by rw[R,Y,<-ke];exact kr _ (by omega));have hes : ∀i,(b.es.take d++src.take n++b.es.drop (d+n))[i]?=if d<=i/\i<d+n then (src.take n)[i - d]? else b.es[i]?:=by
    intro i;have l1:(b.es.take d).length=d:=by rw[kp];omega
    by_cases c1:i<d;·rw[if_neg (by omega),il,iB (by omega),List.getElem?_take_of_lt c1]
    by_cases V:i<d+n;·rw[if_pos ⟨by omega,V⟩,il,hY (by omega),l1,iB (by omega)]
    rw[if_neg (by omega),hY (by rw[eS];omega),eS,l1,htl,wZ];congr 1;omega
   obtain⟨h3,h4⟩:=hS.write (k' := { b with es:=b.es.take d++src.take n++b.es.drop (d+n)}) hb S E (arr:=cd arr (d * b.esz) (B.take (n * b.esz))) (T:=T) (fz:=fz) rfl rfl rfl
    (by rw[gV f];exact Y) (by rw[gV f];exact hfz) (by simp only[eS,kp,rP];omega)
    (by
     intro F he1;simp only[jG]at he1;rcases he1 with (h | h) | h
     ·exact m.cells F (w9 h)
     ·exact p.Fa F h
     exact m.cells F (BZ h))
    (by
     intro o v W;have:=(m.frozen o v W).1;rw[hfr]at this;cases this)
    (by
     intro i j F x1 hi U;rw[aP.map,if_pos K];simp only at hi;rw[hes i]at hi;rw[gx f,R];by_cases hr:d<=i/\i<d+n;·rw[if_pos hr]at hi;obtain⟨u,C,W⟩:=p.vr (i - d) j F x1 hi U;have hlt:=(dB.1 C).1;rw[R]at hlt;have h5:d * b.esz<=i * b.esz:=kr _ hr.1;have h6:(i - d) * b.esz=i * b.esz - d * b.esz:=De _ _ _;rw[if_pos (by omega),show i * b.esz+j - d * b.esz=(i - d) * b.esz+j by omega];exact⟨u,C,p.one u (dk C),W⟩
     rw[if_neg hr]at hi;have hj:j<b.esz:=(by rw[<-m.cells F (dk hi)];exact(dB.1 U).1);rw[if_neg];·obtain⟨u,C,ho,W⟩:=I i j F x1 hi U;rw[aP.map,if_pos K]at W;exact⟨u,C,ho,W⟩
     intro hcon;apply hr;have e1':d * b.esz+n * b.esz=(d+n) * b.esz:=(ke _ _ _).symm;constructor
     ·rcases dT i d with h | h
      ·have:(i+1) * b.esz<=d * b.esz:=kr _ h;rw[ke]at this;omega
      exact h
     rcases dT i (d+n)with h | h
     ·exact h
     have:(d+n) * b.esz<=i * b.esz:=kr _ h;omega)
   have J:(storeCells a (B.take (n * b.esz))).run P w = .ok () (bP w l.b (.cells (cd arr (d * b.esz) (B.take (n * b.esz))) T fz)):=by
    by_cases h0:n=0
    ·have e0:B.take (n * b.esz)=[]:=by rw[h0];simp
     rw[e0];have F:cd arr (d * b.esz) []=arr:=by simp[cd]
     rw[F];have e2:bP w l.b (.cells arr T fz)=w:=by
      unfold bP;have:w.heap.setIfInBounds l.b (.cells arr T fz)=w.heap:=by
       apply BX;intro k;by_cases hk:l.b=k;·subst hk;rw[hh,Db m.lt]
       rw[yx hk]
      rw[this]
     rw[e2];simp[storeCells]
    have O:a.off=d * b.esz:=by
     rcases ha with h | h
     ·omega
     rw[h,m.esz]
    have:=lj (P:=P) (d * b.esz) (B.take (n * b.esz)) 0 arr w hh (by simpa using f) hfz.1 p.one;rw[wW]at this;rw[iE hsp,hbb,O];exact this
   refine⟨.int .i64 n,_,?_,M,ι,.v rfl,by rw[qw];exact h3,by rw[qw];exact h4,?_⟩;·have hm:Nat.min vH len=n:=G.symm;simp[Builtin.copy_,ht,bf hu,run_sizeOf hz,hl,hm,hf,J,goInt]
   intro q lq hq;rw[ab.fB _ _ _ (by rw[hb];rfl)];exact hD q lq hq
  cases h
 cases h
end
def vA(arr:Array Value)(z n:Nat):List AV:=(List.range n).map λi => .agg ((List.range z).map λj => .xv (arr.getD (i * z+j) Go.undef))
def OG{arr:Array Value}{z n i j:Nat}{e x:AV}(a:(vA arr z n)[i]?=some e)(b:e.cells[j]?=some x):i<n/\j<z/\x = .xv (arr.getD (i * z+j) Go.undef):=by
 unfold vA at a;rw[lJ]at a;rcases dT i n with hi | hi
 ·rw[C7 hi]at a;cases a;simp only[AV.cells,lJ]at b;rcases dT j z with c | c
  ·rw[C7 c]at b;cases b;exact⟨hi,c,rfl⟩
  rw[tP (by simpa using c)]at b;cases b
 rw[tP (by simpa using hi)]at a;cases a
def eo.xv{M:Mem}{ι:Map}{w:World}{l:Loc}{k:aP}(h:eo M ι w l k) : ∃es:List AV,es.length=k.es.length/\(∀e∈es,e.cells.length=k.esz)/\eo M ι w l ⟨k.esz,es,true,k.fI⟩ /\
 ∀(i j:Nat) e x,es[i]?=some e->e.cells[j]?=some x ->∃u b c,x = .xv u/\k.es[i]?=some b/\b.cells[j]?=some c/\VR M (k.map ι) c u:=by
 obtain⟨arr,T,fz,v,z,q,t⟩:=h.heap;have key : ∀(i j:Nat) e x,(vA arr k.esz k.es.length)[i]?=some e->e.cells[j]?=some x ->∃u b c,x = .xv u/\arr[i * k.esz+j]?=some u/\u.oneCell'=true/\k.es[i]?=some b/\b.cells[j]?=some c/\VR M (k.map ι) c u:=by
  intro i j e x a d;obtain⟨hi,p,rfl⟩:=OG a d;have b:k.es[i]?=some k.es[i]:=dh hi;have y:j<k.es[i].cells.length:=by rw[h.cells _ (kq hi)];exact p
  have n:k.es[i].cells[j]?=some k.es[i].cells[j]:=dh y;obtain⟨u,m,f,s⟩:=t i j _ _ b n;exact⟨u,_,_,by rw[zN,m];rfl,m,f,b,n,s⟩
 refine⟨vA arr k.esz k.es.length,by simp[vA],λe a=>?_,⟨h.esz,⟨arr,T,fz,v,z,q,λi j e x a d=>?_⟩,by simpa [vA] using h.len,λe a=>?_,λo x d=>by simpa [vA] using h.frozen o x d⟩,λi j e x a d=>?_⟩;·simp only[vA,lX]at a;obtain⟨i,_,rfl⟩:=a;simp[AV.cells]
 ·obtain⟨u,b,c,rfl,m,f,_⟩:=key i j e x a d;exact⟨u,m,f,.xv f⟩
 ·simp only[vA,lX]at a;obtain⟨i,_,rfl⟩:=a;simp[AV.cells]
 obtain⟨u,b,c,b1,_,_,b2,b3,b4⟩:=key i j e x a d;exact⟨u,b,c,b1,b2,b3,b4⟩
def fk.xv{M:Mem}{ι:Map}{H:ab}{w:World}(d:fk M ι H.get w){r:Ref}{k:aP}(t:H.get r=some k)(D:k.arr=false)(p:0<k.esz) :
 ∃es:List AV,es.length=k.es.length/\(∀e∈es,e.cells.length=k.esz)/\fk M ι (H.put r (some ⟨k.esz,es,true,k.fI⟩)).get w /\
  ∀(i j:Nat) e x,es[i]?=some e->e.cells[j]?=some x ->∃u y v,x = .xv u/\k.es[i]?=some y/\y.cells[j]?=some v/\VR M ι v u:=by
 obtain⟨l,n,A⟩:=d.live r k t;obtain⟨es,B,E,G,z⟩:=(A.cellsOk p).xv;have J:k.map ι=ι:=by unfold aP.map;rw[D];rfl
 rw[J]at z;refine⟨es,B,E,⟨d.mem,λq b a=>?_,λq s b h l I a f n m=>?_⟩,z⟩
 ·rw[ab.get_put]at a;split at a;·rename_i e;cases a;rw[e];exact⟨l,n,G.bu p⟩
  exact d.live q b a
 have : ∀q b,(H.put r (some ⟨k.esz,es,true,k.fI⟩)).get q=some b ->∃h,H.get q=some h:=by
  intro q b a;rw[ab.get_put]at a;split at a;·rename_i e;rw[e];exact⟨k,t⟩
  exact⟨b,a⟩
 obtain⟨c,F⟩:=this q b a;obtain⟨C,o⟩:=this s h f;exact d.inj q s c C l I F o n m
def mZ.Sa{M:Mem}{ι:Map}{H H0 J H':ab}{w w':World}{x:Ref}{y y':AV}(Q : ∀M' c u,VR M' c y u->VR M' c y' u){k1:aP}{u:Value}{es':List AV}
 (m : ∀q k,H0.get q=some k ->∃k',H.get q=some k') (h1:J.get x=some k1) (hz:0<k1.esz) (F:k1.arr=true)
 (E:H'.get x=some ⟨k1.esz,es',false,k1.fI⟩) (A : ∀q k,q≠x->H'.get q=some k->J.get q=some k) (G : ∀d t,J.gen d t<=H'.gen d t)
 (B:es'.length=k1.es.length) (Y : ∀e∈es',e.cells.length=k1.esz)
 (D : ∀(M':Mem)(c:Map),(∀b o v,M b o=some v->M' b o=some v)->(∀q l,ι q=some l->c q=some l) ->∀(i j:Nat) e' x',es'[i]?=some e'->e'.cells[j]?=some x' ->
  ∃K N,k1.es[i]?=some K/\K.cells[j]?=some N /\∀u,VR M' cT N u->VR M' c x' u)
 (hW:mZ M ι H0 w y J u w'):mZ M ι H w y' H' u w':=by
 obtain⟨M',c,hv,L,f,hD⟩:=hW;have n : ∀q k,H'.get q=some k ->∃k',J.get q=some k':=by
  intro q k hq;by_cases e:q=x;·rw[e];exact⟨k1,h1⟩
  exact⟨k,A q k e hq⟩
 refine⟨M',c,?_,⟨L.mem,?_,?_⟩,⟨f.os,f.tape,f.output,f.size,?_,f.mem,f.map,?_,?_⟩,?_⟩;·exact Q _ _ _ hv
 ·intro q k U;by_cases e:q=x
  ·rw[e,E]at U;cases U;rw[e];obtain⟨l,s,p⟩:=L.live x k1 h1;refine⟨l,s,p.esz,λ_=>⟨p.esz,?_,?_,Y,?_⟩,λe=>by simp only at e;omega,?_⟩
   ·obtain⟨arr,T,fz,a1,a2,a3,a4⟩:=(p.cellsOk hz).heap;refine⟨arr,T,fz,a1,a2,a3,λi j e x he E=>?_⟩;obtain⟨K,N,b1,b2,b3⟩:=D M' c f.mem f.map i j e x he E;obtain⟨u,c1,c2,c3⟩:=a4 i j K N b1 b2;have hm:k1.map c=cT:=by unfold aP.map;rw[F];rfl
    rw[hm]at c3;exact⟨u,c1,c2,b3 u c3⟩
   ·have:=(p.cellsOk hz).len;simp only;omega
   ·intro o v O;have:=p.frozen o v O;simp only;rw[B];exact this
   intro o v O;have:=p.frozen o v O;simp only;rw[B];exact this
  exact L.live q k (A q k e U)
 ·intro q q' k k' l l' h C s V;obtain⟨a,F⟩:=n q k h;obtain⟨b,p⟩:=n q' k' C;exact L.inj q q' a b l l' F p s V
 ·intro b p Z;exact f.chg b p λr k l h0 s=>by
   obtain⟨k',C⟩:=m r k h0;exact Z r k' l C s
 ·intro r k l h s;obtain⟨a,F⟩:=n r k h;rcases f.live r a l F s with z | ⟨I,R,X,z,W,S⟩
  ·exact .inl z
  obtain⟨k',C⟩:=m I R z;exact .inr ⟨I,k',X,C,W,S⟩
 ·intro b o x E;rcases f.new b o x E with z | z | ⟨I,R,X,z,W,S⟩
  ·exact .inl z
  ·exact .inr (.inl z)
  obtain⟨k',C⟩:=m I R z;exact .inr (.inr ⟨I,k',X,C,W,S⟩)
 intro q l s;exact zK (hD q l s) (G _ _)
def mZ.Nm{M:Mem}{ι:Map}{H H0 s H':ab}{w w':World}{x:Ref}{m:Nat}{cap:Option Nat}{k1:aP}{u:Value}{es':List AV}
 (c : ∀q k,H0.get q=some k ->∃k',H.get q=some k') (N:s.get x=some k1) (y:0<k1.esz) (z:k1.arr=true)
 (J:H'.get x=some ⟨k1.esz,es',false,k1.fI⟩) (f : ∀q k,q≠x->H'.get q=some k->s.get q=some k) (h : ∀d t,s.gen d t<=H'.gen d t)
 (n:es'.length=k1.es.length) (A : ∀e∈es',e.cells.length=k1.esz)
 (a : ∀(M':Mem)(p:Map),(∀b o v,M b o=some v->M' b o=some v)->(∀q l,ι q=some l->p q=some l) ->∀(i j:Nat) e' x',es'[i]?=some e'->e'.cells[j]?=some x' ->
  ∃B C,k1.es[i]?=some B/\B.cells[j]?=some C /\∀u,VR M' cT C u->VR M' p x' u)
 (O:mZ M ι H0 w (.bO x 0 m cap) s u w'):mZ M ι H w (.dsl x 0 m cap) H' u w':=
 O.Sa (λ_ _ _ L=>by cases L with | bO D I K z F E G y=>exact .dsl D I K z F E G y) c N y z J f h n A a
def mZ.deep{M:Mem}{ι:Map}{H H0 y H':ab}{w w':World}{x:Ref}{m:Nat}{cap:Option Nat}{k1:aP}{u:Value}{es':List AV}
 (s : ∀q k,H0.get q=some k ->∃k',H.get q=some k') (E:y.get x=some k1) (C:0<k1.esz) (D:k1.arr=true)
 (a : ∀q,H'.get q=if q=x then some ⟨k1.esz,es',false,k1.fI⟩ else y.get q) (f : ∀d t,y.gen d t<=H'.gen d t)
 (n:es'.length=k1.es.length) (z : ∀e∈es',e.cells.length=k1.esz)
 (c : ∀(M':Mem)(p:Map),(∀b o v,M b o=some v->M' b o=some v)->(∀q l,ι q=some l->p q=some l) ->∀(i j:Nat) e' x',es'[i]?=some e'->e'.cells[j]?=some x' ->
  ∃A B,k1.es[i]?=some A/\A.cells[j]?=some B /\∀u,VR M' cT B u->VR M' p x' u)
 (F:mZ M ι H0 w (.bO x 0 m cap) y u w'):mZ M ι H w (.dsl x 0 m cap) H' u w':=
 F.Nm s E C D (by rw[a,if_pos rfl]) (λq k e h=>by rw[a,if_neg e]at h;exact h) f n z c
section
variable{P:Program}{M:Mem}{ι:Map}{w:World}
def tu(r:Ref)(b:Option aP)(H:ab)(q:Ref):ab.get ((r,b) :: H) q=if r=q then b else H.get q:=rfl
def RM(r:Ref)(b:Option aP)(H:ab)(d t:Nat):ab.gen ((r,b) :: H) d t=if r.d=d/\r.t=t then r.g+1 else H.gen d t:=rfl
def KB{H:ab}(hS:fk M ι H.get w)(hD:p8 ι H){d B:Nat}{t:TypeId}{n:Nat}{vs:List (Nat × AV)}{qs:Array (Nat × Value)}{x:AV}{H':ab}
 (h:oV P H ⟨d,B,H.gen d B,0⟩ t n (some vs)=some (x,H')) (hl:vs.length=qs.toList.length)
 (hp : ∀(i:Nat) p q,vs[i]?=some p->qs.toList[i]?=some q->p.1=q.1/\VR M ι p.2 q.2) :
 ∃u w',(Instr.buildSlice t n qs).run P w = .ok u w'/\mZ M ι H w x H' u w':=by
 unfold oV at h;split at h
 ·rename_i cs e Y Z;simp only[du]at Y;subst Y;split at h
  ·rename_i z s hz hs;obtain⟨O,hh⟩:=dH.1 h;clear h;obtain⟨hn1,h0,h1,h2,h3,h4,h5⟩:=O;subst hn1;injection hh with hh
   injection hh with g1 g2
   subst g1;subst g2;obtain⟨q,F⟩ : ∃q,qs.toList=[q]:=Kr.1 hl.symm;obtain⟨q1,C⟩:=hp 0 _ q rfl (by rw[F];rfl);obtain⟨k,K⟩:=q;simp only at q1 C;subst q1;have b:=C.cells;have L:K.cells.size=s:=by have:=b.1;simp[AV.cells]at this;omega
   obtain⟨E,a⟩ : ∃E:List AV,E=K.cells.toList.map AV.xv:=⟨_,rfl⟩;have m : ∀u∈K.cells.toList,u.oneCell'=true:=(by intro u f;obtain⟨i,hi⟩:=List.mem_iff_getElem?.1 f;have hi':=(dB.1 hi).1;obtain⟨y,hy⟩ : ∃y,(AV.agg cs).cells[i]?=some y:=⟨_,dh (by rw[b.1];exact hi')⟩;refine(b.2 i y u hy hi).one ?_;rw[eC]at h5;exact h5 y (dk hy));have J:VR M cT (.agg E) (.agg K.cells):=(by refine .agg (by rw[a];simp) λi c u O f=>?_;rw[a,lJ]at O;rw[<-Da]at f;rw[f]at O;cases O;exact .xv (m u (dk f)));obtain⟨it,zu,X,hiz,hzu⟩:=pL hz;obtain⟨ie,T,hsz⟩:=rT hs;rw[X]at T;cases T;have W:=gP (M:=M) (ι:=cT) hzu;have N:zu.cells.size=s:=by have:=W.cells.1;simp at this;omega
   have D:=Row.replicate W h2 h3 1;have v:Row M s (List.replicate 1 z) ((Array.range (1 * s)).map (zu.cells[· % zu.cells.size]!)).toList:=(by have:=sQ (zs:=zu.cells) (n:=1) (by omega);rw[N]at this;rw[N,this];exact D);have U : ∃us,K = .agg us:=by cases C with | agg hl h=>exact⟨_,rfl⟩
   obtain⟨us,rfl⟩:=U;have hcu:(Value.agg us).cells=us:=rfl;rw[hcu]at J L a m b;obtain⟨h7,l,h8,h9⟩:=AG (M:=M) [(0,AV.agg E)] [(0,Value.agg us)] (List.replicate 1 z) [.agg E] _ rfl v rfl (λi p q hp F=>by
    match i,hp,F with
    | 0,hp,F=>cases hp;cases F;exact⟨rfl,J⟩) (by
    intro p Q;simp only[l7]at Q;subst Q;refine⟨by simp[AV.cells,a,L],?_⟩;rw[a];simp[AV.cells,AV.one])
   have R:(Instr.buildSlice t 1 qs).run P w = .ok (.slice (some ⟨w.heap.size,0,none⟩) 1 1) (w.alloc (.cells l e)):=(by have hle : ¬16777216<1 * s:=(by omega);have hn0 : ¬1 * s=0:=(by omega);simp only[Instr.buildSlice,iQe,bf (fm Z),iQc,run_sizeOf hs,gt_iff_lt];rw[if_neg hle,if_neg hn0];simp only[iQe,zeroValue,typeInfo,X,hiz,run_program,iQc,iQg,F,h8];simp[newRow]);have A:A8 w (w.alloc (.cells l e)) (.cells l e (0,0)):=⟨rfl,rfl,rfl,rfl⟩;have I:l.size=1 * s:=(by rw[<-yw,h9.len];rfl);have hqo:=rK (r:=⟨d,B,H.gen d B,0⟩) hS rfl (hD.fresh d B 0) A h9 (λk u f=>by simpa using f) (n:=1) (c:=1) I (zD.zero _ _) (aV _) (aV _) (cap:=some 1) (by intro k G;cases G;rfl) h0;have hW:=hqo.Yb hD;refine⟨_,_,R,hW.Nm (k1:=⟨s,[.agg E],true,false⟩) (es':=[.agg cs]) (λq k G=>⟨k,G⟩) ?_ h0 rfl ?_ ?_ ?_ rfl ?_ ?_⟩;·simp[keyed,ab.get]
   ·simp[ab.get]
   ·intro q k hne G;have V : ¬(⟨d,B,H.gen d B,0⟩:Ref)=q:=λe=>hne e.symm;simp only[ab.get,if_neg V,keyed]at G ⊢;exact G
   ·intro d' t';exact aV _
   ·intro e Z;simp only[l7]at Z;subst Z;exact h4
   intro M' ι' hM hι i j e' x' o S;match i,o with
   | 0,o=>cases o;have hj:=(dB.1 S).1;obtain⟨u,f⟩ : ∃u,us.toList[j]?=some u:=⟨_,dh (by rw[<-b.1];exact hj)⟩;refine⟨_,.xv u,rfl,by simp only[AV.cells,a,lJ,f];rfl,λu' hu'=>?_⟩;have h6:=b.2 j x' u S f;cases hu' with | xv _=>exact h6.mono hM ι' hι
  cases h
 cases h
def Ai{k:aP}{a:List AV}(E:a.length=k.es.length)(H : ∀e∈a,e.cells.length=k.esz)(F : ∀e∈k.es,e.cells.length=k.esz)(I : ∀(i j:Nat) e x,a[i]?=some e->e.cells[j]?=some x ->∃u A z,x = .xv u/\k.es[i]?=some A/\A.cells[j]?=some z/\VR M ι z u)
 {M':Mem} {d:Map} (G : ∀b o v,M b o=some v->M' b o=some v) (m : ∀q l,ι q=some l->d q=some l) {i j:Nat} {p B:AV} (c:k.es[i]?=some p) (h:p.cells[j]?=some B) :
 ∃n C,a[i]?=some n/\n.cells[j]?=some C /\∀u,VR M' cT C u->VR M' d B u:=by
 have hi:i<a.length:=by rw[E];exact(dB.1 c).1
 have t:a[i]?=some a[i]:=dh hi;have D:j<a[i].cells.length:=by
  have y:=(dB.1 h).1;rw[F _ (dk c)]at y;rw[H _ (kq hi)];exact y
 have s:a[i].cells[j]?=some a[i].cells[j]:=dh D;obtain⟨u,L,J,b1,b2,b3,b4⟩:=I i j _ _ t s;rw[c]at b2;cases b2;rw[h]at b3;cases b3;refine⟨_,_,t,s,λK f=>?_⟩;rw[b1]at f;cases f with | xv _=>exact b4.mono G d m
def PN{H:ab}(hS:fk M ι H.get w)(hD:p8 ι H){d A:Nat}{ts:Array TypeId}{ty:TypeId}{s x y:AV}{us ux:Value}(hs:VR M ι s us)(hx:VR M ι x ux){H':ab}
 (h:wg P H ⟨d,A,H.gen d A,0⟩ ts[0]? ts[1]? s x=some (y,H')) : ∃u w',(Builtin.append_ ts ty #[us,ux]).run P w = .ok u w'/\mZ M ι H w y H' u w':=by
 unfold wg at h;split at h
 ·rename_i e I m cx he;split at h;·cases h
  rename_i hc;split at h
  ·rename_i z by' zz a hz X hzz C;split at h;·cases h
   rename_i f;have hax:a.arr=false:=by
    cases hh:a.arr with| false=>rfl| true=>exact absurd (.inl hh) f
   have hbxe:a=⟨a.esz,a.es,false,a.fI⟩:=by cases a;simp only at hax;subst hax;rfl
   have R:a.esz=z:=q9.1 λh=>f (.inr (.inl h));have hz0:z≠0:=λh=>f (.inr (.inr (.inl h)));have hb0:by'≠0:=λh=>f (.inr (.inr (.inr (.inl h))));have hn0:a.es≠[]:=λh=>f (.inr (.inr (.inr (.inr (.inl h)))));have hzl:zz.cells.length=z:=q9.1 λh=>f (.inr (.inr (.inr (.inr (.inr (.inl h))))));have hm:m=a.es.length:=q9.1 λh=>f (.inr (.inr (.inr (.inr (.inr (.inr h))))));have Q : ∀e∈a.es,e.cells.length=z:=(by obtain⟨l,_,X⟩:=hS.live I a C;rw[<-R];exact(X.cellsOk (by omega)).cells);obtain⟨c,O,a2,a3,a4⟩:=hS.xv C hax (by omega);obtain⟨H0,hH0⟩ : ∃H0,H0=H.put I (some ⟨a.esz,c,true,a.fI⟩):=⟨_,rfl⟩;rw[<-hH0]at a3;have W : ∀q,H0.get q=if q=I then some ⟨a.esz,c,true,a.fI⟩ else H.get q:=λq=>by rw[hH0,ab.get_put]
   have B : ∀d t,H0.gen d t=H.gen d t:=λd t=>by rw[hH0,ab.fB _ _ _ (by rw[C];rfl)]
   have hD0:p8 ι H0:=λq l hl=>by rw[B];exact hD q l hl
   have hx0:VR M ι (.bO I 0 m cx) ux:=by cases hx with | dsl hr X hs ha hc hn o hz=>exact .bO hr X hs ha hc hn o hz
   have hrx:H0.get I=some ⟨a.esz,c,true,a.fI⟩:=(by rw[W,if_pos rfl]);have hel : ∀K:ab,K.get I=some ⟨a.esz,c,true,a.fI⟩->lN P K.get e (.bO I 0 m cx)=some (z,c):=by
    intro K hK;have e1:(c.drop 0).take m=c:=by
     rw[uW,hm,<-O,Bd]
    simp only[lN,cr,hK];rw[if_pos ⟨trivial,by omega⟩,e1,R]
   have hne0:c≠[]:=λh=>hn0 (wc.1 (by rw[<-O,h];rfl));have hc0 : ¬((ts[1]?.bind P.underlying).isNone=true\/(ts[1]?.map (isInt P)).getD false≠isNum (.bO I 0 m cx)):=hc;have T : ∀q k,H0.get q=some k ->∃k',H.get q=some k':=by
    intro q k E;rw[W]at E;split at E;·rename_i e;rw[e];exact⟨a,C⟩
    exact⟨k,E⟩
   split at h
   ·obtain⟨N,h⟩:=dH.1 h;cases h;have hfr0:=hD.fresh d A 0;have n:H.get ⟨d,A,H.gen d A,0⟩=none:=by
     cases hg:H.get ⟨d,A,H.gen d A,0⟩ with| none=>rfl| some b=>obtain⟨l,hl,_⟩:=hS.live _ _ hg;rw[hl]at hfr0;cases hfr0
    have hne:(⟨d,A,H.gen d A,0⟩:Ref)≠I:=λe=>by rw[e,C]at n;cases n
    have E:dY P H0.get ⟨d,A,H0.gen d A,0⟩ ts[0]? ts[1]? (.v (.slice none 0 0)) (.bO I 0 m cx)=some (.bO ⟨d,A,H0.gen d A,0⟩ 0 c.length none,[⟨z,c,true,false⟩]):=(by simp only[dY,he,if_neg hc0,hz,X,hzz,hel H0 hrx];rw[if_neg (λh=>h.elim (λh=>h rfl) λh=>h.elim hz0 λh=>h.elim hb0 λh=>h hzl),if_neg hne0,if_pos (by rw[O,<-hm];exact N)]);obtain⟨u,w',h5,h6⟩:=Ej (P:=P) (ty:=ty) a3 rfl (hD0.fresh d A 0) hs hx0 E;have hW:=h6.Yb hD0;rw[B,O,<-hm]at hW;have G : ¬(⟨d,A,H.gen d A,0⟩:Ref)=I:=hne;have U:=hW.Nm (H:=H) (H':=(⟨d,A,H.gen d A,0⟩,some ⟨z,a.es,false,false⟩) :: H0) (k1:=⟨z,c,true,false⟩) (es':=a.es) T (by simp[keyed,ab.get]) (by simp only;omega) rfl (by simp[ab.get])
     (λq k E o=>by
      have hq' : ¬(⟨d,A,H.gen d A,0⟩:Ref)=q:=λe=>E e.symm;simp only[keyed];rw[tu,if_neg hq']at o ⊢;exact o) (by intro d' t';exact aV _) O.symm Q
     (λM' ι' hM F i j e' x' p D=>Ai (k:=a) O a2 (by rw[R];exact Q) a4 hM F p D)
    refine⟨u,w',h5,U.Sa (λ_ _ _ h=>h) (x:=I) (k1:=⟨a.esz,c,true,a.fI⟩) (es':=a.es) (λq k h=>⟨k,h⟩) ?_ (by simp only;omega) rfl ?_ ?_ ?_ O.symm (by simp only;rw[R];exact Q) λM' ι' hM F i j e' x' p D=>Ai (k:=a) O a2 (by rw[R];exact Q) a4 hM F p D⟩;·rw[tu,if_neg G];exact hrx
    ·rw[tu,if_neg G,C,hbxe]
    ·intro q k E o;rw[tu]at o ⊢;split at o;·rename_i e;rw[if_pos e];exact o
     rename_i e;rw[if_neg e,W,if_neg E];exact o
    intro d' t';simp only[RM,B];exact aV _
   ·rename_i r' len;split at h
    ·rename_i b hbr;obtain⟨⟨har,hrz,hlen,Y,N⟩,h⟩:=dH.1 h;cases h;have hbr0:H0.get r'=some b:=by rw[W,if_neg Y];exact hbr
     have hcr : ∀e∈b.es,e.cells.length=z:=(by obtain⟨l,_,X⟩:=hS.live r' b hbr;rw[<-hrz];exact(X.cellsOk (by omega)).cells);obtain⟨S,c1,c2,c3,c4⟩:=a3.xv hbr0 har (by omega);obtain⟨L,hH1⟩ : ∃L,L=H0.put r' (some ⟨b.esz,S,true,b.fI⟩):=⟨_,rfl⟩;rw[<-hH1]at c3;have Z : ∀q,L.get q=if q=r' then some ⟨b.esz,S,true,b.fI⟩ else H0.get q:=λq=>by rw[hH1,ab.get_put]
     have J : ∀d t,L.gen d t=H.gen d t:=λd t=>by rw[hH1,ab.fB _ _ _ (by rw[hbr0];rfl),B]
     have hD1:p8 ι L:=λq l hl=>by rw[J];exact hD q l hl
     have hs0:VR M ι (.bO r' 0 len none) us:=by cases hs with | dsl hr X hs ha hc hn o hz=>exact .bO hr X hs ha hc hn o hz
     have hr1:L.get r'=some ⟨b.esz,S,true,b.fI⟩:=(by rw[Z,if_pos rfl]);have hrx1:L.get I=some ⟨a.esz,c,true,a.fI⟩:=by rw[Z,if_neg (λe=>Y e.symm)];exact hrx
     have hdom1 : ∀q k,L.get q=some k ->∃k',H.get q=some k':=by
      intro q k E;rw[Z]at E;split at E;·rename_i e;rw[e];exact⟨b,hbr⟩
      exact T q k E
     have hw:iH P L ts[0]? ts[1]? (.bO r' 0 len none) (.bO I 0 m cx)=some (.bO ⟨r'.d,r'.t,L.gen r'.d r'.t,0⟩ 0 (len+c.length) none,(⟨r'.d,r'.t,L.gen r'.d r'.t,0⟩,some ⟨z,S++c,true,b.fI⟩) :: L.put r' none):=(by simp only[iH,he,if_neg hc0,hz,X,hzz,hel L hrx1];rw[if_neg (λh=>h.elim (λh=>h rfl) λh=>h.elim hz0 λh=>h.elim hb0 λh=>h.elim hne0 λh=>h hzl)];simp only[hr1];rw[if_pos ⟨trivial,trivial,hrz,by rw[c1];exact hlen,by rw[O,<-hm];exact N⟩]);obtain⟨u,w',h5,hW⟩:=DF (P:=P) (ty:=ty) c3 hD1 hs0 hx0 hw;rw[J,O,<-hm]at hW;have hcat : ∀e∈b.es++a.es,e.cells.length=z:=λe he=>(jG.1 he).elim (hcr e) (Q e);have hcr' : ∀e∈b.es,e.cells.length=b.esz:=by rw[hrz];exact hcr
     have V : ∀e∈a.es,e.cells.length=a.esz:=by rw[R];exact Q
     have n:H.get ⟨r'.d,r'.t,H.gen r'.d r'.t,0⟩=none:=by
      cases hg:H.get ⟨r'.d,r'.t,H.gen r'.d r'.t,0⟩ with| none=>rfl| some b=>obtain⟨l,hl,_⟩:=hS.live _ _ hg;exact absurd (hD _ _ hl) (wX _)
     have G : ¬(⟨r'.d,r'.t,H.gen r'.d r'.t,0⟩:Ref)=I:=λe=>by rw[e,C]at n;cases n
     have s3:(L.get r').isSome=true:=by rw[hr1];rfl
     have s4:(H.get r').isSome=true:=by rw[hbr];rfl
     have U:=hW.Nm (H:=H) (H':=(⟨r'.d,r'.t,H.gen r'.d r'.t,0⟩,some ⟨z,b.es++a.es,false,b.fI⟩) :: L.put r' none) (k1:=⟨z,S++c,true,b.fI⟩) (es':=b.es++a.es) hdom1 (by rw[tu,if_pos rfl]) (by simp only;omega) rfl (by rw[tu,if_pos rfl])
      (λq k E o=>by
       have hq' : ¬(⟨r'.d,r'.t,H.gen r'.d r'.t,0⟩:Ref)=q:=λe=>E e.symm;rw[tu,if_neg hq']at o ⊢;exact o) (by intro d' t';exact aV _) (by simp only[eS,O,c1]) hcat
      (λM' ι' hM F i j e' x' p D=>by
       rcases dT i b.es.length with hlt | hge
       ·rw[iB hlt]at p;obtain⟨e1,x1,g1,g2,g3⟩:=Ai (k:=b) c1 c2 hcr' c4 hM F p D;exact⟨e1,x1,by rw[iB (by omega)];exact g1,g2,g3⟩
       rw[hY hge]at p;obtain⟨e1,x1,g1,g2,g3⟩:=Ai (k:=a) O a2 V a4 hM F p D;exact⟨e1,x1,by rw[hY (by omega),c1];exact g1,g2,g3⟩)
     refine⟨u,w',h5,U.Sa (λ_ _ _ h=>h) (x:=I) (k1:=⟨a.esz,c,true,a.fI⟩) (es':=a.es) (λq k h=>⟨k,h⟩) ?_ (by simp only;omega) rfl ?_ ?_ ?_ O.symm (by simp only;exact V) λM' ι' hM F i j e' x' p D=>Ai (k:=a) O a2 V a4 hM F p D⟩;·rw[tu,if_neg G,ab.get_put,if_neg (λe=>Y e.symm)];exact hrx1
     ·rw[tu,if_neg G,ab.get_put,if_neg (λe=>Y e.symm),C,hbxe]
     ·intro q k E o;rw[tu]at o ⊢;split at o;·rename_i e;rw[if_pos e];exact o
      rename_i e;rw[if_neg e,ab.get_put];rw[ab.get_put]at o;split at o;·cases o
      rename_i n1;rw[if_neg n1,Z,if_neg n1,W,if_neg E];exact o
     intro d' t';simp only[RM,ab.fB _ _ _ s3,ab.fB _ _ _ s4,J];exact aV _
    cases h
   cases h
  cases h
 cases h
end
end
end Go.Ab
