/-
  What the abstract machine's quiet operations give is what the model's give: the first part. No statement of a seat is proved here.
-/
import Derived.Lib.Overlaps
import Derived.Lib.SliceRun
import Derived.WalkSpells
import Derived.Test.YtmkmimgokagimaaGreatAbsCore
set_option linter.unusedVariables false
set_option linter.unusedSimpArgs false
set_option linter.unusedSectionVars false
set_option linter.unnecessarySimpa false
set_option linter.defProp false
namespace Go.Ab
section
def tN(g:cF)(r:Ref)(a:List aQ):cF:=λq=>if q.d=r.d/\q.t=r.t/\q.g=r.g/\q.k<a.length then a[q.k]? else g q
def nP(g:cF)(r:Ref):tN g r []=g:=by funext q;simp[tN]
def sD(g:cF)(r:Ref)(a:r.k=0)(b:aQ):tN g r [b]=ma g r b:=by
 funext q;unfold tN ma;by_cases h:q=r;·subst h;simp[a]
 rw[if_neg h,if_neg];intro c;apply h;cases q;cases r;simp_all
structure TR (M:Mem) (ι:Map) (tm:List AV) (a:Act):Prop where
 at_ : ∀t,VR M ι (dA tm t) (a.tmps.getD t undef)
def TR.mono{M ι tm a M' ι'}(h:TR M ι tm a)(d : ∀b o x,M b o=some x->M' b o=some x)(c : ∀r l,ι r=some l->ι' r=some l):TR M' ι' tm a:=
 ⟨λt=>(h.at_ t).mono d ι' c⟩
def aL{M ι tm a}(h:TR M ι tm a){x:Operand}{y:AV}(b:aC tm x=some y):VR M ι y (a.eval x):=by
 cases x with| tmp t=>simp[aC]at b;subst b;exact h.at_ t| const v=>simp only[aC]at b;exact jo b| global g=>simp[aC]at b| func f=>simp[aC]at b;subst b;exact .fn rfl rfl (λi c u d=>by simp at d) (λi c u d=>by simp at d)
def mU{M ι tm a}(h:TR M ι tm a){xs:List Operand}{ys:List AV}(c:xs.mapM (aC tm)=some ys):mh M ι ys (xs.map a.eval):=
 ⟨by simpa using gH c,λi y u f d=>by
  obtain⟨x,b,e⟩:=pf c i y f;simp only[k5,b,Option.map_some,dG]at d;subst d;exact aL h e⟩
def jV(M:Mem)(ι:Map)(g:cF)(w:World)(r:Ref)(x:AV)(b:List aQ)(u:Value)(w':World):Prop:=
 ∃M' a,VR M' a x u/\gA M' a (tN g r b) w'/\uN M ι g w M' a (tN g r b) w' /\∀q,ι q=none->(∀k,k<b.length->q ≠ { r with k:=k})->a q=none
def jV.same{M ι g w r x u}(a:gA M ι g w)(h:VR M ι x u):jV M ι g w r x [] u w:=
 ⟨M,ι,h,by rw[nP];exact a,by rw[nP];exact uN.refl,λq b _=>b⟩
def gA.drew{M ι g w w'}(a:gA M ι g w)(c:w'.heap=w.heap):gA M ι g w':=
 ⟨λb o x h=>by rw[iQi (w:=w) (by rw[c])];exact a.mem b o x h,λr k h=>by
  obtain⟨l,e,d⟩:=a.live r k h;exact⟨l,e,d.aX (λ_ _ _ h=>h) (λ_ _ h=>h) (by rw[c]) d.frozen⟩,a.inj⟩
def FW(ro:Option Nat):Fence := { Fence.wide with round:=ro}
def eB(P:Program)(o:Oper)(a:Act)(w:World)(S:Value->World->Prop):Prop:=
 ∀(ro:Option Nat)(K:Act->World->Prop)(Q:Exit->Act->World->Prop),(∀u w',S u w'->K (a.put o.dst u) w')->o.wpIn (FW ro) 0 P a w K Q
def BG{P:Program}{o:Oper}{a:Operand->Value}{w w':World}{x:Next}(ro:Option Nat)(h:(execOp a o).run P w = .ok x w')(k : ∀d,x ≠ .defer d):(Oper.semAt ro a o).run P w = .ok x w':=by
 by_cases i : ∃c,o.op = .defer c
 ·exfalso;obtain⟨c,b⟩:=i;simp only[execOp,b]at h;rw[iQe]at h;cases f:(resolve a c o.type).run P w with
  | ok d j=>rw[f]at h;simp only[iQd,iQh,Result.ok.injEq]at h;exact k _ h.1.symm
  | halt e j=>rw[f]at h;cases h
 rw[Oper.semAt_eq ro a o λc b=>i ⟨c,b⟩];exact h
def eB.of_run{P o a w S u w'}(b:(execOp a.eval o).run P w = .ok (.value u) w')(h:S u w'):eB P o a w S:=by
 intro ro K Q c;refine⟨λ_ _=>trivial,?_⟩;rw[BG (x := .value u) (FW ro).round b (by intro d e;cases e)];exact c _ _ h
def eB.Gk{P o a w S w'}(b:(execOp a.eval o).run P w = .ok .skip w')(h:S undef w'):eB P o a w S:=by
 intro ro K Q c;refine⟨λ_ _=>trivial,?_⟩;rw[BG (x := .skip) (FW ro).round b (by intro d e;cases e)];exact c _ _ h
def eB.Ig{P o a w S f args w0}(b:(execOp a.eval o).run P w = .ok (.enter f args) w0)(h:Calls P f args w0 λe w' =>∃u,e = .returned u/\S u w'):eB P o a w S:=by
 intro ro K Q j;refine⟨λ_ _=>trivial,?_⟩;rw[BG (x := .enter f args) (FW ro).round b (by intro d e;cases e)];refine⟨λh=>absurd h (by simp[FW,Fence.wide]),?_⟩;have i:CallsIn Fence.wide 0 P f args w0 λe w' =>∃u,e = .returned u/\S u w':=callsIn_wide.2 h;have c:CallsIn (FW ro) (0 - 1) P f args w0 λe w' =>∃u,e = .returned u/\S u w':=i;refine c.mono λe w' ⟨u,he,hS⟩=>?_;subst he;exact j _ _ hS
def eB.VX{P o a w S l f tmps assign body w0}(b:(execOp a.eval o).run P w = .ok (.round l f tmps assign body) w0)(h:RoundIn (FW none) 0 P l f tmps assign body w0 λe w' =>∃u,e = .returned u/\S u w'):eB P o a w S:=by
 intro ro K Q i;refine⟨λ_ _=>trivial,?_⟩;rw[BG (x := .round l f tmps assign body) (FW ro).round b (by intro d e;cases e)];refine⟨λh=>absurd h (by simp[FW,Fence.wide]),?_⟩;have c:RoundIn (FW ro) (0 - 1) P l f tmps assign body w0 λe w' =>∃u,e = .returned u/\S u w':=h;refine c.mono λe w' ⟨u,he,hS⟩=>?_;subst he;exact i _ _ hS
def put_defers(a:Act)(d:Option Tmp)(u:Value):(a.put d u).defers=a.defers:=by cases d<;>rfl
def HK{P:Program}{s:Sem Value}{w w':World}{u:Value}(h:s.run P w = .ok u w'):(do pure (Next.value (<-s)):Sem Next).run P w = .ok (.value u) w':=by
 simp[h]
section
variable{P:Program}{M:Mem}{ι:Map}{g:cF}{w:World}{r:Ref}
def BS{x:AV}{u:Value}{b:Bool}(h:VR M ι x u)(a:Fc x=some b):u = .bool b:=by
 cases h<;>simp[Fc]at a;split at a<;>simp_all
def yN{x:AV}{u:Value}{n:Int}(h:VR M ι x u)(a:Ab.intOf x=some n) : ∃k,u = .int k n:=by
 cases h<;>simp[Ab.intOf]at a;split at a<;>simp_all
def Wa(A:gA M ι g w)(h:r.k=0)(E:ι r=none){e:TypeId}{n:Nat}{x:AV}{u:Value}(B:VR M ι x u)(z:x.cells.length=n)(p:x.cells.all AV.one=true)(o:0<n) :
 ∃w',(Instr.box e u).run P w = .ok (.pointer (some ⟨w.heap.size,0,none⟩)) w'/\jV M ι g w r (.ptr r 0 0) [⟨n,[x],false,false⟩] (.pointer (some ⟨w.heap.size,0,none⟩)) w':=by
 have a:=B.cells;have c:u.cells.size=n:=by have:=a.1;simp at this;omega
 obtain⟨D,C⟩:=A.alloc (q:=r) E (w':=w.alloc (.cells u.cells e)) (arr:=u.cells) (T:=e) (fz:=(0,0)) ⟨rfl,rfl,rfl,rfl⟩ ⟨n,[x],false,false⟩ o 1 (by simpa using c) (CR.zero _ _) (by simp) (by simp[z])
  (by
   intro i j F y d b;cases i with
   | succ i=>simp at d
   | zero=>
    simp at d;subst d;have m:j<u.cells.size:=by have:=(ew.1 b).1;omega
    refine⟨u.cells[j],by simp,?_,?_⟩;·have t:=a.2 j y u.cells[j] b (by simp[m]);exact t.one (by simp only[gx]at p;exact p y (dJ b))
    simpa [aQ.map] using a.2 j y u.cells[j] b (by simp[m]))
 refine⟨w.alloc (.cells u.cells e),by simp[Instr.box,newVar,newRow],M,_,?_,by rw[sD _ _ h];exact D,by rw[sD _ _ h];exact C,?_⟩;·have:=VR.ptr (M:=M) (ι:=k6 ι r ⟨w.heap.size,n,1⟩) (r:=r) (i:=0) (j:=0) (l:=⟨w.heap.size,n,1⟩) (by simp[k6]) o;simpa using this
 intro q f v;have:q≠r:=by intro e;exact v 0 (by simp) (by rw[e];cases r;simp_all)
 simpa [k6,this] using f
def SV(j:gA M ι g w)(d:r.k=0)(f:ι r=none){e:TypeId}{x:AV}{b:List aQ}(h:xJ P r e=some (x,b)) :
 ∃u w',(Instr.alloc e true (.tuple #[])).run P w = .ok u w'/\jV M ι g w r x b u w':=by
 unfold xJ at h;split at h
 ·rename_i z n l o;split at h
  ·rename_i a;cases h;obtain⟨u,hu,c⟩:=yD l w;obtain⟨w',i,m⟩:=Wa (P:=P) (e:=e) j d f (jo c) a.1 a.2.1 a.2.2;refine⟨_,w',?_,m⟩;have:(Instr.alloc e true (.tuple #[])).run P w=(Instr.box e u).run P w:=by simp[Instr.alloc,hu,Instr.box]
   rw[this];exact i
  cases h
 cases h
def Yz(m:gA M ι g w)(d:r.k=0)(f:ι r=none){e:TypeId}{y x:AV}{c:Value}(l:VR M ι y c){b:List aQ}(h:F9 P r e (some y)=some (x,b)) :
 ∃u w',(Instr.box e c).run P w = .ok u w'/\jV M ι g w r x b u w':=by
 unfold F9 at h;split at h
 ·rename_i p n i q;cases i;split at h;·rename_i a;cases h;obtain⟨w',j,o⟩:=Wa (P:=P) (e:=e) m d f l a.1 a.2.1 a.2.2;exact⟨_,w',j,o⟩
  cases h
 cases h
def Vz(m:gA M ι g w){t:TypeId}{y x:AV}{k:Value}(l:VR M ι y k){f:List aQ}(h:uh P g t (some y)=some (x,f)) :
 f=[] /\∃u,(Instr.loadAt t k).run P w = .ok u w/\VR M ι x u:=by
 unfold uh at h;split at h
 ·rename_i r' i j p n a d e;cases a;split at h;·rename_i b q;simp only[kC,bG]at h;obtain⟨o,c,a⟩:=h;cases a;exact⟨rfl,Rh d e m l q c⟩
  cases h
 ·rename_i esz es i j p n a d e;cases a;simp only[kC,bG]at h;obtain⟨o,c,a⟩:=h;cases a;exact⟨rfl,Wx d e m.mem l c⟩
 cases h
def Q9{t:TypeId}{cs:List AV}{c:Array Value}{a:Nat}{x:AV}(d:mh M ι cs c.toList)(h:Bb P t cs a=some x) : ∃u,(part t c a).run P w = .ok u w/\VR M ι x u:=by
 unfold Bb at h;split at h
 ·rename_i n f i;split at h
  ·rename_i k;cases h;refine⟨.agg (c.extract a (a+n)),by simp[part,BH f,run_sizeOf i],VR.qA.2 ?_⟩;have:=(d.drop a).take n;have e:(c.extract a (a+n)).toList=(c.toList.drop a).take n:=by
    rw[OW,O3,KI]
   rw[e];exact this
  cases h
 ·rename_i f;have j:=(ew.1 h).1;have b:a<c.size:=by have:=d.1;simp at this;omega
  refine⟨c[a],by simp[part,BH f,kJ b],d.2 a x _ h (by simp[b])⟩
 cases h
def VR.RN{cs:List AV}{u:Value}(h:VR M ι (.agg cs) u) : ∃a,u = .agg a/\mh M ι cs a.toList:=by
 cases h with | agg c b=>exact⟨_,rfl,VR.qA.1 (.agg c b)⟩
def JQ{t:TypeId}{f a:Nat}{ft:TypeId}(h:oL P t f=some (a,ft)) : ∃b fd,P.underlying t=some (.struct b)/\b[f]?=some fd/\fd.offset=a/\fd.type=ft:=by
 unfold oL at h;split at h;·rename_i b d;simp only[bG]at h;obtain⟨fd,c,he⟩:=h;cases he;exact⟨b,fd,d,c,rfl,rfl⟩
 cases h
def SS{t:TypeId}{f:Nat}{y x:AV}{d:Value}(m:VR M ι y d){e:List aQ}(h:vL P t (some y) f=some (x,e)) :
 e=[] /\∃u,(Instr.field t d f).run P w = .ok u w/\VR M ι x u:=by
 unfold vL at h;split at h;·rename_i k ft cs j c;cases c;simp only[kC,bG]at h;obtain⟨p,b,c⟩:=h;cases c;obtain⟨o,rfl,a⟩:=m.RN;obtain⟨q,fd,l,n,rfl,rfl⟩:=JQ j;obtain⟨u,hu,i⟩:=Q9 (w:=w) a b;exact⟨rfl,u,by simp[Instr.field,bh l,n,asAgg,hu],i⟩
 cases h
def ID{t:TypeId}{f a s:Nat}(h:ar P t f=some (a,s)) : ∃b fd,P.underlying t=some (.struct b)/\b[f]?=some fd/\fd.offset=a/\aA P fd.type=some s:=by
 unfold ar at h;split at h;·rename_i c ft d;simp only[bG]at h;obtain⟨n,i,he⟩:=h;cases he;obtain⟨b,fd,e,l,j,k⟩:=JQ d;exact⟨b,fd,e,l,j,k ▸ i⟩
 cases h
def Jt{t:TypeId}{f:Nat}{y x:AV}{c:Value}(p:VR M ι y c){m:List aQ}(h:kr P t (some y) f=some (x,m)) :
 m=[] /\∃u,(Instr.fieldAt t c f).run P w = .ok u w/\VR M ι x u:=by
 unfold kr at h;split at h
 ·rename_i A s v;obtain⟨F,fd,B,D,rfl,C⟩:=ID v;split at h
  ·rename_i E;have k : ∀(b o:Nat),c = .pointer (some ⟨b,o,none⟩)->(Instr.fieldAt t c f).run P w = .ok (.pointer (some ⟨b,o+fd.offset,none⟩)) w:=by
    intro b o e;subst e;simp[Instr.fieldAt,bh B,D,Instr.sureAddr,fieldPlace,run_sizeOf C,show s≠0 by omega,gM]
   split at h
   ·rename_i r' i j a;cases a;cases h;cases p with | ptr z d=>
    rename_i l;exact⟨rfl,_,k _ _ rfl,by rw[GL];exact .ptr z d⟩
   ·rename_i n es i j a;cases a;cases h;cases p with | iptr cell hm a q=>
    rename_i b o;exact⟨rfl,_,k _ _ rfl,by rw[show o+(i * n+j)+fd.offset=o+(i * n+(j+fd.offset)) by omega];exact .iptr cell hm a q⟩
   cases h
  cases h
 cases h
def gD{t e:TypeId}(h:dR P t=some e):P.underlying t=some (.slice e):=by
 unfold dR at h;split at h;·cases h;assumption
 cases h
def Gg{t e:TypeId}{n:Nat}(h:lQ P t=some (n,e)):P.underlying t=some (.array n e):=by
 unfold lQ at h;split at h;·cases h;assumption
 cases h
def Js(V:gA M ι g w){t:TypeId}{y z x:AV}{O X:Value}(I:VR M ι y O)(hz:VR M ι z X){W:List aQ}(h:da P g t (some y) (some z)=some (x,W)) :
 W=[] /\∃u,(Instr.indexAt t O X).run P w = .ok u w/\VR M ι x u:=by
 unfold da at h;simp only[eJ]at h;split at h
 ·rename_i k Y;obtain⟨ki,rfl⟩:=yN hz Y;split at h
  ·rename_i e S;have L:=gD S;split at h
   ·rename_i esz es cap s d B;cases d;split at h
    ·rename_i m;obtain⟨J,C,rfl⟩:=m;cases h;cases I with | cC cell f G N hm Q R=>
     rename_i a c;refine⟨rfl,.pointer (some (a.add (k.toNat * s))),?_,?_⟩;·simp[Instr.indexAt,asIntOf,bh L,J,C,run_sizeOf B]
     have f:=f.resolve_right (by intro e;subst e;simp at C;omega);rw[kF f,gM];have:=VR.iptr (M:=M) (ι:=ι) (i:=k.toNat) (j:=0) (b:=a.block) (o:=a.off) cell hm Q R;simpa using this
    cases h
   ·rename_i r' p len cap s d B;cases d;split at h
    ·rename_i b T;split at h
     ·rename_i m;obtain⟨J,C,F⟩:=m;cases h;cases I with | bN K D f H G Z N q=>
      rename_i l a c;obtain⟨l',A,E⟩:=V.live r' b T;rw[K]at A;cases A;refine⟨rfl,.pointer (some (a.add (k.toNat * s))),?_,?_⟩;·simp[Instr.indexAt,asIntOf,bh L,J,C,run_sizeOf B]
      have v:a.off=p * l.esz:=by
       rcases H with h | h
       ·omega
       exact h
      rw[kF f,gM,D,v,F,<-E.esz,<-mw];have:=VR.ptr (M:=M) (ι:=ι) (i:=p+k.toNat) (j:=0) K q;simpa using this
     cases h
    cases h
   ·rename_i r' p len cap s d B;cases d;split at h
    ·rename_i b T;split at h
     ·rename_i m;obtain⟨J,C,F⟩:=m;cases h;cases I with | dsl K D f H G Z N q=>
      rename_i l a c;obtain⟨l',A,E⟩:=V.live r' b T;rw[K]at A;cases A;refine⟨rfl,.pointer (some (a.add (k.toNat * s))),?_,?_⟩;·simp[Instr.indexAt,asIntOf,bh L,J,C,run_sizeOf B]
      have v:a.off=p * l.esz:=by
       rcases H with h | h
       ·omega
       exact h
      rw[kF f,gM,D,v,F,<-E.esz,<-mw];have:=VR.ptr (M:=M) (ι:=ι) (i:=p+k.toNat) (j:=0) K q;simpa using this
     cases h
    cases h
   cases h
  split at h
  ·rename_i n e H;have L:=Gg H;have U : ∀(b o s:Nat),O = .pointer (some ⟨b,o,none⟩)->aA P e=some s->0<=k->k<n->(Instr.indexAt t O (.int ki k)).run P w = .ok (.pointer (some ⟨b,o+k.toNat * s,none⟩)) w:=by
    intro b o s e C h2 h3;subst e;simp[Instr.indexAt,asIntOf,bh L,Instr.sureAddr,h2,h3,run_sizeOf C,gM]
   split at h
   ·rename_i r' i j s d B;cases d;split at h
    ·rename_i m;cases h;cases I with | ptr hl q=>
     exact⟨rfl,_,U _ _ _ rfl B m.1 m.2,by rw[GL];exact .ptr hl q⟩
    cases h
   ·rename_i esz es i j s d B;cases d;split at h
    ·rename_i m;cases h;cases I with | iptr cell hm S R=>
     rename_i b o;exact⟨rfl,_,U _ _ _ rfl B m.1 m.2,by rw[show o+(i * esz+j)+k.toNat * s=o+(i * esz+(j+k.toNat * s)) by omega];exact .iptr cell hm S R⟩
    cases h
   cases h
  cases h
 cases h
def M4{y x:AV}{e:Value}{i:Nat}(j:VR M ι y e){d:List aQ}(h:ui (some y) i=some (x,d)) :
 d=[] /\∃u,(Instr.extract e i).run P w = .ok u w/\VR M ι x u:=by
 unfold ui at h;split at h
 ·rename_i m c;cases c;simp only[kC,bG]at h;obtain⟨l,a,c⟩:=h;cases c;cases j with | tup k n f=>
  rename_i us;have b:i<us.size:=by have:=(ew.1 a).1;omega
  exact⟨rfl,us[i],by simp[Instr.extract,kJ b],f i _ _ a (kJ b)⟩
 cases h
theorem EM{t:TypeId}{y x:AV}{b:Value}(f:VR M ι y b){e:List aQ}(h:tG P t (some y)=some (x,e)) :
 e=[] /\∃u,(Instr.makeInterface t b).run P w = .ok u w/\VR M ι x u:=by
 unfold tG at h;split at h;·cases h
 ·rename_i d a c;simp at h;obtain⟨rfl,rfl⟩:=h;refine⟨rfl,.iface t b,?_,.ifc f⟩;simp only[Instr.makeInterface,iQe,bh c,iQd];cases d<;>first | rfl | (exact absurd c (a _))
 cases h
theorem CE{st a:TypeId}{ok:Bool}{y x:AV}{m:Value}(p:VR M ι y m){E:List aQ}(h:tV P (some y) a ok=some (x,E)) :
 E=[] /\∃u,(Instr.typeAssert m st a ok).run P w = .ok u w/\VR M ι x u:=by
 have j : ∀d,P.underlying a=some d->(∀F,d ≠ .interface F) ->∀z,eX P a=some z->ok=true->(m = .nilIface \/∃t v,m = .iface t v/\t≠a) ->
  ∃u,(Instr.typeAssert m st a ok).run P w = .ok u w/\VR M ι (.tup [z,.v (.bool false)]) u:=by
  intro d l b z n f k;subst f;obtain⟨v,D,A⟩:=yD n w;refine⟨.tuple #[v,.bool false],?_,?_⟩
  ·simp only[Instr.typeAssert,iQe,bh l,iQd];rcases k with rfl | ⟨t,x,rfl,o⟩
   ·cases d<;>first | (simp[D];done) | exact absurd rfl (b _)
   cases d<;>first | (simp[D,o];done) | exact absurd rfl (b _)
  refine .tup (by simp) rfl λi c u e k=>?_;match i with
  | 0=>simp at e k;subst e;subst k;exact jo A
  | 1=>simp at e k;subst e;subst k;exact .v rfl
  | i+2=>simp at e
 unfold tV at h;split at h;·cases h
 ·rename_i d t G b l q;cases q;cases p with | ifc p=>
  rename_i C;split at h
  ·rename_i B;subst B;simp at h;obtain⟨rfl,rfl⟩:=h;refine⟨rfl,(if ok then .tuple #[C,.bool true] else C),?_,?_⟩;·simp only[Instr.typeAssert,iQe,bh l,iQd];cases d<;>first | (simp;done) | exact absurd l (by intro h;exact b _ h)
   cases ok with| false=>simpa using p| true=>
    simp only[if_true];refine .tup (by simp) rfl λi c u e k=>?_;match i with
    | 0=>simp at e k;subst e;subst k;exact p
    | 1=>simp at e k;subst e;subst k;exact .v rfl
    | i+2=>simp at e
  rename_i B;split at h;·rename_i f;simp at h;obtain⟨z,n,rfl,rfl⟩:=h;exact⟨rfl,j d l b z n f (.inr ⟨t,C,rfl,B⟩)⟩
  cases h
 ·rename_i d b l q;cases q;split at h;·rename_i f;simp at h;obtain⟨z,n,rfl,rfl⟩:=h;cases p;exact⟨rfl,j d l b z n f (.inl rfl)⟩
  cases h
 cases h
end
end
section
section
variable{P:Program}{M:Mem}{ι:Map}{g:cF}{w:World}{r:Ref}
def NR(a:Nat) : ∀(us:List Value)(k:Nat)(cells:Array Value),a+k+us.length<=cells.size ->
 (us.zipIdx k).foldl (λcs (p:Value × Nat)=>cs.setIfInBounds (a+p.2) p.1) cells=cB cells (a+k) us:=by
 intro us;induction us with
 | nil=>intro k cells h;simp[cB]
 | cons u us d=>
  intro k cells h;simp only[qO]at h;rw[List.zipIdx_cons,tZ,d (k+1) _ (by simp;omega)];apply Fo;intro i;rw[iR (by simp;omega),iR (by simp;omega)];by_cases c:i=a+k;·subst c;rw[if_neg (by omega),if_pos ⟨cH _,by simp⟩];simp[show a+k<cells.size by omega]
  by_cases b:a+(k+1)<=i/\i<a+(k+1)+us.length;·rw[if_pos b,if_pos (by simp;omega)];rw[show i - (a+k)=(i - (a+(k+1)))+1 by omega];simp
  rw[if_neg b,if_neg (by simp;omega)];rw[B5 (by omega)]
def mh.patch{cs new:List AV}{us a:List Value}{j:Nat}(h:mh M ι cs us)(b:mh M ι new a):mh M ι (patch cs j new) (us.take j++a++us.drop (j+a.length)):=by
 unfold Ab.patch;rw[<-b.1];exact((h.take j).append b).append (h.drop _)
def Rx(c:Nat->Option (Nat × Nat)) : ∀(ps:List (Nat × AV)) (qs:List (Nat × Value)) (cs d:List AV) (b:Array Value),mg c cs ps=some d->mh M ι cs b.toList ->
 ps.length=qs.length->(∀(i:Nat) p q,ps[i]?=some p->qs[i]?=some q->p.1=q.1/\VR M ι p.2 q.2) ->
 ∃e,Instr.fill c b qs=some e/\mh M ι d e.toList:=by
 intro ps;induction ps with
 | nil=>
  intro qs cs d b h o t hp;simp[mg]at h;subst h;cases qs with
  | nil=>exact⟨b,rfl,o⟩
  | cons q qs=>simp at t
 | cons p ps J=>
  intro qs cs d b h o t hp;cases qs with
  | nil=>simp at t
  | cons q qs=>
   obtain⟨i,v⟩:=p;obtain⟨K,u⟩:=q;obtain⟨B,C⟩:=hp 0 _ _ rfl rfl;simp only at B C;subst B;simp only[mg]at h;split at h;·cases h
   rename_i a m x;split at h
   ·rename_i E;obtain⟨F,hle⟩:=E;have n:=C.cells;have G:u.cells.size=m:=by have:=n.1;simp at this;omega
    have D:b.size=cs.length:=by have:=o.1;simp at this;omega
    have f:=NR a u.cells.toList 0 b (by simp;omega);have l:u.cells.zipIdx.foldl (λcs (p:Value × Nat)=>cs.setIfInBounds (a+p.2) p.1) b=cB b a u.cells.toList:=(by rw[xt]at f;rw[<-f,<-OP,iQV]);have A:mh M ι (patch cs a v.cells) (cB b a u.cells.toList).toList:=(by have:=o.patch (j:=a) n;simpa [cB] using this);obtain⟨e,H,I⟩:=J qs (patch cs a v.cells) d (cB b a u.cells.toList) h A (by simpa using t) (λk p q y z=>hp (k+1) p q y z);refine⟨e,?_,I⟩;simp only[Instr.fill,x];rw[if_neg (by simp;omega)];rw[<-H,<-l]
   cases h
def sr{tm:List AV}{a:Act}(h:TR M ι tm a){ps:List (Nat × Operand)}{b:List (Nat × AV)}(c:gK tm ps=some b) :
 b.length=(ps.map λp=>(p.1,a.eval p.2)).length /\∀(i:Nat) p q,b[i]?=some p->(ps.map λp=>(p.1,a.eval p.2))[i]?=some q->p.1=q.1/\VR M ι p.2 q.2:=by
 unfold gK at c;refine⟨by simpa using gH c,λi p q hp e=>?_⟩;obtain⟨⟨k,o⟩,f,d⟩:=pf c i p hp;simp only[bG]at d;obtain⟨y,j,rfl⟩:=d;simp only[k5,f,Option.map_some,dG]at e;subst e;exact⟨rfl,aL h j⟩
def tE{t:TypeId}{z:AV}(h:eX P t=some z) : ∃i u,P.info? t=some i/\i.zero=some u/\ofValue u=some z:=by
 simp only[eX,ib]at h;obtain⟨u,⟨i,b,a⟩,hu⟩:=h;exact⟨i,u,b,a,hu⟩
def SU{t:TypeId}{d:List (Nat × AV)}{qs:Array (Nat × Value)}{x:AV}{C:List aQ}(B:d.length=qs.toList.length)
 (hp : ∀(i:Nat) p q,d[i]?=some p->qs.toList[i]?=some q->p.1=q.1/\VR M ι p.2 q.2) (h:nz P t (some d)=some (x,C)) :
 C=[] /\∃u,(Instr.build t qs).run P w = .ok u w/\VR M ι x u:=by
 unfold nz at h;split at h
 ·rename_i z E F f;cases f;obtain⟨it,u,l,k,hu⟩:=tE F;obtain⟨A,rfl,j⟩:=(jo (M:=M) (ι:=ι) hu).RN;split at h
  ·rename_i n e G;split at h;·rename_i s D;simp only[bG]at h;obtain⟨cs,c,f⟩:=h;cases f;obtain⟨H,o,rfl⟩:=vH D;obtain⟨a,v,y⟩:=Rx (M:=M) (ι:=ι) _ d qs.toList z cs A c j B hp;refine⟨rfl,.agg a,run_build w t qs a ?_,VR.qA.2 y⟩;simp[Program.built,l,Gg G,k,o,Value.cells,v]
   cases h
  split at h
  ·rename_i ps b;simp only[bG]at h;obtain⟨cs,c,f⟩:=h;cases f;unfold placesOf at b;split at b;·rename_i I m;obtain⟨a,v,y⟩:=Rx (M:=M) (ι:=ι) _ d qs.toList z cs A c j B hp;refine⟨rfl,.agg a,run_build w t qs a ?_,VR.qA.2 y⟩;simp only[Program.built,l,m,k,b,Value.cells];rw[<-v];congr 1;funext i;simp
   cases b
  cases h
 cases h
def YA{b:BinOp}{t:TypeId}{o j:Operand}{x y z:AV}{u v:Value}(m:VR M ι x u)(p:VR M ι y v){B:List aQ}(h:bP P b t o j (some x) (some y)=some (z,B)) :
 B=[] /\∃r,(do eqGuard b t o j u v;binOp b t u v:Sem Value).run P w = .ok r w/\VR M ι z r:=by
 simp only[bP]at h;split at h
 ·rename_i A;have key:(∃a n c,u = .slice (some a) n c/\v = .slice none 0 0)\/(∃a n c,v = .slice (some a) n c/\u = .slice none 0 0):=by
   simp only[fp,aT]at A;rcases A with ⟨l,i⟩ | ⟨l,i⟩
   ·left;have:v = .slice none 0 0:=by
     cases p<;>simp[oR]at i;split at i<;>simp_all
    cases m<;>simp[Lx]at l;·exact⟨_,_,_,rfl,this⟩
    ·exact⟨_,_,_,rfl,this⟩
    exact⟨_,_,_,rfl,this⟩
   right;have:u = .slice none 0 0:=by
    cases m<;>simp[oR]at i;split at i<;>simp_all
   cases p<;>simp[Lx]at l;·exact⟨_,_,_,rfl,this⟩
   ·exact⟨_,_,_,rfl,this⟩
   exact⟨_,_,_,rfl,this⟩
  have f : ∀b,(eqGuard b t o j u v).run P w = .ok () w:=(by intro b;rcases key with ⟨a,n,c,rfl,rfl⟩ | ⟨a,n,c,rfl,rfl⟩<;>(unfold eqGuard;cases b<;>simp));split at h
  ·rename_i e d;simp at h;obtain⟨rfl,rfl⟩:=h;refine⟨rfl,.bool false,?_,.v rfl⟩;simp only[iQe,f,iQd];rcases key with ⟨a,n,c,rfl,rfl⟩ | ⟨a,n,c,rfl,rfl⟩
   ·rw[Lib.run_eql_slice_nil w t e (some a) n c 0 0 d];rfl
   rw[run_eql_nil_slice w t e (some a) n c 0 0 d];rfl
  ·rename_i e d;simp at h;obtain⟨rfl,rfl⟩:=h;refine⟨rfl,.bool true,?_,.v rfl⟩;simp only[iQe,f,iQd];rcases key with ⟨a,n,c,rfl,rfl⟩ | ⟨a,n,c,rfl,rfl⟩
   ·rw[run_neq_slice_nil_any w t e (some a) n c 0 0 d];rfl
   rw[run_neq_nil_slice w t e (some a) n c 0 0 d];rfl
  cases h
 split at h;·rename_i G I q k;simp only[kC,bG,ib]at h;obtain⟨H,⟨r,C,D⟩,he⟩:=h;cases he;have E:=vI m q;have F:=vI p k;subst E;subst F;exact⟨rfl,r,oO C w,oQ D⟩
 cases h
def abr{b:UnOp}{x z:AV}{u:Value}(e:VR M ι x u){a:List aQ}(h:Z9 P b (some x)=some (z,a)) :
 a=[] /\∃r,(Op.unary b u).run P w = .ok r w/\VR M ι z r:=by
 simp only[Z9,kC,bG,ib,dG]at h;obtain⟨j,⟨r,⟨v,⟨i,rfl,c⟩,d⟩,f⟩,he⟩:=h;cases he;have:=Pd e c;subst this;exact⟨rfl,r,oO d w,oQ f⟩
def XT{xs:List AV}{us d:List Value}(c:mh M ι xs us)(h:xs.mapM JO=some d):us=d:=by
 apply KA;intro i;rcases eC i us.length with a | a
 ·have b:i<xs.length:=by rw[c.1];exact a
  obtain⟨v,e,f⟩:=lT h i xs[i] (dy b);rw[e,dy a,Pd (c.2 i _ _ (dy b) (dy a)) f]
 have:=gH h;rw[wJ a,wJ (by rw[this,c.1];exact a)]
def J8{f:Value->Value->Sem Value}{xs:List AV}{us:List Value}{z:AV}(c:mh M ι xs us)(h:Lp f P xs=some z) :
 ∃u a,us=u :: a /\∃r,(a.foldlM f u).run P w = .ok r w/\VR M ι z r:=by
 unfold Lp at h;split at h;·rename_i u a d;have:=XT c d;subst this;simp only[ib]at h;obtain⟨r,b,e⟩:=h;exact⟨u,a,rfl,r,oO b w,oQ e⟩
 cases h
def uw{t:TypeId}(h:isStr P t=true):P.underlying t=some .string:=by
 unfold isStr at h;split at h;·assumption
 cases h
def sk{t:TypeId}(h:ei P t=true) : ∃e,P.underlying t=some (.slice e)/\P.underlying e=some (.int .u8):=by
 unfold ei at h;split at h
 ·rename_i e a;split at h;·exact⟨e,a,by assumption⟩
  cases h
 cases h
def Wu{t:TypeId}(h:isInt P t=true) : ∃k,P.underlying t=some (.int k):=by
 unfold isInt at h;split at h;·exact⟨_,by assumption⟩
 cases h
end
end
section
section
variable{P:Program}{M:Mem}{ι:Map}{g:cF}{w:World}{r:Ref}
structure Src (P:Program) (M:Mem) (w:World) (u:Value) (z:Nat) (es:List AV) (us:List Value):Prop where
 len:us.length=es.length * z
 Ja : ∀e∈es,e.cells.length=z
 one : ∀x∈us,x.oneCell'=true
 vr : ∀(i j:Nat) e x,es[i]?=some e->e.cells[j]?=some x ->∃u,us[i * z+j]?=some u/\VR M dq x u
 lenOf : ∀w':World,(Builtin.lenOf u).run P w' = .ok es.length w'
 first : ∀(n:Nat)(w':World),n<=es.length->w'.heap=w.heap->(Builtin.firstCells z n u).run P w' = .ok (us.take (n * z)).toArray w'
def SG{es:List AV}{z:Nat}(h : ∀e∈es,e.cells.length=z)(cell:Nat->Nat->Value) :
 ∃us:List Value,us.length=es.length * z /\∀i j,i<es.length->j<z->us[i * z+j]?=some (cell i j):=by
 refine⟨(List.range (es.length * z)).map λk=>cell (k / z) (k % z),by simp,?_⟩;intro i j c a;have b:0<z:=by omega
 have:=E2 c a;rw[k5,Gx this];simp only[Option.map_some,dG];rw[Nat.mul_comm i z,Nat.mul_add_div b,Nat.div_eq_of_lt a,Nat.mul_add_mod,Nat.mod_eq_of_lt a,xt]
def QQ{es:List AV}{z:Nat}(b : ∀e∈es,e.cells.length=z)(H:0<z\/es=[]){a:Addr}{c:Nat}(t:a.spot=none\/es=[])(cell:Nat->Nat->Value)
 (D : ∀i j,i<es.length->j<z->w.cell? ⟨a.block,a.off+(i * z+j),none⟩=some (cell i j)/\(cell i j).oneCell'=true)
 (E : ∀(i j:Nat) e x,es[i]?=some e->e.cells[j]?=some x->VR M dq x (cell i j)) : ∃us,Src P M w (.slice (some a) es.length c) z es us:=by
 obtain⟨us,B,C⟩:=SG b cell;have f : ∀k,k<us.length->0<z/\k / z<es.length/\k % z<z/\k / z * z+k % z=k:=by
  intro k l;rw[B]at l;have d:0<z:=by
   rcases H with h | h
   ·exact h
   subst h;simp at l
  exact⟨d,(iQN d).2 l,Nat.mod_lt _ d,by rw[Nat.mul_comm];exact Nat.div_add_mod k z⟩
 refine⟨us,B,b,?_,?_,λw'=>by simp[Builtin.lenOf],?_⟩
 ·intro x q;obtain⟨k,l,u⟩:=qP q;obtain⟨d,o,p,e⟩:=f k l;have:=C _ _ o p;rw[e,dy l,u]at this;injection this with this
  rw[this];exact(D _ _ o p).2
 ·intro i j e x y q;have J:=(ew.1 y).1;have m:j<z:=by
   rw[<-b e (dJ y)];exact(ew.1 q).1
  exact⟨cell i j,C i j J m,E i j e x y q⟩
 intro n w' F A;have I:n * z<=us.length:=by rw[B];exact ng _ F
 refine run_firstCells_some (P:=P) w' z n a es.length c (us.take (n * z)) (by simp;omega) ?_;intro j v m;rw[AN]at m;split at m;·rename_i G;obtain⟨d,o,p,e⟩:=f j (by omega);have:=C _ _ o p;rw[e,m]at this;cases this;have t:=t.resolve_right (by intro e;subst e;simp at o);rw[kF t,gM];have:=(D _ _ o p).1;rw[e]at this;rw[iQi (w:=w) (by rw[A])];exact this
 cases m
def getElems(es:List AV)(a len:Nat)(c:a+len<=es.length):((es.drop a).take len).length=len /\∀i,i<len->((es.drop a).take len)[i]?=es[a+i]? :=
 ⟨by simp;omega,λi b=>by rw[AN,if_pos b,Fp]⟩
def o5(J:gA M ι g w){x:AV}{u:Value}(k:VR M ι x u){z:Nat}{es:List AV}(K:0<z)(h:cL g x=some (z,es)) : ∃us,Src P M w u z es us:=by
 unfold cL at h;split at h
 ·rename_i s;cases h;cases k;refine⟨s.data.toList.map λb => .int .u8 b.toNat,?_,?_,?_,?_,?_,?_⟩;·simp
  ·intro e f;simp only[jO]at f;obtain⟨b,_,rfl⟩:=f;rfl
  ·intro x k;simp only[jO]at k;obtain⟨b,_,rfl⟩:=k;rfl
  ·intro i j e x f k;simp only[k5,bG]at f;obtain⟨b,H,rfl⟩:=f;cases j with
   | succ j=>simp[AV.cells]at k
   | zero=>simp[AV.cells]at k;subst k;exact⟨.int .u8 b.toNat,by simp[H],.v rfl⟩
  ·intro w';simp only[Builtin.lenOf,iQh,pI,B4];rfl
  intro n w' O T;simp only[Builtin.firstCells,Nat.mul_one,iQh];congr 1;apply GD;simp only[Array.toList_map,ByteArray.data_extract,OW];rw[O3];simp[Kw]
 ·rename_i esz es' cap;cases h;cases k with | cC cell G I N hm f U=>
  rename_i a c;exact QQ f (.inl K) G cell (λi j o p=>⟨J.mem _ _ _ (hm i j o p).1,(hm i j o p).2⟩) U
 ·rename_i r' d len cap;split at h
  ·rename_i b H;split at h
   ·rename_i I;cases h;obtain⟨A,hlen⟩:=I;cases k with | bN V D G S R O N F=>
    rename_i l a c;have m:=J.at V F H;obtain⟨B,C⟩:=getElems b.es d len hlen;have q:0<len->a.off=d * b.esz:=by
     intro X;rcases S with h | h
     ·omega
     rw[h,m.esz]
    have key : ∀i j,i<len->j<b.esz ->∃u,w.cell? ⟨a.block,a.off+(i * b.esz+j),none⟩=some u/\u.oneCell'=true /\∀e x,b.es[d+i]?=some e->e.cells[j]?=some x->VR M dq x u:=by
     intro i j o p;have f:b.es[d+i]?=some b.es[d+i]:=dy (by omega);have W:=m.cells b.es[d+i] (je _);obtain⟨u,hu,B,C⟩:=m.cell (d+i) f j _ (dy (by omega:j<b.es[d+i].cells.length));refine⟨u,?_,B,?_⟩;·rw[q (by omega),D,show d * b.esz+(i * b.esz+j)=(d+i) * b.esz+j by rw[mw];omega];exact hu
     intro e x t y;rw[f]at t;cases t;rw[dy (by omega:j<b.es[d+i].cells.length)]at y;cases y;rw[aQ.map,if_pos A]at C;exact C
    let cell:Nat->Nat->Value:=λi j=>(w.cell? ⟨a.block,a.off+(i * b.esz+j),none⟩).getD undef
    have:=QQ (P:=P) (M:=M) (w:=w) (es:=(b.es.drop d).take len) (z:=b.esz) (a:=a) (c:=c)
     (by intro e f;exact m.cells e (Fq (ye f))) (.inl K) (.inl G) cell
     (by
      intro i j o p;rw[B]at o;obtain⟨u,E,L,_⟩:=key i j o p;simp[cell,E,L])
     (by
      intro i j e x f k;have o:i<len:=by have:=(ew.1 f).1;omega
      rw[C i o]at f;have p:j<b.esz:=(by rw[<-m.cells e (dJ f)];exact(ew.1 k).1);obtain⟨u,E,L,Q⟩:=key i j o p;simp only[cell,E,cI];exact Q e x f k)
    rw[B]at this;exact this
   cases h
  cases h
 cases h
inductive Ei:Option Value->Option Int->Prop
 | none:Ei none none
 | some (k n):Ei (some (.int k n)) (some n)
def vi{tm:List AV}{a:Act}(h:TR M ι tm a){o:Option Operand}{x:Option Int}(b:mP tm o=some x):Ei (o.map a.eval) x:=by
 cases o with| none=>simp only[mP,dG]at b;subst b;exact .none| some o=>
  simp only[mP]at b;split at b
  ·rename_i n c;injection b with b
   subst b;simp only[ib]at c;obtain⟨y,e,f⟩:=c;obtain⟨k,d⟩:=yN (aL h e) f;rw[Option.map_some,d];exact .some k n
  cases b
def BR{len c:Nat}{cap:Option Nat}(O:len<=c)(B : ∀k,cap=some k->c=k){C I H:Option Int}{l h:Nat}{F:Option Nat}(d:bounds len cap C I H=some (l,h,F))
 {u p o:Option Value} (x:Ei u C) (E:Ei p I) (L:Ei o H) :
 l<=h/\h<=len /\∃m,h<=m/\m<=c/\(∀k,F=some k->m - l=k)/\(Instr.sliceBounds true len c u p o).run P w = .ok (l,h,m) w:=by
 have e : ∀(k:IntKind)(i:Int)(y:Nat)(b:BoundsCode),0<=i->i<=y->(Instr.sliceBound (.int k i) y b).run P w = .ok i.toNat w:=λk i y b=>iQO w k i y b;cases L with
 | some D m=>
  cases E with| none=>simp[bounds]at d| some v a=>
   simp only[bounds]at d;obtain⟨⟨n,j,z,G,Q⟩,d⟩:=eK.1 d;simp only[dG,ya]at d;obtain⟨rfl,rfl,rfl⟩:=d;have K:m<=c:=by
    cases cap with
    | none=>simp at G;omega
    | some k=>have:=B k rfl;simp at G;omega
   have R:((m.toNat:Nat):Int)=m:=C2 (by omega);have J:((a.toNat:Nat):Int)=a:=C2 (by omega);refine⟨by omega,by omega,m.toNat,by omega,by omega,by intro k f;cases f;rfl,?_⟩;cases x with
   | none=>simp only[vn]at n j;simp only[Instr.sliceBounds,iQe,e D m c _ (by omega) (by omega),iQd,e v a m.toNat _ (by omega) (by omega),iQh,vn];rfl
   | some t q=>simp only[cI]at n j;simp only[Instr.sliceBounds,iQe,e D m c _ (by omega) (by omega),iQd,e v a m.toNat _ (by omega) (by omega),e t q a.toNat _ (by omega) (by omega),iQh,cI]
 | none=>
  simp only[bounds]at d;obtain⟨⟨n,j,z⟩,d⟩:=eK.1 d;simp only[dG,ya]at d;obtain⟨rfl,rfl,rfl⟩:=d;refine⟨by omega,by omega,c,by omega,cH _,?_,?_⟩;·intro k f;simp only[bG]at f;obtain⟨N,A,rfl⟩:=f;rw[B N A]
  cases E with
  | none=>
   simp only[vn]at j z ⊢;cases x with
   | none=>simp[Instr.sliceBounds]
   | some t q=>simp only[cI]at n j ⊢;simp only[Instr.sliceBounds,iQe,iQh,iQd,e t q len _ (by omega) (by omega)];simp
  | some v a=>
   simp only[cI]at j z ⊢;have J:((a.toNat:Nat):Int)=a:=C2 (by omega);cases x with
   | none=>simp only[vn]at n j ⊢;simp only[Instr.sliceBounds,iQe,iQh,iQd,e v a c _ (by omega) (by omega)];simp
   | some t q=>simp only[cI]at n j ⊢;simp only[Instr.sliceBounds,iQe,iQh,iQd,e v a c _ (by omega) (by omega),e t q a.toNat _ (by omega) (by omega)]
def rW{t e:TypeId}(k:P.underlying t=some (.slice e)){s:Nat}(i:aA P e=some s){a:Option Addr}{len c l h m:Nat}{b f d:Option Value}
 (j:(Instr.sliceBounds true len c b f d).run P w = .ok (l,h,m) w) :
 (Instr.sliceAt t (.slice a len c) b f d).run P w = .ok (.slice (if m=l then a else a.map (·.add (l * s))) (h - l) (m - l)) w:=by
 simp[Instr.sliceAt,bh k,Instr.slice,j,run_sizeOf i]
def SQ(hS:gA M ι g w){t:TypeId}{y x:AV}{u0:Value}(W:VR M ι y u0){lo E mx:Option Int}{Y U T:Option Value}
 (S:Ei Y lo) (X:Ei U E) (V:Ei T mx)
 {bs:List aQ} (h:iT P g t (some y) (some lo) (some E) (some mx)=some (x,bs)) :
 bs=[] /\∃u,(Instr.sliceAt t u0 Y U T).run P w = .ok u w/\VR M ι x u:=by
 simp only[iT]at h;split at h
 ·rename_i e;cases e;cases W;obtain⟨n,h⟩:=eK.1 h;simp only[bG]at h;obtain⟨⟨l,f,K⟩,o,e⟩:=h;cases e;obtain⟨s,C⟩:=ik.1 n;simp only[ib]at C;obtain⟨e,D,C⟩:=C;obtain⟨b1,b2,m,b3,b4,F,J⟩:=BR (P:=P) (w:=w) (cH 0) (by intro k G;cases G;rfl) o S X V;have e1:l=0:=by omega
  have Q:f=0:=(by omega);have e3:m=0:=(by omega);subst e1;subst Q;subst e3;exact⟨rfl,_,rW (gD D) C J,.v rfl⟩
 ·rename_i s e;cases e;cases W;obtain⟨n,h'⟩:=eK.1 h;clear h;simp only[aT,Option.isNone_iff_eq_none]at n;obtain⟨n,rfl⟩:=n;cases V;obtain⟨⟨l,f,K⟩,o,e⟩:=bG.1 h';cases e;have hu:=uw n;have bd : ∀(k:IntKind)(i:Int)(y:Nat)(B:BoundsCode),0<=i->i<=y->(Instr.sliceBound (.int k i) y B).run P w = .ok i.toNat w:=λk i y B=>iQO w k i y B;simp only[bounds]at o;obtain⟨⟨Z,N,c3⟩,o⟩:=eK.1 o;simp only[dG,ya]at o;obtain⟨rfl,rfl,rfl⟩:=o;refine⟨rfl,.string (s.extract (lo.getD 0).toNat (E.getD s.size).toNat),?_,.v rfl⟩;cases X with
  | none=>
   simp only[vn]at N c3;try simp only[vn,cI]
   cases S with| none=>simp[Instr.sliceAt,bh hu,Instr.slice,Instr.sliceBounds]| some kl ll=>
    simp only[cI]at Z N;try simp only[vn,cI]
    simp[Instr.sliceAt,bh hu,Instr.slice,Instr.sliceBounds,bd kl ll s.size _ Z N]
  | some kh f=>
   simp only[cI]at N c3;try simp only[vn,cI]
   have eh:((f.toNat:Nat):Int)=f:=C2 (by omega);cases S with
   | none=>
    simp only[vn]at Z N;try simp only[vn,cI]
    simp[Instr.sliceAt,bh hu,Instr.slice,Instr.sliceBounds,bd kh f s.size _ N c3]
   | some kl ll=>
    simp only[cI]at Z N;try simp only[vn,cI]
    simp[Instr.sliceAt,bh hu,Instr.slice,Instr.sliceBounds,bd kh f s.size _ (by omega) c3,bd kl ll f.toNat _ Z (by omega)]
 ·rename_i esz es cap e;cases e;obtain⟨n,h⟩:=eK.1 h;simp only[bG]at h;obtain⟨⟨l,f,K⟩,o,e⟩:=h;cases e;simp only[ib]at n;obtain⟨e,D,C⟩:=n;cases W with | cC cell d R G hm hes hh'=>
  rename_i a c;obtain⟨b1,b2,m,b3,b4,F,J⟩:=BR (P:=P) (w:=w) R G o S X V;refine⟨rfl,_,rW (gD D) C J,?_⟩;obtain⟨g1,g2⟩:=getElems es l (f - l) (by omega);have:=VR.cC (M:=M) (ι:=ι) (esz:=esz) (es:=(es.drop l).take (f - l)) (cap:=K) (a:=(if m=l then a else a.add (l * esz))) (c:=m - l) (λi j=>cell (l+i) j)
   (by
    rcases d with d | d
    ·left;split;·exact d
     rw[kF d,gM]
    right;subst d;simp) (by omega) F
   (by
    intro i j E hj;rw[g1]at E;have d:=d.resolve_right (by intro e;subst e;simp at b2 R;omega);rw[if_neg (by omega),kF d,gM];have:=hm (l+i) j (by omega) hj;rw[show a.off+((l+i) * esz+j)=a.off+l * esz+(i * esz+j) by rw[mw];omega]at this;exact this)
   (by intro e D;exact hes e (Fq (ye D)))
   (by
    intro i j e x E hx;have hi':i<f - l:=by have:=(ew.1 E).1;omega
    rw[g2 i hi']at E;exact hh' (l+i) j e x E hx)
  rw[g1]at this;have Q:(if m=l then some a else (some a).map (·.add (l * esz)))=some (if m=l then a else a.add (l * esz)):=by split<;>rfl
  rw[Q];exact this
 ·rename_i r' H len cap e;cases e;split at h
  ·rename_i b I;obtain⟨n,h⟩:=eK.1 h;simp only[bG]at h;obtain⟨⟨l,f,K⟩,o,e⟩:=h;cases e;simp only[ib]at n;obtain⟨e,D,C⟩:=n;cases W with | bN L p d ha R hn G z=>
   rename_i lo' a c;obtain⟨l',A,O⟩:=hS.live r' b I;rw[L]at A;cases A;obtain⟨b1,b2,m,b3,b4,F,J⟩:=BR (P:=P) (w:=w) R G o S X V;refine⟨rfl,_,rW (gD D) C J,?_⟩;have Q:(if m=l then some a else (some a).map (·.add (l * b.esz)))=some (if m=l then a else a.add (l * b.esz)):=by split<;>rfl
   rw[Q];show VR M ι (.bN r' (H+l) (f - l) K) _;by_cases q:m=l;·rw[if_pos q];exact .bN L p d (.inl (by omega)) (by omega) (.inl (by omega)) F z
   rw[if_neg q,kF d,gM];refine .bN L p rfl (.inr ?_) (by omega) (.inr ?_) F z
   ·rcases ha with h | h
    ·omega
    simp only[h,O.esz,mw]
   rcases hn with h | h
   ·omega
   omega
  cases h
 ·rename_i r' H len cap e;cases e;split at h
  ·rename_i b I;obtain⟨n,h⟩:=eK.1 h;simp only[bG]at h;obtain⟨⟨l,f,K⟩,o,e⟩:=h;cases e;simp only[ib]at n;obtain⟨e,D,C⟩:=n;cases W with | dsl L p d ha R hn G z=>
   rename_i lo' a c;obtain⟨l',A,O⟩:=hS.live r' b I;rw[L]at A;cases A;obtain⟨b1,b2,m,b3,b4,F,J⟩:=BR (P:=P) (w:=w) R G o S X V;refine⟨rfl,_,rW (gD D) C J,?_⟩;have Q:(if m=l then some a else (some a).map (·.add (l * b.esz)))=some (if m=l then a else a.add (l * b.esz)):=by split<;>rfl
   rw[Q];show VR M ι (.dsl r' (H+l) (f - l) K) _;by_cases q:m=l;·rw[if_pos q];exact .dsl L p d (.inl (by omega)) (by omega) (.inl (by omega)) F z
   rw[if_neg q,kF d,gM];refine .dsl L p rfl (.inr ?_) (by omega) (.inr ?_) F z
   ·rcases ha with h | h
    ·omega
    simp only[h,O.esz,mw]
   rcases hn with h | h
   ·omega
   omega
  cases h
 cases h
def Qt{len c:Nat}(u:len<=c){h l:Option Int}(m:0<=h.getD 0)(e:h.getD 0<=l.getD len)(p:l.getD len<=c)
 {b f:Option Value} (t:Ei b h) (v:Ei f l) :
 (Instr.sliceBounds true len c b f none).run P w = .ok ((h.getD 0).toNat,(l.getD len).toNat,c) w:=by
 have j : ∀(k:IntKind)(i:Int)(y:Nat)(a:BoundsCode),0<=i->i<=y->(Instr.sliceBound (.int k i) y a).run P w = .ok i.toNat w:=λk i y a=>iQO w k i y a;cases v with
 | none=>
  simp only[vn]at e p ⊢;cases t with
  | none=>simp[Instr.sliceBounds]
  | some o n=>simp only[cI]at m e ⊢;simp only[Instr.sliceBounds,iQe,iQh,iQd,j o n len _ (by omega) (by omega)];simp
 | some q d=>
  simp only[cI]at e p ⊢;have x:((d.toNat:Nat):Int)=d:=C2 (by omega);cases t with
  | none=>simp only[vn]at m e ⊢;simp only[Instr.sliceBounds,iQe,iQh,iQd,j q d c _ (by omega) (by omega)];simp
  | some o n=>simp only[cI]at m e ⊢;simp only[Instr.sliceBounds,iQe,iQh,iQd,j q d c _ (by omega) (by omega),j o n d.toNat _ (by omega) (by omega)]
def PH(Z:gA M ι g w){t:TypeId}{y x:AV}{R:Value}(hy:VR M ι y R){i d W:Option Int}{q j f:Option Value}
 (h1:Ei q i) (h2:Ei j d) (h3:Ei f W)
 {S:List aQ} (h:wS P g t (some y) (some i) (some d) (some W)=some (x,S)) :
 S=[] /\∃u,(Instr.sliceAt t R q j f).run P w = .ok u w/\VR M ι x u:=by
 unfold wS at h;split at h
 ·rename_i L hi' r' D len cap J K X T;simp only[dG]at J K X T;subst J K X T;cases h3;split at h
  ·rename_i b E;obtain⟨⟨V,U,c2,G⟩,h⟩:=eK.1 h;simp only[dG,ya]at h;obtain⟨rfl,rfl⟩:=h;simp only[ib]at V;obtain⟨e,he,hs⟩:=V;cases hy with | bN F n B ha O Y Q p=>
   rename_i L a c;have v:((cap.getD len:Nat):Int)<=c:=by
    cases cap with| none=>simpa using O| some k=>rw[Q k rfl];simp
   have z : ∀m:Nat,∀k,cap.map (· - m)=some k->c - m=k:=(by intro m k N;obtain⟨k0,I,rfl⟩:=bG.1 N;rw[Q k0 I]);replace G:d.getD (len:Int)<=c:=Int.le_trans G v;clear v;obtain⟨l',A,H⟩:=Z.live r' b E;rw[F]at A;cases A;have b6:=Qt (P:=P) (w:=w) O U c2 G h1 h2;have J:(((i.getD 0).toNat:Nat):Int)=i.getD 0:=C2 U;have K:(((d.getD (len:Int)).toNat:Nat):Int)=d.getD len:=C2 (by omega);generalize (i.getD 0).toNat=l at *;generalize (d.getD (len:Int)).toNat=hh at *;refine⟨rfl,_,rW (gD he) hs b6,?_⟩;have C:(if c=l then some a else (some a).map (·.add (l * b.esz)))=some (if c=l then a else a.add (l * b.esz)):=by split<;>rfl
   rw[C];show VR M ι (.bN r' (D+l) (hh - l) (cap.map (· - l))) _;by_cases o:c=l;·rw[if_pos o];exact .bN F n B (.inl (by omega)) (by omega) (.inl (by omega)) (z l) p
   rw[if_neg o,kF B,gM];refine .bN F n rfl (.inr ?_) (by omega) (.inr ?_) (z l) p
   ·rcases ha with h | h
    ·omega
    simp only[h,H.esz,mw]
   rcases Y with h | h
   ·omega
   omega
  cases h
 cases h
def Vx(G:gA M ι g w){t tR:TypeId}{args:List AV}{us:List Value}(hv:mh M ι args us){x:AV}{Z:List aQ}(h:MW P g t args=some (x,Z)) :
 Z=[]/\x = .v (.bool false)/\(Extern.SlicesOverlaps.overlaps #[t,t] #[tR] us.toArray).run P w = .ok (.bool false) w:=by
 unfold MW at h;split at h
 ·rename_i r p len cap r' u i cap' e he;split at h
  ·rename_i b b' z hb y hz;obtain⟨⟨I,h1,h2,h3⟩,h⟩:=eK.1 h;simp only[dG,ya]at h;obtain⟨rfl,rfl⟩:=h;refine⟨rfl,rfl,?_⟩;obtain⟨hlen,d⟩:=hv;match us,hlen,d with
   | [ua,ub],hlen,d=>
   have va:=d 0 _ ua rfl rfl;have vb:=d 1 _ ub rfl rfl;clear d hlen;cases va with | bN hr j hsp ha hc hn hk K=>
   rename_i l a c;cases vb with | bN B k X ha' hc' O hk' o=>
   rename_i R a' N;have ht:=gD he;have V:=G.at hr K hb;have hB:=G.at B o y;obtain⟨arr,T,fz,L,Q,C,_⟩:=V.heap;obtain⟨arr',T',fz',S,A,hfz',_⟩:=hB.heap;have D:l.b≠R.b:=λe=>I (G.inj r r' b b' l R hb y hr B e);have m : ∀w:World,(Go.sizeOf e).run P w = .ok z w:=λw=>run_sizeOf hz w;show(Extern.SlicesOverlaps.overlaps #[t,t] #[tR] #[.slice (some a) len c,.slice (some a') i N]).run P w=_;by_cases h0:len=0\/i=0
   ·have J:(len=0\/i=0\/z=0):=(by omega);have e2 : ∀ {H β:Type} (x:H) (f:H->Sem β),(pure x:Sem H).bind f=f x:=λ_ _=>rfl;conv=>lhs;arg 2;whnf
    simp[Sem.run,Sem.bind,e2,ht,m,J]
   have hcn:p+c<=l.n:=by rcases hn with h | h<;>omega
   have Y:u+N<=R.n:=by rcases O with h | h<;>omega
   have U:a.off=p * l.esz:=by rcases ha with h | h<;>omega
   have W:0<arr'.size:=by rw[A];exact Nat.mul_pos (by omega) (by omega)
   have F:a.off<arr.size:=(by rw[U,Q,V.esz];exact(Nat.mul_lt_mul_right (by omega)).2 (by omega));refine Lib.run_overlaps_apart (P:=P) w t tR e ht z m a a' len c i N (by rw[j,k];exact D) T T' arr.size arr'.size ?_ ?_ (by omega) ?_ ?_;·unfold World.shape?;rw[j,L]
   ·unfold World.shape?;rw[k,S]
   ·unfold World.frozen?;rw[j,L];have:=C.1 a.off F;obtain⟨f1,f2⟩:=fz;simp only at this ⊢;rw[OX];simp only[iQc];by_cases q:f1<=a.off;·exact .inr λE=>this ⟨q,.inl E⟩
    exact .inl q
   unfold World.frozen?;simp only;rw[j,L];have:=C.2 h1;obtain⟨f1,f2⟩:=fz;simp only at this ⊢;rw[OX];simp only[iQc];by_cases q:f1<=arr.size;·exact .inr λE=>this ⟨q,E⟩
   exact .inl q
  cases h
 cases h
end
end
section
section
variable{P:Program}{M:Mem}{ι:Map}{g:cF}{w:World}{r:Ref}
structure Row (M:Mem) (z:Nat) (es:List AV) (us:List Value):Prop where
 len:us.length=es.length * z
 Ja : ∀e∈es,e.cells.length=z
 one : ∀x∈us,x.oneCell'=true
 vr : ∀(i j:Nat) e x,es[i]?=some e->e.cells[j]?=some x ->∃u,us[i * z+j]?=some u/\VR M dq x u
def Src.row{u z es us}(h:Src P M w u z es us):Row M z es us:=⟨h.len,h.Ja,h.one,h.vr⟩
def Row.nil{z:Nat}:Row M z [] []:=⟨by simp,by simp,by simp,by intro i j e x h;simp at h⟩
def Row.append{z es us es' us'}(h:Row M z es us)(c:Row M z es' us'):Row M z (es++es') (us++us'):=by
 refine⟨by simp[h.len,c.len,mw],?_,?_,?_⟩
 ·intro e a;rcases iN.1 a with b | b
  ·exact h.Ja e b
  exact c.Ja e b
 ·intro e a;rcases iN.1 a with b | b
  ·exact h.one e b
  exact c.one e b
 intro i j e x a k;rcases eC i es.length with d | d
 ·rw[kA d]at a;obtain⟨u,hu,f⟩:=h.vr i j e x a k;exact⟨u,by rw[kA (ew.1 hu).1];exact hu,f⟩
 rw[jP d]at a;obtain⟨u,hu,f⟩:=c.vr _ j e x a k;have l:es.length * z<=i * z:=ng _ d;refine⟨u,?_,f⟩;rw[jP (by rw[h.len];omega),h.len,show i * z+j - es.length * z=(i - es.length) * z+j by rw[GF];omega];exact hu
def Row.cons{z es us e vs}(b:mh M dq e vs)(f:e.length=z)(m : ∀x∈vs,x.oneCell'=true)(y:AV)(k:y.cells=e)(h:Row M z es us):Row M z (y :: es) (vs++us):=by
 have:Row M z [y] vs:=by
  refine⟨by rw[<-b.1,f];simp,by intro n a;simp at a;subst a;rw[k];exact f,m,?_⟩;intro i j n x d c;cases i with
  | succ i=>simp at d
  | zero=>
   simp at d;subst d;rw[k]at c;have l:j<vs.length:=by have:=(ew.1 c).1;rw[<-b.1];exact this
   exact⟨vs[j],by simp[l],b.2 j x vs[j] c (dy l)⟩
 exact this.append h
def Row.replicate{z:Nat}{y:AV}{u:Value}(e:VR M dq y u)(i:y.cells.length=z)(f:y.cells.all AV.one=true) : ∀n,Row M z (List.replicate n y) (List.replicate n u.cells.toList).flatten:=by
 intro n;have b : ∀x∈u.cells.toList,x.oneCell'=true:=by
  intro x k;obtain⟨j,h,c⟩:=qP k;have d:=e.cells;have a:j<y.cells.length:=by rw[d.1];exact h
  have:=d.2 j _ x (dy a) (by rw[<-c];exact dy h);exact this.one (by simp only[gx]at f;exact f _ (je a))
 induction n with| zero=>exact Row.nil| succ n l=>rw[OU,OU,List.flatten_cons];exact Row.cons e.cells i b y rfl l
def Row.mono{z es us}{M':Mem}(h:Row M z es us)(f : ∀b o x,M b o=some x->M' b o=some x):Row M' z es us:=
 ⟨h.len,h.Ja,h.one,λi j e x c d=>by obtain⟨u,hu,a⟩:=h.vr i j e x c d;exact⟨u,hu,a.mono f _ (λ_ _ h=>h)⟩⟩
def vk(y:gA M ι g w)(o:r.k=0)(G:ι r=none){w':World}{arr:Array Value}{T:TypeId}{fz:Nat × Nat}(C:Ek w w' (.cells arr T fz))
 {z:Nat} {es:List AV} {us:List Value} (a:Row M z es us) (d : ∀(k:Nat) u,us[k]?=some u->arr[k]?=some u) {n c:Nat} (f:arr.size=n * z)
 (h:CR z arr.size fz) (B:es.length<=c) (H:c<=n) {cap:Option Nat} (b : ∀k,cap=some k->c=k) (p:0<z) :
 jV M ι g w r (.bN r 0 es.length cap) [⟨z,es,true,false⟩] (.slice (some ⟨w.heap.size,0,none⟩) es.length c) w':=by
 obtain⟨E,F⟩:=y.alloc (q:=r) G C ⟨z,es,true,false⟩ p n f h (by simp;omega) a.Ja
  (by
   intro i j e x A D;obtain⟨u,hu,t⟩:=a.vr i j e x A D;exact⟨u,d _ _ hu,a.one u (dJ hu),by simpa [aQ.map] using t⟩)
 refine⟨M,_,?_,by rw[sD _ _ o];exact E,by rw[sD _ _ o];exact F,?_⟩;·exact .bN (l:=⟨w.heap.size,z,n⟩) (by simp[k6]) rfl rfl (.inr (by simp)) B (.inr (by simp;omega)) b p
 intro q m v;have:q≠r:=by intro e;exact v 0 (by simp) (by rw[e];cases r;simp_all)
 simpa [k6,this] using m
def NF(M:Mem)(b:Nat)(us:List Value):Mem:=λb' o=>if b'=b then us[o]? else M b' o
def TN(A:gA M ι g w){w':World}{arr:Array Value}{T:TypeId}{fz:Nat × Nat}(f:Ek w w' (.cells arr T fz))
 {z:Nat} {es:List AV} {us:List Value} (d:Row M z es us) (v : ∀(k:Nat) u,us[k]?=some u->arr[k]?=some u) {c:Nat}
 (I:es.length<=c) {cap:Option Nat} (p : ∀k,cap=some k->c=k) :
 jV M ι g w r (.cC z es cap) [] (.slice (some ⟨w.heap.size,0,none⟩) es.length c) w':=by
 have y : ∀b o x,M b o=some x->b<w.heap.size:=λb o x h=>iQm w ⟨b,o,none⟩ (A.mem b o x h);have m : ∀b o x,M b o=some x->NF M w.heap.size us b o=some x:=by
  intro b o x h;unfold NF;rw[if_neg (Nat.ne_of_lt (y b o x h))];exact h
 have t:w'.heap[w.heap.size]?=some (.cells arr T fz):=by rw[f.heap];simp
 have B : ∀i j,i<es.length->j<z ->∃u,us[i * z+j]?=some u:=by
  intro i j D C;exact⟨us[i * z+j]'(by rw[d.len];exact E2 D C),dy _⟩
 refine⟨NF M w.heap.size us,ι,?_,?_,?_,λq L _=>L⟩
 ·refine VR.cC (M:=NF M w.heap.size us) (ι:=ι) (esz:=z) (es:=es) (cap:=cap) (a:=⟨w.heap.size,0,none⟩) (c:=c) (λi j=>(us[i * z+j]?).getD undef) (.inl rfl) I p ?_ d.Ja ?_;·intro i j D C;obtain⟨u,hu⟩:=B i j D C;simp only[NF,if_true,uR,hu,cI];exact⟨trivial,d.one u (dJ hu)⟩
  intro i j e x H J;obtain⟨u,hu,E⟩:=d.vr i j e x H J;simp only[hu,cI];exact E.mono m _ (λ_ _ h=>h)
 ·rw[nP];refine⟨?_,?_,A.inj⟩
  ·intro b o x h;unfold NF at h;split at h;·rename_i e;subst e;rw[jK t];exact v o x h
   exact f.cell (A.mem b o x h)
  intro r' k F;obtain⟨l,G,n⟩:=A.live r' k F;refine⟨l,G,n.aX m (λ_ _ h=>h) (f.old _ n.lt) ?_⟩;intro o x h;unfold NF at h;rw[if_neg (Nat.ne_of_lt n.lt)]at h;exact n.frozen o x h
 rw[nP];refine⟨f.os,f.tape,f.output,by rw[f.heap];simp,λb n _=>f.old b n,m,λ_ _ h=>h,λr' k l h K => .inr ⟨r',k,l,h,K,rfl⟩,?_⟩;intro b o x h;unfold NF at h;split at h;·rename_i e;exact .inr (.inl (by omega))
 exact .inl h
def jV.after{R:List Ref}(d:uK g R=g)(j:gA M ι g w){x:AV}{c:List aQ}{u:Value}{w':World}(h:jV (ly M ι g w R) ι g w r x c u w'):jV M ι g w r x c u w':=by
 obtain⟨_,b⟩:=Bm (R:=R) j;rw[d]at b;obtain⟨M',a,e,k,f,i⟩:=h;exact⟨M',a,e,k,b.trans f,i⟩
def KN(o:gA M ι g w){a d:List (Nat × AV)}(h:fS g a=some d){qs:List (Nat × Value)}(m:a.length=qs.length)
 (hp : ∀(i:Nat) p q,a[i]?=some p->qs[i]?=some q->p.1=q.1/\VR M ι p.2 q.2) :
 d.length=qs.length /\∀(i:Nat) p q,d[i]?=some p->qs[i]?=some q->p.1=q.1/\VR (ly M ι g w (bX g (a.map (·.2)))) dq p.2 q.2:=by
 unfold fS at h;refine⟨by rw[gH h,m],?_⟩;intro i p q b c;obtain⟨⟨k,x⟩,f,e⟩:=pf h i p b;simp only[bG]at e;obtain⟨y,n,rfl⟩:=e;obtain⟨l,t⟩:=hp i _ q f c;refine⟨l,C5 o depth x y q.2 n ?_ t⟩;intro r j;simp only[bX,fq,jO];exact⟨x,⟨(k,x),dJ f,rfl⟩,j⟩
def DW{z:Nat} : ∀(y:List (Nat × AV)) (qs:List (Nat × Value)) (es es':List AV) (us:Array Value),jt es y=some es'->Row M z es us.toList ->
 y.length=qs.length->(∀(i:Nat) p q,y[i]?=some p->qs[i]?=some q->p.1=q.1/\VR M dq p.2 q.2)->(∀p∈y,p.2.cells.length=z/\p.2.cells.all AV.one=true) ->
 es'.length=es.length /\∃d,Instr.fill (λi=>some (i * z,z)) us qs=some d/\Row M z es' d.toList:=by
 intro y;induction y with
 | nil=>
  intro qs es es' us h a F hp J;simp[jt]at h;subst h;cases qs with
  | nil=>exact⟨rfl,us,rfl,a⟩
  | cons q qs=>simp at F
 | cons p y Z=>
  intro qs es es' us h a F hp J;cases qs with
  | nil=>simp at F
  | cons q qs=>
   obtain⟨i,v⟩:=p;obtain⟨i',u⟩:=q;obtain⟨Q,R⟩:=hp 0 _ _ rfl rfl;simp only at Q R;subst Q;simp only[jt]at h;split at h
   ·rename_i S;obtain⟨B,o⟩:=J _ (gy ..);simp only at B o;have b:=R.cells;have K:u.cells.size=z:=by have:=b.1;simp at this;omega
    have I:us.size=es.length * z:=by have:=a.len;simpa using this
    have U:i * z+z<=us.size:=(by have:(i+1) * z<=es.length * z:=ng _ S;rw[mw]at this;omega);have l:=NR (i * z) u.cells.toList 0 us (by simp;omega);have n:u.cells.zipIdx.foldl (λcs (p:Value × Nat)=>cs.setIfInBounds (i * z+p.2) p.1) us=cB us (i * z) u.cells.toList:=(by rw[xt]at l;rw[<-l,<-OP,iQV]);have D : ∀x∈u.cells.toList,x.oneCell'=true:=by
     intro x f;obtain⟨j,C,L⟩:=qP f;have A:j<v.cells.length:=by rw[b.1];exact C
     have:=b.2 j _ x (dy A) (by rw[<-L];exact dy C);exact this.one (by simp only[gx]at o;exact o _ (je A))
    have m:Row M z (es.set i v) (cB us (i * z) u.cells.toList).toList:=by
     refine⟨?_,?_,?_,?_⟩;·simp only[B4,Kx];rw[jB (by simp;omega),I]
     ·intro e c;rcases O2 c with h | h
      ·exact a.Ja e h
      rw[h];exact B
     ·intro x f;simp only[cB,iN]at f;rcases f with (h | h) | h
      ·exact a.one x (ye h)
      ·exact D x h
      exact a.one x (Fq h)
     intro k j e x c f;have T:k<es.length:=by have:=(ew.1 c).1;simpa using this
     rw[Gz,iR (by simp;omega)];by_cases H:i=k
     ·subst H;rw[GA S]at c;injection c with c
      subst c;have C:j<v.cells.length:=(ew.1 f).1;rw[if_pos ⟨by omega,by simp;omega⟩,KI];have E:j<u.cells.toList.length:=by rw[<-b.1];exact C
      exact⟨u.cells.toList[j],dy E,b.2 j x _ f (dy E)⟩
     rw[GS H]at c;have C:j<z:=(by rw[<-a.Ja e (dJ c)];exact(ew.1 f).1);obtain⟨W,O,G⟩:=a.vr k j e x c f;rw[if_neg];·exact⟨W,by simpa using O,G⟩
     simp only[B4,K];rcases OQ H with h | h
     ·have:(i+1) * z<=k * z:=ng _ h;rw[mw]at this;omega
     have:(k+1) * z<=i * z:=ng _ h;rw[mw]at this;omega
    obtain⟨X,d,Y,V⟩:=Z qs (es.set i v) es' (cB us (i * z) u.cells.toList) h m (by simpa using F) (λk p q t N=>hp (k+1) p q t N) (λp t=>J p (fO _ t));refine⟨by rw[X];simp,d,?_,V⟩;simp only[Instr.fill];rw[if_neg (by simp;omega)];rw[<-Y,<-n]
   cases h
def w7{zs:Array Value}{n:Nat}(c:0<zs.size):((Array.range (n * zs.size)).map (zs[· % zs.size]!)).toList=(List.replicate n zs.toList).flatten:=by
 apply KA;intro k;rcases eC k (n * zs.size)with a | a
 ·have b:k % zs.size<zs.size:=Nat.mod_lt _ c;have f:k / zs.size<n:=(iQN c).2 a;have d:((Array.range (n * zs.size)).map (zs[· % zs.size]!)).toList[k]?=some zs[k % zs.size]:=(by simp[a,b,getElem!_pos]);rw[d];have : ∀n k,k<n * zs.size->(List.replicate n zs.toList).flatten[k]?=zs.toList[k % zs.size]?:=by
   intro n;induction n with
   | zero=>intro k a;simp at a
   | succ n e=>
    intro k a;rw[OU,List.flatten_cons];rcases eC k zs.size with h | h
    ·rw[kA (by simpa using h),Nat.mod_eq_of_lt h]
    rw[jP (by simpa using h),B4,e (k - zs.size) (by rw[mw]at a;omega)];congr 1;rw[<-Nat.mod_eq_sub_mod h]
  rw[this n k a];simp[b]
 rw[wJ (by simpa using a),wJ (by simpa using a)]
def Il{t:TypeId}{n:Nat}(K:gA M ι g w){f:List (Nat × AV)}{qs:Array (Nat × Value)}{b:aQ}(h:mkSlice P g t n f=some b)(J:f.length=qs.toList.length)
 (hp : ∀(i:Nat) p q,f[i]?=some p->qs.toList[i]?=some q->p.1=q.1/\VR M ι p.2 q.2) :
 b.arr=true/\b.gJ=false/\b.es.length=n /\∃e arr,(Instr.buildSlice t n qs).run P w = .ok (.slice (some ⟨w.heap.size,0,none⟩) n n) (w.alloc (.cells arr e))/\arr.size=n * b.esz /\
  Row (ly M ι g w (bX g (f.map (·.2)))) b.esz b.es arr.toList:=by
 unfold mkSlice at h;split at h;·cases h
 rename_i e Q;split at h
 ·rename_i U z s A L E;obtain⟨H,h⟩:=eK.1 h;obtain⟨V,X,T,S,D⟩:=H;simp only[bG]at h;obtain⟨es,y,rfl⟩:=h;obtain⟨it,u,x,C,hu⟩:=tE L;obtain⟨W,l,I⟩:=vH E;rw[x]at l;cases l;have v:=jo (M:=ly M ι g w (bX g (f.map (·.2)))) (ι:=dq) hu;have k:u.cells.size=s:=by have:=v.cells.1;simp at this;omega
  have d:=Row.replicate v T S n;obtain⟨N,R⟩:=KN K A J hp;have c:Row (ly M ι g w (bX g (f.map (·.2)))) s (List.replicate n z) ((Array.range (n * s)).map (u.cells[· % u.cells.size]!)).toList:=(by have:=w7 (zs:=u.cells) (n:=n) (by omega);rw[k]at this;rw[k,this];exact d);obtain⟨G,m,O,F⟩:=DW U qs.toList (List.replicate n z) es _ y c N R (by
   intro p j;simp only[gx,aT,iQb]at D;exact⟨(D p j).1,by simp only[gx];exact(D p j).2⟩)
  refine⟨rfl,rfl,by simpa using G,e,m,?_,?_,F⟩
  ·have B : ¬16777216<n * s:=(by omega);have a:Instr.fill (λi=>some (i * s,s)) ((Array.range (n * s)).map ((if n * s=0 then #[] else u.cells)[· % (if n * s=0 then #[] else u.cells).size]!)) qs.toList=some m:=by
    rw[<-O];congr 1;by_cases h:n * s=0;·simp[h]
    rw[if_neg h]
   simp only[Instr.buildSlice,iQe,bh (gD Q),iQd,run_sizeOf E,gt_iff_lt];rw[if_neg B];by_cases o:n * s=0;·rw[if_pos o]at a ⊢;simp only[pure_bind];rw[a];simp[newRow]
   rw[if_neg o]at a ⊢;simp only[iQe,zeroValue,typeInfo,x,C,run_program,iQd,iQh,a];simp[newRow]
  rw[<-B4,F.len,G];simp
 cases h
def FH{P:Program}{g:cF}{t:TypeId}{n:Nat}{c:List (Nat × AV)}{b:aQ}(h:mkSlice P g t n c=some b):0<b.esz:=by
 unfold mkSlice at h;split at h;·cases h
 split at h;·obtain⟨a,h⟩:=eK.1 h;obtain⟨_,_,rfl⟩:=bG.1 h;exact a.1
 cases h
def HX(y:gA M ι g w)(E:r.k=0)(I:ι r=none){d:Bool}{t:TypeId}{n:Nat}{l:List (Nat × AV)}{qs:Array (Nat × Value)}{x:AV}{A:List aQ}
 (h:iQ P d g r t n (some l)=some (x,A)) (F:l.length=qs.toList.length)
 (hp : ∀(i:Nat) p q,l[i]?=some p->qs.toList[i]?=some q->p.1=q.1/\VR M ι p.2 q.2) :
 ∃u w',(Instr.buildSlice t n qs).run P w = .ok u w'/\jV M ι g w r x A u w':=by
 simp only[iQ]at h;obtain⟨m,h⟩:=eK.1 h;simp only[bG]at h;obtain⟨b,C,h⟩:=h;obtain⟨J,K,D,e,arr,H,G,B⟩:=Il y C F hp;have j:=NQ m;obtain⟨f,_⟩:=Bm (R:=bX g (l.map (·.2))) y;rw[j]at f;have a:Ek w (w.alloc (.cells arr e)) (.cells arr e (0,0)):=⟨rfl,rfl,rfl,rfl⟩;refine⟨_,_,H,jV.after j y ?_⟩;have z:b=⟨b.esz,b.es,true,false⟩:=by cases b;simp_all
 cases d with| true=>simp at h;obtain⟨rfl,rfl⟩:=h;have:=TN (r:=r) f a B (λk u v=>by simpa using v) (c:=n) (by omega) (cap:=some n) (by intro k o;cases o;rfl);rw[D]at this;exact this| false=>simp at h;obtain⟨rfl,rfl⟩:=h;have:=vk f E I a B (λk u v=>by simpa using v) (n:=n) (c:=n) G (CR.zero _ _) (by omega) (cH _) (cap:=some n) (by intro k o;cases o;rfl);rw[D,<-z]at this;exact this (FH C)
end
end
section
section
variable{P:Program}{M:Mem}{ι:Map}{g:cF}{w:World}{r:Ref}
inductive App (P:Program) (w:World) (t':Option TypeId) (x:Value) (e z:Nat) (n:Nat) (us:List Value):Prop
 | src {d:TypeDesc} (ht:t'.bind P.underlying=some d) (hd : ∀k,d ≠ .int k) (hl : ∀w':World,(Builtin.lenOf x).run P w' = .ok n w')
  (hf : ∀w':World,w'.heap=w.heap->(Builtin.firstCells z n x).run P w' = .ok us.toArray w')
 | zeros {k kx:IntKind} (u:Value) (ht:t'.bind P.underlying=some (.int k)) (hx:x = .int kx n) (hn:n<=bg) (hu : ∀w':World,(zeroValue e).run P w' = .ok u w') (hz:u.cells.size=z)
  (hus:us=(List.replicate n u.cells.toList).flatten)
def Ey{n:Nat}(h:n<=bg):IntKind.i64.wrap (n:Int)=n:=by
 unfold bg at h;exact iQa n ⟨by omega,by omega⟩
def Fk{u:Value}{n:Nat}:(Builtin.zeroCells u.cells n).toList=(List.replicate n u.cells.toList).flatten:=by
 unfold Builtin.zeroCells;rcases Ex u.cells.size with h | h
 ·have:u.cells.toList=[]:=by simpa using LY h
  simp[h,this]
 exact w7 h
def F8{m:Array TypeId}{t:TypeId}{ty:TypeId}(q:m[0]?=some t){e z by':Nat}(n:P.underlying t=some (.slice e))(o:aA P e=some z)(p:oM P e=some by')
 {a:Option Addr} {len c:Nat} (h:len<=c) {x:Value} (A:App P w m[1]? x e z 0 []) :
 (Builtin.append_ m ty #[.slice a len c,x]).run P w = .ok (.slice a len c) w:=by
 simp only[oM,bG]at p;obtain⟨i,H,rfl⟩:=p;cases A with
 | src b hm y v=>
  rename_i d;simp only[ib]at b;obtain⟨t',f,b⟩:=b;have j:=v w rfl;have l:(match d with | .int _=>true | _=>false)=false:=by cases d<;>first | rfl | exact absurd rfl (hm _)
  cases a<;>simp[l,Builtin.append_,q,f,bh n,bh b,run_sizeOf o,y,h,j,storeCells]
 | zeros u b F B G C D=>
  rename_i k kx;subst F;simp only[ib]at b;obtain⟨t',f,b⟩:=b;have E:IntKind.i64.wrap 0=0:=by simpa using Ey B
  cases a<;>simp[Builtin.append_,q,f,bh n,bh b,run_sizeOf o,asInt,asIntOf,E,typeInfo,H,h,storeCells]
def vK{I:Array TypeId}{t:TypeId}{ty:TypeId}(U:I[0]?=some t){e z by':Nat}(N:P.underlying t=some (.slice e))(O:aA P e=some z)(X:oM P e=some by')
 {v:Value} (o : ∀w':World,(zeroValue e).run P w' = .ok v w') (hzs:v.cells.size=z)
 {a:Option Addr} {len c n:Nat} {x:Value} {olds us:List Value} (E : ∀w':World,w'.heap=w.heap->(Builtin.firstCells z len (.slice a len c)).run P w' = .ok olds.toArray w')
 (Z:App P w I[1]? x e z n us) (L:c<len+n) (f:(len+n) * by'<=bg) (C:0<by') :
 ∃cap w',len+n<=cap/\(Builtin.append_ I ty #[.slice a len c,x]).run P w = .ok (.slice (some ⟨w.heap.size,0,none⟩) (len+n) cap) w' /\
  Ek w w' (.cells (olds.toArray++us.toArray++Builtin.zeroCells v.cells (cap - (len+n))) e (0,0)):=by
 simp only[oM,bG]at X;obtain⟨i,V,rfl⟩:=X;have j : ¬(9223372036854775807<(len:Int)+(n:Int)):=by
  have:(len+n) * 1<=(len+n) * i.bytes:=Nat.mul_le_mul_left _ C;unfold bg at f;omega
 have q : ¬(281474976710656<Builtin.nextslicecap (len+n) c * i.bytes):=by
  have:=growslice_fits (need:=len+n) (old:=c) (bytes:=i.bytes) L (by unfold bg at f;exact f);omega
 have p : ¬(len+n<=c):=by omega
 have b:=E w.drew rfl;obtain⟨A,R⟩ : ∃A,A=olds.toArray:=⟨_,rfl⟩;rw[<-R]at b ⊢;refine⟨grownCap w (len+n) c e,w.drew.alloc (.cells (A++us.toArray++Builtin.zeroCells v.cells (grownCap w (len+n) c e - (len+n))) e (0,0)),grownCap_ge _ _ _ _,?_,⟨rfl,rfl,rfl,rfl⟩⟩;cases Z with
 | src l hm hl Y=>
  rename_i d;simp only[ib]at l;obtain⟨t',m,l⟩:=l;have y:=Y w.drew rfl;obtain⟨B,H⟩ : ∃B,B=us.toArray:=⟨_,rfl⟩;rw[<-H]at y ⊢;have Q:(match d with | .int _=>true | _=>false)=false:=by cases d<;>first | rfl | exact absurd rfl (hm _)
  simp[Q,Builtin.append_,U,m,bh N,bh l,run_sizeOf O,hl,p,y,b,j,q,typeInfo,V,Question.forced,o,newRow,grownCap]
 | zeros u l hx hn K S T=>
  rename_i k kx;subst hx;simp only[ib]at l;obtain⟨t',m,l⟩:=l;have W:=Ey hn;have e1:u=v:=by
   have J:=K w;rw[o w]at J;cases J;rfl
  subst e1;have D : ¬((n:Int)<0):=by omega
  have F : ¬(281474976710656<(n:Int) * (i.bytes:Int)):=by
   have J:n * i.bytes<=(len+n) * i.bytes:=ng _ (by omega);unfold bg at f;have h2:((n * i.bytes:Nat):Int)=(n:Int) * (i.bytes:Int):=by simp
   omega
  have G:us.toArray=if n * z=0 then #[] else Builtin.zeroCells u.cells n:=by
   rw[T,<-Fk];by_cases h:n * z=0
   ·rw[if_pos h];have:(Builtin.zeroCells u.cells n).size=0:=by rw[iQP,S,h]
    rw[Array.toArray_toList];exact LY this
   rw[if_neg h]
  rw[G];by_cases h:n * z=0;·simp[Builtin.append_,U,m,bh N,bh l,run_sizeOf O,asInt,asIntOf,W,D,F,typeInfo,V,p,j,q,h,b,Question.forced,o,newRow,grownCap]
  simp[Builtin.append_,U,m,bh N,bh l,run_sizeOf O,asInt,asIntOf,W,D,F,typeInfo,V,p,j,q,h,b,Question.forced,o,newRow,grownCap]
def Ce{C:Array TypeId}{t:TypeId}{ty:TypeId}(K:C[0]?=some t){e z by':Nat}(E:P.underlying t=some (.slice e))(F:aA P e=some z)(N:oM P e=some by')
 {b o len c n:Nat} {x:Value} {us:List Value} (R:App P w C[1]? x e z n us) (q:len+n<=c) (p:(len+n) * by'<=bg)
 {arr:Array Value} {T:TypeId} {fz:Nat × Nat} (A:w.heap[b]?=some (.cells arr T fz)) (U:o+len * z+us.length<=arr.size) (I : ∀j,j<arr.size ->¬(fz.1<=j/\(j<fz.2\/fz.2<fz.1))) (L : ∀u∈us,u.oneCell'=true) :
 (Builtin.append_ C ty #[.slice (some ⟨b,o,none⟩) len c,x]).run P w = .ok (.slice (some ⟨b,o,none⟩) (len+n) c) (bO w b (.cells (cB arr (o+len * z) us) T fz)):=by
 simp only[oM,bG]at N;obtain⟨i,O,rfl⟩:=N;have f:=ny (P:=P) (o+len * z) us 0 arr w A (by simpa using U) I L;rw[xt]at f;cases R with
 | src l hm V Q=>
  rename_i d;simp only[ib]at l;obtain⟨t',m,l⟩:=l;have B:=Q w rfl;have G:(match d with | .int _=>true | _=>false)=false:=by cases d<;>first | rfl | exact absurd rfl (hm _)
  simp[G,Builtin.append_,K,m,bh E,bh l,run_sizeOf F,V,q,B,gM,f]
 | zeros u l W S D H J=>
  rename_i k kx;subst W;simp only[ib]at l;obtain⟨t',m,l⟩:=l;have A:=Ey S;have v : ¬((n:Int)<0):=by omega
  have y : ¬(281474976710656<(n:Int) * (i.bytes:Int)):=by
   have L:n * i.bytes<=(len+n) * i.bytes:=ng _ (by omega);unfold bg at p;have X:((n * i.bytes:Nat):Int)=(n:Int) * (i.bytes:Int):=by simp
   omega
  have a:us=(if n * z=0 then #[] else Builtin.zeroCells u.cells n).toList:=by
   rw[J,<-Fk];by_cases h:n * z=0
   ·rw[if_pos h];have:(Builtin.zeroCells u.cells n).size=0:=by rw[iQP,H,h]
    rw[LY this]
   rw[if_neg h]
  by_cases h:n * z=0;·rw[if_pos h]at a;simp only[Array.toList_empty]at a;rw[a]at f ⊢;simp[Builtin.append_,K,m,bh E,bh l,run_sizeOf F,asInt,asIntOf,A,v,y,typeInfo,O,q,h,gM,f]
  rw[if_neg h]at a;rw[a]at f ⊢;simp[Builtin.append_,K,m,bh E,bh l,run_sizeOf F,asInt,asIntOf,A,v,y,typeInfo,O,q,h,D,gM,f]
end
end
section
section
variable{P:Program}{M:Mem}{ι:Map}{g:cF}{w:World}{r:Ref}
def SR{t:TypeId}{y z x:AV}{l q:Value}(p:VR M ι y l)(m:VR M ι z q){o:List aQ}(h:r8 P t (some y) (some z)=some (x,o)) :
 o=[] /\∃u,(Instr.index t l q).run P w = .ok u w/\VR M ι x u:=by
 simp only[r8,eJ]at h;split at h
 ·rename_i k cs f a;injection a with a
  subst a;obtain⟨F,rfl⟩:=yN m f;split at h
  ·rename_i n e E;split at h;·rename_i s d;obtain⟨c,h⟩:=eK.1 h;simp only[kC,bG]at h;obtain⟨C,j,he⟩:=h;cases he;obtain⟨G,rfl,i⟩:=p.RN;obtain⟨u,hu,B⟩:=Q9 (w:=w) i j;exact⟨rfl,u,by simp[Instr.index,asIntOf,bh (Gg E),c.1,c.2,run_sizeOf d,hu],B⟩
   cases h
  cases h
 ·rename_i k s f d;injection d with d
  subst d;obtain⟨F,rfl⟩:=yN m f;cases p;obtain⟨c,h⟩:=eK.1 h;simp only[kC,bG]at h;obtain⟨C,⟨b,D,rfl⟩,he⟩:=h;cases he;refine⟨rfl,.int .u8 b.toNat,?_,.v rfl⟩;have A:=c.2;simp[Instr.index,asIntOf,bh (uw c.1),A,D]
 cases h
def VB{f:Fn}{a b:List AV}{j m:List Value}(n:mh M ι a j)(l:mh M ι b m){x:AV}{k:List aQ}(h:wU f (some a) (some b)=some (x,k)) :
 k=[]/\VR M ι x (.func f j.toArray m.toArray):=by
 simp only[wU,dG,ya]at h;obtain⟨rfl,rfl⟩:=h;exact⟨rfl,.fn (by simpa using n.1) (by simpa using l.1) (λi c u d e=>n.2 i c u d (by simpa using e)) (λi c u d e=>l.2 i c u d (by simpa using e))⟩
def Vw{tm:List AV}{a:Act}(h:TR M ι tm a){c x y:Operand}{z:AV}{j:List aQ}(d:HU (aC tm) c x y=some (z,j)) :
 j=[] /\∃u,(do pure (if <-asBool (a.eval c) then a.eval x else a.eval y):Sem Value).run P w = .ok u w/\VR M ι z u:=by
 unfold HU at d;split at d;·rename_i e;simp only[ib]at e;obtain⟨k,f,b⟩:=e;have:=BS (aL h f) b;simp only[kC,bG]at d;obtain⟨l,i,he⟩:=d;cases he;exact⟨rfl,_,by simp[this,asBool],aL h i⟩
 ·rename_i e;simp only[ib]at e;obtain⟨k,f,b⟩:=e;have:=BS (aL h f) b;simp only[kC,bG]at d;obtain⟨l,i,he⟩:=d;cases he;exact⟨rfl,_,by simp[this,asBool],aL h i⟩
 cases d
def Yy{m:Array TypeId}{ty:TypeId}{y x:AV}{j:Value}(i:VR M ι y j){n:List aQ}(h:abz P m[0]? y=some (x,n)) :
 n=[] /\∃u,(Builtin.cap_ m ty #[j]).run P w = .ok u w/\VR M ι x u:=by
 unfold abz at h;split at h;·rename_i e b;obtain⟨t,d,b⟩:=ib.1 b;cases h;cases i;exact⟨rfl,goInt 0,by simp[Builtin.cap_,d,bh (gD b)],.v rfl⟩
 ·rename_i e z es k b;obtain⟨t,d,b⟩:=ib.1 b;cases h;cases i with | cC cell q p f hm B C=>
  rename_i a c;have:=f k rfl;subst this;exact⟨rfl,goInt c,by simp[Builtin.cap_,d,bh (gD b)],.v rfl⟩
 ·rename_i e r A len k b;obtain⟨t,d,b⟩:=ib.1 b;cases h;cases i with | bN D F q G p E f o=>
  rename_i l a c;have:=f k rfl;subst this;exact⟨rfl,goInt c,by simp[Builtin.cap_,d,bh (gD b)],.v rfl⟩
 cases h
def Yw{k:Array TypeId}{ty:TypeId}{y x:AV}{m:Value}(d:VR M ι y m){l:List aQ}(h:Jr P k[0]? y=some (x,l)) :
 l=[] /\∃u,(Builtin.len_ k ty #[m]).run P w = .ok u w/\VR M ι x u:=by
 unfold Jr at h;split at h;·cases h
 rename_i t b;split at h
 ·rename_i n e o;injection h with h
  injection h with c f
  subst c;subst f;exact⟨rfl,goInt n,by simp[Builtin.len_,b,bh (Gg o)],.v rfl⟩
 split at h
 ·rename_i j;split at h
  ·injection h with h
   injection h with c f
   subst c;subst f;cases d;exact⟨rfl,goInt _,by simp[Builtin.len_,b,bh (uw j)],.v rfl⟩
  cases h
 obtain⟨j,h⟩:=eK.1 h;obtain⟨e,he⟩:=ik.1 j;have i:=gD he;simp only[bG]at h;obtain⟨n,a,h⟩:=h;injection h with c f
 subst c;subst f;refine⟨rfl,goInt n,?_,.v rfl⟩;unfold og at a;split at a;·injection a with a;subst a;cases d;simp[Builtin.len_,b,bh i]
 ·injection a with a;subst a;cases d;simp[Builtin.len_,b,bh i]
 ·injection a with a;subst a;cases d;simp[Builtin.len_,b,bh i]
 ·injection a with a;subst a;cases d;simp[Builtin.len_,b,bh i]
 cases a
def Kq{x:AV}{u:Value}{b:UInt8}(a:VR M ι x u)(h:byteOf x=some b) : ∃n:Int,u = .int .u8 n/\b=UInt8.ofNat n.toNat:=by
 unfold byteOf at h;split at h
 ·injection h with h
  cases a;exact⟨_,rfl,h.symm⟩
 cases h
def Qk : ∀(a:List Int)(s:ByteArray),a.foldl (λr n=>r.push (UInt8.ofNat n.toNat)) s=⟨s.data++(a.map λn=>UInt8.ofNat n.toNat).toArray⟩:=by
 intro a;induction a with
 | nil=>intro s;simp
 | cons n a b=>intro s;rw[tZ,b];simp[ByteArray.push]
def M5(J:gA M ι g w)(hr:r.k=0)(hq:ι r=none){N L:TypeId}{y x:AV}{u0:Value}(R:VR M ι y u0){bs:List aQ}(h:eE P g r N L (some y)=some (x,bs)) :
 ∃u w',(Go.convert N L u0).run P w = .ok u w'/\jV M ι g w r x bs u w':=by
 unfold eE at h;split at h
 ·rename_i e;injection e with e
  subst e;cases R;obtain⟨p,h⟩:=eK.1 h;simp only[aT]at p;obtain⟨e,D,F⟩:=sk p.1;injection h with h
  injection h with G U
  subst G;subst U;exact⟨.string .empty,w,by rw[iQD w N L e none 0 0 D F (uw p.2)];rfl,jV.same J (.v rfl)⟩
 ·rename_i s e;injection e with e
  subst e;cases R;split at h
  ·rename_i p;simp only[aT]at p;injection h with h
   injection h with G U
   subst G;subst U;exact⟨.string s,w,by simp[Go.convert,bh (uw p.1),bh (uw p.2)],jV.same J (.v rfl)⟩
  split at h
  ·rename_i p;simp only[aT]at p;obtain⟨hrm,h⟩:=eK.1 h;injection h with h
   injection h with G U
   subst G;subst U;obtain⟨e,D,F⟩:=sk p.2;have hrun:=run_bytes_of_string (P:=P) w N L e s (uw p.1) D F;have hcap:=grownCap_ge w s.size 0 e;have hrow:Row M 1 (s.data.toList.map λb=>AV.v (.int .u8 b.toNat)) (s.data.toList.map λb=>Value.int .u8 b.toNat):=by
    refine⟨by simp,?_,?_,?_⟩;·intro e I;simp only[jO]at I;obtain⟨b,_,rfl⟩:=I;rfl
    ·intro x hx;simp only[jO]at hx;obtain⟨b,_,rfl⟩:=hx;rfl
    intro i j e x I hx;simp only[k5,bG]at I;obtain⟨b,hb,rfl⟩:=I;cases j with
    | succ j=>simp[AV.cells]at hx
    | zero=>simp[AV.cells]at hx;subst hx;exact⟨.int .u8 b.toNat,by simp[hb],.v rfl⟩
   have W:(bytesRow s (grownCap w s.size 0 e)).size=grownCap w s.size 0 e:=(by have:s.data.size=s.size:=rfl;simp[bytesRow];omega);have:=vk J hr hq (w':=w.drew.alloc (.cells (bytesRow s (grownCap w s.size 0 e)) e ((bytesRow s (grownCap w s.size 0 e)).size,(bytesRow s (grownCap w s.size 0 e)).size+1)))
    ⟨rfl,rfl,rfl,rfl⟩ hrow (by
     intro k u hu;have E:=(ew.1 hu).1;unfold bytesRow;rw[O4 (by simpa using E)];rw[<-hu];simp) (n:=grownCap w s.size 0 e) (c:=grownCap w s.size 0 e) (by rw[W];simp) ⟨by intro o ho h;simp only at h;omega,λh=>absurd h (by decide)⟩ (by simpa using hcap) (cH _) (cap:=none) (by intro k E;cases E) Nat.one_pos
   simp only[pI,B4]at this;exact⟨_,_,hrun,this⟩
  cases h
 ·rename_i v hne1 hne2 e;injection e with e
  subst e;simp only[kC,bG,ib]at h;obtain⟨z,⟨u,hu,hz⟩,I⟩:=h;cases I;cases R;exact⟨u,w,oO hu w,jV.same J (oQ hz)⟩
 ·rename_i y' hne1 hne2 O e;injection e with e
  subst e;split at h
  ·rename_i p;simp only[aT]at p;obtain⟨e,D,F⟩:=sk p.1;split at h
   ·rename_i z es d;simp only[bG]at h;obtain⟨l,hl,h⟩:=h;injection h with G U
    subst G;subst U;have hz1:z=1\/es=[]:=by
     cases es with| nil=>exact .inr rfl| cons e0 es0=>
      left;obtain⟨b,_,hb⟩:=lT hl 0 e0 rfl;unfold byteOf at hb;split at hb
      ·rename_i n;cases R with
       | cC cell hs hcc' E hm I hh=>simp only[cL,dG,ya]at d;obtain⟨rfl,rfl⟩:=d;have:=I _ (gy ..);simpa [AV.cells] using this.symm
       | bN S hb' hs ha hcc' hn E H=>
        rename_i r1 off1 Lt cap1 l1 a1 c1;simp only[cL]at d;split at d
        ·rename_i b1 K;obtain⟨Q,d⟩:=eK.1 d;injection d with d
         injection d with h3 h4
         have C:=J.at S H K;have hmem:(AV.v (.int .u8 n))∈b1.es:=by
          have:(AV.v (.int .u8 n))∈(b1.es.drop off1).take Lt:=by rw[h4];exact gy ..
          exact Fq (ye this)
         have:=C.cells _ hmem;rw[<-h3,<-this];rfl
        cases d
       | v hv=>exact absurd rfl (O _)
       | _=>simp[cL]at d
      cases hb
    have hlen:=gH hl;obtain⟨a,n,c,rfl,hn,A⟩ : ∃a n c,u0 = .slice (some a) n c/\es.length=n /\∀j,j<n ->∃b:Int,w.cell? (a.add j)=some (.int .u8 b)/\l[j]?=some (UInt8.ofNat b.toNat):=by
     rcases hz1 with rfl | rfl
     ·obtain⟨us,hsrc⟩:=o5 (P:=P) J R (Nat.one_pos) d;cases R with
      | cC cell hs p E hm I hh=>
       rename_i esz es' cap a c;simp only[cL,dG,ya]at d;obtain⟨rfl,rfl⟩:=d;refine⟨a,es'.length,c,rfl,rfl,?_⟩;intro j t;have V:=dy t;obtain⟨b,K,B⟩:=lT hl j _ V;have hcl:=I _ (je t);have hbv:es'[j].cells=[es'[j]]:=by
        unfold byteOf at B;split at B;·rename_i Y;rw[Y];rfl
        cases B
       have hvr:=hh j 0 _ _ V (show es'[j].cells[0]?=some es'[j] by rw[hbv];rfl);obtain⟨nb,Z,rfl⟩:=Kq hvr B;refine⟨nb,?_,K⟩;have:=J.mem _ _ _ (hm j 0 t (by omega)).1;rw[kF (hs.resolve_right (by intro e;subst e;simp at t)),gM];rw[Z]at this;simpa using this
      | bN S hb' hs ha p hn E H=>
       rename_i r1 m len cap l1 a c;simp only[cL]at d;split at d
       ·rename_i b1 K;obtain⟨Q,d⟩:=eK.1 d;injection d with d
        injection d with h3 h4
        subst h4;have C:=J.at S H K;obtain⟨g1,g2⟩:=getElems b1.es m len Q.2;refine⟨a,len,c,rfl,g1,?_⟩;intro j t;have V:((b1.es.drop m).take len)[j]?=some b1.es[m+j]:=by rw[g2 j t];exact dy (by omega)
        obtain⟨b,hb1',B⟩:=lT hl j _ V;have hcl:=C.cells _ (je (by omega:m+j<b1.es.length));have hbv:b1.es[m+j].cells=[b1.es[m+j]]:=by
         unfold byteOf at B;split at B;·rename_i Y;rw[Y];rfl
         cases B
        obtain⟨u,hu1,hu2,hu3⟩:=C.cell (m+j) (dy (by omega)) 0 b1.es[m+j] (by rw[hbv];rfl);obtain⟨nb,Z,rfl⟩:=Kq hu3 B;refine⟨nb,?_,hb1'⟩;have hoff:a.off=m * l1.esz:=by
         rcases ha with h | h
         ·omega
         exact h
        rw[kF hs,gM,hb',hoff,C.esz,h3];rw[h3,Z]at hu1;simp only[Nat.mul_one,xt]at hu1 ⊢;exact hu1
       cases d
      | v hv=>exact absurd rfl (O _)
      | _=>simp[cL]at d
     cases R with
     | cC cell hs p E hm I hh=>rename_i esz es' cap a c;simp only[cL,dG,ya]at d;obtain⟨rfl,rfl⟩:=d;exact⟨a,0,c,rfl,rfl,λj t=>by omega⟩
     | bN S hb' hs ha p hn E H=>
      rename_i r1 m len cap l1 a c;simp only[cL]at d;split at d
      ·obtain⟨Q,d⟩:=eK.1 d;injection d with d
       injection d with h3 h4
       have:len=0:=(by have:=(getElems _ m len Q.2).1;rw[h4]at this;simpa using this.symm);exact⟨a,len,c,rfl,by simp[this],λj t=>by omega⟩
      cases d
     | v hv=>exact absurd rfl (O _)
     | _=>simp[cL]at d
    refine⟨.string ⟨l.toArray⟩,w,?_,jV.same J (.v rfl)⟩;rw[iQD w N L e (some a) n c D F (uw p.2)];let f:Nat->Int:=λj=>if h:j<n then (A j h).choose else 0
    have hf1 : ∀j,j<n->w.cell? (a.add j)=some (.int .u8 (f j)):=λj t=>by simp only[f,dif_pos t];exact(A j t).choose_spec.1
    have hf2 : ∀j,j<n->l[j]?=some (UInt8.ofNat (f j).toNat):=λj t=>by simp only[f,dif_pos t];exact(A j t).choose_spec.2
    have hload:=run_loadCells (P:=P) w a n (λj => .int .u8 (f j)) (λj t=>hf1 j t);have hns:(loadCells a n).run P w = .ok (((List.range n).map f).map (Value.int .u8)).toArray w:=by rw[hload];simp
    rw[run_bytesToString w a n c _ hns,Qk];have:((List.range n).map f).map (λn=>UInt8.ofNat n.toNat)=l:=by
     apply KA;intro j;rcases eC j n with t | t
     ·rw[hf2 j t];simp[t]
     rw[wJ (by simpa using t),wJ (by omega)]
    rw[this];have X:ByteArray.empty.data = #[]:=rfl;rw[X];simp
   cases h
  replace h:=eK.1 h;obtain⟨p,h⟩:=h;simp only[aT,iQl]at p;obtain⟨X,p⟩:=p;subst X;obtain⟨e,D,F⟩:=sk p;cases y with
  | bN r' m len cap=>
   obtain⟨k,E,hk1,h⟩ : ∃k,g r'=some k/\k.esz=1/\some (AV.bN r' m len cap,([]:List aQ))=some (x,bs):=by
    cases E:g r' with| none=>simp only[E]at h;cases h| some k=>simp only[E]at h;obtain⟨G,h⟩:=eK.1 h;exact⟨k,rfl,G,h⟩
   injection h with h;injection h with G U;subst G;subst U
   have hy0:=R;cases R with | bN hrl hbb hsp ha Q hn hkk H=>
   rename_i l a c;have C:=J.at hrl H E;obtain⟨arr,T,fz,hh,hsz,hfz,hcells⟩:=C.heap;have hlt:=C.lt;have hfr:w.freeze ⟨a.block,arr.size,none⟩ 1=bO w l.b (.cells arr T (if fz.1 == fz.2 then (arr.size,arr.size+1) else (min fz.1 arr.size,max fz.2 (arr.size+1)))):=by
    unfold World.freeze bO;rw[if_neg (by decide)];congr 1;apply Fo;intro i;rw[GW,hbb];by_cases hi:l.b=i;·subst hi;rw[if_pos rfl,hh,GB hlt];rfl
    rw[if_neg hi,B5 hi]
   have hfz' : ∀o,o<arr.size ->¬((if fz.1 == fz.2 then (arr.size,arr.size+1) else (min fz.1 arr.size,max fz.2 (arr.size+1)):Nat × Nat).1<=o/\(o<(if fz.1 == fz.2 then (arr.size,arr.size+1) else (min fz.1 arr.size,max fz.2 (arr.size+1)):Nat × Nat).2\/(if fz.1 == fz.2 then (arr.size,arr.size+1) else (min fz.1 arr.size,max fz.2 (arr.size+1)):Nat × Nat).2<(if fz.1 == fz.2 then (arr.size,arr.size+1) else (min fz.1 arr.size,max fz.2 (arr.size+1)):Nat × Nat).1)):=by
    intro o ho;split;·simp only;omega
    rename_i hne;simp only[iQl]at hne;have G:arr.size<=fz.1:=by
     rcases eC fz.1 arr.size with h | h
     ·exact absurd ⟨cH _,by omega⟩ (hfz.1 fz.1 h)
     exact h
    simp only;omega
   obtain⟨h3,h4⟩:=J.mark E hrl hh hfr ⟨hfz',λG=>by omega⟩;refine⟨.slice (some a) len c,_,?_,M,ι,hy0,by rw[nP];exact h3,by rw[nP];exact h4,λq hq _=>hq⟩;have hsh:w.shape? a.block=some (T,arr.size):=(by unfold World.shape?;rw[hbb,hh]);simp[Go.convert,bh D,bh F,markStringish,hsh]
  | _=>cases h
 rename_i e;cases e
def Vy(hS:gA M ι g w)(hr:r.k=0)(hq:ι r=none){t:TypeId}{y z x:AV}{U Y:Value}(hy:VR M ι y U)(hz:VR M ι z Y){W:List aQ}(h:FE P r t (some y) (some z)=some (x,W)) :
 ∃u w',(Instr.makeSlice t U Y).run P w = .ok u w'/\jV M ι g w r x W u w':=by
 unfold FE at h;simp only[eJ]at h;split at h
 ·rename_i e l c he hl hc;obtain⟨kl,rfl⟩:=yN hy hl;obtain⟨kc,rfl⟩:=yN hz hc;split at h
  ·rename_i zv s b T R hb;obtain⟨B,h⟩:=eK.1 h;obtain⟨Z,c2,c3,c4,c5,X,V⟩:=B;injection h with h
   injection h with h1 h2
   subst h1;subst h2;obtain⟨it,u,j,Q,hu⟩:=tE T;obtain⟨i',F,hsz⟩:=vH R;rw[j]at F;cases F;simp only[oM,j,Option.map_some,dG]at hb;have A:=jo (M:=M) (ι:=dq) hu;have C:u.cells.size=s:=by have:=A.cells.1;simp at this;omega
   obtain⟨m,rfl⟩:=GY Z;obtain⟨a,rfl⟩:=GY (Int.le_trans Z c2);have D:IntKind.i64.wrap (m:Int)=m:=iQa _ ⟨by omega,by omega⟩;have L:IntKind.i64.wrap (a:Int)=a:=iQa _ ⟨by omega,by omega⟩;have I : ¬((a:Int)<0):=by omega
   have o : ¬(281474976710656<(it.bytes:Int) * (a:Int)):=(by rw[hb,Int.mul_comm];have e1:((bg:Nat):Int)=140737488355328:=rfl;omega);have G : ¬((m:Int)<0):=(by omega);have K : ¬((a:Int)<(m:Int)):=(by omega);have d:=w7 (zs:=u.cells) (n:=a) (by omega);rw[C]at d;have i:((Array.range (a * s)).map ((if a * s=0 then #[] else u.cells)[· % (if a * s=0 then #[] else u.cells).size]!)).toList=(List.replicate a u.cells.toList).flatten:=by
    by_cases J:a * s=0
    ·have O:a=0:=by
      rcases Nat.mul_eq_zero.1 J with h | h
      ·exact h
      omega
     simp[O]
    rw[if_neg J,C];exact d
   obtain⟨arr,f⟩ : ∃arr,arr=(Array.range (a * s)).map ((if a * s=0 then #[] else u.cells)[· % (if a * s=0 then #[] else u.cells).size]!):=⟨_,rfl⟩;rw[<-f]at i;have q:=Row.replicate A X V a;have p:arr.size=a * s:=by rw[<-B4,i];have:=q.len;simpa using this
   have E:(Instr.makeSlice t (.int kl m) (.int kc a)).run P w = .ok (.slice (some ⟨w.heap.size,0,none⟩) m a) (w.alloc (.cells arr e)):=by
    subst f;by_cases J:a * s=0;·simp[Instr.makeSlice,bh (gD he),asInt,asIntOf,typeInfo,j,D,L,I,o,G,K,run_sizeOf R,J,newRow]
    simp[Instr.makeSlice,bh (gD he),asInt,asIntOf,typeInfo,j,D,L,I,o,G,K,run_sizeOf R,J,newRow,zeroValue,Q]
   refine⟨_,_,E,?_⟩;have H:=Row.replicate A X V m;have:=vk hS hr hq (w':=w.alloc (.cells arr e)) ⟨rfl,rfl,rfl,rfl⟩ H (by
    intro k v N;rw[<-Gz,i];have S:(List.replicate a u.cells.toList)=List.replicate m u.cells.toList++List.replicate (a - m) u.cells.toList:=by rw[List.replicate_append_replicate];congr 1;omega
    rw[S,List.flatten_append,kA (ew.1 N).1];exact N) (n:=a) (c:=a) p (CR.zero _ _) (by simp;omega) (cH _) (cap:=none) (by intro k N;cases N) c5
   simpa using this
  cases h
 cases h
end
end
section
section
variable{P:Program}{M:Mem}{ι:Map}{g:cF}{w:World}{r:Ref}
def Ik(T:gA M ι g w){t':Option TypeId}{e z:Nat}(hz:aA P e=some z)(I:0<z){x:AV}{R:Value}(N:VR M ι x R){new:List AV}
 (O : ¬((t'.bind P.underlying).isNone=true\/(t'.map (isInt P)).getD false≠isNum x)) (h:oe P g e x=some (z,new)) : ∃us,Row M z new us/\App P w t' R e z new.length us:=by
 have F : ∃d,t'.bind P.underlying=some d/\(isNum x=false ->∀k,d ≠ .int k)/\(isNum x=true ->∃k,d = .int k):=by
  have c : ¬(t'.bind P.underlying).isNone=true:=λh=>O (.inl h);have b:(t'.map (isInt P)).getD false=isNum x:=wI.1 λh=>O (.inr h);cases t' with
  | none=>simp at c
  | some t=>
   simp only[eJ]at c ⊢;cases hu:P.underlying t with
   | none=>simp[hu]at c
   | some d=>
    simp only[Option.map_some,cI]at b;refine⟨d,rfl,?_,?_⟩;·intro B k y;subst y;rw[B]at b;simp[isInt,hu]at b
    intro B;rw[B]at b;obtain⟨k,y⟩:=Wu b;rw[hu]at y;exact⟨k,by simpa using y⟩
 obtain⟨d,G,j,H⟩:=F;unfold oe at h;split at h
 ·simp only[bG]at h;obtain⟨Q,J,h⟩:=h;injection h with c b
  subst b;cases N;exact⟨[],Row.nil,.src G (j rfl) (λw'=>rfl) (λw' _=>rfl)⟩
 ·rename_i k n;split at h
  ·rename_i wv Q L J;obtain⟨f,h⟩:=eK.1 h;injection h with h
   injection h with c b
   subst c;subst b;obtain⟨W,U,V,Z⟩:=f;obtain⟨m,rfl⟩:=GY W;obtain⟨k',rfl⟩:=H rfl;cases N;obtain⟨u,q,E⟩:=yD L w;have C : ∀w':World,(zeroValue e).run P w' = .ok u w':=by
    intro w';obtain⟨u',c,b⟩:=yD L w';obtain⟨it,v,p,o,A⟩:=tE L;have X:(zeroValue e).run P w = .ok v w:=by simp[zeroValue,typeInfo,p,o]
    have Y:(zeroValue e).run P w' = .ok v w':=(by simp[zeroValue,typeInfo,p,o]);rw[X]at q;cases q;exact Y
   have A:=jo (M:=M) (ι:=dq) E;have K:u.cells.size=Q:=by have:=A.cells.1;simp at this;omega
   refine⟨_,Row.replicate A V Z m,?_⟩;rw[ON];exact .zeros (kx:=k) u G (by simp) (by simpa using U) C K (by simp)
  cases h
 rename_i S i;have l:isNum x=false:=by
  unfold isNum;split;·exact absurd rfl (i _ _)
  rfl
 obtain⟨us,a⟩:=o5 (P:=P) T N I h;refine⟨us,a.row,.src G (j l) a.lenOf λw' D=>?_⟩;have:=a.first new.length w' (cH _) D;rwa [gj (by rw[a.len];exact cH _)]at this
def Cw{e z:Nat}(h:aA P e=some z){y:AV}(d:eX P e=some y)(f:y.cells.length=z) : ∃u,(∀w':World,(zeroValue e).run P w' = .ok u w')/\u.cells.size=z:=by
 obtain⟨it,v,b,a,c⟩:=tE d;refine⟨v,λw'=>by simp[zeroValue,typeInfo,b,a],?_⟩;have:=(jo (M:=λ_ _=>none) (ι:=dq) c).cells.1;simp at this;omega
def Bk{olds us:List Value}{a:Value}{z n1 n2 cap:Nat}(d:olds.length=n1 * z)(f:us.length=n2 * z)(e:a.cells.size=z)(h:n1+n2<=cap) :
 (olds.toArray++us.toArray++Builtin.zeroCells a.cells (cap - (n1+n2))).size=cap * z /\
 ∀(k:Nat) u,(olds++us)[k]?=some u->(olds.toArray++us.toArray++Builtin.zeroCells a.cells (cap - (n1+n2)))[k]?=some u:=by
 constructor;·simp only[Array.size_append,List.size_toArray,iQP,e,d,f,<-mw];congr 1;omega
 intro k u c;have b:=(ew.1 c).1;rw[O4 (by simpa using b)];simpa using c
def BL{a:Option Addr}{len c z:Nat}{es:List AV}{us:List Value}{u:Value}(e:u = .slice a len c)(d:es.length=len)(h:Src P M w u z es us) :
 ∀w':World,w'.heap=w.heap->(Builtin.firstCells z len (.slice a len c)).run P w' = .ok us.toArray w':=by
 intro w' b;have:=h.first es.length w' (cH _) b;rw[gj (by rw[h.len];exact cH _),e,d]at this;exact this
def HY(H:gA M ι g w)(hr:r.k=0)(hq:ι r=none){R:Array TypeId}{ty:TypeId}{s x y:AV}{us ux:Value}(V:VR M ι s us)(hx:VR M ι x ux){bs:List aQ}
 (h:fu P g r R[0]? R[1]? s x=some (y,bs)) : ∃u w',(Builtin.append_ R ty #[us,ux]).run P w = .ok u w'/\jV M ι g w r y bs u w':=by
 unfold fu at h;split at h;·cases h
 rename_i e he;simp only[ib]at he;obtain⟨t,ht,he⟩:=he;have hu:=gD he;split at h;·cases h
 rename_i hc;split at h
 ·rename_i z by' zz I new hz hb hzz Y;split at h;·cases h
  rename_i i;have T:I=z:=wI.1 λh=>i (.inl h);have C:0<z:=AO λh=>i (.inr (.inl h));have hb0:0<by':=AO λh=>i (.inr (.inr (.inl h)));have U:zz.cells.length=z:=wI.1 λh=>i (.inr (.inr (.inr h)));have hez':=T;subst T;obtain⟨us',q,hA⟩:=Ik (w:=w) H hz C hx hc Y;have f:new=[] ->∀a len c,len<=c->us = .slice a len c->(Builtin.append_ R ty #[us,ux]).run P w = .ok us w:=by
   intro E a len c hlc L;subst E;have:us'=[]:=C4 (by rw[q.len];simp);subst this;rw[L];exact F8 ht hu hz hb hlc hA
  have fresh : ∀ {a:Option Addr} {len c:Nat} {es:List AV} {us0:List Value},us = .slice a len c->es.length=len->Row M I es us0 ->
   (∀w':World,w'.heap=w.heap->(Builtin.firstCells I len (.slice a len c)).run P w' = .ok us0.toArray w')->c<len+new.length->(len+new.length) * by'<=bg ->
   ∃u w',(Builtin.append_ R ty #[us,ux]).run P w = .ok u w'/\jV M ι g w r (.bN r 0 (len+new.length) none) [⟨I,es++new,true,false⟩] u w':=by
   intro a len c es us0 L D B W G d;obtain⟨zv,hzv,S⟩:=Cw hz hzz U;obtain⟨cap,w',X,Q,J⟩:=vK (P:=P) (w:=w) (ty:=ty) ht hu hz hb hzv S W hA G d hb0;obtain⟨o,p⟩:=Bk (olds:=us0) (us:=us') (n1:=len) (n2:=new.length) (cap:=cap) (by rw[B.len,D]) q.len S X;refine⟨_,w',by rw[L];exact Q,?_⟩;have:=vk H hr hq J (B.append q) p (n:=cap) (c:=cap) o (CR.zero _ _) (by simp;omega) (cH _) (cap:=none) (by intro k O;cases O) C;simp only[mI,D]at this;exact this
  split at h
  ·cases V;split at h
   ·rename_i E;injection h with h;injection h with o p;subst o;subst p
    exact⟨_,w,f E none 0 0 (cH _) rfl,jV.same H (.v rfl)⟩
   rename_i E;obtain⟨d,h⟩:=eK.1 h;injection h with h;injection h with o p;subst o;subst p
   have hpos:0<new.length:=Gw.2 E;have:=fresh (a:=none) (len:=0) (c:=0) (es:=[]) (us0:=[]) rfl rfl Row.nil (λw' _=>rfl) (by omega) (by simpa using d);simpa using this
  ·rename_i n es cap;split at h;·cases h
   rename_i N;have N:n=I:=wI.1 N;subst N;have A:=V;cases V with | cC cell hsp K O hm hes hh=>
   rename_i a c;split at h
   ·rename_i E;injection h with h;injection h with o p;subst o;subst p
    exact⟨_,w,f E _ _ _ K rfl,jV.same H A⟩
   cases cap with
   | some k=>
    obtain⟨⟨G,d⟩,h⟩:=eK.1 h;injection h with h;injection h with o p;subst o;subst p
    have hck:=O k rfl;obtain⟨us0,j⟩:=o5 (P:=P) (g:=g) (z:=n) (es:=es) H A C rfl;exact fresh rfl rfl j.row (BL rfl rfl j) (by omega) d
   | none=>cases h
  ·rename_i r' F len cap;split at h
   ·rename_i b hb';split at h;·cases h
    rename_i m;have hbz:b.esz=I:=wI.1 λh=>m (.inl h);have Z:b.arr=true:=by
     cases hh:b.arr with| true=>rfl| false=>exact absurd (.inr hh) m
    have A:=V;cases V with | bN hrl hbb hsp ha K E O U=>
    rename_i l a c;split at h
    ·rename_i hn';injection h with h;injection h with o p;subst o;subst p
     exact⟨_,w,f hn' _ _ _ K rfl,jV.same H A⟩
    cases cap with
    | some k=>
     obtain⟨⟨hle,G,d⟩,h⟩:=eK.1 h;injection h with h;injection h with o p;subst o;subst p
     have hck:=O k rfl;have D:cL g (.bN r' F len (some k))=some (I,(b.es.drop F).take len):=(by simp only[cL,hb',Z,hle,and_self,if_true,hbz]);obtain⟨us0,j⟩:=o5 (P:=P) H A C D;have hl:=(getElems b.es F len hle).1;exact fresh rfl hl j.row (BL rfl hl j) (by omega) d
    | none=>cases h
   cases h
  cases h
 cases h
end
end
section
def aa.get_put(H:aa)(r q:Ref)(b:Option aQ):(H.put r b).get q=if q=r then b else H.get q:=by
 induction H with
 | nil=>
  simp only[aa.put,aa.get];by_cases h:q=r;·rw[if_pos h.symm,if_pos h]
  rw[if_neg (tx h),if_neg h]
 | cons p H e=>
  obtain⟨r',b'⟩:=p;simp only[aa.put];by_cases d:r'=r
  ·rw[if_pos d];simp only[aa.get];by_cases c:q=r;·rw[if_pos c.symm,if_pos c]
   rw[if_neg (tx c),if_neg c,if_neg (by rw[d];exact tx c)]
  rw[if_neg d];simp only[aa.get];by_cases a:r'=q;·rw[if_pos a,if_neg (by rw[<-a];exact d),if_pos a]
  rw[if_neg a,e,if_neg a]
def aa.jJ(H:aa)(r:Ref)(b:Option aQ)(h:(H.get r).isSome=true)(d t:Nat):(H.put r b).gen d t=H.gen d t:=by
 induction H with| nil=>simp[aa.get]at h| cons p H c=>
  obtain⟨r',b'⟩:=p;simp only[aa.put];by_cases a:r'=r;·rw[if_pos a,a];rfl
  rw[if_neg a];simp only[aa.gen];simp only[aa.get,if_neg a]at h;rw[c h]
def aa.cX(R:List Ref) : ∀(H:aa),(bV H R).get=uK H.get R:=by
 induction R with| nil=>intro H;funext q;simp[bV,uK]| cons r R e=>
  intro H;funext q;simp only[bV];split
  ·rename_i b d;rw[e];unfold uK;simp only[eD,aa.get_put];by_cases a:q=r;·subst a;simp[d]
   simp only[if_neg a];by_cases c:q∈R;·simp[c]
   simp[c,a]
  rename_i d;rw[e];unfold uK;simp only[eD];by_cases a:q=r;·subst a;simp[d]
  by_cases c:q∈R;·simp[c]
  simp[c,a]
def aa.ij(R:List Ref) : ∀(H:aa)(d t:Nat),(bV H R).gen d t=H.gen d t:=by
 induction R with| nil=>intro H d t;rfl| cons r R a=>
  intro H d t;simp only[bV];split;·rename_i b c;rw[a,aa.jJ H r _ (by rw[c];rfl)]
  exact a H d t
def aa.BP(r:Ref) : ∀(c:List aQ)(k:Nat)(H:aa)(q:Ref),(keyed r k c H).get q=if q.d=r.d/\q.t=r.t/\q.g=r.g/\k<=q.k/\q.k<k+c.length then c[q.k - k]? else H.get q:=by
 intro c;induction c with
 | nil=>intro k H q;rw[if_neg (by intro h;simp only[CZ]at h;omega)];rfl
 | cons b c i=>
  intro k H q;simp only[keyed,i,aa.get,qO];by_cases a:q.d=r.d/\q.t=r.t/\q.g=r.g
  ·by_cases e:q.k=k;·rw[if_neg (by omega),if_pos (by cases q;cases r;simp_all),if_pos ⟨a.1,a.2.1,a.2.2,by omega,by omega⟩];simp[e]
   by_cases f:k+1<=q.k/\q.k<k+1+c.length;·rw[if_pos ⟨a.1,a.2.1,a.2.2,f⟩,if_pos ⟨a.1,a.2.1,a.2.2,by omega,by omega⟩];rw[show q.k - k=(q.k - (k+1))+1 by omega];simp
   rw[if_neg (by omega),if_neg (by intro h;apply e;rw[<-h]),if_neg (by omega)]
  rw[if_neg (by intro h;exact a ⟨h.1,h.2.1,h.2.2.1⟩),if_neg (by intro h;apply a;rw[<-h];exact⟨rfl,rfl,rfl⟩),if_neg (by intro h;exact a ⟨h.1,h.2.1,h.2.2.1⟩)]
def aa.nF(r:Ref)(a:List aQ)(H:aa):(keyed r 0 a H).get=tN H.get r a:=by
 funext q;rw[aa.BP];unfold tN;simp
def aa.mS(r:Ref) : ∀(c:List aQ)(k:Nat)(H:aa)(d t:Nat),(keyed r k c H).gen d t=if d=r.d/\t=r.t/\c≠[] then r.g+1 else H.gen d t:=by
 intro c;induction c with
 | nil=>intro k H d t;simp[keyed]
 | cons b c i=>
  intro k H d t;simp only[keyed,i,aa.gen];by_cases h:d=r.d/\t=r.t
  ·obtain⟨rfl,rfl⟩:=h;by_cases e:c=[];·simp[e]
   simp[e]
  have f : ¬(r.d=d/\r.t=t):=λa=>h ⟨a.1.symm,a.2.symm⟩;rw[if_neg (by intro a;exact h ⟨a.1,a.2.1⟩),if_neg f,if_neg (by intro a;exact h ⟨a.1,a.2.1⟩)]
def tT(ι:Map)(H:aa):Prop :=∀q l,ι q=some l->q.g<H.gen q.d q.t
def tT.fresh{ι:Map}{H:aa}(h:tT ι H)(d t k:Nat):ι ⟨d,t,H.gen d t,k⟩=none:=by
 cases a:ι ⟨d,t,H.gen d t,k⟩ with| none=>rfl| some l=>exact absurd (h _ l a) (AH _)
section
variable{P:Program}{M:Mem}{ι:Map}{g:cF}{w:World}{r:Ref}
def o7(M:Mem)(ι:Map)(H:aa)(w:World)(x:AV)(H':aa)(u:Value)(w':World):Prop:=
 ∃M' a,VR M' a x u/\gA M' a H'.get w'/\uN M ι H.get w M' a H'.get w'/\tT a H'
def jV.toW{H:aa}{x:AV}{f:List aQ}{u:Value}{w':World}(n:tT ι H){d t:Nat}(h:jV M ι H.get w ⟨d,t,H.gen d t,0⟩ x f u w'):o7 M ι H w x (keyed ⟨d,t,H.gen d t,0⟩ 0 f H) u w':=by
 obtain⟨M',b,o,z,p,v⟩:=h;refine⟨M',b,o,by rw[aa.nF];exact z,by rw[aa.nF];exact p,?_⟩;intro q l j;rw[aa.mS];cases m:ι q with
 | some y=>
  have:=n q y m;split;·rename_i i;rw[i.1,i.2.1]at this;exact Cz this
  exact this
 | none=>
  by_cases a : ∃k,k<f.length/\q = { (⟨d,t,H.gen d t,0⟩:Ref)with k:=k};·obtain⟨k,a,rfl⟩:=a;rw[if_pos ⟨rfl,rfl,by intro e;rw[e]at a;simp at a⟩];exact rS _
  rw[v q m (λk c e=>a ⟨k,c,e⟩)]at j;cases j
def Nc{cs new:List AV}{j:Nat}(h:j+new.length<=cs.length)(k:Nat):(patch cs j new)[k]?=if j<=k/\k<j+new.length then new[k - j]? else cs[k]?:=by
 unfold patch;have b:(cs.take j).length=j:=by simp;omega
 rcases eC k j with a | a
 ·rw[AM,kA (by omega),AN,if_pos a,if_neg (by omega)]
 rcases eC k (j+new.length)with c | c
 ·rw[AM,jP (by omega),kA (by omega),if_pos ⟨a,c⟩,b]
 rw[jP (by simp;omega),Fp,if_neg (by omega)];simp only[mI,b];congr 1;omega
def S6{x:AV}(h:x.one=true):x.cells=[x]:=by
 cases x<;>first | rfl | (simp[AV.one]at h)
def KK{e c:AV}{j:Nat}{new:List AV}(h:tz e j new=some c)(i:new.all AV.one=true):j+new.length<=e.cells.length/\c.cells=patch e.cells j new:=by
 have a : ∀x,(∀cs,e ≠ .agg cs)->j=0->new=[x]->c=x->j+new.length<=e.cells.length/\c.cells=patch e.cells j new:=by
  intro x b k l f;have d:e.cells=[e]:=by cases e<;>first | rfl | exact absurd rfl (b _)
  subst k;subst l;subst f;simp only[vm,iQ0,AI]at i;rw[d,S6 i];exact⟨by simp,by simp[patch]⟩
 unfold tz at h;split at h
 ·obtain⟨d,h⟩:=eK.1 h;injection h with h
  subst h;exact⟨d,rfl⟩
 rename_i b;split at h
 ·injection h with h
  exact a _ (λcs f=>b cs f) rfl rfl h.symm
 cases h
def GZ(S:gA M ι g w){k:aQ}{l:Loc}{i j:Nat}{new es':List AV}(R:g r=some k)(U:ι r=some l)(A:0<l.esz)(K:k.gJ=false)(E:fP k.es i j new=some es')(J:new.all AV.one=true)
 {us:List Value} (y:mh M (k.map ι) new us) :
 ∃arr T fz,w.heap[l.b]?=some (.cells arr T fz)/\i * k.esz+j+us.length<=arr.size/\(∀o,o<arr.size ->¬(fz.1<=o/\(o<fz.2\/fz.2<fz.1)))/\(∀u∈us,u.oneCell'=true) /\
  gA M ι (ma g r { k with es:=es'}) (bO w l.b (.cells (cB arr (i * k.esz+j) us) T fz))/\uN M ι g w M ι (ma g r { k with es:=es'}) (bO w l.b (.cells (cB arr (i * k.esz+j) us) T fz)):=by
 have z:=S.at U A R;obtain⟨arr,T,fz,Z,C,D,Q⟩:=z.heap;unfold fP at E;split at E;·cases E
 rename_i e N;simp only[bG]at E;obtain⟨e',H,rfl⟩:=E;obtain⟨hle,d⟩:=KK H J;have hi:i<k.es.length:=(ew.1 N).1;have O:=z.cells e (dJ N);have W:=y.1;have a:i * k.esz+j+us.length<=arr.size:=by
  have Y:(i+1) * k.esz<=l.n * k.esz:=ng _ (by have:=z.len;omega);rw[mw]at Y;rw[C];omega
 have f : ∀u∈us,u.oneCell'=true:=by
  intro u hu;obtain⟨m,hm,L⟩:=qP hu;have B:m<new.length:=by omega
  have:=y.2 m _ u (dy B) (by rw[<-L];exact dy hm);exact this.one (by simp only[gx]at J;exact J _ (je B))
 obtain⟨X,h4⟩:=S.write (k' := { k with es:=k.es.set i e'}) R U A (arr:=cB arr (i * k.esz+j) us) (T:=T) (fz:=fz) rfl rfl rfl (by rw[jB a];exact C)
  (by rw[jB a];exact D) (by simp;exact z.len)
  (by
   intro G I;rcases O2 I with h | h
   ·exact z.cells G h
   rw[h,d,<-O];simp[patch];omega)
  (by
   intro o x p;have:=(z.frozen o x p).1;rw[K]at this;cases this)
  (by
   intro F t G x c p;rw[iR a];by_cases v:i=F
   ·subst v;rw[GA hi]at c;injection c with c
    subst c;rw[d,Nc hle]at p;split at p
    ·rename_i hr;rw[if_pos (by omega),show i * k.esz+t - (i * k.esz+j)=t - j by omega];have q:t - j<us.length:=by omega
     exact⟨us[t - j],dy q,f _ (je q),y.2 _ _ _ p (dy q)⟩
    rename_i hr;rw[if_neg (by omega)];exact Q i t e x N p
   rw[GS v]at c;have V:t<k.esz:=(by rw[<-z.cells G (dJ c)];exact(ew.1 p).1);rw[if_neg];·exact Q F t G x c p
   rcases OQ v with h | h
   ·have:(i+1) * k.esz<=F * k.esz:=ng _ h;rw[mw]at this;omega
   have:(F+1) * k.esz<=i * k.esz:=ng _ h;rw[mw]at this;omega)
 exact⟨arr,T,fz,Z,a,D.1,f,X,h4⟩
def A5{t:TypeId}{n:Nat}(f:aA P t=some n){b o:Nat}{u:Value}(h:u.cells.size=n){arr:Array Value}{T:TypeId}{fz:Nat × Nat}(e:w.heap[b]?=some (.cells arr T fz))
 (a:o+u.cells.toList.length<=arr.size) (c : ∀o,o<arr.size ->¬(fz.1<=o/\(o<fz.2\/fz.2<fz.1))) (d : ∀x∈u.cells.toList,x.oneCell'=true) :
 (Instr.storeAt t (.pointer (some ⟨b,o,none⟩)) u).run P w = .ok () (bO w b (.cells (cB arr o u.cells.toList) T fz)):=by
 have:=ny (P:=P) o u.cells.toList 0 arr w e (by simpa using a) c d;simp only[xt]at this;simp[Instr.storeAt,Instr.sureAddr,storeVar,run_sizeOf f,h,this]
def ue(H:aa)(r:Ref)(k:aQ):(H.put r (some k)).get=ma H.get r k:=by
 funext q;rw[aa.get_put];rfl
def RS{H:aa}(A:gA M ι H.get w)(hD:tT ι H){t:TypeId}{a x y:AV}{ua d:Value}(ha:VR M ι a ua)(hx:VR M ι x d){H':aa}(h:nx P H t (some a) (some x)=some (y,H')) :
 ∃w',(Instr.storeAt t ua d).run P w = .ok () w'/\o7 M ι H w y H' undef w':=by
 unfold nx at h;split at h
 ·rename_i r' i j x' n S U hn;injection S with S;injection U with U
  subst S;subst U;cases ha with | ptr O o=>
  rename_i l;split at h
  ·rename_i b B;obtain⟨⟨hxn,N,p⟩,h⟩:=eK.1 h;obtain⟨l',z,u⟩:=A.live r' b B;rw[O]at z;cases z;have f:=hx.cells;have k:d.cells.size=n:=by have:=f.1;simp at this;omega
   split at h
   ·rename_i c;split at h
    ·rename_i y' C;split at h;·cases h
     rename_i K;obtain⟨V,h⟩:=eK.1 h;simp only[bG]at h;obtain⟨es',e,h⟩:=h;injection h with G L
     subst G;subst L;obtain⟨W,D⟩:=Bm (R:=ah H.get depth x) A;have hv:=C5 A depth x y' d C (λr hr=>hr) hx;have m:uK H.get (ah H.get depth x) r'=some b:=by unfold uK;rw[if_neg K];exact B
     have X:=hv.cells;obtain⟨arr,T,fz,J,Y,F,I,Z,E⟩:=GZ W m O o p e V (us:=d.cells.toList) (by rw[aQ.map,if_pos c];exact X);refine⟨bO w l.b (.cells (cB arr (i * b.esz+j) d.cells.toList) T fz),?_,ly M ι H.get w (ah H.get depth x),ι,.v rfl,?_,?_,?_⟩;·rw[u.esz];exact A5 hn k J Y F I
     ·rw[ue,aa.cX];exact Z
     ·rw[ue,aa.cX];exact D.trans E
     intro q Q hq;rw[aa.jJ _ _ _ (by rw[aa.cX,m];rfl),aa.ij];exact hD q Q hq
    cases h
   rename_i c;simp only[bG]at h;obtain⟨es',e,h⟩:=h;injection h with G L
   subst G;subst L;obtain⟨arr,T,fz,J,Y,F,I,Z,E⟩:=GZ A B O o p e N (us:=d.cells.toList) (by rw[aQ.map,if_neg c];exact f);refine⟨bO w l.b (.cells (cB arr (i * b.esz+j) d.cells.toList) T fz),?_,M,ι,.v rfl,?_,?_,?_⟩;·rw[u.esz];exact A5 hn k J Y F I
   ·rw[ue];exact Z
   ·rw[ue];exact E
   intro q Q hq;rw[aa.jJ _ _ _ (by rw[B];rfl)];exact hD q Q hq
  cases h
 cases h
end
end
section
section
variable{P:Program}{M:Mem}{ι:Map}{g:cF}{w:World}{r:Ref}
def tn(g:cF)(r:Ref):cF:=λq=>if q=r then none else g q
def Rl(b:gA M ι g w)(r:Ref):gA M ι (tn g r) w/\uN M ι g w M ι (tn g r) w:=by
 have a : ∀ {q k},tn g r q=some k->g q=some k:=by
  intro q k h;unfold tn at h;split at h;·cases h
  exact h
 exact⟨⟨b.mem,λq k h=>b.live q k (a h),λq f k k' l e h c=>b.inj q f k k' l e (a h) (a c)⟩,
  ⟨rfl,rfl,rfl,cH _,λ_ _ _=>rfl,λ_ _ _ h=>h,λ_ _ h=>h,λq k l h d => .inr ⟨q,k,l,a h,d,rfl⟩,λ_ _ _ h => .inl h⟩⟩
def J2(v:gA M ι g w){r q:Ref}{k k':aQ}{l:Loc}(F:g r=some k)(C:ι r=some l)(hq:ι q=none){arr':Array Value}{w':World}
 (hw : ∃arr T fz,w.heap[l.b]?=some (.cells arr T fz)/\arr.size=arr'.size/\w'=bO w l.b (.cells arr' T fz)) (a:k'.esz=k.esz) (S:k'.arr=true) (B:k.arr=true) (N:k'.gJ=k.gJ)
 (D : ∀(o:Nat) u,o<k.es.length * k.esz ->∀arr T fz,w.heap[l.b]?=some (.cells arr T fz)->arr[o]?=some u->arr'[o]?=some u)
 (X:k'.es.length<=l.n) (hle:k.es.length<=k'.es.length) (t : ∀e∈k'.es,e.cells.length=k.esz)
 (hc : ∀(i j:Nat) e x,k'.es[i]?=some e->e.cells[j]?=some x ->∃u,arr'[i * k.esz+j]?=some u/\u.oneCell'=true/\VR M dq x u) :
 gA M (k6 ι q l) (ma (tn g r) q k') w'/\uN M ι g w M (k6 ι q l) (ma (tn g r) q k') w':=by
 obtain⟨arr,T,fz,hh,Q,c⟩:=hw;obtain⟨l',U,z⟩:=v.live r k F;rw[C]at U;cases U;have G:=z.pos B;replace z:=z.cellsOk G;obtain⟨arr0,T0,fz0,O,h1,h2,h3⟩:=z.heap;rw[hh]at O;cases O;have I:=z.lt;have m:=Gf (l:=l) hq;have hqr:q≠r:=by intro e;rw[e,C]at hq;cases hq
 refine⟨⟨?_,?_,?_⟩,?_⟩
 ·intro b o x E;by_cases J:l.b=b;·subst J;have ho:=(z.frozen o x E).2;have L:=v.mem _ _ _ E;rw[jK hh]at L;rw[jK (by rw[c];exact gE I)];exact D o x ho arr T fz hh L
  rw[iQi (w:=w) (by rw[c];exact eO J)];exact v.mem b o x E
 ·intro r' k1 p;unfold ma at p;split at p
  ·rename_i e;subst e;injection p with p
   subst p;refine⟨l,by simp[k6],eW.TG ⟨by rw[z.esz,a],⟨arr',T,fz,by rw[c];exact gE I,by rw[<-Q,a];exact h1,by rw[<-Q,a];exact h2,?_⟩,X,by rw[a];exact t,?_⟩ (by rw[a];exact G)⟩;·intro i j e x he E;rw[a];obtain⟨u,hu,ho,hv⟩:=hc i j e x he E;refine⟨u,hu,ho,?_⟩;rw[aQ.map,if_pos S];exact hv
   intro o x E;rw[N,a];have:=z.frozen o x E;exact⟨this.1,C1 this.2 (ng _ hle)⟩
  rename_i hne;unfold tn at p;split at p;·cases p
  rename_i W;obtain⟨f,V,K⟩:=v.live r' k1 p;have hnb:l.b≠f.b:=λe=>W (v.inj r' r k1 k f l p F V C e.symm);exact⟨f,m r' f V,K.aX (λ_ _ _ h=>h) m (by rw[c];exact eO hnb) K.frozen⟩
 ·have y : ∀ {r1 k1 f},ma (tn g r) q k' r1=some k1->k6 ι q l r1=some f->(r1=q/\f=l)\/(r1≠q/\r1≠r/\g r1=some k1/\ι r1=some f):=by
   intro r1 k1 f h d;unfold ma at h;unfold k6 at d;split at h;·rename_i e;rw[if_pos e]at d;injection d with d;exact .inl ⟨e,d.symm⟩
   rename_i e;rw[if_neg e]at d;unfold tn at h;split at h;·cases h
   rename_i e';exact .inr ⟨e,e',h,d⟩
  intro r1 r2 k1 k2 f l2 h1 h2 h3 h4 Z;rcases y h1 h3 with ⟨e1,e2⟩ | ⟨e1,e2,e3,e4⟩<;>rcases y h2 h4 with ⟨R,A⟩ | ⟨R,A,Y,H⟩
  ·rw[e1,R]
  ·exact absurd (v.inj r r2 k k2 l l2 F Y C H (by rw[<-e2];exact Z)).symm A
  ·exact absurd (v.inj r r1 k k1 l f F e3 C e4 (by rw[<-A];exact Z.symm)).symm e2
  exact v.inj r1 r2 k1 k2 f l2 e3 Y e4 H Z
 refine⟨by rw[c];rfl,by rw[c];rfl,by rw[c];rfl,by rw[c];simp[bO],?_,λ_ _ _ h=>h,m,?_,λ_ _ _ h => .inl h⟩;·intro b _ hno;rw[c];exact eO (hno r k l F C)
 intro r1 k1 f h d;unfold ma at h;unfold k6 at d;split at h;·rename_i e;rw[if_pos e]at d;injection d with d;subst d;exact .inr ⟨r,k,l,F,C,rfl⟩
 rename_i e;rw[if_neg e]at d;unfold tn at h;split at h;·cases h
 exact .inr ⟨r1,k1,f,h,d,rfl⟩
def get_append(H:aa)(q r:Ref)(k:aQ)(b:q≠r):aa.get ((q,some k) :: H.put r none)=ma (tn H.get r) q k:=by
 funext x;simp only[aa.get,aa.get_put];unfold ma tn;by_cases a:q=x;·subst a;simp
 rw[if_neg a,if_neg (tx a)]
def Qj(H:aa)(r:Ref)(k:aQ)(a:(H.get r).isSome=true)(d t:Nat) :
 aa.gen ((⟨r.d,r.t,H.gen r.d r.t,0⟩,some k) :: H.put r none) d t=if r.d=d/\r.t=t then H.gen r.d r.t+1 else H.gen d t:=by
 simp only[aa.gen];split;·rfl
 rw[aa.jJ H r none a]
def G8{H:aa}(hS:gA M ι H.get w)(hD:tT ι H){ts:Array TypeId}{ty:TypeId}{s x y:AV}{us ux:Value}(hs:VR M ι s us)(hx:VR M ι x ux){H':aa}
 (h:lx P H ts[0]? ts[1]? s x=some (y,H')) : ∃u w',(Builtin.append_ ts ty #[us,ux]).run P w = .ok u w'/\o7 M ι H w y H' u w':=by
 unfold lx at h;split at h;·cases h
 rename_i e he;simp only[ib]at he;obtain⟨t,ht,he⟩:=he;have hu:=gD he;split at h;·cases h
 rename_i hc;split at h
 ·rename_i z by' zz ez new hz hb hzz G;split at h;·cases h
  rename_i m;have hez:ez=z:=wI.1 λh=>m (.inl h);have R:0<z:=AO λh=>m (.inr (.inl h));have hb0:0<by':=AO λh=>m (.inr (.inr (.inl h)));have hn0:new≠[]:=λh=>m (.inr (.inr (.inr (.inl h))));have hzl:zz.cells.length=z:=wI.1 λh=>m (.inr (.inr (.inr (.inr h))));subst hez;obtain⟨O,f,hA⟩:=Ik (w:=w) hS hz R hx hc G;split at h
  ·rename_i r' off len;split at h
   ·rename_i b Q;obtain⟨⟨hoff,I,hbz,hlen,J⟩,h⟩:=eK.1 h;injection h with h;injection h with h1 h2;subst h1;subst h2
    subst hoff;subst hlen;subst hbz;have hs0:=hs;cases hs with | bN hrl hbb hsp ha hcc hn hk W=>
    rename_i l a c;have hq:=hD.fresh r'.d r'.t 0;have N:(⟨r'.d,r'.t,H.gen r'.d r'.t,0⟩:Ref)≠r':=by intro e;rw[e,hrl]at hq;cases hq
    have hbk:=hS.at hrl W Q;obtain⟨arr,T,fz,hh,hsz,hfz,S⟩:=hbk.heap;have hpos:0<new.length:=Gw.2 hn0;have hel:cL H.get (.bN r' 0 b.es.length none)=some (b.esz,(b.es.drop 0).take b.es.length):=(by simp[cL,Q,I]);obtain⟨us0,B⟩:=o5 (P:=P) hS hs0 R hel;have hee:(b.es.drop 0).take b.es.length=b.es:=by simp
    rw[hee]at B;have X : ∀Z:Map,(∀q,ι q=none->q≠⟨r'.d,r'.t,H.gen r'.d r'.t,0⟩->Z q=none)->tT Z ((⟨r'.d,r'.t,H.gen r'.d r'.t,0⟩,some ⟨b.esz,b.es++new,true,b.gJ⟩) :: H.put r' none):=by
     intro Z hι q lq hql;rw[Qj H r' _ (by rw[Q];rfl)];cases D:ι q with
     | some l0=>
      have:=hD q l0 D;split;·rename_i V;rw[<-V.1,<-V.2]at this;exact Cz this
      exact this
     | none=>
      by_cases hqq:q=⟨r'.d,r'.t,H.gen r'.d r'.t,0⟩;·subst hqq;rw[if_pos ⟨rfl,rfl⟩];exact rS _
      rw[hι q D hqq]at hql;cases hql
    by_cases U:b.es.length+new.length<=c
    ·have E:a.off=0:=by
      rcases ha with h | h
      ·omega
      simpa using h
     have hcn:0+c<=l.n:=by
      rcases hn with h | h
      ·omega
      exact h
     have hae:a=⟨l.b,0,none⟩:=(by rw[kF hsp,hbb,E]);have F:0+b.es.length * b.esz+O.length<=arr.size:=(by rw[f.len,hsz,uR,<-mw];exact ng _ (by omega));have C:=Ce (P:=P) (w:=w) (ty:=ty) ht hu hz hb (b:=l.b) (o:=0) hA U J hh F hfz.1 f.one;rw[uR]at C F;obtain⟨h3,h4⟩:=J2 (M:=M) (q:=⟨r'.d,r'.t,H.gen r'.d r'.t,0⟩) (k':=⟨b.esz,b.es++new,true,b.gJ⟩) hS Q hrl hq (arr':=cB arr (b.es.length * b.esz) O)
      ⟨arr,T,fz,hh,(jB F).symm,rfl⟩ rfl rfl I rfl
      (by
       intro o u ho arr1 T1 fz1 hh1 p;rw[hh]at hh1;cases hh1;rw[iR F,if_neg (by omega)];exact p)
      (by simp;omega) (by simp) (by
       intro L he1;rcases iN.1 he1 with h | h
       ·exact hbk.cells L h
       exact f.Ja L h)
      (by
       intro i j L x1 D A;rw[iR F];rcases eC i b.es.length with hlt | hge
       ·rw[kA hlt]at D;have hj:j<b.esz:=(by rw[<-hbk.cells L (dJ D)];exact(ew.1 A).1);have:=E2 hlt hj;rw[if_neg (by omega)];obtain⟨u,p,ho,hv⟩:=S i j L x1 D A;rw[aQ.map,if_pos I]at hv;exact⟨u,p,ho,hv⟩
       rw[jP hge]at D;obtain⟨u,p,hv⟩:=f.vr _ j L x1 D A;have hlt:=(ew.1 p).1;have hge':b.es.length * b.esz<=i * b.esz:=ng _ hge;have hii:(i - b.es.length) * b.esz=i * b.esz - b.es.length * b.esz:=GF _ _ _;rw[if_pos (by omega),show i * b.esz+j - b.es.length * b.esz=(i - b.es.length) * b.esz+j by omega];exact⟨u,p,f.one u (dJ p),hv⟩)
     refine⟨.slice (some a) (b.es.length+new.length) c,_,by rw[hae];exact C,M,_,?_,by rw[get_append H _ r' _ N];exact h3,by rw[get_append H _ r' _ N];exact h4,?_⟩;·exact .bN (l:=l) (by simp[k6]) hbb hsp (.inr (by rw[E];simp)) U (.inr hcn) (by intro k hk;cases hk) W
     exact X _ (by intro q hq' Y;simp[k6,Y,hq'])
    obtain⟨zv,hzv,hzs⟩:=Cw hz hzz hzl;obtain⟨cap,w',K,C,hgrew⟩:=vK (P:=P) (w:=w) (ty:=ty) ht hu hz hb hzv hzs (BL (a:=some a) (len:=b.es.length) (c:=c) rfl rfl B) hA (by omega) J hb0;obtain⟨h1,h2⟩:=Bk (olds:=us0) (us:=O) (n1:=b.es.length) (n2:=new.length) (cap:=cap) B.len f.len hzs K;obtain⟨h3,h4⟩:=Rl hS r';have v:=B.row.append f;have G : ∀(i j:Nat) e x,(b.es++new)[i]?=some e->e.cells[j]?=some x ->∃u,(us0.toArray++O.toArray++Builtin.zeroCells zv.cells (cap - (b.es.length+new.length)))[i * b.esz+j]?=some u/\u.oneCell'=true/\VR M dq x u:=(by intro i j L x1 D A;obtain⟨u,p,hv⟩:=v.vr i j L x1 D A;exact⟨u,h2 _ _ p,v.one u (dJ p),hv⟩);obtain⟨h5,h6⟩:=h3.alloc (q:=⟨r'.d,r'.t,H.gen r'.d r'.t,0⟩) hq hgrew ⟨b.esz,b.es++new,true,b.gJ⟩ R cap h1 (CR.zero _ _) (by simpa using K) v.Ja
     (by intro i j L x1 D A;rw[aQ.map,if_pos rfl];exact G i j L x1 D A)
    refine⟨_,w',C,M,_,?_,by rw[get_append H _ r' _ N];exact h5,by rw[get_append H _ r' _ N];exact h4.trans h6,?_⟩;·exact .bN (l:=⟨w.heap.size,b.esz,cap⟩) (by simp[k6]) rfl rfl (.inr (by simp)) K (.inr (by simp)) (by intro k hk;cases hk) R
    exact X _ (by intro q hq' Y;simp[k6,Y,hq'])
   cases h
  cases h
 cases h
def L6{H:aa}(hS:gA M ι g w){ts:Array TypeId}{ty:TypeId}{s x y:AV}{us ux:Value}(hs:VR M ι s us)(hx:VR M ι x ux){H':aa}
 (hag : ∀r',fC s=some r'->H.get r'≠none->g r'=H.get r') (hnw : ∀e p,oe P H.get e x=some p->oe P g e x=some p) (Z : ∀r',fC s=some r'->H.get r'≠none->ι ⟨r'.d,r'.t,H.gen r'.d r'.t,0⟩=none)
 (h:lx P H ts[0]? ts[1]? s x=some (y,H')) : ∃r' b k',fC s=some r'/\H.get r'=some b/\(⟨r'.d,r'.t,H.gen r'.d r'.t,0⟩:Ref)≠r'/\H'=(⟨r'.d,r'.t,H.gen r'.d r'.t,0⟩,some k') :: H.put r' none /\
  ∃u w' O,(Builtin.append_ ts ty #[us,ux]).run P w = .ok u w'/\VR M O y u/\gA M O (ma (tn g r') ⟨r'.d,r'.t,H.gen r'.d r'.t,0⟩ k') w'/\uN M ι g w M O (ma (tn g r') ⟨r'.d,r'.t,H.gen r'.d r'.t,0⟩ k') w' /\
   ∀q,ι q=none->q≠⟨r'.d,r'.t,H.gen r'.d r'.t,0⟩->O q=none:=by
 unfold lx at h;split at h;·cases h
 rename_i e he;simp only[ib]at he;obtain⟨t,ht,he⟩:=he;have hu:=gD he;split at h;·cases h
 rename_i hc;split at h
 ·rename_i z by' zz ez new hz hb hzz G;split at h;·cases h
  rename_i m;have hez:ez=z:=wI.1 λh=>m (.inl h);have R:0<z:=AO λh=>m (.inr (.inl h));have hb0:0<by':=AO λh=>m (.inr (.inr (.inl h)));have hn0:new≠[]:=λh=>m (.inr (.inr (.inr (.inl h))));have hzl:zz.cells.length=z:=wI.1 λh=>m (.inr (.inr (.inr (.inr h))));subst hez;obtain⟨N,f,hA⟩:=Ik (w:=w) hS hz R hx hc (hnw _ _ G);split at h
  ·rename_i r' off len;split at h
   ·rename_i b Q;obtain⟨⟨hoff,I,hbz,hlen,J⟩,h⟩:=eK.1 h;injection h with h;injection h with h1 h2;subst h1;subst h2
    subst hoff;subst hlen;subst hbz;have hs0:=hs;cases hs with | bN hrl hbb hsp ha hcc hn hk W=>
    rename_i l a c;have hq:=Z r' rfl (by rw[Q];simp);have hbG:g r'=some b:=by rw[hag r' rfl (by rw[Q];simp),Q]
    have hqr:(⟨r'.d,r'.t,H.gen r'.d r'.t,0⟩:Ref)≠r':=by intro e;rw[e,hrl]at hq;cases hq
    have hbk:=hS.at hrl W hbG;obtain⟨arr,T,fz,hh,hsz,hfz,S⟩:=hbk.heap;have hpos:0<new.length:=Gw.2 hn0;have hel:cL g (.bN r' 0 b.es.length none)=some (b.esz,(b.es.drop 0).take b.es.length):=(by simp[cL,hbG,I]);obtain⟨us0,C⟩:=o5 (P:=P) hS hs0 R hel;have hee:(b.es.drop 0).take b.es.length=b.es:=by simp
    rw[hee]at C;refine⟨r',b,⟨b.esz,b.es++new,true,b.gJ⟩,rfl,Q,hqr,rfl,?_⟩;by_cases V:b.es.length+new.length<=c
    ·have E:a.off=0:=by
      rcases ha with h | h
      ·omega
      simpa using h
     have hcn:0+c<=l.n:=by
      rcases hn with h | h
      ·omega
      exact h
     have hae:a=⟨l.b,0,none⟩:=(by rw[kF hsp,hbb,E]);have F:0+b.es.length * b.esz+N.length<=arr.size:=(by rw[f.len,hsz,uR,<-mw];exact ng _ (by omega));have D:=Ce (P:=P) (w:=w) (ty:=ty) ht hu hz hb (b:=l.b) (o:=0) hA V J hh F hfz.1 f.one;rw[uR]at D F;obtain⟨h3,h4⟩:=J2 (M:=M) (q:=⟨r'.d,r'.t,H.gen r'.d r'.t,0⟩) (k':=⟨b.esz,b.es++new,true,b.gJ⟩) hS hbG hrl hq (arr':=cB arr (b.es.length * b.esz) N)
      ⟨arr,T,fz,hh,(jB F).symm,rfl⟩ rfl rfl I rfl
      (by
       intro o u ho arr1 T1 fz1 hh1 v;rw[hh]at hh1;cases hh1;rw[iR F,if_neg (by omega)];exact v)
      (by simp;omega) (by simp) (by
       intro L he1;rcases iN.1 he1 with h | h
       ·exact hbk.cells L h
       exact f.Ja L h)
      (by
       intro i j L x1 U B;rw[iR F];rcases eC i b.es.length with Y | hge
       ·rw[kA Y]at U;have hj:j<b.esz:=(by rw[<-hbk.cells L (dJ U)];exact(ew.1 B).1);have:=E2 Y hj;rw[if_neg (by omega)];obtain⟨u,v,ho,hv⟩:=S i j L x1 U B;rw[aQ.map,if_pos I]at hv;exact⟨u,v,ho,hv⟩
       rw[jP hge]at U;obtain⟨u,v,hv⟩:=f.vr _ j L x1 U B;have Y:=(ew.1 v).1;have hge':b.es.length * b.esz<=i * b.esz:=ng _ hge;have hii:(i - b.es.length) * b.esz=i * b.esz - b.es.length * b.esz:=GF _ _ _;rw[if_pos (by omega),show i * b.esz+j - b.es.length * b.esz=(i - b.es.length) * b.esz+j by omega];exact⟨u,v,f.one u (dJ v),hv⟩)
     refine⟨.slice (some a) (b.es.length+new.length) c,_,_,by rw[hae];exact D,?_,h3,h4,?_⟩;·exact .bN (l:=l) (by simp[k6]) hbb hsp (.inr (by rw[E];simp)) V (.inr hcn) (by intro k hk;cases hk) W
     intro q hq' X;simp[k6,X,hq']
    obtain⟨zv,hzv,hzs⟩:=Cw hz hzz hzl;obtain⟨cap,w',K,D,hgrew⟩:=vK (P:=P) (w:=w) (ty:=ty) ht hu hz hb hzv hzs (BL (a:=some a) (len:=b.es.length) (c:=c) rfl rfl C) hA (by omega) J hb0;obtain⟨h1,h2⟩:=Bk (olds:=us0) (us:=N) (n1:=b.es.length) (n2:=new.length) (cap:=cap) C.len f.len hzs K;obtain⟨h3,h4⟩:=Rl hS r';have A:=C.row.append f;have G : ∀(i j:Nat) e x,(b.es++new)[i]?=some e->e.cells[j]?=some x ->∃u,(us0.toArray++N.toArray++Builtin.zeroCells zv.cells (cap - (b.es.length+new.length)))[i * b.esz+j]?=some u/\u.oneCell'=true/\VR M dq x u:=(by intro i j L x1 U B;obtain⟨u,v,hv⟩:=A.vr i j L x1 U B;exact⟨u,h2 _ _ v,A.one u (dJ v),hv⟩);obtain⟨h5,h6⟩:=h3.alloc (q:=⟨r'.d,r'.t,H.gen r'.d r'.t,0⟩) hq hgrew ⟨b.esz,b.es++new,true,b.gJ⟩ R cap h1 (CR.zero _ _) (by simpa using K) A.Ja
     (by intro i j L x1 U B;rw[aQ.map,if_pos rfl];exact G i j L x1 U B)
    refine⟨_,w',_,D,?_,h5,h4.trans h6,?_⟩;·exact .bN (l:=⟨w.heap.size,b.esz,cap⟩) (by simp[k6]) rfl rfl (.inr (by simp)) K (.inr (by simp)) (by intro k hk;cases hk) R
    intro q hq' X;simp[k6,X,hq']
   cases h
  cases h
 cases h
def G7{H:aa}(I:gA M ι H.get w)(D:tT ι H){d a:Nat}{t:TypeId}{n:Nat}{o:List (Nat × AV)}{qs:Array (Nat × Value)}{x:AV}{H':aa}
 (h:kU P H ⟨d,a,H.gen d a,0⟩ t n (some o)=some (x,H')) (O:o.length=qs.toList.length)
 (hp : ∀(i:Nat) p q,o[i]?=some p->qs.toList[i]?=some q->p.1=q.1/\VR M ι p.2 q.2) :
 ∃u w',(Instr.buildSlice t n qs).run P w = .ok u w'/\o7 M ι H w x H' u w':=by
 simp only[kU,bG]at h;obtain⟨b,J,h⟩:=h;injection h with V U
 subst V;subst U;obtain⟨h1,h2,Z,e,arr,h4,W,Y⟩:=Il I J O hp;obtain⟨C,N⟩:=Bm (R:=bX H.get (o.map (·.2))) I;have E:b=⟨b.esz,b.es,true,false⟩:=by cases b;simp_all
 have v:Ek w (w.alloc (.cells arr e)) (.cells arr e (0,0)):=⟨rfl,rfl,rfl,rfl⟩;have F:=D.fresh d a 0;have f:=vk (r:=⟨d,a,H.gen d a,0⟩) C rfl F v Y (λk u S=>by simpa using S) (n:=n) (c:=n) W (CR.zero _ _) (by omega) (cH _) (cap:=some n) (by intro k B;cases B;rfl) (FH J);rw[Z,<-E]at f;have Q:tT ι (bV H (bX H.get (o.map (·.2)))):=by
  intro q l F;rw[aa.ij];exact D q l F
 obtain⟨M',m,X,T,L,g4⟩:=f;have j:aa.get (((⟨d,a,H.gen d a,0⟩:Ref),some b) :: bV H (bX H.get (o.map (·.2))))=tN (uK H.get (bX H.get (o.map (·.2)))) ⟨d,a,H.gen d a,0⟩ [b]:=by
  rw[sD _ _ rfl];funext q;simp only[aa.get,aa.cX];unfold ma;by_cases A:q=⟨d,a,H.gen d a,0⟩;·rw[if_pos A.symm,if_pos A]
  rw[if_neg (tx A),if_neg A]
 refine⟨_,_,h4,M',m,X,?_,?_,?_⟩;·show gA M' m (aa.get (_ :: _)) _;rw[j];exact T
 ·show uN M ι H.get w M' m (aa.get (_ :: _)) _;rw[j];exact N.trans L
 intro q l z;simp only[aa.gen,aa.ij];cases K:ι q with
 | some l0=>
  have:=D q l0 K;split;·rename_i G;rw[<-G.1,<-G.2]at this;exact Cz this
  exact this
 | none=>
  by_cases B:q=⟨d,a,H.gen d a,0⟩;·subst B;rw[if_pos ⟨rfl,rfl⟩];exact rS _
  rw[g4 q K (λk y e=>B (by rw[e];simp at y;rw[y]))]at z;cases z
def Row.sub{z es us}(h:Row M z es us)(n:Nat):Row M z (es.take n) (us.take (n * z)):=by
 refine⟨?_,λe a=>h.Ja e (ye a),λx b=>h.one x (ye b),?_⟩
 ·rw[nZ,nZ,h.len];rcases iQZ n es.length with hle | hle
  ·rw[GM hle,GM (ng _ hle)]
  rw[OL hle,OL (ng _ hle)]
 intro i j e x a b;rw[AN]at a;split at a
 ·rename_i f;obtain⟨u,hu,c⟩:=h.vr i j e x a b;have d:j<z:=by
   rw[<-h.Ja e (dJ a)];exact(ew.1 b).1
  refine⟨u,?_,c⟩;rw[AN,if_pos (E2 f d)];exact hu
 cases a
def Ul{H:aa}(hS:gA M ι H.get w)(hD:tT ι H){ts:Array TypeId}{ty:TypeId}{s x y:AV}{us ux:Value}(hs:VR M ι s us)(hx:VR M ι x ux){H':aa}
 (h:L4 P H ts[0]? s x=some (y,H')) : ∃u w',(Builtin.copy_ ts ty #[us,ux]).run P w = .ok u w'/\o7 M ι H w y H' u w':=by
 unfold L4 at h;split at h;·cases h
 rename_i e he;simp only[ib]at he;obtain⟨t,ht,he⟩:=he;have hu:=gD he;split at h;·cases h
 rename_i z hz;split at h;·cases h
 rename_i ez f B;split at h;·cases h
 rename_i F;have hez:ez=z:=wI.1 λh=>F (.inl h);have hz0:0<z:=AO λh=>F (.inr h);subst hez;have hS0 : ∃p,Src P M w ux ez f p:=by
  split at B
  ·rename_i hn;injection B with B
   injection B with h1 X
   subst X;have:ux = .slice none 0 0:=by
    cases hx<;>simp[oR]at hn;split at hn<;>simp_all
   subst this;exact⟨[],by simp,by simp,by simp,by intro i j e x h;simp at h,λw'=>rfl,λn w' hn' _=>by simp[Builtin.firstCells]⟩
  exact o5 hS hx hz0 B
 obtain⟨p,A⟩:=hS0;split at h
 ·cases hs;injection h with h;injection h with h1 X;subst h1;subst X
  have hf:=A.first 0 w (En _) rfl;have hl:=A.lenOf w;refine⟨.int .i64 0,w,?_,M,ι,.v rfl,hS,uN.refl,hD⟩;simp only[Nat.zero_mul,List.take_zero]at hf;have hm:f.length.min 0=0:=Nat.min_zero _;simp[Builtin.copy_,ht,bh hu,run_sizeOf hz,hl,hm,hf,goInt]
 ·rename_i r' d len cap;split at h
  ·rename_i b hb;obtain⟨⟨O,hbz,hfr,hle⟩,h⟩:=eK.1 h;injection h with h;injection h with h1 X;subst h1;subst X
   subst hbz;cases hs with | bN hrl hbb hsp ha hcc hn hk N=>
   rename_i l a c;have C:=hS.at hrl N hb;obtain⟨arr,T,fz,hh,Z,hfz,K⟩:=C.heap;obtain⟨n,G⟩ : ∃n,n=Nat.min f.length len:=⟨_,rfl⟩;have Y:n<=f.length:=by rw[G];exact Nat.min_le_left _ _
   have hn2:n<=len:=by rw[G];exact Nat.min_le_right _ _
   rw[<-G];have hf:=A.first n w Y rfl;have hl:=A.lenOf w;have D:=A.row.sub n;have L:(f.take n).length=n:=by rw[nZ,GM Y]
   have R:(p.take (n * b.esz)).length=n * b.esz:=(by rw[D.len,L]);have hbl:=C.len;have m:d * b.esz+(p.take (n * b.esz)).length<=arr.size:=(by rw[R,Z,<-mw];exact ng _ (by omega));have hes : ∀i,(b.es.take d++f.take n++b.es.drop (d+n))[i]?=if d<=i/\i<d+n then (f.take n)[i - d]? else b.es[i]?:=(by intro i;have:=Nc (cs:=b.es) (new:=f.take n) (j:=d) (by rw[L];omega) i;rw[L]at this;rw[<-this];unfold patch;rw[L])
   obtain⟨h3,h4⟩:=hS.write (k' := { b with es:=b.es.take d++f.take n++b.es.drop (d+n)}) hb hrl N (arr:=cB arr (d * b.esz) (p.take (n * b.esz))) (T:=T) (fz:=fz) rfl rfl rfl
    (by rw[jB m];exact Z) (by rw[jB m];exact hfz) (by simp;omega)
    (by
     intro J W;simp only[iN]at W;rcases W with (h | h) | h
     ·exact C.cells J (ye h)
     ·exact D.Ja J h
     exact C.cells J (Fq h))
    (by
     intro o v V;have:=(C.frozen o v V).1;rw[hfr]at this;cases this)
    (by
     intro i j J x1 U S;rw[aQ.map,if_pos O];simp only at U;rw[hes i]at U;rw[iR m,R];by_cases hr:d<=i/\i<d+n;·rw[if_pos hr]at U;obtain⟨u,E,V⟩:=D.vr (i - d) j J x1 U S;have hlt:=(ew.1 E).1;rw[R]at hlt;have h5:d * b.esz<=i * b.esz:=ng _ hr.1;have h6:(i - d) * b.esz=i * b.esz - d * b.esz:=GF _ _ _;rw[if_pos (by omega),show i * b.esz+j - d * b.esz=(i - d) * b.esz+j by omega];exact⟨u,E,D.one u (dJ E),V⟩
     rw[if_neg hr]at U;have hj:j<b.esz:=(by rw[<-C.cells J (dJ U)];exact(ew.1 S).1);rw[if_neg];·obtain⟨u,E,ho,V⟩:=K i j J x1 U S;rw[aQ.map,if_pos O]at V;exact⟨u,E,ho,V⟩
     intro hcon;apply hr;have e1':d * b.esz+n * b.esz=(d+n) * b.esz:=(mw _ _ _).symm;constructor
     ·rcases eC i d with h | h
      ·have:(i+1) * b.esz<=d * b.esz:=ng _ h;rw[mw]at this;omega
      exact h
     rcases eC i (d+n)with h | h
     ·exact h
     have:(d+n) * b.esz<=i * b.esz:=ng _ h;omega)
   have I:(storeCells a (p.take (n * b.esz))).run P w = .ok () (bO w l.b (.cells (cB arr (d * b.esz) (p.take (n * b.esz))) T fz)):=by
    by_cases h0:n=0
    ·have e0:p.take (n * b.esz)=[]:=by rw[h0];simp
     rw[e0];have J:cB arr (d * b.esz) []=arr:=by simp[cB]
     rw[J];have e2:bO w l.b (.cells arr T fz)=w:=by
      unfold bO;have:w.heap.setIfInBounds l.b (.cells arr T fz)=w.heap:=by
       apply Fo;intro k;by_cases hk:l.b=k;·subst hk;rw[hh,GB C.lt]
       rw[B5 hk]
      rw[this]
     rw[e2];simp[storeCells]
    have Q:a.off=d * b.esz:=by
     rcases ha with h | h
     ·omega
     rw[h,C.esz]
    have:=ny (P:=P) (d * b.esz) (p.take (n * b.esz)) 0 arr w hh (by simpa using m) hfz.1 D.one;rw[xt]at this;rw[kF hsp,hbb,Q];exact this
   refine⟨.int .i64 n,_,?_,M,ι,.v rfl,by rw[ue];exact h3,by rw[ue];exact h4,?_⟩;·have hm:f.length.min len=n:=G.symm;simp[Builtin.copy_,ht,bh hu,run_sizeOf hz,hl,hm,hf,I,goInt]
   intro q lq hq;rw[aa.jJ _ _ _ (by rw[hb];rfl)];exact hD q lq hq
  cases h
 cases h
def RT{H:aa}(hS:gA M ι H.get w)(hD:tT ι H){ts:Array TypeId}{ty:TypeId}{s x y:AV}{us ux:Value}(hs:VR M ι s us)(hx:VR M ι x ux){H':aa}
 (h:G6 P H ts[0]? s x=some (y,H')) : ∃u w',(Builtin.copy_ ts ty #[us,ux]).run P w = .ok u w'/\o7 M ι H w y H' u w':=by
 unfold G6 at h;split at h
 ·rename_i z r' d len cap r2 m zO cap2 he;simp only[ib]at he;obtain⟨e,⟨t,ht,he⟩,hz⟩:=he;have hu:=gD he;split at h
  ·rename_i b b2 hb hb2;obtain⟨⟨N,U,hbz,hbz2,hz0,hfr,hle0,L⟩,h⟩:=eK.1 h;injection h with h;injection h with h1 h2;subst h1;subst h2
   subst hbz;cases hs with | bN S hbb hsp ha hcc hn Z C=>
   rename_i l a c;cases hx with | bN hrl2 hbb2 hsp2 ha2 hcc2 hn2' hk2 Y=>
   rename_i l2 a2 X;obtain⟨n,F⟩ : ∃n,n=Nat.min zO len:=⟨_,rfl⟩;have hnl:n<=zO:=by rw[F];exact Nat.min_le_left _ _
   have hn2:n<=len:=by rw[F];exact Nat.min_le_right _ _
   rw[<-F]at L ⊢;have hv2:VR M ι (.bN r2 m n none) (.slice (some a2) n X) := .bN hrl2 hbb2 hsp2 ha2 (xv hnl hcc2) hn2' (λk Z=>by cases Z) Y;have hel:cL H.get (.bN r2 m n none)=some (b2.esz,(b2.es.drop m).take n):=(by simp only[cL,hb2];rw[if_pos ⟨U,L⟩]);rw[hbz2]at hel;obtain⟨B,K⟩:=o5 (P:=P) hS hv2 hz0 hel;have hsl:((b2.es.drop m).take n).length=n:=by rw[nZ,Eu];omega
   generalize (b2.es.drop m).take n=src at *;have hn1:n<=src.length:=by omega
   have htk:src.take n=src:=gj (by omega);suffices D : ∃u w',(Builtin.copy_ ts ty #[.slice (some a) len c,.slice (some a2) zO X]).run P w = .ok u w'/\o7 M ι H w (.v (.int .i64 n)) (H.put r' (some { b with es:=b.es.take d++src.take n++b.es.drop (d+n)})) u w' by
    rw[htk]at D;exact D
   have hcl:d+n<=l.n:=by
    rcases hn with h | h
    ·have:=(hS.at S C hb).len;omega
    omega
   have p:=hS.at S C hb;obtain⟨arr,T,fz,hh,hsz,hfz,J⟩:=p.heap;have hf:(Builtin.firstCells b.esz n (.slice (some a2) zO X)).run P w=_:=K.first n w hn1 rfl;have hl:(Builtin.lenOf (.slice (some a2) zO X)).run P w = .ok zO w:=by simp[Builtin.lenOf]
   have A:=K.row.sub n;have htl:(src.take n).length=n:=by rw[nZ,GM hn1]
   have Q:(B.take (n * b.esz)).length=n * b.esz:=(by rw[A.len,htl]);have hbl:=p.len;have f:d * b.esz+(B.take (n * b.esz)).length<=arr.size:=(by rw[Q,hsz,<-mw];exact ng _ (by omega));have hes : ∀i,(b.es.take d++src.take n++b.es.drop (d+n))[i]?=if d<=i/\i<d+n then (src.take n)[i - d]? else b.es[i]?:=by
    intro i;have l1:(b.es.take d).length=d:=by rw[nZ];omega
    by_cases c1:i<d;·rw[if_neg (by omega),AM,kA (by omega),List.getElem?_take_of_lt c1]
    by_cases X:i<d+n;·rw[if_pos ⟨by omega,X⟩,AM,jP (by omega),l1,kA (by omega)]
    rw[if_neg (by omega),jP (by rw[mI];omega),mI,l1,htl,Fp];congr 1;omega
   obtain⟨h3,h4⟩:=hS.write (k' := { b with es:=b.es.take d++src.take n++b.es.drop (d+n)}) hb S C (arr:=cB arr (d * b.esz) (B.take (n * b.esz))) (T:=T) (fz:=fz) rfl rfl rfl
    (by rw[jB f];exact hsz) (by rw[jB f];exact hfz) (by simp only[mI,nZ,Eu];omega)
    (by
     intro I he1;simp only[iN]at he1;rcases he1 with (h | h) | h
     ·exact p.cells I (ye h)
     ·exact A.Ja I h
     exact p.cells I (Fq h))
    (by
     intro o v W;have:=(p.frozen o v W).1;rw[hfr]at this;cases this)
    (by
     intro i j I x1 V R;rw[aQ.map,if_pos N];simp only at V;rw[hes i]at V;rw[iR f,Q];by_cases hr:d<=i/\i<d+n;·rw[if_pos hr]at V;obtain⟨u,E,W⟩:=A.vr (i - d) j I x1 V R;have hlt:=(ew.1 E).1;rw[Q]at hlt;have h5:d * b.esz<=i * b.esz:=ng _ hr.1;have h6:(i - d) * b.esz=i * b.esz - d * b.esz:=GF _ _ _;rw[if_pos (by omega),show i * b.esz+j - d * b.esz=(i - d) * b.esz+j by omega];exact⟨u,E,A.one u (dJ E),W⟩
     rw[if_neg hr]at V;have hj:j<b.esz:=(by rw[<-p.cells I (dJ V)];exact(ew.1 R).1);rw[if_neg];·obtain⟨u,E,ho,W⟩:=J i j I x1 V R;rw[aQ.map,if_pos N]at W;exact⟨u,E,ho,W⟩
     intro hcon;apply hr;have e1':d * b.esz+n * b.esz=(d+n) * b.esz:=(mw _ _ _).symm;constructor
     ·rcases eC i d with h | h
      ·have:(i+1) * b.esz<=d * b.esz:=ng _ h;rw[mw]at this;omega
      exact h
     rcases eC i (d+n)with h | h
     ·exact h
     have:(d+n) * b.esz<=i * b.esz:=ng _ h;omega)
   have G:(storeCells a (B.take (n * b.esz))).run P w = .ok () (bO w l.b (.cells (cB arr (d * b.esz) (B.take (n * b.esz))) T fz)):=by
    by_cases h0:n=0
    ·have e0:B.take (n * b.esz)=[]:=by rw[h0];simp
     rw[e0];have I:cB arr (d * b.esz) []=arr:=by simp[cB]
     rw[I];have e2:bO w l.b (.cells arr T fz)=w:=by
      unfold bO;have:w.heap.setIfInBounds l.b (.cells arr T fz)=w.heap:=by
       apply Fo;intro k;by_cases Z:l.b=k;·subst Z;rw[hh,GB p.lt]
       rw[B5 Z]
      rw[this]
     rw[e2];simp[storeCells]
    have O:a.off=d * b.esz:=by
     rcases ha with h | h
     ·omega
     rw[h,p.esz]
    have:=ny (P:=P) (d * b.esz) (B.take (n * b.esz)) 0 arr w hh (by simpa using f) hfz.1 A.one;rw[xt]at this;rw[kF hsp,hbb,O];exact this
   refine⟨.int .i64 n,_,?_,M,ι,.v rfl,by rw[ue];exact h3,by rw[ue];exact h4,?_⟩;·have hm:Nat.min zO len=n:=F.symm;simp[Builtin.copy_,ht,bh hu,run_sizeOf hz,hl,hm,hf,G,goInt]
   intro q lq hq;rw[aa.jJ _ _ _ (by rw[hb];rfl)];exact hD q lq hq
  cases h
 cases h
end
def zK(arr:Array Value)(z n:Nat):List AV:=(List.range n).map λi => .agg ((List.range z).map λj => .Bc (arr.getD (i * z+j) Go.undef))
def SZ{arr:Array Value}{z n i j:Nat}{e x:AV}(a:(zK arr z n)[i]?=some e)(b:e.cells[j]?=some x):i<n/\j<z/\x = .Bc (arr.getD (i * z+j) Go.undef):=by
 unfold zK at a;rw[k5]at a;rcases eC i n with d | d
 ·rw[Gx d]at a;cases a;simp only[AV.cells,k5]at b;rcases eC j z with c | c
  ·rw[Gx c]at b;cases b;exact⟨d,c,rfl⟩
  rw[wJ (by simpa using c)]at b;cases b
 rw[wJ (by simpa using d)]at a;cases a
def eW.Bc{M:Mem}{ι:Map}{w:World}{l:Loc}{k:aQ}(h:eW M ι w l k) : ∃es:List AV,es.length=k.es.length/\(∀e∈es,e.cells.length=k.esz)/\eW M ι w l ⟨k.esz,es,true,k.gJ⟩ /\
 ∀(i j:Nat) e x,es[i]?=some e->e.cells[j]?=some x ->∃u a x0,x = .Bc u/\k.es[i]?=some a/\a.cells[j]?=some x0/\VR M (k.map ι) x0 u:=by
 obtain⟨arr,T,fz,y,B,z,A⟩:=h.heap;have key : ∀(i j:Nat) e x,(zK arr k.esz k.es.length)[i]?=some e->e.cells[j]?=some x ->∃u a x0,x = .Bc u/\arr[i * k.esz+j]?=some u/\u.oneCell'=true/\k.es[i]?=some a/\a.cells[j]?=some x0/\VR M (k.map ι) x0 u:=by
  intro i j e x b c;obtain⟨n,v,rfl⟩:=SZ b c;have a:k.es[i]?=some k.es[i]:=dy n;have p:j<k.es[i].cells.length:=by rw[h.cells _ (je n)];exact v
  have m:k.es[i].cells[j]?=some k.es[i].cells[j]:=dy p;obtain⟨u,f,d,t⟩:=A i j _ _ a m;exact⟨u,_,_,by rw[C3,f];rfl,f,d,a,m,t⟩
 refine⟨zK arr k.esz k.es.length,by simp[zK],λe b=>?_,⟨h.esz,⟨arr,T,fz,y,B,z,λi j e x b c=>?_⟩,by simpa [zK] using h.len,λe b=>?_,λo x c=>by simpa [zK] using h.frozen o x c⟩,λi j e x b c=>?_⟩;·simp only[zK,jO]at b;obtain⟨i,_,rfl⟩:=b;simp[AV.cells]
 ·obtain⟨u,a,x0,rfl,f,d,_⟩:=key i j e x b c;exact⟨u,f,d,.Bc d⟩
 ·simp only[zK,jO]at b;obtain⟨i,_,rfl⟩:=b;simp[AV.cells]
 obtain⟨u,a,x0,b1,_,_,b2,b3,q⟩:=key i j e x b c;exact⟨u,a,x0,b1,b2,b3,q⟩
def gA.Bc{M:Mem}{ι:Map}{H:aa}{w:World}(d:gA M ι H.get w){r:Ref}{k:aQ}(o:H.get r=some k)(G:k.arr=false)(t:0<k.esz) :
 ∃es:List AV,es.length=k.es.length/\(∀e∈es,e.cells.length=k.esz)/\gA M ι (H.put r (some ⟨k.esz,es,true,k.gJ⟩)).get w /\
  ∀(i j:Nat) e x,es[i]?=some e->e.cells[j]?=some x ->∃u v x0,x = .Bc u/\k.es[i]?=some v/\v.cells[j]?=some x0/\VR M ι x0 u:=by
 obtain⟨l,h,F⟩:=d.live r k o;obtain⟨es,E,D,I,p⟩:=(F.cellsOk t).Bc;have B:k.map ι=ι:=by unfold aQ.map;rw[G];rfl
 rw[B]at p;refine⟨es,E,D,⟨d.mem,λq b a=>?_,λq y b b' l C a n h m=>?_⟩,p⟩
 ·rw[aa.get_put]at a;split at a;·rename_i e;cases a;rw[e];exact⟨l,h,I.TG t⟩
  exact d.live q b a
 have : ∀q b,(H.put r (some ⟨k.esz,es,true,k.gJ⟩)).get q=some b ->∃b',H.get q=some b':=by
  intro q b a;rw[aa.get_put]at a;split at a;·rename_i e;rw[e];exact⟨k,o⟩
  exact⟨b,a⟩
 obtain⟨c,z⟩:=this q b a;obtain⟨A,f⟩:=this y b' n;exact d.inj q y c A l C z f h m
def o7.W5{M:Mem}{ι:Map}{H H0 I H':aa}{w w':World}{x:Ref}{y y':AV}(Y : ∀M' c u,VR M' c y u->VR M' c y' u){k1:aQ}{u:Value}{es':List AV}
 (n : ∀q k,H0.get q=some k ->∃k',H.get q=some k') (h1:I.get x=some k1) (hz:0<k1.esz) (F:k1.arr=true)
 (J:H'.get x=some ⟨k1.esz,es',false,k1.gJ⟩) (B : ∀q k,q≠x->H'.get q=some k->I.get q=some k) (E : ∀d t,I.gen d t<=H'.gen d t)
 (C:es'.length=k1.es.length) (U : ∀e∈es',e.cells.length=k1.esz)
 (K : ∀(M':Mem)(c:Map),(∀b o v,M b o=some v->M' b o=some v)->(∀q l,ι q=some l->c q=some l) ->∀(i j:Nat) e' x',es'[i]?=some e'->e'.cells[j]?=some x' ->
  ∃N x1,k1.es[i]?=some N/\N.cells[j]?=some x1 /\∀u,VR M' dq x1 u->VR M' c x' u)
 (hW:o7 M ι H0 w y I u w'):o7 M ι H w y' H' u w':=by
 obtain⟨M',c,hv,L,m,hD⟩:=hW;have f : ∀q k,H'.get q=some k ->∃k',I.get q=some k':=by
  intro q k hq;by_cases e:q=x;·rw[e];exact⟨k1,h1⟩
  exact⟨k,B q k e hq⟩
 refine⟨M',c,?_,⟨L.mem,?_,?_⟩,⟨m.os,m.tape,m.output,m.size,?_,m.mem,m.map,?_,?_⟩,?_⟩;·exact Y _ _ _ hv
 ·intro q k O;by_cases e:q=x
  ·rw[e,J]at O;cases O;rw[e];obtain⟨l,A,p⟩:=L.live x k1 h1;refine⟨l,A,p.esz,λ_=>⟨p.esz,?_,?_,U,?_⟩,λe=>by simp only at e;omega,?_⟩
   ·obtain⟨arr,T,fz,a1,a2,a3,a4⟩:=(p.cellsOk hz).heap;refine⟨arr,T,fz,a1,a2,a3,λi j e x he J=>?_⟩;obtain⟨N,x1,b1,b2,b3⟩:=K M' c m.mem m.map i j e x he J;obtain⟨u,c1,c2,c3⟩:=a4 i j N x1 b1 b2;have hm:k1.map c=dq:=by unfold aQ.map;rw[F];rfl
    rw[hm]at c3;exact⟨u,c1,c2,b3 u c3⟩
   ·have:=(p.cellsOk hz).len;simp only;omega
   ·intro o v V;have:=p.frozen o v V;simp only;rw[C];exact this
   intro o v V;have:=p.frozen o v V;simp only;rw[C];exact this
  exact L.live q k (B q k e O)
 ·intro q q' k k' l l' h D A X;obtain⟨a,F⟩:=f q k h;obtain⟨b,p⟩:=f q' k' D;exact L.inj q q' a b l l' F p A X
 ·intro b p W;exact m.chg b p λr k l h0 A=>by
   obtain⟨k',D⟩:=n r k h0;exact W r k' l D A
 ·intro r k l h A;obtain⟨a,F⟩:=f r k h;rcases m.live r a l F A with z | ⟨G,S,R,z,Q,Z⟩
  ·exact .inl z
  obtain⟨k',D⟩:=n G S z;exact .inr ⟨G,k',R,D,Q,Z⟩
 ·intro b o x J;rcases m.new b o x J with z | z | ⟨G,S,R,z,Q,Z⟩
  ·exact .inl z
  ·exact .inr (.inl z)
  obtain⟨k',D⟩:=n G S z;exact .inr (.inr ⟨G,k',R,D,Q,Z⟩)
 intro q l A;exact C1 (hD q l A) (E _ _)
def o7.RD{M:Mem}{ι:Map}{H H0 y H':aa}{w w':World}{x:Ref}{m:Nat}{cap:Option Nat}{k1:aQ}{u:Value}{es':List AV}
 (p : ∀q k,H0.get q=some k ->∃k',H.get q=some k') (I:y.get x=some k1) (B:0<k1.esz) (z:k1.arr=true)
 (N:H'.get x=some ⟨k1.esz,es',false,k1.gJ⟩) (f : ∀q k,q≠x->H'.get q=some k->y.get q=some k) (c : ∀d t,y.gen d t<=H'.gen d t)
 (h:es'.length=k1.es.length) (A : ∀e∈es',e.cells.length=k1.esz)
 (n : ∀(M':Mem)(a:Map),(∀b o v,M b o=some v->M' b o=some v)->(∀q l,ι q=some l->a q=some l) ->∀(i j:Nat) e' x',es'[i]?=some e'->e'.cells[j]?=some x' ->
  ∃C x1,k1.es[i]?=some C/\C.cells[j]?=some x1 /\∀u,VR M' dq x1 u->VR M' a x' u)
 (O:o7 M ι H0 w (.bN x 0 m cap) y u w'):o7 M ι H w (.dsl x 0 m cap) H' u w':=
 O.W5 (λ_ _ _ E=>by cases E with | bN K L J z D G F B=>exact .dsl K L J z D G F B) p I B z N f c h A n
def o7.deep{M:Mem}{ι:Map}{H H0 z H':aa}{w w':World}{x:Ref}{m:Nat}{cap:Option Nat}{k1:aQ}{u:Value}{es':List AV}
 (y : ∀q k,H0.get q=some k ->∃k',H.get q=some k') (D:z.get x=some k1) (C:0<k1.esz) (E:k1.arr=true)
 (a : ∀q,H'.get q=if q=x then some ⟨k1.esz,es',false,k1.gJ⟩ else z.get q) (f : ∀d t,z.gen d t<=H'.gen d t)
 (n:es'.length=k1.es.length) (A : ∀e∈es',e.cells.length=k1.esz)
 (p : ∀(M':Mem)(c:Map),(∀b o v,M b o=some v->M' b o=some v)->(∀q l,ι q=some l->c q=some l) ->∀(i j:Nat) e' x',es'[i]?=some e'->e'.cells[j]?=some x' ->
  ∃B x1,k1.es[i]?=some B/\B.cells[j]?=some x1 /\∀u,VR M' dq x1 u->VR M' c x' u)
 (F:o7 M ι H0 w (.bN x 0 m cap) z u w'):o7 M ι H w (.dsl x 0 m cap) H' u w':=
 F.RD y D C E (by rw[a,if_pos rfl]) (λq k e h=>by rw[a,if_neg e]at h;exact h) f n A p
section
variable{P:Program}{M:Mem}{ι:Map}{w:World}
def xO(r:Ref)(b:Option aQ)(H:aa)(q:Ref):aa.get ((r,b) :: H) q=if r=q then b else H.get q:=rfl
def WD(r:Ref)(b:Option aQ)(H:aa)(d t:Nat):aa.gen ((r,b) :: H) d t=if r.d=d/\r.t=t then r.g+1 else H.gen d t:=rfl
def O9{H:aa}(hS:gA M ι H.get w)(hD:tT ι H){d B:Nat}{t:TypeId}{n:Nat}{vs:List (Nat × AV)}{qs:Array (Nat × Value)}{x:AV}{H':aa}
 (h:qu P H ⟨d,B,H.gen d B,0⟩ t n (some vs)=some (x,H')) (hl:vs.length=qs.toList.length)
 (hp : ∀(i:Nat) p q,vs[i]?=some p->qs.toList[i]?=some q->p.1=q.1/\VR M ι p.2 q.2) :
 ∃u w',(Instr.buildSlice t n qs).run P w = .ok u w'/\o7 M ι H w x H' u w':=by
 unfold qu at h;split at h
 ·rename_i cs e J he;simp only[dG]at J;subst J;split at h
  ·rename_i z s hz hs;obtain⟨I,hh⟩:=eK.1 h;clear h;obtain⟨hn1,h0,h1,h2,h3,h4,h5⟩:=I;subst hn1;injection hh with hh
   injection hh with g1 g2
   subst g1;subst g2;obtain⟨q,G⟩ : ∃q,qs.toList=[q]:=List.length_eq_one_iff.1 hl.symm;obtain⟨q1,D⟩:=hp 0 _ q rfl (by rw[G];rfl);obtain⟨k,S⟩:=q;simp only at q1 D;subst q1;have b:=D.cells;have V:S.cells.size=s:=by have:=b.1;simp[AV.cells]at this;omega
   obtain⟨F,a⟩ : ∃F:List AV,F=S.cells.toList.map AV.Bc:=⟨_,rfl⟩;have m : ∀u∈S.cells.toList,u.oneCell'=true:=(by intro u f;obtain⟨i,hi⟩:=List.mem_iff_getElem?.1 f;have hi':=(ew.1 hi).1;obtain⟨y,hy⟩ : ∃y,(AV.agg cs).cells[i]?=some y:=⟨_,dy (by rw[b.1];exact hi')⟩;refine(b.2 i y u hy hi).one ?_;rw[gx]at h5;exact h5 y (dJ hy));have X:VR M dq (.agg F) (.agg S.cells):=(by refine .agg (by rw[a];simp) λi c u I f=>?_;rw[a,k5]at I;rw[<-Gz]at f;rw[f]at I;cases I;exact .Bc (m u (dJ f)));obtain⟨it,Z,Q,hiz,hzu⟩:=tE hz;obtain⟨ie,U,hsz⟩:=vH hs;rw[Q]at U;cases U;have Y:=jo (M:=M) (ι:=dq) hzu;have L:Z.cells.size=s:=by have:=Y.cells.1;simp at this;omega
   have C:=Row.replicate Y h2 h3 1;have v:Row M s (List.replicate 1 z) ((Array.range (1 * s)).map (Z.cells[· % Z.cells.size]!)).toList:=(by have:=w7 (zs:=Z.cells) (n:=1) (by omega);rw[L]at this;rw[L,this];exact C);have T : ∃us,S = .agg us:=by cases D with | agg hl h=>exact⟨_,rfl⟩
   obtain⟨us,rfl⟩:=T;have hcu:(Value.agg us).cells=us:=rfl;rw[hcu]at X V a m b;obtain⟨h7,l,h8,h9⟩:=DW (M:=M) [(0,AV.agg F)] [(0,Value.agg us)] (List.replicate 1 z) [.agg F] _ rfl v rfl (λi p q hp G=>by
    match i,hp,G with
    | 0,hp,G=>cases hp;cases G;exact⟨rfl,X⟩) (by
    intro p K;simp only[nc]at K;subst K;refine⟨by simp[AV.cells,a,V],?_⟩;rw[a];simp[AV.cells,AV.one])
   have N:(Instr.buildSlice t 1 qs).run P w = .ok (.slice (some ⟨w.heap.size,0,none⟩) 1 1) (w.alloc (.cells l e)):=(by have hle : ¬16777216<1 * s:=(by omega);have hn0 : ¬1 * s=0:=(by omega);simp only[Instr.buildSlice,iQe,bh (gD he),iQd,run_sizeOf hs,gt_iff_lt];rw[if_neg hle,if_neg hn0];simp only[iQe,zeroValue,typeInfo,Q,hiz,run_program,iQd,iQh,G,h8];simp[newRow]);have A:Ek w (w.alloc (.cells l e)) (.cells l e (0,0)):=⟨rfl,rfl,rfl,rfl⟩;have O:l.size=1 * s:=(by rw[<-B4,h9.len];rfl);have hqo:=vk (r:=⟨d,B,H.gen d B,0⟩) hS rfl (hD.fresh d B 0) A h9 (λk u f=>by simpa using f) (n:=1) (c:=1) O (CR.zero _ _) (cH _) (cH _) (cap:=some 1) (by intro k E;cases E;rfl) h0;have hW:=hqo.toW hD;refine⟨_,_,N,hW.RD (k1:=⟨s,[.agg F],true,false⟩) (es':=[.agg cs]) (λq k E=>⟨k,E⟩) ?_ h0 rfl ?_ ?_ ?_ rfl ?_ ?_⟩;·simp[keyed,aa.get]
   ·simp[aa.get]
   ·intro q k hne E;have W : ¬(⟨d,B,H.gen d B,0⟩:Ref)=q:=λe=>hne e.symm;simp only[aa.get,if_neg W,keyed]at E ⊢;exact E
   ·intro d' t';exact cH _
   ·intro e he;simp only[nc]at he;subst he;exact h4
   intro M' ι' hM hι i j e' x' o R;match i,o with
   | 0,o=>cases o;have hj:=(ew.1 R).1;obtain⟨u,f⟩ : ∃u,us.toList[j]?=some u:=⟨_,dy (by rw[<-b.1];exact hj)⟩;refine⟨_,.Bc u,rfl,by simp only[AV.cells,a,k5,f];rfl,λu' hu'=>?_⟩;have h6:=b.2 j x' u R f;cases hu' with | Bc _=>exact h6.mono hM ι' hι
  cases h
 cases h
def DD{k:aQ}{a:List AV}(E:a.length=k.es.length)(G : ∀e∈a,e.cells.length=k.esz)(H : ∀e∈k.es,e.cells.length=k.esz)(I : ∀(i j:Nat) e x,a[i]?=some e->e.cells[j]?=some x ->∃u t x0,x = .Bc u/\k.es[i]?=some t/\t.cells[j]?=some x0/\VR M ι x0 u)
 {M':Mem} {c:Map} (J : ∀b o v,M b o=some v->M' b o=some v) (m : ∀q l,ι q=some l->c q=some l) {i j:Nat} {B p:AV} (d:k.es[i]?=some B) (h:B.cells[j]?=some p) :
 ∃y x1,a[i]?=some y/\y.cells[j]?=some x1 /\∀u,VR M' dq x1 u->VR M' c p u:=by
 have C:i<a.length:=by rw[E];exact(ew.1 d).1
 have n:a[i]?=some a[i]:=dy C;have F:j<a[i].cells.length:=by
  have z:=(ew.1 h).1;rw[H _ (dJ d)]at z;rw[G _ (je C)];exact z
 have A:a[i].cells[j]?=some a[i].cells[j]:=dy F;obtain⟨u,N,L,b1,b2,b3,D⟩:=I i j _ _ n A;rw[d]at b2;cases b2;rw[h]at b3;cases b3;refine⟨_,_,n,A,λK f=>?_⟩;rw[b1]at f;cases f with | Bc _=>exact D.mono J c m
def Um{H:aa}(hS:gA M ι H.get w)(hD:tT ι H){d A:Nat}{ts:Array TypeId}{ty:TypeId}{s x y:AV}{us ux:Value}(hs:VR M ι s us)(hx:VR M ι x ux){H':aa}
 (h:yf P H ⟨d,A,H.gen d A,0⟩ ts[0]? ts[1]? s x=some (y,H')) : ∃u w',(Builtin.append_ ts ty #[us,ux]).run P w = .ok u w'/\o7 M ι H w y H' u w':=by
 unfold yf at h;split at h
 ·rename_i e I m cx he;split at h;·cases h
  rename_i hc;split at h
  ·rename_i z by' zz a hz X hzz E;split at h;·cases h
   rename_i f;have hax:a.arr=false:=by
    cases hh:a.arr with| false=>rfl| true=>exact absurd (.inl hh) f
   have hbxe:a=⟨a.esz,a.es,false,a.gJ⟩:=by cases a;simp only at hax;subst hax;rfl
   have R:a.esz=z:=wI.1 λh=>f (.inr (.inl h));have hz0:z≠0:=λh=>f (.inr (.inr (.inl h)));have hb0:by'≠0:=λh=>f (.inr (.inr (.inr (.inl h))));have hn0:a.es≠[]:=λh=>f (.inr (.inr (.inr (.inr (.inl h)))));have hzl:zz.cells.length=z:=wI.1 λh=>f (.inr (.inr (.inr (.inr (.inr (.inl h))))));have hm:m=a.es.length:=wI.1 λh=>f (.inr (.inr (.inr (.inr (.inr (.inr h))))));have Q : ∀e∈a.es,e.cells.length=z:=(by obtain⟨l,_,X⟩:=hS.live I a E;rw[<-R];exact(X.cellsOk (by omega)).cells);obtain⟨c,O,a2,a3,a4⟩:=hS.Bc E hax (by omega);obtain⟨H0,hH0⟩ : ∃H0,H0=H.put I (some ⟨a.esz,c,true,a.gJ⟩):=⟨_,rfl⟩;rw[<-hH0]at a3;have T : ∀q,H0.get q=if q=I then some ⟨a.esz,c,true,a.gJ⟩ else H.get q:=λq=>by rw[hH0,aa.get_put]
   have B : ∀d t,H0.gen d t=H.gen d t:=λd t=>by rw[hH0,aa.jJ _ _ _ (by rw[E];rfl)]
   have hD0:tT ι H0:=λq l hl=>by rw[B];exact hD q l hl
   have hx0:VR M ι (.bN I 0 m cx) ux:=by cases hx with | dsl hr X hs ha hc hn o hz=>exact .bN hr X hs ha hc hn o hz
   have hrx:H0.get I=some ⟨a.esz,c,true,a.gJ⟩:=(by rw[T,if_pos rfl]);have hel : ∀K:aa,K.get I=some ⟨a.esz,c,true,a.gJ⟩->oe P K.get e (.bN I 0 m cx)=some (z,c):=by
    intro K hK;have e1:(c.drop 0).take m=c:=by
     rw[Cx,hm,<-O,AT]
    simp only[oe,cL,hK];rw[if_pos ⟨trivial,by omega⟩,e1,R]
   have hne0:c≠[]:=λh=>hn0 (Fu.1 (by rw[<-O,h];rfl));have hc0 : ¬((ts[1]?.bind P.underlying).isNone=true\/(ts[1]?.map (isInt P)).getD false≠isNum (.bN I 0 m cx)):=hc;have W : ∀q k,H0.get q=some k ->∃k',H.get q=some k':=by
    intro q k F;rw[T]at F;split at F;·rename_i e;rw[e];exact⟨a,E⟩
    exact⟨k,F⟩
   split at h
   ·obtain⟨N,h⟩:=eK.1 h;cases h;have hfr0:=hD.fresh d A 0;have n:H.get ⟨d,A,H.gen d A,0⟩=none:=by
     cases hg:H.get ⟨d,A,H.gen d A,0⟩ with| none=>rfl| some b=>obtain⟨l,hl,_⟩:=hS.live _ _ hg;rw[hl]at hfr0;cases hfr0
    have hne:(⟨d,A,H.gen d A,0⟩:Ref)≠I:=λe=>by rw[e,E]at n;cases n
    have F:fu P H0.get ⟨d,A,H0.gen d A,0⟩ ts[0]? ts[1]? (.v (.slice none 0 0)) (.bN I 0 m cx)=some (.bN ⟨d,A,H0.gen d A,0⟩ 0 c.length none,[⟨z,c,true,false⟩]):=(by simp only[fu,he,if_neg hc0,hz,X,hzz,hel H0 hrx];rw[if_neg (λh=>h.elim (λh=>h rfl) λh=>h.elim hz0 λh=>h.elim hb0 λh=>h hzl),if_neg hne0,if_pos (by rw[O,<-hm];exact N)]);obtain⟨u,w',h5,h6⟩:=HY (P:=P) (ty:=ty) a3 rfl (hD0.fresh d A 0) hs hx0 F;have hW:=h6.toW hD0;rw[B,O,<-hm]at hW;have D : ¬(⟨d,A,H.gen d A,0⟩:Ref)=I:=hne;have S:=hW.RD (H:=H) (H':=(⟨d,A,H.gen d A,0⟩,some ⟨z,a.es,false,false⟩) :: H0) (k1:=⟨z,c,true,false⟩) (es':=a.es) W (by simp[keyed,aa.get]) (by simp only;omega) rfl (by simp[aa.get])
     (λq k F o=>by
      have hq' : ¬(⟨d,A,H.gen d A,0⟩:Ref)=q:=λe=>F e.symm;simp only[keyed];rw[xO,if_neg hq']at o ⊢;exact o) (by intro d' t';exact cH _) O.symm Q
     (λM' ι' hM G i j e' x' p C=>DD (k:=a) O a2 (by rw[R];exact Q) a4 hM G p C)
    refine⟨u,w',h5,S.W5 (λ_ _ _ h=>h) (x:=I) (k1:=⟨a.esz,c,true,a.gJ⟩) (es':=a.es) (λq k h=>⟨k,h⟩) ?_ (by simp only;omega) rfl ?_ ?_ ?_ O.symm (by simp only;rw[R];exact Q) λM' ι' hM G i j e' x' p C=>DD (k:=a) O a2 (by rw[R];exact Q) a4 hM G p C⟩;·rw[xO,if_neg D];exact hrx
    ·rw[xO,if_neg D,E,hbxe]
    ·intro q k F o;rw[xO]at o ⊢;split at o;·rename_i e;rw[if_pos e];exact o
     rename_i e;rw[if_neg e,T,if_neg F];exact o
    intro d' t';simp only[WD,B];exact cH _
   ·rename_i r' len;split at h
    ·rename_i b Z;obtain⟨⟨har,hrz,hlen,Y,N⟩,h⟩:=eK.1 h;cases h;have hbr0:H0.get r'=some b:=by rw[T,if_neg Y];exact Z
     have hcr : ∀e∈b.es,e.cells.length=z:=(by obtain⟨l,_,X⟩:=hS.live r' b Z;rw[<-hrz];exact(X.cellsOk (by omega)).cells);obtain⟨V,c1,c2,c3,c4⟩:=a3.Bc hbr0 har (by omega);obtain⟨J,hH1⟩ : ∃J,J=H0.put r' (some ⟨b.esz,V,true,b.gJ⟩):=⟨_,rfl⟩;rw[<-hH1]at c3;have hg1 : ∀q,J.get q=if q=r' then some ⟨b.esz,V,true,b.gJ⟩ else H0.get q:=λq=>by rw[hH1,aa.get_put]
     have L : ∀d t,J.gen d t=H.gen d t:=λd t=>by rw[hH1,aa.jJ _ _ _ (by rw[hbr0];rfl),B]
     have hD1:tT ι J:=λq l hl=>by rw[L];exact hD q l hl
     have hs0:VR M ι (.bN r' 0 len none) us:=by cases hs with | dsl hr X hs ha hc hn o hz=>exact .bN hr X hs ha hc hn o hz
     have hr1:J.get r'=some ⟨b.esz,V,true,b.gJ⟩:=(by rw[hg1,if_pos rfl]);have hrx1:J.get I=some ⟨a.esz,c,true,a.gJ⟩:=by rw[hg1,if_neg (λe=>Y e.symm)];exact hrx
     have hdom1 : ∀q k,J.get q=some k ->∃k',H.get q=some k':=by
      intro q k F;rw[hg1]at F;split at F;·rename_i e;rw[e];exact⟨b,Z⟩
      exact W q k F
     have hw:lx P J ts[0]? ts[1]? (.bN r' 0 len none) (.bN I 0 m cx)=some (.bN ⟨r'.d,r'.t,J.gen r'.d r'.t,0⟩ 0 (len+c.length) none,(⟨r'.d,r'.t,J.gen r'.d r'.t,0⟩,some ⟨z,V++c,true,b.gJ⟩) :: J.put r' none):=(by simp only[lx,he,if_neg hc0,hz,X,hzz,hel J hrx1];rw[if_neg (λh=>h.elim (λh=>h rfl) λh=>h.elim hz0 λh=>h.elim hb0 λh=>h.elim hne0 λh=>h hzl)];simp only[hr1];rw[if_pos ⟨trivial,trivial,hrz,by rw[c1];exact hlen,by rw[O,<-hm];exact N⟩]);obtain⟨u,w',h5,hW⟩:=G8 (P:=P) (ty:=ty) c3 hD1 hs0 hx0 hw;rw[L,O,<-hm]at hW;have hcat : ∀e∈b.es++a.es,e.cells.length=z:=λe he=>(iN.1 he).elim (hcr e) (Q e);have hcr' : ∀e∈b.es,e.cells.length=b.esz:=by rw[hrz];exact hcr
     have U : ∀e∈a.es,e.cells.length=a.esz:=by rw[R];exact Q
     have n:H.get ⟨r'.d,r'.t,H.gen r'.d r'.t,0⟩=none:=by
      cases hg:H.get ⟨r'.d,r'.t,H.gen r'.d r'.t,0⟩ with| none=>rfl| some b=>obtain⟨l,hl,_⟩:=hS.live _ _ hg;exact absurd (hD _ _ hl) (AH _)
     have D : ¬(⟨r'.d,r'.t,H.gen r'.d r'.t,0⟩:Ref)=I:=λe=>by rw[e,E]at n;cases n
     have s3:(J.get r').isSome=true:=by rw[hr1];rfl
     have s4:(H.get r').isSome=true:=by rw[Z];rfl
     have S:=hW.RD (H:=H) (H':=(⟨r'.d,r'.t,H.gen r'.d r'.t,0⟩,some ⟨z,b.es++a.es,false,b.gJ⟩) :: J.put r' none) (k1:=⟨z,V++c,true,b.gJ⟩) (es':=b.es++a.es) hdom1 (by rw[xO,if_pos rfl]) (by simp only;omega) rfl (by rw[xO,if_pos rfl])
      (λq k F o=>by
       have hq' : ¬(⟨r'.d,r'.t,H.gen r'.d r'.t,0⟩:Ref)=q:=λe=>F e.symm;rw[xO,if_neg hq']at o ⊢;exact o) (by intro d' t';exact cH _) (by simp only[mI,O,c1]) hcat
      (λM' ι' hM G i j e' x' p C=>by
       rcases eC i b.es.length with hlt | hge
       ·rw[kA hlt]at p;obtain⟨e1,x1,g1,g2,g3⟩:=DD (k:=b) c1 c2 hcr' c4 hM G p C;exact⟨e1,x1,by rw[kA (by omega)];exact g1,g2,g3⟩
       rw[jP hge]at p;obtain⟨e1,x1,g1,g2,g3⟩:=DD (k:=a) O a2 U a4 hM G p C;exact⟨e1,x1,by rw[jP (by omega),c1];exact g1,g2,g3⟩)
     refine⟨u,w',h5,S.W5 (λ_ _ _ h=>h) (x:=I) (k1:=⟨a.esz,c,true,a.gJ⟩) (es':=a.es) (λq k h=>⟨k,h⟩) ?_ (by simp only;omega) rfl ?_ ?_ ?_ O.symm (by simp only;exact U) λM' ι' hM G i j e' x' p C=>DD (k:=a) O a2 U a4 hM G p C⟩;·rw[xO,if_neg D,aa.get_put,if_neg (λe=>Y e.symm)];exact hrx1
     ·rw[xO,if_neg D,aa.get_put,if_neg (λe=>Y e.symm),E,hbxe]
     ·intro q k F o;rw[xO]at o ⊢;split at o;·rename_i e;rw[if_pos e];exact o
      rename_i e;rw[if_neg e,aa.get_put];rw[aa.get_put]at o;split at o;·cases o
      rename_i n1;rw[if_neg n1,hg1,if_neg n1,T,if_neg F];exact o
     intro d' t';simp only[WD,aa.jJ _ _ _ s3,aa.jJ _ _ _ s4,L];exact cH _
    cases h
   cases h
  cases h
 cases h
end
end
end Go.Ab
