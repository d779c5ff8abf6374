/-
  What the abstract machine's quiet operations give is what the model's give: the first part. No statement of a seat is proved here.
-/
import Derived.Lib.Overlaps
import Derived.Lib.SliceRun
import Derived.WalkSpells
import Derived.Test.YtmjkpdknicjjgaaGreatAbsCore
set_option linter.unusedVariables false
set_option linter.unusedSimpArgs false
set_option linter.unusedSectionVars false
set_option linter.unnecessarySimpa false
set_option linter.defProp false
namespace Go.Ab
section
def sj(g:cL)(r:Ref)(bs:List aY):cL:=λq=>if q.d=r.d/\q.t=r.t/\q.g=r.g/\q.k<bs.length then bs[q.k]? else g q
def nj(g:cL)(r:Ref):sj g r []=g:=by funext q;simp[sj]
def qX(g:cL)(r:Ref)(a:r.k=0)(b:aY):sj g r [b]=lL g r b:=by
 funext q;unfold sj lL;by_cases h:q=r;·subst h;simp[a]
 rw[if_neg h,if_neg];intro c;apply h;cases q;cases r;simp_all
structure TR (M:Mem) (ι:Map) (tm:List AV) (a:Act):Prop where
 at_ : ∀t,VR M ι (cX tm t) (a.tmps.getD t undef)
def TR.mono{M ι tm a M' ι'}(h:TR M ι tm a)(d : ∀b o x,M b o=some x->M' b o=some x)(c : ∀r l,ι r=some l->ι' r=some l):TR M' ι' tm a:=
 ⟨λt=>(h.at_ t).mono d ι' c⟩
def aU{M ι tm a}(h:TR M ι tm a){x:Operand}{y:AV}(b:aL tm x=some y):VR M ι y (a.eval x):=by
 cases x with| tmp t=>simp[aL]at b;subst b;exact h.at_ t| const v=>simp only[aL]at b;exact jo b| global g=>simp[aL]at b| func f=>simp[aL]at b;subst b;exact .fn rfl rfl (λi c u d=>by simp at d) (λi c u d=>by simp at d)
def ml{M ι tm a}(h:TR M ι tm a){e:List Operand}{ys:List AV}(d:e.mapM (aL tm)=some ys):lI M ι ys (e.map a.eval):=
 ⟨by simpa using gK d,λi y u j c=>by
  obtain⟨x,b,f⟩:=ot d i y j;simp only[kR,b,Option.map_some,dV]at c;subst c;exact aU h f⟩
def jS(M:Mem)(ι:Map)(g:cL)(w:World)(r:Ref)(x:AV)(bs:List aY)(u:Value)(w':World):Prop:=
 ∃M' a,VR M' a x u/\gA M' a (sj g r bs) w'/\tz M ι g w M' a (sj g r bs) w' /\∀q,ι q=none->(∀k,k<bs.length->q ≠ { r with k:=k})->a q=none
def jS.same{M ι g w r x u}(b:gA M ι g w)(h:VR M ι x u):jS M ι g w r x [] u w:=
 ⟨M,ι,h,by rw[nj];exact b,by rw[nj];exact tz.refl,λq a _=>a⟩
def gA.drew{M ι g w w'}(a:gA M ι g w)(c:w'.heap=w.heap):gA M ι g w':=
 ⟨λb o x h=>by rw[iQk (w:=w) (by rw[c])];exact a.mem b o x h,λr k h=>by
  obtain⟨l,e,d⟩:=a.live r k h;exact⟨l,e,d.bk (λ_ _ _ h=>h) (λ_ _ h=>h) (by rw[c]) d.frozen⟩,a.inj⟩
def FW(ro:Option Nat):Fence := { Fence.wide with round:=ro}
def eR(P:Program)(o:Oper)(a:Act)(w:World)(S:Value->World->Prop):Prop:=
 ∀(ro:Option Nat)(K:Act->World->Prop)(Q:Exit->Act->World->Prop),(∀u w',S u w'->K (a.put o.dst u) w')->o.wpIn (FW ro) 0 P a w K Q
def z7{P:Program}{o:Oper}{a:Operand->Value}{w w':World}{x:Next}(ro:Option Nat)(h:(execOp a o).run P w = .ok x w')(i : ∀d,x ≠ .defer d):(Oper.semAt ro a o).run P w = .ok x w':=by
 by_cases hd : ∃c,o.op = .defer c
 ·exfalso;obtain⟨c,b⟩:=hd;simp only[execOp,b]at h;rw[iQe]at h;cases f:(resolve a c o.type).run P w with
  | ok d j=>rw[f]at h;simp only[iQd,iQj,Result.ok.injEq]at h;exact i _ h.1.symm
  | halt e j=>rw[f]at h;cases h
 rw[Oper.semAt_eq ro a o λc b=>hd ⟨c,b⟩];exact h
def eR.jZ{P o a w S u w'}(b:(execOp a.eval o).run P w = .ok (.value u) w')(h:S u w'):eR P o a w S:=by
 intro ro K Q c;refine⟨λ_ _=>trivial,?_⟩;rw[z7 (x := .value u) (FW ro).round b (by intro d e;cases e)];exact c _ _ h
def eR.E2{P o a w S w'}(b:(execOp a.eval o).run P w = .ok .skip w')(h:S undef w'):eR P o a w S:=by
 intro ro K Q c;refine⟨λ_ _=>trivial,?_⟩;rw[z7 (x := .skip) (FW ro).round b (by intro d e;cases e)];exact c _ _ h
def eR.GK{P o a w S f args w0}(i:(execOp a.eval o).run P w = .ok (.enter f args) w0)(h:Calls P f args w0 λe w' =>∃u,e = .returned u/\S u w'):eR P o a w S:=by
 intro ro K Q j;refine⟨λ_ _=>trivial,?_⟩;rw[z7 (x := .enter f args) (FW ro).round i (by intro d e;cases e)];refine⟨λh=>absurd h (by simp[FW,Fence.wide]),?_⟩;have c:CallsIn Fence.wide 0 P f args w0 λe w' =>∃u,e = .returned u/\S u w':=callsIn_wide.2 h;have b:CallsIn (FW ro) (0 - 1) P f args w0 λe w' =>∃u,e = .returned u/\S u w':=c;refine b.mono λe w' ⟨u,he,hS⟩=>?_;subst he;exact j _ _ hS
def eR.Us{P o a w S l f tmps assign body w0}(c:(execOp a.eval o).run P w = .ok (.round l f tmps assign body) w0)(h:RoundIn (FW none) 0 P l f tmps assign body w0 λe w' =>∃u,e = .returned u/\S u w'):eR P o a w S:=by
 intro ro K Q i;refine⟨λ_ _=>trivial,?_⟩;rw[z7 (x := .round l f tmps assign body) (FW ro).round c (by intro d e;cases e)];refine⟨λh=>absurd h (by simp[FW,Fence.wide]),?_⟩;have b:RoundIn (FW ro) (0 - 1) P l f tmps assign body w0 λe w' =>∃u,e = .returned u/\S u w':=h;refine b.mono λe w' ⟨u,he,hS⟩=>?_;subst he;exact i _ _ hS
def iC(a:Act)(d:Option Tmp)(u:Value):(a.put d u).defers=a.defers:=by cases d<;>rfl
def Gj{P:Program}{s:Sem Value}{w w':World}{u:Value}(h:s.run P w = .ok u w'):(do pure (Next.value (<-s)):Sem Next).run P w = .ok (.value u) w':=by
 simp[h]
section
variable{P:Program}{M:Mem}{ι:Map}{g:cL}{w:World}{r:Ref}
def Ap{x:AV}{u:Value}{b:Bool}(h:VR M ι x u)(a:DU x=some b):u = .bool b:=by
 cases h<;>simp[DU]at a;split at a<;>simp_all
def xr{x:AV}{u:Value}{n:Int}(h:VR M ι x u)(a:Ab.tC x=some n) : ∃k,u = .int k n:=by
 cases h<;>simp[Ab.tC]at a;split at a<;>simp_all
def Ux(z:gA M ι g w)(p:r.k=0)(B:ι r=none){e:TypeId}{n:Nat}{x:AV}{u:Value}(t:VR M ι x u)(D:x.cells.length=n)(h:x.cells.all AV.one=true)(m:0<n) :
 ∃w',(Instr.box e u).run P w = .ok (.pointer (some ⟨w.heap.size,0,none⟩)) w'/\jS M ι g w r (.ptr r 0 0) [⟨n,[x],false,false⟩] (.pointer (some ⟨w.heap.size,0,none⟩)) w':=by
 have a:=t.cells;have f:u.cells.size=n:=by have:=a.1;simp at this;omega
 obtain⟨A,s⟩:=z.alloc (q:=r) B (w':=w.alloc (.cells u.cells e)) (arr:=u.cells) (T:=e) (fz:=(0,0)) ⟨rfl,rfl,rfl,rfl⟩ ⟨n,[x],false,false⟩ m 1 (by simpa using f) (BP.zero _ _) (by simp) (by simp[D])
  (by
   intro i j E y d b;cases i with
   | succ i=>simp at d
   | zero=>
    simp at d;subst d;have o:j<u.cells.size:=by have:=(dT.1 b).1;omega
    refine⟨u.cells[j],by simp,?_,?_⟩;·have v:=a.2 j y u.cells[j] b (by simp[o]);exact v.one (by simp only[dY]at h;exact h y (fZ b))
    simpa [aY.map] using a.2 j y u.cells[j] b (by simp[o]))
 refine⟨w.alloc (.cells u.cells e),by simp[Instr.box,newVar,newRow],M,_,?_,by rw[qX _ _ p];exact A,by rw[qX _ _ p];exact s,?_⟩;·have:=VR.ptr (M:=M) (ι:=iq ι r ⟨w.heap.size,n,1⟩) (r:=r) (i:=0) (j:=0) (l:=⟨w.heap.size,n,1⟩) (by simp[iq]) m;simpa using this
 intro q c C;have:q≠r:=by intro e;exact C 0 (by simp) (by rw[e];cases r;simp_all)
 simpa [iq,this] using c
def Rn(b:gA M ι g w)(l:r.k=0)(f:ι r=none){e:TypeId}{x:AV}{bs:List aY}(h:uD P r e=some (x,bs)) :
 ∃u w',(Instr.alloc e true (.tuple #[])).run P w = .ok u w'/\jS M ι g w r x bs u w':=by
 unfold uD at h;split at h
 ·rename_i z n m o;split at h
  ·rename_i a;cases h;obtain⟨u,c,j⟩:=xf m w;obtain⟨w',i,d⟩:=Ux (P:=P) (e:=e) b l f (jo j) a.1 a.2.1 a.2.2;refine⟨_,w',?_,d⟩;have:(Instr.alloc e true (.tuple #[])).run P w=(Instr.box e u).run P w:=by simp[Instr.alloc,c,Instr.box]
   rw[this];exact i
  cases h
 cases h
def Xo(c:gA M ι g w)(l:r.k=0)(f:ι r=none){e:TypeId}{y x:AV}{b:Value}(m:VR M ι y b){bs:List aY}(h:HU P r e (some y)=some (x,bs)) :
 ∃u w',(Instr.box e b).run P w = .ok u w'/\jS M ι g w r x bs u w':=by
 unfold HU at h;split at h
 ·rename_i p n i o;cases i;split at h;·rename_i a;cases h;obtain⟨w',j,d⟩:=Ux (P:=P) (e:=e) c l f m a.1 a.2.1 a.2.2;exact⟨_,w',j,d⟩
  cases h
 cases h
def T7(k:gA M ι g w){t:TypeId}{y x:AV}{f:Value}(l:VR M ι y f){bs:List aY}(h:nh P g t (some y)=some (x,bs)) :
 bs=[] /\∃u,(Instr.loadAt t f).run P w = .ok u w/\VR M ι x u:=by
 unfold nh at h;split at h
 ·rename_i r' i j o n c d e;cases c;split at h;·rename_i b m;simp only[jI,bG]at h;obtain⟨p,a,c⟩:=h;cases c;exact⟨rfl,PS d e k l m a⟩
  cases h
 ·rename_i esz es i j o n c d e;cases c;simp only[jI,bG]at h;obtain⟨p,a,c⟩:=h;cases c;exact⟨rfl,U0 d e k.mem l a⟩
 cases h
def PJ{t:TypeId}{cs:List AV}{c:Array Value}{a:Nat}{x:AV}(f:lI M ι cs c.toList)(h:zw P t cs a=some x) : ∃u,(part t c a).run P w = .ok u w/\VR M ι x u:=by
 unfold zw at h;split at h
 ·rename_i n d j;split at h
  ·rename_i i;cases h;refine⟨.agg (c.extract a (a+n)),by simp[part,z9 d,cF j],VR.pv.2 ?_⟩;have:=(f.drop a).take n;have e:(c.extract a (a+n)).toList=(c.toList.drop a).take n:=by
    rw[M6,Nb,Jl]
   rw[e];exact this
  cases h
 ·rename_i d;have k:=(dT.1 h).1;have b:a<c.size:=by have:=f.1;simp at this;omega
  refine⟨c[a],by simp[part,z9 d,kn b],f.2 a x _ h (by simp[b])⟩
 cases h
def VR.Qm{cs:List AV}{u:Value}(h:VR M ι (.agg cs) u) : ∃a,u = .agg a/\lI M ι cs a.toList:=by
 cases h with | agg c b=>exact⟨_,rfl,VR.pv.1 (.agg c b)⟩
def Ip{t:TypeId}{f b:Nat}{i:TypeId}(h:rU P t f=some (b,i)) : ∃c a,P.underlying t=some (.struct c)/\c[f]?=some a/\a.offset=b/\a.type=i:=by
 unfold rU at h;split at h;·rename_i c d;simp only[bG]at h;obtain⟨a,e,he⟩:=h;cases he;exact⟨c,a,d,e,rfl,rfl⟩
 cases h
def Rl{t:TypeId}{f:Nat}{y x:AV}{d:Value}(k:VR M ι y d){bs:List aY}(h:tf P t (some y) f=some (x,bs)) :
 bs=[] /\∃u,(Instr.field t d f).run P w = .ok u w/\VR M ι x u:=by
 unfold tf at h;split at h;·rename_i n s cs m c;cases c;simp only[jI,bG]at h;obtain⟨o,a,c⟩:=h;cases c;obtain⟨q,rfl,b⟩:=k.Qm;obtain⟨p,fd,j,l,rfl,rfl⟩:=Ip m;obtain⟨u,e,i⟩:=PJ (w:=w) b a;exact⟨rfl,u,by simp[Instr.field,bB j,l,asAgg,e],i⟩
 cases h
def G7{t:TypeId}{f b s:Nat}(h:aF P t f=some (b,s)) : ∃c a,P.underlying t=some (.struct c)/\c[f]?=some a/\a.offset=b/\aH P a.type=some s:=by
 unfold aF at h;split at h;·rename_i d o l;simp only[bG]at h;obtain⟨n,j,he⟩:=h;cases he;obtain⟨c,a,m,i,e,k⟩:=Ip l;exact⟨c,a,m,i,e,k ▸ j⟩
 cases h
def HT{t:TypeId}{f:Nat}{y x:AV}{c:Value}(k:VR M ι y c){bs:List aY}(h:iB P t (some y) f=some (x,bs)) :
 bs=[] /\∃u,(Instr.fieldAt t c f).run P w = .ok u w/\VR M ι x u:=by
 unfold iB at h;split at h
 ·rename_i C s B;obtain⟨E,fd,z,A,rfl,v⟩:=G7 B;split at h
  ·rename_i D;have m : ∀(b o:Nat),c = .pointer (some ⟨b,o,none⟩)->(Instr.fieldAt t c f).run P w = .ok (.pointer (some ⟨b,o+fd.offset,none⟩)) w:=by
    intro b o e;subst e;simp[Instr.fieldAt,bB z,A,Instr.sureAddr,fieldPlace,cF v,show s≠0 by omega,gP]
   split at h
   ·rename_i r' i j a;cases a;cases h;cases k with | ptr q d=>
    rename_i l;exact⟨rfl,_,m _ _ rfl,by rw[Fp];exact .ptr q d⟩
   ·rename_i n es i j a;cases a;cases h;cases k with | iptr cell hm a p=>
    rename_i b o;exact⟨rfl,_,m _ _ rfl,by rw[show o+(i * n+j)+fd.offset=o+(i * n+(j+fd.offset)) by omega];exact .iptr cell hm a p⟩
   cases h
  cases h
 cases h
def gH{t e:TypeId}(h:cu P t=some e):P.underlying t=some (.slice e):=by
 unfold cu at h;split at h;·cases h;assumption
 cases h
def EX{t e:TypeId}{n:Nat}(h:mC P t=some (n,e)):P.underlying t=some (.array n e):=by
 unfold mC at h;split at h;·cases h;assumption
 cases h
def HS(V:gA M ι g w){t:TypeId}{y z x:AV}{O W:Value}(I:VR M ι y O)(hz:VR M ι z W){bs:List aY}(h:bK P g t (some y) (some z)=some (x,bs)) :
 bs=[] /\∃u,(Instr.indexAt t O W).run P w = .ok u w/\VR M ι x u:=by
 unfold bK at h;simp only[dX]at h;split at h
 ·rename_i k hk;obtain⟨ki,rfl⟩:=xr hz hk;split at h
  ·rename_i e T;have L:=gH T;split at h
   ·rename_i esz es cap s d B;cases d;split at h
    ·rename_i v;obtain⟨G,C,rfl⟩:=v;cases h;cases I with | bq cell f H J hm S R=>
     rename_i a c;refine⟨rfl,.pointer (some (a.add (k.toNat * s))),?_,?_⟩;·simp[Instr.indexAt,asIntOf,bB L,G,C,cF B]
     have f:=f.resolve_right (by intro e;subst e;simp at C;omega);rw[kf f,gP];have:=VR.iptr (M:=M) (ι:=ι) (i:=k.toNat) (j:=0) (b:=a.block) (o:=a.off) cell hm S R;simpa using this
    cases h
   ·rename_i r' A len cap s d B;cases d;split at h
    ·rename_i b Q;split at h
     ·rename_i v;obtain⟨G,C,F⟩:=v;cases h;cases I with | bA K E f N H hn J p=>
      rename_i l a c;obtain⟨l',m,D⟩:=V.live r' b Q;rw[K]at m;cases m;refine⟨rfl,.pointer (some (a.add (k.toNat * s))),?_,?_⟩;·simp[Instr.indexAt,asIntOf,bB L,G,C,cF B]
      have q:a.off=A * l.esz:=by
       rcases N with h | h
       ·omega
       exact h
      rw[kf f,gP,E,q,F,<-D.esz,<-lT];have:=VR.ptr (M:=M) (ι:=ι) (i:=A+k.toNat) (j:=0) K p;simpa using this
     cases h
    cases h
   ·rename_i r' A len cap s d B;cases d;split at h
    ·rename_i b Q;split at h
     ·rename_i v;obtain⟨G,C,F⟩:=v;cases h;cases I with | dsl K E f N H hn J p=>
      rename_i l a c;obtain⟨l',m,D⟩:=V.live r' b Q;rw[K]at m;cases m;refine⟨rfl,.pointer (some (a.add (k.toNat * s))),?_,?_⟩;·simp[Instr.indexAt,asIntOf,bB L,G,C,cF B]
      have q:a.off=A * l.esz:=by
       rcases N with h | h
       ·omega
       exact h
      rw[kf f,gP,E,q,F,<-D.esz,<-lT];have:=VR.ptr (M:=M) (ι:=ι) (i:=A+k.toNat) (j:=0) K p;simpa using this
     cases h
    cases h
   cases h
  split at h
  ·rename_i n e N;have L:=EX N;have U : ∀(b o s:Nat),O = .pointer (some ⟨b,o,none⟩)->aH P e=some s->0<=k->k<n->(Instr.indexAt t O (.int ki k)).run P w = .ok (.pointer (some ⟨b,o+k.toNat * s,none⟩)) w:=by
    intro b o s e C Z X;subst e;simp[Instr.indexAt,asIntOf,bB L,Instr.sureAddr,Z,X,cF C,gP]
   split at h
   ·rename_i r' i j s d B;cases d;split at h
    ·rename_i v;cases h;cases I with | ptr Y p=>
     exact⟨rfl,_,U _ _ _ rfl B v.1 v.2,by rw[Fp];exact .ptr Y p⟩
    cases h
   ·rename_i esz es i j s d B;cases d;split at h
    ·rename_i v;cases h;cases I with | iptr cell hm T R=>
     rename_i b o;exact⟨rfl,_,U _ _ _ rfl B v.1 v.2,by rw[show o+(i * esz+j)+k.toNat * s=o+(i * esz+(j+k.toNat * s)) by omega];exact .iptr cell hm T R⟩
    cases h
   cases h
  cases h
 cases h
def Lq{y x:AV}{d:Value}{i:Nat}(f:VR M ι y d){bs:List aY}(h:sP (some y) i=some (x,bs)) :
 bs=[] /\∃u,(Instr.extract d i).run P w = .ok u w/\VR M ι x u:=by
 unfold sP at h;split at h
 ·rename_i j c;cases c;simp only[jI,bG]at h;obtain⟨m,a,c⟩:=h;cases c;cases f with | tup k l e=>
  rename_i us;have b:i<us.size:=by have:=(dT.1 a).1;omega
  exact⟨rfl,us[i],by simp[Instr.extract,kn b],e i _ _ a (kn b)⟩
 cases h
def Rk{t:TypeId}{y x:AV}{b:Value}(c:VR M ι y b){bs:List aY}(h:yc P t (some y)=some (x,bs)) :
 bs=[] /\∃u,(Instr.makeInterface t b).run P w = .ok u w/\VR M ι x u:=by
 unfold yc at h;split at h;·cases h
 ·rename_i d a hd;simp at h;obtain⟨rfl,rfl⟩:=h;refine⟨rfl,.iface t b,?_,.ifc c⟩;simp only[Instr.makeInterface,iQe,bB hd,iQd];cases d<;>first | rfl | (exact absurd hd (a _))
 cases h
def NZ{st a:TypeId}{ok:Bool}{y x:AV}{l:Value}(n:VR M ι y l){bs:List aY}(h:Ad P (some y) a ok=some (x,bs)) :
 bs=[] /\∃u,(Instr.typeAssert l st a ok).run P w = .ok u w/\VR M ι x u:=by
 have j : ∀d,P.underlying a=some d->(∀C,d ≠ .interface C) ->∀z,eP P a=some z->ok=true->(l = .nilIface \/∃t v,l = .iface t v/\t≠a) ->
  ∃u,(Instr.typeAssert l st a ok).run P w = .ok u w/\VR M ι (.tup [z,.v (.bool false)]) u:=by
  intro d hd b z o f e;subst f;obtain⟨v,B,q⟩:=xf o w;refine⟨.tuple #[v,.bool false],?_,?_⟩
  ·simp only[Instr.typeAssert,iQe,bB hd,iQd];rcases e with rfl | ⟨t,x,rfl,m⟩
   ·cases d<;>first | (simp[B];done) | exact absurd rfl (b _)
   cases d<;>first | (simp[B,m];done) | exact absurd rfl (b _)
  refine .tup (by simp) rfl λi c u k e=>?_;match i with
  | 0=>simp at k e;subst k;subst e;exact jo q
  | 1=>simp at k e;subst k;subst e;exact .v rfl
  | i+2=>simp at k
 unfold Ad at h;split at h;·cases h
 ·rename_i d t D b hd s;cases s;cases n with | ifc n=>
  rename_i A;split at h
  ·rename_i p;subst p;simp at h;obtain⟨rfl,rfl⟩:=h;refine⟨rfl,(if ok then .tuple #[A,.bool true] else A),?_,?_⟩;·simp only[Instr.typeAssert,iQe,bB hd,iQd];cases d<;>first | (simp;done) | exact absurd hd (by intro h;exact b _ h)
   cases ok with| false=>simpa using n| true=>
    simp only[if_true];refine .tup (by simp) rfl λi c u k e=>?_;match i with
    | 0=>simp at k e;subst k;subst e;exact n
    | 1=>simp at k e;subst k;subst e;exact .v rfl
    | i+2=>simp at k
  rename_i p;split at h;·rename_i f;simp at h;obtain⟨z,o,rfl,rfl⟩:=h;exact⟨rfl,j d hd b z o f (.inr ⟨t,A,rfl,p⟩)⟩
  cases h
 ·rename_i d b hd s;cases s;split at h;·rename_i f;simp at h;obtain⟨z,o,rfl,rfl⟩:=h;cases n;exact⟨rfl,j d hd b z o f (.inl rfl)⟩
  cases h
 cases h
end
end
section
section
variable{P:Program}{M:Mem}{ι:Map}{g:cL}{w:World}{r:Ref}
def L2(a:Nat) : ∀(us:List Value)(k:Nat)(cells:Array Value),a+k+us.length<=cells.size ->
 (us.zipIdx k).foldl (λcs (p:Value × Nat)=>cs.setIfInBounds (a+p.2) p.1) cells=cH cells (a+k) us:=by
 intro us;induction us with
 | nil=>intro k cells h;simp[cH]
 | cons u us d=>
  intro k cells h;simp only[iA]at h;rw[List.zipIdx_cons,rB,d (k+1) _ (by simp;omega)];apply D0;intro i;rw[iU (by simp;omega),iU (by simp;omega)];by_cases c:i=a+k;·subst c;rw[if_neg (by omega),if_pos ⟨bg _,by simp⟩];simp[show a+k<cells.size by omega]
  by_cases b:a+(k+1)<=i/\i<a+(k+1)+us.length;·rw[if_pos b,if_pos (by simp;omega)];rw[show i - (a+k)=(i - (a+(k+1)))+1 by omega];simp
  rw[if_neg b,if_neg (by simp;omega)];rw[AD (by omega)]
def lI.patch{cs new:List AV}{us a:List Value}{j:Nat}(h:lI M ι cs us)(b:lI M ι new a):lI M ι (patch cs j new) (us.take j++a++us.drop (j+a.length)):=by
 unfold Ab.patch;rw[<-b.1];exact((h.take j).append b).append (h.drop _)
def P5(d:Nat->Option (Nat × Nat)) : ∀(ps:List (Nat × AV)) (qs:List (Nat × Value)) (cs c:List AV) (b:Array Value),uK d cs ps=some c->lI M ι cs b.toList ->
 ps.length=qs.length->(∀(i:Nat) p q,ps[i]?=some p->qs[i]?=some q->p.1=q.1/\VR M ι p.2 q.2) ->
 ∃e,Instr.fill d b qs=some e/\lI M ι c e.toList:=by
 intro ps;induction ps with
 | nil=>
  intro qs cs c b h o s hp;simp[uK]at h;subst h;cases qs with
  | nil=>exact⟨b,rfl,o⟩
  | cons q qs=>simp at s
 | cons p ps D=>
  intro qs cs c b h o s hp;cases qs with
  | nil=>simp at s
  | cons q qs=>
   obtain⟨i,v⟩:=p;obtain⟨J,u⟩:=q;obtain⟨A,B⟩:=hp 0 _ _ rfl rfl;simp only at A B;subst A;simp only[uK]at h;split at h;·cases h
   rename_i a n x;split at h
   ·rename_i I;obtain⟨H,hle⟩:=I;have m:=B.cells;have F:u.cells.size=n:=by have:=m.1;simp at this;omega
    have E:b.size=cs.length:=by have:=o.1;simp at this;omega
    have f:=L2 a u.cells.toList 0 b (by simp;omega);have l:u.cells.zipIdx.foldl (λcs (p:Value × Nat)=>cs.setIfInBounds (a+p.2) p.1) b=cH b a u.cells.toList:=(by rw[ug]at f;rw[<-f,<-MX,iQT]);have z:lI M ι (patch cs a v.cells) (cH b a u.cells.toList).toList:=(by have:=o.patch (j:=a) m;simpa [cH] using this);obtain⟨e,C,G⟩:=D qs (patch cs a v.cells) c (cH b a u.cells.toList) h z (by simpa using s) (λk p q y t=>hp (k+1) p q y t);refine⟨e,?_,G⟩;simp only[Instr.fill,x];rw[if_neg (by simp;omega)];rw[<-C,<-l]
   cases h
def qS{tm:List AV}{a:Act}(h:TR M ι tm a){ps:List (Nat × Operand)}{c:List (Nat × AV)}(b:gO tm ps=some c) :
 c.length=(ps.map λp=>(p.1,a.eval p.2)).length /\∀(i:Nat) p q,c[i]?=some p->(ps.map λp=>(p.1,a.eval p.2))[i]?=some q->p.1=q.1/\VR M ι p.2 q.2:=by
 unfold gO at b;refine⟨by simpa using gK b,λi p q hp d=>?_⟩;obtain⟨⟨k,o⟩,j,e⟩:=ot b i p hp;simp only[bG]at e;obtain⟨y,f,rfl⟩:=e;simp only[kR,j,Option.map_some,dV]at d;subst d;exact⟨rfl,aU h f⟩
def rS{t:TypeId}{z:AV}(h:eP P t=some z) : ∃i u,P.info? t=some i/\i.zero=some u/\ofValue u=some z:=by
 simp only[eP,iz]at h;obtain⟨u,⟨i,hi,b⟩,a⟩:=h;exact⟨i,u,hi,b,a⟩
def Rm{t:TypeId}{d:List (Nat × AV)}{qs:Array (Nat × Value)}{x:AV}{bs:List aY}(A:d.length=qs.toList.length)
 (hp : ∀(i:Nat) p q,d[i]?=some p->qs.toList[i]?=some q->p.1=q.1/\VR M ι p.2 q.2) (h:nS P t (some d)=some (x,bs)) :
 bs=[] /\∃u,(Instr.build t qs).run P w = .ok u w/\VR M ι x u:=by
 unfold nS at h;split at h
 ·rename_i z E G k;cases k;obtain⟨it,u,f,l,D⟩:=rS G;obtain⟨B,rfl,j⟩:=(jo (M:=M) (ι:=ι) D).Qm;split at h
  ·rename_i n e F;split at h;·rename_i s C;simp only[bG]at h;obtain⟨cs,c,k⟩:=h;cases k;obtain⟨I,o,rfl⟩:=uu C;obtain⟨a,m,v⟩:=P5 (M:=M) (ι:=ι) _ d qs.toList z cs B c j A hp;refine⟨rfl,.agg a,run_build w t qs a ?_,VR.pv.2 v⟩;simp[Program.built,f,EX F,l,o,Value.cells,m]
   cases h
  split at h
  ·rename_i ps b;simp only[bG]at h;obtain⟨cs,c,k⟩:=h;cases k;unfold iD at b;split at b;·rename_i H y;obtain⟨a,m,v⟩:=P5 (M:=M) (ι:=ι) _ d qs.toList z cs B c j A hp;refine⟨rfl,.agg a,run_build w t qs a ?_,VR.pv.2 v⟩;simp only[Program.built,f,y,l,b,Value.cells];rw[<-m];congr 1;funext i;simp
   cases b
  cases h
 cases h
def Xp{op:BinOp}{t:TypeId}{p o:Operand}{x y z:AV}{u v:Value}(j:VR M ι x u)(m:VR M ι y v){bs:List aY}(h:bN P op t p o (some x) (some y)=some (z,bs)) :
 bs=[] /\∃r,(do eqGuard op t p o u v;binOp op t u v:Sem Value).run P w = .ok r w/\VR M ι z r:=by
 simp only[bN]at h;split at h
 ·rename_i q;have key:(∃a n c,u = .slice (some a) n c/\v = .slice none 0 0)\/(∃a n c,v = .slice (some a) n c/\u = .slice none 0 0):=by
   simp only[jt,bt]at q;rcases q with ⟨l,f⟩ | ⟨l,f⟩
   ·left;have:v = .slice none 0 0:=by
     cases m<;>simp[jJ]at f;split at f<;>simp_all
    cases j<;>simp[EN]at l;·exact⟨_,_,_,rfl,this⟩
    ·exact⟨_,_,_,rfl,this⟩
    exact⟨_,_,_,rfl,this⟩
   right;have:u = .slice none 0 0:=by
    cases j<;>simp[jJ]at f;split at f<;>simp_all
   cases m<;>simp[EN]at l;·exact⟨_,_,_,rfl,this⟩
   ·exact⟨_,_,_,rfl,this⟩
   exact⟨_,_,_,rfl,this⟩
  have d : ∀op,(eqGuard op t p o u v).run P w = .ok () w:=(by intro op;rcases key with ⟨a,n,c,rfl,rfl⟩ | ⟨a,n,c,rfl,rfl⟩<;>(unfold eqGuard;cases op<;>simp));split at h
  ·rename_i e b;simp at h;obtain⟨rfl,rfl⟩:=h;refine⟨rfl,.bool false,?_,.v rfl⟩;simp only[iQe,d,iQd];rcases key with ⟨a,n,c,rfl,rfl⟩ | ⟨a,n,c,rfl,rfl⟩
   ·rw[Lib.run_eql_slice_nil w t e (some a) n c 0 0 b];rfl
   rw[run_eql_nil_slice w t e (some a) n c 0 0 b];rfl
  ·rename_i e b;simp at h;obtain⟨rfl,rfl⟩:=h;refine⟨rfl,.bool true,?_,.v rfl⟩;simp only[iQe,d,iQd];rcases key with ⟨a,n,c,rfl,rfl⟩ | ⟨a,n,c,rfl,rfl⟩
   ·rw[run_neq_slice_nil_any w t e (some a) n c 0 0 b];rfl
   rw[run_neq_nil_slice w t e (some a) n c 0 0 b];rfl
  cases h
 split at h;·rename_i F D k i;simp only[jI,bG,iz]at h;obtain⟨E,⟨r,C,B⟩,he⟩:=h;cases he;have A:=uw j k;have s:=uw m i;subst A;subst s;exact⟨rfl,r,nU C w,nV B⟩
 cases h
def aaM{op:UnOp}{x z:AV}{u:Value}(a:VR M ι x u){bs:List aY}(h:Xj P op (some x)=some (z,bs)) :
 bs=[] /\∃r,(Op.unary op u).run P w = .ok r w/\VR M ι z r:=by
 simp only[Xj,jI,bG,iz,dV]at h;obtain⟨e,⟨r,⟨v,⟨f,rfl,b⟩,c⟩,d⟩,he⟩:=h;cases he;have:=No a b;subst this;exact⟨rfl,r,nU c w,nV d⟩
def Wm{b:List AV}{us d:List Value}(c:lI M ι b us)(h:b.mapM Io=some d):us=d:=by
 apply Jg;intro i;rcases eU i us.length with hi | hi
 ·have a:i<b.length:=by rw[c.1];exact hi
  obtain⟨v,e,f⟩:=lE h i b[i] (de a);rw[e,de hi,No (c.2 i _ _ (de a) (de hi)) f]
 have:=gK h;rw[wE hi,wE (by rw[this,c.1];exact hi)]
def IF{f:Value->Value->Sem Value}{b:List AV}{us:List Value}{z:AV}(d:lI M ι b us)(h:J0 f P b=some z) :
 ∃u a,us=u :: a /\∃r,(a.foldlM f u).run P w = .ok r w/\VR M ι z r:=by
 unfold J0 at h;split at h;·rename_i u a c;have:=Wm d c;subst this;simp only[iz]at h;obtain⟨r,e,i⟩:=h;exact⟨u,a,rfl,r,nU e w,nV i⟩
 cases h
def sU{t:TypeId}(h:isStr P t=true):P.underlying t=some .string:=by
 unfold isStr at h;split at h;·assumption
 cases h
def qL{t:TypeId}(h:dq P t=true) : ∃e,P.underlying t=some (.slice e)/\P.underlying e=some (.int .u8):=by
 unfold dq at h;split at h
 ·rename_i e a;split at h;·exact⟨e,a,by assumption⟩
  cases h
 cases h
def UT{t:TypeId}(h:isInt P t=true) : ∃k,P.underlying t=some (.int k):=by
 unfold isInt at h;split at h;·exact⟨_,by assumption⟩
 cases h
end
end
section
section
variable{P:Program}{M:Mem}{ι:Map}{g:cL}{w:World}{r:Ref}
structure Src (P:Program) (M:Mem) (w:World) (u:Value) (z:Nat) (es:List AV) (us:List Value):Prop where
 len:us.length=es.length * z
 Hz : ∀e∈es,e.cells.length=z
 one : ∀x∈us,x.oneCell'=true
 vr : ∀(i j:Nat) e x,es[i]?=some e->e.cells[j]?=some x ->∃u,us[i * z+j]?=some u/\VR M dC x u
 lenOf : ∀w':World,(Builtin.lenOf u).run P w' = .ok es.length w'
 first : ∀(n:Nat)(w':World),n<=es.length->w'.heap=w.heap->(Builtin.firstCells z n u).run P w' = .ok (us.take (n * z)).toArray w'
def Q9{es:List AV}{z:Nat}(h : ∀e∈es,e.cells.length=z)(cell:Nat->Nat->Value) :
 ∃us:List Value,us.length=es.length * z /\∀i j,i<es.length->j<z->us[i * z+j]?=some (cell i j):=by
 refine⟨(List.range (es.length * z)).map λk=>cell (k / z) (k % z),by simp,?_⟩;intro i j hi a;have b:0<z:=by omega
 have:=DK hi a;rw[kR,D2 this];simp only[Option.map_some,dV];rw[C7 i z,Nat.mul_add_div b,Nat.div_eq_of_lt a,Nat.mul_add_mod,Jb a,ug]
def Pr{es:List AV}{z:Nat}(d : ∀e∈es,e.cells.length=z)(G:0<z\/es=[]){a:Addr}{c:Nat}(s:a.spot=none\/es=[])(cell:Nat->Nat->Value)
 (C : ∀i j,i<es.length->j<z->w.cell? ⟨a.block,a.off+(i * z+j),none⟩=some (cell i j)/\(cell i j).oneCell'=true)
 (E : ∀(i j:Nat) e x,es[i]?=some e->e.cells[j]?=some x->VR M dC x (cell i j)) : ∃us,Src P M w (.slice (some a) es.length c) z es us:=by
 obtain⟨us,t,u⟩:=Q9 d cell;have f : ∀k,k<us.length->0<z/\k / z<es.length/\k % z<z/\k / z * z+k % z=k:=by
  intro k o;rw[t]at o;have b:0<z:=by
   rcases G with h | h
   ·exact h
   subst h;simp at o
  exact⟨b,(iQL b).2 o,Nat.mod_lt _ b,by rw[C7];exact Nat.div_add_mod k z⟩
 refine⟨us,t,d,?_,?_,λw'=>by simp[Builtin.lenOf],?_⟩
 ·intro x q;obtain⟨k,o,B⟩:=o5 q;obtain⟨b,l,p,e⟩:=f k o;have:=u _ _ l p;rw[e,de o,B]at this;injection this with this
  rw[this];exact(C _ _ l p).2
 ·intro i j e x y q;have hi:=(dT.1 y).1;have m:j<z:=by
   rw[<-d e (fZ y)];exact(dT.1 q).1
  exact⟨cell i j,u i j hi m,E i j e x y q⟩
 intro n w' H A;have D:n * z<=us.length:=by rw[t];exact lX _ H
 refine run_firstCells_some (P:=P) w' z n a es.length c (us.take (n * z)) (by simp;omega) ?_;intro j v m;rw[za]at m;split at m;·rename_i F;obtain⟨b,l,p,e⟩:=f j (by omega);have:=u _ _ l p;rw[e,m]at this;cases this;have s:=s.resolve_right (by intro e;subst e;simp at l);rw[kf s,gP];have:=(C _ _ l p).1;rw[e]at this;rw[iQk (w:=w) (by rw[A])];exact this
 cases m
def getElems(es:List AV)(a len:Nat)(b:a+len<=es.length):((es.drop a).take len).length=len /\∀i,i<len->((es.drop a).take len)[i]?=es[a+i]? :=
 ⟨by simp;omega,λi hi=>by rw[za,if_pos hi,yE]⟩
def oa(I:gA M ι g w){x:AV}{u:Value}(k:VR M ι x u){z:Nat}{es:List AV}(J:0<z)(h:cy g x=some (z,es)) : ∃us,Src P M w u z es us:=by
 unfold cy at h;split at h
 ·rename_i s;cases h;cases k;refine⟨s.data.toList.map λb => .int .u8 b.toNat,?_,?_,?_,?_,?_,?_⟩;·simp
  ·intro e f;simp only[j6]at f;obtain⟨b,_,rfl⟩:=f;rfl
  ·intro x k;simp only[j6]at k;obtain⟨b,_,rfl⟩:=k;rfl
  ·intro i j e x f k;simp only[kR,bG]at f;obtain⟨b,E,rfl⟩:=f;cases j with
   | succ j=>simp[AV.cells]at k
   | zero=>simp[AV.cells]at k;subst k;exact⟨.int .u8 b.toNat,by simp[E],.v rfl⟩
  ·intro w';simp only[Builtin.lenOf,iQj,zg,Az];rfl
  intro n w' W Q;simp only[Builtin.firstCells,Nat.mul_one,iQj];congr 1;apply Fi;simp only[Array.toList_map,ByteArray.data_extract,M6];rw[Nb];simp[iQR]
 ·rename_i esz es' cap;cases h;cases k with | bq cell C K R hm f U=>
  rename_i a c;exact Pr f (.inl J) C cell (λi j hi o=>⟨I.mem _ _ _ (hm i j hi o).1,(hm i j hi o).2⟩) U
 ·rename_i r' d len cap;split at h
  ·rename_i b E;split at h
   ·rename_i K;cases h;obtain⟨y,hlen⟩:=K;cases k with | bA S F C V N W R G=>
    rename_i l a c;have m:=I.at S G E;obtain⟨A,B⟩:=getElems b.es d len hlen;have p:0<len->a.off=d * b.esz:=by
     intro X;rcases V with h | h
     ·omega
     rw[h,m.esz]
    have key : ∀i j,i<len->j<b.esz ->∃u,w.cell? ⟨a.block,a.off+(i * b.esz+j),none⟩=some u/\u.oneCell'=true /\∀e x,b.es[d+i]?=some e->e.cells[j]?=some x->VR M dC x u:=by
     intro i j hi o;have f:b.es[d+i]?=some b.es[d+i]:=de (by omega);have O:=m.cells b.es[d+i] (eO _);obtain⟨u,T,A,B⟩:=m.cell (d+i) f j _ (de (by omega:j<b.es[d+i].cells.length));refine⟨u,?_,A,?_⟩;·rw[p (by omega),F,show d * b.esz+(i * b.esz+j)=(d+i) * b.esz+j by rw[lT];omega];exact T
     intro e x t q;rw[f]at t;cases t;rw[de (by omega:j<b.es[d+i].cells.length)]at q;cases q;rw[aY.map,if_pos y]at B;exact B
    let cell:Nat->Nat->Value:=λi j=>(w.cell? ⟨a.block,a.off+(i * b.esz+j),none⟩).getD undef
    have:=Pr (P:=P) (M:=M) (w:=w) (es:=(b.es.drop d).take len) (z:=b.esz) (a:=a) (c:=c)
     (by intro e f;exact m.cells e (BX (yF f))) (.inl J) (.inl C) cell
     (by
      intro i j hi o;rw[A]at hi;obtain⟨u,D,H,_⟩:=key i j hi o;simp[cell,D,H])
     (by
      intro i j e x f k;have hi:i<len:=by have:=(dT.1 f).1;omega
      rw[B i hi]at f;have o:j<b.esz:=(by rw[<-m.cells e (fZ f)];exact(dT.1 k).1);obtain⟨u,D,H,L⟩:=key i j hi o;simp only[cell,D,cb];exact L e x f k)
    rw[A]at this;exact this
   cases h
  cases h
 cases h
inductive C3:Option Value->Option Int->Prop
 | none:C3 none none
 | some (k n):C3 (some (.int k n)) (some n)
def tU{tm:List AV}{a:Act}(h:TR M ι tm a){o:Option Operand}{x:Option Int}(b:mc tm o=some x):C3 (o.map a.eval) x:=by
 cases o with| none=>simp only[mc,dV]at b;subst b;exact .none| some o=>
  simp only[mc]at b;split at b
  ·rename_i n c;injection b with b
   subst b;simp only[iz]at c;obtain⟨y,e,hi⟩:=c;obtain⟨k,d⟩:=xr (aU h e) hi;rw[Option.map_some,d];exact .some k n
  cases b
def Ao{len c:Nat}{cap:Option Nat}(I:len<=c)(D : ∀k,cap=some k->c=k){lo hi C:Option Int}{l h:Nat}{c':Option Nat}(a:bounds len cap lo hi C=some (l,h,c'))
 {t u q:Option Value} (v:C3 t lo) (B:C3 u hi) (F:C3 q C) :
 l<=h/\h<=len /\∃m,h<=m/\m<=c/\(∀k,c'=some k->m - l=k)/\(Instr.sliceBounds true len c t u q).run P w = .ok (l,h,m) w:=by
 have f : ∀(k:IntKind)(i:Int)(y:Nat)(b:BoundsCode),0<=i->i<=y->(Instr.sliceBound (.int k i) y b).run P w = .ok i.toNat w:=λk i y b=>iQM w k i y b;cases F with
 | some E m=>
  cases B with| none=>simp[bounds]at a| some o d=>
   simp only[bounds]at a;obtain⟨⟨n,j,x,A,L⟩,a⟩:=eQ.1 a;simp only[dV,sI]at a;obtain⟨rfl,rfl,rfl⟩:=a;have J:m<=c:=by
    cases cap with
    | none=>simp at A;omega
    | some k=>have:=D k rfl;simp at A;omega
   have K:((m.toNat:Nat):Int)=m:=BU (by omega);have G:((d.toNat:Nat):Int)=d:=BU (by omega);refine⟨by omega,by omega,m.toNat,by omega,by omega,by intro k e;cases e;rfl,?_⟩;cases v with
   | none=>simp only[uf]at n j;simp only[Instr.sliceBounds,iQe,f E m c _ (by omega) (by omega),iQd,f o d m.toNat _ (by omega) (by omega),iQj,uf];rfl
   | some p s=>simp only[cb]at n j;simp only[Instr.sliceBounds,iQe,f E m c _ (by omega) (by omega),iQd,f o d m.toNat _ (by omega) (by omega),f p s d.toNat _ (by omega) (by omega),iQj,cb]
 | none=>
  simp only[bounds]at a;obtain⟨⟨n,j,x⟩,a⟩:=eQ.1 a;simp only[dV,sI]at a;obtain⟨rfl,rfl,rfl⟩:=a;refine⟨by omega,by omega,c,by omega,bg _,?_,?_⟩;·intro k e;simp only[bG]at e;obtain⟨H,z,rfl⟩:=e;rw[D H z]
  cases B with
  | none=>
   simp only[uf]at j x ⊢;cases v with
   | none=>simp[Instr.sliceBounds]
   | some p s=>simp only[cb]at n j ⊢;simp only[Instr.sliceBounds,iQe,iQj,iQd,f p s len _ (by omega) (by omega)];simp
  | some o d=>
   simp only[cb]at j x ⊢;have G:((d.toNat:Nat):Int)=d:=BU (by omega);cases v with
   | none=>simp only[uf]at n j ⊢;simp only[Instr.sliceBounds,iQe,iQj,iQd,f o d c _ (by omega) (by omega)];simp
   | some p s=>simp only[cb]at n j ⊢;simp only[Instr.sliceBounds,iQe,iQj,iQd,f o d c _ (by omega) (by omega),f p s d.toNat _ (by omega) (by omega)]
def qz{t e:TypeId}(j:P.underlying t=some (.slice e)){s:Nat}(i:aH P e=some s){a:Option Addr}{len c l h m:Nat}{d f b:Option Value}
 (k:(Instr.sliceBounds true len c d f b).run P w = .ok (l,h,m) w) :
 (Instr.sliceAt t (.slice a len c) d f b).run P w = .ok (.slice (if m=l then a else a.map (·.add (l * s))) (h - l) (m - l)) w:=by
 simp[Instr.sliceAt,bB j,Instr.slice,k,cF i]
def Ri(hS:gA M ι g w){t:TypeId}{y x:AV}{u0:Value}(S:VR M ι y u0){lo hi mx:Option Int}{U V Q:Option Value}
 (L:C3 U lo) (T:C3 V hi) (O:C3 Q mx)
 {bs:List aY} (h:cm P g t (some y) (some lo) (some hi) (some mx)=some (x,bs)) :
 bs=[] /\∃u,(Instr.sliceAt t u0 U V Q).run P w = .ok u w/\VR M ι x u:=by
 simp only[cm]at h;split at h
 ·rename_i e;cases e;cases S;obtain⟨n,h⟩:=eQ.1 h;simp only[bG]at h;obtain⟨⟨l,f,c'⟩,o,e⟩:=h;cases e;obtain⟨s,C⟩:=ib.1 n;simp only[iz]at C;obtain⟨e,D,C⟩:=C;obtain⟨b1,b2,m,b3,b4,b5,b6⟩:=Ao (P:=P) (w:=w) (bg 0) (by intro k H;cases H;rfl) o L T O;have e1:l=0:=by omega
  have F:f=0:=(by omega);have e3:m=0:=(by omega);subst e1;subst F;subst e3;exact⟨rfl,_,qz (gH D) C b6,.v rfl⟩
 ·rename_i s e;cases e;cases S;obtain⟨n,h'⟩:=eQ.1 h;clear h;simp only[bt,Option.isNone_iff_eq_none]at n;obtain⟨n,rfl⟩:=n;cases O;obtain⟨⟨l,f,c'⟩,o,e⟩:=bG.1 h';cases e;have Y:=sU n;have X : ∀(k:IntKind)(i:Int)(y:Nat)(z:BoundsCode),0<=i->i<=y->(Instr.sliceBound (.int k i) y z).run P w = .ok i.toNat w:=λk i y z=>iQM w k i y z;simp only[bounds]at o;obtain⟨⟨R,J,W⟩,o⟩:=eQ.1 o;simp only[dV,sI]at o;obtain⟨rfl,rfl,rfl⟩:=o;refine⟨rfl,.string (s.extract (lo.getD 0).toNat (hi.getD s.size).toNat),?_,.v rfl⟩;cases T with
  | none=>
   simp only[uf]at J W;try simp only[uf,cb]
   cases L with| none=>simp[Instr.sliceAt,bB Y,Instr.slice,Instr.sliceBounds]| some kl ll=>
    simp only[cb]at R J;try simp only[uf,cb]
    simp[Instr.sliceAt,bB Y,Instr.slice,Instr.sliceBounds,X kl ll s.size _ R J]
  | some kh f=>
   simp only[cb]at J W;try simp only[uf,cb]
   have eh:((f.toNat:Nat):Int)=f:=BU (by omega);cases L with
   | none=>
    simp only[uf]at R J;try simp only[uf,cb]
    simp[Instr.sliceAt,bB Y,Instr.slice,Instr.sliceBounds,X kh f s.size _ J W]
   | some kl ll=>
    simp only[cb]at R J;try simp only[uf,cb]
    simp[Instr.sliceAt,bB Y,Instr.slice,Instr.sliceBounds,X kh f s.size _ (by omega) W,X kl ll f.toNat _ R (by omega)]
 ·rename_i esz es cap e;cases e;obtain⟨n,h⟩:=eQ.1 h;simp only[bG]at h;obtain⟨⟨l,f,c'⟩,o,e⟩:=h;cases e;simp only[iz]at n;obtain⟨e,D,C⟩:=n;cases S with | bq cell d N H hm hes Z=>
  rename_i a c;obtain⟨b1,b2,m,b3,b4,b5,b6⟩:=Ao (P:=P) (w:=w) N H o L T O;refine⟨rfl,_,qz (gH D) C b6,?_⟩;obtain⟨g1,g2⟩:=getElems es l (f - l) (by omega);have:=VR.bq (M:=M) (ι:=ι) (esz:=esz) (es:=(es.drop l).take (f - l)) (cap:=c') (a:=(if m=l then a else a.add (l * esz))) (c:=m - l) (λi j=>cell (l+i) j)
   (by
    rcases d with d | d
    ·left;split;·exact d
     rw[kf d,gP]
    right;subst d;simp) (by omega) b5
   (by
    intro i j hi hj;rw[g1]at hi;have d:=d.resolve_right (by intro e;subst e;simp at b2 N;omega);rw[if_neg (by omega),kf d,gP];have:=hm (l+i) j (by omega) hj;rw[show a.off+((l+i) * esz+j)=a.off+l * esz+(i * esz+j) by rw[lT];omega]at this;exact this)
   (by intro e D;exact hes e (BX (yF D)))
   (by
    intro i j e x hi hx;have hi':i<f - l:=by have:=(dT.1 hi).1;omega
    rw[g2 i hi']at hi;exact Z (l+i) j e x hi hx)
  rw[g1]at this;have F:(if m=l then some a else (some a).map (·.add (l * esz)))=some (if m=l then a else a.add (l * esz)):=by split<;>rfl
  rw[F];exact this
 ·rename_i r' K len cap e;cases e;split at h
  ·rename_i b G;obtain⟨n,h⟩:=eQ.1 h;simp only[bG]at h;obtain⟨⟨l,f,c'⟩,o,e⟩:=h;cases e;simp only[iz]at n;obtain⟨e,D,C⟩:=n;cases S with | bA I q d ha N hn H B=>
   rename_i lo' a c;obtain⟨l',A,E⟩:=hS.live r' b G;rw[I]at A;cases A;obtain⟨b1,b2,m,b3,b4,b5,b6⟩:=Ao (P:=P) (w:=w) N H o L T O;refine⟨rfl,_,qz (gH D) C b6,?_⟩;have F:(if m=l then some a else (some a).map (·.add (l * b.esz)))=some (if m=l then a else a.add (l * b.esz)):=by split<;>rfl
   rw[F];show VR M ι (.bA r' (K+l) (f - l) c') _;by_cases p:m=l;·rw[if_pos p];exact .bA I q d (.inl (by omega)) (by omega) (.inl (by omega)) b5 B
   rw[if_neg p,kf d,gP];refine .bA I q rfl (.inr ?_) (by omega) (.inr ?_) b5 B
   ·rcases ha with h | h
    ·omega
    simp only[h,E.esz,lT]
   rcases hn with h | h
   ·omega
   omega
  cases h
 ·rename_i r' K len cap e;cases e;split at h
  ·rename_i b G;obtain⟨n,h⟩:=eQ.1 h;simp only[bG]at h;obtain⟨⟨l,f,c'⟩,o,e⟩:=h;cases e;simp only[iz]at n;obtain⟨e,D,C⟩:=n;cases S with | dsl I q d ha N hn H B=>
   rename_i lo' a c;obtain⟨l',A,E⟩:=hS.live r' b G;rw[I]at A;cases A;obtain⟨b1,b2,m,b3,b4,b5,b6⟩:=Ao (P:=P) (w:=w) N H o L T O;refine⟨rfl,_,qz (gH D) C b6,?_⟩;have F:(if m=l then some a else (some a).map (·.add (l * b.esz)))=some (if m=l then a else a.add (l * b.esz)):=by split<;>rfl
   rw[F];show VR M ι (.dsl r' (K+l) (f - l) c') _;by_cases p:m=l;·rw[if_pos p];exact .dsl I q d (.inl (by omega)) (by omega) (.inl (by omega)) b5 B
   rw[if_neg p,kf d,gP];refine .dsl I q rfl (.inr ?_) (by omega) (.inr ?_) b5 B
   ·rcases ha with h | h
    ·omega
    simp only[h,E.esz,lT]
   rcases hn with h | h
   ·omega
   omega
  cases h
 cases h
def OT{len c:Nat}(s:len<=c){lo hi:Option Int}(l:0<=lo.getD 0)(b:lo.getD 0<=hi.getD len)(p:hi.getD len<=c)
 {f e:Option Value} (o:C3 f lo) (q:C3 e hi) :
 (Instr.sliceBounds true len c f e none).run P w = .ok ((lo.getD 0).toNat,(hi.getD len).toNat,c) w:=by
 have h : ∀(k:IntKind)(i:Int)(y:Nat)(a:BoundsCode),0<=i->i<=y->(Instr.sliceBound (.int k i) y a).run P w = .ok i.toNat w:=λk i y a=>iQM w k i y a;cases q with
 | none=>
  simp only[uf]at b p ⊢;cases o with
  | none=>simp[Instr.sliceBounds]
  | some j m=>simp only[cb]at l b ⊢;simp only[Instr.sliceBounds,iQe,iQj,iQd,h j m len _ (by omega) (by omega)];simp
 | some n d=>
  simp only[cb]at b p ⊢;have t:((d.toNat:Nat):Int)=d:=BU (by omega);cases o with
  | none=>simp only[uf]at l b ⊢;simp only[Instr.sliceBounds,iQe,iQj,iQd,h n d c _ (by omega) (by omega)];simp
  | some j m=>simp only[cb]at l b ⊢;simp only[Instr.sliceBounds,iQe,iQj,iQd,h n d c _ (by omega) (by omega),h j m d.toNat _ (by omega) (by omega)]
def NU(hS:gA M ι g w){t:TypeId}{y x:AV}{Q:Value}(X:VR M ι y Q){lo hi L:Option Int}{p s i:Option Value}
 (W:C3 p lo) (Z:C3 s hi) (V:C3 i L)
 {bs:List aY} (h:lC P g t (some y) (some lo) (some hi) (some L)=some (x,bs)) :
 bs=[] /\∃u,(Instr.sliceAt t Q p s i).run P w = .ok u w/\VR M ι x u:=by
 unfold lC at h;split at h
 ·rename_i H hi' r' J len cap C B O S;simp only[dV]at C B O S;subst C B O S;cases V;split at h
  ·rename_i b D;obtain⟨⟨R,K,c2,E⟩,h⟩:=eQ.1 h;simp only[dV,sI]at h;obtain⟨rfl,rfl⟩:=h;simp only[iz]at R;obtain⟨e,he,U⟩:=R;cases X with | bA G j f ha T hn N q=>
   rename_i H a c;have v:((cap.getD len:Nat):Int)<=c:=by
    cases cap with| none=>simpa using T| some k=>rw[N k rfl];simp
   have o : ∀m:Nat,∀k,cap.map (· - m)=some k->c - m=k:=(by intro m k z;obtain⟨Y,F,rfl⟩:=bG.1 z;rw[N Y F]);replace E:hi.getD (len:Int)<=c:=Int.le_trans E v;clear v;obtain⟨l',n,A⟩:=hS.live r' b D;rw[G]at n;cases n;have b6:=OT (P:=P) (w:=w) T K c2 E W Z;have C:(((lo.getD 0).toNat:Nat):Int)=lo.getD 0:=BU K;have B:(((hi.getD (len:Int)).toNat:Nat):Int)=hi.getD len:=BU (by omega);generalize (lo.getD 0).toNat=l at *;generalize (hi.getD (len:Int)).toNat=hh at *;refine⟨rfl,_,qz (gH he) U b6,?_⟩;have I:(if c=l then some a else (some a).map (·.add (l * b.esz)))=some (if c=l then a else a.add (l * b.esz)):=by split<;>rfl
   rw[I];show VR M ι (.bA r' (J+l) (hh - l) (cap.map (· - l))) _;by_cases d:c=l;·rw[if_pos d];exact .bA G j f (.inl (by omega)) (by omega) (.inl (by omega)) (o l) q
   rw[if_neg d,kf f,gP];refine .bA G j rfl (.inr ?_) (by omega) (.inr ?_) (o l) q
   ·rcases ha with h | h
    ·omega
    simp only[h,A.esz,lT]
   rcases hn with h | h
   ·omega
   omega
  cases h
 cases h
def T5(L:gA M ι g w){t tR:TypeId}{args:List AV}{us:List Value}(hv:lI M ι args us){x:AV}{bs:List aY}(h:Gx P g t args=some (x,bs)) :
 bs=[]/\x = .v (.bool false)/\(Extern.SlicesOverlaps.overlaps #[t,t] #[tR] us.toArray).run P w = .ok (.bool false) w:=by
 unfold Gx at h;split at h
 ·rename_i r B len cap r' u i Y e he;split at h
  ·rename_i b b' z S p hz;obtain⟨⟨N,h1,h2,h3⟩,h⟩:=eQ.1 h;simp only[dV,sI]at h;obtain⟨rfl,rfl⟩:=h;refine⟨rfl,rfl,?_⟩;obtain⟨hlen,d⟩:=hv;match us,hlen,d with
   | [ua,ub],hlen,d=>
   have va:=d 0 _ ua rfl rfl;have vb:=d 1 _ ub rfl rfl;clear d hlen;cases va with | bA W j hsp ha hc hn hk J=>
   rename_i l a c;cases vb with | bA y m hsp' ha' hc' C hk' s=>
   rename_i R a' c';have X:=gH he;have hA:=L.at W J S;have hB:=L.at y s p;obtain⟨arr,T,fz,K,Q,o,_⟩:=hA.heap;obtain⟨arr',T',fz',D,A,Z,_⟩:=hB.heap;have E:l.b≠R.b:=λe=>N (L.inj r r' b b' l R S p W y e);have k : ∀w:World,(Go.sizeOf e).run P w = .ok z w:=λw=>cF hz w;show(Extern.SlicesOverlaps.overlaps #[t,t] #[tR] #[.slice (some a) len c,.slice (some a') i c']).run P w=_;by_cases h0:len=0\/i=0
   ·have O:(len=0\/i=0\/z=0):=(by omega);have e2 : ∀ {I β:Type} (x:I) (f:I->Sem β),(pure x:Sem I).bind f=f x:=λ_ _=>rfl;conv=>lhs;arg 2;whnf
    simp[Sem.run,Sem.bind,e2,X,k,O]
   have hcn:B+c<=l.n:=by rcases hn with h | h<;>omega
   have V:u+c'<=R.n:=by rcases C with h | h<;>omega
   have H:a.off=B * l.esz:=by rcases ha with h | h<;>omega
   have U:0<arr'.size:=by rw[A];exact Nat.mul_pos (by omega) (by omega)
   have F:a.off<arr.size:=(by rw[H,Q,hA.esz];exact(Nat.mul_lt_mul_right (by omega)).2 (by omega));refine Lib.run_overlaps_apart (P:=P) w t tR e X z k a a' len c i c' (by rw[j,m];exact E) T T' arr.size arr'.size ?_ ?_ (by omega) ?_ ?_;·unfold World.shape?;rw[j,K]
   ·unfold World.shape?;rw[m,D]
   ·unfold World.frozen?;rw[j,K];have:=o.1 a.off F;obtain⟨f1,f2⟩:=fz;simp only at this ⊢;rw[Fc];simp only[iQc];by_cases q:f1<=a.off;·exact .inr λG=>this ⟨q,.inl G⟩
    exact .inl q
   unfold World.frozen?;simp only;rw[j,K];have:=o.2 h1;obtain⟨f1,f2⟩:=fz;simp only at this ⊢;rw[Fc];simp only[iQc];by_cases q:f1<=arr.size;·exact .inr λG=>this ⟨q,G⟩
   exact .inl q
  cases h
 cases h
end
end
section
section
variable{P:Program}{M:Mem}{ι:Map}{g:cL}{w:World}{r:Ref}
structure Row (M:Mem) (z:Nat) (es:List AV) (us:List Value):Prop where
 len:us.length=es.length * z
 Hz : ∀e∈es,e.cells.length=z
 one : ∀x∈us,x.oneCell'=true
 vr : ∀(i j:Nat) e x,es[i]?=some e->e.cells[j]?=some x ->∃u,us[i * z+j]?=some u/\VR M dC x u
def Src.row{u z es us}(h:Src P M w u z es us):Row M z es us:=⟨h.len,h.Hz,h.one,h.vr⟩
def Row.nil{z:Nat}:Row M z [] []:=⟨by simp,by simp,by simp,by intro i j e x h;simp at h⟩
def Row.append{z es us es' us'}(h:Row M z es us)(d:Row M z es' us'):Row M z (es++es') (us++us'):=by
 refine⟨by simp[h.len,d.len,lT],?_,?_,?_⟩
 ·intro e a;rcases kQ.1 a with b | b
  ·exact h.Hz e b
  exact d.Hz e b
 ·intro e a;rcases kQ.1 a with b | b
  ·exact h.one e b
  exact d.one e b
 intro i j e x a k;rcases eU i es.length with hi | hi
 ·rw[jG hi]at a;obtain⟨u,c,f⟩:=h.vr i j e x a k;exact⟨u,by rw[jG (dT.1 c).1];exact c,f⟩
 rw[ic hi]at a;obtain⟨u,c,f⟩:=d.vr _ j e x a k;have l:es.length * z<=i * z:=lX _ hi;refine⟨u,?_,f⟩;rw[ic (by rw[h.len];omega),h.len,show i * z+j - es.length * z=(i - es.length) * z+j by rw[Fj];omega];exact c
def Row.cons{z es us e vs}(c:lI M dC e vs)(f:e.length=z)(m : ∀x∈vs,x.oneCell'=true)(y:AV)(k:y.cells=e)(h:Row M z es us):Row M z (y :: es) (vs++us):=by
 have:Row M z [y] vs:=by
  refine⟨by rw[<-c.1,f];simp,by intro l a;simp at a;subst a;rw[k];exact f,m,?_⟩;intro i j l x hi b;cases i with
  | succ i=>simp at hi
  | zero=>
   simp at hi;subst hi;rw[k]at b;have d:j<vs.length:=by have:=(dT.1 b).1;rw[<-c.1];exact this
   exact⟨vs[j],by simp[d],c.2 j x vs[j] b (de d)⟩
 exact this.append h
def Row.replicate{z:Nat}{y:AV}{u:Value}(e:VR M dC y u)(l:y.cells.length=z)(h:y.cells.all AV.one=true) : ∀n,Row M z (List.replicate n y) (List.replicate n u.cells.toList).flatten:=by
 intro n;have a : ∀x∈u.cells.toList,x.oneCell'=true:=by
  intro x i;obtain⟨j,d,c⟩:=o5 i;have f:=e.cells;have b:j<y.cells.length:=by rw[f.1];exact d
  have:=f.2 j _ x (de b) (by rw[<-c];exact de d);exact this.one (by simp only[dY]at h;exact h _ (eO b))
 induction n with| zero=>exact Row.nil| succ n k=>rw[MZ,MZ,List.flatten_cons];exact Row.cons e.cells l a y rfl k
def Row.mono{z es us}{M':Mem}(h:Row M z es us)(a : ∀b o x,M b o=some x->M' b o=some x):Row M' z es us:=
 ⟨h.len,h.Hz,h.one,λi j e x f d=>by obtain⟨u,c,k⟩:=h.vr i j e x f d;exact⟨u,c,k.mono a _ (λ_ _ h=>h)⟩⟩
def tY(C:gA M ι g w)(s:r.k=0)(E:ι r=none){w':World}{arr:Array Value}{T:TypeId}{fz:Nat × Nat}(y:C5 w w' (.cells arr T fz))
 {z:Nat} {es:List AV} {us:List Value} (a:Row M z es us) (d : ∀(k:Nat) u,us[k]?=some u->arr[k]?=some u) {n c:Nat} (m:arr.size=n * z)
 (h:BP z arr.size fz) (D:es.length<=c) (H:c<=n) {cap:Option Nat} (b : ∀k,cap=some k->c=k) (p:0<z) :
 jS M ι g w r (.bA r 0 es.length cap) [⟨z,es,true,false⟩] (.slice (some ⟨w.heap.size,0,none⟩) es.length c) w':=by
 obtain⟨t,B⟩:=C.alloc (q:=r) E y ⟨z,es,true,false⟩ p n m h (by simp;omega) a.Hz
  (by
   intro i j e x F v;obtain⟨u,o,A⟩:=a.vr i j e x F v;exact⟨u,d _ _ o,a.one u (fZ o),by simpa [aY.map] using A⟩)
 refine⟨M,_,?_,by rw[qX _ _ s];exact t,by rw[qX _ _ s];exact B,?_⟩;·exact .bA (l:=⟨w.heap.size,z,n⟩) (by simp[iq]) rfl rfl (.inr (by simp)) D (.inr (by simp;omega)) b p
 intro q f G;have:q≠r:=by intro e;exact G 0 (by simp) (by rw[e];cases r;simp_all)
 simpa [iq,this] using f
def LR(M:Mem)(b:Nat)(us:List Value):Mem:=λa o=>if a=b then us[o]? else M a o
def Sh(A:gA M ι g w){w':World}{arr:Array Value}{T:TypeId}{fz:Nat × Nat}(f:C5 w w' (.cells arr T fz))
 {z:Nat} {es:List AV} {us:List Value} (d:Row M z es us) (t : ∀(k:Nat) u,us[k]?=some u->arr[k]?=some u) {c:Nat}
 (H:es.length<=c) {cap:Option Nat} (p : ∀k,cap=some k->c=k) :
 jS M ι g w r (.bq z es cap) [] (.slice (some ⟨w.heap.size,0,none⟩) es.length c) w':=by
 have s : ∀b o x,M b o=some x->b<w.heap.size:=λb o x h=>iQm w ⟨b,o,none⟩ (A.mem b o x h);have m : ∀b o x,M b o=some x->LR M w.heap.size us b o=some x:=by
  intro b o x h;unfold LR;rw[if_neg (Nat.ne_of_lt (s b o x h))];exact h
 have v:w'.heap[w.heap.size]?=some (.cells arr T fz):=by rw[f.heap];simp
 have B : ∀i j,i<es.length->j<z ->∃u,us[i * z+j]?=some u:=by
  intro i j hi C;exact⟨us[i * z+j]'(by rw[d.len];exact DK hi C),de _⟩
 refine⟨LR M w.heap.size us,ι,?_,?_,?_,λq I _=>I⟩
 ·refine VR.bq (M:=LR M w.heap.size us) (ι:=ι) (esz:=z) (es:=es) (cap:=cap) (a:=⟨w.heap.size,0,none⟩) (c:=c) (λi j=>(us[i * z+j]?).getD undef) (.inl rfl) H p ?_ d.Hz ?_;·intro i j hi C;obtain⟨u,y⟩:=B i j hi C;simp only[LR,if_true,ue,y,cb];exact⟨trivial,d.one u (fZ y)⟩
  intro i j e x J D;obtain⟨u,y,E⟩:=d.vr i j e x J D;simp only[y,cb];exact E.mono m _ (λ_ _ h=>h)
 ·rw[nj];refine⟨?_,?_,A.inj⟩
  ·intro b o x h;unfold LR at h;split at h;·rename_i e;subst e;rw[jB v];exact t o x h
   exact f.cell (A.mem b o x h)
  intro r' k K;obtain⟨l,F,n⟩:=A.live r' k K;refine⟨l,F,n.bk m (λ_ _ h=>h) (f.old _ n.lt) ?_⟩;intro o x h;unfold LR at h;rw[if_neg (Nat.ne_of_lt n.lt)]at h;exact n.frozen o x h
 rw[nj];refine⟨f.os,f.tape,f.output,by rw[f.heap];simp,λb n _=>f.old b n,m,λ_ _ h=>h,λr' k l h G => .inr ⟨r',k,l,h,G,rfl⟩,?_⟩;intro b o x h;unfold LR at h;split at h;·rename_i e;exact .inr (.inl (by omega))
 exact .inl h
def jS.after{R:List Ref}(j:ti g R=g)(i:gA M ι g w){x:AV}{bs:List aY}{u:Value}{w':World}(h:jS (kA M ι g w R) ι g w r x bs u w'):jS M ι g w r x bs u w':=by
 obtain⟨_,b⟩:=zH (R:=R) i;rw[j]at b;obtain⟨M',a,e,d,c,f⟩:=h;exact⟨M',a,e,d,b.trans c,f⟩
def Jw(n:gA M ι g w){a b:List (Nat × AV)}(h:cZ g a=some b){qs:List (Nat × Value)}(l:a.length=qs.length)
 (hp : ∀(i:Nat) p q,a[i]?=some p->qs[i]?=some q->p.1=q.1/\VR M ι p.2 q.2) :
 b.length=qs.length /\∀(i:Nat) p q,b[i]?=some p->qs[i]?=some q->p.1=q.1/\VR (kA M ι g w (bH g (a.map (·.2)))) dC p.2 q.2:=by
 unfold cZ at h;refine⟨by rw[gK h,l],?_⟩;intro i p q d c;obtain⟨⟨k,x⟩,e,f⟩:=ot h i p d;simp only[bG]at f;obtain⟨y,s,rfl⟩:=f;obtain⟨o,j⟩:=hp i _ q e c;refine⟨o,BZ n depth x y q.2 s ?_ j⟩;intro r m;simp only[bH,gC,j6];exact⟨x,⟨(k,x),fZ e,rfl⟩,m⟩
def CH{z:Nat} : ∀(o:List (Nat × AV)) (qs:List (Nat × Value)) (es es':List AV) (us:Array Value),gN es o=some es'->Row M z es us.toList ->
 o.length=qs.length->(∀(i:Nat) p q,o[i]?=some p->qs[i]?=some q->p.1=q.1/\VR M dC p.2 q.2)->(∀p∈o,p.2.cells.length=z/\p.2.cells.all AV.one=true) ->
 es'.length=es.length /\∃f,Instr.fill (λi=>some (i * z,z)) us qs=some f/\Row M z es' f.toList:=by
 intro o;induction o with
 | nil=>
  intro qs es es' us h a E hp I;simp[gN]at h;subst h;cases qs with
  | nil=>exact⟨rfl,us,rfl,a⟩
  | cons q qs=>simp at E
 | cons p o U=>
  intro qs es es' us h a E hp I;cases qs with
  | nil=>simp at E
  | cons q qs=>
   obtain⟨i,v⟩:=p;obtain⟨Y,u⟩:=q;obtain⟨O,Q⟩:=hp 0 _ _ rfl rfl;simp only at O Q;subst O;simp only[gN]at h;split at h
   ·rename_i hi;obtain⟨D,m⟩:=I _ (gD ..);simp only at D m;have b:=Q.cells;have H:u.cells.size=z:=by have:=b.1;simp at this;omega
    have L:us.size=es.length * z:=by have:=a.len;simpa using this
    have S:i * z+z<=us.size:=(by have:(i+1) * z<=es.length * z:=lX _ hi;rw[lT]at this;omega);have l:=L2 (i * z) u.cells.toList 0 us (by simp;omega);have t:u.cells.zipIdx.foldl (λcs (p:Value × Nat)=>cs.setIfInBounds (i * z+p.2) p.1) us=cH us (i * z) u.cells.toList:=(by rw[ug]at l;rw[<-l,<-MX,iQT]);have A : ∀x∈u.cells.toList,x.oneCell'=true:=by
     intro x d;obtain⟨j,C,G⟩:=o5 d;have B:j<v.cells.length:=by rw[b.1];exact C
     have:=b.2 j _ x (de B) (by rw[<-G];exact de C);exact this.one (by simp only[dY]at m;exact m _ (eO B))
    have n:Row M z (es.set i v) (cH us (i * z) u.cells.toList).toList:=by
     refine⟨?_,?_,?_,?_⟩;·simp only[Az,MS];rw[jy (by simp;omega),L]
     ·intro e c;rcases Jn c with h | h
      ·exact a.Hz e h
      rw[h];exact D
     ·intro x d;simp only[cH,kQ]at d;rcases d with (h | h) | h
      ·exact a.one x (yF h)
      ·exact A x h
      exact a.one x (BX h)
     intro k j e x c d;have X:k<es.length:=by have:=(dT.1 c).1;simpa using this
     rw[Fe,iU (by simp;omega)];by_cases K:i=k
     ·subst K;rw[Dg hi]at c;injection c with c
      subst c;have C:j<v.cells.length:=(dT.1 d).1;rw[if_pos ⟨by omega,by simp;omega⟩,Jl];have y:j<u.cells.toList.length:=by rw[<-b.1];exact C
      exact⟨u.cells.toList[j],de y,b.2 j x _ d (de y)⟩
     rw[Fx K]at c;have C:j<z:=(by rw[<-a.Hz e (fZ c)];exact(dT.1 d).1);obtain⟨R,N,J⟩:=a.vr k j e x c d;rw[if_neg];·exact⟨R,by simpa using N,J⟩
     simp only[Az,H];rcases MY K with h | h
     ·have:(i+1) * z<=k * z:=lX _ h;rw[lT]at this;omega
     have:(k+1) * z<=i * z:=lX _ h;rw[lT]at this;omega
    obtain⟨T,f,W,V⟩:=U qs (es.set i v) es' (cH us (i * z) u.cells.toList) h n (by simpa using E) (λk p q s F=>hp (k+1) p q s F) (λp s=>I p (iS _ s));refine⟨by rw[T];simp,f,?_,V⟩;simp only[Instr.fill];rw[if_neg (by simp;omega)];rw[<-W,<-t]
   cases h
def vD{zs:Array Value}{n:Nat}(c:0<zs.size):((Array.range (n * zs.size)).map (zs[· % zs.size]!)).toList=(List.replicate n zs.toList).flatten:=by
 apply Jg;intro k;rcases eU k (n * zs.size)with a | a
 ·have b:k % zs.size<zs.size:=Nat.mod_lt _ c;have hd:k / zs.size<n:=(iQL c).2 a;have e:((Array.range (n * zs.size)).map (zs[· % zs.size]!)).toList[k]?=some zs[k % zs.size]:=(by simp[a,b,getElem!_pos]);rw[e];have : ∀n k,k<n * zs.size->(List.replicate n zs.toList).flatten[k]?=zs.toList[k % zs.size]?:=by
   intro n;induction n with
   | zero=>intro k a;simp at a
   | succ n d=>
    intro k a;rw[MZ,List.flatten_cons];rcases eU k zs.size with h | h
    ·rw[jG (by simpa using h),Jb h]
    rw[ic (by simpa using h),Az,d (k - zs.size) (by rw[lT]at a;omega)];congr 1;rw[<-Nat.mod_eq_sub_mod h]
  rw[this n k a];simp[b]
 rw[wE (by simpa using a),wE (by simpa using a)]
def GO{t:TypeId}{n:Nat}(N:gA M ι g w){f:List (Nat × AV)}{qs:Array (Nat × Value)}{b:aY}(h:mkSlice P g t n f=some b)(L:f.length=qs.toList.length)
 (hp : ∀(i:Nat) p q,f[i]?=some p->qs.toList[i]?=some q->p.1=q.1/\VR M ι p.2 q.2) :
 b.arr=true/\b.gB=false/\b.es.length=n /\∃e arr,(Instr.buildSlice t n qs).run P w = .ok (.slice (some ⟨w.heap.size,0,none⟩) n n) (w.alloc (.cells arr e))/\arr.size=n * b.esz /\
  Row (kA M ι g w (bH g (f.map (·.2)))) b.esz b.es arr.toList:=by
 unfold mkSlice at h;split at h;·cases h
 rename_i e U;split at h
 ·rename_i R z s D Q E;obtain⟨T,h⟩:=eQ.1 h;obtain⟨W,Y,S,H,B⟩:=T;simp only[bG]at h;obtain⟨es,A,rfl⟩:=h;obtain⟨it,u,l,C,I⟩:=rS Q;obtain⟨X,o,V⟩:=uu E;rw[l]at o;cases o;have k:=jo (M:=kA M ι g w (bH g (f.map (·.2)))) (ι:=dC) I;have j:u.cells.size=s:=by have:=k.cells.1;simp at this;omega
  have c:=Row.replicate k S H n;obtain⟨J,O⟩:=Jw N D L hp;have d:Row (kA M ι g w (bH g (f.map (·.2)))) s (List.replicate n z) ((Array.range (n * s)).map (u.cells[· % u.cells.size]!)).toList:=(by have:=vD (zs:=u.cells) (n:=n) (by omega);rw[j]at this;rw[j,this];exact c);obtain⟨F,m,K,G⟩:=CH R qs.toList (List.replicate n z) es _ A d J O (by
   intro p x;simp only[dY,bt,iQb]at B;exact⟨(B p x).1,by simp only[dY];exact(B p x).2⟩)
  refine⟨rfl,rfl,by simpa using F,e,m,?_,?_,G⟩
  ·have y : ¬16777216<n * s:=(by omega);have a:Instr.fill (λi=>some (i * s,s)) ((Array.range (n * s)).map ((if n * s=0 then #[] else u.cells)[· % (if n * s=0 then #[] else u.cells).size]!)) qs.toList=some m:=by
    rw[<-K];congr 1;by_cases h:n * s=0;·simp[h]
    rw[if_neg h]
   simp only[Instr.buildSlice,iQe,bB (gH U),iQd,cF E,gt_iff_lt];rw[if_neg y];by_cases v:n * s=0;·rw[if_pos v]at a ⊢;simp only[pure_bind];rw[a];simp[newRow]
   rw[if_neg v]at a ⊢;simp only[iQe,zeroValue,typeInfo,l,C,run_program,iQd,iQj,a];simp[newRow]
  rw[<-Az,G.len,F];simp
 cases h
def Ej{P:Program}{g:cL}{t:TypeId}{n:Nat}{a:List (Nat × AV)}{b:aY}(h:mkSlice P g t n a=some b):0<b.esz:=by
 unfold mkSlice at h;split at h;·cases h
 split at h;·obtain⟨c,h⟩:=eQ.1 h;obtain⟨_,_,rfl⟩:=bG.1 h;exact c.1
 cases h
def GA(s:gA M ι g w)(G:r.k=0)(F:ι r=none){d:Bool}{t:TypeId}{n:Nat}{l:List (Nat × AV)}{qs:Array (Nat × Value)}{x:AV}{bs:List aY}
 (h:fT P d g r t n (some l)=some (x,bs)) (D:l.length=qs.toList.length)
 (hp : ∀(i:Nat) p q,l[i]?=some p->qs.toList[i]?=some q->p.1=q.1/\VR M ι p.2 q.2) :
 ∃u w',(Instr.buildSlice t n qs).run P w = .ok u w'/\jS M ι g w r x bs u w':=by
 simp only[fT]at h;obtain⟨o,h⟩:=eQ.1 h;simp only[bG]at h;obtain⟨b,A,h⟩:=h;obtain⟨H,I,z,e,arr,E,C,B⟩:=GO s A D hp;have j:=LY o;obtain⟨f,_⟩:=zH (R:=bH g (l.map (·.2))) s;rw[j]at f;have a:C5 w (w.alloc (.cells arr e)) (.cells arr e (0,0)):=⟨rfl,rfl,rfl,rfl⟩;refine⟨_,_,E,jS.after j s ?_⟩;have v:b=⟨b.esz,b.es,true,false⟩:=by cases b;simp_all
 cases d with| true=>simp at h;obtain⟨rfl,rfl⟩:=h;have:=Sh (r:=r) f a B (λk u m=>by simpa using m) (c:=n) (by omega) (cap:=some n) (by intro k y;cases y;rfl);rw[z]at this;exact this| false=>simp at h;obtain⟨rfl,rfl⟩:=h;have:=tY f G F a B (λk u m=>by simpa using m) (n:=n) (c:=n) C (BP.zero _ _) (by omega) (bg _) (cap:=some n) (by intro k y;cases y;rfl);rw[z,<-v]at this;exact this (Ej A)
end
end
section
section
variable{P:Program}{M:Mem}{ι:Map}{g:cL}{w:World}{r:Ref}
inductive App (P:Program) (w:World) (t':Option TypeId) (x:Value) (e z:Nat) (n:Nat) (us:List Value):Prop
 | src {d:TypeDesc} (ht:t'.bind P.underlying=some d) (hd : ∀k,d ≠ .int k) (hl : ∀w':World,(Builtin.lenOf x).run P w' = .ok n w')
  (hf : ∀w':World,w'.heap=w.heap->(Builtin.firstCells z n x).run P w' = .ok us.toArray w')
 | zeros {k kx:IntKind} (u:Value) (ht:t'.bind P.underlying=some (.int k)) (hx:x = .int kx n) (hn:n<=aG) (hu : ∀w':World,(zeroValue e).run P w' = .ok u w') (hz:u.cells.size=z)
  (hus:us=(List.replicate n u.cells.toList).flatten)
def Dh{n:Nat}(h:n<=aG):IntKind.i64.wrap (n:Int)=n:=by
 unfold aG at h;exact iQa n ⟨by omega,by omega⟩
def DZ{u:Value}{n:Nat}:(Builtin.zeroCells u.cells n).toList=(List.replicate n u.cells.toList).flatten:=by
 unfold Builtin.zeroCells;rcases Dc u.cells.size with h | h
 ·have:u.cells.toList=[]:=by simpa using Ky h
  simp[h,this]
 exact vD h
def EI{l:Array TypeId}{t:TypeId}{ty:TypeId}(n:l[0]?=some t){e z by':Nat}(m:P.underlying t=some (.slice e))(p:aH P e=some z)(o:gX P e=some by')
 {a:Option Addr} {len c:Nat} (f:len<=c) {x:Value} (y:App P w l[1]? x e z 0 []) :
 (Builtin.append_ l ty #[.slice a len c,x]).run P w = .ok (.slice a len c) w:=by
 simp only[gX,bG]at o;obtain⟨i,hi,rfl⟩:=o;cases y with
 | src hd hm A E=>
  rename_i d;simp only[iz]at hd;obtain⟨t',b,hd⟩:=hd;have h:=E w rfl;have j:(match d with | .int _=>true | _=>false)=false:=by cases d<;>first | rfl | exact absurd rfl (hm _)
  cases a<;>simp[j,Builtin.append_,n,b,bB m,bB hd,cF p,A,f,h,storeCells]
 | zeros u hd q D C s B=>
  rename_i k kx;subst q;simp only[iz]at hd;obtain⟨t',b,hd⟩:=hd;have v:IntKind.i64.wrap 0=0:=by simpa using Dh D
  cases a<;>simp[Builtin.append_,n,b,bB m,bB hd,cF p,asInt,asIntOf,v,typeInfo,hi,f,storeCells]
def uB{K:Array TypeId}{t:TypeId}{ty:TypeId}(N:K[0]?=some t){e z by':Nat}(L:P.underlying t=some (.slice e))(R:aH P e=some z)(T:gX P e=some by')
 {D:Value} (m : ∀w':World,(zeroValue e).run P w' = .ok D w') (Z:D.cells.size=z)
 {a:Option Addr} {len c n:Nat} {x:Value} {olds us:List Value} (y : ∀w':World,w'.heap=w.heap->(Builtin.firstCells z len (.slice a len c)).run P w' = .ok olds.toArray w')
 (hA:App P w K[1]? x e z n us) (I:c<len+n) (f:(len+n) * by'<=aG) (q:0<by') :
 ∃cap w',len+n<=cap/\(Builtin.append_ K ty #[.slice a len c,x]).run P w = .ok (.slice (some ⟨w.heap.size,0,none⟩) (len+n) cap) w' /\
  C5 w w' (.cells (olds.toArray++us.toArray++Builtin.zeroCells D.cells (cap - (len+n))) e (0,0)):=by
 simp only[gX,bG]at T;obtain⟨i,hi,rfl⟩:=T;have j : ¬(9223372036854775807<(len:Int)+(n:Int)):=by
  have:(len+n) * 1<=(len+n) * i.bytes:=Nat.mul_le_mul_left _ q;unfold aG at f;omega
 have o : ¬(281474976710656<Builtin.nextslicecap (len+n) c * i.bytes):=by
  have:=growslice_fits (need:=len+n) (old:=c) (bytes:=i.bytes) I (by unfold aG at f;exact f);omega
 have p : ¬(len+n<=c):=by omega
 have b:=y w.drew rfl;obtain⟨A,J⟩ : ∃A,A=olds.toArray:=⟨_,rfl⟩;rw[<-J]at b ⊢;refine⟨grownCap w (len+n) c e,w.drew.alloc (.cells (A++us.toArray++Builtin.zeroCells D.cells (grownCap w (len+n) c e - (len+n))) e (0,0)),grownCap_ge _ _ _ _,?_,⟨rfl,rfl,rfl,rfl⟩⟩;cases hA with
 | src hd hm W Y=>
  rename_i d;simp only[iz]at hd;obtain⟨t',l,hd⟩:=hd;have C:=Y w.drew rfl;obtain⟨B,H⟩ : ∃B,B=us.toArray:=⟨_,rfl⟩;rw[<-H]at C ⊢;have S:(match d with | .int _=>true | _=>false)=false:=by cases d<;>first | rfl | exact absurd rfl (hm _)
  simp[S,Builtin.append_,N,l,bB L,bB hd,cF R,W,p,C,b,j,o,typeInfo,hi,Question.forced,m,newRow,grownCap]
 | zeros u hd V hn G O Q=>
  rename_i k kx;subst V;simp only[iz]at hd;obtain⟨t',l,hd⟩:=hd;have U:=Dh hn;have X:u=D:=by
   have F:=G w;rw[m w]at F;cases F;rfl
  subst X;have s : ¬((n:Int)<0):=by omega
  have E : ¬(281474976710656<(n:Int) * (i.bytes:Int)):=by
   have F:n * i.bytes<=(len+n) * i.bytes:=lX _ (by omega);unfold aG at f;have h2:((n * i.bytes:Nat):Int)=(n:Int) * (i.bytes:Int):=by simp
   omega
  have v:us.toArray=if n * z=0 then #[] else Builtin.zeroCells u.cells n:=by
   rw[Q,<-DZ];by_cases h:n * z=0
   ·rw[if_pos h];have:(Builtin.zeroCells u.cells n).size=0:=by rw[iQN,O,h]
    rw[Array.toArray_toList];exact Ky this
   rw[if_neg h]
  rw[v];by_cases h:n * z=0;·simp[Builtin.append_,N,l,bB L,bB hd,cF R,asInt,asIntOf,U,s,E,typeInfo,hi,p,j,o,h,b,Question.forced,m,newRow,grownCap]
  simp[Builtin.append_,N,l,bB L,bB hd,cF R,asInt,asIntOf,U,s,E,typeInfo,hi,p,j,o,h,b,Question.forced,m,newRow,grownCap]
def AN{B:Array TypeId}{t:TypeId}{ty:TypeId}(D:B[0]?=some t){e z by':Nat}(C:P.underlying t=some (.slice e))(H:aH P e=some z)(J:gX P e=some by')
 {b o len c n:Nat} {x:Value} {us:List Value} (R:App P w B[1]? x e z n us) (m:len+n<=c) (p:(len+n) * by'<=aG)
 {arr:Array Value} {T:TypeId} {fz:Nat × Nat} (v:w.heap[b]?=some (.cells arr T fz)) (L:o+len * z+us.length<=arr.size) (y : ∀j,j<arr.size ->¬(fz.1<=j/\(j<fz.2\/fz.2<fz.1))) (K : ∀u∈us,u.oneCell'=true) :
 (Builtin.append_ B ty #[.slice (some ⟨b,o,none⟩) len c,x]).run P w = .ok (.slice (some ⟨b,o,none⟩) (len+n) c) (ca w b (.cells (cH arr (o+len * z) us) T fz)):=by
 simp only[gX,bG]at J;obtain⟨i,hi,rfl⟩:=J;have f:=mQ (P:=P) (o+len * z) us 0 arr w v (by simpa using L) y K;rw[ug]at f;cases R with
 | src hd hm O Q=>
  rename_i d;simp only[iz]at hd;obtain⟨t',l,hd⟩:=hd;have F:=Q w rfl;have I:(match d with | .int _=>true | _=>false)=false:=by cases d<;>first | rfl | exact absurd rfl (hm _)
  simp[I,Builtin.append_,D,l,bB C,bB hd,cF H,O,m,F,gP,f]
 | zeros u hd N S A E G=>
  rename_i k kx;subst N;simp only[iz]at hd;obtain⟨t',l,hd⟩:=hd;have v:=Dh S;have q : ¬((n:Int)<0):=by omega
  have s : ¬(281474976710656<(n:Int) * (i.bytes:Int)):=by
   have K:n * i.bytes<=(len+n) * i.bytes:=lX _ (by omega);unfold aG at p;have U:((n * i.bytes:Nat):Int)=(n:Int) * (i.bytes:Int):=by simp
   omega
  have a:us=(if n * z=0 then #[] else Builtin.zeroCells u.cells n).toList:=by
   rw[G,<-DZ];by_cases h:n * z=0
   ·rw[if_pos h];have:(Builtin.zeroCells u.cells n).size=0:=by rw[iQN,E,h]
    rw[Ky this]
   rw[if_neg h]
  by_cases h:n * z=0;·rw[if_pos h]at a;simp only[Array.toList_empty]at a;rw[a]at f ⊢;simp[Builtin.append_,D,l,bB C,bB hd,cF H,asInt,asIntOf,v,q,s,typeInfo,hi,m,h,gP,f]
  rw[if_neg h]at a;rw[a]at f ⊢;simp[Builtin.append_,D,l,bB C,bB hd,cF H,asInt,asIntOf,v,q,s,typeInfo,hi,m,h,A,gP,f]
end
end
section
section
variable{P:Program}{M:Mem}{ι:Map}{g:cL}{w:World}{r:Ref}
def Rj{t:TypeId}{y z x:AV}{l p:Value}(m:VR M ι y l)(o:VR M ι z p){bs:List aY}(h:vT P t (some y) (some z)=some (x,bs)) :
 bs=[] /\∃u,(Instr.index t l p).run P w = .ok u w/\VR M ι x u:=by
 simp only[vT,dX]at h;split at h
 ·rename_i k cs j a;injection a with a
  subst a;obtain⟨D,rfl⟩:=xr o j;split at h
  ·rename_i n e E;split at h;·rename_i s c;obtain⟨d,h⟩:=eQ.1 h;simp only[jI,bG]at h;obtain⟨F,f,he⟩:=h;cases he;obtain⟨G,rfl,i⟩:=m.Qm;obtain⟨u,q,C⟩:=PJ (w:=w) i f;exact⟨rfl,u,by simp[Instr.index,asIntOf,bB (EX E),d.1,d.2,cF c,q],C⟩
   cases h
  cases h
 ·rename_i k s j c;injection c with c
  subst c;obtain⟨D,rfl⟩:=xr o j;cases m;obtain⟨d,h⟩:=eQ.1 h;simp only[jI,bG]at h;obtain⟨F,⟨b,A,rfl⟩,he⟩:=h;cases he;refine⟨rfl,.int .u8 b.toNat,?_,.v rfl⟩;have B:=d.2;simp[Instr.index,asIntOf,bB (sU d.1),B,A]
 cases h
def T9{f:Fn}{a b:List AV}{j l:List Value}(m:lI M ι a j)(k:lI M ι b l){x:AV}{bs:List aY}(h:yL f (some a) (some b)=some (x,bs)) :
 bs=[]/\VR M ι x (.func f j.toArray l.toArray):=by
 simp only[yL,dV,sI]at h;obtain⟨rfl,rfl⟩:=h;exact⟨rfl,.fn (by simpa using m.1) (by simpa using k.1) (λi c u e d=>m.2 i c u e (by simpa using d)) (λi c u e d=>k.2 i c u e (by simpa using d))⟩
def T4{tm:List AV}{a:Act}(h:TR M ι tm a){c x y:Operand}{z:AV}{bs:List aY}(d:Gw (aL tm) c x y=some (z,bs)) :
 bs=[] /\∃u,(do pure (if <-asBool (a.eval c) then a.eval x else a.eval y):Sem Value).run P w = .ok u w/\VR M ι z u:=by
 unfold Gw at d;split at d;·rename_i e;simp only[iz]at e;obtain⟨k,f,b⟩:=e;have:=Ap (aU h f) b;simp only[jI,bG]at d;obtain⟨j,i,he⟩:=d;cases he;exact⟨rfl,_,by simp[this,asBool],aU h i⟩
 ·rename_i e;simp only[iz]at e;obtain⟨k,f,b⟩:=e;have:=Ap (aU h f) b;simp only[jI,bG]at d;obtain⟨j,i,he⟩:=d;cases he;exact⟨rfl,_,by simp[this,asBool],aU h i⟩
 cases d
def Xm{m:Array TypeId}{ty:TypeId}{y x:AV}{j:Value}(f:VR M ι y j){bs:List aY}(h:Xn P m[0]? y=some (x,bs)) :
 bs=[] /\∃u,(Builtin.cap_ m ty #[j]).run P w = .ok u w/\VR M ι x u:=by
 unfold Xn at h;split at h;·rename_i e b;obtain⟨t,d,b⟩:=iz.1 b;cases h;cases f;exact⟨rfl,goInt 0,by simp[Builtin.cap_,d,bB (gH b)],.v rfl⟩
 ·rename_i e z es k b;obtain⟨t,d,b⟩:=iz.1 b;cases h;cases f with | bq cell n q i hm p B=>
  rename_i a c;have:=i k rfl;subst this;exact⟨rfl,goInt c,by simp[Builtin.cap_,d,bB (gH b)],.v rfl⟩
 ·rename_i e r s len k b;obtain⟨t,d,b⟩:=iz.1 b;cases h;cases f with | bA E A n C q D i o=>
  rename_i l a c;have:=i k rfl;subst this;exact⟨rfl,goInt c,by simp[Builtin.cap_,d,bB (gH b)],.v rfl⟩
 cases h
def Xk{l:Array TypeId}{ty:TypeId}{y x:AV}{k:Value}(f:VR M ι y k){bs:List aY}(h:HR P l[0]? y=some (x,bs)) :
 bs=[] /\∃u,(Builtin.len_ l ty #[k]).run P w = .ok u w/\VR M ι x u:=by
 unfold HR at h;split at h;·cases h
 rename_i t b;split at h
 ·rename_i n e m;injection h with h
  injection h with d c
  subst d;subst c;exact⟨rfl,goInt n,by simp[Builtin.len_,b,bB (EX m)],.v rfl⟩
 split at h
 ·rename_i j;split at h
  ·injection h with h
   injection h with d c
   subst d;subst c;cases f;exact⟨rfl,goInt _,by simp[Builtin.len_,b,bB (sU j)],.v rfl⟩
  cases h
 obtain⟨j,h⟩:=eQ.1 h;obtain⟨e,he⟩:=ib.1 j;have i:=gH he;simp only[bG]at h;obtain⟨n,a,h⟩:=h;injection h with d c
 subst d;subst c;refine⟨rfl,goInt n,?_,.v rfl⟩;unfold sT at a;split at a;·injection a with a;subst a;cases f;simp[Builtin.len_,b,bB i]
 ·injection a with a;subst a;cases f;simp[Builtin.len_,b,bB i]
 ·injection a with a;subst a;cases f;simp[Builtin.len_,b,bB i]
 ·injection a with a;subst a;cases f;simp[Builtin.len_,b,bB i]
 cases a
def I1{x:AV}{u:Value}{b:UInt8}(a:VR M ι x u)(h:byteOf x=some b) : ∃n:Int,u = .int .u8 n/\b=UInt8.ofNat n.toNat:=by
 unfold byteOf at h;split at h
 ·injection h with h
  cases a;exact⟨_,rfl,h.symm⟩
 cases h
def OC : ∀(a:List Int)(s:ByteArray),a.foldl (λr n=>r.push (UInt8.ofNat n.toNat)) s=⟨s.data++(a.map λn=>UInt8.ofNat n.toNat).toArray⟩:=by
 intro a;induction a with
 | nil=>intro s;simp
 | cons n a b=>intro s;rw[rB,b];simp[ByteArray.push]
def Lr(L:gA M ι g w)(hr:r.k=0)(hq:ι r=none){src dst:TypeId}{y x:AV}{u0:Value}(R:VR M ι y u0){bs:List aY}(h:bX P g r src dst (some y)=some (x,bs)) :
 ∃u w',(Go.convert src dst u0).run P w = .ok u w'/\jS M ι g w r x bs u w':=by
 unfold bX at h;split at h
 ·rename_i e;injection e with e
  subst e;cases R;obtain⟨p,h⟩:=eQ.1 h;simp only[bt]at p;obtain⟨e,E,F⟩:=qL p.1;injection h with h
  injection h with H S
  subst H;subst S;exact⟨.string .empty,w,by rw[iQC w src dst e none 0 0 E F (sU p.2)];rfl,jS.same L (.v rfl)⟩
 ·rename_i s e;injection e with e
  subst e;cases R;split at h
  ·rename_i p;simp only[bt]at p;injection h with h
   injection h with H S
   subst H;subst S;exact⟨.string s,w,by simp[Go.convert,bB (sU p.1),bB (sU p.2)],jS.same L (.v rfl)⟩
  split at h
  ·rename_i p;simp only[bt]at p;obtain⟨hrm,h⟩:=eQ.1 h;injection h with h
   injection h with H S
   subst H;subst S;obtain⟨e,E,F⟩:=qL p.2;have hrun:=run_bytes_of_string (P:=P) w src dst e s (sU p.1) E F;have hcap:=grownCap_ge w s.size 0 e;have hrow:Row M 1 (s.data.toList.map λb=>AV.v (.int .u8 b.toNat)) (s.data.toList.map λb=>Value.int .u8 b.toNat):=by
    refine⟨by simp,?_,?_,?_⟩;·intro e I;simp only[j6]at I;obtain⟨b,_,rfl⟩:=I;rfl
    ·intro x hx;simp only[j6]at hx;obtain⟨b,_,rfl⟩:=hx;rfl
    intro i j e x I hx;simp only[kR,bG]at I;obtain⟨b,hb,rfl⟩:=I;cases j with
    | succ j=>simp[AV.cells]at hx
    | zero=>simp[AV.cells]at hx;subst hx;exact⟨.int .u8 b.toNat,by simp[hb],.v rfl⟩
   have hsize:(bytesRow s (grownCap w s.size 0 e)).size=grownCap w s.size 0 e:=(by have:s.data.size=s.size:=rfl;simp[bytesRow];omega);have:=tY L hr hq (w':=w.drew.alloc (.cells (bytesRow s (grownCap w s.size 0 e)) e ((bytesRow s (grownCap w s.size 0 e)).size,(bytesRow s (grownCap w s.size 0 e)).size+1)))
    ⟨rfl,rfl,rfl,rfl⟩ hrow (by
     intro k u hu;have D:=(dT.1 hu).1;unfold bytesRow;rw[Nd (by simpa using D)];rw[<-hu];simp) (n:=grownCap w s.size 0 e) (c:=grownCap w s.size 0 e) (by rw[hsize];simp) ⟨by intro o ho h;simp only at h;omega,λh=>absurd h (by decide)⟩ (by simpa using hcap) (bg _) (cap:=none) (by intro k D;cases D) Nat.one_pos
   simp only[zg,Az]at this;exact⟨_,_,hrun,this⟩
  cases h
 ·rename_i v hne1 hne2 e;injection e with e
  subst e;simp only[jI,bG,iz]at h;obtain⟨z,⟨u,hu,hz⟩,I⟩:=h;cases I;cases R;exact⟨u,w,nU hu w,jS.same L (nV hz)⟩
 ·rename_i y' hne1 hne2 J e;injection e with e
  subst e;split at h
  ·rename_i p;simp only[bt]at p;obtain⟨e,E,F⟩:=qL p.1;split at h
   ·rename_i z es d;simp only[bG]at h;obtain⟨l,hl,h⟩:=h;injection h with H S
    subst H;subst S;have hz1:z=1\/es=[]:=by
     cases es with| nil=>exact .inr rfl| cons e0 es0=>
      left;obtain⟨b,_,hb⟩:=lE hl 0 e0 rfl;unfold byteOf at hb;split at hb
      ·rename_i n;cases R with
       | bq cell X hcc' D hm I W=>simp only[cy,dV,sI]at d;obtain⟨rfl,rfl⟩:=d;have:=I _ (gD ..);simpa [AV.cells] using this.symm
       | bA O hb' X ha hcc' hn D G=>
        rename_i r1 off1 J2 cap1 l1 a1 c1;simp only[cy]at d;split at d
        ·rename_i b1 N;obtain⟨K,d⟩:=eQ.1 d;injection d with d
         injection d with Y h4
         have C:=L.at O G N;have hmem:(AV.v (.int .u8 n))∈b1.es:=by
          have:(AV.v (.int .u8 n))∈(b1.es.drop off1).take J2:=by rw[h4];exact gD ..
          exact BX (yF this)
         have:=C.cells _ hmem;rw[<-Y,<-this];rfl
        cases d
       | v hv=>exact absurd rfl (J _)
       | _=>simp[cy]at d
      cases hb
    have hlen:=gK hl;obtain⟨a,n,c,rfl,hn,A⟩ : ∃a n c,u0 = .slice (some a) n c/\es.length=n /\∀j,j<n ->∃b:Int,w.cell? (a.add j)=some (.int .u8 b)/\l[j]?=some (UInt8.ofNat b.toNat):=by
     rcases hz1 with rfl | rfl
     ·obtain⟨us,hsrc⟩:=oa (P:=P) L R (Nat.one_pos) d;cases R with
      | bq cell X p D hm I W=>
       rename_i esz es' cap a c;simp only[cy,dV,sI]at d;obtain⟨rfl,rfl⟩:=d;refine⟨a,es'.length,c,rfl,rfl,?_⟩;intro j t;have Q:=de t;obtain⟨b,N,B⟩:=lE hl j _ Q;have hcl:=I _ (eO t);have hbv:es'[j].cells=[es'[j]]:=by
        unfold byteOf at B;split at B;·rename_i U;rw[U];rfl
        cases B
       have hvr:=W j 0 _ _ Q (show es'[j].cells[0]?=some es'[j] by rw[hbv];rfl);obtain⟨nb,V,rfl⟩:=I1 hvr B;refine⟨nb,?_,N⟩;have:=L.mem _ _ _ (hm j 0 t (by omega)).1;rw[kf (X.resolve_right (by intro e;subst e;simp at t)),gP];rw[V]at this;simpa using this
      | bA O hb' X ha p hn D G=>
       rename_i r1 m len cap l1 a c;simp only[cy]at d;split at d
       ·rename_i b1 N;obtain⟨K,d⟩:=eQ.1 d;injection d with d
        injection d with Y h4
        subst h4;have C:=L.at O G N;obtain⟨g1,g2⟩:=getElems b1.es m len K.2;refine⟨a,len,c,rfl,g1,?_⟩;intro j t;have Q:((b1.es.drop m).take len)[j]?=some b1.es[m+j]:=by rw[g2 j t];exact de (by omega)
        obtain⟨b,hb1',B⟩:=lE hl j _ Q;have hcl:=C.cells _ (eO (by omega:m+j<b1.es.length));have hbv:b1.es[m+j].cells=[b1.es[m+j]]:=by
         unfold byteOf at B;split at B;·rename_i U;rw[U];rfl
         cases B
        obtain⟨u,hu1,hu2,hu3⟩:=C.cell (m+j) (de (by omega)) 0 b1.es[m+j] (by rw[hbv];rfl);obtain⟨nb,V,rfl⟩:=I1 hu3 B;refine⟨nb,?_,hb1'⟩;have hoff:a.off=m * l1.esz:=by
         rcases ha with h | h
         ·omega
         exact h
        rw[kf X,gP,hb',hoff,C.esz,Y];rw[Y,V]at hu1;simp only[Nat.mul_one,ug]at hu1 ⊢;exact hu1
       cases d
      | v hv=>exact absurd rfl (J _)
      | _=>simp[cy]at d
     cases R with
     | bq cell X p D hm I W=>rename_i esz es' cap a c;simp only[cy,dV,sI]at d;obtain⟨rfl,rfl⟩:=d;exact⟨a,0,c,rfl,rfl,λj t=>by omega⟩
     | bA O hb' X ha p hn D G=>
      rename_i r1 m len cap l1 a c;simp only[cy]at d;split at d
      ·obtain⟨K,d⟩:=eQ.1 d;injection d with d
       injection d with Y h4
       have:len=0:=(by have:=(getElems _ m len K.2).1;rw[h4]at this;simpa using this.symm);exact⟨a,len,c,rfl,by simp[this],λj t=>by omega⟩
      cases d
     | v hv=>exact absurd rfl (J _)
     | _=>simp[cy]at d
    refine⟨.string ⟨l.toArray⟩,w,?_,jS.same L (.v rfl)⟩;rw[iQC w src dst e (some a) n c E F (sU p.2)];let f:Nat->Int:=λj=>if h:j<n then (A j h).choose else 0
    have hf1 : ∀j,j<n->w.cell? (a.add j)=some (.int .u8 (f j)):=λj t=>by simp only[f,dif_pos t];exact(A j t).choose_spec.1
    have hf2 : ∀j,j<n->l[j]?=some (UInt8.ofNat (f j).toNat):=λj t=>by simp only[f,dif_pos t];exact(A j t).choose_spec.2
    have hload:=run_loadCells (P:=P) w a n (λj => .int .u8 (f j)) (λj t=>hf1 j t);have hns:(loadCells a n).run P w = .ok (((List.range n).map f).map (Value.int .u8)).toArray w:=by rw[hload];simp
    rw[run_bytesToString w a n c _ hns,OC];have:((List.range n).map f).map (λn=>UInt8.ofNat n.toNat)=l:=by
     apply Jg;intro j;rcases eU j n with t | t
     ·rw[hf2 j t];simp[t]
     rw[wE (by simpa using t),wE (by omega)]
    rw[this];have Z:ByteArray.empty.data = #[]:=rfl;rw[Z];simp
   cases h
  replace h:=eQ.1 h;obtain⟨p,h⟩:=h;simp only[bt,iQl]at p;obtain⟨Z,p⟩:=p;subst Z;obtain⟨e,E,F⟩:=qL p;cases y with
  | bA r' m len cap=>
   obtain⟨k,D,hk1,h⟩ : ∃k,g r'=some k/\k.esz=1/\some (AV.bA r' m len cap,([]:List aY))=some (x,bs):=by
    cases D:g r' with| none=>simp only[D]at h;cases h| some k=>simp only[D]at h;obtain⟨H,h⟩:=eQ.1 h;exact⟨k,rfl,H,h⟩
   injection h with h;injection h with H S;subst H;subst S
   have hy0:=R;cases R with | bA hrl hbb hsp ha K hn hkk G=>
   rename_i l a c;have C:=L.at hrl G D;obtain⟨arr,T,fz,W,hsz,hfz,hcells⟩:=C.heap;have hlt:=C.lt;have hfr:w.freeze ⟨a.block,arr.size,none⟩ 1=ca w l.b (.cells arr T (if fz.1 == fz.2 then (arr.size,arr.size+1) else (min fz.1 arr.size,max fz.2 (arr.size+1)))):=by
    unfold World.freeze ca;rw[if_neg (by decide)];congr 1;apply D0;intro i;rw[Fz,hbb];by_cases hi:l.b=i;·subst hi;rw[if_pos rfl,W,Fg hlt];rfl
    rw[if_neg hi,AD hi]
   have hfz' : ∀o,o<arr.size ->¬((if fz.1 == fz.2 then (arr.size,arr.size+1) else (min fz.1 arr.size,max fz.2 (arr.size+1)):Nat × Nat).1<=o/\(o<(if fz.1 == fz.2 then (arr.size,arr.size+1) else (min fz.1 arr.size,max fz.2 (arr.size+1)):Nat × Nat).2\/(if fz.1 == fz.2 then (arr.size,arr.size+1) else (min fz.1 arr.size,max fz.2 (arr.size+1)):Nat × Nat).2<(if fz.1 == fz.2 then (arr.size,arr.size+1) else (min fz.1 arr.size,max fz.2 (arr.size+1)):Nat × Nat).1)):=by
    intro o ho;split;·simp only;omega
    rename_i hne;simp only[iQl]at hne;have H:arr.size<=fz.1:=by
     rcases eU fz.1 arr.size with h | h
     ·exact absurd ⟨bg _,by omega⟩ (hfz.1 fz.1 h)
     exact h
    simp only;omega
   obtain⟨Y,h4⟩:=L.mark D hrl W hfr ⟨hfz',λH=>by omega⟩;refine⟨.slice (some a) len c,_,?_,M,ι,hy0,by rw[nj];exact Y,by rw[nj];exact h4,λq hq _=>hq⟩;have hsh:w.shape? a.block=some (T,arr.size):=(by unfold World.shape?;rw[hbb,W]);simp[Go.convert,bB E,bB F,markStringish,hsh]
  | _=>cases h
 rename_i e;cases e
def T6(hS:gA M ι g w)(hr:r.k=0)(hq:ι r=none){t:TypeId}{y z x:AV}{W Z:Value}(hy:VR M ι y W)(hz:VR M ι z Z){bs:List aY}(h:xk P r t (some y) (some z)=some (x,bs)) :
 ∃u w',(Instr.makeSlice t W Z).run P w = .ok u w'/\jS M ι g w r x bs u w':=by
 unfold xk at h;simp only[dX]at h;split at h
 ·rename_i e l c Y hl hc;obtain⟨kl,rfl⟩:=xr hy hl;obtain⟨kc,rfl⟩:=xr hz hc;split at h
  ·rename_i zv s b S O U;obtain⟨q,h⟩:=eQ.1 h;obtain⟨V,c2,c3,c4,c5,c6,X⟩:=q;injection h with h
   injection h with h1 h2
   subst h1;subst h2;obtain⟨it,u,j,T,hu⟩:=rS S;obtain⟨i',L,hsz⟩:=uu O;rw[j]at L;cases L;simp only[gX,j,Option.map_some,dV]at U;have p:=jo (M:=M) (ι:=dC) hu;have E:u.cells.size=s:=by have:=p.cells.1;simp at this;omega
   obtain⟨m,rfl⟩:=Ff V;obtain⟨a,rfl⟩:=Ff (Int.le_trans V c2);have H:IntKind.i64.wrap (m:Int)=m:=iQa _ ⟨by omega,by omega⟩;have D:IntKind.i64.wrap (a:Int)=a:=iQa _ ⟨by omega,by omega⟩;have C : ¬((a:Int)<0):=by omega
   have o : ¬(281474976710656<(it.bytes:Int) * (a:Int)):=(by rw[U,Int.mul_comm];have e1:((aG:Nat):Int)=140737488355328:=rfl;omega);have F : ¬((m:Int)<0):=(by omega);have I : ¬((a:Int)<(m:Int)):=(by omega);have d:=vD (zs:=u.cells) (n:=a) (by omega);rw[E]at d;have f:((Array.range (a * s)).map ((if a * s=0 then #[] else u.cells)[· % (if a * s=0 then #[] else u.cells).size]!)).toList=(List.replicate a u.cells.toList).flatten:=by
    by_cases G:a * s=0
    ·have R:a=0:=by
      rcases Nat.mul_eq_zero.1 G with h | h
      ·exact h
      omega
     simp[R]
    rw[if_neg G,E];exact d
   obtain⟨arr,i⟩ : ∃arr,arr=(Array.range (a * s)).map ((if a * s=0 then #[] else u.cells)[· % (if a * s=0 then #[] else u.cells).size]!):=⟨_,rfl⟩;rw[<-i]at f;have A:=Row.replicate p c6 X a;have B:arr.size=a * s:=by rw[<-Az,f];have:=A.len;simpa using this
   have K:(Instr.makeSlice t (.int kl m) (.int kc a)).run P w = .ok (.slice (some ⟨w.heap.size,0,none⟩) m a) (w.alloc (.cells arr e)):=by
    subst i;by_cases G:a * s=0;·simp[Instr.makeSlice,bB (gH Y),asInt,asIntOf,typeInfo,j,H,D,C,o,F,I,cF O,G,newRow]
    simp[Instr.makeSlice,bB (gH Y),asInt,asIntOf,typeInfo,j,H,D,C,o,F,I,cF O,G,newRow,zeroValue,T]
   refine⟨_,_,K,?_⟩;have J:=Row.replicate p c6 X m;have:=tY hS hr hq (w':=w.alloc (.cells arr e)) ⟨rfl,rfl,rfl,rfl⟩ J (by
    intro k v N;rw[<-Fe,f];have Q:(List.replicate a u.cells.toList)=List.replicate m u.cells.toList++List.replicate (a - m) u.cells.toList:=by rw[SI];congr 1;omega
    rw[Q,List.flatten_append,jG (dT.1 N).1];exact N) (n:=a) (c:=a) B (BP.zero _ _) (by simp;omega) (bg _) (cap:=none) (by intro k N;cases N) c5
   simpa using this
  cases h
 cases h
end
end
section
section
variable{P:Program}{M:Mem}{ι:Map}{g:cL}{w:World}{r:Ref}
def GN(Y:gA M ι g w){t':Option TypeId}{e z:Nat}(hz:aH P e=some z)(J:0<z){x:AV}{N:Value}(y:VR M ι x N){new:List AV}
 (R : ¬((t'.bind P.underlying).isNone=true\/(t'.map (isInt P)).getD false≠isNum x)) (h:md P g e x=some (z,new)) : ∃us,Row M z new us/\App P w t' N e z new.length us:=by
 have K : ∃d,t'.bind P.underlying=some d/\(isNum x=false ->∀k,d ≠ .int k)/\(isNum x=true ->∃k,d = .int k):=by
  have c : ¬(t'.bind P.underlying).isNone=true:=λh=>R (.inl h);have b:(t'.map (isInt P)).getD false=isNum x:=vk.1 λh=>R (.inr h);cases t' with
  | none=>simp at c
  | some t=>
   simp only[dX]at c ⊢;cases C:P.underlying t with
   | none=>simp[C]at c
   | some d=>
    simp only[Option.map_some,cb]at b;refine⟨d,rfl,?_,?_⟩;·intro L k s;subst s;rw[L]at b;simp[isInt,C]at b
    intro L;rw[L]at b;obtain⟨k,s⟩:=UT b;rw[C]at s;exact⟨k,by simpa using s⟩
 obtain⟨d,hd,j,I⟩:=K;unfold md at h;split at h
 ·simp only[bG]at h;obtain⟨O,D,h⟩:=h;injection h with c b
  subst b;cases y;exact⟨[],Row.nil,.src hd (j rfl) (λw'=>rfl) (λw' _=>rfl)⟩
 ·rename_i k n;split at h
  ·rename_i wv O E D;obtain⟨f,h⟩:=eQ.1 h;injection h with h
   injection h with c b
   subst c;subst b;obtain⟨U,X,W,S⟩:=f;obtain⟨m,rfl⟩:=Ff U;obtain⟨k',rfl⟩:=I rfl;cases y;obtain⟨u,l,F⟩:=xf E w;have A : ∀w':World,(zeroValue e).run P w' = .ok u w':=by
    intro w';obtain⟨Z,c,b⟩:=xf E w';obtain⟨it,v,i,o,G⟩:=rS E;have V:(zeroValue e).run P w = .ok v w:=by simp[zeroValue,typeInfo,i,o]
    have T:(zeroValue e).run P w' = .ok v w':=(by simp[zeroValue,typeInfo,i,o]);rw[V]at l;cases l;exact T
   have G:=jo (M:=M) (ι:=dC) F;have H:u.cells.size=O:=by have:=G.cells.1;simp at this;omega
   refine⟨_,Row.replicate G W S m,?_⟩;rw[Jf];exact .zeros (kx:=k) u hd (by simp) (by simpa using X) A H (by simp)
  cases h
 rename_i Q p;have q:isNum x=false:=by
  unfold isNum;split;·exact absurd rfl (p _ _)
  rfl
 obtain⟨us,a⟩:=oa (P:=P) Y y J h;refine⟨us,a.row,.src hd (j q) a.lenOf λw' B=>?_⟩;have:=a.first new.length w' (bg _) B;rwa [cN (by rw[a.len];exact bg _)]at this
def Bh{e z:Nat}(h:aH P e=some z){y:AV}(d:eP P e=some y)(f:y.cells.length=z) : ∃u,(∀w':World,(zeroValue e).run P w' = .ok u w')/\u.cells.size=z:=by
 obtain⟨it,v,b,a,c⟩:=rS d;refine⟨v,λw'=>by simp[zeroValue,typeInfo,b,a],?_⟩;have:=(jo (M:=λ_ _=>none) (ι:=dC) c).cells.1;simp at this;omega
def zF{olds us:List Value}{b:Value}{z n1 n2 cap:Nat}(e:olds.length=n1 * z)(d:us.length=n2 * z)(f:b.cells.size=z)(h:n1+n2<=cap) :
 (olds.toArray++us.toArray++Builtin.zeroCells b.cells (cap - (n1+n2))).size=cap * z /\
 ∀(k:Nat) u,(olds++us)[k]?=some u->(olds.toArray++us.toArray++Builtin.zeroCells b.cells (cap - (n1+n2)))[k]?=some u:=by
 constructor;·simp only[Array.size_append,List.size_toArray,iQN,f,e,d,<-lT];congr 1;omega
 intro k u c;have a:=(dT.1 c).1;rw[Nd (by simpa using a)];simpa using c
def Af{a:Option Addr}{len c z:Nat}{es:List AV}{us:List Value}{u:Value}(d:u = .slice a len c)(e:es.length=len)(h:Src P M w u z es us) :
 ∀w':World,w'.heap=w.heap->(Builtin.firstCells z len (.slice a len c)).run P w' = .ok us.toArray w':=by
 intro w' b;have:=h.first es.length w' (bg _) b;rw[cN (by rw[h.len];exact bg _),d,e]at this;exact this
def GB(J:gA M ι g w)(hr:r.k=0)(hq:ι r=none){S:Array TypeId}{ty:TypeId}{s x y:AV}{us ux:Value}(O:VR M ι s us)(hx:VR M ι x ux){bs:List aY}
 (h:ei P g r S[0]? S[1]? s x=some (y,bs)) : ∃u w',(Builtin.append_ S ty #[us,ux]).run P w = .ok u w'/\jS M ι g w r y bs u w':=by
 unfold ei at h;split at h;·cases h
 rename_i e he;simp only[iz]at he;obtain⟨t,ht,he⟩:=he;have hu:=gH he;split at h;·cases h
 rename_i hc;split at h
 ·rename_i z by' zz L new hz hb hzz hnew;split at h;·cases h
  rename_i i;have W:L=z:=vk.1 λh=>i (.inl h);have D:0<z:=vl λh=>i (.inr (.inl h));have hb0:0<by':=vl λh=>i (.inr (.inr (.inl h)));have V:zz.cells.length=z:=vk.1 λh=>i (.inr (.inr (.inr h)));have hez':=W;subst W;obtain⟨X,q,hA⟩:=GN (w:=w) J hz D hx hc hnew;have f:new=[] ->∀a len c,len<=c->us = .slice a len c->(Builtin.append_ S ty #[us,ux]).run P w = .ok us w:=by
   intro E a len c hlc I;subst E;have:X=[]:=yG (by rw[q.len];simp);subst this;rw[I];exact EI ht hu hz hb hlc hA
  have fresh : ∀ {a:Option Addr} {len c:Nat} {es:List AV} {us0:List Value},us = .slice a len c->es.length=len->Row M L es us0 ->
   (∀w':World,w'.heap=w.heap->(Builtin.firstCells L len (.slice a len c)).run P w' = .ok us0.toArray w')->c<len+new.length->(len+new.length) * by'<=aG ->
   ∃u w',(Builtin.append_ S ty #[us,ux]).run P w = .ok u w'/\jS M ι g w r (.bA r 0 (len+new.length) none) [⟨L,es++new,true,false⟩] u w':=by
   intro a len c es us0 I C A T F d;obtain⟨zv,hzv,U⟩:=Bh hz hzz V;obtain⟨cap,w',Q,Y,H⟩:=uB (P:=P) (w:=w) (ty:=ty) ht hu hz hb hzv U T hA F d hb0;obtain⟨o,p⟩:=zF (olds:=us0) (us:=X) (n1:=len) (n2:=new.length) (cap:=cap) (by rw[A.len,C]) q.len U Q;refine⟨_,w',by rw[I];exact Y,?_⟩;have:=tY J hr hq H (A.append q) p (n:=cap) (c:=cap) o (BP.zero _ _) (by simp;omega) (bg _) (cap:=none) (by intro k R;cases R) D;simp only[ju,C]at this;exact this
  split at h
  ·cases O;split at h
   ·rename_i E;injection h with h;injection h with o p;subst o;subst p
    exact⟨_,w,f E none 0 0 (bg _) rfl,jS.same J (.v rfl)⟩
   rename_i E;obtain⟨d,h⟩:=eQ.1 h;injection h with h;injection h with o p;subst o;subst p
   have hpos:0<new.length:=D1.2 E;have:=fresh (a:=none) (len:=0) (c:=0) (es:=[]) (us0:=[]) rfl rfl Row.nil (λw' _=>rfl) (by omega) (by simpa using d);simpa using this
  ·rename_i n es cap;split at h;·cases h
   rename_i K;have K:n=L:=vk.1 K;subst K;have B:=O;cases O with | bq cell hsp G R hm hes hh=>
   rename_i a c;split at h
   ·rename_i E;injection h with h;injection h with o p;subst o;subst p
    exact⟨_,w,f E _ _ _ G rfl,jS.same J B⟩
   cases cap with
   | some k=>
    obtain⟨⟨F,d⟩,h⟩:=eQ.1 h;injection h with h;injection h with o p;subst o;subst p
    have hck:=R k rfl;obtain⟨us0,j⟩:=oa (P:=P) (g:=g) (z:=n) (es:=es) J B D rfl;exact fresh rfl rfl j.row (Af rfl rfl j) (by omega) d
   | none=>cases h
  ·rename_i r' N len cap;split at h
   ·rename_i b hb';split at h;·cases h
    rename_i m;have hbz:b.esz=L:=vk.1 λh=>m (.inl h);have Z:b.arr=true:=by
     cases hh:b.arr with| true=>rfl| false=>exact absurd (.inr hh) m
    have B:=O;cases O with | bA hrl hbb hsp ha G E R V=>
    rename_i l a c;split at h
    ·rename_i hn';injection h with h;injection h with o p;subst o;subst p
     exact⟨_,w,f hn' _ _ _ G rfl,jS.same J B⟩
    cases cap with
    | some k=>
     obtain⟨⟨hle,F,d⟩,h⟩:=eQ.1 h;injection h with h;injection h with o p;subst o;subst p
     have hck:=R k rfl;have C:cy g (.bA r' N len (some k))=some (L,(b.es.drop N).take len):=(by simp only[cy,hb',Z,hle,and_self,if_true,hbz]);obtain⟨us0,j⟩:=oa (P:=P) J B D C;have hl:=(getElems b.es N len hle).1;exact fresh rfl hl j.row (Af rfl hl j) (by omega) d
    | none=>cases h
   cases h
  cases h
 cases h
end
end
section
def aa.ab(H:aa)(r q:Ref)(b:Option aY):(H.put r b).get q=if q=r then b else H.get q:=by
 induction H with
 | nil=>
  simp only[aa.put,aa.get];by_cases h:q=r;·rw[if_pos h.symm,if_pos h]
  rw[if_neg (rO h),if_neg h]
 | cons p H e=>
  obtain⟨r',f⟩:=p;simp only[aa.put];by_cases d:r'=r
  ·rw[if_pos d];simp only[aa.get];by_cases c:q=r;·rw[if_pos c.symm,if_pos c]
   rw[if_neg (rO c),if_neg c,if_neg (by rw[d];exact rO c)]
  rw[if_neg d];simp only[aa.get];by_cases a:r'=q;·rw[if_pos a,if_neg (by rw[<-a];exact d),if_pos a]
  rw[if_neg a,e,if_neg a]
def aa.dK(H:aa)(r:Ref)(b:Option aY)(h:(H.get r).isSome=true)(d t:Nat):(H.put r b).gen d t=H.gen d t:=by
 induction H with| nil=>simp[aa.get]at h| cons p H c=>
  obtain⟨r',e⟩:=p;simp only[aa.put];by_cases a:r'=r;·rw[if_pos a,a];rfl
  rw[if_neg a];simp only[aa.gen];simp only[aa.get,if_neg a]at h;rw[c h]
def aa.du(R:List Ref) : ∀(H:aa),(b9 H R).get=ti H.get R:=by
 induction R with| nil=>intro H;funext q;simp[b9,ti]| cons r R e=>
  intro H;funext q;simp only[b9];split
  ·rename_i b d;rw[e];unfold ti;simp only[ef,aa.ab];by_cases a:q=r;·subst a;simp[d]
   simp only[if_neg a];by_cases c:q∈R;·simp[c]
   simp[c,a]
  rename_i d;rw[e];unfold ti;simp only[ef];by_cases a:q=r;·subst a;simp[d]
  by_cases c:q∈R;·simp[c]
  simp[c,a]
def aa.iw(R:List Ref) : ∀(H:aa)(d t:Nat),(b9 H R).gen d t=H.gen d t:=by
 induction R with| nil=>intro H d t;rfl| cons r R a=>
  intro H d t;simp only[b9];split;·rename_i b c;rw[a,aa.dK H r _ (by rw[c];rfl)]
  exact a H d t
def aa.Aj(r:Ref) : ∀(bs:List aY)(k:Nat)(H:aa)(q:Ref),(keyed r k bs H).get q=if q.d=r.d/\q.t=r.t/\q.g=r.g/\k<=q.k/\q.k<k+bs.length then bs[q.k - k]? else H.get q:=by
 intro bs;induction bs with
 | nil=>intro k H q;rw[if_neg (by intro h;simp only[k8]at h;omega)];rfl
 | cons b bs f=>
  intro k H q;simp only[keyed,f,aa.get,iA];by_cases a:q.d=r.d/\q.t=r.t/\q.g=r.g
  ·by_cases c:q.k=k;·rw[if_neg (by omega),if_pos (by cases q;cases r;simp_all),if_pos ⟨a.1,a.2.1,a.2.2,by omega,by omega⟩];simp[c]
   by_cases e:k+1<=q.k/\q.k<k+1+bs.length;·rw[if_pos ⟨a.1,a.2.1,a.2.2,e⟩,if_pos ⟨a.1,a.2.1,a.2.2,by omega,by omega⟩];rw[show q.k - k=(q.k - (k+1))+1 by omega];simp
   rw[if_neg (by omega),if_neg (by intro h;apply c;rw[<-h]),if_neg (by omega)]
  rw[if_neg (by intro h;exact a ⟨h.1,h.2.1,h.2.2.1⟩),if_neg (by intro h;apply a;rw[<-h];exact⟨rfl,rfl,rfl⟩),if_neg (by intro h;exact a ⟨h.1,h.2.1,h.2.2.1⟩)]
def aa.mV(r:Ref)(bs:List aY)(H:aa):(keyed r 0 bs H).get=sj H.get r bs:=by
 funext q;rw[aa.Aj];unfold sj;simp
def aa.mj(r:Ref) : ∀(bs:List aY)(k:Nat)(H:aa)(d t:Nat),(keyed r k bs H).gen d t=if d=r.d/\t=r.t/\bs≠[] then r.g+1 else H.gen d t:=by
 intro bs;induction bs with
 | nil=>intro k H d t;simp[keyed]
 | cons b bs e=>
  intro k H d t;simp only[keyed,e,aa.gen];by_cases h:d=r.d/\t=r.t
  ·obtain⟨rfl,rfl⟩:=h;by_cases c:bs=[];·simp[c]
   simp[c]
  have f : ¬(r.d=d/\r.t=t):=λa=>h ⟨a.1.symm,a.2.symm⟩;rw[if_neg (by intro a;exact h ⟨a.1,a.2.1⟩),if_neg f,if_neg (by intro a;exact h ⟨a.1,a.2.1⟩)]
def rN(ι:Map)(H:aa):Prop :=∀q l,ι q=some l->q.g<H.gen q.d q.t
def rN.fresh{ι:Map}{H:aa}(h:rN ι H)(d t k:Nat):ι ⟨d,t,H.gen d t,k⟩=none:=by
 cases hi:ι ⟨d,t,H.gen d t,k⟩ with| none=>rfl| some l=>exact absurd (h _ l hi) (vH _)
section
variable{P:Program}{M:Mem}{ι:Map}{g:cL}{w:World}{r:Ref}
def oA(M:Mem)(ι:Map)(H:aa)(w:World)(x:AV)(H':aa)(u:Value)(w':World):Prop:=
 ∃M' a,VR M' a x u/\gA M' a H'.get w'/\tz M ι H.get w M' a H'.get w'/\rN a H'
def jS.toW{H:aa}{x:AV}{bs:List aY}{u:Value}{w':World}(m:rN ι H){d t:Nat}(h:jS M ι H.get w ⟨d,t,H.gen d t,0⟩ x bs u w'):oA M ι H w x (keyed ⟨d,t,H.gen d t,0⟩ 0 bs H) u w':=by
 obtain⟨M',b,o,p,j,n⟩:=h;refine⟨M',b,o,by rw[aa.mV];exact p,by rw[aa.mV];exact j,?_⟩;intro q l f;rw[aa.mj];cases hi:ι q with
 | some s=>
  have:=m q s hi;split;·rename_i i;rw[i.1,i.2.1]at this;exact Bp this
  exact this
 | none=>
  by_cases a : ∃k,k<bs.length/\q = { (⟨d,t,H.gen d t,0⟩:Ref)with k:=k};·obtain⟨k,a,rfl⟩:=a;rw[if_pos ⟨rfl,rfl,by intro e;rw[e]at a;simp at a⟩];exact qp _
  rw[n q hi (λk c e=>a ⟨k,c,e⟩)]at f;cases f
def Lx{cs new:List AV}{j:Nat}(h:j+new.length<=cs.length)(k:Nat):(patch cs j new)[k]?=if j<=k/\k<j+new.length then new[k - j]? else cs[k]?:=by
 unfold patch;have b:(cs.take j).length=j:=by simp;omega
 rcases eU k j with a | a
 ·rw[qq,jG (by omega),za,if_pos a,if_neg (by omega)]
 rcases eU k (j+new.length)with c | c
 ·rw[qq,ic (by omega),jG (by omega),if_pos ⟨a,c⟩,b]
 rw[ic (by simp;omega),yE,if_neg (by omega)];simp only[ju,b];congr 1;omega
def Rw{x:AV}(h:x.one=true):x.cells=[x]:=by
 cases x<;>first | rfl | (simp[AV.one]at h)
def Jq{e c:AV}{j:Nat}{new:List AV}(h:nn e j new=some c)(i:new.all AV.one=true):j+new.length<=e.cells.length/\c.cells=patch e.cells j new:=by
 have a : ∀x,(∀cs,e ≠ .agg cs)->j=0->new=[x]->c=x->j+new.length<=e.cells.length/\c.cells=patch e.cells j new:=by
  intro x b k l d;have f:e.cells=[e]:=by cases e<;>first | rfl | exact absurd rfl (b _)
  subst k;subst l;subst d;simp only[yB,Bl,zd]at i;rw[f,Rw i];exact⟨by simp,by simp[patch]⟩
 unfold nn at h;split at h
 ·obtain⟨f,h⟩:=eQ.1 h;injection h with h
  subst h;exact⟨f,rfl⟩
 rename_i b;split at h
 ·injection h with h
  exact a _ (λcs d=>b cs d) rfl rfl h.symm
 cases h
def FC(R:gA M ι g w){k:aY}{l:Loc}{i j:Nat}{new es':List AV}(Q:g r=some k)(O:ι r=some l)(C:0<l.esz)(G:k.gB=false)(B:gr k.es i j new=some es')(H:new.all AV.one=true)
 {us:List Value} (v:lI M (k.map ι) new us) :
 ∃arr T fz,w.heap[l.b]?=some (.cells arr T fz)/\i * k.esz+j+us.length<=arr.size/\(∀o,o<arr.size ->¬(fz.1<=o/\(o<fz.2\/fz.2<fz.1)))/\(∀u∈us,u.oneCell'=true) /\
  gA M ι (lL g r { k with es:=es'}) (ca w l.b (.cells (cH arr (i * k.esz+j) us) T fz))/\tz M ι g w M ι (lL g r { k with es:=es'}) (ca w l.b (.cells (cH arr (i * k.esz+j) us) T fz)):=by
 have q:=R.at O C Q;obtain⟨arr,T,fz,hh,D,z,S⟩:=q.heap;unfold gr at B;split at B;·cases B
 rename_i e N;simp only[bG]at B;obtain⟨V,K,rfl⟩:=B;obtain⟨hle,d⟩:=Jq K H;have hi:i<k.es.length:=(dT.1 N).1;have J:=q.cells e (fZ N);have W:=v.1;have a:i * k.esz+j+us.length<=arr.size:=by
  have Y:(i+1) * k.esz<=l.n * k.esz:=lX _ (by have:=q.len;omega);rw[lT]at Y;rw[D];omega
 have p : ∀u∈us,u.oneCell'=true:=by
  intro u hu;obtain⟨m,hm,I⟩:=o5 hu;have A:m<new.length:=by omega
  have:=v.2 m _ u (de A) (by rw[<-I];exact de hm);exact this.one (by simp only[dY]at H;exact H _ (eO A))
 obtain⟨U,h4⟩:=R.write (k' := { k with es:=k.es.set i V}) Q O C (arr:=cH arr (i * k.esz+j) us) (T:=T) (fz:=fz) rfl rfl rfl (by rw[jy a];exact D)
  (by rw[jy a];exact z) (by simp;exact q.len)
  (by
   intro F L;rcases Jn L with h | h
   ·exact q.cells F h
   rw[h,d,<-J];simp[patch];omega)
  (by
   intro o x f;have:=(q.frozen o x f).1;rw[G]at this;cases this)
  (by
   intro E y F x c f;rw[iU a];by_cases t:i=E
   ·subst t;rw[Dg hi]at c;injection c with c
    subst c;rw[d,Lx hle]at f;split at f
    ·rename_i Z;rw[if_pos (by omega),show i * k.esz+y - (i * k.esz+j)=y - j by omega];have s:y - j<us.length:=by omega
     exact⟨us[y - j],de s,p _ (eO s),v.2 _ _ _ f (de s)⟩
    rename_i Z;rw[if_neg (by omega)];exact S i y e x N f
   rw[Fx t]at c;have X:y<k.esz:=(by rw[<-q.cells F (fZ c)];exact(dT.1 f).1);rw[if_neg];·exact S E y F x c f
   rcases MY t with h | h
   ·have:(i+1) * k.esz<=E * k.esz:=lX _ h;rw[lT]at this;omega
   have:(E+1) * k.esz<=i * k.esz:=lX _ h;rw[lT]at this;omega)
 exact⟨arr,T,fz,hh,a,z.1,p,U,h4⟩
def zo{t:TypeId}{n:Nat}(f:aH P t=some n){b o:Nat}{u:Value}(d:u.cells.size=n){arr:Array Value}{T:TypeId}{fz:Nat × Nat}(e:w.heap[b]?=some (.cells arr T fz))
 (a:o+u.cells.toList.length<=arr.size) (c : ∀o,o<arr.size ->¬(fz.1<=o/\(o<fz.2\/fz.2<fz.1))) (h : ∀x∈u.cells.toList,x.oneCell'=true) :
 (Instr.storeAt t (.pointer (some ⟨b,o,none⟩)) u).run P w = .ok () (ca w b (.cells (cH arr o u.cells.toList) T fz)):=by
 have:=mQ (P:=P) o u.cells.toList 0 arr w e (by simpa using a) c h;simp only[ug]at this;simp[Instr.storeAt,Instr.sureAddr,storeVar,cF f,d,this]
def sO(H:aa)(r:Ref)(k:aY):(H.put r (some k)).get=lL H.get r k:=by
 funext q;rw[aa.ab];rfl
def Qr{H:aa}(A:gA M ι H.get w)(hD:rN ι H){t:TypeId}{a x y:AV}{ua d:Value}(ha:VR M ι a ua)(hx:VR M ι x d){H':aa}(h:iV P H t (some a) (some x)=some (y,H')) :
 ∃w',(Instr.storeAt t ua d).run P w = .ok () w'/\oA M ι H w y H' undef w':=by
 unfold iV at h;split at h
 ·rename_i r' i j x' n L F hn;injection L with L;injection F with F
  subst L;subst F;cases ha with | ptr G s=>
  rename_i l;split at h
  ·rename_i b z;obtain⟨⟨hxn,W,k⟩,h⟩:=eQ.1 h;obtain⟨l',o,f⟩:=A.live r' b z;rw[G]at o;cases o;have p:=hx.cells;have m:d.cells.size=n:=by have:=p.1;simp at this;omega
   split at h
   ·rename_i c;split at h
    ·rename_i y' C;split at h;·cases h
     rename_i N;obtain⟨B,h⟩:=eQ.1 h;simp only[bG]at h;obtain⟨es',e,h⟩:=h;injection h with K Q
     subst K;subst Q;obtain⟨V,U⟩:=zH (R:=af H.get depth x) A;have hv:=BZ A depth x y' d C (λr hr=>hr) hx;have u:ti H.get (af H.get depth x) r'=some b:=by unfold ti;rw[if_neg N];exact z
     have I:=hv.cells;obtain⟨arr,T,fz,D,Z,E,J,Y,X⟩:=FC V u G s k e B (us:=d.cells.toList) (by rw[aY.map,if_pos c];exact I);refine⟨ca w l.b (.cells (cH arr (i * b.esz+j) d.cells.toList) T fz),?_,kA M ι H.get w (af H.get depth x),ι,.v rfl,?_,?_,?_⟩;·rw[f.esz];exact zo hn m D Z E J
     ·rw[sO,aa.du];exact Y
     ·rw[sO,aa.du];exact U.trans X
     intro q O S;rw[aa.dK _ _ _ (by rw[aa.du,u];rfl),aa.iw];exact hD q O S
    cases h
   rename_i c;simp only[bG]at h;obtain⟨es',e,h⟩:=h;injection h with K Q
   subst K;subst Q;obtain⟨arr,T,fz,D,Z,E,J,Y,X⟩:=FC A z G s k e W (us:=d.cells.toList) (by rw[aY.map,if_neg c];exact p);refine⟨ca w l.b (.cells (cH arr (i * b.esz+j) d.cells.toList) T fz),?_,M,ι,.v rfl,?_,?_,?_⟩;·rw[f.esz];exact zo hn m D Z E J
   ·rw[sO];exact Y
   ·rw[sO];exact X
   intro q O S;rw[aa.dK _ _ _ (by rw[z];rfl)];exact hD q O S
  cases h
 cases h
end
end
section
section
variable{P:Program}{M:Mem}{ι:Map}{g:cL}{w:World}{r:Ref}
def rI(g:cL)(r:Ref):cL:=λq=>if q=r then none else g q
def PU(b:gA M ι g w)(r:Ref):gA M ι (rI g r) w/\tz M ι g w M ι (rI g r) w:=by
 have a : ∀ {q k},rI g r q=some k->g q=some k:=by
  intro q k h;unfold rI at h;split at h;·cases h
  exact h
 exact⟨⟨b.mem,λq k h=>b.live q k (a h),λq d k k' l f h e=>b.inj q d k k' l f (a h) (a e)⟩,
  ⟨rfl,rfl,rfl,bg _,λ_ _ _=>rfl,λ_ _ _ h=>h,λ_ _ h=>h,λq k l h c => .inr ⟨q,k,l,a h,c,rfl⟩,λ_ _ _ h => .inl h⟩⟩
def Ix(v:gA M ι g w){r q:Ref}{k k':aY}{l:Loc}(E:g r=some k)(A:ι r=some l)(hq:ι q=none){arr':Array Value}{w':World}
 (hw : ∃arr T fz,w.heap[l.b]?=some (.cells arr T fz)/\arr.size=arr'.size/\w'=ca w l.b (.cells arr' T fz)) (a:k'.esz=k.esz) (U:k'.arr=true) (D:k.arr=true) (Q:k'.gB=k.gB)
 (C : ∀(o:Nat) u,o<k.es.length * k.esz ->∀arr T fz,w.heap[l.b]?=some (.cells arr T fz)->arr[o]?=some u->arr'[o]?=some u)
 (O:k'.es.length<=l.n) (Y:k.es.length<=k'.es.length) (s : ∀e∈k'.es,e.cells.length=k.esz)
 (hc : ∀(i j:Nat) e x,k'.es[i]?=some e->e.cells[j]?=some x ->∃u,arr'[i * k.esz+j]?=some u/\u.oneCell'=true/\VR M dC x u) :
 gA M (iq ι q l) (lL (rI g r) q k') w'/\tz M ι g w M (iq ι q l) (lL (rI g r) q k') w':=by
 obtain⟨arr,T,fz,hh,W,c⟩:=hw;obtain⟨l',L,t⟩:=v.live r k E;rw[A]at L;cases L;have G:=t.pos D;replace t:=t.cellsOk G;obtain⟨arr0,T0,fz0,I,h1,h2,h3⟩:=t.heap;rw[hh]at I;cases I;have H:=t.lt;have m:=EW (l:=l) hq;have hqr:q≠r:=by intro e;rw[e,A]at hq;cases hq
 refine⟨⟨?_,?_,?_⟩,?_⟩
 ·intro b o x z;by_cases K:l.b=b;·subst K;have ho:=(t.frozen o x z).2;have F:=v.mem _ _ _ z;rw[jB hh]at F;rw[jB (by rw[c];exact gI H)];exact C o x ho arr T fz hh F
  rw[iQk (w:=w) (by rw[c];exact eY K)];exact v.mem b o x z
 ·intro r' k1 p;unfold lL at p;split at p
  ·rename_i e;subst e;injection p with p
   subst p;refine⟨l,by simp[iq],fp.Sa ⟨by rw[t.esz,a],⟨arr',T,fz,by rw[c];exact gI H,by rw[<-W,a];exact h1,by rw[<-W,a];exact h2,?_⟩,O,by rw[a];exact s,?_⟩ (by rw[a];exact G)⟩;·intro i j e x he z;rw[a];obtain⟨u,hu,ho,hv⟩:=hc i j e x he z;refine⟨u,hu,ho,?_⟩;rw[aY.map,if_pos U];exact hv
   intro o x z;rw[Q,a];have:=t.frozen o x z;exact⟨this.1,yD this.2 (lX _ Y)⟩
  rename_i hne;unfold rI at p;split at p;·cases p
  rename_i N;obtain⟨f,R,S⟩:=v.live r' k1 p;have hnb:l.b≠f.b:=λe=>N (v.inj r' r k1 k f l p E R A e.symm);exact⟨f,m r' f R,S.bk (λ_ _ _ h=>h) m (by rw[c];exact eY hnb) S.frozen⟩
 ·have y : ∀ {r1 k1 f},lL (rI g r) q k' r1=some k1->iq ι q l r1=some f->(r1=q/\f=l)\/(r1≠q/\r1≠r/\g r1=some k1/\ι r1=some f):=by
   intro r1 k1 f h d;unfold lL at h;unfold iq at d;split at h;·rename_i e;rw[if_pos e]at d;injection d with d;exact .inl ⟨e,d.symm⟩
   rename_i e;rw[if_neg e]at d;unfold rI at h;split at h;·cases h
   rename_i e';exact .inr ⟨e,e',h,d⟩
  intro r1 r2 k1 k2 f l2 h1 h2 h3 h4 Z;rcases y h1 h3 with ⟨e1,e2⟩ | ⟨e1,e2,e3,e4⟩<;>rcases y h2 h4 with ⟨X,B⟩ | ⟨X,B,V,J⟩
  ·rw[e1,X]
  ·exact absurd (v.inj r r2 k k2 l l2 E V A J (by rw[<-e2];exact Z)).symm B
  ·exact absurd (v.inj r r1 k k1 l f E e3 A e4 (by rw[<-B];exact Z.symm)).symm e2
  exact v.inj r1 r2 k1 k2 f l2 e3 V e4 J Z
 refine⟨by rw[c];rfl,by rw[c];rfl,by rw[c];rfl,by rw[c];simp[ca],?_,λ_ _ _ h=>h,m,?_,λ_ _ _ h => .inl h⟩;·intro b _ hno;rw[c];exact eY (hno r k l E A)
 intro r1 k1 f h d;unfold lL at h;unfold iq at d;split at h;·rename_i e;rw[if_pos e]at d;injection d with d;subst d;exact .inr ⟨r,k,l,E,A,rfl⟩
 rename_i e;rw[if_neg e]at d;unfold rI at h;split at h;·cases h
 exact .inr ⟨r1,k1,f,h,d,rfl⟩
def get_append(H:aa)(q r:Ref)(k:aY)(b:q≠r):aa.get ((q,some k) :: H.put r none)=lL (rI H.get r) q k:=by
 funext x;simp only[aa.get,aa.ab];unfold lL rI;by_cases a:q=x;·subst a;simp
 rw[if_neg a,if_neg (rO a)]
def Oy(H:aa)(r:Ref)(k:aY)(a:(H.get r).isSome=true)(d t:Nat) :
 aa.gen ((⟨r.d,r.t,H.gen r.d r.t,0⟩,some k) :: H.put r none) d t=if r.d=d/\r.t=t then H.gen r.d r.t+1 else H.gen d t:=by
 simp only[aa.gen];split;·rfl
 rw[aa.dK H r none a]
def FJ{H:aa}(hS:gA M ι H.get w)(hD:rN ι H){ts:Array TypeId}{ty:TypeId}{s x y:AV}{us ux:Value}(hs:VR M ι s us)(hx:VR M ι x ux){H':aa}
 (h:jU P H ts[0]? ts[1]? s x=some (y,H')) : ∃u w',(Builtin.append_ ts ty #[us,ux]).run P w = .ok u w'/\oA M ι H w y H' u w':=by
 unfold jU at h;split at h;·cases h
 rename_i e he;simp only[iz]at he;obtain⟨t,ht,he⟩:=he;have hu:=gH he;split at h;·cases h
 rename_i hc;split at h
 ·rename_i z by' zz ez new hz hb hzz E;split at h;·cases h
  rename_i f;have hez:ez=z:=vk.1 λh=>f (.inl h);have O:0<z:=vl λh=>f (.inr (.inl h));have hb0:0<by':=vl λh=>f (.inr (.inr (.inl h)));have hn0:new≠[]:=λh=>f (.inr (.inr (.inr (.inl h))));have hzl:zz.cells.length=z:=vk.1 λh=>f (.inr (.inr (.inr (.inr h))));subst hez;obtain⟨R,m,hA⟩:=GN (w:=w) hS hz O hx hc E;split at h
  ·rename_i r' off len;split at h
   ·rename_i b Q;obtain⟨⟨hoff,J,hbz,hlen,D⟩,h⟩:=eQ.1 h;injection h with h;injection h with h1 h2;subst h1;subst h2
    subst hoff;subst hlen;subst hbz;have hs0:=hs;cases hs with | bA hrl hbb hsp ha hcc hn hk V=>
    rename_i l a c;have hq:=hD.fresh r'.d r'.t 0;have N:(⟨r'.d,r'.t,H.gen r'.d r'.t,0⟩:Ref)≠r':=by intro e;rw[e,hrl]at hq;cases hq
    have X:=hS.at hrl V Q;obtain⟨arr,T,fz,hh,hsz,hfz,L⟩:=X.heap;have hpos:0<new.length:=D1.2 hn0;have hel:cy H.get (.bA r' 0 b.es.length none)=some (b.esz,(b.es.drop 0).take b.es.length):=(by simp[cy,Q,J]);obtain⟨us0,B⟩:=oa (P:=P) hS hs0 O hel;have hee:(b.es.drop 0).take b.es.length=b.es:=by simp
    rw[hee]at B;have W : ∀ι':Map,(∀q,ι q=none->q≠⟨r'.d,r'.t,H.gen r'.d r'.t,0⟩->ι' q=none)->rN ι' ((⟨r'.d,r'.t,H.gen r'.d r'.t,0⟩,some ⟨b.esz,b.es++new,true,b.gB⟩) :: H.put r' none):=by
     intro ι' hι q lq hql;rw[Oy H r' _ (by rw[Q];rfl)];cases hi:ι q with
     | some l0=>
      have:=hD q l0 hi;split;·rename_i S;rw[<-S.1,<-S.2]at this;exact Bp this
      exact this
     | none=>
      by_cases hqq:q=⟨r'.d,r'.t,H.gen r'.d r'.t,0⟩;·subst hqq;rw[if_pos ⟨rfl,rfl⟩];exact qp _
      rw[hι q hi hqq]at hql;cases hql
    by_cases U:b.es.length+new.length<=c
    ·have I:a.off=0:=by
      rcases ha with h | h
      ·omega
      simpa using h
     have hcn:0+c<=l.n:=by
      rcases hn with h | h
      ·omega
      exact h
     have hae:a=⟨l.b,0,none⟩:=(by rw[kf hsp,hbb,I]);have F:0+b.es.length * b.esz+R.length<=arr.size:=(by rw[m.len,hsz,ue,<-lT];exact lX _ (by omega));have C:=AN (P:=P) (w:=w) (ty:=ty) ht hu hz hb (b:=l.b) (o:=0) hA U D hh F hfz.1 m.one;rw[ue]at C F;obtain⟨h3,h4⟩:=Ix (M:=M) (q:=⟨r'.d,r'.t,H.gen r'.d r'.t,0⟩) (k':=⟨b.esz,b.es++new,true,b.gB⟩) hS Q hrl hq (arr':=cH arr (b.es.length * b.esz) R)
      ⟨arr,T,fz,hh,(jy F).symm,rfl⟩ rfl rfl J rfl
      (by
       intro o u ho arr1 T1 fz1 hh1 p;rw[hh]at hh1;cases hh1;rw[iU F,if_neg (by omega)];exact p)
      (by simp;omega) (by simp) (by
       intro K he1;rcases kQ.1 he1 with h | h
       ·exact X.cells K h
       exact m.Hz K h)
      (by
       intro i j K x1 hi v;rw[iU F];rcases eU i b.es.length with hlt | hge
       ·rw[jG hlt]at hi;have hj:j<b.esz:=(by rw[<-X.cells K (fZ hi)];exact(dT.1 v).1);have:=DK hlt hj;rw[if_neg (by omega)];obtain⟨u,p,ho,hv⟩:=L i j K x1 hi v;rw[aY.map,if_pos J]at hv;exact⟨u,p,ho,hv⟩
       rw[ic hge]at hi;obtain⟨u,p,hv⟩:=m.vr _ j K x1 hi v;have hlt:=(dT.1 p).1;have hge':b.es.length * b.esz<=i * b.esz:=lX _ hge;have hii:(i - b.es.length) * b.esz=i * b.esz - b.es.length * b.esz:=Fj _ _ _;rw[if_pos (by omega),show i * b.esz+j - b.es.length * b.esz=(i - b.es.length) * b.esz+j by omega];exact⟨u,p,m.one u (fZ p),hv⟩)
     refine⟨.slice (some a) (b.es.length+new.length) c,_,by rw[hae];exact C,M,_,?_,by rw[get_append H _ r' _ N];exact h3,by rw[get_append H _ r' _ N];exact h4,?_⟩;·exact .bA (l:=l) (by simp[iq]) hbb hsp (.inr (by rw[I];simp)) U (.inr hcn) (by intro k hk;cases hk) V
     exact W _ (by intro q Z hne;simp[iq,hne,Z])
    obtain⟨zv,hzv,hzs⟩:=Bh hz hzz hzl;obtain⟨cap,w',G,C,Y⟩:=uB (P:=P) (w:=w) (ty:=ty) ht hu hz hb hzv hzs (Af (a:=some a) (len:=b.es.length) (c:=c) rfl rfl B) hA (by omega) D hb0;obtain⟨h1,h2⟩:=zF (olds:=us0) (us:=R) (n1:=b.es.length) (n2:=new.length) (cap:=cap) B.len m.len hzs G;obtain⟨h3,h4⟩:=PU hS r';have A:=B.row.append m;have E : ∀(i j:Nat) e x,(b.es++new)[i]?=some e->e.cells[j]?=some x ->∃u,(us0.toArray++R.toArray++Builtin.zeroCells zv.cells (cap - (b.es.length+new.length)))[i * b.esz+j]?=some u/\u.oneCell'=true/\VR M dC x u:=(by intro i j K x1 hi v;obtain⟨u,p,hv⟩:=A.vr i j K x1 hi v;exact⟨u,h2 _ _ p,A.one u (fZ p),hv⟩);obtain⟨h5,h6⟩:=h3.alloc (q:=⟨r'.d,r'.t,H.gen r'.d r'.t,0⟩) hq Y ⟨b.esz,b.es++new,true,b.gB⟩ O cap h1 (BP.zero _ _) (by simpa using G) A.Hz
     (by intro i j K x1 hi v;rw[aY.map,if_pos rfl];exact E i j K x1 hi v)
    refine⟨_,w',C,M,_,?_,by rw[get_append H _ r' _ N];exact h5,by rw[get_append H _ r' _ N];exact h4.trans h6,?_⟩;·exact .bA (l:=⟨w.heap.size,b.esz,cap⟩) (by simp[iq]) rfl rfl (.inr (by simp)) G (.inr (by simp)) (by intro k hk;cases hk) O
    exact W _ (by intro q Z hne;simp[iq,hne,Z])
   cases h
  cases h
 cases h
def KH{H:aa}(hS:gA M ι g w){ts:Array TypeId}{ty:TypeId}{s x y:AV}{us ux:Value}(hs:VR M ι s us)(hx:VR M ι x ux){H':aa}
 (hag : ∀r',kS s=some r'->H.get r'≠none->g r'=H.get r') (hnw : ∀e p,md P H.get e x=some p->md P g e x=some p) (hfree : ∀r',kS s=some r'->H.get r'≠none->ι ⟨r'.d,r'.t,H.gen r'.d r'.t,0⟩=none)
 (h:jU P H ts[0]? ts[1]? s x=some (y,H')) : ∃r' b k',kS s=some r'/\H.get r'=some b/\(⟨r'.d,r'.t,H.gen r'.d r'.t,0⟩:Ref)≠r'/\H'=(⟨r'.d,r'.t,H.gen r'.d r'.t,0⟩,some k') :: H.put r' none /\
  ∃u w' Q,(Builtin.append_ ts ty #[us,ux]).run P w = .ok u w'/\VR M Q y u/\gA M Q (lL (rI g r') ⟨r'.d,r'.t,H.gen r'.d r'.t,0⟩ k') w'/\tz M ι g w M Q (lL (rI g r') ⟨r'.d,r'.t,H.gen r'.d r'.t,0⟩ k') w' /\
   ∀q,ι q=none->q≠⟨r'.d,r'.t,H.gen r'.d r'.t,0⟩->Q q=none:=by
 unfold jU at h;split at h;·cases h
 rename_i e he;simp only[iz]at he;obtain⟨t,ht,he⟩:=he;have hu:=gH he;split at h;·cases h
 rename_i hc;split at h
 ·rename_i z by' zz ez new hz hb hzz F;split at h;·cases h
  rename_i f;have hez:ez=z:=vk.1 λh=>f (.inl h);have O:0<z:=vl λh=>f (.inr (.inl h));have hb0:0<by':=vl λh=>f (.inr (.inr (.inl h)));have hn0:new≠[]:=λh=>f (.inr (.inr (.inr (.inl h))));have hzl:zz.cells.length=z:=vk.1 λh=>f (.inr (.inr (.inr (.inr h))));subst hez;obtain⟨S,m,hA⟩:=GN (w:=w) hS hz O hx hc (hnw _ _ F);split at h
  ·rename_i r' off len;split at h
   ·rename_i b R;obtain⟨⟨hoff,K,hbz,hlen,E⟩,h⟩:=eQ.1 h;injection h with h;injection h with h1 h2;subst h1;subst h2
    subst hoff;subst hlen;subst hbz;have hs0:=hs;cases hs with | bA hrl hbb hsp ha hcc hn hk V=>
    rename_i l a c;have hq:=hfree r' rfl (by rw[R];simp);have hbG:g r'=some b:=by rw[hag r' rfl (by rw[R];simp),R]
    have hqr:(⟨r'.d,r'.t,H.gen r'.d r'.t,0⟩:Ref)≠r':=by intro e;rw[e,hrl]at hq;cases hq
    have W:=hS.at hrl V hbG;obtain⟨arr,T,fz,hh,hsz,hfz,N⟩:=W.heap;have hpos:0<new.length:=D1.2 hn0;have hel:cy g (.bA r' 0 b.es.length none)=some (b.esz,(b.es.drop 0).take b.es.length):=(by simp[cy,hbG,K]);obtain⟨us0,C⟩:=oa (P:=P) hS hs0 O hel;have hee:(b.es.drop 0).take b.es.length=b.es:=by simp
    rw[hee]at C;refine⟨r',b,⟨b.esz,b.es++new,true,b.gB⟩,rfl,R,hqr,rfl,?_⟩;by_cases U:b.es.length+new.length<=c
    ·have J:a.off=0:=by
      rcases ha with h | h
      ·omega
      simpa using h
     have hcn:0+c<=l.n:=by
      rcases hn with h | h
      ·omega
      exact h
     have hae:a=⟨l.b,0,none⟩:=(by rw[kf hsp,hbb,J]);have G:0+b.es.length * b.esz+S.length<=arr.size:=(by rw[m.len,hsz,ue,<-lT];exact lX _ (by omega));have D:=AN (P:=P) (w:=w) (ty:=ty) ht hu hz hb (b:=l.b) (o:=0) hA U E hh G hfz.1 m.one;rw[ue]at D G;obtain⟨h3,h4⟩:=Ix (M:=M) (q:=⟨r'.d,r'.t,H.gen r'.d r'.t,0⟩) (k':=⟨b.esz,b.es++new,true,b.gB⟩) hS hbG hrl hq (arr':=cH arr (b.es.length * b.esz) S)
      ⟨arr,T,fz,hh,(jy G).symm,rfl⟩ rfl rfl K rfl
      (by
       intro o u ho arr1 T1 fz1 hh1 v;rw[hh]at hh1;cases hh1;rw[iU G,if_neg (by omega)];exact v)
      (by simp;omega) (by simp) (by
       intro L he1;rcases kQ.1 he1 with h | h
       ·exact W.cells L h
       exact m.Hz L h)
      (by
       intro i j L x1 hi A;rw[iU G];rcases eU i b.es.length with hlt | hge
       ·rw[jG hlt]at hi;have hj:j<b.esz:=(by rw[<-W.cells L (fZ hi)];exact(dT.1 A).1);have:=DK hlt hj;rw[if_neg (by omega)];obtain⟨u,v,ho,hv⟩:=N i j L x1 hi A;rw[aY.map,if_pos K]at hv;exact⟨u,v,ho,hv⟩
       rw[ic hge]at hi;obtain⟨u,v,hv⟩:=m.vr _ j L x1 hi A;have hlt:=(dT.1 v).1;have hge':b.es.length * b.esz<=i * b.esz:=lX _ hge;have hii:(i - b.es.length) * b.esz=i * b.esz - b.es.length * b.esz:=Fj _ _ _;rw[if_pos (by omega),show i * b.esz+j - b.es.length * b.esz=(i - b.es.length) * b.esz+j by omega];exact⟨u,v,m.one u (fZ v),hv⟩)
     refine⟨.slice (some a) (b.es.length+new.length) c,_,_,by rw[hae];exact D,?_,h3,h4,?_⟩;·exact .bA (l:=l) (by simp[iq]) hbb hsp (.inr (by rw[J];simp)) U (.inr hcn) (by intro k hk;cases hk) V
     intro q Y Z;simp[iq,Z,Y]
    obtain⟨zv,hzv,hzs⟩:=Bh hz hzz hzl;obtain⟨cap,w',I,D,X⟩:=uB (P:=P) (w:=w) (ty:=ty) ht hu hz hb hzv hzs (Af (a:=some a) (len:=b.es.length) (c:=c) rfl rfl C) hA (by omega) E hb0;obtain⟨h1,h2⟩:=zF (olds:=us0) (us:=S) (n1:=b.es.length) (n2:=new.length) (cap:=cap) C.len m.len hzs I;obtain⟨h3,h4⟩:=PU hS r';have B:=C.row.append m;have F : ∀(i j:Nat) e x,(b.es++new)[i]?=some e->e.cells[j]?=some x ->∃u,(us0.toArray++S.toArray++Builtin.zeroCells zv.cells (cap - (b.es.length+new.length)))[i * b.esz+j]?=some u/\u.oneCell'=true/\VR M dC x u:=(by intro i j L x1 hi A;obtain⟨u,v,hv⟩:=B.vr i j L x1 hi A;exact⟨u,h2 _ _ v,B.one u (fZ v),hv⟩);obtain⟨h5,h6⟩:=h3.alloc (q:=⟨r'.d,r'.t,H.gen r'.d r'.t,0⟩) hq X ⟨b.esz,b.es++new,true,b.gB⟩ O cap h1 (BP.zero _ _) (by simpa using I) B.Hz
     (by intro i j L x1 hi A;rw[aY.map,if_pos rfl];exact F i j L x1 hi A)
    refine⟨_,w',_,D,?_,h5,h4.trans h6,?_⟩;·exact .bA (l:=⟨w.heap.size,b.esz,cap⟩) (by simp[iq]) rfl rfl (.inr (by simp)) I (.inr (by simp)) (by intro k hk;cases hk) O
    intro q Y Z;simp[iq,Z,Y]
   cases h
  cases h
 cases h
def FI{H:aa}(G:gA M ι H.get w)(B:rN ι H){d a:Nat}{t:TypeId}{n:Nat}{m:List (Nat × AV)}{qs:Array (Nat × Value)}{x:AV}{H':aa}
 (h:jH P H ⟨d,a,H.gen d a,0⟩ t n (some m)=some (x,H')) (S:m.length=qs.toList.length)
 (hp : ∀(i:Nat) p q,m[i]?=some p->qs.toList[i]?=some q->p.1=q.1/\VR M ι p.2 q.2) :
 ∃u w',(Instr.buildSlice t n qs).run P w = .ok u w'/\oA M ι H w x H' u w':=by
 simp only[jH,bG]at h;obtain⟨b,F,h⟩:=h;injection h with W O
 subst W;subst O;obtain⟨h1,h2,K,e,arr,U,N,V⟩:=GO G F S hp;obtain⟨D,T⟩:=zH (R:=bH H.get (m.map (·.2))) G;have C:b=⟨b.esz,b.es,true,false⟩:=by cases b;simp_all
 have s:C5 w (w.alloc (.cells arr e)) (.cells arr e (0,0)):=⟨rfl,rfl,rfl,rfl⟩;have E:=B.fresh d a 0;have j:=tY (r:=⟨d,a,H.gen d a,0⟩) D rfl E s V (λk u J=>by simpa using J) (n:=n) (c:=n) N (BP.zero _ _) (by omega) (bg _) (cap:=some n) (by intro k A;cases A;rfl) (Ej F);rw[K,<-C]at j;have Q:rN ι (b9 H (bH H.get (m.map (·.2)))):=by
  intro q l E;rw[aa.iw];exact B q l E
 obtain⟨M',o,g1,Z,L,Y⟩:=j;have f:aa.get (((⟨d,a,H.gen d a,0⟩:Ref),some b) :: b9 H (bH H.get (m.map (·.2))))=sj (ti H.get (bH H.get (m.map (·.2)))) ⟨d,a,H.gen d a,0⟩ [b]:=by
  rw[qX _ _ rfl];funext q;simp only[aa.get,aa.du];unfold lL;by_cases z:q=⟨d,a,H.gen d a,0⟩;·rw[if_pos z.symm,if_pos z]
  rw[if_neg (rO z),if_neg z]
 refine⟨_,_,U,M',o,g1,?_,?_,?_⟩;·show gA M' o (aa.get (_ :: _)) _;rw[f];exact Z
 ·show tz M ι H.get w M' o (aa.get (_ :: _)) _;rw[f];exact T.trans L
 intro q l v;simp only[aa.gen,aa.iw];cases hi:ι q with
 | some X=>
  have:=B q X hi;split;·rename_i I;rw[<-I.1,<-I.2]at this;exact Bp this
  exact this
 | none=>
  by_cases A:q=⟨d,a,H.gen d a,0⟩;·subst A;rw[if_pos ⟨rfl,rfl⟩];exact qp _
  rw[Y q hi (λk y e=>A (by rw[e];simp at y;rw[y]))]at v;cases v
def Row.sub{z es us}(h:Row M z es us)(n:Nat):Row M z (es.take n) (us.take (n * z)):=by
 refine⟨?_,λe a=>h.Hz e (yF a),λx b=>h.one x (yF b),?_⟩
 ·rw[j7,j7,h.len];rcases Nat.le_total n es.length with hle | hle
  ·rw[Ay hle,Ay (lX _ hle)]
  rw[Ja hle,Ja (lX _ hle)]
 intro i j e x a b;rw[za]at a;split at a
 ·rename_i hi;obtain⟨u,c,d⟩:=h.vr i j e x a b;have f:j<z:=by
   rw[<-h.Hz e (fZ a)];exact(dT.1 b).1
  refine⟨u,?_,d⟩;rw[za,if_pos (DK hi f)];exact c
 cases a
def SS{H:aa}(hS:gA M ι H.get w)(hD:rN ι H){ts:Array TypeId}{ty:TypeId}{s x y:AV}{us ux:Value}(hs:VR M ι s us)(hx:VR M ι x ux){H':aa}
 (h:zi P H ts[0]? s x=some (y,H')) : ∃u w',(Builtin.copy_ ts ty #[us,ux]).run P w = .ok u w'/\oA M ι H w y H' u w':=by
 unfold zi at h;split at h;·cases h
 rename_i e he;simp only[iz]at he;obtain⟨t,ht,he⟩:=he;have hu:=gH he;split at h;·cases h
 rename_i z hz;split at h;·cases h
 rename_i ez src C;split at h;·cases h
 rename_i D;have hez:ez=z:=vk.1 λh=>D (.inl h);have hz0:0<z:=vl λh=>D (.inr h);subst hez;have hS0 : ∃m,Src P M w ux ez src m:=by
  split at C
  ·rename_i hn;injection C with C
   injection C with h1 W
   subst W;have:ux = .slice none 0 0:=by
    cases hx<;>simp[jJ]at hn;split at hn<;>simp_all
   subst this;exact⟨[],by simp,by simp,by simp,by intro i j e x h;simp at h,λw'=>rfl,λn w' hn' _=>by simp[Builtin.firstCells]⟩
  exact oa hS hx hz0 C
 obtain⟨m,A⟩:=hS0;split at h
 ·cases hs;injection h with h;injection h with h1 W;subst h1;subst W
  have hf:=A.first 0 w (s8 _) rfl;have hl:=A.lenOf w;refine⟨.int .i64 0,w,?_,M,ι,.v rfl,hS,tz.refl,hD⟩;simp only[Nat.zero_mul,List.take_zero]at hf;have hm:src.length.min 0=0:=Nat.min_zero _;simp[Builtin.copy_,ht,bB hu,cF hz,hl,hm,hf,goInt]
 ·rename_i r' d len cap;split at h
  ·rename_i b hb;obtain⟨⟨N,hbz,hfr,hle⟩,h⟩:=eQ.1 h;injection h with h;injection h with h1 W;subst h1;subst W
   subst hbz;cases hs with | bA V hbb hsp ha hcc hn hk L=>
   rename_i l a c;have p:=hS.at V L hb;obtain⟨arr,T,fz,hh,Z,U,F⟩:=p.heap;obtain⟨n,I⟩ : ∃n,n=Nat.min src.length len:=⟨_,rfl⟩;have X:n<=src.length:=by rw[I];exact Nat.min_le_left _ _
   have hn2:n<=len:=by rw[I];exact Nat.min_le_right _ _
   rw[<-I];have hf:=A.first n w X rfl;have hl:=A.lenOf w;have B:=A.row.sub n;have J:(src.take n).length=n:=by rw[j7,Ay X]
   have O:(m.take (n * b.esz)).length=n * b.esz:=(by rw[B.len,J]);have hbl:=p.len;have f:d * b.esz+(m.take (n * b.esz)).length<=arr.size:=(by rw[O,Z,<-lT];exact lX _ (by omega));have hes : ∀i,(b.es.take d++src.take n++b.es.drop (d+n))[i]?=if d<=i/\i<d+n then (src.take n)[i - d]? else b.es[i]?:=(by intro i;have:=Lx (cs:=b.es) (new:=src.take n) (j:=d) (by rw[J];omega) i;rw[J]at this;rw[<-this];unfold patch;rw[J])
   obtain⟨h3,h4⟩:=hS.write (k' := { b with es:=b.es.take d++src.take n++b.es.drop (d+n)}) hb V L (arr:=cH arr (d * b.esz) (m.take (n * b.esz))) (T:=T) (fz:=fz) rfl rfl rfl
    (by rw[jy f];exact Z) (by rw[jy f];exact U) (by simp;omega)
    (by
     intro G Y;simp only[kQ]at Y;rcases Y with (h | h) | h
     ·exact p.cells G (yF h)
     ·exact B.Hz G h
     exact p.cells G (BX h))
    (by
     intro o v S;have:=(p.frozen o v S).1;rw[hfr]at this;cases this)
    (by
     intro i j G x1 hi R;rw[aY.map,if_pos N];simp only at hi;rw[hes i]at hi;rw[iU f,O];by_cases hr:d<=i/\i<d+n;·rw[if_pos hr]at hi;obtain⟨u,E,S⟩:=B.vr (i - d) j G x1 hi R;have hlt:=(dT.1 E).1;rw[O]at hlt;have h5:d * b.esz<=i * b.esz:=lX _ hr.1;have h6:(i - d) * b.esz=i * b.esz - d * b.esz:=Fj _ _ _;rw[if_pos (by omega),show i * b.esz+j - d * b.esz=(i - d) * b.esz+j by omega];exact⟨u,E,B.one u (fZ E),S⟩
     rw[if_neg hr]at hi;have hj:j<b.esz:=(by rw[<-p.cells G (fZ hi)];exact(dT.1 R).1);rw[if_neg];·obtain⟨u,E,ho,S⟩:=F i j G x1 hi R;rw[aY.map,if_pos N]at S;exact⟨u,E,ho,S⟩
     intro hcon;apply hr;have e1':d * b.esz+n * b.esz=(d+n) * b.esz:=(lT _ _ _).symm;constructor
     ·rcases eU i d with h | h
      ·have:(i+1) * b.esz<=d * b.esz:=lX _ h;rw[lT]at this;omega
      exact h
     rcases eU i (d+n)with h | h
     ·exact h
     have:(d+n) * b.esz<=i * b.esz:=lX _ h;omega)
   have K:(storeCells a (m.take (n * b.esz))).run P w = .ok () (ca w l.b (.cells (cH arr (d * b.esz) (m.take (n * b.esz))) T fz)):=by
    by_cases h0:n=0
    ·have e0:m.take (n * b.esz)=[]:=by rw[h0];simp
     rw[e0];have G:cH arr (d * b.esz) []=arr:=by simp[cH]
     rw[G];have e2:ca w l.b (.cells arr T fz)=w:=by
      unfold ca;have:w.heap.setIfInBounds l.b (.cells arr T fz)=w.heap:=by
       apply D0;intro k;by_cases hk:l.b=k;·subst hk;rw[hh,Fg p.lt]
       rw[AD hk]
      rw[this]
     rw[e2];simp[storeCells]
    have Q:a.off=d * b.esz:=by
     rcases ha with h | h
     ·omega
     rw[h,p.esz]
    have:=mQ (P:=P) (d * b.esz) (m.take (n * b.esz)) 0 arr w hh (by simpa using f) U.1 B.one;rw[ug]at this;rw[kf hsp,hbb,Q];exact this
   refine⟨.int .i64 n,_,?_,M,ι,.v rfl,by rw[sO];exact h3,by rw[sO];exact h4,?_⟩;·have hm:src.length.min len=n:=I.symm;simp[Builtin.copy_,ht,bB hu,cF hz,hl,hm,hf,K,goInt]
   intro q lq hq;rw[aa.dK _ _ _ (by rw[hb];rfl)];exact hD q lq hq
  cases h
 cases h
def Qs{H:aa}(hS:gA M ι H.get w)(hD:rN ι H){ts:Array TypeId}{ty:TypeId}{s x y:AV}{us ux:Value}(hs:VR M ι s us)(hx:VR M ι x ux){H':aa}
 (h:uh P H ts[0]? s x=some (y,H')) : ∃u w',(Builtin.copy_ ts ty #[us,ux]).run P w = .ok u w'/\oA M ι H w y H' u w':=by
 unfold uh at h;split at h
 ·rename_i z r' d len cap r2 m yn cap2 he;simp only[iz]at he;obtain⟨e,⟨t,ht,he⟩,hz⟩:=he;have hu:=gH he;split at h
  ·rename_i b b2 hb hb2;obtain⟨⟨N,O,hbz,Z,hz0,hfr,hle0,L⟩,h⟩:=eQ.1 h;injection h with h;injection h with h1 h2;subst h1;subst h2
   subst hbz;cases hs with | bA R hbb hsp ha hcc hn hk C=>
   rename_i l a c;cases hx with | bA hrl2 Y hsp2 ha2 hcc2 hn2' hk2 hzl2=>
   rename_i l2 a2 V;obtain⟨n,I⟩ : ∃n,n=Nat.min yn len:=⟨_,rfl⟩;have hnl:n<=yn:=by rw[I];exact Nat.min_le_left _ _
   have hn2:n<=len:=by rw[I];exact Nat.min_le_right _ _
   rw[<-I]at L ⊢;have hv2:VR M ι (.bA r2 m n none) (.slice (some a2) n V) := .bA hrl2 Y hsp2 ha2 (vj hnl hcc2) hn2' (λk hk=>by cases hk) hzl2;have hel:cy H.get (.bA r2 m n none)=some (b2.esz,(b2.es.drop m).take n):=(by simp only[cy,hb2];rw[if_pos ⟨O,L⟩]);rw[Z]at hel;obtain⟨B,K⟩:=oa (P:=P) hS hv2 hz0 hel;have hsl:((b2.es.drop m).take n).length=n:=by rw[j7,nM];omega
   generalize (b2.es.drop m).take n=src at *;have hn1:n<=src.length:=by omega
   have htk:src.take n=src:=cN (by omega);suffices D : ∃u w',(Builtin.copy_ ts ty #[.slice (some a) len c,.slice (some a2) yn V]).run P w = .ok u w'/\oA M ι H w (.v (.int .i64 n)) (H.put r' (some { b with es:=b.es.take d++src.take n++b.es.drop (d+n)})) u w' by
    rw[htk]at D;exact D
   have hcl:d+n<=l.n:=by
    rcases hn with h | h
    ·have:=(hS.at R C hb).len;omega
    omega
   have p:=hS.at R C hb;obtain⟨arr,T,fz,hh,hsz,X,F⟩:=p.heap;have hf:(Builtin.firstCells b.esz n (.slice (some a2) yn V)).run P w=_:=K.first n w hn1 rfl;have hl:(Builtin.lenOf (.slice (some a2) yn V)).run P w = .ok yn w:=by simp[Builtin.lenOf]
   have A:=K.row.sub n;have htl:(src.take n).length=n:=by rw[j7,Ay hn1]
   have Q:(B.take (n * b.esz)).length=n * b.esz:=(by rw[A.len,htl]);have hbl:=p.len;have f:d * b.esz+(B.take (n * b.esz)).length<=arr.size:=(by rw[Q,hsz,<-lT];exact lX _ (by omega));have hes : ∀i,(b.es.take d++src.take n++b.es.drop (d+n))[i]?=if d<=i/\i<d+n then (src.take n)[i - d]? else b.es[i]?:=by
    intro i;have l1:(b.es.take d).length=d:=by rw[j7];omega
    by_cases c1:i<d;·rw[if_neg (by omega),qq,jG (by omega),Na c1]
    by_cases V:i<d+n;·rw[if_pos ⟨by omega,V⟩,qq,ic (by omega),l1,jG (by omega)]
    rw[if_neg (by omega),ic (by rw[ju];omega),ju,l1,htl,yE];congr 1;omega
   obtain⟨h3,h4⟩:=hS.write (k' := { b with es:=b.es.take d++src.take n++b.es.drop (d+n)}) hb R C (arr:=cH arr (d * b.esz) (B.take (n * b.esz))) (T:=T) (fz:=fz) rfl rfl rfl
    (by rw[jy f];exact hsz) (by rw[jy f];exact X) (by simp only[ju,j7,nM];omega)
    (by
     intro G he1;simp only[kQ]at he1;rcases he1 with (h | h) | h
     ·exact p.cells G (yF h)
     ·exact A.Hz G h
     exact p.cells G (BX h))
    (by
     intro o v W;have:=(p.frozen o v W).1;rw[hfr]at this;cases this)
    (by
     intro i j G x1 hi U;rw[aY.map,if_pos N];simp only at hi;rw[hes i]at hi;rw[iU f,Q];by_cases hr:d<=i/\i<d+n;·rw[if_pos hr]at hi;obtain⟨u,E,W⟩:=A.vr (i - d) j G x1 hi U;have hlt:=(dT.1 E).1;rw[Q]at hlt;have h5:d * b.esz<=i * b.esz:=lX _ hr.1;have h6:(i - d) * b.esz=i * b.esz - d * b.esz:=Fj _ _ _;rw[if_pos (by omega),show i * b.esz+j - d * b.esz=(i - d) * b.esz+j by omega];exact⟨u,E,A.one u (fZ E),W⟩
     rw[if_neg hr]at hi;have hj:j<b.esz:=(by rw[<-p.cells G (fZ hi)];exact(dT.1 U).1);rw[if_neg];·obtain⟨u,E,ho,W⟩:=F i j G x1 hi U;rw[aY.map,if_pos N]at W;exact⟨u,E,ho,W⟩
     intro hcon;apply hr;have e1':d * b.esz+n * b.esz=(d+n) * b.esz:=(lT _ _ _).symm;constructor
     ·rcases eU i d with h | h
      ·have:(i+1) * b.esz<=d * b.esz:=lX _ h;rw[lT]at this;omega
      exact h
     rcases eU i (d+n)with h | h
     ·exact h
     have:(d+n) * b.esz<=i * b.esz:=lX _ h;omega)
   have J:(storeCells a (B.take (n * b.esz))).run P w = .ok () (ca w l.b (.cells (cH arr (d * b.esz) (B.take (n * b.esz))) T fz)):=by
    by_cases h0:n=0
    ·have e0:B.take (n * b.esz)=[]:=by rw[h0];simp
     rw[e0];have G:cH arr (d * b.esz) []=arr:=by simp[cH]
     rw[G];have e2:ca w l.b (.cells arr T fz)=w:=by
      unfold ca;have:w.heap.setIfInBounds l.b (.cells arr T fz)=w.heap:=by
       apply D0;intro k;by_cases hk:l.b=k;·subst hk;rw[hh,Fg p.lt]
       rw[AD hk]
      rw[this]
     rw[e2];simp[storeCells]
    have S:a.off=d * b.esz:=by
     rcases ha with h | h
     ·omega
     rw[h,p.esz]
    have:=mQ (P:=P) (d * b.esz) (B.take (n * b.esz)) 0 arr w hh (by simpa using f) X.1 A.one;rw[ug]at this;rw[kf hsp,hbb,S];exact this
   refine⟨.int .i64 n,_,?_,M,ι,.v rfl,by rw[sO];exact h3,by rw[sO];exact h4,?_⟩;·have hm:Nat.min yn len=n:=I.symm;simp[Builtin.copy_,ht,bB hu,cF hz,hl,hm,hf,J,goInt]
   intro q lq hq;rw[aa.dK _ _ _ (by rw[hb];rfl)];exact hD q lq hq
  cases h
 cases h
end
def yj(arr:Array Value)(z n:Nat):List AV:=(List.range n).map λi => .agg ((List.range z).map λj => .yM (arr.getD (i * z+j) Go.undef))
def Rt{arr:Array Value}{z n i j:Nat}{e x:AV}(a:(yj arr z n)[i]?=some e)(b:e.cells[j]?=some x):i<n/\j<z/\x = .yM (arr.getD (i * z+j) Go.undef):=by
 unfold yj at a;rw[kR]at a;rcases eU i n with hi | hi
 ·rw[D2 hi]at a;cases a;simp only[AV.cells,kR]at b;rcases eU j z with c | c
  ·rw[D2 c]at b;cases b;exact⟨hi,c,rfl⟩
  rw[wE (by simpa using c)]at b;cases b
 rw[wE (by simpa using hi)]at a;cases a
def fp.yM{M:Mem}{ι:Map}{w:World}{l:Loc}{k:aY}(h:fp M ι w l k) : ∃es:List AV,es.length=k.es.length/\(∀e∈es,e.cells.length=k.esz)/\fp M ι w l ⟨k.esz,es,true,k.gB⟩ /\
 ∀(i j:Nat) e x,es[i]?=some e->e.cells[j]?=some x ->∃u a x0,x = .yM u/\k.es[i]?=some a/\a.cells[j]?=some x0/\VR M (k.map ι) x0 u:=by
 obtain⟨arr,T,fz,s,v,n,q⟩:=h.heap;have key : ∀(i j:Nat) e x,(yj arr k.esz k.es.length)[i]?=some e->e.cells[j]?=some x ->∃u a x0,x = .yM u/\arr[i * k.esz+j]?=some u/\u.oneCell'=true/\k.es[i]?=some a/\a.cells[j]?=some x0/\VR M (k.map ι) x0 u:=by
  intro i j e x b c;obtain⟨hi,t,rfl⟩:=Rt b c;have a:k.es[i]?=some k.es[i]:=de hi;have y:j<k.es[i].cells.length:=by rw[h.cells _ (eO hi)];exact t
  have m:k.es[i].cells[j]?=some k.es[i].cells[j]:=de y;obtain⟨u,d,f,p⟩:=q i j _ _ a m;exact⟨u,_,_,by rw[BY,d];rfl,d,f,a,m,p⟩
 refine⟨yj arr k.esz k.es.length,by simp[yj],λe b=>?_,⟨h.esz,⟨arr,T,fz,s,v,n,λi j e x b c=>?_⟩,by simpa [yj] using h.len,λe b=>?_,λo x c=>by simpa [yj] using h.frozen o x c⟩,λi j e x b c=>?_⟩;·simp only[yj,j6]at b;obtain⟨i,_,rfl⟩:=b;simp[AV.cells]
 ·obtain⟨u,a,x0,rfl,d,f,_⟩:=key i j e x b c;exact⟨u,d,f,.yM f⟩
 ·simp only[yj,j6]at b;obtain⟨i,_,rfl⟩:=b;simp[AV.cells]
 obtain⟨u,a,x0,b1,_,_,b2,b3,b4⟩:=key i j e x b c;exact⟨u,a,x0,b1,b2,b3,b4⟩
def gA.yM{M:Mem}{ι:Map}{H:aa}{w:World}(d:gA M ι H.get w){r:Ref}{k:aY}(y:H.get r=some k)(C:k.arr=false)(s:0<k.esz) :
 ∃es:List AV,es.length=k.es.length/\(∀e∈es,e.cells.length=k.esz)/\gA M ι (H.put r (some ⟨k.esz,es,true,k.gB⟩)).get w /\
  ∀(i j:Nat) e x,es[i]?=some e->e.cells[j]?=some x ->∃u p x0,x = .yM u/\k.es[i]?=some p/\p.cells[j]?=some x0/\VR M ι x0 u:=by
 obtain⟨l,m,A⟩:=d.live r k y;obtain⟨es,D,B,F,v⟩:=(A.cellsOk s).yM;have z:k.map ι=ι:=by unfold aY.map;rw[C];rfl
 rw[z]at v;refine⟨es,D,B,⟨d.mem,λq b a=>?_,λq t b h l G a f m n=>?_⟩,v⟩
 ·rw[aa.ab]at a;split at a;·rename_i e;cases a;rw[e];exact⟨l,m,F.Sa s⟩
  exact d.live q b a
 have : ∀q b,(H.put r (some ⟨k.esz,es,true,k.gB⟩)).get q=some b ->∃h,H.get q=some h:=by
  intro q b a;rw[aa.ab]at a;split at a;·rename_i e;rw[e];exact⟨k,y⟩
  exact⟨b,a⟩
 obtain⟨c,E⟩:=this q b a;obtain⟨c',o⟩:=this t h f;exact d.inj q t c c' l G E o m n
def oA.P9{M:Mem}{ι:Map}{H H0 F H':aa}{w w':World}{x:Ref}{m:Nat}{cap:Option Nat}{k1:aY}{u:Value}{es':List AV}
 (s : ∀q k,H0.get q=some k ->∃k',H.get q=some k') (h1:F.get x=some k1) (Q:0<k1.esz) (D:k1.arr=true)
 (E:H'.get x=some ⟨k1.esz,es',false,k1.gB⟩) (A : ∀q k,q≠x->H'.get q=some k->F.get q=some k) (I : ∀d t,F.gen d t<=H'.gen d t)
 (B:es'.length=k1.es.length) (U : ∀e∈es',e.cells.length=k1.esz)
 (J : ∀(M':Mem)(c:Map),(∀b o v,M b o=some v->M' b o=some v)->(∀q l,ι q=some l->c q=some l) ->∀(i j:Nat) e' x',es'[i]?=some e'->e'.cells[j]?=some x' ->
  ∃L N,k1.es[i]?=some L/\L.cells[j]?=some N /\∀u,VR M' dC N u->VR M' c x' u)
 (hW:oA M ι H0 w (.bA x 0 m cap) F u w'):oA M ι H w (.dsl x 0 m cap) H' u w':=by
 obtain⟨M',c,hv,O,n,hD⟩:=hW;have p : ∀q k,H'.get q=some k ->∃k',F.get q=some k':=by
  intro q k hq;by_cases e:q=x;·rw[e];exact⟨k1,h1⟩
  exact⟨k,A q k e hq⟩
 refine⟨M',c,?_,⟨O.mem,?_,?_⟩,⟨n.os,n.tape,n.output,n.size,?_,n.mem,n.map,?_,?_⟩,?_⟩;·cases hv with | bA hr f hs D hc hn G Q=>exact .dsl hr f hs D hc hn G Q
 ·intro q k G;by_cases e:q=x
  ·rw[e,E]at G;cases G;rw[e];obtain⟨l,y,f⟩:=O.live x k1 h1;refine⟨l,y,f.esz,λ_=>⟨f.esz,?_,?_,U,?_⟩,λe=>by simp only at e;omega,?_⟩
   ·obtain⟨arr,T,fz,a1,a2,a3,a4⟩:=(f.cellsOk Q).heap;refine⟨arr,T,fz,a1,a2,a3,λi j e x he E=>?_⟩;obtain⟨L,N,b1,b2,b3⟩:=J M' c n.mem n.map i j e x he E;obtain⟨u,c1,c2,c3⟩:=a4 i j L N b1 b2;have hm:k1.map c=dC:=by unfold aY.map;rw[D];rfl
    rw[hm]at c3;exact⟨u,c1,c2,b3 u c3⟩
   ·have:=(f.cellsOk Q).len;simp only;omega
   ·intro o v Y;have:=f.frozen o v Y;simp only;rw[B];exact this
   intro o v Y;have:=f.frozen o v Y;simp only;rw[B];exact this
  exact O.live q k (A q k e G)
 ·intro q q' k k' l l' h C y V;obtain⟨a,D⟩:=p q k h;obtain⟨b,f⟩:=p q' k' C;exact O.inj q q' a b l l' D f y V
 ·intro b f W;exact n.chg b f λr k l h0 y=>by
   obtain⟨k',C⟩:=s r k h0;exact W r k' l C y
 ·intro r k l h y;obtain⟨a,D⟩:=p r k h;rcases n.live r a l D y with z | ⟨K,S,Z,z,R,X⟩
  ·exact .inl z
  obtain⟨k',C⟩:=s K S z;exact .inr ⟨K,k',Z,C,R,X⟩
 ·intro b o x E;rcases n.new b o x E with z | z | ⟨K,S,Z,z,R,X⟩
  ·exact .inl z
  ·exact .inr (.inl z)
  obtain⟨k',C⟩:=s K S z;exact .inr (.inr ⟨K,k',Z,C,R,X⟩)
 intro q l y;exact yD (hD q l y) (I _ _)
def oA.deep{M:Mem}{ι:Map}{H H0 y H':aa}{w w':World}{x:Ref}{m:Nat}{cap:Option Nat}{k1:aY}{u:Value}{es':List AV}
 (p : ∀q k,H0.get q=some k ->∃k',H.get q=some k') (D:y.get x=some k1) (F:0<k1.esz) (E:k1.arr=true)
 (a : ∀q,H'.get q=if q=x then some ⟨k1.esz,es',false,k1.gB⟩ else y.get q) (n : ∀d t,y.gen d t<=H'.gen d t)
 (s:es'.length=k1.es.length) (z : ∀e∈es',e.cells.length=k1.esz)
 (c : ∀(M':Mem)(f:Map),(∀b o v,M b o=some v->M' b o=some v)->(∀q l,ι q=some l->f q=some l) ->∀(i j:Nat) e' x',es'[i]?=some e'->e'.cells[j]?=some x' ->
  ∃A B,k1.es[i]?=some A/\A.cells[j]?=some B /\∀u,VR M' dC B u->VR M' f x' u)
 (C:oA M ι H0 w (.bA x 0 m cap) y u w'):oA M ι H w (.dsl x 0 m cap) H' u w':=
 C.P9 p D F E (by rw[a,if_pos rfl]) (λq k e h=>by rw[a,if_neg e]at h;exact h) n s z c
section
variable{P:Program}{M:Mem}{ι:Map}{w:World}
def DL(r:Ref)(b:Option aY)(H:aa)(q:Ref):aa.get ((r,b) :: H) q=if r=q then b else H.get q:=rfl
def U2(r:Ref)(b:Option aY)(H:aa)(d t:Nat):aa.gen ((r,b) :: H) d t=if r.d=d/\r.t=t then r.g+1 else H.gen d t:=rfl
def Nk{H:aa}(hS:gA M ι H.get w)(hD:rN ι H){d D:Nat}{t:TypeId}{n:Nat}{vs:List (Nat × AV)}{qs:Array (Nat × Value)}{x:AV}{H':aa}
 (h:tF P H ⟨d,D,H.gen d D,0⟩ t n (some vs)=some (x,H')) (hl:vs.length=qs.toList.length)
 (hp : ∀(i:Nat) p q,vs[i]?=some p->qs.toList[i]?=some q->p.1=q.1/\VR M ι p.2 q.2) :
 ∃u w',(Instr.buildSlice t n qs).run P w = .ok u w'/\oA M ι H w x H' u w':=by
 unfold tF at h;split at h
 ·rename_i cs e L he;simp only[dV]at L;subst L;split at h
  ·rename_i z s hz hs;obtain⟨Y,hh⟩:=eQ.1 h;clear h;obtain⟨hn1,h0,h1,h2,h3,h4,h5⟩:=Y;subst hn1;injection hh with hh
   injection hh with g1 g2
   subst g1;subst g2;obtain⟨q,E⟩ : ∃q,qs.toList=[q]:=List.length_eq_one_iff.1 hl.symm;obtain⟨q1,C⟩:=hp 0 _ q rfl (by rw[E];rfl);obtain⟨k,O⟩:=q;simp only at q1 C;subst q1;have a:=C.cells;have T:O.cells.size=s:=by have:=a.1;simp[AV.cells]at this;omega
   obtain⟨G,b⟩ : ∃G:List AV,G=O.cells.toList.map AV.yM:=⟨_,rfl⟩;have m : ∀u∈O.cells.toList,u.oneCell'=true:=(by intro u f;obtain⟨i,hi⟩:=List.mem_iff_getElem?.1 f;have hi':=(dT.1 hi).1;obtain⟨y,hy⟩ : ∃y,(AV.agg cs).cells[i]?=some y:=⟨_,de (by rw[a.1];exact hi')⟩;refine(a.2 i y u hy hi).one ?_;rw[dY]at h5;exact h5 y (fZ hy));have V:VR M dC (.agg G) (.agg O.cells):=(by refine .agg (by rw[b];simp) λi c u Y f=>?_;rw[b,kR]at Y;rw[<-Fe]at f;rw[f]at Y;cases Y;exact .yM (m u (fZ f)));obtain⟨it,Z,K,hiz,hzu⟩:=rS hz;obtain⟨ie,N,hsz⟩:=uu hs;rw[K]at N;cases N;have S:=jo (M:=M) (ι:=dC) hzu;have I:Z.cells.size=s:=by have:=S.cells.1;simp at this;omega
   have B:=Row.replicate S h2 h3 1;have o:Row M s (List.replicate 1 z) ((Array.range (1 * s)).map (Z.cells[· % Z.cells.size]!)).toList:=(by have:=vD (zs:=Z.cells) (n:=1) (by omega);rw[I]at this;rw[I,this];exact B);have R : ∃us,O = .agg us:=by cases C with | agg hl h=>exact⟨_,rfl⟩
   obtain⟨us,rfl⟩:=R;have hcu:(Value.agg us).cells=us:=rfl;rw[hcu]at V T b m a;obtain⟨h7,l,h8,h9⟩:=CH (M:=M) [(0,AV.agg G)] [(0,Value.agg us)] (List.replicate 1 z) [.agg G] _ rfl o rfl (λi p q hp E=>by
    match i,hp,E with
    | 0,hp,E=>cases hp;cases E;exact⟨rfl,V⟩) (by
    intro p X;simp only[k9]at X;subst X;refine⟨by simp[AV.cells,b,T],?_⟩;rw[b];simp[AV.cells,AV.one])
   have W:(Instr.buildSlice t 1 qs).run P w = .ok (.slice (some ⟨w.heap.size,0,none⟩) 1 1) (w.alloc (.cells l e)):=(by have hle : ¬16777216<1 * s:=(by omega);have hn0 : ¬1 * s=0:=(by omega);simp only[Instr.buildSlice,iQe,bB (gH he),iQd,cF hs,gt_iff_lt];rw[if_neg hle,if_neg hn0];simp only[iQe,zeroValue,typeInfo,K,hiz,run_program,iQd,iQj,E,h8];simp[newRow]);have v:C5 w (w.alloc (.cells l e)) (.cells l e (0,0)):=⟨rfl,rfl,rfl,rfl⟩;have U:l.size=1 * s:=(by rw[<-Az,h9.len];rfl);have hqo:=tY (r:=⟨d,D,H.gen d D,0⟩) hS rfl (hD.fresh d D 0) v h9 (λk u f=>by simpa using f) (n:=1) (c:=1) U (BP.zero _ _) (bg _) (bg _) (cap:=some 1) (by intro k F;cases F;rfl) h0;have hW:=hqo.toW hD;refine⟨_,_,W,hW.P9 (k1:=⟨s,[.agg G],true,false⟩) (es':=[.agg cs]) (λq k F=>⟨k,F⟩) ?_ h0 rfl ?_ ?_ ?_ rfl ?_ ?_⟩;·simp[keyed,aa.get]
   ·simp[aa.get]
   ·intro q k hne F;have Q : ¬(⟨d,D,H.gen d D,0⟩:Ref)=q:=λe=>hne e.symm;simp only[aa.get,if_neg Q,keyed]at F ⊢;exact F
   ·intro d' t';exact bg _
   ·intro e he;simp only[k9]at he;subst he;exact h4
   intro M' ι' hM hι i j e' x' A J;match i,A with
   | 0,A=>cases A;have hj:=(dT.1 J).1;obtain⟨u,f⟩ : ∃u,us.toList[j]?=some u:=⟨_,de (by rw[<-a.1];exact hj)⟩;refine⟨_,.yM u,rfl,by simp only[AV.cells,b,kR,f];rfl,λu' hu'=>?_⟩;have h6:=a.2 j x' u J f;cases hu' with | yM _=>exact h6.mono hM ι' hι
  cases h
 cases h
def SU{H:aa}(hS:gA M ι H.get w)(hD:rN ι H){d A:Nat}{V:Array TypeId}{ty:TypeId}{s x y:AV}{us ux:Value}(hs:VR M ι s us)(hx:VR M ι x ux){H':aa}
 (h:AF P H ⟨d,A,H.gen d A,0⟩ V[0]? V[1]? s x=some (y,H')) : ∃u w',(Builtin.append_ V ty #[us,ux]).run P w = .ok u w'/\oA M ι H w y H' u w':=by
 unfold AF at h;split at h
 ·rename_i e C m cx he;split at h;·cases h
  rename_i hc;split at h
  ·rename_i z by' zz n hz T hzz E;split at h;·cases h
   rename_i c;have hax:n.arr=false:=by
    cases hh:n.arr with| false=>rfl| true=>exact absurd (.inl hh) c
   have hbz:n.esz=z:=vk.1 λh=>c (.inr (.inl h));have hz0:z≠0:=λh=>c (.inr (.inr (.inl h)));have hb0:by'≠0:=λh=>c (.inr (.inr (.inr (.inl h))));have hn0:n.es≠[]:=λh=>c (.inr (.inr (.inr (.inr (.inl h)))));have hzl:zz.cells.length=z:=vk.1 λh=>c (.inr (.inr (.inr (.inr (.inr (.inl h))))));have hm:m=n.es.length:=vk.1 λh=>c (.inr (.inr (.inr (.inr (.inr (.inr h))))));have Z : ∀e∈n.es,e.cells.length=z:=(by obtain⟨l,_,T⟩:=hS.live C n E;rw[<-hbz];exact(T.cellsOk (by omega)).cells);obtain⟨a,U,a2,a3,a4⟩:=hS.yM E hax (by omega);obtain⟨H0,hH0⟩ : ∃H0,H0=H.put C (some ⟨n.esz,a,true,n.gB⟩):=⟨_,rfl⟩;rw[<-hH0]at a3;have O : ∀q,H0.get q=if q=C then some ⟨n.esz,a,true,n.gB⟩ else H.get q:=λq=>by rw[hH0,aa.ab]
   have o : ∀d t,H0.gen d t=H.gen d t:=λd t=>by rw[hH0,aa.dK _ _ _ (by rw[E];rfl)]
   have hD0:rN ι H0:=λq l hl=>by rw[o];exact hD q l hl
   have hx0:VR M ι (.bA C 0 m cx) ux:=by cases hx with | dsl hr T hs ha hc hn p hz=>exact .bA hr T hs ha hc hn p hz
   have hrx:H0.get C=some ⟨n.esz,a,true,n.gB⟩:=(by rw[O,if_pos rfl]);have hel : ∀K:aa,K.get C=some ⟨n.esz,a,true,n.gB⟩->md P K.get e (.bA C 0 m cx)=some (z,a):=by
    intro K hK;have e1:(a.drop 0).take m=a:=by
     rw[C8,hm,<-U,BT]
    simp only[md,cy,hK];rw[if_pos ⟨trivial,by omega⟩,e1,hbz]
   have hne0:a≠[]:=λh=>hn0 (sK.1 (by rw[<-U,h];rfl));have hc0 : ¬((V[1]?.bind P.underlying).isNone=true\/(V[1]?.map (isInt P)).getD false≠isNum (.bA C 0 m cx)):=hc;have R : ∀q k,H0.get q=some k ->∃k',H.get q=some k':=by
    intro q k G;rw[O]at G;split at G;·rename_i e;rw[e];exact⟨n,E⟩
    exact⟨k,G⟩
   split at h
   ·obtain⟨B,h⟩:=eQ.1 h;cases h;have hfr0:=hD.fresh d A 0;have N:H.get ⟨d,A,H.gen d A,0⟩=none:=by
     cases hg:H.get ⟨d,A,H.gen d A,0⟩ with| none=>rfl| some b=>obtain⟨l,hl,_⟩:=hS.live _ _ hg;rw[hl]at hfr0;cases hfr0
    have hne:(⟨d,A,H.gen d A,0⟩:Ref)≠C:=λe=>by rw[e,E]at N;cases N
    have G:ei P H0.get ⟨d,A,H0.gen d A,0⟩ V[0]? V[1]? (.v (.slice none 0 0)) (.bA C 0 m cx)=some (.bA ⟨d,A,H0.gen d A,0⟩ 0 a.length none,[⟨z,a,true,false⟩]):=(by simp only[ei,he,if_neg hc0,hz,T,hzz,hel H0 hrx];rw[if_neg (λh=>h.elim (λh=>h rfl) λh=>h.elim hz0 λh=>h.elim hb0 λh=>h hzl),if_neg hne0,if_pos (by rw[U,<-hm];exact B)]);obtain⟨u,w',h5,h6⟩:=GB (P:=P) (ty:=ty) a3 rfl (hD0.fresh d A 0) hs hx0 G;have hW:=h6.toW hD0;rw[o,U,<-hm]at hW;refine⟨u,w',h5,hW.P9 (k1:=⟨z,a,true,false⟩) (es':=n.es) R ?_ (by simp only;omega) rfl ?_ ?_ ?_ U.symm Z ?_⟩;·simp[keyed,aa.get]
    ·simp[aa.get]
    ·intro q k G p;have L : ¬(⟨d,A,H.gen d A,0⟩:Ref)=q:=λe=>G e.symm;simp only[keyed];rw[DL,if_neg L,aa.ab]at p;rw[DL,if_neg L,O];split at p;·cases p
     rename_i hne2;rw[if_neg hne2];exact p
    ·intro d' t';simp only[keyed,U2,aa.dK _ _ _ (show(H.get C).isSome=true by rw[E];rfl),o];exact bg _
    intro M' Y hM hι i j e' x' f Q;have hi:i<a.length:=by rw[U];exact(dT.1 f).1
    have g0:a[i]?=some a[i]:=de hi;have hj:j<a[i].cells.length:=(by have h5:=(dT.1 Q).1;rw[Z _ (fZ f)]at h5;rw[a2 _ (eO hi)];omega);have g1:a[i].cells[j]?=some a[i].cells[j]:=de hj;obtain⟨u,e2,x2,b1,b2,b3,b4⟩:=a4 i j _ _ g0 g1;rw[f]at b2;cases b2;rw[Q]at b3;cases b3;refine⟨_,_,g0,g1,λu' J=>?_⟩;rw[b1]at J;cases J with | yM _=>exact b4.mono hM Y hι
   ·rename_i r' len;split at h
    ·rename_i b X;obtain⟨⟨har,hrz,hlen,hrr,B⟩,h⟩:=eQ.1 h;cases h;have hbr0:H0.get r'=some b:=by rw[O,if_neg hrr];exact X
     have hcr : ∀e∈b.es,e.cells.length=z:=(by obtain⟨l,_,T⟩:=hS.live r' b X;rw[<-hrz];exact(T.cellsOk (by omega)).cells);obtain⟨I,c1,c2,c3,c4⟩:=a3.yM hbr0 har (by omega);obtain⟨F,hH1⟩ : ∃F,F=H0.put r' (some ⟨b.esz,I,true,b.gB⟩):=⟨_,rfl⟩;rw[<-hH1]at c3;have W : ∀q,F.get q=if q=r' then some ⟨b.esz,I,true,b.gB⟩ else H0.get q:=λq=>by rw[hH1,aa.ab]
     have D : ∀d t,F.gen d t=H.gen d t:=λd t=>by rw[hH1,aa.dK _ _ _ (by rw[hbr0];rfl),o]
     have hD1:rN ι F:=λq l hl=>by rw[D];exact hD q l hl
     have hs0:VR M ι (.bA r' 0 len none) us:=by cases hs with | dsl hr T hs ha hc hn p hz=>exact .bA hr T hs ha hc hn p hz
     have hr1:F.get r'=some ⟨b.esz,I,true,b.gB⟩:=(by rw[W,if_pos rfl]);have hrx1:F.get C=some ⟨n.esz,a,true,n.gB⟩:=by rw[W,if_neg (λe=>hrr e.symm)];exact hrx
     have hdom1 : ∀q k,F.get q=some k ->∃k',H.get q=some k':=by
      intro q k G;rw[W]at G;split at G;·rename_i e;rw[e];exact⟨b,X⟩
      exact R q k G
     have hw:jU P F V[0]? V[1]? (.bA r' 0 len none) (.bA C 0 m cx)=some (.bA ⟨r'.d,r'.t,F.gen r'.d r'.t,0⟩ 0 (len+a.length) none,(⟨r'.d,r'.t,F.gen r'.d r'.t,0⟩,some ⟨z,I++a,true,b.gB⟩) :: F.put r' none):=(by simp only[jU,he,if_neg hc0,hz,T,hzz,hel F hrx1];rw[if_neg (λh=>h.elim (λh=>h rfl) λh=>h.elim hz0 λh=>h.elim hb0 λh=>h.elim hne0 λh=>h hzl)];simp only[hr1];rw[if_pos ⟨trivial,trivial,hrz,by rw[c1];exact hlen,by rw[U,<-hm];exact B⟩]);obtain⟨u,w',h5,hW⟩:=FJ (P:=P) (ty:=ty) c3 hD1 hs0 hx0 hw;rw[D,U,<-hm]at hW;have hcat : ∀e∈b.es++n.es,e.cells.length=z:=λe he=>(kQ.1 he).elim (hcr e) (Z e);refine⟨u,w',h5,hW.P9 (k1:=⟨z,I++a,true,b.gB⟩) (es':=b.es++n.es) hdom1 ?_ (by simp only;omega) rfl ?_ ?_ ?_ (by simp only[ju,U,c1]) hcat ?_⟩;·rw[DL,if_pos rfl]
     ·rw[DL,if_pos rfl]
     ·intro q k G p;have L : ¬(⟨r'.d,r'.t,H.gen r'.d r'.t,0⟩:Ref)=q:=λe=>G e.symm;rw[DL,if_neg L,aa.ab]at p;rw[DL,if_neg L,aa.ab];split at p;·cases p
      rename_i n1;rw[aa.ab]at p;split at p;·cases p
      rename_i n2;rw[if_neg n1,W,if_neg n1,O,if_neg n2];exact p
     ·intro d' t';have s1:(H.get C).isSome=true:=by rw[E];rfl
      have s2:((H.put C none).get r').isSome=true:=by rw[aa.ab,if_neg hrr,X];rfl
      have s3:(F.get r').isSome=true:=by rw[hr1];rfl
      simp only[U2,aa.dK _ _ _ s2,aa.dK _ _ _ s1,aa.dK _ _ _ s3,D];exact bg _
     intro M' Y hM hι i j e' x' f Q;have both : ∀ {k:aY} {S:List AV} (i:Nat),S.length=k.es.length->(∀e∈S,e.cells.length=k.esz)->(∀e∈k.es,e.cells.length=k.esz)->(∀(i j:Nat) e x,S[i]?=some e->e.cells[j]?=some x ->∃u e0 x0,x = .yM u/\k.es[i]?=some e0/\e0.cells[j]?=some x0/\VR M ι x0 u) ->
      k.es[i]?=some e' ->∃e1 x1,S[i]?=some e1/\e1.cells[j]?=some x1 /\∀u,VR M' dC x1 u->VR M' Y x' u:=by
      intro k S i l1 l2 l4 l3 f;have hi:i<S.length:=by rw[l1];exact(dT.1 f).1
      have g0:S[i]?=some S[i]:=de hi;have hj:j<S[i].cells.length:=(by have h5:=(dT.1 Q).1;rw[l4 _ (fZ f)]at h5;rw[l2 _ (eO hi)];exact h5);have g1:S[i].cells[j]?=some S[i].cells[j]:=de hj;obtain⟨u,e2,x2,b1,b2,b3,b4⟩:=l3 i j _ _ g0 g1;rw[f]at b2;cases b2;rw[Q]at b3;cases b3;refine⟨_,_,g0,g1,λu' J=>?_⟩;rw[b1]at J;cases J with | yM _=>exact b4.mono hM Y hι
     rcases eU i b.es.length with hlt | hge
     ·rw[jG hlt]at f;obtain⟨e1,x1,g1,g2,g3⟩:=both (k:=b) i c1 c2 (by rw[hrz];exact hcr) c4 f;exact⟨e1,x1,by rw[jG (by omega)];exact g1,g2,g3⟩
     rw[ic hge]at f;obtain⟨e1,x1,g1,g2,g3⟩:=both (k:=n) (i - b.es.length) U a2 (by rw[hbz];exact Z) a4 f;exact⟨e1,x1,by rw[ic (by omega),c1];exact g1,g2,g3⟩
    cases h
   cases h
  cases h
 cases h
end
end
end Go.Ab
