/-
  What the abstract machine's quiet operations give is what the model's give: the first part. No statement of a seat is proved here.
-/
import Derived.Lib.Overlaps
import Derived.Lib.SliceRun
import Derived.WalkSpells
import Derived.Test.YtmjkpdknicjjgaaGreatAbsCore
set_option linter.unusedVariables false
set_option linter.unusedSimpArgs false
set_option linter.unusedSectionVars false
set_option linter.unnecessarySimpa false
set_option linter.defProp false
namespace Go.Ab
section
def tB(g:cV)(r:Ref)(bs:List bj):cV:=λq=>if q.d=r.d/\q.t=r.t/\q.g=r.g/\q.k<bs.length then bs[q.k]? else g q
def nV(g:cV)(r:Ref):tB g r []=g:=by funext q;simp[tB]
def so(g:cV)(r:Ref)(a:r.k=0)(b:bj):tB g r [b]=mf g r b:=by
 funext q;unfold tB mf;by_cases h:q=r;·subst h;simp[a]
 rw[if_neg h,if_neg];intro c;apply h;cases q;cases r;simp_all
structure TR (M:Mem) (ι:Map) (tm:List AV) (a:Act):Prop where
 at_ : ∀t,VR M ι (df tm t) (a.tmps.getD t undef)
def TR.mono{M ι tm a M' ι'}(h:TR M ι tm a)(d : ∀b o x,M b o=some x->M' b o=some x)(c : ∀r l,ι r=some l->ι' r=some l):TR M' ι' tm a:=
 ⟨λt=>(h.at_ t).mono d ι' c⟩
def aX{M ι tm a}(h:TR M ι tm a){x:Operand}{y:AV}(b:aP tm x=some y):VR M ι y (a.eval x):=by
 cases x with| tmp t=>simp[aP]at b;subst b;exact h.at_ t| const v=>simp only[aP]at b;exact jB b| global g=>simp[aP]at b| func f=>simp[aP]at b;subst b;exact .fn rfl rfl (λi c u d=>by simp at d) (λi c u d=>by simp at d)
def mS{M ι tm a}(h:TR M ι tm a){c:List Operand}{f:List AV}(d:c.mapM (aP tm)=some f):mc M ι f (c.map a.eval):=
 ⟨by simpa using hJ d,λi y u k e=>by
  obtain⟨x,b,j⟩:=o6 d i y k;simp only[mr,b,Option.map_some,ef]at e;subst e;exact aX h j⟩
def j4(M:Mem)(ι:Map)(g:cV)(w:World)(r:Ref)(x:AV)(bs:List bj)(u:Value)(w':World):Prop:=
 ∃M' a,VR M' a x u/\gS M' a (tB g r bs) w'/\uS M ι g w M' a (tB g r bs) w' /\∀q,ι q=none->(∀k,k<bs.length->q ≠ { r with k:=k})->a q=none
def j4.same{M ι g w r x u}(a:gS M ι g w)(h:VR M ι x u):j4 M ι g w r x [] u w:=
 ⟨M,ι,h,by rw[nV];exact a,by rw[nV];exact uS.refl,λq b _=>b⟩
def gS.drew{M ι g w w'}(a:gS M ι g w)(d:w'.heap=w.heap):gS M ι g w':=
 ⟨λb o x h=>by rw[iQk (w:=w) (by rw[d])];exact a.mem b o x h,λr k h=>by
  obtain⟨l,e,c⟩:=a.live r k h;exact⟨l,e,c.bD (λ_ _ _ h=>h) (λ_ _ h=>h) (by rw[d]) c.frozen⟩,a.inj⟩
def FW(ro:Option Nat):Fence := { Fence.wide with round:=ro}
def fb(P:Program)(o:Oper)(a:Act)(w:World)(S:Value->World->Prop):Prop:=
 ∀(ro:Option Nat)(K:Act->World->Prop)(Q:Exit->Act->World->Prop),(∀u w',S u w'->K (a.put o.dst u) w')->o.wpIn (FW ro) 0 P a w K Q
def Bv{P:Program}{o:Oper}{a:Operand->Value}{w w':World}{x:Next}(ro:Option Nat)(h:(execOp a o).run P w = .ok x w')(i : ∀d,x ≠ .defer d):(Oper.semAt ro a o).run P w = .ok x w':=by
 by_cases hd : ∃c,o.op = .defer c
 ·exfalso;obtain⟨c,b⟩:=hd;simp only[execOp,b]at h;rw[iQf]at h;cases f:(resolve a c o.type).run P w with
  | ok d j=>rw[f]at h;simp only[iQd,iQj,Result.ok.injEq]at h;exact i _ h.1.symm
  | halt e j=>rw[f]at h;cases h
 rw[Oper.semAt_eq ro a o λc b=>hd ⟨c,b⟩];exact h
def fb.ko{P o a w S u w'}(c:(execOp a.eval o).run P w = .ok (.value u) w')(h:S u w'):fb P o a w S:=by
 intro ro K Q b;refine⟨λ_ _=>trivial,?_⟩;rw[Bv (x := .value u) (FW ro).round c (by intro d e;cases e)];exact b _ _ h
def fb.Gl{P o a w S w'}(c:(execOp a.eval o).run P w = .ok .skip w')(h:S undef w'):fb P o a w S:=by
 intro ro K Q b;refine⟨λ_ _=>trivial,?_⟩;rw[Bv (x := .skip) (FW ro).round c (by intro d e;cases e)];exact b _ _ h
def fb.Is{P o a w S f args w0}(i:(execOp a.eval o).run P w = .ok (.enter f args) w0)(h:Calls P f args w0 λe w' =>∃u,e = .returned u/\S u w'):fb P o a w S:=by
 intro ro K Q c;refine⟨λ_ _=>trivial,?_⟩;rw[Bv (x := .enter f args) (FW ro).round i (by intro d e;cases e)];refine⟨λh=>absurd h (by simp[FW,Fence.wide]),?_⟩;have j:CallsIn Fence.wide 0 P f args w0 λe w' =>∃u,e = .returned u/\S u w':=callsIn_wide.2 h;have b:CallsIn (FW ro) (0 - 1) P f args w0 λe w' =>∃u,e = .returned u/\S u w':=j;refine b.mono λe w' ⟨u,he,hS⟩=>?_;subst he;exact c _ _ hS
def fb.Wn{P o a w S l f tmps assign body w0}(i:(execOp a.eval o).run P w = .ok (.round l f tmps assign body) w0)(h:RoundIn (FW none) 0 P l f tmps assign body w0 λe w' =>∃u,e = .returned u/\S u w'):fb P o a w S:=by
 intro ro K Q c;refine⟨λ_ _=>trivial,?_⟩;rw[Bv (x := .round l f tmps assign body) (FW ro).round i (by intro d e;cases e)];refine⟨λh=>absurd h (by simp[FW,Fence.wide]),?_⟩;have b:RoundIn (FW ro) (0 - 1) P l f tmps assign body w0 λe w' =>∃u,e = .returned u/\S u w':=h;refine b.mono λe w' ⟨u,he,hS⟩=>?_;subst he;exact c _ _ hS
def iN(a:Act)(d:Option Tmp)(u:Value):(a.put d u).defers=a.defers:=by cases d<;>rfl
def HR{P:Program}{s:Sem Value}{w w':World}{u:Value}(h:s.run P w = .ok u w'):(do pure (Next.value (<-s)):Sem Next).run P w = .ok (.value u) w':=by
 simp[h]
section
variable{P:Program}{M:Mem}{ι:Map}{g:cV}{w:World}{r:Ref}
def BL{x:AV}{u:Value}{b:Bool}(h:VR M ι x u)(a:E9 x=some b):u = .bool b:=by
 cases h<;>simp[E9]at a;split at a<;>simp_all
def yR{x:AV}{u:Value}{n:Int}(h:VR M ι x u)(a:Ab.uo x=some n) : ∃k,u = .int k n:=by
 cases h<;>simp[Ab.uo]at a;split at a<;>simp_all
def Wt(B:gS M ι g w)(p:r.k=0)(C:ι r=none){e:TypeId}{n:Nat}{x:AV}{u:Value}(s:VR M ι x u)(A:x.cells.length=n)(m:x.cells.all AV.one=true)(h:0<n) :
 ∃w',(Instr.box e u).run P w = .ok (.pointer (some ⟨w.heap.size,0,none⟩)) w'/\j4 M ι g w r (.ptr r 0 0) [⟨n,[x],false,false⟩] (.pointer (some ⟨w.heap.size,0,none⟩)) w':=by
 have a:=s.cells;have c:u.cells.size=n:=by have:=a.1;simp at this;omega
 obtain⟨D,t⟩:=B.alloc (q:=r) C (w':=w.alloc (.cells u.cells e)) (arr:=u.cells) (T:=e) (fz:=(0,0)) ⟨rfl,rfl,rfl,rfl⟩ ⟨n,[x],false,false⟩ h 1 (by simpa using c) (C6.zero _ _) (by simp) (by simp[A])
  (by
   intro i j E y d b;cases i with
   | succ i=>simp at d
   | zero=>
    simp at d;subst d;have o:j<u.cells.size:=by have:=(ee.1 b).1;omega
    refine⟨u.cells[j],by simp,?_,?_⟩;·have v:=a.2 j y u.cells[j] b (by simp[o]);exact v.one (by simp only[gf]at m;exact m y (dJ b))
    simpa [bj.map] using a.2 j y u.cells[j] b (by simp[o]))
 refine⟨w.alloc (.cells u.cells e),by simp[Instr.box,newVar,newRow],M,_,?_,by rw[so _ _ p];exact D,by rw[so _ _ p];exact t,?_⟩;·have:=VR.ptr (M:=M) (ι:=iG ι r ⟨w.heap.size,n,1⟩) (r:=r) (i:=0) (j:=0) (l:=⟨w.heap.size,n,1⟩) (by simp[iG]) h;simpa using this
 intro q f z;have:q≠r:=by intro e;exact z 0 (by simp) (by rw[e];cases r;simp_all)
 simpa [iG,this] using f
def Th(b:gS M ι g w)(f:r.k=0)(d:ι r=none){e:TypeId}{x:AV}{bs:List bj}(h:vX P r e=some (x,bs)) :
 ∃u w',(Instr.alloc e true (.tuple #[])).run P w = .ok u w'/\j4 M ι g w r x bs u w':=by
 unfold vX at h;split at h
 ·rename_i z n c o;split at h
  ·rename_i a;cases h;obtain⟨u,l,i⟩:=yE c w;obtain⟨w',j,m⟩:=Wt (P:=P) (e:=e) b f d (jB i) a.1 a.2.1 a.2.2;refine⟨_,w',?_,m⟩;have:(Instr.alloc e true (.tuple #[])).run P w=(Instr.box e u).run P w:=by simp[Instr.alloc,l,Instr.box]
   rw[this];exact j
  cases h
 cases h
def Zq(c:gS M ι g w)(j:r.k=0)(i:ι r=none){e:TypeId}{y x:AV}{b:Value}(f:VR M ι y b){bs:List bj}(h:Lx P r e (some y)=some (x,bs)) :
 ∃u w',(Instr.box e b).run P w = .ok u w'/\j4 M ι g w r x bs u w':=by
 unfold Lx at h;split at h
 ·rename_i o n d p;cases d;split at h;·rename_i a;cases h;obtain⟨w',l,m⟩:=Wt (P:=P) (e:=e) c j i f a.1 a.2.1 a.2.2;exact⟨_,w',l,m⟩
  cases h
 cases h
def V3(f:gS M ι g w){t:TypeId}{y x:AV}{l:Value}(k:VR M ι y l){bs:List bj}(h:ow P g t (some y)=some (x,bs)) :
 bs=[] /\∃u,(Instr.loadAt t l).run P w = .ok u w/\VR M ι x u:=by
 unfold ow at h;split at h
 ·rename_i r' i j p n a d e;cases a;split at h;·rename_i b m;simp only[iL,bI]at h;obtain⟨o,c,a⟩:=h;cases a;exact⟨rfl,RE d e f k m c⟩
  cases h
 ·rename_i esz es i j p n a d e;cases a;simp only[iL,bI]at h;obtain⟨o,c,a⟩:=h;cases a;exact⟨rfl,WV d e f.mem k c⟩
 cases h
def Ry{t:TypeId}{cs:List AV}{c:Array Value}{a:Nat}{x:AV}(f:mc M ι cs c.toList)(h:AQ P t cs a=some x) : ∃u,(part t c a).run P w = .ok u w/\VR M ι x u:=by
 unfold AQ at h;split at h
 ·rename_i n d j;split at h
  ·rename_i i;cases h;refine⟨.agg (c.extract a (a+n)),by simp[part,Bz d,cO j],VR.qE.2 ?_⟩;have:=(f.drop a).take n;have e:(c.extract a (a+n)).toList=(c.toList.drop a).take n:=by
    rw[OR,OX,KV]
   rw[e];exact this
  cases h
 ·rename_i d;have k:=(ee.1 h).1;have b:a<c.size:=by have:=f.1;simp at this;omega
  refine⟨c[a],by simp[part,Bz d,kD b],f.2 a x _ h (by simp[b])⟩
 cases h
def VR.R8{cs:List AV}{u:Value}(h:VR M ι (.agg cs) u) : ∃a,u = .agg a/\mc M ι cs a.toList:=by
 cases h with | agg c b=>exact⟨_,rfl,VR.qE.1 (.agg c b)⟩
def J0{t:TypeId}{f b:Nat}{i:TypeId}(h:rN P t f=some (b,i)) : ∃c a,P.underlying t=some (.struct c)/\c[f]?=some a/\a.offset=b/\a.type=i:=by
 unfold rN at h;split at h;·rename_i c d;simp only[bI]at h;obtain⟨a,e,he⟩:=h;cases he;exact⟨c,a,d,e,rfl,rfl⟩
 cases h
def Tf{t:TypeId}{f:Nat}{y x:AV}{d:Value}(i:VR M ι y d){bs:List bj}(h:tn P t (some y) f=some (x,bs)) :
 bs=[] /\∃u,(Instr.field t d f).run P w = .ok u w/\VR M ι x u:=by
 unfold tn at h;split at h;·rename_i n p cs e b;cases b;simp only[iL,bI]at h;obtain⟨o,c,b⟩:=h;cases b;obtain⟨q,rfl,a⟩:=i.R8;obtain⟨s,fd,k,m,rfl,rfl⟩:=J0 e;obtain⟨u,l,j⟩:=Ry (w:=w) a c;exact⟨rfl,u,by simp[Instr.field,bu k,m,asAgg,l],j⟩
 cases h
def IM{t:TypeId}{f b s:Nat}(h:aD P t f=some (b,s)) : ∃c a,P.underlying t=some (.struct c)/\c[f]?=some a/\a.offset=b/\aE P a.type=some s:=by
 unfold aD at h;split at h;·rename_i d o e;simp only[bI]at h;obtain⟨n,l,he⟩:=h;cases he;obtain⟨c,a,k,m,j,i⟩:=J0 e;exact⟨c,a,k,m,j,i ▸ l⟩
 cases h
def JD{t:TypeId}{f:Nat}{y x:AV}{c:Value}(k:VR M ι y c){bs:List bj}(h:iM P t (some y) f=some (x,bs)) :
 bs=[] /\∃u,(Instr.fieldAt t c f).run P w = .ok u w/\VR M ι x u:=by
 unfold iM at h;split at h
 ·rename_i B s p;obtain⟨E,fd,v,z,rfl,q⟩:=IM p;split at h
  ·rename_i D;have m : ∀(b o:Nat),c = .pointer (some ⟨b,o,none⟩)->(Instr.fieldAt t c f).run P w = .ok (.pointer (some ⟨b,o+fd.offset,none⟩)) w:=by
    intro b o e;subst e;simp[Instr.fieldAt,bu v,z,Instr.sureAddr,fieldPlace,cO q,show s≠0 by omega,ic]
   split at h
   ·rename_i r' i j a;cases a;cases h;cases k with | ptr A d=>
    rename_i l;exact⟨rfl,_,m _ _ rfl,by rw[GL];exact .ptr A d⟩
   ·rename_i n es i j a;cases a;cases h;cases k with | iptr cell hm a C=>
    rename_i b o;exact⟨rfl,_,m _ _ rfl,by rw[show o+(i * n+j)+fd.offset=o+(i * n+(j+fd.offset)) by omega];exact .iptr cell hm a C⟩
   cases h
  cases h
 cases h
def gX{t e:TypeId}(h:ca P t=some e):P.underlying t=some (.slice e):=by
 unfold ca at h;split at h;·cases h;assumption
 cases h
def Gf{t e:TypeId}{n:Nat}(h:ly P t=some (n,e)):P.underlying t=some (.array n e):=by
 unfold ly at h;split at h;·cases h;assumption
 cases h
def JC(V:gS M ι g w){t:TypeId}{y z x:AV}{O U:Value}(I:VR M ι y O)(hz:VR M ι z U){bs:List bj}(h:bH P g t (some y) (some z)=some (x,bs)) :
 bs=[] /\∃u,(Instr.indexAt t O U).run P w = .ok u w/\VR M ι x u:=by
 unfold bH at h;simp only[eD]at h;split at h
 ·rename_i k X;obtain⟨ki,rfl⟩:=yR hz X;split at h
  ·rename_i e T;have H:=gX T;split at h
   ·rename_i esz es cap s d B;cases d;split at h
    ·rename_i p;obtain⟨L,C,rfl⟩:=p;cases h;cases I with | bg cell f J G hm S R=>
     rename_i a c;refine⟨rfl,.pointer (some (a.add (k.toNat * s))),?_,?_⟩;·simp[Instr.indexAt,asIntOf,bu H,L,C,cO B]
     have f:=f.resolve_right (by intro e;subst e;simp at C;omega);rw[kA f,ic];have:=VR.iptr (M:=M) (ι:=ι) (i:=k.toNat) (j:=0) (b:=a.block) (o:=a.off) cell hm S R;simpa using this
    cases h
   ·rename_i r' q len cap s d B;cases d;split at h
    ·rename_i b Q;split at h
     ·rename_i p;obtain⟨L,C,D⟩:=p;cases h;cases I with | bk K F f N J Y G A=>
      rename_i l a c;obtain⟨Z,m,E⟩:=V.live r' b Q;rw[K]at m;cases m;refine⟨rfl,.pointer (some (a.add (k.toNat * s))),?_,?_⟩;·simp[Instr.indexAt,asIntOf,bu H,L,C,cO B]
      have v:a.off=q * l.esz:=by
       rcases N with h | h
       ·omega
       exact h
      rw[kA f,ic,F,v,D,<-E.esz,<-mo];have:=VR.ptr (M:=M) (ι:=ι) (i:=q+k.toNat) (j:=0) K A;simpa using this
     cases h
    cases h
   ·rename_i r' q len cap s d B;cases d;split at h
    ·rename_i b Q;split at h
     ·rename_i p;obtain⟨L,C,D⟩:=p;cases h;cases I with | dsl K F f N J Y G A=>
      rename_i l a c;obtain⟨Z,m,E⟩:=V.live r' b Q;rw[K]at m;cases m;refine⟨rfl,.pointer (some (a.add (k.toNat * s))),?_,?_⟩;·simp[Instr.indexAt,asIntOf,bu H,L,C,cO B]
      have v:a.off=q * l.esz:=by
       rcases N with h | h
       ·omega
       exact h
      rw[kA f,ic,F,v,D,<-E.esz,<-mo];have:=VR.ptr (M:=M) (ι:=ι) (i:=q+k.toNat) (j:=0) K A;simpa using this
     cases h
    cases h
   cases h
  split at h
  ·rename_i n e N;have H:=Gf N;have W : ∀(b o s:Nat),O = .pointer (some ⟨b,o,none⟩)->aE P e=some s->0<=k->k<n->(Instr.indexAt t O (.int ki k)).run P w = .ok (.pointer (some ⟨b,o+k.toNat * s,none⟩)) w:=by
    intro b o s e C h2 h3;subst e;simp[Instr.indexAt,asIntOf,bu H,Instr.sureAddr,h2,h3,cO C,ic]
   split at h
   ·rename_i r' i j s d B;cases d;split at h
    ·rename_i p;cases h;cases I with | ptr hl A=>
     exact⟨rfl,_,W _ _ _ rfl B p.1 p.2,by rw[GL];exact .ptr hl A⟩
    cases h
   ·rename_i esz es i j s d B;cases d;split at h
    ·rename_i p;cases h;cases I with | iptr cell hm T R=>
     rename_i b o;exact⟨rfl,_,W _ _ _ rfl B p.1 p.2,by rw[show o+(i * esz+j)+k.toNat * s=o+(i * esz+(j+k.toNat * s)) by omega];exact .iptr cell hm T R⟩
    cases h
   cases h
  cases h
 cases h
def Nh{y x:AV}{d:Value}{i:Nat}(e:VR M ι y d){bs:List bj}(h:ud (some y) i=some (x,bs)) :
 bs=[] /\∃u,(Instr.extract d i).run P w = .ok u w/\VR M ι x u:=by
 unfold ud at h;split at h
 ·rename_i j c;cases c;simp only[iL,bI]at h;obtain⟨k,a,c⟩:=h;cases c;cases e with | tup l m f=>
  rename_i us;have b:i<us.size:=by have:=(ee.1 a).1;omega
  exact⟨rfl,us[i],by simp[Instr.extract,kD b],f i _ _ a (kD b)⟩
 cases h
def Te{t:TypeId}{y x:AV}{b:Value}(c:VR M ι y b){bs:List bj}(h:zI P t (some y)=some (x,bs)) :
 bs=[] /\∃u,(Instr.makeInterface t b).run P w = .ok u w/\VR M ι x u:=by
 unfold zI at h;split at h;·cases h
 ·rename_i d a hd;simp at h;obtain⟨rfl,rfl⟩:=h;refine⟨rfl,.iface t b,?_,.ifc c⟩;simp only[Instr.makeInterface,iQf,bu hd,iQd];cases d<;>first | rfl | (exact absurd hd (a _))
 cases h
def PN{st a:TypeId}{ok:Bool}{y x:AV}{o:Value}(l:VR M ι y o){bs:List bj}(h:BD P (some y) a ok=some (x,bs)) :
 bs=[] /\∃u,(Instr.typeAssert o st a ok).run P w = .ok u w/\VR M ι x u:=by
 have j : ∀d,P.underlying a=some d->(∀C,d ≠ .interface C) ->∀z,eu P a=some z->ok=true->(o = .nilIface \/∃t v,o = .iface t v/\t≠a) ->
  ∃u,(Instr.typeAssert o st a ok).run P w = .ok u w/\VR M ι (.tup [z,.v (.bool false)]) u:=by
  intro d hd b z m f e;subst f;obtain⟨v,B,q⟩:=yE m w;refine⟨.tuple #[v,.bool false],?_,?_⟩
  ·simp only[Instr.typeAssert,iQf,bu hd,iQd];rcases e with rfl | ⟨t,x,rfl,n⟩
   ·cases d<;>first | (simp[B];done) | exact absurd rfl (b _)
   cases d<;>first | (simp[B,n];done) | exact absurd rfl (b _)
  refine .tup (by simp) rfl λi c u k e=>?_;match i with
  | 0=>simp at k e;subst k;subst e;exact jB q
  | 1=>simp at k e;subst k;subst e;exact .v rfl
  | i+2=>simp at k
 unfold BD at h;split at h;·cases h
 ·rename_i d t D b hd s;cases s;cases l with | ifc l=>
  rename_i p;split at h
  ·rename_i A;subst A;simp at h;obtain⟨rfl,rfl⟩:=h;refine⟨rfl,(if ok then .tuple #[p,.bool true] else p),?_,?_⟩;·simp only[Instr.typeAssert,iQf,bu hd,iQd];cases d<;>first | (simp;done) | exact absurd hd (by intro h;exact b _ h)
   cases ok with| false=>simpa using l| true=>
    simp only[if_true];refine .tup (by simp) rfl λi c u k e=>?_;match i with
    | 0=>simp at k e;subst k;subst e;exact l
    | 1=>simp at k e;subst k;subst e;exact .v rfl
    | i+2=>simp at k
  rename_i A;split at h;·rename_i f;simp at h;obtain⟨z,m,rfl,rfl⟩:=h;exact⟨rfl,j d hd b z m f (.inr ⟨t,p,rfl,A⟩)⟩
  cases h
 ·rename_i d b hd s;cases s;split at h;·rename_i f;simp at h;obtain⟨z,m,rfl,rfl⟩:=h;cases l;exact⟨rfl,j d hd b z m f (.inl rfl)⟩
  cases h
 cases h
end
end
section
section
variable{P:Program}{M:Mem}{ι:Map}{g:cV}{w:World}{r:Ref}
def NR(a:Nat) : ∀(us:List Value)(k:Nat)(cells:Array Value),a+k+us.length<=cells.size ->
 (us.zipIdx k).foldl (λcs (p:Value × Nat)=>cs.setIfInBounds (a+p.2) p.1) cells=cP cells (a+k) us:=by
 intro us;induction us with
 | nil=>intro k cells h;simp[cP]
 | cons u us c=>
  intro k cells h;simp only[gD]at h;rw[List.zipIdx_cons,wS,c (k+1) _ (by simp;omega)];apply Fj;intro i;rw[jc (by simp;omega),jc (by simp;omega)];by_cases d:i=a+k;·subst d;rw[if_neg (by omega),if_pos ⟨cG _,by simp⟩];simp[show a+k<cells.size by omega]
  by_cases b:a+(k+1)<=i/\i<a+(k+1)+us.length;·rw[if_pos b,if_pos (by simp;omega)];rw[show i - (a+k)=(i - (a+(k+1)))+1 by omega];simp
  rw[if_neg b,if_neg (by simp;omega)];rw[BZ (by omega)]
def mc.patch{cs new:List AV}{us a:List Value}{j:Nat}(h:mc M ι cs us)(b:mc M ι new a):mc M ι (patch cs j new) (us.take j++a++us.drop (j+a.length)):=by
 unfold Ab.patch;rw[<-b.1];exact((h.take j).append b).append (h.drop _)
def RS(d:Nat->Option (Nat × Nat)) : ∀(ps:List (Nat × AV)) (qs:List (Nat × Value)) (cs b:List AV) (c:Array Value),wh d cs ps=some b->mc M ι cs c.toList ->
 ps.length=qs.length->(∀(i:Nat) p q,ps[i]?=some p->qs[i]?=some q->p.1=q.1/\VR M ι p.2 q.2) ->
 ∃e,Instr.fill d c qs=some e/\mc M ι b e.toList:=by
 intro ps;induction ps with
 | nil=>
  intro qs cs b c h o s hp;simp[wh]at h;subst h;cases qs with
  | nil=>exact⟨c,rfl,o⟩
  | cons q qs=>simp at s
 | cons p ps G=>
  intro qs cs b c h o s hp;cases qs with
  | nil=>simp at s
  | cons q qs=>
   obtain⟨i,v⟩:=p;obtain⟨J,u⟩:=q;obtain⟨A,B⟩:=hp 0 _ _ rfl rfl;simp only at A B;subst A;simp only[wh]at h;split at h;·cases h
   rename_i a n x;split at h
   ·rename_i H;obtain⟨F,hle⟩:=H;have m:=B.cells;have C:u.cells.size=n:=by have:=m.1;simp at this;omega
    have I:c.size=cs.length:=by have:=o.1;simp at this;omega
    have f:=NR a u.cells.toList 0 c (by simp;omega);have l:u.cells.zipIdx.foldl (λcs (p:Value × Nat)=>cs.setIfInBounds (a+p.2) p.1) c=cP c a u.cells.toList:=(by rw[uE]at f;rw[<-f,<-OM,iQS]);have t:mc M ι (patch cs a v.cells) (cP c a u.cells.toList).toList:=(by have:=o.patch (j:=a) m;simpa [cP] using this);obtain⟨e,E,D⟩:=G qs (patch cs a v.cells) b (cP c a u.cells.toList) h t (by simpa using s) (λk p q y z=>hp (k+1) p q y z);refine⟨e,?_,D⟩;simp only[Instr.fill,x];rw[if_neg (by simp;omega)];rw[<-E,<-l]
   cases h
def sh{tm:List AV}{a:Act}(h:TR M ι tm a){ps:List (Nat × Operand)}{c:List (Nat × AV)}(b:ia tm ps=some c) :
 c.length=(ps.map λp=>(p.1,a.eval p.2)).length /\∀(i:Nat) p q,c[i]?=some p->(ps.map λp=>(p.1,a.eval p.2))[i]?=some q->p.1=q.1/\VR M ι p.2 q.2:=by
 unfold ia at b;refine⟨by simpa using hJ b,λi p q hp e=>?_⟩;obtain⟨⟨k,o⟩,f,d⟩:=o6 b i p hp;simp only[bI]at d;obtain⟨y,j,rfl⟩:=d;simp only[mr,f,Option.map_some,ef]at e;subst e;exact⟨rfl,aX h j⟩
def th{t:TypeId}{z:AV}(h:eu P t=some z) : ∃i u,P.info? t=some i/\i.zero=some u/\ofValue u=some z:=by
 simp only[eu,iF]at h;obtain⟨u,⟨i,hi,a⟩,b⟩:=h;exact⟨i,u,hi,a,b⟩
def Tg{t:TypeId}{j:List (Nat × AV)}{qs:Array (Nat × Value)}{x:AV}{bs:List bj}(B:j.length=qs.toList.length)
 (hp : ∀(i:Nat) p q,j[i]?=some p->qs.toList[i]?=some q->p.1=q.1/\VR M ι p.2 q.2) (h:mI P t (some j)=some (x,bs)) :
 bs=[] /\∃u,(Instr.build t qs).run P w = .ok u w/\VR M ι x u:=by
 unfold mI at h;split at h
 ·rename_i z F C f;cases f;obtain⟨it,u,k,d,E⟩:=th C;obtain⟨A,rfl,l⟩:=(jB (M:=M) (ι:=ι) E).R8;split at h
  ·rename_i n e G;split at h;·rename_i s D;simp only[bI]at h;obtain⟨cs,c,f⟩:=h;cases f;obtain⟨I,m,rfl⟩:=vQ D;obtain⟨a,o,v⟩:=RS (M:=M) (ι:=ι) _ j qs.toList z cs A c l B hp;refine⟨rfl,.agg a,run_build w t qs a ?_,VR.qE.2 v⟩;simp[Program.built,k,Gf G,d,m,Value.cells,o]
   cases h
  split at h
  ·rename_i ps b;simp only[bI]at h;obtain⟨cs,c,f⟩:=h;cases f;unfold gZ at b;split at b;·rename_i H y;obtain⟨a,o,v⟩:=RS (M:=M) (ι:=ι) _ j qs.toList z cs A c l B hp;refine⟨rfl,.agg a,run_build w t qs a ?_,VR.qE.2 v⟩;simp only[Program.built,k,y,d,b,Value.cells];rw[<-o];congr 1;funext i;simp
   cases b
  cases h
 cases h
def Zr{b:BinOp}{t:TypeId}{xo yo:Operand}{x y z:AV}{u v:Value}(k:VR M ι x u)(j:VR M ι y v){bs:List bj}(h:bC P b t xo yo (some x) (some y)=some (z,bs)) :
 bs=[] /\∃r,(do eqGuard b t xo yo u v;binOp b t u v:Sem Value).run P w = .ok r w/\VR M ι z r:=by
 simp only[bC]at h;split at h
 ·rename_i p;have key:(∃a n c,u = .slice (some a) n c/\v = .slice none 0 0)\/(∃a n c,v = .slice (some a) n c/\u = .slice none 0 0):=by
   simp only[jH,bo]at p;rcases p with ⟨l,f⟩ | ⟨l,f⟩
   ·left;have:v = .slice none 0 0:=by
     cases j<;>simp[jW]at f;split at f<;>simp_all
    cases k<;>simp[F8]at l;·exact⟨_,_,_,rfl,this⟩
    ·exact⟨_,_,_,rfl,this⟩
    exact⟨_,_,_,rfl,this⟩
   right;have:u = .slice none 0 0:=by
    cases k<;>simp[jW]at f;split at f<;>simp_all
   cases j<;>simp[F8]at l;·exact⟨_,_,_,rfl,this⟩
   ·exact⟨_,_,_,rfl,this⟩
   exact⟨_,_,_,rfl,this⟩
  have i : ∀b,(eqGuard b t xo yo u v).run P w = .ok () w:=(by intro b;rcases key with ⟨a,n,c,rfl,rfl⟩ | ⟨a,n,c,rfl,rfl⟩<;>(unfold eqGuard;cases b<;>simp));split at h
  ·rename_i e d;simp at h;obtain⟨rfl,rfl⟩:=h;refine⟨rfl,.bool false,?_,.v rfl⟩;simp only[iQf,i,iQd];rcases key with ⟨a,n,c,rfl,rfl⟩ | ⟨a,n,c,rfl,rfl⟩
   ·rw[Lib.run_eql_slice_nil w t e (some a) n c 0 0 d];rfl
   rw[run_eql_nil_slice w t e (some a) n c 0 0 d];rfl
  ·rename_i e d;simp at h;obtain⟨rfl,rfl⟩:=h;refine⟨rfl,.bool true,?_,.v rfl⟩;simp only[iQf,i,iQd];rcases key with ⟨a,n,c,rfl,rfl⟩ | ⟨a,n,c,rfl,rfl⟩
   ·rw[run_neq_slice_nil_any w t e (some a) n c 0 0 d];rfl
   rw[run_neq_nil_slice w t e (some a) n c 0 0 d];rfl
  cases h
 split at h;·rename_i E C m o;simp only[iL,bI,iF]at h;obtain⟨D,⟨r,s,q⟩,he⟩:=h;cases he;have A:=vR k m;have B:=vR j o;subst A;subst B;exact⟨rfl,r,oK s w,oL q⟩
 cases h
def acR{a:UnOp}{x z:AV}{u:Value}(c:VR M ι x u){bs:List bj}(h:Zl P a (some x)=some (z,bs)) :
 bs=[] /\∃r,(Op.unary a u).run P w = .ok r w/\VR M ι z r:=by
 simp only[Zl,iL,bI,iF,ef]at h;obtain⟨i,⟨r,⟨v,⟨f,rfl,e⟩,d⟩,b⟩,he⟩:=h;cases he;have:=Pa c e;subst this;exact⟨rfl,r,oK d w,oL b⟩
def Yl{b:List AV}{us d:List Value}(c:mc M ι b us)(h:b.mapM JY=some d):us=d:=by
 apply KQ;intro i;rcases fl i us.length with hi | hi
 ·have a:i<b.length:=by rw[c.1];exact hi
  obtain⟨v,f,e⟩:=lZ h i b[i] (dI a);rw[f,dI hi,Pa (c.2 i _ _ (dI a) (dI hi)) e]
 have:=hJ h;rw[xZ hi,xZ (by rw[this,c.1];exact hi)]
def Kg{f:Value->Value->Sem Value}{b:List AV}{us:List Value}{z:AV}(d:mc M ι b us)(h:LF f P b=some z) :
 ∃u a,us=u :: a /\∃r,(a.foldlM f u).run P w = .ok r w/\VR M ι z r:=by
 unfold LF at h;split at h;·rename_i u a i;have:=Yl d i;subst this;simp only[iF]at h;obtain⟨r,e,c⟩:=h;exact⟨u,a,rfl,r,oK e w,oL c⟩
 cases h
def uj{t:TypeId}(h:isStr P t=true):P.underlying t=some .string:=by
 unfold isStr at h;split at h;·assumption
 cases h
def rZ{t:TypeId}(h:dD P t=true) : ∃e,P.underlying t=some (.slice e)/\P.underlying e=some (.int .u8):=by
 unfold dD at h;split at h
 ·rename_i e a;split at h;·exact⟨e,a,by assumption⟩
  cases h
 cases h
def WO{t:TypeId}(h:isInt P t=true) : ∃k,P.underlying t=some (.int k):=by
 unfold isInt at h;split at h;·exact⟨_,by assumption⟩
 cases h
end
end
section
section
variable{P:Program}{M:Mem}{ι:Map}{g:cV}{w:World}{r:Ref}
structure Src (P:Program) (M:Mem) (w:World) (u:Value) (z:Nat) (es:List AV) (us:List Value):Prop where
 len:us.length=es.length * z
 Jh : ∀e∈es,e.cells.length=z
 one : ∀x∈us,x.oneCell'=true
 vr : ∀(i j:Nat) e x,es[i]?=some e->e.cells[j]?=some x ->∃u,us[i * z+j]?=some u/\VR M dO x u
 lenOf : ∀w':World,(Builtin.lenOf u).run P w' = .ok es.length w'
 first : ∀(n:Nat)(w':World),n<=es.length->w'.heap=w.heap->(Builtin.firstCells z n u).run P w' = .ok (us.take (n * z)).toArray w'
def S6{es:List AV}{z:Nat}(h : ∀e∈es,e.cells.length=z)(cell:Nat->Nat->Value) :
 ∃us:List Value,us.length=es.length * z /\∀i j,i<es.length->j<z->us[i * z+j]?=some (cell i j):=by
 refine⟨(List.range (es.length * z)).map λk=>cell (k / z) (k % z),by simp,?_⟩;intro i j hi a;have b:0<z:=by omega
 have:=EY hi a;rw[mr,Fk this];simp only[Option.map_some,ef];rw[KE i z,Nat.mul_add_div b,Nat.div_eq_of_lt a,Nat.mul_add_mod,KK a,uE]
def Rd{es:List AV}{z:Nat}(b : ∀e∈es,e.cells.length=z)(D:0<z\/es=[]){a:Addr}{c:Nat}(s:a.spot=none\/es=[])(cell:Nat->Nat->Value)
 (C : ∀i j,i<es.length->j<z->w.cell? ⟨a.block,a.off+(i * z+j),none⟩=some (cell i j)/\(cell i j).oneCell'=true)
 (E : ∀(i j:Nat) e x,es[i]?=some e->e.cells[j]?=some x->VR M dO x (cell i j)) : ∃us,Src P M w (.slice (some a) es.length c) z es us:=by
 obtain⟨us,u,B⟩:=S6 b cell;have f : ∀k,k<us.length->0<z/\k / z<es.length/\k % z<z/\k / z * z+k % z=k:=by
  intro k l;rw[u]at l;have d:0<z:=by
   rcases D with h | h
   ·exact h
   subst h;simp at l
  exact⟨d,(iQK d).2 l,Nat.mod_lt _ d,by rw[KE];exact Nat.div_add_mod k z⟩
 refine⟨us,u,b,?_,?_,λw'=>by simp[Builtin.lenOf],?_⟩
 ·intro x q;obtain⟨k,l,t⟩:=pW q;obtain⟨d,o,p,e⟩:=f k l;have:=B _ _ o p;rw[e,dI l,t]at this;injection this with this
  rw[this];exact(C _ _ o p).2
 ·intro i j e x y q;have hi:=(ee.1 y).1;have m:j<z:=by
   rw[<-b e (dJ y)];exact(ee.1 q).1
  exact⟨cell i j,B i j hi m,E i j e x y q⟩
 intro n w' F A;have G:n * z<=us.length:=by rw[u];exact mB _ F
 refine run_firstCells_some (P:=P) w' z n a es.length c (us.take (n * z)) (by simp;omega) ?_;intro j v m;rw[Az]at m;split at m;·rename_i H;obtain⟨d,o,p,e⟩:=f j (by omega);have:=B _ _ o p;rw[e,m]at this;cases this;have s:=s.resolve_right (by intro e;subst e;simp at o);rw[kA s,ic];have:=(C _ _ o p).1;rw[e]at this;rw[iQk (w:=w) (by rw[A])];exact this
 cases m
def getElems(es:List AV)(a len:Nat)(b:a+len<=es.length):((es.drop a).take len).length=len /\∀i,i<len->((es.drop a).take len)[i]?=es[a+i]? :=
 ⟨by simp;omega,λi hi=>by rw[Az,if_pos hi,Ac]⟩
def oS(I:gS M ι g w){x:AV}{u:Value}(k:VR M ι x u){z:Nat}{es:List AV}(K:0<z)(h:cy g x=some (z,es)) : ∃us,Src P M w u z es us:=by
 unfold cy at h;split at h
 ·rename_i s;cases h;cases k;refine⟨s.data.toList.map λb => .int .u8 b.toNat,?_,?_,?_,?_,?_,?_⟩;·simp
  ·intro e f;simp only[nO]at f;obtain⟨b,_,rfl⟩:=f;rfl
  ·intro x k;simp only[nO]at k;obtain⟨b,_,rfl⟩:=k;rfl
  ·intro i j e x f k;simp only[mr,bI]at f;obtain⟨b,D,rfl⟩:=f;cases j with
   | succ j=>simp[AV.cells]at k
   | zero=>simp[AV.cells]at k;subst k;exact⟨.int .u8 b.toNat,by simp[D],.v rfl⟩
  ·intro w';simp only[Builtin.lenOf,iQj,AF,BX];rfl
  intro n w' Q V;simp only[Builtin.firstCells,Nat.mul_one,iQj];congr 1;apply GA;simp only[Array.toList_map,ByteArray.data_extract,OR];rw[OX];simp[iQQ]
 ·rename_i esz es' cap;cases h;cases k with | bg cell C J O hm f R=>
  rename_i a c;exact Rd f (.inl K) C cell (λi j hi p=>⟨I.mem _ _ _ (hm i j hi p).1,(hm i j hi p).2⟩) R
 ·rename_i r' d len cap;split at h
  ·rename_i b D;split at h
   ·rename_i J;cases h;obtain⟨t,hlen⟩:=J;cases k with | bk U F C W T Q O G=>
    rename_i l a c;have m:=I.at U G D;obtain⟨A,B⟩:=getElems b.es d len hlen;have o:0<len->a.off=d * b.esz:=by
     intro X;rcases W with h | h
     ·omega
     rw[h,m.esz]
    have key : ∀i j,i<len->j<b.esz ->∃u,w.cell? ⟨a.block,a.off+(i * b.esz+j),none⟩=some u/\u.oneCell'=true /\∀e x,b.es[d+i]?=some e->e.cells[j]?=some x->VR M dO x u:=by
     intro i j hi p;have f:b.es[d+i]?=some b.es[d+i]:=dI (by omega);have L:=m.cells b.es[d+i] (eE _);obtain⟨u,N,A,B⟩:=m.cell (d+i) f j _ (dI (by omega:j<b.es[d+i].cells.length));refine⟨u,?_,A,?_⟩;·rw[o (by omega),F,show d * b.esz+(i * b.esz+j)=(d+i) * b.esz+j by rw[mo];omega];exact N
     intro e x y q;rw[f]at y;cases y;rw[dI (by omega:j<b.es[d+i].cells.length)]at q;cases q;rw[bj.map,if_pos t]at B;exact B
    let cell:Nat->Nat->Value:=λi j=>(w.cell? ⟨a.block,a.off+(i * b.esz+j),none⟩).getD undef
    have:=Rd (P:=P) (M:=M) (w:=w) (es:=(b.es.drop d).take len) (z:=b.esz) (a:=a) (c:=c)
     (by intro e f;exact m.cells e (Dc (xY f))) (.inl K) (.inl C) cell
     (by
      intro i j hi p;rw[A]at hi;obtain⟨u,E,H,_⟩:=key i j hi p;simp[cell,E,H])
     (by
      intro i j e x f k;have hi:i<len:=by have:=(ee.1 f).1;omega
      rw[B i hi]at f;have p:j<b.esz:=(by rw[<-m.cells e (dJ f)];exact(ee.1 k).1);obtain⟨u,E,H,S⟩:=key i j hi p;simp only[cell,E,cB];exact S e x f k)
    rw[A]at this;exact this
   cases h
  cases h
 cases h
inductive Ee:Option Value->Option Int->Prop
 | none:Ee none none
 | some (k n):Ee (some (.int k n)) (some n)
def vp{tm:List AV}{a:Act}(h:TR M ι tm a){o:Option Operand}{x:Option Int}(b:mJ tm o=some x):Ee (o.map a.eval) x:=by
 cases o with| none=>simp only[mJ,ef]at b;subst b;exact .none| some o=>
  simp only[mJ]at b;split at b
  ·rename_i n c;injection b with b
   subst b;simp only[iF]at c;obtain⟨y,d,hi⟩:=c;obtain⟨k,e⟩:=yR (aX h d) hi;rw[Option.map_some,e];exact .some k n
  cases b
def BK{len c:Nat}{cap:Option Nat}(J:len<=c)(B : ∀k,cap=some k->c=k){lo hi D:Option Int}{l h:Nat}{c':Option Nat}(a:bounds len cap lo hi D=some (l,h,c'))
 {u t s:Option Value} (v:Ee u lo) (E:Ee t hi) (G:Ee s D) :
 l<=h/\h<=len /\∃m,h<=m/\m<=c/\(∀k,c'=some k->m - l=k)/\(Instr.sliceBounds true len c u t s).run P w = .ok (l,h,m) w:=by
 have f : ∀(k:IntKind)(i:Int)(y:Nat)(b:BoundsCode),0<=i->i<=y->(Instr.sliceBound (.int k i) y b).run P w = .ok i.toNat w:=λk i y b=>iQL w k i y b;cases G with
 | some C m=>
  cases E with| none=>simp[bounds]at a| some p d=>
   simp only[bounds]at a;obtain⟨⟨n,j,x,A,K⟩,a⟩:=eY.1 a;simp only[ef,tT]at a;obtain⟨rfl,rfl,rfl⟩:=a;have F:m<=c:=by
    cases cap with
    | none=>simp at A;omega
    | some k=>have:=B k rfl;simp at A;omega
   have L:((m.toNat:Nat):Int)=m:=Db (by omega);have I:((d.toNat:Nat):Int)=d:=Db (by omega);refine⟨by omega,by omega,m.toNat,by omega,by omega,by intro k e;cases e;rfl,?_⟩;cases v with
   | none=>simp only[vH]at n j;simp only[Instr.sliceBounds,iQf,f C m c _ (by omega) (by omega),iQd,f p d m.toNat _ (by omega) (by omega),iQj,vH];rfl
   | some q o=>simp only[cB]at n j;simp only[Instr.sliceBounds,iQf,f C m c _ (by omega) (by omega),iQd,f p d m.toNat _ (by omega) (by omega),f q o d.toNat _ (by omega) (by omega),iQj,cB]
 | none=>
  simp only[bounds]at a;obtain⟨⟨n,j,x⟩,a⟩:=eY.1 a;simp only[ef,tT]at a;obtain⟨rfl,rfl,rfl⟩:=a;refine⟨by omega,by omega,c,by omega,cG _,?_,?_⟩;·intro k e;simp only[bI]at e;obtain⟨H,z,rfl⟩:=e;rw[B H z]
  cases E with
  | none=>
   simp only[vH]at j x ⊢;cases v with
   | none=>simp[Instr.sliceBounds]
   | some q o=>simp only[cB]at n j ⊢;simp only[Instr.sliceBounds,iQf,iQj,iQd,f q o len _ (by omega) (by omega)];simp
  | some p d=>
   simp only[cB]at j x ⊢;have I:((d.toNat:Nat):Int)=d:=Db (by omega);cases v with
   | none=>simp only[vH]at n j ⊢;simp only[Instr.sliceBounds,iQf,iQj,iQd,f p d c _ (by omega) (by omega)];simp
   | some q o=>simp only[cB]at n j ⊢;simp only[Instr.sliceBounds,iQf,iQj,iQd,f p d c _ (by omega) (by omega),f q o d.toNat _ (by omega) (by omega)]
def rO{t e:TypeId}(k:P.underlying t=some (.slice e)){s:Nat}(i:aE P e=some s){a:Option Addr}{len c l h m:Nat}{f d b:Option Value}
 (j:(Instr.sliceBounds true len c f d b).run P w = .ok (l,h,m) w) :
 (Instr.sliceAt t (.slice a len c) f d b).run P w = .ok (.slice (if m=l then a else a.map (·.add (l * s))) (h - l) (m - l)) w:=by
 simp[Instr.sliceAt,bu k,Instr.slice,j,cO i]
def Tc(hS:gS M ι g w){t:TypeId}{y x:AV}{u0:Value}(Q:VR M ι y u0){lo hi mx:Option Int}{V T O:Option Value}
 (L:Ee V lo) (U:Ee T hi) (R:Ee O mx)
 {bs:List bj} (h:cr P g t (some y) (some lo) (some hi) (some mx)=some (x,bs)) :
 bs=[] /\∃u,(Instr.sliceAt t u0 V T O).run P w = .ok u w/\VR M ι x u:=by
 simp only[cr]at h;split at h
 ·rename_i e;cases e;cases Q;obtain⟨n,h⟩:=eY.1 h;simp only[bI]at h;obtain⟨⟨l,f,c'⟩,o,e⟩:=h;cases e;obtain⟨s,C⟩:=gT.1 n;simp only[iF]at C;obtain⟨e,D,C⟩:=C;obtain⟨b1,b2,m,b3,b4,b5,b6⟩:=BK (P:=P) (w:=w) (cG 0) (by intro k F;cases F;rfl) o L U R;have e1:l=0:=by omega
  have H:f=0:=(by omega);have e3:m=0:=(by omega);subst e1;subst H;subst e3;exact⟨rfl,_,rO (gX D) C b6,.v rfl⟩
 ·rename_i s e;cases e;cases Q;obtain⟨n,h'⟩:=eY.1 h;clear h;simp only[bo,Option.isNone_iff_eq_none]at n;obtain⟨n,rfl⟩:=n;cases R;obtain⟨⟨l,f,c'⟩,o,e⟩:=bI.1 h';cases e;have X:=uj n;have W : ∀(k:IntKind)(i:Int)(y:Nat)(q:BoundsCode),0<=i->i<=y->(Instr.sliceBound (.int k i) y q).run P w = .ok i.toNat w:=λk i y q=>iQL w k i y q;simp only[bounds]at o;obtain⟨⟨S,E,Y⟩,o⟩:=eY.1 o;simp only[ef,tT]at o;obtain⟨rfl,rfl,rfl⟩:=o;refine⟨rfl,.string (s.extract (lo.getD 0).toNat (hi.getD s.size).toNat),?_,.v rfl⟩;cases U with
  | none=>
   simp only[vH]at E Y;try simp only[vH,cB]
   cases L with| none=>simp[Instr.sliceAt,bu X,Instr.slice,Instr.sliceBounds]| some kl ll=>
    simp only[cB]at S E;try simp only[vH,cB]
    simp[Instr.sliceAt,bu X,Instr.slice,Instr.sliceBounds,W kl ll s.size _ S E]
  | some kh f=>
   simp only[cB]at E Y;try simp only[vH,cB]
   have eh:((f.toNat:Nat):Int)=f:=Db (by omega);cases L with
   | none=>
    simp only[vH]at S E;try simp only[vH,cB]
    simp[Instr.sliceAt,bu X,Instr.slice,Instr.sliceBounds,W kh f s.size _ E Y]
   | some kl ll=>
    simp only[cB]at S E;try simp only[vH,cB]
    simp[Instr.sliceAt,bu X,Instr.slice,Instr.sliceBounds,W kh f s.size _ (by omega) Y,W kl ll f.toNat _ S (by omega)]
 ·rename_i esz es cap e;cases e;obtain⟨n,h⟩:=eY.1 h;simp only[bI]at h;obtain⟨⟨l,f,c'⟩,o,e⟩:=h;cases e;simp only[iF]at n;obtain⟨e,D,C⟩:=n;cases Q with | bg cell d N F hm hes Z=>
  rename_i a c;obtain⟨b1,b2,m,b3,b4,b5,b6⟩:=BK (P:=P) (w:=w) N F o L U R;refine⟨rfl,_,rO (gX D) C b6,?_⟩;obtain⟨g1,g2⟩:=getElems es l (f - l) (by omega);have:=VR.bg (M:=M) (ι:=ι) (esz:=esz) (es:=(es.drop l).take (f - l)) (cap:=c') (a:=(if m=l then a else a.add (l * esz))) (c:=m - l) (λi j=>cell (l+i) j)
   (by
    rcases d with d | d
    ·left;split;·exact d
     rw[kA d,ic]
    right;subst d;simp) (by omega) b5
   (by
    intro i j hi hj;rw[g1]at hi;have d:=d.resolve_right (by intro e;subst e;simp at b2 N;omega);rw[if_neg (by omega),kA d,ic];have:=hm (l+i) j (by omega) hj;rw[show a.off+((l+i) * esz+j)=a.off+l * esz+(i * esz+j) by rw[mo];omega]at this;exact this)
   (by intro e D;exact hes e (Dc (xY D)))
   (by
    intro i j e x hi hx;have hi':i<f - l:=by have:=(ee.1 hi).1;omega
    rw[g2 i hi']at hi;exact Z (l+i) j e x hi hx)
  rw[g1]at this;have H:(if m=l then some a else (some a).map (·.add (l * esz)))=some (if m=l then a else a.add (l * esz)):=by split<;>rfl
  rw[H];exact this
 ·rename_i r' I len cap e;cases e;split at h
  ·rename_i b G;obtain⟨n,h⟩:=eY.1 h;simp only[bI]at h;obtain⟨⟨l,f,c'⟩,o,e⟩:=h;cases e;simp only[iF]at n;obtain⟨e,D,C⟩:=n;cases Q with | bk K z d ha N hn F A=>
   rename_i lo' a c;obtain⟨l',p,J⟩:=hS.live r' b G;rw[K]at p;cases p;obtain⟨b1,b2,m,b3,b4,b5,b6⟩:=BK (P:=P) (w:=w) N F o L U R;refine⟨rfl,_,rO (gX D) C b6,?_⟩;have H:(if m=l then some a else (some a).map (·.add (l * b.esz)))=some (if m=l then a else a.add (l * b.esz)):=by split<;>rfl
   rw[H];show VR M ι (.bk r' (I+l) (f - l) c') _;by_cases B:m=l;·rw[if_pos B];exact .bk K z d (.inl (by omega)) (by omega) (.inl (by omega)) b5 A
   rw[if_neg B,kA d,ic];refine .bk K z rfl (.inr ?_) (by omega) (.inr ?_) b5 A
   ·rcases ha with h | h
    ·omega
    simp only[h,J.esz,mo]
   rcases hn with h | h
   ·omega
   omega
  cases h
 ·rename_i r' I len cap e;cases e;split at h
  ·rename_i b G;obtain⟨n,h⟩:=eY.1 h;simp only[bI]at h;obtain⟨⟨l,f,c'⟩,o,e⟩:=h;cases e;simp only[iF]at n;obtain⟨e,D,C⟩:=n;cases Q with | dsl K z d ha N hn F A=>
   rename_i lo' a c;obtain⟨l',p,J⟩:=hS.live r' b G;rw[K]at p;cases p;obtain⟨b1,b2,m,b3,b4,b5,b6⟩:=BK (P:=P) (w:=w) N F o L U R;refine⟨rfl,_,rO (gX D) C b6,?_⟩;have H:(if m=l then some a else (some a).map (·.add (l * b.esz)))=some (if m=l then a else a.add (l * b.esz)):=by split<;>rfl
   rw[H];show VR M ι (.dsl r' (I+l) (f - l) c') _;by_cases B:m=l;·rw[if_pos B];exact .dsl K z d (.inl (by omega)) (by omega) (.inl (by omega)) b5 A
   rw[if_neg B,kA d,ic];refine .dsl K z rfl (.inr ?_) (by omega) (.inr ?_) b5 A
   ·rcases ha with h | h
    ·omega
    simp only[h,J.esz,mo]
   rcases hn with h | h
   ·omega
   omega
  cases h
 cases h
def QA{len c:Nat}(q:len<=c){lo hi:Option Int}(j:0<=lo.getD 0)(b:lo.getD 0<=hi.getD len)(n:hi.getD len<=c)
 {e d:Option Value} (o:Ee e lo) (s:Ee d hi) :
 (Instr.sliceBounds true len c e d none).run P w = .ok ((lo.getD 0).toNat,(hi.getD len).toNat,c) w:=by
 have h : ∀(k:IntKind)(i:Int)(y:Nat)(a:BoundsCode),0<=i->i<=y->(Instr.sliceBound (.int k i) y a).run P w = .ok i.toNat w:=λk i y a=>iQL w k i y a;cases s with
 | none=>
  simp only[vH]at b n ⊢;cases o with
  | none=>simp[Instr.sliceBounds]
  | some m l=>simp only[cB]at j b ⊢;simp only[Instr.sliceBounds,iQf,iQj,iQd,h m l len _ (by omega) (by omega)];simp
 | some p f=>
  simp only[cB]at b n ⊢;have t:((f.toNat:Nat):Int)=f:=Db (by omega);cases o with
  | none=>simp only[vH]at j b ⊢;simp only[Instr.sliceBounds,iQf,iQj,iQd,h p f c _ (by omega) (by omega)];simp
  | some m l=>simp only[cB]at j b ⊢;simp only[Instr.sliceBounds,iQf,iQj,iQd,h p f c _ (by omega) (by omega),h m l f.toNat _ (by omega) (by omega)]
def PI(Y:gS M ι g w){t:TypeId}{y x:AV}{R:Value}(Z:VR M ι y R){lo hi S:Option Int}{s p j:Option Value}
 (W:Ee s lo) (h2:Ee p hi) (h3:Ee j S)
 {bs:List bj} (h:lW P g t (some y) (some lo) (some hi) (some S)=some (x,bs)) :
 bs=[] /\∃u,(Instr.sliceAt t R s p j).run P w = .ok u w/\VR M ι x u:=by
 unfold lW at h;split at h
 ·rename_i H hi' r' E len cap C D N L;simp only[ef]at C D N L;subst C D N L;cases h3;split at h
  ·rename_i b A;obtain⟨⟨T,Q,V,F⟩,h⟩:=eY.1 h;simp only[ef,tT]at h;obtain⟨rfl,rfl⟩:=h;simp only[iF]at T;obtain⟨e,he,U⟩:=T;cases Z with | bk I o n ha O X K q=>
   rename_i H a c;have i:((cap.getD len:Nat):Int)<=c:=by
    cases cap with| none=>simpa using O| some k=>rw[K k rfl];simp
   have d : ∀m:Nat,∀k,cap.map (· - m)=some k->c - m=k:=(by intro m k z;obtain⟨k0,J,rfl⟩:=bI.1 z;rw[K k0 J]);replace F:hi.getD (len:Int)<=c:=Int.le_trans F i;clear i;obtain⟨l',f,G⟩:=Y.live r' b A;rw[I]at f;cases f;have b6:=QA (P:=P) (w:=w) O Q V F W h2;have C:(((lo.getD 0).toNat:Nat):Int)=lo.getD 0:=Db Q;have D:(((hi.getD (len:Int)).toNat:Nat):Int)=hi.getD len:=Db (by omega);generalize (lo.getD 0).toNat=l at *;generalize (hi.getD (len:Int)).toNat=hh at *;refine⟨rfl,_,rO (gX he) U b6,?_⟩;have B:(if c=l then some a else (some a).map (·.add (l * b.esz)))=some (if c=l then a else a.add (l * b.esz)):=by split<;>rfl
   rw[B];show VR M ι (.bk r' (E+l) (hh - l) (cap.map (· - l))) _;by_cases v:c=l;·rw[if_pos v];exact .bk I o n (.inl (by omega)) (by omega) (.inl (by omega)) (d l) q
   rw[if_neg v,kA n,ic];refine .bk I o rfl (.inr ?_) (by omega) (.inr ?_) (d l) q
   ·rcases ha with h | h
    ·omega
    simp only[h,G.esz,mo]
   rcases X with h | h
   ·omega
   omega
  cases h
 cases h
def V1(F:gS M ι g w){t tR:TypeId}{args:List AV}{us:List Value}(hv:mc M ι args us){x:AV}{bs:List bj}(h:Ig P g t args=some (x,bs)) :
 bs=[]/\x = .v (.bool false)/\(Extern.SlicesOverlaps.overlaps #[t,t] #[tR] us.toArray).run P w = .ok (.bool false) w:=by
 unfold Ig at h;split at h
 ·rename_i r y len cap r' A i V e he;split at h
  ·rename_i b b' z W p hz;obtain⟨⟨G,h1,h2,h3⟩,h⟩:=eY.1 h;simp only[ef,tT]at h;obtain⟨rfl,rfl⟩:=h;refine⟨rfl,rfl,?_⟩;obtain⟨hlen,d⟩:=hv;match us,hlen,d with
   | [ua,ub],hlen,d=>
   have va:=d 0 _ ua rfl rfl;have vb:=d 1 _ ub rfl rfl;clear d hlen;cases va with | bk hr j hsp ha hc hn hk O=>
   rename_i l a c;cases vb with | bk B k U ha' hc' K hk' u=>
   rename_i E a' c';have ht:=gX he;have Y:=F.at hr O W;have hB:=F.at B u p;obtain⟨arr,T,fz,J,N,s,_⟩:=Y.heap;obtain⟨arr',T',fz',D,o,X,_⟩:=hB.heap;have H:l.b≠E.b:=λe=>G (F.inj r r' b b' l E W p hr B e);have m : ∀w:World,(Go.sizeOf e).run P w = .ok z w:=λw=>cO hz w;show(Extern.SlicesOverlaps.overlaps #[t,t] #[tR] #[.slice (some a) len c,.slice (some a') i c']).run P w=_;by_cases h0:len=0\/i=0
   ·have L:(len=0\/i=0\/z=0):=(by omega);have e2 : ∀ {C β:Type} (x:C) (f:C->Sem β),(pure x:Sem C).bind f=f x:=λ_ _=>rfl;conv=>lhs;arg 2;whnf
    simp[Sem.run,Sem.bind,e2,ht,m,L]
   have hcn:y+c<=l.n:=by rcases hn with h | h<;>omega
   have S:A+c'<=E.n:=by rcases K with h | h<;>omega
   have I:a.off=y * l.esz:=by rcases ha with h | h<;>omega
   have Z:0<arr'.size:=by rw[o];exact Nat.mul_pos (by omega) (by omega)
   have R:a.off<arr.size:=(by rw[I,N,Y.esz];exact(Nat.mul_lt_mul_right (by omega)).2 (by omega));refine Lib.run_overlaps_apart (P:=P) w t tR e ht z m a a' len c i c' (by rw[j,k];exact H) T T' arr.size arr'.size ?_ ?_ (by omega) ?_ ?_;·unfold World.shape?;rw[j,J]
   ·unfold World.shape?;rw[k,D]
   ·unfold World.frozen?;rw[j,J];have:=s.1 a.off R;obtain⟨f1,f2⟩:=fz;simp only at this ⊢;rw[Gv];simp only[iQc];by_cases q:f1<=a.off;·exact .inr λQ=>this ⟨q,.inl Q⟩
    exact .inl q
   unfold World.frozen?;simp only;rw[j,J];have:=s.2 h1;obtain⟨f1,f2⟩:=fz;simp only at this ⊢;rw[Gv];simp only[iQc];by_cases q:f1<=arr.size;·exact .inr λQ=>this ⟨q,Q⟩
   exact .inl q
  cases h
 cases h
end
end
section
section
variable{P:Program}{M:Mem}{ι:Map}{g:cV}{w:World}{r:Ref}
structure Row (M:Mem) (z:Nat) (es:List AV) (us:List Value):Prop where
 len:us.length=es.length * z
 Jh : ∀e∈es,e.cells.length=z
 one : ∀x∈us,x.oneCell'=true
 vr : ∀(i j:Nat) e x,es[i]?=some e->e.cells[j]?=some x ->∃u,us[i * z+j]?=some u/\VR M dO x u
def Src.row{u z es us}(h:Src P M w u z es us):Row M z es us:=⟨h.len,h.Jh,h.one,h.vr⟩
def Row.nil{z:Nat}:Row M z [] []:=⟨by simp,by simp,by simp,by intro i j e x h;simp at h⟩
def Row.append{z es us es' us'}(h:Row M z es us)(d:Row M z es' us'):Row M z (es++es') (us++us'):=by
 refine⟨by simp[h.len,d.len,mo],?_,?_,?_⟩
 ·intro e a;rcases mq.1 a with b | b
  ·exact h.Jh e b
  exact d.Jh e b
 ·intro e a;rcases mq.1 a with b | b
  ·exact h.one e b
  exact d.one e b
 intro i j e x a k;rcases fl i es.length with hi | hi
 ·rw[jU hi]at a;obtain⟨u,c,f⟩:=h.vr i j e x a k;exact⟨u,by rw[jU (ee.1 c).1];exact c,f⟩
 rw[gU hi]at a;obtain⟨u,c,f⟩:=d.vr _ j e x a k;have l:es.length * z<=i * z:=mB _ hi;refine⟨u,?_,f⟩;rw[gU (by rw[h.len];omega),h.len,show i * z+j - es.length * z=(i - es.length) * z+j by rw[GB];omega];exact c
def Row.cons{z es us e vs}(b:mc M dO e vs)(k:e.length=z)(l : ∀x∈vs,x.oneCell'=true)(y:AV)(d:y.cells=e)(h:Row M z es us):Row M z (y :: es) (vs++us):=by
 have:Row M z [y] vs:=by
  refine⟨by rw[<-b.1,k];simp,by intro m a;simp at a;subst a;rw[d];exact k,l,?_⟩;intro i j m x hi c;cases i with
  | succ i=>simp at hi
  | zero=>
   simp at hi;subst hi;rw[d]at c;have f:j<vs.length:=by have:=(ee.1 c).1;rw[<-b.1];exact this
   exact⟨vs[j],by simp[f],b.2 j x vs[j] c (dI f)⟩
 exact this.append h
def Row.replicate{z:Nat}{y:AV}{u:Value}(d:VR M dO y u)(l:y.cells.length=z)(e:y.cells.all AV.one=true) : ∀n,Row M z (List.replicate n y) (List.replicate n u.cells.toList).flatten:=by
 intro n;have a : ∀x∈u.cells.toList,x.oneCell'=true:=by
  intro x i;obtain⟨j,h,c⟩:=pW i;have f:=d.cells;have b:j<y.cells.length:=by rw[f.1];exact h
  have:=f.2 j _ x (dI b) (by rw[<-c];exact dI h);exact this.one (by simp only[gf]at e;exact e _ (eE b))
 induction n with| zero=>exact Row.nil| succ n k=>rw[OO,OO,List.flatten_cons];exact Row.cons d.cells l a y rfl k
def Row.mono{z es us}{M':Mem}(h:Row M z es us)(d : ∀b o x,M b o=some x->M' b o=some x):Row M' z es us:=
 ⟨h.len,h.Jh,h.one,λi j e x a c=>by obtain⟨u,k,f⟩:=h.vr i j e x a c;exact⟨u,k,f.mono d _ (λ_ _ h=>h)⟩⟩
def vB(E:gS M ι g w)(s:r.k=0)(G:ι r=none){w':World}{arr:Array Value}{T:TypeId}{fz:Nat × Nat}(t:Eg w w' (.cells arr T fz))
 {z:Nat} {es:List AV} {us:List Value} (a:Row M z es us) (b : ∀(k:Nat) u,us[k]?=some u->arr[k]?=some u) {n c:Nat} (f:arr.size=n * z)
 (h:C6 z arr.size fz) (C:es.length<=c) (H:c<=n) {cap:Option Nat} (d : ∀k,cap=some k->c=k) (o:0<z) :
 j4 M ι g w r (.bk r 0 es.length cap) [⟨z,es,true,false⟩] (.slice (some ⟨w.heap.size,0,none⟩) es.length c) w':=by
 obtain⟨A,y⟩:=E.alloc (q:=r) G t ⟨z,es,true,false⟩ o n f h (by simp;omega) a.Jh
  (by
   intro i j e x F v;obtain⟨u,p,B⟩:=a.vr i j e x F v;exact⟨u,b _ _ p,a.one u (dJ p),by simpa [bj.map] using B⟩)
 refine⟨M,_,?_,by rw[so _ _ s];exact A,by rw[so _ _ s];exact y,?_⟩;·exact .bk (l:=⟨w.heap.size,z,n⟩) (by simp[iG]) rfl rfl (.inr (by simp)) C (.inr (by simp;omega)) d o
 intro q m D;have:q≠r:=by intro e;exact D 0 (by simp) (by rw[e];cases r;simp_all)
 simpa [iG,this] using m
def NI(M:Mem)(b:Nat)(us:List Value):Mem:=λa o=>if a=b then us[o]? else M a o
def Ui(A:gS M ι g w){w':World}{arr:Array Value}{T:TypeId}{fz:Nat × Nat}(f:Eg w w' (.cells arr T fz))
 {z:Nat} {es:List AV} {us:List Value} (d:Row M z es us) (p : ∀(k:Nat) u,us[k]?=some u->arr[k]?=some u) {c:Nat}
 (G:es.length<=c) {cap:Option Nat} (v : ∀k,cap=some k->c=k) :
 j4 M ι g w r (.bg z es cap) [] (.slice (some ⟨w.heap.size,0,none⟩) es.length c) w':=by
 have s : ∀b o x,M b o=some x->b<w.heap.size:=λb o x h=>iQm w ⟨b,o,none⟩ (A.mem b o x h);have m : ∀b o x,M b o=some x->NI M w.heap.size us b o=some x:=by
  intro b o x h;unfold NI;rw[if_neg (Nat.ne_of_lt (s b o x h))];exact h
 have t:w'.heap[w.heap.size]?=some (.cells arr T fz):=by rw[f.heap];simp
 have B : ∀i j,i<es.length->j<z ->∃u,us[i * z+j]?=some u:=by
  intro i j hi C;exact⟨us[i * z+j]'(by rw[d.len];exact EY hi C),dI _⟩
 refine⟨NI M w.heap.size us,ι,?_,?_,?_,λq J _=>J⟩
 ·refine VR.bg (M:=NI M w.heap.size us) (ι:=ι) (esz:=z) (es:=es) (cap:=cap) (a:=⟨w.heap.size,0,none⟩) (c:=c) (λi j=>(us[i * z+j]?).getD undef) (.inl rfl) G v ?_ d.Jh ?_;·intro i j hi C;obtain⟨u,y⟩:=B i j hi C;simp only[NI,if_true,vG,y,cB];exact⟨trivial,d.one u (dJ y)⟩
  intro i j e x I D;obtain⟨u,y,F⟩:=d.vr i j e x I D;simp only[y,cB];exact F.mono m _ (λ_ _ h=>h)
 ·rw[nV];refine⟨?_,?_,A.inj⟩
  ·intro b o x h;unfold NI at h;split at h;·rename_i e;subst e;rw[jP t];exact p o x h
   exact f.cell (A.mem b o x h)
  intro r' k H;obtain⟨l,K,n⟩:=A.live r' k H;refine⟨l,K,n.bD m (λ_ _ h=>h) (f.old _ n.lt) ?_⟩;intro o x h;unfold NI at h;rw[if_neg (Nat.ne_of_lt n.lt)]at h;exact n.frozen o x h
 rw[nV];refine⟨f.os,f.tape,f.output,by rw[f.heap];simp,λb n _=>f.old b n,m,λ_ _ h=>h,λr' k l h E => .inr ⟨r',k,l,h,E,rfl⟩,?_⟩;intro b o x h;unfold NI at h;split at h;·rename_i e;exact .inr (.inl (by omega))
 exact .inl h
def j4.after{R:List Ref}(f:uL g R=g)(c:gS M ι g w){x:AV}{bs:List bj}{u:Value}{w':World}(h:j4 (lz M ι g w R) ι g w r x bs u w'):j4 M ι g w r x bs u w':=by
 obtain⟨_,b⟩:=A0 (R:=R) c;rw[f]at b;obtain⟨M',a,i,j,e,d⟩:=h;exact⟨M',a,i,j,b.trans e,d⟩
def K7(j:gS M ι g w){a c:List (Nat × AV)}(h:dp g a=some c){qs:List (Nat × Value)}(s:a.length=qs.length)
 (hp : ∀(i:Nat) p q,a[i]?=some p->qs[i]?=some q->p.1=q.1/\VR M ι p.2 q.2) :
 c.length=qs.length /\∀(i:Nat) p q,c[i]?=some p->qs[i]?=some q->p.1=q.1/\VR (lz M ι g w (ct g (a.map (·.2)))) dO p.2 q.2:=by
 unfold dp at h;refine⟨by rw[hJ h,s],?_⟩;intro i p q b d;obtain⟨⟨k,x⟩,f,e⟩:=o6 h i p b;simp only[bI]at e;obtain⟨y,l,rfl⟩:=e;obtain⟨n,o⟩:=hp i _ q f d;refine⟨n,Df j depth x y q.2 l ?_ o⟩;intro r m;simp only[ct,iK,nO];exact⟨x,⟨(k,x),dJ f,rfl⟩,m⟩
def DY{z:Nat} : ∀(t:List (Nat × AV)) (qs:List (Nat × Value)) (es es':List AV) (us:Array Value),hY es t=some es'->Row M z es us.toList ->
 t.length=qs.length->(∀(i:Nat) p q,t[i]?=some p->qs[i]?=some q->p.1=q.1/\VR M dO p.2 q.2)->(∀p∈t,p.2.cells.length=z/\p.2.cells.all AV.one=true) ->
 es'.length=es.length /\∃f,Instr.fill (λi=>some (i * z,z)) us qs=some f/\Row M z es' f.toList:=by
 intro t;induction t with
 | nil=>
  intro qs es es' us h a E hp G;simp[hY]at h;subst h;cases qs with
  | nil=>exact⟨rfl,us,rfl,a⟩
  | cons q qs=>simp at E
 | cons p t V=>
  intro qs es es' us h a E hp G;cases qs with
  | nil=>simp at E
  | cons q qs=>
   obtain⟨i,v⟩:=p;obtain⟨Y,u⟩:=q;obtain⟨O,Q⟩:=hp 0 _ _ rfl rfl;simp only at O Q;subst O;simp only[hY]at h;split at h
   ·rename_i hi;obtain⟨C,m⟩:=G _ (j6 ..);simp only at C m;have b:=Q.cells;have H:u.cells.size=z:=by have:=b.1;simp at this;omega
    have J:us.size=es.length * z:=by have:=a.len;simpa using this
    have W:i * z+z<=us.size:=(by have:(i+1) * z<=es.length * z:=mB _ hi;rw[mo]at this;omega);have l:=NR (i * z) u.cells.toList 0 us (by simp;omega);have n:u.cells.zipIdx.foldl (λcs (p:Value × Nat)=>cs.setIfInBounds (i * z+p.2) p.1) us=cP us (i * z) u.cells.toList:=(by rw[uE]at l;rw[<-l,<-OM,iQS]);have B : ∀x∈u.cells.toList,x.oneCell'=true:=by
     intro x d;obtain⟨j,y,K⟩:=pW d;have D:j<v.cells.length:=by rw[b.1];exact y
     have:=b.2 j _ x (dI D) (by rw[<-K];exact dI y);exact this.one (by simp only[gf]at m;exact m _ (eE D))
    have o:Row M z (es.set i v) (cP us (i * z) u.cells.toList).toList:=by
     refine⟨?_,?_,?_,?_⟩;·simp only[BX,OI];rw[jM (by simp;omega),J]
     ·intro e c;rcases OW c with h | h
      ·exact a.Jh e h
      rw[h];exact C
     ·intro x d;simp only[cP,mq]at d;rcases d with (h | h) | h
      ·exact a.one x (xY h)
      ·exact B x h
      exact a.one x (Dc h)
     intro k j e x c d;have X:k<es.length:=by have:=(ee.1 c).1;simpa using this
     rw[Gw,jc (by simp;omega)];by_cases I:i=k
     ·subst I;rw[GW hi]at c;injection c with c
      subst c;have y:j<v.cells.length:=(ee.1 d).1;rw[if_pos ⟨by omega,by simp;omega⟩,KV];have A:j<u.cells.toList.length:=by rw[<-b.1];exact y
      exact⟨u.cells.toList[j],dI A,b.2 j x _ d (dI A)⟩
     rw[GS I]at c;have y:j<z:=(by rw[<-a.Jh e (dJ c)];exact(ee.1 d).1);obtain⟨T,F,N⟩:=a.vr k j e x c d;rw[if_neg];·exact⟨T,by simpa using F,N⟩
     simp only[BX,H];rcases ON I with h | h
     ·have:(i+1) * z<=k * z:=mB _ h;rw[mo]at this;omega
     have:(k+1) * z<=i * z:=mB _ h;rw[mo]at this;omega
    obtain⟨S,f,R,U⟩:=V qs (es.set i v) es' (cP us (i * z) u.cells.toList) h o (by simpa using E) (λk p q s L=>hp (k+1) p q s L) (λp s=>G p (j7 _ s));refine⟨by rw[S];simp,f,?_,U⟩;simp only[Instr.fill];rw[if_neg (by simp;omega)];rw[<-R,<-n]
   cases h
def xk{zs:Array Value}{n:Nat}(c:0<zs.size):((Array.range (n * zs.size)).map (zs[· % zs.size]!)).toList=(List.replicate n zs.toList).flatten:=by
 apply KQ;intro k;rcases fl k (n * zs.size)with a | a
 ·have b:k % zs.size<zs.size:=Nat.mod_lt _ c;have hd:k / zs.size<n:=(iQK c).2 a;have d:((Array.range (n * zs.size)).map (zs[· % zs.size]!)).toList[k]?=some zs[k % zs.size]:=(by simp[a,b,getElem!_pos]);rw[d];have : ∀n k,k<n * zs.size->(List.replicate n zs.toList).flatten[k]?=zs.toList[k % zs.size]?:=by
   intro n;induction n with
   | zero=>intro k a;simp at a
   | succ n e=>
    intro k a;rw[OO,List.flatten_cons];rcases fl k zs.size with h | h
    ·rw[jU (by simpa using h),KK h]
    rw[gU (by simpa using h),BX,e (k - zs.size) (by rw[mo]at a;omega)];congr 1;rw[<-Nat.mod_eq_sub_mod h]
  rw[this n k a];simp[b]
 rw[xZ (by simpa using a),xZ (by simpa using a)]
def Iy{t:TypeId}{n:Nat}(O:gS M ι g w){f:List (Nat × AV)}{qs:Array (Nat × Value)}{b:bj}(h:mkSlice P g t n f=some b)(V:f.length=qs.toList.length)
 (hp : ∀(i:Nat) p q,f[i]?=some p->qs.toList[i]?=some q->p.1=q.1/\VR M ι p.2 q.2) :
 b.arr=true/\b.gR=false/\b.es.length=n /\∃e arr,(Instr.buildSlice t n qs).run P w = .ok (.slice (some ⟨w.heap.size,0,none⟩) n n) (w.alloc (.cells arr e))/\arr.size=n * b.esz /\
  Row (lz M ι g w (ct g (f.map (·.2)))) b.esz b.es arr.toList:=by
 unfold mkSlice at h;split at h;·cases h
 rename_i e Q;split at h
 ·rename_i R z s B I E;obtain⟨T,h⟩:=eY.1 h;obtain⟨X,W,U,J,A⟩:=T;simp only[bI]at h;obtain⟨es,C,rfl⟩:=h;obtain⟨it,u,v,y,K⟩:=th I;obtain⟨Y,j,N⟩:=vQ E;rw[v]at j;cases j;have l:=jB (M:=lz M ι g w (ct g (f.map (·.2)))) (ι:=dO) K;have x:u.cells.size=s:=by have:=l.cells.1;simp at this;omega
  have c:=Row.replicate l U J n;obtain⟨L,H⟩:=K7 O B V hp;have d:Row (lz M ι g w (ct g (f.map (·.2)))) s (List.replicate n z) ((Array.range (n * s)).map (u.cells[· % u.cells.size]!)).toList:=(by have:=xk (zs:=u.cells) (n:=n) (by omega);rw[x]at this;rw[x,this];exact c);obtain⟨G,k,S,F⟩:=DY R qs.toList (List.replicate n z) es _ C d L H (by
   intro p o;simp only[gf,bo,iQb]at A;exact⟨(A p o).1,by simp only[gf];exact(A p o).2⟩)
  refine⟨rfl,rfl,by simpa using G,e,k,?_,?_,F⟩
  ·have D : ¬16777216<n * s:=(by omega);have a:Instr.fill (λi=>some (i * s,s)) ((Array.range (n * s)).map ((if n * s=0 then #[] else u.cells)[· % (if n * s=0 then #[] else u.cells).size]!)) qs.toList=some k:=by
    rw[<-S];congr 1;by_cases h:n * s=0;·simp[h]
    rw[if_neg h]
   simp only[Instr.buildSlice,iQf,bu (gX Q),iQd,cO E,gt_iff_lt];rw[if_neg D];by_cases m:n * s=0;·rw[if_pos m]at a ⊢;simp only[pure_bind];rw[a];simp[newRow]
   rw[if_neg m]at a ⊢;simp only[iQf,zeroValue,typeInfo,v,y,run_program,iQd,iQj,a];simp[newRow]
  rw[<-BX,F.len,G];simp
 cases h
def FA{P:Program}{g:cV}{t:TypeId}{n:Nat}{a:List (Nat × AV)}{b:bj}(h:mkSlice P g t n a=some b):0<b.esz:=by
 unfold mkSlice at h;split at h;·cases h
 split at h;·obtain⟨c,h⟩:=eY.1 h;obtain⟨_,_,rfl⟩:=bI.1 h;exact c.1
 cases h
def Ij(v:gS M ι g w)(F:r.k=0)(E:ι r=none){d:Bool}{t:TypeId}{n:Nat}{l:List (Nat × AV)}{qs:Array (Nat × Value)}{x:AV}{bs:List bj}
 (h:gx P d g r t n (some l)=some (x,bs)) (G:l.length=qs.toList.length)
 (hp : ∀(i:Nat) p q,l[i]?=some p->qs.toList[i]?=some q->p.1=q.1/\VR M ι p.2 q.2) :
 ∃u w',(Instr.buildSlice t n qs).run P w = .ok u w'/\j4 M ι g w r x bs u w':=by
 simp only[gx]at h;obtain⟨y,h⟩:=eY.1 h;simp only[bI]at h;obtain⟨b,B,h⟩:=h;obtain⟨H,I,A,e,arr,C,D,z⟩:=Iy v B G hp;have j:=NN y;obtain⟨f,_⟩:=A0 (R:=ct g (l.map (·.2))) v;rw[j]at f;have a:Eg w (w.alloc (.cells arr e)) (.cells arr e (0,0)):=⟨rfl,rfl,rfl,rfl⟩;refine⟨_,_,C,j4.after j v ?_⟩;have s:b=⟨b.esz,b.es,true,false⟩:=by cases b;simp_all
 cases d with| true=>simp at h;obtain⟨rfl,rfl⟩:=h;have:=Ui (r:=r) f a z (λk u m=>by simpa using m) (c:=n) (by omega) (cap:=some n) (by intro k o;cases o;rfl);rw[A]at this;exact this| false=>simp at h;obtain⟨rfl,rfl⟩:=h;have:=vB f F E a z (λk u m=>by simpa using m) (n:=n) (c:=n) D (C6.zero _ _) (by omega) (cG _) (cap:=some n) (by intro k o;cases o;rfl);rw[A,<-s]at this;exact this (FA B)
end
end
section
section
variable{P:Program}{M:Mem}{ι:Map}{g:cV}{w:World}{r:Ref}
inductive App (P:Program) (w:World) (t':Option TypeId) (x:Value) (e z:Nat) (n:Nat) (us:List Value):Prop
 | src {d:TypeDesc} (ht:t'.bind P.underlying=some d) (hd : ∀k,d ≠ .int k) (hl : ∀w':World,(Builtin.lenOf x).run P w' = .ok n w')
  (hf : ∀w':World,w'.heap=w.heap->(Builtin.firstCells z n x).run P w' = .ok us.toArray w')
 | zeros {k kx:IntKind} (u:Value) (ht:t'.bind P.underlying=some (.int k)) (hx:x = .int kx n) (hn:n<=aJ) (hu : ∀w':World,(zeroValue e).run P w' = .ok u w') (hz:u.cells.size=z)
  (hus:us=(List.replicate n u.cells.toList).flatten)
def Ev{n:Nat}(h:n<=aJ):IntKind.i64.wrap (n:Int)=n:=by
 unfold aJ at h;exact iQa n ⟨by omega,by omega⟩
def Fh{u:Value}{n:Nat}:(Builtin.zeroCells u.cells n).toList=(List.replicate n u.cells.toList).flatten:=by
 unfold Builtin.zeroCells;rcases Et u.cells.size with h | h
 ·have:u.cells.toList=[]:=by simpa using Mm h
  simp[h,this]
 exact xk h
def F1{h:Array TypeId}{t:TypeId}{ty:TypeId}(p:h[0]?=some t){e z by':Nat}(n:P.underlying t=some (.slice e))(m:aE P e=some z)(o:gP P e=some by')
 {a:Option Addr} {len c:Nat} (f:len<=c) {x:Value} (v:App P w h[1]? x e z 0 []) :
 (Builtin.append_ h ty #[.slice a len c,x]).run P w = .ok (.slice a len c) w:=by
 simp only[gP,bI]at o;obtain⟨i,hi,rfl⟩:=o;cases v with
 | src hd hm E s=>
  rename_i d;simp only[iF]at hd;obtain⟨t',b,hd⟩:=hd;have l:=s w rfl;have j:(match d with | .int _=>true | _=>false)=false:=by cases d<;>first | rfl | exact absurd rfl (hm _)
  cases a<;>simp[j,Builtin.append_,p,b,bu n,bu hd,cO m,E,f,l,storeCells]
 | zeros u hd y C A D B=>
  rename_i k kx;subst y;simp only[iF]at hd;obtain⟨t',b,hd⟩:=hd;have q:IntKind.i64.wrap 0=0:=by simpa using Ev C
  cases a<;>simp[Builtin.append_,p,b,bu n,bu hd,cO m,asInt,asIntOf,q,typeInfo,hi,f,storeCells]
def vU{N:Array TypeId}{t:TypeId}{ty:TypeId}(S:N[0]?=some t){e z by':Nat}(I:P.underlying t=some (.slice e))(L:aE P e=some z)(T:gP P e=some by')
 {C:Value} (m : ∀w':World,(zeroValue e).run P w' = .ok C w') (V:C.cells.size=z)
 {a:Option Addr} {len c n:Nat} {x:Value} {olds us:List Value} (s : ∀w':World,w'.heap=w.heap->(Builtin.firstCells z len (.slice a len c)).run P w' = .ok olds.toArray w')
 (hA:App P w N[1]? x e z n us) (J:c<len+n) (f:(len+n) * by'<=aJ) (D:0<by') :
 ∃cap w',len+n<=cap/\(Builtin.append_ N ty #[.slice a len c,x]).run P w = .ok (.slice (some ⟨w.heap.size,0,none⟩) (len+n) cap) w' /\
  Eg w w' (.cells (olds.toArray++us.toArray++Builtin.zeroCells C.cells (cap - (len+n))) e (0,0)):=by
 simp only[gP,bI]at T;obtain⟨i,hi,rfl⟩:=T;have j : ¬(9223372036854775807<(len:Int)+(n:Int)):=by
  have:(len+n) * 1<=(len+n) * i.bytes:=Nat.mul_le_mul_left _ D;unfold aJ at f;omega
 have o : ¬(281474976710656<Builtin.nextslicecap (len+n) c * i.bytes):=by
  have:=growslice_fits (need:=len+n) (old:=c) (bytes:=i.bytes) J (by unfold aJ at f;exact f);omega
 have p : ¬(len+n<=c):=by omega
 have b:=s w.drew rfl;obtain⟨A,O⟩ : ∃A,A=olds.toArray:=⟨_,rfl⟩;rw[<-O]at b ⊢;refine⟨grownCap w (len+n) c e,w.drew.alloc (.cells (A++us.toArray++Builtin.zeroCells C.cells (grownCap w (len+n) c e - (len+n))) e (0,0)),grownCap_ge _ _ _ _,?_,⟨rfl,rfl,rfl,rfl⟩⟩;cases hA with
 | src hd hm hl Z=>
  rename_i d;simp only[iF]at hd;obtain⟨t',l,hd⟩:=hd;have y:=Z w.drew rfl;obtain⟨B,R⟩ : ∃B,B=us.toArray:=⟨_,rfl⟩;rw[<-R]at y ⊢;have Q:(match d with | .int _=>true | _=>false)=false:=by cases d<;>first | rfl | exact absurd rfl (hm _)
  simp[Q,Builtin.append_,S,l,bu I,bu hd,cO L,hl,p,y,b,j,o,typeInfo,hi,Question.forced,m,newRow,grownCap]
 | zeros u hd W X F K G=>
  rename_i k kx;subst W;simp only[iF]at hd;obtain⟨t',l,hd⟩:=hd;have U:=Ev X;have Y:u=C:=by
   have H:=F w;rw[m w]at H;cases H;rfl
  subst Y;have E : ¬((n:Int)<0):=by omega
  have q : ¬(281474976710656<(n:Int) * (i.bytes:Int)):=by
   have H:n * i.bytes<=(len+n) * i.bytes:=mB _ (by omega);unfold aJ at f;have h2:((n * i.bytes:Nat):Int)=(n:Int) * (i.bytes:Int):=by simp
   omega
  have v:us.toArray=if n * z=0 then #[] else Builtin.zeroCells u.cells n:=by
   rw[G,<-Fh];by_cases h:n * z=0
   ·rw[if_pos h];have:(Builtin.zeroCells u.cells n).size=0:=by rw[iQM,K,h]
    rw[Array.toArray_toList];exact Mm this
   rw[if_neg h]
  rw[v];by_cases h:n * z=0;·simp[Builtin.append_,S,l,bu I,bu hd,cO L,asInt,asIntOf,U,E,q,typeInfo,hi,p,j,o,h,b,Question.forced,m,newRow,grownCap]
  simp[Builtin.append_,S,l,bu I,bu hd,cO L,asInt,asIntOf,U,E,q,typeInfo,hi,p,j,o,h,b,Question.forced,m,newRow,grownCap]
def Cf{G:Array TypeId}{t:TypeId}{ty:TypeId}(I:G[0]?=some t){e z by':Nat}(B:P.underlying t=some (.slice e))(F:aE P e=some z)(K:gP P e=some by')
 {b o len c n:Nat} {x:Value} {us:List Value} (Q:App P w G[1]? x e z n us) (m:len+n<=c) (p:(len+n) * by'<=aJ)
 {arr:Array Value} {T:TypeId} {fz:Nat × Nat} (v:w.heap[b]?=some (.cells arr T fz)) (N:o+len * z+us.length<=arr.size) (C : ∀j,j<arr.size ->¬(fz.1<=j/\(j<fz.2\/fz.2<fz.1))) (J : ∀u∈us,u.oneCell'=true) :
 (Builtin.append_ G ty #[.slice (some ⟨b,o,none⟩) len c,x]).run P w = .ok (.slice (some ⟨b,o,none⟩) (len+n) c) (ck w b (.cells (cP arr (o+len * z) us) T fz)):=by
 simp only[gP,bI]at K;obtain⟨i,hi,rfl⟩:=K;have f:=nD (P:=P) (o+len * z) us 0 arr w v (by simpa using N) C J;rw[uE]at f;cases Q with
 | src hd hm S R=>
  rename_i d;simp only[iF]at hd;obtain⟨t',l,hd⟩:=hd;have E:=R w rfl;have H:(match d with | .int _=>true | _=>false)=false:=by cases d<;>first | rfl | exact absurd rfl (hm _)
  simp[H,Builtin.append_,I,l,bu B,bu hd,cO F,S,m,E,ic,f]
 | zeros u hd L O y D A=>
  rename_i k kx;subst L;simp only[iF]at hd;obtain⟨t',l,hd⟩:=hd;have v:=Ev O;have s : ¬((n:Int)<0):=by omega
  have q : ¬(281474976710656<(n:Int) * (i.bytes:Int)):=by
   have J:n * i.bytes<=(len+n) * i.bytes:=mB _ (by omega);unfold aJ at p;have U:((n * i.bytes:Nat):Int)=(n:Int) * (i.bytes:Int):=by simp
   omega
  have a:us=(if n * z=0 then #[] else Builtin.zeroCells u.cells n).toList:=by
   rw[A,<-Fh];by_cases h:n * z=0
   ·rw[if_pos h];have:(Builtin.zeroCells u.cells n).size=0:=by rw[iQM,D,h]
    rw[Mm this]
   rw[if_neg h]
  by_cases h:n * z=0;·rw[if_pos h]at a;simp only[Array.toList_empty]at a;rw[a]at f ⊢;simp[Builtin.append_,I,l,bu B,bu hd,cO F,asInt,asIntOf,v,s,q,typeInfo,hi,m,h,ic,f]
  rw[if_neg h]at a;rw[a]at f ⊢;simp[Builtin.append_,I,l,bu B,bu hd,cO F,asInt,asIntOf,v,s,q,typeInfo,hi,m,h,y,ic,f]
end
end
section
section
variable{P:Program}{M:Mem}{ι:Map}{g:cV}{w:World}{r:Ref}
def Td{t:TypeId}{y z x:AV}{p o:Value}(l:VR M ι y p)(m:VR M ι z o){bs:List bj}(h:xD P t (some y) (some z)=some (x,bs)) :
 bs=[] /\∃u,(Instr.index t p o).run P w = .ok u w/\VR M ι x u:=by
 simp only[xD,eD]at h;split at h
 ·rename_i k cs i a;injection a with a
  subst a;obtain⟨F,rfl⟩:=yR m i;split at h
  ·rename_i n e E;split at h;·rename_i s c;obtain⟨d,h⟩:=eY.1 h;simp only[iL,bI]at h;obtain⟨q,j,he⟩:=h;cases he;obtain⟨G,rfl,f⟩:=l.R8;obtain⟨u,B,A⟩:=Ry (w:=w) f j;exact⟨rfl,u,by simp[Instr.index,asIntOf,bu (Gf E),d.1,d.2,cO c,B],A⟩
   cases h
  cases h
 ·rename_i k s i c;injection c with c
  subst c;obtain⟨F,rfl⟩:=yR m i;cases l;obtain⟨d,h⟩:=eY.1 h;simp only[iL,bI]at h;obtain⟨q,⟨b,C,rfl⟩,he⟩:=h;cases he;refine⟨rfl,.int .u8 b.toNat,?_,.v rfl⟩;have D:=d.2;simp[Instr.index,asIntOf,bu (uj d.1),D,C]
 cases h
def V6{f:Fn}{a b:List AV}{k m:List Value}(l:mc M ι a k)(j:mc M ι b m){x:AV}{bs:List bj}(h:Ai f (some a) (some b)=some (x,bs)) :
 bs=[]/\VR M ι x (.func f k.toArray m.toArray):=by
 simp only[Ai,ef,tT]at h;obtain⟨rfl,rfl⟩:=h;exact⟨rfl,.fn (by simpa using l.1) (by simpa using j.1) (λi c u d e=>l.2 i c u d (by simpa using e)) (λi c u d e=>j.2 i c u d (by simpa using e))⟩
def V0{tm:List AV}{a:Act}(h:TR M ι tm a){c x y:Operand}{z:AV}{bs:List bj}(d:Ie (aP tm) c x y=some (z,bs)) :
 bs=[] /\∃u,(do pure (if <-asBool (a.eval c) then a.eval x else a.eval y):Sem Value).run P w = .ok u w/\VR M ι z u:=by
 unfold Ie at d;split at d;·rename_i e;simp only[iF]at e;obtain⟨j,i,b⟩:=e;have:=BL (aX h i) b;simp only[iL,bI]at d;obtain⟨k,f,he⟩:=d;cases he;exact⟨rfl,_,by simp[this,asBool],aX h f⟩
 ·rename_i e;simp only[iF]at e;obtain⟨j,i,b⟩:=e;have:=BL (aX h i) b;simp only[iL,bI]at d;obtain⟨k,f,he⟩:=d;cases he;exact⟨rfl,_,by simp[this,asBool],aX h f⟩
 cases d
def Zo{j:Array TypeId}{ty:TypeId}{y x:AV}{m:Value}(f:VR M ι y m){bs:List bj}(h:Zp P j[0]? y=some (x,bs)) :
 bs=[] /\∃u,(Builtin.cap_ j ty #[m]).run P w = .ok u w/\VR M ι x u:=by
 unfold Zp at h;split at h;·rename_i e b;obtain⟨t,d,b⟩:=iF.1 b;cases h;cases f;exact⟨rfl,goInt 0,by simp[Builtin.cap_,d,bu (gX b)],.v rfl⟩
 ·rename_i e z es k b;obtain⟨t,d,b⟩:=iF.1 b;cases h;cases f with | bg cell n p i hm o E=>
  rename_i a c;have:=i k rfl;subst this;exact⟨rfl,goInt c,by simp[Builtin.cap_,d,bu (gX b)],.v rfl⟩
 ·rename_i e r s len k b;obtain⟨t,d,b⟩:=iF.1 b;cases h;cases f with | bk C B n D p A i q=>
  rename_i l a c;have:=i k rfl;subst this;exact⟨rfl,goInt c,by simp[Builtin.cap_,d,bu (gX b)],.v rfl⟩
 cases h
def Zm{k:Array TypeId}{ty:TypeId}{y x:AV}{l:Value}(c:VR M ι y l){bs:List bj}(h:JB P k[0]? y=some (x,bs)) :
 bs=[] /\∃u,(Builtin.len_ k ty #[l]).run P w = .ok u w/\VR M ι x u:=by
 unfold JB at h;split at h;·cases h
 rename_i t b;split at h
 ·rename_i n e m;injection h with h
  injection h with d f
  subst d;subst f;exact⟨rfl,goInt n,by simp[Builtin.len_,b,bu (Gf m)],.v rfl⟩
 split at h
 ·rename_i j;split at h
  ·injection h with h
   injection h with d f
   subst d;subst f;cases c;exact⟨rfl,goInt _,by simp[Builtin.len_,b,bu (uj j)],.v rfl⟩
  cases h
 obtain⟨j,h⟩:=eY.1 h;obtain⟨e,he⟩:=gT.1 j;have i:=gX he;simp only[bI]at h;obtain⟨n,a,h⟩:=h;injection h with d f
 subst d;subst f;refine⟨rfl,goInt n,?_,.v rfl⟩;unfold uW at a;split at a;·injection a with a;subst a;cases c;simp[Builtin.len_,b,bu i]
 ·injection a with a;subst a;cases c;simp[Builtin.len_,b,bu i]
 ·injection a with a;subst a;cases c;simp[Builtin.len_,b,bu i]
 ·injection a with a;subst a;cases c;simp[Builtin.len_,b,bu i]
 cases a
def Ky{x:AV}{u:Value}{b:UInt8}(a:VR M ι x u)(h:byteOf x=some b) : ∃n:Int,u = .int .u8 n/\b=UInt8.ofNat n.toNat:=by
 unfold byteOf at h;split at h
 ·injection h with h
  cases a;exact⟨_,rfl,h.symm⟩
 cases h
def Qk : ∀(a:List Int)(s:ByteArray),a.foldl (λr n=>r.push (UInt8.ofNat n.toNat)) s=⟨s.data++(a.map λn=>UInt8.ofNat n.toNat).toArray⟩:=by
 intro a;induction a with
 | nil=>intro s;simp
 | cons n a b=>intro s;rw[wS,b];simp[ByteArray.push]
def Ni(J:gS M ι g w)(hr:r.k=0)(hq:ι r=none){src dst:TypeId}{y x:AV}{u0:Value}(Q:VR M ι y u0){bs:List bj}(h:bY P g r src dst (some y)=some (x,bs)) :
 ∃u w',(Go.convert src dst u0).run P w = .ok u w'/\j4 M ι g w r x bs u w':=by
 unfold bY at h;split at h
 ·rename_i e;injection e with e
  subst e;cases Q;obtain⟨p,h⟩:=eY.1 h;simp only[bo]at p;obtain⟨e,E,D⟩:=rZ p.1;injection h with h
  injection h with G S
  subst G;subst S;exact⟨.string .empty,w,by rw[iQB w src dst e none 0 0 E D (uj p.2)];rfl,j4.same J (.v rfl)⟩
 ·rename_i s e;injection e with e
  subst e;cases Q;split at h
  ·rename_i p;simp only[bo]at p;injection h with h
   injection h with G S
   subst G;subst S;exact⟨.string s,w,by simp[Go.convert,bu (uj p.1),bu (uj p.2)],j4.same J (.v rfl)⟩
  split at h
  ·rename_i p;simp only[bo]at p;obtain⟨hrm,h⟩:=eY.1 h;injection h with h
   injection h with G S
   subst G;subst S;obtain⟨e,E,D⟩:=rZ p.2;have hrun:=run_bytes_of_string (P:=P) w src dst e s (uj p.1) E D;have hcap:=grownCap_ge w s.size 0 e;have hrow:Row M 1 (s.data.toList.map λb=>AV.v (.int .u8 b.toNat)) (s.data.toList.map λb=>Value.int .u8 b.toNat):=by
    refine⟨by simp,?_,?_,?_⟩;·intro e I;simp only[nO]at I;obtain⟨b,_,rfl⟩:=I;rfl
    ·intro x hx;simp only[nO]at hx;obtain⟨b,_,rfl⟩:=hx;rfl
    intro i j e x I hx;simp only[mr,bI]at I;obtain⟨b,hb,rfl⟩:=I;cases j with
    | succ j=>simp[AV.cells]at hx
    | zero=>simp[AV.cells]at hx;subst hx;exact⟨.int .u8 b.toNat,by simp[hb],.v rfl⟩
   have hsize:(bytesRow s (grownCap w s.size 0 e)).size=grownCap w s.size 0 e:=(by have:s.data.size=s.size:=rfl;simp[bytesRow];omega);have:=vB J hr hq (w':=w.drew.alloc (.cells (bytesRow s (grownCap w s.size 0 e)) e ((bytesRow s (grownCap w s.size 0 e)).size,(bytesRow s (grownCap w s.size 0 e)).size+1)))
    ⟨rfl,rfl,rfl,rfl⟩ hrow (by
     intro k u hu;have F:=(ee.1 hu).1;unfold bytesRow;rw[OY (by simpa using F)];rw[<-hu];simp) (n:=grownCap w s.size 0 e) (c:=grownCap w s.size 0 e) (by rw[hsize];simp) ⟨by intro o ho h;simp only at h;omega,λh=>absurd h (by decide)⟩ (by simpa using hcap) (cG _) (cap:=none) (by intro k F;cases F) Nat.one_pos
   simp only[AF,BX]at this;exact⟨_,_,hrun,this⟩
  cases h
 ·rename_i v hne1 hne2 e;injection e with e
  subst e;simp only[iL,bI,iF]at h;obtain⟨z,⟨u,hu,hz⟩,I⟩:=h;cases I;cases Q;exact⟨u,w,oK hu w,j4.same J (oL hz)⟩
 ·rename_i y' hne1 hne2 K e;injection e with e
  subst e;split at h
  ·rename_i p;simp only[bo]at p;obtain⟨e,E,D⟩:=rZ p.1;split at h
   ·rename_i z es d;simp only[bI]at h;obtain⟨l,hl,h⟩:=h;injection h with G S
    subst G;subst S;have hz1:z=1\/es=[]:=by
     cases es with| nil=>exact .inr rfl| cons e0 es0=>
      left;obtain⟨b,_,hb⟩:=lZ hl 0 e0 rfl;unfold byteOf at hb;split at hb
      ·rename_i n;cases Q with
       | bg cell U hcc' F hm I hh=>simp only[cy,ef,tT]at d;obtain⟨rfl,rfl⟩:=d;have:=I _ (j6 ..);simpa [AV.cells] using this.symm
       | bk R hb' U ha hcc' hn F H=>
        rename_i r1 off1 LJ cap1 l1 a1 c1;simp only[cy]at d;split at d
        ·rename_i b1 L;obtain⟨N,d⟩:=eY.1 d;injection d with d
         injection d with X h4
         have C:=J.at R H L;have hmem:(AV.v (.int .u8 n))∈b1.es:=by
          have:(AV.v (.int .u8 n))∈(b1.es.drop off1).take LJ:=by rw[h4];exact j6 ..
          exact Dc (xY this)
         have:=C.cells _ hmem;rw[<-X,<-this];rfl
        cases d
       | v hv=>exact absurd rfl (K _)
       | _=>simp[cy]at d
      cases hb
    have hlen:=hJ hl;obtain⟨a,n,c,rfl,hn,A⟩ : ∃a n c,u0 = .slice (some a) n c/\es.length=n /\∀j,j<n ->∃b:Int,w.cell? (a.add j)=some (.int .u8 b)/\l[j]?=some (UInt8.ofNat b.toNat):=by
     rcases hz1 with rfl | rfl
     ·obtain⟨us,hsrc⟩:=oS (P:=P) J Q (Nat.one_pos) d;cases Q with
      | bg cell U p F hm I hh=>
       rename_i esz es' cap a c;simp only[cy,ef,tT]at d;obtain⟨rfl,rfl⟩:=d;refine⟨a,es'.length,c,rfl,rfl,?_⟩;intro j t;have O:=dI t;obtain⟨b,L,B⟩:=lZ hl j _ O;have hcl:=I _ (eE t);have Y:es'[j].cells=[es'[j]]:=by
        unfold byteOf at B;split at B;·rename_i Z;rw[Z];rfl
        cases B
       have hvr:=hh j 0 _ _ O (show es'[j].cells[0]?=some es'[j] by rw[Y];rfl);obtain⟨nb,hnb,rfl⟩:=Ky hvr B;refine⟨nb,?_,L⟩;have:=J.mem _ _ _ (hm j 0 t (by omega)).1;rw[kA (U.resolve_right (by intro e;subst e;simp at t)),ic];rw[hnb]at this;simpa using this
      | bk R hb' U ha p hn F H=>
       rename_i r1 m len cap l1 a c;simp only[cy]at d;split at d
       ·rename_i b1 L;obtain⟨N,d⟩:=eY.1 d;injection d with d
        injection d with X h4
        subst h4;have C:=J.at R H L;obtain⟨g1,g2⟩:=getElems b1.es m len N.2;refine⟨a,len,c,rfl,g1,?_⟩;intro j t;have O:((b1.es.drop m).take len)[j]?=some b1.es[m+j]:=by rw[g2 j t];exact dI (by omega)
        obtain⟨b,hb1',B⟩:=lZ hl j _ O;have hcl:=C.cells _ (eE (by omega:m+j<b1.es.length));have Y:b1.es[m+j].cells=[b1.es[m+j]]:=by
         unfold byteOf at B;split at B;·rename_i Z;rw[Z];rfl
         cases B
        obtain⟨u,hu1,hu2,hu3⟩:=C.cell (m+j) (dI (by omega)) 0 b1.es[m+j] (by rw[Y];rfl);obtain⟨nb,hnb,rfl⟩:=Ky hu3 B;refine⟨nb,?_,hb1'⟩;have hoff:a.off=m * l1.esz:=by
         rcases ha with h | h
         ·omega
         exact h
        rw[kA U,ic,hb',hoff,C.esz,X];rw[X,hnb]at hu1;simp only[Nat.mul_one,uE]at hu1 ⊢;exact hu1
       cases d
      | v hv=>exact absurd rfl (K _)
      | _=>simp[cy]at d
     cases Q with
     | bg cell U p F hm I hh=>rename_i esz es' cap a c;simp only[cy,ef,tT]at d;obtain⟨rfl,rfl⟩:=d;exact⟨a,0,c,rfl,rfl,λj t=>by omega⟩
     | bk R hb' U ha p hn F H=>
      rename_i r1 m len cap l1 a c;simp only[cy]at d;split at d
      ·obtain⟨N,d⟩:=eY.1 d;injection d with d
       injection d with X h4
       have:len=0:=(by have:=(getElems _ m len N.2).1;rw[h4]at this;simpa using this.symm);exact⟨a,len,c,rfl,by simp[this],λj t=>by omega⟩
      cases d
     | v hv=>exact absurd rfl (K _)
     | _=>simp[cy]at d
    refine⟨.string ⟨l.toArray⟩,w,?_,j4.same J (.v rfl)⟩;rw[iQB w src dst e (some a) n c E D (uj p.2)];let f:Nat->Int:=λj=>if h:j<n then (A j h).choose else 0
    have hf1 : ∀j,j<n->w.cell? (a.add j)=some (.int .u8 (f j)):=λj t=>by simp only[f,dif_pos t];exact(A j t).choose_spec.1
    have hf2 : ∀j,j<n->l[j]?=some (UInt8.ofNat (f j).toNat):=λj t=>by simp only[f,dif_pos t];exact(A j t).choose_spec.2
    have W:=run_loadCells (P:=P) w a n (λj => .int .u8 (f j)) (λj t=>hf1 j t);have hns:(loadCells a n).run P w = .ok (((List.range n).map f).map (Value.int .u8)).toArray w:=by rw[W];simp
    rw[run_bytesToString w a n c _ hns,Qk];have:((List.range n).map f).map (λn=>UInt8.ofNat n.toNat)=l:=by
     apply KQ;intro j;rcases fl j n with t | t
     ·rw[hf2 j t];simp[t]
     rw[xZ (by simpa using t),xZ (by omega)]
    rw[this];have V:ByteArray.empty.data = #[]:=rfl;rw[V];simp
   cases h
  replace h:=eY.1 h;obtain⟨p,h⟩:=h;simp only[bo,iQl]at p;obtain⟨V,p⟩:=p;subst V;obtain⟨e,E,D⟩:=rZ p;cases y with
  | bk r' m len cap=>
   obtain⟨k,F,hk1,h⟩ : ∃k,g r'=some k/\k.esz=1/\some (AV.bk r' m len cap,([]:List bj))=some (x,bs):=by
    cases F:g r' with| none=>simp only[F]at h;cases h| some k=>simp only[F]at h;obtain⟨G,h⟩:=eY.1 h;exact⟨k,rfl,G,h⟩
   injection h with h;injection h with G S;subst G;subst S
   have hy0:=Q;cases Q with | bk hrl hbb hsp ha N hn hkk H=>
   rename_i l a c;have C:=J.at hrl H F;obtain⟨arr,T,fz,hh,hsz,hfz,hcells⟩:=C.heap;have hlt:=C.lt;have hfr:w.freeze ⟨a.block,arr.size,none⟩ 1=ck w l.b (.cells arr T (if fz.1 == fz.2 then (arr.size,arr.size+1) else (min fz.1 arr.size,max fz.2 (arr.size+1)))):=by
    unfold World.freeze ck;rw[if_neg (by decide)];congr 1;apply Fj;intro i;rw[GU,hbb];by_cases hi:l.b=i;·subst hi;rw[if_pos rfl,hh,Gy hlt];rfl
    rw[if_neg hi,BZ hi]
   have hfz' : ∀o,o<arr.size ->¬((if fz.1 == fz.2 then (arr.size,arr.size+1) else (min fz.1 arr.size,max fz.2 (arr.size+1)):Nat × Nat).1<=o/\(o<(if fz.1 == fz.2 then (arr.size,arr.size+1) else (min fz.1 arr.size,max fz.2 (arr.size+1)):Nat × Nat).2\/(if fz.1 == fz.2 then (arr.size,arr.size+1) else (min fz.1 arr.size,max fz.2 (arr.size+1)):Nat × Nat).2<(if fz.1 == fz.2 then (arr.size,arr.size+1) else (min fz.1 arr.size,max fz.2 (arr.size+1)):Nat × Nat).1)):=by
    intro o ho;split;·simp only;omega
    rename_i hne;simp only[iQl]at hne;have G:arr.size<=fz.1:=by
     rcases fl fz.1 arr.size with h | h
     ·exact absurd ⟨cG _,by omega⟩ (hfz.1 fz.1 h)
     exact h
    simp only;omega
   obtain⟨X,h4⟩:=J.mark F hrl hh hfr ⟨hfz',λG=>by omega⟩;refine⟨.slice (some a) len c,_,?_,M,ι,hy0,by rw[nV];exact X,by rw[nV];exact h4,λq hq _=>hq⟩;have hsh:w.shape? a.block=some (T,arr.size):=(by unfold World.shape?;rw[hbb,hh]);simp[Go.convert,bu E,bu D,markStringish,hsh]
  | _=>cases h
 rename_i e;cases e
def V2(hS:gS M ι g w)(hr:r.k=0)(hq:ι r=none){t:TypeId}{y z x:AV}{X U:Value}(hy:VR M ι y X)(hz:VR M ι z U){bs:List bj}(h:yL P r t (some y) (some z)=some (x,bs)) :
 ∃u w',(Instr.makeSlice t X U).run P w = .ok u w'/\j4 M ι g w r x bs u w':=by
 unfold yL at h;simp only[eD]at h;split at h
 ·rename_i e l c Z hl hc;obtain⟨kl,rfl⟩:=yR hy hl;obtain⟨kc,rfl⟩:=yR hz hc;split at h
  ·rename_i zv s b Q O V;obtain⟨p,h⟩:=eY.1 h;obtain⟨W,c2,c3,c4,c5,c6,Y⟩:=p;injection h with h
   injection h with h1 h2
   subst h1;subst h2;obtain⟨it,u,j,R,hu⟩:=th Q;obtain⟨i',E,hsz⟩:=vQ O;rw[j]at E;cases E;simp only[gP,j,Option.map_some,ef]at V;have q:=jB (M:=M) (ι:=dO) hu;have I:u.cells.size=s:=by have:=q.cells.1;simp at this;omega
   obtain⟨m,rfl⟩:=Gx W;obtain⟨a,rfl⟩:=Gx (Int.le_trans W c2);have J:IntKind.i64.wrap (m:Int)=m:=iQa _ ⟨by omega,by omega⟩;have F:IntKind.i64.wrap (a:Int)=a:=iQa _ ⟨by omega,by omega⟩;have G : ¬((a:Int)<0):=by omega
   have o : ¬(281474976710656<(it.bytes:Int) * (a:Int)):=(by rw[V,Int.mul_comm];have e1:((aJ:Nat):Int)=140737488355328:=rfl;omega);have C : ¬((m:Int)<0):=(by omega);have L : ¬((a:Int)<(m:Int)):=(by omega);have i:=xk (zs:=u.cells) (n:=a) (by omega);rw[I]at i;have f:((Array.range (a * s)).map ((if a * s=0 then #[] else u.cells)[· % (if a * s=0 then #[] else u.cells).size]!)).toList=(List.replicate a u.cells.toList).flatten:=by
    by_cases K:a * s=0
    ·have T:a=0:=by
      rcases Nat.mul_eq_zero.1 K with h | h
      ·exact h
      omega
     simp[T]
    rw[if_neg K,I];exact i
   obtain⟨arr,d⟩ : ∃arr,arr=(Array.range (a * s)).map ((if a * s=0 then #[] else u.cells)[· % (if a * s=0 then #[] else u.cells).size]!):=⟨_,rfl⟩;rw[<-d]at f;have B:=Row.replicate q c6 Y a;have A:arr.size=a * s:=by rw[<-BX,f];have:=B.len;simpa using this
   have H:(Instr.makeSlice t (.int kl m) (.int kc a)).run P w = .ok (.slice (some ⟨w.heap.size,0,none⟩) m a) (w.alloc (.cells arr e)):=by
    subst d;by_cases K:a * s=0;·simp[Instr.makeSlice,bu (gX Z),asInt,asIntOf,typeInfo,j,J,F,G,o,C,L,cO O,K,newRow]
    simp[Instr.makeSlice,bu (gX Z),asInt,asIntOf,typeInfo,j,J,F,G,o,C,L,cO O,K,newRow,zeroValue,R]
   refine⟨_,_,H,?_⟩;have D:=Row.replicate q c6 Y m;have:=vB hS hr hq (w':=w.alloc (.cells arr e)) ⟨rfl,rfl,rfl,rfl⟩ D (by
    intro k v N;rw[<-Gw,f];have S:(List.replicate a u.cells.toList)=List.replicate m u.cells.toList++List.replicate (a - m) u.cells.toList:=by rw[UB];congr 1;omega
    rw[S,List.flatten_append,jU (ee.1 N).1];exact N) (n:=a) (c:=a) A (C6.zero _ _) (by simp;omega) (cG _) (cap:=none) (by intro k N;cases N) c5
   simpa using this
  cases h
 cases h
end
end
section
section
variable{P:Program}{M:Mem}{ι:Map}{g:cV}{w:World}{r:Ref}
def Ix(U:gS M ι g w){t':Option TypeId}{e z:Nat}(hz:aE P e=some z)(K:0<z){x:AV}{O:Value}(A:VR M ι x O){new:List AV}
 (Q : ¬((t'.bind P.underlying).isNone=true\/(t'.map (isInt P)).getD false≠isNum x)) (h:mK P g e x=some (z,new)) : ∃us,Row M z new us/\App P w t' O e z new.length us:=by
 have J : ∃d,t'.bind P.underlying=some d/\(isNum x=false ->∀k,d ≠ .int k)/\(isNum x=true ->∃k,d = .int k):=by
  have c : ¬(t'.bind P.underlying).isNone=true:=λh=>Q (.inl h);have b:(t'.map (isInt P)).getD false=isNum x:=wT.1 λh=>Q (.inr h);cases t' with
  | none=>simp at c
  | some t=>
   simp only[eD]at c ⊢;cases D:P.underlying t with
   | none=>simp[D]at c
   | some d=>
    simp only[Option.map_some,cB]at b;refine⟨d,rfl,?_,?_⟩;·intro E k s;subst s;rw[E]at b;simp[isInt,D]at b
    intro E;rw[E]at b;obtain⟨k,s⟩:=WO b;rw[D]at s;exact⟨k,by simpa using s⟩
 obtain⟨d,hd,l,C⟩:=J;unfold mK at h;split at h
 ·simp only[bI]at h;obtain⟨N,G,h⟩:=h;injection h with c b
  subst b;cases A;exact⟨[],Row.nil,.src hd (l rfl) (λw'=>rfl) (λw' _=>rfl)⟩
 ·rename_i k n;split at h
  ·rename_i wv N H G;obtain⟨f,h⟩:=eY.1 h;injection h with h
   injection h with c b
   subst c;subst b;obtain⟨Y,S,X,T⟩:=f;obtain⟨m,rfl⟩:=Gx Y;obtain⟨k',rfl⟩:=C rfl;cases A;obtain⟨u,o,y⟩:=yE H w;have F : ∀w':World,(zeroValue e).run P w' = .ok u w':=by
    intro w';obtain⟨Z,c,b⟩:=yE H w';obtain⟨it,v,p,j,I⟩:=th H;have V:(zeroValue e).run P w = .ok v w:=by simp[zeroValue,typeInfo,p,j]
    have W:(zeroValue e).run P w' = .ok v w':=(by simp[zeroValue,typeInfo,p,j]);rw[V]at o;cases o;exact W
   have I:=jB (M:=M) (ι:=dO) y;have B:u.cells.size=N:=by have:=I.cells.1;simp at this;omega
   refine⟨_,Row.replicate I X T m,?_⟩;rw[KP];exact .zeros (kx:=k) u hd (by simp) (by simpa using S) F B (by simp)
  cases h
 rename_i R q;have i:isNum x=false:=by
  unfold isNum;split;·exact absurd rfl (q _ _)
  rfl
 obtain⟨us,a⟩:=oS (P:=P) U A K h;refine⟨us,a.row,.src hd (l i) a.lenOf λw' L=>?_⟩;have:=a.first new.length w' (cG _) L;rwa [dq (by rw[a.len];exact cG _)]at this
def CD{e z:Nat}(f:aE P e=some z){y:AV}(c:eu P e=some y)(h:y.cells.length=z) : ∃u,(∀w':World,(zeroValue e).run P w' = .ok u w')/\u.cells.size=z:=by
 obtain⟨it,v,b,a,d⟩:=th c;refine⟨v,λw'=>by simp[zeroValue,typeInfo,b,a],?_⟩;have:=(jB (M:=λ_ _=>none) (ι:=dO) d).cells.1;simp at this;omega
def AY{olds us:List Value}{a:Value}{z n1 n2 cap:Nat}(e:olds.length=n1 * z)(f:us.length=n2 * z)(d:a.cells.size=z)(h:n1+n2<=cap) :
 (olds.toArray++us.toArray++Builtin.zeroCells a.cells (cap - (n1+n2))).size=cap * z /\
 ∀(k:Nat) u,(olds++us)[k]?=some u->(olds.toArray++us.toArray++Builtin.zeroCells a.cells (cap - (n1+n2)))[k]?=some u:=by
 constructor;·simp only[Array.size_append,List.size_toArray,iQM,d,e,f,<-mo];congr 1;omega
 intro k u c;have b:=(ee.1 c).1;rw[OY (by simpa using b)];simpa using c
def BE{a:Option Addr}{len c z:Nat}{es:List AV}{us:List Value}{u:Value}(d:u = .slice a len c)(e:es.length=len)(h:Src P M w u z es us) :
 ∀w':World,w'.heap=w.heap->(Builtin.firstCells z len (.slice a len c)).run P w' = .ok us.toArray w':=by
 intro w' b;have:=h.first es.length w' (cG _) b;rw[dq (by rw[h.len];exact cG _),d,e]at this;exact this
def Ik(G:gS M ι g w)(hr:r.k=0)(hq:ι r=none){Y:Array TypeId}{ty:TypeId}{s x y:AV}{us ux:Value}(R:VR M ι s us)(hx:VR M ι x ux){bs:List bj}
 (h:eG P g r Y[0]? Y[1]? s x=some (y,bs)) : ∃u w',(Builtin.append_ Y ty #[us,ux]).run P w = .ok u w'/\j4 M ι g w r y bs u w':=by
 unfold eG at h;split at h;·cases h
 rename_i e he;simp only[iF]at he;obtain⟨t,ht,he⟩:=he;have hu:=gX he;split at h;·cases h
 rename_i hc;split at h
 ·rename_i z by' zz L new hz hb hzz S;split at h;·cases h
  rename_i i;have V:L=z:=wT.1 λh=>i (.inl h);have D:0<z:=Aa λh=>i (.inr (.inl h));have hb0:0<by':=Aa λh=>i (.inr (.inr (.inl h)));have hzl:zz.cells.length=z:=wT.1 λh=>i (.inr (.inr (.inr h)));have hez':=V;subst V;obtain⟨W,A,hA⟩:=Ix (w:=w) G hz D hx hc S;have f:new=[] ->∀a len c,len<=c->us = .slice a len c->(Builtin.append_ Y ty #[us,ux]).run P w = .ok us w:=by
   intro E a len c hlc F;subst E;have:W=[]:=Ad (by rw[A.len];simp);subst this;rw[F];exact F1 ht hu hz hb hlc hA
  have fresh : ∀ {a:Option Addr} {len c:Nat} {es:List AV} {us0:List Value},us = .slice a len c->es.length=len->Row M L es us0 ->
   (∀w':World,w'.heap=w.heap->(Builtin.firstCells L len (.slice a len c)).run P w' = .ok us0.toArray w')->c<len+new.length->(len+new.length) * by'<=aJ ->
   ∃u w',(Builtin.append_ Y ty #[us,ux]).run P w = .ok u w'/\j4 M ι g w r (.bk r 0 (len+new.length) none) [⟨L,es++new,true,false⟩] u w':=by
   intro a len c es us0 F C q Q N d;obtain⟨zv,hzv,O⟩:=CD hz hzz hzl;obtain⟨cap,w',U,Z,I⟩:=vU (P:=P) (w:=w) (ty:=ty) ht hu hz hb hzv O Q hA N d hb0;obtain⟨o,p⟩:=AY (olds:=us0) (us:=W) (n1:=len) (n2:=new.length) (cap:=cap) (by rw[q.len,C]) A.len O U;refine⟨_,w',by rw[F];exact Z,?_⟩;have:=vB G hr hq I (q.append A) p (n:=cap) (c:=cap) o (C6.zero _ _) (by simp;omega) (cG _) (cap:=none) (by intro k T;cases T) D;simp only[ja,C]at this;exact this
  split at h
  ·cases R;split at h
   ·rename_i E;injection h with h;injection h with o p;subst o;subst p
    exact⟨_,w,f E none 0 0 (cG _) rfl,j4.same G (.v rfl)⟩
   rename_i E;obtain⟨d,h⟩:=eY.1 h;injection h with h;injection h with o p;subst o;subst p
   have hpos:0<new.length:=Da.2 E;have:=fresh (a:=none) (len:=0) (c:=0) (es:=[]) (us0:=[]) rfl rfl Row.nil (λw' _=>rfl) (by omega) (by simpa using d);simpa using this
  ·rename_i n es cap;split at h;·cases h
   rename_i J;have J:n=L:=wT.1 J;subst J;have B:=R;cases R with | bg cell hsp K T hm hes hh=>
   rename_i a c;split at h
   ·rename_i E;injection h with h;injection h with o p;subst o;subst p
    exact⟨_,w,f E _ _ _ K rfl,j4.same G B⟩
   cases cap with
   | some k=>
    obtain⟨⟨N,d⟩,h⟩:=eY.1 h;injection h with h;injection h with o p;subst o;subst p
    have hck:=T k rfl;obtain⟨us0,j⟩:=oS (P:=P) (g:=g) (z:=n) (es:=es) G B D rfl;exact fresh rfl rfl j.row (BE rfl rfl j) (by omega) d
   | none=>cases h
  ·rename_i r' H len cap;split at h
   ·rename_i b hb';split at h;·cases h
    rename_i m;have hbz:b.esz=L:=wT.1 λh=>m (.inl h);have X:b.arr=true:=by
     cases hh:b.arr with| true=>rfl| false=>exact absurd (.inr hh) m
    have B:=R;cases R with | bk hrl hbb hsp ha K E T hzl=>
    rename_i l a c;split at h
    ·rename_i hn';injection h with h;injection h with o p;subst o;subst p
     exact⟨_,w,f hn' _ _ _ K rfl,j4.same G B⟩
    cases cap with
    | some k=>
     obtain⟨⟨hle,N,d⟩,h⟩:=eY.1 h;injection h with h;injection h with o p;subst o;subst p
     have hck:=T k rfl;have C:cy g (.bk r' H len (some k))=some (L,(b.es.drop H).take len):=(by simp only[cy,hb',X,hle,and_self,if_true,hbz]);obtain⟨us0,j⟩:=oS (P:=P) G B D C;have hl:=(getElems b.es H len hle).1;exact fresh rfl hl j.row (BE rfl hl j) (by omega) d
    | none=>cases h
   cases h
  cases h
 cases h
end
end
section
def aa.ab(H:aa)(r q:Ref)(b:Option bj):(H.put r b).get q=if q=r then b else H.get q:=by
 induction H with
 | nil=>
  simp only[aa.put,aa.get];by_cases h:q=r;·rw[if_pos h.symm,if_pos h]
  rw[if_neg (ta h),if_neg h]
 | cons p H e=>
  obtain⟨r',f⟩:=p;simp only[aa.put];by_cases d:r'=r
  ·rw[if_pos d];simp only[aa.get];by_cases a:q=r;·rw[if_pos a.symm,if_pos a]
   rw[if_neg (ta a),if_neg a,if_neg (by rw[d];exact ta a)]
  rw[if_neg d];simp only[aa.get];by_cases c:r'=q;·rw[if_pos c,if_neg (by rw[<-c];exact d),if_pos c]
  rw[if_neg c,e,if_neg c]
def aa.ej(H:aa)(r:Ref)(b:Option bj)(h:(H.get r).isSome=true)(d t:Nat):(H.put r b).gen d t=H.gen d t:=by
 induction H with| nil=>simp[aa.get]at h| cons p H c=>
  obtain⟨r',e⟩:=p;simp only[aa.put];by_cases a:r'=r;·rw[if_pos a,a];rfl
  rw[if_neg a];simp only[aa.gen];simp only[aa.get,if_neg a]at h;rw[c h]
def aa.dG(R:List Ref) : ∀(H:aa),(cg H R).get=uL H.get R:=by
 induction R with| nil=>intro H;funext q;simp[cg,uL]| cons r R e=>
  intro H;funext q;simp only[cg];split
  ·rename_i b d;rw[e];unfold uL;simp only[fh,aa.ab];by_cases a:q=r;·subst a;simp[d]
   simp only[if_neg a];by_cases c:q∈R;·simp[c]
   simp[c,a]
  rename_i d;rw[e];unfold uL;simp only[fh];by_cases a:q=r;·subst a;simp[d]
  by_cases c:q∈R;·simp[c]
  simp[c,a]
def aa.iI(R:List Ref) : ∀(H:aa)(d t:Nat),(cg H R).gen d t=H.gen d t:=by
 induction R with| nil=>intro H d t;rfl| cons r R a=>
  intro H d t;simp only[cg];split;·rename_i b c;rw[a,aa.ej H r _ (by rw[c];rfl)]
  exact a H d t
def aa.BH(r:Ref) : ∀(bs:List bj)(k:Nat)(H:aa)(q:Ref),(keyed r k bs H).get q=if q.d=r.d/\q.t=r.t/\q.g=r.g/\k<=q.k/\q.k<k+bs.length then bs[q.k - k]? else H.get q:=by
 intro bs;induction bs with
 | nil=>intro k H q;rw[if_neg (by intro h;simp only[kS]at h;omega)];rfl
 | cons b bs e=>
  intro k H q;simp only[keyed,e,aa.get,gD];by_cases a:q.d=r.d/\q.t=r.t/\q.g=r.g
  ·by_cases c:q.k=k;·rw[if_neg (by omega),if_pos (by cases q;cases r;simp_all),if_pos ⟨a.1,a.2.1,a.2.2,by omega,by omega⟩];simp[c]
   by_cases f:k+1<=q.k/\q.k<k+1+bs.length;·rw[if_pos ⟨a.1,a.2.1,a.2.2,f⟩,if_pos ⟨a.1,a.2.1,a.2.2,by omega,by omega⟩];rw[show q.k - k=(q.k - (k+1))+1 by omega];simp
   rw[if_neg (by omega),if_neg (by intro h;apply c;rw[<-h]),if_neg (by omega)]
  rw[if_neg (by intro h;exact a ⟨h.1,h.2.1,h.2.2.1⟩),if_neg (by intro h;apply a;rw[<-h];exact⟨rfl,rfl,rfl⟩),if_neg (by intro h;exact a ⟨h.1,h.2.1,h.2.2.1⟩)]
def aa.nI(r:Ref)(bs:List bj)(H:aa):(keyed r 0 bs H).get=tB H.get r bs:=by
 funext q;rw[aa.BH];unfold tB;simp
def aa.mR(r:Ref) : ∀(bs:List bj)(k:Nat)(H:aa)(d t:Nat),(keyed r k bs H).gen d t=if d=r.d/\t=r.t/\bs≠[] then r.g+1 else H.gen d t:=by
 intro bs;induction bs with
 | nil=>intro k H d t;simp[keyed]
 | cons b bs e=>
  intro k H d t;simp only[keyed,e,aa.gen];by_cases h:d=r.d/\t=r.t
  ·obtain⟨rfl,rfl⟩:=h;by_cases c:bs=[];·simp[c]
   simp[c]
  have f : ¬(r.d=d/\r.t=t):=λa=>h ⟨a.1.symm,a.2.symm⟩;rw[if_neg (by intro a;exact h ⟨a.1,a.2.1⟩),if_neg f,if_neg (by intro a;exact h ⟨a.1,a.2.1⟩)]
def s9(ι:Map)(H:aa):Prop :=∀q l,ι q=some l->q.g<H.gen q.d q.t
def s9.fresh{ι:Map}{H:aa}(h:s9 ι H)(d t k:Nat):ι ⟨d,t,H.gen d t,k⟩=none:=by
 cases hi:ι ⟨d,t,H.gen d t,k⟩ with| none=>rfl| some l=>exact absurd (h _ l hi) (xq _)
section
variable{P:Program}{M:Mem}{ι:Map}{g:cV}{w:World}{r:Ref}
def pg(M:Mem)(ι:Map)(H:aa)(w:World)(x:AV)(H':aa)(u:Value)(w':World):Prop:=
 ∃M' a,VR M' a x u/\gS M' a H'.get w'/\uS M ι H.get w M' a H'.get w'/\s9 a H'
def j4.toW{H:aa}{x:AV}{bs:List bj}{u:Value}{w':World}(n:s9 ι H){d t:Nat}(h:j4 M ι H.get w ⟨d,t,H.gen d t,0⟩ x bs u w'):pg M ι H w x (keyed ⟨d,t,H.gen d t,0⟩ 0 bs H) u w':=by
 obtain⟨M',b,o,s,m,j⟩:=h;refine⟨M',b,o,by rw[aa.nI];exact s,by rw[aa.nI];exact m,?_⟩;intro q l f;rw[aa.mR];cases hi:ι q with
 | some p=>
  have:=n q p hi;split;·rename_i i;rw[i.1,i.2.1]at this;exact CF this
  exact this
 | none=>
  by_cases a : ∃k,k<bs.length/\q = { (⟨d,t,H.gen d t,0⟩:Ref)with k:=k};·obtain⟨k,a,rfl⟩:=a;rw[if_pos ⟨rfl,rfl,by intro e;rw[e]at a;simp at a⟩];exact rJ _
  rw[j q hi (λk c e=>a ⟨k,c,e⟩)]at f;cases f
def Nn{cs new:List AV}{j:Nat}(h:j+new.length<=cs.length)(k:Nat):(patch cs j new)[k]?=if j<=k/\k<j+new.length then new[k - j]? else cs[k]?:=by
 unfold patch;have b:(cs.take j).length=j:=by simp;omega
 rcases fl k j with a | a
 ·rw[qP,jU (by omega),Az,if_pos a,if_neg (by omega)]
 rcases fl k (j+new.length)with c | c
 ·rw[qP,gU (by omega),jU (by omega),if_pos ⟨a,c⟩,b]
 rw[gU (by simp;omega),Ac,if_neg (by omega)];simp only[ja,b];congr 1;omega
def Ts{x:AV}(h:x.one=true):x.cells=[x]:=by
 cases x<;>first | rfl | (simp[AV.one]at h)
def K0{e c:AV}{j:Nat}{new:List AV}(h:nZ e j new=some c)(i:new.all AV.one=true):j+new.length<=e.cells.length/\c.cells=patch e.cells j new:=by
 have a : ∀x,(∀cs,e ≠ .agg cs)->j=0->new=[x]->c=x->j+new.length<=e.cells.length/\c.cells=patch e.cells j new:=by
  intro x b k l d;have f:e.cells=[e]:=by cases e<;>first | rfl | exact absurd rfl (b _)
  subst k;subst l;subst d;simp only[tU,GI,GK]at i;rw[f,Ts i];exact⟨by simp,by simp[patch]⟩
 unfold nZ at h;split at h
 ·obtain⟨f,h⟩:=eY.1 h;injection h with h
  subst h;exact⟨f,rfl⟩
 rename_i b;split at h
 ·injection h with h
  exact a _ (λcs d=>b cs d) rfl rfl h.symm
 cases h
def GZ(Q:gS M ι g w){k:bj}{l:Loc}{i j:Nat}{new es':List AV}(O:g r=some k)(S:ι r=some l)(D:0<l.esz)(L:k.gR=false)(B:fm k.es i j new=some es')(H:new.all AV.one=true)
 {us:List Value} (q:mc M (k.map ι) new us) :
 ∃arr T fz,w.heap[l.b]?=some (.cells arr T fz)/\i * k.esz+j+us.length<=arr.size/\(∀o,o<arr.size ->¬(fz.1<=o/\(o<fz.2\/fz.2<fz.1)))/\(∀u∈us,u.oneCell'=true) /\
  gS M ι (mf g r { k with es:=es'}) (ck w l.b (.cells (cP arr (i * k.esz+j) us) T fz))/\uS M ι g w M ι (mf g r { k with es:=es'}) (ck w l.b (.cells (cP arr (i * k.esz+j) us) T fz)):=by
 have s:=Q.at S D O;obtain⟨arr,T,fz,Z,C,z,R⟩:=s.heap;unfold fm at B;split at B;·cases B
 rename_i e I;simp only[bI]at B;obtain⟨W,K,rfl⟩:=B;obtain⟨hle,d⟩:=K0 K H;have hi:i<k.es.length:=(ee.1 I).1;have J:=s.cells e (dJ I);have Y:=q.1;have a:i * k.esz+j+us.length<=arr.size:=by
  have h2:(i+1) * k.esz<=l.n * k.esz:=mB _ (by have:=s.len;omega);rw[mo]at h2;rw[C];omega
 have p : ∀u∈us,u.oneCell'=true:=by
  intro u V;obtain⟨m,hm,N⟩:=pW V;have A:m<new.length:=by omega
  have:=q.2 m _ u (dI A) (by rw[<-N];exact dI hm);exact this.one (by simp only[gf]at H;exact H _ (eE A))
 obtain⟨h3,U⟩:=Q.write (k' := { k with es:=k.es.set i W}) O S D (arr:=cP arr (i * k.esz+j) us) (T:=T) (fz:=fz) rfl rfl rfl (by rw[jM a];exact C)
  (by rw[jM a];exact z) (by simp;exact s.len)
  (by
   intro E G;rcases OW G with h | h
   ·exact s.cells E h
   rw[h,d,<-J];simp[patch];omega)
  (by
   intro o x f;have:=(s.frozen o x f).1;rw[L]at this;cases this)
  (by
   intro F t E x c f;rw[jc a];by_cases v:i=F
   ·subst v;rw[GW hi]at c;injection c with c
    subst c;rw[d,Nn hle]at f;split at f
    ·rename_i hr;rw[if_pos (by omega),show i * k.esz+t - (i * k.esz+j)=t - j by omega];have y:t - j<us.length:=by omega
     exact⟨us[t - j],dI y,p _ (eE y),q.2 _ _ _ f (dI y)⟩
    rename_i hr;rw[if_neg (by omega)];exact R i t e x I f
   rw[GS v]at c;have X:t<k.esz:=(by rw[<-s.cells E (dJ c)];exact(ee.1 f).1);rw[if_neg];·exact R F t E x c f
   rcases ON v with h | h
   ·have:(i+1) * k.esz<=F * k.esz:=mB _ h;rw[mo]at this;omega
   have:(F+1) * k.esz<=i * k.esz:=mB _ h;rw[mo]at this;omega)
 exact⟨arr,T,fz,Z,a,z.1,p,h3,U⟩
def AN{t:TypeId}{n:Nat}(h:aE P t=some n){b o:Nat}{u:Value}(f:u.cells.size=n){arr:Array Value}{T:TypeId}{fz:Nat × Nat}(d:w.heap[b]?=some (.cells arr T fz))
 (a:o+u.cells.toList.length<=arr.size) (c : ∀o,o<arr.size ->¬(fz.1<=o/\(o<fz.2\/fz.2<fz.1))) (e : ∀x∈u.cells.toList,x.oneCell'=true) :
 (Instr.storeAt t (.pointer (some ⟨b,o,none⟩)) u).run P w = .ok () (ck w b (.cells (cP arr o u.cells.toList) T fz)):=by
 have:=nD (P:=P) o u.cells.toList 0 arr w d (by simpa using a) c e;simp only[uE]at this;simp[Instr.storeAt,Instr.sureAddr,storeVar,cO h,f,this]
def tZ(H:aa)(r:Ref)(k:bj):(H.put r (some k)).get=mf H.get r k:=by
 funext q;rw[aa.ab];rfl
def Se{H:aa}(z:gS M ι H.get w)(hD:s9 ι H){t:TypeId}{a x y:AV}{ua d:Value}(ha:VR M ι a ua)(hx:VR M ι x d){H':aa}(h:jy P H t (some a) (some x)=some (y,H')) :
 ∃w',(Instr.storeAt t ua d).run P w = .ok () w'/\pg M ι H w y H' undef w':=by
 unfold jy at h;split at h
 ·rename_i r' i j x' n I L hn;injection I with I;injection L with L
  subst I;subst L;cases ha with | ptr Z u=>
  rename_i l;split at h
  ·rename_i b A;obtain⟨⟨hxn,Y,s⟩,h⟩:=eY.1 h;obtain⟨l',k,p⟩:=z.live r' b A;rw[Z]at k;cases k;have m:=hx.cells;have f:d.cells.size=n:=by have:=m.1;simp at this;omega
   split at h
   ·rename_i c;split at h
    ·rename_i y' N;split at h;·cases h
     rename_i C;obtain⟨O,h⟩:=eY.1 h;simp only[bI]at h;obtain⟨es',e,h⟩:=h;injection h with E X
     subst E;subst X;obtain⟨G,U⟩:=A0 (R:=ah H.get depth x) z;have hv:=Df z depth x y' d N (λr hr=>hr) hx;have o:uL H.get (ah H.get depth x) r'=some b:=by unfold uL;rw[if_neg C];exact A
     have S:=hv.cells;obtain⟨arr,T,fz,Q,D,V,B,K,J⟩:=GZ G o Z u s e O (us:=d.cells.toList) (by rw[bj.map,if_pos c];exact S);refine⟨ck w l.b (.cells (cP arr (i * b.esz+j) d.cells.toList) T fz),?_,lz M ι H.get w (ah H.get depth x),ι,.v rfl,?_,?_,?_⟩;·rw[p.esz];exact AN hn f Q D V B
     ·rw[tZ,aa.dG];exact K
     ·rw[tZ,aa.dG];exact U.trans J
     intro q F W;rw[aa.ej _ _ _ (by rw[aa.dG,o];rfl),aa.iI];exact hD q F W
    cases h
   rename_i c;simp only[bI]at h;obtain⟨es',e,h⟩:=h;injection h with E X
   subst E;subst X;obtain⟨arr,T,fz,Q,D,V,B,K,J⟩:=GZ z A Z u s e Y (us:=d.cells.toList) (by rw[bj.map,if_neg c];exact m);refine⟨ck w l.b (.cells (cP arr (i * b.esz+j) d.cells.toList) T fz),?_,M,ι,.v rfl,?_,?_,?_⟩;·rw[p.esz];exact AN hn f Q D V B
   ·rw[tZ];exact K
   ·rw[tZ];exact J
   intro q F W;rw[aa.ej _ _ _ (by rw[A];rfl)];exact hD q F W
  cases h
 cases h
end
end
section
section
variable{P:Program}{M:Mem}{ι:Map}{g:cV}{w:World}{r:Ref}
def sX(g:cV)(r:Ref):cV:=λq=>if q=r then none else g q
def RG(b:gS M ι g w)(r:Ref):gS M ι (sX g r) w/\uS M ι g w M ι (sX g r) w:=by
 have a : ∀ {q k},sX g r q=some k->g q=some k:=by
  intro q k h;unfold sX at h;split at h;·cases h
  exact h
 exact⟨⟨b.mem,λq k h=>b.live q k (a h),λq c k k' l e h d=>b.inj q c k k' l e (a h) (a d)⟩,
  ⟨rfl,rfl,rfl,cG _,λ_ _ _=>rfl,λ_ _ _ h=>h,λ_ _ h=>h,λq k l h f => .inr ⟨q,k,l,a h,f,rfl⟩,λ_ _ _ h => .inl h⟩⟩
def J9(t:gS M ι g w){r q:Ref}{k k':bj}{l:Loc}(E:g r=some k)(D:ι r=some l)(hq:ι q=none){arr':Array Value}{w':World}
 (hw : ∃arr T fz,w.heap[l.b]?=some (.cells arr T fz)/\arr.size=arr'.size/\w'=ck w l.b (.cells arr' T fz)) (a:k'.esz=k.esz) (L:k'.arr=true) (A:k.arr=true) (K:k'.gR=k.gR)
 (C : ∀(o:Nat) u,o<k.es.length * k.esz ->∀arr T fz,w.heap[l.b]?=some (.cells arr T fz)->arr[o]?=some u->arr'[o]?=some u)
 (R:k'.es.length<=l.n) (hle:k.es.length<=k'.es.length) (s : ∀e∈k'.es,e.cells.length=k.esz)
 (hc : ∀(i j:Nat) e x,k'.es[i]?=some e->e.cells[j]?=some x ->∃u,arr'[i * k.esz+j]?=some u/\u.oneCell'=true/\VR M dO x u) :
 gS M (iG ι q l) (mf (sX g r) q k') w'/\uS M ι g w M (iG ι q l) (mf (sX g r) q k') w':=by
 obtain⟨arr,T,fz,hh,V,c⟩:=hw;obtain⟨l',G,v⟩:=t.live r k E;rw[D]at G;cases G;have S:=v.pos A;replace v:=v.cellsOk S;obtain⟨arr0,T0,fz0,N,Y,h2,h3⟩:=v.heap;rw[hh]at N;cases N;have X:=v.lt;have m:=Gd (l:=l) hq;have hqr:q≠r:=by intro e;rw[e,D]at hq;cases hq
 refine⟨⟨?_,?_,?_⟩,?_⟩
 ·intro b o x z;by_cases U:l.b=b;·subst U;have ho:=(v.frozen o x z).2;have F:=t.mem _ _ _ z;rw[jP hh]at F;rw[jP (by rw[c];exact gY X)];exact C o x ho arr T fz hh F
  rw[iQk (w:=w) (by rw[c];exact fu U)];exact t.mem b o x z
 ·intro r' k1 p;unfold mf at p;split at p
  ·rename_i e;subst e;injection p with p
   subst p;refine⟨l,by simp[iG],fH.Ud ⟨by rw[v.esz,a],⟨arr',T,fz,by rw[c];exact gY X,by rw[<-V,a];exact Y,by rw[<-V,a];exact h2,?_⟩,R,by rw[a];exact s,?_⟩ (by rw[a];exact S)⟩;·intro i j e x he z;rw[a];obtain⟨u,hu,ho,hv⟩:=hc i j e x he z;refine⟨u,hu,ho,?_⟩;rw[bj.map,if_pos L];exact hv
   intro o x z;rw[K,a];have:=v.frozen o x z;exact⟨this.1,Ay this.2 (mB _ hle)⟩
  rename_i hne;unfold sX at p;split at p;·cases p
  rename_i I;obtain⟨f,O,J⟩:=t.live r' k1 p;have hnb:l.b≠f.b:=λe=>I (t.inj r' r k1 k f l p E O D e.symm);exact⟨f,m r' f O,J.bD (λ_ _ _ h=>h) m (by rw[c];exact fu hnb) J.frozen⟩
 ·have y : ∀ {r1 k1 f},mf (sX g r) q k' r1=some k1->iG ι q l r1=some f->(r1=q/\f=l)\/(r1≠q/\r1≠r/\g r1=some k1/\ι r1=some f):=by
   intro r1 k1 f h d;unfold mf at h;unfold iG at d;split at h;·rename_i e;rw[if_pos e]at d;injection d with d;exact .inl ⟨e,d.symm⟩
   rename_i e;rw[if_neg e]at d;unfold sX at h;split at h;·cases h
   rename_i e';exact .inr ⟨e,e',h,d⟩
  intro r1 r2 k1 k2 f l2 Y h2 h3 h4 h5;rcases y Y h3 with ⟨e1,Z⟩ | ⟨e1,Z,e3,e4⟩<;>rcases y h2 h4 with ⟨H,B⟩ | ⟨H,B,Q,W⟩
  ·rw[e1,H]
  ·exact absurd (t.inj r r2 k k2 l l2 E Q D W (by rw[<-Z];exact h5)).symm B
  ·exact absurd (t.inj r r1 k k1 l f E e3 D e4 (by rw[<-B];exact h5.symm)).symm Z
  exact t.inj r1 r2 k1 k2 f l2 e3 Q e4 W h5
 refine⟨by rw[c];rfl,by rw[c];rfl,by rw[c];rfl,by rw[c];simp[ck],?_,λ_ _ _ h=>h,m,?_,λ_ _ _ h => .inl h⟩;·intro b _ hno;rw[c];exact fu (hno r k l E D)
 intro r1 k1 f h d;unfold mf at h;unfold iG at d;split at h;·rename_i e;rw[if_pos e]at d;injection d with d;subst d;exact .inr ⟨r,k,l,E,D,rfl⟩
 rename_i e;rw[if_neg e]at d;unfold sX at h;split at h;·cases h
 exact .inr ⟨r1,k1,f,h,d,rfl⟩
def get_append(H:aa)(q r:Ref)(k:bj)(b:q≠r):aa.get ((q,some k) :: H.put r none)=mf (sX H.get r) q k:=by
 funext x;simp only[aa.get,aa.ab];unfold mf sX;by_cases a:q=x;·subst a;simp
 rw[if_neg a,if_neg (ta a)]
def Qg(H:aa)(r:Ref)(k:bj)(a:(H.get r).isSome=true)(d t:Nat) :
 aa.gen ((⟨r.d,r.t,H.gen r.d r.t,0⟩,some k) :: H.put r none) d t=if r.d=d/\r.t=t then H.gen r.d r.t+1 else H.gen d t:=by
 simp only[aa.gen];split;·rfl
 rw[aa.ej H r none a]
def Hf{H:aa}(hS:gS M ι H.get w)(hD:s9 ι H){ts:Array TypeId}{ty:TypeId}{s x y:AV}{us ux:Value}(hs:VR M ι s us)(hx:VR M ι x ux){H':aa}
 (h:j9 P H ts[0]? ts[1]? s x=some (y,H')) : ∃u w',(Builtin.append_ ts ty #[us,ux]).run P w = .ok u w'/\pg M ι H w y H' u w':=by
 unfold j9 at h;split at h;·cases h
 rename_i e he;simp only[iF]at he;obtain⟨t,ht,he⟩:=he;have hu:=gX he;split at h;·cases h
 rename_i hc;split at h
 ·rename_i z by' zz ez new hz hb hzz D;split at h;·cases h
  rename_i m;have hez:ez=z:=wT.1 λh=>m (.inl h);have R:0<z:=Aa λh=>m (.inr (.inl h));have hb0:0<by':=Aa λh=>m (.inr (.inr (.inl h)));have hn0:new≠[]:=λh=>m (.inr (.inr (.inr (.inl h))));have hzl:zz.cells.length=z:=wT.1 λh=>m (.inr (.inr (.inr (.inr h))));subst hez;obtain⟨Q,f,hA⟩:=Ix (w:=w) hS hz R hx hc D;split at h
  ·rename_i r' off len;split at h
   ·rename_i b O;obtain⟨⟨hoff,F,hbz,hlen,J⟩,h⟩:=eY.1 h;injection h with h;injection h with h1 h2;subst h1;subst h2
    subst hoff;subst hlen;subst hbz;have hs0:=hs;cases hs with | bk Z hbb hsp ha hcc hn hk U=>
    rename_i l a c;have hq:=hD.fresh r'.d r'.t 0;have L:(⟨r'.d,r'.t,H.gen r'.d r'.t,0⟩:Ref)≠r':=by intro e;rw[e,Z]at hq;cases hq
    have hbk:=hS.at Z U O;obtain⟨arr,T,fz,hh,hsz,hfz,N⟩:=hbk.heap;have hpos:0<new.length:=Da.2 hn0;have hel:cy H.get (.bk r' 0 b.es.length none)=some (b.esz,(b.es.drop 0).take b.es.length):=(by simp[cy,O,F]);obtain⟨us0,B⟩:=oS (P:=P) hS hs0 R hel;have hee:(b.es.drop 0).take b.es.length=b.es:=by simp
    rw[hee]at B;have S : ∀ι':Map,(∀q,ι q=none->q≠⟨r'.d,r'.t,H.gen r'.d r'.t,0⟩->ι' q=none)->s9 ι' ((⟨r'.d,r'.t,H.gen r'.d r'.t,0⟩,some ⟨b.esz,b.es++new,true,b.gR⟩) :: H.put r' none):=by
     intro ι' hι q lq hql;rw[Qg H r' _ (by rw[O];rfl)];cases hi:ι q with
     | some l0=>
      have:=hD q l0 hi;split;·rename_i V;rw[<-V.1,<-V.2]at this;exact CF this
      exact this
     | none=>
      by_cases hqq:q=⟨r'.d,r'.t,H.gen r'.d r'.t,0⟩;·subst hqq;rw[if_pos ⟨rfl,rfl⟩];exact rJ _
      rw[hι q hi hqq]at hql;cases hql
    by_cases W:b.es.length+new.length<=c
    ·have E:a.off=0:=by
      rcases ha with h | h
      ·omega
      simpa using h
     have hcn:0+c<=l.n:=by
      rcases hn with h | h
      ·omega
      exact h
     have hae:a=⟨l.b,0,none⟩:=(by rw[kA hsp,hbb,E]);have G:0+b.es.length * b.esz+Q.length<=arr.size:=(by rw[f.len,hsz,vG,<-mo];exact mB _ (by omega));have C:=Cf (P:=P) (w:=w) (ty:=ty) ht hu hz hb (b:=l.b) (o:=0) hA W J hh G hfz.1 f.one;rw[vG]at C G;obtain⟨h3,h4⟩:=J9 (M:=M) (q:=⟨r'.d,r'.t,H.gen r'.d r'.t,0⟩) (k':=⟨b.esz,b.es++new,true,b.gR⟩) hS O Z hq (arr':=cP arr (b.es.length * b.esz) Q)
      ⟨arr,T,fz,hh,(jM G).symm,rfl⟩ rfl rfl F rfl
      (by
       intro o u ho arr1 T1 fz1 hh1 p;rw[hh]at hh1;cases hh1;rw[jc G,if_neg (by omega)];exact p)
      (by simp;omega) (by simp) (by
       intro K he1;rcases mq.1 he1 with h | h
       ·exact hbk.cells K h
       exact f.Jh K h)
      (by
       intro i j K x1 hi v;rw[jc G];rcases fl i b.es.length with hlt | hge
       ·rw[jU hlt]at hi;have hj:j<b.esz:=(by rw[<-hbk.cells K (dJ hi)];exact(ee.1 v).1);have:=EY hlt hj;rw[if_neg (by omega)];obtain⟨u,p,ho,hv⟩:=N i j K x1 hi v;rw[bj.map,if_pos F]at hv;exact⟨u,p,ho,hv⟩
       rw[gU hge]at hi;obtain⟨u,p,hv⟩:=f.vr _ j K x1 hi v;have hlt:=(ee.1 p).1;have hge':b.es.length * b.esz<=i * b.esz:=mB _ hge;have hii:(i - b.es.length) * b.esz=i * b.esz - b.es.length * b.esz:=GB _ _ _;rw[if_pos (by omega),show i * b.esz+j - b.es.length * b.esz=(i - b.es.length) * b.esz+j by omega];exact⟨u,p,f.one u (dJ p),hv⟩)
     refine⟨.slice (some a) (b.es.length+new.length) c,_,by rw[hae];exact C,M,_,?_,by rw[get_append H _ r' _ L];exact h3,by rw[get_append H _ r' _ L];exact h4,?_⟩;·exact .bk (l:=l) (by simp[iG]) hbb hsp (.inr (by rw[E];simp)) W (.inr hcn) (by intro k hk;cases hk) U
     exact S _ (by intro q X hne;simp[iG,hne,X])
    obtain⟨zv,hzv,hzs⟩:=CD hz hzz hzl;obtain⟨cap,w',I,C,Y⟩:=vU (P:=P) (w:=w) (ty:=ty) ht hu hz hb hzv hzs (BE (a:=some a) (len:=b.es.length) (c:=c) rfl rfl B) hA (by omega) J hb0;obtain⟨h1,h2⟩:=AY (olds:=us0) (us:=Q) (n1:=b.es.length) (n2:=new.length) (cap:=cap) B.len f.len hzs I;obtain⟨h3,h4⟩:=RG hS r';have A:=B.row.append f;have D : ∀(i j:Nat) e x,(b.es++new)[i]?=some e->e.cells[j]?=some x ->∃u,(us0.toArray++Q.toArray++Builtin.zeroCells zv.cells (cap - (b.es.length+new.length)))[i * b.esz+j]?=some u/\u.oneCell'=true/\VR M dO x u:=(by intro i j K x1 hi v;obtain⟨u,p,hv⟩:=A.vr i j K x1 hi v;exact⟨u,h2 _ _ p,A.one u (dJ p),hv⟩);obtain⟨h5,h6⟩:=h3.alloc (q:=⟨r'.d,r'.t,H.gen r'.d r'.t,0⟩) hq Y ⟨b.esz,b.es++new,true,b.gR⟩ R cap h1 (C6.zero _ _) (by simpa using I) A.Jh
     (by intro i j K x1 hi v;rw[bj.map,if_pos rfl];exact D i j K x1 hi v)
    refine⟨_,w',C,M,_,?_,by rw[get_append H _ r' _ L];exact h5,by rw[get_append H _ r' _ L];exact h4.trans h6,?_⟩;·exact .bk (l:=⟨w.heap.size,b.esz,cap⟩) (by simp[iG]) rfl rfl (.inr (by simp)) I (.inr (by simp)) (by intro k hk;cases hk) R
    exact S _ (by intro q X hne;simp[iG,hne,X])
   cases h
  cases h
 cases h
def Mu{H:aa}(hS:gS M ι g w){ts:Array TypeId}{ty:TypeId}{s x y:AV}{us ux:Value}(hs:VR M ι s us)(hx:VR M ι x ux){H':aa}
 (hag : ∀r',lC s=some r'->H.get r'≠none->g r'=H.get r') (hnw : ∀e p,mK P H.get e x=some p->mK P g e x=some p) (Y : ∀r',lC s=some r'->H.get r'≠none->ι ⟨r'.d,r'.t,H.gen r'.d r'.t,0⟩=none)
 (h:j9 P H ts[0]? ts[1]? s x=some (y,H')) : ∃r' b k',lC s=some r'/\H.get r'=some b/\(⟨r'.d,r'.t,H.gen r'.d r'.t,0⟩:Ref)≠r'/\H'=(⟨r'.d,r'.t,H.gen r'.d r'.t,0⟩,some k') :: H.put r' none /\
  ∃u w' O,(Builtin.append_ ts ty #[us,ux]).run P w = .ok u w'/\VR M O y u/\gS M O (mf (sX g r') ⟨r'.d,r'.t,H.gen r'.d r'.t,0⟩ k') w'/\uS M ι g w M O (mf (sX g r') ⟨r'.d,r'.t,H.gen r'.d r'.t,0⟩ k') w' /\
   ∀q,ι q=none->q≠⟨r'.d,r'.t,H.gen r'.d r'.t,0⟩->O q=none:=by
 unfold j9 at h;split at h;·cases h
 rename_i e he;simp only[iF]at he;obtain⟨t,ht,he⟩:=he;have hu:=gX he;split at h;·cases h
 rename_i hc;split at h
 ·rename_i z by' zz ez new hz hb hzz E;split at h;·cases h
  rename_i m;have hez:ez=z:=wT.1 λh=>m (.inl h);have S:0<z:=Aa λh=>m (.inr (.inl h));have hb0:0<by':=Aa λh=>m (.inr (.inr (.inl h)));have hn0:new≠[]:=λh=>m (.inr (.inr (.inr (.inl h))));have hzl:zz.cells.length=z:=wT.1 λh=>m (.inr (.inr (.inr (.inr h))));subst hez;obtain⟨R,f,hA⟩:=Ix (w:=w) hS hz S hx hc (hnw _ _ E);split at h
  ·rename_i r' off len;split at h
   ·rename_i b Q;obtain⟨⟨hoff,G,hbz,hlen,K⟩,h⟩:=eY.1 h;injection h with h;injection h with h1 h2;subst h1;subst h2
    subst hoff;subst hlen;subst hbz;have hs0:=hs;cases hs with | bk Z hbb hsp ha hcc hn hk U=>
    rename_i l a c;have hq:=Y r' rfl (by rw[Q];simp);have hbG:g r'=some b:=by rw[hag r' rfl (by rw[Q];simp),Q]
    have hqr:(⟨r'.d,r'.t,H.gen r'.d r'.t,0⟩:Ref)≠r':=by intro e;rw[e,Z]at hq;cases hq
    have hbk:=hS.at Z U hbG;obtain⟨arr,T,fz,hh,hsz,hfz,N⟩:=hbk.heap;have hpos:0<new.length:=Da.2 hn0;have hel:cy g (.bk r' 0 b.es.length none)=some (b.esz,(b.es.drop 0).take b.es.length):=(by simp[cy,hbG,G]);obtain⟨us0,C⟩:=oS (P:=P) hS hs0 S hel;have hee:(b.es.drop 0).take b.es.length=b.es:=by simp
    rw[hee]at C;refine⟨r',b,⟨b.esz,b.es++new,true,b.gR⟩,rfl,Q,hqr,rfl,?_⟩;by_cases V:b.es.length+new.length<=c
    ·have F:a.off=0:=by
      rcases ha with h | h
      ·omega
      simpa using h
     have hcn:0+c<=l.n:=by
      rcases hn with h | h
      ·omega
      exact h
     have hae:a=⟨l.b,0,none⟩:=(by rw[kA hsp,hbb,F]);have I:0+b.es.length * b.esz+R.length<=arr.size:=(by rw[f.len,hsz,vG,<-mo];exact mB _ (by omega));have D:=Cf (P:=P) (w:=w) (ty:=ty) ht hu hz hb (b:=l.b) (o:=0) hA V K hh I hfz.1 f.one;rw[vG]at D I;obtain⟨h3,h4⟩:=J9 (M:=M) (q:=⟨r'.d,r'.t,H.gen r'.d r'.t,0⟩) (k':=⟨b.esz,b.es++new,true,b.gR⟩) hS hbG Z hq (arr':=cP arr (b.es.length * b.esz) R)
      ⟨arr,T,fz,hh,(jM I).symm,rfl⟩ rfl rfl G rfl
      (by
       intro o u ho arr1 T1 fz1 hh1 v;rw[hh]at hh1;cases hh1;rw[jc I,if_neg (by omega)];exact v)
      (by simp;omega) (by simp) (by
       intro L he1;rcases mq.1 he1 with h | h
       ·exact hbk.cells L h
       exact f.Jh L h)
      (by
       intro i j L x1 hi A;rw[jc I];rcases fl i b.es.length with hlt | hge
       ·rw[jU hlt]at hi;have hj:j<b.esz:=(by rw[<-hbk.cells L (dJ hi)];exact(ee.1 A).1);have:=EY hlt hj;rw[if_neg (by omega)];obtain⟨u,v,ho,hv⟩:=N i j L x1 hi A;rw[bj.map,if_pos G]at hv;exact⟨u,v,ho,hv⟩
       rw[gU hge]at hi;obtain⟨u,v,hv⟩:=f.vr _ j L x1 hi A;have hlt:=(ee.1 v).1;have hge':b.es.length * b.esz<=i * b.esz:=mB _ hge;have hii:(i - b.es.length) * b.esz=i * b.esz - b.es.length * b.esz:=GB _ _ _;rw[if_pos (by omega),show i * b.esz+j - b.es.length * b.esz=(i - b.es.length) * b.esz+j by omega];exact⟨u,v,f.one u (dJ v),hv⟩)
     refine⟨.slice (some a) (b.es.length+new.length) c,_,_,by rw[hae];exact D,?_,h3,h4,?_⟩;·exact .bk (l:=l) (by simp[iG]) hbb hsp (.inr (by rw[F];simp)) V (.inr hcn) (by intro k hk;cases hk) U
     intro q W hne;simp[iG,hne,W]
    obtain⟨zv,hzv,hzs⟩:=CD hz hzz hzl;obtain⟨cap,w',J,D,X⟩:=vU (P:=P) (w:=w) (ty:=ty) ht hu hz hb hzv hzs (BE (a:=some a) (len:=b.es.length) (c:=c) rfl rfl C) hA (by omega) K hb0;obtain⟨h1,h2⟩:=AY (olds:=us0) (us:=R) (n1:=b.es.length) (n2:=new.length) (cap:=cap) C.len f.len hzs J;obtain⟨h3,h4⟩:=RG hS r';have B:=C.row.append f;have E : ∀(i j:Nat) e x,(b.es++new)[i]?=some e->e.cells[j]?=some x ->∃u,(us0.toArray++R.toArray++Builtin.zeroCells zv.cells (cap - (b.es.length+new.length)))[i * b.esz+j]?=some u/\u.oneCell'=true/\VR M dO x u:=(by intro i j L x1 hi A;obtain⟨u,v,hv⟩:=B.vr i j L x1 hi A;exact⟨u,h2 _ _ v,B.one u (dJ v),hv⟩);obtain⟨h5,h6⟩:=h3.alloc (q:=⟨r'.d,r'.t,H.gen r'.d r'.t,0⟩) hq X ⟨b.esz,b.es++new,true,b.gR⟩ S cap h1 (C6.zero _ _) (by simpa using J) B.Jh
     (by intro i j L x1 hi A;rw[bj.map,if_pos rfl];exact E i j L x1 hi A)
    refine⟨_,w',_,D,?_,h5,h4.trans h6,?_⟩;·exact .bk (l:=⟨w.heap.size,b.esz,cap⟩) (by simp[iG]) rfl rfl (.inr (by simp)) J (.inr (by simp)) (by intro k hk;cases hk) S
    intro q W hne;simp[iG,hne,W]
   cases h
  cases h
 cases h
def He{H:aa}(F:gS M ι H.get w)(B:s9 ι H){d a:Nat}{t:TypeId}{n:Nat}{s:List (Nat × AV)}{qs:Array (Nat × Value)}{x:AV}{H':aa}
 (h:jV P H ⟨d,a,H.gen d a,0⟩ t n (some s)=some (x,H')) (hl:s.length=qs.toList.length)
 (hp : ∀(i:Nat) p q,s[i]?=some p->qs.toList[i]?=some q->p.1=q.1/\VR M ι p.2 q.2) :
 ∃u w',(Instr.buildSlice t n qs).run P w = .ok u w'/\pg M ι H w x H' u w':=by
 simp only[jV,bI]at h;obtain⟨b,G,h⟩:=h;injection h with X Z
 subst X;subst Z;obtain⟨h1,h2,O,e,arr,N,T,J⟩:=Iy F G hl hp;obtain⟨E,Q⟩:=A0 (R:=ct H.get (s.map (·.2))) F;have C:b=⟨b.esz,b.es,true,false⟩:=by cases b;simp_all
 have m:Eg w (w.alloc (.cells arr e)) (.cells arr e (0,0)):=⟨rfl,rfl,rfl,rfl⟩;have D:=B.fresh d a 0;have j:=vB (r:=⟨d,a,H.gen d a,0⟩) E rfl D m J (λk u S=>by simpa using S) (n:=n) (c:=n) T (C6.zero _ _) (by omega) (cG _) (cap:=some n) (by intro k z;cases z;rfl) (FA G);rw[O,<-C]at j;have K:s9 ι (cg H (ct H.get (s.map (·.2)))):=by
  intro q l D;rw[aa.iI];exact B q l D
 obtain⟨M',o,W,L,V,U⟩:=j;have f:aa.get (((⟨d,a,H.gen d a,0⟩:Ref),some b) :: cg H (ct H.get (s.map (·.2))))=tB (uL H.get (ct H.get (s.map (·.2)))) ⟨d,a,H.gen d a,0⟩ [b]:=by
  rw[so _ _ rfl];funext q;simp only[aa.get,aa.dG];unfold mf;by_cases A:q=⟨d,a,H.gen d a,0⟩;·rw[if_pos A.symm,if_pos A]
  rw[if_neg (ta A),if_neg A]
 refine⟨_,_,N,M',o,W,?_,?_,?_⟩;·show gS M' o (aa.get (_ :: _)) _;rw[f];exact L
 ·show uS M ι H.get w M' o (aa.get (_ :: _)) _;rw[f];exact Q.trans V
 intro q l v;simp only[aa.gen,aa.iI];cases hi:ι q with
 | some Y=>
  have:=B q Y hi;split;·rename_i I;rw[<-I.1,<-I.2]at this;exact CF this
  exact this
 | none=>
  by_cases z:q=⟨d,a,H.gen d a,0⟩;·subst z;rw[if_pos ⟨rfl,rfl⟩];exact rJ _
  rw[U q hi (λk y e=>z (by rw[e];simp at y;rw[y]))]at v;cases v
def Row.sub{z es us}(h:Row M z es us)(n:Nat):Row M z (es.take n) (us.take (n * z)):=by
 refine⟨?_,λe a=>h.Jh e (xY a),λx b=>h.one x (xY b),?_⟩
 ·rw[ku,ku,h.len];rcases Nat.le_total n es.length with hle | hle
  ·rw[Aw hle,Aw (mB _ hle)]
  rw[KJ hle,KJ (mB _ hle)]
 intro i j e x a b;rw[Az]at a;split at a
 ·rename_i hi;obtain⟨u,d,c⟩:=h.vr i j e x a b;have f:j<z:=by
   rw[<-h.Jh e (dJ a)];exact(ee.1 b).1
  refine⟨u,?_,c⟩;rw[Az,if_pos (EY hi f)];exact d
 cases a
def UN{H:aa}(hS:gS M ι H.get w)(hD:s9 ι H){ts:Array TypeId}{ty:TypeId}{s x y:AV}{us ux:Value}(hs:VR M ι s us)(hx:VR M ι x ux){H':aa}
 (h:AH P H ts[0]? s x=some (y,H')) : ∃u w',(Builtin.copy_ ts ty #[us,ux]).run P w = .ok u w'/\pg M ι H w y H' u w':=by
 unfold AH at h;split at h;·cases h
 rename_i e he;simp only[iF]at he;obtain⟨t,ht,he⟩:=he;have hu:=gX he;split at h;·cases h
 rename_i z hz;split at h;·cases h
 rename_i ez src C;split at h;·cases h
 rename_i D;have hez:ez=z:=wT.1 λh=>D (.inl h);have hz0:0<z:=Aa λh=>D (.inr h);subst hez;have hS0 : ∃f,Src P M w ux ez src f:=by
  split at C
  ·rename_i hn;injection C with C
   injection C with h1 Z
   subst Z;have:ux = .slice none 0 0:=by
    cases hx<;>simp[jW]at hn;split at hn<;>simp_all
   subst this;exact⟨[],by simp,by simp,by simp,by intro i j e x h;simp at h,λw'=>rfl,λn w' hn' _=>by simp[Builtin.firstCells]⟩
  exact oS hS hx hz0 C
 obtain⟨f,A⟩:=hS0;split at h
 ·cases hs;injection h with h;injection h with h1 Z;subst h1;subst Z
  have hf:=A.first 0 w (uD _) rfl;have hl:=A.lenOf w;refine⟨.int .i64 0,w,?_,M,ι,.v rfl,hS,uS.refl,hD⟩;simp only[Nat.zero_mul,List.take_zero]at hf;have hm:src.length.min 0=0:=Nat.min_zero _;simp[Builtin.copy_,ht,bu hu,cO hz,hl,hm,hf,goInt]
 ·rename_i r' d len cap;split at h
  ·rename_i b hb;obtain⟨⟨N,hbz,hfr,hle⟩,h⟩:=eY.1 h;injection h with h;injection h with h1 Z;subst h1;subst Z
   subst hbz;cases hs with | bk X hbb hsp ha hcc hn hk L=>
   rename_i l a c;have B:=hS.at X L hb;obtain⟨arr,T,fz,hh,Y,W,K⟩:=B.heap;obtain⟨n,J⟩ : ∃n,n=Nat.min src.length len:=⟨_,rfl⟩;have U:n<=src.length:=by rw[J];exact Nat.min_le_left _ _
   have hn2:n<=len:=by rw[J];exact Nat.min_le_right _ _
   rw[<-J];have hf:=A.first n w U rfl;have hl:=A.lenOf w;have p:=A.row.sub n;have F:(src.take n).length=n:=by rw[ku,Aw U]
   have Q:(f.take (n * b.esz)).length=n * b.esz:=(by rw[p.len,F]);have hbl:=B.len;have m:d * b.esz+(f.take (n * b.esz)).length<=arr.size:=(by rw[Q,Y,<-mo];exact mB _ (by omega));have hes : ∀i,(b.es.take d++src.take n++b.es.drop (d+n))[i]?=if d<=i/\i<d+n then (src.take n)[i - d]? else b.es[i]?:=(by intro i;have:=Nn (cs:=b.es) (new:=src.take n) (j:=d) (by rw[F];omega) i;rw[F]at this;rw[<-this];unfold patch;rw[F])
   obtain⟨h3,h4⟩:=hS.write (k' := { b with es:=b.es.take d++src.take n++b.es.drop (d+n)}) hb X L (arr:=cP arr (d * b.esz) (f.take (n * b.esz))) (T:=T) (fz:=fz) rfl rfl rfl
    (by rw[jM m];exact Y) (by rw[jM m];exact W) (by simp;omega)
    (by
     intro G V;simp only[mq]at V;rcases V with (h | h) | h
     ·exact B.cells G (xY h)
     ·exact p.Jh G h
     exact B.cells G (Dc h))
    (by
     intro o v S;have:=(B.frozen o v S).1;rw[hfr]at this;cases this)
    (by
     intro i j G x1 hi R;rw[bj.map,if_pos N];simp only at hi;rw[hes i]at hi;rw[jc m,Q];by_cases hr:d<=i/\i<d+n;·rw[if_pos hr]at hi;obtain⟨u,E,S⟩:=p.vr (i - d) j G x1 hi R;have hlt:=(ee.1 E).1;rw[Q]at hlt;have h5:d * b.esz<=i * b.esz:=mB _ hr.1;have h6:(i - d) * b.esz=i * b.esz - d * b.esz:=GB _ _ _;rw[if_pos (by omega),show i * b.esz+j - d * b.esz=(i - d) * b.esz+j by omega];exact⟨u,E,p.one u (dJ E),S⟩
     rw[if_neg hr]at hi;have hj:j<b.esz:=(by rw[<-B.cells G (dJ hi)];exact(ee.1 R).1);rw[if_neg];·obtain⟨u,E,ho,S⟩:=K i j G x1 hi R;rw[bj.map,if_pos N]at S;exact⟨u,E,ho,S⟩
     intro hcon;apply hr;have e1':d * b.esz+n * b.esz=(d+n) * b.esz:=(mo _ _ _).symm;constructor
     ·rcases fl i d with h | h
      ·have:(i+1) * b.esz<=d * b.esz:=mB _ h;rw[mo]at this;omega
      exact h
     rcases fl i (d+n)with h | h
     ·exact h
     have:(d+n) * b.esz<=i * b.esz:=mB _ h;omega)
   have I:(storeCells a (f.take (n * b.esz))).run P w = .ok () (ck w l.b (.cells (cP arr (d * b.esz) (f.take (n * b.esz))) T fz)):=by
    by_cases h0:n=0
    ·have e0:f.take (n * b.esz)=[]:=by rw[h0];simp
     rw[e0];have G:cP arr (d * b.esz) []=arr:=by simp[cP]
     rw[G];have e2:ck w l.b (.cells arr T fz)=w:=by
      unfold ck;have:w.heap.setIfInBounds l.b (.cells arr T fz)=w.heap:=by
       apply Fj;intro k;by_cases hk:l.b=k;·subst hk;rw[hh,Gy B.lt]
       rw[BZ hk]
      rw[this]
     rw[e2];simp[storeCells]
    have O:a.off=d * b.esz:=by
     rcases ha with h | h
     ·omega
     rw[h,B.esz]
    have:=nD (P:=P) (d * b.esz) (f.take (n * b.esz)) 0 arr w hh (by simpa using m) W.1 p.one;rw[uE]at this;rw[kA hsp,hbb,O];exact this
   refine⟨.int .i64 n,_,?_,M,ι,.v rfl,by rw[tZ];exact h3,by rw[tZ];exact h4,?_⟩;·have hm:src.length.min len=n:=J.symm;simp[Builtin.copy_,ht,bu hu,cO hz,hl,hm,hf,I,goInt]
   intro q lq hq;rw[aa.ej _ _ _ (by rw[hb];rfl)];exact hD q lq hq
  cases h
 cases h
def Sf{H:aa}(hS:gS M ι H.get w)(hD:s9 ι H){ts:Array TypeId}{ty:TypeId}{s x y:AV}{us ux:Value}(hs:VR M ι s us)(hx:VR M ι x ux){H':aa}
 (h:vJ P H ts[0]? s x=some (y,H')) : ∃u w',(Builtin.copy_ ts ty #[us,ux]).run P w = .ok u w'/\pg M ι H w y H' u w':=by
 unfold vJ at h;split at h
 ·rename_i z r' d len cap r2 p zP cap2 he;simp only[iF]at he;obtain⟨e,⟨t,ht,he⟩,hz⟩:=he;have hu:=gX he;split at h
  ·rename_i b b2 hb hb2;obtain⟨⟨L,S,hbz,hbz2,hz0,hfr,hle0,N⟩,h⟩:=eY.1 h;injection h with h;injection h with h1 h2;subst h1;subst h2
   subst hbz;cases hs with | bk R hbb hsp ha hcc hn hk D=>
   rename_i l a c;cases hx with | bk X hbb2 hsp2 ha2 hcc2 hn2' hk2 hzl2=>
   rename_i l2 a2 V;obtain⟨n,I⟩ : ∃n,n=Nat.min zP len:=⟨_,rfl⟩;have hnl:n<=zP:=by rw[I];exact Nat.min_le_left _ _
   have hn2:n<=len:=by rw[I];exact Nat.min_le_right _ _
   rw[<-I]at N ⊢;have hv2:VR M ι (.bk r2 p n none) (.slice (some a2) n V) := .bk X hbb2 hsp2 ha2 (wQ hnl hcc2) hn2' (λk hk=>by cases hk) hzl2;have hel:cy H.get (.bk r2 p n none)=some (b2.esz,(b2.es.drop p).take n):=(by simp only[cy,hb2];rw[if_pos ⟨S,N⟩]);rw[hbz2]at hel;obtain⟨B,K⟩:=oS (P:=P) hS hv2 hz0 hel;have hsl:((b2.es.drop p).take n).length=n:=by rw[ku,oD];omega
   generalize (b2.es.drop p).take n=src at *;have Y:n<=src.length:=by omega
   have htk:src.take n=src:=dq (by omega);suffices C : ∃u w',(Builtin.copy_ ts ty #[.slice (some a) len c,.slice (some a2) zP V]).run P w = .ok u w'/\pg M ι H w (.v (.int .i64 n)) (H.put r' (some { b with es:=b.es.take d++src.take n++b.es.drop (d+n)})) u w' by
    rw[htk]at C;exact C
   have hcl:d+n<=l.n:=by
    rcases hn with h | h
    ·have:=(hS.at R D hb).len;omega
    omega
   have A:=hS.at R D hb;obtain⟨arr,T,fz,hh,hsz,hfz,J⟩:=A.heap;have hf:(Builtin.firstCells b.esz n (.slice (some a2) zP V)).run P w=_:=K.first n w Y rfl;have hl:(Builtin.lenOf (.slice (some a2) zP V)).run P w = .ok zP w:=by simp[Builtin.lenOf]
   have m:=K.row.sub n;have Z:(src.take n).length=n:=by rw[ku,Aw Y]
   have Q:(B.take (n * b.esz)).length=n * b.esz:=(by rw[m.len,Z]);have hbl:=A.len;have f:d * b.esz+(B.take (n * b.esz)).length<=arr.size:=(by rw[Q,hsz,<-mo];exact mB _ (by omega));have hes : ∀i,(b.es.take d++src.take n++b.es.drop (d+n))[i]?=if d<=i/\i<d+n then (src.take n)[i - d]? else b.es[i]?:=by
    intro i;have l1:(b.es.take d).length=d:=by rw[ku];omega
    by_cases c1:i<d;·rw[if_neg (by omega),qP,jU (by omega),OV c1]
    by_cases V:i<d+n;·rw[if_pos ⟨by omega,V⟩,qP,gU (by omega),l1,jU (by omega)]
    rw[if_neg (by omega),gU (by rw[ja];omega),ja,l1,Z,Ac];congr 1;omega
   obtain⟨h3,h4⟩:=hS.write (k' := { b with es:=b.es.take d++src.take n++b.es.drop (d+n)}) hb R D (arr:=cP arr (d * b.esz) (B.take (n * b.esz))) (T:=T) (fz:=fz) rfl rfl rfl
    (by rw[jM f];exact hsz) (by rw[jM f];exact hfz) (by simp only[ja,ku,oD];omega)
    (by
     intro F he1;simp only[mq]at he1;rcases he1 with (h | h) | h
     ·exact A.cells F (xY h)
     ·exact m.Jh F h
     exact A.cells F (Dc h))
    (by
     intro o v W;have:=(A.frozen o v W).1;rw[hfr]at this;cases this)
    (by
     intro i j F x1 hi U;rw[bj.map,if_pos L];simp only at hi;rw[hes i]at hi;rw[jc f,Q];by_cases hr:d<=i/\i<d+n;·rw[if_pos hr]at hi;obtain⟨u,E,W⟩:=m.vr (i - d) j F x1 hi U;have hlt:=(ee.1 E).1;rw[Q]at hlt;have h5:d * b.esz<=i * b.esz:=mB _ hr.1;have h6:(i - d) * b.esz=i * b.esz - d * b.esz:=GB _ _ _;rw[if_pos (by omega),show i * b.esz+j - d * b.esz=(i - d) * b.esz+j by omega];exact⟨u,E,m.one u (dJ E),W⟩
     rw[if_neg hr]at hi;have hj:j<b.esz:=(by rw[<-A.cells F (dJ hi)];exact(ee.1 U).1);rw[if_neg];·obtain⟨u,E,ho,W⟩:=J i j F x1 hi U;rw[bj.map,if_pos L]at W;exact⟨u,E,ho,W⟩
     intro hcon;apply hr;have e1':d * b.esz+n * b.esz=(d+n) * b.esz:=(mo _ _ _).symm;constructor
     ·rcases fl i d with h | h
      ·have:(i+1) * b.esz<=d * b.esz:=mB _ h;rw[mo]at this;omega
      exact h
     rcases fl i (d+n)with h | h
     ·exact h
     have:(d+n) * b.esz<=i * b.esz:=mB _ h;omega)
   have G:(storeCells a (B.take (n * b.esz))).run P w = .ok () (ck w l.b (.cells (cP arr (d * b.esz) (B.take (n * b.esz))) T fz)):=by
    by_cases h0:n=0
    ·have e0:B.take (n * b.esz)=[]:=by rw[h0];simp
     rw[e0];have F:cP arr (d * b.esz) []=arr:=by simp[cP]
     rw[F];have e2:ck w l.b (.cells arr T fz)=w:=by
      unfold ck;have:w.heap.setIfInBounds l.b (.cells arr T fz)=w.heap:=by
       apply Fj;intro k;by_cases hk:l.b=k;·subst hk;rw[hh,Gy A.lt]
       rw[BZ hk]
      rw[this]
     rw[e2];simp[storeCells]
    have O:a.off=d * b.esz:=by
     rcases ha with h | h
     ·omega
     rw[h,A.esz]
    have:=nD (P:=P) (d * b.esz) (B.take (n * b.esz)) 0 arr w hh (by simpa using f) hfz.1 m.one;rw[uE]at this;rw[kA hsp,hbb,O];exact this
   refine⟨.int .i64 n,_,?_,M,ι,.v rfl,by rw[tZ];exact h3,by rw[tZ];exact h4,?_⟩;·have hm:Nat.min zP len=n:=I.symm;simp[Builtin.copy_,ht,bu hu,cO hz,hl,hm,hf,G,goInt]
   intro q lq hq;rw[aa.ej _ _ _ (by rw[hb];rfl)];exact hD q lq hq
  cases h
 cases h
end
def zN(arr:Array Value)(z n:Nat):List AV:=(List.range n).map λi => .agg ((List.range z).map λj => .Aj (arr.getD (i * z+j) Go.undef))
def Tp{arr:Array Value}{z n i j:Nat}{e x:AV}(a:(zN arr z n)[i]?=some e)(b:e.cells[j]?=some x):i<n/\j<z/\x = .Aj (arr.getD (i * z+j) Go.undef):=by
 unfold zN at a;rw[mr]at a;rcases fl i n with hi | hi
 ·rw[Fk hi]at a;cases a;simp only[AV.cells,mr]at b;rcases fl j z with c | c
  ·rw[Fk c]at b;cases b;exact⟨hi,c,rfl⟩
  rw[xZ (by simpa using c)]at b;cases b
 rw[xZ (by simpa using hi)]at a;cases a
def fH.Aj{M:Mem}{ι:Map}{w:World}{l:Loc}{k:bj}(h:fH M ι w l k) : ∃es:List AV,es.length=k.es.length/\(∀e∈es,e.cells.length=k.esz)/\fH M ι w l ⟨k.esz,es,true,k.gR⟩ /\
 ∀(i j:Nat) e x,es[i]?=some e->e.cells[j]?=some x ->∃u a x0,x = .Aj u/\k.es[i]?=some a/\a.cells[j]?=some x0/\VR M (k.map ι) x0 u:=by
 obtain⟨arr,T,fz,q,v,p,n⟩:=h.heap;have key : ∀(i j:Nat) e x,(zN arr k.esz k.es.length)[i]?=some e->e.cells[j]?=some x ->∃u a x0,x = .Aj u/\arr[i * k.esz+j]?=some u/\u.oneCell'=true/\k.es[i]?=some a/\a.cells[j]?=some x0/\VR M (k.map ι) x0 u:=by
  intro i j e x b c;obtain⟨hi,s,rfl⟩:=Tp b c;have a:k.es[i]?=some k.es[i]:=dI hi;have t:j<k.es[i].cells.length:=by rw[h.cells _ (eE hi)];exact s
  have m:k.es[i].cells[j]?=some k.es[i].cells[j]:=dI t;obtain⟨u,d,f,y⟩:=n i j _ _ a m;exact⟨u,_,_,by rw[Dd,d];rfl,d,f,a,m,y⟩
 refine⟨zN arr k.esz k.es.length,by simp[zN],λe b=>?_,⟨h.esz,⟨arr,T,fz,q,v,p,λi j e x b c=>?_⟩,by simpa [zN] using h.len,λe b=>?_,λo x c=>by simpa [zN] using h.frozen o x c⟩,λi j e x b c=>?_⟩;·simp only[zN,nO]at b;obtain⟨i,_,rfl⟩:=b;simp[AV.cells]
 ·obtain⟨u,a,x0,rfl,d,f,_⟩:=key i j e x b c;exact⟨u,d,f,.Aj f⟩
 ·simp only[zN,nO]at b;obtain⟨i,_,rfl⟩:=b;simp[AV.cells]
 obtain⟨u,a,x0,b1,_,_,b2,b3,b4⟩:=key i j e x b c;exact⟨u,a,x0,b1,b2,b3,b4⟩
def gS.Aj{M:Mem}{ι:Map}{H:aa}{w:World}(d:gS M ι H.get w){r:Ref}{k:bj}(t:H.get r=some k)(E:k.arr=false)(p:0<k.esz) :
 ∃es:List AV,es.length=k.es.length/\(∀e∈es,e.cells.length=k.esz)/\gS M ι (H.put r (some ⟨k.esz,es,true,k.gR⟩)).get w /\
  ∀(i j:Nat) e x,es[i]?=some e->e.cells[j]?=some x ->∃u s x0,x = .Aj u/\k.es[i]?=some s/\s.cells[j]?=some x0/\VR M ι x0 u:=by
 obtain⟨l,o,A⟩:=d.live r k t;obtain⟨es,C,F,B,v⟩:=(A.cellsOk p).Aj;have G:k.map ι=ι:=by unfold bj.map;rw[E];rfl
 rw[G]at v;refine⟨es,C,F,⟨d.mem,λq b a=>?_,λq y b f l z a n o h=>?_⟩,v⟩
 ·rw[aa.ab]at a;split at a;·rename_i e;cases a;rw[e];exact⟨l,o,B.Ud p⟩
  exact d.live q b a
 have : ∀q b,(H.put r (some ⟨k.esz,es,true,k.gR⟩)).get q=some b ->∃f,H.get q=some f:=by
  intro q b a;rw[aa.ab]at a;split at a;·rename_i e;rw[e];exact⟨k,t⟩
  exact⟨b,a⟩
 obtain⟨c,D⟩:=this q b a;obtain⟨c',m⟩:=this y f n;exact d.inj q y c c' l z D m o h
def pg.RW{M:Mem}{ι:Map}{H H0 J H':aa}{w w':World}{x:Ref}{m:Nat}{cap:Option Nat}{k1:bj}{u:Value}{es':List AV}
 (s : ∀q k,H0.get q=some k ->∃k',H.get q=some k') (h1:J.get x=some k1) (O:0<k1.esz) (D:k1.arr=true)
 (E:H'.get x=some ⟨k1.esz,es',false,k1.gR⟩) (B : ∀q k,q≠x->H'.get q=some k->J.get q=some k) (I : ∀d t,J.gen d t<=H'.gen d t)
 (A:es'.length=k1.es.length) (R : ∀e∈es',e.cells.length=k1.esz)
 (K : ∀(M':Mem)(c:Map),(∀b o v,M b o=some v->M' b o=some v)->(∀q l,ι q=some l->c q=some l) ->∀(i j:Nat) e' x',es'[i]?=some e'->e'.cells[j]?=some x' ->
  ∃N Q,k1.es[i]?=some N/\N.cells[j]?=some Q /\∀u,VR M' dO Q u->VR M' c x' u)
 (hW:pg M ι H0 w (.bk x 0 m cap) J u w'):pg M ι H w (.dsl x 0 m cap) H' u w':=by
 obtain⟨M',c,hv,L,n,hD⟩:=hW;have p : ∀q k,H'.get q=some k ->∃k',J.get q=some k':=by
  intro q k hq;by_cases e:q=x;·rw[e];exact⟨k1,h1⟩
  exact⟨k,B q k e hq⟩
 refine⟨M',c,?_,⟨L.mem,?_,?_⟩,⟨n.os,n.tape,n.output,n.size,?_,n.mem,n.map,?_,?_⟩,?_⟩;·cases hv with | bk hr f hs D hc hn F O=>exact .dsl hr f hs D hc hn F O
 ·intro q k F;by_cases e:q=x
  ·rw[e,E]at F;cases F;rw[e];obtain⟨l,z,f⟩:=L.live x k1 h1;refine⟨l,z,f.esz,λ_=>⟨f.esz,?_,?_,R,?_⟩,λe=>by simp only at e;omega,?_⟩
   ·obtain⟨arr,T,fz,a1,a2,a3,a4⟩:=(f.cellsOk O).heap;refine⟨arr,T,fz,a1,a2,a3,λi j e x he E=>?_⟩;obtain⟨N,Q,b1,b2,b3⟩:=K M' c n.mem n.map i j e x he E;obtain⟨u,c1,c2,c3⟩:=a4 i j N Q b1 b2;have hm:k1.map c=dO:=by unfold bj.map;rw[D];rfl
    rw[hm]at c3;exact⟨u,c1,c2,b3 u c3⟩
   ·have:=(f.cellsOk O).len;simp only;omega
   ·intro o v V;have:=f.frozen o v V;simp only;rw[A];exact this
   intro o v V;have:=f.frozen o v V;simp only;rw[A];exact this
  exact L.live q k (B q k e F)
 ·intro q q' k k' l l' h C z U;obtain⟨a,D⟩:=p q k h;obtain⟨b,f⟩:=p q' k' C;exact L.inj q q' a b l l' D f z U
 ·intro b f Y;exact n.chg b f λr k l h0 z=>by
   obtain⟨k',C⟩:=s r k h0;exact Y r k' l C z
 ·intro r k l h z;obtain⟨a,D⟩:=p r k h;rcases n.live r a l D z with y | ⟨G,X,Z,y,W,S⟩
  ·exact .inl y
  obtain⟨k',C⟩:=s G X y;exact .inr ⟨G,k',Z,C,W,S⟩
 ·intro b o x E;rcases n.new b o x E with y | y | ⟨G,X,Z,y,W,S⟩
  ·exact .inl y
  ·exact .inr (.inl y)
  obtain⟨k',C⟩:=s G X y;exact .inr (.inr ⟨G,k',Z,C,W,S⟩)
 intro q l z;exact Ay (hD q l z) (I _ _)
def pg.deep{M:Mem}{ι:Map}{H C y H':aa}{w w':World}{x:Ref}{m:Nat}{cap:Option Nat}{k1:bj}{u:Value}{es':List AV}
 (n : ∀q k,C.get q=some k ->∃k',H.get q=some k') (F:y.get x=some k1) (D:0<k1.esz) (G:k1.arr=true)
 (a : ∀q,H'.get q=if q=x then some ⟨k1.esz,es',false,k1.gR⟩ else y.get q) (s : ∀d t,y.gen d t<=H'.gen d t)
 (f:es'.length=k1.es.length) (z : ∀e∈es',e.cells.length=k1.esz)
 (p : ∀(M':Mem)(c:Map),(∀b o v,M b o=some v->M' b o=some v)->(∀q l,ι q=some l->c q=some l) ->∀(i j:Nat) e' x',es'[i]?=some e'->e'.cells[j]?=some x' ->
  ∃B A,k1.es[i]?=some B/\B.cells[j]?=some A /\∀u,VR M' dO A u->VR M' c x' u)
 (E:pg M ι C w (.bk x 0 m cap) y u w'):pg M ι H w (.dsl x 0 m cap) H' u w':=
 E.RW n F D G (by rw[a,if_pos rfl]) (λq k e h=>by rw[a,if_neg e]at h;exact h) s f z p
section
variable{P:Program}{M:Mem}{ι:Map}{w:World}
def EZ(r:Ref)(b:Option bj)(H:aa)(q:Ref):aa.get ((r,b) :: H) q=if r=q then b else H.get q:=rfl
def WY(r:Ref)(b:Option bj)(H:aa)(d t:Nat):aa.gen ((r,b) :: H) d t=if r.d=d/\r.t=t then r.g+1 else H.gen d t:=rfl
def O6{H:aa}(hS:gS M ι H.get w)(hD:s9 ι H){d B:Nat}{t:TypeId}{n:Nat}{vs:List (Nat × AV)}{qs:Array (Nat × Value)}{x:AV}{H':aa}
 (h:De P H ⟨d,B,H.gen d B,0⟩ t n (some vs)=some (x,H')) (hl:vs.length=qs.toList.length)
 (hp : ∀(i:Nat) p q,vs[i]?=some p->qs.toList[i]?=some q->p.1=q.1/\VR M ι p.2 q.2) :
 ∃u w',(Instr.buildSlice t n qs).run P w = .ok u w'/\pg M ι H w x H' u w':=by
 unfold De at h;split at h
 ·rename_i cs e U Z;simp only[ef]at U;subst U;split at h
  ·rename_i z s hz hs;obtain⟨S,hh⟩:=eY.1 h;clear h;obtain⟨hn1,h0,h1,h2,h3,h4,h5⟩:=S;subst hn1;injection hh with hh
   injection hh with g1 g2
   subst g1;subst g2;obtain⟨q,G⟩ : ∃q,qs.toList=[q]:=List.length_eq_one_iff.1 hl.symm;obtain⟨q1,v⟩:=hp 0 _ q rfl (by rw[G];rfl);obtain⟨k,Q⟩:=q;simp only at q1 v;subst q1;have a:=v.cells;have J:Q.cells.size=s:=by have:=a.1;simp[AV.cells]at this;omega
   obtain⟨F,b⟩ : ∃F:List AV,F=Q.cells.toList.map AV.Aj:=⟨_,rfl⟩;have m : ∀u∈Q.cells.toList,u.oneCell'=true:=(by intro u f;obtain⟨i,hi⟩:=List.mem_iff_getElem?.1 f;have hi':=(ee.1 hi).1;obtain⟨y,hy⟩ : ∃y,(AV.agg cs).cells[i]?=some y:=⟨_,dI (by rw[a.1];exact hi')⟩;refine(a.2 i y u hy hi).one ?_;rw[gf]at h5;exact h5 y (dJ hy));have O:VR M dO (.agg F) (.agg Q.cells):=(by refine .agg (by rw[b];simp) λi c u S f=>?_;rw[b,mr]at S;rw[<-Gw]at f;rw[f]at S;cases S;exact .Aj (m u (dJ f)));obtain⟨it,zu,W,hiz,hzu⟩:=th hz;obtain⟨ie,I,hsz⟩:=vQ hs;rw[W]at I;cases I;have K:=jB (M:=M) (ι:=dO) hzu;have Y:zu.cells.size=s:=by have:=K.cells.1;simp at this;omega
   have o:=Row.replicate K h2 h3 1;have A:Row M s (List.replicate 1 z) ((Array.range (1 * s)).map (zu.cells[· % zu.cells.size]!)).toList:=(by have:=xk (zs:=zu.cells) (n:=1) (by omega);rw[Y]at this;rw[Y,this];exact o);have V : ∃us,Q = .agg us:=by cases v with | agg hl h=>exact⟨_,rfl⟩
   obtain⟨us,rfl⟩:=V;have hcu:(Value.agg us).cells=us:=rfl;rw[hcu]at O J b m a;obtain⟨h7,l,h8,h9⟩:=DY (M:=M) [(0,AV.agg F)] [(0,Value.agg us)] (List.replicate 1 z) [.agg F] _ rfl A rfl (λi p q hp G=>by
    match i,hp,G with
    | 0,hp,G=>cases hp;cases G;exact⟨rfl,O⟩) (by
    intro p R;simp only[mA]at R;subst R;refine⟨by simp[AV.cells,b,J],?_⟩;rw[b];simp[AV.cells,AV.one])
   have X:(Instr.buildSlice t 1 qs).run P w = .ok (.slice (some ⟨w.heap.size,0,none⟩) 1 1) (w.alloc (.cells l e)):=(by have hle : ¬16777216<1 * s:=(by omega);have hn0 : ¬1 * s=0:=(by omega);simp only[Instr.buildSlice,iQf,bu (gX Z),iQd,cO hs,gt_iff_lt];rw[if_neg hle,if_neg hn0];simp only[iQf,zeroValue,typeInfo,W,hiz,run_program,iQd,iQj,G,h8];simp[newRow]);have C:Eg w (w.alloc (.cells l e)) (.cells l e (0,0)):=⟨rfl,rfl,rfl,rfl⟩;have N:l.size=1 * s:=(by rw[<-BX,h9.len];rfl);have hqo:=vB (r:=⟨d,B,H.gen d B,0⟩) hS rfl (hD.fresh d B 0) C h9 (λk u f=>by simpa using f) (n:=1) (c:=1) N (C6.zero _ _) (cG _) (cG _) (cap:=some 1) (by intro k E;cases E;rfl) h0;have hW:=hqo.toW hD;refine⟨_,_,X,hW.RW (k1:=⟨s,[.agg F],true,false⟩) (es':=[.agg cs]) (λq k E=>⟨k,E⟩) ?_ h0 rfl ?_ ?_ ?_ rfl ?_ ?_⟩;·simp[keyed,aa.get]
   ·simp[aa.get]
   ·intro q k hne E;have T : ¬(⟨d,B,H.gen d B,0⟩:Ref)=q:=λe=>hne e.symm;simp only[aa.get,if_neg T,keyed]at E ⊢;exact E
   ·intro d' t';exact cG _
   ·intro e Z;simp only[mA]at Z;subst Z;exact h4
   intro M' ι' hM hι i j e' x' D L;match i,D with
   | 0,D=>cases D;have hj:=(ee.1 L).1;obtain⟨u,f⟩ : ∃u,us.toList[j]?=some u:=⟨_,dI (by rw[<-a.1];exact hj)⟩;refine⟨_,.Aj u,rfl,by simp only[AV.cells,b,mr,f];rfl,λu' hu'=>?_⟩;have h6:=a.2 j x' u L f;cases hu' with | Aj _=>exact h6.mono hM ι' hι
  cases h
 cases h
def UO{H:aa}(hS:gS M ι H.get w)(hD:s9 ι H){d A:Nat}{X:Array TypeId}{ty:TypeId}{s x y:AV}{us ux:Value}(hs:VR M ι s us)(hx:VR M ι x ux){H':aa}
 (h:Q6 P H ⟨d,A,H.gen d A,0⟩ X[0]? X[1]? s x=some (y,H')) : ∃u w',(Builtin.append_ X ty #[us,ux]).run P w = .ok u w'/\pg M ι H w y H' u w':=by
 unfold Q6 at h;split at h
 ·rename_i e B m cx he;split at h;·cases h
  rename_i hc;split at h
  ·rename_i z by' zz n hz V hzz C;split at h;·cases h
   rename_i c;have hax:n.arr=false:=by
    cases hh:n.arr with| false=>rfl| true=>exact absurd (.inl hh) c
   have hbz:n.esz=z:=wT.1 λh=>c (.inr (.inl h));have hz0:z≠0:=λh=>c (.inr (.inr (.inl h)));have hb0:by'≠0:=λh=>c (.inr (.inr (.inr (.inl h))));have hn0:n.es≠[]:=λh=>c (.inr (.inr (.inr (.inr (.inl h)))));have hzl:zz.cells.length=z:=wT.1 λh=>c (.inr (.inr (.inr (.inr (.inr (.inl h))))));have hm:m=n.es.length:=wT.1 λh=>c (.inr (.inr (.inr (.inr (.inr (.inr h))))));have W : ∀e∈n.es,e.cells.length=z:=(by obtain⟨l,_,V⟩:=hS.live B n C;rw[<-hbz];exact(V.cellsOk (by omega)).cells);obtain⟨a,U,a2,a3,a4⟩:=hS.Aj C hax (by omega);obtain⟨G,hH0⟩ : ∃G,G=H.put B (some ⟨n.esz,a,true,n.gR⟩):=⟨_,rfl⟩;rw[<-hH0]at a3;have R : ∀q,G.get q=if q=B then some ⟨n.esz,a,true,n.gR⟩ else H.get q:=λq=>by rw[hH0,aa.ab]
   have o : ∀d t,G.gen d t=H.gen d t:=λd t=>by rw[hH0,aa.ej _ _ _ (by rw[C];rfl)]
   have hD0:s9 ι G:=λq l hl=>by rw[o];exact hD q l hl
   have hx0:VR M ι (.bk B 0 m cx) ux:=by cases hx with | dsl hr V hs ha hc hn p hz=>exact .bk hr V hs ha hc hn p hz
   have hrx:G.get B=some ⟨n.esz,a,true,n.gR⟩:=(by rw[R,if_pos rfl]);have hel : ∀K:aa,K.get B=some ⟨n.esz,a,true,n.gR⟩->mK P K.get e (.bk B 0 m cx)=some (z,a):=by
    intro K hK;have e1:(a.drop 0).take m=a:=by
     rw[En,hm,<-U,BW]
    simp only[mK,cy,hK];rw[if_pos ⟨trivial,by omega⟩,e1,hbz]
   have hne0:a≠[]:=λh=>hn0 (wU.1 (by rw[<-U,h];rfl));have hc0 : ¬((X[1]?.bind P.underlying).isNone=true\/(X[1]?.map (isInt P)).getD false≠isNum (.bk B 0 m cx)):=hc;have S : ∀q k,G.get q=some k ->∃k',H.get q=some k':=by
    intro q k I;rw[R]at I;split at I;·rename_i e;rw[e];exact⟨n,C⟩
    exact⟨k,I⟩
   split at h
   ·obtain⟨E,h⟩:=eY.1 h;cases h;have hfr0:=hD.fresh d A 0;have O:H.get ⟨d,A,H.gen d A,0⟩=none:=by
     cases hg:H.get ⟨d,A,H.gen d A,0⟩ with| none=>rfl| some b=>obtain⟨l,hl,_⟩:=hS.live _ _ hg;rw[hl]at hfr0;cases hfr0
    have hne:(⟨d,A,H.gen d A,0⟩:Ref)≠B:=λe=>by rw[e,C]at O;cases O
    have I:eG P G.get ⟨d,A,G.gen d A,0⟩ X[0]? X[1]? (.v (.slice none 0 0)) (.bk B 0 m cx)=some (.bk ⟨d,A,G.gen d A,0⟩ 0 a.length none,[⟨z,a,true,false⟩]):=(by simp only[eG,he,if_neg hc0,hz,V,hzz,hel G hrx];rw[if_neg (λh=>h.elim (λh=>h rfl) λh=>h.elim hz0 λh=>h.elim hb0 λh=>h hzl),if_neg hne0,if_pos (by rw[U,<-hm];exact E)]);obtain⟨u,w',h5,h6⟩:=Ik (P:=P) (ty:=ty) a3 rfl (hD0.fresh d A 0) hs hx0 I;have hW:=h6.toW hD0;rw[o,U,<-hm]at hW;refine⟨u,w',h5,hW.RW (k1:=⟨z,a,true,false⟩) (es':=n.es) S ?_ (by simp only;omega) rfl ?_ ?_ ?_ U.symm W ?_⟩;·simp[keyed,aa.get]
    ·simp[aa.get]
    ·intro q k I p;have N : ¬(⟨d,A,H.gen d A,0⟩:Ref)=q:=λe=>I e.symm;simp only[keyed];rw[EZ,if_neg N,aa.ab]at p;rw[EZ,if_neg N,R];split at p;·cases p
     rename_i hne2;rw[if_neg hne2];exact p
    ·intro d' t';simp only[keyed,WY,aa.ej _ _ _ (show(H.get B).isSome=true by rw[C];rfl),o];exact cG _
    intro M' Z hM hι i j e' x' f L;have hi:i<a.length:=by rw[U];exact(ee.1 f).1
    have g0:a[i]?=some a[i]:=dI hi;have hj:j<a[i].cells.length:=(by have h5:=(ee.1 L).1;rw[W _ (dJ f)]at h5;rw[a2 _ (eE hi)];omega);have g1:a[i].cells[j]?=some a[i].cells[j]:=dI hj;obtain⟨u,e2,x2,b1,b2,b3,b4⟩:=a4 i j _ _ g0 g1;rw[f]at b2;cases b2;rw[L]at b3;cases b3;refine⟨_,_,g0,g1,λu' J=>?_⟩;rw[b1]at J;cases J with | Aj _=>exact b4.mono hM Z hι
   ·rename_i r' len;split at h
    ·rename_i b hbr;obtain⟨⟨har,hrz,hlen,hrr,E⟩,h⟩:=eY.1 h;cases h;have hbr0:G.get r'=some b:=by rw[R,if_neg hrr];exact hbr
     have hcr : ∀e∈b.es,e.cells.length=z:=(by obtain⟨l,_,V⟩:=hS.live r' b hbr;rw[<-hrz];exact(V.cellsOk (by omega)).cells);obtain⟨T,c1,c2,c3,c4⟩:=a3.Aj hbr0 har (by omega);obtain⟨F,hH1⟩ : ∃F,F=G.put r' (some ⟨b.esz,T,true,b.gR⟩):=⟨_,rfl⟩;rw[<-hH1]at c3;have Y : ∀q,F.get q=if q=r' then some ⟨b.esz,T,true,b.gR⟩ else G.get q:=λq=>by rw[hH1,aa.ab]
     have D : ∀d t,F.gen d t=H.gen d t:=λd t=>by rw[hH1,aa.ej _ _ _ (by rw[hbr0];rfl),o]
     have hD1:s9 ι F:=λq l hl=>by rw[D];exact hD q l hl
     have hs0:VR M ι (.bk r' 0 len none) us:=by cases hs with | dsl hr V hs ha hc hn p hz=>exact .bk hr V hs ha hc hn p hz
     have hr1:F.get r'=some ⟨b.esz,T,true,b.gR⟩:=(by rw[Y,if_pos rfl]);have hrx1:F.get B=some ⟨n.esz,a,true,n.gR⟩:=by rw[Y,if_neg (λe=>hrr e.symm)];exact hrx
     have hdom1 : ∀q k,F.get q=some k ->∃k',H.get q=some k':=by
      intro q k I;rw[Y]at I;split at I;·rename_i e;rw[e];exact⟨b,hbr⟩
      exact S q k I
     have hw:j9 P F X[0]? X[1]? (.bk r' 0 len none) (.bk B 0 m cx)=some (.bk ⟨r'.d,r'.t,F.gen r'.d r'.t,0⟩ 0 (len+a.length) none,(⟨r'.d,r'.t,F.gen r'.d r'.t,0⟩,some ⟨z,T++a,true,b.gR⟩) :: F.put r' none):=(by simp only[j9,he,if_neg hc0,hz,V,hzz,hel F hrx1];rw[if_neg (λh=>h.elim (λh=>h rfl) λh=>h.elim hz0 λh=>h.elim hb0 λh=>h.elim hne0 λh=>h hzl)];simp only[hr1];rw[if_pos ⟨trivial,trivial,hrz,by rw[c1];exact hlen,by rw[U,<-hm];exact E⟩]);obtain⟨u,w',h5,hW⟩:=Hf (P:=P) (ty:=ty) c3 hD1 hs0 hx0 hw;rw[D,U,<-hm]at hW;have hcat : ∀e∈b.es++n.es,e.cells.length=z:=λe he=>(mq.1 he).elim (hcr e) (W e);refine⟨u,w',h5,hW.RW (k1:=⟨z,T++a,true,b.gR⟩) (es':=b.es++n.es) hdom1 ?_ (by simp only;omega) rfl ?_ ?_ ?_ (by simp only[ja,U,c1]) hcat ?_⟩;·rw[EZ,if_pos rfl]
     ·rw[EZ,if_pos rfl]
     ·intro q k I p;have N : ¬(⟨r'.d,r'.t,H.gen r'.d r'.t,0⟩:Ref)=q:=λe=>I e.symm;rw[EZ,if_neg N,aa.ab]at p;rw[EZ,if_neg N,aa.ab];split at p;·cases p
      rename_i n1;rw[aa.ab]at p;split at p;·cases p
      rename_i n2;rw[if_neg n1,Y,if_neg n1,R,if_neg n2];exact p
     ·intro d' t';have s1:(H.get B).isSome=true:=by rw[C];rfl
      have s2:((H.put B none).get r').isSome=true:=by rw[aa.ab,if_neg hrr,hbr];rfl
      have s3:(F.get r').isSome=true:=by rw[hr1];rfl
      simp only[WY,aa.ej _ _ _ s2,aa.ej _ _ _ s1,aa.ej _ _ _ s3,D];exact cG _
     intro M' Z hM hι i j e' x' f L;have both : ∀ {k:bj} {Q:List AV} (i:Nat),Q.length=k.es.length->(∀e∈Q,e.cells.length=k.esz)->(∀e∈k.es,e.cells.length=k.esz)->(∀(i j:Nat) e x,Q[i]?=some e->e.cells[j]?=some x ->∃u e0 x0,x = .Aj u/\k.es[i]?=some e0/\e0.cells[j]?=some x0/\VR M ι x0 u) ->
      k.es[i]?=some e' ->∃e1 x1,Q[i]?=some e1/\e1.cells[j]?=some x1 /\∀u,VR M' dO x1 u->VR M' Z x' u:=by
      intro k Q i l1 l2 l4 l3 f;have hi:i<Q.length:=by rw[l1];exact(ee.1 f).1
      have g0:Q[i]?=some Q[i]:=dI hi;have hj:j<Q[i].cells.length:=(by have h5:=(ee.1 L).1;rw[l4 _ (dJ f)]at h5;rw[l2 _ (eE hi)];exact h5);have g1:Q[i].cells[j]?=some Q[i].cells[j]:=dI hj;obtain⟨u,e2,x2,b1,b2,b3,b4⟩:=l3 i j _ _ g0 g1;rw[f]at b2;cases b2;rw[L]at b3;cases b3;refine⟨_,_,g0,g1,λu' J=>?_⟩;rw[b1]at J;cases J with | Aj _=>exact b4.mono hM Z hι
     rcases fl i b.es.length with hlt | hge
     ·rw[jU hlt]at f;obtain⟨e1,x1,g1,g2,g3⟩:=both (k:=b) i c1 c2 (by rw[hrz];exact hcr) c4 f;exact⟨e1,x1,by rw[jU (by omega)];exact g1,g2,g3⟩
     rw[gU hge]at f;obtain⟨e1,x1,g1,g2,g3⟩:=both (k:=n) (i - b.es.length) U a2 (by rw[hbz];exact W) a4 f;exact⟨e1,x1,by rw[gU (by omega),c1];exact g1,g2,g3⟩
    cases h
   cases h
  cases h
 cases h
end
end
end Go.Ab
