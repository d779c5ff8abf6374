/-
  What the abstract machine's quiet operations give is what the model's give: the first part. No statement of a seat is proved here.
-/
import Derived.Lib.Overlaps
import Derived.Lib.SliceRun
import Derived.WalkSpells
import Derived.Test.YtiidajnodhkidaaGreatAbsCore
set_option linter.unusedVariables false
set_option linter.unusedSimpArgs false
set_option linter.unusedSectionVars false
set_option linter.unnecessarySimpa false
set_option linter.defProp false
namespace Go.Ab
section
def tV(g:dv)(r:Ref)(bs:List bC):dv:=λq=>if q.d=r.d/\q.t=r.t/\q.g=r.g/\q.k<bs.length then bs[q.k]? else g q
def oB(g:dv)(r:Ref):tV g r []=g:=by funext q;simp[tV]
def sM(g:dv)(r:Ref)(a:r.k=0)(b:bC):tV g r [b]=mF g r b:=by
 funext q;unfold tV mF;by_cases h:q=r;·subst h;simp[a]
 rw[if_neg h,if_neg];intro c;apply h;cases q;cases r;simp_all
structure TR (M:Mem) (ι:Map) (tm:List AV) (a:Act):Prop where
 at_ : ∀t,VR M ι (dE tm t) (a.tmps.getD t undef)
def TR.mono{M ι tm a M' ι'}(h:TR M ι tm a)(d : ∀b o x,M b o=some x->M' b o=some x)(c : ∀r l,ι r=some l->ι' r=some l):TR M' ι' tm a:=
 ⟨λt=>(h.at_ t).mono d ι' c⟩
def bk{M ι tm a}(h:TR M ι tm a){x:Operand}{y:AV}(b:aW tm x=some y):VR M ι y (a.eval x):=by
 cases x with| tmp t=>simp[aW]at b;subst b;exact h.at_ t| const v=>simp only[aW]at b;exact jV b| global g=>simp[aW]at b| func f=>simp[aW]at b;subst b;exact .fn rfl rfl (λi c u d=>by simp at d) (λi c u d=>by simp at d)
def nk{M ι tm a}(h:TR M ι tm a){d:List Operand}{c:List AV}(f:d.mapM (aW tm)=some c):mM M ι c (d.map a.eval):=
 ⟨by simpa using iG f,λi y u j e=>by
  obtain⟨x,b,k⟩:=pD f i y j;simp only[nM,b,Option.map_some,eS]at e;subst e;exact bk h k⟩
def kD(M:Mem)(ι:Map)(g:dv)(w:World)(r:Ref)(x:AV)(bs:List bC)(u:Value)(w':World):Prop:=
 ∃M' a,VR M' a x u/\iA M' a (tV g r bs) w'/\vg M ι g w M' a (tV g r bs) w' /\∀q,ι q=none->(∀k,k<bs.length->q ≠ { r with k:=k})->a q=none
def kD.same{M ι g w r x u}(a:iA M ι g w)(h:VR M ι x u):kD M ι g w r x [] u w:=
 ⟨M,ι,h,by rw[oB];exact a,by rw[oB];exact vg.refl,λq b _=>b⟩
def iA.drew{M ι g w w'}(a:iA M ι g w)(c:w'.heap=w.heap):iA M ι g w':=
 ⟨λb o x h=>by rw[iQk (w:=w) (by rw[c])];exact a.mem b o x h,λr k h=>by
  obtain⟨l,e,d⟩:=a.live r k h;exact⟨l,e,d.bT (λ_ _ _ h=>h) (λ_ _ h=>h) (by rw[c]) d.frozen⟩,a.inj⟩
def FW(ro:Option Nat):Fence := { Fence.wide with round:=ro}
def fI(P:Program)(o:Oper)(a:Act)(w:World)(S:Value->World->Prop):Prop:=
 ∀(ro:Option Nat)(K:Act->World->Prop)(Q:Exit->Act->World->Prop),(∀u w',S u w'->K (a.put o.dst u) w')->o.wpIn (FW ro) 0 P a w K Q
def BE{P:Program}{o:Oper}{a:Operand->Value}{w w':World}{x:Next}(ro:Option Nat)(h:(execOp a o).run P w = .ok x w')(j : ∀d,x ≠ .defer d):(Oper.semAt ro a o).run P w = .ok x w':=by
 by_cases hd : ∃c,o.op = .defer c
 ·exfalso;obtain⟨c,b⟩:=hd;simp only[execOp,b]at h;rw[iQg]at h;cases f:(resolve a c o.type).run P w with
  | ok d i=>rw[f]at h;simp only[iQd,iQj,Result.ok.injEq]at h;exact j _ h.1.symm
  | halt e i=>rw[f]at h;cases h
 rw[Oper.semAt_eq ro a o λc b=>hd ⟨c,b⟩];exact h
def fI.kN{P o a w S u w'}(c:(execOp a.eval o).run P w = .ok (.value u) w')(h:S u w'):fI P o a w S:=by
 intro ro K Q b;refine⟨λ_ _=>trivial,?_⟩;rw[BE (x := .value u) (FW ro).round c (by intro d e;cases e)];exact b _ _ h
def fI.Gw{P o a w S w'}(c:(execOp a.eval o).run P w = .ok .skip w')(h:S undef w'):fI P o a w S:=by
 intro ro K Q b;refine⟨λ_ _=>trivial,?_⟩;rw[BE (x := .skip) (FW ro).round c (by intro d e;cases e)];exact b _ _ h
def fI.Ir{P o a w S f args w0}(j:(execOp a.eval o).run P w = .ok (.enter f args) w0)(h:Calls P f args w0 λe w' =>∃u,e = .returned u/\S u w'):fI P o a w S:=by
 intro ro K Q c;refine⟨λ_ _=>trivial,?_⟩;rw[BE (x := .enter f args) (FW ro).round j (by intro d e;cases e)];refine⟨λh=>absurd h (by simp[FW,Fence.wide]),?_⟩;have i:CallsIn Fence.wide 0 P f args w0 λe w' =>∃u,e = .returned u/\S u w':=callsIn_wide.2 h;have b:CallsIn (FW ro) (0 - 1) P f args w0 λe w' =>∃u,e = .returned u/\S u w':=i;refine b.mono λe w' ⟨u,he,hS⟩=>?_;subst he;exact c _ _ hS
def fI.V5{P o a w S l f tmps assign body w0}(i:(execOp a.eval o).run P w = .ok (.round l f tmps assign body) w0)(h:RoundIn (FW none) 0 P l f tmps assign body w0 λe w' =>∃u,e = .returned u/\S u w'):fI P o a w S:=by
 intro ro K Q c;refine⟨λ_ _=>trivial,?_⟩;rw[BE (x := .round l f tmps assign body) (FW ro).round i (by intro d e;cases e)];refine⟨λh=>absurd h (by simp[FW,Fence.wide]),?_⟩;have b:RoundIn (FW ro) (0 - 1) P l f tmps assign body w0 λe w' =>∃u,e = .returned u/\S u w':=h;refine b.mono λe w' ⟨u,he,hS⟩=>?_;subst he;exact c _ _ hS
def jh(a:Act)(d:Option Tmp)(u:Value):(a.put d u).defers=a.defers:=by cases d<;>rfl
def HU{P:Program}{s:Sem Value}{w w':World}{u:Value}(h:s.run P w = .ok u w'):(do pure (Next.value (<-s)):Sem Next).run P w = .ok (.value u) w':=by
 simp[h]
section
variable{P:Program}{M:Mem}{ι:Map}{g:dv}{w:World}{r:Ref}
def BW{x:AV}{u:Value}{b:Bool}(h:VR M ι x u)(a:Fl x=some b):u = .bool b:=by
 cases h<;>simp[Fl]at a;split at a<;>simp_all
def yX{x:AV}{u:Value}{n:Int}(h:VR M ι x u)(a:Ab.uJ x=some n) : ∃k,u = .int k n:=by
 cases h<;>simp[Ab.uJ]at a;split at a<;>simp_all
def Wd(s:iA M ι g w)(o:r.k=0)(B:ι r=none){e:TypeId}{n:Nat}{x:AV}{u:Value}(D:VR M ι x u)(A:x.cells.length=n)(p:x.cells.all AV.one=true)(m:0<n) :
 ∃w',(Instr.box e u).run P w = .ok (.pointer (some ⟨w.heap.size,0,none⟩)) w'/\kD M ι g w r (.ptr r 0 0) [⟨n,[x],false,false⟩] (.pointer (some ⟨w.heap.size,0,none⟩)) w':=by
 have a:=D.cells;have c:u.cells.size=n:=by have:=a.1;simp at this;omega
 obtain⟨v,z⟩:=s.alloc (q:=r) B (w':=w.alloc (.cells u.cells e)) (arr:=u.cells) (T:=e) (fz:=(0,0)) ⟨rfl,rfl,rfl,rfl⟩ ⟨n,[x],false,false⟩ m 1 (by simpa using c) (Di.zero _ _) (by simp) (by simp[A])
  (by
   intro i j E y f b;cases i with
   | succ i=>simp at f
   | zero=>
    simp at f;subst f;have h:j<u.cells.size:=by have:=(fg.1 b).1;omega
    refine⟨u.cells[j],by simp,?_,?_⟩;·have t:=a.2 j y u.cells[j] b (by simp[h]);exact t.one (by simp only[gP]at p;exact p y (ja b))
    simpa [bC.map] using a.2 j y u.cells[j] b (by simp[h]))
 refine⟨w.alloc (.cells u.cells e),by simp[Instr.box,newVar,newRow],M,_,?_,by rw[sM _ _ o];exact v,by rw[sM _ _ o];exact z,?_⟩;·have:=VR.ptr (M:=M) (ι:=lQ ι r ⟨w.heap.size,n,1⟩) (r:=r) (i:=0) (j:=0) (l:=⟨w.heap.size,n,1⟩) (by simp[lQ]) m;simpa using this
 intro q d C;have:q≠r:=by intro e;exact C 0 (by simp) (by rw[e];cases r;simp_all)
 simpa [lQ,this] using d
def S7(b:iA M ι g w)(m:r.k=0)(f:ι r=none){e:TypeId}{x:AV}{bs:List bC}(h:wc P r e=some (x,bs)) :
 ∃u w',(Instr.alloc e true (.tuple #[])).run P w = .ok u w'/\kD M ι g w r x bs u w':=by
 unfold wc at h;split at h
 ·rename_i z n j o;split at h
  ·rename_i a;cases h;obtain⟨u,i,c⟩:=yL j w;obtain⟨w',l,d⟩:=Wd (P:=P) (e:=e) b m f (jV c) a.1 a.2.1 a.2.2;refine⟨_,w',?_,d⟩;have:(Instr.alloc e true (.tuple #[])).run P w=(Instr.box e u).run P w:=by simp[Instr.alloc,i,Instr.box]
   rw[this];exact l
  cases h
 cases h
def Y6(c:iA M ι g w)(m:r.k=0)(i:ι r=none){e:TypeId}{y x:AV}{b:Value}(d:VR M ι y b){bs:List bC}(h:JD P r e (some y)=some (x,bs)) :
 ∃u w',(Instr.box e b).run P w = .ok u w'/\kD M ι g w r x bs u w':=by
 unfold JD at h;split at h
 ·rename_i p n j o;cases j;split at h;·rename_i a;cases h;obtain⟨w',l,f⟩:=Wd (P:=P) (e:=e) c m i d a.1 a.2.1 a.2.2;exact⟨_,w',l,f⟩
  cases h
 cases h
def VI(f:iA M ι g w){t:TypeId}{y x:AV}{l:Value}(k:VR M ι y l){bs:List bC}(h:oT P g t (some y)=some (x,bs)) :
 bs=[] /\∃u,(Instr.loadAt t l).run P w = .ok u w/\VR M ι x u:=by
 unfold oT at h;split at h
 ·rename_i r' i j p n c e d;cases c;split at h;·rename_i b m;simp only[ku,bU]at h;obtain⟨o,a,c⟩:=h;cases c;exact⟨rfl,Rx e d f k m a⟩
  cases h
 ·rename_i esz es i j p n c e d;cases c;simp only[ku,bU]at h;obtain⟨o,a,c⟩:=h;cases c;exact⟨rfl,WA e d f.mem k a⟩
 cases h
def Rr{t:TypeId}{cs:List AV}{c:Array Value}{a:Nat}{x:AV}(d:mM M ι cs c.toList)(h:AZ P t cs a=some x) : ∃u,(part t c a).run P w = .ok u w/\VR M ι x u:=by
 unfold AZ at h;split at h
 ·rename_i n f j;split at h
  ·rename_i k;cases h;refine⟨.agg (c.extract a (a+n)),by simp[part,BG f,dm j],VR.rh.2 ?_⟩;have:=(d.drop a).take n;have e:(c.extract a (a+n)).toList=(c.toList.drop a).take n:=by
    rw[OX,O3,K7]
   rw[e];exact this
  cases h
 ·rename_i f;have i:=(fg.1 h).1;have b:a<c.size:=by have:=d.1;simp at this;omega
  refine⟨c[a],by simp[part,BG f,kY b],d.2 a x _ h (by simp[b])⟩
 cases h
def VR.R0{cs:List AV}{u:Value}(h:VR M ι (.agg cs) u) : ∃a,u = .agg a/\mM M ι cs a.toList:=by
 cases h with | agg c b=>exact⟨_,rfl,VR.rh.1 (.agg c b)⟩
def J3{t:TypeId}{f a:Nat}{i:TypeId}(h:tJ P t f=some (a,i)) : ∃c b,P.underlying t=some (.struct c)/\c[f]?=some b/\b.offset=a/\b.type=i:=by
 unfold tJ at h;split at h;·rename_i c d;simp only[bU]at h;obtain⟨b,e,he⟩:=h;cases he;exact⟨c,b,d,e,rfl,rfl⟩
 cases h
def S5{t:TypeId}{f:Nat}{y x:AV}{d:Value}(m:VR M ι y d){bs:List bC}(h:uV P t (some y) f=some (x,bs)) :
 bs=[] /\∃u,(Instr.field t d f).run P w = .ok u w/\VR M ι x u:=by
 unfold uV at h;split at h;·rename_i e q cs k c;cases c;simp only[ku,bU]at h;obtain⟨s,a,c⟩:=h;cases c;obtain⟨p,rfl,b⟩:=m.R0;obtain⟨o,fd,n,j,rfl,rfl⟩:=J3 k;obtain⟨u,l,i⟩:=Rr (w:=w) b a;exact⟨rfl,u,by simp[Instr.field,bL n,j,asAgg,l],i⟩
 cases h
def IK{t:TypeId}{f a s:Nat}(h:aL P t f=some (a,s)) : ∃c b,P.underlying t=some (.struct c)/\c[f]?=some b/\b.offset=a/\aV P b.type=some s:=by
 unfold aL at h;split at h;·rename_i d o k;simp only[bU]at h;obtain⟨n,i,he⟩:=h;cases he;obtain⟨c,b,l,j,e,m⟩:=J3 k;exact⟨c,b,l,j,e,m ▸ i⟩
 cases h
def JC{t:TypeId}{f:Nat}{y x:AV}{c:Value}(k:VR M ι y c){bs:List bC}(h:kM P t (some y) f=some (x,bs)) :
 bs=[] /\∃u,(Instr.fieldAt t c f).run P w = .ok u w/\VR M ι x u:=by
 unfold kM at h;split at h
 ·rename_i p s v;obtain⟨D,fd,B,q,rfl,C⟩:=IK v;split at h
  ·rename_i E;have m : ∀(b o:Nat),c = .pointer (some ⟨b,o,none⟩)->(Instr.fieldAt t c f).run P w = .ok (.pointer (some ⟨b,o+fd.offset,none⟩)) w:=by
    intro b o e;subst e;simp[Instr.fieldAt,bL B,q,Instr.sureAddr,fieldPlace,dm C,show s≠0 by omega,iM]
   split at h
   ·rename_i r' i j a;cases a;cases h;cases k with | ptr z d=>
    rename_i l;exact⟨rfl,_,m _ _ rfl,by rw[GX];exact .ptr z d⟩
   ·rename_i n es i j a;cases a;cases h;cases k with | iptr cell hm a A=>
    rename_i b o;exact⟨rfl,_,m _ _ rfl,by rw[show o+(i * n+j)+fd.offset=o+(i * n+(j+fd.offset)) by omega];exact .iptr cell hm a A⟩
   cases h
  cases h
 cases h
def iD{t e:TypeId}(h:eK P t=some e):P.underlying t=some (.slice e):=by
 unfold eK at h;split at h;·cases h;assumption
 cases h
def Gp{t e:TypeId}{n:Nat}(h:mf P t=some (n,e)):P.underlying t=some (.array n e):=by
 unfold mf at h;split at h;·cases h;assumption
 cases h
def JB(U:iA M ι g w){t:TypeId}{y z x:AV}{O W:Value}(L:VR M ι y O)(Y:VR M ι z W){bs:List bC}(h:cb P g t (some y) (some z)=some (x,bs)) :
 bs=[] /\∃u,(Instr.indexAt t O W).run P w = .ok u w/\VR M ι x u:=by
 unfold cb at h;simp only[fe]at h;split at h
 ·rename_i k hk;obtain⟨ki,rfl⟩:=yX Y hk;split at h
  ·rename_i e T;have G:=iD T;split at h
   ·rename_i esz es cap s d B;cases d;split at h
    ·rename_i A;obtain⟨K,C,rfl⟩:=A;cases h;cases L with | bE cell f N H hm Q S=>
     rename_i a c;refine⟨rfl,.pointer (some (a.add (k.toNat * s))),?_,?_⟩;·simp[Instr.indexAt,asIntOf,bL G,K,C,dm B]
     have f:=f.resolve_right (by intro e;subst e;simp at C;omega);rw[kV f,iM];have:=VR.iptr (M:=M) (ι:=ι) (i:=k.toNat) (j:=0) (b:=a.block) (o:=a.off) cell hm Q S;simpa using this
    cases h
   ·rename_i r' m len cap s d B;cases d;split at h
    ·rename_i b R;split at h
     ·rename_i A;obtain⟨K,C,D⟩:=A;cases h;cases L with | ct I F f J N hn H v=>
      rename_i l a c;obtain⟨l',p,E⟩:=U.live r' b R;rw[I]at p;cases p;refine⟨rfl,.pointer (some (a.add (k.toNat * s))),?_,?_⟩;·simp[Instr.indexAt,asIntOf,bL G,K,C,dm B]
      have q:a.off=m * l.esz:=by
       rcases J with h | h
       ·omega
       exact h
      rw[kV f,iM,F,q,D,<-E.esz,<-mR];have:=VR.ptr (M:=M) (ι:=ι) (i:=m+k.toNat) (j:=0) I v;simpa using this
     cases h
    cases h
   ·rename_i r' m len cap s d B;cases d;split at h
    ·rename_i b R;split at h
     ·rename_i A;obtain⟨K,C,D⟩:=A;cases h;cases L with | dsl I F f J N hn H v=>
      rename_i l a c;obtain⟨l',p,E⟩:=U.live r' b R;rw[I]at p;cases p;refine⟨rfl,.pointer (some (a.add (k.toNat * s))),?_,?_⟩;·simp[Instr.indexAt,asIntOf,bL G,K,C,dm B]
      have q:a.off=m * l.esz:=by
       rcases J with h | h
       ·omega
       exact h
      rw[kV f,iM,F,q,D,<-E.esz,<-mR];have:=VR.ptr (M:=M) (ι:=ι) (i:=m+k.toNat) (j:=0) I v;simpa using this
     cases h
    cases h
   cases h
  split at h
  ·rename_i n e J;have G:=Gp J;have V : ∀(b o s:Nat),O = .pointer (some ⟨b,o,none⟩)->aV P e=some s->0<=k->k<n->(Instr.indexAt t O (.int ki k)).run P w = .ok (.pointer (some ⟨b,o+k.toNat * s,none⟩)) w:=by
    intro b o s e C X h3;subst e;simp[Instr.indexAt,asIntOf,bL G,Instr.sureAddr,X,h3,dm C,iM]
   split at h
   ·rename_i r' i j s d B;cases d;split at h
    ·rename_i A;cases h;cases L with | ptr Z v=>
     exact⟨rfl,_,V _ _ _ rfl B A.1 A.2,by rw[GX];exact .ptr Z v⟩
    cases h
   ·rename_i esz es i j s d B;cases d;split at h
    ·rename_i A;cases h;cases L with | iptr cell hm T S=>
     rename_i b o;exact⟨rfl,_,V _ _ _ rfl B A.1 A.2,by rw[show o+(i * esz+j)+k.toNat * s=o+(i * esz+(j+k.toNat * s)) by omega];exact .iptr cell hm T S⟩
    cases h
   cases h
  cases h
 cases h
def Nr{y x:AV}{d:Value}{i:Nat}(e:VR M ι y d){bs:List bC}(h:uE (some y) i=some (x,bs)) :
 bs=[] /\∃u,(Instr.extract d i).run P w = .ok u w/\VR M ι x u:=by
 unfold uE at h;split at h
 ·rename_i j c;cases c;simp only[ku,bU]at h;obtain⟨m,b,c⟩:=h;cases c;cases e with | tup k l f=>
  rename_i us;have a:i<us.size:=by have:=(fg.1 b).1;omega
  exact⟨rfl,us[i],by simp[Instr.extract,kY a],f i _ _ b (kY a)⟩
 cases h
def S4{t:TypeId}{y x:AV}{b:Value}(c:VR M ι y b){bs:List bC}(h:zN P t (some y)=some (x,bs)) :
 bs=[] /\∃u,(Instr.makeInterface t b).run P w = .ok u w/\VR M ι x u:=by
 unfold zN at h;split at h;·cases h
 ·rename_i d a hd;simp at h;obtain⟨rfl,rfl⟩:=h;refine⟨rfl,.iface t b,?_,.ifc c⟩;simp only[Instr.makeInterface,iQg,bL hd,iQd];cases d<;>first | rfl | (exact absurd hd (a _))
 cases h
def PT{st a:TypeId}{ok:Bool}{y x:AV}{l:Value}(n:VR M ι y l){bs:List bC}(h:BK P (some y) a ok=some (x,bs)) :
 bs=[] /\∃u,(Instr.typeAssert l st a ok).run P w = .ok u w/\VR M ι x u:=by
 have e : ∀d,P.underlying a=some d->(∀C,d ≠ .interface C) ->∀z,fk P a=some z->ok=true->(l = .nilIface \/∃t v,l = .iface t v/\t≠a) ->
  ∃u,(Instr.typeAssert l st a ok).run P w = .ok u w/\VR M ι (.tup [z,.v (.bool false)]) u:=by
  intro d hd b z m j f;subst j;obtain⟨v,B,p⟩:=yL m w;refine⟨.tuple #[v,.bool false],?_,?_⟩
  ·simp only[Instr.typeAssert,iQg,bL hd,iQd];rcases f with rfl | ⟨t,x,rfl,o⟩
   ·cases d<;>first | (simp[B];done) | exact absurd rfl (b _)
   cases d<;>first | (simp[B,o];done) | exact absurd rfl (b _)
  refine .tup (by simp) rfl λi c u k f=>?_;match i with
  | 0=>simp at k f;subst k;subst f;exact jV p
  | 1=>simp at k f;subst k;subst f;exact .v rfl
  | i+2=>simp at k
 unfold BK at h;split at h;·cases h
 ·rename_i d t D b hd s;cases s;cases n with | ifc n=>
  rename_i A;split at h
  ·rename_i q;subst q;simp at h;obtain⟨rfl,rfl⟩:=h;refine⟨rfl,(if ok then .tuple #[A,.bool true] else A),?_,?_⟩;·simp only[Instr.typeAssert,iQg,bL hd,iQd];cases d<;>first | (simp;done) | exact absurd hd (by intro h;exact b _ h)
   cases ok with| false=>simpa using n| true=>
    simp only[if_true];refine .tup (by simp) rfl λi c u k f=>?_;match i with
    | 0=>simp at k f;subst k;subst f;exact n
    | 1=>simp at k f;subst k;subst f;exact .v rfl
    | i+2=>simp at k
  rename_i q;split at h;·rename_i j;simp at h;obtain⟨z,m,rfl,rfl⟩:=h;exact⟨rfl,e d hd b z m j (.inr ⟨t,A,rfl,q⟩)⟩
  cases h
 ·rename_i d b hd s;cases s;split at h;·rename_i j;simp at h;obtain⟨z,m,rfl,rfl⟩:=h;cases n;exact⟨rfl,e d hd b z m j (.inl rfl)⟩
  cases h
 cases h
end
end
section
section
variable{P:Program}{M:Mem}{ι:Map}{g:dv}{w:World}{r:Ref}
def NY(a:Nat) : ∀(us:List Value)(k:Nat)(cells:Array Value),a+k+us.length<=cells.size ->
 (us.zipIdx k).foldl (λcs (p:Value × Nat)=>cs.setIfInBounds (a+p.2) p.1) cells=dp cells (a+k) us:=by
 intro us;induction us with
 | nil=>intro k cells h;simp[dp]
 | cons u us d=>
  intro k cells h;simp only[jP]at h;rw[List.zipIdx_cons,wU,d (k+1) _ (by simp;omega)];apply Fw;intro i;rw[jy (by simp;omega),jy (by simp;omega)];by_cases c:i=a+k;·subst c;rw[if_neg (by omega),if_pos ⟨bM _,by simp⟩];simp[show a+k<cells.size by omega]
  by_cases b:a+(k+1)<=i/\i<a+(k+1)+us.length;·rw[if_pos b,if_pos (by simp;omega)];rw[show i - (a+k)=(i - (a+(k+1)))+1 by omega];simp
  rw[if_neg b,if_neg (by simp;omega)];rw[Ch (by omega)]
def mM.patch{cs new:List AV}{us a:List Value}{j:Nat}(h:mM M ι cs us)(b:mM M ι new a):mM M ι (patch cs j new) (us.take j++a++us.drop (j+a.length)):=by
 unfold Ab.patch;rw[<-b.1];exact((h.take j).append b).append (h.drop _)
def RL(c:Nat->Option (Nat × Nat)) : ∀(ps:List (Nat × AV)) (qs:List (Nat × Value)) (cs d:List AV) (b:Array Value),wu c cs ps=some d->mM M ι cs b.toList ->
 ps.length=qs.length->(∀(i:Nat) p q,ps[i]?=some p->qs[i]?=some q->p.1=q.1/\VR M ι p.2 q.2) ->
 ∃e,Instr.fill c b qs=some e/\mM M ι d e.toList:=by
 intro ps;induction ps with
 | nil=>
  intro qs cs d b h o s hp;simp[wu]at h;subst h;cases qs with
  | nil=>exact⟨b,rfl,o⟩
  | cons q qs=>simp at s
 | cons p ps G=>
  intro qs cs d b h o s hp;cases qs with
  | nil=>simp at s
  | cons q qs=>
   obtain⟨i,v⟩:=p;obtain⟨J,u⟩:=q;obtain⟨B,A⟩:=hp 0 _ _ rfl rfl;simp only at B A;subst B;simp only[wu]at h;split at h;·cases h
   rename_i a n t;split at h
   ·rename_i I;obtain⟨E,hle⟩:=I;have m:=A.cells;have D:u.cells.size=n:=by have:=m.1;simp at this;omega
    have C:b.size=cs.length:=by have:=o.1;simp at this;omega
    have f:=NY a u.cells.toList 0 b (by simp;omega);have l:u.cells.zipIdx.foldl (λcs (p:Value × Nat)=>cs.setIfInBounds (a+p.2) p.1) b=dp b a u.cells.toList:=(by rw[AD]at f;rw[<-f,<-OT,iQR]);have z:mM M ι (patch cs a v.cells) (dp b a u.cells.toList).toList:=(by have:=o.patch (j:=a) m;simpa [dp] using this);obtain⟨e,F,H⟩:=G qs (patch cs a v.cells) d (dp b a u.cells.toList) h z (by simpa using s) (λk p q x y=>hp (k+1) p q x y);refine⟨e,?_,H⟩;simp only[Instr.fill,t];rw[if_neg (by simp;omega)];rw[<-F,<-l]
   cases h
def sJ{tm:List AV}{a:Act}(h:TR M ι tm a){ps:List (Nat × Operand)}{b:List (Nat × AV)}(c:iJ tm ps=some b) :
 b.length=(ps.map λp=>(p.1,a.eval p.2)).length /\∀(i:Nat) p q,b[i]?=some p->(ps.map λp=>(p.1,a.eval p.2))[i]?=some q->p.1=q.1/\VR M ι p.2 q.2:=by
 unfold iJ at c;refine⟨by simpa using iG c,λi p q hp e=>?_⟩;obtain⟨⟨k,o⟩,j,d⟩:=pD c i p hp;simp only[bU]at d;obtain⟨y,f,rfl⟩:=d;simp only[nM,j,Option.map_some,eS]at e;subst e;exact⟨rfl,bk h f⟩
def tH{t:TypeId}{z:AV}(h:fk P t=some z) : ∃i u,P.info? t=some i/\i.zero=some u/\ofValue u=some z:=by
 simp only[fk,jb]at h;obtain⟨u,⟨i,hi,a⟩,b⟩:=h;exact⟨i,u,hi,a,b⟩
def S6{t:TypeId}{k:List (Nat × AV)}{qs:Array (Nat × Value)}{x:AV}{bs:List bC}(B:k.length=qs.toList.length)
 (hp : ∀(i:Nat) p q,k[i]?=some p->qs.toList[i]?=some q->p.1=q.1/\VR M ι p.2 q.2) (h:oK P t (some k)=some (x,bs)) :
 bs=[] /\∃u,(Instr.build t qs).run P w = .ok u w/\VR M ι x u:=by
 unfold oK at h;split at h
 ·rename_i z E D l;cases l;obtain⟨it,u,f,j,C⟩:=tH D;obtain⟨A,rfl,d⟩:=(jV (M:=M) (ι:=ι) C).R0;split at h
  ·rename_i n e F;split at h;·rename_i s G;simp only[bU]at h;obtain⟨cs,c,l⟩:=h;cases l;obtain⟨I,o,rfl⟩:=vW G;obtain⟨a,y,m⟩:=RL (M:=M) (ι:=ι) _ k qs.toList z cs A c d B hp;refine⟨rfl,.agg a,run_build w t qs a ?_,VR.rh.2 m⟩;simp[Program.built,f,Gp F,j,o,Value.cells,y]
   cases h
  split at h
  ·rename_i ps b;simp only[bU]at h;obtain⟨cs,c,l⟩:=h;cases l;unfold iF at b;split at b;·rename_i H v;obtain⟨a,y,m⟩:=RL (M:=M) (ι:=ι) _ k qs.toList z cs A c d B hp;refine⟨rfl,.agg a,run_build w t qs a ?_,VR.rh.2 m⟩;simp only[Program.built,f,v,j,b,Value.cells];rw[<-y];congr 1;funext i;simp
   cases b
  cases h
 cases h
def Y7{b:BinOp}{t:TypeId}{xo yo:Operand}{x y z:AV}{u v:Value}(o:VR M ι x u)(l:VR M ι y v){bs:List bC}(h:bZ P b t xo yo (some x) (some y)=some (z,bs)) :
 bs=[] /\∃r,(do eqGuard b t xo yo u v;binOp b t u v:Sem Value).run P w = .ok r w/\VR M ι z r:=by
 simp only[bZ]at h;split at h
 ·rename_i p;have key:(∃a n c,u = .slice (some a) n c/\v = .slice none 0 0)\/(∃a n c,v = .slice (some a) n c/\u = .slice none 0 0):=by
   simp only[jf,bI]at p;rcases p with ⟨m,d⟩ | ⟨m,d⟩
   ·left;have:v = .slice none 0 0:=by
     cases l<;>simp[jR]at d;split at d<;>simp_all
    cases o<;>simp[Gg]at m;·exact⟨_,_,_,rfl,this⟩
    ·exact⟨_,_,_,rfl,this⟩
    exact⟨_,_,_,rfl,this⟩
   right;have:u = .slice none 0 0:=by
    cases o<;>simp[jR]at d;split at d<;>simp_all
   cases l<;>simp[Gg]at m;·exact⟨_,_,_,rfl,this⟩
   ·exact⟨_,_,_,rfl,this⟩
   exact⟨_,_,_,rfl,this⟩
  have i : ∀b,(eqGuard b t xo yo u v).run P w = .ok () w:=(by intro b;rcases key with ⟨a,n,c,rfl,rfl⟩ | ⟨a,n,c,rfl,rfl⟩<;>(unfold eqGuard;cases b<;>simp));split at h
  ·rename_i e f;simp at h;obtain⟨rfl,rfl⟩:=h;refine⟨rfl,.bool false,?_,.v rfl⟩;simp only[iQg,i,iQd];rcases key with ⟨a,n,c,rfl,rfl⟩ | ⟨a,n,c,rfl,rfl⟩
   ·rw[Lib.run_eql_slice_nil w t e (some a) n c 0 0 f];rfl
   rw[run_eql_nil_slice w t e (some a) n c 0 0 f];rfl
  ·rename_i e f;simp at h;obtain⟨rfl,rfl⟩:=h;refine⟨rfl,.bool true,?_,.v rfl⟩;simp only[iQg,i,iQd];rcases key with ⟨a,n,c,rfl,rfl⟩ | ⟨a,n,c,rfl,rfl⟩
   ·rw[run_neq_slice_nil_any w t e (some a) n c 0 0 f];rfl
   rw[run_neq_nil_slice w t e (some a) n c 0 0 f];rfl
  cases h
 split at h;·rename_i C E k j;simp only[ku,bU,jb]at h;obtain⟨D,⟨r,A,s⟩,he⟩:=h;cases he;have q:=vX o k;have B:=vX l j;subst q;subst B;exact⟨rfl,r,pd A w,pe s⟩
 cases h
def acj{a:UnOp}{x z:AV}{u:Value}(e:VR M ι x u){bs:List bC}(h:qUn P a (some x)=some (z,bs)) :
 bs=[] /\∃r,(Op.unary a u).run P w = .ok r w/\VR M ι z r:=by
 simp only[qUn,ku,bU,jb,eS]at h;obtain⟨i,⟨r,⟨v,⟨f,rfl,b⟩,d⟩,c⟩,he⟩:=h;cases he;have:=Pe e b;subst this;exact⟨rfl,r,pd d w,pe c⟩
def XW{b:List AV}{us d:List Value}(c:mM M ι b us)(h:b.mapM J2=some d):us=d:=by
 apply K1;intro i;rcases fQ i us.length with hi | hi
 ·have a:i<b.length:=by rw[c.1];exact hi
  obtain⟨v,e,f⟩:=mB h i b[i] (eu a);rw[e,eu hi,Pe (c.2 i _ _ (eu a) (eu hi)) f]
 have:=iG h;rw[yf hi,yf (by rw[this,c.1];exact hi)]
def Kq{f:Value->Value->Sem Value}{b:List AV}{us:List Value}{z:AV}(i:mM M ι b us)(h:LU f P b=some z) :
 ∃u a,us=u :: a /\∃r,(a.foldlM f u).run P w = .ok r w/\VR M ι z r:=by
 unfold LU at h;split at h;·rename_i u a c;have:=XW i c;subst this;simp only[jb]at h;obtain⟨r,e,d⟩:=h;exact⟨u,a,rfl,r,pd e w,pe d⟩
 cases h
def uI{t:TypeId}(h:isStr P t=true):P.underlying t=some .string:=by
 unfold isStr at h;split at h;·assumption
 cases h
def sE{t:TypeId}(h:eE P t=true) : ∃e,P.underlying t=some (.slice e)/\P.underlying e=some (.int .u8):=by
 unfold eE at h;split at h
 ·rename_i e a;split at h;·exact⟨e,a,by assumption⟩
  cases h
 cases h
def Wx{t:TypeId}(h:isInt P t=true) : ∃k,P.underlying t=some (.int k):=by
 unfold isInt at h;split at h;·exact⟨_,by assumption⟩
 cases h
end
end
section
section
variable{P:Program}{M:Mem}{ι:Map}{g:dv}{w:World}{r:Ref}
structure Src (P:Program) (M:Mem) (w:World) (u:Value) (z:Nat) (es:List AV) (us:List Value):Prop where
 len:us.length=es.length * z
 Jf : ∀e∈es,e.cells.length=z
 one : ∀x∈us,x.oneCell'=true
 vr : ∀(i j:Nat) e x,es[i]?=some e->e.cells[j]?=some x ->∃u,us[i * z+j]?=some u/\VR M eM x u
 lenOf : ∀w':World,(Builtin.lenOf u).run P w' = .ok es.length w'
 first : ∀(n:Nat)(w':World),n<=es.length->w'.heap=w.heap->(Builtin.firstCells z n u).run P w' = .ok (us.take (n * z)).toArray w'
def SV{es:List AV}{z:Nat}(h : ∀e∈es,e.cells.length=z)(cell:Nat->Nat->Value) :
 ∃us:List Value,us.length=es.length * z /\∀i j,i<es.length->j<z->us[i * z+j]?=some (cell i j):=by
 refine⟨(List.range (es.length * z)).map λk=>cell (k / z) (k % z),by simp,?_⟩;intro i j hi a;have b:0<z:=by omega
 have:=Fb hi a;rw[nM,Fx this];simp only[Option.map_some,eS];rw[KN i z,Nat.mul_add_div b,Nat.div_eq_of_lt a,Nat.mul_add_mod,KV a,AD]
def Q3{es:List AV}{z:Nat}(b : ∀e∈es,e.cells.length=z)(F:0<z\/es=[]){a:Addr}{c:Nat}(u:a.spot=none\/es=[])(cell:Nat->Nat->Value)
 (C : ∀i j,i<es.length->j<z->w.cell? ⟨a.block,a.off+(i * z+j),none⟩=some (cell i j)/\(cell i j).oneCell'=true)
 (D : ∀(i j:Nat) e x,es[i]?=some e->e.cells[j]?=some x->VR M eM x (cell i j)) : ∃us,Src P M w (.slice (some a) es.length c) z es us:=by
 obtain⟨us,B,s⟩:=SV b cell;have f : ∀k,k<us.length->0<z/\k / z<es.length/\k % z<z/\k / z * z+k % z=k:=by
  intro k o;rw[B]at o;have d:0<z:=by
   rcases F with h | h
   ·exact h
   subst h;simp at o
  exact⟨d,(iQL d).2 o,Nat.mod_lt _ d,by rw[KN];exact Nat.div_add_mod k z⟩
 refine⟨us,B,b,?_,?_,λw'=>by simp[Builtin.lenOf],?_⟩
 ·intro x q;obtain⟨k,o,A⟩:=qC q;obtain⟨d,m,p,e⟩:=f k o;have:=s _ _ m p;rw[e,eu o,A]at this;injection this with this
  rw[this];exact(C _ _ m p).2
 ·intro i j e x y q;have hi:=(fg.1 y).1;have l:j<z:=by
   rw[<-b e (ja y)];exact(fg.1 q).1
  exact⟨cell i j,s i j hi l,D i j e x y q⟩
 intro n w' H t;have E:n * z<=us.length:=by rw[B];exact mW _ H
 refine run_firstCells_some (P:=P) w' z n a es.length c (us.take (n * z)) (by simp;omega) ?_;intro j v l;rw[AF]at l;split at l;·rename_i G;obtain⟨d,m,p,e⟩:=f j (by omega);have:=s _ _ m p;rw[e,l]at this;cases this;have u:=u.resolve_right (by intro e;subst e;simp at m);rw[kV u,iM];have:=(C _ _ m p).1;rw[e]at this;rw[iQk (w:=w) (by rw[t])];exact this
 cases l
def getElems(es:List AV)(a len:Nat)(b:a+len<=es.length):((es.drop a).take len).length=len /\∀i,i<len->((es.drop a).take len)[i]?=es[a+i]? :=
 ⟨by simp;omega,λi hi=>by rw[AF,if_pos hi,Cf]⟩
def pn(H:iA M ι g w){x:AV}{u:Value}(k:VR M ι x u){z:Nat}{es:List AV}(I:0<z)(h:dt g x=some (z,es)) : ∃us,Src P M w u z es us:=by
 unfold dt at h;split at h
 ·rename_i s;cases h;cases k;refine⟨s.data.toList.map λb => .int .u8 b.toNat,?_,?_,?_,?_,?_,?_⟩;·simp
  ·intro e f;simp only[mo]at f;obtain⟨b,_,rfl⟩:=f;rfl
  ·intro x k;simp only[mo]at k;obtain⟨b,_,rfl⟩:=k;rfl
  ·intro i j e x f k;simp only[nM,bU]at f;obtain⟨b,C,rfl⟩:=f;cases j with
   | succ j=>simp[AV.cells]at k
   | zero=>simp[AV.cells]at k;subst k;exact⟨.int .u8 b.toNat,by simp[C],.v rfl⟩
  ·intro w';simp only[Builtin.lenOf,iQj,AM,Cg];rfl
  intro n w' S V;simp only[Builtin.firstCells,Nat.mul_one,iQj];congr 1;apply GP;simp only[Array.toList_map,ByteArray.data_extract,OX];rw[O3];simp[List.map_take]
 ·rename_i esz es' cap;cases h;cases k with | bE cell E K T hm f R=>
  rename_i a c;exact Q3 f (.inl I) E cell (λi j hi p=>⟨H.mem _ _ _ (hm i j hi p).1,(hm i j hi p).2⟩) R
 ·rename_i r' d len cap;split at h
  ·rename_i b C;split at h
   ·rename_i K;cases h;obtain⟨y,hlen⟩:=K;cases k with | ct O G E Q W S T F=>
    rename_i l a c;have m:=H.at O F C;obtain⟨B,A⟩:=getElems b.es d len hlen;have o:0<len->a.off=d * b.esz:=by
     intro X;rcases Q with h | h
     ·omega
     rw[h,m.esz]
    have key : ∀i j,i<len->j<b.esz ->∃u,w.cell? ⟨a.block,a.off+(i * b.esz+j),none⟩=some u/\u.oneCell'=true /\∀e x,b.es[d+i]?=some e->e.cells[j]?=some x->VR M eM x u:=by
     intro i j hi p;have f:b.es[d+i]?=some b.es[d+i]:=eu (by omega);have U:=m.cells b.es[d+i] (fj _);obtain⟨u,L,B,A⟩:=m.cell (d+i) f j _ (eu (by omega:j<b.es[d+i].cells.length));refine⟨u,?_,B,?_⟩;·rw[o (by omega),G,show d * b.esz+(i * b.esz+j)=(d+i) * b.esz+j by rw[mR];omega];exact L
     intro e x q t;rw[f]at q;cases q;rw[eu (by omega:j<b.es[d+i].cells.length)]at t;cases t;rw[bC.map,if_pos y]at A;exact A
    let cell:Nat->Nat->Value:=λi j=>(w.cell? ⟨a.block,a.off+(i * b.esz+j),none⟩).getD undef
    have:=Q3 (P:=P) (M:=M) (w:=w) (es:=(b.es.drop d).take len) (z:=b.esz) (a:=a) (c:=c)
     (by intro e f;exact m.cells e (Fy (Ai f))) (.inl I) (.inl E) cell
     (by
      intro i j hi p;rw[B]at hi;obtain⟨u,D,J,_⟩:=key i j hi p;simp[cell,D,J])
     (by
      intro i j e x f k;have hi:i<len:=by have:=(fg.1 f).1;omega
      rw[A i hi]at f;have p:j<b.esz:=(by rw[<-m.cells e (ja f)];exact(fg.1 k).1);obtain⟨u,D,J,N⟩:=key i j hi p;simp only[cell,D,cU];exact N e x f k)
    rw[B]at this;exact this
   cases h
  cases h
 cases h
inductive Eo:Option Value->Option Int->Prop
 | none:Eo none none
 | some (k n):Eo (some (.int k n)) (some n)
def vE{tm:List AV}{a:Act}(h:TR M ι tm a){o:Option Operand}{x:Option Int}(b:nc tm o=some x):Eo (o.map a.eval) x:=by
 cases o with| none=>simp only[nc,eS]at b;subst b;exact .none| some o=>
  simp only[nc]at b;split at b
  ·rename_i n c;injection b with b
   subst b;simp only[jb]at c;obtain⟨y,d,hi⟩:=c;obtain⟨k,e⟩:=yX (bk h d) hi;rw[Option.map_some,e];exact .some k n
  cases b
def BU{len c:Nat}{cap:Option Nat}(J:len<=c)(D : ∀k,cap=some k->c=k){lo hi B:Option Int}{l h:Nat}{F:Option Nat}(b:bounds len cap lo hi B=some (l,h,F))
 {o s u:Option Value} (z:Eo o lo) (A:Eo s hi) (H:Eo u B) :
 l<=h/\h<=len /\∃m,h<=m/\m<=c/\(∀k,F=some k->m - l=k)/\(Instr.sliceBounds true len c o s u).run P w = .ok (l,h,m) w:=by
 have f : ∀(k:IntKind)(i:Int)(y:Nat)(a:BoundsCode),0<=i->i<=y->(Instr.sliceBound (.int k i) y a).run P w = .ok i.toNat w:=λk i y a=>iQM w k i y a;cases H with
 | some C m=>
  cases A with| none=>simp[bounds]at b| some q d=>
   simp only[bounds]at b;obtain⟨⟨n,j,v,E,L⟩,b⟩:=fP.1 b;simp only[eS,tf]at b;obtain⟨rfl,rfl,rfl⟩:=b;have K:m<=c:=by
    cases cap with
    | none=>simp at E;omega
    | some k=>have:=D k rfl;simp at E;omega
   have N:((m.toNat:Nat):Int)=m:=Dr (by omega);have G:((d.toNat:Nat):Int)=d:=Dr (by omega);refine⟨by omega,by omega,m.toNat,by omega,by omega,by intro k e;cases e;rfl,?_⟩;cases z with
   | none=>simp only[vQ]at n j;simp only[Instr.sliceBounds,iQg,f C m c _ (by omega) (by omega),iQd,f q d m.toNat _ (by omega) (by omega),iQj,vQ];rfl
   | some t p=>simp only[cU]at n j;simp only[Instr.sliceBounds,iQg,f C m c _ (by omega) (by omega),iQd,f q d m.toNat _ (by omega) (by omega),f t p d.toNat _ (by omega) (by omega),iQj,cU]
 | none=>
  simp only[bounds]at b;obtain⟨⟨n,j,v⟩,b⟩:=fP.1 b;simp only[eS,tf]at b;obtain⟨rfl,rfl,rfl⟩:=b;refine⟨by omega,by omega,c,by omega,bM _,?_,?_⟩;·intro k e;simp only[bU]at e;obtain⟨I,x,rfl⟩:=e;rw[D I x]
  cases A with
  | none=>
   simp only[vQ]at j v ⊢;cases z with
   | none=>simp[Instr.sliceBounds]
   | some t p=>simp only[cU]at n j ⊢;simp only[Instr.sliceBounds,iQg,iQj,iQd,f t p len _ (by omega) (by omega)];simp
  | some q d=>
   simp only[cU]at j v ⊢;have G:((d.toNat:Nat):Int)=d:=Dr (by omega);cases z with
   | none=>simp only[vQ]at n j ⊢;simp only[Instr.sliceBounds,iQg,iQj,iQd,f q d c _ (by omega) (by omega)];simp
   | some t p=>simp only[cU]at n j ⊢;simp only[Instr.sliceBounds,iQg,iQj,iQd,f q d c _ (by omega) (by omega),f t p d.toNat _ (by omega) (by omega)]
def sn{t e:TypeId}(j:P.underlying t=some (.slice e)){s:Nat}(i:aV P e=some s){a:Option Addr}{len c l h m:Nat}{b d f:Option Value}
 (k:(Instr.sliceBounds true len c b d f).run P w = .ok (l,h,m) w) :
 (Instr.sliceAt t (.slice a len c) b d f).run P w = .ok (.slice (if m=l then a else a.map (·.add (l * s))) (h - l) (m - l)) w:=by
 simp[Instr.sliceAt,bL j,Instr.slice,k,dm i]
def S0(hS:iA M ι g w){t:TypeId}{y x:AV}{u0:Value}(U:VR M ι y u0){lo hi mx:Option Int}{Q V W:Option Value}
 (N:Eo Q lo) (R:Eo V hi) (S:Eo W mx)
 {bs:List bC} (h:dx P g t (some y) (some lo) (some hi) (some mx)=some (x,bs)) :
 bs=[] /\∃u,(Instr.sliceAt t u0 Q V W).run P w = .ok u w/\VR M ι x u:=by
 simp only[dx]at h;split at h
 ·rename_i e;cases e;cases U;obtain⟨n,h⟩:=fP.1 h;simp only[bU]at h;obtain⟨⟨l,f,L⟩,o,e⟩:=h;cases e;obtain⟨s,C⟩:=iB.1 n;simp only[jb]at C;obtain⟨e,D,C⟩:=C;obtain⟨b1,b2,m,b3,b4,b5,b6⟩:=BU (P:=P) (w:=w) (bM 0) (by intro k I;cases I;rfl) o N R S;have e1:l=0:=by omega
  have J:f=0:=(by omega);have e3:m=0:=(by omega);subst e1;subst J;subst e3;exact⟨rfl,_,sn (iD D) C b6,.v rfl⟩
 ·rename_i s e;cases e;cases U;obtain⟨n,h'⟩:=fP.1 h;clear h;simp only[bI,Option.isNone_iff_eq_none]at n;obtain⟨n,rfl⟩:=n;cases S;obtain⟨⟨l,f,L⟩,o,e⟩:=bU.1 h';cases e;have X:=uI n;have Z : ∀(k:IntKind)(i:Int)(y:Nat)(p:BoundsCode),0<=i->i<=y->(Instr.sliceBound (.int k i) y p).run P w = .ok i.toNat w:=λk i y p=>iQM w k i y p;simp only[bounds]at o;obtain⟨⟨T,F,Y⟩,o⟩:=fP.1 o;simp only[eS,tf]at o;obtain⟨rfl,rfl,rfl⟩:=o;refine⟨rfl,.string (s.extract (lo.getD 0).toNat (hi.getD s.size).toNat),?_,.v rfl⟩;cases R with
  | none=>
   simp only[vQ]at F Y;try simp only[vQ,cU]
   cases N with| none=>simp[Instr.sliceAt,bL X,Instr.slice,Instr.sliceBounds]| some kl ll=>
    simp only[cU]at T F;try simp only[vQ,cU]
    simp[Instr.sliceAt,bL X,Instr.slice,Instr.sliceBounds,Z kl ll s.size _ T F]
  | some kh f=>
   simp only[cU]at F Y;try simp only[vQ,cU]
   have eh:((f.toNat:Nat):Int)=f:=Dr (by omega);cases N with
   | none=>
    simp only[vQ]at T F;try simp only[vQ,cU]
    simp[Instr.sliceAt,bL X,Instr.slice,Instr.sliceBounds,Z kh f s.size _ F Y]
   | some kl ll=>
    simp only[cU]at T F;try simp only[vQ,cU]
    simp[Instr.sliceAt,bL X,Instr.slice,Instr.sliceBounds,Z kh f s.size _ (by omega) Y,Z kl ll f.toNat _ T (by omega)]
 ·rename_i esz es cap e;cases e;obtain⟨n,h⟩:=fP.1 h;simp only[bU]at h;obtain⟨⟨l,f,L⟩,o,e⟩:=h;cases e;simp only[jb]at n;obtain⟨e,D,C⟩:=n;cases U with | bE cell d O I hm hes hh'=>
  rename_i a c;obtain⟨b1,b2,m,b3,b4,b5,b6⟩:=BU (P:=P) (w:=w) O I o N R S;refine⟨rfl,_,sn (iD D) C b6,?_⟩;obtain⟨g1,g2⟩:=getElems es l (f - l) (by omega);have:=VR.bE (M:=M) (ι:=ι) (esz:=esz) (es:=(es.drop l).take (f - l)) (cap:=L) (a:=(if m=l then a else a.add (l * esz))) (c:=m - l) (λi j=>cell (l+i) j)
   (by
    rcases d with d | d
    ·left;split;·exact d
     rw[kV d,iM]
    right;subst d;simp) (by omega) b5
   (by
    intro i j hi hj;rw[g1]at hi;have d:=d.resolve_right (by intro e;subst e;simp at b2 O;omega);rw[if_neg (by omega),kV d,iM];have:=hm (l+i) j (by omega) hj;rw[show a.off+((l+i) * esz+j)=a.off+l * esz+(i * esz+j) by rw[mR];omega]at this;exact this)
   (by intro e D;exact hes e (Fy (Ai D)))
   (by
    intro i j e x hi hx;have hi':i<f - l:=by have:=(fg.1 hi).1;omega
    rw[g2 i hi']at hi;exact hh' (l+i) j e x hi hx)
  rw[g1]at this;have J:(if m=l then some a else (some a).map (·.add (l * esz)))=some (if m=l then a else a.add (l * esz)):=by split<;>rfl
  rw[J];exact this
 ·rename_i r' E len cap e;cases e;split at h
  ·rename_i b K;obtain⟨n,h⟩:=fP.1 h;simp only[bU]at h;obtain⟨⟨l,f,L⟩,o,e⟩:=h;cases e;simp only[jb]at n;obtain⟨e,D,C⟩:=n;cases U with | ct G B d ha O hn I A=>
   rename_i lo' a c;obtain⟨l',q,H⟩:=hS.live r' b K;rw[G]at q;cases q;obtain⟨b1,b2,m,b3,b4,b5,b6⟩:=BU (P:=P) (w:=w) O I o N R S;refine⟨rfl,_,sn (iD D) C b6,?_⟩;have J:(if m=l then some a else (some a).map (·.add (l * b.esz)))=some (if m=l then a else a.add (l * b.esz)):=by split<;>rfl
   rw[J];show VR M ι (.ct r' (E+l) (f - l) L) _;by_cases z:m=l;·rw[if_pos z];exact .ct G B d (.inl (by omega)) (by omega) (.inl (by omega)) b5 A
   rw[if_neg z,kV d,iM];refine .ct G B rfl (.inr ?_) (by omega) (.inr ?_) b5 A
   ·rcases ha with h | h
    ·omega
    simp only[h,H.esz,mR]
   rcases hn with h | h
   ·omega
   omega
  cases h
 ·rename_i r' E len cap e;cases e;split at h
  ·rename_i b K;obtain⟨n,h⟩:=fP.1 h;simp only[bU]at h;obtain⟨⟨l,f,L⟩,o,e⟩:=h;cases e;simp only[jb]at n;obtain⟨e,D,C⟩:=n;cases U with | dsl G B d ha O hn I A=>
   rename_i lo' a c;obtain⟨l',q,H⟩:=hS.live r' b K;rw[G]at q;cases q;obtain⟨b1,b2,m,b3,b4,b5,b6⟩:=BU (P:=P) (w:=w) O I o N R S;refine⟨rfl,_,sn (iD D) C b6,?_⟩;have J:(if m=l then some a else (some a).map (·.add (l * b.esz)))=some (if m=l then a else a.add (l * b.esz)):=by split<;>rfl
   rw[J];show VR M ι (.dsl r' (E+l) (f - l) L) _;by_cases z:m=l;·rw[if_pos z];exact .dsl G B d (.inl (by omega)) (by omega) (.inl (by omega)) b5 A
   rw[if_neg z,kV d,iM];refine .dsl G B rfl (.inr ?_) (by omega) (.inr ?_) b5 A
   ·rcases ha with h | h
    ·omega
    simp only[h,H.esz,mR]
   rcases hn with h | h
   ·omega
   omega
  cases h
 cases h
def Qx{len c:Nat}(s:len<=c){lo hi:Option Int}(j:0<=lo.getD 0)(b:lo.getD 0<=hi.getD len)(o:hi.getD len<=c)
 {d f:Option Value} (p:Eo d lo) (q:Eo f hi) :
 (Instr.sliceBounds true len c d f none).run P w = .ok ((lo.getD 0).toNat,(hi.getD len).toNat,c) w:=by
 have h : ∀(k:IntKind)(i:Int)(y:Nat)(a:BoundsCode),0<=i->i<=y->(Instr.sliceBound (.int k i) y a).run P w = .ok i.toNat w:=λk i y a=>iQM w k i y a;cases q with
 | none=>
  simp only[vQ]at b o ⊢;cases p with
  | none=>simp[Instr.sliceBounds]
  | some m l=>simp only[cU]at j b ⊢;simp only[Instr.sliceBounds,iQg,iQj,iQd,h m l len _ (by omega) (by omega)];simp
 | some n e=>
  simp only[cU]at b o ⊢;have t:((e.toNat:Nat):Int)=e:=Dr (by omega);cases p with
  | none=>simp only[vQ]at j b ⊢;simp only[Instr.sliceBounds,iQg,iQj,iQd,h n e c _ (by omega) (by omega)];simp
  | some m l=>simp only[cU]at j b ⊢;simp only[Instr.sliceBounds,iQg,iQj,iQd,h n e c _ (by omega) (by omega),h m l e.toNat _ (by omega) (by omega)]
def PN(U:iA M ι g w){t:TypeId}{y x:AV}{Q:Value}(hy:VR M ι y Q){lo hi L:Option Int}{d q v:Option Value}
 (h1:Eo d lo) (W:Eo q hi) (Y:Eo v L)
 {bs:List bC} (h:xc P g t (some y) (some lo) (some hi) (some L)=some (x,bs)) :
 bs=[] /\∃u,(Instr.sliceAt t Q d q v).run P w = .ok u w/\VR M ι x u:=by
 unfold xc at h;split at h
 ·rename_i z hi' r' A len cap B H N K;simp only[eS]at B H N K;subst B H N K;cases Y;split at h
  ·rename_i b I;obtain⟨⟨S,R,V,C⟩,h⟩:=fP.1 h;simp only[eS,tf]at h;obtain⟨rfl,rfl⟩:=h;simp only[jb]at S;obtain⟨e,he,hs⟩:=S;cases hy with | ct D s f X T hn O o=>
   rename_i z a c;have p:((cap.getD len:Nat):Int)<=c:=by
    cases cap with| none=>simpa using T| some k=>rw[O k rfl];simp
   have i : ∀m:Nat,∀k,cap.map (· - m)=some k->c - m=k:=(by intro m k J;obtain⟨Z,E,rfl⟩:=bU.1 J;rw[O Z E]);replace C:hi.getD (len:Int)<=c:=Int.le_trans C p;clear p;obtain⟨l',j,F⟩:=U.live r' b I;rw[D]at j;cases j;have b6:=Qx (P:=P) (w:=w) T R V C h1 W;have B:(((lo.getD 0).toNat:Nat):Int)=lo.getD 0:=Dr R;have H:(((hi.getD (len:Int)).toNat:Nat):Int)=hi.getD len:=Dr (by omega);generalize (lo.getD 0).toNat=l at *;generalize (hi.getD (len:Int)).toNat=hh at *;refine⟨rfl,_,sn (iD he) hs b6,?_⟩;have G:(if c=l then some a else (some a).map (·.add (l * b.esz)))=some (if c=l then a else a.add (l * b.esz)):=by split<;>rfl
   rw[G];show VR M ι (.ct r' (A+l) (hh - l) (cap.map (· - l))) _;by_cases n:c=l;·rw[if_pos n];exact .ct D s f (.inl (by omega)) (by omega) (.inl (by omega)) (i l) o
   rw[if_neg n,kV f,iM];refine .ct D s rfl (.inr ?_) (by omega) (.inr ?_) (i l) o
   ·rcases X with h | h
    ·omega
    simp only[h,F.esz,mR]
   rcases hn with h | h
   ·omega
   omega
  cases h
 cases h
def VG(C:iA M ι g w){t tR:TypeId}{args:List AV}{us:List Value}(hv:mM M ι args us){x:AV}{bs:List bC}(h:Nn P g t args=some (x,bs)) :
 bs=[]/\x = .v (.bool false)/\(Extern.SlicesOverlaps.overlaps #[t,t] #[tR] us.toArray).run P w = .ok (.bool false) w:=by
 unfold Nn at h;split at h
 ·rename_i r p len cap r' y i Z e he;split at h
  ·rename_i b b' z W B hz;obtain⟨⟨I,h1,h2,h3⟩,h⟩:=fP.1 h;simp only[eS,tf]at h;obtain⟨rfl,rfl⟩:=h;refine⟨rfl,rfl,?_⟩;obtain⟨hlen,d⟩:=hv;match us,hlen,d with
   | [ua,ub],hlen,d=>
   have va:=d 0 _ ua rfl rfl;have vb:=d 1 _ ub rfl rfl;clear d hlen;cases va with | ct X j hsp ha hc hn hk K=>
   rename_i l a c;cases vb with | ct u m hsp' ha' hc' O hk' s=>
   rename_i H Y S;have ht:=iD he;have hA:=C.at X K W;have hB:=C.at u s B;obtain⟨arr,T,fz,F,D,A,_⟩:=hA.heap;obtain⟨arr',T',fz',G,o,hfz',_⟩:=hB.heap;have R:l.b≠H.b:=λe=>I (C.inj r r' b b' l H W B X u e);have k : ∀w:World,(Go.sizeOf e).run P w = .ok z w:=λw=>dm hz w;show(Extern.SlicesOverlaps.overlaps #[t,t] #[tR] #[.slice (some a) len c,.slice (some Y) i S]).run P w=_;by_cases h0:len=0\/i=0
   ·have E:(len=0\/i=0\/z=0):=(by omega);have e2 : ∀ {J β:Type} (x:J) (f:J->Sem β),(pure x:Sem J).bind f=f x:=λ_ _=>rfl;conv=>lhs;arg 2;whnf
    simp[Sem.run,Sem.bind,e2,ht,k,E]
   have hcn:p+c<=l.n:=by rcases hn with h | h<;>omega
   have V:y+S<=H.n:=by rcases O with h | h<;>omega
   have Q:a.off=p * l.esz:=by rcases ha with h | h<;>omega
   have U:0<arr'.size:=by rw[o];exact Nat.mul_pos (by omega) (by omega)
   have L:a.off<arr.size:=(by rw[Q,D,hA.esz];exact(Nat.mul_lt_mul_right (by omega)).2 (by omega));refine Lib.run_overlaps_apart (P:=P) w t tR e ht z k a Y len c i S (by rw[j,m];exact R) T T' arr.size arr'.size ?_ ?_ (by omega) ?_ ?_;·unfold World.shape?;rw[j,F]
   ·unfold World.shape?;rw[m,G]
   ·unfold World.frozen?;rw[j,F];have:=A.1 a.off L;obtain⟨f1,f2⟩:=fz;simp only at this ⊢;rw[GL];simp only[iQc];by_cases q:f1<=a.off;·exact .inr λN=>this ⟨q,.inl N⟩
    exact .inl q
   unfold World.frozen?;simp only;rw[j,F];have:=A.2 h1;obtain⟨f1,f2⟩:=fz;simp only at this ⊢;rw[GL];simp only[iQc];by_cases q:f1<=arr.size;·exact .inr λN=>this ⟨q,N⟩
   exact .inl q
  cases h
 cases h
end
end
section
section
variable{P:Program}{M:Mem}{ι:Map}{g:dv}{w:World}{r:Ref}
structure Row (M:Mem) (z:Nat) (es:List AV) (us:List Value):Prop where
 len:us.length=es.length * z
 Jf : ∀e∈es,e.cells.length=z
 one : ∀x∈us,x.oneCell'=true
 vr : ∀(i j:Nat) e x,es[i]?=some e->e.cells[j]?=some x ->∃u,us[i * z+j]?=some u/\VR M eM x u
def Src.row{u z es us}(h:Src P M w u z es us):Row M z es us:=⟨h.len,h.Jf,h.one,h.vr⟩
def Row.nil{z:Nat}:Row M z [] []:=⟨by simp,by simp,by simp,by intro i j e x h;simp at h⟩
def Row.append{z es us es' us'}(h:Row M z es us)(c:Row M z es' us'):Row M z (es++es') (us++us'):=by
 refine⟨by simp[h.len,c.len,mR],?_,?_,?_⟩
 ·intro e a;rcases mS.1 a with b | b
  ·exact h.Jf e b
  exact c.Jf e b
 ·intro e a;rcases mS.1 a with b | b
  ·exact h.one e b
  exact c.one e b
 intro i j e x a k;rcases fQ i es.length with hi | hi
 ·rw[kR hi]at a;obtain⟨u,d,f⟩:=h.vr i j e x a k;exact⟨u,by rw[kR (fg.1 d).1];exact d,f⟩
 rw[kj hi]at a;obtain⟨u,d,f⟩:=c.vr _ j e x a k;have l:es.length * z<=i * z:=mW _ hi;refine⟨u,?_,f⟩;rw[kj (by rw[h.len];omega),h.len,show i * z+j - es.length * z=(i - es.length) * z+j by rw[GQ];omega];exact d
def Row.cons{z es us e vs}(b:mM M eM e vs)(k:e.length=z)(m : ∀x∈vs,x.oneCell'=true)(y:AV)(d:y.cells=e)(h:Row M z es us):Row M z (y :: es) (vs++us):=by
 have:Row M z [y] vs:=by
  refine⟨by rw[<-b.1,k];simp,by intro l a;simp at a;subst a;rw[d];exact k,m,?_⟩;intro i j l x hi c;cases i with
  | succ i=>simp at hi
  | zero=>
   simp at hi;subst hi;rw[d]at c;have f:j<vs.length:=by have:=(fg.1 c).1;rw[<-b.1];exact this
   exact⟨vs[j],by simp[f],b.2 j x vs[j] c (eu f)⟩
 exact this.append h
def Row.replicate{z:Nat}{y:AV}{u:Value}(d:VR M eM y u)(k:y.cells.length=z)(f:y.cells.all AV.one=true) : ∀n,Row M z (List.replicate n y) (List.replicate n u.cells.toList).flatten:=by
 intro n;have a : ∀x∈u.cells.toList,x.oneCell'=true:=by
  intro x l;obtain⟨j,e,c⟩:=qC l;have h:=d.cells;have b:j<y.cells.length:=by rw[h.1];exact e
  have:=h.2 j _ x (eu b) (by rw[<-c];exact eu e);exact this.one (by simp only[gP]at f;exact f _ (fj b))
 induction n with| zero=>exact Row.nil| succ n i=>rw[OV,OV,List.flatten_cons];exact Row.cons d.cells k a y rfl i
def Row.mono{z es us}{M':Mem}(h:Row M z es us)(a : ∀b o x,M b o=some x->M' b o=some x):Row M' z es us:=
 ⟨h.len,h.Jf,h.one,λi j e x f k=>by obtain⟨u,d,c⟩:=h.vr i j e x f k;exact⟨u,d,c.mono a _ (λ_ _ h=>h)⟩⟩
def vI(t:iA M ι g w)(s:r.k=0)(B:ι r=none){w':World}{arr:Array Value}{T:TypeId}{fz:Nat × Nat}(y:Er w w' (.cells arr T fz))
 {z:Nat} {es:List AV} {us:List Value} (a:Row M z es us) (b : ∀(k:Nat) u,us[k]?=some u->arr[k]?=some u) {n c:Nat} (h:arr.size=n * z)
 (f:Di z arr.size fz) (E:es.length<=c) (H:c<=n) {cap:Option Nat} (d : ∀k,cap=some k->c=k) (p:0<z) :
 kD M ι g w r (.ct r 0 es.length cap) [⟨z,es,true,false⟩] (.slice (some ⟨w.heap.size,0,none⟩) es.length c) w':=by
 obtain⟨A,F⟩:=t.alloc (q:=r) B y ⟨z,es,true,false⟩ p n h f (by simp;omega) a.Jf
  (by
   intro i j e x C G;obtain⟨u,o,v⟩:=a.vr i j e x C G;exact⟨u,b _ _ o,a.one u (ja o),by simpa [bC.map] using v⟩)
 refine⟨M,_,?_,by rw[sM _ _ s];exact A,by rw[sM _ _ s];exact F,?_⟩;·exact .ct (l:=⟨w.heap.size,z,n⟩) (by simp[lQ]) rfl rfl (.inr (by simp)) E (.inr (by simp;omega)) d p
 intro q m D;have:q≠r:=by intro e;exact D 0 (by simp) (by rw[e];cases r;simp_all)
 simpa [lQ,this] using m
def NR(M:Mem)(b:Nat)(us:List Value):Mem:=λa o=>if a=b then us[o]? else M a o
def TV(y:iA M ι g w){w':World}{arr:Array Value}{T:TypeId}{fz:Nat × Nat}(f:Er w w' (.cells arr T fz))
 {z:Nat} {es:List AV} {us:List Value} (d:Row M z es us) (p : ∀(k:Nat) u,us[k]?=some u->arr[k]?=some u) {c:Nat}
 (J:es.length<=c) {cap:Option Nat} (t : ∀k,cap=some k->c=k) :
 kD M ι g w r (.bE z es cap) [] (.slice (some ⟨w.heap.size,0,none⟩) es.length c) w':=by
 have s : ∀b o x,M b o=some x->b<w.heap.size:=λb o x h=>iQm w ⟨b,o,none⟩ (y.mem b o x h);have m : ∀b o x,M b o=some x->NR M w.heap.size us b o=some x:=by
  intro b o x h;unfold NR;rw[if_neg (Nat.ne_of_lt (s b o x h))];exact h
 have v:w'.heap[w.heap.size]?=some (.cells arr T fz):=by rw[f.heap];simp
 have C : ∀i j,i<es.length->j<z ->∃u,us[i * z+j]?=some u:=by
  intro i j hi B;exact⟨us[i * z+j]'(by rw[d.len];exact Fb hi B),eu _⟩
 refine⟨NR M w.heap.size us,ι,?_,?_,?_,λq G _=>G⟩
 ·refine VR.bE (M:=NR M w.heap.size us) (ι:=ι) (esz:=z) (es:=es) (cap:=cap) (a:=⟨w.heap.size,0,none⟩) (c:=c) (λi j=>(us[i * z+j]?).getD undef) (.inl rfl) J t ?_ d.Jf ?_;·intro i j hi B;obtain⟨u,A⟩:=C i j hi B;simp only[NR,if_true,vP,A,cU];exact⟨trivial,d.one u (ja A)⟩
  intro i j e x H K;obtain⟨u,A,E⟩:=d.vr i j e x H K;simp only[A,cU];exact E.mono m _ (λ_ _ h=>h)
 ·rw[oB];refine⟨?_,?_,y.inj⟩
  ·intro b o x h;unfold NR at h;split at h;·rename_i e;subst e;rw[j7 v];exact p o x h
   exact f.cell (y.mem b o x h)
  intro r' k I;obtain⟨l,F,n⟩:=y.live r' k I;refine⟨l,F,n.bT m (λ_ _ h=>h) (f.old _ n.lt) ?_⟩;intro o x h;unfold NR at h;rw[if_neg (Nat.ne_of_lt n.lt)]at h;exact n.frozen o x h
 rw[oB];refine⟨f.os,f.tape,f.output,by rw[f.heap];simp,λb n _=>f.old b n,m,λ_ _ h=>h,λr' k l h D => .inr ⟨r',k,l,h,D,rfl⟩,?_⟩;intro b o x h;unfold NR at h;split at h;·rename_i e;exact .inr (.inl (by omega))
 exact .inl h
def kD.after{R:List Ref}(e:uY g R=g)(c:iA M ι g w){x:AV}{bs:List bC}{u:Value}{w':World}(h:kD (lW M ι g w R) ι g w r x bs u w'):kD M ι g w r x bs u w':=by
 obtain⟨_,b⟩:=Bf (R:=R) c;rw[e]at b;obtain⟨M',a,i,f,d,j⟩:=h;exact⟨M',a,i,f,b.trans d,j⟩
def Lg(j:iA M ι g w){a b:List (Nat × AV)}(h:dG g a=some b){qs:List (Nat × Value)}(o:a.length=qs.length)
 (hp : ∀(i:Nat) p q,a[i]?=some p->qs[i]?=some q->p.1=q.1/\VR M ι p.2 q.2) :
 b.length=qs.length /\∀(i:Nat) p q,b[i]?=some p->qs[i]?=some q->p.1=q.1/\VR (lW M ι g w (cO g (a.map (·.2)))) eM p.2 q.2:=by
 unfold dG at h;refine⟨by rw[iG h,o],?_⟩;intro i p q d c;obtain⟨⟨k,x⟩,f,e⟩:=pD h i p d;simp only[bU]at e;obtain⟨y,l,rfl⟩:=e;obtain⟨n,m⟩:=hp i _ q f c;refine⟨n,Dw j depth x y q.2 l ?_ m⟩;intro r s;simp only[cO,jO,mo];exact⟨x,⟨(k,x),ja f,rfl⟩,s⟩
def D9{z:Nat} : ∀(n:List (Nat × AV)) (qs:List (Nat × Value)) (es es':List AV) (us:Array Value),iI es n=some es'->Row M z es us.toList ->
 n.length=qs.length->(∀(i:Nat) p q,n[i]?=some p->qs[i]?=some q->p.1=q.1/\VR M eM p.2 q.2)->(∀p∈n,p.2.cells.length=z/\p.2.cells.all AV.one=true) ->
 es'.length=es.length /\∃d,Instr.fill (λi=>some (i * z,z)) us qs=some d/\Row M z es' d.toList:=by
 intro n;induction n with
 | nil=>
  intro qs es es' us h a E hp F;simp[iI]at h;subst h;cases qs with
  | nil=>exact⟨rfl,us,rfl,a⟩
  | cons q qs=>simp at E
 | cons p n W=>
  intro qs es es' us h a E hp F;cases qs with
  | nil=>simp at E
  | cons q qs=>
   obtain⟨i,v⟩:=p;obtain⟨Y,u⟩:=q;obtain⟨Q,O⟩:=hp 0 _ _ rfl rfl;simp only at Q O;subst Q;simp only[iI]at h;split at h
   ·rename_i hi;obtain⟨A,t⟩:=F _ (j1 ..);simp only at A t;have b:=O.cells;have G:u.cells.size=z:=by have:=b.1;simp at this;omega
    have I:us.size=es.length * z:=by have:=a.len;simpa using this
    have T:i * z+z<=us.size:=(by have:(i+1) * z<=es.length * z:=mW _ hi;rw[mR]at this;omega);have l:=NY (i * z) u.cells.toList 0 us (by simp;omega);have m:u.cells.zipIdx.foldl (λcs (p:Value × Nat)=>cs.setIfInBounds (i * z+p.2) p.1) us=dp us (i * z) u.cells.toList:=(by rw[AD]at l;rw[<-l,<-OT,iQR]);have B : ∀x∈u.cells.toList,x.oneCell'=true:=by
     intro x f;obtain⟨j,y,H⟩:=qC f;have C:j<v.cells.length:=by rw[b.1];exact y
     have:=b.2 j _ x (eu C) (by rw[<-H];exact eu y);exact this.one (by simp only[gP]at t;exact t _ (fj C))
    have o:Row M z (es.set i v) (dp us (i * z) u.cells.toList).toList:=by
     refine⟨?_,?_,?_,?_⟩;·simp only[Cg,List.length_set];rw[j5 (by simp;omega),I]
     ·intro e c;rcases O2 c with h | h
      ·exact a.Jf e h
      rw[h];exact A
     ·intro x f;simp only[dp,mS]at f;rcases f with (h | h) | h
      ·exact a.one x (Ai h)
      ·exact B x h
      exact a.one x (Fy h)
     intro k j e x c f;have V:k<es.length:=by have:=(fg.1 c).1;simpa using this
     rw[GM,jy (by simp;omega)];by_cases L:i=k
     ·subst L;rw[G5 hi]at c;injection c with c
      subst c;have y:j<v.cells.length:=(fg.1 f).1;rw[if_pos ⟨by omega,by simp;omega⟩,K7];have D:j<u.cells.toList.length:=by rw[<-b.1];exact y
      exact⟨u.cells.toList[j],eu D,b.2 j x _ f (eu D)⟩
     rw[G2 L]at c;have y:j<z:=(by rw[<-a.Jf e (ja c)];exact(fg.1 f).1);obtain⟨R,N,J⟩:=a.vr k j e x c f;rw[if_neg];·exact⟨R,by simpa using N,J⟩
     simp only[Cg,G];rcases OU L with h | h
     ·have:(i+1) * z<=k * z:=mW _ h;rw[mR]at this;omega
     have:(k+1) * z<=i * z:=mW _ h;rw[mR]at this;omega
    obtain⟨U,d,X,S⟩:=W qs (es.set i v) es' (dp us (i * z) u.cells.toList) h o (by simpa using E) (λk p q s K=>hp (k+1) p q s K) (λp s=>F p (kQ _ s));refine⟨by rw[U];simp,d,?_,S⟩;simp only[Instr.fill];rw[if_neg (by simp;omega)];rw[<-X,<-m]
   cases h
def xl{zs:Array Value}{n:Nat}(c:0<zs.size):((Array.range (n * zs.size)).map (zs[· % zs.size]!)).toList=(List.replicate n zs.toList).flatten:=by
 apply K1;intro k;rcases fQ k (n * zs.size)with a | a
 ·have b:k % zs.size<zs.size:=Nat.mod_lt _ c;have hd:k / zs.size<n:=(iQL c).2 a;have d:((Array.range (n * zs.size)).map (zs[· % zs.size]!)).toList[k]?=some zs[k % zs.size]:=(by simp[a,b,getElem!_pos]);rw[d];have : ∀n k,k<n * zs.size->(List.replicate n zs.toList).flatten[k]?=zs.toList[k % zs.size]?:=by
   intro n;induction n with
   | zero=>intro k a;simp at a
   | succ n e=>
    intro k a;rw[OV,List.flatten_cons];rcases fQ k zs.size with h | h
    ·rw[kR (by simpa using h),KV h]
    rw[kj (by simpa using h),Cg,e (k - zs.size) (by rw[mR]at a;omega)];congr 1;rw[<-Nat.mod_eq_sub_mod h]
  rw[this n k a];simp[b]
 rw[yf (by simpa using a),yf (by simpa using a)]
def Iv{t:TypeId}{n:Nat}(H:iA M ι g w){f:List (Nat × AV)}{qs:Array (Nat × Value)}{b:bC}(h:mkSlice P g t n f=some b)(Q:f.length=qs.toList.length)
 (hp : ∀(i:Nat) p q,f[i]?=some p->qs.toList[i]?=some q->p.1=q.1/\VR M ι p.2 q.2) :
 b.arr=true/\b.jq=false/\b.es.length=n /\∃e arr,(Instr.buildSlice t n qs).run P w = .ok (.slice (some ⟨w.heap.size,0,none⟩) n n) (w.alloc (.cells arr e))/\arr.size=n * b.esz /\
  Row (lW M ι g w (cO g (f.map (·.2)))) b.esz b.es arr.toList:=by
 unfold mkSlice at h;split at h;·cases h
 rename_i e U;split at h
 ·rename_i I z s C O G;obtain⟨V,h⟩:=fP.1 h;obtain⟨X,Y,J,S,D⟩:=V;simp only[bU]at h;obtain⟨es,y,rfl⟩:=h;obtain⟨it,u,j,B,L⟩:=tH O;obtain⟨W,o,R⟩:=vW G;rw[j]at o;cases o;have x:=jV (M:=lW M ι g w (cO g (f.map (·.2)))) (ι:=eM) L;have l:u.cells.size=s:=by have:=x.cells.1;simp at this;omega
  have d:=Row.replicate x J S n;obtain⟨N,K⟩:=Lg H C Q hp;have c:Row (lW M ι g w (cO g (f.map (·.2)))) s (List.replicate n z) ((Array.range (n * s)).map (u.cells[· % u.cells.size]!)).toList:=(by have:=xl (zs:=u.cells) (n:=n) (by omega);rw[l]at this;rw[l,this];exact d);obtain⟨F,m,T,E⟩:=D9 I qs.toList (List.replicate n z) es _ y c N K (by
   intro p k;simp only[gP,bI,iQb]at D;exact⟨(D p k).1,by simp only[gP];exact(D p k).2⟩)
  refine⟨rfl,rfl,by simpa using F,e,m,?_,?_,E⟩
  ·have A : ¬16777216<n * s:=(by omega);have a:Instr.fill (λi=>some (i * s,s)) ((Array.range (n * s)).map ((if n * s=0 then #[] else u.cells)[· % (if n * s=0 then #[] else u.cells).size]!)) qs.toList=some m:=by
    rw[<-T];congr 1;by_cases h:n * s=0;·simp[h]
    rw[if_neg h]
   simp only[Instr.buildSlice,iQg,bL (iD U),iQd,dm G,gt_iff_lt];rw[if_neg A];by_cases v:n * s=0;·rw[if_pos v]at a ⊢;simp only[pure_bind];rw[a];simp[newRow]
   rw[if_neg v]at a ⊢;simp only[iQg,zeroValue,typeInfo,j,B,run_program,iQd,iQj,a];simp[newRow]
  rw[<-Cg,E.len,F];simp
 cases h
def FL{P:Program}{g:dv}{t:TypeId}{n:Nat}{a:List (Nat × AV)}{b:bC}(h:mkSlice P g t n a=some b):0<b.esz:=by
 unfold mkSlice at h;split at h;·cases h
 split at h;·obtain⟨c,h⟩:=fP.1 h;obtain⟨_,_,rfl⟩:=bU.1 h;exact c.1
 cases h
def Ij(m:iA M ι g w)(E:r.k=0)(F:ι r=none){d:Bool}{t:TypeId}{n:Nat}{l:List (Nat × AV)}{qs:Array (Nat × Value)}{x:AV}{bs:List bC}
 (h:gY P d g r t n (some l)=some (x,bs)) (D:l.length=qs.toList.length)
 (hp : ∀(i:Nat) p q,l[i]?=some p->qs.toList[i]?=some q->p.1=q.1/\VR M ι p.2 q.2) :
 ∃u w',(Instr.buildSlice t n qs).run P w = .ok u w'/\kD M ι g w r x bs u w':=by
 simp only[gY]at h;obtain⟨s,h⟩:=fP.1 h;simp only[bU]at h;obtain⟨b,A,h⟩:=h;obtain⟨I,H,B,e,arr,G,C,z⟩:=Iv m A D hp;have j:=NW s;obtain⟨f,_⟩:=Bf (R:=cO g (l.map (·.2))) m;rw[j]at f;have a:Er w (w.alloc (.cells arr e)) (.cells arr e (0,0)):=⟨rfl,rfl,rfl,rfl⟩;refine⟨_,_,G,kD.after j m ?_⟩;have y:b=⟨b.esz,b.es,true,false⟩:=by cases b;simp_all
 cases d with| true=>simp at h;obtain⟨rfl,rfl⟩:=h;have:=TV (r:=r) f a z (λk u o=>by simpa using o) (c:=n) (by omega) (cap:=some n) (by intro k v;cases v;rfl);rw[B]at this;exact this| false=>simp at h;obtain⟨rfl,rfl⟩:=h;have:=vI f E F a z (λk u o=>by simpa using o) (n:=n) (c:=n) C (Di.zero _ _) (by omega) (bM _) (cap:=some n) (by intro k v;cases v;rfl);rw[B,<-y]at this;exact this (FL A)
end
end
section
section
variable{P:Program}{M:Mem}{ι:Map}{g:dv}{w:World}{r:Ref}
inductive App (P:Program) (w:World) (t':Option TypeId) (x:Value) (e z:Nat) (n:Nat) (us:List Value):Prop
 | src {d:TypeDesc} (ht:t'.bind P.underlying=some d) (hd : ∀k,d ≠ .int k) (hl : ∀w':World,(Builtin.lenOf x).run P w' = .ok n w')
  (hf : ∀w':World,w'.heap=w.heap->(Builtin.firstCells z n x).run P w' = .ok us.toArray w')
 | zeros {k kx:IntKind} (u:Value) (ht:t'.bind P.underlying=some (.int k)) (hx:x = .int kx n) (hn:n<=aX) (hu : ∀w':World,(zeroValue e).run P w' = .ok u w') (hz:u.cells.size=z)
  (hus:us=(List.replicate n u.cells.toList).flatten)
def EG{n:Nat}(h:n<=aX):IntKind.i64.wrap (n:Int)=n:=by
 unfold aX at h;exact iQa n ⟨by omega,by omega⟩
def Fv{u:Value}{n:Nat}:(Builtin.zeroCells u.cells n).toList=(List.replicate n u.cells.toList).flatten:=by
 unfold Builtin.zeroCells;rcases EC u.cells.size with h | h
 ·have:u.cells.toList=[]:=by simpa using Mt h
  simp[h,this]
 exact xl h
def Gc{h:Array TypeId}{t:TypeId}{ty:TypeId}(p:h[0]?=some t){e z by':Nat}(m:P.underlying t=some (.slice e))(o:aV P e=some z)(n:nT P e=some by')
 {a:Option Addr} {len c:Nat} (f:len<=c) {x:Value} (C:App P w h[1]? x e z 0 []) :
 (Builtin.append_ h ty #[.slice a len c,x]).run P w = .ok (.slice a len c) w:=by
 simp only[nT,bU]at n;obtain⟨i,hi,rfl⟩:=n;cases C with
 | src hd hm A v=>
  rename_i d;simp only[jb]at hd;obtain⟨t',b,hd⟩:=hd;have l:=v w rfl;have j:(match d with | .int _=>true | _=>false)=false:=by cases d<;>first | rfl | exact absurd rfl (hm _)
  cases a<;>simp[j,Builtin.append_,p,b,bL m,bL hd,dm o,A,f,l,storeCells]
 | zeros u hd E B q D y=>
  rename_i k kx;subst E;simp only[jb]at hd;obtain⟨t',b,hd⟩:=hd;have s:IntKind.i64.wrap 0=0:=by simpa using EG B
  cases a<;>simp[Builtin.append_,p,b,bL m,bL hd,dm o,asInt,asIntOf,s,typeInfo,hi,f,storeCells]
def wa{L:Array TypeId}{t:TypeId}{ty:TypeId}(R:L[0]?=some t){e z by':Nat}(F:P.underlying t=some (.slice e))(G:aV P e=some z)(T:nT P e=some by')
 {E:Value} (m : ∀w':World,(zeroValue e).run P w' = .ok E w') (Z:E.cells.size=z)
 {a:Option Addr} {len c n:Nat} {x:Value} {olds us:List Value} (D : ∀w':World,w'.heap=w.heap->(Builtin.firstCells z len (.slice a len c)).run P w' = .ok olds.toArray w')
 (hA:App P w L[1]? x e z n us) (O:c<len+n) (b:(len+n) * by'<=aX) (q:0<by') :
 ∃cap w',len+n<=cap/\(Builtin.append_ L ty #[.slice a len c,x]).run P w = .ok (.slice (some ⟨w.heap.size,0,none⟩) (len+n) cap) w' /\
  Er w w' (.cells (olds.toArray++us.toArray++Builtin.zeroCells E.cells (cap - (len+n))) e (0,0)):=by
 simp only[nT,bU]at T;obtain⟨i,hi,rfl⟩:=T;have j : ¬(9223372036854775807<(len:Int)+(n:Int)):=by
  have:(len+n) * 1<=(len+n) * i.bytes:=Nat.mul_le_mul_left _ q;unfold aX at b;omega
 have o : ¬(281474976710656<Builtin.nextslicecap (len+n) c * i.bytes):=by
  have:=growslice_fits (need:=len+n) (old:=c) (bytes:=i.bytes) O (by unfold aX at b;exact b);omega
 have p : ¬(len+n<=c):=by omega
 have f:=D w.drew rfl;obtain⟨A,S⟩ : ∃A,A=olds.toArray:=⟨_,rfl⟩;rw[<-S]at f ⊢;refine⟨grownCap w (len+n) c e,w.drew.alloc (.cells (A++us.toArray++Builtin.zeroCells E.cells (grownCap w (len+n) c e - (len+n))) e (0,0)),grownCap_ge _ _ _ _,?_,⟨rfl,rfl,rfl,rfl⟩⟩;cases hA with
 | src hd hm X W=>
  rename_i d;simp only[jb]at hd;obtain⟨t',l,hd⟩:=hd;have v:=W w.drew rfl;obtain⟨B,Q⟩ : ∃B,B=us.toArray:=⟨_,rfl⟩;rw[<-Q]at v ⊢;have N:(match d with | .int _=>true | _=>false)=false:=by cases d<;>first | rfl | exact absurd rfl (hm _)
  simp[N,Builtin.append_,R,l,bL F,bL hd,dm G,X,p,v,f,j,o,typeInfo,hi,Question.forced,m,newRow,grownCap]
 | zeros u hd hx Y K I H=>
  rename_i k kx;subst hx;simp only[jb]at hd;obtain⟨t',l,hd⟩:=hd;have U:=EG Y;have V:u=E:=by
   have J:=K w;rw[m w]at J;cases J;rfl
  subst V;have s : ¬((n:Int)<0):=by omega
  have y : ¬(281474976710656<(n:Int) * (i.bytes:Int)):=by
   have J:n * i.bytes<=(len+n) * i.bytes:=mW _ (by omega);unfold aX at b;have h2:((n * i.bytes:Nat):Int)=(n:Int) * (i.bytes:Int):=by simp
   omega
  have C:us.toArray=if n * z=0 then #[] else Builtin.zeroCells u.cells n:=by
   rw[H,<-Fv];by_cases h:n * z=0
   ·rw[if_pos h];have:(Builtin.zeroCells u.cells n).size=0:=by rw[iQN,I,h]
    rw[Array.toArray_toList];exact Mt this
   rw[if_neg h]
  rw[C];by_cases h:n * z=0;·simp[Builtin.append_,R,l,bL F,bL hd,dm G,asInt,asIntOf,U,s,y,typeInfo,hi,p,j,o,h,f,Question.forced,m,newRow,grownCap]
  simp[Builtin.append_,R,l,bL F,bL hd,dm G,asInt,asIntOf,U,s,y,typeInfo,hi,p,j,o,h,f,Question.forced,m,newRow,grownCap]
def Cp{F:Array TypeId}{t:TypeId}{ty:TypeId}(I:F[0]?=some t){e z by':Nat}(y:P.underlying t=some (.slice e))(A:aV P e=some z)(J:nT P e=some by')
 {b o len c n:Nat} {x:Value} {us:List Value} (R:App P w F[1]? x e z n us) (p:len+n<=c) (m:(len+n) * by'<=aX)
 {arr:Array Value} {T:TypeId} {fz:Nat × Nat} (v:w.heap[b]?=some (.cells arr T fz)) (O:o+len * z+us.length<=arr.size) (H : ∀j,j<arr.size ->¬(fz.1<=j/\(j<fz.2\/fz.2<fz.1))) (K : ∀u∈us,u.oneCell'=true) :
 (Builtin.append_ F ty #[.slice (some ⟨b,o,none⟩) len c,x]).run P w = .ok (.slice (some ⟨b,o,none⟩) (len+n) c) (cM w b (.cells (dp arr (o+len * z) us) T fz)):=by
 simp only[nT,bU]at J;obtain⟨i,hi,rfl⟩:=J;have f:=nV (P:=P) (o+len * z) us 0 arr w v (by simpa using O) H K;rw[AD]at f;cases R with
 | src hd hm N L=>
  rename_i d;simp only[jb]at hd;obtain⟨t',l,hd⟩:=hd;have C:=L w rfl;have G:(match d with | .int _=>true | _=>false)=false:=by cases d<;>first | rfl | exact absurd rfl (hm _)
  simp[G,Builtin.append_,I,l,bL y,bL hd,dm A,N,p,C,iM,f]
 | zeros u hd S Q E D B=>
  rename_i k kx;subst S;simp only[jb]at hd;obtain⟨t',l,hd⟩:=hd;have v:=EG Q;have q : ¬((n:Int)<0):=by omega
  have s : ¬(281474976710656<(n:Int) * (i.bytes:Int)):=by
   have K:n * i.bytes<=(len+n) * i.bytes:=mW _ (by omega);unfold aX at m;have U:((n * i.bytes:Nat):Int)=(n:Int) * (i.bytes:Int):=by simp
   omega
  have a:us=(if n * z=0 then #[] else Builtin.zeroCells u.cells n).toList:=by
   rw[B,<-Fv];by_cases h:n * z=0
   ·rw[if_pos h];have:(Builtin.zeroCells u.cells n).size=0:=by rw[iQN,D,h]
    rw[Mt this]
   rw[if_neg h]
  by_cases h:n * z=0;·rw[if_pos h]at a;simp only[Array.toList_empty]at a;rw[a]at f ⊢;simp[Builtin.append_,I,l,bL y,bL hd,dm A,asInt,asIntOf,v,q,s,typeInfo,hi,p,h,iM,f]
  rw[if_neg h]at a;rw[a]at f ⊢;simp[Builtin.append_,I,l,bL y,bL hd,dm A,asInt,asIntOf,v,q,s,typeInfo,hi,p,h,E,iM,f]
end
end
section
section
variable{P:Program}{M:Mem}{ι:Map}{g:dv}{w:World}{r:Ref}
def S3{t:TypeId}{y z x:AV}{l p:Value}(o:VR M ι y l)(m:VR M ι z p){bs:List bC}(h:xG P t (some y) (some z)=some (x,bs)) :
 bs=[] /\∃u,(Instr.index t l p).run P w = .ok u w/\VR M ι x u:=by
 simp only[xG,fe]at h;split at h
 ·rename_i k cs j a;injection a with a
  subst a;obtain⟨A,rfl⟩:=yX m j;split at h
  ·rename_i n e D;split at h;·rename_i s c;obtain⟨d,h⟩:=fP.1 h;simp only[ku,bU]at h;obtain⟨F,f,he⟩:=h;cases he;obtain⟨G,rfl,i⟩:=o.R0;obtain⟨u,B,q⟩:=Rr (w:=w) i f;exact⟨rfl,u,by simp[Instr.index,asIntOf,bL (Gp D),d.1,d.2,dm c,B],q⟩
   cases h
  cases h
 ·rename_i k s j c;injection c with c
  subst c;obtain⟨A,rfl⟩:=yX m j;cases o;obtain⟨d,h⟩:=fP.1 h;simp only[ku,bU]at h;obtain⟨F,⟨b,C,rfl⟩,he⟩:=h;cases he;refine⟨rfl,.int .u8 b.toNat,?_,.v rfl⟩;have E:=d.2;simp[Instr.index,asIntOf,bL (uI d.1),E,C]
 cases h
def VL{f:Fn}{a b:List AV}{k m:List Value}(j:mM M ι a k)(l:mM M ι b m){x:AV}{bs:List bC}(h:yR f (some a) (some b)=some (x,bs)) :
 bs=[]/\VR M ι x (.func f k.toArray m.toArray):=by
 simp only[yR,eS,tf]at h;obtain⟨rfl,rfl⟩:=h;exact⟨rfl,.fn (by simpa using j.1) (by simpa using l.1) (λi c u e d=>j.2 i c u e (by simpa using d)) (λi c u e d=>l.2 i c u e (by simpa using d))⟩
def VF{tm:List AV}{a:Act}(h:TR M ι tm a){c x y:Operand}{z:AV}{bs:List bC}(b:Ig (aW tm) c x y=some (z,bs)) :
 bs=[] /\∃u,(do pure (if <-asBool (a.eval c) then a.eval x else a.eval y):Sem Value).run P w = .ok u w/\VR M ι z u:=by
 unfold Ig at b;split at b;·rename_i e;simp only[jb]at e;obtain⟨j,i,d⟩:=e;have:=BW (bk h i) d;simp only[ku,bU]at b;obtain⟨k,f,he⟩:=b;cases he;exact⟨rfl,_,by simp[this,asBool],bk h f⟩
 ·rename_i e;simp only[jb]at e;obtain⟨j,i,d⟩:=e;have:=BW (bk h i) d;simp only[ku,bU]at b;obtain⟨k,f,he⟩:=b;cases he;exact⟨rfl,_,by simp[this,asBool],bk h f⟩
 cases b
def Y5{j:Array TypeId}{ty:TypeId}{y x:AV}{m:Value}(f:VR M ι y m){bs:List bC}(h:acv P j[0]? y=some (x,bs)) :
 bs=[] /\∃u,(Builtin.cap_ j ty #[m]).run P w = .ok u w/\VR M ι x u:=by
 unfold acv at h;split at h;·rename_i e b;obtain⟨t,d,b⟩:=jb.1 b;cases h;cases f;exact⟨rfl,goInt 0,by simp[Builtin.cap_,d,bL (iD b)],.v rfl⟩
 ·rename_i e z es k b;obtain⟨t,d,b⟩:=jb.1 b;cases h;cases f with | bE cell q s i hm n D=>
  rename_i a c;have:=i k rfl;subst this;exact⟨rfl,goInt c,by simp[Builtin.cap_,d,bL (iD b)],.v rfl⟩
 ·rename_i e r o len k b;obtain⟨t,d,b⟩:=jb.1 b;cases h;cases f with | ct B A q C s E i p=>
  rename_i l a c;have:=i k rfl;subst this;exact⟨rfl,goInt c,by simp[Builtin.cap_,d,bL (iD b)],.v rfl⟩
 cases h
def Y3{k:Array TypeId}{ty:TypeId}{y x:AV}{l:Value}(c:VR M ι y l){bs:List bC}(h:JA P k[0]? y=some (x,bs)) :
 bs=[] /\∃u,(Builtin.len_ k ty #[l]).run P w = .ok u w/\VR M ι x u:=by
 unfold JA at h;split at h;·cases h
 rename_i t b;split at h
 ·rename_i n e m;injection h with h
  injection h with f d
  subst f;subst d;exact⟨rfl,goInt n,by simp[Builtin.len_,b,bL (Gp m)],.v rfl⟩
 split at h
 ·rename_i j;split at h
  ·injection h with h
   injection h with f d
   subst f;subst d;cases c;exact⟨rfl,goInt _,by simp[Builtin.len_,b,bL (uI j)],.v rfl⟩
  cases h
 obtain⟨j,h⟩:=fP.1 h;obtain⟨e,he⟩:=iB.1 j;have i:=iD he;simp only[bU]at h;obtain⟨n,a,h⟩:=h;injection h with f d
 subst f;subst d;refine⟨rfl,goInt n,?_,.v rfl⟩;unfold tu at a;split at a;·injection a with a;subst a;cases c;simp[Builtin.len_,b,bL i]
 ·injection a with a;subst a;cases c;simp[Builtin.len_,b,bL i]
 ·injection a with a;subst a;cases c;simp[Builtin.len_,b,bL i]
 ·injection a with a;subst a;cases c;simp[Builtin.len_,b,bL i]
 cases a
def KF{x:AV}{u:Value}{b:UInt8}(a:VR M ι x u)(h:byteOf x=some b) : ∃n:Int,u = .int .u8 n/\b=UInt8.ofNat n.toNat:=by
 unfold byteOf at h;split at h
 ·injection h with h
  cases a;exact⟨_,rfl,h.symm⟩
 cases h
def Ql : ∀(a:List Int)(s:ByteArray),a.foldl (λr n=>r.push (UInt8.ofNat n.toNat)) s=⟨s.data++(a.map λn=>UInt8.ofNat n.toNat).toArray⟩:=by
 intro a;induction a with
 | nil=>intro s;simp
 | cons n a b=>intro s;rw[wU,b];simp[ByteArray.push]
def Ns(J:iA M ι g w)(hr:r.k=0)(hq:ι r=none){src dst:TypeId}{y x:AV}{u0:Value}(S:VR M ι y u0){bs:List bC}(h:cE P g r src dst (some y)=some (x,bs)) :
 ∃u w',(Go.convert src dst u0).run P w = .ok u w'/\kD M ι g w r x bs u w':=by
 unfold cE at h;split at h
 ·rename_i e;injection e with e
  subst e;cases S;obtain⟨p,h⟩:=fP.1 h;simp only[bI]at p;obtain⟨e,E,F⟩:=sE p.1;injection h with h
  injection h with G O
  subst G;subst O;exact⟨.string .empty,w,by rw[iQD w src dst e none 0 0 E F (uI p.2)];rfl,kD.same J (.v rfl)⟩
 ·rename_i s e;injection e with e
  subst e;cases S;split at h
  ·rename_i p;simp only[bI]at p;injection h with h
   injection h with G O
   subst G;subst O;exact⟨.string s,w,by simp[Go.convert,bL (uI p.1),bL (uI p.2)],kD.same J (.v rfl)⟩
  split at h
  ·rename_i p;simp only[bI]at p;obtain⟨hrm,h⟩:=fP.1 h;injection h with h
   injection h with G O
   subst G;subst O;obtain⟨e,E,F⟩:=sE p.2;have hrun:=run_bytes_of_string (P:=P) w src dst e s (uI p.1) E F;have hcap:=grownCap_ge w s.size 0 e;have hrow:Row M 1 (s.data.toList.map λb=>AV.v (.int .u8 b.toNat)) (s.data.toList.map λb=>Value.int .u8 b.toNat):=by
    refine⟨by simp,?_,?_,?_⟩;·intro e I;simp only[mo]at I;obtain⟨b,_,rfl⟩:=I;rfl
    ·intro x hx;simp only[mo]at hx;obtain⟨b,_,rfl⟩:=hx;rfl
    intro i j e x I hx;simp only[nM,bU]at I;obtain⟨b,hb,rfl⟩:=I;cases j with
    | succ j=>simp[AV.cells]at hx
    | zero=>simp[AV.cells]at hx;subst hx;exact⟨.int .u8 b.toNat,by simp[hb],.v rfl⟩
   have hsize:(bytesRow s (grownCap w s.size 0 e)).size=grownCap w s.size 0 e:=(by have:s.data.size=s.size:=rfl;simp[bytesRow];omega);have:=vI J hr hq (w':=w.drew.alloc (.cells (bytesRow s (grownCap w s.size 0 e)) e ((bytesRow s (grownCap w s.size 0 e)).size,(bytesRow s (grownCap w s.size 0 e)).size+1)))
    ⟨rfl,rfl,rfl,rfl⟩ hrow (by
     intro k u hu;have D:=(fg.1 hu).1;unfold bytesRow;rw[O4 (by simpa using D)];rw[<-hu];simp) (n:=grownCap w s.size 0 e) (c:=grownCap w s.size 0 e) (by rw[hsize];simp) ⟨by intro o ho h;simp only at h;omega,λh=>absurd h (by decide)⟩ (by simpa using hcap) (bM _) (cap:=none) (by intro k D;cases D) Nat.one_pos
   simp only[AM,Cg]at this;exact⟨_,_,hrun,this⟩
  cases h
 ·rename_i v hne1 hne2 e;injection e with e
  subst e;simp only[ku,bU,jb]at h;obtain⟨z,⟨u,hu,hz⟩,I⟩:=h;cases I;cases S;exact⟨u,w,pd hu w,kD.same J (pe hz)⟩
 ·rename_i y' hne1 hne2 K e;injection e with e
  subst e;split at h
  ·rename_i p;simp only[bI]at p;obtain⟨e,E,F⟩:=sE p.1;split at h
   ·rename_i z es d;simp only[bU]at h;obtain⟨l,hl,h⟩:=h;injection h with G O
    subst G;subst O;have hz1:z=1\/es=[]:=by
     cases es with| nil=>exact .inr rfl| cons e0 es0=>
      left;obtain⟨b,_,hb⟩:=mB hl 0 e0 rfl;unfold byteOf at hb;split at hb
      ·rename_i n;cases S with
       | bE cell hs hcc' D hm I X=>simp only[dt,eS,tf]at d;obtain⟨rfl,rfl⟩:=d;have:=I _ (j1 ..);simpa [AV.cells] using this.symm
       | ct Q hb' hs ha hcc' hn D H=>
        rename_i r1 off1 D1 cap1 l1 a1 c1;simp only[dt]at d;split at d
        ·rename_i b1 L;obtain⟨N,d⟩:=fP.1 d;injection d with d
         injection d with h3 h4
         have C:=J.at Q H L;have hmem:(AV.v (.int .u8 n))∈b1.es:=by
          have:(AV.v (.int .u8 n))∈(b1.es.drop off1).take D1:=by rw[h4];exact j1 ..
          exact Fy (Ai this)
         have:=C.cells _ hmem;rw[<-h3,<-this];rfl
        cases d
       | v hv=>exact absurd rfl (K _)
       | _=>simp[dt]at d
      cases hb
    have hlen:=iG hl;obtain⟨a,n,c,rfl,hn,B⟩ : ∃a n c,u0 = .slice (some a) n c/\es.length=n /\∀j,j<n ->∃b:Int,w.cell? (a.add j)=some (.int .u8 b)/\l[j]?=some (UInt8.ofNat b.toNat):=by
     rcases hz1 with rfl | rfl
     ·obtain⟨us,hsrc⟩:=pn (P:=P) J S (Nat.one_pos) d;cases S with
      | bE cell hs p D hm I X=>
       rename_i esz es' cap a c;simp only[dt,eS,tf]at d;obtain⟨rfl,rfl⟩:=d;refine⟨a,es'.length,c,rfl,rfl,?_⟩;intro j t;have R:=eu t;obtain⟨b,L,A⟩:=mB hl j _ R;have hcl:=I _ (fj t);have W:es'[j].cells=[es'[j]]:=by
        unfold byteOf at A;split at A;·rename_i Z;rw[Z];rfl
        cases A
       have hvr:=X j 0 _ _ R (show es'[j].cells[0]?=some es'[j] by rw[W];rfl);obtain⟨nb,V,rfl⟩:=KF hvr A;refine⟨nb,?_,L⟩;have:=J.mem _ _ _ (hm j 0 t (by omega)).1;rw[kV (hs.resolve_right (by intro e;subst e;simp at t)),iM];rw[V]at this;simpa using this
      | ct Q hb' hs ha p hn D H=>
       rename_i r1 m len cap l1 a c;simp only[dt]at d;split at d
       ·rename_i b1 L;obtain⟨N,d⟩:=fP.1 d;injection d with d
        injection d with h3 h4
        subst h4;have C:=J.at Q H L;obtain⟨g1,g2⟩:=getElems b1.es m len N.2;refine⟨a,len,c,rfl,g1,?_⟩;intro j t;have R:((b1.es.drop m).take len)[j]?=some b1.es[m+j]:=by rw[g2 j t];exact eu (by omega)
        obtain⟨b,hb1',A⟩:=mB hl j _ R;have hcl:=C.cells _ (fj (by omega:m+j<b1.es.length));have W:b1.es[m+j].cells=[b1.es[m+j]]:=by
         unfold byteOf at A;split at A;·rename_i Z;rw[Z];rfl
         cases A
        obtain⟨u,U,hu2,hu3⟩:=C.cell (m+j) (eu (by omega)) 0 b1.es[m+j] (by rw[W];rfl);obtain⟨nb,V,rfl⟩:=KF hu3 A;refine⟨nb,?_,hb1'⟩;have hoff:a.off=m * l1.esz:=by
         rcases ha with h | h
         ·omega
         exact h
        rw[kV hs,iM,hb',hoff,C.esz,h3];rw[h3,V]at U;simp only[Nat.mul_one,AD]at U ⊢;exact U
       cases d
      | v hv=>exact absurd rfl (K _)
      | _=>simp[dt]at d
     cases S with
     | bE cell hs p D hm I X=>rename_i esz es' cap a c;simp only[dt,eS,tf]at d;obtain⟨rfl,rfl⟩:=d;exact⟨a,0,c,rfl,rfl,λj t=>by omega⟩
     | ct Q hb' hs ha p hn D H=>
      rename_i r1 m len cap l1 a c;simp only[dt]at d;split at d
      ·obtain⟨N,d⟩:=fP.1 d;injection d with d
       injection d with h3 h4
       have:len=0:=(by have:=(getElems _ m len N.2).1;rw[h4]at this;simpa using this.symm);exact⟨a,len,c,rfl,by simp[this],λj t=>by omega⟩
      cases d
     | v hv=>exact absurd rfl (K _)
     | _=>simp[dt]at d
    refine⟨.string ⟨l.toArray⟩,w,?_,kD.same J (.v rfl)⟩;rw[iQD w src dst e (some a) n c E F (uI p.2)];let f:Nat->Int:=λj=>if h:j<n then (B j h).choose else 0
    have hf1 : ∀j,j<n->w.cell? (a.add j)=some (.int .u8 (f j)):=λj t=>by simp only[f,dif_pos t];exact(B j t).choose_spec.1
    have hf2 : ∀j,j<n->l[j]?=some (UInt8.ofNat (f j).toNat):=λj t=>by simp only[f,dif_pos t];exact(B j t).choose_spec.2
    have Y:=run_loadCells (P:=P) w a n (λj => .int .u8 (f j)) (λj t=>hf1 j t);have hns:(loadCells a n).run P w = .ok (((List.range n).map f).map (Value.int .u8)).toArray w:=by rw[Y];simp
    rw[run_bytesToString w a n c _ hns,Ql];have:((List.range n).map f).map (λn=>UInt8.ofNat n.toNat)=l:=by
     apply K1;intro j;rcases fQ j n with t | t
     ·rw[hf2 j t];simp[t]
     rw[yf (by simpa using t),yf (by omega)]
    rw[this];have he0:ByteArray.empty.data = #[]:=rfl;rw[he0];simp
   cases h
  replace h:=fP.1 h;obtain⟨p,h⟩:=h;simp only[bI,iQl]at p;obtain⟨he0,p⟩:=p;subst he0;obtain⟨e,E,F⟩:=sE p;cases y with
  | ct r' m len cap=>
   obtain⟨k,D,hk1,h⟩ : ∃k,g r'=some k/\k.esz=1/\some (AV.ct r' m len cap,([]:List bC))=some (x,bs):=by
    cases D:g r' with| none=>simp only[D]at h;cases h| some k=>simp only[D]at h;obtain⟨G,h⟩:=fP.1 h;exact⟨k,rfl,G,h⟩
   injection h with h;injection h with G O;subst G;subst O
   have hy0:=S;cases S with | ct hrl hbb hsp ha N hn hkk H=>
   rename_i l a c;have C:=J.at hrl H D;obtain⟨arr,T,fz,X,hsz,hfz,hcells⟩:=C.heap;have hlt:=C.lt;have hfr:w.freeze ⟨a.block,arr.size,none⟩ 1=cM w l.b (.cells arr T (if fz.1 == fz.2 then (arr.size,arr.size+1) else (min fz.1 arr.size,max fz.2 (arr.size+1)))):=by
    unfold World.freeze cM;rw[if_neg (by decide)];congr 1;apply Fw;intro i;rw[G3,hbb];by_cases hi:l.b=i;·subst hi;rw[if_pos rfl,X,GN hlt];rfl
    rw[if_neg hi,Ch hi]
   have hfz' : ∀o,o<arr.size ->¬((if fz.1 == fz.2 then (arr.size,arr.size+1) else (min fz.1 arr.size,max fz.2 (arr.size+1)):Nat × Nat).1<=o/\(o<(if fz.1 == fz.2 then (arr.size,arr.size+1) else (min fz.1 arr.size,max fz.2 (arr.size+1)):Nat × Nat).2\/(if fz.1 == fz.2 then (arr.size,arr.size+1) else (min fz.1 arr.size,max fz.2 (arr.size+1)):Nat × Nat).2<(if fz.1 == fz.2 then (arr.size,arr.size+1) else (min fz.1 arr.size,max fz.2 (arr.size+1)):Nat × Nat).1)):=by
    intro o ho;split;·simp only;omega
    rename_i hne;simp only[iQl]at hne;have G:arr.size<=fz.1:=by
     rcases fQ fz.1 arr.size with h | h
     ·exact absurd ⟨bM _,by omega⟩ (hfz.1 fz.1 h)
     exact h
    simp only;omega
   obtain⟨h3,h4⟩:=J.mark D hrl X hfr ⟨hfz',λG=>by omega⟩;refine⟨.slice (some a) len c,_,?_,M,ι,hy0,by rw[oB];exact h3,by rw[oB];exact h4,λq hq _=>hq⟩;have hsh:w.shape? a.block=some (T,arr.size):=(by unfold World.shape?;rw[hbb,X]);simp[Go.convert,bL E,bL F,markStringish,hsh]
  | _=>cases h
 rename_i e;cases e
def VH(hS:iA M ι g w)(hr:r.k=0)(hq:ι r=none){t:TypeId}{y z x:AV}{Z Y:Value}(hy:VR M ι y Z)(hz:VR M ι z Y){bs:List bC}(h:yQ P r t (some y) (some z)=some (x,bs)) :
 ∃u w',(Instr.makeSlice t Z Y).run P w = .ok u w'/\kD M ι g w r x bs u w':=by
 unfold yQ at h;simp only[fe]at h;split at h
 ·rename_i e l c W hl hc;obtain⟨kl,rfl⟩:=yX hy hl;obtain⟨kc,rfl⟩:=yX hz hc;split at h
  ·rename_i zv s b R Q U;obtain⟨A,h⟩:=fP.1 h;obtain⟨c1,c2,c3,c4,c5,X,V⟩:=A;injection h with h
   injection h with h1 h2
   subst h1;subst h2;obtain⟨it,u,m,O,hu⟩:=tH R;obtain⟨i',G,hsz⟩:=vW Q;rw[m]at G;cases G;simp only[nT,m,Option.map_some,eS]at U;have B:=jV (M:=M) (ι:=eM) hu;have E:u.cells.size=s:=by have:=B.cells.1;simp at this;omega
   obtain⟨j,rfl⟩:=JZ c1;obtain⟨a,rfl⟩:=JZ (Int.le_trans c1 c2);have C:IntKind.i64.wrap (j:Int)=j:=iQa _ ⟨by omega,by omega⟩;have D:IntKind.i64.wrap (a:Int)=a:=iQa _ ⟨by omega,by omega⟩;have K : ¬((a:Int)<0):=by omega
   have o : ¬(281474976710656<(it.bytes:Int) * (a:Int)):=(by rw[U,Int.mul_comm];have e1:((aX:Nat):Int)=140737488355328:=rfl;omega);have H : ¬((j:Int)<0):=(by omega);have I : ¬((a:Int)<(j:Int)):=(by omega);have d:=xl (zs:=u.cells) (n:=a) (by omega);rw[E]at d;have i:((Array.range (a * s)).map ((if a * s=0 then #[] else u.cells)[· % (if a * s=0 then #[] else u.cells).size]!)).toList=(List.replicate a u.cells.toList).flatten:=by
    by_cases F:a * s=0
    ·have T:a=0:=by
      rcases Nat.mul_eq_zero.1 F with h | h
      ·exact h
      omega
     simp[T]
    rw[if_neg F,E];exact d
   obtain⟨arr,f⟩ : ∃arr,arr=(Array.range (a * s)).map ((if a * s=0 then #[] else u.cells)[· % (if a * s=0 then #[] else u.cells).size]!):=⟨_,rfl⟩;rw[<-f]at i;have q:=Row.replicate B X V a;have p:arr.size=a * s:=by rw[<-Cg,i];have:=q.len;simpa using this
   have J:(Instr.makeSlice t (.int kl j) (.int kc a)).run P w = .ok (.slice (some ⟨w.heap.size,0,none⟩) j a) (w.alloc (.cells arr e)):=by
    subst f;by_cases F:a * s=0;·simp[Instr.makeSlice,bL (iD W),asInt,asIntOf,typeInfo,m,C,D,K,o,H,I,dm Q,F,newRow]
    simp[Instr.makeSlice,bL (iD W),asInt,asIntOf,typeInfo,m,C,D,K,o,H,I,dm Q,F,newRow,zeroValue,O]
   refine⟨_,_,J,?_⟩;have L:=Row.replicate B X V j;have:=vI hS hr hq (w':=w.alloc (.cells arr e)) ⟨rfl,rfl,rfl,rfl⟩ L (by
    intro k v N;rw[<-GM,i];have S:(List.replicate a u.cells.toList)=List.replicate j u.cells.toList++List.replicate (a - j) u.cells.toList:=by rw[Uj];congr 1;omega
    rw[S,List.flatten_append,kR (fg.1 N).1];exact N) (n:=a) (c:=a) p (Di.zero _ _) (by simp;omega) (bM _) (cap:=none) (by intro k N;cases N) c5
   simpa using this
  cases h
 cases h
end
end
section
section
variable{P:Program}{M:Mem}{ι:Map}{g:dv}{w:World}{r:Ref}
def Iu(S:iA M ι g w){t':Option TypeId}{e z:Nat}(Z:aV P e=some z)(H:0<z){x:AV}{N:Value}(L:VR M ι x N){new:List AV}
 (R : ¬((t'.bind P.underlying).isNone=true\/(t'.map (isInt P)).getD false≠isNum x)) (h:nP P g e x=some (z,new)) : ∃us,Row M z new us/\App P w t' N e z new.length us:=by
 have K : ∃d,t'.bind P.underlying=some d/\(isNum x=false ->∀k,d ≠ .int k)/\(isNum x=true ->∃k,d = .int k):=by
  have c : ¬(t'.bind P.underlying).isNone=true:=λh=>R (.inl h);have b:(t'.map (isInt P)).getD false=isNum x:=wV.1 λh=>R (.inr h);cases t' with
  | none=>simp at c
  | some t=>
   simp only[fe]at c ⊢;cases B:P.underlying t with
   | none=>simp[B]at c
   | some d=>
    simp only[Option.map_some,cU]at b;refine⟨d,rfl,?_,?_⟩;·intro F k s;subst s;rw[F]at b;simp[isInt,B]at b
    intro F;rw[F]at b;obtain⟨k,s⟩:=Wx b;rw[B]at s;exact⟨k,by simpa using s⟩
 obtain⟨d,hd,p,y⟩:=K;unfold nP at h;split at h
 ·simp only[bU]at h;obtain⟨Q,G,h⟩:=h;injection h with c b
  subst b;cases L;exact⟨[],Row.nil,.src hd (p rfl) (λw'=>rfl) (λw' _=>rfl)⟩
 ·rename_i k n;split at h
  ·rename_i wv Q J G;obtain⟨f,h⟩:=fP.1 h;injection h with h
   injection h with c b
   subst c;subst b;obtain⟨X,U,V,Y⟩:=f;obtain⟨m,rfl⟩:=JZ X;obtain⟨k',rfl⟩:=y rfl;cases L;obtain⟨u,i,C⟩:=yL J w;have E : ∀w':World,(zeroValue e).run P w' = .ok u w':=by
    intro w';obtain⟨u',c,b⟩:=yL J w';obtain⟨it,v,o,j,A⟩:=tH J;have T:(zeroValue e).run P w = .ok v w:=by simp[zeroValue,typeInfo,o,j]
    have W:(zeroValue e).run P w' = .ok v w':=(by simp[zeroValue,typeInfo,o,j]);rw[T]at i;cases i;exact W
   have A:=jV (M:=M) (ι:=eM) C;have D:u.cells.size=Q:=by have:=A.cells.1;simp at this;omega
   refine⟨_,Row.replicate A V Y m,?_⟩;rw[K0];exact .zeros (kx:=k) u hd (by simp) (by simpa using U) E D (by simp)
  cases h
 rename_i O l;have q:isNum x=false:=by
  unfold isNum;split;·exact absurd rfl (l _ _)
  rfl
 obtain⟨us,a⟩:=pn (P:=P) S L H h;refine⟨us,a.row,.src hd (p q) a.lenOf λw' I=>?_⟩;have:=a.first new.length w' (bM _) I;rwa [dM (by rw[a.len];exact bM _)]at this
def CM{e z:Nat}(f:aV P e=some z){y:AV}(c:fk P e=some y)(h:y.cells.length=z) : ∃u,(∀w':World,(zeroValue e).run P w' = .ok u w')/\u.cells.size=z:=by
 obtain⟨it,v,b,a,d⟩:=tH c;refine⟨v,λw'=>by simp[zeroValue,typeInfo,b,a],?_⟩;have:=(jV (M:=λ_ _=>none) (ι:=eM) d).cells.1;simp at this;omega
def Bd{olds us:List Value}{b:Value}{z n1 n2 cap:Nat}(f:olds.length=n1 * z)(d:us.length=n2 * z)(e:b.cells.size=z)(h:n1+n2<=cap) :
 (olds.toArray++us.toArray++Builtin.zeroCells b.cells (cap - (n1+n2))).size=cap * z /\
 ∀(k:Nat) u,(olds++us)[k]?=some u->(olds.toArray++us.toArray++Builtin.zeroCells b.cells (cap - (n1+n2)))[k]?=some u:=by
 constructor;·simp only[Array.size_append,List.size_toArray,iQN,e,f,d,<-mR];congr 1;omega
 intro k u c;have a:=(fg.1 c).1;rw[O4 (by simpa using a)];simpa using c
def BL{a:Option Addr}{len c z:Nat}{es:List AV}{us:List Value}{u:Value}(d:u = .slice a len c)(e:es.length=len)(h:Src P M w u z es us) :
 ∀w':World,w'.heap=w.heap->(Builtin.firstCells z len (.slice a len c)).run P w' = .ok us.toArray w':=by
 intro w' b;have:=h.first es.length w' (bM _) b;rw[dM (by rw[h.len];exact bM _),d,e]at this;exact this
def Ik(F:iA M ι g w)(hr:r.k=0)(hq:ι r=none){U:Array TypeId}{ty:TypeId}{s x y:AV}{us ux:Value}(O:VR M ι s us)(hx:VR M ι x ux){bs:List bC}
 (h:fx P g r U[0]? U[1]? s x=some (y,bs)) : ∃u w',(Builtin.append_ U ty #[us,ux]).run P w = .ok u w'/\kD M ι g w r y bs u w':=by
 unfold fx at h;split at h;·cases h
 rename_i e he;simp only[jb]at he;obtain⟨t,ht,he⟩:=he;have hu:=iD he;split at h;·cases h
 rename_i hc;split at h
 ·rename_i z by' zz H new hz hb hzz S;split at h;·cases h
  rename_i i;have hez:H=z:=wV.1 λh=>i (.inl h);have C:0<z:=Ah λh=>i (.inr (.inl h));have hb0:0<by':=Ah λh=>i (.inr (.inr (.inl h)));have V:zz.cells.length=z:=wV.1 λh=>i (.inr (.inr (.inr h)));have hez':=hez;subst hez;obtain⟨W,A,hA⟩:=Iu (w:=w) F hz C hx hc S;have f:new=[] ->∀a len c,len<=c->us = .slice a len c->(Builtin.append_ U ty #[us,ux]).run P w = .ok us w:=by
   intro E a len c hlc I;subst E;have:W=[]:=Ak (by rw[A.len];simp);subst this;rw[I];exact Gc ht hu hz hb hlc hA
  have fresh : ∀ {a:Option Addr} {len c:Nat} {es:List AV} {us0:List Value},us = .slice a len c->es.length=len->Row M H es us0 ->
   (∀w':World,w'.heap=w.heap->(Builtin.firstCells H len (.slice a len c)).run P w' = .ok us0.toArray w')->c<len+new.length->(len+new.length) * by'<=aX ->
   ∃u w',(Builtin.append_ U ty #[us,ux]).run P w = .ok u w'/\kD M ι g w r (.ct r 0 (len+new.length) none) [⟨H,es++new,true,false⟩] u w':=by
   intro a len c es us0 I D q Q L d;obtain⟨zv,hzv,R⟩:=CM hz hzz V;obtain⟨cap,w',Z,X,J⟩:=wa (P:=P) (w:=w) (ty:=ty) ht hu hz hb hzv R Q hA L d hb0;obtain⟨p,o⟩:=Bd (olds:=us0) (us:=W) (n1:=len) (n2:=new.length) (cap:=cap) (by rw[q.len,D]) A.len R Z;refine⟨_,w',by rw[I];exact X,?_⟩;have:=vI F hr hq J (q.append A) o (n:=cap) (c:=cap) p (Di.zero _ _) (by simp;omega) (bM _) (cap:=none) (by intro k T;cases T) C;simp only[iX,D]at this;exact this
  split at h
  ·cases O;split at h
   ·rename_i E;injection h with h;injection h with p o;subst p;subst o
    exact⟨_,w,f E none 0 0 (bM _) rfl,kD.same F (.v rfl)⟩
   rename_i E;obtain⟨d,h⟩:=fP.1 h;injection h with h;injection h with p o;subst p;subst o
   have hpos:0<new.length:=yd.2 E;have:=fresh (a:=none) (len:=0) (c:=0) (es:=[]) (us0:=[]) rfl rfl Row.nil (λw' _=>rfl) (by omega) (by simpa using d);simpa using this
  ·rename_i n es cap;split at h;·cases h
   rename_i K;have K:n=H:=wV.1 K;subst K;have B:=O;cases O with | bE cell hsp N T hm hes hh=>
   rename_i a c;split at h
   ·rename_i E;injection h with h;injection h with p o;subst p;subst o
    exact⟨_,w,f E _ _ _ N rfl,kD.same F B⟩
   cases cap with
   | some k=>
    obtain⟨⟨L,d⟩,h⟩:=fP.1 h;injection h with h;injection h with p o;subst p;subst o
    have hck:=T k rfl;obtain⟨us0,j⟩:=pn (P:=P) (g:=g) (z:=n) (es:=es) F B C rfl;exact fresh rfl rfl j.row (BL rfl rfl j) (by omega) d
   | none=>cases h
  ·rename_i r' G len cap;split at h
   ·rename_i b hb';split at h;·cases h
    rename_i m;have hbz:b.esz=H:=wV.1 λh=>m (.inl h);have Y:b.arr=true:=by
     cases hh:b.arr with| true=>rfl| false=>exact absurd (.inr hh) m
    have B:=O;cases O with | ct hrl hbb hsp ha N E T V=>
    rename_i l a c;split at h
    ·rename_i hn';injection h with h;injection h with p o;subst p;subst o
     exact⟨_,w,f hn' _ _ _ N rfl,kD.same F B⟩
    cases cap with
    | some k=>
     obtain⟨⟨hle,L,d⟩,h⟩:=fP.1 h;injection h with h;injection h with p o;subst p;subst o
     have hck:=T k rfl;have D:dt g (.ct r' G len (some k))=some (H,(b.es.drop G).take len):=(by simp only[dt,hb',Y,hle,and_self,if_true,hbz]);obtain⟨us0,j⟩:=pn (P:=P) F B C D;have hl:=(getElems b.es G len hle).1;exact fresh rfl hl j.row (BL rfl hl j) (by omega) d
    | none=>cases h
   cases h
  cases h
 cases h
end
end
section
def aa.ad(H:aa)(r q:Ref)(b:Option bC):(H.put r b).get q=if q=r then b else H.get q:=by
 induction H with
 | nil=>
  simp only[aa.put,aa.get];by_cases h:q=r;·rw[if_pos h.symm,if_pos h]
  rw[if_neg (tC h),if_neg h]
 | cons p H e=>
  obtain⟨r',f⟩:=p;simp only[aa.put];by_cases d:r'=r
  ·rw[if_pos d];simp only[aa.get];by_cases c:q=r;·rw[if_pos c.symm,if_pos c]
   rw[if_neg (tC c),if_neg c,if_neg (by rw[d];exact tC c)]
  rw[if_neg d];simp only[aa.get];by_cases a:r'=q;·rw[if_pos a,if_neg (by rw[<-a];exact d),if_pos a]
  rw[if_neg a,e,if_neg a]
def aa.jo(H:aa)(r:Ref)(b:Option bC)(h:(H.get r).isSome=true)(d t:Nat):(H.put r b).gen d t=H.gen d t:=by
 induction H with| nil=>simp[aa.get]at h| cons p H c=>
  obtain⟨r',e⟩:=p;simp only[aa.put];by_cases a:r'=r;·rw[if_pos a,a];rfl
  rw[if_neg a];simp only[aa.gen];simp only[aa.get,if_neg a]at h;rw[c h]
def aa.dX(R:List Ref) : ∀(H:aa),(cL H R).get=uY H.get R:=by
 induction R with| nil=>intro H;funext q;simp[cL,uY]| cons r R e=>
  intro H;funext q;simp only[cL];split
  ·rename_i b d;rw[e];unfold uY;simp only[fR,aa.ad];by_cases a:q=r;·subst a;simp[d]
   simp only[if_neg a];by_cases c:q∈R;·simp[c]
   simp[c,a]
  rename_i d;rw[e];unfold uY;simp only[fR];by_cases a:q=r;·subst a;simp[d]
  by_cases c:q∈R;·simp[c]
  simp[c,a]
def aa.je(R:List Ref) : ∀(H:aa)(d t:Nat),(cL H R).gen d t=H.gen d t:=by
 induction R with| nil=>intro H d t;rfl| cons r R a=>
  intro H d t;simp only[cL];split;·rename_i b c;rw[a,aa.jo H r _ (by rw[c];rfl)]
  exact a H d t
def aa.tT(r:Ref) : ∀(bs:List bC)(k:Nat)(H:aa)(q:Ref),(keyed r k bs H).get q=if q.d=r.d/\q.t=r.t/\q.g=r.g/\k<=q.k/\q.k<k+bs.length then bs[q.k - k]? else H.get q:=by
 intro bs;induction bs with
 | nil=>intro k H q;rw[if_neg (by intro h;simp only[lE]at h;omega)];rfl
 | cons b bs f=>
  intro k H q;simp only[keyed,f,aa.get,jP];by_cases a:q.d=r.d/\q.t=r.t/\q.g=r.g
  ·by_cases c:q.k=k;·rw[if_neg (by omega),if_pos (by cases q;cases r;simp_all),if_pos ⟨a.1,a.2.1,a.2.2,by omega,by omega⟩];simp[c]
   by_cases e:k+1<=q.k/\q.k<k+1+bs.length;·rw[if_pos ⟨a.1,a.2.1,a.2.2,e⟩,if_pos ⟨a.1,a.2.1,a.2.2,by omega,by omega⟩];rw[show q.k - k=(q.k - (k+1))+1 by omega];simp
   rw[if_neg (by omega),if_neg (by intro h;apply c;rw[<-h]),if_neg (by omega)]
  rw[if_neg (by intro h;exact a ⟨h.1,h.2.1,h.2.2.1⟩),if_neg (by intro h;apply a;rw[<-h];exact⟨rfl,rfl,rfl⟩),if_neg (by intro h;exact a ⟨h.1,h.2.1,h.2.2.1⟩)]
def aa.n8(r:Ref)(bs:List bC)(H:aa):(keyed r 0 bs H).get=tV H.get r bs:=by
 funext q;rw[aa.tT];unfold tV;simp
def aa.nj(r:Ref) : ∀(bs:List bC)(k:Nat)(H:aa)(d t:Nat),(keyed r k bs H).gen d t=if d=r.d/\t=r.t/\bs≠[] then r.g+1 else H.gen d t:=by
 intro bs;induction bs with
 | nil=>intro k H d t;simp[keyed]
 | cons b bs f=>
  intro k H d t;simp only[keyed,f,aa.gen];by_cases h:d=r.d/\t=r.t
  ·obtain⟨rfl,rfl⟩:=h;by_cases c:bs=[];·simp[c]
   simp[c]
  have e : ¬(r.d=d/\r.t=t):=λa=>h ⟨a.1.symm,a.2.symm⟩;rw[if_neg (by intro a;exact h ⟨a.1,a.2.1⟩),if_neg e,if_neg (by intro a;exact h ⟨a.1,a.2.1⟩)]
def uq(ι:Map)(H:aa):Prop :=∀q l,ι q=some l->q.g<H.gen q.d q.t
def uq.fresh{ι:Map}{H:aa}(h:uq ι H)(d t k:Nat):ι ⟨d,t,H.gen d t,k⟩=none:=by
 cases hi:ι ⟨d,t,H.gen d t,k⟩ with| none=>rfl| some l=>exact absurd (h _ l hi) (Cd _)
section
variable{P:Program}{M:Mem}{ι:Map}{g:dv}{w:World}{r:Ref}
def rn(M:Mem)(ι:Map)(H:aa)(w:World)(x:AV)(b:aa)(u:Value)(w':World):Prop:=
 ∃M' a,VR M' a x u/\iA M' a b.get w'/\vg M ι H.get w M' a b.get w'/\uq a b
def kD.toW{H:aa}{x:AV}{bs:List bC}{u:Value}{w':World}(m:uq ι H){d t:Nat}(h:kD M ι H.get w ⟨d,t,H.gen d t,0⟩ x bs u w'):rn M ι H w x (keyed ⟨d,t,H.gen d t,0⟩ 0 bs H) u w':=by
 obtain⟨M',b,p,j,n,s⟩:=h;refine⟨M',b,p,by rw[aa.n8];exact j,by rw[aa.n8];exact n,?_⟩;intro q l f;rw[aa.nj];cases hi:ι q with
 | some o=>
  have:=m q o hi;split;·rename_i i;rw[i.1,i.2.1]at this;exact CO this
  exact this
 | none=>
  by_cases a : ∃k,k<bs.length/\q = { (⟨d,t,H.gen d t,0⟩:Ref)with k:=k};·obtain⟨k,a,rfl⟩:=a;rw[if_pos ⟨rfl,rfl,by intro e;rw[e]at a;simp at a⟩];exact sg _
  rw[s q hi (λk c e=>a ⟨k,c,e⟩)]at f;cases f
def Nx{cs new:List AV}{j:Nat}(h:j+new.length<=cs.length)(k:Nat):(patch cs j new)[k]?=if j<=k/\k<j+new.length then new[k - j]? else cs[k]?:=by
 unfold patch;have c:(cs.take j).length=j:=by simp;omega
 rcases fQ k j with a | a
 ·rw[sh,kR (by omega),AF,if_pos a,if_neg (by omega)]
 rcases fQ k (j+new.length)with b | b
 ·rw[sh,kj (by omega),kR (by omega),if_pos ⟨a,b⟩,c]
 rw[kj (by simp;omega),Cf,if_neg (by omega)];simp only[iX,c];congr 1;omega
def Tg{x:AV}(h:x.one=true):x.cells=[x]:=by
 cases x<;>first | rfl | (simp[AV.one]at h)
def Lc{e c:AV}{j:Nat}{new:List AV}(h:oF e j new=some c)(i:new.all AV.one=true):j+new.length<=e.cells.length/\c.cells=patch e.cells j new:=by
 have a : ∀x,(∀cs,e ≠ .agg cs)->j=0->new=[x]->c=x->j+new.length<=e.cells.length/\c.cells=patch e.cells j new:=by
  intro x b l k d;have f:e.cells=[e]:=by cases e<;>first | rfl | exact absurd rfl (b _)
  subst l;subst k;subst d;simp only[zk,KM,GW]at i;rw[f,Tg i];exact⟨by simp,by simp[patch]⟩
 unfold oF at h;split at h
 ·obtain⟨f,h⟩:=fP.1 h;injection h with h
  subst h;exact⟨f,rfl⟩
 rename_i b;split at h
 ·injection h with h
  exact a _ (λcs d=>b cs d) rfl rfl h.symm
 cases h
def G7(O:iA M ι g w){k:bC}{l:Loc}{i j:Nat}{new es':List AV}(R:g r=some k)(Q:ι r=some l)(B:0<l.esz)(H:k.jq=false)(A:fS k.es i j new=some es')(J:new.all AV.one=true)
 {us:List Value} (t:mM M (k.map ι) new us) :
 ∃arr T fz,w.heap[l.b]?=some (.cells arr T fz)/\i * k.esz+j+us.length<=arr.size/\(∀o,o<arr.size ->¬(fz.1<=o/\(o<fz.2\/fz.2<fz.1)))/\(∀u∈us,u.oneCell'=true) /\
  iA M ι (mF g r { k with es:=es'}) (cM w l.b (.cells (dp arr (i * k.esz+j) us) T fz))/\vg M ι g w M ι (mF g r { k with es:=es'}) (cM w l.b (.cells (dp arr (i * k.esz+j) us) T fz)):=by
 have s:=O.at Q B R;obtain⟨arr,T,fz,Y,z,C,S⟩:=s.heap;unfold fS at A;split at A;·cases A
 rename_i e I;simp only[bU]at A;obtain⟨e',G,rfl⟩:=A;obtain⟨hle,d⟩:=Lc G J;have hi:i<k.es.length:=(fg.1 I).1;have L:=s.cells e (ja I);have hul:=t.1;have a:i * k.esz+j+us.length<=arr.size:=by
  have U:(i+1) * k.esz<=l.n * k.esz:=mW _ (by have:=s.len;omega);rw[mR]at U;rw[z];omega
 have f : ∀u∈us,u.oneCell'=true:=by
  intro u V;obtain⟨m,hm,N⟩:=qC V;have D:m<new.length:=by omega
  have:=t.2 m _ u (eu D) (by rw[<-N];exact eu hm);exact this.one (by simp only[gP]at J;exact J _ (fj D))
 obtain⟨X,Z⟩:=O.write (k' := { k with es:=k.es.set i e'}) R Q B (arr:=dp arr (i * k.esz+j) us) (T:=T) (fz:=fz) rfl rfl rfl (by rw[j5 a];exact z)
  (by rw[j5 a];exact C) (by simp;exact s.len)
  (by
   intro E K;rcases O2 K with h | h
   ·exact s.cells E h
   rw[h,d,<-L];simp[patch];omega)
  (by
   intro o x p;have:=(s.frozen o x p).1;rw[H]at this;cases this)
  (by
   intro F v E x c p;rw[jy a];by_cases q:i=F
   ·subst q;rw[G5 hi]at c;injection c with c
    subst c;rw[d,Nx hle]at p;split at p
    ·rename_i W;rw[if_pos (by omega),show i * k.esz+v - (i * k.esz+j)=v - j by omega];have y:v - j<us.length:=by omega
     exact⟨us[v - j],eu y,f _ (fj y),t.2 _ _ _ p (eu y)⟩
    rename_i W;rw[if_neg (by omega)];exact S i v e x I p
   rw[G2 q]at c;have hj':v<k.esz:=(by rw[<-s.cells E (ja c)];exact(fg.1 p).1);rw[if_neg];·exact S F v E x c p
   rcases OU q with h | h
   ·have:(i+1) * k.esz<=F * k.esz:=mW _ h;rw[mR]at this;omega
   have:(F+1) * k.esz<=i * k.esz:=mW _ h;rw[mR]at this;omega)
 exact⟨arr,T,fz,Y,a,C.1,f,X,Z⟩
def AU{t:TypeId}{n:Nat}(d:aV P t=some n){b o:Nat}{u:Value}(f:u.cells.size=n){arr:Array Value}{T:TypeId}{fz:Nat × Nat}(e:w.heap[b]?=some (.cells arr T fz))
 (a:o+u.cells.toList.length<=arr.size) (c : ∀o,o<arr.size ->¬(fz.1<=o/\(o<fz.2\/fz.2<fz.1))) (h : ∀x∈u.cells.toList,x.oneCell'=true) :
 (Instr.storeAt t (.pointer (some ⟨b,o,none⟩)) u).run P w = .ok () (cM w b (.cells (dp arr o u.cells.toList) T fz)):=by
 have:=nV (P:=P) o u.cells.toList 0 arr w e (by simpa using a) c h;simp only[AD]at this;simp[Instr.storeAt,Instr.sureAddr,storeVar,dm d,f,this]
def uC(H:aa)(r:Ref)(k:bC):(H.put r (some k)).get=mF H.get r k:=by
 funext q;rw[aa.ad];rfl
def R5{H:aa}(z:iA M ι H.get w)(hD:uq ι H){t:TypeId}{a x y:AV}{ua d:Value}(ha:VR M ι a ua)(hx:VR M ι x d){H':aa}(h:kn P H t (some a) (some x)=some (y,H')) :
 ∃w',(Instr.storeAt t ua d).run P w = .ok () w'/\rn M ι H w y H' undef w':=by
 unfold kn at h;split at h
 ·rename_i r' i j x' n C L hn;injection C with C;injection L with L
  subst C;subst L;cases ha with | ptr J o=>
  rename_i l;split at h
  ·rename_i b A;obtain⟨⟨hxn,W,k⟩,h⟩:=fP.1 h;obtain⟨l',f,m⟩:=z.live r' b A;rw[J]at f;cases f;have u:=hx.cells;have p:d.cells.size=n:=by have:=u.1;simp at this;omega
   split at h
   ·rename_i c;split at h
    ·rename_i y' B;split at h;·cases h
     rename_i X;obtain⟨Z,h⟩:=fP.1 h;simp only[bU]at h;obtain⟨es',e,h⟩:=h;injection h with N E
     subst N;subst E;obtain⟨F,Y⟩:=Bf (R:=aj H.get depth x) z;have hv:=Dw z depth x y' d B (λr hr=>hr) hx;have s:uY H.get (aj H.get depth x) r'=some b:=by unfold uY;rw[if_neg X];exact A
     have D:=hv.cells;obtain⟨arr,T,fz,K,O,G,S,I,U⟩:=G7 F s J o k e Z (us:=d.cells.toList) (by rw[bC.map,if_pos c];exact D);refine⟨cM w l.b (.cells (dp arr (i * b.esz+j) d.cells.toList) T fz),?_,lW M ι H.get w (aj H.get depth x),ι,.v rfl,?_,?_,?_⟩;·rw[m.esz];exact AU hn p K O G S
     ·rw[uC,aa.dX];exact I
     ·rw[uC,aa.dX];exact Y.trans U
     intro q Q V;rw[aa.jo _ _ _ (by rw[aa.dX,s];rfl),aa.je];exact hD q Q V
    cases h
   rename_i c;simp only[bU]at h;obtain⟨es',e,h⟩:=h;injection h with N E
   subst N;subst E;obtain⟨arr,T,fz,K,O,G,S,I,U⟩:=G7 z A J o k e W (us:=d.cells.toList) (by rw[bC.map,if_neg c];exact u);refine⟨cM w l.b (.cells (dp arr (i * b.esz+j) d.cells.toList) T fz),?_,M,ι,.v rfl,?_,?_,?_⟩;·rw[m.esz];exact AU hn p K O G S
   ·rw[uC];exact I
   ·rw[uC];exact U
   intro q Q V;rw[aa.jo _ _ _ (by rw[A];rfl)];exact hD q Q V
  cases h
 cases h
end
end
section
section
variable{P:Program}{M:Mem}{ι:Map}{g:dv}{w:World}{r:Ref}
def tx(g:dv)(r:Ref):dv:=λq=>if q=r then none else g q
def RA(b:iA M ι g w)(r:Ref):iA M ι (tx g r) w/\vg M ι g w M ι (tx g r) w:=by
 have a : ∀ {q k},tx g r q=some k->g q=some k:=by
  intro q k h;unfold tx at h;split at h;·cases h
  exact h
 exact⟨⟨b.mem,λq k h=>b.live q k (a h),λq c k k' l e h d=>b.inj q c k k' l e (a h) (a d)⟩,
  ⟨rfl,rfl,rfl,bM _,λ_ _ _=>rfl,λ_ _ _ h=>h,λ_ _ h=>h,λq k l h f => .inr ⟨q,k,l,a h,f,rfl⟩,λ_ _ _ h => .inl h⟩⟩
def Ki(t:iA M ι g w){r q:Ref}{k k':bC}{l:Loc}(E:g r=some k)(A:ι r=some l)(hq:ι q=none){arr':Array Value}{w':World}
 (hw : ∃arr T fz,w.heap[l.b]?=some (.cells arr T fz)/\arr.size=arr'.size/\w'=cM w l.b (.cells arr' T fz)) (a:k'.esz=k.esz) (U:k'.arr=true) (z:k.arr=true) (G:k'.jq=k.jq)
 (C : ∀(o:Nat) u,o<k.es.length * k.esz ->∀arr T fz,w.heap[l.b]?=some (.cells arr T fz)->arr[o]?=some u->arr'[o]?=some u)
 (V:k'.es.length<=l.n) (hle:k.es.length<=k'.es.length) (s : ∀e∈k'.es,e.cells.length=k.esz)
 (hc : ∀(i j:Nat) e x,k'.es[i]?=some e->e.cells[j]?=some x ->∃u,arr'[i * k.esz+j]?=some u/\u.oneCell'=true/\VR M eM x u) :
 iA M (lQ ι q l) (mF (tx g r) q k') w'/\vg M ι g w M (lQ ι q l) (mF (tx g r) q k') w':=by
 obtain⟨arr,T,fz,hh,I,c⟩:=hw;obtain⟨l',H,v⟩:=t.live r k E;rw[A]at H;cases H;have O:=v.pos z;replace v:=v.cellsOk O;obtain⟨arr0,T0,fz0,S,h1,Y,h3⟩:=v.heap;rw[hh]at S;cases S;have R:=v.lt;have m:=Gm (l:=l) hq;have hqr:q≠r:=by intro e;rw[e,A]at hq;cases hq
 refine⟨⟨?_,?_,?_⟩,?_⟩
 ·intro b o x D;by_cases X:l.b=b;·subst X;have ho:=(v.frozen o x D).2;have Q:=t.mem _ _ _ D;rw[j7 hh]at Q;rw[j7 (by rw[c];exact iE R)];exact C o x ho arr T fz hh Q
  rw[iQk (w:=w) (by rw[c];exact fV X)];exact t.mem b o x D
 ·intro r' k1 p;unfold mF at p;split at p
  ·rename_i e;subst e;injection p with p
   subst p;refine⟨l,by simp[lQ],gm.TN ⟨by rw[v.esz,a],⟨arr',T,fz,by rw[c];exact iE R,by rw[<-I,a];exact h1,by rw[<-I,a];exact Y,?_⟩,V,by rw[a];exact s,?_⟩ (by rw[a];exact O)⟩;·intro i j e x he D;rw[a];obtain⟨u,hu,ho,hv⟩:=hc i j e x he D;refine⟨u,hu,ho,?_⟩;rw[bC.map,if_pos U];exact hv
   intro o x D;rw[G,a];have:=v.frozen o x D;exact⟨this.1,AE this.2 (mW _ hle)⟩
  rename_i hne;unfold tx at p;split at p;·cases p
  rename_i N;obtain⟨f,F,W⟩:=t.live r' k1 p;have hnb:l.b≠f.b:=λe=>N (t.inj r' r k1 k f l p E F A e.symm);exact⟨f,m r' f F,W.bT (λ_ _ _ h=>h) m (by rw[c];exact fV hnb) W.frozen⟩
 ·have y : ∀ {r1 k1 f},mF (tx g r) q k' r1=some k1->lQ ι q l r1=some f->(r1=q/\f=l)\/(r1≠q/\r1≠r/\g r1=some k1/\ι r1=some f):=by
   intro r1 k1 f h d;unfold mF at h;unfold lQ at d;split at h;·rename_i e;rw[if_pos e]at d;injection d with d;exact .inl ⟨e,d.symm⟩
   rename_i e;rw[if_neg e]at d;unfold tx at h;split at h;·cases h
   rename_i e';exact .inr ⟨e,e',h,d⟩
  intro r1 r2 k1 k2 f l2 h1 Y h3 h4 Z;rcases y h1 h3 with ⟨e1,e2⟩ | ⟨e1,e2,e3,e4⟩<;>rcases y Y h4 with ⟨K,B⟩ | ⟨K,B,L,J⟩
  ·rw[e1,K]
  ·exact absurd (t.inj r r2 k k2 l l2 E L A J (by rw[<-e2];exact Z)).symm B
  ·exact absurd (t.inj r r1 k k1 l f E e3 A e4 (by rw[<-B];exact Z.symm)).symm e2
  exact t.inj r1 r2 k1 k2 f l2 e3 L e4 J Z
 refine⟨by rw[c];rfl,by rw[c];rfl,by rw[c];rfl,by rw[c];simp[cM],?_,λ_ _ _ h=>h,m,?_,λ_ _ _ h => .inl h⟩;·intro b _ hno;rw[c];exact fV (hno r k l E A)
 intro r1 k1 f h d;unfold mF at h;unfold lQ at d;split at h;·rename_i e;rw[if_pos e]at d;injection d with d;subst d;exact .inr ⟨r,k,l,E,A,rfl⟩
 rename_i e;rw[if_neg e]at d;unfold tx at h;split at h;·cases h
 exact .inr ⟨r1,k1,f,h,d,rfl⟩
def get_append(H:aa)(q r:Ref)(k:bC)(b:q≠r):aa.get ((q,some k) :: H.put r none)=mF (tx H.get r) q k:=by
 funext x;simp only[aa.get,aa.ad];unfold mF tx;by_cases a:q=x;·subst a;simp
 rw[if_neg a,if_neg (tC a)]
def Qi(H:aa)(r:Ref)(k:bC)(a:(H.get r).isSome=true)(d t:Nat) :
 aa.gen ((⟨r.d,r.t,H.gen r.d r.t,0⟩,some k) :: H.put r none) d t=if r.d=d/\r.t=t then H.gen r.d r.t+1 else H.gen d t:=by
 simp only[aa.gen];split;·rfl
 rw[aa.jo H r none a]
def Hi{H:aa}(hS:iA M ι H.get w)(hD:uq ι H){ts:Array TypeId}{ty:TypeId}{s x y:AV}{us ux:Value}(hs:VR M ι s us)(hx:VR M ι x ux){H':aa}
 (h:kG P H ts[0]? ts[1]? s x=some (y,H')) : ∃u w',(Builtin.append_ ts ty #[us,ux]).run P w = .ok u w'/\rn M ι H w y H' u w':=by
 unfold kG at h;split at h;·cases h
 rename_i e he;simp only[jb]at he;obtain⟨t,ht,he⟩:=he;have hu:=iD he;split at h;·cases h
 rename_i hc;split at h
 ·rename_i z by' zz ez new hz hb hzz G;split at h;·cases h
  rename_i f;have hez:ez=z:=wV.1 λh=>f (.inl h);have Q:0<z:=Ah λh=>f (.inr (.inl h));have hb0:0<by':=Ah λh=>f (.inr (.inr (.inl h)));have hn0:new≠[]:=λh=>f (.inr (.inr (.inr (.inl h))));have hzl:zz.cells.length=z:=wV.1 λh=>f (.inr (.inr (.inr (.inr h))));subst hez;obtain⟨R,m,hA⟩:=Iu (w:=w) hS hz Q hx hc G;split at h
  ·rename_i r' off len;split at h
   ·rename_i b N;obtain⟨⟨hoff,E,hbz,hlen,F⟩,h⟩:=fP.1 h;injection h with h;injection h with h1 h2;subst h1;subst h2
    subst hoff;subst hlen;subst hbz;have hs0:=hs;cases hs with | ct hrl hbb hsp ha hcc hn hk S=>
    rename_i l a c;have hq:=hD.fresh r'.d r'.t 0;have L:(⟨r'.d,r'.t,H.gen r'.d r'.t,0⟩:Ref)≠r':=by intro e;rw[e,hrl]at hq;cases hq
    have Z:=hS.at hrl S N;obtain⟨arr,T,fz,hh,hsz,hfz,O⟩:=Z.heap;have hpos:0<new.length:=yd.2 hn0;have hel:dt H.get (.ct r' 0 b.es.length none)=some (b.esz,(b.es.drop 0).take b.es.length):=(by simp[dt,N,E]);obtain⟨us0,C⟩:=pn (P:=P) hS hs0 Q hel;have hee:(b.es.drop 0).take b.es.length=b.es:=by simp
    rw[hee]at C;have W : ∀ι':Map,(∀q,ι q=none->q≠⟨r'.d,r'.t,H.gen r'.d r'.t,0⟩->ι' q=none)->uq ι' ((⟨r'.d,r'.t,H.gen r'.d r'.t,0⟩,some ⟨b.esz,b.es++new,true,b.jq⟩) :: H.put r' none):=by
     intro ι' hι q lq hql;rw[Qi H r' _ (by rw[N];rfl)];cases hi:ι q with
     | some l0=>
      have:=hD q l0 hi;split;·rename_i U;rw[<-U.1,<-U.2]at this;exact CO this
      exact this
     | none=>
      by_cases hqq:q=⟨r'.d,r'.t,H.gen r'.d r'.t,0⟩;·subst hqq;rw[if_pos ⟨rfl,rfl⟩];exact sg _
      rw[hι q hi hqq]at hql;cases hql
    by_cases V:b.es.length+new.length<=c
    ·have J:a.off=0:=by
      rcases ha with h | h
      ·omega
      simpa using h
     have hcn:0+c<=l.n:=by
      rcases hn with h | h
      ·omega
      exact h
     have hae:a=⟨l.b,0,none⟩:=(by rw[kV hsp,hbb,J]);have D:0+b.es.length * b.esz+R.length<=arr.size:=(by rw[m.len,hsz,vP,<-mR];exact mW _ (by omega));have B:=Cp (P:=P) (w:=w) (ty:=ty) ht hu hz hb (b:=l.b) (o:=0) hA V F hh D hfz.1 m.one;rw[vP]at B D;obtain⟨h3,h4⟩:=Ki (M:=M) (q:=⟨r'.d,r'.t,H.gen r'.d r'.t,0⟩) (k':=⟨b.esz,b.es++new,true,b.jq⟩) hS N hrl hq (arr':=dp arr (b.es.length * b.esz) R)
      ⟨arr,T,fz,hh,(j5 D).symm,rfl⟩ rfl rfl E rfl
      (by
       intro o u ho arr1 T1 fz1 hh1 p;rw[hh]at hh1;cases hh1;rw[jy D,if_neg (by omega)];exact p)
      (by simp;omega) (by simp) (by
       intro K he1;rcases mS.1 he1 with h | h
       ·exact Z.cells K h
       exact m.Jf K h)
      (by
       intro i j K x1 hi A;rw[jy D];rcases fQ i b.es.length with Y | hge
       ·rw[kR Y]at hi;have hj:j<b.esz:=(by rw[<-Z.cells K (ja hi)];exact(fg.1 A).1);have:=Fb Y hj;rw[if_neg (by omega)];obtain⟨u,p,ho,hv⟩:=O i j K x1 hi A;rw[bC.map,if_pos E]at hv;exact⟨u,p,ho,hv⟩
       rw[kj hge]at hi;obtain⟨u,p,hv⟩:=m.vr _ j K x1 hi A;have Y:=(fg.1 p).1;have hge':b.es.length * b.esz<=i * b.esz:=mW _ hge;have hii:(i - b.es.length) * b.esz=i * b.esz - b.es.length * b.esz:=GQ _ _ _;rw[if_pos (by omega),show i * b.esz+j - b.es.length * b.esz=(i - b.es.length) * b.esz+j by omega];exact⟨u,p,m.one u (ja p),hv⟩)
     refine⟨.slice (some a) (b.es.length+new.length) c,_,by rw[hae];exact B,M,_,?_,by rw[get_append H _ r' _ L];exact h3,by rw[get_append H _ r' _ L];exact h4,?_⟩;·exact .ct (l:=l) (by simp[lQ]) hbb hsp (.inr (by rw[J];simp)) V (.inr hcn) (by intro k hk;cases hk) S
     exact W _ (by intro q hq' hne;simp[lQ,hne,hq'])
    obtain⟨zv,hzv,hzs⟩:=CM hz hzz hzl;obtain⟨cap,w',I,B,X⟩:=wa (P:=P) (w:=w) (ty:=ty) ht hu hz hb hzv hzs (BL (a:=some a) (len:=b.es.length) (c:=c) rfl rfl C) hA (by omega) F hb0;obtain⟨h1,h2⟩:=Bd (olds:=us0) (us:=R) (n1:=b.es.length) (n2:=new.length) (cap:=cap) C.len m.len hzs I;obtain⟨h3,h4⟩:=RA hS r';have v:=C.row.append m;have G : ∀(i j:Nat) e x,(b.es++new)[i]?=some e->e.cells[j]?=some x ->∃u,(us0.toArray++R.toArray++Builtin.zeroCells zv.cells (cap - (b.es.length+new.length)))[i * b.esz+j]?=some u/\u.oneCell'=true/\VR M eM x u:=(by intro i j K x1 hi A;obtain⟨u,p,hv⟩:=v.vr i j K x1 hi A;exact⟨u,h2 _ _ p,v.one u (ja p),hv⟩);obtain⟨h5,h6⟩:=h3.alloc (q:=⟨r'.d,r'.t,H.gen r'.d r'.t,0⟩) hq X ⟨b.esz,b.es++new,true,b.jq⟩ Q cap h1 (Di.zero _ _) (by simpa using I) v.Jf
     (by intro i j K x1 hi A;rw[bC.map,if_pos rfl];exact G i j K x1 hi A)
    refine⟨_,w',B,M,_,?_,by rw[get_append H _ r' _ L];exact h5,by rw[get_append H _ r' _ L];exact h4.trans h6,?_⟩;·exact .ct (l:=⟨w.heap.size,b.esz,cap⟩) (by simp[lQ]) rfl rfl (.inr (by simp)) I (.inr (by simp)) (by intro k hk;cases hk) Q
    exact W _ (by intro q hq' hne;simp[lQ,hne,hq'])
   cases h
  cases h
 cases h
def MB{H:aa}(hS:iA M ι g w){ts:Array TypeId}{ty:TypeId}{s x y:AV}{us ux:Value}(hs:VR M ι s us)(hx:VR M ι x ux){H':aa}
 (hag : ∀r',lT s=some r'->H.get r'≠none->g r'=H.get r') (hnw : ∀e p,nP P H.get e x=some p->nP P g e x=some p) (W : ∀r',lT s=some r'->H.get r'≠none->ι ⟨r'.d,r'.t,H.gen r'.d r'.t,0⟩=none)
 (h:kG P H ts[0]? ts[1]? s x=some (y,H')) : ∃r' b k',lT s=some r'/\H.get r'=some b/\(⟨r'.d,r'.t,H.gen r'.d r'.t,0⟩:Ref)≠r'/\H'=(⟨r'.d,r'.t,H.gen r'.d r'.t,0⟩,some k') :: H.put r' none /\
  ∃u w' R,(Builtin.append_ ts ty #[us,ux]).run P w = .ok u w'/\VR M R y u/\iA M R (mF (tx g r') ⟨r'.d,r'.t,H.gen r'.d r'.t,0⟩ k') w'/\vg M ι g w M R (mF (tx g r') ⟨r'.d,r'.t,H.gen r'.d r'.t,0⟩ k') w' /\
   ∀q,ι q=none->q≠⟨r'.d,r'.t,H.gen r'.d r'.t,0⟩->R q=none:=by
 unfold kG at h;split at h;·cases h
 rename_i e he;simp only[jb]at he;obtain⟨t,ht,he⟩:=he;have hu:=iD he;split at h;·cases h
 rename_i hc;split at h
 ·rename_i z by' zz ez new hz hb hzz I;split at h;·cases h
  rename_i f;have hez:ez=z:=wV.1 λh=>f (.inl h);have Q:0<z:=Ah λh=>f (.inr (.inl h));have hb0:0<by':=Ah λh=>f (.inr (.inr (.inl h)));have hn0:new≠[]:=λh=>f (.inr (.inr (.inr (.inl h))));have hzl:zz.cells.length=z:=wV.1 λh=>f (.inr (.inr (.inr (.inr h))));subst hez;obtain⟨S,m,hA⟩:=Iu (w:=w) hS hz Q hx hc (hnw _ _ I);split at h
  ·rename_i r' off len;split at h
   ·rename_i b N;obtain⟨⟨hoff,F,hbz,hlen,G⟩,h⟩:=fP.1 h;injection h with h;injection h with h1 h2;subst h1;subst h2
    subst hoff;subst hlen;subst hbz;have hs0:=hs;cases hs with | ct hrl hbb hsp ha hcc hn hk U=>
    rename_i l a c;have hq:=W r' rfl (by rw[N];simp);have Z:g r'=some b:=by rw[hag r' rfl (by rw[N];simp),N]
    have hqr:(⟨r'.d,r'.t,H.gen r'.d r'.t,0⟩:Ref)≠r':=by intro e;rw[e,hrl]at hq;cases hq
    have hbk:=hS.at hrl U Z;obtain⟨arr,T,fz,hh,hsz,hfz,O⟩:=hbk.heap;have hpos:0<new.length:=yd.2 hn0;have hel:dt g (.ct r' 0 b.es.length none)=some (b.esz,(b.es.drop 0).take b.es.length):=(by simp[dt,Z,F]);obtain⟨us0,D⟩:=pn (P:=P) hS hs0 Q hel;have hee:(b.es.drop 0).take b.es.length=b.es:=by simp
    rw[hee]at D;refine⟨r',b,⟨b.esz,b.es++new,true,b.jq⟩,rfl,N,hqr,rfl,?_⟩;by_cases V:b.es.length+new.length<=c
    ·have K:a.off=0:=by
      rcases ha with h | h
      ·omega
      simpa using h
     have hcn:0+c<=l.n:=by
      rcases hn with h | h
      ·omega
      exact h
     have hae:a=⟨l.b,0,none⟩:=(by rw[kV hsp,hbb,K]);have E:0+b.es.length * b.esz+S.length<=arr.size:=(by rw[m.len,hsz,vP,<-mR];exact mW _ (by omega));have C:=Cp (P:=P) (w:=w) (ty:=ty) ht hu hz hb (b:=l.b) (o:=0) hA V G hh E hfz.1 m.one;rw[vP]at C E;obtain⟨h3,h4⟩:=Ki (M:=M) (q:=⟨r'.d,r'.t,H.gen r'.d r'.t,0⟩) (k':=⟨b.esz,b.es++new,true,b.jq⟩) hS Z hrl hq (arr':=dp arr (b.es.length * b.esz) S)
      ⟨arr,T,fz,hh,(j5 E).symm,rfl⟩ rfl rfl F rfl
      (by
       intro o u ho arr1 T1 fz1 hh1 v;rw[hh]at hh1;cases hh1;rw[jy E,if_neg (by omega)];exact v)
      (by simp;omega) (by simp) (by
       intro L he1;rcases mS.1 he1 with h | h
       ·exact hbk.cells L h
       exact m.Jf L h)
      (by
       intro i j L x1 hi B;rw[jy E];rcases fQ i b.es.length with Y | hge
       ·rw[kR Y]at hi;have hj:j<b.esz:=(by rw[<-hbk.cells L (ja hi)];exact(fg.1 B).1);have:=Fb Y hj;rw[if_neg (by omega)];obtain⟨u,v,ho,hv⟩:=O i j L x1 hi B;rw[bC.map,if_pos F]at hv;exact⟨u,v,ho,hv⟩
       rw[kj hge]at hi;obtain⟨u,v,hv⟩:=m.vr _ j L x1 hi B;have Y:=(fg.1 v).1;have hge':b.es.length * b.esz<=i * b.esz:=mW _ hge;have hii:(i - b.es.length) * b.esz=i * b.esz - b.es.length * b.esz:=GQ _ _ _;rw[if_pos (by omega),show i * b.esz+j - b.es.length * b.esz=(i - b.es.length) * b.esz+j by omega];exact⟨u,v,m.one u (ja v),hv⟩)
     refine⟨.slice (some a) (b.es.length+new.length) c,_,_,by rw[hae];exact C,?_,h3,h4,?_⟩;·exact .ct (l:=l) (by simp[lQ]) hbb hsp (.inr (by rw[K];simp)) V (.inr hcn) (by intro k hk;cases hk) U
     intro q hq' hne;simp[lQ,hne,hq']
    obtain⟨zv,hzv,hzs⟩:=CM hz hzz hzl;obtain⟨cap,w',J,C,X⟩:=wa (P:=P) (w:=w) (ty:=ty) ht hu hz hb hzv hzs (BL (a:=some a) (len:=b.es.length) (c:=c) rfl rfl D) hA (by omega) G hb0;obtain⟨h1,h2⟩:=Bd (olds:=us0) (us:=S) (n1:=b.es.length) (n2:=new.length) (cap:=cap) D.len m.len hzs J;obtain⟨h3,h4⟩:=RA hS r';have A:=D.row.append m;have I : ∀(i j:Nat) e x,(b.es++new)[i]?=some e->e.cells[j]?=some x ->∃u,(us0.toArray++S.toArray++Builtin.zeroCells zv.cells (cap - (b.es.length+new.length)))[i * b.esz+j]?=some u/\u.oneCell'=true/\VR M eM x u:=(by intro i j L x1 hi B;obtain⟨u,v,hv⟩:=A.vr i j L x1 hi B;exact⟨u,h2 _ _ v,A.one u (ja v),hv⟩);obtain⟨h5,h6⟩:=h3.alloc (q:=⟨r'.d,r'.t,H.gen r'.d r'.t,0⟩) hq X ⟨b.esz,b.es++new,true,b.jq⟩ Q cap h1 (Di.zero _ _) (by simpa using J) A.Jf
     (by intro i j L x1 hi B;rw[bC.map,if_pos rfl];exact I i j L x1 hi B)
    refine⟨_,w',_,C,?_,h5,h4.trans h6,?_⟩;·exact .ct (l:=⟨w.heap.size,b.esz,cap⟩) (by simp[lQ]) rfl rfl (.inr (by simp)) J (.inr (by simp)) (by intro k hk;cases hk) Q
    intro q hq' hne;simp[lQ,hne,hq']
   cases h
  cases h
 cases h
def Hh{H:aa}(F:iA M ι H.get w)(B:uq ι H){d a:Nat}{t:TypeId}{n:Nat}{o:List (Nat × AV)}{qs:Array (Nat × Value)}{x:AV}{G:aa}
 (h:ko P H ⟨d,a,H.gen d a,0⟩ t n (some o)=some (x,G)) (T:o.length=qs.toList.length)
 (hp : ∀(i:Nat) p q,o[i]?=some p->qs.toList[i]?=some q->p.1=q.1/\VR M ι p.2 q.2) :
 ∃u w',(Instr.buildSlice t n qs).run P w = .ok u w'/\rn M ι H w x G u w':=by
 simp only[ko,bU]at h;obtain⟨b,I,h⟩:=h;injection h with K Z
 subst K;subst Z;obtain⟨h1,h2,U,e,arr,h4,Q,L⟩:=Iv F I T hp;obtain⟨C,S⟩:=Bf (R:=cO H.get (o.map (·.2))) F;have E:b=⟨b.esz,b.es,true,false⟩:=by cases b;simp_all
 have s:Er w (w.alloc (.cells arr e)) (.cells arr e (0,0)):=⟨rfl,rfl,rfl,rfl⟩;have D:=B.fresh d a 0;have j:=vI (r:=⟨d,a,H.gen d a,0⟩) C rfl D s L (λk u N=>by simpa using N) (n:=n) (c:=n) Q (Di.zero _ _) (by omega) (bM _) (cap:=some n) (by intro k A;cases A;rfl) (FL I);rw[U,<-E]at j;have O:uq ι (cL H (cO H.get (o.map (·.2)))):=by
  intro q l D;rw[aa.je];exact B q l D
 obtain⟨M',m,g1,W,V,Y⟩:=j;have f:aa.get (((⟨d,a,H.gen d a,0⟩:Ref),some b) :: cL H (cO H.get (o.map (·.2))))=tV (uY H.get (cO H.get (o.map (·.2)))) ⟨d,a,H.gen d a,0⟩ [b]:=by
  rw[sM _ _ rfl];funext q;simp only[aa.get,aa.dX];unfold mF;by_cases z:q=⟨d,a,H.gen d a,0⟩;·rw[if_pos z.symm,if_pos z]
  rw[if_neg (tC z),if_neg z]
 refine⟨_,_,h4,M',m,g1,?_,?_,?_⟩;·show iA M' m (aa.get (_ :: _)) _;rw[f];exact W
 ·show vg M ι H.get w M' m (aa.get (_ :: _)) _;rw[f];exact S.trans V
 intro q l y;simp only[aa.gen,aa.je];cases hi:ι q with
 | some X=>
  have:=B q X hi;split;·rename_i J;rw[<-J.1,<-J.2]at this;exact CO this
  exact this
 | none=>
  by_cases A:q=⟨d,a,H.gen d a,0⟩;·subst A;rw[if_pos ⟨rfl,rfl⟩];exact sg _
  rw[Y q hi (λk v e=>A (by rw[e];simp at v;rw[v]))]at y;cases y
def Row.sub{z es us}(h:Row M z es us)(n:Nat):Row M z (es.take n) (us.take (n * z)):=by
 refine⟨?_,λe a=>h.Jf e (Ai a),λx b=>h.one x (Ai b),?_⟩
 ·rw[oM,oM,h.len];rcases Nat.le_total n es.length with hle | hle
  ·rw[Ew hle,Ew (mW _ hle)]
  rw[OP hle,OP (mW _ hle)]
 intro i j e x a b;rw[AF]at a;split at a
 ·rename_i hi;obtain⟨u,f,c⟩:=h.vr i j e x a b;have d:j<z:=by
   rw[<-h.Jf e (ja a)];exact(fg.1 b).1
  refine⟨u,?_,c⟩;rw[AF,if_pos (Fb hi d)];exact f
 cases a
def Ut{H:aa}(hS:iA M ι H.get w)(hD:uq ι H){ts:Array TypeId}{ty:TypeId}{s x y:AV}{us ux:Value}(hs:VR M ι s us)(hx:VR M ι x ux){H':aa}
 (h:yg P H ts[0]? s x=some (y,H')) : ∃u w',(Builtin.copy_ ts ty #[us,ux]).run P w = .ok u w'/\rn M ι H w y H' u w':=by
 unfold yg at h;split at h;·cases h
 rename_i e he;simp only[jb]at he;obtain⟨t,ht,he⟩:=he;have hu:=iD he;split at h;·cases h
 rename_i z hz;split at h;·cases h
 rename_i ez src p;split at h;·cases h
 rename_i E;have hez:ez=z:=wV.1 λh=>E (.inl h);have hz0:0<z:=Ah λh=>E (.inr h);subst hez;have hS0 : ∃m,Src P M w ux ez src m:=by
  split at p
  ·rename_i hn;injection p with p
   injection p with h1 U
   subst U;have:ux = .slice none 0 0:=by
    cases hx<;>simp[jR]at hn;split at hn<;>simp_all
   subst this;exact⟨[],by simp,by simp,by simp,by intro i j e x h;simp at h,λw'=>rfl,λn w' hn' _=>by simp[Builtin.firstCells]⟩
  exact pn hS hx hz0 p
 obtain⟨m,C⟩:=hS0;split at h
 ·cases hs;injection h with h;injection h with h1 U;subst h1;subst U
  have hf:=C.first 0 w (Ae _) rfl;have hl:=C.lenOf w;refine⟨.int .i64 0,w,?_,M,ι,.v rfl,hS,vg.refl,hD⟩;simp only[Nat.zero_mul,List.take_zero]at hf;have hm:src.length.min 0=0:=Nat.min_zero _;simp[Builtin.copy_,ht,bL hu,dm hz,hl,hm,hf,goInt]
 ·rename_i r' d len cap;split at h
  ·rename_i b hb;obtain⟨⟨N,hbz,hfr,hle⟩,h⟩:=fP.1 h;injection h with h;injection h with h1 U;subst h1;subst U
   subst hbz;cases hs with | ct W hbb hsp ha hcc hn hk L=>
   rename_i l a c;have A:=hS.at W L hb;obtain⟨arr,T,fz,hh,V,Y,F⟩:=A.heap;obtain⟨n,J⟩ : ∃n,n=Nat.min src.length len:=⟨_,rfl⟩;have Z:n<=src.length:=by rw[J];exact Nat.min_le_left _ _
   have hn2:n<=len:=by rw[J];exact Nat.min_le_right _ _
   rw[<-J];have hf:=C.first n w Z rfl;have hl:=C.lenOf w;have B:=C.row.sub n;have I:(src.take n).length=n:=by rw[oM,Ew Z]
   have O:(m.take (n * b.esz)).length=n * b.esz:=(by rw[B.len,I]);have hbl:=A.len;have f:d * b.esz+(m.take (n * b.esz)).length<=arr.size:=(by rw[O,V,<-mR];exact mW _ (by omega));have hes : ∀i,(b.es.take d++src.take n++b.es.drop (d+n))[i]?=if d<=i/\i<d+n then (src.take n)[i - d]? else b.es[i]?:=(by intro i;have:=Nx (cs:=b.es) (new:=src.take n) (j:=d) (by rw[I];omega) i;rw[I]at this;rw[<-this];unfold patch;rw[I])
   obtain⟨h3,h4⟩:=hS.write (k' := { b with es:=b.es.take d++src.take n++b.es.drop (d+n)}) hb W L (arr:=dp arr (d * b.esz) (m.take (n * b.esz))) (T:=T) (fz:=fz) rfl rfl rfl
    (by rw[j5 f];exact V) (by rw[j5 f];exact Y) (by simp;omega)
    (by
     intro G X;simp only[mS]at X;rcases X with (h | h) | h
     ·exact A.cells G (Ai h)
     ·exact B.Jf G h
     exact A.cells G (Fy h))
    (by
     intro o v S;have:=(A.frozen o v S).1;rw[hfr]at this;cases this)
    (by
     intro i j G x1 hi Q;rw[bC.map,if_pos N];simp only at hi;rw[hes i]at hi;rw[jy f,O];by_cases hr:d<=i/\i<d+n;·rw[if_pos hr]at hi;obtain⟨u,D,S⟩:=B.vr (i - d) j G x1 hi Q;have hlt:=(fg.1 D).1;rw[O]at hlt;have h5:d * b.esz<=i * b.esz:=mW _ hr.1;have h6:(i - d) * b.esz=i * b.esz - d * b.esz:=GQ _ _ _;rw[if_pos (by omega),show i * b.esz+j - d * b.esz=(i - d) * b.esz+j by omega];exact⟨u,D,B.one u (ja D),S⟩
     rw[if_neg hr]at hi;have hj:j<b.esz:=(by rw[<-A.cells G (ja hi)];exact(fg.1 Q).1);rw[if_neg];·obtain⟨u,D,ho,S⟩:=F i j G x1 hi Q;rw[bC.map,if_pos N]at S;exact⟨u,D,ho,S⟩
     intro hcon;apply hr;have e1':d * b.esz+n * b.esz=(d+n) * b.esz:=(mR _ _ _).symm;constructor
     ·rcases fQ i d with h | h
      ·have:(i+1) * b.esz<=d * b.esz:=mW _ h;rw[mR]at this;omega
      exact h
     rcases fQ i (d+n)with h | h
     ·exact h
     have:(d+n) * b.esz<=i * b.esz:=mW _ h;omega)
   have K:(storeCells a (m.take (n * b.esz))).run P w = .ok () (cM w l.b (.cells (dp arr (d * b.esz) (m.take (n * b.esz))) T fz)):=by
    by_cases h0:n=0
    ·have e0:m.take (n * b.esz)=[]:=by rw[h0];simp
     rw[e0];have G:dp arr (d * b.esz) []=arr:=by simp[dp]
     rw[G];have e2:cM w l.b (.cells arr T fz)=w:=by
      unfold cM;have:w.heap.setIfInBounds l.b (.cells arr T fz)=w.heap:=by
       apply Fw;intro k;by_cases hk:l.b=k;·subst hk;rw[hh,GN A.lt]
       rw[Ch hk]
      rw[this]
     rw[e2];simp[storeCells]
    have R:a.off=d * b.esz:=by
     rcases ha with h | h
     ·omega
     rw[h,A.esz]
    have:=nV (P:=P) (d * b.esz) (m.take (n * b.esz)) 0 arr w hh (by simpa using f) Y.1 B.one;rw[AD]at this;rw[kV hsp,hbb,R];exact this
   refine⟨.int .i64 n,_,?_,M,ι,.v rfl,by rw[uC];exact h3,by rw[uC];exact h4,?_⟩;·have hm:src.length.min len=n:=J.symm;simp[Builtin.copy_,ht,bL hu,dm hz,hl,hm,hf,K,goInt]
   intro q lq hq;rw[aa.jo _ _ _ (by rw[hb];rfl)];exact hD q lq hq
  cases h
 cases h
def R6{H:aa}(hS:iA M ι H.get w)(hD:uq ι H){ts:Array TypeId}{ty:TypeId}{s x y:AV}{us ux:Value}(hs:VR M ι s us)(hx:VR M ι x ux){H':aa}
 (h:Hg P H ts[0]? s x=some (y,H')) : ∃u w',(Builtin.copy_ ts ty #[us,ux]).run P w = .ok u w'/\rn M ι H w y H' u w':=by
 unfold Hg at h;split at h
 ·rename_i z r' d len cap r2 p wM cap2 he;simp only[jb]at he;obtain⟨e,⟨t,ht,he⟩,hz⟩:=he;have hu:=iD he;split at h
  ·rename_i b b2 hb hb2;obtain⟨⟨L,R,hbz,Y,hz0,hfr,hle0,K⟩,h⟩:=fP.1 h;injection h with h;injection h with h1 h2;subst h1;subst h2
   subst hbz;cases hs with | ct Q hbb hsp ha hcc hn hk E=>
   rename_i l a c;cases hx with | ct hrl2 hbb2 hsp2 ha2 X hn2' hk2 hzl2=>
   rename_i l2 a2 V;obtain⟨n,I⟩ : ∃n,n=Nat.min wM len:=⟨_,rfl⟩;have hnl:n<=wM:=by rw[I];exact Nat.min_le_left _ _
   have hn2:n<=len:=by rw[I];exact Nat.min_le_right _ _
   rw[<-I]at K ⊢;have hv2:VR M ι (.ct r2 p n none) (.slice (some a2) n V) := .ct hrl2 hbb2 hsp2 ha2 (wT hnl X) hn2' (λk hk=>by cases hk) hzl2;have hel:dt H.get (.ct r2 p n none)=some (b2.esz,(b2.es.drop p).take n):=(by simp only[dt,hb2];rw[if_pos ⟨R,K⟩]);rw[Y]at hel;obtain⟨B,N⟩:=pn (P:=P) hS hv2 hz0 hel;have hsl:((b2.es.drop p).take n).length=n:=by rw[oM,oZ];omega
   generalize (b2.es.drop p).take n=src at *;have hn1:n<=src.length:=by omega
   have htk:src.take n=src:=dM (by omega);suffices D : ∃u w',(Builtin.copy_ ts ty #[.slice (some a) len c,.slice (some a2) wM V]).run P w = .ok u w'/\rn M ι H w (.v (.int .i64 n)) (H.put r' (some { b with es:=b.es.take d++src.take n++b.es.drop (d+n)})) u w' by
    rw[htk]at D;exact D
   have hcl:d+n<=l.n:=by
    rcases hn with h | h
    ·have:=(hS.at Q E hb).len;omega
    omega
   have m:=hS.at Q E hb;obtain⟨arr,T,fz,hh,Z,hfz,F⟩:=m.heap;have hf:(Builtin.firstCells b.esz n (.slice (some a2) wM V)).run P w=_:=N.first n w hn1 rfl;have hl:(Builtin.lenOf (.slice (some a2) wM V)).run P w = .ok wM w:=by simp[Builtin.lenOf]
   have A:=N.row.sub n;have htl:(src.take n).length=n:=by rw[oM,Ew hn1]
   have O:(B.take (n * b.esz)).length=n * b.esz:=(by rw[A.len,htl]);have hbl:=m.len;have f:d * b.esz+(B.take (n * b.esz)).length<=arr.size:=(by rw[O,Z,<-mR];exact mW _ (by omega));have hes : ∀i,(b.es.take d++src.take n++b.es.drop (d+n))[i]?=if d<=i/\i<d+n then (src.take n)[i - d]? else b.es[i]?:=by
    intro i;have l1:(b.es.take d).length=d:=by rw[oM];omega
    by_cases c1:i<d;·rw[if_neg (by omega),sh,kR (by omega),List.getElem?_take_of_lt c1]
    by_cases V:i<d+n;·rw[if_pos ⟨by omega,V⟩,sh,kj (by omega),l1,kR (by omega)]
    rw[if_neg (by omega),kj (by rw[iX];omega),iX,l1,htl,Cf];congr 1;omega
   obtain⟨h3,h4⟩:=hS.write (k' := { b with es:=b.es.take d++src.take n++b.es.drop (d+n)}) hb Q E (arr:=dp arr (d * b.esz) (B.take (n * b.esz))) (T:=T) (fz:=fz) rfl rfl rfl
    (by rw[j5 f];exact Z) (by rw[j5 f];exact hfz) (by simp only[iX,oM,oZ];omega)
    (by
     intro G he1;simp only[mS]at he1;rcases he1 with (h | h) | h
     ·exact m.cells G (Ai h)
     ·exact A.Jf G h
     exact m.cells G (Fy h))
    (by
     intro o v W;have:=(m.frozen o v W).1;rw[hfr]at this;cases this)
    (by
     intro i j G x1 hi S;rw[bC.map,if_pos L];simp only at hi;rw[hes i]at hi;rw[jy f,O];by_cases hr:d<=i/\i<d+n;·rw[if_pos hr]at hi;obtain⟨u,C,W⟩:=A.vr (i - d) j G x1 hi S;have hlt:=(fg.1 C).1;rw[O]at hlt;have h5:d * b.esz<=i * b.esz:=mW _ hr.1;have h6:(i - d) * b.esz=i * b.esz - d * b.esz:=GQ _ _ _;rw[if_pos (by omega),show i * b.esz+j - d * b.esz=(i - d) * b.esz+j by omega];exact⟨u,C,A.one u (ja C),W⟩
     rw[if_neg hr]at hi;have hj:j<b.esz:=(by rw[<-m.cells G (ja hi)];exact(fg.1 S).1);rw[if_neg];·obtain⟨u,C,ho,W⟩:=F i j G x1 hi S;rw[bC.map,if_pos L]at W;exact⟨u,C,ho,W⟩
     intro hcon;apply hr;have e1':d * b.esz+n * b.esz=(d+n) * b.esz:=(mR _ _ _).symm;constructor
     ·rcases fQ i d with h | h
      ·have:(i+1) * b.esz<=d * b.esz:=mW _ h;rw[mR]at this;omega
      exact h
     rcases fQ i (d+n)with h | h
     ·exact h
     have:(d+n) * b.esz<=i * b.esz:=mW _ h;omega)
   have J:(storeCells a (B.take (n * b.esz))).run P w = .ok () (cM w l.b (.cells (dp arr (d * b.esz) (B.take (n * b.esz))) T fz)):=by
    by_cases h0:n=0
    ·have e0:B.take (n * b.esz)=[]:=by rw[h0];simp
     rw[e0];have G:dp arr (d * b.esz) []=arr:=by simp[dp]
     rw[G];have e2:cM w l.b (.cells arr T fz)=w:=by
      unfold cM;have:w.heap.setIfInBounds l.b (.cells arr T fz)=w.heap:=by
       apply Fw;intro k;by_cases hk:l.b=k;·subst hk;rw[hh,GN m.lt]
       rw[Ch hk]
      rw[this]
     rw[e2];simp[storeCells]
    have U:a.off=d * b.esz:=by
     rcases ha with h | h
     ·omega
     rw[h,m.esz]
    have:=nV (P:=P) (d * b.esz) (B.take (n * b.esz)) 0 arr w hh (by simpa using f) hfz.1 A.one;rw[AD]at this;rw[kV hsp,hbb,U];exact this
   refine⟨.int .i64 n,_,?_,M,ι,.v rfl,by rw[uC];exact h3,by rw[uC];exact h4,?_⟩;·have hm:Nat.min wM len=n:=I.symm;simp[Builtin.copy_,ht,bL hu,dm hz,hl,hm,hf,J,goInt]
   intro q lq hq;rw[aa.jo _ _ _ (by rw[hb];rfl)];exact hD q lq hq
  cases h
 cases h
end
def zR(arr:Array Value)(z n:Nat):List AV:=(List.range n).map λi => .agg ((List.range z).map λj => .Az (arr.getD (i * z+j) Go.undef))
def Td{arr:Array Value}{z n i j:Nat}{e x:AV}(a:(zR arr z n)[i]?=some e)(b:e.cells[j]?=some x):i<n/\j<z/\x = .Az (arr.getD (i * z+j) Go.undef):=by
 unfold zR at a;rw[nM]at a;rcases fQ i n with hi | hi
 ·rw[Fx hi]at a;cases a;simp only[AV.cells,nM]at b;rcases fQ j z with c | c
  ·rw[Fx c]at b;cases b;exact⟨hi,c,rfl⟩
  rw[yf (by simpa using c)]at b;cases b
 rw[yf (by simpa using hi)]at a;cases a
def gm.Az{M:Mem}{ι:Map}{w:World}{l:Loc}{k:bC}(h:gm M ι w l k) : ∃es:List AV,es.length=k.es.length/\(∀e∈es,e.cells.length=k.esz)/\gm M ι w l ⟨k.esz,es,true,k.jq⟩ /\
 ∀(i j:Nat) e x,es[i]?=some e->e.cells[j]?=some x ->∃u a x0,x = .Az u/\k.es[i]?=some a/\a.cells[j]?=some x0/\VR M (k.map ι) x0 u:=by
 obtain⟨arr,T,fz,s,m,p,t⟩:=h.heap;have key : ∀(i j:Nat) e x,(zR arr k.esz k.es.length)[i]?=some e->e.cells[j]?=some x ->∃u a x0,x = .Az u/\arr[i * k.esz+j]?=some u/\u.oneCell'=true/\k.es[i]?=some a/\a.cells[j]?=some x0/\VR M (k.map ι) x0 u:=by
  intro i j e x b c;obtain⟨hi,n,rfl⟩:=Td b c;have a:k.es[i]?=some k.es[i]:=eu hi;have v:j<k.es[i].cells.length:=by rw[h.cells _ (fj hi)];exact n
  have f:k.es[i].cells[j]?=some k.es[i].cells[j]:=eu v;obtain⟨u,a1,d,q⟩:=t i j _ _ a f;exact⟨u,_,_,by rw[Du,a1];rfl,a1,d,a,f,q⟩
 refine⟨zR arr k.esz k.es.length,by simp[zR],λe b=>?_,⟨h.esz,⟨arr,T,fz,s,m,p,λi j e x b c=>?_⟩,by simpa [zR] using h.len,λe b=>?_,λo x c=>by simpa [zR] using h.frozen o x c⟩,λi j e x b c=>?_⟩;·simp only[zR,mo]at b;obtain⟨i,_,rfl⟩:=b;simp[AV.cells]
 ·obtain⟨u,a,x0,rfl,a1,d,_⟩:=key i j e x b c;exact⟨u,a1,d,.Az d⟩
 ·simp only[zR,mo]at b;obtain⟨i,_,rfl⟩:=b;simp[AV.cells]
 obtain⟨u,a,x0,b1,_,_,b2,b3,b4⟩:=key i j e x b c;exact⟨u,a,x0,b1,b2,b3,b4⟩
def iA.Az{M:Mem}{ι:Map}{H:aa}{w:World}(d:iA M ι H.get w){r:Ref}{k:bC}(y:H.get r=some k)(B:k.arr=false)(v:0<k.esz) :
 ∃es:List AV,es.length=k.es.length/\(∀e∈es,e.cells.length=k.esz)/\iA M ι (H.put r (some ⟨k.esz,es,true,k.jq⟩)).get w /\
  ∀(i j:Nat) e x,es[i]?=some e->e.cells[j]?=some x ->∃u s x0,x = .Az u/\k.es[i]?=some s/\s.cells[j]?=some x0/\VR M ι x0 u:=by
 obtain⟨l,m,A⟩:=d.live r k y;obtain⟨es,z,G,E,t⟩:=(A.cellsOk v).Az;have C:k.map ι=ι:=by unfold bC.map;rw[B];rfl
 rw[C]at t;refine⟨es,z,G,⟨d.mem,λq b a=>?_,λq p b f l D a o m h=>?_⟩,t⟩
 ·rw[aa.ad]at a;split at a;·rename_i e;cases a;rw[e];exact⟨l,m,E.TN v⟩
  exact d.live q b a
 have : ∀q b,(H.put r (some ⟨k.esz,es,true,k.jq⟩)).get q=some b ->∃f,H.get q=some f:=by
  intro q b a;rw[aa.ad]at a;split at a;·rename_i e;rw[e];exact⟨k,y⟩
  exact⟨b,a⟩
 obtain⟨c,I⟩:=this q b a;obtain⟨F,n⟩:=this p f o;exact d.inj q p c F l D I n m h
def rn.RQ{M:Mem}{ι:Map}{H H0 E G:aa}{w w':World}{x:Ref}{m:Nat}{cap:Option Nat}{k1:bC}{u:Value}{es':List AV}
 (s : ∀q k,H0.get q=some k ->∃k',H.get q=some k') (h1:E.get x=some k1) (Q:0<k1.esz) (D:k1.arr=true)
 (L:G.get x=some ⟨k1.esz,es',false,k1.jq⟩) (A : ∀q k,q≠x->G.get q=some k->E.get q=some k) (J : ∀d t,E.gen d t<=G.gen d t)
 (B:es'.length=k1.es.length) (Y : ∀e∈es',e.cells.length=k1.esz)
 (K : ∀(M':Mem)(c:Map),(∀b o v,M b o=some v->M' b o=some v)->(∀q l,ι q=some l->c q=some l) ->∀(i j:Nat) e' x',es'[i]?=some e'->e'.cells[j]?=some x' ->
  ∃O R,k1.es[i]?=some O/\O.cells[j]?=some R /\∀u,VR M' eM R u->VR M' c x' u)
 (hW:rn M ι H0 w (.ct x 0 m cap) E u w'):rn M ι H w (.dsl x 0 m cap) G u w':=by
 obtain⟨M',c,hv,N,n,hD⟩:=hW;have p : ∀q k,G.get q=some k ->∃k',E.get q=some k':=by
  intro q k hq;by_cases e:q=x;·rw[e];exact⟨k1,h1⟩
  exact⟨k,A q k e hq⟩
 refine⟨M',c,?_,⟨N.mem,?_,?_⟩,⟨n.os,n.tape,n.output,n.size,?_,n.mem,n.map,?_,?_⟩,?_⟩;·cases hv with | ct hr f hs D hc hn F Q=>exact .dsl hr f hs D hc hn F Q
 ·intro q k F;by_cases e:q=x
  ·rw[e,L]at F;cases F;rw[e];obtain⟨l,z,f⟩:=N.live x k1 h1;refine⟨l,z,f.esz,λ_=>⟨f.esz,?_,?_,Y,?_⟩,λe=>by simp only at e;omega,?_⟩
   ·obtain⟨arr,T,fz,a1,a2,a3,a4⟩:=(f.cellsOk Q).heap;refine⟨arr,T,fz,a1,a2,a3,λi j e x he L=>?_⟩;obtain⟨O,R,b1,b2,b3⟩:=K M' c n.mem n.map i j e x he L;obtain⟨u,c1,c2,c3⟩:=a4 i j O R b1 b2;have hm:k1.map c=eM:=by unfold bC.map;rw[D];rfl
    rw[hm]at c3;exact⟨u,c1,c2,b3 u c3⟩
   ·have:=(f.cellsOk Q).len;simp only;omega
   ·intro o v Z;have:=f.frozen o v Z;simp only;rw[B];exact this
   intro o v Z;have:=f.frozen o v Z;simp only;rw[B];exact this
  exact N.live q k (A q k e F)
 ·intro q q' k k' l l' h C z S;obtain⟨a,D⟩:=p q k h;obtain⟨b,f⟩:=p q' k' C;exact N.inj q q' a b l l' D f z S
 ·intro b f hno;exact n.chg b f λr k l h0 z=>by
   obtain⟨k',C⟩:=s r k h0;exact hno r k' l C z
 ·intro r k l h z;obtain⟨a,D⟩:=p r k h;rcases n.live r a l D z with y | ⟨I,V,W,y,U,X⟩
  ·exact .inl y
  obtain⟨k',C⟩:=s I V y;exact .inr ⟨I,k',W,C,U,X⟩
 ·intro b o x L;rcases n.new b o x L with y | y | ⟨I,V,W,y,U,X⟩
  ·exact .inl y
  ·exact .inr (.inl y)
  obtain⟨k',C⟩:=s I V y;exact .inr (.inr ⟨I,k',W,C,U,X⟩)
 intro q l z;exact AE (hD q l z) (J _ _)
def rn.deep{M:Mem}{ι:Map}{H H0 y z:aa}{w w':World}{x:Ref}{m:Nat}{cap:Option Nat}{k1:bC}{u:Value}{es':List AV}
 (s : ∀q k,H0.get q=some k ->∃k',H.get q=some k') (G:y.get x=some k1) (D:0<k1.esz) (E:k1.arr=true)
 (a : ∀q,z.get q=if q=x then some ⟨k1.esz,es',false,k1.jq⟩ else y.get q) (f : ∀d t,y.gen d t<=z.gen d t)
 (n:es'.length=k1.es.length) (A : ∀e∈es',e.cells.length=k1.esz)
 (p : ∀(M':Mem)(c:Map),(∀b o v,M b o=some v->M' b o=some v)->(∀q l,ι q=some l->c q=some l) ->∀(i j:Nat) e' x',es'[i]?=some e'->e'.cells[j]?=some x' ->
  ∃C B,k1.es[i]?=some C/\C.cells[j]?=some B /\∀u,VR M' eM B u->VR M' c x' u)
 (F:rn M ι H0 w (.ct x 0 m cap) y u w'):rn M ι H w (.dsl x 0 m cap) z u w':=
 F.RQ s G D E (by rw[a,if_pos rfl]) (λq k e h=>by rw[a,if_neg e]at h;exact h) f n A p
section
variable{P:Program}{M:Mem}{ι:Map}{w:World}
def Fc(r:Ref)(b:Option bC)(H:aa)(q:Ref):aa.get ((r,b) :: H) q=if r=q then b else H.get q:=rfl
def WC(r:Ref)(b:Option bC)(H:aa)(d t:Nat):aa.gen ((r,b) :: H) d t=if r.d=d/\r.t=t then r.g+1 else H.gen d t:=rfl
def Pa{H:aa}(hS:iA M ι H.get w)(hD:uq ι H){d D:Nat}{t:TypeId}{n:Nat}{vs:List (Nat × AV)}{qs:Array (Nat × Value)}{x:AV}{H':aa}
 (h:Dv P H ⟨d,D,H.gen d D,0⟩ t n (some vs)=some (x,H')) (hl:vs.length=qs.toList.length)
 (hp : ∀(i:Nat) p q,vs[i]?=some p->qs.toList[i]?=some q->p.1=q.1/\VR M ι p.2 q.2) :
 ∃u w',(Instr.buildSlice t n qs).run P w = .ok u w'/\rn M ι H w x H' u w':=by
 unfold Dv at h;split at h
 ·rename_i cs e X Z;simp only[eS]at X;subst X;split at h
  ·rename_i z s hz hs;obtain⟨Y,hh⟩:=fP.1 h;clear h;obtain⟨hn1,h0,h1,h2,h3,h4,h5⟩:=Y;subst hn1;injection hh with hh
   injection hh with g1 g2
   subst g1;subst g2;obtain⟨q,G⟩ : ∃q,qs.toList=[q]:=List.length_eq_one_iff.1 hl.symm;obtain⟨q1,v⟩:=hp 0 _ q rfl (by rw[G];rfl);obtain⟨k,J⟩:=q;simp only at q1 v;subst q1;have a:=v.cells;have O:J.cells.size=s:=by have:=a.1;simp[AV.cells]at this;omega
   obtain⟨E,b⟩ : ∃E:List AV,E=J.cells.toList.map AV.Az:=⟨_,rfl⟩;have m : ∀u∈J.cells.toList,u.oneCell'=true:=(by intro u f;obtain⟨i,hi⟩:=List.mem_iff_getElem?.1 f;have hi':=(fg.1 hi).1;obtain⟨y,hy⟩ : ∃y,(AV.agg cs).cells[i]?=some y:=⟨_,eu (by rw[a.1];exact hi')⟩;refine(a.2 i y u hy hi).one ?_;rw[gP]at h5;exact h5 y (ja hy));have R:VR M eM (.agg E) (.agg J.cells):=(by refine .agg (by rw[b];simp) λi c u Y f=>?_;rw[b,nM]at Y;rw[<-GM]at f;rw[f]at Y;cases Y;exact .Az (m u (ja f)));obtain⟨it,zu,U,hiz,hzu⟩:=tH hz;obtain⟨ie,Q,hsz⟩:=vW hs;rw[U]at Q;cases Q;have S:=jV (M:=M) (ι:=eM) hzu;have N:zu.cells.size=s:=by have:=S.cells.1;simp at this;omega
   have A:=Row.replicate S h2 h3 1;have C:Row M s (List.replicate 1 z) ((Array.range (1 * s)).map (zu.cells[· % zu.cells.size]!)).toList:=(by have:=xl (zs:=zu.cells) (n:=1) (by omega);rw[N]at this;rw[N,this];exact A);have K : ∃us,J = .agg us:=by cases v with | agg hl h=>exact⟨_,rfl⟩
   obtain⟨us,rfl⟩:=K;have hcu:(Value.agg us).cells=us:=rfl;rw[hcu]at R O b m a;obtain⟨h7,l,h8,h9⟩:=D9 (M:=M) [(0,AV.agg E)] [(0,Value.agg us)] (List.replicate 1 z) [.agg E] _ rfl C rfl (λi p q hp G=>by
    match i,hp,G with
    | 0,hp,G=>cases hp;cases G;exact⟨rfl,R⟩) (by
    intro p L;simp only[lX]at L;subst L;refine⟨by simp[AV.cells,b,O],?_⟩;rw[b];simp[AV.cells,AV.one])
   have W:(Instr.buildSlice t 1 qs).run P w = .ok (.slice (some ⟨w.heap.size,0,none⟩) 1 1) (w.alloc (.cells l e)):=(by have hle : ¬16777216<1 * s:=(by omega);have hn0 : ¬1 * s=0:=(by omega);simp only[Instr.buildSlice,iQg,bL (iD Z),iQd,dm hs,gt_iff_lt];rw[if_neg hle,if_neg hn0];simp only[iQg,zeroValue,typeInfo,U,hiz,run_program,iQd,iQj,G,h8];simp[newRow]);have B:Er w (w.alloc (.cells l e)) (.cells l e (0,0)):=⟨rfl,rfl,rfl,rfl⟩;have I:l.size=1 * s:=(by rw[<-Cg,h9.len];rfl);have hqo:=vI (r:=⟨d,D,H.gen d D,0⟩) hS rfl (hD.fresh d D 0) B h9 (λk u f=>by simpa using f) (n:=1) (c:=1) I (Di.zero _ _) (bM _) (bM _) (cap:=some 1) (by intro k F;cases F;rfl) h0;have hW:=hqo.toW hD;refine⟨_,_,W,hW.RQ (k1:=⟨s,[.agg E],true,false⟩) (es':=[.agg cs]) (λq k F=>⟨k,F⟩) ?_ h0 rfl ?_ ?_ ?_ rfl ?_ ?_⟩;·simp[keyed,aa.get]
   ·simp[aa.get]
   ·intro q k hne F;have T : ¬(⟨d,D,H.gen d D,0⟩:Ref)=q:=λe=>hne e.symm;simp only[aa.get,if_neg T,keyed]at F ⊢;exact F
   ·intro d' t';exact bM _
   ·intro e Z;simp only[lX]at Z;subst Z;exact h4
   intro M' ι' hM hι i j e' x' o V;match i,o with
   | 0,o=>cases o;have hj:=(fg.1 V).1;obtain⟨u,f⟩ : ∃u,us.toList[j]?=some u:=⟨_,eu (by rw[<-a.1];exact hj)⟩;refine⟨_,.Az u,rfl,by simp only[AV.cells,b,nM,f];rfl,λu' hu'=>?_⟩;have h6:=a.2 j x' u V f;cases hu' with | Az _=>exact h6.mono hM ι' hι
  cases h
 cases h
def Uu{H:aa}(hS:iA M ι H.get w)(hD:uq ι H){d A:Nat}{V:Array TypeId}{ty:TypeId}{s x y:AV}{us ux:Value}(hs:VR M ι s us)(hx:VR M ι x ux){H':aa}
 (h:QW P H ⟨d,A,H.gen d A,0⟩ V[0]? V[1]? s x=some (y,H')) : ∃u w',(Builtin.append_ V ty #[us,ux]).run P w = .ok u w'/\rn M ι H w y H' u w':=by
 unfold QW at h;split at h
 ·rename_i e B m cx he;split at h;·cases h
  rename_i hc;split at h
  ·rename_i z by' zz n hz T hzz C;split at h;·cases h
   rename_i c;have hax:n.arr=false:=by
    cases hh:n.arr with| false=>rfl| true=>exact absurd (.inl hh) c
   have hbz:n.esz=z:=wV.1 λh=>c (.inr (.inl h));have hz0:z≠0:=λh=>c (.inr (.inr (.inl h)));have hb0:by'≠0:=λh=>c (.inr (.inr (.inr (.inl h))));have hn0:n.es≠[]:=λh=>c (.inr (.inr (.inr (.inr (.inl h)))));have hzl:zz.cells.length=z:=wV.1 λh=>c (.inr (.inr (.inr (.inr (.inr (.inl h))))));have hm:m=n.es.length:=wV.1 λh=>c (.inr (.inr (.inr (.inr (.inr (.inr h))))));have W : ∀e∈n.es,e.cells.length=z:=(by obtain⟨l,_,T⟩:=hS.live B n C;rw[<-hbz];exact(T.cellsOk (by omega)).cells);obtain⟨a,a1,a2,a3,a4⟩:=hS.Az C hax (by omega);obtain⟨H0,hH0⟩ : ∃H0,H0=H.put B (some ⟨n.esz,a,true,n.jq⟩):=⟨_,rfl⟩;rw[<-hH0]at a3;have L : ∀q,H0.get q=if q=B then some ⟨n.esz,a,true,n.jq⟩ else H.get q:=λq=>by rw[hH0,aa.ad]
   have o : ∀d t,H0.gen d t=H.gen d t:=λd t=>by rw[hH0,aa.jo _ _ _ (by rw[C];rfl)]
   have hD0:uq ι H0:=λq l hl=>by rw[o];exact hD q l hl
   have hx0:VR M ι (.ct B 0 m cx) ux:=by cases hx with | dsl hr T hs ha hc hn p hz=>exact .ct hr T hs ha hc hn p hz
   have hrx:H0.get B=some ⟨n.esz,a,true,n.jq⟩:=(by rw[L,if_pos rfl]);have hel : ∀K:aa,K.get B=some ⟨n.esz,a,true,n.jq⟩->nP P K.get e (.ct B 0 m cx)=some (z,a):=by
    intro K hK;have e1:(a.drop 0).take m=a:=by
     rw[Ev,hm,<-a1,Ce]
    simp only[nP,dt,hK];rw[if_pos ⟨trivial,by omega⟩,e1,hbz]
   have hne0:a≠[]:=λh=>hn0 (si.1 (by rw[<-a1,h];rfl));have hc0 : ¬((V[1]?.bind P.underlying).isNone=true\/(V[1]?.map (isInt P)).getD false≠isNum (.ct B 0 m cx)):=hc;have I : ∀q k,H0.get q=some k ->∃k',H.get q=some k':=by
    intro q k G;rw[L]at G;split at G;·rename_i e;rw[e];exact⟨n,C⟩
    exact⟨k,G⟩
   split at h
   ·obtain⟨D,h⟩:=fP.1 h;cases h;have hfr0:=hD.fresh d A 0;have R:H.get ⟨d,A,H.gen d A,0⟩=none:=by
     cases hg:H.get ⟨d,A,H.gen d A,0⟩ with| none=>rfl| some b=>obtain⟨l,hl,_⟩:=hS.live _ _ hg;rw[hl]at hfr0;cases hfr0
    have hne:(⟨d,A,H.gen d A,0⟩:Ref)≠B:=λe=>by rw[e,C]at R;cases R
    have G:fx P H0.get ⟨d,A,H0.gen d A,0⟩ V[0]? V[1]? (.v (.slice none 0 0)) (.ct B 0 m cx)=some (.ct ⟨d,A,H0.gen d A,0⟩ 0 a.length none,[⟨z,a,true,false⟩]):=(by simp only[fx,he,if_neg hc0,hz,T,hzz,hel H0 hrx];rw[if_neg (λh=>h.elim (λh=>h rfl) λh=>h.elim hz0 λh=>h.elim hb0 λh=>h hzl),if_neg hne0,if_pos (by rw[a1,<-hm];exact D)]);obtain⟨u,w',Z,h6⟩:=Ik (P:=P) (ty:=ty) a3 rfl (hD0.fresh d A 0) hs hx0 G;have hW:=h6.toW hD0;rw[o,a1,<-hm]at hW;refine⟨u,w',Z,hW.RQ (k1:=⟨z,a,true,false⟩) (es':=n.es) I ?_ (by simp only;omega) rfl ?_ ?_ ?_ a1.symm W ?_⟩;·simp[keyed,aa.get]
    ·simp[aa.get]
    ·intro q k G p;have S : ¬(⟨d,A,H.gen d A,0⟩:Ref)=q:=λe=>G e.symm;simp only[keyed];rw[Fc,if_neg S,aa.ad]at p;rw[Fc,if_neg S,L];split at p;·cases p
     rename_i hne2;rw[if_neg hne2];exact p
    ·intro d' t';simp only[keyed,WC,aa.jo _ _ _ (show(H.get B).isSome=true by rw[C];rfl),o];exact bM _
    intro M' Y hM hι i j e' x' f Q;have hi:i<a.length:=by rw[a1];exact(fg.1 f).1
    have g0:a[i]?=some a[i]:=eu hi;have hj:j<a[i].cells.length:=(by have Z:=(fg.1 Q).1;rw[W _ (ja f)]at Z;rw[a2 _ (fj hi)];omega);have g1:a[i].cells[j]?=some a[i].cells[j]:=eu hj;obtain⟨u,e2,x2,b1,b2,b3,b4⟩:=a4 i j _ _ g0 g1;rw[f]at b2;cases b2;rw[Q]at b3;cases b3;refine⟨_,_,g0,g1,λu' O=>?_⟩;rw[b1]at O;cases O with | Az _=>exact b4.mono hM Y hι
   ·rename_i r' len;split at h
    ·rename_i b X;obtain⟨⟨har,hrz,hlen,hrr,D⟩,h⟩:=fP.1 h;cases h;have hbr0:H0.get r'=some b:=by rw[L,if_neg hrr];exact X
     have hcr : ∀e∈b.es,e.cells.length=z:=(by obtain⟨l,_,T⟩:=hS.live r' b X;rw[<-hrz];exact(T.cellsOk (by omega)).cells);obtain⟨J,c1,c2,c3,c4⟩:=a3.Az hbr0 har (by omega);obtain⟨F,hH1⟩ : ∃F,F=H0.put r' (some ⟨b.esz,J,true,b.jq⟩):=⟨_,rfl⟩;rw[<-hH1]at c3;have U : ∀q,F.get q=if q=r' then some ⟨b.esz,J,true,b.jq⟩ else H0.get q:=λq=>by rw[hH1,aa.ad]
     have E : ∀d t,F.gen d t=H.gen d t:=λd t=>by rw[hH1,aa.jo _ _ _ (by rw[hbr0];rfl),o]
     have hD1:uq ι F:=λq l hl=>by rw[E];exact hD q l hl
     have hs0:VR M ι (.ct r' 0 len none) us:=by cases hs with | dsl hr T hs ha hc hn p hz=>exact .ct hr T hs ha hc hn p hz
     have hr1:F.get r'=some ⟨b.esz,J,true,b.jq⟩:=(by rw[U,if_pos rfl]);have hrx1:F.get B=some ⟨n.esz,a,true,n.jq⟩:=by rw[U,if_neg (λe=>hrr e.symm)];exact hrx
     have hdom1 : ∀q k,F.get q=some k ->∃k',H.get q=some k':=by
      intro q k G;rw[U]at G;split at G;·rename_i e;rw[e];exact⟨b,X⟩
      exact I q k G
     have hw:kG P F V[0]? V[1]? (.ct r' 0 len none) (.ct B 0 m cx)=some (.ct ⟨r'.d,r'.t,F.gen r'.d r'.t,0⟩ 0 (len+a.length) none,(⟨r'.d,r'.t,F.gen r'.d r'.t,0⟩,some ⟨z,J++a,true,b.jq⟩) :: F.put r' none):=(by simp only[kG,he,if_neg hc0,hz,T,hzz,hel F hrx1];rw[if_neg (λh=>h.elim (λh=>h rfl) λh=>h.elim hz0 λh=>h.elim hb0 λh=>h.elim hne0 λh=>h hzl)];simp only[hr1];rw[if_pos ⟨trivial,trivial,hrz,by rw[c1];exact hlen,by rw[a1,<-hm];exact D⟩]);obtain⟨u,w',Z,hW⟩:=Hi (P:=P) (ty:=ty) c3 hD1 hs0 hx0 hw;rw[E,a1,<-hm]at hW;have hcat : ∀e∈b.es++n.es,e.cells.length=z:=λe he=>(mS.1 he).elim (hcr e) (W e);refine⟨u,w',Z,hW.RQ (k1:=⟨z,J++a,true,b.jq⟩) (es':=b.es++n.es) hdom1 ?_ (by simp only;omega) rfl ?_ ?_ ?_ (by simp only[iX,a1,c1]) hcat ?_⟩;·rw[Fc,if_pos rfl]
     ·rw[Fc,if_pos rfl]
     ·intro q k G p;have S : ¬(⟨r'.d,r'.t,H.gen r'.d r'.t,0⟩:Ref)=q:=λe=>G e.symm;rw[Fc,if_neg S,aa.ad]at p;rw[Fc,if_neg S,aa.ad];split at p;·cases p
      rename_i n1;rw[aa.ad]at p;split at p;·cases p
      rename_i n2;rw[if_neg n1,U,if_neg n1,L,if_neg n2];exact p
     ·intro d' t';have s1:(H.get B).isSome=true:=by rw[C];rfl
      have s2:((H.put B none).get r').isSome=true:=by rw[aa.ad,if_neg hrr,X];rfl
      have s3:(F.get r').isSome=true:=by rw[hr1];rfl
      simp only[WC,aa.jo _ _ _ s2,aa.jo _ _ _ s1,aa.jo _ _ _ s3,E];exact bM _
     intro M' Y hM hι i j e' x' f Q;have both : ∀ {k:bC} {N:List AV} (i:Nat),N.length=k.es.length->(∀e∈N,e.cells.length=k.esz)->(∀e∈k.es,e.cells.length=k.esz)->(∀(i j:Nat) e x,N[i]?=some e->e.cells[j]?=some x ->∃u e0 x0,x = .Az u/\k.es[i]?=some e0/\e0.cells[j]?=some x0/\VR M ι x0 u) ->
      k.es[i]?=some e' ->∃e1 x1,N[i]?=some e1/\e1.cells[j]?=some x1 /\∀u,VR M' eM x1 u->VR M' Y x' u:=by
      intro k N i l1 l2 l4 l3 f;have hi:i<N.length:=by rw[l1];exact(fg.1 f).1
      have g0:N[i]?=some N[i]:=eu hi;have hj:j<N[i].cells.length:=(by have Z:=(fg.1 Q).1;rw[l4 _ (ja f)]at Z;rw[l2 _ (fj hi)];exact Z);have g1:N[i].cells[j]?=some N[i].cells[j]:=eu hj;obtain⟨u,e2,x2,b1,b2,b3,b4⟩:=l3 i j _ _ g0 g1;rw[f]at b2;cases b2;rw[Q]at b3;cases b3;refine⟨_,_,g0,g1,λu' O=>?_⟩;rw[b1]at O;cases O with | Az _=>exact b4.mono hM Y hι
     rcases fQ i b.es.length with hlt | hge
     ·rw[kR hlt]at f;obtain⟨e1,x1,g1,g2,g3⟩:=both (k:=b) i c1 c2 (by rw[hrz];exact hcr) c4 f;exact⟨e1,x1,by rw[kR (by omega)];exact g1,g2,g3⟩
     rw[kj hge]at f;obtain⟨e1,x1,g1,g2,g3⟩:=both (k:=n) (i - b.es.length) a1 a2 (by rw[hbz];exact W) a4 f;exact⟨e1,x1,by rw[kj (by omega),c1];exact g1,g2,g3⟩
    cases h
   cases h
  cases h
 cases h
end
end
end Go.Ab
