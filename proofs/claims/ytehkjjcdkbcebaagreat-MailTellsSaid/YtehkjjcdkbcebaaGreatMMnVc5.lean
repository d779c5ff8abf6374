/-
  One element put into an own row, whatever room the row has. No statement of a seat is proved here.
-/
import Derived.Test.YtehkjjcdkbcebaaGreatRows
import Derived.Test.YtehkjjcdkbcebaaGreatAbsRules
set_option linter.unusedVariables false
set_option linter.unusedSimpArgs false
set_option linter.unusedSectionVars false
set_option linter.unnecessarySimpa false
set_option maxRecDepth 1000000
set_option linter.defProp false
noncomputable section
namespace Go.Ab
def aaB(es:List AV)(i:Nat)(v:AV):List AV:=es.take i++v :: es.drop i
def ac4(sl:Nat)(H:ab)(r:Ref):Ref:=⟨r.d+1,sl,H.gen (r.d+1) sl,0⟩
def ac5(sl:Nat)(H:ab)(r:Ref)(B:aP):ab:=(⟨r.d,r.t,H.gen r.d r.t,0⟩,some B) :: (ac4 sl H r,none) :: H.put r none
def My(E:Env)(a:FuncId->List AV->Option AV)(d:Oper->Bool:=λ_=>false):Env := { E with spec:=a,deep:=d,ok:=zp { E with deep:=d}}
def P6{P:Program}{l bF kV:List FuncId}{strict:Oper->Bool}{apart:Array Oper->List (Tmp × Tmp)}{fI:Oper->Bool}{Eu:List (FuncId × List AV × AV)}{wide:Oper->Bool}{o1:FuncId->Option TypeId}{thrSpec:FuncId->List AV->ab->Option (AV × ab)}{sm:J7}{sp:FuncId->List AV->Option AV}{d:Oper->Bool}
 (hspec : ∀f args y,sp f args=some y->iz P f args y) (hm:P.follows .mixedOrders=true) (h0:Gc { uG P l bF kV strict apart fI with deep:=d} l=true) (hover : ∀f t,o1 f=some t->vV P f t) (hthr : ∀f args H y H',thrSpec f args H=some (y,H')->kU P (.fn f) args H y H') :
 (My (uG P l bF kV strict apart fI Eu wide o1 thrSpec sm) sp d).Ok (zp (My (uG P l bF kV strict apart fI Eu wide o1 thrSpec sm) sp d)) where
 fns:=by
  intro f hf;have h:Gc { uG P l bF kV strict apart fI with deep:=d} l=true:=h0;have hf':f∈l:=by simpa [uG,My] using hf
  have:=eC.1 h f hf';split at this;·rename_i fn hfn;simp only[bD,jH]at this;refine⟨fn,hfn,this.1,λc hc=>?_⟩;have h2:=this.2;rw[hc]at h2;exact h2
  cases this
 specs:=λf args y h=>hspec f args y h
 same:=rfl
 overs:=hover
 thrs:=hthr
 draws:=λops hok _ hpc _ htc nt dep id st st' M ι a w ro Q hr hap hO hQ=>by
  rcases Dp.1 hok with h1 | h1
  ·exact JN hm h1 hpc htc hr hO hQ
  exact JO hm h1 hpc htc hr hap hO hQ
def Mt(a:List (Nat × Nat × Nat))(o:Oper):Bool:=match o.dst with
 | some d=>(match o.op with
  | .buildSlice t _ _=>a.any λ(x,y,z)=>Nat.beq x d&&Nat.beq y t&&Nat.beq z 99999
  | .call c=>(match c.callee,c.argTypes[0]? with
   | .builtin .append,some t=>a.any λ(x,y,z)=>Nat.beq x d&&Nat.beq y t&&Nat.beq z 99999
   | _,_=>false)
  | _=>false)
 | none=>false
def bad(b:Bool):Int:=if b then 0 else 8
@[simp] def abf(b:Bool):bad b=0↔b=true:=by cases b<;>simp[bad]
@[simp] def AQ:bad true=0:=id rfl
@[simp] def Gk:bad false=8:=id rfl
structure NI where
 lv:UInt8
 cats:UInt32
 num:UInt8
deriving DecidableEq
structure wS where
 h:NI
 n:Int
deriving DecidableEq
structure XT where
 f:wS
 many:Int
deriving DecidableEq
def jt(h:NI):Bool:=decide (h.lv<=15)&&decide (h.num<8)
def wB(i:wS):Bool:=jt i.h&&(decide (1<=i.n)&&decide (i.n<=1099511627776))
def mg(s:XT):Bool:=wB s.f&&(decide (1<=s.many)&&(decide (s.many<=64)&&decide (s.f.n+s.many - 1<=1099511627776)))
def F9{i:wS}(h:wB i=true):1<=i.n/\i.n<=1099511627776:=by
 simp[wB]at h;exact h.2
def Mz{s:XT}(h:mg s=true):1<=s.f.n/\1<=s.many/\s.many<=64/\s.f.n+s.many - 1<=1099511627776:=by
 simp[mg]at h;have:=F9 h.1;exact⟨this.1,h.2.1,h.2.2.1,h.2.2.2⟩
def P7{s:XT}(h:mg s=true):wB s.f=true:=by
 simp[mg]at h;exact h.1
def kW:wS:=⟨⟨0,0,0⟩,0⟩
def aR(n:Int):AV := .v (.int .i32 n)
def rows(l:List Int):List AV:=l.map aR
@[simp] def ZV(l:List Int):(rows l).length=l.length:=by simp[rows]
@[simp] def TH(l:List Int):rows l=[]↔l=[]:=by simp[rows]
def fK(n:Int):Bool:=decide (n = -1)||(decide (0<=n)&&decide (n<55296))||(decide (57343<n)&&decide (n<=1114111))
def D9(l:List Int):Bool:=decide (l.length<=64)&&l.all fK
def uq(l:List Int):Int:=if 64<l.length then 4 else if l.all fK then 0 else 8
@[simp] def aal(n:Int):(aR n).cells=[aR n]:=id rfl
@[simp] def ado(n:Int):(aR n).one=true:=id rfl
@[simp] def abm(g:cb)(k:Nat)(n:Int):view g (k+1) (aR n)=some (aR n):=id rfl
def Bv(l:List Int):uq l=0↔D9 l=true:=by
 unfold uq D9;by_cases h:64<l.length;·simp[h,Nat.not_le.2 h]
 have a:l.length<=64:=Dc.1 h;rw[if_neg h];cases l.all fK<;>simp[a]
@[simp] def Vi(l:List Int)(i n:Nat):dQ (rows l) i 0 n false=(l[i]?).map aR:=by
 unfold dQ rows;rw[lJ];cases l[i]?<;>rfl
def fk.fr{M:Mem}{ι:Map}{H:ab}{w:World}(c:fk M ι H.get w)(e:p8 ι H):Fr H:=by
 intro d t g k f;cases h:H.get ⟨d,t,g,k⟩ with
 | none=>rfl
 | some b=>obtain⟨l,a,_⟩:=c.live _ _ h;have:=e _ l a;simp only at this;omega
def xw(a:Nat)(H:ab):Ref:=⟨1,a,H.gen 1 a,0⟩
def R1(z:Nat)(g:cb):AV->Bool
 | .v (.slice none 0 0)=>true
 | .bO r 0 0 (some 0)=>match g r with
  | some b=>b.arr&&b.esz == z&&b.es.isEmpty
  | none=>false
 | _=>false
def acC(P:Program)(t:TypeId)(sl c:Nat)(args:List AV)(H:ab):bU:=match args with
 | [.dsl r 0 n none,.v (.int .i64 i),.bO a 0 1 e]=>(match H.get r,H.get a,(de P t).bind (av P),(de P t).bind (lg P) with
  | some b,some bv,some z,some by'=>(match bv.es with
   | [v]=>if b.arr=false/\bv.arr=true/\b.esz=z/\bv.esz=z/\1<z/\0<by'/\b.fI=false/\n=b.es.length/\0<=i/\i<=n/\(n+1) * by'<=aY then
    some (.dsl ⟨r.d,r.t,H.gen r.d r.t,0⟩ 0 (n+1) none,ac5 sl H r ⟨z,aaB b.es i.toNat v,false,false⟩) else none
   | _=>none)
  | _,_,_,_=>none)
 | [x,.v (.int .i64 0),.bO a 0 1 e]=>(match H.get a,(de P t).bind (av P),(de P t).bind (lg P) with
  | some bv,some z,some by'=>(match bv.es with
   | [v]=>if R1 z H.get x=true/\bv.arr=true/\bv.esz=z/\1<z/\0<by'/\by'<=aY then
    some (.dsl (xw c H) 0 1 none,(xw c H,some ⟨z,[v],false,false⟩) :: H) else none
   | _=>none)
  | _,_,_=>none)
 | _=>none
def Sd(z a b:Nat)(H:ab)(es:List AV)(arr:Bool):ab:=(xw b H,some ⟨z,es,arr,false⟩) :: (xw a H,some ⟨z,[],true,false⟩) :: H
def HH(z a b:Nat)(H:ab)(es:List AV)(arr:Bool)(q:Ref):(Sd z a b H es arr).get q=if xw b H=q then some ⟨z,es,arr,false⟩ else if xw a H=q then some ⟨z,[],true,false⟩ else H.get q:=by
 unfold Sd;rw[ab.aZ,ab.aZ]
def uJ(z by' c a:Nat)(args:List AV)(H:ab):bU:=match args with
 | [.cC b (e :: es) _]=>if b=z/\0<z/\(es.length+1) * by'<=aY then some (.dsl (xw a H) 0 (es.length+1) none,Sd z c a H (e :: es) false) else none
 | _=>none
def HE{P:Program}{z by' s l:Nat}{f:FuncId}{args:List AV}{H H':ab}{y:AV}(G : ∃fn,P.funcs[f]?=some fn/\(fn.name == "runtime.NumGoroutine")=false/\fn.body.isSome=true)
 (b : ∀H e es c,(es.length+1) * by'<=aY->Fr H->kU P (.fn f) [.cC z (e :: es) c] H (.bO (xw l H) 0 (es.length+1) none) (Sd z s l H (e :: es) true))
 (h:uJ z by' s l args H=some (y,H')):kU P (.fn f) args H y H':=by
 refine⟨G,λM ι w us D A m=>?_⟩;unfold uJ at h;split at h
 ·rename_i C e es c;obtain⟨B,h⟩:=dH.1 h;obtain⟨rfl,N,J⟩:=B;cases h;have p : ∀x∈e :: es,x.cells.length=C:=by
   obtain⟨v,n⟩:=m;match us,v,n with
   | [u],v,n=>cases n 0 _ u rfl rfl with | cC cell L B O hm g h=>exact g
  refine((b H e es c J (D.fr A)).2 M ι w us D A m).mono λa w' ⟨u,g,hW⟩=>⟨u,g,?_⟩;refine hW.deep (k1:=⟨C,e :: es,true,false⟩) (es':=e :: es) (λq k I=>⟨k,I⟩) ?_ (by simp only;omega) rfl (λq=>?_) (λd t=>?_) rfl p (λM' o _ _ i j e x g E=>⟨e,x,g,E,λu K=>K.up o⟩);·rw[HH,if_pos rfl]
  ·rw[HH,HH];by_cases a:xw l H=q;·rw[if_pos a,if_pos a.symm]
   have F : ¬q=xw l H:=λh=>a h.symm;simp only[if_neg a,if_neg F]
  unfold Sd xw;simp only[ab.AE];exact aV _
 cases h
structure Wb where
 lv:UInt8
 cats:UInt32
deriving DecidableEq
structure bp where
 kind:UInt8
 h:NI
 serial:Int
 s:XT
 a:wS
 to:Wb
 l:List Int
deriving DecidableEq
def iQ(a:wS):Bool:=decide (a.h.lv=0)&&decide (a.h.cats=0)&&decide (a.h.num=0)&&decide (a.n=0)
def sC(t:Wb):Bool:=decide (t.lv=0)&&decide (t.cats=0)
def D2(a b:NI):Bool:=decide (a.lv=b.lv)&&decide (a.cats=b.cats)&&decide (a.num=b.num)
def tL(a:wS):iQ a=true↔a=kW:=by
 obtain⟨⟨a,b,c⟩,d⟩:=a;simp[iQ,kW,and_assoc]
def xL(o:bp):Bool:=iQ o.a&&decide (o.l=[])
def Fx(o:bp):Bool:=sC o.to&&((iQ o.a||wB o.a)&&(D2 o.s.f.h o.h&&(decide ((o.l.length:Int)=o.s.many)&&D9 o.l)))
def LQ(o:bp):Bool:=sC o.to&&xL o
def Hc(o:bp):Bool:=xL o&&decide (o.to.lv<=15)
def Ap(o:bp):Bool:=if o.kind=1 then Fx o else if o.kind=2 then LQ o else if o.kind=3 then Hc o else false
def my(o:bp):Bool:=jt o.h&&(decide (1<=o.serial)&&(decide (o.serial<16777216)&&(mg o.s&&Ap o)))
def El{P:Program}{t:TypeId}(c:(eD P t).isSome=true)(e:(av P t).isSome=true)(cs:List AV)(a:Nat):xu P t cs a=MO cs a ((av P t).getD 0) ((eD P t).getD false):=by
 obtain⟨b,d⟩:=fP.1 c;obtain⟨n,f⟩:=fP.1 e;simp only[xu,d,f,dP];cases b<;>rfl
def By{P:Program}{t:TypeId}(a:((lK P t).bind λp=>av P p.2).isSome=true)(cs:List AV)(k:UInt8)(c:k.toNat<((lK P t).getD (0,0)).1) :
 tk P t (some (.agg cs)) (some (a8 k))=ik (xu P ((lK P t).getD (0,0)).2 cs (k.toNat * (av P ((lK P t).getD (0,0)).2).getD 0)):=by
 cases b:lK P t with| none=>rw[b]at a;simp at a| some p=>obtain⟨n,e⟩:=p;rw[b]at a c;simp only[cR,dP]at a c;obtain⟨s,d⟩:=fP.1 a;unfold tk a8;simp only[cR,intOf,b,d,dP];rw[if_pos (by omega)];simp
@[simp] def YM(r:Ref)(n:Nat)(f:Fn)(a b:List AV)(bs:List aP):ae r n (.fn f a b) bs=(.fn f a b,bs):=by cases n<;>rfl
def F2(R:AV->AV->Prop):List AV->List AV->Prop
 | [],[]=>True
 | x :: xs,y :: ys=>R x y/\F2 R xs ys
 | _,_=>False
def F2.len{R:AV->AV->Prop} : ∀ {a ys:List AV},F2 R a ys->a.length=ys.length
 | [],[],_=>rfl
 | _ :: a,_ :: ys,h=>by simp only[lZ];rw[F2.len h.2]
 | [],_ :: _,h=>h.elim
 | _ :: _,[],h=>h.elim
def F2.mono{R b:AV->AV->Prop} : ∀ {a ys:List AV},(∀x∈a,∀y,R x y->b x y)->F2 R a ys->F2 b a ys
 | [],[],_,_=>trivial
 | x :: a,y :: ys,c,h=>⟨c x (by simp) y h.1,F2.mono (λx d=>c x (by simp[d])) h.2⟩
 | [],_ :: _,_,h=>h.elim
 | _ :: _,[],_,h=>h.elim
def F2.mapM{R:AV->AV->Prop}{f:AV->Option AV}{h:AV->AV}(b : ∀x y,R x y->f x=some (h y)) : ∀ {a ys:List AV},F2 R a ys->a.mapM f=some (ys.map h)
 | [],[],_=>rfl
 | x :: a,y :: ys,c=>by rw[lH,b x y c.1,F2.mapM b c.2];rfl
 | [],_ :: _,h=>h.elim
 | _ :: _,[],h=>h.elim
def F2.app{R:AV->AV->Prop} : ∀ {c ys b a:List AV},F2 R c ys->F2 R b a->F2 R (c++b) (ys++a)
 | [],[],_,_,_,h=>h
 | _ :: c,_ :: ys,_,_,h,d=>⟨h.1,F2.app h.2 d⟩
 | [],_ :: _,_,_,h,_=>h.elim
 | _ :: _,[],_,_,h,_=>h.elim
def F2.split{R:AV->AV->Prop} : ∀ {A':List AV} {a b:List AV},F2 R a (A'++b) ->∃A B,a=A++B/\F2 R A A'/\F2 R B b
 | [],a,b,h=>⟨[],a,rfl,trivial,h⟩
 | d :: A',[],b,h=>h.elim
 | d :: A',x :: a,b,h=>by
  obtain⟨A,B,c,f,e⟩:=F2.split (A':=A') h.2;exact⟨x :: A,B,by rw[c];rfl,⟨h.1,f⟩,e⟩
def F2.at{R:AV->AV->Prop} : ∀ {a ys:List AV},F2 R a ys ->∀ {i:Nat} {y:AV},ys[i]?=some y ->∃x,a[i]?=some x/\R x y
 | [],[],_,i,y,h=>by simp at h
 | x :: a,y :: ys,b,0,c,h=>by cases h;exact⟨x,rfl,b.1⟩
 | x :: a,y :: ys,b,i+1,c,h=>F2.at b.2 h
 | [],_ :: _,h,_,_,_=>h.elim
 | _ :: _,[],h,_,_,_=>h.elim
def pP:AV->Bool
 | .v _ | .cC .. => true
 | _=>false
def DC(g:cb)(x y:AV):Prop:=(x=y/\pP y=true) \/∃r z l c,x = .bO r 0 l.length c/\y = .fsl z l c/\g r=some ⟨z,l,true,false⟩/\z≠0
def DE(g:cb)(x y:AV):Prop :=∃a ys,x = .agg a/\y = .agg ys/\F2 (DC g) a ys
def iw:AV->List Ref
 | .bO r _ _ _=>[r]
 | _=>[]
def eE:AV->List Ref
 | .agg xs=>xs.flatMap iw
 | _=>[]
def MC:AV->AV
 | .fsl z l c => .cC z l c
 | x=>x
def yF:AV->AV
 | .agg ys => .agg (ys.map MC)
 | x=>x
def DC.view{g:cb}{x y:AV}(h:DC g x y)(n:Nat):view g (n+1) x=some (MC y):=by
 rcases h with ⟨rfl,h⟩ | ⟨r,z,l,c,rfl,rfl,a,_⟩
 ·cases x<;>first | rfl | cases h
 simp[Ab.view,a,MC]
def DC.export{g:cb}{x y:AV}(h:DC g x y)(n:Nat):bK g (n+1) x=some y:=by
 rcases h with ⟨rfl,h⟩ | ⟨r,z,l,c,rfl,rfl,a,_⟩
 ·cases x<;>first | rfl | cases h
 simp[bK,a]
def DC.refs{g:cb}{x y:AV}(h:DC g x y)(n:Nat):ad g (n+1) x=iw x:=by
 rcases h with ⟨rfl,h⟩ | ⟨r,z,l,c,rfl,rfl,a,_⟩
 ·cases x<;>first | rfl | cases h
 rfl
def DC.bF{g a:cb}{x y:AV}(h:DC g x y)(f : ∀q∈iw x,∀b,g q=some b->a q=some b):DC a x y:=by
 rcases h with h | ⟨r,z,l,c,rfl,rfl,d,e⟩
 ·exact .inl h
 exact .inr ⟨r,z,l,c,rfl,rfl,f r (by simp[iw]) _ d,e⟩
def F2.refs{g:cb}{R:AV->AV->Prop}{f h:AV->List Ref}(b : ∀x y,R x y->f x=h x) : ∀ {a ys:List AV},F2 R a ys->a.flatMap f=a.flatMap h
 | [],[],_=>rfl
 | x :: a,y :: ys,c=>by rw[kY,kY,b x y c.1,F2.refs (g:=g) b c.2]
 | [],_ :: _,h=>h.elim
 | _ :: _,[],h=>h.elim
def DE.view{g:cb}{x y:AV}(h:DE g x y)(n:Nat):view g (n+2) x=some (yF y):=by
 obtain⟨xs,ys,rfl,rfl,h⟩:=h;show(xs.mapM (Ab.view g (n+1))).map AV.agg=_;rw[F2.mapM (R:=DC g) (f:=Ab.view g (n+1)) (h:=MC) (λx y a=>DC.view a n) h];rfl
def DE.export{g:cb}{x y:AV}(h:DE g x y)(n:Nat):bK g (n+2) x=some y:=by
 obtain⟨xs,ys,rfl,rfl,h⟩:=h;show(xs.mapM (bK g (n+1))).map AV.agg=_;rw[F2.mapM (R:=DC g) (f:=bK g (n+1)) (h:=id) (λx y a=>DC.export a n) h];simp
def DE.refs{g:cb}{x y:AV}(h:DE g x y)(n:Nat):ad g (n+2) x=eE x:=by
 obtain⟨xs,ys,rfl,rfl,h⟩:=h;simp only[ad,eE];exact F2.refs (g:=g) (R:=DC g) (f:=ad g (n+1)) (h:=iw) (λx y a=>DC.refs a n) h
def DE.bF{g a:cb}{x y:AV}(h:DE g x y)(i : ∀q∈eE x,∀b,g q=some b->a q=some b):DE a x y:=by
 obtain⟨xs,ys,rfl,rfl,h⟩:=h;exact⟨xs,ys,rfl,rfl,F2.mono (λx d y f=>DC.bF f λq e b c=>i q (by simp only[eE,eW];exact⟨x,d,e⟩) b c) h⟩
def DC.live{g:cb}{x y:AV}(h:DC g x y) : ∀q∈iw x,∃b,g q=some b:=by
 rcases h with ⟨rfl,h⟩ | ⟨r,z,l,c,rfl,rfl,d,e⟩
 ·intro q a;cases x<;>first | (simp[iw]at a;done) | cases h
 intro q a;simp[iw]at a;subst a;exact⟨_,d⟩
def F2.live{g:cb}{R:AV->AV->Prop}{f:AV->List Ref}(d : ∀x y,R x y ->∀q∈f x,∃b,g q=some b) : ∀ {c ys:List AV},F2 R c ys ->∀q∈c.flatMap f,∃b,g q=some b
 | [],[],_,q,a=>by simp at a
 | x :: c,y :: ys,e,q,a=>by
  rw[kY,jG]at a;rcases a with a | a
  ·exact d x y e.1 q a
  exact F2.live d e.2 q a
 | [],_ :: _,h,_,_=>h.elim
 | _ :: _,[],h,_,_=>h.elim
def DE.live{g:cb}{x y:AV}(h:DE g x y) : ∀q∈eE x,∃b,g q=some b:=by
 obtain⟨xs,ys,rfl,rfl,h⟩:=h;exact F2.live (λx y a=>DC.live a) h
def pn(z:Nat)(H:ab)(s:AV)(es':List AV)(rs:List Ref):Prop:=
 (s = .v (.slice none 0 0)/\es'=[]/\rs=[])\/(∃r,s = .bO r 0 0 (some 0)/\es'=[]/\rs=[r]/\H.get r=some ⟨z,[],true,false⟩) \/
 ∃r es,s = .dsl r 0 es.length none/\es≠[]/\H.get r=some ⟨z,es,false,false⟩/\F2 (DE H.get) es es'/\rs=r :: es.flatMap eE/\rs.Nodup
def Kd(z:Nat)(es':List AV)(y:AV):Prop:=(y = .v (.slice none 0 0)/\es'=[])\/(y = .fsl z [] (some 0)/\es'=[])\/(y = .nsl z es' none/\es'≠[])
def zi(z:Nat)(s:AV)(es':List AV):AV:=match s with
 | .bO _ _ _ c => .fsl z [] c
 | .dsl _ _ _ c => .nsl z es' c
 | s=>s
def Ce:AV->AV
 | .fsl z l c => .cC z l c
 | .nsl z es c => .cC z (es.map yF) c
 | x=>x
def pn.bF{z:Nat}{H H':ab}{s:AV}{es':List AV}{rs:List Ref}(h:pn z H s es' rs)(e : ∀q∈rs,∀b,H.get q=some b->H'.get q=some b):pn z H' s es' rs:=by
 rcases h with h | ⟨r,c,d,rfl,a⟩ | ⟨r,es,c,d,k,a,rfl,f⟩
 ·exact .inl h
 ·exact .inr (.inl ⟨r,c,d,rfl,e r (by simp) _ a⟩)
 exact .inr (.inr ⟨r,es,c,d,e r (by simp) _ k,F2.mono (λx i y l=>DE.bF l λq j b g=>e q (by simp only[dG,eW];exact .inr ⟨x,i,j⟩) b g) a,rfl,f⟩)
def pn.live{z:Nat}{H:ab}{s:AV}{es':List AV}{rs:List Ref}(h:pn z H s es' rs) : ∀q∈rs,∃b,H.get q=some b:=by
 rcases h with ⟨_,_,rfl⟩ | ⟨r,d,f,rfl,c⟩ | ⟨r,es,d,f,e,c,rfl,i⟩
 ·intro q a;cases a
 ·intro q a;simp at a;subst a;exact⟨_,c⟩
 intro q a;rcases dG.1 a with rfl | a
 ·exact⟨_,e⟩
 exact F2.live (λx y g=>DE.live g) c q a
def pn.nodup{z:Nat}{H:ab}{s:AV}{es':List AV}{rs:List Ref}(h:pn z H s es' rs):rs.Nodup:=by
 rcases h with ⟨_,_,rfl⟩ | ⟨r,b,d,rfl,a⟩ | ⟨r,es,b,d,e,a,rfl,c⟩
 ·simp
 ·simp
 exact c
def pn.out{z:Nat}{H:ab}{s:AV}{es':List AV}{rs:List Ref}(h:pn z H s es' rs)(n:Nat) :
 bK H.get (n+3) s=some (zi z s es')/\view H.get (n+3) s=some (Ce (zi z s es'))/\ad H.get (n+3) s=rs/\Kd z es' (zi z s es'):=by
 rcases h with ⟨rfl,rfl,rfl⟩ | ⟨r,rfl,rfl,rfl,a⟩ | ⟨r,es,rfl,p,i,a,rfl,q⟩
 ·exact⟨rfl,rfl,rfl,.inl ⟨rfl,rfl⟩⟩
 ·refine⟨?_,?_,rfl,.inr (.inl ⟨rfl,rfl⟩)⟩;·simp[bK,a,zi]
  simp[view,a,zi,Ce]
 have d:=a.len;have j:es'≠[]:=(by intro e;rw[e]at d;exact p (wc.1 d));have m:=F2.mapM (R:=DE H.get) (f:=bK H.get (n+2)) (h:=id) (λx y c=>DE.export c n) a;have k:=F2.mapM (R:=DE H.get) (f:=Ab.view H.get (n+2)) (h:=yF) (λx y c=>DE.view c n) a;have o:=F2.refs (g:=H.get) (R:=DE H.get) (f:=ad H.get (n+2)) (h:=eE) (λx y c=>DE.refs c n) a;refine⟨?_,?_,?_,.inr (.inr ⟨rfl,j⟩)⟩
 ·show(match H.get r with
   | some b=>if b.arr=false/\es.length=b.es.length then (if b.fI then (b.es.mapM (view H.get (n+2))).map λes=>AV.cC b.esz es none else (b.es.mapM (bK H.get (n+2))).map λes=>AV.nsl b.esz es none) else none
   | none=>none)=_
  rw[i];simp only[m];simp[zi]
 ·show(match H.get r with
   | some b=>if b.arr=false/\0+es.length<=b.es.length then (b.es.mapM (view H.get (n+2))).map λ(l:List AV)=>AV.cC b.esz ((l.drop 0).take es.length) none else none
   | none=>none)=_
  rw[i];simp only[k];simp[zi,Ce];rw[d,show es'.length=(es'.map yF).length from(GA _).symm,Bd]
 show(r :: (match H.get r with | some b=>b.es.flatMap (ad H.get (n+2)) | none=>[]))=_;rw[i];simp only[o]
def pn.len{z:Nat}{H:ab}{s:AV}{es':List AV}{rs:List Ref}(h:pn z H s es' rs):pz s=some es'.length:=by
 rcases h with ⟨rfl,rfl,rfl⟩ | ⟨r,rfl,rfl,rfl,a⟩ | ⟨r,es,rfl,d,c,a,rfl,b⟩
 ·rfl
 ·rfl
 simp[pz,a.len]
def At(g:cb)(r:Ref)(k:Nat)(bs:List aP):Prop :=∀i b,bs[i]?=some b->g { r with k:=k+i}=some b
def Ss{g:cb}{r:Ref}{k:Nat}{a bs:List aP}(h:At g r k (a++bs)):At g r k a:=λi b hi=>h i b (by rw[iB (dB.1 hi).1];exact hi)
def Sr{g:cb}{r:Ref}{k:Nat}{a bs:List aP}(h:At g r k (a++bs)):At g r (k+a.length) bs:=λi b hi=>by
 have:=h (a.length+i) b (by rw[hY (by omega),show a.length+i - a.length=i by omega];exact hi);rw[Dj];exact this
def px(r:Ref)(k n:Nat):List Ref:=(List.range' k n).map λk => { r with k:=k}
def FR(r:Ref)(k m n:Nat):px r k m++px r (k+m) n=px r k (m+n):=by
 unfold px;rw[<-xg];congr 1;have:=List.range'_append (s:=k) (m:=m) (n:=n) (step:=1);simpa using this
def IT(r:Ref)(k n:Nat):(px r k n).Nodup:=by
 unfold px;rw[List.nodup_iff_pairwise_ne,List.pairwise_map];refine List.Pairwise.imp ?_ (List.nodup_iff_pairwise_ne.1 (List.nodup_range' (s:=k) (n:=n)));intro a b h e;exact h (iQh Ref.k e)
def F4{r q:Ref}{k n:Nat}(h:q∈px r k n):q.d=r.d/\q.t=r.t/\q.g=r.g/\k<=q.k/\q.k<k+n:=by
 unfold px at h;obtain⟨i,hi,rfl⟩:=lX.1 h;have:=List.mem_range'_1.1 hi;exact⟨rfl,rfl,rfl,this.1,this.2⟩
def Imp(R:cb->AV->AV->Prop)(rf:AV->List Ref)(r:Ref)(n:Nat)(y:AV):Prop :=∀bs,∃x add,ae r n y bs=(x,bs++add)/\(∀g,At g r bs.length add->R g x y)/\rf x=px r bs.length add.length
def Jq{R:cb->AV->AV->Prop}{rf:AV->List Ref}{r:Ref}{n:Nat} : ∀(ys:List AV),(∀y∈ys,Imp R rf r n y) ->∀(a:List AV)(bs:List aP),
 ∃b add,ys.foldl (λ(p:List AV × List aP) c=>let (y,bs):=ae r n c p.2;(p.1++[y],bs)) (a,bs)=(a++b,bs++add)/\(∀g,At g r bs.length add->F2 (R g) b ys)/\b.flatMap rf=px r bs.length add.length:=by
 intro ys;induction ys with
 | nil=>intro _ a bs;exact⟨[],[],by simp,λg _=>trivial,by simp[px]⟩
 | cons y ys m=>
  intro h a bs;obtain⟨x,d,f,k,l⟩:=h y (by simp) bs;obtain⟨b,j,f1,f2,f3⟩:=m (λy i=>h y (by simp[i])) (a++[x]) (bs++d);refine⟨x :: b,d++j,?_,λg e=>⟨k g (Ss e),f2 g ?_⟩,?_⟩;·simp only[sG,f,f1];simp
  ·have:=Sr e;rw[eS];exact this
  rw[kY,l,f3,eS,FR,eS]
def Xm:AV->Bool
 | .v _ | .cC .. => true
 | .fsl z _ _=>z != 0
 | _=>false
def OQ:AV->Bool
 | .agg ys=>ys.all Xm
 | _=>false
def Um{y:AV}(h:Xm y=true)(r:Ref)(n:Nat):Imp DC iw r (n+1) y:=by
 intro bs;cases y<;>first | cases h | skip
 ·exact⟨_,[],by simp[ae],λg _ => .inl ⟨rfl,rfl⟩,by simp[px,iw]⟩
 ·exact⟨_,[],by simp[ae],λg _ => .inl ⟨rfl,rfl⟩,by simp[px,iw]⟩
 rename_i z l c;have a:z≠0:=by simpa [Xm] using h
 refine⟨.bO { r with k:=bs.length} 0 l.length c,[⟨z,l,true,false⟩],by simp[ae,a],λg b => .inr ⟨_,z,l,c,rfl,rfl,?_,a⟩,by simp[px,iw]⟩;have:=b 0 _ rfl;simpa using this
def Ul{y:AV}(h:OQ y=true)(r:Ref)(n:Nat):Imp DE eE r (n+2) y:=by
 intro bs;cases y<;>first | cases h | skip
 rename_i ys;obtain⟨xs,add,a,f,b⟩:=Jq (R:=DC) (rf:=iw) (r:=r) (n:=n+1) ys (λy d=>Um (eC.1 h y d) r n) [] bs;refine⟨.agg xs,add,?_,λg i=>⟨xs,ys,rfl,rfl,f g i⟩,b⟩;have e:ae r (n+2) (.agg ys) bs=(λp:List AV × List aP=>(AV.agg p.1,p.2)) (ys.foldl (λ(p:List AV × List aP) c=>let (y,bs):=ae r (n+1) c p.2;(p.1++[y],bs)) ([],bs)):=rfl;rw[e,a];rfl
def Kd.imp{z:Nat}{es':List AV}{y:AV}(i:z≠0)(h:Kd z es' y)(o : ∀e∈es',OQ e=true)(r:Ref)(n:Nat)(bs:List aP) :
 ∃s add,ae r (n+3) y bs=(s,bs++add)/\(∀H:ab,At H.get r bs.length add ->∃rs,pn z H s es' rs/\(∀q∈rs,q∈px r bs.length add.length)/\zi z s es'=y):=by
 rcases h with ⟨rfl,rfl⟩ | ⟨rfl,rfl⟩ | ⟨rfl,f⟩
 ·exact⟨_,[],by simp[ae],λH _=>⟨[],.inl ⟨rfl,rfl,rfl⟩,(λq a=>by cases a),rfl⟩⟩
 ·refine⟨.bO { r with k:=bs.length} 0 0 (some 0),[⟨z,[],true,false⟩],by simp[ae,i],λH b=>⟨[{ r with k:=bs.length}],.inr (.inl ⟨_,rfl,rfl,rfl,by simpa using b 0 _ rfl⟩),λq a=>?_,rfl⟩⟩;simpa [px] using a
 obtain⟨xs,add,t,u,j⟩:=Jq (R:=DE) (rf:=eE) (r:=r) (n:=n+2) es' (λy l=>Ul (o y l) r n) [] bs;refine⟨.dsl { r with k:=bs.length+add.length} 0 es'.length none,add++[⟨z,xs,false,false⟩],?_,λH b=>?_⟩;·have e:ae r (n+3) (.nsl z es' none) bs=(λp:List AV × List aP=>(AV.dsl { r with k:=p.2.length} 0 es'.length none,p.2++[⟨z,p.1,false,false⟩])) (es'.foldl (λ(p:List AV × List aP) c=>let (y,bs):=ae r (n+2) c p.2;(p.1++[y],bs)) ([],bs)):=rfl;rw[e,t];simp
 have g:=u H.get (Ss b);have d:=g.len;have m:=Sr b 0 _ rfl;refine⟨{ r with k:=bs.length+add.length} :: px r bs.length add.length,.inr (.inr ⟨_,xs,by rw[d],?_,by simpa using m,g,by rw[j],?_⟩),λq a=>?_,rfl⟩;·intro e;rw[e]at d;exact f (wc.1 d.symm)
 ·refine wY.2 ⟨λv=>?_,IT _ _ _⟩;have:=(F4 v).2.2.2.2;simp only at this;omega
 rw[eS,C9,<-FR];rcases dG.1 a with rfl | a
 ·simp[px]
 simp[a]
def j2(z:Nat)(H:ab)(r:Ref)(es':List AV)(rs:List Ref):Prop :=∃es,H.get r=some ⟨z,es,false,false⟩/\F2 (DE H.get) es es'/\rs=r :: es.flatMap eE/\rs.Nodup
def j2.row{z:Nat}{H:ab}{r:Ref}{es':List AV}{rs:List Ref}(h:j2 z H r es' rs)(a:es'≠[]):pn z H (.dsl r 0 es'.length none) es' rs:=by
 obtain⟨es,f,c,g,d⟩:=h;have b:=c.len;exact .inr (.inr ⟨r,es,by rw[b],λe=>a (wc.1 (by rw[<-b,e];rfl)),f,c,g,d⟩)
def j2.bF{z:Nat}{H H':ab}{r:Ref}{es':List AV}{rs:List Ref}(h:j2 z H r es' rs)(a : ∀q∈rs,∀b,H.get q=some b->H'.get q=some b):j2 z H' r es' rs:=by
 obtain⟨es,i,c,rfl,d⟩:=h;exact⟨es,a r (by simp) _ i,F2.mono (λx f y j=>DE.bF j λq g b e=>a q (by simp only[dG,eW];exact .inr ⟨x,f,g⟩) b e) c,rfl,d⟩
def j2.live{z:Nat}{H:ab}{r:Ref}{es':List AV}{rs:List Ref}(h:j2 z H r es' rs) : ∀q∈rs,∃b,H.get q=some b:=by
 obtain⟨es,d,c,rfl,f⟩:=h;intro q a;rcases dG.1 a with rfl | a
 ·exact⟨_,d⟩
 exact F2.live (λx y e=>DE.live e) c q a
def Q7{g:cb}{ys:List AV}(h:ys.all pP=true):DE g (.agg ys) (.agg ys):=by
 refine⟨ys,ys,rfl,rfl,?_⟩;induction ys with
 | nil=>trivial
 | cons y ys a=>simp only[uU,bD]at h;exact⟨.inl ⟨rfl,h.1⟩,a h.2⟩
def OA{ys:List AV}(h:ys.all pP=true):eE (.agg ys)=[]:=by
 show ys.flatMap iw=[];induction ys with
 | nil=>rfl
 | cons y ys a=>simp only[uU,bD]at h;rw[kY,a h.2];cases y<;>first | rfl | (exact absurd h.1 (by simp[pP]))
def Q6{g:cb}{es:List AV}(h : ∀e∈es,∃ys,e = .agg ys/\ys.all pP=true):F2 (DE g) es es/\es.flatMap eE=[]:=by
 induction es with| nil=>exact⟨trivial,rfl⟩| cons e es c=>obtain⟨ys,rfl,a⟩:=h e (by simp);obtain⟨b,d⟩:=c λe f=>h e (by simp[f]);exact⟨⟨Q7 a,b⟩,by rw[kY,d,OA a];rfl⟩
def ui{b:Type}{l:List b}{i:Nat}{a:b}(h:l[i]?=some a):l=l.take i++a :: l.drop (i+1):=by
 obtain⟨hi,rfl⟩:=dB.1 h;rw[<-Ku hi,mA]
def Ca{A B a:List AV}{i j:Nat}{v:AV}(hi:A.length=i)(b:j<a.length):eA (A ++ .agg a :: B) i j [v]=some (A ++ .agg (patch a j [v]) :: B):=by
 subst hi;unfold eA;rw[hY (aV _),sD];simp only[GO,sX,C9];rw[if_pos (by omega)];simp only[C8 _ _ (aV _),sD,yX,Option.map_some]
def uw{a X2:List AV}{x v:AV}{j:Nat}(h:a.length=j):patch (a++x :: X2) j [v]=a++v :: X2:=by
 subst h;simp[patch]
def j2.at{z:Nat}{H:ab}{r:Ref}{es':List AV}{rs:List Ref}(h:j2 z H r es' rs){i:Nat}{ys:List AV}(hi:es'[i]?=some (.agg ys)) :
 ∃es a,H.get r=some ⟨z,es,false,false⟩/\es.length=es'.length/\es[i]?=some (.agg a)/\F2 (DC H.get) a ys /\∀q∈a.flatMap iw,q∈rs:=by
 obtain⟨es,f,c,d,l⟩:=h;obtain⟨x,b,a,g,rfl,e,j⟩:=c.at hi;cases e;refine⟨es,a,f,c.len,b,j,λq k=>?_⟩;rw[d];simp only[dG,eW];exact .inr ⟨_,dk b,by simpa [eE] using k⟩
def j2.set{z:Nat}{H:ab}{r:Ref}{es':List AV}{rs:List Ref}(h:j2 z H r es' rs){i j:Nat}{ys:List AV}(hi:es'[i]?=some (.agg ys))(hj:j<ys.length){q:Ref}(P:H.get q=none)(u:Nat)(Z:u≠0)(l:List AV)(c:Option Nat) :
 ∃es G,H.get r=some ⟨z,es,false,false⟩/\es.length=es'.length/\eA es i j [.bO q 0 l.length c]=some G /\
  ∀H':ab,H'.get r=some ⟨z,G,false,false⟩->H'.get q=some ⟨u,l,true,false⟩->(∀p b,p≠r->H.get p=some b->H'.get p=some b) ->
   ∃F,j2 z H' r (es'.set i (.agg (patch ys j [.fsl u l c]))) F /\∀p∈F,p∈rs\/p=q:=by
 have o:=h.live;obtain⟨es,X,Y,L,v⟩:=h;have O:=ui hi;have hil:i<es'.length:=(dB.1 hi).1;have k:(es'.take i).length=i:=by rw[kp];omega
 generalize es'.take i=A' at *;generalize es'.drop (i+1)=B' at *;subst O;obtain⟨A,C,rfl,V,Q⟩:=F2.split Y;match C,Q with
 | x :: B,Q=>
 obtain⟨⟨xs,ys',rfl,e,hX⟩,hB⟩:=Q;cases e;have R:A.length=i:=by rw[V.len,k]
 obtain⟨y,hy⟩ : ∃y,ys[j]?=some y:=⟨_,dh hj⟩;have U:=ui hy;have D:(ys.take j).length=j:=by rw[kp];omega
 generalize ys.take j=Y1 at *;generalize ys.drop (j+1)=Y2 at *;subst U;obtain⟨f,X3,rfl,I,s⟩:=F2.split hX;match X3,s with
 | M :: X2,s=>
 have E:f.length=j:=by rw[I.len,D]
 refine⟨_,_,X,Y.len,Ca R (by simp;omega),λH' W g2 g3=>?_⟩;rw[uw E]at W;have J:(A' ++ .agg (Y1++y :: Y2) :: B').set i (.agg (patch (Y1++y :: Y2) j [.fsl u l c]))=A' ++ .agg (Y1 ++ .fsl u l c :: Y2) :: B':=by
  rw[uw D,C8 _ _ (by omega),k,sD,yX]
 rw[J];have d : ∀p,p∈A.flatMap eE\/p∈f.flatMap iw\/p∈X2.flatMap iw\/p∈B.flatMap eE->p∈rs/\p≠r:=by
  intro p hp;have:p∈(A ++ .agg (f++M :: X2) :: B).flatMap eE:=by
   simp only[zM,kY,jG,eE];rcases hp with hp | hp | hp | hp
   ·exact .inl hp
   ·exact .inr (.inl (.inl hp))
   ·exact .inr (.inl (.inr (.inr hp)))
   exact .inr (.inr hp)
  rw[L]at v;exact⟨by rw[L];exact iR _ this,λe=>(wY.1 v).1 (e ▸ this)⟩
 have K : ∀p,p∈A.flatMap eE\/p∈f.flatMap iw\/p∈X2.flatMap iw\/p∈B.flatMap eE ->∀b,H.get p=some b->H'.get p=some b:=λp hp b g=>g3 p b (d p hp).2 g;have T:q≠r:=by
  intro e;rw[e,X]at P;cases P
 refine⟨r :: (A ++ .agg (f ++ .bO q 0 l.length c :: X2) :: B).flatMap eE,⟨_,W,?_,rfl,?_⟩,?_⟩;·refine F2.app (F2.mono (λx n y t=>DE.bF t λp hp b g=>K p (.inl (eW.2 ⟨x,n,hp⟩)) b g) V) ⟨⟨_,_,rfl,rfl,F2.app (F2.mono (λx n y t=>DC.bF t λp hp b g=>K p (.inr (.inl (eW.2 ⟨x,n,hp⟩))) b g) I) ⟨.inr ⟨q,u,l,c,rfl,rfl,g2,Z⟩,F2.mono (λx n y t=>DC.bF t λp hp b g=>K p (.inr (.inr (.inl (eW.2 ⟨x,n,hp⟩)))) b g) s.2⟩⟩,F2.mono (λx n y t=>DE.bF t λp hp b g=>K p (.inr (.inr (.inr (eW.2 ⟨x,n,hp⟩)))) b g) hB⟩
 ·rw[L]at v;have e1:(A ++ .agg (f++M :: X2) :: B).flatMap eE=A.flatMap eE++(f.flatMap iw++(iw M++(X2.flatMap iw++B.flatMap eE))):=by simp[eE,zM,kY]
  have S:(A ++ .agg (f ++ .bO q 0 l.length c :: X2) :: B).flatMap eE=A.flatMap eE++(f.flatMap iw++(q :: (X2.flatMap iw++B.flatMap eE))):=(by simp[eE,zM,kY,iw]);rw[e1]at v;rw[S];have w:(r :: (A.flatMap eE++(f.flatMap iw++(X2.flatMap iw++B.flatMap eE)))).Sublist (r :: (A.flatMap eE++(f.flatMap iw++(iw M++(X2.flatMap iw++B.flatMap eE))))):=
   List.Sublist.cons_cons _ (iQR (List.Sublist.refl _) (iQR (List.Sublist.refl _) (iQz _ _)))
  have hn:=v.sublist w;have m:(r :: (A.flatMap eE++(f.flatMap iw++(q :: (X2.flatMap iw++B.flatMap eE))))).Perm (q :: (r :: (A.flatMap eE++(f.flatMap iw++(X2.flatMap iw++B.flatMap eE))))):=(by have:=List.perm_middle (a:=q) (l₁:=r :: (A.flatMap eE++f.flatMap iw)) (l₂:=X2.flatMap iw++B.flatMap eE);simpa [il] using this);refine m.nodup_iff.2 (wY.2 ⟨λN=>?_,hn⟩);rcases dG.1 N with rfl | N
  ·exact T rfl
  have:q∈rs:=(d q (by simp only[jG]at N;exact N)).1;obtain⟨b,g⟩:=o q this;rw[P]at g;cases g
 intro p hp;rcases dG.1 hp with rfl | hp
 ·exact .inl (by rw[L];simp)
 have S:(A ++ .agg (f ++ .bO q 0 l.length c :: X2) :: B).flatMap eE=A.flatMap eE++(f.flatMap iw++(q :: (X2.flatMap iw++B.flatMap eE))):=(by simp[eE,zM,kY,iw]);rw[S]at hp;simp only[jG,dG]at hp;rcases hp with hp | hp | hp | hp | hp
 ·exact .inl (d p (.inl hp)).1
 ·exact .inl (d p (.inr (.inl hp))).1
 ·exact .inr hp
 ·exact .inl (d p (.inr (.inr (.inl hp)))).1
 exact .inl (d p (.inr (.inr (.inr hp)))).1
@[simp] def Pt{P:Program}{t:TypeId}(h:qF P t=true)(g:cb)(r:Ref)(o n:Nat)(c:Option Nat)(d:IntKind)(k:Int) :
 bI P g t (some (.dsl r o n c)) (some (.v (.int d k)))=Xn (lO P t) o n k r (g r):=by
 unfold qF at h;obtain⟨e,zz,a,b,p,f,l,i,m,j⟩:=fx h;simp only[bI,cR,intOf,a,b];cases g r<;>rfl
@[simp] def YI(r:Ref)(o n:Nat)(c:Option Nat):pz (.dsl r o n c)=some n:=id rfl
@[simp] def Y9(r:Ref)(o n:Nat)(c:Option Nat):(AV.dsl r o n c).cells=[.dsl r o n c]:=id rfl
@[simp] def acb(r:Ref)(o n:Nat)(c:Option Nat):(AV.dsl r o n c).one=true:=id rfl
def lpO(o:Option aP):Option (Nat × AV):=match o with
 | some ⟨0,[.v (.int .i64 st),inf],_,_⟩=>some (st.toNat,inf)
 | _=>none
def yh(H:ab)(r:Ref):vF H r=lpO (H.get r):=rfl
@[simp] def Av(st:Nat)(a:AV):lpO (some (eu st a))=some (st,a):=by
 simp[lpO,eu]
def Sk(a:AV)(K:AV->Prop)(m:Mk K):bgP (some (0,a)) K m↔K a:=by
 constructor;·rintro⟨info,e,h⟩;simp only[du,tM,iQs]at e;subst e;exact h
 intro h;exact⟨a,rfl,h⟩
attribute [simp] Sk
def Rx(H:ab)(r:Ref)(st:Nat)(a:AV):vF (H.put r (some (eu st a))) r=some (st,a):=by
 rw[yh,ab.get_put,if_pos rfl,Av]
def OO{E:Env}{fn:Func}{dep nt:Nat}{r:Ref}{f:FuncId}{ps:List Tmp}{assign body:Code}{tm:List AV}{args:List AV}{H:ab}{Q:AV->ab->Prop}
 (k:H.get r=some (eu 0 (.lp f nt ps assign body tm))) (b:fn.ntmps=nt) (hp:args.length=ps.length) (c:ps.all (· < nt)=true) (e:codeOk E.ok assign=true) (d:codeOk E.ok body=true)
 (h:Goes E fn (some r) (dep+1) [.code assign,.beginRound,.code body] (dc (tj tm ps args)) H λx H'=>x = .v (.int .i64 0) /\∃a,H'.get r=some (eu 1 a)/\Q (.v (.bool true)) (H'.put r (some (eu 0 a)))) :
 ∃y H',cU E dep (.yld r) args H=some (y,H')/\Q y H':=by
 refine RB (by rw[yh,k];exact Av _ _) b hp c e d ?_;intro tm' j;obtain⟨y,H',⟨rfl,a,i,g⟩,n,b⟩:=h tm' j;exact⟨_,H',⟨0,rfl,a,_,by rw[yh,i];exact Av _ _,rfl,Rx _ _ _ _,λ_=>g,λh=>absurd h (by decide),by decide⟩,n,b⟩
def I9{s:dg}{l:List (Nat × AV)}(h : ∀p∈l,s p.1=p.2):Lo s l=s:=by
 induction l with| nil=>rfl| cons p l b=>
  obtain⟨j,v⟩:=p;funext i;show cond (Nat.beq i j) v (Lo s l i)=s i;rw[b λp hp=>h p (iR _ hp)];cases a:Nat.beq i j with
  | false=>rfl
  | true=>have:=iS a;subst this;exact(h _ (im ..)).symm
@[simp] def U3(r:Ref)(o n:Nat)(c:Option Nat)(y:AV):eA [AV.bO r o n c] 0 0 [y]=some [y]:=id rfl
@[simp] def XY(x:Value)(y:AV):eA [AV.v x] 0 0 [y]=some [y]:=id rfl
def JY{E:Env}(dep:Nat)(H:ab)(r q:Ref)(args:List AV):c9 E true (aK E) (cU E dep) H r (some (.yld q)) args=cU E dep (.yld q) args H:=by
 simp[c9,jR,kj,CT,l8]
def Gq(H H':ab)(refs:List Ref):Prop :=∀q b,H.get q=some b ->∃fz,H'.get q=some { b with fI:=fz}/\(q ∉ refs->fz=b.fI)
def Gq.same{H H':ab}{refs:List Ref}(h:Gq H H' refs){q:Ref}(d:q ∉ refs){b:aP}(c:H.get q=some b):H'.get q=some b:=by
 obtain⟨fz,a,e⟩:=h q b c;rw[a,e d]
def RR(H:ab)(refs:List Ref):Gq H (bQ H refs) refs:=by
 intro q b a;rw[ab.cP];unfold qP;by_cases h:q∈refs;·exact⟨true,by simp[h,a],λc=>absurd h c⟩
 exact⟨b.fI,by simp[h,a],λ_=>rfl⟩
def Po{H:ab}(b:Fr H)(refs:List Ref):Fr (bQ H refs):=by
 intro d t g k a;rw[ab.fM]at a;rw[ab.cP];have:=b d t g k a;unfold qP;split<;>simp[this]
def Gf{o:Option AV}{H:ab}{r:Ref}(E : ∃d t,r=⟨d,t,H.gen d t,0⟩){z:Nat}(B:z≠0){y:AV}{es':List AV}{mk:AV->AV}{n:Nat}{K:AV->ab->Prop}{refs:List Ref}
 (Q:o=some (mk y)) (p : ∀r s bs,ae r (n+3) y []=(s,bs)->ae r depth (mk y) []=(mk s,bs)) (M:Kd z es' y) (hi : ∀e∈es',OQ e=true) (j:Fr H)
 (L : ∀H' s rs,Fr H'->pn z H' s es' rs->Gq H H' refs->(∀q∈rs,H.get q=none)->zi z s es'=y->K (mk s) H') :
 jF (sj true H r refs o) K:=by
 obtain⟨d,t,rfl⟩:=E;obtain⟨s,add,x,A⟩:=M.imp B hi ⟨d,t,H.gen d t,0⟩ n [];have w:=p _ _ _ x;simp only[ko,oq]at x A w;have f : ∀a:ab,Fr a->Gq H a refs->(∀q,H.get q=none->a.get q=none)->(∀d t,a.gen d t=H.gen d t)->K (mk s) (keyed ⟨d,t,H.gen d t,0⟩ 0 add a):=by
  intro a m G S R;have u:At (keyed ⟨d,t,H.gen d t,0⟩ 0 add a).get ⟨d,t,H.gen d t,0⟩ 0 add:=by
   intro i b hi;have v:=(dB.1 hi).1;rw[ab.yj,if_pos ⟨rfl,rfl,rfl,by simp,by simpa using v⟩];simpa using hi
  obtain⟨rs,P,J,F⟩:=A _ u;refine L _ s rs ?_ P (λq b l=>?_) (λq c=>?_) F;·have:=Fr.keyed m add d t;rw[R]at this;exact this
  ·obtain⟨fz,N,D⟩:=G q b l;refine⟨fz,?_,D⟩;rw[ab.yj,if_neg (λh=>?_)];·exact N
   have:=j q.d q.t q.g q.k (by rw[h.1,h.2.1,h.2.2.1];exact aV _);rw[show(⟨q.d,q.t,q.g,q.k⟩:Ref)=q from rfl,l]at this;cases this
  obtain⟨C,O,I,_⟩:=F4 (J q c);exact j q.d q.t q.g q.k (by rw[C,O,I];exact aV _)
 subst Q;simp only[sj,w];split;·exact jd rfl (f H j (λq b l=>⟨b.fI,l,λ_=>rfl⟩) (λq c=>c) λ_ _=>rfl)
 refine jd rfl (f (bQ H refs) (Po j refs) (RR H refs) (λq c=>?_) λd t=>ab.fM _ _ _ _);rw[ab.cP];unfold qP;split<;>simp[c]
structure wR where
 z:Nat
 s:AV
 es:List AV
 rs:List Ref
structure sv (H:ab) (fs:List (Ref × aP)) (rows:List wR):Prop where
 fr:Fr H
 has : ∀p∈fs,H.get p.1=some p.2
 nd:(fs.map (·.1)).Nodup
 row : ∀t∈rows,pn t.z H t.s t.es t.rs
 sep : ∀t∈rows,∀p∈fs,p.1 ∉ t.rs
 dis:rows.Pairwise λt u =>∀q∈t.rs,q ∉ u.rs
def sv.nil:sv [] [] []:=⟨Fr.nil,by simp,by simp,by simp,by simp,List.Pairwise.nil⟩
def sv.grow{H H':ab}{fs:List (Ref × aP)}{rows:List wR}(h:sv H fs rows)(e:Fr H')(a : ∀q b,H.get q=some b->H'.get q=some b):sv H' fs rows:=
 ⟨e,λp hp=>a _ _ (h.has p hp),h.nd,λt c=>(h.row t c).bF λq _ b d=>a q b d,h.sep,h.dis⟩
def sv.add{H:ab}{fs:List (Ref × aP)}{rows:List wR}(h:sv H fs rows){r:Ref}{b:aP}(d:H.get r=some b)(c : ∀p∈fs,p.1≠r)(f : ∀t∈rows,r ∉ t.rs):sv H ((r,b) :: fs) rows:=
 ⟨h.fr,λp hp=>(dG.1 hp).elim (λe=>by rw[e];exact d) (h.has p),wY.2 ⟨λg=>by obtain⟨p,hp,e⟩:=lX.1 g;exact c p hp e,h.nd⟩,h.row,λt a p hp=>(dG.1 hp).elim (λe=>by rw[e];exact f t a) (h.sep t a p),h.dis⟩
def sv.sub{H:ab}{fs a:List (Ref × aP)}{rows:List wR}(h:sv H fs rows)(b:a.Sublist fs):sv H a rows:=
 ⟨h.fr,λp hp=>h.has p (b.mem hp),(b.map _).nodup h.nd,h.row,λt c p hp=>h.sep t c p (b.mem hp),h.dis⟩
def sv.live{H:ab}{fs:List (Ref × aP)}{rows:List wR}(h:sv H fs rows){r:Ref}(d:H.get r=none) : ∀t∈rows,r ∉ t.rs:=λt c e=>by
 obtain⟨b,a⟩:=(h.row t c).live r e;rw[d]at a;cases a
def sv.new{H:ab}{fs:List (Ref × aP)}{rows:List wR}(h:sv H fs rows)(d t:Nat)(b:aP):sv ((⟨d,t,H.gen d t,0⟩,some b) :: H) ((⟨d,t,H.gen d t,0⟩,b) :: fs) rows:=by
 have c:H.get ⟨d,t,H.gen d t,0⟩=none:=h.fr d t _ 0 (aV _);refine(h.grow (lF h.fr rfl _) λq f a=>?_).add (by rw[ab.aZ,if_pos rfl]) (λp hp e=>?_) (h.live c);·rw[ab.aZ,if_neg (λe=>by rw[<-e,c]at a;cases a)];exact a
 have:=h.has p hp;rw[e,c]at this;cases this
def sv.call{o:Option AV}{H:ab}{fs:List (Ref × aP)}{rows:List wR}(h:sv H fs rows){r:Ref}(D : ∃d t,r=⟨d,t,H.gen d t,0⟩){z:Nat}(x:z≠0){y:AV}{es':List AV}{mk:AV->AV}{n:Nat}{K:AV->ab->Prop}{refs:List Ref}
 (v : ∀p∈fs,p.1 ∉ refs) (g : ∀t∈rows,∀q∈t.rs,q ∉ refs)
 (E:o=some (mk y)) (i : ∀r s bs,ae r (n+3) y []=(s,bs)->ae r depth (mk y) []=(mk s,bs)) (C:Kd z es' y) (hi : ∀e∈es',OQ e=true)
 (A : ∀H' s rs,sv H' fs (⟨z,s,es',rs⟩ :: rows)->Gq H H' refs->(∀q∈rs,H.get q=none)->zi z s es'=y->K (mk s) H') :
 jF (sj true H r refs o) K:=by
 refine Gf D x E i C hi h.fr λH' s rs B c l j w=>?_;refine A H' s rs ⟨B,λp hp=>l.same (v p hp) (h.has p hp),h.nd,λt a=>?_,λt a p hp=>?_,?_⟩ l j w
 ·rcases dG.1 a with rfl | a
  ·exact c
  exact(h.row t a).bF λq k b f=>l.same (g t a q k) f
 ·rcases dG.1 a with rfl | a
  ·intro m;have:=j _ m;rw[h.has p hp]at this;cases this
  exact h.sep t a p hp
 refine GI.2 ⟨λu F q k m=>?_,h.dis⟩;obtain⟨b,f⟩:=(h.row u F).live q m;rw[j q k]at f;cases f
def sv.Vd{H H':ab}{fs:List (Ref × aP)}{t:wR}{rows:List wR}(h:sv H fs (t :: rows))(f:Fr H')(c : ∀q b,q ∉ t.rs->H.get q=some b->H'.get q=some b):sv H' fs rows:=by
 obtain⟨d1,d2⟩:=GI.1 h.dis;refine⟨f,λp hp=>c _ _ (h.sep t (by simp) p hp) (h.has p hp),h.nd,λu a=>(h.row u (by simp[a])).bF λq e b d=>c q b (λg=>d1 u a q g e) d,λu a p hp=>h.sep u (by simp[a]) p hp,d2⟩
def Ka(fz:Bool)(z:Nat)(es:List AV)(x:AV)(a:List (Ref × aP)):Prop:=(x = .v (.slice none 0 0)/\es=[]/\a=[]) \/∃r,x = .bO r 0 es.length none/\a=[(r,⟨z,es,true,fz⟩)]
def TU(z:Nat)(es:List AV):AV->AV
 | .bO _ _ _ _ => .cC z es none
 | x=>x
def Ka.sl{fz:Bool}{z:Nat}{es:List AV}{x:AV}{a:List (Ref × aP)}(h:Ka fz z es x a):Sl z es (TU z es x):=by
 rcases h with ⟨rfl,rfl,rfl⟩ | ⟨r,rfl,rfl⟩
 ·exact .inl ⟨rfl,rfl⟩
 exact Sl.mk z es
def Ka.seen{fz:Bool}{z:Nat}{es:List AV}{x:AV}{a fs:List (Ref × aP)}{H:ab}{rows:List wR}(h:Ka fz z es x a)(b:sv H fs rows)(c : ∀p∈a,p∈fs):(∀n,view H.get (n+1) x=some (TU z es x))/\(∀n,ad H.get (n+1) x=a.map (·.1))/\x.cells=[x]/\x.one=true:=by
 rcases h with ⟨rfl,rfl,rfl⟩ | ⟨r,rfl,rfl⟩
 ·exact⟨λn=>rfl,λn=>rfl,rfl,rfl⟩
 have:=b.has (r,⟨z,es,true,fz⟩) (c _ (by simp));simp only at this;exact⟨λn=>by simp[view,this,TU],λn=>by simp[ad,this],rfl,rfl⟩
def sv.ne{H:ab}{fs:List (Ref × aP)}{rows:List wR}(h:sv H fs rows){r q:Ref}{b c:aP}(i:(r,b)∈fs)(g:(q,c)∈fs)(a:b≠c):r≠q:=λe=>by
 have f:=h.has _ i;have d:=h.has _ g;simp only[e]at f d;rw[f]at d;exact a (Kg d)
def sv.aa5{o:Option AV}{H:ab}{fs b:List (Ref × aP)}{rows:List wR}{l:Nat}{a:List AV}{F:AV}{j:Bool}(w:Ka j l a F b)(h:sv H (b++fs) rows){r:Ref}(I : ∃d t,r=⟨d,t,H.gen d t,0⟩){z:Nat}(G:z≠0){y:AV}{es':List AV}{mk:AV->AV}{n:Nat}{K:AV->ab->Prop}
 (P:o=some (mk y)) (x : ∀r s bs,ae r (n+3) y []=(s,bs)->ae r depth (mk y) []=(mk s,bs)) (N:Kd z es' y) (hi : ∀e∈es',OQ e=true)
 (E : ∀H' s rs i c,Ka c l a F i->sv H' (i++fs) (⟨z,s,es',rs⟩ :: rows)->zi z s es'=y->K (mk s) H') :
 jF (sj true H r (b.map (·.1)) o) K:=by
 have m:=h.nd;rw[xg]at m;have g : ∀p∈fs,p.1 ∉ b.map (·.1):=λp hp k=>(yW.1 m).2.2 _ k _ (iQS (f:=λp:Ref × aP=>p.1) hp) rfl;refine(h.sub (iQz _ _)).call I G g (λt u q L k=>?_) P x N hi λH' s rs D M J C=>?_;·obtain⟨p,hp,e⟩:=lX.1 k;exact h.sep t u p (B0 _ hp) (by rw[e];exact L)
 rcases w with ⟨A,Q,rfl⟩ | ⟨v,A,rfl⟩
 ·exact E H' s rs [] false (.inl ⟨A,Q,rfl⟩) D C
 have B:=h.has (v,⟨l,a,true,j⟩) (by simp);obtain⟨c,O,_⟩:=M _ _ B;refine E H' s rs [(v,⟨l,a,true,c⟩)] c (.inr ⟨v,A,rfl⟩) (D.add O (λp hp e=>g p hp (by simp[e])) λt u k=>?_) C;rcases dG.1 u with rfl | u
 ·have:=J _ k;simp only at B;rw[B]at this;cases this
 exact h.sep t u (v,⟨l,a,true,j⟩) (by simp) k
def j2.acX{z:Nat}{H:ab}{r:Ref}{es':List AV}{rs:List Ref}(h:j2 z H r es' rs){i j:Nat}{ys:List AV}(hi:es'[i]?=some (.agg ys)){d:Nat}{l:List AV}{c:Option Nat}(R:ys[j]?=some (.fsl d l c)) :
 ∃es N q,H.get r=some ⟨z,es,false,false⟩/\es.length=es'.length/\es[i]?=some (.agg N)/\N[j]?=some (.bO q 0 l.length c)/\H.get q=some ⟨d,l,true,false⟩/\q∈rs/\q≠r /\
  ∀m:List AV,m.length=l.length->j2 z (H.put q (some ⟨d,m,true,false⟩)) r (es'.set i (.agg (ys.set j (.fsl d m c)))) rs:=by
 obtain⟨es,V,W,F,J⟩:=h;have I:=ui hi;have hil:i<es'.length:=(dB.1 hi).1;have g:(es'.take i).length=i:=by rw[kp];omega
 generalize es'.take i=A' at *;generalize es'.drop (i+1)=B' at *;subst I;obtain⟨A,C,rfl,T,M⟩:=F2.split W;match C,M with
 | x :: B,M=>
 obtain⟨⟨N,Z,rfl,e,hX⟩,hB⟩:=M;cases e;have O:A.length=i:=by rw[T.len,g]
 have Q:=ui R;have hjl:j<ys.length:=(dB.1 R).1;have w:(ys.take j).length=j:=by rw[kp];omega
 generalize ys.take j=Y1 at *;generalize ys.drop (j+1)=Y2 at *;subst Q;obtain⟨u,X3,rfl,E,s⟩:=F2.split hX;match X3,s with
 | x0 :: X2,s=>
 have D:u.length=j:=by rw[E.len,w]
 obtain⟨K,P⟩:=s;rcases K with ⟨_,hp⟩ | ⟨q,Y,l',c',rfl,e,hq,X⟩
 ·cases hp
 cases e;have S:(A ++ .agg (u ++ .bO q 0 l.length c :: X2) :: B).flatMap eE=A.flatMap eE++(u.flatMap iw++(q :: (X2.flatMap iw++B.flatMap eE))):=by simp[eE,zM,kY,iw]
 rw[S]at F;rw[F]at J;have n:(r :: (A.flatMap eE++(u.flatMap iw++(q :: (X2.flatMap iw++B.flatMap eE))))).Perm (q :: (r :: (A.flatMap eE++(u.flatMap iw++(X2.flatMap iw++B.flatMap eE))))):=by
  have:=List.perm_middle (a:=q) (l₁:=r :: (A.flatMap eE++u.flatMap iw)) (l₂:=X2.flatMap iw++B.flatMap eE);simpa [il] using this
 have k:=(wY.1 (n.nodup_iff.1 J)).1;simp only[dG,jG,not_or]at k;obtain⟨U,n1,n2,n3,n4⟩:=k;refine⟨_,_,q,V,W.len,by rw[hY (by omega),O,sD];rfl,by rw[hY (by omega),D,sD];rfl,hq,by rw[F];simp,U,λm L=>?_⟩;have v : ∀p b,p≠q->H.get p=some b->(H.put q (some ⟨d,m,true,false⟩)).get p=some b:=λp b hp f=>by rw[ab.get_put,if_neg hp];exact f
 have G:(A' ++ .agg (Y1 ++ .fsl d l c :: Y2) :: B').set i (.agg ((Y1 ++ .fsl d l c :: Y2).set j (.fsl d m c)))=A' ++ .agg (Y1 ++ .fsl d m c :: Y2) :: B':=by
  rw[C8 _ _ (by omega),g,sD,yX,C8 _ _ (by omega),w,sD,yX]
 rw[G];refine⟨_,v r _ (λe=>U e.symm) V,?_,by rw[S];exact F,by rw[F];exact J⟩;refine F2.app (F2.mono (λx o y t=>DE.bF t λp hp b f=>v p b (λe=>n1 (by rw[<-e];exact eW.2 ⟨x,o,hp⟩)) f) T) ⟨⟨_,_,rfl,rfl,F2.app (F2.mono (λx o y t=>DC.bF t λp hp b f=>v p b (λe=>n2 (by rw[<-e];exact eW.2 ⟨x,o,hp⟩)) f) E) ⟨.inr ⟨q,d,m,c,by rw[L],rfl,by rw[ab.get_put,if_pos rfl],X⟩,F2.mono (λx o y t=>DC.bF t λp hp b f=>v p b (λe=>n3 (by rw[<-e];exact eW.2 ⟨x,o,hp⟩)) f) P⟩⟩,F2.mono (λx o y t=>DE.bF t λp hp b f=>v p b (λe=>n4 (by rw[<-e];exact eW.2 ⟨x,o,hp⟩)) f) hB⟩
def j2.plain{z:Nat}{H:ab}{r:Ref}{es':List AV}{rs:List Ref}(h:j2 z H r es' rs){i j:Nat}{ys:List AV}(hi:es'[i]?=some (.agg ys)){w:AV}(Q:ys[j]?=some w)(G:pP w=true){v:AV}(S:pP v=true) :
 ∃es o,H.get r=some ⟨z,es,false,false⟩/\es.length=es'.length/\eA es i j [v]=some o/\j2 z (H.put r (some ⟨z,o,false,false⟩)) r (es'.set i (.agg (ys.set j v))) rs:=by
 obtain⟨es,h1,T,M,I⟩:=h;have F:=ui hi;have W:i<es'.length:=(dB.1 hi).1;have d:(es'.take i).length=i:=by rw[kp];omega
 generalize es'.take i=A' at *;generalize es'.drop (i+1)=B' at *;subst F;obtain⟨A,C,rfl,R,L⟩:=F2.split T;match C,L with
 | x :: B,L=>
 obtain⟨⟨xs,V,rfl,e,hX⟩,Y⟩:=L;cases e;have N:A.length=i:=by rw[R.len,d]
 have P:=ui Q;have Z:j<ys.length:=(dB.1 Q).1;have m:(ys.take j).length=j:=by rw[kp];omega
 generalize ys.take j=Y1 at *;generalize ys.drop (j+1)=Y2 at *;subst P;obtain⟨K,X,rfl,q,g⟩:=F2.split hX;match X,g with
 | E :: X2,g=>
 have n:K.length=j:=by rw[q.len,m]
 obtain⟨J,O⟩:=g;have t : ∀u:AV,pP u=true->iw u=[]:=λu hu=>by cases u<;>first | rfl | cases hu
 obtain rfl:E=w:=by
  rcases J with ⟨e,_⟩ | ⟨_,_,_,_,_,e,_⟩
  ·exact e
  rw[e]at G;cases G
 have U:(A ++ .agg (K++E :: X2) :: B).flatMap eE=(A ++ .agg (K++v :: X2) :: B).flatMap eE:=by simp[eE,zM,kY,t _ G,t _ S]
 have s:(A' ++ .agg (Y1++E :: Y2) :: B').set i (.agg ((Y1++E :: Y2).set j v))=A' ++ .agg (Y1++v :: Y2) :: B':=by
  rw[C8 _ _ (by omega),d,sD,yX,C8 _ _ (by omega),m,sD,yX]
 rw[s];rw[M]at I;have l:=(wY.1 I).1;simp only[zM,kY,jG,eE,not_or]at l;obtain⟨n1,⟨n2,n3,n4⟩,n5⟩:=l;have D : ∀p b,p≠r->H.get p=some b ->∀c,(H.put r c).get p=some b:=λp b hp a c=>by rw[ab.get_put,if_neg hp];exact a
 refine⟨_,_,h1,T.len,?_,_,by rw[ab.get_put,if_pos rfl],?_,by rw[<-U];exact M,by rw[M];exact I⟩;·rw[Ca N (by simp;omega),uw n]
 exact F2.app (F2.mono (λx f y k=>DE.bF k λp hp b a=>D p b (λe=>n1 (by rw[<-e];exact eW.2 ⟨x,f,hp⟩)) a _) R) ⟨⟨_,_,rfl,rfl,F2.app (F2.mono (λx f y k=>DC.bF k λp hp b a=>D p b (λe=>n2 (by rw[<-e];exact eW.2 ⟨x,f,hp⟩)) a _) q) ⟨.inl ⟨rfl,S⟩,F2.mono (λx f y k=>DC.bF k λp hp b a=>D p b (λe=>n4 (by rw[<-e];exact eW.2 ⟨x,f,hp⟩)) a _) O⟩⟩,F2.mono (λx f y k=>DE.bF k λp hp b a=>D p b (λe=>n5 (by rw[<-e];exact eW.2 ⟨x,f,hp⟩)) a _) Y⟩
end Go.Ab
namespace Go.Proofs.YtehkjjcdkbcebaaGreat
open Go.Ab
def fns:List FuncId:=[3,5,6,7,8,9,10,11,12,13,14,15,16,17,18,35,36,37,38,39,40,41,42,43,44,45,48,49,57,62,63,64,65,66,67,68,69,70,71,72,73,74,75,76,77,78,79,80,81,82,83,84,85,86,87,88,89,90,92,93,95,96,100,101,105,106,107,108,109,110,111,112,113,114,115,116,117,118,120,121,122,123,126,127,128,129,130,132,133,134,135,136,137,138,139,140,141,142,143,144,145,146,147,148,149,150,151,152,153,154,155]
def bF:List FuncId:=[9,11,36,42,49,86,89,93,101,106,129,130]
def kV:List FuncId:=[18,41,64,65,66,67,70,71,72,73,74,76,77,92,127,128]
def Eu:List (FuncId × List AV × AV):=[]
def Wj:FuncId->List AV->ab->Option (AV × ab):=λf args H=>if f=41 then uJ 17 112 5 7 args H else none
def env:Env:=My (uG Tryz.prog fns bF kV (IA [(78,24,99999),(79,24,99999),(19,13,18),(16,1,77777),(55,1,88888)]) (xj [(49,9,0,[(6,50),(6,54)]),(13,5,4,[(3,2)]),(67,5,4,[(3,2)]),(48,5,4,[(6,2)]),(7,6,0,[(3,5)]),(8,6,0,[(3,5)]),(72,19,0,[(76,82),(76,83),(83,86),(75,77),(77,82),(77,83)]),(15,12,0,[(20,23)]),(52,10,0,[(56,58)]),(14,5,3,[(15,2)]),(35,21,0,[(36,52),(37,52),(38,52),(41,52),(42,52),(43,52),(47,52),(48,52),(49,52)]),(145,8,4,[(148,2)])]) (P3 [(78,24,99999),(79,24,99999),(19,13,18),(16,1,77777),(55,1,88888)]) Eu (λ_=>false) (λ_=>none) Wj Ls) (λ_ _=>none) (Mt [(78,24,99999),(79,24,99999),(19,13,18),(16,1,77777),(55,1,88888)])
@[simp] def bC(b:Bool)(h:ab)(n n2:Nat)(a:List AV)(k:AV->ab->Prop):Prop:=jF (c9 env b (aK env) (cU env 0) h (Ref.mk 0 n (ab.gen h 0 n) 0) (some (AV.fn (Fn.func n2) [] [])) a) k
@[simp] def af(h:ab)(n:Nat)(v:AV)(k:AV->Prop):Prop:=fg (mP env.P (ab.get h) n (some v)) k
@[simp] def aj(n:Nat)(v:AV)(n2:Nat)(k:AV->Prop):Prop:=fg (iy env.P n (some v) n2) k
@[simp] def gr(h:ab)(n n2:Nat)(v:AV)(k:AV->ab->Prop):Prop:=jF (kj h (Ref.mk 0 n (ab.gen h 0 n) 0) (Fp env.P (Ref.mk 0 n (ab.gen h 0 n) 0) n2 (some v))) k
@[simp] def lf(n n2:Nat)(i:Int)(v:AV)(k:AV->Prop):Prop:=fg (bE env.P .add n (Operand.tmp n2) (Operand.const (Value.int IntKind.i64 i)) (some v) (some (AV.v (Value.int IntKind.i64 i)))) k
@[simp] def dy(v a:AV)(k:AV->Prop):Prop:=fg (yJ (some v) (some a) (some (AV.v (Value.bool false)))) k
@[simp] def jo(b:Bool)(h:ab)(n n2:Nat)(a:List AV):=c9 env b (aK env) (cU env 0) h (Ref.mk 0 n (ab.gen h 0 n) 0) (some (AV.fn (Fn.func n2) [] [])) a
@[simp] def aW(h:ab)(n:Nat)(v:AV):=mP env.P (ab.get h) n (some v)
@[simp] def fN(h:ab)(n n2 a:Nat)(v:AV)(k:AV->Prop):Prop:=fg (bM env.P (ab.get h) (Ref.mk 0 n (ab.gen h 0 n) 0) n2 a (some v)) k
@[simp] def bH(h:ab)(n:Nat)(v a:AV)(k:AV->ab->Prop):Prop:=jF (iu env.P h n (some v) (some a)) k
@[simp] def er(h:ab)(n n2:Nat)(v:AV)(k:AV->Prop):Prop:=fg (dX env.P false (ab.get h) (Ref.mk 0 n (ab.gen h 0 n) 0) .len #[n2] [v]) k
@[simp] def cI(v a:AV)(k:AV->Prop):Prop:=fg (yJ (some v) (some (AV.v (Value.bool true))) (some a)) k
@[simp] def fO(h:ab)(n n2:Nat)(k:AV->ab->Prop):Prop:=jF (kj h (Ref.mk 0 n (ab.gen h 0 n) 0) (tn env.P (Ref.mk 0 n (ab.gen h 0 n) 0) n2)) k
@[simp] def fj(h:ab)(n n2 a:Nat)(v b:AV)(k:AV->ab->Prop):Prop:=jF (dK env.P true h (Ref.mk 0 n (ab.gen h 0 n) 0) (some n2) (some a) v b) k
@[simp] def az(n:Nat)(v:AV)(n2:Nat):=iy env.P n (some v) n2
@[simp] def rO(n n2:Nat)(i:Int)(v:AV)(k:AV->Prop):Prop:=fg (bE env.P .neq n (Operand.tmp n2) (Operand.const (Value.int IntKind.i64 i)) (some v) (some (AV.v (Value.int IntKind.i64 i)))) k
@[simp] def fJ(h:ab)(n:Nat)(v a:AV)(k:AV->Prop):Prop:=fg (bI env.P (ab.get h) n (some v) (some a)) k
@[simp] def iA(n n2 a:Nat)(v b:AV):=bE env.P .eql n (Operand.tmp n2) (Operand.tmp a) (some v) (some b)
@[simp] def nj(h:ab)(n:Nat)(v:AV)(i:Int)(k:AV->Prop):Prop:=fg (bI env.P (ab.get h) n (some v) (some (AV.v (Value.int IntKind.i64 i)))) k
@[simp] def kn(n n2 a:Nat)(v b:AV)(k:AV->Prop):Prop:=fg (bE env.P .lss n (Operand.tmp n2) (Operand.tmp a) (some v) (some b)) k
@[simp] def tK(n n2:Nat)(i:Int)(v:AV)(k:AV->Prop):Prop:=fg (bE env.P .rem n (Operand.tmp n2) (Operand.const (Value.int IntKind.i64 i)) (some v) (some (AV.v (Value.int IntKind.i64 i)))) k
@[simp] def vX(n:Nat)(i:Int)(n2:Nat)(v:AV)(k:AV->Prop):Prop:=fg (bE env.P .mul n (Operand.const (Value.int IntKind.i64 i)) (Operand.tmp n2) (some (AV.v (Value.int IntKind.i64 i))) (some v)) k
@[simp] def wV(n n2:Nat)(i:Int)(v:AV)(k:AV->Prop):Prop:=fg (bE env.P .lss n (Operand.tmp n2) (Operand.const (Value.int IntKind.i64 i)) (some v) (some (AV.v (Value.int IntKind.i64 i)))) k
@[simp] def yu(n n2:Nat)(i:Int)(v:AV)(k:AV->Prop):Prop:=fg (bE env.P .gtr n (Operand.tmp n2) (Operand.const (Value.int IntKind.i64 i)) (some v) (some (AV.v (Value.int IntKind.i64 i)))) k
@[simp] def zH(n n2:Nat)(i:Int)(v:AV)(k:AV->Prop):Prop:=fg (bE env.P .quo n (Operand.tmp n2) (Operand.const (Value.int IntKind.i64 i)) (some v) (some (AV.v (Value.int IntKind.i64 i)))) k
@[simp] def zG(n n2:Nat)(i:Int)(v:AV):=bE env.P .gtr n (Operand.tmp n2) (Operand.const (Value.int IntKind.i64 i)) (some v) (some (AV.v (Value.int IntKind.i64 i)))
@[simp] def zF(n n2:Nat)(i:Int)(v:AV):=bE env.P .neq n (Operand.tmp n2) (Operand.const (Value.int IntKind.i64 i)) (some v) (some (AV.v (Value.int IntKind.i64 i)))
@[simp] def cz(v:AV)(k:AV->Prop):Prop:=fg (Bx (some v)) k
@[simp] def sA(h:ab)(n n2 a b:Nat)(v:AV)(k:AV->ab->Prop):Prop:=jF (mn env.P false true h (Ref.mk 0 n (ab.gen h 0 n) 0) n2 a (some [(b,v)])) k
@[simp] def BU(n n2:Nat)(i:Int)(v:AV)(k:AV->Prop):Prop:=fg (bE env.P .eql n (Operand.tmp n2) (Operand.const (Value.int IntKind.i64 i)) (some v) (some (AV.v (Value.int IntKind.i64 i)))) k
@[simp] def rM(n n2 a:Nat)(v b:AV)(k:AV->Prop):Prop:=fg (bE env.P .add n (Operand.tmp n2) (Operand.tmp a) (some v) (some b)) k
@[simp] def ep(v:AV)(n:Nat)(k:AV->Prop):Prop:=fg (qy (some v) n) k
@[simp] def BT(n n2:Nat)(i:Int)(v:AV):=bE env.P .eql n (Operand.tmp n2) (Operand.const (Value.int IntKind.i64 i)) (some v) (some (AV.v (Value.int IntKind.i64 i)))
@[simp] def vW(h:ab)(n n2:Nat)(v:AV):=dX env.P false (ab.get h) (Ref.mk 0 n (ab.gen h 0 n) 0) .len #[n2] [v]
@[simp] def wU(n n2:Nat)(v:AV)(k:AV->Prop):Prop:=fg (bE env.P .eql n (Operand.tmp n2) (.const (.int .u8 1)) (some v) (some (a8 1))) k
@[simp] def wT(n n2:Nat)(v:AV)(k:AV->Prop):Prop:=fg (bE env.P .eql n (Operand.tmp n2) (.const (.int .u8 3)) (some v) (some (a8 3))) k
@[simp] def eO(h:ab)(v:AV)(n:Nat)(k:AV->Prop):Prop:=fg (xq env.P h v n) k
@[simp] def C6(n n2:Nat)(i:Int)(v:AV):=bE env.P .geq n (Operand.tmp n2) (Operand.const (Value.int IntKind.i64 i)) (some v) (some (AV.v (Value.int IntKind.i64 i)))
@[simp] def tJ(h:ab)(n n2 a:Nat)(v:AV):=bM env.P (ab.get h) (Ref.mk 0 n (ab.gen h 0 n) 0) n2 a (some v)
@[simp] def C5(n n2:Nat)(i:Int)(v:AV):=bE env.P .lss n (Operand.tmp n2) (Operand.const (Value.int IntKind.i64 i)) (some v) (some (AV.v (Value.int IntKind.i64 i)))
@[simp] def tI(n n2 a:Nat)(v b:AV)(k:AV->Prop):Prop:=fg (bE env.P .eql n (Operand.tmp n2) (Operand.tmp a) (some v) (some b)) k
@[simp] def Ia(n:Nat)(h:ab)(n2:Nat)(v a:AV)(k:AV->ab->Prop):Prop:=jF (c9 env true (aK env) (cU env (n+1)) h (Ref.mk (n+1) n2 (ab.gen h (n+1) n2) 0) (some (.fn (.func 65) [] [])) [v,a,(.v (.int .i64 3))]) k
@[simp] def FF(n n2:Nat)(i:Int)(v:AV):=bE env.P .leq n (Operand.tmp n2) (Operand.const (Value.int IntKind.i64 i)) (some v) (some (AV.v (Value.int IntKind.i64 i)))
@[simp] def FE(n n2:Nat)(i:Int)(v:AV)(k:AV->Prop):Prop:=fg (bE env.P .geq n (Operand.tmp n2) (Operand.const (Value.int IntKind.i64 i)) (some v) (some (AV.v (Value.int IntKind.i64 i)))) k
@[simp] def FD(h:ab)(n n2 a:Nat)(k:AV->ab->Prop):Prop:=jF (kj h (Ref.mk (n+1) n2 (ab.gen h (n+1) n2) 0) (tn env.P (Ref.mk (n+1) n2 (ab.gen h (n+1) n2) 0) a)) k
@[simp] def lG(n:Nat)(k:AV->Prop):Prop:=fg (lz env.P n (some [])) k
@[simp] def cf(v:AV):=ik (some v)
@[simp] def FC(h:ab)(n n2 a:Nat)(v:AV)(k:AV->Prop):Prop:=fg (dX env.P false (ab.get h) (Ref.mk (n+1) n2 (ab.gen h (n+1) n2) 0) .len #[a] [v]) k
@[simp] def Mo(n n2:Nat)(i:Int)(v:AV)(k:AV->Prop):Prop:=fg (bE env.P .sub n (Operand.tmp n2) (Operand.const (Value.int IntKind.i64 i)) (some v) (some (AV.v (Value.int IntKind.i64 i)))) k
@[simp] def oS(v:AV)(k:AV->Prop):Prop:=fg (Vm env.P .not (some v)) k
@[simp] def PE(n n2:Nat)(i a:Int)(k:AV->Prop):Prop:=fg (bE env.P .quo n (Operand.tmp n2) (Operand.const (Value.int IntKind.i64 i)) (some (AV.v (Value.int IntKind.i64 a))) (some (AV.v (Value.int IntKind.i64 i)))) k
@[simp] def PD(n:Nat)(h:ab)(n2:Nat)(v a:AV)(k:AV->ab->Prop):Prop:=jF (c9 env true (aK env) (cU env (n+1)) h (Ref.mk (n+1) n2 (ab.gen h (n+1) n2) 0) (some (.fn (.func 65) [] [])) [v,a,(.v (.int .i64 1))]) k
@[simp] def C4(n n2 a:Nat)(v b:AV)(k:AV->Prop):Prop:=fg (bE env.P .neq n (Operand.tmp n2) (Operand.tmp a) (some v) (some b)) k
@[simp] def HZ(h:ab)(n:Nat)(v a:AV)(k:AV->ab->Prop):Prop:=jF (c9 env true (aK env) (cU env 0) h (Ref.mk 0 n (ab.gen h 0 n) 0) (some v) [a]) k
@[simp] def C3(n n2 a:Nat)(v b:AV)(k:AV->Prop):Prop:=fg (bE env.P .or n (Operand.tmp n2) (Operand.tmp a) (some v) (some b)) k
@[simp] def HY(h:ab)(n n2 a c:Nat)(v:AV)(b:Nat)(d:AV)(f:Nat)(e:AV)(k:AV->ab->Prop):Prop:=jF (mn env.P false true h (Ref.mk 0 n (ab.gen h 0 n) 0) n2 a (some [(c,v),(b,d),(f,e)])) k
@[simp] def Mn(n n2:Nat)(v:AV)(k:AV->Prop):Prop:=fg (bE env.P .eql n (Operand.tmp n2) (.const (.slice none 0 0)) (some v) (some (.v (.slice none 0 0)))) k
@[simp] def HX(n n2:Nat)(v:AV)(k:AV->Prop):Prop:=fg (bE env.P .eql n (Operand.tmp n2) (.const (.int .u8 2)) (some v) (some (a8 2))) k
@[simp] def HW(n n2:Nat)(v:AV)(k:AV->Prop):Prop:=fg (bE env.P .eql n (Operand.tmp n2) (.const (.int .u8 8)) (some v) (some (a8 8))) k
@[simp] def FB(h:ab)(n:Nat)(v:AV)(i:Int)(k:AV->ab->Prop):Prop:=jF (iu env.P h n (some v) (some (AV.v (Value.int IntKind.i64 i)))) k
@[simp] def Mm(h:ab)(n n2 a:Nat)(v:AV)(k:AV->ab->Prop):Prop:=jF (dK env.P true h (Ref.mk 0 n (ab.gen h 0 n) 0) (some n2) (some a) (.v (.slice none 0 0)) v) k
@[simp] def Ml(n n2:Nat)(v:AV)(k:AV->Prop):Prop:=fg (bE env.P .shl n (Operand.tmp n2) (.const (.int .u64 8)) (some v) (some (.v (.int .u64 8)))) k
@[simp] def Mj(h:ab)(n:Nat)(v:AV)(k:AV->Prop):Prop:=fg (dm env.P (ab.get h) n (some v) (some none) (oi (.v (.int .i64 5))) (some none)) k
@[simp] def Mi(h:ab)(n n2 a b:Nat)(v:AV)(k:AV->Prop):Prop:=fg (bM env.P (ab.get h) (Ref.mk (n+1) n2 (ab.gen h (n+1) n2) 0) a b (some v)) k
@[simp] def Mh(h:ab)(n n2 a b:Nat)(v c:AV)(k:AV->ab->Prop):Prop:=jF (dK env.P true h (Ref.mk (n+1) n2 (ab.gen h (n+1) n2) 0) (some a) (some b) v c) k
@[simp] def FA(h:ab)(n:Nat)(v:AV)(k:AV->ab->Prop):Prop:=jF (iu env.P h n (some v) (some (.v (.slice none 0 0)))) k
@[simp] def HV(h:ab)(n:Nat)(v a:AV)(k:AV->Prop):Prop:=fg (dm env.P (ab.get h) n (some v) (some none) (oi a) (some none)) k
@[simp] def Mg(h:ab)(n:Nat)(v a:AV):=c9 env true (aK env) (cU env 0) h (Ref.mk 0 n (ab.gen h 0 n) 0) (some v) [a]
@[simp] def HU(n n2 a:Nat)(v b:AV)(k:AV->Prop):Prop:=fg (bE env.P .sub n (Operand.tmp n2) (Operand.tmp a) (some v) (some b)) k
@[simp] def Mf(n n2:Nat)(v:AV)(k:AV->Prop):Prop:=fg (bE env.P .eql n (Operand.tmp n2) (.const (.int .u8 4)) (some v) (some (a8 4))) k
@[simp] def Me(n n2:Nat)(v:AV)(k:AV->Prop):Prop:=fg (bE env.P .eql n (Operand.tmp n2) (.const (.int .u8 7)) (some v) (some (a8 7))) k
@[simp] def Md(n n2:Nat)(v:AV)(k:AV->Prop):Prop:=fg (bE env.P .eql n (Operand.tmp n2) (.const (.int .u8 9)) (some v) (some (a8 9))) k
@[simp] def Mc(h:ab)(n n2:Nat)(v:AV)(k:AV->Prop):Prop:=fg (dX env.P false (ab.get h) (Ref.mk 0 n (ab.gen h 0 n) 0) .cap #[n2] [v]) k
@[simp] def qY(v:AV):=Vm env.P .not (some v)
@[simp] def Mb(h:ab)(n n2 a b:Nat)(v:AV)(k:AV->ab->Prop):Prop:=jF (mn env.P true false h (Ref.mk 0 n (ab.gen h 0 n) 0) n2 a (some [(b,v)])) k
@[simp] def Ma(h:ab)(n:Nat)(v:AV)(i:Int):=bI env.P (ab.get h) n (some v) (some (AV.v (Value.int IntKind.i64 i)))
@[simp] def HT(n n2 a:Nat)(v b:AV):=bE env.P .neq n (Operand.tmp n2) (Operand.tmp a) (some v) (some b)
@[simp] def PC(h:ab)(n:Nat)(v b a:AV)(k:AV->ab->Prop):Prop:=jF (c9 env true (aK env) (cU env 0) h (Ref.mk 0 n (ab.gen h 0 n) 0) (some v) [b,a]) k
@[simp] def L9(h:ab)(n:Nat)(v a:AV)(k:AV->Prop):Prop:=fg (dm env.P (ab.get h) n (some v) (oi a) (some none) (some none)) k
@[simp] def PB(h:ab)(n n2 a:Nat)(k:AV->ab->Prop):Prop:=jF (mn env.P false true h (Ref.mk 0 n (ab.gen h 0 n) 0) n2 a (some [(0,(a8 0))])) k
@[simp] def PA(n n2:Nat)(v:AV)(k:AV->Prop):Prop:=fg (bE env.P .eql n (Operand.tmp n2) (.const (.int .u8 6)) (some v) (some (a8 6))) k
@[simp] def C2(n n2:Nat)(v:AV)(a:Nat)(b:AV)(k:AV->Prop):Prop:=fg (lz env.P n (some [(n2,v),(a,b)])) k
@[simp] def BS(n n2:Nat)(v:AV)(k:AV->Prop):Prop:=fg (lz env.P n (some [(n2,v)])) k
@[simp] def L8(h:ab)(n:Nat)(v a:AV):=dm env.P (ab.get h) n (some v) (some none) (oi a) (some none)
@[simp] def L5(n n2 a:Nat)(v b:AV):=bE env.P .lss n (Operand.tmp n2) (Operand.tmp a) (some v) (some b)
@[simp] def U2(h:ab)(n:Nat)(v:AV)(k:AV->ab->Prop):Prop:=jF (c9 env true (aK env) (cU env 0) h (Ref.mk 0 n (ab.gen h 0 n) 0) (some v) [(.v (.int .i64 1))]) k
@[simp] def Pz(n n2:Nat)(v:AV):=bE env.P .eql n (Operand.tmp n2) (.const (.int .u8 9)) (some v) (some (a8 9))
@[simp] def Py(n n2:Nat)(v:AV):=bE env.P .eql n (Operand.tmp n2) (.const (.int .u8 2)) (some v) (some (a8 2))
@[simp] def Px(n n2:Nat)(v:AV):=bE env.P .eql n (Operand.tmp n2) (.const (.int .u8 8)) (some v) (some (a8 8))
@[simp] def L4(v a:AV):=yJ (some v) (some a) (some (AV.v (Value.bool false)))
@[simp] def U1(h:ab)(n:Nat)(v:AV)(k:AV->Prop):Prop:=fg (dm env.P (ab.get h) n (some v) (oi (.v (.int .i64 24))) (oi (.v (.int .i64 29))) (some none)) k
@[simp] def U0(n n2:Nat)(v:AV)(k:AV->Prop):Prop:=fg (bE env.P .neq n (Operand.tmp n2) (.const (.int .i32 (-1))) (some v) (some (.v (.int .i32 (-1))))) k
@[simp] def UZ(n n2:Nat)(v:AV)(k:AV->Prop):Prop:=fg (bE env.P .shr n (Operand.tmp n2) (.const (.int .u64 16)) (some v) (some (.v (.int .u64 16)))) k
@[simp] def UY(n n2:Nat)(v:AV)(k:AV->Prop):Prop:=fg (bE env.P .shl n (Operand.tmp n2) (.const (.int .u64 16)) (some v) (some (.v (.int .u64 16)))) k
@[simp] def UX(n n2:Nat)(v:AV)(k:AV->Prop):Prop:=fg (bE env.P .shr n (Operand.tmp n2) (.const (.int .u64 8)) (some v) (some (.v (.int .u64 8)))) k
@[simp] def UW(h:ab)(n n2 a:Nat)(v:AV):=dX env.P false (ab.get h) (Ref.mk (n+1) n2 (ab.gen h (n+1) n2) 0) .len #[a] [v]
@[simp] def Pw(n n2 a:Nat)(v b:AV):=bE env.P .leq n (Operand.tmp n2) (Operand.tmp a) (some v) (some b)
@[simp] def UU(n n2:Nat)(v:AV):=bE env.P .eql n (Operand.tmp n2) (.const (.int .u8 10)) (some v) (some (a8 10))
def aai:Nat->Option (List Nat):=λ_=>none
def O9:Nat->Bool:=λ_=>false
abbrev iv:=Nat->AV
abbrev bdF(f:Func):Code:=f.body.getD .skip
abbrev yr(f:Func)(n:Nat):List Item:=(nT n 400 [.code (bdF f)]).getD []
abbrev ia(f:Func)(d:Nat)(l:List (Nat × AV))(H:ab)(Q:AV->ab->Prop):Prop:=bL env f d [.code (bdF f)] l H Q
def me{P:(Nat->AV)->Prop}{f:Func}{d:Nat}{l:List (Nat × AV)}{H:ab}{Q:AV->ab->Prop}(e:P=λg=>wp env f none d aai O9 Q 500 [.code (bdF f)] (Lo g l) H)(h : ∀g,P g):ia f d l H Q:=⟨λg=>kZ (live:=aai) (cut:=O9) (n:=500) (Eq.mp (congrFun e g) (h g))⟩
def zR(v:Nat->Option (List Nat)){P:(Nat->AV)->Prop}{f:Func}{d:Nat}{l:List (Nat × AV)}{H:ab}{Q:AV->ab->Prop}(e:P=λg=>wp env f none d v O9 Q 500 [.code (bdF f)] (Lo g l) H)(h : ∀g,P g):ia f d l H Q:=⟨λg=>kZ (live:=v) (cut:=O9) (n:=500) (Eq.mp (congrFun e g) (h g))⟩
def y8(v:Nat->Option (List Nat)){P:(Nat->AV)->Prop}{f:Func}{d:Nat}{b:List Item}{l:List (Nat × AV)}{H:ab}{Q:AV->ab->Prop}(e:P=λg=>wp env f none d v O9 Q 500 (LX b) (Lo g l) H)(h : ∀g,P g):bL env f d b l H Q:=EG λg=>kZ (live:=v) (cut:=O9) (n:=500) (Eq.mp (congrFun e g) (h g))
def bo{f:FuncId}{fn:Func}{args:List AV}{y:AV}(g:env.spec f args=none)(e:(env.allowed f,env.P.funcs[f]?,fn.body.isSome,Nat.ble args.length fn.ntmps)=(true,some fn,true,true))(h:ia fn 0 (yQ 0 args) [] λx H=>handed env f x H y):aK env f args=some y:=by
 injection e with d e
 injection e with j e
 injection e with b i
 cases a:fn.body with| none=>rw[a]at b;cases b| some c=>unfold ia bdF at h;rw[a]at h;exact M5 g d j a i h
def Xv:Gc { uG Tryz.prog fns bF kV (IA [(78,24,99999),(79,24,99999),(19,13,18),(16,1,77777),(55,1,88888)]) (xj [(49,9,0,[(6,50),(6,54)]),(13,5,4,[(3,2)]),(67,5,4,[(3,2)]),(48,5,4,[(6,2)]),(7,6,0,[(3,5)]),(8,6,0,[(3,5)]),(72,19,0,[(76,82),(76,83),(83,86),(75,77),(77,82),(77,83)]),(15,12,0,[(20,23)]),(52,10,0,[(56,58)]),(14,5,3,[(15,2)]),(35,21,0,[(36,52),(37,52),(38,52),(41,52),(42,52),(43,52),(47,52),(48,52),(49,52)]),(145,8,4,[(148,2)])]) (P3 [(78,24,99999),(79,24,99999),(19,13,18),(16,1,77777),(55,1,88888)])with deep:=Mt [(78,24,99999),(79,24,99999),(19,13,18),(16,1,77777),(55,1,88888)]} fns=true:=by kernel_rfl
@[simp] def ac1{f:FuncId}(h:kV.contains f=false):(env.mode f == 2)=false:=by
 show((if bF.contains f then (if kV.contains f then 3 else 1) else if kV.contains f then 2 else 0) == 2)=false;rw[h];split<;>rfl
@[simp] def acd{f:FuncId}(h:kV.contains f=false):(env.mode f == 3)=false:=by
 show((if bF.contains f then (if kV.contains f then 3 else 1) else if kV.contains f then 2 else 0) == 3)=false;rw[h];split<;>rfl
def Z7{f:FuncId}(h:bF.contains f=false):xA (env.mode f)=false:=by
 show xA (if bF.contains f then (if kV.contains f then 3 else 1) else if kV.contains f then 2 else 0)=false;rw[h];cases kV.contains f<;>rfl
@[simp] def acn{f:FuncId}(h:bF.contains f=false)(x:AV)(H:ab)(y:AV):handed env f x H y↔view H.get depth x=some y:=OU (Z7 h) x H y
def Z6{f:FuncId}(h:bF.contains f=true):xA (env.mode f)=true:=by
 show xA (if bF.contains f then (if kV.contains f then 3 else 1) else if kV.contains f then 2 else 0)=true;rw[h];cases kV.contains f<;>rfl
@[simp] def CW{f:FuncId}(h:bF.contains f=true)(x:AV)(H:ab)(y:AV):handed env f x H y↔(ad H.get depth x).Nodup/\bK H.get depth x=some y:=Ju (Z6 h) x H y
@[simp] def Tc:av env.P 3=(some 1):=by kernel_rfl
@[simp] def acU:eD env.P 3=(some false)/\eJ env.P 3=(some (.v (.int .i64 0)))/\pA env.P 3=(some 1)/\isInt env.P 3=true/\intKind env.P 3=(some .i64)/\(env.P.underlying 3).isNone=false/\av env.P 4=(some 1)/\eD env.P 4=(some false)/\isBool env.P 4=true:=by repeat' first|kernel_rfl|constructor
@[simp] def Tb:av env.P 5=(some 1):=by kernel_rfl
@[simp] def Wk:eD env.P 5=(some false):=by kernel_rfl
@[simp] def aci:pA env.P 5=(some 1)/\intKind env.P 5=(some .u8)/\(env.P.underlying 5).isNone=false/\isStr env.P 9=true:=by repeat' first|kernel_rfl|constructor
@[simp] def PY:av env.P 21=(some 1):=by kernel_rfl
@[simp] def Tl:eD env.P 21=(some false):=by kernel_rfl
@[simp] def Xh:intKind env.P 21=(some .i32)/\(env.P.underlying 21).isNone=false/\av env.P 22=(some 1)/\eD env.P 22=(some false)/\intKind env.P 22=(some .i64)/\av env.P 23=(some 4)/\eD env.P 23=(some true)/\de env.P 23=none:=by repeat' first|kernel_rfl|constructor
@[simp] def Ms:lK env.P 23=(some (4,3)):=by kernel_rfl
@[simp] def PV:eJ env.P 23=(some (.agg [(.v (.int .i64 0)),(.v (.int .i64 0)),(.v (.int .i64 0)),(.v (.int .i64 0))])):=by kernel_rfl
@[simp] def aar:pA env.P 23=none/\EK env.P 23=true/\jY env.P 23=none:=by repeat' first|kernel_rfl|constructor
@[simp] def oX:av env.P 24=(some 1):=by kernel_rfl
@[simp] def abS:eD env.P 24=(some false):=by kernel_rfl
@[simp] def P2:de env.P 24=(some 54):=by kernel_rfl
@[simp] def abH:lK env.P 24=none/\isStr env.P 24=false/\E1 env.P 24=true/\qF env.P 24=true/\lO env.P 24=17/\tv env.P 24=112/\j6 env.P 24=(.agg [(a8 0),(a8 0),(cH 0),(a8 0),(.v (.int .i64 0)),(a8 0),(cH 0),(a8 0),(.v (.int .i64 0)),(.v (.int .i64 0)),(a8 0),(cH 0),(a8 0),(.v (.int .i64 0)),(a8 0),(cH 0),(.v (.slice none 0 0))]):=by repeat' first|kernel_rfl|constructor
@[simp] def mO:av env.P 26=(some 12):=by kernel_rfl
@[simp] def abR:eD env.P 26=(some true)/\lK env.P 26=none/\eJ env.P 26=(some (.agg [(a8 0),(.v (.int .i64 0)),(.v (.int .i64 0)),(.v (.int .i64 0)),(.v (.int .i64 0)),(.v (.int .i64 0)),(a8 0),(.v (.int .i64 0)),(.v (.int .i64 0)),(.v (.int .i64 0)),(.v (.int .i64 0)),(.v (.slice none 0 0))])):=by repeat' first|kernel_rfl|constructor
@[simp] def JH:jY env.P 26=(some [5,3,3,22,3,3,5,23,24]):=by kernel_rfl
@[simp] def YC:placesOf env.P 26=(some [(0,1),(1,1),(2,1),(3,1),(4,1),(5,1),(6,1),(7,4),(11,1)])/\aC env.P 26 0=(some (0,1))/\aC env.P 26 1=(some (1,1))/\aC env.P 26 2=(some (2,1))/\aC env.P 26 3=(some (3,1))/\aC env.P 26 4=(some (4,1))/\aC env.P 26 5=(some (5,1))/\aC env.P 26 6=(some (6,1))/\aC env.P 26 7=(some (7,4))/\aC env.P 26 8=(some (11,1))/\av env.P 27=(some 1)/\eD env.P 27=(some false):=by repeat' first|kernel_rfl|constructor
@[simp] def P1:de env.P 27=(some 5):=by kernel_rfl
@[simp] def abF:lK env.P 27=none/\isStr env.P 27=false/\E1 env.P 27=true/\qF env.P 27=true:=by repeat' first|kernel_rfl|constructor
@[simp] def R2:lO env.P 27=1:=by kernel_rfl
@[simp] def acA:tv env.P 27=1/\j6 env.P 27=(a8 0)/\cM env.P 27=true/\av env.P 28=(some 1)/\eD env.P 28=(some false)/\av env.P 43=(some 1)/\eD env.P 43=(some false)/\pA env.P 43=(some 1)/\intKind env.P 43=(some .u32)/\(env.P.underlying 43).isNone=false/\av env.P 45=(some 2)/\eD env.P 45=(some true)/\lK env.P 45=none/\eJ env.P 45=(some (.agg [(a8 0),(cH 0)]))/\pA env.P 45=none/\EK env.P 45=true:=by repeat' first|kernel_rfl|constructor
@[simp] def JG:jY env.P 45=(some [5,43]):=by kernel_rfl
@[simp] def YB:placesOf env.P 45=(some [(0,1),(1,1)])/\aC env.P 45 0=(some (0,1))/\aC env.P 45 1=(some (1,1))/\av env.P 47=(some 3)/\eD env.P 47=(some true)/\lK env.P 47=none/\eJ env.P 47=(some (.agg [(a8 0),(cH 0),(a8 0)]))/\pA env.P 47=none/\EK env.P 47=true:=by repeat' first|kernel_rfl|constructor
@[simp] def JF:jY env.P 47=(some [45,5]):=by kernel_rfl
@[simp] def YA:placesOf env.P 47=(some [(0,2),(2,1)])/\pM env.P 47 0=(some (0,45))/\aC env.P 47 0=(some (0,2))/\aC env.P 47 1=(some (2,1))/\av env.P 49=(some 4)/\eD env.P 49=(some true)/\lK env.P 49=none/\eJ env.P 49=(some (.agg [(a8 0),(cH 0),(a8 0),(.v (.int .i64 0))]))/\pA env.P 49=none/\EK env.P 49=true:=by repeat' first|kernel_rfl|constructor
@[simp] def JE:jY env.P 49=(some [47,3]):=by kernel_rfl
@[simp] def Yz:placesOf env.P 49=(some [(0,3),(3,1)])/\aC env.P 49 0=(some (0,3))/\aC env.P 49 1=(some (3,1))/\av env.P 51=(some 5)/\eD env.P 51=(some true)/\lK env.P 51=none/\eJ env.P 51=(some (.agg [(a8 0),(cH 0),(a8 0),(.v (.int .i64 0)),(.v (.int .i64 0))]))/\pA env.P 51=none/\EK env.P 51=true:=by repeat' first|kernel_rfl|constructor
@[simp] def JD:jY env.P 51=(some [49,3]):=by kernel_rfl
@[simp] def Yx:placesOf env.P 51=(some [(0,4),(4,1)])/\aC env.P 51 0=(some (0,4))/\aC env.P 51 1=(some (4,1))/\av env.P 52=(some 1)/\eD env.P 52=(some false):=by repeat' first|kernel_rfl|constructor
@[simp] def P0:de env.P 52=(some 21):=by kernel_rfl
@[simp] def abA:lK env.P 52=none/\isStr env.P 52=false/\eJ env.P 52=(some (.v (.slice none 0 0)))/\E1 env.P 52=true/\qF env.P 52=true/\lO env.P 52=1/\tv env.P 52=4/\j6 env.P 52=(.v (.int .i32 0)):=by repeat' first|kernel_rfl|constructor
@[simp] def PX:av env.P 54=(some 17):=by kernel_rfl
@[simp] def Tj:eD env.P 54=(some true):=by kernel_rfl
@[simp] def abz:lK env.P 54=none/\eJ env.P 54=(some (.agg [(a8 0),(a8 0),(cH 0),(a8 0),(.v (.int .i64 0)),(a8 0),(cH 0),(a8 0),(.v (.int .i64 0)),(.v (.int .i64 0)),(a8 0),(cH 0),(a8 0),(.v (.int .i64 0)),(a8 0),(cH 0),(.v (.slice none 0 0))])):=by repeat' first|kernel_rfl|constructor
@[simp] def JC:jY env.P 54=(some [5,47,3,51,49,45,52]):=by kernel_rfl
@[simp] def Yw:placesOf env.P 54=(some [(0,1),(1,3),(4,1),(5,5),(10,4),(14,2),(16,1)])/\aC env.P 54 0=(some (0,1))/\aC env.P 54 1=(some (1,3))/\aC env.P 54 2=(some (4,1))/\aC env.P 54 3=(some (5,5))/\aC env.P 54 4=(some (10,4))/\aC env.P 54 5=(some (14,2))/\aC env.P 54 6=(some (16,1))/\de env.P 61=(some 27)/\lK env.P 61=none/\isStr env.P 61=false/\qF env.P 61=true/\lO env.P 61=1/\j6 env.P 61=(.v (.slice none 0 0))/\av env.P 88=(some 1)/\eD env.P 88=(some false)/\av env.P 90=(some 2)/\eJ env.P 90=(some (.agg [(.v .nilFunc),(.v .nilFunc)]))/\aC env.P 90 0=(some (0,1))/\aC env.P 90 1=(some (1,1))/\av env.P 96=(some 3)/\lK env.P 96=none/\eJ env.P 96=(some (.agg [(.v (.slice none 0 0)),(.v (.bool false)),(.v (.bool false))]))/\placesOf env.P 96=(some [(0,1),(1,1),(2,1)]):=by repeat' first|kernel_rfl|constructor
@[simp] def VQ:aC env.P 96 0=(some (0,1))/\aC env.P 96 1=(some (1,1))/\aC env.P 96 2=(some (2,1))/\av env.P 127=(some 1)/\eD env.P 127=(some false)/\av env.P 178=(some 4)/\eD env.P 178=(some true)/\lK env.P 178=none/\eJ env.P 178=(some (.agg [(a8 0),(cH 0),(a8 0),(.v (.int .i64 0))]))/\placesOf env.P 178=(some [(0,3),(3,1)])/\pM env.P 178 0=(some (0,47))/\aC env.P 178 0=(some (0,3))/\aC env.P 178 1=(some (3,1))/\av env.P 182=(some 3)/\lK env.P 182=none/\eJ env.P 182=(some (.agg [(.v (.slice none 0 0)),(.v (.int .i64 0)),(.v (.bool false))]))/\placesOf env.P 182=(some [(0,1),(1,1),(2,1)])/\aC env.P 182 0=(some (0,1))/\aC env.P 182 1=(some (1,1))/\aC env.P 182 2=(some (2,1))/\av env.P 193=(some 2)/\eD env.P 193=(some true)/\pM env.P 193 0=(some (0,127))/\lK env.P 194=(some (4,193)):=by repeat' first|kernel_rfl|constructor
end Go.Proofs.YtehkjjcdkbcebaaGreat
namespace Go.Ab
def Pd{P:Program}{T:TypeId}{z by':Nat}(k:Nj P T z by'=true){cs:List AV}(d:cs.length=z)(a:z<=16777216)(c:cs.all AV.one=true)(H:ab)(r:Ref) :
 oV P H r T 1 (some [(0,.agg cs)])=some (.dsl r 0 1 (some 1),(r,some ⟨z,[.agg cs],false,false⟩) :: H):=by
 obtain⟨e,zz,h,j,l,g,i,b,f,m⟩:=fx k;simp only[oV,h,g,j];rw[if_pos ⟨trivial,wb f,a,i,b,d,c⟩]
def UO{P:Program}{T:TypeId}{z by':Nat}(q:Nj P T z by'=true)(b:E1 P T=true){H:ab}{r g:Ref}{c:Option Nat}{f:AV}(h:H.get g=some ⟨z,[f],false,false⟩){s:AV} :
 (s = .v (.slice none 0 0)->by'<=aY->wg P H r (some T) (some T) s (.dsl g 0 1 c)=some (.dsl r 0 1 none,(r,some ⟨z,[f],false,false⟩) :: H)) /\
 (∀r' es fz,s = .dsl r' 0 es.length none->H.get r'=some ⟨z,es,false,fz⟩->r'≠g->(es.length+1) * by'<=aY->wg P H r (some T) (some T) s (.dsl g 0 1 c) =
  some (.dsl ⟨r'.d,r'.t,H.gen r'.d r'.t,0⟩ 0 (es.length+1) none,(⟨r'.d,r'.t,H.gen r'.d r'.t,0⟩,some ⟨z,es++[f],false,fz⟩) :: H.put r' none)):=by
 obtain⟨e,zz,k,m,i,j,p,w,n,o⟩:=fx q;unfold E1 at b;simp only[bD,jH]at b;have a : ¬((P.underlying T).isNone=true\/isInt P T≠false):=by
  rw[b.2];cases u:P.underlying T with
  | none=>rw[u]at b;simp at b
  | some d=>simp
 have l : ¬((false=true)\/z≠z\/z=0\/by'=0\/[f]=[]\/zz.cells.length≠z\/1≠[f].length):=by simp[p,n,o]
 constructor;·rintro rfl hb;simp only[wg,cR,k,Option.map_some,dP,m,i,j,h];rw[if_neg a,if_neg l,if_pos (by omega)]
 rintro r' es fz rfl hr hn hb;simp only[wg,cR,k,Option.map_some,dP,m,i,j,h];rw[if_neg a,if_neg l];simp only[hr];rw[if_pos ⟨trivial,trivial,trivial,hn,hb⟩]
def F2.snoc{R:AV->AV->Prop}{a ys:List AV}{x y:AV}(h:F2 R a ys)(b:R x y):F2 R (a++[x]) (ys++[y]):=h.app ⟨b,trivial⟩
def NG{z:Nat}{H H2:ab}{fs efs:List (Ref × aP)}{rows:List wR}{s:AV}{es es':List AV}{rs:List Ref}(h:sv H (efs++fs) (⟨z,s,es',rs⟩ :: rows)){r2:Ref}{cs ys:List AV}
 (D:F2 (DE H.get) es es') (i : ∀q∈es.flatMap eE,q∈rs) (A:(es.flatMap eE).Nodup) (K:F2 (DC H.get) cs ys) (F:cs.flatMap iw=efs.map (·.1)) (G:Fr H2) (I:H.get r2=none) (N:H2.get r2=some ⟨z,es++[.agg cs],false,false⟩)
 (v : ∀q b,H.get q=some b->(q∈rs->q∈es.flatMap eE)->H2.get q=some b):sv H2 fs (⟨z,.dsl r2 0 (es.length+1) none,es'++[.agg ys],r2 :: (es++[AV.agg cs]).flatMap eE⟩ :: rows):=by
 have k:=h.nd;rw[xg]at k;obtain⟨n1,n2,L⟩:=yW.1 k;obtain⟨d1,d2⟩:=GI.1 h.dis;have n:(es++[AV.agg cs]).flatMap eE=es.flatMap eE++efs.map (·.1):=by
  rw[zM,<-F];simp[eE]
 have o : ∀q∈efs.map (·.1),∃b,H.get q=some b/\(q∈rs->q∈es.flatMap eE):=by
  intro q d;obtain⟨p,hp,rfl⟩:=lX.1 d;exact⟨p.2,h.has p (B0 _ hp),λc=>absurd c (h.sep _ (im ..) p (B0 _ hp))⟩
 have w : ∀q∈es.flatMap eE,∃b,H.get q=some b:=λq d=>(h.row _ (im ..)).live q (i q d);have j : ∀q b,H.get q=some b->q≠r2:=λq b g e=>by rw[e,I]at g;cases g
 have C : ∀p∈fs,H2.get p.1=some p.2:=λp hp=>v _ _ (h.has p (Bi _ hp)) λc=>absurd c (h.sep _ (im ..) p (Bi _ hp));refine⟨G,C,n2,λt l=>?_,λt l p hp=>?_,?_⟩
 ·rcases dG.1 l with rfl | l
  ·refine .inr (.inr ⟨r2,es++[.agg cs],by simp,by simp,N,?_,rfl,?_⟩);·have c : ∀x∈es,∀y,DE H.get x y->DE H2.get x y:=λx B y m=>m.bF λq d b g=>v q b g λ_=>eW.2 ⟨x,B,d⟩;refine(D.mono c).snoc ⟨cs,ys,rfl,rfl,K.mono λx B y m=>m.bF λq d b g=>?_⟩;obtain⟨O,_,J⟩:=o q (by rw[<-F];exact eW.2 ⟨x,B,d⟩);exact v q b g J
   rw[n];refine wY.2 ⟨λc=>?_,yW.2 ⟨A,n1,λa M b g e=>?_⟩⟩
   ·rcases jG.1 c with c | c
    ·obtain⟨b,g⟩:=w _ c;exact j _ _ g rfl
    obtain⟨b,g,_⟩:=o _ c;exact j _ _ g rfl
   obtain⟨p,hp,rfl⟩:=lX.1 g;exact h.sep _ (im ..) p (B0 _ hp) (by rw[<-e];exact i a M)
  refine(h.row t (iR _ l)).bF λq d b g=>v q b g λc=>absurd d (d1 t l q c)
 ·rcases dG.1 l with rfl | l
  ·intro c;simp only[n]at c;rcases dG.1 c with e | c
   ·exact j _ _ (h.has p (Bi _ hp)) e
   rcases jG.1 c with c | c
   ·exact h.sep _ (im ..) p (Bi _ hp) (i _ c)
   exact L _ c _ (iQS (f:=λp:Ref × aP=>p.1) hp) rfl
  exact h.sep t (iR _ l) p (Bi _ hp)
 refine GI.2 ⟨λu E q d c=>?_,d2⟩;simp only[n]at d;obtain⟨b,g⟩:=(h.row u (iR _ E)).live q c;rcases dG.1 d with rfl | d
 ·exact j _ _ g rfl
 rcases jG.1 d with d | d
 ·exact d1 u E q (i q d) c
 obtain⟨p,hp,rfl⟩:=lX.1 d;exact h.sep u (iR _ E) p (B0 _ hp) c
def NF{P:Program}{T:TypeId}{z by':Nat}(Q:Nj P T z by'=true)(W:E1 P T=true){H:ab}{fs efs:List (Ref × aP)}{rows:List wR}{s:AV}{es':List AV}{rs:List Ref}
 (hs:s = .v (.slice none 0 0) \/∃r n,s = .dsl r 0 n none) (h:sv H (efs++fs) (⟨z,s,es',rs⟩ :: rows)) {cs ys:List AV} (O:F2 (DC H.get) cs ys) (G:cs.flatMap iw=efs.map (·.1)) (U:cs.length=z) (I:z<=16777216) (S:cs.all AV.one=true) (k:(es'.length+1) * by'<=aY)
 {dp t1 t2:Nat} {r1:Ref} (B:r1=⟨dp,t1,ab.gen H dp t1,0⟩) {K:AV->ab->Prop} (R : ∀r2 H2 x,sv H2 fs (⟨z,.dsl r2 0 (es'.length+1) none,es'++[.agg ys],x⟩ :: rows)->(∀q b,H.get q=some b->(∀n,s ≠ .dsl q 0 n none)->H2.get q=some b) ->
  (∀q∈x,q∈rs\/q∈efs.map (·.1)\/q=r2)->(r2.t=t2 \/∃r n,s = .dsl r 0 n none/\r2.t=r.t)->K (.dsl r2 0 (es'.length+1) none) H2) :
 jF (oV P H r1 T 1 (some [(0,.agg cs)])) λv f=>jF (wg P f (⟨dp,t2,ab.gen f dp t2,0⟩:Ref) (some T) (some T) s v) K:=by
 have y:H.get r1=none:=by rw[B];exact h.fr dp t1 _ 0 (aV _)
 obtain⟨f,m⟩ : ∃f:ab,f=(r1,some ⟨z,[.agg cs],false,false⟩) :: H:=⟨_,rfl⟩;have u:Fr f:=by rw[m,B];exact lF h.fr rfl _
 have C:f.get r1=some ⟨z,[.agg cs],false,false⟩:=by rw[m,ab.aZ,if_pos rfl]
 have i : ∀q b,H.get q=some b->f.get q=some b:=λq b a=>by
  rw[m,ab.aZ,if_neg (λe=>by rw[<-e,y]at a;cases a)];exact a
 refine jd (v := .dsl r1 0 1 (some 1)) (H:=f) (by rw[Pd Q U I S,m]) ?_;obtain⟨a1,X⟩:=UO (r:=⟨dp,t2,f.gen dp t2,0⟩) Q W (c:=some 1) C (s:=s);have j : ∀d t,H.get ⟨d,t,f.gen d t,0⟩=none:=λd t=>by
  cases g:H.get ⟨d,t,f.gen d t,0⟩ with| none=>rfl| some b=>have:=i _ _ g;rw[u d t _ 0 (aV _)]at this;cases this
 have hp1:(f.get r1).isSome=true:=by rw[C];rfl
 have p:=h.row _ (im ..);rcases hs with rfl | ⟨r',n,rfl⟩
 ·rcases p with ⟨_,M,o⟩ | ⟨_,e,_⟩ | ⟨_,_,e,_⟩
  ·simp only at M o;subst M;subst o;refine jd (a1 rfl (by simpa using k)) ?_;have w:([]++[AV.agg cs]).flatMap eE=efs.map (·.1):=by rw[<-G];simp[eE]
   refine R _ _ _ (NG (es:=[]) h trivial (by simp) (by simp) O G ?_ (j dp t2) ?_ ?_) ?_ ?_ (.inl rfl);·exact lF u rfl _
   ·rw[ab.aZ,if_pos rfl];rfl
   ·intro q b a _;rw[ab.aZ,if_neg (λe=>by rw[<-e,j]at a;cases a)];exact i q b a
   ·intro q b a _;rw[ab.aZ,if_neg (λe=>by rw[<-e,j]at a;cases a)];exact i q b a
   intro q g;rw[w]at g;rcases dG.1 g with rfl | g
   ·exact .inr (.inr rfl)
   exact .inr (.inl g)
  ·cases e
  cases e
 rcases p with ⟨e,_⟩ | ⟨_,e,_⟩ | ⟨r0,es,e,M,o,N,E,L⟩
 ·cases e
 ·cases e
 simp only at e o N E L;injection e with Z q2 V q4
 subst Z;subst V;have l:es.length=es'.length:=N.len;have J:r'≠r1:=λe=>by rw[e,y]at o;cases o
 have F:(f.get r').isSome=true:=by rw[i _ _ o];rfl
 have D : ∀d t,(f.put r' none).gen d t=f.gen d t:=λd t=>by rw[ab.fB _ _ _ F]
 refine jd (X r' es false rfl (i _ _ o) J (by rw[l];exact k)) ?_;rw[l];rw[E]at L;have A:=(wY.1 L);have:=NG (es:=es) (r2:=⟨r'.d,r'.t,f.gen r'.d r'.t,0⟩) (H2:=(⟨r'.d,r'.t,f.gen r'.d r'.t,0⟩,some ⟨z,es++[.agg cs],false,false⟩) :: (f.put r' none)) h N (λq g=>by rw[E];exact iR _ g) A.2 O G (lF (kb u F none) (D _ _).symm _) (j _ _) (by rw[ab.aZ,if_pos rfl]) (λq b a hm=>by
  rw[ab.aZ,if_neg (λe=>by rw[<-e,j]at a;cases a),ab.get_put,if_neg (λe=>by
   subst e;exact A.1 (hm (by rw[E];exact im ..)))]
  exact i q b a)
 rw[l]at this;refine R _ _ _ this (λq b a Y=>?_) (λq g=>?_) (.inr ⟨r',_,rfl,rfl⟩);·rw[ab.aZ,if_neg (λe=>by rw[<-e,j]at a;cases a),ab.get_put,if_neg (λe=>Y _ (by rw[e]))];exact i q b a
 have w:(es++[AV.agg cs]).flatMap eE=es.flatMap eE++efs.map (·.1):=(by rw[zM,<-G];simp[eE]);rw[w]at g;rcases dG.1 g with rfl | g
 ·exact .inr (.inr rfl)
 rcases jG.1 g with g | g
 ·exact .inl (by rw[E];exact iR _ g)
 exact .inr (.inl g)
end Go.Ab
namespace Go.Proofs.YtehkjjcdkbcebaaGreat
open Go.Ab
section
attribute [local simp] a7 aL au aJ aH bF kV bc aA aN cw cu aY ba ah bG fG
def RC{E:Env}{ok:Array Oper->Bool}(a:E.Ok ok){dep:Nat}{f:FuncId}{args:List AV}{H H':ab}{y:AV}(h:cU E dep (.fn f) args H=some (y,H')):kU E.P (.fn f) args H y H':=by
 obtain⟨m,hm⟩:=ry.1 h;exact y9 a (QE a m) (hm m (aV _))
def JX:Env:=uG Tryz.prog [41] [] [41] (λ_=>false) (λ_=>[]) (λ_=>false) []
def aa2:Gc JX [41]=true:=by kernel_rfl
def adg:JX.Ok (zp JX):=Uy Ro (by kernel_rfl) aa2 (λf t h=>by cases h) (λf args H y H' h=>by cases h)
def V8:Code:=(Tryz.f41.body).getD .skip
def aah:Nat->Option (List Nat):=λi=>none
def aaZ:Nat->Bool:=λi=>false
def Wa(dep:Nat)(g:Nat->AV)(a:AV)(H:ab)(Q:AV->ab->Prop):Prop:=
 Mn 24 3 a λc=>
 br (some c) (
  Q (.v (.slice none 0 0)) H) (
  jF (mn env.P false true H (⟨(dep+1),5,ab.gen H (dep+1) 5,0⟩:Ref) 24 0 (some [])) λe b=>
  Mh b dep 7 24 24 e a λd H2=>
  Q d H2)
def Zg(dep:Nat)(a:AV)(H:ab)(Q:AV->ab->Prop)(h : ∀g,Wa dep g a H Q):bL JX Tryz.f41 (dep+1) [.code V8] [(0,a)] H Q:=⟨λg=>kZ (live:=aah) (cut:=aaZ) (n:=500) (Eq.mp (by kernel_rfl) (h g))⟩
def aa1(H:ab)(e:AV)(es:List AV)(c:Option Nat)(f:(es.length+1) * 112<=Ab.aY)(h:Fr H):kU Tryz.prog (.fn 41) [.cC 17 (e :: es) c] H (.bO (xw 7 H) 0 (es.length+1) none) (Sd 17 5 7 H (e :: es) true):=by
 obtain⟨a,H2,b,rfl,rfl⟩ : ∃a H2,cU JX 0 (.fn 41) [.cC 17 (e :: es) c] H=some (a,H2)/\a = .bO (xw 7 H) 0 (es.length+1) none/\H2=Sd 17 5 7 H (e :: es) true:=by
  refine cQ (fn:=Tryz.f41) (c:=V8) (by kernel_rfl) (by kernel_rfl) (by kernel_rfl) (by kernel_rfl) (by kernel_rfl) ?_ ?_
  ·refine Zg _ _ _ _ λg=>?_;have d:(es.length+1) * 112<=140737488355328:=by simpa [aY] using f
   simp[ak, *,Wa,Sd,xw,d];done
  rfl
 exact RC adg b
def JT(args:List AV)(H:ab)(y:AV)(H':ab)(h:uJ 17 112 5 7 args H=some (y,H')):kU Tryz.prog (.fn 41) args H y H':=
 HE ⟨Tryz.f41,by kernel_rfl,by kernel_rfl,by kernel_rfl⟩ aa1 h
def Te(f:FuncId)(args:List AV)(H:ab)(y:AV)(H':ab)(h:Wj f args H=some (y,H')):kU Tryz.prog (.fn f) args H y H':=by
 unfold Wj at h;split at h;·rename_i e;subst e;exact JT args H y H' h
 cases h
def aaU:env.Ok (zp env):=P6 (λf args y h=>by cases h) (by kernel_rfl) Xv (λf t h=>by cases h) Te
end
section
variable(dep:Nat)(g:Nat->AV)(a b:AV)(H:ab)(Q:AV->ab->Prop)
def gD:=yr Tryz.f87 4
def oI:Nat->Option (List Nat):=λi=>cond (Nat.beq i 4) (some [5,1,0]) (none)
def kT:Prop:=
 er H 7 52 a λd=>
 er H 9 52 b λc=>
 C4 3 7 9 d c λe=>
 br (some e) (
 Q (.v (.bool false)) H) (
  bL env Tryz.f87 0 gD [(5,(.v (.int .i64 0))),(1,b),(0,a)] H Q)
theorem ug(h : ∀g:iv,kT a b H Q):ia Tryz.f87 0 [(0,a),(1,b)] H Q:=zR oI (by kernel_rfl) h
def gJ(g:Nat->AV)(c b a:AV)(H:ab)(Q:AV->ab->Prop):Prop:=
 er H 13 52 a λf=>
 kn 3 11 13 c f λd=>
 br (some d) (
 fJ H 52 a c λj=>
 af H 21 j λi=>
 fJ H 52 b c λe=>
 af H 21 e λh=>
 C4 21 20 24 i h λk=>
 br (some k) (
 Q (.v (.bool false)) H) (
 lf 3 15 1 c λl=>
  bL env Tryz.f87 0 gD [(5,l),(1,b),(0,a)] H Q)) (
 Q (.v (.bool true)) H)
theorem nz(c b a:AV)(H:ab)(Q:AV->ab->Prop)(h : ∀g,gJ g c b a H Q):bL env Tryz.f87 0 gD [(5,c),(1,b),(0,a)] H Q:=y8 oI (by kernel_rfl) h
def so:Prop:=
 gr H 1 47 a λf e=>
 aj 47 f 0 λn=>
 af e 45 n λl=>
 bC true e 5 136 [l] λm H2=>
 BU 22 5 0 m λc=>
 gQ c true (az 47 f 1) λi=>
 gQ c true (aW H2 5 i) λo=>
 gQ c true (bE env.P .lss 5 (Operand.tmp 9) (.const (.int .u8 8)) (some o) (some (a8 8))) λj=>
 dy c j λh=>
 bC true H2 12 135 [h] λd k=>
 Q d k
theorem yZ(h : ∀g:iv,so a H Q):ia Tryz.f114 0 [(0,a)] H Q:=me (by kernel_rfl) h
def kN:Prop:=
 gr H 1 51 a λd w=>
 aj 51 d 0 λC=>
 af w 49 C λA=>
 bC true w 5 139 [A] λB H2=>
 BU 22 5 0 B λe=>
 gQ e true (az 51 d 1) λz=>
 gQ e true (aW H2 3 z) λy=>
 gQ e true (C6 3 9 1 y) λD=>
 dy e D λf=>
 gQ f true (az 51 d 1) λk=>
 gQ f true (aW H2 3 k) λq=>
 gQ f true (FF 3 14 64 q) λp=>
 dy f p λc=>
 gQ c true (az 51 d 0) λt=>
 gQ c true (az 49 t 1) λo=>
 gQ c true (aW H2 3 o) λl=>
 gQ c true (az 51 d 1) λm=>
 gQ c true (aW H2 3 m) λi=>
 gQ c true (bE env.P .add 3 (Operand.tmp 20) (Operand.tmp 22) (some l) (some i)) λh=>
 gQ c true (bE env.P .sub 3 (Operand.tmp 23) (Operand.const (Value.int IntKind.i64 1)) (some h) (some (AV.v (Value.int IntKind.i64 1)))) λn=>
 gQ c true (FF 3 24 1099511627776 n) λs=>
 dy c s λj=>
 bC true H2 27 135 [j] λu x=>
 Q u x
theorem Bo(h : ∀g:iv,kN a H Q):ia Tryz.f137 0 [(0,a)] H Q:=me (by kernel_rfl) h
def eb:=yr Tryz.f88 4
def kC:Nat->Option (List Nat):=λi=>cond (Nat.beq i 4) (some [13,1,0,12]) (none)
def gS:Prop:=
 er H 7 52 a λe=>
 er H 9 52 b λc=>
 C4 3 7 9 e c λf=>
 br (some f) (
 Q (.v (.bool false)) H) (
 er H 12 52 a λd=>
  bL env Tryz.f88 0 eb [(13,(.v (.int .i64 0))),(1,b),(0,a),(12,d)] H Q)
theorem pI(h : ∀g:iv,gS a b H Q):ia Tryz.f88 0 [(0,a),(1,b)] H Q:=zR kC (by kernel_rfl) h
def ej(g:Nat->AV)(c b a d:AV)(H:ab)(Q:AV->ab->Prop):Prop:=
 kn 3 13 12 c d λh=>
 br (some h) (
 fJ H 52 a c λl=>
 af H 21 l λk=>
 fJ H 52 b c λj=>
 af H 21 j λf=>
 C4 21 19 23 k f λi=>
 br (some i) (
 Q (.v (.bool false)) H) (
 lf 3 13 1 c λe=>
  bL env Tryz.f88 0 eb [(13,e),(1,b),(0,a),(12,d)] H Q)) (
 Q (.v (.bool true)) H)
theorem jK(c b a d:AV)(H:ab)(Q:AV->ab->Prop)(h : ∀g,ej g c b a d H Q):bL env Tryz.f88 0 eb [(13,c),(1,b),(0,a),(12,d)] H Q:=y8 kC (by kernel_rfl) h
def AX:Prop:=
 gr H 1 49 a λh l=>
 aj 49 h 0 λs=>
 af l 47 s λp=>
 bC true l 5 114 [p] λq H2=>
 BU 22 5 0 q λc=>
 gQ c true (az 49 h 1) λo=>
 gQ c true (aW H2 3 o) λn=>
 gQ c true (C6 3 9 1 n) λt=>
 dy c t λd=>
 gQ d true (az 49 h 1) λe=>
 gQ d true (aW H2 3 e) λj=>
 gQ d true (FF 3 14 1099511627776 j) λi=>
 dy d i λf=>
 bC true H2 17 135 [f] λk m=>
 Q k m
theorem G2(h : ∀g:iv,AX a H Q):ia Tryz.f139 0 [(0,a)] H Q:=me (by kernel_rfl) h
def sn:Prop:=
 er H 6 52 a λf=>
 yu 3 6 64 f λe=>
 br (some e) (
 Q (.v (.int .i64 4)) H) (
 bC true H 11 154 [a,(.fn (.func 152) [] [])] λd c=>
 br (some d) (
 Q (.v (.int .i64 8)) c) (
 Q (.v (.int .i64 0)) c))
theorem DI(h : ∀g:iv,sn a H Q):ia Tryz.f140 0 [(0,a)] H Q:=me (by kernel_rfl) h
def xO:Prop:=
 gr H 1 45 a λh c=>
 aj 45 h 0 λf=>
 af c 5 f λd=>
 fg (bE env.P .gtr 5 (Operand.tmp 4) (.const (.int .u8 15)) (some d) (some (a8 15))) λe=>
 br (some e) (
 Q (.v (.int .i64 8)) c) (
 Q (.v (.int .i64 0)) c)
theorem DL(h : ∀g:iv,xO a H Q):ia Tryz.f136 0 [(0,a)] H Q:=me (by kernel_rfl) h
def AW:Prop:=
 br (some a) (
 Q (.v (.int .i64 0)) H) (
 Q (.v (.int .i64 8)) H)
theorem G1(h : ∀g:iv,AW a H Q):ia Tryz.f135 0 [(0,a)] H Q:=me (by kernel_rfl) h
def pY:Prop:=
 U0 21 3 a λc=>
 gQ c true (cf a) λh=>
 gW c true H (jo true H 7 153 [h]) λe i=>
 gQ c true (qY e) λf=>
 dy c f λd=>
 Q d i
theorem Bl(h : ∀g:iv,pY a H Q):ia Tryz.f152 0 [(0,a)] H Q:=me (by kernel_rfl) h
def nE:Prop:=
 fg (bE env.P .leq 21 (.const (.int .i32 0)) (Operand.tmp 4) (some (.v (.int .i32 0))) (some a)) λd=>
 gQ d true (cf a) λj=>
 gQ d true (bE env.P .lss 21 (Operand.tmp 7) (.const (.int .i32 55296)) (some j) (some (.v (.int .i32 55296)))) λi=>
 dy d i λh=>
 br (some h) (
 Q (.v (.bool true)) H) (
 fg (bE env.P .lss 21 (.const (.int .i32 57343)) (Operand.tmp 11) (some (.v (.int .i32 57343))) (some a)) λc=>
 gQ c true (cf a) λe=>
 gQ c true (bE env.P .leq 21 (Operand.tmp 14) (.const (.int .i32 1114111)) (some e) (some (.v (.int .i32 1114111)))) λf=>
 dy c f λk=>
 br (some k) (
 Q (.v (.bool true)) H) (
 Q (.v (.bool false)) H))
theorem sw(h : ∀g:iv,nE a H Q):ia Tryz.f153 0 [(0,a)] H Q:=me (by kernel_rfl) h
def iF:Prop:=
 bC true H 7 155 [a,b] λe d=>
 FE 3 7 0 e λc=>
 Q c d
theorem nI(h : ∀g:iv,iF a b H Q):ia Tryz.f154 0 [(0,a),(1,b)] H Q:=me (by kernel_rfl) h
def dv:=yr Tryz.f155 2
def jr:Nat->Option (List Nat):=λi=>cond (Nat.beq i 2) (some [8,0,1,7]) (none)
def ju:Prop:=
 er H 7 52 a λc=>
  bL env Tryz.f155 0 dv [(8,(.v (.int .i64 0))),(0,a),(1,b),(7,c)] H Q
theorem oP(h : ∀g:iv,ju a b H Q):ia Tryz.f155 0 [(0,a),(1,b)] H Q:=zR jr (by kernel_rfl) h
def dw(g:Nat->AV)(c a b d:AV)(H:ab)(Q:AV->ab->Prop):Prop:=
 kn 3 8 7 c d λh=>
 br (some h) (
 fJ H 52 a c λk=>
 af H 21 k λi=>
 HZ H 16 b i λj e=>
 br (some j) (
 Q c e) (
 lf 3 8 1 c λf=>
  bL env Tryz.f155 0 dv [(8,f),(0,a),(1,b),(7,d)] e Q)) (
 Q (.v (.int .i64 (-1))) H)
theorem iU(c a b d:AV)(H:ab)(Q:AV->ab->Prop)(h : ∀g,dw g c a b d H Q):bL env Tryz.f155 0 dv [(8,c),(0,a),(1,b),(7,d)] H Q:=y8 jr (by kernel_rfl) h
def qO:=yr Tryz.f115 2
def yL:Nat->Option (List Nat):=λi=>cond (Nat.beq i 2) (some [5,0,4]) (none)
def tE:Prop:=
 Mo 3 6 1 b λc=>
  bL env Tryz.f115 0 qO [(5,c),(0,a),(4,(.v (.slice none 0 0)))] H Q
theorem yC(h : ∀g:iv,tE a b H Q):ia Tryz.f115 0 [(0,a),(1,b)] H Q:=zR yL (by kernel_rfl) h
def cJ(g:Nat->AV)(c a d:AV)(H:ab)(Q:AV->ab->Prop):Prop:=
 FE 3 8 0 c λi=>
 br (some i) (
 vX 3 8 14 c λm=>
 fg (bE env.P .shr 3 (Operand.tmp 13) (Operand.tmp 15) (some a) (some m)) λl=>
 fN H 17 3 5 l λk=>
 sA H 18 27 1 0 k λf h=>
 fj h 19 27 27 d f λj H2=>
 Mo 3 10 1 c λe=>
  bL env Tryz.f115 0 qO [(5,e),(0,a),(4,j)] H2 Q) (
 Q d H)
theorem cS(d a c:AV)(H:ab)(Q:AV->ab->Prop)(h : ∀g,cJ g d a c H Q):bL env Tryz.f115 0 qO [(5,d),(0,a),(4,c)] H Q:=y8 yL (by kernel_rfl) h
def qh:=yr Tryz.f142 2
def Cp:Nat->Option (List Nat):=λi=>cond (Nat.beq i 2) (some [7,2,5,6]) (none)
def CB:Prop:=
 er H 6 27 a λc=>
  bL env Tryz.f142 0 qh [(7,(.v (.int .i64 0))),(2,(.v (.int .i64 0))),(5,a),(6,c)] H Q
theorem Iu(h : ∀g:iv,CB a H Q):ia Tryz.f142 0 [(0,a)] H Q:=zR Cp (by kernel_rfl) h
def tD(g:Nat->AV)(c d e f:AV)(H:ab)(Q:AV->ab->Prop):Prop:=
 kn 3 7 6 c f λj=>
 br (some j) (
 fJ H 27 e c λn=>
 af H 5 n λm=>
 Ml 3 11 d λl=>
 fN H 14 5 3 m λi=>
 C3 3 12 14 l i λk=>
 lf 3 7 1 c λh=>
  bL env Tryz.f142 0 qh [(7,h),(2,k),(5,e),(6,f)] H Q) (
 Q d H)
theorem yB(f d c e:AV)(H:ab)(Q:AV->ab->Prop)(h : ∀g,tD g f d c e H Q):bL env Tryz.f142 0 qh [(7,f),(2,d),(5,c),(6,e)] H Q:=y8 Cp (by kernel_rfl) h
def vS:Prop:=
 fO H 2 178 λp d=>
 nj d 27 a 0 λE=>
 af d 5 E λC=>
 fg (dm env.P (ab.get d) 27 (some a) (oi (.v (.int .i64 1))) (oi (.v (.int .i64 5))) (some none)) λD=>
 bC false d 9 142 [D] λx H2=>
 fN H2 10 3 43 x λB=>
 C2 45 0 C 1 B λu=>
 nj H2 27 a 5 λF=>
 af H2 5 F λA=>
 C2 47 0 u 1 A λf=>
 BS 178 0 f λk=>
 fO H2 3 178 λc t=>
 bH t 178 c k λz o=>
 aj 178 c 0 λl=>
 af o 47 l λj=>
 bC true o 19 114 [j] λh w=>
 aj 178 c 1 λi=>
 bH w 22 i h λs n=>
 af n 178 c λe=>
 bH n 178 p e λy q=>
 eO q p 178 λm=>
 Q m q
theorem zQ(h : ∀g:iv,vS a H Q):ia Tryz.f126 0 [(0,a)] H Q:=me (by kernel_rfl) h
def uR:Prop:=
 fO H 2 47 λd l=>
 er l 6 27 a λu=>
 rO 3 6 6 u λt=>
 br (some t) (
 lG 47 λn=>
 bH l 47 d n λi H2=>
 eO H2 d 47 λo=>
 Q (.tup [o,(.v (.int .i64 8))]) H2) (
 bC true l 10 126 [a] λn H2=>
 fO H2 4 178 λi p=>
 bH p 178 i n λo h=>
 aj 178 i 1 λq=>
 af h 22 q λw=>
 rO 22 12 0 w λs=>
 br (some s) (
 lG 47 λe=>
 aj 178 i 1 λc=>
 af h 22 c λk=>
 bH h 47 d e λj f=>
  vN [(c,d)] [d] [] f /\
 (eO f d 47 λm=>
 Q (.tup [m,k]) f)) (
 aj 178 i 0 λe=>
 af h 47 e λc=>
 bH h 47 d c λk f=>
 eO f d 47 λj=>
 Q (.tup [j,(.v (.int .i64 0))]) f))
theorem Bn(h : ∀g:iv,uR a H Q):ia Tryz.f100 0 [(0,a)] H Q:=me (by kernel_rfl) h
def E5:Prop:=
 fO H 2 49 λe l=>
 er l 7 27 a λz=>
 rO 3 7 13 z λy=>
 br (some y) (
 lG 49 λp=>
 bH l 49 e p λs H2=>
 eO H2 e 49 λn=>
 Q (.tup [n,(.v (.int .i64 8))]) H2) (
 bC false l 11 126 [a] λp H2=>
 fg (qN env.P 178 (some p) 0) λs=>
 fg (dm env.P (ab.get H2) 27 (some a) (oi (.v (.int .i64 6))) (some none) (some none)) λn=>
 bC false H2 15 142 [n] λx u=>
 C2 49 0 s 1 x λA=>
 fO u 4 49 λm w=>
 bH w 49 m A λt q=>
 af q 49 m λo=>
 bC true q 18 139 [o] λf i=>
 rO 22 19 0 f λj=>
 br (some j) (
 lG 49 λd=>
 bH i 49 e d λk h=>
 eO h e 49 λc=>
 Q (.tup [c,f]) h) (
 af i 49 m λd=>
 bH i 49 e d λk h=>
 eO h e 49 λc=>
 Q (.tup [c,(.v (.int .i64 0))]) h))
theorem KF(h : ∀g:iv,E5 a H Q):ia Tryz.f143 0 [(0,a)] H Q:=me (by kernel_rfl) h
def p7:Prop:=
 gr H 1 47 a λc q=>
 af q 47 c λB=>
 bC true q 6 114 [B] λs H2=>
 rO 22 7 0 s λA=>
 br (some A) (
 Q (.tup [(.v (.slice none 0 0)),s]) H2) (
 aj 47 c 0 λw=>
 aj 45 w 0 λy=>
 af H2 5 y λu=>
 Mb H2 13 27 1 0 u λC h=>
 aj 47 c 0 λx=>
 aj 45 x 1 λe=>
 af h 43 e λm=>
 fN h 17 43 3 m λl=>
 bC false h 18 115 [l,(.v (.int .i64 4))] λj o=>
 jF (dK env.P false o (Ref.mk 0 19 (ab.gen o 0 19) 0) (some 27) (some 27) C j) λn p=>
 aj 47 c 1 λk=>
 af p 5 k λf=>
 Mb p 22 27 1 0 f λi t=>
 fj t 23 27 27 n i λd z=>
 Q (.tup [d,(.v (.int .i64 0))]) z)
theorem Bm(h : ∀g:iv,p7 a H Q):ia Tryz.f89 0 [(0,a)] H Q:=me (by kernel_rfl) h
def zB:Prop:=
 gr H 1 49 a λe k=>
 af k 49 e λt=>
 bC true k 8 139 [t] λl H2=>
 rO 22 9 0 l λs=>
 br (some s) (
 Q (.tup [(.v (.slice none 0 0)),l]) H2) (
 aj 49 e 0 λo=>
 af H2 47 o λq=>
 bC true H2 15 89 [q] λj i=>
 ep j 0 λu=>
 ep j 1 λp=>
 aj 49 e 1 λc=>
 af i 3 c λh=>
 bC true i 21 115 [h,(.v (.int .i64 7))] λf m=>
 fj m 22 27 27 u f λd n=>
 Q (.tup [d,p]) n)
theorem KE(h : ∀g:iv,zB a H Q):ia Tryz.f117 0 [(0,a)] H Q:=me (by kernel_rfl) h
def eN:Prop:=
 Mn 52 3 a λf=>
 br (some f) (
 Q (.v (.slice none 0 0)) H) (
 jF (mn env.P false true H (Ref.mk 0 5 (ab.gen H 0 5) 0) 52 0 (some [])) λd e=>
 fj e 7 52 52 d a λc H2=>
 Q c H2)
theorem pJ(h : ∀g:iv,eN a H Q):ia Tryz.f86 0 [(0,a)] H Q:=me (by kernel_rfl) h
end
section
variable(dep:Nat)(g:Nat->AV)(a b c:AV)(H:ab)(Q:AV->ab->Prop)
def iZ:Prop:=
 gr H 1 54 a λi j=>
 aj 54 i 0 λV=>
 af j 5 V λO=>
 fg (bE env.P .eql 5 (Operand.tmp 4) (.const (.int .u8 0)) (some O) (some (a8 0))) λm=>
 gQ m false (az 54 i 0) λS=>
 gQ m false (aW j 5 S) λU=>
 gQ m false (bE env.P .geq 5 (Operand.tmp 8) (.const (.int .u8 4)) (some U) (some (a8 4))) λR=>
 cI m R λk=>
 gQ k false (az 54 i 1) λT=>
 gQ k false (aW j 47 T) λF=>
 gW k false j (jo false j 14 114 [F]) λy H2=>
 gQ k false (zF 22 14 0 y) λx=>
 cI k x λh=>
 gQ h false (az 54 i 2) λL=>
 gQ h false (aW H2 3 L) λw=>
 gQ h false (C5 3 19 1 w) λo=>
 cI h o λf=>
 gQ f false (az 54 i 2) λC=>
 gQ f false (aW H2 3 C) λB=>
 gQ f false (C6 3 24 16777216 B) λu=>
 cI f u λe=>
 gQ e false (az 54 i 3) λD=>
 gQ e false (aW H2 51 D) λz=>
 gW e false H2 (jo false H2 30 137 [z]) λK M=>
 gQ e false (zF 22 30 0 K) λA=>
 cI e A λd=>
 gW d false M (jo false M 34 138 []) λJ l=>
 gQ d false (az 54 i 0) λG=>
 gQ d false (aW l 5 G) λs=>
 gQ d false (tk env.P 194 (some J) (some s)) λp=>
 gQ d false (qN env.P 193 (some p) 0) λt=>
 gQ d false (aW l 54 i) λI=>
 gW d false l (Mg l 40 t I) λE N=>
 gQ d false (qY E) λq=>
 cI d q λn=>
 br (some n) (
 Q (.v (.int .i64 8)) N) (
 Q (.v (.int .i64 0)) N)
theorem Ir(h : ∀g:iv,iZ a H Q):ia Tryz.f116 0 [(0,a)] H Q:=me (by kernel_rfl) h
def tA:Prop:=
 gr H 1 54 a λh e=>
 aj 54 h 4 λn=>
 af e 49 n λl=>
 lG 49 λm=>
 tI 49 4 5 l m λd=>
 gQ d true (az 54 h 6) λj=>
 gQ d true (aW e 52 j) λo=>
 gQ d true (vW e 10 52 o) λk=>
 gQ d true (BT 3 10 0 k) λi=>
 dy d i λf=>
 Q f e
theorem Fj(h : ∀g:iv,tA a H Q):ia Tryz.f144 0 [(0,a)] H Q:=me (by kernel_rfl) h
def yT:Prop:=
 gr H 1 54 a λj d=>
 aj 54 j 5 λi=>
 af d 45 i λf=>
 bC false d 5 141 [] λh H2=>
 tI 45 4 5 f h λe=>
 Q e H2
theorem Fi(h : ∀g:iv,yT a H Q):ia Tryz.f145 0 [(0,a)] H Q:=me (by kernel_rfl) h
def xN:Prop:=
 fO H 0 45 λd h=>
 lG 45 λf=>
 bH h 45 d f λi H2=>
 eO H2 d 45 λe=>
 Q e H2
theorem DK(h : ∀g:iv,xN H Q):ia Tryz.f141 0 [] H Q:=me (by kernel_rfl) h
def gZ:Prop:=
 gr H 2 54 a λi l=>
 aj 54 i 4 λS=>
 af l 49 S λL=>
 lG 49 λR=>
 tI 49 6 7 L R λj=>
 gQ j false (az 54 i 4) λP=>
 gQ j false (aW l 49 P) λM=>
 gW j false l (jo true l 12 139 [M]) λT H2=>
 gQ j false (BT 22 12 0 T) λO=>
 cI j O λB=>
 af H2 127 b λv=>
 af H2 54 i λu=>
 HZ H2 17 v u λk h=>
 gQ k true (cf B) λJ=>
 dy k J λd=>
 gQ d true (az 54 i 3) λn=>
 gQ d true (az 51 n 0) λD=>
 gQ d true (az 49 D 0) λy=>
 gQ d true (aW h 47 y) λx=>
 gQ d true (az 54 i 1) λt=>
 gQ d true (aW h 47 t) λI=>
 gQ d true (iA 47 25 27 x I) λz=>
 dy d z λe=>
 gQ e true (az 54 i 6) λG=>
 gQ e true (aW h 52 G) λw=>
 gQ e true (vW h 33 52 w) λp=>
 gQ e true (az 54 i 3) λF=>
 gQ e true (az 51 F 1) λC=>
 gQ e true (aW h 3 C) λs=>
 gQ e true (iA 3 33 36 p s) λo=>
 dy e o λf=>
 gQ f true (az 54 i 6) λE=>
 gQ f true (aW h 52 E) λA=>
 gW f true h (jo true h 42 140 [A]) λq N=>
 gQ f true (BT 22 42 0 q) λm=>
 dy f m λK=>
 Q K N
theorem Fh(h : ∀g:iv,gZ a b H Q):ia Tryz.f146 0 [(0,a),(1,b)] H Q:=me (by kernel_rfl) h
def yS:Prop:=
 gr H 3 54 a λf e=>
 af e 127 b λm=>
 af e 54 f λl=>
 HZ e 7 m l λd H2=>
 gQ d true (aW H2 127 c) λh=>
 gQ d true (aW H2 54 f) λi=>
 gW d true H2 (Mg H2 11 h i) λn k=>
 dy d n λj=>
 Q j k
theorem Fg(h : ∀g:iv,yS a b c H Q):ia Tryz.f148 0 [(0,a),(1,b),(2,c)] H Q:=me (by kernel_rfl) h
def yR:Prop:=
 gr H 2 54 a λf e=>
 af e 127 b λn=>
 af e 54 f λm=>
 HZ e 6 n m λd H2=>
 gQ d true (az 54 f 5) λh=>
 gQ d true (aW H2 45 h) λj=>
 gW d true H2 (jo true H2 10 136 [j]) λo l=>
 gQ d true (BT 22 10 0 o) λk=>
 dy d k λi=>
 Q i l
theorem Ff(h : ∀g:iv,yR a b H Q):ia Tryz.f150 0 [(0,a),(1,b)] H Q:=me (by kernel_rfl) h
def cN:Prop:=
 gr H 2 54 a λj V=>
 gr V 3 54 b λk H2=>
 aj 54 j 0 λT=>
 af H2 5 T λY=>
 aj 54 k 0 λU=>
 af H2 5 U λX=>
 tI 5 6 8 Y X λl=>
 gQ l true (az 54 j 1) λZ=>
 gQ l true (aW H2 47 Z) λW=>
 gQ l true (az 54 k 1) λE=>
 gQ l true (aW H2 47 E) λy=>
 gQ l true (iA 47 12 14 W y) λx=>
 dy l x λi=>
 gQ i true (az 54 j 2) λP=>
 gQ i true (aW H2 3 P) λw=>
 gQ i true (az 54 k 2) λn=>
 gQ i true (aW H2 3 n) λI=>
 gQ i true (iA 3 19 21 w I) λB=>
 dy i B λh=>
 gQ h true (az 54 j 3) λv=>
 gQ h true (aW H2 51 v) λO=>
 gQ h true (az 54 k 3) λC=>
 gQ h true (aW H2 51 C) λz=>
 gQ h true (iA 51 26 28 O z) λN=>
 dy h N λf=>
 gQ f true (az 54 j 4) λq=>
 gQ f true (aW H2 49 q) λK=>
 gQ f true (az 54 k 4) λG=>
 gQ f true (aW H2 49 G) λt=>
 gQ f true (iA 49 33 35 K t) λp=>
 dy f p λe=>
 gQ e true (az 54 j 5) λJ=>
 gQ e true (aW H2 45 J) λD=>
 gQ e true (az 54 k 5) λs=>
 gQ e true (aW H2 45 s) λm=>
 gQ e true (iA 45 40 42 D m) λR=>
 dy e R λd=>
 gQ d true (az 54 j 6) λo=>
 gQ d true (aW H2 52 o) λA=>
 gQ d true (az 54 k 6) λL=>
 gQ d true (aW H2 52 L) λF=>
 gW d true H2 (jo true H2 50 87 [A,F]) λM S=>
 dy d M λu=>
 Q u S
theorem ue(h : ∀g:iv,cN a b H Q):ia Tryz.f43 0 [(0,a),(1,b)] H Q:=me (by kernel_rfl) h
def m6:Prop:=
 gr H 2 54 a λv1 H1=>
 gr H1 3 54 b λY H2=>
 af H2 54 v1 λv3=>
 af H2 54 Y λv4=>
 fO H2 5 54 λl Z=>
 fO Z 6 54 λm H4=>
 bH H4 54 l v3 λv7 H5=>
 bH H5 54 m v4 λv8 d=>
  vN [(Y,l)] [l,m] [] d /\
 (aj 54 l 0 λv9=>
 af d 5 v9 λF=>
 aj 54 m 0 λy=>
 af d 5 y λx=>
 tI 5 10 12 F x λk=>
 gQ k true (az 54 l 1) λU=>
 gQ k true (aW d 47 U) λw=>
 gQ k true (az 54 m 1) λo=>
 gQ k true (aW d 47 o) λJ=>
 gQ k true (iA 47 16 18 w J) λC=>
 dy k C λj=>
 gQ j true (az 54 l 2) λv=>
 gQ j true (aW d 3 v) λT=>
 gQ j true (az 54 m 2) λD=>
 gQ j true (aW d 3 D) λz=>
 gQ j true (iA 3 23 25 T z) λR=>
 dy j R λi=>
 gQ i true (az 54 l 3) λs=>
 gQ i true (aW d 51 s) λL=>
 gQ i true (az 54 m 3) λI=>
 gQ i true (aW d 51 I) λu=>
 gQ i true (iA 51 30 32 L u) λq=>
 dy i q λh=>
 gQ h true (az 54 l 4) λK=>
 gQ h true (aW d 49 K) λE=>
 gQ h true (az 54 m 4) λt=>
 gQ h true (aW d 49 t) λn=>
 gQ h true (iA 49 37 39 E n) λV=>
 dy h V λe=>
 gQ e true (az 54 l 5) λp=>
 gQ e true (aW d 45 p) λA=>
 gQ e true (az 54 m 5) λN=>
 gQ e true (aW d 45 N) λG=>
 gQ e true (iA 45 44 46 A G) λO=>
 dy e O λf=>
 gQ f true (az 54 l 6) λM=>
 gQ f true (aW d 52 M) λP=>
 gQ f true (az 54 m 6) λX=>
 gQ f true (aW d 52 X) λW=>
 gW f true d (jo true d 54 88 [P,W]) λS H7=>
 dy f S λB=>
 Q B H7)
theorem KC(h : ∀g:iv,m6 a b H Q):ia Tryz.f45 0 [(0,a),(1,b)] H Q:=me (by kernel_rfl) h
def CA:Prop:=
 gr H 1 54 a λj d=>
 aj 54 j 6 λi=>
 af d 52 i λf=>
 bC true d 5 105 [f,(.v (.int .i32 (-1)))] λh H2=>
 oS h λe=>
 Q e H2
theorem Iq(h : ∀g:iv,CA a H Q):ia Tryz.f69 0 [(0,a)] H Q:=me (by kernel_rfl) h
def jv:Prop:=
 bC true H 7 132 [a,b] λf e=>
 FE 3 7 0 f λd=>
 Q d e
theorem oQ(h : ∀g:iv,jv a b H Q):ia Tryz.f105 0 [(0,a),(1,b)] H Q:=me (by kernel_rfl) h
def dZ:=yr Tryz.f132 2
def kB:Nat->Option (List Nat):=λi=>cond (Nat.beq i 2) (some [8,0,1,7]) (none)
def kK:Prop:=
 er H 7 52 a λd=>
  bL env Tryz.f132 0 dZ [(8,(.v (.int .i64 0))),(0,a),(1,b),(7,d)] H Q
theorem pH(h : ∀g:iv,kK a b H Q):ia Tryz.f132 0 [(0,a),(1,b)] H Q:=zR kB (by kernel_rfl) h
def ei(g:Nat->AV)(d a b e:AV)(H:ab)(Q:AV->ab->Prop):Prop:=
 kn 3 8 7 d e λh=>
 br (some h) (
 fJ H 52 a d λk=>
 af H 21 k λj=>
 tI 21 11 15 b j λi=>
 br (some i) (
 Q d H) (
 lf 3 8 1 d λf=>
  bL env Tryz.f132 0 dZ [(8,f),(0,a),(1,b),(7,e)] H Q)) (
 Q (.v (.int .i64 (-1))) H)
theorem jJ(d a b e:AV)(H:ab)(Q:AV->ab->Prop)(h : ∀g,ei g d a b e H Q):bL env Tryz.f132 0 dZ [(8,d),(0,a),(1,b),(7,e)] H Q:=y8 kB (by kernel_rfl) h
def zy:Prop:=
 gr H 1 54 a λd k=>
 fO k 2 54 λi H2=>
 aj 54 d 6 λo=>
 af H2 52 o λp=>
 bC true H2 5 86 [p] λj n=>
 aj 54 d 6 λl=>
 bH n 52 l j λs h=>
 af h 54 d λm=>
 bH h 54 i m λq f=>
 eO f i 54 λe=>
 Q e f
theorem DJ(h : ∀g:iv,zy a H Q):ia Tryz.f42 0 [(0,a)] H Q:=me (by kernel_rfl) h
def uO:Code:=(Tryz.f6.body).getD .skip
def gB:=yr Tryz.f6 3
def oE:Nat->Option (List Nat):=λi=>cond (Nat.beq i 3) (some [4,1,3,2]) (none)
def oM:Prop:=
 gr H 1 26 a λf e=>
 fO e 2 26 λd H2=>
  bL env Tryz.f6 0 gB [(4,(.v (.int .i64 0))),(1,f),(3,(.v (.slice none 0 0))),(2,d)] H2 Q
theorem tX(h : ∀g:iv,oM a H Q):ia Tryz.f6 0 [(0,a)] H Q:=zR oE (by kernel_rfl) h
def jE(g:Nat->AV)(e b x3 c:AV)(H:ab)(Q:AV->ab->Prop):Prop:=
 aj 26 b 8 λq=>
 af H 24 q λp=>
 er H 8 24 p λt=>
 kn 3 5 8 e t λs=>
 br (some s) (
 aj 26 b 8 λh=>
 af H 24 h λm=>
 fJ H 24 m e λl=>
 af H 54 l λn=>
 bC true H 18 35 [n] λi d=>
 sA d 19 24 1 0 i λf H2=>
 fj H2 20 24 24 x3 f λk o=>
 lf 3 10 1 e λj=>
  bL env Tryz.f6 0 gB [(4,j),(1,b),(3,k),(2,c)] o Q) (
 aj 26 b 8 λh=>
 bH H 24 h x3 λm d=>
 af d 26 b λl=>
 bH d 26 c l λn H2=>
 eO H2 c 26 λi=>
 Q i H2)
theorem nu(d b x3 c:AV)(H:ab)(Q:AV->ab->Prop)(h : ∀g,jE g d b x3 c H Q):bL env Tryz.f6 0 gB [(4,d),(1,b),(3,x3),(2,c)] H Q:=y8 oE (by kernel_rfl) h
def lD:Prop:=
 gr H 1 26 a λe d=>
 af d 26 e λl=>
 bC true d 5 37 [l] λj H2=>
 oS j λk=>
 br (some k) (
 Q (.tup [(.v (.slice none 0 0)),(.v (.int .i64 8))]) H2) (
 af H2 26 e λf=>
 bC true H2 8 38 [f] λh i=>
 Q (.tup [h,(.v (.int .i64 0))]) i)
theorem oW(h : ∀g:iv,lD a H Q):ia Tryz.f8 0 [(0,a)] H Q:=me (by kernel_rfl) h
def nX:Prop:=
 gr H 1 26 a λi d=>
 af d 26 i λh=>
 bC true d 4 37 [h] λe H2=>
 oS e λf=>
 br (some f) (
 Q (.v (.int .i64 8)) H2) (
 Q (.v (.int .i64 0)) H2)
theorem s9(h : ∀g:iv,nX a H Q):ia Tryz.f14 0 [(0,a)] H Q:=me (by kernel_rfl) h
def pC:Prop:=
 gr H 1 26 a λf e=>
 af e 26 f λk=>
 bC true e 4 37 [k] λd H2=>
 gQ d true (az 26 f 0) λj=>
 gQ d true (aW H2 5 j) λh=>
 gQ d true (bE env.P .leq 5 (Operand.tmp 7) (.const (.int .u8 5)) (some h) (some (a8 5))) λi=>
 dy d i λl=>
 Q l H2
theorem wM(h : ∀g:iv,pC a H Q):ia Tryz.f16 0 [(0,a)] H Q:=me (by kernel_rfl) h
def aw:Prop:=
 gr H 1 26 a λe I=>
 aj 26 e 0 λv2=>
 af I 5 v2 λv3=>
 fg (bE env.P .lss 5 (Operand.tmp 4) (.const (.int .u8 1)) (some v3) (some (a8 1))) λJ=>
 gQ J false (az 26 e 0) λv5=>
 gQ J false (aW I 5 v5) λv6=>
 gQ J false (bE env.P .gtr 5 (Operand.tmp 8) (.const (.int .u8 10)) (some v6) (some (a8 10))) λv7=>
 cI J v7 λu=>
 gQ u false (aW I 26 e) λv9=>
 gW u false I (jo false I 13 78 [v9]) λv10 H2=>
 gQ u false (az 26 e 0) λv11=>
 gQ u false (aW H2 5 v11) λv12=>
 gQ u false (lz env.P 26 (some [(0,v12)])) λv13=>
 gW u false H2 (jo false H2 17 12 [v10,v13]) λv14 F=>
 gQ u false (qY v14) λv15=>
 cI u v15 λv16=>
 br (some v16) (
 Q (.v (.bool false)) F) (
 aj 26 e 1 λY=>
 af F 3 Y λU=>
 wV 3 21 0 U λs=>
 gQ s false (az 26 e 1) λO=>
 gQ s false (aW F 3 O) λv21=>
 gQ s false (zG 3 25 255 v21) λv22=>
 cI s v22 λo=>
 gQ o false (az 26 e 2) λv24=>
 gQ o false (aW F 3 v24) λR=>
 gW o false F (jo true F 31 79 [R]) λv26 G=>
 gQ o false (qY v26) λv27=>
 cI o v27 λt=>
 gQ t false (az 26 e 3) λN=>
 gQ t false (aW G 22 N) λL=>
 gQ t false (C5 22 36 0 L) λv31=>
 cI t v31 λq=>
 gQ q false (az 26 e 3) λv33=>
 gQ q false (aW G 22 v33) λM=>
 gQ q false (C6 22 41 65536 M) λv35=>
 cI q v35 λk=>
 gQ k false (az 26 e 4) λv37=>
 gQ k false (aW G 3 v37) λv38=>
 gW k false G (jo true G 47 79 [v38]) λv39 H5=>
 gQ k false (qY v39) λv40=>
 cI k v40 λj=>
 gQ j false (az 26 e 5) λv42=>
 gQ j false (aW H5 3 v42) λv43=>
 gW j false H5 (jo true H5 53 79 [v43]) λv44 V=>
 gQ j false (qY v44) λv45=>
 cI j v45 λl=>
 gQ l false (az 26 e 7) λv47=>
 gQ l false (aW V 23 v47) λv48=>
 gW l false V (jo true V 59 80 [v48]) λS H7=>
 gQ l false (qY S) λv50=>
 cI l v50 λp=>
 gQ p false (az 26 e 8) λv52=>
 gQ p false (aW H7 24 v52) λW=>
 gW p false H7 (jo true H7 65 81 [W,(.v (.int .i64 3))]) λv54 f=>
 gQ p false (qY v54) λv55=>
 cI p v55 λZ=>
 br (some Z) (
 Q (.v (.bool false)) f) (
 aj 26 e 0 λT=>
 af f 5 T λK=>
 HX 5 69 K λX=>
 br (some X) (
 aj 26 e 8 λD=>
 af f 24 D λx=>
 er f 73 24 x λi=>
 BU 3 73 1 i λh=>
 gQ h true (az 26 e 8) λB=>
 gQ h true (aW f 24 B) λE=>
 gQ h true (Ma f 24 E 0) λz=>
 gQ h true (aW f 54 z) λn=>
 gW h true f (jo true f 80 82 [n]) λm H9=>
 dy h m λd=>
 Q d H9) (
 aj 26 e 0 λD=>
 af f 5 D λx=>
 Mf 5 83 x λi=>
 gQ i false (az 26 e 0) λh=>
 gQ i false (aW f 5 h) λB=>
 gQ i false (Pz 5 87 B) λE=>
 cI i E λz=>
 br (some z) (
 aj 26 e 6 λn=>
 af f 5 n λm=>
 wU 5 91 m λd=>
 gQ d false (az 26 e 6) λw=>
 gQ d false (aW f 5 w) λC=>
 gQ d false (Py 5 95 C) λA=>
 cI d A λy=>
 Q y f) (
 aj 26 e 0 λn=>
 af f 5 n λm=>
 fg (bE env.P .neq 5 (Operand.tmp 99) (.const (.int .u8 7)) (some m) (some (a8 7))) λd=>
 gQ d false (az 26 e 2) λw=>
 gQ d false (aW f 3 w) λC=>
 gQ d false (zG 3 103 0 C) λA=>
 cI d A λy=>
 Q y f))))
theorem vc(h : ∀g:iv,aw a H Q):ia Tryz.f37 0 [(0,a)] H Q:=me (by kernel_rfl) h
def fA:=yr Tryz.f39 3
def nB:Nat->Option (List Nat):=λi=>cond (Nat.beq i 3) (some [8,0,7,2,1]) (none)
def nF:Prop:=
 bL env Tryz.f39 0 fA [(8,b),(0,a),(7,(.v (.int .i64 0))),(2,c),(1,b)] H Q
theorem sx(h : ∀g:iv,nF a b c H Q):ia Tryz.f39 0 [(0,a),(1,b),(2,c)] H Q:=zR nB (by kernel_rfl) h
def fF(g:Nat->AV)(e a k c b:AV)(H:ab)(Q:AV->ab->Prop):Prop:=
 rM 3 11 12 b c λn=>
 kn 3 10 13 e n λd=>
 gQ d true (cf e) λq=>
 gQ d true (cf a) λp=>
 gQ d true (vW H 18 27 p) λl=>
 gQ d true (L5 3 16 18 q l) λo=>
 dy d o λs=>
 br (some s) (
 vX 3 256 23 k λt=>
 fJ H 27 a e λm=>
 af H 5 m λf=>
 fN H 29 5 3 f λj=>
 rM 3 24 29 t j λi=>
 lf 3 21 1 e λh=>
  bL env Tryz.f39 0 fA [(8,h),(0,a),(7,i),(2,c),(1,b)] H Q) (
 Q k H)
theorem iI(d a e c b:AV)(H:ab)(Q:AV->ab->Prop)(h : ∀g,fF g d a e c b H Q):bL env Tryz.f39 0 fA [(8,d),(0,a),(7,e),(2,c),(1,b)] H Q:=y8 nB (by kernel_rfl) h
def uN:Code:=(Tryz.f40.body).getD .skip
def eP:=yr Tryz.f40 3
def oD:Nat->Option (List Nat):=λi=>cond (Nat.beq i 3) (some [7,8,1,0,2]) (none)
def oL:Prop:=
 bL env Tryz.f40 0 eP [(7,(.v (.slice none 0 0))),(8,(.v (.int .i64 0))),(1,b),(0,a),(2,c)] H Q
theorem tV(h : ∀g:iv,oL a b c H Q):ia Tryz.f40 0 [(0,a),(1,b),(2,c)] H Q:=zR oD (by kernel_rfl) h
def eR(g:Nat->AV)(n s b a c:AV)(H:ab)(Q:AV->ab->Prop):Prop:=
 kn 3 12 13 s c λd=>
 gQ d true (cf b) λD=>
 gQ d true (cf a) λt=>
 gQ d true (vW H 18 27 t) λC=>
 gQ d true (Pw 3 16 18 D C) λx=>
 dy d x λB=>
 br (some B) (
 L9 H 27 a b λu=>
 bC true H 27 85 [u] λq z=>
 ep q 0 λA=>
 ep q 1 λm=>
 ep q 2 λj=>
 fO z 9 54 λe H2=>
 bH H2 54 e A λy h=>
 rO 3 31 0 j λp=>
 br (some p) (
 Q n h) (
 af h 54 e λi=>
 sA h 36 24 1 0 i λf v=>
 fj v 37 24 24 n f λo w=>
 rM 3 38 39 b m λl=>
 lf 3 21 1 s λk=>
  bL env Tryz.f40 0 eP [(7,o),(8,k),(1,l),(0,a),(2,c)] w Q)) (
 Q n H)
theorem gA(e d b a c:AV)(H:ab)(Q:AV->ab->Prop)(h : ∀g,eR g e d b a c H Q):bL env Tryz.f40 0 eP [(7,e),(8,d),(1,b),(0,a),(2,c)] H Q:=y8 oD (by kernel_rfl) h
def j8:Prop:=
 FE 3 3 0 a λd=>
 gQ d true (cf a) λe=>
 gQ d true (C5 3 6 16777216 e) λh=>
 dy d h λf=>
 Q f H
theorem sZ(h : ∀g:iv,j8 a H Q):ia Tryz.f79 0 [(0,a)] H Q:=me (by kernel_rfl) h
def oK:Prop:=
 gr H 1 23 a λh o=>
 nj o 23 h 0 λy=>
 af o 3 y λx=>
 bC true o 5 79 [x] λi H2=>
 gQ i true (Ma H2 23 h 1) λu=>
 gQ i true (aW H2 3 u) λw=>
 gW i true H2 (jo true H2 9 79 [w]) λs e=>
 dy i s λj=>
 gQ j true (Ma e 23 h 2) λv=>
 gQ j true (aW e 3 v) λk=>
 gW j true e (jo true e 14 79 [k]) λp f=>
 dy j p λd=>
 gQ d true (Ma f 23 h 3) λm=>
 gQ d true (aW f 3 m) λq=>
 gW d true f (jo true f 19 79 [q]) λn t=>
 dy d n λl=>
 Q l t
theorem tU(h : ∀g:iv,oK a H Q):ia Tryz.f80 0 [(0,a)] H Q:=me (by kernel_rfl) h
def gX:=yr Tryz.f81 2
def o2:Nat->Option (List Nat):=λi=>cond (Nat.beq i 2) (some [5,0,1]) (none)
def pf:Prop:=
 bL env Tryz.f81 0 gX [(5,(.v (.int .i64 0))),(0,a),(1,b)] H Q
theorem uZ(h : ∀g:iv,pf a b H Q):ia Tryz.f81 0 [(0,a),(1,b)] H Q:=zR o2 (by kernel_rfl) h
def dO(g:Nat->AV)(i a b:AV)(H:ab)(Q:AV->ab->Prop):Prop:=
 er H 8 24 a λn=>
 kn 3 6 8 i n λd=>
 gQ d true (cf a) λq=>
 gQ d true (vW H 12 24 q) λp=>
 gQ d true (cf b) λm=>
 gQ d true (Pw 3 12 13 p m) λo=>
 dy d o λs=>
 br (some s) (
 fJ H 24 a i λk=>
 af H 54 k λf=>
 bC true H 22 96 [f] λe l=>
 oS e λj=>
 br (some j) (
 Q (.v (.bool false)) l) (
 lf 3 16 1 i λh=>
  bL env Tryz.f81 0 gX [(5,h),(0,a),(1,b)] l Q)) (
 er H 25 24 a λk=>
 fg (bE env.P .leq 3 (Operand.tmp 25) (Operand.tmp 26) (some k) (some b)) λf=>
 Q f H)
theorem nM(d a b:AV)(H:ab)(Q:AV->ab->Prop)(h : ∀g,dO g d a b H Q):bL env Tryz.f81 0 gX [(5,d),(0,a),(1,b)] H Q:=y8 o2 (by kernel_rfl) h
def nV:Prop:=
 zH 3 3 65536 a λf=>
 fN H 5 3 5 f λl=>
 zH 3 6 256 a λk=>
 tK 3 7 256 k λj=>
 fN H 9 3 5 j λd=>
 tK 3 10 256 a λh=>
 fN H 12 3 5 h λm=>
 HY H 13 27 3 0 l 1 d 2 m λi e=>
 Q i e
theorem sY(h : ∀g:iv,nV a H Q):ia Tryz.f83 0 [(0,a)] H Q:=me (by kernel_rfl) h
end
section
def bR:Code:=(Tryz.f78.body).getD .skip
def gH:List Item:=(fe 4 400 [.code bR]).getD []
def gG:List Item:=(fe 6 400 [.code bR]).getD []
def gE:List Item:=(fe 8 400 [.code bR]).getD []
def gj:List Item:=(fe 10 400 [.code bR]).getD []
def gh:List Item:=(fe 12 400 [.code bR]).getD []
def gf:List Item:=(fe 14 400 [.code bR]).getD []
def fZ:List Item:=(fe 16 400 [.code bR]).getD []
def fY:List Item:=(fe 18 400 [.code bR]).getD []
def cm:Nat->Option (List Nat):=λi=>cond (Nat.beq i 4) (some [2,1,3]) (cond (Nat.beq i 6) (some [2,1,3]) (cond (Nat.beq i 8) (some [2,1,3]) (cond (Nat.beq i 10) (some [2,1,3]) (cond (Nat.beq i 12) (some [2,1,3]) (cond (Nat.beq i 14) (some [2,1,3]) (cond (Nat.beq i 16) (some [2,1,3]) (cond (Nat.beq i 18) (some [2,1]) (none))))))))
def ct:Nat->Bool:=λi=>cond (Nat.beq i 4) true (cond (Nat.beq i 6) true (cond (Nat.beq i 8) true (cond (Nat.beq i 10) true (cond (Nat.beq i 12) true (cond (Nat.beq i 14) true (cond (Nat.beq i 16) true (cond (Nat.beq i 18) true (false))))))))
def kO(g:Nat->AV)(h:AV)(H:ab)(Q:AV->ab->Prop):Prop:=
 gr H 1 26 h λa e=>
 fO e 2 26 λc H2=>
 aj 26 a 0 λj=>
 af H2 5 j λb=>
 wU 5 6 b λd=>
 br (some d) (
 aj 26 a 1 λf=>
 FB H2 3 f 0 λk i=>
  bL env Tryz.f78 0 gH [(2,c),(1,a),(3,b)] i Q) (
  bL env Tryz.f78 0 gH [(2,c),(1,a),(3,b)] H2 Q)
def tW(a:AV)(H:ab)(Q:AV->ab->Prop)(h : ∀g,kO g a H Q):bL env Tryz.f78 0 [.code bR] [(0,a)] H Q:=⟨λg=>kZ (live:=cm) (cut:=ct) (n:=500) (Eq.mp (by kernel_rfl) (h g))⟩
def jD(g:Nat->AV)(b a x3:AV)(H:ab)(Q:AV->ab->Prop):Prop:=
 Me 5 9 x3 λd=>
 br (some d) (
 aj 26 a 2 λe=>
 FB H 3 e 0 λf c=>
  bL env Tryz.f78 0 gG [(2,b),(1,a),(3,x3)] c Q) (
  bL env Tryz.f78 0 gG [(2,b),(1,a),(3,x3)] H Q)
def np(a b x3:AV)(H:ab)(Q:AV->ab->Prop)(h : ∀g,jD g a b x3 H Q):bL env Tryz.f78 0 gH [(2,a),(1,b),(3,x3)] H Q:=⟨λg=>kZ (live:=cm) (cut:=(λi=>cond (Nat.beq i 4) false (ct i))) (n:=500) (Eq.mp (by kernel_rfl) (h g))⟩
def jC(g:Nat->AV)(d c x3:AV)(H:ab)(Q:AV->ab->Prop):Prop:=
 PA 5 12 x3 λa=>
 gQ a false (cf x3) λf=>
 gQ a false (bE env.P .eql 5 (Operand.tmp 15) (.const (.int .u8 7)) (some f) (some (a8 7))) λk=>
 cI a k λb=>
 gQ b false (cf x3) λh=>
 gQ b false (UU 5 19 h) λj=>
 cI b j λl=>
 br (some l) (
 aj 26 c 3 λe=>
 FB H 22 e 0 λm i=>
  bL env Tryz.f78 0 gE [(2,d),(1,c),(3,x3)] i Q) (
  bL env Tryz.f78 0 gE [(2,d),(1,c),(3,x3)] H Q)
def nn(a b x3:AV)(H:ab)(Q:AV->ab->Prop)(h : ∀g,jC g a b x3 H Q):bL env Tryz.f78 0 gG [(2,a),(1,b),(3,x3)] H Q:=⟨λg=>kZ (live:=cm) (cut:=(λi=>cond (Nat.beq i 6) false (ct i))) (n:=500) (Eq.mp (by kernel_rfl) (h g))⟩
def jB(g:Nat->AV)(c b x3:AV)(H:ab)(Q:AV->ab->Prop):Prop:=
 wT 5 23 x3 λa=>
 gQ a false (cf x3) λi=>
 gQ a false (Px 5 26 i) λh=>
 cI a h λf=>
 br (some f) (
 aj 26 b 4 λd=>
 FB H 3 d 0 λj e=>
  bL env Tryz.f78 0 gj [(2,c),(1,b),(3,x3)] e Q) (
  bL env Tryz.f78 0 gj [(2,c),(1,b),(3,x3)] H Q)
def nm(a b x3:AV)(H:ab)(Q:AV->ab->Prop)(h : ∀g,jB g a b x3 H Q):bL env Tryz.f78 0 gE [(2,a),(1,b),(3,x3)] H Q:=⟨λg=>kZ (live:=cm) (cut:=(λi=>cond (Nat.beq i 8) false (ct i))) (n:=500) (Eq.mp (by kernel_rfl) (h g))⟩
def jh(g:Nat->AV)(b a x3:AV)(H:ab)(Q:AV->ab->Prop):Prop:=
 HW 5 30 x3 λd=>
 br (some d) (
 aj 26 a 5 λe=>
 FB H 3 e 0 λf c=>
  bL env Tryz.f78 0 gh [(2,b),(1,a),(3,x3)] c Q) (
  bL env Tryz.f78 0 gh [(2,b),(1,a),(3,x3)] H Q)
def mF(a b x3:AV)(H:ab)(Q:AV->ab->Prop)(h : ∀g,jh g a b x3 H Q):bL env Tryz.f78 0 gj [(2,a),(1,b),(3,x3)] H Q:=⟨λg=>kZ (live:=cm) (cut:=(λi=>cond (Nat.beq i 10) false (ct i))) (n:=500) (Eq.mp (by kernel_rfl) (h g))⟩
def jg(g:Nat->AV)(c b x3:AV)(H:ab)(Q:AV->ab->Prop):Prop:=
 Mf 5 33 x3 λa=>
 gQ a false (cf x3) λi=>
 gQ a false (Pz 5 36 i) λh=>
 cI a h λf=>
 br (some f) (
 aj 26 b 6 λd=>
 jF (iu env.P H 5 (some d) (some (a8 0))) λj e=>
  bL env Tryz.f78 0 gf [(2,c),(1,b),(3,x3)] e Q) (
  bL env Tryz.f78 0 gf [(2,c),(1,b),(3,x3)] H Q)
def mE(a b x3:AV)(H:ab)(Q:AV->ab->Prop)(h : ∀g,jg g a b x3 H Q):bL env Tryz.f78 0 gh [(2,a),(1,b),(3,x3)] H Q:=⟨λg=>kZ (live:=cm) (cut:=(λi=>cond (Nat.beq i 12) false (ct i))) (n:=500) (Eq.mp (by kernel_rfl) (h g))⟩
def jf(g:Nat->AV)(b a x3:AV)(H:ab)(Q:AV->ab->Prop):Prop:=
 Md 5 40 x3 λd=>
 br (some d) (
 lG 23 λf=>
 aj 26 a 7 λe=>
 bH H 23 e f λh c=>
  bL env Tryz.f78 0 fZ [(2,b),(1,a),(3,x3)] c Q) (
  bL env Tryz.f78 0 fZ [(2,b),(1,a),(3,x3)] H Q)
def mD(a b x3:AV)(H:ab)(Q:AV->ab->Prop)(h : ∀g,jf g a b x3 H Q):bL env Tryz.f78 0 gf [(2,a),(1,b),(3,x3)] H Q:=⟨λg=>kZ (live:=cm) (cut:=(λi=>cond (Nat.beq i 14) false (ct i))) (n:=500) (Eq.mp (by kernel_rfl) (h g))⟩
def je(g:Nat->AV)(c b x3:AV)(H:ab)(Q:AV->ab->Prop):Prop:=
 HX 5 44 x3 λa=>
 gQ a false (cf x3) λi=>
 gQ a false (Px 5 47 i) λh=>
 cI a h λf=>
 br (some f) (
 aj 26 b 8 λd=>
 FA H 24 d λj e=>
  bL env Tryz.f78 0 fY [(2,c),(1,b)] e Q) (
  bL env Tryz.f78 0 fY [(2,c),(1,b)] H Q)
def mC(a b x3:AV)(H:ab)(Q:AV->ab->Prop)(h : ∀g,je g a b x3 H Q):bL env Tryz.f78 0 fZ [(2,a),(1,b),(3,x3)] H Q:=⟨λg=>kZ (live:=cm) (cut:=(λi=>cond (Nat.beq i 16) false (ct i))) (n:=500) (Eq.mp (by kernel_rfl) (h g))⟩
def m9(g:Nat->AV)(b e:AV)(H:ab)(Q:AV->ab->Prop):Prop:=
 af H 26 e λc=>
 bH H 26 b c λf a=>
 eO a b 26 λd=>
 Q d a
def rQ(a b:AV)(H:ab)(Q:AV->ab->Prop)(h : ∀g,m9 g a b H Q):bL env Tryz.f78 0 fY [(2,a),(1,b)] H Q:=⟨λg=>kZ (live:=cm) (cut:=(λi=>cond (Nat.beq i 18) false (ct i))) (n:=500) (Eq.mp (by kernel_rfl) (h g))⟩
def cF:Code:=(Tryz.f38.body).getD .skip
def gm:List Item:=(fe 5 400 [.code cF]).getD []
def gl:List Item:=(fe 7 400 [.code cF]).getD []
def gk:List Item:=(fe 9 400 [.code cF]).getD []
def fE:List Item:=(fe 11 400 [.code cF]).getD []
def fD:List Item:=(fe 13 400 [.code cF]).getD []
def fC:List Item:=(fe 16 400 [.code cF]).getD []
def bX:=yr Tryz.f38 18
def ef:=yr Tryz.f38 22
def bZ:Nat->Option (List Nat):=λi=>cond (Nat.beq i 5) (some [1,4,3]) (cond (Nat.beq i 7) (some [1,4,3]) (cond (Nat.beq i 9) (some [1,4,3]) (cond (Nat.beq i 11) (some [1,4,3]) (cond (Nat.beq i 13) (some [1,4,3]) (cond (Nat.beq i 16) (some [1,3,4]) (cond (Nat.beq i 18) (some [5,1,3]) (cond (Nat.beq i 22) (some [6,1,3]) (none))))))))
def b9:Nat->Bool:=λi=>cond (Nat.beq i 5) true (cond (Nat.beq i 7) true (cond (Nat.beq i 9) true (cond (Nat.beq i 11) true (cond (Nat.beq i 13) true (cond (Nat.beq i 16) true (false))))))
def nY(g:Nat->AV)(i:AV)(H:ab)(Q:AV->ab->Prop):Prop:=
 gr H 1 26 i λa f=>
 aj 26 a 0 λp=>
 af f 5 p λo=>
 sA f 9 27 1 0 o λh H2=>
 aj 26 a 0 λm=>
 af H2 5 m λd=>
 wU 5 12 d λl=>
 br (some l) (
 aj 26 a 1 λq=>
 af H2 3 q λn=>
 fN H2 17 3 5 n λb=>
 sA H2 18 27 1 0 b λe j=>
 fj j 19 27 27 h e λc k=>
  bL env Tryz.f38 0 gm [(1,a),(4,d),(3,c)] k Q) (
  bL env Tryz.f38 0 gm [(1,a),(4,d),(3,h)] H2 Q)
def ta(a:AV)(H:ab)(Q:AV->ab->Prop)(h : ∀g,nY g a H Q):bL env Tryz.f38 0 [.code cF] [(0,a)] H Q:=⟨λg=>kZ (live:=bZ) (cut:=b9) (n:=500) (Eq.mp (by kernel_rfl) (h g))⟩
def jl(g:Nat->AV)(c a x3:AV)(H:ab)(Q:AV->ab->Prop):Prop:=
 Mf 5 20 a λb=>
 gQ b false (cf a) λl=>
 gQ b false (Pz 5 23 l) λk=>
 cI b k λj=>
 br (some j) (
 aj 26 c 6 λf=>
 af H 5 f λi=>
 sA H 29 27 1 0 i λe h=>
 fj h 30 27 27 x3 e λd H2=>
  bL env Tryz.f38 0 gl [(1,c),(4,a),(3,d)] H2 Q) (
  bL env Tryz.f38 0 gl [(1,c),(4,a),(3,x3)] H Q)
def mJ(b a x3:AV)(H:ab)(Q:AV->ab->Prop)(h : ∀g,jl g b a x3 H Q):bL env Tryz.f38 0 gm [(1,b),(4,a),(3,x3)] H Q:=⟨λg=>kZ (live:=bZ) (cut:=(λi=>cond (Nat.beq i 5) false (b9 i))) (n:=500) (Eq.mp (by kernel_rfl) (h g))⟩
def jk(g:Nat->AV)(b a x3:AV)(H:ab)(Q:AV->ab->Prop):Prop:=
 Me 5 31 a λe=>
 br (some e) (
 aj 26 b 2 λi=>
 af H 3 i λf=>
 bC true H 36 83 [f] λh d=>
 fj d 37 27 27 x3 h λc H2=>
  bL env Tryz.f38 0 gk [(1,b),(4,a),(3,c)] H2 Q) (
  bL env Tryz.f38 0 gk [(1,b),(4,a),(3,x3)] H Q)
def mI(b a x3:AV)(H:ab)(Q:AV->ab->Prop)(h : ∀g,jk g b a x3 H Q):bL env Tryz.f38 0 gl [(1,b),(4,a),(3,x3)] H Q:=⟨λg=>kZ (live:=bZ) (cut:=(λi=>cond (Nat.beq i 7) false (b9 i))) (n:=500) (Eq.mp (by kernel_rfl) (h g))⟩
def ji(g:Nat->AV)(b a x3:AV)(H:ab)(Q:AV->ab->Prop):Prop:=
 PA 5 38 a λi=>
 gQ i false (cf a) λn=>
 gQ i false (bE env.P .eql 5 (Operand.tmp 41) (.const (.int .u8 7)) (some n) (some (a8 7))) λt=>
 cI i t λm=>
 gQ m false (cf a) λo=>
 gQ m false (UU 5 45 o) λs=>
 cI m s λu=>
 br (some u) (
 aj 26 b 3 λv=>
 af H 22 v λp=>
 zH 3 50 256 p λc=>
 fN H 52 3 5 c λk=>
 aj 26 b 3 λj=>
 af H 22 j λf=>
 tK 3 54 256 f λl=>
 fN H 56 3 5 l λh=>
 jF (mn env.P false true H (Ref.mk 0 57 (ab.gen H 0 57) 0) 27 2 (some [(0,k),(1,h)])) λd q=>
 fj q 58 27 27 x3 d λe H2=>
  bL env Tryz.f38 0 fE [(1,b),(4,a),(3,e)] H2 Q) (
  bL env Tryz.f38 0 fE [(1,b),(4,a),(3,x3)] H Q)
def mH(b a x3:AV)(H:ab)(Q:AV->ab->Prop)(h : ∀g,ji g b a x3 H Q):bL env Tryz.f38 0 gk [(1,b),(4,a),(3,x3)] H Q:=⟨λg=>kZ (live:=bZ) (cut:=(λi=>cond (Nat.beq i 9) false (b9 i))) (n:=500) (Eq.mp (by kernel_rfl) (h g))⟩
def iO(g:Nat->AV)(c a x3:AV)(H:ab)(Q:AV->ab->Prop):Prop:=
 wT 5 59 a λb=>
 gQ b false (cf a) λl=>
 gQ b false (Px 5 62 l) λk=>
 cI b k λj=>
 br (some j) (
 aj 26 c 4 λf=>
 af H 3 f λi=>
 bC true H 68 83 [i] λe h=>
 fj h 69 27 27 x3 e λd H2=>
  bL env Tryz.f38 0 fD [(1,c),(4,a),(3,d)] H2 Q) (
  bL env Tryz.f38 0 fD [(1,c),(4,a),(3,x3)] H Q)
def mc(b a x3:AV)(H:ab)(Q:AV->ab->Prop)(h : ∀g,iO g b a x3 H Q):bL env Tryz.f38 0 fE [(1,b),(4,a),(3,x3)] H Q:=⟨λg=>kZ (live:=bZ) (cut:=(λi=>cond (Nat.beq i 11) false (b9 i))) (n:=500) (Eq.mp (by kernel_rfl) (h g))⟩
def iN(g:Nat->AV)(a b x3:AV)(H:ab)(Q:AV->ab->Prop):Prop:=
 HW 5 70 b λk=>
 br (some k) (
 aj 26 a 5 λp=>
 af H 3 p λn=>
 bC true H 75 83 [n] λo j=>
 fj j 76 27 27 x3 o λi H2=>
 aj 26 a 8 λm=>
 af H2 24 m λh=>
 er H2 80 24 h λq=>
 fN H2 81 3 5 q λl=>
 sA H2 82 27 1 0 l λc e=>
 fj e 83 27 27 i c λd f=>
  bL env Tryz.f38 0 fC [(1,a),(3,d),(4,b)] f Q) (
  bL env Tryz.f38 0 fC [(1,a),(3,x3),(4,b)] H Q)
def mb(b a x3:AV)(H:ab)(Q:AV->ab->Prop)(h : ∀g,iN g b a x3 H Q):bL env Tryz.f38 0 fD [(1,b),(4,a),(3,x3)] H Q:=⟨λg=>kZ (live:=bZ) (cut:=(λi=>cond (Nat.beq i 13) false (b9 i))) (n:=500) (Eq.mp (by kernel_rfl) (h g))⟩
def iM(g:Nat->AV)(a x3 b:AV)(H:ab)(Q:AV->ab->Prop):Prop:=
 Md 5 84 b λc=>
 br (some c) (
  bL env Tryz.f38 0 bX [(5,(.v (.int .i64 0))),(1,a),(3,x3)] H Q) (
  bL env Tryz.f38 0 ef [(6,(.v (.int .i64 0))),(1,a),(3,x3)] H Q)
def ma(b x3 a:AV)(H:ab)(Q:AV->ab->Prop)(h : ∀g,iM g b x3 a H Q):bL env Tryz.f38 0 fC [(1,b),(3,x3),(4,a)] H Q:=⟨λg=>kZ (live:=bZ) (cut:=(λi=>cond (Nat.beq i 16) false (b9 i))) (n:=500) (Eq.mp (by kernel_rfl) (h g))⟩
def da(g:Nat->AV)(a b x3:AV)(H:ab)(Q:AV->ab->Prop):Prop:=
 wV 3 86 4 a λf=>
 br (some f) (
 aj 26 b 7 λk=>
 fJ H 23 k a λj=>
 af H 3 j λi=>
 bC true H 95 83 [i] λd e=>
 fj e 96 27 27 x3 d λh H2=>
 lf 3 88 1 a λc=>
  bL env Tryz.f38 0 bX [(5,c),(1,b),(3,h)] H2 Q) (
  bL env Tryz.f38 0 ef [(6,(.v (.int .i64 0))),(1,b),(3,x3)] H Q)
def dU(a b x3:AV)(H:ab)(Q:AV->ab->Prop)(h : ∀g,da g a b x3 H Q):bL env Tryz.f38 0 bX [(5,a),(1,b),(3,x3)] H Q:=EG λg=>kZ (live:=bZ) (cut:=b9) (n:=500) (Eq.mp (by kernel_rfl) (h g))
def iL(g:Nat->AV)(b d x3:AV)(H:ab)(Q:AV->ab->Prop):Prop:=
 aj 26 d 8 λj=>
 af H 24 j λf=>
 er H 100 24 f λn=>
 kn 3 97 100 b n λm=>
 br (some m) (
 aj 26 d 8 λh=>
 af H 24 h λl=>
 fJ H 24 l b λo=>
 af H 54 o λe=>
 bC true H 110 84 [e] λk i=>
 fj i 111 27 27 x3 k λa H2=>
 lf 3 102 1 b λc=>
  bL env Tryz.f38 0 ef [(6,c),(1,d),(3,a)] H2 Q) (
 Q x3 H)
def l9(a b x3:AV)(H:ab)(Q:AV->ab->Prop)(h : ∀g,iL g a b x3 H Q):bL env Tryz.f38 0 ef [(6,a),(1,b),(3,x3)] H Q:=EG λg=>kZ (live:=bZ) (cut:=b9) (n:=500) (Eq.mp (by kernel_rfl) (h g))
def lC:Code:=(Tryz.f10.body).getD .skip
def ax:List Item:=(fe 26 400 [.code lC]).getD []
def o3:Nat->Option (List Nat):=λi=>cond (Nat.beq i 26) (some [2,4,0]) (none)
def o8:Nat->Bool:=λi=>cond (Nat.beq i 26) true (false)
def bz(g:Nat->AV)(a:AV)(H:ab)(Q:AV->ab->Prop):Prop:=
 fO H 2 26 λo I=>
 er I 6 27 a λS=>
 BU 3 6 0 S λO=>
 br (some O) (
 lG 26 λL=>
 bH I 26 o L λM H2=>
 eO H2 o 26 λK=>
 Q (.tup [K,(.v (.int .i64 90))]) H2) (
 nj I 27 a 0 λL=>
 af I 5 L λM=>
 BS 26 0 M λK=>
 fO I 4 26 λb H2=>
 bH H2 26 b K λT n=>
 nj n 27 a 0 λR=>
 af n 5 R λe=>
 wU 5 15 e λJ=>
 br (some J) (
 bC true n 19 39 [a,(.v (.int .i64 1)),(.v (.int .i64 1))] λG d=>
 aj 26 b 1 λB=>
 bH d 3 B G λz i=>
  bL env Tryz.f10 0 ax [(2,o),(4,b),(0,a)] i Q) (
 HX 5 15 e λG=>
 br (some G) (
 bC true n 24 40 [a,(.v (.int .i64 1)),(.v (.int .i64 1))] λB d=>
 aj 26 b 8 λz=>
 bH d 24 z B λq i=>
  bL env Tryz.f10 0 ax [(2,o),(4,b),(0,a)] i Q) (
 wT 5 15 e λB=>
 br (some B) (
 bC true n 29 39 [a,(.v (.int .i64 1)),(.v (.int .i64 3))] λz d=>
 aj 26 b 4 λq=>
 jF (
  iu env.P d 3 (some q) (some z)) λm i=>
  bL env Tryz.f10 0 ax [(2,o),(4,b),(0,a)] i Q) (
 Mf 5 15 e λz=>
 br (some z) (
 bC true n 34 39 [a,(.v (.int .i64 1)),(.v (.int .i64 1))] λq d=>
 fN d 35 3 5 q λm=>
 aj 26 b 6 λh=>
 bH d 5 h m λc i=>
  bL env Tryz.f10 0 ax [(2,o),(4,b),(0,a)] i Q) (
 PA 5 15 e λq=>
 br (some q) (
 br (some q) (
 bC true n 41 39 [a,(.v (.int .i64 1)),(.v (.int .i64 2))] λm d=>
 aj 26 b 3 λh=>
 bH d 22 h m λc i=>
  bL env Tryz.f10 0 ax [(2,o),(4,b),(0,a)] i Q) (
 Me 5 15 e λm=>
 br (some m) (
 bC true n 46 39 [a,(.v (.int .i64 1)),(.v (.int .i64 3))] λh d=>
 aj 26 b 2 λc=>
 bH d 3 c h λf i=>
 bC true i 49 39 [a,(.v (.int .i64 4)),(.v (.int .i64 2))] λk A=>
 aj 26 b 3 λj=>
 bH A 22 j k λl D=>
  bL env Tryz.f10 0 ax [(2,o),(4,b),(0,a)] D Q) (
 HW 5 15 e λh=>
 br (some h) (
 bC true n 54 39 [a,(.v (.int .i64 1)),(.v (.int .i64 3))] λc d=>
 aj 26 b 4 λf=>
 bH d 3 f c λk i=>
 bC true i 57 39 [a,(.v (.int .i64 4)),(.v (.int .i64 3))] λj A=>
 aj 26 b 5 λl=>
 bH A 3 l j λw D=>
 bC true D 61 39 [a,(.v (.int .i64 7)),(.v (.int .i64 1))] λy C=>
 fg (dX env.P false (ab.get C) (Ref.mk 0 62 (ab.gen C 0 62) 0) .min #[3,3] [y,(.v (.int .i64 4))]) λt=>
 bC true C 63 40 [a,(.v (.int .i64 8)),t] λp E=>
 aj 26 b 8 λu=>
 bH E 24 u p λx s=>
  bL env Tryz.f10 0 ax [(2,o),(4,b),(0,a)] s Q) (
 Md 5 15 e λc=>
 br (some c) (
 bC true n 68 39 [a,(.v (.int .i64 1)),(.v (.int .i64 1))] λf d=>
 fN d 69 3 5 f λk=>
 aj 26 b 6 λj=>
 bH d 5 j k λl i=>
 bC true i 72 39 [a,(.v (.int .i64 2)),(.v (.int .i64 3))] λw A=>
 bC true A 74 39 [a,(.v (.int .i64 5)),(.v (.int .i64 3))] λy D=>
 bC true D 76 39 [a,(.v (.int .i64 8)),(.v (.int .i64 3))] λt C=>
 bC true C 78 39 [a,(.v (.int .i64 11)),(.v (.int .i64 3))] λp E=>
 fg (lz env.P 23 (some [(0,w),(1,y),(2,t),(3,p)])) λu=>
 aj 26 b 7 λx=>
 bH E 23 x u λF s=>
  bL env Tryz.f10 0 ax [(2,o),(4,b),(0,a)] s Q) (
  bL env Tryz.f10 0 ax [(2,o),(4,b),(0,a)] n Q))))) (
 fg (bE env.P .eql 5 (Operand.tmp 15) (.const (.int .u8 10)) (some e) (some (a8 10))) λm=>
 br (some m) (
 bC true n 41 39 [a,(.v (.int .i64 1)),(.v (.int .i64 2))] λh d=>
 aj 26 b 3 λc=>
 bH d 22 c h λf i=>
  bL env Tryz.f10 0 ax [(2,o),(4,b),(0,a)] i Q) (
 Me 5 15 e λh=>
 br (some h) (
 bC true n 46 39 [a,(.v (.int .i64 1)),(.v (.int .i64 3))] λc d=>
 aj 26 b 2 λf=>
 bH d 3 f c λk i=>
 bC true i 49 39 [a,(.v (.int .i64 4)),(.v (.int .i64 2))] λj A=>
 aj 26 b 3 λl=>
 bH A 22 l j λw D=>
  bL env Tryz.f10 0 ax [(2,o),(4,b),(0,a)] D Q) (
 HW 5 15 e λc=>
 br (some c) (
 bC true n 54 39 [a,(.v (.int .i64 1)),(.v (.int .i64 3))] λf d=>
 aj 26 b 4 λk=>
 bH d 3 k f λj i=>
 bC true i 57 39 [a,(.v (.int .i64 4)),(.v (.int .i64 3))] λl A=>
 aj 26 b 5 λw=>
 bH A 3 w l λy D=>
 bC true D 61 39 [a,(.v (.int .i64 7)),(.v (.int .i64 1))] λt C=>
 fg (dX env.P false (ab.get C) (Ref.mk 0 62 (ab.gen C 0 62) 0) .min #[3,3] [t,(.v (.int .i64 4))]) λp=>
 bC true C 63 40 [a,(.v (.int .i64 8)),p] λu E=>
 aj 26 b 8 λx=>
 bH E 24 x u λF s=>
  bL env Tryz.f10 0 ax [(2,o),(4,b),(0,a)] s Q) (
 Md 5 15 e λf=>
 br (some f) (
 bC true n 68 39 [a,(.v (.int .i64 1)),(.v (.int .i64 1))] λk d=>
 fN d 69 3 5 k λj=>
 aj 26 b 6 λl=>
 bH d 5 l j λw i=>
 bC true i 72 39 [a,(.v (.int .i64 2)),(.v (.int .i64 3))] λy A=>
 bC true A 74 39 [a,(.v (.int .i64 5)),(.v (.int .i64 3))] λt D=>
 bC true D 76 39 [a,(.v (.int .i64 8)),(.v (.int .i64 3))] λp C=>
 bC true C 78 39 [a,(.v (.int .i64 11)),(.v (.int .i64 3))] λu E=>
 fg (lz env.P 23 (some [(0,y),(1,t),(2,p),(3,u)])) λx=>
 aj 26 b 7 λF=>
 bH E 23 F x λN s=>
  bL env Tryz.f10 0 ax [(2,o),(4,b),(0,a)] s Q) (
  bL env Tryz.f10 0 ax [(2,o),(4,b),(0,a)] n Q))))))))))
def vd(a:AV)(H:ab)(Q:AV->ab->Prop)(h : ∀g,bz g a H Q):bL env Tryz.f10 0 [.code lC] [(0,a)] H Q:=⟨λg=>kZ (live:=o3) (cut:=o8) (n:=500) (Eq.mp (by kernel_rfl) (h g))⟩
def gI(g:Nat->AV)(e f k:AV)(H:ab)(Q:AV->ab->Prop):Prop:=
 af H 26 f λn=>
 bC false H 82 37 [n] λs i=>
 oS s λc=>
 gQ c false (aW i 26 f) λq=>
 gW c false i (jo false i 86 38 [q]) λm H2=>
 gQ c false (tJ H2 87 27 9 m) λp=>
 gQ c false (cf k) λl=>
 gQ c false (tJ H2 89 27 9 l) λt=>
 gQ c false (HT 9 87 89 p t) λo=>
 cI c o λh=>
 br (some h) (
 lG 26 λb=>
 bH H2 26 e b λj d=>
 eO d e 26 λa=>
 Q (.tup [a,(.v (.int .i64 90))]) d) (
 af H2 26 f λb=>
 bH H2 26 e b λj d=>
 eO d e 26 λa=>
 Q (.tup [a,(.v (.int .i64 0))]) d)
def jw(b a c:AV)(H:ab)(Q:AV->ab->Prop)(h : ∀g,gI g b a c H Q):bL env Tryz.f10 0 ax [(2,b),(4,a),(0,c)] H Q:=⟨λg=>kZ (live:=o3) (cut:=(λi=>cond (Nat.beq i 26) false (o8 i))) (n:=500) (Eq.mp (by kernel_rfl) (h g))⟩
end
section
variable(dep:Nat)(g:Nat->AV)(a b c:AV)(H:ab)(Q:AV->ab->Prop)
def rL:Prop:=
 gr H 1 54 a λf H1=>
 af H1 54 f λv2=>
 bC true H1 16 116 [v2] λv3 H2=>
 rO 22 17 0 v3 λv4=>
 br (some v4) (
 Q (.tup [(.v (.slice none 0 0)),v3]) H2) (
 aj 54 f 1 λv5=>
 af H2 47 v5 λv6=>
 bC true H2 23 89 [v6] λv7 H3=>
 ep v7 0 λv8=>
 ep v7 1 λv9=>
 aj 54 f 3 λv10=>
 aj 51 v10 0 λv11=>
 af H3 49 v11 λv12=>
 bC true H3 30 117 [v12] λB H4=>
 ep B 0 λU=>
 ep B 1 λv15=>
 aj 54 f 0 λX=>
 af H4 5 X λM=>
 sA H4 35 27 1 0 M λJ p=>
 aj 54 f 2 λv19=>
 af p 3 v19 λF=>
 UZ 3 38 F λT=>
 fN p 40 3 5 T λv22=>
 aj 54 f 2 λv23=>
 af p 3 v23 λv24=>
 UX 3 42 v24 λG=>
 fN p 44 3 5 G λv26=>
 aj 54 f 2 λR=>
 af p 3 R λv28=>
 fN p 47 3 5 v28 λE=>
 HY p 48 27 3 0 v22 1 v26 2 E λC K=>
 aj 54 f 3 λv31=>
 aj 51 v31 1 λO=>
 af K 3 O λv33=>
 fN K 53 3 5 v33 λD=>
 sA K 54 27 1 0 D λW H7=>
 jF (mn env.P false true H7 (Ref.mk 0 55 (ab.gen H7 0 55) 0) 61 5 (some [(0,J),(1,v8),(2,C),(3,U),(4,W)])) λV H8=>
 bC true H8 56 49 [V] λl t=>
 aj 54 f 0 λY=>
 af t 5 Y λA=>
 wU 5 58 A λS=>
 br (some S) (
 jF (kj t (Ref.mk 0 61 (ab.gen t 0 61) 0) (wu env.P (Ref.mk 0 61 (ab.gen t 0 61) 0) 27 (some (AV.v (Value.int IntKind.i64 13))) (some (AV.v (Value.int IntKind.i64 13))))) λo d=>
 aj 54 f 4 λs=>
 af d 49 s λw=>
 lG 49 λq=>
 C4 49 63 64 w q λk=>
 br (some k) (
 aj 54 f 4 λj=>
 af d 49 j λm=>
 bC true d 69 117 [m] λe h=>
 ep e 0 λi=>
 ep e 1 λv50=>
 aj 54 f 6 λx=>
 af h 52 x λu=>
 bC true h 75 118 [u] λz y=>
 ep z 0 λZ=>
 ep z 1 λv55=>
 HY y 81 61 3 0 l 1 i 2 Z λN n=>
 bC true n 82 49 [N] λI L=>
 Q (.tup [I,(.v (.int .i64 0))]) L) (
 aj 54 f 6 λj=>
 af d 52 j λm=>
 bC true d 75 118 [m] λe h=>
 ep e 0 λi=>
 ep e 1 λv50=>
 HY h 81 61 3 0 l 1 o 2 i λx y=>
 bC true y 82 49 [x] λu n=>
 Q (.tup [u,(.v (.int .i64 0))]) n)) (
 wT 5 58 A λo=>
 br (some o) (
 aj 54 f 5 λs=>
 af t 45 s λw=>
 BS 47 0 w λq=>
 bC true t 89 89 [q] λk d=>
 ep k 0 λj=>
 ep k 1 λm=>
 Mj d 27 j λe=>
 fj d 95 27 27 l e λi h=>
 Q (.tup [i,(.v (.int .i64 0))]) h) (
 Q (.tup [l,(.v (.int .i64 0))]) t)))
theorem xR(h : ∀g:iv,rL a H Q):ia Tryz.f90 0 [(0,a)] H Q:=me (by kernel_rfl) h
def Gn:Prop:=
 fO H 2 54 λd H1=>
 BS 182 0 a λv2=>
 gr H1 17 182 v2 λA H2=>
 fg (wy (.func 127) (some [A]) (some [])) λv4=>
 fg (wy (.func 128) (some [A]) (some [])) λv5=>
 U2 H2 23 v4 λv6 H3=>
 nj H3 27 v6 0 λv7=>
 af H3 5 v7 λv8=>
 aj 54 d 0 λv9=>
 bH H3 5 v9 v8 λv10 H4=>
 jF (c9 env true (aK env) (cU env 0) H4 (Ref.mk 0 29 (ab.gen H4 0 29) 0) (some v4) [(.v (.int .i64 6))]) λv11 H5=>
 bC true H5 30 100 [v11] λv12 H6=>
 ep v12 0 λv13=>
 ep v12 1 λv14=>
 fO H6 8 47 λv15 H7=>
 bH H7 47 v15 v13 λv16 H8=>
 jF (c9 env true (aK env) (cU env 0) H8 (Ref.mk 0 34 (ab.gen H8 0 34) 0) (some v4) [(.v (.int .i64 3))]) λw D=>
 af D 47 v15 λv18=>
 nj D 27 w 0 λv19=>
 af D 5 v19 λv20=>
 fN D 39 5 3 v20 λv21=>
 UY 3 39 v21 λv22=>
 nj D 27 w 1 λv23=>
 af D 5 v23 λv24=>
 fN D 44 5 3 v24 λv25=>
 Ml 3 44 v25 λv26=>
 C3 3 40 45 v22 v26 λv27=>
 nj D 27 w 2 λv28=>
 af D 5 v28 λv29=>
 fN D 50 5 3 v29 λv30=>
 C3 3 46 50 v27 v30 λv31=>
 aj 54 d 1 λf=>
 bH D 47 f v18 λv33 H10=>
 aj 54 d 2 λv34=>
 bH H10 3 v34 v31 λv35 H11=>
  vN [(w,f),(v19,f),(v20,f),(w,f),(v23,f),(v24,f),(w,f),(v28,f),(v29,f)] [f,v34] [] H11 /\
 (jF (c9 env true (aK env) (cU env 0) H11 (Ref.mk 0 55 (ab.gen H11 0 55) 0) (some v5) [(.v (.bool false))]) λv36 H12=>
 aj 54 d 3 λv37=>
 aj 51 v37 0 λv38=>
 bH H12 49 v38 v36 λv39 H13=>
 U2 H13 59 v4 λv40 R=>
 nj R 27 v40 0 λv41=>
 af R 5 v41 λv42=>
 fN R 62 5 3 v42 λv43=>
 aj 54 d 3 λv44=>
 aj 51 v44 1 λv45=>
 bH R 3 v45 v43 λv46 e=>
 cz A λv47=>
 aj 182 v47 2 λv48=>
 af e 4 v48 λY=>
 gQ Y false (cf v14) λv50=>
 gQ Y false (zF 22 70 0 v50) λv51=>
 cI Y v51 λE=>
 gQ E false (az 54 d 3) λv53=>
 gQ E false (az 51 v53 1) λv54=>
 gQ E false (aW e 3 v54) λv55=>
 gQ E false (zG 3 76 64 v55) λv56=>
 cI E v56 λv57=>
 br (some v57) (
 lG 54 λV=>
 bH e 54 d V λZ h=>
 eO h d 54 λv60=>
 Q (.tup [v60,(.v (.int .i64 0)),(.v (.int .i64 8))]) h) (
 aj 54 d 0 λV=>
 af e 5 V λZ=>
 wU 5 81 Z λv60=>
 br (some v60) (
 jF (c9 env true (aK env) (cU env 0) e (Ref.mk 0 85 (ab.gen e 0 85) 0) (some v5) [(.v (.bool true))]) λU h=>
 aj 54 d 4 λI=>
 bH h 49 I U λT i=>
 aj 54 d 3 λk=>
 aj 51 k 1 λL=>
 af i 3 L λt=>
 vX 3 4 91 t λK=>
 HZ i 93 v4 K λJ H18=>
 bC true H18 94 129 [J] λj O=>
 ep j 0 λB=>
 ep j 1 λm=>
 cz A λC=>
 aj 182 C 2 λM=>
 af O 4 M λp=>
 gQ p false (cf m) λF=>
 gQ p false (zF 22 104 0 F) λv76=>
 cI p v76 λv77=>
 aj 54 d 6 λv78=>
 bH O 52 v78 B λv79 H20=>
 cz A λv80=>
 aj 182 v80 2 λW=>
 bH H20 4 W v77 λv82 q=>
 cz A λv83=>
 aj 182 v83 2 λv84=>
 af q 4 v84 λy=>
 gQ y false (aW q 54 d) λz=>
 gW y false q (jo true q 141 116 [z]) λv87 l=>
 gQ y false (zF 22 141 0 v87) λv88=>
 cI y v88 λX=>
 br (some X) (
 lG 54 λG=>
 bH l 54 d G λx n=>
 eO n d 54 λo=>
 Q (.tup [o,(.v (.int .i64 0)),(.v (.int .i64 8))]) n) (
 af l 54 d λG=>
 cz A λx=>
 aj 182 x 1 λo=>
 af l 3 o λs=>
 bH l 54 d G λv94 n=>
  vN [(o,d)] [d] [] n /\
 (eO n d 54 λv95=>
 Q (.tup [v95,s,(.v (.int .i64 0))]) n))) (
 wT 5 81 Z λU=>
 br (some U) (
 jF (c9 env true (aK env) (cU env 0) e (Ref.mk 0 114 (ab.gen e 0 114) 0) (some v4) [(.v (.int .i64 5))]) λI h=>
 bC true h 115 130 [I] λT i=>
 PB i 116 27 1 λk H18=>
 fj H18 117 27 27 T k λL O=>
 bC true O 118 100 [L] λt H20=>
 ep t 0 λK=>
 ep t 1 λJ=>
 fO H20 13 47 λj q=>
 bH q 47 j K λB l=>
 aj 47 j 0 λm=>
 af l 45 m λC=>
 cz A λM=>
 aj 182 M 2 λp=>
 af l 4 p λF=>
 gQ F false (cf J) λv76=>
 gQ F false (zF 22 129 0 v76) λv77=>
 cI F v77 λv78=>
 aj 54 d 5 λv79=>
 bH l 45 v79 C λv80 n=>
 cz A λW=>
 aj 182 W 2 λv82=>
 bH n 4 v82 v78 λv83 S=>
 cz A λv84=>
 aj 182 v84 2 λy=>
 af S 4 y λz=>
 gQ z false (aW S 54 d) λv87=>
 gW z false S (jo true S 141 116 [v87]) λv88 N=>
 gQ z false (zF 22 141 0 v88) λX=>
 cI z X λG=>
 br (some G) (
 lG 54 λx=>
 bH N 54 d x λo u=>
 eO u d 54 λs=>
 Q (.tup [s,(.v (.int .i64 0)),(.v (.int .i64 8))]) u) (
 af N 54 d λx=>
 cz A λo=>
 aj 182 o 1 λs=>
 af N 3 s λv94=>
 jF (
  iu env.P N 54 (some d) (some x)) λv95 u=>
  vN [(s,d)] [d] [] u /\
 (eO u d 54 λv96=>
 Q (.tup [v96,v94,(.v (.int .i64 0))]) u))) (
 cz A λI=>
 aj 182 I 2 λT=>
 af e 4 T λk=>
 gQ k false (aW e 54 d) λL=>
 gW k false e (jo true e 141 116 [L]) λt h=>
 gQ k false (zF 22 141 0 t) λK=>
 cI k K λJ=>
 br (some J) (
 lG 54 λj=>
 bH h 54 d j λB i=>
 eO i d 54 λm=>
 Q (.tup [m,(.v (.int .i64 0)),(.v (.int .i64 8))]) i) (
 af h 54 d λj=>
 cz A λB=>
 aj 182 B 1 λm=>
 af h 3 m λC=>
 jF (
  iu env.P h 54 (some d) (some j)) λM i=>
  vN [(m,d)] [d] [] i /\
 (eO i d 54 λp=>
 Q (.tup [p,C,(.v (.int .i64 0))]) i))))))
theorem NP(h : ∀g:iv,Gn a H Q):ia Tryz.f101 0 [(0,a)] H Q:=me (by kernel_rfl) h
def df:=yr Tryz.f49 3
def cV:=yr Tryz.f49 11
def ib:Nat->Option (List Nat):=λi=>cond (Nat.beq i 3) (some [11,3,9,0,10]) (cond (Nat.beq i 11) (some [27,6,25,26]) (none))
def ld:Prop:=
 er H 10 61 a λd=>
  bL env Tryz.f49 0 df [(11,(.v (.int .i64 0))),(3,(.v (.int .i64 0))),(9,a),(0,a),(10,d)] H Q
theorem qu(h : ∀g:iv,ld a H Q):ia Tryz.f49 0 [(0,a)] H Q:=zR ib (by kernel_rfl) h
def gz(g:Nat->AV)(d x3 f a e:AV)(H:ab)(Q:AV->ab->Prop):Prop:=
 kn 3 11 10 d e λn=>
 br (some n) (
 fJ H 61 f d λh=>
 af H 27 h λj=>
 er H 17 27 j λp=>
 rM 3 15 17 x3 p λi=>
 wV 3 19 0 i λo=>
 br (some o) (
 fg (vq env.P 9 (some (.v (.string ⟨#[108,101,110,32,111,117,116,32,111,102,32,114,97,110,103,101]⟩)))) λl=>
 fg (none) λq=>
 lf 3 11 1 d λm=>
  bL env Tryz.f49 0 df [(11,m),(3,i),(9,f),(0,a),(10,e)] H Q) (
 lf 3 11 1 d λl=>
  bL env Tryz.f49 0 df [(11,l),(3,i),(9,f),(0,a),(10,e)] H Q)) (
 bC true H 24 93 [(.v (.slice none 0 0)),x3] λh k=>
 er k 26 61 a λj=>
  bL env Tryz.f49 0 cV [(27,(.v (.int .i64 0))),(6,h),(25,a),(26,j)] k Q)
theorem kf(e x3 f a d:AV)(H:ab)(Q:AV->ab->Prop)(h : ∀g,gz g e x3 f a d H Q):bL env Tryz.f49 0 df [(11,e),(3,x3),(9,f),(0,a),(10,d)] H Q:=y8 ib (by kernel_rfl) h
def ek(g:Nat->AV)(d h e f:AV)(H:ab)(Q:AV->ab->Prop):Prop:=
 kn 3 27 26 d f λk=>
 br (some k) (
 fJ H 61 e d λn=>
 af H 27 n λl=>
 fj H 33 27 27 h l λm j=>
 lf 3 27 1 d λi=>
  bL env Tryz.f49 0 cV [(27,i),(6,m),(25,e),(26,f)] j Q) (
 Q h H)
theorem jL(d i e f:AV)(H:ab)(Q:AV->ab->Prop)(h : ∀g,ek g d i e f H Q):bL env Tryz.f49 0 cV [(27,d),(6,i),(25,e),(26,f)] H Q:=y8 ib (by kernel_rfl) h
def o6:=yr Tryz.f118 6
def As:Nat->Option (List Nat):=λi=>cond (Nat.beq i 6) (some [15,5,13,14]) (none)
def vQ:Prop:=
 bC true H 9 140 [a] λe d=>
 rO 22 10 0 e λf=>
 br (some f) (
 Q (.tup [(.v (.slice none 0 0)),e]) d) (
 er d 14 52 a λh=>
  bL env Tryz.f118 0 o6 [(15,(.v (.int .i64 0))),(5,(.v (.slice none 0 0))),(13,a),(14,h)] d Q)
theorem GX(h : ∀g:iv,vQ a H Q):ia Tryz.f118 0 [(0,a)] H Q:=zR As (by kernel_rfl) h
def pe(g:Nat->AV)(d m e f:AV)(H:ab)(Q:AV->ab->Prop):Prop:=
 kn 3 15 14 d f λq=>
 br (some q) (
 fJ H 52 e d λn=>
 af H 21 n λh=>
 fg (bE env.P .shr 21 (Operand.tmp 20) (.const (.int .u64 24)) (some h) (some (.v (.int .u64 24)))) λu=>
 fN H 22 21 5 u λo=>
 UZ 21 23 h λt=>
 fN H 25 21 5 t λw=>
 UX 21 26 h λx=>
 fN H 28 21 5 x λp=>
 fN H 30 21 5 h λi=>
 jF (mn env.P false true H (Ref.mk 0 31 (ab.gen H 0 31) 0) 27 4 (some [(0,o),(1,w),(2,p),(3,i)])) λl s=>
 fj s 32 27 27 m l λk H2=>
 lf 3 15 1 d λj=>
  bL env Tryz.f118 0 o6 [(15,j),(5,k),(13,e),(14,f)] H2 Q) (
 Q (.tup [m,(.v (.int .i64 0))]) H)
theorem xh(e i d f:AV)(H:ab)(Q:AV->ab->Prop)(h : ∀g,pe g e i d f H Q):bL env Tryz.f118 0 o6 [(15,e),(5,i),(13,d),(14,f)] H Q:=y8 As (by kernel_rfl) h
def pq:Code:=(Tryz.f127.body).getD .skip
def eB:Prop:=
 cz a λM=>
 aj 182 M 2 λV=>
 af H 4 V λd=>
 gQ d false (cf a) λU=>
 gQ d false (Bx (some U)) λR=>
 gQ d false (az 182 R 0) λT=>
 gQ d false (aW H 27 T) λN=>
 gQ d false (UW H dep 15 27 N) λW=>
 gQ d false (cf a) λS=>
 gQ d false (Bx (some S)) λz=>
 gQ d false (az 182 z 1) λt=>
 gQ d false (aW H 3 t) λs=>
 gQ d false (bE env.P .sub 3 (Operand.tmp 15) (Operand.tmp 19) (some W) (some s)) λE=>
 gQ d false (cf b) λJ=>
 gQ d false (L5 3 20 21 E J) λq=>
 cI d q λi=>
 cz a λB=>
 aj 182 B 2 λw=>
 bH H 4 w i λO f=>
 cz a λp=>
 aj 182 p 2 λI=>
 af f 4 I λx=>
 br (some x) (
 jF (kj f (⟨(dep+1),31,ab.gen f (dep+1) 31,0⟩:Ref) (wu env.P (⟨(dep+1),31,ab.gen f (dep+1) 31,0⟩:Ref) 27 (some b) (some b))) λe H2=>
 Q e H2) (
 cz a λe=>
 aj 182 e 1 λG=>
 af f 3 G λu=>
 rM 3 35 36 u b λm=>
 cz a λD=>
 aj 182 D 1 λA=>
 bH f 3 A m λL H2=>
 cz a λl=>
 aj 182 l 0 λo=>
 af H2 27 o λC=>
 cz a λy=>
 aj 182 y 1 λn=>
 af H2 3 n λh=>
 HU 3 47 48 h b λK=>
 cz a λj=>
 aj 182 j 1 λk=>
 af H2 3 k λv=>
 fg (dm env.P (ab.get H2) 27 (some C) (oi K) (oi v) (some none)) λF=>
 Q F H2)
theorem po(h : ∀g:iv,eB dep a b H Q):ia Tryz.f127 (dep+1) [(0,a),(1,b)] H Q:=me (by kernel_rfl) h
def qH:Code:=(Tryz.f128.body).getD .skip
def eT:Prop:=
 FD H dep 4 49 λz B=>
 jF (c9 env true (aK env) (cU env (dep+1)) B (⟨(dep+1),10,ab.gen B (dep+1) 10,0⟩:Ref) (some (.fn (.func 127) [] [])) [a,(.v (.int .i64 13))]) λF H2=>
 jF (c9 env true (aK env) (cU env (dep+1)) H2 (⟨(dep+1),13,ab.gen H2 (dep+1) 13,0⟩:Ref) (some (.fn (.func 143) [] [])) [F]) λA G=>
 ep A 0 λN=>
 ep A 1 λK=>
 FD G dep 6 49 λD J=>
 bH J 49 D N λR f=>
 gQ b true (cf F) λO=>
 gW b true f (kj f (⟨(dep+1),19,ab.gen f (dep+1) 19,0⟩:Ref) (wu env.P (⟨(dep+1),19,ab.gen f (dep+1) 19,0⟩:Ref) 27 (some (AV.v (Value.int IntKind.i64 13))) (some (AV.v (Value.int IntKind.i64 13))))) λL s=>
 gW b true s (c9 env true (aK env) (cU env (dep+1)) s (⟨(dep+1),20,ab.gen s (dep+1) 20,0⟩:Ref) (some (.fn (.func 57) [] [])) [O,L]) λt E=>
 dy b t λl=>
 cz a λk=>
 aj 182 k 2 λw=>
 af E 4 w λd=>
 gQ d false (cf K) λj=>
 gQ d false (zF 22 28 0 j) λh=>
 gQ d false (cf h) λe=>
 gQ e true (cf l) λp=>
 gQ e true (qY p) λo=>
 gQ d false (L4 e o) λi=>
 cI d i λx=>
 cz a λq=>
 aj 182 q 2 λm=>
 bH E 4 m x λM C=>
 af C 49 D λn=>
 bH C 49 z n λI y=>
 eO y z 49 λu=>
 Q u y
theorem qv(h : ∀g:iv,eT dep a b H Q):ia Tryz.f128 (dep+1) [(0,a),(1,b)] H Q:=me (by kernel_rfl) h
def HO:Code:=(Tryz.f129.body).getD .skip
def jc:List Item:=(kH 10006 400 [.code HO]).getD []
def dD:Code:=rfA jc
def dC:Code:=rfB jc
def rY:List Item:=rfK jc
def vE:Nat->Option (List Nat):=λi=>cond (Nat.beq i 10006) (some [16,2]) (none)
def AJ:Nat->Bool:=λi=>false
def AU:Prop:=
 fO H 2 52 λe d=>
 er d 8 27 a λm=>
 yu 3 8 256 m λl=>
 br (some l) (
 FA d 52 e λh H2=>
 eO H2 e 52 λf=>
 Q (.tup [f,(.v (.int .i64 4))]) H2) (
 er d 12 27 a λh=>
 tK 3 12 4 h λf=>
 yu 3 13 0 f λj=>
 br (some j) (
 FA d 52 e λi H2=>
 eO H2 e 52 λk=>
 Q (.tup [k,(.v (.int .i64 8))]) H2) (
 bC true d 16 48 [a,(.v (.int .i64 4))] λi H2=>
  bL env Tryz.f129 0 jc [(16,i),(2,e)] H2 Q))
theorem GY(h : ∀g:iv,AU a H Q):ia Tryz.f129 0 [(0,a)] H Q:=zR vE (by kernel_rfl) h
def nL(g:Nat->AV)(c:AV)(H:ab)(Q:AV->ab->Prop):Prop:=
 af H 52 c λi=>
 bC true H 45 140 [i] λh d=>
 rO 22 46 0 h λk=>
 br (some k) (
 FA d 52 c λf H2=>
 eO H2 c 52 λe=>
 Q (.tup [e,h]) H2) (
 af d 52 c λf=>
 bH d 52 c f λe H2=>
 eO H2 c 52 λj=>
 Q (.tup [j,(.v (.int .i64 0))]) H2)
theorem yp(c:AV)(H:ab)(Q:AV->ab->Prop)(h : ∀g,nL g c H Q):bL env Tryz.f129 0 rY [(2,c)] H Q:=⟨λg=>kZ (live:=vE) (cut:=AJ) (n:=500) (Eq.mp (by kernel_rfl) (h g))⟩
def oo(r:Ref)(g:Nat->AV)(c e:AV)(H:ab)(Q:AV->ab->Prop):Prop:=
 bgP (vF H r) λd=>
 fg (mP env.P (ab.get (ab.put H r (some (eu 1 d)))) 52 (some c)) λF=>
 fg (bI env.P (ab.get (ab.put H r (some (eu 1 d)))) 27 (some e) (some (AV.v (Value.int IntKind.i64 0)))) λy=>
 fg (mP env.P (ab.get (ab.put H r (some (eu 1 d)))) 5 (some y)) λE=>
 fg (bM env.P (ab.get (ab.put H r (some (eu 1 d)))) (⟨2,22,ab.gen (ab.put H r (some (eu 1 d))) 2 22,0⟩:Ref) 5 43 (some E)) λA=>
 fg (bE env.P .shl 43 (Operand.tmp 22) (.const (.int .u64 24)) (some A) (some (.v (.int .u64 24)))) λD=>
 fg (bI env.P (ab.get (ab.put H r (some (eu 1 d)))) 27 (some e) (some (AV.v (Value.int IntKind.i64 1)))) λz=>
 fg (mP env.P (ab.get (ab.put H r (some (eu 1 d)))) 5 (some z)) λG=>
 fg (bM env.P (ab.get (ab.put H r (some (eu 1 d)))) (⟨2,27,ab.gen (ab.put H r (some (eu 1 d))) 2 27,0⟩:Ref) 5 43 (some G)) λB=>
 UY 43 27 B λp=>
 C3 43 23 28 D p λk=>
 fg (bI env.P (ab.get (ab.put H r (some (eu 1 d)))) 27 (some e) (some (AV.v (Value.int IntKind.i64 2)))) λj=>
 fg (mP env.P (ab.get (ab.put H r (some (eu 1 d)))) 5 (some j)) λs=>
 fg (bM env.P (ab.get (ab.put H r (some (eu 1 d)))) (⟨2,33,ab.gen (ab.put H r (some (eu 1 d))) 2 33,0⟩:Ref) 5 43 (some s)) λu=>
 Ml 43 33 u λi=>
 C3 43 29 34 k i λf=>
 fg (bI env.P (ab.get (ab.put H r (some (eu 1 d)))) 27 (some e) (some (AV.v (Value.int IntKind.i64 3)))) λq=>
 fg (mP env.P (ab.get (ab.put H r (some (eu 1 d)))) 5 (some q)) λn=>
 fg (bM env.P (ab.get (ab.put H r (some (eu 1 d)))) (⟨2,39,ab.gen (ab.put H r (some (eu 1 d))) 2 39,0⟩:Ref) 5 43 (some n)) λm=>
 C3 43 35 39 f m λh=>
 fg (bM env.P (ab.get (ab.put H r (some (eu 1 d)))) (⟨2,41,ab.gen (ab.put H r (some (eu 1 d))) 2 41,0⟩:Ref) 43 21 (some h)) λt=>
 jF (mn env.P true false (ab.put H r (some (eu 1 d))) (⟨2,42,ab.gen (ab.put H r (some (eu 1 d))) 2 42,0⟩:Ref) 52 1 (some [(0,t)])) λo w=>
 jF (dK env.P true w (⟨2,43,ab.gen w 2 43,0⟩:Ref) (some 52) (some 52) F o) λl H2=>
 bH H2 52 c l λC x=>
 Q (.v (.int .i64 0)) x
theorem yY(r:Ref)(c d:AV)(H:ab)(Q:AV->ab->Prop)(h : ∀g,oo r g c d H Q):UT env Tryz.f129 (some r) 2 [.code dD,.beginRound,.code dC] [(2,c),(17,d)] H Q:=⟨λg=>kZ (live:=vE) (cut:=AJ) (n:=500) (Eq.mp (by kernel_rfl) (h g))⟩
def xP:Prop:=
 Mn 27 3 a λh=>
 br (some h) (
 Q (.v (.slice none 0 0)) H) (
 jF (mn env.P false true H (Ref.mk 0 5 (ab.gen H 0 5) 0) 27 0 (some [])) λe f=>
 fj f 7 27 27 e a λd H2=>
 Q d H2)
theorem DN(h : ∀g:iv,xP a H Q):ia Tryz.f130 0 [(0,a)] H Q:=me (by kernel_rfl) h
def lQ:Prop:=
 gr H 2 27 a λf h=>
 gr h 3 3 b λd H2=>
 af H2 3 d λi=>
 wV 3 5 1 i λj=>
 br (some j) (
 fg (vq env.P 9 (some (.v (.string ⟨#[99,97,110,110,111,116,32,98,101,32,108,101,115,115,32,116,104,97,110,32,49]⟩)))) λe=>
 fg (none) λl=>
 fg (wy (.func 92) (some []) (some [f,d])) λk=>
 Q k H2) (
 fg (wy (.func 92) (some []) (some [f,d])) λe=>
 Q e H2)
theorem qK(h : ∀g:iv,lQ a b H Q):ia Tryz.f48 0 [(0,a),(1,b)] H Q:=me (by kernel_rfl) h
def m8:Prop:=
 fN H 6 27 9 a λe=>
 fN H 8 27 9 b λd=>
 tI 9 6 8 e d λf=>
 Q f H
theorem DM(h : ∀g:iv,m8 a b H Q):ia Tryz.f57 0 [(0,a),(1,b)] H Q:=me (by kernel_rfl) h
def mq:Prop:=
 wV 3 5 0 b λs=>
 br (some s) (
 fg (vq env.P 9 (some (.v (.string ⟨#[99,97,110,110,111,116,32,98,101,32,110,101,103,97,116,105,118,101]⟩)))) λq=>
 fg (none) λp=>
 Mc H 10 27 a λn=>
 er H 12 27 a λh=>
 HU 3 10 12 n h λm=>
 HU 3 8 13 b m λi=>
 yu 3 15 0 i λo=>
 br (some o) (
 Mc H 19 27 a λk=>
 HV H 27 a k λe=>
 fj H 22 27 3 e i λf d=>
 er d 24 27 a λl=>
 HV d 27 f l λj=>
 Q j d) (
 Q a H)) (
 Mc H 10 27 a λq=>
 er H 12 27 a λp=>
 HU 3 10 12 q p λn=>
 HU 3 8 13 b n λh=>
 yu 3 15 0 h λm=>
 br (some m) (
 Mc H 19 27 a λi=>
 HV H 27 a i λo=>
 fj H 22 27 3 o h λk d=>
 er d 24 27 a λe=>
 HV d 27 k e λf=>
 Q f d) (
 Q a H))
theorem rh(h : ∀g:iv,mq a b H Q):ia Tryz.f93 0 [(0,a),(1,b)] H Q:=me (by kernel_rfl) h
def pW:Code:=(Tryz.f92.body).getD .skip
def ed:=yr Tryz.f92 1
def kD:Nat->Option (List Nat):=λi=>cond (Nat.beq i 1) (some [2,4,1,0]) (none)
def kL:Prop:=
 bL env Tryz.f92 (dep+1) ed [(2,c),(4,(.v (.int .i64 0))),(1,b),(0,a)] H Q
theorem pK(h : ∀g:iv,kL dep a b c H Q):ia Tryz.f92 (dep+1) [(0,a),(1,b),(2,c)] H Q:=zR kD (by kernel_rfl) h
def gp(dep:Nat)(g:Nat->AV)(c d b a:AV)(H:ab)(Q:AV->ab->Prop):Prop:=
 af H 27 b λs=>
 FC H dep 8 27 s λo=>
 kn 3 6 8 d o λw=>
 br (some w) (
 af H 3 c λu=>
 af H 27 b λp=>
 L9 H 27 p d λt=>
 FC H dep 17 27 t λx=>
 fg (dX env.P true (ab.get H) (⟨(dep+1),18,ab.gen H (dep+1) 18,0⟩:Ref) .min #[3,3] [u,x]) λn=>
 af H 27 b λq=>
 rM 3 22 23 d n λe=>
 rM 3 25 26 d n λl=>
 fg (dm env.P (ab.get H) 27 (some q) (oi d) (oi e) (oi l)) λj=>
 jF (c9 env true (aK env) (cU env (dep+1)) H (⟨(dep+1),29,ab.gen H (dep+1) 29,0⟩:Ref) (some a) [j]) λh k=>
 oS h λm=>
 br (some m) (
 Q (.v (.tuple #[])) k) (
 af k 3 c λi=>
 rM 3 10 11 d i λf=>
  bL env Tryz.f92 (dep+1) ed [(2,c),(4,f),(1,b),(0,a)] k Q)) (
 Q (.v (.tuple #[])) H)
theorem jM(dep:Nat)(c d b a:AV)(H:ab)(Q:AV->ab->Prop)(h : ∀g,gp dep g c d b a H Q):bL env Tryz.f92 (dep+1) ed [(2,c),(4,d),(1,b),(0,a)] H Q:=y8 kD (by kernel_rfl) h
def kR:Prop:=
 gr H 1 54 a λd k=>
 fO k 2 54 λi H2=>
 aj 54 d 6 λo=>
 af H2 52 o λp=>
 Mm H2 5 52 52 p λj n=>
 aj 54 d 6 λl=>
 bH n 52 l j λs h=>
 af h 54 d λm=>
 bH h 54 i m λq f=>
 eO f i 54 λe=>
 Q e f
theorem uc(h : ∀g:iv,kR a H Q):ia Tryz.f35 0 [(0,a)] H Q:=me (by kernel_rfl) h
def bN:Prop:=
 fO H 2 54 λl X=>
 er X 10 27 a λv2=>
 wV 3 10 24 v2 λv3=>
 br (some v3) (
 lG 54 λv4=>
 bH X 54 l v4 λv5 H2=>
 eO H2 l 54 λv6=>
 Q (.tup [v6,(.v (.int .i64 0)),(.v (.int .i64 8))]) H2) (
 nj X 27 a 0 λv4=>
 af X 5 v4 λv5=>
 nj X 27 a 23 λv6=>
 af X 5 v6 λv7=>
 fN X 19 5 3 v7 λv8=>
 bC false X 20 110 [v5,v8] λN H2=>
 BU 3 21 0 N λL=>
 gQ L false (cf a) λv11=>
 gQ L false (vW H2 25 27 v11) λv12=>
 gQ L false (cf N) λv13=>
 gQ L false (L5 3 25 26 v12 v13) λv14=>
 cI L v14 λv15=>
 br (some v15) (
 lG 54 λv16=>
 bH H2 54 l v16 λv17 y=>
 eO y l 54 λZ=>
 Q (.tup [Z,(.v (.int .i64 0)),(.v (.int .i64 8))]) y) (
 nj H2 27 a 0 λv16=>
 af H2 5 v16 λv17=>
 fg (dm env.P (ab.get H2) 27 (some a) (oi (.v (.int .i64 1))) (oi (.v (.int .i64 7))) (some none)) λZ=>
 bC false H2 35 111 [Z] λv19 y=>
 nj y 27 a 7 λv20=>
 af y 5 v20 λv21=>
 fN y 39 5 3 v21 λv22=>
 vX 3 65536 39 v22 λv23=>
 nj y 27 a 8 λv24=>
 af y 5 v24 λv25=>
 fN y 44 5 3 v25 λv26=>
 vX 3 256 44 v26 λv27=>
 rM 3 40 45 v23 v27 λv28=>
 nj y 27 a 9 λv29=>
 af y 5 v29 λv30=>
 fN y 50 5 3 v30 λv31=>
 rM 3 46 50 v28 v31 λv32=>
 fg (dm env.P (ab.get y) 27 (some a) (oi (.v (.int .i64 10))) (oi (.v (.int .i64 23))) (some none)) λv33=>
 bC false y 54 112 [v33] λv34 H4=>
 nj H4 27 a 23 λv35=>
 af H4 5 v35 λv36=>
 fN H4 58 5 3 v36 λv37=>
 C2 51 0 v34 1 v37 λv38=>
 fg (lz env.P 54 (some [(0,v17),(1,v19),(2,v32),(3,v38)])) λv39=>
 fO H4 6 54 λd H5=>
 bH H5 54 d v39 λv41 W=>
 aj 54 d 0 λv42=>
 af W 5 v42 λv43=>
 wU 5 62 v43 λv44=>
 br (some v44) (
 fg (dm env.P (ab.get W) 27 (some a) (oi (.v (.int .i64 24))) (oi (.v (.int .i64 37))) (some none)) λv45=>
 bC true W 66 112 [v45] λv46 H7=>
 aj 54 d 4 λv47=>
 bH H7 49 v47 v46 λV F=>
 fg (dm env.P (ab.get F) 27 (some a) (oi (.v (.int .i64 37))) (oi N) (some none)) λB=>
 bC true F 72 113 [B] λh S=>
 ep h 0 λK=>
 ep h 1 λG=>
 rO 3 75 0 G λD=>
 br (some D) (
 lG 54 λw=>
 bH S 54 l w λU m=>
 eO m l 54 λu=>
 Q (.tup [u,(.v (.int .i64 0)),(.v (.int .i64 8))]) m) (
 aj 54 d 6 λw=>
 bH S 52 w K λU m=>
 aj 54 d 0 λu=>
 af m 5 u λC=>
 wT 5 81 C λi=>
 br (some i) (
 U1 m 27 a λt=>
 Mm m 85 27 27 t λo p=>
 PB p 86 27 1 λe k=>
 fj k 87 27 27 o e λn f=>
 bC true f 88 111 [n] λR s=>
 fg (qN env.P 47 (some R) 0) λI=>
 aj 54 d 5 λO=>
 bH s 45 O I λT H15=>
 af H15 54 d λJ=>
 bC false H15 92 96 [J] λx H16=>
 oS x λj=>
 gQ j false (aW H16 54 d) λq=>
 gW j false H16 (jo false H16 96 84 [q]) λM z=>
 gQ j false (tJ z 97 27 9 M) λv72=>
 gQ j false (cf a) λA=>
 gQ j false (cf N) λv74=>
 gQ j false (L8 z 27 A v74) λv75=>
 gQ j false (tJ z 101 27 9 v75) λv76=>
 gQ j false (HT 9 97 101 v72 v76) λv77=>
 cI j v77 λv78=>
 br (some v78) (
 lG 54 λv79=>
 bH z 54 l v79 λv80 E=>
 eO E l 54 λY=>
 Q (.tup [Y,(.v (.int .i64 0)),(.v (.int .i64 8))]) E) (
 af z 54 d λv79=>
 bH z 54 l v79 λv80 E=>
 eO E l 54 λY=>
 Q (.tup [Y,N,(.v (.int .i64 0))]) E)) (
 af m 54 d λt=>
 bC false m 92 96 [t] λo p=>
 oS o λe=>
 gQ e false (aW p 54 d) λn=>
 gW e false p (jo false p 96 84 [n]) λR k=>
 gQ e false (tJ k 97 27 9 R) λI=>
 gQ e false (cf a) λO=>
 gQ e false (cf N) λT=>
 gQ e false (L8 k 27 O T) λJ=>
 gQ e false (tJ k 101 27 9 J) λx=>
 gQ e false (HT 9 97 101 I x) λj=>
 cI e j λq=>
 br (some q) (
 lG 54 λM=>
 bH k 54 l M λv72 f=>
 eO f l 54 λA=>
 Q (.tup [A,(.v (.int .i64 0)),(.v (.int .i64 8))]) f) (
 af k 54 d λM=>
 bH k 54 l M λv72 f=>
 eO f l 54 λA=>
 Q (.tup [A,N,(.v (.int .i64 0))]) f)))) (
 aj 54 d 0 λv45=>
 af W 5 v45 λv46=>
 wT 5 81 v46 λv47=>
 br (some v47) (
 U1 W 27 a λV=>
 Mm W 85 27 27 V λB H7=>
 PB H7 86 27 1 λh F=>
 fj F 87 27 27 B h λK S=>
 bC true S 88 111 [K] λG m=>
 fg (qN env.P 47 (some G) 0) λD=>
 aj 54 d 5 λw=>
 bH m 45 w D λU p=>
 af p 54 d λu=>
 bC false p 92 96 [u] λC k=>
 oS C λi=>
 gQ i false (aW k 54 d) λt=>
 gW i false k (jo false k 96 84 [t]) λo f=>
 gQ i false (tJ f 97 27 9 o) λe=>
 gQ i false (cf a) λn=>
 gQ i false (cf N) λR=>
 gQ i false (L8 f 27 n R) λI=>
 gQ i false (tJ f 101 27 9 I) λO=>
 gQ i false (HT 9 97 101 e O) λT=>
 cI i T λJ=>
 br (some J) (
 lG 54 λx=>
 bH f 54 l x λj s=>
 eO s l 54 λq=>
 Q (.tup [q,(.v (.int .i64 0)),(.v (.int .i64 8))]) s) (
 af f 54 d λx=>
 bH f 54 l x λj s=>
 eO s l 54 λq=>
 Q (.tup [q,N,(.v (.int .i64 0))]) s)) (
 af W 54 d λV=>
 bC false W 92 96 [V] λB H7=>
 oS B λh=>
 gQ h false (aW H7 54 d) λK=>
 gW h false H7 (jo false H7 96 84 [K]) λG F=>
 gQ h false (tJ F 97 27 9 G) λD=>
 gQ h false (cf a) λw=>
 gQ h false (cf N) λU=>
 gQ h false (L8 F 27 w U) λu=>
 gQ h false (tJ F 101 27 9 u) λC=>
 gQ h false (HT 9 97 101 D C) λi=>
 cI h i λt=>
 br (some t) (
 lG 54 λo=>
 bH F 54 l o λe S=>
 eO S l 54 λn=>
 Q (.tup [n,(.v (.int .i64 0)),(.v (.int .i64 8))]) S) (
 af F 54 d λo=>
 bH F 54 l o λe S=>
 eO S l 54 λn=>
 Q (.tup [n,N,(.v (.int .i64 0))]) S)))))
theorem vf(h : ∀g:iv,bN a H Q):ia Tryz.f85 0 [(0,a)] H Q:=me (by kernel_rfl) h
def fV:=yr Tryz.f82 2
def nQ:Nat->Option (List Nat):=λi=>cond (Nat.beq i 2) (some [3,1]) (none)
def nZ:Prop:=
 gr H 1 54 a λe d=>
  bL env Tryz.f82 0 fV [(3,(.v (.int .i64 0))),(1,e)] d Q
theorem td(h : ∀g:iv,nZ a H Q):ia Tryz.f82 0 [(0,a)] H Q:=zR nQ (by kernel_rfl) h
def gq(g:Nat->AV)(x3 b:AV)(H:ab)(Q:AV->ab->Prop):Prop:=
 aj 54 b 6 λj=>
 af H 52 j λf=>
 er H 7 52 f λm=>
 kn 3 4 7 x3 m λl=>
 br (some l) (
 aj 54 b 6 λh=>
 af H 52 h λk=>
 fJ H 52 k x3 λn=>
 af H 21 n λe=>
 fg (bE env.P .eql 21 (Operand.tmp 15) (.const (.int .i32 (-1))) (some e) (some (.v (.int .i32 (-1))))) λi=>
 br (some i) (
 Q (.v (.bool false)) H) (
 lf 3 9 1 x3 λd=>
  bL env Tryz.f82 0 fV [(3,d),(1,b)] H Q)) (
 Q (.v (.bool true)) H)
theorem mK(x3 b:AV)(H:ab)(Q:AV->ab->Prop)(h : ∀g,gq g x3 b H Q):bL env Tryz.f82 0 fV [(3,x3),(1,b)] H Q:=y8 nQ (by kernel_rfl) h
def ew:Prop:=
 wV 3 5 1 b λe=>
 gQ e false (cf b) λk=>
 gQ e false (zG 3 8 64 k) λj=>
 cI e j λi=>
 br (some i) (
 Q (.v (.int .i64 0)) H) (
 wU 5 11 a λh=>
 br (some h) (
 vX 3 4 13 b λd=>
 fg (bE env.P .add 3 (Operand.const (Value.int IntKind.i64 37)) (Operand.tmp 14) (some (AV.v (Value.int IntKind.i64 37))) (some d)) λf=>
 Q f H) (
 HX 5 16 a λd=>
 br (some d) (
 Q (.v (.int .i64 24)) H) (
 wT 5 18 a λf=>
 br (some f) (
 Q (.v (.int .i64 29)) H) (
 Q (.v (.int .i64 0)) H))))
theorem ud(h : ∀g:iv,ew a b H Q):ia Tryz.f110 0 [(0,a),(1,b)] H Q:=me (by kernel_rfl) h
def aE:Prop:=
 gr H 1 54 a λh H1=>
 aj 54 h 1 λv2=>
 af H1 47 v2 λv3=>
 bC true H1 6 95 [v3] λv4 H2=>
 oS v4 λL=>
 gQ L false (az 54 h 2) λv6=>
 gQ L false (aW H2 3 v6) λv7=>
 gQ L false (C5 3 10 1 v7) λv8=>
 cI L v8 λM=>
 gQ M false (az 54 h 2) λv10=>
 gQ M false (aW H2 3 v10) λV=>
 gQ M false (C6 3 15 16777216 V) λU=>
 cI M U λn=>
 gQ n false (az 54 h 3) λv14=>
 gQ n false (aW H2 51 v14) λT=>
 gW n false H2 (jo true H2 21 121 [T]) λO q=>
 gQ n false (qY O) λv17=>
 cI n v17 λv18=>
 br (some v18) (
 Q (.v (.bool false)) q) (
 aj 54 h 5 λv19=>
 af q 45 v19 λS=>
 lG 45 λv21=>
 tI 45 25 26 S v21 λj=>
 aj 54 h 0 λW=>
 af q 5 W λv24=>
 wU 5 29 v24 λX=>
 br (some X) (
 gQ j true (az 54 h 4) λw=>
 gQ j true (aW q 49 w) λC=>
 gW j true q (jo true q 35 108 [C]) λA l=>
 gQ j true (cf A) λe=>
 gQ e false (az 54 h 4) λu=>
 gQ e false (aW l 49 u) λx=>
 gW e false l (jo true l 39 122 [x]) λB o=>
 gQ j true (yJ (some e) (some (AV.v (Value.bool true))) (some B)) λy=>
 dy j y λd=>
 gQ d true (az 54 h 3) λs=>
 gQ d true (az 51 s 0) λI=>
 gQ d true (az 49 I 0) λp=>
 gQ d true (aW o 47 p) λt=>
 gQ d true (az 54 h 1) λi=>
 gQ d true (aW o 47 i) λE=>
 gQ d true (iA 47 46 48 t E) λz=>
 dy d z λf=>
 gQ f true (az 54 h 6) λk=>
 gQ f true (aW o 52 k) λD=>
 gQ f true (vW o 54 52 D) λF=>
 gQ f true (az 54 h 3) λK=>
 gQ f true (az 51 K 1) λJ=>
 gQ f true (aW o 3 J) λG=>
 gQ f true (iA 3 54 57 F G) λY=>
 dy f Y λm=>
 gQ m true (az 54 h 6) λZ=>
 gQ m true (aW o 52 Z) λN=>
 gW m true o (jo true o 63 123 [N]) λv53 H6=>
 gQ m true (BT 3 63 0 v53) λR=>
 dy m R λv55=>
 Q v55 H6) (
 aj 54 h 4 λw=>
 af q 49 w λC=>
 bC true q 68 108 [C] λA l=>
 oS A λe=>
 gQ e false (az 54 h 6) λu=>
 gQ e false (aW l 52 u) λx=>
 gQ e false (vW l 73 52 x) λB=>
 gQ e false (zG 3 73 0 B) λy=>
 cI e y λd=>
 br (some d) (
 Q (.v (.bool false)) l) (
 aj 54 h 0 λs=>
 af l 5 s λI=>
 HX 5 77 I λp=>
 gQ p true (cf j) λt=>
 dy p t λi=>
 gQ i false (az 54 h 0) λE=>
 gQ i false (aW l 5 E) λz=>
 gQ i false (bE env.P .eql 5 (Operand.tmp 84) (.const (.int .u8 3)) (some z) (some (a8 3))) λf=>
 gQ i false (cf f) λk=>
 gQ k true (az 54 h 5) λD=>
 gQ k true (aW l 45 D) λF=>
 gW k true l (jo true l 89 120 [F]) λK o=>
 gQ i false (L4 k K) λJ=>
 cI i J λG=>
 Q G o)))
theorem ve(h : ∀g:iv,aE a H Q):ia Tryz.f96 0 [(0,a)] H Q:=me (by kernel_rfl) h
def fa:Prop:=
 gr H 1 54 a λd H1=>
 aj 54 d 0 λv2=>
 af H1 5 v2 λv3=>
 Mb H1 6 27 1 0 v3 λv4 H2=>
 aj 54 d 1 λv5=>
 af H2 47 v5 λv6=>
 bC false H2 9 106 [v6] λv7 H3=>
 fj H3 10 27 27 v4 v7 λv8 E=>
 aj 54 d 2 λv9=>
 af E 3 v9 λv10=>
 zH 3 13 65536 v10 λv11=>
 fN E 15 3 5 v11 λv12=>
 aj 54 d 2 λv13=>
 af E 3 v13 λW=>
 zH 3 17 256 W λv15=>
 tK 3 18 256 v15 λZ=>
 fN E 20 3 5 Z λO=>
 aj 54 d 2 λN=>
 af E 3 N λv19=>
 tK 3 22 256 v19 λK=>
 fN E 24 3 5 K λV=>
 HY E 25 27 3 0 v12 1 O 2 V λv22 H5=>
 fj H5 26 27 27 v8 v22 λv23 H6=>
 aj 54 d 3 λv24=>
 aj 51 v24 0 λL=>
 af H6 49 L λv26=>
 bC true H6 31 107 [v26] λT H7=>
 fj H7 32 27 27 v23 T λv28 U=>
 aj 54 d 3 λJ=>
 aj 51 J 1 λI=>
 af U 3 I λv31=>
 fN U 37 3 5 v31 λS=>
 sA U 38 27 1 0 S λv33 H9=>
 fj H9 39 27 27 v28 v33 λq f=>
 aj 54 d 0 λY=>
 af f 5 Y λX=>
 wU 5 41 X λv37=>
 br (some v37) (
 aj 54 d 4 λA=>
 af f 49 A λC=>
 bC true f 45 108 [C] λy e=>
 br (some y) (
 jF (dK env.P true e (Ref.mk 0 47 (ab.gen e 0 47) 0) (some 27) (some 3) q (.v (.int .i64 13))) λl k=>
 aj 54 d 6 λn=>
 af k 52 n λp=>
 bC true k 56 109 [p] λm s=>
 fj s 57 27 27 l m λj i=>
 aj 54 d 0 λo=>
 af i 5 o λG=>
 wT 5 59 G λu=>
 br (some u) (
 aj 54 d 5 λw=>
 af i 45 w λF=>
 BS 47 0 F λD=>
 bC true i 65 106 [D] λz h=>
 Mj h 27 z λx=>
 fj h 67 27 27 j x λB t=>
 Q B t) (
 Q j i)) (
 aj 54 d 4 λl=>
 af e 49 l λn=>
 bC true e 51 107 [n] λp k=>
 fj k 52 27 27 q p λm s=>
 aj 54 d 6 λj=>
 af s 52 j λo=>
 bC true s 56 109 [o] λG i=>
 fj i 57 27 27 m G λu h=>
 aj 54 d 0 λw=>
 af h 5 w λF=>
 wT 5 59 F λD=>
 br (some D) (
 aj 54 d 5 λz=>
 af h 45 z λx=>
 BS 47 0 x λB=>
 bC true h 65 106 [B] λv55 t=>
 Mj t 27 v55 λR=>
 fj t 67 27 27 u R λM H17=>
 Q M H17) (
 Q u h))) (
 aj 54 d 0 λA=>
 af f 5 A λC=>
 wT 5 59 C λy=>
 br (some y) (
 aj 54 d 5 λl=>
 af f 45 l λn=>
 BS 47 0 n λp=>
 bC true f 65 106 [p] λm e=>
 Mj e 27 m λj=>
 fj e 67 27 27 q j λo k=>
 Q o k) (
 Q q f))
theorem te(h : ∀g:iv,fa a H Q):ia Tryz.f84 0 [(0,a)] H Q:=me (by kernel_rfl) h
def iK:=yr Tryz.f111 3
def nC:Nat->Option (List Nat):=λi=>cond (Nat.beq i 3) (some [4,0,3,2]) (none)
def nG:Prop:=
 fO H 2 47 λe d=>
  bL env Tryz.f111 0 iK [(4,(.v (.int .i64 1))),(0,a),(3,(.v (.int .i64 0))),(2,e)] d Q
theorem sy(h : ∀g:iv,nG a H Q):ia Tryz.f111 0 [(0,a)] H Q:=zR nC (by kernel_rfl) h
def db(g:Nat->AV)(d a x3 c:AV)(H:ab)(Q:AV->ab->Prop):Prop:=
 wV 3 5 5 d λo=>
 br (some o) (
 vX 3 256 9 x3 λf=>
 fJ H 27 a d λk=>
 af H 5 k λj=>
 fN H 15 5 3 j λh=>
 rM 3 10 15 f h λi=>
 lf 3 7 1 d λl=>
  bL env Tryz.f111 0 iK [(4,l),(0,a),(3,i),(2,c)] H Q) (
 nj H 27 a 0 λf=>
 af H 5 f λk=>
 fN H 21 3 43 x3 λj=>
 C2 45 0 k 1 j λh=>
 nj H 27 a 5 λi=>
 af H 5 i λl=>
 C2 47 0 h 1 l λn=>
 bH H 47 c n λp m=>
 eO m c 47 λe=>
 Q e m)
theorem dV(d a x3 c:AV)(H:ab)(Q:AV->ab->Prop)(h : ∀g,db g d a x3 c H Q):bL env Tryz.f111 0 iK [(4,d),(0,a),(3,x3),(2,c)] H Q:=y8 nC (by kernel_rfl) h
def fu:=yr Tryz.f112 3
def py:Nat->Option (List Nat):=λi=>cond (Nat.beq i 3) (some [4,0,3,2]) (none)
def pD:Prop:=
 fO H 2 49 λe d=>
  bL env Tryz.f112 0 fu [(4,(.v (.int .i64 6))),(0,a),(3,(.v (.int .i64 0))),(2,e)] d Q
theorem wN(h : ∀g:iv,pD a H Q):ia Tryz.f112 0 [(0,a)] H Q:=zR py (by kernel_rfl) h
def kQ(g:Nat->AV)(d a x3 c:AV)(H:ab)(Q:AV->ab->Prop):Prop:=
 wV 3 5 13 d λm=>
 br (some m) (
 vX 3 256 9 x3 λi=>
 fJ H 27 a d λh=>
 af H 5 h λf=>
 fN H 15 5 3 f λj=>
 rM 3 10 15 i j λe=>
 lf 3 7 1 d λk=>
  bL env Tryz.f112 0 fu [(4,k),(0,a),(3,e),(2,c)] H Q) (
 fg (dm env.P (ab.get H) 27 (some a) (some none) (oi (.v (.int .i64 6))) (some none)) λi=>
 bC true H 19 111 [i] λh l=>
 C2 49 0 h 1 x3 λf=>
 bH l 49 c f λj H2=>
 eO H2 c 49 λe=>
 Q e H2)
theorem ow(d a x3 c:AV)(H:ab)(Q:AV->ab->Prop)(h : ∀g,kQ g d a x3 c H Q):bL env Tryz.f112 0 fu [(4,d),(0,a),(3,x3),(2,c)] H Q:=y8 py (by kernel_rfl) h
def dN:=yr Tryz.f113 5
def o4:Nat->Option (List Nat):=λi=>cond (Nat.beq i 5) (some [5,4,0]) (none)
def ph:Prop:=
 er H 8 27 a λe=>
 yu 3 8 256 e λd=>
 br (some d) (
 Q (.tup [(.v (.slice none 0 0)),(.v (.int .i64 4))]) H) (
  bL env Tryz.f113 0 dN [(5,(.v (.int .i64 0))),(4,(.v (.slice none 0 0))),(0,a)] H Q)
theorem vh(h : ∀g:iv,ph a H Q):ia Tryz.f113 0 [(0,a)] H Q:=zR o4 (by kernel_rfl) h
def cZ(g:Nat->AV)(e x a:AV)(H:ab)(Q:AV->ab->Prop):Prop:=
 lf 3 10 3 e λJ=>
 er H 13 27 a λN=>
 kn 3 11 13 J N λK=>
 br (some K) (
 fJ H 27 a e λG=>
 af H 5 G λB=>
 fN H 21 5 3 B λD=>
 vX 3 16777216 21 D λL=>
 lf 3 24 1 e λO=>
 fJ H 27 a O λM=>
 af H 5 M λz=>
 fN H 28 5 3 z λq=>
 vX 3 65536 28 q λp=>
 rM 3 22 29 L p λC=>
 lf 3 32 2 e λF=>
 fJ H 27 a F λo=>
 af H 5 o λk=>
 fN H 36 5 3 k λA=>
 vX 3 256 36 A λw=>
 rM 3 30 37 C w λu=>
 lf 3 40 3 e λn=>
 fJ H 27 a n λE=>
 af H 5 E λy=>
 fN H 44 5 3 y λs=>
 rM 3 38 44 u s λi=>
 BU 3 46 4294967295 i λt=>
 br (some t) (
 jF (mn env.P false true H (Ref.mk 0 49 (ab.gen H 0 49) 0) 52 1 (some [(0,(.v (.int .i32 (-1))))])) λd j=>
 fj j 50 52 52 x d λh H2=>
 lf 3 15 4 e λf=>
  bL env Tryz.f113 0 dN [(5,f),(4,h),(0,a)] H2 Q) (
 bC true H 52 134 [i] λd j=>
 br (some d) (
 fN j 55 3 21 i λh=>
 sA j 56 52 1 0 h λf H2=>
 fj H2 57 52 52 x f λm I=>
 lf 3 15 4 e λl=>
  bL env Tryz.f113 0 dN [(5,l),(4,m),(0,a)] I Q) (
 Q (.tup [(.v (.slice none 0 0)),(.v (.int .i64 8))]) j))) (
 er H 59 27 a λG=>
 tK 3 59 4 G λB=>
 rO 3 60 0 B λD=>
 br (some D) (
 Q (.tup [(.v (.slice none 0 0)),(.v (.int .i64 8))]) H) (
 Q (.tup [x,(.v (.int .i64 0))]) H))
theorem gU(e d a:AV)(H:ab)(Q:AV->ab->Prop)(h : ∀g,cZ g e d a H Q):bL env Tryz.f113 0 dN [(5,e),(4,d),(0,a)] H Q:=y8 o4 (by kernel_rfl) h
def lR:Prop:=
 gr H 1 47 a λf e=>
 aj 47 f 0 λl=>
 af e 45 l λk=>
 bC true e 5 120 [k] λd H2=>
 gQ d true (az 47 f 1) λh=>
 gQ d true (aW H2 5 h) λi=>
 gQ d true (bE env.P .lss 5 (Operand.tmp 8) (.const (.int .u8 8)) (some i) (some (a8 8))) λm=>
 dy d m λj=>
 Q j H2
theorem qL(h : ∀g:iv,lR a H Q):ia Tryz.f95 0 [(0,a)] H Q:=me (by kernel_rfl) h
def eH:Prop:=
 gr H 1 51 a λe t=>
 aj 51 e 0 λA=>
 af t 49 A λz=>
 bC true t 5 122 [z] λf H2=>
 gQ f true (az 51 e 1) λw=>
 gQ f true (aW H2 3 w) λy=>
 gQ f true (C6 3 8 1 y) λu=>
 dy f u λh=>
 gQ h true (az 51 e 1) λx=>
 gQ h true (aW H2 3 x) λk=>
 gQ h true (FF 3 13 64 k) λq=>
 dy h q λd=>
 gQ d true (az 51 e 0) λo=>
 gQ d true (az 49 o 1) λs=>
 gQ d true (aW H2 3 s) λp=>
 gQ d true (az 51 e 1) λl=>
 gQ d true (aW H2 3 l) λm=>
 gQ d true (bE env.P .sub 3 (Operand.const (Value.int IntKind.i64 1099511627777)) (Operand.tmp 21) (some (AV.v (Value.int IntKind.i64 1099511627777))) (some m)) λj=>
 gQ d true (Pw 3 19 22 p j) λi=>
 dy d i λn=>
 Q n H2
theorem rR(h : ∀g:iv,eH a H Q):ia Tryz.f121 0 [(0,a)] H Q:=me (by kernel_rfl) h
def oN:Prop:=
 gr H 1 49 a λi d=>
 af d 49 i λh=>
 lG 49 λe=>
 tI 49 3 4 h e λf=>
 Q f d
theorem tZ(h : ∀g:iv,oN a H Q):ia Tryz.f108 0 [(0,a)] H Q:=me (by kernel_rfl) h
def pg:Prop:=
 gr H 1 49 a λf k=>
 aj 49 f 0 λp=>
 af k 47 p λo=>
 bC true k 5 95 [o] λe H2=>
 gQ e true (az 49 f 1) λl=>
 gQ e true (aW H2 3 l) λn=>
 gQ e true (C6 3 8 1 n) λq=>
 dy e q λd=>
 gQ d true (az 49 f 1) λm=>
 gQ d true (aW H2 3 m) λh=>
 gQ d true (FF 3 13 1099511627776 h) λj=>
 dy d j λi=>
 Q i H2
theorem vg(h : ∀g:iv,pg a H Q):ia Tryz.f122 0 [(0,a)] H Q:=me (by kernel_rfl) h
def fW:=yr Tryz.f123 4
def nR:Nat->Option (List Nat):=λi=>cond (Nat.beq i 4) (some [3,0]) (none)
def j9:Prop:=
 er H 5 52 a λe=>
 yu 3 5 64 e λd=>
 br (some d) (
 Q (.v (.int .i64 4)) H) (
  bL env Tryz.f123 0 fW [(3,(.v (.int .i64 0))),(0,a)] H Q)
theorem th(h : ∀g:iv,j9 a H Q):ia Tryz.f123 0 [(0,a)] H Q:=zR nR (by kernel_rfl) h
def eI(g:Nat->AV)(x3 a:AV)(H:ab)(Q:AV->ab->Prop):Prop:=
 er H 9 52 a λo=>
 kn 3 7 9 x3 o λm=>
 br (some m) (
 fJ H 52 a x3 λs=>
 af H 21 s λq=>
 U0 21 16 q λd=>
 gQ d true (cf a) λp=>
 gQ d true (cf x3) λt=>
 gQ d true (bI env.P (ab.get H) 52 (some p) (some t)) λl=>
 gQ d true (aW H 21 l) λn=>
 gQ d true (tJ H 23 21 3 n) λe=>
 gW d true H (jo true H 24 134 [e]) λi k=>
 gQ d true (qY i) λh=>
 dy d h λf=>
 br (some f) (
 Q (.v (.int .i64 8)) k) (
 lf 3 11 1 x3 λj=>
  bL env Tryz.f123 0 fW [(3,j),(0,a)] k Q)) (
 Q (.v (.int .i64 0)) H)
theorem mL(x3 a:AV)(H:ab)(Q:AV->ab->Prop)(h : ∀g,eI g x3 a H Q):bL env Tryz.f123 0 fW [(3,x3),(0,a)] H Q:=y8 nR (by kernel_rfl) h
def pj:Prop:=
 gr H 1 45 a λi d=>
 aj 45 i 0 λh=>
 af d 5 h λe=>
 fg (bE env.P .leq 5 (Operand.tmp 4) (.const (.int .u8 15)) (some e) (some (a8 15))) λf=>
 Q f d
theorem vi(h : ∀g:iv,pj a H Q):ia Tryz.f120 0 [(0,a)] H Q:=me (by kernel_rfl) h
def oa:Prop:=
 gr H 1 47 a λh m=>
 aj 47 h 0 λy=>
 aj 45 y 0 λw=>
 af m 5 w λx=>
 Mb m 7 27 1 0 x λs H2=>
 aj 47 h 0 λu=>
 aj 45 u 1 λp=>
 af H2 43 p λz=>
 fN H2 11 43 3 z λt=>
 bC false H2 12 133 [t,(.v (.int .i64 4))] λd o=>
 fj o 13 27 27 s d λj l=>
 aj 47 h 1 λi=>
 af l 5 i λe=>
 sA l 17 27 1 0 e λk q=>
 fj q 18 27 27 j k λf n=>
 Q f n
theorem tf(h : ∀g:iv,oa a H Q):ia Tryz.f106 0 [(0,a)] H Q:=me (by kernel_rfl) h
def ob:Prop:=
 gr H 1 49 a λe d=>
 aj 49 e 0 λn=>
 af d 47 n λl=>
 bC false d 5 106 [l] λm H2=>
 aj 49 e 1 λf=>
 af H2 3 f λi=>
 bC false H2 8 133 [i,(.v (.int .i64 7))] λo k=>
 fj k 9 27 27 m o λj h=>
 Q j h
theorem tg(h : ∀g:iv,ob a H Q):ia Tryz.f107 0 [(0,a)] H Q:=me (by kernel_rfl) h
def eQ:=yr Tryz.f109 3
def oH:Nat->Option (List Nat):=λi=>cond (Nat.beq i 3) (some [4,3,0]) (none)
def oO:Prop:=
 bL env Tryz.f109 0 eQ [(4,(.v (.int .i64 0))),(3,(.v (.slice none 0 0))),(0,a)] H Q
theorem uf(h : ∀g:iv,oO a H Q):ia Tryz.f109 0 [(0,a)] H Q:=zR oH (by kernel_rfl) h
def dA(g:Nat->AV)(p x3 a:AV)(H:ab)(Q:AV->ab->Prop):Prop:=
 er H 8 52 a λx=>
 kn 3 6 8 p x λw=>
 br (some w) (
 fJ H 52 a p λA=>
 af H 21 A λz=>
 fN H 16 21 3 z λo=>
 wV 3 17 0 o λy=>
 br (some y) (
 PE 3 20 16777216 4294967295 λt=>
 fN H 22 3 5 t λu=>
 PE 3 23 65536 4294967295 λq=>
 tK 3 24 256 q λf=>
 fN H 26 3 5 f λm=>
 PE 3 27 256 4294967295 λl=>
 tK 3 28 256 l λj=>
 fN H 30 3 5 j λn=>
 fg (bE env.P .rem 3 (Operand.tmp 31) (Operand.const (Value.int IntKind.i64 256)) (some (AV.v (Value.int IntKind.i64 4294967295))) (some (AV.v (Value.int IntKind.i64 256)))) λk=>
 fN H 33 3 5 k λh=>
 jF (mn env.P false true H (Ref.mk 0 34 (ab.gen H 0 34) 0) 27 4 (some [(0,u),(1,m),(2,n),(3,h)])) λi s=>
 fj s 35 27 27 x3 i λe H2=>
 lf 3 10 1 p λd=>
  bL env Tryz.f109 0 eQ [(4,d),(3,e),(0,a)] H2 Q) (
 zH 3 20 16777216 o λt=>
 fN H 22 3 5 t λu=>
 zH 3 23 65536 o λq=>
 tK 3 24 256 q λf=>
 fN H 26 3 5 f λm=>
 zH 3 27 256 o λl=>
 tK 3 28 256 l λj=>
 fN H 30 3 5 j λn=>
 tK 3 31 256 o λk=>
 fN H 33 3 5 k λh=>
 jF (mn env.P false true H (Ref.mk 0 34 (ab.gen H 0 34) 0) 27 4 (some [(0,u),(1,m),(2,n),(3,h)])) λi s=>
 fj s 35 27 27 x3 i λe H2=>
 lf 3 10 1 p λd=>
  bL env Tryz.f109 0 eQ [(4,d),(3,e),(0,a)] H2 Q)) (
 Q x3 H)
theorem ny(d x3 a:AV)(H:ab)(Q:AV->ab->Prop)(h : ∀g,dA g d x3 a H Q):bL env Tryz.f109 0 eQ [(4,d),(3,x3),(0,a)] H Q:=y8 oH (by kernel_rfl) h
def pE:Prop:=
 FE 3 3 0 a λe=>
 gQ e true (cf a) λn=>
 gQ e true (FF 3 6 1114111 n) λm=>
 dy e m λd=>
 gQ d true (cf a) λj=>
 gQ d true (C5 3 10 55296 j) λl=>
 gQ d true (cf l) λi=>
 gQ i false (cf a) λo=>
 gQ i false (zG 3 13 57343 o) λk=>
 gQ d true (yJ (some i) (some (AV.v (Value.bool true))) (some k)) λf=>
 dy d f λh=>
 Q h H
theorem wO(h : ∀g:iv,pE a H Q):ia Tryz.f134 0 [(0,a)] H Q:=me (by kernel_rfl) h
def jA:=yr Tryz.f133 3
def oG:Nat->Option (List Nat):=λi=>cond (Nat.beq i 3) (some [6,0,5,1]) (none)
def kS:Prop:=
 bL env Tryz.f133 0 jA [(6,(.v (.int .i64 0))),(0,a),(5,(.v (.slice none 0 0))),(1,b)] H Q
theorem ox(h : ∀g:iv,kS a b H Q):ia Tryz.f133 0 [(0,a),(1,b)] H Q:=zR oG (by kernel_rfl) h
def aT(g:Nat->AV)(e a d b:AV)(H:ab)(Q:AV->ab->Prop):Prop:=
 kn 3 7 8 e b λj=>
 br (some j) (
 tK 3 12 256 a λn=>
 fN H 14 3 5 n λl=>
 sA H 15 27 1 0 l λm i=>
 fj i 17 27 27 m d λh H2=>
 zH 3 18 256 a λk=>
 lf 3 10 1 e λf=>
  bL env Tryz.f133 0 jA [(6,f),(0,k),(5,h),(1,b)] H2 Q) (
 Q d H)
theorem aX(e a d b:AV)(H:ab)(Q:AV->ab->Prop)(h : ∀g,aT g e a d b H Q):bL env Tryz.f133 0 jA [(6,e),(0,a),(5,d),(1,b)] H Q:=y8 oG (by kernel_rfl) h
def gC:=yr Tryz.f12 4
def oF:Nat->Option (List Nat):=λi=>cond (Nat.beq i 4) (some [5,3,2]) (none)
def kP:Prop:=
 gr H 2 26 a λd h=>
 gr h 3 26 b λe H2=>
 aj 26 d 8 λl=>
 af H2 24 l λm=>
 er H2 8 24 m λf=>
 aj 26 e 8 λj=>
 af H2 24 j λn=>
 er H2 11 24 n λk=>
 C4 3 8 11 f k λi=>
 br (some i) (
 Q (.v (.bool false)) H2) (
  bL env Tryz.f12 0 gC [(5,(.v (.int .i64 0))),(3,e),(2,d)] H2 Q)
theorem tY(h : ∀g:iv,kP a b H Q):ia Tryz.f12 0 [(0,a),(1,b)] H Q:=zR oF (by kernel_rfl) h
def bg(g:Nat->AV)(q x3 c:AV)(H:ab)(Q:AV->ab->Prop):Prop:=
 aj 26 c 8 λv1=>
 af H 24 v1 λv2=>
 er H 16 24 v2 λv3=>
 kn 3 13 16 q v3 λv4=>
 br (some v4) (
 aj 26 c 8 λU=>
 af H 24 U λZ=>
 fJ H 24 Z q λG=>
 af H 54 G λv8=>
 aj 26 x3 8 λk=>
 af H 24 k λn=>
 fJ H 24 n q λm=>
 af H 54 m λl=>
 bC false H 30 43 [v8,l] λo H1=>
 oS o λp=>
 br (some p) (
 Q (.v (.bool false)) H1) (
 lf 3 18 1 q λd=>
  bL env Tryz.f12 0 gC [(5,d),(3,x3),(2,c)] H1 Q)) (
 aj 26 c 0 λU=>
 af H 5 U λZ=>
 aj 26 x3 0 λG=>
 af H 5 G λv8=>
 tI 5 33 35 Z v8 λk=>
 gQ k true (az 26 c 1) λn=>
 gQ k true (aW H 3 n) λm=>
 gQ k true (az 26 x3 1) λl=>
 gQ k true (aW H 3 l) λo=>
 gQ k true (iA 3 39 41 m o) λp=>
 dy k p λd=>
 gQ d true (az 26 c 2) λt=>
 gQ d true (aW H 3 t) λR=>
 gQ d true (az 26 x3 2) λM=>
 gQ d true (aW H 3 M) λL=>
 gQ d true (iA 3 46 48 R L) λD=>
 dy d D λj=>
 gQ j true (az 26 c 3) λN=>
 gQ j true (aW H 22 N) λE=>
 gQ j true (az 26 x3 3) λX=>
 gQ j true (aW H 22 X) λF=>
 gQ j true (iA 22 53 55 E F) λy=>
 dy j y λh=>
 gQ h true (az 26 c 4) λP=>
 gQ h true (aW H 3 P) λA=>
 gQ h true (az 26 x3 4) λx=>
 gQ h true (aW H 3 x) λC=>
 gQ h true (iA 3 60 62 A C) λS=>
 dy h S λf=>
 gQ f true (az 26 c 5) λz=>
 gQ f true (aW H 3 z) λs=>
 gQ f true (az 26 x3 5) λv36=>
 gQ f true (aW H 3 v36) λu=>
 gQ f true (iA 3 67 69 s u) λw=>
 dy f w λe=>
 gQ e true (az 26 c 6) λV=>
 gQ e true (aW H 5 V) λO=>
 gQ e true (az 26 x3 6) λW=>
 gQ e true (aW H 5 W) λB=>
 gQ e true (iA 5 74 76 O B) λT=>
 dy e T λi=>
 gQ i true (az 26 c 7) λv46=>
 gQ i true (aW H 23 v46) λv47=>
 gQ i true (az 26 x3 7) λY=>
 gQ i true (aW H 23 Y) λI=>
 gQ i true (iA 23 81 83 v47 I) λK=>
 dy i K λJ=>
 Q J H)
theorem nx(d x3 c:AV)(H:ab)(Q:AV->ab->Prop)(h : ∀g,bg g d x3 c H Q):bL env Tryz.f12 0 gC [(5,d),(3,x3),(2,c)] H Q:=y8 oF (by kernel_rfl) h
def nU:Code:=(Tryz.f5.body).getD .skip
def fU:=yr Tryz.f5 2
def nP:Nat->Option (List Nat):=λi=>cond (Nat.beq i 2) (some [3,1]) (none)
def nW:Prop:=
 gr H 1 26 a λe d=>
  bL env Tryz.f5 0 fU [(3,(.v (.int .i64 0))),(1,e)] d Q
theorem s8(h : ∀g:iv,nW a H Q):ia Tryz.f5 0 [(0,a)] H Q:=zR nP (by kernel_rfl) h
def eG(g:Nat->AV)(x3 b:AV)(H:ab)(Q:AV->ab->Prop):Prop:=
 aj 26 b 8 λp=>
 af H 24 p λn=>
 er H 7 24 n λs=>
 kn 3 4 7 x3 s λm=>
 gQ m true (cf x3) λo=>
 gQ m true (C5 3 10 20 o) λq=>
 dy m q λt=>
 br (some t) (
 aj 26 b 8 λf=>
 af H 24 f λj=>
 fJ H 24 j x3 λd=>
 aj 54 d 6 λe=>
 af H 52 e λk=>
 er H 21 52 k λh=>
 yu 3 21 500 h λl=>
 br (some l) (
 Q (.v (.bool true)) H) (
 lf 3 13 1 x3 λi=>
  bL env Tryz.f5 0 fU [(3,i),(1,b)] H Q)) (
 aj 26 b 8 λf=>
 af H 24 f λj=>
 er H 25 24 j λd=>
 yu 3 25 10 d λe=>
 Q e H)
theorem mG(x3 b:AV)(H:ab)(Q:AV->ab->Prop)(h : ∀g,eG g x3 b H Q):bL env Tryz.f5 0 fU [(3,x3),(1,b)] H Q:=y8 nP (by kernel_rfl) h
def hJ:Prop:=
 gr H 2 26 a λv1 H1=>
 gr H1 3 26 b λK H2=>
 af H2 26 v1 λv3=>
 af H2 26 K λv4=>
 fO H2 5 26 λn H3=>
 fO H3 6 26 λo H4=>
 bH H4 26 n v3 λv7 H5=>
 bH H5 26 o v4 λv8 H6=>
  vN [(K,n)] [n,o] [] H6 /\
 (aj 26 n 8 λv9=>
 FA H6 24 v9 λv10 H7=>
 aj 26 o 8 λY=>
 FA H7 24 Y λv12 d=>
 aj 26 n 0 λv13=>
 af d 5 v13 λI=>
 aj 26 o 0 λX=>
 af d 5 X λN=>
 tI 5 13 15 I N λj=>
 gQ j true (az 26 n 1) λy=>
 gQ j true (aW d 3 y) λv19=>
 gQ j true (az 26 o 1) λu=>
 gQ j true (aW d 3 u) λG=>
 gQ j true (iA 3 19 21 v19 G) λv22=>
 dy j v22 λl=>
 gQ l true (az 26 n 2) λv24=>
 gQ l true (aW d 3 v24) λv=>
 gQ l true (az 26 o 2) λU=>
 gQ l true (aW d 3 U) λB=>
 gQ l true (iA 3 26 28 v B) λv28=>
 dy l v28 λe=>
 gQ e true (az 26 n 3) λs=>
 gQ e true (aW d 22 s) λW=>
 gQ e true (az 26 o 3) λA=>
 gQ e true (aW d 22 A) λv33=>
 gQ e true (iA 22 33 35 W v33) λt=>
 dy e t λk=>
 gQ k true (az 26 n 4) λJ=>
 gQ k true (aW d 3 J) λO=>
 gQ k true (az 26 o 4) λR=>
 gQ k true (aW d 3 R) λZ=>
 gQ k true (iA 3 40 42 O Z) λD=>
 dy k D λh=>
 gQ h true (az 26 n 5) λF=>
 gQ h true (aW d 3 F) λV=>
 gQ h true (az 26 o 5) λC=>
 gQ h true (aW d 3 C) λE=>
 gQ h true (iA 3 47 49 V E) λL=>
 dy h L λm=>
 gQ m true (az 26 n 6) λv48=>
 gQ m true (aW d 5 v48) λw=>
 gQ m true (az 26 o 6) λv50=>
 gQ m true (aW d 5 v50) λv51=>
 gQ m true (iA 5 54 56 w v51) λM=>
 dy m M λf=>
 gQ f true (az 26 n 7) λS=>
 gQ f true (aW d 23 S) λv55=>
 gQ f true (az 26 o 7) λz=>
 gQ f true (aW d 23 z) λx=>
 gQ f true (iA 23 61 63 v55 x) λq=>
 dy f q λi=>
 gQ i true (az 26 v1 8) λv60=>
 gQ i true (aW d 24 v60) λp=>
 gQ i true (az 26 K 8) λP=>
 gQ i true (aW d 24 P) λv63=>
 gW i true d (jo true d 72 44 [p,v63,(.fn (.func 45) [] [])]) λT H9=>
 dy i T λv65=>
 Q v65 H9)
theorem G0(h : ∀g:iv,hJ a b H Q):ia Tryz.f17 0 [(0,a),(1,b)] H Q:=me (by kernel_rfl) h
def ao:=yr Tryz.f44 4
def bw:Nat->Option (List Nat):=λi=>cond (Nat.beq i 4) (some [17,2,1,15,16]) (none)
def aF:Prop:=
 er H 11 24 a λf=>
 er H 13 24 b λd=>
 C4 3 11 13 f d λh=>
 br (some h) (
 Q (.v (.bool false)) H) (
 er H 16 24 a λe=>
  bL env Tryz.f44 0 ao [(17,(.v (.int .i64 0))),(2,c),(1,b),(15,a),(16,e)] H Q)
theorem cO(h : ∀g:iv,aF a b c H Q):ia Tryz.f44 0 [(0,a),(1,b),(2,c)] H Q:=zR bw (by kernel_rfl) h
def aq(g:Nat->AV)(d c b f e:AV)(H:ab)(Q:AV->ab->Prop):Prop:=
 kn 3 17 16 d e λu=>
 br (some u) (
 fJ H 24 f d λy=>
 af H 54 y λx=>
 fO H 8 54 λo t=>
 bH t 54 o x λz H2=>
 fJ H2 24 b d λw=>
 af H2 54 w λs=>
 fO H2 9 54 λp q=>
 bH q 54 p s λA i=>
 af i 54 o λh=>
 af i 54 p λl=>
 PC i 29 c h l λk n=>
 oS k λj=>
 br (some j) (
 Q (.v (.bool false)) n) (
 lf 3 17 1 d λm=>
  bL env Tryz.f44 0 ao [(17,m),(2,c),(1,b),(15,f),(16,e)] n Q)) (
 Q (.v (.bool true)) H)
theorem bk(e c b d f:AV)(H:ab)(Q:AV->ab->Prop)(h : ∀g,aq g e c b d f H Q):bL env Tryz.f44 0 ao [(17,e),(2,c),(1,b),(15,d),(16,f)] H Q:=y8 bw (by kernel_rfl) h
def dJ:Code:=(Tryz.f41.body).getD .skip
def cy:Prop:=
 Mn 24 3 a λh=>
 br (some h) (
 Q (.v (.slice none 0 0)) H) (
 jF (mn env.P false true H (⟨(dep+1),5,ab.gen H (dep+1) 5,0⟩:Ref) 24 0 (some [])) λe f=>
 Mh f dep 7 24 24 e a λd H2=>
 Q d H2)
theorem dI(h : ∀g:iv,cy dep a H Q):ia Tryz.f41 (dep+1) [(0,a)] H Q:=me (by kernel_rfl) h
def J2:Code:=(Tryz.f7.body).getD .skip
def m7:Prop:=
 gr H 1 26 a λj H1=>
 bC false H1 12 36 [] λv2 H2=>
 aj 26 j 0 λv3=>
 af H2 5 v3 λv4=>
 fg (jQ env.P (ab.get H2) 92 (some v2) (some v4) true) λv5=>
 ep v5 0 λv6=>
 ep v5 1 λv7=>
 fO H2 4 90 λv8 H3=>
 bH H3 90 v8 v6 λv9 k=>
 aj 26 j 0 λv10=>
 af k 5 v10 λv11=>
 HW 5 19 v11 λe=>
 gQ e false (az 26 j 0) λv13=>
 gQ e false (aW k 5 v13) λX=>
 gQ e false (Py 5 23 X) λv15=>
 gQ e false (cf v15) λh=>
 gQ h true (az 26 j 8) λO=>
 gQ h true (aW k 24 O) λL=>
 gQ h true (vW k 28 24 L) λv19=>
 gQ h true (BT 3 28 1 v19) λE=>
 gQ e false (L4 h E) λW=>
 cI e W λd=>
 gQ d false (az 26 j 8) λv23=>
 gQ d false (aW k 24 v23) λv24=>
 gQ d false (vW k 35 24 v24) λI=>
 gQ d false (BT 3 35 0 I) λv26=>
 gQ d false (cf v26) λn=>
 gQ n true (az 26 j 0) λv28=>
 gQ n true (aW k 5 v28) λD=>
 gQ n true (bE env.P .neq 5 (Operand.tmp 39) (.const (.int .u8 2)) (some D) (some (a8 2))) λA=>
 gQ d false (L4 n A) λv31=>
 cI d v31 λS=>
 oS v7 λq=>
 gQ q false (cf S) λC=>
 gQ q false (qY C) λv35=>
 cI q v35 λY=>
 br (some Y) (
 Q (.tup [(.v (.slice none 0 0)),(.v (.int .i64 8))]) k) (
 aj 26 j 0 λv37=>
 af k 5 v37 λv38=>
 sA k 51 27 1 0 v38 λv39 H5=>
 BS 96 0 v39 λT=>
 gr H5 53 96 T λm H6=>
 af H6 26 j λV=>
 fO H6 8 26 λt H7=>
 bH H7 26 t V λv44 H8=>
 aj 90 v8 0 λU=>
 af H8 88 U λZ=>
 PC H8 58 Z m t λv47 s=>
 cz m λv48=>
 aj 96 v48 2 λJ=>
 af s 4 J λf=>
 gQ f false (az 90 v8 1) λv51=>
 gQ f false (aW s 28 v51) λv52=>
 gQ f false (aW s 26 j) λM=>
 gW f false s (Mg s 67 v52 M) λv54 p=>
 gQ f false (qY v54) λv55=>
 cI f v55 λR=>
 br (some R) (
 Q (.tup [(.v (.slice none 0 0)),(.v (.int .i64 8))]) p) (
 cz m λK=>
 aj 96 K 0 λz=>
 af p 27 z λN=>
 bC true p 75 9 [N] λu H11=>
 ep u 0 λy=>
 ep u 1 λv62=>
 fO H11 9 26 λw H12=>
 bH H12 26 w y λv64 l=>
 rO 22 78 0 v62 λi=>
 gQ i false (aW l 26 w) λG=>
 gQ i false (aW l 26 j) λv67=>
 gW i false l (jo true l 83 17 [G,v67]) λv68 o=>
 gQ i false (qY v68) λF=>
 cI i F λx=>
 br (some x) (
 Q (.tup [(.v (.slice none 0 0)),(.v (.int .i64 8))]) o) (
 cz m λv71=>
 aj 96 v71 0 λv72=>
 af o 27 v72 λB=>
 Q (.tup [B,(.v (.int .i64 0))]) o)))
theorem Is(h : ∀g:iv,m7 a H Q):ia Tryz.f7 0 [(0,a)] H Q:=me (by kernel_rfl) h
def sT:Prop:=
 fO H 2 26 λe t=>
 er t 8 27 a λv2=>
 BU 3 8 0 v2 λv3=>
 br (some v3) (
 af t 26 e λT=>
 bH t 26 e T λX H2=>
 eO H2 e 26 λR=>
 Q (.tup [R,(.v (.int .i64 90))]) H2) (
 bC false t 12 36 [] λT H2=>
 nj H2 27 a 0 λX=>
 af H2 5 X λR=>
 fg (jQ env.P (ab.get H2) 92 (some T) (some R) true) λV=>
 ep V 0 λv8=>
 ep V 1 λv9=>
 fO H2 4 90 λk Z=>
 bH Z 90 k v8 λv11 p=>
 oS v9 λE=>
 br (some E) (
 af p 26 e λm=>
 bH p 26 e m λs q=>
 eO q e 26 λh=>
 Q (.tup [h,(.v (.int .i64 90))]) q) (
 nj p 27 a 0 λm=>
 af p 5 m λs=>
 aj 26 e 0 λh=>
 bH p 5 h s λY q=>
 fg (dm env.P (ab.get q) 27 (some a) (oi (.v (.int .i64 1))) (some none) (some none)) λK=>
 fg (lz env.P 96 (some [(0,K),(1,(.v (.bool true)))])) λG=>
 gr q 29 96 G λj W=>
 aj 90 k 0 λD=>
 af W 88 D λS=>
 PC W 33 S j e λv22 n=>
 cz j λF=>
 aj 96 F 2 λN=>
 af n 4 N λd=>
 gQ d false (cf j) λz=>
 gQ d false (Bx (some z)) λL=>
 gQ d false (az 96 L 0) λJ=>
 gQ d false (aW n 27 J) λB=>
 gQ d false (vW n 43 27 B) λy=>
 gQ d false (zG 3 43 0 y) λC=>
 cI d C λf=>
 gQ f false (az 90 k 1) λI=>
 gQ f false (aW n 28 I) λA=>
 gQ f false (aW n 26 e) λu=>
 gW f false n (Mg n 50 A u) λU O=>
 gQ f false (qY U) λw=>
 cI f w λx=>
 br (some x) (
 lG 26 λi=>
 bH O 26 e i λM o=>
 eO o e 26 λl=>
 Q (.tup [l,(.v (.int .i64 90))]) o) (
 af O 26 e λi=>
 bH O 26 e i λM o=>
 eO o e 26 λl=>
 Q (.tup [l,(.v (.int .i64 0))]) o)))
theorem It(h : ∀g:iv,sT a H Q):ia Tryz.f9 0 [(0,a)] H Q:=me (by kernel_rfl) h
def tC:Prop:=
 gr H 1 26 a λi e=>
 af e 26 i λh=>
 bC true e 7 7 [h] λd H2=>
 ep d 0 λj=>
 ep d 1 λf=>
 Q f H2
theorem Fk(h : ∀g:iv,tC a H Q):ia Tryz.f13 0 [(0,a)] H Q:=me (by kernel_rfl) h
def zA:Prop:=
 gr H 1 26 a λf d=>
 aj 26 f 0 λl=>
 af d 5 l λk=>
 fg (bE env.P .leq 5 (Operand.tmp 4) (.const (.int .u8 5)) (some k) (some (a8 5))) λe=>
 gQ e true (aW d 26 f) λh=>
 gW e true d (jo true d 8 13 [h]) λi H2=>
 gQ e true (BT 22 8 0 i) λm=>
 dy e m λj=>
 Q j H2
theorem KD(h : ∀g:iv,zA a H Q):ia Tryz.f15 0 [(0,a)] H Q:=me (by kernel_rfl) h
def wL:Prop:=
 gr H 1 26 a λe d=>
 Q (.v (.bool true)) d
theorem CG(h : ∀g:iv,wL a H Q):ia Tryz.f62 0 [(0,a)] H Q:=me (by kernel_rfl) h
def wK:Prop:=
 gr H 1 26 a λf e=>
 aj 26 f 6 λl=>
 af e 5 l λk=>
 wU 5 4 k λd=>
 gQ d false (az 26 f 6) λh=>
 gQ d false (aW e 5 h) λi=>
 gQ d false (Py 5 8 i) λm=>
 cI d m λj=>
 Q j e
theorem CF(h : ∀g:iv,wK a H Q):ia Tryz.f63 0 [(0,a)] H Q:=me (by kernel_rfl) h
def wH:Code:=(Tryz.f64.body).getD .skip
def qW:Prop:=
 cz b λf=>
 aj 26 f 1 λd=>
 PD dep H 8 a d λh e=>
 Q (.v (.tuple #[])) e
theorem wq(h : ∀g:iv,qW dep a b H Q):ia Tryz.f64 (dep+1) [(0,a),(1,b)] H Q:=me (by kernel_rfl) h
def j1:Code:=(Tryz.f65.body).getD .skip
def bn:=yr Tryz.f65 3
def cE:=yr Tryz.f65 10
def fT:Nat->Option (List Nat):=λi=>cond (Nat.beq i 3) (some [6,1,0]) (cond (Nat.beq i 10) (some [87,1,85,2,0,86]) (none))
def bB:Prop:=
 cz a λG=>
 aj 96 G 1 λF=>
 af H 4 F λJ=>
 oS J λI=>
 br (some I) (
 cz a λz=>
 aj 96 z 2 λB=>
 af H 4 B λe=>
 gQ e false (cf b) λE=>
 gQ e false (Bx (some E)) λA=>
 gQ e false (aW H 3 A) λi=>
 gQ e false (C5 3 22 0 i) λp=>
 cI e p λd=>
 gQ d false (cf b) λm=>
 gQ d false (Bx (some m)) λs=>
 gQ d false (aW H 3 s) λn=>
 gQ d false (cf c) λj=>
 gQ d false (bE env.P .mul 3 (Operand.const (Value.int IntKind.i64 8)) (Operand.tmp 29) (some (AV.v (Value.int IntKind.i64 8))) (some j)) λk=>
 gQ d false (bE env.P .shl 3 (Operand.const (Value.int IntKind.i64 1)) (Operand.tmp 30) (some (AV.v (Value.int IntKind.i64 1))) (some k)) λt=>
 gQ d false (bE env.P .geq 3 (Operand.tmp 28) (Operand.tmp 31) (some n) (some t)) λf=>
 cI d f λl=>
 cz a λq=>
 aj 96 q 2 λh=>
 bH H 4 h l λC w=>
 Mo 3 36 1 c λo=>
  bL env Tryz.f65 (dep+1) bn [(6,o),(1,b),(0,a)] w Q) (
 cz a λz=>
 aj 96 z 2 λB=>
 af H 4 B λe=>
 gQ e false (cf a) λE=>
 gQ e false (Bx (some E)) λA=>
 gQ e false (az 96 A 0) λi=>
 gQ e false (aW H 27 i) λp=>
 gQ e false (UW H dep 68 27 p) λd=>
 gQ e false (cf c) λm=>
 gQ e false (L5 3 68 69 d m) λs=>
 cI e s λn=>
 cz a λj=>
 aj 96 j 2 λk=>
 bH H 4 k n λt w=>
 cz a λf=>
 aj 96 f 2 λl=>
 af w 4 l λq=>
 br (some q) (
 Q (.v (.tuple #[])) w) (
 cz b λh=>
 FB w 3 h 0 λC H2=>
 cz a λo=>
 aj 96 o 0 λD=>
 af H2 27 D λy=>
 HV H2 27 y c λu=>
 FC H2 dep 86 27 u λx=>
  bL env Tryz.f65 (dep+1) cE [(87,(.v (.int .i64 0))),(1,b),(85,u),(2,c),(0,a),(86,x)] H2 Q))
theorem jN(h : ∀g:iv,bB dep a b c H Q):ia Tryz.f65 (dep+1) [(0,a),(1,b),(2,c)] H Q:=zR fT (by kernel_rfl) h
def dE(dep:Nat)(g:Nat->AV)(i b a:AV)(H:ab)(Q:AV->ab->Prop):Prop:=
 FE 3 38 0 i λo=>
 br (some o) (
 cz a λl=>
 aj 96 l 0 λu=>
 af H 27 u λt=>
 cz b λm=>
 af H 3 m λq=>
 vX 3 8 50 i λw=>
 fg (bE env.P .shr 3 (Operand.tmp 49) (Operand.tmp 51) (some q) (some w)) λx=>
 Mi H dep 53 3 5 x λn=>
 jF (mn env.P true false H (⟨(dep+1),54,ab.gen H (dep+1) 54,0⟩:Ref) 27 1 (some [(0,n)])) λd p=>
 Mh p dep 55 27 27 t d λj H2=>
 cz a λh=>
 aj 96 h 0 λe=>
 bH H2 27 e j λs k=>
 Mo 3 40 1 i λf=>
  bL env Tryz.f65 (dep+1) bn [(6,f),(1,b),(0,a)] k Q) (
 Q (.v (.tuple #[])) H)
theorem ja(dep:Nat)(d b a:AV)(H:ab)(Q:AV->ab->Prop)(h : ∀g,dE dep g d b a H Q):bL env Tryz.f65 (dep+1) bn [(6,d),(1,b),(0,a)] H Q:=y8 fT (by kernel_rfl) h
def fb(dep:Nat)(g:Nat->AV)(d b f c a e:AV)(H:ab)(Q:AV->ab->Prop):Prop:=
 kn 3 87 86 d e λt=>
 br (some t) (
 fJ H 27 f d λh=>
 af H 5 h λn=>
 cz b λm=>
 af H 3 m λi=>
 Ml 3 94 i λl=>
 Mi H dep 97 5 3 n λo=>
 C3 3 95 97 l o λp=>
 cz b λs=>
 bH H 3 s p λq j=>
 lf 3 87 1 d λk=>
  bL env Tryz.f65 (dep+1) cE [(87,k),(1,b),(85,f),(2,c),(0,a),(86,e)] j Q) (
 cz a λh=>
 aj 96 h 0 λn=>
 af H 27 n λm=>
 L9 H 27 m c λi=>
 cz a λl=>
 aj 96 l 0 λo=>
 bH H 27 o i λp j=>
 Q (.v (.tuple #[])) j)
theorem iV(dep:Nat)(d b f c a e:AV)(H:ab)(Q:AV->ab->Prop)(h : ∀g,fb dep g d b f c a e H Q):bL env Tryz.f65 (dep+1) cE [(87,d),(1,b),(85,f),(2,c),(0,a),(86,e)] H Q:=y8 fT (by kernel_rfl) h
def wG:Code:=(Tryz.f66.body).getD .skip
def qV:Prop:=
 cz b λf=>
 aj 26 f 8 λd=>
 jF (c9 env true (aK env) (cU env (dep+1)) H (⟨(dep+1),8,ab.gen H (dep+1) 8,0⟩:Ref) (some (.fn (.func 67) [] [])) [a,d,(.v (.int .i64 1))]) λh e=>
 Q (.v (.tuple #[])) e
theorem wo(h : ∀g:iv,qV dep a b H Q):ia Tryz.f66 (dep+1) [(0,a),(1,b)] H Q:=me (by kernel_rfl) h
def ig:Code:=(Tryz.f67.body).getD .skip
def an:=yr Tryz.f67 1
def la:Nat->Option (List Nat):=λi=>cond (Nat.beq i 1) (some [6,0,1,2]) (none)
def qI:Prop:=
 bL env Tryz.f67 (dep+1) an [(6,(.v (.int .i64 0))),(0,a),(1,b),(2,c)] H Q
theorem hZ(h : ∀g:iv,qI dep a b c H Q):ia Tryz.f67 (dep+1) [(0,a),(1,b),(2,c)] H Q:=zR la (by kernel_rfl) h
def ay(dep:Nat)(g:Nat->AV)(F a b c:AV)(H:ab)(Q:AV->ab->Prop):Prop:=
 kn 3 12 13 F c λB=>
 gQ B true (cf a) λv2=>
 gQ B true (Bx (some v2)) λX=>
 gQ B true (az 96 X 2) λv4=>
 gQ B true (aW H 4 v4) λv5=>
 gQ B true (qY v5) λv6=>
 dy B v6 λY=>
 br (some Y) (
 cz a λv8=>
 aj 96 v8 1 λv9=>
 af H 4 v9 λS=>
 oS S λN=>
 br (some N) (
 cz b λo=>
 af H 24 o λy=>
 fJ H 24 y F λA=>
 af H 54 A λf=>
 jF (c9 env true (aK env) (cU env (dep+1)) H (⟨(dep+1),36,ab.gen H (dep+1) 36,0⟩:Ref) (some (.fn (.func 90) [] [])) [f]) λh I=>
 ep h 0 λw=>
 ep h 1 λs=>
 cz a λj=>
 aj 96 j 0 λD=>
 af I 27 D λz=>
 Mh I dep 46 27 27 z w λt H2=>
 rO 22 47 0 s λp=>
 cz a λG=>
 aj 96 G 0 λq=>
 bH H2 27 q t λC K=>
 cz a λx=>
 aj 96 x 2 λu=>
 bH K 4 u p λe l=>
 lf 3 22 1 F λd=>
  bL env Tryz.f67 (dep+1) an [(6,d),(0,a),(1,b),(2,c)] l Q) (
 cz a λo=>
 aj 96 o 0 λy=>
 af H 27 y λA=>
 jF (c9 env true (aK env) (cU env (dep+1)) H (⟨(dep+1),58,ab.gen H (dep+1) 58,0⟩:Ref) (some (.fn (.func 101) [] [])) [A]) λf I=>
 ep f 0 λh=>
 ep f 1 λw=>
 ep f 2 λs=>
 FD I dep 9 54 λj H2=>
 bH H2 54 j h λD K=>
 rO 22 63 0 s λz=>
 cz a λt=>
 aj 96 t 2 λp=>
 bH K 4 p z λG l=>
 cz a λq=>
 aj 96 q 2 λC=>
 af l 4 C λx=>
 oS x λu=>
 br (some u) (
 cz b λe=>
 af l 24 e λd=>
 af l 54 j λi=>
 jF (oV env.P l (⟨(dep+1),78,ab.gen l (dep+1) 78,0⟩:Ref) 24 1 (some [(0,i)])) λT V=>
 jF (wg env.P V (⟨(dep+1),79,ab.gen V (dep+1) 79,0⟩:Ref) (some 24) (some 24) d T) λR O=>
 cz a λL=>
 aj 96 L 0 λm=>
 af O 27 m λk=>
 L9 O 27 k w λJ=>
 cz b λn=>
 bH O 24 n R λZ H7=>
 cz a λU=>
 aj 96 U 0 λE=>
 bH H7 27 E J λv42 W=>
  vN [(d,m),(d,k),(k,n),(e,i),(i,m),(i,k)] [n,E] [] W /\
 (lf 3 22 1 F λM=>
  bL env Tryz.f67 (dep+1) an [(6,M),(0,a),(1,b),(2,c)] W Q)) (
 lf 3 22 1 F λe=>
  bL env Tryz.f67 (dep+1) an [(6,e),(0,a),(1,b),(2,c)] l Q))) (
 Q (.v (.tuple #[])) H)
theorem cB(dep:Nat)(d a b c:AV)(H:ab)(Q:AV->ab->Prop)(h : ∀g,ay dep g d a b c H Q):bL env Tryz.f67 (dep+1) an [(6,d),(0,a),(1,b),(2,c)] H Q:=y8 la (by kernel_rfl) h
def wJ:Prop:=
 gr H 1 26 a λf d=>
 aj 26 f 8 λk=>
 af d 24 k λi=>
 nj d 24 i 0 λj=>
 af d 54 j λe=>
 bC true d 7 69 [e] λh H2=>
 Q h H2
theorem CE(h : ∀g:iv,wJ a H Q):ia Tryz.f68 0 [(0,a)] H Q:=me (by kernel_rfl) h
def wF:Code:=(Tryz.f70.body).getD .skip
def qU:Prop:=
 cz b λf=>
 aj 26 f 4 λd=>
 Ia dep H 8 a d λh e=>
 Q (.v (.tuple #[])) e
theorem wj(h : ∀g:iv,qU dep a b H Q):ia Tryz.f70 (dep+1) [(0,a),(1,b)] H Q:=me (by kernel_rfl) h
def yP:Code:=(Tryz.f71.body).getD .skip
def tB:Prop:=
 cz b λk=>
 aj 26 k 6 λp=>
 af H 5 p λo=>
 Mi H dep 9 5 3 o λn=>
 FD H dep 4 3 λf j=>
 bH j 3 f n λt H2=>
 PD dep H2 11 a f λs e=>
 af e 3 f λq=>
 Mi e dep 14 3 5 q λl=>
 cz b λd=>
 aj 26 d 6 λh=>
 bH e 5 h l λm i=>
 Q (.v (.tuple #[])) i
theorem yA(h : ∀g:iv,tB dep a b H Q):ia Tryz.f71 (dep+1) [(0,a),(1,b)] H Q:=me (by kernel_rfl) h
def wE:Code:=(Tryz.f72.body).getD .skip
def CK:Prop:=
 Q (.v (.tuple #[])) H
theorem wi(h : ∀g:iv,CK H Q):ia Tryz.f72 (dep+1) [(0,a),(1,b)] H Q:=me (by kernel_rfl) h
def AN:Code:=(Tryz.f73.body).getD .skip
def vR:Prop:=
 cz b λh=>
 aj 26 h 3 λn=>
 af H 22 n λm=>
 FD H dep 4 3 λd f=>
 bH f 3 d m λp H2=>
 jF (c9 env true (aK env) (cU env (dep+1)) H2 (⟨(dep+1),10,ab.gen H2 (dep+1) 10,0⟩:Ref) (some (.fn (.func 65) [] [])) [a,d,(.v (.int .i64 2))]) λq e=>
 af e 3 d λo=>
 cz b λl=>
 aj 26 l 3 λi=>
 bH e 22 i o λj k=>
 Q (.v (.tuple #[])) k
theorem zP(h : ∀g:iv,vR dep a b H Q):ia Tryz.f73 (dep+1) [(0,a),(1,b)] H Q:=me (by kernel_rfl) h
def wD:Code:=(Tryz.f74.body).getD .skip
def qT:Prop:=
 cz b λf=>
 aj 26 f 2 λe=>
 Ia dep H 8 a e λh d=>
 jF (c9 env true (aK env) (cU env (dep+1)) d (⟨(dep+1),11,ab.gen d (dep+1) 11,0⟩:Ref) (some (.fn (.func 73) [] [])) [a,b]) λi H2=>
 Q (.v (.tuple #[])) H2
theorem wh(h : ∀g:iv,qT dep a b H Q):ia Tryz.f74 (dep+1) [(0,a),(1,b)] H Q:=me (by kernel_rfl) h
def wI:Prop:=
 gr H 1 26 a λi d=>
 aj 26 i 2 λh=>
 af d 3 h λe=>
 yu 3 4 0 e λf=>
 Q f d
theorem CD(h : ∀g:iv,wI a H Q):ia Tryz.f75 0 [(0,a)] H Q:=me (by kernel_rfl) h
def uM:Code:=(Tryz.f76.body).getD .skip
def p6:Prop:=
 cz b λx=>
 aj 26 x 4 λJ=>
 Ia dep H 9 a J λL E=>
 cz b λI=>
 aj 26 I 5 λC=>
 Ia dep E 14 a C λM H2=>
 cz b λz=>
 aj 26 z 8 λK=>
 af H2 24 K λF=>
 FC H2 dep 19 24 F λn=>
 FD H2 dep 4 3 λd u=>
 bH u 3 d n λy B=>
 PD dep B 21 a d λD p=>
 cz a λt=>
 aj 96 t 2 λh=>
 af p 4 h λe=>
 gQ e false (aW p 3 d) λo=>
 gQ e false (zG 3 28 3 o) λl=>
 cI e l λk=>
 cz a λf=>
 aj 96 f 2 λs=>
 bH p 4 s k λA m=>
 cz b λi=>
 aj 26 i 8 λq=>
 af m 3 d λj=>
 jF (c9 env true (aK env) (cU env (dep+1)) m (⟨(dep+1),38,ab.gen m (dep+1) 38,0⟩:Ref) (some (.fn (.func 67) [] [])) [a,q,j]) λw G=>
 Q (.v (.tuple #[])) G
theorem tT(h : ∀g:iv,p6 dep a b H Q):ia Tryz.f76 (dep+1) [(0,a),(1,b)] H Q:=me (by kernel_rfl) h
def uL:Code:=(Tryz.f77.body).getD .skip
def om:=yr Tryz.f77 2
def uB:Nat->Option (List Nat):=λi=>cond (Nat.beq i 2) (some [8,1,0]) (none)
def pZ:Prop:=
 jF (c9 env true (aK env) (cU env (dep+1)) H (⟨(dep+1),7,ab.gen H (dep+1) 7,0⟩:Ref) (some (.fn (.func 71) [] [])) [a,b]) λe d=>
  bL env Tryz.f77 (dep+1) om [(8,(.v (.int .i64 0))),(1,b),(0,a)] d Q
theorem tS(h : ∀g:iv,pZ dep a b H Q):ia Tryz.f77 (dep+1) [(0,a),(1,b)] H Q:=zR uB (by kernel_rfl) h
def cL(dep:Nat)(g:Nat->AV)(d b a:AV)(H:ab)(Q:AV->ab->Prop):Prop:=
 wV 3 8 4 d λf=>
 br (some f) (
 cz b λk=>
 aj 26 k 7 λj=>
 fJ H 23 j d λi=>
 Ia dep H 17 a i λl e=>
 lf 3 8 1 d λh=>
  bL env Tryz.f77 (dep+1) om [(8,h),(1,b),(0,a)] e Q) (
 Q (.v (.tuple #[])) H)
theorem cX(dep:Nat)(d b a:AV)(H:ab)(Q:AV->ab->Prop)(h : ∀g,cL dep g d b a H Q):bL env Tryz.f77 (dep+1) om [(8,d),(1,b),(0,a)] H Q:=y8 uB (by kernel_rfl) h
end
end Go.Proofs.YtehkjjcdkbcebaaGreat
