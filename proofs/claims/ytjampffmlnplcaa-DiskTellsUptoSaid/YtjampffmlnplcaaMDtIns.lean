/-
  The arguments of a law: from what is read before the call to data. No statement of a seat is proved here.
-/
import Derived.ChangeKeysEq
import Derived.Laws.Strings
import Derived.JoinedCond
import Derived.Test.YtjampffmlnplcaaRows
import Derived.Test.YtjampffmlnplcaaAbsCond
set_option linter.unusedVariables false
set_option linter.unusedSimpArgs false
set_option linter.unusedSectionVars false
set_option linter.unnecessarySimpa false
set_option maxRecDepth 1000000
namespace Go.Ab
open Go.ChangeShapes Go.WideShapes Go.RowKit
def tD(b:Bool)(a:List AV):AV:=match b,a with
 | false,[x]=>x
 | _,a => .agg a
def yf(S:List AV->Prop):Nat->List AV->Prop
 | 0,xs=>xs=[]
 | k+1,xs =>∃a b,xs=a++b/\S a/\yf S k b
def D7(S:TypeId->List AV->Prop):List Field->List AV->Prop
 | [],xs=>xs=[]
 | f :: c,xs =>∃a b,xs=a++b/\S f.type a/\D7 S c b
def qh(P:Program):Nat->TypeId->List AV->Prop
 | 0,_,_=>False
 | n+1,t,xs=>match P.underlying t with
  | some .bool =>∃b,xs=[aB b]
  | some (.int k) =>∃i,(k.min<=i/\i<=k.max)/\xs=[.v (.int k i)]
  | some .string =>∃s:ByteArray,xs=[aS s]
  | some (.slice e)=>xs=[bt] \/∃es:List (List AV),xs=[.cE (P.cellsOf e) (es.map (tD ((fw P e).getD false))) none] /\∀x∈es,qh P n e x
  | some (.struct a)=>D7 (qh P n) a.toList xs
  | some (.array k e)=>yf (qh P n e) k xs
  | _=>False
def layout(P:Program):List Field->Nat->Option Nat
 | [],o=>some o
 | f :: a,o=>if f.offset=o then layout P a (o+P.cellsOf f.type) else none
def plain(P:Program):Nat->TypeId->Bool
 | 0,_=>false
 | n+1,t=>match P.underlying t with
  | some .bool | some (.int _) | some .string=>P.cellsOf t == 1
  | some (.slice e)=>P.cellsOf t == 1&&plain P n e&&decide (0<P.cellsOf e)
  | some (.struct a)=>a.toList.all (λf=>plain P n f.type)&&layout P a.toList 0 == some (P.cellsOf t)
  | some (.array k e)=>plain P n e&&P.cellsOf t == k * P.cellsOf e
  | _=>false
theorem qh.facts{P:Program} : ∀(n:Nat)(t:TypeId)(c:List AV),plain P n t=true->qh P n t c->c.length=P.cellsOf t /\∀x∈c,x.one=true:=by
 intro n
 induction n with
 | zero=>intro t c h;simp[plain]at h
 | succ n G=>
  intro t c hp g
  unfold plain at hp
  unfold qh at g
  cases J:P.underlying t with
  | none=>rw[J]at g;exact g.elim
  | some d=>
   rw[J]at hp g
   cases d<;>dsimp only at hp g<;>try (exact g.elim)
   ·obtain⟨b,rfl⟩:=g
    simp at hp;exact⟨by simp[hp],by simp[AV.one]⟩
   ·obtain⟨i,_,rfl⟩:=g
    simp at hp;exact⟨by simp[hp],by simp[AV.one]⟩
   ·obtain⟨s,rfl⟩:=g
    simp at hp;exact⟨by simp[hp],by simp[AV.one]⟩
   ·rename_i e
    simp only[bR,beq_iff_eq]at hp
    rw[hp.1.1]
    rcases g with rfl | ⟨es,rfl,_⟩
    ·simp[AV.one]
    ·simp[AV.one]
   ·rename_i k e
    simp only[bR,beq_iff_eq]at hp
    rw[hp.2]
    have : ∀(k:Nat)(c:List AV),yf (qh P n e) k c->c.length=k * P.cellsOf e /\∀x∈c,x.one=true:=by
     intro k
     induction k with
     | zero=>intro c h;simp only[yf]at h;subst h;simp
     | succ k D=>
      intro c h
      obtain⟨a,b,rfl,E,z⟩:=h
      obtain⟨p,q⟩:=G e a hp.1 E
      obtain⟨v,F⟩:=D b z
      refine⟨by rw[iU,p,v,Nat.succ_mul];omega,λx u=>?_⟩
      rcases fc.1 u with h | h
      ·exact q x h
      ·exact F x h
    exact this k c g
   ·rename_i K
    simp only[bR,beq_iff_eq,dh]at hp
    have : ∀(l:List Field)(o:Nat)(c:List AV),(∀f∈l,plain P n f.type=true)->D7 (qh P n) l c->(∀m,layout P l o=some m->o+c.length=m) /\∀x∈c,x.one=true:=by
     intro l
     induction l with
     | nil=>intro o c _ h;simp only[D7]at h;subst h;exact⟨λm j=>by simp[layout]at j;simp[j],by simp⟩
     | cons f l y=>
      intro o c I h
      obtain⟨a,b,rfl,E,z⟩:=h
      obtain⟨p,q⟩:=G f.type a (I f (gu ..)) E
      obtain⟨v,F⟩:=y (o+P.cellsOf f.type) b (λf L=>I f (gv _ L)) z
      refine⟨λm j=>?_,λx u=>?_⟩
      ·unfold layout at j
       split at j
       ·have:=v m j;rw[iU,p];omega
       ·cases j
      ·rcases fc.1 u with h | h
       ·exact q x h
       ·exact F x h
    obtain⟨p,q⟩:=this K.toList 0 c hp.1 g
    exact⟨by have:=p _ hp.2;omega,q⟩
theorem zh{b:Bool}{a:List AV}(c : ∀x∈a,x.one=true):(tD b a).cells=a:=by
 unfold tD
 split
 ·rename_i x
  have:=c x (by simp)
  cases x<;>first | rfl | (simp[AV.one]at this)
 ·rfl
section
variable{H:Type}{enc:TypeId × Value->H}{P:Program}{w:World}{C:Nat}{A:Nat->Bool}{B:Bool}
abbrev kQ(w:World):Mem:=λb o=>w.cell? ⟨b,o,none⟩
def BR(P:Program)(n:Nat)(t:TypeId)(x:AV):Prop:=
 match fw P t with
 | some true =>∃a,x = .agg a/\qh P n t a
 | _=>qh P n t [x]
def zT(P:Program)(n:Nat):List TypeId->List AV->Prop
 | [],[]=>True
 | t :: a,x :: xs=>BR P n t x/\zT P n a xs
 | _,_=>False
end
theorem wK{H:Type}{enc:TypeId × Value->H}{P:Program}{w:World}{C:Nat}{A:Nat->Bool}{B:Bool} : ∀ {a:List TypeId} {b:List Value} {ds:List (DataW H)} {ps:List MemPlace},
 DataW.TrodAll enc P w C A B a b ds ps->ds.length=a.length:=by
 intro a
 induction a with
 | nil=>intro b ds ps h;obtain⟨_,rfl,_⟩:=trodAll_nil h;rfl
 | cons t a e=>
  intro b ds ps h
  obtain⟨v,g,d,f,p,q,rfl,rfl,rfl,_,c⟩:=trodAll_cons h
  simp[e c]
theorem mb{P:Program}{n:Nat}{t:TypeId}{c:List TypeId}{a:List AV}(h:zT P n (t :: c) a) : ∃x b,a=x :: b/\BR P n t x/\zT P n c b:=by
 cases a with
 | nil=>exact h.elim
 | cons x a=>exact⟨x,a,rfl,h.1,h.2⟩
theorem Cw{P:Program}{n:Nat}{a:List AV}(h:zT P n [] a):a=[]:=by
 cases a with
 | nil=>rfl
 | cons x a=>exact h.elim
end Go.Ab
namespace Go.Ab
def Iq{c:Type}(P:Program)(t:TypeId)(ok:c->Prop)(enc:c->List AV):Prop :=∀n b,qh P n t b ->∃a,ok a/\b=enc a
def isBool(P:Program)(t:TypeId):Bool:=match P.underlying t with | some .bool=>true | _=>false
def ny(P:Program)(t:TypeId):Option (List TypeId):=match P.underlying t with | some (.struct a)=>some (a.toList.map (·.type)) | _=>none
theorem CD{P:Program}{t:TypeId}(h:isBool P t=true):Iq P t (λ_=>True) λb:Bool=>[aB b]:=by
 intro n d a
 cases n with
 | zero=>exact a.elim
 | succ n=>
  unfold isBool at h
  unfold qh at a
  split at h
  ·rename_i c;rw[c]at a;obtain⟨b,rfl⟩:=a;exact⟨b,trivial,rfl⟩
  ·cases h
theorem Ak{P:Program}{t:TypeId}{k:IntKind}(h:intKind P t=some k):Iq P t (λi:Int=>k.min<=i/\i<=k.max) λi:Int=>[.v (.int k i)]:=by
 intro n c a
 cases n with
 | zero=>exact a.elim
 | succ n=>
  unfold qh at a
  rw[pC h]at a
  obtain⟨i,b,rfl⟩:=a
  exact⟨i,b,rfl⟩
theorem qW{P:Program}{t:TypeId}(h:intKind P t=some .i64):Iq P t (λi:Int => -9223372036854775808<=i/\i<=9223372036854775807) λi:Int=>[aI i]:=λn a c=>by
 obtain⟨i,b,rfl⟩:=Ak h n a c;exact⟨i,b,rfl⟩
theorem IE{P:Program}{t:TypeId}(h:intKind P t=some .u8):Iq P t (λ_=>True) λb:UInt8=>[a8 b]:=λn d e=>by
 obtain⟨i,a,rfl⟩:=Ak h n d e
 refine⟨u8 i,trivial,?_⟩
 have c:(0:Int)<=i:=a.1
 have f:i<=255:=a.2
 unfold a8
 show[AV.v (.int .u8 i)]=[AV.v (.int .u8 ((u8 i).toNat:Int))]
 rw[AT,Int.emod_eq_of_lt c (by omega),qm c]
theorem E9{d:Type}{ok:d->Prop}{enc:d->List AV} : ∀(es:List (List AV)),(∀x∈es,∃a,ok a/\x=enc a) ->∃l:List d,(∀a∈l,ok a)/\es=l.map enc:=by
 intro es
 induction es with
 | nil=>intro _;exact⟨[],by simp,rfl⟩
 | cons x es g=>
  intro h
  obtain⟨a,i,rfl⟩:=h x (gu ..)
  obtain⟨l,f,rfl⟩:=g λx e=>h x (gv _ e)
  refine⟨a :: l,?_,rfl⟩
  intro b c
  rcases dg.1 c with rfl | c
  ·exact i
  ·exact f b c
theorem AY{P:Program}{t e:TypeId}(h:bg P t=some e):P.underlying t=some (.slice e):=by
 unfold bg at h
 split at h
 ·cases h;assumption
 ·cases h
theorem wT{c:Type}{P:Program}{t e:TypeId}{z:Nat}{g:Bool}{ok:c->Prop}{enc:c->List AV}(j:bg P t=some e)(f:ay P e=some z)(p:fw P e=some g)(k:Iq P e ok enc){n:Nat}{d:List AV}(h:qh P n t d) :
 ∃(l:List c) (x:AV),(∀a∈l,ok a)/\d=[x]/\Sl z (l.map λa=>tD g (enc a)) x:=by
 cases n with
 | zero=>exact h.elim
 | succ n=>
  unfold qh at h
  rw[AY j]at h
  rcases h with rfl | ⟨es,rfl,b⟩
  ·exact⟨[],bt,by simp,rfl,.inl ⟨rfl,rfl⟩⟩
  ·obtain⟨l,o,rfl⟩:=E9 es λx i=>k n x (b x i)
   have m:P.cellsOf e=z:=by
    unfold ay at f
    unfold Program.cellsOf
    rw[f];rfl
   refine⟨l,_,o,rfl,?_⟩
   rw[m,p,uS]
   exact Sl.mk z _
theorem wU{P:Program}{t e:TypeId}(d:bg P t=some e)(f:intKind P e=some .u8)(c:ay P e=some 1)(g:fw P e=some false){n:Nat}{a:List AV}(h:qh P n t a) : ∃(l:List UInt8) (x:AV),a=[x]/\Sl 1 (cR l) x:=by
 obtain⟨l,x,_,rfl,b⟩:=wT d c g (IE f) h
 exact⟨l,x,rfl,b⟩
theorem BR.cell{P:Program}{n:Nat}{t:TypeId}{x:AV}(a:fw P t=some false)(h:BR P n t x):qh P n t [x]:=by
 unfold BR at h;rw[a]at h;exact h
theorem BR.agg{P:Program}{n:Nat}{t:TypeId}{x:AV}(b:fw P t=some true)(h:BR P n t x) : ∃a,x = .agg a/\qh P n t a:=by
 unfold BR at h;rw[b]at h;exact h
def Ju(S:TypeId->List AV->Prop):List TypeId->List AV->Prop
 | [],xs=>xs=[]
 | t :: c,xs =>∃a b,xs=a++b/\S t a/\Ju S c b
theorem uf{P:Program}{t:TypeId}{e:List TypeId}(c:ny P t=some e){n:Nat}{d:List AV}(h:qh P n t d) : ∃m,Ju (qh P m) e d:=by
 cases n with
 | zero=>exact h.elim
 | succ n=>
  unfold ny at c
  split at c
  ·rename_i i j
   cases c
   unfold qh at h
   rw[j]at h
   refine⟨n,?_⟩
   dsimp only at h
   generalize i.toList=l at h
   induction l generalizing d with
   | nil=>exact h
   | cons f l k=>
    obtain⟨a,b,rfl,o,g⟩:=h
    exact⟨a,b,rfl,o,k g⟩
  ·cases c
def Kc:List AV->List AV->Option Bool
 | [.v (.bool a)],[.v (.bool b)]=>some (decide (a=b))
 | [.v (.int k a)],[.v (.int k' b)]=>if k=k' then some (decide (a=b)) else none
 | [.v (.string a)],[.v (.string b)]=>some (a == b)
 | _,_=>none
def sB(l:List UInt8):AV:=aS ⟨l.toArray⟩
theorem vZ(l:List UInt8):(cR l).mapM byteOf=some l:=by
 unfold cR
 induction l with
 | nil=>rfl
 | cons b l a=>
  simp only[o5,jQ,a,lh,lV]
  show(some (UInt8.ofNat ((b.toNat:Int)).toNat)).bind _=_
  simp
theorem xW{P:Program}{a b:TypeId}(c:bp P a=true)(d:isStr P b=true){g:bD}{r:Ref}{l:List UInt8}{x:AV}(e:Ec g 1 (cR l) x)(f : ∀s,x ≠ .v (.string s)) :
 bI P g r a b (some x)=some (sB l,[]):=by
 rcases e with ⟨rfl,h⟩ | ⟨j,i,he⟩
 ·have:=congrArg List.length h
  simp at this
  subst this
  simp only[bI,c,d,ru,if_true]
  rfl
 ·cases x with
  | v x=>
   exfalso
   cases x<;>first | (simp[aV]at he;done) | skip
   exact f _ rfl
  | _=>
   simp only[bI,c,d,ru,if_true,he,vZ,Option.map_some]
   rfl
theorem Sl.zf{z:Nat}{es:List AV}{x:AV}(h:Sl z es x) : ∀s,x ≠ .v (.string s):=by
 rcases h with ⟨rfl,_⟩ | ⟨c,rfl,_⟩<;>intro s e<;>cases e
theorem tK.zf{z:Nat}{es:List AV}{H:aa}{x:AV}(h:tK z es H x) : ∀s,x ≠ .v (.string s):=by
 rcases h with ⟨rfl,_⟩ | ⟨r,rfl,_⟩<;>intro s e<;>cases e
theorem Sl.conv{P:Program}{a b:TypeId}{l:List UInt8}{x:AV}(c:Sl 1 (cR l) x)(d:bp P a=true)(e:isStr P b=true)(g:bD)(r:Ref):bI P g r a b (some x)=some (sB l,[]):=
 xW d e (c.tG g) c.zf
theorem tK.conv{P:Program}{a b:TypeId}{l:List UInt8}{H:aa}{x:AV}(c:tK 1 (cR l) H x)(d:bp P a=true)(e:isStr P b=true)(r:Ref):bI P H.get r a b (some x)=some (sB l,[]):=
 xW d e c.tG c.zf
theorem ku(l:List UInt8):(⟨l.toArray⟩:ByteArray).toList=l:=by
 rw[ByteArray.toList_eq]
@[simp] theorem FU(P:Program)(t:TypeId)(b a:Operand)(l m:List UInt8):cK P .eql t b a (some (sB l)) (some (sB m))=some (aB (decide (l=m)),[]):=by
 show some ((AV.v (.bool ((⟨l.toArray⟩:ByteArray).toList == (⟨m.toArray⟩:ByteArray).toList))),[])=_
 rw[ku,ku]
 congr 4
 by_cases h:l=m<;>simp[h]
@[simp] theorem FT(P:Program)(t:TypeId)(b a:Operand)(l m:List UInt8):cK P .neq t b a (some (sB l)) (some (sB m))=some (aB (!decide (l=m)),[]):=by
 show some ((AV.v (.bool (!((⟨l.toArray⟩:ByteArray).toList == (⟨m.toArray⟩:ByteArray).toList)))),[])=_
 rw[ku,ku]
 congr 5
 by_cases h:l=m<;>simp[h]
theorem DV{P:Program}{a y:Bool}{H:aa}{r:Ref}{t z by' n:Nat}{ps:List (Nat × AV)}{zz:AV}(j:Ga P t z by'=true)(d:n * z<=16777216)(o:cA H.get ps=some ps)(c:aP H.get (ps.map (·.2))=[])
 (u:ps.all (λp=>p.2.cells.length == z&&p.2.cells.all AV.one)=true) (f:(bg P t).bind (ep P)=some zz) {es:List AV} (s:dP (List.replicate n zz) ps=some es) :
 oH P a y H r t n (some ps)=if a then some (.cE z es (some n),H) else some (.aD r 0 n (some n),({ r with k:=0},some ⟨z,es,true,false⟩) :: H):=by
 obtain⟨e,m,g,l,D,h,i,x,q,E⟩:=eM j
 rw[g]at f
 simp only[cQ,h,cz]at f
 subst f
 have b:mkSlice P H.get t n ps=some ⟨z,es,true,false⟩:=by
  simp only[mkSlice,g,o,h,l]
  rw[if_pos ⟨ng q,d,i,x,by simpa using u⟩,s]
  rfl
 have v:dA P a H.get r t n (some ps)=if a then some (.cE z es (some n),[]) else some (.aD r 0 n (some n),[⟨z,es,true,false⟩]):=by
  simp only[dA,c,gM,List.all_nil,if_true,b,Option.map_some]
  cases a<;>rfl
 unfold oH
 rw[v]
 cases a<;>rfl
theorem AS{g:bD}{r:Ref}{z:Nat}{es:List AV}{fz:Bool}(a:g r=some ⟨z,es,true,fz⟩){n:Nat}(b:n=es.length)(k:Nat)(c:Option Nat):view g (k+1) (.aD r 0 n c)=some (.cE z es c):=by
 subst b
 rw[wH a,if_pos ⟨rfl,by simp⟩,uU,uX]
theorem tK.bm{z:Nat}{es:List AV}{H H':aa}{x s d:AV}(h:tK z es H x)(hp : ∀q b,H.get q=some b->s.at?≠some q->H'.get q=some b/\d.at?≠some q)(c : ∀q,x.at?=some q->s.at?≠some q):tK z es H' x /\∀q,x.at?=some q->d.at?≠some q:=by
 rcases h with ⟨rfl,rfl⟩ | ⟨r,rfl,g⟩
 ·exact⟨Am z H',λq a=>by simp[AV.at?]at a⟩
 ·obtain⟨e,f⟩:=hp r _ g (c r rfl)
  exact⟨.inr ⟨r,rfl,e⟩,λq a=>by simp only[AV.at?,cz]at a;subst a;exact f⟩
theorem zl{P:Program}{t:TypeId}(h:isBool P t=true):P.underlying t=some .bool:=by
 unfold isBool at h
 split at h
 ·assumption
 ·cases h
theorem tB{P:Program}{t:TypeId}(h:isBool P t=true)(d:Nat)(a b:Bool):cO P (Op.equalIn (d+1) t (.bool a) (.bool b))=some (a == b):=by
 simp only[Op.equalIn,dT,nm (zl h),cQ]
 rfl
theorem y9{P:Program}{t:TypeId}(h:isBool P t=true)(c:BinOp)(g:c = .eql\/c = .neq)(e d:Operand)(a b:Bool) :
 xe P c t e d (.bool a) (.bool b)=some (.bool (if c = .eql then a == b else !(a == b))):=by
 have f:cO P (Op.equal t (.bool a) (.bool b))=some (a == b):=tB h 9999 a b
 unfold xe
 rcases g with rfl | rfl
 ·have:cO P (eqGuard .eql t e d (.bool a) (.bool b))=some ():=rfl
  rw[dT,this,cQ]
  show cO P (do pure (Value.bool (<-Op.equal t (.bool a) (.bool b))))=_
  rw[dT,f];rfl
 ·have:cO P (eqGuard .neq t e d (.bool a) (.bool b))=some ():=rfl
  rw[dT,this,cQ]
  show cO P (do pure (Value.bool (!(<-Op.equal t (.bool a) (.bool b)))))=_
  rw[dT,f];rfl
@[simp] theorem Ei{P:Program}{t:TypeId}(h:isBool P t=true)(c d:Operand)(a b:Bool):cK P .eql t c d (some (aB a)) (some (aB b))=some (aB (a == b),[]):=by
 simp only[cK,zk,gE,gT,y9 h .eql (.inl rfl),oe,Bool.or_self,kF,if_false,cQ,fk,scalar,if_true,fa,Option.map_some]
@[simp] theorem J8(P:Program)(d:Bool)(g:bD)(r:Ref)(c:Array TypeId)(k:IntKind)(a b:Int):bS P d g r .min c [.v (.int k a),.v (.int k b)]=some (.v (.int k (if b<a then b else a)),[]):=id rfl
theorem so{P:Program}{r:Ref}{t z by':Nat}{zz:AV}(f:Ga P t z by'=true)(a:(bg P t).bind (ep P)=some zz){n:Nat}(i:n * by'<=aO)(l:n<9223372036854775808) :
 oz P r t (some (aI n)) (some (aI n))=some (.aD r 0 n none,[⟨z,List.replicate n zz,true,false⟩]):=by
 obtain⟨e,h,b,g,j,c,d,m,k,o⟩:=eM f
 rw[b]at a
 simp only[cQ,c,cz]at a
 subst a
 simp only[oz,b,cQ,kT,c,g,j]
 have:((n:Int) * (by':Int))<=(aO:Int):=by exact_mod_cast i
 rw[if_pos ⟨by omega,Int.le_refl _,this,by omega,ng k,d,m⟩,Int.toNat_natCast]
theorem tK.cons{z:Nat}{es:List AV}{H:aa}{x:AV}(h:tK z es H x)(c:Fr H)(d t:Nat)(b:Option ax):tK z es ((⟨d,t,H.gen d t,0⟩,b) :: H) x:=by
 rcases h with ⟨rfl,rfl⟩ | ⟨r,rfl,a⟩
 ·exact Am z _
 ·refine .inr ⟨r,rfl,?_⟩
  rw[aa.bJ,if_neg (qY c (by rw[a];rfl) d t 0)]
  exact a
@[simp] theorem HU(P:Program)(r:Ref)(e:TypeId){z:AV}(b:ep P e=some z)(a:0<(ay P e).getD 0):mG P r e=if some z.cells.length=ay P e/\z.cells.all AV.one=true then some (.ptr r 0 0,[⟨(ay P e).getD 0,[z],false,false⟩]) else none:=by
 unfold mG
 rw[b]
 cases h:ay P e with
 | none=>simp
 | some n=>rw[h]at a;simp only[bQ]at a;simp[a]
@[simp] theorem CN{P:Program}{t f:Nat}(h:0<((bT P t f).getD (0,0)).2)(r:Ref)(i j:Nat):du P t (some (.ptr r i j)) f=some (.ptr r i (j+((bT P t f).getD (0,0)).1),[]):=by
 unfold du
 cases a:bT P t f with
 | none=>rw[a]at h;simp at h
 | some p=>obtain⟨o,s⟩:=p;rw[a]at h;simp only[bQ]at h ⊢;rw[if_pos h]
@[simp] theorem BZ{P:Program}{t f:Nat}(h:0<((bT P t f).getD (0,0)).2)(n:Nat)(es:List AV)(i j:Nat):du P t (some (.iptr n es i j)) f=some (.iptr n es i (j+((bT P t f).getD (0,0)).1),[]):=by
 unfold du
 cases a:bT P t f with
 | none=>rw[a]at h;simp at h
 | some p=>obtain⟨o,s⟩:=p;rw[a]at h;simp only[bQ]at h ⊢;rw[if_pos h]
@[simp] theorem Ee(cs:List AV)(new:List AV)(h:new.length=cs.length):eA [AV.agg cs] 0 0 new=some [AV.agg new]:=by
 simp[eA,jC,patch,h]
@[simp low] theorem Eo(cs:List AV)(j:Nat)(new:List AV)(h:j+new.length<=cs.length):eA [AV.agg cs] 0 j new=some [AV.agg (patch cs j new)]:=by
 simp[eA,jC,h]
@[simp] theorem IS(cs:List AV)(j:Nat)(new:List AV):patch cs j new=cs.take j++new++cs.drop (j+new.length):=id rfl
@[simp] theorem ES{P:Program}{t:TypeId}(c:(fw P t).isSome=true)(b:(ay P t).isSome=true)(H:aa)(r:Ref)(i j:Nat):me P H (.ptr r i j) t=Df (H.get r) i j ((ay P t).getD 0) ((fw P t).getD false):=by
 obtain⟨a,c⟩:=fe.1 c
 obtain⟨n,b⟩:=fe.1 b
 simp only[me,c,b,bQ]
 rfl
@[simp] theorem Eh{P:Program}{t:TypeId}{z:List AV}(c:ep P t=some (.agg z))(b:n8 P t=none)(hp:(kO P t).isSome=true)(a:List (Nat × AV)) :
 iG P t (some a)=(kZ (λi=>((kO P t).getD [])[i]?) z a).map λcs=>(.agg cs,[]):=by
 obtain⟨ps,hp⟩:=fe.1 hp
 simp only[iG,c,b,hp,bQ]
@[simp] theorem EW(a:List AV)(i:Nat):jV (some (.tup a)) i=fa a[i]?:=id rfl
@[simp] theorem aa.JS(d t:Nat):aa.gen [] d t=0:=id rfl
@[simp] theorem aa.je(d t g k:Nat)(b:Option ax)(H:aa)(a t':Nat):aa.gen ((⟨d,t,g,k⟩,b) :: H) a t'=if d=a/\t=t' then g+1 else aa.gen H a t':=id rfl
@[simp] theorem qw{c d:Type}(f:c->Option d)(a:c)(l:List c):List.mapM f (a :: l)=(f a).bind λb=>(List.mapM f l).map (b :: ·):=by
 rw[jQ];cases f a<;>cases List.mapM f l<;>rfl
@[simp] theorem GI{c:Type}(f:c->AV)(l:List c)(i j n:Nat)(b:Bool):bq (l.map f) i j n b=(l[i]?).bind λa=>bq [f a] 0 j n b:=by
 unfold bq
 rw[fU]
 cases l[i]?<;>rfl
theorem drop_cons{c:Type}{l:List c}{k:Nat}{a:c}{s:List c}(h:l.drop k=a :: s) : ∃b:k<l.length,l[k]=a/\l.drop (k+1)=s/\l[k]?=some a:=by
 have b:k<l.length:=by
  have:=congrArg List.length h
  simp at this;omega
 rw[yF b]at h
 cases h
 exact⟨b,rfl,rfl,bG b⟩
theorem drop_nil{a:Type}{l:List a}{k:Nat}(h:l.drop k=[])(b:k<=l.length):k=l.length:=by
 have:=congrArg List.length h
 simp at this;omega
theorem kW{b:Bool}{q:dW}{K:AV->Prop}{m:Mk (q,K)}(a:b=true->fB q K)(c:b=false->K AV.undef):gQ (aB b) true q K m:=by
 cases b
 ·exact(Jc q K m).2 (c rfl)
 ·exact(Ja q K m).2 (a rfl)
theorem kX{b:Bool}{q:dW}{K:AV->Prop}{m:Mk (q,K)}(a:b=true->K AV.undef)(c:b=false->fB q K):gQ (aB b) false q K m:=by
 cases b
 ·exact(Jd q K m).2 (c rfl)
 ·exact(Jb q K m).2 (a rfl)
theorem kU{b:Bool}{H:aa}{q:bk}{K:AV->aa->Prop}{m:Mk (q,K)}(a:b=true->ga q K)(c:b=false->K AV.undef H):gW (aB b) true H q K m:=by
 cases b
 ·exact(I8 H q K m).2 (c rfl)
 ·exact(I6 H q K m).2 (a rfl)
theorem kV{b:Bool}{H:aa}{q:bk}{K:AV->aa->Prop}{m:Mk (q,K)}(a:b=true->K AV.undef H)(c:b=false->ga q K):gW (aB b) false H q K m:=by
 cases b
 ·exact(I9 H q K m).2 (c rfl)
 ·exact(I7 H q K m).2 (a rfl)
theorem sF{H:aa}(a:Fr H){q:Ref}(h:(H.get q).isSome=true)(d t k:Nat):((⟨d,t,H.gen d t,k⟩:Ref)=q)=False:=
 eq_false (qY a h d t k)
theorem sH{H:aa}(a:Fr H){q:Ref}(h:(H.get q).isSome=true)(d t k:Nat):(q=(⟨d,t,H.gen d t,k⟩:Ref))=False:=
 eq_false λe=>qY a h d t k e.symm
theorem Ay{H:aa}(a:Fr H)(d t k:Nat):H.get ⟨d,t,H.gen d t,k⟩=none:=a _ _ _ _ (a7 _)
theorem jr{H:aa}(c:Fr H){d t g:Nat}(a:g=H.gen d t)(b:Option ax):Fr ((⟨d,t,g,0⟩,b) :: H):=by subst a;exact c.cons d t b
theorem ke{H:aa}(c:Fr H){r:Ref}(a:(H.get r).isSome=true)(b:Option ax):Fr (H.put r b):=c.put b a
theorem pD{H:aa}{r:Ref}(a:(H.get r).isSome=true)(b:Option ax)(d t:Nat):(H.put r b).gen d t=H.gen d t:=aa.b8 H r b a d t
theorem uI{E:Env}{f:FuncId}(a:lK (E.mode f)=false)(x:AV)(H:aa)(y:AV):eK E f x H y↔view H.get depth x=some y:=by
 unfold eK
 rw[if_neg (by simpa using a)]
theorem xE{E:Env}{f:FuncId}(a:lK (E.mode f)=true)(x:AV)(H:aa)(y:AV):eK E f x H y↔(ab H.get depth x).Nodup/\aG H.get depth x=some y:=by
 unfold eK
 rw[if_pos (by simpa using a)]
def j4(a:Bool)(H:aa)(r:Ref)(refs:List Ref)(o:Option AV):bk:=match o with
 | some y=>if flat depth y||gM H.get refs then some ((ad r depth y []).1,keyed r 0 (ad r depth y []).2 H)
  else if a then some ((ad r depth y []).1,keyed r 0 (ad r depth y []).2 (aT H refs)) else none
 | none=>none
noncomputable def DR(E:Env)(a:Bool)(H:aa)(r:Ref)(refs:List Ref)(f:FuncId)(o:Option (List AV)):bk:=match o with
 | some xs=>j4 a H r refs (aN E f xs)
 | none=>none
theorem bV{E:Env}(b:Bool)(dep:Nat)(H:aa)(r:Ref)(f:FuncId)(e:(E.mode f == 2)=false)(c:(E.mode f == 3)=false)(first a args:List AV) :
 aL E b (aN E) (cB E dep) H r (some (.fn (.func f) first a)) args=DR E b H r (aP H.get (first++args++a)) f ((first++args++a).mapM (view H.get depth)):=by
 have d:E.mode f≠2:=by simpa using e
 simp only[aL,iq,ju,if_neg d,c,oe,Bool.or_false]
 cases(first++args++a).mapM (view H.get depth) with
 | none=>cases b<;>rfl
 | some xs=>
  dsimp only[DR]
  cases aN E f xs with
  | none=>cases b<;>rfl
  | some y=>
   dsimp only[j4,Option.map_some]
   cases g:(flat depth y||gM H.get (aP H.get (first++args++a))) with
   | true=>rfl
   | false=>cases b<;>rfl
@[simp] theorem HB(E:Env)(b:Bool)(H:aa)(r:Ref)(refs:List Ref)(f:FuncId)(a:List AV):DR E b H r refs f (some a)=j4 b H r refs (aN E f a):=id rfl
@[simp] theorem HC(a:Bool)(H:aa)(r:Ref)(refs:List Ref)(y:AV)(h:flat depth y=true):j4 a H r refs (some y)=some (y,H):=by
 simp only[j4,h,Bool.true_or,if_true]
 rw[lz r depth depth y [] h]
 rfl
theorem bn(a:Bool)(H:aa)(r:Ref)(y:AV):j4 a H r [] (some y)=some ((ad r depth y []).1,keyed r 0 (ad r depth y []).2 H):=by
 simp only[j4,gM,List.all_nil,Bool.or_true,if_true]
theorem bW(a:Bool)(H:aa)(r:Ref)(refs:List Ref)(y:AV)(h:gM H.get refs=true):j4 a H r refs (some y)=some ((ad r depth y []).1,keyed r 0 (ad r depth y []).2 H):=by
 simp only[j4,h,Bool.or_true,if_true]
@[simp] theorem Kb(n:Nat)(x:Value):flat (n+1) (.v x)=true:=id rfl
@[simp] theorem Jf(n:Nat)(cs:List AV):flat (n+1) (.agg cs)=cs.all (flat n):=id rfl
@[simp] theorem Ig(n:Nat)(cs:List AV):flat (n+1) (.tup cs)=cs.all (flat n):=id rfl
@[simp] theorem FQ(g:bD):aP g []=[]:=id rfl
@[simp] theorem ER(g:bD)(x:AV)(a:List AV):aP g (x :: a)=ab g depth x++aP g a:=id rfl
@[simp] theorem Gk(g:bD)(n:Nat)(x:Value):ab g n (.v x)=[]:=by cases n<;>rfl
@[simp] theorem Gl(g:bD)(n:Nat)(x:UInt8):ab g n (a8 x)=[]:=by cases n<;>rfl
@[simp] theorem Eu(g:bD)(n z:Nat)(es:List AV)(c:Option Nat):ab g n (.cE z es c)=[]:=by cases n<;>rfl
@[simp] theorem Ev(g:bD)(n:Nat)(cs:List AV):ab g (n+1) (.agg cs)=cs.flatMap (ab g n):=id rfl
@[simp] theorem Es(g:bD)(n:Nat)(cs:List AV):ab g (n+1) (.tup cs)=cs.flatMap (ab g n):=id rfl
@[simp] theorem Et(g:bD)(n:Nat)(r:Ref)(o l:Nat)(c:Option Nat):ab g (n+1) (.aD r o l c)=[r]:=id rfl
@[simp] theorem FO(g:bD)(n:Nat)(f:Fn)(a b:List AV):ab g (n+1) (.fn f a b)=a.flatMap (ab g n)++b.flatMap (ab g n):=id rfl
def FP(o l:Nat)(c:Option Nat)(b:Option ax):Option AV:=match b with
 | some b=>if b.arr=true/\o+l<=b.es.length then some (.cE b.esz ((b.es.drop o).take l) c) else none
 | none=>none
@[simp] theorem HM(g:bD)(n:Nat)(r:Ref)(o l:Nat)(c:Option Nat):view g (n+1) (.aD r o l c)=FP o l c (g r):=id rfl
@[simp] theorem Gm(o l:Nat)(c:Option Nat)(b:ax):FP o l c (some b)=if b.arr=true/\o+l<=b.es.length then some (.cE b.esz ((b.es.drop o).take l) c) else none:=id rfl
@[simp] theorem Jy(g:bD)(n:Nat)(f:Fn)(a b:List AV):view g (n+1) (.fn f a b)=(a.mapM (view g n)).bind λa=>(b.mapM (view g n)).map λb => .fn f a b:=by
 rw[view]
 cases a.mapM (view g n)<;>cases b.mapM (view g n)<;>rfl
@[simp] theorem I4(r:Ref)(n:Nat)(x:Value)(a:List ax):ad r n (.v x) a=(.v x,a):=by cases n<;>rfl
@[simp] theorem Hg(r:Ref)(n z:Nat)(es:List AV)(c:Option Nat)(a:List ax):ad r n (.cE z es c) a=(.cE z es c,a):=by cases n<;>rfl
@[simp] theorem Hh(r:Ref)(n z:Nat)(es:List AV)(c:Option Nat)(a:List ax)(b:z≠0):ad r (n+1) (.fsl z es c) a=(.aD { r with k:=a.length} 0 es.length c,a++[⟨z,es,true,false⟩]):=by
 simp only[ad,if_neg b]
def kr(r:Ref)(n:Nat):List AV->List AV->List ax->List AV × List ax
 | [],acc,bs=>(acc,bs)
 | c :: cs,acc,bs=>kr r n cs (acc++[(ad r n c bs).1]) (ad r n c bs).2
theorem sP(r:Ref)(n:Nat)(cs:List AV) : ∀(a:List AV)(b:List ax),cs.foldl (λ(p:List AV × List ax) c=>let (y,b):=ad r n c p.2;(p.1++[y],b)) (a,b)=kr r n cs a b:=by
 induction cs with
 | nil=>intro a b;rfl
 | cons c cs d=>intro a b;rw[lg];exact d _ _
@[simp] theorem Hi(r:Ref)(n:Nat)(cs:List AV)(a:List ax):ad r (n+1) (.agg cs) a=(.agg (kr r n cs [] a).1,(kr r n cs [] a).2):=by
 rw[<-sP];rfl
@[simp] theorem Hf(r:Ref)(n:Nat)(cs:List AV)(a:List ax):ad r (n+1) (.tup cs) a=(.tup (kr r n cs [] a).1,(kr r n cs [] a).2):=by
 rw[<-sP];rfl
@[simp] theorem F1(r:Ref)(n:Nat)(a:List AV)(b:List ax):kr r n [] a b=(a,b):=id rfl
@[simp] theorem Fc(r:Ref)(n:Nat)(c:AV)(cs a:List AV)(b:List ax):kr r n (c :: cs) a b=kr r n cs (a++[(ad r n c b).1]) (ad r n c b).2:=id rfl
@[simp] theorem Ek(H:aa):aT H []=H:=id rfl
def AA(H:aa)(r:Ref)(b:Option ax):aa:=match b with
 | some b=>H.put r (some { b with cS:=true})
 | none=>H
@[simp] theorem Dw(H:aa)(r:Ref)(a:List Ref):aT H (r :: a)=aT (AA H r (H.get r)) a:=by
 show(match H.get r with | some b=>aT (H.put r (some { b with cS:=true})) a | none=>aT H a)=_
 cases H.get r<;>rfl
@[simp] theorem Fi(H:aa)(r:Ref)(b:ax):AA H r (some b)=H.put r (some { b with cS:=true}):=id rfl
def AD(l:Nat)(c:Option Nat)(b:Option ax):Option AV:=match b with
 | some b=>if b.arr=true/\l<=b.es.length then some (if b.cS then .cE b.esz (b.es.take l) c else .fsl b.esz (b.es.take l) c) else none
 | none=>none
@[simp] theorem Hr(g:bD)(n:Nat)(r:Ref)(l:Nat)(c:Option Nat):aG g (n+1) (.aD r 0 l c)=AD l c (g r):=id rfl
@[simp] theorem Fl(l:Nat)(c:Option Nat)(b:ax):AD l c (some b)=if b.arr=true/\l<=b.es.length then some (if b.cS then .cE b.esz (b.es.take l) c else .fsl b.esz (b.es.take l) c) else none:=id rfl
@[simp] theorem Jg(g:bD)(n:Nat)(x:Value):aG g (n+1) (.v x)=some (.v x):=id rfl
@[simp] theorem Hs(g:bD)(n:Nat)(cs:List AV):aG g (n+1) (.agg cs)=(cs.mapM (aG g n)).map .agg:=id rfl
@[simp] theorem Hq(g:bD)(n:Nat)(cs:List AV):aG g (n+1) (.tup cs)=(cs.mapM (aG g n)).map .tup:=id rfl
theorem Sl.idx{z:Nat}{es:List AV}{x:AV}(h:Sl z es x){P:Program}{t:TypeId}(a:(bg P t).bind (ay P)=some z)(g:bD)(b:IntKind)(k:Int) :
 bj P g t (some x) (some (.v (.int b k)))=if 0<=k/\k<es.length then some (.iptr z es k.toNat 0,[]) else none:=by
 rcases h with ⟨rfl,rfl⟩ | ⟨c,rfl,_⟩
 ·obtain⟨e,he,d⟩:=xL a
  rw[if_neg (by simp)]
  simp[bj,kT,he]
 ·exact sr a g es c b k
theorem Sl.exp{z:Nat}{es:List AV}{x:AV}(h:Sl z es x)(g:bD)(n:Nat):aG g (n+1) x=some x:=by
 rcases h with ⟨rfl,rfl⟩ | ⟨c,rfl,_⟩<;>rfl
theorem Sl.imp'{z:Nat}{es:List AV}{x:AV}(h:Sl z es x)(r:Ref)(n:Nat)(a:List ax):ad r n x a=(x,a):=by
 rcases h with ⟨rfl,rfl⟩ | ⟨c,rfl,_⟩<;>cases n<;>rfl
theorem Sl.r{z:Nat}{es:List AV}{x:AV}(h:Sl z es x):kS x=some es.length/\(∀g n,Ab.view g (n+1) x=some x)/\(∀g n,ab g n x=[])/\x.cells=[x]/\x.one=true/\(∀g n,aG g (n+1) x=some x)/\(∀r n a,ad r n x a=(x,a)):=
 ⟨h.len,h.view,h.refs,h.cells.1,h.cells.2,h.exp,h.imp'⟩
theorem D3{P:Program}{t t' z by':Nat}(i:Ga P t z by'=true)(b:zR P t'=true)(v:Bool)(H:aa)(r:Ref){new:List AV}{x:AV}(f:Ec H.get z new x)(m:new≠[])(q:new.length * by'<=aO) :
 eO P v H r (some t) (some t') bt x=some (.aD r 0 new.length none,({ r with k:=0},some ⟨z,new,true,false⟩) :: H):=by
 obtain⟨e,zz,g,l,n,y,j,D,p,u⟩:=eM i
 have a:=f.hY i g
 unfold zR at b
 simp only[bR,gb]at b
 have c:(P.underlying t').isNone=false:=by cases h:P.underlying t' with | none=>rw[h]at b;simp at b | some d=>rfl
 have s : ¬((P.underlying t').isNone=true\/isInt P t'≠isNum x):=by
  rw[c,b.2,f.num];simp
 have o : ¬(z≠z\/z=0\/by'=0\/zz.cells.length≠z):=by simp[j,p,u]
 simp only[eO,ec,cQ,g,Option.map_some,bQ,if_neg s,l,n,y,a,if_neg o,if_neg m,if_pos q]
 rfl
theorem yb{P:Program}{t t' z by':Nat}(m:Ga P t z by'=true)(c:zR P t'=true)(H:aa)(r q:Ref)(n:Nat){new es:List AV}{x:AV}(k:Ec H.get z new x){fz:Bool}(v:H.get q=some ⟨z,es,true,fz⟩)(E:n=es.length)(b:new≠[])(G:(es.length+new.length) * by'<=aO) :
 eO P true H r (some t) (some t') (.aD q 0 n none) x=some (.aD ⟨q.d,q.t,H.gen q.d q.t,0⟩ 0 (es.length+new.length) none,(⟨q.d,q.t,H.gen q.d q.t,0⟩,some ⟨z,es++new,true,fz⟩) :: H.put q none):=by
 subst E
 obtain⟨e,zz,g,o,p,D,l,I,s,y⟩:=eM m
 have a:=k.hY m g
 unfold zR at c
 simp only[bR,gb]at c
 have j:(P.underlying t').isNone=false:=by cases h:P.underlying t' with | none=>rw[h]at c;simp at c | some d=>rfl
 have u : ¬((P.underlying t').isNone=true\/isInt P t'≠isNum x):=by
  rw[j,c.2,k.num];simp
 have F : ¬(z≠z\/z=0\/by'=0\/zz.cells.length≠z):=by simp[l,s,y]
 have i : ¬(z≠z\/z=0\/by'=0\/new=[]\/zz.cells.length≠z):=by simp[l,s,y,b]
 have f:ec P H.get r (some t) (some t') (.aD q 0 es.length none) x=none:=by
  simp only[ec,cQ,g,Option.map_some,bQ,if_neg u,o,p,D,a,if_neg F,v,if_neg b]
  simp
 simp only[eO,f,uA,xg]
 simp only[fg,cQ,g,Option.map_some,bQ,if_neg u,o,p,D,a,if_neg i,v,G,and_self,if_true,true_and]
def jg(P:Program)(t:TypeId):Nat:=((bg P t).bind (ay P)).getD 0
def mQ(P:Program)(t:TypeId):Nat:=((bg P t).bind (db P)).getD 0
def iH(P:Program)(t:TypeId):AV:=((bg P t).bind (ep P)).getD AV.undef
def la(P:Program)(t:TypeId):Bool:=Ga P t (jg P t) (mQ P t)
def DH(z:Nat)(o:Option (Nat × List AV)):Option (List AV):=match o with
 | some (a,es)=>if a=z then some es else none
 | none=>none
def eL(z:Nat)(g:bD)(x:AV):Option (List AV):=match x with
 | .v (.slice none 0 0)=>some []
 | .v (.int _ _)=>none
 | x=>DH z (aV g x)
@[simp] theorem Ii(z:Nat)(g:bD):eL z g bt=some []:=id rfl
@[simp] theorem Ij(z:Nat)(g:bD)(a:Nat)(es:List AV)(c:Option Nat):eL z g (.cE a es c)=if a=z then some es else none:=id rfl
def Hu(z o n:Nat)(b:Option ax):Option (List AV):=match b with
 | some b=>if (b.arr=true/\o+n<=b.es.length)/\b.esz=z then some ((b.es.drop o).take n) else none
 | none=>none
@[simp] theorem Ik(z o n:Nat)(b:ax):Hu z o n (some b)=if (b.arr=true/\o+n<=b.es.length)/\b.esz=z then some ((b.es.drop o).take n) else none:=id rfl
@[simp] theorem Ih(z:Nat)(g:bD)(r:Ref)(o n:Nat)(c:Option Nat):eL z g (.aD r o n c)=Hu z o n (g r):=by
 unfold eL Hu
 simp only[aV]
 cases g r with
 | none=>rfl
 | some b=>
  dsimp only
  by_cases h:b.arr=true/\o+n<=b.es.length
  ·by_cases a:b.esz=z
   ·rw[if_pos h,if_pos ⟨h,a⟩];simp[DH,a]
   ·rw[if_pos h,if_neg (λe=>a e.2)];simp[DH,a]
  ·rw[if_neg h,if_neg (λe=>h e.1)];rfl
theorem Sl.eL{z:Nat}{es:List AV}{x:AV}(h:Sl z es x)(g:bD):Ab.eL z g x=some es:=by
 rcases h with ⟨rfl,rfl⟩ | ⟨c,rfl,_⟩<;>simp
theorem mo{z:Nat}{g:bD}{x:AV}{new:List AV}(h:eL z g x=some new):Ec g z new x:=by
 unfold eL at h
 split at h
 ·cases h;exact .inl ⟨rfl,rfl⟩
 ·cases h
 ·rename_i a d
  unfold DH at h
  split at h
  ·rename_i f es c
   split at h
   ·rename_i b
    cases h;subst b
    refine .inr ⟨?_,λe=>?_,c⟩
    ·cases x with
     | v u=>cases u with
      | int k n=>exact(d _ _ rfl).elim
      | _=>rfl
     | _=>rfl
    ·exact a e
   ·cases h
  ·cases h
def pL(z by':Nat)(H:aa)(r:Ref)(new:Option (List AV)):bk:=match new with
 | some new=>if new=[] then some (bt,H) else if new.length * by'<=aO then some (.aD r 0 new.length none,({ r with k:=0},some ⟨z,new,true,false⟩) :: H) else none
 | none=>none
@[simp] theorem BO(z by':Nat)(H:aa)(r:Ref)(new:List AV):pL z by' H r (some new)=if new=[] then some (bt,H) else if new.length * by'<=aO then some (.aD r 0 new.length none,({ r with k:=0},some ⟨z,new,true,false⟩) :: H) else none:=id rfl
@[simp] theorem zQ{P:Program}{t t':TypeId}(j:la P t=true)(c:zR P t'=true)(z:Bool)(H:aa)(r:Ref)(x:AV)(f:(eL (jg P t) H.get x).isSome=true) :
 eO P z H r (some t) (some t') bt x=pL (jg P t) (mQ P t) H r (eL (jg P t) H.get x):=by
 obtain⟨new,D⟩:=fe.1 f
 rw[D,BO]
 have f:=mo D
 unfold la at j
 by_cases b:new=[]
 ·rw[if_pos b]
  subst b
  obtain⟨e,zz,i,l,m,q,k,E,n,p⟩:=eM j
  have a:=f.hY j i
  unfold zR at c
  simp only[bR,gb]at c
  have g:(P.underlying t').isNone=false:=by cases h:P.underlying t' with | none=>rw[h]at c;simp at c | some d=>rfl
  have o : ¬((P.underlying t').isNone=true\/isInt P t'≠isNum x):=by rw[g,c.2,f.num];simp
  have u : ¬(jg P t≠jg P t\/jg P t=0\/mQ P t=0\/zz.cells.length≠jg P t):=by simp[k,n,p]
  simp only[eO,ec,cQ,i,Option.map_some,bQ,if_neg o,l,m,q,a,if_neg u,if_true]
  rfl
 ·rw[if_neg b]
  split
  ·rename_i v;exact D3 j c z H r f b v
  ·rename_i v
   obtain⟨e,zz,i,l,m,q,k,E,n,p⟩:=eM j
   have a:=f.hY j i
   unfold zR at c
   simp only[bR,gb]at c
   have g:(P.underlying t').isNone=false:=by cases h:P.underlying t' with | none=>rw[h]at c;simp at c | some d=>rfl
   have o : ¬((P.underlying t').isNone=true\/isInt P t'≠isNum x):=by rw[g,c.2,f.num];simp
   have u : ¬(jg P t≠jg P t\/jg P t=0\/mQ P t=0\/zz.cells.length≠jg P t):=by simp[k,n,p]
   have y : ¬(jg P t≠jg P t\/jg P t=0\/mQ P t=0\/new=[]\/zz.cells.length≠jg P t):=by simp[k,n,p,b]
   have s:ec P H.get r (some t) (some t') bt x=none:=by
    simp only[ec,cQ,i,Option.map_some,bQ,if_neg o,l,m,q,a,if_neg u,if_neg b,if_neg v]
   simp only[eO,s,uA]
   cases z
   ·rfl
   ·simp only[xg,fg,cQ,i,Option.map_some,bQ,if_neg o,l,m,q,a,if_neg y]
def J0(a:Bool)(z:Nat)(zz:AV)(H:aa)(r:Ref)(n:Nat)(ps:List (Nat × AV)):bk:=match dP (List.replicate n zz) ps with
 | some es=>if a then some (.cE z es (some n),H) else some (.aD r 0 n (some n),({ r with k:=0},some ⟨z,es,true,false⟩) :: H)
 | none=>none
@[simp] theorem JZ{P:Program}{t:TypeId}(c:la P t=true)(a l:Bool)(H:aa)(r:Ref)(n:Nat)(ps:List (Nat × AV))(f:n * jg P t<=16777216)(j:cA H.get ps=some ps)(d:aP H.get (ps.map (·.2))=[])
 (k:ps.all (λp=>p.2.cells.length == jg P t&&p.2.cells.all AV.one)=true) (b:(dP (List.replicate n (iH P t)) ps).isSome=true) :
 oH P a l H r t n (some ps)=J0 a (jg P t) (iH P t) H r n ps:=by
 obtain⟨es,b⟩:=fe.1 b
 unfold la at c
 obtain⟨e,zz,i,q,s,m,o,x,u,v⟩:=eM c
 have h:(bg P t).bind (ep P)=some zz:=by rw[i];exact m
 have g:iH P t=zz:=by unfold iH;rw[h];rfl
 rw[g]at b ⊢
 rw[DV c f j d k h b]
 unfold J0
 rw[b]
@[simp] theorem El(es:List AV):dP es []=some es:=id rfl
@[simp] theorem Dy(es:List AV)(i:Nat)(v:AV)(ps:List (Nat × AV)):dP es ((i,v) :: ps)=if i<es.length then dP (es.set i v) ps else none:=id rfl
@[simp] theorem Jp(a:Bool)(z:Nat)(zz:AV)(H:aa)(r:Ref)(n:Nat)(ps:List (Nat × AV)):J0 a z zz H r n ps=(dP (List.replicate n zz) ps).bind λes=>if a then some (.cE z es (some n),H) else some (.aD r 0 n (some n),({ r with k:=0},some ⟨z,es,true,false⟩) :: H):=by
 unfold J0;cases dP (List.replicate n zz) ps<;>rfl
@[simp] theorem Ef(g:bD):cA g []=some []:=id rfl
@[simp] theorem Cl(g:bD)(i:Nat)(x:AV)(ps:List (Nat × AV)):cA g ((i,x) :: ps)=(view g depth x).bind λy=>(cA g ps).map ((i,y) :: ·):=by
 unfold cA
 rw[qw]
 dsimp only
 cases view g depth x<;>rfl
def Hk(z o n:Nat)(k:Int)(r:Ref)(b:Option ax):dW:=match b with
 | some b=>if 0<=k/\k<n/\z=b.esz then some (.ptr r (o+k.toNat) 0,[]) else none
 | none=>none
@[simp] theorem Ib(z o n:Nat)(k:Int)(r:Ref)(b:ax):Hk z o n k r (some b)=if 0<=k/\k<n/\z=b.esz then some (.ptr r (o+k.toNat) 0,[]) else none:=id rfl
@[simp] theorem BX{P:Program}{t:TypeId}(h:la P t=true)(g:bD)(r:Ref)(o n:Nat)(c:Option Nat)(b:IntKind)(k:Int) :
 bj P g t (some (.aD r o n c)) (some (.v (.int b k)))=Hk (jg P t) o n k r (g r):=by
 unfold la at h
 obtain⟨e,zz,a,d,m,p,f,l,i,j⟩:=eM h
 simp only[bj,cQ,kT,a,d]
 cases g r<;>rfl
def yR(H:aa)(r:Ref)(o:Option ax)(n i j:Nat)(x:AV):bk:=match o with
 | some ⟨z,es,true,false⟩=>if x.cells.length=n/\x.cells.all AV.one=true then (eA es i j x.cells).map λes=>(AV.undef,H.put r (some ⟨z,es,true,false⟩)) else none
 | some ⟨z,es,false,false⟩=>if x.cells.length=n/\x.cells.all AV.one=true then (eA es i j x.cells).map λes=>(AV.undef,H.put r (some ⟨z,es,false,false⟩)) else none
 | _=>none
@[simp] theorem rZ(H:aa)(r:Ref)(z:Nat)(es:List AV)(n i j:Nat)(x:AV):yR H r (some ⟨z,es,true,false⟩) n i j x=if x.cells.length=n/\x.cells.all AV.one=true then (eA es i j x.cells).map λes=>(AV.undef,H.put r (some ⟨z,es,true,false⟩)) else none:=id rfl
@[simp] theorem Gy(H:aa)(r:Ref)(z:Nat)(es:List AV)(n i j:Nat)(x:AV):yR H r (some ⟨z,es,false,false⟩) n i j x=if x.cells.length=n/\x.cells.all AV.one=true then (eA es i j x.cells).map λes=>(AV.undef,H.put r (some ⟨z,es,false,false⟩)) else none:=id rfl
def yU(H:aa)(o:Option ax)(x:AV):Prop:=match o with
 | some ⟨_,_,false,false⟩=>True
 | some ⟨_,_,true,false⟩=>view H.get depth x=some x/\ab H.get depth x=[]
 | _=>False
@[simp] theorem GA(H:aa)(z:Nat)(es:List AV)(x:AV):yU H (some ⟨z,es,false,false⟩) x=True:=id rfl
@[simp] theorem GB(H:aa)(z:Nat)(es:List AV)(x:AV):yU H (some ⟨z,es,true,false⟩) x=(view H.get depth x=some x/\ab H.get depth x=[]):=id rfl
theorem eo{P:Program}{t:TypeId}(d:(ay P t).isSome=true)(H:aa)(r:Ref)(i j:Nat)(x:AV)(a:yU H (H.get r) x) :
 eB P H t (some (.ptr r i j)) (some x)=yR H r (H.get r) ((ay P t).getD 0) i j x:=by
 obtain⟨n,d⟩:=fe.1 d
 simp only[eB,d,bQ]
 cases e:H.get r with
 | none=>rw[e]at a;exact a.elim
 | some b=>
  rw[e]at a
  obtain⟨z,es,arr,cS⟩:=b
  cases cS with
  | true=>cases arr<;>exact a.elim
  | false=>
   cases arr with
   | false=>simp only[and_true,kF,if_false];rfl
   | true=>
    obtain⟨f,g⟩:=a
    simp only[and_true,if_true,f,g,List.not_mem_nil,if_false,aT]
    by_cases c:x.cells.length=n/\x.cells.all AV.one=true
    ·rw[if_pos c,rZ,if_pos c,if_pos c.2]
    ·rw[if_neg c,rZ,if_neg c]
@[simp] theorem tk(cs:List AV)(j:Nat)(new:List AV):jC (.agg cs) j new=if j+new.length<=cs.length then some (.agg (patch cs j new)) else none:=id rfl
attribute [simp] eo
@[simp] theorem Hp(a:Nat->Option (Nat × Nat))(cells:List AV):kZ a cells []=some cells:=id rfl
def F7(a:Nat->Option (Nat × Nat))(cells:List AV)(v:AV)(rest:List (Nat × AV))(p:Option (Nat × Nat)):Option (List AV):=match p with
 | none=>none
 | some (off,size)=>if v.cells.length=size/\off+size<=cells.length then kZ a (patch cells off v.cells) rest else none
@[simp] theorem F8(a:Nat->Option (Nat × Nat))(cells:List AV)(i:Nat)(v:AV)(rest:List (Nat × AV)):kZ a cells ((i,v) :: rest)=F7 a cells v rest (a i):=id rfl
@[simp] theorem Ho(b:Nat->Option (Nat × Nat))(cells:List AV)(v:AV)(rest:List (Nat × AV))(c a:Nat):F7 b cells v rest (some (c,a))=if v.cells.length=a/\c+a<=cells.length then kZ b (patch cells c v.cells) rest else none:=id rfl
@[simp] theorem FR(P:Program){g:bD}{r:Ref}{a b:TypeId}{k':IntKind}(d:(P.underlying a).isNone=false)(e:intKind P b=some .u64)(n:Int)(c:0<=n)(f:n<=4294967296) :
 bI P g r a b (some (.v (.int k' n)))=some (.v (.int .u64 n),[]):=by
 rw[uo P .u64 d e,IntKind.wrap_u64,Int.emod_eq_of_lt c (by omega)]
@[simp] theorem IP(r':Ref)(a:Option ax)(H:aa)(r:Ref)(b:Option ax):aa.put ((r',a) :: H) r b=if r'=r then (r,b) :: H else (r',a) :: aa.put H r b:=id rfl
def Jv(z:Nat)(es:List AV)(y:AV):Prop:=(y=bt/\es=[])\/y = .fsl z es none\/(y = .fsl z [] (some 0)/\es=[])
def Fe(r:Ref)(y:AV)(k:Nat):AV:=match y with
 | .fsl _ es c => .aD { r with k:=k} 0 es.length c
 | y=>y
def Fh(y:AV):List ax:=match y with
 | .fsl z es _=>[⟨z,es,true,false⟩]
 | _=>[]
theorem Jv.imp{z:Nat}{es:List AV}{y:AV}(h:Jv z es y)(b:z≠0)(r:Ref)(n:Nat)(a:List ax):ad r (n+1) y a=(Fe r y a.length,a++Fh y):=by
 rcases h with ⟨rfl,rfl⟩ | rfl | ⟨rfl,rfl⟩
 ·simp[Fe,Fh]
 ·simp[Fe,Fh,b]
 ·simp[Fe,Fh,b]
theorem qD{P:Program}{t t':TypeId}(i:la P t=true)(c:zR P t'=true)(G:Bool)(H:aa)(r q:Ref)(n k:Nat)(x:AV){es new:List AV}{fz:Bool}(u:H.get q=some ⟨jg P t,es,true,fz⟩)(f:eL (jg P t) H.get x=some new)(z:n=es.length)(j:new=[]\/((es.length+new.length) * mQ P t<=aO/\k<es.length+new.length)) :
 eO P G H r (some t) (some t') (.aD q 0 n (some k)) x=if new=[] then some (.aD q 0 n (some k),H) else some (.aD r 0 (es.length+new.length) none,({ r with k:=0},some ⟨jg P t,es++new,true,false⟩) :: H):=by
 subst z
 have f:=mo f
 unfold la at i
 obtain⟨e,zz,g,m,o,v,y,I,D,F⟩:=eM i
 have a:=f.hY i g
 unfold zR at c
 simp only[bR,gb]at c
 have l:(P.underlying t').isNone=false:=by cases h:P.underlying t' with | none=>rw[h]at c;simp at c | some d=>rfl
 have s : ¬((P.underlying t').isNone=true\/isInt P t'≠isNum x):=by rw[l,c.2,f.num];simp
 have p : ¬(jg P t≠jg P t\/jg P t=0\/mQ P t=0\/zz.cells.length≠jg P t):=by simp[y,D,F]
 by_cases b:new=[]
 ·subst b
  simp only[eO,ec,cQ,g,Option.map_some,bQ,if_neg s,m,o,v,a,if_neg p,u,if_true]
  simp
 ·obtain⟨E,j⟩:=j.resolve_left b
  simp only[eO,ec,cQ,g,Option.map_some,bQ,if_neg s,m,o,v,a,if_neg p,u,if_neg b]
  simp only[ne_eq,not_true_eq_false,Bool.true_eq_false,or_self,if_false,lS,a7,j,E,and_self,if_true,uU,uX]
  rfl
def ky(z by' n:Nat)(a:Bool)(c:Option Nat)(b:Option ax)(new:Option (List AV)):Prop:=match b,new with
 | some ⟨d,es,true,_⟩,some new=>d=z/\n=es.length/\(new=[]\/((es.length+new.length) * by'<=aO/\match c with | none=>a=true | some k=>k<es.length+new.length))
 | _,_=>False
theorem bY(z by' n:Nat)(a:Bool)(b:Nat)(es new:List AV)(fz:Bool):ky z by' n a none (some ⟨b,es,true,fz⟩) (some new)=(b=z/\n=es.length/\(new=[]\/((es.length+new.length) * by'<=aO/\a=true))):=id rfl
theorem bX(z by' n:Nat)(b:Bool)(k a:Nat)(es new:List AV)(fz:Bool):ky z by' n b (some k) (some ⟨a,es,true,fz⟩) (some new)=(a=z/\n=es.length/\(new=[]\/((es.length+new.length) * by'<=aO/\k<es.length+new.length))):=id rfl
def FA(z:Nat)(H:aa)(q r:Ref)(n:Nat)(c:Option Nat)(b:Option ax)(new:Option (List AV)):bk:=match b,new with
 | some b,some []=>some (.aD q 0 n c,H)
 | some b,some new=>match c with
  | none=>some (.aD ⟨q.d,q.t,H.gen q.d q.t,0⟩ 0 (b.es.length+new.length) none,(⟨q.d,q.t,H.gen q.d q.t,0⟩,some ⟨z,b.es++new,true,b.cS⟩) :: H.put q none)
  | some _=>some (.aD r 0 (b.es.length+new.length) none,({ r with k:=0},some ⟨z,b.es++new,true,false⟩) :: H)
 | _,_=>none
@[simp] theorem D5(z:Nat)(H:aa)(q r:Ref)(n:Nat)(c:Option Nat)(b:ax):FA z H q r n c (some b) (some [])=some (.aD q 0 n c,H):=id rfl
theorem eQ(z:Nat)(H:aa)(q r:Ref)(n:Nat)(b:ax)(new:List AV)(a:new≠[]):FA z H q r n none (some b) (some new)=some (.aD ⟨q.d,q.t,H.gen q.d q.t,0⟩ 0 (b.es.length+new.length) none,(⟨q.d,q.t,H.gen q.d q.t,0⟩,some ⟨z,b.es++new,true,b.cS⟩) :: H.put q none):=by
 cases new with
 | nil=>exact(a rfl).elim
 | cons _ _=>rfl
theorem eP(z:Nat)(H:aa)(q r:Ref)(n k:Nat)(b:ax)(new:List AV)(a:new≠[]):FA z H q r n (some k) (some b) (some new)=some (.aD r 0 (b.es.length+new.length) none,({ r with k:=0},some ⟨z,b.es++new,true,false⟩) :: H):=by
 cases new with
 | nil=>exact(a rfl).elim
 | cons _ _=>rfl
theorem cI{P:Program}{t t':TypeId}(l:la P t=true)(g:zR P t'=true)(s:Bool)(H:aa)(r q:Ref)(n:Nat)(c:Option Nat)(x:AV)(a:ky (jg P t) (mQ P t) n s c (H.get q) (eL (jg P t) H.get x)) :
 eO P s H r (some t) (some t') (.aD q 0 n c) x=FA (jg P t) H q r n c (H.get q) (eL (jg P t) H.get x):=by
 cases i:H.get q with
 | none=>rw[i]at a;exact a.elim
 | some b=>
  obtain⟨K,es,arr,fz⟩:=b
  cases j:eL (jg P t) H.get x with
  | none=>rw[i,j]at a;cases arr<;>exact a.elim
  | some new=>
   rw[i,j]at a
   cases arr with
   | false=>exact a.elim
   | true=>
    obtain⟨rfl,rfl,a⟩:=a
    cases c with
    | none=>
     by_cases f:new=[]
     ·subst f
      rw[D5]
      have m:=mo j
      unfold la at l
      obtain⟨e,zz,u,y,z,J,v,L,E,I⟩:=eM l
      have o:=m.hY l u
      unfold zR at g
      simp only[bR,gb]at g
      have p:(P.underlying t').isNone=false:=by cases h:P.underlying t' with | none=>rw[h]at g;simp at g | some d=>rfl
      have G : ¬((P.underlying t').isNone=true\/isInt P t'≠isNum x):=by rw[p,g.2,m.num];simp
      have D : ¬(jg P t≠jg P t\/jg P t=0\/mQ P t=0\/zz.cells.length≠jg P t):=by simp[v,E,I]
      simp only[eO,ec,cQ,u,Option.map_some,bQ,if_neg G,y,z,J,o,if_neg D,i,if_true]
      simp
     ·obtain⟨F,rfl⟩:=a.resolve_left f
      rw[eQ _ _ _ _ _ _ _ f]
      exact yb (by exact l) g H r q _ (mo j) i rfl f F
    | some k=>
     rw[qD l g s H r q _ k x i j rfl a]
     split
     ·rename_i f;subst f;rfl
     ·rename_i f;rw[eP _ _ _ _ _ _ _ _ f]
theorem Sl.IW{z:Nat}{es:List AV}{x:AV}(h:Sl z es x):x=bt/\es=[] \/∃c,x = .cE z es c:=by
 rcases h with h | ⟨c,h,_⟩
 ·exact .inl h
 ·exact .inr ⟨c,h⟩
@[simp] theorem E1(P:Program)(t:TypeId)(d a:Operand)(h:(bg P t).isSome=true)(z:Nat)(es:List AV)(c:Option Nat):cK P .eql t d a (some (.cE z es c)) (some bt)=some (aB false,[]):=by
 unfold bg at h
 split at h
 ·rename_i e b
  simp[cK,zk,gE,b]
 ·cases h
def Je(b:Option ax):Bool:=match b with | some b=>b.cS | none=>false
@[simp] theorem Ie(b:ax):Je (some b)=b.cS:=id rfl
@[simp] theorem HJ(g:bD):gM g []=true:=id rfl
@[simp] theorem Ge(g:bD)(r:Ref)(a:List Ref):gM g (r :: a)=(Je (g r)&&gM g a):=id rfl
def gR(z:Nat)(es:List AV)(H:aa)(x y:AV):Prop:=(x=y/\Sl z es y) \/∃r c fz,x = .aD r 0 es.length c/\H.get r=some ⟨z,es,true,fz⟩/\y = .cE z es c/\es.length<=c.getD es.length
theorem gR.sl{z:Nat}{es:List AV}{H:aa}{x y:AV}(h:gR z es H x y):Sl z es y:=by
 rcases h with ⟨_,h⟩ | ⟨r,c,fz,_,_,rfl,h⟩
 ·exact h
 ·exact .inr ⟨c,rfl,h⟩
theorem gR.view{z:Nat}{es:List AV}{H:aa}{x y:AV}(h:gR z es H x y)(n:Nat):Ab.view H.get (n+1) x=some y:=by
 rcases h with ⟨rfl,h⟩ | ⟨r,c,fz,rfl,a,rfl,_⟩
 ·exact h.view _ _
 ·rw[AS a rfl]
theorem gR.len{z:Nat}{es:List AV}{H:aa}{x y:AV}(h:gR z es H x y):kS x=some es.length:=by
 rcases h with ⟨rfl,h⟩ | ⟨r,c,fz,rfl,a,rfl,_⟩
 ·exact h.len
 ·rfl
theorem gR.cells{z:Nat}{es:List AV}{H:aa}{x y:AV}(h:gR z es H x y):x.cells=[x]/\x.one=true:=by
 rcases h with ⟨rfl,h⟩ | ⟨r,c,fz,rfl,a,rfl,_⟩
 ·exact h.cells
 ·exact⟨rfl,rfl⟩
theorem gR.put{z:Nat}{es:List AV}{H:aa}{x y:AV}(h:gR z es H x y){q:Ref}(d:x.at?≠some q)(b:Option ax):gR z es (H.put q b) x y:=by
 rcases h with h | ⟨r,c,fz,rfl,e,rfl,a⟩
 ·exact .inl h
 ·refine .inr ⟨r,c,fz,rfl,?_,rfl,a⟩
  rw[aa.aj,if_neg (by rintro rfl;exact d rfl),e]
theorem gR.cons{z:Nat}{es:List AV}{H:aa}{x y:AV}(h:gR z es H x y)(f:Fr H)(d t:Nat)(b:Option ax):gR z es ((⟨d,t,H.gen d t,0⟩,b) :: H) x y:=by
 rcases h with h | ⟨r,c,fz,rfl,a,rfl,e⟩
 ·exact .inl h
 ·refine .inr ⟨r,c,fz,rfl,?_,rfl,e⟩
  rw[aa.bJ,if_neg (qY f (by rw[a];rfl) d t 0),a]
theorem gR.r{z:Nat}{es:List AV}{H:aa}{x y:AV}(h:gR z es H x y):kS x=some es.length/\(∀n,Ab.view H.get (n+1) x=some y)/\x.cells=[x]/\x.one=true:=⟨h.len,h.view,h.cells⟩
theorem gR.of{z:Nat}{es:List AV}{x:AV}(h:Sl z es x)(H:aa):gR z es H x x := .inl ⟨rfl,h⟩
def BS(z:Nat)(es:List AV)(H:aa)(x:AV)(r:Ref):Prop:=(x=bt/\es=[]) \/∃c,x = .aD r 0 es.length c/\H.get r=some ⟨z,es,true,false⟩
theorem BS.len{z:Nat}{es:List AV}{H:aa}{x:AV}{r:Ref}(h:BS z es H x r):kS x=some es.length:=by
 rcases h with ⟨rfl,rfl⟩ | ⟨c,rfl,_⟩<;>rfl
theorem BS.cells{z:Nat}{es:List AV}{H:aa}{x:AV}{r:Ref}(h:BS z es H x r):x.cells=[x]/\x.one=true:=by
 rcases h with ⟨rfl,rfl⟩ | ⟨c,rfl,_⟩<;>exact⟨rfl,rfl⟩
theorem BS.aD{z:Nat}{es:List AV}{H:aa}{x:AV}{r:Ref}(h:BS z es H x r){k:Nat}(a:k<es.length) : ∃c,x = .aD r 0 es.length c/\H.get r=some ⟨z,es,true,false⟩:=by
 rcases h with ⟨rfl,rfl⟩ | h
 ·simp at a
 ·exact h
def lG(a:List Nat)(z:Nat)(es:List AV)(H:aa)(x:AV):Prop:=(x=bt/\es=[]) \/∃t g,t∈a/\x = .aD ⟨0,t,g,0⟩ 0 es.length none/\H.get ⟨0,t,g,0⟩=some ⟨z,es,true,false⟩
theorem gR.live{z:Nat}{es:List AV}{H:aa}{x y:AV}(h:gR z es H x y){r:Ref}(b:x.at?=some r):(H.get r).isSome=true:=by
 rcases h with ⟨rfl,h⟩ | ⟨r',c,fz,rfl,a,rfl,_⟩
 ·rcases h with ⟨rfl,_⟩ | ⟨c,rfl,_⟩<;>cases b
 ·cases b;rw[a];rfl
theorem gR.mono{z:Nat}{es:List AV}{H H':aa}{x y:AV}(h:gR z es H x y)(d : ∀r,x.at?=some r->H'.get r=H.get r):gR z es H' x y:=by
 rcases h with h | ⟨r',c,fz,rfl,a,rfl,b⟩
 ·exact .inl h
 ·exact .inr ⟨r',c,fz,rfl,by rw[d r' rfl,a],rfl,b⟩
theorem pv{H:aa}(a:Fr H){q:Ref}(h:(H.get q).isSome=true)(d t k:Nat):((⟨d,t,H.gen d t+1,k⟩:Ref)=q)=False:=
 eq_false λe=>by subst e;rw[a _ _ _ _ (oN _)]at h;cases h
theorem pw{H:aa}(a:Fr H){q:Ref}(h:(H.get q).isSome=true)(d t k:Nat):(q=(⟨d,t,H.gen d t+1,k⟩:Ref))=False:=
 eq_false λe=>by subst e;rw[a _ _ _ _ (oN _)]at h;cases h
theorem xF{H:aa}(a:Fr H)(d t k:Nat):H.get ⟨d,t,H.gen d t+1,k⟩=none:=a _ _ _ _ (oN _)
theorem yj{H:aa}(c:Fr H){d t g:Nat}(k:Nat)(l:g=H.gen d t\/g+1=H.gen d t)(b:Option ax):Fr ((⟨d,t,g,k⟩,b) :: H):=by
 intro j t' m k' h
 rw[aa.je]at h
 rw[aa.bJ]
 by_cases a:d=j/\t=t'
 ·obtain⟨rfl,rfl⟩:=a
  rw[if_pos ⟨rfl,rfl⟩]at h
  rw[if_neg (by intro e;injection e;omega)]
  exact c _ _ _ _ (by omega)
 ·rw[if_neg a]at h
  rw[if_neg (by intro e;injection e with f i;exact a ⟨f,i⟩)]
  exact c _ _ _ _ h
@[simp] theorem Ic(n:Nat)(h:n<9223372036854775808):IntKind.i64.wrap (no_index (OfNat.ofNat n):Int)=OfNat.ofNat n:=by
 show IntKind.i64.wrap (n:Int)=n
 exact IntWalk.i64_in _ (by omega)
@[simp] theorem Jr(len:Nat)(cap:Option Nat)(a b:Option Int):bounds len cap a b none=if 0<=a.getD 0/\a.getD 0<=b.getD len/\b.getD len<=len then some ((a.getD 0).toNat,(b.getD len).toNat,cap.map (· - (a.getD 0).toNat)) else none:=id rfl
def J6(a:Int)(l:List UInt8):Int:=l.foldl (λa b=>256 * a+(b.toNat:Int)) a
def val(l:List UInt8):Int:=J6 0 l
theorem Dz(n:Int)(k:Nat):n.fdiv (no_index (OfNat.ofNat k))=n / OfNat.ofNat k:=Int.fdiv_eq_ediv_of_nonneg _ (Int.natCast_nonneg k)
def jG(z:Nat):List AV->AV
 | []=>bt
 | es => .cE z es none
theorem vD(z:Nat){es:List AV}(h:es≠[]):jG z es = .cE z es none:=by
 cases es with
 | nil=>exact(h rfl).elim
 | cons _ _=>rfl
theorem eT(z:Nat)(es:List AV):Sl z es (jG z es):=by
 cases es with
 | nil=>exact .inl ⟨rfl,rfl⟩
 | cons a l=>exact .inr ⟨none,rfl,by simp⟩
def Ey(es:List AV):List UInt8:=es.map λx=>(byteOf x).getD 0
def I3(x:AV):Bool:=(byteOf x).isSome
def Em(x:AV):Bool:=match x with
 | .cE .. | .aD .. => true
 | .v (.slice none 0 0)=>true
 | _=>false
@[simp] theorem Jz:Ey []=[]:=id rfl
@[simp] theorem Jo(x:UInt8):byteOf (a8 x)=some x:=by
 show some (UInt8.ofNat ((x.toNat:Int)).toNat)=_
 simp
@[simp] theorem Ix(x:UInt8)(es:List AV):Ey (a8 x :: es)=x :: Ey es:=by simp[Ey]
@[simp] theorem Ex(l:List UInt8):Ey (List.map a8 l)=l:=by
 induction l with
 | nil=>rfl
 | cons b l a=>simp[a]
@[simp] theorem JA(l:List UInt8):Ey (cR l)=l:=Ex l
@[simp] theorem Ki(x:UInt8):I3 (a8 x)=true:=by simp[I3]
@[simp] theorem J2(l:List UInt8):(cR l).all I3=true:=by simp[cR]
@[simp] theorem JY(z:Nat)(es:List AV)(c:Option Nat):Em (.cE z es c)=true:=id rfl
@[simp] theorem JW(r:Ref)(o n:Nat)(c:Option Nat):Em (.aD r o n c)=true:=id rfl
@[simp] theorem JX:Em bt=true:=id rfl
theorem Sl.Em{z:Nat}{es:List AV}{x:AV}(h:Sl z es x):Ab.Em x=true:=by
 rcases h with ⟨rfl,_⟩ | ⟨c,rfl,_⟩<;>rfl
theorem tK.Em{z:Nat}{es:List AV}{H:aa}{x:AV}(h:tK z es H x):Ab.Em x=true:=by
 rcases h with ⟨rfl,_⟩ | ⟨c,rfl,_⟩<;>rfl
theorem Cm{es:List AV}(h:es.all I3=true):es.mapM byteOf=some (Ey es):=by
 induction es with
 | nil=>rfl
 | cons x es c=>
  rw[pS,bR]at h
  obtain⟨b,a⟩:=fe.1 h.1
  rw[qw,c h.2,a]
  simp[Ey,a]
@[simp] theorem GS{P:Program}{f d:TypeId}(h:bp P f=true)(i:isStr P d=true)(g:bD)(r:Ref)(x:AV)(m:(eL 1 g x).isSome=true)(l:((eL 1 g x).getD []).all I3=true)(k:Em x=true) :
 bI P g r f d (some x)=some (sB (Ey ((eL 1 g x).getD [])),[]):=by
 obtain⟨es,he⟩:=fe.1 m
 rw[he,bQ]at l ⊢
 have j:=Cm l
 have e:=mo he
 rcases e with ⟨rfl,rfl⟩ | ⟨_,_,e⟩
 ·simp only[bI,h,i,ru,if_true];rfl
 ·cases x with
  | v x=>
   cases x with
   | slice a b c=>simp[aV]at e
   | _=>simp[Ab.Em]at k
  | cE _ _ _=>simp only[bI,h,i,ru,if_true,e,j,Option.map_some];rfl
  | aD _ _ _ _=>simp only[bI,h,i,ru,if_true,e,j,Option.map_some];rfl
  | _=>simp[Ab.Em]at k
def GX(z:Nat)(b:Option ax)(q:dW):dW:=match b with
 | some b=>if z=b.esz then q else none
 | none=>none
@[simp] theorem HW(z:Nat)(b:ax)(q:dW):GX z (some b) q=if z=b.esz then q else none:=id rfl
@[simp] theorem GP{P:Program}{t:TypeId}(h:la P t=true)(g:bD)(r:Ref)(o n:Nat)(c:Option Nat)(f a d:Option Int) :
 dN P g t (some (.aD r o n c)) (some f) (some a) (some d)=GX (jg P t) (g r) ((bounds n c f a d).map λp=>(.aD r (o+p.1) (p.2.1 - p.1) p.2.2,[])):=by
 unfold la at h
 obtain⟨e,zz,i,j,m,v,l,u,q,s⟩:=eM h
 have k:(bg P t).bind (ay P)=some (jg P t):=by rw[i];exact j
 unfold dN
 dsimp only
 rw[k]
 cases g r with
 | none=>rfl
 | some b=>simp[GX]
@[simp] theorem HD(l:List UInt8):cR l=[]↔l=[]:=by simp[cR]
set_option linter.defProp false
def tP:=And.intro @aa.aj (And.intro @jr (And.intro @yj (And.intro @Fr.nil (And.intro @ke (And.intro @sF (And.intro @sH (And.intro @pv (And.intro @pw (And.intro @Ay (And.intro @xF (@pD)))))))))))
def z7:=And.intro @jr (And.intro @yj (And.intro @Fr.nil (And.intro @ke (And.intro @sF (And.intro @sH (And.intro @pv (And.intro @pw (And.intro @Ay (And.intro @xF (@pD))))))))))
def ca:=And.intro @sF (And.intro @sH (And.intro @pv (And.intro @pw (@pD))))
def ck(es:List AV)(i:Nat)(v:AV):List AV:=es.take i++v :: es.drop i
@[simp] theorem nW(es:List AV)(i:Nat)(v:AV)(h:i<=es.length):(ck es i v).length=es.length+1:=by
 simp[ck];omega
def Av(P:Program)(t:TypeId)(H:aa)(r:Ref)(n:Nat)(i:Int)(a:Ref)(b bv:ax)(v:AV)(z by':Nat):Prop:=
 H.get r=some b/\H.get a=some bv/\(bg P t).bind (ay P)=some z/\(bg P t).bind (db P)=some by'/\bv.es=[v] /\
 b.arr=true/\bv.arr=true/\b.esz=z/\bv.esz=z/\1<z/\0<by'/\b.cS=false/\r≠a/\n=b.es.length/\0<=i/\i<n/\(n+1) * by'<=aO
def jb(sl:Nat)(H:aa)(r:Ref):Ref:=⟨r.d+1,sl,H.gen (r.d+1) sl,0⟩
def mP(sl:Nat)(H:aa)(r:Ref)(B:ax):aa:=(⟨r.d,r.t,H.gen r.d r.t,0⟩,some B) :: (jb sl H r,none) :: H.put r none
def jc(P:Program)(t:TypeId)(sl:Nat)(args:List AV)(H:aa):bk:=match args with
 | [.aD r 0 n none,.v (.int .i64 i),.aD a 0 1 c]=>(match H.get r,H.get a,(bg P t).bind (ay P),(bg P t).bind (db P) with
  | some b,some bv,some z,some by'=>(match bv.es with
   | [v]=>if b.arr=true/\bv.arr=true/\b.esz=z/\bv.esz=z/\1<z/\0<by'/\b.cS=false/\r≠a/\n=b.es.length/\0<=i/\i<n/\(n+1) * by'<=aO then
    some (.aD ⟨r.d,r.t,H.gen r.d r.t,0⟩ 0 (n+1) none,mP sl H r { b with es:=ck b.es i.toNat v}) else none
   | _=>none)
  | _,_,_,_=>none)
 | _=>none
theorem vJ{P:Program}{t:TypeId}{sl:Nat}{args:List AV}{H H':aa}{y:AV}(h:jc P t sl args H=some (y,H')) :
 ∃r n i a c b bv v z by',args=[.aD r 0 n none,.v (.int .i64 i),.aD a 0 1 c]/\Av P t H r n i a b bv v z by' /\
  y = .aD ⟨r.d,r.t,H.gen r.d r.t,0⟩ 0 (n+1) none/\H'=mP sl H r { b with es:=ck b.es i.toNat v}:=by
 unfold jc at h
 split at h
 ·rename_i r n i a c
  split at h
  ·rename_i b bv z by' f g k l
   split at h
   ·rename_i v e
    obtain⟨j,h⟩:=cc.1 h
    cases h
    exact⟨r,n,i,a,c,b,bv,v,z,by',rfl,⟨f,g,k,l,e,j⟩,rfl,rfl⟩
   ·cases h
  ·cases h
 ·cases h
theorem jd(sl:Nat){H:aa}{r:Ref}{B:ax}(q:Ref)(a:H.get (jb sl H r)=none):(mP sl H r B).get q=if (⟨r.d,r.t,H.gen r.d r.t,0⟩:Ref)=q then some B else if q=r then none else H.get q:=by
 unfold mP
 rw[aa.bJ,aa.bJ,aa.aj]
 split
 ·rfl
 ·split
  ·rename_i e
   rw[<-e]
   split
   ·rfl
   ·exact a.symm
  ·rfl
theorem Dq(sl:Nat){H:aa}{r:Ref}{B:ax}(c:(H.get r).isSome=true)(d t:Nat):H.gen d t<=(mP sl H r B).gen d t/\(r.d=d/\r.t=t->H.gen d t<(mP sl H r B).gen d t)/\(r.d+1=d/\sl=t->H.gen d t<(mP sl H r B).gen d t):=by
 unfold mP
 rw[aa.je,aa.je,aa.b8 _ _ _ c]
 unfold jb
 simp only
 by_cases a:r.d=d/\r.t=t
 ·obtain⟨rfl,rfl⟩:=a
  rw[if_pos ⟨rfl,rfl⟩]
  exact⟨by omega,λ_=>by omega,λh=>by omega⟩
 ·rw[if_neg a]
  by_cases b:r.d+1=d/\sl=t
  ·obtain⟨rfl,rfl⟩:=b
   rw[if_pos ⟨rfl,rfl⟩]
   exact⟨by omega,λh=>absurd h a,λ_=>by omega⟩
  ·rw[if_neg b]
   exact⟨by omega,λh=>absurd h a,λh=>absurd h b⟩
theorem si{M:Mem}{ι:Map}{H E:aa}{w w':World}{r x:Ref}{sl n:Nat}{c:Option Nat}{B:ax}{u:Value}(hD:jA ι H)(hr:(H.get r).isSome=true)(F:r.g<H.gen r.d r.t)(hX:H.get (jb sl H r)=none)
 (D : ∀q,E.get q=if q=x then some B else H.get q) (K:x=r\/H.get x=none)
 (C : ∀d t,E.gen d t<=H.gen d t\/(r.d+1=d/\sl=t/\E.gen d t<=H.gen d t+1))
 (hW:hJ M ι H w (.aD x 0 n c) E u w'):hJ M ι H w (.aD ⟨r.d,r.t,H.gen r.d r.t,0⟩ 0 n none) (mP sl H r B) u w':=by
 obtain⟨M',o,hv,G,v,P⟩:=hW
 obtain⟨a,i⟩ : ∃a:Ref,a=⟨r.d,r.t,H.gen r.d r.t,0⟩:=⟨_,rfl⟩
 have Ko:E.gen r.d r.t<=H.gen r.d r.t:=by
  rcases C r.d r.t with h | ⟨h,_⟩
  ·exact h
  ·omega
 have V:o a=none:=by
  cases h:o a with
  | none=>rfl
  | some l=>
   have:=P a l h
   rw[i]at this
   simp only at this
   omega
 have Kn:ι a=none:=by
  cases h:ι a with
  | none=>rfl
  | some l=>
   have:=hD a l h
   rw[i]at this
   simp only at this
   omega
 have x6:a≠r:=by
  intro e
  rw[<-e]at F
  rw[i]at F
  simp only at F
  omega
 have z:E.get x=some B:=by rw[D x,if_pos rfl]
 have hB:=G.live x B z
 obtain⟨I,y,Q⟩:=hB
 have A : ∀q l,o q=some l->dm o a I q=some l:=by
  intro q l h
  unfold dm
  split
  ·rename_i e;rw[e,V]at h;cases h
  ·exact h
 have p : ∀q k,q≠a->(mP sl H r B).get q=some k->E.get q=some k/\q≠x:=by
  intro q k j h
  rw[jd sl q hX,<-i,if_neg (λe=>j e.symm)]at h
  split at h
  ·cases h
  ·rename_i R
   have N:q≠x:=by
    intro e
    rcases K with K | K
    ·exact R (e.trans K)
    ·rw[e,K]at h;cases h
   exact⟨by rw[D q,if_neg N];exact h,N⟩
 have L : ∀k,(mP sl H r B).get a=some k->k=B:=by
  intro k h
  rw[jd sl a hX,<-i,if_pos rfl]at h
  exact(ym h).symm
 rw[<-i]
 refine⟨M',dm o a I,?_,⟨G.mem,?_,?_⟩,⟨v.os,v.tape,v.output,v.size,v.chg,v.mem,λq l h=>A q l (v.map q l h),?_,v.new⟩,?_⟩
 ·cases hv with | aD O X W ha hc hn hk U=>
  rw[y]at O
  cases O
  exact .aD (by simp[dm]) X W ha hc hn (λk hk=>by cases hk) U
 ·intro q k h
  by_cases j:q=a
  ·subst j
   have:=L k h
   subst this
   exact⟨I,by simp[dm],Q.bm (λ_ _ _ h=>h) A rfl Q.frozen⟩
  ·obtain⟨s,_⟩:=p q k j h
   obtain⟨l,b,hb⟩:=G.live q k s
   exact⟨l,A q l b,hb.bm (λ_ _ _ h=>h) A rfl hb.frozen⟩
 ·intro q J k k' l Y h Z b f e
  by_cases j:q=a
  ·by_cases m:J=a
   ·rw[j,m]
   ·exfalso
    obtain⟨s,S⟩:=p J k' m Z
    rw[j]at b
    simp only[dm,if_true]at b
    cases b
    unfold dm at f
    rw[if_neg m]at f
    exact S (G.inj x J B k' I Y z s y f e).symm
  ·obtain⟨s,S⟩:=p q k j h
   unfold dm at b
   rw[if_neg j]at b
   by_cases m:J=a
   ·exfalso
    rw[m]at f
    simp only[dm,if_true]at f
    cases f
    exact S (G.inj q x k B l I s z b y e)
   ·obtain⟨h3,_⟩:=p J k' m Z
    unfold dm at f
    rw[if_neg m]at f
    exact G.inj q J k k' l Y s h3 b f e
 ·intro q k l h b
  by_cases j:q=a
  ·rw[j]at b
   simp only[dm,if_true]at b
   cases b
   exact v.live x B I z y
  ·obtain⟨s,_⟩:=p q k j h
   unfold dm at b
   rw[if_neg j]at b
   exact v.live q k l s b
 ·intro q l b
  obtain⟨g1,g2,g3⟩:=Dq (B:=B) sl hr q.d q.t
  by_cases j:q=a
  ·have T:r.d=q.d/\r.t=q.t:=by rw[j,i];exact⟨rfl,rfl⟩
   have e2:q.g=H.gen q.d q.t:=by rw[<-T.1,<-T.2,j,i]
   rw[e2]
   exact g2 T
  ·unfold dm at b
   rw[if_neg j]at b
   have:=P q l b
   rcases C q.d q.t with h | ⟨s,S,h3⟩
   ·omega
   ·have:=g3 ⟨s,S⟩;omega
theorem zm{P:Program}{t:TypeId}{sl:Nat}{f:FuncId}{args:List AV}{H H':aa}{y:AV}(hf : ∃fn,P.funcs[f]?=some fn/\(fn.name == "runtime.NumGoroutine")=false/\fn.body.isSome=true)
 (J : ∀(r E:Ref)(n:Nat)(i:Int)(O:Option Nat)(b bv:ax)(v:AV)(z by' c:Nat),Av P t H r n i E b bv v z by'->n<=c->H.get (jb sl H r)=none->r.g<H.gen r.d r.t ->
  ∃N L,dC P (.fn f) [.aD r 0 n (some c),.v (.int .i64 i),.aD E 0 1 O] H N L /\
   (
    (N = .aD r 0 (n+1) (some c)/\L=H.put r (some { b with es:=ck b.es i.toNat v})) \/
    (N = .aD (jb sl H r) 0 (n+1) none/\L=(jb sl H r,some { b with es:=ck b.es i.toNat v}) :: H)))
 (h:jc P t sl args H=some (y,H')):dC P (.fn f) args H y H':=by
 obtain⟨r,n,i,E,O,b,bv,v,z,by',rfl,D,rfl,rfl⟩:=vJ h
 refine⟨hf,λM ι w us S G T=>?_⟩
 obtain⟨hlen,m⟩:=T
 match us,hlen,m with
 | [u1,u2,u3],hlen,m=>
 have Q:=m 0 _ u1 rfl rfl
 have Y:=D.1
 have o:H.get (jb sl H r)=none:=by
  cases hq:H.get (jb sl H r) with
  | none=>rfl
  | some k=>
   obtain⟨l,K,_⟩:=S.live _ _ hq
   have:=G.fresh (r.d+1) sl 0
   unfold jb at K
   rw[this]at K
   cases K
 have A:r.g<H.gen r.d r.t:=by
  obtain⟨l,K,_⟩:=S.live _ _ Y
  exact G r l K
 cases Q with | aD Z V U ha W hn X R=>
 rename_i l a c
 have I:VR M ι (.aD r 0 n (some c)) (.slice (some a) n c) := .aD Z V U ha W hn (λk X=>by cases X;rfl) R
 obtain⟨N,L,⟨_,hT⟩,B⟩:=J r E n i O b bv v z by' c D W o A
 have F:fq M ι [.aD r 0 n (some c),.v (.int .i64 i),.aD E 0 1 O] [.slice (some a) n c,u2,u3]:=by
  refine⟨rfl,λj x u p C=>?_⟩
  match j,p,C with
  | 0,p,C=>cases p;cases C;exact I
  | 1,p,C=>exact m 1 x u p C
  | 2,p,C=>exact m 2 x u p C
 refine(hT M ι w _ S G F).mono λe w' ⟨u,he,hW⟩=>⟨u,he,?_⟩
 have s:(H.get r).isSome=true:=by rw[Y];rfl
 rcases B with ⟨rfl,rfl⟩ | ⟨rfl,rfl⟩
 ·refine si G s A o (x:=r) (λq=>by rw[aa.aj]) (.inl rfl) (λd t => .inl (by rw[aa.b8 _ _ _ s];exact a7 _)) hW
 ·refine si G s A o (x:=jb sl H r) (λq=>?_) (.inr o) (λd t=>?_) hW
  ·rw[aa.bJ]
   by_cases e:jb sl H r=q
   ·rw[if_pos e,if_pos e.symm]
   ·rw[if_neg e,if_neg (λh=>e h.symm)]
  ·rw[aa.je]
   unfold jb
   simp only
   split
   ·rename_i h;exact .inr ⟨h.1,h.2,by rw[<-h.1,<-h.2];omega⟩
   ·exact .inl (a7 _)
theorem yc{P:Program}{t t':TypeId}(C:la P t=true)(j:isInt P t'=true)(A:(iH P t).cells.all AV.one=true){H:aa}{r q:Ref}{b:ax}(O:H.get q=some b)(o:b.esz=jg P t)(l:b.arr=true)(a i c n:Nat)(D:a+i<=b.es.length)(I:c<i+n)(L:(n:Int)<=aO)(G:0<n)(N:(i+n) * mQ P t<=aO) :
 eO P true H r (some t) (some t') (.aD q a i (some c)) (aI n)=some (.aD r 0 (i+n) none,({ r with k:=0},some ⟨jg P t,(b.es.drop a).take i++List.replicate n (iH P t),true,false⟩) :: H):=by
 unfold la at C
 obtain⟨e,zz,v,B,J,p,u,Q,x,y⟩:=eM C
 have M:iH P t=zz:=by unfold iH;rw[v,cQ,p];rfl
 rw[M]at A ⊢
 have m:(P.underlying t').isNone=false:=by
  unfold isInt at j
  cases h:P.underlying t' with
  | none=>rw[h]at j;cases j
  | some d=>rfl
 have s : ¬((P.underlying t').isNone=true\/isInt P t'≠isNum (aI n)):=by rw[m,j];simp[isNum]
 have F : ¬(jg P t≠jg P t\/jg P t=0\/mQ P t=0\/zz.cells.length≠jg P t):=by simp[u,x,y]
 have g:hY P H.get e (aI n)=some (jg P t,List.replicate n zz):=by
  show(match ep P e,ay P e with | some w,some z=>if 0<=(n:Int)/\(n:Int)<=aO/\w.cells.length=z/\w.cells.all AV.one then some (z,List.replicate (n:Int).toNat w) else none | _,_=>none)=_
  rw[p,B]
  exact if_pos ⟨by omega,L,by simp[u,x,y],A⟩
 have K : ¬(b.esz≠jg P t\/b.arr=false):=by simp[o,l]
 have E:List.replicate n zz≠[]:=by
  intro h
  have:=congrArg List.length h
  simp only[List.length_replicate,ra]at this
  omega
 have f:a+i<=b.es.length/\c<i+n/\(i+n) * mQ P t<=aO:=⟨D,I,N⟩
 simp only[eO,ec,cQ,v,Option.map_some,bQ,if_neg s,B,J,p,g,if_neg F,if_neg E,O,if_neg K,List.length_replicate,if_pos f]
 rfl
theorem Bv{es:List AV}{i n:Nat}(c:n=es.length)(f:i<n)(v:AV) :
 (es.take (i+1)++(es.drop i).take (n - i)++es.drop (i+1+(n - i))).take i++[v]++(es.take (i+1)++(es.drop i).take (n - i)++es.drop (i+1+(n - i))).drop (i+1)=ck es i v:=by
 subst c
 have b:(es.drop i).take (es.length - i)=es.drop i:=ej (by simp)
 have e:es.drop (i+1+(es.length - i))=[]:=ot (by omega)
 have g:(es.take (i+1)).length=i+1:=by rw[ik];omega
 rw[b,e,og]
 have d:(es.take (i+1)++es.drop i).take i=es.take i:=by
  rw[wq (by omega),List.take_take,o8 (by omega)]
 have a:(es.take (i+1)++es.drop i).drop (i+1)=es.drop i:=by
  rw[List.drop_append_of_le_length (by omega),ot (by omega),mZ]
 rw[d,a]
 simp[ck]
theorem Bw{es:List AV}{i n:Nat}(d:n=es.length)(f:i<n)(v z:AV) :
 ((
  es.take i++List.replicate (n+1 - i) z).take i++[v]++(es.take i++List.replicate (n+1 - i) z).drop (i+1)).take (i+1)++(es.drop i).take (n - i) ++
  ((es.take i++List.replicate (n+1 - i) z).take i++[v]++(es.take i++List.replicate (n+1 - i) z).drop (i+1)).drop (i+1+(n - i))=ck es i v:=by
 subst d
 have b:(es.drop i).take (es.length - i)=es.drop i:=ej (by simp)
 have g:(es.take i).length=i:=by rw[ik];omega
 have e:(es.take i++List.replicate (es.length+1 - i) z).take i=es.take i:=by
  rw[wq (by omega),List.take_take,Nat.min_self]
 rw[b,e]
 have a:(es.take i++[v]++(es.take i++List.replicate (es.length+1 - i) z).drop (i+1)).take (i+1)=es.take i++[v]:=by
  rw[wq (by simp;omega),ej (by simp;omega)]
 have c:(es.take i++[v]++(es.take i++List.replicate (es.length+1 - i) z).drop (i+1)).drop (i+1+(es.length - i))=[]:=by
  apply ot
  simp
  omega
 rw[a,c]
 simp[ck]
theorem E2(H:aa)(r:Ref)(a b:Option ax):(H.put r a).put r b=H.put r b:=by
 induction H with
 | nil=>simp[aa.put]
 | cons p H c=>
  obtain⟨q,x⟩:=p
  by_cases h:q=r
  ·simp[aa.put,h]
  ·simp[aa.put,h,c]
theorem Br{E:Env}{ok:Array Oper->Bool}(a:E.Ok ok){f:FuncId}{args:List AV}{y:AV}(h:aN E f args=some y):ea E.P f args y:=by
 obtain⟨n,b⟩:=mL.1 h
 exact AK a (b n (a7 n))
def Ae(E:Env)(a:FuncId->List AV->Option AV)(d:Oper->Bool:=λ_=>false):Env := { E with spec:=a,deep:=d}
theorem Cu{P:Program}{l bm kp:List FuncId}{strict:Oper->Bool}{apart:Array Oper->List (Tmp × Tmp)}{cS:Oper->Bool}{qJ:List (FuncId × List AV × AV)}{wide:Oper->Bool}{jt:FuncId->Option TypeId}{thrSpec:FuncId->List AV->aa->Option (AV × aa)}{sm:yg}{sp:FuncId->List AV->Option AV}{d:Oper->Bool}
 (hspec : ∀f args y,sp f args=some y->ea P f args y) (hm:P.follows .mixedOrders=true) (h0:qz (k6 P l bm kp strict apart cS) l=true) (hover : ∀f t,jt f=some t->lO P f t) (hthr : ∀f args H y H',thrSpec f args H=some (y,H')->dC P (.fn f) args H y H') :
 (Ae (k6 P l bm kp strict apart cS qJ wide jt thrSpec sm) sp d).Ok (nA (Ae (k6 P l bm kp strict apart cS qJ wide jt thrSpec sm) sp d)) where
 fns:=by
  intro f hf
  have h:qz (k6 P l bm kp strict apart cS qJ) l=true:=h0
  have hf':f∈l:=by simpa [k6,Ae] using hf
  have:=dh.1 h f hf'
  split at this
  ·rename_i fn hfn
   simp only[bR,gb]at this
   refine⟨fn,hfn,this.1,λc hc=>?_⟩
   have h2:=this.2
   rw[hc]at h2
   exact h2
  ·cases this
 specs:=λf args y h=>hspec f args y h
 same:=rfl
 overs:=hover
 thrs:=hthr
 draws:=λops hok _ hpc _ htc nt dep id st st' M ι a w ro Q hr hap hO hQ=>by
  rcases rF.1 hok with h1 | h1
  ·exact xN hm h1 hpc htc hr hO hQ
  ·exact xO hm h1 hpc htc hr hap hO hQ
end Go.Ab
namespace Go.Ab
open Go.ChangeShapes Go.WideShapes Go.RowKit
inductive kz (N:Nat):AV->Prop
 | v (x:Value):kz N (.v x)
 | agg (xs:List AV):(∀x∈xs,kz N x)->kz N (.agg xs)
 | cE (z:Nat) (es:List AV) (c:Option Nat):es.length<=N->(∀x∈es,kz N x)->kz N (.cE z es c)
theorem Af{N:Nat}(y:Value) : ∀x∈[AV.v y],kz N x:=by
 intro x a
 rw[kE]at a
 subst a
 exact .v _
theorem A4{N:Nat}{b:Bool}{a:List AV}(h : ∀x∈a,kz N x):kz N (tD b a):=by
 unfold tD
 split
 ·exact h _ (by simp)
 ·exact .agg _ h
theorem kz.sl{N z:Nat}{es:List AV}{x:AV}(h:kz N x)(a:Sl z es x):es.length<=N /\∀e∈es,kz N e:=by
 rcases a with ⟨_,rfl⟩ | ⟨c,rfl,_⟩
 ·exact⟨rq _,λe d=>by cases d⟩
 ·cases h with
  | cE _ _ _ b f=>exact⟨b,f⟩
theorem kz.parts{N:Nat}{a:List AV}(h:kz N (.agg a)) : ∀x∈a,kz N x:=by
 cases h with
 | agg _ h=>exact h
section
variable{H:Type}{enc:TypeId × Value->H}{P:Program}{w:World}{g:Nat}{A:Nat->Bool}{B:Bool}{u:DataW H->Nat}{N:Nat}
theorem xj(hs : ∀es sp,es.length<=u (.slice es sp) /\∀d∈es,u d<=u (.slice es sp))(ha : ∀ps,∀d∈ps,u d<=u (.agg ps)) : ∀(n m:Nat)(t:TypeId)(cs:List Value)(d:DataW H)(ps:List MemPlace),plain P m t=true->DataW.trod enc P w g A B n t cs=some (d,ps)->u d<=N ->
 ∃p:List AV,(qh P m t p /\∀x∈p,kz N x)/\fq (kQ w) bB p cs:=by
 intro n
 induction n with
 | zero=>intro m t cs d ps _ h _;simp[DataW.trod]at h
 | succ n ih=>
  intro m t cs d ps hp h hN
  cases m with
  | zero=>simp[plain]at hp
  | succ m=>
  have KM:=hp
  unfold plain at hp
  unfold qh
  cases hu:P.underlying t with
  | none=>rw[hu]at hp;simp at hp
  | some dd=>
   rw[hu]at hp
   unfold DataW.trod at h
   rw[hu]at h
   have C : ∀ {x:AV} {c:Value},VR (kQ w) bB x c->fq (kQ w) bB [x] [c]:=λh=>fq.cons h fq.nil
   cases dd<;>dsimp only at hp ⊢ <;> try (simp at hp;done)
   ·
    rcases cs with _ | ⟨c,_ | ⟨c',cs⟩⟩
    ·simp at h
    ·cases c<;>first | (simp at h;done) | skip
     rename_i b
     exact⟨[aB b],⟨⟨b,rfl⟩,Af _⟩,C (.v rfl)⟩
    ·simp at h
   ·
    rename_i k
    rcases cs with _ | ⟨c,_ | ⟨c',cs⟩⟩
    ·simp at h
    ·cases c<;>first | (simp at h;done) | skip
     rename_i k' i
     dsimp only at h
     split at h
     ·rename_i hk
      obtain⟨rfl,hw⟩:=hk
      exact⟨[.v (.int k' i)],⟨⟨i,by simpa [Lit.wf] using hw,rfl⟩,Af _⟩,C (.v rfl)⟩
     ·cases h
    ·simp at h
   ·
    rcases cs with _ | ⟨c,_ | ⟨c',cs⟩⟩
    ·simp at h
    ·cases c<;>first | (simp at h;done) | skip
     rename_i s
     exact⟨[aS s],⟨⟨s,rfl⟩,Af _⟩,C (.v rfl)⟩
    ·simp at h
   ·
    rename_i e
    simp only[bR,beq_iff_eq,decide_eq_true_eq]at hp
    rcases cs with _ | ⟨c,_ | ⟨c',cs⟩⟩
    ·simp at h
    ·cases c<;>first | (simp at h;done) | skip
     rename_i a len cap
     cases a with
     | none=>
      have KC:len=0/\cap=0:=by
       cases len<;>cases cap<;>simp at h ⊢
      obtain⟨rfl,rfl⟩:=KC
      exact⟨[bt],⟨.inl rfl,Af _⟩,C (.v rfl)⟩
     | some a=>
      dsimp only at h
      split at h
      ·rename_i hb
       simp only[dL,aC]at h
       obtain⟨elems,Ks,rest,_,V⟩:=h
       have KF:=(Prod.mk.inj V).1
       subst KF
       obtain⟨w1,w2⟩:=hs (elems.map (·.1)) (rest.map (·.1))
       rw[pT]at w1
       have KL:elems.length=len:=by simpa using cW Ks
       have Ku : ∀i,i<len ->∃(p:List AV) (D:List Value),(qh P m e p /\∀x∈p,kz N x)/\fq (kQ w) bB p D/\w.cells? g (a.add (i * P.cellsOf e)) (P.cellsOf e)=some D:=by
        intro i G
        obtain⟨y,J,Q⟩:=fl Ks i i (by simp[G])
        simp only[dL]at Q
        obtain⟨D,KI,Q⟩:=Q
        obtain⟨p,F,K⟩:=ih m e D y.1 y.2 hp.1.2 Q (ld (w2 _ (tU (da J))) hN)
        exact⟨p,D,F,K,KI⟩
       have : ∀k,k<=len ->∃es:List (List AV),es.length=k /\∀i p,es[i]?=some p ->∃D:List Value,(qh P m e p /\∀x∈p,kz N x)/\fq (kQ w) bB p D/\w.cells? g (a.add (i * P.cellsOf e)) (P.cellsOf e)=some D:=by
        intro k
        induction k with
        | zero=>intro _;exact⟨[],rfl,λi p h=>by simp at h⟩
        | succ k Kp=>
         intro hk
         obtain⟨es,F,K⟩:=Kp (by omega)
         obtain⟨p,D,h3⟩:=Ku k (by omega)
         refine⟨es++[p],by simp[F],λi ys J=>?_⟩
         rcases cr i k with G | G
         ·rw[dY (by omega)]at J
          exact K i ys J
         ·have:i=k:=by
           have:=(bL.1 J).1
           simp[F]at this
           omega
          subst this
          rw[fS (by omega)]at J
          simp[F]at J
          subst J
          exact⟨D,h3⟩
       obtain⟨es,KJ,E⟩:=this len (a7 _)
       have W : ∀p∈es,(tD ((fw P e).getD false) p).cells=p/\p.length=P.cellsOf e:=by
        intro p q
        obtain⟨i,G,rfl⟩:=il q
        obtain⟨D,F,K,h3⟩:=E i es[i] (bG G)
        obtain⟨h4,h5⟩:=F.1.facts m e _ hp.1.2
        exact⟨zh h5,h4⟩
       refine⟨[.cE (P.cellsOf e) (es.map (tD ((fw P e).getD false))) none],⟨.inr ⟨es,rfl,λp q=>?_⟩,?_⟩,C ?_⟩
       ·obtain⟨i,G,rfl⟩:=il q
        obtain⟨D,F,_⟩:=E i es[i] (bG G)
        exact F.1
       ·intro x L
        rw[kE]at L
        subst L
        refine .cE _ _ _ (by rw[pT];omega) λy J=>?_
        obtain⟨p,q,rfl⟩:=gy.1 J
        obtain⟨i,G,rfl⟩:=il q
        obtain⟨D,F,_⟩:=E i es[i] (bG G)
        exact A4 F.2
       ·have Kr:(es.map (tD ((fw P e).getD false))).length=len:=by simp[KJ]
        have O : ∀i j,i<len->j<P.cellsOf e ->∃p D,es[i]?=some p/\fq (kQ w) bB p D/\(∀x∈p,x.one=true)/\p.length=P.cellsOf e/\kQ w a.block (a.off+(i * P.cellsOf e+j))=D[j]?/\(a.spot=none):=by
         intro i j G Y
         have Kw:i<es.length:=by omega
         obtain⟨D,F,K,h3⟩:=E i es[i] (bG Kw)
         obtain⟨h4,h5⟩:=F.1.facts m e _ hp.1.2
         obtain⟨KO,KN,hc⟩:=World.cells?_some h3
         have KA:=hc j Y
         have Kx:a.spot=none:=by
          obtain⟨KD,g1,g2,g3⟩:=E 0 es[0] (bG (by omega))
          obtain⟨_,KK,Ky⟩:=World.cells?_some g3
          have:=Ky 0 hp.2
          rw[Nat.zero_mul]at this
          have Kz:(a.add 0).add 0=a:=by simp[Addr.add]
          rw[Kz]at this
          unfold World.cell? at this
          cases hs:a.spot with
          | none=>rfl
          | some z=>
           exfalso
           have KH:0<KD.length:=by omega
           rw[bG KH]at this
           split at this
           ·rw[hs]at this;simp at this
           ·simp at this
         refine⟨es[i],D,bG Kw,K,h5,h4,?_,Kx⟩
         rw[<-KA]
         unfold kQ
         congr 1
         rw[eu Kx,cY,cY,rz]
        have:=VR.cE (M:=kQ w) (ι:=bB) (esz:=P.cellsOf e) (es:=es.map (tD ((fw P e).getD false))) (cap:=none) (a:=a) (c:=cap)
         (λi j=>(kQ w a.block (a.off+(i * P.cellsOf e+j))).getD Go.undef) ?_ (by rw[Kr];exact hb.2.1) (λk hk=>by cases hk) ?_ ?_ ?_
        ·rw[Kr]at this;exact this
        ·rcases tT len with h0 | h0
         ·right
          have:es=[]:=by apply rj;omega
          simp[this]
         ·left
          obtain⟨_,_,_,_,_,_,_,hs⟩:=O 0 0 h0 hp.2
          exact hs
        ·intro i j G Y
         rw[Kr]at G
         obtain⟨p,D,F,K,h3,h4,h5,_⟩:=O i j G Y
         have S:j<D.length:=by rw[<-K.1,h4];exact Y
         have KG:j<p.length:=by rw[h4];exact Y
         rw[h5,bG S]
         refine⟨rfl,?_⟩
         have:=K.2 j p[j] D[j] (bG KG) (bG S)
         exact this.one (h3 _ (eE ..))
        ·intro x L
         obtain⟨p,q,rfl⟩:=gy.1 L
         rw[(W p q).1]
         exact(W p q).2
        ·intro i j x c L hc
         rw[fU,aC]at L
         obtain⟨p,q,rfl⟩:=L
         have Z:p∈es:=da q
         rw[(W p Z).1]at hc
         have G:i<len:=by have:=(bL.1 q).1;omega
         have Y:j<P.cellsOf e:=by have:=(bL.1 hc).1;rw[(W p Z).2]at this;exact this
         obtain⟨KP,D,F,K,h3,h4,h5,_⟩:=O i j G Y
         rw[q]at F
         cases F
         have S:j<D.length:=by rw[<-K.1,h4];exact Y
         show VR _ _ c ((kQ w a.block (a.off+(i * P.cellsOf e+j))).getD Go.undef)
         rw[h5,bG S]
         exact K.2 j c D[j] hc (bG S)
      ·cases h
    ·simp at h
   ·
    rename_i k e
    simp only[bR,beq_iff_eq]at hp
    have h:cs.length=P.cellsOf t /\∃p,((List.range k).mapM λi=>DataW.trod enc P w g A B n e ((cs.drop (i * P.cellsOf e)).take (P.cellsOf e)))=some p/\d = .agg (p.map (·.1)):=by
     dsimp only at h
     split at h
     ·rename_i hl
      simp only[aC]at h
      obtain⟨p,q,V⟩:=h
      exact⟨hl,p,q,(Prod.mk.inj V).1.symm⟩
     ·cases h
    obtain⟨hl,ys,Kq,V⟩:=h
    subst V
    have Ko : ∀y∈ys,u y.1<=N:=λy J=>ld (ha _ _ (tU J)) hN
    rw[hp.2]at hl
    have : ∀(k' U:Nat),U+k'=k ->∃p,(yf (qh P m e) k' p /\∀x∈p,kz N x)/\fq (kQ w) bB p (cs.drop (U * P.cellsOf e)):=by
     intro k'
     induction k' with
     | zero=>
      intro U G
      refine⟨[],⟨rfl,λx L=>by cases L⟩,?_⟩
      rw[ot (by rw[hl,<-G];simp)]
      exact fq.nil
     | succ k' Kp=>
      intro U G
      obtain⟨b,T,Kn⟩:=Kp (U+1) (by omega)
      obtain⟨y,x6,Q⟩:=fl Kq U U (by rw[rg (by omega)])
      obtain⟨a,R,X⟩:=ih m e _ y.1 y.2 hp.1 Q (Ko _ (da x6))
      refine⟨a++b,⟨⟨a,b,rfl,R.1,T.1⟩,λx L=>(fc.1 L).elim (R.2 x) (T.2 x)⟩,?_⟩
      have:cs.drop (U * P.cellsOf e)=(cs.drop (U * P.cellsOf e)).take (P.cellsOf e)++cs.drop ((U+1) * P.cellsOf e):=by
       rw[Nat.succ_mul,<-List.drop_drop,u5]
      rw[this]
      exact X.append Kn
    obtain⟨p,F,K⟩:=this k 0 (by omega)
    exact⟨p,F,by simpa using K⟩
   ·
    rename_i fs
    simp only[bR,beq_iff_eq,dh]at hp
    have h:cs.length=P.cellsOf t /\∃p,(fs.toList.mapM λf=>DataW.trod enc P w g A B n f.type ((cs.drop f.offset).take (P.cellsOf f.type)))=some p/\d = .agg (p.map (·.1)):=by
     dsimp only at h
     split at h
     ·rename_i hl
      simp only[aC]at h
      obtain⟨p,q,V⟩:=h
      exact⟨hl,p,q,(Prod.mk.inj V).1.symm⟩
     ·cases h
    obtain⟨hl,ys,Kq,V⟩:=h
    subst V
    have Ko : ∀y∈ys,u y.1<=N:=λy J=>ld (ha _ _ (tU J)) hN
    have : ∀(l:List Field)(o:Nat),(∀f∈l,plain P m f.type=true)->(∀f∈l,∃y,u y.1<=N/\DataW.trod enc P w g A B n f.type ((cs.drop f.offset).take (P.cellsOf f.type))=some y)->layout P l o=some cs.length ->
     ∃p,(D7 (qh P m) l p /\∀x∈p,kz N x)/\fq (kQ w) bB p (cs.drop o):=by
     intro l
     induction l with
     | nil=>
      intro o _ _ I
      simp[layout]at I
      refine⟨[],⟨rfl,λx L=>by cases L⟩,?_⟩
      rw[ot (by omega)]
      exact fq.nil
     | cons f l KE=>
      intro o Kv Kt I
      unfold layout at I
      split at I
      ·rename_i ho
       obtain⟨b,T,Kn⟩:=KE (o+P.cellsOf f.type) (λf Q=>Kv f (gv _ Q)) (λf Q=>Kt f (gv _ Q)) I
       obtain⟨y,KB,Q⟩:=Kt f (gu ..)
       obtain⟨a,R,X⟩:=ih m f.type _ y.1 y.2 (Kv f (gu ..)) Q KB
       rw[ho]at X
       refine⟨a++b,⟨⟨a,b,rfl,R.1,T.1⟩,λx L=>(fc.1 L).elim (R.2 x) (T.2 x)⟩,?_⟩
       have:cs.drop o=(cs.drop o).take (P.cellsOf f.type)++cs.drop (o+P.cellsOf f.type):=by
        rw[<-List.drop_drop,u5]
       rw[this]
       exact X.append Kn
      ·cases I
    obtain⟨p,F,K⟩:=this fs.toList 0 hp.1 (λf Q=>by
     obtain⟨i,G,rfl⟩:=il Q
     obtain⟨y,x6,J⟩:=fl Kq i fs.toList[i] (bG G)
     exact⟨y,Ko _ (da x6),J⟩) (by rw[hl];exact hp.2)
    exact⟨p,F,by simpa using K⟩
theorem xi(z : ∀es q,es.length<=u (.slice es q) /\∀d∈es,u d<=u (.slice es q))(F : ∀ps,∀d∈ps,u d<=u (.agg ps)){m:Nat}{t:TypeId}{v:Value}{d:DataW H}{ps:List MemPlace}(hp:plain P m t=true)(c:Value.okWide P w .any g t v){j:Nat}(h:DataW.Trod enc P w j A B t v d ps)(y:u d<=N) :
 ∃x:AV,(BR P m t x/\kz N x)/\VR (kQ w) bB x v:=by
 obtain⟨n,s⟩:=h
 obtain⟨xs,⟨l,k⟩,o⟩:=xj z F n m t v.cells.toList d ps hp s y
 unfold BR
 by_cases a:fw P t=some true
 ·rw[a]
  have : ∃cs,v = .agg cs:=by
   unfold fw at a
   unfold Value.okWide at c
   cases i:P.underlying t with
   | none=>rw[i]at a;simp at a
   | some dd=>rw[i]at a c;cases dd<;>simp at a<;>(obtain⟨cs,rfl,_⟩:=c;exact⟨cs,rfl⟩)
  obtain⟨cs,rfl⟩:=this
  exact⟨.agg xs,⟨⟨xs,rfl,l⟩,.agg _ k⟩,VR.iE.2 o⟩
 ·have p:v.cells = #[v] /\∃x,xs=[x]:=by
   have D:=l.facts m t xs hp
   cases m with
   | zero=>simp[plain]at hp
   | succ m=>
   have b:=hp
   unfold plain at b
   unfold fw at a
   unfold Value.okWide at c
   cases i:P.underlying t with
   | none=>rw[i]at b;simp at b
   | some dd=>
    rw[i]at b a c
    have f:P.cellsOf t=1->Cell.okWide P w .any g t v->v.cells = #[v] /\∃x,xs=[x]:=by
     intro E e
     refine⟨?_,?_⟩
     ·cases v<;>try rfl
      exfalso
      unfold Cell.okWide at e
      rw[i]at e
      cases dd<;>simp at b a<;>(simp[Cell.ok,i]at e)
     ·have:=D.1
      rw[E]at this
      match xs,this with
      | [x],_=>exact⟨x,rfl⟩
    cases dd<;>simp at b a
    ·exact f b c
    ·exact f b c
    ·exact f b c
    ·exact f b.1.1 c
  obtain⟨p,x,rfl⟩:=p
  rw[p]at o
  refine⟨x,⟨?_,k x (by simp)⟩,o.2 0 x v rfl rfl⟩
  split
  ·rename_i C;exact(a C).elim
  ·exact l
theorem Bl(L : ∀es C,es.length<=u (.slice es C) /\∀d∈es,u d<=u (.slice es C))(M : ∀ps,∀d∈ps,u d<=u (.agg ps)){m:Nat}{b:Nat} : ∀ {a:List TypeId} {f:List Value} {ds:List (DataW H)} {ps:List MemPlace},a.all (plain P m)=true->(∀(j:Nat) t v,a[j]?=some t->f[j]?=some v->Value.okWide P w .any g t v) ->
 DataW.TrodAll enc P w b A B a f ds ps->(∀d∈ds,u d<=N) ->∃i:List AV,(zT P m a i /\∀x∈i,kz N x)/\fq (kQ w) bB i f:=by
 intro a
 induction a with
 | nil=>
  intro f ds ps _ _ h _
  obtain⟨rfl,_,_⟩:=trodAll_nil h
  exact⟨[],⟨trivial,λx E=>by cases E⟩,fq.nil⟩
 | cons t a F=>
  intro f ds ps hp c h D
  obtain⟨v,J,d,I,p,q,rfl,rfl,rfl,n,o⟩:=trodAll_cons h
  simp only[pS,bR]at hp
  obtain⟨x,l,z⟩:=xi L M hp.1 (c 0 t v rfl rfl) n (D _ (gu ..))
  obtain⟨i,k,s⟩:=F hp.2 (λj t v n o=>c (j+1) t v n o) o (λd G=>D d (gv _ G))
  exact⟨x :: i,⟨⟨l.1,k.1⟩,λy K=>(dg.1 K).elim (λe=>by rw[e];exact l.2) (k.2 y)⟩,fq.cons z s⟩
end
theorem sy{E:Env}{ok:Array Oper->Bool}(U:E.Ok ok){T:TypeId->Prop}(K:Kids E.P T)(S : ∀t e,T t->E.P.underlying t=some (.slice e)->0<E.P.cellsOf e){H:Type}{enc:TypeId × Value->H}{id:FuncId}{f:Func}{s:ChangeSpec}{apart fresh a c:Bool}{m:Nat}
 (X : ∀t∈f.params.toList,T t) (hp:f.params.toList.all (plain E.P m)=true) (hv:s.vars=[]) (R : ∀ds:List (DataW H),ds.length=f.params.toList.length->s.fn H ds = { results:=[.lit (.bool true)],args:=ds}) (y:wa E.P f=true)
 {u:DataW H->Nat} {N:Nat} (D : ∀es J,es.length<=u (.slice es J) /\∀d∈es,u d<=u (.slice es J)) (C : ∀ps,∀d∈ps,u d<=u (.agg ps))
 (h : ∀i,zT E.P m f.params.toList i->(∀x∈i,kz N x)->aN E id i=some (.v (.bool true)))
 (W:World) (g:Nat) (args:Array Value) (ds Y:List (DataW H)) (b:List MemPlace) (l : ∀(j:Nat) t v,f.params[j]?=some t->args[j]?=some v->Value.okWide E.P W .any g t v)
 (I:DataW.Whole enc E.P f.params.toList s.vars apart W args.toList ds Y b) (Q : ∀d∈ds,u d<=N) :
 Calls E.P id args W λe M =>∃v,e = .returned v/\s.post enc E.P f apart fresh a c W args v M:=by
 obtain⟨tb,y,hb⟩:=zM y
 have G:=I
 obtain⟨p,q,L,hV,rfl,O,x6⟩:=G
 obtain⟨i,k,F⟩:=Bl D C hp (λj t v V Z=>l j t v (by simpa using V) (by simpa using Z)) L Q
 obtain⟨n,o⟩:=Dg (h i k.1 k.2)
 have z:ds.length=f.params.toList.length:=wK L
 refine(zG U o (us:=args.toList) F).mono λe M ⟨he,hk⟩=>⟨_,he,?_⟩
 exact Bi K S X hv I (R ds z) y hb hk
end Go.Ab
namespace Go.Ab
theorem cT.fr{M:Mem}{ι:Map}{H:aa}{w:World}(a:cT M ι H.get w)(c:jA ι H):Fr H:=by
 intro d t g k f
 cases h:H.get ⟨d,t,g,k⟩ with
 | none=>rfl
 | some b=>
  obtain⟨l,e,_⟩:=a.live _ _ h
  have:=c _ l e
  simp only at this
  omega
def lL(H:aa)(r:Ref):Ref:=⟨r.d,r.t,H.gen r.d r.t,0⟩
def ic(a:Nat)(H:aa):Ref:=⟨1,a,H.gen 1 a,0⟩
def mn(z:Nat)(g:bD):AV->Bool
 | .v (.slice none 0 0)=>true
 | .aD r 0 0 (some 0)=>match g r with
  | some b=>b.arr&&b.esz == z&&b.es.isEmpty
  | none=>false
 | _=>false
def lC(P:Program)(t:TypeId)(sl c:Nat)(args:List AV)(H:aa):bk:=match args with
 | [.dsl r 0 n none,.v (.int .i64 i),.aD a 0 1 e]=>(match H.get r,H.get a,(bg P t).bind (ay P),(bg P t).bind (db P) with
  | some b,some bv,some z,some by'=>(match bv.es with
   | [v]=>if b.arr=false/\bv.arr=true/\b.esz=z/\bv.esz=z/\1<z/\0<by'/\b.cS=false/\n=b.es.length/\0<=i/\i<=n/\(n+1) * by'<=aO then
    some (.dsl ⟨r.d,r.t,H.gen r.d r.t,0⟩ 0 (n+1) none,mP sl H r ⟨z,ck b.es i.toNat v,false,false⟩) else none
   | _=>none)
  | _,_,_,_=>none)
 | [x,.v (.int .i64 0),.aD a 0 1 e]=>(match H.get a,(bg P t).bind (ay P),(bg P t).bind (db P) with
  | some bv,some z,some by'=>(match bv.es with
   | [v]=>if mn z H.get x=true/\bv.arr=true/\bv.esz=z/\1<z/\0<by'/\by'<=aO then
    some (.dsl (ic c H) 0 1 none,(ic c H,some ⟨z,[v],false,false⟩) :: H) else none
   | _=>none)
  | _,_,_=>none)
 | _=>none
def D4(P:Program)(t:TypeId)(H:aa)(r:Ref)(n:Nat)(a:Ref)(b bv:ax)(v:AV)(z by':Nat):Prop:=
 H.get r=some b/\H.get a=some bv/\(bg P t).bind (ay P)=some z/\(bg P t).bind (db P)=some by'/\bv.es=[v] /\
 b.arr=true/\bv.arr=true/\b.esz=z/\bv.esz=z/\1<z/\0<by'/\b.cS=false/\r≠a/\n=b.es.length/\(n+1) * by'<=aO
theorem By(es:List AV)(v:AV):ck es es.length v=es++[v]:=by simp[ck]
theorem xy{es a:List AV}(p:a.length=es.length){n:Nat}(v:AV){R:AV->AV->Prop}(g : ∀(i j:Nat) e x,es[i]?=some e->e.cells[j]?=some x ->∃d c,a[i]?=some d/\d.cells[j]?=some c/\R x c)
 (o : ∀x,R x x) (q:n<=es.length) : ∀(i j:Nat) e x,(ck es n v)[i]?=some e->e.cells[j]?=some x ->∃d c,(ck a n v)[i]?=some d/\d.cells[j]?=some c/\R x c:=by
 intro i j e x b f
 have k:(es.take n).length=n:=by rw[ik];omega
 have l:(a.take n).length=n:=by rw[ik];omega
 unfold ck at b ⊢
 rcases re i n with h | h | h
 ·rw[dY (by omega),yD h]at b
  rw[dY (by omega),yD h]
  exact g i j e x b f
 ·subst h
  rw[fS (by omega),k,kf]at b
  rw[fS (by omega),l,kf]
  cases b
  exact⟨v,x,rfl,f,o x⟩
 ·obtain⟨m,rfl⟩ : ∃m,i=n+m+1:=⟨i - n - 1,by omega⟩
  rw[fS (by omega),k,show n+m+1 - n=m+1 by omega,List.getElem?_cons_succ,oo]at b
  rw[fS (by omega),l,show n+m+1 - n=m+1 by omega,List.getElem?_cons_succ,oo]
  exact g (n+m) j e x b f
theorem zD{P:Program}{t:TypeId}{sl sa:Nat}{f:FuncId}{args:List AV}{H H':aa}{y:AV}(hf : ∃fn,P.funcs[f]?=some fn/\(fn.name == "runtime.NumGoroutine")=false/\fn.body.isSome=true)
 (Ks : ∀args H y H',jc P t sl args H=some (y,H')->dC P (.fn f) args H y H')
 (Ku : ∀H r n p F b bv v z by',D4 P t H r n p b bv v z by'->Fr H->dC P (.fn f) [.aD r 0 n none,.v (.int .i64 n),.aD p 0 1 F] H (.aD (lL H r) 0 (n+1) none) ((lL H r,some { b with es:=b.es++[v]}) :: H.put r none))
 (Kv : ∀H x p F bv v z by',H.get p=some bv->(bg P t).bind (ay P)=some z->(bg P t).bind (db P)=some by'->bv.es=[v]->mn z H.get x=true->bv.arr=true->bv.esz=z->1<z->0<by'->by'<=aO->Fr H ->
  dC P (.fn f) [x,.v (.int .i64 0),.aD p 0 1 F] H (.aD (ic sa H) 0 1 none) ((ic sa H,some ⟨z,[v],true,false⟩) :: H))
 (h:lC P t sl sa args H=some (y,H')):dC P (.fn f) args H y H':=by
 refine⟨hf,λM ι w us hS hD Kq=>?_⟩
 have W:=hS.fr hD
 unfold lC at h
 split at h
 ·rename_i r n i p F
  split at h
  ·rename_i b bv z by' S h2 h3 h4
   split at h
   ·rename_i v hv
    obtain⟨hc,h⟩:=cc.1 h
    obtain⟨c1,c2,I,c4,c5,c6,c7,c8,c9,KB,Kr⟩:=hc
    cases h
    have T:r≠p:=by
     intro e
     rw[e,h2]at S
     cases S
     rw[c1]at c2
     cases c2
    obtain⟨a,e1,e2,e3,e4⟩:=hS.m7 S c1 (by omega)
    obtain⟨H0,x6⟩ : ∃H0,H0=H.put r (some ⟨b.esz,a,true,b.cS⟩):=⟨_,rfl⟩
    rw[<-x6]at e3
    have B : ∀q,H0.get q=if q=r then some ⟨b.esz,a,true,b.cS⟩ else H.get q:=λq=>by rw[x6,aa.aj]
    have g : ∀d t,H0.gen d t=H.gen d t:=λd t=>by rw[x6,aa.b8 _ _ _ (by rw[S];rfl)]
    have G:jA ι H0:=λq l hl=>by rw[g];exact hD q l hl
    have V:H0.get r=some ⟨b.esz,a,true,b.cS⟩:=by rw[B,if_pos rfl]
    have O:H0.get p=some bv:=by rw[B,if_neg (λe=>T e.symm)];exact h2
    have K : ∀q k,H0.get q=some k ->∃k',H.get q=some k':=by
     intro q k hq
     rw[B]at hq
     split at hq
     ·rename_i e;rw[e];exact⟨b,S⟩
     ·exact⟨k,hq⟩
    have hX:H.get (jb sl H r)=none:=W _ _ _ _ (a7 _)
    have Ko:H0.get (jb sl H0 r)=none:=(e3.fr G) _ _ _ _ (a7 _)
    have L:fq M ι [.aD r 0 n none,.v (.int .i64 i),.aD p 0 1 F] us:=by
     obtain⟨a1,a2⟩:=Kq
     refine⟨a1,λj x u s A=>?_⟩
     match j,s,A with
     | 0,s,A=>
      cases s
      cases a2 0 _ u rfl A with | dsl hr hb hs ha hc hn hk hz=>exact .aD hr hb hs ha hc hn hk hz
     | 1,s,A=>exact a2 1 x u s A
     | 2,s,A=>exact a2 2 x u s A
    have Y : ∀e∈bv.es,e.cells.length=z:=by
     obtain⟨l,_,hb⟩:=hS.live p bv h2
     rw[<-c4]
     exact(hb.cellsOk (by omega)).cells
    have Z : ∀e∈b.es,e.cells.length=z:=by
     obtain⟨l,_,hb⟩:=hS.live r b S
     rw[<-I]
     exact(hb.cellsOk (by omega)).cells
    have Ky:(i.toNat:Int)=i:=by omega
    obtain⟨N,rfl⟩ : ∃N:Nat,i=N:=⟨i.toNat,by omega⟩
    have KA:N<=n:=by omega
    have D : ∀(M':Mem)(m:Map),(∀b o v,M b o=some v->M' b o=some v)->(∀q l,ι q=some l->m q=some l) ->∀(i j:Nat) C U,(ck b.es N v)[i]?=some C->C.cells[j]?=some U ->
     ∃e1 x1,(ck a N v)[i]?=some e1/\e1.cells[j]?=some x1 /\∀u,VR M' bB x1 u->VR M' m U u:=by
     intro M' m hM Kw i j C U c s
     refine xy (R:=λU x1 =>∀u,VR M' bB x1 u->VR M' m U u) e1 v (λi j e x c s=>?_) (λx u A=>A.up m) (by omega) i j C U c s
     have hi:i<a.length:=by rw[e1];exact(bL.1 c).1
     have g0:a[i]?=some a[i]:=bG hi
     have hj:j<a[i].cells.length:=by
      have h5:=(bL.1 s).1
      rw[Z e (da c)]at h5
      rw[e2 _ (eE hi)]
      omega
     have g1:a[i].cells[j]?=some a[i].cells[j]:=bG hj
     obtain⟨u,C,U,a1,a2,a3,a4⟩:=e4 i j _ _ g0 g1
     rw[c]at a2
     cases a2
     rw[s]at a3
     cases a3
     refine⟨_,_,g0,g1,λu' Kt=>?_⟩
     rw[a1]at Kt
     cases Kt with | m7 _=>exact a4.mono hM m Kw
    have E:(ck b.es N v).length=(ck a N v).length:=by rw[nW _ _ _ (by omega),nW _ _ _ (by omega),e1]
    have Kp : ∀e∈ck b.es N v,e.cells.length=z:=by
     intro e c
     unfold ck at c
     rw[fc,dg]at c
     rcases c with c | c | c
     ·exact Z e (m0 c)
     ·exact Y e (by rw[hv,c];simp)
     ·exact Z e (pa c)
    have KE:(⟨r.d,r.t,H.gen r.d r.t,0⟩:Ref)≠r:=by
     intro e
     have:=W r.d r.t _ 0 (a7 _)
     rw[e,S]at this
     cases this
    have KD:(⟨r.d,r.t,H.gen r.d r.t,0⟩:Ref)≠jb sl H r:=by
     intro e
     have:=congrArg Ref.d e
     simp[jb]at this
    have Kn:(H.get r).isSome=true:=by rw[S];rfl
    have Q:(H0.get r).isSome=true:=by rw[V];rfl
    show Calls P f us.toArray w λe w' =>∃v,e = .returned v/\hJ M ι H w (.dsl (lL H r) 0 (n+1) none) _ v w'
    have J:lL H0 r=lL H r:=by unfold lL;rw[g]
    by_cases KC:N<n
    ·have Kz:jc P t sl [.aD r 0 n none,.v (.int .i64 N),.aD p 0 1 F] H0=some (.aD (lL H0 r) 0 (n+1) none,mP sl H0 r ⟨z,ck a N v,true,false⟩):=by
      simp only[jc,V,O,h3,h4,hv]
      rw[if_pos ⟨trivial,c2,I,c4,c5,c6,c7,T,by omega,by omega,by omega,Kr⟩]
      simp[lL,I,c7]
     refine((Ks _ _ _ _ Kz).2 M ι w us e3 G L).mono λe w' ⟨u,c,hW⟩=>⟨u,c,?_⟩
     rw[J]at hW
     refine hW.deep (k1:=⟨z,ck a N v,true,false⟩) (es':=ck b.es N v) K ?_ (by simp only;omega) rfl (λq=>?_) (λd t=>?_) E Kp D
     ·rw[jd sl _ Ko]
      exact if_pos J
     ·rw[jd sl q hX,jd sl q Ko]
      show(if lL H r=q then _ else _)=if q=lL H r then _ else if lL H0 r=q then _ else _
      rw[J]
      by_cases e:lL H r=q
      ·rw[if_pos e,if_pos e.symm]
       simp
      ·have C : ¬q=lL H r:=λh=>e h.symm
       simp only[if_neg e,if_neg C]
       by_cases X:q=r
       ·simp only[if_pos X]
       ·simp only[if_neg X];rw[B,if_neg X]
     ·unfold mP jb
      simp only[aa.je,aa.b8 _ _ _ Kn,aa.b8 _ _ _ Q,g]
      exact a7 _
    ·obtain rfl:N=n:=by omega
     have Kx:D4 P t H0 r N p ⟨b.esz,a,true,b.cS⟩ bv v z by':=⟨V,O,h3,h4,hv,rfl,c2,I,c4,c5,c6,c7,T,by simp only;omega,Kr⟩
     refine((Ku H0 r N p F _ bv v z by' Kx (e3.fr G)).2 M ι w us e3 G L).mono λe w' ⟨u,c,hW⟩=>⟨u,c,?_⟩
     rw[J]at hW
     have hE:ck a N v=a++[v]:=by rw[show N=a.length by omega,By]
     rw[hE]at D E
     refine hW.deep (k1:=⟨b.esz,a++[v],true,b.cS⟩) (es':=ck b.es N v) K ?_ (by simp only;omega) rfl (λq=>?_) (λd t=>?_) E (by rw[I];exact Kp) D
     ·rw[aa.bJ,if_pos rfl]
     ·rw[jd sl q hX,aa.bJ]
      show(if lL H r=q then _ else _)=if q=lL H r then _ else if lL H r=q then _ else _
      by_cases e:lL H r=q
      ·rw[if_pos e,if_pos e.symm]
       simp[I,c7]
      ·have C : ¬q=lL H r:=λh=>e h.symm
       simp only[if_neg e,if_neg C]
       rw[aa.aj]
       by_cases X:q=r
       ·simp only[if_pos X]
       ·simp only[if_neg X];rw[B,if_neg X]
     ·unfold mP jb lL
      simp only[aa.je,aa.b8 _ _ _ Kn,aa.b8 _ _ _ Q,g]
      split
      ·exact a7 _
      ·split
       ·rename_i h;obtain⟨rfl,rfl⟩:=h;exact oN _
       ·exact a7 _
   ·cases h
  ·cases h
 ·rename_i x p F _
  split at h
  ·rename_i bv z by' h2 h3 h4
   split at h
   ·rename_i v hv
    obtain⟨hc,h⟩:=cc.1 h
    obtain⟨c1,c2,I,c4,c5,c6⟩:=hc
    cases h
    have Y : ∀e∈bv.es,e.cells.length=z:=by
     obtain⟨l,_,hb⟩:=hS.live p bv h2
     rw[<-I]
     exact(hb.cellsOk (by omega)).cells
    refine((Kv H x p F bv v z by' h2 h3 h4 hv c1 c2 I c4 c5 c6 W).2 M ι w us hS hD Kq).mono λe w' ⟨u,c,hW⟩=>⟨u,c,?_⟩
    refine hW.deep (k1:=⟨z,[v],true,false⟩) (es':=[v]) (λq k hq=>⟨k,hq⟩) ?_ (by simp only;omega) rfl (λq=>?_) (λd t=>?_) rfl (λe c=>Y e (by rw[hv];exact c)) (λM' m _ _ i j e x c s=>⟨e,x,c,s,λu A=>A.up m⟩)
    ·rw[aa.bJ,if_pos rfl]
    ·rw[aa.bJ,aa.bJ]
     by_cases e:ic sa H=q
     ·rw[if_pos e,if_pos e.symm]
     ·have C : ¬q=ic sa H:=λh=>e h.symm
      simp only[if_neg e,if_neg C]
    ·unfold ic
     simp only[aa.je]
     exact a7 _
   ·cases h
  ·cases h
 ·cases h
def DO(z b a:Nat)(H:aa)(es:List AV)(arr:Bool):aa:=(ic a H,some ⟨z,es,arr,false⟩) :: (ic b H,some ⟨z,[],true,false⟩) :: H
theorem q8(z b a:Nat)(H:aa)(es:List AV)(arr:Bool)(q:Ref):(DO z b a H es arr).get q=if ic a H=q then some ⟨z,es,arr,false⟩ else if ic b H=q then some ⟨z,[],true,false⟩ else H.get q:=by
 unfold DO
 rw[aa.bJ,aa.bJ]
def mq(z by' b a:Nat)(args:List AV)(H:aa):bk:=match args with
 | [.cE c (e :: es) _]=>if c=z/\0<z/\(es.length+1) * by'<=aO then some (.dsl (ic a H) 0 (es.length+1) none,DO z b a H (e :: es) false) else none
 | _=>none
theorem vV{P:Program}{z by' A a:Nat}{f:FuncId}{args:List AV}{H H':aa}{y:AV}(G : ∃fn,P.funcs[f]?=some fn/\(fn.name == "runtime.NumGoroutine")=false/\fn.body.isSome=true)
 (m : ∀H e es c,(es.length+1) * by'<=aO->Fr H->dC P (.fn f) [.cE z (e :: es) c] H (.aD (ic a H) 0 (es.length+1) none) (DO z A a H (e :: es) true))
 (h:mq z by' A a args H=some (y,H')):dC P (.fn f) args H y H':=by
 refine⟨G,λM ι w us s v g=>?_⟩
 unfold mq at h
 split at h
 ·rename_i B e es c
  obtain⟨C,h⟩:=cc.1 h
  obtain⟨rfl,O,F⟩:=C
  cases h
  have o : ∀x∈e :: es,x.cells.length=B:=by
   obtain⟨D,p⟩:=g
   match us,D,p with
   | [u],D,p=>cases p 0 _ u rfl rfl with | cE cell L C N hm b h=>exact b
  refine((m H e es c F (s.fr v)).2 M ι w us s v g).mono λl w' ⟨u,b,hW⟩=>⟨u,b,?_⟩
  refine hW.deep (k1:=⟨B,e :: es,true,false⟩) (es':=e :: es) (λq k J=>⟨k,J⟩) ?_ (by simp only;omega) rfl (λq=>?_) (λd t=>?_) rfl o (λM' n _ _ i j e x b E=>⟨e,x,b,E,λu I=>I.up n⟩)
  ·rw[q8,if_pos rfl]
  ·rw[q8,q8]
   by_cases l:ic a H=q
   ·rw[if_pos l,if_pos l.symm]
   ·have K : ¬q=ic a H:=λh=>l h.symm
    simp only[if_neg l,if_neg K]
  ·unfold DO ic
   simp only[aa.je]
   exact a7 _
 ·cases h
end Go.Ab
namespace Go.Proofs.Ytjampffmlnplcaa.ins
open Go.Ab
noncomputable def env:Env:=k6 Try.prog [101] [] [101] (λ_=>false) (λ_=>[]) (λ_=>false) [] (λ_=>true) (λf=>if f=136 then some 91 else none)
theorem zA:qz env [101]=true:=by kernel_rfl
theorem GW:lO Try.prog 136 91:=⟨Try.f136,4,by kernel_rfl,by kernel_rfl,by kernel_rfl,by kernel_rfl,by kernel_rfl⟩
theorem F9:env.Ok (nA env):=vQ sJ (by kernel_rfl) zA (λf t h=>by
 split at h
 ·rename_i e;subst e;cases h;exact GW
 ·cases h) (λf args H y H' h=>by cases h)
@[simp] theorem EC:ay env.P 3=(some 1):=by kernel_rfl
@[simp] theorem Gw:fw env.P 3=(some false):=by kernel_rfl
@[simp] theorem Bu:intKind env.P 3=(some .i64):=by kernel_rfl
@[simp] theorem Gp:(env.P.underlying 3).isNone=false:=by kernel_rfl
@[simp] theorem EB:ay env.P 4=(some 1):=by kernel_rfl
@[simp] theorem Gv:fw env.P 4=(some false):=by kernel_rfl
@[simp] theorem Dn:isBool env.P 4=true:=by kernel_rfl
@[simp] theorem EA:ay env.P 5=(some 1):=by kernel_rfl
@[simp] theorem Gu:fw env.P 5=(some false):=by kernel_rfl
@[simp] theorem Bt:intKind env.P 5=(some .u8):=by kernel_rfl
@[simp] theorem Co:ay env.P 91=(some 1):=by kernel_rfl
@[simp] theorem EH:fw env.P 91=(some false):=by kernel_rfl
@[simp] theorem wM:bg env.P 91=(some 146):=by kernel_rfl
@[simp] theorem EF:n8 env.P 91=none:=by kernel_rfl
@[simp] theorem Dk:isStr env.P 91=false:=by kernel_rfl
@[simp] theorem HG:zR env.P 91=true:=by kernel_rfl
@[simp] theorem Fp:la env.P 91=true:=by kernel_rfl
@[simp] theorem Hw:jg env.P 91=2:=by kernel_rfl
@[simp] theorem Fs:mQ env.P 91=32:=by kernel_rfl
@[simp] theorem BH:iH env.P 91=(.agg [(.v (.int .i64 0)),(.v (.slice none 0 0))]):=by kernel_rfl
@[simp] theorem Cn:ay env.P 98=(some 1):=by kernel_rfl
@[simp] theorem EG:fw env.P 98=(some false):=by kernel_rfl
@[simp] theorem Cp:bg env.P 98=(some 5):=by kernel_rfl
@[simp] theorem EE:n8 env.P 98=none:=by kernel_rfl
@[simp] theorem Dj:isStr env.P 98=false:=by kernel_rfl
@[simp] theorem HF:zR env.P 98=true:=by kernel_rfl
@[simp] theorem Fo:la env.P 98=true:=by kernel_rfl
@[simp] theorem Hv:jg env.P 98=1:=by kernel_rfl
@[simp] theorem Fq:mQ env.P 98=1:=by kernel_rfl
@[simp] theorem Dm:bp env.P 98=true:=by kernel_rfl
@[simp] theorem uc:ay env.P 146=(some 2):=by kernel_rfl
@[simp] theorem wP:fw env.P 146=(some true):=by kernel_rfl
@[simp] theorem Cq:n8 env.P 146=none:=by kernel_rfl
@[simp] theorem AU:ep env.P 146=(some (.agg [(.v (.int .i64 0)),(.v (.slice none 0 0))])):=by kernel_rfl
@[simp] theorem yO:db env.P 146=(some 32):=by kernel_rfl
@[simp] theorem pG:ny env.P 146=(some [3,98]):=by kernel_rfl
@[simp] theorem za:kO env.P 146=(some [(0,1),(1,1)]):=by kernel_rfl
@[simp] theorem vO:bT env.P 146 0=(some (0,1)):=by kernel_rfl
@[simp] theorem vN:bT env.P 146 1=(some (1,1)):=by kernel_rfl
noncomputable def DY:Code:=(Try.f101.body).getD .skip
def G7:Nat->Option (List Nat):=λi=>none
def Hz:Nat->Bool:=λi=>false
def zS(dep:Nat)(g:Nat->AV)(i b n:AV)(H:aa)(Q:AV->aa->Prop):Prop:=
 fB (fj env.P (aa.get H) 91 (some i) (oi b) (some none) (some none)) λC=>
 fB (bS env.P false (aa.get H) (⟨(dep+1),14,aa.gen H (dep+1) 14,0⟩:Ref) .len #[91] [n]) λj=>
 fB (cK env.P .eql 3 (.tmp 15) (.const (.int .i64 0)) (some j) (some (.v (.int .i64 0)))) λy=>
 br (some y) (
  Q i H) (
  fB (bS env.P false (aa.get H) (⟨(dep+1),19,aa.gen H (dep+1) 19,0⟩:Ref) .len #[91] [i]) λq=>
  fB (cK env.P .eql 3 (.tmp 20) (.tmp 21) (some b) (some q)) λA=>
  br (some A) (
   ga (eO env.P true H (⟨(dep+1),25,aa.gen H (dep+1) 25,0⟩:Ref) (some 91) (some 91) i n) λu d=>
   Q u d) (
   fB (cK env.P .add 3 (.tmp 26) (.tmp 27) (some q) (some j)) λu=>
   fB (bS env.P false (aa.get H) (⟨(dep+1),30,aa.gen H (dep+1) 30,0⟩:Ref) .cap #[91] [i]) λB=>
   fB (cK env.P .gtr 3 (.tmp 28) (.tmp 30) (some u) (some B)) λz=>
   br (some z) (
    fB (fj env.P (aa.get H) 91 (some i) (some none) (oi b) (some none)) λt=>
    fB (cK env.P .add 3 (.tmp 35) (.tmp 36) (some q) (some j)) λa=>
    fB (cK env.P .sub 3 (.tmp 37) (.tmp 38) (some a) (some b)) λm=>
    ga (eO env.P true H (⟨(dep+1),40,aa.gen H (dep+1) 40,0⟩:Ref) (some 91) (some 3) t m) λf d=>
    fB (fj env.P (aa.get d) 91 (some f) (oi b) (some none) (some none)) λl=>
    ga (kH env.P d (some 91) l n) λp k=>
    fB (cK env.P .add 3 (.tmp 47) (.tmp 48) (some b) (some j)) λe=>
    fB (dN env.P (aa.get k) 91 (some f) (oi e) (some none) (some none)) λh=>
    fB (dN env.P (aa.get k) 91 (some i) (oi b) (some none) (some none)) λc=>
    ga (kH env.P k (some 91) h c) λo w=>
    Q f w) (
    fB (cK env.P .add 3 (.tmp 57) (.tmp 58) (some q) (some j)) λt=>
    fB (fj env.P (aa.get H) 91 (some i) (some none) (oi t) (some none)) λa=>
    fB (cK env.P .add 3 (.tmp 63) (.tmp 64) (some b) (some j)) λm=>
    fB (fj env.P (aa.get H) 91 (some a) (oi m) (some none) (some none)) λf=>
    fB (uj env.P (aa.get H) 91 [n,f]) λl=>
    fB (ET env.P .not (some l)) λp=>
    br (some p) (
     fB (cK env.P .add 3 (.tmp 70) (.tmp 71) (some b) (some j)) λe=>
     fB (dN env.P (aa.get H) 91 (some a) (oi e) (some none) (some none)) λh=>
     fB (dN env.P (aa.get H) 91 (some a) (oi b) (some none) (some none)) λc=>
     ga (kH env.P H (some 91) h c) λo d=>
     fB (fj env.P (aa.get d) 91 (some a) (oi b) (some none) (some none)) λs=>
     ga (kH env.P d (some 91) s n) λx k=>
     Q a k) (
     fB (fj env.P (aa.get H) 91 (some a) (oi q) (some none) (some none)) λe=>
     ga (kH env.P H (some 91) e n) λh d=>
     fB (fj env.P (aa.get d) 91 (some a) (oi b) (some none) (some none)) λc=>
     ga (aL env true (aN env) (cB env (dep+1)) d (⟨(dep+1),93,aa.gen d (dep+1) 93,0⟩:Ref) (some (.fn (.func 137) [] [])) [c,j]) λo k=>
     Q a k))))
theorem Gn(dep:Nat)(a b c:AV)(H:aa)(Q:AV->aa->Prop)(h : ∀g,zS dep g a b c H Q):gm env Try.f101 (dep+1) [.code DY] [(0,a),(1,b),(2,c)] H Q:=⟨λg=>jR (live:=G7) (cut:=Hz) (n:=500) (Eq.mp (by kernel_rfl) (h g))⟩
attribute [local simp] cC fj kH uj
theorem run(r p:Ref)(n:Nat)(i:Int)(cv:Option Nat)(b bv:ax)(v:AV)(z by' c:Nat)(H:aa)(s:Av Try.prog 91 H r n i p b bv v z by')(hc:n<=c)(h:H.get (jb 40 H r)=none) :
 ∃B w,cB env r.d (.fn 101) [.aD r 0 n (some c),.v (.int .i64 i),.aD p 0 1 cv] H=some (B,w) /\
  (
   (B = .aD r 0 (n+1) (some c)/\w=H.put r (some { b with es:=ck b.es i.toNat v})) \/
   (B = .aD (jb 40 H r) 0 (n+1) none/\w=(jb 40 H r,some { b with es:=ck b.es i.toNat v}) :: H)):=by
 obtain⟨D,h2,h3,h4,h5,Z,V,W,U,E,y,k,A,j,m,Ko,u⟩:=s
 obtain⟨i,rfl⟩:=u7 m
 refine mh (fn:=Try.f101) (c:=DY) (by kernel_rfl) (by kernel_rfl) (by kernel_rfl) (by kernel_rfl) (by kernel_rfl) ?_
 refine Gn _ _ _ _ _ _ λg=>?_
 obtain⟨bz,es,ba,bf⟩:=b
 obtain⟨Kp,K,Kq,Kn⟩:=bv
 simp only at h5 Z V W U k j
 have hz:z=2:=by
  have:(bg env.P 91).bind (ay env.P)=some z:=h3
  simpa using this.symm
 have G:by'=32:=by
  have:(bg env.P 91).bind (db env.P)=some by':=h4
  simpa using this.symm
 subst hz G h5 Z V W U k
 subst j
 clear h3 h4 E y m
 have I:(es.length+1) * 32<=140737488355328:=u
 have o : ∀(c:Nat)(rr:Ref)(g:bD),bS env.P false g rr .cap #[91] [.aD r 0 es.length (some c)]=some (aI c,[]):=λc rr g=>by
  simp[bS,EY]
 have x:i<es.length:=by omega
 have c1 : ¬(i:Int)=es.length:=by omega
 have c2:i<=es.length:=by omega
 have w1:=IntWalk.i64_in ((es.length:Int)+1) (by omega)
 have w2:=IntWalk.i64_in ((es.length:Int)+1 - i) (by omega)
 have w3:=IntWalk.i64_in ((i:Int)+1) (by omega)
 have M:=A.symm
 by_cases x6:es.length+1<=c
 ·have N : ¬(c:Int)<(es.length:Int)+1:=by omega
  have c4:(es.length:Int)+1<=c:=by omega
  have c5:(i:Int)+1<=(es.length:Int)+1:=by omega
  have hp:=Bv (es:=es) rfl x v
  have m1:(es.length+1 - i).min (es.length - i)=es.length - i:=yn (by omega)
  have m2:Nat.min 1 (es.length+1 - i)=1:=o8 (by omega)
  have L:(0:Int)<=(es.length:Int)+1:=by omega
  have Q:(0:Int)<=(i:Int)+1:=by omega
  have S:(i:Int)<=(es.length:Int)+1:=by omega
  have d4:i+1<=es.length:=by omega
  have d5:i+(es.length - i)<=es.length:=by omega
  have d6:i<=min (i+1) es.length+(es.length - i+(es.length - (i+1+(es.length - i)))):=by omega
  simp only[om]at hp
  simp[ca, *,zS,E2]
  refine⟨by omega,?_⟩
  have F:(es.drop i).take (es.length - i)=es.drop i:=ej (by simp)
  have C:es.drop (i+1+(es.length - i))=[]:=ot (by omega)
  have J : ∀l,(es.take (i+1)++l).take i=es.take i:=λl=>by
   rw[wq (by rw[ik];omega),List.take_take,o8 (by omega)]
  rw[F,C,J,og]
  rfl
 ·have N:(c:Int)<(es.length:Int)+1:=by omega
  have hg:=Bw (es:=es) rfl x v (.agg [aI 0,bt])
  have f:=yc (P:=env.P) (t:=91) (t':=3) (by kernel_rfl) (by kernel_rfl) (by kernel_rfl) (H:=H) (r:=⟨r.d+1,40,H.gen (r.d+1) 40,0⟩) (q:=r) (b:=⟨2,es,true,false⟩) D (by kernel_rfl) rfl 0 i c (es.length+1 - i) (by simp;omega) (by omega) (by simp[aO];omega) (by omega) (by rw[show mQ env.P 91=32 from by kernel_rfl];simp only[aO];omega)
  rw[show(((es.length+1 - i:Nat)):Int)=(es.length:Int)+1 - i from by omega,show i+(es.length+1 - i)=es.length+1 from by omega,show jg env.P 91=2 from by kernel_rfl,show iH env.P 91 = .agg [aI 0,bt] from by kernel_rfl]at f
  have d0:i<=c:=by omega
  unfold jb at h
  obtain⟨X,a⟩ : ∃X:Ref,X=⟨r.d+1,40,H.gen (r.d+1) 40,0⟩:=⟨_,rfl⟩
  have Y:X≠r:=by rw[a];intro e;rw[e,D]at h;cases h
  have T:X≠p:=by rw[a];intro e;rw[e,h2]at h;cases h
  have x3:r≠X:=λe=>Y e.symm
  have x4:p≠X:=λe=>T e.symm
  unfold jb
  simp only[<-a]at f h ⊢
  have m2:Nat.min 1 (es.length+1 - i)=1:=o8 (by omega)
  have m3:(es.length - i).min (es.length+1 - (i+1))=es.length - i:=o8 (by omega)
  have m4:(es.length - i).min (es.length - i)=es.length - i:=Nat.min_self _
  have L:(0:Int)<=(es.length:Int)+1:=by omega
  have Q:(0:Int)<=(i:Int)+1:=by omega
  have S:(i:Int)<=(es.length:Int)+1:=by omega
  have d5:(i:Int)+1<=(es.length:Int)+1:=by omega
  have d6:i<=es.length:=by omega
  have d7:i<=i+(es.length+1 - i):=by omega
  have d8:(i:Int)<=es.length:=by omega
  simp(maxSteps:=2000000) [sF,sH,pv,pw,pD,m2,m3,m4,D,h2,h,f,Y,T,x3,x4,o,c1,c2,N,w1,w2,w3,hc,x,d0,L,Q,S,d5,d6,d7,d8,zS,<-a]
  have F:(es.drop i).take (es.length - i)=es.drop i:=ej (by simp)
  obtain⟨R,O⟩ : ∃R,R=List.drop (i+1) (List.take i es++List.replicate (es.length+1 - i) (AV.agg [aI 0,bt])):=⟨_,rfl⟩
  have Kr:R.length=es.length - i:=by rw[O];simp;omega
  have q0:(es.take i).length=i:=by rw[ik];omega
  have C:List.drop (i+1+(es.length - i)) (es.take i++v :: R)=[]:=ot (by simp;omega)
  have J:List.take (i+1) (es.take i++v :: R)=es.take i++[v]:=by
   rw[show es.take i++v :: R=(es.take i++[v])++R from by simp,wq (by simp;omega),ej (by simp;omega)]
  rw[<-O,F,C,J,og]
  simp[ck]
theorem Fb(r j:Ref)(n:Nat)(i:Int)(k:Option Nat)(b bv:ax)(v:AV)(z by' c:Nat)(H:aa)(f:Av Try.prog 91 H r n i j b bv v z by')(o:n<=c)(p:H.get (jb 40 H r)=none)(q:r.g<H.gen r.d r.t) :
 ∃e a,dC Try.prog (.fn 101) [.aD r 0 n (some c),.v (.int .i64 i),.aD j 0 1 k] H e a /\
  (
   (e = .aD r 0 (n+1) (some c)/\a=H.put r (some { b with es:=ck b.es i.toNat v})) \/
   (e = .aD (jb 40 H r) 0 (n+1) none/\a=(jb 40 H r,some { b with es:=ck b.es i.toNat v}) :: H)):=by
 obtain⟨e,a,h,l⟩:=run r j n i k b bv v z by' c H f o p
 obtain⟨m,hm⟩:=kq.1 h
 exact⟨e,a,mF F9 (yY F9 m) (hm m (a7 _)),l⟩
theorem uH(args:List AV)(H:aa)(y:AV)(H':aa)(h:jc Try.prog 91 40 args H=some (y,H')):dC Try.prog (.fn 101) args H y H':=
 zm ⟨Try.f101,by kernel_rfl,by kernel_rfl,by kernel_rfl⟩ (λr e n i a b bv v z by' c d f g j=>Fb r e n i a b bv v z by' c H d f g j) h
end Go.Proofs.Ytjampffmlnplcaa.ins
namespace Go.Proofs.Ytjampffmlnplcaa
open Go.Ab Go.ChangeShapes Go.WideShapes Go.RowKit
section
variable{H:Type}
theorem DS(d:DataW H):1<=Rows.uptoBulk d:=by
 cases d with
 | lit l=>cases l<;>simp[Rows.uptoBulk]
 | nil=>simp[Rows.uptoBulk]
 | ptr d=>simp[Rows.uptoBulk]
 | slice a b=>simp[Rows.uptoBulk]
 | agg a=>simp[Rows.uptoBulk]
 | iface a d=>simp[Rows.uptoBulk]
 | map e=>simp[Rows.uptoBulk]
 | held h=>simp[Rows.uptoBulk]
theorem ya(ds:List (DataW H)):ds.length<=Rows.uptoBulkAll ds:=by
 induction ds with
 | nil=>simp
 | cons d ds a=>
  have:=DS d
  simp only[Rows.uptoBulkAll,kC]
  omega
theorem nC{d:DataW H}{ds:List (DataW H)}(h:d∈ds):Rows.uptoBulk d<=Rows.uptoBulkAll ds:=by
 induction ds with
 | nil=>cases h
 | cons e ds a=>
  simp only[Rows.uptoBulkAll]
  rcases dg.1 h with rfl | h
  ·omega
  ·have:=a h;omega
theorem zI(es a:List (DataW H)):es.length<=Rows.uptoBulk (.slice es a) /\∀d∈es,Rows.uptoBulk d<=Rows.uptoBulk (.slice es a):=by
 have e:Rows.uptoBulk (.slice es a)=Rows.uptoBulkAll es+Rows.uptoBulkAll a+1:=by simp[Rows.uptoBulk]
 rw[e]
 refine⟨by have:=ya es;omega,λd b=>by have:=nC b;omega⟩
theorem DT(ps:List (DataW H)) : ∀d∈ps,Rows.uptoBulk d<=Rows.uptoBulk (.agg ps):=by
 have e:Rows.uptoBulk (.agg ps)=Rows.uptoBulkAll ps+1:=by simp[Rows.uptoBulk]
 rw[e]
 exact λd a=>by have:=nC a;omega
theorem zH{ds a:List (DataW H)}(h:Rows.uptoSmall H (ds++a)=true) : ∀d∈ds,Rows.uptoBulk d<=1048576:=by
 intro d c
 have b:Rows.uptoBulkAll (ds++a)<=1048576:=of_decide_eq_true h
 exact ld (nC (rH _ c)) b
end
end Go.Proofs.Ytjampffmlnplcaa
namespace Go.Ab
def F2(R:AV->AV->Prop):List AV->List AV->Prop
 | [],[]=>True
 | x :: xs,y :: a=>R x y/\F2 R xs a
 | _,_=>False
theorem F2.len{R:AV->AV->Prop} : ∀ {a b:List AV},F2 R a b->a.length=b.length
 | [],[],_=>rfl
 | _ :: a,_ :: b,h=>by simp only[kC];rw[F2.len h.2]
 | [],_ :: _,h=>h.elim
 | _ :: _,[],h=>h.elim
theorem F2.mono{R c:AV->AV->Prop} : ∀ {a b:List AV},(∀x∈a,∀y,R x y->c x y)->F2 R a b->F2 c a b
 | [],[],_,_=>trivial
 | x :: a,y :: b,d,h=>⟨d x (by simp) y h.1,F2.mono (λx e=>d x (by simp[e])) h.2⟩
 | [],_ :: _,_,h=>h.elim
 | _ :: _,[],_,h=>h.elim
theorem F2.mapM{R:AV->AV->Prop}{f:AV->Option AV}{h:AV->AV}(d : ∀x y,R x y->f x=some (h y)) : ∀ {a b:List AV},F2 R a b->a.mapM f=some (b.map h)
 | [],[],_=>rfl
 | x :: a,y :: b,c=>by rw[jQ,d x y c.1,F2.mapM d c.2];rfl
 | [],_ :: _,h=>h.elim
 | _ :: _,[],h=>h.elim
theorem F2.app{R:AV->AV->Prop} : ∀ {c d b a:List AV},F2 R c d->F2 R b a->F2 R (c++b) (d++a)
 | [],[],_,_,_,h=>h
 | _ :: c,_ :: d,_,_,h,e=>⟨h.1,F2.app h.2 e⟩
 | [],_ :: _,_,_,h,_=>h.elim
 | _ :: _,[],_,_,h,_=>h.elim
theorem F2.split{R:AV->AV->Prop} : ∀ {A':List AV} {a B':List AV},F2 R a (A'++B') ->∃A B,a=A++B/\F2 R A A'/\F2 R B B'
 | [],a,B',h=>⟨[],a,rfl,trivial,h⟩
 | b :: A',[],B',h=>h.elim
 | b :: A',x :: a,B',h=>by
  obtain⟨A,B,c,d,e⟩:=F2.split (A':=A') h.2
  exact⟨x :: A,B,by rw[c];rfl,⟨h.1,d⟩,e⟩
theorem F2.at{R:AV->AV->Prop} : ∀ {a b:List AV},F2 R a b ->∀ {i:Nat} {y:AV},b[i]?=some y ->∃x,a[i]?=some x/\R x y
 | [],[],_,i,y,h=>by simp at h
 | x :: a,y :: b,c,0,d,h=>by cases h;exact⟨x,rfl,c.1⟩
 | x :: a,y :: b,c,i+1,d,h=>F2.at c.2 h
 | [],_ :: _,h,_,_,_=>h.elim
 | _ :: _,[],h,_,_,_=>h.elim
def nn:AV->Bool
 | .v _ | .cE .. => true
 | _=>false
def DC(g:bD)(x y:AV):Prop:=(x=y/\nn y=true) \/∃r z l c,x = .aD r 0 l.length c/\y = .fsl z l c/\g r=some ⟨z,l,true,false⟩/\z≠0
def DE(g:bD)(x y:AV):Prop :=∃a b,x = .agg a/\y = .agg b/\F2 (DC g) a b
def eH:AV->List Ref
 | .aD r _ _ _=>[r]
 | _=>[]
def dE:AV->List Ref
 | .agg xs=>xs.flatMap eH
 | _=>[]
def Ag:AV->AV
 | .fsl z l c => .cE z l c
 | x=>x
def sd:AV->AV
 | .agg a => .agg (a.map Ag)
 | x=>x
theorem DC.view{g:bD}{x y:AV}(h:DC g x y)(n:Nat):view g (n+1) x=some (Ag y):=by
 rcases h with ⟨rfl,h⟩ | ⟨r,z,l,c,rfl,rfl,a,_⟩
 ·cases x<;>first | rfl | cases h
 ·simp[Ab.view,a,Ag]
theorem DC.export{g:bD}{x y:AV}(h:DC g x y)(n:Nat):aG g (n+1) x=some y:=by
 rcases h with ⟨rfl,h⟩ | ⟨r,z,l,c,rfl,rfl,a,_⟩
 ·cases x<;>first | rfl | cases h
 ·simp[aG,a]
theorem DC.refs{g:bD}{x y:AV}(h:DC g x y)(n:Nat):ab g (n+1) x=eH x:=by
 rcases h with ⟨rfl,h⟩ | ⟨r,z,l,c,rfl,rfl,a,_⟩
 ·cases x<;>first | rfl | cases h
 ·rfl
theorem DC.bm{g a:bD}{x y:AV}(h:DC g x y)(d : ∀q∈eH x,∀b,g q=some b->a q=some b):DC a x y:=by
 rcases h with h | ⟨r,z,l,c,rfl,rfl,e,f⟩
 ·exact .inl h
 ·exact .inr ⟨r,z,l,c,rfl,rfl,d r (by simp[eH]) _ e,f⟩
theorem F2.refs{g:bD}{R:AV->AV->Prop}{f h:AV->List Ref}(c : ∀x y,R x y->f x=h x) : ∀ {a d:List AV},F2 R a d->a.flatMap f=a.flatMap h
 | [],[],_=>rfl
 | x :: a,y :: d,b=>by rw[gz,gz,c x y b.1,F2.refs (g:=g) c b.2]
 | [],_ :: _,h=>h.elim
 | _ :: _,[],h=>h.elim
theorem DE.view{g:bD}{x y:AV}(h:DE g x y)(n:Nat):view g (n+2) x=some (sd y):=by
 obtain⟨xs,b,rfl,rfl,h⟩:=h
 show(xs.mapM (Ab.view g (n+1))).map AV.agg=_
 rw[F2.mapM (R:=DC g) (f:=Ab.view g (n+1)) (h:=Ag) (λx y a=>DC.view a n) h]
 rfl
theorem DE.export{g:bD}{x y:AV}(h:DE g x y)(n:Nat):aG g (n+2) x=some y:=by
 obtain⟨xs,b,rfl,rfl,h⟩:=h
 show(xs.mapM (aG g (n+1))).map AV.agg=_
 rw[F2.mapM (R:=DC g) (f:=aG g (n+1)) (h:=id) (λx y a=>DC.export a n) h]
 simp
theorem DE.refs{g:bD}{x y:AV}(h:DE g x y)(n:Nat):ab g (n+2) x=dE x:=by
 obtain⟨xs,b,rfl,rfl,h⟩:=h
 simp only[ab,dE]
 exact F2.refs (g:=g) (R:=DC g) (f:=ab g (n+1)) (h:=eH) (λx y a=>DC.refs a n) h
theorem DE.bm{g a:bD}{x y:AV}(h:DE g x y)(c : ∀q∈dE x,∀b,g q=some b->a q=some b):DE a x y:=by
 obtain⟨xs,j,rfl,rfl,h⟩:=h
 exact⟨xs,j,rfl,rfl,F2.mono (λx d y e=>DC.bm e λq i b f=>c q (by simp only[dE,dt];exact⟨x,d,i⟩) b f) h⟩
theorem DC.live{g:bD}{x y:AV}(h:DC g x y) : ∀q∈eH x,∃b,g q=some b:=by
 rcases h with ⟨rfl,h⟩ | ⟨r,z,l,c,rfl,rfl,d,e⟩
 ·intro q a
  cases x<;>first | (simp[eH]at a;done) | cases h
 ·intro q a
  simp[eH]at a
  subst a
  exact⟨_,d⟩
theorem F2.live{g:bD}{R:AV->AV->Prop}{f:AV->List Ref}(e : ∀x y,R x y ->∀q∈f x,∃b,g q=some b) : ∀ {c i:List AV},F2 R c i ->∀q∈c.flatMap f,∃b,g q=some b
 | [],[],_,q,a=>by simp at a
 | x :: c,y :: i,d,q,a=>by
  rw[gz,fc]at a
  rcases a with a | a
  ·exact e x y d.1 q a
  ·exact F2.live e d.2 q a
 | [],_ :: _,h,_,_=>h.elim
 | _ :: _,[],h,_,_=>h.elim
theorem DE.live{g:bD}{x y:AV}(h:DE g x y) : ∀q∈dE x,∃b,g q=some b:=by
 obtain⟨xs,c,rfl,rfl,h⟩:=h
 exact F2.live (λx y a=>DC.live a) h
def j5(z:Nat)(H:aa)(s:AV)(es':List AV)(a:List Ref):Prop:=
 (s = .v (.slice none 0 0)/\es'=[]/\a=[])\/(∃r,s = .aD r 0 0 (some 0)/\es'=[]/\a=[r]/\H.get r=some ⟨z,[],true,false⟩) \/
 ∃r es,s = .dsl r 0 es.length none/\es≠[]/\H.get r=some ⟨z,es,false,false⟩/\F2 (DE H.get) es es'/\a=r :: es.flatMap dE/\a.Nodup
def tL(z:Nat)(es':List AV)(y:AV):Prop:=(y = .v (.slice none 0 0)/\es'=[])\/(y = .fsl z [] (some 0)/\es'=[])\/(y = .nsl z es' none/\es'≠[])
def oS(z:Nat)(s:AV)(es':List AV):AV:=match s with
 | .aD _ _ _ c => .fsl z [] c
 | .dsl _ _ _ c => .nsl z es' c
 | s=>s
def pk:AV->AV
 | .fsl z l c => .cE z l c
 | .nsl z es c => .cE z (es.map sd) c
 | x=>x
theorem j5.bm{z:Nat}{H H':aa}{s:AV}{es':List AV}{f:List Ref}(h:j5 z H s es' f)(a : ∀q∈f,∀b,H.get q=some b->H'.get q=some b):j5 z H' s es' f:=by
 rcases h with h | ⟨r,c,d,rfl,e⟩ | ⟨r,es,c,d,m,e,rfl,l⟩
 ·exact .inl h
 ·exact .inr (.inl ⟨r,c,d,rfl,a r (by simp) _ e⟩)
 ·exact .inr (.inr ⟨r,es,c,d,a r (by simp) _ m,F2.mono (λx g y i=>DE.bm i λq k b j=>a q (by simp only[dg,dt];exact .inr ⟨x,g,k⟩) b j) e,rfl,l⟩)
theorem j5.live{z:Nat}{H:aa}{s:AV}{es':List AV}{d:List Ref}(h:j5 z H s es' d) : ∀q∈d,∃b,H.get q=some b:=by
 rcases h with ⟨_,_,rfl⟩ | ⟨r,e,g,rfl,c⟩ | ⟨r,es,e,g,i,c,rfl,j⟩
 ·intro q a;cases a
 ·intro q a
  simp at a
  subst a
  exact⟨_,c⟩
 ·intro q a
  rcases dg.1 a with rfl | a
  ·exact⟨_,i⟩
  ·exact F2.live (λx y f=>DE.live f) c q a
theorem j5.nodup{z:Nat}{H:aa}{s:AV}{es':List AV}{a:List Ref}(h:j5 z H s es' a):a.Nodup:=by
 rcases h with ⟨_,_,rfl⟩ | ⟨r,b,c,rfl,e⟩ | ⟨r,es,b,c,f,e,rfl,d⟩
 ·simp
 ·simp
 ·exact d
theorem j5.out{z:Nat}{H:aa}{s:AV}{es':List AV}{k:List Ref}(h:j5 z H s es' k)(n:Nat) :
 aG H.get (n+3) s=some (oS z s es')/\view H.get (n+3) s=some (pk (oS z s es'))/\ab H.get (n+3) s=k/\tL z es' (oS z s es'):=by
 rcases h with ⟨rfl,rfl,rfl⟩ | ⟨r,rfl,rfl,rfl,a⟩ | ⟨r,es,rfl,p,j,a,rfl,t⟩
 ·exact⟨rfl,rfl,rfl,.inl ⟨rfl,rfl⟩⟩
 ·refine⟨?_,?_,rfl,.inr (.inl ⟨rfl,rfl⟩)⟩
  ·simp[aG,a,oS]
  ·simp[view,a,oS,pk]
 ·have d:=a.len
  have i:es'≠[]:=by
   intro e
   rw[e]at d
   exact p (tX.1 d)
  have o:=F2.mapM (R:=DE H.get) (f:=aG H.get (n+2)) (h:=id) (λx y c=>DE.export c n) a
  have q:=F2.mapM (R:=DE H.get) (f:=Ab.view H.get (n+2)) (h:=sd) (λx y c=>DE.view c n) a
  have m:=F2.refs (g:=H.get) (R:=DE H.get) (f:=ab H.get (n+2)) (h:=dE) (λx y c=>DE.refs c n) a
  refine⟨?_,?_,?_,.inr (.inr ⟨rfl,i⟩)⟩
  ·show(match H.get r with
    | some b=>if b.arr=false/\es.length=b.es.length then (if b.cS then (b.es.mapM (view H.get (n+2))).map λes=>AV.cE b.esz es none else (b.es.mapM (aG H.get (n+2))).map λes=>AV.nsl b.esz es none) else none
    | none=>none)=_
   rw[j]
   simp only[o]
   simp[oS]
  ·show(match H.get r with
    | some b=>if b.arr=false/\0+es.length<=b.es.length then (b.es.mapM (view H.get (n+2))).map λ(l:List AV)=>AV.cE b.esz ((l.drop 0).take es.length) none else none
    | none=>none)=_
   rw[j]
   simp only[q]
   simp[oS,pk]
   rw[d,show es'.length=(es'.map sd).length from(pT _).symm,uX]
  ·show(r :: (match H.get r with | some b=>b.es.flatMap (ab H.get (n+2)) | none=>[]))=_
   rw[j]
   simp only[m]
theorem j5.len{z:Nat}{H:aa}{s:AV}{es':List AV}{b:List Ref}(h:j5 z H s es' b):kS s=some es'.length:=by
 rcases h with ⟨rfl,rfl,rfl⟩ | ⟨r,rfl,rfl,rfl,a⟩ | ⟨r,es,rfl,c,e,a,rfl,d⟩
 ·rfl
 ·rfl
 ·simp[kS,a.len]
def At(g:bD)(r:Ref)(k:Nat)(a:List ax):Prop :=∀i b,a[i]?=some b->g { r with k:=k+i}=some b
theorem D0{g:bD}{r:Ref}{k:Nat}{a d:List ax}(h:At g r k (a++d)):At g r k a:=λi b c=>h i b (by rw[dY (bL.1 c).1];exact c)
theorem DZ{g:bD}{r:Ref}{k:Nat}{a c:List ax}(h:At g r k (a++c)):At g r (k+a.length) c:=λi b d=>by
 have:=h (a.length+i) b (by rw[fS (by omega),show a.length+i - a.length=i by omega];exact d)
 rw[rz]
 exact this
def jw(r:Ref)(k n:Nat):List Ref:=(List.range' k n).map λk => { r with k:=k}
theorem ui(r:Ref)(k m n:Nat):jw r k m++jw r (k+m) n=jw r k (m+n):=by
 unfold jw
 rw[<-uV]
 congr 1
 have:=List.range'_append (s:=k) (m:=m) (n:=n) (step:=1)
 simpa using this
theorem wZ(r:Ref)(k n:Nat):(jw r k n).Nodup:=by
 unfold jw
 rw[List.nodup_iff_pairwise_ne,List.pairwise_map]
 refine List.Pairwise.imp ?_ (List.nodup_iff_pairwise_ne.1 (List.nodup_range' (s:=k) (n:=n)))
 intro a b h e
 exact h (congrArg Ref.k e)
theorem uC{r q:Ref}{k n:Nat}(h:q∈jw r k n):q.d=r.d/\q.t=r.t/\q.g=r.g/\k<=q.k/\q.k<k+n:=by
 unfold jw at h
 obtain⟨i,a,rfl⟩:=gy.1 h
 have:=List.mem_range'_1.1 a
 exact⟨rfl,rfl,rfl,this.1,this.2⟩
def Kg(R:bD->AV->AV->Prop)(rf:AV->List Ref)(r:Ref)(n:Nat)(y:AV):Prop :=∀a,∃x add,ad r n y a=(x,a++add)/\(∀g,At g r a.length add->R g x y)/\rf x=jw r a.length add.length
theorem xA{R:bD->AV->AV->Prop}{rf:AV->List Ref}{r:Ref}{n:Nat} : ∀(d:List AV),(∀y∈d,Kg R rf r n y) ->∀(a:List AV)(b:List ax),
 ∃e add,d.foldl (λ(p:List AV × List ax) c=>let (y,b):=ad r n c p.2;(p.1++[y],b)) (a,b)=(a++e,b++add)/\(∀g,At g r b.length add->F2 (R g) e d)/\e.flatMap rf=jw r b.length add.length:=by
 intro d
 induction d with
 | nil=>intro _ a b;exact⟨[],[],by simp,λg _=>trivial,by simp[jw]⟩
 | cons y d j=>
  intro h a b
  obtain⟨x,i,k,o,m⟩:=h y (by simp) b
  obtain⟨e,q,f1,f2,f3⟩:=j (λy l=>h y (by simp[l])) (a++[x]) (b++i)
  refine⟨x :: e,i++q,?_,λg f=>⟨o g (D0 f),f2 g ?_⟩,?_⟩
  ·simp only[lg,k,f1]
   simp
  ·have:=DZ f
   rw[iU]
   exact this
  ·rw[gz,m,f3,iU,ui,iU]
def Hj:AV->Bool
 | .v _ | .cE .. => true
 | .fsl z _ _=>z != 0
 | _=>false
def Bz:AV->Bool
 | .agg a=>a.all Hj
 | _=>false
theorem Fg{y:AV}(h:Hj y=true)(r:Ref)(n:Nat):Kg DC eH r (n+1) y:=by
 intro d
 cases y<;>first | cases h | skip
 ·exact⟨_,[],by simp[ad],λg _ => .inl ⟨rfl,rfl⟩,by simp[jw,eH]⟩
 ·exact⟨_,[],by simp[ad],λg _ => .inl ⟨rfl,rfl⟩,by simp[jw,eH]⟩
 ·rename_i z l c
  have a:z≠0:=by simpa [Hj] using h
  refine⟨.aD { r with k:=d.length} 0 l.length c,[⟨z,l,true,false⟩],by simp[ad,a],λg b => .inr ⟨_,z,l,c,rfl,rfl,?_,a⟩,by simp[jw,eH]⟩
  have:=b 0 _ rfl
  simpa using this
theorem Ff{y:AV}(h:Bz y=true)(r:Ref)(n:Nat):Kg DE dE r (n+2) y:=by
 intro a
 cases y<;>first | cases h | skip
 rename_i b
 obtain⟨xs,add,i,j,k⟩:=xA (R:=DC) (rf:=eH) (r:=r) (n:=n+1) b (λy f=>Fg (dh.1 h y f) r n) [] a
 refine⟨.agg xs,add,?_,λg d=>⟨xs,b,rfl,rfl,j g d⟩,k⟩
 have e:ad r (n+2) (.agg b) a=(λp:List AV × List ax=>(AV.agg p.1,p.2)) (b.foldl (λ(p:List AV × List ax) c=>let (y,a):=ad r (n+1) c p.2;(p.1++[y],a)) ([],a)):=rfl
 rw[e,i]
 rfl
theorem tL.imp{z:Nat}{es':List AV}{y:AV}(x:z≠0)(h:tL z es' y)(o : ∀e∈es',Bz e=true)(r:Ref)(n:Nat)(a:List ax) :
 ∃s add,ad r (n+3) y a=(s,a++add)/\(∀H:aa,At H.get r a.length add ->∃i,j5 z H s es' i/\(∀q∈i,q∈jw r a.length add.length)/\oS z s es'=y):=by
 rcases h with ⟨rfl,rfl⟩ | ⟨rfl,rfl⟩ | ⟨rfl,g⟩
 ·exact⟨_,[],by simp[ad],λH _=>⟨[],.inl ⟨rfl,rfl,rfl⟩,(λq b=>by cases b),rfl⟩⟩
 ·refine⟨.aD { r with k:=a.length} 0 0 (some 0),[⟨z,[],true,false⟩],by simp[ad,x],λH d=>⟨[{ r with k:=a.length}],.inr (.inl ⟨_,rfl,rfl,rfl,by simpa using d 0 _ rfl⟩),λq b=>?_,rfl⟩⟩
  simpa [jw] using b
 ·obtain⟨xs,add,m,t,v⟩:=xA (R:=DE) (rf:=dE) (r:=r) (n:=n+2) es' (λy w=>Ff (o y w) r n) [] a
  refine⟨.dsl { r with k:=a.length+add.length} 0 es'.length none,add++[⟨z,xs,false,false⟩],?_,λH d=>?_⟩
  ·have e:ad r (n+3) (.nsl z es' none) a=(λp:List AV × List ax=>(AV.dsl { r with k:=p.2.length} 0 es'.length none,p.2++[⟨z,p.1,false,false⟩])) (es'.foldl (λ(p:List AV × List ax) c=>let (y,a):=ad r (n+2) c p.2;(p.1++[y],a)) ([],a)):=rfl
   rw[e,m]
   simp
  ·have j:=t H.get (D0 d)
   have f:=j.len
   have u:=DZ d 0 _ rfl
   refine⟨{ r with k:=a.length+add.length} :: jw r a.length add.length,.inr (.inr ⟨_,xs,by rw[f],?_,by simpa using u,j,by rw[v],?_⟩),λq b=>?_,rfl⟩
   ·intro e
    rw[e]at f
    exact g (tX.1 f.symm)
   ·refine nc.2 ⟨λl=>?_,wZ _ _ _⟩
    have:=(uC l).2.2.2.2
    simp only at this
    omega
   ·rw[iU,u6,<-ui]
    rcases dg.1 b with rfl | b
    ·simp[jw]
    ·simp[b]
def eG(z:Nat)(H:aa)(r:Ref)(es':List AV)(a:List Ref):Prop :=∃es,H.get r=some ⟨z,es,false,false⟩/\F2 (DE H.get) es es'/\a=r :: es.flatMap dE/\a.Nodup
theorem eG.row{z:Nat}{H:aa}{r:Ref}{es':List AV}{d:List Ref}(h:eG z H r es' d)(a:es'≠[]):j5 z H (.dsl r 0 es'.length none) es' d:=by
 obtain⟨es,f,b,g,i⟩:=h
 have c:=b.len
 exact .inr (.inr ⟨r,es,by rw[c],λe=>a (tX.1 (by rw[<-c,e];rfl)),f,b,g,i⟩)
theorem eG.bm{z:Nat}{H H':aa}{r:Ref}{es':List AV}{a:List Ref}(h:eG z H r es' a)(c : ∀q∈a,∀b,H.get q=some b->H'.get q=some b):eG z H' r es' a:=by
 obtain⟨es,j,k,rfl,i⟩:=h
 exact⟨es,c r (by simp) _ j,F2.mono (λx d y e=>DE.bm e λq g b f=>c q (by simp only[dg,dt];exact .inr ⟨x,d,g⟩) b f) k,rfl,i⟩
theorem eG.live{z:Nat}{H:aa}{r:Ref}{es':List AV}{c:List Ref}(h:eG z H r es' c) : ∀q∈c,∃b,H.get q=some b:=by
 obtain⟨es,e,f,rfl,g⟩:=h
 intro q a
 rcases dg.1 a with rfl | a
 ·exact⟨_,e⟩
 ·exact F2.live (λx y d=>DE.live d) f q a
theorem sx{g:bD}{a:List AV}(h:a.all nn=true):DE g (.agg a) (.agg a):=by
 refine⟨a,a,rfl,rfl,?_⟩
 induction a with
 | nil=>trivial
 | cons y a b=>
  simp only[pS,bR]at h
  exact⟨.inl ⟨rfl,h.1⟩,b h.2⟩
theorem p4{a:List AV}(h:a.all nn=true):dE (.agg a)=[]:=by
 show a.flatMap eH=[]
 induction a with
 | nil=>rfl
 | cons y a b=>
  simp only[pS,bR]at h
  rw[gz,b h.2]
  cases y<;>first | rfl | (exact absurd h.1 (by simp[nn]))
theorem CQ{g:bD}{es:List AV}(h : ∀e∈es,∃a,e = .agg a/\a.all nn=true):F2 (DE g) es es/\es.flatMap dE=[]:=by
 induction es with
 | nil=>exact⟨trivial,rfl⟩
 | cons e es i=>
  obtain⟨a,rfl,b⟩:=h e (by simp)
  obtain⟨c,f⟩:=i λe d=>h e (by simp[d])
  exact⟨⟨sx b,c⟩,by rw[gz,f,p4 b];rfl⟩
theorem pj{b:Type}{l:List b}{i:Nat}{a:b}(h:l[i]?=some a):l=l.take i++a :: l.drop (i+1):=by
 obtain⟨c,rfl⟩:=bL.1 h
 rw[<-yF c,u5]
theorem wx{A B a:List AV}{i j:Nat}{v:AV}(b:A.length=i)(c:j<a.length):eA (A ++ .agg a :: B) i j [v]=some (A ++ .agg (patch a j [v]) :: B):=by
 subst b
 unfold eA
 rw[fS (a7 _),kf]
 simp only[u9,tk,u6]
 rw[if_pos (by omega)]
 simp only[tV _ _ (a7 _),kf,tS,Option.map_some]
theorem uq{a b:List AV}{x v:AV}{j:Nat}(h:a.length=j):patch (a++x :: b) j [v]=a++v :: b:=by
 subst h
 simp[patch]
theorem eG.at{z:Nat}{H:aa}{r:Ref}{es':List AV}{d:List Ref}(h:eG z H r es' d){i:Nat}{f:List AV}(k:es'[i]?=some (.agg f)) :
 ∃es a,H.get r=some ⟨z,es,false,false⟩/\es.length=es'.length/\es[i]?=some (.agg a)/\F2 (DC H.get) a f /\∀q∈a.flatMap eH,q∈d:=by
 obtain⟨es,j,c,l,o⟩:=h
 obtain⟨x,b,a,g,rfl,e,m⟩:=c.at k
 cases e
 refine⟨es,a,j,c.len,b,m,λq n=>?_⟩
 rw[l]
 simp only[dg,dt]
 exact .inr ⟨_,da b,by simpa [dE] using n⟩
theorem eG.set{z:Nat}{H:aa}{r:Ref}{es':List AV}{O:List Ref}(h:eG z H r es' O){i j:Nat}{v:List AV}(Y:es'[i]?=some (.agg v))(hj:j<v.length){q:Ref}(W:H.get q=none)(w:Nat)(hz:w≠0)(l:List AV)(c:Option Nat) :
 ∃es J,H.get r=some ⟨z,es,false,false⟩/\es.length=es'.length/\eA es i j [.aD q 0 l.length c]=some J /\
  ∀H':aa,H'.get r=some ⟨z,J,false,false⟩->H'.get q=some ⟨w,l,true,false⟩->(∀p b,p≠r->H.get p=some b->H'.get p=some b) ->
   ∃F,eG z H' r (es'.set i (.agg (patch v j [.fsl w l c]))) F /\∀p∈F,p∈O\/p=q:=by
 have u:=h.live
 obtain⟨es,h1,h2,Q,G⟩:=h
 have T:=pj Y
 have Kn:i<es'.length:=(bL.1 Y).1
 have m:(es'.take i).length=i:=by rw[ik];omega
 generalize es'.take i=A' at *
 generalize es'.drop (i+1)=B' at *
 subst T
 obtain⟨A,C,rfl,hA,X⟩:=F2.split h2
 match C,X with
 | x :: B,X=>
 obtain⟨⟨xs,x6,rfl,e,hX⟩,hB⟩:=X
 cases e
 have R:A.length=i:=by rw[hA.len,m]
 obtain⟨y,hy⟩ : ∃y,v[j]?=some y:=⟨_,bG hj⟩
 have V:=pj hy
 have D:(v.take j).length=j:=by rw[ik];omega
 generalize v.take j=Y1 at *
 generalize v.drop (j+1)=Y2 at *
 subst V
 obtain⟨f,X3,rfl,K,t⟩:=F2.split hX
 match X3,t with
 | N :: g,t=>
 have E:f.length=j:=by rw[K.len,D]
 refine⟨_,_,h1,h2.len,wx R (by simp;omega),λH' Z g2 g3=>?_⟩
 rw[uq E]at Z
 have L:(A' ++ .agg (Y1++y :: Y2) :: B').set i (.agg (patch (Y1++y :: Y2) j [.fsl w l c]))=A' ++ .agg (Y1 ++ .fsl w l c :: Y2) :: B':=by
  rw[uq D,tV _ _ (by omega),m,kf,tS]
 rw[L]
 have d : ∀p,p∈A.flatMap dE\/p∈f.flatMap eH\/p∈g.flatMap eH\/p∈B.flatMap dE->p∈O/\p≠r:=by
  intro p hp
  have:p∈(A ++ .agg (f++N :: g) :: B).flatMap dE:=by
   simp only[rh,gz,fc,dE]
   rcases hp with hp | hp | hp | hp
   ·exact .inl hp
   ·exact .inr (.inl (.inl hp))
   ·exact .inr (.inl (.inr (.inr hp)))
   ·exact .inr (.inr hp)
  rw[Q]at G
  exact⟨by rw[Q];exact gv _ this,λe=>(nc.1 G).1 (e ▸ this)⟩
 have P : ∀p,p∈A.flatMap dE\/p∈f.flatMap eH\/p∈g.flatMap eH\/p∈B.flatMap dE ->∀b,H.get p=some b->H'.get p=some b:=λp hp b k=>g3 p b (d p hp).2 k
 have S:q≠r:=by
  intro e
  rw[e,h1]at W
  cases W
 refine⟨r :: (A ++ .agg (f ++ .aD q 0 l.length c :: g) :: B).flatMap dE,⟨_,Z,?_,rfl,?_⟩,?_⟩
 ·refine F2.app (F2.mono (λx n y o=>DE.bm o λp hp b k=>P p (.inl (dt.2 ⟨x,n,hp⟩)) b k) hA) ⟨⟨_,_,rfl,rfl,F2.app (F2.mono (λx n y o=>DC.bm o λp hp b k=>P p (.inr (.inl (dt.2 ⟨x,n,hp⟩))) b k) K) ⟨.inr ⟨q,w,l,c,rfl,rfl,g2,hz⟩,F2.mono (λx n y o=>DC.bm o λp hp b k=>P p (.inr (.inr (.inl (dt.2 ⟨x,n,hp⟩)))) b k) t.2⟩⟩,F2.mono (λx n y o=>DE.bm o λp hp b k=>P p (.inr (.inr (.inr (dt.2 ⟨x,n,hp⟩)))) b k) hB⟩
 ·rw[Q]at G
  have e1:(A ++ .agg (f++N :: g) :: B).flatMap dE=A.flatMap dE++(f.flatMap eH++(eH N++(g.flatMap eH++B.flatMap dE))):=by simp[dE,rh,gz]
  have U:(A ++ .agg (f ++ .aD q 0 l.length c :: g) :: B).flatMap dE=A.flatMap dE++(f.flatMap eH++(q :: (g.flatMap eH++B.flatMap dE))):=by simp[dE,rh,gz,eH]
  rw[e1]at G
  rw[U]
  have I:(r :: (A.flatMap dE++(f.flatMap eH++(g.flatMap eH++B.flatMap dE)))).Sublist (r :: (A.flatMap dE++(f.flatMap eH++(eH N++(g.flatMap eH++B.flatMap dE))))):=
   List.Sublist.cons_cons _ (List.Sublist.append (List.Sublist.refl _) (List.Sublist.append (List.Sublist.refl _) (List.sublist_append_right _ _)))
  have hn:=G.sublist I
  have s:(r :: (A.flatMap dE++(f.flatMap eH++(q :: (g.flatMap eH++B.flatMap dE))))).Perm (q :: (r :: (A.flatMap dE++(f.flatMap eH++(g.flatMap eH++B.flatMap dE))))):=by
   have:=yt (a:=q) (l₁:=r :: (A.flatMap dE++f.flatMap eH)) (l₂:=g.flatMap eH++B.flatMap dE)
   simpa [om] using this
  refine s.nodup_iff.2 (nc.2 ⟨λM=>?_,hn⟩)
  rcases dg.1 M with rfl | M
  ·exact S rfl
  ·have:q∈O:=(d q (by simp only[fc]at M;exact M)).1
   obtain⟨b,k⟩:=u q this
   rw[W]at k
   cases k
 ·intro p hp
  rcases dg.1 hp with rfl | hp
  ·exact .inl (by rw[Q];simp)
  ·have U:(A ++ .agg (f ++ .aD q 0 l.length c :: g) :: B).flatMap dE=A.flatMap dE++(f.flatMap eH++(q :: (g.flatMap eH++B.flatMap dE))):=by simp[dE,rh,gz,eH]
   rw[U]at hp
   simp only[fc,dg]at hp
   rcases hp with hp | hp | hp | hp | hp
   ·exact .inl (d p (.inl hp)).1
   ·exact .inl (d p (.inr (.inl hp))).1
   ·exact .inr hp
   ·exact .inl (d p (.inr (.inr (.inl hp)))).1
   ·exact .inl (d p (.inr (.inr (.inr hp)))).1
@[simp] theorem BY{P:Program}{t:TypeId}(h:la P t=true)(g:bD)(r:Ref)(o n:Nat)(c:Option Nat)(b:IntKind)(k:Int) :
 bj P g t (some (.dsl r o n c)) (some (.v (.int b k)))=Hk (jg P t) o n k r (g r):=by
 unfold la at h
 obtain⟨e,zz,a,d,m,p,f,l,i,j⟩:=eM h
 simp only[bj,cQ,kT,a,d]
 cases g r<;>rfl
@[simp] theorem Ia(r:Ref)(o n:Nat)(c:Option Nat):kS (.dsl r o n c)=some n:=id rfl
@[simp] theorem Io(r:Ref)(o n:Nat)(c:Option Nat):(AV.dsl r o n c).cells=[.dsl r o n c]:=id rfl
@[simp] theorem JN(r:Ref)(o n:Nat)(c:Option Nat):(AV.dsl r o n c).one=true:=id rfl
end Go.Ab
namespace Go.Proofs.Ytjampffmlnplcaa
open Go.Ab
def fns:List FuncId:=[14,54,55,56,58,60,61,62,63,64,65,66,67,68,69,70,71,99,100,101,102,104,105,106,107,108,109,110,111,133,134,135,138,154]
def bm:List FuncId:=[67,108]
def kp:List FuncId:=[101]
def qJ:List (FuncId × List AV × AV):=[]
noncomputable def env:Env:=k6 Try.prog fns bm kp (rX [(27,1,88888)]) (l9 []) (yP [(27,1,88888)]) qJ (λ_=>false) (λ_=>none) (λf args H=>if f=101 then jc Try.prog 91 40 args H else none)
@[simp] noncomputable def aH(h:aa)(n:Nat)(v:AV)(k:AV->Prop):Prop:=fB (jU env.P (aa.get h) n (some v)) k
@[simp] noncomputable def bE(n:Nat)(v:AV)(n2:Nat)(k:AV->Prop):Prop:=fB (du env.P n (some v) n2) k
@[simp] noncomputable def jN(h:aa)(n n2:Nat)(v:AV)(k:AV->aa->Prop):Prop:=ga (gx h (Ref.mk 0 n (aa.gen h 0 n) 0) (tz env.P (Ref.mk 0 n (aa.gen h 0 n) 0) n2 (some v))) k
@[simp] noncomputable def mz(n n2:Nat)(i:Int)(v:AV)(k:AV->Prop):Prop:=fB (cK env.P .add n (Operand.tmp n2) (Operand.const (Value.int IntKind.i64 i)) (some v) (some (AV.v (Value.int IntKind.i64 i)))) k
@[simp] noncomputable def lR(h:aa)(n n2:Nat)(k:AV->aa->Prop):Prop:=ga (gx h (Ref.mk 0 n (aa.gen h 0 n) 0) (mG env.P (Ref.mk 0 n (aa.gen h 0 n) 0) n2)) k
@[simp] noncomputable def na(b:Bool)(h:aa)(n n2:Nat)(a:List AV)(k:AV->aa->Prop):Prop:=ga (aL env b (aN env) (cB env 0) h (Ref.mk 0 n (aa.gen h 0 n) 0) (some (AV.fn (Fn.func n2) [] [])) a) k
@[simp] noncomputable def dD(h:aa)(n:Nat)(v a:AV)(k:AV->aa->Prop):Prop:=ga (eB env.P h n (some v) (some a)) k
@[simp] noncomputable def lQ(h:aa)(n n2:Nat)(v:AV)(k:AV->Prop):Prop:=fB (bS env.P false (aa.get h) (Ref.mk 0 n (aa.gen h 0 n) 0) .len #[n2] [v]) k
@[simp] noncomputable def iS(h:aa)(n:Nat)(v a:AV)(k:AV->Prop):Prop:=fB (bj env.P (aa.get h) n (some v) (some a)) k
@[simp] noncomputable def kn(v a:AV)(k:AV->Prop):Prop:=fB (oB (some v) (some a) (some (AV.v (Value.bool false)))) k
@[simp] noncomputable def cb(h:aa)(n:Nat)(v:AV):=jU env.P (aa.get h) n (some v)
@[simp] noncomputable def ij(v a:AV)(k:AV->Prop):Prop:=fB (oB (some v) (some (AV.v (Value.bool true))) (some a)) k
@[simp] noncomputable def o3(n n2:Nat)(i:Int)(v:AV):=cK env.P .geq n (Operand.tmp n2) (Operand.const (Value.int IntKind.i64 i)) (some v) (some (AV.v (Value.int IntKind.i64 i)))
@[simp] noncomputable def jO(n n2 b:Nat)(v a:AV)(k:AV->Prop):Prop:=fB (cK env.P .lss n (Operand.tmp n2) (Operand.tmp b) (some v) (some a)) k
@[simp] noncomputable def tO(n n2:Nat)(i:Int)(v:AV)(k:AV->Prop):Prop:=fB (cK env.P .lss n (Operand.tmp n2) (Operand.const (Value.int IntKind.i64 i)) (some v) (some (AV.v (Value.int IntKind.i64 i)))) k
@[simp] noncomputable def dX(n:Nat)(v:AV)(n2:Nat):=du env.P n (some v) n2
@[simp] noncomputable def mX(n n2 b:Nat)(v a:AV):=cK env.P .eql n (Operand.tmp n2) (Operand.tmp b) (some v) (some a)
@[simp] noncomputable def ob(h:aa)(n:Nat)(v a:AV)(k:AV->Prop):Prop:=fB (dN env.P (aa.get h) n (some v) (oi a) (some none) (some none)) k
@[simp] noncomputable def wj(n n2:Nat)(i:Int)(v:AV)(k:AV->Prop):Prop:=fB (cK env.P .neq n (Operand.tmp n2) (Operand.const (Value.int IntKind.i64 i)) (some v) (some (AV.v (Value.int IntKind.i64 i)))) k
@[simp] noncomputable def qi(n n2 b:Nat)(v a:AV)(k:AV->Prop):Prop:=fB (cK env.P .add n (Operand.tmp n2) (Operand.tmp b) (some v) (some a)) k
@[simp] noncomputable def fT(h:aa)(v:AV)(n:Nat)(k:AV->Prop):Prop:=fB (me env.P h v n) k
@[simp] noncomputable def z6(n n2:Nat)(i:Int)(v:AV):=cK env.P .neq n (Operand.tmp n2) (Operand.const (Value.int IntKind.i64 i)) (some v) (some (AV.v (Value.int IntKind.i64 i)))
@[simp] noncomputable def z4(n n2:Nat)(i:Int)(v:AV):=cK env.P .eql n (Operand.tmp n2) (Operand.const (Value.int IntKind.i64 i)) (some v) (some (AV.v (Value.int IntKind.i64 i)))
@[simp] noncomputable def iJ(v:AV)(n:Nat)(k:AV->Prop):Prop:=fB (jV (some v) n) k
@[simp] noncomputable def tN(h:aa)(n n2 a:Nat)(v:AV):=bI env.P (aa.get h) (Ref.mk 0 n (aa.gen h 0 n) 0) n2 a (some v)
@[simp] noncomputable def Ca(n n2:Nat)(i:Int)(v:AV)(k:AV->Prop):Prop:=fB (cK env.P .gtr n (Operand.tmp n2) (Operand.const (Value.int IntKind.i64 i)) (some v) (some (AV.v (Value.int IntKind.i64 i)))) k
@[simp] noncomputable def B9(n n2:Nat)(i:Int)(v:AV):=cK env.P .lss n (Operand.tmp n2) (Operand.const (Value.int IntKind.i64 i)) (some v) (some (AV.v (Value.int IntKind.i64 i)))
@[simp] noncomputable def z3(h:aa)(n n2 a:Nat)(v:AV)(k:AV->Prop):Prop:=fB (bS env.P false (aa.get h) (Ref.mk (n+1) n2 (aa.gen h (n+1) n2) 0) .len #[a] [v]) k
@[simp] noncomputable def wi(h:aa)(n n2 a b:Nat)(v:AV)(k:AV->aa->Prop):Prop:=ga (oH env.P false true h (Ref.mk 0 n (aa.gen h 0 n) 0) n2 a (some [(b,v)])) k
@[simp] noncomputable def B8(n n2:Nat)(i:Int)(v:AV):=cK env.P .gtr n (Operand.tmp n2) (Operand.const (Value.int IntKind.i64 i)) (some v) (some (AV.v (Value.int IntKind.i64 i)))
@[simp] noncomputable def FM(h:aa)(n n2:Nat)(i:Int)(k:AV->aa->Prop):Prop:=ga (gx h (Ref.mk 0 n (aa.gen h 0 n) 0) (oz env.P (Ref.mk 0 n (aa.gen h 0 n) 0) n2 (some (AV.v (Value.int IntKind.i64 i))) (some (AV.v (Value.int IntKind.i64 i))))) k
@[simp] noncomputable def zZ(h:aa)(n n2 b c:Nat)(v a:AV)(k:AV->aa->Prop):Prop:=ga (eO env.P true h (Ref.mk (n+1) n2 (aa.gen h (n+1) n2) 0) (some b) (some c) v a) k
@[simp] noncomputable def wh(n n2 b:Nat)(v a:AV)(k:AV->Prop):Prop:=fB (cK env.P .eql n (Operand.tmp n2) (Operand.tmp b) (some v) (some a)) k
@[simp] noncomputable def zY(h:aa)(n n2:Nat)(v:AV):=bS env.P false (aa.get h) (Ref.mk 0 n (aa.gen h 0 n) 0) .len #[n2] [v]
@[simp] noncomputable def zX(h:aa)(n n2 b:Nat)(v a:AV)(k:AV->aa->Prop):Prop:=ga (eO env.P true h (Ref.mk 0 n (aa.gen h 0 n) 0) (some n2) (some b) v a) k
@[simp] noncomputable def B3(h:aa)(n n2 a:Nat)(v:AV)(k:AV->aa->Prop):Prop:=ga (eO env.P true h (Ref.mk 0 n (aa.gen h 0 n) 0) (some n2) (some a) (.v (.slice none 0 0)) v) k
@[simp] noncomputable def zW(h:aa)(n n2 a:Nat)(v:AV)(k:AV->Prop):Prop:=fB (bI env.P (aa.get h) (Ref.mk 0 n (aa.gen h 0 n) 0) n2 a (some v)) k
@[simp] noncomputable def oa(n:Nat)(k:AV->Prop):Prop:=fB (iG env.P n (some [])) k
@[simp] noncomputable def FL(n n2:Nat)(i:Int)(v:AV)(k:AV->Prop):Prop:=fB (cK env.P .eql n (Operand.tmp n2) (Operand.const (Value.int IntKind.i64 i)) (some v) (some (AV.v (Value.int IntKind.i64 i)))) k
@[simp] noncomputable def FK(n n2:Nat)(i:Int)(v:AV)(k:AV->Prop):Prop:=fB (cK env.P .geq n (Operand.tmp n2) (Operand.const (Value.int IntKind.i64 i)) (some v) (some (AV.v (Value.int IntKind.i64 i)))) k
@[simp] noncomputable def eI(v:AV):=fa (some v)
@[simp] noncomputable def FJ(n n2:Nat)(i:Int)(v:AV)(k:AV->Prop):Prop:=fB (cK env.P .sub n (Operand.tmp n2) (Operand.const (Value.int IntKind.i64 i)) (some v) (some (AV.v (Value.int IntKind.i64 i)))) k
@[simp] noncomputable def o2(v:AV)(k:AV->Prop):Prop:=fB (ET env.P .not (some v)) k
@[simp] noncomputable def FD(n n2:Nat)(v:AV)(k:AV->Prop):Prop:=fB (cK env.P .eql n (Operand.tmp n2) (.const (.slice none 0 0)) (some v) (some (.v (.slice none 0 0)))) k
@[simp] noncomputable def FC(n n2:Nat)(v:AV)(k:AV->Prop):Prop:=fB (cK env.P .lss n (Operand.tmp n2) (.const (.int .i64 (-1))) (some v) (some (.v (.int .i64 (-1))))) k
@[simp] noncomputable def B2(n n2 b:Nat)(v a:AV)(k:AV->Prop):Prop:=fB (cK env.P .neq n (Operand.tmp n2) (Operand.tmp b) (some v) (some a)) k
@[simp] noncomputable def B1(n n2 b:Nat)(v a:AV)(k:AV->Prop):Prop:=fB (cK env.P .gtr n (Operand.tmp n2) (Operand.tmp b) (some v) (some a)) k
@[simp] noncomputable def zV(h:aa)(n:Nat)(v a:AV):=bj env.P (aa.get h) n (some v) (some a)
@[simp] noncomputable def tM(h:aa)(n:Nat)(v a:AV)(k:AV->aa->Prop):Prop:=ga (pd env.P h (some n) v a) k
def I0:Nat->Option (List Nat):=λ_=>none
def BK:Nat->Bool:=λ_=>false
abbrev qF:=Nat->AV
abbrev Js(f:Func):Code:=f.body.getD .skip
noncomputable abbrev Aw(f:Func)(n:Nat):List Item:=(iy n 400 [.code (Js f)]).getD []
abbrev o1(f:Func)(d:Nat)(l:List (Nat × AV))(H:aa)(Q:AV->aa->Prop):Prop:=gm env f d [.code (Js f)] l H Q
theorem wJ{P:(Nat->AV)->Prop}{f:Func}{d:Nat}{l:List (Nat × AV)}{H:aa}{Q:AV->aa->Prop}(e:P=λg=>wp env f none d I0 BK Q 500 [.code (Js f)] (B0 g l) H)(h : ∀g,P g):o1 f d l H Q:=⟨λg=>jR (live:=I0) (cut:=BK) (n:=500) (Eq.mp (congrFun e g) (h g))⟩
theorem Ew(v:Nat->Option (List Nat)){P:(Nat->AV)->Prop}{f:Func}{d:Nat}{l:List (Nat × AV)}{H:aa}{Q:AV->aa->Prop}(e:P=λg=>wp env f none d v BK Q 500 [.code (Js f)] (B0 g l) H)(h : ∀g,P g):o1 f d l H Q:=⟨λg=>jR (live:=v) (cut:=BK) (n:=500) (Eq.mp (congrFun e g) (h g))⟩
theorem Eg(v:Nat->Option (List Nat)){P:(Nat->AV)->Prop}{f:Func}{d:Nat}{b:List Item}{l:List (Nat × AV)}{H:aa}{Q:AV->aa->Prop}(e:P=λg=>wp env f none d v BK Q 500 (zN b) (B0 g l) H)(h : ∀g,P g):gm env f d b l H Q:=nw λg=>jR (live:=v) (cut:=BK) (n:=500) (Eq.mp (congrFun e g) (h g))
theorem fK{f:FuncId}{fn:Func}{args:List AV}{y:AV}(d:env.spec f args=none)(e:(env.allowed f,env.P.funcs[f]?,fn.body.isSome,Nat.ble args.length fn.ntmps)=(true,some fn,true,true))(h:o1 fn 0 (qC 0 args) [] λx H=>eK env f x H y):aN env f args=some y:=by
 injection e with i e
 injection e with j e
 injection e with b g
 cases a:fn.body with
 | none=>rw[a]at b;cases b
 | some c=>
  unfold o1 Js at h
  rw[a]at h
  exact iA d i j a g h
theorem zA:qz env fns=true:=by kernel_rfl
@[simp] theorem Ka{f:FuncId}(h:kp.contains f=false):(env.mode f == 2)=false:=by
 show((if bm.contains f then (if kp.contains f then 3 else 1) else if kp.contains f then 2 else 0) == 2)=false
 rw[h]
 split<;>rfl
@[simp] theorem JP{f:FuncId}(h:kp.contains f=false):(env.mode f == 3)=false:=by
 show((if bm.contains f then (if kp.contains f then 3 else 1) else if kp.contains f then 2 else 0) == 3)=false
 rw[h]
 split<;>rfl
theorem IY{f:FuncId}(h:bm.contains f=false):lK (env.mode f)=false:=by
 show lK (if bm.contains f then (if kp.contains f then 3 else 1) else if kp.contains f then 2 else 0)=false
 rw[h]
 cases kp.contains f<;>rfl
@[simp] theorem JR{f:FuncId}(h:bm.contains f=false)(x:AV)(H:aa)(y:AV):eK env f x H y↔view H.get depth x=some y:=uI (IY h) x H y
@[simp] theorem EC:ay env.P 3=(some 1):=by kernel_rfl
@[simp] theorem Gw:fw env.P 3=(some false):=by kernel_rfl
@[simp] theorem Bu:intKind env.P 3=(some .i64):=by kernel_rfl
@[simp] theorem Gp:(env.P.underlying 3).isNone=false:=by kernel_rfl
@[simp] theorem EB:ay env.P 4=(some 1):=by kernel_rfl
@[simp] theorem Gv:fw env.P 4=(some false):=by kernel_rfl
@[simp] theorem Dn:isBool env.P 4=true:=by kernel_rfl
@[simp] theorem EA:ay env.P 5=(some 1):=by kernel_rfl
@[simp] theorem Gu:fw env.P 5=(some false):=by kernel_rfl
@[simp] theorem Bt:intKind env.P 5=(some .u8):=by kernel_rfl
@[simp] theorem JQ:isStr env.P 9=true:=by kernel_rfl
@[simp] theorem Co:ay env.P 91=(some 1):=by kernel_rfl
@[simp] theorem EH:fw env.P 91=(some false):=by kernel_rfl
@[simp] theorem wM:bg env.P 91=(some 146):=by kernel_rfl
@[simp] theorem EF:n8 env.P 91=none:=by kernel_rfl
@[simp] theorem Dk:isStr env.P 91=false:=by kernel_rfl
@[simp] theorem HG:zR env.P 91=true:=by kernel_rfl
@[simp] theorem Fp:la env.P 91=true:=by kernel_rfl
@[simp] theorem Hw:jg env.P 91=2:=by kernel_rfl
@[simp] theorem Fs:mQ env.P 91=32:=by kernel_rfl
@[simp] theorem BH:iH env.P 91=(.agg [(.v (.int .i64 0)),(.v (.slice none 0 0))]):=by kernel_rfl
@[simp] theorem fF:ay env.P 93=(some 4):=by kernel_rfl
@[simp] theorem JD:fw env.P 93=(some true):=by kernel_rfl
@[simp] theorem JC:n8 env.P 93=none:=by kernel_rfl
@[simp] theorem Iy:ep env.P 93=(some (.agg [(.v (.slice none 0 0)),(.v (.int .i64 0)),(.v (.int .i64 0)),(.v (.bool false))])):=by kernel_rfl
@[simp] theorem xI:ny env.P 93=(some [91,3,3,4]):=by kernel_rfl
@[simp] theorem HV:kO env.P 93=(some [(0,1),(1,1),(2,1),(3,1)]):=by kernel_rfl
@[simp] theorem F6:bT env.P 93 0=(some (0,1)):=by kernel_rfl
@[simp] theorem F5:bT env.P 93 1=(some (1,1)):=by kernel_rfl
@[simp] theorem F4:bT env.P 93 2=(some (2,1)):=by kernel_rfl
@[simp] theorem F3:bT env.P 93 3=(some (3,1)):=by kernel_rfl
@[simp] theorem Cn:ay env.P 98=(some 1):=by kernel_rfl
@[simp] theorem EG:fw env.P 98=(some false):=by kernel_rfl
@[simp] theorem Cp:bg env.P 98=(some 5):=by kernel_rfl
@[simp] theorem EE:n8 env.P 98=none:=by kernel_rfl
@[simp] theorem Dj:isStr env.P 98=false:=by kernel_rfl
@[simp] theorem HF:zR env.P 98=true:=by kernel_rfl
@[simp] theorem Fo:la env.P 98=true:=by kernel_rfl
@[simp] theorem Hv:jg env.P 98=1:=by kernel_rfl
@[simp] theorem Fq:mQ env.P 98=1:=by kernel_rfl
@[simp] theorem Dm:bp env.P 98=true:=by kernel_rfl
@[simp] theorem uc:ay env.P 146=(some 2):=by kernel_rfl
@[simp] theorem wP:fw env.P 146=(some true):=by kernel_rfl
@[simp] theorem Cq:n8 env.P 146=none:=by kernel_rfl
@[simp] theorem AU:ep env.P 146=(some (.agg [(.v (.int .i64 0)),(.v (.slice none 0 0))])):=by kernel_rfl
@[simp] theorem yO:db env.P 146=(some 32):=by kernel_rfl
@[simp] theorem pG:ny env.P 146=(some [3,98]):=by kernel_rfl
@[simp] theorem za:kO env.P 146=(some [(0,1),(1,1)]):=by kernel_rfl
@[simp] theorem vO:bT env.P 146 0=(some (0,1)):=by kernel_rfl
@[simp] theorem vN:bT env.P 146 1=(some (1,1)):=by kernel_rfl
@[simp] theorem FZ:intKind env.P 190=(some .u64):=by kernel_rfl
@[simp] theorem Iw:(env.P.underlying 190).isNone=false:=by kernel_rfl
end Go.Proofs.Ytjampffmlnplcaa
namespace Go.Ab
def tg(H H':aa)(refs:List Ref):Prop :=∀q b,H.get q=some b ->∃fz,H'.get q=some { b with cS:=fz}/\(q ∉ refs->fz=b.cS)
theorem tg.same{H H':aa}{refs:List Ref}(h:tg H H' refs){q:Ref}(e:q ∉ refs){b:ax}(c:H.get q=some b):H'.get q=some b:=by
 obtain⟨fz,a,d⟩:=h q b c
 rw[a,d e]
theorem Dv(H:aa)(refs:List Ref):tg H (aT H refs) refs:=by
 intro q b a
 rw[aa.bu]
 unfold j7
 by_cases h:q∈refs
 ·exact⟨true,by simp[h,a],λc=>absurd h c⟩
 ·exact⟨b.cS,by simp[h,a],λ_=>rfl⟩
theorem BU{H:aa}(b:Fr H)(refs:List Ref):Fr (aT H refs):=by
 intro d t g k a
 rw[aa.dq]at a
 rw[aa.bu]
 have:=b d t g k a
 unfold j7
 split<;>simp[this]
theorem uN{o:Option AV}{H:aa}{r:Ref}(F : ∃d t,r=⟨d,t,H.gen d t,0⟩){z:Nat}(L:z≠0){y:AV}{es':List AV}{mk:AV->AV}{n:Nat}{K:AV->aa->Prop}{refs:List Ref}
 (S:o=some (mk y)) (u : ∀r s A,ad r (n+3) y []=(s,A)->ad r depth (mk y) []=(mk s,A)) (J:tL z es' y) (j : ∀e∈es',Bz e=true) (p:Fr H)
 (M : ∀H' s l,Fr H'->j5 z H' s es' l->tg H H' refs->(∀q∈l,H.get q=none)->oS z s es'=y->K (mk s) H') :
 ga (j4 true H r refs o) K:=by
 obtain⟨d,t,rfl⟩:=F
 obtain⟨s,add,B,C⟩:=J.imp L j ⟨d,t,H.gen d t,0⟩ n []
 have D:=u _ _ _ B
 simp only[mZ,ra]at B C D
 have c : ∀a:aa,Fr a->tg H a refs->(∀q,H.get q=none->a.get q=none)->(∀d t,a.gen d t=H.gen d t)->K (mk s) (keyed ⟨d,t,H.gen d t,0⟩ 0 add a):=by
  intro a v O V E
  have w:At (keyed ⟨d,t,H.gen d t,0⟩ 0 add a).get ⟨d,t,H.gen d t,0⟩ 0 add:=by
   intro i b j
   have x:=(bL.1 j).1
   rw[aa.nX,if_pos ⟨rfl,rfl,rfl,by simp,by simpa using x⟩]
   simpa using j
  obtain⟨l,I,Q,R⟩:=C _ w
  refine M _ s l ?_ I (λq b m=>?_) (λq f=>?_) R
  ·have:=Fr.keyed v add d t
   rw[E]at this
   exact this
  ·obtain⟨fz,T,U⟩:=O q b m
   refine⟨fz,?_,U⟩
   rw[aa.nX,if_neg (λh=>?_)]
   ·exact T
   ·have:=p q.d q.t q.g q.k (by rw[h.1,h.2.1,h.2.2.1];exact a7 _)
    rw[show(⟨q.d,q.t,q.g,q.k⟩:Ref)=q from rfl,m]at this
    cases this
  ·obtain⟨G,P,N,_⟩:=uC (Q q f)
   exact p q.d q.t q.g q.k (by rw[G,P,N];exact a7 _)
 subst S
 simp only[j4,D]
 split
 ·exact vU rfl (c H p (λq b m=>⟨b.cS,m,λ_=>rfl⟩) (λq f=>f) λ_ _=>rfl)
 ·refine vU rfl (c (aT H refs) (BU p refs) (Dv H refs) (λq f=>?_) λd t=>aa.dq _ _ _ _)
  rw[aa.bu]
  unfold j7
  split<;>simp[f]
structure mw where
 z:Nat
 s:AV
 es:List AV
 rs:List Ref
structure k9 (H:aa) (fs:List (Ref × ax)) (rows:List mw):Prop where
 fr:Fr H
 has : ∀p∈fs,H.get p.1=some p.2
 nd:(fs.map (·.1)).Nodup
 row : ∀t∈rows,j5 t.z H t.s t.es t.rs
 sep : ∀t∈rows,∀p∈fs,p.1 ∉ t.rs
 dis:rows.Pairwise λt u =>∀q∈t.rs,q ∉ u.rs
theorem k9.nil:k9 [] [] []:=⟨Fr.nil,by simp,by simp,by simp,by simp,List.Pairwise.nil⟩
theorem k9.grow{H H':aa}{d:List (Ref × ax)}{a:List mw}(h:k9 H d a)(g:Fr H')(c : ∀q b,H.get q=some b->H'.get q=some b):k9 H' d a:=
 ⟨g,λp hp=>c _ _ (h.has p hp),h.nd,λt e=>(h.row t e).bm λq _ b f=>c q b f,h.sep,h.dis⟩
theorem k9.add{H:aa}{c:List (Ref × ax)}{a:List mw}(h:k9 H c a){r:Ref}{b:ax}(g:H.get r=some b)(j : ∀p∈c,p.1≠r)(i : ∀t∈a,r ∉ t.rs):k9 H ((r,b) :: c) a:=
 ⟨h.fr,λp hp=>(dg.1 hp).elim (λe=>by rw[e];exact g) (h.has p),nc.2 ⟨λf=>by obtain⟨p,hp,e⟩:=gy.1 f;exact j p hp e,h.nd⟩,h.row,λt d p hp=>(dg.1 hp).elim (λe=>by rw[e];exact i t d) (h.sep t d p),h.dis⟩
theorem k9.sub{H:aa}{d b:List (Ref × ax)}{a:List mw}(h:k9 H d a)(c:b.Sublist d):k9 H b a:=
 ⟨h.fr,λp hp=>h.has p (c.mem hp),(c.map _).nodup h.nd,h.row,λt e p hp=>h.sep t e p (c.mem hp),h.dis⟩
theorem k9.live{H:aa}{g:List (Ref × ax)}{a:List mw}(h:k9 H g a){r:Ref}(e:H.get r=none) : ∀t∈a,r ∉ t.rs:=λt d f=>by
 obtain⟨b,c⟩:=(h.row t d).live r f
 rw[e]at c;cases c
theorem k9.new{H:aa}{g:List (Ref × ax)}{a:List mw}(h:k9 H g a)(d t:Nat)(b:ax):k9 ((⟨d,t,H.gen d t,0⟩,some b) :: H) ((⟨d,t,H.gen d t,0⟩,b) :: g) a:=by
 have f:H.get ⟨d,t,H.gen d t,0⟩=none:=h.fr d t _ 0 (a7 _)
 refine(h.grow (jr h.fr rfl _) λq i c=>?_).add (by rw[aa.bJ,if_pos rfl]) (λp hp e=>?_) (h.live f)
 ·rw[aa.bJ,if_neg (λe=>by rw[<-e,f]at c;cases c)];exact c
 ·have:=h.has p hp
  rw[e,f]at this;cases this
theorem k9.call{o:Option AV}{H:aa}{m:List (Ref × ax)}{a:List mw}(h:k9 H m a){r:Ref}(C : ∃d t,r=⟨d,t,H.gen d t,0⟩){z:Nat}(G:z≠0){y:AV}{es':List AV}{mk:AV->AV}{n:Nat}{K:AV->aa->Prop}{refs:List Ref}
 (l : ∀p∈m,p.1 ∉ refs) (k : ∀t∈a,∀q∈t.rs,q ∉ refs)
 (I:o=some (mk y)) (v : ∀r s B,ad r (n+3) y []=(s,B)->ad r depth (mk y) []=(mk s,B)) (F:tL z es' y) (D : ∀e∈es',Bz e=true)
 (J : ∀H' s g,k9 H' m (⟨z,s,es',g⟩ :: a)->tg H H' refs->(∀q∈g,H.get q=none)->oS z s es'=y->K (mk s) H') :
 ga (j4 true H r refs o) K:=by
 refine uN C G I v F D h.fr λH' s g M f x w E=>?_
 refine J H' s g ⟨M,λp hp=>x.same (l p hp) (h.has p hp),h.nd,λt c=>?_,λt c p hp=>?_,?_⟩ x w E
 ·rcases dg.1 c with rfl | c
  ·exact f
  ·exact(h.row t c).bm λq A b i=>x.same (k t c q A) i
 ·rcases dg.1 c with rfl | c
  ·intro j
   have:=w _ j
   rw[h.has p hp]at this;cases this
  ·exact h.sep t c p hp
 ·refine List.pairwise_cons.2 ⟨λu L q A j=>?_,h.dis⟩
  obtain⟨b,i⟩:=(h.row u L).live q j
  rw[w q A]at i;cases i
theorem k9.Ct{H H':aa}{e:List (Ref × ax)}{t:mw}{a:List mw}(h:k9 H e (t :: a))(j:Fr H')(d : ∀q b,q ∉ t.rs->H.get q=some b->H'.get q=some b):k9 H' e a:=by
 obtain⟨d1,d2⟩:=List.pairwise_cons.1 h.dis
 refine⟨j,λp hp=>d _ _ (h.sep t (by simp) p hp) (h.has p hp),h.nd,λu c=>(h.row u (by simp[c])).bm λq i b g=>d q b (λf=>d1 u c q f i) g,λu c p hp=>h.sep u (by simp[c]) p hp,d2⟩
def wg(fz:Bool)(z:Nat)(es:List AV)(x:AV)(a:List (Ref × ax)):Prop:=(x = .v (.slice none 0 0)/\es=[]/\a=[]) \/∃r,x = .aD r 0 es.length none/\a=[(r,⟨z,es,true,fz⟩)]
def GN(z:Nat)(es:List AV):AV->AV
 | .aD _ _ _ _ => .cE z es none
 | x=>x
theorem wg.sl{fz:Bool}{z:Nat}{es:List AV}{x:AV}{a:List (Ref × ax)}(h:wg fz z es x a):Sl z es (GN z es x):=by
 rcases h with ⟨rfl,rfl,rfl⟩ | ⟨r,rfl,rfl⟩
 ·exact .inl ⟨rfl,rfl⟩
 ·exact Sl.mk z es
theorem wg.seen{fz:Bool}{z:Nat}{es:List AV}{x:AV}{a c:List (Ref × ax)}{H:aa}{b:List mw}(h:wg fz z es x a)(e:k9 H c b)(d : ∀p∈a,p∈c):(∀n,view H.get (n+1) x=some (GN z es x))/\(∀n,ab H.get (n+1) x=a.map (·.1))/\x.cells=[x]/\x.one=true:=by
 rcases h with ⟨rfl,rfl,rfl⟩ | ⟨r,rfl,rfl⟩
 ·exact⟨λn=>rfl,λn=>rfl,rfl,rfl⟩
 ·have:=e.has (r,⟨z,es,true,fz⟩) (d _ (by simp))
  simp only at this
  exact⟨λn=>by simp[view,this,GN],λn=>by simp[ab,this],rfl,rfl⟩
theorem k9.perm{H:aa}{d b:List (Ref × ax)}{a:List mw}(h:k9 H d a)(hp:d.Perm b):k9 H b a:=
 ⟨h.fr,λp c=>h.has p (hp.mem_iff.2 c),(hp.map _).nodup_iff.1 h.nd,h.row,λt e p c=>h.sep t e p (hp.mem_iff.2 c),h.dis⟩
theorem k9.IC{H:aa}{d:List (Ref × ax)}{b a:List mw}(h:k9 H d b)(hp:b.Perm a):k9 H d a:=
 ⟨h.fr,h.has,h.nd,λt c=>h.row t (hp.mem_iff.2 c),λt c=>h.sep t (hp.mem_iff.2 c),(hp.pairwise_iff (λh q e f=>h q f e)).1 h.dis⟩
theorem k9.ne{H:aa}{g:List (Ref × ax)}{a:List mw}(h:k9 H g a){r q:Ref}{b c:ax}(k:(r,b)∈g)(j:(q,c)∈g)(d:b≠c):r≠q:=λe=>by
 have i:=h.has _ k
 have f:=h.has _ j
 simp only[e]at i f
 rw[i]at f
 exact d (ym f)
theorem CR{c:Type}(a b:c)(l m:List c):(a :: b :: (l++m)).Perm (l++a :: b :: m):=(List.perm_middle.trans (List.Perm.cons _ yt)).symm
theorem k9.Jn{o:Option AV}{H:aa}{D b:List (Ref × ax)}{j:List mw}{v:Nat}{a:List AV}{F:AV}{k:Bool}(E:wg k v a F b)(h:k9 H (b++D) j){r:Ref}(M : ∃d t,r=⟨d,t,H.gen d t,0⟩){z:Nat}(Q:z≠0){y:AV}{es':List AV}{mk:AV->AV}{n:Nat}{K:AV->aa->Prop}
 (T:o=some (mk y)) (B : ∀r s I,ad r (n+3) y []=(s,I)->ad r depth (mk y) []=(mk s,I)) (P:tL z es' y) (N : ∀e∈es',Bz e=true)
 (G : ∀H' s w g c,wg c v a F g->k9 H' (g++D) (⟨z,s,es',w⟩ :: j)->oS z s es'=y->K (mk s) H') :
 ga (j4 true H r (b.map (·.1)) o) K:=by
 have u:=h.nd
 rw[uV]at u
 have i : ∀p∈D,p.1 ∉ b.map (·.1):=λp hp l=>(rE.1 u).2.2 _ l _ (tU (f:=λp:Ref × ax=>p.1) hp) rfl
 refine(h.sub (List.sublist_append_right _ _)).call M Q i (λt m q V l=>?_) T B P N λH' s w J R O L=>?_
 ·obtain⟨p,hp,e⟩:=gy.1 l
  exact h.sep t m p (rH _ hp) (by rw[e];exact V)
 ·rcases E with ⟨C,S,rfl⟩ | ⟨x,C,rfl⟩
  ·exact G H' s w [] false (.inl ⟨C,S,rfl⟩) J L
  ·have A:=h.has (x,⟨v,a,true,k⟩) (by simp)
   obtain⟨c,U,_⟩:=R _ _ A
   refine G H' s w [(x,⟨v,a,true,c⟩)] c (.inr ⟨x,C,rfl⟩) (J.add U (λp hp e=>i p hp (by simp[e])) λt m l=>?_) L
   rcases dg.1 m with rfl | m
   ·have:=O _ l
    simp only at A
    rw[A]at this;cases this
   ·exact h.sep t m (x,⟨v,a,true,k⟩) (by simp) l
end Go.Ab
namespace Go.Proofs.Ytjampffmlnplcaa
open Go.Ab
section
variable(dep:Nat)(g:Nat->AV)(b a c:AV)(H:aa)(Q:AV->aa->Prop)
noncomputable def iB:=Aw Try.f60 3
def oC:Nat->Option (List Nat):=λi=>cond (Nat.beq i 3) (some [9,3,7,1,8]) (none)
def oJ:Prop:=
 jN H 1 93 b λf d=>
 bE 93 f 0 λi=>
 aH d 91 i λe=>
 lQ d 8 91 e λh=>
  gm env Try.f60 0 iB [(9,(.v (.int .i64 0))),(3,(.v (.int .i64 (-1)))),(7,e),(1,f),(8,h)] d Q
theorem tp(h : ∀g:qF,oJ b H Q):o1 Try.f60 0 [(0,b)] H Q:=Ew oC (by kernel_rfl) h
def j9(g:Nat->AV)(A K E a F:AV)(H:aa)(Q:AV->aa->Prop):Prop:=
 jO 3 9 8 A F λI=>
 br (some I) (
 iS H 91 E A λx=>
 aH H 146 x λy=>
 lR H 5 146 λh J=>
 dD J 146 h y λG j=>
 bE 146 h 0 λB=>
 aH j 3 B λD=>
 fB (cK env.P .leq 3 (Operand.tmp 14) (Operand.tmp 15) (some D) (some K)) λi=>
 gQ i false (dX 146 h 0) λz=>
 gQ i false (cb j 3 z) λq=>
 gQ i false (o3 3 19 6146 q) λs=>
 ij i s λd=>
 gQ d false (dX 146 h 1) λo=>
 gQ d false (cb j 98 o) λn=>
 gQ d false (zY j 25 98 n) λp=>
 gQ d false (z6 3 25 128 p) λe=>
 ij d e λm=>
 br (some m) (
 Q (.v (.int .i64 8)) j) (
 bE 146 h 0 λk=>
 aH j 3 k λf=>
 mz 3 9 1 A λl=>
  gm env Try.f60 0 iB [(9,l),(3,f),(7,E),(1,a),(8,F)] j Q)) (
 bE 93 a 1 λx=>
 aH H 3 x λy=>
 tO 3 32 0 y λh=>
 gQ h false (dX 93 a 1) λG=>
 gQ h false (cb H 3 G) λB=>
 gQ h false (o3 3 36 2147483648 B) λD=>
 ij h D λi=>
 gQ i false (dX 93 a 2) λz=>
 gQ i false (cb H 3 z) λq=>
 gQ i false (cK env.P .lss 3 (Operand.tmp 41) (.const (.int .i64 (-1))) (some q) (some (.v (.int .i64 (-1))))) λs=>
 ij i s λd=>
 gQ d false (dX 93 a 2) λo=>
 gQ d false (cb H 3 o) λn=>
 gQ d false (o3 3 46 2147483648 n) λp=>
 ij d p λe=>
 gQ e false (dX 93 a 3) λm=>
 gQ e false (cb H 4 m) λk=>
 gQ e false (eI k) λf=>
 gQ f true (dX 93 a 2) λl=>
 gQ f true (cb H 3 l) λw=>
 gQ f true (z6 3 54 0 w) λC=>
 gQ e false (oB (some f) (some C) (some (AV.v (Value.bool false)))) λt=>
 ij e t λu=>
 br (some u) (
 Q (.v (.int .i64 8)) H) (
 Q (.v (.int .i64 0)) H))
theorem m5(f i e a d:AV)(H:aa)(Q:AV->aa->Prop)(h : ∀g,j9 g f i e a d H Q):gm env Try.f60 0 iB [(9,f),(3,i),(7,e),(1,a),(8,d)] H Q:=Eg oC (by kernel_rfl) h
noncomputable def lM:Code:=(Try.f61.body).getD .skip
noncomputable def dw:=Aw Try.f61 3
def ir:Nat->Option (List Nat):=λi=>cond (Nat.beq i 3) (some [4,1,3]) (none)
def fy(g:Nat->AV)(b:AV)(H:aa)(Q:AV->aa->Prop):Prop:=
 jN H 1 93 b λd e=>
  gm env Try.f61 0 dw [(4,(.v (.int .i64 0))),(1,d),(3,(.v (.int .i64 0)))] e Q
theorem lI(b:AV)(H:aa)(Q:AV->aa->Prop)(h : ∀g,fy g b H Q):o1 Try.f61 0 [(0,b)] H Q:=Ew ir (by kernel_rfl) h
def dx(g:Nat->AV)(j a p:AV)(H:aa)(Q:AV->aa->Prop):Prop:=
 bE 93 a 0 λw=>
 aH H 91 w λs=>
 lQ H 8 91 s λt=>
 jO 3 5 8 j t λm=>
 gQ m true (eI j) λu=>
 gQ m true (B9 3 11 300 u) λx=>
 kn m x λq=>
 br (some q) (
 bE 93 a 0 λk=>
 aH H 91 k λo=>
 iS H 91 o j λi=>
 bE 146 i 1 λd=>
 aH H 98 d λh=>
 lQ H 23 98 h λf=>
 fB (bS env.P false (aa.get H) (Ref.mk 0 24 (aa.gen H 0 24) 0) .min #[3,3] [f,(.v (.int .i64 10000))]) λe=>
 qi 3 16 24 p e λn=>
 mz 3 14 1 j λl=>
  gm env Try.f61 0 dw [(4,l),(1,a),(3,n)] H Q) (
 bE 93 a 0 λk=>
 aH H 91 k λo=>
 lQ H 28 91 o λi=>
 Ca 3 28 200 i λd=>
 gQ d false (eI p) λh=>
 gQ d false (B8 3 31 40000 h) λf=>
 ij d f λe=>
 Q e H)
theorem gB(d a e:AV)(H:aa)(Q:AV->aa->Prop)(h : ∀g,dx g d a e H Q):gm env Try.f61 0 dw [(4,d),(1,a),(3,e)] H Q:=Eg ir (by kernel_rfl) h
noncomputable def dH:=Aw Try.f62 4
def iP:Nat->Option (List Nat):=λi=>cond (Nat.beq i 4) (some [5,3,2]) (none)
def fP:Prop:=
 jN H 2 93 b λf n=>
 jN n 3 93 a λe d=>
 bE 93 f 0 λi=>
 aH d 91 i λh=>
 lQ d 8 91 h λl=>
 bE 93 e 0 λo=>
 aH d 91 o λm=>
 lQ d 11 91 m λj=>
 B2 3 8 11 l j λk=>
 br (some k) (
 Q (.v (.bool false)) d) (
  gm env Try.f62 0 dH [(5,(.v (.int .i64 0))),(3,e),(2,f)] d Q)
theorem l7(h : ∀g:qF,fP b a H Q):o1 Try.f62 0 [(0,b),(1,a)] H Q:=Ew iP (by kernel_rfl) h
def bA(g:Nat->AV)(s t c:AV)(H:aa)(Q:AV->aa->Prop):Prop:=
 bE 93 c 0 λN=>
 aH H 91 N λL=>
 lQ H 16 91 L λM=>
 jO 3 13 16 s M λO=>
 br (some O) (
 bE 93 c 0 λI=>
 aH H 91 I λB=>
 iS H 91 B s λK=>
 bE 146 K 0 λC=>
 aH H 3 C λe=>
 bE 93 t 0 λp=>
 aH H 91 p λq=>
 iS H 91 q s λo=>
 bE 146 o 0 λn=>
 aH H 3 n λm=>
 B2 3 25 31 e m λd=>
 gQ d false (dX 93 c 0) λl=>
 gQ d false (cb H 91 l) λk=>
 gQ d false (eI s) λf=>
 gQ d false (zV H 91 k f) λi=>
 gQ d false (dX 146 i 1) λj=>
 gQ d false (cb H 98 j) λh=>
 gQ d false (tN H 40 98 9 h) λF=>
 gQ d false (dX 93 t 0) λu=>
 gQ d false (cb H 91 u) λw=>
 gQ d false (eI s) λE=>
 gQ d false (zV H 91 w E) λG=>
 gQ d false (dX 146 G 1) λA=>
 gQ d false (cb H 98 A) λx=>
 gQ d false (tN H 47 98 9 x) λD=>
 gQ d false (cK env.P .neq 9 (Operand.tmp 40) (Operand.tmp 47) (some F) (some D)) λy=>
 ij d y λJ=>
 br (some J) (
 Q (.v (.bool false)) H) (
 mz 3 18 1 s λz=>
  gm env Try.f62 0 dH [(5,z),(3,t),(2,c)] H Q)) (
 bE 93 c 1 λI=>
 aH H 3 I λB=>
 bE 93 t 1 λK=>
 aH H 3 K λC=>
 wh 3 51 53 B C λe=>
 gQ e true (dX 93 c 2) λp=>
 gQ e true (cb H 3 p) λq=>
 gQ e true (dX 93 t 2) λo=>
 gQ e true (cb H 3 o) λn=>
 gQ e true (mX 3 57 59 q n) λm=>
 kn e m λd=>
 gQ d true (dX 93 c 3) λl=>
 gQ d true (cb H 4 l) λk=>
 gQ d true (dX 93 t 3) λf=>
 gQ d true (cb H 4 f) λi=>
 gQ d true (mX 4 64 66 k i) λj=>
 kn d j λh=>
 Q h H)
theorem hU(d e c:AV)(H:aa)(Q:AV->aa->Prop)(h : ∀g,bA g d e c H Q):gm env Try.f62 0 dH [(5,d),(3,e),(2,c)] H Q:=Eg iP (by kernel_rfl) h
def lN:Prop:=
 jN H 2 93 b λm h=>
 aH h 93 m λj=>
 na true h 7 60 [j] λf d=>
 wj 35 8 0 f λi=>
 br (some i) (
 Q f d) (
 tO 3 11 0 a λe=>
 gQ e false (eI a) λn=>
 gQ e false (o3 3 14 6146 n) λl=>
 ij e l λk=>
 br (some k) (
 Q (.v (.int .i64 2)) d) (
 Q (.v (.int .i64 0)) d))
theorem tn(h : ∀g:qF,lN b a H Q):o1 Try.f99 0 [(0,b),(1,a)] H Q:=wJ (by kernel_rfl) h
def pO:Prop:=
 jN H 2 93 b λk e=>
 bE 93 k 0 λh=>
 aH e 91 h λi=>
 na true e 9 133 [i,a,(.fn (.func 134) [] [])] λd f=>
 iJ d 0 λj=>
 iJ d 1 λl=>
 Q (.tup [j,l]) f
theorem vi(h : ∀g:qF,pO b a H Q):o1 Try.f100 0 [(0,b),(1,a)] H Q:=wJ (by kernel_rfl) h
noncomputable def ah:=Aw Try.f133 3
def aQ:Nat->Option (List Nat):=λi=>cond (Nat.beq i 3) (some [1,0,2,10,9,8]) (none)
def aR:Prop:=
 lQ H 13 91 b λd=>
  gm env Try.f133 0 ah [(1,a),(0,b),(2,c),(10,d),(9,(.v (.int .i64 0))),(8,d)] H Q
theorem ct(h : ∀g:qF,aR b a c H Q):o1 Try.f133 0 [(0,b),(1,a),(2,c)] H Q:=Ew aQ (by kernel_rfl) h
def al(g:Nat->AV)(a b c e h n:AV)(H:aa)(Q:AV->aa->Prop):Prop:=
 jO 3 15 16 h e λt=>
 br (some t) (
 qi 3 18 19 h e λd=>
 zW H 21 3 190 d λo=>
 fB (cK env.P .shr 190 (Operand.tmp 21) (.const (.int .u64 1)) (some o) (some (.v (.int .u64 1)))) λm=>
 zW H 23 190 3 m λi=>
 iS H 91 b i λs=>
 aH H 146 s λl=>
 ga (aL env true (aN env) (cB env 0) H (Ref.mk 0 30 (aa.gen H 0 30) 0) (some c) [l,a]) λk j=>
 tO 3 30 0 k λp=>
 br (some p) (
 mz 3 32 1 i λf=>
  gm env Try.f133 0 ah [(1,a),(0,b),(2,c),(10,e),(9,f),(8,n)] j Q) (
  gm env Try.f133 0 ah [(1,a),(0,b),(2,c),(10,i),(9,h),(8,n)] j Q)) (
 jO 3 36 37 h n λd=>
 gQ d true (eI c) λo=>
 gQ d true (eI b) λm=>
 gQ d true (eI h) λi=>
 gQ d true (zV H 91 m i) λs=>
 gQ d true (cb H 146 s) λl=>
 gQ d true (eI a) λk=>
 gW d true H (aL env true (aN env) (cB env 0) H (Ref.mk 0 46 (aa.gen H 0 46) 0) (some o) [l,k]) λp j=>
 gQ d true (z4 3 46 0 p) λf=>
 kn d f λq=>
 Q (.tup [h,q]) j)
theorem aK(a b c d f e:AV)(H:aa)(Q:AV->aa->Prop)(h : ∀g,al g a b c d f e H Q):gm env Try.f133 0 ah [(1,a),(0,b),(2,c),(10,d),(9,f),(8,e)] H Q:=Eg aQ (by kernel_rfl) h
def nG:Prop:=
 jN H 2 146 b λj d=>
 bE 146 j 0 λh=>
 aH d 3 h λi=>
 na true d 8 135 [i,a] λf e=>
 Q f e
theorem rO(h : ∀g:qF,nG b a H Q):o1 Try.f134 0 [(0,b),(1,a)] H Q:=wJ (by kernel_rfl) h
def kj:Prop:=
 na true H 8 154 [b] λi j=>
 na true j 10 154 [a] λe d=>
 br (some i) (
 br (some e) (
 Q (.v (.int .i64 0)) d) (
 Q (.v (.int .i64 (-1))) d)) (
 br (some e) (
 Q (.v (.int .i64 1)) d) (
 jO 3 14 15 b a λh=>
 br (some h) (
 Q (.v (.int .i64 (-1))) d) (
 B1 3 17 18 b a λf=>
 br (some f) (
 Q (.v (.int .i64 1)) d) (
 Q (.v (.int .i64 0)) d))))
theorem n7(h : ∀g:qF,kj b a H Q):o1 Try.f135 0 [(0,b),(1,a)] H Q:=wJ (by kernel_rfl) h
def lF:Prop:=
 fB (cK env.P .neq 3 (Operand.tmp 3) (Operand.tmp 4) (some b) (some b)) λd=>
 Q d H
theorem pg(h : ∀g:qF,lF b H Q):o1 Try.f154 0 [(0,b)] H Q:=wJ (by kernel_rfl) h
noncomputable def dn:Code:=(Try.f101.body).getD .skip
def bC:Prop:=
 ob H 91 b a λB=>
 z3 H dep 14 91 c λl=>
 FL 3 15 0 l λz=>
 br (some z) (
 Q b H) (
 z3 H dep 19 91 b λs=>
 wh 3 20 21 a s λA=>
 br (some A) (
 zZ H dep 25 91 91 b c λv j=>
 Q v j) (
 qi 3 26 27 s l λv=>
 fB (bS env.P false (aa.get H) (⟨(dep+1),30,aa.gen H (dep+1) 30,0⟩:Ref) .cap #[91] [b]) λx=>
 B1 3 28 30 v x λw=>
 br (some w) (
 fB (dN env.P (aa.get H) 91 (some b) (some none) (oi a) (some none)) λu=>
 qi 3 35 36 s l λd=>
 fB (cK env.P .sub 3 (Operand.tmp 37) (Operand.tmp 38) (some d) (some a)) λn=>
 zZ H dep 40 91 3 u n λf j=>
 ob j 91 f a λm=>
 tM j 91 m c λq i=>
 qi 3 47 48 a l λe=>
 ob i 91 f e λk=>
 ob i 91 b a λh=>
 tM i 91 k h λp o=>
 Q f o) (
 qi 3 57 58 s l λu=>
 fB (dN env.P (aa.get H) 91 (some b) (some none) (oi u) (some none)) λd=>
 qi 3 63 64 a l λn=>
 ob H 91 d n λf=>
 ga (aL env true (aN env) (cB env (dep+1)) H (⟨(dep+1),67,aa.gen H (dep+1) 67,0⟩:Ref) (some (.fn (.func 136) [] [])) [c,f]) λm j=>
 o2 m λq=>
 br (some q) (
 qi 3 70 71 a l λe=>
 ob j 91 d e λk=>
 ob j 91 d a λh=>
 tM j 91 k h λp i=>
 ob i 91 d a λt=>
 tM i 91 t c λy o=>
 Q d o) (
 ob j 91 d s λe=>
 tM j 91 e c λk i=>
 ob i 91 d a λh=>
 ga (aL env true (aN env) (cB env (dep+1)) i (⟨(dep+1),93,aa.gen i (dep+1) 93,0⟩:Ref) (some (.fn (.func 137) [] [])) [h,l]) λp o=>
 Q d o))))
theorem dk(h : ∀g:qF,bC dep b a c H Q):o1 Try.f101 (dep+1) [(0,b),(1,a),(2,c)] H Q:=wJ (by kernel_rfl) h
def qE:Prop:=
 lR H 0 93 λe i=>
 fB (iG env.P 93 (some [(2,(.v (.int .i64 (-1))))])) λh=>
 dD i 93 e h λj d=>
 fT d e 93 λf=>
 Q f d
theorem wI(h : ∀g:qF,qE H Q):o1 Try.f56 0 [] H Q:=wJ (by kernel_rfl) h
noncomputable def dG:=Aw Try.f63 3
def iO:Nat->Option (List Nat):=λi=>cond (Nat.beq i 3) (some [4,1,3,2]) (none)
def iR:Prop:=
 jN H 1 93 b λf h=>
 lR h 2 93 λe d=>
  gm env Try.f63 0 dG [(4,(.v (.int .i64 0))),(1,f),(3,(.v (.slice none 0 0))),(2,e)] d Q
theorem l5(h : ∀g:qF,iR b H Q):o1 Try.f63 0 [(0,b)] H Q:=Ew iO (by kernel_rfl) h
def bZ(g:Nat->AV)(f a y c:AV)(H:aa)(Q:AV->aa->Prop):Prop:=
 bE 93 a 0 λD=>
 aH H 91 D λB=>
 lQ H 8 91 B λC=>
 jO 3 5 8 f C λA=>
 br (some A) (
 bE 93 a 0 λt=>
 aH H 91 t λx=>
 iS H 91 x f λk=>
 bE 146 k 0 λw=>
 aH H 3 w λo=>
 bE 93 a 0 λq=>
 aH H 91 q λu=>
 iS H 91 u f λp=>
 bE 146 p 1 λm=>
 aH H 98 m λj=>
 ga (eO env.P false H (Ref.mk 0 25 (aa.gen H 0 25) 0) (some 98) (some 98) (.v (.slice none 0 0)) j) λn d=>
 fB (iG env.P 146 (some [(0,o),(1,n)])) λi=>
 ga (oH env.P true true d (Ref.mk 0 27 (aa.gen d 0 27) 0) 91 1 (some [(0,i)])) λs e=>
 zX e 28 91 91 y s λh z=>
 mz 3 10 1 f λl=>
  gm env Try.f63 0 dG [(4,l),(1,a),(3,h),(2,c)] z Q) (
 bE 93 a 0 λt=>
 dD H 91 t y λx d=>
 aH d 93 a λk=>
 dD d 93 c k λw e=>
 fT e c 93 λo=>
 Q o e)
theorem hP(d a e c:AV)(H:aa)(Q:AV->aa->Prop)(h : ∀g,bZ g d a e c H Q):gm env Try.f63 0 dG [(4,d),(1,a),(3,e),(2,c)] H Q:=Eg iO (by kernel_rfl) h
def cN:Prop:=
 jN H 2 93 b λq C=>
 lR C 4 93 λe s=>
 aH s 93 q λz=>
 na true s 7 104 [z] λx k=>
 o2 x λB=>
 br (some B) (
 oa 93 λl=>
 dD k 93 e l λu d=>
 fT d e 93 λo=>
 Q (.tup [o,(.v (.int .i64 8))]) d) (
 FC 3 10 a λl=>
 gQ l false (eI a) λu=>
 gQ l false (o3 3 13 2147483648 u) λo=>
 ij l o λA=>
 br (some A) (
 oa 93 λj=>
 dD k 93 e j λn d=>
 fT d e 93 λi=>
 Q (.tup [i,(.v (.int .i64 2))]) d) (
 bE 93 q 1 λj=>
 aH k 3 j λn=>
 FL 3 18 2147483647 n λi=>
 br (some i) (
 oa 93 λf=>
 dD k 93 e f λm d=>
 fT d e 93 λh=>
 Q (.tup [h,(.v (.int .i64 9))]) d) (
 aH k 93 q λf=>
 na true k 22 63 [f] λm d=>
 na true d 24 105 [m,a] λh y=>
 dD y 93 e h λw t=>
 fT t e 93 λp=>
 Q (.tup [p,(.v (.int .i64 0))]) t)))
theorem lH(h : ∀g:qF,cN b a H Q):o1 Try.f64 0 [(0,b),(1,a)] H Q:=wJ (by kernel_rfl) h
def bH:Prop:=
 jN H 3 93 b λw D=>
 lR D 6 93 λh t=>
 aH t 93 w λA=>
 na true t 9 104 [A] λy j=>
 o2 y λC=>
 br (some C) (
 oa 93 λi=>
 dD j 93 h i λx f=>
 fT f h 93 λm=>
 Q (.tup [m,(.v (.int .i64 8))]) f) (
 tO 3 12 0 a λi=>
 gQ i false (eI a) λx=>
 gQ i false (o3 3 15 6146 x) λm=>
 ij i m λl=>
 gQ l false (eI c) λq=>
 gQ l false (zY j 20 98 q) λs=>
 gQ l false (z6 3 20 128 s) λp=>
 ij l p λo=>
 br (some o) (
 oa 93 λe=>
 dD j 93 h e λk f=>
 fT f h 93 λd=>
 Q (.tup [d,(.v (.int .i64 2))]) f) (
 aH j 93 w λe=>
 na true j 27 106 [e,a,c] λk f=>
 na true f 28 63 [k] λd z=>
 dD z 93 h d λB u=>
 fT u h 93 λn=>
 Q (.tup [n,(.v (.int .i64 0))]) u))
theorem fu(h : ∀g:qF,bH b a c H Q):o1 Try.f65 0 [(0,b),(1,a),(2,c)] H Q:=wJ (by kernel_rfl) h
def cZ:Prop:=
 jN H 2 93 b λh i=>
 aH i 93 h λk=>
 na true i 7 104 [k] λl d=>
 o2 l λj=>
 br (some j) (
 Q (.tup [(.v (.slice none 0 0)),(.v (.int .i64 8))]) d) (
 tO 3 9 0 a λf=>
 gQ f false (eI a) λq=>
 gQ f false (o3 3 12 6146 q) λp=>
 ij f p λm=>
 br (some m) (
 Q (.tup [(.v (.slice none 0 0)),(.v (.int .i64 2))]) d) (
 aH d 93 h λn=>
 na true d 17 107 [n,a] λe o=>
 Q (.tup [e,(.v (.int .i64 0))]) o))
theorem l8(h : ∀g:qF,cZ b a H Q):o1 Try.f66 0 [(0,b),(1,a)] H Q:=wJ (by kernel_rfl) h
def iz:Prop:=
 jN H 1 93 b λj e=>
 aH e 93 j λh=>
 na true e 4 104 [h] λi d=>
 o2 i λf=>
 br (some f) (
 Q (.v (.int .i64 8)) d) (
 Q (.v (.int .i64 0)) d)
theorem lJ(h : ∀g:qF,iz b H Q):o1 Try.f68 0 [(0,b)] H Q:=wJ (by kernel_rfl) h
def jm:Prop:=
 lR H 0 93 λe i=>
 fB (iG env.P 93 (some [(2,(.v (.int .i64 (-1))))])) λh=>
 dD i 93 e h λj d=>
 fT d e 93 λf=>
 Q f d
theorem mC(h : ∀g:qF,jm H Q):o1 Try.f69 0 [] H Q:=wJ (by kernel_rfl) h
noncomputable def cM:=Aw Try.f104 2
def iZ:Nat->Option (List Nat):=λi=>cond (Nat.beq i 2) (some [3,1]) (none)
def jn:Prop:=
 jN H 1 93 b λd e=>
  gm env Try.f104 0 cM [(3,(.v (.int .i64 0))),(1,d)] e Q
theorem mD(h : ∀g:qF,jn b H Q):o1 Try.f104 0 [(0,b)] H Q:=Ew iZ (by kernel_rfl) h
def aA(g:Nat->AV)(D a:AV)(H:aa)(Q:AV->aa->Prop):Prop:=
 bE 93 a 0 λV=>
 aH H 91 V λT=>
 lQ H 8 91 T λU=>
 jO 3 5 8 D U λX=>
 br (some X) (
 bE 93 a 0 λR=>
 aH H 91 R λK=>
 iS H 91 K D λB=>
 aH H 146 B λL=>
 lR H 4 146 λs W=>
 dD W 146 s L λC m=>
 bE 146 s 0 λk=>
 aH m 3 k λA=>
 tO 3 18 0 A λi=>
 gQ i false (dX 146 s 0) λx=>
 gQ i false (cb m 3 x) λj=>
 gQ i false (o3 3 22 6146 j) λw=>
 ij i w λf=>
 gQ f false (eI D) λo=>
 gQ f false (B8 3 26 0 o) λe=>
 gQ f false (eI e) λd=>
 gQ d true (dX 146 s 0) λp=>
 gQ d true (cb m 3 p) λy=>
 gQ d true (dX 93 a 0) λh=>
 gQ d true (cb m 91 h) λn=>
 gQ d true (eI D) λu=>
 gQ d true (cK env.P .sub 3 (Operand.tmp 33) (Operand.const (Value.int IntKind.i64 1)) (some u) (some (AV.v (Value.int IntKind.i64 1)))) λz=>
 gQ d true (zV m 91 n z) λt=>
 gQ d true (dX 146 t 0) λq=>
 gQ d true (cb m 3 q) λM=>
 gQ d true (cK env.P .leq 3 (Operand.tmp 30) (Operand.tmp 37) (some y) (some M)) λJ=>
 gQ f false (oB (some d) (some J) (some (AV.v (Value.bool false)))) λS=>
 ij f S λl=>
 gQ l false (dX 146 s 1) λG=>
 gQ l false (cb m 98 G) λI=>
 gQ l false (zY m 44 98 I) λE=>
 gQ l false (z6 3 44 128 E) λF=>
 ij l F λO=>
 br (some O) (
 Q (.v (.bool false)) m) (
 mz 3 10 1 D λN=>
  gm env Try.f104 0 cM [(3,N),(1,a)] m Q)) (
 bE 93 a 1 λR=>
 aH H 3 R λK=>
 FK 3 48 0 K λB=>
 gQ B true (dX 93 a 1) λL=>
 gQ B true (cb H 3 L) λs=>
 gQ B true (B9 3 52 2147483648 s) λC=>
 kn B C λk=>
 gQ k true (dX 93 a 2) λA=>
 gQ k true (cb H 3 A) λi=>
 gQ k true (cK env.P .geq 3 (Operand.tmp 57) (.const (.int .i64 (-1))) (some i) (some (.v (.int .i64 (-1))))) λx=>
 kn k x λj=>
 gQ j true (dX 93 a 2) λw=>
 gQ j true (cb H 3 w) λf=>
 gQ j true (B9 3 62 2147483648 f) λo=>
 kn j o λe=>
 gQ e true (dX 93 a 3) λd=>
 gQ e true (cb H 4 d) λp=>
 gQ e true (ET env.P .not (some p)) λy=>
 gQ e true (eI y) λh=>
 gQ h false (dX 93 a 2) λn=>
 gQ h false (cb H 3 n) λu=>
 gQ h false (z4 3 71 0 u) λz=>
 gQ e true (oB (some h) (some (AV.v (Value.bool true))) (some z)) λt=>
 kn e t λq=>
 Q q H)
theorem dR(d a:AV)(H:aa)(Q:AV->aa->Prop)(h : ∀g,aA g d a H Q):gm env Try.f104 0 cM [(3,d),(1,a)] H Q:=Eg iZ (by kernel_rfl) h
def gN:Prop:=
 jN H 2 93 b λd x=>
 lR x 4 93 λk i=>
 bE 93 d 1 λs=>
 aH i 3 s λp=>
 mz 3 6 1 p λu=>
 bE 93 d 1 λm=>
 dD i 3 m u λz o=>
 bE 93 d 2 λn=>
 dD o 3 n a λy t=>
 bE 93 d 3 λh=>
 ga (eB env.P t 4 (some h) (some (AV.v (Value.bool false)))) λw l=>
 aH l 93 d λf=>
 dD l 93 k f λq j=>
 fT j k 93 λe=>
 Q e j
theorem kI(h : ∀g:qF,gN b a H Q):o1 Try.f105 0 [(0,b),(1,a)] H Q:=wJ (by kernel_rfl) h
def cD:Prop:=
 jN H 3 93 b λd J=>
 lR J 6 93 λp h=>
 bE 93 d 3 λG=>
 aH h 4 G λu=>
 gQ u false (dX 93 d 2) λI=>
 gQ u false (cb h 3 I) λD=>
 gQ u false (z4 3 11 0 D) λK=>
 ij u K λE=>
 br (some E) (
 bE 93 d 3 λA=>
 ga (eB env.P h 4 (some A) (some (AV.v (Value.bool true)))) λt i=>
 aH i 93 d λo=>
 dD i 93 p o λf l=>
 fT l p 93 λe=>
 Q e l) (
 bE 93 d 2 λA=>
 aH h 3 A λt=>
 Ca 3 17 0 t λo=>
 br (some o) (
 bE 93 d 2 λf=>
 aH h 3 f λe=>
 FJ 3 20 1 e λj=>
 bE 93 d 2 λm=>
 dD h 3 m j λx i=>
 bE 93 d 0 λn=>
 aH i 91 n λq=>
 na true i 27 138 [q,a,c] λk l=>
 bE 93 d 0 λz=>
 dD l 91 z k λF s=>
 aH s 93 d λy=>
 dD s 93 p y λC B=>
 fT B p 93 λw=>
 Q w B) (
 bE 93 d 0 λf=>
 aH h 91 f λe=>
 na true h 27 138 [e,a,c] λj i=>
 bE 93 d 0 λm=>
 dD i 91 m j λx l=>
 aH l 93 d λn=>
 dD l 93 p n λq s=>
 fT s p 93 λk=>
 Q k s))
theorem gA(h : ∀g:qF,cD b a c H Q):o1 Try.f106 0 [(0,b),(1,a),(2,c)] H Q:=wJ (by kernel_rfl) h
noncomputable def ed:=Aw Try.f107 2
def jx:Nat->Option (List Nat):=λi=>cond (Nat.beq i 2) (some [5,2,1]) (none)
def jz:Prop:=
 jN H 2 93 b λd e=>
  gm env Try.f107 0 ed [(5,(.v (.int .i64 0))),(2,d),(1,a)] e Q
theorem m9(h : ∀g:qF,jz b a H Q):o1 Try.f107 0 [(0,b),(1,a)] H Q:=Ew jx (by kernel_rfl) h
def ee(g:Nat->AV)(e c a:AV)(H:aa)(Q:AV->aa->Prop):Prop:=
 bE 93 c 0 λv=>
 aH H 91 v λs=>
 lQ H 9 91 s λt=>
 jO 3 6 9 e t λq=>
 br (some q) (
 bE 93 c 0 λm=>
 aH H 91 m λw=>
 iS H 91 w e λp=>
 bE 146 p 0 λo=>
 aH H 3 o λu=>
 wh 3 18 19 u a λl=>
 br (some l) (
 bE 93 c 0 λd=>
 aH H 91 d λk=>
 iS H 91 k e λi=>
 bE 146 i 1 λh=>
 aH H 98 h λj=>
 B3 H 27 98 98 j λf n=>
 Q f n) (
 mz 3 11 1 e λd=>
  gm env Try.f107 0 ed [(5,d),(2,c),(1,a)] H Q)) (
 FM H 28 98 128 λm n=>
 Q m n)
theorem fE(d c a:AV)(H:aa)(Q:AV->aa->Prop)(h : ∀g,ee g d c a H Q):gm env Try.f107 0 ed [(5,d),(2,c),(1,a)] H Q:=Eg jx (by kernel_rfl) h
noncomputable def cH:=Aw Try.f138 3
noncomputable def cG:=Aw Try.f138 9
def fI:Nat->Option (List Nat):=λi=>cond (Nat.beq i 3) (some [8,0,7,1,2]) (cond (Nat.beq i 9) (some [9,0,7,1]) (none))
def iQ:Prop:=
 gm env Try.f138 0 cH [(8,(.v (.int .i64 0))),(0,b),(7,(.v (.slice none 0 0))),(1,a),(2,c)] H Q
theorem lZ(h : ∀g:qF,iQ b a c H Q):o1 Try.f138 0 [(0,b),(1,a),(2,c)] H Q:=Ew fI (by kernel_rfl) h
def bc(g:Nat->AV)(d b f a c:AV)(H:aa)(Q:AV->aa->Prop):Prop:=
 lQ H 12 91 b λu=>
 jO 3 10 12 d u λs=>
 br (some s) (
 iS H 91 b d λj=>
 bE 146 j 0 λi=>
 aH H 3 i λl=>
 jO 3 20 21 l a λo=>
 br (some o) (
 iS H 91 b d λh=>
 aH H 146 h λp=>
 wi H 28 91 1 0 p λt n=>
 zX n 29 91 91 f t λk e=>
 mz 3 14 1 d λm=>
  gm env Try.f138 0 cH [(8,m),(0,b),(7,k),(1,a),(2,c)] e Q) (
 mz 3 14 1 d λh=>
  gm env Try.f138 0 cH [(8,h),(0,b),(7,f),(1,a),(2,c)] H Q)) (
 B3 H 33 98 98 c λj n=>
 fB (iG env.P 146 (some [(0,a),(1,j)])) λi=>
 wi n 35 91 1 0 i λl e=>
 zX e 36 91 91 f l λo q=>
  gm env Try.f138 0 cG [(9,(.v (.int .i64 0))),(0,b),(7,o),(1,a)] q Q)
theorem eZ(d b e a c:AV)(H:aa)(Q:AV->aa->Prop)(h : ∀g,bc g d b e a c H Q):gm env Try.f138 0 cH [(8,d),(0,b),(7,e),(1,a),(2,c)] H Q:=Eg fI (by kernel_rfl) h
def dI(g:Nat->AV)(d b e a:AV)(H:aa)(Q:AV->aa->Prop):Prop:=
 lQ H 39 91 b λq=>
 jO 3 37 39 d q λm=>
 br (some m) (
 iS H 91 b d λn=>
 bE 146 n 0 λl=>
 aH H 3 l λp=>
 B1 3 47 48 p a λt=>
 br (some t) (
 iS H 91 b d λf=>
 aH H 146 f λk=>
 wi H 55 91 1 0 k λo s=>
 zX s 56 91 91 e o λh j=>
 mz 3 41 1 d λi=>
  gm env Try.f138 0 cG [(9,i),(0,b),(7,h),(1,a)] j Q) (
 mz 3 41 1 d λf=>
  gm env Try.f138 0 cG [(9,f),(0,b),(7,e),(1,a)] H Q)) (
 Q e H)
theorem eY(e b d a:AV)(H:aa)(Q:AV->aa->Prop)(h : ∀g,dI g e b d a H Q):gm env Try.f138 0 cG [(9,e),(0,b),(7,d),(1,a)] H Q:=Eg fI (by kernel_rfl) h
def jl:Prop:=
 jN H 2 93 b λj G=>
 jN G 3 93 a λi k=>
 bE 93 j 0 λD=>
 aH k 91 D λC=>
 bE 93 i 0 λF=>
 aH k 91 F λA=>
 na true k 11 111 [C,A,(.fn (.func 109) [] [])] λh f=>
 gQ h true (dX 93 j 1) λB=>
 gQ h true (cb f 3 B) λE=>
 gQ h true (dX 93 i 1) λx=>
 gQ h true (cb f 3 x) λz=>
 gQ h true (mX 3 14 16 E z) λw=>
 kn h w λe=>
 gQ e true (dX 93 j 2) λq=>
 gQ e true (cb f 3 q) λv=>
 gQ e true (dX 93 i 2) λp=>
 gQ e true (cb f 3 p) λy=>
 gQ e true (mX 3 21 23 v y) λn=>
 kn e n λd=>
 gQ d true (dX 93 j 3) λu=>
 gQ d true (cb f 4 u) λs=>
 gQ d true (dX 93 i 3) λt=>
 gQ d true (cb f 4 t) λl=>
 gQ d true (mX 4 28 30 s l) λm=>
 kn d m λo=>
 Q o f
theorem vj(h : ∀g:qF,jl b a H Q):o1 Try.f70 0 [(0,b),(1,a)] H Q:=wJ (by kernel_rfl) h
def k8:Prop:=
 jN H 2 146 b λl u=>
 jN u 3 146 a λk d=>
 bE 146 l 0 λq=>
 aH d 3 q λp=>
 bE 146 k 0 λt=>
 aH d 3 t λm=>
 wh 3 6 8 p m λe=>
 gQ e true (dX 146 l 1) λn=>
 gQ e true (cb d 98 n) λs=>
 gQ e true (dX 146 k 1) λi=>
 gQ e true (cb d 98 i) λj=>
 gW e true d (aL env true (aN env) (cB env 0) d (Ref.mk 0 15 (aa.gen d 0 15) 0) (some (AV.fn (Fn.func 110) [] [])) [s,j]) λh o=>
 kn e h λf=>
 Q f o
theorem rP(h : ∀g:qF,k8 b a H Q):o1 Try.f109 0 [(0,b),(1,a)] H Q:=wJ (by kernel_rfl) h
def nH:Prop:=
 zW H 6 98 9 b λf=>
 zW H 8 98 9 a λd=>
 wh 9 6 8 f d λe=>
 Q e H
theorem rQ(h : ∀g:qF,nH b a H Q):o1 Try.f110 0 [(0,b),(1,a)] H Q:=wJ (by kernel_rfl) h
noncomputable def ae:=Aw Try.f111 4
def aw:Nat->Option (List Nat):=λi=>cond (Nat.beq i 4) (some [17,2,1,15,16]) (none)
def ai:Prop:=
 lQ H 11 91 b λf=>
 lQ H 13 91 a λd=>
 B2 3 11 13 f d λe=>
 br (some e) (
 Q (.v (.bool false)) H) (
 lQ H 16 91 b λh=>
  gm env Try.f111 0 ae [(17,(.v (.int .i64 0))),(2,c),(1,a),(15,b),(16,h)] H Q)
theorem aU(h : ∀g:qF,ai b a c H Q):o1 Try.f111 0 [(0,b),(1,a),(2,c)] H Q:=Ew aw (by kernel_rfl) h
def af(g:Nat->AV)(d c a f e:AV)(H:aa)(Q:AV->aa->Prop):Prop:=
 jO 3 17 16 d e λx=>
 br (some x) (
 iS H 91 f d λu=>
 aH H 146 u λw=>
 lR H 8 146 λp y=>
 dD y 146 p w λB i=>
 iS i 91 a d λs=>
 aH i 146 s λz=>
 lR i 9 146 λo t=>
 dD t 146 o z λA h=>
 aH h 146 p λm=>
 aH h 146 o λn=>
 ga (aL env true (aN env) (cB env 0) h (Ref.mk 0 29 (aa.gen h 0 29) 0) (some c) [m,n]) λl q=>
 o2 l λk=>
 br (some k) (
 Q (.v (.bool false)) q) (
 mz 3 17 1 d λj=>
  gm env Try.f111 0 ae [(17,j),(2,c),(1,a),(15,f),(16,e)] q Q)) (
 Q (.v (.bool true)) H)
theorem au(e c a f d:AV)(H:aa)(Q:AV->aa->Prop)(h : ∀g,af g e c a f d H Q):gm env Try.f111 0 ae [(17,e),(2,c),(1,a),(15,f),(16,d)] H Q:=Eg aw (by kernel_rfl) h
end
section
attribute [local simp] cC bV bn bW bm kp cI bY bX eQ eP aO ej
structure bK where
 pos:Int
 bs:List UInt8
 av:AV
def bK.enc(s:bK):AV := .agg [aI s.pos,s.av]
def dy(s:bK):Prop:=Sl 1 (cR s.bs) s.av
def an(l:List bK):List AV:=l.map bK.enc
@[simp] theorem pI(l:List bK):(an l).length=l.length:=by simp[an]
def a6(x:AV)(st lf:Int)(dd:Bool):AV := .agg [x,aI st,aI lf,aB dd]
@[simp] theorem JE(a:Int):aN env 154 [aI a]=some (aB false):=by
 refine fK rfl (by kernel_rfl) (pg _ _ _ λg=>?_)
 simp[ca, *,lF]
@[simp] theorem HP(a b:Int):aN env 135 [aI a,aI b]=some (aI (if a<b then -1 else if b<a then 1 else 0)):=by
 refine fK rfl (by kernel_rfl) (n7 _ _ _ _ λg=>?_)
 simp[ca, *,kj]
 repeat' ((first | apply nD<;>intro h | apply kW<;>intro h | apply kX<;>intro h | apply kU<;>intro h | apply kV<;>intro h)<;>(try simp only[decide_eq_true_eq,decide_eq_false_iff_not,gb,nf,bR,iK]at h)<;>(try simp[ca, *]))
 done
theorem Ah(a b:Int)(x:AV)(h:x.one=true)(d : ∀g n,view g (n+1) x=some x):aN env 134 [.agg [aI a,x],aI b]=some (aI (if a<b then -1 else if b<a then 1 else 0)):=by
 refine fK rfl (by kernel_rfl) (rO _ _ _ _ λg=>?_)
 simp[ca, *,nG]
def nth(l:List bK)(q:Int):Nat:=(l.takeWhile λs=>decide (s.pos<q)).length
def fX(l:List bK)(q:Int)(n:Nat):Bool:=match l[n]? with | some s=>decide (s.pos=q) | none=>false
section
variable{l:List bK}{x:AV}{q:Int}{N:Nat}(f:Sl 2 (an l) x)(c : ∀s∈l,dy s)(o:l.length<1000000)(u : ∀k (h:k<l.length),(l[k].pos<q↔k<N))(t:N<=l.length)
include f c o u t
theorem Fy{Q:AV->aa->Prop} : ∀(m i j:Nat)(H:aa),j - i<=m->i<=N->N<=j->j<=l.length->Fr H ->
 (∀y H',y = .tup [aI N,aB (fX l q N)]->Q y H') ->
 gm env Try.f133 0 ah [(1,aI q),(0,x),(2,.fn (.func 134) [] []),(10,aI j),(9,aI i),(8,aI l.length)] H Q:=by
 intro m
 induction m with
 | zero=>
  intro i j H K B C e A b
  obtain rfl:i=j:=by omega
  obtain rfl:i=N:=by omega
  refine aK _ _ _ _ _ _ _ _ λg=>?_
  by_cases a:i<l.length
  ·have U:(an l)[i]?=some (l[i]).enc:=by simp[an,a]
   have n:=(c l[i] (eE _)).r
   have J:=Ah l[i].pos q l[i].av
   have D:bq (an l) i 0 2 true=some (.agg [aI l[i].pos,l[i].av]):=by simp[an,a,bK.enc]
   have P:=J n.2.2.2.2.1 n.2.1
   have p:fX l q i=decide (l[i].pos=q):=by simp[fX,a]
   simp only[p]at b
   have G : ¬l[i].pos<q:=by intro h;exact absurd ((u i a).1 h) (by omega)
   clear u J c
   simp[ca, *,al,f.r,f.idx,bK.enc,sv]
   exact b _ _ (by
    have:decide (l[i].pos<=q)=decide (l[i].pos=q):=by simp only[decide_eq_decide];omega
    rw[this])
  ·have p:fX l q i=false:=by simp[fX,a]
   simp only[p]at b
   simp[ca, *,al,f.r,f.idx,bK.enc,sv]
 | succ m z=>
  intro i j H K B C e A b
  by_cases R:i<j
  ·have W:=IntWalk.i64_in ((i:Int)+j) (by omega)
   refine aK _ _ _ _ _ _ _ _ λg=>?_
   obtain⟨h,p⟩ : ∃h,h=(i+j) / 2:=⟨_,rfl⟩
   have w:h<l.length:=by omega
   have V:(0:Int)<=(i:Int)+j:=by omega
   have Z:(i:Int)+j<=4294967296:=by omega
   have X:((i:Int)+j).fdiv (2 ^ min 1 IntKind.u64.bits)=h:=by rw[show(2:Int) ^ min 1 IntKind.u64.bits=2 from rfl,Dz];omega
   have e2:=IntWalk.i64_in (h:Int) (by omega)
   have Y:=IntWalk.i64_in ((h:Int)+1) (by omega)
   have n:=(c l[h] (eE _)).r
   have P:=Ah l[h].pos q l[h].av n.2.2.2.2.1 n.2.1
   have D:bq (an l) h 0 2 true=some (.agg [aI l[h].pos,l[h].av]):=by simp[an,w,bK.enc]
   have L:=u h w
   have E:=λH'=>z (h+1) j H'
   have F:=λH'=>z i h H'
   have T:j - (h+1)<=m:=by omega
   have O:h - i<=m:=by omega
   have M:h<=l.length:=by omega
   clear z u c p
   simp[ca, *,al,f.r,f.idx,bK.enc,sv]
   by_cases a:h<N
   ·have d:(decide ((if h<N then (-1:Int) else if q<l[h].pos then 1 else 0)<0))=true:=by rw[if_pos a];rfl
    have S:((h+1:Nat):Int)=(h:Int)+1:=by omega
    rw[d]
    have I:=E H T (by omega) C e A b
    rw[S]at I
    simp[*]
   ·have d:(decide ((if h<N then (-1:Int) else if q<l[h].pos then 1 else 0)<0))=false:=by
     rw[if_neg a]
     split<;>rfl
    rw[d]
    have I:=F H O B (by omega) M A b
    simp[*]
  ·exact z i j H (by omega) B C e A b
theorem J7:aN env 133 [x,aI q,.fn (.func 134) [] []]=some (.tup [aI N,aB (fX l q N)]):=by
 refine fK rfl (by kernel_rfl) (ct _ _ _ _ _ λg=>?_)
 have h:=Fy f c o u t (Q:=λy H'=>eK env 133 y H' (.tup [aI N,aB (fX l q N)])) l.length 0 l.length [] (by omega) (by omega) t (a7 _) (by simp(maxDischargeDepth:=12) [z7, *]) (λy H' e=>by rw[e];simp)
 simp[ca, *,aR,f.r]
 exact h
theorem Cz{st lf:Int}{dd:Bool}:aN env 100 [a6 x st lf dd,aI q]=some (.tup [aI N,aB (fX l q N)]):=by
 refine fK rfl (by kernel_rfl) (vi _ _ _ _ λg=>?_)
 have h:=J7 f c o u t
 simp[ca, *,pO,a6,f.r]
end
def dV(a:Int):List bK->Bool
 | []=>true
 | s :: l => !decide (s.pos<=a) && !decide (s.pos>=6146)&&decide (s.bs.length=128)&&dV s.pos l
def tH(st lf:Int)(dd:Bool):Bool := !decide (st<0) && !decide (st>=2147483648) && !decide (lf < -1) && !decide (lf>=2147483648) && !(dd && !decide (lf=0))
def mr(l:List bK)(st lf:Int)(dd:Bool):Bool:=dV (-1) l&&tH st lf dd
section
variable{l:List bK}{x:AV}{st lf:Int}{dd:Bool}(f:Sl 2 (an l) x)(c : ∀s∈l,dy s)(o:l.length<1000000000)
include f c o
theorem zF{r1:Ref}{Q:AV->aa->Prop} : ∀(s:List bK)(k:Nat)(i a:Int)(H:aa),l.drop k=s->k<=l.length->i=k->Fr H->H.get r1=some ⟨4,[a6 x st lf dd],false,false⟩ ->
 (∀y H',y=aI (if dV a s&&tH st lf dd then 0 else 8)->Q y H') ->
 gm env Try.f60 0 iB [(9,aI i),(3,aI a),(7,x),(1,.ptr r1 0 0),(8,aI l.length)] H Q:=by
 intro s
 induction s with
 | nil=>
  rintro k i a H hs hk rfl hF h1 hQ
  obtain rfl:=drop_nil hs hk
  refine m5 _ _ _ _ _ _ _ λg=>?_
  simp only[a6]at h1
  simp[ca, *,j9,f.r]
  repeat' ((first | apply nD<;>intro h | apply kW<;>intro h | apply kX<;>intro h | apply kU<;>intro h | apply kV<;>intro h)<;>(try simp only[decide_eq_true_eq,decide_eq_false_iff_not,gb,nf,bR,iK]at h)<;>(try simp[ca, *]))
  all_goals refine hQ _ _ ?_
  all_goals simp[dV,tH, *]
  all_goals (try omega)
 | cons p s m=>
  rintro k i a H hs hk rfl hF h1 hQ
  obtain⟨A,n,j,d⟩:=drop_cons hs
  have B:=IntWalk.i64_in ((k:Int)+1) (by omega)
  have hp:=(c p (by rw[<-n];exact eE _)).r
  have w:bq (an l) k 0 2 true=some (.agg [aI p.pos,p.av]):=by simp[an,d,bK.enc]
  refine m5 _ _ _ _ _ _ _ λg=>?_
  have b:=λH'=>m (k+1) ((k:Int)+1) p.pos H' j (by omega) (by omega)
  clear m c
  simp only[a6]at h1 b
  simp[ca, *,j9,f.r,f.idx]
  repeat' ((first | apply nD<;>intro h | apply kW<;>intro h | apply kX<;>intro h | apply kU<;>intro h | apply kV<;>intro h)<;>(try simp only[decide_eq_true_eq,decide_eq_false_iff_not,gb,nf,bR,iK]at h)<;>(try simp[ca, *]))
  all_goals first
   | exact hQ _ _ (by simp[dV, *]<;>omega)
   | refine b _ (by simp(maxDischargeDepth:=12) [z7, *]) (by simp[*,sF,sH,pv,pw]) λy H' e=>hQ y H' ?_
  all_goals have z:p.bs.length=128:=by omega
  all_goals simp[e,dV, *]
theorem vv:aN env 60 [a6 x st lf dd]=some (aI (if mr l st lf dd then 0 else 8)):=by
 refine fK rfl (by kernel_rfl) (tp _ _ _ λg=>?_)
 have h:=zF (st:=st) (lf:=lf) (dd:=dd) f c o (r1:=⟨0,1,0,0⟩) (Q:=λy H'=>eK env 60 y H' (aI (if mr l st lf dd then 0 else 8))) l 0 0 (-1) [(⟨0,1,0,0⟩,some ⟨4,[a6 x st lf dd],false,false⟩)] rfl (by omega) rfl (by simp(maxDischargeDepth:=12) [z7, *]) (by simp) (λy H' e=>by rw[e];unfold mr;split<;>simp)
 simp only[a6]at h ⊢
 simp[ca, *,oJ,f.r]
 exact h
theorem qU{q:Int}:aN env 99 [a6 x st lf dd,aI q]=some (aI (if mr l st lf dd then (if 0<=q/\q<6146 then 0 else 2) else 8)):=by
 refine fK rfl (by kernel_rfl) (tn _ _ _ _ λg=>?_)
 have h:=vv (st:=st) (lf:=lf) (dd:=dd) f c o
 simp only[a6]at h ⊢
 cases a:mr l st lf dd<;>simp[a]at h
 ·simp[ca, *,lN,f.r]
 ·simp[ca, *,lN,f.r]
  repeat' ((first | apply nD<;>intro h | apply kW<;>intro h | apply kX<;>intro h | apply kU<;>intro h | apply kV<;>intro h)<;>(try simp only[decide_eq_true_eq,decide_eq_false_iff_not,gb,nf,bR,iK]at h)<;>(try simp[ca, *]))
  all_goals omega
end
theorem IX:cK env.P .eql 91 (.tmp 3) (.const (.slice none 0 0)) (some bt) (some bt)=some (aB true,[]):=by kernel_rfl
def AW(s:bK):bK:=⟨s.pos,s.bs,.cE 1 (cR s.bs) none⟩
def kg(l:List bK):List bK:=l.map AW
@[simp] theorem JB(l:List bK):(kg l).length=l.length:=by simp[kg]
theorem vk(l:List bK) : ∀s∈kg l,dy s:=by
 intro s a
 obtain⟨p,_,rfl⟩:=gy.1 a
 exact Sl.mk _ _
section
variable{l:List bK}{x:AV}{st lf:Int}{dd:Bool}(f:Sl 2 (an l) x)(c : ∀s∈l,dy s)(v : ∀s∈l,s.bs.length=128)(o:l.length<1000000)
include f c v o
end
def jP:AV:=a6 bt 0 0 false
theorem lD : ∀(l:List bK)(a:Int),dV a l=true ->∀s∈l,s.bs.length=128:=by
 intro l
 induction l with
 | nil=>intro a h s b;cases b
 | cons p l d=>
  intro a h s b
  simp[dV]at h
  rcases dg.1 b with rfl | b
  ·exact h.1.2
  ·exact d _ h.2 s b
section
variable{l:List bK}{x:AV}{st lf:Int}{dd:Bool}(f:Sl 2 (an l) x)(c : ∀s∈l,dy s)(o:l.length<1000000)
include f c o
end
end
end Go.Proofs.Ytjampffmlnplcaa
namespace Go.Proofs.Ytjampffmlnplcaa
open Go.Ab Go.ChangeShapes Go.WideShapes Go.RowKit
theorem EP:Iq env.P 146 dy (λs:bK=>[aI s.pos,s.av]):=by
 intro n d h
 have h:=uf (P:=env.P) pG h
 obtain⟨m,x,r,rfl,b,y,r',rfl,c,rfl⟩:=h
 obtain⟨i,_,rfl⟩:=qW (P:=env.P) (t:=3) (by simp) _ _ b
 obtain⟨l,z,rfl,a⟩:=wU (P:=env.P) (t:=98) (e:=5) (by simp) (by simp) (by simp) (by simp) c
 exact⟨⟨i,l,z⟩,a,rfl⟩
theorem Cy{n:Nat}{x:AV}(h:BR env.P n 93 x) : ∃(l:List bK) (y:AV) (st lf:Int) (dd:Bool),(∀s∈l,dy s)/\Sl 2 (an l) y/\x=a6 y st lf dd:=by
 obtain⟨y,rfl,a⟩:=h.agg (by simp)
 have h:=uf (P:=env.P) xI a
 obtain⟨m,k,r1,rfl,c,i,r2,rfl,d,p,r3,rfl,e,j,o,rfl,g,rfl⟩:=h
 obtain⟨l,z,f,rfl,s⟩:=wT (P:=env.P) wM uc wP EP c
 obtain⟨st,_,rfl⟩:=qW (P:=env.P) (t:=3) (by simp) _ _ d
 obtain⟨lf,_,rfl⟩:=qW (P:=env.P) (t:=3) (by simp) _ _ e
 obtain⟨b,_,rfl⟩:=CD (P:=env.P) (t:=4) (by simp) _ _ g
 exact⟨l,z,st,lf,b,f,s,rfl⟩
end Go.Proofs.Ytjampffmlnplcaa
namespace Go.Proofs.Ytjampffmlnplcaa
open Go.Ab
section
attribute [local simp] cC bV bn bW bm kp cI bY bX eQ eP aO ej
end
section
attribute [local simp] cC bV bn bW bm kp cI bY bX eQ eP aO ej
theorem zP : ∀(l:List bK)(a:Int),dV a l=true ->∀s∈l,a<s.pos:=by
 intro l
 induction l with
 | nil=>intro a h s e;cases e
 | cons p l f=>
  intro a h s e
  simp[dV]at h
  rcases dg.1 e with rfl | e
  ·exact h.1.1.1
  ·have:=f _ h.2 s e;have:=h.1.1.1;omega
theorem ze(l:List bK)(q:Int):nth l q<=l.length:=by
 unfold nth
 exact(List.takeWhile_sublist _).length_le
theorem xk(q:Int) : ∀(l:List bK)(a:Int),dV a l=true ->∀k (h:k<l.length),(l[k].pos<q↔k<nth l q):=by
 intro l
 induction l with
 | nil=>intro a h k f;exact absurd f (by simp)
 | cons p l i=>
  intro a h k f
  have j:=zP l p.pos (by simp[dV]at h;exact h.2)
  have g:dV p.pos l=true:=by simp[dV]at h;exact h.2
  unfold nth
  by_cases hp:p.pos<q
  ·rw[vd (by simpa using hp),kC]
   cases k with
   | zero=>simp[hp]
   | succ k=>
    have e:k<l.length:=by simpa using f
    have:=i p.pos g k e
    unfold nth at this
    simp only[List.getElem_cons_succ]
    rw[this]
    omega
  ·rw[vc (by simpa using hp)]
   cases k with
   | zero=>simp[hp]
   | succ k=>
    have e:k<l.length:=by simpa using f
    have:=j l[k] (eE _)
    simp only[List.getElem_cons_succ,ra]
    omega
theorem iC{l:List bK}{st lf:Int}{dd:Bool}(h:mr l st lf dd=true):dV (-1) l=true:=by
 unfold mr at h
 simp at h
 exact h.1
def GM(l:List bK)(q:Int):List UInt8:=if fX l q (nth l q) then ((l[nth l q]?).map (·.bs)).getD [] else List.replicate 128 0
section
variable{l:List bK}{x:AV}{st lf:Int}{dd:Bool}(c:Sl 2 (an l) x)(b : ∀s∈l,dy s)(d:l.length<1000000)
include c b d
end
end
section
attribute [local simp] cC bV bn bW bm kp cI bY bX eQ eP aO ej
theorem Gs : ∀(l:List bK)(a:Int),dV a (kg l)=dV a l:=by
 intro l
 induction l with
 | nil=>intro a;rfl
 | cons p l h=>intro a;show(_&&dV p.pos (kg l))=_;rw[h];rfl
theorem Gq(l:List bK)(q:Int):nth (kg l) q=nth l q:=by
 unfold nth
 induction l with
 | nil=>rfl
 | cons p l j=>
  show((AW p :: kg l).takeWhile _).length=_
  by_cases h:p.pos<q
  ·have a:decide ((AW p).pos<q)=true:=decide_eq_true h
   have i:decide (p.pos<q)=true:=decide_eq_true h
   rw[vd (p:=λs:bK=>decide (s.pos<q)) a,vd (p:=λs:bK=>decide (s.pos<q)) i,kC,kC,j]
  ·have a : ¬decide ((AW p).pos<q)=true:=by rw[decide_eq_true_eq];exact h
   have i : ¬decide (p.pos<q)=true:=by rw[decide_eq_true_eq];exact h
   rw[vc (p:=λs:bK=>decide (s.pos<q)) a,vc (p:=λs:bK=>decide (s.pos<q)) i]
theorem Gr(l:List bK)(q:Int)(n:Nat):fX (kg l) q n=fX l q n:=by
 unfold fX kg
 rw[fU]
 cases l[n]?<;>rfl
def np(q:Int)(b:List UInt8):bK:=⟨q,b,.cE 1 (cR b) none⟩
def Cd(l:List bK)(q:Int)(b:List UInt8):List bK:=
 if fX l q (nth l q) then (kg l).set (nth l q) (np q b) else (kg l).take (nth l q)++np q b :: (kg l).drop (nth l q)
theorem Hl{l:List bK}{q:Int}{n:Nat}(a:fX l q n=true) : ∃h:n<l.length,l[n].pos=q:=by
 unfold fX at a
 cases h:l[n]? with
 | none=>rw[h]at a;cases a
 | some s=>
  obtain⟨i,j⟩:=bL.1 h
  rw[h]at a
  exact⟨i,by rw[j];simpa using a⟩
section
variable{l:List bK}{x d:AV}{st lf:Int}{dd:Bool}{b:List UInt8}(e:Sl 2 (an l) x)(c : ∀s∈l,dy s)(g:l.length<500000)(f:Sl 1 (cR b) d)
include e c g f
end
end
section
attribute [local simp] cC bV bn bW bm kp cI bY bX eQ eP aO ej
theorem vR:env.Ok (nA env):=vQ sJ (by kernel_rfl) zA (λf t h=>by cases h) (λf args H y H' h=>by
 by_cases e:f=101
 ·rw[if_pos e]at h
  rw[e]
  exact ins.uH args H y H' h
 ·rw[if_neg e]at h;cases h)
theorem pB{E:Env}{ok:Array Oper->Bool}(a:E.Ok ok){dep:Nat}{f:FuncId}{args:List AV}{H H':aa}{y:AV}(h:cB E dep (.fn f) args H=some (y,H')):dC E.P (.fn f) args H y H':=by
 obtain⟨m,hm⟩:=kq.1 h
 exact mF a (yY a m) (hm m (a7 _))
theorem vK{x:AV}{n:Nat}{a:Ref}{b:Option Nat}{bv:ax}{v:AV}{H H':aa}{y:AV}(m:H.get a=some bv)(j:bv.es=[v])(k:bS env.P false H.get ⟨1,19,H.gen 1 19,0⟩ .len #[91] [x]=some (aI n,[]))
 (f : ∃z,dN env.P H.get 91 (some x) (some (some (n:Int))) (some none) (some none)=some (z,[]))
 (l:eO env.P true H ⟨1,25,H.gen 1 25,0⟩ (some 91) (some 91) x (.aD a 0 1 b)=some (y,H'))
 (h:jc Try.prog 91 40 [x,aI n,.aD a 0 1 b] H=none) :
 cB env 0 (.fn 101) [x,aI n,.aD a 0 1 b] H=some (y,H'):=by
 obtain⟨e,d,i,rfl,rfl⟩ : ∃e d,cB env 0 (.fn 101) [x,aI n,.aD a 0 1 b] H=some (e,d)/\e=y/\d=H':=by
  refine mh (fn:=Try.f101) (c:=dn) (by kernel_rfl) (by kernel_rfl) (by kernel_rfl) (by kernel_rfl) (by kernel_rfl) ?_ ?_
  ·refine dk _ _ _ _ _ _ λg=>?_
   obtain⟨z,f⟩:=f
   simp[ca, *,bC,f,k,l]
  ·exact h
 exact i
theorem He(H:aa)(r:Ref)(n:Nat)(i:Ref)(o:Option Nat)(b bv:ax)(v:AV)(z by':Nat)(e:D4 Try.prog 91 H r n i b bv v z by')(J:Fr H) :
 dC Try.prog (.fn 101) [.aD r 0 n none,.v (.int .i64 n),.aD i 0 1 o] H (.aD (lL H r) 0 (n+1) none) ((lL H r,some { b with es:=b.es++[v]}) :: H.put r none):=by
 obtain⟨f,g,l,x,k,w,q,u,m,y,B,c,C,a,h⟩:=e
 have p:(bg Try.prog 91).bind (ay Try.prog)=some 2:=by kernel_rfl
 have s:(bg Try.prog 91).bind (db Try.prog)=some 32:=by kernel_rfl
 rw[p]at l
 rw[s]at x
 cases l
 cases x
 obtain⟨G,es,K,I⟩:=b
 obtain⟨E,j,D,A⟩:=bv
 simp only at k w q u m c a
 subst k w q u m c a
 have d:Ec H.get 2 [v] (.aD i 0 1 o) := .inr ⟨rfl,by simp,by simp[aV,g]⟩
 have F:=yb (P:=env.P) (t:=91) (t':=91) (z:=2) (by':=32) (by kernel_rfl) (by kernel_rfl) H ⟨1,25,H.gen 1 25,0⟩ r es.length d f rfl (by simp) (by simpa using h)
 refine pB vR (vK g rfl (by simp) ⟨.aD r es.length 0 none,by simp[dN,f,bounds]⟩ F ?_)
 simp[jc,f,g,p,s]
theorem Hb(H:aa)(x:AV)(c:Ref)(e:Option Nat)(bv:ax)(v:AV)(z by':Nat)(g:H.get c=some bv)(l:(bg Try.prog 91).bind (ay Try.prog)=some z)(p:(bg Try.prog 91).bind (db Try.prog)=some by')(k:bv.es=[v])
 (a:mn z H.get x=true) (o:bv.arr=true) (m:bv.esz=z) (q:1<z) (w:0<by') (u:by'<=aO) (I:Fr H) :
 dC Try.prog (.fn 101) [x,.v (.int .i64 0),.aD c 0 1 e] H (.aD (ic 25 H) 0 1 none) ((ic 25 H,some ⟨z,[v],true,false⟩) :: H):=by
 have B:(bg Try.prog 91).bind (ay Try.prog)=some 2:=by kernel_rfl
 have C:(bg Try.prog 91).bind (db Try.prog)=some 32:=by kernel_rfl
 rw[B]at l
 rw[C]at p
 cases l
 cases p
 obtain⟨E,j,A,s⟩:=bv
 simp only at k o m
 subst k o m
 have f:eL 2 H.get (.aD c 0 1 e)=some [v]:=by simp[eL,aV,g,DH]
 unfold mn at a
 split at a
 ·refine pB vR (vK (n:=0) g rfl (by simp) ⟨bt,by kernel_rfl⟩ ?_ rfl)
  have h:=zQ (P:=env.P) (t:=91) (t':=91) (by kernel_rfl) (by kernel_rfl) true H ⟨1,25,H.gen 1 25,0⟩ (.aD c 0 1 e) (by rw[show jg env.P 91=2 from by kernel_rfl,f];rfl)
  rw[h,show jg env.P 91=2 from by kernel_rfl,f,show mQ env.P 91=32 from by kernel_rfl]
  simp[pL,ic]
 ·rename_i r
  split at a
  ·rename_i b d
   obtain⟨F,es,G,y⟩:=b
   simp only[bR,beq_iff_eq,List.isEmpty_iff]at a
   obtain⟨⟨rfl,rfl⟩,rfl⟩:=a
   have i:jg env.P 91=2:=by kernel_rfl
   have D:mQ env.P 91=32:=by kernel_rfl
   have h:=qD (P:=env.P) (t:=91) (t':=91) (by kernel_rfl) (by kernel_rfl) true H ⟨1,25,H.gen 1 25,0⟩ r 0 0 (.aD c 0 1 e) (es:=[]) (new:=[v]) (fz:=y) (by rw[i];exact d) (by rw[i];exact f) rfl (.inr ⟨by rw[D];simp[aO],by simp⟩)
   rw[i,if_neg (by simp)]at h
   refine pB vR (vK (n:=0) g rfl (by simp) ⟨.aD r 0 0 (some 0),by simp[dN,d,bounds]⟩ h ?_)
   simp[jc]
  ·cases a
 ·cases a
theorem BI(args:List AV)(H:aa)(y:AV)(H':aa)(h:lC Try.prog 91 40 25 args H=some (y,H')):dC Try.prog (.fn 101) args H y H':=
 zD ⟨Try.f101,by kernel_rfl,by kernel_rfl,by kernel_rfl⟩ ins.uH He Hb h
end
end Go.Proofs.Ytjampffmlnplcaa
