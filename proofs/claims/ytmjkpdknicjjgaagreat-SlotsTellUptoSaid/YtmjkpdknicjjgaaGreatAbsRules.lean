/-
  The arguments of a law: from what is read before the call to data. No statement of a seat is proved here.
-/
import Derived.ChangeKeysEq
import Derived.Laws.Strings
import Derived.Test.YtmjkpdknicjjgaaGreatAbsCond
set_option linter.unusedVariables false
set_option linter.unusedSimpArgs false
set_option linter.unusedSectionVars false
set_option linter.unnecessarySimpa false
set_option linter.defProp false
namespace Go.Ab
open Go.ChangeShapes Go.WideShapes Go.RowKit
def JH(b:Bool)(a:List AV):AV:=match b,a with
 | false,[x]=>x
 | _,a => .agg a
def Oy(S:List AV->Prop):Nat->List AV->Prop
 | 0,xs=>xs=[]
 | k+1,xs =>∃a b,xs=a++b/\S a/\Oy S k b
def XM(S:TypeId->List AV->Prop):List Field->List AV->Prop
 | [],xs=>xs=[]
 | f :: c,xs =>∃a b,xs=a++b/\S f.type a/\XM S c b
def Ei(P:Program):Nat->TypeId->List AV->Prop
 | 0,_,_=>False
 | n+1,t,xs=>match P.underlying t with
  | some .bool =>∃b,xs=[aB b]
  | some (.int k) =>∃i,(k.min<=i/\i<=k.max)/\xs=[.v (.int k i)]
  | some .string =>∃s:ByteArray,xs=[aS s]
  | some (.slice e)=>xs=[aO] \/∃es:List (List AV),xs=[.bg (P.cellsOf e) (es.map (JH ((eK P e).getD false))) none] /\∀x∈es,Ei P n e x
  | some (.struct a)=>XM (Ei P n) a.toList xs
  | some (.array k e)=>Oy (Ei P n e) k xs
  | _=>False
def layout(P:Program):List Field->Nat->Option Nat
 | [],o=>some o
 | f :: a,o=>if f.offset=o then layout P a (o+P.cellsOf f.type) else none
def plain(P:Program):Nat->TypeId->Bool
 | 0,_=>false
 | n+1,t=>match P.underlying t with
  | some .bool | some (.int _) | some .string=>P.cellsOf t == 1
  | some (.slice e)=>P.cellsOf t == 1&&plain P n e&&decide (0<P.cellsOf e)
  | some (.struct a)=>a.toList.all (λf=>plain P n f.type)&&layout P a.toList 0 == some (P.cellsOf t)
  | some (.array k e)=>plain P n e&&P.cellsOf t == k * P.cellsOf e
  | _=>false
def Ei.facts{P:Program} : ∀(n:Nat)(t:TypeId)(c:List AV),plain P n t=true->Ei P n t c->c.length=P.cellsOf t /\∀x∈c,x.one=true:=by
 intro n;induction n with
 | zero=>intro t c h;simp[plain]at h
 | succ n I=>
  intro t c hp g;unfold plain at hp;unfold Ei at g;cases G:P.underlying t with
  | none=>rw[G]at g;exact g.elim
  | some d=>
   rw[G]at hp g;cases d<;>dsimp only at hp g<;>try (exact g.elim)
   ·obtain⟨b,rfl⟩:=g;simp at hp;exact⟨by simp[hp],by simp[AV.one]⟩
   ·obtain⟨i,_,rfl⟩:=g;simp at hp;exact⟨by simp[hp],by simp[AV.one]⟩
   ·obtain⟨s,rfl⟩:=g;simp at hp;exact⟨by simp[hp],by simp[AV.one]⟩
   ·rename_i e;simp only[bo,iQl]at hp;rw[hp.1.1];rcases g with rfl | ⟨es,rfl,_⟩
    ·simp[AV.one]
    simp[AV.one]
   ·rename_i k e;simp only[bo,iQl]at hp;rw[hp.2];have : ∀(k:Nat)(c:List AV),Oy (Ei P n e) k c->c.length=k * P.cellsOf e /\∀x∈c,x.one=true:=by
     intro k;induction k with
     | zero=>intro c h;simp only[Oy]at h;subst h;simp
     | succ k D=>
      intro c h;obtain⟨a,b,rfl,E,z⟩:=h;obtain⟨p,q⟩:=I e a hp.1 E;obtain⟨y,v⟩:=D b z;refine⟨by rw[ja,p,y,GH];omega,λx u=>?_⟩;rcases mq.1 u with h | h
      ·exact q x h
      exact v x h
    exact this k c g
   rename_i L;simp only[bo,iQl,gf]at hp;have : ∀(l:List Field)(o:Nat)(c:List AV),(∀f∈l,plain P n f.type=true)->XM (Ei P n) l c->(∀m,layout P l o=some m->o+c.length=m) /\∀x∈c,x.one=true:=by
    intro l;induction l with
    | nil=>intro o c _ h;simp only[XM]at h;subst h;exact⟨λm j=>by simp[layout]at j;simp[j],by simp⟩
    | cons f l F=>
     intro o c J h;obtain⟨a,b,rfl,E,z⟩:=h;obtain⟨p,q⟩:=I f.type a (J f (j6 ..)) E;obtain⟨y,v⟩:=F (o+P.cellsOf f.type) b (λf K=>J f (j7 _ K)) z;refine⟨λm j=>?_,λx u=>?_⟩
     ·unfold layout at j;split at j;·have:=y m j;rw[ja,p];omega
      cases j
     rcases mq.1 u with h | h
     ·exact q x h
     exact v x h
   obtain⟨p,q⟩:=this L.toList 0 c hp.1 g;exact⟨by have:=p _ hp.2;omega,q⟩
def PX{c:Bool}{a:List AV}(b : ∀x∈a,x.one=true):(JH c a).cells=a:=by
 unfold JH;split;·rename_i x;have:=b x (by simp);cases x<;>first | rfl | (simp[AV.one]at this)
 rfl
section
variable{H:Type}{enc:TypeId × Value->H}{P:Program}{w:World}{B:Nat}{A:Nat->Bool}{C:Bool}
abbrev wb(w:World):Mem:=λb o=>w.cell? ⟨b,o,none⟩
def Uu(P:Program)(n:Nat)(t:TypeId)(x:AV):Prop:=
 match eK P t with
 | some true =>∃a,x = .agg a/\Ei P n t a
 | _=>Ei P n t [x]
def QK(P:Program)(n:Nat):List TypeId->List AV->Prop
 | [],[]=>True
 | t :: a,x :: xs=>Uu P n t x/\QK P n a xs
 | _,_=>False
end
def MH{H:Type}{enc:TypeId × Value->H}{P:Program}{w:World}{B:Nat}{A:Nat->Bool}{C:Bool} : ∀ {a:List TypeId} {b:List Value} {ds:List (DataW H)} {ps:List MemPlace},
 DataW.TrodAll enc P w B A C a b ds ps->ds.length=a.length:=by
 intro a;induction a with
 | nil=>intro b ds ps h;obtain⟨_,rfl,_⟩:=trodAll_nil h;rfl
 | cons t a f=>intro b ds ps h;obtain⟨v,c,d,e,p,q,rfl,rfl,rfl,_,g⟩:=trodAll_cons h;simp[f g]
def J2{P:Program}{n:Nat}{t:TypeId}{c:List TypeId}{a:List AV}(h:QK P n (t :: c) a) : ∃x b,a=x :: b/\Uu P n t x/\QK P n c b:=by
 cases a with| nil=>exact h.elim| cons x a=>exact⟨x,a,rfl,h.1,h.2⟩
def Vk{P:Program}{n:Nat}{a:List AV}(h:QK P n [] a):a=[]:=by
 cases a with| nil=>rfl| cons x a=>exact h.elim
end Go.Ab
namespace Go.Ab
def QL{c:Type}(P:Program)(t:TypeId)(ok:c->Prop)(enc:c->List AV):Prop :=∀n b,Ei P n t b ->∃a,ok a/\b=enc a
def isBool(P:Program)(t:TypeId):Bool:=match P.underlying t with | some .bool=>true | _=>false
def iT(P:Program)(t:TypeId):Option (List TypeId):=match P.underlying t with | some (.struct a)=>some (a.toList.map (·.type)) | _=>none
def M5{P:Program}{t:TypeId}(h:isBool P t=true):QL P t (λ_=>True) λb:Bool=>[aB b]:=by
 intro n d a;cases n with
 | zero=>exact a.elim
 | succ n=>
  unfold isBool at h;unfold Ei at a;split at h;·rename_i c;rw[c]at a;obtain⟨b,rfl⟩:=a;exact⟨b,trivial,rfl⟩
  cases h
def Gh{P:Program}{t:TypeId}{k:IntKind}(h:intKind P t=some k):QL P t (λi:Int=>k.min<=i/\i<=k.max) λi:Int=>[.v (.int k i)]:=by
 intro n b a;cases n with
 | zero=>exact a.elim
 | succ n=>unfold Ei at a;rw[DQ h]at a;obtain⟨i,hi,rfl⟩:=a;exact⟨i,hi,rfl⟩
def ve{P:Program}{t:TypeId}(h:intKind P t=some .i64):QL P t (λi:Int => -9223372036854775808<=i/\i<=9223372036854775807) λi:Int=>[aI i]:=λn a b=>by
 obtain⟨i,hi,rfl⟩:=Gh h n a b;exact⟨i,hi,rfl⟩
def Zf{P:Program}{t:TypeId}(h:intKind P t=some .i32):QL P t (λi:Int => -2147483648<=i/\i<=2147483647) λi:Int=>[.v (.int .i32 i)]:=λn a b=>by
 obtain⟨i,hi,rfl⟩:=Gh h n a b;exact⟨i,hi,rfl⟩
def M6{P:Program}{t:TypeId}(h:intKind P t=some .u8):QL P t (λ_=>True) λb:UInt8=>[a8 b]:=λn c d=>by
 obtain⟨i,hi,rfl⟩:=Gh h n c d;refine⟨u8 i,trivial,?_⟩;have a:(0:Int)<=i:=hi.1;have e:i<=255:=hi.2;unfold a8;show[AV.v (.int .u8 i)]=[AV.v (.int .u8 ((u8 i).toNat:Int))];rw[qU,OK a (by omega),Db a]
def acJ{P:Program}{t:TypeId}(h:intKind P t=some .u32):QL P t (λ_=>True) λb:UInt32=>[bR b]:=λn c d=>by
 obtain⟨i,hi,rfl⟩:=Gh h n c d;refine⟨u32 i,trivial,?_⟩;have a:(0:Int)<=i:=hi.1;have e:i<=4294967295:=hi.2;unfold bR;show[AV.v (.int .u32 i)]=[AV.v (.int .u32 ((u32 i).toNat:Int))];rw[vP,OK a (by omega),Db a]
def ZI{d:Type}{ok:d->Prop}{enc:d->List AV} : ∀(es:List (List AV)),(∀x∈es,∃a,ok a/\x=enc a) ->∃l:List d,(∀a∈l,ok a)/\es=l.map enc:=by
 intro es;induction es with
 | nil=>intro _;exact⟨[],by simp,rfl⟩
 | cons x es f=>
  intro h;obtain⟨a,g,rfl⟩:=h x (j6 ..);obtain⟨l,i,rfl⟩:=f λx e=>h x (j7 _ e);refine⟨a :: l,?_,rfl⟩;intro b c;rcases fh.1 c with rfl | c
  ·exact g
  exact i b c
def Sp{P:Program}{t e:TypeId}(h:ca P t=some e):P.underlying t=some (.slice e):=by
 unfold ca at h;split at h;·cases h;assumption
 cases h
def Dm{c:Type}{P:Program}{t e:TypeId}{z:Nat}{g:Bool}{ok:c->Prop}{enc:c->List AV}(j:ca P t=some e)(d:aE P e=some z)(o:eK P e=some g)(k:QL P e ok enc){n:Nat}{f:List AV}(h:Ei P n t f) :
 ∃(l:List c) (x:AV),(∀a∈l,ok a)/\f=[x]/\Sl z (l.map λa=>JH g (enc a)) x:=by
 cases n with| zero=>exact h.elim| succ n=>
  unfold Ei at h;rw[Sp j]at h;rcases h with rfl | ⟨es,rfl,b⟩
  ·exact⟨[],aO,by simp,rfl,.inl ⟨rfl,rfl⟩⟩
  obtain⟨l,p,rfl⟩:=ZI es λx i=>k n x (b x i);have m:P.cellsOf e=z:=(by unfold aE at d;unfold Program.cellsOf;rw[d];rfl);refine⟨l,_,p,rfl,?_⟩;rw[m,o,GG];exact Sl.mk z _
def Vm{P:Program}{t e:TypeId}(b:ca P t=some e)(f:intKind P e=some .u8)(c:aE P e=some 1)(g:eK P e=some false){n:Nat}{a:List AV}(h:Ei P n t a) : ∃(l:List UInt8) (x:AV),a=[x]/\Sl 1 (au l) x:=by
 obtain⟨l,x,_,rfl,d⟩:=Dm b c g (M6 f) h;exact⟨l,x,rfl,d⟩
def Uu.cell{P:Program}{n:Nat}{t:TypeId}{x:AV}(a:eK P t=some false)(h:Uu P n t x):Ei P n t [x]:=by
 unfold Uu at h;rw[a]at h;exact h
def Uu.agg{P:Program}{n:Nat}{t:TypeId}{x:AV}(b:eK P t=some true)(h:Uu P n t x) : ∃a,x = .agg a/\Ei P n t a:=by
 unfold Uu at h;rw[b]at h;exact h
def ahH(S:TypeId->List AV->Prop):List TypeId->List AV->Prop
 | [],xs=>xs=[]
 | t :: c,xs =>∃a b,xs=a++b/\S t a/\ahH S c b
def n8{P:Program}{t:TypeId}{e:List TypeId}(c:iT P t=some e){n:Nat}{d:List AV}(h:Ei P n t d) : ∃m,ahH (Ei P m) e d:=by
 cases n with| zero=>exact h.elim| succ n=>
  unfold iT at c;split at c
  ·rename_i g k;cases c;unfold Ei at h;rw[k]at h;refine⟨n,?_⟩;dsimp only at h;generalize g.toList=l at h;induction l generalizing d with
   | nil=>exact h
   | cons f l i=>obtain⟨a,b,rfl,o,j⟩:=h;exact⟨a,b,rfl,o,i j⟩
  cases c
def yU(P:Program)(d e c:Nat)(g f:Array Value):List Nat->Option Bool
 | []=>some true
 | i :: is=>match bE P (part e g (i * c)),bE P (part e f (i * c)) with
  | some a,some b=>(match bE P (Op.equalIn d e a b) with
   | some true=>yU P d e c g f is
   | some false=>some false
   | none=>none)
  | _,_=>none
def Rw{P:Program}{t:TypeId}{z:Nat}(h:aE P t=some z):bE P (sizeOf t)=some z:=by
 simp only[aE,bI]at h;obtain⟨i,hi,rfl⟩:=h;simp only[sizeOf,typeInfo,bU];show((some P).bind _).bind _=_;simp only[eD,hi];rfl
def EP{P:Program}(d:Nat){t e:TypeId}{n c:Nat}(g f:Array Value)(h:P.underlying t=some (.array n e))(hi:aE P e=some c) :
 bE P (Op.equalIn (d+1) t (.agg g) (.agg f))=yU P d e c g f (List.range n):=by
 simp only[Op.equalIn,bU,oJ h,eD,Rw hi];simp only[Std.Legacy.Range.forIn_eq_forIn_range',Std.Legacy.Range.size,Nat.sub_zero,Nat.add_one_sub_one,Nat.div_one,OQ];generalize List.range' 0 n=is;induction is with
 | nil=>rfl
 | cons j is i=>
  simp only[List.forIn_cons,yU,bU];cases l:bE P (part e g (j * c)) with
  | none=>rfl
  | some a=>
   cases m:bE P (part e f (j * c)) with| none=>rfl| some b=>
    simp only[eD];cases k:bE P (Op.equalIn d e a b) with
    | none=>rfl
    | some r=>
     cases r;·rfl
     simp only[eD,AD,eW,iQe];exact i
def vt(P:Program)(d:Nat)(e c:Array Value):List Field->Option Bool
 | []=>some true
 | f :: g=>match bE P (part f.type e f.offset),bE P (part f.type c f.offset) with
  | some a,some b=>(match bE P (Op.equalIn d f.type a b) with
   | some true=>vt P d e c g
   | some false=>some false
   | none=>none)
  | _,_=>none
def Dv{P:Program}(d:Nat){t:TypeId}{c:Array Field}(i h:Array Value)(n:P.underlying t=some (.struct c))(k:P.stoodInHeld t=false)(e : ∀f∈c.toList,(f.name != "_")=true) :
 bE P (Op.equalIn (d+1) t (.agg i) (.agg h))=vt P d i h c.toList:=by
 have hp:bE P program=some P:=rfl;simp only[Op.equalIn,bU,oJ n,eD,hp,k,eW,iQe];simp only[<-Array.forIn_toList];generalize c.toList=is at e;induction is with
 | nil=>rfl
 | cons f is o=>
  have j:f.name ≠ "_" := by simpa using e f (j6 ..)
  simp only[List.forIn_cons,vt,bU,j,ne_eq,not_false_eq_true,if_true];have m:bE P (pure PUnit.unit:Sem PUnit)=some PUnit.unit:=rfl;cases q:bE P (part f.type i f.offset) with
  | none=>rfl
  | some a=>
   cases s:bE P (part f.type h f.offset) with| none=>rfl| some b=>
    simp only[eD];cases p:bE P (Op.equalIn d f.type a b) with
    | none=>rfl
    | some r=>
     cases r;·rfl
     simp only[eD,AD,eW,iQe];exact o λg l=>e g (j7 _ l)
def CY:List AV->List AV->Option Bool
 | [.v (.bool a)],[.v (.bool b)]=>some (decide (a=b))
 | [.v (.int k a)],[.v (.int k' b)]=>if k=k' then some (decide (a=b)) else none
 | [.v (.string a)],[.v (.string b)]=>some (a == b)
 | _,_=>none
def gz(S:TypeId->List AV->List AV->Option Bool)(P:Program):List TypeId->List AV->List AV->Option Bool
 | [],_,_=>some true
 | t :: d,xs,c=>match aE P t with
  | none=>none
  | some z=>match S t (xs.take z) (c.take z),gz S P d (xs.drop z) (c.drop z) with
   | some a,some b=>some (a&&b)
   | _,_=>none
def Ku(S:List AV->List AV->Option Bool)(z:Nat):Nat->List AV->List AV->Option Bool
 | 0,_,_=>some true
 | k+1,xs,c=>match S (xs.take z) (c.take z),Ku S z k (xs.drop z) (c.drop z) with
  | some a,some b=>some (a&&b)
  | _,_=>none
def ox(P:Program)(t:TypeId):Option Nat:=match P.underlying t with
 | some .bool=>some 0
 | some (.int _)=>some 1
 | some .string=>some 2
 | _=>none
def Kl:AV->Nat
 | .v (.bool _)=>0
 | .v (.int _ _)=>1
 | .v (.string _)=>2
 | _=>3
def od(P:Program):Nat->TypeId->List AV->List AV->Option Bool
 | 0,_,_,_=>none
 | n+1,t,xs,a=>match ox P t with
  | some l=>(match xs,a with
   | [x],[y]=>cond (Nat.beq (Kl x) l) (CY [x] [y]) none
   | _,_=>none)
  | none=>match iT P t with
   | some b=>gz (od P n) P b xs a
   | none=>match ly P t with
    | some (k,e)=>(match aE P e with
     | some z=>Ku (od P n e) z k xs a
     | none=>none)
    | none=>none
def IP(P:Program):Nat->TypeId->Bool
 | 0,_=>false
 | n+1,t=>match P.underlying t with
  | some .bool | some (.int _) | some .string=>eK P t == some false&&aE P t == some 1
  | some (.struct a)=>a.toList.all (λf=>IP P n f.type&&f.name != "_")&&layout P a.toList 0 == some (P.cellsOf t) && !P.stoodInHeld t
  | some (.array k e)=>IP P n e&&P.cellsOf t == k * P.cellsOf e
  | _=>false
def tg(a:List AV):Option (List Value):=a.mapM JY
def Bs{a:List AV}{b:List Value}(h:tg a=some b)(n:Nat):tg (a.take n)=some (b.take n):=by
 unfold tg at *;induction a generalizing b n with
 | nil=>simp at h;subst h;simp
 | cons x a f=>
  simp only[nP,sP,tV,iF]at h;obtain⟨v,g,d,c,e⟩:=h;cases e;cases n with
  | zero=>simp
  | succ n=>simp only[List.take_succ_cons,nP,g,f c n];rfl
def Bt{b:List AV}{c:List Value}(h:tg b=some c)(n:Nat):tg (b.drop n)=some (c.drop n):=by
 unfold tg at *;induction b generalizing c n with
 | nil=>simp at h;subst h;simp
 | cons x b f=>
  simp only[nP,sP,tV,iF]at h;obtain⟨v,g,d,a,e⟩:=h;cases e;cases n with
  | zero=>simp only[En,nP,g,a];rfl
  | succ n=>simp only[List.drop_succ_cons];exact f a n
def yz(P:Program)(t:TypeId)(a:List Value):Option Value:=match eK P t with
 | some true=>some (.agg a.toArray)
 | some false=>a.head?
 | none=>none
def Gi{P:Program}{t:TypeId}{z:Nat}(g:aE P t=some z){d:List Value}{o:Nat}{v:Value}(a:yz P t ((d.drop o).take z)=some v)(h:eK P t=some false->z=1):bE P (part t d.toArray o)=some v:=by
 unfold yz at a;have c : ∀b,eK P t=some b->bE P (isAgg t)=some b:=by
  intro b f;simp only[eK,bI]at f;obtain⟨dd,hd,rfl⟩:=f;simp only[isAgg,bU,oJ hd,eD];cases dd<;>rfl
 unfold part;split at a;·rename_i e;cases a;simp only[bU,c _ e,eD,if_true,Rw g];show some _=some _;congr 2;apply KL.1;simp only[OR,OX,KV]
 ·rename_i e;simp only[bU,c _ e,eD,eW,iQe];have:d.toArray[o]?=some v:=by
   rw[h e]at a;rw[OS];cases hd:d.drop o with
   | nil=>rw[hd]at a;simp at a
   | cons u us=>rw[hd]at a;simp at a;subst a;have:=iQg List.head? hd;simpa [List.head?_drop] using this
  rw[this];rfl
 cases a
def adN{P:Program} : ∀(n:Nat)(D:Nat)(t:TypeId)(L K:List AV)(us R:List Value)(b:Bool),IP P n t=true->od P n t L K=some b->tg L=some us->tg K=some R->L.length=P.cellsOf t->K.length=P.cellsOf t ->
 ∃u v,yz P t us=some u/\yz P t R=some v/\bE P (Op.equalIn (D+n) t u v)=some b:=by
 intro n;induction n with
 | zero=>intro D t L K us R b h;simp[IP]at h
 | succ n ih=>
  intro D t L K us R b d h hu hv hlx hly;unfold IP at d;unfold od at h;cases hd:P.underlying t with
  | none=>rw[hd]at d;simp at d
  | some dd=>
   rw[hd]at d;have J : ∀l,ox P t=some l->(eK P t == some false&&aE P t == some 1)=true->(l=0/\dd = .bool\/(l=1 /\∃k,dd = .int k)\/l=2/\dd = .string) ->∃u v,yz P t us=some u/\yz P t R=some v/\bE P (Op.equalIn (D+(n+1)) t u v)=some b:=by
    intro l Y d X;simp only[bo,iQl]at d;rw[Y]at h;dsimp only at h;split at h
    ·rename_i x y;cases W:Nat.beq (Kl x) l with
     | false=>rw[W]at h;cases h
     | true=>
      rw[W]at h;replace W:=kT W;have e1 : ∃u,us=[u]/\JY x=some u:=(by unfold tg at hu;simp only[nP,KF,sP,tV,iF]at hu;obtain⟨u,E,ws,M,h3⟩:=hu;cases M;cases h3;exact⟨u,rfl,E⟩);have e2 : ∃u,R=[u]/\JY y=some u:=(by unfold tg at hv;simp only[nP,KF,sP,tV,iF]at hv;obtain⟨u,E,ws,M,h3⟩:=hv;cases M;cases h3;exact⟨u,rfl,E⟩);obtain⟨u,rfl,s⟩:=e1;obtain⟨v,rfl,q⟩:=e2;refine⟨u,v,by simp[yz,d.1],by simp[yz,d.1],?_⟩;rw[show D+(n+1)=(D+n)+1 from rfl];simp only[iQp]at h;unfold CY at h;simp only[Op.equalIn,bU,oJ hd,eD];split at h
      ·rename_i a c V U;simp only[wR,iQr]at V U;subst V;subst U;simp[JY]at s q;subst s;subst q;have hl0:l=0:=W.symm;rcases X with ⟨_,rfl⟩ | ⟨E,_⟩ | ⟨E,_⟩
       ·rw[<-h];show some (a == c)=_;congr 1
       ·omega
       omega
      ·rename_i k a k' c V U;simp only[wR,iQr]at V U;subst V;subst U;simp[JY]at s q;subst s;subst q;have hl0:l=1:=W.symm;rcases X with ⟨E,_⟩ | ⟨_,k0,rfl⟩ | ⟨E,_⟩
       ·omega
       ·split at h;·rename_i S;subst S;rw[<-h];show bE P (if k=k then pure (a == c) else _)=_;rw[if_pos rfl];show some (a == c)=_;congr 1
        cases h
       omega
      ·rename_i a c V U;simp only[wR,iQr]at V U;subst V;subst U;simp[JY]at s q;subst s;subst q;have hl0:l=2:=W.symm;rcases X with ⟨E,_⟩ | ⟨E,_⟩ | ⟨_,rfl⟩
       ·omega
       ·omega
       rw[<-h];rfl
      cases h
    cases h
   have hlt : ∀l,ox P t=some l->_:=λl Y=>J l Y;cases dd<;>dsimp only at d<;>try (simp at d;done)
   ·exact J 0 (by simp[ox,hd]) d (.inl ⟨rfl,rfl⟩)
   ·rename_i k;exact J 1 (by simp[ox,hd]) d (.inr (.inl ⟨rfl,k,rfl⟩))
   ·exact J 2 (by simp[ox,hd]) d (.inr (.inr ⟨rfl,rfl⟩))
   ·rename_i k e;simp only[bo,iQl]at d;obtain⟨d,hcell⟩:=d;have Y:ox P t=none:=by simp[ox,hd]
    have Z:iT P t=none:=(by simp[iT,hd]);have hta:ly P t=some (k,e):=(by simp[ly,hd]);rw[Y,Z,hta]at h;dsimp only at h;have Q:eK P t=some true:=by simp[eK,hd]
    cases G:aE P e with| none=>rw[G]at h;cases h| some z=>
     rw[G]at h;dsimp only at h;have I:P.cellsOf e=z:=by simp only[aE]at G;simp[Program.cellsOf,G]
     have F:eK P e=some false->z=1:=by
      intro j;cases n with
      | zero=>simp[IP]at d
      | succ n'=>
       unfold IP at d;unfold eK at j;cases N:P.underlying e with
       | none=>rw[N]at d;simp at d
       | some d2=>rw[N]at d j;cases d2<;>simp at d j<;>(have:=d.2;rw[G]at this;simpa using this)
     refine⟨.agg us.toArray,.agg R.toArray,by simp[yz,Q],by simp[yz,Q],?_⟩;rw[show D+(n+1)=(D+n)+1 from rfl,EP (D+n) _ _ hd G];have : ∀(m p:Nat)(b:Bool),(p+m) * z<=L.length->(p+m) * z<=K.length->Ku (od P n e) z m (L.drop (p * z)) (K.drop (p * z))=some b->yU P (D+n) e z us.toArray R.toArray (List.range' p m)=some b:=by
      intro m;induction m with
      | zero=>intro p b _ _ h;simp[Ku]at h;simp[yU,h]
      | succ m ihm=>
       intro p b hx hy h;simp only[Ku]at h;have O:(p+(m+1)) * z=p * z+z+m * z:=by rw[mo,GH];omega
       rw[O]at hx hy;cases E:od P n e ((L.drop (p * z)).take z) ((K.drop (p * z)).take z) with
       | none=>rw[E]at h;simp at h
       | some a=>
        rw[E]at h;cases M:Ku (od P n e) z m ((L.drop (p * z)).drop z) ((K.drop (p * z)).drop z) with
        | none=>rw[M]at h;simp at h
        | some c=>
         rw[M]at h;simp only[ef]at h;rw[po,po,<-GH]at M;obtain⟨u,v,s,q,heq⟩:=ih D e _ _ _ _ a d E (Bs (Bt hu (p * z)) z) (Bs (Bt hv (p * z)) z)
          (by rw[ku,oD,I];omega) (by rw[ku,oD,I];omega)
         have p1:=Gi G (o:=p * z) s F;have p2:=Gi G (o:=p * z) q F;simp only[List.range'_succ,yU,p1,p2,heq];cases a with
         | false=>simp at h;simp[h]
         | true=>simp only[iZ]at h;subst h;exact ihm (p+1) c (by rw[show p+1+m=p+(m+1) by omega,O];exact hx) (by rw[show p+1+m=p+(m+1) by omega,O];exact hy) M
     rw[OQ];by_cases hk0:k * z<=L.length/\k * z<=K.length;·exact this k 0 b (by simpa using hk0.1) (by simpa using hk0.2) (by simpa using h)
     exfalso;rw[I]at hcell;exact hk0 ⟨by omega,by omega⟩
   rename_i fs;simp only[bo,iB,gf,iQl]at d;obtain⟨⟨T,i⟩,hst⟩:=d;have Y:ox P t=none:=by simp[ox,hd]
   have Z:iT P t=some (fs.toList.map (·.type)):=(by simp[iT,hd]);rw[Y,Z]at h;dsimp only at h;have Q:eK P t=some true:=by simp[eK,hd]
   refine⟨.agg us.toArray,.agg R.toArray,by simp[yz,Q],by simp[yz,Q],?_⟩;rw[show D+(n+1)=(D+n)+1 from rfl,Dv (D+n) _ _ hd hst (λf Z=>(T f Z).2)];have : ∀(l:List Field)(o:Nat)(b:Bool),(∀f∈l,IP P n f.type=true)->layout P l o=some (P.cellsOf t)->gz (od P n) P (l.map (·.type)) (L.drop o) (K.drop o)=some b->o<=P.cellsOf t ->
    vt P (D+n) us.toArray R.toArray l=some b:=by
    intro l;induction l with
    | nil=>intro o b _ _ h _;simp[gz]at h;simp[vt,h]
    | cons f l ihl=>
     intro o b hal i h ho;unfold layout at i;split at i
     ·rename_i hfo;simp only[xp,gz]at h;cases G:aE P f.type with
      | none=>rw[G]at h;cases h
      | some z=>
       rw[G]at h;dsimp only at h;have I:P.cellsOf f.type=z:=by simp only[aE]at G;simp[Program.cellsOf,G]
       rw[I]at i;cases E:od P n f.type ((L.drop o).take z) ((K.drop o).take z) with
       | none=>rw[E]at h;simp at h
       | some a=>
        rw[E]at h;cases M:gz (od P n) P (l.map (·.type)) ((L.drop o).drop z) ((K.drop o).drop z) with
        | none=>rw[M]at h;simp at h
        | some c=>
         rw[M]at h;simp only[ef]at h;rw[po,po]at M;have hle:o+z<=P.cellsOf t:=by
          have : ∀(l:List Field)(o m:Nat),layout P l o=some m->o<=m:=by
           intro l;induction l with
           | nil=>intro o m h;simp[layout]at h;omega
           | cons g l ihg=>
            intro o m h;unfold layout at h;split at h;·have:=ihg _ _ h;omega
            cases h
          exact this _ _ _ i
         obtain⟨u,v,s,q,heq⟩:=ih D f.type _ _ _ _ a (hal f (j6 ..)) E (Bs (Bt hu o) z) (Bs (Bt hv o) z)
          (by rw[ku,oD,I];omega) (by rw[ku,oD,I];omega)
         have F:eK P f.type=some false->z=1:=by
          intro j;have S:=hal f (j6 ..);cases n with
          | zero=>simp[IP]at S
          | succ n'=>
           unfold IP at S;unfold eK at j;cases N:P.underlying f.type with
           | none=>rw[N]at S;simp at S
           | some d2=>rw[N]at S j;cases d2<;>simp at S j<;>(have:=S.2;rw[G]at this;simpa using this)
         have p1:=Gi G (o:=o) s F;have p2:=Gi G (o:=o) q F;simp only[vt,hfo,p1,p2,heq];cases a with
         | false=>simp at h;simp[h]
         | true=>simp only[iZ]at h;subst h;exact ihl (o+z) c (λg hg=>hal g (j7 _ hg)) i M hle
     cases i
   exact this fs.toList 0 b (λf Z=>(T f Z).1) i (by simpa using h) (uD _)
def F9(P:Program)(t:TypeId):Bool:=IP P 20 t && !P.eqGuardType P.depth t&&eK P t == some true
def Tl{P:Program}{t:TypeId}(h:F9 P t=true)(d:BinOp)(e:d = .eql\/d = .neq)(xo yo:Operand)(c a:Array Value) :
 xc P d t xo yo (.agg c) (.agg a)=(bE P (Op.equalIn 10000 t (.agg c) (.agg a))).map λb => .bool (if d = .eql then b else !b):=by
 unfold F9 at h;simp only[bo,iB,iQl]at h;have hp:bE P program=some P:=rfl;unfold xc;have f:bE P (eqGuard d t xo yo (.agg c) (.agg a))=some ():=by
  rcases e with rfl | rfl
  ·simp only[eqGuard,AD,eW,iQe,bU,hp,eD,h.1.2,zg,if_true];rfl
  simp only[eqGuard,AD,eW,iQe,bU,hp,eD,h.1.2,zg,if_true];rfl
 rw[bU,f,eD];rcases e with rfl | rfl
 ·show bE P (do pure (Value.bool (<-Op.equal t (.agg c) (.agg a))))=_;rw[bU];unfold Op.equal Op.maxDepth;cases bE P (Op.equalIn 10000 t (.agg c) (.agg a))<;>rfl
 show bE P (do pure (Value.bool (!(<-Op.equal t (.agg c) (.agg a)))))=_;rw[bU];unfold Op.equal Op.maxDepth;cases bE P (Op.equalIn 10000 t (.agg c) (.agg a))<;>rfl
def Nj{P:Program}{t:TypeId}(h:F9 P t=true)(c:BinOp)(m:c = .eql\/c = .neq)(xo yo:Operand){cs ds:List AV}{b:Bool}(o:od P 20 t cs ds=some b)(e:(tg cs).isSome=true)(d:(tg ds).isSome=true)
 (s:some cs.length=aE P t) (hd:some ds.length=aE P t):bC P c t xo yo (some (.agg cs)) (some (.agg ds))=some (aB (if c = .eql then b else !b),[]):=by
 obtain⟨us,e⟩:=gT.1 e;obtain⟨f,d⟩:=gT.1 d;have g:=h;unfold F9 at g;simp only[bo,iB,iQl]at g;have l : ∀ {n:Nat},some n=aE P t->n=P.cellsOf t:=by
  intro n i;unfold aE at i;unfold Program.cellsOf;rw[<-i];rfl
 obtain⟨u,v,j,k,heq⟩:=adN 20 9980 t cs ds us f b g.1.1 o e d (l s) (l hd);simp only[yz,g.2,ef]at j k;subst j;subst k;have a:=Tl h c m xo yo us.toArray f.toArray;rw[heq]at a;have p:kH (.agg cs)=some (.agg us.toArray):=by show(cs.mapM JY).map _=_;rw[show cs.mapM JY=some us from e];rfl
 have q:kH (.agg ds)=some (.agg f.toArray):=by show(ds.mapM JY).map _=_;rw[show ds.mapM JY=some f from d];rfl
 simp only[bC,F8,jW,qO,AB,eW,iQe,p,q,a,Option.map_some,eD,iO,scalar,if_true,iL]
@[simp] def Zu{P:Program}{t:TypeId}(h:F9 P t=true)(xo yo:Operand){cs ds:List AV}(a:(od P 20 t cs ds).isSome=true)(e:(tg cs).isSome=true)(c:(tg ds).isSome=true)
 (d:some cs.length=aE P t) (hd:some ds.length=aE P t):bC P .eql t xo yo (some (.agg cs)) (some (.agg ds))=some (aB ((od P 20 t cs ds).getD false),[]):=by
 obtain⟨b,a⟩:=gT.1 a;rw[Nj h .eql (.inl rfl) xo yo a e c d hd,a];rfl
@[simp] def Zs{P:Program}{t:TypeId}(h:F9 P t=true)(xo yo:Operand){cs ds:List AV}(a:(od P 20 t cs ds).isSome=true)(e:(tg cs).isSome=true)(c:(tg ds).isSome=true)
 (d:some cs.length=aE P t) (hd:some ds.length=aE P t):bC P .neq t xo yo (some (.agg cs)) (some (.agg ds))=some (aB (!(od P 20 t cs ds).getD false),[]):=by
 obtain⟨b,a⟩:=gT.1 a;rw[Nj h .neq (.inr rfl) xo yo a e c d hd,a];rfl
@[simp] def afF:tg []=some []:=id rfl
@[simp] def MF(k:IntKind)(n:Int)(l:List AV):tg (.v (.int k n) :: l)=(tg l).map (.int k n :: ·):=by
 unfold tg;simp only[nP,JY];cases l.mapM JY<;>rfl
@[simp] def ael(b:Bool)(l:List AV):tg (.v (.bool b) :: l)=(tg l).map (.bool b :: ·):=by
 unfold tg;simp only[nP,JY];cases l.mapM JY<;>rfl
@[simp] def ajf(b:UInt8)(l:List AV):tg (a8 b :: l)=(tg l).map (.int .u8 b.toNat :: ·):=MF _ _ _
@[simp] def ahT(b:UInt32)(l:List AV):tg (bR b :: l)=(tg l).map (.int .u32 b.toNat :: ·):=MF _ _ _
@[simp] def abS(a b:Bool):CY [aB a] [aB b]=some (decide (a=b)):=id rfl
@[simp] def IQ(k:IntKind)(a b:Int):CY [.v (.int k a)] [.v (.int k b)]=some (decide (a=b)):=by simp[CY]
@[simp] def aho(a b:UInt8):CY [a8 a] [a8 b]=some (decide (a=b)):=by
 unfold a8;rw[IQ];congr 2;rw[<-z9];exact propext (by omega)
@[simp] def afg(a b:UInt32):CY [bR a] [bR b]=some (decide (a=b)):=by
 unfold bR;rw[IQ];congr 2;rw[<-OJ];exact propext (by omega)
@[simp] def adm(b:Bool):Kl (aB b)=0:=id rfl
@[simp] def ae7(k:IntKind)(n:Int):Kl (.v (.int k n))=1:=id rfl
@[simp] def aiI(b:UInt8):Kl (a8 b)=1:=id rfl
@[simp] def agQ(b:UInt32):Kl (bR b)=1:=id rfl
@[simp] def CS{P:Program}{t:TypeId}(h:((ca P t).bind (aE P)).isSome=true)(g:cV)(lo hi a:Option Int) :
 cr P g t (some aO) (some lo) (some hi) (some a)=(bounds 0 (some 0) lo hi a).map λ_=>(aO,[]):=by
 simp only[cr,h,if_true]
@[simp] def CT{P:Program}{t z:Nat}(h:(ca P t).bind (aE P)=some z)(g:cV)(es:List AV)(c:Option Nat)(lo hi a:Option Int) :
 cr P g t (some (.bg z es c)) (some lo) (some hi) (some a)=(bounds es.length c lo hi a).map λ(l,h,c)=>(.bg z ((es.drop l).take (h - l)) c,[]):=by
 simp only[cr,h,if_true]
def Pk{P:Program}{t z:Nat}(h:(ca P t).bind (aE P)=some z)(g:cV){es:List AV}{x:AV}(d:Sl z es x){n:Int}(e:0<=n)(b:n<=es.length) :
 ∃y,cr P g t (some x) (some (some n)) (some none) (some none)=some (y,[])/\Sl z (es.drop n.toNat) y:=by
 rcases d with ⟨rfl,rfl⟩ | ⟨c,rfl,a⟩
 ·refine⟨aO,?_,.inl ⟨rfl,by simp⟩⟩;rw[CS (by rw[h];rfl)];have:n=0:=by simp at b;omega
  subst this;rfl
 refine⟨.bg z (es.drop n.toNat) (c.map (· - n.toNat)),?_,.inr ⟨_,rfl,by cases c with | none=>simp | some k=>simp at a ⊢;omega⟩⟩;rw[CT h];simp only[bounds,vH,cB,iQV,iQr,if_pos (show 0<=n/\n<=es.length from⟨e,b⟩),Option.map_some,KP];congr 3;rw[dq (by simp)]
def EG{P:Program}{t z:Nat}(h:(ca P t).bind (aE P)=some z)(g:cV){es:List AV}{x:AV}(d:Sl z es x){lo hi:Int}(i:0<=lo)(f:lo<=hi)(b:hi<=es.length) :
 ∃y,cr P g t (some x) (some (some lo)) (some (some hi)) (some none)=some (y,[])/\Sl z ((es.drop lo.toNat).take (hi.toNat - lo.toNat)) y:=by
 rcases d with ⟨rfl,rfl⟩ | ⟨c,rfl,a⟩
 ·refine⟨aO,?_,.inl ⟨rfl,by simp⟩⟩;rw[CS (by rw[h];rfl)];simp at b;have e:lo=0:=by omega
  have j:hi=0:=(by omega);subst e;subst j;rfl
 refine⟨.bg z ((es.drop lo.toNat).take (hi.toNat - lo.toNat)) (c.map (· - lo.toNat)),?_,.inr ⟨_,rfl,by cases c with | none=>simp | some k=>simp at a ⊢;omega⟩⟩;rw[CT h];simp only[bounds,vH,cB,if_pos (show 0<=lo/\lo<=hi/\hi<=es.length from⟨i,f,b⟩),Option.map_some]
def sB(l:List UInt8):AV:=aS ⟨l.toArray⟩
def L1(l:List UInt8):(au l).mapM byteOf=some l:=by
 unfold au;induction l with
 | nil=>rfl
 | cons b l a=>simp only[xp,nP,a,sP,tV];show(some (UInt8.ofNat ((b.toNat:Int)).toNat)).bind _=_;simp
def Og{P:Program}{src dst:TypeId}(a:dD P src=true)(b:isStr P dst=true){g:cV}{r:Ref}{l:List UInt8}{x:AV}(d:Sa g 1 (au l) x)(f : ∀s,x ≠ .v (.string s)) :
 bY P g r src dst (some x)=some (sB l,[]):=by
 rcases d with ⟨rfl,e⟩ | ⟨h,c,he⟩
 ·have:=iQg List.length e;simp at this;subst this;simp only[bY,a,b,Em,if_true];rfl
 cases x with
 | v x=>
  exfalso;cases x<;>first | (simp[cy]at he;done) | skip
  exact f _ rfl
 | _=>simp only[bY,a,b,Em,if_true,he,L1,Option.map_some];rfl
def Sl.PV{z:Nat}{es:List AV}{x:AV}(h:Sl z es x) : ∀s,x ≠ .v (.string s):=by
 rcases h with ⟨rfl,_⟩ | ⟨c,rfl,_⟩<;>intro s e<;>cases e
def Ej.PV{z:Nat}{es:List AV}{H:aa}{x:AV}(h:Ej z es H x) : ∀s,x ≠ .v (.string s):=by
 rcases h with ⟨rfl,_⟩ | ⟨r,rfl,_⟩<;>intro s e<;>cases e
def Sl.conv{P:Program}{src dst:TypeId}{l:List UInt8}{x:AV}(a:Sl 1 (au l) x)(b:dD P src=true)(c:isStr P dst=true)(g:cV)(r:Ref):bY P g r src dst (some x)=some (sB l,[]):=
 Og b c (a.Jh g) a.PV
def Ej.conv{P:Program}{src dst:TypeId}{l:List UInt8}{H:aa}{x:AV}(a:Ej 1 (au l) H x)(b:dD P src=true)(c:isStr P dst=true)(r:Ref):bY P H.get r src dst (some x)=some (sB l,[]):=
 Og b c a.Jh a.PV
def vl(l:List UInt8):(⟨l.toArray⟩:ByteArray).toList=l:=by
 rw[ByteArray.toList_eq]
@[simp] def abc(P:Program)(t:TypeId)(xo yo:Operand)(l m:List UInt8):bC P .eql t xo yo (some (sB l)) (some (sB m))=some (aB (decide (l=m)),[]):=by
 show some ((AV.v (.bool ((⟨l.toArray⟩:ByteArray).toList == (⟨m.toArray⟩:ByteArray).toList))),[])=_;rw[vl,vl];congr 4;by_cases h:l=m<;>simp[h]
@[simp] def abb(P:Program)(t:TypeId)(xo yo:Operand)(l m:List UInt8):bC P .neq t xo yo (some (sB l)) (some (sB m))=some (aB (!decide (l=m)),[]):=by
 show some ((AV.v (.bool (!((⟨l.toArray⟩:ByteArray).toList == (⟨m.toArray⟩:ByteArray).toList)))),[])=_;rw[vl,vl];congr 5;by_cases h:l=m<;>simp[h]
def Xq{P:Program}{a l:Bool}{H:aa}{r:Ref}{t z by' n:Nat}{ps:List (Nat × AV)}{zz:AV}(q:X5 P t z by'=true)(f:n * z<=16777216)(m:dp H.get ps=some ps)(d:ct H.get (ps.map (·.2))=[])
 (v:ps.all (λp=>p.2.cells.length == z&&p.2.cells.all AV.one)=true) (c:(ca P t).bind (eu P)=some zz) {es:List AV} (i:hY (List.replicate n zz) ps=some es) :
 lb P a l H r t n (some ps)=if a then some (.bg z es (some n),H) else some (.bk r 0 n (some n),({ r with k:=0},some ⟨z,es,true,false⟩) :: H):=by
 obtain⟨e,u,h,y,D,g,o,j,x,E⟩:=gJ q;rw[h]at c;simp only[eD,g,ef]at c;subst c;have b:mkSlice P H.get t n ps=some ⟨z,es,true,false⟩:=by
  simp only[mkSlice,h,m,g,y];rw[if_pos ⟨Aa x,f,o,j,by simpa using v⟩,i];rfl
 have s:gx P a H.get r t n (some ps)=if a then some (.bg z es (some n),[]) else some (.bk r 0 n (some n),[⟨z,es,true,false⟩]):=by
  simp only[gx,d,mV,GI,if_true,b,Option.map_some];cases a<;>rfl
 unfold lb;rw[s];cases a<;>rfl
def Sh{g:cV}{r:Ref}{z:Nat}{es:List AV}{fz:Bool}(a:g r=some ⟨z,es,true,fz⟩){n:Nat}(b:n=es.length)(k:Nat)(c:Option Nat):view g (k+1) (.bk r 0 n c)=some (.bg z es c):=by
 subst b;rw[My a,if_pos ⟨rfl,by simp⟩,En,BW]
def Qx(l m:List UInt8):au l++au m=au (l++m):=by simp[au]
def IY(l:List UInt8)(n:Nat):(au l).take n=au (l.take n):=by simp[au]
def D3(l:List UInt8)(n:Nat):(au l).drop n=au (l.drop n):=by simp[au]
def Oq{P:Program}{t t' z by':Nat}(i:X5 P t z by'=true)(e:I7 P t'=true)(H:aa)(d a:Nat){es new:List AV}{s x:AV}(g:Ej z es H s)(f:Sa H.get z new x)
 (j:(es.length+new.length) * by'<=aJ) (h:Fr H) :
 ∃c H',dm P true H ⟨d,a,H.gen d a,0⟩ (some t) (some t') s x=some (c,H')/\Ej z (es++new) H' c/\Fr H' /\∀q b,H.get q=some b->s.at?≠some q->H'.get q=some b/\c.at?≠some q:=
 aav i e g f j h ⟨d,a,rfl⟩
def Ej.bD{z:Nat}{es:List AV}{H H':aa}{x s d:AV}(h:Ej z es H x)(hp : ∀q b,H.get q=some b->s.at?≠some q->H'.get q=some b/\d.at?≠some q)(c : ∀q,x.at?=some q->s.at?≠some q):Ej z es H' x /\∀q,x.at?=some q->d.at?≠some q:=by
 rcases h with ⟨rfl,rfl⟩ | ⟨r,rfl,e⟩
 ·exact⟨Gj z H',λq a=>by simp[AV.at?]at a⟩
 obtain⟨f,g⟩:=hp r _ e (c r rfl);exact⟨.inr ⟨r,rfl,f⟩,λq a=>by simp only[AV.at?,ef]at a;subst a;exact g⟩
def P2{P:Program}{t:TypeId}(h:isBool P t=true):P.underlying t=some .bool:=by
 unfold isBool at h;split at h;·assumption
 cases h
def JF{P:Program}{t:TypeId}(h:isBool P t=true)(d:Nat)(a b:Bool):bE P (Op.equalIn (d+1) t (.bool a) (.bool b))=some (a == b):=by
 simp only[Op.equalIn,bU,oJ (P2 h),eD];rfl
def PO{P:Program}{t:TypeId}(h:isBool P t=true)(c:BinOp)(e:c = .eql\/c = .neq)(xo yo:Operand)(a b:Bool) :
 xc P c t xo yo (.bool a) (.bool b)=some (.bool (if c = .eql then a == b else !(a == b))):=by
 have d:bE P (Op.equal t (.bool a) (.bool b))=some (a == b):=JF h 9999 a b;unfold xc;rcases e with rfl | rfl
 ·have:bE P (eqGuard .eql t xo yo (.bool a) (.bool b))=some ():=rfl;rw[bU,this,eD];show bE P (do pure (Value.bool (<-Op.equal t (.bool a) (.bool b))))=_;rw[bU,d];rfl
 have:bE P (eqGuard .neq t xo yo (.bool a) (.bool b))=some ():=rfl;rw[bU,this,eD];show bE P (do pure (Value.bool (!(<-Op.equal t (.bool a) (.bool b)))))=_;rw[bU,d];rfl
@[simp] def XY{P:Program}{t:TypeId}(h:isBool P t=true)(xo yo:Operand)(a b:Bool):bC P .eql t xo yo (some (aB a)) (some (aB b))=some (aB (a == b),[]):=by
 simp only[bC,F8,jW,kH,PO h .eql (.inl rfl),qO,AB,eW,iQe,eD,iO,scalar,if_true,iL,Option.map_some]
@[simp] def ajm(P:Program)(d:Bool)(g:cV)(r:Ref)(c:Array TypeId)(k:IntKind)(a b:Int):cb P d g r .min c [.v (.int k a),.v (.int k b)]=some (.v (.int k (if b<a then b else a)),[]):=id rfl
def yK{P:Program}{r:Ref}{t z by':Nat}{zz:AV}(i:X5 P t z by'=true)(a:(ca P t).bind (eu P)=some zz){n:Nat}(g:n * by'<=aJ)(j:n<9223372036854775808) :
 yL P r t (some (aI n)) (some (aI n))=some (.bk r 0 n none,[⟨z,List.replicate n zz,true,false⟩]):=by
 obtain⟨e,k,c,m,f,b,h,d,l,o⟩:=gJ i;rw[c]at a;simp only[eD,b,ef]at a;subst a;simp only[yL,c,eD,uo,b,m,f];have:((n:Int) * (by':Int))<=(aJ:Int):=by exact_mod_cast g
 rw[if_pos ⟨by omega,iQV _,this,by omega,Aa l,h,d⟩,KP]
def Ej.cons{z:Nat}{es:List AV}{H:aa}{x:AV}(h:Ej z es H x)(c:Fr H)(d t:Nat)(b:Option bj):Ej z es ((⟨d,t,H.gen d t,0⟩,b) :: H) x:=by
 rcases h with ⟨rfl,rfl⟩ | ⟨r,rfl,a⟩
 ·exact Gj z _
 refine .inr ⟨r,rfl,?_⟩;rw[aa.cL,if_neg (qA c (by rw[a];rfl) d t 0)];exact a
@[simp] def aeQ(P:Program)(r:Ref)(e:TypeId){z:AV}(b:eu P e=some z)(a:0<(aE P e).getD 0):vX P r e=if some z.cells.length=aE P e/\z.cells.all AV.one=true then some (.ptr r 0 0,[⟨(aE P e).getD 0,[z],false,false⟩]) else none:=by
 unfold vX;rw[b];cases h:aE P e with
 | none=>simp
 | some n=>rw[h]at a;simp only[cB]at a;simp[a]
@[simp] def V7{P:Program}{t f:Nat}(h:0<((aD P t f).getD (0,0)).2)(r:Ref)(i j:Nat):iM P t (some (.ptr r i j)) f=some (.ptr r i (j+((aD P t f).getD (0,0)).1),[]):=by
 unfold iM;cases a:aD P t f with
 | none=>rw[a]at h;simp at h
 | some p=>obtain⟨o,s⟩:=p;rw[a]at h;simp only[cB]at h ⊢;rw[if_pos h]
@[simp] def Ut{P:Program}{t f:Nat}(h:0<((aD P t f).getD (0,0)).2)(n:Nat)(es:List AV)(i j:Nat):iM P t (some (.iptr n es i j)) f=some (.iptr n es i (j+((aD P t f).getD (0,0)).1),[]):=by
 unfold iM;cases a:aD P t f with
 | none=>rw[a]at h;simp at h
 | some p=>obtain⟨o,s⟩:=p;rw[a]at h;simp only[cB]at h ⊢;rw[if_pos h]
def Rz(cs:List AV)(a n:Nat)(b:Bool):Option AV:=if b then (if a+n<=cs.length then some (.agg ((cs.drop a).take n)) else none) else cs[a]?
@[simp] def aiz(cs:List AV)(a n:Nat):Rz cs a n true=if a+n<=cs.length then some (.agg ((cs.drop a).take n)) else none:=id rfl
@[simp] def aiA(cs:List AV)(a n:Nat):Rz cs a n false=cs[a]?:=id rfl
@[simp] def acW{P:Program}{t f:Nat}(h:(((rN P t f).bind λp=>aE P p.2).isSome&&((rN P t f).bind λp=>eK P p.2).isSome)=true)(cs:List AV) :
 tn P t (some (.agg cs)) f=iL (Rz cs ((rN P t f).getD (0,0)).1 ((aE P ((rN P t f).getD (0,0)).2).getD 0) ((eK P ((rN P t f).getD (0,0)).2).getD false)):=by
 unfold tn;cases a:rN P t f with
 | none=>rw[a]at h;simp at h
 | some p=>obtain⟨o,e⟩:=p;rw[a]at h;simp only[eD,bo]at h;obtain⟨n,d⟩:=gT.1 h.1;obtain⟨b,c⟩:=gT.1 h.2;simp only[cB,AQ,d,c];cases b<;>rfl
@[simp] def XS(cs:List AV)(new:List AV)(h:new.length=cs.length):fm [AV.agg cs] 0 0 new=some [AV.agg new]:=by
 simp[fm,nZ,patch,h]
@[simp low] def X8(cs:List AV)(j:Nat)(new:List AV)(h:j+new.length<=cs.length):fm [AV.agg cs] 0 j new=some [AV.agg (patch cs j new)]:=by
 simp[fm,nZ,h]
@[simp] def agF(cs:List AV)(j:Nat)(new:List AV):patch cs j new=cs.take j++new++cs.drop (j+new.length):=id rfl
@[simp] def Zj{P:Program}{t:TypeId}(b:(eK P t).isSome=true)(c:(aE P t).isSome=true)(H:aa)(r:Ref)(i j:Nat):yJ P H (.ptr r i j) t=WG (H.get r) i j ((aE P t).getD 0) ((eK P t).getD false):=by
 obtain⟨a,b⟩:=gT.1 b;obtain⟨n,c⟩:=gT.1 c;simp only[yJ,b,c,cB];rfl
@[simp] def XX{P:Program}{t:TypeId}{z:List AV}(b:eu P t=some (.agg z))(c:ly P t=none)(hp:(gZ P t).isSome=true)(a:List (Nat × AV)) :
 mI P t (some a)=(wh (λi=>((gZ P t).getD [])[i]?) z a).map λcs=>(.agg cs,[]):=by
 obtain⟨ps,hp⟩:=gT.1 hp;simp only[mI,b,c,hp,cB]
@[simp] def Zn(a:List AV)(i:Nat):ud (some (.tup a)) i=iL a[i]?:=id rfl
@[simp] def agz(r:Ref)(i j:Nat):Nd (some (.ptr r i j))=some (.ptr r i j,[]):=id rfl
@[simp] def aa.RP(d t:Nat):aa.gen [] d t=0:=id rfl
@[simp] def aa.nU(d t g k:Nat)(b:Option bj)(H:aa)(a t':Nat):aa.gen ((⟨d,t,g,k⟩,b) :: H) a t'=if d=a/\t=t' then g+1 else aa.gen H a t':=id rfl
@[simp] def FB{c d:Type}(f:c->Option d)(a:c)(l:List c):List.mapM f (a :: l)=(f a).bind λb=>(List.mapM f l).map (b :: ·):=by
 rw[nP];cases f a<;>cases List.mapM f l<;>rfl
@[simp] def acM{c:Type}(f:c->AV)(l:List c)(i j n:Nat)(b:Bool):bF (l.map f) i j n b=(l[i]?).bind λa=>bF [f a] 0 j n b:=by
 unfold bF;rw[mr];cases l[i]?<;>rfl
def drop_cons{c:Type}{l:List c}{k:Nat}{a:c}{s:List c}(h:l.drop k=a :: s) : ∃b:k<l.length,l[k]=a/\l.drop (k+1)=s/\l[k]?=some a:=by
 have b:k<l.length:=by
  have:=iQg List.length h;simp at this;omega
 rw[KX b]at h;cases h;exact⟨b,rfl,rfl,dI b⟩
def drop_nil{a:Type}{l:List a}{k:Nat}(h:l.drop k=[])(b:k<=l.length):k=l.length:=by
 have:=iQg List.length h;simp at this;omega
def nL{b:Bool}{q:jx}{K:AV->Prop}{m:Mk (q,K)}(a:b=true->dL q K)(c:b=false->K AV.undef):gQ (aB b) true q K m:=by
 cases b;·exact(ahg q K m).2 (c rfl)
 exact(ahe q K m).2 (a rfl)
def nM{b:Bool}{q:jx}{K:AV->Prop}{m:Mk (q,K)}(a:b=true->K AV.undef)(c:b=false->dL q K):gQ (aB b) false q K m:=by
 cases b;·exact(ahh q K m).2 (c rfl)
 exact(ahf q K m).2 (a rfl)
def nJ{b:Bool}{H:aa}{q:cR}{K:AV->aa->Prop}{m:Mk (q,K)}(a:b=true->iE q K)(c:b=false->K AV.undef H):gW (aB b) true H q K m:=by
 cases b;·exact(ahc H q K m).2 (c rfl)
 exact(aha H q K m).2 (a rfl)
def nK{b:Bool}{H:aa}{q:cR}{K:AV->aa->Prop}{m:Mk (q,K)}(a:b=true->K AV.undef H)(c:b=false->iE q K):gW (aB b) false H q K m:=by
 cases b;·exact(ahd H q K m).2 (c rfl)
 exact(ahb H q K m).2 (a rfl)
def vZ{H:aa}(a:Fr H){q:Ref}(h:(H.get q).isSome=true)(d t k:Nat):((⟨d,t,H.gen d t,k⟩:Ref)=q)=False:=
 eq_false (qA a h d t k)
def wa{H:aa}(a:Fr H){q:Ref}(h:(H.get q).isSome=true)(d t k:Nat):(q=(⟨d,t,H.gen d t,k⟩:Ref))=False:=
 eq_false λe=>qA a h d t k e.symm
def RN{H:aa}(a:Fr H)(d t k:Nat):H.get ⟨d,t,H.gen d t,k⟩=none:=a _ _ _ _ (cG _)
def pk{H:aa}(a:Fr H){d t g:Nat}(c:g=H.gen d t)(b:Option bj):Fr ((⟨d,t,g,0⟩,b) :: H):=by subst c;exact a.cons d t b
def uT{H:aa}(a:Fr H){r:Ref}(c:(H.get r).isSome=true)(b:Option bj):Fr (H.put r b):=a.put b c
def DW{H:aa}{r:Ref}(a:(H.get r).isSome=true)(b:Option bj)(d t:Nat):(H.put r b).gen d t=H.gen d t:=aa.ej H r b a d t
def Kq{E:Env}{f:FuncId}(a:uJ (E.mode f)=false)(x:AV)(H:aa)(y:AV):cU E f x H y↔view H.get depth x=some y:=by
 unfold cU;rw[if_neg (by simpa using a)]
def FG{E:Env}{f:FuncId}(a:uJ (E.mode f)=true)(x:AV)(H:aa)(y:AV):cU E f x H y↔(ah H.get depth x).Nodup/\bO H.get depth x=some y:=by
 unfold cU;rw[if_pos (by simpa using a)]
def qu(a:Bool)(H:aa)(r:Ref)(refs:List Ref)(o:Option AV):cR:=match o with
 | some y=>if flat depth y||mV H.get refs then some ((ao r depth y []).1,keyed r 0 (ao r depth y []).2 H)
  else if a then some ((ao r depth y []).1,keyed r 0 (ao r depth y []).2 (cg H refs)) else none
 | none=>none
noncomputable def Xm(E:Env)(a:Bool)(H:aa)(r:Ref)(refs:List Ref)(f:FuncId)(o:Option (List AV)):cR:=match o with
 | some xs=>qu a H r refs (ar E f xs)
 | none=>none
def az{E:Env}(a:Bool)(dep:Nat)(H:aa)(r:Ref)(f:FuncId)(d:(E.mode f == 2)=false)(b:(E.mode f == 3)=false)(first captured args:List AV) :
 bm E a (ar E) (dg E dep) H r (some (.fn (.func f) first captured)) args=Xm E a H r (ct H.get (first++args++captured)) f ((first++args++captured).mapM (view H.get depth)):=by
 have c:E.mode f≠2:=by simpa using d
 simp only[bm,k9,nn,if_neg c,b,qO,Bool.or_false];cases(first++args++captured).mapM (view H.get depth) with
 | none=>cases a<;>rfl
 | some xs=>
  dsimp only[Xm];cases ar E f xs with
  | none=>cases a<;>rfl
  | some y=>
   dsimp only[qu,Option.map_some];cases e:(flat depth y||mV H.get (ct H.get (first++args++captured))) with
   | true=>rfl
   | false=>cases a<;>rfl
@[simp] def adZ(E:Env)(b:Bool)(H:aa)(r:Ref)(refs:List Ref)(f:FuncId)(a:List AV):Xm E b H r refs f (some a)=qu b H r refs (ar E f a):=id rfl
@[simp] def ad0(a:Bool)(H:aa)(r:Ref)(refs:List Ref)(y:AV)(h:flat depth y=true):qu a H r refs (some y)=some (y,H):=by
 simp only[qu,h,Bool.true_or,if_true];rw[xh r depth depth y [] h];rfl
def ak(a:Bool)(H:aa)(r:Ref)(y:AV):qu a H r [] (some y)=some ((ao r depth y []).1,keyed r 0 (ao r depth y []).2 H):=by
 simp only[qu,mV,GI,Bool.or_true,if_true]
def ay(a:Bool)(H:aa)(r:Ref)(refs:List Ref)(y:AV)(h:mV H.get refs=true):qu a H r refs (some y)=some ((ao r depth y []).1,keyed r 0 (ao r depth y []).2 H):=by
 simp only[qu,h,Bool.or_true,if_true]
@[simp] def ajs(n:Nat)(x:Value):flat (n+1) (.v x)=true:=id rfl
@[simp] def ajt(n:Nat)(x:UInt8):flat (n+1) (a8 x)=true:=id rfl
@[simp] def aiM(n:Nat)(x:UInt32):flat (n+1) (bR x)=true:=id rfl
@[simp] def ahl(n:Nat)(cs:List AV):flat (n+1) (.agg cs)=cs.all (flat n):=id rfl
@[simp] def afe(n:Nat)(cs:List AV):flat (n+1) (.tup cs)=cs.all (flat n):=id rfl
@[simp] def ahj(n z:Nat)(es:List AV)(c:Option Nat):flat (n+1) (.bg z es c)=false:=id rfl
@[simp] def ahk(n z:Nat)(es:List AV)(c:Option Nat):flat (n+1) (.fsl z es c)=false:=id rfl
@[simp] def aa7(g:cV):ct g []=[]:=id rfl
@[simp] def Zi(g:cV)(x:AV)(a:List AV):ct g (x :: a)=ah g depth x++ct g a:=id rfl
@[simp] def ab8(g:cV)(n:Nat)(x:Value):ah g n (.v x)=[]:=by cases n<;>rfl
@[simp] def ab9(g:cV)(n:Nat)(x:UInt8):ah g n (a8 x)=[]:=by cases n<;>rfl
@[simp] def aaW(g:cV)(n:Nat)(x:UInt32):ah g n (bR x)=[]:=by cases n<;>rfl
@[simp] def Yg(g:cV)(n z:Nat)(es:List AV)(c:Option Nat):ah g n (.bg z es c)=[]:=by cases n<;>rfl
@[simp] def XT(g:cV)(n z:Nat)(es:List AV)(i j:Nat):ah g n (.iptr z es i j)=[]:=by cases n<;>rfl
@[simp] def Yh(g:cV)(n:Nat)(cs:List AV):ah g (n+1) (.agg cs)=cs.flatMap (ah g n):=id rfl
@[simp] def Ye(g:cV)(n:Nat)(cs:List AV):ah g (n+1) (.tup cs)=cs.flatMap (ah g n):=id rfl
@[simp] def Yf(g:cV)(n:Nat)(r:Ref)(o l:Nat)(c:Option Nat):ah g (n+1) (.bk r o l c)=[r]:=id rfl
@[simp] def aaU(g:cV)(n:Nat)(f:Fn)(a b:List AV):ah g (n+1) (.fn f a b)=a.flatMap (ah g n)++b.flatMap (ah g n):=id rfl
def aaY(o l:Nat)(c:Option Nat)(b:Option bj):Option AV:=match b with
 | some b=>if b.arr=true/\o+l<=b.es.length then some (.bg b.esz ((b.es.drop o).take l) c) else none
 | none=>none
@[simp] def aej(g:cV)(n:Nat)(r:Ref)(o l:Nat)(c:Option Nat):view g (n+1) (.bk r o l c)=aaY o l c (g r):=id rfl
@[simp] def acb(o l:Nat)(c:Option Nat)(b:bj):aaY o l c (some b)=if b.arr=true/\o+l<=b.es.length then some (.bg b.esz ((b.es.drop o).take l) c) else none:=id rfl
def aaX(g:cV)(n i j:Nat)(b:Option bj):Option AV:=match b with
 | some b=>if b.arr then some (.iptr b.esz b.es i j) else (b.es.mapM (view g n)).map λes => .iptr b.esz es i j
 | none=>none
@[simp] def aei(g:cV)(n:Nat)(r:Ref)(i j:Nat):view g (n+1) (.ptr r i j)=aaX g n i j (g r):=id rfl
@[simp] def aca(g:cV)(n i j:Nat)(b:bj):aaX g n i j (some b)=if b.arr then some (.iptr b.esz b.es i j) else (b.es.mapM (view g n)).map λes => .iptr b.esz es i j:=id rfl
@[simp] def ahK(g:cV)(n:Nat)(f:Fn)(a b:List AV):view g (n+1) (.fn f a b)=(a.mapM (view g n)).bind λa=>(b.mapM (view g n)).map λb => .fn f a b:=by
 rw[view];cases a.mapM (view g n)<;>cases b.mapM (view g n)<;>rfl
@[simp] def ag4(r:Ref)(n:Nat)(x:Value)(bs:List bj):ao r n (.v x) bs=(.v x,bs):=by cases n<;>rfl
@[simp] def ag5(r:Ref)(n:Nat)(x:UInt8)(bs:List bj):ao r n (a8 x) bs=(a8 x,bs):=by cases n<;>rfl
@[simp] def ae9(r:Ref)(n:Nat)(x:UInt32)(bs:List bj):ao r n (bR x) bs=(bR x,bs):=by cases n<;>rfl
@[simp] def ady(r:Ref)(n z:Nat)(es:List AV)(c:Option Nat)(bs:List bj):ao r n (.bg z es c) bs=(.bg z es c,bs):=by cases n<;>rfl
@[simp] def adz(r:Ref)(n z:Nat)(es:List AV)(c:Option Nat)(bs:List bj)(a:z≠0):ao r (n+1) (.fsl z es c) bs=(.bk { r with k:=bs.length} 0 es.length c,bs++[⟨z,es,true,false⟩]):=by
 simp only[ao,if_neg a]
def vj(r:Ref)(n:Nat):List AV->List AV->List bj->List AV × List bj
 | [],acc,bs=>(acc,bs)
 | c :: cs,acc,bs=>vj r n cs (acc++[(ao r n c bs).1]) (ao r n c bs).2
def IE(r:Ref)(n:Nat)(cs:List AV) : ∀(a:List AV)(bs:List bj),cs.foldl (λ(p:List AV × List bj) c=>let (y,bs):=ao r n c p.2;(p.1++[y],bs)) (a,bs)=vj r n cs a bs:=by
 induction cs with| nil=>intro a bs;rfl| cons c cs b=>intro a bs;rw[wS];exact b _ _
@[simp] def adA(r:Ref)(n:Nat)(cs:List AV)(bs:List bj):ao r (n+1) (.agg cs) bs=(.agg (vj r n cs [] bs).1,(vj r n cs [] bs).2):=by
 rw[<-IE];rfl
@[simp] def adx(r:Ref)(n:Nat)(cs:List AV)(bs:List bj):ao r (n+1) (.tup cs) bs=(.tup (vj r n cs [] bs).1,(vj r n cs [] bs).2):=by
 rw[<-IE];rfl
@[simp] def abj(r:Ref)(n:Nat)(a:List AV)(bs:List bj):vj r n [] a bs=(a,bs):=id rfl
@[simp] def ZU(r:Ref)(n:Nat)(c:AV)(cs a:List AV)(bs:List bj):vj r n (c :: cs) a bs=vj r n cs (a++[(ao r n c bs).1]) (ao r n c bs).2:=id rfl
@[simp] def X0(H:aa):cg H []=H:=id rfl
def RR(H:aa)(r:Ref)(b:Option bj):aa:=match b with
 | some b=>H.put r (some { b with gR:=true})
 | none=>H
@[simp] def W7(H:aa)(r:Ref)(rs:List Ref):cg H (r :: rs)=cg (RR H r (H.get r)) rs:=by
 show(match H.get r with | some b=>cg (H.put r (some { b with gR:=true})) rs | none=>cg H rs)=_;cases H.get r<;>rfl
@[simp] def Z2(H:aa)(r:Ref)(b:bj):RR H r (some b)=H.put r (some { b with gR:=true}):=id rfl
def RT(l:Nat)(c:Option Nat)(b:Option bj):Option AV:=match b with
 | some b=>if b.arr=true/\l<=b.es.length then some (if b.gR then .bg b.esz (b.es.take l) c else .fsl b.esz (b.es.take l) c) else none
 | none=>none
@[simp] def adL(g:cV)(n:Nat)(r:Ref)(l:Nat)(c:Option Nat):bO g (n+1) (.bk r 0 l c)=RT l c (g r):=id rfl
@[simp] def aaf(l:Nat)(c:Option Nat)(b:bj):RT l c (some b)=if b.arr=true/\l<=b.es.length then some (if b.gR then .bg b.esz (b.es.take l) c else .fsl b.esz (b.es.take l) c) else none:=id rfl
@[simp] def ahm(g:cV)(n:Nat)(x:Value):bO g (n+1) (.v x)=some (.v x):=id rfl
@[simp] def ahn(g:cV)(n:Nat)(x:UInt8):bO g (n+1) (a8 x)=some (a8 x):=id rfl
@[simp] def aff(g:cV)(n:Nat)(x:UInt32):bO g (n+1) (bR x)=some (bR x):=id rfl
@[simp] def adM(g:cV)(n:Nat)(cs:List AV):bO g (n+1) (.agg cs)=(cs.mapM (bO g n)).map .agg:=id rfl
@[simp] def adK(g:cV)(n:Nat)(cs:List AV):bO g (n+1) (.tup cs)=(cs.mapM (bO g n)).map .tup:=id rfl
def Sl.idx{z:Nat}{es:List AV}{x:AV}(h:Sl z es x){P:Program}{t:TypeId}(b:(ca P t).bind (aE P)=some z)(g:cV)(a:IntKind)(k:Int) :
 bH P g t (some x) (some (.v (.int a k)))=if 0<=k/\k<es.length then some (.iptr z es k.toNat 0,[]) else none:=by
 rcases h with ⟨rfl,rfl⟩ | ⟨c,rfl,_⟩
 ·obtain⟨e,he,d⟩:=N4 b;rw[if_neg (by simp)];simp[bH,uo,he]
 exact Ii b g es c a k
def Sl.exp{z:Nat}{es:List AV}{x:AV}(h:Sl z es x)(g:cV)(n:Nat):bO g (n+1) x=some x:=by
 rcases h with ⟨rfl,rfl⟩ | ⟨c,rfl,_⟩<;>rfl
def Sl.imp'{z:Nat}{es:List AV}{x:AV}(h:Sl z es x)(r:Ref)(n:Nat)(bs:List bj):ao r n x bs=(x,bs):=by
 rcases h with ⟨rfl,rfl⟩ | ⟨c,rfl,_⟩<;>cases n<;>rfl
def Sl.r{z:Nat}{es:List AV}{x:AV}(h:Sl z es x):uW x=some es.length/\(∀g n,Ab.view g (n+1) x=some x)/\(∀g n,ah g n x=[])/\x.cells=[x]/\x.one=true/\(∀g n,bO g (n+1) x=some x)/\(∀r n bs,ao r n x bs=(x,bs)):=
 ⟨h.len,h.view,h.refs,h.cells.1,h.cells.2,h.exp,h.imp'⟩
@[simp] def XL(z:Nat)(es es':List AV)(c:Option Nat):Sl z es (.bg z es' c)↔es=es'/\es.length<=c.getD es.length:=by
 constructor
 ·rintro(⟨e,_⟩ | ⟨c',e,h⟩);·cases e
  cases e;exact⟨rfl,h⟩
 rintro⟨rfl,h⟩;exact .inr ⟨c,rfl,h⟩
@[simp] def ajE:aO.at?=none:=id rfl
@[simp] def ajD(r:Ref)(o n:Nat)(c:Option Nat):(AV.bk r o n c).at?=some r:=id rfl
def XD{P:Program}{t t' z by':Nat}(i:X5 P t z by'=true)(a:I7 P t'=true)(m:Bool)(H:aa)(r:Ref){new:List AV}{x:AV}(f:Sa H.get z new x)(n:new≠[])(p:new.length * by'<=aJ) :
 dm P m H r (some t) (some t') aO x=some (.bk r 0 new.length none,({ r with k:=0},some ⟨z,new,true,false⟩) :: H):=by
 obtain⟨e,zz,g,v,l,j,o,y,u,q⟩:=gJ i;have b:=f.mK i g;unfold I7 at a;simp only[bo,iB]at a;have c:(P.underlying t').isNone=false:=by cases h:P.underlying t' with | none=>rw[h]at a;simp at a | some d=>rfl
 have s : ¬((P.underlying t').isNone=true\/isInt P t'≠isNum x):=by
  rw[c,a.2,f.num];simp
 have hd : ¬(z≠z\/z=0\/by'=0\/zz.cells.length≠z):=by simp[o,u,q]
 simp only[dm,eG,eD,g,Option.map_some,cB,if_neg s,v,l,j,b,if_neg hd,if_neg n,if_pos p];rfl
def Ot{P:Program}{t t' z by':Nat}(p:X5 P t z by'=true)(b:I7 P t'=true)(H:aa)(r q:Ref)(n:Nat){new es:List AV}{x:AV}(k:Sa H.get z new x){fz:Bool}(s:H.get q=some ⟨z,es,true,fz⟩)(E:n=es.length)(c:new≠[])(F:(es.length+new.length) * by'<=aJ) :
 dm P true H r (some t) (some t') (.bk q 0 n none) x=some (.bk ⟨q.d,q.t,H.gen q.d q.t,0⟩ 0 (es.length+new.length) none,(⟨q.d,q.t,H.gen q.d q.t,0⟩,some ⟨z,es++new,true,fz⟩) :: H.put q none):=by
 subst E;obtain⟨e,zz,j,D,m,l,o,G,y,u⟩:=gJ p;have a:=k.mK p j;unfold I7 at b;simp only[bo,iB]at b;have f:(P.underlying t').isNone=false:=by cases h:P.underlying t' with | none=>rw[h]at b;simp at b | some d=>rfl
 have v : ¬((P.underlying t').isNone=true\/isInt P t'≠isNum x):=by
  rw[f,b.2,k.num];simp
 have hd : ¬(z≠z\/z=0\/by'=0\/zz.cells.length≠z):=by simp[o,y,u]
 have g : ¬(z≠z\/z=0\/by'=0\/new=[]\/zz.cells.length≠z):=by simp[o,y,u,c]
 have i:eG P H.get r (some t) (some t') (.bk q 0 es.length none) x=none:=by
  simp only[eG,eD,j,Option.map_some,cB,if_neg v,D,m,l,a,if_neg hd,s,if_neg c];simp
 simp only[dm,i,EV,Ip];simp only[j9,eD,j,Option.map_some,cB,if_neg v,D,m,l,a,if_neg g,s,F,and_self,if_true,iQs]
def jw(P:Program)(t:TypeId):Nat:=((ca P t).bind (aE P)).getD 0
def oe(P:Program)(t:TypeId):Nat:=((ca P t).bind (gP P)).getD 0
def eT(P:Program)(t:TypeId):AV:=((ca P t).bind (eu P)).getD AV.undef
def oT(P:Program)(t:TypeId):Bool:=X5 P t (jw P t) (oe P t)
def Xf(z:Nat)(o:Option (Nat × List AV)):Option (List AV):=match o with
 | some (a,es)=>if a=z then some es else none
 | none=>none
def jZ(z:Nat)(g:cV)(x:AV):Option (List AV):=match x with
 | .v (.slice none 0 0)=>some []
 | .v (.int _ _)=>none
 | x=>Xf z (cy g x)
@[simp] def afi(z:Nat)(g:cV):jZ z g aO=some []:=id rfl
@[simp] def afj(z:Nat)(g:cV)(a:Nat)(es:List AV)(c:Option Nat):jZ z g (.bg a es c)=if a=z then some es else none:=id rfl
def aah(z o n:Nat)(b:Option bj):Option (List AV):=match b with
 | some b=>if (b.arr=true/\o+n<=b.es.length)/\b.esz=z then some ((b.es.drop o).take n) else none
 | none=>none
@[simp] def afk(z o n:Nat)(b:bj):aah z o n (some b)=if (b.arr=true/\o+n<=b.es.length)/\b.esz=z then some ((b.es.drop o).take n) else none:=id rfl
@[simp] def afh(z:Nat)(g:cV)(r:Ref)(o n:Nat)(c:Option Nat):jZ z g (.bk r o n c)=aah z o n (g r):=by
 unfold jZ aah;simp only[cy];cases g r with
 | none=>rfl
 | some b=>
  dsimp only;by_cases h:b.arr=true/\o+n<=b.es.length
  ·by_cases a:b.esz=z;·rw[if_pos h,if_pos ⟨h,a⟩];simp[Xf,a]
   rw[if_pos h,if_neg (λe=>a e.2)];simp[Xf,a]
  rw[if_neg h,if_neg (λe=>h e.1)];rfl
def Sl.jZ{z:Nat}{es:List AV}{x:AV}(h:Sl z es x)(g:cV):Ab.jZ z g x=some es:=by
 rcases h with ⟨rfl,rfl⟩ | ⟨c,rfl,_⟩<;>simp
def vv{z:Nat}{g:cV}{x:AV}{new:List AV}(h:jZ z g x=some new):Sa g z new x:=by
 unfold jZ at h;split at h;·cases h;exact .inl ⟨rfl,rfl⟩
 ·cases h
 rename_i c d;unfold Xf at h;split at h
 ·rename_i f es a;split at h
  ·rename_i b;cases h;subst b;refine .inr ⟨?_,λe=>?_,a⟩
   ·cases x with
    | v u=>cases u with
     | int k n=>exact(d _ _ rfl).elim
     | _=>rfl
    | _=>rfl
   exact c e
  cases h
 cases h
def D6(z by':Nat)(H:aa)(r:Ref)(new:Option (List AV)):cR:=match new with
 | some new=>if new=[] then some (aO,H) else if new.length * by'<=aJ then some (.bk r 0 new.length none,({ r with k:=0},some ⟨z,new,true,false⟩) :: H) else none
 | none=>none
@[simp] def Ug(z by':Nat)(H:aa)(r:Ref)(new:List AV):D6 z by' H r (some new)=if new=[] then some (aO,H) else if new.length * by'<=aJ then some (.bk r 0 new.length none,({ r with k:=0},some ⟨z,new,true,false⟩) :: H) else none:=id rfl
@[simp] def QI{P:Program}{t t':TypeId}(j:oT P t=true)(c:I7 P t'=true)(u:Bool)(H:aa)(r:Ref)(x:AV)(f:(jZ (jw P t) H.get x).isSome=true) :
 dm P u H r (some t) (some t') aO x=D6 (jw P t) (oe P t) H r (jZ (jw P t) H.get x):=by
 obtain⟨new,z⟩:=gT.1 f;rw[z,Ug];have f:=vv z;unfold oT at j;by_cases b:new=[]
 ·rw[if_pos b];subst b;obtain⟨e,zz,i,q,l,k,m,D,p,n⟩:=gJ j;have a:=f.mK j i;unfold I7 at c;simp only[bo,iB]at c;have g:(P.underlying t').isNone=false:=by cases h:P.underlying t' with | none=>rw[h]at c;simp at c | some d=>rfl
  have o : ¬((P.underlying t').isNone=true\/isInt P t'≠isNum x):=by rw[g,c.2,f.num];simp
  have hd : ¬(jw P t≠jw P t\/jw P t=0\/oe P t=0\/zz.cells.length≠jw P t):=(by simp[m,p,n]);simp only[dm,eG,eD,i,Option.map_some,cB,if_neg o,q,l,k,a,if_neg hd,if_true];rfl
 rw[if_neg b];split;·rename_i y;exact XD j c u H r f b y
 rename_i y;obtain⟨e,zz,i,q,l,k,m,D,p,n⟩:=gJ j;have a:=f.mK j i;unfold I7 at c;simp only[bo,iB]at c;have g:(P.underlying t').isNone=false:=by cases h:P.underlying t' with | none=>rw[h]at c;simp at c | some d=>rfl
 have o : ¬((P.underlying t').isNone=true\/isInt P t'≠isNum x):=by rw[g,c.2,f.num];simp
 have hd : ¬(jw P t≠jw P t\/jw P t=0\/oe P t=0\/zz.cells.length≠jw P t):=(by simp[m,p,n]);have s : ¬(jw P t≠jw P t\/jw P t=0\/oe P t=0\/new=[]\/zz.cells.length≠jw P t):=(by simp[m,p,n,b]);have v:eG P H.get r (some t) (some t') aO x=none:=(by simp only[eG,eD,i,Option.map_some,cB,if_neg o,q,l,k,a,if_neg hd,if_neg b,if_neg y]);simp only[dm,v,EV];cases u;·rfl
 simp only[Ip,j9,eD,i,Option.map_some,cB,if_neg o,q,l,k,a,if_neg s]
def bsG(a:Bool)(z:Nat)(zz:AV)(H:aa)(r:Ref)(n:Nat)(ps:List (Nat × AV)):cR:=match hY (List.replicate n zz) ps with
 | some es=>if a then some (.bg z es (some n),H) else some (.bk r 0 n (some n),({ r with k:=0},some ⟨z,es,true,false⟩) :: H)
 | none=>none
@[simp] def ai6{P:Program}{t:TypeId}(d:oT P t=true)(a j:Bool)(H:aa)(r:Ref)(n:Nat)(ps:List (Nat × AV))(f:n * jw P t<=16777216)(k:dp H.get ps=some ps)(c:ct H.get (ps.map (·.2))=[])
 (m:ps.all (λp=>p.2.cells.length == jw P t&&p.2.cells.all AV.one)=true) (b:(hY (List.replicate n (eT P t)) ps).isSome=true) :
 lb P a j H r t n (some ps)=bsG a (jw P t) (eT P t) H r n ps:=by
 obtain⟨es,b⟩:=gT.1 b;unfold oT at d;obtain⟨e,zz,l,x,q,i,s,o,v,u⟩:=gJ d;have h:(ca P t).bind (eu P)=some zz:=by rw[l];exact i
 have g:eT P t=zz:=by unfold eT;rw[h];rfl
 rw[g]at b ⊢;rw[Xq d f k c m h b];unfold bsG;rw[b]
@[simp] def X4(es:List AV):hY es []=some es:=id rfl
@[simp] def W9(es:List AV)(i:Nat)(v:AV)(ps:List (Nat × AV)):hY es ((i,v) :: ps)=if i<es.length then hY (es.set i v) ps else none:=id rfl
@[simp] def ahz(a:Bool)(z:Nat)(zz:AV)(H:aa)(r:Ref)(n:Nat)(ps:List (Nat × AV)):bsG a z zz H r n ps=(hY (List.replicate n zz) ps).bind λes=>if a then some (.bg z es (some n),H) else some (.bk r 0 n (some n),({ r with k:=0},some ⟨z,es,true,false⟩) :: H):=by
 unfold bsG;cases hY (List.replicate n zz) ps<;>rfl
@[simp] def XU(g:cV):dp g []=some []:=id rfl
@[simp] def UQ(g:cV)(i:Nat)(x:AV)(ps:List (Nat × AV)):dp g ((i,x) :: ps)=(view g depth x).bind λy=>(dp g ps).map ((i,y) :: ·):=by
 unfold dp;rw[FB];dsimp only;cases view g depth x<;>rfl
def adC(z o n:Nat)(k:Int)(r:Ref)(b:Option bj):jx:=match b with
 | some b=>if 0<=k/\k<n/\z=b.esz then some (.ptr r (o+k.toNat) 0,[]) else none
 | none=>none
@[simp] def afa(z o n:Nat)(k:Int)(r:Ref)(b:bj):adC z o n k r (some b)=if 0<=k/\k<n/\z=b.esz then some (.ptr r (o+k.toNat) 0,[]) else none:=id rfl
@[simp] def Ur{P:Program}{t:TypeId}(h:oT P t=true)(g:cV)(r:Ref)(o n:Nat)(c:Option Nat)(b:IntKind)(k:Int) :
 bH P g t (some (.bk r o n c)) (some (.v (.int b k)))=adC (jw P t) o n k r (g r):=by
 unfold oT at h;obtain⟨e,zz,a,d,j,i,m,f,p,l⟩:=gJ h;simp only[bH,eD,uo,a,d];cases g r<;>rfl
def Pg(H:aa)(r:Ref)(o:Option bj)(n i j:Nat)(x:AV):cR:=match o with
 | some ⟨z,es,true,false⟩=>if x.cells.length=n/\x.cells.all AV.one=true then (fm es i j x.cells).map λes=>(AV.undef,H.put r (some ⟨z,es,true,false⟩)) else none
 | some ⟨z,es,false,false⟩=>if x.cells.length=n/\x.cells.all AV.one=true then (fm es i j x.cells).map λes=>(AV.undef,H.put r (some ⟨z,es,false,false⟩)) else none
 | _=>none
@[simp] def HC(H:aa)(r:Ref)(z:Nat)(es:List AV)(n i j:Nat)(x:AV):Pg H r (some ⟨z,es,true,false⟩) n i j x=if x.cells.length=n/\x.cells.all AV.one=true then (fm es i j x.cells).map λes=>(AV.undef,H.put r (some ⟨z,es,true,false⟩)) else none:=id rfl
@[simp] def acm(H:aa)(r:Ref)(z:Nat)(es:List AV)(n i j:Nat)(x:AV):Pg H r (some ⟨z,es,false,false⟩) n i j x=if x.cells.length=n/\x.cells.all AV.one=true then (fm es i j x.cells).map λes=>(AV.undef,H.put r (some ⟨z,es,false,false⟩)) else none:=id rfl
def Pj(H:aa)(o:Option bj)(x:AV):Prop:=match o with
 | some ⟨_,_,false,false⟩=>True
 | some ⟨_,_,true,false⟩=>view H.get depth x=some x/\ah H.get depth x=[]
 | _=>False
@[simp] def aco(H:aa)(z:Nat)(es:List AV)(x:AV):Pj H (some ⟨z,es,false,false⟩) x=True:=id rfl
@[simp] def acp(H:aa)(z:Nat)(es:List AV)(x:AV):Pj H (some ⟨z,es,true,false⟩) x=(view H.get depth x=some x/\ah H.get depth x=[]):=id rfl
def ky{P:Program}{t:TypeId}(d:(aE P t).isSome=true)(H:aa)(r:Ref)(i j:Nat)(x:AV)(a:Pj H (H.get r) x) :
 jy P H t (some (.ptr r i j)) (some x)=Pg H r (H.get r) ((aE P t).getD 0) i j x:=by
 obtain⟨n,d⟩:=gT.1 d;simp only[jy,d,cB];cases e:H.get r with
 | none=>rw[e]at a;exact a.elim
 | some b=>
  rw[e]at a;obtain⟨z,es,arr,gR⟩:=b;cases gR with
  | true=>cases arr<;>exact a.elim
  | false=>
   cases arr with| false=>simp only[iQr,eW,iQe];rfl| true=>
    obtain⟨f,g⟩:=a;simp only[iQr,if_true,f,g,zi,iQe,cg];by_cases c:x.cells.length=n/\x.cells.all AV.one=true;·rw[if_pos c,HC,if_pos c,if_pos c.2]
    rw[if_neg c,HC,if_neg c]
@[simp] def Ji(cs:List AV)(j:Nat)(new:List AV):nZ (.agg cs) j new=if j+new.length<=cs.length then some (.agg (patch cs j new)) else none:=id rfl
@[simp] def aaO(x:UInt8)(y:AV):nZ (a8 x) 0 [y]=some y:=id rfl
@[simp] def acV(f:Fn)(a b:List AV):Ai f (some a) (some b)=some (.fn f a b,[]):=id rfl
attribute [simp] ky
@[simp] def adJ(a:Nat->Option (Nat × Nat))(cells:List AV):wh a cells []=some cells:=id rfl
def abP(a:Nat->Option (Nat × Nat))(cells:List AV)(v:AV)(rest:List (Nat × AV))(p:Option (Nat × Nat)):Option (List AV):=match p with
 | none=>none
 | some (off,size)=>if v.cells.length=size/\off+size<=cells.length then wh a (patch cells off v.cells) rest else none
@[simp] def abQ(a:Nat->Option (Nat × Nat))(cells:List AV)(i:Nat)(v:AV)(rest:List (Nat × AV)):wh a cells ((i,v) :: rest)=abP a cells v rest (a i):=id rfl
@[simp] def adI(a:Nat->Option (Nat × Nat))(cells:List AV)(v:AV)(rest:List (Nat × AV))(c b:Nat):abP a cells v rest (some (c,b))=if v.cells.length=b/\c+b<=cells.length then wh a (patch cells c v.cells) rest else none:=id rfl
@[simp] def aba(P:Program){g:cV}{r:Ref}{src dst:TypeId}{k':IntKind}(a:(P.underlying src).isNone=false)(hd:intKind P dst=some .u64)(n:Int)(b:0<=n)(c:n<=4294967296) :
 bY P g r src dst (some (.v (.int k' n)))=some (.v (.int .u64 n),[]):=by
 rw[o5 P .u64 a hd,IntKind.wrap_u64,OK b (by omega)]
@[simp] def agE(r':Ref)(a:Option bj)(H:aa)(r:Ref)(b:Option bj):aa.put ((r',a) :: H) r b=if r'=r then (r,b) :: H else (r',a) :: aa.put H r b:=id rfl
def aee(z:Nat)(es:List AV)(y:AV):Prop:=(y=aO/\es=[])\/y = .fsl z es none\/(y = .fsl z [] (some 0)/\es=[])
def ZV(r:Ref)(y:AV)(k:Nat):AV:=match y with
 | .fsl _ es c => .bk { r with k:=k} 0 es.length c
 | y=>y
def ZY(y:AV):List bj:=match y with
 | .fsl z es _=>[⟨z,es,true,false⟩]
 | _=>[]
def aee.imp{z:Nat}{es:List AV}{y:AV}(h:aee z es y)(a:z≠0)(r:Ref)(n:Nat)(bs:List bj):ao r (n+1) y bs=(ZV r y bs.length,bs++ZY y):=by
 rcases h with ⟨rfl,rfl⟩ | rfl | ⟨rfl,rfl⟩
 ·simp[ZV,ZY]
 ·simp[ZV,ZY,a]
 simp[ZV,ZY,a]
def Bh{P:Program}{t t':TypeId}(l:oT P t=true)(c:I7 P t'=true)(v:Bool)(H:aa)(r q:Ref)(n k:Nat)(x:AV){es new:List AV}{fz:Bool}(p:H.get q=some ⟨jw P t,es,true,fz⟩)(f:jZ (jw P t) H.get x=some new)(y:n=es.length)(j:new=[]\/((es.length+new.length) * oe P t<=aJ/\k<es.length+new.length)) :
 dm P v H r (some t) (some t') (.bk q 0 n (some k)) x=if new=[] then some (.bk q 0 n (some k),H) else some (.bk r 0 (es.length+new.length) none,({ r with k:=0},some ⟨jw P t,es++new,true,false⟩) :: H):=by
 subst y;have f:=vv f;unfold oT at l;obtain⟨e,zz,i,u,o,m,z,G,F,E⟩:=gJ l;have a:=f.mK l i;unfold I7 at c;simp only[bo,iB]at c;have g:(P.underlying t').isNone=false:=by cases h:P.underlying t' with | none=>rw[h]at c;simp at c | some d=>rfl
 have s : ¬((P.underlying t').isNone=true\/isInt P t'≠isNum x):=by rw[g,c.2,f.num];simp
 have hd : ¬(jw P t≠jw P t\/jw P t=0\/oe P t=0\/zz.cells.length≠jw P t):=by simp[z,F,E]
 by_cases b:new=[];·subst b;simp only[dm,eG,eD,i,Option.map_some,cB,if_neg s,u,o,m,a,if_neg hd,p,if_true];simp
 obtain⟨D,j⟩:=j.resolve_left b;simp only[dm,eG,eD,i,Option.map_some,cB,if_neg s,u,o,m,a,if_neg hd,p,if_neg b];simp only[ne_eq,not_true_eq_false,Bool.true_eq_false,or_self,iQe,vG,cG,j,D,and_self,if_true,En,BW];rfl
def kL(z by' n:Nat)(a:Bool)(c:Option Nat)(b:Option bj)(new:Option (List AV)):Prop:=match b,new with
 | some ⟨d,es,true,_⟩,some new=>d=z/\n=es.length/\(new=[]\/((es.length+new.length) * by'<=aJ/\match c with | none=>a=true | some k=>k<es.length+new.length))
 | _,_=>False
def aq(z by' n:Nat)(b:Bool)(a:Nat)(es new:List AV)(fz:Bool):kL z by' n b none (some ⟨a,es,true,fz⟩) (some new)=(a=z/\n=es.length/\(new=[]\/((es.length+new.length) * by'<=aJ/\b=true))):=id rfl
def aA(z by' n:Nat)(b:Bool)(k a:Nat)(es new:List AV)(fz:Bool):kL z by' n b (some k) (some ⟨a,es,true,fz⟩) (some new)=(a=z/\n=es.length/\(new=[]\/((es.length+new.length) * by'<=aJ/\k<es.length+new.length))):=id rfl
def Bi(z:Nat)(H:aa)(q r:Ref)(n:Nat)(c:Option Nat)(b:Option bj)(new:Option (List AV)):cR:=match b,new with
 | some b,some []=>some (.bk q 0 n c,H)
 | some b,some new=>match c with
  | none=>some (.bk ⟨q.d,q.t,H.gen q.d q.t,0⟩ 0 (b.es.length+new.length) none,(⟨q.d,q.t,H.gen q.d q.t,0⟩,some ⟨z,b.es++new,true,b.gR⟩) :: H.put q none)
  | some _=>some (.bk r 0 (b.es.length+new.length) none,({ r with k:=0},some ⟨z,b.es++new,true,false⟩) :: H)
 | _,_=>none
@[simp] def XH(z:Nat)(H:aa)(q r:Ref)(n:Nat)(c:Option Nat)(b:bj):Bi z H q r n c (some b) (some [])=some (.bk q 0 n c,H):=id rfl
def bA(z:Nat)(H:aa)(q r:Ref)(n:Nat)(b:bj)(new:List AV)(a:new≠[]):Bi z H q r n none (some b) (some new)=some (.bk ⟨q.d,q.t,H.gen q.d q.t,0⟩ 0 (b.es.length+new.length) none,(⟨q.d,q.t,H.gen q.d q.t,0⟩,some ⟨z,b.es++new,true,b.gR⟩) :: H.put q none):=by
 cases new with| nil=>exact(a rfl).elim| cons _ _=>rfl
def bw(z:Nat)(H:aa)(q r:Ref)(n k:Nat)(b:bj)(new:List AV)(a:new≠[]):Bi z H q r n (some k) (some b) (some new)=some (.bk r 0 (b.es.length+new.length) none,({ r with k:=0},some ⟨z,b.es++new,true,false⟩) :: H):=by
 cases new with| nil=>exact(a rfl).elim| cons _ _=>rfl
def aM{P:Program}{t t':TypeId}(o:oT P t=true)(g:I7 P t'=true)(s:Bool)(H:aa)(r q:Ref)(n:Nat)(c:Option Nat)(x:AV)(a:kL (jw P t) (oe P t) n s c (H.get q) (jZ (jw P t) H.get x)) :
 dm P s H r (some t) (some t') (.bk q 0 n c) x=Bi (jw P t) H q r n c (H.get q) (jZ (jw P t) H.get x):=by
 cases i:H.get q with| none=>rw[i]at a;exact a.elim| some b=>
  obtain⟨K,es,arr,fz⟩:=b;cases j:jZ (jw P t) H.get x with
  | none=>rw[i,j]at a;cases arr<;>exact a.elim
  | some new=>
   rw[i,j]at a;cases arr with
   | false=>exact a.elim
   | true=>
    obtain⟨rfl,rfl,a⟩:=a;cases c with
    | none=>
     by_cases f:new=[]
     ·subst f;rw[XH];have m:=vv j;unfold oT at o;obtain⟨e,zz,u,I,y,v,z,J,G,E⟩:=gJ o;have l:=m.mK o u;unfold I7 at g;simp only[bo,iB]at g;have p:(P.underlying t').isNone=false:=by cases h:P.underlying t' with | none=>rw[h]at g;simp at g | some d=>rfl
      have F : ¬((P.underlying t').isNone=true\/isInt P t'≠isNum x):=by rw[p,g.2,m.num];simp
      have hd : ¬(jw P t≠jw P t\/jw P t=0\/oe P t=0\/zz.cells.length≠jw P t):=(by simp[z,G,E]);simp only[dm,eG,eD,u,Option.map_some,cB,if_neg F,I,y,v,l,if_neg hd,i,if_true];simp
     obtain⟨D,rfl⟩:=a.resolve_left f;rw[bA _ _ _ _ _ _ _ f];exact Ot (by exact o) g H r q _ (vv j) i rfl f D
    | some k=>
     rw[Bh o g s H r q _ k x i j rfl a];split;·rename_i f;subst f;rfl
     rename_i f;rw[bw _ _ _ _ _ _ _ _ f]
def Sl.Wr{z:Nat}{es:List AV}{x:AV}(h:Sl z es x):x=aO/\es=[] \/∃c,x = .bg z es c:=by
 rcases h with h | ⟨c,h,_⟩
 ·exact .inl h
 exact .inr ⟨c,h⟩
@[simp] def Zt(P:Program)(t:TypeId)(xo yo:Operand)(h:(ca P t).isSome=true)(z:Nat)(es:List AV)(c:Option Nat):bC P .eql t xo yo (some (.bg z es c)) (some aO)=some (aB false,[]):=by
 unfold ca at h;split at h;·rename_i e a;simp[bC,F8,jW,a]
 cases h
def ahi(b:Option bj):Bool:=match b with | some b=>b.gR | none=>false
@[simp] def afd(b:bj):ahi (some b)=b.gR:=id rfl
@[simp] def aec(g:cV):mV g []=true:=id rfl
@[simp] def ab0(g:cV)(r:Ref)(rs:List Ref):mV g (r :: rs)=(ahi (g r)&&mV g rs):=id rfl
def ax(H:aa)(r:Ref)(refs:List Ref)(y:AV)(a:flat depth y=false)(b:mV H.get refs=false):qu true H r refs (some y)=some ((ao r depth y []).1,keyed r 0 (ao r depth y []).2 (cg H refs)):=by
 simp only[qu,a,b,AB,eW,iQe,if_true]
def F5(z:Nat):List AV->AV
 | []=>aO
 | es => .fsl z es none
def RA(z:Nat){es:List AV}(h:es≠[]):F5 z es = .fsl z es none:=by
 cases es with| nil=>exact(h rfl).elim| cons _ _=>rfl
def LX:AV->AV
 | .bg z [] _ => .fsl z [] (some 0)
 | .bg z es _ => .fsl z es none
 | x=>x
@[simp] def aht(x:Value):LX (.v x) = .v x:=id rfl
@[simp] def adX(z:Nat)(c:Option Nat):LX (.bg z [] c) = .fsl z [] (some 0):=id rfl
def Kv(z:Nat){es:List AV}(c:Option Nat)(h:es≠[]):LX (.bg z es c) = .fsl z es none:=by
 cases es with| nil=>exact(h rfl).elim| cons _ _=>rfl
def nY(z:Nat)(es:List AV)(H:aa)(x y:AV):Prop:=(x=y/\Sl z es y) \/∃r c fz,x = .bk r 0 es.length c/\H.get r=some ⟨z,es,true,fz⟩/\y = .bg z es c/\es.length<=c.getD es.length
def nY.sl{z:Nat}{es:List AV}{H:aa}{x y:AV}(h:nY z es H x y):Sl z es y:=by
 rcases h with ⟨_,h⟩ | ⟨r,c,fz,_,_,rfl,h⟩
 ·exact h
 exact .inr ⟨c,rfl,h⟩
def nY.view{z:Nat}{es:List AV}{H:aa}{x y:AV}(h:nY z es H x y)(n:Nat):Ab.view H.get (n+1) x=some y:=by
 rcases h with ⟨rfl,h⟩ | ⟨r,c,fz,rfl,a,rfl,_⟩
 ·exact h.view _ _
 rw[Sh a rfl]
def nY.len{z:Nat}{es:List AV}{H:aa}{x y:AV}(h:nY z es H x y):uW x=some es.length:=by
 rcases h with ⟨rfl,h⟩ | ⟨r,c,fz,rfl,a,rfl,_⟩
 ·exact h.len
 rfl
def nY.cells{z:Nat}{es:List AV}{H:aa}{x y:AV}(h:nY z es H x y):x.cells=[x]/\x.one=true:=by
 rcases h with ⟨rfl,h⟩ | ⟨r,c,fz,rfl,a,rfl,_⟩
 ·exact h.cells
 exact⟨rfl,rfl⟩
def nY.put{z:Nat}{es:List AV}{H:aa}{x y:AV}(h:nY z es H x y){q:Ref}(a:x.at?≠some q)(b:Option bj):nY z es (H.put q b) x y:=by
 rcases h with h | ⟨r,c,fz,rfl,d,rfl,e⟩
 ·exact .inl h
 refine .inr ⟨r,c,fz,rfl,?_,rfl,e⟩;rw[aa.ab,if_neg (by rintro rfl;exact a rfl),d]
def nY.cons{z:Nat}{es:List AV}{H:aa}{x y:AV}(h:nY z es H x y)(e:Fr H)(d t:Nat)(b:Option bj):nY z es ((⟨d,t,H.gen d t,0⟩,b) :: H) x y:=by
 rcases h with h | ⟨r,c,fz,rfl,a,rfl,f⟩
 ·exact .inl h
 refine .inr ⟨r,c,fz,rfl,?_,rfl,f⟩;rw[aa.cL,if_neg (qA e (by rw[a];rfl) d t 0),a]
def nY.r{z:Nat}{es:List AV}{H:aa}{x y:AV}(h:nY z es H x y):uW x=some es.length/\(∀n,Ab.view H.get (n+1) x=some y)/\x.cells=[x]/\x.one=true:=⟨h.len,h.view,h.cells⟩
def nY.of{z:Nat}{es:List AV}{x:AV}(h:Sl z es x)(H:aa):nY z es H x x := .inl ⟨rfl,h⟩
def Uk(z:Nat)(es:List AV)(H:aa)(x:AV)(r:Ref):Prop:=(x=aO/\es=[]) \/∃c,x = .bk r 0 es.length c/\H.get r=some ⟨z,es,true,false⟩
def Uk.len{z:Nat}{es:List AV}{H:aa}{x:AV}{r:Ref}(h:Uk z es H x r):uW x=some es.length:=by
 rcases h with ⟨rfl,rfl⟩ | ⟨c,rfl,_⟩<;>rfl
def Uk.cells{z:Nat}{es:List AV}{H:aa}{x:AV}{r:Ref}(h:Uk z es H x r):x.cells=[x]/\x.one=true:=by
 rcases h with ⟨rfl,rfl⟩ | ⟨c,rfl,_⟩<;>exact⟨rfl,rfl⟩
def Uk.bk{z:Nat}{es:List AV}{H:aa}{x:AV}{r:Ref}(h:Uk z es H x r){k:Nat}(a:k<es.length) : ∃c,x = .bk r 0 es.length c/\H.get r=some ⟨z,es,true,false⟩:=by
 rcases h with ⟨rfl,rfl⟩ | h
 ·simp at a
 exact h
def fG(a:List Nat)(z:Nat)(es:List AV)(H:aa)(x:AV):Prop:=(x=aO/\es=[]) \/∃t g,t∈a/\x = .bk ⟨0,t,g,0⟩ 0 es.length none/\H.get ⟨0,t,g,0⟩=some ⟨z,es,true,false⟩
@[simp] def afv(a:List Nat)(z:Nat)(es:List AV)(H:aa):fG a z es H aO↔es=[]:=by
 constructor
 ·rintro(⟨_,e⟩ | ⟨t,g,_,e,_⟩);·exact e
  cases e
 rintro rfl;exact .inl ⟨rfl,rfl⟩
@[simp] def afu(b:List Nat)(z:Nat)(es:List AV)(H:aa)(t g n:Nat):fG b z es H (.bk ⟨0,t,g,0⟩ 0 n none)↔t∈b/\n=es.length/\H.get ⟨0,t,g,0⟩=some ⟨z,es,true,false⟩:=by
 constructor
 ·rintro(⟨e,_⟩ | ⟨t',c,a,e,h⟩);·cases e
  cases e;exact⟨a,rfl,h⟩
 rintro⟨a,rfl,h⟩;exact .inr ⟨t,g,a,rfl,h⟩
def nY.live{z:Nat}{es:List AV}{H:aa}{x y:AV}(h:nY z es H x y){r:Ref}(b:x.at?=some r):(H.get r).isSome=true:=by
 rcases h with ⟨rfl,h⟩ | ⟨r',c,fz,rfl,a,rfl,_⟩
 ·rcases h with ⟨rfl,_⟩ | ⟨c,rfl,_⟩<;>cases b
 cases b;rw[a];rfl
def nY.mono{z:Nat}{es:List AV}{H H':aa}{x y:AV}(h:nY z es H x y)(d : ∀r,x.at?=some r->H'.get r=H.get r):nY z es H' x y:=by
 rcases h with h | ⟨r',c,fz,rfl,a,rfl,b⟩
 ·exact .inl h
 exact .inr ⟨r',c,fz,rfl,by rw[d r' rfl,a],rfl,b⟩
def DD{H:aa}(a:Fr H){q:Ref}(h:(H.get q).isSome=true)(d t k:Nat):((⟨d,t,H.gen d t+1,k⟩:Ref)=q)=False:=
 eq_false λe=>by subst e;rw[a _ _ _ _ (CE _)]at h;cases h
def DF{H:aa}(a:Fr H){q:Ref}(h:(H.get q).isSome=true)(d t k:Nat):(q=(⟨d,t,H.gen d t+1,k⟩:Ref))=False:=
 eq_false λe=>by subst e;rw[a _ _ _ _ (CE _)]at h;cases h
def NL{H:aa}(a:Fr H)(d t k:Nat):H.get ⟨d,t,H.gen d t+1,k⟩=none:=a _ _ _ _ (CE _)
def OD{H:aa}(c:Fr H){d t g:Nat}(k:Nat)(l:g=H.gen d t\/g+1=H.gen d t)(b:Option bj):Fr ((⟨d,t,g,k⟩,b) :: H):=by
 intro i t' m k' h;rw[aa.nU]at h;rw[aa.cL];by_cases a:d=i/\t=t';·obtain⟨rfl,rfl⟩:=a;rw[if_pos ⟨rfl,rfl⟩]at h;rw[if_neg (by intro e;injection e;omega)];exact c _ _ _ _ (by omega)
 rw[if_neg a]at h;rw[if_neg (by intro e;injection e with f j;exact a ⟨f,j⟩)];exact c _ _ _ _ h
def RI(by':Nat)(es:List AV)(k:Nat)(new:Option (List AV)):Prop:=match new with
 | some new=>new=[]\/(k<es.length+new.length/\(es.length+new.length) * by'<=aJ)
 | none=>False
def af(by':Nat)(es:List AV)(k:Nat)(new:List AV):RI by' es k (some new)=(new=[]\/(k<es.length+new.length/\(es.length+new.length) * by'<=aJ)):=id rfl
def adq(z:Nat)(H:aa)(r:Ref)(es:List AV)(k:Nat)(new:Option (List AV)):cR:=match new with
 | some []=>some (.bg z es (some k),H)
 | some new=>some (.bk r 0 (es.length+new.length) none,({ r with k:=0},some ⟨z,es++new,true,false⟩) :: H)
 | none=>none
@[simp] def WL(z:Nat)(H:aa)(r:Ref)(es:List AV)(k:Nat):adq z H r es k (some [])=some (.bg z es (some k),H):=id rfl
def aW(z:Nat)(H:aa)(r:Ref)(es:List AV)(k:Nat)(new:List AV)(a:new≠[]):adq z H r es k (some new)=some (.bk r 0 (es.length+new.length) none,({ r with k:=0},some ⟨z,es++new,true,false⟩) :: H):=by
 cases new with| nil=>exact(a rfl).elim| cons _ _=>rfl
def aL{P:Program}{t t':TypeId}(m:oT P t=true)(b:I7 P t'=true)(u:Bool)(H:aa)(r:Ref)(z k:Nat)(es:List AV)(x:AV)(s:z=jw P t)(f:RI (oe P t) es k (jZ (jw P t) H.get x)) :
 dm P u H r (some t) (some t') (.bg z es (some k)) x=adq z H r es k (jZ (jw P t) H.get x):=by
 subst s;cases i:jZ (jw P t) H.get x with
 | none=>rw[i]at f;exact f.elim
 | some new=>
  rw[i]at f;have c:=vv i;unfold oT at m;obtain⟨e,zz,l,q,o,n,y,G,F,E⟩:=gJ m;have a:=c.mK m l;unfold I7 at b;simp only[bo,iB]at b;have j:(P.underlying t').isNone=false:=by cases h:P.underlying t' with | none=>rw[h]at b;simp at b | some d=>rfl
  have p : ¬((P.underlying t').isNone=true\/isInt P t'≠isNum x):=by rw[j,b.2,c.num];simp
  have hd : ¬(jw P t≠jw P t\/jw P t=0\/oe P t=0\/zz.cells.length≠jw P t):=(by simp[y,F,E]);by_cases g:new=[];·subst g;rw[WL];simp only[dm,eG,eD,l,Option.map_some,cB,if_neg p,q,o,n,a,if_neg hd,if_neg (show ¬(jw P t≠jw P t) by simp),if_true];rfl
  obtain⟨v,D⟩:=f.resolve_left g;rw[aW _ _ _ _ _ _ g];simp only[dm,eG,eD,l,Option.map_some,cB,if_neg p,q,o,n,a,if_neg hd,if_neg (show ¬(jw P t≠jw P t) by simp),if_neg g,if_pos (show k<es.length+new.length/\(es.length+new.length) * oe P t<=aJ from⟨v,D⟩)];rfl
@[simp] def afb(n:Nat)(h:n<9223372036854775808):IntKind.i64.wrap (no_index (OfNat.ofNat n):Int)=OfNat.ofNat n:=by
 show IntKind.i64.wrap (n:Int)=n;exact iQa _ (by omega)
@[simp] def ahC(len:Nat)(cap:Option Nat)(lo hi:Option Int):bounds len cap lo hi none=if 0<=lo.getD 0/\lo.getD 0<=hi.getD len/\hi.getD len<=len then some ((lo.getD 0).toNat,(hi.getD len).toNat,cap.map (· - (lo.getD 0).toNat)) else none:=id rfl
@[simp] def ahB(len:Nat)(cap:Option Nat)(lo:Option Int)(h m:Int):bounds len cap lo (some h) (some m)=if 0<=lo.getD 0/\lo.getD 0<=h/\h<=m/\m<=cap.getD len/\h<=len then some ((lo.getD 0).toNat,h.toNat,some (m.toNat - (lo.getD 0).toNat)) else none:=id rfl
@[simp] def agk(k:Nat):min k IntKind.i64.bits=min k 64:=id rfl
def aa8(o:Option AV)(j n:Nat)(a:Bool):Option AV:=match o with
 | none=>none
 | some e=>if a then (if j+n<=e.cells.length/\0<n then some (.agg ((e.cells.drop j).take n)) else none) else e.cells[j]?
@[simp] def acL(e:AV)(j n:Nat)(a:Bool):aa8 (some e) j n a=if a then (if j+n<=e.cells.length/\0<n then some (.agg ((e.cells.drop j).take n)) else none) else e.cells[j]?:=id rfl
@[simp] def aeD(a b:AV)(es:List AV)(i j n:Nat)(c:Bool):bF (a :: b :: es) i j n c=aa8 (a :: b :: es)[i]? j n c:=by
 unfold bF;cases(a :: b :: es)[i]?<;>rfl
@[simp] def ahG(l:List (AV × AV))(st bs:List AV)(H:aa):qJ l st bs H↔(l.all λp=>rP p.1 p.2)=true/\st.all (HA H)=true/\bs.all bsV=true:=Iff.rfl
@[simp] def aeA(r:Ref)(i j:Nat)(r':Ref)(b a:Nat):rP (.ptr r i j) (.ptr r' b a) = !decide (r=r'):=by
 unfold rP;simp[lC]
@[simp] def aeB(r:Ref)(i j:Nat)(r':Ref)(o n:Nat)(c:Option Nat):rP (.ptr r i j) (.bk r' o n c) = !decide (r=r'):=by
 unfold rP;simp[lC]
@[simp] def aeC(r:Ref)(i j:Nat)(r':Ref)(o n:Nat)(c:Option Nat):rP (.bk r' o n c) (.ptr r i j) = !decide (r'=r):=by
 unfold rP;simp[lC]
@[simp] def agx(v:Value)(x:AV):rP (.v v) x=true:=id rfl
@[simp] def acK(z:Nat)(es:List AV)(c:Option Nat)(x:AV):rP (.bg z es c) x=true:=id rfl
def UE(es:List AV)(o:Option AV)(i j:Nat)(new:List AV):Option (List AV):=match o with
 | none=>none
 | some e=>(nZ e j new).map λa=>es.set i a
@[simp] def aaP(es:List AV)(e:AV)(i j:Nat)(new:List AV):UE es (some e) i j new=(nZ e j new).map λa=>es.set i a:=id rfl
@[simp] def ab4(a b:AV)(es:List AV)(i j:Nat)(new:List AV):fm (a :: b :: es) i j new=UE (a :: b :: es) (a :: b :: es)[i]? i j new:=by
 unfold fm;cases(a :: b :: es)[i]?<;>rfl
def Pf(o:Option bj):Bool:=match o with
 | some b => !b.arr
 | none=>false
@[simp] def aa2(b:bj):Pf (some b) = !b.arr:=id rfl
@[simp] def agj(H:aa)(r:Ref)(i j:Nat):HA H (.ptr r i j)=Pf (H.get r):=by
 cases h:H.get r<;>simp[HA,Pf,h]
@[simp] def ajR(r:Ref)(o n:Nat)(c:Option Nat):bsV (.bk r o n c)=true:=id rfl
def be:Nat->Int->List UInt8
 | 0,_=>[]
 | k+1,n=>be k (n / 256)++[u8 n]
def vc(a:Int)(l:List UInt8):Int:=l.foldl (λa b=>256 * a+(b.toNat:Int)) a
def val(l:List UInt8):Int:=vc 0 l
@[simp] def Fa(k:Nat) : ∀n,(be k n).length=k:=by
 induction k with| zero=>intro n;rfl| succ k a=>intro n;simp[be,a]
@[simp] def aja(n:Int):be 0 n=[]:=id rfl
def UR(a:Int):vc a []=a:=rfl
def JX(a:Int)(b:UInt8)(l:List UInt8):vc a (b :: l)=vc (256 * a+b.toNat) l:=rfl
def Sj(a:Int)(l:List UInt8)(b:UInt8):vc a (l++[b])=256 * vc a l+b.toNat:=by
 unfold vc;rw[List.foldl_append];rfl
def Ht(l:List UInt8)(b:UInt8):val (l++[b])=256 * val l+b.toNat:=Sj 0 l b
@[simp] def ahN:val []=0:=id rfl
def CM(n:Int):((u8 n).toNat:Int)=n % 256:=by rw[qU];omega
def Yi(k:Nat) : ∀n:Int,0<=n->n<256 ^ k->val (be k n)=n:=by
 induction k with
 | zero=>
  intro n c a;simp only[Int.pow_zero]at a;have:n=0:=by omega
  subst this;rfl
 | succ k b=>intro n c a;rw[be,Ht,b (n / 256) (by omega) (by rw[vI]at a;omega),CM];omega
def CK{k:Nat}{n:Int}(b:0<=n)(a:n<256 ^ k):val (be k n)=n:=Yi k n b a
def yy(l:List UInt8):0<=val l/\val l<256 ^ l.length:=by
 induction h:l.length generalizing l with| zero=>have:l=[]:=wU.1 h;subst this;simp| succ k c=>
  have a:l≠[]:=by rintro rfl;simp at h
  rw[<-Uz a];generalize l.getLast a=b;have hd:l.dropLast.length=k:=by simp[h]
  have d:=c l.dropLast hd;rw[Ht,vI];have:=b.toNat_lt;omega
def ad3(l:List UInt8):be l.length (val l)=l:=by
 induction h:l.length generalizing l with| zero=>have:l=[]:=wU.1 h;subst this;rfl| succ k e=>
  have a:l≠[]:=by rintro rfl;simp at h
  have hd:l.dropLast.length=k:=(by simp[h]);have c:=Uz a;generalize l.getLast a=b at c;have f:=e l.dropLast hd;rw[<-c,Ht,be];have i:=b.toNat_lt;have d:(256 * val l.dropLast+(b.toNat:Int)) / 256=val l.dropLast:=by omega
  have g:u8 (256 * val l.dropLast+(b.toNat:Int))=b:=(by apply z9.1;rw[qU];omega);rw[d,g,f]
def Gr{l:List UInt8}{k:Nat}(h:l.length=k):be k (val l)=l:=by subst h;exact ad3 l
def L4(k:Nat) : ∀n:Int,be (k+1) n=u8 (n / 256 ^ k) :: be k n:=by
 induction k with| zero=>intro n;simp[be]| succ k a=>intro n;rw[be,a,be];rw[Int.ediv_ediv_of_nonneg (by omega),vI,Int.mul_comm (256 ^ k)];simp
def yA(a:Int)(h:0<=a)(l:List UInt8):a<=vc a l:=by
 induction l generalizing a with| nil=>exact iQV _| cons b l c=>rw[JX];have:=c (256 * a+b.toNat) (by omega);omega
def CL(l:List UInt8) : ∀(a:Int),0<=a ->∀k:Nat,a<256 ^ k->vc a l<256 ^ (k+l.length):=by
 induction l with| nil=>intro a h k c;simpa [UR] using c| cons b l d=>intro a h k c;have e:=b.toNat_lt;have:=d (256 * a+b.toNat) (by omega) (k+1) (by rw[vI];omega);rw[JX,gD];rwa [show k+(l.length+1)=k+1+l.length by omega]
def orI(a b:Int):Int:=IntKind.i64.wrap ((BitVec.ofInt 64 a ||| BitVec.ofInt 64 b).toNat:Int)
@[simp] def aix(P:Program)(t:TypeId)(xo yo:Operand)(a b:Int):bC P .or t xo yo (some (.v (.int .i64 a))) (some (.v (.int .i64 b)))=some (.v (.int .i64 (orI a b)),[]):=by
 have h:xc P .or t xo yo (.int .i64 a) (.int .i64 b)=some (.int .i64 (orI a b)):=rfl;simp only[bC,F8,jW,kH,h,qO,AB,eW,iQe,eD,iO,scalar,if_true,iL,Option.map_some]
def LA{a b:Int}{k:Nat}(i:0<=a)(h:a * 2 ^ k<9223372036854775808)(l:0<=b)(f:b<2 ^ k)(j:k<63):orI (a * 2 ^ k) b=a * 2 ^ k+b:=by
 obtain⟨m,rfl⟩:=Gx i;obtain⟨n,rfl⟩:=Gx l;have d:n<2 ^ k:=by exact_mod_cast f
 have c:m * 2 ^ k<2 ^ 63:=by
  have e:((m * 2 ^ k:Nat):Int)<9223372036854775808:=by rw[Int.natCast_mul,KG];exact h
  omega
 have q:n<2 ^ 63:=Nat.lt_trans d (Nat.pow_lt_pow_right (by decide) j);have e:(BitVec.ofInt 64 ((m:Int) * 2 ^ k) ||| BitVec.ofInt 64 (n:Int)).toNat=m * 2 ^ k+n:=by
  rw[BitVec.toNat_or];rw[show((m:Int) * 2 ^ k)=((m * 2 ^ k:Nat):Int) by rw[Int.natCast_mul,KG];rfl];rw[iQP,iQP,BitVec.toNat_ofNat,BitVec.toNat_ofNat,KK (by omega),KK (by omega)];rw[KE,Uy d]
 unfold orI;rw[e];have p:m * 2 ^ k+n<2 ^ 63:=by
  have hd:m * 2 ^ k+n<(m+1) * 2 ^ k:=by rw[GH];omega
  have o:m+1<=2 ^ (63 - k):=by
   have g:2 ^ 63=2 ^ (63 - k) * 2 ^ k:=by rw[<-Nat.pow_add];congr 1;omega
   rw[g]at c;exact Nat.lt_of_mul_lt_mul_right c
  calc m * 2 ^ k+n<(m+1) * 2 ^ k:=hd
   _<=2 ^ (63 - k) * 2 ^ k:=mB _ o
   _=2 ^ 63:=by rw[<-Nat.pow_add];congr 1;omega
 rw[iQa _ (by omega)];push_cast;rfl
def Gk{n:Int}(c:0<=n)(d:n<36028797018963968)(b:UInt8):orI (n * 256) (b.toNat:Int)=256 * n+b.toNat:=by
 have:=b.toNat_lt;have e:=LA (a:=n) (b:=b.toNat) (k:=8) c (by omega) (by omega) (by omega) (by omega);rw[show(2:Int) ^ 8=256 from rfl]at e;rw[e];omega
@[simp] def ad4(k:Nat)(n:Int):be k n=[]↔k=0:=by
 rw[<-wU,Fa]
def Va{n:Int}(h:0<=n):n.tdiv 256=n / 256:=GY h
def U4{n:Int}(h:0<=n):n.tmod 256=n % 256:=wV h
def qX{k:Nat}(m:Nat)(h:k<=m):(256:Int) ^ k<=256 ^ m:=by
 have:=Nat.pow_le_pow_right (n:=256) (by decide) h;have e:((256 ^ k:Nat):Int)<=((256 ^ m:Nat):Int):=by exact_mod_cast this
 rwa [KG,KG]at e
def uu(n:Int):be 4 n=[u8 (n / 16777216),u8 (n / 65536),u8 (n / 256),u8 n]:=by
 simp[L4]
def QF(n:Int):be 7 n=[u8 (n / 281474976710656),u8 (n / 1099511627776),u8 (n / 4294967296),u8 (n / 16777216),u8 (n / 65536),u8 (n / 256),u8 n]:=by
 simp[L4]
def cF(n:Int)(k:Nat):n.fdiv (no_index (OfNat.ofNat k))=n / OfNat.ofNat k:=Int.fdiv_eq_ediv_of_nonneg _ (Int.natCast_nonneg k)
def lJ(n:Int):u8 (n % 256)=u8 n:=by
 apply z9.1;rw[qU,qU];omega
def kn(z:Nat):List AV->AV
 | []=>aO
 | es => .bg z es none
def tH(z:Nat){es:List AV}(h:es≠[]):kn z es = .bg z es none:=by
 cases es with| nil=>exact(h rfl).elim| cons _ _=>rfl
def rS(z:Nat)(es:List AV):Sl z es (kn z es):=by
 cases es with| nil=>exact .inl ⟨rfl,rfl⟩| cons a l=>exact .inr ⟨none,rfl,by simp⟩
def Sl.ZD{z:Nat}{es:List AV}{c:Option Nat}(h:es.length<=c.getD es.length):Sl z es (.bg z es c) := .inr ⟨c,rfl,h⟩
def LZ{c:Option Nat}{n a m:Nat}(h:n<=c.getD n)(b:a+m<=n):m<=(c.map (· - a)).getD m:=by
 cases c with| none=>exact cG _| some c=>simp only[cB,Option.map_some]at h ⊢;omega
def Yk(es:List AV):List UInt8:=es.map λx=>(byteOf x).getD 0
def isB(x:AV):Bool:=(byteOf x).isSome
def bsl(x:AV):Bool:=match x with
 | .bg .. | .bk .. => true
 | .v (.slice none 0 0)=>true
 | _=>false
@[simp] def ahR:Yk []=[]:=id rfl
@[simp] def ahy(x:UInt8):byteOf (a8 x)=some x:=by
 show some (UInt8.ofNat ((x.toNat:Int)).toNat)=_;simp
@[simp] def afE(x:UInt8)(es:List AV):Yk (a8 x :: es)=x :: Yk es:=by simp[Yk]
@[simp] def Yj(l:List UInt8):Yk (List.map a8 l)=l:=by
 induction l with| nil=>rfl| cons b l a=>simp[a]
@[simp] def ahS(l:List UInt8):Yk (au l)=l:=Yj l
@[simp] def ajP(x:UInt8):isB (a8 x)=true:=by simp[isB]
@[simp] def ajb(l:List UInt8):(au l).all isB=true:=by simp[au]
@[simp] def ai4(z:Nat)(es:List AV)(c:Option Nat):bsl (.bg z es c)=true:=id rfl
@[simp] def ai3:bsl aO=true:=id rfl
def Sl.bsl{z:Nat}{es:List AV}{x:AV}(h:Sl z es x):Ab.bsl x=true:=by
 rcases h with ⟨rfl,_⟩ | ⟨c,rfl,_⟩<;>rfl
def Ej.bsl{z:Nat}{es:List AV}{H:aa}{x:AV}(h:Ej z es H x):Ab.bsl x=true:=by
 rcases h with ⟨rfl,_⟩ | ⟨c,rfl,_⟩<;>rfl
def US{es:List AV}(h:es.all isB=true):es.mapM byteOf=some (Yk es):=by
 induction es with| nil=>rfl| cons x es c=>rw[tU,bo]at h;obtain⟨b,a⟩:=gT.1 h.1;rw[FB,c h.2,a];simp[Yk,a]
@[simp] def acX{P:Program}{src dst:TypeId}(d:dD P src=true)(f:isStr P dst=true)(g:cV)(r:Ref)(x:AV)(k:(jZ 1 g x).isSome=true)(i:((jZ 1 g x).getD []).all isB=true)(h:bsl x=true) :
 bY P g r src dst (some x)=some (sB (Yk ((jZ 1 g x).getD [])),[]):=by
 obtain⟨es,he⟩:=gT.1 k;rw[he,cB]at i ⊢;have j:=US i;have e:=vv he;rcases e with ⟨rfl,rfl⟩ | ⟨_,_,e⟩
 ·simp only[bY,d,f,Em,if_true];rfl
 cases x with
 | v x=>
  cases x with| slice a b c=>simp[cy]at e| _=>simp[Ab.bsl]at h
 | bg _ _ _=>simp only[bY,d,f,Em,if_true,e,j,Option.map_some];rfl
 | bk _ _ _ _=>simp only[bY,d,f,Em,if_true,e,j,Option.map_some];rfl
 | _=>simp[Ab.bsl]at h
def ada(z:Nat)(b:Option bj)(q:jx):jx:=match b with
 | some b=>if z=b.esz then q else none
 | none=>none
@[simp] def ae1(z:Nat)(b:bj)(q:jx):ada z (some b) q=if z=b.esz then q else none:=id rfl
@[simp] def acS{P:Program}{t:TypeId}(h:oT P t=true)(g:cV)(r:Ref)(o n:Nat)(c:Option Nat)(lo hi a:Option Int) :
 cr P g t (some (.bk r o n c)) (some lo) (some hi) (some a)=ada (jw P t) (g r) ((bounds n c lo hi a).map λp=>(.bk r (o+p.1) (p.2.1 - p.1) p.2.2,[])):=by
 unfold oT at h;obtain⟨e,zz,f,i,l,k,m,j,s,q⟩:=gJ h;have d:(ca P t).bind (aE P)=some (jw P t):=by rw[f];exact i
 unfold cr;dsimp only;rw[d];cases g r with
 | none=>rfl
 | some b=>simp[ada]
@[simp] def ad1(l:List UInt8):au l=[]↔l=[]:=by simp[au]
set_option linter.defProp false
def dU:=And.intro @aa.ab (And.intro @pk (And.intro @OD (And.intro @Fr.nil (And.intro @uT (And.intro @vZ (And.intro @wa (And.intro @DD (And.intro @DF (And.intro @RN (And.intro @NL (@DW)))))))))))
def Ek:=And.intro @pk (And.intro @OD (And.intro @Fr.nil (And.intro @uT (And.intro @vZ (And.intro @wa (And.intro @DD (And.intro @DF (And.intro @RN (And.intro @NL (@DW))))))))))
def aj:=And.intro @vZ (And.intro @wa (And.intro @DD (And.intro @DF (@DW))))
end Go.Ab
