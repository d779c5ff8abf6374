/-
  The arguments of a law: from what is read before the call to data. No statement of a seat is proved here.
-/
import Derived.ChangeKeysEq
import Derived.Laws.Strings
import Derived.Test.YtiidajnodhkidaaGreatAbsCond
set_option linter.unusedVariables false
set_option linter.unusedSimpArgs false
set_option linter.unusedSectionVars false
set_option linter.unnecessarySimpa false
set_option linter.defProp false
namespace Go.Ab
open Go.ChangeShapes Go.WideShapes Go.RowKit
def JI(b:Bool)(a:List AV):AV:=match b,a with
 | false,[x]=>x
 | _,a => .agg a
def OD(S:List AV->Prop):Nat->List AV->Prop
 | 0,xs=>xs=[]
 | k+1,xs =>∃a b,xs=a++b/\S a/\OD S k b
def Xt(S:TypeId->List AV->Prop):List Field->List AV->Prop
 | [],xs=>xs=[]
 | f :: c,xs =>∃a b,xs=a++b/\S f.type a/\Xt S c b
def Es(P:Program):Nat->TypeId->List AV->Prop
 | 0,_,_=>False
 | n+1,t,xs=>match P.underlying t with
  | some .bool =>∃b,xs=[aB b]
  | some (.int k) =>∃i,(k.min<=i/\i<=k.max)/\xs=[.v (.int k i)]
  | some .string =>∃s:ByteArray,xs=[aS s]
  | some (.slice e)=>xs=[aY] \/∃es:List (List AV),xs=[.bE (P.cellsOf e) (es.map (JI ((fK P e).getD false))) none] /\∀x∈es,Es P n e x
  | some (.struct a)=>Xt (Es P n) a.toList xs
  | some (.array k e)=>OD (Es P n e) k xs
  | _=>False
def layout(P:Program):List Field->Nat->Option Nat
 | [],o=>some o
 | f :: a,o=>if f.offset=o then layout P a (o+P.cellsOf f.type) else none
def plain(P:Program):Nat->TypeId->Bool
 | 0,_=>false
 | n+1,t=>match P.underlying t with
  | some .bool | some (.int _) | some .string=>P.cellsOf t == 1
  | some (.slice e)=>P.cellsOf t == 1&&plain P n e&&decide (0<P.cellsOf e)
  | some (.struct a)=>a.toList.all (λf=>plain P n f.type)&&layout P a.toList 0 == some (P.cellsOf t)
  | some (.array k e)=>plain P n e&&P.cellsOf t == k * P.cellsOf e
  | _=>false
def Es.facts{P:Program} : ∀(n:Nat)(t:TypeId)(c:List AV),plain P n t=true->Es P n t c->c.length=P.cellsOf t /\∀x∈c,x.one=true:=by
 intro n;induction n with
 | zero=>intro t c h;simp[plain]at h
 | succ n J=>
  intro t c hp g;unfold plain at hp;unfold Es at g;cases G:P.underlying t with
  | none=>rw[G]at g;exact g.elim
  | some d=>
   rw[G]at hp g;cases d<;>dsimp only at hp g<;>try (exact g.elim)
   ·obtain⟨b,rfl⟩:=g;simp at hp;exact⟨by simp[hp],by simp[AV.one]⟩
   ·obtain⟨i,_,rfl⟩:=g;simp at hp;exact⟨by simp[hp],by simp[AV.one]⟩
   ·obtain⟨s,rfl⟩:=g;simp at hp;exact⟨by simp[hp],by simp[AV.one]⟩
   ·rename_i e;simp only[bI,iQl]at hp;rw[hp.1.1];rcases g with rfl | ⟨es,rfl,_⟩
    ·simp[AV.one]
    simp[AV.one]
   ·rename_i k e;simp only[bI,iQl]at hp;rw[hp.2];have : ∀(k:Nat)(c:List AV),OD (Es P n e) k c->c.length=k * P.cellsOf e /\∀x∈c,x.one=true:=by
     intro k;induction k with
     | zero=>intro c h;simp only[OD]at h;subst h;simp
     | succ k u=>
      intro c h;obtain⟨a,b,rfl,D,y⟩:=h;obtain⟨q,p⟩:=J e a hp.1 D;obtain⟨E,F⟩:=u b y;refine⟨by rw[iX,q,E,GV];omega,λx z=>?_⟩;rcases mS.1 z with h | h
      ·exact p x h
      exact F x h
    exact this k c g
   rename_i K;simp only[bI,iQl,gP]at hp;have : ∀(l:List Field)(o:Nat)(c:List AV),(∀f∈l,plain P n f.type=true)->Xt (Es P n) l c->(∀m,layout P l o=some m->o+c.length=m) /\∀x∈c,x.one=true:=by
    intro l;induction l with
    | nil=>intro o c _ h;simp only[Xt]at h;subst h;exact⟨λm j=>by simp[layout]at j;simp[j],by simp⟩
    | cons f l v=>
     intro o c I h;obtain⟨a,b,rfl,D,y⟩:=h;obtain⟨q,p⟩:=J f.type a (I f (j1 ..)) D;obtain⟨E,F⟩:=v (o+P.cellsOf f.type) b (λf L=>I f (kQ _ L)) y;refine⟨λm j=>?_,λx z=>?_⟩
     ·unfold layout at j;split at j;·have:=E m j;rw[iX,q];omega
      cases j
     rcases mS.1 z with h | h
     ·exact p x h
     exact F x h
   obtain⟨q,p⟩:=this K.toList 0 c hp.1 g;exact⟨by have:=q _ hp.2;omega,p⟩
def P2{c:Bool}{a:List AV}(b : ∀x∈a,x.one=true):(JI c a).cells=a:=by
 unfold JI;split;·rename_i x;have:=b x (by simp);cases x<;>first | rfl | (simp[AV.one]at this)
 rfl
section
variable{H:Type}{enc:TypeId × Value->H}{P:Program}{w:World}{B:Nat}{A:Nat->Bool}{C:Bool}
abbrev wi(w:World):Mem:=λb o=>w.cell? ⟨b,o,none⟩
def TW(P:Program)(n:Nat)(t:TypeId)(x:AV):Prop:=
 match fK P t with
 | some true =>∃a,x = .agg a/\Es P n t a
 | _=>Es P n t [x]
def QG(P:Program)(n:Nat):List TypeId->List AV->Prop
 | [],[]=>True
 | t :: a,x :: xs=>TW P n t x/\QG P n a xs
 | _,_=>False
end
def MQ{H:Type}{enc:TypeId × Value->H}{P:Program}{w:World}{B:Nat}{A:Nat->Bool}{C:Bool} : ∀ {a:List TypeId} {b:List Value} {ds:List (DataW H)} {ps:List MemPlace},
 DataW.TrodAll enc P w B A C a b ds ps->ds.length=a.length:=by
 intro a;induction a with
 | nil=>intro b ds ps h;obtain⟨_,rfl,_⟩:=trodAll_nil h;rfl
 | cons t a f=>intro b ds ps h;obtain⟨v,e,d,g,p,q,rfl,rfl,rfl,_,c⟩:=trodAll_cons h;simp[f c]
def BD{P:Program}{n:Nat}{t:TypeId}{c:List TypeId}{b:List AV}(h:QG P n (t :: c) b) : ∃x a,b=x :: a/\TW P n t x/\QG P n c a:=by
 cases b with| nil=>exact h.elim| cons x b=>exact⟨x,b,rfl,h.1,h.2⟩
def UX{P:Program}{n:Nat}{a:List AV}(h:QG P n [] a):a=[]:=by
 cases a with| nil=>rfl| cons x a=>exact h.elim
end Go.Ab
namespace Go.Ab
def OL{b:Type}(P:Program)(t:TypeId)(ok:b->Prop)(enc:b->List AV):Prop :=∀n c,Es P n t c ->∃a,ok a/\c=enc a
def isBool(P:Program)(t:TypeId):Bool:=match P.underlying t with | some .bool=>true | _=>false
def jr(P:Program)(t:TypeId):Option (List TypeId):=match P.underlying t with | some (.struct a)=>some (a.toList.map (·.type)) | _=>none
def Ia{P:Program}{t:TypeId}(h:isBool P t=true):OL P t (λ_=>True) λb:Bool=>[aB b]:=by
 intro n d a;cases n with
 | zero=>exact a.elim
 | succ n=>
  unfold isBool at h;unfold Es at a;split at h;·rename_i c;rw[c]at a;obtain⟨b,rfl⟩:=a;exact⟨b,trivial,rfl⟩
  cases h
def Gr{P:Program}{t:TypeId}{k:IntKind}(h:intKind P t=some k):OL P t (λi:Int=>k.min<=i/\i<=k.max) λi:Int=>[.v (.int k i)]:=by
 intro n b a;cases n with
 | zero=>exact a.elim
 | succ n=>unfold Es at a;rw[D2 h]at a;obtain⟨i,hi,rfl⟩:=a;exact⟨i,hi,rfl⟩
def nW{P:Program}{t:TypeId}(h:intKind P t=some .i64):OL P t (λi:Int => -9223372036854775808<=i/\i<=9223372036854775807) λi:Int=>[aI i]:=λn b a=>by
 obtain⟨i,hi,rfl⟩:=Gr h n b a;exact⟨i,hi,rfl⟩
def YS{P:Program}{t:TypeId}(h:intKind P t=some .i32):OL P t (λi:Int => -2147483648<=i/\i<=2147483647) λi:Int=>[.v (.int .i32 i)]:=λn b a=>by
 obtain⟨i,hi,rfl⟩:=Gr h n b a;exact⟨i,hi,rfl⟩
def Nh{P:Program}{t:TypeId}(h:intKind P t=some .u8):OL P t (λ_=>True) λb:UInt8=>[a8 b]:=λn c d=>by
 obtain⟨i,hi,rfl⟩:=Gr h n c d;refine⟨u8 i,trivial,?_⟩;have a:(0:Int)<=i:=hi.1;have e:i<=255:=hi.2;unfold a8;show[AV.v (.int .u8 i)]=[AV.v (.int .u8 ((u8 i).toNat:Int))];rw[rA,OR a (by omega),Dr a]
def aca{P:Program}{t:TypeId}(h:intKind P t=some .u32):OL P t (λ_=>True) λb:UInt32=>[bY b]:=λn c d=>by
 obtain⟨i,hi,rfl⟩:=Gr h n c d;refine⟨u32 i,trivial,?_⟩;have a:(0:Int)<=i:=hi.1;have e:i<=4294967295:=hi.2;unfold bY;show[AV.v (.int .u32 i)]=[AV.v (.int .u32 ((u32 i).toNat:Int))];rw[vV,OR a (by omega),Dr a]
def Zn{c:Type}{ok:c->Prop}{enc:c->List AV} : ∀(es:List (List AV)),(∀x∈es,∃a,ok a/\x=enc a) ->∃l:List c,(∀a∈l,ok a)/\es=l.map enc:=by
 intro es;induction es with
 | nil=>intro _;exact⟨[],by simp,rfl⟩
 | cons x es f=>
  intro h;obtain⟨a,e,rfl⟩:=h x (j1 ..);obtain⟨l,g,rfl⟩:=f λx i=>h x (kQ _ i);refine⟨a :: l,?_,rfl⟩;intro b d;rcases fR.1 d with rfl | d
  ·exact e
  exact g b d
def Sf{P:Program}{t e:TypeId}(h:eK P t=some e):P.underlying t=some (.slice e):=by
 unfold eK at h;split at h;·cases h;assumption
 cases h
def AT{c:Type}{P:Program}{t e:TypeId}{z:Nat}{g:Bool}{ok:c->Prop}{enc:c->List AV}(o:eK P t=some e)(f:aV P e=some z)(k:fK P e=some g)(m:OL P e ok enc){n:Nat}{d:List AV}(h:Es P n t d) :
 ∃(l:List c) (x:AV),(∀a∈l,ok a)/\d=[x]/\Sl z (l.map λa=>JI g (enc a)) x:=by
 cases n with| zero=>exact h.elim| succ n=>
  unfold Es at h;rw[Sf o]at h;rcases h with rfl | ⟨es,rfl,b⟩
  ·exact⟨[],aY,by simp,rfl,.inl ⟨rfl,rfl⟩⟩
  obtain⟨l,i,rfl⟩:=Zn es λx j=>m n x (b x j);have p:P.cellsOf e=z:=(by unfold aV at f;unfold Program.cellsOf;rw[f];rfl);refine⟨l,_,i,rfl,?_⟩;rw[p,k,GU];exact Sl.mk z _
def UZ{P:Program}{t e:TypeId}(f:eK P t=some e)(d:intKind P e=some .u8)(g:aV P e=some 1)(b:fK P e=some false){n:Nat}{a:List AV}(h:Es P n t a) : ∃(l:List UInt8) (x:AV),a=[x]/\Sl 1 (aK l) x:=by
 obtain⟨l,x,_,rfl,c⟩:=AT f g b (Nh d) h;exact⟨l,x,rfl,c⟩
def TW.cell{P:Program}{n:Nat}{t:TypeId}{x:AV}(a:fK P t=some false)(h:TW P n t x):Es P n t [x]:=by
 unfold TW at h;rw[a]at h;exact h
def TW.agg{P:Program}{n:Nat}{t:TypeId}{x:AV}(b:fK P t=some true)(h:TW P n t x) : ∃a,x = .agg a/\Es P n t a:=by
 unfold TW at h;rw[b]at h;exact h
def ahG(S:TypeId->List AV->Prop):List TypeId->List AV->Prop
 | [],xs=>xs=[]
 | t :: c,xs =>∃a b,xs=a++b/\S t a/\ahG S c b
def lK{P:Program}{t:TypeId}{e:List TypeId}(c:jr P t=some e){n:Nat}{d:List AV}(h:Es P n t d) : ∃m,ahG (Es P m) e d:=by
 cases n with| zero=>exact h.elim| succ n=>
  unfold jr at c;split at c
  ·rename_i g k;cases c;unfold Es at h;rw[k]at h;refine⟨n,?_⟩;dsimp only at h;generalize g.toList=l at h;induction l generalizing d with
   | nil=>exact h
   | cons f l j=>obtain⟨a,b,rfl,i,o⟩:=h;exact⟨a,b,rfl,i,j o⟩
  cases c
def y8(P:Program)(d e c:Nat)(g f:Array Value):List Nat->Option Bool
 | []=>some true
 | i :: is=>match bO P (part e g (i * c)),bO P (part e f (i * c)) with
  | some a,some b=>(match bO P (Op.equalIn d e a b) with
   | some true=>y8 P d e c g f is
   | some false=>some false
   | none=>none)
  | _,_=>none
def Rp{P:Program}{t:TypeId}{z:Nat}(h:aV P t=some z):bO P (sizeOf t)=some z:=by
 simp only[aV,bU]at h;obtain⟨i,hi,rfl⟩:=h;simp only[sizeOf,typeInfo,cB];show((some P).bind _).bind _=_;simp only[fe,hi];rfl
def E4{P:Program}(d:Nat){t e:TypeId}{n c:Nat}(g f:Array Value)(h:P.underlying t=some (.array n e))(hi:aV P e=some c) :
 bO P (Op.equalIn (d+1) t (.agg g) (.agg f))=y8 P d e c g f (List.range n):=by
 simp only[Op.equalIn,cB,pa h,fe,Rp hi];simp only[Std.Legacy.Range.forIn_eq_forIn_range',Std.Legacy.Range.size,Nat.sub_zero,Nat.add_one_sub_one,Nat.div_one,OW];generalize List.range' 0 n=is;induction is with
 | nil=>rfl
 | cons j is i=>
  simp only[List.forIn_cons,y8,cB];cases m:bO P (part e g (j * c)) with
  | none=>rfl
  | some a=>
   cases k:bO P (part e f (j * c)) with| none=>rfl| some b=>
    simp only[fe];cases l:bO P (Op.equalIn d e a b) with
    | none=>rfl
    | some r=>
     cases r;·rfl
     simp only[fe,AI,gB,iQe];exact i
def vG(P:Program)(d:Nat)(e c:Array Value):List Field->Option Bool
 | []=>some true
 | f :: g=>match bO P (part f.type e f.offset),bO P (part f.type c f.offset) with
  | some a,some b=>(match bO P (Op.equalIn d f.type a b) with
   | some true=>vG P d e c g
   | some false=>some false
   | none=>none)
  | _,_=>none
def DL{P:Program}(d:Nat){t:TypeId}{c:Array Field}(h e:Array Value)(k:P.underlying t=some (.struct c))(l:P.stoodInHeld t=false)(i : ∀f∈c.toList,(f.name != "_")=true) :
 bO P (Op.equalIn (d+1) t (.agg h) (.agg e))=vG P d h e c.toList:=by
 have hp:bO P program=some P:=rfl;simp only[Op.equalIn,cB,pa k,fe,hp,l,gB,iQe];simp only[<-Array.forIn_toList];generalize c.toList=is at i;induction is with
 | nil=>rfl
 | cons f is n=>
  have j:f.name ≠ "_" := by simpa using i f (j1 ..)
  simp only[List.forIn_cons,vG,cB,j,ne_eq,not_false_eq_true,if_true];have m:bO P (pure PUnit.unit:Sem PUnit)=some PUnit.unit:=rfl;cases s:bO P (part f.type h f.offset) with
  | none=>rfl
  | some a=>
   cases p:bO P (part f.type e f.offset) with| none=>rfl| some b=>
    simp only[fe];cases q:bO P (Op.equalIn d f.type a b) with
    | none=>rfl
    | some r=>
     cases r;·rfl
     simp only[fe,AI,gB,iQe];exact n λg o=>i g (kQ _ o)
def C8:List AV->List AV->Option Bool
 | [.v (.bool a)],[.v (.bool b)]=>some (decide (a=b))
 | [.v (.int k a)],[.v (.int k' b)]=>if k=k' then some (decide (a=b)) else none
 | [.v (.string a)],[.v (.string b)]=>some (a == b)
 | _,_=>none
def fN(S:TypeId->List AV->List AV->Option Bool)(P:Program):List TypeId->List AV->List AV->Option Bool
 | [],_,_=>some true
 | t :: d,xs,c=>match aV P t with
  | none=>none
  | some z=>match S t (xs.take z) (c.take z),fN S P d (xs.drop z) (c.drop z) with
   | some a,some b=>some (a&&b)
   | _,_=>none
def KC(S:List AV->List AV->Option Bool)(z:Nat):Nat->List AV->List AV->Option Bool
 | 0,_,_=>some true
 | k+1,xs,c=>match S (xs.take z) (c.take z),KC S z k (xs.drop z) (c.drop z) with
  | some a,some b=>some (a&&b)
  | _,_=>none
def qL(P:Program)(t:TypeId):Option Nat:=match P.underlying t with
 | some .bool=>some 0
 | some (.int _)=>some 1
 | some .string=>some 2
 | _=>none
def Kv:AV->Nat
 | .v (.bool _)=>0
 | .v (.int _ _)=>1
 | .v (.string _)=>2
 | _=>3
def mV(P:Program):Nat->TypeId->List AV->List AV->Option Bool
 | 0,_,_,_=>none
 | n+1,t,xs,a=>match qL P t with
  | some l=>(match xs,a with
   | [x],[y]=>cond (Nat.beq (Kv x) l) (C8 [x] [y]) none
   | _,_=>none)
  | none=>match jr P t with
   | some b=>fN (mV P n) P b xs a
   | none=>match mf P t with
    | some (k,e)=>(match aV P e with
     | some z=>KC (mV P n e) z k xs a
     | none=>none)
    | none=>none
def IM(P:Program):Nat->TypeId->Bool
 | 0,_=>false
 | n+1,t=>match P.underlying t with
  | some .bool | some (.int _) | some .string=>fK P t == some false&&aV P t == some 1
  | some (.struct a)=>a.toList.all (λf=>IM P n f.type&&f.name != "_")&&layout P a.toList 0 == some (P.cellsOf t) && !P.stoodInHeld t
  | some (.array k e)=>IM P n e&&P.cellsOf t == k * P.cellsOf e
  | _=>false
def tG(a:List AV):Option (List Value):=a.mapM J2
def Bz{a:List AV}{b:List Value}(h:tG a=some b)(n:Nat):tG (a.take n)=some (b.take n):=by
 unfold tG at *;induction a generalizing b n with
 | nil=>simp at h;subst h;simp
 | cons x a f=>
  simp only[oo,th,uu,jb]at h;obtain⟨v,d,g,c,e⟩:=h;cases e;cases n with
  | zero=>simp
  | succ n=>simp only[List.take_succ_cons,oo,d,f c n];rfl
def BA{b:List AV}{c:List Value}(h:tG b=some c)(n:Nat):tG (b.drop n)=some (c.drop n):=by
 unfold tG at *;induction b generalizing c n with
 | nil=>simp at h;subst h;simp
 | cons x b f=>
  simp only[oo,th,uu,jb]at h;obtain⟨v,d,g,a,e⟩:=h;cases e;cases n with
  | zero=>simp only[Ev,oo,d,a];rfl
  | succ n=>simp only[List.drop_succ_cons];exact f a n
def yG(P:Program)(t:TypeId)(a:List Value):Option Value:=match fK P t with
 | some true=>some (.agg a.toArray)
 | some false=>a.head?
 | none=>none
def Gt{P:Program}{t:TypeId}{z:Nat}(g:aV P t=some z){e:List Value}{o:Nat}{v:Value}(a:yG P t ((e.drop o).take z)=some v)(h:fK P t=some false->z=1):bO P (part t e.toArray o)=some v:=by
 unfold yG at a;have c : ∀b,fK P t=some b->bO P (isAgg t)=some b:=by
  intro b f;simp only[fK,bU]at f;obtain⟨dd,hd,rfl⟩:=f;simp only[isAgg,cB,pa hd,fe];cases dd<;>rfl
 unfold part;split at a;·rename_i d;cases a;simp only[cB,c _ d,fe,if_true,Rp g];show some _=some _;congr 2;apply KW.1;simp only[OX,O3,K7]
 ·rename_i d;simp only[cB,c _ d,fe,gB,iQe];have:e.toArray[o]?=some v:=by
   rw[h d]at a;rw[OY];cases hd:e.drop o with
   | nil=>rw[hd]at a;simp at a
   | cons u us=>rw[hd]at a;simp at a;subst a;have:=iQf List.head? hd;simpa [List.head?_drop] using this
  rw[this];rfl
 cases a
def adh{P:Program} : ∀(n:Nat)(D:Nat)(t:TypeId)(M K:List AV)(us R:List Value)(b:Bool),IM P n t=true->mV P n t M K=some b->tG M=some us->tG K=some R->M.length=P.cellsOf t->K.length=P.cellsOf t ->
 ∃u v,yG P t us=some u/\yG P t R=some v/\bO P (Op.equalIn (D+n) t u v)=some b:=by
 intro n;induction n with
 | zero=>intro D t M K us R b h;simp[IM]at h
 | succ n ih=>
  intro D t M K us R b d h hu hv hlx hly;unfold IM at d;unfold mV at h;cases hd:P.underlying t with
  | none=>rw[hd]at d;simp at d
  | some dd=>
   rw[hd]at d;have J : ∀l,qL P t=some l->(fK P t == some false&&aV P t == some 1)=true->(l=0/\dd = .bool\/(l=1 /\∃k,dd = .int k)\/l=2/\dd = .string) ->∃u v,yG P t us=some u/\yG P t R=some v/\bO P (Op.equalIn (D+(n+1)) t u v)=some b:=by
    intro l hl d hdd;simp only[bI,iQl]at d;rw[hl]at h;dsimp only at h;split at h
    ·rename_i x y;cases Z:Nat.beq (Kv x) l with
     | false=>rw[Z]at h;cases h
     | true=>
      rw[Z]at h;replace Z:=lF Z;have e1 : ∃u,us=[u]/\J2 x=some u:=(by unfold tG at hu;simp only[oo,KQ,th,uu,jb]at hu;obtain⟨u,E,ws,L,h3⟩:=hu;cases L;cases h3;exact⟨u,rfl,E⟩);have e2 : ∃u,R=[u]/\J2 y=some u:=(by unfold tG at hv;simp only[oo,KQ,th,uu,jb]at hv;obtain⟨u,E,ws,L,h3⟩:=hv;cases L;cases h3;exact⟨u,rfl,E⟩);obtain⟨u,rfl,q⟩:=e1;obtain⟨v,rfl,s⟩:=e2;refine⟨u,v,by simp[yG,d.1],by simp[yG,d.1],?_⟩;rw[show D+(n+1)=(D+n)+1 from rfl];simp only[iQp]at h;unfold C8 at h;simp only[Op.equalIn,cB,pa hd,fe];split at h
      ·rename_i a c V U;simp only[yc,iQr]at V U;subst V;subst U;simp[J2]at q s;subst q;subst s;have hl0:l=0:=Z.symm;rcases hdd with ⟨_,rfl⟩ | ⟨E,_⟩ | ⟨E,_⟩
       ·rw[<-h];show some (a == c)=_;congr 1
       ·omega
       omega
      ·rename_i k a k' c V U;simp only[yc,iQr]at V U;subst V;subst U;simp[J2]at q s;subst q;subst s;have hl0:l=1:=Z.symm;rcases hdd with ⟨E,_⟩ | ⟨_,k0,rfl⟩ | ⟨E,_⟩
       ·omega
       ·split at h;·rename_i S;subst S;rw[<-h];show bO P (if k=k then pure (a == c) else _)=_;rw[if_pos rfl];show some (a == c)=_;congr 1
        cases h
       omega
      ·rename_i a c V U;simp only[yc,iQr]at V U;subst V;subst U;simp[J2]at q s;subst q;subst s;have hl0:l=2:=Z.symm;rcases hdd with ⟨E,_⟩ | ⟨E,_⟩ | ⟨_,rfl⟩
       ·omega
       ·omega
       rw[<-h];rfl
      cases h
    cases h
   have hlt : ∀l,qL P t=some l->_:=λl hl=>J l hl;cases dd<;>dsimp only at d<;>try (simp at d;done)
   ·exact J 0 (by simp[qL,hd]) d (.inl ⟨rfl,rfl⟩)
   ·rename_i k;exact J 1 (by simp[qL,hd]) d (.inr (.inl ⟨rfl,k,rfl⟩))
   ·exact J 2 (by simp[qL,hd]) d (.inr (.inr ⟨rfl,rfl⟩))
   ·rename_i k e;simp only[bI,iQl]at d;obtain⟨d,Y⟩:=d;have hl:qL P t=none:=by simp[qL,hd]
    have X:jr P t=none:=(by simp[jr,hd]);have hta:mf P t=some (k,e):=(by simp[mf,hd]);rw[hl,X,hta]at h;dsimp only at h;have N:fK P t=some true:=by simp[fK,hd]
    cases G:aV P e with| none=>rw[G]at h;cases h| some z=>
     rw[G]at h;dsimp only at h;have I:P.cellsOf e=z:=by simp only[aV]at G;simp[Program.cellsOf,G]
     have F:fK P e=some false->z=1:=by
      intro j;cases n with
      | zero=>simp[IM]at d
      | succ n'=>
       unfold IM at d;unfold fK at j;cases O:P.underlying e with
       | none=>rw[O]at d;simp at d
       | some d2=>rw[O]at d j;cases d2<;>simp at d j<;>(have:=d.2;rw[G]at this;simpa using this)
     refine⟨.agg us.toArray,.agg R.toArray,by simp[yG,N],by simp[yG,N],?_⟩;rw[show D+(n+1)=(D+n)+1 from rfl,E4 (D+n) _ _ hd G];have : ∀(m p:Nat)(b:Bool),(p+m) * z<=M.length->(p+m) * z<=K.length->KC (mV P n e) z m (M.drop (p * z)) (K.drop (p * z))=some b->y8 P (D+n) e z us.toArray R.toArray (List.range' p m)=some b:=by
      intro m;induction m with
      | zero=>intro p b _ _ h;simp[KC]at h;simp[y8,h]
      | succ m ihm=>
       intro p b hx hy h;simp only[KC]at h;have Q:(p+(m+1)) * z=p * z+z+m * z:=by rw[mR,GV];omega
       rw[Q]at hx hy;cases E:mV P n e ((M.drop (p * z)).take z) ((K.drop (p * z)).take z) with
       | none=>rw[E]at h;simp at h
       | some a=>
        rw[E]at h;cases L:KC (mV P n e) z m ((M.drop (p * z)).drop z) ((K.drop (p * z)).drop z) with
        | none=>rw[L]at h;simp at h
        | some c=>
         rw[L]at h;simp only[eS]at h;rw[pN,pN,<-GV]at L;obtain⟨u,v,q,s,heq⟩:=ih D e _ _ _ _ a d E (Bz (BA hu (p * z)) z) (Bz (BA hv (p * z)) z)
          (by rw[oM,oZ,I];omega) (by rw[oM,oZ,I];omega)
         have p1:=Gt G (o:=p * z) q F;have p2:=Gt G (o:=p * z) s F;simp only[List.range'_succ,y8,p1,p2,heq];cases a with
         | false=>simp at h;simp[h]
         | true=>simp only[ig]at h;subst h;exact ihm (p+1) c (by rw[show p+1+m=p+(m+1) by omega,Q];exact hx) (by rw[show p+1+m=p+(m+1) by omega,Q];exact hy) L
     rw[OW];by_cases hk0:k * z<=M.length/\k * z<=K.length;·exact this k 0 b (by simpa using hk0.1) (by simpa using hk0.2) (by simpa using h)
     exfalso;rw[I]at Y;exact hk0 ⟨by omega,by omega⟩
   rename_i fs;simp only[bI,ij,gP,iQl]at d;obtain⟨⟨T,i⟩,hst⟩:=d;have hl:qL P t=none:=by simp[qL,hd]
   have X:jr P t=some (fs.toList.map (·.type)):=(by simp[jr,hd]);rw[hl,X]at h;dsimp only at h;have N:fK P t=some true:=by simp[fK,hd]
   refine⟨.agg us.toArray,.agg R.toArray,by simp[yG,N],by simp[yG,N],?_⟩;rw[show D+(n+1)=(D+n)+1 from rfl,DL (D+n) _ _ hd hst (λf X=>(T f X).2)];have : ∀(l:List Field)(o:Nat)(b:Bool),(∀f∈l,IM P n f.type=true)->layout P l o=some (P.cellsOf t)->fN (mV P n) P (l.map (·.type)) (M.drop o) (K.drop o)=some b->o<=P.cellsOf t ->
    vG P (D+n) us.toArray R.toArray l=some b:=by
    intro l;induction l with
    | nil=>intro o b _ _ h _;simp[fN]at h;simp[vG,h]
    | cons f l ihl=>
     intro o b W i h ho;unfold layout at i;split at i
     ·rename_i hfo;simp only[zj,fN]at h;cases G:aV P f.type with
      | none=>rw[G]at h;cases h
      | some z=>
       rw[G]at h;dsimp only at h;have I:P.cellsOf f.type=z:=by simp only[aV]at G;simp[Program.cellsOf,G]
       rw[I]at i;cases E:mV P n f.type ((M.drop o).take z) ((K.drop o).take z) with
       | none=>rw[E]at h;simp at h
       | some a=>
        rw[E]at h;cases L:fN (mV P n) P (l.map (·.type)) ((M.drop o).drop z) ((K.drop o).drop z) with
        | none=>rw[L]at h;simp at h
        | some c=>
         rw[L]at h;simp only[eS]at h;rw[pN,pN]at L;have hle:o+z<=P.cellsOf t:=by
          have : ∀(l:List Field)(o m:Nat),layout P l o=some m->o<=m:=by
           intro l;induction l with
           | nil=>intro o m h;simp[layout]at h;omega
           | cons g l ihg=>
            intro o m h;unfold layout at h;split at h;·have:=ihg _ _ h;omega
            cases h
          exact this _ _ _ i
         obtain⟨u,v,q,s,heq⟩:=ih D f.type _ _ _ _ a (W f (j1 ..)) E (Bz (BA hu o) z) (Bz (BA hv o) z)
          (by rw[oM,oZ,I];omega) (by rw[oM,oZ,I];omega)
         have F:fK P f.type=some false->z=1:=by
          intro j;have S:=W f (j1 ..);cases n with
          | zero=>simp[IM]at S
          | succ n'=>
           unfold IM at S;unfold fK at j;cases O:P.underlying f.type with
           | none=>rw[O]at S;simp at S
           | some d2=>rw[O]at S j;cases d2<;>simp at S j<;>(have:=S.2;rw[G]at this;simpa using this)
         have p1:=Gt G (o:=o) q F;have p2:=Gt G (o:=o) s F;simp only[vG,hfo,p1,p2,heq];cases a with
         | false=>simp at h;simp[h]
         | true=>simp only[ig]at h;subst h;exact ihl (o+z) c (λg hg=>W g (kQ _ hg)) i L hle
     cases i
   exact this fs.toList 0 b (λf X=>(T f X).1) i (by simpa using h) (Ae _)
def Gh(P:Program)(t:TypeId):Bool:=IM P 20 t && !P.eqGuardType P.depth t&&fK P t == some true
def S9{P:Program}{t:TypeId}(h:Gh P t=true)(d:BinOp)(e:d = .eql\/d = .neq)(xo yo:Operand)(c a:Array Value) :
 xg P d t xo yo (.agg c) (.agg a)=(bO P (Op.equalIn 10000 t (.agg c) (.agg a))).map λb => .bool (if d = .eql then b else !b):=by
 unfold Gh at h;simp only[bI,ij,iQl]at h;have hp:bO P program=some P:=rfl;unfold xg;have f:bO P (eqGuard d t xo yo (.agg c) (.agg a))=some ():=by
  rcases e with rfl | rfl
  ·simp only[eqGuard,AI,gB,iQe,cB,hp,fe,h.1.2,zm,if_true];rfl
  simp only[eqGuard,AI,gB,iQe,cB,hp,fe,h.1.2,zm,if_true];rfl
 rw[cB,f,fe];rcases e with rfl | rfl
 ·show bO P (do pure (Value.bool (<-Op.equal t (.agg c) (.agg a))))=_;rw[cB];unfold Op.equal Op.maxDepth;cases bO P (Op.equalIn 10000 t (.agg c) (.agg a))<;>rfl
 show bO P (do pure (Value.bool (!(<-Op.equal t (.agg c) (.agg a)))))=_;rw[cB];unfold Op.equal Op.maxDepth;cases bO P (Op.equalIn 10000 t (.agg c) (.agg a))<;>rfl
def Nt{P:Program}{t:TypeId}(h:Gh P t=true)(c:BinOp)(m:c = .eql\/c = .neq)(xo yo:Operand){cs ds:List AV}{b:Bool}(p:mV P 20 t cs ds=some b)(e:(tG cs).isSome=true)(d:(tG ds).isSome=true)
 (s:some cs.length=aV P t) (hd:some ds.length=aV P t):bZ P c t xo yo (some (.agg cs)) (some (.agg ds))=some (aB (if c = .eql then b else !b),[]):=by
 obtain⟨us,e⟩:=iB.1 e;obtain⟨f,d⟩:=iB.1 d;have g:=h;unfold Gh at g;simp only[bI,ij,iQl]at g;have j : ∀ {n:Nat},some n=aV P t->n=P.cellsOf t:=by
  intro n k;unfold aV at k;unfold Program.cellsOf;rw[<-k];rfl
 obtain⟨u,v,i,l,heq⟩:=adh 20 9980 t cs ds us f b g.1.1 p e d (j s) (j hd);simp only[yG,g.2,eS]at i l;subst i;subst l;have a:=S9 h c m xo yo us.toArray f.toArray;rw[heq]at a;have q:k7 (.agg cs)=some (.agg us.toArray):=by show(cs.mapM J2).map _=_;rw[show cs.mapM J2=some us from e];rfl
 have o:k7 (.agg ds)=some (.agg f.toArray):=by show(ds.mapM J2).map _=_;rw[show ds.mapM J2=some f from d];rfl
 simp only[bZ,Gg,jR,oY,AH,gB,iQe,q,o,a,Option.map_some,fe,jj,scalar,if_true,ku]
@[simp] def Za{P:Program}{t:TypeId}(h:Gh P t=true)(xo yo:Operand){cs ds:List AV}(a:(mV P 20 t cs ds).isSome=true)(d:(tG cs).isSome=true)(c:(tG ds).isSome=true)
 (e:some cs.length=aV P t) (hd:some ds.length=aV P t):bZ P .eql t xo yo (some (.agg cs)) (some (.agg ds))=some (aB ((mV P 20 t cs ds).getD false),[]):=by
 obtain⟨b,a⟩:=iB.1 a;rw[Nt h .eql (.inl rfl) xo yo a d c e hd,a];rfl
@[simp] def Y8{P:Program}{t:TypeId}(h:Gh P t=true)(xo yo:Operand){cs ds:List AV}(a:(mV P 20 t cs ds).isSome=true)(d:(tG cs).isSome=true)(c:(tG ds).isSome=true)
 (e:some cs.length=aV P t) (hd:some ds.length=aV P t):bZ P .neq t xo yo (some (.agg cs)) (some (.agg ds))=some (aB (!(mV P 20 t cs ds).getD false),[]):=by
 obtain⟨b,a⟩:=iB.1 a;rw[Nt h .neq (.inr rfl) xo yo a d c e hd,a];rfl
@[simp] def afp:tG []=some []:=id rfl
@[simp] def MO(k:IntKind)(n:Int)(l:List AV):tG (.v (.int k n) :: l)=(tG l).map (.int k n :: ·):=by
 unfold tG;simp only[oo,J2];cases l.mapM J2<;>rfl
@[simp] def adQ(b:Bool)(l:List AV):tG (.v (.bool b) :: l)=(tG l).map (.bool b :: ·):=by
 unfold tG;simp only[oo,J2];cases l.mapM J2<;>rfl
@[simp] def ajA(b:UInt8)(l:List AV):tG (a8 b :: l)=(tG l).map (.int .u8 b.toNat :: ·):=MO _ _ _
@[simp] def ahR(b:UInt32)(l:List AV):tG (bY b :: l)=(tG l).map (.int .u32 b.toNat :: ·):=MO _ _ _
@[simp] def abq(a b:Bool):C8 [aB a] [aB b]=some (decide (a=b)):=id rfl
@[simp] def IN(k:IntKind)(a b:Int):C8 [.v (.int k a)] [.v (.int k b)]=some (decide (a=b)):=by simp[C8]
@[simp] def ahj(a b:UInt8):C8 [a8 a] [a8 b]=some (decide (a=b)):=by
 unfold a8;rw[IN];congr 2;rw[<-Ag];exact propext (by omega)
@[simp] def aeZ(a b:UInt32):C8 [bY a] [bY b]=some (decide (a=b)):=by
 unfold bY;rw[IN];congr 2;rw[<-OQ];exact propext (by omega)
@[simp] def acQ(b:Bool):Kv (aB b)=0:=id rfl
@[simp] def aeM(k:IntKind)(n:Int):Kv (.v (.int k n))=1:=id rfl
@[simp] def aiQ(b:UInt8):Kv (a8 b)=1:=id rfl
@[simp] def agH(b:UInt32):Kv (bY b)=1:=id rfl
@[simp] def C0{P:Program}{t:TypeId}(h:((eK P t).bind (aV P)).isSome=true)(g:dv)(lo hi a:Option Int) :
 dx P g t (some aY) (some lo) (some hi) (some a)=(bounds 0 (some 0) lo hi a).map λ_=>(aY,[]):=by
 simp only[dx,h,if_true]
@[simp] def C1{P:Program}{t z:Nat}(h:(eK P t).bind (aV P)=some z)(g:dv)(es:List AV)(c:Option Nat)(lo hi a:Option Int) :
 dx P g t (some (.bE z es c)) (some lo) (some hi) (some a)=(bounds es.length c lo hi a).map λ(l,h,c)=>(.bE z ((es.drop l).take (h - l)) c,[]):=by
 simp only[dx,h,if_true]
def Pn{P:Program}{t z:Nat}(h:(eK P t).bind (aV P)=some z)(g:dv){es:List AV}{x:AV}(e:Sl z es x){n:Int}(d:0<=n)(b:n<=es.length) :
 ∃y,dx P g t (some x) (some (some n)) (some none) (some none)=some (y,[])/\Sl z (es.drop n.toNat) y:=by
 rcases e with ⟨rfl,rfl⟩ | ⟨c,rfl,a⟩
 ·refine⟨aY,?_,.inl ⟨rfl,by simp⟩⟩;rw[C0 (by rw[h];rfl)];have:n=0:=by simp at b;omega
  subst this;rfl
 refine⟨.bE z (es.drop n.toNat) (c.map (· - n.toNat)),?_,.inr ⟨_,rfl,by cases c with | none=>simp | some k=>simp at a ⊢;omega⟩⟩;rw[C1 h];simp only[bounds,vQ,cU,iQW,iQr,if_pos (show 0<=n/\n<=es.length from⟨d,b⟩),Option.map_some,K0];congr 3;rw[dM (by simp)]
def ET{P:Program}{t z:Nat}(h:(eK P t).bind (aV P)=some z)(g:dv){es:List AV}{x:AV}(j:Sl z es x){lo hi:Int}(e:0<=lo)(i:lo<=hi)(b:hi<=es.length) :
 ∃y,dx P g t (some x) (some (some lo)) (some (some hi)) (some none)=some (y,[])/\Sl z ((es.drop lo.toNat).take (hi.toNat - lo.toNat)) y:=by
 rcases j with ⟨rfl,rfl⟩ | ⟨c,rfl,a⟩
 ·refine⟨aY,?_,.inl ⟨rfl,by simp⟩⟩;rw[C0 (by rw[h];rfl)];simp at b;have d:lo=0:=by omega
  have f:hi=0:=(by omega);subst d;subst f;rfl
 refine⟨.bE z ((es.drop lo.toNat).take (hi.toNat - lo.toNat)) (c.map (· - lo.toNat)),?_,.inr ⟨_,rfl,by cases c with | none=>simp | some k=>simp at a ⊢;omega⟩⟩;rw[C1 h];simp only[bounds,vQ,cU,if_pos (show 0<=lo/\lo<=hi/\hi<=es.length from⟨e,i,b⟩),Option.map_some]
def sB(l:List UInt8):AV:=aS ⟨l.toArray⟩
def Mb(l:List UInt8):(aK l).mapM byteOf=some l:=by
 unfold aK;induction l with
 | nil=>rfl
 | cons b l a=>simp only[zj,oo,a,th,uu];show(some (UInt8.ofNat ((b.toNat:Int)).toNat)).bind _=_;simp
def Oo{P:Program}{src dst:TypeId}(b:eE P src=true)(a:isStr P dst=true){g:dv}{r:Ref}{l:List UInt8}{x:AV}(c:T9 g 1 (aK l) x)(d : ∀s,x ≠ .v (.string s)) :
 cE P g r src dst (some x)=some (sB l,[]):=by
 rcases c with ⟨rfl,f⟩ | ⟨h,e,he⟩
 ·have:=iQf List.length f;simp at this;subst this;simp only[cE,b,a,Eu,if_true];rfl
 cases x with
 | v x=>
  exfalso;cases x<;>first | (simp[dt]at he;done) | skip
  exact d _ rfl
 | _=>simp only[cE,b,a,Eu,if_true,he,Mb,Option.map_some];rfl
def Sl.P0{z:Nat}{es:List AV}{x:AV}(h:Sl z es x) : ∀s,x ≠ .v (.string s):=by
 rcases h with ⟨rfl,_⟩ | ⟨c,rfl,_⟩<;>intro s e<;>cases e
def Fp.P0{z:Nat}{es:List AV}{H:aa}{x:AV}(h:Fp z es H x) : ∀s,x ≠ .v (.string s):=by
 rcases h with ⟨rfl,_⟩ | ⟨r,rfl,_⟩<;>intro s e<;>cases e
def Sl.conv{P:Program}{src dst:TypeId}{l:List UInt8}{x:AV}(a:Sl 1 (aK l) x)(c:eE P src=true)(b:isStr P dst=true)(g:dv)(r:Ref):cE P g r src dst (some x)=some (sB l,[]):=
 Oo c b (a.Jf g) a.P0
def Fp.conv{P:Program}{src dst:TypeId}{l:List UInt8}{H:aa}{x:AV}(a:Fp 1 (aK l) H x)(c:eE P src=true)(b:isStr P dst=true)(r:Ref):cE P H.get r src dst (some x)=some (sB l,[]):=
 Oo c b a.Jf a.P0
def vA(l:List UInt8):(⟨l.toArray⟩:ByteArray).toList=l:=by
 rw[ByteArray.toList_eq]
@[simp] def aaF(P:Program)(t:TypeId)(xo yo:Operand)(l m:List UInt8):bZ P .eql t xo yo (some (sB l)) (some (sB m))=some (aB (decide (l=m)),[]):=by
 show some ((AV.v (.bool ((⟨l.toArray⟩:ByteArray).toList == (⟨m.toArray⟩:ByteArray).toList))),[])=_;rw[vA,vA];congr 4;by_cases h:l=m<;>simp[h]
@[simp] def aaE(P:Program)(t:TypeId)(xo yo:Operand)(l m:List UInt8):bZ P .neq t xo yo (some (sB l)) (some (sB m))=some (aB (!decide (l=m)),[]):=by
 show some ((AV.v (.bool (!((⟨l.toArray⟩:ByteArray).toList == (⟨m.toArray⟩:ByteArray).toList)))),[])=_;rw[vA,vA];congr 5;by_cases h:l=m<;>simp[h]
def W9{P:Program}{a l:Bool}{H:aa}{r:Ref}{t z by' n:Nat}{ps:List (Nat × AV)}{zz:AV}(u:XJ P t z by'=true)(f:n * z<=16777216)(i:dG H.get ps=some ps)(b:cO H.get (ps.map (·.2))=[])
 (y:ps.all (λp=>p.2.cells.length == z&&p.2.cells.all AV.one)=true) (c:(eK P t).bind (fk P)=some zz) {es:List AV} (o:iI (List.replicate n zz) ps=some es) :
 lI P a l H r t n (some ps)=if a then some (.bE z es (some n),H) else some (.ct r 0 n (some n),({ r with k:=0},some ⟨z,es,true,false⟩) :: H):=by
 obtain⟨e,v,g,j,D,h,q,m,s,E⟩:=iK u;rw[g]at c;simp only[fe,h,eS]at c;subst c;have d:mkSlice P H.get t n ps=some ⟨z,es,true,false⟩:=by
  simp only[mkSlice,g,i,h,j];rw[if_pos ⟨Ah s,f,q,m,by simpa using y⟩,o];rfl
 have x:gY P a H.get r t n (some ps)=if a then some (.bE z es (some n),[]) else some (.ct r 0 n (some n),[⟨z,es,true,false⟩]):=by
  simp only[gY,b,kB,KM,if_true,d,Option.map_some];cases a<;>rfl
 unfold lI;rw[x];cases a<;>rfl
def R8{g:dv}{r:Ref}{z:Nat}{es:List AV}{fz:Bool}(b:g r=some ⟨z,es,true,fz⟩){n:Nat}(a:n=es.length)(k:Nat)(c:Option Nat):view g (k+1) (.ct r 0 n c)=some (.bE z es c):=by
 subst a;rw[MF b,if_pos ⟨rfl,by simp⟩,Ev,Ce]
def Qu(l m:List UInt8):aK l++aK m=aK (l++m):=by simp[aK]
def IZ(l:List UInt8)(n:Nat):(aK l).take n=aK (l.take n):=by simp[aK]
def Ee(l:List UInt8)(n:Nat):(aK l).drop n=aK (l.drop n):=by simp[aK]
def Xk{P:Program}{t t' z by':Nat}(h:XJ P t z by'=true)(j:JS P t'=true)(H:aa)(d e:Nat){es new:List AV}{s x:AV}(i:Fp z es H s)(k:T9 H.get z new x)
 (f:(es.length+new.length) * by'<=aX) (g:Fr H) :
 ∃c a,ee P true H ⟨d,e,H.gen d e,0⟩ (some t) (some t') s x=some (c,a)/\Fp z (es++new) a c/\Fr a /\∀q b,H.get q=some b->s.at?≠some q->a.get q=some b/\c.at?≠some q:=
 ZY h j i k f g ⟨d,e,rfl⟩
def Fp.bT{z:Nat}{es:List AV}{H d:aa}{x s e:AV}(h:Fp z es H x)(hp : ∀q b,H.get q=some b->s.at?≠some q->d.get q=some b/\e.at?≠some q)(c : ∀q,x.at?=some q->s.at?≠some q):Fp z es d x /\∀q,x.at?=some q->e.at?≠some q:=by
 rcases h with ⟨rfl,rfl⟩ | ⟨r,rfl,i⟩
 ·exact⟨Gu z d,λq a=>by simp[AV.at?]at a⟩
 obtain⟨g,f⟩:=hp r _ i (c r rfl);exact⟨.inr ⟨r,rfl,g⟩,λq a=>by simp only[AV.at?,eS]at a;subst a;exact f⟩
def P5{P:Program}{t:TypeId}(h:isBool P t=true):P.underlying t=some .bool:=by
 unfold isBool at h;split at h;·assumption
 cases h
def JF{P:Program}{t:TypeId}(h:isBool P t=true)(d:Nat)(a b:Bool):bO P (Op.equalIn (d+1) t (.bool a) (.bool b))=some (a == b):=by
 simp only[Op.equalIn,cB,pa (P5 h),fe];rfl
def PU{P:Program}{t:TypeId}(h:isBool P t=true)(c:BinOp)(e:c = .eql\/c = .neq)(xo yo:Operand)(a b:Bool) :
 xg P c t xo yo (.bool a) (.bool b)=some (.bool (if c = .eql then a == b else !(a == b))):=by
 have d:bO P (Op.equal t (.bool a) (.bool b))=some (a == b):=JF h 9999 a b;unfold xg;rcases e with rfl | rfl
 ·have:bO P (eqGuard .eql t xo yo (.bool a) (.bool b))=some ():=rfl;rw[cB,this,fe];show bO P (do pure (Value.bool (<-Op.equal t (.bool a) (.bool b))))=_;rw[cB,d];rfl
 have:bO P (eqGuard .neq t xo yo (.bool a) (.bool b))=some ():=rfl;rw[cB,this,fe];show bO P (do pure (Value.bool (!(<-Op.equal t (.bool a) (.bool b)))))=_;rw[cB,d];rfl
@[simp] def XF{P:Program}{t:TypeId}(h:isBool P t=true)(xo yo:Operand)(a b:Bool):bZ P .eql t xo yo (some (aB a)) (some (aB b))=some (aB (a == b),[]):=by
 simp only[bZ,Gg,jR,k7,PU h .eql (.inl rfl),oY,AH,gB,iQe,fe,jj,scalar,if_true,ku,Option.map_some]
@[simp] def ajL(P:Program)(d:Bool)(g:dv)(r:Ref)(c:Array TypeId)(k:IntKind)(a b:Int):eD P d g r .min c [.v (.int k a),.v (.int k b)]=some (.v (.int k (if b<a then b else a)),[]):=id rfl
def yP{P:Program}{r:Ref}{t z by':Nat}{zz:AV}(j:XJ P t z by'=true)(a:(eK P t).bind (fk P)=some zz){n:Nat}(m:n * by'<=aX)(h:n<9223372036854775808) :
 yQ P r t (some (aI n)) (some (aI n))=some (.ct r 0 n none,[⟨z,List.replicate n zz,true,false⟩]):=by
 obtain⟨e,k,b,d,l,c,g,f,i,o⟩:=iK j;rw[b]at a;simp only[fe,c,eS]at a;subst a;simp only[yQ,b,fe,uJ,c,d,l];have:((n:Int) * (by':Int))<=(aX:Int):=by exact_mod_cast m
 rw[if_pos ⟨by omega,iQW _,this,by omega,Ah i,g,f⟩,K0]
def Fp.cons{z:Nat}{es:List AV}{H:aa}{x:AV}(h:Fp z es H x)(c:Fr H)(d t:Nat)(b:Option bC):Fp z es ((⟨d,t,H.gen d t,0⟩,b) :: H) x:=by
 rcases h with ⟨rfl,rfl⟩ | ⟨r,rfl,a⟩
 ·exact Gu z _
 refine .inr ⟨r,rfl,?_⟩;rw[aa.gS,if_neg (qY c (by rw[a];rfl) d t 0)];exact a
@[simp] def aet(P:Program)(r:Ref)(e:TypeId){z:AV}(b:fk P e=some z)(a:0<(aV P e).getD 0):wc P r e=if some z.cells.length=aV P e/\z.cells.all AV.one=true then some (.ptr r 0 0,[⟨(aV P e).getD 0,[z],false,false⟩]) else none:=by
 unfold wc;rw[b];cases h:aV P e with
 | none=>simp
 | some n=>rw[h]at a;simp only[cU]at a;simp[a]
@[simp] def VM{P:Program}{t f:Nat}(h:0<((aL P t f).getD (0,0)).2)(r:Ref)(i j:Nat):kM P t (some (.ptr r i j)) f=some (.ptr r i (j+((aL P t f).getD (0,0)).1),[]):=by
 unfold kM;cases a:aL P t f with
 | none=>rw[a]at h;simp at h
 | some p=>obtain⟨o,s⟩:=p;rw[a]at h;simp only[cU]at h ⊢;rw[if_pos h]
@[simp] def T8{P:Program}{t f:Nat}(h:0<((aL P t f).getD (0,0)).2)(n:Nat)(es:List AV)(i j:Nat):kM P t (some (.iptr n es i j)) f=some (.iptr n es i (j+((aL P t f).getD (0,0)).1),[]):=by
 unfold kM;cases a:aL P t f with
 | none=>rw[a]at h;simp at h
 | some p=>obtain⟨o,s⟩:=p;rw[a]at h;simp only[cU]at h ⊢;rw[if_pos h]
def Rs(cs:List AV)(a n:Nat)(b:Bool):Option AV:=if b then (if a+n<=cs.length then some (.agg ((cs.drop a).take n)) else none) else cs[a]?
@[simp] def aiG(cs:List AV)(a n:Nat):Rs cs a n true=if a+n<=cs.length then some (.agg ((cs.drop a).take n)) else none:=id rfl
@[simp] def aiH(cs:List AV)(a n:Nat):Rs cs a n false=cs[a]?:=id rfl
@[simp] def acp{P:Program}{t f:Nat}(h:(((tJ P t f).bind λp=>aV P p.2).isSome&&((tJ P t f).bind λp=>fK P p.2).isSome)=true)(cs:List AV) :
 uV P t (some (.agg cs)) f=ku (Rs cs ((tJ P t f).getD (0,0)).1 ((aV P ((tJ P t f).getD (0,0)).2).getD 0) ((fK P ((tJ P t f).getD (0,0)).2).getD false)):=by
 unfold uV;cases a:tJ P t f with
 | none=>rw[a]at h;simp at h
 | some p=>obtain⟨o,e⟩:=p;rw[a]at h;simp only[fe,bI]at h;obtain⟨n,c⟩:=iB.1 h.1;obtain⟨b,d⟩:=iB.1 h.2;simp only[cU,AZ,c,d];cases b<;>rfl
@[simp] def Xz(cs:List AV)(new:List AV)(h:new.length=cs.length):fS [AV.agg cs] 0 0 new=some [AV.agg new]:=by
 simp[fS,oF,patch,h]
@[simp low] def XL(cs:List AV)(j:Nat)(new:List AV)(h:j+new.length<=cs.length):fS [AV.agg cs] 0 j new=some [AV.agg (patch cs j new)]:=by
 simp[fS,oF,h]
@[simp] def agw(cs:List AV)(j:Nat)(new:List AV):patch cs j new=cs.take j++new++cs.drop (j+new.length):=id rfl
@[simp] def YZ{P:Program}{t:TypeId}(b:(fK P t).isSome=true)(c:(aV P t).isSome=true)(H:aa)(r:Ref)(i j:Nat):AX P H (.ptr r i j) t=Wq (H.get r) i j ((aV P t).getD 0) ((fK P t).getD false):=by
 obtain⟨a,b⟩:=iB.1 b;obtain⟨n,c⟩:=iB.1 c;simp only[AX,b,c,cU];rfl
@[simp] def XE{P:Program}{t:TypeId}{z:List AV}(b:fk P t=some (.agg z))(c:mf P t=none)(hp:(iF P t).isSome=true)(a:List (Nat × AV)) :
 oK P t (some a)=(wu (λi=>((iF P t).getD [])[i]?) z a).map λcs=>(.agg cs,[]):=by
 obtain⟨ps,hp⟩:=iB.1 hp;simp only[oK,b,c,hp,cU]
@[simp] def Y4(a:List AV)(i:Nat):uE (some (.tup a)) i=ku a[i]?:=id rfl
@[simp] def agr(r:Ref)(i j:Nat):No (some (.ptr r i j))=some (.ptr r i j,[]):=id rfl
@[simp] def aa.RI(d t:Nat):aa.gen [] d t=0:=id rfl
@[simp] def aa.D7(d t g k:Nat)(b:Option bC)(H:aa)(a t':Nat):aa.gen ((⟨d,t,g,k⟩,b) :: H) a t'=if d=a/\t=t' then g+1 else aa.gen H a t':=id rfl
@[simp] def FM{c d:Type}(f:c->Option d)(a:c)(l:List c):List.mapM f (a :: l)=(f a).bind λb=>(List.mapM f l).map (b :: ·):=by
 rw[oo];cases f a<;>cases List.mapM f l<;>rfl
@[simp] def ace{b:Type}(f:b->AV)(l:List b)(i j n:Nat)(c:Bool):bP (l.map f) i j n c=(l[i]?).bind λa=>bP [f a] 0 j n c:=by
 unfold bP;rw[nM];cases l[i]?<;>rfl
def drop_cons{c:Type}{l:List c}{k:Nat}{a:c}{s:List c}(h:l.drop k=a :: s) : ∃b:k<l.length,l[k]=a/\l.drop (k+1)=s/\l[k]?=some a:=by
 have b:k<l.length:=by
  have:=iQf List.length h;simp at this;omega
 rw[K9 b]at h;cases h;exact⟨b,rfl,rfl,eu b⟩
def drop_nil{a:Type}{l:List a}{k:Nat}(h:l.drop k=[])(b:k<=l.length):k=l.length:=by
 have:=iQf List.length h;simp at this;omega
def mK{b:Bool}{q:jT}{K:AV->Prop}{m:Mk (q,K)}(c:b=true->fO q K)(a:b=false->K AV.undef):gQ (aB b) true q K m:=by
 cases b;·exact(ahb q K m).2 (a rfl)
 exact(ag9 q K m).2 (c rfl)
def mL{b:Bool}{q:jT}{K:AV->Prop}{m:Mk (q,K)}(c:b=true->K AV.undef)(a:b=false->fO q K):gQ (aB b) false q K m:=by
 cases b;·exact(ahc q K m).2 (a rfl)
 exact(aha q K m).2 (c rfl)
def mI{b:Bool}{H:aa}{q:dA}{K:AV->aa->Prop}{m:Mk (q,K)}(c:b=true->kA q K)(a:b=false->K AV.undef H):gW (aB b) true H q K m:=by
 cases b;·exact(ag7 H q K m).2 (a rfl)
 exact(ag5 H q K m).2 (c rfl)
def mJ{b:Bool}{H:aa}{q:dA}{K:AV->aa->Prop}{m:Mk (q,K)}(c:b=true->K AV.undef H)(a:b=false->kA q K):gW (aB b) false H q K m:=by
 cases b;·exact(ag8 H q K m).2 (a rfl)
 exact(ag6 H q K m).2 (c rfl)
def xH{H:aa}(a:Fr H){q:Ref}(h:(H.get q).isSome=true)(d t k:Nat):((⟨d,t,H.gen d t,k⟩:Ref)=q)=False:=
 eq_false (qY a h d t k)
def xI{H:aa}(a:Fr H){q:Ref}(h:(H.get q).isSome=true)(d t k:Nat):(q=(⟨d,t,H.gen d t,k⟩:Ref))=False:=
 eq_false λe=>qY a h d t k e.symm
def RG{H:aa}(a:Fr H)(d t k:Nat):H.get ⟨d,t,H.gen d t,k⟩=none:=a _ _ _ _ (bM _)
def GG{H:aa}(c:Fr H){d t g:Nat}(a:g=H.gen d t)(b:Option bC):Fr ((⟨d,t,g,0⟩,b) :: H):=by subst a;exact c.cons d t b
def Jc{H:aa}(a:Fr H){r:Ref}(c:(H.get r).isSome=true)(b:Option bC):Fr (H.put r b):=a.put b c
def IH{H:aa}{r:Ref}(a:(H.get r).isSome=true)(b:Option bC)(d t:Nat):(H.put r b).gen d t=H.gen d t:=aa.jo H r b a d t
def Ky{E:Env}{f:FuncId}(a:uW (E.mode f)=false)(x:AV)(H:aa)(y:AV):ed E f x H y↔view H.get depth x=some y:=by
 unfold ed;rw[if_neg (by simpa using a)]
def FQ{E:Env}{f:FuncId}(a:uW (E.mode f)=true)(x:AV)(H:aa)(y:AV):ed E f x H y↔(aj H.get depth x).Nodup/\ca H.get depth x=some y:=by
 unfold ed;rw[if_pos (by simpa using a)]
def oA(a:Bool)(H:aa)(r:Ref)(refs:List Ref)(o:Option AV):dA:=match o with
 | some y=>if flat depth y||kB H.get refs then some ((aw r depth y []).1,keyed r 0 (aw r depth y []).2 H)
  else if a then some ((aw r depth y []).1,keyed r 0 (aw r depth y []).2 (cL H refs)) else none
 | none=>none
noncomputable def W5(E:Env)(a:Bool)(H:aa)(r:Ref)(refs:List Ref)(f:FuncId)(o:Option (List AV)):dA:=match o with
 | some xs=>oA a H r refs (ay E f xs)
 | none=>none
def aG{E:Env}(a:Bool)(dep:Nat)(H:aa)(r:Ref)(f:FuncId)(d:(E.mode f == 2)=false)(b:(E.mode f == 3)=false)(first captured args:List AV) :
 bS E a (ay E) (eZ E dep) H r (some (.fn (.func f) first captured)) args=W5 E a H r (cO H.get (first++args++captured)) f ((first++args++captured).mapM (view H.get depth)):=by
 have c:E.mode f≠2:=by simpa using d
 simp only[bS,lY,ot,if_neg c,b,oY,Bool.or_false];cases(first++args++captured).mapM (view H.get depth) with
 | none=>cases a<;>rfl
 | some xs=>
  dsimp only[W5];cases ay E f xs with
  | none=>cases a<;>rfl
  | some y=>
   dsimp only[oA,Option.map_some];cases e:(flat depth y||kB H.get (cO H.get (first++args++captured))) with
   | true=>rfl
   | false=>cases a<;>rfl
@[simp] def adu(E:Env)(a:Bool)(H:aa)(r:Ref)(refs:List Ref)(f:FuncId)(b:List AV):W5 E a H r refs f (some b)=oA a H r refs (ay E f b):=id rfl
@[simp] def adv(a:Bool)(H:aa)(r:Ref)(refs:List Ref)(y:AV)(h:flat depth y=true):oA a H r refs (some y)=some (y,H):=by
 simp only[oA,h,iQT,if_true];rw[xj r depth depth y [] h];rfl
def ar(a:Bool)(H:aa)(r:Ref)(y:AV):oA a H r [] (some y)=some ((aw r depth y []).1,keyed r 0 (aw r depth y []).2 H):=by
 simp only[oA,kB,KM,Bool.or_true,if_true]
def aD(a:Bool)(H:aa)(r:Ref)(refs:List Ref)(y:AV)(h:kB H.get refs=true):oA a H r refs (some y)=some ((aw r depth y []).1,keyed r 0 (aw r depth y []).2 H):=by
 simp only[oA,h,Bool.or_true,if_true]
@[simp] def ajV(n:Nat)(x:Value):flat (n+1) (.v x)=true:=id rfl
@[simp] def ajW(n:Nat)(x:UInt8):flat (n+1) (a8 x)=true:=id rfl
@[simp] def aiY(n:Nat)(x:UInt32):flat (n+1) (bY x)=true:=id rfl
@[simp] def ahg(n:Nat)(cs:List AV):flat (n+1) (.agg cs)=cs.all (flat n):=id rfl
@[simp] def aeX(n:Nat)(cs:List AV):flat (n+1) (.tup cs)=cs.all (flat n):=id rfl
@[simp] def ahe(n z:Nat)(es:List AV)(c:Option Nat):flat (n+1) (.bE z es c)=false:=id rfl
@[simp] def ahf(n z:Nat)(es:List AV)(c:Option Nat):flat (n+1) (.fsl z es c)=false:=id rfl
@[simp] def aaz(g:dv):cO g []=[]:=id rfl
@[simp] def YY(g:dv)(x:AV)(a:List AV):cO g (x :: a)=aj g depth x++cO g a:=id rfl
@[simp] def abF(g:dv)(n:Nat)(x:Value):aj g n (.v x)=[]:=by cases n<;>rfl
@[simp] def abG(g:dv)(n:Nat)(x:UInt8):aj g n (a8 x)=[]:=by cases n<;>rfl
@[simp] def aap(g:dv)(n:Nat)(x:UInt32):aj g n (bY x)=[]:=by cases n<;>rfl
@[simp] def XR(g:dv)(n z:Nat)(es:List AV)(c:Option Nat):aj g n (.bE z es c)=[]:=by cases n<;>rfl
@[simp] def XA(g:dv)(n z:Nat)(es:List AV)(i j:Nat):aj g n (.iptr z es i j)=[]:=by cases n<;>rfl
@[simp] def XS(g:dv)(n:Nat)(cs:List AV):aj g (n+1) (.agg cs)=cs.flatMap (aj g n):=id rfl
@[simp] def XO(g:dv)(n:Nat)(cs:List AV):aj g (n+1) (.tup cs)=cs.flatMap (aj g n):=id rfl
@[simp] def XQ(g:dv)(n:Nat)(r:Ref)(o l:Nat)(c:Option Nat):aj g (n+1) (.ct r o l c)=[r]:=id rfl
@[simp] def aan(g:dv)(n:Nat)(f:Fn)(a b:List AV):aj g (n+1) (.fn f a b)=a.flatMap (aj g n)++b.flatMap (aj g n):=id rfl
def Ro(g:dv)(n:Nat)(o:Option bC):List Ref:=match o with
 | some b=>if b.arr then [] else b.es.flatMap (aj g n)
 | none=>[]
@[simp] def XP(g:dv)(n:Nat)(r:Ref)(i j:Nat):aj g (n+1) (.ptr r i j)=r :: Ro g n (g r):=id rfl
@[simp] def Zb(g:dv)(n:Nat)(b:bC):Ro g n (some b)=if b.arr then [] else b.es.flatMap (aj g n):=id rfl
def aar(o l:Nat)(c:Option Nat)(b:Option bC):Option AV:=match b with
 | some b=>if b.arr=true/\o+l<=b.es.length then some (.bE b.esz ((b.es.drop o).take l) c) else none
 | none=>none
@[simp] def adO(g:dv)(n:Nat)(r:Ref)(o l:Nat)(c:Option Nat):view g (n+1) (.ct r o l c)=aar o l c (g r):=id rfl
@[simp] def abI(o l:Nat)(c:Option Nat)(b:bC):aar o l c (some b)=if b.arr=true/\o+l<=b.es.length then some (.bE b.esz ((b.es.drop o).take l) c) else none:=id rfl
def aaq(g:dv)(n i j:Nat)(b:Option bC):Option AV:=match b with
 | some b=>if b.arr then some (.iptr b.esz b.es i j) else (b.es.mapM (view g n)).map λes => .iptr b.esz es i j
 | none=>none
@[simp] def adN(g:dv)(n:Nat)(r:Ref)(i j:Nat):view g (n+1) (.ptr r i j)=aaq g n i j (g r):=id rfl
@[simp] def abH(g:dv)(n i j:Nat)(b:bC):aaq g n i j (some b)=if b.arr then some (.iptr b.esz b.es i j) else (b.es.mapM (view g n)).map λes => .iptr b.esz es i j:=id rfl
@[simp] def ahI(g:dv)(n:Nat)(f:Fn)(a b:List AV):view g (n+1) (.fn f a b)=(a.mapM (view g n)).bind λa=>(b.mapM (view g n)).map λb => .fn f a b:=by
 rw[view];cases a.mapM (view g n)<;>cases b.mapM (view g n)<;>rfl
@[simp] def agZ(r:Ref)(n:Nat)(x:Value)(bs:List bC):aw r n (.v x) bs=(.v x,bs):=by cases n<;>rfl
@[simp] def ag0(r:Ref)(n:Nat)(x:UInt8)(bs:List bC):aw r n (a8 x) bs=(a8 x,bs):=by cases n<;>rfl
@[simp] def aeS(r:Ref)(n:Nat)(x:UInt32)(bs:List bC):aw r n (bY x) bs=(bY x,bs):=by cases n<;>rfl
@[simp] def acZ(r:Ref)(n z:Nat)(es:List AV)(c:Option Nat)(bs:List bC):aw r n (.bE z es c) bs=(.bE z es c,bs):=by cases n<;>rfl
@[simp] def ac0(r:Ref)(n z:Nat)(es:List AV)(c:Option Nat)(bs:List bC)(a:z≠0):aw r (n+1) (.fsl z es c) bs=(.ct { r with k:=bs.length} 0 es.length c,bs++[⟨z,es,true,false⟩]):=by
 simp only[aw,if_neg a]
def vx(r:Ref)(n:Nat):List AV->List AV->List bC->List AV × List bC
 | [],acc,bs=>(acc,bs)
 | c :: cs,acc,bs=>vx r n cs (acc++[(aw r n c bs).1]) (aw r n c bs).2
def Iz(r:Ref)(n:Nat)(cs:List AV) : ∀(a:List AV)(bs:List bC),cs.foldl (λ(p:List AV × List bC) c=>let (y,bs):=aw r n c p.2;(p.1++[y],bs)) (a,bs)=vx r n cs a bs:=by
 induction cs with| nil=>intro a bs;rfl| cons c cs b=>intro a bs;rw[wU];exact b _ _
@[simp] def ac1(r:Ref)(n:Nat)(cs:List AV)(bs:List bC):aw r (n+1) (.agg cs) bs=(.agg (vx r n cs [] bs).1,(vx r n cs [] bs).2):=by
 rw[<-Iz];rfl
@[simp] def acY(r:Ref)(n:Nat)(cs:List AV)(bs:List bC):aw r (n+1) (.tup cs) bs=(.tup (vx r n cs [] bs).1,(vx r n cs [] bs).2):=by
 rw[<-Iz];rfl
@[simp] def aaM(r:Ref)(n:Nat)(a:List AV)(bs:List bC):vx r n [] a bs=(a,bs):=id rfl
@[simp] def Zt(r:Ref)(n:Nat)(c:AV)(cs a:List AV)(bs:List bC):vx r n (c :: cs) a bs=vx r n cs (a++[(aw r n c bs).1]) (aw r n c bs).2:=id rfl
@[simp] def XH(H:aa):cL H []=H:=id rfl
def RK(H:aa)(r:Ref)(b:Option bC):aa:=match b with
 | some b=>H.put r (some { b with jq:=true})
 | none=>H
@[simp] def WL(H:aa)(r:Ref)(a:List Ref):cL H (r :: a)=cL (RK H r (H.get r)) a:=by
 show(match H.get r with | some b=>cL (H.put r (some { b with jq:=true})) a | none=>cL H a)=_;cases H.get r<;>rfl
@[simp] def ZA(H:aa)(r:Ref)(b:bC):RK H r (some b)=H.put r (some { b with jq:=true}):=id rfl
def RM(l:Nat)(c:Option Nat)(b:Option bC):Option AV:=match b with
 | some b=>if b.arr=true/\l<=b.es.length then some (if b.jq then .bE b.esz (b.es.take l) c else .fsl b.esz (b.es.take l) c) else none
 | none=>none
@[simp] def adf(g:dv)(n:Nat)(r:Ref)(l:Nat)(c:Option Nat):ca g (n+1) (.ct r 0 l c)=RM l c (g r):=id rfl
@[simp] def ZN(l:Nat)(c:Option Nat)(b:bC):RM l c (some b)=if b.arr=true/\l<=b.es.length then some (if b.jq then .bE b.esz (b.es.take l) c else .fsl b.esz (b.es.take l) c) else none:=id rfl
@[simp] def ahh(g:dv)(n:Nat)(x:Value):ca g (n+1) (.v x)=some (.v x):=id rfl
@[simp] def ahi(g:dv)(n:Nat)(x:UInt8):ca g (n+1) (a8 x)=some (a8 x):=id rfl
@[simp] def aeY(g:dv)(n:Nat)(x:UInt32):ca g (n+1) (bY x)=some (bY x):=id rfl
@[simp] def adg(g:dv)(n:Nat)(cs:List AV):ca g (n+1) (.agg cs)=(cs.mapM (ca g n)).map .agg:=id rfl
@[simp] def ade(g:dv)(n:Nat)(cs:List AV):ca g (n+1) (.tup cs)=(cs.mapM (ca g n)).map .tup:=id rfl
def Sl.idx{z:Nat}{es:List AV}{x:AV}(h:Sl z es x){P:Program}{t:TypeId}(b:(eK P t).bind (aV P)=some z)(g:dv)(a:IntKind)(k:Int) :
 cb P g t (some x) (some (.v (.int a k)))=if 0<=k/\k<es.length then some (.iptr z es k.toNat 0,[]) else none:=by
 rcases h with ⟨rfl,rfl⟩ | ⟨c,rfl,_⟩
 ·obtain⟨e,he,d⟩:=Od b;rw[if_neg (by simp)];simp[cb,uJ,he]
 exact Ii b g es c a k
def Sl.exp{z:Nat}{es:List AV}{x:AV}(h:Sl z es x)(g:dv)(n:Nat):ca g (n+1) x=some x:=by
 rcases h with ⟨rfl,rfl⟩ | ⟨c,rfl,_⟩<;>rfl
def Sl.imp'{z:Nat}{es:List AV}{x:AV}(h:Sl z es x)(r:Ref)(n:Nat)(bs:List bC):aw r n x bs=(x,bs):=by
 rcases h with ⟨rfl,rfl⟩ | ⟨c,rfl,_⟩<;>cases n<;>rfl
def Sl.r{z:Nat}{es:List AV}{x:AV}(h:Sl z es x):tu x=some es.length/\(∀g n,Ab.view g (n+1) x=some x)/\(∀g n,aj g n x=[])/\x.cells=[x]/\x.one=true/\(∀g n,ca g (n+1) x=some x)/\(∀r n bs,aw r n x bs=(x,bs)):=
 ⟨h.len,h.view,h.refs,h.cells.1,h.cells.2,h.exp,h.imp'⟩
@[simp] def Xs(z:Nat)(es es':List AV)(c:Option Nat):Sl z es (.bE z es' c)↔es=es'/\es.length<=c.getD es.length:=by
 constructor
 ·rintro(⟨e,_⟩ | ⟨a,e,h⟩);·cases e
  cases e;exact⟨rfl,h⟩
 rintro⟨rfl,h⟩;exact .inr ⟨c,rfl,h⟩
def Xm{P:Program}{t t' z by':Nat}(f:XJ P t z by'=true)(a:JS P t'=true)(l:Bool)(H:aa)(r:Ref){new:List AV}{x:AV}(i:T9 H.get z new x)(s:new≠[])(n:new.length * by'<=aX) :
 ee P l H r (some t) (some t') aY x=some (.ct r 0 new.length none,({ r with k:=0},some ⟨z,new,true,false⟩) :: H):=by
 obtain⟨e,zz,g,j,p,u,m,y,o,q⟩:=iK f;have b:=i.nP f g;unfold JS at a;simp only[bI,ij]at a;have c:(P.underlying t').isNone=false:=by cases h:P.underlying t' with | none=>rw[h]at a;simp at a | some d=>rfl
 have v : ¬((P.underlying t').isNone=true\/isInt P t'≠isNum x):=by
  rw[c,a.2,i.num];simp
 have hd : ¬(z≠z\/z=0\/by'=0\/zz.cells.length≠z):=by simp[m,o,q]
 simp only[ee,fx,fe,g,Option.map_some,cU,if_neg v,j,p,u,b,if_neg hd,if_neg s,if_pos n];rfl
def Xl{P:Program}{t t' z by':Nat}(o:XJ P t z by'=true)(c:JS P t'=true)(H:aa)(r q:Ref)(n:Nat){new es:List AV}{x:AV}(p:T9 H.get z new x){fz:Bool}(v:H.get q=some ⟨z,es,true,fz⟩)(F:n=es.length)(b:new≠[])(E:(es.length+new.length) * by'<=aX) :
 ee P true H r (some t) (some t') (.ct q 0 n none) x=some (.ct ⟨q.d,q.t,H.gen q.d q.t,0⟩ 0 (es.length+new.length) none,(⟨q.d,q.t,H.gen q.d q.t,0⟩,some ⟨z,es++new,true,fz⟩) :: H.put q none):=by
 subst F;obtain⟨e,zz,i,k,s,y,l,G,m,u⟩:=iK o;have a:=p.nP o i;unfold JS at c;simp only[bI,ij]at c;have g:(P.underlying t').isNone=false:=by cases h:P.underlying t' with | none=>rw[h]at c;simp at c | some d=>rfl
 have D : ¬((P.underlying t').isNone=true\/isInt P t'≠isNum x):=by
  rw[g,c.2,p.num];simp
 have hd : ¬(z≠z\/z=0\/by'=0\/zz.cells.length≠z):=by simp[l,m,u]
 have f : ¬(z≠z\/z=0\/by'=0\/new=[]\/zz.cells.length≠z):=by simp[l,m,u,b]
 have j:fx P H.get r (some t) (some t') (.ct q 0 es.length none) x=none:=by
  simp only[fx,fe,i,Option.map_some,cU,if_neg D,k,s,y,a,if_neg hd,v,if_neg b];simp
 simp only[ee,j,E7,Io];simp only[kG,fe,i,Option.map_some,cU,if_neg D,k,s,y,a,if_neg f,v,E,and_self,if_true,iQs]
def lj(P:Program)(t:TypeId):Nat:=((eK P t).bind (aV P)).getD 0
def td(P:Program)(t:TypeId):Nat:=((eK P t).bind (nT P)).getD 0
def gX(P:Program)(t:TypeId):AV:=((eK P t).bind (fk P)).getD AV.undef
def qN(P:Program)(t:TypeId):Bool:=XJ P t (lj P t) (td P t)
def ZP(z:Nat)(o:Option (Nat × List AV)):Option (List AV):=match o with
 | some (a,es)=>if a=z then some es else none
 | none=>none
def kI(z:Nat)(g:dv)(x:AV):Option (List AV):=match x with
 | .v (.slice none 0 0)=>some []
 | .v (.int _ _)=>none
 | x=>ZP z (dt g x)
@[simp] def ae1(z:Nat)(g:dv):kI z g aY=some []:=id rfl
@[simp] def ae2(z:Nat)(g:dv)(a:Nat)(es:List AV)(c:Option Nat):kI z g (.bE a es c)=if a=z then some es else none:=id rfl
def adk(z o n:Nat)(b:Option bC):Option (List AV):=match b with
 | some b=>if (b.arr=true/\o+n<=b.es.length)/\b.esz=z then some ((b.es.drop o).take n) else none
 | none=>none
@[simp] def ae3(z o n:Nat)(b:bC):adk z o n (some b)=if (b.arr=true/\o+n<=b.es.length)/\b.esz=z then some ((b.es.drop o).take n) else none:=id rfl
@[simp] def ae0(z:Nat)(g:dv)(r:Ref)(o n:Nat)(c:Option Nat):kI z g (.ct r o n c)=adk z o n (g r):=by
 unfold kI adk;simp only[dt];cases g r with
 | none=>rfl
 | some b=>
  dsimp only;by_cases h:b.arr=true/\o+n<=b.es.length
  ·by_cases a:b.esz=z;·rw[if_pos h,if_pos ⟨h,a⟩];simp[ZP,a]
   rw[if_pos h,if_neg (λe=>a e.2)];simp[ZP,a]
  rw[if_neg h,if_neg (λe=>h e.1)];rfl
def Sl.kI{z:Nat}{es:List AV}{x:AV}(h:Sl z es x)(g:dv):Ab.kI z g x=some es:=by
 rcases h with ⟨rfl,rfl⟩ | ⟨c,rfl,_⟩<;>simp
def vH{z:Nat}{g:dv}{x:AV}{new:List AV}(h:kI z g x=some new):T9 g z new x:=by
 unfold kI at h;split at h;·cases h;exact .inl ⟨rfl,rfl⟩
 ·cases h
 rename_i d a;unfold ZP at h;split at h
 ·rename_i f es b;split at h
  ·rename_i c;cases h;subst c;refine .inr ⟨?_,λe=>?_,b⟩
   ·cases x with
    | v u=>cases u with
     | int k n=>exact(a _ _ rfl).elim
     | _=>rfl
    | _=>rfl
   exact d e
  cases h
 cases h
def QE(z by':Nat)(H:aa)(r:Ref)(new:Option (List AV)):dA:=match new with
 | some new=>if new=[] then some (aY,H) else if new.length * by'<=aX then some (.ct r 0 new.length none,({ r with k:=0},some ⟨z,new,true,false⟩) :: H) else none
 | none=>none
@[simp] def TT(z by':Nat)(H:aa)(r:Ref)(new:List AV):QE z by' H r (some new)=if new=[] then some (aY,H) else if new.length * by'<=aX then some (.ct r 0 new.length none,({ r with k:=0},some ⟨z,new,true,false⟩) :: H) else none:=id rfl
@[simp] def adD{P:Program}{t t':TypeId}(i:qN P t=true)(c:JS P t'=true)(s:Bool)(H:aa)(r:Ref)(x:AV)(f:(kI (lj P t) H.get x).isSome=true) :
 ee P s H r (some t) (some t') aY x=QE (lj P t) (td P t) H r (kI (lj P t) H.get x):=by
 obtain⟨new,z⟩:=iB.1 f;rw[z,TT];have f:=vH z;unfold qN at i;by_cases b:new=[]
 ·rw[if_pos b];subst b;obtain⟨e,zz,j,k,n,p,l,D,m,o⟩:=iK i;have a:=f.nP i j;unfold JS at c;simp only[bI,ij]at c;have g:(P.underlying t').isNone=false:=by cases h:P.underlying t' with | none=>rw[h]at c;simp at c | some d=>rfl
  have q : ¬((P.underlying t').isNone=true\/isInt P t'≠isNum x):=by rw[g,c.2,f.num];simp
  have hd : ¬(lj P t≠lj P t\/lj P t=0\/td P t=0\/zz.cells.length≠lj P t):=(by simp[l,m,o]);simp only[ee,fx,fe,j,Option.map_some,cU,if_neg q,k,n,p,a,if_neg hd,if_true];rfl
 rw[if_neg b];split;·rename_i v;exact Xm i c s H r f b v
 rename_i v;obtain⟨e,zz,j,k,n,p,l,D,m,o⟩:=iK i;have a:=f.nP i j;unfold JS at c;simp only[bI,ij]at c;have g:(P.underlying t').isNone=false:=by cases h:P.underlying t' with | none=>rw[h]at c;simp at c | some d=>rfl
 have q : ¬((P.underlying t').isNone=true\/isInt P t'≠isNum x):=by rw[g,c.2,f.num];simp
 have hd : ¬(lj P t≠lj P t\/lj P t=0\/td P t=0\/zz.cells.length≠lj P t):=(by simp[l,m,o]);have u : ¬(lj P t≠lj P t\/lj P t=0\/td P t=0\/new=[]\/zz.cells.length≠lj P t):=(by simp[l,m,o,b]);have y:fx P H.get r (some t) (some t') aY x=none:=(by simp only[fx,fe,j,Option.map_some,cU,if_neg q,k,n,p,a,if_neg hd,if_neg b,if_neg v]);simp only[ee,y,E7];cases s;·rfl
 simp only[Io,kG,fe,j,Option.map_some,cU,if_neg q,k,n,p,a,if_neg u]
def bsG(a:Bool)(z:Nat)(zz:AV)(H:aa)(r:Ref)(n:Nat)(ps:List (Nat × AV)):dA:=match iI (List.replicate n zz) ps with
 | some es=>if a then some (.bE z es (some n),H) else some (.ct r 0 n (some n),({ r with k:=0},some ⟨z,es,true,false⟩) :: H)
 | none=>none
@[simp] def ajn{P:Program}{t:TypeId}(d:qN P t=true)(a j:Bool)(H:aa)(r:Ref)(n:Nat)(ps:List (Nat × AV))(f:n * lj P t<=16777216)(i:dG H.get ps=some ps)(c:cO H.get (ps.map (·.2))=[])
 (m:ps.all (λp=>p.2.cells.length == lj P t&&p.2.cells.all AV.one)=true) (b:(iI (List.replicate n (gX P t)) ps).isSome=true) :
 lI P a j H r t n (some ps)=bsG a (lj P t) (gX P t) H r n ps:=by
 obtain⟨es,b⟩:=iB.1 b;unfold qN at d;obtain⟨e,zz,k,o,v,l,s,q,u,x⟩:=iK d;have h:(eK P t).bind (fk P)=some zz:=by rw[k];exact l
 have g:gX P t=zz:=by unfold gX;rw[h];rfl
 rw[g]at b ⊢;rw[W9 d f i c m h b];unfold bsG;rw[b]
@[simp] def XI(es:List AV):iI es []=some es:=id rfl
@[simp] def WN(es:List AV)(i:Nat)(v:AV)(ps:List (Nat × AV)):iI es ((i,v) :: ps)=if i<es.length then iI (es.set i v) ps else none:=id rfl
@[simp] def ahx(a:Bool)(z:Nat)(zz:AV)(H:aa)(r:Ref)(n:Nat)(ps:List (Nat × AV)):bsG a z zz H r n ps=(iI (List.replicate n zz) ps).bind λes=>if a then some (.bE z es (some n),H) else some (.ct r 0 n (some n),({ r with k:=0},some ⟨z,es,true,false⟩) :: H):=by
 unfold bsG;cases iI (List.replicate n zz) ps<;>rfl
@[simp] def XB(g:dv):dG g []=some []:=id rfl
@[simp] def Ux(g:dv)(i:Nat)(x:AV)(ps:List (Nat × AV)):dG g ((i,x) :: ps)=(view g depth x).bind λy=>(dG g ps).map ((i,y) :: ·):=by
 unfold dG;rw[FM];dsimp only;cases view g depth x<;>rfl
def ac3(z o n:Nat)(k:Int)(r:Ref)(b:Option bC):jT:=match b with
 | some b=>if 0<=k/\k<n/\z=b.esz then some (.ptr r (o+k.toNat) 0,[]) else none
 | none=>none
@[simp] def aeT(z o n:Nat)(k:Int)(r:Ref)(b:bC):ac3 z o n k r (some b)=if 0<=k/\k<n/\z=b.esz then some (.ptr r (o+k.toNat) 0,[]) else none:=id rfl
@[simp] def T6{P:Program}{t:TypeId}(h:qN P t=true)(g:dv)(r:Ref)(o n:Nat)(c:Option Nat)(b:IntKind)(k:Int) :
 cb P g t (some (.ct r o n c)) (some (.v (.int b k)))=ac3 (lj P t) o n k r (g r):=by
 unfold qN at h;obtain⟨e,zz,d,a,f,p,l,j,m,i⟩:=iK h;simp only[cb,fe,uJ,d,a];cases g r<;>rfl
def Pk(H:aa)(r:Ref)(o:Option bC)(n i j:Nat)(x:AV):dA:=match o with
 | some ⟨z,es,true,false⟩=>if x.cells.length=n/\x.cells.all AV.one=true then (fS es i j x.cells).map λes=>(AV.undef,H.put r (some ⟨z,es,true,false⟩)) else none
 | some ⟨z,es,false,false⟩=>if x.cells.length=n/\x.cells.all AV.one=true then (fS es i j x.cells).map λes=>(AV.undef,H.put r (some ⟨z,es,false,false⟩)) else none
 | _=>none
@[simp] def HJ(H:aa)(r:Ref)(z:Nat)(es:List AV)(n i j:Nat)(x:AV):Pk H r (some ⟨z,es,true,false⟩) n i j x=if x.cells.length=n/\x.cells.all AV.one=true then (fS es i j x.cells).map λes=>(AV.undef,H.put r (some ⟨z,es,true,false⟩)) else none:=id rfl
@[simp] def abN(H:aa)(r:Ref)(z:Nat)(es:List AV)(n i j:Nat)(x:AV):Pk H r (some ⟨z,es,false,false⟩) n i j x=if x.cells.length=n/\x.cells.all AV.one=true then (fS es i j x.cells).map λes=>(AV.undef,H.put r (some ⟨z,es,false,false⟩)) else none:=id rfl
def Pm(H:aa)(o:Option bC)(x:AV):Prop:=match o with
 | some ⟨_,_,false,false⟩=>True
 | some ⟨_,_,true,false⟩=>view H.get depth x=some x/\aj H.get depth x=[]
 | _=>False
@[simp] def abP(H:aa)(z:Nat)(es:List AV)(x:AV):Pm H (some ⟨z,es,false,false⟩) x=True:=id rfl
@[simp] def abQ(H:aa)(z:Nat)(es:List AV)(x:AV):Pm H (some ⟨z,es,true,false⟩) x=(view H.get depth x=some x/\aj H.get depth x=[]):=id rfl
def uy{P:Program}{t:TypeId}(d:(aV P t).isSome=true)(H:aa)(r:Ref)(i j:Nat)(x:AV)(a:Pm H (H.get r) x) :
 kn P H t (some (.ptr r i j)) (some x)=Pk H r (H.get r) ((aV P t).getD 0) i j x:=by
 obtain⟨n,d⟩:=iB.1 d;simp only[kn,d,cU];cases e:H.get r with
 | none=>rw[e]at a;exact a.elim
 | some b=>
  rw[e]at a;obtain⟨z,es,arr,jq⟩:=b;cases jq with
  | true=>cases arr<;>exact a.elim
  | false=>
   cases arr with| false=>simp only[iQr,gB,iQe];rfl| true=>
    obtain⟨g,f⟩:=a;simp only[iQr,if_true,g,f,Dq,iQe,cL];by_cases c:x.cells.length=n/\x.cells.all AV.one=true;·rw[if_pos c,HJ,if_pos c,if_pos c.2]
    rw[if_neg c,HJ,if_neg c]
@[simp] def Jg(cs:List AV)(j:Nat)(new:List AV):oF (.agg cs) j new=if j+new.length<=cs.length then some (.agg (patch cs j new)) else none:=id rfl
@[simp] def aai(x:UInt8)(y:AV):oF (a8 x) 0 [y]=some y:=id rfl
@[simp] def aco(f:Fn)(a b:List AV):yR f (some a) (some b)=some (.fn f a b,[]):=id rfl
attribute [simp] uy
@[simp] def adb(a:Nat->Option (Nat × Nat))(cells:List AV):wu a cells []=some cells:=id rfl
def abo(a:Nat->Option (Nat × Nat))(cells:List AV)(v:AV)(rest:List (Nat × AV))(p:Option (Nat × Nat)):Option (List AV):=match p with
 | none=>none
 | some (off,size)=>if v.cells.length=size/\off+size<=cells.length then wu a (patch cells off v.cells) rest else none
@[simp] def abp(a:Nat->Option (Nat × Nat))(cells:List AV)(i:Nat)(v:AV)(rest:List (Nat × AV)):wu a cells ((i,v) :: rest)=abo a cells v rest (a i):=id rfl
@[simp] def ada(a:Nat->Option (Nat × Nat))(cells:List AV)(v:AV)(rest:List (Nat × AV))(c b:Nat):abo a cells v rest (some (c,b))=if v.cells.length=b/\c+b<=cells.length then wu a (patch cells c v.cells) rest else none:=id rfl
@[simp] def aaD(P:Program){g:dv}{r:Ref}{src dst:TypeId}{k':IntKind}(a:(P.underlying src).isNone=false)(hd:intKind P dst=some .u64)(n:Int)(b:0<=n)(c:n<=4294967296) :
 cE P g r src dst (some (.v (.int k' n)))=some (.v (.int .u64 n),[]):=by
 rw[pC P .u64 a hd,IntKind.wrap_u64,OR b (by omega)]
@[simp] def agv(r':Ref)(a:Option bC)(H:aa)(r:Ref)(b:Option bC):aa.put ((r',a) :: H) r b=if r'=r then (r,b) :: H else (r',a) :: aa.put H r b:=id rfl
def Z3(z:Nat)(es:List AV)(y:AV):Prop:=(y=aY/\es=[])\/y = .fsl z es none\/(y = .fsl z [] (some 0)/\es=[])
def Zu(r:Ref)(y:AV)(k:Nat):AV:=match y with
 | .fsl _ es c => .ct { r with k:=k} 0 es.length c
 | y=>y
def Zx(y:AV):List bC:=match y with
 | .fsl z es _=>[⟨z,es,true,false⟩]
 | _=>[]
def Z3.imp{z:Nat}{es:List AV}{y:AV}(h:Z3 z es y)(a:z≠0)(r:Ref)(n:Nat)(bs:List bC):aw r (n+1) y bs=(Zu r y bs.length,bs++Zx y):=by
 rcases h with ⟨rfl,rfl⟩ | rfl | ⟨rfl,rfl⟩
 ·simp[Zu,Zx]
 ·simp[Zu,Zx,a]
 simp[Zu,Zx,a]
def Oz{P:Program}{t t':TypeId}(g:qN P t=true)(c:JS P t'=true)(v:Bool)(H:aa)(r q:Ref)(n k:Nat)(x:AV){es new:List AV}{fz:Bool}(p:H.get q=some ⟨lj P t,es,true,fz⟩)(f:kI (lj P t) H.get x=some new)(F:n=es.length)(j:new=[]\/((es.length+new.length) * td P t<=aX/\k<es.length+new.length)) :
 ee P v H r (some t) (some t') (.ct q 0 n (some k)) x=if new=[] then some (.ct q 0 n (some k),H) else some (.ct r 0 (es.length+new.length) none,({ r with k:=0},some ⟨lj P t,es++new,true,false⟩) :: H):=by
 subst F;have f:=vH f;unfold qN at g;obtain⟨e,zz,l,m,o,s,y,G,D,E⟩:=iK g;have a:=f.nP g l;unfold JS at c;simp only[bI,ij]at c;have i:(P.underlying t').isNone=false:=by cases h:P.underlying t' with | none=>rw[h]at c;simp at c | some d=>rfl
 have u : ¬((P.underlying t').isNone=true\/isInt P t'≠isNum x):=by rw[i,c.2,f.num];simp
 have hd : ¬(lj P t≠lj P t\/lj P t=0\/td P t=0\/zz.cells.length≠lj P t):=by simp[y,D,E]
 by_cases b:new=[];·subst b;simp only[ee,fx,fe,l,Option.map_some,cU,if_neg u,m,o,s,a,if_neg hd,p,if_true];simp
 obtain⟨z,j⟩:=j.resolve_left b;simp only[ee,fx,fe,l,Option.map_some,cU,if_neg u,m,o,s,a,if_neg hd,p,if_neg b];simp only[ne_eq,not_true_eq_false,Bool.true_eq_false,or_self,iQe,vP,bM,j,z,and_self,if_true,Ev,Ce];rfl
def kJ(z by' n:Nat)(a:Bool)(c:Option Nat)(b:Option bC)(new:Option (List AV)):Prop:=match b,new with
 | some ⟨d,es,true,_⟩,some new=>d=z/\n=es.length/\(new=[]\/((es.length+new.length) * by'<=aX/\match c with | none=>a=true | some k=>k<es.length+new.length))
 | _,_=>False
def ax(z by' n:Nat)(a:Bool)(b:Nat)(es new:List AV)(fz:Bool):kJ z by' n a none (some ⟨b,es,true,fz⟩) (some new)=(b=z/\n=es.length/\(new=[]\/((es.length+new.length) * by'<=aX/\a=true))):=id rfl
def aJ(z by' n:Nat)(b:Bool)(k a:Nat)(es new:List AV)(fz:Bool):kJ z by' n b (some k) (some ⟨a,es,true,fz⟩) (some new)=(a=z/\n=es.length/\(new=[]\/((es.length+new.length) * by'<=aX/\k<es.length+new.length))):=id rfl
def QF(z:Nat)(H:aa)(q r:Ref)(n:Nat)(c:Option Nat)(b:Option bC)(new:Option (List AV)):dA:=match b,new with
 | some b,some []=>some (.ct q 0 n c,H)
 | some b,some new=>match c with
  | none=>some (.ct ⟨q.d,q.t,H.gen q.d q.t,0⟩ 0 (b.es.length+new.length) none,(⟨q.d,q.t,H.gen q.d q.t,0⟩,some ⟨z,b.es++new,true,b.jq⟩) :: H.put q none)
  | some _=>some (.ct r 0 (b.es.length+new.length) none,({ r with k:=0},some ⟨z,b.es++new,true,false⟩) :: H)
 | _,_=>none
@[simp] def Xo(z:Nat)(H:aa)(q r:Ref)(n:Nat)(c:Option Nat)(b:bC):QF z H q r n c (some b) (some [])=some (.ct q 0 n c,H):=id rfl
def bG(z:Nat)(H:aa)(q r:Ref)(n:Nat)(b:bC)(new:List AV)(a:new≠[]):QF z H q r n none (some b) (some new)=some (.ct ⟨q.d,q.t,H.gen q.d q.t,0⟩ 0 (b.es.length+new.length) none,(⟨q.d,q.t,H.gen q.d q.t,0⟩,some ⟨z,b.es++new,true,b.jq⟩) :: H.put q none):=by
 cases new with| nil=>exact(a rfl).elim| cons _ _=>rfl
def bF(z:Nat)(H:aa)(q r:Ref)(n k:Nat)(b:bC)(new:List AV)(a:new≠[]):QF z H q r n (some k) (some b) (some new)=some (.ct r 0 (b.es.length+new.length) none,({ r with k:=0},some ⟨z,b.es++new,true,false⟩) :: H):=by
 cases new with| nil=>exact(a rfl).elim| cons _ _=>rfl
def aP{P:Program}{t t':TypeId}(l:qN P t=true)(g:JS P t'=true)(p:Bool)(H:aa)(r q:Ref)(n:Nat)(c:Option Nat)(x:AV)(a:kJ (lj P t) (td P t) n p c (H.get q) (kI (lj P t) H.get x)) :
 ee P p H r (some t) (some t') (.ct q 0 n c) x=QF (lj P t) H q r n c (H.get q) (kI (lj P t) H.get x):=by
 cases i:H.get q with| none=>rw[i]at a;exact a.elim| some b=>
  obtain⟨K,es,arr,fz⟩:=b;cases m:kI (lj P t) H.get x with
  | none=>rw[i,m]at a;cases arr<;>exact a.elim
  | some new=>
   rw[i,m]at a;cases arr with
   | false=>exact a.elim
   | true=>
    obtain⟨rfl,rfl,a⟩:=a;cases c with
    | none=>
     by_cases f:new=[]
     ·subst f;rw[Xo];have j:=vH m;unfold qN at l;obtain⟨e,zz,u,v,E,G,y,J,D,F⟩:=iK l;have o:=j.nP l u;unfold JS at g;simp only[bI,ij]at g;have s:(P.underlying t').isNone=false:=by cases h:P.underlying t' with | none=>rw[h]at g;simp at g | some d=>rfl
      have I : ¬((P.underlying t').isNone=true\/isInt P t'≠isNum x):=by rw[s,g.2,j.num];simp
      have hd : ¬(lj P t≠lj P t\/lj P t=0\/td P t=0\/zz.cells.length≠lj P t):=(by simp[y,D,F]);simp only[ee,fx,fe,u,Option.map_some,cU,if_neg I,v,E,G,o,if_neg hd,i,if_true];simp
     obtain⟨z,rfl⟩:=a.resolve_left f;rw[bG _ _ _ _ _ _ _ f];exact Xl (by exact l) g H r q _ (vH m) i rfl f z
    | some k=>
     rw[Oz l g p H r q _ k x i m rfl a];split;·rename_i f;subst f;rfl
     rename_i f;rw[bF _ _ _ _ _ _ _ _ f]
def Sl.Wb{z:Nat}{es:List AV}{x:AV}(h:Sl z es x):x=aY/\es=[] \/∃c,x = .bE z es c:=by
 rcases h with h | ⟨c,h,_⟩
 ·exact .inl h
 exact .inr ⟨c,h⟩
@[simp] def Y9(P:Program)(t:TypeId)(xo yo:Operand)(h:(eK P t).isSome=true)(z:Nat)(es:List AV)(c:Option Nat):bZ P .eql t xo yo (some (.bE z es c)) (some aY)=some (aB false,[]):=by
 unfold eK at h;split at h;·rename_i e a;simp[bZ,Gg,jR,a]
 cases h
def ahd(b:Option bC):Bool:=match b with | some b=>b.jq | none=>false
@[simp] def aeW(b:bC):ahd (some b)=b.jq:=id rfl
@[simp] def adH(g:dv):kB g []=true:=id rfl
@[simp] def abw(g:dv)(r:Ref)(a:List Ref):kB g (r :: a)=(ahd (g r)&&kB g a):=id rfl
def aC(H:aa)(r:Ref)(refs:List Ref)(y:AV)(b:flat depth y=false)(a:kB H.get refs=false):oA true H r refs (some y)=some ((aw r depth y []).1,keyed r 0 (aw r depth y []).2 (cL H refs)):=by
 simp only[oA,b,a,AH,gB,iQe,if_true]
def A0(z:Nat):List AV->AV
 | []=>aY
 | es => .fsl z es none
@[simp] def Nz(z:Nat):A0 z []=aY:=id rfl
def DO(z:Nat){es:List AV}(h:es≠[]):A0 z es = .fsl z es none:=by
 cases es with| nil=>exact(h rfl).elim| cons _ _=>rfl
def IV:AV->AV
 | .bE z [] _ => .fsl z [] (some 0)
 | .bE z es _ => .fsl z es none
 | x=>x
@[simp] def W1(x:Value):IV (.v x) = .v x:=id rfl
@[simp] def ads(z:Nat)(c:Option Nat):IV (.bE z [] c) = .fsl z [] (some 0):=id rfl
def BR(z:Nat){es:List AV}(c:Option Nat)(h:es≠[]):IV (.bE z es c) = .fsl z es none:=by
 cases es with| nil=>exact(h rfl).elim| cons _ _=>rfl
def oE(z:Nat)(es:List AV)(H:aa)(x y:AV):Prop:=(x=y/\Sl z es y) \/∃r c fz,x = .ct r 0 es.length c/\H.get r=some ⟨z,es,true,fz⟩/\y = .bE z es c/\es.length<=c.getD es.length
def oE.sl{z:Nat}{es:List AV}{H:aa}{x y:AV}(h:oE z es H x y):Sl z es y:=by
 rcases h with ⟨_,h⟩ | ⟨r,c,fz,_,_,rfl,h⟩
 ·exact h
 exact .inr ⟨c,rfl,h⟩
def oE.view{z:Nat}{es:List AV}{H:aa}{x y:AV}(h:oE z es H x y)(n:Nat):Ab.view H.get (n+1) x=some y:=by
 rcases h with ⟨rfl,h⟩ | ⟨r,c,fz,rfl,a,rfl,_⟩
 ·exact h.view _ _
 rw[R8 a rfl]
def oE.len{z:Nat}{es:List AV}{H:aa}{x y:AV}(h:oE z es H x y):tu x=some es.length:=by
 rcases h with ⟨rfl,h⟩ | ⟨r,c,fz,rfl,a,rfl,_⟩
 ·exact h.len
 rfl
def oE.cells{z:Nat}{es:List AV}{H:aa}{x y:AV}(h:oE z es H x y):x.cells=[x]/\x.one=true:=by
 rcases h with ⟨rfl,h⟩ | ⟨r,c,fz,rfl,a,rfl,_⟩
 ·exact h.cells
 exact⟨rfl,rfl⟩
def oE.put{z:Nat}{es:List AV}{H:aa}{x y:AV}(h:oE z es H x y){q:Ref}(a:x.at?≠some q)(b:Option bC):oE z es (H.put q b) x y:=by
 rcases h with h | ⟨r,c,fz,rfl,d,rfl,e⟩
 ·exact .inl h
 refine .inr ⟨r,c,fz,rfl,?_,rfl,e⟩;rw[aa.ad,if_neg (by rintro rfl;exact a rfl),d]
def oE.cons{z:Nat}{es:List AV}{H:aa}{x y:AV}(h:oE z es H x y)(e:Fr H)(d t:Nat)(b:Option bC):oE z es ((⟨d,t,H.gen d t,0⟩,b) :: H) x y:=by
 rcases h with h | ⟨r,c,fz,rfl,a,rfl,f⟩
 ·exact .inl h
 refine .inr ⟨r,c,fz,rfl,?_,rfl,f⟩;rw[aa.gS,if_neg (qY e (by rw[a];rfl) d t 0),a]
def oE.r{z:Nat}{es:List AV}{H:aa}{x y:AV}(h:oE z es H x y):tu x=some es.length/\(∀n,Ab.view H.get (n+1) x=some y)/\x.cells=[x]/\x.one=true:=⟨h.len,h.view,h.cells⟩
def oE.of{z:Nat}{es:List AV}{x:AV}(h:Sl z es x)(H:aa):oE z es H x x := .inl ⟨rfl,h⟩
def TY(z:Nat)(es:List AV)(H:aa)(x:AV)(r:Ref):Prop:=(x=aY/\es=[]) \/∃c,x = .ct r 0 es.length c/\H.get r=some ⟨z,es,true,false⟩
def TY.len{z:Nat}{es:List AV}{H:aa}{x:AV}{r:Ref}(h:TY z es H x r):tu x=some es.length:=by
 rcases h with ⟨rfl,rfl⟩ | ⟨c,rfl,_⟩<;>rfl
def TY.cells{z:Nat}{es:List AV}{H:aa}{x:AV}{r:Ref}(h:TY z es H x r):x.cells=[x]/\x.one=true:=by
 rcases h with ⟨rfl,rfl⟩ | ⟨c,rfl,_⟩<;>exact⟨rfl,rfl⟩
def TY.ct{z:Nat}{es:List AV}{H:aa}{x:AV}{r:Ref}(h:TY z es H x r){k:Nat}(a:k<es.length) : ∃c,x = .ct r 0 es.length c/\H.get r=some ⟨z,es,true,false⟩:=by
 rcases h with ⟨rfl,rfl⟩ | h
 ·simp at a
 exact h
def hU(a:List Nat)(z:Nat)(es:List AV)(H:aa)(x:AV):Prop:=(x=aY/\es=[]) \/∃t g,t∈a/\x = .ct ⟨0,t,g,0⟩ 0 es.length none/\H.get ⟨0,t,g,0⟩=some ⟨z,es,true,false⟩
@[simp] def afg(a:List Nat)(z:Nat)(es:List AV)(H:aa):hU a z es H aY↔es=[]:=by
 constructor
 ·rintro(⟨_,e⟩ | ⟨t,g,_,e,_⟩);·exact e
  cases e
 rintro rfl;exact .inl ⟨rfl,rfl⟩
@[simp] def aff(b:List Nat)(z:Nat)(es:List AV)(H:aa)(t g n:Nat):hU b z es H (.ct ⟨0,t,g,0⟩ 0 n none)↔t∈b/\n=es.length/\H.get ⟨0,t,g,0⟩=some ⟨z,es,true,false⟩:=by
 constructor
 ·rintro(⟨e,_⟩ | ⟨t',c,a,e,h⟩);·cases e
  cases e;exact⟨a,rfl,h⟩
 rintro⟨a,rfl,h⟩;exact .inr ⟨t,g,a,rfl,h⟩
def oE.live{z:Nat}{es:List AV}{H:aa}{x y:AV}(h:oE z es H x y){r:Ref}(b:x.at?=some r):(H.get r).isSome=true:=by
 rcases h with ⟨rfl,h⟩ | ⟨r',c,fz,rfl,a,rfl,_⟩
 ·rcases h with ⟨rfl,_⟩ | ⟨c,rfl,_⟩<;>cases b
 cases b;rw[a];rfl
def oE.mono{z:Nat}{es:List AV}{H b:aa}{x y:AV}(h:oE z es H x y)(d : ∀r,x.at?=some r->b.get r=H.get r):oE z es b x y:=by
 rcases h with h | ⟨r',c,fz,rfl,a,rfl,e⟩
 ·exact .inl h
 exact .inr ⟨r',c,fz,rfl,by rw[d r' rfl,a],rfl,e⟩
def Gx{H:aa}(a:Fr H){q:Ref}(h:(H.get q).isSome=true)(d t k:Nat):((⟨d,t,H.gen d t+1,k⟩:Ref)=q)=False:=
 eq_false λe=>by subst e;rw[a _ _ _ _ (Et _)]at h;cases h
def Gy{H:aa}(a:Fr H){q:Ref}(h:(H.get q).isSome=true)(d t k:Nat):(q=(⟨d,t,H.gen d t+1,k⟩:Ref))=False:=
 eq_false λe=>by subst e;rw[a _ _ _ _ (Et _)]at h;cases h
def NU{H:aa}(a:Fr H)(d t k:Nat):H.get ⟨d,t,H.gen d t+1,k⟩=none:=a _ _ _ _ (Et _)
def OH{H:aa}(c:Fr H){d t g:Nat}(k:Nat)(m:g=H.gen d t\/g+1=H.gen d t)(b:Option bC):Fr ((⟨d,t,g,k⟩,b) :: H):=by
 intro i t' l k' h;rw[aa.D7]at h;rw[aa.gS];by_cases a:d=i/\t=t';·obtain⟨rfl,rfl⟩:=a;rw[if_pos ⟨rfl,rfl⟩]at h;rw[if_neg (by intro e;injection e;omega)];exact c _ _ _ _ (by omega)
 rw[if_neg a]at h;rw[if_neg (by intro e;injection e with f j;exact a ⟨f,j⟩)];exact c _ _ _ _ h
def RB(by':Nat)(es:List AV)(k:Nat)(new:Option (List AV)):Prop:=match new with
 | some new=>new=[]\/(k<es.length+new.length/\(es.length+new.length) * by'<=aX)
 | none=>False
def af(by':Nat)(es:List AV)(k:Nat)(new:List AV):RB by' es k (some new)=(new=[]\/(k<es.length+new.length/\(es.length+new.length) * by'<=aX)):=id rfl
def acU(z:Nat)(H:aa)(r:Ref)(es:List AV)(k:Nat)(new:Option (List AV)):dA:=match new with
 | some []=>some (.bE z es (some k),H)
 | some new=>some (.ct r 0 (es.length+new.length) none,({ r with k:=0},some ⟨z,es++new,true,false⟩) :: H)
 | none=>none
@[simp] def Ww(z:Nat)(H:aa)(r:Ref)(es:List AV)(k:Nat):acU z H r es k (some [])=some (.bE z es (some k),H):=id rfl
def a9(z:Nat)(H:aa)(r:Ref)(es:List AV)(k:Nat)(new:List AV)(a:new≠[]):acU z H r es k (some new)=some (.ct r 0 (es.length+new.length) none,({ r with k:=0},some ⟨z,es++new,true,false⟩) :: H):=by
 cases new with| nil=>exact(a rfl).elim| cons _ _=>rfl
def aO{P:Program}{t t':TypeId}(i:qN P t=true)(c:JS P t'=true)(s:Bool)(H:aa)(r:Ref)(z k:Nat)(es:List AV)(x:AV)(y:z=lj P t)(f:RB (td P t) es k (kI (lj P t) H.get x)) :
 ee P s H r (some t) (some t') (.bE z es (some k)) x=acU z H r es k (kI (lj P t) H.get x):=by
 subst y;cases j:kI (lj P t) H.get x with
 | none=>rw[j]at f;exact f.elim
 | some new=>
  rw[j]at f;have b:=vH j;unfold qN at i;obtain⟨e,zz,m,n,o,p,u,G,D,E⟩:=iK i;have a:=b.nP i m;unfold JS at c;simp only[bI,ij]at c;have l:(P.underlying t').isNone=false:=by cases h:P.underlying t' with | none=>rw[h]at c;simp at c | some d=>rfl
  have q : ¬((P.underlying t').isNone=true\/isInt P t'≠isNum x):=by rw[l,c.2,b.num];simp
  have hd : ¬(lj P t≠lj P t\/lj P t=0\/td P t=0\/zz.cells.length≠lj P t):=(by simp[u,D,E]);by_cases g:new=[];·subst g;rw[Ww];simp only[ee,fx,fe,m,Option.map_some,cU,if_neg q,n,o,p,a,if_neg hd,if_neg (show ¬(lj P t≠lj P t) by simp),if_true];rfl
  obtain⟨F,v⟩:=f.resolve_left g;rw[a9 _ _ _ _ _ _ g];simp only[ee,fx,fe,m,Option.map_some,cU,if_neg q,n,o,p,a,if_neg hd,if_neg (show ¬(lj P t≠lj P t) by simp),if_neg g,if_pos (show k<es.length+new.length/\(es.length+new.length) * td P t<=aX from⟨F,v⟩)];rfl
@[simp] def aeU(n:Nat)(h:n<9223372036854775808):IntKind.i64.wrap (no_index (OfNat.ofNat n):Int)=OfNat.ofNat n:=by
 show IntKind.i64.wrap (n:Int)=n;exact iQa _ (by omega)
@[simp] def ahB(len:Nat)(cap:Option Nat)(lo hi:Option Int):bounds len cap lo hi none=if 0<=lo.getD 0/\lo.getD 0<=hi.getD len/\hi.getD len<=len then some ((lo.getD 0).toNat,(hi.getD len).toNat,cap.map (· - (lo.getD 0).toNat)) else none:=id rfl
@[simp] def ahA(len:Nat)(cap:Option Nat)(lo:Option Int)(h m:Int):bounds len cap lo (some h) (some m)=if 0<=lo.getD 0/\lo.getD 0<=h/\h<=m/\m<=cap.getD len/\h<=len then some ((lo.getD 0).toNat,h.toNat,some (m.toNat - (lo.getD 0).toNat)) else none:=id rfl
@[simp] def af9(k:Nat):min k IntKind.i64.bits=min k 64:=id rfl
def aaA(o:Option AV)(j n:Nat)(a:Bool):Option AV:=match o with
 | none=>none
 | some e=>if a then (if j+n<=e.cells.length/\0<n then some (.agg ((e.cells.drop j).take n)) else none) else e.cells[j]?
@[simp] def acd(e:AV)(j n:Nat)(a:Bool):aaA (some e) j n a=if a then (if j+n<=e.cells.length/\0<n then some (.agg ((e.cells.drop j).take n)) else none) else e.cells[j]?:=id rfl
@[simp] def aeg(a b:AV)(es:List AV)(i j n:Nat)(c:Bool):bP (a :: b :: es) i j n c=aaA (a :: b :: es)[i]? j n c:=by
 unfold bP;cases(a :: b :: es)[i]?<;>rfl
@[simp] def ahF(l:List (AV × AV))(st bs:List AV)(H:aa):qy l st bs H↔(l.all λp=>qu p.1 p.2)=true/\st.all (HH H)=true/\bs.all bsV=true:=Iff.rfl
@[simp] def aed(r:Ref)(i j:Nat)(r':Ref)(b a:Nat):qu (.ptr r i j) (.ptr r' b a) = !decide (r=r'):=by
 unfold qu;simp[lT]
@[simp] def aee(r:Ref)(i j:Nat)(r':Ref)(o n:Nat)(c:Option Nat):qu (.ptr r i j) (.ct r' o n c) = !decide (r=r'):=by
 unfold qu;simp[lT]
@[simp] def aef(r:Ref)(i j:Nat)(r':Ref)(o n:Nat)(c:Option Nat):qu (.ct r' o n c) (.ptr r i j) = !decide (r'=r):=by
 unfold qu;simp[lT]
@[simp] def agp(v:Value)(x:AV):qu (.v v) x=true:=id rfl
@[simp] def acb(z:Nat)(es:List AV)(c:Option Nat)(x:AV):qu (.bE z es c) x=true:=id rfl
@[simp] def aec(v:Value)(x:AV):qu x (.v v)=true:=by
 unfold qu;cases lT x<;>rfl
def Ul(es:List AV)(o:Option AV)(i j:Nat)(new:List AV):Option (List AV):=match o with
 | none=>none
 | some e=>(oF e j new).map λa=>es.set i a
@[simp] def aaj(es:List AV)(e:AV)(i j:Nat)(new:List AV):Ul es (some e) i j new=(oF e j new).map λa=>es.set i a:=id rfl
@[simp] def abB(a b:AV)(es:List AV)(i j:Nat)(new:List AV):fS (a :: b :: es) i j new=Ul (a :: b :: es) (a :: b :: es)[i]? i j new:=by
 unfold fS;cases(a :: b :: es)[i]?<;>rfl
def Pj(o:Option bC):Bool:=match o with
 | some b => !b.arr
 | none=>false
@[simp] def aau(b:bC):Pj (some b) = !b.arr:=id rfl
@[simp] def af8(H:aa)(r:Ref)(i j:Nat):HH H (.ptr r i j)=Pj (H.get r):=by
 cases h:H.get r<;>simp[HH,Pj,h]
@[simp] def aki(r:Ref)(o n:Nat)(c:Option Nat):bsV (.ct r o n c)=true:=id rfl
def be:Nat->Int->List UInt8
 | 0,_=>[]
 | k+1,n=>be k (n / 256)++[u8 n]
def vp(a:Int)(l:List UInt8):Int:=l.foldl (λa b=>256 * a+(b.toNat:Int)) a
def val(l:List UInt8):Int:=vp 0 l
@[simp] def Fo(k:Nat) : ∀n,(be k n).length=k:=by
 induction k with| zero=>intro n;rfl| succ k a=>intro n;simp[be,a]
@[simp] def ajr(n:Int):be 0 n=[]:=id rfl
def Uy(a:Int):vp a []=a:=rfl
def J1(a:Int)(b:UInt8)(l:List UInt8):vp a (b :: l)=vp (256 * a+b.toNat) l:=rfl
def Sa(a:Int)(l:List UInt8)(b:UInt8):vp a (l++[b])=256 * vp a l+b.toNat:=by
 unfold vp;rw[List.foldl_append];rfl
def HB(l:List UInt8)(b:UInt8):val (l++[b])=256 * val l+b.toNat:=Sa 0 l b
@[simp] def ahL:val []=0:=id rfl
def CT(n:Int):((u8 n).toNat:Int)=n % 256:=by rw[rA];omega
def XT(k:Nat) : ∀n:Int,0<=n->n<256 ^ k->val (be k n)=n:=by
 induction k with
 | zero=>
  intro n b a;simp only[Int.pow_zero]at a;have:n=0:=by omega
  subst this;rfl
 | succ k c=>intro n b a;rw[be,HB,c (n / 256) (by omega) (by rw[AB]at a;omega),CT];omega
def CR{k:Nat}{n:Int}(a:0<=n)(b:n<256 ^ k):val (be k n)=n:=XT k n a b
def yF(l:List UInt8):0<=val l/\val l<256 ^ l.length:=by
 induction h:l.length generalizing l with| zero=>have:l=[]:=si.1 h;subst this;simp| succ k c=>
  have a:l≠[]:=by rintro rfl;simp at h
  rw[<-Uh a];generalize l.getLast a=b;have hd:l.dropLast.length=k:=by simp[h]
  have d:=c l.dropLast hd;rw[HB,AB];have:=b.toNat_lt;omega
def ady(l:List UInt8):be l.length (val l)=l:=by
 induction h:l.length generalizing l with| zero=>have:l=[]:=si.1 h;subst this;rfl| succ k g=>
  have a:l≠[]:=by rintro rfl;simp at h
  have hd:l.dropLast.length=k:=(by simp[h]);have c:=Uh a;generalize l.getLast a=b at c;have e:=g l.dropLast hd;rw[<-c,HB,be];have i:=b.toNat_lt;have d:(256 * val l.dropLast+(b.toNat:Int)) / 256=val l.dropLast:=by omega
  have f:u8 (256 * val l.dropLast+(b.toNat:Int))=b:=(by apply Ag.1;rw[rA];omega);rw[d,f,e]
def GD{l:List UInt8}{k:Nat}(h:l.length=k):be k (val l)=l:=by subst h;exact ady l
def Me(k:Nat) : ∀n:Int,be (k+1) n=u8 (n / 256 ^ k) :: be k n:=by
 induction k with| zero=>intro n;simp[be]| succ k a=>intro n;rw[be,a,be];rw[Int.ediv_ediv_of_nonneg (by omega),AB,Int.mul_comm (256 ^ k)];simp
def yH(a:Int)(h:0<=a)(l:List UInt8):a<=vp a l:=by
 induction l generalizing a with| nil=>exact iQW _| cons b l c=>rw[J1];have:=c (256 * a+b.toNat) (by omega);omega
def CS(l:List UInt8) : ∀(a:Int),0<=a ->∀k:Nat,a<256 ^ k->vp a l<256 ^ (k+l.length):=by
 induction l with| nil=>intro a h k c;simpa [Uy] using c| cons b l d=>intro a h k c;have e:=b.toNat_lt;have:=d (256 * a+b.toNat) (by omega) (k+1) (by rw[AB];omega);rw[J1,jP];rwa [show k+(l.length+1)=k+1+l.length by omega]
def orI(a b:Int):Int:=IntKind.i64.wrap ((BitVec.ofInt 64 a ||| BitVec.ofInt 64 b).toNat:Int)
@[simp] def aiE(P:Program)(t:TypeId)(xo yo:Operand)(a b:Int):bZ P .or t xo yo (some (.v (.int .i64 a))) (some (.v (.int .i64 b)))=some (.v (.int .i64 (orI a b)),[]):=by
 have h:xg P .or t xo yo (.int .i64 a) (.int .i64 b)=some (.int .i64 (orI a b)):=rfl;simp only[bZ,Gg,jR,k7,h,oY,AH,gB,iQe,fe,jj,scalar,if_true,ku,Option.map_some]
def LO{a b:Int}{k:Nat}(h:0<=a)(o:a * 2 ^ k<9223372036854775808)(i:0<=b)(f:b<2 ^ k)(l:k<63):orI (a * 2 ^ k) b=a * 2 ^ k+b:=by
 obtain⟨m,rfl⟩:=JZ h;obtain⟨n,rfl⟩:=JZ i;have c:n<2 ^ k:=by exact_mod_cast f
 have d:m * 2 ^ k<2 ^ 63:=by
  have e:((m * 2 ^ k:Nat):Int)<9223372036854775808:=by rw[Int.natCast_mul,KR];exact o
  omega
 have p:n<2 ^ 63:=Nat.lt_trans c (Nat.pow_lt_pow_right (by decide) l);have e:(BitVec.ofInt 64 ((m:Int) * 2 ^ k) ||| BitVec.ofInt 64 (n:Int)).toNat=m * 2 ^ k+n:=by
  rw[BitVec.toNat_or];rw[show((m:Int) * 2 ^ k)=((m * 2 ^ k:Nat):Int) by rw[Int.natCast_mul,KR];rfl];rw[iQP,iQP,BitVec.toNat_ofNat,BitVec.toNat_ofNat,KV (by omega),KV (by omega)];rw[KN,Ug c]
 unfold orI;rw[e];have q:m * 2 ^ k+n<2 ^ 63:=by
  have hd:m * 2 ^ k+n<(m+1) * 2 ^ k:=by rw[GV];omega
  have g:m+1<=2 ^ (63 - k):=by
   have j:2 ^ 63=2 ^ (63 - k) * 2 ^ k:=by rw[<-Nat.pow_add];congr 1;omega
   rw[j]at d;exact Nat.lt_of_mul_lt_mul_right d
  calc m * 2 ^ k+n<(m+1) * 2 ^ k:=hd
   _<=2 ^ (63 - k) * 2 ^ k:=mW _ g
   _=2 ^ 63:=by rw[<-Nat.pow_add];congr 1;omega
 rw[iQa _ (by omega)];push_cast;rfl
def Gv{n:Int}(c:0<=n)(d:n<36028797018963968)(b:UInt8):orI (n * 256) (b.toNat:Int)=256 * n+b.toNat:=by
 have:=b.toNat_lt;have e:=LO (a:=n) (b:=b.toNat) (k:=8) c (by omega) (by omega) (by omega) (by omega);rw[show(2:Int) ^ 8=256 from rfl]at e;rw[e];omega
@[simp] def adz(k:Nat)(n:Int):be k n=[]↔k=0:=by
 rw[<-si,Fo]
def UL{n:Int}(h:0<=n):n.tdiv 256=n / 256:=G6 h
def UG{n:Int}(h:0<=n):n.tmod 256=n % 256:=Aj h
def rD{k:Nat}(m:Nat)(h:k<=m):(256:Int) ^ k<=256 ^ m:=by
 have:=Nat.pow_le_pow_right (n:=256) (by decide) h;have e:((256 ^ k:Nat):Int)<=((256 ^ m:Nat):Int):=by exact_mod_cast this
 rwa [KR,KR]at e
def vc(n:Int):be 4 n=[u8 (n / 16777216),u8 (n / 65536),u8 (n / 256),u8 n]:=by
 simp[Me]
def QC(n:Int):be 7 n=[u8 (n / 281474976710656),u8 (n / 1099511627776),u8 (n / 4294967296),u8 (n / 16777216),u8 (n / 65536),u8 (n / 256),u8 n]:=by
 simp[Me]
def cT(n:Int)(k:Nat):n.fdiv (no_index (OfNat.ofNat k))=n / OfNat.ofNat k:=Int.fdiv_eq_ediv_of_nonneg _ (Int.natCast_nonneg k)
def me(n:Int):u8 (n % 256)=u8 n:=by
 apply Ag.1;rw[rA,rA];omega
def cK(z:Nat):List AV->AV
 | []=>aY
 | es => .bE z es none
def ji(z:Nat){es:List AV}(h:es≠[]):cK z es = .bE z es none:=by
 cases es with| nil=>exact(h rfl).elim| cons _ _=>rfl
def gZ(z:Nat)(es:List AV):Sl z es (cK z es):=by
 cases es with| nil=>exact .inl ⟨rfl,rfl⟩| cons a l=>exact .inr ⟨none,rfl,by simp⟩
def Sl.Zi{z:Nat}{es:List AV}{c:Option Nat}(h:es.length<=c.getD es.length):Sl z es (.bE z es c) := .inr ⟨c,rfl,h⟩
def L9{c:Option Nat}{n a m:Nat}(h:n<=c.getD n)(b:a+m<=n):m<=(c.map (· - a)).getD m:=by
 cases c with| none=>exact bM _| some c=>simp only[cU,Option.map_some]at h ⊢;omega
def XV(es:List AV):List UInt8:=es.map λx=>(byteOf x).getD 0
def isB(x:AV):Bool:=(byteOf x).isSome
def ZU(x:AV):Bool:=match x with
 | .bE .. | .ct .. => true
 | .v (.slice none 0 0)=>true
 | _=>false
@[simp] def ahP:XV []=[]:=id rfl
@[simp] def ahw(x:UInt8):byteOf (a8 x)=some x:=by
 show some (UInt8.ofNat ((x.toNat:Int)).toNat)=_;simp
@[simp] def afo(x:UInt8)(es:List AV):XV (a8 x :: es)=x :: XV es:=by simp[XV]
@[simp] def XU(l:List UInt8):XV (List.map a8 l)=l:=by
 induction l with| nil=>rfl| cons b l a=>simp[a]
@[simp] def ahQ(l:List UInt8):XV (aK l)=l:=XU l
@[simp] def akg(x:UInt8):isB (a8 x)=true:=by simp[isB]
@[simp] def ajt(l:List UInt8):(aK l).all isB=true:=by simp[aK]
@[simp] def ajl(z:Nat)(es:List AV)(c:Option Nat):ZU (.bE z es c)=true:=id rfl
@[simp] def ajk:ZU aY=true:=id rfl
def Sl.ZU{z:Nat}{es:List AV}{x:AV}(h:Sl z es x):Ab.ZU x=true:=by
 rcases h with ⟨rfl,_⟩ | ⟨c,rfl,_⟩<;>rfl
def Fp.ZU{z:Nat}{es:List AV}{H:aa}{x:AV}(h:Fp z es H x):Ab.ZU x=true:=by
 rcases h with ⟨rfl,_⟩ | ⟨c,rfl,_⟩<;>rfl
def Uz{es:List AV}(h:es.all isB=true):es.mapM byteOf=some (XV es):=by
 induction es with| nil=>rfl| cons x es c=>rw[zk,bI]at h;obtain⟨b,a⟩:=iB.1 h.1;rw[FM,c h.2,a];simp[XV,a]
@[simp] def acq{P:Program}{src dst:TypeId}(f:eE P src=true)(d:isStr P dst=true)(g:dv)(r:Ref)(x:AV)(k:(kI 1 g x).isSome=true)(h:((kI 1 g x).getD []).all isB=true)(j:ZU x=true) :
 cE P g r src dst (some x)=some (sB (XV ((kI 1 g x).getD [])),[]):=by
 obtain⟨es,he⟩:=iB.1 k;rw[he,cU]at h ⊢;have i:=Uz h;have e:=vH he;rcases e with ⟨rfl,rfl⟩ | ⟨_,_,e⟩
 ·simp only[cE,f,d,Eu,if_true];rfl
 cases x with
 | v x=>
  cases x with| slice a b c=>simp[dt]at e| _=>simp[Ab.ZU]at j
 | bE _ _ _=>simp only[cE,f,d,Eu,if_true,e,i,Option.map_some];rfl
 | ct _ _ _ _=>simp only[cE,f,d,Eu,if_true,e,i,Option.map_some];rfl
 | _=>simp[Ab.ZU]at j
def acE(z:Nat)(b:Option bC)(q:jT):jT:=match b with
 | some b=>if z=b.esz then q else none
 | none=>none
@[simp] def aeG(z:Nat)(b:bC)(q:jT):acE z (some b) q=if z=b.esz then q else none:=id rfl
@[simp] def ack{P:Program}{t:TypeId}(h:qN P t=true)(g:dv)(r:Ref)(o n:Nat)(c:Option Nat)(lo hi a:Option Int) :
 dx P g t (some (.ct r o n c)) (some lo) (some hi) (some a)=acE (lj P t) (g r) ((bounds n c lo hi a).map λp=>(.ct r (o+p.1) (p.2.1 - p.1) p.2.2,[])):=by
 unfold qN at h;obtain⟨e,zz,i,d,m,s,k,j,l,q⟩:=iK h;have f:(eK P t).bind (aV P)=some (lj P t):=by rw[i];exact d
 unfold dx;dsimp only;rw[f];cases g r with
 | none=>rfl
 | some b=>simp[acE]
@[simp] def adw(l:List UInt8):aK l=[]↔l=[]:=by simp[aK]
set_option linter.defProp false
def eR:=And.intro @aa.ad (And.intro @GG (And.intro @OH (And.intro @Fr.nil (And.intro @Jc (And.intro @xH (And.intro @xI (And.intro @Gx (And.intro @Gy (And.intro @RG (And.intro @NU (@IH)))))))))))
def Gk:=And.intro @GG (And.intro @OH (And.intro @Fr.nil (And.intro @Jc (And.intro @xH (And.intro @xI (And.intro @Gx (And.intro @Gy (And.intro @RG (And.intro @NU (@IH))))))))))
def ak:=And.intro @xH (And.intro @xI (And.intro @Gx (And.intro @Gy (@IH))))
end Go.Ab
