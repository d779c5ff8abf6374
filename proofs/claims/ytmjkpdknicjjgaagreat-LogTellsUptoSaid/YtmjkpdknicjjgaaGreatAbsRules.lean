/-
  The arguments of a law: from what is read before the call to data. No statement of a seat is proved here.
-/
import Derived.ChangeKeysEq
import Derived.Laws.Strings
import Derived.Test.YtmjkpdknicjjgaaGreatAbsCond
set_option linter.unusedVariables false
set_option linter.unusedSimpArgs false
set_option linter.unusedSectionVars false
set_option linter.unnecessarySimpa false
set_option linter.defProp false
namespace Go.Ab
open Go.ChangeShapes Go.WideShapes Go.RowKit
def HY(b:Bool)(a:List AV):AV:=match b,a with
 | false,[x]=>x
 | _,a => .agg a
def MK(S:List AV->Prop):Nat->List AV->Prop
 | 0,xs=>xs=[]
 | k+1,xs =>∃a b,xs=a++b/\S a/\MK S k b
def VP(S:TypeId->List AV->Prop):List Field->List AV->Prop
 | [],xs=>xs=[]
 | f :: c,xs =>∃a b,xs=a++b/\S f.type a/\VP S c b
def C6(P:Program):Nat->TypeId->List AV->Prop
 | 0,_,_=>False
 | n+1,t,xs=>match P.underlying t with
  | some .bool =>∃b,xs=[aB b]
  | some (.int k) =>∃i,(k.min<=i/\i<=k.max)/\xs=[.v (.int k i)]
  | some .string =>∃s:ByteArray,xs=[aS s]
  | some (.slice e)=>xs=[aO] \/∃es:List (List AV),xs=[.bq (P.cellsOf e) (es.map (HY ((eI P e).getD false))) none] /\∀x∈es,C6 P n e x
  | some (.struct a)=>VP (C6 P n) a.toList xs
  | some (.array k e)=>MK (C6 P n e) k xs
  | _=>False
def layout(P:Program):List Field->Nat->Option Nat
 | [],o=>some o
 | f :: a,o=>if f.offset=o then layout P a (o+P.cellsOf f.type) else none
def plain(P:Program):Nat->TypeId->Bool
 | 0,_=>false
 | n+1,t=>match P.underlying t with
  | some .bool | some (.int _) | some .string=>P.cellsOf t == 1
  | some (.slice e)=>P.cellsOf t == 1&&plain P n e&&decide (0<P.cellsOf e)
  | some (.struct a)=>a.toList.all (λf=>plain P n f.type)&&layout P a.toList 0 == some (P.cellsOf t)
  | some (.array k e)=>plain P n e&&P.cellsOf t == k * P.cellsOf e
  | _=>false
def C6.facts{P:Program} : ∀(n:Nat)(t:TypeId)(c:List AV),plain P n t=true->C6 P n t c->c.length=P.cellsOf t /\∀x∈c,x.one=true:=by
 intro n;induction n with
 | zero=>intro t c h;simp[plain]at h
 | succ n I=>
  intro t c hp g;unfold plain at hp;unfold C6 at g;cases G:P.underlying t with
  | none=>rw[G]at g;exact g.elim
  | some d=>
   rw[G]at hp g;cases d<;>dsimp only at hp g<;>try (exact g.elim)
   ·obtain⟨b,rfl⟩:=g;simp at hp;exact⟨by simp[hp],by simp[AV.one]⟩
   ·obtain⟨i,_,rfl⟩:=g;simp at hp;exact⟨by simp[hp],by simp[AV.one]⟩
   ·obtain⟨s,rfl⟩:=g;simp at hp;exact⟨by simp[hp],by simp[AV.one]⟩
   ·rename_i e;simp only[bt,iQl]at hp;rw[hp.1.1];rcases g with rfl | ⟨es,rfl,_⟩
    ·simp[AV.one]
    simp[AV.one]
   ·rename_i k e;simp only[bt,iQl]at hp;rw[hp.2];have : ∀(k:Nat)(c:List AV),MK (C6 P n e) k c->c.length=k * P.cellsOf e /\∀x∈c,x.one=true:=by
     intro k;induction k with
     | zero=>intro c h;simp only[MK]at h;subst h;simp
     | succ k z=>
      intro c h;obtain⟨a,b,rfl,F,D⟩:=h;obtain⟨p,q⟩:=I e a hp.1 F;obtain⟨u,E⟩:=z b D;refine⟨by rw[ju,p,u,Fm];omega,λx y=>?_⟩;rcases kQ.1 y with h | h
      ·exact q x h
      exact E x h
    exact this k c g
   rename_i K;simp only[bt,iQl,dY]at hp;have : ∀(l:List Field)(o:Nat)(c:List AV),(∀f∈l,plain P n f.type=true)->VP (C6 P n) l c->(∀m,layout P l o=some m->o+c.length=m) /\∀x∈c,x.one=true:=by
    intro l;induction l with
    | nil=>intro o c _ h;simp only[VP]at h;subst h;exact⟨λm j=>by simp[layout]at j;simp[j],by simp⟩
    | cons f l v=>
     intro o c J h;obtain⟨a,b,rfl,F,D⟩:=h;obtain⟨p,q⟩:=I f.type a (J f (gD ..)) F;obtain⟨u,E⟩:=v (o+P.cellsOf f.type) b (λf L=>J f (iS _ L)) D;refine⟨λm j=>?_,λx y=>?_⟩
     ·unfold layout at j;split at j;·have:=u m j;rw[ju,p];omega
      cases j
     rcases kQ.1 y with h | h
     ·exact q x h
     exact E x h
   obtain⟨p,q⟩:=this K.toList 0 c hp.1 g;exact⟨by have:=p _ hp.2;omega,q⟩
def Oa{c:Bool}{a:List AV}(b : ∀x∈a,x.one=true):(HY c a).cells=a:=by
 unfold HY;split;·rename_i x;have:=b x (by simp);cases x<;>first | rfl | (simp[AV.one]at this)
 rfl
section
variable{H:Type}{enc:TypeId × Value->H}{P:Program}{w:World}{C:Nat}{A:Nat->Bool}{B:Bool}
abbrev uH(w:World):Mem:=λb o=>w.cell? ⟨b,o,none⟩
def Si(P:Program)(n:Nat)(t:TypeId)(x:AV):Prop:=
 match eI P t with
 | some true =>∃a,x = .agg a/\C6 P n t a
 | _=>C6 P n t [x]
def O2(P:Program)(n:Nat):List TypeId->List AV->Prop
 | [],[]=>True
 | t :: a,x :: xs=>Si P n t x/\O2 P n a xs
 | _,_=>False
end
def KS{H:Type}{enc:TypeId × Value->H}{P:Program}{w:World}{C:Nat}{A:Nat->Bool}{B:Bool} : ∀ {a:List TypeId} {b:List Value} {ds:List (DataW H)} {ps:List MemPlace},
 DataW.TrodAll enc P w C A B a b ds ps->ds.length=a.length:=by
 intro a;induction a with
 | nil=>intro b ds ps h;obtain⟨_,rfl,_⟩:=trodAll_nil h;rfl
 | cons t a e=>intro b ds ps h;obtain⟨v,f,d,c,p,q,rfl,rfl,rfl,_,g⟩:=trodAll_cons h;simp[e g]
def tT{P:Program}{n:Nat}{t:TypeId}{c:List TypeId}{b:List AV}(h:O2 P n (t :: c) b) : ∃x a,b=x :: a/\Si P n t x/\O2 P n c a:=by
 cases b with| nil=>exact h.elim| cons x b=>exact⟨x,b,rfl,h.1,h.2⟩
def Tn{P:Program}{n:Nat}{a:List AV}(h:O2 P n [] a):a=[]:=by
 cases a with| nil=>rfl| cons x a=>exact h.elim
end Go.Ab
namespace Go.Ab
def O3{c:Type}(P:Program)(t:TypeId)(ok:c->Prop)(enc:c->List AV):Prop :=∀n b,C6 P n t b ->∃a,ok a/\b=enc a
def isBool(P:Program)(t:TypeId):Bool:=match P.underlying t with | some .bool=>true | _=>false
def jk(P:Program)(t:TypeId):Option (List TypeId):=match P.underlying t with | some (.struct a)=>some (a.toList.map (·.type)) | _=>none
def Le{P:Program}{t:TypeId}(h:isBool P t=true):O3 P t (λ_=>True) λb:Bool=>[aB b]:=by
 intro n d a;cases n with
 | zero=>exact a.elim
 | succ n=>
  unfold isBool at h;unfold C6 at a;split at h;·rename_i c;rw[c]at a;obtain⟨b,rfl⟩:=a;exact⟨b,trivial,rfl⟩
  cases h
def EZ{P:Program}{t:TypeId}{k:IntKind}(h:intKind P t=some k):O3 P t (λi:Int=>k.min<=i/\i<=k.max) λi:Int=>[.v (.int k i)]:=by
 intro n b a;cases n with
 | zero=>exact a.elim
 | succ n=>unfold C6 at a;rw[CC h]at a;obtain⟨i,hi,rfl⟩:=a;exact⟨i,hi,rfl⟩
def su{P:Program}{t:TypeId}(h:intKind P t=some .i64):O3 P t (λi:Int => -9223372036854775808<=i/\i<=9223372036854775807) λi:Int=>[aI i]:=λn b a=>by
 obtain⟨i,hi,rfl⟩:=EZ h n b a;exact⟨i,hi,rfl⟩
def Xc{P:Program}{t:TypeId}(h:intKind P t=some .i32):O3 P t (λi:Int => -2147483648<=i/\i<=2147483647) λi:Int=>[.v (.int .i32 i)]:=λn b a=>by
 obtain⟨i,hi,rfl⟩:=EZ h n b a;exact⟨i,hi,rfl⟩
def Lf{P:Program}{t:TypeId}(h:intKind P t=some .u8):O3 P t (λ_=>True) λb:UInt8=>[a8 b]:=λn d c=>by
 obtain⟨i,hi,rfl⟩:=EZ h n d c;refine⟨u8 i,trivial,?_⟩;have a:(0:Int)<=i:=hi.1;have e:i<=255:=hi.2;unfold a8;show[AV.v (.int .u8 i)]=[AV.v (.int .u8 ((u8 i).toNat:Int))];rw[pJ,MV a (by omega),BU a]
def aaD{P:Program}{t:TypeId}(h:intKind P t=some .u32):O3 P t (λ_=>True) λb:UInt32=>[bO b]:=λn d c=>by
 obtain⟨i,hi,rfl⟩:=EZ h n d c;refine⟨u32 i,trivial,?_⟩;have a:(0:Int)<=i:=hi.1;have e:i<=4294967295:=hi.2;unfold bO;show[AV.v (.int .u32 i)]=[AV.v (.int .u32 ((u32 i).toNat:Int))];rw[ur,MV a (by omega),BU a]
def XJ{d:Type}{ok:d->Prop}{enc:d->List AV} : ∀(es:List (List AV)),(∀x∈es,∃a,ok a/\x=enc a) ->∃l:List d,(∀a∈l,ok a)/\es=l.map enc:=by
 intro es;induction es with
 | nil=>intro _;exact⟨[],by simp,rfl⟩
 | cons x es f=>
  intro h;obtain⟨a,i,rfl⟩:=h x (gD ..);obtain⟨l,g,rfl⟩:=f λx e=>h x (iS _ e);refine⟨a :: l,?_,rfl⟩;intro b c;rcases ef.1 c with rfl | c
  ·exact i
  exact g b c
def QC{P:Program}{t e:TypeId}(h:cu P t=some e):P.underlying t=some (.slice e):=by
 unfold cu at h;split at h;·cases h;assumption
 cases h
def Gc{c:Type}{P:Program}{t e:TypeId}{z:Nat}{g:Bool}{ok:c->Prop}{enc:c->List AV}(o:cu P t=some e)(d:aH P e=some z)(k:eI P e=some g)(m:O3 P e ok enc){n:Nat}{f:List AV}(h:C6 P n t f) :
 ∃(l:List c) (x:AV),(∀a∈l,ok a)/\f=[x]/\Sl z (l.map λa=>HY g (enc a)) x:=by
 cases n with| zero=>exact h.elim| succ n=>
  unfold C6 at h;rw[QC o]at h;rcases h with rfl | ⟨es,rfl,b⟩
  ·exact⟨[],aO,by simp,rfl,.inl ⟨rfl,rfl⟩⟩
  obtain⟨l,j,rfl⟩:=XJ es λx i=>m n x (b x i);have p:P.cellsOf e=z:=(by unfold aH at d;unfold Program.cellsOf;rw[d];rfl);refine⟨l,_,j,rfl,?_⟩;rw[p,k,Bk];exact Sl.mk z _
def Tp{P:Program}{t e:TypeId}(c:cu P t=some e)(d:intKind P e=some .u8)(g:aH P e=some 1)(f:eI P e=some false){n:Nat}{a:List AV}(h:C6 P n t a) : ∃(l:List UInt8) (x:AV),a=[x]/\Sl 1 (aA l) x:=by
 obtain⟨l,x,_,rfl,b⟩:=Gc c g f (Lf d) h;exact⟨l,x,rfl,b⟩
def Si.cell{P:Program}{n:Nat}{t:TypeId}{x:AV}(a:eI P t=some false)(h:Si P n t x):C6 P n t [x]:=by
 unfold Si at h;rw[a]at h;exact h
def Si.agg{P:Program}{n:Nat}{t:TypeId}{x:AV}(b:eI P t=some true)(h:Si P n t x) : ∃a,x = .agg a/\C6 P n t a:=by
 unfold Si at h;rw[b]at h;exact h
def afO(S:TypeId->List AV->Prop):List TypeId->List AV->Prop
 | [],xs=>xs=[]
 | t :: c,xs =>∃a b,xs=a++b/\S t a/\afO S c b
def np{P:Program}{t:TypeId}{e:List TypeId}(c:jk P t=some e){n:Nat}{d:List AV}(h:C6 P n t d) : ∃m,afO (C6 P m) e d:=by
 cases n with| zero=>exact h.elim| succ n=>
  unfold jk at c;split at c
  ·rename_i i g;cases c;unfold C6 at h;rw[g]at h;refine⟨n,?_⟩;dsimp only at h;generalize i.toList=l at h;induction l generalizing d with
   | nil=>exact h
   | cons f l j=>obtain⟨a,b,rfl,o,k⟩:=h;exact⟨a,b,rfl,o,j k⟩
  cases c
def xv(P:Program)(d e c:Nat)(f ys:Array Value):List Nat->Option Bool
 | []=>some true
 | i :: is=>match bD P (part e f (i * c)),bD P (part e ys (i * c)) with
  | some a,some b=>(match bD P (Op.equalIn d e a b) with
   | some true=>xv P d e c f ys is
   | some false=>some false
   | none=>none)
  | _,_=>none
def PH{P:Program}{t:TypeId}{z:Nat}(h:aH P t=some z):bD P (sizeOf t)=some z:=by
 simp only[aH,bG]at h;obtain⟨i,hi,rfl⟩:=h;simp only[sizeOf,typeInfo,bT];show((some P).bind _).bind _=_;simp only[dX,hi];rfl
def DB{P:Program}(d:Nat){t e:TypeId}{n c:Nat}(f ys:Array Value)(g:P.underlying t=some (.array n e))(hi:aH P e=some c) :
 bD P (Op.equalIn (d+1) t (.agg f) (.agg ys))=xv P d e c f ys (List.range n):=by
 simp only[Op.equalIn,bT,nT g,dX,PH hi];simp only[Std.Legacy.Range.forIn_eq_forIn_range',Std.Legacy.Range.size,Nat.sub_zero,Nat.add_one_sub_one,Nat.div_one,M5];generalize List.range' 0 n=is;induction is with
 | nil=>rfl
 | cons j is h=>
  simp only[List.forIn_cons,xv,bT];cases k:bD P (part e f (j * c)) with
  | none=>rfl
  | some a=>
   cases l:bD P (part e ys (j * c)) with| none=>rfl| some b=>
    simp only[dX];cases i:bD P (Op.equalIn d e a b) with
    | none=>rfl
    | some r=>
     cases r;·rfl
     simp only[dX,ze,gj,iQh];exact h
def tV(P:Program)(d:Nat)(c ys:Array Value):List Field->Option Bool
 | []=>some true
 | f :: e=>match bD P (part f.type c f.offset),bD P (part f.type ys f.offset) with
  | some a,some b=>(match bD P (Op.equalIn d f.type a b) with
   | some true=>tV P d c ys e
   | some false=>some false
   | none=>none)
  | _,_=>none
def Cl{P:Program}(d:Nat){t:TypeId}{c:Array Field}(e ys:Array Value)(j:P.underlying t=some (.struct c))(i:P.stoodInHeld t=false)(h : ∀f∈c.toList,(f.name != "_")=true) :
 bD P (Op.equalIn (d+1) t (.agg e) (.agg ys))=tV P d e ys c.toList:=by
 have hp:bD P program=some P:=rfl;simp only[Op.equalIn,bT,nT j,dX,hp,i,gj,iQh];simp only[<-Array.forIn_toList];generalize c.toList=is at h;induction is with
 | nil=>rfl
 | cons f is l=>
  have n:f.name ≠ "_" := by simpa using h f (gD ..)
  simp only[List.forIn_cons,tV,bT,n,ne_eq,not_false_eq_true,if_true];have k:bD P (pure PUnit.unit:Sem PUnit)=some PUnit.unit:=rfl;cases p:bD P (part f.type e f.offset) with
  | none=>rfl
  | some a=>
   cases q:bD P (part f.type ys f.offset) with| none=>rfl| some b=>
    simp only[dX];cases o:bD P (Op.equalIn d f.type a b) with
    | none=>rfl
    | some r=>
     cases r;·rfl
     simp only[dX,ze,gj,iQh];exact l λg m=>h g (iS _ m)
def BG:List AV->List AV->Option Bool
 | [.v (.bool a)],[.v (.bool b)]=>some (decide (a=b))
 | [.v (.int k a)],[.v (.int k' b)]=>if k=k' then some (decide (a=b)) else none
 | [.v (.string a)],[.v (.string b)]=>some (a == b)
 | _,_=>none
def gm(S:TypeId->List AV->List AV->Option Bool)(P:Program):List TypeId->List AV->List AV->Option Bool
 | [],_,_=>some true
 | t :: c,xs,ys=>match aH P t with
  | none=>none
  | some z=>match S t (xs.take z) (ys.take z),gm S P c (xs.drop z) (ys.drop z) with
   | some a,some b=>some (a&&b)
   | _,_=>none
def IW(S:List AV->List AV->Option Bool)(z:Nat):Nat->List AV->List AV->Option Bool
 | 0,_,_=>some true
 | k+1,xs,ys=>match S (xs.take z) (ys.take z),IW S z k (xs.drop z) (ys.drop z) with
  | some a,some b=>some (a&&b)
  | _,_=>none
def nX(P:Program)(t:TypeId):Option Nat:=match P.underlying t with
 | some .bool=>some 0
 | some (.int _)=>some 1
 | some .string=>some 2
 | _=>none
def IL:AV->Nat
 | .v (.bool _)=>0
 | .v (.int _ _)=>1
 | .v (.string _)=>2
 | _=>3
def nG(P:Program):Nat->TypeId->List AV->List AV->Option Bool
 | 0,_,_,_=>none
 | n+1,t,xs,ys=>match nX P t with
  | some l=>(match xs,ys with
   | [x],[y]=>cond (Nat.beq (IL x) l) (BG [x] [y]) none
   | _,_=>none)
  | none=>match jk P t with
   | some a=>gm (nG P n) P a xs ys
   | none=>match mC P t with
    | some (k,e)=>(match aH P e with
     | some z=>IW (nG P n e) z k xs ys
     | none=>none)
    | none=>none
def Ha(P:Program):Nat->TypeId->Bool
 | 0,_=>false
 | n+1,t=>match P.underlying t with
  | some .bool | some (.int _) | some .string=>eI P t == some false&&aH P t == some 1
  | some (.struct a)=>a.toList.all (λf=>Ha P n f.type&&f.name != "_")&&layout P a.toList 0 == some (P.cellsOf t) && !P.stoodInHeld t
  | some (.array k e)=>Ha P n e&&P.cellsOf t == k * P.cellsOf e
  | _=>false
def rR(a:List AV):Option (List Value):=a.mapM Io
def z0{a:List AV}{b:List Value}(h:rR a=some b)(n:Nat):rR (a.take n)=some (b.take n):=by
 unfold rR at *;induction a generalizing b n with
 | nil=>simp at h;subst h;simp
 | cons x a d=>
  simp only[na,rA,sJ,iz]at h;obtain⟨v,g,f,c,e⟩:=h;cases e;cases n with
  | zero=>simp
  | succ n=>simp only[List.take_succ_cons,na,g,d c n];rfl
def z5{b:List AV}{c:List Value}(h:rR b=some c)(n:Nat):rR (b.drop n)=some (c.drop n):=by
 unfold rR at *;induction b generalizing c n with
 | nil=>simp at h;subst h;simp
 | cons x b d=>
  simp only[na,rA,sJ,iz]at h;obtain⟨v,g,f,a,e⟩:=h;cases e;cases n with
  | zero=>simp only[C8,na,g,a];rfl
  | succ n=>simp only[List.drop_succ_cons];exact d a n
def wY(P:Program)(t:TypeId)(a:List Value):Option Value:=match eI P t with
 | some true=>some (.agg a.toArray)
 | some false=>a.head?
 | none=>none
def E0{P:Program}{t:TypeId}{z:Nat}(h:aH P t=some z){d:List Value}{o:Nat}{v:Value}(a:wY P t ((d.drop o).take z)=some v)(g:eI P t=some false->z=1):bD P (part t d.toArray o)=some v:=by
 unfold wY at a;have c : ∀b,eI P t=some b->bD P (isAgg t)=some b:=by
  intro b f;simp only[eI,bG]at f;obtain⟨dd,hd,rfl⟩:=f;simp only[isAgg,bT,nT hd,dX];cases dd<;>rfl
 unfold part;split at a;·rename_i e;cases a;simp only[bT,c _ e,dX,if_true,PH h];show some _=some _;congr 2;apply Jc.1;simp only[M6,Nb,Jl]
 ·rename_i e;simp only[bT,c _ e,dX,gj,iQh];have:d.toArray[o]?=some v:=by
   rw[g e]at a;rw[M7];cases hd:d.drop o with
   | nil=>rw[hd]at a;simp at a
   | cons u us=>rw[hd]at a;simp at a;subst a;have:=iQf List.head? hd;simpa [List.head?_drop] using this
  rw[this];rfl
 cases a
def abM{P:Program} : ∀(n:Nat)(D:Nat)(t:TypeId)(L ys:List AV)(us Q:List Value)(b:Bool),Ha P n t=true->nG P n t L ys=some b->rR L=some us->rR ys=some Q->L.length=P.cellsOf t->ys.length=P.cellsOf t ->
 ∃u v,wY P t us=some u/\wY P t Q=some v/\bD P (Op.equalIn (D+n) t u v)=some b:=by
 intro n;induction n with
 | zero=>intro D t L ys us Q b h;simp[Ha]at h
 | succ n ih=>
  intro D t L ys us Q b d h hu hv hlx hly;unfold Ha at d;unfold nG at h;cases hd:P.underlying t with
  | none=>rw[hd]at d;simp at d
  | some dd=>
   rw[hd]at d;have J : ∀l,nX P t=some l->(eI P t == some false&&aH P t == some 1)=true->(l=0/\dd = .bool\/(l=1 /\∃k,dd = .int k)\/l=2/\dd = .string) ->∃u v,wY P t us=some u/\wY P t Q=some v/\bD P (Op.equalIn (D+(n+1)) t u v)=some b:=by
    intro l W d Z;simp only[bt,iQl]at d;rw[W]at h;dsimp only at h;split at h
    ·rename_i x y;cases V:Nat.beq (IL x) l with
     | false=>rw[V]at h;cases h
     | true=>
      rw[V]at h;replace V:=kF V;have e1 : ∃u,us=[u]/\Io x=some u:=(by unfold rR at hu;simp only[na,I6,rA,sJ,iz]at hu;obtain⟨u,E,ws,K,h3⟩:=hu;cases K;cases h3;exact⟨u,rfl,E⟩);have e2 : ∃u,Q=[u]/\Io y=some u:=(by unfold rR at hv;simp only[na,I6,rA,sJ,iz]at hv;obtain⟨u,E,ws,K,h3⟩:=hv;cases K;cases h3;exact⟨u,rfl,E⟩);obtain⟨u,rfl,q⟩:=e1;obtain⟨v,rfl,s⟩:=e2;refine⟨u,v,by simp[wY,d.1],by simp[wY,d.1],?_⟩;rw[show D+(n+1)=(D+n)+1 from rfl];simp only[iQq]at h;unfold BG at h;simp only[Op.equalIn,bT,nT hd,dX];split at h
      ·rename_i a c S T;simp only[wB,iQs]at S T;subst S;subst T;simp[Io]at q s;subst q;subst s;have hl0:l=0:=V.symm;rcases Z with ⟨_,rfl⟩ | ⟨E,_⟩ | ⟨E,_⟩
       ·rw[<-h];show some (a == c)=_;congr 1
       ·omega
       omega
      ·rename_i k a k' c S T;simp only[wB,iQs]at S T;subst S;subst T;simp[Io]at q s;subst q;subst s;have hl0:l=1:=V.symm;rcases Z with ⟨E,_⟩ | ⟨_,k0,rfl⟩ | ⟨E,_⟩
       ·omega
       ·split at h;·rename_i R;subst R;rw[<-h];show bD P (if k=k then pure (a == c) else _)=_;rw[if_pos rfl];show some (a == c)=_;congr 1
        cases h
       omega
      ·rename_i a c S T;simp only[wB,iQs]at S T;subst S;subst T;simp[Io]at q s;subst q;subst s;have hl0:l=2:=V.symm;rcases Z with ⟨E,_⟩ | ⟨E,_⟩ | ⟨_,rfl⟩
       ·omega
       ·omega
       rw[<-h];rfl
      cases h
    cases h
   have hlt : ∀l,nX P t=some l->_:=λl W=>J l W;cases dd<;>dsimp only at d<;>try (simp at d;done)
   ·exact J 0 (by simp[nX,hd]) d (.inl ⟨rfl,rfl⟩)
   ·rename_i k;exact J 1 (by simp[nX,hd]) d (.inr (.inl ⟨rfl,k,rfl⟩))
   ·exact J 2 (by simp[nX,hd]) d (.inr (.inr ⟨rfl,rfl⟩))
   ·rename_i k e;simp only[bt,iQl]at d;obtain⟨d,hcell⟩:=d;have W:nX P t=none:=by simp[nX,hd]
    have Y:jk P t=none:=(by simp[jk,hd]);have hta:mC P t=some (k,e):=(by simp[mC,hd]);rw[W,Y,hta]at h;dsimp only at h;have M:eI P t=some true:=by simp[eI,hd]
    cases G:aH P e with| none=>rw[G]at h;cases h| some z=>
     rw[G]at h;dsimp only at h;have I:P.cellsOf e=z:=by simp only[aH]at G;simp[Program.cellsOf,G]
     have F:eI P e=some false->z=1:=by
      intro j;cases n with
      | zero=>simp[Ha]at d
      | succ n'=>
       unfold Ha at d;unfold eI at j;cases N:P.underlying e with
       | none=>rw[N]at d;simp at d
       | some d2=>rw[N]at d j;cases d2<;>simp at d j<;>(have:=d.2;rw[G]at this;simpa using this)
     refine⟨.agg us.toArray,.agg Q.toArray,by simp[wY,M],by simp[wY,M],?_⟩;rw[show D+(n+1)=(D+n)+1 from rfl,DB (D+n) _ _ hd G];have : ∀(m p:Nat)(b:Bool),(p+m) * z<=L.length->(p+m) * z<=ys.length->IW (nG P n e) z m (L.drop (p * z)) (ys.drop (p * z))=some b->xv P (D+n) e z us.toArray Q.toArray (List.range' p m)=some b:=by
      intro m;induction m with
      | zero=>intro p b _ _ h;simp[IW]at h;simp[xv,h]
      | succ m ihm=>
       intro p b hx hy h;simp only[IW]at h;have O:(p+(m+1)) * z=p * z+z+m * z:=by rw[lT,Fm];omega
       rw[O]at hx hy;cases E:nG P n e ((L.drop (p * z)).take z) ((ys.drop (p * z)).take z) with
       | none=>rw[E]at h;simp at h
       | some a=>
        rw[E]at h;cases K:IW (nG P n e) z m ((L.drop (p * z)).drop z) ((ys.drop (p * z)).drop z) with
        | none=>rw[K]at h;simp at h
        | some c=>
         rw[K]at h;simp only[dV]at h;rw[oC,oC,<-Fm]at K;obtain⟨u,v,q,s,heq⟩:=ih D e _ _ _ _ a d E (z0 (z5 hu (p * z)) z) (z0 (z5 hv (p * z)) z)
          (by rw[j7,nM,I];omega) (by rw[j7,nM,I];omega)
         have p1:=E0 G (o:=p * z) q F;have p2:=E0 G (o:=p * z) s F;simp only[List.range'_succ,xv,p1,p2,heq];cases a with
         | false=>simp at h;simp[h]
         | true=>simp only[ia]at h;subst h;exact ihm (p+1) c (by rw[show p+1+m=p+(m+1) by omega,O];exact hx) (by rw[show p+1+m=p+(m+1) by omega,O];exact hy) K
     rw[M5];by_cases X:k * z<=L.length/\k * z<=ys.length;·exact this k 0 b (by simpa using X.1) (by simpa using X.2) (by simpa using h)
     exfalso;rw[I]at hcell;exact X ⟨by omega,by omega⟩
   rename_i fs;simp only[bt,gz,dY,iQl]at d;obtain⟨⟨U,i⟩,hst⟩:=d;have W:nX P t=none:=by simp[nX,hd]
   have Y:jk P t=some (fs.toList.map (·.type)):=(by simp[jk,hd]);rw[W,Y]at h;dsimp only at h;have M:eI P t=some true:=by simp[eI,hd]
   refine⟨.agg us.toArray,.agg Q.toArray,by simp[wY,M],by simp[wY,M],?_⟩;rw[show D+(n+1)=(D+n)+1 from rfl,Cl (D+n) _ _ hd hst (λf Y=>(U f Y).2)];have : ∀(l:List Field)(o:Nat)(b:Bool),(∀f∈l,Ha P n f.type=true)->layout P l o=some (P.cellsOf t)->gm (nG P n) P (l.map (·.type)) (L.drop o) (ys.drop o)=some b->o<=P.cellsOf t ->
    tV P (D+n) us.toArray Q.toArray l=some b:=by
    intro l;induction l with
    | nil=>intro o b _ _ h _;simp[gm]at h;simp[tV,h]
    | cons f l ihl=>
     intro o b hal i h ho;unfold layout at i;split at i
     ·rename_i hfo;simp only[vG,gm]at h;cases G:aH P f.type with
      | none=>rw[G]at h;cases h
      | some z=>
       rw[G]at h;dsimp only at h;have I:P.cellsOf f.type=z:=by simp only[aH]at G;simp[Program.cellsOf,G]
       rw[I]at i;cases E:nG P n f.type ((L.drop o).take z) ((ys.drop o).take z) with
       | none=>rw[E]at h;simp at h
       | some a=>
        rw[E]at h;cases K:gm (nG P n) P (l.map (·.type)) ((L.drop o).drop z) ((ys.drop o).drop z) with
        | none=>rw[K]at h;simp at h
        | some c=>
         rw[K]at h;simp only[dV]at h;rw[oC,oC]at K;have hle:o+z<=P.cellsOf t:=by
          have : ∀(l:List Field)(o m:Nat),layout P l o=some m->o<=m:=by
           intro l;induction l with
           | nil=>intro o m h;simp[layout]at h;omega
           | cons g l ihg=>
            intro o m h;unfold layout at h;split at h;·have:=ihg _ _ h;omega
            cases h
          exact this _ _ _ i
         obtain⟨u,v,q,s,heq⟩:=ih D f.type _ _ _ _ a (hal f (gD ..)) E (z0 (z5 hu o) z) (z0 (z5 hv o) z)
          (by rw[j7,nM,I];omega) (by rw[j7,nM,I];omega)
         have F:eI P f.type=some false->z=1:=by
          intro j;have R:=hal f (gD ..);cases n with
          | zero=>simp[Ha]at R
          | succ n'=>
           unfold Ha at R;unfold eI at j;cases N:P.underlying f.type with
           | none=>rw[N]at R;simp at R
           | some d2=>rw[N]at R j;cases d2<;>simp at R j<;>(have:=R.2;rw[G]at this;simpa using this)
         have p1:=E0 G (o:=o) q F;have p2:=E0 G (o:=o) s F;simp only[tV,hfo,p1,p2,heq];cases a with
         | false=>simp at h;simp[h]
         | true=>simp only[ia]at h;subst h;exact ihl (o+z) c (λg hg=>hal g (iS _ hg)) i K hle
     cases i
   exact this fs.toList 0 b (λf Y=>(U f Y).1) i (by simpa using h) (s8 _)
def G9(P:Program)(t:TypeId):Bool:=Ha P 20 t && !P.eqGuardType P.depth t&&eI P t == some true
def Rp{P:Program}{t:TypeId}(h:G9 P t=true)(op:BinOp)(e:op = .eql\/op = .neq)(d c:Operand)(a ys:Array Value) :
 vv P op t d c (.agg a) (.agg ys)=(bD P (Op.equalIn 10000 t (.agg a) (.agg ys))).map λb => .bool (if op = .eql then b else !b):=by
 unfold G9 at h;simp only[bt,gz,iQl]at h;have hp:bD P program=some P:=rfl;unfold vv;have f:bD P (eqGuard op t d c (.agg a) (.agg ys))=some ():=by
  rcases e with rfl | rfl
  ·simp only[eqGuard,ze,gj,iQh,bT,hp,dX,h.1.2,xE,if_true];rfl
  simp only[eqGuard,ze,gj,iQh,bT,hp,dX,h.1.2,xE,if_true];rfl
 rw[bT,f,dX];rcases e with rfl | rfl
 ·show bD P (do pure (Value.bool (<-Op.equal t (.agg a) (.agg ys))))=_;rw[bT];unfold Op.equal Op.maxDepth;cases bD P (Op.equalIn 10000 t (.agg a) (.agg ys))<;>rfl
 show bD P (do pure (Value.bool (!(<-Op.equal t (.agg a) (.agg ys)))))=_;rw[bT];unfold Op.equal Op.maxDepth;cases bD P (Op.equalIn 10000 t (.agg a) (.agg ys))<;>rfl
def Ls{P:Program}{t:TypeId}(h:G9 P t=true)(op:BinOp)(x:op = .eql\/op = .neq)(m k:Operand){cs ds:List AV}{b:Bool}(o:nG P 20 t cs ds=some b)(c:(rR cs).isSome=true)(f:(rR ds).isSome=true)
 (s:some cs.length=aH P t) (hd:some ds.length=aH P t):bN P op t m k (some (.agg cs)) (some (.agg ds))=some (aB (if op = .eql then b else !b),[]):=by
 obtain⟨us,c⟩:=ib.1 c;obtain⟨d,f⟩:=ib.1 f;have e:=h;unfold G9 at e;simp only[bt,gz,iQl]at e;have i : ∀ {n:Nat},some n=aH P t->n=P.cellsOf t:=by
  intro n l;unfold aH at l;unfold Program.cellsOf;rw[<-l];rfl
 obtain⟨u,v,j,g,heq⟩:=abM 20 9980 t cs ds us d b e.1.1 o c f (i s) (i hd);simp only[wY,e.2,dV]at j g;subst j;subst g;have a:=Rp h op x m k us.toArray d.toArray;rw[heq]at a;have p:kr (.agg cs)=some (.agg us.toArray):=by show(cs.mapM Io).map _=_;rw[show cs.mapM Io=some us from c];rfl
 have q:kr (.agg ds)=some (.agg d.toArray):=by show(ds.mapM Io).map _=_;rw[show ds.mapM Io=some d from f];rfl
 simp only[bN,EN,jJ,pE,zb,gj,iQh,p,q,a,Option.map_some,dX,iE,scalar,if_true,jI]
@[simp] def Xs{P:Program}{t:TypeId}(h:G9 P t=true)(d c:Operand){cs ds:List AV}(a:(nG P 20 t cs ds).isSome=true)(e:(rR cs).isSome=true)(f:(rR ds).isSome=true)
 (g:some cs.length=aH P t) (hd:some ds.length=aH P t):bN P .eql t d c (some (.agg cs)) (some (.agg ds))=some (aB ((nG P 20 t cs ds).getD false),[]):=by
 obtain⟨b,a⟩:=ib.1 a;rw[Ls h .eql (.inl rfl) d c a e f g hd,a];rfl
@[simp] def Xq{P:Program}{t:TypeId}(h:G9 P t=true)(d c:Operand){cs ds:List AV}(a:(nG P 20 t cs ds).isSome=true)(e:(rR cs).isSome=true)(f:(rR ds).isSome=true)
 (g:some cs.length=aH P t) (hd:some ds.length=aH P t):bN P .neq t d c (some (.agg cs)) (some (.agg ds))=some (aB (!(nG P 20 t cs ds).getD false),[]):=by
 obtain⟨b,a⟩:=ib.1 a;rw[Ls h .neq (.inr rfl) d c a e f g hd,a];rfl
@[simp] def adI:rR []=some []:=id rfl
@[simp] def KQ(k:IntKind)(n:Int)(l:List AV):rR (.v (.int k n) :: l)=(rR l).map (.int k n :: ·):=by
 unfold rR;simp only[na,Io];cases l.mapM Io<;>rfl
@[simp] def aco(b:Bool)(l:List AV):rR (.v (.bool b) :: l)=(rR l).map (.bool b :: ·):=by
 unfold rR;simp only[na,Io];cases l.mapM Io<;>rfl
@[simp] def ahk(b:UInt8)(l:List AV):rR (a8 b :: l)=(rR l).map (.int .u8 b.toNat :: ·):=KQ _ _ _
@[simp] def af1(b:UInt32)(l:List AV):rR (bO b :: l)=(rR l).map (.int .u32 b.toNat :: ·):=KQ _ _ _
@[simp] def ZP(a b:Bool):BG [aB a] [aB b]=some (decide (a=b)):=id rfl
@[simp] def Hb(k:IntKind)(a b:Int):BG [.v (.int k a)] [.v (.int k b)]=some (decide (a=b)):=by simp[BG]
@[simp] def afw(a b:UInt8):BG [a8 a] [a8 b]=some (decide (a=b)):=by
 unfold a8;rw[Hb];congr 2;rw[<-yC];exact propext (by omega)
@[simp] def adk(a b:UInt32):BG [bO a] [bO b]=some (decide (a=b)):=by
 unfold bO;rw[Hb];congr 2;rw[<-MT];exact propext (by omega)
@[simp] def abk(b:Bool):IL (aB b)=0:=id rfl
@[simp] def ac9(k:IntKind)(n:Int):IL (.v (.int k n))=1:=id rfl
@[simp] def agO(b:UInt8):IL (a8 b)=1:=id rfl
@[simp] def ae0(b:UInt32):IL (bO b)=1:=id rfl
@[simp] def Gu{P:Program}{t:TypeId}(h:((cu P t).bind (aH P)).isSome=true)(g:cL)(lo hi a:Option Int) :
 cm P g t (some aO) (some lo) (some hi) (some a)=(bounds 0 (some 0) lo hi a).map λ_=>(aO,[]):=by
 simp only[cm,h,if_true]
@[simp] def Gv{P:Program}{t z:Nat}(h:(cu P t).bind (aH P)=some z)(g:cL)(es:List AV)(c:Option Nat)(lo hi a:Option Int) :
 cm P g t (some (.bq z es c)) (some lo) (some hi) (some a)=(bounds es.length c lo hi a).map λ(l,h,c)=>(.bq z ((es.drop l).take (h - l)) c,[]):=by
 simp only[cm,h,if_true]
def Nw{P:Program}{t z:Nat}(h:(cu P t).bind (aH P)=some z)(g:cL){es:List AV}{x:AV}(d:Sl z es x){n:Int}(e:0<=n)(b:n<=es.length) :
 ∃y,cm P g t (some x) (some (some n)) (some none) (some none)=some (y,[])/\Sl z (es.drop n.toNat) y:=by
 rcases d with ⟨rfl,rfl⟩ | ⟨c,rfl,a⟩
 ·refine⟨aO,?_,.inl ⟨rfl,by simp⟩⟩;rw[Gu (by rw[h];rfl)];have:n=0:=by simp at b;omega
  subst this;rfl
 refine⟨.bq z (es.drop n.toNat) (c.map (· - n.toNat)),?_,.inr ⟨_,rfl,by cases c with | none=>simp | some k=>simp at a ⊢;omega⟩⟩;rw[Gv h];simp only[bounds,uf,cb,Int.le_refl,iQs,if_pos (show 0<=n/\n<=es.length from⟨e,b⟩),Option.map_some,Jf];congr 3;rw[cN (by simp)]
def QI{P:Program}{t z:Nat}(h:(cu P t).bind (aH P)=some z)(g:cL){es:List AV}{x:AV}(d:Sl z es x){lo hi:Int}(f:0<=lo)(i:lo<=hi)(b:hi<=es.length) :
 ∃y,cm P g t (some x) (some (some lo)) (some (some hi)) (some none)=some (y,[])/\Sl z ((es.drop lo.toNat).take (hi.toNat - lo.toNat)) y:=by
 rcases d with ⟨rfl,rfl⟩ | ⟨c,rfl,a⟩
 ·refine⟨aO,?_,.inl ⟨rfl,by simp⟩⟩;rw[Gu (by rw[h];rfl)];simp at b;have j:lo=0:=by omega
  have e:hi=0:=(by omega);subst j;subst e;rfl
 refine⟨.bq z ((es.drop lo.toNat).take (hi.toNat - lo.toNat)) (c.map (· - lo.toNat)),?_,.inr ⟨_,rfl,by cases c with | none=>simp | some k=>simp at a ⊢;omega⟩⟩;rw[Gv h];simp only[bounds,uf,cb,if_pos (show 0<=lo/\lo<=hi/\hi<=es.length from⟨f,i,b⟩),Option.map_some]
def sB(l:List UInt8):AV:=aS ⟨l.toArray⟩
def Kj(l:List UInt8):(aA l).mapM byteOf=some l:=by
 unfold aA;induction l with
 | nil=>rfl
 | cons b l a=>simp only[vG,na,a,rA,sJ];show(some (UInt8.ofNat ((b.toNat:Int)).toNat)).bind _=_;simp
def Mv{P:Program}{src dst:TypeId}(b:dq P src=true)(a:isStr P dst=true){g:cL}{r:Ref}{l:List UInt8}{x:AV}(d:Sp g 1 (aA l) x)(e : ∀s,x ≠ .v (.string s)) :
 bX P g r src dst (some x)=some (sB l,[]):=by
 rcases d with ⟨rfl,f⟩ | ⟨h,c,he⟩
 ·have:=iQf List.length f;simp at this;subst this;simp only[bX,b,a,Bm,if_true];rfl
 cases x with
 | v x=>
  exfalso;cases x<;>first | (simp[cy]at he;done) | skip
  exact e _ rfl
 | _=>simp only[bX,b,a,Bm,if_true,he,Kj,Option.map_some];rfl
def Sl.N8{z:Nat}{es:List AV}{x:AV}(h:Sl z es x) : ∀s,x ≠ .v (.string s):=by
 rcases h with ⟨rfl,_⟩ | ⟨c,rfl,_⟩<;>intro s e<;>cases e
def DW.N8{z:Nat}{es:List AV}{H:aa}{x:AV}(h:DW z es H x) : ∀s,x ≠ .v (.string s):=by
 rcases h with ⟨rfl,_⟩ | ⟨r,rfl,_⟩<;>intro s e<;>cases e
def Sl.conv{P:Program}{src dst:TypeId}{l:List UInt8}{x:AV}(a:Sl 1 (aA l) x)(c:dq P src=true)(b:isStr P dst=true)(g:cL)(r:Ref):bX P g r src dst (some x)=some (sB l,[]):=
 Mv c b (a.Hz g) a.N8
def DW.conv{P:Program}{src dst:TypeId}{l:List UInt8}{H:aa}{x:AV}(a:DW 1 (aA l) H x)(c:dq P src=true)(b:isStr P dst=true)(r:Ref):bX P H.get r src dst (some x)=some (sB l,[]):=
 Mv c b a.Hz a.N8
def tP(l:List UInt8):(⟨l.toArray⟩:ByteArray).toList=l:=by
 rw[ByteArray.toList_eq]
@[simp] def Ze(P:Program)(t:TypeId)(a b:Operand)(l m:List UInt8):bN P .eql t a b (some (sB l)) (some (sB m))=some (aB (decide (l=m)),[]):=by
 show some ((AV.v (.bool ((⟨l.toArray⟩:ByteArray).toList == (⟨m.toArray⟩:ByteArray).toList))),[])=_;rw[tP,tP];congr 4;by_cases h:l=m<;>simp[h]
@[simp] def Zd(P:Program)(t:TypeId)(a b:Operand)(l m:List UInt8):bN P .neq t a b (some (sB l)) (some (sB m))=some (aB (!decide (l=m)),[]):=by
 show some ((AV.v (.bool (!((⟨l.toArray⟩:ByteArray).toList == (⟨m.toArray⟩:ByteArray).toList)))),[])=_;rw[tP,tP];congr 5;by_cases h:l=m<;>simp[h]
def Vr{P:Program}{a u:Bool}{H:aa}{r:Ref}{t z by' n:Nat}{ps:List (Nat × AV)}{zz:AV}(s:RU P t z by'=true)(f:n * z<=16777216)(j:cZ H.get ps=some ps)(b:bH H.get (ps.map (·.2))=[])
 (x:ps.all (λp=>p.2.cells.length == z&&p.2.cells.all AV.one)=true) (c:(cu P t).bind (eP P)=some zz) {es:List AV} (y:gN (List.replicate n zz) ps=some es) :
 lH P a u H r t n (some ps)=if a then some (.bq z es (some n),H) else some (.bA r 0 n (some n),({ r with k:=0},some ⟨z,es,true,false⟩) :: H):=by
 obtain⟨e,v,h,o,D,g,i,m,l,E⟩:=fB s;rw[h]at c;simp only[dX,g,dV]at c;subst c;have d:mkSlice P H.get t n ps=some ⟨z,es,true,false⟩:=by
  simp only[mkSlice,h,j,g,o];rw[if_pos ⟨vl l,f,i,m,by simpa using x⟩,y];rfl
 have q:fT P a H.get r t n (some ps)=if a then some (.bq z es (some n),[]) else some (.bA r 0 n (some n),[⟨z,es,true,false⟩]):=by
  simp only[fT,b,m0,Bl,if_true,d,Option.map_some];cases a<;>rfl
 unfold lH;rw[q];cases a<;>rfl
def Qu{g:cL}{r:Ref}{z:Nat}{es:List AV}{fz:Bool}(b:g r=some ⟨z,es,true,fz⟩){n:Nat}(a:n=es.length)(k:Nat)(c:Option Nat):view g (k+1) (.bA r 0 n c)=some (.bq z es c):=by
 subst a;rw[KK b,if_pos ⟨rfl,by simp⟩,C8,BT]
def OQ(l m:List UInt8):aA l++aA m=aA (l++m):=by simp[aA]
def Hj(l:List UInt8)(n:Nat):(aA l).take n=aA (l.take n):=by simp[aA]
def CQ(l:List UInt8)(n:Nat):(aA l).drop n=aA (l.drop n):=by simp[aA]
def VE{P:Program}{t t' z by':Nat}(j:RU P t z by'=true)(h:EA P t'=true)(H:aa)(d c:Nat){es new:List AV}{s x:AV}(e:DW z es H s)(f:Sp H.get z new x)
 (g:(es.length+new.length) * by'<=aG) (i:Fr H) :
 ∃a H',dm P true H ⟨d,c,H.gen d c,0⟩ (some t) (some t') s x=some (a,H')/\DW z (es++new) H' a/\Fr H' /\∀q b,H.get q=some b->s.at?≠some q->H'.get q=some b/\a.at?≠some q:=
 Yu j h e f g i ⟨d,c,rfl⟩
def DW.bk{z:Nat}{es:List AV}{H H':aa}{x s d:AV}(h:DW z es H x)(hp : ∀q b,H.get q=some b->s.at?≠some q->H'.get q=some b/\d.at?≠some q)(c : ∀q,x.at?=some q->s.at?≠some q):DW z es H' x /\∀q,x.at?=some q->d.at?≠some q:=by
 rcases h with ⟨rfl,rfl⟩ | ⟨r,rfl,f⟩
 ·exact⟨E1 z H',λq a=>by simp[AV.at?]at a⟩
 obtain⟨g,e⟩:=hp r _ f (c r rfl);exact⟨.inr ⟨r,rfl,g⟩,λq a=>by simp only[AV.at?,dV]at a;subst a;exact e⟩
def Og{P:Program}{t:TypeId}(h:isBool P t=true):P.underlying t=some .bool:=by
 unfold isBool at h;split at h;·assumption
 cases h
def HW{P:Program}{t:TypeId}(h:isBool P t=true)(d:Nat)(a b:Bool):bD P (Op.equalIn (d+1) t (.bool a) (.bool b))=some (a == b):=by
 simp only[Op.equalIn,bT,nT (Og h),dX];rfl
def N0{P:Program}{t:TypeId}(h:isBool P t=true)(op:BinOp)(f:op = .eql\/op = .neq)(d c:Operand)(a b:Bool) :
 vv P op t d c (.bool a) (.bool b)=some (.bool (if op = .eql then a == b else !(a == b))):=by
 have e:bD P (Op.equal t (.bool a) (.bool b))=some (a == b):=HW h 9999 a b;unfold vv;rcases f with rfl | rfl
 ·have:bD P (eqGuard .eql t d c (.bool a) (.bool b))=some ():=rfl;rw[bT,this,dX];show bD P (do pure (Value.bool (<-Op.equal t (.bool a) (.bool b))))=_;rw[bT,e];rfl
 have:bD P (eqGuard .neq t d c (.bool a) (.bool b))=some ():=rfl;rw[bT,this,dX];show bD P (do pure (Value.bool (!(<-Op.equal t (.bool a) (.bool b)))))=_;rw[bT,e];rfl
@[simp] def V2{P:Program}{t:TypeId}(h:isBool P t=true)(c d:Operand)(a b:Bool):bN P .eql t c d (some (aB a)) (some (aB b))=some (aB (a == b),[]):=by
 simp only[bN,EN,jJ,kr,N0 h .eql (.inl rfl),pE,zb,gj,iQh,dX,iE,scalar,if_true,jI,Option.map_some]
@[simp] def aht(P:Program)(d:Bool)(g:cL)(r:Ref)(c:Array TypeId)(k:IntKind)(a b:Int):cO P d g r .min c [.v (.int k a),.v (.int k b)]=some (.v (.int k (if b<a then b else a)),[]):=id rfl
def zq{P:Program}{r:Ref}{t z by':Nat}{zz:AV}(k:RU P t z by'=true)(a:(cu P t).bind (eP P)=some zz){n:Nat}(l:n * by'<=aG)(f:n<9223372036854775808) :
 xk P r t (some (aI n)) (some (aI n))=some (.bA r 0 n none,[⟨z,List.replicate n zz,true,false⟩]):=by
 obtain⟨e,m,c,j,d,b,g,i,h,o⟩:=fB k;rw[c]at a;simp only[dX,b,dV]at a;subst a;simp only[xk,c,dX,tC,b,j,d];have:((n:Int) * (by':Int))<=(aG:Int):=by exact_mod_cast l
 rw[if_pos ⟨by omega,Int.le_refl _,this,by omega,vl h,g,i⟩,Jf]
def DW.cons{z:Nat}{es:List AV}{H:aa}{x:AV}(h:DW z es H x)(c:Fr H)(d t:Nat)(b:Option aY):DW z es ((⟨d,t,H.gen d t,0⟩,b) :: H) x:=by
 rcases h with ⟨rfl,rfl⟩ | ⟨r,rfl,a⟩
 ·exact E1 z _
 refine .inr ⟨r,rfl,?_⟩;rw[aa.bS,if_neg (pq c (by rw[a];rfl) d t 0)];exact a
@[simp] def acT(P:Program)(r:Ref)(e:TypeId){z:AV}(b:eP P e=some z)(a:0<(aH P e).getD 0):uD P r e=if some z.cells.length=aH P e/\z.cells.all AV.one=true then some (.ptr r 0 0,[⟨(aH P e).getD 0,[z],false,false⟩]) else none:=by
 unfold uD;rw[b];cases h:aH P e with
 | none=>simp
 | some n=>rw[h]at a;simp only[cb]at a;simp[a]
@[simp] def Ua{P:Program}{t f:Nat}(h:0<((aF P t f).getD (0,0)).2)(r:Ref)(i j:Nat):iB P t (some (.ptr r i j)) f=some (.ptr r i (j+((aF P t f).getD (0,0)).1),[]):=by
 unfold iB;cases a:aF P t f with
 | none=>rw[a]at h;simp at h
 | some p=>obtain⟨o,s⟩:=p;rw[a]at h;simp only[cb]at h ⊢;rw[if_pos h]
@[simp] def Sw{P:Program}{t f:Nat}(h:0<((aF P t f).getD (0,0)).2)(n:Nat)(es:List AV)(i j:Nat):iB P t (some (.iptr n es i j)) f=some (.iptr n es i (j+((aF P t f).getD (0,0)).1),[]):=by
 unfold iB;cases a:aF P t f with
 | none=>rw[a]at h;simp at h
 | some p=>obtain⟨o,s⟩:=p;rw[a]at h;simp only[cb]at h ⊢;rw[if_pos h]
def PK(cs:List AV)(a n:Nat)(b:Bool):Option AV:=if b then (if a+n<=cs.length then some (.agg ((cs.drop a).take n)) else none) else cs[a]?
@[simp] def agF(cs:List AV)(a n:Nat):PK cs a n true=if a+n<=cs.length then some (.agg ((cs.drop a).take n)) else none:=id rfl
@[simp] def agG(cs:List AV)(a n:Nat):PK cs a n false=cs[a]?:=id rfl
@[simp] def aaR{P:Program}{t f:Nat}(h:(((rU P t f).bind λp=>aH P p.2).isSome&&((rU P t f).bind λp=>eI P p.2).isSome)=true)(cs:List AV) :
 tf P t (some (.agg cs)) f=jI (PK cs ((rU P t f).getD (0,0)).1 ((aH P ((rU P t f).getD (0,0)).2).getD 0) ((eI P ((rU P t f).getD (0,0)).2).getD false)):=by
 unfold tf;cases a:rU P t f with
 | none=>rw[a]at h;simp at h
 | some p=>obtain⟨o,e⟩:=p;rw[a]at h;simp only[dX,bt]at h;obtain⟨n,d⟩:=ib.1 h.1;obtain⟨b,c⟩:=ib.1 h.2;simp only[cb,zw,d,c];cases b<;>rfl
@[simp] def VW(cs:List AV)(new:List AV)(h:new.length=cs.length):gr [AV.agg cs] 0 0 new=some [AV.agg new]:=by
 simp[gr,nn,patch,h]
@[simp low] def V8(cs:List AV)(j:Nat)(new:List AV)(h:j+new.length<=cs.length):gr [AV.agg cs] 0 j new=some [AV.agg (patch cs j new)]:=by
 simp[gr,nn,h]
@[simp] def aeI(cs:List AV)(j:Nat)(new:List AV):patch cs j new=cs.take j++new++cs.drop (j+new.length):=id rfl
@[simp] def Xg{P:Program}{t:TypeId}(c:(eI P t).isSome=true)(b:(aH P t).isSome=true)(H:aa)(r:Ref)(i j:Nat):xj P H (.ptr r i j) t=UI (H.get r) i j ((aH P t).getD 0) ((eI P t).getD false):=by
 obtain⟨a,c⟩:=ib.1 c;obtain⟨n,b⟩:=ib.1 b;simp only[xj,c,b,cb];rfl
@[simp] def V1{P:Program}{t:TypeId}{z:List AV}(c:eP P t=some (.agg z))(b:mC P t=none)(hp:(iD P t).isSome=true)(a:List (Nat × AV)) :
 nS P t (some a)=(uK (λi=>((iD P t).getD [])[i]?) z a).map λcs=>(.agg cs,[]):=by
 obtain⟨ps,hp⟩:=ib.1 hp;simp only[nS,c,b,hp,cb]
@[simp] def Xl(a:List AV)(i:Nat):sP (some (.tup a)) i=jI a[i]?:=id rfl
@[simp] def aeB(r:Ref)(i j:Nat):Ln (some (.ptr r i j))=some (.ptr r i j,[]):=id rfl
@[simp] def aa.P2(d t:Nat):aa.gen [] d t=0:=id rfl
@[simp] def aa.n8(d t g k:Nat)(b:Option aY)(H:aa)(a t':Nat):aa.gen ((⟨d,t,g,k⟩,b) :: H) a t'=if d=a/\t=t' then g+1 else aa.gen H a t':=id rfl
@[simp] def Ek{c d:Type}(f:c->Option d)(a:c)(l:List c):List.mapM f (a :: l)=(f a).bind λb=>(List.mapM f l).map (b :: ·):=by
 rw[na];cases f a<;>cases List.mapM f l<;>rfl
@[simp] def aaF{b:Type}(f:b->AV)(l:List b)(i j n:Nat)(c:Bool):bP (l.map f) i j n c=(l[i]?).bind λa=>bP [f a] 0 j n c:=by
 unfold bP;rw[kR];cases l[i]?<;>rfl
def drop_cons{c:Type}{l:List c}{k:Nat}{a:c}{s:List c}(h:l.drop k=a :: s) : ∃b:k<l.length,l[k]=a/\l.drop (k+1)=s/\l[k]?=some a:=by
 have b:k<l.length:=by
  have:=iQf List.length h;simp at this;omega
 rw[Nc b]at h;cases h;exact⟨b,rfl,rfl,de b⟩
def drop_nil{a:Type}{l:List a}{k:Nat}(h:l.drop k=[])(b:k<=l.length):k=l.length:=by
 have:=iQf List.length h;simp at this;omega
def mY{b:Bool}{q:jl}{K:AV->Prop}{m:Mk (q,K)}(c:b=true->dL q K)(a:b=false->K AV.undef):gQ (aB b) true q K m:=by
 cases b;·exact(afp q K m).2 (a rfl)
 exact(afn q K m).2 (c rfl)
def mZ{b:Bool}{q:jl}{K:AV->Prop}{m:Mk (q,K)}(c:b=true->K AV.undef)(a:b=false->dL q K):gQ (aB b) false q K m:=by
 cases b;·exact(afq q K m).2 (a rfl)
 exact(afo q K m).2 (c rfl)
def mW{b:Bool}{H:aa}{q:cJ}{K:AV->aa->Prop}{m:Mk (q,K)}(c:b=true->gh q K)(a:b=false->K AV.undef H):gW (aB b) true H q K m:=by
 cases b;·exact(afl H q K m).2 (a rfl)
 exact(afj H q K m).2 (c rfl)
def mX{b:Bool}{H:aa}{q:cJ}{K:AV->aa->Prop}{m:Mk (q,K)}(c:b=true->K AV.undef H)(a:b=false->gh q K):gW (aB b) false H q K m:=by
 cases b;·exact(afm H q K m).2 (a rfl)
 exact(afk H q K m).2 (c rfl)
def uF{H:aa}(a:Fr H){q:Ref}(h:(H.get q).isSome=true)(d t k:Nat):((⟨d,t,H.gen d t,k⟩:Ref)=q)=False:=
 eq_false (pq a h d t k)
def uG{H:aa}(a:Fr H){q:Ref}(h:(H.get q).isSome=true)(d t k:Nat):(q=(⟨d,t,H.gen d t,k⟩:Ref))=False:=
 eq_false λe=>pq a h d t k e.symm
def P0{H:aa}(a:Fr H)(d t k:Nat):H.get ⟨d,t,H.gen d t,k⟩=none:=a _ _ _ _ (bg _)
def oB{H:aa}(a:Fr H){d t g:Nat}(c:g=H.gen d t)(b:Option aY):Fr ((⟨d,t,g,0⟩,b) :: H):=by subst c;exact a.cons d t b
def oZ{H:aa}(a:Fr H){r:Ref}(c:(H.get r).isSome=true)(b:Option aY):Fr (H.put r b):=a.put b c
def CF{H:aa}{r:Ref}(a:(H.get r).isSome=true)(b:Option aY)(d t:Nat):(H.put r b).gen d t=H.gen d t:=aa.dK H r b a d t
def IQ{E:Env}{f:FuncId}(a:tg (E.mode f)=false)(x:AV)(H:aa)(y:AV):dA E f x H y↔view H.get depth x=some y:=by
 unfold dA;rw[if_neg (by simpa using a)]
def Eo{E:Env}{f:FuncId}(a:tg (E.mode f)=true)(x:AV)(H:aa)(y:AV):dA E f x H y↔(af H.get depth x).Nodup/\bJ H.get depth x=some y:=by
 unfold dA;rw[if_pos (by simpa using a)]
def rJ(a:Bool)(H:aa)(r:Ref)(refs:List Ref)(o:Option AV):cJ:=match o with
 | some y=>if flat depth y||m0 H.get refs then some ((aj r depth y []).1,keyed r 0 (aj r depth y []).2 H)
  else if a then some ((aj r depth y []).1,keyed r 0 (aj r depth y []).2 (b9 H refs)) else none
 | none=>none
noncomputable def Vn(E:Env)(a:Bool)(H:aa)(r:Ref)(refs:List Ref)(f:FuncId)(o:Option (List AV)):cJ:=match o with
 | some xs=>rJ a H r refs (ay E f xs)
 | none=>none
def aw{E:Env}(a:Bool)(dep:Nat)(H:aa)(r:Ref)(f:FuncId)(d:(E.mode f == 2)=false)(c:(E.mode f == 3)=false)(first captured args:List AV) :
 aV E a (ay E) (cD E dep) H r (some (.fn (.func f) first captured)) args=Vn E a H r (bH H.get (first++args++captured)) f ((first++args++captured).mapM (view H.get depth)):=by
 have b:E.mode f≠2:=by simpa using d
 simp only[aV,kT,nc,if_neg b,c,pE,Bool.or_false];cases(first++args++captured).mapM (view H.get depth) with
 | none=>cases a<;>rfl
 | some xs=>
  dsimp only[Vn];cases ay E f xs with
  | none=>cases a<;>rfl
  | some y=>
   dsimp only[rJ,Option.map_some];cases e:(flat depth y||m0 H.get (bH H.get (first++args++captured))) with
   | true=>rfl
   | false=>cases a<;>rfl
@[simp] def abX(E:Env)(b:Bool)(H:aa)(r:Ref)(refs:List Ref)(f:FuncId)(a:List AV):Vn E b H r refs f (some a)=rJ b H r refs (ay E f a):=id rfl
@[simp] def abY(a:Bool)(H:aa)(r:Ref)(refs:List Ref)(y:AV)(h:flat depth y=true):rJ a H r refs (some y)=some (y,H):=by
 simp only[rJ,h,Bool.true_or,if_true];rw[vB r depth depth y [] h];rfl
def ah(a:Bool)(H:aa)(r:Ref)(y:AV):rJ a H r [] (some y)=some ((aj r depth y []).1,keyed r 0 (aj r depth y []).2 H):=by
 simp only[rJ,m0,Bl,Bool.or_true,if_true]
def aq(a:Bool)(H:aa)(r:Ref)(refs:List Ref)(y:AV)(h:m0 H.get refs=true):rJ a H r refs (some y)=some ((aj r depth y []).1,keyed r 0 (aj r depth y []).2 H):=by
 simp only[rJ,h,Bool.or_true,if_true]
@[simp] def ahy(n:Nat)(x:Value):flat (n+1) (.v x)=true:=id rfl
@[simp] def ahz(n:Nat)(x:UInt8):flat (n+1) (a8 x)=true:=id rfl
@[simp] def agS(n:Nat)(x:UInt32):flat (n+1) (bO x)=true:=id rfl
@[simp] def aft(n:Nat)(cs:List AV):flat (n+1) (.agg cs)=cs.all (flat n):=id rfl
@[simp] def adi(n:Nat)(cs:List AV):flat (n+1) (.tup cs)=cs.all (flat n):=id rfl
@[simp] def afs(n z:Nat)(es:List AV)(c:Option Nat):flat (n+1) (.fsl z es c)=false:=id rfl
@[simp] def Y9(g:cL):bH g []=[]:=id rfl
@[simp] def Xf(g:cL)(x:AV)(a:List AV):bH g (x :: a)=af g depth x++bH g a:=id rfl
@[simp] def Z7(g:cL)(n:Nat)(x:Value):af g n (.v x)=[]:=by cases n<;>rfl
@[simp] def Z8(g:cL)(n:Nat)(x:UInt8):af g n (a8 x)=[]:=by cases n<;>rfl
@[simp] def YZ(g:cL)(n:Nat)(x:UInt32):af g n (bO x)=[]:=by cases n<;>rfl
@[simp] def Wg(g:cL)(n z:Nat)(es:List AV)(c:Option Nat):af g n (.bq z es c)=[]:=by cases n<;>rfl
@[simp] def VX(g:cL)(n z:Nat)(es:List AV)(i j:Nat):af g n (.iptr z es i j)=[]:=by cases n<;>rfl
@[simp] def Wh(g:cL)(n:Nat)(cs:List AV):af g (n+1) (.agg cs)=cs.flatMap (af g n):=id rfl
@[simp] def We(g:cL)(n:Nat)(cs:List AV):af g (n+1) (.tup cs)=cs.flatMap (af g n):=id rfl
@[simp] def Wf(g:cL)(n:Nat)(r:Ref)(o l:Nat)(c:Option Nat):af g (n+1) (.bA r o l c)=[r]:=id rfl
@[simp] def YX(g:cL)(n:Nat)(f:Fn)(a b:List AV):af g (n+1) (.fn f a b)=a.flatMap (af g n)++b.flatMap (af g n):=id rfl
def Y3(o l:Nat)(c:Option Nat)(b:Option aY):Option AV:=match b with
 | some b=>if b.arr=true/\o+l<=b.es.length then some (.bq b.esz ((b.es.drop o).take l) c) else none
 | none=>none
@[simp] def acm(g:cL)(n:Nat)(r:Ref)(o l:Nat)(c:Option Nat):view g (n+1) (.bA r o l c)=Y3 o l c (g r):=id rfl
@[simp] def aaa(o l:Nat)(c:Option Nat)(b:aY):Y3 o l c (some b)=if b.arr=true/\o+l<=b.es.length then some (.bq b.esz ((b.es.drop o).take l) c) else none:=id rfl
def Y0(g:cL)(n i j:Nat)(b:Option aY):Option AV:=match b with
 | some b=>if b.arr then some (.iptr b.esz b.es i j) else (b.es.mapM (view g n)).map λes => .iptr b.esz es i j
 | none=>none
@[simp] def ack(g:cL)(n:Nat)(r:Ref)(i j:Nat):view g (n+1) (.ptr r i j)=Y0 g n i j (g r):=id rfl
@[simp] def Z9(g:cL)(n i j:Nat)(b:aY):Y0 g n i j (some b)=if b.arr then some (.iptr b.esz b.es i j) else (b.es.mapM (view g n)).map λes => .iptr b.esz es i j:=id rfl
@[simp] def afS(g:cL)(n:Nat)(f:Fn)(a b:List AV):view g (n+1) (.fn f a b)=(a.mapM (view g n)).bind λa=>(b.mapM (view g n)).map λb => .fn f a b:=by
 rw[view];cases a.mapM (view g n)<;>cases b.mapM (view g n)<;>rfl
@[simp] def afd(r:Ref)(n:Nat)(x:Value)(bs:List aY):aj r n (.v x) bs=(.v x,bs):=by cases n<;>rfl
@[simp] def afe(r:Ref)(n:Nat)(x:UInt8)(bs:List aY):aj r n (a8 x) bs=(a8 x,bs):=by cases n<;>rfl
@[simp] def adb(r:Ref)(n:Nat)(x:UInt32)(bs:List aY):aj r n (bO x) bs=(bO x,bs):=by cases n<;>rfl
@[simp] def abx(r:Ref)(n z:Nat)(es:List AV)(c:Option Nat)(bs:List aY):aj r n (.bq z es c) bs=(.bq z es c,bs):=by cases n<;>rfl
@[simp] def aby(r:Ref)(n z:Nat)(es:List AV)(c:Option Nat)(bs:List aY)(a:z≠0):aj r (n+1) (.fsl z es c) bs=(.bA { r with k:=bs.length} 0 es.length c,bs++[⟨z,es,true,false⟩]):=by
 simp only[aj,if_neg a]
def tN(r:Ref)(n:Nat):List AV->List AV->List aY->List AV × List aY
 | [],acc,bs=>(acc,bs)
 | c :: cs,acc,bs=>tN r n cs (acc++[(aj r n c bs).1]) (aj r n c bs).2
def GS(r:Ref)(n:Nat)(cs:List AV) : ∀(a:List AV)(bs:List aY),cs.foldl (λ(p:List AV × List aY) c=>let (y,bs):=aj r n c p.2;(p.1++[y],bs)) (a,bs)=tN r n cs a bs:=by
 induction cs with| nil=>intro a bs;rfl| cons c cs b=>intro a bs;rw[rB];exact b _ _
@[simp] def abz(r:Ref)(n:Nat)(cs:List AV)(bs:List aY):aj r (n+1) (.agg cs) bs=(.agg (tN r n cs [] bs).1,(tN r n cs [] bs).2):=by
 rw[<-GS];rfl
@[simp] def abw(r:Ref)(n:Nat)(cs:List AV)(bs:List aY):aj r (n+1) (.tup cs) bs=(.tup (tN r n cs [] bs).1,(tN r n cs [] bs).2):=by
 rw[<-GS];rfl
@[simp] def Zk(r:Ref)(n:Nat)(a:List AV)(bs:List aY):tN r n [] a bs=(a,bs):=id rfl
@[simp] def XU(r:Ref)(n:Nat)(c:AV)(cs a:List AV)(bs:List aY):tN r n (c :: cs) a bs=tN r n cs (a++[(aj r n c bs).1]) (aj r n c bs).2:=id rfl
@[simp] def V4(H:aa):b9 H []=H:=id rfl
def P4(H:aa)(r:Ref)(b:Option aY):aa:=match b with
 | some b=>H.put r (some { b with gB:=true})
 | none=>H
@[simp] def U7(H:aa)(r:Ref)(rs:List Ref):b9 H (r :: rs)=b9 (P4 H r (H.get r)) rs:=by
 show(match H.get r with | some b=>b9 (H.put r (some { b with gB:=true})) rs | none=>b9 H rs)=_;cases H.get r<;>rfl
@[simp] def X0(H:aa)(r:Ref)(b:aY):P4 H r (some b)=H.put r (some { b with gB:=true}):=id rfl
def P6(l:Nat)(c:Option Nat)(b:Option aY):Option AV:=match b with
 | some b=>if b.arr=true/\l<=b.es.length then some (if b.gB then .bq b.esz (b.es.take l) c else .fsl b.esz (b.es.take l) c) else none
 | none=>none
@[simp] def abK(g:cL)(n:Nat)(r:Ref)(l:Nat)(c:Option Nat):bJ g (n+1) (.bA r 0 l c)=P6 l c (g r):=id rfl
@[simp] def Yg(l:Nat)(c:Option Nat)(b:aY):P6 l c (some b)=if b.arr=true/\l<=b.es.length then some (if b.gB then .bq b.esz (b.es.take l) c else .fsl b.esz (b.es.take l) c) else none:=id rfl
@[simp] def afu(g:cL)(n:Nat)(x:Value):bJ g (n+1) (.v x)=some (.v x):=id rfl
@[simp] def afv(g:cL)(n:Nat)(x:UInt8):bJ g (n+1) (a8 x)=some (a8 x):=id rfl
@[simp] def adj(g:cL)(n:Nat)(x:UInt32):bJ g (n+1) (bO x)=some (bO x):=id rfl
@[simp] def abL(g:cL)(n:Nat)(cs:List AV):bJ g (n+1) (.agg cs)=(cs.mapM (bJ g n)).map .agg:=id rfl
@[simp] def abJ(g:cL)(n:Nat)(cs:List AV):bJ g (n+1) (.tup cs)=(cs.mapM (bJ g n)).map .tup:=id rfl
def Sl.idx{z:Nat}{es:List AV}{x:AV}(h:Sl z es x){P:Program}{t:TypeId}(a:(cu P t).bind (aH P)=some z)(g:cL)(b:IntKind)(k:Int) :
 bK P g t (some x) (some (.v (.int b k)))=if 0<=k/\k<es.length then some (.iptr z es k.toNat 0,[]) else none:=by
 rcases h with ⟨rfl,rfl⟩ | ⟨c,rfl,_⟩
 ·obtain⟨e,he,d⟩:=Mh a;rw[if_neg (by simp)];simp[bK,tC,he]
 exact Gz a g es c b k
def Sl.exp{z:Nat}{es:List AV}{x:AV}(h:Sl z es x)(g:cL)(n:Nat):bJ g (n+1) x=some x:=by
 rcases h with ⟨rfl,rfl⟩ | ⟨c,rfl,_⟩<;>rfl
def Sl.imp'{z:Nat}{es:List AV}{x:AV}(h:Sl z es x)(r:Ref)(n:Nat)(bs:List aY):aj r n x bs=(x,bs):=by
 rcases h with ⟨rfl,rfl⟩ | ⟨c,rfl,_⟩<;>cases n<;>rfl
def Sl.r{z:Nat}{es:List AV}{x:AV}(h:Sl z es x):sT x=some es.length/\(∀g n,Ab.view g (n+1) x=some x)/\(∀g n,af g n x=[])/\x.cells=[x]/\x.one=true/\(∀g n,bJ g (n+1) x=some x)/\(∀r n bs,aj r n x bs=(x,bs)):=
 ⟨h.len,h.view,h.refs,h.cells.1,h.cells.2,h.exp,h.imp'⟩
@[simp] def VO(z:Nat)(es es':List AV)(c:Option Nat):Sl z es (.bq z es' c)↔es=es'/\es.length<=c.getD es.length:=by
 constructor
 ·rintro(⟨e,_⟩ | ⟨c',e,h⟩);·cases e
  cases e;exact⟨rfl,h⟩
 rintro⟨rfl,h⟩;exact .inr ⟨c,rfl,h⟩
def VF{P:Program}{t t' z by':Nat}(i:RU P t z by'=true)(a:EA P t'=true)(s:Bool)(H:aa)(r:Ref){new:List AV}{x:AV}(f:Sp H.get z new x)(u:new≠[])(l:new.length * by'<=aG) :
 dm P s H r (some t) (some t') aO x=some (.bA r 0 new.length none,({ r with k:=0},some ⟨z,new,true,false⟩) :: H):=by
 obtain⟨e,zz,g,q,j,p,m,y,o,n⟩:=fB i;have b:=f.md i g;unfold EA at a;simp only[bt,gz]at a;have c:(P.underlying t').isNone=false:=by cases h:P.underlying t' with | none=>rw[h]at a;simp at a | some d=>rfl
 have v : ¬((P.underlying t').isNone=true\/isInt P t'≠isNum x):=by
  rw[c,a.2,f.num];simp
 have hd : ¬(z≠z\/z=0\/by'=0\/zz.cells.length≠z):=by simp[m,o,n]
 simp only[dm,ei,dX,g,Option.map_some,cb,if_neg v,q,j,p,b,if_neg hd,if_neg u,if_pos l];rfl
def MF{P:Program}{t t' z by':Nat}(y:RU P t z by'=true)(b:EA P t'=true)(H:aa)(r q:Ref)(n:Nat){new es:List AV}{x:AV}(l:Sp H.get z new x){fz:Bool}(v:H.get q=some ⟨z,es,true,fz⟩)(F:n=es.length)(c:new≠[])(E:(es.length+new.length) * by'<=aG) :
 dm P true H r (some t) (some t') (.bA q 0 n none) x=some (.bA ⟨q.d,q.t,H.gen q.d q.t,0⟩ 0 (es.length+new.length) none,(⟨q.d,q.t,H.gen q.d q.t,0⟩,some ⟨z,es++new,true,fz⟩) :: H.put q none):=by
 subst F;obtain⟨e,zz,i,u,k,s,m,G,p,o⟩:=fB y;have a:=l.md y i;unfold EA at b;simp only[bt,gz]at b;have g:(P.underlying t').isNone=false:=by cases h:P.underlying t' with | none=>rw[h]at b;simp at b | some d=>rfl
 have D : ¬((P.underlying t').isNone=true\/isInt P t'≠isNum x):=by
  rw[g,b.2,l.num];simp
 have hd : ¬(z≠z\/z=0\/by'=0\/zz.cells.length≠z):=by simp[m,p,o]
 have f : ¬(z≠z\/z=0\/by'=0\/new=[]\/zz.cells.length≠z):=by simp[m,p,o,c]
 have j:ei P H.get r (some t) (some t') (.bA q 0 es.length none) x=none:=by
  simp only[ei,dX,i,Option.map_some,cb,if_neg D,u,k,s,a,if_neg hd,v,if_neg c];simp
 simp only[dm,j,DH,GH];simp only[jU,dX,i,Option.map_some,cb,if_neg D,u,k,s,a,if_neg f,v,E,and_self,if_true,iQt]
def jm(P:Program)(t:TypeId):Nat:=((cu P t).bind (aH P)).getD 0
def nK(P:Program)(t:TypeId):Nat:=((cu P t).bind (gX P)).getD 0
def eM(P:Program)(t:TypeId):AV:=((cu P t).bind (eP P)).getD AV.undef
def oc(P:Program)(t:TypeId):Bool:=RU P t (jm P t) (nK P t)
def Vf(z:Nat)(o:Option (Nat × List AV)):Option (List AV):=match o with
 | some (a,es)=>if a=z then some es else none
 | none=>none
def jM(z:Nat)(g:cL)(x:AV):Option (List AV):=match x with
 | .v (.slice none 0 0)=>some []
 | .v (.int _ _)=>none
 | x=>Vf z (cy g x)
@[simp] def adm(z:Nat)(g:cL):jM z g aO=some []:=id rfl
@[simp] def adn(z:Nat)(g:cL)(a:Nat)(es:List AV)(c:Option Nat):jM z g (.bq a es c)=if a=z then some es else none:=id rfl
def abO(z o n:Nat)(b:Option aY):Option (List AV):=match b with
 | some b=>if (b.arr=true/\o+n<=b.es.length)/\b.esz=z then some ((b.es.drop o).take n) else none
 | none=>none
@[simp] def ado(z o n:Nat)(b:aY):abO z o n (some b)=if (b.arr=true/\o+n<=b.es.length)/\b.esz=z then some ((b.es.drop o).take n) else none:=id rfl
@[simp] def adl(z:Nat)(g:cL)(r:Ref)(o n:Nat)(c:Option Nat):jM z g (.bA r o n c)=abO z o n (g r):=by
 unfold jM abO;simp only[cy];cases g r with
 | none=>rfl
 | some b=>
  dsimp only;by_cases h:b.arr=true/\o+n<=b.es.length
  ·by_cases a:b.esz=z;·rw[if_pos h,if_pos ⟨h,a⟩];simp[Vf,a]
   rw[if_pos h,if_neg (λe=>a e.2)];simp[Vf,a]
  rw[if_neg h,if_neg (λe=>h e.1)];rfl
def Sl.jM{z:Nat}{es:List AV}{x:AV}(h:Sl z es x)(g:cL):Ab.jM z g x=some es:=by
 rcases h with ⟨rfl,rfl⟩ | ⟨c,rfl,_⟩<;>simp
def tW{z:Nat}{g:cL}{x:AV}{new:List AV}(h:jM z g x=some new):Sp g z new x:=by
 unfold jM at h;split at h;·cases h;exact .inl ⟨rfl,rfl⟩
 ·cases h
 rename_i c a;unfold Vf at h;split at h
 ·rename_i f es b;split at h
  ·rename_i d;cases h;subst d;refine .inr ⟨?_,λe=>?_,b⟩
   ·cases x with
    | v u=>cases u with
     | int k n=>exact(a _ _ rfl).elim
     | _=>rfl
    | _=>rfl
   exact c e
  cases h
 cases h
def CU(z by':Nat)(H:aa)(r:Ref)(new:Option (List AV)):cJ:=match new with
 | some new=>if new=[] then some (aO,H) else if new.length * by'<=aG then some (.bA r 0 new.length none,({ r with k:=0},some ⟨z,new,true,false⟩) :: H) else none
 | none=>none
@[simp] def Se(z by':Nat)(H:aa)(r:Ref)(new:List AV):CU z by' H r (some new)=if new=[] then some (aO,H) else if new.length * by'<=aG then some (.bA r 0 new.length none,({ r with k:=0},some ⟨z,new,true,false⟩) :: H) else none:=id rfl
@[simp] def O0{P:Program}{t t':TypeId}(j:oc P t=true)(c:EA P t'=true)(v:Bool)(H:aa)(r:Ref)(x:AV)(f:(jM (jm P t) H.get x).isSome=true) :
 dm P v H r (some t) (some t') aO x=CU (jm P t) (nK P t) H r (jM (jm P t) H.get x):=by
 obtain⟨new,z⟩:=ib.1 f;rw[z,Se];have f:=tW z;unfold oc at j;by_cases b:new=[]
 ·rw[if_pos b];subst b;obtain⟨e,zz,i,p,k,o,l,D,n,m⟩:=fB j;have a:=f.md j i;unfold EA at c;simp only[bt,gz]at c;have g:(P.underlying t').isNone=false:=by cases h:P.underlying t' with | none=>rw[h]at c;simp at c | some d=>rfl
  have q : ¬((P.underlying t').isNone=true\/isInt P t'≠isNum x):=by rw[g,c.2,f.num];simp
  have hd : ¬(jm P t≠jm P t\/jm P t=0\/nK P t=0\/zz.cells.length≠jm P t):=(by simp[l,n,m]);simp only[dm,ei,dX,i,Option.map_some,cb,if_neg q,p,k,o,a,if_neg hd,if_true];rfl
 rw[if_neg b];split;·rename_i s;exact VF j c v H r f b s
 rename_i s;obtain⟨e,zz,i,p,k,o,l,D,n,m⟩:=fB j;have a:=f.md j i;unfold EA at c;simp only[bt,gz]at c;have g:(P.underlying t').isNone=false:=by cases h:P.underlying t' with | none=>rw[h]at c;simp at c | some d=>rfl
 have q : ¬((P.underlying t').isNone=true\/isInt P t'≠isNum x):=by rw[g,c.2,f.num];simp
 have hd : ¬(jm P t≠jm P t\/jm P t=0\/nK P t=0\/zz.cells.length≠jm P t):=(by simp[l,n,m]);have u : ¬(jm P t≠jm P t\/jm P t=0\/nK P t=0\/new=[]\/zz.cells.length≠jm P t):=(by simp[l,n,m,b]);have y:ei P H.get r (some t) (some t') aO x=none:=(by simp only[ei,dX,i,Option.map_some,cb,if_neg q,p,k,o,a,if_neg hd,if_neg b,if_neg s]);simp only[dm,y,DH];cases v;·rfl
 simp only[GH,jU,dX,i,Option.map_some,cb,if_neg q,p,k,o,a,if_neg u]
def bsG(a:Bool)(z:Nat)(zz:AV)(H:aa)(r:Ref)(n:Nat)(ps:List (Nat × AV)):cJ:=match gN (List.replicate n zz) ps with
 | some es=>if a then some (.bq z es (some n),H) else some (.bA r 0 n (some n),({ r with k:=0},some ⟨z,es,true,false⟩) :: H)
 | none=>none
@[simp] def ahb{P:Program}{t:TypeId}(f:oc P t=true)(a l:Bool)(H:aa)(r:Ref)(n:Nat)(ps:List (Nat × AV))(g:n * jm P t<=16777216)(i:cZ H.get ps=some ps)(d:bH H.get (ps.map (·.2))=[])
 (m:ps.all (λp=>p.2.cells.length == jm P t&&p.2.cells.all AV.one)=true) (b:(gN (List.replicate n (eM P t)) ps).isSome=true) :
 lH P a l H r t n (some ps)=bsG a (jm P t) (eM P t) H r n ps:=by
 obtain⟨es,b⟩:=ib.1 b;unfold oc at f;obtain⟨e,zz,k,x,o,j,q,v,u,s⟩:=fB f;have h:(cu P t).bind (eP P)=some zz:=by rw[k];exact j
 have c:eM P t=zz:=by unfold eM;rw[h];rfl
 rw[c]at b ⊢;rw[Vr f g i d m h b];unfold bsG;rw[b]
@[simp] def V5(es:List AV):gN es []=some es:=id rfl
@[simp] def U9(es:List AV)(i:Nat)(v:AV)(ps:List (Nat × AV)):gN es ((i,v) :: ps)=if i<es.length then gN (es.set i v) ps else none:=id rfl
@[simp] def afG(a:Bool)(z:Nat)(zz:AV)(H:aa)(r:Ref)(n:Nat)(ps:List (Nat × AV)):bsG a z zz H r n ps=(gN (List.replicate n zz) ps).bind λes=>if a then some (.bq z es (some n),H) else some (.bA r 0 n (some n),({ r with k:=0},some ⟨z,es,true,false⟩) :: H):=by
 unfold bsG;cases gN (List.replicate n zz) ps<;>rfl
@[simp] def VY(g:cL):cZ g []=some []:=id rfl
@[simp] def SW(g:cL)(i:Nat)(x:AV)(ps:List (Nat × AV)):cZ g ((i,x) :: ps)=(view g depth x).bind λy=>(cZ g ps).map ((i,y) :: ·):=by
 unfold cZ;rw[Ek];dsimp only;cases view g depth x<;>rfl
def abA(z o n:Nat)(k:Int)(r:Ref)(b:Option aY):jl:=match b with
 | some b=>if 0<=k/\k<n/\z=b.esz then some (.ptr r (o+k.toNat) 0,[]) else none
 | none=>none
@[simp] def ade(z o n:Nat)(k:Int)(r:Ref)(b:aY):abA z o n k r (some b)=if 0<=k/\k<n/\z=b.esz then some (.ptr r (o+k.toNat) 0,[]) else none:=id rfl
@[simp] def Su{P:Program}{t:TypeId}(h:oc P t=true)(g:cL)(r:Ref)(o n:Nat)(c:Option Nat)(b:IntKind)(k:Int) :
 bK P g t (some (.bA r o n c)) (some (.v (.int b k)))=abA (jm P t) o n k r (g r):=by
 unfold oc at h;obtain⟨e,zz,d,a,f,m,i,p,l,j⟩:=fB h;simp only[bK,dX,tC,d,a];cases g r<;>rfl
def Nt(H:aa)(r:Ref)(o:Option aY)(n i j:Nat)(x:AV):cJ:=match o with
 | some ⟨z,es,true,false⟩=>if x.cells.length=n/\x.cells.all AV.one=true then (gr es i j x.cells).map λes=>(AV.undef,H.put r (some ⟨z,es,true,false⟩)) else none
 | some ⟨z,es,false,false⟩=>if x.cells.length=n/\x.cells.all AV.one=true then (gr es i j x.cells).map λes=>(AV.undef,H.put r (some ⟨z,es,false,false⟩)) else none
 | _=>none
@[simp] def Ga(H:aa)(r:Ref)(z:Nat)(es:List AV)(n i j:Nat)(x:AV):Nt H r (some ⟨z,es,true,false⟩) n i j x=if x.cells.length=n/\x.cells.all AV.one=true then (gr es i j x.cells).map λes=>(AV.undef,H.put r (some ⟨z,es,true,false⟩)) else none:=id rfl
@[simp] def aan(H:aa)(r:Ref)(z:Nat)(es:List AV)(n i j:Nat)(x:AV):Nt H r (some ⟨z,es,false,false⟩) n i j x=if x.cells.length=n/\x.cells.all AV.one=true then (gr es i j x.cells).map λes=>(AV.undef,H.put r (some ⟨z,es,false,false⟩)) else none:=id rfl
def Nv(H:aa)(o:Option aY)(x:AV):Prop:=match o with
 | some ⟨_,_,false,false⟩=>True
 | some ⟨_,_,true,false⟩=>view H.get depth x=some x/\af H.get depth x=[]
 | _=>False
@[simp] def aap(H:aa)(z:Nat)(es:List AV)(x:AV):Nv H (some ⟨z,es,false,false⟩) x=True:=id rfl
@[simp] def aaq(H:aa)(z:Nat)(es:List AV)(x:AV):Nv H (some ⟨z,es,true,false⟩) x=(view H.get depth x=some x/\af H.get depth x=[]):=id rfl
def gE{P:Program}{t:TypeId}(d:(aH P t).isSome=true)(H:aa)(r:Ref)(i j:Nat)(x:AV)(c:Nv H (H.get r) x) :
 iV P H t (some (.ptr r i j)) (some x)=Nt H r (H.get r) ((aH P t).getD 0) i j x:=by
 obtain⟨n,d⟩:=ib.1 d;simp only[iV,d,cb];cases e:H.get r with
 | none=>rw[e]at c;exact c.elim
 | some b=>
  rw[e]at c;obtain⟨z,es,arr,gB⟩:=b;cases gB with
  | true=>cases arr<;>exact c.elim
  | false=>
   cases arr with| false=>simp only[iQs,gj,iQh];rfl| true=>
    obtain⟨f,g⟩:=c;simp only[iQs,if_true,f,g,BS,iQh,b9];by_cases a:x.cells.length=n/\x.cells.all AV.one=true;·rw[if_pos a,Ga,if_pos a,if_pos a.2]
    rw[if_neg a,Ga,if_neg a]
@[simp] def HB(cs:List AV)(j:Nat)(new:List AV):nn (.agg cs) j new=if j+new.length<=cs.length then some (.agg (patch cs j new)) else none:=id rfl
@[simp] def YR(x:UInt8)(y:AV):nn (a8 x) 0 [y]=some y:=id rfl
@[simp] def aaQ(f:Fn)(a b:List AV):yL f (some a) (some b)=some (.fn f a b,[]):=id rfl
attribute [simp] gE
@[simp] def abI(a:Nat->Option (Nat × Nat))(cells:List AV):uK a cells []=some cells:=id rfl
def ZN(a:Nat->Option (Nat × Nat))(cells:List AV)(v:AV)(rest:List (Nat × AV))(p:Option (Nat × Nat)):Option (List AV):=match p with
 | none=>none
 | some (off,size)=>if v.cells.length=size/\off+size<=cells.length then uK a (patch cells off v.cells) rest else none
@[simp] def ZO(a:Nat->Option (Nat × Nat))(cells:List AV)(i:Nat)(v:AV)(rest:List (Nat × AV)):uK a cells ((i,v) :: rest)=ZN a cells v rest (a i):=id rfl
@[simp] def abH(b:Nat->Option (Nat × Nat))(cells:List AV)(v:AV)(rest:List (Nat × AV))(c a:Nat):ZN b cells v rest (some (c,a))=if v.cells.length=a/\c+a<=cells.length then uK b (patch cells c v.cells) rest else none:=id rfl
@[simp] def Zc(P:Program){g:cL}{r:Ref}{src dst:TypeId}{k':IntKind}(a:(P.underlying src).isNone=false)(hd:intKind P dst=some .u64)(n:Int)(b:0<=n)(c:n<=4294967296) :
 bX P g r src dst (some (.v (.int k' n)))=some (.v (.int .u64 n),[]):=by
 rw[oq P .u64 a hd,IntKind.wrap_u64,MV b (by omega)]
@[simp] def aeG(r':Ref)(a:Option aY)(H:aa)(r:Ref)(b:Option aY):aa.put ((r',a) :: H) r b=if r'=r then (r,b) :: H else (r',a) :: aa.put H r b:=id rfl
def ace(z:Nat)(es:List AV)(y:AV):Prop:=(y=aO/\es=[])\/y = .fsl z es none\/(y = .fsl z [] (some 0)/\es=[])
def XV(r:Ref)(y:AV)(k:Nat):AV:=match y with
 | .fsl _ es c => .bA { r with k:=k} 0 es.length c
 | y=>y
def XY(y:AV):List aY:=match y with
 | .fsl z es _=>[⟨z,es,true,false⟩]
 | _=>[]
def ace.imp{z:Nat}{es:List AV}{y:AV}(h:ace z es y)(a:z≠0)(r:Ref)(n:Nat)(bs:List aY):aj r (n+1) y bs=(XV r y bs.length,bs++XY y):=by
 rcases h with ⟨rfl,rfl⟩ | rfl | ⟨rfl,rfl⟩
 ·simp[XV,XY]
 ·simp[XV,XY,a]
 simp[XV,XY,a]
def Ez{P:Program}{t t':TypeId}(j:oc P t=true)(c:EA P t'=true)(E:Bool)(H:aa)(r q:Ref)(n k:Nat)(x:AV){es new:List AV}{fz:Bool}(s:H.get q=some ⟨jm P t,es,true,fz⟩)(f:jM (jm P t) H.get x=some new)(F:n=es.length)(l:new=[]\/((es.length+new.length) * nK P t<=aG/\k<es.length+new.length)) :
 dm P E H r (some t) (some t') (.bA q 0 n (some k)) x=if new=[] then some (.bA q 0 n (some k),H) else some (.bA r 0 (es.length+new.length) none,({ r with k:=0},some ⟨jm P t,es++new,true,false⟩) :: H):=by
 subst F;have f:=tW f;unfold oc at j;obtain⟨e,zz,i,p,m,o,y,G,D,z⟩:=fB j;have a:=f.md j i;unfold EA at c;simp only[bt,gz]at c;have g:(P.underlying t').isNone=false:=by cases h:P.underlying t' with | none=>rw[h]at c;simp at c | some d=>rfl
 have u : ¬((P.underlying t').isNone=true\/isInt P t'≠isNum x):=by rw[g,c.2,f.num];simp
 have hd : ¬(jm P t≠jm P t\/jm P t=0\/nK P t=0\/zz.cells.length≠jm P t):=by simp[y,D,z]
 by_cases b:new=[];·subst b;simp only[dm,ei,dX,i,Option.map_some,cb,if_neg u,p,m,o,a,if_neg hd,s,if_true];simp
 obtain⟨v,l⟩:=l.resolve_left b;simp only[dm,ei,dX,i,Option.map_some,cb,if_neg u,p,m,o,a,if_neg hd,s,if_neg b];simp only[ne_eq,not_true_eq_false,Bool.true_eq_false,or_self,iQh,ue,bg,l,v,and_self,if_true,C8,BT];rfl
def kP(z by' n:Nat)(d:Bool)(c:Option Nat)(b:Option aY)(new:Option (List AV)):Prop:=match b,new with
 | some ⟨a,es,true,_⟩,some new=>a=z/\n=es.length/\(new=[]\/((es.length+new.length) * by'<=aG/\match c with | none=>d=true | some k=>k<es.length+new.length))
 | _,_=>False
def ar(z by' n:Nat)(b:Bool)(a:Nat)(es new:List AV)(fz:Bool):kP z by' n b none (some ⟨a,es,true,fz⟩) (some new)=(a=z/\n=es.length/\(new=[]\/((es.length+new.length) * by'<=aG/\b=true))):=id rfl
def ax(z by' n:Nat)(b:Bool)(k a:Nat)(es new:List AV)(fz:Bool):kP z by' n b (some k) (some ⟨a,es,true,fz⟩) (some new)=(a=z/\n=es.length/\(new=[]\/((es.length+new.length) * by'<=aG/\k<es.length+new.length))):=id rfl
def wa(z:Nat)(H:aa)(q r:Ref)(n:Nat)(c:Option Nat)(b:Option aY)(new:Option (List AV)):cJ:=match b,new with
 | some b,some []=>some (.bA q 0 n c,H)
 | some b,some new=>match c with
  | none=>some (.bA ⟨q.d,q.t,H.gen q.d q.t,0⟩ 0 (b.es.length+new.length) none,(⟨q.d,q.t,H.gen q.d q.t,0⟩,some ⟨z,b.es++new,true,b.gB⟩) :: H.put q none)
  | some _=>some (.bA r 0 (b.es.length+new.length) none,({ r with k:=0},some ⟨z,b.es++new,true,false⟩) :: H)
 | _,_=>none
@[simp] def VI(z:Nat)(H:aa)(q r:Ref)(n:Nat)(c:Option Nat)(b:aY):wa z H q r n c (some b) (some [])=some (.bA q 0 n c,H):=id rfl
def bo(z:Nat)(H:aa)(q r:Ref)(n:Nat)(b:aY)(new:List AV)(a:new≠[]):wa z H q r n none (some b) (some new)=some (.bA ⟨q.d,q.t,H.gen q.d q.t,0⟩ 0 (b.es.length+new.length) none,(⟨q.d,q.t,H.gen q.d q.t,0⟩,some ⟨z,b.es++new,true,b.gB⟩) :: H.put q none):=by
 cases new with| nil=>exact(a rfl).elim| cons _ _=>rfl
def bn(z:Nat)(H:aa)(q r:Ref)(n k:Nat)(b:aY)(new:List AV)(a:new≠[]):wa z H q r n (some k) (some b) (some new)=some (.bA r 0 (b.es.length+new.length) none,({ r with k:=0},some ⟨z,b.es++new,true,false⟩) :: H):=by
 cases new with| nil=>exact(a rfl).elim| cons _ _=>rfl
def aE{P:Program}{t t':TypeId}(m:oc P t=true)(g:EA P t'=true)(s:Bool)(H:aa)(r q:Ref)(n:Nat)(c:Option Nat)(x:AV)(a:kP (jm P t) (nK P t) n s c (H.get q) (jM (jm P t) H.get x)) :
 dm P s H r (some t) (some t') (.bA q 0 n c) x=wa (jm P t) H q r n c (H.get q) (jM (jm P t) H.get x):=by
 cases i:H.get q with| none=>rw[i]at a;exact a.elim| some b=>
  obtain⟨J,es,arr,fz⟩:=b;cases j:jM (jm P t) H.get x with
  | none=>rw[i,j]at a;cases arr<;>exact a.elim
  | some new=>
   rw[i,j]at a;cases arr with
   | false=>exact a.elim
   | true=>
    obtain⟨rfl,rfl,a⟩:=a;cases c with
    | none=>
     by_cases f:new=[]
     ·subst f;rw[VI];have l:=tW j;unfold oc at m;obtain⟨e,zz,u,G,v,F,z,K,E,D⟩:=fB m;have o:=l.md m u;unfold EA at g;simp only[bt,gz]at g;have p:(P.underlying t').isNone=false:=by cases h:P.underlying t' with | none=>rw[h]at g;simp at g | some d=>rfl
      have I : ¬((P.underlying t').isNone=true\/isInt P t'≠isNum x):=by rw[p,g.2,l.num];simp
      have hd : ¬(jm P t≠jm P t\/jm P t=0\/nK P t=0\/zz.cells.length≠jm P t):=(by simp[z,E,D]);simp only[dm,ei,dX,u,Option.map_some,cb,if_neg I,G,v,F,o,if_neg hd,i,if_true];simp
     obtain⟨y,rfl⟩:=a.resolve_left f;rw[bo _ _ _ _ _ _ _ f];exact MF (by exact m) g H r q _ (tW j) i rfl f y
    | some k=>
     rw[Ez m g s H r q _ k x i j rfl a];split;·rename_i f;subst f;rfl
     rename_i f;rw[bn _ _ _ _ _ _ _ _ f]
def Sl.aeO{z:Nat}{es:List AV}{x:AV}(h:Sl z es x):x=aO/\es=[] \/∃c,x = .bq z es c:=by
 rcases h with h | ⟨c,h,_⟩
 ·exact .inl h
 exact .inr ⟨c,h⟩
@[simp] def Xr(P:Program)(t:TypeId)(a d:Operand)(h:(cu P t).isSome=true)(z:Nat)(es:List AV)(c:Option Nat):bN P .eql t a d (some (.bq z es c)) (some aO)=some (aB false,[]):=by
 unfold cu at h;split at h;·rename_i e b;simp[bN,EN,jJ,b]
 cases h
def afr(b:Option aY):Bool:=match b with | some b=>b.gB | none=>false
@[simp] def adh(b:aY):afr (some b)=b.gB:=id rfl
@[simp] def aca(g:cL):m0 g []=true:=id rfl
@[simp] def ZW(g:cL)(r:Ref)(rs:List Ref):m0 g (r :: rs)=(afr (g r)&&m0 g rs):=id rfl
def ao(H:aa)(r:Ref)(refs:List Ref)(y:AV)(b:flat depth y=false)(a:m0 H.get refs=false):rJ true H r refs (some y)=some ((aj r depth y []).1,keyed r 0 (aj r depth y []).2 (b9 H refs)):=by
 simp only[rJ,b,a,zb,gj,iQh,if_true]
def qi(z:Nat):List AV->AV
 | []=>aO
 | es => .fsl z es none
@[simp] def GG(z:Nat):qi z []=aO:=id rfl
def tL(z:Nat){es:List AV}(h:es≠[]):qi z es = .fsl z es none:=by
 cases es with| nil=>exact(h rfl).elim| cons _ _=>rfl
def nm(z:Nat)(es:List AV)(H:aa)(x y:AV):Prop:=(x=y/\Sl z es y) \/∃r c fz,x = .bA r 0 es.length c/\H.get r=some ⟨z,es,true,fz⟩/\y = .bq z es c/\es.length<=c.getD es.length
def nm.sl{z:Nat}{es:List AV}{H:aa}{x y:AV}(h:nm z es H x y):Sl z es y:=by
 rcases h with ⟨_,h⟩ | ⟨r,c,fz,_,_,rfl,h⟩
 ·exact h
 exact .inr ⟨c,rfl,h⟩
def nm.view{z:Nat}{es:List AV}{H:aa}{x y:AV}(h:nm z es H x y)(n:Nat):Ab.view H.get (n+1) x=some y:=by
 rcases h with ⟨rfl,h⟩ | ⟨r,c,fz,rfl,a,rfl,_⟩
 ·exact h.view _ _
 rw[Qu a rfl]
def nm.len{z:Nat}{es:List AV}{H:aa}{x y:AV}(h:nm z es H x y):sT x=some es.length:=by
 rcases h with ⟨rfl,h⟩ | ⟨r,c,fz,rfl,a,rfl,_⟩
 ·exact h.len
 rfl
def nm.cells{z:Nat}{es:List AV}{H:aa}{x y:AV}(h:nm z es H x y):x.cells=[x]/\x.one=true:=by
 rcases h with ⟨rfl,h⟩ | ⟨r,c,fz,rfl,a,rfl,_⟩
 ·exact h.cells
 exact⟨rfl,rfl⟩
def nm.put{z:Nat}{es:List AV}{H:aa}{x y:AV}(h:nm z es H x y){q:Ref}(a:x.at?≠some q)(b:Option aY):nm z es (H.put q b) x y:=by
 rcases h with h | ⟨r,c,fz,rfl,d,rfl,e⟩
 ·exact .inl h
 refine .inr ⟨r,c,fz,rfl,?_,rfl,e⟩;rw[aa.ab,if_neg (by rintro rfl;exact a rfl),d]
def nm.cons{z:Nat}{es:List AV}{H:aa}{x y:AV}(h:nm z es H x y)(e:Fr H)(d t:Nat)(b:Option aY):nm z es ((⟨d,t,H.gen d t,0⟩,b) :: H) x y:=by
 rcases h with h | ⟨r,c,fz,rfl,a,rfl,f⟩
 ·exact .inl h
 refine .inr ⟨r,c,fz,rfl,?_,rfl,f⟩;rw[aa.bS,if_neg (pq e (by rw[a];rfl) d t 0),a]
def nm.r{z:Nat}{es:List AV}{H:aa}{x y:AV}(h:nm z es H x y):sT x=some es.length/\(∀n,Ab.view H.get (n+1) x=some y)/\x.cells=[x]/\x.one=true:=⟨h.len,h.view,h.cells⟩
def nm.of{z:Nat}{es:List AV}{x:AV}(h:Sl z es x)(H:aa):nm z es H x x := .inl ⟨rfl,h⟩
def Sk(z:Nat)(es:List AV)(H:aa)(x:AV)(r:Ref):Prop:=(x=aO/\es=[]) \/∃c,x = .bA r 0 es.length c/\H.get r=some ⟨z,es,true,false⟩
def Sk.len{z:Nat}{es:List AV}{H:aa}{x:AV}{r:Ref}(h:Sk z es H x r):sT x=some es.length:=by
 rcases h with ⟨rfl,rfl⟩ | ⟨c,rfl,_⟩<;>rfl
def Sk.cells{z:Nat}{es:List AV}{H:aa}{x:AV}{r:Ref}(h:Sk z es H x r):x.cells=[x]/\x.one=true:=by
 rcases h with ⟨rfl,rfl⟩ | ⟨c,rfl,_⟩<;>exact⟨rfl,rfl⟩
def Sk.bA{z:Nat}{es:List AV}{H:aa}{x:AV}{r:Ref}(h:Sk z es H x r){k:Nat}(a:k<es.length) : ∃c,x = .bA r 0 es.length c/\H.get r=some ⟨z,es,true,false⟩:=by
 rcases h with ⟨rfl,rfl⟩ | h
 ·simp at a
 exact h
def fY(a:List Nat)(z:Nat)(es:List AV)(H:aa)(x:AV):Prop:=(x=aO/\es=[]) \/∃t g,t∈a/\x = .bA ⟨0,t,g,0⟩ 0 es.length none/\H.get ⟨0,t,g,0⟩=some ⟨z,es,true,false⟩
@[simp] def adz(a:List Nat)(z:Nat)(es:List AV)(H:aa):fY a z es H aO↔es=[]:=by
 constructor
 ·rintro(⟨_,e⟩ | ⟨t,g,_,e,_⟩);·exact e
  cases e
 rintro rfl;exact .inl ⟨rfl,rfl⟩
@[simp] def ady(b:List Nat)(z:Nat)(es:List AV)(H:aa)(t g n:Nat):fY b z es H (.bA ⟨0,t,g,0⟩ 0 n none)↔t∈b/\n=es.length/\H.get ⟨0,t,g,0⟩=some ⟨z,es,true,false⟩:=by
 constructor
 ·rintro(⟨e,_⟩ | ⟨t',c,a,e,h⟩);·cases e
  cases e;exact⟨a,rfl,h⟩
 rintro⟨a,rfl,h⟩;exact .inr ⟨t,g,a,rfl,h⟩
def nm.live{z:Nat}{es:List AV}{H:aa}{x y:AV}(h:nm z es H x y){r:Ref}(b:x.at?=some r):(H.get r).isSome=true:=by
 rcases h with ⟨rfl,h⟩ | ⟨r',c,fz,rfl,a,rfl,_⟩
 ·rcases h with ⟨rfl,_⟩ | ⟨c,rfl,_⟩<;>cases b
 cases b;rw[a];rfl
def nm.mono{z:Nat}{es:List AV}{H H':aa}{x y:AV}(h:nm z es H x y)(b : ∀r,x.at?=some r->H'.get r=H.get r):nm z es H' x y:=by
 rcases h with h | ⟨r',c,fz,rfl,a,rfl,d⟩
 ·exact .inl h
 exact .inr ⟨r',c,fz,rfl,by rw[b r' rfl,a],rfl,d⟩
def Cr{H:aa}(a:Fr H){q:Ref}(h:(H.get q).isSome=true)(d t k:Nat):((⟨d,t,H.gen d t+1,k⟩:Ref)=q)=False:=
 eq_false λe=>by subst e;rw[a _ _ _ _ (Bi _)]at h;cases h
def Cs{H:aa}(a:Fr H){q:Ref}(h:(H.get q).isSome=true)(d t k:Nat):(q=(⟨d,t,H.gen d t+1,k⟩:Ref))=False:=
 eq_false λe=>by subst e;rw[a _ _ _ _ (Bi _)]at h;cases h
def LV{H:aa}(a:Fr H)(d t k:Nat):H.get ⟨d,t,H.gen d t+1,k⟩=none:=a _ _ _ _ (Bi _)
def MO{H:aa}(c:Fr H){d t g:Nat}(k:Nat)(m:g=H.gen d t\/g+1=H.gen d t)(b:Option aY):Fr ((⟨d,t,g,k⟩,b) :: H):=by
 intro f t' l k' h;rw[aa.n8]at h;rw[aa.bS];by_cases a:d=f/\t=t';·obtain⟨rfl,rfl⟩:=a;rw[if_pos ⟨rfl,rfl⟩]at h;rw[if_neg (by intro e;injection e;omega)];exact c _ _ _ _ (by omega)
 rw[if_neg a]at h;rw[if_neg (by intro e;injection e with j i;exact a ⟨j,i⟩)];exact c _ _ _ _ h
def PV(by':Nat)(es:List AV)(k:Nat)(new:Option (List AV)):Prop:=match new with
 | some new=>new=[]\/(k<es.length+new.length/\(es.length+new.length) * by'<=aG)
 | none=>False
def ae(by':Nat)(es:List AV)(k:Nat)(new:List AV):PV by' es k (some new)=(new=[]\/(k<es.length+new.length/\(es.length+new.length) * by'<=aG)):=id rfl
def abo(z:Nat)(H:aa)(r:Ref)(es:List AV)(k:Nat)(new:Option (List AV)):cJ:=match new with
 | some []=>some (.bq z es (some k),H)
 | some new=>some (.bA r 0 (es.length+new.length) none,({ r with k:=0},some ⟨z,es++new,true,false⟩) :: H)
 | none=>none
@[simp] def UQ(z:Nat)(H:aa)(r:Ref)(es:List AV)(k:Nat):abo z H r es k (some [])=some (.bq z es (some k),H):=id rfl
def aN(z:Nat)(H:aa)(r:Ref)(es:List AV)(k:Nat)(new:List AV)(a:new≠[]):abo z H r es k (some new)=some (.bA r 0 (es.length+new.length) none,({ r with k:=0},some ⟨z,es++new,true,false⟩) :: H):=by
 cases new with| nil=>exact(a rfl).elim| cons _ _=>rfl
def aD{P:Program}{t t':TypeId}(m:oc P t=true)(c:EA P t'=true)(F:Bool)(H:aa)(r:Ref)(z k:Nat)(es:List AV)(x:AV)(D:z=jm P t)(g:PV (nK P t) es k (jM (jm P t) H.get x)) :
 dm P F H r (some t) (some t') (.bq z es (some k)) x=abo z H r es k (jM (jm P t) H.get x):=by
 subst D;cases i:jM (jm P t) H.get x with
 | none=>rw[i]at g;exact g.elim
 | some new=>
  rw[i]at g;have b:=tW i;unfold oc at m;obtain⟨e,zz,l,p,n,o,u,G,y,v⟩:=fB m;have a:=b.md m l;unfold EA at c;simp only[bt,gz]at c;have j:(P.underlying t').isNone=false:=by cases h:P.underlying t' with | none=>rw[h]at c;simp at c | some d=>rfl
  have q : ¬((P.underlying t').isNone=true\/isInt P t'≠isNum x):=by rw[j,c.2,b.num];simp
  have hd : ¬(jm P t≠jm P t\/jm P t=0\/nK P t=0\/zz.cells.length≠jm P t):=(by simp[u,y,v]);by_cases f:new=[];·subst f;rw[UQ];simp only[dm,ei,dX,l,Option.map_some,cb,if_neg q,p,n,o,a,if_neg hd,if_neg (show ¬(jm P t≠jm P t) by simp),if_true];rfl
  obtain⟨E,s⟩:=g.resolve_left f;rw[aN _ _ _ _ _ _ f];simp only[dm,ei,dX,l,Option.map_some,cb,if_neg q,p,n,o,a,if_neg hd,if_neg (show ¬(jm P t≠jm P t) by simp),if_neg f,if_pos (show k<es.length+new.length/\(es.length+new.length) * nK P t<=aG from⟨E,s⟩)];rfl
@[simp] def adf(n:Nat)(h:n<9223372036854775808):IntKind.i64.wrap (no_index (OfNat.ofNat n):Int)=OfNat.ofNat n:=by
 show IntKind.i64.wrap (n:Int)=n;exact iQa _ (by omega)
@[simp] def afJ(len:Nat)(cap:Option Nat)(lo hi:Option Int):bounds len cap lo hi none=if 0<=lo.getD 0/\lo.getD 0<=hi.getD len/\hi.getD len<=len then some ((lo.getD 0).toNat,(hi.getD len).toNat,cap.map (· - (lo.getD 0).toNat)) else none:=id rfl
@[simp] def afI(len:Nat)(cap:Option Nat)(lo:Option Int)(h m:Int):bounds len cap lo (some h) (some m)=if 0<=lo.getD 0/\lo.getD 0<=h/\h<=m/\m<=cap.getD len/\h<=len then some ((lo.getD 0).toNat,h.toNat,some (m.toNat - (lo.getD 0).toNat)) else none:=id rfl
@[simp] def ael(k:Nat):min k IntKind.i64.bits=min k 64:=id rfl
def Za(o:Option AV)(j n:Nat)(a:Bool):Option AV:=match o with
 | none=>none
 | some e=>if a then (if j+n<=e.cells.length/\0<n then some (.agg ((e.cells.drop j).take n)) else none) else e.cells[j]?
@[simp] def aaE(e:AV)(j n:Nat)(a:Bool):Za (some e) j n a=if a then (if j+n<=e.cells.length/\0<n then some (.agg ((e.cells.drop j).take n)) else none) else e.cells[j]?:=id rfl
@[simp] def acG(b a:AV)(es:List AV)(i j n:Nat)(c:Bool):bP (b :: a :: es) i j n c=Za (b :: a :: es)[i]? j n c:=by
 unfold bP;cases(b :: a :: es)[i]?<;>rfl
@[simp] def afN(l:List (AV × AV))(st bs:List AV)(H:aa):qU l st bs H↔(l.all λp=>te p.1 p.2)=true/\st.all (F8 H)=true/\bs.all bsV=true:=Iff.rfl
@[simp] def acD(r:Ref)(i j:Nat)(r':Ref)(a b:Nat):te (.ptr r i j) (.ptr r' a b) = !decide (r=r'):=by
 unfold te;simp[kS]
@[simp] def acE(r:Ref)(i j:Nat)(r':Ref)(o n:Nat)(c:Option Nat):te (.ptr r i j) (.bA r' o n c) = !decide (r=r'):=by
 unfold te;simp[kS]
@[simp] def acF(r:Ref)(i j:Nat)(r':Ref)(o n:Nat)(c:Option Nat):te (.bA r' o n c) (.ptr r i j) = !decide (r'=r):=by
 unfold te;simp[kS]
def SJ(es:List AV)(o:Option AV)(i j:Nat)(new:List AV):Option (List AV):=match o with
 | none=>none
 | some e=>(nn e j new).map λa=>es.set i a
@[simp] def YS(es:List AV)(e:AV)(i j:Nat)(new:List AV):SJ es (some e) i j new=(nn e j new).map λa=>es.set i a:=id rfl
@[simp] def Z1(b a:AV)(es:List AV)(i j:Nat)(new:List AV):gr (b :: a :: es) i j new=SJ (b :: a :: es) (b :: a :: es)[i]? i j new:=by
 unfold gr;cases(b :: a :: es)[i]?<;>rfl
def Ns(o:Option aY):Bool:=match o with
 | some b => !b.arr
 | none=>false
@[simp] def Y5(b:aY):Ns (some b) = !b.arr:=id rfl
@[simp] def aej(H:aa)(r:Ref)(i j:Nat):F8 H (.ptr r i j)=Ns (H.get r):=by
 cases h:H.get r<;>simp[F8,Ns,h]
@[simp] def ahV(r:Ref)(o n:Nat)(c:Option Nat):bsV (.bA r o n c)=true:=id rfl
def be:Nat->Int->List UInt8
 | 0,_=>[]
 | k+1,n=>be k (n / 256)++[u8 n]
def Au(a:Int)(l:List UInt8):Int:=l.foldl (λa b=>256 * a+(b.toNat:Int)) a
def val(l:List UInt8):Int:=Au 0 l
@[simp] def DV(k:Nat) : ∀n,(be k n).length=k:=by
 induction k with| zero=>intro n;rfl| succ k a=>intro n;simp[be,a]
@[simp] def ahf(n:Int):be 0 n=[]:=id rfl
def Qw(a:Int)(l:List UInt8)(b:UInt8):Au a (l++[b])=256 * Au a l+b.toNat:=by
 unfold Au;rw[List.foldl_append];rfl
def FZ(l:List UInt8)(b:UInt8):val (l++[b])=256 * val l+b.toNat:=Qw 0 l b
@[simp] def afV:val []=0:=id rfl
def Bu(n:Int):((u8 n).toNat:Int)=n % 256:=by rw[pJ];omega
def Wi(k:Nat) : ∀n:Int,0<=n->n<256 ^ k->val (be k n)=n:=by
 induction k with
 | zero=>
  intro n b a;simp only[Int.pow_zero]at a;have:n=0:=by omega
  subst this;rfl
 | succ k c=>intro n b a;rw[be,FZ,c (n / 256) (by omega) (by rw[Bj]at a;omega),Bu];omega
def Bt{k:Nat}{n:Int}(a:0<=n)(b:n<256 ^ k):val (be k n)=n:=Wi k n a b
def wX(l:List UInt8):0<=val l/\val l<256 ^ l.length:=by
 induction h:l.length generalizing l with| zero=>have:l=[]:=sK.1 h;subst this;simp| succ k c=>
  have a:l≠[]:=by rintro rfl;simp at h
  rw[<-SF a];generalize l.getLast a=b;have hd:l.dropLast.length=k:=by simp[h]
  have d:=c l.dropLast hd;rw[FZ,Bj];have:=b.toNat_lt;omega
def ab1(l:List UInt8):be l.length (val l)=l:=by
 induction h:l.length generalizing l with| zero=>have:l=[]:=sK.1 h;subst this;rfl| succ k f=>
  have a:l≠[]:=by rintro rfl;simp at h
  have hd:l.dropLast.length=k:=(by simp[h]);have c:=SF a;generalize l.getLast a=b at c;have e:=f l.dropLast hd;rw[<-c,FZ,be];have i:=b.toNat_lt;have g:(256 * val l.dropLast+(b.toNat:Int)) / 256=val l.dropLast:=by omega
  have d:u8 (256 * val l.dropLast+(b.toNat:Int))=b:=(by apply yC.1;rw[pJ];omega);rw[g,d,e]
def E8{l:List UInt8}{k:Nat}(h:l.length=k):be k (val l)=l:=by subst h;exact ab1 l
def Km(k:Nat) : ∀n:Int,be (k+1) n=u8 (n / 256 ^ k) :: be k n:=by
 induction k with| zero=>intro n;simp[be]| succ k a=>intro n;rw[be,a,be];rw[Int.ediv_ediv_of_nonneg (by omega),Bj,Int.mul_comm (256 ^ k)];simp
def orI(a b:Int):Int:=IntKind.i64.wrap ((BitVec.ofInt 64 a ||| BitVec.ofInt 64 b).toNat:Int)
@[simp] def agD(P:Program)(t:TypeId)(c d:Operand)(a b:Int):bN P .or t c d (some (.v (.int .i64 a))) (some (.v (.int .i64 b)))=some (.v (.int .i64 (orI a b)),[]):=by
 have h:vv P .or t c d (.int .i64 a) (.int .i64 b)=some (.int .i64 (orI a b)):=rfl;simp only[bN,EN,jJ,kr,h,pE,zb,gj,iQh,dX,iE,scalar,if_true,jI,Option.map_some]
def JW{a b:Int}{k:Nat}(j:0<=a)(o:a * 2 ^ k<9223372036854775808)(h:0<=b)(g:b<2 ^ k)(i:k<63):orI (a * 2 ^ k) b=a * 2 ^ k+b:=by
 obtain⟨m,rfl⟩:=Ff j;obtain⟨n,rfl⟩:=Ff h;have c:n<2 ^ k:=by exact_mod_cast g
 have d:m * 2 ^ k<2 ^ 63:=by
  have e:((m * 2 ^ k:Nat):Int)<9223372036854775808:=by rw[Int.natCast_mul,I7];exact o
  omega
 have p:n<2 ^ 63:=Nat.lt_trans c (Nat.pow_lt_pow_right (by decide) i);have e:(BitVec.ofInt 64 ((m:Int) * 2 ^ k) ||| BitVec.ofInt 64 (n:Int)).toNat=m * 2 ^ k+n:=by
  rw[BitVec.toNat_or];rw[show((m:Int) * 2 ^ k)=((m * 2 ^ k:Nat):Int) by rw[Int.natCast_mul,I7];rfl];rw[iQQ,iQQ,BitVec.toNat_ofNat,BitVec.toNat_ofNat,Jb (by omega),Jb (by omega)];rw[C7,SE c]
 unfold orI;rw[e];have q:m * 2 ^ k+n<2 ^ 63:=by
  have hd:m * 2 ^ k+n<(m+1) * 2 ^ k:=by rw[Fm];omega
  have f:m+1<=2 ^ (63 - k):=by
   have l:2 ^ 63=2 ^ (63 - k) * 2 ^ k:=by rw[<-Nat.pow_add];congr 1;omega
   rw[l]at d;exact Nat.lt_of_mul_lt_mul_right d
  calc m * 2 ^ k+n<(m+1) * 2 ^ k:=hd
   _<=2 ^ (63 - k) * 2 ^ k:=lX _ f
   _=2 ^ 63:=by rw[<-Nat.pow_add];congr 1;omega
 rw[iQa _ (by omega)];push_cast;rfl
def PL{n:Int}(c:0<=n)(d:n<36028797018963968)(b:UInt8):orI (n * 256) (b.toNat:Int)=256 * n+b.toNat:=by
 have:=b.toNat_lt;have e:=JW (a:=n) (b:=b.toNat) (k:=8) c (by omega) (by omega) (by omega) (by omega);rw[show(2:Int) ^ 8=256 from rfl]at e;rw[e];omega
@[simp] def ab2(k:Nat)(n:Int):be k n=[]↔k=0:=by
 rw[<-sK,DV]
def Tc{n:Int}(h:0<=n):n.tdiv 256=n / 256:=FB h
def S7{n:Int}(h:0<=n):n.tmod 256=n % 256:=D5 h
def Ae{k:Nat}(m:Nat)(h:k<=m):(256:Int) ^ k<=256 ^ m:=by
 have:=Nat.pow_le_pow_right (n:=256) (by decide) h;have e:((256 ^ k:Nat):Int)<=((256 ^ m:Nat):Int):=by exact_mod_cast this
 rwa [I7,I7]at e
def uN(n:Int):be 4 n=[u8 (n / 16777216),u8 (n / 65536),u8 (n / 256),u8 n]:=by
 simp[Km]
def OY(n:Int):be 7 n=[u8 (n / 281474976710656),u8 (n / 1099511627776),u8 (n / 4294967296),u8 (n / 16777216),u8 (n / 65536),u8 (n / 256),u8 n]:=by
 simp[Km]
def dx(n:Int)(k:Nat):n.fdiv (no_index (OfNat.ofNat k))=n / OfNat.ofNat k:=Int.fdiv_eq_ediv_of_nonneg _ (Int.natCast_nonneg k)
def lM(n:Int):u8 (n % 256)=u8 n:=by
 apply yC.1;rw[pJ,pJ];omega
def lW(z:Nat):List AV->AV
 | []=>aO
 | es => .bq z es none
def tK(z:Nat){es:List AV}(h:es≠[]):lW z es = .bq z es none:=by
 cases es with| nil=>exact(h rfl).elim| cons _ _=>rfl
def yg(z:Nat)(es:List AV):Sl z es (lW z es):=by
 cases es with| nil=>exact .inl ⟨rfl,rfl⟩| cons a l=>exact .inr ⟨none,rfl,by simp⟩
def Sl.XE{z:Nat}{es:List AV}{c:Option Nat}(h:es.length<=c.getD es.length):Sl z es (.bq z es c) := .inr ⟨c,rfl,h⟩
def Kh{c:Option Nat}{n a m:Nat}(h:n<=c.getD n)(b:a+m<=n):m<=(c.map (· - a)).getD m:=by
 cases c with| none=>exact bg _| some c=>simp only[cb,Option.map_some]at h ⊢;omega
def Wl(es:List AV):List UInt8:=es.map λx=>(byteOf x).getD 0
def isB(x:AV):Bool:=(byteOf x).isSome
def Yq(x:AV):Bool:=match x with
 | .bq .. | .bA .. => true
 | .v (.slice none 0 0)=>true
 | _=>false
@[simp] def afZ:Wl []=[]:=id rfl
@[simp] def afF(x:UInt8):byteOf (a8 x)=some x:=by
 show some (UInt8.ofNat ((x.toNat:Int)).toNat)=_;simp
@[simp] def adH(x:UInt8)(es:List AV):Wl (a8 x :: es)=x :: Wl es:=by simp[Wl]
@[simp] def Wk(l:List UInt8):Wl (List.map a8 l)=l:=by
 induction l with| nil=>rfl| cons b l a=>simp[a]
@[simp] def af0(l:List UInt8):Wl (aA l)=l:=Wk l
@[simp] def ahT(x:UInt8):isB (a8 x)=true:=by simp[isB]
@[simp] def ahg(l:List UInt8):(aA l).all isB=true:=by simp[aA]
@[simp] def ag9(z:Nat)(es:List AV)(c:Option Nat):Yq (.bq z es c)=true:=id rfl
@[simp] def ag8:Yq aO=true:=id rfl
def Sl.Yq{z:Nat}{es:List AV}{x:AV}(h:Sl z es x):Ab.Yq x=true:=by
 rcases h with ⟨rfl,_⟩ | ⟨c,rfl,_⟩<;>rfl
def DW.Yq{z:Nat}{es:List AV}{H:aa}{x:AV}(h:DW z es H x):Ab.Yq x=true:=by
 rcases h with ⟨rfl,_⟩ | ⟨c,rfl,_⟩<;>rfl
def SX{es:List AV}(h:es.all isB=true):es.mapM byteOf=some (Wl es):=by
 induction es with| nil=>rfl| cons x es c=>rw[yB,bt]at h;obtain⟨b,a⟩:=ib.1 h.1;rw[Ek,c h.2,a];simp[Wl,a]
@[simp] def aaS{P:Program}{src dst:TypeId}(d:dq P src=true)(f:isStr P dst=true)(g:cL)(r:Ref)(x:AV)(k:(jM 1 g x).isSome=true)(j:((jM 1 g x).getD []).all isB=true)(h:Yq x=true) :
 bX P g r src dst (some x)=some (sB (Wl ((jM 1 g x).getD [])),[]):=by
 obtain⟨es,he⟩:=ib.1 k;rw[he,cb]at j ⊢;have i:=SX j;have e:=tW he;rcases e with ⟨rfl,rfl⟩ | ⟨_,_,e⟩
 ·simp only[bX,d,f,Bm,if_true];rfl
 cases x with
 | v x=>
  cases x with| slice a b c=>simp[cy]at e| _=>simp[Ab.Yq]at h
 | bq _ _ _=>simp only[bX,d,f,Bm,if_true,e,i,Option.map_some];rfl
 | bA _ _ _ _=>simp only[bX,d,f,Bm,if_true,e,i,Option.map_some];rfl
 | _=>simp[Ab.Yq]at h
def aa6(z:Nat)(b:Option aY)(q:jl):jl:=match b with
 | some b=>if z=b.esz then q else none
 | none=>none
@[simp] def ac3(z:Nat)(b:aY)(q:jl):aa6 z (some b) q=if z=b.esz then q else none:=id rfl
@[simp] def aaN{P:Program}{t:TypeId}(h:oc P t=true)(g:cL)(r:Ref)(o n:Nat)(c:Option Nat)(lo hi a:Option Int) :
 cm P g t (some (.bA r o n c)) (some lo) (some hi) (some a)=aa6 (jm P t) (g r) ((bounds n c lo hi a).map λp=>(.bA r (o+p.1) (p.2.1 - p.1) p.2.2,[])):=by
 unfold oc at h;obtain⟨e,zz,d,i,j,q,k,s,m,l⟩:=fB h;have f:(cu P t).bind (aH P)=some (jm P t):=by rw[d];exact i
 unfold cm;dsimp only;rw[f];cases g r with
 | none=>rfl
 | some b=>simp[aa6]
@[simp] def abZ(l:List UInt8):aA l=[]↔l=[]:=by simp[aA]
set_option linter.defProp false
def hY:=And.intro @aa.ab (And.intro @oB (And.intro @MO (And.intro @Fr.nil (And.intro @oZ (And.intro @uF (And.intro @uG (And.intro @Cr (And.intro @Cs (And.intro @P0 (And.intro @LV (@CF)))))))))))
def HA:=And.intro @oB (And.intro @MO (And.intro @Fr.nil (And.intro @oZ (And.intro @uF (And.intro @uG (And.intro @Cr (And.intro @Cs (And.intro @P0 (And.intro @LV (@CF))))))))))
def an:=And.intro @uF (And.intro @uG (And.intro @Cr (And.intro @Cs (@CF))))
end Go.Ab
