/-
  The arguments of a law: from what is read before the call to data. No statement of a seat is proved here.
-/
import Derived.ChangeKeysEq
import Derived.Laws.Strings
import Derived.Test.YtehkjjcdkbcebaaGreatAbsCond
set_option linter.unusedVariables false
set_option linter.unusedSimpArgs false
set_option linter.unusedSectionVars false
set_option linter.unnecessarySimpa false
namespace Go.Ab
open Go.ChangeShapes Go.WideShapes Go.RowKit
def Dm(b:Bool)(a:List AV):AV:=match b,a with
 | false,[x]=>x
 | _,a => .agg a
def Hv(S:List AV->Prop):Nat->List AV->Prop
 | 0,xs=>xs=[]
 | k+1,xs =>∃a b,xs=a++b/\S a/\Hv S k b
def O0(S:TypeId->List AV->Prop):List Field->List AV->Prop
 | [],xs=>xs=[]
 | f :: c,xs =>∃a b,xs=a++b/\S f.type a/\O0 S c b
def yV(P:Program):Nat->TypeId->List AV->Prop
 | 0,_,_=>False
 | n+1,t,xs=>match P.underlying t with
  | some .bool =>∃b,xs=[aB b]
  | some (.int k) =>∃i,(k.min<=i/\i<=k.max)/\xs=[.v (.int k i)]
  | some .string =>∃s:ByteArray,xs=[aS s]
  | some (.slice e)=>xs=[bF] \/∃es:List (List AV),xs=[.bl (P.cellsOf e) (es.map (Dm ((eA P e).getD false))) none] /\∀x∈es,yV P n e x
  | some (.struct a)=>O0 (yV P n) a.toList xs
  | some (.array k e)=>Hv (yV P n e) k xs
  | _=>False
def layout(P:Program):List Field->Nat->Option Nat
 | [],o=>some o
 | f :: a,o=>if f.offset=o then layout P a (o+P.cellsOf f.type) else none
def plain(P:Program):Nat->TypeId->Bool
 | 0,_=>false
 | n+1,t=>match P.underlying t with
  | some .bool | some (.int _) | some .string=>P.cellsOf t == 1
  | some (.slice e)=>P.cellsOf t == 1&&plain P n e&&decide (0<P.cellsOf e)
  | some (.struct a)=>a.toList.all (λf=>plain P n f.type)&&layout P a.toList 0 == some (P.cellsOf t)
  | some (.array k e)=>plain P n e&&P.cellsOf t == k * P.cellsOf e
  | _=>false
theorem yV.facts{P:Program} : ∀(n:Nat)(t:TypeId)(c:List AV),plain P n t=true->yV P n t c->c.length=P.cellsOf t /\∀x∈c,x.one=true:=by
 intro n
 induction n with
 | zero=>intro t c h;simp[plain]at h
 | succ n J=>
  intro t c hp g
  unfold plain at hp
  unfold yV at g
  cases G:P.underlying t with
  | none=>rw[G]at g;exact g.elim
  | some d=>
   rw[G]at hp g
   cases d<;>dsimp only at hp g<;>try (exact g.elim)
   ·obtain⟨b,rfl⟩:=g
    simp at hp;exact⟨by simp[hp],by simp[AV.one]⟩
   ·obtain⟨i,_,rfl⟩:=g
    simp at hp;exact⟨by simp[hp],by simp[AV.one]⟩
   ·obtain⟨s,rfl⟩:=g
    simp at hp;exact⟨by simp[hp],by simp[AV.one]⟩
   ·rename_i e
    simp only[aY,beq_iff_eq]at hp
    rw[hp.1.1]
    rcases g with rfl | ⟨es,rfl,_⟩
    ·simp[AV.one]
    ·simp[AV.one]
   ·rename_i k e
    simp only[aY,beq_iff_eq]at hp
    rw[hp.2]
    have : ∀(k:Nat)(c:List AV),Hv (yV P n e) k c->c.length=k * P.cellsOf e /\∀x∈c,x.one=true:=by
     intro k
     induction k with
     | zero=>intro c h;simp only[Hv]at h;subst h;simp
     | succ k D=>
      intro c h
      obtain⟨a,b,rfl,z,y⟩:=h
      obtain⟨q,p⟩:=J e a hp.1 z
      obtain⟨u,E⟩:=D b y
      refine⟨by rw[gG,q,u,A0];omega,λx v=>?_⟩
      rcases kY.1 v with h | h
      ·exact p x h
      ·exact E x h
    exact this k c g
   ·rename_i L
    simp only[aY,beq_iff_eq,da]at hp
    have : ∀(l:List Field)(o:Nat)(c:List AV),(∀f∈l,plain P n f.type=true)->O0 (yV P n) l c->(∀m,layout P l o=some m->o+c.length=m) /\∀x∈c,x.one=true:=by
     intro l
     induction l with
     | nil=>intro o c _ h;simp only[O0]at h;subst h;exact⟨λm j=>by simp[layout]at j;simp[j],by simp⟩
     | cons f l F=>
      intro o c I h
      obtain⟨a,b,rfl,z,y⟩:=h
      obtain⟨q,p⟩:=J f.type a (I f (jM ..)) z
      obtain⟨u,E⟩:=F (o+P.cellsOf f.type) b (λf K=>I f (jI _ K)) y
      refine⟨λm j=>?_,λx v=>?_⟩
      ·unfold layout at j
       split at j
       ·have:=u m j;rw[gG,q];omega
       ·cases j
      ·rcases kY.1 v with h | h
       ·exact p x h
       ·exact E x h
    obtain⟨q,p⟩:=this L.toList 0 c hp.1 g
    exact⟨by have:=q _ hp.2;omega,p⟩
theorem IU{c:Bool}{a:List AV}(b : ∀x∈a,x.one=true):(Dm c a).cells=a:=by
 unfold Dm
 split
 ·rename_i x
  have:=b x (by simp)
  cases x<;>first | rfl | (simp[AV.one]at this)
 ·rfl
section
variable{H:Type}{enc:TypeId × Value->H}{P:Program}{w:World}{B:Nat}{A:Nat->Bool}{C:Bool}
abbrev qJ(w:World):Mem:=λb o=>w.cell? ⟨b,o,none⟩
def L4(P:Program)(n:Nat)(t:TypeId)(x:AV):Prop:=
 match eA P t with
 | some true =>∃a,x = .agg a/\yV P n t a
 | _=>yV P n t [x]
def Js(P:Program)(n:Nat):List TypeId->List AV->Prop
 | [],[]=>True
 | t :: a,x :: xs=>L4 P n t x/\Js P n a xs
 | _,_=>False
end
theorem F7{H:Type}{enc:TypeId × Value->H}{P:Program}{w:World}{B:Nat}{A:Nat->Bool}{C:Bool} : ∀ {a:List TypeId} {b:List Value} {ds:List (DataW H)} {ps:List MemPlace},
 DataW.TrodAll enc P w B A C a b ds ps->ds.length=a.length:=by
 intro a
 induction a with
 | nil=>intro b ds ps h;obtain⟨_,rfl,_⟩:=trodAll_nil h;rfl
 | cons t a g=>
  intro b ds ps h
  obtain⟨v,f,d,c,p,q,rfl,rfl,rfl,_,e⟩:=trodAll_cons h
  simp[g e]
theorem sN{P:Program}{n:Nat}{t:TypeId}{c:List TypeId}{b:List AV}(h:Js P n (t :: c) b) : ∃x a,b=x :: a/\L4 P n t x/\Js P n c a:=by
 cases b with
 | nil=>exact h.elim
 | cons x b=>exact⟨x,b,rfl,h.1,h.2⟩
theorem MP{P:Program}{n:Nat}{a:List AV}(h:Js P n [] a):a=[]:=by
 cases a with
 | nil=>rfl
 | cons x a=>exact h.elim
end Go.Ab
namespace Go.Ab
def KB{b:Type}(P:Program)(t:TypeId)(ok:b->Prop)(enc:b->List AV):Prop :=∀n c,yV P n t c ->∃a,ok a/\c=enc a
def isBool(P:Program)(t:TypeId):Bool:=match P.underlying t with | some .bool=>true | _=>false
def ig(P:Program)(t:TypeId):Option (List TypeId):=match P.underlying t with | some (.struct a)=>some (a.toList.map (·.type)) | _=>none
theorem Nn{P:Program}{t:TypeId}(h:isBool P t=true):KB P t (λ_=>True) λb:Bool=>[aB b]:=by
 intro n d a
 cases n with
 | zero=>exact a.elim
 | succ n=>
  unfold isBool at h
  unfold yV at a
  split at h
  ·rename_i c;rw[c]at a;obtain⟨b,rfl⟩:=a;exact⟨b,trivial,rfl⟩
  ·cases h
theorem AH{P:Program}{t:TypeId}{k:IntKind}(h:intKind P t=some k):KB P t (λi:Int=>k.min<=i/\i<=k.max) λi:Int=>[.v (.int k i)]:=by
 intro n b a
 cases n with
 | zero=>exact a.elim
 | succ n=>
  unfold yV at a
  rw[yy h]at a
  obtain⟨i,hi,rfl⟩:=a
  exact⟨i,hi,rfl⟩
theorem tI{P:Program}{t:TypeId}(h:intKind P t=some .i64):KB P t (λi:Int => -9223372036854775808<=i/\i<=9223372036854775807) λi:Int=>[aI i]:=λn b a=>by
 obtain⟨i,hi,rfl⟩:=AH h n b a;exact⟨i,hi,rfl⟩
theorem P3{P:Program}{t:TypeId}(h:intKind P t=some .i32):KB P t (λi:Int => -2147483648<=i/\i<=2147483647) λi:Int=>[.v (.int .i32 i)]:=λn b a=>by
 obtain⟨i,hi,rfl⟩:=AH h n b a;exact⟨i,hi,rfl⟩
theorem Gn{P:Program}{t:TypeId}(h:intKind P t=some .u8):KB P t (λ_=>True) λb:UInt8=>[a8 b]:=λn d c=>by
 obtain⟨i,hi,rfl⟩:=AH h n d c
 refine⟨u8 i,trivial,?_⟩
 have a:(0:Int)<=i:=hi.1
 have e:i<=255:=hi.2
 unfold a8
 show[AV.v (.int .u8 i)]=[AV.v (.int .u8 ((u8 i).toNat:Int))]
 rw[mZ,Int.emod_eq_of_lt a (by omega),xP a]
theorem SA{P:Program}{t:TypeId}(h:intKind P t=some .u32):KB P t (λ_=>True) λb:UInt32=>[bc b]:=λn d c=>by
 obtain⟨i,hi,rfl⟩:=AH h n d c
 refine⟨u32 i,trivial,?_⟩
 have a:(0:Int)<=i:=hi.1
 have e:i<=4294967295:=hi.2
 unfold bc
 show[AV.v (.int .u32 i)]=[AV.v (.int .u32 ((u32 i).toNat:Int))]
 rw[qB,Int.emod_eq_of_lt a (by omega),xP a]
theorem Qt{c:Type}{ok:c->Prop}{enc:c->List AV} : ∀(es:List (List AV)),(∀x∈es,∃a,ok a/\x=enc a) ->∃l:List c,(∀a∈l,ok a)/\es=l.map enc:=by
 intro es
 induction es with
 | nil=>intro _;exact⟨[],by simp,rfl⟩
 | cons x es g=>
  intro h
  obtain⟨a,i,rfl⟩:=h x (jM ..)
  obtain⟨l,e,rfl⟩:=g λx f=>h x (jI _ f)
  refine⟨a :: l,?_,rfl⟩
  intro b d
  rcases eU.1 d with rfl | d
  ·exact i
  ·exact e b d
theorem KQ{P:Program}{t e:TypeId}(h:dV P t=some e):P.underlying t=some (.slice e):=by
 unfold dV at h
 split at h
 ·cases h;assumption
 ·cases h
theorem BR{c:Type}{P:Program}{t e:TypeId}{z:Nat}{g:Bool}{ok:c->Prop}{enc:c->List AV}(p:dV P t=some e)(f:av P e=some z)(k:eA P e=some g)(m:KB P e ok enc){n:Nat}{d:List AV}(h:yV P n t d) :
 ∃(l:List c) (x:AV),(∀a∈l,ok a)/\d=[x]/\Sl z (l.map λa=>Dm g (enc a)) x:=by
 cases n with
 | zero=>exact h.elim
 | succ n=>
  unfold yV at h
  rw[KQ p]at h
  rcases h with rfl | ⟨es,rfl,b⟩
  ·exact⟨[],bF,by simp,rfl,.inl ⟨rfl,rfl⟩⟩
  ·obtain⟨l,o,rfl⟩:=Qt es λx i=>m n x (b x i)
   have j:P.cellsOf e=z:=by
    unfold av at f
    unfold Program.cellsOf
    rw[f];rfl
   refine⟨l,_,o,rfl,?_⟩
   rw[j,k,List.map_map]
   exact Sl.mk z _
theorem MS{P:Program}{t e:TypeId}(f:dV P t=some e)(d:intKind P e=some .u8)(c:av P e=some 1)(g:eA P e=some false){n:Nat}{a:List AV}(h:yV P n t a) : ∃(l:List UInt8) (x:AV),a=[x]/\Sl 1 (al l) x:=by
 obtain⟨l,x,_,rfl,b⟩:=BR f c g (Gn d) h
 exact⟨l,x,rfl,b⟩
theorem L4.cell{P:Program}{n:Nat}{t:TypeId}{x:AV}(a:eA P t=some false)(h:L4 P n t x):yV P n t [x]:=by
 unfold L4 at h;rw[a]at h;exact h
theorem L4.agg{P:Program}{n:Nat}{t:TypeId}{x:AV}(b:eA P t=some true)(h:L4 P n t x) : ∃a,x = .agg a/\yV P n t a:=by
 unfold L4 at h;rw[b]at h;exact h
def Xa(S:TypeId->List AV->Prop):List TypeId->List AV->Prop
 | [],xs=>xs=[]
 | t :: c,xs =>∃a b,xs=a++b/\S t a/\Xa S c b
theorem m8{P:Program}{t:TypeId}{e:List TypeId}(c:ig P t=some e){n:Nat}{d:List AV}(h:yV P n t d) : ∃m,Xa (yV P m) e d:=by
 cases n with
 | zero=>exact h.elim
 | succ n=>
  unfold ig at c
  split at c
  ·rename_i i g
   cases c
   unfold yV at h
   rw[g]at h
   refine⟨n,?_⟩
   dsimp only at h
   generalize i.toList=l at h
   induction l generalizing d with
   | nil=>exact h
   | cons f l j=>
    obtain⟨a,b,rfl,k,o⟩:=h
    exact⟨a,b,rfl,k,j o⟩
  ·cases c
def sZ(P:Program)(d e c:Nat)(g f:Array Value):List Nat->Option Bool
 | []=>some true
 | i :: is=>match aV P (part e g (i * c)),aV P (part e f (i * c)) with
  | some a,some b=>(match aV P (Op.equalIn d e a b) with
   | some true=>sZ P d e c g f is
   | some false=>some false
   | none=>none)
  | _,_=>none
theorem J1{P:Program}{t:TypeId}{z:Nat}(h:av P t=some z):aV P (sizeOf t)=some z:=by
 simp only[av,aZ]at h
 obtain⟨i,hi,rfl⟩:=h
 simp only[sizeOf,typeInfo,bq]
 show((some P).bind _).bind _=_
 simp only[dF,hi]
 rfl
theorem zr{P:Program}(d:Nat){t e:TypeId}{n c:Nat}(f g:Array Value)(h:P.underlying t=some (.array n e))(hi:av P e=some c) :
 aV P (Op.equalIn (d+1) t (.agg f) (.agg g))=sZ P d e c f g (List.range n):=by
 simp only[Op.equalIn,bq,lA h,dF,J1 hi]
 simp only[Std.Legacy.Range.forIn_eq_forIn_range',Std.Legacy.Range.size,Nat.sub_zero,Nat.add_one_sub_one,Nat.div_one,HK]
 generalize List.range' 0 n=is
 induction is with
 | nil=>rfl
 | cons j is i=>
  simp only[List.forIn_cons,sZ,bq]
  cases m:aV P (part e f (j * c)) with
  | none=>rfl
  | some a=>
   cases k:aV P (part e g (j * c)) with
   | none=>rfl
   | some b=>
    simp only[dF]
    cases l:aV P (Op.equalIn d e a b) with
    | none=>rfl
    | some r=>
     cases r
     ·rfl
     ·simp only[dF,vc,gH,if_false]
      exact i
def qq(P:Program)(d:Nat)(e c:Array Value):List Field->Option Bool
 | []=>some true
 | f :: g=>match aV P (part f.type e f.offset),aV P (part f.type c f.offset) with
  | some a,some b=>(match aV P (Op.equalIn d f.type a b) with
   | some true=>qq P d e c g
   | some false=>some false
   | none=>none)
  | _,_=>none
theorem yg{P:Program}(d:Nat){t:TypeId}{c:Array Field}(h i:Array Value)(l:P.underlying t=some (.struct c))(m:P.stoodInHeld t=false)(e : ∀f∈c.toList,(f.name != "_")=true) :
 aV P (Op.equalIn (d+1) t (.agg h) (.agg i))=qq P d h i c.toList:=by
 have hp:aV P program=some P:=rfl
 simp only[Op.equalIn,bq,lA l,dF,hp,m,gH,if_false]
 simp only[<-Array.forIn_toList]
 generalize c.toList=is at e
 induction is with
 | nil=>rfl
 | cons f is o=>
  have n:f.name ≠ "_" := by simpa using e f (jM ..)
  simp only[List.forIn_cons,qq,bq,n,ne_eq,not_false_eq_true,if_true]
  have j:aV P (pure PUnit.unit:Sem PUnit)=some PUnit.unit:=rfl
  cases s:aV P (part f.type h f.offset) with
  | none=>rfl
  | some a=>
   cases p:aV P (part f.type i f.offset) with
   | none=>rfl
   | some b=>
    simp only[dF]
    cases q:aV P (Op.equalIn d f.type a b) with
    | none=>rfl
    | some r=>
     cases r
     ·rfl
     ·simp only[dF,vc,gH,if_false]
      exact o λg k=>e g (jI _ k)
def xz:List AV->List AV->Option Bool
 | [.v (.bool a)],[.v (.bool b)]=>some (decide (a=b))
 | [.v (.int k a)],[.v (.int k' b)]=>if k=k' then some (decide (a=b)) else none
 | [.v (.string a)],[.v (.string b)]=>some (a == b)
 | _,_=>none
def eF(S:TypeId->List AV->List AV->Option Bool)(P:Program):List TypeId->List AV->List AV->Option Bool
 | [],_,_=>some true
 | t :: d,xs,c=>match av P t with
  | none=>none
  | some z=>match S t (xs.take z) (c.take z),eF S P d (xs.drop z) (c.drop z) with
   | some a,some b=>some (a&&b)
   | _,_=>none
def Ed(S:List AV->List AV->Option Bool)(z:Nat):Nat->List AV->List AV->Option Bool
 | 0,_,_=>some true
 | k+1,xs,c=>match S (xs.take z) (c.take z),Ed S z k (xs.drop z) (c.drop z) with
  | some a,some b=>some (a&&b)
  | _,_=>none
def mH(P:Program)(t:TypeId):Option Nat:=match P.underlying t with
 | some .bool=>some 0
 | some (.int _)=>some 1
 | some .string=>some 2
 | _=>none
def D2:AV->Nat
 | .v (.bool _)=>0
 | .v (.int _ _)=>1
 | .v (.string _)=>2
 | _=>3
def kT(P:Program):Nat->TypeId->List AV->List AV->Option Bool
 | 0,_,_,_=>none
 | n+1,t,xs,a=>match mH P t with
  | some l=>(match xs,a with
   | [x],[y]=>cond (Nat.beq (D2 x) l) (xz [x] [y]) none
   | _,_=>none)
  | none=>match ig P t with
   | some b=>eF (kT P n) P b xs a
   | none=>match mi P t with
    | some (k,e)=>(match av P e with
     | some z=>Ed (kT P n e) z k xs a
     | none=>none)
    | none=>none
def CM(P:Program):Nat->TypeId->Bool
 | 0,_=>false
 | n+1,t=>match P.underlying t with
  | some .bool | some (.int _) | some .string=>eA P t == some false&&av P t == some 1
  | some (.struct a)=>a.toList.all (λf=>CM P n f.type&&f.name != "_")&&layout P a.toList 0 == some (P.cellsOf t) && !P.stoodInHeld t
  | some (.array k e)=>CM P n e&&P.cellsOf t == k * P.cellsOf e
  | _=>false
def oz(a:List AV):Option (List Value):=a.mapM DB
theorem vI{a:List AV}{c:List Value}(h:oz a=some c)(n:Nat):oz (a.take n)=some (c.take n):=by
 unfold oz at *
 induction a generalizing c n with
 | nil=>simp at h;subst h;simp
 | cons x a d=>
  simp only[kI,od,o9,fD]at h
  obtain⟨v,f,g,b,e⟩:=h
  cases e
  cases n with
  | zero=>simp
  | succ n=>simp only[List.take_succ_cons,kI,f,d b n];rfl
theorem vJ{b:List AV}{c:List Value}(h:oz b=some c)(n:Nat):oz (b.drop n)=some (c.drop n):=by
 unfold oz at *
 induction b generalizing c n with
 | nil=>simp at h;subst h;simp
 | cons x b d=>
  simp only[kI,od,o9,fD]at h
  obtain⟨v,f,g,a,e⟩:=h
  cases e
  cases n with
  | zero=>simp only[y0,kI,f,a];rfl
  | succ n=>simp only[List.drop_succ_cons];exact d a n
def sK(P:Program)(t:TypeId)(a:List Value):Option Value:=match eA P t with
 | some true=>some (.agg a.toArray)
 | some false=>a.head?
 | none=>none
theorem AI{P:Program}{t:TypeId}{z:Nat}(h:av P t=some z){f:List Value}{o:Nat}{v:Value}(a:sK P t ((f.drop o).take z)=some v)(j:eA P t=some false->z=1):aV P (part t f.toArray o)=some v:=by
 unfold sK at a
 have d : ∀b,eA P t=some b->aV P (isAgg t)=some b:=by
  intro b g
  simp only[eA,aZ]at g
  obtain⟨i,c,rfl⟩:=g
  simp only[isAgg,bq,lA c,dF]
  cases i<;>rfl
 unfold part
 split at a
 ·rename_i e
  cases a
  simp only[bq,d _ e,dF,if_true,J1 h]
  show some _=some _
  congr 2
  apply Et.1
  simp only[HL,HP,EE]
 ·rename_i e
  simp only[bq,d _ e,dF,gH,if_false]
  have:f.toArray[o]?=some v:=by
   rw[j e]at a
   rw[HM]
   cases c:f.drop o with
   | nil=>rw[c]at a;simp at a
   | cons u us=>
    rw[c]at a
    simp at a
    subst a
    have:=congrArg List.head? c
    simpa [List.head?_drop] using this
  rw[this]
  rfl
 ·cases a
theorem TA{P:Program} : ∀(n:Nat)(D:Nat)(t:TypeId)(M N:List AV)(us S:List Value)(b:Bool),CM P n t=true->kT P n t M N=some b->oz M=some us->oz N=some S->M.length=P.cellsOf t->N.length=P.cellsOf t ->
 ∃u v,sK P t us=some u/\sK P t S=some v/\aV P (Op.equalIn (D+n) t u v)=some b:=by
 intro n
 induction n with
 | zero=>intro D t M N us S b h;simp[CM]at h
 | succ n ih=>
  intro D t M N us S b d h hu hv ZD ZC
  unfold CM at d
  unfold kT at h
  cases I:P.underlying t with
  | none=>rw[I]at d;simp at d
  | some dd=>
   rw[I]at d
   have K : ∀l,mH P t=some l->(eA P t == some false&&av P t == some 1)=true->(l=0/\dd = .bool\/(l=1 /\∃k,dd = .int k)\/l=2/\dd = .string) ->∃u v,sK P t us=some u/\sK P t S=some v/\aV P (Op.equalIn (D+(n+1)) t u v)=some b:=by
    intro l Z d Zt
    simp only[aY,beq_iff_eq]at d
    rw[Z]at h
    dsimp only at h
    split at h
    ·rename_i x y
     cases hb:Nat.beq (D2 x) l with
     | false=>rw[hb]at h;cases h
     | true=>
      rw[hb]at h
      replace hb:=iK hb
      have e1 : ∃u,us=[u]/\DB x=some u:=by
       unfold oz at hu;simp only[kI,Em,od,o9,fD]at hu
       obtain⟨u,F,ws,L,h3⟩:=hu
       cases L;cases h3;exact⟨u,rfl,F⟩
      have e2 : ∃u,S=[u]/\DB y=some u:=by
       unfold oz at hv;simp only[kI,Em,od,o9,fD]at hv
       obtain⟨u,F,ws,L,h3⟩:=hv
       cases L;cases h3;exact⟨u,rfl,F⟩
      obtain⟨u,rfl,q⟩:=e1
      obtain⟨v,rfl,s⟩:=e2
      refine⟨u,v,by simp[sK,d.1],by simp[sK,d.1],?_⟩
      rw[show D+(n+1)=(D+n)+1 from rfl]
      simp only[cond_true]at h
      unfold xz at h
      simp only[Op.equalIn,bq,lA I,dF]
      split at h
      ·rename_i a c V U
       simp only[wx,and_true]at V U
       subst V;subst U
       simp[DB]at q s
       subst q;subst s
       have Zu:l=0:=hb.symm
       rcases Zt with ⟨_,rfl⟩ | ⟨F,_⟩ | ⟨F,_⟩
       ·rw[<-h];show some (a == c)=_;congr 1
       ·omega
       ·omega
      ·rename_i k a k' c V U
       simp only[wx,and_true]at V U
       subst V;subst U
       simp[DB]at q s
       subst q;subst s
       have Zu:l=1:=hb.symm
       rcases Zt with ⟨F,_⟩ | ⟨_,k0,rfl⟩ | ⟨F,_⟩
       ·omega
       ·split at h
        ·rename_i T
         subst T
         rw[<-h]
         show aV P (if k=k then pure (a == c) else _)=_
         rw[if_pos rfl]
         show some (a == c)=_
         congr 1
        ·cases h
       ·omega
      ·rename_i a c V U
       simp only[wx,and_true]at V U
       subst V;subst U
       simp[DB]at q s
       subst q;subst s
       have Zu:l=2:=hb.symm
       rcases Zt with ⟨F,_⟩ | ⟨F,_⟩ | ⟨_,rfl⟩
       ·omega
       ·omega
       ·rw[<-h];rfl
      ·cases h
    ·cases h
   have ZE : ∀l,mH P t=some l->_:=λl Z=>K l Z
   cases dd<;>dsimp only at d<;>try (simp at d;done)
   ·exact K 0 (by simp[mH,I]) d (.inl ⟨rfl,rfl⟩)
   ·rename_i k;exact K 1 (by simp[mH,I]) d (.inr (.inl ⟨rfl,k,rfl⟩))
   ·exact K 2 (by simp[mH,I]) d (.inr (.inr ⟨rfl,rfl⟩))
   ·
    rename_i k e
    simp only[aY,beq_iff_eq]at d
    obtain⟨d,Zs⟩:=d
    have Z:mH P t=none:=by simp[mH,I]
    have hf:ig P t=none:=by simp[ig,I]
    have ZA:mi P t=some (k,e):=by simp[mi,I]
    rw[Z,hf,ZA]at h
    dsimp only at h
    have R:eA P t=some true:=by simp[eA,I]
    cases G:av P e with
    | none=>rw[G]at h;cases h
    | some z=>
     rw[G]at h
     dsimp only at h
     have J:P.cellsOf e=z:=by simp only[av]at G;simp[Program.cellsOf,G]
     have E:eA P e=some false->z=1:=by
      intro j
      cases n with
      | zero=>simp[CM]at d
      | succ n'=>
       unfold CM at d
       unfold eA at j
       cases O:P.underlying e with
       | none=>rw[O]at d;simp at d
       | some d2=>
        rw[O]at d j
        cases d2<;>simp at d j<;>(have:=d.2;rw[G]at this;simpa using this)
     refine⟨.agg us.toArray,.agg S.toArray,by simp[sK,R],by simp[sK,R],?_⟩
     rw[show D+(n+1)=(D+n)+1 from rfl,zr (D+n) _ _ I G]
     have : ∀(m p:Nat)(b:Bool),(p+m) * z<=M.length->(p+m) * z<=N.length->Ed (kT P n e) z m (M.drop (p * z)) (N.drop (p * z))=some b->sZ P (D+n) e z us.toArray S.toArray (List.range' p m)=some b:=by
      intro m
      induction m with
      | zero=>intro p b _ _ h;simp[Ed]at h;simp[sZ,h]
      | succ m Zw=>
       intro p b hx hy h
       simp only[Ed]at h
       have Q:(p+(m+1)) * z=p * z+z+m * z:=by rw[jH,A0];omega
       rw[Q]at hx hy
       cases F:kT P n e ((M.drop (p * z)).take z) ((N.drop (p * z)).take z) with
       | none=>rw[F]at h;simp at h
       | some a=>
        rw[F]at h
        cases L:Ed (kT P n e) z m ((M.drop (p * z)).drop z) ((N.drop (p * z)).drop z) with
        | none=>rw[L]at h;simp at h
        | some c=>
         rw[L]at h
         simp only[dc]at h
         rw[lU,lU,<-A0]at L
         obtain⟨u,v,q,s,heq⟩:=ih D e _ _ _ _ a d F (vI (vJ hu (p * z)) z) (vI (vJ hv (p * z)) z)
          (by rw[lW,lg,J];omega) (by rw[lW,lg,J];omega)
         have p1:=AI G (o:=p * z) q E
         have p2:=AI G (o:=p * z) s E
         simp only[List.range'_succ,sZ,p1,p2,heq]
         cases a with
         | false=>simp at h;simp[h]
         | true=>
          simp only[hU]at h
          subst h
          exact Zw (p+1) c (by rw[show p+1+m=p+(m+1) by omega,Q];exact hx) (by rw[show p+1+m=p+(m+1) by omega,Q];exact hy) L
     rw[HK]
     by_cases X:k * z<=M.length/\k * z<=N.length
     ·exact this k 0 b (by simpa using X.1) (by simpa using X.2) (by simpa using h)
     ·exfalso
      rw[J]at Zs
      exact X ⟨by omega,by omega⟩
   ·
    rename_i fs
    simp only[aY,gE,da,beq_iff_eq]at d
    obtain⟨⟨W,i⟩,Zy⟩:=d
    have Z:mH P t=none:=by simp[mH,I]
    have hf:ig P t=some (fs.toList.map (·.type)):=by simp[ig,I]
    rw[Z,hf]at h
    dsimp only at h
    have R:eA P t=some true:=by simp[eA,I]
    refine⟨.agg us.toArray,.agg S.toArray,by simp[sK,R],by simp[sK,R],?_⟩
    rw[show D+(n+1)=(D+n)+1 from rfl,yg (D+n) _ _ I Zy (λf hf=>(W f hf).2)]
    have : ∀(l:List Field)(o:Nat)(b:Bool),(∀f∈l,CM P n f.type=true)->layout P l o=some (P.cellsOf t)->eF (kT P n) P (l.map (·.type)) (M.drop o) (N.drop o)=some b->o<=P.cellsOf t ->
     qq P (D+n) us.toArray S.toArray l=some b:=by
     intro l
     induction l with
     | nil=>intro o b _ _ h _;simp[eF]at h;simp[qq,h]
     | cons f l Zv=>
      intro o b Y i h ho
      unfold layout at i
      split at i
      ·rename_i Zz
       simp only[tk,eF]at h
       cases G:av P f.type with
       | none=>rw[G]at h;cases h
       | some z=>
        rw[G]at h
        dsimp only at h
        have J:P.cellsOf f.type=z:=by simp only[av]at G;simp[Program.cellsOf,G]
        rw[J]at i
        cases F:kT P n f.type ((M.drop o).take z) ((N.drop o).take z) with
        | none=>rw[F]at h;simp at h
        | some a=>
         rw[F]at h
         cases L:eF (kT P n) P (l.map (·.type)) ((M.drop o).drop z) ((N.drop o).drop z) with
         | none=>rw[L]at h;simp at h
         | some c=>
          rw[L]at h
          simp only[dc]at h
          rw[lU,lU]at L
          have ZB:o+z<=P.cellsOf t:=by
           have : ∀(l:List Field)(o m:Nat),layout P l o=some m->o<=m:=by
            intro l
            induction l with
            | nil=>intro o m h;simp[layout]at h;omega
            | cons g l Zx=>
             intro o m h
             unfold layout at h
             split at h
             ·have:=Zx _ _ h;omega
             ·cases h
           exact this _ _ _ i
          obtain⟨u,v,q,s,heq⟩:=ih D f.type _ _ _ _ a (Y f (jM ..)) F (vI (vJ hu o) z) (vI (vJ hv o) z)
           (by rw[lW,lg,J];omega) (by rw[lW,lg,J];omega)
          have E:eA P f.type=some false->z=1:=by
           intro j
           have T:=Y f (jM ..)
           cases n with
           | zero=>simp[CM]at T
           | succ n'=>
            unfold CM at T
            unfold eA at j
            cases O:P.underlying f.type with
            | none=>rw[O]at T;simp at T
            | some d2=>
             rw[O]at T j
             cases d2<;>simp at T j<;>(have:=T.2;rw[G]at this;simpa using this)
          have p1:=AI G (o:=o) q E
          have p2:=AI G (o:=o) s E
          simp only[qq,Zz,p1,p2,heq]
          cases a with
          | false=>simp at h;simp[h]
          | true=>
           simp only[hU]at h
           subst h
           exact Zv (o+z) c (λg hg=>Y g (jI _ hg)) i L ZB
      ·cases i
    exact this fs.toList 0 b (λf hf=>(W f hf).1) i (by simpa using h) (ui _)
def AA(P:Program)(t:TypeId):Bool:=CM P 20 t && !P.eqGuardType P.depth t&&eA P t == some true
theorem Lr{P:Program}{t:TypeId}(h:AA P t=true)(d:BinOp)(g:d = .eql\/d = .neq)(e f:Operand)(c a:Array Value) :
 rB P d t e f (.agg c) (.agg a)=(aV P (Op.equalIn 10000 t (.agg c) (.agg a))).map λb => .bool (if d = .eql then b else !b):=by
 unfold AA at h
 simp only[aY,gE,beq_iff_eq]at h
 have hp:aV P program=some P:=rfl
 unfold rB
 have i:aV P (eqGuard d t e f (.agg c) (.agg a))=some ():=by
  rcases g with rfl | rfl
  ·simp only[eqGuard,vc,gH,if_false,bq,hp,dF,h.1.2,xK,if_true];rfl
  ·simp only[eqGuard,vc,gH,if_false,bq,hp,dF,h.1.2,xK,if_true];rfl
 rw[bq,i,dF]
 rcases g with rfl | rfl
 ·show aV P (do pure (Value.bool (<-Op.equal t (.agg c) (.agg a))))=_
  rw[bq]
  unfold Op.equal Op.maxDepth
  cases aV P (Op.equalIn 10000 t (.agg c) (.agg a))<;>rfl
 ·show aV P (do pure (Value.bool (!(<-Op.equal t (.agg c) (.agg a)))))=_
  rw[bq]
  unfold Op.equal Op.maxDepth
  cases aV P (Op.equalIn 10000 t (.agg c) (.agg a))<;>rfl
theorem Gz{P:Program}{t:TypeId}(h:AA P t=true)(c:BinOp)(x:c = .eql\/c = .neq)(l m:Operand){cs ds:List AV}{b:Bool}(z:kT P 20 t cs ds=some b)(e:(oz cs).isSome=true)(d:(oz ds).isSome=true)
 (q:some cs.length=av P t) (s:some ds.length=av P t):bK P c t l m (some (.agg cs)) (some (.agg ds))=some (aB (if c = .eql then b else !b),[]):=by
 obtain⟨us,e⟩:=fO.1 e
 obtain⟨g,d⟩:=fO.1 d
 have f:=h
 unfold AA at f
 simp only[aY,gE,beq_iff_eq]at f
 have k : ∀ {n:Nat},some n=av P t->n=P.cellsOf t:=by
  intro n i
  unfold av at i
  unfold Program.cellsOf
  rw[<-i];rfl
 obtain⟨u,v,o,j,heq⟩:=TA 20 9980 t cs ds us g b f.1.1 z e d (k q) (k s)
 simp only[sK,f.2,dc]at o j
 subst o;subst j
 have a:=Lr h c x l m us.toArray g.toArray
 rw[heq]at a
 have p:iy (.agg cs)=some (.agg us.toArray):=by show(cs.mapM DB).map _=_;rw[show cs.mapM DB=some us from e];rfl
 have y:iy (.agg ds)=some (.agg g.toArray):=by show(ds.mapM DB).map _=_;rw[show ds.mapM DB=some g from d];rfl
 simp only[bK,Az,jo,rl,uZ,gH,if_false,p,y,a,Option.map_some,dF,fG,scalar,if_true,gJ]
@[simp] theorem Qh{P:Program}{t:TypeId}(h:AA P t=true)(c d:Operand){cs ds:List AV}(a:(kT P 20 t cs ds).isSome=true)(e:(oz cs).isSome=true)(i:(oz ds).isSome=true)
 (f:some cs.length=av P t) (g:some ds.length=av P t):bK P .eql t c d (some (.agg cs)) (some (.agg ds))=some (aB ((kT P 20 t cs ds).getD false),[]):=by
 obtain⟨b,a⟩:=fO.1 a
 rw[Gz h .eql (.inl rfl) c d a e i f g,a];rfl
@[simp] theorem Qf{P:Program}{t:TypeId}(h:AA P t=true)(c d:Operand){cs ds:List AV}(a:(kT P 20 t cs ds).isSome=true)(e:(oz cs).isSome=true)(i:(oz ds).isSome=true)
 (f:some cs.length=av P t) (g:some ds.length=av P t):bK P .neq t c d (some (.agg cs)) (some (.agg ds))=some (aB (!(kT P 20 t cs ds).getD false),[]):=by
 obtain⟨b,a⟩:=fO.1 a
 rw[Gz h .neq (.inr rfl) c d a e i f g,a];rfl
@[simp] theorem Ve:oz []=some []:=id rfl
@[simp] theorem F6(k:IntKind)(n:Int)(l:List AV):oz (.v (.int k n) :: l)=(oz l).map (.int k n :: ·):=by
 unfold oz;simp only[kI,DB];cases l.mapM DB<;>rfl
@[simp] theorem T5(b:Bool)(l:List AV):oz (.v (.bool b) :: l)=(oz l).map (.bool b :: ·):=by
 unfold oz;simp only[kI,DB];cases l.mapM DB<;>rfl
@[simp] theorem YR(b:UInt8)(l:List AV):oz (a8 b :: l)=(oz l).map (.int .u8 b.toNat :: ·):=F6 _ _ _
@[simp] theorem Xn(b:UInt32)(l:List AV):oz (bc b :: l)=(oz l).map (.int .u32 b.toNat :: ·):=F6 _ _ _
@[simp] theorem R5(a b:Bool):xz [aB a] [aB b]=some (decide (a=b)):=id rfl
@[simp] theorem CN(k:IntKind)(a b:Int):xz [.v (.int k a)] [.v (.int k b)]=some (decide (a=b)):=by simp[xz]
@[simp] theorem WU(a b:UInt8):xz [a8 a] [a8 b]=some (decide (a=b)):=by
 unfold a8;rw[CN];congr 2;rw[<-uo];exact propext (by omega)
@[simp] theorem UW(a b:UInt32):xz [bc a] [bc b]=some (decide (a=b)):=by
 unfold bc;rw[CN];congr 2;rw[<-HE];exact propext (by omega)
@[simp] theorem Tb(b:Bool):D2 (aB b)=0:=id rfl
@[simp] theorem UK(k:IntKind)(n:Int):D2 (.v (.int k n))=1:=id rfl
@[simp] theorem Ye(b:UInt8):D2 (a8 b)=1:=id rfl
@[simp] theorem Wf(b:UInt32):D2 (bc b)=1:=id rfl
@[simp] theorem Cf{P:Program}{t:TypeId}(h:((dV P t).bind (av P)).isSome=true)(g:cf)(lo hi a:Option Int) :
 ca P g t (some bF) (some lo) (some hi) (some a)=(bounds 0 (some 0) lo hi a).map λ_=>(bF,[]):=by
 simp only[ca,h,if_true]
@[simp] theorem Cg{P:Program}{t z:Nat}(h:(dV P t).bind (av P)=some z)(g:cf)(es:List AV)(c:Option Nat)(lo hi a:Option Int) :
 ca P g t (some (.bl z es c)) (some lo) (some hi) (some a)=(bounds es.length c lo hi a).map λ(l,h,c)=>(.bl z ((es.drop l).take (h - l)) c,[]):=by
 simp only[ca,h,if_true]
theorem Il{P:Program}{t z:Nat}(h:(dV P t).bind (av P)=some z)(g:cf){es:List AV}{x:AV}(d:Sl z es x){n:Int}(e:0<=n)(b:n<=es.length) :
 ∃y,ca P g t (some x) (some (some n)) (some none) (some none)=some (y,[])/\Sl z (es.drop n.toNat) y:=by
 rcases d with ⟨rfl,rfl⟩ | ⟨c,rfl,a⟩
 ·refine⟨bF,?_,.inl ⟨rfl,by simp⟩⟩
  rw[Cf (by rw[h];rfl)]
  have:n=0:=by simp at b;omega
  subst this;rfl
 ·refine⟨.bl z (es.drop n.toNat) (c.map (· - n.toNat)),?_,.inr ⟨_,rfl,by cases c with | none=>simp | some k=>simp at a ⊢;omega⟩⟩
  rw[Cg h]
  simp only[bounds,qy,bO,Int.le_refl,and_true,if_pos (show 0<=n/\n<=es.length from⟨e,b⟩),Option.map_some,Ex]
  congr 3
  rw[fC (by simp)]
theorem KV{P:Program}{t z:Nat}(h:(dV P t).bind (av P)=some z)(g:cf){es:List AV}{x:AV}(e:Sl z es x){lo hi:Int}(f:0<=lo)(i:lo<=hi)(b:hi<=es.length) :
 ∃y,ca P g t (some x) (some (some lo)) (some (some hi)) (some none)=some (y,[])/\Sl z ((es.drop lo.toNat).take (hi.toNat - lo.toNat)) y:=by
 rcases e with ⟨rfl,rfl⟩ | ⟨c,rfl,a⟩
 ·refine⟨bF,?_,.inl ⟨rfl,by simp⟩⟩
  rw[Cf (by rw[h];rfl)]
  simp at b
  have j:lo=0:=by omega
  have d:hi=0:=by omega
  subst j;subst d;rfl
 ·refine⟨.bl z ((es.drop lo.toNat).take (hi.toNat - lo.toNat)) (c.map (· - lo.toNat)),?_,.inr ⟨_,rfl,by cases c with | none=>simp | some k=>simp at a ⊢;omega⟩⟩
  ·rw[Cg h]
   simp only[bounds,qy,bO,if_pos (show 0<=lo/\lo<=hi/\hi<=es.length from⟨f,i,b⟩),Option.map_some]
def sB(l:List UInt8):AV:=aS ⟨l.toArray⟩
theorem Fw(l:List UInt8):(al l).mapM byteOf=some l:=by
 unfold al
 induction l with
 | nil=>rfl
 | cons b l a=>
  simp only[tk,kI,a,od,o9]
  show(some (UInt8.ofNat ((b.toNat:Int)).toNat)).bind _=_
  simp
theorem Hj{P:Program}{src dst:TypeId}(b:cI P src=true)(a:isStr P dst=true){g:cf}{r:Ref}{l:List UInt8}{x:AV}(e:KD g 1 (al l) x)(f : ∀s,x ≠ .v (.string s)) :
 bC P g r src dst (some x)=some (sB l,[]):=by
 rcases e with ⟨rfl,c⟩ | ⟨h,d,he⟩
 ·have:=congrArg List.length c
  simp at this
  subst this
  simp only[bC,b,a,xa,if_true]
  rfl
 ·cases x with
  | v x=>
   exfalso
   cases x<;>first | (simp[bW]at he;done) | skip
   exact f _ rfl
  | _=>
   simp only[bC,b,a,xa,if_true,he,Fw,Option.map_some]
   rfl
theorem Sl.IS{z:Nat}{es:List AV}{x:AV}(h:Sl z es x) : ∀s,x ≠ .v (.string s):=by
 rcases h with ⟨rfl,_⟩ | ⟨c,rfl,_⟩<;>intro s e<;>cases e
theorem yW.IS{z:Nat}{es:List AV}{H:ab}{x:AV}(h:yW z es H x) : ∀s,x ≠ .v (.string s):=by
 rcases h with ⟨rfl,_⟩ | ⟨r,rfl,_⟩<;>intro s e<;>cases e
theorem Sl.conv{P:Program}{src dst:TypeId}{l:List UInt8}{x:AV}(a:Sl 1 (al l) x)(c:cI P src=true)(b:isStr P dst=true)(g:cf)(r:Ref):bC P g r src dst (some x)=some (sB l,[]):=
 Hj c b (a.C4 g) a.IS
theorem yW.conv{P:Program}{src dst:TypeId}{l:List UInt8}{H:ab}{x:AV}(a:yW 1 (al l) H x)(c:cI P src=true)(b:isStr P dst=true)(r:Ref):bC P H.get r src dst (some x)=some (sB l,[]):=
 Hj c b a.C4 a.IS
theorem qj(l:List UInt8):(⟨l.toArray⟩:ByteArray).toList=l:=by
 rw[ByteArray.toList_eq]
@[simp] theorem Rw(P:Program)(t:TypeId)(b a:Operand)(l m:List UInt8):bK P .eql t b a (some (sB l)) (some (sB m))=some (aB (decide (l=m)),[]):=by
 show some ((AV.v (.bool ((⟨l.toArray⟩:ByteArray).toList == (⟨m.toArray⟩:ByteArray).toList))),[])=_
 rw[qj,qj]
 congr 4
 by_cases h:l=m<;>simp[h]
@[simp] theorem Rv(P:Program)(t:TypeId)(b a:Operand)(l m:List UInt8):bK P .neq t b a (some (sB l)) (some (sB m))=some (aB (!decide (l=m)),[]):=by
 show some ((AV.v (.bool (!((⟨l.toArray⟩:ByteArray).toList == (⟨m.toArray⟩:ByteArray).toList)))),[])=_
 rw[qj,qj]
 congr 5
 by_cases h:l=m<;>simp[h]
theorem OE{P:Program}{a x:Bool}{H:ab}{r:Ref}{t z by' n:Nat}{ps:List (Nat × AV)}{zz:AV}(o:Pf P t z by'=true)(f:n * z<=16777216)(m:dt H.get ps=some ps)(c:ba H.get (ps.map (·.2))=[])
 (j:ps.all (λp=>p.2.cells.length == z&&p.2.cells.all AV.one)=true) (d:(dV P t).bind (ei P)=some zz) {es:List AV} (s:gq (List.replicate n zz) ps=some es) :
 jX P a x H r t n (some ps)=if a then some (.bl z es (some n),H) else some (.bD r 0 n (some n),({ r with k:=0},some ⟨z,es,true,false⟩) :: H):=by
 obtain⟨e,v,h,i,D,g,q,y,l,E⟩:=gk o
 rw[h]at d
 simp only[dF,g,dc]at d
 subst d
 have b:mkSlice P H.get t n ps=some ⟨z,es,true,false⟩:=by
  simp only[mkSlice,h,m,g,i]
  rw[if_pos ⟨ur l,f,q,y,by simpa using j⟩,s]
  rfl
 have u:fQ P a H.get r t n (some ps)=if a then some (.bl z es (some n),[]) else some (.bD r 0 n (some n),[⟨z,es,true,false⟩]):=by
  simp only[fQ,c,kX,yY,if_true,b,Option.map_some]
  cases a<;>rfl
 unfold jX
 rw[u]
 cases a<;>rfl
theorem KJ{g:cf}{r:Ref}{z:Nat}{es:List AV}{fz:Bool}(b:g r=some ⟨z,es,true,fz⟩){n:Nat}(a:n=es.length)(k:Nat)(c:Option Nat):view g (k+1) (.bD r 0 n c)=some (.bl z es c):=by
 subst a
 rw[F1 b,if_pos ⟨rfl,by simp⟩,y0,wz]
theorem Ji(l m:List UInt8):al l++al m=al (l++m):=by simp[al]
theorem CS(l:List UInt8)(n:Nat):(al l).take n=al (l.take n):=by simp[al]
theorem yJ(l:List UInt8)(n:Nat):(al l).drop n=al (l.drop n):=by simp[al]
theorem Hq{P:Program}{t t' z by':Nat}(i:Pf P t z by'=true)(f:FH P t'=true)(H:ab)(d c:Nat){es new:List AV}{s x:AV}(j:yW z es H s)(g:KD H.get z new x)
 (k:(es.length+new.length) * by'<=aX) (h:Fr H) :
 ∃e a,cS P true H ⟨d,c,H.gen d c,0⟩ (some t) (some t') s x=some (e,a)/\yW z (es++new) a e/\Fr a /\∀q b,H.get q=some b->s.at?≠some q->a.get q=some b/\e.at?≠some q:=
 QU i f j g k h ⟨d,c,rfl⟩
theorem yW.cy{z:Nat}{es:List AV}{H d:ab}{x s e:AV}(h:yW z es H x)(hp : ∀q b,H.get q=some b->s.at?≠some q->d.get q=some b/\e.at?≠some q)(c : ∀q,x.at?=some q->s.at?≠some q):yW z es d x /\∀q,x.at?=some q->e.at?≠some q:=by
 rcases h with ⟨rfl,rfl⟩ | ⟨r,rfl,g⟩
 ·exact⟨AJ z d,λq a=>by simp[AV.at?]at a⟩
 ·obtain⟨i,f⟩:=hp r _ g (c r rfl)
  exact⟨.inr ⟨r,rfl,i⟩,λq a=>by simp only[AV.at?,dc]at a;subst a;exact f⟩
theorem IY{P:Program}{t:TypeId}(h:isBool P t=true):P.underlying t=some .bool:=by
 unfold isBool at h
 split at h
 ·assumption
 ·cases h
theorem Di{P:Program}{t:TypeId}(h:isBool P t=true)(d:Nat)(a b:Bool):aV P (Op.equalIn (d+1) t (.bool a) (.bool b))=some (a == b):=by
 simp only[Op.equalIn,bq,lA (IY h),dF]
 rfl
theorem IK{P:Program}{t:TypeId}(h:isBool P t=true)(c:BinOp)(g:c = .eql\/c = .neq)(d e:Operand)(a b:Bool) :
 rB P c t d e (.bool a) (.bool b)=some (.bool (if c = .eql then a == b else !(a == b))):=by
 have f:aV P (Op.equal t (.bool a) (.bool b))=some (a == b):=Di h 9999 a b
 unfold rB
 rcases g with rfl | rfl
 ·have:aV P (eqGuard .eql t d e (.bool a) (.bool b))=some ():=rfl
  rw[bq,this,dF]
  show aV P (do pure (Value.bool (<-Op.equal t (.bool a) (.bool b))))=_
  rw[bq,f];rfl
 ·have:aV P (eqGuard .neq t d e (.bool a) (.bool b))=some ():=rfl
  rw[bq,this,dF]
  show aV P (do pure (Value.bool (!(<-Op.equal t (.bool a) (.bool b)))))=_
  rw[bq,f];rfl
@[simp] theorem Pc{P:Program}{t:TypeId}(h:isBool P t=true)(d c:Operand)(a b:Bool):bK P .eql t d c (some (aB a)) (some (aB b))=some (aB (a == b),[]):=by
 simp only[bK,Az,jo,iy,IK h .eql (.inl rfl),rl,uZ,gH,if_false,dF,fG,scalar,if_true,gJ,Option.map_some]
@[simp] theorem YZ(P:Program)(d:Bool)(g:cf)(r:Ref)(c:Array TypeId)(k:IntKind)(a b:Int):cW P d g r .min c [.v (.int k a),.v (.int k b)]=some (.v (.int k (if b<a then b else a)),[]):=id rfl
theorem Nv{P:Program}{r:Ref}{t z by':Nat}{zz:AV}(i:Pf P t z by'=true)(a:(dV P t).bind (ei P)=some zz){n:Nat}(d:n * by'<=aX)(m:n<9223372036854775808) :
 uy P r t (some (aI n)) (some (aI n))=some (.bD r 0 n none,[⟨z,List.replicate n zz,true,false⟩]):=by
 obtain⟨e,k,c,f,g,b,j,l,h,o⟩:=gk i
 rw[c]at a
 simp only[dF,b,dc]at a
 subst a
 simp only[uy,c,dF,qK,b,f,g]
 have:((n:Int) * (by':Int))<=(aX:Int):=by exact_mod_cast d
 rw[if_pos ⟨by omega,Int.le_refl _,this,by omega,ur h,j,l⟩,Ex]
theorem yW.cons{z:Nat}{es:List AV}{H:ab}{x:AV}(h:yW z es H x)(c:Fr H)(d t:Nat)(b:Option aJ):yW z es ((⟨d,t,H.gen d t,0⟩,b) :: H) x:=by
 rcases h with ⟨rfl,rfl⟩ | ⟨r,rfl,a⟩
 ·exact AJ z _
 ·refine .inr ⟨r,rfl,?_⟩
  rw[ab.jr,if_neg (mO c (by rw[a];rfl) d t 0)]
  exact a
theorem Qj{H:ab}{r:Ref}{z n:Nat}{es:List AV}{fz:Bool}(b:H.get r=some ⟨z,es,true,fz⟩)(a:n=es.length)(c:Option Nat):KD H.get z es (.bD r 0 n c):=by
 subst a
 refine .inr ⟨rfl,(by intro e;cases e),?_⟩
 simp[bW,b]
@[simp] theorem Uv(P:Program)(r:Ref)(e:TypeId){z:AV}(b:ei P e=some z)(a:0<(av P e).getD 0):oG P r e=if some z.cells.length=av P e/\z.cells.all AV.one=true then some (.ptr r 0 0,[⟨(av P e).getD 0,[z],false,false⟩]) else none:=by
 unfold oG
 rw[b]
 cases h:av P e with
 | none=>simp
 | some n=>rw[h]at a;simp only[bO]at a;simp[a]
@[simp] theorem Nz{P:Program}{t f:Nat}(h:0<((az P t f).getD (0,0)).2)(r:Ref)(i j:Nat):jA P t (some (.ptr r i j)) f=some (.ptr r i (j+((az P t f).getD (0,0)).1),[]):=by
 unfold jA
 cases a:az P t f with
 | none=>rw[a]at h;simp at h
 | some p=>obtain⟨o,s⟩:=p;rw[a]at h;simp only[bO]at h ⊢;rw[if_pos h]
def J4(cs:List AV)(a n:Nat)(b:Bool):Option AV:=if b then (if a+n<=cs.length then some (.agg ((cs.drop a).take n)) else none) else cs[a]?
@[simp] theorem X6(cs:List AV)(a n:Nat):J4 cs a n true=if a+n<=cs.length then some (.agg ((cs.drop a).take n)) else none:=id rfl
@[simp] theorem X7(cs:List AV)(a n:Nat):J4 cs a n false=cs[a]?:=id rfl
@[simp] theorem SK{P:Program}{t f:Nat}(h:(((oC P t f).bind λp=>av P p.2).isSome&&((oC P t f).bind λp=>eA P p.2).isSome)=true)(cs:List AV) :
 pE P t (some (.agg cs)) f=gJ (J4 cs ((oC P t f).getD (0,0)).1 ((av P ((oC P t f).getD (0,0)).2).getD 0) ((eA P ((oC P t f).getD (0,0)).2).getD false)):=by
 unfold pE
 cases a:oC P t f with
 | none=>rw[a]at h;simp at h
 | some p=>
  obtain⟨o,e⟩:=p
  rw[a]at h
  simp only[dF,aY]at h
  obtain⟨n,c⟩:=fO.1 h.1
  obtain⟨b,d⟩:=fO.1 h.2
  simp only[bO,vl,c,d]
  cases b<;>rfl
@[simp] theorem O7(cs:List AV)(new:List AV)(h:new.length=cs.length):fE [AV.agg cs] 0 0 new=some [AV.agg new]:=by
 simp[fE,lM,patch,h]
@[simp low] theorem Ph(cs:List AV)(j:Nat)(new:List AV)(h:j+new.length<=cs.length):fE [AV.agg cs] 0 j new=some [AV.agg (patch cs j new)]:=by
 simp[fE,lM,h]
@[simp] theorem V5(cs:List AV)(j:Nat)(new:List AV):patch cs j new=cs.take j++new++cs.drop (j+new.length):=id rfl
@[simp] theorem P6{P:Program}{t:TypeId}(c:(eA P t).isSome=true)(b:(av P t).isSome=true)(H:ab)(r:Ref)(i j:Nat):vk P H (.ptr r i j) t=N3 (H.get r) i j ((av P t).getD 0) ((eA P t).getD false):=by
 obtain⟨a,c⟩:=fO.1 c
 obtain⟨n,b⟩:=fO.1 b
 simp only[vk,c,b,bO]
 rfl
@[simp] theorem Pb{P:Program}{t:TypeId}{z:List AV}(b:ei P t=some (.agg z))(c:mi P t=none)(hp:(ic P t).isSome=true)(a:List (Nat × AV)) :
 kW P t (some a)=(qM (λi=>((ic P t).getD [])[i]?) z a).map λcs=>(.agg cs,[]):=by
 obtain⟨ps,hp⟩:=fO.1 hp
 simp only[kW,b,c,hp,bO]
@[simp] theorem Qb(a:List AV)(i:Nat):pj (some (.tup a)) i=gJ a[i]?:=id rfl
@[simp] theorem VY(r:Ref)(i j:Nat):Gu (some (.ptr r i j))=some (.ptr r i j,[]):=id rfl
@[simp] theorem ab.Ki(d t:Nat):ab.gen [] d t=0:=id rfl
@[simp] theorem ab.CI(d t g k:Nat)(b:Option aJ)(H:ab)(a t':Nat):ab.gen ((⟨d,t,g,k⟩,b) :: H) a t'=if d=a/\t=t' then g+1 else ab.gen H a t':=id rfl
@[simp] theorem Af{c d:Type}(f:c->Option d)(a:c)(l:List c):List.mapM f (a :: l)=(f a).bind λb=>(List.mapM f l).map (b :: ·):=by
 rw[kI];cases f a<;>cases List.mapM f l<;>rfl
@[simp] theorem SC{b:Type}(f:b->AV)(l:List b)(i j n:Nat)(c:Bool):cG (l.map f) i j n c=(l[i]?).bind λa=>cG [f a] 0 j n c:=by
 unfold cG
 rw[kJ]
 cases l[i]?<;>rfl
theorem drop_cons{c:Type}{l:List c}{k:Nat}{a:c}{s:List c}(h:l.drop k=a :: s) : ∃b:k<l.length,l[k]=a/\l.drop (k+1)=s/\l[k]?=some a:=by
 have b:k<l.length:=by
  have:=congrArg List.length h
  simp at this;omega
 rw[List.drop_eq_getElem_cons b]at h
 cases h
 exact⟨b,rfl,rfl,cw b⟩
theorem drop_nil{a:Type}{l:List a}{k:Nat}(h:l.drop k=[])(b:k<=l.length):k=l.length:=by
 have:=congrArg List.length h
 simp at this;omega
theorem oN{b:Bool}{q:gl}{K:AV->Prop}{m:Mk (q,K)}(a:b=true->ew q K)(c:b=false->K AV.undef):gQ (aB b) true q K m:=by
 cases b
 ·exact(WM q K m).2 (c rfl)
 ·exact(WK q K m).2 (a rfl)
theorem oO{b:Bool}{q:gl}{K:AV->Prop}{m:Mk (q,K)}(a:b=true->K AV.undef)(c:b=false->ew q K):gQ (aB b) false q K m:=by
 cases b
 ·exact(WN q K m).2 (c rfl)
 ·exact(WL q K m).2 (a rfl)
theorem oL{b:Bool}{H:ab}{q:cb}{K:AV->ab->Prop}{m:Mk (q,K)}(a:b=true->iq q K)(c:b=false->K AV.undef H):gW (aB b) true H q K m:=by
 cases b
 ·exact(WI H q K m).2 (c rfl)
 ·exact(WG H q K m).2 (a rfl)
theorem oM{b:Bool}{H:ab}{q:cb}{K:AV->ab->Prop}{m:Mk (q,K)}(a:b=true->K AV.undef H)(c:b=false->iq q K):gW (aB b) false H q K m:=by
 cases b
 ·exact(WJ H q K m).2 (c rfl)
 ·exact(WH H q K m).2 (a rfl)
theorem tQ{H:ab}(a:Fr H){q:Ref}(h:(H.get q).isSome=true)(d t k:Nat):((⟨d,t,H.gen d t,k⟩:Ref)=q)=False:=
 eq_false (mO a h d t k)
theorem tS{H:ab}(a:Fr H){q:Ref}(h:(H.get q).isSome=true)(d t k:Nat):(q=(⟨d,t,H.gen d t,k⟩:Ref))=False:=
 eq_false λe=>mO a h d t k e.symm
theorem Kg{H:ab}(a:Fr H)(d t k:Nat):H.get ⟨d,t,H.gen d t,k⟩=none:=a _ _ _ _ (aW _)
theorem FI{H:ab}(c:Fr H){d t g:Nat}(a:g=H.gen d t)(b:Option aJ):Fr ((⟨d,t,g,0⟩,b) :: H):=by subst a;exact c.cons d t b
theorem Jt{H:ab}(c:Fr H){r:Ref}(a:(H.get r).isSome=true)(b:Option aJ):Fr (H.put r b):=c.put b a
theorem CH{H:ab}{r:Ref}(a:(H.get r).isSome=true)(b:Option aJ)(d t:Nat):(H.put r b).gen d t=H.gen d t:=ab.fp H r b a d t
theorem D6{E:Env}{f:FuncId}(a:pG (E.mode f)=false)(x:AV)(H:ab)(y:AV):kE E f x H y↔view H.get depth x=some y:=by
 unfold kE
 rw[if_neg (by simpa using a)]
theorem Ai{E:Env}{f:FuncId}(a:pG (E.mode f)=true)(x:AV)(H:ab)(y:AV):kE E f x H y↔(ad H.get depth x).Nodup/\bj H.get depth x=some y:=by
 unfold kE
 rw[if_pos (by simpa using a)]
def pX(a:Bool)(H:ab)(r:Ref)(refs:List Ref)(o:Option AV):cb:=match o with
 | some y=>if flat depth y||kX H.get refs then some ((af r depth y []).1,keyed r 0 (af r depth y []).2 H)
  else if a then some ((af r depth y []).1,keyed r 0 (af r depth y []).2 (bG H refs)) else none
 | none=>none
noncomputable def Oz(E:Env)(a:Bool)(H:ab)(r:Ref)(refs:List Ref)(f:FuncId)(o:Option (List AV)):cb:=match o with
 | some xs=>pX a H r refs (au E f xs)
 | none=>none
theorem aO{E:Env}(a:Bool)(dep:Nat)(H:ab)(r:Ref)(f:FuncId)(d:(E.mode f == 2)=false)(b:(E.mode f == 3)=false)(first captured args:List AV) :
 aT E a (au E) (dA E dep) H r (some (.fn (.func f) first captured)) args=Oz E a H r (ba H.get (first++args++captured)) f ((first++args++captured).mapM (view H.get depth)):=by
 have c:E.mode f≠2:=by simpa using d
 simp only[aT,iZ,kK,if_neg c,b,rl,Bool.or_false]
 cases(first++args++captured).mapM (view H.get depth) with
 | none=>cases a<;>rfl
 | some xs=>
  dsimp only[Oz]
  cases au E f xs with
  | none=>cases a<;>rfl
  | some y=>
   dsimp only[pX,Option.map_some]
   cases e:(flat depth y||kX H.get (ba H.get (first++args++captured))) with
   | true=>rfl
   | false=>cases a<;>rfl
@[simp] theorem TJ(E:Env)(a:Bool)(H:ab)(r:Ref)(refs:List Ref)(f:FuncId)(b:List AV):Oz E a H r refs f (some b)=pX a H r refs (au E f b):=id rfl
@[simp] theorem TK(a:Bool)(H:ab)(r:Ref)(refs:List Ref)(y:AV)(h:flat depth y=true):pX a H r refs (some y)=some (y,H):=by
 simp only[pX,h,Bool.true_or,if_true]
 rw[rI r depth depth y [] h]
 rfl
theorem aE(a:Bool)(H:ab)(r:Ref)(y:AV):pX a H r [] (some y)=some ((af r depth y []).1,keyed r 0 (af r depth y []).2 H):=by
 simp only[pX,kX,yY,Bool.or_true,if_true]
theorem aQ(a:Bool)(H:ab)(r:Ref)(refs:List Ref)(y:AV)(h:kX H.get refs=true):pX a H r refs (some y)=some ((af r depth y []).1,keyed r 0 (af r depth y []).2 H):=by
 simp only[pX,h,Bool.or_true,if_true]
@[simp] theorem Y6(n:Nat)(x:Value):flat (n+1) (.v x)=true:=id rfl
@[simp] theorem Y7(n:Nat)(x:UInt8):flat (n+1) (a8 x)=true:=id rfl
@[simp] theorem Ym(n:Nat)(x:UInt32):flat (n+1) (bc x)=true:=id rfl
@[simp] theorem WR(n:Nat)(cs:List AV):flat (n+1) (.agg cs)=cs.all (flat n):=id rfl
@[simp] theorem UT(n:Nat)(cs:List AV):flat (n+1) (.tup cs)=cs.all (flat n):=id rfl
@[simp] theorem WQ(n z:Nat)(es:List AV)(c:Option Nat):flat (n+1) (.fsl z es c)=false:=id rfl
@[simp] theorem Rr(g:cf):ba g []=[]:=id rfl
@[simp] theorem P5(g:cf)(x:AV)(a:List AV):ba g (x :: a)=ad g depth x++ba g a:=id rfl
@[simp] theorem Sd(g:cf)(n:Nat)(x:Value):ad g n (.v x)=[]:=by cases n<;>rfl
@[simp] theorem Se(g:cf)(n:Nat)(x:UInt8):ad g n (a8 x)=[]:=by cases n<;>rfl
@[simp] theorem Rk(g:cf)(n:Nat)(x:UInt32):ad g n (bc x)=[]:=by cases n<;>rfl
@[simp] theorem Pn(g:cf)(n z:Nat)(es:List AV)(c:Option Nat):ad g n (.bl z es c)=[]:=by cases n<;>rfl
@[simp] theorem O8(g:cf)(n z:Nat)(es:List AV)(i j:Nat):ad g n (.iptr z es i j)=[]:=by cases n<;>rfl
@[simp] theorem Po(g:cf)(n:Nat)(cs:List AV):ad g (n+1) (.agg cs)=cs.flatMap (ad g n):=id rfl
@[simp] theorem Pl(g:cf)(n:Nat)(cs:List AV):ad g (n+1) (.tup cs)=cs.flatMap (ad g n):=id rfl
@[simp] theorem Pm(g:cf)(n:Nat)(r:Ref)(o l:Nat)(c:Option Nat):ad g (n+1) (.bD r o l c)=[r]:=id rfl
@[simp] theorem Ri(g:cf)(n:Nat)(f:Fn)(a b:List AV):ad g (n+1) (.fn f a b)=a.flatMap (ad g n)++b.flatMap (ad g n):=id rfl
def Rm(o l:Nat)(c:Option Nat)(b:Option aJ):Option AV:=match b with
 | some b=>if b.arr=true/\o+l<=b.es.length then some (.bl b.esz ((b.es.drop o).take l) c) else none
 | none=>none
@[simp] theorem T3(g:cf)(n:Nat)(r:Ref)(o l:Nat)(c:Option Nat):view g (n+1) (.bD r o l c)=Rm o l c (g r):=id rfl
@[simp] theorem Sg(o l:Nat)(c:Option Nat)(b:aJ):Rm o l c (some b)=if b.arr=true/\o+l<=b.es.length then some (.bl b.esz ((b.es.drop o).take l) c) else none:=id rfl
def Rl(g:cf)(n i j:Nat)(b:Option aJ):Option AV:=match b with
 | some b=>if b.arr then some (.iptr b.esz b.es i j) else (b.es.mapM (view g n)).map λes => .iptr b.esz es i j
 | none=>none
@[simp] theorem T2(g:cf)(n:Nat)(r:Ref)(i j:Nat):view g (n+1) (.ptr r i j)=Rl g n i j (g r):=id rfl
@[simp] theorem Sf(g:cf)(n i j:Nat)(b:aJ):Rl g n i j (some b)=if b.arr then some (.iptr b.esz b.es i j) else (b.es.mapM (view g n)).map λes => .iptr b.esz es i j:=id rfl
@[simp] theorem Xe(g:cf)(n:Nat)(f:Fn)(a b:List AV):view g (n+1) (.fn f a b)=(a.mapM (view g n)).bind λa=>(b.mapM (view g n)).map λb => .fn f a b:=by
 rw[view]
 cases a.mapM (view g n)<;>cases b.mapM (view g n)<;>rfl
@[simp] theorem Ww(r:Ref)(n:Nat)(x:Value)(bs:List aJ):af r n (.v x) bs=(.v x,bs):=by cases n<;>rfl
@[simp] theorem Wx(r:Ref)(n:Nat)(x:UInt8)(bs:List aJ):af r n (a8 x) bs=(a8 x,bs):=by cases n<;>rfl
@[simp] theorem UO(r:Ref)(n:Nat)(x:UInt32)(bs:List aJ):af r n (bc x) bs=(bc x,bs):=by cases n<;>rfl
@[simp] theorem Tl(r:Ref)(n z:Nat)(es:List AV)(c:Option Nat)(bs:List aJ):af r n (.bl z es c) bs=(.bl z es c,bs):=by cases n<;>rfl
@[simp] theorem Tm(r:Ref)(n z:Nat)(es:List AV)(c:Option Nat)(bs:List aJ)(a:z≠0):af r (n+1) (.fsl z es c) bs=(.bD { r with k:=bs.length} 0 es.length c,bs++[⟨z,es,true,false⟩]):=by
 simp only[af,if_neg a]
def qi(r:Ref)(n:Nat):List AV->List AV->List aJ->List AV × List aJ
 | [],acc,bs=>(acc,bs)
 | c :: cs,acc,bs=>qi r n cs (acc++[(af r n c bs).1]) (af r n c bs).2
theorem CA(r:Ref)(n:Nat)(cs:List AV) : ∀(a:List AV)(bs:List aJ),cs.foldl (λ(p:List AV × List aJ) c=>let (y,bs):=af r n c p.2;(p.1++[y],bs)) (a,bs)=qi r n cs a bs:=by
 induction cs with
 | nil=>intro a bs;rfl
 | cons c cs b=>intro a bs;rw[uq];exact b _ _
@[simp] theorem Tn(r:Ref)(n:Nat)(cs:List AV)(bs:List aJ):af r (n+1) (.agg cs) bs=(.agg (qi r n cs [] bs).1,(qi r n cs [] bs).2):=by
 rw[<-CA];rfl
@[simp] theorem Tj(r:Ref)(n:Nat)(cs:List AV)(bs:List aJ):af r (n+1) (.tup cs) bs=(.tup (qi r n cs [] bs).1,(qi r n cs [] bs).2):=by
 rw[<-CA];rfl
@[simp] theorem Rz(r:Ref)(n:Nat)(a:List AV)(bs:List aJ):qi r n [] a bs=(a,bs):=id rfl
@[simp] theorem Qw(r:Ref)(n:Nat)(c:AV)(cs a:List AV)(bs:List aJ):qi r n (c :: cs) a bs=qi r n cs (a++[(af r n c bs).1]) (af r n c bs).2:=id rfl
@[simp] theorem Pd(H:ab):bG H []=H:=id rfl
def Kk(H:ab)(r:Ref)(b:Option aJ):ab:=match b with
 | some b=>H.put r (some { b with fN:=true})
 | none=>H
@[simp] theorem Og(H:ab)(r:Ref)(a:List Ref):bG H (r :: a)=bG (Kk H r (H.get r)) a:=by
 show(match H.get r with | some b=>bG (H.put r (some { b with fN:=true})) a | none=>bG H a)=_
 cases H.get r<;>rfl
@[simp] theorem QD(H:ab)(r:Ref)(b:aJ):Kk H r (some b)=H.put r (some { b with fN:=true}):=id rfl
def Km(l:Nat)(c:Option Nat)(b:Option aJ):Option AV:=match b with
 | some b=>if b.arr=true/\l<=b.es.length then some (if b.fN then .bl b.esz (b.es.take l) c else .fsl b.esz (b.es.take l) c) else none
 | none=>none
@[simp] theorem Ty(g:cf)(n:Nat)(r:Ref)(l:Nat)(c:Option Nat):bj g (n+1) (.bD r 0 l c)=Km l c (g r):=id rfl
@[simp] theorem QM(l:Nat)(c:Option Nat)(b:aJ):Km l c (some b)=if b.arr=true/\l<=b.es.length then some (if b.fN then .bl b.esz (b.es.take l) c else .fsl b.esz (b.es.take l) c) else none:=id rfl
@[simp] theorem WS(g:cf)(n:Nat)(x:Value):bj g (n+1) (.v x)=some (.v x):=id rfl
@[simp] theorem WT(g:cf)(n:Nat)(x:UInt8):bj g (n+1) (a8 x)=some (a8 x):=id rfl
@[simp] theorem UU(g:cf)(n:Nat)(x:UInt32):bj g (n+1) (bc x)=some (bc x):=id rfl
@[simp] theorem Tz(g:cf)(n:Nat)(cs:List AV):bj g (n+1) (.agg cs)=(cs.mapM (bj g n)).map .agg:=id rfl
@[simp] theorem Tx(g:cf)(n:Nat)(cs:List AV):bj g (n+1) (.tup cs)=(cs.mapM (bj g n)).map .tup:=id rfl
theorem Sl.idx{z:Nat}{es:List AV}{x:AV}(h:Sl z es x){P:Program}{t:TypeId}(a:(dV P t).bind (av P)=some z)(g:cf)(b:IntKind)(k:Int) :
 bE P g t (some x) (some (.v (.int b k)))=if 0<=k/\k<es.length then some (.iptr z es k.toNat 0,[]) else none:=by
 rcases h with ⟨rfl,rfl⟩ | ⟨c,rfl,_⟩
 ·obtain⟨e,he,d⟩:=He a
  rw[if_neg (by simp)]
  simp[bE,qK,he]
 ·exact Cj a g es c b k
theorem Sl.exp{z:Nat}{es:List AV}{x:AV}(h:Sl z es x)(g:cf)(n:Nat):bj g (n+1) x=some x:=by
 rcases h with ⟨rfl,rfl⟩ | ⟨c,rfl,_⟩<;>rfl
theorem Sl.imp'{z:Nat}{es:List AV}{x:AV}(h:Sl z es x)(r:Ref)(n:Nat)(bs:List aJ):af r n x bs=(x,bs):=by
 rcases h with ⟨rfl,rfl⟩ | ⟨c,rfl,_⟩<;>cases n<;>rfl
theorem Sl.r{z:Nat}{es:List AV}{x:AV}(h:Sl z es x):pr x=some es.length/\(∀g n,Ab.view g (n+1) x=some x)/\(∀g n,ad g n x=[])/\x.cells=[x]/\x.one=true/\(∀g n,bj g (n+1) x=some x)/\(∀r n bs,af r n x bs=(x,bs)):=
 ⟨h.len,h.view,h.refs,h.cells.1,h.cells.2,h.exp,h.imp'⟩
@[simp] theorem OZ(z:Nat)(es es':List AV)(c:Option Nat):Sl z es (.bl z es' c)↔es=es'/\es.length<=c.getD es.length:=by
 constructor
 ·rintro(⟨e,_⟩ | ⟨a,e,h⟩)
  ·cases e
  ·cases e;exact⟨rfl,h⟩
 ·rintro⟨rfl,h⟩;exact .inr ⟨c,rfl,h⟩
theorem OT{P:Program}{t t' z by':Nat}(g:Pf P t z by'=true)(a:FH P t'=true)(v:Bool)(H:ab)(r:Ref){new:List AV}{x:AV}(f:KD H.get z new x)(j:new≠[])(y:new.length * by'<=aX) :
 cS P v H r (some t) (some t') bF x=some (.bD r 0 new.length none,({ r with k:=0},some ⟨z,new,true,false⟩) :: H):=by
 obtain⟨e,zz,i,l,m,u,s,D,q,o⟩:=gk g
 have b:=f.kn g i
 unfold FH at a
 simp only[aY,gE]at a
 have c:(P.underlying t').isNone=false:=by cases h:P.underlying t' with | none=>rw[h]at a;simp at a | some d=>rfl
 have n : ¬((P.underlying t').isNone=true\/isInt P t'≠isNum x):=by
  rw[c,a.2,f.num];simp
 have p : ¬(z≠z\/z=0\/by'=0\/zz.cells.length≠z):=by simp[s,q,o]
 simp only[cS,dy,dF,i,Option.map_some,bO,if_neg n,l,m,u,b,if_neg p,if_neg j,if_pos y]
 rfl
theorem OS{P:Program}{t t' z by':Nat}(u:Pf P t z by'=true)(b:FH P t'=true)(H:ab)(r q:Ref)(n:Nat){new es:List AV}{x:AV}(m:KD H.get z new x){fz:Bool}(D:H.get q=some ⟨z,es,true,fz⟩)(E:n=es.length)(c:new≠[])(G:(es.length+new.length) * by'<=aX) :
 cS P true H r (some t) (some t') (.bD q 0 n none) x=some (.bD ⟨q.d,q.t,H.gen q.d q.t,0⟩ 0 (es.length+new.length) none,(⟨q.d,q.t,H.gen q.d q.t,0⟩,some ⟨z,es++new,true,fz⟩) :: H.put q none):=by
 subst E
 obtain⟨e,zz,j,k,l,y,v,I,s,p⟩:=gk u
 have a:=m.kn u j
 unfold FH at b
 simp only[aY,gE]at b
 have f:(P.underlying t').isNone=false:=by cases h:P.underlying t' with | none=>rw[h]at b;simp at b | some d=>rfl
 have o : ¬((P.underlying t').isNone=true\/isInt P t'≠isNum x):=by
  rw[f,b.2,m.num];simp
 have F : ¬(z≠z\/z=0\/by'=0\/zz.cells.length≠z):=by simp[v,s,p]
 have g : ¬(z≠z\/z=0\/by'=0\/new=[]\/zz.cells.length≠z):=by simp[v,s,p,c]
 have i:dy P H.get r (some t) (some t') (.bD q 0 es.length none) x=none:=by
  simp only[dy,dF,j,Option.map_some,bO,if_neg o,k,l,y,a,if_neg F,D,if_neg c]
  simp
 simp only[cS,i,zx,Co]
 simp only[gT,dF,j,Option.map_some,bO,if_neg o,k,l,y,a,if_neg g,D,G,and_self,if_true,true_and]
def jf(P:Program)(t:TypeId):Nat:=((dV P t).bind (av P)).getD 0
def pw(P:Program)(t:TypeId):Nat:=((dV P t).bind (ly P)).getD 0
def gN(P:Program)(t:TypeId):AV:=((dV P t).bind (ei P)).getD AV.undef
def pK(P:Program)(t:TypeId):Bool:=Pf P t (jf P t) (pw P t)
def QP(z:Nat)(o:Option (Nat × List AV)):Option (List AV):=match o with
 | some (a,es)=>if a=z then some es else none
 | none=>none
def kq(z:Nat)(g:cf)(x:AV):Option (List AV):=match x with
 | .v (.slice none 0 0)=>some []
 | .v (.int _ _)=>none
 | x=>QP z (bW g x)
@[simp] theorem UY(z:Nat)(g:cf):kq z g bF=some []:=id rfl
@[simp] theorem UZ(z:Nat)(g:cf)(a:Nat)(es:List AV)(c:Option Nat):kq z g (.bl a es c)=if a=z then some es else none:=id rfl
def TC(z o n:Nat)(b:Option aJ):Option (List AV):=match b with
 | some b=>if (b.arr=true/\o+n<=b.es.length)/\b.esz=z then some ((b.es.drop o).take n) else none
 | none=>none
@[simp] theorem U0(z o n:Nat)(b:aJ):TC z o n (some b)=if (b.arr=true/\o+n<=b.es.length)/\b.esz=z then some ((b.es.drop o).take n) else none:=id rfl
@[simp] theorem UX(z:Nat)(g:cf)(r:Ref)(o n:Nat)(c:Option Nat):kq z g (.bD r o n c)=TC z o n (g r):=by
 unfold kq TC
 simp only[bW]
 cases g r with
 | none=>rfl
 | some b=>
  dsimp only
  by_cases h:b.arr=true/\o+n<=b.es.length
  ·by_cases a:b.esz=z
   ·rw[if_pos h,if_pos ⟨h,a⟩];simp[QP,a]
   ·rw[if_pos h,if_neg (λe=>a e.2)];simp[QP,a]
  ·rw[if_neg h,if_neg (λe=>h e.1)];rfl
theorem Sl.kq{z:Nat}{es:List AV}{x:AV}(h:Sl z es x)(g:cf):Ab.kq z g x=some es:=by
 rcases h with ⟨rfl,rfl⟩ | ⟨c,rfl,_⟩<;>simp
theorem qu{z:Nat}{g:cf}{x:AV}{new:List AV}(h:kq z g x=some new):KD g z new x:=by
 unfold kq at h
 split at h
 ·cases h;exact .inl ⟨rfl,rfl⟩
 ·cases h
 ·rename_i c b
  unfold QP at h
  split at h
  ·rename_i f es d
   split at h
   ·rename_i a
    cases h;subst a
    refine .inr ⟨?_,λe=>?_,d⟩
    ·cases x with
     | v u=>cases u with
      | int k n=>exact(b _ _ rfl).elim
      | _=>rfl
     | _=>rfl
    ·exact c e
   ·cases h
  ·cases h
def W8(z by':Nat)(H:ab)(r:Ref)(new:Option (List AV)):cb:=match new with
 | some new=>if new=[] then some (bF,H) else if new.length * by'<=aX then some (.bD r 0 new.length none,({ r with k:=0},some ⟨z,new,true,false⟩) :: H) else none
 | none=>none
@[simp] theorem L0(z by':Nat)(H:ab)(r:Ref)(new:List AV):W8 z by' H r (some new)=if new=[] then some (bF,H) else if new.length * by'<=aX then some (.bD r 0 new.length none,({ r with k:=0},some ⟨z,new,true,false⟩) :: H) else none:=id rfl
@[simp] theorem TT{P:Program}{t t':TypeId}(i:pK P t=true)(c:FH P t'=true)(y:Bool)(H:ab)(r:Ref)(x:AV)(g:(kq (jf P t) H.get x).isSome=true) :
 cS P y H r (some t) (some t') bF x=W8 (jf P t) (pw P t) H r (kq (jf P t) H.get x):=by
 obtain⟨new,D⟩:=fO.1 g
 rw[D,L0]
 have g:=qu D
 unfold pK at i
 by_cases b:new=[]
 ·rw[if_pos b]
  subst b
  obtain⟨e,zz,j,k,l,q,p,E,o,n⟩:=gk i
  have a:=g.kn i j
  unfold FH at c
  simp only[aY,gE]at c
  have f:(P.underlying t').isNone=false:=by cases h:P.underlying t' with | none=>rw[h]at c;simp at c | some d=>rfl
  have m : ¬((P.underlying t').isNone=true\/isInt P t'≠isNum x):=by rw[f,c.2,g.num];simp
  have s : ¬(jf P t≠jf P t\/jf P t=0\/pw P t=0\/zz.cells.length≠jf P t):=by simp[p,o,n]
  simp only[cS,dy,dF,j,Option.map_some,bO,if_neg m,k,l,q,a,if_neg s,if_true]
  rfl
 ·rw[if_neg b]
  split
  ·rename_i z;exact OT i c y H r g b z
  ·rename_i z
   obtain⟨e,zz,j,k,l,q,p,E,o,n⟩:=gk i
   have a:=g.kn i j
   unfold FH at c
   simp only[aY,gE]at c
   have f:(P.underlying t').isNone=false:=by cases h:P.underlying t' with | none=>rw[h]at c;simp at c | some d=>rfl
   have m : ¬((P.underlying t').isNone=true\/isInt P t'≠isNum x):=by rw[f,c.2,g.num];simp
   have s : ¬(jf P t≠jf P t\/jf P t=0\/pw P t=0\/zz.cells.length≠jf P t):=by simp[p,o,n]
   have u : ¬(jf P t≠jf P t\/jf P t=0\/pw P t=0\/new=[]\/zz.cells.length≠jf P t):=by simp[p,o,n,b]
   have v:dy P H.get r (some t) (some t') bF x=none:=by
    simp only[dy,dF,j,Option.map_some,bO,if_neg m,k,l,q,a,if_neg s,if_neg b,if_neg z]
   simp only[cS,v,zx]
   cases y
   ·rfl
   ·simp only[Co,gT,dF,j,Option.map_some,bO,if_neg m,k,l,q,a,if_neg u]
def YH(a:Bool)(z:Nat)(zz:AV)(H:ab)(r:Ref)(n:Nat)(ps:List (Nat × AV)):cb:=match gq (List.replicate n zz) ps with
 | some es=>if a then some (.bl z es (some n),H) else some (.bD r 0 n (some n),({ r with k:=0},some ⟨z,es,true,false⟩) :: H)
 | none=>none
@[simp] theorem YG{P:Program}{t:TypeId}(d:pK P t=true)(a l:Bool)(H:ab)(r:Ref)(n:Nat)(ps:List (Nat × AV))(g:n * jf P t<=16777216)(j:dt H.get ps=some ps)(c:ba H.get (ps.map (·.2))=[])
 (i:ps.all (λp=>p.2.cells.length == jf P t&&p.2.cells.all AV.one)=true) (b:(gq (List.replicate n (gN P t)) ps).isSome=true) :
 jX P a l H r t n (some ps)=YH a (jf P t) (gN P t) H r n ps:=by
 obtain⟨es,b⟩:=fO.1 b
 unfold pK at d
 obtain⟨e,zz,m,o,q,k,v,x,u,s⟩:=gk d
 have h:(dV P t).bind (ei P)=some zz:=by rw[m];exact k
 have f:gN P t=zz:=by unfold gN;rw[h];rfl
 rw[f]at b ⊢
 rw[OE d g j c i h b]
 unfold YH
 rw[b]
@[simp] theorem Pe(es:List AV):gq es []=some es:=id rfl
@[simp] theorem Oi(es:List AV)(i:Nat)(v:AV)(ps:List (Nat × AV)):gq es ((i,v) :: ps)=if i<es.length then gq (es.set i v) ps else none:=id rfl
@[simp] theorem W2(a:Bool)(z:Nat)(zz:AV)(H:ab)(r:Ref)(n:Nat)(ps:List (Nat × AV)):YH a z zz H r n ps=(gq (List.replicate n zz) ps).bind λes=>if a then some (.bl z es (some n),H) else some (.bD r 0 n (some n),({ r with k:=0},some ⟨z,es,true,false⟩) :: H):=by
 unfold YH;cases gq (List.replicate n zz) ps<;>rfl
@[simp] theorem O9(g:cf):dt g []=some []:=id rfl
@[simp] theorem Mw(g:cf)(i:Nat)(x:AV)(ps:List (Nat × AV)):dt g ((i,x) :: ps)=(view g depth x).bind λy=>(dt g ps).map ((i,y) :: ·):=by
 unfold dt
 rw[Af]
 dsimp only
 cases view g depth x<;>rfl
def Wy(z o n:Nat)(k:Int)(r:Ref)(b:Option aJ):gl:=match b with
 | some b=>if 0<=k/\k<n/\z=b.esz then some (.ptr r (o+k.toNat) 0,[]) else none
 | none=>none
@[simp] theorem UP(z o n:Nat)(k:Int)(r:Ref)(b:aJ):Wy z o n k r (some b)=if 0<=k/\k<n/\z=b.esz then some (.ptr r (o+k.toNat) 0,[]) else none:=id rfl
@[simp] theorem Me{P:Program}{t:TypeId}(h:pK P t=true)(g:cf)(r:Ref)(o n:Nat)(c:Option Nat)(b:IntKind)(k:Int) :
 bE P g t (some (.bD r o n c)) (some (.v (.int b k)))=Wy (jf P t) o n k r (g r):=by
 unfold pK at h
 obtain⟨e,zz,d,a,j,i,f,p,m,l⟩:=gk h
 simp only[bE,dF,qK,d,a]
 cases g r<;>rfl
def Ii(H:ab)(r:Ref)(o:Option aJ)(n i j:Nat)(x:AV):cb:=match o with
 | some ⟨z,es,true,false⟩=>if x.cells.length=n/\x.cells.all AV.one=true then (fE es i j x.cells).map λes=>(AV.undef,H.put r (some ⟨z,es,true,false⟩)) else none
 | some ⟨z,es,false,false⟩=>if x.cells.length=n/\x.cells.all AV.one=true then (fE es i j x.cells).map λes=>(AV.undef,H.put r (some ⟨z,es,false,false⟩)) else none
 | _=>none
@[simp] theorem BP(H:ab)(r:Ref)(z:Nat)(es:List AV)(n i j:Nat)(x:AV):Ii H r (some ⟨z,es,true,false⟩) n i j x=if x.cells.length=n/\x.cells.all AV.one=true then (fE es i j x.cells).map λes=>(AV.undef,H.put r (some ⟨z,es,true,false⟩)) else none:=id rfl
@[simp] theorem Sk(H:ab)(r:Ref)(z:Nat)(es:List AV)(n i j:Nat)(x:AV):Ii H r (some ⟨z,es,false,false⟩) n i j x=if x.cells.length=n/\x.cells.all AV.one=true then (fE es i j x.cells).map λes=>(AV.undef,H.put r (some ⟨z,es,false,false⟩)) else none:=id rfl
def Ik(H:ab)(o:Option aJ)(x:AV):Prop:=match o with
 | some ⟨_,_,false,false⟩=>True
 | some ⟨_,_,true,false⟩=>view H.get depth x=some x/\ad H.get depth x=[]
 | _=>False
@[simp] theorem Sn(H:ab)(z:Nat)(es:List AV)(x:AV):Ik H (some ⟨z,es,false,false⟩) x=True:=id rfl
@[simp] theorem So(H:ab)(z:Nat)(es:List AV)(x:AV):Ik H (some ⟨z,es,true,false⟩) x=(view H.get depth x=some x/\ad H.get depth x=[]):=id rfl
theorem so{P:Program}{t:TypeId}(d:(av P t).isSome=true)(H:ab)(r:Ref)(i j:Nat)(x:AV)(c:Ik H (H.get r) x) :
 iu P H t (some (.ptr r i j)) (some x)=Ii H r (H.get r) ((av P t).getD 0) i j x:=by
 obtain⟨n,d⟩:=fO.1 d
 simp only[iu,d,bO]
 cases e:H.get r with
 | none=>rw[e]at c;exact c.elim
 | some b=>
  rw[e]at c
  obtain⟨z,es,arr,fN⟩:=b
  cases fN with
  | true=>cases arr<;>exact c.elim
  | false=>
   cases arr with
   | false=>simp only[and_true,gH,if_false];rfl
   | true=>
    obtain⟨g,f⟩:=c
    simp only[and_true,if_true,g,f,uV,if_false,bG]
    by_cases a:x.cells.length=n/\x.cells.all AV.one=true
    ·rw[if_pos a,BP,if_pos a,if_pos a.2]
    ·rw[if_neg a,BP,if_neg a]
@[simp] theorem C5(cs:List AV)(j:Nat)(new:List AV):lM (.agg cs) j new=if j+new.length<=cs.length then some (.agg (patch cs j new)) else none:=id rfl
@[simp] theorem Re(x:UInt8)(y:AV):lM (a8 x) 0 [y]=some y:=id rfl
@[simp] theorem SJ(f:Fn)(a b:List AV):uB f (some a) (some b)=some (.fn f a b,[]):=id rfl
attribute [simp] so
@[simp] theorem Tw(a:Nat->Option (Nat × Nat))(cells:List AV):qM a cells []=some cells:=id rfl
def R2(a:Nat->Option (Nat × Nat))(cells:List AV)(v:AV)(rest:List (Nat × AV))(p:Option (Nat × Nat)):Option (List AV):=match p with
 | none=>none
 | some (off,size)=>if v.cells.length=size/\off+size<=cells.length then qM a (patch cells off v.cells) rest else none
@[simp] theorem R3(a:Nat->Option (Nat × Nat))(cells:List AV)(i:Nat)(v:AV)(rest:List (Nat × AV)):qM a cells ((i,v) :: rest)=R2 a cells v rest (a i):=id rfl
@[simp] theorem Tv(a:Nat->Option (Nat × Nat))(cells:List AV)(v:AV)(rest:List (Nat × AV))(c b:Nat):R2 a cells v rest (some (c,b))=if v.cells.length=b/\c+b<=cells.length then qM a (patch cells c v.cells) rest else none:=id rfl
@[simp] theorem V3(r':Ref)(b':Option aJ)(H:ab)(r:Ref)(b:Option aJ):ab.put ((r',b') :: H) r b=if r'=r then (r,b) :: H else (r',b') :: ab.put H r b:=id rfl
def Xc(z:Nat)(es:List AV)(y:AV):Prop:=(y=bF/\es=[])\/y = .fsl z es none\/(y = .fsl z [] (some 0)/\es=[])
def Qx(r:Ref)(y:AV)(k:Nat):AV:=match y with
 | .fsl _ es c => .bD { r with k:=k} 0 es.length c
 | y=>y
def QB(y:AV):List aJ:=match y with
 | .fsl z es _=>[⟨z,es,true,false⟩]
 | _=>[]
theorem Xc.imp{z:Nat}{es:List AV}{y:AV}(h:Xc z es y)(a:z≠0)(r:Ref)(n:Nat)(bs:List aJ):af r (n+1) y bs=(Qx r y bs.length,bs++QB y):=by
 rcases h with ⟨rfl,rfl⟩ | rfl | ⟨rfl,rfl⟩
 ·simp[Qx,QB]
 ·simp[Qx,QB,a]
 ·simp[Qx,QB,a]
theorem Hr{P:Program}{t t':TypeId}(i:pK P t=true)(c:FH P t'=true)(F:Bool)(H:ab)(r q:Ref)(n k:Nat)(x:AV){es new:List AV}{fz:Bool}(v:H.get q=some ⟨jf P t,es,true,fz⟩)(f:kq (jf P t) H.get x=some new)(y:n=es.length)(j:new=[]\/((es.length+new.length) * pw P t<=aX/\k<es.length+new.length)) :
 cS P F H r (some t) (some t') (.bD q 0 n (some k)) x=if new=[] then some (.bD q 0 n (some k),H) else some (.bD r 0 (es.length+new.length) none,({ r with k:=0},some ⟨jf P t,es++new,true,false⟩) :: H):=by
 subst y
 have f:=qu f
 unfold pK at i
 obtain⟨e,zz,l,m,o,u,E,I,D,z⟩:=gk i
 have a:=f.kn i l
 unfold FH at c
 simp only[aY,gE]at c
 have g:(P.underlying t').isNone=false:=by cases h:P.underlying t' with | none=>rw[h]at c;simp at c | some d=>rfl
 have p : ¬((P.underlying t').isNone=true\/isInt P t'≠isNum x):=by rw[g,c.2,f.num];simp
 have s : ¬(jf P t≠jf P t\/jf P t=0\/pw P t=0\/zz.cells.length≠jf P t):=by simp[E,D,z]
 by_cases b:new=[]
 ·subst b
  simp only[cS,dy,dF,l,Option.map_some,bO,if_neg p,m,o,u,a,if_neg s,v,if_true]
  simp
 ·obtain⟨G,j⟩:=j.resolve_left b
  simp only[cS,dy,dF,l,Option.map_some,bO,if_neg p,m,o,u,a,if_neg s,v,if_neg b]
  simp only[ne_eq,not_true_eq_false,Bool.true_eq_false,or_self,if_false,qx,aW,j,G,and_self,if_true,y0,wz]
  rfl
def ql(z by' n:Nat)(d:Bool)(c:Option Nat)(b:Option aJ)(new:Option (List AV)):Prop:=match b,new with
 | some ⟨a,es,true,_⟩,some new=>a=z/\n=es.length/\(new=[]\/((es.length+new.length) * by'<=aX/\match c with | none=>d=true | some k=>k<es.length+new.length))
 | _,_=>False
theorem aG(z by' n:Nat)(a:Bool)(b:Nat)(es new:List AV)(fz:Bool):ql z by' n a none (some ⟨b,es,true,fz⟩) (some new)=(b=z/\n=es.length/\(new=[]\/((es.length+new.length) * by'<=aX/\a=true))):=id rfl
theorem aU(z by' n:Nat)(b:Bool)(k a:Nat)(es new:List AV)(fz:Bool):ql z by' n b (some k) (some ⟨a,es,true,fz⟩) (some new)=(a=z/\n=es.length/\(new=[]\/((es.length+new.length) * by'<=aX/\k<es.length+new.length))):=id rfl
def QV(z:Nat)(H:ab)(q r:Ref)(n:Nat)(c:Option Nat)(b:Option aJ)(new:Option (List AV)):cb:=match b,new with
 | some b,some []=>some (.bD q 0 n c,H)
 | some b,some new=>match c with
  | none=>some (.bD ⟨q.d,q.t,H.gen q.d q.t,0⟩ 0 (b.es.length+new.length) none,(⟨q.d,q.t,H.gen q.d q.t,0⟩,some ⟨z,b.es++new,true,b.fN⟩) :: H.put q none)
  | some _=>some (.bD r 0 (b.es.length+new.length) none,({ r with k:=0},some ⟨z,b.es++new,true,false⟩) :: H)
 | _,_=>none
@[simp] theorem OV(z:Nat)(H:ab)(q r:Ref)(n:Nat)(c:Option Nat)(b:aJ):QV z H q r n c (some b) (some [])=some (.bD q 0 n c,H):=id rfl
theorem cZ(z:Nat)(H:ab)(q r:Ref)(n:Nat)(b:aJ)(new:List AV)(a:new≠[]):QV z H q r n none (some b) (some new)=some (.bD ⟨q.d,q.t,H.gen q.d q.t,0⟩ 0 (b.es.length+new.length) none,(⟨q.d,q.t,H.gen q.d q.t,0⟩,some ⟨z,b.es++new,true,b.fN⟩) :: H.put q none):=by
 cases new with
 | nil=>exact(a rfl).elim
 | cons _ _=>rfl
theorem cY(z:Nat)(H:ab)(q r:Ref)(n k:Nat)(b:aJ)(new:List AV)(a:new≠[]):QV z H q r n (some k) (some b) (some new)=some (.bD r 0 (b.es.length+new.length) none,({ r with k:=0},some ⟨z,b.es++new,true,false⟩) :: H):=by
 cases new with
 | nil=>exact(a rfl).elim
 | cons _ _=>rfl
theorem bp{P:Program}{t t':TypeId}(m:pK P t=true)(g:FH P t'=true)(s:Bool)(H:ab)(r q:Ref)(n:Nat)(c:Option Nat)(x:AV)(a:ql (jf P t) (pw P t) n s c (H.get q) (kq (jf P t) H.get x)) :
 cS P s H r (some t) (some t') (.bD q 0 n c) x=QV (jf P t) H q r n c (H.get q) (kq (jf P t) H.get x):=by
 cases i:H.get q with
 | none=>rw[i]at a;exact a.elim
 | some b=>
  obtain⟨K,es,arr,fz⟩:=b
  cases j:kq (jf P t) H.get x with
  | none=>rw[i,j]at a;cases arr<;>exact a.elim
  | some new=>
   rw[i,j]at a
   cases arr with
   | false=>exact a.elim
   | true=>
    obtain⟨rfl,rfl,a⟩:=a
    cases c with
    | none=>
     by_cases f:new=[]
     ·subst f
      rw[OV]
      have o:=qu j
      unfold pK at m
      obtain⟨e,zz,u,v,y,I,G,L,F,D⟩:=gk m
      have l:=o.kn m u
      unfold FH at g
      simp only[aY,gE]at g
      have p:(P.underlying t').isNone=false:=by cases h:P.underlying t' with | none=>rw[h]at g;simp at g | some d=>rfl
      have z : ¬((P.underlying t').isNone=true\/isInt P t'≠isNum x):=by rw[p,g.2,o.num];simp
      have E : ¬(jf P t≠jf P t\/jf P t=0\/pw P t=0\/zz.cells.length≠jf P t):=by simp[G,F,D]
      simp only[cS,dy,dF,u,Option.map_some,bO,if_neg z,v,y,I,l,if_neg E,i,if_true]
      simp
     ·obtain⟨J,rfl⟩:=a.resolve_left f
      rw[cZ _ _ _ _ _ _ _ f]
      exact OS (by exact m) g H r q _ (qu j) i rfl f J
    | some k=>
     rw[Hr m g s H r q _ k x i j rfl a]
     split
     ·rename_i f;subst f;rfl
     ·rename_i f;rw[cY _ _ _ _ _ _ _ _ f]
@[simp] theorem Qg(P:Program)(t:TypeId)(d a:Operand)(h:(dV P t).isSome=true)(z:Nat)(es:List AV)(c:Option Nat):bK P .eql t d a (some (.bl z es c)) (some bF)=some (aB false,[]):=by
 unfold dV at h
 split at h
 ·rename_i e b
  simp[bK,Az,jo,b]
 ·cases h
def WO(b:Option aJ):Bool:=match b with | some b=>b.fN | none=>false
@[simp] theorem US(b:aJ):WO (some b)=b.fN:=id rfl
@[simp] theorem TW(g:cf):kX g []=true:=id rfl
@[simp] theorem R7(g:cf)(r:Ref)(a:List Ref):kX g (r :: a)=(WO (g r)&&kX g a):=id rfl
theorem aP(H:ab)(r:Ref)(refs:List Ref)(y:AV)(a:flat depth y=false)(b:kX H.get refs=false):pX true H r refs (some y)=some ((af r depth y []).1,keyed r 0 (af r depth y []).2 (bG H refs)):=by
 simp only[pX,a,b,uZ,gH,if_false,if_true]
def pF(z:Nat):List AV->AV
 | []=>bF
 | es => .fsl z es none
@[simp] theorem yi(z:Nat):pF z []=bF:=id rfl
theorem rD(z:Nat){es:List AV}(h:es≠[]):pF z es = .fsl z es none:=by
 cases es with
 | nil=>exact(h rfl).elim
 | cons _ _=>rfl
def Fs:AV->AV
 | .bl z [] _ => .fsl z [] (some 0)
 | .bl z es _ => .fsl z es none
 | x=>x
@[simp] theorem Ow(x:Value):Fs (.v x) = .v x:=id rfl
@[simp] theorem TG(z:Nat)(c:Option Nat):Fs (.bl z [] c) = .fsl z [] (some 0):=id rfl
theorem Ee(z:Nat){es:List AV}(c:Option Nat)(h:es≠[]):Fs (.bl z es c) = .fsl z es none:=by
 cases es with
 | nil=>exact(h rfl).elim
 | cons _ _=>rfl
def kR(z:Nat)(es:List AV)(H:ab)(x y:AV):Prop:=(x=y/\Sl z es y) \/∃r c fz,x = .bD r 0 es.length c/\H.get r=some ⟨z,es,true,fz⟩/\y = .bl z es c/\es.length<=c.getD es.length
theorem kR.sl{z:Nat}{es:List AV}{H:ab}{x y:AV}(h:kR z es H x y):Sl z es y:=by
 rcases h with ⟨_,h⟩ | ⟨r,c,fz,_,_,rfl,h⟩
 ·exact h
 ·exact .inr ⟨c,rfl,h⟩
theorem kR.view{z:Nat}{es:List AV}{H:ab}{x y:AV}(h:kR z es H x y)(n:Nat):Ab.view H.get (n+1) x=some y:=by
 rcases h with ⟨rfl,h⟩ | ⟨r,c,fz,rfl,a,rfl,_⟩
 ·exact h.view _ _
 ·rw[KJ a rfl]
theorem kR.len{z:Nat}{es:List AV}{H:ab}{x y:AV}(h:kR z es H x y):pr x=some es.length:=by
 rcases h with ⟨rfl,h⟩ | ⟨r,c,fz,rfl,a,rfl,_⟩
 ·exact h.len
 ·rfl
theorem kR.cells{z:Nat}{es:List AV}{H:ab}{x y:AV}(h:kR z es H x y):x.cells=[x]/\x.one=true:=by
 rcases h with ⟨rfl,h⟩ | ⟨r,c,fz,rfl,a,rfl,_⟩
 ·exact h.cells
 ·exact⟨rfl,rfl⟩
theorem kR.put{z:Nat}{es:List AV}{H:ab}{x y:AV}(h:kR z es H x y){q:Ref}(a:x.at?≠some q)(b:Option aJ):kR z es (H.put q b) x y:=by
 rcases h with h | ⟨r,c,fz,rfl,e,rfl,d⟩
 ·exact .inl h
 ·refine .inr ⟨r,c,fz,rfl,?_,rfl,d⟩
  rw[ab.aj,if_neg (by rintro rfl;exact a rfl),e]
theorem kR.cons{z:Nat}{es:List AV}{H:ab}{x y:AV}(h:kR z es H x y)(f:Fr H)(d t:Nat)(b:Option aJ):kR z es ((⟨d,t,H.gen d t,0⟩,b) :: H) x y:=by
 rcases h with h | ⟨r,c,fz,rfl,a,rfl,e⟩
 ·exact .inl h
 ·refine .inr ⟨r,c,fz,rfl,?_,rfl,e⟩
  rw[ab.jr,if_neg (mO f (by rw[a];rfl) d t 0),a]
theorem kR.r{z:Nat}{es:List AV}{H:ab}{x y:AV}(h:kR z es H x y):pr x=some es.length/\(∀n,Ab.view H.get (n+1) x=some y)/\x.cells=[x]/\x.one=true:=⟨h.len,h.view,h.cells⟩
theorem kR.of{z:Nat}{es:List AV}{x:AV}(h:Sl z es x)(H:ab):kR z es H x x := .inl ⟨rfl,h⟩
def L8(z:Nat)(es:List AV)(H:ab)(x:AV)(r:Ref):Prop:=(x=bF/\es=[]) \/∃c,x = .bD r 0 es.length c/\H.get r=some ⟨z,es,true,false⟩
theorem L8.len{z:Nat}{es:List AV}{H:ab}{x:AV}{r:Ref}(h:L8 z es H x r):pr x=some es.length:=by
 rcases h with ⟨rfl,rfl⟩ | ⟨c,rfl,_⟩<;>rfl
theorem L8.cells{z:Nat}{es:List AV}{H:ab}{x:AV}{r:Ref}(h:L8 z es H x r):x.cells=[x]/\x.one=true:=by
 rcases h with ⟨rfl,rfl⟩ | ⟨c,rfl,_⟩<;>exact⟨rfl,rfl⟩
theorem L8.bD{z:Nat}{es:List AV}{H:ab}{x:AV}{r:Ref}(h:L8 z es H x r){k:Nat}(a:k<es.length) : ∃c,x = .bD r 0 es.length c/\H.get r=some ⟨z,es,true,false⟩:=by
 rcases h with ⟨rfl,rfl⟩ | h
 ·simp at a
 ·exact h
def nx(a:List Nat)(z:Nat)(es:List AV)(H:ab)(x:AV):Prop:=(x=bF/\es=[]) \/∃t g,t∈a/\x = .bD ⟨0,t,g,0⟩ 0 es.length none/\H.get ⟨0,t,g,0⟩=some ⟨z,es,true,false⟩
theorem kR.live{z:Nat}{es:List AV}{H:ab}{x y:AV}(h:kR z es H x y){r:Ref}(b:x.at?=some r):(H.get r).isSome=true:=by
 rcases h with ⟨rfl,h⟩ | ⟨r',c,fz,rfl,a,rfl,_⟩
 ·rcases h with ⟨rfl,_⟩ | ⟨c,rfl,_⟩<;>cases b
 ·cases b;rw[a];rfl
theorem kR.mono{z:Nat}{es:List AV}{H b:ab}{x y:AV}(h:kR z es H x y)(d : ∀r,x.at?=some r->b.get r=H.get r):kR z es b x y:=by
 rcases h with h | ⟨r',c,fz,rfl,a,rfl,e⟩
 ·exact .inl h
 ·exact .inr ⟨r',c,fz,rfl,by rw[d r' rfl,a],rfl,e⟩
theorem Fc{H:ab}(a:Fr H){q:Ref}(h:(H.get q).isSome=true)(d t k:Nat):((⟨d,t,H.gen d t+1,k⟩:Ref)=q)=False:=
 eq_false λe=>by subst e;rw[a _ _ _ _ (yX _)]at h;cases h
theorem Fe{H:ab}(a:Fr H){q:Ref}(h:(H.get q).isSome=true)(d t k:Nat):(q=(⟨d,t,H.gen d t+1,k⟩:Ref))=False:=
 eq_false λe=>by subst e;rw[a _ _ _ _ (yX _)]at h;cases h
theorem GX{H:ab}(a:Fr H)(d t k:Nat):H.get ⟨d,t,H.gen d t+1,k⟩=none:=a _ _ _ _ (yX _)
theorem HA{H:ab}(c:Fr H){d t g:Nat}(k:Nat)(m:g=H.gen d t\/g+1=H.gen d t)(b:Option aJ):Fr ((⟨d,t,g,k⟩,b) :: H):=by
 intro i t' l k' h
 rw[ab.CI]at h
 rw[ab.jr]
 by_cases a:d=i/\t=t'
 ·obtain⟨rfl,rfl⟩:=a
  rw[if_pos ⟨rfl,rfl⟩]at h
  rw[if_neg (by intro e;injection e;omega)]
  exact c _ _ _ _ (by omega)
 ·rw[if_neg a]at h
  rw[if_neg (by intro e;injection e with j f;exact a ⟨j,f⟩)]
  exact c _ _ _ _ h
def Kd(by':Nat)(es:List AV)(k:Nat)(new:Option (List AV)):Prop:=match new with
 | some new=>new=[]\/(k<es.length+new.length/\(es.length+new.length) * by'<=aX)
 | none=>False
theorem ar(by':Nat)(es:List AV)(k:Nat)(new:List AV):Kd by' es k (some new)=(new=[]\/(k<es.length+new.length/\(es.length+new.length) * by'<=aX)):=id rfl
def Te(z:Nat)(H:ab)(r:Ref)(es:List AV)(k:Nat)(new:Option (List AV)):cb:=match new with
 | some []=>some (.bl z es (some k),H)
 | some new=>some (.bD r 0 (es.length+new.length) none,({ r with k:=0},some ⟨z,es++new,true,false⟩) :: H)
 | none=>none
@[simp] theorem N8(z:Nat)(H:ab)(r:Ref)(es:List AV)(k:Nat):Te z H r es k (some [])=some (.bl z es (some k),H):=id rfl
theorem bS(z:Nat)(H:ab)(r:Ref)(es:List AV)(k:Nat)(new:List AV)(a:new≠[]):Te z H r es k (some new)=some (.bD r 0 (es.length+new.length) none,({ r with k:=0},some ⟨z,es++new,true,false⟩) :: H):=by
 cases new with
 | nil=>exact(a rfl).elim
 | cons _ _=>rfl
theorem bo{P:Program}{t t':TypeId}(l:pK P t=true)(b:FH P t'=true)(F:Bool)(H:ab)(r:Ref)(z k:Nat)(es:List AV)(x:AV)(D:z=jf P t)(g:Kd (pw P t) es k (kq (jf P t) H.get x)) :
 cS P F H r (some t) (some t') (.bl z es (some k)) x=Te z H r es k (kq (jf P t) H.get x):=by
 subst D
 cases j:kq (jf P t) H.get x with
 | none=>rw[j]at g;exact g.elim
 | some new=>
  rw[j]at g
  have c:=qu j
  unfold pK at l
  obtain⟨e,zz,m,n,o,s,y,I,v,u⟩:=gk l
  have a:=c.kn l m
  unfold FH at b
  simp only[aY,gE]at b
  have i:(P.underlying t').isNone=false:=by cases h:P.underlying t' with | none=>rw[h]at b;simp at b | some d=>rfl
  have p : ¬((P.underlying t').isNone=true\/isInt P t'≠isNum x):=by rw[i,b.2,c.num];simp
  have q : ¬(jf P t≠jf P t\/jf P t=0\/pw P t=0\/zz.cells.length≠jf P t):=by simp[y,v,u]
  by_cases f:new=[]
  ·subst f
   rw[N8]
   simp only[cS,dy,dF,m,Option.map_some,bO,if_neg p,n,o,s,a,if_neg q,if_neg (show ¬(jf P t≠jf P t) by simp),if_true]
   rfl
  ·obtain⟨E,G⟩:=g.resolve_left f
   rw[bS _ _ _ _ _ _ f]
   simp only[cS,dy,dF,m,Option.map_some,bO,if_neg p,n,o,s,a,if_neg q,if_neg (show ¬(jf P t≠jf P t) by simp),if_neg f,if_pos (show k<es.length+new.length/\(es.length+new.length) * pw P t<=aX from⟨E,G⟩)]
   rfl
@[simp] theorem UQ(n:Nat)(h:n<9223372036854775808):IntKind.i64.wrap (no_index (OfNat.ofNat n):Int)=OfNat.ofNat n:=by
 show IntKind.i64.wrap (n:Int)=n
 exact IntWalk.i64_in _ (by omega)
@[simp] theorem W5(len:Nat)(cap:Option Nat)(lo hi:Option Int):bounds len cap lo hi none=if 0<=lo.getD 0/\lo.getD 0<=hi.getD len/\hi.getD len<=len then some ((lo.getD 0).toNat,(hi.getD len).toNat,cap.map (· - (lo.getD 0).toNat)) else none:=id rfl
@[simp] theorem W4(len:Nat)(cap:Option Nat)(lo:Option Int)(h m:Int):bounds len cap lo (some h) (some m)=if 0<=lo.getD 0/\lo.getD 0<=h/\h<=m/\m<=cap.getD len/\h<=len then some ((lo.getD 0).toNat,h.toNat,some (m.toNat - (lo.getD 0).toNat)) else none:=id rfl
@[simp] theorem VM(k:Nat):min k IntKind.i64.bits=min k 64:=id rfl
def Rs(o:Option AV)(j n:Nat)(a:Bool):Option AV:=match o with
 | none=>none
 | some e=>if a then (if j+n<=e.cells.length/\0<n then some (.agg ((e.cells.drop j).take n)) else none) else e.cells[j]?
@[simp] theorem SB(e:AV)(j n:Nat)(a:Bool):Rs (some e) j n a=if a then (if j+n<=e.cells.length/\0<n then some (.agg ((e.cells.drop j).take n)) else none) else e.cells[j]?:=id rfl
@[simp] theorem Uj(b a:AV)(es:List AV)(i j n:Nat)(c:Bool):cG (b :: a :: es) i j n c=Rs (b :: a :: es)[i]? j n c:=by
 unfold cG;cases(b :: a :: es)[i]?<;>rfl
@[simp] theorem W9(l:List (AV × AV))(st bs:List AV)(H:ab):oP l st bs H↔(l.all λp=>pD p.1 p.2)=true/\st.all (BN H)=true/\bs.all YF=true:=Iff.rfl
@[simp] theorem Ug(r:Ref)(i j:Nat)(r':Ref)(a b:Nat):pD (.ptr r i j) (.ptr r' a b) = !decide (r=r'):=by
 unfold pD;simp[iY]
@[simp] theorem Uh(r:Ref)(i j:Nat)(r':Ref)(o n:Nat)(c:Option Nat):pD (.ptr r i j) (.bD r' o n c) = !decide (r=r'):=by
 unfold pD;simp[iY]
@[simp] theorem Ui(r:Ref)(i j:Nat)(r':Ref)(o n:Nat)(c:Option Nat):pD (.bD r' o n c) (.ptr r i j) = !decide (r'=r):=by
 unfold pD;simp[iY]
def Mn(es:List AV)(o:Option AV)(i j:Nat)(new:List AV):Option (List AV):=match o with
 | none=>none
 | some e=>(lM e j new).map λa=>es.set i a
@[simp] theorem Rf(es:List AV)(e:AV)(i j:Nat)(new:List AV):Mn es (some e) i j new=(lM e j new).map λa=>es.set i a:=id rfl
@[simp] theorem Sa(b a:AV)(es:List AV)(i j:Nat)(new:List AV):fE (b :: a :: es) i j new=Mn (b :: a :: es) (b :: a :: es)[i]? i j new:=by
 unfold fE;cases(b :: a :: es)[i]?<;>rfl
def Ih(o:Option aJ):Bool:=match o with
 | some b => !b.arr
 | none=>false
@[simp] theorem Ro(b:aJ):Ih (some b) = !b.arr:=id rfl
@[simp] theorem VL(H:ab)(r:Ref)(i j:Nat):BN H (.ptr r i j)=Ih (H.get r):=by
 cases h:H.get r<;>simp[BN,Ih,h]
@[simp] theorem Zo(r:Ref)(o n:Nat)(c:Option Nat):YF (.bD r o n c)=true:=id rfl
def be:Nat->Int->List UInt8
 | 0,_=>[]
 | k+1,n=>be k (n / 256)++[u8 n]
def we(a:Int)(l:List UInt8):Int:=l.foldl (λa b=>256 * a+(b.toNat:Int)) a
def val(l:List UInt8):Int:=we 0 l
@[simp] theorem zO(k:Nat) : ∀n,(be k n).length=k:=by
 induction k with
 | zero=>intro n;rfl
 | succ k a=>intro n;simp[be,a]
@[simp] theorem YK(n:Int):be 0 n=[]:=id rfl
theorem KL(a:Int)(l:List UInt8)(b:UInt8):we a (l++[b])=256 * we a l+b.toNat:=by
 unfold we;rw[List.foldl_append];rfl
theorem BG(l:List UInt8)(b:UInt8):val (l++[b])=256 * val l+b.toNat:=KL 0 l b
@[simp] theorem Xh:val []=0:=id rfl
theorem xh(n:Int):((u8 n).toNat:Int)=n % 256:=by rw[mZ];omega
theorem Pp(k:Nat) : ∀n:Int,0<=n->n<256 ^ k->val (be k n)=n:=by
 induction k with
 | zero=>
  intro n c a;simp only[Int.pow_zero]at a;have:n=0:=by omega
  subst this;rfl
 | succ k b=>
  intro n c a
  rw[be,BG,b (n / 256) (by omega) (by rw[wZ]at a;omega),xh];omega
theorem xg{k:Nat}{n:Int}(a:0<=n)(b:n<256 ^ k):val (be k n)=n:=Pp k n a b
theorem sJ(l:List UInt8):0<=val l/\val l<256 ^ l.length:=by
 induction h:l.length generalizing l with
 | zero=>
  have:l=[]:=uu.1 h
  subst this;simp
 | succ k d=>
  have a:l≠[]:=by rintro rfl;simp at h
  rw[<-Mj a]
  generalize l.getLast a=b
  have c:l.dropLast.length=k:=by simp[h]
  have e:=d l.dropLast c
  rw[BG,wZ]
  have:=b.toNat_lt
  omega
theorem TO(l:List UInt8):be l.length (val l)=l:=by
 induction h:l.length generalizing l with
 | zero=>
  have:l=[]:=uu.1 h
  subst this;rfl
 | succ k e=>
  have a:l≠[]:=by rintro rfl;simp at h
  have d:l.dropLast.length=k:=by simp[h]
  have c:=Mj a
  generalize l.getLast a=b at c
  have g:=e l.dropLast d
  rw[<-c,BG,be]
  have j:=b.toNat_lt
  have i:(256 * val l.dropLast+(b.toNat:Int)) / 256=val l.dropLast:=by omega
  have f:u8 (256 * val l.dropLast+(b.toNat:Int))=b:=by
   apply uo.1;rw[mZ];omega
  rw[i,f,g]
theorem AM{l:List UInt8}{k:Nat}(h:l.length=k):be k (val l)=l:=by subst h;exact TO l
theorem FC(k:Nat) : ∀n:Int,be (k+1) n=u8 (n / 256 ^ k) :: be k n:=by
 induction k with
 | zero=>intro n;simp[be]
 | succ k a=>
  intro n
  rw[be,a,be]
  rw[Int.ediv_ediv_of_nonneg (by omega),wZ,Int.mul_comm (256 ^ k)]
  simp
def S0(a b:Int):Int:=IntKind.i64.wrap ((BitVec.ofInt 64 a ||| BitVec.ofInt 64 b).toNat:Int)
@[simp] theorem X4(P:Program)(t:TypeId)(d c:Operand)(a b:Int):bK P .or t d c (some (.v (.int .i64 a))) (some (.v (.int .i64 b)))=some (.v (.int .i64 (S0 a b)),[]):=by
 have h:rB P .or t d c (.int .i64 a) (.int .i64 b)=some (.int .i64 (S0 a b)):=rfl
 simp only[bK,Az,jo,iy,h,rl,uZ,gH,if_false,dF,fG,scalar,if_true,gJ,Option.map_some]
theorem E9{a b:Int}{k:Nat}(l:0<=a)(o:a * 2 ^ k<9223372036854775808)(h:0<=b)(i:b<2 ^ k)(f:k<63):S0 (a * 2 ^ k) b=a * 2 ^ k+b:=by
 obtain⟨m,rfl⟩:=Bl l
 obtain⟨n,rfl⟩:=Bl h
 have c:n<2 ^ k:=by exact_mod_cast i
 have d:m * 2 ^ k<2 ^ 63:=by
  have e:((m * 2 ^ k:Nat):Int)<9223372036854775808:=by rw[Int.natCast_mul,En];exact o
  omega
 have s:n<2 ^ 63:=Nat.lt_trans c (Nat.pow_lt_pow_right (by decide) f)
 have e:(BitVec.ofInt 64 ((m:Int) * 2 ^ k) ||| BitVec.ofInt 64 (n:Int)).toNat=m * 2 ^ k+n:=by
  rw[BitVec.toNat_or]
  rw[show((m:Int) * 2 ^ k)=((m * 2 ^ k:Nat):Int) by rw[Int.natCast_mul,En];rfl]
  rw[BitVec.ofInt_natCast,BitVec.ofInt_natCast,BitVec.toNat_ofNat,BitVec.toNat_ofNat,Es (by omega),Es (by omega)]
  rw[yZ,Mi c]
 unfold S0
 rw[e]
 have q:m * 2 ^ k+n<2 ^ 63:=by
  have j:m * 2 ^ k+n<(m+1) * 2 ^ k:=by rw[A0];omega
  have p:m+1<=2 ^ (63 - k):=by
   have g:2 ^ 63=2 ^ (63 - k) * 2 ^ k:=by rw[<-Nat.pow_add];congr 1;omega
   rw[g]at d
   exact Nat.lt_of_mul_lt_mul_right d
  calc m * 2 ^ k+n<(m+1) * 2 ^ k:=j
   _<=2 ^ (63 - k) * 2 ^ k:=jN _ p
   _=2 ^ 63:=by rw[<-Nat.pow_add];congr 1;omega
 rw[IntWalk.i64_in _ (by omega)]
 push_cast
 rfl
theorem J5{n:Int}(c:0<=n)(d:n<36028797018963968)(b:UInt8):S0 (n * 256) (b.toNat:Int)=256 * n+b.toNat:=by
 have:=b.toNat_lt
 have e:=E9 (a:=n) (b:=b.toNat) (k:=8) c (by omega) (by omega) (by omega) (by omega)
 rw[show(2:Int) ^ 8=256 from rfl]at e
 rw[e];omega
@[simp] theorem TP(k:Nat)(n:Int):be k n=[]↔k=0:=by
 rw[<-uu,zO]
theorem MI{n:Int}(h:0<=n):n.tdiv 256=n / 256:=FM h
theorem MD{n:Int}(h:0<=n):n.tmod 256=n % 256:=zW h
theorem vT{k:Nat}(m:Nat)(h:k<=m):(256:Int) ^ k<=256 ^ m:=by
 have:=Nat.pow_le_pow_right (n:=256) (by decide) h
 have e:((256 ^ k:Nat):Int)<=((256 ^ m:Nat):Int):=by exact_mod_cast this
 rwa [En,En]at e
theorem qP(n:Int):be 4 n=[u8 (n / 16777216),u8 (n / 65536),u8 (n / 256),u8 n]:=by
 simp[FC]
theorem Jr(n:Int):be 7 n=[u8 (n / 281474976710656),u8 (n / 1099511627776),u8 (n / 4294967296),u8 (n / 16777216),u8 (n / 65536),u8 (n / 256),u8 n]:=by
 simp[FC]
theorem cK(n:Int)(k:Nat):n.fdiv (no_index (OfNat.ofNat k))=n / OfNat.ofNat k:=Int.fdiv_eq_ediv_of_nonneg _ (Int.natCast_nonneg k)
theorem jy(n:Int):u8 (n % 256)=u8 n:=by
 apply uo.1;rw[mZ,mZ];omega
def iT(z:Nat):List AV->AV
 | []=>bF
 | es => .bl z es none
theorem rC(z:Nat){es:List AV}(h:es≠[]):iT z es = .bl z es none:=by
 cases es with
 | nil=>exact(h rfl).elim
 | cons _ _=>rfl
theorem qh(z:Nat)(es:List AV):Sl z es (iT z es):=by
 cases es with
 | nil=>exact .inl ⟨rfl,rfl⟩
 | cons a l=>exact .inr ⟨none,rfl,by simp⟩
theorem Sl.Qp{z:Nat}{es:List AV}{c:Option Nat}(h:es.length<=c.getD es.length):Sl z es (.bl z es c) := .inr ⟨c,rfl,h⟩
theorem Fu{c:Option Nat}{n a m:Nat}(h:n<=c.getD n)(b:a+m<=n):m<=(c.map (· - a)).getD m:=by
 cases c with
 | none=>exact aW _
 | some c=>simp only[bO,Option.map_some]at h ⊢;omega
def Ps(es:List AV):List UInt8:=es.map λx=>(byteOf x).getD 0
def Wv(x:AV):Bool:=(byteOf x).isSome
def QS(x:AV):Bool:=match x with
 | .bl .. | .bD .. => true
 | .v (.slice none 0 0)=>true
 | _=>false
@[simp] theorem Xl:Ps []=[]:=id rfl
@[simp] theorem W1(x:UInt8):byteOf (a8 x)=some x:=by
 show some (UInt8.ofNat ((x.toNat:Int)).toNat)=_
 simp
@[simp] theorem Vd(x:UInt8)(es:List AV):Ps (a8 x :: es)=x :: Ps es:=by simp[Ps]
@[simp] theorem Pr(l:List UInt8):Ps (List.map a8 l)=l:=by
 induction l with
 | nil=>rfl
 | cons b l a=>simp[a]
@[simp] theorem Xm(l:List UInt8):Ps (al l)=l:=Pr l
@[simp] theorem Zm(x:UInt8):Wv (a8 x)=true:=by simp[Wv]
@[simp] theorem YL(l:List UInt8):(al l).all Wv=true:=by simp[al]
@[simp] theorem YE(z:Nat)(es:List AV)(c:Option Nat):QS (.bl z es c)=true:=id rfl
@[simp] theorem YD:QS bF=true:=id rfl
theorem Sl.QS{z:Nat}{es:List AV}{x:AV}(h:Sl z es x):Ab.QS x=true:=by
 rcases h with ⟨rfl,_⟩ | ⟨c,rfl,_⟩<;>rfl
theorem yW.QS{z:Nat}{es:List AV}{H:ab}{x:AV}(h:yW z es H x):Ab.QS x=true:=by
 rcases h with ⟨rfl,_⟩ | ⟨c,rfl,_⟩<;>rfl
theorem Mx{es:List AV}(h:es.all Wv=true):es.mapM byteOf=some (Ps es):=by
 induction es with
 | nil=>rfl
 | cons x es c=>
  rw[tj,aY]at h
  obtain⟨b,a⟩:=fO.1 h.1
  rw[Af,c h.2,a]
  simp[Ps,a]
@[simp] theorem SL{P:Program}{src dst:TypeId}(f:cI P src=true)(d:isStr P dst=true)(g:cf)(r:Ref)(x:AV)(k:(kq 1 g x).isSome=true)(h:((kq 1 g x).getD []).all Wv=true)(i:QS x=true) :
 bC P g r src dst (some x)=some (sB (Ps ((kq 1 g x).getD [])),[]):=by
 obtain⟨es,he⟩:=fO.1 k
 rw[he,bO]at h ⊢
 have j:=Mx h
 have e:=qu he
 rcases e with ⟨rfl,rfl⟩ | ⟨_,_,e⟩
 ·simp only[bC,f,d,xa,if_true];rfl
 ·cases x with
  | v x=>
   cases x with
   | slice a b c=>simp[bW]at e
   | _=>simp[Ab.QS]at i
  | bl _ _ _=>simp only[bC,f,d,xa,if_true,e,j,Option.map_some];rfl
  | bD _ _ _ _=>simp only[bC,f,d,xa,if_true,e,j,Option.map_some];rfl
  | _=>simp[Ab.QS]at i
def SZ(z:Nat)(b:Option aJ)(q:gl):gl:=match b with
 | some b=>if z=b.esz then q else none
 | none=>none
@[simp] theorem UF(z:Nat)(b:aJ)(q:gl):SZ z (some b) q=if z=b.esz then q else none:=id rfl
@[simp] theorem SG{P:Program}{t:TypeId}(h:pK P t=true)(g:cf)(r:Ref)(o n:Nat)(c:Option Nat)(lo hi a:Option Int) :
 ca P g t (some (.bD r o n c)) (some lo) (some hi) (some a)=SZ (jf P t) (g r) ((bounds n c lo hi a).map λp=>(.bD r (o+p.1) (p.2.1 - p.1) p.2.2,[])):=by
 unfold pK at h
 obtain⟨e,zz,i,d,j,q,m,s,l,k⟩:=gk h
 have f:(dV P t).bind (av P)=some (jf P t):=by rw[i];exact d
 unfold ca
 dsimp only
 rw[f]
 cases g r with
 | none=>rfl
 | some b=>simp[SZ]
@[simp] theorem TL(l:List UInt8):al l=[]↔l=[]:=by simp[al]
set_option linter.defProp false
def ov:=And.intro @ab.aj (And.intro @FI (And.intro @HA (And.intro @Fr.nil (And.intro @Jt (And.intro @tQ (And.intro @tS (And.intro @Fc (And.intro @Fe (And.intro @Kg (And.intro @GX (@CH)))))))))))
def R9:=And.intro @FI (And.intro @HA (And.intro @Fr.nil (And.intro @Jt (And.intro @tQ (And.intro @tS (And.intro @Fc (And.intro @Fe (And.intro @Kg (And.intro @GX (@CH))))))))))
def ak:=And.intro @tQ (And.intro @tS (And.intro @Fc (And.intro @Fe (@CH))))
end Go.Ab
