/-
  One element put into an own row, whatever room the row has. No statement of a seat is proved here.
-/
import Derived.Test.YtmkmimgokagimaaGreatRows
import Derived.Test.YtmkmimgokagimaaGreatAbsRules
set_option linter.unusedVariables false
set_option linter.unusedSimpArgs false
set_option linter.unusedSectionVars false
set_option linter.unnecessarySimpa false
set_option maxRecDepth 1000000
set_option linter.defProp false
noncomputable section
namespace Go.Ab
section
def wB{K:Type}[DecidableEq K](k:K):List K->Nat->Option Nat
 | [],_=>none
 | a :: l,i=>if k=a then some i else wB k l (i+1)
structure Xw (P:Program) (f:TypeId) {K:Type} [DecidableEq K] (val:K->Value):Prop where
 chk : ∀e a,aY P (Instr.checkKey e 10000 f (val a))=some ()
 eq : ∀a b,aY P (Op.equal f (val a) (val b))=some (decide (a=b))
 now : ∀d,P.underlying f=some d ->∀a b,Instr.sameNow d (val a) (val b)=none
 und:(P.underlying f).isSome=true
 bits : ∀a,Instr.sameBits 10000 (val a) (val a)=true
section
variable{P:Program}{f:TypeId}{K:Type}[DecidableEq K]{val:K->Value}(h:Xw P f val)
include h
theorem NT(k:K) : ∀(l:List K)(i:Nat),aY P (Instr.findAsking f (val k) (l.map λa=>⟨val a,Go.undef,0⟩) i)=some ((wB k l i).map λj=>(j,Go.undef))
 | [],i=>rfl
 | a :: l,i=>by
  simp only[pG,Instr.findAsking,bH,h.eq,eJ,wB];by_cases e:k=a;·simp only[e,decide_true,if_true];rfl
  simp only[e,decide_false,mJ,iQf];exact NT k l (i+1)
theorem WL(k:K)(l:List K):aY P (Instr.findKey f (val k) (l.map λa=>⟨val a,Go.undef,0⟩))=some ((wB k l 0).map λj=>(j,Go.undef)):=by
 obtain⟨d,b⟩:=ik.1 h.und;simp only[Instr.findKey,bH,nk b,eJ];cases l with
 | nil=>rfl
 | cons a l=>have e:Instr.findNow d (val k) ((a :: l).map λa=>⟨val a,Go.undef,0⟩) 0=none:=(by simp only[pG,Instr.findNow,h.now d b]);rw[e];exact NT h k (a :: l) 0
theorem Bf(e:Bool)(k:K)(l:List K):zL P e f (val k) (l.map val)=some (wB k l 0):=by
 unfold zL;rw[h.chk];have:=WL h k l;simp only[zb,Function.comp_def];rw[this];cases wB k l 0<;>rfl
end
def cm{K:Type}[DecidableEq K](k:K):List (K × AV)->Option AV
 | []=>none
 | p :: l=>if k=p.1 then some p.2 else cm k l
def jQ{K:Type}[DecidableEq K](k:K)(x:AV):List (K × AV)->List (K × AV)
 | []=>[(k,x)]
 | p :: l=>if k=p.1 then (k,x) :: l else p :: jQ k x l
@[simp] def oW{K:Type}[DecidableEq K](k:K)(x:AV) : ∀l:List (K × AV),cm k (jQ k x l)=some x
 | []=>by simp[jQ,cm]
 | p :: l=>by
  unfold jQ;split;·simp[cm]
  rename_i e;simp[cm,e,oW k x l]
def np{K:Type}[DecidableEq K]{k k':K}(e:k'≠k)(x:AV) : ∀l:List (K × AV),cm k' (jQ k x l)=cm k' l
 | []=>by simp[jQ,cm,e]
 | p :: l=>by
  unfold jQ;split;·rename_i h;subst h;simp[cm,e]
  simp only[cm];rw[np e x l]
def vS{K:Type}[DecidableEq K](k:K) : ∀(l:List K)(i:Nat),wB k l i=(wB k l 0).map (· + i)
 | [],i=>rfl
 | a :: l,i=>by
  unfold wB;split;·simp
  rw[vS k l (i+1),vS k l (0+1)];cases wB k l 0 with
  | none=>rfl
  | some j=>simp;omega
def E1{K:Type}[DecidableEq K](k:K) : ∀(l:List (K × AV)),(match wB k (l.map Prod.fst) 0 with | some i=>(l[i]?).map Prod.snd | none=>none)=cm k l
 | []=>rfl
 | p :: l=>by
  simp only[pG,wB,cm];by_cases e:k=p.1;·simp[e]
  simp only[e,iQf];rw[vS];have:=E1 k l;cases h:wB k (l.map Prod.fst) 0 with
  | none=>rw[h]at this;simpa using this
  | some j=>rw[h]at this;simpa using this
def DR{K:Type}[DecidableEq K](k:K)(x:AV) : ∀(l:List (K × AV)),(match wB k (l.map Prod.fst) 0 with | some i=>l.set i (k,x) | none=>l++[(k,x)])=jQ k x l
 | []=>rfl
 | p :: l=>by
  simp only[pG,wB,jQ];by_cases e:k=p.1;·simp[e]
  simp only[e,iQf];rw[vS];have:=DR k x l;cases h:wB k (l.map Prod.fst) 0 with
  | none=>rw[h]at this;simpa using this
  | some j=>rw[h]at this;simpa using this
def DS{K:Type}[DecidableEq K](k:K) : ∀(l:List K)(i:Nat),wB k l 0=some i->l[i]?=some k
 | [],i,h=>by cases h
 | a :: l,i,h=>by
  unfold wB at h;split at h;·rename_i e;subst e;cases h;rfl
  rw[vS]at h;cases b:wB k l 0 with
  | none=>rw[b]at h;cases h
  | some j=>rw[b]at h;simp at h;subst h;simpa using DS k l j b
section
variable{P:Program}{f et t:TypeId}{K:Type}[DecidableEq K]{val:K->Value}{c:K->AV}(h:Xw P f val)(m : ∀k,im (c k)=some (val k))(n:Jp P t=some (f,et))
def cJ(c:K->AV)(l:List (K × AV)):List AV:=l.map λp => .tup [c p.1,p.2]
theorem vP{g:cF}{r:Ref}{l:List (K × AV)}(a:g r=some (ba (cJ c l))):kE g r=some (cJ c l):=by
 unfold kE;rw[a];rfl
include m in
theorem EZ(l:List (K × AV)):(cJ c l).mapM Bp=some ((l.map Prod.fst).map val):=by
 induction l with| nil=>rfl| cons p l a=>have e:Bp (.tup [c p.1,p.2])=some (val p.1):=m p.1;show((AV.tup [c p.1,p.2]) :: cJ c l).mapM Bp=_;rw[mH,e,a];rfl
include h m n
theorem A9{z:AV}(o:eX P et=some z){g:cF}{r:Ref}{l:List (K × AV)}(j:g r=some (ba (cJ c l)))(k:K)(ok:Bool) :
 fe P g t (some (.mp r)) (some (c k)) ok=some ((if ok then .tup [(cm k l).getD z,.v (.bool (cm k l).isSome)] else (cm k l).getD z),[]):=by
 unfold fe;simp only[n,eJ,m,vP j,EZ m,Bf h,o,Option.map_some];have b:=E1 k l;cases d:wB k (l.map Prod.fst) 0 with
 | none=>rw[d]at b;rw[<-b];rfl
 | some i=>
  rw[d]at b;dsimp only at b ⊢;have a:(l.map Prod.fst)[i]?=some k:=DS k _ i d;rw[k5]at a;cases hp:l[i]? with
  | none=>rw[hp]at a;cases a
  | some p=>
   rw[hp]at b;have e:(cJ c l)[i]?=some (.tup [c p.1,p.2]):=by unfold cJ;rw[k5,hp];rfl
   rw[e,<-b];rfl
theorem vp{H:aa}{r:Ref}{l:List (K × AV)}(g:H.get r=some (ba (cJ c l)))(k:K)(x:AV) :
 dQ P H t (some (.mp r)) (some (c k)) (some x)=some (AV.undef,H.put r (some (ba (cJ c (jQ k x l))))):=by
 unfold dQ;simp only[n,m,vP g,EZ m,Bf h];have a:=DR k x l;cases b:wB k (l.map Prod.fst) 0 with
 | none=>rw[b]at a;dsimp only at a ⊢;rw[<-a];simp[cJ]
 | some i=>
  rw[b]at a;dsimp only at a ⊢;have d:(l.map Prod.fst)[i]?=some k:=DS k _ i b;have e:((l.map Prod.fst).map val)[i]?=some (val k):=by rw[k5,d];rfl
  rw[e];simp only[Option.map_some,h.bits,if_true];rw[<-a];simp[cJ,Ep]
theorem B7{z:AV}(w:eX P et=some z){H:aa}{r:Ref}{l:List (K × AV)}(u:H.get r=some (ba (cJ c l)))(k:K) :
 ∃i o,jl P H t (some (.mp r)) (some (c k))=some (.tup [(cm k l).getD z,.v (.int .i64 (i:Nat))],H.put r (some (ba (cJ c o))))/\(∃x0,o[i]?=some (k,x0)) /\∀x,o.set i (k,x)=jQ k x l:=by
 unfold jl;simp only[n,m,vP u,EZ m,Bf h];have b:=E1 k l;cases g:wB k (l.map Prod.fst) 0 with
 | none=>
  rw[g]at b;dsimp only at b ⊢;refine⟨l.length,l++[(k,z)],?_,⟨z,by simp⟩,λx=>?_⟩;·rw[<-b,w];simp[cJ]
  have d:=DR k x l;rw[g]at d;dsimp only at d;rw[<-d];simp
 | some i=>
  rw[g]at b;dsimp only at b ⊢;have a:(l.map Prod.fst)[i]?=some k:=DS k _ i g;have e:((l.map Prod.fst).map val)[i]?=some (val k):=by rw[k5,a];rfl
  rw[k5]at a;cases hp:l[i]? with
  | none=>rw[hp]at a;cases a
  | some p=>
   rw[hp]at b a;simp only[Option.map_some,dG]at a b;have q:(cJ c l)[i]?=some (.tup [c p.1,p.2]):=by unfold cJ;rw[k5,hp];rfl
   refine⟨i,l.set i (k,p.2),?_,⟨p.2,?_⟩,λx=>?_⟩;·rw[e,q,<-b];simp only[Option.map_some,h.bits,if_true,eJ,IJ];simp[cJ,Ep]
   ·have j:i<l.length:=by
     rcases eC i l.length with h | h
     ·exact h
     rw[wJ h]at hp;cases hp
    simp[j]
   have d:=DR k x l;rw[g]at d;dsimp only at d;rw[<-d];simp
omit h m n in
theorem Ak{H:aa}{r:Ref}{l:List (K × AV)}(a:H.get r=some (ba (cJ c l))){i:Nat}{k:K}{x0:AV}(d:l[i]?=some (k,x0))(b:IntKind)(x:AV) :
 fQ H (some (.mp r)) (some (.v (.int b (i:Nat)))) (some x)=some (AV.undef,H.put r (some (ba (cJ c (l.set i (k,x)))))):=by
 unfold fQ;have e:(cJ c l)[i]?=some (.tup [c k,x0]):=by unfold cJ;rw[k5,d];rfl
 simp only[vP a];rw[if_pos (by omega)];simp only[ON,e];simp[cJ,Ep]
end
end
section
def QR(E:Env)(a:FuncId->List AV->Option AV)(d:Oper->Bool:=λ_=>false):Env := { E with spec:=a,deep:=d,ok:=IK { E with deep:=d}}
def UJ{P:Program}{l aX lZ:List FuncId}{strict:Oper->Bool}{apart:Array Oper->List (Tmp × Tmp)}{gJ:Oper->Bool}{S8:List (FuncId × List AV × AV)}{wide:Oper->Bool}{uI:FuncId->Option TypeId}{thrSpec:FuncId->List AV->aa->Option (AV × aa)}{sm:OB}{sp:FuncId->List AV->Option AV}{d:Oper->Bool}
 (hspec : ∀f args y,sp f args=some y->mu P f args y) (hm:P.follows .mixedOrders=true) (h0:WJ { II P l aX lZ strict apart gJ with deep:=d} l=true) (hover : ∀f t,uI f=some t->Bw P f t) (hthr : ∀f args H y H',thrSpec f args H=some (y,H')->rz P (.fn f) args H y H') :
 (QR (II P l aX lZ strict apart gJ S8 wide uI thrSpec sm) sp d).Ok (IK (QR (II P l aX lZ strict apart gJ S8 wide uI thrSpec sm) sp d)) where
 fns:=by
  intro f hf;have h:WJ { II P l aX lZ strict apart gJ with deep:=d} l=true:=h0;have hf':f∈l:=by simpa [II,QR] using hf
  have:=gx.1 h f hf';split at this;·rename_i fn hfn;simp only[aT,dI]at this;refine⟨fn,hfn,this.1,λc hc=>?_⟩;have h2:=this.2;rw[hc]at h2;exact h2
  cases this
 specs:=λf args y h=>hspec f args y h
 same:=rfl
 overs:=hover
 thrs:=hthr
 draws:=λops hok _ hpc _ htc nt dep id st st' M ι a w ro Q hr hap hO hQ=>by
  rcases KF.1 hok with h1 | h1
  ·exact WY hm h1 hpc htc hr hO hQ
  exact WZ hm h1 hpc htc hr hap hO hQ
def QO(a:List (Nat × Nat × Nat))(o:Oper):Bool:=match o.dst with
 | some d=>(match o.op with
  | .buildSlice t _ _=>a.any λ(x,y,z)=>Nat.beq x d&&Nat.beq y t&&Nat.beq z 99999
  | .call c=>(match c.callee,c.argTypes[0]? with
   | .builtin .append,some t=>a.any λ(x,y,z)=>Nat.beq x d&&Nat.beq y t&&Nat.beq z 99999
   | _,_=>false)
  | _=>false)
 | none=>false
def bad(b:Bool):Int:=if b then 0 else 8
@[simp] def ahc(b:Bool):bad b=0↔b=true:=by cases b<;>simp[bad]
@[simp] def ahd:bad true=0:=id rfl
@[simp] def aeC:bad false=8:=id rfl
structure xn where
 lv:UInt8
 cats:UInt32
 num:UInt8
deriving DecidableEq
structure bM where
 h:xn
 n:Int
deriving DecidableEq
structure wm where
 f:bM
 many:Int
deriving DecidableEq
def mA(h:xn):Bool:=decide (h.lv<=15)&&decide (h.num<8)
def E3(i:bM):Bool:=mA i.h&&(decide (1<=i.n)&&decide (i.n<=1099511627776))
def eN(s:wm):Bool:=E3 s.f&&(decide (1<=s.many)&&(decide (s.many<=64)&&decide (s.f.n+s.many - 1<=1099511627776)))
def Kh{i:bM}(h:E3 i=true):1<=i.n/\i.n<=1099511627776:=by
 simp[E3]at h;exact h.2
def gS{s:wm}(h:eN s=true):1<=s.f.n/\1<=s.many/\s.many<=64/\s.f.n+s.many - 1<=1099511627776:=by
 simp[eN]at h;have:=Kh h.1;exact⟨this.1,h.2.1,h.2.2.1,h.2.2.2⟩
def UK{s:wm}(h:eN s=true):E3 s.f=true:=by
 simp[eN]at h;exact h.1
def Aq(i:bM)(n:Int):bM:=⟨i.h,i.n+n⟩
def rP:bM:=⟨⟨0,0,0⟩,0⟩
def aR(n:Int):AV := .v (.int .i32 n)
def rows(l:List Int):List AV:=l.map aR
@[simp] def afS(l:List Int):(rows l).length=l.length:=by simp[rows]
@[simp] def Yo(l:List Int):rows l=[]↔l=[]:=by simp[rows]
def pv(n:Int):Bool:=decide (n = -1)||(decide (0<=n)&&decide (n<55296))||(decide (57343<n)&&decide (n<=1114111))
def La(l:List Int):Bool:=decide (l.length<=64)&&l.all pv
def BZ(l:List Int):Int:=if 64<l.length then 4 else if l.all pv then 0 else 8
@[simp] def agf(n:Int):(aR n).cells=[aR n]:=id rfl
@[simp] def ajM(n:Int):(aR n).one=true:=id rfl
@[simp] def ahp(g:cF)(k:Nat)(n:Int):view g (k+1) (aR n)=some (aR n):=id rfl
structure Rn where
 s:wm
 a:bM
 l:List Int
deriving DecidableEq
def yE(r:Rn):Bool:=eN r.s&&((decide (r.a=rP)||(E3 r.a&&decide (r.a.n<r.s.f.n)))&&(decide ((r.l.length:Int)=r.s.many)&&La r.l))
def BI(l:List Int):BZ l=0↔La l=true:=by
 unfold BZ La;by_cases h:64<l.length;·simp[h,Nat.not_le.2 h]
 have a:l.length<=64:=GC.1 h;rw[if_neg h];cases l.all pv<;>simp[a]
@[simp] def Z8(l:List Int)(i n:Nat):bL (rows l) i 0 n false=(l[i]?).map aR:=by
 unfold bL rows;rw[k5];cases l[i]?<;>rfl
def gA.fr{M:Mem}{ι:Map}{H:aa}{w:World}(e:gA M ι H.get w)(c:tT ι H):Fr H:=by
 intro d t g k f;cases h:H.get ⟨d,t,g,k⟩ with
 | none=>rfl
 | some b=>obtain⟨l,a,_⟩:=e.live _ _ h;have:=c _ l a;simp only at this;omega
def P7(H:aa)(r:Ref):Ref:=⟨r.d,r.t,H.gen r.d r.t,0⟩
def YO(a:Nat)(H:aa):Ref:=⟨1,a,H.gen 1 a,0⟩
end
end Go.Ab
namespace Go.Proofs.YtmkmimgokagimaaGreat
open Go.Ab
structure Clear where
 lv:UInt8
 cats:UInt32
 ok:Bool
deriving DecidableEq,Inhabited
structure ak where
 lv:UInt8
 cats:UInt32
 opens:Int
 ops:Int
 cells:Int
deriving DecidableEq,Inhabited
def Clear.enc(c:Clear):List AV:=[a8 c.lv,af c.cats,aB c.ok]
def ak.enc(q:ak):List AV:=[a8 q.lv,af q.cats,aI q.opens,aI q.ops,aI q.cells]
abbrev de(l:List Clear):List AV:=l.map λc => .agg c.enc
abbrev cR(l:List ak):List AV:=l.map λq => .agg q.enc
abbrev agR(l:List Bool):List AV:=l.map aB
def af7(a b:Int):(!decide (a<b))=decide (b<=a):=by
 by_cases h:a<b;·simp[h,Int.not_le.2 h]
 simp[h,Int.not_lt.1 h]
def zP(a:UInt8):Int:=if 15<a then 8 else 0
@[simp] def aad(a:UInt8):zP a=0↔a<=15:=by
 unfold zP;split;·rename_i h;simp;exact h
 rename_i h;simp;exact UInt8.not_lt.1 h
def Wr(a:UInt8)(b:UInt32)(c:UInt8)(d:UInt32):Bool:=decide (a<=c)&&decide (b &&& ~~~d=0)
def IX(a:UInt8)(b:UInt32)(c:UInt8)(d:UInt32):Bool:=decide (a<c)||(decide (a=c)&&decide (b<d))
def o6(v:UInt8)(c:UInt32)(ok:Bool):Bool:=decide (v<=15)&&(ok||(decide (v=0)&&decide (c=0)))
def ahg(n:Int)(q:ak):Int:=IntKind.i64.wrap (n+IntKind.i64.wrap (q.opens+IntKind.i64.wrap (4 * q.ops)))
def sw(n:Int)(l:List ak):Int:=l.foldl ahg n
def acJ(c:Int):Int:=if 4096<(if c<0 then 0 else c) then 4096 else if c<0 then 0 else c
def ahh(n:Int)(q:ak):Int:=IntKind.i64.wrap (n+acJ q.cells)
def cellsOf(n:Int)(l:List ak):Int:=l.foldl ahh n
def EK(q:ak):Bool:=decide (zP q.lv=0)&&(decide (0<=q.opens)&&decide (q.opens<=64)&&(decide (0<=q.ops)&&decide (q.ops<=256)&&(decide (0<=q.cells)&&decide (q.cells<=4096))))
def Dw(p q:ak):Bool:=IX p.lv p.cats q.lv q.cats
def zG:Option ak->List ak->Bool
 | _,[]=>true
 | p,q :: l=>(EK q&&(match p with | none=>true | some p=>Dw p q))&&zG (some q) l
def uj(us:List Clear)(qs:List ak)(gr:Int):Bool:=
 decide (us.length<=8)&&decide (qs.length<=8)&&(decide (0<=gr)&&decide (gr<=64))&&us.all (λc=>o6 c.lv c.cats c.ok)&&zG none qs&&(decide (sw gr qs<=2048)&&decide (cellsOf 0 (qs.take 8)<=8192))
def Ap(us:List Clear)(qs:List ak)(gr:Int)(a:UInt8):Int:=if zP a>bad (uj us qs gr) then zP a else bad (uj us qs gr)
def pD(us:List Clear)(c:Int)(a:UInt8)(b:UInt32):Bool:=
 if h:0<=c/\c<us.length then us[c.toNat].ok&&Wr a b us[c.toNat].lv us[c.toNat].cats else false
def wY(a:UInt8)(b:UInt32)(q:ak):Bool:=decide (q.lv=a)&&decide (q.cats=b)
def Rb(a:UInt8)(b:UInt32):Option ak->ak
 | some q=>q
 | none=>⟨a,b,0,0,0⟩
@[simp] def PR(a:UInt8)(b:UInt32)(q:ak):Rb a b (some q)=q:=id rfl
@[simp] def PS(a:UInt8)(b:UInt32):Rb a b none=⟨a,b,0,0,0⟩:=id rfl
def od(qs:List ak)(a:UInt8)(b:UInt32):ak:=Rb a b (qs.find? (wY a b))
def F7(n:Int)(l:List ak):Int:=l.foldl (λn q=>n+q.opens+4 * q.ops) n
def UH(n:Int)(l:List ak):Int:=l.foldl (λn q=>n+q.cells) n
def Gi{q:ak}(h:EK q=true):0<=q.opens/\q.opens<=64/\0<=q.ops/\q.ops<=256/\0<=q.cells/\q.cells<=4096:=by
 simp only[EK,aT,iQb]at h;omega
def MV : ∀ {l:List ak} {p:Option ak},zG p l=true ->∀q∈l,EK q=true:=by
 intro l;induction l with
 | nil=>intro p _ q a;simp at a
 | cons x l b=>
  intro p h q a;simp only[zG,aT]at h;rcases eD.1 a with rfl | a
  ·exact h.1.1
  exact b h.2 q a
def LL : ∀ {l:List ak} {n:Int},(∀q∈l,EK q=true)->0<=n->n+1088 * l.length<=4611686018427387904->sw n l=F7 n l/\n<=F7 n l/\F7 n l<=n+1088 * l.length:=by
 intro l;induction l with
 | nil=>intro n _ b a;simp[sw,F7]
 | cons q l f=>
  intro n h b a;have i:=Gi (h q (gy ..));simp only[qO]at a ⊢;have c:IntKind.i64.wrap (4 * q.ops)=4 * q.ops:=iQa _ (by omega);have d:IntKind.i64.wrap (q.opens+4 * q.ops)=q.opens+4 * q.ops:=iQa _ (by omega);have g:IntKind.i64.wrap (n+(q.opens+4 * q.ops))=n+q.opens+4 * q.ops:=by rw[iQa _ (by omega)];omega
  have:=f (n:=n+q.opens+4 * q.ops) (λx e=>h x (fO _ e)) (by omega) (by omega);simp only[sw,F7,tZ,ahg,c,d,g]at this ⊢;omega
def Oi : ∀ {l:List ak} {n:Int},(∀q∈l,EK q=true)->0<=n->n+4096 * l.length<=4611686018427387904->cellsOf n l=UH n l:=by
 intro l;induction l with
 | nil=>intro n _ b a;rfl
 | cons q l f=>
  intro n h b a;have g:=Gi (h q (gy ..));simp only[qO]at a;have d:acJ q.cells=q.cells:=by unfold acJ;(repeat rw[if_neg (by omega)])
  have e:IntKind.i64.wrap (n+q.cells)=n+q.cells:=iQa _ (by omega);have:=f (n:=n+q.cells) (λx c=>h x (fO _ c)) (by omega) (by omega);simp only[cellsOf,UH,tZ,ahh,d,e]at this ⊢;exact this
def Nb(us:List Clear)(qs:List ak)(gr:Int):uj us qs gr=(decide (us.length<=8)&&decide (qs.length<=8)&&(decide (0<=gr)&&decide (gr<=64))&&us.all (λc=>o6 c.lv c.cats c.ok)&&zG none qs&&(decide (F7 gr qs<=2048)&&decide (UH 0 qs<=8192))):=by
 unfold uj;by_cases b:qs.length<=8
 ·by_cases f:0<=gr/\gr<=64
  ·cases g:zG none qs with| false=>simp| true=>have a:=MV g;have d:=LL (n:=gr) a f.1 (by omega);have e:=Oi (n:=0) a (by omega) (by omega);rw[gj b,d.1,e]
  have:(decide (0<=gr)&&decide (gr<=64))=false:=by simp;omega
  simp[this]
 simp[b]
end Go.Proofs.YtmkmimgokagimaaGreat
namespace Go.Ab
structure jW where
 lv:UInt8
 cats:UInt32
deriving DecidableEq
structure aw where
 kind:UInt8
 h:xn
 serial:Int
 s:wm
 a:bM
 to:jW
 l:List Int
deriving DecidableEq
def gB(a:bM):Bool:=decide (a.h.lv=0)&&decide (a.h.cats=0)&&decide (a.h.num=0)&&decide (a.n=0)
def wG(t:jW):Bool:=decide (t.lv=0)&&decide (t.cats=0)
def Dq(a b:xn):Bool:=decide (a.lv=b.lv)&&decide (a.cats=b.cats)&&decide (a.num=b.num)
def xZ(a:bM):gB a=true↔a=rP:=by
 obtain⟨⟨a,b,c⟩,d⟩:=a;simp[gB,rP,iQt]
def R9(a b:xn):Dq a b=true↔a=b:=by
 obtain⟨d,e,c⟩:=a;obtain⟨b1,b2,b3⟩:=b;simp[Dq,iQt]
def y4(o:aw):Bool:=gB o.a&&decide (o.l=[])
def Is(o:aw):Bool:=wG o.to&&((gB o.a||E3 o.a)&&(Dq o.s.f.h o.h&&(decide ((o.l.length:Int)=o.s.many)&&La o.l)))
def Ob(o:aw):Bool:=wG o.to&&y4 o
def Ld(o:aw):Bool:=y4 o&&decide (o.to.lv<=15)
def CH(o:aw):Bool:=if o.kind=1 then Is o else if o.kind=2 then Ob o else if o.kind=3 then Ld o else false
def mz(o:aw):Bool:=mA o.h&&(decide (1<=o.serial)&&(decide (o.serial<16777216)&&(eN o.s&&CH o)))
def Ia{P:Program}{t:TypeId}(c:(dL P t).isSome=true)(f:(aA P t).isSome=true)(cs:List AV)(a:Nat):Bb P t cs a=Ra cs a ((aA P t).getD 0) ((dL P t).getD false):=by
 obtain⟨b,d⟩:=ik.1 c;obtain⟨n,e⟩:=ik.1 f;simp only[Bb,d,e,cI];cases b<;>rfl
def EL{P:Program}{t:TypeId}(a:((lQ P t).bind λp=>aA P p.2).isSome=true)(cs:List AV)(k:UInt8)(c:k.toNat<((lQ P t).getD (0,0)).1) :
 r8 P t (some (.agg cs)) (some (a8 k))=kC (Bb P ((lQ P t).getD (0,0)).2 cs (k.toNat * (aA P ((lQ P t).getD (0,0)).2).getD 0)):=by
 cases b:lQ P t with| none=>rw[b]at a;simp at a| some p=>obtain⟨n,e⟩:=p;rw[b]at a c;simp only[eJ,cI]at a c;obtain⟨s,d⟩:=ik.1 a;unfold r8 a8;simp only[eJ,intOf,b,d,cI];rw[if_pos (by omega)];simp
@[simp] def aef(r:Ref)(n:Nat)(f:Fn)(a b:List AV)(c:List aQ):aj r n (.fn f a b) c=(.fn f a b,c):=by cases n<;>rfl
def F2(R:AV->AV->Prop):List AV->List AV->Prop
 | [],[]=>True
 | x :: xs,y :: ys=>R x y/\F2 R xs ys
 | _,_=>False
def F2.len{R:AV->AV->Prop} : ∀ {xs ys:List AV},F2 R xs ys->xs.length=ys.length
 | [],[],_=>rfl
 | _ :: xs,_ :: ys,h=>by simp only[qO];rw[F2.len h.2]
 | [],_ :: _,h=>h.elim
 | _ :: _,[],h=>h.elim
def F2.mono{R b:AV->AV->Prop} : ∀ {xs ys:List AV},(∀x∈xs,∀y,R x y->b x y)->F2 R xs ys->F2 b xs ys
 | [],[],_,_=>trivial
 | x :: xs,y :: ys,a,h=>⟨a x (by simp) y h.1,F2.mono (λx c=>a x (by simp[c])) h.2⟩
 | [],_ :: _,_,h=>h.elim
 | _ :: _,[],_,h=>h.elim
def F2.mapM{R:AV->AV->Prop}{f:AV->Option AV}{h:AV->AV}(b : ∀x y,R x y->f x=some (h y)) : ∀ {xs ys:List AV},F2 R xs ys->xs.mapM f=some (ys.map h)
 | [],[],_=>rfl
 | x :: xs,y :: ys,a=>by rw[mH,b x y a.1,F2.mapM b a.2];rfl
 | [],_ :: _,h=>h.elim
 | _ :: _,[],h=>h.elim
def F2.app{R:AV->AV->Prop} : ∀ {xs ys a b:List AV},F2 R xs ys->F2 R a b->F2 R (xs++a) (ys++b)
 | [],[],_,_,_,h=>h
 | _ :: xs,_ :: ys,_,_,h,c=>⟨h.1,F2.app h.2 c⟩
 | [],_ :: _,_,_,h,_=>h.elim
 | _ :: _,[],_,_,h,_=>h.elim
def F2.split{R:AV->AV->Prop} : ∀ {A':List AV} {xs a:List AV},F2 R xs (A'++a) ->∃A B,xs=A++B/\F2 R A A'/\F2 R B a
 | [],xs,a,h=>⟨[],xs,rfl,trivial,h⟩
 | b :: A',[],a,h=>h.elim
 | b :: A',x :: xs,a,h=>by
  obtain⟨A,B,c,e,d⟩:=F2.split (A':=A') h.2;exact⟨x :: A,B,by rw[c];rfl,⟨h.1,e⟩,d⟩
def F2.at{R:AV->AV->Prop} : ∀ {xs ys:List AV},F2 R xs ys ->∀ {i:Nat} {y:AV},ys[i]?=some y ->∃x,xs[i]?=some x/\R x y
 | [],[],_,i,y,h=>by simp at h
 | x :: xs,y :: ys,a,0,b,h=>by cases h;exact⟨x,rfl,a.1⟩
 | x :: xs,y :: ys,a,i+1,b,h=>F2.at a.2 h
 | [],_ :: _,h,_,_,_=>h.elim
 | _ :: _,[],h,_,_,_=>h.elim
def vM:AV->Bool
 | .v _ | .cC .. => true
 | _=>false
def DC(g:cF)(x y:AV):Prop:=(x=y/\vM y=true) \/∃r z l c,x = .bN r 0 l.length c/\y = .fsl z l c/\g r=some ⟨z,l,true,false⟩/\z≠0
def DE(g:cF)(x y:AV):Prop :=∃xs ys,x = .agg xs/\y = .agg ys/\F2 (DC g) xs ys
def jg:AV->List Ref
 | .bN r _ _ _=>[r]
 | _=>[]
def dB:AV->List Ref
 | .agg xs=>xs.flatMap jg
 | _=>[]
def HG:AV->AV
 | .fsl z l c => .cC z l c
 | x=>x
def A3:AV->AV
 | .agg ys => .agg (ys.map HG)
 | x=>x
def DC.view{g:cF}{x y:AV}(h:DC g x y)(n:Nat):view g (n+1) x=some (HG y):=by
 rcases h with ⟨rfl,h⟩ | ⟨r,z,l,c,rfl,rfl,a,_⟩
 ·cases x<;>first | rfl | cases h
 simp[Ab.view,a,HG]
def DC.export{g:cF}{x y:AV}(h:DC g x y)(n:Nat):bK g (n+1) x=some y:=by
 rcases h with ⟨rfl,h⟩ | ⟨r,z,l,c,rfl,rfl,a,_⟩
 ·cases x<;>first | rfl | cases h
 simp[bK,a]
def DC.refs{g:cF}{x y:AV}(h:DC g x y)(n:Nat):ah g (n+1) x=jg x:=by
 rcases h with ⟨rfl,h⟩ | ⟨r,z,l,c,rfl,rfl,a,_⟩
 ·cases x<;>first | rfl | cases h
 rfl
def DC.aX{g a:cF}{x y:AV}(h:DC g x y)(d : ∀q∈jg x,∀b,g q=some b->a q=some b):DC a x y:=by
 rcases h with h | ⟨r,z,l,c,rfl,rfl,e,f⟩
 ·exact .inl h
 exact .inr ⟨r,z,l,c,rfl,rfl,d r (by simp[jg]) _ e,f⟩
def F2.refs{g:cF}{R:AV->AV->Prop}{f h:AV->List Ref}(b : ∀x y,R x y->f x=h x) : ∀ {xs ys:List AV},F2 R xs ys->xs.flatMap f=xs.flatMap h
 | [],[],_=>rfl
 | x :: xs,y :: ys,a=>by rw[na,na,b x y a.1,F2.refs (g:=g) b a.2]
 | [],_ :: _,h=>h.elim
 | _ :: _,[],h=>h.elim
def DE.view{g:cF}{x y:AV}(h:DE g x y)(n:Nat):view g (n+2) x=some (A3 y):=by
 obtain⟨xs,ys,rfl,rfl,h⟩:=h;show(xs.mapM (Ab.view g (n+1))).map AV.agg=_;rw[F2.mapM (R:=DC g) (f:=Ab.view g (n+1)) (h:=HG) (λx y a=>DC.view a n) h];rfl
def DE.export{g:cF}{x y:AV}(h:DE g x y)(n:Nat):bK g (n+2) x=some y:=by
 obtain⟨xs,ys,rfl,rfl,h⟩:=h;show(xs.mapM (bK g (n+1))).map AV.agg=_;rw[F2.mapM (R:=DC g) (f:=bK g (n+1)) (h:=id) (λx y a=>DC.export a n) h];simp
def DE.refs{g:cF}{x y:AV}(h:DE g x y)(n:Nat):ah g (n+2) x=dB x:=by
 obtain⟨xs,ys,rfl,rfl,h⟩:=h;simp only[ah,dB];exact F2.refs (g:=g) (R:=DC g) (f:=ah g (n+1)) (h:=jg) (λx y a=>DC.refs a n) h
def DE.aX{g a:cF}{x y:AV}(h:DE g x y)(e : ∀q∈dB x,∀b,g q=some b->a q=some b):DE a x y:=by
 obtain⟨xs,ys,rfl,rfl,h⟩:=h;exact⟨xs,ys,rfl,rfl,F2.mono (λx f y c=>DC.aX c λq d b i=>e q (by simp only[dB,fq];exact⟨x,f,d⟩) b i) h⟩
def DC.live{g:cF}{x y:AV}(h:DC g x y) : ∀q∈jg x,∃b,g q=some b:=by
 rcases h with ⟨rfl,h⟩ | ⟨r,z,l,c,rfl,rfl,d,e⟩
 ·intro q a;cases x<;>first | (simp[jg]at a;done) | cases h
 intro q a;simp[jg]at a;subst a;exact⟨_,d⟩
def F2.live{g:cF}{R:AV->AV->Prop}{f:AV->List Ref}(d : ∀x y,R x y ->∀q∈f x,∃b,g q=some b) : ∀ {xs ys:List AV},F2 R xs ys ->∀q∈xs.flatMap f,∃b,g q=some b
 | [],[],_,q,a=>by simp at a
 | x :: xs,y :: ys,c,q,a=>by
  rw[na,iN]at a;rcases a with a | a
  ·exact d x y c.1 q a
  exact F2.live d c.2 q a
 | [],_ :: _,h,_,_=>h.elim
 | _ :: _,[],h,_,_=>h.elim
def DE.live{g:cF}{x y:AV}(h:DE g x y) : ∀q∈dB x,∃b,g q=some b:=by
 obtain⟨xs,ys,rfl,rfl,h⟩:=h;exact F2.live (λx y a=>DC.live a) h
def uO(z:Nat)(H:aa)(s:AV)(es':List AV)(rs:List Ref):Prop:=
 (s = .v (.slice none 0 0)/\es'=[]/\rs=[])\/(∃r,s = .bN r 0 0 (some 0)/\es'=[]/\rs=[r]/\H.get r=some ⟨z,[],true,false⟩) \/
 ∃r es,s = .dsl r 0 es.length none/\es≠[]/\H.get r=some ⟨z,es,false,false⟩/\F2 (DE H.get) es es'/\rs=r :: es.flatMap dB/\rs.Nodup
def TV(z:Nat)(es':List AV)(y:AV):Prop:=(y = .v (.slice none 0 0)/\es'=[])\/(y = .fsl z [] (some 0)/\es'=[])\/(y = .nsl z es' none/\es'≠[])
def Ga(z:Nat)(s:AV)(es':List AV):AV:=match s with
 | .bN _ _ _ c => .fsl z [] c
 | .dsl _ _ _ c => .nsl z es' c
 | s=>s
def Mx:AV->AV
 | .fsl z l c => .cC z l c
 | .nsl z es c => .cC z (es.map A3) c
 | x=>x
def uO.aX{z:Nat}{H H':aa}{s:AV}{es':List AV}{rs:List Ref}(h:uO z H s es' rs)(a : ∀q∈rs,∀b,H.get q=some b->H'.get q=some b):uO z H' s es' rs:=by
 rcases h with h | ⟨r,c,e,rfl,d⟩ | ⟨r,es,c,e,l,d,rfl,i⟩
 ·exact .inl h
 ·exact .inr (.inl ⟨r,c,e,rfl,a r (by simp) _ d⟩)
 exact .inr (.inr ⟨r,es,c,e,a r (by simp) _ l,F2.mono (λx j y f=>DE.aX f λq g b k=>a q (by simp only[eD,fq];exact .inr ⟨x,j,g⟩) b k) d,rfl,i⟩)
def uO.live{z:Nat}{H:aa}{s:AV}{es':List AV}{rs:List Ref}(h:uO z H s es' rs) : ∀q∈rs,∃b,H.get q=some b:=by
 rcases h with ⟨_,_,rfl⟩ | ⟨r,e,g,rfl,c⟩ | ⟨r,es,e,g,f,c,rfl,i⟩
 ·intro q a;cases a
 ·intro q a;simp at a;subst a;exact⟨_,c⟩
 intro q a;rcases eD.1 a with rfl | a
 ·exact⟨_,f⟩
 exact F2.live (λx y d=>DE.live d) c q a
def uO.nodup{z:Nat}{H:aa}{s:AV}{es':List AV}{rs:List Ref}(h:uO z H s es' rs):rs.Nodup:=by
 rcases h with ⟨_,_,rfl⟩ | ⟨r,a,d,rfl,c⟩ | ⟨r,es,a,d,e,c,rfl,b⟩
 ·simp
 ·simp
 exact b
def uO.out{z:Nat}{H:aa}{s:AV}{es':List AV}{rs:List Ref}(h:uO z H s es' rs)(n:Nat) :
 bK H.get (n+3) s=some (Ga z s es')/\view H.get (n+3) s=some (Mx (Ga z s es'))/\ah H.get (n+3) s=rs/\TV z es' (Ga z s es'):=by
 rcases h with ⟨rfl,rfl,rfl⟩ | ⟨r,rfl,rfl,rfl,a⟩ | ⟨r,es,rfl,p,j,a,rfl,q⟩
 ·exact⟨rfl,rfl,rfl,.inl ⟨rfl,rfl⟩⟩
 ·refine⟨?_,?_,rfl,.inr (.inl ⟨rfl,rfl⟩)⟩;·simp[bK,a,Ga]
  simp[view,a,Ga,Mx]
 have i:=a.len;have d:es'≠[]:=(by intro e;rw[e]at i;exact p (Fu.1 i));have m:=F2.mapM (R:=DE H.get) (f:=bK H.get (n+2)) (h:=id) (λx y c=>DE.export c n) a;have k:=F2.mapM (R:=DE H.get) (f:=Ab.view H.get (n+2)) (h:=A3) (λx y c=>DE.view c n) a;have o:=F2.refs (g:=H.get) (R:=DE H.get) (f:=ah H.get (n+2)) (h:=dB) (λx y c=>DE.refs c n) a;refine⟨?_,?_,?_,.inr (.inr ⟨rfl,d⟩)⟩
 ·show(match H.get r with
   | some b=>if b.arr=false/\es.length=b.es.length then (if b.gJ then (b.es.mapM (view H.get (n+2))).map λes=>AV.cC b.esz es none else (b.es.mapM (bK H.get (n+2))).map λes=>AV.nsl b.esz es none) else none
   | none=>none)=_
  rw[j];simp only[m];simp[Ga]
 ·show(match H.get r with
   | some b=>if b.arr=false/\0+es.length<=b.es.length then (b.es.mapM (view H.get (n+2))).map λ(l:List AV)=>AV.cC b.esz ((l.drop 0).take es.length) none else none
   | none=>none)=_
  rw[j];simp only[k];simp[Ga,Mx];rw[i,show es'.length=(es'.map A3).length from(pI _).symm,AT]
 show(r :: (match H.get r with | some b=>b.es.flatMap (ah H.get (n+2)) | none=>[]))=_;rw[j];simp only[o]
def uO.len{z:Nat}{H:aa}{s:AV}{es':List AV}{rs:List Ref}(h:uO z H s es' rs):og s=some es'.length:=by
 rcases h with ⟨rfl,rfl,rfl⟩ | ⟨r,rfl,rfl,rfl,a⟩ | ⟨r,es,rfl,d,c,a,rfl,b⟩
 ·rfl
 ·rfl
 simp[og,a.len]
def At(g:cF)(r:Ref)(k:Nat)(a:List aQ):Prop :=∀i b,a[i]?=some b->g { r with k:=k+i}=some b
def Xh{g:cF}{r:Ref}{k:Nat}{a d:List aQ}(h:At g r k (a++d)):At g r k a:=λi b c=>h i b (by rw[kA (ew.1 c).1];exact c)
def Xg{g:cF}{r:Ref}{k:Nat}{a c:List aQ}(h:At g r k (a++c)):At g r (k+a.length) c:=λi b d=>by
 have:=h (a.length+i) b (by rw[jP (by omega),show a.length+i - a.length=i by omega];exact d);rw[GL];exact this
def s9(r:Ref)(k n:Nat):List Ref:=(List.range' k n).map λk => { r with k:=k}
def J3(r:Ref)(k m n:Nat):s9 r k m++s9 r (k+m) n=s9 r k (m+n):=by
 unfold s9;rw[<-Ai];congr 1;have:=List.range'_append (s:=k) (m:=m) (n:=n) (step:=1);simpa using this
def MQ(r:Ref)(k n:Nat):(s9 r k n).Nodup:=by
 unfold s9;rw[List.nodup_iff_pairwise_ne,List.pairwise_map];refine List.Pairwise.imp ?_ (List.nodup_iff_pairwise_ne.1 (List.nodup_range' (s:=k) (n:=n)));intro a b h e;exact h (iQg Ref.k e)
def J9{r q:Ref}{k n:Nat}(h:q∈s9 r k n):q.d=r.d/\q.t=r.t/\q.g=r.g/\k<=q.k/\q.k<k+n:=by
 unfold s9 at h;obtain⟨i,a,rfl⟩:=jO.1 h;have:=List.mem_range'_1.1 a;exact⟨rfl,rfl,rfl,this.1,this.2⟩
def Imp(R:cF->AV->AV->Prop)(rf:AV->List Ref)(r:Ref)(n:Nat)(y:AV):Prop :=∀a,∃x add,aj r n y a=(x,a++add)/\(∀g,At g r a.length add->R g x y)/\rf x=s9 r a.length add.length
def ND{R:cF->AV->AV->Prop}{rf:AV->List Ref}{r:Ref}{n:Nat} : ∀(ys:List AV),(∀y∈ys,Imp R rf r n y) ->∀(a:List AV)(b:List aQ),
 ∃xs add,ys.foldl (λ(p:List AV × List aQ) c=>let (y,b):=aj r n c p.2;(p.1++[y],b)) (a,b)=(a++xs,b++add)/\(∀g,At g r b.length add->F2 (R g) xs ys)/\xs.flatMap rf=s9 r b.length add.length:=by
 intro ys;induction ys with
 | nil=>intro _ a b;exact⟨[],[],by simp,λg _=>trivial,by simp[s9]⟩
 | cons y ys l=>
  intro h a b;obtain⟨x,e,i,f,m⟩:=h y (by simp) b;obtain⟨xs,j,f1,f2,f3⟩:=l (λy k=>h y (by simp[k])) (a++[x]) (b++e);refine⟨x :: xs,e++j,?_,λg d=>⟨f g (Xh d),f2 g ?_⟩,?_⟩;·simp only[tZ,i,f1];simp
  ·have:=Xg d;rw[mI];exact this
  rw[na,m,f3,mI,J3,mI]
def Ti:AV->Bool
 | .v _ | .cC .. => true
 | .fsl z _ _=>z != 0
 | _=>false
def Th:AV->Bool
 | .agg ys=>ys.all Ti
 | _=>false
def Y4{y:AV}(h:Ti y=true)(r:Ref)(n:Nat):Imp DC jg r (n+1) y:=by
 intro d;cases y<;>first | cases h | skip
 ·exact⟨_,[],by simp[aj],λg _ => .inl ⟨rfl,rfl⟩,by simp[s9,jg]⟩
 ·exact⟨_,[],by simp[aj],λg _ => .inl ⟨rfl,rfl⟩,by simp[s9,jg]⟩
 rename_i z l c;have a:z≠0:=by simpa [Ti] using h
 refine⟨.bN { r with k:=d.length} 0 l.length c,[⟨z,l,true,false⟩],by simp[aj,a],λg b => .inr ⟨_,z,l,c,rfl,rfl,?_,a⟩,by simp[s9,jg]⟩;have:=b 0 _ rfl;simpa using this
def Y3{y:AV}(h:Th y=true)(r:Ref)(n:Nat):Imp DE dB r (n+2) y:=by
 intro a;cases y<;>first | cases h | skip
 rename_i ys;obtain⟨xs,add,d,j,f⟩:=ND (R:=DC) (rf:=jg) (r:=r) (n:=n+1) ys (λy i=>Y4 (gx.1 h y i) r n) [] a;refine⟨.agg xs,add,?_,λg b=>⟨xs,ys,rfl,rfl,j g b⟩,f⟩;have e:aj r (n+2) (.agg ys) a=(λp:List AV × List aQ=>(AV.agg p.1,p.2)) (ys.foldl (λ(p:List AV × List aQ) c=>let (y,a):=aj r (n+1) c p.2;(p.1++[y],a)) ([],a)):=rfl;rw[e,d];rfl
def TV.imp{z:Nat}{es':List AV}{y:AV}(m:z≠0)(h:TV z es' y)(o : ∀e∈es',Th e=true)(r:Ref)(n:Nat)(a:List aQ) :
 ∃s add,aj r (n+3) y a=(s,a++add)/\(∀H:aa,At H.get r a.length add ->∃rs,uO z H s es' rs/\(∀q∈rs,q∈s9 r a.length add.length)/\Ga z s es'=y):=by
 rcases h with ⟨rfl,rfl⟩ | ⟨rfl,rfl⟩ | ⟨rfl,g⟩
 ·exact⟨_,[],by simp[aj],λH _=>⟨[],.inl ⟨rfl,rfl,rfl⟩,(λq b=>by cases b),rfl⟩⟩
 ·refine⟨.bN { r with k:=a.length} 0 0 (some 0),[⟨z,[],true,false⟩],by simp[aj,m],λH d=>⟨[{ r with k:=a.length}],.inr (.inl ⟨_,rfl,rfl,rfl,by simpa using d 0 _ rfl⟩),λq b=>?_,rfl⟩⟩;simpa [s9] using b
 obtain⟨xs,add,t,w,u⟩:=ND (R:=DE) (rf:=dB) (r:=r) (n:=n+2) es' (λy v=>Y3 (o y v) r n) [] a;refine⟨.dsl { r with k:=a.length+add.length} 0 es'.length none,add++[⟨z,xs,false,false⟩],?_,λH d=>?_⟩;·have e:aj r (n+3) (.nsl z es' none) a=(λp:List AV × List aQ=>(AV.dsl { r with k:=p.2.length} 0 es'.length none,p.2++[⟨z,p.1,false,false⟩])) (es'.foldl (λ(p:List AV × List aQ) c=>let (y,a):=aj r (n+2) c p.2;(p.1++[y],a)) ([],a)):=rfl;rw[e,t];simp
 have i:=w H.get (Xh d);have f:=i.len;have j:=Xg d 0 _ rfl;refine⟨{ r with k:=a.length+add.length} :: s9 r a.length add.length,.inr (.inr ⟨_,xs,by rw[f],?_,by simpa using j,i,by rw[u],?_⟩),λq b=>?_,rfl⟩;·intro e;rw[e]at f;exact g (Fu.1 f.symm)
 ·refine yd.2 ⟨λl=>?_,MQ _ _ _⟩;have:=(J9 l).2.2.2.2;simp only at this;omega
 rw[mI,GV,<-J3];rcases eD.1 b with rfl | b
 ·simp[s9]
 simp[b]
def qp(z:Nat)(H:aa)(r:Ref)(es':List AV)(rs:List Ref):Prop :=∃es,H.get r=some ⟨z,es,false,false⟩/\F2 (DE H.get) es es'/\rs=r :: es.flatMap dB/\rs.Nodup
def qp.row{z:Nat}{H:aa}{r:Ref}{es':List AV}{rs:List Ref}(h:qp z H r es' rs)(a:es'≠[]):uO z H (.dsl r 0 es'.length none) es' rs:=by
 obtain⟨es,d,c,f,g⟩:=h;have b:=c.len;exact .inr (.inr ⟨r,es,by rw[b],λe=>a (Fu.1 (by rw[<-b,e];rfl)),d,c,f,g⟩)
def qp.aX{z:Nat}{H H':aa}{r:Ref}{es':List AV}{rs:List Ref}(h:qp z H r es' rs)(a : ∀q∈rs,∀b,H.get q=some b->H'.get q=some b):qp z H' r es' rs:=by
 obtain⟨es,i,j,rfl,e⟩:=h;exact⟨es,a r (by simp) _ i,F2.mono (λx f y c=>DE.aX c λq d b g=>a q (by simp only[eD,fq];exact .inr ⟨x,f,d⟩) b g) j,rfl,e⟩
def qp.live{z:Nat}{H:aa}{r:Ref}{es':List AV}{rs:List Ref}(h:qp z H r es' rs) : ∀q∈rs,∃b,H.get q=some b:=by
 obtain⟨es,d,e,rfl,f⟩:=h;intro q a;rcases eD.1 a with rfl | a
 ·exact⟨_,d⟩
 exact F2.live (λx y c=>DE.live c) e q a
def yC{b:Type}{l:List b}{i:Nat}{a:b}(h:l[i]?=some a):l=l.take i++a :: l.drop (i+1):=by
 obtain⟨c,rfl⟩:=ew.1 h;rw[<-iQC c,KH]
def Fv{A B xs:List AV}{i j:Nat}{v:AV}(a:A.length=i)(b:j<xs.length):fP (A ++ .agg xs :: B) i j [v]=some (A ++ .agg (patch xs j [v]) :: B):=by
 subst a;unfold fP;rw[jP (cH _),wH];simp only[KJ,Jc,GV];rw[if_pos (by omega)];simp only[Gy _ _ (cH _),wH,Fm,Option.map_some]
def EO{a b:List AV}{x v:AV}{j:Nat}(h:a.length=j):patch (a++x :: b) j [v]=a++v :: b:=by
 subst h;simp[patch]
def qp.at{z:Nat}{H:aa}{r:Ref}{es':List AV}{rs:List Ref}(h:qp z H r es' rs){i:Nat}{ys:List AV}(k:es'[i]?=some (.agg ys)) :
 ∃es xs,H.get r=some ⟨z,es,false,false⟩/\es.length=es'.length/\es[i]?=some (.agg xs)/\F2 (DC H.get) xs ys /\∀q∈xs.flatMap jg,q∈rs:=by
 obtain⟨es,f,b,g,l⟩:=h;obtain⟨x,a,xs,d,rfl,e,c⟩:=b.at k;cases e;refine⟨es,xs,f,b.len,a,c,λq j=>?_⟩;rw[g];simp only[eD,fq];exact .inr ⟨_,dJ a,by simpa [dB] using j⟩
def qp.set{z:Nat}{H:aa}{r:Ref}{es':List AV}{rs:List Ref}(h:qp z H r es' rs){i j:Nat}{ys:List AV}(hi:es'[i]?=some (.agg ys))(hj:j<ys.length){q:Ref}(V:H.get q=none)(w:Nat)(hz:w≠0)(l:List AV)(c:Option Nat) :
 ∃es E,H.get r=some ⟨z,es,false,false⟩/\es.length=es'.length/\fP es i j [.bN q 0 l.length c]=some E /\
  ∀H':aa,H'.get r=some ⟨z,E,false,false⟩->H'.get q=some ⟨w,l,true,false⟩->(∀p b,p≠r->H.get p=some b->H'.get p=some b) ->
   ∃L,qp z H' r (es'.set i (.agg (patch ys j [.fsl w l c]))) L /\∀p∈L,p∈rs\/p=q:=by
 have u:=h.live;obtain⟨es,Y,Z,N,K⟩:=h;have P:=yC hi;have hil:i<es'.length:=(ew.1 hi).1;have m:(es'.take i).length=i:=by rw[nZ];omega
 generalize es'.take i=A' at *;generalize es'.drop (i+1)=B' at *;subst P;obtain⟨A,C,rfl,W,T⟩:=F2.split Z;match C,T with
 | x :: B,T=>
 obtain⟨⟨xs,ys',rfl,e,hX⟩,hB⟩:=T;cases e;have R:A.length=i:=by rw[W.len,m]
 obtain⟨y,hy⟩ : ∃y,ys[j]?=some y:=⟨_,dy hj⟩;have Q:=yC hy;have F:(ys.take j).length=j:=by rw[nZ];omega
 generalize ys.take j=Y1 at *;generalize ys.drop (j+1)=Y2 at *;subst Q;obtain⟨f,X3,rfl,J,o⟩:=F2.split hX;match X3,o with
 | x0 :: g,o=>
 have D:f.length=j:=by rw[J.len,F]
 refine⟨_,_,Y,Z.len,Fv R (by simp;omega),λH' X g2 g3=>?_⟩;rw[EO D]at X;have G:(A' ++ .agg (Y1++y :: Y2) :: B').set i (.agg (patch (Y1++y :: Y2) j [.fsl w l c]))=A' ++ .agg (Y1 ++ .fsl w l c :: Y2) :: B':=by
  rw[EO F,Gy _ _ (by omega),m,wH,Fm]
 rw[G];have d : ∀p,p∈A.flatMap dB\/p∈f.flatMap jg\/p∈g.flatMap jg\/p∈B.flatMap dB->p∈rs/\p≠r:=by
  intro p hp;have:p∈(A ++ .agg (f++x0 :: g) :: B).flatMap dB:=by
   simp only[AP,na,iN,dB];rcases hp with hp | hp | hp | hp
   ·exact .inl hp
   ·exact .inr (.inl (.inl hp))
   ·exact .inr (.inl (.inr (.inr hp)))
   exact .inr (.inr hp)
  rw[N]at K;exact⟨by rw[N];exact fO _ this,λe=>(yd.1 K).1 (e ▸ this)⟩
 have M : ∀p,p∈A.flatMap dB\/p∈f.flatMap jg\/p∈g.flatMap jg\/p∈B.flatMap dB ->∀b,H.get p=some b->H'.get p=some b:=λp hp b k=>g3 p b (d p hp).2 k;have S:q≠r:=by
  intro e;rw[e,Y]at V;cases V
 refine⟨r :: (A ++ .agg (f ++ .bN q 0 l.length c :: g) :: B).flatMap dB,⟨_,X,?_,rfl,?_⟩,?_⟩;·refine F2.app (F2.mono (λx v y n=>DE.aX n λp hp b k=>M p (.inl (fq.2 ⟨x,v,hp⟩)) b k) W) ⟨⟨_,_,rfl,rfl,F2.app (F2.mono (λx v y n=>DC.aX n λp hp b k=>M p (.inr (.inl (fq.2 ⟨x,v,hp⟩))) b k) J) ⟨.inr ⟨q,w,l,c,rfl,rfl,g2,hz⟩,F2.mono (λx v y n=>DC.aX n λp hp b k=>M p (.inr (.inr (.inl (fq.2 ⟨x,v,hp⟩)))) b k) o.2⟩⟩,F2.mono (λx v y n=>DE.aX n λp hp b k=>M p (.inr (.inr (.inr (fq.2 ⟨x,v,hp⟩)))) b k) hB⟩
 ·rw[N]at K;have e1:(A ++ .agg (f++x0 :: g) :: B).flatMap dB=A.flatMap dB++(f.flatMap jg++(jg x0++(g.flatMap jg++B.flatMap dB))):=by simp[dB,AP,na]
  have U:(A ++ .agg (f ++ .bN q 0 l.length c :: g) :: B).flatMap dB=A.flatMap dB++(f.flatMap jg++(q :: (g.flatMap jg++B.flatMap dB))):=(by simp[dB,AP,na,jg]);rw[e1]at K;rw[U];have I:(r :: (A.flatMap dB++(f.flatMap jg++(g.flatMap jg++B.flatMap dB)))).Sublist (r :: (A.flatMap dB++(f.flatMap jg++(jg x0++(g.flatMap jg++B.flatMap dB))))):=
   List.Sublist.cons_cons _ (iQX (List.Sublist.refl _) (iQX (List.Sublist.refl _) (List.sublist_append_right _ _)))
  have hn:=K.sublist I;have t:(r :: (A.flatMap dB++(f.flatMap jg++(q :: (g.flatMap jg++B.flatMap dB))))).Perm (q :: (r :: (A.flatMap dB++(f.flatMap jg++(g.flatMap jg++B.flatMap dB))))):=(by have:=List.perm_middle (a:=q) (l₁:=r :: (A.flatMap dB++f.flatMap jg)) (l₂:=g.flatMap jg++B.flatMap dB);simpa [AM] using this);refine t.nodup_iff.2 (yd.2 ⟨λO=>?_,hn⟩);rcases eD.1 O with rfl | O
  ·exact S rfl
  have:q∈rs:=(d q (by simp only[iN]at O;exact O)).1;obtain⟨b,k⟩:=u q this;rw[V]at k;cases k
 intro p hp;rcases eD.1 hp with rfl | hp
 ·exact .inl (by rw[N];simp)
 have U:(A ++ .agg (f ++ .bN q 0 l.length c :: g) :: B).flatMap dB=A.flatMap dB++(f.flatMap jg++(q :: (g.flatMap jg++B.flatMap dB))):=(by simp[dB,AP,na,jg]);rw[U]at hp;simp only[iN,eD]at hp;rcases hp with hp | hp | hp | hp | hp
 ·exact .inl (d p (.inl hp)).1
 ·exact .inl (d p (.inr (.inl hp))).1
 ·exact .inr hp
 ·exact .inl (d p (.inr (.inr (.inl hp)))).1
 exact .inl (d p (.inr (.inr (.inr hp)))).1
@[simp] def T2{P:Program}{t:TypeId}(h:p9 P t=true)(g:cF)(r:Ref)(o n:Nat)(c:Option Nat)(a:IntKind)(k:Int) :
 da P g t (some (.dsl r o n c)) (some (.v (.int a k)))=acf (oA P t) o n k r (g r):=by
 unfold p9 at h;obtain⟨e,l,b,d,m,p,i,j,q,f⟩:=jh h;simp only[da,eJ,intOf,b,d];cases g r<;>rfl
@[simp] def ad4(r:Ref)(o n:Nat)(c:Option Nat):og (.dsl r o n c)=some n:=id rfl
def rG(a b:jW):Bool:=decide (a.lv<=b.lv)&&decide (a.cats &&& ~~~b.cats=0)
def kL(l:List jW):List AV:=l.map λa => .agg [a8 a.lv,af a.cats]
@[simp] def Nz(l:List jW):(kL l).length=l.length:=by simp[kL]
def Te(l:List jW)(a:UInt8)(b:UInt32):kL l++[.agg [a8 a,af b]]=kL (l++[⟨a,b⟩]):=by simp[kL]
@[simp] def Lu(l:List jW):kL l=[]↔l=[]:=by simp[kL]
def hasB(s:wm)(i:bM):Bool:=eN s&&(decide (s.f.h=i.h)&&(decide (s.f.n<=i.n)&&decide (i.n<s.f.n+s.many)))
def LJ(o:aw):jW:=⟨o.h.lv,o.h.cats⟩
def OG(i:bM):jW:=⟨i.h.lv,i.h.cats⟩
def kK(o:aw)(i:bM)(v:jW):Bool:=decide (o.kind=3)&&(hasB o.s i&&rG (LJ o) v)
def sX(out:List jW)(t:jW):List jW:=if t∈out then out else out++[t]
def vQ(out:List jW)(l:List aw)(i:bM)(v:jW):List jW:=l.foldl (λout o=>if kK o i v then sX out o.to else out) out
def pT(l:List aw)(i:bM)(v:jW):List jW:=vQ [OG i] l i v
def la(l:List aw)(o:aw):Bool:=if o.kind=3 then rG (LJ o) o.to&&(List.range o.s.many.toNat).all (λk=>decide (LJ o∈pT l ⟨o.s.f.h,o.s.f.n+(k:Int)⟩ (LJ o))) else true
def mb:List aw->List aw->Bool
 | _,[]=>true
 | l,o :: s=>mz o&&la l o&&mb (l++[o]) s
def qH(l:List aw):Int:=if 2048<l.length then 4 else if mb [] l then 0 else 8
def lpO(o:Option aQ):Option (Nat × AV):=match o with
 | some ⟨0,[.v (.int .i64 st),inf],_,_⟩=>some (st.toNat,inf)
 | _=>none
def wX(H:aa)(r:Ref):zM H r=lpO (H.get r):=rfl
@[simp] def DP(st:Nat)(a:AV):lpO (some (k7 st a))=some (st,a):=by
 simp[lpO,k7]
def Xe(a:AV)(K:AV->Prop)(m:Mk K):bgP (some (0,a)) K m↔K a:=by
 constructor;·rintro⟨info,e,h⟩;simp only[dG,ya,iQo]at e;subst e;exact h
 intro h;exact⟨a,rfl,h⟩
attribute [simp] Xe
def Wl(H:aa)(r:Ref)(st:Nat)(a:AV):zM (H.put r (some (k7 st a))) r=some (st,a):=by
 rw[wX,aa.get_put,if_pos rfl,DP]
def Td{E:Env}{fn:Func}{dep nt:Nat}{r:Ref}{f:FuncId}{ps:List Tmp}{assign body:Code}{tm:List AV}{args:List AV}{H:aa}{Q:AV->aa->Prop}
 (d:H.get r=some (k7 0 (.lp f nt ps assign body tm))) (b:fn.ntmps=nt) (hp:args.length=ps.length) (c:ps.all (· < nt)=true) (k:codeOk E.ok assign=true) (i:codeOk E.ok body=true)
 (h:Goes E fn (some r) (dep+1) [.code assign,.beginRound,.code body] (dA (xI tm ps args)) H λx H'=>x = .v (.int .i64 0) /\∃a,H'.get r=some (k7 1 a)/\Q (.v (.bool true)) (H'.put r (some (k7 0 a)))) :
 ∃y H',cb E dep (.yld r) args H=some (y,H')/\Q y H':=by
 refine Wp (by rw[wX,d];exact DP _ _) b hp c k i ?_;intro tm' j;obtain⟨y,H',⟨rfl,a,g,e⟩,n,b⟩:=h tm' j;exact⟨_,H',⟨0,rfl,a,_,by rw[wX,g];exact DP _ _,rfl,Wl _ _ _ _,λ_=>e,λh=>absurd h (by decide),by decide⟩,n,b⟩
def Nj{s:dF}{l:List (Nat × AV)}(h : ∀p∈l,s p.1=p.2):PW s l=s:=by
 induction l with| nil=>rfl| cons p l b=>
  obtain⟨j,v⟩:=p;funext i;show cond (Nat.beq i j) v (PW s l i)=s i;rw[b λp hp=>h p (fO _ hp)];cases a:Nat.beq i j with
  | false=>rfl
  | true=>have:=mK a;subst this;exact(h _ (gy ..)).symm
@[simp] def ZU(r:Ref)(o n:Nat)(c:Option Nat)(y:AV):fP [AV.bN r o n c] 0 0 [y]=some [y]:=id rfl
@[simp] def acY(x:Value)(y:AV):fP [AV.v x] 0 0 [y]=some [y]:=id rfl
def wC(p:aw × AV):AV := .agg [a8 p.1.kind,a8 p.1.h.lv,af p.1.h.cats,a8 p.1.h.num,aI p.1.serial,a8 p.1.s.f.h.lv,af p.1.s.f.h.cats,a8 p.1.s.f.h.num,aI p.1.s.f.n,aI p.1.s.many,
 a8 p.1.a.h.lv,af p.1.a.h.cats,a8 p.1.a.h.num,aI p.1.a.n,a8 p.1.to.lv,af p.1.to.cats,p.2]
def bf(l:List (aw × AV)):List AV:=l.map wC
@[simp] theorem kg(l:List (aw × AV)):(bf l).length=l.length:=by simp[bf]
def ET(p:aw × AV):Prop:=Sl 1 (rows p.1.l) p.2/\p.1.l.length<2000000
def opsOf(l:List (aw × AV)):List aw:=l.map (·.1)
def Oj{E:Env}(dep:Nat)(H:aa)(r q:Ref)(args:List AV):bB E true (ax E) (cb E dep) H r (some (.yld q)) args=cb E dep (.yld q) args H:=by
 simp[bB,kW,mE,Gb,nH]
def Oy(out:List jW)(t:jW):(sX out t).length<=out.length+1:=by
 unfold sX;split;·omega
 simp
def Ta(s:List aw)(i:bM)(v:jW) : ∀out:List jW,(vQ out s i v).length<=out.length+s.length:=by
 induction s with| nil=>intro out;simp[vQ]| cons o s a=>
  intro out;show(vQ (if kK o i v then sX out o.to else out) s i v).length<=_;have b:=a (if kK o i v then sX out o.to else out);have c:(if kK o i v then sX out o.to else out).length<=out.length+1:=by
   split;·exact Oy _ _
   omega
  simp only[qO];omega
def Ks(H H':aa)(refs:List Ref):Prop :=∀q b,H.get q=some b ->∃fz,H'.get q=some { b with gJ:=fz}/\(q ∉ refs->fz=b.gJ)
def Ks.same{H H':aa}{refs:List Ref}(h:Ks H H' refs){q:Ref}(a:q ∉ refs){b:aQ}(d:H.get q=some b):H'.get q=some b:=by
 obtain⟨fz,c,e⟩:=h q b d;rw[c,e a]
def WH(H:aa)(refs:List Ref):Ks H (bV H refs) refs:=by
 intro q b a;rw[aa.cX];unfold uK;by_cases h:q∈refs;·exact⟨true,by simp[h,a],λc=>absurd h c⟩
 exact⟨b.gJ,by simp[h,a],λ_=>rfl⟩
def TT{H:aa}(b:Fr H)(refs:List Ref):Fr (bV H refs):=by
 intro d t g k a;rw[aa.ij]at a;rw[aa.cX];have:=b d t g k a;unfold uK;split<;>simp[this]
def Tz{o:Option AV}{H:aa}{r:Ref}(M : ∃d t,r=⟨d,t,H.gen d t,0⟩){z:Nat}(O:z≠0){y:AV}{es':List AV}{mk:AV->AV}{n:Nat}{K:AV->aa->Prop}{refs:List Ref}
 (N:o=some (mk y)) (w : ∀r s x,aj r (n+3) y []=(s,x)->aj r depth (mk y) []=(mk s,x)) (J:TV z es' y) (m : ∀e∈es',Th e=true) (j:Fr H)
 (G : ∀H' s rs,Fr H'->uO z H' s es' rs->Ks H H' refs->(∀q∈rs,H.get q=none)->Ga z s es'=y->K (mk s) H') :
 lE (w9 true H r refs o) K:=by
 obtain⟨d,t,rfl⟩:=M;obtain⟨s,add,A,C⟩:=J.imp O m ⟨d,t,H.gen d t,0⟩ n [];have B:=w _ _ _ A;simp only[sZ,CZ]at A C B;have c : ∀a:aa,Fr a->Ks H a refs->(∀q,H.get q=none->a.get q=none)->(∀d t,a.gen d t=H.gen d t)->K (mk s) (keyed ⟨d,t,H.gen d t,0⟩ 0 add a):=by
  intro a u E U F;have p:At (keyed ⟨d,t,H.gen d t,0⟩ 0 add a).get ⟨d,t,H.gen d t,0⟩ 0 add:=by
   intro i b m;have v:=(ew.1 m).1;rw[aa.BP,if_pos ⟨rfl,rfl,rfl,by simp,by simpa using v⟩];simpa using m
  obtain⟨rs,I,P,D⟩:=C _ p;refine G _ s rs ?_ I (λq b l=>?_) (λq f=>?_) D;·have:=Fr.keyed u add d t;rw[F]at this;exact this
  ·obtain⟨fz,T,S⟩:=E q b l;refine⟨fz,?_,S⟩;rw[aa.BP,if_neg (λh=>?_)];·exact T
   have:=j q.d q.t q.g q.k (by rw[h.1,h.2.1,h.2.2.1];exact cH _);rw[show(⟨q.d,q.t,q.g,q.k⟩:Ref)=q from rfl,l]at this;cases this
  obtain⟨R,Q,L,_⟩:=J9 (P q f);exact j q.d q.t q.g q.k (by rw[R,Q,L];exact cH _)
 subst N;simp only[w9,B];split;·exact tL rfl (c H j (λq b l=>⟨b.gJ,l,λ_=>rfl⟩) (λq f=>f) λ_ _=>rfl)
 refine tL rfl (c (bV H refs) (TT j refs) (WH H refs) (λq f=>?_) λd t=>aa.ij _ _ _ _);rw[aa.cX];unfold uK;split<;>simp[f]
structure Fh where
 z:Nat
 s:AV
 es:List AV
 rs:List Ref
structure B2 (H:aa) (fs:List (Ref × aQ)) (rows:List Fh):Prop where
 fr:Fr H
 has : ∀p∈fs,H.get p.1=some p.2
 nd:(fs.map (·.1)).Nodup
 row : ∀t∈rows,uO t.z H t.s t.es t.rs
 sep : ∀t∈rows,∀p∈fs,p.1 ∉ t.rs
 dis:rows.Pairwise λt u =>∀q∈t.rs,q ∉ u.rs
def B2.nil:B2 [] [] []:=⟨Fr.nil,by simp,by simp,by simp,by simp,List.Pairwise.nil⟩
def B2.grow{H H':aa}{a:List (Ref × aQ)}{rows:List Fh}(h:B2 H a rows)(d:Fr H')(c : ∀q b,H.get q=some b->H'.get q=some b):B2 H' a rows:=
 ⟨d,λp hp=>c _ _ (h.has p hp),h.nd,λt f=>(h.row t f).aX λq _ b e=>c q b e,h.sep,h.dis⟩
def B2.add{H:aa}{a:List (Ref × aQ)}{rows:List Fh}(h:B2 H a rows){r:Ref}{b:aQ}(d:H.get r=some b)(f : ∀p∈a,p.1≠r)(g : ∀t∈rows,r ∉ t.rs):B2 H ((r,b) :: a) rows:=
 ⟨h.fr,λp hp=>(eD.1 hp).elim (λe=>by rw[e];exact d) (h.has p),yd.2 ⟨λi=>by obtain⟨p,hp,e⟩:=jO.1 i;exact f p hp e,h.nd⟩,h.row,λt c p hp=>(eD.1 hp).elim (λe=>by rw[e];exact g t c) (h.sep t c p),h.dis⟩
def B2.sub{H:aa}{c a:List (Ref × aQ)}{rows:List Fh}(h:B2 H c rows)(b:a.Sublist c):B2 H a rows:=
 ⟨h.fr,λp hp=>h.has p (b.mem hp),(b.map _).nodup h.nd,h.row,λt d p hp=>h.sep t d p (b.mem hp),h.dis⟩
def B2.live{H:aa}{c:List (Ref × aQ)}{rows:List Fh}(h:B2 H c rows){r:Ref}(e:H.get r=none) : ∀t∈rows,r ∉ t.rs:=λt d f=>by
 obtain⟨b,a⟩:=(h.row t d).live r f;rw[e]at a;cases a
def B2.new{H:aa}{f:List (Ref × aQ)}{rows:List Fh}(h:B2 H f rows)(d t:Nat)(b:aQ):B2 ((⟨d,t,H.gen d t,0⟩,some b) :: H) ((⟨d,t,H.gen d t,0⟩,b) :: f) rows:=by
 have c:H.get ⟨d,t,H.gen d t,0⟩=none:=h.fr d t _ 0 (cH _);refine(h.grow (xp h.fr rfl _) λq b' a=>?_).add (by rw[aa.fh,if_pos rfl]) (λp hp e=>?_) (h.live c);·rw[aa.fh,if_neg (λe=>by rw[<-e,c]at a;cases a)];exact a
 have:=h.has p hp;rw[e,c]at this;cases this
def B2.call{o:Option AV}{H:aa}{l:List (Ref × aQ)}{rows:List Fh}(h:B2 H l rows){r:Ref}(B : ∃d t,r=⟨d,t,H.gen d t,0⟩){z:Nat}(F:z≠0){y:AV}{es':List AV}{mk:AV->AV}{n:Nat}{K:AV->aa->Prop}{refs:List Ref}
 (i : ∀p∈l,p.1 ∉ refs) (w : ∀t∈rows,∀q∈t.rs,q ∉ refs)
 (D:o=some (mk y)) (m : ∀r s x,aj r (n+3) y []=(s,x)->aj r depth (mk y) []=(mk s,x)) (I:TV z es' y) (J : ∀e∈es',Th e=true)
 (G : ∀H' s rs,B2 H' l (⟨z,s,es',rs⟩ :: rows)->Ks H H' refs->(∀q∈rs,H.get q=none)->Ga z s es'=y->K (mk s) H') :
 lE (w9 true H r refs o) K:=by
 refine Tz B F D m I J h.fr λH' s rs A c g j C=>?_;refine G H' s rs ⟨A,λp hp=>g.same (i p hp) (h.has p hp),h.nd,λt a=>?_,λt a p hp=>?_,?_⟩ g j C
 ·rcases eD.1 a with rfl | a
  ·exact c
  exact(h.row t a).aX λq v b f=>g.same (w t a q v) f
 ·rcases eD.1 a with rfl | a
  ·intro k;have:=j _ k;rw[h.has p hp]at this;cases this
  exact h.sep t a p hp
 refine KE.2 ⟨λu E q v k=>?_,h.dis⟩;obtain⟨b,f⟩:=(h.row u E).live q k;rw[j q v]at f;cases f
def ahk(fz:Bool)(z:Nat)(es:List AV)(x:AV)(a:List (Ref × aQ)):Prop:=(x = .v (.slice none 0 0)/\es=[]/\a=[]) \/∃r,x = .bN r 0 es.length none/\a=[(r,⟨z,es,true,fz⟩)]
def aji(z:Nat)(es:List AV):AV->AV
 | .bN _ _ _ _ => .cC z es none
 | x=>x
def ahk.sl{fz:Bool}{z:Nat}{es:List AV}{x:AV}{a:List (Ref × aQ)}(h:ahk fz z es x a):Sl z es (aji z es x):=by
 rcases h with ⟨rfl,rfl,rfl⟩ | ⟨r,rfl,rfl⟩
 ·exact .inl ⟨rfl,rfl⟩
 exact Sl.mk z es
def B2.ne{H:aa}{d:List (Ref × aQ)}{rows:List Fh}(h:B2 H d rows){r q:Ref}{b c:aQ}(i:(r,b)∈d)(j:(q,c)∈d)(a:b≠c):r≠q:=λe=>by
 have g:=h.has _ i;have f:=h.has _ j;simp only[e]at g f;rw[g]at f;exact a (Option.some.inj f)
end Go.Ab
namespace Go.Proofs.YtmkmimgokagimaaGreat
open Go.Ab
def fns:List FuncId:=[3,13,14,15,16,17,18,19,20,21,22,44,47,55,56,62,63,64,65,66,67,68,69,70,71,72,73,74,75,76,77,78,79,80,82,84,85,86,89,91,93,94,99,100,101,102,103,104,105,106,108,121,133,134,135,136,137,138,139,140,141,142,143,144,145,146,147,148,149,150,151,152,153,154,155,156,157,158,159,160,161,162,163,164,165,166,167,168,169,170,171,172,173,174,176,178,179,180,181,182,183,184,185,186,187,188,189,190,191,192,193,194,195,196,197,198,199,200,201,202,203,204,205,206,207,208,209,210,211,212,213,214,215,216,217,218,219,220,221,222,223,224,225,226,227,228,229,230,231,232,233,234,235,236,237,238,239,240,241,242,243,244,245,246,247,248,249,250,251]
def aX:List FuncId:=[15,19,84,108,160,161,162,173,204,205,206,209,225]
def lZ:List FuncId:=[64,65,69,71,72,75,77,100,145,146,147,148,149,150,151,153,172,193,218,219,220,230,232,233,234,241,242,250]
def S8:List (FuncId × List AV × AV):=[]
def env:Env:=QR (II Tryz.prog fns aX lZ (Mo [(42,41,99999),(43,41,99999),(61,26,99999),(62,26,99999),(29,26,99999),(30,26,99999),(19,13,18),(16,1,77777),(55,1,88888),(35,147,88889),(55,72,88889),(10,48,88889),(10,50,88889),(7,5,66666),(20,160,88889)]) (A1 [(15,12,0,[(20,23)]),(52,10,0,[(56,58)]),(25,34,4,[(44,43)]),(6,21,0,[(16,4),(20,4),(17,4)]),(58,23,0,[(71,61),(4,61),(5,61),(5,68)]),(7,6,0,[(3,5)]),(64,16,17,[(5,66),(66,7)]),(143,16,25,[(5,145),(145,7),(145,9)]),(54,12,0,[(57,60)]),(34,13,0,[(37,41)])]) (UG [(42,41,99999),(43,41,99999),(61,26,99999),(62,26,99999),(29,26,99999),(30,26,99999),(19,13,18),(16,1,77777),(55,1,88888),(35,147,88889),(55,72,88889),(10,48,88889),(10,50,88889),(7,5,66666),(20,160,88889)]) S8 (λ_=>false) (λ_=>none) (λ_ _ _=>none) NN) (λ_ _=>none) (QO [(42,41,99999),(43,41,99999),(61,26,99999),(62,26,99999),(29,26,99999),(30,26,99999),(19,13,18),(16,1,77777),(55,1,88888),(35,147,88889),(55,72,88889),(10,48,88889),(10,50,88889),(7,5,66666),(20,160,88889)])
@[simp] def ad(h:aa)(n:Nat)(v:AV)(k:AV->Prop):Prop:=jU (uh env.P (aa.get h) n (some v)) k
@[simp] def bw(b:Bool)(h:aa)(n n2:Nat)(a:List AV)(k:AV->aa->Prop):Prop:=lE (bB env b (ax env) (cb env 0) h (Ref.mk 0 n (aa.gen h 0 n) 0) (some (AV.fn (Fn.func n2) [] [])) a) k
@[simp] def ae(n:Nat)(v:AV)(n2:Nat)(k:AV->Prop):Prop:=jU (kr env.P n (some v) n2) k
@[simp] def bF(h:aa)(n n2:Nat)(v:AV)(k:AV->aa->Prop):Prop:=lE (mE h (Ref.mk 0 n (aa.gen h 0 n) 0) (F9 env.P (Ref.mk 0 n (aa.gen h 0 n) 0) n2 (some v))) k
@[simp] def ef(n n2:Nat)(i:Int)(v:AV)(k:AV->Prop):Prop:=jU (bP env.P .add n (Operand.tmp n2) (Operand.const (Value.int IntKind.i64 i)) (some v) (some (AV.v (Value.int IntKind.i64 i)))) k
@[simp] def bD(v a:AV)(k:AV->Prop):Prop:=jU (Ba (some v) (some a) (some (AV.v (Value.bool false)))) k
@[simp] def aq(h:aa)(n:Nat)(v:AV):=uh env.P (aa.get h) n (some v)
@[simp] def fm(b:Bool)(h:aa)(n n2:Nat)(a:List AV):=bB env b (ax env) (cb env 0) h (Ref.mk 0 n (aa.gen h 0 n) 0) (some (AV.fn (Fn.func n2) [] [])) a
@[simp] def eL(h:aa)(n n2:Nat)(v:AV)(k:AV->Prop):Prop:=jU (cP env.P false (aa.get h) (Ref.mk 0 n (aa.gen h 0 n) 0) .len #[n2] [v]) k
@[simp] def ao(n:Nat)(v:AV)(n2:Nat):=kr env.P n (some v) n2
@[simp] def bz(h:aa)(n:Nat)(v a:AV)(k:AV->Prop):Prop:=jU (da env.P (aa.get h) n (some v) (some a)) k
@[simp] def fM(h:aa)(n n2:Nat)(k:AV->aa->Prop):Prop:=lE (mE h (Ref.mk 0 n (aa.gen h 0 n) 0) (xJ env.P (Ref.mk 0 n (aa.gen h 0 n) 0) n2)) k
@[simp] def dc(n n2 a:Nat)(v b:AV)(k:AV->Prop):Prop:=jU (bP env.P .lss n (Operand.tmp n2) (Operand.tmp a) (some v) (some b)) k
@[simp] def aV(h:aa)(n:Nat)(v a:AV)(k:AV->aa->Prop):Prop:=lE (nx env.P h n (some v) (some a)) k
@[simp] def mG(n n2:Nat)(i:Int)(v:AV)(k:AV->Prop):Prop:=jU (bP env.P .neq n (Operand.tmp n2) (Operand.const (Value.int IntKind.i64 i)) (some v) (some (AV.v (Value.int IntKind.i64 i)))) k
@[simp] def m8(h:aa)(n n2 a:Nat)(v:AV)(k:AV->aa->Prop):Prop:=lE (mE h (Ref.mk (n+1) n2 (aa.gen h (n+1) n2) 0) (F9 env.P (Ref.mk (n+1) n2 (aa.gen h (n+1) n2) 0) a (some v))) k
@[simp] def eg(v a:AV)(k:AV->Prop):Prop:=jU (Ba (some v) (some (AV.v (Value.bool true))) (some a)) k
@[simp] def rO(n n2:Nat)(i:Int)(v:AV):=bP env.P .eql n (Operand.tmp n2) (Operand.const (Value.int IntKind.i64 i)) (some v) (some (AV.v (Value.int IntKind.i64 i)))
@[simp] def mv(h:aa)(n n2 a:Nat)(v b:AV)(k:AV->aa->Prop):Prop:=lE (ga env.P true h (Ref.mk 0 n (aa.gen h 0 n) 0) (some n2) (some a) v b) k
@[simp] def kb(n n2 a:Nat)(v b:AV):=bP env.P .eql n (Operand.tmp n2) (Operand.tmp a) (some v) (some b)
@[simp] def bn(v:AV)(n:Nat)(k:AV->Prop):Prop:=jU (ui (some v) n) k
@[simp] def wF(n n2:Nat)(i:Int)(v:AV)(k:AV->Prop):Prop:=jU (bP env.P .geq n (Operand.tmp n2) (Operand.const (Value.int IntKind.i64 i)) (some v) (some (AV.v (Value.int IntKind.i64 i)))) k
@[simp] def wE(h:aa)(n n2 a:Nat)(k:AV->aa->Prop):Prop:=lE (mE h (Ref.mk (n+1) n2 (aa.gen h (n+1) n2) 0) (xJ env.P (Ref.mk (n+1) n2 (aa.gen h (n+1) n2) 0) a)) k
@[simp] def wD(n n2:Nat)(i:Int)(v:AV):=bP env.P .geq n (Operand.tmp n2) (Operand.const (Value.int IntKind.i64 i)) (some v) (some (AV.v (Value.int IntKind.i64 i)))
@[simp] def Af(n n2:Nat)(i:Int)(v:AV)(k:AV->Prop):Prop:=jU (bP env.P .eql n (Operand.tmp n2) (Operand.const (Value.int IntKind.i64 i)) (some v) (some (AV.v (Value.int IntKind.i64 i)))) k
@[simp] def Ae(n n2:Nat)(i:Int)(v:AV):=bP env.P .leq n (Operand.tmp n2) (Operand.const (Value.int IntKind.i64 i)) (some v) (some (AV.v (Value.int IntKind.i64 i)))
@[simp] def Ad(n n2:Nat)(i:Int)(v:AV):=bP env.P .gtr n (Operand.tmp n2) (Operand.const (Value.int IntKind.i64 i)) (some v) (some (AV.v (Value.int IntKind.i64 i)))
@[simp] def qN(h:aa)(n n2 a:Nat)(v:AV)(k:AV->Prop):Prop:=jU (eE env.P (aa.get h) (Ref.mk 0 n (aa.gen h 0 n) 0) n2 a (some v)) k
@[simp] def rN(h:aa)(n n2 a b:Nat)(v:AV)(k:AV->aa->Prop):Prop:=lE (qb env.P false true h (Ref.mk 0 n (aa.gen h 0 n) 0) n2 a (some [(b,v)])) k
@[simp] def qM(n n2 a:Nat)(v b:AV)(k:AV->Prop):Prop:=jU (bP env.P .add n (Operand.tmp n2) (Operand.tmp a) (some v) (some b)) k
@[simp] def rM(n n2 a:Nat)(v b:AV)(k:AV->Prop):Prop:=jU (bP env.P .eql n (Operand.tmp n2) (Operand.tmp a) (some v) (some b)) k
@[simp] def CY(n n2:Nat)(i:Int)(v:AV)(k:AV->Prop):Prop:=jU (bP env.P .gtr n (Operand.tmp n2) (Operand.const (Value.int IntKind.i64 i)) (some v) (some (AV.v (Value.int IntKind.i64 i)))) k
@[simp] def CX(n n2:Nat)(i:Int)(v:AV):=bP env.P .lss n (Operand.tmp n2) (Operand.const (Value.int IntKind.i64 i)) (some v) (some (AV.v (Value.int IntKind.i64 i)))
@[simp] def xY(n n2:Nat)(v:AV)(k:AV->Prop):Prop:=jU (bP env.P .eql n (Operand.tmp n2) (.const (.int .u8 1)) (some v) (some (a8 1))) k
@[simp] def xX(n n2:Nat)(v:AV)(k:AV->Prop):Prop:=jU (bP env.P .eql n (Operand.tmp n2) (.const (.int .u8 2)) (some v) (some (a8 2))) k
@[simp] def xW(h:aa)(n n2:Nat)(v:AV):=cP env.P false (aa.get h) (Ref.mk 0 n (aa.gen h 0 n) 0) .len #[n2] [v]
@[simp] def aU(v:AV):=kC (some v)
@[simp] def Gu(n n2:Nat)(i:Int)(v:AV)(k:AV->Prop):Prop:=jU (bP env.P .lss n (Operand.tmp n2) (Operand.const (Value.int IntKind.i64 i)) (some v) (some (AV.v (Value.int IntKind.i64 i)))) k
@[simp] def Gt(n n2:Nat)(i:Int)(v:AV)(k:AV->Prop):Prop:=jU (bP env.P .sub n (Operand.tmp n2) (Operand.const (Value.int IntKind.i64 i)) (some v) (some (AV.v (Value.int IntKind.i64 i)))) k
@[simp] def kz(v:AV)(k:AV->Prop):Prop:=jU (Z9 env.P .not (some v)) k
@[simp] def Gs(n n2:Nat)(i:Int)(v:AV):=bP env.P .neq n (Operand.tmp n2) (Operand.const (Value.int IntKind.i64 i)) (some v) (some (AV.v (Value.int IntKind.i64 i)))
@[simp] def Ac(n n2 a:Nat)(v b:AV)(k:AV->Prop):Prop:=jU (bP env.P .neq n (Operand.tmp n2) (Operand.tmp a) (some v) (some b)) k
@[simp] def rL(h:aa)(n:Nat)(v a:AV):=da env.P (aa.get h) n (some v) (some a)
@[simp] def CW(n n2:Nat)(v:AV)(k:AV->Prop):Prop:=jU (bP env.P .eql n (Operand.tmp n2) (.const (.int .u8 3)) (some v) (some (a8 3))) k
@[simp] def Gr(h:aa)(n n2 a:Nat)(v:AV)(k:AV->Prop):Prop:=jU (cP env.P false (aa.get h) (Ref.mk (n+1) n2 (aa.gen h (n+1) n2) 0) .len #[a] [v]) k
@[simp] def jZ(h:aa)(v:AV)(n:Nat)(k:AV->Prop):Prop:=jU (A8 env.P h v n) k
@[simp] def jY(v:AV)(k:AV->Prop):Prop:=jU (MX (some v)) k
@[simp] def rK(n:Nat)(k:AV->Prop):Prop:=jU (nz env.P n (some [])) k
@[simp] def Gq(h:aa)(n:Nat)(v a:AV)(k:AV->Prop):Prop:=jU (iT env.P (aa.get h) n (some v) (some none) (oi a) (some none)) k
@[simp] def CV(h:aa)(n:Nat)(v a:AV)(k:AV->Prop):Prop:=jU (fe env.P (aa.get h) n (some v) (some a) false) k
@[simp] def LX(h:aa)(n:Nat)(v a:AV)(k:AV->aa->Prop):Prop:=lE (bB env true (ax env) (cb env 0) h (Ref.mk 0 n (aa.gen h 0 n) 0) (some v) [a]) k
@[simp] def QK(n:Nat)(h:aa)(n2:Nat)(v a:AV)(k:AV->aa->Prop):Prop:=lE (bB env true (ax env) (cb env (n+1)) h (Ref.mk (n+1) n2 (aa.gen h (n+1) n2) 0) (some v) [a]) k
@[simp] def Uf(h:aa)(n n2:Nat)(k:AV->aa->Prop):Prop:=lE (mE h (Ref.mk (n+1) n2 (aa.gen h (n+1) n2) 0) (some (.mp (Ref.mk (n+1) n2 (aa.gen h (n+1) n2) 0),[ba []]))) k
@[simp] def Ue(n:Nat)(h:aa)(n2:Nat)(v a:AV)(k:AV->aa->Prop):Prop:=lE (bB env true (ax env) (cb env (n+1)) h (Ref.mk (n+1) n2 (aa.gen h (n+1) n2) 0) (some (.fn (.func 100) [] [])) [v,a]) k
@[simp] def LW(h:aa)(n n2 a:Nat)(v b:AV)(k:AV->Prop):Prop:=jU (cP env.P true (aa.get h) (Ref.mk 0 n (aa.gen h 0 n) 0) .max #[n2,a] [v,b]) k
@[simp] def Gp(n n2 a:Nat)(v b:AV):=bP env.P .lss n (Operand.tmp n2) (Operand.tmp a) (some v) (some b)
@[simp] def Ud(n n2:Nat)(i:Int)(v:AV)(k:AV->Prop):Prop:=jU (bP env.P .leq n (Operand.tmp n2) (Operand.const (Value.int IntKind.i64 i)) (some v) (some (AV.v (Value.int IntKind.i64 i)))) k
@[simp] def Uc(n:Nat)(i:Int)(n2:Nat)(v:AV)(k:AV->Prop):Prop:=jU (bP env.P .mul n (Operand.const (Value.int IntKind.i64 i)) (Operand.tmp n2) (some (AV.v (Value.int IntKind.i64 i))) (some v)) k
@[simp] def Ub(n n2:Nat)(i:Int)(v:AV):=bP env.P .sub n (Operand.tmp n2) (Operand.const (Value.int IntKind.i64 i)) (some v) (some (AV.v (Value.int IntKind.i64 i)))
@[simp] def sY(v:AV):=Z9 env.P .not (some v)
@[simp] def LV(n n2 a:Nat)(v b:AV)(k:AV->Prop):Prop:=jU (bP env.P .sub n (Operand.tmp n2) (Operand.tmp a) (some v) (some b)) k
@[simp] def QJ(h:aa)(n n2:Nat)(v:AV)(k:AV->Prop):Prop:=jU (cP env.P false (aa.get h) (Ref.mk 0 n (aa.gen h 0 n) 0) .cap #[n2] [v]) k
@[simp] def JK(v a:AV):=Ba (some v) (some a) (some (AV.v (Value.bool false)))
@[simp] def Ua(n n2:Nat)(v:AV)(k:AV->Prop):Prop:=jU (bP env.P .eql n (Operand.tmp n2) (.const (.slice none 0 0)) (some v) (some (.v (.slice none 0 0)))) k
@[simp] def QI(n n2:Nat)(v:AV):=bP env.P .eql n (Operand.tmp n2) (.const (.int .u8 1)) (some v) (some (a8 1))
@[simp] def T9(n n2:Nat)(v:AV)(k:AV->Prop):Prop:=jU (bP env.P .shr n (Operand.tmp n2) (.const (.int .u64 8)) (some v) (some (.v (.int .u64 8)))) k
@[simp] def ZT(n:Nat)(h:aa)(n2:Nat)(v a:AV)(k:AV->aa->Prop):Prop:=lE (bB env false (ax env) (cb env (n+1)) h (Ref.mk (n+1) n2 (aa.gen h (n+1) n2) 0) (some (.fn (.func 152) [] [])) [v,a]) k
@[simp] def ZS(n:Nat)(h:aa)(n2:Nat)(v a:AV)(k:AV->aa->Prop):Prop:=lE (bB env false (ax env) (cb env (n+1)) h (Ref.mk (n+1) n2 (aa.gen h (n+1) n2) 0) (some (.fn (.func 44) [] [])) [v,a]) k
@[simp] def ZR(n:Nat)(h:aa)(n2:Nat)(v a:AV)(k:AV->aa->Prop):Prop:=lE (bB env true (ax env) (cb env (n+1)) h (Ref.mk (n+1) n2 (aa.gen h (n+1) n2) 0) (some (.fn (.func 146) [] [])) [v,a]) k
@[simp] def ZQ(n n2:Nat)(i:Int)(v:AV)(k:AV->Prop):Prop:=jU (bP env.P .mul n (Operand.tmp n2) (Operand.const (Value.int IntKind.i64 i)) (some v) (some (AV.v (Value.int IntKind.i64 i)))) k
@[simp] def ZP(n:Nat)(h:aa)(n2:Nat)(v a:AV)(k:AV->aa->Prop):Prop:=lE (bB env true (ax env) (cb env (n+1)) h (Ref.mk (n+1) n2 (aa.gen h (n+1) n2) 0) (some (.fn (.func 234) [] [])) [v,a]) k
@[simp] def ZO(n:Nat)(h:aa)(n2:Nat)(v:AV)(k:AV->aa->Prop):Prop:=lE (bB env true (ax env) (cb env (n+1)) h (Ref.mk (n+1) n2 (aa.gen h (n+1) n2) 0) (some (.fn (.func 213) [] [])) [v]) k
@[simp] def ZN(n:Nat)(h:aa)(n2:Nat)(v a:AV):=bB env true (ax env) (cb env (n+1)) h (Ref.mk (n+1) n2 (aa.gen h (n+1) n2) 0) (some (.fn (.func 47) [] [])) [v,a]
@[simp] def LU(v a:AV):=Ba (some v) (some (AV.v (Value.bool true))) (some a)
@[simp] def ZM(n n2:Nat)(i:Int)(v:AV):=bP env.P .add n (Operand.tmp n2) (Operand.const (Value.int IntKind.i64 i)) (some v) (some (AV.v (Value.int IntKind.i64 i)))
@[simp] def T8(h:aa)(n n2 a b c:Nat)(v:AV)(k:AV->aa->Prop):Prop:=lE (qu env.P h (Ref.mk (n+1) n2 (aa.gen h (n+1) n2) 0) a b (some [(c,v)])) k
@[simp] def T7(h:aa)(n n2 a c:Nat)(v b:AV)(k:AV->aa->Prop):Prop:=lE (yf env.P h (Ref.mk (n+1) n2 (aa.gen h (n+1) n2) 0) (some a) (some c) v b) k
@[simp] def Fj(n n2:Nat)(v:AV)(k:AV->Prop):Prop:=jU (nz env.P n (some [(n2,v)])) k
@[simp] def QH(n n2 a:Nat)(v b:AV):=bP env.P .add n (Operand.tmp n2) (Operand.tmp a) (some v) (some b)
@[simp] def QG(n n2 a:Nat)(v b:AV):=bP env.P .geq n (Operand.tmp n2) (Operand.tmp a) (some v) (some b)
@[simp] def QF(n n2 a:Nat)(v b:AV):=bP env.P .neq n (Operand.tmp n2) (Operand.tmp a) (some v) (some b)
@[simp] def JJ(h:aa)(v a b:AV)(k:AV->aa->Prop):Prop:=lE (fQ h (some v) (some a) (some b)) k
@[simp] def T6(h:aa)(n n2 a b:Nat)(v:AV)(k:AV->aa->Prop):Prop:=lE (qb env.P true false h (Ref.mk 0 n (aa.gen h 0 n) 0) n2 a (some [(b,v)])) k
@[simp] def T5(h:aa)(n n2 a:Nat)(k:AV->aa->Prop):Prop:=lE (qb env.P false true h (Ref.mk 0 n (aa.gen h 0 n) 0) n2 a (some [])) k
@[simp] def JI(h:aa)(n:Nat)(v a:AV)(k:AV->aa->Prop):Prop:=lE (jl env.P h n (some v) (some a)) k
@[simp] def ZL(n n2:Nat)(v:AV)(k:AV->Prop):Prop:=jU (bP env.P .neq n (Operand.tmp n2) (.const (.int .i32 (-1))) (some v) (some (.v (.int .i32 (-1))))) k
@[simp] def ZK(n n2:Nat)(v:AV)(k:AV->Prop):Prop:=jU (bP env.P .shr n (Operand.tmp n2) (.const (.int .u64 16)) (some v) (some (.v (.int .u64 16)))) k
@[simp] def LS(n n2:Nat)(v:AV)(a:Nat)(b:AV)(c:Nat)(d:AV)(k:AV->Prop):Prop:=jU (nz env.P n (some [(n2,v),(a,b),(c,d)])) k
@[simp] def ZJ(h:aa)(n n2 a:Nat)(v:AV):=cP env.P false (aa.get h) (Ref.mk (n+1) n2 (aa.gen h (n+1) n2) 0) .len #[a] [v]
@[simp] def T4(n n2 a:Nat)(v b:AV):=bP env.P .gtr n (Operand.tmp n2) (Operand.tmp a) (some v) (some b)
@[simp] def CU(n:Nat)(v:AV)(n2:Nat):=vL env.P n (some v) n2
@[simp] def QE(n:Nat):=nz env.P n (some [])
def agb:Nat->Option (List Nat):=λ_=>none
def TB:Nat->Bool:=λ_=>false
abbrev ed:=Nat->AV
abbrev bdF(f:Func):Code:=f.body.getD .skip
abbrev sV(f:Func)(n:Nat):List Item:=(p8 n 400 [.code (bdF f)]).getD []
abbrev dP(f:Func)(d:Nat)(l:List (Nat × AV))(H:aa)(Q:AV->aa->Prop):Prop:=bu env f d [.code (bdF f)] l H Q
def iP{P:(Nat->AV)->Prop}{f:Func}{d:Nat}{l:List (Nat × AV)}{H:aa}{Q:AV->aa->Prop}(e:P=λg=>wp env f none d agb TB Q 500 [.code (bdF f)] (PW g l) H)(h : ∀g,P g):dP f d l H Q:=⟨λg=>LZ (live:=agb) (cut:=TB) (n:=500) (Eq.mp (iQp e g) (h g))⟩
def vf(v:Nat->Option (List Nat)){P:(Nat->AV)->Prop}{f:Func}{d:Nat}{l:List (Nat × AV)}{H:aa}{Q:AV->aa->Prop}(e:P=λg=>wp env f none d v TB Q 500 [.code (bdF f)] (PW g l) H)(h : ∀g,P g):dP f d l H Q:=⟨λg=>LZ (live:=v) (cut:=TB) (n:=500) (Eq.mp (iQp e g) (h g))⟩
def sU(v:Nat->Option (List Nat)){P:(Nat->AV)->Prop}{f:Func}{d:Nat}{b:List Item}{l:List (Nat × AV)}{H:aa}{Q:AV->aa->Prop}(e:P=λg=>wp env f none d v TB Q 500 (Qv b) (PW g l) H)(h : ∀g,P g):bu env f d b l H Q:=WE λg=>LZ (live:=v) (cut:=TB) (n:=500) (Eq.mp (iQp e g) (h g))
def ay{f:FuncId}{fn:Func}{args:List AV}{y:AV}(i:env.spec f args=none)(e:(env.allowed f,env.P.funcs[f]?,fn.body.isSome,Nat.ble args.length fn.ntmps)=(true,some fn,true,true))(h:dP fn 0 (uC 0 args) [] λx H=>handed env f x H y):ax env f args=some y:=by
 injection e with d e
 injection e with g e
 injection e with b j
 cases a:fn.body with| none=>rw[a]at b;cases b| some c=>unfold dP bdF at h;rw[a]at h;exact YT i d g a j h
def aco:WJ { II Tryz.prog fns aX lZ (Mo [(42,41,99999),(43,41,99999),(61,26,99999),(62,26,99999),(29,26,99999),(30,26,99999),(19,13,18),(16,1,77777),(55,1,88888),(35,147,88889),(55,72,88889),(10,48,88889),(10,50,88889),(7,5,66666),(20,160,88889)]) (A1 [(15,12,0,[(20,23)]),(52,10,0,[(56,58)]),(25,34,4,[(44,43)]),(6,21,0,[(16,4),(20,4),(17,4)]),(58,23,0,[(71,61),(4,61),(5,61),(5,68)]),(7,6,0,[(3,5)]),(64,16,17,[(5,66),(66,7)]),(143,16,25,[(5,145),(145,7),(145,9)]),(54,12,0,[(57,60)]),(34,13,0,[(37,41)])]) (UG [(42,41,99999),(43,41,99999),(61,26,99999),(62,26,99999),(29,26,99999),(30,26,99999),(19,13,18),(16,1,77777),(55,1,88888),(35,147,88889),(55,72,88889),(10,48,88889),(10,50,88889),(7,5,66666),(20,160,88889)])with deep:=QO [(42,41,99999),(43,41,99999),(61,26,99999),(62,26,99999),(29,26,99999),(30,26,99999),(19,13,18),(16,1,77777),(55,1,88888),(35,147,88889),(55,72,88889),(10,48,88889),(10,50,88889),(7,5,66666),(20,160,88889)]} fns=true:=by kernel_rfl
@[simp] def ajp{f:FuncId}(h:lZ.contains f=false):(env.mode f == 2)=false:=by
 show((if aX.contains f then (if lZ.contains f then 3 else 1) else if lZ.contains f then 2 else 0) == 2)=false;rw[h];split<;>rfl
@[simp] def aij{f:FuncId}(h:lZ.contains f=false):(env.mode f == 3)=false:=by
 show((if aX.contains f then (if lZ.contains f then 3 else 1) else if lZ.contains f then 2 else 0) == 3)=false;rw[h];split<;>rfl
def aga{f:FuncId}(h:aX.contains f=false):Bi (env.mode f)=false:=by
 show Bi (if aX.contains f then (if lZ.contains f then 3 else 1) else if lZ.contains f then 2 else 0)=false;rw[h];cases lZ.contains f<;>rfl
@[simp] def Za{f:FuncId}(h:aX.contains f=false)(x:AV)(H:aa)(y:AV):handed env f x H y↔view H.get depth x=some y:=Tm (aga h) x H y
def af9{f:FuncId}(h:aX.contains f=true):Bi (env.mode f)=true:=by
 show Bi (if aX.contains f then (if lZ.contains f then 3 else 1) else if lZ.contains f then 2 else 0)=true;rw[h];cases lZ.contains f<;>rfl
@[simp] def Ly{f:FuncId}(h:aX.contains f=true)(x:AV)(H:aa)(y:AV):handed env f x H y↔(ah H.get depth x).Nodup/\bK H.get depth x=some y:=NL (af9 h) x H y
@[simp] def ahx:aA env.P 3=(some 1)/\dL env.P 3=(some false)/\q7 env.P 3=(some 1)/\isInt env.P 3=true/\intKind env.P 3=(some .i64)/\(env.P.underlying 3).isNone=false/\aA env.P 4=(some 1)/\dL env.P 4=(some false)/\q7 env.P 4=(some 0)/\isBool env.P 4=true/\aA env.P 5=(some 1)/\dL env.P 5=(some false)/\q7 env.P 5=(some 1)/\intKind env.P 5=(some .u8)/\(env.P.underlying 5).isNone=false:=by repeat' first|kernel_rfl|constructor
@[simp] def Uy:aA env.P 21=(some 1):=by kernel_rfl
@[simp] def X5:dL env.P 21=(some false):=by kernel_rfl
@[simp] def ab9:intKind env.P 21=(some .i32)/\(env.P.underlying 21).isNone=false/\aA env.P 22=(some 1)/\dL env.P 22=(some false):=by repeat' first|kernel_rfl|constructor
@[simp] def UC:dR env.P 22=(some 58):=by kernel_rfl
@[simp] def ahL:lQ env.P 22=none/\isStr env.P 22=false/\Ed env.P 22=true/\p9 env.P 22=true/\oA env.P 22=3/\vW env.P 22=12/\kN env.P 22=(.agg [(a8 0),(af 0),(.v (.bool false))])/\aA env.P 23=(some 1)/\dL env.P 23=(some false):=by repeat' first|kernel_rfl|constructor
@[simp] def UB:dR env.P 23=(some 81):=by kernel_rfl
@[simp] def ahK:lQ env.P 23=none/\isStr env.P 23=false/\Ed env.P 23=true/\p9 env.P 23=true/\oA env.P 23=5/\vW env.P 23=32/\kN env.P 23=(.agg [(a8 0),(af 0),(.v (.int .i64 0)),(.v (.int .i64 0)),(.v (.int .i64 0))])/\aA env.P 25=(some 3)/\dL env.P 25=(some true)/\lQ env.P 25=none/\eX env.P 25=(some (.agg [(.v (.slice none 0 0)),(.v (.slice none 0 0)),(.v (.int .i64 0))])):=by repeat' first|kernel_rfl|constructor
@[simp] def N4:jS env.P 25=(some [22,23,3]):=by kernel_rfl
@[simp] def adY:placesOf env.P 25=(some [(0,1),(1,1),(2,1)])/\ar env.P 25 0=(some (0,1))/\ar env.P 25 1=(some (1,1))/\ar env.P 25 2=(some (2,1))/\aA env.P 26=(some 1)/\dL env.P 26=(some false):=by repeat' first|kernel_rfl|constructor
@[simp] def UA:dR env.P 26=(some 62):=by kernel_rfl
@[simp] def ahI:lQ env.P 26=none/\isStr env.P 26=false/\Ed env.P 26=true/\p9 env.P 26=true/\oA env.P 26=24/\vW env.P 26=160/\kN env.P 26=(.agg [(a8 0),(.v (.int .i64 0)),(a8 0),(a8 0),(af 0),(a8 0),(.v (.int .i64 0)),(a8 0),(af 0),(a8 0),(.v (.int .i64 0)),(.v (.int .i64 0)),(a8 0),(af 0),(a8 0),(.v (.int .i64 0)),(a8 0),(af 0),(.v (.slice none 0 0)),(.v (.int .i64 0)),(.v (.int .i64 0)),(a8 0),(af 0),(.v (.bool false))])/\aA env.P 27=(some 1)/\dL env.P 27=(some false)/\q7 env.P 27=(some 1)/\intKind env.P 27=(some .u32)/\(env.P.underlying 27).isNone=false/\aA env.P 29=(some 2)/\dL env.P 29=(some true)/\lQ env.P 29=none/\eX env.P 29=(some (.agg [(a8 0),(af 0)]))/\q7 env.P 29=none/\IG env.P 29=true:=by repeat' first|kernel_rfl|constructor
@[simp] def N3:jS env.P 29=(some [5,27]):=by kernel_rfl
@[simp] def adX:placesOf env.P 29=(some [(0,1),(1,1)])/\ar env.P 29 0=(some (0,1))/\ar env.P 29 1=(some (1,1))/\aA env.P 31=(some 3)/\dL env.P 31=(some true)/\lQ env.P 31=none/\eX env.P 31=(some (.agg [(a8 0),(af 0),(a8 0)]))/\q7 env.P 31=none/\IG env.P 31=true:=by repeat' first|kernel_rfl|constructor
@[simp] def N0:jS env.P 31=(some [29,5]):=by kernel_rfl
@[simp] def adW:placesOf env.P 31=(some [(0,2),(2,1)])/\ar env.P 31 0=(some (0,2))/\ar env.P 31 1=(some (2,1))/\aA env.P 33=(some 4)/\dL env.P 33=(some true)/\lQ env.P 33=none/\eX env.P 33=(some (.agg [(a8 0),(af 0),(a8 0),(.v (.int .i64 0))]))/\q7 env.P 33=none/\IG env.P 33=true:=by repeat' first|kernel_rfl|constructor
@[simp] def NZ:jS env.P 33=(some [31,3]):=by kernel_rfl
@[simp] def adV:placesOf env.P 33=(some [(0,3),(3,1)])/\ar env.P 33 0=(some (0,3))/\ar env.P 33 1=(some (3,1))/\aA env.P 35=(some 5)/\dL env.P 35=(some true)/\q7 env.P 35=none/\IG env.P 35=true:=by repeat' first|kernel_rfl|constructor
@[simp] def NY:jS env.P 35=(some [33,3]):=by kernel_rfl
@[simp] def aaJ:ar env.P 35 0=(some (0,4))/\ar env.P 35 1=(some (4,1))/\aA env.P 36=(some 1)/\dL env.P 36=(some false):=by repeat' first|kernel_rfl|constructor
@[simp] def Uz:dR env.P 36=(some 21):=by kernel_rfl
@[simp] def ahE:lQ env.P 36=none/\isStr env.P 36=false/\Ed env.P 36=true/\p9 env.P 36=true/\oA env.P 36=1/\vW env.P 36=4/\kN env.P 36=(.v (.int .i32 0))/\aA env.P 38=(some 17)/\dL env.P 38=(some true)/\lQ env.P 38=none/\eX env.P 38=(some (.agg [(a8 0),(a8 0),(af 0),(a8 0),(.v (.int .i64 0)),(a8 0),(af 0),(a8 0),(.v (.int .i64 0)),(.v (.int .i64 0)),(a8 0),(af 0),(a8 0),(.v (.int .i64 0)),(a8 0),(af 0),(.v (.slice none 0 0))])):=by repeat' first|kernel_rfl|constructor
@[simp] def NX:jS env.P 38=(some [5,31,3,35,33,29,36]):=by kernel_rfl
@[simp] def adU:placesOf env.P 38=(some [(0,1),(1,3),(4,1),(5,5),(10,4),(14,2),(16,1)])/\ar env.P 38 0=(some (0,1))/\ar env.P 38 1=(some (1,3))/\ar env.P 38 2=(some (4,1))/\ar env.P 38 3=(some (5,5))/\ar env.P 38 4=(some (10,4))/\ar env.P 38 5=(some (14,2))/\ar env.P 38 6=(some (16,1))/\aA env.P 41=(some 1)/\dL env.P 41=(some false)/\dR env.P 41=(some 38)/\lQ env.P 41=none/\isStr env.P 41=false/\Ed env.P 41=true/\p9 env.P 41=true/\oA env.P 41=17/\vW env.P 41=112/\kN env.P 41=(.agg [(a8 0),(a8 0),(af 0),(a8 0),(.v (.int .i64 0)),(a8 0),(af 0),(a8 0),(.v (.int .i64 0)),(.v (.int .i64 0)),(a8 0),(af 0),(a8 0),(.v (.int .i64 0)),(a8 0),(af 0),(.v (.slice none 0 0))])/\aA env.P 42=(some 1)/\dL env.P 42=(some false)/\intKind env.P 42=(some .i64)/\(env.P.underlying 42).isNone=false:=by repeat' first|kernel_rfl|constructor
@[simp] def Ux:aA env.P 58=(some 3):=by kernel_rfl
@[simp] def X4:dL env.P 58=(some true):=by kernel_rfl
@[simp] def aeQ:eX env.P 58=(some (.agg [(a8 0),(af 0),(.v (.bool false))]))/\q7 env.P 58=none:=by repeat' first|kernel_rfl|constructor
@[simp] def FO:jS env.P 58=(some [29,4]):=by kernel_rfl
@[simp] def aaH:ar env.P 58 0=(some (0,2))/\ar env.P 58 1=(some (2,1))/\aA env.P 60=(some 4)/\dL env.P 60=(some true)/\lQ env.P 60=none/\eX env.P 60=(some (.agg [(.v (.int .i64 0)),(a8 0),(af 0),(.v (.bool false))]))/\q7 env.P 60=none/\IG env.P 60=true:=by repeat' first|kernel_rfl|constructor
@[simp] def NW:jS env.P 60=(some [3,58]):=by kernel_rfl
@[simp] def adT:placesOf env.P 60=(some [(0,1),(1,3)])/\ar env.P 60 0=(some (0,1))/\ar env.P 60 1=(some (1,3)):=by repeat' first|kernel_rfl|constructor
@[simp] def Uw:aA env.P 62=(some 24):=by kernel_rfl
@[simp] def X0:dL env.P 62=(some true):=by kernel_rfl
@[simp] def ahA:lQ env.P 62=none/\eX env.P 62=(some (.agg [(a8 0),(.v (.int .i64 0)),(a8 0),(a8 0),(af 0),(a8 0),(.v (.int .i64 0)),(a8 0),(af 0),(a8 0),(.v (.int .i64 0)),(.v (.int .i64 0)),(a8 0),(af 0),(a8 0),(.v (.int .i64 0)),(a8 0),(af 0),(.v (.slice none 0 0)),(.v (.int .i64 0)),(.v (.int .i64 0)),(a8 0),(af 0),(.v (.bool false))])):=by repeat' first|kernel_rfl|constructor
@[simp] def NV:jS env.P 62=(some [5,3,38,42,60]):=by kernel_rfl
@[simp] def adS:placesOf env.P 62=(some [(0,1),(1,1),(2,17),(19,1),(20,4)])/\ar env.P 62 0=(some (0,1))/\ar env.P 62 1=(some (1,1))/\ar env.P 62 2=(some (2,17))/\ar env.P 62 3=(some (19,1))/\ar env.P 62 4=(some (20,4))/\aA env.P 73=(some 3)/\dL env.P 73=(some true)/\lQ env.P 73=none/\eX env.P 73=(some (.agg [(.v (.bool false)),(.v (.int .i64 0)),(.v (.int .i64 0))]))/\placesOf env.P 73=(some [(0,1),(1,1),(2,1)])/\oL env.P 73 0=(some (0,4))/\ar env.P 73 0=(some (0,1))/\ar env.P 73 1=(some (1,1))/\ar env.P 73 2=(some (2,1)):=by repeat' first|kernel_rfl|constructor
@[simp] def Uv:aA env.P 81=(some 5):=by kernel_rfl
@[simp] def XZ:dL env.P 81=(some true):=by kernel_rfl
@[simp] def ahy:lQ env.P 81=none/\eX env.P 81=(some (.agg [(a8 0),(af 0),(.v (.int .i64 0)),(.v (.int .i64 0)),(.v (.int .i64 0))])):=by repeat' first|kernel_rfl|constructor
@[simp] def NU:jS env.P 81=(some [29,3,3,3]):=by kernel_rfl
@[simp] def adQ:placesOf env.P 81=(some [(0,2),(2,1),(3,1),(4,1)])/\ar env.P 81 0=(some (0,2))/\oL env.P 81 1=(some (2,3))/\ar env.P 81 1=(some (2,1))/\oL env.P 81 2=(some (3,3))/\ar env.P 81 2=(some (3,1))/\oL env.P 81 3=(some (4,3))/\ar env.P 81 3=(some (4,1))/\aA env.P 126=(some 1)/\dL env.P 126=(some false)/\aA env.P 127=(some 1)/\dL env.P 127=(some false)/\aA env.P 129=(some 10)/\lQ env.P 129=none/\eX env.P 129=(some (.agg [(.v (.slice none 0 0)),(.v (.slice none 0 0)),(.v (.int .i64 0)),(.v (.slice none 0 0)),(.v (.slice none 0 0)),(.v (.int .i64 0)),(.v (.slice none 0 0)),(.v (.map none)),(.v (.map none)),(.v (.slice none 0 0))]))/\placesOf env.P 129=(some [(0,3),(3,3),(6,1),(7,1),(8,1),(9,1)])/\ar env.P 129 0=(some (0,3))/\ar env.P 129 1=(some (3,3))/\ar env.P 129 2=(some (6,1))/\ar env.P 129 3=(some (7,1))/\ar env.P 129 4=(some (8,1))/\ar env.P 129 5=(some (9,1))/\aA env.P 137=(some 1)/\dL env.P 137=(some false):=by repeat' first|kernel_rfl|constructor
@[simp] def adn:aA env.P 147=(some 1)/\dL env.P 147=(some false)/\aA env.P 148=(some 1)/\dL env.P 148=(some false)/\oL env.P 150 0=(some (0,147))/\oL env.P 150 1=(some (1,148))/\aA env.P 170=(some 1)/\dL env.P 170=(some false)/\dR env.P 170=(some 5)/\lQ env.P 170=none/\isStr env.P 170=false/\Ed env.P 170=true/\p9 env.P 170=true/\oA env.P 170=1/\vW env.P 170=1/\kN env.P 170=(a8 0)/\aA env.P 173=(some 24)/\lQ env.P 173=none/\eX env.P 173=(some (.agg [(a8 0),(.v (.int .i64 0)),(a8 0),(a8 0),(af 0),(a8 0),(.v (.int .i64 0)),(a8 0),(af 0),(a8 0),(.v (.int .i64 0)),(.v (.int .i64 0)),(a8 0),(af 0),(a8 0),(.v (.int .i64 0)),(a8 0),(af 0),(.v (.slice none 0 0)),(.v (.int .i64 0)),(.v (.int .i64 0)),(a8 0),(af 0),(.v (.bool false))]))/\placesOf env.P 173=(some [(0,24)])/\ar env.P 173 0=(some (0,24))/\aA env.P 180=(some 1)/\dL env.P 180=(some false)/\aA env.P 203=(some 2):=by repeat' first|kernel_rfl|constructor
@[simp] def aft:dL env.P 203=(some true)/\oL env.P 203 0=(some (0,137))/\lQ env.P 204=(some (4,203))/\intKind env.P 223=(some .u64)/\aA env.P 230=(some 1)/\dL env.P 230=(some false)/\dR env.P 242=(some 275)/\lQ env.P 242=none/\isStr env.P 242=false/\Ed env.P 242=true/\RB env.P 242 9 56=true/\p9 env.P 242=true/\oA env.P 242=9/\vW env.P 242=56/\kN env.P 242=(.agg [(a8 0),(af 0),(a8 0),(.v (.int .i64 0)),(a8 0),(af 0),(a8 0),(.v (.int .i64 0)),(.v (.int .i32 0))])/\dR env.P 244=(some 33)/\lQ env.P 244=none/\isStr env.P 244=false/\Ed env.P 244=true/\p9 env.P 244=true/\oA env.P 244=4/\vW env.P 244=24/\kN env.P 244=(.agg [(a8 0),(af 0),(a8 0),(.v (.int .i64 0))])/\aA env.P 249=(some 10):=by repeat' first|kernel_rfl|constructor
@[simp] def afr:dL env.P 249=(some true)/\lQ env.P 249=none/\eX env.P 249=(some (.agg [(a8 0),(af 0),(a8 0),(.v (.int .i64 0)),(.v (.int .i64 0)),(a8 0),(af 0),(a8 0),(.v (.int .i64 0)),(.v (.slice none 0 0))]))/\placesOf env.P 249=(some [(0,5),(5,4),(9,1)])/\ar env.P 249 0=(some (0,5))/\ar env.P 249 1=(some (5,4))/\ar env.P 249 2=(some (9,1))/\dR env.P 262=(some 4)/\lQ env.P 262=none/\isStr env.P 262=false/\p9 env.P 262=true/\oA env.P 262=1/\kN env.P 262=(.v (.bool false))/\aA env.P 264=(some 1)/\dL env.P 264=(some false)/\aA env.P 266=(some 2)/\lQ env.P 266=none/\eX env.P 266=(some (.agg [(.v (.slice none 0 0)),(.v (.map none))]))/\placesOf env.P 266=(some [(0,1),(1,1)])/\ar env.P 266 0=(some (0,1))/\ar env.P 266 1=(some (1,1))/\dR env.P 273=(some 249)/\lQ env.P 273=none/\isStr env.P 273=false:=by repeat' first|kernel_rfl|constructor
@[simp] def agU:p9 env.P 273=true/\oA env.P 273=10/\kN env.P 273=(.agg [(a8 0),(af 0),(a8 0),(.v (.int .i64 0)),(.v (.int .i64 0)),(a8 0),(af 0),(a8 0),(.v (.int .i64 0)),(.v (.slice none 0 0))])/\aA env.P 275=(some 9)/\lQ env.P 275=none/\eX env.P 275=(some (.agg [(a8 0),(af 0),(a8 0),(.v (.int .i64 0)),(a8 0),(af 0),(a8 0),(.v (.int .i64 0)),(.v (.int .i32 0))]))/\placesOf env.P 275=(some [(0,4),(4,4),(8,1)])/\ar env.P 275 0=(some (0,4))/\aA env.P 277=(some 1)/\dL env.P 277=(some false)/\dR env.P 277=(some 29)/\lQ env.P 277=none/\isStr env.P 277=false/\eX env.P 277=(some (.v (.slice none 0 0)))/\Ed env.P 277=true/\p9 env.P 277=true/\oA env.P 277=2/\vW env.P 277=8/\kN env.P 277=(.agg [(a8 0),(af 0)])/\dR env.P 279=(some 170)/\lQ env.P 279=none/\isStr env.P 279=false/\p9 env.P 279=true/\oA env.P 279=1:=by repeat' first|kernel_rfl|constructor
@[simp] def acx:kN env.P 279=(.v (.slice none 0 0)):=by kernel_rfl
end Go.Proofs.YtmkmimgokagimaaGreat
namespace Go.Ab
def qp.ajl{z:Nat}{H:aa}{r:Ref}{es':List AV}{rs:List Ref}(h:qp z H r es' rs){i j:Nat}{ys:List AV}(Y:es'[i]?=some (.agg ys)){d:Nat}{l:List AV}{c:Option Nat}(W:ys[j]?=some (.fsl d l c)) :
 ∃es xs q,H.get r=some ⟨z,es,false,false⟩/\es.length=es'.length/\es[i]?=some (.agg xs)/\xs[j]?=some (.bN q 0 l.length c)/\H.get q=some ⟨d,l,true,false⟩/\q∈rs/\q≠r /\
  ∀g:List AV,g.length=l.length->qp z (H.put q (some ⟨d,g,true,false⟩)) r (es'.set i (.agg (ys.set j (.fsl d g c)))) rs:=by
 obtain⟨es,U,V,E,R⟩:=h;have K:=yC Y;have hil:i<es'.length:=(ew.1 Y).1;have k:(es'.take i).length=i:=by rw[nZ];omega
 generalize es'.take i=A' at *;generalize es'.drop (i+1)=B' at *;subst K;obtain⟨A,C,rfl,T,P⟩:=F2.split V;match C,P with
 | x :: B,P=>
 obtain⟨⟨xs,ys',rfl,e,hX⟩,hB⟩:=P;cases e;have M:A.length=i:=by rw[T.len,k]
 have L:=yC W;have Z:j<ys.length:=(ew.1 W).1;have F:(ys.take j).length=j:=by rw[nZ];omega
 generalize ys.take j=Y1 at *;generalize ys.drop (j+1)=Y2 at *;subst L;obtain⟨v,X3,rfl,J,o⟩:=F2.split hX;match X3,o with
 | x0 :: I,o=>
 have w:v.length=j:=by rw[J.len,F]
 obtain⟨O,N⟩:=o;rcases O with ⟨_,hp⟩ | ⟨q,z1',l',c',rfl,e,hq,hz⟩
 ·cases hp
 cases e;have X:(A ++ .agg (v ++ .bN q 0 l.length c :: I) :: B).flatMap dB=A.flatMap dB++(v.flatMap jg++(q :: (I.flatMap jg++B.flatMap dB))):=by simp[dB,AP,na,jg]
 rw[X]at E;rw[E]at R;have t:(r :: (A.flatMap dB++(v.flatMap jg++(q :: (I.flatMap jg++B.flatMap dB))))).Perm (q :: (r :: (A.flatMap dB++(v.flatMap jg++(I.flatMap jg++B.flatMap dB))))):=by
  have:=List.perm_middle (a:=q) (l₁:=r :: (A.flatMap dB++v.flatMap jg)) (l₂:=I.flatMap jg++B.flatMap dB);simpa [AM] using this
 have m:=(yd.1 (t.nodup_iff.1 R)).1;simp only[eD,iN,not_or]at m;obtain⟨S,n1,n2,n3,n4⟩:=m;refine⟨_,_,q,U,V.len,by rw[jP (by omega),M,wH];rfl,by rw[jP (by omega),w,wH];rfl,hq,by rw[E];simp,S,λg Q=>?_⟩;have D : ∀p b,p≠q->H.get p=some b->(H.put q (some ⟨d,g,true,false⟩)).get p=some b:=λp b hp f=>by rw[aa.get_put,if_neg hp];exact f
 have G:(A' ++ .agg (Y1 ++ .fsl d l c :: Y2) :: B').set i (.agg ((Y1 ++ .fsl d l c :: Y2).set j (.fsl d g c)))=A' ++ .agg (Y1 ++ .fsl d g c :: Y2) :: B':=by
  rw[Gy _ _ (by omega),k,wH,Fm,Gy _ _ (by omega),F,wH,Fm]
 rw[G];refine⟨_,D r _ (λe=>S e.symm) U,?_,by rw[X];exact E,by rw[E];exact R⟩;refine F2.app (F2.mono (λx u y n=>DE.aX n λp hp b f=>D p b (λe=>n1 (by rw[<-e];exact fq.2 ⟨x,u,hp⟩)) f) T) ⟨⟨_,_,rfl,rfl,F2.app (F2.mono (λx u y n=>DC.aX n λp hp b f=>D p b (λe=>n2 (by rw[<-e];exact fq.2 ⟨x,u,hp⟩)) f) J) ⟨.inr ⟨q,d,g,c,by rw[Q],rfl,by rw[aa.get_put,if_pos rfl],hz⟩,F2.mono (λx u y n=>DC.aX n λp hp b f=>D p b (λe=>n3 (by rw[<-e];exact fq.2 ⟨x,u,hp⟩)) f) N⟩⟩,F2.mono (λx u y n=>DE.aX n λp hp b f=>D p b (λe=>n4 (by rw[<-e];exact fq.2 ⟨x,u,hp⟩)) f) hB⟩
def qp.plain{z:Nat}{H:aa}{r:Ref}{es':List AV}{rs:List Ref}(h:qp z H r es' rs){i j:Nat}{ys:List AV}(V:es'[i]?=some (.agg ys)){w:AV}(T:ys[j]?=some w)(O:vM w=true){v:AV}(Q:vM v=true) :
 ∃es n,H.get r=some ⟨z,es,false,false⟩/\es.length=es'.length/\fP es i j [v]=some n/\qp z (H.put r (some ⟨z,n,false,false⟩)) r (es'.set i (.agg (ys.set j v))) rs:=by
 obtain⟨es,Y,S,K,P⟩:=h;have F:=yC V;have hil:i<es'.length:=(ew.1 V).1;have d:(es'.take i).length=i:=by rw[nZ];omega
 generalize es'.take i=A' at *;generalize es'.drop (i+1)=B' at *;subst F;obtain⟨A,C,rfl,R,N⟩:=F2.split S;match C,N with
 | x :: B,N=>
 obtain⟨⟨xs,ys',rfl,e,hX⟩,Z⟩:=N;cases e;have J:A.length=i:=by rw[R.len,d]
 have G:=yC T;have W:j<ys.length:=(ew.1 T).1;have q:(ys.take j).length=j:=by rw[nZ];omega
 generalize ys.take j=Y1 at *;generalize ys.drop (j+1)=Y2 at *;subst G;obtain⟨I,X3,rfl,D,g⟩:=F2.split hX;match X3,g with
 | x0 :: U,g=>
 have l:I.length=j:=by rw[D.len,q]
 obtain⟨M,L⟩:=g;have m : ∀u:AV,vM u=true->jg u=[]:=λu hu=>by cases u<;>first | rfl | cases hu
 obtain rfl:x0=w:=by
  rcases M with ⟨e,_⟩ | ⟨_,_,_,_,_,e,_⟩
  ·exact e
  rw[e]at O;cases O
 have e1:(A ++ .agg (I++x0 :: U) :: B).flatMap dB=(A ++ .agg (I++v :: U) :: B).flatMap dB:=by simp[dB,AP,na,m _ O,m _ Q]
 have t:(A' ++ .agg (Y1++x0 :: Y2) :: B').set i (.agg ((Y1++x0 :: Y2).set j v))=A' ++ .agg (Y1++v :: Y2) :: B':=by
  rw[Gy _ _ (by omega),d,wH,Fm,Gy _ _ (by omega),q,wH,Fm]
 rw[t];rw[K]at P;have o:=(yd.1 P).1;simp only[AP,na,iN,dB,not_or]at o;obtain⟨n1,⟨n2,n3,X⟩,n5⟩:=o;have E : ∀p b,p≠r->H.get p=some b ->∀c,(H.put r c).get p=some b:=λp b hp a c=>by rw[aa.get_put,if_neg hp];exact a
 refine⟨_,_,Y,S.len,?_,_,by rw[aa.get_put,if_pos rfl],?_,by rw[<-e1];exact K,by rw[K];exact P⟩;·rw[Fv J (by simp;omega),EO l]
 exact F2.app (F2.mono (λx k y f=>DE.aX f λp hp b a=>E p b (λe=>n1 (by rw[<-e];exact fq.2 ⟨x,k,hp⟩)) a _) R) ⟨⟨_,_,rfl,rfl,F2.app (F2.mono (λx k y f=>DC.aX f λp hp b a=>E p b (λe=>n2 (by rw[<-e];exact fq.2 ⟨x,k,hp⟩)) a _) D) ⟨.inl ⟨rfl,Q⟩,F2.mono (λx k y f=>DC.aX f λp hp b a=>E p b (λe=>X (by rw[<-e];exact fq.2 ⟨x,k,hp⟩)) a _) L⟩⟩,F2.mono (λx k y f=>DE.aX f λp hp b a=>E p b (λe=>n5 (by rw[<-e];exact fq.2 ⟨x,k,hp⟩)) a _) Z⟩
def TE{P:Program}{T:TypeId}{z by':Nat}(b:RB P T z by'=true){cs:List AV}(d:cs.length=z)(a:z<=16777216)(c:cs.all AV.one=true)(H:aa)(r:Ref) :
 qu P H r T 1 (some [(0,.agg cs)])=some (.dsl r 0 1 (some 1),(r,some ⟨z,[.agg cs],false,false⟩) :: H):=by
 obtain⟨e,m,g,j,n,i,f,h,k,l⟩:=jh b;simp only[qu,g,i,j];rw[if_pos ⟨trivial,AO k,a,f,h,d,c⟩]
def ZD{P:Program}{T:TypeId}{z by':Nat}(n:RB P T z by'=true)(b:Ed P T=true){H:aa}{r g:Ref}{c:Option Nat}{f:AV}(j:H.get g=some ⟨z,[f],false,false⟩){s:AV} :
 (s = .v (.slice none 0 0)->by'<=bg->yf P H r (some T) (some T) s (.dsl g 0 1 c)=some (.dsl r 0 1 none,(r,some ⟨z,[f],false,false⟩) :: H)) /\
 (∀r' es fz,s = .dsl r' 0 es.length none->H.get r'=some ⟨z,es,false,fz⟩->r'≠g->(es.length+1) * by'<=bg->yf P H r (some T) (some T) s (.dsl g 0 1 c) =
  some (.dsl ⟨r'.d,r'.t,H.gen r'.d r'.t,0⟩ 0 (es.length+1) none,(⟨r'.d,r'.t,H.gen r'.d r'.t,0⟩,some ⟨z,es++[f],false,fz⟩) :: H.put r' none)):=by
 obtain⟨e,u,i,m,k,l,q,x,w,p⟩:=jh n;unfold Ed at b;simp only[aT,dI]at b;have a : ¬((P.underlying T).isNone=true\/isInt P T≠false):=by
  rw[b.2];cases o:P.underlying T with
  | none=>rw[o]at b;simp at b
  | some d=>simp
 have h : ¬((false=true)\/z≠z\/z=0\/by'=0\/[f]=[]\/u.cells.length≠z\/1≠[f].length):=by simp[q,w,p]
 constructor;·rintro rfl hb;simp only[yf,eJ,i,Option.map_some,cI,m,k,l,j];rw[if_neg a,if_neg h,if_pos (by omega)]
 rintro r' es fz rfl hr hn hb;simp only[yf,eJ,i,Option.map_some,cI,m,k,l,j];rw[if_neg a,if_neg h];simp only[hr];rw[if_pos ⟨trivial,trivial,trivial,hn,hb⟩]
def F2.snoc{R:AV->AV->Prop}{xs ys:List AV}{x y:AV}(h:F2 R xs ys)(a:R x y):F2 R (xs++[x]) (ys++[y]):=h.app ⟨a,trivial⟩
def RL{z:Nat}{H H2:aa}{E j:List (Ref × aQ)}{rows:List Fh}{s:AV}{es es':List AV}{rs:List Ref}(h:B2 H (j++E) (⟨z,s,es',rs⟩ :: rows)){r2:Ref}{cs ys:List AV}
 (F:F2 (DE H.get) es es') (i : ∀q∈es.flatMap dB,q∈rs) (D:(es.flatMap dB).Nodup) (J:F2 (DC H.get) cs ys) (I:cs.flatMap jg=j.map (·.1)) (N:Fr H2) (K:H.get r2=none) (M:H2.get r2=some ⟨z,es++[.agg cs],false,false⟩)
 (w : ∀q b,H.get q=some b->(q∈rs->q∈es.flatMap dB)->H2.get q=some b):B2 H2 E (⟨z,.dsl r2 0 (es.length+1) none,es'++[.agg ys],r2 :: (es++[AV.agg cs]).flatMap dB⟩ :: rows):=by
 have m:=h.nd;rw[Ai]at m;obtain⟨n1,n2,n3⟩:=Fl.1 m;obtain⟨d1,d2⟩:=KE.1 h.dis;have n:(es++[AV.agg cs]).flatMap dB=es.flatMap dB++j.map (·.1):=by
  rw[AP,<-I];simp[dB]
 have v : ∀q∈j.map (·.1),∃b,H.get q=some b/\(q∈rs->q∈es.flatMap dB):=by
  intro q d;obtain⟨p,hp,rfl⟩:=jO.1 d;exact⟨p.2,h.has p (Aj _ hp),λc=>absurd c (h.sep _ (gy ..) p (Aj _ hp))⟩
 have C : ∀q∈es.flatMap dB,∃b,H.get q=some b:=λq d=>(h.row _ (gy ..)).live q (i q d);have k : ∀q b,H.get q=some b->q≠r2:=λq b g e=>by rw[e,K]at g;cases g
 have A : ∀p∈E,H2.get p.1=some p.2:=λp hp=>w _ _ (h.has p (Fs _ hp)) λc=>absurd c (h.sep _ (gy ..) p (Fs _ hp));refine⟨N,A,n2,λt l=>?_,λt l p hp=>?_,?_⟩
 ·rcases eD.1 l with rfl | l
  ·refine .inr (.inr ⟨r2,es++[.agg cs],by simp,by simp,M,?_,rfl,?_⟩);·have c : ∀x∈es,∀y,DE H.get x y->DE H2.get x y:=λx G y o=>o.aX λq d b g=>w q b g λ_=>fq.2 ⟨x,G,d⟩;refine(F.mono c).snoc ⟨cs,ys,rfl,rfl,J.mono λx G y o=>o.aX λq d b g=>?_⟩;obtain⟨b',_,O⟩:=v q (by rw[<-I];exact fq.2 ⟨x,G,d⟩);exact w q b g O
   rw[n];refine yd.2 ⟨λc=>?_,Fl.2 ⟨D,n1,λa L b g e=>?_⟩⟩
   ·rcases iN.1 c with c | c
    ·obtain⟨b,g⟩:=C _ c;exact k _ _ g rfl
    obtain⟨b,g,_⟩:=v _ c;exact k _ _ g rfl
   obtain⟨p,hp,rfl⟩:=jO.1 g;exact h.sep _ (gy ..) p (Aj _ hp) (by rw[<-e];exact i a L)
  refine(h.row t (fO _ l)).aX λq d b g=>w q b g λc=>absurd d (d1 t l q c)
 ·rcases eD.1 l with rfl | l
  ·intro c;simp only[n]at c;rcases eD.1 c with e | c
   ·exact k _ _ (h.has p (Fs _ hp)) e
   rcases iN.1 c with c | c
   ·exact h.sep _ (gy ..) p (Fs _ hp) (i _ c)
   exact n3 _ c _ (iQW (f:=λp:Ref × aQ=>p.1) hp) rfl
  exact h.sep t (fO _ l) p (Fs _ hp)
 refine KE.2 ⟨λu B q d c=>?_,d2⟩;simp only[n]at d;obtain⟨b,g⟩:=(h.row u (fO _ B)).live q c;rcases eD.1 d with rfl | d
 ·exact k _ _ g rfl
 rcases iN.1 d with d | d
 ·exact d1 u B q (i q d) c
 obtain⟨p,hp,rfl⟩:=jO.1 d;exact h.sep u (fO _ B) p (Aj _ hp) c
def ZF{P:Program}{T:TypeId}{z by':Nat}(R:RB P T z by'=true)(X:Ed P T=true){H:aa}{V k:List (Ref × aQ)}{rows:List Fh}{s:AV}{es':List AV}{rs:List Ref}
 (Z:s = .v (.slice none 0 0) \/∃r n,s = .dsl r 0 n none) (h:B2 H (k++V) (⟨z,s,es',rs⟩ :: rows)) {cs ys:List AV} (S:F2 (DC H.get) cs ys) (J:cs.flatMap jg=k.map (·.1)) (hz:cs.length=z) (N:z<=16777216) (ho:cs.all AV.one=true) (l:(es'.length+1) * by'<=bg)
 {dp t1 y:Nat} {r1:Ref} (C:r1=⟨dp,t1,aa.gen H dp t1,0⟩) {K:AV->aa->Prop} (U : ∀r2 H2 B,B2 H2 V (⟨z,.dsl r2 0 (es'.length+1) none,es'++[.agg ys],B⟩ :: rows)->(∀q b,H.get q=some b->(∀n,s ≠ .dsl q 0 n none)->H2.get q=some b) ->
  (∀q∈B,q∈rs\/q∈k.map (·.1)\/q=r2)->(H.get r2=none/\(r2.t=y \/∃r n,s = .dsl r 0 n none/\r2.t=r.t))->K (.dsl r2 0 (es'.length+1) none) H2) :
 lE (qu P H r1 T 1 (some [(0,.agg cs)])) λv a=>lE (yf P a (⟨dp,y,aa.gen a dp y,0⟩:Ref) (some T) (some T) s v) K:=by
 have D:H.get r1=none:=by rw[C];exact h.fr dp t1 _ 0 (cH _)
 obtain⟨a,o⟩ : ∃a:aa,a=(r1,some ⟨z,[.agg cs],false,false⟩) :: H:=⟨_,rfl⟩;have x:Fr a:=by rw[o,C];exact xp h.fr rfl _
 have F:a.get r1=some ⟨z,[.agg cs],false,false⟩:=by rw[o,aa.fh,if_pos rfl]
 have j : ∀q b,H.get q=some b->a.get q=some b:=λq b f=>by
  rw[o,aa.fh,if_neg (λe=>by rw[<-e,D]at f;cases f)];exact f
 refine tL (v := .dsl r1 0 1 (some 1)) (H:=a) (by rw[TE R hz N ho,o]) ?_;obtain⟨a1,a2⟩:=ZD (r:=⟨dp,y,a.gen dp y,0⟩) R X (c:=some 1) F (s:=s);have g : ∀d t,H.get ⟨d,t,a.gen d t,0⟩=none:=λd t=>by
  cases i:H.get ⟨d,t,a.gen d t,0⟩ with| none=>rfl| some b=>have:=j _ _ i;rw[x d t _ 0 (cH _)]at this;cases this
 have hp1:(a.get r1).isSome=true:=by rw[F];rfl
 have p:=h.row _ (gy ..);rcases Z with rfl | ⟨r',n,rfl⟩
 ·rcases p with ⟨_,Q,u⟩ | ⟨_,e,_⟩ | ⟨_,_,e,_⟩
  ·simp only at Q u;subst Q;subst u;refine tL (a1 rfl (by simpa using l)) ?_;have w:([]++[AV.agg cs]).flatMap dB=k.map (·.1):=by rw[<-J];simp[dB]
   refine U _ _ _ (RL (es:=[]) h trivial (by simp) (by simp) S J ?_ (g dp y) ?_ ?_) ?_ ?_ ⟨g _ _,.inl rfl⟩;·exact xp x rfl _
   ·rw[aa.fh,if_pos rfl];rfl
   ·intro q b f _;rw[aa.fh,if_neg (λe=>by rw[<-e,g]at f;cases f)];exact j q b f
   ·intro q b f _;rw[aa.fh,if_neg (λe=>by rw[<-e,g]at f;cases f)];exact j q b f
   intro q i;rw[w]at i;rcases eD.1 i with rfl | i
   ·exact .inr (.inr rfl)
   exact .inr (.inl i)
  ·cases e
  cases e
 rcases p with ⟨e,_⟩ | ⟨_,e,_⟩ | ⟨r0,es,e,Q,u,O,G,L⟩
 ·cases e
 ·cases e
 simp only at e u O G L;injection e with q1 q2 Y q4
 subst q1;subst Y;have m:es.length=es'.length:=O.len;have M:r'≠r1:=λe=>by rw[e,D]at u;cases u
 have E:(a.get r').isSome=true:=by rw[j _ _ u];rfl
 have A : ∀d t,(a.put r' none).gen d t=a.gen d t:=λd t=>by rw[aa.jJ _ _ _ E]
 refine tL (a2 r' es false rfl (j _ _ u) M (by rw[m];exact l)) ?_;rw[m];rw[G]at L;have I:=(yd.1 L);have:=RL (es:=es) (r2:=⟨r'.d,r'.t,a.gen r'.d r'.t,0⟩) (H2:=(⟨r'.d,r'.t,a.gen r'.d r'.t,0⟩,some ⟨z,es++[.agg cs],false,false⟩) :: (a.put r' none)) h O (λq i=>by rw[G];exact fO _ i) I.2 S J (xp (CS x E none) (A _ _).symm _) (g _ _) (by rw[aa.fh,if_pos rfl]) (λq b f hm=>by
  rw[aa.fh,if_neg (λe=>by rw[<-e,g]at f;cases f),aa.get_put,if_neg (λe=>by
   subst e;exact I.1 (hm (by rw[G];exact gy ..)))]
  exact j q b f)
 rw[m]at this;refine U _ _ _ this (λq b f W=>?_) (λq i=>?_) ⟨g _ _,.inr ⟨r',_,rfl,rfl⟩⟩;·rw[aa.fh,if_neg (λe=>by rw[<-e,g]at f;cases f),aa.get_put,if_neg (λe=>W _ (by rw[e]))];exact j q b f
 have w:(es++[AV.agg cs]).flatMap dB=es.flatMap dB++k.map (·.1):=(by rw[AP,<-J];simp[dB]);rw[w]at i;rcases eD.1 i with rfl | i
 ·exact .inr (.inr rfl)
 rcases iN.1 i with i | i
 ·exact .inl (by rw[G];exact fO _ i)
 exact .inr (.inl i)
end Go.Ab
namespace Go.Proofs.YtmkmimgokagimaaGreat
open Go.Ab
section
variable(dep:Nat)(g:Nat->AV)(x0 x1:AV)(H:aa)(Q:AV->aa->Prop)
def z3:Prop:=
 bF H 2 29 x0 λi k=>
 bF k 3 29 x1 λh H2=>
 ae 29 i 0 λp=>
 ad H2 5 p λm=>
 ae 29 h 0 λn=>
 ad H2 5 n λo=>
 jU (bP env.P .leq 5 (Operand.tmp 6) (Operand.tmp 8) (some m) (some o)) λa=>
 gQ a true (ao 29 i 1) λl=>
 gQ a true (aq H2 27 l) λj=>
 gQ a true (ao 29 h 1) λd=>
 gQ a true (aq H2 27 d) λb=>
 gQ a true (bP env.P .andNot 27 (Operand.tmp 12) (Operand.tmp 14) (some j) (some b)) λc=>
 gQ a true (bP env.P .eql 27 (Operand.tmp 15) (.const (.int .u32 0)) (some c) (some (af 0))) λf=>
 bD a f λe=>
 Q e H2
theorem Dg(h : ∀g:ed,z3 x0 x1 H Q):dP Tryz.f47 0 [(0,x0),(1,x1)] H Q:=iP (by kernel_rfl) h
def wg:Prop:=
 bF H 1 29 x0 λe a=>
 ae 29 e 0 λb=>
 ad a 5 b λd=>
 jU (bP env.P .gtr 5 (Operand.tmp 4) (.const (.int .u8 15)) (some d) (some (a8 15))) λc=>
 br (some c) (
 Q (.v (.int .i64 8)) a) (
 Q (.v (.int .i64 0)) a)
theorem AX(h : ∀g:ed,wg x0 H Q):dP Tryz.f76 0 [(0,x0)] H Q:=iP (by kernel_rfl) h
def wh:Prop:=
 bF H 1 31 x0 λd c=>
 ae 31 d 0 λk=>
 ad c 29 k λf=>
 bw true c 5 76 [f] λl H2=>
 Af 42 5 0 l λa=>
 gQ a true (ao 31 d 1) λm=>
 gQ a true (aq H2 5 m) λe=>
 gQ a true (bP env.P .lss 5 (Operand.tmp 9) (.const (.int .u8 8)) (some e) (some (a8 8))) λi=>
 bD a i λh=>
 bw true H2 12 159 [h] λb j=>
 Q b j
theorem CA(h : ∀g:ed,wh x0 H Q):dP Tryz.f91 0 [(0,x0)] H Q:=iP (by kernel_rfl) h
def iY:=sV Tryz.f133 4
def q0:Nat->Option (List Nat):=λi=>cond (Nat.beq i 4) (some [5,1,0]) (none)
def m7:Prop:=
 eL H 7 36 x0 λc=>
 eL H 9 36 x1 λa=>
 Ac 3 7 9 c a λb=>
 br (some b) (
 Q (.v (.bool false)) H) (
  bu env Tryz.f133 0 iY [(5,(.v (.int .i64 0))),(1,x1),(0,x0)] H Q)
theorem yz(h : ∀g:ed,m7 x0 x1 H Q):dP Tryz.f133 0 [(0,x0),(1,x1)] H Q:=vf q0 (by kernel_rfl) h
def ja(g:Nat->AV)(a x1 x0:AV)(H:aa)(Q:AV->aa->Prop):Prop:=
 eL H 13 36 x0 λd=>
 dc 3 11 13 a d λb=>
 br (some b) (
 bz H 36 x0 a λj=>
 ad H 21 j λf=>
 bz H 36 x1 a λh=>
 ad H 21 h λi=>
 Ac 21 20 24 f i λc=>
 br (some c) (
 Q (.v (.bool false)) H) (
 ef 3 15 1 a λe=>
  bu env Tryz.f133 0 iY [(5,e),(1,x1),(0,x0)] H Q)) (
 Q (.v (.bool true)) H)
theorem pt(a x1 x0:AV)(H:aa)(Q:AV->aa->Prop)(h : ∀g,ja g a x1 x0 H Q):bu env Tryz.f133 0 iY [(5,a),(1,x1),(0,x0)] H Q:=sU q0 (by kernel_rfl) h
def mY:Prop:=
 bF H 1 35 x0 λb u=>
 ae 35 b 0 λx=>
 ad u 33 x λB=>
 bw true u 5 182 [B] λA H2=>
 Af 42 5 0 A λd=>
 gQ d true (ao 35 b 1) λw=>
 gQ d true (aq H2 3 w) λy=>
 gQ d true (wD 3 9 1 y) λz=>
 bD d z λc=>
 gQ c true (ao 35 b 1) λi=>
 gQ c true (aq H2 3 i) λe=>
 gQ c true (Ae 3 14 64 e) λh=>
 bD c h λa=>
 gQ a true (ao 35 b 0) λo=>
 gQ a true (ao 33 o 1) λj=>
 gQ a true (aq H2 3 j) λt=>
 gQ a true (ao 35 b 1) λk=>
 gQ a true (aq H2 3 k) λp=>
 gQ a true (QH 3 20 22 t p) λm=>
 gQ a true (Ub 3 23 1 m) λf=>
 gQ a true (Ae 3 24 1099511627776 f) λn=>
 bD a n λq=>
 bw true H2 27 159 [q] λl v=>
 Q l v
theorem EE(h : ∀g:ed,mY x0 H Q):dP Tryz.f135 0 [(0,x0)] H Q:=iP (by kernel_rfl) h
def Ef:Prop:=
 br (some x0) (
 Q (.v (.int .i64 0)) H) (
 Q (.v (.int .i64 8)) H)
theorem KR(h : ∀g:ed,Ef x0 H Q):dP Tryz.f159 0 [(0,x0)] H Q:=iP (by kernel_rfl) h
def tQ:Prop:=
 bF H 1 31 x0 λa m=>
 ad m 31 a λt=>
 bw true m 6 91 [t] λo H2=>
 mG 42 7 0 o λy=>
 br (some y) (
 Q (.tup [(.v (.slice none 0 0)),o]) H2) (
 ae 31 a 0 λz=>
 ae 29 z 0 λB=>
 ad H2 5 B λw=>
 T6 H2 13 170 1 0 w λx e=>
 ae 31 a 0 λq=>
 ae 29 q 1 λf=>
 ad e 27 f λb=>
 qN e 17 27 3 b λc=>
 bw false e 18 207 [c,(.v (.int .i64 4))] λl p=>
 lE (ga env.P false p (Ref.mk 0 19 (aa.gen p 0 19) 0) (some 170) (some 170) x l) λj n=>
 ae 31 a 1 λh=>
 ad n 5 h λd=>
 T6 n 22 170 1 0 d λi u=>
 mv u 23 170 170 j i λk A=>
 Q (.tup [k,(.v (.int .i64 0))]) A)
theorem ED(h : ∀g:ed,tQ x0 H Q):dP Tryz.f162 0 [(0,x0)] H Q:=iP (by kernel_rfl) h
def Bv:Prop:=
 bF H 2 29 x0 λd y=>
 bF y 3 29 x1 λk H2=>
 ae 29 k 0 λD=>
 ad H2 5 D λA=>
 ae 29 d 1 λB=>
 ad H2 27 B λC=>
 jU (nz env.P 29 (some [(0,A),(1,C)])) λz=>
 fM H2 5 29 λw x=>
 aV x 29 w z λE c=>
 ae 29 d 0 λj=>
 ad c 5 j λe=>
 ae 29 k 0 λh=>
 ad c 5 h λv=>
 dc 5 12 14 e v λa=>
 gQ a false (aq c 29 d) λl=>
 gQ a false (aq c 29 w) λi=>
 gQ a false (kb 29 17 18 l i) λn=>
 gQ a false (aU n) λb=>
 gQ b true (ao 29 d 1) λp=>
 gQ b true (aq c 27 p) λf=>
 gQ b true (ao 29 k 1) λq=>
 gQ b true (aq c 27 q) λu=>
 gQ b true (Gp 27 22 24 f u) λo=>
 gQ a false (JK b o) λm=>
 eg a m λt=>
 Q t c
theorem Hj(h : ∀g:ed,Bv x0 x1 H Q):dP Tryz.f169 0 [(0,x0),(1,x1)] H Q:=iP (by kernel_rfl) h
def fw:Prop:=
 Ua 36 3 x0 λd=>
 br (some d) (
 Q (.v (.slice none 0 0)) H) (
 T5 H 5 36 0 λa b=>
 mv b 7 36 36 a x0 λc H2=>
 Q c H2)
theorem tC(h : ∀g:ed,fw x0 H Q):dP Tryz.f173 0 [(0,x0)] H Q:=iP (by kernel_rfl) h
def lG:Prop:=
 bw true H 7 214 [x0,x1] λc b=>
 wF 3 7 0 c λa=>
 Q a b
theorem rB(h : ∀g:ed,lG x0 x1 H Q):dP Tryz.f176 0 [(0,x0),(1,x1)] H Q:=iP (by kernel_rfl) h
def Eg:Prop:=
 bF H 1 33 x0 λf j=>
 ae 33 f 0 λl=>
 ad j 31 l λq=>
 bw true j 5 91 [q] λo H2=>
 Af 42 5 0 o λb=>
 gQ b true (ao 33 f 1) λp=>
 gQ b true (aq H2 3 p) λm=>
 gQ b true (wD 3 9 1 m) λn=>
 bD b n λa=>
 gQ a true (ao 33 f 1) λe=>
 gQ a true (aq H2 3 e) λc=>
 gQ a true (Ae 3 14 1099511627776 c) λd=>
 bD a d λi=>
 bw true H2 17 159 [i] λh k=>
 Q h k
theorem KS(h : ∀g:ed,Eg x0 H Q):dP Tryz.f182 0 [(0,x0)] H Q:=iP (by kernel_rfl) h
def we:Prop:=
 fM H 0 29 λa c=>
 rK 29 λb=>
 aV c 29 a b λe H2=>
 jZ H2 a 29 λd=>
 Q d H2
theorem AW(h : ∀g:ed,we H Q):dP Tryz.f185 0 [] H Q:=iP (by kernel_rfl) h
def wb:Prop:=
 eL H 6 36 x0 λd=>
 CY 3 6 64 d λb=>
 br (some b) (
 Q (.v (.int .i64 4)) H) (
 bw true H 11 217 [x0,(.fn (.func 215) [] [])] λc a=>
 br (some c) (
 Q (.v (.int .i64 8)) a) (
 Q (.v (.int .i64 0)) a))
theorem Hc(h : ∀g:ed,wb x0 H Q):dP Tryz.f187 0 [(0,x0)] H Q:=iP (by kernel_rfl) h
def uJ:=sV Tryz.f207 2
def Ch:Nat->Option (List Nat):=λi=>cond (Nat.beq i 2) (some [5,0,4]) (none)
def xS:Prop:=
 Gt 3 6 1 x1 λa=>
  bu env Tryz.f207 0 uJ [(5,a),(0,x0),(4,(.v (.slice none 0 0)))] H Q
theorem Ca(h : ∀g:ed,xS x0 x1 H Q):dP Tryz.f207 0 [(0,x0),(1,x1)] H Q:=vf Ch (by kernel_rfl) h
def cS(g:Nat->AV)(a x0 b:AV)(H:aa)(Q:AV->aa->Prop):Prop:=
 wF 3 8 0 a λf=>
 br (some f) (
 Uc 3 8 14 a λc=>
 jU (bP env.P .shr 3 (Operand.tmp 13) (Operand.tmp 15) (some x0) (some c)) λk=>
 qN H 17 3 5 k λh=>
 rN H 18 170 1 0 h λi d=>
 mv d 19 170 170 b i λj H2=>
 Gt 3 10 1 a λe=>
  bu env Tryz.f207 0 uJ [(5,e),(0,x0),(4,j)] H2 Q) (
 Q b H)
theorem dg(a x0 b:AV)(H:aa)(Q:AV->aa->Prop)(h : ∀g,cS g a x0 b H Q):bu env Tryz.f207 0 uJ [(5,a),(0,x0),(4,b)] H Q:=sU Ch (by kernel_rfl) h
def CQ:Prop:=
 bF H 1 33 x0 λd h=>
 ad h 33 d λl=>
 bw true h 8 182 [l] λj H2=>
 mG 42 9 0 j λo=>
 br (some o) (
 Q (.tup [(.v (.slice none 0 0)),j]) H2) (
 ae 33 d 0 λp=>
 ad H2 31 p λq=>
 bw true H2 15 162 [q] λi f=>
 bn i 0 λm=>
 bn i 1 λk=>
 ae 33 d 1 λc=>
 ad f 3 c λa=>
 bw true f 21 207 [a,(.v (.int .i64 7))] λb t=>
 mv t 22 170 170 m b λe n=>
 Q (.tup [e,k]) n)
theorem Pb(h : ∀g:ed,CQ x0 H Q):dP Tryz.f208 0 [(0,x0)] H Q:=iP (by kernel_rfl) h
def sn:=sV Tryz.f210 6
def DM:Nat->Option (List Nat):=λi=>cond (Nat.beq i 6) (some [15,5,13,14]) (none)
def zZ:Prop:=
 bw true H 9 187 [x0] λb a=>
 mG 42 10 0 b λc=>
 br (some c) (
 Q (.tup [(.v (.slice none 0 0)),b]) a) (
 eL a 14 36 x0 λd=>
  bu env Tryz.f210 0 sn [(15,(.v (.int .i64 0))),(5,(.v (.slice none 0 0))),(13,x0),(14,d)] a Q)
theorem KO(h : ∀g:ed,zZ x0 H Q):dP Tryz.f210 0 [(0,x0)] H Q:=vf DM (by kernel_rfl) h
def sE(g:Nat->AV)(a j b c:AV)(H:aa)(Q:AV->aa->Prop):Prop:=
 dc 3 15 14 a c λo=>
 br (some o) (
 bz H 36 b a λl=>
 ad H 21 l λd=>
 jU (bP env.P .shr 21 (Operand.tmp 20) (.const (.int .u64 24)) (some d) (some (.v (.int .u64 24)))) λq=>
 qN H 22 21 5 q λt=>
 ZK 21 23 d λu=>
 qN H 25 21 5 u λn=>
 T9 21 26 d λp=>
 qN H 28 21 5 p λk=>
 qN H 30 21 5 d λh=>
 lE (qb env.P false true H (Ref.mk 0 31 (aa.gen H 0 31) 0) 170 4 (some [(0,t),(1,n),(2,k),(3,h)])) λe m=>
 mv m 32 170 170 j e λf H2=>
 ef 3 15 1 a λi=>
  bu env Tryz.f210 0 sn [(15,i),(5,f),(13,b),(14,c)] H2 Q) (
 Q (.tup [j,(.v (.int .i64 0))]) H)
theorem AU(b d a c:AV)(H:aa)(Q:AV->aa->Prop)(h : ∀g,sE g b d a c H Q):bu env Tryz.f210 0 sn [(15,b),(5,d),(13,a),(14,c)] H Q:=sU DM (by kernel_rfl) h
def eP:=sV Tryz.f214 2
def mQ:Nat->Option (List Nat):=λi=>cond (Nat.beq i 2) (some [8,0,1,7]) (none)
def mW:Prop:=
 eL H 7 36 x0 λa=>
  bu env Tryz.f214 0 eP [(8,(.v (.int .i64 0))),(0,x0),(1,x1),(7,a)] H Q
theorem tA(h : ∀g:ed,mW x0 x1 H Q):dP Tryz.f214 0 [(0,x0),(1,x1)] H Q:=vf mQ (by kernel_rfl) h
def eT(g:Nat->AV)(a x0 x1 b:AV)(H:aa)(Q:AV->aa->Prop):Prop:=
 dc 3 8 7 a b λd=>
 br (some d) (
 bz H 36 x0 a λc=>
 ad H 21 c λh=>
 rM 21 11 15 x1 h λe=>
 br (some e) (
 Q a H) (
 ef 3 8 1 a λf=>
  bu env Tryz.f214 0 eP [(8,f),(0,x0),(1,x1),(7,b)] H Q)) (
 Q (.v (.int .i64 (-1))) H)
theorem lN(a x0 x1 b:AV)(H:aa)(Q:AV->aa->Prop)(h : ∀g,eT g a x0 x1 b H Q):bu env Tryz.f214 0 eP [(8,a),(0,x0),(1,x1),(7,b)] H Q:=sU mQ (by kernel_rfl) h
def tO:Prop:=
 ZL 21 3 x0 λa=>
 gQ a true (aU x0) λb=>
 gW a true H (fm true H 7 216 [b]) λf c=>
 gQ a true (sY f) λd=>
 bD a d λe=>
 Q e c
theorem EA(h : ∀g:ed,tO x0 H Q):dP Tryz.f215 0 [(0,x0)] H Q:=iP (by kernel_rfl) h
def px:Prop:=
 jU (bP env.P .leq 21 (.const (.int .i32 0)) (Operand.tmp 4) (some (.v (.int .i32 0))) (some x0)) λa=>
 gQ a true (aU x0) λe=>
 gQ a true (bP env.P .lss 21 (Operand.tmp 7) (.const (.int .i32 55296)) (some e) (some (.v (.int .i32 55296)))) λc=>
 bD a c λf=>
 br (some f) (
 Q (.v (.bool true)) H) (
 jU (bP env.P .lss 21 (.const (.int .i32 57343)) (Operand.tmp 11) (some (.v (.int .i32 57343))) (some x0)) λb=>
 gQ b true (aU x0) λd=>
 gQ b true (bP env.P .leq 21 (Operand.tmp 14) (.const (.int .i32 1114111)) (some d) (some (.v (.int .i32 1114111)))) λh=>
 bD b h λi=>
 br (some i) (
 Q (.v (.bool true)) H) (
 Q (.v (.bool false)) H))
theorem wo(h : ∀g:ed,px x0 H Q):dP Tryz.f216 0 [(0,x0)] H Q:=iP (by kernel_rfl) h
def kG:Prop:=
 bw true H 7 229 [x0,x1] λc b=>
 wF 3 7 0 c λa=>
 Q a b
theorem pA(h : ∀g:ed,kG x0 x1 H Q):dP Tryz.f217 0 [(0,x0),(1,x1)] H Q:=iP (by kernel_rfl) h
def eQ:=sV Tryz.f226 4
def mR:Nat->Option (List Nat):=λi=>cond (Nat.beq i 4) (some [13,1,0,12]) (none)
def jw:Prop:=
 eL H 7 36 x0 λd=>
 eL H 9 36 x1 λa=>
 Ac 3 7 9 d a λb=>
 br (some b) (
 Q (.v (.bool false)) H) (
 eL H 12 36 x0 λc=>
  bu env Tryz.f226 0 eQ [(13,(.v (.int .i64 0))),(1,x1),(0,x0),(12,c)] H Q)
theorem tB(h : ∀g:ed,jw x0 x1 H Q):dP Tryz.f226 0 [(0,x0),(1,x1)] H Q:=vf mR (by kernel_rfl) h
def eU(g:Nat->AV)(a x1 x0 b:AV)(H:aa)(Q:AV->aa->Prop):Prop:=
 dc 3 13 12 a b λe=>
 br (some e) (
 bz H 36 x0 a λc=>
 ad H 21 c λj=>
 bz H 36 x1 a λf=>
 ad H 21 f λh=>
 Ac 21 19 23 j h λi=>
 br (some i) (
 Q (.v (.bool false)) H) (
 ef 3 13 1 a λd=>
  bu env Tryz.f226 0 eQ [(13,d),(1,x1),(0,x0),(12,b)] H Q)) (
 Q (.v (.bool true)) H)
theorem lO(b x1 x0 a:AV)(H:aa)(Q:AV->aa->Prop)(h : ∀g,eU g b x1 x0 a H Q):bu env Tryz.f226 0 eQ [(13,b),(1,x1),(0,x0),(12,a)] H Q:=sU mR (by kernel_rfl) h
def y8:Prop:=
 bF H 2 35 x0 λm t=>
 fM t 4 33 λe H2=>
 ad H2 35 m λx=>
 bw true H2 8 135 [x] λp f=>
 mG 42 9 0 p λw=>
 br (some w) (
 rK 33 λc=>
 aV f 33 e c λn d=>
 jZ d e 33 λl=>
 Q (.tup [l,p]) d) (
 Gu 3 13 0 x1 λc=>
 gQ c false (aU x1) λn=>
 gQ c false (ao 35 m 1) λl=>
 gQ c false (aq f 3 l) λq=>
 gQ c false (QG 3 16 18 n q) λk=>
 eg c k λi=>
 br (some i) (
 rK 33 λa=>
 aV f 33 e a λh d=>
 jZ d e 33 λb=>
 Q (.tup [b,(.v (.int .i64 2))]) d) (
 ae 35 m 0 λa=>
 ad f 33 a λh=>
 bw true f 25 239 [h,x1] λb d=>
 aV d 33 e b λu o=>
 jZ o e 33 λj=>
 Q (.tup [j,(.v (.int .i64 0))]) o))
theorem RW(h : ∀g:ed,y8 x0 x1 H Q):dP Tryz.f228 0 [(0,x0),(1,x1)] H Q:=iP (by kernel_rfl) h
def dX:=sV Tryz.f229 2
def lD:Nat->Option (List Nat):=λi=>cond (Nat.beq i 2) (some [8,0,1,7]) (none)
def lF:Prop:=
 eL H 7 36 x0 λa=>
  bu env Tryz.f229 0 dX [(8,(.v (.int .i64 0))),(0,x0),(1,x1),(7,a)] H Q
theorem rA(h : ∀g:ed,lF x0 x1 H Q):dP Tryz.f229 0 [(0,x0),(1,x1)] H Q:=vf lD (by kernel_rfl) h
def dY(g:Nat->AV)(a x0 x1 c:AV)(H:aa)(Q:AV->aa->Prop):Prop:=
 dc 3 8 7 a c λe=>
 br (some e) (
 bz H 36 x0 a λd=>
 ad H 21 d λi=>
 LX H 16 x1 i λf b=>
 br (some f) (
 Q a b) (
 ef 3 8 1 a λh=>
  bu env Tryz.f229 0 dX [(8,h),(0,x0),(1,x1),(7,c)] b Q)) (
 Q (.v (.int .i64 (-1))) H)
theorem kV(a x0 x1 b:AV)(H:aa)(Q:AV->aa->Prop)(h : ∀g,dY g a x0 x1 b H Q):bu env Tryz.f229 0 dX [(8,a),(0,x0),(1,x1),(7,b)] H Q:=sU lD (by kernel_rfl) h
def pq:Prop:=
 bF H 1 38 x0 λi E=>
 fM E 2 249 λe H2=>
 ad H2 38 i λK=>
 bw true H2 7 70 [K] λD f=>
 mG 42 8 0 D λG=>
 br (some G) (
 rK 249 λt=>
 aV f 249 e t λC j=>
 jZ j e 249 λo=>
 Q (.tup [o,D]) j) (
 ae 38 i 3 λt=>
 ad f 35 t λC=>
 ae 38 i 4 λo=>
 ad f 33 o λI=>
 ae 38 i 6 λl=>
 ad f 36 l λu=>
 bw false f 18 173 [u] λx j=>
 LS 249 0 C 1 I 2 x λA=>
 fM j 5 249 λc J=>
 aV J 249 c A λF k=>
 ae 38 i 0 λB=>
 ad k 5 B λn=>
 jU (bP env.P .neq 5 (Operand.tmp 21) (.const (.int .u8 1)) (some n) (some (a8 1))) λa=>
 gQ a false (aq k 249 c) λy=>
 gW a false k (fm true k 25 240 [y]) λw q=>
 gQ a false (Gs 42 25 0 w) λz=>
 eg a z λp=>
 br (some p) (
 rK 249 λb=>
 aV q 249 e b λm h=>
 jZ h e 249 λd=>
 Q (.tup [d,(.v (.int .i64 2))]) h) (
 ad q 249 c λb=>
 aV q 249 e b λm h=>
 jZ h e 249 λd=>
 Q (.tup [d,(.v (.int .i64 0))]) h))
theorem vd(h : ∀g:ed,pq x0 H Q):dP Tryz.f231 0 [(0,x0)] H Q:=iP (by kernel_rfl) h
def FZ:Prop:=
 bF H 2 33 x0 λb i=>
 fM i 4 33 λe H2=>
 ae 33 b 1 λf=>
 ad H2 3 f λj=>
 qM 3 6 7 j x1 λl=>
 ae 33 b 1 λk=>
 aV H2 3 k l λm d=>
 ad d 33 b λh=>
 aV d 33 e h λn c=>
 jZ c e 33 λa=>
 Q a c
theorem Me(h : ∀g:ed,FZ x0 x1 H Q):dP Tryz.f239 0 [(0,x0),(1,x1)] H Q:=iP (by kernel_rfl) h
def z0:Prop:=
 bF H 1 249 x0 λd i=>
 ae 249 d 1 λP=>
 ad i 33 P λW=>
 rK 33 λV=>
 rM 33 5 6 W V λf=>
 gQ f false (ao 249 d 1) λT=>
 gQ f false (aq i 33 T) λR=>
 gW f false i (fm true i 11 182 [R]) λS H2=>
 gQ f false (rO 42 11 0 S) λU=>
 gQ f false (aU U) λa=>
 gQ a true (ao 249 d 1) λt=>
 gQ a true (ao 33 t 1) λw=>
 gQ a true (aq H2 3 w) λI=>
 gQ a true (ao 249 d 0) λD=>
 gQ a true (ao 35 D 0) λk=>
 gQ a true (ao 33 k 1) λK=>
 gQ a true (aq H2 3 K) λl=>
 gQ a true (Gp 3 16 20 I l) λF=>
 gQ f false (JK a F) λB=>
 eg f B λu=>
 ae 249 d 0 λC=>
 ad H2 35 C λp=>
 bw true H2 26 135 [p] λA h=>
 mG 42 26 0 A λe=>
 gQ e false (aU u) λM=>
 gQ e false (sY M) λL=>
 eg e L λb=>
 gQ b false (ao 249 d 2) λz=>
 gQ b false (aq h 36 z) λm=>
 gQ b false (xW h 35 36 m) λy=>
 gQ b false (ao 249 d 0) λj=>
 gQ b false (ao 35 j 1) λG=>
 gQ b false (aq h 3 G) λq=>
 gQ b false (QF 3 35 38 y q) λo=>
 eg b o λc=>
 gQ c false (ao 249 d 2) λN=>
 gQ c false (aq h 36 N) λE=>
 gW c false h (fm true h 44 187 [E]) λx O=>
 gQ c false (Gs 42 44 0 x) λn=>
 eg c n λJ=>
 br (some J) (
 Q (.v (.int .i64 8)) O) (
 Q (.v (.int .i64 0)) O)
theorem KP(h : ∀g:ed,z0 x0 H Q):dP Tryz.f240 0 [(0,x0)] H Q:=iP (by kernel_rfl) h
def tS:Prop:=
 bF H 2 35 x0 λf B=>
 bF B 3 33 x1 λy H2=>
 ae 33 y 1 λG=>
 ad H2 3 G λD=>
 ae 35 f 0 λE=>
 ae 33 E 1 λF=>
 ad H2 3 F λC=>
 LV 3 8 11 D C λe=>
 ad H2 35 f λA=>
 bw false H2 14 135 [A] λk d=>
 mG 42 14 0 k λc=>
 gQ c false (aU e) λi=>
 gQ c false (CX 3 17 0 i) λw=>
 eg c w λb=>
 gQ b false (aU e) λl=>
 gQ b false (ao 35 f 1) λj=>
 gQ b false (aq d 3 j) λn=>
 gQ b false (QG 3 21 23 l n) λt=>
 eg b t λa=>
 gQ a false (aq d 33 y) λh=>
 gQ a false (ao 35 f 0) λp=>
 gQ a false (aq d 33 p) λu=>
 gQ a false (aU e) λo=>
 gW a false d (fm false d 31 239 [u,o]) λm z=>
 gQ a false (QF 33 27 31 h m) λq=>
 eg a q λx=>
 br (some x) (
 Q (.tup [(.v (.int .i64 0)),(.v (.bool false))]) z) (
 Q (.tup [e,(.v (.bool true))]) z)
theorem Pc(h : ∀g:ed,tS x0 x1 H Q):dP Tryz.f251 0 [(0,x0),(1,x1)] H Q:=iP (by kernel_rfl) h
end
section
variable(dep:Nat)(g:Nat->AV)(x0 x1 a:AV)(H:aa)(Q:AV->aa->Prop)
def cK:Prop:=
 bF H 2 38 x0 λi S=>
 bF S 3 38 x1 λh H2=>
 ae 38 i 0 λY=>
 ad H2 5 Y λX=>
 ae 38 h 0 λV=>
 ad H2 5 V λU=>
 rM 5 6 8 X U λj=>
 gQ j true (ao 38 i 1) λT=>
 gQ j true (aq H2 31 T) λW=>
 gQ j true (ao 38 h 1) λk=>
 gQ j true (aq H2 31 k) λx=>
 gQ j true (kb 31 12 14 W x) λz=>
 bD j z λe=>
 gQ e true (ao 38 i 2) λI=>
 gQ e true (aq H2 3 I) λm=>
 gQ e true (ao 38 h 2) λN=>
 gQ e true (aq H2 3 N) λo=>
 gQ e true (kb 3 19 21 m o) λJ=>
 bD e J λc=>
 gQ c true (ao 38 i 3) λy=>
 gQ c true (aq H2 35 y) λG=>
 gQ c true (ao 38 h 3) λu=>
 gQ c true (aq H2 35 u) λF=>
 gQ c true (kb 35 26 28 G F) λn=>
 bD c n λf=>
 gQ f true (ao 38 i 4) λO=>
 gQ f true (aq H2 33 O) λB=>
 gQ f true (ao 38 h 4) λE=>
 gQ f true (aq H2 33 E) λp=>
 gQ f true (kb 33 33 35 B p) λC=>
 bD f C λb=>
 gQ b true (ao 38 i 5) λK=>
 gQ b true (aq H2 29 K) λv=>
 gQ b true (ao 38 h 5) λt=>
 gQ b true (aq H2 29 t) λL=>
 gQ b true (kb 29 40 42 v L) λP=>
 bD b P λd=>
 gQ d true (ao 38 i 6) λA=>
 gQ d true (aq H2 36 A) λq=>
 gQ d true (ao 38 h 6) λM=>
 gQ d true (aq H2 36 M) λD=>
 gW d true H2 (fm true H2 50 133 [q,D]) λw R=>
 bD d w λl=>
 Q l R
theorem qT(h : ∀g:ed,cK x0 x1 H Q):dP Tryz.f62 0 [(0,x0),(1,x1)] H Q:=iP (by kernel_rfl) h
def kY:Prop:=
 bF H 1 38 x0 λf h=>
 ae 38 f 0 λN=>
 ad h 5 N λU=>
 jU (bP env.P .eql 5 (Operand.tmp 4) (.const (.int .u8 0)) (some U) (some (a8 0))) λk=>
 gQ k false (ao 38 f 0) λS=>
 gQ k false (aq h 5 S) λR=>
 gQ k false (bP env.P .geq 5 (Operand.tmp 8) (.const (.int .u8 4)) (some R) (some (a8 4))) λO=>
 eg k O λi=>
 gQ i false (ao 38 f 1) λT=>
 gQ i false (aq h 31 T) λl=>
 gW i false h (fm false h 14 91 [l]) λw H2=>
 gQ i false (Gs 42 14 0 w) λy=>
 eg i y λe=>
 gQ e false (ao 38 f 2) λE=>
 gQ e false (aq H2 3 E) λn=>
 gQ e false (CX 3 19 1 n) λJ=>
 eg e J λd=>
 gQ d false (ao 38 f 2) λF=>
 gQ d false (aq H2 3 F) λD=>
 gQ d false (wD 3 24 16777216 D) λx=>
 eg d x λc=>
 gQ c false (ao 38 f 3) λt=>
 gQ c false (aq H2 35 t) λC=>
 gW c false H2 (fm false H2 30 135 [C]) λo L=>
 gQ c false (Gs 42 30 0 o) λK=>
 eg c K λb=>
 gW b false L (fm false L 34 136 []) λz j=>
 gQ b false (ao 38 f 0) λB=>
 gQ b false (aq j 5 B) λp=>
 gQ b false (r8 env.P 204 (some z) (some p)) λA=>
 gQ b false (CU 203 A 0) λm=>
 gQ b false (aq j 38 f) λG=>
 gW b false j (bB env true (ax env) (cb env 0) j (Ref.mk 0 40 (aa.gen j 0 40) 0) (some m) [G]) λu M=>
 gQ b false (sY u) λq=>
 eg b q λI=>
 br (some I) (
 Q (.v (.int .i64 8)) M) (
 Q (.v (.int .i64 0)) M)
theorem Md(h : ∀g:ed,kY x0 H Q):dP Tryz.f70 0 [(0,x0)] H Q:=iP (by kernel_rfl) h
def CP:Prop:=
 bF H 1 38 x0 λc k=>
 fM k 2 38 λf H2=>
 ae 38 c 6 λh=>
 ad H2 36 h λl=>
 bw true H2 5 173 [l] λn j=>
 ae 38 c 6 λm=>
 aV j 36 m n λo d=>
 ad d 38 c λi=>
 aV d 38 f i λp e=>
 jZ e f 38 λb=>
 Q b e
theorem Hh(h : ∀g:ed,CP x0 H Q):dP Tryz.f108 0 [(0,x0)] H Q:=iP (by kernel_rfl) h
def FY:Prop:=
 bF H 1 38 x0 λh b=>
 ae 38 h 6 λc=>
 ad b 36 c λf=>
 bw true b 5 176 [f,(.v (.int .i32 (-1)))] λd H2=>
 kz d λe=>
 Q e H2
theorem Mc(h : ∀g:ed,FY x0 H Q):dP Tryz.f121 0 [(0,x0)] H Q:=iP (by kernel_rfl) h
def vl:Prop:=
 bF H 1 38 x0 λe H1=>
 ad H1 38 e λv2=>
 bw true H1 16 70 [v2] λv3 H2=>
 mG 42 17 0 v3 λv4=>
 br (some v4) (
 Q (.tup [(.v (.slice none 0 0)),v3]) H2) (
 ae 38 e 1 λv5=>
 ad H2 31 v5 λv6=>
 bw true H2 23 162 [v6] λv7 H3=>
 bn v7 0 λv8=>
 bn v7 1 λv9=>
 ae 38 e 3 λB=>
 ae 35 B 0 λG=>
 ad H3 33 G λv12=>
 bw true H3 30 208 [v12] λA H4=>
 bn A 0 λM=>
 bn A 1 λv15=>
 ae 38 e 0 λU=>
 ad H4 5 U λD=>
 rN H4 35 170 1 0 D λv18 m=>
 ae 38 e 2 λv19=>
 ad m 3 v19 λI=>
 ZK 3 38 I λv21=>
 qN m 40 3 5 v21 λE=>
 ae 38 e 2 λL=>
 ad m 3 L λC=>
 T9 3 42 C λv25=>
 qN m 44 3 5 v25 λv26=>
 ae 38 e 2 λv27=>
 ad m 3 v27 λK=>
 qN m 47 3 5 K λX=>
 lE (qb env.P false true m (Ref.mk 0 48 (aa.gen m 0 48) 0) 170 3 (some [(0,E),(1,v26),(2,X)])) λJ H6=>
 ae 38 e 3 λV=>
 ae 35 V 1 λN=>
 ad H6 3 N λF=>
 qN H6 53 3 5 F λZ=>
 rN H6 54 170 1 0 Z λR H7=>
 lE (qb env.P false true H7 (Ref.mk 0 55 (aa.gen H7 0 55) 0) 279 5 (some [(0,v18),(1,v8),(2,J),(3,M),(4,R)])) λv36 H8=>
 bw true H8 56 209 [v36] λk t=>
 ae 38 e 0 λv38=>
 ad t 5 v38 λy=>
 xY 5 58 y λS=>
 br (some S) (
 lE (mE t (Ref.mk 0 61 (aa.gen t 0 61) 0) (FE env.P (Ref.mk 0 61 (aa.gen t 0 61) 0) 170 (some (AV.v (Value.int IntKind.i64 13))) (some (AV.v (Value.int IntKind.i64 13))))) λq b=>
 ae 38 e 4 λp=>
 ad b 33 p λx=>
 rK 33 λo=>
 Ac 33 63 64 x o λi=>
 br (some i) (
 ae 38 e 4 λh=>
 ad b 33 h λj=>
 bw true b 69 208 [j] λd c=>
 bn d 0 λf=>
 bn d 1 λT=>
 ae 38 e 6 λu=>
 ad c 36 u λn=>
 bw true c 75 210 [n] λz l=>
 bn z 0 λv54=>
 bn z 1 λv55=>
 lE (qb env.P false true l (Ref.mk 0 81 (aa.gen l 0 81) 0) 279 3 (some [(0,k),(1,f),(2,v54)])) λW w=>
 bw true w 82 209 [W] λO Y=>
 Q (.tup [O,(.v (.int .i64 0))]) Y) (
 ae 38 e 6 λh=>
 ad b 36 h λj=>
 bw true b 75 210 [j] λd c=>
 bn d 0 λf=>
 bn d 1 λT=>
 lE (qb env.P false true c (Ref.mk 0 81 (aa.gen c 0 81) 0) 279 3 (some [(0,k),(1,q),(2,f)])) λu l=>
 bw true l 82 209 [u] λn w=>
 Q (.tup [n,(.v (.int .i64 0))]) w)) (
 CW 5 58 y λq=>
 br (some q) (
 ae 38 e 5 λp=>
 ad t 29 p λx=>
 Fj 31 0 x λo=>
 bw true t 89 162 [o] λi b=>
 bn i 0 λh=>
 bn i 1 λj=>
 jU (iT env.P (aa.get b) 170 (some h) (some none) (oi (.v (.int .i64 5))) (some none)) λd=>
 mv b 95 170 170 k d λf c=>
 Q (.tup [f,(.v (.int .i64 0))]) c) (
 Q (.tup [k,(.v (.int .i64 0))]) t)))
theorem BA(h : ∀g:ed,vl x0 H Q):dP Tryz.f163 0 [(0,x0)] H Q:=iP (by kernel_rfl) h
def xR:Prop:=
 bF H 1 38 x0 λe c=>
 ae 38 e 4 λk=>
 ad c 33 k λf=>
 rK 33 λl=>
 rM 33 4 5 f l λb=>
 gQ b true (ao 38 e 6) λj=>
 gQ b true (aq c 36 j) λm=>
 gQ b true (xW c 10 36 m) λi=>
 gQ b true (rO 3 10 0 i) λh=>
 bD b h λd=>
 Q d c
theorem Jl(h : ∀g:ed,xR x0 H Q):dP Tryz.f183 0 [(0,x0)] H Q:=iP (by kernel_rfl) h
def Ct:Prop:=
 bF H 1 38 x0 λh b=>
 ae 38 h 5 λc=>
 ad b 29 c λf=>
 bw false b 5 185 [] λd H2=>
 rM 29 4 5 f d λe=>
 Q e H2
theorem Jk(h : ∀g:ed,Ct x0 H Q):dP Tryz.f184 0 [(0,x0)] H Q:=iP (by kernel_rfl) h
def jL:Prop:=
 bF H 2 38 x0 λf j=>
 ae 38 f 4 λK=>
 ad j 33 K λS=>
 rK 33 λR=>
 rM 33 6 7 S R λh=>
 gQ h false (ao 38 f 4) λN=>
 gQ h false (aq j 33 N) λL=>
 gW h false j (fm true j 12 182 [L]) λM H2=>
 gQ h false (rO 42 12 0 M) λP=>
 eg h P λk=>
 ad H2 137 x1 λt=>
 ad H2 38 f λv=>
 LX H2 17 t v λi e=>
 gQ i true (aU k) λB=>
 bD i B λb=>
 gQ b true (ao 38 f 3) λF=>
 gQ b true (ao 35 F 0) λm=>
 gQ b true (ao 33 m 0) λC=>
 gQ b true (aq e 31 C) λz=>
 gQ b true (ao 38 f 1) λu=>
 gQ b true (aq e 31 u) λA=>
 gQ b true (kb 31 25 27 z A) λp=>
 bD b p λc=>
 gQ c true (ao 38 f 6) λl=>
 gQ c true (aq e 36 l) λI=>
 gQ c true (xW e 33 36 I) λG=>
 gQ c true (ao 38 f 3) λw=>
 gQ c true (ao 35 w 1) λy=>
 gQ c true (aq e 3 y) λn=>
 gQ c true (kb 3 33 36 G n) λx=>
 bD c x λd=>
 gQ d true (ao 38 f 6) λD=>
 gQ d true (aq e 36 D) λq=>
 gW d true e (fm true e 42 187 [q]) λo O=>
 gQ d true (rO 42 42 0 o) λE=>
 bD d E λJ=>
 Q J O
theorem Jj(h : ∀g:ed,jL x0 x1 H Q):dP Tryz.f186 0 [(0,x0),(1,x1)] H Q:=iP (by kernel_rfl) h
def Cs:Prop:=
 bF H 3 38 x0 λd c=>
 ad c 137 x1 λj=>
 ad c 38 d λf=>
 LX c 7 j f λb H2=>
 gQ b true (aq H2 137 a) λl=>
 gQ b true (aq H2 38 d) λk=>
 gW b true H2 (bB env true (ax env) (cb env 0) H2 (Ref.mk 0 11 (aa.gen H2 0 11) 0) (some l) [k]) λe i=>
 bD b e λh=>
 Q h i
theorem Ji(h : ∀g:ed,Cs x0 x1 a H Q):dP Tryz.f189 0 [(0,x0),(1,x1),(2,a)] H Q:=iP (by kernel_rfl) h
def Cr:Prop:=
 bF H 2 38 x0 λd c=>
 ad c 137 x1 λk=>
 ad c 38 d λf=>
 LX c 6 k f λb H2=>
 gQ b true (ao 38 d 5) λm=>
 gQ b true (aq H2 29 m) λl=>
 gW b true H2 (fm true H2 10 76 [l]) λe j=>
 gQ b true (rO 42 10 0 e) λi=>
 bD b i λh=>
 Q h j
theorem Jh(h : ∀g:ed,Cr x0 x1 H Q):dP Tryz.f191 0 [(0,x0),(1,x1)] H Q:=iP (by kernel_rfl) h
def o8:Prop:=
 bF H 2 38 x0 λv1 Z=>
 bF Z 3 38 x1 λX H2=>
 ad H2 38 v1 λv3=>
 ad H2 38 X λv4=>
 fM H2 5 38 λj Y=>
 fM Y 6 38 λk H4=>
 aV H4 38 j v3 λv7 H5=>
 aV H5 38 k v4 λv8 b=>
  iB [(X,j)] [j,k] [] b /\
 (ae 38 j 0 λv9=>
 ad b 5 v9 λm=>
 ae 38 k 0 λC=>
 ad b 5 C λE=>
 rM 5 10 12 m E λh=>
 gQ h true (ao 38 j 1) λO=>
 gQ h true (aq b 31 O) λo=>
 gQ h true (ao 38 k 1) λU=>
 gQ h true (aq b 31 U) λq=>
 gQ h true (kb 31 16 18 o q) λP=>
 bD h P λe=>
 gQ e true (ao 38 j 2) λD=>
 gQ e true (aq b 3 D) λM=>
 gQ e true (ao 38 k 2) λz=>
 gQ e true (aq b 3 z) λL=>
 gQ e true (kb 3 23 25 M L) λp=>
 bD e p λi=>
 gQ i true (ao 38 j 3) λV=>
 gQ i true (aq b 35 V) λG=>
 gQ i true (ao 38 k 3) λK=>
 gQ i true (aq b 35 K) λu=>
 gQ i true (kb 35 30 32 G u) λI=>
 bD i I λc=>
 gQ c true (ao 38 j 4) λR=>
 gQ c true (aq b 33 R) λA=>
 gQ c true (ao 38 k 4) λx=>
 gQ c true (aq b 33 x) λS=>
 gQ c true (kb 33 37 39 A S) λW=>
 bD c W λf=>
 gQ f true (ao 38 j 5) λF=>
 gQ f true (aq b 29 F) λv=>
 gQ f true (ao 38 k 5) λT=>
 gQ f true (aq b 29 T) λJ=>
 gQ f true (kb 29 44 46 v J) λB=>
 bD f B λd=>
 gQ d true (ao 38 j 6) λy=>
 gQ d true (aq b 36 y) λl=>
 gQ d true (ao 38 k 6) λw=>
 gQ d true (aq b 36 w) λN=>
 gW d true b (fm true b 54 226 [l,N]) λt H7=>
 bD d t λn=>
 Q n H7)
theorem Pa(h : ∀g:ed,o8 x0 x1 H Q):dP Tryz.f211 0 [(0,x0),(1,x1)] H Q:=iP (by kernel_rfl) h
end
section
variable(dep:Nat)(g:Nat->AV)(x0 x1 b a:AV)(H:aa)(Q:AV->aa->Prop)
def cw:Prop:=
 bF H 1 173 x0 λd H1=>
 ae 173 d 0 λv2=>
 ae 62 v2 0 λv3=>
 ad H1 5 v3 λv4=>
 Fj 62 0 v4 λv5=>
 fM H1 4 62 λT H2=>
 aV H2 62 T v5 λv7 E=>
 ae 173 d 0 λv8=>
 ae 62 v8 0 λv9=>
 ad E 5 v9 λW=>
 xY 5 12 W λv11=>
 br (some v11) (
 ae 173 d 0 λv12=>
 ae 62 v12 2 λR=>
 ae 38 R 1 λp=>
 ad E 31 p λu=>
 ae 173 d 0 λt=>
 ae 62 t 1 λf=>
 ad E 3 f λC=>
 ae 62 T 2 λj=>
 ae 38 j 1 λl=>
 aV E 31 l u λe U=>
 ae 62 T 1 λk=>
 aV U 3 k C λA q=>
  iB [(f,l)] [l,k] [] q /\
 (ae 173 d 0 λn=>
 ae 62 n 2 λx=>
 ae 38 x 1 λm=>
 ad q 31 m λO=>
 bw true q 30 162 [O] λz D=>
 bn z 0 λN=>
 bn z 1 λK=>
 ae 173 d 0 λM=>
 ae 62 M 1 λc=>
 ad D 3 c λI=>
 wF 3 35 0 I λi=>
 gQ i true (ao 173 d 0) λL=>
 gQ i true (ao 62 L 1) λS=>
 gQ i true (aq D 3 S) λh=>
 gQ i true (Ae 3 40 255 h) λv38=>
 bD i v38 λG=>
 ae 173 d 0 λv40=>
 ae 62 v40 1 λv41=>
 ad D 3 v41 λJ=>
 qN D 47 3 5 J λv43=>
 rN D 48 170 1 0 v43 λZ o=>
 mv o 49 170 170 N Z λV H8=>
 ae 173 d 0 λv46=>
 ae 62 v46 0 λv47=>
 ad H8 5 v47 λv48=>
 rN H8 111 170 1 0 v48 λX H9=>
 mv H9 113 170 170 X V λv50 B=>
 gQ G true (aU K) λv51=>
 gQ G true (rO 42 116 0 v51) λY=>
 bD G Y λw=>
 gQ w true (ao 173 d 0) λv54=>
 gQ w true (aq B 62 v54) λv55=>
 gQ w true (aq B 62 T) λv56=>
 gW w true B (fm true B 123 165 [v55,v56]) λv57 y=>
 bD w v57 λv58=>
 Q (.tup [v50,v58]) y)) (
 xX 5 12 W λv12=>
 br (some v12) (
 ae 173 d 0 λR=>
 ae 62 R 2 λp=>
 ad E 38 p λu=>
 ae 173 d 0 λt=>
 ae 62 t 3 λf=>
 ad E 42 f λC=>
 ae 62 T 2 λj=>
 aV E 38 j u λl U=>
 ae 62 T 3 λe=>
 aV U 42 e C λk q=>
  iB [(f,j)] [j,e] [] q /\
 (ae 173 d 0 λA=>
 ae 62 A 2 λn=>
 ad q 38 n λx=>
 bw true q 64 163 [x] λm D=>
 bn m 0 λO=>
 bn m 1 λz=>
 ae 173 d 0 λN=>
 ae 62 N 2 λK=>
 ad D 38 K λM=>
 bw true D 70 121 [M] λc o=>
 gQ c true (ao 173 d 0) λI=>
 gQ c true (ao 62 I 3) λi=>
 gQ c true (aq o 42 i) λL=>
 gQ c true (wD 42 74 0 L) λS=>
 bD c S λh=>
 gQ h true (ao 173 d 0) λv38=>
 gQ h true (ao 62 v38 3) λG=>
 gQ h true (aq o 42 G) λv40=>
 gQ h true (CX 42 80 65536 v40) λv41=>
 bD h v41 λJ=>
 ae 173 d 0 λv43=>
 ae 62 v43 3 λZ=>
 ad o 42 Z λV=>
 T9 42 85 V λv46=>
 qN o 87 42 5 v46 λv47=>
 ae 173 d 0 λv48=>
 ae 62 v48 3 λX=>
 ad o 42 X λv50=>
 qN o 91 42 5 v50 λv51=>
 lE (qb env.P false true o (Ref.mk 0 92 (aa.gen o 0 92) 0) 170 2 (some [(0,v47),(1,v51)])) λY H8=>
 mv H8 94 170 170 Y O λw H9=>
 ae 173 d 0 λv54=>
 ae 62 v54 0 λv55=>
 ad H9 5 v55 λv56=>
 rN H9 111 170 1 0 v56 λv57 B=>
 mv B 113 170 170 v57 w λv58 y=>
 gQ J true (aU z) λv59=>
 gQ J true (rO 42 116 0 v59) λv60=>
 bD J v60 λF=>
 gQ F true (ao 173 d 0) λv62=>
 gQ F true (aq y 62 v62) λv63=>
 gQ F true (aq y 62 T) λv64=>
 gW F true y (fm true y 123 165 [v63,v64]) λv65 H12=>
 bD F v65 λv66=>
 Q (.tup [v58,v66]) H12)) (
 CW 5 12 W λR=>
 br (some R) (
 ae 173 d 0 λp=>
 ae 62 p 4 λu=>
 ad E 60 u λt=>
 ae 62 T 4 λf=>
 aV E 60 f t λC U=>
 ae 173 d 0 λj=>
 ae 62 j 4 λl=>
 ad U 60 l λe=>
 bw true U 105 164 [e] λk q=>
 bn k 0 λA=>
 bn k 1 λn=>
 ae 173 d 0 λx=>
 ae 62 x 0 λm=>
 ad q 5 m λO=>
 rN q 111 170 1 0 O λz D=>
 mv D 113 170 170 z A λN o=>
 gQ (.v (.bool true)) true (aU n) λK=>
 gQ (.v (.bool true)) true (rO 42 116 0 K) λM=>
 jU (Ba (some (AV.v (Value.bool true))) (some M) (some (AV.v (Value.bool false)))) λc=>
 gQ c true (ao 173 d 0) λI=>
 gQ c true (aq o 62 I) λi=>
 gQ c true (aq o 62 T) λL=>
 gW c true o (fm true o 123 165 [i,L]) λS H8=>
 bD c S λh=>
 Q (.tup [N,h]) H8) (
 ae 173 d 0 λp=>
 ae 62 p 0 λu=>
 ad E 5 u λt=>
 rN E 111 170 1 0 t λf U=>
 lE (ga env.P true U (Ref.mk 0 113 (aa.gen U 0 113) 0) (some 170) (some 170) f (.v (.slice none 0 0))) λC q=>
 gQ (.v (.bool false)) true (kC (some (AV.v (Value.int IntKind.i64 0)))) λj=>
 gQ (.v (.bool false)) true (rO 42 116 0 j) λl=>
 jU (Ba (some (AV.v (Value.bool false))) (some l) (some (AV.v (Value.bool false)))) λe=>
 gQ e true (ao 173 d 0) λk=>
 gQ e true (aq q 62 k) λA=>
 gQ e true (aq q 62 T) λn=>
 gW e true q (fm true q 123 165 [A,n]) λx D=>
 bD e x λm=>
 Q (.tup [C,m]) D)))
theorem rC(h : ∀g:ed,cw x0 H Q):dP Tryz.f101 0 [(0,x0)] H Q:=iP (by kernel_rfl) h
def dD:=sV Tryz.f209 3
def dt:=sV Tryz.f209 11
def jR:Nat->Option (List Nat):=λi=>cond (Nat.beq i 3) (some [11,3,9,0,10]) (cond (Nat.beq i 11) (some [27,6,25,26]) (none))
def nr:Prop:=
 eL H 10 279 x0 λc=>
  bu env Tryz.f209 0 dD [(11,(.v (.int .i64 0))),(3,(.v (.int .i64 0))),(9,x0),(0,x0),(10,c)] H Q
theorem ud(h : ∀g:ed,nr x0 H Q):dP Tryz.f209 0 [(0,x0)] H Q:=vf jR (by kernel_rfl) h
def iV(g:Nat->AV)(c a x9 x0 d:AV)(H:aa)(Q:AV->aa->Prop):Prop:=
 dc 3 11 10 c d λl=>
 br (some l) (
 bz H 279 x9 c λe=>
 ad H 170 e λh=>
 eL H 17 170 h λm=>
 qM 3 15 17 a m λf=>
 Gu 3 19 0 f λn=>
 br (some n) (
 jU (tG env.P 9 (some (.v (.string ⟨#[108,101,110,32,111,117,116,32,111,102,32,114,97,110,103,101]⟩)))) λj=>
 jU (none) λo=>
 ef 3 11 1 c λk=>
  bu env Tryz.f209 0 dD [(11,k),(3,f),(9,x9),(0,x0),(10,d)] H Q) (
 ef 3 11 1 c λj=>
  bu env Tryz.f209 0 dD [(11,j),(3,f),(9,x9),(0,x0),(10,d)] H Q)) (
 bw true H 24 225 [(.v (.slice none 0 0)),a] λe i=>
 eL i 26 279 x0 λh=>
  bu env Tryz.f209 0 dt [(27,(.v (.int .i64 0))),(6,e),(25,x0),(26,h)] i Q)
theorem my(c a x9 x0 d:AV)(H:aa)(Q:AV->aa->Prop)(h : ∀g,iV g c a x9 x0 d H Q):bu env Tryz.f209 0 dD [(11,c),(3,a),(9,x9),(0,x0),(10,d)] H Q:=sU jR (by kernel_rfl) h
def eV(g:Nat->AV)(c f d e:AV)(H:aa)(Q:AV->aa->Prop):Prop:=
 dc 3 27 26 c e λj=>
 br (some j) (
 bz H 279 d c λh=>
 ad H 170 h λm=>
 mv H 33 170 170 f m λk i=>
 ef 3 27 1 c λl=>
  bu env Tryz.f209 0 dt [(27,l),(6,k),(25,d),(26,e)] i Q) (
 Q f H)
theorem lP(c f d e:AV)(H:aa)(Q:AV->aa->Prop)(h : ∀g,eV g c f d e H Q):bu env Tryz.f209 0 dt [(27,c),(6,f),(25,d),(26,e)] H Q:=sU jR (by kernel_rfl) h
def ox:Prop:=
 Gu 3 5 0 x1 λq=>
 br (some q) (
 jU (tG env.P 9 (some (.v (.string ⟨#[99,97,110,110,111,116,32,98,101,32,110,101,103,97,116,105,118,101]⟩)))) λp=>
 jU (none) λo=>
 QJ H 10 170 x0 λl=>
 eL H 12 170 x0 λh=>
 LV 3 10 12 l h λk=>
 LV 3 8 13 x1 k λf=>
 CY 3 15 0 f λn=>
 br (some n) (
 QJ H 19 170 x0 λj=>
 Gq H 170 x0 j λd=>
 mv H 22 170 3 d f λc e=>
 eL e 24 170 x0 λi=>
 Gq e 170 c i λm=>
 Q m e) (
 Q x0 H)) (
 QJ H 10 170 x0 λp=>
 eL H 12 170 x0 λo=>
 LV 3 10 12 p o λl=>
 LV 3 8 13 x1 l λh=>
 CY 3 15 0 h λk=>
 br (some k) (
 QJ H 19 170 x0 λf=>
 Gq H 170 x0 f λn=>
 mv H 22 170 3 n h λj e=>
 eL e 24 170 x0 λd=>
 Gq e 170 j d λc=>
 Q c e) (
 Q x0 H))
theorem uY(h : ∀g:ed,ox x0 x1 H Q):dP Tryz.f225 0 [(0,x0),(1,x1)] H Q:=iP (by kernel_rfl) h
def tY:Prop:=
 bF H 3 38 x1 λf l=>
 bw true l 9 243 [x0] λd H2=>
 mG 42 10 0 d λi=>
 br (some i) (
 Q (.tup [(.v (.bool false)),d]) H2) (
 ad H2 38 f λm=>
 bw true H2 14 70 [m] λe c=>
 mG 42 15 0 e λn=>
 br (some n) (
 Q (.tup [(.v (.bool false)),e]) c) (
 ad c 38 f λh=>
 bw true c 20 244 [x0,h] λk j=>
 Q (.tup [k,(.v (.int .i64 0))]) j))
theorem Jo(h : ∀g:ed,tY x0 x1 H Q):dP Tryz.f235 0 [(0,x0),(1,x1)] H Q:=iP (by kernel_rfl) h
def pg:=sV Tryz.f243 4
def Bh:Nat->Option (List Nat):=λi=>cond (Nat.beq i 4) (some [10,0,8,9]) (none)
def wj:Prop:=
 eL H 6 41 x0 λe=>
 CY 3 6 2048 e λc=>
 br (some c) (
 Q (.v (.int .i64 4)) H) (
 eL H 9 41 x0 λd=>
  bu env Tryz.f243 0 pg [(10,(.v (.int .i64 0))),(0,x0),(8,x0),(9,d)] H Q)
theorem Hl(h : ∀g:ed,wj x0 H Q):dP Tryz.f243 0 [(0,x0)] H Q:=vf Bh (by kernel_rfl) h
def m4(g:Nat->AV)(c x0 o x9:AV)(H:aa)(Q:AV->aa->Prop):Prop:=
 dc 3 10 9 c x9 λx=>
 br (some x) (
 bz H 41 o c λt=>
 ad H 38 t λz=>
 fM H 4 38 λm u=>
 aV u 38 m z λA H2=>
 ad H2 38 m λy=>
 bw false H2 16 70 [y] λw e=>
 mG 42 16 0 w λd=>
 gQ d false (aU x0) λq=>
 gQ d false (aU c) λj=>
 gQ d false (iT env.P (aa.get e) 41 (some q) (some none) (oi j) (some none)) λf=>
 gQ d false (aq e 38 m) λh=>
 gW d false e (fm false e 23 244 [f,h]) λn p=>
 gQ d false (sY n) λl=>
 eg d l λk=>
 br (some k) (
 Q (.v (.int .i64 8)) p) (
 ef 3 10 1 c λi=>
  bu env Tryz.f243 0 pg [(10,i),(0,x0),(8,o),(9,x9)] p Q)) (
 Q (.v (.int .i64 0)) H)
theorem yh(c x0 d x9:AV)(H:aa)(Q:AV->aa->Prop)(h : ∀g,m4 g c x0 d x9 H Q):bu env Tryz.f243 0 pg [(10,c),(0,x0),(8,d),(9,x9)] H Q:=sU Bh (by kernel_rfl) h
def qy:=sV Tryz.f244 5
def Ci:Nat->Option (List Nat):=λi=>cond (Nat.beq i 5) (some [21,3,0,5,20]) (none)
def xT:Prop:=
 bF H 3 38 x1 λd c=>
 ae 38 d 0 λn=>
 ad c 5 n λj=>
 jU (bP env.P .neq 5 (Operand.tmp 10) (.const (.int .u8 3)) (some j) (some (a8 3))) λo=>
 br (some o) (
 Q (.v (.bool true)) c) (
 ae 38 d 1 λq=>
 ae 31 q 0 λm=>
 ad c 29 m λp=>
 ae 38 d 5 λl=>
 ad c 29 l λk=>
 bw true c 17 47 [p,k] λh H2=>
 ae 38 d 3 λe=>
 ae 35 e 1 λf=>
 ad H2 3 f λi=>
  bu env Tryz.f244 0 qy [(21,(.v (.int .i64 0))),(3,d),(0,x0),(5,h),(20,i)] H2 Q)
theorem Jn(h : ∀g:ed,xT x0 x1 H Q):dP Tryz.f244 0 [(0,x0),(1,x1)] H Q:=vf Ci (by kernel_rfl) h
def nR(g:Nat->AV)(d a x0 c f:AV)(H:aa)(Q:AV->aa->Prop):Prop:=
 dc 3 21 20 d f λD=>
 br (some D) (
 ae 38 a 3 λz=>
 ad H 35 z λE=>
 bw true H 28 228 [E,d] λy A=>
 bn y 0 λB=>
 bn y 1 λG=>
 fM A 7 33 λw H2=>
 aV H2 33 w B λF h=>
 gQ c true (aU x0) λC=>
 gQ c true (aq h 33 w) λi=>
 gQ c true (ao 38 a 1) λm=>
 gQ c true (ao 31 m 0) λo=>
 gQ c true (aq h 29 o) λu=>
 gW c true h (fm false h 38 247 [C,i,u]) λq l=>
 gQ c true (ao 38 a 1) λj=>
 gQ c true (ao 31 j 0) λv=>
 gQ c true (aq l 29 v) λk=>
 gW c true l (fm false l 42 246 [q,k]) λt x=>
 bD c t λe=>
 kz e λn=>
 br (some n) (
 Q e x) (
 ef 3 21 1 d λp=>
  bu env Tryz.f244 0 qy [(21,p),(3,a),(0,x0),(5,e),(20,f)] x Q)) (
 Q c H)
theorem Al(d a x0 e c:AV)(H:aa)(Q:AV->aa->Prop)(h : ∀g,nR g d a x0 e c H Q):bu env Tryz.f244 0 qy [(21,d),(3,a),(0,x0),(5,e),(20,c)] H Q:=sU Ci (by kernel_rfl) h
def df:Prop:=
 bF H 3 29 x1 λh c=>
 ad c 29 h λd=>
 bw true c 7 248 [x0,d] λf H2=>
 wF 3 7 0 f λe=>
 Q e H2
theorem ic(h : ∀g:ed,df x0 x1 H Q):dP Tryz.f246 0 [(0,x0),(1,x1)] H Q:=iP (by kernel_rfl) h
def JG:Code:=(Tryz.f247.body).getD .skip
def kB:List Item:=(mT 10003 400 [.code JG]).getD []
def dN:Code:=rfA kB
def dM:Code:=rfB kB
def uU:List Item:=rfK kB
def xL:Nat->Option (List Nat):=λi=>cond (Nat.beq i 10003) (some [16,7]) (none)
def Cl:Nat->Bool:=λi=>false
def Cu:Prop:=
 bF H 4 33 x1 λh l=>
 bF l 5 29 b λk H2=>
 ae 33 h 0 λq=>
 ae 31 q 0 λn=>
 ad H2 29 n λo=>
 rN H2 12 277 1 0 o λp j=>
 fM j 7 277 λf t=>
 aV t 277 f p λu e=>
 ad e 33 h λi=>
 ad e 29 k λd=>
 bw true e 16 249 [x0,i,d] λc m=>
  bu env Tryz.f247 0 kB [(16,c),(7,f)] m Q
theorem Jm(h : ∀g:ed,Cu x0 x1 b H Q):dP Tryz.f247 0 [(0,x0),(1,x1),(2,b)] H Q:=vf xL (by kernel_rfl) h
def uD(g:Nat->AV)(d:AV)(H:aa)(Q:AV->aa->Prop):Prop:=
 ad H 277 d λc=>
 Q c H
theorem A0(c:AV)(H:aa)(Q:AV->aa->Prop)(h : ∀g,uD g c H Q):bu env Tryz.f247 0 uU [(7,c)] H Q:=⟨λg=>LZ (live:=xL) (cut:=Cl) (n:=500) (Eq.mp (by kernel_rfl) (h g))⟩
def kI(r:Ref)(g:Nat->AV)(i j:AV)(H:aa)(Q:AV->aa->Prop):Prop:=
 lE (mE H (⟨2,8,aa.gen H 2 8,0⟩:Ref) (xJ env.P (⟨2,8,aa.gen H 2 8,0⟩:Ref) 29)) λh n=>
 aV n 29 h j λy H2=>
  bgP (zM H2 r) λd=>
 jU (uh env.P (aa.get (aa.put H2 r (some (k7 1 d)))) 277 (some i)) λu=>
 jU (uh env.P (aa.get (aa.put H2 r (some (k7 1 d)))) 29 (some h)) λx=>
 lE (bB env true (ax env) (cb env 2) (aa.put H2 r (some (k7 1 d))) (⟨2,20,aa.gen (aa.put H2 r (some (k7 1 d))) 2 20,0⟩:Ref) (some (.fn (.func 246) [] [])) [u,x]) λw c=>
 kz w λp=>
 br (some p) (
 ad c 277 i λq=>
 ad c 29 h λm=>
 lE (qb env.P false true c (⟨2,24,aa.gen c 2 24,0⟩:Ref) 277 1 (some [(0,m)])) λf k=>
 lE (ga env.P true k (⟨2,25,aa.gen k 2 25,0⟩:Ref) (some 277) (some 277) q f) λe t=>
 aV t 277 i e λl o=>
 Q (.v (.int .i64 0)) o) (
 Q (.v (.int .i64 0)) c)
theorem BY(r:Ref)(d c:AV)(H:aa)(Q:AV->aa->Prop)(h : ∀g,kI r g d c H Q):ZI env Tryz.f247 (some r) 2 [.code dN,.beginRound,.code dM] [(7,d),(17,c)] H Q:=⟨λg=>LZ (live:=xL) (cut:=Cl) (n:=500) (Eq.mp (by kernel_rfl) (h g))⟩
def bj:=sV Tryz.f248 2
def dC:Nat->Option (List Nat):=λi=>cond (Nat.beq i 2) (some [8,0,3,7]) (none)
def dE:Prop:=
 bF H 3 29 x1 λe c=>
 eL c 7 277 x0 λd=>
  bu env Tryz.f248 0 bj [(8,(.v (.int .i64 0))),(0,x0),(3,e),(7,d)] c Q
theorem iS(h : ∀g:ed,dE x0 x1 H Q):dP Tryz.f248 0 [(0,x0),(1,x1)] H Q:=vf dC (by kernel_rfl) h
def bm(g:Nat->AV)(c x0 a d:AV)(H:aa)(Q:AV->aa->Prop):Prop:=
 dc 3 8 7 c d λf=>
 br (some f) (
 ad H 29 a λe=>
 bz H 277 x0 c λk=>
 ad H 29 k λh=>
 rM 29 11 15 e h λi=>
 br (some i) (
 Q c H) (
 ef 3 8 1 c λj=>
  bu env Tryz.f248 0 bj [(8,j),(0,x0),(3,a),(7,d)] H Q)) (
 Q (.v (.int .i64 (-1))) H)
theorem dn(c x0 a d:AV)(H:aa)(Q:AV->aa->Prop)(h : ∀g,bm g c x0 a d H Q):bu env Tryz.f248 0 bj [(8,c),(0,x0),(3,a),(7,d)] H Q:=sU dC (by kernel_rfl) h
def Ay:Prop:=
 bF H 3 41 x0 λi e=>
 bF e 4 33 x1 λd H2=>
 bF H2 5 29 b λh c=>
 jU (wU (.func 250) (some []) (some [i,d,h])) λf=>
 Q f c
theorem F6(h : ∀g:ed,Ay x0 x1 b H Q):dP Tryz.f249 0 [(0,x0),(1,x1),(2,b)] H Q:=iP (by kernel_rfl) h
def Eb:Code:=(Tryz.f250.body).getD .skip
def mF:=sV Tryz.f250 1
def wW:Nat->Option (List Nat):=λi=>cond (Nat.beq i 1) (some [11,0,3,2,9,10]) (none)
def xm:Prop:=
 ad H 41 x1 λc=>
 Gr H dep 10 41 c λd=>
  bu env Tryz.f250 (dep+1) mF [(11,(.v (.int .i64 0))),(0,x0),(3,a),(2,b),(9,c),(10,d)] H Q
theorem Di(h : ∀g:ed,xm dep x0 x1 b a H Q):dP Tryz.f250 (dep+1) [(0,x0),(1,x1),(2,b),(3,a)] H Q:=vf wW (by kernel_rfl) h
def iK(dep:Nat)(g:Nat->AV)(e x0 a b x9 f:AV)(H:aa)(Q:AV->aa->Prop):Prop:=
 dc 3 11 10 e f λN=>
 br (some N) (
 bz H 41 x9 e λI=>
 ad H 38 I λO=>
 wE H dep 6 38 λj J=>
 aV J 38 j O λP H2=>
 ae 38 j 3 λM=>
 ad H2 35 M λK=>
 ad H2 33 b λL=>
 lE (bB env true (ax env) (cb env (dep+1)) H2 (⟨(dep+1),19,aa.gen H2 (dep+1) 19,0⟩:Ref) (some (.fn (.func 251) [] [])) [K,L]) λE h=>
 bn E 0 λG=>
 bn E 1 λp=>
 ae 38 j 0 λt=>
 ad h 5 t λB=>
 CW 5 23 B λi=>
 gQ i true (aU p) λl=>
 bD i l λd=>
 gQ d true (ao 38 j 1) λn=>
 gQ d true (ao 31 n 0) λA=>
 gQ d true (aq h 29 A) λy=>
 gQ d true (aq h 29 a) λq=>
 gW d true h (ZN dep h 33 y q) λz k=>
 bD d z λc=>
 gQ c true (aU x0) λx=>
 gQ c true (ao 38 j 5) λm=>
 gQ c true (aq k 29 m) λD=>
 gW c true k (bB env true (ax env) (cb env (dep+1)) k (⟨(dep+1),39,aa.gen k (dep+1) 39,0⟩:Ref) (some x) [D]) λC F=>
 gQ c true (sY C) λu=>
 bD c u λw=>
 br (some w) (
 Q (.v (.tuple #[])) F) (
 ef 3 11 1 e λo=>
  bu env Tryz.f250 (dep+1) mF [(11,o),(0,x0),(3,a),(2,b),(9,x9),(10,f)] F Q)) (
 Q (.v (.tuple #[])) H)
theorem uT(dep:Nat)(c x0 a b x9 d:AV)(H:aa)(Q:AV->aa->Prop)(h : ∀g,iK dep g c x0 a b x9 d H Q):bu env Tryz.f250 (dep+1) mF [(11,c),(0,x0),(3,a),(2,b),(9,x9),(10,d)] H Q:=sU wW (by kernel_rfl) h
end
end Go.Proofs.YtmkmimgokagimaaGreat
