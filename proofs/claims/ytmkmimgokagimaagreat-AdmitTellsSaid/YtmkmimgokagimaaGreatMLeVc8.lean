/-
  Maps whose keys are plain: what is looked up, kept, and taken apart. No statement of a seat is proved here.
-/
import Derived.Test.YtmkmimgokagimaaGreatRows
import Derived.Test.YtmkmimgokagimaaGreatAbsRules
set_option linter.unusedVariables false
set_option linter.unusedSimpArgs false
set_option linter.unusedSectionVars false
set_option linter.unnecessarySimpa false
set_option maxRecDepth 1000000
namespace Go.Ab
section
def wU{K:Type}[DecidableEq K](k:K):List K->Nat->Option Nat
 | [],_=>none
 | a :: l,i=>if k=a then some i else wU k l (i+1)
structure Xv (P:Program) (f:TypeId) {K:Type} [DecidableEq K] (val:K->Value):Prop where
 chk : ∀e a,bh P (Instr.checkKey e 10000 f (val a))=some ()
 eq : ∀a b,bh P (Op.equal f (val a) (val b))=some (decide (a=b))
 now : ∀d,P.underlying f=some d ->∀a b,Instr.sameNow d (val a) (val b)=none
 und:(P.underlying f).isSome=true
 bits : ∀a,Instr.sameBits 10000 (val a) (val a)=true
section
variable{P:Program}{f:TypeId}{K:Type}[DecidableEq K]{val:K->Value}(h:Xv P f val)
include h
theorem OP(k:K) : ∀(l:List K)(i:Nat),bh P (Instr.findAsking f (val k) (l.map λa=>⟨val a,Go.undef,0⟩) i)=some ((wU k l i).map λj=>(j,Go.undef))
 | [],i=>rfl
 | a :: l,i=>by
  simp only[uC,Instr.findAsking,bG,h.eq,fN,wU]
  by_cases e:k=a
  ·simp only[e,decide_true,if_true];rfl
  ·simp only[e,decide_false,mr,if_false];exact OP k l (i+1)
theorem WS(k:K)(l:List K):bh P (Instr.findKey f (val k) (l.map λa=>⟨val a,Go.undef,0⟩))=some ((wU k l 0).map λj=>(j,Go.undef)):=by
 obtain⟨d,b⟩:=gU.1 h.und
 simp only[Instr.findKey,bG,m4 b,fN]
 cases l with
 | nil=>rfl
 | cons a l=>
  have e:Instr.findNow d (val k) ((a :: l).map λa=>⟨val a,Go.undef,0⟩) 0=none:=by
   simp only[uC,Instr.findNow,h.now d b]
  rw[e]
  exact OP h k (a :: l) 0
theorem BJ(e:Bool)(k:K)(l:List K):Ar P e f (val k) (l.map val)=some (wU k l 0):=by
 unfold Ar
 rw[h.chk]
 have:=WS h k l
 simp only[Le,Function.comp_def]
 rw[this]
 cases wU k l 0<;>rfl
end
def aV{K:Type}[DecidableEq K](k:K):List (K × AV)->Option AV
 | []=>none
 | p :: l=>if k=p.1 then some p.2 else aV k l
def gw{K:Type}[DecidableEq K](k:K)(x:AV):List (K × AV)->List (K × AV)
 | []=>[(k,x)]
 | p :: l=>if k=p.1 then (k,x) :: l else p :: gw k x l
@[simp] theorem lY{K:Type}[DecidableEq K](k:K)(x:AV) : ∀l:List (K × AV),aV k (gw k x l)=some x
 | []=>by simp[gw,aV]
 | p :: l=>by
  unfold gw
  split
  ·simp[aV]
  ·rename_i e;simp[aV,e,lY k x l]
theorem kK{K:Type}[DecidableEq K]{k k':K}(e:k'≠k)(x:AV) : ∀l:List (K × AV),aV k' (gw k x l)=aV k' l
 | []=>by simp[gw,aV,e]
 | p :: l=>by
  unfold gw
  split
  ·rename_i h;subst h;simp[aV,e]
  ·simp only[aV];rw[kK e x l]
theorem wo{K:Type}[DecidableEq K](k:K) : ∀(l:List K)(i:Nat),wU k l i=(wU k l 0).map (· + i)
 | [],i=>rfl
 | a :: l,i=>by
  unfold wU
  split
  ·simp
  ·rw[wo k l (i+1),wo k l (0+1)]
   cases wU k l 0 with
   | none=>rfl
   | some j=>simp;omega
theorem Fz{K:Type}[DecidableEq K](k:K) : ∀(l:List (K × AV)),(match wU k (l.map Prod.fst) 0 with | some i=>(l[i]?).map Prod.snd | none=>none)=aV k l
 | []=>rfl
 | p :: l=>by
  simp only[uC,wU,aV]
  by_cases e:k=p.1
  ·simp[e]
  ·simp only[e,if_false]
   rw[wo]
   have:=Fz k l
   cases h:wU k (l.map Prod.fst) 0 with
   | none=>rw[h]at this;simpa using this
   | some j=>rw[h]at this;simpa using this
theorem Ev{K:Type}[DecidableEq K](k:K)(x:AV) : ∀(l:List (K × AV)),(match wU k (l.map Prod.fst) 0 with | some i=>l.set i (k,x) | none=>l++[(k,x)])=gw k x l
 | []=>rfl
 | p :: l=>by
  simp only[uC,wU,gw]
  by_cases e:k=p.1
  ·simp[e]
  ·simp only[e,if_false]
   rw[wo]
   have:=Ev k x l
   cases h:wU k (l.map Prod.fst) 0 with
   | none=>rw[h]at this;simpa using this
   | some j=>rw[h]at this;simpa using this
theorem Ew{K:Type}[DecidableEq K](k:K) : ∀(l:List K)(i:Nat),wU k l 0=some i->l[i]?=some k
 | [],i,h=>by cases h
 | a :: l,i,h=>by
  unfold wU at h
  split at h
  ·rename_i e;subst e;cases h;rfl
  ·rw[wo]at h
   cases b:wU k l 0 with
   | none=>rw[b]at h;cases h
   | some j=>
    rw[b]at h
    simp at h
    subst h
    simpa using Ew k l j b
section
variable{P:Program}{f et t:TypeId}{K:Type}[DecidableEq K]{val:K->Value}{c:K->AV}(h:Xv P f val)(m : ∀k,gV (c k)=some (val k))(n:J0 P t=some (f,et))
def cB(c:K->AV)(l:List (K × AV)):List AV:=l.map λp => .tup [c p.1,p.2]
theorem wj{g:cX}{r:Ref}{l:List (K × AV)}(a:g r=some (bg (cB c l))):kn g r=some (cB c l):=by
 unfold kn
 rw[a]
 rfl
include m in
theorem Fy(l:List (K × AV)):(cB c l).mapM BT=some ((l.map Prod.fst).map val):=by
 induction l with
 | nil=>rfl
 | cons p l a=>
  have e:BT (.tup [c p.1,p.2])=some (val p.1):=m p.1
  show((AV.tup [c p.1,p.2]) :: cB c l).mapM BT=_
  rw[nY,e,a]
  rfl
include h m n
theorem BG{z:AV}(o:eI P et=some z){g:cX}{r:Ref}{l:List (K × AV)}(j:g r=some (bg (cB c l)))(k:K)(ok:Bool) :
 ff P g t (some (.mp r)) (some (c k)) ok=some ((if ok then .tup [(aV k l).getD z,.v (.bool (aV k l).isSome)] else (aV k l).getD z),[]):=by
 unfold ff
 simp only[n,fN,m,wj j,Fy m,BJ h,o,Option.map_some]
 have b:=Fz k l
 cases d:wU k (l.map Prod.fst) 0 with
 | none=>
  rw[d]at b
  rw[<-b]
  rfl
 | some i=>
  rw[d]at b
  dsimp only at b ⊢
  have a:(l.map Prod.fst)[i]?=some k:=Ew k _ i d
  rw[pG]at a
  cases hp:l[i]? with
  | none=>rw[hp]at a;cases a
  | some p=>
   rw[hp]at b
   have e:(cB c l)[i]?=some (.tup [c p.1,p.2]):=by unfold cB;rw[pG,hp];rfl
   rw[e,<-b]
   rfl
theorem vT{H:aa}{r:Ref}{l:List (K × AV)}(g:H.get r=some (bg (cB c l)))(k:K)(x:AV) :
 dP P H t (some (.mp r)) (some (c k)) (some x)=some (AV.undef,H.put r (some (bg (cB c (gw k x l))))):=by
 unfold dP
 simp only[n,m,wj g,Fy m,BJ h]
 have a:=Ev k x l
 cases b:wU k (l.map Prod.fst) 0 with
 | none=>
  rw[b]at a
  dsimp only at a ⊢
  rw[<-a]
  simp[cB]
 | some i=>
  rw[b]at a
  dsimp only at a ⊢
  have d:(l.map Prod.fst)[i]?=some k:=Ew k _ i b
  have e:((l.map Prod.fst).map val)[i]?=some (val k):=by rw[pG,d];rfl
  rw[e]
  simp only[Option.map_some,h.bits,if_true]
  rw[<-a]
  simp[cB,E0]
theorem CD{z:AV}(w:eI P et=some z){H:aa}{r:Ref}{l:List (K × AV)}(q:H.get r=some (bg (cB c l)))(k:K) :
 ∃i o,iY P H t (some (.mp r)) (some (c k))=some (.tup [(aV k l).getD z,.v (.int .i64 (i:Nat))],H.put r (some (bg (cB c o))))/\(∃x0,o[i]?=some (k,x0)) /\∀x,o.set i (k,x)=gw k x l:=by
 unfold iY
 simp only[n,m,wj q,Fy m,BJ h]
 have b:=Fz k l
 cases j:wU k (l.map Prod.fst) 0 with
 | none=>
  rw[j]at b
  dsimp only at b ⊢
  refine⟨l.length,l++[(k,z)],?_,⟨z,by simp⟩,λx=>?_⟩
  ·rw[<-b,w]
   simp[cB]
  ·have d:=Ev k x l
   rw[j]at d
   dsimp only at d
   rw[<-d]
   simp
 | some i=>
  rw[j]at b
  dsimp only at b ⊢
  have a:(l.map Prod.fst)[i]?=some k:=Ew k _ i j
  have e:((l.map Prod.fst).map val)[i]?=some (val k):=by rw[pG,a];rfl
  rw[pG]at a
  cases hp:l[i]? with
  | none=>rw[hp]at a;cases a
  | some p=>
   rw[hp]at b a
   simp only[Option.map_some,dT]at a b
   have u:(cB c l)[i]?=some (.tup [c p.1,p.2]):=by unfold cB;rw[pG,hp];rfl
   refine⟨i,l.set i (k,p.2),?_,⟨p.2,?_⟩,λx=>?_⟩
   ·rw[e,u,<-b]
    simp only[Option.map_some,h.bits,if_true,fN,Jq]
    simp[cB,E0]
   ·have g:i<l.length:=by
     rcases fE i l.length with h | h
     ·exact h
     ·rw[AR h]at hp;cases hp
    simp[g]
   ·have d:=Ev k x l
    rw[j]at d
    dsimp only at d
    rw[<-d]
    simp
omit h m n in
theorem AS{H:aa}{r:Ref}{l:List (K × AV)}(b:H.get r=some (bg (cB c l))){i:Nat}{k:K}{x0:AV}(a:l[i]?=some (k,x0))(d:IntKind)(x:AV) :
 fR H (some (.mp r)) (some (.v (.int d (i:Nat)))) (some x)=some (AV.undef,H.put r (some (bg (cB c (l.set i (k,x)))))):=by
 unfold fR
 have e:(cB c l)[i]?=some (.tup [c k,x0]):=by unfold cB;rw[pG,a];rfl
 simp only[wj b]
 rw[if_pos (by omega)]
 simp only[PC,e]
 simp[cB,E0]
end
end
section
theorem TE{E:Env}{ok:Array Oper->Bool}(b:E.Ok ok){f:FuncId}{args:List AV}{y:AV}(h:ak E f args=some y):gP E.P f args y:=by
 obtain⟨n,a⟩:=xy.1 h
 exact Mz b (a n (de n))
def RE(E:Env)(a:FuncId->List AV->Option AV):Env := { E with spec:=a}
theorem UW{P:Program}{l bQ gX:List FuncId}{strict:Oper->Bool}{apart:Array Oper->List (Tmp × Tmp)}{kq:Oper->Bool}{Cs:List (FuncId × List AV × AV)}{wide:Oper->Bool}{tz:FuncId->Option TypeId}{thrSpec:FuncId->List AV->aa->Option (AV × aa)}{sm:MK}{sp:FuncId->List AV->Option AV}
 (hspec : ∀f args y,sp f args=some y->gP P f args y) (hm:P.follows .mixedOrders=true) (h0:Jj (vl P l bQ gX strict apart kq) l=true) (hover : ∀f t,tz f=some t->B3 P f t) (hthr : ∀f args H y H',thrSpec f args H=some (y,H')->rO P (.fn f) args H y H') :
 (RE (vl P l bQ gX strict apart kq Cs wide tz thrSpec sm) sp).Ok (De (RE (vl P l bQ gX strict apart kq Cs wide tz thrSpec sm) sp)) where
 fns:=by
  intro f hf
  have h:Jj (vl P l bQ gX strict apart kq Cs) l=true:=h0
  have hf':f∈l:=by simpa [vl,RE] using hf
  have:=gy.1 h f hf'
  split at this
  ·rename_i fn hfn
   simp only[aY,dN]at this
   refine⟨fn,hfn,this.1,λc hc=>?_⟩
   have h2:=this.2
   rw[hc]at h2
   exact h2
  ·cases this
 specs:=λf args y h=>hspec f args y h
 same:=rfl
 overs:=hover
 thrs:=hthr
 draws:=λops hok _ hpc _ htc nt dep id st st' M ι a w ro Q hr hap hO hQ=>by
  rcases HF.1 hok with h1 | h1
  ·exact O0 hm h1 hpc htc hr hO hQ
  ·exact O1 hm h1 hpc htc hr hap hO hQ
def bad(b:Bool):Int:=if b then 0 else 8
@[simp] theorem ahY(b:Bool):bad b=0↔b=true:=by cases b<;>simp[bad]
@[simp] theorem ahZ:bad true=0:=id rfl
@[simp] theorem ae6:bad false=8:=id rfl
structure mz where
 lv:UInt8
 cats:UInt32
 num:UInt8
deriving DecidableEq
structure bV where
 h:mz
 n:Int
deriving DecidableEq
structure wN where
 f:bV
 many:Int
deriving DecidableEq
def dZ(h:mz):Bool:=decide (h.lv<=15)&&decide (h.num<8)
def FB(i:bV):Bool:=dZ i.h&&(decide (1<=i.n)&&decide (i.n<=1099511627776))
def eJ(s:wN):Bool:=FB s.f&&(decide (1<=s.many)&&(decide (s.many<=64)&&decide (s.f.n+s.many - 1<=1099511627776)))
theorem KV{i:bV}(h:FB i=true):1<=i.n/\i.n<=1099511627776:=by
 simp[FB]at h;exact h.2
theorem gI{s:wN}(h:eJ s=true):1<=s.f.n/\1<=s.many/\s.many<=64/\s.f.n+s.many - 1<=1099511627776:=by
 simp[eJ]at h
 have:=KV h.1
 exact⟨this.1,h.2.1,h.2.2.1,h.2.2.2⟩
theorem UX{s:wN}(h:eJ s=true):FB s.f=true:=by
 simp[eJ]at h;exact h.1
def AZ(i:bV)(n:Int):bV:=⟨i.h,i.n+n⟩
def rZ:bV:=⟨⟨0,0,0⟩,0⟩
def aR(n:Int):AV := .v (.int .i32 n)
def rows(l:List Int):List AV:=l.map aR
@[simp] theorem agB(l:List Int):(rows l).length=l.length:=by simp[rows]
@[simp] theorem Yj(l:List Int):rows l=[]↔l=[]:=by simp[rows]
def pJ(n:Int):Bool:=decide (n = -1)||(decide (0<=n)&&decide (n<55296))||(decide (57343<n)&&decide (n<=1114111))
def LU(l:List Int):Bool:=decide (l.length<=64)&&l.all pJ
def Cr(l:List Int):Int:=if 64<l.length then 4 else if l.all pJ then 0 else 8
@[simp] theorem agX(n:Int):(aR n).cells=[aR n]:=id rfl
@[simp] theorem akF(n:Int):(aR n).one=true:=id rfl
@[simp] theorem aia(g:cX)(k:Nat)(n:Int):view g (k+1) (aR n)=some (aR n):=id rfl
structure Rn where
 s:wN
 a:bV
 l:List Int
deriving DecidableEq
def zh(r:Rn):Bool:=eJ r.s&&((decide (r.a=rZ)||(FB r.a&&decide (r.a.n<r.s.f.n)))&&(decide ((r.l.length:Int)=r.s.many)&&LU r.l))
theorem Ch(l:List Int):Cr l=0↔LU l=true:=by
 unfold Cr LU
 by_cases h:64<l.length
 ·simp[h,Nat.not_le.2 h]
 ·have a:l.length<=64:=Hl.1 h
  rw[if_neg h]
  cases l.all pJ<;>simp[a]
@[simp] theorem aag(l:List Int)(i n:Nat):cm (rows l) i 0 n false=(l[i]?).map aR:=by
 unfold cm rows
 rw[pG]
 cases l[i]?<;>rfl
end
end Go.Ab
namespace Go.Proofs.YtmkmimgokagimaaGreat
open Go.Ab
section
def fns:List FuncId:=[4,5,7,8,10,11,12,13,14,15,17,19,21,22,23,24,25,26,27,28,29,30,31,32,33,34,35,42,43,44,45,46,47,49,52,55,56,57,58,59,60,61,62,63,64,65,66,68,69,70,71,72,73,74,75,76,77,78,80,81,82,83,84,85,86,87,88,89,90,91,92,93,94,95,96,97,98,99,100,101,102,103,104,105,106,107,108,109,110,111,112,113,114,115,116,117,118,119,120,121,122,123,124,125,126,127,130,131,132,133,134,135,136,137,138,139,140,141,142,143,144,145,146,147,148,149,150,151,152,153,154,155,156,157,158,159,160,161,162,163,164,165,166,167,168,169,170,171,172,173,174,175,176,177,178,179,180,181,182,183,184,185,186,187,188,189,190,191,192,193,194,195,196,197,198,199,200,201,202,203,204,205,206,207,208,209,210,211,212,213,214,215,216,217,218,219,220,221,222,223,224,225,226,227,228,229,230,231,232,233,234,235,236,237,238,239,240,241,242,243,244,245,246,247,248,249,250,251]
def bQ:List FuncId:=[84,160,162,173,204,205,206,209,225]
def gX:List FuncId:=[64,65,69,71,72,75,77,81,83,87,88,90,92,95,97,98,100,145,146,147,148,149,150,151,153,172,193,218,219,220,230,232,233,234,241,242,250]
def Cs:List (FuncId × List AV × AV):=[]
noncomputable def env:Env:=vl Tryz.prog fns bQ gX (Iq [(19,13,18),(16,1,77777),(55,1,88888),(35,147,88889),(55,72,88889),(10,48,88889),(10,50,88889),(7,5,66666),(20,160,88889)]) (zd [(15,12,0,[(20,23)]),(52,10,0,[(56,58)]),(25,34,4,[(44,43)]),(6,21,0,[(16,4),(20,4),(17,4)]),(58,23,0,[(71,61),(4,61),(5,61),(5,68)]),(7,6,0,[(3,5)]),(64,16,17,[(5,66),(66,7)]),(143,16,25,[(5,145),(145,7),(145,9)])]) (P8 [(19,13,18),(16,1,77777),(55,1,88888),(35,147,88889),(55,72,88889),(10,48,88889),(10,50,88889),(7,5,66666),(20,160,88889)]) Cs (λ_=>false) (λ_=>none) (λ_ _ _=>none) Je
@[simp] noncomputable def ad(h:aa)(n:Nat)(v:AV)(k:AV->Prop):Prop:=fB (uL env.P (aa.get h) n (some v)) k
@[simp] noncomputable def aX(b:Bool)(h:aa)(n n2:Nat)(a:List AV)(k:AV->aa->Prop):Prop:=jA (aL env b (ak env) (bD env 0) h (Ref.mk 0 n (aa.gen h 0 n) 0) (some (AV.fn (Fn.func n2) [] [])) a) k
@[simp] noncomputable def aZ(h:aa)(n n2:Nat)(v:AV)(k:AV->aa->Prop):Prop:=jA (na h (Ref.mk 0 n (aa.gen h 0 n) 0) (L1 env.P (Ref.mk 0 n (aa.gen h 0 n) 0) n2 (some v))) k
@[simp] noncomputable def af(n:Nat)(v:AV)(n2:Nat)(k:AV->Prop):Prop:=fB (jW env.P n (some v) n2) k
@[simp] noncomputable def eD(n n2:Nat)(i:Int)(v:AV)(k:AV->Prop):Prop:=fB (bY env.P .add n (Operand.tmp n2) (Operand.const (Value.int IntKind.i64 i)) (some v) (some (AV.v (Value.int IntKind.i64 i)))) k
@[simp] noncomputable def bo(v a:AV)(k:AV->Prop):Prop:=fB (BH (some v) (some a) (some (AV.v (Value.bool false)))) k
@[simp] noncomputable def ar(h:aa)(n:Nat)(v:AV):=uL env.P (aa.get h) n (some v)
@[simp] noncomputable def eC(b:Bool)(h:aa)(n n2:Nat)(a:List AV):=aL env b (ak env) (bD env 0) h (Ref.mk 0 n (aa.gen h 0 n) 0) (some (AV.fn (Fn.func n2) [] [])) a
@[simp] noncomputable def eF(h:aa)(n n2:Nat)(k:AV->aa->Prop):Prop:=jA (na h (Ref.mk 0 n (aa.gen h 0 n) 0) (yl env.P (Ref.mk 0 n (aa.gen h 0 n) 0) n2)) k
@[simp] noncomputable def au(n:Nat)(v:AV)(n2:Nat):=jW env.P n (some v) n2
@[simp] noncomputable def ax(h:aa)(n:Nat)(v a:AV)(k:AV->aa->Prop):Prop:=jA (nS env.P h n (some v) (some a)) k
@[simp] noncomputable def cE(h:aa)(n n2:Nat)(v:AV)(k:AV->Prop):Prop:=fB (cN env.P false (aa.get h) (Ref.mk 0 n (aa.gen h 0 n) 0) .len #[n2] [v]) k
@[simp] noncomputable def bJ(h:aa)(n:Nat)(v a:AV)(k:AV->Prop):Prop:=fB (ep env.P (aa.get h) n (some v) (some a)) k
@[simp] noncomputable def kb(n n2:Nat)(i:Int)(v:AV)(k:AV->Prop):Prop:=fB (bY env.P .neq n (Operand.tmp n2) (Operand.const (Value.int IntKind.i64 i)) (some v) (some (AV.v (Value.int IntKind.i64 i)))) k
@[simp] noncomputable def dC(n n2 a:Nat)(v b:AV)(k:AV->Prop):Prop:=fB (bY env.P .lss n (Operand.tmp n2) (Operand.tmp a) (some v) (some b)) k
@[simp] noncomputable def mC(h:aa)(n n2 a:Nat)(v:AV)(k:AV->aa->Prop):Prop:=jA (na h (Ref.mk (n+1) n2 (aa.gen h (n+1) n2) 0) (L1 env.P (Ref.mk (n+1) n2 (aa.gen h (n+1) n2) 0) a (some v))) k
@[simp] noncomputable def dn(v a:AV)(k:AV->Prop):Prop:=fB (BH (some v) (some (AV.v (Value.bool true))) (some a)) k
@[simp] noncomputable def pZ(h:aa)(n n2 a:Nat)(k:AV->aa->Prop):Prop:=jA (na h (Ref.mk (n+1) n2 (aa.gen h (n+1) n2) 0) (yl env.P (Ref.mk (n+1) n2 (aa.gen h (n+1) n2) 0) a)) k
@[simp] noncomputable def aP(v:AV)(n:Nat)(k:AV->Prop):Prop:=fB (uM (some v) n) k
@[simp] noncomputable def ra(n n2:Nat)(i:Int)(v:AV):=bY env.P .eql n (Operand.tmp n2) (Operand.const (Value.int IntKind.i64 i)) (some v) (some (AV.v (Value.int IntKind.i64 i)))
@[simp] noncomputable def gT(n n2 a:Nat)(v b:AV):=bY env.P .eql n (Operand.tmp n2) (Operand.tmp a) (some v) (some b)
@[simp] noncomputable def vO(n n2:Nat)(i:Int)(v:AV)(k:AV->Prop):Prop:=fB (bY env.P .eql n (Operand.tmp n2) (Operand.const (Value.int IntKind.i64 i)) (some v) (some (AV.v (Value.int IntKind.i64 i)))) k
@[simp] noncomputable def mX(h:aa)(n n2 a:Nat)(v b:AV)(k:AV->aa->Prop):Prop:=jA (jG env.P true h (Ref.mk 0 n (aa.gen h 0 n) 0) (some n2) (some a) v b) k
@[simp] noncomputable def w6(n n2:Nat)(i:Int)(v:AV)(k:AV->Prop):Prop:=fB (bY env.P .geq n (Operand.tmp n2) (Operand.const (Value.int IntKind.i64 i)) (some v) (some (AV.v (Value.int IntKind.i64 i)))) k
@[simp] noncomputable def wZ(n n2:Nat)(i:Int)(v:AV):=bY env.P .gtr n (Operand.tmp n2) (Operand.const (Value.int IntKind.i64 i)) (some v) (some (AV.v (Value.int IntKind.i64 i)))
@[simp] noncomputable def wY(n n2:Nat)(i:Int)(v:AV):=bY env.P .geq n (Operand.tmp n2) (Operand.const (Value.int IntKind.i64 i)) (some v) (some (AV.v (Value.int IntKind.i64 i)))
@[simp] noncomputable def bP(h:aa)(v:AV)(n:Nat)(k:AV->Prop):Prop:=fB (BF env.P h v n) k
@[simp] noncomputable def AN(n n2:Nat)(i:Int)(v:AV):=bY env.P .leq n (Operand.tmp n2) (Operand.const (Value.int IntKind.i64 i)) (some v) (some (AV.v (Value.int IntKind.i64 i)))
@[simp] noncomputable def q9(h:aa)(n n2 a:Nat)(v:AV)(k:AV->Prop):Prop:=fB (gB env.P (aa.get h) (Ref.mk 0 n (aa.gen h 0 n) 0) n2 a (some v)) k
@[simp] noncomputable def pY(n n2 a:Nat)(v b:AV)(k:AV->Prop):Prop:=fB (bY env.P .eql n (Operand.tmp n2) (Operand.tmp a) (some v) (some b)) k
@[simp] noncomputable def Bq(n n2:Nat)(i:Int)(v:AV):=bY env.P .lss n (Operand.tmp n2) (Operand.const (Value.int IntKind.i64 i)) (some v) (some (AV.v (Value.int IntKind.i64 i)))
@[simp] noncomputable def q7(n n2 a:Nat)(v b:AV)(k:AV->Prop):Prop:=fB (bY env.P .add n (Operand.tmp n2) (Operand.tmp a) (some v) (some b)) k
@[simp] noncomputable def uB(h:aa)(n n2 a b:Nat)(v:AV)(k:AV->aa->Prop):Prop:=jA (nJ env.P false true h (Ref.mk 0 n (aa.gen h 0 n) 0) n2 a (some [(b,v)])) k
@[simp] noncomputable def vN(n n2:Nat)(v:AV)(k:AV->Prop):Prop:=fB (bY env.P .eql n (Operand.tmp n2) (.const (.int .u8 2)) (some v) (some (a8 2))) k
@[simp] noncomputable def Dr(n n2:Nat)(i:Int)(v:AV)(k:AV->Prop):Prop:=fB (bY env.P .gtr n (Operand.tmp n2) (Operand.const (Value.int IntKind.i64 i)) (some v) (some (AV.v (Value.int IntKind.i64 i)))) k
@[simp] noncomputable def yH(n n2:Nat)(v:AV)(k:AV->Prop):Prop:=fB (bY env.P .eql n (Operand.tmp n2) (.const (.int .u8 1)) (some v) (some (a8 1))) k
@[simp] noncomputable def aU(v:AV):=kf (some v)
@[simp] noncomputable def iP(v:AV)(k:AV->Prop):Prop:=fB (qUn env.P .not (some v)) k
@[simp] noncomputable def yG(h:aa)(n n2:Nat)(v:AV):=cN env.P false (aa.get h) (Ref.mk 0 n (aa.gen h 0 n) 0) .len #[n2] [v]
@[simp] noncomputable def Hb(n n2:Nat)(i:Int)(v:AV)(k:AV->Prop):Prop:=fB (bY env.P .lss n (Operand.tmp n2) (Operand.const (Value.int IntKind.i64 i)) (some v) (some (AV.v (Value.int IntKind.i64 i)))) k
@[simp] noncomputable def Ha(n n2:Nat)(i:Int)(v:AV)(k:AV->Prop):Prop:=fB (bY env.P .sub n (Operand.tmp n2) (Operand.const (Value.int IntKind.i64 i)) (some v) (some (AV.v (Value.int IntKind.i64 i)))) k
@[simp] noncomputable def yF(n n2 a:Nat)(v b:AV)(k:AV->Prop):Prop:=fB (bY env.P .neq n (Operand.tmp n2) (Operand.tmp a) (some v) (some b)) k
@[simp] noncomputable def G9(n n2:Nat)(i:Int)(v:AV):=bY env.P .neq n (Operand.tmp n2) (Operand.const (Value.int IntKind.i64 i)) (some v) (some (AV.v (Value.int IntKind.i64 i)))
@[simp] noncomputable def q6(h:aa)(n:Nat)(v a:AV):=ep env.P (aa.get h) n (some v) (some a)
@[simp] noncomputable def mo(n:Nat)(k:AV->Prop):Prop:=fB (jD env.P n (some [])) k
@[simp] noncomputable def G8(h:aa)(n n2 a:Nat)(v:AV)(k:AV->Prop):Prop:=fB (cN env.P false (aa.get h) (Ref.mk (n+1) n2 (aa.gen h (n+1) n2) 0) .len #[a] [v]) k
@[simp] noncomputable def rY(n n2:Nat)(v:AV)(a:Nat)(b:AV)(k:AV->Prop):Prop:=fB (jD env.P n (some [(n2,v),(a,b)])) k
@[simp] noncomputable def jh(v:AV)(k:AV->Prop):Prop:=fB (NX (some v)) k
@[simp] noncomputable def G7(n n2:Nat)(v:AV)(k:AV->Prop):Prop:=fB (bY env.P .eql n (Operand.tmp n2) (.const (.int .u8 3)) (some v) (some (a8 3))) k
@[simp] noncomputable def Bp(h:aa)(n:Nat)(v a:AV)(k:AV->Prop):Prop:=fB (ff env.P (aa.get h) n (some v) (some a) false) k
@[simp] noncomputable def MV(n:Nat)(h:aa)(n2:Nat)(v a:AV)(k:AV->aa->Prop):Prop:=jA (aL env true (ak env) (bD env (n+1)) h (Ref.mk (n+1) n2 (aa.gen h (n+1) n2) 0) (some v) [a]) k
@[simp] noncomputable def Rz(n:Nat)(h:aa)(n2:Nat)(v a:AV)(k:AV->aa->Prop):Prop:=jA (aL env true (ak env) (bD env (n+1)) h (Ref.mk (n+1) n2 (aa.gen h (n+1) n2) 0) (some (.fn (.func 100) [] [])) [v,a]) k
@[simp] noncomputable def G6(h:aa)(n:Nat)(v a:AV)(k:AV->Prop):Prop:=fB (ja env.P (aa.get h) n (some v) (some none) (oi a) (some none)) k
@[simp] noncomputable def MU(h:aa)(n:Nat)(v a:AV)(k:AV->aa->Prop):Prop:=jA (aL env true (ak env) (bD env 0) h (Ref.mk 0 n (aa.gen h 0 n) 0) (some v) [a]) k
@[simp] noncomputable def oG(v:AV):=qUn env.P .not (some v)
@[simp] noncomputable def Ut(h:aa)(n n2:Nat)(k:AV->aa->Prop):Prop:=jA (na h (Ref.mk (n+1) n2 (aa.gen h (n+1) n2) 0) (some (.mp (Ref.mk (n+1) n2 (aa.gen h (n+1) n2) 0),[bg []]))) k
@[simp] noncomputable def MT(h:aa)(n n2 a:Nat)(v b:AV)(k:AV->Prop):Prop:=fB (cN env.P true (aa.get h) (Ref.mk 0 n (aa.gen h 0 n) 0) .max #[n2,a] [v,b]) k
@[simp] noncomputable def G5(n n2 a:Nat)(v b:AV):=bY env.P .lss n (Operand.tmp n2) (Operand.tmp a) (some v) (some b)
@[simp] noncomputable def Kk(n n2 a:Nat)(v b:AV)(k:AV->Prop):Prop:=fB (bY env.P .geq n (Operand.tmp n2) (Operand.tmp a) (some v) (some b)) k
@[simp] noncomputable def yE(n n2:Nat)(v:AV)(k:AV->Prop):Prop:=fB (jD env.P n (some [(n2,v)])) k
@[simp] noncomputable def Us(n n2:Nat)(i:Int)(v:AV)(k:AV->Prop):Prop:=fB (bY env.P .leq n (Operand.tmp n2) (Operand.const (Value.int IntKind.i64 i)) (some v) (some (AV.v (Value.int IntKind.i64 i)))) k
@[simp] noncomputable def Ur(n:Nat)(i:Int)(n2:Nat)(v:AV)(k:AV->Prop):Prop:=fB (bY env.P .mul n (Operand.const (Value.int IntKind.i64 i)) (Operand.tmp n2) (some (AV.v (Value.int IntKind.i64 i))) (some v)) k
@[simp] noncomputable def G4(v a:AV):=BH (some v) (some a) (some (AV.v (Value.bool false)))
@[simp] noncomputable def Uq(n n2:Nat)(i:Int)(v:AV):=bY env.P .sub n (Operand.tmp n2) (Operand.const (Value.int IntKind.i64 i)) (some v) (some (AV.v (Value.int IntKind.i64 i)))
@[simp] noncomputable def MS(n n2 a:Nat)(v b:AV)(k:AV->Prop):Prop:=fB (bY env.P .sub n (Operand.tmp n2) (Operand.tmp a) (some v) (some b)) k
@[simp] noncomputable def Ry(h:aa)(n n2:Nat)(v:AV)(k:AV->Prop):Prop:=fB (cN env.P false (aa.get h) (Ref.mk 0 n (aa.gen h 0 n) 0) .cap #[n2] [v]) k
@[simp] noncomputable def Up(n n2:Nat)(v:AV)(k:AV->Prop):Prop:=fB (bY env.P .eql n (Operand.tmp n2) (.const (.slice none 0 0)) (some v) (some (.v (.slice none 0 0)))) k
@[simp] noncomputable def Kj(v a:AV):=BH (some v) (some (AV.v (Value.bool true))) (some a)
@[simp] noncomputable def Rx(n n2:Nat)(v:AV):=bY env.P .eql n (Operand.tmp n2) (.const (.int .u8 1)) (some v) (some (a8 1))
@[simp] noncomputable def MR(n n2 a:Nat)(v b:AV):=bY env.P .neq n (Operand.tmp n2) (Operand.tmp a) (some v) (some b)
@[simp] noncomputable def Uo(n n2:Nat)(v:AV)(k:AV->Prop):Prop:=fB (bY env.P .shr n (Operand.tmp n2) (.const (.int .u64 8)) (some v) (some (.v (.int .u64 8)))) k
@[simp] noncomputable def ZU(n:Nat)(h:aa)(n2:Nat)(v a:AV)(k:AV->aa->Prop):Prop:=jA (aL env false (ak env) (bD env (n+1)) h (Ref.mk (n+1) n2 (aa.gen h (n+1) n2) 0) (some (.fn (.func 152) [] [])) [v,a]) k
@[simp] noncomputable def ZT(n:Nat)(h:aa)(n2:Nat)(v a:AV)(k:AV->aa->Prop):Prop:=jA (aL env false (ak env) (bD env (n+1)) h (Ref.mk (n+1) n2 (aa.gen h (n+1) n2) 0) (some (.fn (.func 44) [] [])) [v,a]) k
@[simp] noncomputable def ZS(n:Nat)(h:aa)(n2:Nat)(v a:AV)(k:AV->aa->Prop):Prop:=jA (aL env true (ak env) (bD env (n+1)) h (Ref.mk (n+1) n2 (aa.gen h (n+1) n2) 0) (some (.fn (.func 146) [] [])) [v,a]) k
@[simp] noncomputable def ZR(n n2:Nat)(i:Int)(v:AV)(k:AV->Prop):Prop:=fB (bY env.P .mul n (Operand.tmp n2) (Operand.const (Value.int IntKind.i64 i)) (some v) (some (AV.v (Value.int IntKind.i64 i)))) k
@[simp] noncomputable def ZQ(n:Nat)(h:aa)(n2:Nat)(v a:AV)(k:AV->aa->Prop):Prop:=jA (aL env true (ak env) (bD env (n+1)) h (Ref.mk (n+1) n2 (aa.gen h (n+1) n2) 0) (some (.fn (.func 234) [] [])) [v,a]) k
@[simp] noncomputable def ZP(n:Nat)(h:aa)(n2:Nat)(v:AV)(k:AV->aa->Prop):Prop:=jA (aL env true (ak env) (bD env (n+1)) h (Ref.mk (n+1) n2 (aa.gen h (n+1) n2) 0) (some (.fn (.func 213) [] [])) [v]) k
@[simp] noncomputable def Un(h:aa)(n n2 a b c:Nat)(v:AV)(k:AV->aa->Prop):Prop:=jA (nJ env.P true false h (Ref.mk (n+1) n2 (aa.gen h (n+1) n2) 0) a b (some [(c,v)])) k
@[simp] noncomputable def Rw(n n2 a:Nat)(v b:AV)(k:AV->Prop):Prop:=fB (bY env.P .leq n (Operand.tmp n2) (Operand.tmp a) (some v) (some b)) k
@[simp] noncomputable def Um(h:aa)(n n2 a c:Nat)(v b:AV)(k:AV->aa->Prop):Prop:=jA (jG env.P true h (Ref.mk (n+1) n2 (aa.gen h (n+1) n2) 0) (some a) (some c) v b) k
@[simp] noncomputable def Rv(n n2:Nat)(v:AV)(k:AV->Prop):Prop:=fB (jD env.P n (some [(0,(.fn (.func 118) [] [])),(n2,v)])) k
@[simp] noncomputable def ZN(n n2:Nat)(i:Int)(v:AV):=bY env.P .add n (Operand.tmp n2) (Operand.const (Value.int IntKind.i64 i)) (some v) (some (AV.v (Value.int IntKind.i64 i)))
@[simp] noncomputable def Ru(n n2 a:Nat)(v b:AV):=bY env.P .add n (Operand.tmp n2) (Operand.tmp a) (some v) (some b)
@[simp] noncomputable def Rt(n n2 a:Nat)(v b:AV):=bY env.P .geq n (Operand.tmp n2) (Operand.tmp a) (some v) (some b)
@[simp] noncomputable def Ki(h:aa)(v a b:AV)(k:AV->aa->Prop):Prop:=jA (fR h (some v) (some a) (some b)) k
@[simp] noncomputable def Ul(h:aa)(n n2 a b:Nat)(v:AV)(k:AV->aa->Prop):Prop:=jA (nJ env.P true false h (Ref.mk 0 n (aa.gen h 0 n) 0) n2 a (some [(b,v)])) k
@[simp] noncomputable def Uk(h:aa)(n n2 a:Nat)(k:AV->aa->Prop):Prop:=jA (nJ env.P false true h (Ref.mk 0 n (aa.gen h 0 n) 0) n2 a (some [])) k
@[simp] noncomputable def Kh(h:aa)(n:Nat)(v a:AV)(k:AV->aa->Prop):Prop:=jA (iY env.P h n (some v) (some a)) k
@[simp] noncomputable def ZM(n n2:Nat)(v:AV)(k:AV->Prop):Prop:=fB (bY env.P .neq n (Operand.tmp n2) (.const (.int .i32 (-1))) (some v) (some (.v (.int .i32 (-1))))) k
@[simp] noncomputable def ZL(n n2:Nat)(v:AV)(k:AV->Prop):Prop:=fB (bY env.P .shr n (Operand.tmp n2) (.const (.int .u64 16)) (some v) (some (.v (.int .u64 16)))) k
@[simp] noncomputable def MQ(n n2:Nat)(v:AV)(a:Nat)(b:AV)(c:Nat)(d:AV)(k:AV->Prop):Prop:=fB (jD env.P n (some [(n2,v),(a,b),(c,d)])) k
@[simp] noncomputable def ZK(h:aa)(n n2 a:Nat)(v:AV):=cN env.P false (aa.get h) (Ref.mk (n+1) n2 (aa.gen h (n+1) n2) 0) .len #[a] [v]
@[simp] noncomputable def Uj(n n2 a:Nat)(v b:AV):=bY env.P .gtr n (Operand.tmp n2) (Operand.tmp a) (some v) (some b)
@[simp] noncomputable def G3(n:Nat)(v:AV)(n2:Nat)(k:AV->Prop):Prop:=fB (yj env.P n (some v) n2) k
@[simp] noncomputable def Dq(n:Nat)(v:AV)(n2:Nat):=yj env.P n (some v) n2
@[simp] noncomputable def Lb(n:Nat):=jD env.P n (some [])
def agU:Nat->Option (List Nat):=λ_=>none
def TY:Nat->Bool:=λ_=>false
abbrev cW:=Nat->AV
abbrev bdF(f:Func):Code:=f.body.getD .skip
noncomputable abbrev ug(f:Func)(n:Nat):List Item:=(qA n 400 [.code (bdF f)]).getD []
abbrev cP(f:Func)(d:Nat)(l:List (Nat × AV))(H:aa)(Q:AV->aa->Prop):Prop:=bF env f d [.code (bdF f)] l H Q
theorem fk{P:(Nat->AV)->Prop}{f:Func}{d:Nat}{l:List (Nat × AV)}{H:aa}{Q:AV->aa->Prop}(e:P=λg=>wp env f none d agU TY Q 500 [.code (bdF f)] (QM g l) H)(h : ∀g,P g):cP f d l H Q:=⟨λg=>yO (live:=agU) (cut:=TY) (n:=500) (Eq.mp (congrFun e g) (h g))⟩
theorem wT(v:Nat->Option (List Nat)){P:(Nat->AV)->Prop}{f:Func}{d:Nat}{l:List (Nat × AV)}{H:aa}{Q:AV->aa->Prop}(e:P=λg=>wp env f none d v TY Q 500 [.code (bdF f)] (QM g l) H)(h : ∀g,P g):cP f d l H Q:=⟨λg=>yO (live:=v) (cut:=TY) (n:=500) (Eq.mp (congrFun e g) (h g))⟩
theorem uX(v:Nat->Option (List Nat)){P:(Nat->AV)->Prop}{f:Func}{d:Nat}{b:List Item}{l:List (Nat × AV)}{H:aa}{Q:AV->aa->Prop}(e:P=λg=>wp env f none d v TY Q 500 (Rk b) (QM g l) H)(h : ∀g,P g):bF env f d b l H Q:=Ez λg=>yO (live:=v) (cut:=TY) (n:=500) (Eq.mp (congrFun e g) (h g))
theorem an{f:FuncId}{fn:Func}{args:List AV}{y:AV}(j:env.spec f args=none)(e:(env.allowed f,env.P.funcs[f]?,fn.body.isSome,Nat.ble args.length fn.ntmps)=(true,some fn,true,true))(h:cP fn 0 (tK 0 args) [] λx H=>handed env f x H y):ak env f args=some y:=by
 injection e with d e
 injection e with i e
 injection e with b g
 cases a:fn.body with
 | none=>rw[a]at b;cases b
 | some c=>
  unfold cP bdF at h
  rw[a]at h
  exact pt j d i a g h
theorem acH:Jj env fns=true:=by kernel_rfl
@[simp] theorem aki{f:FuncId}(h:gX.contains f=false):(env.mode f == 2)=false:=by
 show((if bQ.contains f then (if gX.contains f then 3 else 1) else if gX.contains f then 2 else 0) == 2)=false
 rw[h]
 split<;>rfl
@[simp] theorem ai8{f:FuncId}(h:gX.contains f=false):(env.mode f == 3)=false:=by
 show((if bQ.contains f then (if gX.contains f then 3 else 1) else if gX.contains f then 2 else 0) == 3)=false
 rw[h]
 split<;>rfl
theorem agS{f:FuncId}(h:bQ.contains f=false):u6 (env.mode f)=false:=by
 show u6 (if bQ.contains f then (if gX.contains f then 3 else 1) else if gX.contains f then 2 else 0)=false
 rw[h]
 cases gX.contains f<;>rfl
@[simp] theorem YZ{f:FuncId}(h:bQ.contains f=false)(x:AV)(H:aa)(y:AV):handed env f x H y↔view H.get depth x=some y:=KW (agS h) x H y
theorem agR{f:FuncId}(h:bQ.contains f=true):u6 (env.mode f)=true:=by
 show u6 (if bQ.contains f then (if gX.contains f then 3 else 1) else if gX.contains f then 2 else 0)=true
 rw[h]
 cases gX.contains f<;>rfl
@[simp] theorem ajf{f:FuncId}(h:bQ.contains f=true)(x:AV)(H:aa)(y:AV):handed env f x H y↔(ao H.get depth x).Nodup/\dc H.get depth x=some y:=Gj (agR h) x H y
@[simp] theorem aik:aH env.P 3=(some 1):=by kernel_rfl
@[simp] theorem aj0:dq env.P 3=(some false):=by kernel_rfl
@[simp] theorem ajd:rB env.P 3=(some 1):=by kernel_rfl
@[simp] theorem aje:isInt env.P 3=true:=by kernel_rfl
@[simp] theorem aeI:intKind env.P 3=(some .i64):=by kernel_rfl
@[simp] theorem ajW:(env.P.underlying 3).isNone=false:=by kernel_rfl
@[simp] theorem aij:aH env.P 4=(some 1):=by kernel_rfl
@[simp] theorem ajZ:dq env.P 4=(some false):=by kernel_rfl
@[simp] theorem aih:eI env.P 4=(some (.v (.bool false))):=by kernel_rfl
@[simp] theorem ajc:rB env.P 4=(some 0):=by kernel_rfl
@[simp] theorem ahc:isBool env.P 4=true:=by kernel_rfl
@[simp] theorem aii:aH env.P 5=(some 1):=by kernel_rfl
@[simp] theorem ajY:dq env.P 5=(some false):=by kernel_rfl
@[simp] theorem ajb:rB env.P 5=(some 1):=by kernel_rfl
@[simp] theorem aeH:intKind env.P 5=(some .u8):=by kernel_rfl
@[simp] theorem ajV:(env.P.underlying 5).isNone=false:=by kernel_rfl
@[simp] theorem UK:aH env.P 21=(some 1):=by kernel_rfl
@[simp] theorem X1:dq env.P 21=(some false):=by kernel_rfl
@[simp] theorem acv:intKind env.P 21=(some .i32):=by kernel_rfl
@[simp] theorem aie:(env.P.underlying 21).isNone=false:=by kernel_rfl
@[simp] theorem afF:aH env.P 22=(some 1):=by kernel_rfl
@[simp] theorem aiP:dq env.P 22=(some false):=by kernel_rfl
@[simp] theorem UO:dY env.P 22=(some 58):=by kernel_rfl
@[simp] theorem aiz:kP env.P 22=none:=by kernel_rfl
@[simp] theorem ahb:isStr env.P 22=false:=by kernel_rfl
@[simp] theorem akE:JL env.P 22=true:=by kernel_rfl
@[simp] theorem ajA:qU env.P 22=true:=by kernel_rfl
@[simp] theorem akr:oE env.P 22=3:=by kernel_rfl
@[simp] theorem ajF:wz env.P 22=12:=by kernel_rfl
@[simp] theorem ae0:jZ env.P 22=(.agg [(a8 0),(ae 0),(.v (.bool false))]):=by kernel_rfl
@[simp] theorem afE:aH env.P 23=(some 1):=by kernel_rfl
@[simp] theorem aiO:dq env.P 23=(some false):=by kernel_rfl
@[simp] theorem UN:dY env.P 23=(some 81):=by kernel_rfl
@[simp] theorem aiy:kP env.P 23=none:=by kernel_rfl
@[simp] theorem aha:isStr env.P 23=false:=by kernel_rfl
@[simp] theorem akD:JL env.P 23=true:=by kernel_rfl
@[simp] theorem ajz:qU env.P 23=true:=by kernel_rfl
@[simp] theorem akq:oE env.P 23=5:=by kernel_rfl
@[simp] theorem ajE:wz env.P 23=32:=by kernel_rfl
@[simp] theorem aeZ:jZ env.P 23=(.agg [(a8 0),(ae 0),(.v (.int .i64 0)),(.v (.int .i64 0)),(.v (.int .i64 0))]):=by kernel_rfl
@[simp] theorem afD:aH env.P 25=(some 3):=by kernel_rfl
@[simp] theorem aiN:dq env.P 25=(some true):=by kernel_rfl
@[simp] theorem aix:kP env.P 25=none:=by kernel_rfl
@[simp] theorem afp:eI env.P 25=(some (.agg [(.v (.slice none 0 0)),(.v (.slice none 0 0)),(.v (.int .i64 0))])):=by kernel_rfl
@[simp] theorem OY:jF env.P 25=(some [22,23,3]):=by kernel_rfl
@[simp] theorem aer:placesOf env.P 25=(some [(0,1),(1,1),(2,1)]):=by kernel_rfl
@[simp] theorem aaW:aq env.P 25 0=(some (0,1)):=by kernel_rfl
@[simp] theorem aaL:aq env.P 25 1=(some (1,1)):=by kernel_rfl
@[simp] theorem aaA:aq env.P 25 2=(some (2,1)):=by kernel_rfl
@[simp] theorem afC:aH env.P 26=(some 1):=by kernel_rfl
@[simp] theorem aiM:dq env.P 26=(some false):=by kernel_rfl
@[simp] theorem UM:dY env.P 26=(some 62):=by kernel_rfl
@[simp] theorem aiw:kP env.P 26=none:=by kernel_rfl
@[simp] theorem ag9:isStr env.P 26=false:=by kernel_rfl
@[simp] theorem akC:JL env.P 26=true:=by kernel_rfl
@[simp] theorem ajy:qU env.P 26=true:=by kernel_rfl
@[simp] theorem akp:oE env.P 26=24:=by kernel_rfl
@[simp] theorem ajD:wz env.P 26=160:=by kernel_rfl
@[simp] theorem aeY:jZ env.P 26=(.agg [(a8 0),(.v (.int .i64 0)),(a8 0),(a8 0),(ae 0),(a8 0),(.v (.int .i64 0)),(a8 0),(ae 0),(a8 0),(.v (.int .i64 0)),(.v (.int .i64 0)),(a8 0),(ae 0),(a8 0),(.v (.int .i64 0)),(a8 0),(ae 0),(.v (.slice none 0 0)),(.v (.int .i64 0)),(.v (.int .i64 0)),(a8 0),(ae 0),(.v (.bool false))]):=by kernel_rfl
@[simp] theorem afB:aH env.P 27=(some 1):=by kernel_rfl
@[simp] theorem aiL:dq env.P 27=(some false):=by kernel_rfl
@[simp] theorem ag4:rB env.P 27=(some 1):=by kernel_rfl
@[simp] theorem acu:intKind env.P 27=(some .u32):=by kernel_rfl
@[simp] theorem aid:(env.P.underlying 27).isNone=false:=by kernel_rfl
@[simp] theorem afA:aH env.P 29=(some 2):=by kernel_rfl
@[simp] theorem aiK:dq env.P 29=(some true):=by kernel_rfl
@[simp] theorem aiv:kP env.P 29=none:=by kernel_rfl
@[simp] theorem afo:eI env.P 29=(some (.agg [(a8 0),(ae 0)])):=by kernel_rfl
@[simp] theorem ag3:rB env.P 29=none:=by kernel_rfl
@[simp] theorem ajl:Jo env.P 29=true:=by kernel_rfl
@[simp] theorem OX:jF env.P 29=(some [5,27]):=by kernel_rfl
@[simp] theorem aeq:placesOf env.P 29=(some [(0,1),(1,1)]):=by kernel_rfl
@[simp] theorem aaV:aq env.P 29 0=(some (0,1)):=by kernel_rfl
@[simp] theorem aaK:aq env.P 29 1=(some (1,1)):=by kernel_rfl
@[simp] theorem afz:aH env.P 31=(some 3):=by kernel_rfl
@[simp] theorem aiJ:dq env.P 31=(some true):=by kernel_rfl
@[simp] theorem aiu:kP env.P 31=none:=by kernel_rfl
@[simp] theorem afn:eI env.P 31=(some (.agg [(a8 0),(ae 0),(a8 0)])):=by kernel_rfl
@[simp] theorem ag2:rB env.P 31=none:=by kernel_rfl
@[simp] theorem ajk:Jo env.P 31=true:=by kernel_rfl
@[simp] theorem OW:jF env.P 31=(some [29,5]):=by kernel_rfl
@[simp] theorem aep:placesOf env.P 31=(some [(0,2),(2,1)]):=by kernel_rfl
@[simp] theorem aaU:aq env.P 31 0=(some (0,2)):=by kernel_rfl
@[simp] theorem aaJ:aq env.P 31 1=(some (2,1)):=by kernel_rfl
@[simp] theorem afy:aH env.P 33=(some 4):=by kernel_rfl
@[simp] theorem aiI:dq env.P 33=(some true):=by kernel_rfl
@[simp] theorem ait:kP env.P 33=none:=by kernel_rfl
@[simp] theorem afm:eI env.P 33=(some (.agg [(a8 0),(ae 0),(a8 0),(.v (.int .i64 0))])):=by kernel_rfl
@[simp] theorem ag1:rB env.P 33=none:=by kernel_rfl
@[simp] theorem ajj:Jo env.P 33=true:=by kernel_rfl
@[simp] theorem OV:jF env.P 33=(some [31,3]):=by kernel_rfl
@[simp] theorem aeo:placesOf env.P 33=(some [(0,3),(3,1)]):=by kernel_rfl
@[simp] theorem aaT:aq env.P 33 0=(some (0,3)):=by kernel_rfl
@[simp] theorem aaI:aq env.P 33 1=(some (3,1)):=by kernel_rfl
@[simp] theorem afx:aH env.P 35=(some 5):=by kernel_rfl
@[simp] theorem aiH:dq env.P 35=(some true):=by kernel_rfl
@[simp] theorem ag0:rB env.P 35=none:=by kernel_rfl
@[simp] theorem aji:Jo env.P 35=true:=by kernel_rfl
@[simp] theorem OU:jF env.P 35=(some [33,3]):=by kernel_rfl
@[simp] theorem aaS:aq env.P 35 0=(some (0,4)):=by kernel_rfl
@[simp] theorem aaH:aq env.P 35 1=(some (4,1)):=by kernel_rfl
@[simp] theorem afw:aH env.P 36=(some 1):=by kernel_rfl
@[simp] theorem aiG:dq env.P 36=(some false):=by kernel_rfl
@[simp] theorem UL:dY env.P 36=(some 21):=by kernel_rfl
@[simp] theorem ais:kP env.P 36=none:=by kernel_rfl
@[simp] theorem ag8:isStr env.P 36=false:=by kernel_rfl
@[simp] theorem akB:JL env.P 36=true:=by kernel_rfl
@[simp] theorem ajx:qU env.P 36=true:=by kernel_rfl
@[simp] theorem ako:oE env.P 36=1:=by kernel_rfl
@[simp] theorem ajC:wz env.P 36=4:=by kernel_rfl
@[simp] theorem aeX:jZ env.P 36=(.v (.int .i32 0)):=by kernel_rfl
@[simp] theorem afv:aH env.P 38=(some 17):=by kernel_rfl
@[simp] theorem aiF:dq env.P 38=(some true):=by kernel_rfl
@[simp] theorem air:kP env.P 38=none:=by kernel_rfl
@[simp] theorem afl:eI env.P 38=(some (.agg [(a8 0),(a8 0),(ae 0),(a8 0),(.v (.int .i64 0)),(a8 0),(ae 0),(a8 0),(.v (.int .i64 0)),(.v (.int .i64 0)),(a8 0),(ae 0),(a8 0),(.v (.int .i64 0)),(a8 0),(ae 0),(.v (.slice none 0 0))])):=by kernel_rfl
@[simp] theorem OT:jF env.P 38=(some [5,31,3,35,33,29,36]):=by kernel_rfl
@[simp] theorem aen:placesOf env.P 38=(some [(0,1),(1,3),(4,1),(5,5),(10,4),(14,2),(16,1)]):=by kernel_rfl
@[simp] theorem aaR:aq env.P 38 0=(some (0,1)):=by kernel_rfl
@[simp] theorem aaG:aq env.P 38 1=(some (1,3)):=by kernel_rfl
@[simp] theorem aaz:aq env.P 38 2=(some (4,1)):=by kernel_rfl
@[simp] theorem aav:aq env.P 38 3=(some (5,5)):=by kernel_rfl
@[simp] theorem aas:aq env.P 38 4=(some (10,4)):=by kernel_rfl
@[simp] theorem aaq:aq env.P 38 5=(some (14,2)):=by kernel_rfl
@[simp] theorem aap:aq env.P 38 6=(some (16,1)):=by kernel_rfl
@[simp] theorem afu:aH env.P 41=(some 1):=by kernel_rfl
@[simp] theorem aiE:dq env.P 41=(some false):=by kernel_rfl
@[simp] theorem afG:dY env.P 41=(some 38):=by kernel_rfl
@[simp] theorem aiq:kP env.P 41=none:=by kernel_rfl
@[simp] theorem ag7:isStr env.P 41=false:=by kernel_rfl
@[simp] theorem akA:JL env.P 41=true:=by kernel_rfl
@[simp] theorem ajw:qU env.P 41=true:=by kernel_rfl
@[simp] theorem akn:oE env.P 41=17:=by kernel_rfl
@[simp] theorem ajB:wz env.P 41=112:=by kernel_rfl
@[simp] theorem aeW:jZ env.P 41=(.agg [(a8 0),(a8 0),(ae 0),(a8 0),(.v (.int .i64 0)),(a8 0),(ae 0),(a8 0),(.v (.int .i64 0)),(.v (.int .i64 0)),(a8 0),(ae 0),(a8 0),(.v (.int .i64 0)),(a8 0),(ae 0),(.v (.slice none 0 0))]):=by kernel_rfl
@[simp] theorem aft:aH env.P 42=(some 1):=by kernel_rfl
@[simp] theorem aiD:dq env.P 42=(some false):=by kernel_rfl
@[simp] theorem acs:intKind env.P 42=(some .i64):=by kernel_rfl
@[simp] theorem aic:(env.P.underlying 42).isNone=false:=by kernel_rfl
@[simp] theorem UJ:aH env.P 58=(some 3):=by kernel_rfl
@[simp] theorem X0:dq env.P 58=(some true):=by kernel_rfl
@[simp] theorem afk:eI env.P 58=(some (.agg [(a8 0),(ae 0),(.v (.bool false))])):=by kernel_rfl
@[simp] theorem agZ:rB env.P 58=none:=by kernel_rfl
@[simp] theorem Gm:jF env.P 58=(some [29,4]):=by kernel_rfl
@[simp] theorem aaQ:aq env.P 58 0=(some (0,2)):=by kernel_rfl
@[simp] theorem aaF:aq env.P 58 1=(some (2,1)):=by kernel_rfl
@[simp] theorem afs:aH env.P 60=(some 4):=by kernel_rfl
@[simp] theorem aiC:dq env.P 60=(some true):=by kernel_rfl
@[simp] theorem aip:kP env.P 60=none:=by kernel_rfl
@[simp] theorem afj:eI env.P 60=(some (.agg [(.v (.int .i64 0)),(a8 0),(ae 0),(.v (.bool false))])):=by kernel_rfl
@[simp] theorem agY:rB env.P 60=none:=by kernel_rfl
@[simp] theorem ajh:Jo env.P 60=true:=by kernel_rfl
@[simp] theorem OS:jF env.P 60=(some [3,58]):=by kernel_rfl
@[simp] theorem aem:placesOf env.P 60=(some [(0,1),(1,3)]):=by kernel_rfl
@[simp] theorem aaP:aq env.P 60 0=(some (0,1)):=by kernel_rfl
@[simp] theorem aaE:aq env.P 60 1=(some (1,3)):=by kernel_rfl
@[simp] theorem UI:aH env.P 62=(some 24):=by kernel_rfl
@[simp] theorem XZ:dq env.P 62=(some true):=by kernel_rfl
@[simp] theorem aio:kP env.P 62=none:=by kernel_rfl
@[simp] theorem afi:eI env.P 62=(some (.agg [(a8 0),(.v (.int .i64 0)),(a8 0),(a8 0),(ae 0),(a8 0),(.v (.int .i64 0)),(a8 0),(ae 0),(a8 0),(.v (.int .i64 0)),(.v (.int .i64 0)),(a8 0),(ae 0),(a8 0),(.v (.int .i64 0)),(a8 0),(ae 0),(.v (.slice none 0 0)),(.v (.int .i64 0)),(.v (.int .i64 0)),(a8 0),(ae 0),(.v (.bool false))])):=by kernel_rfl
@[simp] theorem OR:jF env.P 62=(some [5,3,38,42,60]):=by kernel_rfl
@[simp] theorem ael:placesOf env.P 62=(some [(0,1),(1,1),(2,17),(19,1),(20,4)]):=by kernel_rfl
@[simp] theorem aaO:aq env.P 62 0=(some (0,1)):=by kernel_rfl
@[simp] theorem aaD:aq env.P 62 1=(some (1,1)):=by kernel_rfl
@[simp] theorem aay:aq env.P 62 2=(some (2,17)):=by kernel_rfl
@[simp] theorem aau:aq env.P 62 3=(some (19,1)):=by kernel_rfl
@[simp] theorem aar:aq env.P 62 4=(some (20,4)):=by kernel_rfl
@[simp] theorem afr:aH env.P 73=(some 3):=by kernel_rfl
@[simp] theorem aiB:dq env.P 73=(some true):=by kernel_rfl
@[simp] theorem ain:kP env.P 73=none:=by kernel_rfl
@[simp] theorem afh:eI env.P 73=(some (.agg [(.v (.bool false)),(.v (.int .i64 0)),(.v (.int .i64 0))])):=by kernel_rfl
@[simp] theorem aek:placesOf env.P 73=(some [(0,1),(1,1),(2,1)]):=by kernel_rfl
@[simp] theorem Z8:nT env.P 73 0=(some (0,4)):=by kernel_rfl
@[simp] theorem aaN:aq env.P 73 0=(some (0,1)):=by kernel_rfl
@[simp] theorem aaC:aq env.P 73 1=(some (1,1)):=by kernel_rfl
@[simp] theorem Z6:nT env.P 73 2=(some (2,3)):=by kernel_rfl
@[simp] theorem aax:aq env.P 73 2=(some (2,1)):=by kernel_rfl
@[simp] theorem UH:aH env.P 81=(some 5):=by kernel_rfl
@[simp] theorem XY:dq env.P 81=(some true):=by kernel_rfl
@[simp] theorem aim:kP env.P 81=none:=by kernel_rfl
@[simp] theorem afg:eI env.P 81=(some (.agg [(a8 0),(ae 0),(.v (.int .i64 0)),(.v (.int .i64 0)),(.v (.int .i64 0))])):=by kernel_rfl
@[simp] theorem OQ:jF env.P 81=(some [29,3,3,3]):=by kernel_rfl
@[simp] theorem aej:placesOf env.P 81=(some [(0,2),(2,1),(3,1),(4,1)]):=by kernel_rfl
@[simp] theorem aaM:aq env.P 81 0=(some (0,2)):=by kernel_rfl
@[simp] theorem Z7:nT env.P 81 1=(some (2,3)):=by kernel_rfl
@[simp] theorem aaB:aq env.P 81 1=(some (2,1)):=by kernel_rfl
@[simp] theorem Z5:nT env.P 81 2=(some (3,3)):=by kernel_rfl
@[simp] theorem aaw:aq env.P 81 2=(some (3,1)):=by kernel_rfl
@[simp] theorem Z4:nT env.P 81 3=(some (4,3)):=by kernel_rfl
@[simp] theorem aat:aq env.P 81 3=(some (4,1)):=by kernel_rfl
@[simp] theorem afq:aH env.P 90=(some 1):=by kernel_rfl
@[simp] theorem aiA:dq env.P 90=(some false):=by kernel_rfl
@[simp] theorem adS:aH env.P 107=(some 26):=by kernel_rfl
@[simp] theorem agd:dq env.P 107=(some true):=by kernel_rfl
@[simp] theorem afX:kP env.P 107=none:=by kernel_rfl
@[simp] theorem ady:eI env.P 107=(some (.agg [(.v (.int .i64 0)),(.v (.bool false)),(a8 0),(.v (.int .i64 0)),(a8 0),(a8 0),(ae 0),(a8 0),(.v (.int .i64 0)),(a8 0),(ae 0),(a8 0),(.v (.int .i64 0)),(.v (.int .i64 0)),(a8 0),(ae 0),(a8 0),(.v (.int .i64 0)),(a8 0),(ae 0),(.v (.slice none 0 0)),(.v (.int .i64 0)),(.v (.int .i64 0)),(a8 0),(ae 0),(.v (.bool false))])):=by kernel_rfl
@[simp] theorem abY:placesOf env.P 107=(some [(0,1),(1,1),(2,24)]):=by kernel_rfl
@[simp] theorem Zo:aq env.P 107 0=(some (0,1)):=by kernel_rfl
@[simp] theorem Zg:aq env.P 107 1=(some (1,1)):=by kernel_rfl
@[simp] theorem Za:aq env.P 107 2=(some (2,24)):=by kernel_rfl
@[simp] theorem adR:aH env.P 126=(some 1):=by kernel_rfl
@[simp] theorem agc:dq env.P 126=(some false):=by kernel_rfl
@[simp] theorem adQ:aH env.P 127=(some 1):=by kernel_rfl
@[simp] theorem agb:dq env.P 127=(some false):=by kernel_rfl
@[simp] theorem adP:aH env.P 129=(some 10):=by kernel_rfl
@[simp] theorem afW:kP env.P 129=none:=by kernel_rfl
@[simp] theorem adx:eI env.P 129=(some (.agg [(.v (.slice none 0 0)),(.v (.slice none 0 0)),(.v (.int .i64 0)),(.v (.slice none 0 0)),(.v (.slice none 0 0)),(.v (.int .i64 0)),(.v (.slice none 0 0)),(.v (.map none)),(.v (.map none)),(.v (.slice none 0 0))])):=by kernel_rfl
@[simp] theorem abX:placesOf env.P 129=(some [(0,3),(3,3),(6,1),(7,1),(8,1),(9,1)]):=by kernel_rfl
@[simp] theorem Zn:aq env.P 129 0=(some (0,3)):=by kernel_rfl
@[simp] theorem Zf:aq env.P 129 1=(some (3,3)):=by kernel_rfl
@[simp] theorem Y9:aq env.P 129 2=(some (6,1)):=by kernel_rfl
@[simp] theorem Y6:aq env.P 129 3=(some (7,1)):=by kernel_rfl
@[simp] theorem Y4:aq env.P 129 4=(some (8,1)):=by kernel_rfl
@[simp] theorem Y3:aq env.P 129 5=(some (9,1)):=by kernel_rfl
@[simp] theorem adO:aH env.P 137=(some 1):=by kernel_rfl
@[simp] theorem aga:dq env.P 137=(some false):=by kernel_rfl
@[simp] theorem adN:aH env.P 147=(some 1):=by kernel_rfl
@[simp] theorem af9:dq env.P 147=(some false):=by kernel_rfl
@[simp] theorem adM:aH env.P 148=(some 1):=by kernel_rfl
@[simp] theorem af8:dq env.P 148=(some false):=by kernel_rfl
@[simp] theorem XW:nT env.P 150 0=(some (0,147)):=by kernel_rfl
@[simp] theorem XU:nT env.P 150 1=(some (1,148)):=by kernel_rfl
@[simp] theorem adL:aH env.P 170=(some 1):=by kernel_rfl
@[simp] theorem af7:dq env.P 170=(some false):=by kernel_rfl
@[simp] theorem ad0:dY env.P 170=(some 5):=by kernel_rfl
@[simp] theorem afV:kP env.P 170=none:=by kernel_rfl
@[simp] theorem aeG:isStr env.P 170=false:=by kernel_rfl
@[simp] theorem ajR:JL env.P 170=true:=by kernel_rfl
@[simp] theorem ahK:qU env.P 170=true:=by kernel_rfl
@[simp] theorem aju:oE env.P 170=1:=by kernel_rfl
@[simp] theorem ahO:wz env.P 170=1:=by kernel_rfl
@[simp] theorem acX:jZ env.P 170=(a8 0):=by kernel_rfl
@[simp] theorem adK:aH env.P 173=(some 24):=by kernel_rfl
@[simp] theorem afU:kP env.P 173=none:=by kernel_rfl
@[simp] theorem adw:eI env.P 173=(some (.agg [(a8 0),(.v (.int .i64 0)),(a8 0),(a8 0),(ae 0),(a8 0),(.v (.int .i64 0)),(a8 0),(ae 0),(a8 0),(.v (.int .i64 0)),(.v (.int .i64 0)),(a8 0),(ae 0),(a8 0),(.v (.int .i64 0)),(a8 0),(ae 0),(.v (.slice none 0 0)),(.v (.int .i64 0)),(.v (.int .i64 0)),(a8 0),(ae 0),(.v (.bool false))])):=by kernel_rfl
@[simp] theorem abW:placesOf env.P 173=(some [(0,24)]):=by kernel_rfl
@[simp] theorem Zm:aq env.P 173 0=(some (0,24)):=by kernel_rfl
@[simp] theorem adJ:aH env.P 180=(some 1):=by kernel_rfl
@[simp] theorem af6:dq env.P 180=(some false):=by kernel_rfl
@[simp] theorem adI:aH env.P 185=(some 16):=by kernel_rfl
@[simp] theorem af5:dq env.P 185=(some true):=by kernel_rfl
@[simp] theorem afT:kP env.P 185=none:=by kernel_rfl
@[simp] theorem adv:eI env.P 185=(some (.agg [(.v (.bool false)),(.v (.int .i64 0)),(.v (.int .i64 0)),(.v (.slice none 0 0)),(.v (.slice none 0 0)),(.v (.int .i64 0)),(a8 0),(ae 0),(.v (.int .i64 0)),(.v (.int .i64 0)),(.v (.int .i64 0)),(a8 0),(ae 0),(.v (.int .i64 0)),(.v (.int .i64 0)),(.v (.int .i64 0))])):=by kernel_rfl
@[simp] theorem abV:placesOf env.P 185=(some [(0,3),(3,3),(6,5),(11,5)]):=by kernel_rfl
@[simp] theorem Zl:aq env.P 185 0=(some (0,3)):=by kernel_rfl
@[simp] theorem Ze:aq env.P 185 1=(some (3,3)):=by kernel_rfl
@[simp] theorem Y8:aq env.P 185 2=(some (6,5)):=by kernel_rfl
@[simp] theorem Y5:aq env.P 185 3=(some (11,5)):=by kernel_rfl
@[simp] theorem adH:aH env.P 190=(some 1):=by kernel_rfl
@[simp] theorem af4:dq env.P 190=(some false):=by kernel_rfl
@[simp] theorem adG:aH env.P 193=(some 2):=by kernel_rfl
@[simp] theorem af3:dq env.P 193=(some true):=by kernel_rfl
@[simp] theorem afS:kP env.P 193=none:=by kernel_rfl
@[simp] theorem adu:eI env.P 193=(some (.agg [(.v .nilFunc),(.v .nilFunc)])):=by kernel_rfl
@[simp] theorem abU:placesOf env.P 193=(some [(0,1),(1,1)]):=by kernel_rfl
@[simp] theorem Zk:aq env.P 193 0=(some (0,1)):=by kernel_rfl
@[simp] theorem Zd:aq env.P 193 1=(some (1,1)):=by kernel_rfl
@[simp] theorem adF:aH env.P 203=(some 2):=by kernel_rfl
@[simp] theorem af2:dq env.P 203=(some true):=by kernel_rfl
@[simp] theorem XV:nT env.P 203 0=(some (0,137)):=by kernel_rfl
@[simp] theorem afR:kP env.P 204=(some (4,203)):=by kernel_rfl
@[simp] theorem aan:intKind env.P 223=(some .u64):=by kernel_rfl
@[simp] theorem adE:aH env.P 230=(some 1):=by kernel_rfl
@[simp] theorem af1:dq env.P 230=(some false):=by kernel_rfl
@[simp] theorem adZ:dY env.P 235=(some 193):=by kernel_rfl
@[simp] theorem afQ:kP env.P 235=none:=by kernel_rfl
@[simp] theorem aeF:isStr env.P 235=false:=by kernel_rfl
@[simp] theorem ahJ:qU env.P 235=true:=by kernel_rfl
@[simp] theorem ajt:oE env.P 235=2:=by kernel_rfl
@[simp] theorem acW:jZ env.P 235=(.agg [(.v .nilFunc),(.v .nilFunc)]):=by kernel_rfl
@[simp] theorem adY:dY env.P 242=(some 275):=by kernel_rfl
@[simp] theorem afP:kP env.P 242=none:=by kernel_rfl
@[simp] theorem aeE:isStr env.P 242=false:=by kernel_rfl
@[simp] theorem ajQ:JL env.P 242=true:=by kernel_rfl
@[simp] theorem ajv:elT env.P 242 9 56=true:=by kernel_rfl
@[simp] theorem ahI:qU env.P 242=true:=by kernel_rfl
@[simp] theorem ajs:oE env.P 242=9:=by kernel_rfl
@[simp] theorem ahN:wz env.P 242=56:=by kernel_rfl
@[simp] theorem acV:jZ env.P 242=(.agg [(a8 0),(ae 0),(a8 0),(.v (.int .i64 0)),(a8 0),(ae 0),(a8 0),(.v (.int .i64 0)),(.v (.int .i32 0))]):=by kernel_rfl
@[simp] theorem adX:dY env.P 244=(some 33):=by kernel_rfl
@[simp] theorem afO:kP env.P 244=none:=by kernel_rfl
@[simp] theorem aeD:isStr env.P 244=false:=by kernel_rfl
@[simp] theorem ajP:JL env.P 244=true:=by kernel_rfl
@[simp] theorem ahH:qU env.P 244=true:=by kernel_rfl
@[simp] theorem ajr:oE env.P 244=4:=by kernel_rfl
@[simp] theorem ahM:wz env.P 244=24:=by kernel_rfl
@[simp] theorem acU:jZ env.P 244=(.agg [(a8 0),(ae 0),(a8 0),(.v (.int .i64 0))]):=by kernel_rfl
@[simp] theorem adD:aH env.P 249=(some 10):=by kernel_rfl
@[simp] theorem af0:dq env.P 249=(some true):=by kernel_rfl
@[simp] theorem afN:kP env.P 249=none:=by kernel_rfl
@[simp] theorem adt:eI env.P 249=(some (.agg [(a8 0),(ae 0),(a8 0),(.v (.int .i64 0)),(.v (.int .i64 0)),(a8 0),(ae 0),(a8 0),(.v (.int .i64 0)),(.v (.slice none 0 0))])):=by kernel_rfl
@[simp] theorem abT:placesOf env.P 249=(some [(0,5),(5,4),(9,1)]):=by kernel_rfl
@[simp] theorem Zj:aq env.P 249 0=(some (0,5)):=by kernel_rfl
@[simp] theorem Zc:aq env.P 249 1=(some (5,4)):=by kernel_rfl
@[simp] theorem Y7:aq env.P 249 2=(some (9,1)):=by kernel_rfl
@[simp] theorem adW:dY env.P 262=(some 4):=by kernel_rfl
@[simp] theorem afM:kP env.P 262=none:=by kernel_rfl
@[simp] theorem aeC:isStr env.P 262=false:=by kernel_rfl
@[simp] theorem ahG:qU env.P 262=true:=by kernel_rfl
@[simp] theorem ajq:oE env.P 262=1:=by kernel_rfl
@[simp] theorem acT:jZ env.P 262=(.v (.bool false)):=by kernel_rfl
@[simp] theorem adC:aH env.P 264=(some 1):=by kernel_rfl
@[simp] theorem afZ:dq env.P 264=(some false):=by kernel_rfl
@[simp] theorem adB:aH env.P 266=(some 2):=by kernel_rfl
@[simp] theorem afL:kP env.P 266=none:=by kernel_rfl
@[simp] theorem ads:eI env.P 266=(some (.agg [(.v (.slice none 0 0)),(.v (.map none))])):=by kernel_rfl
@[simp] theorem abS:placesOf env.P 266=(some [(0,1),(1,1)]):=by kernel_rfl
@[simp] theorem Zi:aq env.P 266 0=(some (0,1)):=by kernel_rfl
@[simp] theorem Zb:aq env.P 266 1=(some (1,1)):=by kernel_rfl
@[simp] theorem adV:dY env.P 273=(some 249):=by kernel_rfl
@[simp] theorem afK:kP env.P 273=none:=by kernel_rfl
@[simp] theorem aeB:isStr env.P 273=false:=by kernel_rfl
@[simp] theorem ahF:qU env.P 273=true:=by kernel_rfl
@[simp] theorem ajp:oE env.P 273=10:=by kernel_rfl
@[simp] theorem acS:jZ env.P 273=(.agg [(a8 0),(ae 0),(a8 0),(.v (.int .i64 0)),(.v (.int .i64 0)),(a8 0),(ae 0),(a8 0),(.v (.int .i64 0)),(.v (.slice none 0 0))]):=by kernel_rfl
@[simp] theorem adA:aH env.P 275=(some 9):=by kernel_rfl
@[simp] theorem afJ:kP env.P 275=none:=by kernel_rfl
@[simp] theorem adr:eI env.P 275=(some (.agg [(a8 0),(ae 0),(a8 0),(.v (.int .i64 0)),(a8 0),(ae 0),(a8 0),(.v (.int .i64 0)),(.v (.int .i32 0))])):=by kernel_rfl
@[simp] theorem abR:placesOf env.P 275=(some [(0,4),(4,4),(8,1)]):=by kernel_rfl
@[simp] theorem Zh:aq env.P 275 0=(some (0,4)):=by kernel_rfl
@[simp] theorem adz:aH env.P 277=(some 1):=by kernel_rfl
@[simp] theorem afY:dq env.P 277=(some false):=by kernel_rfl
@[simp] theorem adU:dY env.P 277=(some 29):=by kernel_rfl
@[simp] theorem afI:kP env.P 277=none:=by kernel_rfl
@[simp] theorem aeA:isStr env.P 277=false:=by kernel_rfl
@[simp] theorem adq:eI env.P 277=(some (.v (.slice none 0 0))):=by kernel_rfl
@[simp] theorem ajO:JL env.P 277=true:=by kernel_rfl
@[simp] theorem ahE:qU env.P 277=true:=by kernel_rfl
@[simp] theorem ajo:oE env.P 277=2:=by kernel_rfl
@[simp] theorem ahL:wz env.P 277=8:=by kernel_rfl
@[simp] theorem acR:jZ env.P 277=(.agg [(a8 0),(ae 0)]):=by kernel_rfl
@[simp] theorem adT:dY env.P 279=(some 170):=by kernel_rfl
@[simp] theorem afH:kP env.P 279=none:=by kernel_rfl
@[simp] theorem aez:isStr env.P 279=false:=by kernel_rfl
@[simp] theorem ahD:qU env.P 279=true:=by kernel_rfl
@[simp] theorem ajn:oE env.P 279=1:=by kernel_rfl
@[simp] theorem acQ:jZ env.P 279=(.v (.slice none 0 0)):=by kernel_rfl
structure Clear where
 lv:UInt8
 cats:UInt32
 ok:Bool
deriving DecidableEq,Inhabited
structure ah where
 lv:UInt8
 cats:UInt32
 opens:Int
 ops:Int
 cells:Int
deriving DecidableEq,Inhabited
def Clear.enc(c:Clear):List AV:=[a8 c.lv,ae c.cats,aB c.ok]
def ah.enc(q:ah):List AV:=[a8 q.lv,ae q.cats,aI q.opens,aI q.ops,aI q.cells]
abbrev bR(l:List Clear):List AV:=l.map λc => .agg c.enc
abbrev bL(l:List ah):List AV:=l.map λq => .agg q.enc
abbrev ahC(l:List Bool):List AV:=l.map aB
theorem agP(a b:Int):(!decide (a<b))=decide (b<=a):=by
 by_cases h:a<b
 ·simp[h,Int.not_le.2 h]
 ·simp[h,Int.not_lt.1 h]
def Au(a:UInt8):Int:=if 15<a then 8 else 0
@[simp] theorem aam(a:UInt8):Au a=0↔a<=15:=by
 unfold Au
 split
 ·rename_i h;simp;exact h
 ·rename_i h;simp;exact UInt8.not_lt.1 h
def WB(a:UInt8)(b:UInt32)(c:UInt8)(d:UInt32):Bool:=decide (a<=c)&&decide (b &&& ~~~d=0)
def JB(a:UInt8)(b:UInt32)(c:UInt8)(d:UInt32):Bool:=decide (a<c)||(decide (a=c)&&decide (b<d))
def o8(v:UInt8)(c:UInt32)(ok:Bool):Bool:=decide (v<=15)&&(ok||(decide (v=0)&&decide (c=0)))
def ah3(n:Int)(q:ah):Int:=IntKind.i64.wrap (n+IntKind.i64.wrap (q.opens+IntKind.i64.wrap (4 * q.ops)))
def sN(n:Int)(l:List ah):Int:=l.foldl ah3 n
def ac1(c:Int):Int:=if 4096<(if c<0 then 0 else c) then 4096 else if c<0 then 0 else c
def ah4(n:Int)(q:ah):Int:=IntKind.i64.wrap (n+ac1 q.cells)
def cellsOf(n:Int)(l:List ah):Int:=l.foldl ah4 n
def Fl(q:ah):Bool:=decide (Au q.lv=0)&&(decide (0<=q.opens)&&decide (q.opens<=64)&&(decide (0<=q.ops)&&decide (q.ops<=256)&&(decide (0<=q.cells)&&decide (q.cells<=4096))))
def Ed(p q:ah):Bool:=JB p.lv p.cats q.lv q.cats
def Am:Option ah->List ah->Bool
 | _,[]=>true
 | p,q :: l=>(Fl q&&(match p with | none=>true | some p=>Ed p q))&&Am (some q) l
def tY(us:List Clear)(qs:List ah)(gr:Int):Bool:=
 decide (us.length<=8)&&decide (qs.length<=8)&&(decide (0<=gr)&&decide (gr<=64))&&us.all (λc=>o8 c.lv c.cats c.ok)&&Am none qs&&(decide (sN gr qs<=2048)&&decide (cellsOf 0 (qs.take 8)<=8192))
def oU(us:List Clear)(qs:List ah)(gr:Int)(a:UInt8):Int:=if Au a>bad (tY us qs gr) then Au a else bad (tY us qs gr)
def eL(us:List Clear)(c:Int)(a:UInt8)(b:UInt32):Bool:=
 if h:0<=c/\c<us.length then us[c.toNat].ok&&WB a b us[c.toNat].lv us[c.toNat].cats else false
def xA(a:UInt8)(b:UInt32)(q:ah):Bool:=decide (q.lv=a)&&decide (q.cats=b)
def RV(a:UInt8)(b:UInt32):Option ah->ah
 | some q=>q
 | none=>⟨a,b,0,0,0⟩
@[simp] theorem QH(a:UInt8)(b:UInt32)(q:ah):RV a b (some q)=q:=id rfl
@[simp] theorem QI(a:UInt8)(b:UInt32):RV a b none=⟨a,b,0,0,0⟩:=id rfl
def la(qs:List ah)(a:UInt8)(b:UInt32):ah:=RV a b (qs.find? (xA a b))
def GL(n:Int)(l:List ah):Int:=l.foldl (λn q=>n+q.opens+4 * q.ops) n
def US(n:Int)(l:List ah):Int:=l.foldl (λn q=>n+q.cells) n
theorem GZ{q:ah}(h:Fl q=true):0<=q.opens/\q.opens<=64/\0<=q.ops/\q.ops<=256/\0<=q.cells/\q.cells<=4096:=by
 simp only[Fl,aY,decide_eq_true_eq]at h
 omega
theorem NV : ∀ {l:List ah} {p:Option ah},Am p l=true ->∀q∈l,Fl q=true:=by
 intro l
 induction l with
 | nil=>intro p _ q a;simp at a
 | cons x l b=>
  intro p h q a
  simp only[Am,aY]at h
  rcases nB.1 a with rfl | a
  ·exact h.1.1
  ·exact b h.2 q a
theorem MD : ∀ {l:List ah} {n:Int},(∀q∈l,Fl q=true)->0<=n->n+1088 * l.length<=4611686018427387904->sN n l=GL n l/\n<=GL n l/\GL n l<=n+1088 * l.length:=by
 intro l
 induction l with
 | nil=>intro n _ d a;simp[sN,GL]
 | cons q l b=>
  intro n h d a
  have i:=GZ (h q (jB ..))
  simp only[sc]at a ⊢
  have c:IntKind.i64.wrap (4 * q.ops)=4 * q.ops:=IntWalk.i64_in _ (by omega)
  have g:IntKind.i64.wrap (q.opens+4 * q.ops)=q.opens+4 * q.ops:=IntWalk.i64_in _ (by omega)
  have e:IntKind.i64.wrap (n+(q.opens+4 * q.ops))=n+q.opens+4 * q.ops:=by rw[IntWalk.i64_in _ (by omega)];omega
  have:=b (n:=n+q.opens+4 * q.ops) (λx f=>h x (iA _ f)) (by omega) (by omega)
  simp only[sN,GL,w8,ah3,c,g,e]at this ⊢
  omega
theorem O9 : ∀ {l:List ah} {n:Int},(∀q∈l,Fl q=true)->0<=n->n+4096 * l.length<=4611686018427387904->cellsOf n l=US n l:=by
 intro l
 induction l with
 | nil=>intro n _ f a;rfl
 | cons q l b=>
  intro n h f a
  have g:=GZ (h q (jB ..))
  simp only[sc]at a
  have e:ac1 q.cells=q.cells:=by unfold ac1;(repeat rw[if_neg (by omega)])
  have d:IntKind.i64.wrap (n+q.cells)=n+q.cells:=IntWalk.i64_in _ (by omega)
  have:=b (n:=n+q.cells) (λx c=>h x (iA _ c)) (by omega) (by omega)
  simp only[cellsOf,US,w8,ah4,e,d]at this ⊢
  exact this
theorem N7(us:List Clear)(qs:List ah)(gr:Int):tY us qs gr=(decide (us.length<=8)&&decide (qs.length<=8)&&(decide (0<=gr)&&decide (gr<=64))&&us.all (λc=>o8 c.lv c.cats c.ok)&&Am none qs&&(decide (GL gr qs<=2048)&&decide (US 0 qs<=8192))):=by
 unfold tY
 by_cases b:qs.length<=8
 ·by_cases e:0<=gr/\gr<=64
  ·cases d:Am none qs with
   | false=>simp
   | true=>
    have a:=NV d
    have f:=MD (n:=gr) a e.1 (by omega)
    have g:=O9 (n:=0) a (by omega) (by omega)
    rw[fe b,f.1,g]
  ·have:(decide (0<=gr)&&decide (gr<=64))=false:=by simp;omega
   simp[this]
 ·simp[b]
end
section
variable(dep:Nat)(g:Nat->AV)(x0 a:AV)(H:aa)(Q:AV->aa->Prop)
def AH:Prop:=
 aZ H 2 29 x0 λj n=>
 aZ n 3 29 a λk c=>
 af 29 j 0 λt=>
 ad c 5 t λm=>
 af 29 k 0 λo=>
 ad c 5 o λq=>
 Rw 5 6 8 m q λb=>
 gQ b true (au 29 j 1) λl=>
 gQ b true (ar c 27 l) λp=>
 gQ b true (au 29 k 1) λi=>
 gQ b true (ar c 27 i) λf=>
 gQ b true (bY env.P .andNot 27 (Operand.tmp 12) (Operand.tmp 14) (some p) (some f)) λd=>
 gQ b true (bY env.P .eql 27 (Operand.tmp 15) (.const (.int .u32 0)) (some d) (some (ae 0))) λe=>
 bo b e λh=>
 Q h c
theorem DM(h : ∀g:cW,AH x0 a H Q):cP Tryz.f47 0 [(0,x0),(1,a)] H Q:=fk (by kernel_rfl) h
def wJ:Prop:=
 aZ H 1 29 x0 λc b=>
 af 29 c 0 λe=>
 ad b 5 e λf=>
 fB (bY env.P .gtr 5 (Operand.tmp 4) (.const (.int .u8 15)) (some f) (some (a8 15))) λd=>
 br (some d) (
 Q (.v (.int .i64 8)) b) (
 Q (.v (.int .i64 0)) b)
theorem Bv(h : ∀g:cW,wJ x0 H Q):cP Tryz.f76 0 [(0,x0)] H Q:=fk (by kernel_rfl) h
def wK:Prop:=
 aZ H 1 31 x0 λd f=>
 af 31 d 0 λj=>
 ad f 29 j λo=>
 aX true f 5 76 [o] λi e=>
 vO 42 5 0 i λb=>
 gQ b true (au 31 d 1) λm=>
 gQ b true (ar e 5 m) λk=>
 gQ b true (bY env.P .lss 5 (Operand.tmp 9) (.const (.int .u8 8)) (some k) (some (a8 8))) λh=>
 bo b h λl=>
 aX true e 12 159 [l] λc n=>
 Q c n
theorem C4(h : ∀g:cW,wK x0 H Q):cP Tryz.f91 0 [(0,x0)] H Q:=fk (by kernel_rfl) h
noncomputable def iN:=ug Tryz.f133 4
def rA:Nat->Option (List Nat):=λi=>cond (Nat.beq i 4) (some [5,1,0]) (none)
def mW:Prop:=
 cE H 7 36 x0 λc=>
 cE H 9 36 a λb=>
 yF 3 7 9 c b λd=>
 br (some d) (
 Q (.v (.bool false)) H) (
  bF env Tryz.f133 0 iN [(5,(.v (.int .i64 0))),(1,a),(0,x0)] H Q)
theorem za(h : ∀g:cW,mW x0 a H Q):cP Tryz.f133 0 [(0,x0),(1,a)] H Q:=wT rA (by kernel_rfl) h
def iO(g:Nat->AV)(b a x0:AV)(H:aa)(Q:AV->aa->Prop):Prop:=
 cE H 13 36 x0 λc=>
 dC 3 11 13 b c λh=>
 br (some h) (
 bJ H 36 x0 b λk=>
 ad H 21 k λf=>
 bJ H 36 a b λi=>
 ad H 21 i λj=>
 yF 21 20 24 f j λe=>
 br (some e) (
 Q (.v (.bool false)) H) (
 eD 3 15 1 b λd=>
  bF env Tryz.f133 0 iN [(5,d),(1,a),(0,x0)] H Q)) (
 Q (.v (.bool true)) H)
theorem pI(b a x0:AV)(H:aa)(Q:AV->aa->Prop)(h : ∀g,iO g b a x0 H Q):bF env Tryz.f133 0 iN [(5,b),(1,a),(0,x0)] H Q:=uX rA (by kernel_rfl) h
def mP:Prop:=
 aZ H 1 35 x0 λc w=>
 af 35 c 0 λz=>
 ad w 33 z λD=>
 aX true w 5 182 [D] λy d=>
 vO 42 5 0 y λe=>
 gQ e true (au 35 c 1) λC=>
 gQ e true (ar d 3 C) λA=>
 gQ e true (wY 3 9 1 A) λx=>
 bo e x λf=>
 gQ f true (au 35 c 1) λl=>
 gQ f true (ar d 3 l) λj=>
 gQ f true (AN 3 14 64 j) λh=>
 bo f h λb=>
 gQ b true (au 35 c 0) λk=>
 gQ b true (au 33 k 1) λv=>
 gQ b true (ar d 3 v) λq=>
 gQ b true (au 35 c 1) λn=>
 gQ b true (ar d 3 n) λu=>
 gQ b true (Ru 3 20 22 q u) λp=>
 gQ b true (Uq 3 23 1 p) λt=>
 gQ b true (AN 3 24 1099511627776 t) λm=>
 bo b m λo=>
 aX true d 27 159 [o] λi B=>
 Q i B
theorem Fe(h : ∀g:cW,mP x0 H Q):cP Tryz.f135 0 [(0,x0)] H Q:=fk (by kernel_rfl) h
def EP:Prop:=
 br (some x0) (
 Q (.v (.int .i64 0)) H) (
 Q (.v (.int .i64 8)) H)
theorem LA(h : ∀g:cW,EP x0 H Q):cP Tryz.f159 0 [(0,x0)] H Q:=fk (by kernel_rfl) h
def uo:Prop:=
 aZ H 1 31 x0 λb o=>
 ad o 31 b λy=>
 aX true o 6 91 [y] λq m=>
 kb 42 7 0 q λx=>
 br (some x) (
 Q (.tup [(.v (.slice none 0 0)),q]) m) (
 af 31 b 0 λA=>
 af 29 A 0 λC=>
 ad m 5 C λz=>
 Ul m 13 170 1 0 z λu k=>
 af 31 b 0 λB=>
 af 29 B 1 λh=>
 ad k 27 h λe=>
 q9 k 17 27 3 e λc=>
 aX false k 18 207 [c,(.v (.int .i64 4))] λd p=>
 jA (jG env.P false p (Ref.mk 0 19 (aa.gen p 0 19) 0) (some 170) (some 170) u d) λf t=>
 af 31 b 1 λi=>
 ad t 5 i λl=>
 Ul t 22 170 1 0 l λj w=>
 mX w 23 170 170 f j λn D=>
 Q (.tup [n,(.v (.int .i64 0))]) D)
theorem Fc(h : ∀g:cW,uo x0 H Q):cP Tryz.f162 0 [(0,x0)] H Q:=fk (by kernel_rfl) h
def B1:Prop:=
 aZ H 2 29 x0 λe C=>
 aZ C 3 29 a λj v=>
 af 29 j 0 λF=>
 ad v 5 F λz=>
 af 29 e 1 λD=>
 ad v 27 D λE=>
 rY 29 0 z 1 E λA=>
 eF v 5 29 λy B=>
 ax B 29 y A λG d=>
 af 29 e 0 λl=>
 ad d 5 l λk=>
 af 29 j 0 λf=>
 ad d 5 f λi=>
 dC 5 12 14 k i λb=>
 gQ b false (ar d 29 e) λx=>
 gQ b false (ar d 29 y) λt=>
 gQ b false (gT 29 17 18 x t) λn=>
 gQ b false (aU n) λc=>
 gQ c true (au 29 e 1) λq=>
 gQ c true (ar d 27 q) λu=>
 gQ c true (au 29 j 1) λm=>
 gQ c true (ar d 27 m) λo=>
 gQ c true (G5 27 22 24 u o) λh=>
 gQ b false (G4 c h) λw=>
 dn b w λp=>
 Q p d
theorem HZ(h : ∀g:cW,B1 x0 a H Q):cP Tryz.f169 0 [(0,x0),(1,a)] H Q:=fk (by kernel_rfl) h
def fC:Prop:=
 Up 36 3 x0 λc=>
 br (some c) (
 Q (.v (.slice none 0 0)) H) (
 Uk H 5 36 0 λd e=>
 mX e 7 36 36 d x0 λf b=>
 Q f b)
theorem tU(h : ∀g:cW,fC x0 H Q):cP Tryz.f173 0 [(0,x0)] H Q:=fk (by kernel_rfl) h
def ly:Prop:=
 aX true H 7 214 [x0,a] λc d=>
 w6 3 7 0 c λb=>
 Q b d
theorem rQ(h : ∀g:cW,ly x0 a H Q):cP Tryz.f176 0 [(0,x0),(1,a)] H Q:=fk (by kernel_rfl) h
def ER:Prop:=
 aZ H 1 33 x0 λe l=>
 af 33 e 0 λo=>
 ad l 31 o λu=>
 aX true l 5 91 [u] λn k=>
 vO 42 5 0 n λb=>
 gQ b true (au 33 e 1) λt=>
 gQ b true (ar k 3 t) λp=>
 gQ b true (wY 3 9 1 p) λm=>
 bo b m λc=>
 gQ c true (au 33 e 1) λj=>
 gQ c true (ar k 3 j) λh=>
 gQ c true (AN 3 14 1099511627776 h) λd=>
 bo c d λf=>
 aX true k 17 159 [f] λi q=>
 Q i q
theorem LB(h : ∀g:cW,ER x0 H Q):cP Tryz.f182 0 [(0,x0)] H Q:=fk (by kernel_rfl) h
def wI:Prop:=
 eF H 0 29 λc f=>
 mo 29 λe=>
 ax f 29 c e λh b=>
 bP b c 29 λd=>
 Q d b
theorem Bu(h : ∀g:cW,wI H Q):cP Tryz.f185 0 [] H Q:=fk (by kernel_rfl) h
def wG:Prop:=
 cE H 6 36 x0 λc=>
 Dr 3 6 64 c λd=>
 br (some d) (
 Q (.v (.int .i64 4)) H) (
 aX true H 11 217 [x0,(.fn (.func 215) [] [])] λe b=>
 br (some e) (
 Q (.v (.int .i64 8)) b) (
 Q (.v (.int .i64 0)) b))
theorem HS(h : ∀g:cW,wG x0 H Q):cP Tryz.f187 0 [(0,x0)] H Q:=fk (by kernel_rfl) h
noncomputable def u7:=ug Tryz.f207 2
def CL:Nat->Option (List Nat):=λi=>cond (Nat.beq i 2) (some [5,0,4]) (none)
def yA:Prop:=
 Ha 3 6 1 a λb=>
  bF env Tryz.f207 0 u7 [(5,b),(0,x0),(4,(.v (.slice none 0 0)))] H Q
theorem CG(h : ∀g:cW,yA x0 a H Q):cP Tryz.f207 0 [(0,x0),(1,a)] H Q:=wT CL (by kernel_rfl) h
def cO(g:Nat->AV)(b x0 c:AV)(H:aa)(Q:AV->aa->Prop):Prop:=
 w6 3 8 0 b λd=>
 br (some d) (
 Ur 3 8 14 b λf=>
 fB (bY env.P .shr 3 (Operand.tmp 13) (Operand.tmp 15) (some x0) (some f)) λm=>
 q9 H 17 3 5 m λe=>
 uB H 18 170 1 0 e λj i=>
 mX i 19 170 170 c j λk l=>
 Ha 3 10 1 b λh=>
  bF env Tryz.f207 0 u7 [(5,h),(0,x0),(4,k)] l Q) (
 Q c H)
theorem dk(c x0 b:AV)(H:aa)(Q:AV->aa->Prop)(h : ∀g,cO g c x0 b H Q):bF env Tryz.f207 0 u7 [(5,c),(0,x0),(4,b)] H Q:=uX CL (by kernel_rfl) h
def Dn:Prop:=
 aZ H 1 33 x0 λc k=>
 ad k 33 c λo=>
 aX true k 8 182 [o] λl h=>
 kb 42 9 0 l λn=>
 br (some n) (
 Q (.tup [(.v (.slice none 0 0)),l]) h) (
 af 33 c 0 λp=>
 ad h 31 p λu=>
 aX true h 15 162 [u] λi j=>
 aP i 0 λm=>
 aP i 1 λt=>
 af 33 c 1 λf=>
 ad j 3 f λe=>
 aX true j 21 207 [e,(.v (.int .i64 7))] λb q=>
 mX q 22 170 170 m b λd w=>
 Q (.tup [d,t]) w)
theorem P4(h : ∀g:cW,Dn x0 H Q):cP Tryz.f208 0 [(0,x0)] H Q:=fk (by kernel_rfl) h
noncomputable def sK:=ug Tryz.f210 6
def En:Nat->Option (List Nat):=λi=>cond (Nat.beq i 6) (some [15,5,13,14]) (none)
def AE:Prop:=
 aX true H 9 187 [x0] λc b=>
 kb 42 10 0 c λd=>
 br (some d) (
 Q (.tup [(.v (.slice none 0 0)),c]) b) (
 cE b 14 36 x0 λe=>
  bF env Tryz.f210 0 sK [(15,(.v (.int .i64 0))),(5,(.v (.slice none 0 0))),(13,x0),(14,e)] b Q)
theorem Lx(h : ∀g:cW,AE x0 H Q):cP Tryz.f210 0 [(0,x0)] H Q:=wT En (by kernel_rfl) h
def sU(g:Nat->AV)(b k c d:AV)(H:aa)(Q:AV->aa->Prop):Prop:=
 dC 3 15 14 b d λl=>
 br (some l) (
 bJ H 36 c b λp=>
 ad H 21 p λe=>
 fB (bY env.P .shr 21 (Operand.tmp 20) (.const (.int .u64 24)) (some e) (some (.v (.int .u64 24)))) λo=>
 q9 H 22 21 5 o λt=>
 ZL 21 23 e λw=>
 q9 H 25 21 5 w λn=>
 Uo 21 26 e λm=>
 q9 H 28 21 5 m λu=>
 q9 H 30 21 5 e λj=>
 jA (nJ env.P false true H (Ref.mk 0 31 (aa.gen H 0 31) 0) 170 4 (some [(0,t),(1,n),(2,u),(3,j)])) λi q=>
 mX q 32 170 170 k i λf x=>
 eD 3 15 1 b λh=>
  bF env Tryz.f210 0 sK [(15,h),(5,f),(13,c),(14,d)] x Q) (
 Q (.tup [k,(.v (.int .i64 0))]) H)
theorem Bt(b e c d:AV)(H:aa)(Q:AV->aa->Prop)(h : ∀g,sU g b e c d H Q):bF env Tryz.f210 0 sK [(15,b),(5,e),(13,c),(14,d)] H Q:=uX En (by kernel_rfl) h
noncomputable def eO:=ug Tryz.f214 2
def mH:Nat->Option (List Nat):=λi=>cond (Nat.beq i 2) (some [8,0,1,7]) (none)
def mN:Prop:=
 cE H 7 36 x0 λb=>
  bF env Tryz.f214 0 eO [(8,(.v (.int .i64 0))),(0,x0),(1,a),(7,b)] H Q
theorem tS(h : ∀g:cW,mN x0 a H Q):cP Tryz.f214 0 [(0,x0),(1,a)] H Q:=wT mH (by kernel_rfl) h
def eS(g:Nat->AV)(b x0 a c:AV)(H:aa)(Q:AV->aa->Prop):Prop:=
 dC 3 8 7 b c λd=>
 br (some d) (
 bJ H 36 x0 b λf=>
 ad H 21 f λi=>
 pY 21 11 15 a i λe=>
 br (some e) (
 Q b H) (
 eD 3 8 1 b λh=>
  bF env Tryz.f214 0 eO [(8,h),(0,x0),(1,a),(7,c)] H Q)) (
 Q (.v (.int .i64 (-1))) H)
theorem lF(c x0 a b:AV)(H:aa)(Q:AV->aa->Prop)(h : ∀g,eS g c x0 a b H Q):bF env Tryz.f214 0 eO [(8,c),(0,x0),(1,a),(7,b)] H Q:=uX mH (by kernel_rfl) h
def uj:Prop:=
 ZM 21 3 x0 λb=>
 gQ b true (aU x0) λe=>
 gW b true H (eC true H 7 216 [e]) λh f=>
 gQ b true (oG h) λd=>
 bo b d λc=>
 Q c f
theorem E7(h : ∀g:cW,uj x0 H Q):cP Tryz.f215 0 [(0,x0)] H Q:=fk (by kernel_rfl) h
def pL:Prop:=
 fB (bY env.P .leq 21 (.const (.int .i32 0)) (Operand.tmp 4) (some (.v (.int .i32 0))) (some x0)) λc=>
 gQ c true (aU x0) λh=>
 gQ c true (bY env.P .lss 21 (Operand.tmp 7) (.const (.int .i32 55296)) (some h) (some (.v (.int .i32 55296)))) λj=>
 bo c j λf=>
 br (some f) (
 Q (.v (.bool true)) H) (
 fB (bY env.P .lss 21 (.const (.int .i32 57343)) (Operand.tmp 11) (some (.v (.int .i32 57343))) (some x0)) λb=>
 gQ b true (aU x0) λi=>
 gQ b true (bY env.P .leq 21 (Operand.tmp 14) (.const (.int .i32 1114111)) (some i) (some (.v (.int .i32 1114111)))) λe=>
 bo b e λd=>
 br (some d) (
 Q (.v (.bool true)) H) (
 Q (.v (.bool false)) H))
theorem wP(h : ∀g:cW,pL x0 H Q):cP Tryz.f216 0 [(0,x0)] H Q:=fk (by kernel_rfl) h
def ko:Prop:=
 aX true H 7 229 [x0,a] λc d=>
 w6 3 7 0 c λb=>
 Q b d
theorem pQ(h : ∀g:cW,ko x0 a H Q):cP Tryz.f217 0 [(0,x0),(1,a)] H Q:=fk (by kernel_rfl) h
noncomputable def eP:=ug Tryz.f226 4
def mI:Nat->Option (List Nat):=λi=>cond (Nat.beq i 4) (some [13,1,0,12]) (none)
def jf:Prop:=
 cE H 7 36 x0 λc=>
 cE H 9 36 a λb=>
 yF 3 7 9 c b λd=>
 br (some d) (
 Q (.v (.bool false)) H) (
 cE H 12 36 x0 λe=>
  bF env Tryz.f226 0 eP [(13,(.v (.int .i64 0))),(1,a),(0,x0),(12,e)] H Q)
theorem tT(h : ∀g:cW,jf x0 a H Q):cP Tryz.f226 0 [(0,x0),(1,a)] H Q:=wT mI (by kernel_rfl) h
def eT(g:Nat->AV)(b a x0 c:AV)(H:aa)(Q:AV->aa->Prop):Prop:=
 dC 3 13 12 b c λd=>
 br (some d) (
 bJ H 36 x0 b λh=>
 ad H 21 h λk=>
 bJ H 36 a b λf=>
 ad H 21 f λi=>
 yF 21 19 23 k i λj=>
 br (some j) (
 Q (.v (.bool false)) H) (
 eD 3 13 1 b λe=>
  bF env Tryz.f226 0 eP [(13,e),(1,a),(0,x0),(12,c)] H Q)) (
 Q (.v (.bool true)) H)
theorem lG(c a x0 b:AV)(H:aa)(Q:AV->aa->Prop)(h : ∀g,eT g c a x0 b H Q):bF env Tryz.f226 0 eP [(13,c),(1,a),(0,x0),(12,b)] H Q:=uX mI (by kernel_rfl) h
def zO:Prop:=
 aZ H 2 35 x0 λj w=>
 eF w 4 33 λf q=>
 ad q 35 j λz=>
 aX true q 8 135 [z] λo i=>
 kb 42 9 0 o λx=>
 br (some x) (
 mo 33 λe=>
 ax i 33 f e λp d=>
 bP d f 33 λk=>
 Q (.tup [k,o]) d) (
 Hb 3 13 0 a λe=>
 gQ e false (aU a) λp=>
 gQ e false (au 35 j 1) λk=>
 gQ e false (ar i 3 k) λy=>
 gQ e false (Rt 3 16 18 p y) λm=>
 dn e m λl=>
 br (some l) (
 mo 33 λb=>
 ax i 33 f b λh d=>
 bP d f 33 λc=>
 Q (.tup [c,(.v (.int .i64 2))]) d) (
 af 35 j 0 λb=>
 ad i 33 b λh=>
 aX true i 25 239 [h,a] λc d=>
 ax d 33 f c λu t=>
 bP t f 33 λn=>
 Q (.tup [n,(.v (.int .i64 0))]) t))
theorem Sy(h : ∀g:cW,zO x0 a H Q):cP Tryz.f228 0 [(0,x0),(1,a)] H Q:=fk (by kernel_rfl) h
noncomputable def dU:=ug Tryz.f229 2
def lf:Nat->Option (List Nat):=λi=>cond (Nat.beq i 2) (some [8,0,1,7]) (none)
def lx:Prop:=
 cE H 7 36 x0 λb=>
  bF env Tryz.f229 0 dU [(8,(.v (.int .i64 0))),(0,x0),(1,a),(7,b)] H Q
theorem rP(h : ∀g:cW,lx x0 a H Q):cP Tryz.f229 0 [(0,x0),(1,a)] H Q:=wT lf (by kernel_rfl) h
def dV(g:Nat->AV)(b x0 a d:AV)(H:aa)(Q:AV->aa->Prop):Prop:=
 dC 3 8 7 b d λe=>
 br (some e) (
 bJ H 36 x0 b λh=>
 ad H 21 h λj=>
 MU H 16 a j λf c=>
 br (some f) (
 Q b c) (
 eD 3 8 1 b λi=>
  bF env Tryz.f229 0 dU [(8,i),(0,x0),(1,a),(7,d)] c Q)) (
 Q (.v (.int .i64 (-1))) H)
theorem kI(c x0 a b:AV)(H:aa)(Q:AV->aa->Prop)(h : ∀g,dV g c x0 a b H Q):bF env Tryz.f229 0 dU [(8,c),(0,x0),(1,a),(7,b)] H Q:=uX lf (by kernel_rfl) h
def pE:Prop:=
 aZ H 1 38 x0 λi L=>
 eF L 2 249 λf F=>
 ad F 38 i λJ=>
 aX true F 7 70 [J] λD j=>
 kb 42 8 0 D λG=>
 br (some G) (
 mo 249 λA=>
 ax j 249 f A λE k=>
 bP k f 249 λm=>
 Q (.tup [m,D]) k) (
 af 38 i 3 λA=>
 ad j 35 A λE=>
 af 38 i 4 λm=>
 ad j 33 m λI=>
 af 38 i 6 λx=>
 ad j 36 x λo=>
 aX false j 18 173 [o] λw k=>
 MQ 249 0 E 1 I 2 w λn=>
 eF k 5 249 λc K=>
 ax K 249 c n λM l=>
 af 38 i 0 λt=>
 ad l 5 t λp=>
 fB (bY env.P .neq 5 (Operand.tmp 21) (.const (.int .u8 1)) (some p) (some (a8 1))) λb=>
 gQ b false (ar l 249 c) λq=>
 gW b false l (eC true l 25 240 [q]) λu C=>
 gQ b false (G9 42 25 0 u) λy=>
 dn b y λz=>
 br (some z) (
 mo 249 λe=>
 ax C 249 f e λB h=>
 bP h f 249 λd=>
 Q (.tup [d,(.v (.int .i64 2))]) h) (
 ad C 249 c λe=>
 ax C 249 f e λB h=>
 bP h f 249 λd=>
 Q (.tup [d,(.v (.int .i64 0))]) h))
theorem vF(h : ∀g:cW,pE x0 H Q):cP Tryz.f231 0 [(0,x0)] H Q:=fk (by kernel_rfl) h
def Gw:Prop:=
 aZ H 2 33 x0 λb m=>
 eF m 4 33 λe f=>
 af 33 b 1 λn=>
 ad f 3 n λk=>
 q7 3 6 7 k a λi=>
 af 33 b 1 λl=>
 ax f 3 l i λo h=>
 ad h 33 b λj=>
 ax h 33 e j λp d=>
 bP d e 33 λc=>
 Q c d
theorem Nk(h : ∀g:cW,Gw x0 a H Q):cP Tryz.f239 0 [(0,x0),(1,a)] H Q:=fk (by kernel_rfl) h
def AF:Prop:=
 aZ H 1 249 x0 λe j=>
 af 249 e 1 λX=>
 ad j 33 X λV=>
 mo 33 λT=>
 pY 33 5 6 V T λf=>
 gQ f false (au 249 e 1) λY=>
 gQ f false (ar j 33 Y) λW=>
 gW f false j (eC true j 11 182 [W]) λS k=>
 gQ f false (ra 42 11 0 S) λU=>
 gQ f false (aU U) λb=>
 gQ b true (au 249 e 1) λm=>
 gQ b true (au 33 m 1) λE=>
 gQ b true (ar k 3 E) λl=>
 gQ b true (au 249 e 0) λo=>
 gQ b true (au 35 o 0) λp=>
 gQ b true (au 33 p 1) λw=>
 gQ b true (ar k 3 w) λq=>
 gQ b true (G5 3 16 20 l q) λO=>
 gQ f false (G4 b O) λu=>
 dn f u λz=>
 af 249 e 0 λI=>
 ad k 35 I λK=>
 aX true k 26 135 [K] λF i=>
 kb 42 26 0 F λh=>
 gQ h false (aU z) λt=>
 gQ h false (oG t) λJ=>
 dn h J λc=>
 gQ c false (au 249 e 2) λL=>
 gQ c false (ar i 36 L) λG=>
 gQ c false (yG i 35 36 G) λx=>
 gQ c false (au 249 e 0) λA=>
 gQ c false (au 35 A 1) λM=>
 gQ c false (ar i 3 M) λy=>
 gQ c false (MR 3 35 38 x y) λP=>
 dn c P λd=>
 gQ d false (au 249 e 2) λN=>
 gQ d false (ar i 36 N) λn=>
 gW d false i (eC true i 44 187 [n]) λC R=>
 gQ d false (G9 42 44 0 C) λB=>
 dn d B λD=>
 br (some D) (
 Q (.v (.int .i64 8)) R) (
 Q (.v (.int .i64 0)) R)
theorem Ly(h : ∀g:cW,AF x0 H Q):cP Tryz.f240 0 [(0,x0)] H Q:=fk (by kernel_rfl) h
def uq:Prop:=
 aZ H 2 35 x0 λf E=>
 aZ E 3 33 a λA i=>
 af 33 A 1 λJ=>
 ad i 3 J λC=>
 af 35 f 0 λF=>
 af 33 F 1 λI=>
 ad i 3 I λD=>
 MS 3 8 11 C D λh=>
 ad i 35 f λG=>
 aX false i 14 135 [G] λm e=>
 kb 42 14 0 m λd=>
 gQ d false (aU h) λj=>
 gQ d false (Bq 3 17 0 j) λl=>
 dn d l λc=>
 gQ c false (aU h) λz=>
 gQ c false (au 35 f 1) λu=>
 gQ c false (ar e 3 u) λo=>
 gQ c false (Rt 3 21 23 z o) λx=>
 dn c x λb=>
 gQ b false (ar e 33 A) λw=>
 gQ b false (au 35 f 0) λn=>
 gQ b false (ar e 33 n) λq=>
 gQ b false (aU h) λk=>
 gW b false e (eC false e 31 239 [q,k]) λy B=>
 gQ b false (MR 33 27 31 w y) λt=>
 dn b t λp=>
 br (some p) (
 Q (.tup [(.v (.int .i64 0)),(.v (.bool false))]) B) (
 Q (.tup [h,(.v (.bool true))]) B)
theorem P5(h : ∀g:cW,uq x0 a H Q):cP Tryz.f251 0 [(0,x0),(1,a)] H Q:=fk (by kernel_rfl) h
end
section
variable(dep:Nat)(g:Nat->AV)(x0 a b:AV)(H:aa)(Q:AV->aa->Prop)
def cV:Prop:=
 aZ H 2 38 x0 λj Z=>
 aZ Z 3 38 a λk c=>
 af 38 j 0 λX=>
 ad c 5 X λU=>
 af 38 k 0 λV=>
 ad c 5 V λv6=>
 pY 5 6 8 U v6 λl=>
 gQ l true (au 38 j 1) λT=>
 gQ l true (ar c 31 T) λW=>
 gQ l true (au 38 k 1) λD=>
 gQ l true (ar c 31 D) λn=>
 gQ l true (gT 31 12 14 W n) λA=>
 bo l A λd=>
 gQ d true (au 38 j 2) λo=>
 gQ d true (ar c 3 o) λp=>
 gQ d true (au 38 k 2) λt=>
 gQ d true (ar c 3 t) λq=>
 gQ d true (gT 3 19 21 p q) λP=>
 bo d P λh=>
 gQ h true (au 38 j 3) λw=>
 gQ h true (ar c 35 w) λE=>
 gQ h true (au 38 k 3) λG=>
 gQ h true (ar c 35 G) λB=>
 gQ h true (gT 35 26 28 E B) λR=>
 bo h R λf=>
 gQ f true (au 38 j 4) λF=>
 gQ f true (ar c 33 F) λm=>
 gQ f true (au 38 k 4) λL=>
 gQ f true (ar c 33 L) λC=>
 gQ f true (gT 33 33 35 m C) λu=>
 bo f u λi=>
 gQ i true (au 38 j 5) λM=>
 gQ i true (ar c 29 M) λv=>
 gQ i true (au 38 k 5) λS=>
 gQ i true (ar c 29 S) λK=>
 gQ i true (gT 29 40 42 v K) λN=>
 bo i N λe=>
 gQ e true (au 38 j 6) λy=>
 gQ e true (ar c 36 y) λx=>
 gQ e true (au 38 k 6) λz=>
 gQ e true (ar c 36 z) λJ=>
 gW e true c (eC true c 50 133 [x,J]) λI Y=>
 bo e I λO=>
 Q O Y
theorem y8(h : ∀g:cW,cV x0 a H Q):cP Tryz.f62 0 [(0,x0),(1,a)] H Q:=fk (by kernel_rfl) h
def kM:Prop:=
 aZ H 1 38 x0 λh k=>
 af 38 h 0 λV=>
 ad k 5 V λT=>
 fB (bY env.P .eql 5 (Operand.tmp 4) (.const (.int .u8 0)) (some T) (some (a8 0))) λm=>
 gQ m false (au 38 h 0) λR=>
 gQ m false (ar k 5 R) λW=>
 gQ m false (bY env.P .geq 5 (Operand.tmp 8) (.const (.int .u8 4)) (some W) (some (a8 4))) λU=>
 dn m U λi=>
 gQ i false (au 38 h 1) λS=>
 gQ i false (ar k 31 S) λD=>
 gW i false k (eC false k 14 91 [D]) λo l=>
 gQ i false (G9 42 14 0 o) λA=>
 dn i A λe=>
 gQ e false (au 38 h 2) λp=>
 gQ e false (ar l 3 p) λM=>
 gQ e false (Bq 3 19 1 M) λu=>
 dn e u λf=>
 gQ f false (au 38 h 2) λJ=>
 gQ f false (ar l 3 J) λt=>
 gQ f false (wY 3 24 16777216 t) λy=>
 dn f y λd=>
 gQ d false (au 38 h 3) λE=>
 gQ d false (ar l 35 E) λB=>
 gW d false l (eC false l 30 135 [B]) λK O=>
 gQ d false (G9 42 30 0 K) λq=>
 dn d q λc=>
 gW c false O (eC false O 34 136 []) λn j=>
 gQ c false (au 38 h 0) λG=>
 gQ c false (ar j 5 G) λC=>
 gQ c false (sx env.P 204 (some n) (some C)) λw=>
 gQ c false (Dq 203 w 0) λz=>
 gQ c false (ar j 38 h) λI=>
 gW c false j (aL env true (ak env) (bD env 0) j (Ref.mk 0 40 (aa.gen j 0 40) 0) (some z) [I]) λx N=>
 gQ c false (oG x) λL=>
 dn c L λF=>
 br (some F) (
 Q (.v (.int .i64 8)) N) (
 Q (.v (.int .i64 0)) N)
theorem Nj(h : ∀g:cW,kM x0 H Q):cP Tryz.f70 0 [(0,x0)] H Q:=fk (by kernel_rfl) h
def AG:Prop:=
 aZ H 1 38 x0 λc o=>
 eF o 2 38 λf h=>
 af 38 c 6 λp=>
 ad h 36 p λl=>
 aX true h 5 173 [l] λj n=>
 af 38 c 6 λm=>
 ax n 36 m j λq e=>
 ad e 38 c λk=>
 ax e 38 f k λt i=>
 bP i f 38 λd=>
 Q d i
theorem C2(h : ∀g:cW,AG x0 H Q):cP Tryz.f108 0 [(0,x0)] H Q:=fk (by kernel_rfl) h
def Gv:Prop:=
 aZ H 1 38 x0 λf c=>
 af 38 f 6 λi=>
 ad c 36 i λj=>
 aX true c 5 176 [j,(.v (.int .i32 (-1)))] λh d=>
 iP h λe=>
 Q e d
theorem Ni(h : ∀g:cW,Gv x0 H Q):cP Tryz.f121 0 [(0,x0)] H Q:=fk (by kernel_rfl) h
def vL:Prop:=
 aZ H 1 38 x0 λf H1=>
 ad H1 38 f λv2=>
 aX true H1 16 70 [v2] λv3 V=>
 kb 42 17 0 v3 λv4=>
 br (some v4) (
 Q (.tup [(.v (.slice none 0 0)),v3]) V) (
 af 38 f 1 λv5=>
 ad V 31 v5 λv6=>
 aX true V 23 162 [v6] λv7 H3=>
 aP v7 0 λv8=>
 aP v7 1 λv9=>
 af 38 f 3 λv10=>
 af 35 v10 0 λY=>
 ad H3 33 Y λJ=>
 aX true H3 30 208 [J] λz H4=>
 aP z 0 λZ=>
 aP z 1 λv15=>
 af 38 f 0 λv16=>
 ad H4 5 v16 λC=>
 uB H4 35 170 1 0 C λv18 n=>
 af 38 f 2 λD=>
 ad n 3 D λv20=>
 ZL 3 38 v20 λv21=>
 q9 n 40 3 5 v21 λR=>
 af 38 f 2 λK=>
 ad n 3 K λv24=>
 Uo 3 42 v24 λv25=>
 q9 n 44 3 5 v25 λv26=>
 af 38 f 2 λX=>
 ad n 3 X λT=>
 q9 n 47 3 5 T λv29=>
 jA (nJ env.P false true n (Ref.mk 0 48 (aa.gen n 0 48) 0) 170 3 (some [(0,R),(1,v26),(2,v29)])) λE L=>
 af 38 f 3 λF=>
 af 35 F 1 λv32=>
 ad L 3 v32 λv33=>
 q9 L 53 3 5 v33 λW=>
 uB L 54 170 1 0 W λS H7=>
 jA (nJ env.P false true H7 (Ref.mk 0 55 (aa.gen H7 0 55) 0) 279 5 (some [(0,v18),(1,v8),(2,E),(3,Z),(4,S)])) λU H8=>
 aX true H8 56 209 [U] λk p=>
 af 38 f 0 λG=>
 ad p 5 G λA=>
 yH 5 58 A λI=>
 br (some I) (
 jA (na p (Ref.mk 0 61 (aa.gen p 0 61) 0) (Gb env.P (Ref.mk 0 61 (aa.gen p 0 61) 0) 170 (some (AV.v (Value.int IntKind.i64 13))) (some (AV.v (Value.int IntKind.i64 13))))) λt c=>
 af 38 f 4 λq=>
 ad c 33 q λx=>
 mo 33 λo=>
 yF 33 63 64 x o λm=>
 br (some m) (
 af 38 f 4 λh=>
 ad c 33 h λl=>
 aX true c 69 208 [l] λe d=>
 aP e 0 λi=>
 aP e 1 λO=>
 af 38 f 6 λu=>
 ad d 36 u λw=>
 aX true d 75 210 [w] λB j=>
 aP B 0 λN=>
 aP B 1 λv55=>
 jA (nJ env.P false true j (Ref.mk 0 81 (aa.gen j 0 81) 0) 279 3 (some [(0,k),(1,i),(2,N)])) λM y=>
 aX true y 82 209 [M] λv57 H14=>
 Q (.tup [v57,(.v (.int .i64 0))]) H14) (
 af 38 f 6 λh=>
 ad c 36 h λl=>
 aX true c 75 210 [l] λe d=>
 aP e 0 λi=>
 aP e 1 λO=>
 jA (nJ env.P false true d (Ref.mk 0 81 (aa.gen d 0 81) 0) 279 3 (some [(0,k),(1,t),(2,i)])) λu j=>
 aX true j 82 209 [u] λw y=>
 Q (.tup [w,(.v (.int .i64 0))]) y)) (
 G7 5 58 A λt=>
 br (some t) (
 af 38 f 5 λq=>
 ad p 29 q λx=>
 yE 31 0 x λo=>
 aX true p 89 162 [o] λm c=>
 aP m 0 λh=>
 aP m 1 λl=>
 fB (ja env.P (aa.get c) 170 (some h) (some none) (oi (.v (.int .i64 5))) (some none)) λe=>
 mX c 95 170 170 k e λi d=>
 Q (.tup [i,(.v (.int .i64 0))]) d) (
 Q (.tup [k,(.v (.int .i64 0))]) p)))
theorem B7(h : ∀g:cW,vL x0 H Q):cP Tryz.f163 0 [(0,x0)] H Q:=fk (by kernel_rfl) h
def yz:Prop:=
 aZ H 1 38 x0 λf d=>
 af 38 f 4 λk=>
 ad d 33 k λn=>
 mo 33 λj=>
 pY 33 4 5 n j λc=>
 gQ c true (au 38 f 6) λm=>
 gQ c true (ar d 36 m) λi=>
 gQ c true (yG d 10 36 i) λh=>
 gQ c true (ra 3 10 0 h) λl=>
 bo c l λe=>
 Q e d
theorem JV(h : ∀g:cW,yz x0 H Q):cP Tryz.f183 0 [(0,x0)] H Q:=fk (by kernel_rfl) h
def CW:Prop:=
 aZ H 1 38 x0 λf c=>
 af 38 f 5 λi=>
 ad c 29 i λj=>
 aX false c 5 185 [] λh d=>
 pY 29 4 5 j h λe=>
 Q e d
theorem JU(h : ∀g:cW,CW x0 H Q):cP Tryz.f184 0 [(0,x0)] H Q:=fk (by kernel_rfl) h
def jx:Prop:=
 aZ H 2 38 x0 λf k=>
 af 38 f 4 λT=>
 ad k 33 T λR=>
 mo 33 λN=>
 pY 33 6 7 R N λj=>
 gQ j false (au 38 f 4) λU=>
 gQ j false (ar k 33 U) λS=>
 gW j false k (eC true k 12 182 [S]) λM I=>
 gQ j false (ra 42 12 0 M) λP=>
 dn j P λz=>
 ad I 137 a λm=>
 ad I 38 f λx=>
 MU I 17 m x λi h=>
 gQ i true (aU z) λn=>
 bo i n λd=>
 gQ d true (au 38 f 3) λt=>
 gQ d true (au 35 t 0) λo=>
 gQ d true (au 33 o 0) λJ=>
 gQ d true (ar h 31 J) λq=>
 gQ d true (au 38 f 1) λw=>
 gQ d true (ar h 31 w) λA=>
 gQ d true (gT 31 25 27 q A) λC=>
 bo d C λc=>
 gQ c true (au 38 f 6) λK=>
 gQ c true (ar h 36 K) λp=>
 gQ c true (yG h 33 36 p) λB=>
 gQ c true (au 38 f 3) λl=>
 gQ c true (au 35 l 1) λE=>
 gQ c true (ar h 3 E) λy=>
 gQ c true (gT 3 33 36 B y) λu=>
 bo c u λe=>
 gQ e true (au 38 f 6) λF=>
 gQ e true (ar h 36 F) λv=>
 gW e true h (eC true h 42 187 [v]) λL O=>
 gQ e true (ra 42 42 0 L) λD=>
 bo e D λG=>
 Q G O
theorem JT(h : ∀g:cW,jx x0 a H Q):cP Tryz.f186 0 [(0,x0),(1,a)] H Q:=fk (by kernel_rfl) h
def CV:Prop:=
 aZ H 3 38 x0 λf e=>
 ad e 137 a λj=>
 ad e 38 f λn=>
 MU e 7 j n λd c=>
 gQ d true (ar c 137 b) λh=>
 gQ d true (ar c 38 f) λl=>
 gW d true c (aL env true (ak env) (bD env 0) c (Ref.mk 0 11 (aa.gen c 0 11) 0) (some h) [l]) λk m=>
 bo d k λi=>
 Q i m
theorem JS(h : ∀g:cW,CV x0 a b H Q):cP Tryz.f189 0 [(0,x0),(1,a),(2,b)] H Q:=fk (by kernel_rfl) h
def CU:Prop:=
 aZ H 2 38 x0 λf e=>
 ad e 137 a λj=>
 ad e 38 f λo=>
 MU e 6 j o λc d=>
 gQ c true (au 38 f 5) λh=>
 gQ c true (ar d 29 h) λm=>
 gW c true d (eC true d 10 76 [m]) λk n=>
 gQ c true (ra 42 10 0 k) λi=>
 bo c i λl=>
 Q l n
theorem JR(h : ∀g:cW,CU x0 a H Q):cP Tryz.f191 0 [(0,x0),(1,a)] H Q:=fk (by kernel_rfl) h
def pa:Prop:=
 aZ H 2 38 x0 λv1 H1=>
 aZ H1 3 38 a λZ U=>
 ad U 38 v1 λv3=>
 ad U 38 Z λv4=>
 eF U 5 38 λk H3=>
 eF H3 6 38 λl H4=>
 ax H4 38 k v3 λv7 H5=>
 ax H5 38 l v4 λv8 c=>
  ny [(Z,k)] [k,l] [] c /\
 (af 38 k 0 λv9=>
 ad c 5 v9 λI=>
 af 38 l 0 λp=>
 ad c 5 p λD=>
 pY 5 10 12 I D λd=>
 gQ d true (au 38 k 1) λt=>
 gQ d true (ar c 31 t) λY=>
 gQ d true (au 38 l 1) λw=>
 gQ d true (ar c 31 w) λu=>
 gQ d true (gT 31 16 18 Y u) λV=>
 bo d V λh=>
 gQ h true (au 38 k 2) λz=>
 gQ h true (ar c 3 z) λJ=>
 gQ h true (au 38 l 2) λM=>
 gQ h true (ar c 3 M) λE=>
 gQ h true (gT 3 23 25 J E) λW=>
 bo h W λf=>
 gQ f true (au 38 k 3) λL=>
 gQ f true (ar c 35 L) λm=>
 gQ f true (au 38 l 3) λR=>
 gQ f true (ar c 35 R) λF=>
 gQ f true (gT 35 30 32 m F) λx=>
 bo f x λi=>
 gQ i true (au 38 k 4) λS=>
 gQ i true (ar c 33 S) λy=>
 gQ i true (au 38 l 4) λX=>
 gQ i true (ar c 33 X) λP=>
 gQ i true (gT 33 37 39 y P) λT=>
 bo i T λe=>
 gQ e true (au 38 k 5) λB=>
 gQ e true (ar c 29 B) λA=>
 gQ e true (au 38 l 5) λC=>
 gQ e true (ar c 29 C) λO=>
 gQ e true (gT 29 44 46 A O) λN=>
 bo e N λj=>
 gQ j true (au 38 k 6) λo=>
 gQ j true (ar c 36 o) λG=>
 gQ j true (au 38 l 6) λn=>
 gQ j true (ar c 36 n) λv=>
 gW j true c (eC true c 54 226 [G,v]) λK H7=>
 bo j K λq=>
 Q q H7)
theorem P3(h : ∀g:cW,pa x0 a H Q):cP Tryz.f211 0 [(0,x0),(1,a)] H Q:=fk (by kernel_rfl) h
end
section
variable(dep:Nat)(g:Nat->AV)(x0 a b x3:AV)(H:aa)(Q:AV->aa->Prop)
def ct:Prop:=
 aZ H 1 173 x0 λd H1=>
 af 173 d 0 λv2=>
 af 62 v2 0 λv3=>
 ad H1 5 v3 λv4=>
 yE 62 0 v4 λv5=>
 eF H1 4 62 λT H2=>
 ax H2 62 T v5 λv7 J=>
 af 173 d 0 λv8=>
 af 62 v8 0 λv9=>
 ad J 5 v9 λv10=>
 yH 5 12 v10 λv11=>
 br (some v11) (
 af 173 d 0 λv12=>
 af 62 v12 2 λE=>
 af 38 E 1 λo=>
 ad J 31 o λx=>
 af 173 d 0 λq=>
 af 62 q 1 λf=>
 ad J 3 f λC=>
 af 62 T 2 λh=>
 af 38 h 1 λl=>
 ax J 31 l x λe U=>
 af 62 T 1 λk=>
 ax U 3 k C λA n=>
  ny [(f,l)] [l,k] [] n /\
 (af 173 d 0 λu=>
 af 62 u 2 λp=>
 af 38 p 1 λm=>
 ad n 31 m λN=>
 aX true n 30 162 [N] λB D=>
 aP B 0 λS=>
 aP B 1 λF=>
 af 173 d 0 λG=>
 af 62 G 1 λc=>
 ad D 3 c λO=>
 w6 3 35 0 O λi=>
 gQ i true (au 173 d 0) λL=>
 gQ i true (au 62 L 1) λM=>
 gQ i true (ar D 3 M) λj=>
 gQ i true (AN 3 40 255 j) λY=>
 bo i Y λI=>
 af 173 d 0 λv40=>
 af 62 v40 1 λv41=>
 ad D 3 v41 λK=>
 q9 D 47 3 5 K λv43=>
 uB D 48 170 1 0 v43 λW w=>
 mX w 49 170 170 S W λv45 H8=>
 af 173 d 0 λV=>
 af 62 V 0 λv47=>
 ad H8 5 v47 λv48=>
 uB H8 111 170 1 0 v48 λv49 H9=>
 mX H9 113 170 170 v49 v45 λv50 y=>
 gQ I true (aU F) λv51=>
 gQ I true (ra 42 116 0 v51) λv52=>
 bo I v52 λt=>
 gQ t true (au 173 d 0) λv54=>
 gQ t true (ar y 62 v54) λX=>
 gQ t true (ar y 62 T) λv56=>
 gW t true y (eC true y 123 165 [X,v56]) λv57 z=>
 bo t v57 λZ=>
 Q (.tup [v50,Z]) z)) (
 vN 5 12 v10 λv12=>
 br (some v12) (
 af 173 d 0 λE=>
 af 62 E 2 λo=>
 ad J 38 o λx=>
 af 173 d 0 λq=>
 af 62 q 3 λf=>
 ad J 42 f λC=>
 af 62 T 2 λh=>
 ax J 38 h x λl U=>
 af 62 T 3 λe=>
 ax U 42 e C λk n=>
  ny [(f,h)] [h,e] [] n /\
 (af 173 d 0 λA=>
 af 62 A 2 λu=>
 ad n 38 u λp=>
 aX true n 64 163 [p] λm D=>
 aP m 0 λN=>
 aP m 1 λB=>
 af 173 d 0 λS=>
 af 62 S 2 λF=>
 ad D 38 F λG=>
 aX true D 70 121 [G] λc w=>
 gQ c true (au 173 d 0) λO=>
 gQ c true (au 62 O 3) λi=>
 gQ c true (ar w 42 i) λL=>
 gQ c true (wY 42 74 0 L) λM=>
 bo c M λj=>
 gQ j true (au 173 d 0) λY=>
 gQ j true (au 62 Y 3) λI=>
 gQ j true (ar w 42 I) λv40=>
 gQ j true (Bq 42 80 65536 v40) λv41=>
 bo j v41 λK=>
 af 173 d 0 λv43=>
 af 62 v43 3 λW=>
 ad w 42 W λv45=>
 Uo 42 85 v45 λV=>
 q9 w 87 42 5 V λv47=>
 af 173 d 0 λv48=>
 af 62 v48 3 λv49=>
 ad w 42 v49 λv50=>
 q9 w 91 42 5 v50 λv51=>
 jA (nJ env.P false true w (Ref.mk 0 92 (aa.gen w 0 92) 0) 170 2 (some [(0,v47),(1,v51)])) λv52 H8=>
 mX H8 94 170 170 v52 N λt H9=>
 af 173 d 0 λv54=>
 af 62 v54 0 λX=>
 ad H9 5 X λv56=>
 uB H9 111 170 1 0 v56 λv57 y=>
 mX y 113 170 170 v57 t λZ z=>
 gQ K true (aU B) λv59=>
 gQ K true (ra 42 116 0 v59) λv60=>
 bo K v60 λR=>
 gQ R true (au 173 d 0) λv62=>
 gQ R true (ar z 62 v62) λv63=>
 gQ R true (ar z 62 T) λv64=>
 gW R true z (eC true z 123 165 [v63,v64]) λv65 H12=>
 bo R v65 λv66=>
 Q (.tup [Z,v66]) H12)) (
 G7 5 12 v10 λE=>
 br (some E) (
 af 173 d 0 λo=>
 af 62 o 4 λx=>
 ad J 60 x λq=>
 af 62 T 4 λf=>
 ax J 60 f q λC U=>
 af 173 d 0 λh=>
 af 62 h 4 λl=>
 ad U 60 l λe=>
 aX true U 105 164 [e] λk n=>
 aP k 0 λA=>
 aP k 1 λu=>
 af 173 d 0 λp=>
 af 62 p 0 λm=>
 ad n 5 m λN=>
 uB n 111 170 1 0 N λB D=>
 mX D 113 170 170 B A λS w=>
 gQ (.v (.bool true)) true (aU u) λF=>
 gQ (.v (.bool true)) true (ra 42 116 0 F) λG=>
 fB (BH (some (AV.v (Value.bool true))) (some G) (some (AV.v (Value.bool false)))) λc=>
 gQ c true (au 173 d 0) λO=>
 gQ c true (ar w 62 O) λi=>
 gQ c true (ar w 62 T) λL=>
 gW c true w (eC true w 123 165 [i,L]) λM H8=>
 bo c M λj=>
 Q (.tup [S,j]) H8) (
 af 173 d 0 λo=>
 af 62 o 0 λx=>
 ad J 5 x λq=>
 uB J 111 170 1 0 q λf U=>
 jA (jG env.P true U (Ref.mk 0 113 (aa.gen U 0 113) 0) (some 170) (some 170) f (.v (.slice none 0 0))) λC n=>
 gQ (.v (.bool false)) true (kf (some (AV.v (Value.int IntKind.i64 0)))) λh=>
 gQ (.v (.bool false)) true (ra 42 116 0 h) λl=>
 fB (BH (some (AV.v (Value.bool false))) (some l) (some (AV.v (Value.bool false)))) λe=>
 gQ e true (au 173 d 0) λk=>
 gQ e true (ar n 62 k) λA=>
 gQ e true (ar n 62 T) λu=>
 gW e true n (eC true n 123 165 [A,u]) λp D=>
 bo e p λm=>
 Q (.tup [C,m]) D)))
theorem rR(h : ∀g:cW,ct x0 H Q):cP Tryz.f101 0 [(0,x0)] H Q:=fk (by kernel_rfl) h
noncomputable def dF:=ug Tryz.f209 3
noncomputable def dv:=ug Tryz.f209 11
def jE:Nat->Option (List Nat):=λi=>cond (Nat.beq i 3) (some [11,3,9,0,10]) (cond (Nat.beq i 11) (some [27,6,25,26]) (none))
def m5:Prop:=
 cE H 10 279 x0 λc=>
  bF env Tryz.f209 0 dF [(11,(.v (.int .i64 0))),(3,(.v (.int .i64 0))),(9,x0),(0,x0),(10,c)] H Q
theorem uI(h : ∀g:cW,m5 x0 H Q):cP Tryz.f209 0 [(0,x0)] H Q:=wT jE (by kernel_rfl) h
def iG(g:Nat->AV)(x11 x3 d x0 c:AV)(H:aa)(Q:AV->aa->Prop):Prop:=
 dC 3 11 10 x11 c λk=>
 br (some k) (
 bJ H 279 d x11 λe=>
 ad H 170 e λh=>
 cE H 17 170 h λl=>
 q7 3 15 17 x3 l λf=>
 Hb 3 19 0 f λn=>
 br (some n) (
 fB (tX env.P 9 (some (.v (.string ⟨#[108,101,110,32,111,117,116,32,111,102,32,114,97,110,103,101]⟩)))) λi=>
 fB (none) λo=>
 eD 3 11 1 x11 λm=>
  bF env Tryz.f209 0 dF [(11,m),(3,f),(9,d),(0,x0),(10,c)] H Q) (
 eD 3 11 1 x11 λi=>
  bF env Tryz.f209 0 dF [(11,i),(3,f),(9,d),(0,x0),(10,c)] H Q)) (
 aX true H 24 225 [(.v (.slice none 0 0)),x3] λe j=>
 cE j 26 279 x0 λh=>
  bF env Tryz.f209 0 dv [(27,(.v (.int .i64 0))),(6,e),(25,x0),(26,h)] j Q)
theorem mu(x11 x3 d x0 c:AV)(H:aa)(Q:AV->aa->Prop)(h : ∀g,iG g x11 x3 d x0 c H Q):bF env Tryz.f209 0 dF [(11,x11),(3,x3),(9,d),(0,x0),(10,c)] H Q:=uX jE (by kernel_rfl) h
def eU(g:Nat->AV)(c f e d:AV)(H:aa)(Q:AV->aa->Prop):Prop:=
 dC 3 27 26 c d λh=>
 br (some h) (
 bJ H 279 e c λj=>
 ad H 170 j λm=>
 mX H 33 170 170 f m λi k=>
 eD 3 27 1 c λl=>
  bF env Tryz.f209 0 dv [(27,l),(6,i),(25,e),(26,d)] k Q) (
 Q f H)
theorem lH(c f e d:AV)(H:aa)(Q:AV->aa->Prop)(h : ∀g,eU g c f e d H Q):bF env Tryz.f209 0 dv [(27,c),(6,f),(25,e),(26,d)] H Q:=uX jE (by kernel_rfl) h
def oz:Prop:=
 Hb 3 5 0 a λq=>
 br (some q) (
 fB (tX env.P 9 (some (.v (.string ⟨#[99,97,110,110,111,116,32,98,101,32,110,101,103,97,116,105,118,101]⟩)))) λo=>
 fB (none) λp=>
 Ry H 10 170 x0 λl=>
 cE H 12 170 x0 λf=>
 MS 3 10 12 l f λn=>
 MS 3 8 13 a n λh=>
 Dr 3 15 0 h λj=>
 br (some j) (
 Ry H 19 170 x0 λm=>
 G6 H 170 x0 m λd=>
 mX H 22 170 3 d h λc e=>
 cE e 24 170 x0 λi=>
 G6 e 170 c i λk=>
 Q k e) (
 Q x0 H)) (
 Ry H 10 170 x0 λo=>
 cE H 12 170 x0 λp=>
 MS 3 10 12 o p λl=>
 MS 3 8 13 a l λf=>
 Dr 3 15 0 f λn=>
 br (some n) (
 Ry H 19 170 x0 λh=>
 G6 H 170 x0 h λj=>
 mX H 22 170 3 j f λm e=>
 cE e 24 170 x0 λd=>
 G6 e 170 m d λc=>
 Q c e) (
 Q x0 H))
theorem vt(h : ∀g:cW,oz x0 a H Q):cP Tryz.f225 0 [(0,x0),(1,a)] H Q:=fk (by kernel_rfl) h
def uA:Prop:=
 aZ H 3 38 a λf n=>
 aX true n 9 243 [x0] λh c=>
 kb 42 10 0 h λo=>
 br (some o) (
 Q (.tup [(.v (.bool false)),h]) c) (
 ad c 38 f λk=>
 aX true c 14 70 [k] λe d=>
 kb 42 15 0 e λm=>
 br (some m) (
 Q (.tup [(.v (.bool false)),e]) d) (
 ad d 38 f λl=>
 aX true d 20 244 [x0,l] λj i=>
 Q (.tup [j,(.v (.int .i64 0))]) i))
theorem JY(h : ∀g:cW,uA x0 a H Q):cP Tryz.f235 0 [(0,x0),(1,a)] H Q:=fk (by kernel_rfl) h
noncomputable def px:=ug Tryz.f243 4
def BL:Nat->Option (List Nat):=λi=>cond (Nat.beq i 4) (some [10,0,8,9]) (none)
def wM:Prop:=
 cE H 6 41 x0 λd=>
 Dr 3 6 2048 d λc=>
 br (some c) (
 Q (.v (.int .i64 4)) H) (
 cE H 9 41 x0 λe=>
  bF env Tryz.f243 0 px [(10,(.v (.int .i64 0))),(0,x0),(8,x0),(9,e)] H Q)
theorem Ib(h : ∀g:cW,wM x0 H Q):cP Tryz.f243 0 [(0,x0)] H Q:=wT BL (by kernel_rfl) h
def mS(g:Nat->AV)(c x0 q o:AV)(H:aa)(Q:AV->aa->Prop):Prop:=
 dC 3 10 9 c o λu=>
 br (some u) (
 bJ H 41 q c λw=>
 ad H 38 w λB=>
 eF H 4 38 λi y=>
 ax y 38 i B λC t=>
 ad t 38 i λA=>
 aX false t 16 70 [A] λx e=>
 kb 42 16 0 x λd=>
 gQ d false (aU x0) λz=>
 gQ d false (aU c) λl=>
 gQ d false (ja env.P (aa.get e) 41 (some z) (some none) (oi l) (some none)) λj=>
 gQ d false (ar e 38 i) λf=>
 gW d false e (eC false e 23 244 [j,f]) λh p=>
 gQ d false (oG h) λk=>
 dn d k λn=>
 br (some n) (
 Q (.v (.int .i64 8)) p) (
 eD 3 10 1 c λm=>
  bF env Tryz.f243 0 px [(10,m),(0,x0),(8,q),(9,o)] p Q)) (
 Q (.v (.int .i64 0)) H)
theorem yQ(c x0 e d:AV)(H:aa)(Q:AV->aa->Prop)(h : ∀g,mS g c x0 e d H Q):bF env Tryz.f243 0 px [(10,c),(0,x0),(8,e),(9,d)] H Q:=uX BL (by kernel_rfl) h
noncomputable def qN:=ug Tryz.f244 5
def CM:Nat->Option (List Nat):=λi=>cond (Nat.beq i 5) (some [21,3,0,5,20]) (none)
def yB:Prop:=
 aZ H 3 38 a λc d=>
 af 38 c 0 λo=>
 ad d 5 o λt=>
 fB (bY env.P .neq 5 (Operand.tmp 10) (.const (.int .u8 3)) (some t) (some (a8 3))) λn=>
 br (some n) (
 Q (.v (.bool true)) d) (
 af 38 c 1 λk=>
 af 31 k 0 λq=>
 ad d 29 q λm=>
 af 38 c 5 λl=>
 ad d 29 l λp=>
 aX true d 17 47 [m,p] λi j=>
 af 38 c 3 λh=>
 af 35 h 1 λe=>
 ad j 3 e λf=>
  bF env Tryz.f244 0 qN [(21,(.v (.int .i64 0))),(3,c),(0,x0),(5,i),(20,f)] j Q)
theorem JX(h : ∀g:cW,yB x0 a H Q):cP Tryz.f244 0 [(0,x0),(1,a)] H Q:=wT CM (by kernel_rfl) h
def nN(g:Nat->AV)(d x3 x0 c f:AV)(H:aa)(Q:AV->aa->Prop):Prop:=
 dC 3 21 20 d f λC=>
 br (some C) (
 af 38 x3 3 λD=>
 ad H 35 D λB=>
 aX true H 28 228 [B,d] λw E=>
 aP w 0 λz=>
 aP w 1 λI=>
 eF E 7 33 λx F=>
 ax F 33 x z λG h=>
 gQ c true (aU x0) λA=>
 gQ c true (ar h 33 x) λt=>
 gQ c true (au 38 x3 1) λj=>
 gQ c true (au 31 j 0) λq=>
 gQ c true (ar h 29 q) λi=>
 gW c true h (eC false h 38 247 [A,t,i]) λk n=>
 gQ c true (au 38 x3 1) λl=>
 gQ c true (au 31 l 0) λo=>
 gQ c true (ar n 29 o) λm=>
 gW c true n (eC false n 42 246 [k,m]) λv y=>
 bo c v λe=>
 iP e λp=>
 br (some p) (
 Q e y) (
 eD 3 21 1 d λu=>
  bF env Tryz.f244 0 qN [(21,u),(3,x3),(0,x0),(5,e),(20,f)] y Q)) (
 Q c H)
theorem AU(c x3 x0 e d:AV)(H:aa)(Q:AV->aa->Prop)(h : ∀g,nN g c x3 x0 e d H Q):bF env Tryz.f244 0 qN [(21,c),(3,x3),(0,x0),(5,e),(20,d)] H Q:=uX CM (by kernel_rfl) h
def dg:Prop:=
 aZ H 3 29 a λe c=>
 ad c 29 e λh=>
 aX true c 7 248 [x0,h] λi d=>
 w6 3 7 0 i λf=>
 Q f d
theorem gR(h : ∀g:cW,dg x0 a H Q):cP Tryz.f246 0 [(0,x0),(1,a)] H Q:=fk (by kernel_rfl) h
noncomputable def Kf:Code:=(Tryz.f247.body).getD .skip
noncomputable def ke:List Item:=(mL 10003 400 [.code Kf]).getD []
noncomputable def dL:Code:=rfA ke
noncomputable def dK:Code:=rfB ke
noncomputable def vj:List Item:=rfK ke
def yr:Nat->Option (List Nat):=λi=>cond (Nat.beq i 10003) (some [16,7]) (none)
def CP:Nat->Bool:=λi=>false
def CX:Prop:=
 aZ H 4 33 a λf n=>
 aZ n 5 29 b λl i=>
 af 33 f 0 λu=>
 af 31 u 0 λk=>
 ad i 29 k λo=>
 uB i 12 277 1 0 o λt m=>
 eF m 7 277 λh p=>
 ax p 277 h t λv e=>
 ad e 33 f λq=>
 ad e 29 l λd=>
 aX true e 16 249 [x0,q,d] λc j=>
  bF env Tryz.f247 0 ke [(16,c),(7,h)] j Q
theorem JW(h : ∀g:cW,CX x0 a b H Q):cP Tryz.f247 0 [(0,x0),(1,a),(2,b)] H Q:=wT yr (by kernel_rfl) h
def uV(g:Nat->AV)(c:AV)(H:aa)(Q:AV->aa->Prop):Prop:=
 ad H 277 c λd=>
 Q d H
theorem By(c:AV)(H:aa)(Q:AV->aa->Prop)(h : ∀g,uV g c H Q):bF env Tryz.f247 0 vj [(7,c)] H Q:=⟨λg=>yO (live:=yr) (cut:=CP) (n:=500) (Eq.mp (by kernel_rfl) (h g))⟩
def kp(r:Ref)(g:Nat->AV)(k i:AV)(H:aa)(Q:AV->aa->Prop):Prop:=
 jA (na H (⟨2,8,aa.gen H 2 8,0⟩:Ref) (yl env.P (⟨2,8,aa.gen H 2 8,0⟩:Ref) 29)) λf t=>
 ax t 29 f i λz d=>
  bgP (As d r) λe=>
 fB (uL env.P (aa.get (aa.put d r (some (kV 1 e)))) 277 (some k)) λp=>
 fB (uL env.P (aa.get (aa.put d r (some (kV 1 e)))) 29 (some f)) λu=>
 jA (aL env true (ak env) (bD env 2) (aa.put d r (some (kV 1 e))) (⟨2,20,aa.gen (aa.put d r (some (kV 1 e))) 2 20,0⟩:Ref) (some (.fn (.func 246) [] [])) [p,u]) λx c=>
 iP x λq=>
 br (some q) (
 ad c 277 k λn=>
 ad c 29 f λw=>
 jA (nJ env.P false true c (⟨2,24,aa.gen c 2 24,0⟩:Ref) 277 1 (some [(0,w)])) λj l=>
 jA (jG env.P true l (⟨2,25,aa.gen l 2 25,0⟩:Ref) (some 277) (some 277) n j) λh y=>
 ax y 277 k h λm o=>
 Q (.v (.int .i64 0)) o) (
 Q (.v (.int .i64 0)) c)
theorem Cq(r:Ref)(d c:AV)(H:aa)(Q:AV->aa->Prop)(h : ∀g,kp r g d c H Q):ZI env Tryz.f247 (some r) 2 [.code dL,.beginRound,.code dK] [(7,d),(17,c)] H Q:=⟨λg=>yO (live:=yr) (cut:=CP) (n:=500) (Eq.mp (by kernel_rfl) (h g))⟩
noncomputable def bp:=ug Tryz.f248 2
def dE:Nat->Option (List Nat):=λi=>cond (Nat.beq i 2) (some [8,0,3,7]) (none)
def dG:Prop:=
 aZ H 3 29 a λe c=>
 cE c 7 277 x0 λd=>
  bF env Tryz.f248 0 bp [(8,(.v (.int .i64 0))),(0,x0),(3,e),(7,d)] c Q
theorem iD(h : ∀g:cW,dG x0 a H Q):cP Tryz.f248 0 [(0,x0),(1,a)] H Q:=wT dE (by kernel_rfl) h
def bt(g:Nat->AV)(c x0 x3 d:AV)(H:aa)(Q:AV->aa->Prop):Prop:=
 dC 3 8 7 c d λe=>
 br (some e) (
 ad H 29 x3 λh=>
 bJ H 277 x0 c λk=>
 ad H 29 k λf=>
 pY 29 11 15 h f λi=>
 br (some i) (
 Q c H) (
 eD 3 8 1 c λj=>
  bF env Tryz.f248 0 bp [(8,j),(0,x0),(3,x3),(7,d)] H Q)) (
 Q (.v (.int .i64 (-1))) H)
theorem dp(d x0 x3 c:AV)(H:aa)(Q:AV->aa->Prop)(h : ∀g,bt g d x0 x3 c H Q):bF env Tryz.f248 0 bp [(8,d),(0,x0),(3,x3),(7,c)] H Q:=uX dE (by kernel_rfl) h
def A7:Prop:=
 aZ H 3 41 x0 λc i=>
 aZ i 4 33 a λe f=>
 aZ f 5 29 b λj h=>
 fB (gY (.func 250) (some []) (some [c,e,j])) λd=>
 Q d h
theorem GD(h : ∀g:cW,A7 x0 a b H Q):cP Tryz.f249 0 [(0,x0),(1,a),(2,b)] H Q:=fk (by kernel_rfl) h
noncomputable def EM:Code:=(Tryz.f250.body).getD .skip
noncomputable def mB:=ug Tryz.f250 1
def xv:Nat->Option (List Nat):=λi=>cond (Nat.beq i 1) (some [11,0,3,2,9,10]) (none)
def xO:Prop:=
 ad H 41 a λc=>
 G8 H dep 10 41 c λd=>
  bF env Tryz.f250 (dep+1) mB [(11,(.v (.int .i64 0))),(0,x0),(3,x3),(2,b),(9,c),(10,d)] H Q
theorem DO(h : ∀g:cW,xO dep x0 a b x3 H Q):cP Tryz.f250 (dep+1) [(0,x0),(1,a),(2,b),(3,x3)] H Q:=wT xv (by kernel_rfl) h
def iu(dep:Nat)(g:Nat->AV)(x11 x0 x3 b E i:AV)(H:aa)(Q:AV->aa->Prop):Prop:=
 dC 3 11 10 x11 i λK=>
 br (some K) (
 bJ H 41 E x11 λM=>
 ad H 38 M λJ=>
 pZ H dep 6 38 λf O=>
 ax O 38 f J λR k=>
 af 38 f 3 λP=>
 ad k 35 P λL=>
 ad k 33 b λI=>
 jA (aL env true (ak env) (bD env (dep+1)) k (⟨(dep+1),19,aa.gen k (dep+1) 19,0⟩:Ref) (some (.fn (.func 251) [] [])) [L,I]) λF e=>
 aP F 0 λN=>
 aP F 1 λn=>
 af 38 f 0 λw=>
 ad e 5 w λm=>
 G7 5 23 m λh=>
 gQ h true (aU n) λo=>
 bo h o λc=>
 gQ c true (au 38 f 1) λp=>
 gQ c true (au 31 p 0) λC=>
 gQ c true (ar e 29 C) λt=>
 gQ c true (ar e 29 x3) λu=>
 gW c true e (aL env true (ak env) (bD env (dep+1)) e (⟨(dep+1),33,aa.gen e (dep+1) 33,0⟩:Ref) (some (.fn (.func 47) [] [])) [t,u]) λz j=>
 bo c z λd=>
 gQ d true (aU x0) λx=>
 gQ d true (au 38 f 5) λD=>
 gQ d true (ar j 29 D) λq=>
 gW d true j (aL env true (ak env) (bD env (dep+1)) j (⟨(dep+1),39,aa.gen j (dep+1) 39,0⟩:Ref) (some x) [q]) λA G=>
 gQ d true (oG A) λl=>
 bo d l λB=>
 br (some B) (
 Q (.v (.tuple #[])) G) (
 eD 3 11 1 x11 λy=>
  bF env Tryz.f250 (dep+1) mB [(11,y),(0,x0),(3,x3),(2,b),(9,E),(10,i)] G Q)) (
 Q (.v (.tuple #[])) H)
theorem vg(dep:Nat)(x11 x0 x3 b d c:AV)(H:aa)(Q:AV->aa->Prop)(h : ∀g,iu dep g x11 x0 x3 b d c H Q):bF env Tryz.f250 (dep+1) mB [(11,x11),(0,x0),(3,x3),(2,b),(9,d),(10,c)] H Q:=uX xv (by kernel_rfl) h
def rM:Prop:=
 aZ H 1 62 x0 λc o=>
 eF o 2 62 λf h=>
 af 62 c 2 λp=>
 ad h 38 p λl=>
 aX true h 5 56 [l] λj n=>
 af 62 c 2 λm=>
 ax n 38 m j λq e=>
 ad e 62 c λk=>
 ax e 62 f k λt i=>
 bP i f 62 λd=>
 Q d i
theorem y3(h : ∀g:cW,rM x0 H Q):cP Tryz.f55 0 [(0,x0)] H Q:=fk (by kernel_rfl) h
def mU:Prop:=
 aZ H 1 38 x0 λc o=>
 eF o 2 38 λh d=>
 af 38 c 6 λp=>
 ad d 36 p λl=>
 jA (jG env.P true d (Ref.mk 0 5 (aa.gen d 0 5) 0) (some 36) (some 36) (.v (.slice none 0 0)) l) λj n=>
 af 38 c 6 λm=>
 ax n 36 m j λq f=>
 ad f 38 c λk=>
 ax f 38 h k λt i=>
 bP i h 38 λe=>
 Q e i
theorem y7(h : ∀g:cW,mU x0 H Q):cP Tryz.f56 0 [(0,x0)] H Q:=fk (by kernel_rfl) h
def eZ:Prop:=
 aZ H 4 25 x0 λw D=>
 aZ D 6 31 b λx I=>
 eF I 8 107 λk y=>
 ad y 25 w λB=>
 aX true y 12 66 [B,a] λE t=>
 iP E λj=>
 gQ j false (ar t 31 x) λC=>
 gW j false t (eC true t 16 93 [C]) λA l=>
 gQ j false (oG A) λF=>
 dn j F λd=>
 gQ d false (aU x3) λn=>
 gQ d false (Bq 3 20 0 n) λm=>
 dn d m λc=>
 gQ c false (aU x3) λo=>
 gQ c false (wZ 3 24 255 o) λq=>
 dn c q λu=>
 br (some u) (
 mo 107 λe=>
 ax l 107 k e λh i=>
 bP i k 107 λf=>
 Q (.tup [f,(.v (.int .i64 8))]) i) (
 ad l 25 w λe=>
 ad l 31 x λh=>
 aX true l 32 130 [e,a,h,x3] λf i=>
 ax i 107 k f λG z=>
 bP z k 107 λp=>
 Q (.tup [p,(.v (.int .i64 0))]) z)
theorem rf(h : ∀g:cW,eZ x0 a b x3 H Q):cP Tryz.f57 0 [(0,x0),(1,a),(2,b),(3,x3)] H Q:=fk (by kernel_rfl) h
def ef:Prop:=
 aZ H 4 25 x0 λx E=>
 aZ E 6 31 b λy K=>
 aZ K 7 38 x3 λB D=>
 eF D 8 107 λi z=>
 ad z 25 x λF=>
 aX true z 12 66 [F,a] λJ w=>
 iP J λj=>
 gQ j false (ar w 31 y) λC=>
 gW j false w (eC true w 16 93 [C]) λG n=>
 gQ j false (oG G) λp=>
 dn j p λc=>
 gQ c false (ar n 38 B) λl=>
 gW c false n (eC true n 21 73 [l]) λm h=>
 gQ c false (oG m) λo=>
 dn c o λt=>
 br (some t) (
 mo 107 λd=>
 ax h 107 i d λf k=>
 bP k i 107 λe=>
 Q (.tup [e,(.v (.int .i64 8))]) k) (
 ad h 25 x λd=>
 ad h 31 y λf=>
 ad h 38 B λe=>
 aX true h 29 131 [d,a,f,e] λu k=>
 ax k 107 i u λI A=>
 bP A i 107 λq=>
 Q (.tup [q,(.v (.int .i64 0))]) A)
theorem lA(h : ∀g:cW,ef x0 a b x3 H Q):cP Tryz.f58 0 [(0,x0),(1,a),(2,b),(3,x3)] H Q:=fk (by kernel_rfl) h
def kC:Prop:=
 aZ H 3 25 x0 λj p=>
 aZ p 5 31 b λk l=>
 ad l 25 j λu=>
 aX true l 10 66 [u,a] λn i=>
 iP n λc=>
 gQ c false (ar i 31 k) λt=>
 gW c false i (eC true i 14 93 [t]) λo d=>
 gQ c false (oG o) λm=>
 dn c m λq=>
 br (some q) (
 Q (.tup [(.v (.bool false)),(.v (.int .i64 8))]) d) (
 ad d 25 j λh=>
 ad d 31 k λf=>
 aX true d 20 132 [h,a,f] λe w=>
 Q (.tup [e,(.v (.int .i64 0))]) w)
theorem zT(h : ∀g:cW,kC x0 a b H Q):cP Tryz.f60 0 [(0,x0),(1,a),(2,b)] H Q:=fk (by kernel_rfl) h
noncomputable def jq:=ug Tryz.f66 4
def sD:Nat->Option (List Nat):=λi=>cond (Nat.beq i 4) (some [5,1,2]) (none)
def kD:Prop:=
 aZ H 2 25 x0 λe f=>
 ad f 25 e λj=>
 aX true f 7 134 [j] λm d=>
 iP m λc=>
 gQ c false (aU a) λh=>
 gQ c false (yG d 11 26 h) λl=>
 gQ c false (wZ 3 11 2048 l) λk=>
 dn c k λi=>
 br (some i) (
 Q (.v (.bool false)) d) (
  bF env Tryz.f66 0 jq [(5,(.v (.int .i64 0))),(1,a),(2,e)] d Q)
theorem zV(h : ∀g:cW,kD x0 a H Q):cP Tryz.f66 0 [(0,x0),(1,a)] H Q:=wT sD (by kernel_rfl) h
def gh(g:Nat->AV)(e a b:AV)(H:aa)(Q:AV->aa->Prop):Prop:=
 cE H 16 26 a λq=>
 dC 3 14 16 e q λx=>
 br (some x) (
 bJ H 26 a e λA=>
 ad H 62 A λw=>
 aX false H 24 85 [w] λy d=>
 iP y λc=>
 gQ c false (ar d 25 b) λu=>
 gQ c false (aU a) λt=>
 gQ c false (aU e) λz=>
 gQ c false (ja env.P (aa.get d) 26 (some t) (some none) (oi z) (some none)) λk=>
 gQ c false (aU a) λi=>
 gQ c false (aU e) λf=>
 gQ c false (q6 d 26 i f) λh=>
 gQ c false (ar d 62 h) λj=>
 gW c false d (eC false d 35 86 [u,k,j]) λo p=>
 gQ c false (oG o) λm=>
 dn c m λl=>
 br (some l) (
 Q (.v (.bool false)) p) (
 eD 3 18 1 e λn=>
  bF env Tryz.f66 0 jq [(5,n),(1,a),(2,b)] p Q)) (
 Q (.v (.bool true)) H)
theorem p5(c a b:AV)(H:aa)(Q:AV->aa->Prop)(h : ∀g,gh g c a b H Q):bF env Tryz.f66 0 jq [(5,c),(1,a),(2,b)] H Q:=uX sD (by kernel_rfl) h
noncomputable def zF:Code:=(Tryz.f68.body).getD .skip
noncomputable def fH:=ug Tryz.f68 3
def ry:Nat->Option (List Nat):=λi=>cond (Nat.beq i 3) (some [4,0,3]) (none)
def rI:Prop:=
 bF env Tryz.f68 0 fH [(4,(.v (.int .i64 0))),(0,x0),(3,(.v (.slice none 0 0)))] H Q
theorem yV(h : ∀g:cW,rI x0 H Q):cP Tryz.f68 0 [(0,x0)] H Q:=wT ry (by kernel_rfl) h
def ei(g:Nat->AV)(e x0 x3:AV)(H:aa)(Q:AV->aa->Prop):Prop:=
 cE H 7 26 x0 λp=>
 dC 3 5 7 e p λv=>
 br (some v) (
 bJ H 26 x0 e λA=>
 af 62 A 0 λu=>
 ad H 5 u λx=>
 vN 5 15 x λd=>
 gQ d true (aU x0) λt=>
 gQ d true (aU e) λq=>
 gQ d true (q6 H 26 t q) λy=>
 gQ d true (au 62 y 3) λj=>
 gQ d true (ar H 42 j) λi=>
 gQ d true (ra 42 22 0 i) λf=>
 bo d f λh=>
 br (some h) (
 bJ H 26 x0 e λc=>
 af 62 c 2 λo=>
 ad H 38 o λm=>
 uB H 31 41 1 0 m λk w=>
 mX w 32 41 41 x3 k λn z=>
 eD 3 9 1 e λl=>
  bF env Tryz.f68 0 fH [(4,l),(0,x0),(3,n)] z Q) (
 eD 3 9 1 e λc=>
  bF env Tryz.f68 0 fH [(4,c),(0,x0),(3,x3)] H Q)) (
 Q x3 H)
theorem fG(c x0 x3:AV)(H:aa)(Q:AV->aa->Prop)(h : ∀g,ei g c x0 x3 H Q):bF env Tryz.f68 0 fH [(4,c),(0,x0),(3,x3)] H Q:=uX ry (by kernel_rfl) h
def aQ:Prop:=
 aZ H 1 38 x0 λf H1=>
 af 38 f 1 λv2=>
 ad H1 31 v2 λv3=>
 aX true H1 6 93 [v3] λv4 L=>
 iP v4 λM=>
 gQ M false (au 38 f 2) λv6=>
 gQ M false (ar L 3 v6) λv7=>
 gQ M false (Bq 3 10 1 v7) λv8=>
 dn M v8 λN=>
 gQ N false (au 38 f 2) λv10=>
 gQ N false (ar L 3 v10) λO=>
 gQ N false (wY 3 15 16777216 O) λv12=>
 dn N v12 λl=>
 gQ l false (au 38 f 3) λS=>
 gQ l false (ar L 35 S) λT=>
 gW l false L (eC true L 21 138 [T]) λY p=>
 gQ l false (oG Y) λU=>
 dn l U λv18=>
 br (some v18) (
 Q (.v (.bool false)) p) (
 af 38 f 5 λX=>
 ad p 29 X λZ=>
 mo 29 λv21=>
 pY 29 25 26 Z v21 λi=>
 af 38 f 0 λv23=>
 ad p 5 v23 λv24=>
 yH 5 29 v24 λV=>
 br (some V) (
 gQ i true (au 38 f 4) λE=>
 gQ i true (ar p 33 E) λq=>
 gW i true p (eC true p 35 139 [q]) λI k=>
 gQ i true (aU I) λc=>
 gQ c false (au 38 f 4) λx=>
 gQ c false (ar k 33 x) λz=>
 gW c false k (eC true k 39 140 [z]) λJ n=>
 gQ i true (Kj c J) λy=>
 bo i y λe=>
 gQ e true (au 38 f 3) λG=>
 gQ e true (au 35 G 0) λK=>
 gQ e true (au 33 K 0) λo=>
 gQ e true (ar n 31 o) λA=>
 gQ e true (au 38 f 1) λh=>
 gQ e true (ar n 31 h) λB=>
 gQ e true (gT 31 46 48 A B) λF=>
 bo e F λd=>
 gQ d true (au 38 f 6) λj=>
 gQ d true (ar n 36 j) λu=>
 gQ d true (yG n 54 36 u) λC=>
 gQ d true (au 38 f 3) λt=>
 gQ d true (au 35 t 1) λw=>
 gQ d true (ar n 3 w) λD=>
 gQ d true (gT 3 54 57 C D) λR=>
 bo d R λm=>
 gQ m true (au 38 f 6) λv51=>
 gQ m true (ar n 36 v51) λv52=>
 gW m true n (eC true n 63 141 [v52]) λv53 H6=>
 gQ m true (ra 3 63 0 v53) λv54=>
 bo m v54 λW=>
 Q W H6) (
 af 38 f 4 λE=>
 ad p 33 E λq=>
 aX true p 68 139 [q] λI k=>
 iP I λc=>
 gQ c false (au 38 f 6) λx=>
 gQ c false (ar k 36 x) λz=>
 gQ c false (yG k 73 36 z) λJ=>
 gQ c false (wZ 3 73 0 J) λy=>
 dn c y λe=>
 br (some e) (
 Q (.v (.bool false)) k) (
 af 38 f 0 λG=>
 ad k 5 G λK=>
 vN 5 77 K λo=>
 gQ o true (aU i) λA=>
 bo o A λh=>
 gQ h false (au 38 f 0) λB=>
 gQ h false (ar k 5 B) λF=>
 gQ h false (bY env.P .eql 5 (Operand.tmp 84) (.const (.int .u8 3)) (some F) (some (a8 3))) λd=>
 gQ h false (aU d) λj=>
 gQ j true (au 38 f 5) λu=>
 gQ j true (ar k 29 u) λC=>
 gW j true k (eC true k 89 78 [C]) λt n=>
 gQ h false (G4 j t) λw=>
 dn h w λD=>
 Q D n)))
theorem z0(h : ∀g:cW,aQ x0 H Q):cP Tryz.f73 0 [(0,x0)] H Q:=fk (by kernel_rfl) h
def fK:Prop:=
 aZ H 3 25 x0 λJ L=>
 aZ L 5 38 b λf N=>
 aX false N 9 68 [a] λI E=>
 ad E 38 f λG=>
 aX false E 11 142 [I,G] λC d=>
 kb 3 12 0 C λM=>
 br (some M) (
 Q C d) (
 af 38 f 0 λK=>
 ad d 5 K λF=>
 yH 5 16 F λc=>
 gQ c true (aU a) λu=>
 gQ c true (au 38 f 1) λj=>
 gQ c true (au 31 j 0) λq=>
 gQ c true (ar d 29 q) λi=>
 gW c true d (eC false d 23 99 [u,i]) λk e=>
 gQ c true (Dq 81 k 3) λB=>
 gQ c true (au 38 f 3) λo=>
 gQ c true (au 35 o 1) λl=>
 gQ c true (ar e 3 l) λz=>
 gQ c true (Ru 3 24 27 B z) λn=>
 gQ c true (ar e 25 J) λp=>
 gQ c true (au 38 f 1) λw=>
 gQ c true (au 31 w 0) λy=>
 gQ c true (ar e 29 y) λt=>
 gW c true e (eC false e 33 143 [p,t]) λA D=>
 gQ c true (Dq 81 A 3) λm=>
 gQ c true (Uj 3 28 34 n m) λx=>
 bo c x λh=>
 br (some h) (
 Q (.v (.int .i64 9)) D) (
 Q (.v (.int .i64 0)) D))
theorem wQ(h : ∀g:cW,fK x0 a b H Q):cP Tryz.f74 0 [(0,x0),(1,a),(2,b)] H Q:=fk (by kernel_rfl) h
def tn:Prop:=
 aZ H 1 29 x0 λd c=>
 af 29 d 0 λf=>
 ad c 5 f λh=>
 fB (bY env.P .leq 5 (Operand.tmp 4) (.const (.int .u8 15)) (some h) (some (a8 15))) λe=>
 Q e c
theorem Ac(h : ∀g:cW,tn x0 H Q):cP Tryz.f78 0 [(0,x0)] H Q:=fk (by kernel_rfl) h
def aW:Prop:=
 aZ H 1 62 x0 λf p=>
 af 62 f 0 λN=>
 ad p 5 N λM=>
 yH 5 4 M λL=>
 br (some L) (
 af 62 f 2 λG=>
 ad p 38 G λK=>
 aX true p 8 154 [K] λC q=>
 gQ C true (au 62 f 2) λF=>
 gQ C true (au 38 F 1) λJ=>
 gQ C true (ar q 31 J) λD=>
 gW C true q (eC true q 13 93 [D]) λt o=>
 bo C t λk=>
 gQ k true (au 62 f 1) λc=>
 gQ k true (ar o 3 c) λu=>
 gQ k true (wY 3 17 0 u) λz=>
 bo k z λi=>
 gQ i true (au 62 f 1) λh=>
 gQ i true (ar o 3 h) λn=>
 gQ i true (AN 3 22 255 n) λw=>
 bo i w λj=>
 gQ j true (au 62 f 3) λl=>
 gQ j true (ar o 42 l) λm=>
 gQ j true (ra 42 27 0 m) λx=>
 bo j x λe=>
 gQ e true (au 62 f 4) λd=>
 gQ e true (ar o 60 d) λy=>
 gQ e true (Lb 60) λA=>
 gQ e true (gT 60 32 33 y A) λE=>
 bo e E λB=>
 Q B o) (
 af 62 f 1 λG=>
 ad p 3 G λK=>
 kb 3 37 0 K λC=>
 br (some C) (
 Q (.v (.bool false)) p) (
 af 62 f 0 λF=>
 ad p 5 F λJ=>
 vN 5 40 J λD=>
 br (some D) (
 af 62 f 2 λt=>
 ad p 38 t λk=>
 aX true p 44 73 [k] λc q=>
 gQ c true (au 62 f 2) λu=>
 gQ c true (ar q 38 u) λz=>
 gW c true q (eC true q 48 155 [z]) λi o=>
 bo c i λh=>
 gQ h true (au 62 f 3) λn=>
 gQ h true (ar o 42 n) λw=>
 gQ h true (wY 42 52 0 w) λj=>
 bo h j λl=>
 gQ l true (au 62 f 3) λm=>
 gQ l true (ar o 42 m) λx=>
 gQ l true (Bq 42 57 65536 x) λe=>
 bo l e λd=>
 gQ d true (au 62 f 4) λy=>
 gQ d true (ar o 60 y) λA=>
 gQ d true (Lb 60) λE=>
 gQ d true (gT 60 62 63 A E) λB=>
 bo d B λI=>
 Q I o) (
 af 62 f 0 λt=>
 ad p 5 t λk=>
 G7 5 67 k λc=>
 gQ c true (au 62 f 2) λu=>
 gQ c true (ar p 38 u) λz=>
 gQ c true (Lb 38) λi=>
 gW c true p (eC true p 73 62 [z,i]) λh q=>
 bo c h λn=>
 gQ n true (au 62 f 3) λw=>
 gQ n true (ar q 42 w) λj=>
 gQ n true (ra 42 77 0 j) λl=>
 bo n l λm=>
 gQ m true (au 62 f 4) λx=>
 gQ m true (ar q 60 x) λe=>
 gW m true q (eC true q 83 156 [e]) λd o=>
 bo m d λy=>
 Q y o)))
theorem zZ(h : ∀g:cW,aW x0 H Q):cP Tryz.f85 0 [(0,x0)] H Q:=fk (by kernel_rfl) h
def bc:Prop:=
 aZ H 3 25 x0 λS H1=>
 aZ H1 5 62 b λq H2=>
 ad H2 25 S λv3=>
 aX true H2 14 89 [v3,a] λv4 H3=>
 eF H3 7 25 λR H4=>
 ax H4 25 R v4 λv6 N=>
 af 62 q 0 λv7=>
 ad N 5 v7 λv8=>
 G7 5 16 v8 λv9=>
 br (some v9) (
 ad N 25 R λK=>
 af 62 q 4 λE=>
 ad N 60 E λx=>
 aX true N 22 157 [K,x] λp H6=>
 aP p 0 λk=>
 aP p 1 λP=>
 eF H6 8 25 λI T=>
 ax T 25 I k λO H8=>
 vO 3 25 0 P λL=>
 Q L H8) (
 af 62 q 2 λK=>
 af 38 K 1 λE=>
 af 31 E 0 λx=>
 ad N 29 x λp=>
 eF N 10 29 λk H6=>
 ax H6 29 k p λP T=>
 af 62 q 2 λI=>
 af 38 I 1 λO=>
 ad T 31 O λL=>
 aX true T 35 94 [a,L] λX H8=>
 eF H8 11 73 λo H9=>
 ax H9 73 o X λv21 c=>
 af 62 q 0 λv22=>
 ad c 5 v22 λZ=>
 yH 5 37 Z λv24=>
 br (some v24) (
 af 73 o 0 λG=>
 ad c 4 G λm=>
 iP m λl=>
 gQ l true (ar c 25 R) λB=>
 gQ l true (au 62 q 1) λJ=>
 gQ l true (ar c 3 J) λt=>
 gQ l true (ar c 29 k) λu=>
 gW l true c (eC false c 47 158 [B,t,u]) λf h=>
 bo l f λe=>
 gQ e true (aU a) λM=>
 gQ e true (ar h 29 k) λA=>
 gW e true h (eC false h 52 99 [M,A]) λC j=>
 gQ e true (Dq 81 C 1) λF=>
 gQ e true (ar j 25 S) λw=>
 gQ e true (ar j 29 k) λv=>
 gW e true j (eC false j 56 143 [w,v]) λd n=>
 gQ e true (Dq 81 d 1) λz=>
 gQ e true (G5 3 53 57 F z) λy=>
 bo e y λD=>
 Q D n) (
 af 73 o 0 λG=>
 ad c 4 G λm=>
 gQ m true (ar c 25 R) λl=>
 gQ m true (au 73 o 1) λB=>
 gQ m true (ar c 3 B) λJ=>
 gQ m true (ar c 29 k) λt=>
 gW m true c (eC false c 67 158 [l,J,t]) λu h=>
 bo m u λf=>
 gQ f true (au 62 q 2) λe=>
 gQ f true (au 38 e 2) λM=>
 gQ f true (ar h 3 M) λA=>
 gQ f true (au 73 o 2) λC=>
 gQ f true (ar h 3 C) λF=>
 gQ f true (ZN 3 74 1 F) λw=>
 gQ f true (gT 3 72 75 A w) λv=>
 bo f v λd=>
 gQ d true (aU a) λz=>
 gQ d true (ar h 29 k) λy=>
 gW d true h (eC false h 81 99 [z,y]) λD j=>
 gQ d true (Dq 81 D 2) λV=>
 gQ d true (ar j 25 S) λv45=>
 gQ d true (ar j 29 k) λU=>
 gW d true j (eC false j 85 143 [v45,U]) λv47 n=>
 gQ d true (Dq 81 v47 2) λv48=>
 gQ d true (G5 3 82 86 V v48) λv49=>
 bo d v49 λi=>
 gQ i true (au 62 q 3) λv51=>
 gQ i true (ar n 42 v51) λv52=>
 gQ i true (ar n 25 S) λv53=>
 gQ i true (aU a) λv54=>
 gQ i true (au 62 q 2) λW=>
 gQ i true (ar n 38 W) λv56=>
 gW i true n (eC false n 96 74 [v53,v54,v56]) λv57 H14=>
 gQ i true (gT 3 91 96 v52 v57) λY=>
 bo i Y λv59=>
 Q v59 H14))
theorem yU(h : ∀g:cW,bc x0 a b H Q):cP Tryz.f86 0 [(0,x0),(1,a),(2,b)] H Q:=fk (by kernel_rfl) h
noncomputable def Ay:Code:=(Tryz.f89.body).getD .skip
noncomputable def fW:=ug Tryz.f89 2
def sC:Nat->Option (List Nat):=λi=>cond (Nat.beq i 2) (some [5,2,1,4]) (none)
def sZ:Prop:=
 aZ H 2 25 x0 λe f=>
 eF f 4 25 λd c=>
  bF env Tryz.f89 0 fW [(5,(.v (.int .i64 0))),(2,e),(1,a),(4,d)] c Q
theorem zU(h : ∀g:cW,sZ x0 a H Q):cP Tryz.f89 0 [(0,x0),(1,a)] H Q:=wT sC (by kernel_rfl) h
def gf(g:Nat->AV)(d b a f:AV)(H:aa)(Q:AV->aa->Prop):Prop:=
 cE H 8 26 a λo=>
 dC 3 6 8 d o λt=>
 br (some t) (
 bJ H 26 a d λl=>
 af 62 l 0 λn=>
 ad H 5 n λk=>
 G7 5 16 k λw=>
 br (some w) (
 ad H 25 b λi=>
 bJ H 26 a d λp=>
 af 62 p 4 λv=>
 ad H 60 v λj=>
 aX false H 25 157 [i,j] λc e=>
 aP c 0 λh=>
 aP c 1 λq=>
 ax e 25 b h λu x=>
 eD 3 10 1 d λm=>
  bF env Tryz.f89 0 fW [(5,m),(2,b),(1,a),(4,f)] x Q) (
 eD 3 10 1 d λi=>
  bF env Tryz.f89 0 fW [(5,i),(2,b),(1,a),(4,f)] H Q)) (
 ad H 25 b λl=>
 ax H 25 f l λn e=>
 bP e f 25 λk=>
 Q k e)
theorem jm(d b a c:AV)(H:aa)(Q:AV->aa->Prop)(h : ∀g,gf g d b a c H Q):bF env Tryz.f89 0 fW [(5,d),(2,b),(1,a),(4,c)] H Q:=uX sC (by kernel_rfl) h
def nO:Prop:=
 aZ H 1 31 x0 λd f=>
 af 31 d 0 λj=>
 ad f 29 j λm=>
 aX true f 5 78 [m] λc e=>
 gQ c true (au 31 d 1) λh=>
 gQ c true (ar e 5 h) λl=>
 gQ c true (bY env.P .lss 5 (Operand.tmp 8) (.const (.int .u8 8)) (some l) (some (a8 8))) λk=>
 bo c k λi=>
 Q i e
theorem uZ(h : ∀g:cW,nO x0 H Q):cP Tryz.f93 0 [(0,x0)] H Q:=fk (by kernel_rfl) h
noncomputable def cU:=ug Tryz.f94 3
def tG:Nat->Option (List Nat):=λi=>cond (Nat.beq i 3) (some [6,5,0,3,4]) (none)
def tL:Prop:=
 aZ H 3 31 a λd h=>
 eF h 4 73 λf c=>
 eF c 5 73 λi e=>
  bF env Tryz.f94 0 cU [(6,(.v (.int .i64 0))),(5,i),(0,x0),(3,d),(4,f)] e Q
theorem Be(h : ∀g:cW,tL x0 a H Q):cP Tryz.f94 0 [(0,x0),(1,a)] H Q:=wT tG (by kernel_rfl) h
def fa(g:Nat->AV)(c d x0 x3 m:AV)(H:aa)(Q:AV->aa->Prop):Prop:=
 cE H 9 26 x0 λO=>
 dC 3 7 9 c O λS=>
 br (some S) (
 bJ H 26 x0 c λG=>
 af 62 G 2 λM=>
 af 38 M 1 λB=>
 ad H 31 B λV=>
 ad H 31 x3 λR=>
 yF 31 18 19 V R λN=>
 br (some N) (
 eD 3 11 1 c λD=>
  bF env Tryz.f94 0 cU [(6,D),(5,d),(0,x0),(3,x3),(4,m)] H Q) (
 bJ H 26 x0 c λD=>
 af 62 D 0 λK=>
 ad H 5 K λA=>
 yH 5 25 A λI=>
 br (some I) (
 af 73 d 0 λj=>
 jA (nS env.P H 4 (some j) (some (AV.v (Value.bool true)))) λw h=>
 bJ h 26 x0 c λu=>
 af 62 u 1 λk=>
 ad h 3 k λe=>
 af 73 d 1 λt=>
 ax h 3 t e λy i=>
 bJ i 26 x0 c λl=>
 af 62 l 0 λo=>
 ad i 5 o λq=>
 vN 5 38 q λn=>
 br (some n) (
 af 73 d 2 λf=>
 ad i 3 f λx=>
 bJ i 26 x0 c λp=>
 af 62 p 2 λz=>
 af 38 z 2 λL=>
 ad i 3 L λJ=>
 MT i 48 3 3 x J λC=>
 af 73 d 2 λF=>
 ax i 3 F C λU T=>
 fB (
  bY env.P .add 3 (Operand.tmp 11) (Operand.const (Value.int IntKind.i64 1)) (some c) (some (AV.v (Value.int IntKind.i64 1)))) λE=>
  bF env Tryz.f94 0 cU [(6,E),(5,d),(0,x0),(3,x3),(4,m)] T Q) (
 fB (
  bY env.P .add 3 (Operand.tmp 11) (Operand.const (Value.int IntKind.i64 1)) (some c) (some (AV.v (Value.int IntKind.i64 1)))) λf=>
  bF env Tryz.f94 0 cU [(6,f),(5,d),(0,x0),(3,x3),(4,m)] i Q)) (
 bJ H 26 x0 c λj=>
 af 62 j 0 λw=>
 ad H 5 w λu=>
 vN 5 38 u λk=>
 br (some k) (
 af 73 d 2 λe=>
 ad H 3 e λt=>
 bJ H 26 x0 c λy=>
 af 62 y 2 λl=>
 af 38 l 2 λo=>
 ad H 3 o λq=>
 MT H 48 3 3 t q λn=>
 af 73 d 2 λf=>
 ax H 3 f n λx h=>
 fB (
  bY env.P .add 3 (Operand.tmp 11) (Operand.const (Value.int IntKind.i64 1)) (some c) (some (AV.v (Value.int IntKind.i64 1)))) λp=>
  bF env Tryz.f94 0 cU [(6,p),(5,d),(0,x0),(3,x3),(4,m)] h Q) (
 fB (
  bY env.P .add 3 (Operand.tmp 11) (Operand.const (Value.int IntKind.i64 1)) (some c) (some (AV.v (Value.int IntKind.i64 1)))) λe=>
  bF env Tryz.f94 0 cU [(6,e),(5,d),(0,x0),(3,x3),(4,m)] H Q)))) (
 ad H 73 d λG=>
 ax H 73 m G λM h=>
 bP h m 73 λB=>
 Q B h)
theorem gz(e d x0 x3 c:AV)(H:aa)(Q:AV->aa->Prop)(h : ∀g,fa g e d x0 x3 c H Q):bF env Tryz.f94 0 cU [(6,e),(5,d),(0,x0),(3,x3),(4,c)] H Q:=uX tG (by kernel_rfl) h
noncomputable def iM:=ug Tryz.f96 2
def rr:Nat->Option (List Nat):=λi=>cond (Nat.beq i 2) (some [8,0,2,4]) (none)
def rH:Prop:=
 aZ H 4 31 a λc d=>
  bF env Tryz.f96 0 iM [(8,(.v (.int .i64 0))),(0,x0),(2,b),(4,c)] d Q
theorem yT(h : ∀g:cW,rH x0 a b H Q):cP Tryz.f96 0 [(0,x0),(1,a),(2,b)] H Q:=wT rr (by kernel_rfl) h
def eg(g:Nat->AV)(f x0 b A:AV)(H:aa)(Q:AV->aa->Prop):Prop:=
 cE H 11 26 x0 λG=>
 dC 3 9 11 f G λJ=>
 br (some J) (
 bJ H 26 x0 f λF=>
 af 62 F 0 λC=>
 ad H 5 C λD=>
 vN 5 19 D λd=>
 gQ d true (aU x0) λI=>
 gQ d true (aU f) λB=>
 gQ d true (q6 H 26 I B) λE=>
 gQ d true (au 62 E 2) λt=>
 gQ d true (au 38 t 1) λj=>
 gQ d true (ar H 31 j) λp=>
 gQ d true (ar H 31 A) λi=>
 gQ d true (gT 31 27 28 p i) λk=>
 bo d k λc=>
 gQ c true (aU x0) λn=>
 gQ c true (aU f) λl=>
 gQ c true (q6 H 26 n l) λy=>
 gQ c true (au 62 y 2) λm=>
 gQ c true (au 38 m 2) λo=>
 gQ c true (ar H 3 o) λu=>
 gQ c true (aU b) λx=>
 gQ c true (gT 3 37 38 u x) λq=>
 bo c q λz=>
 br (some z) (
 bJ H 26 x0 f λe=>
 af 62 e 3 λw=>
 ad H 42 w λh=>
 Q (.tup [h,(.v (.bool true))]) H) (
 eD 3 13 1 f λe=>
  bF env Tryz.f96 0 iM [(8,e),(0,x0),(2,b),(4,A)] H Q)) (
 Q (.tup [(.v (.int .i64 0)),(.v (.bool false))]) H)
theorem fF(c x0 b d:AV)(H:aa)(Q:AV->aa->Prop)(h : ∀g,eg g c x0 b d H Q):bF env Tryz.f96 0 iM [(8,c),(0,x0),(2,b),(4,d)] H Q:=uX rr (by kernel_rfl) h
noncomputable def bm:=ug Tryz.f99 3
def qn:Nat->Option (List Nat):=λi=>cond (Nat.beq i 3) (some [6,5,0,3,4]) (none)
def qD:Prop:=
 aZ H 3 29 a λd k=>
 eF k 4 81 λi e=>
 ad e 29 d λl=>
 yE 81 0 l λh=>
 eF e 5 81 λc j=>
 ax j 81 c h λm f=>
  bF env Tryz.f99 0 bm [(6,(.v (.int .i64 0))),(5,c),(0,x0),(3,d),(4,i)] f Q
theorem xV(h : ∀g:cW,qD x0 a H Q):cP Tryz.f99 0 [(0,x0),(1,a)] H Q:=wT qn (by kernel_rfl) h
def cC(g:Nat->AV)(f k x0 x3 L:AV)(H:aa)(Q:AV->aa->Prop):Prop:=
 cE H 11 26 x0 λv1=>
 dC 3 9 11 f v1 λv2=>
 br (some v2) (
 bJ H 26 x0 f λv3=>
 af 62 v3 2 λv4=>
 af 38 v4 1 λv5=>
 af 31 v5 0 λv6=>
 ad H 29 v6 λv7=>
 ad H 29 x3 λv8=>
 yF 29 21 22 v7 v8 λv9=>
 br (some v9) (
 eD 3 13 1 f λY=>
  bF env Tryz.f99 0 bm [(6,Y),(5,k),(0,x0),(3,x3),(4,L)] H Q) (
 bJ H 26 x0 f λY=>
 af 62 Y 0 λv11=>
 ad H 5 v11 λv12=>
 yH 5 28 v12 λv13=>
 br (some v13) (
 af 81 k 1 λW=>
 ad H 3 W λZ=>
 eD 3 31 1 Z λX=>
 af 81 k 1 λU=>
 ax H 3 U X λT e=>
 bJ e 26 x0 f λK=>
 af 62 K 0 λP=>
 ad e 5 P λm=>
 vN 5 38 m λS=>
 br (some S) (
 af 81 k 2 λv=>
 ad e 3 v λG=>
 eD 3 41 1 G λC=>
 af 81 k 2 λd=>
 ax e 3 d C λJ A=>
 bJ A 26 x0 f λi=>
 af 62 i 0 λD=>
 ad A 5 D λq=>
 vN 5 48 q λj=>
 gQ j true (aU x0) λF=>
 gQ j true (aU f) λc=>
 gQ j true (q6 A 26 F c) λB=>
 gQ j true (au 62 B 3) λx=>
 gQ j true (ar A 42 x) λy=>
 gQ j true (ra 42 55 0 y) λn=>
 bo j n λh=>
 gQ h true (aU x0) λt=>
 gQ h true (aU f) λu=>
 gQ h true (q6 A 26 t u) λw=>
 gQ h true (au 62 w 2) λl=>
 gQ h true (au 38 l 0) λz=>
 gQ h true (ar A 5 z) λp=>
 gQ h true (Rx 5 64 p) λE=>
 bo h E λI=>
 br (some I) (
 af 81 k 3 λo=>
 ad A 3 o λR=>
 bJ A 26 x0 f λO=>
 af 62 O 2 λM=>
 af 38 M 3 λV=>
 af 35 V 1 λN=>
 ad A 3 N λv53=>
 q7 3 68 75 R v53 λv54=>
 af 81 k 3 λv55=>
 ax A 3 v55 v54 λv56 H3=>
 eD 3 13 1 f λv57=>
  bF env Tryz.f99 0 bm [(6,v57),(5,k),(0,x0),(3,x3),(4,L)] H3 Q) (
 eD 3 13 1 f λo=>
  bF env Tryz.f99 0 bm [(6,o),(5,k),(0,x0),(3,x3),(4,L)] A Q)) (
 bJ e 26 x0 f λv=>
 af 62 v 0 λG=>
 ad e 5 G λC=>
 vN 5 48 C λd=>
 gQ d true (aU x0) λJ=>
 gQ d true (aU f) λi=>
 gQ d true (q6 e 26 J i) λD=>
 gQ d true (au 62 D 3) λq=>
 gQ d true (ar e 42 q) λj=>
 gQ d true (ra 42 55 0 j) λF=>
 bo d F λc=>
 gQ c true (aU x0) λB=>
 gQ c true (aU f) λx=>
 gQ c true (q6 e 26 B x) λy=>
 gQ c true (au 62 y 2) λn=>
 gQ c true (au 38 n 0) λh=>
 gQ c true (ar e 5 h) λt=>
 gQ c true (Rx 5 64 t) λu=>
 bo c u λw=>
 br (some w) (
 af 81 k 3 λl=>
 ad e 3 l λz=>
 bJ e 26 x0 f λp=>
 af 62 p 2 λE=>
 af 38 E 3 λI=>
 af 35 I 1 λo=>
 ad e 3 o λR=>
 q7 3 68 75 z R λO=>
 af 81 k 3 λM=>
 ax e 3 M O λV A=>
 eD 3 13 1 f λN=>
  bF env Tryz.f99 0 bm [(6,N),(5,k),(0,x0),(3,x3),(4,L)] A Q) (
 eD 3 13 1 f λl=>
  bF env Tryz.f99 0 bm [(6,l),(5,k),(0,x0),(3,x3),(4,L)] e Q))) (
 bJ H 26 x0 f λW=>
 af 62 W 0 λZ=>
 ad H 5 Z λX=>
 vN 5 38 X λU=>
 br (some U) (
 af 81 k 2 λT=>
 ad H 3 T λK=>
 eD 3 41 1 K λP=>
 af 81 k 2 λm=>
 ax H 3 m P λS e=>
 bJ e 26 x0 f λv=>
 af 62 v 0 λG=>
 ad e 5 G λC=>
 vN 5 48 C λd=>
 gQ d true (aU x0) λJ=>
 gQ d true (aU f) λi=>
 gQ d true (q6 e 26 J i) λD=>
 gQ d true (au 62 D 3) λq=>
 gQ d true (ar e 42 q) λj=>
 gQ d true (ra 42 55 0 j) λF=>
 bo d F λc=>
 gQ c true (aU x0) λB=>
 gQ c true (aU f) λx=>
 gQ c true (q6 e 26 B x) λy=>
 gQ c true (au 62 y 2) λn=>
 gQ c true (au 38 n 0) λh=>
 gQ c true (ar e 5 h) λt=>
 gQ c true (Rx 5 64 t) λu=>
 bo c u λw=>
 br (some w) (
 af 81 k 3 λl=>
 ad e 3 l λz=>
 bJ e 26 x0 f λp=>
 af 62 p 2 λE=>
 af 38 E 3 λI=>
 af 35 I 1 λo=>
 ad e 3 o λR=>
 q7 3 68 75 z R λO=>
 af 81 k 3 λM=>
 ax e 3 M O λV A=>
 eD 3 13 1 f λN=>
  bF env Tryz.f99 0 bm [(6,N),(5,k),(0,x0),(3,x3),(4,L)] A Q) (
 eD 3 13 1 f λl=>
  bF env Tryz.f99 0 bm [(6,l),(5,k),(0,x0),(3,x3),(4,L)] e Q)) (
 bJ H 26 x0 f λT=>
 af 62 T 0 λK=>
 ad H 5 K λP=>
 vN 5 48 P λm=>
 gQ m true (aU x0) λS=>
 gQ m true (aU f) λv=>
 gQ m true (q6 H 26 S v) λG=>
 gQ m true (au 62 G 3) λC=>
 gQ m true (ar H 42 C) λd=>
 gQ m true (ra 42 55 0 d) λJ=>
 bo m J λi=>
 gQ i true (aU x0) λD=>
 gQ i true (aU f) λq=>
 gQ i true (q6 H 26 D q) λj=>
 gQ i true (au 62 j 2) λF=>
 gQ i true (au 38 F 0) λc=>
 gQ i true (ar H 5 c) λB=>
 gQ i true (Rx 5 64 B) λx=>
 bo i x λy=>
 br (some y) (
 af 81 k 3 λn=>
 ad H 3 n λh=>
 bJ H 26 x0 f λt=>
 af 62 t 2 λu=>
 af 38 u 3 λw=>
 af 35 w 1 λl=>
 ad H 3 l λz=>
 q7 3 68 75 h z λp=>
 af 81 k 3 λE=>
 ax H 3 E p λI e=>
 eD 3 13 1 f λo=>
  bF env Tryz.f99 0 bm [(6,o),(5,k),(0,x0),(3,x3),(4,L)] e Q) (
 eD 3 13 1 f λn=>
  bF env Tryz.f99 0 bm [(6,n),(5,k),(0,x0),(3,x3),(4,L)] H Q))))) (
 ad H 81 k λv3=>
 ax H 81 L v3 λv4 e=>
 bP e L 81 λv5=>
 Q v5 e)
theorem cR(e d x0 x3 c:AV)(H:aa)(Q:AV->aa->Prop)(h : ∀g,cC g e d x0 x3 c H Q):bF env Tryz.f99 0 bm [(6,e),(5,d),(0,x0),(3,x3),(4,c)] H Q:=uX qn (by kernel_rfl) h
def df:Prop:=
 aZ H 4 25 x0 λF X=>
 aZ X 6 31 b λz Y=>
 eF Y 8 107 λj N=>
 ad N 31 z λR=>
 aX true N 12 94 [a,R] λS T=>
 eF T 9 73 λL W=>
 ax W 73 L S λZ m=>
 af 73 L 0 λO=>
 ad m 4 O λV=>
 br (some V) (
 af 73 L 1 λu=>
 ad m 3 u λo=>
 pY 3 16 17 o x3 λc=>
 gQ c true (ar m 25 F) λn=>
 gQ c true (aU a) λp=>
 gQ c true (ar m 31 z) λy=>
 gW c true m (eC true m 23 132 [n,p,y]) λf C=>
 bo c f λk=>
 br (some k) (
 aX true C 25 177 [(.v (.int .i64 0))] λd t=>
 ax t 107 j d λq i=>
 bP i j 107 λh=>
 Q h i) (
 aX true C 26 177 [(.v (.int .i64 230))] λd t=>
 ax t 107 j d λq i=>
 bP i j 107 λh=>
 Q h i)) (
 ad m 25 F λu=>
 aX false m 29 89 [u,a] λo C=>
 af 31 z 0 λc=>
 ad C 29 c λn=>
 aX false C 33 158 [o,x3,n] λp t=>
 iP p λy=>
 br (some y) (
 aX true t 35 177 [(.v (.int .i64 230))] λf i=>
 ax i 107 j f λk e=>
 bP e j 107 λd=>
 Q d e) (
 af 31 z 0 λf=>
 ad t 29 f λk=>
 aX false t 39 99 [a,k] λd i=>
 G3 81 d 1 λq=>
 ad i 25 F λh=>
 af 31 z 0 λJ=>
 ad i 29 J λK=>
 aX false i 44 143 [h,K] λG e=>
 G3 81 G 1 λM=>
 Kk 3 40 45 q M λD=>
 br (some D) (
 aX true e 47 177 [(.v (.int .i64 9))] λw l=>
 ax l 107 j w λA B=>
 bP B j 107 λx=>
 Q x B) (
 ad e 31 z λw=>
 yE 38 1 w λA=>
 fB (jD env.P 62 (some [(0,(a8 1)),(1,x3),(2,A)])) λx=>
 fB (jD env.P 107 (some [(1,(.v (.bool true))),(2,x)])) λI=>
 ax e 107 j I λU l=>
 bP l j 107 λE=>
 Q E l)))
theorem ed(h : ∀g:cW,df x0 a b x3 H Q):cP Tryz.f130 0 [(0,x0),(1,a),(2,b),(3,x3)] H Q:=fk (by kernel_rfl) h
def bZ:Prop:=
 aZ H 4 25 x0 λU H1=>
 aZ H1 6 31 b λB H2=>
 aZ H2 7 38 x3 λw H3=>
 eF H3 8 107 λe D=>
 af 38 w 1 λv5=>
 ad D 31 v5 λv6=>
 ad D 31 B λv7=>
 yF 31 14 15 v6 v7 λK=>
 gQ K false (ar D 38 w) λv9=>
 gW K false D (eC true D 19 155 [v9]) λW L=>
 gQ K false (oG W) λM=>
 dn K M λT=>
 br (some T) (
 aX true L 22 177 [(.v (.int .i64 8))] λo G=>
 ax G 107 e o λC d=>
 bP d e 107 λA=>
 Q A d) (
 ad L 25 U λo=>
 ad L 31 B λC=>
 aX true L 26 132 [o,a,C] λA G=>
 iP A λN=>
 br (some N) (
 aX true G 28 177 [(.v (.int .i64 230))] λq d=>
 ax d 107 e q λJ i=>
 bP i e 107 λj=>
 Q j i) (
 ad G 31 B λq=>
 aX true G 31 94 [a,q] λJ d=>
 G3 73 J 2 λj=>
 af 38 w 2 λR=>
 ad d 3 R λX=>
 Rw 3 34 35 X j λY=>
 br (some Y) (
 ad d 31 B λx=>
 af 38 w 2 λz=>
 ad d 3 z λt=>
 aX true d 42 96 [a,x,t] λm i=>
 aP m 0 λf=>
 aP m 1 λy=>
 aX true i 46 177 [f] λh n=>
 ax n 107 e h λE c=>
 bP c e 107 λu=>
 Q u c) (
 af 38 w 2 λx=>
 ad d 3 x λz=>
 eD 3 49 1 j λt=>
 fB (bY env.P .gtr 3 (Operand.tmp 48) (Operand.tmp 50) (some z) (some t)) λm=>
 br (some m) (
 aX true d 52 177 [(.v (.int .i64 231))] λf i=>
 ax i 107 e f λy n=>
 bP n e 107 λh=>
 Q h n) (
 af 31 B 0 λf=>
 ad d 29 f λy=>
 aX false d 56 99 [a,y] λh i=>
 G3 81 h 2 λE=>
 ad i 25 U λu=>
 af 31 B 0 λv32=>
 ad i 29 v32 λO=>
 aX false i 61 143 [u,O] λv34 n=>
 G3 81 v34 2 λv35=>
 Kk 3 57 62 E v35 λv36=>
 br (some v36) (
 aX true n 64 177 [(.v (.int .i64 9))] λp c=>
 ax c 107 e p λF k=>
 bP k e 107 λl=>
 Q l k) (
 ad n 25 U λp=>
 ad n 38 w λF=>
 aX true n 68 74 [p,a,F] λl c=>
 ad c 38 w λS=>
 aX true c 71 56 [S] λv41 k=>
 fB (jD env.P 62 (some [(0,(a8 2)),(2,v41),(3,l)])) λZ=>
 fB (jD env.P 107 (some [(0,l),(1,(.v (.bool true))),(2,Z)])) λv43=>
 ax k 107 e v43 λv44 I=>
 bP I e 107 λV=>
 Q V I)))))
theorem cI(h : ∀g:cW,bZ x0 a b x3 H Q):cP Tryz.f131 0 [(0,x0),(1,a),(2,b),(3,x3)] H Q:=fk (by kernel_rfl) h
def nz:Prop:=
 aZ H 3 25 x0 λt x=>
 aZ x 5 31 b λp q=>
 ad q 31 p λB=>
 aX true q 10 94 [a,B] λu w=>
 eF w 7 73 λn y=>
 ax y 73 n u λC e=>
 af 73 n 0 λv=>
 ad e 4 v λc=>
 gQ c true (ar e 25 t) λz=>
 gQ c true (aU a) λk=>
 gW c true e (eC false e 16 89 [z,k]) λi d=>
 gQ c true (au 73 n 1) λf=>
 gQ c true (ar d 3 f) λh=>
 gQ c true (au 31 p 0) λj=>
 gQ c true (ar d 29 j) λl=>
 gW c true d (eC false d 21 158 [i,h,l]) λo A=>
 bo c o λm=>
 Q m A
theorem zS(h : ∀g:cW,nz x0 a b H Q):cP Tryz.f132 0 [(0,x0),(1,a),(2,b)] H Q:=fk (by kernel_rfl) h
noncomputable def ib:=ug Tryz.f134 4
noncomputable def ia:=ug Tryz.f134 9
noncomputable def gJ:=ug Tryz.f134 15
def jo:Nat->Option (List Nat):=λi=>cond (Nat.beq i 4) (some [3,1]) (cond (Nat.beq i 9) (some [4,1]) (cond (Nat.beq i 15) (some [6,1,5]) (none)))
def qH:Prop:=
 aZ H 1 25 x0 λf e=>
 af 25 f 0 λu=>
 ad e 22 u λy=>
 cE e 9 22 y λt=>
 Dr 3 9 8 t λh=>
 gQ h false (au 25 f 1) λx=>
 gQ h false (ar e 23 x) λq=>
 gQ h false (yG e 14 23 q) λp=>
 gQ h false (wZ 3 14 8 p) λw=>
 dn h w λd=>
 gQ d false (au 25 f 2) λk=>
 gQ d false (ar e 3 k) λi=>
 gQ d false (Bq 3 19 0 i) λj=>
 dn d j λc=>
 gQ c false (au 25 f 2) λo=>
 gQ c false (ar e 3 o) λm=>
 gQ c false (wZ 3 24 64 m) λl=>
 dn c l λn=>
 br (some n) (
 Q (.v (.bool false)) e) (
  bF env Tryz.f134 0 ib [(3,(.v (.int .i64 0))),(1,f)] e Q)
theorem yb(h : ∀g:cW,qH x0 H Q):cP Tryz.f134 0 [(0,x0)] H Q:=wT jo (by kernel_rfl) h
def k7(g:Nat->AV)(x3 a:AV)(H:aa)(Q:AV->aa->Prop):Prop:=
 af 25 a 0 λf=>
 ad H 22 f λk=>
 cE H 30 22 k λo=>
 dC 3 27 30 x3 o λj=>
 br (some j) (
 af 25 a 0 λl=>
 ad H 22 l λn=>
 bJ H 22 n x3 λi=>
 ad H 58 i λh=>
 aX true H 39 178 [h] λm e=>
 iP m λd=>
 br (some d) (
 Q (.v (.bool false)) e) (
 eD 3 32 1 x3 λc=>
  bF env Tryz.f134 0 ib [(3,c),(1,a)] e Q)) (
  bF env Tryz.f134 0 ia [(4,(.v (.int .i64 0))),(1,a)] H Q)
theorem oR(x3 a:AV)(H:aa)(Q:AV->aa->Prop)(h : ∀g,k7 g x3 a H Q):bF env Tryz.f134 0 ib [(3,x3),(1,a)] H Q:=uX jo (by kernel_rfl) h
def iq(g:Nat->AV)(f a:AV)(H:aa)(Q:AV->aa->Prop):Prop:=
 af 25 a 1 λL=>
 ad H 23 L λN=>
 cE H 44 23 N λK=>
 dC 3 41 44 f K λG=>
 br (some G) (
 af 25 a 1 λI=>
 ad H 23 I λO=>
 bJ H 23 O f λM=>
 ad H 81 M λF=>
 aX false H 53 179 [F] λJ e=>
 iP J λd=>
 gQ d false (aU f) λi=>
 gQ d false (wZ 3 56 0 i) λt=>
 gQ d false (aU t) λc=>
 gQ c true (au 25 a 1) λj=>
 gQ c true (ar e 23 j) λD=>
 gQ c true (aU f) λn=>
 gQ c true (Uq 3 61 1 n) λk=>
 gQ c true (q6 e 23 D k) λB=>
 gQ c true (au 81 B 0) λm=>
 gQ c true (ar e 29 m) λp=>
 gQ c true (au 25 a 1) λx=>
 gQ c true (ar e 23 x) λz=>
 gQ c true (aU f) λu=>
 gQ c true (q6 e 23 z u) λC=>
 gQ c true (au 81 C 0) λl=>
 gQ c true (ar e 29 l) λy=>
 gW c true e (eC false e 72 180 [p,y]) λh E=>
 gQ c true (oG h) λA=>
 gQ d false (G4 c A) λw=>
 dn d w λo=>
 br (some o) (
 Q (.v (.bool false)) E) (
 eD 3 46 1 f λq=>
  bF env Tryz.f134 0 ia [(4,q),(1,a)] E Q)) (
  bF env Tryz.f134 0 gJ [(6,(.v (.int .i64 0))),(1,a),(5,(.v (.int .i64 0)))] H Q)
theorem oQ(c a:AV)(H:aa)(Q:AV->aa->Prop)(h : ∀g,iq g c a H Q):bF env Tryz.f134 0 ia [(4,c),(1,a)] H Q:=uX jo (by kernel_rfl) h
def kF(g:Nat->AV)(h a l:AV)(H:aa)(Q:AV->aa->Prop):Prop:=
 af 25 a 1 λm=>
 ad H 23 m λo=>
 cE H 79 23 o λq=>
 dC 3 76 79 h q λn=>
 br (some n) (
 af 25 a 1 λi=>
 ad H 23 i λk=>
 bJ H 23 k h λd=>
 af 81 d 3 λe=>
 ad H 3 e λj=>
 q7 3 83 89 l j λc=>
 eD 3 81 1 h λf=>
  bF env Tryz.f134 0 gJ [(6,f),(1,a),(5,c)] H Q) (
 ad H 25 a λi=>
 aX true H 92 181 [i] λk p=>
 Us 3 92 2048 k λd=>
 gQ d true (aU l) λe=>
 gQ d true (AN 3 95 8192 e) λj=>
 bo d j λc=>
 Q c p)
theorem n8(d a c:AV)(H:aa)(Q:AV->aa->Prop)(h : ∀g,kF g d a c H Q):bF env Tryz.f134 0 gJ [(6,d),(1,a),(5,c)] H Q:=uX jo (by kernel_rfl) h
def fq:Prop:=
 aZ H 1 35 x0 λd u=>
 af 35 d 0 λw=>
 ad u 33 w λB=>
 aX true u 5 140 [B] λh e=>
 gQ h true (au 35 d 1) λy=>
 gQ h true (ar e 3 y) λA=>
 gQ h true (wY 3 8 1 A) λx=>
 bo h x λf=>
 gQ f true (au 35 d 1) λz=>
 gQ f true (ar e 3 z) λl=>
 gQ f true (AN 3 13 64 l) λj=>
 bo f j λc=>
 gQ c true (au 35 d 0) λi=>
 gQ c true (au 33 i 1) λk=>
 gQ c true (ar e 3 k) λt=>
 gQ c true (au 35 d 1) λo=>
 gQ c true (ar e 3 o) λm=>
 gQ c true (bY env.P .sub 3 (Operand.const (Value.int IntKind.i64 1099511627777)) (Operand.tmp 21) (some (AV.v (Value.int IntKind.i64 1099511627777))) (some m)) λq=>
 gQ c true (bY env.P .leq 3 (Operand.tmp 19) (Operand.tmp 22) (some t) (some q)) λn=>
 bo c n λp=>
 Q p e
theorem vZ(h : ∀g:cW,fq x0 H Q):cP Tryz.f138 0 [(0,x0)] H Q:=fk (by kernel_rfl) h
def rN:Prop:=
 aZ H 1 33 x0 λd c=>
 ad c 33 d λf=>
 mo 33 λh=>
 pY 33 3 4 f h λe=>
 Q e c
theorem y6(h : ∀g:cW,rN x0 H Q):cP Tryz.f139 0 [(0,x0)] H Q:=fk (by kernel_rfl) h
def ti:Prop:=
 aZ H 1 33 x0 λf k=>
 af 33 f 0 λm=>
 ad k 31 m λq=>
 aX true k 5 93 [q] λd i=>
 gQ d true (au 33 f 1) λl=>
 gQ d true (ar i 3 l) λp=>
 gQ d true (wY 3 8 1 p) λn=>
 bo d n λc=>
 gQ c true (au 33 f 1) λo=>
 gQ c true (ar i 3 o) λj=>
 gQ c true (AN 3 13 1099511627776 j) λh=>
 bo c h λe=>
 Q e i
theorem z8(h : ∀g:cW,ti x0 H Q):cP Tryz.f140 0 [(0,x0)] H Q:=fk (by kernel_rfl) h
noncomputable def ic:=ug Tryz.f141 4
def qw:Nat->Option (List Nat):=λi=>cond (Nat.beq i 4) (some [3,0]) (none)
def mj:Prop:=
 cE H 5 36 x0 λd=>
 Dr 3 5 64 d λc=>
 br (some c) (
 Q (.v (.int .i64 4)) H) (
  bF env Tryz.f141 0 ic [(3,(.v (.int .i64 0))),(0,x0)] H Q)
theorem ye(h : ∀g:cW,mj x0 H Q):cP Tryz.f141 0 [(0,x0)] H Q:=wT qw (by kernel_rfl) h
def fu(g:Nat->AV)(x3 x0:AV)(H:aa)(Q:AV->aa->Prop):Prop:=
 cE H 9 36 x0 λk=>
 dC 3 7 9 x3 k λo=>
 br (some o) (
 bJ H 36 x0 x3 λt=>
 ad H 21 t λn=>
 ZM 21 16 n λc=>
 gQ c true (aU x0) λq=>
 gQ c true (aU x3) λm=>
 gQ c true (q6 H 36 q m) λl=>
 gQ c true (ar H 21 l) λp=>
 gQ c true (gB env.P (aa.get H) (Ref.mk 0 23 (aa.gen H 0 23) 0) 21 3 (some p)) λi=>
 gW c true H (eC true H 24 194 [i]) λf j=>
 gQ c true (oG f) λd=>
 bo c d λe=>
 br (some e) (
 Q (.v (.int .i64 8)) j) (
 eD 3 11 1 x3 λh=>
  bF env Tryz.f141 0 ic [(3,h),(0,x0)] j Q)) (
 Q (.v (.int .i64 0)) H)
theorem oS(x3 x0:AV)(H:aa)(Q:AV->aa->Prop)(h : ∀g,fu g x3 x0 H Q):bF env Tryz.f141 0 ic [(3,x3),(0,x0)] H Q:=uX qw (by kernel_rfl) h
noncomputable def gZ:=ug Tryz.f142 9
noncomputable def dB:=ug Tryz.f142 16
def lX:Nat->Option (List Nat):=λi=>cond (Nat.beq i 9) (some [7,6,5,3,0]) (cond (Nat.beq i 16) (some [8,3,6,5,0]) (none))
def dA:Prop:=
 aZ H 3 38 a λd O=>
 aX true O 10 195 [x0] λx G=>
 af 38 d 3 λM=>
 ad G 35 M λK=>
 aX true G 13 196 [K] λF e=>
 af 38 d 0 λP=>
 ad e 5 P λN=>
 yH 5 15 N λJ=>
 br (some J) (
 af 38 d 4 λL=>
 ad e 33 L λy=>
 mo 33 λj=>
 yF 33 18 19 y j λc=>
 gQ c true (aU x) λi=>
 gQ c true (au 38 d 4) λk=>
 gQ c true (ar e 33 k) λl=>
 gQ c true (au 38 d 1) λp=>
 gQ c true (au 31 p 0) λm=>
 gQ c true (ar e 29 m) λD=>
 gW c true e (eC true e 28 197 [i,l,D]) λo f=>
 gQ c true (oG o) λt=>
 bo c t λz=>
 br (some z) (
 Q (.v (.int .i64 6)) f) (
 af 38 d 3 λB=>
 ad f 35 B λu=>
 af 38 d 4 λE=>
 ad f 33 E λn=>
 af 38 d 6 λA=>
 ad f 36 A λh=>
 MQ 249 0 u 1 n 2 h λC=>
 aX true f 38 198 [C] λw I=>
 iP w λq=>
 br (some q) (
 Q (.v (.int .i64 2)) I) (
  bF env Tryz.f142 0 gZ [(7,(.v (.int .i64 0))),(6,F),(5,x),(3,d),(0,x0)] I Q))) (
  bF env Tryz.f142 0 dB [(8,(.v (.int .i64 0))),(3,d),(6,F),(5,x),(0,x0)] e Q)
theorem xX(h : ∀g:cW,dA x0 a H Q):cP Tryz.f142 0 [(0,x0),(1,a)] H Q:=wT lX (by kernel_rfl) h
def fp(g:Nat->AV)(h c d x3 x0:AV)(H:aa)(Q:AV->aa->Prop):Prop:=
 cE H 42 244 c λl=>
 dC 3 40 42 h l λn=>
 br (some n) (
 bJ H 244 c h λj=>
 ad H 33 j λe=>
 aX true H 51 199 [d,e] λf k=>
 w6 3 51 0 f λi=>
 br (some i) (
 Q (.v (.int .i64 2)) k) (
 eD 3 44 1 h λm=>
  bF env Tryz.f142 0 gZ [(7,m),(6,c),(5,d),(3,x3),(0,x0)] k Q)) (
 cE H 54 242 d λj=>
 cE H 56 244 c λe=>
 q7 3 54 56 j e λf=>
 Dr 3 57 8192 f λi=>
 br (some i) (
 Q (
  .v (.int .i64 4)) H) (
  bF env Tryz.f142 0 dB [(8,(.v (.int .i64 0))),(3,x3),(6,c),(5,d),(0,x0)] H Q))
theorem oM(c e d x3 x0:AV)(H:aa)(Q:AV->aa->Prop)(h : ∀g,fp g c e d x3 x0 H Q):bF env Tryz.f142 0 gZ [(7,c),(6,e),(5,d),(3,x3),(0,x0)] H Q:=uX lX (by kernel_rfl) h
def aJ(g:Nat->AV)(F x3 C K x0:AV)(H:aa)(Q:AV->aa->Prop):Prop:=
 cE H 61 244 C λO=>
 dC 3 59 61 F O λm=>
 gQ m true (au 38 x3 0) λN=>
 gQ m true (ar H 5 N) λL=>
 gQ m true (bY env.P .neq 5 (Operand.tmp 65) (.const (.int .u8 1)) (some L) (some (a8 1))) λM=>
 bo m M λR=>
 br (some R) (
 bJ H 244 C F λz=>
 ad H 33 z λo=>
 af 38 x3 1 λd=>
 af 31 d 0 λk=>
 ad H 29 k λh=>
 aX false H 78 197 [K,o,h] λj l=>
 iP j λf=>
 br (some f) (
 Q (.v (.int .i64 6)) l) (
 eD 3 68 1 F λi=>
  bF env Tryz.f142 0 dB [(8,i),(3,x3),(6,C),(5,K),(0,x0)] l Q)) (
 af 38 x3 0 λz=>
 ad H 5 z λo=>
 vN 5 81 o λd=>
 gQ d true (au 38 x3 3) λk=>
 gQ d true (au 35 k 0) λh=>
 gQ d true (au 33 h 0) λj=>
 gQ d true (au 31 j 0) λf=>
 gQ d true (ar H 29 f) λi=>
 gQ d true (au 38 x3 1) λJ=>
 gQ d true (au 31 J 0) λt=>
 gQ d true (ar H 29 t) λp=>
 gQ d true (MR 29 88 91 i p) λG=>
 bo d G λc=>
 gQ c false (au 38 x3 0) λw=>
 gQ c false (ar H 5 w) λA=>
 gQ c false (bY env.P .eql 5 (Operand.tmp 96) (.const (.int .u8 3)) (some A) (some (a8 3))) λD=>
 gQ c false (aU D) λe=>
 gQ e true (aU x0) λI=>
 gQ e true (ar H 38 x3) λq=>
 gW e true H (eC true H 101 200 [I,q]) λB l=>
 gQ e true (oG B) λn=>
 gQ c false (G4 e n) λE=>
 dn c E λy=>
 br (some y) (
 Q (.v (.int .i64 2)) l) (
 cE l 106 41 x0 λu=>
 w6 3 106 2048 u λx=>
 br (some x) (
 Q (.v (.int .i64 4)) l) (
 Q (.v (.int .i64 0)) l)))
theorem nZ(c x3 e d x0:AV)(H:aa)(Q:AV->aa->Prop)(h : ∀g,aJ g c x3 e d x0 H Q):bF env Tryz.f142 0 dB [(8,c),(3,x3),(6,e),(5,d),(0,x0)] H Q:=uX lX (by kernel_rfl) h
noncomputable def jM:=ug Tryz.f143 2
def tI:Nat->Option (List Nat):=λi=>cond (Nat.beq i 2) (some [4,5,2,3]) (none)
def tN:Prop:=
 aZ H 2 25 x0 λd h=>
 aZ h 3 29 a λf c=>
 eF c 4 81 λi e=>
  bF env Tryz.f143 0 jM [(4,i),(5,(.v (.int .i64 0))),(2,d),(3,f)] e Q
theorem Bh(h : ∀g:cW,tN x0 a H Q):cP Tryz.f143 0 [(0,x0),(1,a)] H Q:=wT tI (by kernel_rfl) h
def mV(g:Nat->AV)(e f b x3:AV)(H:aa)(Q:AV->aa->Prop):Prop:=
 af 25 b 1 λt=>
 ad H 23 t λv=>
 cE H 9 23 v λy=>
 dC 3 6 9 f y λu=>
 br (some u) (
 af 25 b 1 λn=>
 ad H 23 n λo=>
 bJ H 23 o f λq=>
 af 81 q 0 λh=>
 ad H 29 h λx=>
 ad H 29 x3 λl=>
 pY 29 18 19 x l λj=>
 br (some j) (
 af 25 b 1 λc=>
 ad H 23 c λi=>
 bJ H 23 i f λk=>
 ad H 81 k λp=>
 ax H 81 e p λw d=>
 bP d e 81 λm=>
 Q m d) (
 eD 3 11 1 f λc=>
  bF env Tryz.f143 0 jM [(4,e),(5,c),(2,b),(3,x3)] H Q)) (
 ad H 29 x3 λn=>
 yE 81 0 n λo=>
 ax H 81 e o λq d=>
 bP d e 81 λh=>
 Q h d)
theorem rj(c d b x3:AV)(H:aa)(Q:AV->aa->Prop)(h : ∀g,mV g c d b x3 H Q):bF env Tryz.f143 0 jM [(4,c),(5,d),(2,b),(3,x3)] H Q:=uX tI (by kernel_rfl) h
noncomputable def jw:=ug Tryz.f144 2
def sG:Nat->Option (List Nat):=λi=>cond (Nat.beq i 2) (some [5,3,2]) (none)
def tp:Prop:=
 aZ H 2 29 x0 λe f=>
 aZ f 3 29 a λd c=>
  bF env Tryz.f144 0 jw [(5,(.v (.int .i64 0))),(3,d),(2,e)] c Q
theorem Ad(h : ∀g:cW,tp x0 a H Q):cP Tryz.f144 0 [(0,x0),(1,a)] H Q:=wT sG (by kernel_rfl) h
def mm(g:Nat->AV)(d x3 b:AV)(H:aa)(Q:AV->aa->Prop):Prop:=
 Hb 3 6 32 d λl=>
 br (some l) (
 ad H 29 b λf=>
 aX true H 12 201 [f,d] λc h=>
 gQ c true (ar h 29 x3) λe=>
 gQ c true (aU d) λi=>
 gW c true h (eC true h 16 201 [e,i]) λj k=>
 gQ c true (oG j) λn=>
 bo c n λm=>
 br (some m) (
 Q (.v (.bool false)) k) (
 eD 3 8 1 d λo=>
  bF env Tryz.f144 0 jw [(5,o),(3,x3),(2,b)] k Q)) (
 af 29 b 0 λf=>
 ad H 5 f λc=>
 af 29 x3 0 λe=>
 ad H 5 e λi=>
 Rw 5 20 22 c i λj=>
 Q j H)
theorem qf(c x3 b:AV)(H:aa)(Q:AV->aa->Prop)(h : ∀g,mm g c x3 b H Q):bF env Tryz.f144 0 jw [(5,c),(3,x3),(2,b)] H Q:=uX sG (by kernel_rfl) h
def rL:Prop:=
 aZ H 1 38 x0 λc k=>
 mo 31 λf=>
 af 38 c 1 λl=>
 ax k 31 l f λm d=>
 ad d 38 c λe=>
 mo 38 λi=>
 aX true d 7 62 [e,i] λh j=>
 Q h j
theorem yZ(h : ∀g:cW,rL x0 H Q):cP Tryz.f154 0 [(0,x0)] H Q:=fk (by kernel_rfl) h
noncomputable def hZ:=ug Tryz.f155 2
def qv:Nat->Option (List Nat):=λi=>cond (Nat.beq i 2) (some [3,1]) (none)
def qG:Prop:=
 aZ H 1 38 x0 λc d=>
  bF env Tryz.f155 0 hZ [(3,(.v (.int .i64 0))),(1,c)] d Q
theorem ya(h : ∀g:cW,qG x0 H Q):cP Tryz.f155 0 [(0,x0)] H Q:=wT qv (by kernel_rfl) h
def im(g:Nat->AV)(x3 a:AV)(H:aa)(Q:AV->aa->Prop):Prop:=
 af 38 a 6 λd=>
 ad H 36 d λi=>
 cE H 7 36 i λm=>
 dC 3 4 7 x3 m λh=>
 br (some h) (
 af 38 a 6 λj=>
 ad H 36 j λl=>
 bJ H 36 l x3 λf=>
 ad H 21 f λe=>
 fB (bY env.P .eql 21 (Operand.tmp 15) (.const (.int .i32 (-1))) (some e) (some (.v (.int .i32 (-1))))) λk=>
 br (some k) (
 Q (.v (.bool false)) H) (
 eD 3 9 1 x3 λc=>
  bF env Tryz.f155 0 hZ [(3,c),(1,a)] H Q)) (
 Q (.v (.bool true)) H)
theorem oP(x3 a:AV)(H:aa)(Q:AV->aa->Prop)(h : ∀g,im g x3 a H Q):bF env Tryz.f155 0 hZ [(3,x3),(1,a)] H Q:=uX qv (by kernel_rfl) h
def s8:Prop:=
 aZ H 1 60 x0 λh c=>
 af 60 h 0 λm=>
 ad c 3 m λq=>
 w6 3 4 0 q λe=>
 gQ e true (au 60 h 0) λk=>
 gQ e true (ar c 3 k) λo=>
 gQ e true (Bq 3 8 8 o) λl=>
 bo e l λd=>
 gQ d true (au 60 h 1) λn=>
 gQ d true (ar c 58 n) λj=>
 gW d true c (eC true c 14 178 [j]) λi p=>
 bo d i λf=>
 Q f p
theorem z3(h : ∀g:cW,s8 x0 H Q):cP Tryz.f156 0 [(0,x0)] H Q:=fk (by kernel_rfl) h
def fM:Prop:=
 aZ H 2 25 x0 λc R=>
 aZ R 3 60 a λz U=>
 eF U 4 25 λj d=>
 af 60 z 0 λK=>
 ad d 3 K λL=>
 af 25 c 0 λT=>
 ad d 22 T λP=>
 cE d 10 22 P λJ=>
 Kk 3 7 10 L J λN=>
 br (some N) (
 ad d 25 c λi=>
 ax d 25 j i λk f=>
 bP f j 25 λh=>
 Q (.tup [h,(.v (.int .i64 2))]) f) (
 af 25 c 2 λi=>
 ad d 3 i λk=>
 vO 3 14 0 k λh=>
 br (some h) (
 ad d 25 c λe=>
 ax d 25 j e λl f=>
 bP f j 25 λm=>
 Q (.tup [m,(.v (.int .i64 9))]) f) (
 ad d 25 c λe=>
 aX true d 18 204 [e] λl f=>
 ax f 25 c l λm n=>
 af 25 c 0 λu=>
 ad n 22 u λp=>
 af 60 z 0 λD=>
 ad n 3 D λt=>
 af 60 z 1 λw=>
 ad n 58 w λA=>
 bJ n 22 p t λC=>
 ax n 58 C A λO G=>
 af 25 c 2 λE=>
 ad G 3 E λq=>
 Ha 3 27 1 q λB=>
 af 25 c 2 λo=>
 ax G 3 o B λS I=>
 ad I 25 c λy=>
 ax I 25 j y λM F=>
 bP F j 25 λx=>
 Q (.tup [x,(.v (.int .i64 0))]) F))
theorem lB(h : ∀g:cW,fM x0 a H Q):cP Tryz.f157 0 [(0,x0),(1,a)] H Q:=fk (by kernel_rfl) h
def mi:Prop:=
 aZ H 3 25 x0 λi E=>
 aZ E 5 29 b λB d=>
 w6 3 7 0 a λf=>
 gQ f true (aU a) λA=>
 gQ f true (au 25 i 0) λF=>
 gQ f true (ar d 22 F) λG=>
 gQ f true (yG d 13 22 G) λC=>
 gQ f true (G5 3 10 13 A C) λz=>
 bo f z λe=>
 gQ e true (au 25 i 0) λn=>
 gQ e true (ar d 22 n) λl=>
 gQ e true (aU a) λh=>
 gQ e true (q6 d 22 l h) λk=>
 gQ e true (au 58 k 1) λm=>
 gQ e true (ar d 4 m) λy=>
 bo e y λc=>
 gQ c true (ar d 29 B) λp=>
 gQ c true (au 25 i 0) λw=>
 gQ c true (ar d 22 w) λu=>
 gQ c true (aU a) λv=>
 gQ c true (q6 d 22 u v) λo=>
 gQ c true (au 58 o 0) λq=>
 gQ c true (ar d 29 q) λj=>
 gW c true d (eC false d 32 144 [p,j]) λx D=>
 bo c x λt=>
 Q t D
theorem yc(h : ∀g:cW,mi x0 a b H Q):cP Tryz.f158 0 [(0,x0),(1,a),(2,b)] H Q:=fk (by kernel_rfl) h
def rF:Prop:=
 eF H 2 107 λd h=>
 yE 107 0 x0 λf=>
 ax h 107 d f λi c=>
 bP c d 107 λe=>
 Q e c
theorem yR(h : ∀g:cW,rF x0 H Q):cP Tryz.f177 0 [(0,x0)] H Q:=fk (by kernel_rfl) h
def oA:Prop:=
 aZ H 1 58 x0 λf l=>
 af 58 f 0 λo=>
 ad l 29 o λt=>
 aX true l 5 78 [t] λc j=>
 gQ c true (au 58 f 1) λm=>
 gQ c true (ar j 4 m) λq=>
 gQ c true (aU q) λd=>
 gQ d false (au 58 f 0) λn=>
 gQ d false (ar j 29 n) λp=>
 gQ d false (Lb 29) λk=>
 gQ d false (gT 29 11 12 p k) λi=>
 gQ c true (Kj d i) λe=>
 bo c e λh=>
 Q h j
theorem vu(h : ∀g:cW,oA x0 H Q):cP Tryz.f178 0 [(0,x0)] H Q:=fk (by kernel_rfl) h
def s9:Prop:=
 aZ H 1 81 x0 λh C=>
 af 81 h 0 λD=>
 ad C 29 D λJ=>
 aX true C 5 78 [J] λk i=>
 gQ k true (au 81 h 1) λF=>
 gQ k true (ar i 3 F) λI=>
 gQ k true (wY 3 8 0 I) λE=>
 bo k E λj=>
 gQ j true (au 81 h 1) λG=>
 gQ j true (ar i 3 G) λq=>
 gQ j true (AN 3 13 64 q) λo=>
 bo j o λc=>
 gQ c true (au 81 h 2) λn=>
 gQ c true (ar i 3 n) λp=>
 gQ c true (wY 3 18 0 p) λB=>
 bo c B λd=>
 gQ d true (au 81 h 2) λu=>
 gQ d true (ar i 3 u) λA=>
 gQ d true (AN 3 23 256 A) λz=>
 bo d z λe=>
 gQ e true (au 81 h 3) λt=>
 gQ e true (ar i 3 t) λw=>
 gQ e true (wY 3 28 0 w) λm=>
 bo e m λf=>
 gQ f true (au 81 h 3) λx=>
 gQ f true (ar i 3 x) λv=>
 gQ f true (AN 3 33 4096 v) λl=>
 bo f l λy=>
 Q y i
theorem z6(h : ∀g:cW,s9 x0 H Q):cP Tryz.f179 0 [(0,x0)] H Q:=fk (by kernel_rfl) h
def qJ:Prop:=
 aZ H 2 29 x0 λo v=>
 aZ v 3 29 a λp c=>
 af 29 o 0 λz=>
 ad c 5 z λt=>
 q9 c 7 5 3 t λw=>
 ZR 3 7 4294967296 w λy=>
 af 29 o 1 λu=>
 ad c 27 u λq=>
 q9 c 11 27 3 q λx=>
 q7 3 8 11 y x λi=>
 af 29 p 0 λf=>
 ad c 5 f λd=>
 q9 c 15 5 3 d λe=>
 ZR 3 15 4294967296 e λh=>
 af 29 p 1 λn=>
 ad c 27 n λl=>
 q9 c 19 27 3 l λj=>
 q7 3 16 19 h j λm=>
 dC 3 12 20 i m λk=>
 Q k c
theorem yf(h : ∀g:cW,qJ x0 a H Q):cP Tryz.f180 0 [(0,x0),(1,a)] H Q:=fk (by kernel_rfl) h
noncomputable def ju:=ug Tryz.f181 3
def sE:Nat->Option (List Nat):=λi=>cond (Nat.beq i 3) (some [4,1,3]) (none)
def tf:Prop:=
 aZ H 1 25 x0 λc d=>
 af 25 c 2 λe=>
 ad d 3 e λf=>
  bF env Tryz.f181 0 ju [(4,(.v (.int .i64 0))),(1,c),(3,f)] d Q
theorem z7(h : ∀g:cW,tf x0 H Q):cP Tryz.f181 0 [(0,x0)] H Q:=wT sE (by kernel_rfl) h
def mh(g:Nat->AV)(c a x3:AV)(H:aa)(Q:AV->aa->Prop):Prop:=
 af 25 a 1 λn=>
 ad H 23 n λt=>
 cE H 10 23 t λx=>
 dC 3 7 10 c x λq=>
 br (some q) (
 af 25 a 1 λu=>
 ad H 23 u λw=>
 bJ H 23 w c λp=>
 af 81 p 1 λo=>
 ad H 3 o λv=>
 q7 3 14 20 x3 v λi=>
 af 25 a 1 λf=>
 ad H 23 f λd=>
 bJ H 23 d c λe=>
 af 81 e 2 λh=>
 ad H 3 h λm=>
 Ur 3 4 27 m λk=>
 q7 3 21 28 i k λj=>
 eD 3 12 1 c λl=>
  bF env Tryz.f181 0 ju [(4,l),(1,a),(3,j)] H Q) (
 Q x3 H)
theorem p8(c a x3:AV)(H:aa)(Q:AV->aa->Prop)(h : ∀g,mh g c a x3 H Q):bF env Tryz.f181 0 ju [(4,c),(1,a),(3,x3)] H Q:=uX sE (by kernel_rfl) h
def tO:Prop:=
 w6 3 3 0 x0 λd=>
 gQ d true (aU x0) λk=>
 gQ d true (AN 3 6 1114111 k) λn=>
 bo d n λc=>
 gQ c true (aU x0) λi=>
 gQ c true (Bq 3 10 55296 i) λm=>
 gQ c true (aU m) λe=>
 gQ e false (aU x0) λj=>
 gQ e false (wZ 3 13 57343 j) λl=>
 gQ c true (Kj e l) λh=>
 bo c h λf=>
 Q f H
theorem Bi(h : ∀g:cW,tO x0 H Q):cP Tryz.f194 0 [(0,x0)] H Q:=fk (by kernel_rfl) h
noncomputable def zG:Code:=(Tryz.f195.body).getD .skip
noncomputable def fI:=ug Tryz.f195 3
def rz:Nat->Option (List Nat):=λi=>cond (Nat.beq i 3) (some [4,3,0]) (none)
def rJ:Prop:=
 bF env Tryz.f195 0 fI [(4,(.v (.int .i64 0))),(3,(.v (.slice none 0 0))),(0,x0)] H Q
theorem yX(h : ∀g:cW,rJ x0 H Q):cP Tryz.f195 0 [(0,x0)] H Q:=wT rz (by kernel_rfl) h
def fL(g:Nat->AV)(c x3 x0:AV)(H:aa)(Q:AV->aa->Prop):Prop:=
 cE H 8 41 x0 λB=>
 dC 3 6 8 c B λC=>
 br (some C) (
 bJ H 41 x0 c λA=>
 af 38 A 0 λw=>
 ad H 5 w λx=>
 yH 5 16 x λF=>
 br (some F) (
 bJ H 41 x0 c λo=>
 af 38 o 3 λv=>
 ad H 35 v λz=>
 bJ H 41 x0 c λp=>
 af 38 p 4 λf=>
 ad H 33 f λm=>
 bJ H 41 x0 c λe=>
 af 38 e 6 λh=>
 ad H 36 h λi=>
 MQ 249 0 z 1 m 2 i λk=>
 eF H 5 249 λd E=>
 ax E 249 d k λG u=>
 ad u 249 d λj=>
 uB u 36 273 1 0 j λl D=>
 aX true D 37 221 [l] λq y=>
 mX y 38 242 242 x3 q λt I=>
 eD 3 10 1 c λn=>
  bF env Tryz.f195 0 fI [(4,n),(3,t),(0,x0)] I Q) (
 eD 3 10 1 c λo=>
  bF env Tryz.f195 0 fI [(4,o),(3,x3),(0,x0)] H Q)) (
 Q x3 H)
theorem iK(c x3 x0:AV)(H:aa)(Q:AV->aa->Prop)(h : ∀g,fL g c x3 x0 H Q):bF env Tryz.f195 0 fI [(4,c),(3,x3),(0,x0)] H Q:=uX rz (by kernel_rfl) h
noncomputable def jv:=ug Tryz.f196 3
def sF:Nat->Option (List Nat):=λi=>cond (Nat.beq i 3) (some [4,1,3]) (none)
def tj:Prop:=
 aZ H 1 35 x0 λc d=>
  bF env Tryz.f196 0 jv [(4,(.v (.int .i64 0))),(1,c),(3,(.v (.slice none 0 0)))] d Q
theorem z9(h : ∀g:cW,tj x0 H Q):cP Tryz.f196 0 [(0,x0)] H Q:=wT sF (by kernel_rfl) h
def jz(g:Nat->AV)(i a x3:AV)(H:aa)(Q:AV->aa->Prop):Prop:=
 af 35 a 1 λj=>
 ad H 3 j λn=>
 dC 3 5 7 i n λv=>
 br (some v) (
 af 35 a 0 λm=>
 af 33 m 0 λp=>
 ad H 31 p λt=>
 af 35 a 0 λl=>
 af 33 l 1 λk=>
 ad H 3 k λq=>
 q7 3 17 18 q i λh=>
 rY 33 0 t 1 h λe=>
 uB H 21 244 1 0 e λc o=>
 mX o 22 244 244 x3 c λd u=>
 eD 3 9 1 i λf=>
  bF env Tryz.f196 0 jv [(4,f),(1,a),(3,d)] u Q) (
 Q x3 H)
theorem p9(c a x3:AV)(H:aa)(Q:AV->aa->Prop)(h : ∀g,jz g c a x3 H Q):bF env Tryz.f196 0 jv [(4,c),(1,a),(3,x3)] H Q:=uX sF (by kernel_rfl) h
def mT:Prop:=
 aZ H 4 33 a λh q=>
 aZ q 5 29 b λm i=>
 ad i 33 h λt=>
 aX true i 9 199 [x0,t] λl d=>
 w6 3 9 0 l λc=>
 gQ c true (au 33 h 0) λp=>
 gQ c true (au 31 p 0) λn=>
 gQ c true (ar d 29 n) λk=>
 gQ c true (ar d 29 m) λo=>
 gW c true d (eC true d 16 144 [k,o]) λf j=>
 bo c f λe=>
 Q e j
theorem yW(h : ∀g:cW,mT x0 a b H Q):cP Tryz.f197 0 [(0,x0),(1,a),(2,b)] H Q:=fk (by kernel_rfl) h
def fD:Prop:=
 aZ H 1 249 x0 λh N=>
 af 249 h 0 λU=>
 ad N 35 U λS=>
 aX true N 5 138 [S] λP i=>
 iP P λf=>
 gQ f false (au 249 h 2) λV=>
 gQ f false (ar i 36 V) λT=>
 gQ f false (yG i 10 36 T) λO=>
 gQ f false (au 249 h 0) λR=>
 gQ f false (au 35 R 1) λB=>
 gQ f false (ar i 3 B) λk=>
 gQ f false (MR 3 10 13 O k) λy=>
 dn f y λe=>
 gQ e false (au 249 h 2) λl=>
 gQ e false (ar i 36 l) λm=>
 gW e false i (eC true i 19 141 [m]) λq D=>
 gQ e false (G9 3 19 0 q) λn=>
 dn e n λJ=>
 br (some J) (
 Q (.v (.bool false)) D) (
 af 249 h 1 λp=>
 ad D 33 p λw=>
 aX true D 24 222 [w] λd o=>
 gQ d false (au 249 h 1) λE=>
 gQ d false (ar o 33 E) λz=>
 gW d false o (eC true o 28 140 [z]) λK M=>
 gQ d false (aU K) λc=>
 gQ c true (au 249 h 1) λC=>
 gQ c true (au 33 C 1) λj=>
 gQ c true (ar M 3 j) λG=>
 gQ c true (au 249 h 0) λA=>
 gQ c true (au 35 A 0) λt=>
 gQ c true (au 33 t 1) λx=>
 gQ c true (ar M 3 x) λI=>
 gQ c true (G5 3 32 36 G I) λu=>
 gQ d false (G4 c u) λL=>
 dn d L λF=>
 Q F M)
theorem zY(h : ∀g:cW,fD x0 H Q):cP Tryz.f198 0 [(0,x0)] H Q:=fk (by kernel_rfl) h
noncomputable def hY:=ug Tryz.f199 2
def qu:Nat->Option (List Nat):=λi=>cond (Nat.beq i 2) (some [5,3,0]) (none)
def qF:Prop:=
 aZ H 3 33 a λc d=>
  bF env Tryz.f199 0 hY [(5,(.v (.int .i64 0))),(3,c),(0,x0)] d Q
theorem xZ(h : ∀g:cW,qF x0 a H Q):cP Tryz.f199 0 [(0,x0),(1,a)] H Q:=wT qu (by kernel_rfl) h
def k5(g:Nat->AV)(c x3 x0:AV)(H:aa)(Q:AV->aa->Prop):Prop:=
 cE H 8 242 x0 λd=>
 dC 3 6 8 c d λi=>
 br (some i) (
 bJ H 242 x0 c λl=>
 af 275 l 0 λh=>
 ad H 33 h λj=>
 ad H 33 x3 λk=>
 pY 33 16 17 j k λf=>
 br (some f) (
 Q c H) (
 eD 3 10 1 c λe=>
  bF env Tryz.f199 0 hY [(5,e),(3,x3),(0,x0)] H Q)) (
 Q (.v (.int .i64 (-1))) H)
theorem oO(c x3 x0:AV)(H:aa)(Q:AV->aa->Prop)(h : ∀g,k5 g c x3 x0 H Q):bF env Tryz.f199 0 hY [(5,c),(3,x3),(0,x0)] H Q:=uX qu (by kernel_rfl) h
noncomputable def gk:=ug Tryz.f200 5
def oX:Nat->Option (List Nat):=λi=>cond (Nat.beq i 5) (some [6,3,5,0]) (none)
def il:Prop:=
 aZ H 3 38 a λd c=>
 af 38 d 0 λh=>
 ad c 5 h λl=>
 fB (bY env.P .neq 5 (Operand.tmp 8) (.const (.int .u8 3)) (some l) (some (a8 3))) λf=>
 br (some f) (
 Q (.v (.bool true)) c) (
 af 38 d 3 λe=>
 ad c 35 e λj=>
 aX true c 12 196 [j] λi k=>
  bF env Tryz.f200 0 gk [(6,(.v (.int .i64 0))),(3,d),(5,i),(0,x0)] k Q)
theorem vX(h : ∀g:cW,il x0 a H Q):cP Tryz.f200 0 [(0,x0),(1,a)] H Q:=wT oX (by kernel_rfl) h
def gm(g:Nat->AV)(n x3 m x0:AV)(H:aa)(Q:AV->aa->Prop):Prop:=
 cE H 15 244 m λu=>
 dC 3 13 15 n u λw=>
 br (some w) (
 bJ H 244 m n λq=>
 ad H 33 q λi=>
 af 38 x3 1 λo=>
 af 31 o 0 λp=>
 ad H 29 p λh=>
 aX false H 27 224 [x0,i,h] λe c=>
 af 38 x3 1 λx=>
 af 31 x 0 λl=>
 ad c 29 l λj=>
 aX false c 31 223 [e,j] λd t=>
 iP d λf=>
 br (some f) (
 Q (.v (.bool false)) t) (
 eD 3 17 1 n λk=>
  bF env Tryz.f200 0 gk [(6,k),(3,x3),(5,m),(0,x0)] t Q)) (
 af 38 x3 1 λq=>
 af 31 q 0 λi=>
 ad H 29 i λo=>
 af 38 x3 5 λp=>
 ad H 29 p λh=>
 aX true H 38 144 [o,h] λe c=>
 Q e c)
theorem nD(d x3 c x0:AV)(H:aa)(Q:AV->aa->Prop)(h : ∀g,gm g d x3 c x0 H Q):bF env Tryz.f200 0 gk [(6,d),(3,x3),(5,c),(0,x0)] H Q:=uX oX (by kernel_rfl) h
def tl:Prop:=
 aZ H 2 29 x0 λe c=>
 af 29 e 1 λi=>
 ad c 27 i λk=>
 q9 c 8 3 223 a λh=>
 fB (bY env.P .shr 27 (Operand.tmp 6) (Operand.tmp 8) (some k) (some h)) λd=>
 fB (bY env.P .rem 27 (Operand.tmp 9) (.const (.int .u32 2)) (some d) (some (ae 2))) λj=>
 fB (bY env.P .eql 27 (Operand.tmp 10) (.const (.int .u32 1)) (some j) (some (ae 1))) λf=>
 Q f c
theorem Aa(h : ∀g:cW,tl x0 a H Q):cP Tryz.f201 0 [(0,x0),(1,a)] H Q:=fk (by kernel_rfl) h
def gG:Prop:=
 aZ H 1 25 x0 λc q=>
 eF q 2 25 λj i=>
 af 25 c 0 λx=>
 ad i 22 x λo=>
 jA (jG env.P false i (Ref.mk 0 5 (aa.gen i 0 5) 0) (some 22) (some 22) (.v (.slice none 0 0)) o) λt h=>
 af 25 c 1 λw=>
 ad h 23 w λp=>
 jA (jG env.P false h (Ref.mk 0 8 (aa.gen h 0 8) 0) (some 23) (some 23) (.v (.slice none 0 0)) p) λn k=>
 af 25 c 2 λu=>
 ad k 3 u λf=>
 MQ 25 0 t 1 n 2 f λe=>
 ax k 25 j e λm l=>
 bP l j 25 λd=>
 Q d l
theorem y9(h : ∀g:cW,gG x0 H Q):cP Tryz.f204 0 [(0,x0)] H Q:=fk (by kernel_rfl) h
noncomputable def Az:Code:=(Tryz.f221.body).getD .skip
noncomputable def ma:=ug Tryz.f221 3
noncomputable def jt:=ug Tryz.f221 6
def nc:Nat->Option (List Nat):=λi=>cond (Nat.beq i 3) (some [4,0,3]) (cond (Nat.beq i 6) (some [5,4,0,3]) (none))
def s7:Prop:=
 bF env Tryz.f221 0 ma [(4,(.v (.int .i64 0))),(0,x0),(3,(.v (.slice none 0 0)))] H Q
theorem zX(h : ∀g:cW,s7 x0 H Q):cP Tryz.f221 0 [(0,x0)] H Q:=wT nc (by kernel_rfl) h
def mg(g:Nat->AV)(c x0 x3:AV)(H:aa)(Q:AV->aa->Prop):Prop:=
 cE H 8 273 x0 λd=>
 dC 3 6 8 c d λe=>
 br (some e) (
  bF env Tryz.f221 0 jt [(5,(.v (.int .i64 0))),(4,c),(0,x0),(3,x3)] H Q) (
 Q x3 H)
theorem p7(c x0 x3:AV)(H:aa)(Q:AV->aa->Prop)(h : ∀g,mg g c x0 x3 H Q):bF env Tryz.f221 0 ma [(4,c),(0,x0),(3,x3)] H Q:=uX nc (by kernel_rfl) h
def jy(g:Nat->AV)(d c x0 x3:AV)(H:aa)(Q:AV->aa->Prop):Prop:=
 bJ H 273 x0 c λB=>
 af 249 B 0 λD=>
 af 35 D 1 λA=>
 ad H 3 A λw=>
 dC 3 12 18 d w λx=>
 br (some x) (
 bJ H 273 x0 c λq=>
 ad H 249 q λC=>
 aX false H 28 236 [C,d] λv p=>
 bJ p 273 x0 c λz=>
 ad p 249 z λo=>
 aX false p 34 237 [o,d] λh e=>
 bJ e 273 x0 c λn=>
 af 249 n 2 λf=>
 ad e 36 f λi=>
 bJ e 36 i d λu=>
 ad e 21 u λl=>
 MQ 275 0 v 1 h 2 l λj=>
 Ul e 44 242 1 0 j λt E=>
 mX E 45 242 242 x3 t λk y=>
 eD 3 20 1 d λm=>
  bF env Tryz.f221 0 jt [(5,m),(4,c),(0,x0),(3,k)] y Q) (
 eD 3 10 1 c λq=>
  bF env Tryz.f221 0 ma [(4,q),(0,x0),(3,x3)] H Q)
theorem p6(d c x0 x3:AV)(H:aa)(Q:AV->aa->Prop)(h : ∀g,jy g d c x0 x3 H Q):bF env Tryz.f221 0 jt [(5,d),(4,c),(0,x0),(3,x3)] H Q:=uX nc (by kernel_rfl) h
def rK:Prop:=
 aZ H 1 33 x0 λd c=>
 ad c 33 d λf=>
 mo 33 λh=>
 pY 33 3 4 f h λe=>
 Q e c
theorem yY(h : ∀g:cW,rK x0 H Q):cP Tryz.f222 0 [(0,x0)] H Q:=fk (by kernel_rfl) h
noncomputable def hX:=ug Tryz.f223 2
def qq:Nat->Option (List Nat):=λi=>cond (Nat.beq i 2) (some [5,3,0]) (none)
def qE:Prop:=
 aZ H 3 29 a λc d=>
  bF env Tryz.f223 0 hX [(5,(.v (.int .i64 0))),(3,c),(0,x0)] d Q
theorem xY(h : ∀g:cW,qE x0 a H Q):cP Tryz.f223 0 [(0,x0),(1,a)] H Q:=wT qq (by kernel_rfl) h
def ik(g:Nat->AV)(c x3 x0:AV)(H:aa)(Q:AV->aa->Prop):Prop:=
 cE H 8 277 x0 λd=>
 dC 3 6 8 c d λh=>
 br (some h) (
 bJ H 277 x0 c λk=>
 ad H 29 k λf=>
 ad H 29 x3 λi=>
 pY 29 15 16 f i λj=>
 br (some j) (
 Q (.v (.bool true)) H) (
 eD 3 10 1 c λe=>
  bF env Tryz.f223 0 hX [(5,e),(3,x3),(0,x0)] H Q)) (
 Q (.v (.bool false)) H)
theorem oN(c x3 x0:AV)(H:aa)(Q:AV->aa->Prop)(h : ∀g,ik g c x3 x0 H Q):bF env Tryz.f223 0 hX [(5,c),(3,x3),(0,x0)] H Q:=uX qq (by kernel_rfl) h
noncomputable def gD:=ug Tryz.f224 4
def tH:Nat->Option (List Nat):=λi=>cond (Nat.beq i 4) (some [9,8,7]) (none)
def nW:Prop:=
 aZ H 4 33 a λd o=>
 aZ o 5 29 b λk e=>
 af 33 d 0 λp=>
 af 31 p 0 λj=>
 ad e 29 j λf=>
 uB e 13 277 1 0 f λn c=>
 ad c 33 d λl=>
 ad c 29 k λi=>
 aX true c 17 238 [x0,l,i] λm h=>
  bF env Tryz.f224 0 gD [(9,(.v (.int .i64 0))),(8,m),(7,n)] h Q
theorem Bf(h : ∀g:cW,nW x0 a b H Q):cP Tryz.f224 0 [(0,x0),(1,a),(2,b)] H Q:=wT tH (by kernel_rfl) h
def gE(g:Nat->AV)(c d f:AV)(H:aa)(Q:AV->aa->Prop):Prop:=
 cE H 20 277 d λk=>
 dC 3 18 20 c k λn=>
 br (some n) (
 bJ H 277 d c λv=>
 ad H 29 v λm=>
 aX true H 29 223 [f,m] λp e=>
 iP p λt=>
 br (some t) (
 bJ e 277 d c λh=>
 ad e 29 h λl=>
 uB e 36 277 1 0 l λq u=>
 mX u 37 277 277 f q λj o=>
 eD 3 22 1 c λi=>
  bF env Tryz.f224 0 gD [(9,i),(8,d),(7,j)] o Q) (
 eD 3 22 1 c λh=>
  bF env Tryz.f224 0 gD [(9,h),(8,d),(7,f)] e Q)) (
 Q f H)
theorem ri(c e d:AV)(H:aa)(Q:AV->aa->Prop)(h : ∀g,gE g c e d H Q):bF env Tryz.f224 0 gD [(9,c),(8,e),(7,d)] H Q:=uX tH (by kernel_rfl) h
def tM:Prop:=
 aZ H 2 249 x0 λi p=>
 eF p 4 33 λj h=>
 af 249 i 0 λv=>
 af 35 v 0 λn=>
 af 33 n 0 λq=>
 ad h 31 q λu=>
 af 249 i 0 λo=>
 af 35 o 0 λl=>
 af 33 l 1 λt=>
 ad h 3 t λf=>
 q7 3 12 13 f a λd=>
 rY 33 0 u 1 d λc=>
 ax h 33 j c λm k=>
 bP k j 33 λe=>
 Q e k
theorem Bg(h : ∀g:cW,tM x0 a H Q):cP Tryz.f236 0 [(0,x0),(1,a)] H Q:=fk (by kernel_rfl) h
def lC:Prop:=
 aZ H 2 249 x0 λj n=>
 eF n 4 33 λc d=>
 vO 3 5 0 a λo=>
 br (some o) (
 af 249 j 1 λh=>
 ad d 33 h λf=>
 ax d 33 c f λl e=>
 bP e c 33 λk=>
 Q k e) (
 ad d 249 j λh=>
 Ha 3 10 1 a λf=>
 aX true d 12 236 [h,f] λl e=>
 ax e 33 c l λk i=>
 bP i c 33 λm=>
 Q m i)
theorem wS(h : ∀g:cW,lC x0 a H Q):cP Tryz.f237 0 [(0,x0),(1,a)] H Q:=fk (by kernel_rfl) h
noncomputable def eQ:=ug Tryz.f238 3
def pK:Nat->Option (List Nat):=λi=>cond (Nat.beq i 3) (some [8,0,7,5,4]) (none)
def pN:Prop:=
 aZ H 4 33 a λe f=>
 aZ f 5 29 b λd c=>
  bF env Tryz.f238 0 eQ [(8,(.v (.int .i64 0))),(0,x0),(7,(.v (.slice none 0 0))),(5,d),(4,e)] c Q
theorem wR(h : ∀g:cW,pN x0 a b H Q):cP Tryz.f238 0 [(0,x0),(1,a),(2,b)] H Q:=wT pK (by kernel_rfl) h
def cM(g:Nat->AV)(e x0 C n u:AV)(H:aa)(Q:AV->aa->Prop):Prop:=
 cE H 11 41 x0 λN=>
 dC 3 9 11 e N λP=>
 br (some P) (
 bJ H 41 x0 e λM=>
 af 38 M 0 λI=>
 ad H 5 I λJ=>
 G7 5 19 J λd=>
 gQ d true (aU x0) λO=>
 gQ d true (aU e) λG=>
 gQ d true (q6 H 41 O G) λL=>
 gQ d true (au 38 L 3) λy=>
 gQ d true (ar H 35 y) λl=>
 gQ d true (ar H 33 u) λv=>
 gW d true H (eC false H 28 245 [l,v]) λk h=>
 bo d k λc=>
 gQ c true (aU x0) λF=>
 gQ c true (aU e) λq=>
 gQ c true (q6 h 41 F q) λm=>
 gQ c true (au 38 m 1) λE=>
 gQ c true (au 31 E 0) λp=>
 gQ c true (ar h 29 p) λt=>
 gQ c true (ar h 29 n) λz=>
 gW c true h (eC false h 38 144 [t,z]) λB i=>
 bo c B λw=>
 br (some w) (
 bJ i 41 x0 e λf=>
 af 38 f 5 λo=>
 ad i 29 o λA=>
 uB i 46 277 1 0 A λj R=>
 mX R 47 277 277 C j λD K=>
 eD 3 13 1 e λx=>
  bF env Tryz.f238 0 eQ [(8,x),(0,x0),(7,D),(5,n),(4,u)] K Q) (
 eD 3 13 1 e λf=>
  bF env Tryz.f238 0 eQ [(8,f),(0,x0),(7,C),(5,n),(4,u)] i Q)) (
 Q C H)
theorem n7(d x0 c f e:AV)(H:aa)(Q:AV->aa->Prop)(h : ∀g,cM g d x0 c f e H Q):bF env Tryz.f238 0 eQ [(8,d),(0,x0),(7,c),(5,f),(4,e)] H Q:=uX pK (by kernel_rfl) h
def kE:Prop:=
 aZ H 2 35 x0 λf B=>
 aZ B 3 33 a λk d=>
 af 35 f 0 λF=>
 af 33 F 0 λz=>
 ad d 31 z λC=>
 af 33 k 0 λE=>
 ad d 31 E λA=>
 pY 31 7 9 C A λe=>
 gQ e true (au 33 k 1) λD=>
 gQ e true (ar d 3 D) λn=>
 gQ e true (au 35 f 0) λl=>
 gQ e true (au 33 l 1) λh=>
 gQ e true (ar d 3 h) λj=>
 gQ e true (Rt 3 13 16 n j) λm=>
 bo e m λc=>
 gQ c true (au 33 k 1) λv=>
 gQ c true (ar d 3 v) λp=>
 gQ c true (au 35 f 0) λx=>
 gQ c true (au 33 x 1) λu=>
 gQ c true (ar d 3 u) λw=>
 gQ c true (au 35 f 1) λo=>
 gQ c true (ar d 3 o) λq=>
 gQ c true (Ru 3 24 26 w q) λi=>
 gQ c true (G5 3 21 27 p i) λy=>
 bo c y λt=>
 Q t d
theorem zW(h : ∀g:cW,kE x0 a H Q):cP Tryz.f245 0 [(0,x0),(1,a)] H Q:=fk (by kernel_rfl) h
end
section
variable(dep:Nat)(g:Nat->AV)(x0 a:AV)(H:aa)(Q:AV->aa->Prop)
def A2:Prop:=
 aZ H 1 62 x0 λe d=>
 ad d 62 e λf=>
 yE 173 0 f λj=>
 aX true d 8 101 [j] λb c=>
 aP b 0 λk=>
 aP b 1 λi=>
 iP i λh=>
 br (some h) (
 Q (.v (.int .i64 8)) c) (
 Q (.v (.int .i64 0)) c)
theorem Gy(h : ∀g:cW,A2 x0 H Q):cP Tryz.f82 0 [(0,x0)] H Q:=fk (by kernel_rfl) h
def mR:Prop:=
 aZ H 2 25 x0 λu D=>
 aZ D 3 60 a λx I=>
 eF I 4 25 λe y=>
 ad y 25 u λA=>
 aX false y 11 102 [A] λE z=>
 ad z 60 x λG=>
 aX false z 13 202 [G] λB m=>
 MT m 14 42 42 E B λw=>
 kb 42 15 0 w λF=>
 br (some F) (
 mo 25 λc=>
 ax m 25 e c λh n=>
 bP n e 25 λb=>
 Q (.tup [b,w]) n) (
 ad m 25 u λc=>
 ad m 60 x λh=>
 aX true m 21 203 [c,h] λb n=>
 fB (uv env.P (some b) 25 true) λf=>
 aP f 0 λo=>
 aP f 1 λq=>
 eF n 8 25 λk J=>
 ax J 25 k o λC t=>
 br (some q) (
 ad t 25 k λd=>
 ax t 25 e d λj i=>
 bP i e 25 λl=>
 Q (.tup [l,(.v (.int .i64 0))]) i) (
 mo 25 λd=>
 fB (uv env.P (some b) 42 false) λj=>
 ax t 25 e d λl i=>
 bP i e 25 λp=>
 Q (.tup [p,j]) i))
theorem Bw(h : ∀g:cW,mR x0 a H Q):cP Tryz.f152 0 [(0,x0),(1,a)] H Q:=fk (by kernel_rfl) h
def BW:Prop:=
 aZ H 1 62 x0 λb n=>
 eF n 2 62 λe f=>
 af 62 b 2 λo=>
 ad f 38 o λk=>
 aX true f 5 108 [k] λi m=>
 af 62 b 2 λl=>
 ax m 38 l i λp d=>
 ad d 62 b λj=>
 ax d 62 e j λq h=>
 bP h e 62 λc=>
 Q c h
theorem HT(h : ∀g:cW,BW x0 H Q):cP Tryz.f161 0 [(0,x0)] H Q:=fk (by kernel_rfl) h
def AI:Prop:=
 aZ H 1 60 x0 λt z=>
 ad z 60 t λC=>
 aX true z 9 202 [C] λA u=>
 kb 42 10 0 A λB=>
 br (some B) (
 Q (.tup [(.v (.slice none 0 0)),A]) u) (
 af 60 t 1 λE=>
 af 58 E 1 λF=>
 ad u 4 F λD=>
 br (some D) (
 af 60 t 1 λx=>
 af 58 x 0 λy=>
 ad u 29 y λh=>
 yE 31 0 h λe=>
 aX true u 21 162 [e] λb d=>
 aP b 0 λc=>
 aP b 1 λf=>
 af 60 t 0 λq=>
 ad d 3 q λn=>
 q9 d 26 3 5 n λj=>
 jA (nJ env.P true false d (Ref.mk 0 28 (aa.gen d 0 28) 0) 170 2 (some [(0,j),(1,(a8 1))])) λp k=>
 cE k 31 170 c λm=>
 Ha 3 31 1 m λo=>
 G6 k 170 c o λi=>
 mX k 34 170 170 p i λl w=>
 Q (.tup [l,f]) w) (
 af 60 t 1 λx=>
 af 58 x 0 λy=>
 ad u 29 y λh=>
 yE 31 0 h λe=>
 aX true u 21 162 [e] λb d=>
 aP b 0 λc=>
 aP b 1 λf=>
 af 60 t 0 λq=>
 ad d 3 q λn=>
 q9 d 26 3 5 n λj=>
 jA (nJ env.P true false d (Ref.mk 0 28 (aa.gen d 0 28) 0) 170 2 (some [(0,j),(1,(a8 0))])) λp k=>
 cE k 31 170 c λm=>
 Ha 3 31 1 m λo=>
 G6 k 170 c o λi=>
 mX k 34 170 170 p i λl w=>
 Q (.tup [l,f]) w))
theorem LC(h : ∀g:cW,AI x0 H Q):cP Tryz.f164 0 [(0,x0)] H Q:=fk (by kernel_rfl) h
def mO:Prop:=
 aZ H 2 62 x0 λh L=>
 aZ L 3 62 a λi e=>
 af 62 h 0 λK=>
 ad e 5 K λG=>
 af 62 i 0 λI=>
 ad e 5 I λM=>
 pY 5 6 8 G M λf=>
 gQ f true (au 62 h 1) λF=>
 gQ f true (ar e 3 F) λJ=>
 gQ f true (au 62 i 1) λx=>
 gQ f true (ar e 3 x) λl=>
 gQ f true (gT 3 12 14 J l) λu=>
 bo f u λb=>
 gQ b true (au 62 h 2) λm=>
 gQ b true (ar e 38 m) λE=>
 gQ b true (au 62 i 2) λo=>
 gQ b true (ar e 38 o) λn=>
 gW b true e (eC true e 22 211 [E,n]) λC j=>
 bo b C λd=>
 gQ d true (au 62 h 3) λq=>
 gQ d true (ar j 42 q) λy=>
 gQ d true (au 62 i 3) λA=>
 gQ d true (ar j 42 A) λv=>
 gQ d true (gT 42 26 28 y v) λD=>
 bo d D λc=>
 gQ c true (au 62 h 4) λz=>
 gQ c true (ar j 60 z) λk=>
 gQ c true (au 62 i 4) λB=>
 gQ c true (ar j 60 B) λw=>
 gQ c true (gT 60 33 35 k w) λp=>
 bo c p λt=>
 Q t j
theorem HU(h : ∀g:cW,mO x0 a H Q):cP Tryz.f165 0 [(0,x0),(1,a)] H Q:=fk (by kernel_rfl) h
def wL:Prop:=
 aZ H 1 60 x0 λf i=>
 af 60 f 1 λD=>
 af 58 D 1 λI=>
 ad i 4 I λe=>
 gQ e false (au 60 f 1) λE=>
 gQ e false (au 58 E 0) λG=>
 gQ e false (ar i 29 G) λC=>
 gW e false i (eC false i 11 185 []) λB h=>
 gQ e false (gT 29 10 11 C B) λF=>
 dn e F λm=>
 af 60 f 0 λk=>
 ad h 3 k λj=>
 Hb 3 15 0 j λc=>
 gQ c false (au 60 f 0) λl=>
 gQ c false (ar h 3 l) λz=>
 gQ c false (wY 3 19 8 z) λu=>
 dn c u λb=>
 gQ b false (au 60 f 1) λx=>
 gQ b false (au 58 x 0) λt=>
 gQ b false (ar h 29 t) λw=>
 gW b false h (eC true h 26 76 [w]) λn A=>
 gQ b false (G9 42 26 0 n) λp=>
 dn b p λd=>
 gQ d false (aU m) λy=>
 gQ d false (oG y) λq=>
 dn d q λo=>
 br (some o) (
 Q (.v (.int .i64 8)) A) (
 Q (.v (.int .i64 0)) A)
theorem Ia(h : ∀g:cW,wL x0 H Q):cP Tryz.f202 0 [(0,x0)] H Q:=fk (by kernel_rfl) h
def mQ:Prop:=
 aZ H 2 25 x0 λb M=>
 aZ M 3 60 a λt c=>
 af 60 t 0 λJ=>
 ad c 3 J λF=>
 af 25 b 0 λI=>
 ad c 22 I λO=>
 cE c 10 22 O λK=>
 Kk 3 7 10 F K λE=>
 br (some E) (
 fB (tX env.P 42 (some (AV.v (Value.int IntKind.i64 2)))) λn=>
 Q n c) (
 af 25 b 2 λn=>
 ad c 3 n λu=>
 vO 3 15 0 u λh=>
 br (some h) (
 fB (tX env.P 42 (some (AV.v (Value.int IntKind.i64 9)))) λd=>
 Q d c) (
 ad c 25 b λd=>
 aX true c 19 160 [d] λf L=>
 ax L 25 b f λG e=>
 af 25 b 0 λi=>
 ad e 22 i λm=>
 af 60 t 0 λj=>
 ad e 3 j λz=>
 af 60 t 1 λl=>
 ad e 58 l λo=>
 bJ e 22 m z λw=>
 ax e 58 w o λN C=>
 af 25 b 2 λp=>
 ad C 3 p λA=>
 Ha 3 28 1 A λk=>
 af 25 b 2 λx=>
 ax C 3 x k λD B=>
 ad B 25 b λy=>
 fB (tX env.P 25 (some y)) λq=>
 Q q B))
theorem oK(h : ∀g:cW,mQ x0 a H Q):cP Tryz.f203 0 [(0,x0),(1,a)] H Q:=fk (by kernel_rfl) h
end
section
variable(dep:Nat)(g:Nat->AV)(x0 a b x3:AV)(H:aa)(Q:AV->aa->Prop)
def nR:Prop:=
 aZ H 4 25 x0 λv1 H1=>
 aZ H1 6 31 b λS H2=>
 aZ H2 7 3 x3 λo H3=>
 eF H3 8 107 λn X=>
 ad X 25 v1 λv5=>
 ad X 31 S λv6=>
 aX true X 17 111 [v5,a,v6] λv7 H5=>
 aP v7 0 λv8=>
 aP v7 1 λv9=>
 eF H5 10 185 λc H6=>
 ax H6 185 c v8 λv11 f=>
 vO 42 20 0 v9 λh=>
 gQ h true (ar f 3 o) λU=>
 gQ h true (Bq 3 23 0 U) λV=>
 gQ h true (aU V) λR=>
 gQ R false (ar f 3 o) λZ=>
 gQ R false (wZ 3 26 255 Z) λW=>
 gQ h true (Kj R W) λv18=>
 bo h v18 λY=>
 br (some Y) (
 fB (bY env.P .neq 42 (Operand.tmp 30) (Operand.const (Value.int IntKind.i64 0)) (some (AV.v (Value.int IntKind.i64 8))) (some (AV.v (Value.int IntKind.i64 0)))) λy=>
 br (some y) (
 mo 107 λe=>
 ax f 107 n e λl m=>
 bP m n 107 λd=>
 Q (.tup [d,(.v (.int .i64 8))]) m) (
 ad f 185 c λe=>
 ad f 3 o λl=>
 af 31 S 0 λd=>
 ad f 29 d λN=>
 aX true f 38 112 [e,l,N] λt m=>
 eF m 12 4 λk H9=>
 ax H9 4 k t λT p=>
 fB (gY (.func 114) (some []) (some [k,c,o])) λI=>
 aX true p 40 115 [(.v (.int .i64 230))] λD w=>
 rY 193 0 I 1 D λu=>
 fB (gY (.func 116) (some []) (some [c])) λz=>
 aX true w 43 115 [(.v (.int .i64 0))] λJ E=>
 rY 193 0 z 1 J λx=>
 fB (gY (.func 117) (some []) (some [c])) λO=>
 aX true E 46 115 [(.v (.int .i64 9))] λG i=>
 rY 193 0 O 1 G λL=>
 fB (gY (.func 119) (some []) (some [o,S])) λq=>
 Rv 193 1 q λB=>
 jA (nJ env.P false true i (Ref.mk 0 50 (aa.gen i 0 50) 0) 235 4 (some [(0,u),(1,x),(2,L),(3,B)])) λA K=>
 aX true K 51 113 [A] λC M=>
 ax M 107 n C λv41 j=>
 bP j n 107 λF=>
 Q (.tup [F,(.v (.int .i64 0))]) j)) (
 kb 42 30 0 v9 λy=>
 br (some y) (
 mo 107 λe=>
 ax f 107 n e λl m=>
 bP m n 107 λd=>
 Q (.tup [d,v9]) m) (
 ad f 185 c λe=>
 ad f 3 o λl=>
 af 31 S 0 λd=>
 ad f 29 d λN=>
 aX true f 38 112 [e,l,N] λt m=>
 eF m 12 4 λk H9=>
 ax H9 4 k t λT p=>
 fB (gY (.func 114) (some []) (some [k,c,o])) λI=>
 aX true p 40 115 [(.v (.int .i64 230))] λD w=>
 rY 193 0 I 1 D λu=>
 fB (gY (.func 116) (some []) (some [c])) λz=>
 aX true w 43 115 [(.v (.int .i64 0))] λJ E=>
 rY 193 0 z 1 J λx=>
 fB (gY (.func 117) (some []) (some [c])) λO=>
 aX true E 46 115 [(.v (.int .i64 9))] λG i=>
 rY 193 0 O 1 G λL=>
 fB (gY (.func 119) (some []) (some [o,S])) λq=>
 Rv 193 1 q λB=>
 jA (nJ env.P false true i (Ref.mk 0 50 (aa.gen i 0 50) 0) 235 4 (some [(0,u),(1,x),(2,L),(3,B)])) λA K=>
 aX true K 51 113 [A] λC M=>
 ax M 107 n C λv41 j=>
 bP j n 107 λF=>
 Q (.tup [F,(.v (.int .i64 0))]) j))
theorem qh(h : ∀g:cW,nR x0 a b x3 H Q):cP Tryz.f49 0 [(0,x0),(1,a),(2,b),(3,x3)] H Q:=fk (by kernel_rfl) h
def pF:Prop:=
 aZ H 3 25 x0 λG J=>
 aZ J 5 31 b λt x=>
 ad x 25 G λF=>
 ad x 31 t λD=>
 aX true x 14 111 [F,a,D] λB I=>
 aP B 0 λK=>
 aP B 1 λC=>
 eF I 8 185 λf E=>
 ax E 185 f K λM e=>
 kb 42 17 0 C λu=>
 br (some u) (
 Q (.tup [(.v (.bool false)),C]) e) (
 af 185 f 0 λh=>
 af 73 h 0 λo=>
 ad e 4 o λc=>
 gQ c true (ar e 185 f) λi=>
 gQ c true (au 185 f 0) λA=>
 gQ c true (au 73 A 1) λm=>
 gQ c true (ar e 3 m) λj=>
 gQ c true (au 31 t 0) λy=>
 gQ c true (ar e 29 y) λl=>
 gW c true e (eC true e 30 112 [i,j,l]) λn q=>
 bo c n λd=>
 gQ d true (ar q 31 t) λw=>
 gW d true q (eC true q 34 91 [w]) λp L=>
 gQ d true (ra 42 34 0 p) λz=>
 bo d z λk=>
 Q (.tup [k,(.v (.int .i64 0))]) L)
theorem sh(h : ∀g:cW,pF x0 a b H Q):cP Tryz.f59 0 [(0,x0),(1,a),(2,b)] H Q:=fk (by kernel_rfl) h
def rG:Prop:=
 aZ H 2 107 x0 λh w=>
 aZ w 3 107 a λi d=>
 af 107 h 0 λA=>
 ad d 42 A λu=>
 af 107 i 0 λx=>
 ad d 42 x λz=>
 pY 42 6 8 u z λe=>
 gQ e true (au 107 h 1) λt=>
 gQ e true (ar d 4 t) λy=>
 gQ e true (au 107 i 1) λl=>
 gQ e true (ar d 4 l) λj=>
 gQ e true (gT 4 12 14 y j) λf=>
 bo e f λc=>
 gQ c true (au 107 h 2) λk=>
 gQ c true (ar d 62 k) λq=>
 gQ c true (au 107 i 2) λo=>
 gQ c true (ar d 62 o) λm=>
 gW c true d (eC true d 22 80 [q,m]) λp v=>
 bo c p λn=>
 Q n v
theorem yS(h : ∀g:cW,rG x0 a H Q):cP Tryz.f61 0 [(0,x0),(1,a)] H Q:=fk (by kernel_rfl) h
def xP:Prop:=
 aZ H 3 25 x0 λl H1=>
 aZ H1 5 31 b λy H2=>
 eF H2 6 185 λc A=>
 ad A 25 l λN=>
 ad A 31 y λP=>
 aX true A 12 27 [N,a,P] λM R=>
 aP M 0 λY=>
 aP M 1 λL=>
 af 185 c 0 λT=>
 ax R 73 T Y λZ x=>
 kb 42 16 0 L λo=>
 br (some o) (
 mo 185 λf=>
 ax x 185 c f λd m=>
 bP m c 185 λe=>
 Q (.tup [e,L]) m) (
 ad x 25 l λf=>
 aX true x 23 25 [f,a] λd m=>
 aP d 0 λe=>
 aP d 1 λv15=>
 af 185 c 1 λt=>
 ax m 25 t e λO K=>
 ad K 25 l λG=>
 af 31 y 0 λq=>
 ad K 29 q λw=>
 aX true K 32 31 [G,a,w] λj V=>
 aP j 0 λC=>
 aP j 1 λX=>
 af 185 c 2 λI=>
 ax V 81 I C λS B=>
 ad B 25 l λz=>
 af 31 y 0 λn=>
 ad B 29 n λD=>
 aX true B 40 44 [z,D] λi p=>
 aP i 0 λu=>
 aP i 1 λW=>
 af 185 c 3 λE=>
 ax p 81 E u λU h=>
 ad h 185 c λJ=>
 ax h 185 c J λv35 k=>
 bP k c 185 λF=>
 Q (.tup [F,(.v (.int .i64 0))]) k)
theorem Bz(h : ∀g:cW,xP x0 a b H Q):cP Tryz.f111 0 [(0,x0),(1,a),(2,b)] H Q:=fk (by kernel_rfl) h
def iH:Prop:=
 aZ H 3 185 x0 λj p=>
 aZ p 5 29 b λm d=>
 af 185 j 1 λq=>
 ad d 25 q λl=>
 ad d 29 m λi=>
 aX true d 14 174 [l,a,i] λh o=>
 aP h 0 λn=>
 aP h 1 λk=>
 vO 42 17 0 k λf=>
 gQ f true (aU n) λe=>
 bo f e λc=>
 Q c o
theorem tv(h : ∀g:cW,iH x0 a b H Q):cP Tryz.f112 0 [(0,x0),(1,a),(2,b)] H Q:=fk (by kernel_rfl) h
noncomputable def uf:=ug Tryz.f113 2
def BM:Nat->Option (List Nat):=λi=>cond (Nat.beq i 2) (some [2,7,5,6]) (none)
def B2:Prop:=
 eF H 2 107 λe c=>
 cE c 6 235 x0 λd=>
  bF env Tryz.f113 0 uf [(2,e),(7,(.v (.int .i64 0))),(5,x0),(6,d)] c Q
theorem Ic(h : ∀g:cW,B2 x0 H Q):cP Tryz.f113 0 [(0,x0)] H Q:=wT BM (by kernel_rfl) h
def gH(g:Nat->AV)(b k n o:AV)(H:aa)(Q:AV->aa->Prop):Prop:=
 dC 3 7 6 k o λu=>
 br (some u) (
 bJ H 235 n k λh=>
 ad H 193 h λp=>
 eF H 4 193 λc e=>
 ax e 193 c p λz m=>
 af 193 c 0 λy=>
 ad m 90 y λw=>
 jA (aL env true (ak env) (bD env 0) m (Ref.mk 0 13 (aa.gen m 0 13) 0) (some w) []) λv d=>
 br (some v) (
 af 193 c 1 λl=>
 ad d 190 l λj=>
 jA (aL env true (ak env) (bD env 0) d (Ref.mk 0 16 (aa.gen d 0 16) 0) (some j) []) λi x=>
 ax x 107 b i λt q=>
 bP q b 107 λf=>
 Q f q) (
 eD 3 7 1 k λl=>
  bF env Tryz.f113 0 uf [(2,b),(7,l),(5,n),(6,o)] d Q)) (
 mo 107 λh=>
 ax H 107 b h λp e=>
 bP e b 107 λc=>
 Q c e)
theorem pn(b c d e:AV)(H:aa)(Q:AV->aa->Prop)(h : ∀g,gH g b c d e H Q):bF env Tryz.f113 0 uf [(2,b),(7,c),(5,d),(6,e)] H Q:=uX BM (by kernel_rfl) h
def Bd:Prop:=
 ad H 4 x0 λk=>
 iP k λc=>
 gQ c false (au 185 a 0) λp=>
 gQ c false (au 73 p 0) λn=>
 gQ c false (ar H 4 n) λj=>
 gQ c false (aU j) λd=>
 gQ d true (au 185 a 0) λm=>
 gQ d true (au 73 m 1) λl=>
 gQ d true (ar H 3 l) λo=>
 gQ d true (ar H 3 b) λi=>
 gQ d true (MR 3 13 14 o i) λh=>
 gQ c false (G4 d h) λe=>
 dn c e λf=>
 Q f H
theorem GK(h : ∀g:cW,Bd x0 a b H Q):cP Tryz.f114 0 [(0,x0),(1,a),(2,b)] H Q:=fk (by kernel_rfl) h
def CY:Prop:=
 aZ H 1 42 x0 λd e=>
 fB (gY (.func 175) (some []) (some [d])) λc=>
 Q c e
theorem JZ(h : ∀g:cW,CY x0 H Q):cP Tryz.f115 0 [(0,x0)] H Q:=fk (by kernel_rfl) h
def Bc:Prop:=
 af 185 x0 0 λd=>
 af 73 d 0 λc=>
 ad H 4 c λe=>
 Q e H
theorem GJ(h : ∀g:cW,Bc x0 H Q):cP Tryz.f116 0 [(0,x0)] H Q:=fk (by kernel_rfl) h
def Bb:Prop:=
 af 185 x0 2 λd=>
 af 81 d 1 λh=>
 ad H 3 h λi=>
 af 185 x0 3 λf=>
 af 81 f 1 λc=>
 ad H 3 c λj=>
 Kk 3 4 7 i j λe=>
 Q e H
theorem GI(h : ∀g:cW,Bb x0 H Q):cP Tryz.f117 0 [(0,x0)] H Q:=fk (by kernel_rfl) h
def A9:Prop:=
 Q (.v (.bool true)) H
theorem GG(h : ∀g:cW,A9 H Q):cP Tryz.f118 0 [] H Q:=fk (by kernel_rfl) h
def Ba:Prop:=
 eF H 2 107 λd c=>
 ad c 3 x0 λj=>
 ad c 31 a λl=>
 yE 38 1 l λi=>
 fB (jD env.P 62 (some [(0,(a8 1)),(1,j),(2,i)])) λf=>
 fB (jD env.P 107 (some [(1,(.v (.bool true))),(2,f)])) λk=>
 ax c 107 d k λm e=>
 bP e d 107 λh=>
 Q h e
theorem GH(h : ∀g:cW,Ba x0 a H Q):cP Tryz.f119 0 [(0,x0),(1,a)] H Q:=fk (by kernel_rfl) h
def lR:Prop:=
 af 38 x0 1 λe=>
 ad H 31 e λi=>
 ad H 31 a λl=>
 yF 31 4 5 i l λc=>
 gQ c false (ar H 38 x0) λd=>
 gW c false H (eC true H 9 121 [d]) λj k=>
 gQ c false (oG j) λh=>
 dn c h λf=>
 Q f k
theorem DU(h : ∀g:cW,lR x0 a H Q):cP Tryz.f120 0 [(0,x0),(1,a)] H Q:=fk (by kernel_rfl) h
def xU:Prop:=
 af 185 x0 0 λj=>
 af 73 j 0 λm=>
 ad H 4 m λq=>
 iP q λc=>
 gQ c false (ar H 185 x0) λi=>
 gQ c false (au 185 x0 0) λo=>
 gQ c false (au 73 o 1) λl=>
 gQ c false (ar H 3 l) λk=>
 gQ c false (au 31 a 0) λn=>
 gQ c false (ar H 29 n) λh=>
 gW c false H (eC true H 14 112 [i,k,h]) λf p=>
 gQ c false (oG f) λd=>
 dn c d λe=>
 Q e p
theorem DT(h : ∀g:cW,xU x0 a H Q):cP Tryz.f122 0 [(0,x0),(1,a)] H Q:=fk (by kernel_rfl) h
def xT:Prop:=
 af 38 x0 2 λd=>
 ad H 3 d λf=>
 af 185 a 0 λh=>
 af 73 h 2 λe=>
 ad H 3 e λc=>
 Rw 3 4 7 f c λi=>
 Q i H
theorem DS(h : ∀g:cW,xT x0 a H Q):cP Tryz.f123 0 [(0,x0),(1,a)] H Q:=fk (by kernel_rfl) h
def xS:Prop:=
 eF H 4 107 λf c=>
 ad c 25 x0 λm=>
 ad c 26 a λq=>
 ad c 31 b λl=>
 af 38 x3 2 λj=>
 ad c 3 j λo=>
 aX true c 13 29 [m,q,l,o] λh p=>
 aP h 0 λk=>
 aP h 1 λt=>
 yE 107 0 k λe=>
 ax p 107 f e λn i=>
 bP i f 107 λd=>
 Q d i
theorem DR(h : ∀g:cW,xS x0 a b x3 H Q):cP Tryz.f124 0 [(0,x0),(1,a),(2,b),(3,x3)] H Q:=fk (by kernel_rfl) h
def xR:Prop:=
 af 38 x0 2 λd=>
 ad H 3 d λh=>
 af 185 a 0 λi=>
 af 73 i 2 λf=>
 ad H 3 f λc=>
 eD 3 7 1 c λj=>
 fB (bY env.P .gtr 3 (Operand.tmp 4) (Operand.tmp 8) (some h) (some j)) λe=>
 Q e H
theorem DQ(h : ∀g:cW,xR x0 a H Q):cP Tryz.f125 0 [(0,x0),(1,a)] H Q:=fk (by kernel_rfl) h
def xQ:Prop:=
 af 185 x0 2 λd=>
 af 81 d 2 λh=>
 ad H 3 h λi=>
 af 185 x0 3 λf=>
 af 81 f 2 λc=>
 ad H 3 c λj=>
 Kk 3 4 7 i j λe=>
 Q e H
theorem DP(h : ∀g:cW,xQ x0 H Q):cP Tryz.f126 0 [(0,x0)] H Q:=fk (by kernel_rfl) h
def A8:Prop:=
 eF H 1 107 λd e=>
 ad e 42 x0 λh=>
 yE 107 0 h λi=>
 ax e 107 d i λj c=>
 bP c d 107 λf=>
 Q f c
theorem GF(h : ∀g:cW,A8 x0 H Q):cP Tryz.f175 0 [(0,x0)] H Q:=fk (by kernel_rfl) h
end
section
variable(dep:Nat)(g:Nat->AV)(x0 a b:AV)(H:aa)(Q:AV->aa->Prop)
def A5:Prop:=
 aZ H 2 25 x0 λA J=>
 aZ J 3 29 a λw K=>
 eF K 4 81 λf x=>
 ad x 25 A λD=>
 ad x 29 w λE=>
 aX true x 11 104 [D,E] λC l=>
 kb 42 12 0 C λG=>
 br (some G) (
 mo 81 λo=>
 ax l 81 f o λz m=>
 bP m f 81 λe=>
 Q (.tup [e,C]) m) (
 af 25 A 1 λo=>
 ad l 23 o λz=>
 ad l 29 w λe=>
 aX true l 20 105 [z,e,(.fn (.func 106) [] [])] λh m=>
 aP h 0 λu=>
 aP h 1 λp=>
 eF m 7 81 λc F=>
 ax F 81 c u λL n=>
 iP p λq=>
 br (some q) (
 ad n 29 w λd=>
 af 81 c 0 λk=>
 ax n 29 k d λi j=>
 ad j 81 c λt=>
 ax j 81 f t λI B=>
 bP B f 81 λy=>
 Q (.tup [y,(.v (.int .i64 0))]) B) (
 ad n 81 c λd=>
 ax n 81 f d λk j=>
 bP j f 81 λi=>
 Q (.tup [i,(.v (.int .i64 0))]) j))
theorem GB(h : ∀g:cW,A5 x0 a H Q):cP Tryz.f44 0 [(0,x0),(1,a)] H Q:=fk (by kernel_rfl) h
def qI:Prop:=
 aZ H 1 25 x0 λf d=>
 af 25 f 0 λk=>
 ad d 22 k λn=>
 cE d 5 22 n λj=>
 Dr 3 5 100 j λc=>
 gQ c false (au 25 f 1) λm=>
 gQ c false (ar d 23 m) λi=>
 gQ c false (yG d 10 23 i) λh=>
 gQ c false (wZ 3 10 100 h) λl=>
 dn c l λe=>
 Q e d
theorem yd(h : ∀g:cW,qI x0 H Q):cP Tryz.f63 0 [(0,x0)] H Q:=fk (by kernel_rfl) h
noncomputable def oa:=ug Tryz.f102 3
noncomputable def n9:=ug Tryz.f102 8
noncomputable def ni:=ug Tryz.f102 14
def qL:Nat->Option (List Nat):=λi=>cond (Nat.beq i 3) (some [27,3,25,1,26]) (cond (Nat.beq i 8) (some [40,1,3,38,39]) (cond (Nat.beq i 14) (some [87,8,85,1,3,86]) (none)))
def A6:Prop:=
 aZ H 1 25 x0 λd c=>
 af 25 d 0 λu=>
 ad c 22 u λA=>
 cE c 13 22 A λt=>
 Us 3 13 8 t λx=>
 af 25 d 1 λz=>
 ad c 23 z λq=>
 cE c 17 23 q λp=>
 Us 3 17 8 p λy=>
 af 25 d 2 λk=>
 ad c 3 k λi=>
 aX false c 21 167 [i,(.v (.int .i64 64))] λf o=>
 jA (nJ env.P true false o (Ref.mk 0 22 (aa.gen o 0 22) 0) 262 3 (some [(0,x),(1,y),(2,f)])) λh w=>
 aX false w 23 166 [h] λj m=>
 af 25 d 0 λn=>
 ad m 22 n λe=>
 cE m 26 22 e λl=>
  bF env Tryz.f102 0 oa [(27,(.v (.int .i64 0))),(3,j),(25,e),(1,d),(26,l)] m Q
theorem GC(h : ∀g:cW,A6 x0 H Q):cP Tryz.f102 0 [(0,x0)] H Q:=wT qL (by kernel_rfl) h
def sV(g:Nat->AV)(c x3 e a d:AV)(H:aa)(Q:AV->aa->Prop):Prop:=
 dC 3 27 26 c d λk=>
 br (some k) (
 bJ H 22 e c λi=>
 ad H 58 i λh=>
 eF H 5 58 λf o=>
 ax o 58 f h λt j=>
 gQ x3 true (ar j 58 f) λq=>
 gW x3 true j (eC true j 34 168 [q]) λm n=>
 bo x3 m λl=>
 eD 3 27 1 c λp=>
  bF env Tryz.f102 0 oa [(27,p),(3,l),(25,e),(1,a),(26,d)] n Q) (
 af 25 a 1 λi=>
 ad H 23 i λh=>
 cE H 39 23 h λf=>
  bF env Tryz.f102 0 n9 [(40,(.v (.int .i64 0))),(1,a),(3,x3),(38,h),(39,f)] H Q)
theorem xb(d x3 e a c:AV)(H:aa)(Q:AV->aa->Prop)(h : ∀g,sV g d x3 e a c H Q):bF env Tryz.f102 0 oa [(27,d),(3,x3),(25,e),(1,a),(26,c)] H Q:=uX qL (by kernel_rfl) h
def jP(g:Nat->AV)(d a x3 i h:AV)(H:aa)(Q:AV->aa->Prop):Prop:=
 dC 3 40 39 d h λv1=>
 br (some v1) (
 bJ H 23 i d λJ=>
 ad H 81 J λC=>
 eF H 7 81 λe H1=>
 ax H1 81 e C λv5 V=>
 gQ x3 true (au 81 e 0) λU=>
 gQ x3 true (ar V 29 U) λI=>
 gW x3 true V (eC false V 49 76 [I]) λj M=>
 gQ x3 true (ra 42 49 0 j) λy=>
 gQ x3 true (au 81 e 1) λK=>
 gQ x3 true (ar M 3 K) λm=>
 gW x3 true M (eC false M 53 167 [m,(.v (.int .i64 64))]) λD q=>
 gQ x3 true (au 81 e 2) λl=>
 gQ x3 true (ar q 3 l) λo=>
 gW x3 true q (eC false q 56 167 [o,(.v (.int .i64 256))]) λv15 E=>
 gQ x3 true (au 81 e 3) λw=>
 gQ x3 true (ar E 3 w) λp=>
 gW x3 true E (eC false E 59 167 [p,(.v (.int .i64 4096))]) λW f=>
 gQ x3 true (aU d) λu=>
 gQ x3 true (ra 3 60 0 u) λA=>
 gQ x3 true (aU A) λc=>
 gQ c false (au 25 a 1) λN=>
 gQ c false (ar f 23 N) λF=>
 gQ c false (aU d) λX=>
 gQ c false (Uq 3 65 1 X) λt=>
 gQ c false (cN env.P true (aa.get f) (Ref.mk 0 67 (aa.gen f 0 67) 0) .max #[3,3] [t,(.v (.int .i64 0))]) λL=>
 gQ c false (q6 f 23 F L) λk=>
 gQ c false (au 81 k 0) λR=>
 gQ c false (ar f 29 R) λG=>
 gQ c false (au 81 e 0) λx=>
 gQ c false (ar f 29 x) λB=>
 gW c false f (eC false f 73 169 [G,B]) λS Z=>
 gQ x3 true (Kj c S) λz=>
 gW x3 true Z (nJ env.P true false Z (Ref.mk 0 75 (aa.gen Z 0 75) 0) 262 5 (some [(0,y),(1,D),(2,v15),(3,W),(4,z)])) λY H8=>
 gW x3 true H8 (eC false H8 76 166 [Y]) λO H9=>
 bo x3 O λT=>
 eD 3 40 1 d λn=>
  bF env Tryz.f102 0 n9 [(40,n),(1,a),(3,T),(38,i),(39,h)] H9 Q) (
 af 25 a 1 λJ=>
 ad H 23 J λC=>
 af 25 a 1 λe=>
 ad H 23 e λv5=>
 cE H 83 23 v5 λU=>
 fB (cN env.P false (aa.get H) (Ref.mk 0 84 (aa.gen H 0 84) 0) .min #[3,3] [U,(.v (.int .i64 8))]) λI=>
 G6 H 23 C I λj=>
 cE H 86 23 j λy=>
  bF env Tryz.f102 0 ni [(87,(.v (.int .i64 0))),(8,(.v (.int .i64 0))),(85,j),(1,a),(3,x3),(86,y)] H Q)
theorem xa(d a x3 c e:AV)(H:aa)(Q:AV->aa->Prop)(h : ∀g,jP g d a x3 c e H Q):bF env Tryz.f102 0 n9 [(40,d),(1,a),(3,x3),(38,c),(39,e)] H Q:=uX qL (by kernel_rfl) h
def qZ(g:Nat->AV)(c u f a x3 i:AV)(H:aa)(Q:AV->aa->Prop):Prop:=
 dC 3 87 86 c i λw=>
 br (some w) (
 bJ H 23 f c λd=>
 ad H 81 d λq=>
 eF H 10 81 λj k=>
 ax k 81 j q λt e=>
 af 81 j 3 λh=>
 ad e 3 h λm=>
 fB (cN env.P false (aa.get e) (Ref.mk 0 94 (aa.gen e 0 94) 0) .max #[3,3] [m,(.v (.int .i64 0))]) λl=>
 fB (cN env.P false (aa.get e) (Ref.mk 0 95 (aa.gen e 0 95) 0) .min #[3,3] [l,(.v (.int .i64 4096))]) λp=>
 q7 3 91 95 u p λo=>
 eD 3 87 1 c λn=>
  bF env Tryz.f102 0 ni [(87,n),(8,o),(85,f),(1,a),(3,x3),(86,i)] e Q) (
 iP x3 λd=>
 gQ d false (ar H 25 a) λq=>
 gW d false H (eC true H 102 103 [q]) λj k=>
 gQ d false (wZ 3 102 2048 j) λt=>
 dn d t λh=>
 gQ h false (aU u) λm=>
 gQ h false (wZ 3 106 8192 m) λl=>
 dn h l λp=>
 br (some p) (
 Q (.v (.int .i64 8)) k) (
 Q (.v (.int .i64 0)) k))
theorem vV(d f c a x3 e:AV)(H:aa)(Q:AV->aa->Prop)(h : ∀g,qZ g d f c a x3 e H Q):bF env Tryz.f102 0 ni [(87,d),(8,f),(85,c),(1,a),(3,x3),(86,e)] H Q:=uX qL (by kernel_rfl) h
noncomputable def ng:=ug Tryz.f103 3
def zn:Nat->Option (List Nat):=λi=>cond (Nat.beq i 3) (some [11,3,9,10]) (none)
def zK:Prop:=
 aZ H 1 25 x0 λe c=>
 af 25 e 2 λh=>
 ad c 3 h λi=>
 af 25 e 1 λf=>
 ad c 23 f λd=>
 cE c 10 23 d λj=>
  bF env Tryz.f103 0 ng [(11,(.v (.int .i64 0))),(3,i),(9,d),(10,j)] c Q
theorem E8(h : ∀g:cW,zK x0 H Q):cP Tryz.f103 0 [(0,x0)] H Q:=wT zn (by kernel_rfl) h
def qY(g:Nat->AV)(x11 x3 k c:AV)(H:aa)(Q:AV->aa->Prop):Prop:=
 dC 3 11 10 x11 c λl=>
 br (some l) (
 bJ H 23 k x11 λn=>
 ad H 81 n λu=>
 eF H 5 81 λf p=>
 ax p 81 f u λv j=>
 af 81 f 1 λt=>
 ad j 3 t λo=>
 af 81 f 2 λm=>
 ad j 3 m λq=>
 Ur 3 4 19 q λi=>
 q7 3 17 20 o i λh=>
 q7 3 15 21 x3 h λd=>
 eD 3 11 1 x11 λe=>
  bF env Tryz.f103 0 ng [(11,e),(3,d),(9,k),(10,c)] j Q) (
 Q x3 H)
theorem vU(x11 x3 d c:AV)(H:aa)(Q:AV->aa->Prop)(h : ∀g,qY g x11 x3 d c H Q):bF env Tryz.f103 0 ng [(11,x11),(3,x3),(9,d),(10,c)] H Q:=uX zn (by kernel_rfl) h
def A4:Prop:=
 aZ H 2 25 x0 λh m=>
 aZ m 3 29 a λj d=>
 ad d 25 h λn=>
 aX false d 6 102 [n] λi e=>
 ad e 29 j λf=>
 aX false e 8 76 [f] λl c=>
 MT c 9 42 42 i l λk=>
 Q k c
theorem GA(h : ∀g:cW,A4 x0 a H Q):cP Tryz.f104 0 [(0,x0),(1,a)] H Q:=fk (by kernel_rfl) h
def dW:Prop:=
 aZ H 4 29 a λl p=>
 aZ p 5 180 b λn t=>
 eF t 6 81 λd o=>
 fB (gY (.func 171) (some []) (some [n,l])) λm=>
 aX true o 11 170 [x0,m] λj c=>
 Hb 3 12 0 j λq=>
 br (some q) (
 ad c 81 d λf=>
 ax c 81 d f λi e=>
 bP e d 81 λk=>
 Q (.tup [k,(.v (.bool false))]) e) (
 bJ c 23 x0 j λf=>
 ad c 81 f λi=>
 ax c 81 d i λk e=>
 bP e d 81 λh=>
 Q (.tup [h,(.v (.bool true))]) e)
theorem jl(h : ∀g:cW,dW x0 a b H Q):cP Tryz.f105 0 [(0,x0),(1,a),(2,b)] H Q:=fk (by kernel_rfl) h
def xF:Prop:=
 aZ H 1 81 x0 λf j=>
 eF j 2 29 λc d=>
 af 81 f 0 λk=>
 ad d 29 k λh=>
 ax d 29 c h λl e=>
 bP e c 29 λi=>
 Q i e
theorem DD(h : ∀g:cW,xF x0 H Q):cP Tryz.f106 0 [(0,x0)] H Q:=fk (by kernel_rfl) h
def BY:Prop:=
 aZ H 1 25 x0 λc u=>
 eF u 2 25 λi k=>
 af 25 c 0 λz=>
 ad k 22 z λo=>
 aX false k 5 205 [o] λv j=>
 af 25 c 1 λy=>
 ad j 23 y λp=>
 aX false j 8 206 [p] λn w=>
 af 25 c 0 λx=>
 ax w 22 x v λt A=>
 af 25 c 1 λe=>
 ax A 23 e n λm h=>
 ad h 25 c λd=>
 ax h 25 i d λq l=>
 bP l i 25 λf=>
 Q f l
theorem HW(h : ∀g:cW,BY x0 H Q):cP Tryz.f160 0 [(0,x0)] H Q:=fk (by kernel_rfl) h
def CS:Prop:=
 aX true H 4 212 [x0,(.v (.bool false))] λd e=>
 iP d λc=>
 Q c e
theorem JP(h : ∀g:cW,CS x0 H Q):cP Tryz.f166 0 [(0,x0)] H Q:=fk (by kernel_rfl) h
def BX:Prop:=
 w6 3 5 0 x0 λc=>
 gQ c true (aU x0) λf=>
 gQ c true (aU a) λh=>
 gQ c true (bY env.P .leq 3 (Operand.tmp 8) (Operand.tmp 9) (some f) (some h)) λe=>
 bo c e λd=>
 Q d H
theorem HV(h : ∀g:cW,BX x0 a H Q):cP Tryz.f167 0 [(0,x0),(1,a)] H Q:=fk (by kernel_rfl) h
def A3:Prop:=
 aZ H 1 58 x0 λh m=>
 af 58 h 0 λo=>
 ad m 29 o λv=>
 aX false m 5 76 [v] λn e=>
 vO 42 5 0 n λd=>
 gQ d true (au 58 h 1) λu=>
 gQ d true (ar e 4 u) λp=>
 gQ d true (aU p) λc=>
 gQ c false (au 58 h 0) λt=>
 gQ c false (ar e 29 t) λl=>
 gW c false e (eC false e 13 185 []) λj q=>
 gQ c false (gT 29 12 13 l j) λf=>
 gQ d true (Kj c f) λi=>
 bo d i λk=>
 Q k q
theorem Gz(h : ∀g:cW,A3 x0 H Q):cP Tryz.f168 0 [(0,x0)] H Q:=fk (by kernel_rfl) h
noncomputable def bj:=ug Tryz.f170 2
def cZ:Nat->Option (List Nat):=λi=>cond (Nat.beq i 2) (some [8,0,1,7]) (none)
def db:Prop:=
 cE H 7 23 x0 λc=>
  bF env Tryz.f170 0 bj [(8,(.v (.int .i64 0))),(0,x0),(1,a),(7,c)] H Q
theorem gK(h : ∀g:cW,db x0 a H Q):cP Tryz.f170 0 [(0,x0),(1,a)] H Q:=wT cZ (by kernel_rfl) h
def bO(g:Nat->AV)(c x0 a e:AV)(H:aa)(Q:AV->aa->Prop):Prop:=
 dC 3 8 7 c e λf=>
 br (some f) (
 bJ H 23 x0 c λi=>
 ad H 81 i λk=>
 MU H 16 a k λh d=>
 br (some h) (
 Q c d) (
 eD 3 8 1 c λj=>
  bF env Tryz.f170 0 bj [(8,j),(0,x0),(1,a),(7,e)] d Q)) (
 Q (.v (.int .i64 (-1))) H)
theorem cQ(d x0 a c:AV)(H:aa)(Q:AV->aa->Prop)(h : ∀g,bO g d x0 a c H Q):bF env Tryz.f170 0 bj [(8,d),(0,x0),(1,a),(7,c)] H Q:=uX cZ (by kernel_rfl) h
def dI:Prop:=
 aZ H 3 81 x0 λf c=>
 ad c 180 a λi=>
 ad c 81 f λk=>
 jA (aL env false (ak env) (bD env 0) c (Ref.mk 0 7 (aa.gen c 0 7) 0) (some i) [k]) λh d=>
 ad d 29 b λe=>
 pY 29 7 8 h e λj=>
 Q j d
theorem iT(h : ∀g:cW,dI x0 a b H Q):cP Tryz.f171 0 [(0,x0),(1,a),(2,b)] H Q:=fk (by kernel_rfl) h
def CT:Prop:=
 aZ H 3 25 x0 λt L=>
 aZ L 5 29 b λC z=>
 ad z 25 t λJ=>
 ad z 29 C λE=>
 aX true z 12 104 [J,E] λB d=>
 kb 42 13 0 B λM=>
 br (some M) (
 Q (.tup [(.v (.bool false)),B]) d) (
 Hb 3 16 0 a λf=>
 gQ f false (aU a) λD=>
 gQ f false (au 25 t 0) λI=>
 gQ f false (ar d 22 I) λw=>
 gQ f false (yG d 22 22 w) λj=>
 gQ f false (Rt 3 19 22 D j) λq=>
 dn f q λi=>
 br (some i) (
 Q (.tup [(.v (.bool false)),(.v (.int .i64 0))]) d) (
 af 25 t 0 λk=>
 ad d 22 k λl=>
 bJ d 22 l a λo=>
 ad d 58 o λm=>
 eF d 9 58 λe F=>
 ax F 58 e m λG h=>
 af 58 e 1 λp=>
 ad h 4 p λc=>
 gQ c true (ar h 29 C) λy=>
 gQ c true (au 58 e 0) λu=>
 gQ c true (ar h 29 u) λA=>
 gW c true h (eC true h 36 47 [y,A]) λn K=>
 bo c n λx=>
 Q (.tup [x,(.v (.int .i64 0))]) K))
theorem JQ(h : ∀g:cW,CT x0 a b H Q):cP Tryz.f174 0 [(0,x0),(1,a),(2,b)] H Q:=fk (by kernel_rfl) h
def bC:Prop:=
 Up 22 3 x0 λd=>
 br (some d) (
 Q (.v (.slice none 0 0)) H) (
 Uk H 5 22 0 λe f=>
 mX f 7 22 22 e x0 λh c=>
 Q h c)
theorem cf(h : ∀g:cW,bC x0 H Q):cP Tryz.f205 0 [(0,x0)] H Q:=fk (by kernel_rfl) h
def bB:Prop:=
 Up 23 3 x0 λd=>
 br (some d) (
 Q (.v (.slice none 0 0)) H) (
 Uk H 5 23 0 λe f=>
 mX f 7 23 23 e x0 λh c=>
 Q h c)
theorem cd(h : ∀g:cW,bB x0 H Q):cP Tryz.f206 0 [(0,x0)] H Q:=fk (by kernel_rfl) h
def my:Prop:=
 aX true H 7 227 [x0,a] λd e=>
 w6 3 7 0 d λc=>
 Q c e
theorem tu(h : ∀g:cW,my x0 a H Q):cP Tryz.f212 0 [(0,x0),(1,a)] H Q:=fk (by kernel_rfl) h
noncomputable def fA:=ug Tryz.f227 2
def nG:Nat->Option (List Nat):=λi=>cond (Nat.beq i 2) (some [8,0,1,7]) (none)
def nM:Prop:=
 cE H 7 262 x0 λc=>
  bF env Tryz.f227 0 fA [(8,(.v (.int .i64 0))),(0,x0),(1,a),(7,c)] H Q
theorem uY(h : ∀g:cW,nM x0 a H Q):cP Tryz.f227 0 [(0,x0),(1,a)] H Q:=wT nG (by kernel_rfl) h
def je(g:Nat->AV)(c x0 a d:AV)(H:aa)(Q:AV->aa->Prop):Prop:=
 dC 3 8 7 c d λe=>
 br (some e) (
 bJ H 262 x0 c λh=>
 ad H 4 h λj=>
 pY 4 11 15 a j λf=>
 br (some f) (
 Q c H) (
 eD 3 8 1 c λi=>
  bF env Tryz.f227 0 fA [(8,i),(0,x0),(1,a),(7,d)] H Q)) (
 Q (.v (.int .i64 (-1))) H)
theorem mD(d x0 a c:AV)(H:aa)(Q:AV->aa->Prop)(h : ∀g,je g d x0 a c H Q):bF env Tryz.f227 0 fA [(8,d),(0,x0),(1,a),(7,c)] H Q:=uX nG (by kernel_rfl) h
def xN:Prop:=
 aZ H 3 38 a λf p=>
 aX true p 10 172 [x0] λh c=>
 aP h 0 λq=>
 aP h 1 λm=>
 iP m λj=>
 br (some j) (
 Q (.v (.int .i64 8)) c) (
 ad c 38 f λo=>
 aX true c 16 70 [o] λi e=>
 kb 42 17 0 i λl=>
 br (some l) (
 Q i e) (
 ad e 38 f λn=>
 aX true e 22 193 [q,n] λd k=>
 Q d k))
theorem Nl(h : ∀g:cW,xN x0 a H Q):cP Tryz.f137 0 [(0,x0),(1,a)] H Q:=fk (by kernel_rfl) h
noncomputable def T5:Code:=(Tryz.f172.body).getD .skip
noncomputable def o4:=ug Tryz.f172 3
noncomputable def sL:=ug Tryz.f172 10
def Fw:Nat->Option (List Nat):=λi=>cond (Nat.beq i 3) (some [4,14,12,13]) (cond (Nat.beq i 10) (some [44,4,42,12,13,14,43]) (none))
def La:Prop:=
 Ut H dep 9 λd h=>
 yE 266 1 d λf=>
 mC h dep 11 266 f λi c=>
 G8 c dep 13 41 x0 λe=>
  bF env Tryz.f172 (dep+1) o4 [(4,i),(14,(.v (.int .i64 0))),(12,x0),(13,e)] c Q
theorem Sz(h : ∀g:cW,La dep x0 H Q):cP Tryz.f172 (dep+1) [(0,x0)] H Q:=wT Fw (by kernel_rfl) h
def xM(dep:Nat)(g:Nat->AV)(i c d e:AV)(H:aa)(Q:AV->aa->Prop):Prop:=
 dC 3 14 13 c e λN=>
 br (some N) (
 bJ H 41 d c λR=>
 ad H 38 R λM=>
 pZ H dep 6 38 λh S=>
 ax S 38 h M λW G=>
 ad G 38 h λU=>
 jA (aL env true (ak env) (bD env (dep+1)) G (⟨(dep+1),19,aa.gen G (dep+1) 19,0⟩:Ref) (some (.fn (.func 70) [] [])) [U]) λP m=>
 kb 42 19 0 P λj=>
 gQ j false (aU i) λL=>
 gQ j false (ar m 38 h) λE=>
 gW j false m (aL env true (ak env) (bD env (dep+1)) m (⟨(dep+1),24,aa.gen m (dep+1) 24,0⟩:Ref) (some (.fn (.func 193) [] [])) [L,E]) λq l=>
 gQ j false (G9 42 24 0 q) λB=>
 dn j B λp=>
 br (some p) (
 Q (.tup [(.v (.pointer none)),(.v (.bool false))]) l) (
 jh i λt=>
 af 266 t 0 λu=>
 ad l 41 u λz=>
 ad l 38 h λw=>
 Un l dep 33 41 1 0 w λI V=>
 Um V dep 34 41 41 z I λy O=>
 jh i λA=>
 af 266 A 0 λF=>
 ax O 41 F y λT n=>
 af 38 h 0 λC=>
 ad n 5 C λJ=>
 yH 5 38 J λx=>
 br (some x) (
 af 38 h 3 λf=>
 ad n 35 f λo=>
 ZP dep n 42 o λk K=>
 G8 K dep 43 244 k λD=>
  bF env Tryz.f172 (dep+1) sL [(44,(.v (.int .i64 0))),(4,i),(42,k),(12,d),(13,e),(14,c),(43,D)] K Q) (
 eD 3 14 1 c λf=>
  bF env Tryz.f172 (dep+1) o4 [(4,i),(14,f),(12,d),(13,e)] n Q))) (
 Q (.tup [i,(.v (.bool true))]) H)
theorem F2(dep:Nat)(f e d c:AV)(H:aa)(Q:AV->aa->Prop)(h : ∀g,xM dep g f e d c H Q):bF env Tryz.f172 (dep+1) o4 [(4,f),(14,e),(12,d),(13,c)] H Q:=uX Fw (by kernel_rfl) h
def AJ(dep:Nat)(g:Nat->AV)(c m f e h i d:AV)(H:aa)(Q:AV->aa->Prop):Prop:=
 dC 3 44 43 c d λo=>
 br (some o) (
 bJ H 244 f c λj=>
 ad H 33 j λz=>
 pZ H dep 8 33 λn w=>
 ax w 33 n z λA l=>
 jh m λy=>
 af 266 y 1 λq=>
 ad l 264 q λp=>
 ad l 33 n λx=>
 jA (dP env.P l 264 (some p) (some x) (some (AV.v (Value.bool true)))) λt u=>
 eD 3 44 1 c λk=>
  bF env Tryz.f172 (dep+1) sL [(44,k),(4,m),(42,f),(12,e),(13,h),(14,i),(43,d)] u Q) (
 eD 3 14 1 i λj=>
  bF env Tryz.f172 (dep+1) o4 [(4,m),(14,j),(12,e),(13,h)] H Q)
theorem DN(dep:Nat)(j k e d f i c:AV)(H:aa)(Q:AV->aa->Prop)(h : ∀g,AJ dep g j k e d f i c H Q):bF env Tryz.f172 (dep+1) sL [(44,j),(4,k),(42,e),(12,d),(13,f),(14,i),(43,c)] H Q:=uX Fw (by kernel_rfl) h
noncomputable def rX:Code:=(Tryz.f193.body).getD .skip
def eE:Prop:=
 mC H dep 3 38 a λm d=>
 fB (jD env.P 271 (some [(1,(.fn (.func 218) [] [])),(2,(.fn (.func 219) [] [])),(3,(.fn (.func 220) [] []))])) λp=>
 af 38 m 0 λw=>
 ad d 5 w λo=>
 fB (sx env.P 271 (some p) (some o)) λq=>
 ad d 38 m λu=>
 jA (aL env true (ak env) (bD env (dep+1)) d (⟨(dep+1),12,aa.gen d (dep+1) 12,0⟩:Ref) (some q) [x0,u]) λn e=>
 vO 42 13 0 n λc=>
 gQ c true (aU x0) λt=>
 gQ c true (NX (some t)) λk=>
 gQ c true (au 266 k 0) λi=>
 gQ c true (ar e 41 i) λf=>
 gQ c true (ZK e dep 20 41 f) λh=>
 gQ c true (wY 3 20 2048 h) λj=>
 bo c j λl=>
 br (some l) (
 Q (.v (.int .i64 4)) e) (
 Q n e)
theorem rU(h : ∀g:cW,eE dep x0 a H Q):cP Tryz.f193 (dep+1) [(0,x0),(1,a)] H Q:=fk (by kernel_rfl) h
noncomputable def o5:=ug Tryz.f213 2
def Ep:Nat->Option (List Nat):=λi=>cond (Nat.beq i 2) (some [8,2,1,7]) (none)
def ES:Prop:=
 aZ H 1 35 x0 λc d=>
 af 35 c 1 λe=>
 ad d 3 e λf=>
  bF env Tryz.f213 0 o5 [(8,(.v (.int .i64 0))),(2,(.v (.slice none 0 0))),(1,c),(7,f)] d Q
theorem LD(h : ∀g:cW,ES x0 H Q):cP Tryz.f213 0 [(0,x0)] H Q:=wT Ep (by kernel_rfl) h
def sY(g:Nat->AV)(e b a h:AV)(H:aa)(Q:AV->aa->Prop):Prop:=
 dC 3 8 7 e h λk=>
 br (some k) (
 ad H 35 a λn=>
 aX true H 14 228 [n,e] λj o=>
 aP j 0 λm=>
 aP j 1 λw=>
 eF o 4 33 λi t=>
 ax t 33 i m λv f=>
 ad f 33 i λl=>
 uB f 19 244 1 0 l λq p=>
 mX p 20 244 244 b q λd u=>
 eD 3 8 1 e λc=>
  bF env Tryz.f213 0 o5 [(8,c),(2,d),(1,a),(7,h)] u Q) (
 Q b H)
theorem Bx(d b a c:AV)(H:aa)(Q:AV->aa->Prop)(h : ∀g,sY g d b a c H Q):bF env Tryz.f213 0 o5 [(8,d),(2,b),(1,a),(7,c)] H Q:=uX Ep (by kernel_rfl) h
noncomputable def qC:Code:=(Tryz.f218.body).getD .skip
def dX:Prop:=
 mC H dep 2 230 x0 λz Y=>
 mC Y dep 3 38 a λh f=>
 af 38 h 4 λW=>
 ad f 33 W λR=>
 mo 33 λS=>
 yF 33 8 9 R S λe=>
 gQ e true (ar f 230 z) λX=>
 gQ e true (ar f 38 h) λP=>
 gQ e true (au 38 h 4) λV=>
 gQ e true (ar f 33 V) λC=>
 gW e true f (aL env true (ak env) (bD env (dep+1)) f (⟨(dep+1),16,aa.gen f (dep+1) 16,0⟩:Ref) (some (.fn (.func 230) [] [])) [X,P,C]) λn k=>
 gQ e true (oG n) λy=>
 bo e y λm=>
 br (some m) (
 Q (.v (.int .i64 6)) k) (
 ad k 38 h λo=>
 jA (aL env true (ak env) (bD env (dep+1)) k (⟨(dep+1),21,aa.gen k (dep+1) 21,0⟩:Ref) (some (.fn (.func 231) [] [])) [o]) λi T=>
 aP i 0 λt=>
 aP i 1 λp=>
 pZ T dep 5 249 λL Z=>
 ax Z 249 L t λU j=>
 kb 42 24 0 p λc=>
 gQ c false (au 38 h 3) λD=>
 gQ c false (ar j 35 D) λF=>
 gW c false j (aL env true (ak env) (bD env (dep+1)) j (⟨(dep+1),29,aa.gen j (dep+1) 29,0⟩:Ref) (some (.fn (.func 213) [] [])) [F]) λA O=>
 gQ c false (gY (.func 233) (some []) (some [z])) λM=>
 gW c false O (aL env true (ak env) (bD env (dep+1)) O (⟨(dep+1),31,aa.gen O (dep+1) 31,0⟩:Ref) (some (.fn (.func 232) [] [])) [A,M]) λq d=>
 dn c q λE=>
 br (some E) (
 Q (.v (.int .i64 2)) d) (
 ad d 230 z λl=>
 jh l λI=>
 af 266 I 1 λB=>
 ad d 264 B λu=>
 G8 d dep 37 264 u λx=>
 af 38 h 3 λJ=>
 af 35 J 1 λw=>
 ad d 3 w λN=>
 q7 3 37 40 x N λG=>
 Dr 3 41 8192 G λK=>
 br (some K) (
 Q (.v (.int .i64 4)) d) (
 Q (.v (.int .i64 0)) d)))
theorem qj(h : ∀g:cW,dX dep x0 a H Q):cP Tryz.f218 (dep+1) [(0,x0),(1,a)] H Q:=fk (by kernel_rfl) h
noncomputable def qB:Code:=(Tryz.f219.body).getD .skip
def kN:Prop:=
 mC H dep 3 38 a λe j=>
 ad j 38 e λn=>
 ZQ dep j 8 x0 n λt c=>
 iP t λm=>
 br (some m) (
 Q (.v (.int .i64 6)) c) (
 af 38 e 3 λk=>
 af 35 k 0 λq=>
 af 33 q 0 λo=>
 af 31 o 0 λl=>
 ad c 29 l λp=>
 af 38 e 1 λi=>
 af 31 i 0 λh=>
 ad c 29 h λd=>
 yF 29 15 18 p d λf=>
 br (some f) (
 Q (.v (.int .i64 2)) c) (
 Q (.v (.int .i64 0)) c))
theorem qi(h : ∀g:cW,kN dep x0 a H Q):cP Tryz.f219 (dep+1) [(0,x0),(1,a)] H Q:=fk (by kernel_rfl) h
noncomputable def qW:Code:=(Tryz.f220.body).getD .skip
def k8:Prop:=
 mC H dep 3 38 a λk m=>
 ad m 38 k λq=>
 ZQ dep m 9 x0 q λx d=>
 iP x λp=>
 br (some p) (
 Q (.v (.int .i64 6)) d) (
 jh x0 λu=>
 af 266 u 0 λw=>
 ad d 41 w λt=>
 ad d 38 k λo=>
 jA (aL env false (ak env) (bD env (dep+1)) d (⟨(dep+1),17,aa.gen d (dep+1) 17,0⟩:Ref) (some (.fn (.func 235) [] [])) [t,o]) λn l=>
 aP n 0 λi=>
 aP n 1 λf=>
 kb 42 20 0 f λc=>
 gQ c false (aU i) λe=>
 gQ c false (oG e) λh=>
 dn c h λj=>
 br (some j) (
 Q (.v (.int .i64 2)) l) (
 Q (.v (.int .i64 0)) l))
theorem qO(h : ∀g:cW,k8 dep x0 a H Q):cP Tryz.f220 (dep+1) [(0,x0),(1,a)] H Q:=fk (by kernel_rfl) h
noncomputable def rW:Code:=(Tryz.f230.body).getD .skip
def gO:Prop:=
 mC H dep 4 38 a λm q=>
 mC q dep 5 33 b λl d=>
 jh x0 λw=>
 af 266 w 1 λo=>
 ad d 264 o λt=>
 ad d 33 l λv=>
 Bp d 264 t v λc=>
 gQ c true (au 33 l 0) λn=>
 gQ c true (au 31 n 0) λu=>
 gQ c true (ar d 29 u) λj=>
 gQ c true (au 38 m 1) λh=>
 gQ c true (au 31 h 0) λe=>
 gQ c true (ar d 29 e) λf=>
 gW c true d (aL env false (ak env) (bD env (dep+1)) d (⟨(dep+1),20,aa.gen d (dep+1) 20,0⟩:Ref) (some (.fn (.func 47) [] [])) [j,f]) λi p=>
 bo c i λk=>
 Q k p
theorem rT(h : ∀g:cW,gO dep x0 a b H Q):cP Tryz.f230 (dep+1) [(0,x0),(1,a),(2,b)] H Q:=fk (by kernel_rfl) h
noncomputable def iz:Code:=(Tryz.f232.body).getD .skip
def dy:Prop:=
 jA (aL env true (ak env) (bD env (dep+1)) H (⟨(dep+1),7,aa.gen H (dep+1) 7,0⟩:Ref) (some (.fn (.func 241) [] [])) [x0,a]) λd e=>
 w6 3 7 0 d λc=>
 Q c e
theorem iy(h : ∀g:cW,dy dep x0 a H Q):cP Tryz.f232 (dep+1) [(0,x0),(1,a)] H Q:=fk (by kernel_rfl) h
noncomputable def pD:Code:=(Tryz.f233.body).getD .skip
def jT:Prop:=
 mC H dep 2 33 x0 λe c=>
 ad c 230 a λi=>
 jh i λk=>
 af 266 k 1 λh=>
 ad c 264 h λd=>
 ad c 33 e λj=>
 Bp c 264 d j λf=>
 Q f c
theorem pq(h : ∀g:cW,jT dep x0 a H Q):cP Tryz.f233 (dep+1) [(0,x0),(1,a)] H Q:=fk (by kernel_rfl) h
noncomputable def sP:Code:=(Tryz.f234.body).getD .skip
def lS:Prop:=
 mC H dep 2 230 x0 λi n=>
 mC n dep 3 38 a λc d=>
 af 38 c 3 λo=>
 ad d 35 o λk=>
 ZP dep d 7 k λf e=>
 fB (gY (.func 242) (some []) (some [i,c])) λm=>
 jA (aL env true (ak env) (bD env (dep+1)) e (⟨(dep+1),9,aa.gen e (dep+1) 9,0⟩:Ref) (some (.fn (.func 232) [] [])) [f,m]) λl h=>
 iP l λj=>
 Q j h
theorem sj(h : ∀g:cW,lS dep x0 a H Q):cP Tryz.f234 (dep+1) [(0,x0),(1,a)] H Q:=fk (by kernel_rfl) h
noncomputable def jd:Code:=(Tryz.f241.body).getD .skip
noncomputable def bA:=ug Tryz.f241 2
def dQ:Nat->Option (List Nat):=λi=>cond (Nat.beq i 2) (some [8,0,1,7]) (none)
def dR:Prop:=
 G8 H dep 7 244 x0 λc=>
  bF env Tryz.f241 (dep+1) bA [(8,(.v (.int .i64 0))),(0,x0),(1,a),(7,c)] H Q
theorem iZ(h : ∀g:cW,dR dep x0 a H Q):cP Tryz.f241 (dep+1) [(0,x0),(1,a)] H Q:=wT dQ (by kernel_rfl) h
def cg(dep:Nat)(g:Nat->AV)(c x0 a e:AV)(H:aa)(Q:AV->aa->Prop):Prop:=
 dC 3 8 7 c e λf=>
 br (some f) (
 bJ H 244 x0 c λi=>
 ad H 33 i λk=>
 MV dep H 16 a k λh d=>
 br (some h) (
 Q c d) (
 eD 3 8 1 c λj=>
  bF env Tryz.f241 (dep+1) bA [(8,j),(0,x0),(1,a),(7,e)] d Q)) (
 Q (.v (.int .i64 (-1))) H)
theorem dD(dep:Nat)(d x0 a c:AV)(H:aa)(Q:AV->aa->Prop)(h : ∀g,cg dep g d x0 a c H Q):bF env Tryz.f241 (dep+1) bA [(8,d),(0,x0),(1,a),(7,c)] H Q:=uX dQ (by kernel_rfl) h
noncomputable def qX:Code:=(Tryz.f242.body).getD .skip
def k9:Prop:=
 mC H dep 3 33 x0 λe c=>
 ad c 230 a λh=>
 ad c 38 b λk=>
 ad c 33 e λf=>
 jA (aL env true (ak env) (bD env (dep+1)) c (⟨(dep+1),8,aa.gen c (dep+1) 8,0⟩:Ref) (some (.fn (.func 230) [] [])) [h,k,f]) λd j=>
 iP d λi=>
 Q i j
theorem qP(h : ∀g:cW,k9 dep x0 a b H Q):cP Tryz.f242 (dep+1) [(0,x0),(1,a),(2,b)] H Q:=fk (by kernel_rfl) h
end
end Go.Proofs.YtmkmimgokagimaaGreat
