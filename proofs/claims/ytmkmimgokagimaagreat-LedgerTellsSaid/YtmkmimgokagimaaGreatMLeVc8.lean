/-
  Maps whose keys are plain: what is looked up, kept, and taken apart. No statement of a seat is proved here.
-/
import Derived.Test.YtmkmimgokagimaaGreatRows
import Derived.Test.YtmkmimgokagimaaGreatAbsRules
set_option linter.unusedVariables false
set_option linter.unusedSimpArgs false
set_option linter.unusedSectionVars false
set_option linter.unnecessarySimpa false
set_option maxRecDepth 1000000
namespace Go.Ab
def vJ{K:Type}[DecidableEq K](k:K):List K->Nat->Option Nat
 | [],_=>none
 | a :: l,i=>if k=a then some i else vJ k l (i+1)
structure VI (P:Program) (kt:TypeId) {K:Type} [DecidableEq K] (val:K->Value):Prop where
 chk : ∀e a,bn P (Instr.checkKey e 10000 kt (val a))=some ()
 eq : ∀a b,bn P (Op.equal kt (val a) (val b))=some (decide (a=b))
 now : ∀d,P.underlying kt=some d ->∀a b,Instr.sameNow d (val a) (val b)=none
 und:(P.underlying kt).isSome=true
 bits : ∀a,Instr.sameBits 10000 (val a) (val a)=true
section
variable{P:Program}{kt:TypeId}{K:Type}[DecidableEq K]{val:K->Value}(h:VI P kt val)
include h
theorem MF(k:K) : ∀(l:List K)(i:Nat),bn P (Instr.findAsking kt (val k) (l.map λa=>⟨val a,Go.undef,0⟩) i)=some ((vJ k l i).map λj=>(j,Go.undef))
 | [],i=>rfl
 | a :: l,i=>by
  simp only[tp,Instr.findAsking,bL,h.eq,fH,vJ]
  by_cases e:k=a
  ·simp only[e,decide_true,if_true];rfl
  ·simp only[e,decide_false,nz,if_false];exact MF k l (i+1)
theorem U4(k:K)(l:List K):bn P (Instr.findKey kt (val k) (l.map λa=>⟨val a,Go.undef,0⟩))=some ((vJ k l 0).map λj=>(j,Go.undef)):=by
 obtain⟨d,b⟩:=gI.1 h.und
 simp only[Instr.findKey,bL,mK b,fH]
 cases l with
 | nil=>rfl
 | cons a l=>
  have e:Instr.findNow d (val k) ((a :: l).map λa=>⟨val a,Go.undef,0⟩) 0=none:=by
   simp only[tp,Instr.findNow,h.now d b]
  rw[e]
  exact MF h k (a :: l) 0
theorem Aw(e:Bool)(k:K)(l:List K):za P e kt (val k) (l.map val)=some (vJ k l 0):=by
 unfold za
 rw[h.chk]
 have:=U4 h k l
 simp only[Jm,Function.comp_def]
 rw[this]
 cases vJ k l 0<;>rfl
end
def bT{K:Type}[DecidableEq K](k:K):List (K × AV)->Option AV
 | []=>none
 | p :: l=>if k=p.1 then some p.2 else bT k l
def jq{K:Type}[DecidableEq K](k:K)(x:AV):List (K × AV)->List (K × AV)
 | []=>[(k,x)]
 | p :: l=>if k=p.1 then (k,x) :: l else p :: jq k x l
@[simp] theorem ot{K:Type}[DecidableEq K](k:K)(x:AV) : ∀l:List (K × AV),bT k (jq k x l)=some x
 | []=>by simp[jq,bT]
 | p :: l=>by
  unfold jq
  split
  ·simp[bT]
  ·rename_i e;simp[bT,e,ot k x l]
theorem mL{K:Type}[DecidableEq K]{k k':K}(e:k'≠k)(x:AV) : ∀l:List (K × AV),bT k' (jq k x l)=bT k' l
 | []=>by simp[jq,bT,e]
 | p :: l=>by
  unfold jq
  split
  ·rename_i h;subst h;simp[bT,e]
  ·simp only[bT];rw[mL e x l]
theorem vi{K:Type}[DecidableEq K](k:K) : ∀(l:List K)(i:Nat),vJ k l i=(vJ k l 0).map (· + i)
 | [],i=>rfl
 | a :: l,i=>by
  unfold vJ
  split
  ·simp
  ·rw[vi k l (i+1),vi k l (0+1)]
   cases vJ k l 0 with
   | none=>rfl
   | some j=>simp;omega
theorem DZ{K:Type}[DecidableEq K](k:K) : ∀(l:List (K × AV)),(match vJ k (l.map Prod.fst) 0 with | some i=>(l[i]?).map Prod.snd | none=>none)=bT k l
 | []=>rfl
 | p :: l=>by
  simp only[tp,vJ,bT]
  by_cases e:k=p.1
  ·simp[e]
  ·simp only[e,if_false]
   rw[vi]
   have:=DZ k l
   cases h:vJ k (l.map Prod.fst) 0 with
   | none=>rw[h]at this;simpa using this
   | some j=>rw[h]at this;simpa using this
theorem CZ{K:Type}[DecidableEq K](k:K)(x:AV) : ∀(l:List (K × AV)),(match vJ k (l.map Prod.fst) 0 with | some i=>l.set i (k,x) | none=>l++[(k,x)])=jq k x l
 | []=>rfl
 | p :: l=>by
  simp only[tp,vJ,jq]
  by_cases e:k=p.1
  ·simp[e]
  ·simp only[e,if_false]
   rw[vi]
   have:=CZ k x l
   cases h:vJ k (l.map Prod.fst) 0 with
   | none=>rw[h]at this;simpa using this
   | some j=>rw[h]at this;simpa using this
theorem C0{K:Type}[DecidableEq K](k:K) : ∀(l:List K)(i:Nat),vJ k l 0=some i->l[i]?=some k
 | [],i,h=>by cases h
 | a :: l,i,h=>by
  unfold vJ at h
  split at h
  ·rename_i e;subst e;cases h;rfl
  ·rw[vi]at h
   cases b:vJ k l 0 with
   | none=>rw[b]at h;cases h
   | some j=>
    rw[b]at h
    simp at h
    subst h
    simpa using C0 k l j b
section
variable{P:Program}{kt et t:TypeId}{K:Type}[DecidableEq K]{val:K->Value}{kav:K->AV}(h:VI P kt val)(hk : ∀k,gJ (kav k)=some (val k))(ht:HO P t=some (kt,et))
def cF(kav:K->AV)(l:List (K × AV)):List AV:=l.map λp => .tup [kav p.1,p.2]
theorem vd{g:da}{r:Ref}{l:List (K × AV)}(a:g r=some (bj (cF kav l))):jU g r=some (cF kav l):=by
 unfold jU
 rw[a]
 rfl
include hk in
theorem DY(l:List (K × AV)):(cF kav l).mapM AG=some ((l.map Prod.fst).map val):=by
 induction l with
 | nil=>rfl
 | cons p l a=>
  have e:AG (.tup [kav p.1,p.2])=some (val p.1):=hk p.1
  show((AV.tup [kav p.1,p.2]) :: cF kav l).mapM AG=_
  rw[ny,e,a]
  rfl
include h hk ht
theorem As{z:AV}(d:ff P et=some z){g:da}{r:Ref}{l:List (K × AV)}(f:g r=some (bj (cF kav l)))(k:K)(ok:Bool) :
 eU P g t (some (.mp r)) (some (kav k)) ok=some ((if ok then .tup [(bT k l).getD z,.v (.bool (bT k l).isSome)] else (bT k l).getD z),[]):=by
 unfold eU
 simp only[ht,fH,hk,vd f,DY hk,Aw h,d,Option.map_some]
 have b:=DZ k l
 cases c:vJ k (l.map Prod.fst) 0 with
 | none=>
  rw[c]at b
  rw[<-b]
  rfl
 | some i=>
  rw[c]at b
  dsimp only at b ⊢
  have a:(l.map Prod.fst)[i]?=some k:=C0 k _ i c
  rw[oS]at a
  cases hp:l[i]? with
  | none=>rw[hp]at a;cases a
  | some p=>
   rw[hp]at b
   have e:(cF kav l)[i]?=some (.tup [kav p.1,p.2]):=by unfold cF;rw[oS,hp];rfl
   rw[e,<-b]
   rfl
theorem uQ{H:ai}{r:Ref}{l:List (K × AV)}(d:H.get r=some (bj (cF kav l)))(k:K)(x:AV) :
 dQ P H t (some (.mp r)) (some (kav k)) (some x)=some (AV.undef,H.put r (some (bj (cF kav (jq k x l))))):=by
 unfold dQ
 simp only[ht,hk,vd d,DY hk,Aw h]
 have a:=CZ k x l
 cases b:vJ k (l.map Prod.fst) 0 with
 | none=>
  rw[b]at a
  dsimp only at a ⊢
  rw[<-a]
  simp[cF]
 | some i=>
  rw[b]at a
  dsimp only at a ⊢
  have c:(l.map Prod.fst)[i]?=some k:=C0 k _ i b
  have e:((l.map Prod.fst).map val)[i]?=some (val k):=by rw[oS,c];rfl
  rw[e]
  simp only[Option.map_some,h.bits,if_true]
  rw[<-a]
  simp[cF,FB]
theorem Bp{z:AV}(m:ff P et=some z){H:ai}{r:Ref}{l:List (K × AV)}(n:H.get r=some (bj (cF kav l)))(k:K) :
 ∃i g,iO P H t (some (.mp r)) (some (kav k))=some (.tup [(bT k l).getD z,.v (.int .i64 (i:Nat))],H.put r (some (bj (cF kav g))))/\(∃x0,g[i]?=some (k,x0)) /\∀x,g.set i (k,x)=jq k x l:=by
 unfold iO
 simp only[ht,hk,vd n,DY hk,Aw h]
 have b:=DZ k l
 cases d:vJ k (l.map Prod.fst) 0 with
 | none=>
  rw[d]at b
  dsimp only at b ⊢
  refine⟨l.length,l++[(k,z)],?_,⟨z,by simp⟩,λx=>?_⟩
  ·rw[<-b,m]
   simp[cF]
  ·have c:=CZ k x l
   rw[d]at c
   dsimp only at c
   rw[<-c]
   simp
 | some i=>
  rw[d]at b
  dsimp only at b ⊢
  have a:(l.map Prod.fst)[i]?=some k:=C0 k _ i d
  have e:((l.map Prod.fst).map val)[i]?=some (val k):=by rw[oS,a];rfl
  rw[oS]at a
  cases hp:l[i]? with
  | none=>rw[hp]at a;cases a
  | some p=>
   rw[hp]at b a
   simp only[Option.map_some,dW]at a b
   have j:(cF kav l)[i]?=some (.tup [kav p.1,p.2]):=by unfold cF;rw[oS,hp];rfl
   refine⟨i,l.set i (k,p.2),?_,⟨p.2,?_⟩,λx=>?_⟩
   ·rw[e,j,<-b]
    simp only[Option.map_some,h.bits,if_true,fH,Hb]
    simp[cF,FB]
   ·have f:i<l.length:=by
     rcases fm i l.length with h | h
     ·exact h
     ·rw[zI h]at hp;cases hp
    simp[f]
   ·have c:=CZ k x l
    rw[d]at c
    dsimp only at c
    rw[<-c]
    simp
omit h hk ht in
theorem zJ{H:ai}{r:Ref}{l:List (K × AV)}(c:H.get r=some (bj (cF kav l))){i:Nat}{k:K}{x0:AV}(a:l[i]?=some (k,x0))(b:IntKind)(x:AV) :
 fE H (some (.mp r)) (some (.v (.int b (i:Nat)))) (some x)=some (AV.undef,H.put r (some (bj (cF kav (l.set i (k,x)))))):=by
 unfold fE
 have e:(cF kav l)[i]?=some (.tup [kav k,x0]):=by unfold cF;rw[oS,a];rfl
 simp only[vd c]
 rw[if_pos (by omega)]
 simp only[Nx,e]
 simp[cF,FB]
end
end Go.Ab
namespace Go.Ab
def bad(b:Bool):Int:=if b then 0 else 8
@[simp] theorem ae2(b:Bool):bad b=0↔b=true:=by cases b<;>simp[bad]
@[simp] theorem ae3:bad true=0:=id rfl
@[simp] theorem acw:bad false=8:=id rfl
structure sj where
 lv:UInt8
 cats:UInt32
 num:UInt8
deriving DecidableEq
structure bV where
 h:sj
 n:Int
deriving DecidableEq
structure vE where
 f:bV
 many:Int
deriving DecidableEq
def gU(h:sj):Bool:=decide (h.lv<=15)&&decide (h.num<8)
def D2(i:bV):Bool:=gU i.h&&(decide (1<=i.n)&&decide (i.n<=1099511627776))
def eP(s:vE):Bool:=D2 s.f&&(decide (1<=s.many)&&(decide (s.many<=64)&&decide (s.f.n+s.many - 1<=1099511627776)))
theorem I3{i:bV}(h:D2 i=true):1<=i.n/\i.n<=1099511627776:=by
 simp[D2]at h;exact h.2
theorem gz{s:vE}(h:eP s=true):1<=s.f.n/\1<=s.many/\s.many<=64/\s.f.n+s.many - 1<=1099511627776:=by
 simp[eP]at h
 have:=I3 h.1
 exact⟨this.1,h.2.1,h.2.2.1,h.2.2.2⟩
theorem S1{s:vE}(h:eP s=true):D2 s.f=true:=by
 simp[eP]at h;exact h.1
def zO(i:bV)(n:Int):bV:=⟨i.h,i.n+n⟩
def qX:bV:=⟨⟨0,0,0⟩,0⟩
def aR(n:Int):AV := .v (.int .i32 n)
def rows(l:List Int):List AV:=l.map aR
@[simp] theorem adK(l:List Int):(rows l).length=l.length:=by simp[rows]
@[simp] theorem WB(l:List Int):rows l=[]↔l=[]:=by simp[rows]
def oY(n:Int):Bool:=decide (n = -1)||(decide (0<=n)&&decide (n<55296))||(decide (57343<n)&&decide (n<=1114111))
def JX(l:List Int):Bool:=decide (l.length<=64)&&l.all oY
def Bg(l:List Int):Int:=if 64<l.length then 4 else if l.all oY then 0 else 8
@[simp] theorem ad4(n:Int):(aR n).cells=[aR n]:=id rfl
@[simp] theorem ahN(n:Int):(aR n).one=true:=id rfl
@[simp] theorem aff(g:da)(k:Nat)(n:Int):view g (k+1) (aR n)=some (aR n):=id rfl
structure Rn where
 s:vE
 a:bV
 l:List Int
deriving DecidableEq
def xM(r:Rn):Bool:=eP r.s&&((decide (r.a=qX)||(D2 r.a&&decide (r.a.n<r.s.f.n)))&&(decide ((r.l.length:Int)=r.s.many)&&JX r.l))
theorem A2(l:List Int):Bg l=0↔JX l=true:=by
 unfold Bg JX
 by_cases h:64<l.length
 ·simp[h,Nat.not_le.2 h]
 ·have a:l.length<=64:=Fx.1 h
  rw[if_neg h]
  cases l.all oY<;>simp[a]
@[simp] theorem Yd(l:List Int)(i n:Nat):bX (rows l) i 0 n false=(l[i]?).map aR:=by
 unfold bX rows
 rw[oS]
 cases l[i]?<;>rfl
end Go.Ab
namespace Go.Proofs.YtmkmimgokagimaaGreat
open Go.Ab
def fns:List FuncId:=[4,5,7,8,10,11,12,13,14,15,17,19,21,22,23,24,25,26,27,28,29,30,31,32,33,34,35,42,43,44,45,46,47,49,52,55,56,57,58,59,60,61,62,63,64,65,66,68,69,70,71,72,73,74,75,76,77,78,80,81,82,83,84,85,86,87,88,89,90,91,92,93,94,95,96,97,98,99,100,101,102,103,104,105,106,107,108,109,110,111,112,113,114,115,116,117,118,119,120,121,122,123,124,125,126,127,130,131,132,133,134,135,136,137,138,139,140,141,142,143,144,145,146,147,148,149,150,151,152,153,154,155,156,157,158,159,160,161,162,163,164,165,166,167,168,169,170,171,172,173,174,175,176,177,178,179,180,181,182,183,184,185,186,187,188,189,190,191,192,193,194,195,196,197,198,199,200,201,202,203,204,205,206,207,208,209,210,211,212,213,214,215,216,217,218,219,220,221,222,223,224,225,226,227,228,229,230,231,232,233,234,235,236,237,238,239,240,241,242,243,244,245,246,247,248,249,250,251]
def cr:List FuncId:=[84,160,162,173,204,205,206,209,225]
def ld:List FuncId:=[64,65,69,71,72,75,77,81,83,87,88,90,92,95,97,98,100,145,146,147,148,149,150,151,153,172,193,218,219,220,230,232,233,234,241,242,250]
def CR:List (FuncId × List AV × AV):=[(36,[],.v (.bool true))]
noncomputable def env:Env:=BB Tryz.prog fns cr ld (Ld [(19,13,18),(16,1,77777),(55,1,88888),(35,147,88889),(55,72,88889),(10,48,88889),(10,50,88889),(7,5,66666),(20,160,88889)]) (Al [(15,12,0,[(20,23)]),(52,10,0,[(56,58)]),(25,34,4,[(44,43)]),(6,21,0,[(16,4),(20,4),(17,4)]),(58,23,0,[(71,61),(4,61),(5,61),(5,68)]),(7,6,0,[(3,5)]),(64,16,17,[(5,66),(66,7)]),(143,16,25,[(5,145),(145,7),(145,9)])]) (SY [(19,13,18),(16,1,77777),(55,1,88888),(35,147,88889),(55,72,88889),(10,48,88889),(10,50,88889),(7,5,66666),(20,160,88889)]) CR (λ_=>false) (λ_=>none) (λ_ _ _=>none) Mz
@[simp] noncomputable def an(h:ai)(n:Nat)(v:AV)(k:AV->Prop):Prop:=iZ (tD env.P (ai.get h) n (some v)) k
@[simp] noncomputable def bt(b:Bool)(h:ai)(n n2:Nat)(a:List AV)(k:AV->ai->Prop):Prop:=m4 (bJ env b (aF env) (cg env 0) h (Ref.mk 0 n (ai.gen h 0 n) 0) (some (AV.fn (Fn.func n2) [] [])) a) k
@[simp] noncomputable def bu(h:ai)(n n2:Nat)(v:AV)(k:AV->ai->Prop):Prop:=m4 (mQ h (Ref.mk 0 n (ai.gen h 0 n) 0) (J4 env.P (Ref.mk 0 n (ai.gen h 0 n) 0) n2 (some v))) k
@[simp] noncomputable def ar(n:Nat)(v:AV)(n2:Nat)(k:AV->Prop):Prop:=iZ (jM env.P n (some v) n2) k
@[simp] noncomputable def eD(n n2:Nat)(i:Int)(v:AV)(k:AV->Prop):Prop:=iZ (cf env.P .add n (Operand.tmp n2) (Operand.const (Value.int IntKind.i64 i)) (some v) (some (AV.v (Value.int IntKind.i64 i)))) k
@[simp] noncomputable def bA(v a:AV)(k:AV->Prop):Prop:=iZ (At (some v) (some a) (some (AV.v (Value.bool false)))) k
@[simp] noncomputable def az(h:ai)(n:Nat)(v:AV):=tD env.P (ai.get h) n (some v)
@[simp] noncomputable def eN(b:Bool)(h:ai)(n n2:Nat)(a:List AV):=bJ env b (aF env) (cg env 0) h (Ref.mk 0 n (ai.gen h 0 n) 0) (some (AV.fn (Fn.func n2) [] [])) a
@[simp] noncomputable def aA(n:Nat)(v:AV)(n2:Nat):=jM env.P n (some v) n2
@[simp] noncomputable def eW(h:ai)(n n2:Nat)(v:AV)(k:AV->Prop):Prop:=iZ (cO env.P false (ai.get h) (Ref.mk 0 n (ai.gen h 0 n) 0) .len #[n2] [v]) k
@[simp] noncomputable def dE(h:ai)(n n2:Nat)(k:AV->ai->Prop):Prop:=m4 (mQ h (Ref.mk 0 n (ai.gen h 0 n) 0) (wV env.P (Ref.mk 0 n (ai.gen h 0 n) 0) n2)) k
@[simp] noncomputable def aN(h:ai)(n:Nat)(v a:AV)(k:AV->ai->Prop):Prop:=m4 (nT env.P h n (some v) (some a)) k
@[simp] noncomputable def bK(h:ai)(n:Nat)(v a:AV)(k:AV->Prop):Prop:=iZ (eg env.P (ai.get h) n (some v) (some a)) k
@[simp] noncomputable def lf(n n2:Nat)(i:Int)(v:AV)(k:AV->Prop):Prop:=iZ (cf env.P .neq n (Operand.tmp n2) (Operand.const (Value.int IntKind.i64 i)) (some v) (some (AV.v (Value.int IntKind.i64 i)))) k
@[simp] noncomputable def lX(h:ai)(n n2 a:Nat)(v:AV)(k:AV->ai->Prop):Prop:=m4 (mQ h (Ref.mk (n+1) n2 (ai.gen h (n+1) n2) 0) (J4 env.P (Ref.mk (n+1) n2 (ai.gen h (n+1) n2) 0) a (some v))) k
@[simp] noncomputable def dD(n n2 a:Nat)(v b:AV)(k:AV->Prop):Prop:=iZ (cf env.P .lss n (Operand.tmp n2) (Operand.tmp a) (some v) (some b)) k
@[simp] noncomputable def dO(v a:AV)(k:AV->Prop):Prop:=iZ (At (some v) (some (AV.v (Value.bool true))) (some a)) k
@[simp] noncomputable def pe(h:ai)(n n2 a:Nat)(k:AV->ai->Prop):Prop:=m4 (mQ h (Ref.mk (n+1) n2 (ai.gen h (n+1) n2) 0) (wV env.P (Ref.mk (n+1) n2 (ai.gen h (n+1) n2) 0) a)) k
@[simp] noncomputable def fK(n n2 a:Nat)(v b:AV):=cf env.P .eql n (Operand.tmp n2) (Operand.tmp a) (some v) (some b)
@[simp] noncomputable def ba(v:AV)(n:Nat)(k:AV->Prop):Prop:=iZ (tE (some v) n) k
@[simp] noncomputable def qW(n n2:Nat)(i:Int)(v:AV):=cf env.P .eql n (Operand.tmp n2) (Operand.const (Value.int IntKind.i64 i)) (some v) (some (AV.v (Value.int IntKind.i64 i)))
@[simp] noncomputable def mG(h:ai)(n n2 a:Nat)(v b:AV)(k:AV->ai->Prop):Prop:=m4 (ju env.P true h (Ref.mk 0 n (ai.gen h 0 n) 0) (some n2) (some a) v b) k
@[simp] noncomputable def vP(n n2:Nat)(i:Int)(v:AV)(k:AV->Prop):Prop:=iZ (cf env.P .geq n (Operand.tmp n2) (Operand.const (Value.int IntKind.i64 i)) (some v) (some (AV.v (Value.int IntKind.i64 i)))) k
@[simp] noncomputable def vO(n n2:Nat)(i:Int)(v:AV):=cf env.P .geq n (Operand.tmp n2) (Operand.const (Value.int IntKind.i64 i)) (some v) (some (AV.v (Value.int IntKind.i64 i)))
@[simp] noncomputable def zC(n n2:Nat)(i:Int)(v:AV)(k:AV->Prop):Prop:=iZ (cf env.P .eql n (Operand.tmp n2) (Operand.const (Value.int IntKind.i64 i)) (some v) (some (AV.v (Value.int IntKind.i64 i)))) k
@[simp] noncomputable def zB(n n2:Nat)(i:Int)(v:AV):=cf env.P .leq n (Operand.tmp n2) (Operand.const (Value.int IntKind.i64 i)) (some v) (some (AV.v (Value.int IntKind.i64 i)))
@[simp] noncomputable def zA(n n2:Nat)(i:Int)(v:AV):=cf env.P .gtr n (Operand.tmp n2) (Operand.const (Value.int IntKind.i64 i)) (some v) (some (AV.v (Value.int IntKind.i64 i)))
@[simp] noncomputable def qm(h:ai)(n n2 a:Nat)(v:AV)(k:AV->Prop):Prop:=iZ (gl env.P (ai.get h) (Ref.mk 0 n (ai.gen h 0 n) 0) n2 a (some v)) k
@[simp] noncomputable def ql(n n2 a:Nat)(v b:AV)(k:AV->Prop):Prop:=iZ (cf env.P .eql n (Operand.tmp n2) (Operand.tmp a) (some v) (some b)) k
@[simp] noncomputable def qj(n n2 a:Nat)(v b:AV)(k:AV->Prop):Prop:=iZ (cf env.P .add n (Operand.tmp n2) (Operand.tmp a) (some v) (some b)) k
@[simp] noncomputable def tn(h:ai)(n n2 b a:Nat)(v:AV)(k:AV->ai->Prop):Prop:=m4 (pJ env.P false true h (Ref.mk 0 n (ai.gen h 0 n) 0) n2 b (some [(a,v)])) k
@[simp] noncomputable def uM(n n2:Nat)(v:AV)(k:AV->Prop):Prop:=iZ (cf env.P .eql n (Operand.tmp n2) (.const (.int .u8 2)) (some v) (some (a8 2))) k
@[simp] noncomputable def Ca(n n2:Nat)(i:Int)(v:AV)(k:AV->Prop):Prop:=iZ (cf env.P .gtr n (Operand.tmp n2) (Operand.const (Value.int IntKind.i64 i)) (some v) (some (AV.v (Value.int IntKind.i64 i)))) k
@[simp] noncomputable def uL(h:ai)(n n2:Nat)(v:AV):=cO env.P false (ai.get h) (Ref.mk 0 n (ai.gen h 0 n) 0) .len #[n2] [v]
@[simp] noncomputable def B9(n n2:Nat)(i:Int)(v:AV):=cf env.P .lss n (Operand.tmp n2) (Operand.const (Value.int IntKind.i64 i)) (some v) (some (AV.v (Value.int IntKind.i64 i)))
@[simp] noncomputable def dN(h:ai)(v:AV)(n:Nat)(k:AV->Prop):Prop:=iZ (Ar env.P h v n) k
@[simp] noncomputable def xc(n n2:Nat)(v:AV)(k:AV->Prop):Prop:=iZ (cf env.P .eql n (Operand.tmp n2) (.const (.int .u8 1)) (some v) (some (a8 1))) k
@[simp] noncomputable def gH(v:AV)(k:AV->Prop):Prop:=iZ (Ye env.P .not (some v)) k
@[simp] noncomputable def aZ(v:AV):=jQ (some v)
@[simp] noncomputable def vN(n n2 a:Nat)(v b:AV)(k:AV->Prop):Prop:=iZ (cf env.P .neq n (Operand.tmp n2) (Operand.tmp a) (some v) (some b)) k
@[simp] noncomputable def Fl(n n2:Nat)(i:Int)(v:AV)(k:AV->Prop):Prop:=iZ (cf env.P .lss n (Operand.tmp n2) (Operand.const (Value.int IntKind.i64 i)) (some v) (some (AV.v (Value.int IntKind.i64 i)))) k
@[simp] noncomputable def Fk(n n2:Nat)(i:Int)(v:AV)(k:AV->Prop):Prop:=iZ (cf env.P .sub n (Operand.tmp n2) (Operand.const (Value.int IntKind.i64 i)) (some v) (some (AV.v (Value.int IntKind.i64 i)))) k
@[simp] noncomputable def Fj(n n2:Nat)(i:Int)(v:AV):=cf env.P .neq n (Operand.tmp n2) (Operand.const (Value.int IntKind.i64 i)) (some v) (some (AV.v (Value.int IntKind.i64 i)))
@[simp] noncomputable def qi(h:ai)(n:Nat)(v a:AV):=eg env.P (ai.get h) n (some v) (some a)
@[simp] noncomputable def KI(n:Nat)(h:ai)(n2:Nat)(v a:AV)(k:AV->ai->Prop):Prop:=m4 (bJ env true (aF env) (cg env (n+1)) h (Ref.mk (n+1) n2 (ai.gen h (n+1) n2) 0) (some (.fn (.func 100) [] [])) [v,a]) k
@[simp] noncomputable def Fi(h:ai)(n n2 a:Nat)(v:AV)(k:AV->Prop):Prop:=iZ (cO env.P false (ai.get h) (Ref.mk (n+1) n2 (ai.gen h (n+1) n2) 0) .len #[a] [v]) k
@[simp] noncomputable def Im(n:Nat)(h:ai)(n2:Nat)(v a:AV)(k:AV->ai->Prop):Prop:=m4 (bJ env true (aF env) (cg env (n+1)) h (Ref.mk (n+1) n2 (ai.gen h (n+1) n2) 0) (some v) [a]) k
@[simp] noncomputable def zy(h:ai)(n:Nat)(v a:AV)(k:AV->Prop):Prop:=iZ (eU env.P (ai.get h) n (some v) (some a) false) k
@[simp] noncomputable def oR(n:Nat)(k:AV->Prop):Prop:=iZ (mP env.P n (some [])) k
@[simp] noncomputable def iX(v:AV)(k:AV->Prop):Prop:=iZ (LL (some v)) k
@[simp] noncomputable def Fh(n n2:Nat)(v:AV)(k:AV->Prop):Prop:=iZ (cf env.P .eql n (Operand.tmp n2) (.const (.int .u8 3)) (some v) (some (a8 3))) k
@[simp] noncomputable def Fg(h:ai)(n:Nat)(v a:AV)(k:AV->Prop):Prop:=iZ (iQ env.P (ai.get h) n (some v) (some none) (oi a) (some none)) k
@[simp] noncomputable def KH(h:ai)(n:Nat)(v a:AV)(k:AV->ai->Prop):Prop:=m4 (bJ env true (aF env) (cg env 0) h (Ref.mk 0 n (ai.gen h 0 n) 0) (some v) [a]) k
@[simp] noncomputable def SA(h:ai)(n n2:Nat)(k:AV->ai->Prop):Prop:=m4 (mQ h (Ref.mk (n+1) n2 (ai.gen h (n+1) n2) 0) (some (.mp (Ref.mk (n+1) n2 (ai.gen h (n+1) n2) 0),[bj []]))) k
@[simp] noncomputable def KG(h:ai)(n n2 a:Nat)(v b:AV)(k:AV->Prop):Prop:=iZ (cO env.P true (ai.get h) (Ref.mk 0 n (ai.gen h 0 n) 0) .max #[n2,a] [v,b]) k
@[simp] noncomputable def Ff(n n2 a:Nat)(v b:AV):=cf env.P .lss n (Operand.tmp n2) (Operand.tmp a) (some v) (some b)
@[simp] noncomputable def Sz(n n2:Nat)(i:Int)(v:AV)(k:AV->Prop):Prop:=iZ (cf env.P .leq n (Operand.tmp n2) (Operand.const (Value.int IntKind.i64 i)) (some v) (some (AV.v (Value.int IntKind.i64 i)))) k
@[simp] noncomputable def Sy(n:Nat)(i:Int)(n2:Nat)(v:AV)(k:AV->Prop):Prop:=iZ (cf env.P .mul n (Operand.const (Value.int IntKind.i64 i)) (Operand.tmp n2) (some (AV.v (Value.int IntKind.i64 i))) (some v)) k
@[simp] noncomputable def qh(v:AV):=Ye env.P .not (some v)
@[simp] noncomputable def Sx(n n2:Nat)(i:Int)(v:AV):=cf env.P .sub n (Operand.tmp n2) (Operand.const (Value.int IntKind.i64 i)) (some v) (some (AV.v (Value.int IntKind.i64 i)))
@[simp] noncomputable def Il(n n2 a:Nat)(v b:AV):=cf env.P .neq n (Operand.tmp n2) (Operand.tmp a) (some v) (some b)
@[simp] noncomputable def Sw(n:Nat)(h:ai)(n2:Nat)(v a b:AV)(k:AV->ai->Prop):Prop:=m4 (bJ env true (aF env) (cg env (n+1)) h (Ref.mk (n+1) n2 (ai.gen h (n+1) n2) 0) (some v) [a,b]) k
@[simp] noncomputable def KF(n n2 a:Nat)(v b:AV)(k:AV->Prop):Prop:=iZ (cf env.P .sub n (Operand.tmp n2) (Operand.tmp a) (some v) (some b)) k
@[simp] noncomputable def Pz(h:ai)(n n2:Nat)(v:AV)(k:AV->Prop):Prop:=iZ (cO env.P false (ai.get h) (Ref.mk 0 n (ai.gen h 0 n) 0) .cap #[n2] [v]) k
@[simp] noncomputable def Ik(v a:AV):=At (some v) (some a) (some (AV.v (Value.bool false)))
@[simp] noncomputable def Sv(n n2:Nat)(v:AV)(k:AV->Prop):Prop:=iZ (cf env.P .eql n (Operand.tmp n2) (.const (.slice none 0 0)) (some v) (some (.v (.slice none 0 0)))) k
@[simp] noncomputable def Py(n n2:Nat)(v:AV):=cf env.P .eql n (Operand.tmp n2) (.const (.int .u8 1)) (some v) (some (a8 1))
@[simp] noncomputable def Su(n n2:Nat)(v:AV)(k:AV->Prop):Prop:=iZ (cf env.P .shr n (Operand.tmp n2) (.const (.int .u64 8)) (some v) (some (.v (.int .u64 8)))) k
@[simp] noncomputable def XY(n:Nat)(h:ai)(n2:Nat)(v a:AV)(k:AV->ai->Prop):Prop:=m4 (bJ env false (aF env) (cg env (n+1)) h (Ref.mk (n+1) n2 (ai.gen h (n+1) n2) 0) (some (.fn (.func 152) [] [])) [v,a]) k
@[simp] noncomputable def XX(n:Nat)(h:ai)(n2:Nat)(v a:AV)(k:AV->ai->Prop):Prop:=m4 (bJ env false (aF env) (cg env (n+1)) h (Ref.mk (n+1) n2 (ai.gen h (n+1) n2) 0) (some (.fn (.func 44) [] [])) [v,a]) k
@[simp] noncomputable def XW(n:Nat)(h:ai)(n2:Nat)(v a:AV)(k:AV->ai->Prop):Prop:=m4 (bJ env true (aF env) (cg env (n+1)) h (Ref.mk (n+1) n2 (ai.gen h (n+1) n2) 0) (some (.fn (.func 146) [] [])) [v,a]) k
@[simp] noncomputable def XV(n n2:Nat)(i:Int)(v:AV)(k:AV->Prop):Prop:=iZ (cf env.P .mul n (Operand.tmp n2) (Operand.const (Value.int IntKind.i64 i)) (some v) (some (AV.v (Value.int IntKind.i64 i)))) k
@[simp] noncomputable def XU(n:Nat)(h:ai)(n2:Nat)(v a:AV)(k:AV->ai->Prop):Prop:=m4 (bJ env true (aF env) (cg env (n+1)) h (Ref.mk (n+1) n2 (ai.gen h (n+1) n2) 0) (some (.fn (.func 234) [] [])) [v,a]) k
@[simp] noncomputable def XT(n:Nat)(h:ai)(n2:Nat)(v:AV)(k:AV->ai->Prop):Prop:=m4 (bJ env true (aF env) (cg env (n+1)) h (Ref.mk (n+1) n2 (ai.gen h (n+1) n2) 0) (some (.fn (.func 213) [] [])) [v]) k
@[simp] noncomputable def Ss(h:ai)(n n2 c a b:Nat)(v:AV)(k:AV->ai->Prop):Prop:=m4 (pJ env.P true false h (Ref.mk (n+1) n2 (ai.gen h (n+1) n2) 0) c a (some [(b,v)])) k
@[simp] noncomputable def Sr(h:ai)(n n2 b a:Nat)(v c:AV)(k:AV->ai->Prop):Prop:=m4 (ju env.P true h (Ref.mk (n+1) n2 (ai.gen h (n+1) n2) 0) (some b) (some a) v c) k
@[simp] noncomputable def KE(v a:AV):=At (some v) (some (AV.v (Value.bool true))) (some a)
@[simp] noncomputable def XS(n n2:Nat)(i:Int)(v:AV):=cf env.P .add n (Operand.tmp n2) (Operand.const (Value.int IntKind.i64 i)) (some v) (some (AV.v (Value.int IntKind.i64 i)))
@[simp] noncomputable def Ek(n n2:Nat)(v:AV)(k:AV->Prop):Prop:=iZ (mP env.P n (some [(n2,v)])) k
@[simp] noncomputable def Px(n n2 a:Nat)(v b:AV):=cf env.P .add n (Operand.tmp n2) (Operand.tmp a) (some v) (some b)
@[simp] noncomputable def Pw(n n2 a:Nat)(v b:AV):=cf env.P .geq n (Operand.tmp n2) (Operand.tmp a) (some v) (some b)
@[simp] noncomputable def Ij(h:ai)(v a b:AV)(k:AV->ai->Prop):Prop:=m4 (fE h (some v) (some a) (some b)) k
@[simp] noncomputable def Sq(h:ai)(n n2 b a:Nat)(v:AV)(k:AV->ai->Prop):Prop:=m4 (pJ env.P true false h (Ref.mk 0 n (ai.gen h 0 n) 0) n2 b (some [(a,v)])) k
@[simp] noncomputable def Sp(h:ai)(n n2 a:Nat)(k:AV->ai->Prop):Prop:=m4 (pJ env.P false true h (Ref.mk 0 n (ai.gen h 0 n) 0) n2 a (some [])) k
@[simp] noncomputable def Ii(h:ai)(n:Nat)(v a:AV)(k:AV->ai->Prop):Prop:=m4 (iO env.P h n (some v) (some a)) k
@[simp] noncomputable def XR(n n2:Nat)(v:AV)(k:AV->Prop):Prop:=iZ (cf env.P .neq n (Operand.tmp n2) (.const (.int .i32 (-1))) (some v) (some (.v (.int .i32 (-1))))) k
@[simp] noncomputable def XQ(n n2:Nat)(v:AV)(k:AV->Prop):Prop:=iZ (cf env.P .shr n (Operand.tmp n2) (.const (.int .u64 16)) (some v) (some (.v (.int .u64 16)))) k
@[simp] noncomputable def KD(n n2:Nat)(v:AV)(b:Nat)(c:AV)(a:Nat)(d:AV)(k:AV->Prop):Prop:=iZ (mP env.P n (some [(n2,v),(b,c),(a,d)])) k
@[simp] noncomputable def XP(h:ai)(n n2 a:Nat)(v:AV):=cO env.P false (ai.get h) (Ref.mk (n+1) n2 (ai.gen h (n+1) n2) 0) .len #[a] [v]
@[simp] noncomputable def So(n n2 a:Nat)(v b:AV):=cf env.P .gtr n (Operand.tmp n2) (Operand.tmp a) (some v) (some b)
@[simp] noncomputable def B8(n:Nat)(v:AV)(n2:Nat):=tT env.P n (some v) n2
@[simp] noncomputable def Pv(n:Nat):=mP env.P n (some [])
def ad1:Nat->Option (List Nat):=λ_=>none
def R4:Nat->Bool:=λ_=>false
abbrev dB:=Nat->AV
abbrev bdF(f:Func):Code:=f.body.getD .skip
noncomputable abbrev tf(f:Func)(n:Nat):List Item:=(pH n 400 [.code (bdF f)]).getD []
abbrev dq(f:Func)(d:Nat)(l:List (Nat × AV))(H:ai)(Q:AV->ai->Prop):Prop:=bN env f d [.code (bdF f)] l H Q
theorem ga{P:(Nat->AV)->Prop}{f:Func}{d:Nat}{l:List (Nat × AV)}{H:ai}{Q:AV->ai->Prop}(e:P=λg=>wp env f none d ad1 R4 Q 500 [.code (bdF f)] (OL g l) H)(h : ∀g,P g):dq f d l H Q:=⟨λg=>KP (live:=ad1) (cut:=R4) (n:=500) (Eq.mp (congrFun e g) (h g))⟩
theorem vD(v:Nat->Option (List Nat)){P:(Nat->AV)->Prop}{f:Func}{d:Nat}{l:List (Nat × AV)}{H:ai}{Q:AV->ai->Prop}(e:P=λg=>wp env f none d v R4 Q 500 [.code (bdF f)] (OL g l) H)(h : ∀g,P g):dq f d l H Q:=⟨λg=>KP (live:=v) (cut:=R4) (n:=500) (Eq.mp (congrFun e g) (h g))⟩
theorem s8(v:Nat->Option (List Nat)){P:(Nat->AV)->Prop}{f:Func}{d:Nat}{b:List Item}{l:List (Nat × AV)}{H:ai}{Q:AV->ai->Prop}(e:P=λg=>wp env f none d v R4 Q 500 (Pl b) (OL g l) H)(h : ∀g,P g):bN env f d b l H Q:=U0 λg=>KP (live:=v) (cut:=R4) (n:=500) (Eq.mp (congrFun e g) (h g))
theorem aG{f:FuncId}{fn:Func}{args:List AV}{y:AV}(i:env.spec f args=none)(e:(env.allowed f,env.P.funcs[f]?,fn.body.isSome,Nat.ble args.length fn.ntmps)=(true,some fn,true,true))(h:dq fn 0 (rL 0 args) [] λx H=>handed env f x H y):aF env f args=some y:=by
 injection e with g e
 injection e with d e
 injection e with b j
 cases a:fn.body with
 | none=>rw[a]at b;cases b
 | some c=>
  unfold dq bdF at h
  rw[a]at h
  exact W8 i g d a j h
theorem O8:MD env fns=true:=by kernel_rfl
@[simp] theorem ahp{f:FuncId}(h:ld.contains f=false):(env.mode f == 2)=false:=by
 show((if cr.contains f then (if ld.contains f then 3 else 1) else if ld.contains f then 2 else 0) == 2)=false
 rw[h]
 split<;>rfl
@[simp] theorem af9{f:FuncId}(h:ld.contains f=false):(env.mode f == 3)=false:=by
 show((if cr.contains f then (if ld.contains f then 3 else 1) else if ld.contains f then 2 else 0) == 3)=false
 rw[h]
 split<;>rfl
theorem ad0{f:FuncId}(h:cr.contains f=false):Az (env.mode f)=false:=by
 show Az (if cr.contains f then (if ld.contains f then 3 else 1) else if ld.contains f then 2 else 0)=false
 rw[h]
 cases ld.contains f<;>rfl
@[simp] theorem Xf{f:FuncId}(h:cr.contains f=false)(x:AV)(H:ai)(y:AV):handed env f x H y↔view H.get depth x=some y:=RR (ad0 h) x H y
theorem adZ{f:FuncId}(h:cr.contains f=true):Az (env.mode f)=true:=by
 show Az (if cr.contains f then (if ld.contains f then 3 else 1) else if ld.contains f then 2 else 0)=true
 rw[h]
 cases ld.contains f<;>rfl
@[simp] theorem agh{f:FuncId}(h:cr.contains f=true)(x:AV)(H:ai)(y:AV):handed env f x H y↔(ay H.get depth x).Nodup/\dM H.get depth x=some y:=Mx (adZ h) x H y
@[simp] theorem afn:aL env.P 3=(some 1):=by kernel_rfl
@[simp] theorem ag8:dI env.P 3=(some false):=by kernel_rfl
@[simp] theorem age:o3 env.P 3=(some 1):=by kernel_rfl
@[simp] theorem agf:isInt env.P 3=true:=by kernel_rfl
@[simp] theorem ab6:intKind env.P 3=(some .i64):=by kernel_rfl
@[simp] theorem ag4:(env.P.underlying 3).isNone=false:=by kernel_rfl
@[simp] theorem afm:aL env.P 4=(some 1):=by kernel_rfl
@[simp] theorem ag7:dI env.P 4=(some false):=by kernel_rfl
@[simp] theorem agd:o3 env.P 4=(some 0):=by kernel_rfl
@[simp] theorem aek:isBool env.P 4=true:=by kernel_rfl
@[simp] theorem afl:aL env.P 5=(some 1):=by kernel_rfl
@[simp] theorem ag6:dI env.P 5=(some false):=by kernel_rfl
@[simp] theorem agc:o3 env.P 5=(some 1):=by kernel_rfl
@[simp] theorem ab5:intKind env.P 5=(some .u8):=by kernel_rfl
@[simp] theorem ag3:(env.P.underlying 5).isNone=false:=by kernel_rfl
@[simp] theorem SP:aL env.P 21=(some 1):=by kernel_rfl
@[simp] theorem Wh:dI env.P 21=(some false):=by kernel_rfl
@[simp] theorem Z9:intKind env.P 21=(some .i32):=by kernel_rfl
@[simp] theorem afj:(env.P.underlying 21).isNone=false:=by kernel_rfl
@[simp] theorem ac4:aL env.P 22=(some 1):=by kernel_rfl
@[simp] theorem afR:dI env.P 22=(some false):=by kernel_rfl
@[simp] theorem SU:ei env.P 22=(some 58):=by kernel_rfl
@[simp] theorem afC:lx env.P 22=none:=by kernel_rfl
@[simp] theorem aej:isStr env.P 22=false:=by kernel_rfl
@[simp] theorem ahM:HB env.P 22=true:=by kernel_rfl
@[simp] theorem agD:qS env.P 22=true:=by kernel_rfl
@[simp] theorem ahy:nQ env.P 22=3:=by kernel_rfl
@[simp] theorem agI:vl env.P 22=12:=by kernel_rfl
@[simp] theorem acp:kf env.P 22=(.agg [(a8 0),(au 0),(.v (.bool false))]):=by kernel_rfl
@[simp] theorem ac3:aL env.P 23=(some 1):=by kernel_rfl
@[simp] theorem afQ:dI env.P 23=(some false):=by kernel_rfl
@[simp] theorem SS:ei env.P 23=(some 81):=by kernel_rfl
@[simp] theorem afB:lx env.P 23=none:=by kernel_rfl
@[simp] theorem aei:isStr env.P 23=false:=by kernel_rfl
@[simp] theorem ahL:HB env.P 23=true:=by kernel_rfl
@[simp] theorem agC:qS env.P 23=true:=by kernel_rfl
@[simp] theorem ahx:nQ env.P 23=5:=by kernel_rfl
@[simp] theorem agH:vl env.P 23=32:=by kernel_rfl
@[simp] theorem aco:kf env.P 23=(.agg [(a8 0),(au 0),(.v (.int .i64 0)),(.v (.int .i64 0)),(.v (.int .i64 0))]):=by kernel_rfl
@[simp] theorem ac2:aL env.P 25=(some 3):=by kernel_rfl
@[simp] theorem afP:dI env.P 25=(some true):=by kernel_rfl
@[simp] theorem afA:lx env.P 25=none:=by kernel_rfl
@[simp] theorem acP:ff env.P 25=(some (.agg [(.v (.slice none 0 0)),(.v (.slice none 0 0)),(.v (.int .i64 0))])):=by kernel_rfl
@[simp] theorem MO:iJ env.P 25=(some [22,23,3]):=by kernel_rfl
@[simp] theorem abR:placesOf env.P 25=(some [(0,1),(1,1),(2,1)]):=by kernel_rfl
@[simp] theorem YS:aD env.P 25 0=(some (0,1)):=by kernel_rfl
@[simp] theorem YH:aD env.P 25 1=(some (1,1)):=by kernel_rfl
@[simp] theorem Yw:aD env.P 25 2=(some (2,1)):=by kernel_rfl
@[simp] theorem ac1:aL env.P 26=(some 1):=by kernel_rfl
@[simp] theorem afO:dI env.P 26=(some false):=by kernel_rfl
@[simp] theorem SR:ei env.P 26=(some 62):=by kernel_rfl
@[simp] theorem afz:lx env.P 26=none:=by kernel_rfl
@[simp] theorem aeh:isStr env.P 26=false:=by kernel_rfl
@[simp] theorem ahK:HB env.P 26=true:=by kernel_rfl
@[simp] theorem agB:qS env.P 26=true:=by kernel_rfl
@[simp] theorem ahw:nQ env.P 26=24:=by kernel_rfl
@[simp] theorem agG:vl env.P 26=160:=by kernel_rfl
@[simp] theorem acn:kf env.P 26=(.agg [(a8 0),(.v (.int .i64 0)),(a8 0),(a8 0),(au 0),(a8 0),(.v (.int .i64 0)),(a8 0),(au 0),(a8 0),(.v (.int .i64 0)),(.v (.int .i64 0)),(a8 0),(au 0),(a8 0),(.v (.int .i64 0)),(a8 0),(au 0),(.v (.slice none 0 0)),(.v (.int .i64 0)),(.v (.int .i64 0)),(a8 0),(au 0),(.v (.bool false))]):=by kernel_rfl
@[simp] theorem ac0:aL env.P 27=(some 1):=by kernel_rfl
@[simp] theorem afN:dI env.P 27=(some false):=by kernel_rfl
@[simp] theorem aed:o3 env.P 27=(some 1):=by kernel_rfl
@[simp] theorem Z8:intKind env.P 27=(some .u32):=by kernel_rfl
@[simp] theorem afi:(env.P.underlying 27).isNone=false:=by kernel_rfl
@[simp] theorem acZ:aL env.P 29=(some 2):=by kernel_rfl
@[simp] theorem afM:dI env.P 29=(some true):=by kernel_rfl
@[simp] theorem afy:lx env.P 29=none:=by kernel_rfl
@[simp] theorem acO:ff env.P 29=(some (.agg [(a8 0),(au 0)])):=by kernel_rfl
@[simp] theorem aec:o3 env.P 29=none:=by kernel_rfl
@[simp] theorem agq:C4 env.P 29=true:=by kernel_rfl
@[simp] theorem MN:iJ env.P 29=(some [5,27]):=by kernel_rfl
@[simp] theorem abQ:placesOf env.P 29=(some [(0,1),(1,1)]):=by kernel_rfl
@[simp] theorem YR:aD env.P 29 0=(some (0,1)):=by kernel_rfl
@[simp] theorem YG:aD env.P 29 1=(some (1,1)):=by kernel_rfl
@[simp] theorem acY:aL env.P 31=(some 3):=by kernel_rfl
@[simp] theorem afL:dI env.P 31=(some true):=by kernel_rfl
@[simp] theorem afx:lx env.P 31=none:=by kernel_rfl
@[simp] theorem acN:ff env.P 31=(some (.agg [(a8 0),(au 0),(a8 0)])):=by kernel_rfl
@[simp] theorem aeb:o3 env.P 31=none:=by kernel_rfl
@[simp] theorem agp:C4 env.P 31=true:=by kernel_rfl
@[simp] theorem MM:iJ env.P 31=(some [29,5]):=by kernel_rfl
@[simp] theorem abP:placesOf env.P 31=(some [(0,2),(2,1)]):=by kernel_rfl
@[simp] theorem YQ:aD env.P 31 0=(some (0,2)):=by kernel_rfl
@[simp] theorem YF:aD env.P 31 1=(some (2,1)):=by kernel_rfl
@[simp] theorem acX:aL env.P 33=(some 4):=by kernel_rfl
@[simp] theorem afK:dI env.P 33=(some true):=by kernel_rfl
@[simp] theorem afw:lx env.P 33=none:=by kernel_rfl
@[simp] theorem acM:ff env.P 33=(some (.agg [(a8 0),(au 0),(a8 0),(.v (.int .i64 0))])):=by kernel_rfl
@[simp] theorem aea:o3 env.P 33=none:=by kernel_rfl
@[simp] theorem ago:C4 env.P 33=true:=by kernel_rfl
@[simp] theorem ML:iJ env.P 33=(some [31,3]):=by kernel_rfl
@[simp] theorem abO:placesOf env.P 33=(some [(0,3),(3,1)]):=by kernel_rfl
@[simp] theorem YP:aD env.P 33 0=(some (0,3)):=by kernel_rfl
@[simp] theorem YE:aD env.P 33 1=(some (3,1)):=by kernel_rfl
@[simp] theorem acW:aL env.P 35=(some 5):=by kernel_rfl
@[simp] theorem afJ:dI env.P 35=(some true):=by kernel_rfl
@[simp] theorem ad9:o3 env.P 35=none:=by kernel_rfl
@[simp] theorem agn:C4 env.P 35=true:=by kernel_rfl
@[simp] theorem MK:iJ env.P 35=(some [33,3]):=by kernel_rfl
@[simp] theorem YO:aD env.P 35 0=(some (0,4)):=by kernel_rfl
@[simp] theorem YD:aD env.P 35 1=(some (4,1)):=by kernel_rfl
@[simp] theorem acV:aL env.P 36=(some 1):=by kernel_rfl
@[simp] theorem afI:dI env.P 36=(some false):=by kernel_rfl
@[simp] theorem SQ:ei env.P 36=(some 21):=by kernel_rfl
@[simp] theorem afv:lx env.P 36=none:=by kernel_rfl
@[simp] theorem aeg:isStr env.P 36=false:=by kernel_rfl
@[simp] theorem ahJ:HB env.P 36=true:=by kernel_rfl
@[simp] theorem agA:qS env.P 36=true:=by kernel_rfl
@[simp] theorem ahv:nQ env.P 36=1:=by kernel_rfl
@[simp] theorem agF:vl env.P 36=4:=by kernel_rfl
@[simp] theorem acm:kf env.P 36=(.v (.int .i32 0)):=by kernel_rfl
@[simp] theorem acU:aL env.P 38=(some 17):=by kernel_rfl
@[simp] theorem afH:dI env.P 38=(some true):=by kernel_rfl
@[simp] theorem afu:lx env.P 38=none:=by kernel_rfl
@[simp] theorem acL:ff env.P 38=(some (.agg [(a8 0),(a8 0),(au 0),(a8 0),(.v (.int .i64 0)),(a8 0),(au 0),(a8 0),(.v (.int .i64 0)),(.v (.int .i64 0)),(a8 0),(au 0),(a8 0),(.v (.int .i64 0)),(a8 0),(au 0),(.v (.slice none 0 0))])):=by kernel_rfl
@[simp] theorem MJ:iJ env.P 38=(some [5,31,3,35,33,29,36]):=by kernel_rfl
@[simp] theorem abN:placesOf env.P 38=(some [(0,1),(1,3),(4,1),(5,5),(10,4),(14,2),(16,1)]):=by kernel_rfl
@[simp] theorem YN:aD env.P 38 0=(some (0,1)):=by kernel_rfl
@[simp] theorem YC:aD env.P 38 1=(some (1,3)):=by kernel_rfl
@[simp] theorem Yv:aD env.P 38 2=(some (4,1)):=by kernel_rfl
@[simp] theorem Yr:aD env.P 38 3=(some (5,5)):=by kernel_rfl
@[simp] theorem Yo:aD env.P 38 4=(some (10,4)):=by kernel_rfl
@[simp] theorem Ym:aD env.P 38 5=(some (14,2)):=by kernel_rfl
@[simp] theorem Yl:aD env.P 38 6=(some (16,1)):=by kernel_rfl
@[simp] theorem acT:aL env.P 41=(some 1):=by kernel_rfl
@[simp] theorem afG:dI env.P 41=(some false):=by kernel_rfl
@[simp] theorem ac5:ei env.P 41=(some 38):=by kernel_rfl
@[simp] theorem aft:lx env.P 41=none:=by kernel_rfl
@[simp] theorem aef:isStr env.P 41=false:=by kernel_rfl
@[simp] theorem ahI:HB env.P 41=true:=by kernel_rfl
@[simp] theorem agz:qS env.P 41=true:=by kernel_rfl
@[simp] theorem ahu:nQ env.P 41=17:=by kernel_rfl
@[simp] theorem agE:vl env.P 41=112:=by kernel_rfl
@[simp] theorem ack:kf env.P 41=(.agg [(a8 0),(a8 0),(au 0),(a8 0),(.v (.int .i64 0)),(a8 0),(au 0),(a8 0),(.v (.int .i64 0)),(.v (.int .i64 0)),(a8 0),(au 0),(a8 0),(.v (.int .i64 0)),(a8 0),(au 0),(.v (.slice none 0 0))]):=by kernel_rfl
@[simp] theorem acS:aL env.P 42=(some 1):=by kernel_rfl
@[simp] theorem afF:dI env.P 42=(some false):=by kernel_rfl
@[simp] theorem Z7:intKind env.P 42=(some .i64):=by kernel_rfl
@[simp] theorem afh:(env.P.underlying 42).isNone=false:=by kernel_rfl
@[simp] theorem SO:aL env.P 58=(some 3):=by kernel_rfl
@[simp] theorem Wg:dI env.P 58=(some true):=by kernel_rfl
@[simp] theorem acK:ff env.P 58=(some (.agg [(a8 0),(au 0),(.v (.bool false))])):=by kernel_rfl
@[simp] theorem ad8:o3 env.P 58=none:=by kernel_rfl
@[simp] theorem agm:C4 env.P 58=true:=by kernel_rfl
@[simp] theorem EJ:iJ env.P 58=(some [29,4]):=by kernel_rfl
@[simp] theorem YM:aD env.P 58 0=(some (0,2)):=by kernel_rfl
@[simp] theorem YB:aD env.P 58 1=(some (2,1)):=by kernel_rfl
@[simp] theorem acR:aL env.P 60=(some 4):=by kernel_rfl
@[simp] theorem afE:dI env.P 60=(some true):=by kernel_rfl
@[simp] theorem afs:lx env.P 60=none:=by kernel_rfl
@[simp] theorem acJ:ff env.P 60=(some (.agg [(.v (.int .i64 0)),(a8 0),(au 0),(.v (.bool false))])):=by kernel_rfl
@[simp] theorem ad7:o3 env.P 60=none:=by kernel_rfl
@[simp] theorem agl:C4 env.P 60=true:=by kernel_rfl
@[simp] theorem MI:iJ env.P 60=(some [3,58]):=by kernel_rfl
@[simp] theorem abM:placesOf env.P 60=(some [(0,1),(1,3)]):=by kernel_rfl
@[simp] theorem YL:aD env.P 60 0=(some (0,1)):=by kernel_rfl
@[simp] theorem YA:aD env.P 60 1=(some (1,3)):=by kernel_rfl
@[simp] theorem SN:aL env.P 62=(some 24):=by kernel_rfl
@[simp] theorem Wf:dI env.P 62=(some true):=by kernel_rfl
@[simp] theorem afr:lx env.P 62=none:=by kernel_rfl
@[simp] theorem acI:ff env.P 62=(some (.agg [(a8 0),(.v (.int .i64 0)),(a8 0),(a8 0),(au 0),(a8 0),(.v (.int .i64 0)),(a8 0),(au 0),(a8 0),(.v (.int .i64 0)),(.v (.int .i64 0)),(a8 0),(au 0),(a8 0),(.v (.int .i64 0)),(a8 0),(au 0),(.v (.slice none 0 0)),(.v (.int .i64 0)),(.v (.int .i64 0)),(a8 0),(au 0),(.v (.bool false))])):=by kernel_rfl
@[simp] theorem MH:iJ env.P 62=(some [5,3,38,42,60]):=by kernel_rfl
@[simp] theorem abL:placesOf env.P 62=(some [(0,1),(1,1),(2,17),(19,1),(20,4)]):=by kernel_rfl
@[simp] theorem YK:aD env.P 62 0=(some (0,1)):=by kernel_rfl
@[simp] theorem Yz:aD env.P 62 1=(some (1,1)):=by kernel_rfl
@[simp] theorem Yu:aD env.P 62 2=(some (2,17)):=by kernel_rfl
@[simp] theorem Yq:aD env.P 62 3=(some (19,1)):=by kernel_rfl
@[simp] theorem Yn:aD env.P 62 4=(some (20,4)):=by kernel_rfl
@[simp] theorem acQ:aL env.P 73=(some 3):=by kernel_rfl
@[simp] theorem afD:dI env.P 73=(some true):=by kernel_rfl
@[simp] theorem afq:lx env.P 73=none:=by kernel_rfl
@[simp] theorem acH:ff env.P 73=(some (.agg [(.v (.bool false)),(.v (.int .i64 0)),(.v (.int .i64 0))])):=by kernel_rfl
@[simp] theorem ad6:o3 env.P 73=none:=by kernel_rfl
@[simp] theorem agk:C4 env.P 73=true:=by kernel_rfl
@[simp] theorem YV:iJ env.P 73=(some [4,3,3]):=by kernel_rfl
@[simp] theorem abK:placesOf env.P 73=(some [(0,1),(1,1),(2,1)]):=by kernel_rfl
@[simp] theorem X7:oc env.P 73 0=(some (0,4)):=by kernel_rfl
@[simp] theorem YJ:aD env.P 73 0=(some (0,1)):=by kernel_rfl
@[simp] theorem Yy:aD env.P 73 1=(some (1,1)):=by kernel_rfl
@[simp] theorem Yt:aD env.P 73 2=(some (2,1)):=by kernel_rfl
@[simp] theorem SM:aL env.P 81=(some 5):=by kernel_rfl
@[simp] theorem We:dI env.P 81=(some true):=by kernel_rfl
@[simp] theorem afp:lx env.P 81=none:=by kernel_rfl
@[simp] theorem acG:ff env.P 81=(some (.agg [(a8 0),(au 0),(.v (.int .i64 0)),(.v (.int .i64 0)),(.v (.int .i64 0))])):=by kernel_rfl
@[simp] theorem ad5:o3 env.P 81=none:=by kernel_rfl
@[simp] theorem agj:C4 env.P 81=true:=by kernel_rfl
@[simp] theorem MG:iJ env.P 81=(some [29,3,3,3]):=by kernel_rfl
@[simp] theorem abJ:placesOf env.P 81=(some [(0,2),(2,1),(3,1),(4,1)]):=by kernel_rfl
@[simp] theorem YI:aD env.P 81 0=(some (0,2)):=by kernel_rfl
@[simp] theorem X6:oc env.P 81 1=(some (2,3)):=by kernel_rfl
@[simp] theorem Yx:aD env.P 81 1=(some (2,1)):=by kernel_rfl
@[simp] theorem X5:oc env.P 81 2=(some (3,3)):=by kernel_rfl
@[simp] theorem Ys:aD env.P 81 2=(some (3,1)):=by kernel_rfl
@[simp] theorem X4:oc env.P 81 3=(some (4,3)):=by kernel_rfl
@[simp] theorem Yp:aD env.P 81 3=(some (4,1)):=by kernel_rfl
@[simp] theorem abj:aL env.P 126=(some 1):=by kernel_rfl
@[simp] theorem adw:dI env.P 126=(some false):=by kernel_rfl
@[simp] theorem abi:aL env.P 127=(some 1):=by kernel_rfl
@[simp] theorem adv:dI env.P 127=(some false):=by kernel_rfl
@[simp] theorem abh:aL env.P 129=(some 10):=by kernel_rfl
@[simp] theorem adk:lx env.P 129=none:=by kernel_rfl
@[simp] theorem aa3:ff env.P 129=(some (.agg [(.v (.slice none 0 0)),(.v (.slice none 0 0)),(.v (.int .i64 0)),(.v (.slice none 0 0)),(.v (.slice none 0 0)),(.v (.int .i64 0)),(.v (.slice none 0 0)),(.v (.map none)),(.v (.map none)),(.v (.slice none 0 0))])):=by kernel_rfl
@[simp] theorem ZQ:placesOf env.P 129=(some [(0,3),(3,3),(6,1),(7,1),(8,1),(9,1)]):=by kernel_rfl
@[simp] theorem Xv:aD env.P 129 0=(some (0,3)):=by kernel_rfl
@[simp] theorem Xq:aD env.P 129 1=(some (3,3)):=by kernel_rfl
@[simp] theorem Xn:aD env.P 129 2=(some (6,1)):=by kernel_rfl
@[simp] theorem Xl:aD env.P 129 3=(some (7,1)):=by kernel_rfl
@[simp] theorem Xk:aD env.P 129 4=(some (8,1)):=by kernel_rfl
@[simp] theorem Xj:aD env.P 129 5=(some (9,1)):=by kernel_rfl
@[simp] theorem abg:aL env.P 137=(some 1):=by kernel_rfl
@[simp] theorem adu:dI env.P 137=(some false):=by kernel_rfl
@[simp] theorem abf:aL env.P 147=(some 1):=by kernel_rfl
@[simp] theorem adt:dI env.P 147=(some false):=by kernel_rfl
@[simp] theorem abe:aL env.P 148=(some 1):=by kernel_rfl
@[simp] theorem ads:dI env.P 148=(some false):=by kernel_rfl
@[simp] theorem Wc:oc env.P 150 0=(some (0,147)):=by kernel_rfl
@[simp] theorem Wa:oc env.P 150 1=(some (1,148)):=by kernel_rfl
@[simp] theorem abd:aL env.P 170=(some 1):=by kernel_rfl
@[simp] theorem adr:dI env.P 170=(some false):=by kernel_rfl
@[simp] theorem abq:ei env.P 170=(some 5):=by kernel_rfl
@[simp] theorem adj:lx env.P 170=none:=by kernel_rfl
@[simp] theorem ab4:isStr env.P 170=false:=by kernel_rfl
@[simp] theorem agU:HB env.P 170=true:=by kernel_rfl
@[simp] theorem aeO:qS env.P 170=true:=by kernel_rfl
@[simp] theorem agx:nQ env.P 170=1:=by kernel_rfl
@[simp] theorem aeS:vl env.P 170=1:=by kernel_rfl
@[simp] theorem aaA:kf env.P 170=(a8 0):=by kernel_rfl
@[simp] theorem abc:aL env.P 173=(some 24):=by kernel_rfl
@[simp] theorem adi:lx env.P 173=none:=by kernel_rfl
@[simp] theorem aa2:ff env.P 173=(some (.agg [(a8 0),(.v (.int .i64 0)),(a8 0),(a8 0),(au 0),(a8 0),(.v (.int .i64 0)),(a8 0),(au 0),(a8 0),(.v (.int .i64 0)),(.v (.int .i64 0)),(a8 0),(au 0),(a8 0),(.v (.int .i64 0)),(a8 0),(au 0),(.v (.slice none 0 0)),(.v (.int .i64 0)),(.v (.int .i64 0)),(a8 0),(au 0),(.v (.bool false))])):=by kernel_rfl
@[simp] theorem ZP:placesOf env.P 173=(some [(0,24)]):=by kernel_rfl
@[simp] theorem Xu:aD env.P 173 0=(some (0,24)):=by kernel_rfl
@[simp] theorem abb:aL env.P 180=(some 1):=by kernel_rfl
@[simp] theorem adq:dI env.P 180=(some false):=by kernel_rfl
@[simp] theorem aba:aL env.P 203=(some 2):=by kernel_rfl
@[simp] theorem adp:dI env.P 203=(some true):=by kernel_rfl
@[simp] theorem Wb:oc env.P 203 0=(some (0,137)):=by kernel_rfl
@[simp] theorem adh:lx env.P 204=(some (4,203)):=by kernel_rfl
@[simp] theorem Yj:intKind env.P 223=(some .u64):=by kernel_rfl
@[simp] theorem aa9:aL env.P 230=(some 1):=by kernel_rfl
@[simp] theorem ado:dI env.P 230=(some false):=by kernel_rfl
@[simp] theorem abp:ei env.P 242=(some 275):=by kernel_rfl
@[simp] theorem adg:lx env.P 242=none:=by kernel_rfl
@[simp] theorem ab3:isStr env.P 242=false:=by kernel_rfl
@[simp] theorem agT:HB env.P 242=true:=by kernel_rfl
@[simp] theorem agy:YY env.P 242 9 56=true:=by kernel_rfl
@[simp] theorem aeN:qS env.P 242=true:=by kernel_rfl
@[simp] theorem agw:nQ env.P 242=9:=by kernel_rfl
@[simp] theorem aeR:vl env.P 242=56:=by kernel_rfl
@[simp] theorem aaz:kf env.P 242=(.agg [(a8 0),(au 0),(a8 0),(.v (.int .i64 0)),(a8 0),(au 0),(a8 0),(.v (.int .i64 0)),(.v (.int .i32 0))]):=by kernel_rfl
@[simp] theorem abo:ei env.P 244=(some 33):=by kernel_rfl
@[simp] theorem adf:lx env.P 244=none:=by kernel_rfl
@[simp] theorem ab2:isStr env.P 244=false:=by kernel_rfl
@[simp] theorem agS:HB env.P 244=true:=by kernel_rfl
@[simp] theorem aeM:qS env.P 244=true:=by kernel_rfl
@[simp] theorem agv:nQ env.P 244=4:=by kernel_rfl
@[simp] theorem aeQ:vl env.P 244=24:=by kernel_rfl
@[simp] theorem aay:kf env.P 244=(.agg [(a8 0),(au 0),(a8 0),(.v (.int .i64 0))]):=by kernel_rfl
@[simp] theorem aa8:aL env.P 249=(some 10):=by kernel_rfl
@[simp] theorem adn:dI env.P 249=(some true):=by kernel_rfl
@[simp] theorem ade:lx env.P 249=none:=by kernel_rfl
@[simp] theorem aa1:ff env.P 249=(some (.agg [(a8 0),(au 0),(a8 0),(.v (.int .i64 0)),(.v (.int .i64 0)),(a8 0),(au 0),(a8 0),(.v (.int .i64 0)),(.v (.slice none 0 0))])):=by kernel_rfl
@[simp] theorem ZO:placesOf env.P 249=(some [(0,5),(5,4),(9,1)]):=by kernel_rfl
@[simp] theorem Xt:aD env.P 249 0=(some (0,5)):=by kernel_rfl
@[simp] theorem Xp:aD env.P 249 1=(some (5,4)):=by kernel_rfl
@[simp] theorem Xm:aD env.P 249 2=(some (9,1)):=by kernel_rfl
@[simp] theorem abn:ei env.P 262=(some 4):=by kernel_rfl
@[simp] theorem adb:lx env.P 262=none:=by kernel_rfl
@[simp] theorem ab1:isStr env.P 262=false:=by kernel_rfl
@[simp] theorem aeL:qS env.P 262=true:=by kernel_rfl
@[simp] theorem agu:nQ env.P 262=1:=by kernel_rfl
@[simp] theorem aax:kf env.P 262=(.v (.bool false)):=by kernel_rfl
@[simp] theorem aa7:aL env.P 264=(some 1):=by kernel_rfl
@[simp] theorem adm:dI env.P 264=(some false):=by kernel_rfl
@[simp] theorem aa6:aL env.P 266=(some 2):=by kernel_rfl
@[simp] theorem ada:lx env.P 266=none:=by kernel_rfl
@[simp] theorem aa0:ff env.P 266=(some (.agg [(.v (.slice none 0 0)),(.v (.map none))])):=by kernel_rfl
@[simp] theorem ZN:placesOf env.P 266=(some [(0,1),(1,1)]):=by kernel_rfl
@[simp] theorem Xs:aD env.P 266 0=(some (0,1)):=by kernel_rfl
@[simp] theorem Xo:aD env.P 266 1=(some (1,1)):=by kernel_rfl
@[simp] theorem abm:ei env.P 273=(some 249):=by kernel_rfl
@[simp] theorem ac9:lx env.P 273=none:=by kernel_rfl
@[simp] theorem ab0:isStr env.P 273=false:=by kernel_rfl
@[simp] theorem aeK:qS env.P 273=true:=by kernel_rfl
@[simp] theorem agt:nQ env.P 273=10:=by kernel_rfl
@[simp] theorem aaw:kf env.P 273=(.agg [(a8 0),(au 0),(a8 0),(.v (.int .i64 0)),(.v (.int .i64 0)),(a8 0),(au 0),(a8 0),(.v (.int .i64 0)),(.v (.slice none 0 0))]):=by kernel_rfl
@[simp] theorem aa5:aL env.P 275=(some 9):=by kernel_rfl
@[simp] theorem ac8:lx env.P 275=none:=by kernel_rfl
@[simp] theorem aaZ:ff env.P 275=(some (.agg [(a8 0),(au 0),(a8 0),(.v (.int .i64 0)),(a8 0),(au 0),(a8 0),(.v (.int .i64 0)),(.v (.int .i32 0))])):=by kernel_rfl
@[simp] theorem ZM:placesOf env.P 275=(some [(0,4),(4,4),(8,1)]):=by kernel_rfl
@[simp] theorem Xr:aD env.P 275 0=(some (0,4)):=by kernel_rfl
@[simp] theorem aa4:aL env.P 277=(some 1):=by kernel_rfl
@[simp] theorem adl:dI env.P 277=(some false):=by kernel_rfl
@[simp] theorem abl:ei env.P 277=(some 29):=by kernel_rfl
@[simp] theorem ac7:lx env.P 277=none:=by kernel_rfl
@[simp] theorem abZ:isStr env.P 277=false:=by kernel_rfl
@[simp] theorem aaY:ff env.P 277=(some (.v (.slice none 0 0))):=by kernel_rfl
@[simp] theorem agR:HB env.P 277=true:=by kernel_rfl
@[simp] theorem aeJ:qS env.P 277=true:=by kernel_rfl
@[simp] theorem ags:nQ env.P 277=2:=by kernel_rfl
@[simp] theorem aeP:vl env.P 277=8:=by kernel_rfl
@[simp] theorem aav:kf env.P 277=(.agg [(a8 0),(au 0)]):=by kernel_rfl
@[simp] theorem abk:ei env.P 279=(some 170):=by kernel_rfl
@[simp] theorem ac6:lx env.P 279=none:=by kernel_rfl
@[simp] theorem abY:isStr env.P 279=false:=by kernel_rfl
@[simp] theorem aeI:qS env.P 279=true:=by kernel_rfl
@[simp] theorem agr:nQ env.P 279=1:=by kernel_rfl
@[simp] theorem aau:kf env.P 279=(.v (.slice none 0 0)):=by kernel_rfl
structure Clear where
 lv:UInt8
 cats:UInt32
 ok:Bool
deriving DecidableEq,Inhabited
structure ax where
 lv:UInt8
 cats:UInt32
 opens:Int
 ops:Int
 cells:Int
deriving DecidableEq,Inhabited
def Clear.enc(c:Clear):List AV:=[a8 c.lv,au c.cats,aB c.ok]
def ax.enc(q:ax):List AV:=[a8 q.lv,au q.cats,aI q.opens,aI q.ops,aI q.cells]
abbrev bZ(l:List Clear):List AV:=l.map λc => .agg c.enc
abbrev bS(l:List ax):List AV:=l.map λq => .agg q.enc
abbrev aeH(l:List Bool):List AV:=l.map aB
theorem adX(a b:Int):(!decide (a<b))=decide (b<=a):=by
 by_cases h:a<b
 ·simp[h,Int.not_le.2 h]
 ·simp[h,Int.not_lt.1 h]
def zf(a:UInt8):Int:=if 15<a then 8 else 0
@[simp] theorem Yi(a:UInt8):zf a=0↔a<=15:=by
 unfold zf
 split
 ·rename_i h;simp;exact h
 ·rename_i h;simp;exact UInt8.not_lt.1 h
def UO(a:UInt8)(b:UInt32)(c:UInt8)(d:UInt32):Bool:=decide (a<=c)&&decide (b &&& ~~~d=0)
def Hq(a:UInt8)(b:UInt32)(c:UInt8)(d:UInt32):Bool:=decide (a<c)||(decide (a=c)&&decide (b<d))
def oB(v:UInt8)(c:UInt32)(ok:Bool):Bool:=decide (v<=15)&&(ok||(decide (v=0)&&decide (c=0)))
def ae7(n:Int)(q:ax):Int:=IntKind.i64.wrap (n+IntKind.i64.wrap (q.opens+IntKind.i64.wrap (4 * q.ops)))
def rI(n:Int)(l:List ax):Int:=l.foldl ae7 n
def aaE(c:Int):Int:=if 4096<(if c<0 then 0 else c) then 4096 else if c<0 then 0 else c
def ae8(n:Int)(q:ax):Int:=IntKind.i64.wrap (n+aaE q.cells)
def cellsOf(n:Int)(l:List ax):Int:=l.foldl ae8 n
def DN(q:ax):Bool:=decide (zf q.lv=0)&&(decide (0<=q.opens)&&decide (q.opens<=64)&&(decide (0<=q.ops)&&decide (q.ops<=256)&&(decide (0<=q.cells)&&decide (q.cells<=4096))))
def CH(p q:ax):Bool:=Hq p.lv p.cats q.lv q.cats
def yW:Option ax->List ax->Bool
 | _,[]=>true
 | p,q :: l=>(DN q&&(match p with | none=>true | some p=>CH p q))&&yW (some q) l
def tF(us:List Clear)(qs:List ax)(gr:Int):Bool:=
 decide (us.length<=8)&&decide (qs.length<=8)&&(decide (0<=gr)&&decide (gr<=64))&&us.all (λc=>oB c.lv c.cats c.ok)&&yW none qs&&(decide (rI gr qs<=2048)&&decide (cellsOf 0 (qs.take 8)<=8192))
def zN(us:List Clear)(qs:List ax)(gr:Int)(a:UInt8):Int:=if zf a>bad (tF us qs gr) then zf a else bad (tF us qs gr)
def pa(us:List Clear)(c:Int)(a:UInt8)(b:UInt32):Bool:=
 if h:0<=c/\c<us.length then us[c.toNat].ok&&UO a b us[c.toNat].lv us[c.toNat].cats else false
def wi(a:UInt8)(b:UInt32)(q:ax):Bool:=decide (q.lv=a)&&decide (q.cats=b)
def PY(a:UInt8)(b:UInt32):Option ax->ax
 | some q=>q
 | none=>⟨a,b,0,0,0⟩
@[simp] theorem OG(a:UInt8)(b:UInt32)(q:ax):PY a b (some q)=q:=id rfl
@[simp] theorem OH(a:UInt8)(b:UInt32):PY a b none=⟨a,b,0,0,0⟩:=id rfl
def nE(qs:List ax)(a:UInt8)(b:UInt32):ax:=PY a b (qs.find? (wi a b))
def E1(n:Int)(l:List ax):Int:=l.foldl (λn q=>n+q.opens+4 * q.ops) n
def SZ(n:Int)(l:List ax):Int:=l.foldl (λn q=>n+q.cells) n
theorem Fb{q:ax}(h:DN q=true):0<=q.opens/\q.opens<=64/\0<=q.ops/\q.ops<=256/\0<=q.cells/\q.cells<=4096:=by
 simp only[DN,bh,decide_eq_true_eq]at h
 omega
theorem LJ : ∀ {l:List ax} {p:Option ax},yW p l=true ->∀q∈l,DN q=true:=by
 intro l
 induction l with
 | nil=>intro p _ q a;simp at a
 | cons x l b=>
  intro p h q a
  simp only[yW,bh]at h
  rcases m6.1 a with rfl | a
  ·exact h.1.1
  ·exact b h.2 q a
theorem Kw : ∀ {l:List ax} {n:Int},(∀q∈l,DN q=true)->0<=n->n+1088 * l.length<=4611686018427387904->rI n l=E1 n l/\n<=E1 n l/\E1 n l<=n+1088 * l.length:=by
 intro l
 induction l with
 | nil=>intro n _ f a;simp[rI,E1]
 | cons q l d=>
  intro n h f a
  have i:=Fb (h q (jn ..))
  simp only[qZ]at a ⊢
  have c:IntKind.i64.wrap (4 * q.ops)=4 * q.ops:=IntWalk.i64_in _ (by omega)
  have b:IntKind.i64.wrap (q.opens+4 * q.ops)=q.opens+4 * q.ops:=IntWalk.i64_in _ (by omega)
  have e:IntKind.i64.wrap (n+(q.opens+4 * q.ops))=n+q.opens+4 * q.ops:=by rw[IntWalk.i64_in _ (by omega)];omega
  have:=d (n:=n+q.opens+4 * q.ops) (λx g=>h x (il _ g)) (by omega) (by omega)
  simp only[rI,E1,vR,ae7,c,b,e]at this ⊢
  omega
theorem MX : ∀ {l:List ax} {n:Int},(∀q∈l,DN q=true)->0<=n->n+4096 * l.length<=4611686018427387904->cellsOf n l=SZ n l:=by
 intro l
 induction l with
 | nil=>intro n _ d a;rfl
 | cons q l c=>
  intro n h d a
  have g:=Fb (h q (jn ..))
  simp only[qZ]at a
  have e:aaE q.cells=q.cells:=by unfold aaE;(repeat rw[if_neg (by omega)])
  have b:IntKind.i64.wrap (n+q.cells)=n+q.cells:=IntWalk.i64_in _ (by omega)
  have:=c (n:=n+q.cells) (λx f=>h x (il _ f)) (by omega) (by omega)
  simp only[cellsOf,SZ,vR,ae8,e,b]at this ⊢
  exact this
theorem LW(us:List Clear)(qs:List ax)(gr:Int):tF us qs gr=(decide (us.length<=8)&&decide (qs.length<=8)&&(decide (0<=gr)&&decide (gr<=64))&&us.all (λc=>oB c.lv c.cats c.ok)&&yW none qs&&(decide (E1 gr qs<=2048)&&decide (SZ 0 qs<=8192))):=by
 unfold tF
 by_cases b:qs.length<=8
 ·by_cases f:0<=gr/\gr<=64
  ·cases g:yW none qs with
   | false=>simp
   | true=>
    have a:=LJ g
    have e:=Kw (n:=gr) a f.1 (by omega)
    have d:=MX (n:=0) a (by omega) (by omega)
    rw[gh b,e.1,d]
  ·have:(decide (0<=gr)&&decide (gr<=64))=false:=by simp;omega
   simp[this]
 ·simp[b]
end Go.Proofs.YtmkmimgokagimaaGreat
namespace Go.Proofs.YtmkmimgokagimaaGreat
open Go.Ab
variable(dep:Nat)(g:Nat->AV)(x0 x1:AV)(H:ai)(Q:AV->ai->Prop)
def zr:Prop:=
 bu H 2 29 x0 λi p=>
 bu p 3 29 x1 λj b=>
 ar 29 i 0 λo=>
 an b 5 o λk=>
 ar 29 j 0 λm=>
 an b 5 m λl=>
 iZ (cf env.P .leq 5 (Operand.tmp 6) (Operand.tmp 8) (some k) (some l)) λa=>
 gQ a true (aA 29 i 1) λn=>
 gQ a true (az b 27 n) λq=>
 gQ a true (aA 29 j 1) λf=>
 gQ a true (az b 27 f) λh=>
 gQ a true (cf env.P .andNot 27 (Operand.tmp 12) (Operand.tmp 14) (some q) (some h)) λc=>
 gQ a true (cf env.P .eql 27 (Operand.tmp 15) (.const (.int .u32 0)) (some c) (some (au 0))) λd=>
 bA a d λe=>
 Q e b
theorem Cr(h : ∀g:dB,zr x0 x1 H Q):dq Tryz.f47 0 [(0,x0),(1,x1)] H Q:=ga (by kernel_rfl) h
def vx:Prop:=
 bu H 1 29 x0 λb a=>
 ar 29 b 0 λc=>
 an a 5 c λe=>
 iZ (cf env.P .gtr 5 (Operand.tmp 4) (.const (.int .u8 15)) (some e) (some (a8 15))) λd=>
 br (some d) (
 Q (.v (.int .i64 8)) a) (
 Q (.v (.int .i64 0)) a)
theorem Ah(h : ∀g:dB,vx x0 H Q):dq Tryz.f76 0 [(0,x0)] H Q:=ga (by kernel_rfl) h
def vA:Prop:=
 bu H 1 31 x0 λd c=>
 ar 31 d 0 λj=>
 an c 29 j λn=>
 bt true c 5 76 [n] λf e=>
 zC 42 5 0 f λa=>
 gQ a true (aA 31 d 1) λh=>
 gQ a true (az e 5 h) λk=>
 gQ a true (cf env.P .lss 5 (Operand.tmp 9) (.const (.int .u8 8)) (some k) (some (a8 8))) λl=>
 bA a l λi=>
 bt true e 12 159 [i] λb m=>
 Q b m
theorem BQ(h : ∀g:dB,vA x0 H Q):dq Tryz.f91 0 [(0,x0)] H Q:=ga (by kernel_rfl) h
noncomputable def iB:=tf Tryz.f133 4
def qy:Nat->Option (List Nat):=λi=>cond (Nat.beq i 4) (some [5,1,0]) (none)
def mE:Prop:=
 eW H 7 36 x0 λa=>
 eW H 9 36 x1 λc=>
 vN 3 7 9 a c λb=>
 br (some b) (
 Q (.v (.bool false)) H) (
  bN env Tryz.f133 0 iB [(5,(.v (.int .i64 0))),(1,x1),(0,x0)] H Q)
theorem xI(h : ∀g:dB,mE x0 x1 H Q):dq Tryz.f133 0 [(0,x0),(1,x1)] H Q:=vD qy (by kernel_rfl) h
def iD(g:Nat->AV)(a x1 x0:AV)(H:ai)(Q:AV->ai->Prop):Prop:=
 eW H 13 36 x0 λi=>
 dD 3 11 13 a i λj=>
 br (some j) (
 bK H 36 x0 a λh=>
 an H 21 h λb=>
 bK H 36 x1 a λd=>
 an H 21 d λc=>
 vN 21 20 24 b c λe=>
 br (some e) (
 Q (.v (.bool false)) H) (
 eD 3 15 1 a λf=>
  bN env Tryz.f133 0 iB [(5,f),(1,x1),(0,x0)] H Q)) (
 Q (.v (.bool true)) H)
theorem oX(a x1 x0:AV)(H:ai)(Q:AV->ai->Prop)(h : ∀g,iD g a x1 x0 H Q):bN env Tryz.f133 0 iB [(5,a),(1,x1),(0,x0)] H Q:=s8 qy (by kernel_rfl) h
def mw:Prop:=
 bu H 1 35 x0 λb v=>
 ar 35 b 0 λC=>
 an v 33 C λA=>
 bt true v 5 182 [A] λw c=>
 zC 42 5 0 w λd=>
 gQ d true (aA 35 b 1) λx=>
 gQ d true (az c 3 x) λy=>
 gQ d true (vO 3 9 1 y) λz=>
 bA d z λe=>
 gQ e true (aA 35 b 1) λq=>
 gQ e true (az c 3 q) λu=>
 gQ e true (zB 3 14 64 u) λh=>
 bA e h λa=>
 gQ a true (aA 35 b 0) λl=>
 gQ a true (aA 33 l 1) λm=>
 gQ a true (az c 3 m) λt=>
 gQ a true (aA 35 b 1) λn=>
 gQ a true (az c 3 n) λp=>
 gQ a true (Px 3 20 22 t p) λo=>
 gQ a true (Sx 3 23 1 o) λj=>
 gQ a true (zB 3 24 1099511627776 j) λi=>
 bA a i λk=>
 bt true c 27 159 [k] λf D=>
 Q f D
theorem DJ(h : ∀g:dB,mw x0 H Q):dq Tryz.f135 0 [(0,x0)] H Q:=ga (by kernel_rfl) h
def Di:Prop:=
 br (some x0) (
 Q (.v (.int .i64 0)) H) (
 Q (.v (.int .i64 8)) H)
theorem JI(h : ∀g:dB,Di x0 H Q):dq Tryz.f159 0 [(0,x0)] H Q:=ga (by kernel_rfl) h
def sZ:Prop:=
 bu H 1 31 x0 λa p=>
 an p 31 a λC=>
 bt true p 6 91 [C] λo i=>
 lf 42 7 0 o λt=>
 br (some t) (
 Q (.tup [(.v (.slice none 0 0)),o]) i) (
 ar 31 a 0 λw=>
 ar 29 w 0 λu=>
 an i 5 u λx=>
 Sq i 13 170 1 0 x λy j=>
 ar 31 a 0 λD=>
 ar 29 D 1 λk=>
 an j 27 k λm=>
 qm j 17 27 3 m λb=>
 bt false j 18 207 [b,(.v (.int .i64 4))] λc q=>
 m4 (ju env.P false q (Ref.mk 0 19 (ai.gen q 0 19) 0) (some 170) (some 170) y c) λd n=>
 ar 31 a 1 λe=>
 an n 5 e λl=>
 Sq n 22 170 1 0 l λf A=>
 mG A 23 170 170 d f λh z=>
 Q (.tup [h,(.v (.int .i64 0))]) z)
theorem DH(h : ∀g:dB,sZ x0 H Q):dq Tryz.f162 0 [(0,x0)] H Q:=ga (by kernel_rfl) h
def AP:Prop:=
 bu H 2 29 x0 λd E=>
 bu E 3 29 x1 λp q=>
 ar 29 p 0 λD=>
 an q 5 D λy=>
 ar 29 d 1 λA=>
 an q 27 A λz=>
 iZ (mP env.P 29 (some [(0,y),(1,z)])) λC=>
 dE q 5 29 λx F=>
 aN F 29 x C λG c=>
 ar 29 d 0 λt=>
 an c 5 t λw=>
 ar 29 p 0 λf=>
 an c 5 f λi=>
 dD 5 12 14 w i λa=>
 gQ a false (az c 29 d) λl=>
 gQ a false (az c 29 x) λv=>
 gQ a false (fK 29 17 18 l v) λm=>
 gQ a false (aZ m) λb=>
 gQ b true (aA 29 d 1) λn=>
 gQ b true (az c 27 n) λj=>
 gQ b true (aA 29 p 1) λh=>
 gQ b true (az c 27 h) λk=>
 gQ b true (Ff 27 22 24 j k) λe=>
 gQ a false (Ik b e) λu=>
 dO a u λo=>
 Q o c
theorem Gb(h : ∀g:dB,AP x0 x1 H Q):dq Tryz.f169 0 [(0,x0),(1,x1)] H Q:=ga (by kernel_rfl) h
def fj:Prop:=
 Sv 36 3 x0 λb=>
 br (some b) (
 Q (.v (.slice none 0 0)) H) (
 Sp H 5 36 0 λd a=>
 mG a 7 36 36 d x0 λe c=>
 Q e c)
theorem sP(h : ∀g:dB,fj x0 H Q):dq Tryz.f173 0 [(0,x0)] H Q:=ga (by kernel_rfl) h
def kU:Prop:=
 bt true H 7 214 [x0,x1] λb a=>
 vP 3 7 0 b λc=>
 Q c a
theorem qM(h : ∀g:dB,kU x0 x1 H Q):dq Tryz.f176 0 [(0,x0),(1,x1)] H Q:=ga (by kernel_rfl) h
def Dj:Prop:=
 bu H 1 33 x0 λf k=>
 ar 33 f 0 λq=>
 an k 31 q λp=>
 bt true k 5 91 [p] λl h=>
 zC 42 5 0 l λa=>
 gQ a true (aA 33 f 1) λm=>
 gQ a true (az h 3 m) λn=>
 gQ a true (vO 3 9 1 n) λo=>
 bA a o λb=>
 gQ b true (aA 33 f 1) λi=>
 gQ b true (az h 3 i) λj=>
 gQ b true (zB 3 14 1099511627776 j) λc=>
 bA b c λd=>
 bt true h 17 159 [d] λe t=>
 Q e t
theorem JJ(h : ∀g:dB,Dj x0 H Q):dq Tryz.f182 0 [(0,x0)] H Q:=ga (by kernel_rfl) h
def vw:Prop:=
 dE H 0 29 λa c=>
 oR 29 λd=>
 aN c 29 a d λf b=>
 dN b a 29 λe=>
 Q e b
theorem Ag(h : ∀g:dB,vw H Q):dq Tryz.f185 0 [] H Q:=ga (by kernel_rfl) h
def vu:Prop:=
 eW H 6 36 x0 λb=>
 Ca 3 6 64 b λc=>
 br (some c) (
 Q (.v (.int .i64 4)) H) (
 bt true H 11 217 [x0,(.fn (.func 215) [] [])] λd a=>
 br (some d) (
 Q (.v (.int .i64 8)) a) (
 Q (.v (.int .i64 0)) a))
theorem F3(h : ∀g:dB,vu x0 H Q):dq Tryz.f187 0 [(0,x0)] H Q:=ga (by kernel_rfl) h
noncomputable def tV:=tf Tryz.f207 2
def By:Nat->Option (List Nat):=λi=>cond (Nat.beq i 2) (some [5,0,4]) (none)
def w8:Prop:=
 Fk 3 6 1 x1 λa=>
  bN env Tryz.f207 0 tV [(5,a),(0,x0),(4,(.v (.slice none 0 0)))] H Q
theorem Bs(h : ∀g:dB,w8 x0 x1 H Q):dq Tryz.f207 0 [(0,x0),(1,x1)] H Q:=vD By (by kernel_rfl) h
def cP(g:Nat->AV)(a x0 b:AV)(H:ai)(Q:AV->ai->Prop):Prop:=
 vP 3 8 0 a λj=>
 br (some j) (
 Sy 3 8 14 a λl=>
 iZ (cf env.P .shr 3 (Operand.tmp 13) (Operand.tmp 15) (some x0) (some l)) λh=>
 qm H 17 3 5 h λc=>
 tn H 18 170 1 0 c λe i=>
 mG i 19 170 170 b e λd k=>
 Fk 3 10 1 a λf=>
  bN env Tryz.f207 0 tV [(5,f),(0,x0),(4,d)] k Q) (
 Q b H)
theorem de(a x0 b:AV)(H:ai)(Q:AV->ai->Prop)(h : ∀g,cP g a x0 b H Q):bN env Tryz.f207 0 tV [(5,a),(0,x0),(4,b)] H Q:=s8 By (by kernel_rfl) h
def B5:Prop:=
 bu H 1 33 x0 λc j=>
 an j 33 c λq=>
 bt true j 8 182 [q] λi d=>
 lf 42 9 0 i λm=>
 br (some m) (
 Q (.tup [(.v (.slice none 0 0)),i]) d) (
 ar 33 c 0 λo=>
 an d 31 o λn=>
 bt true d 15 162 [n] λh k=>
 ba h 0 λp=>
 ba h 1 λt=>
 ar 33 c 1 λe=>
 an k 3 e λf=>
 bt true k 21 207 [f,(.v (.int .i64 7))] λa u=>
 mG u 22 170 170 p a λb l=>
 Q (.tup [b,t]) l)
theorem NZ(h : ∀g:dB,B5 x0 H Q):dq Tryz.f208 0 [(0,x0)] H Q:=ga (by kernel_rfl) h
noncomputable def rF:=tf Tryz.f210 6
def CU:Nat->Option (List Nat):=λi=>cond (Nat.beq i 6) (some [15,5,13,14]) (none)
def zn:Prop:=
 bt true H 9 187 [x0] λb a=>
 lf 42 10 0 b λd=>
 br (some d) (
 Q (.tup [(.v (.slice none 0 0)),b]) a) (
 eW a 14 36 x0 λc=>
  bN env Tryz.f210 0 rF [(15,(.v (.int .i64 0))),(5,(.v (.slice none 0 0))),(13,x0),(14,c)] a Q)
theorem JF(h : ∀g:dB,zn x0 H Q):dq Tryz.f210 0 [(0,x0)] H Q:=vD CU (by kernel_rfl) h
def rQ(g:Nat->AV)(a j c b:AV)(H:ai)(Q:AV->ai->Prop):Prop:=
 dD 3 15 14 a b λq=>
 br (some q) (
 bK H 36 c a λw=>
 an H 21 w λd=>
 iZ (cf env.P .shr 21 (Operand.tmp 20) (.const (.int .u64 24)) (some d) (some (.v (.int .u64 24)))) λk=>
 qm H 22 21 5 k λm=>
 XQ 21 23 d λl=>
 qm H 25 21 5 l λn=>
 Su 21 26 d λo=>
 qm H 28 21 5 o λt=>
 qm H 30 21 5 d λi=>
 m4 (pJ env.P false true H (Ref.mk 0 31 (ai.gen H 0 31) 0) 170 4 (some [(0,m),(1,n),(2,t),(3,i)])) λe p=>
 mG p 32 170 170 j e λf u=>
 eD 3 15 1 a λh=>
  bN env Tryz.f210 0 rF [(15,h),(5,f),(13,c),(14,b)] u Q) (
 Q (.tup [j,(.v (.int .i64 0))]) H)
theorem Af(a d b c:AV)(H:ai)(Q:AV->ai->Prop)(h : ∀g,rQ g a d b c H Q):bN env Tryz.f210 0 rF [(15,a),(5,d),(13,b),(14,c)] H Q:=s8 CU (by kernel_rfl) h
noncomputable def eF:=tf Tryz.f214 2
def mi:Nat->Option (List Nat):=λi=>cond (Nat.beq i 2) (some [8,0,1,7]) (none)
def mu:Prop:=
 eW H 7 36 x0 λa=>
  bN env Tryz.f214 0 eF [(8,(.v (.int .i64 0))),(0,x0),(1,x1),(7,a)] H Q
theorem sN(h : ∀g:dB,mu x0 x1 H Q):dq Tryz.f214 0 [(0,x0),(1,x1)] H Q:=vD mi (by kernel_rfl) h
def eJ(g:Nat->AV)(a x0 x1 b:AV)(H:ai)(Q:AV->ai->Prop):Prop:=
 dD 3 8 7 a b λf=>
 br (some f) (
 bK H 36 x0 a λh=>
 an H 21 h λe=>
 ql 21 11 15 x1 e λc=>
 br (some c) (
 Q a H) (
 eD 3 8 1 a λd=>
  bN env Tryz.f214 0 eF [(8,d),(0,x0),(1,x1),(7,b)] H Q)) (
 Q (.v (.int .i64 (-1))) H)
theorem lg(a x0 x1 b:AV)(H:ai)(Q:AV->ai->Prop)(h : ∀g,eJ g a x0 x1 b H Q):bN env Tryz.f214 0 eF [(8,a),(0,x0),(1,x1),(7,b)] H Q:=s8 mi (by kernel_rfl) h
def sY:Prop:=
 XR 21 3 x0 λa=>
 gQ a true (aZ x0) λd=>
 gW a true H (eN true H 7 216 [d]) λf b=>
 gQ a true (qh f) λe=>
 bA a e λc=>
 Q c b
theorem Dz(h : ∀g:dB,sY x0 H Q):dq Tryz.f215 0 [(0,x0)] H Q:=ga (by kernel_rfl) h
def o4:Prop:=
 iZ (cf env.P .leq 21 (.const (.int .i32 0)) (Operand.tmp 4) (some (.v (.int .i32 0))) (some x0)) λa=>
 gQ a true (aZ x0) λf=>
 gQ a true (cf env.P .lss 21 (Operand.tmp 7) (.const (.int .i32 55296)) (some f) (some (.v (.int .i32 55296)))) λi=>
 bA a i λc=>
 br (some c) (
 Q (.v (.bool true)) H) (
 iZ (cf env.P .lss 21 (.const (.int .i32 57343)) (Operand.tmp 11) (some (.v (.int .i32 57343))) (some x0)) λb=>
 gQ b true (aZ x0) λd=>
 gQ b true (cf env.P .leq 21 (Operand.tmp 14) (.const (.int .i32 1114111)) (some d) (some (.v (.int .i32 1114111)))) λe=>
 bA b e λh=>
 br (some h) (
 Q (.v (.bool true)) H) (
 Q (.v (.bool false)) H))
theorem vF(h : ∀g:dB,o4 x0 H Q):dq Tryz.f216 0 [(0,x0)] H Q:=ga (by kernel_rfl) h
def jV:Prop:=
 bt true H 7 229 [x0,x1] λb a=>
 vP 3 7 0 b λc=>
 Q c a
theorem o7(h : ∀g:dB,jV x0 x1 H Q):dq Tryz.f217 0 [(0,x0),(1,x1)] H Q:=ga (by kernel_rfl) h
noncomputable def eG:=tf Tryz.f226 4
def mj:Nat->Option (List Nat):=λi=>cond (Nat.beq i 4) (some [13,1,0,12]) (none)
def iV:Prop:=
 eW H 7 36 x0 λb=>
 eW H 9 36 x1 λd=>
 vN 3 7 9 b d λc=>
 br (some c) (
 Q (.v (.bool false)) H) (
 eW H 12 36 x0 λa=>
  bN env Tryz.f226 0 eG [(13,(.v (.int .i64 0))),(1,x1),(0,x0),(12,a)] H Q)
theorem sO(h : ∀g:dB,iV x0 x1 H Q):dq Tryz.f226 0 [(0,x0),(1,x1)] H Q:=vD mj (by kernel_rfl) h
def eK(g:Nat->AV)(a x1 x0 b:AV)(H:ai)(Q:AV->ai->Prop):Prop:=
 dD 3 13 12 a b λi=>
 br (some i) (
 bK H 36 x0 a λj=>
 an H 21 j λh=>
 bK H 36 x1 a λc=>
 an H 21 c λe=>
 vN 21 19 23 h e λd=>
 br (some d) (
 Q (.v (.bool false)) H) (
 eD 3 13 1 a λf=>
  bN env Tryz.f226 0 eG [(13,f),(1,x1),(0,x0),(12,b)] H Q)) (
 Q (.v (.bool true)) H)
theorem lj(a x1 x0 b:AV)(H:ai)(Q:AV->ai->Prop)(h : ∀g,eK g a x1 x0 b H Q):bN env Tryz.f226 0 eG [(13,a),(1,x1),(0,x0),(12,b)] H Q:=s8 mj (by kernel_rfl) h
def yr:Prop:=
 bu H 2 35 x0 λj x=>
 dE x 4 33 λe q=>
 an q 35 j λu=>
 bt true q 8 135 [u] λo h=>
 lf 42 9 0 o λt=>
 br (some t) (
 oR 33 λa=>
 aN h 33 e a λp d=>
 dN d e 33 λi=>
 Q (.tup [i,o]) d) (
 Fl 3 13 0 x1 λa=>
 gQ a false (aZ x1) λp=>
 gQ a false (aA 35 j 1) λi=>
 gQ a false (az h 3 i) λy=>
 gQ a false (Pw 3 16 18 p y) λk=>
 dO a k λm=>
 br (some m) (
 oR 33 λb=>
 aN h 33 e b λf d=>
 dN d e 33 λc=>
 Q (.tup [c,(.v (.int .i64 2))]) d) (
 ar 35 j 0 λb=>
 an h 33 b λf=>
 bt true h 25 239 [f,x1] λc d=>
 aN d 33 e c λw n=>
 dN n e 33 λl=>
 Q (.tup [l,(.v (.int .i64 0))]) n))
theorem QB(h : ∀g:dB,yr x0 x1 H Q):dq Tryz.f228 0 [(0,x0),(1,x1)] H Q:=ga (by kernel_rfl) h
noncomputable def dX:=tf Tryz.f229 2
def kQ:Nat->Option (List Nat):=λi=>cond (Nat.beq i 2) (some [8,0,1,7]) (none)
def kT:Prop:=
 eW H 7 36 x0 λa=>
  bN env Tryz.f229 0 dX [(8,(.v (.int .i64 0))),(0,x0),(1,x1),(7,a)] H Q
theorem qL(h : ∀g:dB,kT x0 x1 H Q):dq Tryz.f229 0 [(0,x0),(1,x1)] H Q:=vD kQ (by kernel_rfl) h
def dY(g:Nat->AV)(a x0 x1 b:AV)(H:ai)(Q:AV->ai->Prop):Prop:=
 dD 3 8 7 a b λh=>
 br (some h) (
 bK H 36 x0 a λi=>
 an H 21 i λf=>
 KH H 16 x1 f λd c=>
 br (some d) (
 Q a c) (
 eD 3 8 1 a λe=>
  bN env Tryz.f229 0 dX [(8,e),(0,x0),(1,x1),(7,b)] c Q)) (
 Q (.v (.int .i64 (-1))) H)
theorem kr(a x0 x1 b:AV)(H:ai)(Q:AV->ai->Prop)(h : ∀g,dY g a x0 x1 b H Q):bN env Tryz.f229 0 dX [(8,a),(0,x0),(1,x1),(7,b)] H Q:=s8 kQ (by kernel_rfl) h
def oP:Prop:=
 bu H 1 38 x0 λh J=>
 dE J 2 249 λe F=>
 an F 38 h λM=>
 bt true F 7 70 [M] λD i=>
 lf 42 8 0 D λG=>
 br (some G) (
 oR 249 λq=>
 aN i 249 e q λE k=>
 dN k e 249 λm=>
 Q (.tup [m,D]) k) (
 ar 38 h 3 λq=>
 an i 35 q λE=>
 ar 38 h 4 λm=>
 an i 33 m λK=>
 ar 38 h 6 λz=>
 an i 36 z λC=>
 bt false i 18 173 [C] λt k=>
 KD 249 0 E 1 K 2 t λu=>
 dE k 5 249 λd L=>
 aN L 249 d u λI j=>
 ar 38 h 0 λp=>
 an j 5 p λy=>
 iZ (cf env.P .neq 5 (Operand.tmp 21) (.const (.int .u8 1)) (some y) (some (a8 1))) λa=>
 gQ a false (az j 249 d) λo=>
 gW a false j (eN true j 25 240 [o]) λw n=>
 gQ a false (Fj 42 25 0 w) λl=>
 dO a l λx=>
 br (some x) (
 oR 249 λb=>
 aN n 249 e b λA f=>
 dN f e 249 λc=>
 Q (.tup [c,(.v (.int .i64 2))]) f) (
 an n 249 d λb=>
 aN n 249 e b λA f=>
 dN f e 249 λc=>
 Q (.tup [c,(.v (.int .i64 0))]) f))
theorem uC(h : ∀g:dB,oP x0 H Q):dq Tryz.f231 0 [(0,x0)] H Q:=ga (by kernel_rfl) h
def ES:Prop:=
 bu H 2 33 x0 λa h=>
 dE h 4 33 λe d=>
 ar 33 a 1 λm=>
 an d 3 m λi=>
 qj 3 6 7 i x1 λk=>
 ar 33 a 1 λj=>
 aN d 3 j k λo f=>
 an f 33 a λl=>
 aN f 33 e l λn c=>
 dN c e 33 λb=>
 Q b c
theorem K3(h : ∀g:dB,ES x0 x1 H Q):dq Tryz.f239 0 [(0,x0),(1,x1)] H Q:=ga (by kernel_rfl) h
def zo:Prop:=
 bu H 1 249 x0 λd i=>
 ar 249 d 1 λY=>
 an i 33 Y λX=>
 oR 33 λU=>
 ql 33 5 6 X U λe=>
 gQ e false (aA 249 d 1) λV=>
 gQ e false (az i 33 V) λW=>
 gW e false i (eN true i 11 182 [W]) λS j=>
 gQ e false (qW 42 11 0 S) λT=>
 gQ e false (aZ T) λa=>
 gQ a true (aA 249 d 1) λP=>
 gQ a true (aA 33 P 1) λD=>
 gQ a true (az j 3 D) λF=>
 gQ a true (aA 249 d 0) λM=>
 gQ a true (aA 35 M 0) λq=>
 gQ a true (aA 33 q 1) λA=>
 gQ a true (az j 3 A) λJ=>
 gQ a true (Ff 3 16 20 F J) λx=>
 gQ e false (Ik a x) λt=>
 dO e t λG=>
 ar 249 d 0 λn=>
 an j 35 n λI=>
 bt true j 26 135 [I] λC h=>
 lf 42 26 0 C λf=>
 gQ f false (aZ G) λL=>
 gQ f false (qh L) λO=>
 dO f O λb=>
 gQ b false (aA 249 d 2) λk=>
 gQ b false (az h 36 k) λy=>
 gQ b false (uL h 35 36 y) λp=>
 gQ b false (aA 249 d 0) λE=>
 gQ b false (aA 35 E 1) λw=>
 gQ b false (az h 3 w) λz=>
 gQ b false (Il 3 35 38 p z) λo=>
 dO b o λc=>
 gQ c false (aA 249 d 2) λm=>
 gQ c false (az h 36 m) λK=>
 gW c false h (eN true h 44 187 [K]) λl R=>
 gQ c false (Fj 42 44 0 l) λu=>
 dO c u λN=>
 br (some N) (
 Q (.v (.int .i64 8)) R) (
 Q (.v (.int .i64 0)) R)
theorem JG(h : ∀g:dB,zo x0 H Q):dq Tryz.f240 0 [(0,x0)] H Q:=ga (by kernel_rfl) h
def s7:Prop:=
 bu H 2 35 x0 λf I=>
 bu I 3 33 x1 λA h=>
 ar 33 A 1 λG=>
 an h 3 G λC=>
 ar 35 f 0 λE=>
 ar 33 E 1 λD=>
 an h 3 D λF=>
 KF 3 8 11 C F λe=>
 an h 35 f λJ=>
 bt false h 14 135 [J] λu d=>
 lf 42 14 0 u λc=>
 gQ c false (aZ e) λj=>
 gQ c false (B9 3 17 0 j) λl=>
 dO c l λb=>
 gQ b false (aZ e) λo=>
 gQ b false (aA 35 f 1) λx=>
 gQ b false (az d 3 x) λp=>
 gQ b false (Pw 3 21 23 o p) λt=>
 dO b t λa=>
 gQ a false (az d 33 A) λm=>
 gQ a false (aA 35 f 0) λk=>
 gQ a false (az d 33 k) λn=>
 gQ a false (aZ e) λi=>
 gW a false d (eN false d 31 239 [n,i]) λw z=>
 gQ a false (Il 33 27 31 m w) λq=>
 dO a q λy=>
 br (some y) (
 Q (.tup [(.v (.int .i64 0)),(.v (.bool false))]) z) (
 Q (.tup [e,(.v (.bool true))]) z)
theorem N0(h : ∀g:dB,s7 x0 x1 H Q):dq Tryz.f251 0 [(0,x0),(1,x1)] H Q:=ga (by kernel_rfl) h
end Go.Proofs.YtmkmimgokagimaaGreat
namespace Go.Proofs.YtmkmimgokagimaaGreat
open Go.Ab
variable(dep:Nat)(g:Nat->AV)(x0 x1 x2:AV)(H:ai)(Q:AV->ai->Prop)
def cV:Prop:=
 bu H 2 38 x0 λh U=>
 bu U 3 38 x1 λi a=>
 ar 38 h 0 λY=>
 an a 5 Y λW=>
 ar 38 i 0 λS=>
 an a 5 S λX=>
 ql 5 6 8 W X λj=>
 gQ j true (aA 38 h 1) λT=>
 gQ j true (az a 31 T) λV=>
 gQ j true (aA 38 i 1) λL=>
 gQ j true (az a 31 L) λR=>
 gQ j true (fK 31 12 14 V R) λG=>
 bA j G λd=>
 gQ d true (aA 38 h 2) λM=>
 gQ d true (az a 3 M) λw=>
 gQ d true (aA 38 i 2) λE=>
 gQ d true (az a 3 E) λK=>
 gQ d true (fK 3 19 21 w K) λA=>
 bA d A λb=>
 gQ b true (aA 38 h 3) λI=>
 gQ b true (az a 35 I) λo=>
 gQ b true (aA 38 i 3) λJ=>
 gQ b true (az a 35 J) λF=>
 gQ b true (fK 35 26 28 o F) λO=>
 bA b O λf=>
 gQ f true (aA 38 h 4) λP=>
 gQ f true (az a 33 P) λt=>
 gQ f true (aA 38 i 4) λl=>
 gQ f true (az a 33 l) λC=>
 gQ f true (fK 33 33 35 t C) λu=>
 bA f u λc=>
 gQ c true (aA 38 h 5) λy=>
 gQ c true (az a 29 y) λD=>
 gQ c true (aA 38 i 5) λp=>
 gQ c true (az a 29 p) λk=>
 gQ c true (fK 29 40 42 D k) λn=>
 bA c n λe=>
 gQ e true (aA 38 h 6) λm=>
 gQ e true (az a 36 m) λx=>
 gQ e true (aA 38 i 6) λN=>
 gQ e true (az a 36 N) λz=>
 gW e true a (eN true a 50 133 [x,z]) λq Z=>
 bA e q λv=>
 Q v Z
theorem xF(h : ∀g:dB,cV x0 x1 H Q):dq Tryz.f62 0 [(0,x0),(1,x1)] H Q:=ga (by kernel_rfl) h
def kz:Prop:=
 bu H 1 38 x0 λe h=>
 ar 38 e 0 λV=>
 an h 5 V λU=>
 iZ (cf env.P .eql 5 (Operand.tmp 4) (.const (.int .u8 0)) (some U) (some (a8 0))) λk=>
 gQ k false (aA 38 e 0) λO=>
 gQ k false (az h 5 O) λS=>
 gQ k false (cf env.P .geq 5 (Operand.tmp 8) (.const (.int .u8 4)) (some S) (some (a8 4))) λT=>
 dO k T λf=>
 gQ f false (aA 38 e 1) λR=>
 gQ f false (az h 31 R) λI=>
 gW f false h (eN false h 14 91 [I]) λL j=>
 gQ f false (Fj 42 14 0 L) λC=>
 dO f C λc=>
 gQ c false (aA 38 e 2) λJ=>
 gQ c false (az j 3 J) λq=>
 gQ c false (B9 3 19 1 q) λy=>
 dO c y λd=>
 gQ d false (aA 38 e 2) λw=>
 gQ d false (az j 3 w) λt=>
 gQ d false (vO 3 24 16777216 t) λE=>
 dO d E λb=>
 gQ b false (aA 38 e 3) λF=>
 gQ b false (az j 35 F) λA=>
 gW b false j (eN false j 30 135 [A]) λK N=>
 gQ b false (Fj 42 30 0 K) λG=>
 dO b G λa=>
 gW a false N (eN false N 34 136 []) λo i=>
 gQ a false (aA 38 e 0) λm=>
 gQ a false (az i 5 m) λx=>
 gQ a false (rj env.P 204 (some o) (some x)) λp=>
 gQ a false (B8 203 p 0) λD=>
 gQ a false (az i 38 e) λu=>
 gW a false i (bJ env true (aF env) (cg env 0) i (Ref.mk 0 40 (ai.gen i 0 40) 0) (some D) [u]) λz M=>
 gQ a false (qh z) λn=>
 dO a n λl=>
 br (some l) (
 Q (.v (.int .i64 8)) M) (
 Q (.v (.int .i64 0)) M)
theorem K2(h : ∀g:dB,kz x0 H Q):dq Tryz.f70 0 [(0,x0)] H Q:=ga (by kernel_rfl) h
def zq:Prop:=
 bu H 1 38 x0 λa h=>
 dE h 2 38 λf e=>
 ar 38 a 6 λn=>
 an e 36 n λi=>
 bt true e 5 173 [i] λl k=>
 ar 38 a 6 λj=>
 aN k 36 j l λp d=>
 an d 38 a λm=>
 aN d 38 f m λo c=>
 dN c f 38 λb=>
 Q b c
theorem BO(h : ∀g:dB,zq x0 H Q):dq Tryz.f108 0 [(0,x0)] H Q:=ga (by kernel_rfl) h
def ER:Prop:=
 bu H 1 38 x0 λb a=>
 ar 38 b 6 λe=>
 an a 36 e λh=>
 bt true a 5 176 [h,(.v (.int .i32 (-1)))] λf c=>
 gH f λd=>
 Q d c
theorem K1(h : ∀g:dB,ER x0 H Q):dq Tryz.f121 0 [(0,x0)] H Q:=ga (by kernel_rfl) h
def uJ:Prop:=
 bu H 1 38 x0 λd H1=>
 an H1 38 d λv2=>
 bt true H1 16 70 [v2] λv3 N=>
 lf 42 17 0 v3 λv4=>
 br (some v4) (
 Q (.tup [(.v (.slice none 0 0)),v3]) N) (
 ar 38 d 1 λv5=>
 an N 31 v5 λv6=>
 bt true N 23 162 [v6] λv7 H3=>
 ba v7 0 λv8=>
 ba v7 1 λv9=>
 ar 38 d 3 λO=>
 ar 35 O 0 λv11=>
 an H3 33 v11 λK=>
 bt true H3 30 208 [K] λx H4=>
 ba x 0 λR=>
 ba x 1 λv15=>
 ar 38 d 0 λv16=>
 an H4 5 v16 λv17=>
 tn H4 35 170 1 0 v17 λv18 l=>
 ar 38 d 2 λY=>
 an l 3 Y λv20=>
 XQ 3 38 v20 λW=>
 qm l 40 3 5 W λv22=>
 ar 38 d 2 λv23=>
 an l 3 v23 λX=>
 Su 3 42 X λM=>
 qm l 44 3 5 M λv26=>
 ar 38 d 2 λE=>
 an l 3 E λU=>
 qm l 47 3 5 U λv29=>
 m4 (pJ env.P false true l (Ref.mk 0 48 (ai.gen l 0 48) 0) 170 3 (some [(0,v22),(1,v26),(2,v29)])) λG I=>
 ar 38 d 3 λL=>
 ar 35 L 1 λZ=>
 an I 3 Z λJ=>
 qm I 53 3 5 J λD=>
 tn I 54 170 1 0 D λT H7=>
 m4 (pJ env.P false true H7 (Ref.mk 0 55 (ai.gen H7 0 55) 0) 279 5 (some [(0,v18),(1,v8),(2,G),(3,R),(4,T)])) λC H8=>
 bt true H8 56 209 [C] λh p=>
 ar 38 d 0 λA=>
 an p 5 A λz=>
 xc 5 58 z λS=>
 br (some S) (
 m4 (mQ p (Ref.mk 0 61 (ai.gen p 0 61) 0) (Ez env.P (Ref.mk 0 61 (ai.gen p 0 61) 0) 170 (some (AV.v (Value.int IntKind.i64 13))) (some (AV.v (Value.int IntKind.i64 13))))) λq a=>
 ar 38 d 4 λm=>
 an a 33 m λn=>
 oR 33 λu=>
 vN 33 63 64 n u λi=>
 br (some i) (
 ar 38 d 4 λf=>
 an a 33 f λj=>
 bt true a 69 208 [j] λc b=>
 ba c 0 λe=>
 ba c 1 λv50=>
 ar 38 d 6 λt=>
 an b 36 t λw=>
 bt true b 75 210 [w] λy k=>
 ba y 0 λv54=>
 ba y 1 λv55=>
 m4 (pJ env.P false true k (Ref.mk 0 81 (ai.gen k 0 81) 0) 279 3 (some [(0,h),(1,e),(2,v54)])) λF o=>
 bt true o 82 209 [F] λV H14=>
 Q (.tup [V,(.v (.int .i64 0))]) H14) (
 ar 38 d 6 λf=>
 an a 36 f λj=>
 bt true a 75 210 [j] λc b=>
 ba c 0 λe=>
 ba c 1 λv50=>
 m4 (pJ env.P false true b (Ref.mk 0 81 (ai.gen b 0 81) 0) 279 3 (some [(0,h),(1,q),(2,e)])) λt k=>
 bt true k 82 209 [t] λw o=>
 Q (.tup [w,(.v (.int .i64 0))]) o)) (
 Fh 5 58 z λq=>
 br (some q) (
 ar 38 d 5 λm=>
 an p 29 m λn=>
 Ek 31 0 n λu=>
 bt true p 89 162 [u] λi a=>
 ba i 0 λf=>
 ba i 1 λj=>
 iZ (iQ env.P (ai.get a) 170 (some f) (some none) (oi (.v (.int .i64 5))) (some none)) λc=>
 mG a 95 170 170 h c λe b=>
 Q (.tup [e,(.v (.int .i64 0))]) b) (
 Q (.tup [h,(.v (.int .i64 0))]) p)))
theorem AT(h : ∀g:dB,uJ x0 H Q):dq Tryz.f163 0 [(0,x0)] H Q:=ga (by kernel_rfl) h
def w7:Prop:=
 bu H 1 38 x0 λd b=>
 ar 38 d 4 λj=>
 an b 33 j λl=>
 oR 33 λe=>
 ql 33 4 5 l e λa=>
 gQ a true (aA 38 d 6) λf=>
 gQ a true (az b 36 f) λi=>
 gQ a true (uL b 10 36 i) λk=>
 gQ a true (qW 3 10 0 k) λh=>
 bA a h λc=>
 Q c b
theorem HK(h : ∀g:dB,w7 x0 H Q):dq Tryz.f183 0 [(0,x0)] H Q:=ga (by kernel_rfl) h
def BK:Prop:=
 bu H 1 38 x0 λb a=>
 ar 38 b 5 λe=>
 an a 29 e λh=>
 bt false a 5 185 [] λf c=>
 ql 29 4 5 h f λd=>
 Q d c
theorem HJ(h : ∀g:dB,BK x0 H Q):dq Tryz.f184 0 [(0,x0)] H Q:=ga (by kernel_rfl) h
def jk:Prop:=
 bu H 2 38 x0 λd i=>
 ar 38 d 4 λT=>
 an i 33 T λS=>
 oR 33 λO=>
 ql 33 6 7 S O λf=>
 gQ f false (aA 38 d 4) λP=>
 gQ f false (az i 33 P) λR=>
 gW f false i (eN true i 12 182 [R]) λL E=>
 gQ f false (qW 42 12 0 L) λM=>
 dO f M λF=>
 an E 137 x1 λK=>
 an E 38 d λy=>
 KH E 17 K y λh e=>
 gQ h true (aZ F) λG=>
 bA h G λa=>
 gQ a true (aA 38 d 3) λx=>
 gQ a true (aA 35 x 0) λC=>
 gQ a true (aA 33 C 0) λu=>
 gQ a true (az e 31 u) λq=>
 gQ a true (aA 38 d 1) λz=>
 gQ a true (az e 31 z) λm=>
 gQ a true (fK 31 25 27 q m) λA=>
 bA a A λb=>
 gQ b true (aA 38 d 6) λI=>
 gQ b true (az e 36 I) λD=>
 gQ b true (uL e 33 36 D) λJ=>
 gQ b true (aA 38 d 3) λo=>
 gQ b true (aA 35 o 1) λk=>
 gQ b true (az e 3 k) λv=>
 gQ b true (fK 3 33 36 J v) λp=>
 bA b p λc=>
 gQ c true (aA 38 d 6) λt=>
 gQ c true (az e 36 t) λw=>
 gW c true e (eN true e 42 187 [w]) λn N=>
 gQ c true (qW 42 42 0 n) λj=>
 bA c j λl=>
 Q l N
theorem HI(h : ∀g:dB,jk x0 x1 H Q):dq Tryz.f186 0 [(0,x0),(1,x1)] H Q:=ga (by kernel_rfl) h
def BJ:Prop:=
 bu H 3 38 x0 λd c=>
 an c 137 x1 λh=>
 an c 38 d λl=>
 KH c 7 h l λb a=>
 gQ b true (az a 137 x2) λf=>
 gQ b true (az a 38 d) λe=>
 gW b true a (bJ env true (aF env) (cg env 0) a (Ref.mk 0 11 (ai.gen a 0 11) 0) (some f) [e]) λj i=>
 bA b j λk=>
 Q k i
theorem HH(h : ∀g:dB,BJ x0 x1 x2 H Q):dq Tryz.f189 0 [(0,x0),(1,x1),(2,x2)] H Q:=ga (by kernel_rfl) h
def BI:Prop:=
 bu H 2 38 x0 λd b=>
 an b 137 x1 λi=>
 an b 38 d λm=>
 KH b 6 i m λa c=>
 gQ a true (aA 38 d 5) λh=>
 gQ a true (az c 29 h) λe=>
 gW a true c (eN true c 10 76 [e]) λk j=>
 gQ a true (qW 42 10 0 k) λl=>
 bA a l λf=>
 Q f j
theorem HG(h : ∀g:dB,BI x0 x1 H Q):dq Tryz.f191 0 [(0,x0),(1,x1)] H Q:=ga (by kernel_rfl) h
def oD:Prop:=
 bu H 2 38 x0 λv1 H1=>
 bu H1 3 38 x1 λY R=>
 an R 38 v1 λv3=>
 an R 38 Y λv4=>
 dE R 5 38 λi H3=>
 dE H3 6 38 λj H4=>
 aN H4 38 i v3 λv7 H5=>
 aN H5 38 j v4 λv8 a=>
  mZ [(Y,i)] [i,j] [] a /\
 (ar 38 i 0 λv9=>
 an a 5 v9 λT=>
 ar 38 j 0 λX=>
 an a 5 X λJ=>
 ql 5 10 12 T J λe=>
 gQ e true (aA 38 i 1) λS=>
 gQ e true (az a 31 S) λw=>
 gQ e true (aA 38 j 1) λE=>
 gQ e true (az a 31 E) λO=>
 gQ e true (fK 31 16 18 w O) λC=>
 bA e C λc=>
 gQ c true (aA 38 i 2) λL=>
 gQ c true (az a 3 L) λo=>
 gQ c true (aA 38 j 2) λM=>
 gQ c true (az a 3 M) λI=>
 gQ c true (fK 3 23 25 o I) λV=>
 bA c V λh=>
 gQ h true (aA 38 i 3) λW=>
 gQ h true (az a 35 W) λt=>
 gQ h true (aA 38 j 3) λl=>
 gQ h true (az a 35 l) λD=>
 gQ h true (fK 35 30 32 t D) λv=>
 bA h v λd=>
 gQ d true (aA 38 i 4) λy=>
 gQ d true (az a 33 y) λF=>
 gQ d true (aA 38 j 4) λp=>
 gQ d true (az a 33 p) λk=>
 gQ d true (fK 33 37 39 F k) λn=>
 bA d n λf=>
 gQ f true (aA 38 i 5) λm=>
 gQ f true (az a 29 m) λx=>
 gQ f true (aA 38 j 5) λU=>
 gQ f true (az a 29 U) λA=>
 gQ f true (fK 29 44 46 x A) λq=>
 bA f q λb=>
 gQ b true (aA 38 i 6) λP=>
 gQ b true (az a 36 P) λN=>
 gQ b true (aA 38 j 6) λz=>
 gQ b true (az a 36 z) λK=>
 gW b true a (eN true a 54 226 [N,K]) λG Z=>
 bA b G λu=>
 Q u Z)
theorem NY(h : ∀g:dB,oD x0 x1 H Q):dq Tryz.f211 0 [(0,x0),(1,x1)] H Q:=ga (by kernel_rfl) h
end Go.Proofs.YtmkmimgokagimaaGreat
namespace Go.Proofs.YtmkmimgokagimaaGreat
open Go.Ab
variable(dep:Nat)(g:Nat->AV)(x0 x1 x2 x3:AV)(H:ai)(Q:AV->ai->Prop)
def cC:Prop:=
 bu H 1 173 x0 λb H1=>
 ar 173 b 0 λv2=>
 ar 62 v2 0 λv3=>
 an H1 5 v3 λv4=>
 Ek 62 0 v4 λv5=>
 dE H1 4 62 λS H2=>
 aN H2 62 S v5 λv7 R=>
 ar 173 b 0 λv8=>
 ar 62 v8 0 λv9=>
 an R 5 v9 λv10=>
 xc 5 12 v10 λv11=>
 br (some v11) (
 ar 173 b 0 λZ=>
 ar 62 Z 2 λL=>
 ar 38 L 1 λp=>
 an R 31 p λt=>
 ar 173 b 0 λu=>
 ar 62 u 1 λh=>
 an R 3 h λy=>
 ar 62 S 2 λf=>
 ar 38 f 1 λi=>
 aN R 31 i t λc T=>
 ar 62 S 1 λj=>
 aN T 3 j y λz m=>
  mZ [(h,i)] [i,j] [] m /\
 (ar 173 b 0 λq=>
 ar 62 q 2 λn=>
 ar 38 n 1 λk=>
 an m 31 k λF=>
 bt true m 30 162 [F] λx C=>
 ba x 0 λO=>
 ba x 1 λG=>
 ar 173 b 0 λK=>
 ar 62 K 1 λa=>
 an C 3 a λJ=>
 vP 3 35 0 J λd=>
 gQ d true (aA 173 b 0) λM=>
 gQ d true (aA 62 M 1) λD=>
 gQ d true (az C 3 D) λe=>
 gQ d true (zB 3 40 255 e) λU=>
 bA d U λN=>
 ar 173 b 0 λv40=>
 ar 62 v40 1 λv41=>
 an C 3 v41 λE=>
 qm C 47 3 5 E λW=>
 tn C 48 170 1 0 W λv44 l=>
 mG l 49 170 170 O v44 λv45 H8=>
 ar 173 b 0 λv46=>
 ar 62 v46 0 λv47=>
 an H8 5 v47 λY=>
 tn H8 111 170 1 0 Y λv49 H9=>
 mG H9 113 170 170 v49 v45 λv50 A=>
 gQ N true (aZ G) λv51=>
 gQ N true (qW 42 116 0 v51) λv52=>
 bA N v52 λo=>
 gQ o true (aA 173 b 0) λv54=>
 gQ o true (az A 62 v54) λX=>
 gQ o true (az A 62 S) λV=>
 gW o true A (eN true A 123 165 [X,V]) λv57 w=>
 bA o v57 λv58=>
 Q (.tup [v50,v58]) w)) (
 uM 5 12 v10 λZ=>
 br (some Z) (
 ar 173 b 0 λL=>
 ar 62 L 2 λp=>
 an R 38 p λt=>
 ar 173 b 0 λu=>
 ar 62 u 3 λh=>
 an R 42 h λy=>
 ar 62 S 2 λf=>
 aN R 38 f t λi T=>
 ar 62 S 3 λc=>
 aN T 42 c y λj m=>
  mZ [(h,f)] [f,c] [] m /\
 (ar 173 b 0 λz=>
 ar 62 z 2 λq=>
 an m 38 q λn=>
 bt true m 64 163 [n] λk C=>
 ba k 0 λF=>
 ba k 1 λx=>
 ar 173 b 0 λO=>
 ar 62 O 2 λG=>
 an C 38 G λK=>
 bt true C 70 121 [K] λa l=>
 gQ a true (aA 173 b 0) λJ=>
 gQ a true (aA 62 J 3) λd=>
 gQ a true (az l 42 d) λM=>
 gQ a true (vO 42 74 0 M) λD=>
 bA a D λe=>
 gQ e true (aA 173 b 0) λU=>
 gQ e true (aA 62 U 3) λN=>
 gQ e true (az l 42 N) λv40=>
 gQ e true (B9 42 80 65536 v40) λv41=>
 bA e v41 λE=>
 ar 173 b 0 λW=>
 ar 62 W 3 λv44=>
 an l 42 v44 λv45=>
 Su 42 85 v45 λv46=>
 qm l 87 42 5 v46 λv47=>
 ar 173 b 0 λY=>
 ar 62 Y 3 λv49=>
 an l 42 v49 λv50=>
 qm l 91 42 5 v50 λv51=>
 m4 (pJ env.P false true l (Ref.mk 0 92 (ai.gen l 0 92) 0) 170 2 (some [(0,v47),(1,v51)])) λv52 H8=>
 mG H8 94 170 170 v52 F λo H9=>
 ar 173 b 0 λv54=>
 ar 62 v54 0 λX=>
 an H9 5 X λV=>
 tn H9 111 170 1 0 V λv57 A=>
 mG A 113 170 170 v57 o λv58 w=>
 gQ E true (aZ x) λv59=>
 gQ E true (qW 42 116 0 v59) λv60=>
 bA E v60 λI=>
 gQ I true (aA 173 b 0) λv62=>
 gQ I true (az w 62 v62) λv63=>
 gQ I true (az w 62 S) λv64=>
 gW I true w (eN true w 123 165 [v63,v64]) λv65 H12=>
 bA I v65 λv66=>
 Q (.tup [v58,v66]) H12)) (
 Fh 5 12 v10 λL=>
 br (some L) (
 ar 173 b 0 λp=>
 ar 62 p 4 λt=>
 an R 60 t λu=>
 ar 62 S 4 λh=>
 aN R 60 h u λy T=>
 ar 173 b 0 λf=>
 ar 62 f 4 λi=>
 an T 60 i λc=>
 bt true T 105 164 [c] λj m=>
 ba j 0 λz=>
 ba j 1 λq=>
 ar 173 b 0 λn=>
 ar 62 n 0 λk=>
 an m 5 k λF=>
 tn m 111 170 1 0 F λx C=>
 mG C 113 170 170 x z λO l=>
 gQ (.v (.bool true)) true (aZ q) λG=>
 gQ (.v (.bool true)) true (qW 42 116 0 G) λK=>
 iZ (At (some (AV.v (Value.bool true))) (some K) (some (AV.v (Value.bool false)))) λa=>
 gQ a true (aA 173 b 0) λJ=>
 gQ a true (az l 62 J) λd=>
 gQ a true (az l 62 S) λM=>
 gW a true l (eN true l 123 165 [d,M]) λD H8=>
 bA a D λe=>
 Q (.tup [O,e]) H8) (
 ar 173 b 0 λp=>
 ar 62 p 0 λt=>
 an R 5 t λu=>
 tn R 111 170 1 0 u λh T=>
 m4 (ju env.P true T (Ref.mk 0 113 (ai.gen T 0 113) 0) (some 170) (some 170) h (.v (.slice none 0 0))) λy m=>
 gQ (.v (.bool false)) true (jQ (some (AV.v (Value.int IntKind.i64 0)))) λf=>
 gQ (.v (.bool false)) true (qW 42 116 0 f) λi=>
 iZ (At (some (AV.v (Value.bool false))) (some i) (some (AV.v (Value.bool false)))) λc=>
 gQ c true (aA 173 b 0) λj=>
 gQ c true (az m 62 j) λz=>
 gQ c true (az m 62 S) λq=>
 gW c true m (eN true m 123 165 [z,q]) λn C=>
 bA c n λk=>
 Q (.tup [y,k]) C)))
theorem qN(h : ∀g:dB,cC x0 H Q):dq Tryz.f101 0 [(0,x0)] H Q:=ga (by kernel_rfl) h
noncomputable def dz:=tf Tryz.f209 3
noncomputable def dn:=tf Tryz.f209 11
def jt:Nat->Option (List Nat):=λi=>cond (Nat.beq i 3) (some [11,3,9,0,10]) (cond (Nat.beq i 11) (some [27,6,25,26]) (none))
def mM:Prop:=
 eW H 10 279 x0 λa=>
  bN env Tryz.f209 0 dz [(11,(.v (.int .i64 0))),(3,(.v (.int .i64 0))),(9,x0),(0,x0),(10,a)] H Q
theorem tx(h : ∀g:dB,mM x0 H Q):dq Tryz.f209 0 [(0,x0)] H Q:=vD jt (by kernel_rfl) h
def iu(g:Nat->AV)(a x3 e x0 b:AV)(H:ai)(Q:AV->ai->Prop):Prop:=
 dD 3 11 10 a b λl=>
 br (some l) (
 bK H 279 e a λf=>
 an H 170 f λd=>
 eW H 17 170 d λj=>
 qj 3 15 17 x3 j λc=>
 Fl 3 19 0 c λk=>
 br (some k) (
 iZ (sT env.P 9 (some (.v (.string ⟨#[108,101,110,32,111,117,116,32,111,102,32,114,97,110,103,101]⟩)))) λh=>
 iZ (none) λn=>
 eD 3 11 1 a λm=>
  bN env Tryz.f209 0 dz [(11,m),(3,c),(9,e),(0,x0),(10,b)] H Q) (
 eD 3 11 1 a λh=>
  bN env Tryz.f209 0 dz [(11,h),(3,c),(9,e),(0,x0),(10,b)] H Q)) (
 bt true H 24 225 [(.v (.slice none 0 0)),x3] λf i=>
 eW i 26 279 x0 λd=>
  bN env Tryz.f209 0 dn [(27,(.v (.int .i64 0))),(6,f),(25,x0),(26,d)] i Q)
theorem lZ(b x3 c x0 a:AV)(H:ai)(Q:AV->ai->Prop)(h : ∀g,iu g b x3 c x0 a H Q):bN env Tryz.f209 0 dz [(11,b),(3,x3),(9,c),(0,x0),(10,a)] H Q:=s8 jt (by kernel_rfl) h
def eL(g:Nat->AV)(a d c b:AV)(H:ai)(Q:AV->ai->Prop):Prop:=
 dD 3 27 26 a b λj=>
 br (some j) (
 bK H 279 c a λk=>
 an H 170 k λh=>
 mG H 33 170 170 d h λe i=>
 eD 3 27 1 a λf=>
  bN env Tryz.f209 0 dn [(27,f),(6,e),(25,c),(26,b)] i Q) (
 Q d H)
theorem lu(c d a b:AV)(H:ai)(Q:AV->ai->Prop)(h : ∀g,eL g c d a b H Q):bN env Tryz.f209 0 dn [(27,c),(6,d),(25,a),(26,b)] H Q:=s8 jt (by kernel_rfl) h
def nK:Prop:=
 Fl 3 5 0 x1 λo=>
 br (some o) (
 iZ (sT env.P 9 (some (.v (.string ⟨#[99,97,110,110,111,116,32,98,101,32,110,101,103,97,116,105,118,101]⟩)))) λm=>
 iZ (none) λn=>
 Pz H 10 170 x0 λf=>
 eW H 12 170 x0 λd=>
 KF 3 10 12 f d λh=>
 KF 3 8 13 x1 h λe=>
 Ca 3 15 0 e λl=>
 br (some l) (
 Pz H 19 170 x0 λk=>
 Fg H 170 x0 k λb=>
 mG H 22 170 3 b e λc a=>
 eW a 24 170 x0 λi=>
 Fg a 170 c i λj=>
 Q j a) (
 Q x0 H)) (
 Pz H 10 170 x0 λm=>
 eW H 12 170 x0 λn=>
 KF 3 10 12 m n λf=>
 KF 3 8 13 x1 f λd=>
 Ca 3 15 0 d λh=>
 br (some h) (
 Pz H 19 170 x0 λe=>
 Fg H 170 x0 e λl=>
 mG H 22 170 3 l d λk a=>
 eW a 24 170 x0 λb=>
 Fg a 170 k b λc=>
 Q c a) (
 Q x0 H))
theorem ui(h : ∀g:dB,nK x0 x1 H Q):dq Tryz.f225 0 [(0,x0),(1,x1)] H Q:=ga (by kernel_rfl) h
def tl:Prop:=
 bu H 3 38 x1 λc f=>
 bt true f 9 243 [x0] λd a=>
 lf 42 10 0 d λm=>
 br (some m) (
 Q (.tup [(.v (.bool false)),d]) a) (
 an a 38 c λh=>
 bt true a 14 70 [h] λe b=>
 lf 42 15 0 e λi=>
 br (some i) (
 Q (.tup [(.v (.bool false)),e]) b) (
 an b 38 c λk=>
 bt true b 20 244 [x0,k] λl j=>
 Q (.tup [l,(.v (.int .i64 0))]) j))
theorem HN(h : ∀g:dB,tl x0 x1 H Q):dq Tryz.f235 0 [(0,x0),(1,x1)] H Q:=ga (by kernel_rfl) h
noncomputable def oI:=tf Tryz.f243 4
def Ay:Nat->Option (List Nat):=λi=>cond (Nat.beq i 4) (some [10,0,8,9]) (none)
def vC:Prop:=
 eW H 6 41 x0 λa=>
 Ca 3 6 2048 a λc=>
 br (some c) (
 Q (.v (.int .i64 4)) H) (
 eW H 9 41 x0 λb=>
  bN env Tryz.f243 0 oI [(10,(.v (.int .i64 0))),(0,x0),(8,x0),(9,b)] H Q)
theorem Gd(h : ∀g:dB,vC x0 H Q):dq Tryz.f243 0 [(0,x0)] H Q:=vD Ay (by kernel_rfl) h
def mA(g:Nat->AV)(a x0 m n:AV)(H:ai)(Q:AV->ai->Prop):Prop:=
 dD 3 10 9 a n λx=>
 br (some x) (
 bK H 41 m a λy=>
 an H 38 y λu=>
 dE H 4 38 λd w=>
 aN w 38 d u λA o=>
 an o 38 d λq=>
 bt false o 16 70 [q] λt c=>
 lf 42 16 0 t λb=>
 gQ b false (aZ x0) λz=>
 gQ b false (aZ a) λj=>
 gQ b false (iQ env.P (ai.get c) 41 (some z) (some none) (oi j) (some none)) λl=>
 gQ b false (az c 38 d) λe=>
 gW b false c (eN false c 23 244 [l,e]) λf p=>
 gQ b false (qh f) λh=>
 dO b h λi=>
 br (some i) (
 Q (.v (.int .i64 8)) p) (
 eD 3 10 1 a λk=>
  bN env Tryz.f243 0 oI [(10,k),(0,x0),(8,m),(9,n)] p Q)) (
 Q (.v (.int .i64 0)) H)
theorem xk(a x0 b c:AV)(H:ai)(Q:AV->ai->Prop)(h : ∀g,mA g a x0 b c H Q):bN env Tryz.f243 0 oI [(10,a),(0,x0),(8,b),(9,c)] H Q:=s8 Ay (by kernel_rfl) h
noncomputable def p4:=tf Tryz.f244 5
def Bz:Nat->Option (List Nat):=λi=>cond (Nat.beq i 5) (some [21,3,0,5,20]) (none)
def w9:Prop:=
 bu H 3 38 x1 λb a=>
 ar 38 b 0 λn=>
 an a 5 n λp=>
 iZ (cf env.P .neq 5 (Operand.tmp 10) (.const (.int .u8 3)) (some p) (some (a8 3))) λi=>
 br (some i) (
 Q (.v (.bool true)) a) (
 ar 38 b 1 λl=>
 ar 31 l 0 λj=>
 an a 29 j λm=>
 ar 38 b 5 λo=>
 an a 29 o λk=>
 bt true a 17 47 [m,k] λe h=>
 ar 38 b 3 λf=>
 ar 35 f 1 λc=>
 an h 3 c λd=>
  bN env Tryz.f244 0 p4 [(21,(.v (.int .i64 0))),(3,b),(0,x0),(5,e),(20,d)] h Q)
theorem HM(h : ∀g:dB,w9 x0 x1 H Q):dq Tryz.f244 0 [(0,x0),(1,x1)] H Q:=vD Bz (by kernel_rfl) h
def nj(g:Nat->AV)(c x3 x0 a d:AV)(H:ai)(Q:AV->ai->Prop):Prop:=
 dD 3 21 20 c d λC=>
 br (some C) (
 ar 38 x3 3 λD=>
 an H 35 D λA=>
 bt true H 28 228 [A,c] λv y=>
 ba v 0 λx=>
 ba v 1 λG=>
 dE y 7 33 λw E=>
 aN E 33 w x λF e=>
 gQ a true (aZ x0) λz=>
 gQ a true (az e 33 w) λt=>
 gQ a true (aA 38 x3 1) λf=>
 gQ a true (aA 31 f 0) λm=>
 gQ a true (az e 29 m) λn=>
 gW a true e (eN false e 38 247 [z,t,n]) λq k=>
 gQ a true (aA 38 x3 1) λi=>
 gQ a true (aA 31 i 0) λl=>
 gQ a true (az k 29 l) λp=>
 gW a true k (eN false k 42 246 [q,p]) λj u=>
 bA a j λb=>
 gH b λo=>
 br (some o) (
 Q b u) (
 eD 3 21 1 c λh=>
  bN env Tryz.f244 0 p4 [(21,h),(3,x3),(0,x0),(5,b),(20,d)] u Q)) (
 Q a H)
theorem zK(a x3 x0 c b:AV)(H:ai)(Q:AV->ai->Prop)(h : ∀g,nj g a x3 x0 c b H Q):bN env Tryz.f244 0 p4 [(21,a),(3,x3),(0,x0),(5,c),(20,b)] H Q:=s8 Bz (by kernel_rfl) h
def db:Prop:=
 bu H 3 29 x1 λb a=>
 an a 29 b λd=>
 bt true a 7 248 [x0,d] λf c=>
 vP 3 7 0 f λe=>
 Q e c
theorem gE(h : ∀g:dB,db x0 x1 H Q):dq Tryz.f246 0 [(0,x0),(1,x1)] H Q:=ga (by kernel_rfl) h
noncomputable def Ie:Code:=(Tryz.f247.body).getD .skip
noncomputable def jP:List Item:=(mq 10003 400 [.code Ie]).getD []
noncomputable def dL:Code:=rfA jP
noncomputable def dJ:Code:=rfB jP
noncomputable def ud:List Item:=rfK jP
def wX:Nat->Option (List Nat):=λi=>cond (Nat.beq i 10003) (some [16,7]) (none)
def BC:Nat->Bool:=λi=>false
def BL:Prop:=
 bu H 4 33 x1 λe l=>
 bu l 5 29 x2 λn f=>
 ar 33 e 0 λk=>
 ar 31 k 0 λh=>
 an f 29 h λj=>
 tn f 12 277 1 0 j λi p=>
 dE p 7 277 λd q=>
 aN q 277 d i λt a=>
 an a 33 e λo=>
 an a 29 n λb=>
 bt true a 16 249 [x0,o,b] λc m=>
  bN env Tryz.f247 0 jP [(16,c),(7,d)] m Q
theorem HL(h : ∀g:dB,BL x0 x1 x2 H Q):dq Tryz.f247 0 [(0,x0),(1,x1),(2,x2)] H Q:=vD wX (by kernel_rfl) h
def tO(g:Nat->AV)(b:AV)(H:ai)(Q:AV->ai->Prop):Prop:=
 an H 277 b λa=>
 Q a H
theorem Ak(a:AV)(H:ai)(Q:AV->ai->Prop)(h : ∀g,tO g a H Q):bN env Tryz.f247 0 ud [(7,a)] H Q:=⟨λg=>KP (live:=wX) (cut:=BC) (n:=500) (Eq.mp (by kernel_rfl) (h g))⟩
def jW(r:Ref)(g:Nat->AV)(e d:AV)(H:ai)(Q:AV->ai->Prop):Prop:=
 m4 (mQ H (⟨2,8,ai.gen H 2 8,0⟩:Ref) (wV env.P (⟨2,8,ai.gen H 2 8,0⟩:Ref) 29)) λf t=>
 aN t 29 f d λx a=>
  bgP (zb a r) λc=>
 iZ (tD env.P (ai.get (ai.put a r (some (kE 1 c)))) 277 (some e)) λl=>
 iZ (tD env.P (ai.get (ai.put a r (some (kE 1 c)))) 29 (some f)) λo=>
 m4 (bJ env true (aF env) (cg env 2) (ai.put a r (some (kE 1 c))) (⟨2,20,ai.gen (ai.put a r (some (kE 1 c))) 2 20,0⟩:Ref) (some (.fn (.func 246) [] [])) [l,o]) λm b=>
 gH m λp=>
 br (some p) (
 an b 277 e λq=>
 an b 29 f λw=>
 m4 (pJ env.P false true b (⟨2,24,ai.gen b 2 24,0⟩:Ref) 277 1 (some [(0,w)])) λh j=>
 m4 (ju env.P true j (⟨2,25,ai.gen j 2 25,0⟩:Ref) (some 277) (some 277) q h) λi k=>
 aN k 277 e i λn u=>
 Q (.v (.int .i64 0)) u) (
 Q (.v (.int .i64 0)) b)
theorem Bf(r:Ref)(b a:AV)(H:ai)(Q:AV->ai->Prop)(h : ∀g,jW r g b a H Q):XN env Tryz.f247 (some r) 2 [.code dL,.beginRound,.code dJ] [(7,b),(17,a)] H Q:=⟨λg=>KP (live:=wX) (cut:=BC) (n:=500) (Eq.mp (by kernel_rfl) (h g))⟩
noncomputable def bw:=tf Tryz.f248 2
def dy:Nat->Option (List Nat):=λi=>cond (Nat.beq i 2) (some [8,0,3,7]) (none)
def dA:Prop:=
 bu H 3 29 x1 λb a=>
 eW a 7 277 x0 λc=>
  bN env Tryz.f248 0 bw [(8,(.v (.int .i64 0))),(0,x0),(3,b),(7,c)] a Q
theorem ir(h : ∀g:dB,dA x0 x1 H Q):dq Tryz.f248 0 [(0,x0),(1,x1)] H Q:=vD dy (by kernel_rfl) h
def bx(g:Nat->AV)(a x0 x3 b:AV)(H:ai)(Q:AV->ai->Prop):Prop:=
 dD 3 8 7 a b λh=>
 br (some h) (
 an H 29 x3 λi=>
 bK H 277 x0 a λf=>
 an H 29 f λc=>
 ql 29 11 15 i c λe=>
 br (some e) (
 Q a H) (
 eD 3 8 1 a λd=>
  bN env Tryz.f248 0 bw [(8,d),(0,x0),(3,x3),(7,b)] H Q)) (
 Q (.v (.int .i64 (-1))) H)
theorem df(a x0 x3 b:AV)(H:ai)(Q:AV->ai->Prop)(h : ∀g,bx g a x0 x3 b H Q):bN env Tryz.f248 0 bw [(8,a),(0,x0),(3,x3),(7,b)] H Q:=s8 dy (by kernel_rfl) h
def zV:Prop:=
 bu H 3 41 x0 λb a=>
 bu a 4 33 x1 λf d=>
 bu d 5 29 x2 λh e=>
 iZ (ue (.func 250) (some []) (some [b,f,h])) λc=>
 Q c e
theorem E0(h : ∀g:dB,zV x0 x1 x2 H Q):dq Tryz.f249 0 [(0,x0),(1,x1),(2,x2)] H Q:=ga (by kernel_rfl) h
noncomputable def Df:Code:=(Tryz.f250.body).getD .skip
noncomputable def me:=tf Tryz.f250 1
def we:Nat->Option (List Nat):=λi=>cond (Nat.beq i 1) (some [11,0,3,2,9,10]) (none)
def wG:Prop:=
 an H 41 x1 λa=>
 Fi H dep 10 41 a λb=>
  bN env Tryz.f250 (dep+1) me [(11,(.v (.int .i64 0))),(0,x0),(3,x3),(2,x2),(9,a),(10,b)] H Q
theorem Ct(h : ∀g:dB,wG dep x0 x1 x2 x3 H Q):dq Tryz.f250 (dep+1) [(0,x0),(1,x1),(2,x2),(3,x3)] H Q:=vD we (by kernel_rfl) h
def ib(dep:Nat)(g:Nat->AV)(c x0 x3 x2 G e:AV)(H:ai)(Q:AV->ai->Prop):Prop:=
 dD 3 11 10 c e λN=>
 br (some N) (
 bK H 41 G c λO=>
 an H 38 O λM=>
 pe H dep 6 38 λf J=>
 aN J 38 f M λR j=>
 ar 38 f 3 λK=>
 an j 35 K λL=>
 an j 33 x2 λI=>
 m4 (bJ env true (aF env) (cg env (dep+1)) j (⟨(dep+1),19,ai.gen j (dep+1) 19,0⟩:Ref) (some (.fn (.func 251) [] [])) [L,I]) λE d=>
 ba E 0 λP=>
 ba E 1 λl=>
 ar 38 f 0 λw=>
 an d 5 w λx=>
 Fh 5 23 x λh=>
 gQ h true (aZ l) λo=>
 bA h o λa=>
 gQ a true (aA 38 f 1) λz=>
 gQ a true (aA 31 z 0) λq=>
 gQ a true (az d 29 q) λp=>
 gQ a true (az d 29 x3) λy=>
 gW a true d (bJ env true (aF env) (cg env (dep+1)) d (⟨(dep+1),33,ai.gen d (dep+1) 33,0⟩:Ref) (some (.fn (.func 47) [] [])) [p,y]) λm i=>
 bA a m λb=>
 gQ b true (aZ x0) λu=>
 gQ b true (aA 38 f 5) λC=>
 gQ b true (az i 29 C) λA=>
 gW b true i (bJ env true (aF env) (cg env (dep+1)) i (⟨(dep+1),39,ai.gen i (dep+1) 39,0⟩:Ref) (some u) [A]) λD F=>
 gQ b true (qh D) λn=>
 bA b n λk=>
 br (some k) (
 Q (.v (.tuple #[])) F) (
 eD 3 11 1 c λt=>
  bN env Tryz.f250 (dep+1) me [(11,t),(0,x0),(3,x3),(2,x2),(9,G),(10,e)] F Q)) (
 Q (.v (.tuple #[])) H)
theorem uc(dep:Nat)(a x0 x3 x2 c b:AV)(H:ai)(Q:AV->ai->Prop)(h : ∀g,ib dep g a x0 x3 x2 c b H Q):bN env Tryz.f250 (dep+1) me [(11,a),(0,x0),(3,x3),(2,x2),(9,c),(10,b)] H Q:=s8 we (by kernel_rfl) h
noncomputable def yg:Code:=(Tryz.f14.body).getD .skip
noncomputable def iC:=tf Tryz.f14 3
def qz:Nat->Option (List Nat):=λi=>cond (Nat.beq i 3) (some [4,0,3]) (none)
def qK:Prop:=
 bN env Tryz.f14 0 iC [(4,(.v (.int .i64 0))),(0,x0),(3,(.v (.slice none 0 0)))] H Q
theorem xJ(h : ∀g:dB,qK x0 H Q):dq Tryz.f14 0 [(0,x0)] H Q:=vD qz (by kernel_rfl) h
def iE(g:Nat->AV)(a x0 x3:AV)(H:ai)(Q:AV->ai->Prop):Prop:=
 eW H 7 26 x0 λj=>
 dD 3 5 7 a j λm=>
 br (some m) (
 bK H 26 x0 a λh=>
 an H 62 h λb=>
 bt true H 16 55 [b] λd i=>
 tn i 17 26 1 0 d λc k=>
 mG k 18 26 26 x3 c λe l=>
 eD 3 9 1 a λf=>
  bN env Tryz.f14 0 iC [(4,f),(0,x0),(3,e)] l Q) (
 Q x3 H)
theorem kX(a x0 x3:AV)(H:ai)(Q:AV->ai->Prop)(h : ∀g,iE g a x0 x3 H Q):bN env Tryz.f14 0 iC [(4,a),(0,x0),(3,x3)] H Q:=s8 qz (by kernel_rfl) h
def jJ:Prop:=
 bu H 3 25 x0 λh q=>
 bu q 5 62 x2 λi j=>
 an j 25 h λp=>
 bt true j 10 66 [p,x1] λl d=>
 gH l λa=>
 gQ a false (az d 62 i) λm=>
 gW a false d (eN true d 14 85 [m]) λn b=>
 gQ a false (qh n) λo=>
 dO a o λt=>
 br (some t) (
 Q (.tup [(.v (.bool false)),(.v (.int .i64 8))]) b) (
 an b 25 h λe=>
 an b 62 i λf=>
 bt true b 20 86 [e,x1,f] λc k=>
 Q (.tup [c,(.v (.int .i64 0))]) k)
theorem xp(h : ∀g:dB,jJ x0 x1 x2 H Q):dq Tryz.f24 0 [(0,x0),(1,x1),(2,x2)] H Q:=ga (by kernel_rfl) h
def kY:Prop:=
 bu H 2 25 x0 λe k=>
 dE k 4 25 λb h=>
 an h 25 e λo=>
 bt true h 8 66 [o,x1] λl d=>
 gH l λn=>
 br (some n) (
 oR 25 λc=>
 aN d 25 b c λi a=>
 dN a b 25 λj=>
 Q (.tup [j,(.v (.int .i64 8))]) a) (
 an d 25 e λc=>
 bt true d 13 89 [c,x1] λi a=>
 aN a 25 b i λj f=>
 dN f b 25 λm=>
 Q (.tup [m,(.v (.int .i64 0))]) f)
theorem oU(h : ∀g:dB,kY x0 x1 H Q):dq Tryz.f26 0 [(0,x0),(1,x1)] H Q:=ga (by kernel_rfl) h
def gX:Prop:=
 bu H 3 25 x0 λw u=>
 bu u 5 31 x2 λm y=>
 dE y 6 73 λe n=>
 an n 25 w λo=>
 bt true n 10 66 [o,x1] λp j=>
 gH p λd=>
 gQ d false (az j 31 m) λq=>
 gW d false j (eN true j 14 93 [q]) λt h=>
 gQ d false (qh t) λx=>
 dO d x λk=>
 br (some k) (
 oR 73 λa=>
 aN h 73 e a λb f=>
 dN f e 73 λc=>
 Q (.tup [c,(.v (.int .i64 8))]) f) (
 an h 31 m λa=>
 bt true h 20 94 [x1,a] λb f=>
 aN f 73 e b λc l=>
 dN l e 73 λi=>
 Q (.tup [i,(.v (.int .i64 0))]) l)
theorem uV(h : ∀g:dB,gX x0 x1 x2 H Q):dq Tryz.f28 0 [(0,x0),(1,x1),(2,x2)] H Q:=ga (by kernel_rfl) h
def gw:Prop:=
 bu H 4 25 x0 λu t=>
 bu t 6 31 x2 λk l=>
 an l 25 u λq=>
 bt true l 14 66 [q,x1] λm f=>
 gH m λb=>
 gQ b false (az f 31 k) λn=>
 gW b false f (eN true f 18 93 [n]) λo h=>
 gQ b false (qh o) λp=>
 dO b p λw=>
 br (some w) (
 Q (.tup [(.v (.int .i64 0)),(.v (.int .i64 8))]) h) (
 an h 31 k λi=>
 bt true h 25 96 [x1,i,x3] λa j=>
 ba a 0 λc=>
 ba a 1 λd=>
 gH d λe=>
 br (some e) (
 Q (.tup [(.v (.int .i64 0)),(.v (.int .i64 6))]) j) (
 Q (.tup [c,(.v (.int .i64 0))]) j))
theorem xv(h : ∀g:dB,gw x0 x1 x2 x3 H Q):dq Tryz.f30 0 [(0,x0),(1,x1),(2,x2),(3,x3)] H Q:=ga (by kernel_rfl) h
def jI:Prop:=
 bu H 3 25 x0 λw u=>
 bu u 5 29 x2 λm y=>
 dE y 6 81 λe n=>
 an n 25 w λo=>
 bt true n 10 66 [o,x1] λp j=>
 gH p λd=>
 gQ d false (az j 29 m) λq=>
 gW d false j (eN true j 14 78 [q]) λt h=>
 gQ d false (qh t) λx=>
 dO d x λk=>
 br (some k) (
 oR 81 λa=>
 aN h 81 e a λb f=>
 dN f e 81 λc=>
 Q (.tup [c,(.v (.int .i64 8))]) f) (
 an h 29 m λa=>
 bt true h 20 99 [x1,a] λb f=>
 aN f 81 e b λc l=>
 dN l e 81 λi=>
 Q (.tup [i,(.v (.int .i64 0))]) l)
theorem xl(h : ∀g:dB,jI x0 x1 x2 H Q):dq Tryz.f32 0 [(0,x0),(1,x1),(2,x2)] H Q:=ga (by kernel_rfl) h
noncomputable def iA:=tf Tryz.f33 4
noncomputable def iz:=tf Tryz.f33 9
def mm:Nat->Option (List Nat):=λi=>cond (Nat.beq i 4) (some [5,3,2]) (cond (Nat.beq i 9) (some [6,3,2]) (none))
def qJ:Prop:=
 bu H 2 25 x0 λd D=>
 bu D 3 25 x1 λe b=>
 ar 25 d 0 λC=>
 an b 22 C λw=>
 eW b 9 22 w λy=>
 ar 25 e 0 λx=>
 an b 22 x λz=>
 eW b 12 22 z λA=>
 vN 3 9 12 y A λc=>
 gQ c false (aA 25 d 1) λq=>
 gQ c false (az b 23 q) λu=>
 gQ c false (uL b 17 23 u) λh=>
 gQ c false (aA 25 e 1) λj=>
 gQ c false (az b 23 j) λm=>
 gQ c false (uL b 20 23 m) λn=>
 gQ c false (Il 3 17 20 h n) λt=>
 dO c t λa=>
 gQ a false (aA 25 d 2) λp=>
 gQ a false (az b 3 p) λo=>
 gQ a false (aA 25 e 2) λk=>
 gQ a false (az b 3 k) λi=>
 gQ a false (Il 3 25 27 o i) λl=>
 dO a l λf=>
 br (some f) (
 Q (.v (.bool false)) b) (
  bN env Tryz.f33 0 iA [(5,(.v (.int .i64 0))),(3,e),(2,d)] b Q)
theorem xH(h : ∀g:dB,qJ x0 x1 H Q):dq Tryz.f33 0 [(0,x0),(1,x1)] H Q:=vD mm (by kernel_rfl) h
def k8(g:Nat->AV)(a x3 x2:AV)(H:ai)(Q:AV->ai->Prop):Prop:=
 ar 25 x2 0 λn=>
 an H 22 n λp=>
 eW H 33 22 p λm=>
 dD 3 30 33 a m λh=>
 br (some h) (
 ar 25 x2 0 λj=>
 an H 22 j λi=>
 bK H 22 i a λk=>
 an H 58 k λl=>
 ar 25 x3 0 λo=>
 an H 22 o λf=>
 bK H 22 f a λb=>
 an H 58 b λc=>
 vN 58 41 46 l c λd=>
 br (some d) (
 Q (.v (.bool false)) H) (
 eD 3 35 1 a λe=>
  bN env Tryz.f33 0 iA [(5,e),(3,x3),(2,x2)] H Q)) (
  bN env Tryz.f33 0 iz [(6,(.v (.int .i64 0))),(3,x3),(2,x2)] H Q)
theorem oW(a x3 x2:AV)(H:ai)(Q:AV->ai->Prop)(h : ∀g,k8 g a x3 x2 H Q):bN env Tryz.f33 0 iA [(5,a),(3,x3),(2,x2)] H Q:=s8 mm (by kernel_rfl) h
def k6(g:Nat->AV)(a x3 x2:AV)(H:ai)(Q:AV->ai->Prop):Prop:=
 ar 25 x2 1 λn=>
 an H 23 n λp=>
 eW H 51 23 p λm=>
 dD 3 48 51 a m λh=>
 br (some h) (
 ar 25 x2 1 λj=>
 an H 23 j λi=>
 bK H 23 i a λk=>
 an H 81 k λl=>
 ar 25 x3 1 λo=>
 an H 23 o λf=>
 bK H 23 f a λb=>
 an H 81 b λc=>
 vN 81 59 64 l c λd=>
 br (some d) (
 Q (.v (.bool false)) H) (
 eD 3 53 1 a λe=>
  bN env Tryz.f33 0 iz [(6,e),(3,x3),(2,x2)] H Q)) (
 Q (.v (.bool true)) H)
theorem oV(a x3 x2:AV)(H:ai)(Q:AV->ai->Prop)(h : ∀g,k6 g a x3 x2 H Q):bN env Tryz.f33 0 iz [(6,a),(3,x3),(2,x2)] H Q:=s8 mm (by kernel_rfl) h
def lR:Prop:=
 bu H 2 25 x0 λc a=>
 an a 25 c λd=>
 bt true a 7 66 [d,x1] λf b=>
 gH f λe=>
 br (some e) (
 Q (.v (.int .i64 8)) b) (
 Q (.v (.int .i64 0)) b)
theorem wJ(h : ∀g:dB,lR x0 x1 H Q):dq Tryz.f35 0 [(0,x0),(1,x1)] H Q:=ga (by kernel_rfl) h
def qH:Prop:=
 bu H 1 62 x0 λa h=>
 dE h 2 62 λf e=>
 ar 62 a 2 λn=>
 an e 38 n λi=>
 bt true e 5 56 [i] λl k=>
 ar 62 a 2 λj=>
 aN k 38 j l λp d=>
 an d 62 a λm=>
 aN d 62 f m λo c=>
 dN c f 62 λb=>
 Q b c
theorem xB(h : ∀g:dB,qH x0 H Q):dq Tryz.f55 0 [(0,x0)] H Q:=ga (by kernel_rfl) h
def mC:Prop:=
 bu H 1 38 x0 λa h=>
 dE h 2 38 λf b=>
 ar 38 a 6 λn=>
 an b 36 n λi=>
 m4 (ju env.P true b (Ref.mk 0 5 (ai.gen b 0 5) 0) (some 36) (some 36) (.v (.slice none 0 0)) i) λl k=>
 ar 38 a 6 λj=>
 aN k 36 j l λp e=>
 an e 38 a λm=>
 aN e 38 f m λo d=>
 dN d f 38 λc=>
 Q c d
theorem xE(h : ∀g:dB,mC x0 H Q):dq Tryz.f56 0 [(0,x0)] H Q:=ga (by kernel_rfl) h
noncomputable def jf:=tf Tryz.f66 4
def rr:Nat->Option (List Nat):=λi=>cond (Nat.beq i 4) (some [5,1,2]) (none)
def kj:Prop:=
 bu H 2 25 x0 λd c=>
 an c 25 d λh=>
 bt true c 7 134 [h] λk b=>
 gH k λa=>
 gQ a false (aZ x1) λf=>
 gQ a false (uL b 11 26 f) λe=>
 gQ a false (zA 3 11 2048 e) λi=>
 dO a i λj=>
 br (some j) (
 Q (.v (.bool false)) b) (
  bN env Tryz.f66 0 jf [(5,(.v (.int .i64 0))),(1,x1),(2,d)] b Q)
theorem yA(h : ∀g:dB,kj x0 x1 H Q):dq Tryz.f66 0 [(0,x0),(1,x1)] H Q:=vD rr (by kernel_rfl) h
def fT(g:Nat->AV)(c x1 x2:AV)(H:ai)(Q:AV->ai->Prop):Prop:=
 eW H 16 26 x1 λw=>
 dD 3 14 16 c w λy=>
 br (some y) (
 bK H 26 x1 c λu=>
 an H 62 u λo=>
 bt false H 24 85 [o] λp b=>
 gH p λa=>
 gQ a false (az b 25 x2) λq=>
 gQ a false (aZ x1) λt=>
 gQ a false (aZ c) λx=>
 gQ a false (iQ env.P (ai.get b) 26 (some t) (some none) (oi x) (some none)) λk=>
 gQ a false (aZ x1) λm=>
 gQ a false (aZ c) λd=>
 gQ a false (qi b 26 m d) λe=>
 gQ a false (az b 62 e) λf=>
 gW a false b (eN false b 35 86 [q,k,f]) λh n=>
 gQ a false (qh h) λl=>
 dO a l λi=>
 br (some i) (
 Q (.v (.bool false)) n) (
 eD 3 18 1 c λj=>
  bN env Tryz.f66 0 jf [(5,j),(1,x1),(2,x2)] n Q)) (
 Q (.v (.bool true)) H)
theorem pg(a x1 x2:AV)(H:ai)(Q:AV->ai->Prop)(h : ∀g,fT g a x1 x2 H Q):bN env Tryz.f66 0 jf [(5,a),(1,x1),(2,x2)] H Q:=s8 rr (by kernel_rfl) h
noncomputable def ye:Code:=(Tryz.f68.body).getD .skip
noncomputable def fu:=tf Tryz.f68 3
def qw:Nat->Option (List Nat):=λi=>cond (Nat.beq i 3) (some [4,0,3]) (none)
def qD:Prop:=
 bN env Tryz.f68 0 fu [(4,(.v (.int .i64 0))),(0,x0),(3,(.v (.slice none 0 0)))] H Q
theorem xt(h : ∀g:dB,qD x0 H Q):dq Tryz.f68 0 [(0,x0)] H Q:=vD qw (by kernel_rfl) h
def ef(g:Nat->AV)(c x0 x3:AV)(H:ai)(Q:AV->ai->Prop):Prop:=
 eW H 7 26 x0 λv=>
 dD 3 5 7 c v λy=>
 br (some y) (
 bK H 26 x0 c λt=>
 ar 62 t 0 λn=>
 an H 5 n λo=>
 uM 5 15 o λa=>
 gQ a true (aZ x0) λp=>
 gQ a true (aZ c) λq=>
 gQ a true (qi H 26 p q) λw=>
 gQ a true (aA 62 w 3) λk=>
 gQ a true (az H 42 k) λm=>
 gQ a true (qW 42 22 0 m) λd=>
 bA a d λe=>
 br (some e) (
 bK H 26 x0 c λb=>
 ar 62 b 2 λh=>
 an H 38 h λl=>
 tn H 31 41 1 0 l λf u=>
 mG u 32 41 41 x3 f λj x=>
 eD 3 9 1 c λi=>
  bN env Tryz.f68 0 fu [(4,i),(0,x0),(3,j)] x Q) (
 eD 3 9 1 c λb=>
  bN env Tryz.f68 0 fu [(4,b),(0,x0),(3,x3)] H Q)) (
 Q x3 H)
theorem fq(a x0 x3:AV)(H:ai)(Q:AV->ai->Prop)(h : ∀g,ef g a x0 x3 H Q):bN env Tryz.f68 0 fu [(4,a),(0,x0),(3,x3)] H Q:=s8 qw (by kernel_rfl) h
def aX:Prop:=
 bu H 1 38 x0 λd H1=>
 ar 38 d 1 λv2=>
 an H1 31 v2 λv3=>
 bt true H1 6 93 [v3] λv4 K=>
 gH v4 λL=>
 gQ L false (aA 38 d 2) λv6=>
 gQ L false (az K 3 v6) λv7=>
 gQ L false (B9 3 10 1 v7) λv8=>
 dO L v8 λM=>
 gQ M false (aA 38 d 2) λv10=>
 gQ M false (az K 3 v10) λv11=>
 gQ M false (vO 3 15 16777216 v11) λY=>
 dO M Y λj=>
 gQ j false (aA 38 d 3) λv14=>
 gQ j false (az K 35 v14) λS=>
 gW j false K (eN true K 21 138 [S]) λW n=>
 gQ j false (qh W) λv17=>
 dO j v17 λV=>
 br (some V) (
 Q (.v (.bool false)) n) (
 ar 38 d 5 λU=>
 an n 29 U λv20=>
 oR 29 λO=>
 ql 29 25 26 v20 O λf=>
 ar 38 d 0 λX=>
 an n 5 X λv24=>
 xc 5 29 v24 λv25=>
 br (some v25) (
 gQ f true (aA 38 d 4) λJ=>
 gQ f true (az n 33 J) λu=>
 gW f true n (eN true n 35 139 [u]) λp i=>
 gQ f true (aZ p) λc=>
 gQ c false (aA 38 d 4) λw=>
 gQ c false (az i 33 w) λD=>
 gW c false i (eN true i 39 140 [D]) λx l=>
 gQ f true (KE c x) λA=>
 bA f A λa=>
 gQ a true (aA 38 d 3) λo=>
 gQ a true (aA 35 o 0) λt=>
 gQ a true (aA 33 t 0) λm=>
 gQ a true (az l 31 m) λq=>
 gQ a true (aA 38 d 1) λe=>
 gQ a true (az l 31 e) λI=>
 gQ a true (fK 31 46 48 q I) λz=>
 bA a z λb=>
 gQ b true (aA 38 d 6) λh=>
 gQ b true (az l 36 h) λG=>
 gQ b true (uL l 54 36 G) λF=>
 gQ b true (aA 38 d 3) λy=>
 gQ b true (aA 35 y 1) λE=>
 gQ b true (az l 3 E) λC=>
 gQ b true (fK 3 54 57 F C) λR=>
 bA b R λk=>
 gQ k true (aA 38 d 6) λv51=>
 gQ k true (az l 36 v51) λN=>
 gW k true l (eN true l 63 141 [N]) λv53 H6=>
 gQ k true (qW 3 63 0 v53) λZ=>
 bA k Z λT=>
 Q T H6) (
 ar 38 d 4 λJ=>
 an n 33 J λu=>
 bt true n 68 139 [u] λp i=>
 gH p λc=>
 gQ c false (aA 38 d 6) λw=>
 gQ c false (az i 36 w) λD=>
 gQ c false (uL i 73 36 D) λx=>
 gQ c false (zA 3 73 0 x) λA=>
 dO c A λa=>
 br (some a) (
 Q (.v (.bool false)) i) (
 ar 38 d 0 λo=>
 an i 5 o λt=>
 uM 5 77 t λm=>
 gQ m true (aZ f) λq=>
 bA m q λe=>
 gQ e false (aA 38 d 0) λI=>
 gQ e false (az i 5 I) λz=>
 gQ e false (cf env.P .eql 5 (Operand.tmp 84) (.const (.int .u8 3)) (some z) (some (a8 3))) λb=>
 gQ e false (aZ b) λh=>
 gQ h true (aA 38 d 5) λG=>
 gQ h true (az i 29 G) λF=>
 gW h true i (eN true i 89 78 [F]) λy l=>
 gQ e false (Ik h y) λE=>
 dO e E λC=>
 Q C l)))
theorem yF(h : ∀g:dB,aX x0 H Q):dq Tryz.f73 0 [(0,x0)] H Q:=ga (by kernel_rfl) h
def fx:Prop:=
 bu H 3 25 x0 λL F=>
 bu F 5 38 x2 λd M=>
 bt false M 9 68 [x1] λK D=>
 an D 38 d λG=>
 bt false D 11 142 [K,G] λA b=>
 lf 3 12 0 A λI=>
 br (some I) (
 Q A b) (
 ar 38 d 0 λJ=>
 an b 5 J λE=>
 xc 5 16 E λa=>
 gQ a true (aZ x1) λw=>
 gQ a true (aA 38 d 1) λz=>
 gQ a true (aA 31 z 0) λm=>
 gQ a true (az b 29 m) λn=>
 gW a true b (eN false b 23 99 [w,n]) λu c=>
 gQ a true (B8 81 u 3) λh=>
 gQ a true (aA 38 d 3) λk=>
 gQ a true (aA 35 k 1) λq=>
 gQ a true (az c 3 q) λj=>
 gQ a true (Px 3 24 27 h j) λi=>
 gQ a true (az c 25 L) λo=>
 gQ a true (aA 38 d 1) λe=>
 gQ a true (aA 31 e 0) λp=>
 gQ a true (az c 29 p) λl=>
 gW a true c (eN false c 33 143 [o,l]) λx C=>
 gQ a true (B8 81 x 3) λt=>
 gQ a true (So 3 28 34 i t) λy=>
 bA a y λf=>
 br (some f) (
 Q (.v (.int .i64 9)) C) (
 Q (.v (.int .i64 0)) C))
theorem vG(h : ∀g:dB,fx x0 x1 x2 H Q):dq Tryz.f74 0 [(0,x0),(1,x1),(2,x2)] H Q:=ga (by kernel_rfl) h
def sf:Prop:=
 bu H 1 29 x0 λb a=>
 ar 29 b 0 λc=>
 an a 5 c λe=>
 iZ (cf env.P .leq 5 (Operand.tmp 4) (.const (.int .u8 15)) (some e) (some (a8 15))) λd=>
 Q d a
theorem yM(h : ∀g:dB,sf x0 H Q):dq Tryz.f78 0 [(0,x0)] H Q:=ga (by kernel_rfl) h
def bc:Prop:=
 bu H 1 62 x0 λd m=>
 ar 62 d 0 λM=>
 an m 5 M λL=>
 xc 5 4 L λK=>
 br (some K) (
 ar 62 d 2 λE=>
 an m 38 E λJ=>
 bt true m 8 154 [J] λC n=>
 gQ C true (aA 62 d 2) λF=>
 gQ C true (aA 38 F 1) λI=>
 gQ C true (az n 31 I) λD=>
 gW C true n (eN true n 13 93 [D]) λx o=>
 bA C x λi=>
 gQ i true (aA 62 d 1) λa=>
 gQ i true (az o 3 a) λu=>
 gQ i true (vO 3 17 0 u) λp=>
 bA i p λh=>
 gQ h true (aA 62 d 1) λl=>
 gQ h true (az o 3 l) λf=>
 gQ h true (zB 3 22 255 f) λq=>
 bA h q λj=>
 gQ j true (aA 62 d 3) λe=>
 gQ j true (az o 42 e) λk=>
 gQ j true (qW 42 27 0 k) λt=>
 bA j t λc=>
 gQ c true (aA 62 d 4) λb=>
 gQ c true (az o 60 b) λw=>
 gQ c true (Pv 60) λz=>
 gQ c true (fK 60 32 33 w z) λy=>
 bA c y λA=>
 Q A o) (
 ar 62 d 1 λE=>
 an m 3 E λJ=>
 lf 3 37 0 J λC=>
 br (some C) (
 Q (.v (.bool false)) m) (
 ar 62 d 0 λF=>
 an m 5 F λI=>
 uM 5 40 I λD=>
 br (some D) (
 ar 62 d 2 λx=>
 an m 38 x λi=>
 bt true m 44 73 [i] λa n=>
 gQ a true (aA 62 d 2) λu=>
 gQ a true (az n 38 u) λp=>
 gW a true n (eN true n 48 155 [p]) λh o=>
 bA a h λl=>
 gQ l true (aA 62 d 3) λf=>
 gQ l true (az o 42 f) λq=>
 gQ l true (vO 42 52 0 q) λj=>
 bA l j λe=>
 gQ e true (aA 62 d 3) λk=>
 gQ e true (az o 42 k) λt=>
 gQ e true (B9 42 57 65536 t) λc=>
 bA e c λb=>
 gQ b true (aA 62 d 4) λw=>
 gQ b true (az o 60 w) λz=>
 gQ b true (Pv 60) λy=>
 gQ b true (fK 60 62 63 z y) λA=>
 bA b A λG=>
 Q G o) (
 ar 62 d 0 λx=>
 an m 5 x λi=>
 Fh 5 67 i λa=>
 gQ a true (aA 62 d 2) λu=>
 gQ a true (az m 38 u) λp=>
 gQ a true (Pv 38) λh=>
 gW a true m (eN true m 73 62 [p,h]) λl n=>
 bA a l λf=>
 gQ f true (aA 62 d 3) λq=>
 gQ f true (az n 42 q) λj=>
 gQ f true (qW 42 77 0 j) λe=>
 bA f e λk=>
 gQ k true (aA 62 d 4) λt=>
 gQ k true (az n 60 t) λc=>
 gW k true n (eN true n 83 156 [c]) λb o=>
 bA k b λw=>
 Q w o)))
theorem yE(h : ∀g:dB,bc x0 H Q):dq Tryz.f85 0 [(0,x0)] H Q:=ga (by kernel_rfl) h
def bm:Prop:=
 bu H 3 25 x0 λR H1=>
 bu H1 5 62 x2 λo H2=>
 an H2 25 R λv3=>
 bt true H2 14 89 [v3,x1] λv4 H3=>
 dE H3 7 25 λS H4=>
 aN H4 25 S v4 λv6 M=>
 ar 62 o 0 λv7=>
 an M 5 v7 λv8=>
 Fh 5 16 v8 λv9=>
 br (some v9) (
 an M 25 S λC=>
 ar 62 o 4 λL=>
 an M 60 L λx=>
 bt true M 22 157 [C,x] λn W=>
 ba n 0 λf=>
 ba n 1 λN=>
 dE W 8 25 λK P=>
 aN P 25 K f λO H8=>
 zC 3 25 0 N λI=>
 Q I H8) (
 ar 62 o 2 λC=>
 ar 38 C 1 λL=>
 ar 31 L 0 λx=>
 an M 29 x λn=>
 dE M 10 29 λf W=>
 aN W 29 f n λN P=>
 ar 62 o 2 λK=>
 ar 38 K 1 λO=>
 an P 31 O λI=>
 bt true P 35 94 [x1,I] λv19 H8=>
 dE H8 11 73 λm H9=>
 aN H9 73 m v19 λv21 a=>
 ar 62 o 0 λv22=>
 an a 5 v22 λv23=>
 xc 5 37 v23 λv24=>
 br (some v24) (
 ar 73 m 0 λA=>
 an a 4 A λk=>
 gH k λj=>
 gQ j true (az a 25 S) λE=>
 gQ j true (aA 62 o 1) λJ=>
 gQ j true (az a 3 J) λv=>
 gQ j true (az a 29 f) λy=>
 gW j true a (eN false a 47 158 [E,v,y]) λd e=>
 bA j d λb=>
 gQ b true (aZ x1) λt=>
 gQ b true (az e 29 f) λD=>
 gW b true e (eN false e 52 99 [t,D]) λq h=>
 gQ b true (B8 81 q 1) λz=>
 gQ b true (az h 25 R) λp=>
 gQ b true (az h 29 f) λF=>
 gW b true h (eN false h 56 143 [p,F]) λc l=>
 gQ b true (B8 81 c 1) λG=>
 gQ b true (Ff 3 53 57 z G) λu=>
 bA b u λw=>
 Q w l) (
 ar 73 m 0 λA=>
 an a 4 A λk=>
 gQ k true (az a 25 S) λj=>
 gQ k true (aA 73 m 1) λE=>
 gQ k true (az a 3 E) λJ=>
 gQ k true (az a 29 f) λv=>
 gW k true a (eN false a 67 158 [j,J,v]) λy e=>
 bA k y λd=>
 gQ d true (aA 62 o 2) λb=>
 gQ d true (aA 38 b 2) λt=>
 gQ d true (az e 3 t) λD=>
 gQ d true (aA 73 m 2) λq=>
 gQ d true (az e 3 q) λz=>
 gQ d true (XS 3 74 1 z) λp=>
 gQ d true (fK 3 72 75 D p) λF=>
 bA d F λc=>
 gQ c true (aZ x1) λG=>
 gQ c true (az e 29 f) λu=>
 gW c true e (eN false e 81 99 [G,u]) λw h=>
 gQ c true (B8 81 w 2) λv44=>
 gQ c true (az h 25 R) λZ=>
 gQ c true (az h 29 f) λv46=>
 gW c true h (eN false h 85 143 [Z,v46]) λv47 l=>
 gQ c true (B8 81 v47 2) λX=>
 gQ c true (Ff 3 82 86 v44 X) λv49=>
 bA c v49 λi=>
 gQ i true (aA 62 o 3) λv51=>
 gQ i true (az l 42 v51) λv52=>
 gQ i true (az l 25 R) λY=>
 gQ i true (aZ x1) λv54=>
 gQ i true (aA 62 o 2) λV=>
 gQ i true (az l 38 V) λU=>
 gW i true l (eN false l 96 74 [Y,v54,U]) λv57 H14=>
 gQ i true (fK 3 91 96 v52 v57) λv58=>
 bA i v58 λT=>
 Q T H14))
theorem xn(h : ∀g:dB,bm x0 x1 x2 H Q):dq Tryz.f86 0 [(0,x0),(1,x1),(2,x2)] H Q:=ga (by kernel_rfl) h
noncomputable def zj:Code:=(Tryz.f89.body).getD .skip
noncomputable def fN:=tf Tryz.f89 2
def rq:Nat->Option (List Nat):=λi=>cond (Nat.beq i 2) (some [5,2,1,4]) (none)
def rV:Prop:=
 bu H 2 25 x0 λb a=>
 dE a 4 25 λd c=>
  bN env Tryz.f89 0 fN [(5,(.v (.int .i64 0))),(2,b),(1,x1),(4,d)] c Q
theorem yz(h : ∀g:dB,rV x0 x1 H Q):dq Tryz.f89 0 [(0,x0),(1,x1)] H Q:=vD rq (by kernel_rfl) h
def fS(g:Nat->AV)(a x2 x1 d:AV)(H:ai)(Q:AV->ai->Prop):Prop:=
 eW H 8 26 x1 λq=>
 dD 3 6 8 a q λv=>
 br (some v) (
 bK H 26 x1 a λi=>
 ar 62 i 0 λl=>
 an H 5 l λf=>
 Fh 5 16 f λm=>
 br (some m) (
 an H 25 x2 λh=>
 bK H 26 x1 a λo=>
 ar 62 o 4 λt=>
 an H 60 t λk=>
 bt false H 25 157 [h,k] λb c=>
 ba b 0 λe=>
 ba b 1 λn=>
 aN c 25 x2 e λp u=>
 eD 3 10 1 a λj=>
  bN env Tryz.f89 0 fN [(5,j),(2,x2),(1,x1),(4,d)] u Q) (
 eD 3 10 1 a λh=>
  bN env Tryz.f89 0 fN [(5,h),(2,x2),(1,x1),(4,d)] H Q)) (
 an H 25 x2 λi=>
 aN H 25 d i λl c=>
 dN c d 25 λf=>
 Q f c)
theorem jc(a x2 x1 b:AV)(H:ai)(Q:AV->ai->Prop)(h : ∀g,fS g a x2 x1 b H Q):bN env Tryz.f89 0 fN [(5,a),(2,x2),(1,x1),(4,b)] H Q:=s8 rq (by kernel_rfl) h
def nk:Prop:=
 bu H 1 31 x0 λc b=>
 ar 31 c 0 λh=>
 an b 29 h λk=>
 bt true b 5 78 [k] λa d=>
 gQ a true (aA 31 c 1) λf=>
 gQ a true (az d 5 f) λe=>
 gQ a true (cf env.P .lss 5 (Operand.tmp 8) (.const (.int .u8 8)) (some e) (some (a8 8))) λi=>
 bA a i λj=>
 Q j d
theorem tS(h : ∀g:dB,nk x0 H Q):dq Tryz.f93 0 [(0,x0)] H Q:=ga (by kernel_rfl) h
noncomputable def cU:=tf Tryz.f94 3
def sA:Nat->Option (List Nat):=λi=>cond (Nat.beq i 3) (some [6,5,0,3,4]) (none)
def sH:Prop:=
 bu H 3 31 x1 λb a=>
 dE a 4 73 λe c=>
 dE c 5 73 λf d=>
  bN env Tryz.f94 0 cU [(6,(.v (.int .i64 0))),(5,f),(0,x0),(3,b),(4,e)] d Q
theorem zX(h : ∀g:dB,sH x0 x1 H Q):dq Tryz.f94 0 [(0,x0),(1,x1)] H Q:=vD sA (by kernel_rfl) h
def eS(g:Nat->AV)(a b x0 x3 j:AV)(H:ai)(Q:AV->ai->Prop):Prop:=
 eW H 9 26 x0 λS=>
 dD 3 7 9 a S λT=>
 br (some T) (
 bK H 26 x0 a λI=>
 ar 62 I 2 λL=>
 ar 38 L 1 λz=>
 an H 31 z λO=>
 an H 31 x3 λR=>
 vN 31 18 19 O R λM=>
 br (some M) (
 eD 3 11 1 a λC=>
  bN env Tryz.f94 0 cU [(6,C),(5,b),(0,x0),(3,x3),(4,j)] H Q) (
 bK H 26 x0 a λC=>
 ar 62 C 0 λJ=>
 an H 5 J λK=>
 xc 5 25 K λF=>
 br (some F) (
 ar 73 b 0 λn=>
 m4 (nT env.P H 4 (some n) (some (AV.v (Value.bool true)))) λw e=>
 bK e 26 x0 a λi=>
 ar 62 i 1 λl=>
 an e 3 l λc=>
 ar 73 b 1 λk=>
 aN e 3 k c λt f=>
 bK f 26 x0 a λo=>
 ar 62 o 0 λh=>
 an f 5 h λp=>
 uM 5 38 p λm=>
 br (some m) (
 ar 73 b 2 λd=>
 an f 3 d λu=>
 bK f 26 x0 a λq=>
 ar 62 q 2 λy=>
 ar 38 y 2 λx=>
 an f 3 x λD=>
 KG f 48 3 3 u D λA=>
 ar 73 b 2 λG=>
 aN f 3 G A λN U=>
 iZ (
  cf env.P .add 3 (Operand.tmp 11) (Operand.const (Value.int IntKind.i64 1)) (some a) (some (AV.v (Value.int IntKind.i64 1)))) λE=>
  bN env Tryz.f94 0 cU [(6,E),(5,b),(0,x0),(3,x3),(4,j)] U Q) (
 iZ (
  cf env.P .add 3 (Operand.tmp 11) (Operand.const (Value.int IntKind.i64 1)) (some a) (some (AV.v (Value.int IntKind.i64 1)))) λd=>
  bN env Tryz.f94 0 cU [(6,d),(5,b),(0,x0),(3,x3),(4,j)] f Q)) (
 bK H 26 x0 a λn=>
 ar 62 n 0 λw=>
 an H 5 w λi=>
 uM 5 38 i λl=>
 br (some l) (
 ar 73 b 2 λc=>
 an H 3 c λk=>
 bK H 26 x0 a λt=>
 ar 62 t 2 λo=>
 ar 38 o 2 λh=>
 an H 3 h λp=>
 KG H 48 3 3 k p λm=>
 ar 73 b 2 λd=>
 aN H 3 d m λu e=>
 iZ (
  cf env.P .add 3 (Operand.tmp 11) (Operand.const (Value.int IntKind.i64 1)) (some a) (some (AV.v (Value.int IntKind.i64 1)))) λq=>
  bN env Tryz.f94 0 cU [(6,q),(5,b),(0,x0),(3,x3),(4,j)] e Q) (
 iZ (
  cf env.P .add 3 (Operand.tmp 11) (Operand.const (Value.int IntKind.i64 1)) (some a) (some (AV.v (Value.int IntKind.i64 1)))) λc=>
  bN env Tryz.f94 0 cU [(6,c),(5,b),(0,x0),(3,x3),(4,j)] H Q)))) (
 an H 73 b λI=>
 aN H 73 j I λL e=>
 dN e j 73 λz=>
 Q z e)
theorem gj(c a x0 x3 b:AV)(H:ai)(Q:AV->ai->Prop)(h : ∀g,eS g c a x0 x3 b H Q):bN env Tryz.f94 0 cU [(6,c),(5,a),(0,x0),(3,x3),(4,b)] H Q:=s8 sA (by kernel_rfl) h
noncomputable def iy:=tf Tryz.f96 2
def qv:Nat->Option (List Nat):=λi=>cond (Nat.beq i 2) (some [8,0,2,4]) (none)
def qC:Prop:=
 bu H 4 31 x1 λb a=>
  bN env Tryz.f96 0 iy [(8,(.v (.int .i64 0))),(0,x0),(2,x2),(4,b)] a Q
theorem xm(h : ∀g:dB,qC x0 x1 x2 H Q):dq Tryz.f96 0 [(0,x0),(1,x1),(2,x2)] H Q:=vD qv (by kernel_rfl) h
def ed(g:Nat->AV)(d x0 x2 y:AV)(H:ai)(Q:AV->ai->Prop):Prop:=
 eW H 11 26 x0 λG=>
 dD 3 9 11 d G λI=>
 br (some I) (
 bK H 26 x0 d λF=>
 ar 62 F 0 λD=>
 an H 5 D λz=>
 uM 5 19 z λb=>
 gQ b true (aZ x0) λE=>
 gQ b true (aZ d) λA=>
 gQ b true (qi H 26 E A) λC=>
 gQ b true (aA 62 C 2) λt=>
 gQ b true (aA 38 t 1) λe=>
 gQ b true (az H 31 e) λm=>
 gQ b true (az H 31 y) λn=>
 gQ b true (fK 31 27 28 m n) λu=>
 bA b u λa=>
 gQ a true (aZ x0) λk=>
 gQ a true (aZ d) λq=>
 gQ a true (qi H 26 k q) λj=>
 gQ a true (aA 62 j 2) λi=>
 gQ a true (aA 38 i 2) λo=>
 gQ a true (az H 3 o) λf=>
 gQ a true (aZ x2) λp=>
 gQ a true (fK 3 37 38 f p) λl=>
 bA a l λw=>
 br (some w) (
 bK H 26 x0 d λc=>
 ar 62 c 3 λx=>
 an H 42 x λh=>
 Q (.tup [h,(.v (.bool true))]) H) (
 eD 3 13 1 d λc=>
  bN env Tryz.f96 0 iy [(8,c),(0,x0),(2,x2),(4,y)] H Q)) (
 Q (.tup [(.v (.int .i64 0)),(.v (.bool false))]) H)
theorem fp(a x0 x2 b:AV)(H:ai)(Q:AV->ai->Prop)(h : ∀g,ed g a x0 x2 b H Q):bN env Tryz.f96 0 iy [(8,a),(0,x0),(2,x2),(4,b)] H Q:=s8 qv (by kernel_rfl) h
noncomputable def bp:=tf Tryz.f99 3
def px:Nat->Option (List Nat):=λi=>cond (Nat.beq i 3) (some [6,5,0,3,4]) (none)
def pN:Prop:=
 bu H 3 29 x1 λa d=>
 dE d 4 81 λi b=>
 an b 29 a λj=>
 Ek 81 0 j λe=>
 dE b 5 81 λc h=>
 aN h 81 c e λk f=>
  bN env Tryz.f99 0 bp [(6,(.v (.int .i64 0))),(5,c),(0,x0),(3,a),(4,i)] f Q
theorem wH(h : ∀g:dB,pN x0 x1 H Q):dq Tryz.f99 0 [(0,x0),(1,x1)] H Q:=vD px (by kernel_rfl) h
def cG(g:Nat->AV)(d i x0 x3 M:AV)(H:ai)(Q:AV->ai->Prop):Prop:=
 eW H 11 26 x0 λv1=>
 dD 3 9 11 d v1 λv2=>
 br (some v2) (
 bK H 26 x0 d λv3=>
 ar 62 v3 2 λv4=>
 ar 38 v4 1 λv5=>
 ar 31 v5 0 λv6=>
 an H 29 v6 λv7=>
 an H 29 x3 λv8=>
 vN 29 21 22 v7 v8 λv9=>
 br (some v9) (
 eD 3 13 1 d λT=>
  bN env Tryz.f99 0 bp [(6,T),(5,i),(0,x0),(3,x3),(4,M)] H Q) (
 bK H 26 x0 d λT=>
 ar 62 T 0 λv11=>
 an H 5 v11 λv12=>
 xc 5 28 v12 λv13=>
 br (some v13) (
 ar 81 i 1 λU=>
 an H 3 U λV=>
 eD 3 31 1 V λW=>
 ar 81 i 1 λY=>
 aN H 3 Y W λR c=>
 bK c 26 x0 d λL=>
 ar 62 L 0 λN=>
 an c 5 N λk=>
 uM 5 38 k λS=>
 br (some S) (
 ar 81 i 2 λE=>
 an c 3 E λy=>
 eD 3 41 1 y λt=>
 ar 81 i 2 λb=>
 aN c 3 b t λG u=>
 bK u 26 x0 d λf=>
 ar 62 f 0 λD=>
 an u 5 D λp=>
 uM 5 48 p λh=>
 gQ h true (aZ x0) λA=>
 gQ h true (aZ d) λa=>
 gQ h true (qi u 26 A a) λo=>
 gQ h true (aA 62 o 3) λx=>
 gQ h true (az u 42 x) λn=>
 gQ h true (qW 42 55 0 n) λl=>
 bA h l λe=>
 gQ e true (aZ x0) λz=>
 gQ e true (aZ d) λw=>
 gQ e true (qi u 26 z w) λC=>
 gQ e true (aA 62 C 2) λj=>
 gQ e true (aA 38 j 0) λq=>
 gQ e true (az u 5 q) λF=>
 gQ e true (Py 5 64 F) λv=>
 bA e v λI=>
 br (some I) (
 ar 81 i 3 λm=>
 an u 3 m λJ=>
 bK u 26 x0 d λK=>
 ar 62 K 2 λP=>
 ar 38 P 3 λX=>
 ar 35 X 1 λO=>
 an u 3 O λv53=>
 qj 3 68 75 J v53 λv54=>
 ar 81 i 3 λZ=>
 aN u 3 Z v54 λv56 H3=>
 eD 3 13 1 d λv57=>
  bN env Tryz.f99 0 bp [(6,v57),(5,i),(0,x0),(3,x3),(4,M)] H3 Q) (
 eD 3 13 1 d λm=>
  bN env Tryz.f99 0 bp [(6,m),(5,i),(0,x0),(3,x3),(4,M)] u Q)) (
 bK c 26 x0 d λE=>
 ar 62 E 0 λy=>
 an c 5 y λt=>
 uM 5 48 t λb=>
 gQ b true (aZ x0) λG=>
 gQ b true (aZ d) λf=>
 gQ b true (qi c 26 G f) λD=>
 gQ b true (aA 62 D 3) λp=>
 gQ b true (az c 42 p) λh=>
 gQ b true (qW 42 55 0 h) λA=>
 bA b A λa=>
 gQ a true (aZ x0) λo=>
 gQ a true (aZ d) λx=>
 gQ a true (qi c 26 o x) λn=>
 gQ a true (aA 62 n 2) λl=>
 gQ a true (aA 38 l 0) λe=>
 gQ a true (az c 5 e) λz=>
 gQ a true (Py 5 64 z) λw=>
 bA a w λC=>
 br (some C) (
 ar 81 i 3 λj=>
 an c 3 j λq=>
 bK c 26 x0 d λF=>
 ar 62 F 2 λv=>
 ar 38 v 3 λI=>
 ar 35 I 1 λm=>
 an c 3 m λJ=>
 qj 3 68 75 q J λK=>
 ar 81 i 3 λP=>
 aN c 3 P K λX u=>
 eD 3 13 1 d λO=>
  bN env Tryz.f99 0 bp [(6,O),(5,i),(0,x0),(3,x3),(4,M)] u Q) (
 eD 3 13 1 d λj=>
  bN env Tryz.f99 0 bp [(6,j),(5,i),(0,x0),(3,x3),(4,M)] c Q))) (
 bK H 26 x0 d λU=>
 ar 62 U 0 λV=>
 an H 5 V λW=>
 uM 5 38 W λY=>
 br (some Y) (
 ar 81 i 2 λR=>
 an H 3 R λL=>
 eD 3 41 1 L λN=>
 ar 81 i 2 λk=>
 aN H 3 k N λS c=>
 bK c 26 x0 d λE=>
 ar 62 E 0 λy=>
 an c 5 y λt=>
 uM 5 48 t λb=>
 gQ b true (aZ x0) λG=>
 gQ b true (aZ d) λf=>
 gQ b true (qi c 26 G f) λD=>
 gQ b true (aA 62 D 3) λp=>
 gQ b true (az c 42 p) λh=>
 gQ b true (qW 42 55 0 h) λA=>
 bA b A λa=>
 gQ a true (aZ x0) λo=>
 gQ a true (aZ d) λx=>
 gQ a true (qi c 26 o x) λn=>
 gQ a true (aA 62 n 2) λl=>
 gQ a true (aA 38 l 0) λe=>
 gQ a true (az c 5 e) λz=>
 gQ a true (Py 5 64 z) λw=>
 bA a w λC=>
 br (some C) (
 ar 81 i 3 λj=>
 an c 3 j λq=>
 bK c 26 x0 d λF=>
 ar 62 F 2 λv=>
 ar 38 v 3 λI=>
 ar 35 I 1 λm=>
 an c 3 m λJ=>
 qj 3 68 75 q J λK=>
 ar 81 i 3 λP=>
 aN c 3 P K λX u=>
 eD 3 13 1 d λO=>
  bN env Tryz.f99 0 bp [(6,O),(5,i),(0,x0),(3,x3),(4,M)] u Q) (
 eD 3 13 1 d λj=>
  bN env Tryz.f99 0 bp [(6,j),(5,i),(0,x0),(3,x3),(4,M)] c Q)) (
 bK H 26 x0 d λR=>
 ar 62 R 0 λL=>
 an H 5 L λN=>
 uM 5 48 N λk=>
 gQ k true (aZ x0) λS=>
 gQ k true (aZ d) λE=>
 gQ k true (qi H 26 S E) λy=>
 gQ k true (aA 62 y 3) λt=>
 gQ k true (az H 42 t) λb=>
 gQ k true (qW 42 55 0 b) λG=>
 bA k G λf=>
 gQ f true (aZ x0) λD=>
 gQ f true (aZ d) λp=>
 gQ f true (qi H 26 D p) λh=>
 gQ f true (aA 62 h 2) λA=>
 gQ f true (aA 38 A 0) λa=>
 gQ f true (az H 5 a) λo=>
 gQ f true (Py 5 64 o) λx=>
 bA f x λn=>
 br (some n) (
 ar 81 i 3 λl=>
 an H 3 l λe=>
 bK H 26 x0 d λz=>
 ar 62 z 2 λw=>
 ar 38 w 3 λC=>
 ar 35 C 1 λj=>
 an H 3 j λq=>
 qj 3 68 75 e q λF=>
 ar 81 i 3 λv=>
 aN H 3 v F λI c=>
 eD 3 13 1 d λm=>
  bN env Tryz.f99 0 bp [(6,m),(5,i),(0,x0),(3,x3),(4,M)] c Q) (
 eD 3 13 1 d λl=>
  bN env Tryz.f99 0 bp [(6,l),(5,i),(0,x0),(3,x3),(4,M)] H Q))))) (
 an H 81 i λv3=>
 aN H 81 M v3 λv4 c=>
 dN c M 81 λv5=>
 Q v5 c)
theorem cR(c a x0 x3 b:AV)(H:ai)(Q:AV->ai->Prop)(h : ∀g,cG g c a x0 x3 b H Q):bN env Tryz.f99 0 bp [(6,c),(5,a),(0,x0),(3,x3),(4,b)] H Q:=s8 px (by kernel_rfl) h
noncomputable def gS:=tf Tryz.f134 4
noncomputable def gR:=tf Tryz.f134 9
noncomputable def gA:=tf Tryz.f134 15
def je:Nat->Option (List Nat):=λi=>cond (Nat.beq i 4) (some [3,1]) (cond (Nat.beq i 9) (some [4,1]) (cond (Nat.beq i 15) (some [6,1,5]) (none)))
def pT:Prop:=
 bu H 1 25 x0 λe c=>
 ar 25 e 0 λw=>
 an c 22 w λt=>
 eW c 9 22 t λn=>
 Ca 3 9 8 n λd=>
 gQ d false (aA 25 e 1) λo=>
 gQ d false (az c 23 o) λp=>
 gQ d false (uL c 14 23 p) λq=>
 gQ d false (zA 3 14 8 q) λu=>
 dO d u λb=>
 gQ b false (aA 25 e 2) λm=>
 gQ b false (az c 3 m) λf=>
 gQ b false (B9 3 19 0 f) λh=>
 dO b h λa=>
 gQ a false (aA 25 e 2) λj=>
 gQ a false (az c 3 j) λl=>
 gQ a false (zA 3 24 64 l) λi=>
 dO a i λk=>
 br (some k) (
 Q (.v (.bool false)) c) (
  bN env Tryz.f134 0 gS [(3,(.v (.int .i64 0))),(1,e)] c Q)
theorem wO(h : ∀g:dB,pT x0 H Q):dq Tryz.f134 0 [(0,x0)] H Q:=vD je (by kernel_rfl) h
def kL(g:Nat->AV)(x3 x1:AV)(H:ai)(Q:AV->ai->Prop):Prop:=
 ar 25 x1 0 λk=>
 an H 22 k λm=>
 eW H 30 22 m λj=>
 dD 3 27 30 x3 j λd=>
 br (some d) (
 ar 25 x1 0 λf=>
 an H 22 f λe=>
 bK H 22 e x3 λh=>
 an H 58 h λi=>
 bt true H 39 178 [i] λl c=>
 gH l λb=>
 br (some b) (
 Q (.v (.bool false)) c) (
 eD 3 32 1 x3 λa=>
  bN env Tryz.f134 0 gS [(3,a),(1,x1)] c Q)) (
  bN env Tryz.f134 0 gR [(4,(.v (.int .i64 0))),(1,x1)] H Q)
theorem n9(x3 x1:AV)(H:ai)(Q:AV->ai->Prop)(h : ∀g,kL g x3 x1 H Q):bN env Tryz.f134 0 gS [(3,x3),(1,x1)] H Q:=s8 je (by kernel_rfl) h
def hY(g:Nat->AV)(d x1:AV)(H:ai)(Q:AV->ai->Prop):Prop:=
 ar 25 x1 1 λM=>
 an H 23 M λN=>
 eW H 44 23 N λL=>
 dD 3 41 44 d L λI=>
 br (some I) (
 ar 25 x1 1 λE=>
 an H 23 E λJ=>
 bK H 23 J d λK=>
 an H 81 K λF=>
 bt false H 53 179 [F] λG c=>
 gH G λb=>
 gQ b false (aZ d) λf=>
 gQ b false (zA 3 56 0 f) λq=>
 gQ b false (aZ q) λa=>
 gQ a true (aA 25 x1 1) λz=>
 gQ a true (az c 23 z) λk=>
 gQ a true (aZ d) λo=>
 gQ a true (Sx 3 61 1 o) λx=>
 gQ a true (qi c 23 k x) λm=>
 gQ a true (aA 81 m 0) λl=>
 gQ a true (az c 29 l) λu=>
 gQ a true (aA 25 x1 1) λh=>
 gQ a true (az c 23 h) λw=>
 gQ a true (aZ d) λp=>
 gQ a true (qi c 23 w p) λA=>
 gQ a true (aA 81 A 0) λy=>
 gQ a true (az c 29 y) λC=>
 gW a true c (eN false c 72 180 [u,C]) λi D=>
 gQ a true (qh i) λe=>
 gQ b false (Ik a e) λn=>
 dO b n λj=>
 br (some j) (
 Q (.v (.bool false)) D) (
 eD 3 46 1 d λt=>
  bN env Tryz.f134 0 gR [(4,t),(1,x1)] D Q)) (
  bN env Tryz.f134 0 gA [(6,(.v (.int .i64 0))),(1,x1),(5,(.v (.int .i64 0)))] H Q)
theorem n8(a x1:AV)(H:ai)(Q:AV->ai->Prop)(h : ∀g,hY g a x1 H Q):bN env Tryz.f134 0 gR [(4,a),(1,x1)] H Q:=s8 je (by kernel_rfl) h
def ko(g:Nat->AV)(e x1 j:AV)(H:ai)(Q:AV->ai->Prop):Prop:=
 ar 25 x1 1 λn=>
 an H 23 n λo=>
 eW H 79 23 o λl=>
 dD 3 76 79 e l λk=>
 br (some k) (
 ar 25 x1 1 λf=>
 an H 23 f λd=>
 bK H 23 d e λb=>
 ar 81 b 3 λh=>
 an H 3 h λi=>
 qj 3 83 89 j i λa=>
 eD 3 81 1 e λc=>
  bN env Tryz.f134 0 gA [(6,c),(1,x1),(5,a)] H Q) (
 an H 25 x1 λf=>
 bt true H 92 181 [f] λd m=>
 Sz 3 92 2048 d λb=>
 gQ b true (aZ j) λh=>
 gQ b true (zB 3 95 8192 h) λi=>
 bA b i λa=>
 Q a m)
theorem nC(b x1 a:AV)(H:ai)(Q:AV->ai->Prop)(h : ∀g,ko g b x1 a H Q):bN env Tryz.f134 0 gA [(6,b),(1,x1),(5,a)] H Q:=s8 je (by kernel_rfl) h
def eZ:Prop:=
 bu H 1 35 x0 λb q=>
 ar 35 b 0 λz=>
 an q 33 z λx=>
 bt true q 5 140 [x] λd c=>
 gQ d true (aA 35 b 1) λu=>
 gQ d true (az c 3 u) λt=>
 gQ d true (vO 3 8 1 t) λw=>
 bA d w λe=>
 gQ e true (aA 35 b 1) λy=>
 gQ e true (az c 3 y) λn=>
 gQ e true (zB 3 13 64 n) λp=>
 bA e p λa=>
 gQ a true (aA 35 b 0) λf=>
 gQ a true (aA 33 f 1) λi=>
 gQ a true (az c 3 i) λj=>
 gQ a true (aA 35 b 1) λo=>
 gQ a true (az c 3 o) λk=>
 gQ a true (cf env.P .sub 3 (Operand.const (Value.int IntKind.i64 1099511627777)) (Operand.tmp 21) (some (AV.v (Value.int IntKind.i64 1099511627777))) (some k)) λm=>
 gQ a true (cf env.P .leq 3 (Operand.tmp 19) (Operand.tmp 22) (some j) (some m)) λl=>
 bA a l λh=>
 Q h c
theorem uY(h : ∀g:dB,eZ x0 H Q):dq Tryz.f138 0 [(0,x0)] H Q:=ga (by kernel_rfl) h
def qI:Prop:=
 bu H 1 33 x0 λb a=>
 an a 33 b λc=>
 oR 33 λe=>
 ql 33 3 4 c e λd=>
 Q d a
theorem xD(h : ∀g:dB,qI x0 H Q):dq Tryz.f139 0 [(0,x0)] H Q:=ga (by kernel_rfl) h
def sa:Prop:=
 bu H 1 33 x0 λc i=>
 ar 33 c 0 λm=>
 an i 31 m λo=>
 bt true i 5 93 [o] λa e=>
 gQ a true (aA 33 c 1) λl=>
 gQ a true (az e 3 l) λj=>
 gQ a true (vO 3 8 1 j) λn=>
 bA a n λb=>
 gQ b true (aA 33 c 1) λk=>
 gQ b true (az e 3 k) λf=>
 gQ b true (zB 3 13 1099511627776 f) λh=>
 bA b h λd=>
 Q d e
theorem yJ(h : ∀g:dB,sa x0 H Q):dq Tryz.f140 0 [(0,x0)] H Q:=ga (by kernel_rfl) h
noncomputable def gT:=tf Tryz.f141 4
def pD:Nat->Option (List Nat):=λi=>cond (Nat.beq i 4) (some [3,0]) (none)
def lV:Prop:=
 eW H 5 36 x0 λa=>
 Ca 3 5 64 a λb=>
 br (some b) (
 Q (.v (.int .i64 4)) H) (
  bN env Tryz.f141 0 gT [(3,(.v (.int .i64 0))),(0,x0)] H Q)
theorem wR(h : ∀g:dB,lV x0 H Q):dq Tryz.f141 0 [(0,x0)] H Q:=vD pD (by kernel_rfl) h
def fa(g:Nat->AV)(x3 x0:AV)(H:ai)(Q:AV->ai->Prop):Prop:=
 eW H 9 36 x0 λn=>
 dD 3 7 9 x3 n λp=>
 br (some p) (
 bK H 36 x0 x3 λm=>
 an H 21 m λi=>
 XR 21 16 i λa=>
 gQ a true (aZ x0) λj=>
 gQ a true (aZ x3) λk=>
 gQ a true (qi H 36 j k) λl=>
 gQ a true (az H 21 l) λo=>
 gQ a true (gl env.P (ai.get H) (Ref.mk 0 23 (ai.gen H 0 23) 0) 21 3 (some o)) λf=>
 gW a true H (eN true H 24 194 [f]) λb h=>
 gQ a true (qh b) λc=>
 bA a c λd=>
 br (some d) (
 Q (.v (.int .i64 8)) h) (
 eD 3 11 1 x3 λe=>
  bN env Tryz.f141 0 gT [(3,e),(0,x0)] h Q)) (
 Q (.v (.int .i64 0)) H)
theorem oa(x3 x0:AV)(H:ai)(Q:AV->ai->Prop)(h : ∀g,fa g x3 x0 H Q):bN env Tryz.f141 0 gT [(3,x3),(0,x0)] H Q:=s8 pD (by kernel_rfl) h
noncomputable def gM:=tf Tryz.f142 9
noncomputable def dw:=tf Tryz.f142 16
def lL:Nat->Option (List Nat):=λi=>cond (Nat.beq i 9) (some [7,6,5,3,0]) (cond (Nat.beq i 16) (some [8,3,6,5,0]) (none))
def dv:Prop:=
 bu H 3 38 x1 λb J=>
 bt true J 10 195 [x0] λx G=>
 ar 38 b 3 λO=>
 an G 35 O λL=>
 bt true G 13 196 [L] λE c=>
 ar 38 b 0 λM=>
 an c 5 M λN=>
 xc 5 15 N λI=>
 br (some I) (
 ar 38 b 4 λK=>
 an c 33 K λz=>
 oR 33 λD=>
 vN 33 18 19 z D λa=>
 gQ a true (aZ x) λp=>
 gQ a true (aA 38 b 4) λy=>
 gQ a true (az c 33 y) λj=>
 gQ a true (aA 38 b 1) λn=>
 gQ a true (aA 31 n 0) λu=>
 gQ a true (az c 29 u) λl=>
 gW a true c (eN true c 28 197 [p,j,l]) λk d=>
 gQ a true (qh k) λq=>
 bA a q λf=>
 br (some f) (
 Q (.v (.int .i64 6)) d) (
 ar 38 b 3 λt=>
 an d 35 t λo=>
 ar 38 b 4 λA=>
 an d 33 A λw=>
 ar 38 b 6 λC=>
 an d 36 C λh=>
 KD 249 0 o 1 w 2 h λe=>
 bt true d 38 198 [e] λm F=>
 gH m λi=>
 br (some i) (
 Q (.v (.int .i64 2)) F) (
  bN env Tryz.f142 0 gM [(7,(.v (.int .i64 0))),(6,E),(5,x),(3,b),(0,x0)] F Q))) (
  bN env Tryz.f142 0 dw [(8,(.v (.int .i64 0))),(3,b),(6,E),(5,x),(0,x0)] c Q)
theorem wK(h : ∀g:dB,dv x0 x1 H Q):dq Tryz.f142 0 [(0,x0),(1,x1)] H Q:=vD lL (by kernel_rfl) h
def eY(g:Nat->AV)(h a b x3 x0:AV)(H:ai)(Q:AV->ai->Prop):Prop:=
 eW H 42 244 a λk=>
 dD 3 40 42 h k λl=>
 br (some l) (
 bK H 244 a h λf=>
 an H 33 f λc=>
 bt true H 51 199 [b,c] λe i=>
 vP 3 51 0 e λd=>
 br (some d) (
 Q (.v (.int .i64 2)) i) (
 eD 3 44 1 h λj=>
  bN env Tryz.f142 0 gM [(7,j),(6,a),(5,b),(3,x3),(0,x0)] i Q)) (
 eW H 54 242 b λf=>
 eW H 56 244 a λc=>
 qj 3 54 56 f c λe=>
 Ca 3 57 8192 e λd=>
 br (some d) (
 Q (
  .v (.int .i64 4)) H) (
  bN env Tryz.f142 0 dw [(8,(.v (.int .i64 0))),(3,x3),(6,a),(5,b),(0,x0)] H Q))
theorem nX(c b a x3 x0:AV)(H:ai)(Q:AV->ai->Prop)(h : ∀g,eY g c b a x3 x0 H Q):bN env Tryz.f142 0 gM [(7,c),(6,b),(5,a),(3,x3),(0,x0)] H Q:=s8 lL (by kernel_rfl) h
def aM(g:Nat->AV)(l x3 C J x0:AV)(H:ai)(Q:AV->ai->Prop):Prop:=
 eW H 61 244 C λO=>
 dD 3 59 61 l O λk=>
 gQ k true (aA 38 x3 0) λN=>
 gQ k true (az H 5 N) λL=>
 gQ k true (cf env.P .neq 5 (Operand.tmp 65) (.const (.int .u8 1)) (some L) (some (a8 1))) λK=>
 bA k K λM=>
 br (some M) (
 bK H 244 C l λD=>
 an H 33 D λp=>
 ar 38 x3 1 λb=>
 ar 31 b 0 λi=>
 an H 29 i λd=>
 bt false H 78 197 [J,p,d] λf e=>
 gH f λh=>
 br (some h) (
 Q (.v (.int .i64 6)) e) (
 eD 3 68 1 l λj=>
  bN env Tryz.f142 0 dw [(8,j),(3,x3),(6,C),(5,J),(0,x0)] e Q)) (
 ar 38 x3 0 λD=>
 an H 5 D λp=>
 uM 5 81 p λb=>
 gQ b true (aA 38 x3 3) λi=>
 gQ b true (aA 35 i 0) λd=>
 gQ b true (aA 33 d 0) λf=>
 gQ b true (aA 31 f 0) λh=>
 gQ b true (az H 29 h) λj=>
 gQ b true (aA 38 x3 1) λt=>
 gQ b true (aA 31 t 0) λx=>
 gQ b true (az H 29 x) λE=>
 gQ b true (Il 29 88 91 j E) λu=>
 bA b u λa=>
 gQ a false (aA 38 x3 0) λz=>
 gQ a false (az H 5 z) λn=>
 gQ a false (cf env.P .eql 5 (Operand.tmp 96) (.const (.int .u8 3)) (some n) (some (a8 3))) λA=>
 gQ a false (aZ A) λc=>
 gQ c true (aZ x0) λG=>
 gQ c true (az H 38 x3) λF=>
 gW c true H (eN true H 101 200 [G,F]) λI e=>
 gQ c true (qh I) λo=>
 gQ a false (Ik c o) λm=>
 dO a m λw=>
 br (some w) (
 Q (.v (.int .i64 2)) e) (
 eW e 106 41 x0 λq=>
 vP 3 106 2048 q λy=>
 br (some y) (
 Q (.v (.int .i64 4)) e) (
 Q (.v (.int .i64 0)) e)))
theorem nA(a x3 c b x0:AV)(H:ai)(Q:AV->ai->Prop)(h : ∀g,aM g a x3 c b x0 H Q):bN env Tryz.f142 0 dw [(8,a),(3,x3),(6,c),(5,b),(0,x0)] H Q:=s8 lL (by kernel_rfl) h
noncomputable def jC:=tf Tryz.f143 2
def sD:Nat->Option (List Nat):=λi=>cond (Nat.beq i 2) (some [4,5,2,3]) (none)
def sJ:Prop:=
 bu H 2 25 x0 λb a=>
 bu a 3 29 x1 λe c=>
 dE c 4 81 λf d=>
  bN env Tryz.f143 0 jC [(4,f),(5,(.v (.int .i64 0))),(2,b),(3,e)] d Q
theorem z0(h : ∀g:dB,sJ x0 x1 H Q):dq Tryz.f143 0 [(0,x0),(1,x1)] H Q:=vD sD (by kernel_rfl) h
def mD(g:Nat->AV)(c d x2 x3:AV)(H:ai)(Q:AV->ai->Prop):Prop:=
 ar 25 x2 1 λt=>
 an H 23 t λv=>
 eW H 9 23 v λq=>
 dD 3 6 9 d q λp=>
 br (some p) (
 ar 25 x2 1 λh=>
 an H 23 h λe=>
 bK H 23 e d λo=>
 ar 81 o 0 λi=>
 an H 29 i λu=>
 an H 29 x3 λm=>
 ql 29 18 19 u m λn=>
 br (some n) (
 ar 25 x2 1 λa=>
 an H 23 a λf=>
 bK H 23 f d λj=>
 an H 81 j λl=>
 aN H 81 c l λw b=>
 dN b c 81 λk=>
 Q k b) (
 eD 3 11 1 d λa=>
  bN env Tryz.f143 0 jC [(4,c),(5,a),(2,x2),(3,x3)] H Q)) (
 an H 29 x3 λh=>
 Ek 81 0 h λe=>
 aN H 81 c e λo b=>
 dN b c 81 λi=>
 Q i b)
theorem qq(b a x2 x3:AV)(H:ai)(Q:AV->ai->Prop)(h : ∀g,mD g b a x2 x3 H Q):bN env Tryz.f143 0 jC [(4,b),(5,a),(2,x2),(3,x3)] H Q:=s8 sD (by kernel_rfl) h
noncomputable def jj:=tf Tryz.f144 2
def rA:Nat->Option (List Nat):=λi=>cond (Nat.beq i 2) (some [5,3,2]) (none)
def sg:Prop:=
 bu H 2 29 x0 λb a=>
 bu a 3 29 x1 λd c=>
  bN env Tryz.f144 0 jj [(5,(.v (.int .i64 0))),(3,d),(2,b)] c Q
theorem yN(h : ∀g:dB,sg x0 x1 H Q):dq Tryz.f144 0 [(0,x0),(1,x1)] H Q:=vD rA (by kernel_rfl) h
def lW(g:Nat->AV)(b x3 x2:AV)(H:ai)(Q:AV->ai->Prop):Prop:=
 Fl 3 6 32 b λl=>
 br (some l) (
 an H 29 x2 λh=>
 bt true H 12 201 [h,b] λa f=>
 gQ a true (az f 29 x3) λc=>
 gQ a true (aZ b) λe=>
 gW a true f (eN true f 16 201 [c,e]) λd i=>
 gQ a true (qh d) λj=>
 bA a j λk=>
 br (some k) (
 Q (.v (.bool false)) i) (
 eD 3 8 1 b λm=>
  bN env Tryz.f144 0 jj [(5,m),(3,x3),(2,x2)] i Q)) (
 ar 29 x2 0 λh=>
 an H 5 h λa=>
 ar 29 x3 0 λc=>
 an H 5 c λe=>
 iZ (cf env.P .leq 5 (Operand.tmp 20) (Operand.tmp 22) (some a) (some e)) λd=>
 Q d H)
theorem po(a x3 x2:AV)(H:ai)(Q:AV->ai->Prop)(h : ∀g,lW g a x3 x2 H Q):bN env Tryz.f144 0 jj [(5,a),(3,x3),(2,x2)] H Q:=s8 rA (by kernel_rfl) h
def qG:Prop:=
 bu H 1 38 x0 λa c=>
 oR 31 λf=>
 ar 38 a 1 λj=>
 aN c 31 j f λk b=>
 an b 38 a λe=>
 oR 38 λd=>
 bt true b 7 62 [e,d] λi h=>
 Q i h
theorem xA(h : ∀g:dB,qG x0 H Q):dq Tryz.f154 0 [(0,x0)] H Q:=ga (by kernel_rfl) h
noncomputable def gP:=tf Tryz.f155 2
def pB:Nat->Option (List Nat):=λi=>cond (Nat.beq i 2) (some [3,1]) (none)
def pR:Prop:=
 bu H 1 38 x0 λb a=>
  bN env Tryz.f155 0 gP [(3,(.v (.int .i64 0))),(1,b)] a Q
theorem wN(h : ∀g:dB,pR x0 H Q):dq Tryz.f155 0 [(0,x0)] H Q:=vD pB (by kernel_rfl) h
def hX(g:Nat->AV)(x3 x1:AV)(H:ai)(Q:AV->ai->Prop):Prop:=
 ar 38 x1 6 λi=>
 an H 36 i λk=>
 eW H 7 36 k λh=>
 dD 3 4 7 x3 h λb=>
 br (some b) (
 ar 38 x1 6 λd=>
 an H 36 d λc=>
 bK H 36 c x3 λe=>
 an H 21 e λf=>
 iZ (cf env.P .eql 21 (Operand.tmp 15) (.const (.int .i32 (-1))) (some f) (some (.v (.int .i32 (-1))))) λj=>
 br (some j) (
 Q (.v (.bool false)) H) (
 eD 3 9 1 x3 λa=>
  bN env Tryz.f155 0 gP [(3,a),(1,x1)] H Q)) (
 Q (.v (.bool true)) H)
theorem n7(x3 x1:AV)(H:ai)(Q:AV->ai->Prop)(h : ∀g,hX g x3 x1 H Q):bN env Tryz.f155 0 gP [(3,x3),(1,x1)] H Q:=s8 pB (by kernel_rfl) h
def rX:Prop:=
 bu H 1 60 x0 λd a=>
 ar 60 d 0 λm=>
 an a 3 m λo=>
 vP 3 4 0 o λb=>
 gQ b true (aA 60 d 0) λk=>
 gQ b true (az a 3 k) λi=>
 gQ b true (B9 3 8 8 i) λl=>
 bA b l λc=>
 gQ c true (aA 60 d 1) λj=>
 gQ c true (az a 58 j) λf=>
 gW c true a (eN true a 14 178 [f]) λh n=>
 bA c h λe=>
 Q e n
theorem yG(h : ∀g:dB,rX x0 H Q):dq Tryz.f156 0 [(0,x0)] H Q:=ga (by kernel_rfl) h
def fA:Prop:=
 bu H 2 25 x0 λa M=>
 bu M 3 60 x1 λA U=>
 dE U 4 25 λh b=>
 ar 60 A 0 λR=>
 an b 3 R λJ=>
 ar 25 a 0 λS=>
 an b 22 S λT=>
 eW b 10 22 T λK=>
 iZ (cf env.P .geq 3 (Operand.tmp 7) (Operand.tmp 10) (some J) (some K)) λN=>
 br (some N) (
 an b 25 a λf=>
 aN b 25 h f λl c=>
 dN c h 25 λd=>
 Q (.tup [d,(.v (.int .i64 2))]) c) (
 ar 25 a 2 λf=>
 an b 3 f λl=>
 zC 3 14 0 l λd=>
 br (some d) (
 an b 25 a λe=>
 aN b 25 h e λk c=>
 dN c h 25 λi=>
 Q (.tup [i,(.v (.int .i64 9))]) c) (
 an b 25 a λe=>
 bt true b 18 204 [e] λk c=>
 aN c 25 a k λi j=>
 ar 25 a 0 λt=>
 an j 22 t λy=>
 ar 60 A 0 λp=>
 an j 3 p λo=>
 ar 60 A 1 λw=>
 an j 58 w λm=>
 bK j 22 y o λx=>
 aN j 58 x m λO F=>
 ar 25 a 2 λC=>
 an F 3 C λz=>
 Fk 3 27 1 z λD=>
 ar 25 a 2 λn=>
 aN F 3 n D λI E=>
 an E 25 a λq=>
 aN E 25 h q λL G=>
 dN G h 25 λu=>
 Q (.tup [u,(.v (.int .i64 0))]) G))
theorem kW(h : ∀g:dB,fA x0 x1 H Q):dq Tryz.f157 0 [(0,x0),(1,x1)] H Q:=ga (by kernel_rfl) h
def lU:Prop:=
 bu H 3 25 x0 λo D=>
 bu D 5 29 x2 λE b=>
 vP 3 7 0 x1 λd=>
 gQ d true (aZ x1) λx=>
 gQ d true (aA 25 o 0) λz=>
 gQ d true (az b 22 z) λy=>
 gQ d true (uL b 13 22 y) λA=>
 gQ d true (Ff 3 10 13 x A) λC=>
 bA d C λc=>
 gQ c true (aA 25 o 0) λu=>
 gQ c true (az b 22 u) λw=>
 gQ c true (aZ x1) λf=>
 gQ c true (qi b 22 w f) λi=>
 gQ c true (aA 58 i 1) λl=>
 gQ c true (az b 4 l) λm=>
 bA c m λa=>
 gQ a true (az b 29 E) λn=>
 gQ a true (aA 25 o 0) λt=>
 gQ a true (az b 22 t) λp=>
 gQ a true (aZ x1) λj=>
 gQ a true (qi b 22 p j) λh=>
 gQ a true (aA 58 h 0) λk=>
 gQ a true (az b 29 k) λe=>
 gW a true b (eN false b 32 144 [n,e]) λv F=>
 bA a v λq=>
 Q q F
theorem wP(h : ∀g:dB,lU x0 x1 x2 H Q):dq Tryz.f158 0 [(0,x0),(1,x1),(2,x2)] H Q:=ga (by kernel_rfl) h
def nL:Prop:=
 bu H 1 58 x0 λc j=>
 ar 58 c 0 λn=>
 an j 29 n λp=>
 bt true j 5 78 [p] λa f=>
 gQ a true (aA 58 c 1) λm=>
 gQ a true (az f 4 m) λk=>
 gQ a true (aZ k) λb=>
 gQ b false (aA 58 c 0) λo=>
 gQ b false (az f 29 o) λl=>
 gQ b false (Pv 29) λh=>
 gQ b false (fK 29 11 12 l h) λi=>
 gQ a true (KE b i) λd=>
 bA a d λe=>
 Q e f
theorem uj(h : ∀g:dB,nL x0 H Q):dq Tryz.f178 0 [(0,x0)] H Q:=ga (by kernel_rfl) h
def rY:Prop:=
 bu H 1 81 x0 λe A=>
 ar 81 e 0 λI=>
 an A 29 I λF=>
 bt true A 5 78 [F] λh f=>
 gQ h true (aA 81 e 1) λD=>
 gQ h true (az f 3 D) λC=>
 gQ h true (vO 3 8 0 C) λE=>
 bA h E λi=>
 gQ i true (aA 81 e 1) λG=>
 gQ i true (az f 3 G) λx=>
 gQ i true (zB 3 13 64 x) λz=>
 bA i z λa=>
 gQ a true (aA 81 e 2) λm=>
 gQ a true (az f 3 m) λp=>
 gQ a true (vO 3 18 0 p) λq=>
 bA a q λd=>
 gQ d true (aA 81 e 2) λt=>
 gQ d true (az f 3 t) λw=>
 gQ d true (zB 3 23 256 w) λu=>
 bA d u λb=>
 gQ b true (aA 81 e 3) λl=>
 gQ b true (az f 3 l) λo=>
 gQ b true (vO 3 28 0 o) λk=>
 bA b k λc=>
 gQ c true (aA 81 e 3) λv=>
 gQ c true (az f 3 v) λy=>
 gQ c true (zB 3 33 4096 y) λn=>
 bA c n λj=>
 Q j f
theorem yH(h : ∀g:dB,rY x0 H Q):dq Tryz.f179 0 [(0,x0)] H Q:=ga (by kernel_rfl) h
def pW:Prop:=
 bu H 2 29 x0 λm w=>
 bu w 3 29 x1 λn a=>
 ar 29 m 0 λv=>
 an a 5 v λo=>
 qm a 7 5 3 o λq=>
 XV 3 7 4294967296 q λp=>
 ar 29 m 1 λt=>
 an a 27 t λu=>
 qm a 11 27 3 u λx=>
 qj 3 8 11 p x λj=>
 ar 29 n 0 λl=>
 an a 5 l λb=>
 qm a 15 5 3 b λc=>
 XV 3 15 4294967296 c λd=>
 ar 29 n 1 λe=>
 an a 27 e λk=>
 qm a 19 27 3 k λf=>
 qj 3 16 19 d f λi=>
 dD 3 12 20 j i λh=>
 Q h a
theorem wS(h : ∀g:dB,pW x0 x1 H Q):dq Tryz.f180 0 [(0,x0),(1,x1)] H Q:=ga (by kernel_rfl) h
noncomputable def jh:=tf Tryz.f181 3
def ry:Nat->Option (List Nat):=λi=>cond (Nat.beq i 3) (some [4,1,3]) (none)
def rZ:Prop:=
 bu H 1 25 x0 λb a=>
 ar 25 b 2 λd=>
 an a 3 d λc=>
  bN env Tryz.f181 0 jh [(4,(.v (.int .i64 0))),(1,b),(3,c)] a Q
theorem yI(h : ∀g:dB,rZ x0 H Q):dq Tryz.f181 0 [(0,x0)] H Q:=vD ry (by kernel_rfl) h
def lT(g:Nat->AV)(a x1 x3:AV)(H:ai)(Q:AV->ai->Prop):Prop:=
 ar 25 x1 1 λt=>
 an H 23 t λv=>
 eW H 10 23 v λq=>
 dD 3 7 10 a q λl=>
 br (some l) (
 ar 25 x1 1 λn=>
 an H 23 n λm=>
 bK H 23 m a λo=>
 ar 81 o 1 λp=>
 an H 3 p λu=>
 qj 3 14 20 x3 u λi=>
 ar 25 x1 1 λk=>
 an H 23 k λb=>
 bK H 23 b a λc=>
 ar 81 c 2 λd=>
 an H 3 d λf=>
 Sy 3 4 27 f λj=>
 qj 3 21 28 i j λe=>
 eD 3 12 1 a λh=>
  bN env Tryz.f181 0 jh [(4,h),(1,x1),(3,e)] H Q) (
 Q x3 H)
theorem pk(a x1 x3:AV)(H:ai)(Q:AV->ai->Prop)(h : ∀g,lT g a x1 x3 H Q):bN env Tryz.f181 0 jh [(4,a),(1,x1),(3,x3)] H Q:=s8 ry (by kernel_rfl) h
def sK:Prop:=
 vP 3 3 0 x0 λb=>
 gQ b true (aZ x0) λj=>
 gQ b true (zB 3 6 1114111 j) λl=>
 bA b l λa=>
 gQ a true (aZ x0) λi=>
 gQ a true (B9 3 10 55296 i) λf=>
 gQ a true (aZ f) λc=>
 gQ c false (aZ x0) λk=>
 gQ c false (zA 3 13 57343 k) λh=>
 gQ a true (KE c h) λd=>
 bA a d λe=>
 Q e H
theorem z3(h : ∀g:dB,sK x0 H Q):dq Tryz.f194 0 [(0,x0)] H Q:=ga (by kernel_rfl) h
noncomputable def yf:Code:=(Tryz.f195.body).getD .skip
noncomputable def fv:=tf Tryz.f195 3
def qx:Nat->Option (List Nat):=λi=>cond (Nat.beq i 3) (some [4,3,0]) (none)
def qE:Prop:=
 bN env Tryz.f195 0 fv [(4,(.v (.int .i64 0))),(3,(.v (.slice none 0 0))),(0,x0)] H Q
theorem xy(h : ∀g:dB,qE x0 H Q):dq Tryz.f195 0 [(0,x0)] H Q:=vD qx (by kernel_rfl) h
def fy(g:Nat->AV)(a x3 x0:AV)(H:ai)(Q:AV->ai->Prop):Prop:=
 eW H 8 41 x0 λE=>
 dD 3 6 8 a E λF=>
 br (some F) (
 bK H 41 x0 a λD=>
 ar 38 D 0 λA=>
 an H 5 A λt=>
 xc 5 16 t λC=>
 br (some C) (
 bK H 41 x0 a λn=>
 ar 38 n 3 λu=>
 an H 35 u λx=>
 bK H 41 x0 a λo=>
 ar 38 o 4 λc=>
 an H 33 c λj=>
 bK H 41 x0 a λk=>
 ar 38 k 6 λp=>
 an H 36 p λe=>
 KD 249 0 x 1 j 2 e λh=>
 dE H 5 249 λb v=>
 aN v 249 b h λw q=>
 an q 249 b λf=>
 tn q 36 273 1 0 f λl G=>
 bt true G 37 221 [l] λd y=>
 mG y 38 242 242 x3 d λm z=>
 eD 3 10 1 a λi=>
  bN env Tryz.f195 0 fv [(4,i),(3,m),(0,x0)] z Q) (
 eD 3 10 1 a λn=>
  bN env Tryz.f195 0 fv [(4,n),(3,x3),(0,x0)] H Q)) (
 Q x3 H)
theorem iv(a x3 x0:AV)(H:ai)(Q:AV->ai->Prop)(h : ∀g,fy g a x3 x0 H Q):bN env Tryz.f195 0 fv [(4,a),(3,x3),(0,x0)] H Q:=s8 qx (by kernel_rfl) h
noncomputable def ji:=tf Tryz.f196 3
def rz:Nat->Option (List Nat):=λi=>cond (Nat.beq i 3) (some [4,1,3]) (none)
def sc:Prop:=
 bu H 1 35 x0 λb a=>
  bN env Tryz.f196 0 ji [(4,(.v (.int .i64 0))),(1,b),(3,(.v (.slice none 0 0)))] a Q
theorem yK(h : ∀g:dB,sc x0 H Q):dq Tryz.f196 0 [(0,x0)] H Q:=vD rz (by kernel_rfl) h
def jm(g:Nat->AV)(e x1 x3:AV)(H:ai)(Q:AV->ai->Prop):Prop:=
 ar 35 x1 1 λo=>
 an H 3 o λt=>
 dD 3 5 7 e t λm=>
 br (some m) (
 ar 35 x1 0 λh=>
 ar 33 h 0 λj=>
 an H 31 j λi=>
 ar 35 x1 0 λk=>
 ar 33 k 1 λl=>
 an H 3 l λp=>
 qj 3 17 18 p e λf=>
 iZ (mP env.P 33 (some [(0,i),(1,f)])) λa=>
 tn H 21 244 1 0 a λb n=>
 mG n 22 244 244 x3 b λc q=>
 eD 3 9 1 e λd=>
  bN env Tryz.f196 0 ji [(4,d),(1,x1),(3,c)] q Q) (
 Q x3 H)
theorem pn(a x1 x3:AV)(H:ai)(Q:AV->ai->Prop)(h : ∀g,jm g a x1 x3 H Q):bN env Tryz.f196 0 ji [(4,a),(1,x1),(3,x3)] H Q:=s8 rz (by kernel_rfl) h
def mB:Prop:=
 bu H 4 33 x1 λe h=>
 bu h 5 29 x2 λm f=>
 an f 33 e λp=>
 bt true f 9 199 [x0,p] λi b=>
 vP 3 9 0 i λa=>
 gQ a true (aA 33 e 0) λj=>
 gQ a true (aA 31 j 0) λn=>
 gQ a true (az b 29 n) λo=>
 gQ a true (az b 29 m) λl=>
 gW a true b (eN true b 16 144 [o,l]) λc k=>
 bA a c λd=>
 Q d k
theorem xw(h : ∀g:dB,mB x0 x1 x2 H Q):dq Tryz.f197 0 [(0,x0),(1,x1),(2,x2)] H Q:=ga (by kernel_rfl) h
def fk:Prop:=
 bu H 1 249 x0 λe M=>
 ar 249 e 0 λU=>
 an M 35 U λT=>
 bt true M 5 138 [T] λP f=>
 gH P λd=>
 gQ d false (aA 249 e 2) λR=>
 gQ d false (az f 36 R) λS=>
 gQ d false (uL f 10 36 S) λN=>
 gQ d false (aA 249 e 0) λO=>
 gQ d false (aA 35 O 1) λF=>
 gQ d false (az f 3 F) λL=>
 gQ d false (Il 3 10 13 N L) λz=>
 dO d z λc=>
 gQ c false (aA 249 e 2) λG=>
 gQ c false (az f 36 G) λm=>
 gW c false f (eN true f 19 141 [m]) λu I=>
 gQ c false (Fj 3 19 0 u) λE=>
 dO c E λp=>
 br (some p) (
 Q (.v (.bool false)) I) (
 ar 249 e 1 λn=>
 an I 33 n λC=>
 bt true I 24 222 [C] λb q=>
 gQ b false (aA 249 e 1) λD=>
 gQ b false (az q 33 D) λy=>
 gW b false q (eN true q 28 140 [y]) λJ x=>
 gQ b false (aZ J) λa=>
 gQ a true (aA 249 e 1) λK=>
 gQ a true (aA 33 K 1) λk=>
 gQ a true (az x 3 k) λi=>
 gQ a true (aA 249 e 0) λt=>
 gQ a true (aA 35 t 0) λl=>
 gQ a true (aA 33 l 1) λA=>
 gQ a true (az x 3 A) λo=>
 gQ a true (Ff 3 32 36 i o) λw=>
 gQ b false (Ik a w) λj=>
 dO b j λh=>
 Q h x)
theorem yD(h : ∀g:dB,fk x0 H Q):dq Tryz.f198 0 [(0,x0)] H Q:=ga (by kernel_rfl) h
noncomputable def gO:=tf Tryz.f199 2
def pA:Nat->Option (List Nat):=λi=>cond (Nat.beq i 2) (some [5,3,0]) (none)
def pQ:Prop:=
 bu H 3 33 x1 λb a=>
  bN env Tryz.f199 0 gO [(5,(.v (.int .i64 0))),(3,b),(0,x0)] a Q
theorem wM(h : ∀g:dB,pQ x0 x1 H Q):dq Tryz.f199 0 [(0,x0),(1,x1)] H Q:=vD pA (by kernel_rfl) h
def kJ(g:Nat->AV)(a x3 x0:AV)(H:ai)(Q:AV->ai->Prop):Prop:=
 eW H 8 242 x0 λi=>
 dD 3 6 8 a i λj=>
 br (some j) (
 bK H 242 x0 a λh=>
 ar 275 h 0 λb=>
 an H 33 b λd=>
 an H 33 x3 λc=>
 ql 33 16 17 d c λe=>
 br (some e) (
 Q a H) (
 eD 3 10 1 a λf=>
  bN env Tryz.f199 0 gO [(5,f),(3,x3),(0,x0)] H Q)) (
 Q (.v (.int .i64 (-1))) H)
theorem nZ(a x3 x0:AV)(H:ai)(Q:AV->ai->Prop)(h : ∀g,kJ g a x3 x0 H Q):bN env Tryz.f199 0 gO [(5,a),(3,x3),(0,x0)] H Q:=s8 pA (by kernel_rfl) h
noncomputable def fU:=tf Tryz.f200 5
def om:Nat->Option (List Nat):=λi=>cond (Nat.beq i 5) (some [6,3,5,0]) (none)
def hU:Prop:=
 bu H 3 38 x1 λb a=>
 ar 38 b 0 λh=>
 an a 5 h λj=>
 iZ (cf env.P .neq 5 (Operand.tmp 8) (.const (.int .u8 3)) (some j) (some (a8 3))) λc=>
 br (some c) (
 Q (.v (.bool true)) a) (
 ar 38 b 3 λe=>
 an a 35 e λd=>
 bt true a 12 196 [d] λi f=>
  bN env Tryz.f200 0 fU [(6,(.v (.int .i64 0))),(3,b),(5,i),(0,x0)] f Q)
theorem uW(h : ∀g:dB,hU x0 x1 H Q):dq Tryz.f200 0 [(0,x0),(1,x1)] H Q:=vD om (by kernel_rfl) h
def fW(g:Nat->AV)(h x3 n x0:AV)(H:ai)(Q:AV->ai->Prop):Prop:=
 eW H 15 244 n λq=>
 dD 3 13 15 h q λu=>
 br (some u) (
 bK H 244 n h λm=>
 an H 33 m λc=>
 ar 38 x3 1 λi=>
 ar 31 i 0 λd=>
 an H 29 d λj=>
 bt false H 27 224 [x0,c,j] λk a=>
 ar 38 x3 1 λt=>
 ar 31 t 0 λo=>
 an a 29 o λb=>
 bt false a 31 223 [k,b] λe p=>
 gH e λf=>
 br (some f) (
 Q (.v (.bool false)) p) (
 eD 3 17 1 h λl=>
  bN env Tryz.f200 0 fU [(6,l),(3,x3),(5,n),(0,x0)] p Q)) (
 ar 38 x3 1 λm=>
 ar 31 m 0 λc=>
 an H 29 c λi=>
 ar 38 x3 5 λd=>
 an H 29 d λj=>
 bt true H 38 144 [i,j] λk a=>
 Q k a)
theorem m8(b x3 a x0:AV)(H:ai)(Q:AV->ai->Prop)(h : ∀g,fW g b x3 a x0 H Q):bN env Tryz.f200 0 fU [(6,b),(3,x3),(5,a),(0,x0)] H Q:=s8 om (by kernel_rfl) h
def sd:Prop:=
 bu H 2 29 x0 λb a=>
 ar 29 b 1 λh=>
 an a 27 h λi=>
 qm a 8 3 223 x1 λc=>
 iZ (cf env.P .shr 27 (Operand.tmp 6) (Operand.tmp 8) (some i) (some c)) λe=>
 iZ (cf env.P .rem 27 (Operand.tmp 9) (.const (.int .u32 2)) (some e) (some (au 2))) λd=>
 iZ (cf env.P .eql 27 (Operand.tmp 10) (.const (.int .u32 1)) (some d) (some (au 1))) λf=>
 Q f a
theorem yL(h : ∀g:dB,sd x0 x1 H Q):dq Tryz.f201 0 [(0,x0),(1,x1)] H Q:=ga (by kernel_rfl) h
def gy:Prop:=
 bu H 1 25 x0 λb t=>
 dE t 2 25 λi c=>
 ar 25 b 0 λq=>
 an c 22 q λk=>
 m4 (ju env.P false c (Ref.mk 0 5 (ai.gen c 0 5) 0) (some 22) (some 22) (.v (.slice none 0 0)) k) λn d=>
 ar 25 b 1 λl=>
 an d 23 l λo=>
 m4 (ju env.P false d (Ref.mk 0 8 (ai.gen d 0 8) 0) (some 23) (some 23) (.v (.slice none 0 0)) o) λp j=>
 ar 25 b 2 λu=>
 an j 3 u λe=>
 KD 25 0 n 1 p 2 e λf=>
 aN j 25 i f λm h=>
 dN h i 25 λa=>
 Q a h
theorem xG(h : ∀g:dB,gy x0 H Q):dq Tryz.f204 0 [(0,x0)] H Q:=ga (by kernel_rfl) h
noncomputable def zk:Code:=(Tryz.f221.body).getD .skip
noncomputable def lN:=tf Tryz.f221 3
noncomputable def jg:=tf Tryz.f221 6
def mR:Nat->Option (List Nat):=λi=>cond (Nat.beq i 3) (some [4,0,3]) (cond (Nat.beq i 6) (some [5,4,0,3]) (none))
def rW:Prop:=
 bN env Tryz.f221 0 lN [(4,(.v (.int .i64 0))),(0,x0),(3,(.v (.slice none 0 0)))] H Q
theorem yC(h : ∀g:dB,rW x0 H Q):dq Tryz.f221 0 [(0,x0)] H Q:=vD mR (by kernel_rfl) h
def lS(g:Nat->AV)(a x0 x3:AV)(H:ai)(Q:AV->ai->Prop):Prop:=
 eW H 8 273 x0 λb=>
 dD 3 6 8 a b λc=>
 br (some c) (
  bN env Tryz.f221 0 jg [(5,(.v (.int .i64 0))),(4,a),(0,x0),(3,x3)] H Q) (
 Q x3 H)
theorem pj(a x0 x3:AV)(H:ai)(Q:AV->ai->Prop)(h : ∀g,lS g a x0 x3 H Q):bN env Tryz.f221 0 lN [(4,a),(0,x0),(3,x3)] H Q:=s8 mR (by kernel_rfl) h
def jl(g:Nat->AV)(b a x0 x3:AV)(H:ai)(Q:AV->ai->Prop):Prop:=
 bK H 273 x0 a λA=>
 ar 249 A 0 λC=>
 ar 35 C 1 λz=>
 an H 3 z λx=>
 dD 3 12 18 b x λt=>
 br (some t) (
 bK H 273 x0 a λk=>
 an H 249 k λy=>
 bt false H 28 236 [y,b] λu f=>
 bK f 273 x0 a λv=>
 an f 249 v λp=>
 bt false f 34 237 [p,b] λd c=>
 bK c 273 x0 a λl=>
 ar 249 l 2 λm=>
 an c 36 m λq=>
 bK c 36 q b λe=>
 an c 21 e λj=>
 KD 275 0 u 1 d 2 j λo=>
 Sq c 44 242 1 0 o λi D=>
 mG D 45 242 242 x3 i λh w=>
 eD 3 20 1 b λn=>
  bN env Tryz.f221 0 jg [(5,n),(4,a),(0,x0),(3,h)] w Q) (
 eD 3 10 1 a λk=>
  bN env Tryz.f221 0 lN [(4,k),(0,x0),(3,x3)] H Q)
theorem ph(a b x0 x3:AV)(H:ai)(Q:AV->ai->Prop)(h : ∀g,jl g a b x0 x3 H Q):bN env Tryz.f221 0 jg [(5,a),(4,b),(0,x0),(3,x3)] H Q:=s8 mR (by kernel_rfl) h
def qF:Prop:=
 bu H 1 33 x0 λb a=>
 an a 33 b λc=>
 oR 33 λe=>
 ql 33 3 4 c e λd=>
 Q d a
theorem xz(h : ∀g:dB,qF x0 H Q):dq Tryz.f222 0 [(0,x0)] H Q:=ga (by kernel_rfl) h
noncomputable def gN:=tf Tryz.f223 2
def pz:Nat->Option (List Nat):=λi=>cond (Nat.beq i 2) (some [5,3,0]) (none)
def pO:Prop:=
 bu H 3 29 x1 λb a=>
  bN env Tryz.f223 0 gN [(5,(.v (.int .i64 0))),(3,b),(0,x0)] a Q
theorem wL(h : ∀g:dB,pO x0 x1 H Q):dq Tryz.f223 0 [(0,x0),(1,x1)] H Q:=vD pz (by kernel_rfl) h
def gZ(g:Nat->AV)(a x3 x0:AV)(H:ai)(Q:AV->ai->Prop):Prop:=
 eW H 8 277 x0 λh=>
 dD 3 6 8 a h λi=>
 br (some i) (
 bK H 277 x0 a λf=>
 an H 29 f λb=>
 an H 29 x3 λd=>
 ql 29 15 16 b d λc=>
 br (some c) (
 Q (.v (.bool true)) H) (
 eD 3 10 1 a λe=>
  bN env Tryz.f223 0 gN [(5,e),(3,x3),(0,x0)] H Q)) (
 Q (.v (.bool false)) H)
theorem nY(a x3 x0:AV)(H:ai)(Q:AV->ai->Prop)(h : ∀g,gZ g a x3 x0 H Q):bN env Tryz.f223 0 gN [(5,a),(3,x3),(0,x0)] H Q:=s8 pz (by kernel_rfl) h
noncomputable def gp:=tf Tryz.f224 4
def sC:Nat->Option (List Nat):=λi=>cond (Nat.beq i 4) (some [9,8,7]) (none)
def nw:Prop:=
 bu H 4 33 x1 λb d=>
 bu d 5 29 x2 λk c=>
 ar 33 b 0 λn=>
 ar 31 n 0 λe=>
 an c 29 e λj=>
 tn c 13 277 1 0 j λf a=>
 an a 33 b λl=>
 an a 29 k λm=>
 bt true a 17 238 [x0,l,m] λi h=>
  bN env Tryz.f224 0 gp [(9,(.v (.int .i64 0))),(8,i),(7,f)] h Q
theorem zY(h : ∀g:dB,nw x0 x1 x2 H Q):dq Tryz.f224 0 [(0,x0),(1,x1),(2,x2)] H Q:=vD sC (by kernel_rfl) h
def gx(g:Nat->AV)(b a c:AV)(H:ai)(Q:AV->ai->Prop):Prop:=
 eW H 20 277 a λn=>
 dD 3 18 20 b n λt=>
 br (some t) (
 bK H 277 a b λm=>
 an H 29 m λi=>
 bt true H 29 223 [c,i] λk d=>
 gH k λj=>
 br (some j) (
 bK d 277 a b λf=>
 an d 29 f λl=>
 tn d 36 277 1 0 l λo p=>
 mG p 37 277 277 c o λh q=>
 eD 3 22 1 b λe=>
  bN env Tryz.f224 0 gp [(9,e),(8,a),(7,h)] q Q) (
 eD 3 22 1 b λf=>
  bN env Tryz.f224 0 gp [(9,f),(8,a),(7,c)] d Q)) (
 Q c H)
theorem qp(c a b:AV)(H:ai)(Q:AV->ai->Prop)(h : ∀g,gx g c a b H Q):bN env Tryz.f224 0 gp [(9,c),(8,a),(7,b)] H Q:=s8 sC (by kernel_rfl) h
def sI:Prop:=
 bu H 2 249 x0 λf q=>
 dE q 4 33 λh c=>
 ar 249 f 0 λp=>
 ar 35 p 0 λj=>
 ar 33 j 0 λm=>
 an c 31 m λk=>
 ar 249 f 0 λn=>
 ar 35 n 0 λo=>
 ar 33 o 1 λt=>
 an c 3 t λd=>
 qj 3 12 13 d x1 λe=>
 iZ (mP env.P 33 (some [(0,k),(1,e)])) λa=>
 aN c 33 h a λl i=>
 dN i h 33 λb=>
 Q b i
theorem zZ(h : ∀g:dB,sI x0 x1 H Q):dq Tryz.f236 0 [(0,x0),(1,x1)] H Q:=ga (by kernel_rfl) h
def kZ:Prop:=
 bu H 2 249 x0 λf k=>
 dE k 4 33 λb a=>
 zC 3 5 0 x1 λm=>
 br (some m) (
 ar 249 f 1 λd=>
 an a 33 d λe=>
 aN a 33 b e λh c=>
 dN c b 33 λj=>
 Q j c) (
 an a 249 f λd=>
 Fk 3 10 1 x1 λe=>
 bt true a 12 236 [d,e] λh c=>
 aN c 33 b h λj i=>
 dN i b 33 λl=>
 Q l i)
theorem vI(h : ∀g:dB,kZ x0 x1 H Q):dq Tryz.f237 0 [(0,x0),(1,x1)] H Q:=ga (by kernel_rfl) h
noncomputable def eH:=tf Tryz.f238 3
def oZ:Nat->Option (List Nat):=λi=>cond (Nat.beq i 3) (some [8,0,7,5,4]) (none)
def o5:Prop:=
 bu H 4 33 x1 λb a=>
 bu a 5 29 x2 λd c=>
  bN env Tryz.f238 0 eH [(8,(.v (.int .i64 0))),(0,x0),(7,(.v (.slice none 0 0))),(5,d),(4,b)] c Q
theorem vH(h : ∀g:dB,o5 x0 x1 x2 H Q):dq Tryz.f238 0 [(0,x0),(1,x1),(2,x2)] H Q:=vD oZ (by kernel_rfl) h
def cN(g:Nat->AV)(c x0 A n o:AV)(H:ai)(Q:AV->ai->Prop):Prop:=
 eW H 11 41 x0 λN=>
 dD 3 9 11 c N λO=>
 br (some O) (
 bK H 41 x0 c λM=>
 ar 38 M 0 λK=>
 an H 5 K λF=>
 Fh 5 19 F λb=>
 gQ b true (aZ x0) λL=>
 gQ b true (aZ c) λG=>
 gQ b true (qi H 41 L G) λI=>
 gQ b true (aA 38 I 3) λD=>
 gQ b true (az H 35 D) λi=>
 gQ b true (az H 33 o) λv=>
 gW b true H (eN false H 28 245 [i,v]) λw e=>
 bA b w λa=>
 gQ a true (aZ x0) λl=>
 gQ a true (aZ c) λt=>
 gQ a true (qi e 41 l t) λz=>
 gQ a true (aA 38 z 1) λp=>
 gQ a true (aA 31 p 0) λm=>
 gQ a true (az e 29 m) λx=>
 gQ a true (az e 29 n) λj=>
 gW a true e (eN false e 38 144 [x,j]) λy f=>
 bA a y λu=>
 br (some u) (
 bK f 41 x0 c λd=>
 ar 38 d 5 λC=>
 an f 29 C λE=>
 tn f 46 277 1 0 E λk P=>
 mG P 47 277 277 A k λh J=>
 eD 3 13 1 c λq=>
  bN env Tryz.f238 0 eH [(8,q),(0,x0),(7,h),(5,n),(4,o)] J Q) (
 eD 3 13 1 c λd=>
  bN env Tryz.f238 0 eH [(8,d),(0,x0),(7,A),(5,n),(4,o)] f Q)) (
 Q A H)
theorem nB(a x0 d b c:AV)(H:ai)(Q:AV->ai->Prop)(h : ∀g,cN g a x0 d b c H Q):bN env Tryz.f238 0 eH [(8,a),(0,x0),(7,d),(5,b),(4,c)] H Q:=s8 oZ (by kernel_rfl) h
def kn:Prop:=
 bu H 2 35 x0 λd D=>
 bu D 3 33 x1 λt b=>
 ar 35 d 0 λC=>
 ar 33 C 0 λx=>
 an b 31 x λz=>
 ar 33 t 0 λy=>
 an b 31 y λA=>
 ql 31 7 9 z A λc=>
 gQ c true (aA 33 t 1) λE=>
 gQ c true (az b 3 E) λq=>
 gQ c true (aA 35 d 0) λw=>
 gQ c true (aA 33 w 1) λf=>
 gQ c true (az b 3 f) λi=>
 gQ c true (Pw 3 13 16 q i) λl=>
 bA c l λa=>
 gQ a true (aA 33 t 1) λv=>
 gQ a true (az b 3 v) λm=>
 gQ a true (aA 35 d 0) λp=>
 gQ a true (aA 33 p 1) λn=>
 gQ a true (az b 3 n) λj=>
 gQ a true (aA 35 d 1) λh=>
 gQ a true (az b 3 h) λk=>
 gQ a true (Px 3 24 26 j k) λe=>
 gQ a true (Ff 3 21 27 m e) λu=>
 bA a u λo=>
 Q o b
theorem yB(h : ∀g:dB,kn x0 x1 H Q):dq Tryz.f245 0 [(0,x0),(1,x1)] H Q:=ga (by kernel_rfl) h
end Go.Proofs.YtmkmimgokagimaaGreat
namespace Go.Proofs.YtmkmimgokagimaaGreat
open Go.Ab
variable(dep:Nat)(g:Nat->AV)(x0 x1:AV)(H:ai)(Q:AV->ai->Prop)
def zP:Prop:=
 bu H 1 62 x0 λd a=>
 an a 62 d λf=>
 Ek 173 0 f λi=>
 bt true a 8 101 [i] λb c=>
 ba b 0 λj=>
 ba b 1 λe=>
 gH e λh=>
 br (some h) (
 Q (.v (.int .i64 8)) c) (
 Q (.v (.int .i64 0)) c)
theorem EU(h : ∀g:dB,zP x0 H Q):dq Tryz.f82 0 [(0,x0)] H Q:=ga (by kernel_rfl) h
def mz:Prop:=
 bu H 2 25 x0 λu G=>
 bu G 3 60 x1 λw J=>
 dE J 4 25 λd x=>
 an x 25 u λz=>
 bt false x 11 102 [z] λC y=>
 an y 60 w λA=>
 bt false y 13 202 [A] λD e=>
 KG e 14 42 42 C D λt=>
 lf 42 15 0 t λI=>
 br (some I) (
 oR 25 λc=>
 aN e 25 d c λl m=>
 dN m d 25 λa=>
 Q (.tup [a,t]) m) (
 an e 25 u λc=>
 an e 60 w λl=>
 bt true e 21 203 [c,l] λa m=>
 iZ (s9 env.P (some a) 25 true) λf=>
 ba f 0 λp=>
 ba f 1 λq=>
 dE m 8 25 λk E=>
 aN E 25 k p λF n=>
 br (some q) (
 an n 25 k λb=>
 aN n 25 d b λi j=>
 dN j d 25 λh=>
 Q (.tup [h,(.v (.int .i64 0))]) j) (
 oR 25 λb=>
 iZ (s9 env.P (some a) 42 false) λi=>
 aN n 25 d b λh j=>
 dN j d 25 λo=>
 Q (.tup [o,i]) j))
theorem Ai(h : ∀g:dB,mz x0 x1 H Q):dq Tryz.f152 0 [(0,x0),(1,x1)] H Q:=ga (by kernel_rfl) h
def AJ:Prop:=
 bu H 1 62 x0 λa h=>
 dE h 2 62 λf e=>
 ar 62 a 2 λn=>
 an e 38 n λi=>
 bt true e 5 108 [i] λl k=>
 ar 62 a 2 λj=>
 aN k 38 j l λp d=>
 an d 62 a λm=>
 aN d 62 f m λo c=>
 dN c f 62 λb=>
 Q b c
theorem F4(h : ∀g:dB,AJ x0 H Q):dq Tryz.f161 0 [(0,x0)] H Q:=ga (by kernel_rfl) h
def zt:Prop:=
 bu H 1 60 x0 λq z=>
 an z 60 q λF=>
 bt true z 9 202 [F] λy t=>
 lf 42 10 0 y λA=>
 br (some A) (
 Q (.tup [(.v (.slice none 0 0)),y]) t) (
 ar 60 q 1 λD=>
 ar 58 D 1 λC=>
 an t 4 C λE=>
 br (some E) (
 ar 60 q 1 λw=>
 ar 58 w 0 λx=>
 an t 29 x λn=>
 Ek 31 0 n λp=>
 bt true t 21 162 [p] λa c=>
 ba a 0 λb=>
 ba a 1 λh=>
 ar 60 q 0 λi=>
 an c 3 i λo=>
 qm c 26 3 5 o λj=>
 m4 (pJ env.P true false c (Ref.mk 0 28 (ai.gen c 0 28) 0) 170 2 (some [(0,j),(1,(a8 1))])) λm l=>
 eW l 31 170 b λk=>
 Fk 3 31 1 k λe=>
 Fg l 170 b e λd=>
 mG l 34 170 170 m d λf u=>
 Q (.tup [f,h]) u) (
 ar 60 q 1 λw=>
 ar 58 w 0 λx=>
 an t 29 x λn=>
 Ek 31 0 n λp=>
 bt true t 21 162 [p] λa c=>
 ba a 0 λb=>
 ba a 1 λh=>
 ar 60 q 0 λi=>
 an c 3 i λo=>
 qm c 26 3 5 o λj=>
 m4 (pJ env.P true false c (Ref.mk 0 28 (ai.gen c 0 28) 0) 170 2 (some [(0,j),(1,(a8 0))])) λm l=>
 eW l 31 170 b λk=>
 Fk 3 31 1 k λe=>
 Fg l 170 b e λd=>
 mG l 34 170 170 m d λf u=>
 Q (.tup [f,h]) u))
theorem JK(h : ∀g:dB,zt x0 H Q):dq Tryz.f164 0 [(0,x0)] H Q:=ga (by kernel_rfl) h
def mv:Prop:=
 bu H 2 62 x0 λf I=>
 bu I 3 62 x1 λh d=>
 ar 62 f 0 λM=>
 an d 5 M λK=>
 ar 62 h 0 λF=>
 an d 5 F λL=>
 ql 5 6 8 K L λe=>
 gQ e true (aA 62 f 1) λG=>
 gQ e true (az d 3 G) λJ=>
 gQ e true (aA 62 h 1) λz=>
 gQ e true (az d 3 z) λE=>
 gQ e true (fK 3 12 14 J E) λu=>
 bA e u λb=>
 gQ b true (aA 62 f 2) λA=>
 gQ b true (az d 38 A) λn=>
 gQ b true (aA 62 h 2) λq=>
 gQ b true (az d 38 q) λy=>
 gW b true d (eN true d 22 211 [n,y]) λo i=>
 bA b o λa=>
 gQ a true (aA 62 f 3) λw=>
 gQ a true (az i 42 w) λk=>
 gQ a true (aA 62 h 3) λx=>
 gQ a true (az i 42 x) λt=>
 gQ a true (fK 42 26 28 k t) λC=>
 bA a C λc=>
 gQ c true (aA 62 f 4) λD=>
 gQ c true (az i 60 D) λl=>
 gQ c true (aA 62 h 4) λj=>
 gQ c true (az i 60 j) λp=>
 gQ c true (fK 60 33 35 l p) λm=>
 bA c m λv=>
 Q v i
theorem F5(h : ∀g:dB,mv x0 x1 H Q):dq Tryz.f165 0 [(0,x0),(1,x1)] H Q:=ga (by kernel_rfl) h
def vB:Prop:=
 bu H 1 60 x0 λe h=>
 ar 60 e 1 λI=>
 ar 58 I 1 λF=>
 an h 4 F λd=>
 gQ d false (aA 60 e 1) λC=>
 gQ d false (aA 58 C 0) λA=>
 gQ d false (az h 29 A) λD=>
 gW d false h (eN false h 11 185 []) λE f=>
 gQ d false (fK 29 10 11 D E) λG=>
 dO d G λt=>
 ar 60 e 0 λy=>
 an f 3 y λi=>
 Fl 3 15 0 i λb=>
 gQ b false (aA 60 e 0) λm=>
 gQ b false (az f 3 m) λn=>
 gQ b false (vO 3 19 8 n) λw=>
 dO b w λa=>
 gQ a false (aA 60 e 1) λq=>
 gQ a false (aA 58 q 0) λo=>
 gQ a false (az f 29 o) λk=>
 gW a false f (eN true f 26 76 [k]) λj z=>
 gQ a false (Fj 42 26 0 j) λl=>
 dO a l λc=>
 gQ c false (aZ t) λu=>
 gQ c false (qh u) λp=>
 dO c p λx=>
 br (some x) (
 Q (.v (.int .i64 8)) z) (
 Q (.v (.int .i64 0)) z)
theorem Gc(h : ∀g:dB,vB x0 H Q):dq Tryz.f202 0 [(0,x0)] H Q:=ga (by kernel_rfl) h
def my:Prop:=
 bu H 2 25 x0 λa G=>
 bu G 3 60 x1 λu b=>
 ar 60 u 0 λM=>
 an b 3 M λI=>
 ar 25 a 0 λE=>
 an b 22 E λJ=>
 eW b 10 22 J λL=>
 iZ (cf env.P .geq 3 (Operand.tmp 7) (Operand.tmp 10) (some I) (some L)) λF=>
 br (some F) (
 iZ (sT env.P 42 (some (AV.v (Value.int IntKind.i64 2)))) λk=>
 Q k b) (
 ar 25 a 2 λk=>
 an b 3 k λw=>
 zC 3 15 0 w λz=>
 br (some z) (
 iZ (sT env.P 42 (some (AV.v (Value.int IntKind.i64 9)))) λc=>
 Q c b) (
 an b 25 a λc=>
 bt true b 19 160 [c] λo O=>
 aN O 25 a o λN d=>
 ar 25 a 0 λh=>
 an d 22 h λm=>
 ar 60 u 0 λq=>
 an d 3 q λj=>
 ar 60 u 1 λi=>
 an d 58 i λp=>
 bK d 22 m j λf=>
 aN d 58 f p λK C=>
 ar 25 a 2 λn=>
 an C 3 n λx=>
 Fk 3 28 1 x λt=>
 ar 25 a 2 λy=>
 aN C 3 y t λD A=>
 an A 25 a λe=>
 iZ (sT env.P 25 (some e)) λl=>
 Q l A))
theorem nV(h : ∀g:dB,my x0 x1 H Q):dq Tryz.f203 0 [(0,x0),(1,x1)] H Q:=ga (by kernel_rfl) h
end Go.Proofs.YtmkmimgokagimaaGreat
namespace Go.Proofs.YtmkmimgokagimaaGreat
open Go.Ab
variable(dep:Nat)(g:Nat->AV)(x0 x1 x2:AV)(H:ai)(Q:AV->ai->Prop)
def zS:Prop:=
 bu H 2 25 x0 λA F=>
 bu F 3 29 x1 λu K=>
 dE K 4 81 λd w=>
 an w 25 A λI=>
 an w 29 u λD=>
 bt true w 11 104 [I,D] λz k=>
 lf 42 12 0 z λJ=>
 br (some J) (
 oR 81 λm=>
 aN k 81 d m λy l=>
 dN l d 81 λc=>
 Q (.tup [c,z]) l) (
 ar 25 A 1 λm=>
 an k 23 m λy=>
 an k 29 u λc=>
 bt true k 20 105 [y,c,(.fn (.func 106) [] [])] λi l=>
 ba i 0 λo=>
 ba i 1 λp=>
 dE l 7 81 λa G=>
 aN G 81 a o λE j=>
 gH p λn=>
 br (some n) (
 an j 29 u λb=>
 ar 81 a 0 λf=>
 aN j 29 f b λe h=>
 an h 81 a λq=>
 aN h 81 d q λC x=>
 dN x d 81 λt=>
 Q (.tup [t,(.v (.int .i64 0))]) x) (
 an j 81 a λb=>
 aN j 81 d b λf h=>
 dN h d 81 λe=>
 Q (.tup [e,(.v (.int .i64 0))]) h))
theorem EX(h : ∀g:dB,zS x0 x1 H Q):dq Tryz.f44 0 [(0,x0),(1,x1)] H Q:=ga (by kernel_rfl) h
def pV:Prop:=
 bu H 1 25 x0 λd a=>
 ar 25 d 0 λj=>
 an a 22 j λl=>
 eW a 5 22 l λe=>
 Ca 3 5 100 e λb=>
 gQ b false (aA 25 d 1) λf=>
 gQ b false (az a 23 f) λi=>
 gQ b false (uL a 10 23 i) λk=>
 gQ b false (zA 3 10 100 k) λh=>
 dO b h λc=>
 Q c a
theorem wQ(h : ∀g:dB,pV x0 H Q):dq Tryz.f63 0 [(0,x0)] H Q:=ga (by kernel_rfl) h
noncomputable def nG:=tf Tryz.f102 3
noncomputable def nF:=tf Tryz.f102 8
noncomputable def mT:=tf Tryz.f102 14
def pY:Nat->Option (List Nat):=λi=>cond (Nat.beq i 3) (some [27,3,25,1,26]) (cond (Nat.beq i 8) (some [40,1,3,38,39]) (cond (Nat.beq i 14) (some [87,8,85,1,3,86]) (none)))
def zT:Prop:=
 bu H 1 25 x0 λb a=>
 ar 25 b 0 λw=>
 an a 22 w λu=>
 eW a 13 22 u λn=>
 Sz 3 13 8 n λp=>
 ar 25 b 1 λo=>
 an a 23 o λq=>
 eW a 17 23 q λt=>
 Sz 3 17 8 t λx=>
 ar 25 b 2 λj=>
 an a 3 j λl=>
 bt false a 21 167 [l,(.v (.int .i64 64))] λd m=>
 m4 (pJ env.P true false m (Ref.mk 0 22 (ai.gen m 0 22) 0) 262 3 (some [(0,p),(1,x),(2,d)])) λe y=>
 bt false y 23 166 [e] λf k=>
 ar 25 b 0 λh=>
 an k 22 h λc=>
 eW k 26 22 c λi=>
  bN env Tryz.f102 0 nG [(27,(.v (.int .i64 0))),(3,f),(25,c),(1,b),(26,i)] k Q
theorem EY(h : ∀g:dB,zT x0 H Q):dq Tryz.f102 0 [(0,x0)] H Q:=vD pY (by kernel_rfl) h
def rR(g:Nat->AV)(a f c x1 b:AV)(H:ai)(Q:AV->ai->Prop):Prop:=
 dD 3 27 26 a b λn=>
 br (some n) (
 bK H 22 c a λi=>
 an H 58 i λe=>
 dE H 5 58 λd m=>
 aN m 58 d e λq h=>
 gQ f true (az h 58 d) λj=>
 gW f true h (eN true h 34 168 [j]) λk p=>
 bA f k λl=>
 eD 3 27 1 a λo=>
  bN env Tryz.f102 0 nG [(27,o),(3,l),(25,c),(1,x1),(26,b)] p Q) (
 ar 25 x1 1 λi=>
 an H 23 i λe=>
 eW H 39 23 e λd=>
  bN env Tryz.f102 0 nF [(40,(.v (.int .i64 0))),(1,x1),(3,f),(38,e),(39,d)] H Q)
theorem vU(c d a x1 b:AV)(H:ai)(Q:AV->ai->Prop)(h : ∀g,rR g c d a x1 b H Q):bN env Tryz.f102 0 nG [(27,c),(3,d),(25,a),(1,x1),(26,b)] H Q:=s8 pY (by kernel_rfl) h
def jE(g:Nat->AV)(c x1 b h f:AV)(H:ai)(Q:AV->ai->Prop):Prop:=
 dD 3 40 39 c f λv1=>
 br (some v1) (
 bK H 23 h c λT=>
 an H 81 T λN=>
 dE H 7 81 λe H1=>
 aN H1 81 e N λv5 U=>
 gQ b true (aA 81 e 0) λF=>
 gQ b true (az U 29 F) λM=>
 gW b true U (eN false U 49 76 [M]) λi V=>
 gQ b true (qW 42 49 0 i) λx=>
 gQ b true (aA 81 e 1) λX=>
 gQ b true (az V 3 X) λv11=>
 gW b true V (eN false V 53 167 [v11,(.v (.int .i64 64))]) λG y=>
 gQ b true (aA 81 e 2) λJ=>
 gQ b true (az y 3 J) λW=>
 gW b true y (eN false y 56 167 [W,(.v (.int .i64 256))]) λq D=>
 gQ b true (aA 81 e 3) λA=>
 gQ b true (az D 3 A) λO=>
 gW b true D (eN false D 59 167 [O,(.v (.int .i64 4096))]) λw d=>
 gQ b true (aZ c) λt=>
 gQ b true (qW 3 60 0 t) λK=>
 gQ b true (aZ K) λa=>
 gQ a false (aA 25 x1 1) λL=>
 gQ a false (az d 23 L) λE=>
 gQ a false (aZ c) λY=>
 gQ a false (Sx 3 65 1 Y) λS=>
 gQ a false (cO env.P true (ai.get d) (Ref.mk 0 67 (ai.gen d 0 67) 0) .max #[3,3] [S,(.v (.int .i64 0))]) λZ=>
 gQ a false (qi d 23 E Z) λn=>
 gQ a false (aA 81 n 0) λk=>
 gQ a false (az d 29 k) λz=>
 gQ a false (aA 81 e 0) λp=>
 gQ a false (az d 29 p) λI=>
 gW a false d (eN false d 73 169 [z,I]) λu o=>
 gQ b true (KE a u) λC=>
 gW b true o (pJ env.P true false o (Ref.mk 0 75 (ai.gen o 0 75) 0) 262 5 (some [(0,x),(1,G),(2,q),(3,w),(4,C)])) λm H8=>
 gW b true H8 (eN false H8 76 166 [m]) λj H9=>
 bA b j λl=>
 eD 3 40 1 c λR=>
  bN env Tryz.f102 0 nF [(40,R),(1,x1),(3,l),(38,h),(39,f)] H9 Q) (
 ar 25 x1 1 λT=>
 an H 23 T λN=>
 ar 25 x1 1 λe=>
 an H 23 e λv5=>
 eW H 83 23 v5 λF=>
 iZ (cO env.P false (ai.get H) (Ref.mk 0 84 (ai.gen H 0 84) 0) .min #[3,3] [F,(.v (.int .i64 8))]) λM=>
 Fg H 23 N M λi=>
 eW H 86 23 i λx=>
  bN env Tryz.f102 0 mT [(87,(.v (.int .i64 0))),(8,(.v (.int .i64 0))),(85,i),(1,x1),(3,b),(86,x)] H Q)
theorem vT(a x1 d c b:AV)(H:ai)(Q:AV->ai->Prop)(h : ∀g,jE g a x1 d c b H Q):bN env Tryz.f102 0 nF [(40,a),(1,x1),(3,d),(38,c),(39,b)] H Q:=s8 pY (by kernel_rfl) h
def qf(g:Nat->AV)(a p e x1 t f:AV)(H:ai)(Q:AV->ai->Prop):Prop:=
 dD 3 87 86 a f λu=>
 br (some u) (
 bK H 23 e a λc=>
 an H 81 c λm=>
 dE H 10 81 λh i=>
 aN i 81 h m λq b=>
 ar 81 h 3 λd=>
 an b 3 d λk=>
 iZ (cO env.P false (ai.get b) (Ref.mk 0 94 (ai.gen b 0 94) 0) .max #[3,3] [k,(.v (.int .i64 0))]) λl=>
 iZ (cO env.P false (ai.get b) (Ref.mk 0 95 (ai.gen b 0 95) 0) .min #[3,3] [l,(.v (.int .i64 4096))]) λn=>
 qj 3 91 95 p n λo=>
 eD 3 87 1 a λj=>
  bN env Tryz.f102 0 mT [(87,j),(8,o),(85,e),(1,x1),(3,t),(86,f)] b Q) (
 gH t λc=>
 gQ c false (az H 25 x1) λm=>
 gW c false H (eN true H 102 103 [m]) λh i=>
 gQ c false (zA 3 102 2048 h) λq=>
 dO c q λd=>
 gQ d false (aZ p) λk=>
 gQ d false (zA 3 106 8192 k) λl=>
 dO d l λn=>
 br (some n) (
 Q (.v (.int .i64 8)) i) (
 Q (.v (.int .i64 0)) i))
theorem uT(c d a x1 e b:AV)(H:ai)(Q:AV->ai->Prop)(h : ∀g,qf g c d a x1 e b H Q):bN env Tryz.f102 0 mT [(87,c),(8,d),(85,a),(1,x1),(3,e),(86,b)] H Q:=s8 pY (by kernel_rfl) h
noncomputable def mS:=tf Tryz.f103 3
def xT:Nat->Option (List Nat):=λi=>cond (Nat.beq i 3) (some [11,3,9,10]) (none)
def yl:Prop:=
 bu H 1 25 x0 λb a=>
 ar 25 b 2 λd=>
 an a 3 d λh=>
 ar 25 b 1 λe=>
 an a 23 e λc=>
 eW a 10 23 c λf=>
  bN env Tryz.f103 0 mS [(11,(.v (.int .i64 0))),(3,h),(9,c),(10,f)] a Q
theorem DC(h : ∀g:dB,yl x0 H Q):dq Tryz.f103 0 [(0,x0)] H Q:=vD xT (by kernel_rfl) h
def qe(g:Nat->AV)(a j k b:AV)(H:ai)(Q:AV->ai->Prop):Prop:=
 dD 3 11 10 a b λq=>
 br (some q) (
 bK H 23 k a λu=>
 an H 81 u λo=>
 dE H 5 81 λd p=>
 aN p 81 d o λv h=>
 ar 81 d 1 λl=>
 an h 3 l λm=>
 ar 81 d 2 λn=>
 an h 3 n λt=>
 Sy 3 4 19 t λi=>
 qj 3 17 20 m i λc=>
 qj 3 15 21 j c λe=>
 eD 3 11 1 a λf=>
  bN env Tryz.f103 0 mS [(11,f),(3,e),(9,k),(10,b)] h Q) (
 Q j H)
theorem uS(b c d a:AV)(H:ai)(Q:AV->ai->Prop)(h : ∀g,qe g b c d a H Q):bN env Tryz.f103 0 mS [(11,b),(3,c),(9,d),(10,a)] H Q:=s8 xT (by kernel_rfl) h
def zR:Prop:=
 bu H 2 25 x0 λe d=>
 bu d 3 29 x1 λi b=>
 an b 25 e λl=>
 bt false b 6 102 [l] λf c=>
 an c 29 i λj=>
 bt false c 8 76 [j] λh a=>
 KG a 9 42 42 f h λk=>
 Q k a
theorem EW(h : ∀g:dB,zR x0 x1 H Q):dq Tryz.f104 0 [(0,x0),(1,x1)] H Q:=ga (by kernel_rfl) h
def dZ:Prop:=
 bu H 4 29 x1 λm l=>
 bu l 5 180 x2 λn o=>
 dE o 6 81 λb p=>
 iZ (ue (.func 171) (some []) (some [n,m])) λj=>
 bt true p 11 170 [x0,j] λf c=>
 Fl 3 12 0 f λk=>
 br (some k) (
 an c 81 b λd=>
 aN c 81 b d λh a=>
 dN a b 81 λi=>
 Q (.tup [i,(.v (.bool false))]) a) (
 bK c 23 x0 f λd=>
 an c 81 d λh=>
 aN c 81 b h λi a=>
 dN a b 81 λe=>
 Q (.tup [e,(.v (.bool true))]) a)
theorem jb(h : ∀g:dB,dZ x0 x1 x2 H Q):dq Tryz.f105 0 [(0,x0),(1,x1),(2,x2)] H Q:=ga (by kernel_rfl) h
def wy:Prop:=
 bu H 1 81 x0 λe d=>
 dE d 2 29 λc a=>
 ar 81 e 0 λi=>
 an a 29 i λf=>
 aN a 29 c f λj b=>
 dN b c 29 λh=>
 Q h b
theorem Ck(h : ∀g:dB,wy x0 H Q):dq Tryz.f106 0 [(0,x0)] H Q:=ga (by kernel_rfl) h
def AL:Prop:=
 bu H 1 25 x0 λa v=>
 dE v 2 25 λh i=>
 ar 25 a 0 λu=>
 an i 22 u λl=>
 bt false i 5 205 [l] λo j=>
 ar 25 a 1 λm=>
 an j 23 m λp=>
 bt false j 8 206 [p] λq x=>
 ar 25 a 0 λw=>
 aN x 22 w o λy k=>
 ar 25 a 1 λd=>
 aN k 23 d q λn f=>
 an f 25 a λb=>
 aN f 25 h b λt e=>
 dN e h 25 λc=>
 Q c e
theorem F7(h : ∀g:dB,AL x0 H Q):dq Tryz.f160 0 [(0,x0)] H Q:=ga (by kernel_rfl) h
def BG:Prop:=
 bt true H 4 212 [x0,(.v (.bool false))] λb a=>
 gH b λc=>
 Q c a
theorem HE(h : ∀g:dB,BG x0 H Q):dq Tryz.f166 0 [(0,x0)] H Q:=ga (by kernel_rfl) h
def AK:Prop:=
 vP 3 5 0 x0 λa=>
 gQ a true (aZ x0) λc=>
 gQ a true (aZ x1) λe=>
 gQ a true (cf env.P .leq 3 (Operand.tmp 8) (Operand.tmp 9) (some c) (some e)) λd=>
 bA a d λb=>
 Q b H
theorem F6(h : ∀g:dB,AK x0 x1 H Q):dq Tryz.f167 0 [(0,x0),(1,x1)] H Q:=ga (by kernel_rfl) h
def zQ:Prop:=
 bu H 1 58 x0 λh k=>
 ar 58 h 0 λq=>
 an k 29 q λo=>
 bt false k 5 76 [o] λl c=>
 zC 42 5 0 l λa=>
 gQ a true (aA 58 h 1) λm=>
 gQ a true (az c 4 m) λn=>
 gQ a true (aZ n) λb=>
 gQ b false (aA 58 h 0) λp=>
 gQ b false (az c 29 p) λi=>
 gW b false c (eN false c 13 185 []) λj t=>
 gQ b false (fK 29 12 13 i j) λd=>
 gQ a true (KE b d) λe=>
 bA a e λf=>
 Q f t
theorem EV(h : ∀g:dB,zQ x0 H Q):dq Tryz.f168 0 [(0,x0)] H Q:=ga (by kernel_rfl) h
noncomputable def bo:=tf Tryz.f170 2
def cY:Nat->Option (List Nat):=λi=>cond (Nat.beq i 2) (some [8,0,1,7]) (none)
def cZ:Prop:=
 eW H 7 23 x0 λa=>
  bN env Tryz.f170 0 bo [(8,(.v (.int .i64 0))),(0,x0),(1,x1),(7,a)] H Q
theorem gB(h : ∀g:dB,cZ x0 x1 H Q):dq Tryz.f170 0 [(0,x0),(1,x1)] H Q:=vD cY (by kernel_rfl) h
def bQ(g:Nat->AV)(a x0 x1 b:AV)(H:ai)(Q:AV->ai->Prop):Prop:=
 dD 3 8 7 a b λh=>
 br (some h) (
 bK H 23 x0 a λi=>
 an H 81 i λf=>
 KH H 16 x1 f λd c=>
 br (some d) (
 Q a c) (
 eD 3 8 1 a λe=>
  bN env Tryz.f170 0 bo [(8,e),(0,x0),(1,x1),(7,b)] c Q)) (
 Q (.v (.int .i64 (-1))) H)
theorem cQ(a x0 x1 b:AV)(H:ai)(Q:AV->ai->Prop)(h : ∀g,bQ g a x0 x1 b H Q):bN env Tryz.f170 0 bo [(8,a),(0,x0),(1,x1),(7,b)] H Q:=s8 cY (by kernel_rfl) h
def dG:Prop:=
 bu H 3 81 x0 λc a=>
 an a 180 x1 λh=>
 an a 81 c λi=>
 m4 (bJ env false (aF env) (cg env 0) a (Ref.mk 0 7 (ai.gen a 0 7) 0) (some h) [i]) λd b=>
 an b 29 x2 λf=>
 ql 29 7 8 d f λe=>
 Q e b
theorem iH(h : ∀g:dB,dG x0 x1 x2 H Q):dq Tryz.f171 0 [(0,x0),(1,x1),(2,x2)] H Q:=ga (by kernel_rfl) h
def BH:Prop:=
 bu H 3 25 x0 λo D=>
 bu D 5 29 x2 λA q=>
 an q 25 o λL=>
 an q 29 A λJ=>
 bt true q 12 104 [L,J] λz b=>
 lf 42 13 0 z λK=>
 br (some K) (
 Q (.tup [(.v (.bool false)),z]) b) (
 Fl 3 16 0 x1 λd=>
 gQ d false (aZ x1) λC=>
 gQ d false (aA 25 o 0) λG=>
 gQ d false (az b 22 G) λu=>
 gQ d false (uL b 22 22 u) λy=>
 gQ d false (Pw 3 19 22 C y) λj=>
 dO d j λk=>
 br (some k) (
 Q (.tup [(.v (.bool false)),(.v (.int .i64 0))]) b) (
 ar 25 o 0 λt=>
 an b 22 t λf=>
 bK b 22 f x1 λh=>
 an b 58 h λn=>
 dE b 9 58 λc I=>
 aN I 58 c n λE e=>
 ar 58 c 1 λl=>
 an e 4 l λa=>
 gQ a true (az e 29 A) λm=>
 gQ a true (aA 58 c 0) λi=>
 gQ a true (az e 29 i) λw=>
 gW a true e (eN true e 36 47 [m,w]) λp F=>
 bA a p λx=>
 Q (.tup [x,(.v (.int .i64 0))]) F))
theorem HF(h : ∀g:dB,BH x0 x1 x2 H Q):dq Tryz.f174 0 [(0,x0),(1,x1),(2,x2)] H Q:=ga (by kernel_rfl) h
def bE:Prop:=
 Sv 22 3 x0 λb=>
 br (some b) (
 Q (.v (.slice none 0 0)) H) (
 Sp H 5 22 0 λd a=>
 mG a 7 22 22 d x0 λe c=>
 Q e c)
theorem cm(h : ∀g:dB,bE x0 H Q):dq Tryz.f205 0 [(0,x0)] H Q:=ga (by kernel_rfl) h
def bD:Prop:=
 Sv 23 3 x0 λb=>
 br (some b) (
 Q (.v (.slice none 0 0)) H) (
 Sp H 5 23 0 λd a=>
 mG a 7 23 23 d x0 λe c=>
 Q e c)
theorem ck(h : ∀g:dB,bD x0 H Q):dq Tryz.f206 0 [(0,x0)] H Q:=ga (by kernel_rfl) h
def mb:Prop:=
 bt true H 7 227 [x0,x1] λb a=>
 vP 3 7 0 b λc=>
 Q c a
theorem sk(h : ∀g:dB,mb x0 x1 H Q):dq Tryz.f212 0 [(0,x0),(1,x1)] H Q:=ga (by kernel_rfl) h
noncomputable def fh:=tf Tryz.f227 2
def na:Nat->Option (List Nat):=λi=>cond (Nat.beq i 2) (some [8,0,1,7]) (none)
def ni:Prop:=
 eW H 7 262 x0 λa=>
  bN env Tryz.f227 0 fh [(8,(.v (.int .i64 0))),(0,x0),(1,x1),(7,a)] H Q
theorem tQ(h : ∀g:dB,ni x0 x1 H Q):dq Tryz.f227 0 [(0,x0),(1,x1)] H Q:=vD na (by kernel_rfl) h
def iU(g:Nat->AV)(a x0 x1 b:AV)(H:ai)(Q:AV->ai->Prop):Prop:=
 dD 3 8 7 a b λf=>
 br (some f) (
 bK H 262 x0 a λh=>
 an H 4 h λe=>
 ql 4 11 15 x1 e λc=>
 br (some c) (
 Q a H) (
 eD 3 8 1 a λd=>
  bN env Tryz.f227 0 fh [(8,d),(0,x0),(1,x1),(7,b)] H Q)) (
 Q (.v (.int .i64 (-1))) H)
theorem mf(a x0 x1 b:AV)(H:ai)(Q:AV->ai->Prop)(h : ∀g,iU g a x0 x1 b H Q):bN env Tryz.f227 0 fh [(8,a),(0,x0),(1,x1),(7,b)] H Q:=s8 na (by kernel_rfl) h
def wF:Prop:=
 bu H 3 38 x1 λd h=>
 bt true h 10 172 [x0] λe a=>
 ba e 0 λo=>
 ba e 1 λi=>
 gH i λm=>
 br (some m) (
 Q (.v (.int .i64 8)) a) (
 an a 38 d λj=>
 bt true a 16 70 [j] λf b=>
 lf 42 17 0 f λn=>
 br (some n) (
 Q f b) (
 an b 38 d λl=>
 bt true b 22 193 [o,l] λc k=>
 Q c k))
theorem K4(h : ∀g:dB,wF x0 x1 H Q):dq Tryz.f137 0 [(0,x0),(1,x1)] H Q:=ga (by kernel_rfl) h
noncomputable def Sa:Code:=(Tryz.f172.body).getD .skip
noncomputable def ox:=tf Tryz.f172 3
noncomputable def rG:=tf Tryz.f172 10
def DX:Nat->Option (List Nat):=λi=>cond (Nat.beq i 3) (some [4,14,12,13]) (cond (Nat.beq i 10) (some [44,4,42,12,13,14,43]) (none))
def Ji:Prop:=
 SA H dep 9 λc b=>
 Ek 266 1 c λd=>
 lX b dep 11 266 d λf a=>
 Fi a dep 13 41 x0 λe=>
  bN env Tryz.f172 (dep+1) ox [(4,f),(14,(.v (.int .i64 0))),(12,x0),(13,e)] a Q
theorem QC(h : ∀g:dB,Ji dep x0 H Q):dq Tryz.f172 (dep+1) [(0,x0)] H Q:=vD DX (by kernel_rfl) h
def wE(dep:Nat)(g:Nat->AV)(e a b c:AV)(H:ai)(Q:AV->ai->Prop):Prop:=
 dD 3 14 13 a c λT=>
 br (some T) (
 bK H 41 b a λU=>
 an H 38 U λS=>
 pe H dep 6 38 λf K=>
 aN K 38 f S λV D=>
 an D 38 f λO=>
 m4 (bJ env true (aF env) (cg env (dep+1)) D (⟨(dep+1),19,ai.gen D (dep+1) 19,0⟩:Ref) (some (.fn (.func 70) [] [])) [O]) λR l=>
 lf 42 19 0 R λi=>
 gQ i false (aZ e) λM=>
 gQ i false (az l 38 f) λF=>
 gW i false l (bJ env true (aF env) (cg env (dep+1)) l (⟨(dep+1),24,ai.gen l (dep+1) 24,0⟩:Ref) (some (.fn (.func 193) [] [])) [M,F]) λI k=>
 gQ i false (Fj 42 24 0 I) λx=>
 dO i x λy=>
 br (some y) (
 Q (.tup [(.v (.pointer none)),(.v (.bool false))]) k) (
 iX e λE=>
 ar 266 E 0 λo=>
 an k 41 o λu=>
 an k 38 f λA=>
 Ss k dep 33 41 1 0 A λq N=>
 Sr N dep 34 41 41 u q λp L=>
 iX e λz=>
 ar 266 z 0 λm=>
 aN L 41 m p λP j=>
 ar 38 f 0 λw=>
 an j 5 w λG=>
 xc 5 38 G λC=>
 br (some C) (
 ar 38 f 3 λd=>
 an j 35 d λn=>
 XT dep j 42 n λh J=>
 Fi J dep 43 244 h λt=>
  bN env Tryz.f172 (dep+1) rG [(44,(.v (.int .i64 0))),(4,e),(42,h),(12,b),(13,c),(14,a),(43,t)] J Q) (
 eD 3 14 1 a λd=>
  bN env Tryz.f172 (dep+1) ox [(4,e),(14,d),(12,b),(13,c)] j Q))) (
 Q (.tup [e,(.v (.bool true))]) H)
theorem Ev(dep:Nat)(d c a b:AV)(H:ai)(Q:AV->ai->Prop)(h : ∀g,wE dep g d c a b H Q):bN env Tryz.f172 (dep+1) ox [(4,d),(14,c),(12,a),(13,b)] H Q:=s8 DX (by kernel_rfl) h
def zu(dep:Nat)(g:Nat->AV)(a i b e f d c:AV)(H:ai)(Q:AV->ai->Prop):Prop:=
 dD 3 44 43 a c λt=>
 br (some t) (
 bK H 244 b a λk=>
 an H 33 k λp=>
 pe H dep 8 33 λl q=>
 aN q 33 l p λy j=>
 iX i λm=>
 ar 266 m 1 λn=>
 an j 264 n λo=>
 an j 33 l λu=>
 m4 (dQ env.P j 264 (some o) (some u) (some (AV.v (Value.bool true)))) λx w=>
 eD 3 44 1 a λh=>
  bN env Tryz.f172 (dep+1) rG [(44,h),(4,i),(42,b),(12,e),(13,f),(14,d),(43,c)] w Q) (
 eD 3 14 1 d λk=>
  bN env Tryz.f172 (dep+1) ox [(4,i),(14,k),(12,e),(13,f)] H Q)
theorem Cs(dep:Nat)(d i a e f c b:AV)(H:ai)(Q:AV->ai->Prop)(h : ∀g,zu dep g d i a e f c b H Q):bN env Tryz.f172 (dep+1) rG [(44,d),(4,i),(42,a),(12,e),(13,f),(14,c),(43,b)] H Q:=s8 DX (by kernel_rfl) h
noncomputable def qV:Code:=(Tryz.f193.body).getD .skip
def ep:Prop:=
 lX H dep 3 38 x1 λl h=>
 iZ (mP env.P 271 (some [(1,(.fn (.func 218) [] [])),(2,(.fn (.func 219) [] [])),(3,(.fn (.func 220) [] []))])) λt=>
 ar 38 l 0 λp=>
 an h 5 p λm=>
 iZ (rj env.P 271 (some t) (some m)) λo=>
 an h 38 l λn=>
 Sw dep h 12 o x0 n λk b=>
 zC 42 13 0 k λa=>
 gQ a true (aZ x0) λq=>
 gQ a true (LL (some q)) λi=>
 gQ a true (aA 266 i 0) λj=>
 gQ a true (az b 41 j) λc=>
 gQ a true (XP b dep 20 41 c) λd=>
 gQ a true (vO 3 20 2048 d) λe=>
 bA a e λf=>
 br (some f) (
 Q (.v (.int .i64 4)) b) (
 Q k b)
theorem qQ(h : ∀g:dB,ep dep x0 x1 H Q):dq Tryz.f193 (dep+1) [(0,x0),(1,x1)] H Q:=ga (by kernel_rfl) h
noncomputable def oy:=tf Tryz.f213 2
def CW:Nat->Option (List Nat):=λi=>cond (Nat.beq i 2) (some [8,2,1,7]) (none)
def Dk:Prop:=
 bu H 1 35 x0 λb a=>
 ar 35 b 1 λd=>
 an a 3 d λc=>
  bN env Tryz.f213 0 oy [(8,(.v (.int .i64 0))),(2,(.v (.slice none 0 0))),(1,b),(7,c)] a Q
theorem JL(h : ∀g:dB,Dk x0 H Q):dq Tryz.f213 0 [(0,x0)] H Q:=vD CW (by kernel_rfl) h
def rU(g:Nat->AV)(a x2 x1 f:AV)(H:ai)(Q:AV->ai->Prop):Prop:=
 dD 3 8 7 a f λm=>
 br (some m) (
 an H 35 x1 λn=>
 bt true H 14 228 [n,a] λe l=>
 ba e 0 λj=>
 ba e 1 λt=>
 dE l 4 33 λd p=>
 aN p 33 d j λu h=>
 an h 33 d λk=>
 tn h 19 244 1 0 k λo q=>
 mG q 20 244 244 x2 o λc i=>
 eD 3 8 1 a λb=>
  bN env Tryz.f213 0 oy [(8,b),(2,c),(1,x1),(7,f)] i Q) (
 Q x2 H)
theorem Aj(a x2 x1 b:AV)(H:ai)(Q:AV->ai->Prop)(h : ∀g,rU g a x2 x1 b H Q):bN env Tryz.f213 0 oy [(8,a),(2,x2),(1,x1),(7,b)] H Q:=s8 CW (by kernel_rfl) h
noncomputable def pM:Code:=(Tryz.f218.body).getD .skip
def eb:Prop:=
 lX H dep 2 230 x0 λG R=>
 lX R dep 3 38 x1 λe d=>
 ar 38 e 4 λY=>
 an d 33 Y λW=>
 oR 33 λO=>
 vN 33 8 9 W O λc=>
 gQ c true (az d 230 G) λX=>
 gQ c true (az d 38 e) λP=>
 gQ c true (aA 38 e 4) λT=>
 gQ c true (az d 33 T) λJ=>
 gW c true d (bJ env true (aF env) (cg env (dep+1)) d (⟨(dep+1),16,ai.gen d (dep+1) 16,0⟩:Ref) (some (.fn (.func 230) [] [])) [X,P,J]) λN i=>
 gQ c true (qh N) λA=>
 bA c A λD=>
 br (some D) (
 Q (.v (.int .i64 6)) i) (
 an i 38 e λK=>
 m4 (bJ env true (aF env) (cg env (dep+1)) i (⟨(dep+1),21,ai.gen i (dep+1) 21,0⟩:Ref) (some (.fn (.func 231) [] [])) [K]) λf U=>
 ba f 0 λx=>
 ba f 1 λF=>
 pe U dep 5 249 λu V=>
 aN V 249 u x λS h=>
 lf 42 24 0 F λa=>
 gQ a false (aA 38 e 3) λm=>
 gQ a false (az h 35 m) λE=>
 gW a false h (bJ env true (aF env) (cg env (dep+1)) h (⟨(dep+1),29,ai.gen h (dep+1) 29,0⟩:Ref) (some (.fn (.func 213) [] [])) [E]) λz p=>
 gQ a false (ue (.func 233) (some []) (some [G])) λL=>
 gW a false p (bJ env true (aF env) (cg env (dep+1)) p (⟨(dep+1),31,ai.gen p (dep+1) 31,0⟩:Ref) (some (.fn (.func 232) [] [])) [z,L]) λI b=>
 dO a I λM=>
 br (some M) (
 Q (.v (.int .i64 2)) b) (
 an b 230 G λo=>
 iX o λk=>
 ar 266 k 1 λw=>
 an b 264 w λq=>
 Fi b dep 37 264 q λC=>
 ar 38 e 3 λt=>
 ar 35 t 1 λy=>
 an b 3 y λn=>
 qj 3 37 40 C n λj=>
 Ca 3 41 8192 j λl=>
 br (some l) (
 Q (.v (.int .i64 4)) b) (
 Q (.v (.int .i64 0)) b)))
theorem pr(h : ∀g:dB,eb dep x0 x1 H Q):dq Tryz.f218 (dep+1) [(0,x0),(1,x1)] H Q:=ga (by kernel_rfl) h
noncomputable def pL:Code:=(Tryz.f219.body).getD .skip
def kA:Prop:=
 lX H dep 3 38 x1 λb h=>
 an h 38 b λm=>
 XU dep h 8 x0 m λp a=>
 gH p λi=>
 br (some i) (
 Q (.v (.int .i64 6)) a) (
 ar 38 b 3 λl=>
 ar 35 l 0 λj=>
 ar 33 j 0 λn=>
 ar 31 n 0 λo=>
 an a 29 o λk=>
 ar 38 b 1 λe=>
 ar 31 e 0 λf=>
 an a 29 f λc=>
 vN 29 15 18 k c λd=>
 br (some d) (
 Q (.v (.int .i64 2)) a) (
 Q (.v (.int .i64 0)) a))
theorem pq(h : ∀g:dB,kA dep x0 x1 H Q):dq Tryz.f219 (dep+1) [(0,x0),(1,x1)] H Q:=ga (by kernel_rfl) h
noncomputable def qb:Code:=(Tryz.f220.body).getD .skip
def kM:Prop:=
 lX H dep 3 38 x1 λj i=>
 an i 38 j λu=>
 XU dep i 9 x0 u λt b=>
 gH t λm=>
 br (some m) (
 Q (.v (.int .i64 6)) b) (
 iX x0 λo=>
 ar 266 o 0 λn=>
 an b 41 n λp=>
 an b 38 j λq=>
 m4 (bJ env false (aF env) (cg env (dep+1)) b (⟨(dep+1),17,ai.gen b (dep+1) 17,0⟩:Ref) (some (.fn (.func 235) [] [])) [p,q]) λk l=>
 ba k 0 λf=>
 ba k 1 λh=>
 lf 42 20 0 h λa=>
 gQ a false (aZ f) λc=>
 gQ a false (qh c) λd=>
 dO a d λe=>
 br (some e) (
 Q (.v (.int .i64 2)) l) (
 Q (.v (.int .i64 0)) l))
theorem p5(h : ∀g:dB,kM dep x0 x1 H Q):dq Tryz.f220 (dep+1) [(0,x0),(1,x1)] H Q:=ga (by kernel_rfl) h
noncomputable def qU:Code:=(Tryz.f230.body).getD .skip
def gC:Prop:=
 lX H dep 4 38 x1 λq p=>
 lX p dep 5 33 x2 λj b=>
 iX x0 λo=>
 ar 266 o 1 λk=>
 an b 264 k λm=>
 an b 33 j λl=>
 zy b 264 m l λa=>
 gQ a true (aA 33 j 0) λn=>
 gQ a true (aA 31 n 0) λt=>
 gQ a true (az b 29 t) λh=>
 gQ a true (aA 38 q 1) λi=>
 gQ a true (aA 31 i 0) λc=>
 gQ a true (az b 29 c) λd=>
 gW a true b (bJ env false (aF env) (cg env (dep+1)) b (⟨(dep+1),20,ai.gen b (dep+1) 20,0⟩:Ref) (some (.fn (.func 47) [] [])) [h,d]) λe u=>
 bA a e λf=>
 Q f u
theorem qP(h : ∀g:dB,gC dep x0 x1 x2 H Q):dq Tryz.f230 (dep+1) [(0,x0),(1,x1),(2,x2)] H Q:=ga (by kernel_rfl) h
noncomputable def ik:Code:=(Tryz.f232.body).getD .skip
def dt:Prop:=
 m4 (bJ env true (aF env) (cg env (dep+1)) H (⟨(dep+1),7,ai.gen H (dep+1) 7,0⟩:Ref) (some (.fn (.func 241) [] [])) [x0,x1]) λb a=>
 vP 3 7 0 b λc=>
 Q c a
theorem ij(h : ∀g:dB,dt dep x0 x1 H Q):dq Tryz.f232 (dep+1) [(0,x0),(1,x1)] H Q:=ga (by kernel_rfl) h
noncomputable def oO:Code:=(Tryz.f233.body).getD .skip
def jK:Prop:=
 lX H dep 2 33 x0 λb a=>
 an a 230 x1 λh=>
 iX h λi=>
 ar 266 i 1 λc=>
 an a 264 c λe=>
 an a 33 b λd=>
 zy a 264 e d λf=>
 Q f a
theorem oG(h : ∀g:dB,jK dep x0 x1 H Q):dq Tryz.f233 (dep+1) [(0,x0),(1,x1)] H Q:=ga (by kernel_rfl) h
noncomputable def rK:Code:=(Tryz.f234.body).getD .skip
def lH:Prop:=
 lX H dep 2 230 x0 λe d=>
 lX d dep 3 38 x1 λc a=>
 ar 38 c 3 λm=>
 an a 35 m λf=>
 XT dep a 7 f λj b=>
 iZ (ue (.func 242) (some []) (some [e,c])) λh=>
 m4 (bJ env true (aF env) (cg env (dep+1)) b (⟨(dep+1),9,ai.gen b (dep+1) 9,0⟩:Ref) (some (.fn (.func 232) [] [])) [j,h]) λk i=>
 gH k λl=>
 Q l i
theorem q7(h : ∀g:dB,lH dep x0 x1 H Q):dq Tryz.f234 (dep+1) [(0,x0),(1,x1)] H Q:=ga (by kernel_rfl) h
noncomputable def iT:Code:=(Tryz.f241.body).getD .skip
noncomputable def bC:=tf Tryz.f241 2
def dR:Nat->Option (List Nat):=λi=>cond (Nat.beq i 2) (some [8,0,1,7]) (none)
def dT:Prop:=
 Fi H dep 7 244 x0 λa=>
  bN env Tryz.f241 (dep+1) bC [(8,(.v (.int .i64 0))),(0,x0),(1,x1),(7,a)] H Q
theorem iP(h : ∀g:dB,dT dep x0 x1 H Q):dq Tryz.f241 (dep+1) [(0,x0),(1,x1)] H Q:=vD dR (by kernel_rfl) h
def cp(dep:Nat)(g:Nat->AV)(a x0 x1 b:AV)(H:ai)(Q:AV->ai->Prop):Prop:=
 dD 3 8 7 a b λh=>
 br (some h) (
 bK H 244 x0 a λi=>
 an H 33 i λf=>
 Im dep H 16 x1 f λd c=>
 br (some d) (
 Q a c) (
 eD 3 8 1 a λe=>
  bN env Tryz.f241 (dep+1) bC [(8,e),(0,x0),(1,x1),(7,b)] c Q)) (
 Q (.v (.int .i64 (-1))) H)
theorem dx(dep:Nat)(a x0 x1 b:AV)(H:ai)(Q:AV->ai->Prop)(h : ∀g,cp dep g a x0 x1 b H Q):bN env Tryz.f241 (dep+1) bC [(8,a),(0,x0),(1,x1),(7,b)] H Q:=s8 dR (by kernel_rfl) h
noncomputable def qc:Code:=(Tryz.f242.body).getD .skip
def kN:Prop:=
 lX H dep 3 33 x0 λb a=>
 an a 230 x1 λh=>
 an a 38 x2 λi=>
 an a 33 b λc=>
 m4 (bJ env true (aF env) (cg env (dep+1)) a (⟨(dep+1),8,ai.gen a (dep+1) 8,0⟩:Ref) (some (.fn (.func 230) [] [])) [h,i,c]) λf e=>
 gH f λd=>
 Q d e
theorem p6(h : ∀g:dB,kN dep x0 x1 x2 H Q):dq Tryz.f242 (dep+1) [(0,x0),(1,x1),(2,x2)] H Q:=ga (by kernel_rfl) h
end Go.Proofs.YtmkmimgokagimaaGreat
