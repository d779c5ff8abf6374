/-
  Maps whose keys are plain: what is looked up, kept, and taken apart. No statement of a seat is proved here.
-/
import Derived.Test.YtdbiffjdomokfaaGreatRows
import Derived.Test.YtdbiffjdomokfaaGreatAbsRules
set_option linter.unusedVariables false
set_option linter.unusedSimpArgs false
set_option linter.unusedSectionVars false
set_option linter.unnecessarySimpa false
set_option maxRecDepth 1000000
namespace Go.Ab
def vE{K:Type}[DecidableEq K](k:K):List K->Nat->Option Nat
 | [],_=>none
 | a :: l,i=>if k=a then some i else vE k l (i+1)
structure Vx (P:Program) (kt:TypeId) {K:Type} [DecidableEq K] (val:K->Value):Prop where
 chk : ∀e a,bj P (Instr.checkKey e 10000 kt (val a))=some ()
 eq : ∀a b,bj P (Op.equal kt (val a) (val b))=some (decide (a=b))
 now : ∀d,P.underlying kt=some d ->∀a b,Instr.sameNow d (val a) (val b)=none
 und:(P.underlying kt).isSome=true
 bits : ∀a,Instr.sameBits 10000 (val a) (val a)=true
section
variable{P:Program}{kt:TypeId}{K:Type}[DecidableEq K]{val:K->Value}(h:Vx P kt val)
include h
theorem MD(k:K) : ∀(l:List K)(i:Nat),bj P (Instr.findAsking kt (val k) (l.map λa=>⟨val a,Go.undef,0⟩) i)=some ((vE k l i).map λj=>(j,Go.undef))
 | [],i=>rfl
 | a :: l,i=>by
  simp only[p6,Instr.findAsking,bK,h.eq,fy,vE]
  by_cases e:k=a
  ·simp only[e,decide_true,if_true];rfl
  ·simp only[e,decide_false,jH,if_false];exact MD k l (i+1)
theorem UU(k:K)(l:List K):bj P (Instr.findKey kt (val k) (l.map λa=>⟨val a,Go.undef,0⟩))=some ((vE k l 0).map λj=>(j,Go.undef)):=by
 obtain⟨d,b⟩:=gH.1 h.und
 simp only[Instr.findKey,bK,mD b,fy]
 cases l with
 | nil=>rfl
 | cons a l=>
  have e:Instr.findNow d (val k) ((a :: l).map λa=>⟨val a,Go.undef,0⟩) 0=none:=by
   simp only[p6,Instr.findNow,h.now d b]
  rw[e]
  exact MD h k (a :: l) 0
theorem Ap(e:Bool)(k:K)(l:List K):yY P e kt (val k) (l.map val)=some (vE k l 0):=by
 unfold yY
 rw[h.chk]
 have:=UU h k l
 simp only[Jn,Function.comp_def]
 rw[this]
 cases vE k l 0<;>rfl
end
def cm{K:Type}[DecidableEq K](k:K):List (K × AV)->Option AV
 | []=>none
 | p :: l=>if k=p.1 then some p.2 else cm k l
def jk{K:Type}[DecidableEq K](k:K)(x:AV):List (K × AV)->List (K × AV)
 | []=>[(k,x)]
 | p :: l=>if k=p.1 then (k,x) :: l else p :: jk k x l
@[simp] theorem oh{K:Type}[DecidableEq K](k:K)(x:AV) : ∀l:List (K × AV),cm k (jk k x l)=some x
 | []=>by simp[jk,cm]
 | p :: l=>by
  unfold jk
  split
  ·simp[cm]
  ·rename_i e;simp[cm,e,oh k x l]
theorem mF{K:Type}[DecidableEq K]{k k':K}(e:k'≠k)(x:AV) : ∀l:List (K × AV),cm k' (jk k x l)=cm k' l
 | []=>by simp[jk,cm,e]
 | p :: l=>by
  unfold jk
  split
  ·rename_i h;subst h;simp[cm,e]
  ·simp only[cm];rw[mF e x l]
theorem u4{K:Type}[DecidableEq K](k:K) : ∀(l:List K)(i:Nat),vE k l i=(vE k l 0).map (· + i)
 | [],i=>rfl
 | a :: l,i=>by
  unfold vE
  split
  ·simp
  ·rw[u4 k l (i+1),u4 k l (0+1)]
   cases vE k l 0 with
   | none=>rfl
   | some j=>simp;omega
theorem DX{K:Type}[DecidableEq K](k:K) : ∀(l:List (K × AV)),(match vE k (l.map Prod.fst) 0 with | some i=>(l[i]?).map Prod.snd | none=>none)=cm k l
 | []=>rfl
 | p :: l=>by
  simp only[p6,vE,cm]
  by_cases e:k=p.1
  ·simp[e]
  ·simp only[e,if_false]
   rw[u4]
   have:=DX k l
   cases h:vE k (l.map Prod.fst) 0 with
   | none=>rw[h]at this;simpa using this
   | some j=>rw[h]at this;simpa using this
theorem CX{K:Type}[DecidableEq K](k:K)(x:AV) : ∀(l:List (K × AV)),(match vE k (l.map Prod.fst) 0 with | some i=>l.set i (k,x) | none=>l++[(k,x)])=jk k x l
 | []=>rfl
 | p :: l=>by
  simp only[p6,vE,jk]
  by_cases e:k=p.1
  ·simp[e]
  ·simp only[e,if_false]
   rw[u4]
   have:=CX k x l
   cases h:vE k (l.map Prod.fst) 0 with
   | none=>rw[h]at this;simpa using this
   | some j=>rw[h]at this;simpa using this
theorem CY{K:Type}[DecidableEq K](k:K) : ∀(l:List K)(i:Nat),vE k l 0=some i->l[i]?=some k
 | [],i,h=>by cases h
 | a :: l,i,h=>by
  unfold vE at h
  split at h
  ·rename_i e;subst e;cases h;rfl
  ·rw[u4]at h
   cases b:vE k l 0 with
   | none=>rw[b]at h;cases h
   | some j=>
    rw[b]at h
    simp at h
    subst h
    simpa using CY k l j b
section
variable{P:Program}{kt et t:TypeId}{K:Type}[DecidableEq K]{val:K->Value}{kav:K->AV}(h:Vx P kt val)(hk : ∀k,gI (kav k)=some (val k))(ht:HL P t=some (kt,et))
def cI(kav:K->AV)(l:List (K × AV)):List AV:=l.map λp => .tup [kav p.1,p.2]
theorem uY{g:db}{r:Ref}{l:List (K × AV)}(a:g r=some (bn (cI kav l))):jO g r=some (cI kav l):=by
 unfold jO
 rw[a]
 rfl
include hk in
theorem DW(l:List (K × AV)):(cI kav l).mapM AB=some ((l.map Prod.fst).map val):=by
 induction l with
 | nil=>rfl
 | cons p l a=>
  have e:AB (.tup [kav p.1,p.2])=some (val p.1):=hk p.1
  show((AV.tup [kav p.1,p.2]) :: cI kav l).mapM AB=_
  rw[lX,e,a]
  rfl
include h hk ht
theorem Ak{z:AV}(f:eD P et=some z){g:db}{r:Ref}{l:List (K × AV)}(d:g r=some (bn (cI kav l)))(k:K)(ok:Bool) :
 eT P g t (some (.mp r)) (some (kav k)) ok=some ((if ok then .tup [(cm k l).getD z,.v (.bool (cm k l).isSome)] else (cm k l).getD z),[]):=by
 unfold eT
 simp only[ht,fy,hk,uY d,DW hk,Ap h,f,Option.map_some]
 have b:=DX k l
 cases c:vE k (l.map Prod.fst) 0 with
 | none=>
  rw[c]at b
  rw[<-b]
  rfl
 | some i=>
  rw[c]at b
  dsimp only at b ⊢
  have a:(l.map Prod.fst)[i]?=some k:=CY k _ i c
  rw[oM]at a
  cases hp:l[i]? with
  | none=>rw[hp]at a;cases a
  | some p=>
   rw[hp]at b
   have e:(cI kav l)[i]?=some (.tup [kav p.1,p.2]):=by unfold cI;rw[oM,hp];rfl
   rw[e,<-b]
   rfl
theorem uD{H:ai}{r:Ref}{l:List (K × AV)}(d:H.get r=some (bn (cI kav l)))(k:K)(x:AV) :
 dM P H t (some (.mp r)) (some (kav k)) (some x)=some (AV.undef,H.put r (some (bn (cI kav (jk k x l))))):=by
 unfold dM
 simp only[ht,hk,uY d,DW hk,Ap h]
 have a:=CX k x l
 cases b:vE k (l.map Prod.fst) 0 with
 | none=>
  rw[b]at a
  dsimp only at a ⊢
  rw[<-a]
  simp[cI]
 | some i=>
  rw[b]at a
  dsimp only at a ⊢
  have c:(l.map Prod.fst)[i]?=some k:=CY k _ i b
  have e:((l.map Prod.fst).map val)[i]?=some (val k):=by rw[oM,c];rfl
  rw[e]
  simp only[Option.map_some,h.bits,if_true]
  rw[<-a]
  simp[cI,Fx]
theorem Bk{z:AV}(m:eD P et=some z){H:ai}{r:Ref}{l:List (K × AV)}(j:H.get r=some (bn (cI kav l)))(k:K) :
 ∃i g,iH P H t (some (.mp r)) (some (kav k))=some (.tup [(cm k l).getD z,.v (.int .i64 (i:Nat))],H.put r (some (bn (cI kav g))))/\(∃x0,g[i]?=some (k,x0)) /\∀x,g.set i (k,x)=jk k x l:=by
 unfold iH
 simp only[ht,hk,uY j,DW hk,Ap h]
 have b:=DX k l
 cases d:vE k (l.map Prod.fst) 0 with
 | none=>
  rw[d]at b
  dsimp only at b ⊢
  refine⟨l.length,l++[(k,z)],?_,⟨z,by simp⟩,λx=>?_⟩
  ·rw[<-b,m]
   simp[cI]
  ·have c:=CX k x l
   rw[d]at c
   dsimp only at c
   rw[<-c]
   simp
 | some i=>
  rw[d]at b
  dsimp only at b ⊢
  have a:(l.map Prod.fst)[i]?=some k:=CY k _ i d
  have e:((l.map Prod.fst).map val)[i]?=some (val k):=by rw[oM,a];rfl
  rw[oM]at a
  cases hp:l[i]? with
  | none=>rw[hp]at a;cases a
  | some p=>
   rw[hp]at b a
   simp only[Option.map_some,dR]at a b
   have n:(cI kav l)[i]?=some (.tup [kav p.1,p.2]):=by unfold cI;rw[oM,hp];rfl
   refine⟨i,l.set i (k,p.2),?_,⟨p.2,?_⟩,λx=>?_⟩
   ·rw[e,n,<-b]
    simp only[Option.map_some,h.bits,if_true,fy,G9]
    simp[cI,Fx]
   ·have f:i<l.length:=by
     rcases fe i l.length with h | h
     ·exact h
     ·rw[xp h]at hp;cases hp
    simp[f]
   ·have c:=CX k x l
    rw[d]at c
    dsimp only at c
    rw[<-c]
    simp
omit h hk ht in
theorem zy{H:ai}{r:Ref}{l:List (K × AV)}(a:H.get r=some (bn (cI kav l))){i:Nat}{k:K}{x0:AV}(b:l[i]?=some (k,x0))(c:IntKind)(x:AV) :
 fD H (some (.mp r)) (some (.v (.int c (i:Nat)))) (some x)=some (AV.undef,H.put r (some (bn (cI kav (l.set i (k,x)))))):=by
 unfold fD
 have e:(cI kav l)[i]?=some (.tup [kav k,x0]):=by unfold cI;rw[oM,b];rfl
 simp only[uY a]
 rw[if_pos (by omega)]
 simp only[Nv,e]
 simp[cI,Fx]
end
end Go.Ab
namespace Go.Ab
section
variable{P:Program}{M:Mem}{ι:Map}{w:World}
theorem Ux{H C:ai}{J:Mem}{c:Map}{D:World}{r:Ref}{n:Loc}{cap s t:Nat}{buf:List AV}{arr:Array Value}(hS:gA M ι H.get w)(Z:tB ι H)(U:r.k=0)(hg:r.g=H.gen r.d r.t)
 (X:gA J c C.get D) (I:tA M ι H.get w J c C.get D) (R:tB c C) (Q:c r=some n) (V:n.esz=0) {cl:Bool} {f:Bool} (hb:C.get r=some ⟨0,.v (.bool false) :: .v (.int .i64 cap) :: .v (.bool cl) :: buf,false,f⟩)
 (hh:D.heap[n.b]?=some (.chan cap arr cl s t false)) (G:arr.size=buf.length) (F : ∀(i:Nat) x u,buf[i]?=some x->arr[i]?=some u->VR J c x u) (T : ∀x∈buf,flat depth x=true)
 (hk : ∀q k,H.get q=some k->C.get q=some k) :
 vj M ι H w (.ch r) (keyed r 0 [jm cap true buf] H) (.chan (some n.b)) (bQ D n.b (.chan cap arr true s t false)):=by
 have E:n.b<D.heap.size:=(ij.1 hh).1
 obtain⟨L,k2,k3⟩:=tl X R Q V hb (k':=jm cap true buf) (o' := .chan cap arr true s t false) (.inr (.inr ⟨cap,s,t,true,buf,arr,rfl,rfl,rfl,eV E,G,F⟩))
 have a:=I.trans k2
 have S:ι r=none:=by
  have:=Z.fresh r.d r.t r.k
  rw[<-hg]at this
  exact this
 have y : ∀q l,ι q=some l->iU ι r n q=some l:=Co S
 have j : ∀q l,iU ι r n q=some l->c q=some l:=by
  intro q l h
  unfold iU at h
  split at h
  ·rename_i e;subst e;cases h;exact Q
  ·exact I.map q l h
 have p:(keyed r 0 [jm cap true buf] H).get=ku H.get r (jm cap true buf):=by rw[ai.lD,pB _ _ U]
 have A : ∀q k,ku H.get r (jm cap true buf) q=some k->(C.put r (some (jm cap true buf))).get q=some k:=by
  intro q k h
  rw[ai.get_put]
  unfold ku at h
  split at h
  ·rename_i e;rw[if_pos e];exact h
  ·rename_i e;rw[if_neg e];exact hk q k h
 refine⟨J,iU ι r n,.ch (by simp[iU]) V,?_,?_,?_⟩
 ·rw[p]
  refine⟨L.mem,λq k h=>?_,λq W k k' l l' h K B Y e=>L.inj q W k k' l l' (A q k h) (A W k' K) (j q l B) (j W l' Y) e⟩
  by_cases e:q=r
  ·subst e
   have K:=A q k h
   rw[ai.get_put,if_pos rfl]at K
   cases K
   obtain⟨l2,m,z⟩:=L.live q _ (A q _ h)
   rw[Q]at m;cases m
   refine⟨n,by simp[iU],m8.Sg (.inr (.inr ⟨cap,s,t,true,buf,arr,rfl,rfl,rfl,eV E,G,λi x u N hu=>A3 depth x u (T x (fC N)) (F i x u N hu)⟩)) V λo x N=>?_⟩
   have:=(z.frozen o x N).2
   simp[jm]at this
  ·have h1:H.get q=some k:=by simpa [ku,e] using h
   obtain⟨l,B,O⟩:=hS.live q k h1
   obtain⟨l2,m,z⟩:=L.live q k (A q k h)
   have h3:=a.map q l B
   rw[h3]at m;cases m
   have h5:=O.cut z a.map
   exact⟨l,y q l B,h5.cz (λ_ _ _ h=>h) y rfl h5.frozen⟩
 ·rw[p]
  exact⟨a.os,a.tape,a.output,a.size,a.chg,a.mem,y,λq k l h B=>a.live q k l (A q k h) (j q l B),a.new⟩
 ·intro q l h
  rw[ai.kX]
  unfold iU at h
  split at h
  ·rename_i e
   subst e
   simp
  ·have h2:=Z q l h
   split
   ·rename_i hc
    rw[hc.1,hc.2.1]at h2
    rw[hg];omega
   ·exact h2
end
end Go.Ab
namespace Go.Proofs.YtdbiffjdomokfaaGreat
open Go.Ab
def qQ:AV->Option (Option AV)
 | .agg [.v (.int .u8 k),y,w,o,q,u,i,A,x,z,g,b,l,e,n,t,c,h,f,a,m,d,j,p]=>if (0<=k/\k<256)/\flat depth (.agg [o,q,u,i,a])=true/\[y,w,o,q,u,i,A,x,z,g,b,l,e,n,t,c,h,f,a,m,d,j,p].all AV.one=true then some (if k=3 then none else some (.agg [o,q,u,i,a])) else none
 | _=>none
def fh(H:ai):Ref:=⟨40,8,H.gen 40 8,0⟩
def xN(x:AV):Option (List AV):=match x with
 | .cG 24 es _=>if es.length<=1000 then some es else none
 | .v (.slice none 0 0)=>some []
 | _=>none
def Cw(args:List AV)(H:ai):Option (AV × ai):=match args with
 | [x]=>(match xN x with
  | some es=>(match es.mapM qQ with
   | some l=>some (.ch (fh H),keyed (fh H) 0 [jm es.length true (l.filterMap id)] H)
   | none=>none)
  | none=>none)
 | _=>none
def Cv(f:FuncId)(args:List AV)(H:ai):Option (AV × ai):=if f=23 then Cw args H else none
end Go.Proofs.YtdbiffjdomokfaaGreat
namespace Go.Ab
def bad(b:Bool):Int:=if b then 0 else 8
@[simp] theorem afn(b:Bool):bad b=0↔b=true:=by cases b<;>simp[bad]
@[simp] theorem afo:bad true=0:=id rfl
@[simp] theorem acC:bad false=8:=id rfl
structure vI where
 lv:UInt8
 cats:UInt32
 num:UInt8
deriving DecidableEq
structure bR where
 h:vI
 n:Int
deriving DecidableEq
structure vu where
 f:bR
 many:Int
deriving DecidableEq
def me(h:vI):Bool:=decide (h.lv<=15)&&decide (h.num<8)
def DZ(i:bR):Bool:=me i.h&&(decide (1<=i.n)&&decide (i.n<=1099511627776))
def eN(s:vu):Bool:=DZ s.f&&(decide (1<=s.many)&&(decide (s.many<=64)&&decide (s.f.n+s.many - 1<=1099511627776)))
theorem I6{i:bR}(h:DZ i=true):1<=i.n/\i.n<=1099511627776:=by
 simp[DZ]at h;exact h.2
theorem gp{s:vu}(h:eN s=true):1<=s.f.n/\1<=s.many/\s.many<=64/\s.f.n+s.many - 1<=1099511627776:=by
 simp[eN]at h
 have:=I6 h.1
 exact⟨this.1,h.2.1,h.2.2.1,h.2.2.2⟩
theorem SW{s:vu}(h:eN s=true):DZ s.f=true:=by
 simp[eN]at h;exact h.1
def zE(i:bR)(n:Int):bR:=⟨i.h,i.n+n⟩
def qI:bR:=⟨⟨0,0,0⟩,0⟩
def aR(n:Int):AV := .v (.int .i32 n)
def rows(l:List Int):List AV:=l.map aR
@[simp] theorem adY(l:List Int):(rows l).length=l.length:=by simp[rows]
@[simp] theorem Wv(l:List Int):rows l=[]↔l=[]:=by simp[rows]
def oQ(n:Int):Bool:=decide (n = -1)||(decide (0<=n)&&decide (n<55296))||(decide (57343<n)&&decide (n<=1114111))
def J4(l:List Int):Bool:=decide (l.length<=64)&&l.all oQ
def A9(l:List Int):Int:=if 64<l.length then 4 else if l.all oQ then 0 else 8
@[simp] theorem ael(n:Int):(aR n).cells=[aR n]:=id rfl
@[simp] theorem aid(n:Int):(aR n).one=true:=id rfl
@[simp] theorem afB(g:db)(k:Nat)(n:Int):view g (k+1) (aR n)=some (aR n):=id rfl
structure Rn where
 s:vu
 a:bR
 l:List Int
deriving DecidableEq
def xP(r:Rn):Bool:=eN r.s&&((decide (r.a=qI)||(DZ r.a&&decide (r.a.n<r.s.f.n)))&&(decide ((r.l.length:Int)=r.s.many)&&J4 r.l))
theorem AU(l:List Int):A9 l=0↔J4 l=true:=by
 unfold A9 J4
 by_cases h:64<l.length
 ·simp[h,Nat.not_le.2 h]
 ·have a:l.length<=64:=Ft.1 h
  rw[if_neg h]
  cases l.all oQ<;>simp[a]
@[simp] theorem X6(l:List Int)(i n:Nat):bW (rows l) i 0 n false=(l[i]?).map aR:=by
 unfold bW rows
 rw[oM]
 cases l[i]?<;>rfl
end Go.Ab
namespace Go.Proofs.YtdbiffjdomokfaaGreat
open Go.Ab
def fns:List FuncId:=[3,4,5,6,7,8,9,10,11,12,13,14,15,16,17,18,19,20,21,22,24,25,26,27,28,29,30,31,32,33,34,35,36,37,38,39,40,41,42,43,44,45,46,47,48,49,50,51,52,53,54,55,56,57,58,59,60,61,62,63,64,65,66,67,68,69,70,71,72,73,74,75,76,77,78,79,80,81,82,83,84,85,86,87,88,89,90,91,92,93,94,95,96,97,98,99,100,101,102,103,104,105,106,107,108,109,110,111,112,113,114,115,116,117,118,119,120,121,122,123,124,125,126,127,128,129,130,131,132,133,134,135,136,137,138,139,140,141,142,143,144,145,146,147,148,149,150,151,152,153,154,155,156,157,158,159,160,161,162,163,164,165,166,167,168,169,170,171,172,173,174,175,176]
def cz:List FuncId:=[43,42,98,95,69,70,120,138,87]
def lT:List FuncId:=[23,32,34,35,71,72,73,74,75,76,77,79,81,114,116,133,134,135,154,156,157,158,166,167,175]
def L9:List (FuncId × List AV × AV):=[]
noncomputable def env:Env:=G8 Tryz.prog fns cz lT (SU [(19,13,18),(16,1,77777),(55,1,88888),(35,73,88889),(55,76,88889),(7,5,66666),(20,42,88889)]) (Cq [(15,12,0,[(20,23)]),(52,10,0,[(56,58)]),(25,34,4,[(44,43)]),(6,21,0,[(16,4),(20,4),(17,4)]),(58,23,0,[(71,61),(4,61),(5,61),(5,68)]),(7,6,0,[(3,5)]),(64,16,17,[(5,66),(66,7)]),(143,16,25,[(5,145),(145,7),(145,9)])]) (Ze [(19,13,18),(16,1,77777),(55,1,88888),(35,73,88889),(55,76,88889),(7,5,66666),(20,42,88889)]) L9 (λ_=>false) (λ_=>none) Cv GZ
def aei:Nat->Option (List Nat):=λ_=>none
def R2:Nat->Bool:=λ_=>false
abbrev ef:=Nat->AV
abbrev bdF(f:Func):Code:=f.body.getD .skip
noncomputable abbrev rV(f:Func)(n:Nat):List Item:=(px n 400 [.code (bdF f)]).getD []
abbrev dX(f:Func)(d:Nat)(l:List (Nat × AV))(H:ai)(Q:AV->ai->Prop):Prop:=bB env f d [.code (bdF f)] l H Q
theorem iT{P:(Nat->AV)->Prop}{f:Func}{d:Nat}{l:List (Nat × AV)}{H:ai}{Q:AV->ai->Prop}(e:P=λg=>wp env f none d aei R2 Q 500 [.code (bdF f)] (L3 g l) H)(h : ∀g,P g):dX f d l H Q:=⟨λg=>FM (live:=aei) (cut:=R2) (n:=500) (Eq.mp (congrFun e g) (h g))⟩
theorem tV(v:Nat->Option (List Nat)){P:(Nat->AV)->Prop}{f:Func}{d:Nat}{l:List (Nat × AV)}{H:ai}{Q:AV->ai->Prop}(e:P=λg=>wp env f none d v R2 Q 500 [.code (bdF f)] (L3 g l) H)(h : ∀g,P g):dX f d l H Q:=⟨λg=>FM (live:=v) (cut:=R2) (n:=500) (Eq.mp (congrFun e g) (h g))⟩
theorem sc(v:Nat->Option (List Nat)){P:(Nat->AV)->Prop}{f:Func}{d:Nat}{b:List Item}{l:List (Nat × AV)}{H:ai}{Q:AV->ai->Prop}(e:P=λg=>wp env f none d v R2 Q 500 (Pe b) (L3 g l) H)(h : ∀g,P g):bB env f d b l H Q:=My λg=>FM (live:=v) (cut:=R2) (n:=500) (Eq.mp (congrFun e g) (h g))
theorem aH{f:FuncId}{fn:Func}{args:List AV}{y:AV}(d:env.spec f args=none)(e:(env.allowed f,env.P.funcs[f]?,fn.body.isSome,Nat.ble args.length fn.ntmps)=(true,some fn,true,true))(h:dX fn 0 (vg 0 args) [] λx H=>handed env f x H y):aF env f args=some y:=by
 injection e with j e
 injection e with g e
 injection e with b i
 cases a:fn.body with
 | none=>rw[a]at b;cases b
 | some c=>
  unfold dX bdF at h
  rw[a]at h
  exact P2 d j g a i h
theorem aap:US env fns=true:=by kernel_rfl
@[simp] theorem ahL{f:FuncId}(h:lT.contains f=false):(env.mode f == 2)=false:=by
 show((if cz.contains f then (if lT.contains f then 3 else 1) else if lT.contains f then 2 else 0) == 2)=false
 rw[h]
 split<;>rfl
@[simp] theorem agC{f:FuncId}(h:lT.contains f=false):(env.mode f == 3)=false:=by
 show((if cz.contains f then (if lT.contains f then 3 else 1) else if lT.contains f then 2 else 0) == 3)=false
 rw[h]
 split<;>rfl
theorem aeh{f:FuncId}(h:cz.contains f=false):At (env.mode f)=false:=by
 show At (if cz.contains f then (if lT.contains f then 3 else 1) else if lT.contains f then 2 else 0)=false
 rw[h]
 cases lT.contains f<;>rfl
@[simp] theorem Xa{f:FuncId}(h:cz.contains f=false)(x:AV)(H:ai)(y:AV):handed env f x H y↔view H.get depth x=some y:=RP (aeh h) x H y
theorem aeg{f:FuncId}(h:cz.contains f=true):At (env.mode f)=true:=by
 show At (if cz.contains f then (if lT.contains f then 3 else 1) else if lT.contains f then 2 else 0)=true
 rw[h]
 cases lT.contains f<;>rfl
@[simp] theorem agJ{f:FuncId}(h:cz.contains f=true)(x:AV)(H:ai)(y:AV):handed env f x H y↔(ax H.get depth x).Nodup/\dL H.get depth x=some y:=Mw (aeg h) x H y
noncomputable def rp:Env:=G8 Tryz.prog [] [] [] (λ_=>false) (λ_=>[]) (λ_=>false) [] (λ_=>false) (λ_=>none) (λ_ _ _=>none) GZ
@[simp] noncomputable def aq(h:ai)(n:Nat)(v:AV)(k:AV->Prop):Prop:=hZ (sf env.P (ai.get h) n (some v)) k
@[simp] noncomputable def bJ(b:Bool)(h:ai)(n n2:Nat)(a:List AV)(k:AV->ai->Prop):Prop:=lQ (bF env b (aF env) (cE env 0) h (Ref.mk 0 n (ai.gen h 0 n) 0) (some (AV.fn (Fn.func n2) [] [])) a) k
@[simp] noncomputable def ar(n:Nat)(v:AV)(n2:Nat)(k:AV->Prop):Prop:=hZ (iK env.P n (some v) n2) k
@[simp] noncomputable def bH(h:ai)(n n2:Nat)(v:AV)(k:AV->ai->Prop):Prop:=lQ (mz h (Ref.mk 0 n (ai.gen h 0 n) 0) (Ka env.P (Ref.mk 0 n (ai.gen h 0 n) 0) n2 (some v))) k
@[simp] noncomputable def dz(n n2:Nat)(i:Int)(v:AV)(k:AV->Prop):Prop:=hZ (bS env.P .add n (Operand.tmp n2) (Operand.const (Value.int IntKind.i64 i)) (some v) (some (AV.v (Value.int IntKind.i64 i)))) k
@[simp] noncomputable def bG(v v2:AV)(k:AV->Prop):Prop:=hZ (Al (some v) (some v2) (some (AV.v (Value.bool false)))) k
@[simp] noncomputable def aD(h:ai)(n:Nat)(v:AV):=sf env.P (ai.get h) n (some v)
@[simp] noncomputable def fg(b:Bool)(h:ai)(n n2:Nat)(a:List AV):=bF env b (aF env) (cE env 0) h (Ref.mk 0 n (ai.gen h 0 n) 0) (some (AV.fn (Fn.func n2) [] [])) a
@[simp] noncomputable def eR(h:ai)(n n2:Nat)(v:AV)(k:AV->Prop):Prop:=hZ (ck env.P false (ai.get h) (Ref.mk 0 n (ai.gen h 0 n) 0) .len #[n2] [v]) k
@[simp] noncomputable def az(n:Nat)(v:AV)(n2:Nat):=iK env.P n (some v) n2
@[simp] noncomputable def eg(h:ai)(n n2:Nat)(k:AV->ai->Prop):Prop:=lQ (mz h (Ref.mk 0 n (ai.gen h 0 n) 0) (uW env.P (Ref.mk 0 n (ai.gen h 0 n) 0) n2)) k
@[simp] noncomputable def bC(h:ai)(n:Nat)(v v2:AV)(k:AV->Prop):Prop:=hZ (cT env.P (ai.get h) n (some v) (some v2)) k
@[simp] noncomputable def aP(h:ai)(n:Nat)(v v2:AV)(k:AV->ai->Prop):Prop:=lQ (nc env.P h n (some v) (some v2)) k
@[simp] noncomputable def dG(n n2 a:Nat)(v v2:AV)(k:AV->Prop):Prop:=hZ (bS env.P .lss n (Operand.tmp n2) (Operand.tmp a) (some v) (some v2)) k
@[simp] noncomputable def lW(n n2:Nat)(i:Int)(v:AV)(k:AV->Prop):Prop:=hZ (bS env.P .neq n (Operand.tmp n2) (Operand.const (Value.int IntKind.i64 i)) (some v) (some (AV.v (Value.int IntKind.i64 i)))) k
@[simp] noncomputable def np(h:ai)(n n2 a:Nat)(v:AV)(k:AV->ai->Prop):Prop:=lQ (mz h (Ref.mk (n+1) n2 (ai.gen h (n+1) n2) 0) (Ka env.P (Ref.mk (n+1) n2 (ai.gen h (n+1) n2) 0) a (some v))) k
@[simp] noncomputable def ek(v v2:AV)(k:AV->Prop):Prop:=hZ (Al (some v) (some (AV.v (Value.bool true))) (some v2)) k
@[simp] noncomputable def qH(n n2:Nat)(i:Int)(v:AV):=bS env.P .eql n (Operand.tmp n2) (Operand.const (Value.int IntKind.i64 i)) (some v) (some (AV.v (Value.int IntKind.i64 i)))
@[simp] noncomputable def lL(h:ai)(n n2 a:Nat)(v v2:AV)(k:AV->ai->Prop):Prop:=lQ (jn env.P true h (Ref.mk 0 n (ai.gen h 0 n) 0) (some n2) (some a) v v2) k
@[simp] noncomputable def uw(n n2:Nat)(i:Int)(v:AV)(k:AV->Prop):Prop:=hZ (bS env.P .eql n (Operand.tmp n2) (Operand.const (Value.int IntKind.i64 i)) (some v) (some (AV.v (Value.int IntKind.i64 i)))) k
@[simp] noncomputable def jG(n n2 a:Nat)(v v2:AV):=bS env.P .eql n (Operand.tmp n2) (Operand.tmp a) (some v) (some v2)
@[simp] noncomputable def vM(n n2:Nat)(i:Int)(v:AV)(k:AV->Prop):Prop:=hZ (bS env.P .geq n (Operand.tmp n2) (Operand.const (Value.int IntKind.i64 i)) (some v) (some (AV.v (Value.int IntKind.i64 i)))) k
@[simp] noncomputable def bL(v:AV)(n:Nat)(k:AV->Prop):Prop:=hZ (ti (some v) n) k
@[simp] noncomputable def vL(h:ai)(n n2 a:Nat)(k:AV->ai->Prop):Prop:=lQ (mz h (Ref.mk (n+1) n2 (ai.gen h (n+1) n2) 0) (uW env.P (Ref.mk (n+1) n2 (ai.gen h (n+1) n2) 0) a)) k
@[simp] noncomputable def vK(n n2:Nat)(i:Int)(v:AV):=bS env.P .geq n (Operand.tmp n2) (Operand.const (Value.int IntKind.i64 i)) (some v) (some (AV.v (Value.int IntKind.i64 i)))
@[simp] noncomputable def zo(n n2:Nat)(i:Int)(v:AV):=bS env.P .leq n (Operand.tmp n2) (Operand.const (Value.int IntKind.i64 i)) (some v) (some (AV.v (Value.int IntKind.i64 i)))
@[simp] noncomputable def rZ(h:ai)(n:Nat)(v:AV)(i:Int)(k:AV->Prop):Prop:=hZ (cT env.P (ai.get h) n (some v) (some (AV.v (Value.int IntKind.i64 i)))) k
@[simp] noncomputable def p5(h:ai)(n n2 a:Nat)(v:AV)(k:AV->Prop):Prop:=hZ (gf env.P (ai.get h) (Ref.mk 0 n (ai.gen h 0 n) 0) n2 a (some v)) k
@[simp] noncomputable def zW(n n2:Nat)(i:Int)(v:AV):=bS env.P .gtr n (Operand.tmp n2) (Operand.const (Value.int IntKind.i64 i)) (some v) (some (AV.v (Value.int IntKind.i64 i)))
@[simp] noncomputable def rY(h:ai)(n n2 b a:Nat)(v:AV)(k:AV->ai->Prop):Prop:=lQ (oS env.P false true h (Ref.mk 0 n (ai.gen h 0 n) 0) n2 b (some [(a,v)])) k
@[simp] noncomputable def p4(n n2 a:Nat)(v v2:AV)(k:AV->Prop):Prop:=hZ (bS env.P .add n (Operand.tmp n2) (Operand.tmp a) (some v) (some v2)) k
@[simp] noncomputable def qG(n n2 a:Nat)(v v2:AV)(k:AV->Prop):Prop:=hZ (bS env.P .eql n (Operand.tmp n2) (Operand.tmp a) (some v) (some v2)) k
@[simp] noncomputable def B6(n n2:Nat)(i:Int)(v:AV)(k:AV->Prop):Prop:=hZ (bS env.P .gtr n (Operand.tmp n2) (Operand.const (Value.int IntKind.i64 i)) (some v) (some (AV.v (Value.int IntKind.i64 i)))) k
@[simp] noncomputable def vJ(n n2:Nat)(v:AV)(k:AV->Prop):Prop:=hZ (bS env.P .eql n (Operand.tmp n2) (.const (.int .u8 1)) (some v) (some (a8 1))) k
@[simp] noncomputable def B5(n n2:Nat)(i:Int)(v:AV):=bS env.P .lss n (Operand.tmp n2) (Operand.const (Value.int IntKind.i64 i)) (some v) (some (AV.v (Value.int IntKind.i64 i)))
@[simp] noncomputable def xg(n n2:Nat)(v:AV)(k:AV->Prop):Prop:=hZ (bS env.P .eql n (Operand.tmp n2) (.const (.int .u8 2)) (some v) (some (a8 2))) k
@[simp] noncomputable def bg(v:AV):=jK (some v)
@[simp] noncomputable def Fh(n n2:Nat)(i:Int)(v:AV)(k:AV->Prop):Prop:=hZ (bS env.P .lss n (Operand.tmp n2) (Operand.const (Value.int IntKind.i64 i)) (some v) (some (AV.v (Value.int IntKind.i64 i)))) k
@[simp] noncomputable def Fg(n n2:Nat)(i:Int)(v:AV)(k:AV->Prop):Prop:=hZ (bS env.P .sub n (Operand.tmp n2) (Operand.const (Value.int IntKind.i64 i)) (some v) (some (AV.v (Value.int IntKind.i64 i)))) k
@[simp] noncomputable def zn(h:ai)(n n2:Nat)(v:AV):=ck env.P false (ai.get h) (Ref.mk 0 n (ai.gen h 0 n) 0) .len #[n2] [v]
@[simp] noncomputable def xf(n n2 a:Nat)(v v2:AV)(k:AV->Prop):Prop:=hZ (bS env.P .neq n (Operand.tmp n2) (Operand.tmp a) (some v) (some v2)) k
@[simp] noncomputable def Ff(n n2:Nat)(i:Int)(v:AV):=bS env.P .neq n (Operand.tmp n2) (Operand.const (Value.int IntKind.i64 i)) (some v) (some (AV.v (Value.int IntKind.i64 i)))
@[simp] noncomputable def kK(v:AV)(k:AV->Prop):Prop:=hZ (X7 env.P .not (some v)) k
@[simp] noncomputable def qF(h:ai)(n:Nat)(v v2:AV):=cT env.P (ai.get h) n (some v) (some v2)
@[simp] noncomputable def gD(h:ai)(v:AV)(n:Nat)(k:AV->Prop):Prop:=hZ (Ai env.P h v n) k
@[simp] noncomputable def B4(n n2:Nat)(v:AV)(k:AV->Prop):Prop:=hZ (bS env.P .eql n (Operand.tmp n2) (.const (.int .u8 3)) (some v) (some (a8 3))) k
@[simp] noncomputable def Fe(h:ai)(n n2 a:Nat)(v:AV)(k:AV->Prop):Prop:=hZ (ck env.P false (ai.get h) (Ref.mk (n+1) n2 (ai.gen h (n+1) n2) 0) .len #[a] [v]) k
@[simp] noncomputable def pZ(n:Nat)(k:AV->Prop):Prop:=hZ (lx env.P n (some [])) k
@[simp] noncomputable def jF(v:AV)(k:AV->Prop):Prop:=hZ (LM (some v)) k
@[simp] noncomputable def Ei(n n2 a:Nat)(v v2:AV)(k:AV->Prop):Prop:=hZ (bS env.P .sub n (Operand.tmp n2) (Operand.tmp a) (some v) (some v2)) k
@[simp] noncomputable def Fc(h:ai)(n:Nat)(v v2:AV)(k:AV->Prop):Prop:=hZ (iJ env.P (ai.get h) n (some v) (some none) (oi v2) (some none)) k
@[simp] noncomputable def B3(h:ai)(n:Nat)(v v2:AV)(k:AV->Prop):Prop:=hZ (eT env.P (ai.get h) n (some v) (some v2) false) k
@[simp] noncomputable def KP(h:ai)(n:Nat)(v v2:AV)(k:AV->ai->Prop):Prop:=lQ (bF env true (aF env) (cE env 0) h (Ref.mk 0 n (ai.gen h 0 n) 0) (some v) [v2]) k
@[simp] noncomputable def Ss(h:ai)(n n2:Nat)(k:AV->ai->Prop):Prop:=lQ (mz h (Ref.mk (n+1) n2 (ai.gen h (n+1) n2) 0) (some (.mp (Ref.mk (n+1) n2 (ai.gen h (n+1) n2) 0),[bn []]))) k
@[simp] noncomputable def KO(h:ai)(n n2 a:Nat)(v v2:AV)(k:AV->Prop):Prop:=hZ (ck env.P true (ai.get h) (Ref.mk 0 n (ai.gen h 0 n) 0) .max #[n2,a] [v,v2]) k
@[simp] noncomputable def Fb(n n2 a:Nat)(v v2:AV):=bS env.P .lss n (Operand.tmp n2) (Operand.tmp a) (some v) (some v2)
@[simp] noncomputable def Sr(n n2:Nat)(i:Int)(v:AV)(k:AV->Prop):Prop:=hZ (bS env.P .leq n (Operand.tmp n2) (Operand.const (Value.int IntKind.i64 i)) (some v) (some (AV.v (Value.int IntKind.i64 i)))) k
@[simp] noncomputable def Sq(n:Nat)(i:Int)(n2:Nat)(v:AV)(k:AV->Prop):Prop:=hZ (bS env.P .mul n (Operand.const (Value.int IntKind.i64 i)) (Operand.tmp n2) (some (AV.v (Value.int IntKind.i64 i))) (some v)) k
@[simp] noncomputable def Sp(n n2:Nat)(i:Int)(v:AV):=bS env.P .sub n (Operand.tmp n2) (Operand.const (Value.int IntKind.i64 i)) (some v) (some (AV.v (Value.int IntKind.i64 i)))
@[simp] noncomputable def rX(v:AV):=X7 env.P .not (some v)
@[simp] noncomputable def Pu(h:ai)(n n2 b a:Nat)(v v2:AV)(k:AV->ai->Prop):Prop:=lQ (jn env.P true h (Ref.mk (n+1) n2 (ai.gen h (n+1) n2) 0) (some b) (some a) v v2) k
@[simp] noncomputable def Pt(h:ai)(n n2:Nat)(v:AV)(k:AV->Prop):Prop:=hZ (ck env.P false (ai.get h) (Ref.mk 0 n (ai.gen h 0 n) 0) .cap #[n2] [v]) k
@[simp] noncomputable def Ij(v v2:AV):=Al (some v) (some v2) (some (AV.v (Value.bool false)))
@[simp] noncomputable def So(n n2:Nat)(v:AV)(k:AV->Prop):Prop:=hZ (bS env.P .eql n (Operand.tmp n2) (.const (.slice none 0 0)) (some v) (some (.v (.slice none 0 0)))) k
@[simp] noncomputable def Ps(h:ai)(n n2 b a:Nat)(v:AV)(k:AV->ai->Prop):Prop:=lQ (oS env.P true false h (Ref.mk 0 n (ai.gen h 0 n) 0) n2 b (some [(a,v)])) k
@[simp] noncomputable def Pr(n n2:Nat)(v:AV):=bS env.P .eql n (Operand.tmp n2) (.const (.int .u8 1)) (some v) (some (a8 1))
@[simp] noncomputable def Sn(n n2:Nat)(v:AV)(k:AV->Prop):Prop:=hZ (bS env.P .shr n (Operand.tmp n2) (.const (.int .u64 8)) (some v) (some (.v (.int .u64 8)))) k
@[simp] noncomputable def XS(n:Nat)(h:ai)(n2:Nat)(v v2:AV)(k:AV->ai->Prop):Prop:=lQ (bF env false (aF env) (cE env (n+1)) h (Ref.mk (n+1) n2 (ai.gen h (n+1) n2) 0) (some (.fn (.func 92) [] [])) [v,v2]) k
@[simp] noncomputable def XR(n:Nat)(h:ai)(n2:Nat)(v v2:AV)(k:AV->ai->Prop):Prop:=lQ (bF env false (aF env) (cE env (n+1)) h (Ref.mk (n+1) n2 (ai.gen h (n+1) n2) 0) (some (.fn (.func 80) [] [])) [v,v2]) k
@[simp] noncomputable def XQ(n n2:Nat)(i:Int)(v:AV)(k:AV->Prop):Prop:=hZ (bS env.P .mul n (Operand.tmp n2) (Operand.const (Value.int IntKind.i64 i)) (some v) (some (AV.v (Value.int IntKind.i64 i)))) k
@[simp] noncomputable def XP(n:Nat)(h:ai)(n2:Nat)(v v2:AV)(k:AV->ai->Prop):Prop:=lQ (bF env true (aF env) (cE env (n+1)) h (Ref.mk (n+1) n2 (ai.gen h (n+1) n2) 0) (some (.fn (.func 158) [] [])) [v,v2]) k
@[simp] noncomputable def XO(n:Nat)(h:ai)(n2:Nat)(v v2:AV)(k:AV->ai->Prop):Prop:=lQ (bF env true (aF env) (cE env (n+1)) h (Ref.mk (n+1) n2 (ai.gen h (n+1) n2) 0) (some (.fn (.func 72) [] [])) [v,v2]) k
@[simp] noncomputable def XN(n:Nat)(h:ai)(n2:Nat)(v:AV)(k:AV->ai->Prop):Prop:=lQ (bF env true (aF env) (cE env (n+1)) h (Ref.mk (n+1) n2 (ai.gen h (n+1) n2) 0) (some (.fn (.func 130) [] [])) [v]) k
@[simp] noncomputable def Sm(h:ai)(n n2 c a b:Nat)(v:AV)(k:AV->ai->Prop):Prop:=lQ (oS env.P true false h (Ref.mk (n+1) n2 (ai.gen h (n+1) n2) 0) c a (some [(b,v)])) k
@[simp] noncomputable def XM(n:Nat)(h:ai)(n2:Nat)(v v2:AV):=bF env true (aF env) (cE env (n+1)) h (Ref.mk (n+1) n2 (ai.gen h (n+1) n2) 0) (some (.fn (.func 20) [] [])) [v,v2]
@[simp] noncomputable def XL(n n2:Nat)(i:Int)(v:AV)(k:AV->Prop):Prop:=hZ (bS rp.P .add n (Operand.tmp n2) (Operand.const (Value.int IntKind.i64 i)) (some v) (some (AV.v (Value.int IntKind.i64 i)))) k
@[simp] noncomputable def KN(v v2:AV):=Al (some v) (some (AV.v (Value.bool true))) (some v2)
@[simp] noncomputable def Sk(n n2:Nat)(v:AV)(k:AV->Prop):Prop:=hZ (bS env.P .neq n (Operand.tmp n2) (.const (.int .u8 3)) (some v) (some (a8 3))) k
@[simp] noncomputable def XK(n n2:Nat)(i:Int)(v:AV):=bS env.P .add n (Operand.tmp n2) (Operand.const (Value.int IntKind.i64 i)) (some v) (some (AV.v (Value.int IntKind.i64 i)))
@[simp] noncomputable def Eh(n n2:Nat)(v:AV)(k:AV->Prop):Prop:=hZ (lx env.P n (some [(n2,v)])) k
@[simp] noncomputable def Pq(n n2 a:Nat)(v v2:AV):=bS env.P .add n (Operand.tmp n2) (Operand.tmp a) (some v) (some v2)
@[simp] noncomputable def Pp(n n2 a:Nat)(v v2:AV):=bS env.P .geq n (Operand.tmp n2) (Operand.tmp a) (some v) (some v2)
@[simp] noncomputable def Ii(n n2:Nat)(v:AV)(c:Nat)(v2:AV)(a:Nat)(b:AV)(k:AV->Prop):Prop:=hZ (lx env.P n (some [(n2,v),(c,v2),(a,b)])) k
@[simp] noncomputable def Po(n n2 a:Nat)(v v2:AV):=bS env.P .neq n (Operand.tmp n2) (Operand.tmp a) (some v) (some v2)
@[simp] noncomputable def Ih(h:ai)(v v2 a:AV)(k:AV->ai->Prop):Prop:=lQ (fD h (some v) (some v2) (some a)) k
@[simp] noncomputable def XJ(n:Nat)(h:ai)(n2:Nat)(v v2:AV)(k:AV->ai->Prop):Prop:=lQ (bF env true (aF env) (cE env (n+1)) h (Ref.mk (n+1) n2 (ai.gen h (n+1) n2) 0) (some v) [v2]) k
@[simp] noncomputable def Sj(h:ai)(n n2 a:Nat)(k:AV->ai->Prop):Prop:=lQ (oS env.P false true h (Ref.mk 0 n (ai.gen h 0 n) 0) n2 a (some [])) k
@[simp] noncomputable def Ig(h:ai)(n:Nat)(v v2:AV)(k:AV->ai->Prop):Prop:=lQ (iH env.P h n (some v) (some v2)) k
@[simp] noncomputable def XI(n n2:Nat)(v:AV)(k:AV->Prop):Prop:=hZ (bS env.P .neq n (Operand.tmp n2) (.const (.int .i32 (-1))) (some v) (some (.v (.int .i32 (-1))))) k
@[simp] noncomputable def XH(n n2:Nat)(v:AV)(k:AV->Prop):Prop:=hZ (bS env.P .shr n (Operand.tmp n2) (.const (.int .u64 16)) (some v) (some (.v (.int .u64 16)))) k
@[simp] noncomputable def KM(h:ai)(n:Nat)(v:AV)(k:AV->Prop):Prop:=hZ (sf rp.P (ai.get h) n (some v)) k
@[simp] noncomputable def Ie(n:Nat)(v:AV)(n2:Nat)(k:AV->Prop):Prop:=hZ (iK rp.P n (some v) n2) k
@[simp] noncomputable def XG(h:ai)(n n2 a:Nat)(v:AV):=ck env.P false (ai.get h) (Ref.mk (n+1) n2 (ai.gen h (n+1) n2) 0) .len #[a] [v]
@[simp] noncomputable def Si(n n2 a:Nat)(v v2:AV):=bS env.P .gtr n (Operand.tmp n2) (Operand.tmp a) (some v) (some v2)
@[simp] noncomputable def B2(n:Nat)(v:AV)(n2:Nat):=uV env.P n (some v) n2
@[simp] noncomputable def Pn(n:Nat):=lx env.P n (some [])
@[simp] theorem ahR:rp.P=env.P:=id rfl
@[simp] theorem afJ:aJ env.P 3=(some 1):=by kernel_rfl
@[simp] theorem ahu:dB env.P 3=(some false):=by kernel_rfl
@[simp] theorem agH:om env.P 3=(some 1):=by kernel_rfl
@[simp] theorem agI:isInt env.P 3=true:=by kernel_rfl
@[simp] theorem acb:intKind env.P 3=(some .i64):=by kernel_rfl
@[simp] theorem ahp:(env.P.underlying 3).isNone=false:=by kernel_rfl
@[simp] theorem afI:aJ env.P 4=(some 1):=by kernel_rfl
@[simp] theorem aht:dB env.P 4=(some false):=by kernel_rfl
@[simp] theorem agG:om env.P 4=(some 0):=by kernel_rfl
@[simp] theorem aeD:isBool env.P 4=true:=by kernel_rfl
@[simp] theorem afH:aJ env.P 5=(some 1):=by kernel_rfl
@[simp] theorem ahs:dB env.P 5=(some false):=by kernel_rfl
@[simp] theorem agF:om env.P 5=(some 1):=by kernel_rfl
@[simp] theorem aca:intKind env.P 5=(some .u8):=by kernel_rfl
@[simp] theorem aho:(env.P.underlying 5).isNone=false:=by kernel_rfl
@[simp] theorem SK:aJ env.P 21=(some 1):=by kernel_rfl
@[simp] theorem V7:dB env.P 21=(some false):=by kernel_rfl
@[simp] theorem aae:intKind env.P 21=(some .i32):=by kernel_rfl
@[simp] theorem afF:(env.P.underlying 21).isNone=false:=by kernel_rfl
@[simp] theorem adj:aJ env.P 22=(some 4):=by kernel_rfl
@[simp] theorem agk:dB env.P 22=(some true):=by kernel_rfl
@[simp] theorem adm:dN env.P 22=none:=by kernel_rfl
@[simp] theorem af1:jI env.P 22=(some (4,3)):=by kernel_rfl
@[simp] theorem acX:eD env.P 22=(some (.agg [(.v (.int .i64 0)),(.v (.int .i64 0)),(.v (.int .i64 0)),(.v (.int .i64 0))])):=by kernel_rfl
@[simp] theorem aev:om env.P 22=none:=by kernel_rfl
@[simp] theorem YW:gS env.P 22=none:=by kernel_rfl
@[simp] theorem adi:aJ env.P 23=(some 1):=by kernel_rfl
@[simp] theorem agj:dB env.P 23=(some false):=by kernel_rfl
@[simp] theorem aeu:om env.P 23=(some 1):=by kernel_rfl
@[simp] theorem aad:intKind env.P 23=(some .i64):=by kernel_rfl
@[simp] theorem afE:(env.P.underlying 23).isNone=false:=by kernel_rfl
@[simp] theorem adh:aJ env.P 26=(some 1):=by kernel_rfl
@[simp] theorem agi:dB env.P 26=(some false):=by kernel_rfl
@[simp] theorem SO:dN env.P 26=(some 52):=by kernel_rfl
@[simp] theorem af0:jI env.P 26=none:=by kernel_rfl
@[simp] theorem aeC:isStr env.P 26=false:=by kernel_rfl
@[simp] theorem aic:Hm env.P 26=true:=by kernel_rfl
@[simp] theorem ag3:pT env.P 26=true:=by kernel_rfl
@[simp] theorem ahX:nL env.P 26=3:=by kernel_rfl
@[simp] theorem ag9:ug env.P 26=12:=by kernel_rfl
@[simp] theorem acw:jE env.P 26=(.agg [(a8 0),(aw 0),(.v (.bool false))]):=by kernel_rfl
@[simp] theorem adg:aJ env.P 27=(some 1):=by kernel_rfl
@[simp] theorem agh:dB env.P 27=(some false):=by kernel_rfl
@[simp] theorem SN:dN env.P 27=(some 76):=by kernel_rfl
@[simp] theorem afZ:jI env.P 27=none:=by kernel_rfl
@[simp] theorem aeB:isStr env.P 27=false:=by kernel_rfl
@[simp] theorem aib:Hm env.P 27=true:=by kernel_rfl
@[simp] theorem ag2:pT env.P 27=true:=by kernel_rfl
@[simp] theorem ahW:nL env.P 27=5:=by kernel_rfl
@[simp] theorem ag8:ug env.P 27=32:=by kernel_rfl
@[simp] theorem acv:jE env.P 27=(.agg [(a8 0),(aw 0),(.v (.int .i64 0)),(.v (.int .i64 0)),(.v (.int .i64 0))]):=by kernel_rfl
@[simp] theorem adf:aJ env.P 29=(some 3):=by kernel_rfl
@[simp] theorem agf:dB env.P 29=(some true):=by kernel_rfl
@[simp] theorem afY:jI env.P 29=none:=by kernel_rfl
@[simp] theorem acW:eD env.P 29=(some (.agg [(.v (.slice none 0 0)),(.v (.slice none 0 0)),(.v (.int .i64 0))])):=by kernel_rfl
@[simp] theorem MM:gS env.P 29=(some [26,27,3]):=by kernel_rfl
@[simp] theorem abV:placesOf env.P 29=(some [(0,1),(1,1),(2,1)]):=by kernel_rfl
@[simp] theorem YS:aA env.P 29 0=(some (0,1)):=by kernel_rfl
@[simp] theorem YH:aA env.P 29 1=(some (1,1)):=by kernel_rfl
@[simp] theorem Yv:aA env.P 29 2=(some (2,1)):=by kernel_rfl
@[simp] theorem ade:aJ env.P 31=(some 1):=by kernel_rfl
@[simp] theorem age:dB env.P 31=(some false):=by kernel_rfl
@[simp] theorem SM:dN env.P 31=(some 56):=by kernel_rfl
@[simp] theorem afX:jI env.P 31=none:=by kernel_rfl
@[simp] theorem aeA:isStr env.P 31=false:=by kernel_rfl
@[simp] theorem aia:Hm env.P 31=true:=by kernel_rfl
@[simp] theorem ag1:pT env.P 31=true:=by kernel_rfl
@[simp] theorem ahV:nL env.P 31=24:=by kernel_rfl
@[simp] theorem ag7:ug env.P 31=160:=by kernel_rfl
@[simp] theorem acu:jE env.P 31=(.agg [(a8 0),(.v (.int .i64 0)),(a8 0),(a8 0),(aw 0),(a8 0),(.v (.int .i64 0)),(a8 0),(aw 0),(a8 0),(.v (.int .i64 0)),(.v (.int .i64 0)),(a8 0),(aw 0),(a8 0),(.v (.int .i64 0)),(a8 0),(aw 0),(.v (.slice none 0 0)),(.v (.int .i64 0)),(.v (.int .i64 0)),(a8 0),(aw 0),(.v (.bool false))]):=by kernel_rfl
@[simp] theorem adb:aJ env.P 33=(some 1):=by kernel_rfl
@[simp] theorem agd:dB env.P 33=(some false):=by kernel_rfl
@[simp] theorem aet:om env.P 33=(some 1):=by kernel_rfl
@[simp] theorem aac:intKind env.P 33=(some .u32):=by kernel_rfl
@[simp] theorem afD:(env.P.underlying 33).isNone=false:=by kernel_rfl
@[simp] theorem ada:aJ env.P 35=(some 2):=by kernel_rfl
@[simp] theorem agc:dB env.P 35=(some true):=by kernel_rfl
@[simp] theorem afW:jI env.P 35=none:=by kernel_rfl
@[simp] theorem acV:eD env.P 35=(some (.agg [(a8 0),(aw 0)])):=by kernel_rfl
@[simp] theorem aes:om env.P 35=none:=by kernel_rfl
@[simp] theorem agP:D6 env.P 35=true:=by kernel_rfl
@[simp] theorem ML:gS env.P 35=(some [5,33]):=by kernel_rfl
@[simp] theorem abU:placesOf env.P 35=(some [(0,1),(1,1)]):=by kernel_rfl
@[simp] theorem YR:aA env.P 35 0=(some (0,1)):=by kernel_rfl
@[simp] theorem YG:aA env.P 35 1=(some (1,1)):=by kernel_rfl
@[simp] theorem adl:dN env.P 36=(some 67):=by kernel_rfl
@[simp] theorem afV:jI env.P 36=none:=by kernel_rfl
@[simp] theorem aez:isStr env.P 36=false:=by kernel_rfl
@[simp] theorem ah9:Hm env.P 36=true:=by kernel_rfl
@[simp] theorem ag0:pT env.P 36=true:=by kernel_rfl
@[simp] theorem ahU:nL env.P 36=5:=by kernel_rfl
@[simp] theorem ag6:ug env.P 36=32:=by kernel_rfl
@[simp] theorem acs:jE env.P 36=(.agg [(a8 0),(aw 0),(a8 0),(.v (.int .i64 0)),(.v (.int .i64 0))]):=by kernel_rfl
@[simp] theorem ac9:aJ env.P 40=(some 3):=by kernel_rfl
@[simp] theorem agb:dB env.P 40=(some true):=by kernel_rfl
@[simp] theorem afU:jI env.P 40=none:=by kernel_rfl
@[simp] theorem acU:eD env.P 40=(some (.agg [(a8 0),(aw 0),(a8 0)])):=by kernel_rfl
@[simp] theorem aer:om env.P 40=none:=by kernel_rfl
@[simp] theorem agO:D6 env.P 40=true:=by kernel_rfl
@[simp] theorem MK:gS env.P 40=(some [35,5]):=by kernel_rfl
@[simp] theorem abT:placesOf env.P 40=(some [(0,2),(2,1)]):=by kernel_rfl
@[simp] theorem YQ:aA env.P 40 0=(some (0,2)):=by kernel_rfl
@[simp] theorem YF:aA env.P 40 1=(some (2,1)):=by kernel_rfl
@[simp] theorem ac8:aJ env.P 45=(some 4):=by kernel_rfl
@[simp] theorem aga:dB env.P 45=(some true):=by kernel_rfl
@[simp] theorem afT:jI env.P 45=none:=by kernel_rfl
@[simp] theorem acT:eD env.P 45=(some (.agg [(a8 0),(aw 0),(a8 0),(.v (.int .i64 0))])):=by kernel_rfl
@[simp] theorem aeq:om env.P 45=none:=by kernel_rfl
@[simp] theorem agN:D6 env.P 45=true:=by kernel_rfl
@[simp] theorem MJ:gS env.P 45=(some [40,3]):=by kernel_rfl
@[simp] theorem abS:placesOf env.P 45=(some [(0,3),(3,1)]):=by kernel_rfl
@[simp] theorem YP:aA env.P 45 0=(some (0,3)):=by kernel_rfl
@[simp] theorem YE:aA env.P 45 1=(some (3,1)):=by kernel_rfl
@[simp] theorem ac7:aJ env.P 47=(some 5):=by kernel_rfl
@[simp] theorem af9:dB env.P 47=(some true):=by kernel_rfl
@[simp] theorem aep:om env.P 47=none:=by kernel_rfl
@[simp] theorem agM:D6 env.P 47=true:=by kernel_rfl
@[simp] theorem MI:gS env.P 47=(some [45,3]):=by kernel_rfl
@[simp] theorem YO:aA env.P 47 0=(some (0,4)):=by kernel_rfl
@[simp] theorem YD:aA env.P 47 1=(some (4,1)):=by kernel_rfl
@[simp] theorem ac6:aJ env.P 48=(some 1):=by kernel_rfl
@[simp] theorem af8:dB env.P 48=(some false):=by kernel_rfl
@[simp] theorem SL:dN env.P 48=(some 21):=by kernel_rfl
@[simp] theorem afS:jI env.P 48=none:=by kernel_rfl
@[simp] theorem aey:isStr env.P 48=false:=by kernel_rfl
@[simp] theorem ah8:Hm env.P 48=true:=by kernel_rfl
@[simp] theorem agZ:pT env.P 48=true:=by kernel_rfl
@[simp] theorem ahT:nL env.P 48=1:=by kernel_rfl
@[simp] theorem ag5:ug env.P 48=4:=by kernel_rfl
@[simp] theorem acr:jE env.P 48=(.v (.int .i32 0)):=by kernel_rfl
@[simp] theorem ac5:aJ env.P 50=(some 17):=by kernel_rfl
@[simp] theorem af7:dB env.P 50=(some true):=by kernel_rfl
@[simp] theorem afR:jI env.P 50=none:=by kernel_rfl
@[simp] theorem acS:eD env.P 50=(some (.agg [(a8 0),(a8 0),(aw 0),(a8 0),(.v (.int .i64 0)),(a8 0),(aw 0),(a8 0),(.v (.int .i64 0)),(.v (.int .i64 0)),(a8 0),(aw 0),(a8 0),(.v (.int .i64 0)),(a8 0),(aw 0),(.v (.slice none 0 0))])):=by kernel_rfl
@[simp] theorem MH:gS env.P 50=(some [5,40,3,47,45,35,48]):=by kernel_rfl
@[simp] theorem abR:placesOf env.P 50=(some [(0,1),(1,3),(4,1),(5,5),(10,4),(14,2),(16,1)]):=by kernel_rfl
@[simp] theorem YN:aA env.P 50 0=(some (0,1)):=by kernel_rfl
@[simp] theorem YC:aA env.P 50 1=(some (1,3)):=by kernel_rfl
@[simp] theorem Yu:aA env.P 50 2=(some (4,1)):=by kernel_rfl
@[simp] theorem Yp:aA env.P 50 3=(some (5,5)):=by kernel_rfl
@[simp] theorem Yl:aA env.P 50 4=(some (10,4)):=by kernel_rfl
@[simp] theorem Yi:aA env.P 50 5=(some (14,2)):=by kernel_rfl
@[simp] theorem Yg:aA env.P 50 6=(some (16,1)):=by kernel_rfl
@[simp] theorem SJ:aJ env.P 52=(some 3):=by kernel_rfl
@[simp] theorem V6:dB env.P 52=(some true):=by kernel_rfl
@[simp] theorem acR:eD env.P 52=(some (.agg [(a8 0),(aw 0),(.v (.bool false))])):=by kernel_rfl
@[simp] theorem aeo:om env.P 52=none:=by kernel_rfl
@[simp] theorem EE:gS env.P 52=(some [35,4]):=by kernel_rfl
@[simp] theorem YM:aA env.P 52 0=(some (0,2)):=by kernel_rfl
@[simp] theorem YB:aA env.P 52 1=(some (2,1)):=by kernel_rfl
@[simp] theorem ac4:aJ env.P 54=(some 4):=by kernel_rfl
@[simp] theorem af6:dB env.P 54=(some true):=by kernel_rfl
@[simp] theorem afQ:jI env.P 54=none:=by kernel_rfl
@[simp] theorem acQ:eD env.P 54=(some (.agg [(.v (.int .i64 0)),(a8 0),(aw 0),(.v (.bool false))])):=by kernel_rfl
@[simp] theorem aen:om env.P 54=none:=by kernel_rfl
@[simp] theorem agL:D6 env.P 54=true:=by kernel_rfl
@[simp] theorem MG:gS env.P 54=(some [3,52]):=by kernel_rfl
@[simp] theorem abQ:placesOf env.P 54=(some [(0,1),(1,3)]):=by kernel_rfl
@[simp] theorem YL:aA env.P 54 0=(some (0,1)):=by kernel_rfl
@[simp] theorem YA:aA env.P 54 1=(some (1,3)):=by kernel_rfl
@[simp] theorem SI:aJ env.P 56=(some 24):=by kernel_rfl
@[simp] theorem V5:dB env.P 56=(some true):=by kernel_rfl
@[simp] theorem afP:jI env.P 56=none:=by kernel_rfl
@[simp] theorem acP:eD env.P 56=(some (.agg [(a8 0),(.v (.int .i64 0)),(a8 0),(a8 0),(aw 0),(a8 0),(.v (.int .i64 0)),(a8 0),(aw 0),(a8 0),(.v (.int .i64 0)),(.v (.int .i64 0)),(a8 0),(aw 0),(a8 0),(.v (.int .i64 0)),(a8 0),(aw 0),(.v (.slice none 0 0)),(.v (.int .i64 0)),(.v (.int .i64 0)),(a8 0),(aw 0),(.v (.bool false))])):=by kernel_rfl
@[simp] theorem MF:gS env.P 56=(some [5,3,50,23,54]):=by kernel_rfl
@[simp] theorem abP:placesOf env.P 56=(some [(0,1),(1,1),(2,17),(19,1),(20,4)]):=by kernel_rfl
@[simp] theorem YK:aA env.P 56 0=(some (0,1)):=by kernel_rfl
@[simp] theorem Yz:aA env.P 56 1=(some (1,1)):=by kernel_rfl
@[simp] theorem Yt:aA env.P 56 2=(some (2,17)):=by kernel_rfl
@[simp] theorem Yo:aA env.P 56 3=(some (19,1)):=by kernel_rfl
@[simp] theorem Yk:aA env.P 56 4=(some (20,4)):=by kernel_rfl
@[simp] theorem ac3:aJ env.P 67=(some 5):=by kernel_rfl
@[simp] theorem af5:dB env.P 67=(some true):=by kernel_rfl
@[simp] theorem afO:jI env.P 67=none:=by kernel_rfl
@[simp] theorem acO:eD env.P 67=(some (.agg [(a8 0),(aw 0),(a8 0),(.v (.int .i64 0)),(.v (.int .i64 0))])):=by kernel_rfl
@[simp] theorem aem:om env.P 67=none:=by kernel_rfl
@[simp] theorem YV:gS env.P 67=(some [40,3,23]):=by kernel_rfl
@[simp] theorem abO:placesOf env.P 67=(some [(0,3),(3,1),(4,1)]):=by kernel_rfl
@[simp] theorem Yy:aA env.P 67 1=(some (3,1)):=by kernel_rfl
@[simp] theorem Ys:aA env.P 67 2=(some (4,1)):=by kernel_rfl
@[simp] theorem SH:aJ env.P 76=(some 5):=by kernel_rfl
@[simp] theorem V4:dB env.P 76=(some true):=by kernel_rfl
@[simp] theorem afN:jI env.P 76=none:=by kernel_rfl
@[simp] theorem acN:eD env.P 76=(some (.agg [(a8 0),(aw 0),(.v (.int .i64 0)),(.v (.int .i64 0)),(.v (.int .i64 0))])):=by kernel_rfl
@[simp] theorem ME:gS env.P 76=(some [35,3,3,3]):=by kernel_rfl
@[simp] theorem abN:placesOf env.P 76=(some [(0,2),(2,1),(3,1),(4,1)]):=by kernel_rfl
@[simp] theorem YJ:aA env.P 76 0=(some (0,2)):=by kernel_rfl
@[simp] theorem X0:nX env.P 76 1=(some (2,3)):=by kernel_rfl
@[simp] theorem Yx:aA env.P 76 1=(some (2,1)):=by kernel_rfl
@[simp] theorem XZ:nX env.P 76 2=(some (3,3)):=by kernel_rfl
@[simp] theorem Yr:aA env.P 76 2=(some (3,1)):=by kernel_rfl
@[simp] theorem XY:nX env.P 76 3=(some (4,3)):=by kernel_rfl
@[simp] theorem Yn:aA env.P 76 3=(some (4,1)):=by kernel_rfl
@[simp] theorem ac2:aJ env.P 88=(some 1):=by kernel_rfl
@[simp] theorem af4:dB env.P 88=(some false):=by kernel_rfl
@[simp] theorem ac1:aJ env.P 89=(some 1):=by kernel_rfl
@[simp] theorem af3:dB env.P 89=(some false):=by kernel_rfl
@[simp] theorem ac0:aJ env.P 90=(some 1):=by kernel_rfl
@[simp] theorem af2:dB env.P 90=(some false):=by kernel_rfl
@[simp] theorem adk:dN env.P 90=(some 50):=by kernel_rfl
@[simp] theorem afM:jI env.P 90=none:=by kernel_rfl
@[simp] theorem aex:isStr env.P 90=false:=by kernel_rfl
@[simp] theorem ah7:Hm env.P 90=true:=by kernel_rfl
@[simp] theorem agY:pT env.P 90=true:=by kernel_rfl
@[simp] theorem ahS:nL env.P 90=17:=by kernel_rfl
@[simp] theorem ag4:ug env.P 90=112:=by kernel_rfl
@[simp] theorem acq:jE env.P 90=(.agg [(a8 0),(a8 0),(aw 0),(a8 0),(.v (.int .i64 0)),(a8 0),(aw 0),(a8 0),(.v (.int .i64 0)),(.v (.int .i64 0)),(a8 0),(aw 0),(a8 0),(.v (.int .i64 0)),(a8 0),(aw 0),(.v (.slice none 0 0))]):=by kernel_rfl
@[simp] theorem acZ:aJ env.P 92=(some 10):=by kernel_rfl
@[simp] theorem afL:jI env.P 92=none:=by kernel_rfl
@[simp] theorem acM:eD env.P 92=(some (.agg [(.v (.slice none 0 0)),(.v (.slice none 0 0)),(.v (.int .i64 0)),(.v (.slice none 0 0)),(.v (.slice none 0 0)),(.v (.int .i64 0)),(.v (.slice none 0 0)),(.v (.map none)),(.v (.map none)),(.v (.slice none 0 0))])):=by kernel_rfl
@[simp] theorem abM:placesOf env.P 92=(some [(0,3),(3,3),(6,1),(7,1),(8,1),(9,1)]):=by kernel_rfl
@[simp] theorem YI:aA env.P 92 0=(some (0,3)):=by kernel_rfl
@[simp] theorem Yw:aA env.P 92 1=(some (3,3)):=by kernel_rfl
@[simp] theorem Yq:aA env.P 92 2=(some (6,1)):=by kernel_rfl
@[simp] theorem Ym:aA env.P 92 3=(some (7,1)):=by kernel_rfl
@[simp] theorem Yj:aA env.P 92 4=(some (8,1)):=by kernel_rfl
@[simp] theorem Yh:aA env.P 92 5=(some (9,1)):=by kernel_rfl
@[simp] theorem abn:aJ env.P 105=(some 1):=by kernel_rfl
@[simp] theorem adK:dB env.P 105=(some false):=by kernel_rfl
@[simp] theorem abm:aJ env.P 106=(some 1):=by kernel_rfl
@[simp] theorem adJ:dB env.P 106=(some false):=by kernel_rfl
@[simp] theorem V2:nX env.P 108 0=(some (0,105)):=by kernel_rfl
@[simp] theorem VZ:nX env.P 108 1=(some (1,106)):=by kernel_rfl
@[simp] theorem abl:aJ env.P 112=(some 1):=by kernel_rfl
@[simp] theorem adI:dB env.P 112=(some false):=by kernel_rfl
@[simp] theorem abk:aJ env.P 119=(some 3):=by kernel_rfl
@[simp] theorem adH:dB env.P 119=(some true):=by kernel_rfl
@[simp] theorem adz:jI env.P 119=none:=by kernel_rfl
@[simp] theorem aa9:eD env.P 119=(some (.agg [(.v (.bool false)),(.v (.int .i64 0)),(.v (.int .i64 0))])):=by kernel_rfl
@[simp] theorem ZN:placesOf env.P 119=(some [(0,1),(1,1),(2,1)]):=by kernel_rfl
@[simp] theorem V1:nX env.P 119 0=(some (0,4)):=by kernel_rfl
@[simp] theorem Xo:aA env.P 119 0=(some (0,1)):=by kernel_rfl
@[simp] theorem Xj:aA env.P 119 1=(some (1,1)):=by kernel_rfl
@[simp] theorem Xg:aA env.P 119 2=(some (2,1)):=by kernel_rfl
@[simp] theorem abj:aJ env.P 137=(some 1):=by kernel_rfl
@[simp] theorem adG:dB env.P 137=(some false):=by kernel_rfl
@[simp] theorem abv:dN env.P 137=(some 5):=by kernel_rfl
@[simp] theorem ady:jI env.P 137=none:=by kernel_rfl
@[simp] theorem ab9:isStr env.P 137=false:=by kernel_rfl
@[simp] theorem ahl:Hm env.P 137=true:=by kernel_rfl
@[simp] theorem ae9:pT env.P 137=true:=by kernel_rfl
@[simp] theorem agW:nL env.P 137=1:=by kernel_rfl
@[simp] theorem afd:ug env.P 137=1:=by kernel_rfl
@[simp] theorem aaE:jE env.P 137=(a8 0):=by kernel_rfl
@[simp] theorem abi:aJ env.P 140=(some 24):=by kernel_rfl
@[simp] theorem adx:jI env.P 140=none:=by kernel_rfl
@[simp] theorem aa8:eD env.P 140=(some (.agg [(a8 0),(.v (.int .i64 0)),(a8 0),(a8 0),(aw 0),(a8 0),(.v (.int .i64 0)),(a8 0),(aw 0),(a8 0),(.v (.int .i64 0)),(.v (.int .i64 0)),(a8 0),(aw 0),(a8 0),(.v (.int .i64 0)),(a8 0),(aw 0),(.v (.slice none 0 0)),(.v (.int .i64 0)),(.v (.int .i64 0)),(a8 0),(aw 0),(.v (.bool false))])):=by kernel_rfl
@[simp] theorem ZM:placesOf env.P 140=(some [(0,24)]):=by kernel_rfl
@[simp] theorem Xn:aA env.P 140 0=(some (0,24)):=by kernel_rfl
@[simp] theorem Ye:intKind env.P 147=(some .u64):=by kernel_rfl
@[simp] theorem abu:dN env.P 148=(some 4):=by kernel_rfl
@[simp] theorem adw:jI env.P 148=none:=by kernel_rfl
@[simp] theorem ab8:isStr env.P 148=false:=by kernel_rfl
@[simp] theorem ae8:pT env.P 148=true:=by kernel_rfl
@[simp] theorem agV:nL env.P 148=1:=by kernel_rfl
@[simp] theorem aaD:jE env.P 148=(.v (.bool false)):=by kernel_rfl
@[simp] theorem abt:dN env.P 164=(some 191):=by kernel_rfl
@[simp] theorem adv:jI env.P 164=none:=by kernel_rfl
@[simp] theorem ab7:isStr env.P 164=false:=by kernel_rfl
@[simp] theorem ahk:Hm env.P 164=true:=by kernel_rfl
@[simp] theorem agX:YZ env.P 164 9 56=true:=by kernel_rfl
@[simp] theorem ae7:pT env.P 164=true:=by kernel_rfl
@[simp] theorem agU:nL env.P 164=9:=by kernel_rfl
@[simp] theorem afc:ug env.P 164=56:=by kernel_rfl
@[simp] theorem aaC:jE env.P 164=(.agg [(a8 0),(aw 0),(a8 0),(.v (.int .i64 0)),(a8 0),(aw 0),(a8 0),(.v (.int .i64 0)),(.v (.int .i32 0))]):=by kernel_rfl
@[simp] theorem abr:dN env.P 166=(some 45):=by kernel_rfl
@[simp] theorem adu:jI env.P 166=none:=by kernel_rfl
@[simp] theorem ab6:isStr env.P 166=false:=by kernel_rfl
@[simp] theorem ahj:Hm env.P 166=true:=by kernel_rfl
@[simp] theorem ae6:pT env.P 166=true:=by kernel_rfl
@[simp] theorem agT:nL env.P 166=4:=by kernel_rfl
@[simp] theorem afb:ug env.P 166=24:=by kernel_rfl
@[simp] theorem aaB:jE env.P 166=(.agg [(a8 0),(aw 0),(a8 0),(.v (.int .i64 0))]):=by kernel_rfl
@[simp] theorem abh:aJ env.P 171=(some 10):=by kernel_rfl
@[simp] theorem adF:dB env.P 171=(some true):=by kernel_rfl
@[simp] theorem adt:jI env.P 171=none:=by kernel_rfl
@[simp] theorem aa7:eD env.P 171=(some (.agg [(a8 0),(aw 0),(a8 0),(.v (.int .i64 0)),(.v (.int .i64 0)),(a8 0),(aw 0),(a8 0),(.v (.int .i64 0)),(.v (.slice none 0 0))])):=by kernel_rfl
@[simp] theorem ZL:placesOf env.P 171=(some [(0,5),(5,4),(9,1)]):=by kernel_rfl
@[simp] theorem Xm:aA env.P 171 0=(some (0,5)):=by kernel_rfl
@[simp] theorem Xi:aA env.P 171 1=(some (5,4)):=by kernel_rfl
@[simp] theorem Xf:aA env.P 171 2=(some (9,1)):=by kernel_rfl
@[simp] theorem abg:aJ env.P 178=(some 1):=by kernel_rfl
@[simp] theorem adE:dB env.P 178=(some false):=by kernel_rfl
@[simp] theorem abf:aJ env.P 179=(some 1):=by kernel_rfl
@[simp] theorem adD:dB env.P 179=(some false):=by kernel_rfl
@[simp] theorem abq:dN env.P 189=(some 171):=by kernel_rfl
@[simp] theorem ads:jI env.P 189=none:=by kernel_rfl
@[simp] theorem ab5:isStr env.P 189=false:=by kernel_rfl
@[simp] theorem ae5:pT env.P 189=true:=by kernel_rfl
@[simp] theorem agS:nL env.P 189=10:=by kernel_rfl
@[simp] theorem aaA:jE env.P 189=(.agg [(a8 0),(aw 0),(a8 0),(.v (.int .i64 0)),(.v (.int .i64 0)),(a8 0),(aw 0),(a8 0),(.v (.int .i64 0)),(.v (.slice none 0 0))]):=by kernel_rfl
@[simp] theorem abe:aJ env.P 191=(some 9):=by kernel_rfl
@[simp] theorem adr:jI env.P 191=none:=by kernel_rfl
@[simp] theorem aa6:eD env.P 191=(some (.agg [(a8 0),(aw 0),(a8 0),(.v (.int .i64 0)),(a8 0),(aw 0),(a8 0),(.v (.int .i64 0)),(.v (.int .i32 0))])):=by kernel_rfl
@[simp] theorem ZK:placesOf env.P 191=(some [(0,4),(4,4),(8,1)]):=by kernel_rfl
@[simp] theorem Xl:aA env.P 191 0=(some (0,4)):=by kernel_rfl
@[simp] theorem abd:aJ env.P 193=(some 1):=by kernel_rfl
@[simp] theorem adC:dB env.P 193=(some false):=by kernel_rfl
@[simp] theorem abp:dN env.P 193=(some 35):=by kernel_rfl
@[simp] theorem adq:jI env.P 193=none:=by kernel_rfl
@[simp] theorem ab4:isStr env.P 193=false:=by kernel_rfl
@[simp] theorem aa5:eD env.P 193=(some (.v (.slice none 0 0))):=by kernel_rfl
@[simp] theorem ahi:Hm env.P 193=true:=by kernel_rfl
@[simp] theorem ae4:pT env.P 193=true:=by kernel_rfl
@[simp] theorem agR:nL env.P 193=2:=by kernel_rfl
@[simp] theorem afa:ug env.P 193=8:=by kernel_rfl
@[simp] theorem aaz:jE env.P 193=(.agg [(a8 0),(aw 0)]):=by kernel_rfl
@[simp] theorem abc:aJ env.P 196=(some 1):=by kernel_rfl
@[simp] theorem adB:dB env.P 196=(some false):=by kernel_rfl
@[simp] theorem abb:aJ env.P 198=(some 2):=by kernel_rfl
@[simp] theorem adp:jI env.P 198=none:=by kernel_rfl
@[simp] theorem aa4:eD env.P 198=(some (.agg [(.v (.slice none 0 0)),(.v (.map none))])):=by kernel_rfl
@[simp] theorem ZJ:placesOf env.P 198=(some [(0,1),(1,1)]):=by kernel_rfl
@[simp] theorem Xk:aA env.P 198 0=(some (0,1)):=by kernel_rfl
@[simp] theorem Xh:aA env.P 198 1=(some (1,1)):=by kernel_rfl
@[simp] theorem aba:aJ env.P 202=(some 2):=by kernel_rfl
@[simp] theorem adA:dB env.P 202=(some true):=by kernel_rfl
@[simp] theorem V0:nX env.P 202 0=(some (0,112)):=by kernel_rfl
@[simp] theorem ado:jI env.P 203=(some (4,202)):=by kernel_rfl
@[simp] theorem abo:dN env.P 209=(some 137):=by kernel_rfl
@[simp] theorem adn:jI env.P 209=none:=by kernel_rfl
@[simp] theorem ab3:isStr env.P 209=false:=by kernel_rfl
@[simp] theorem ae3:pT env.P 209=true:=by kernel_rfl
@[simp] theorem agQ:nL env.P 209=1:=by kernel_rfl
@[simp] theorem aay:jE env.P 209=(.v (.slice none 0 0)):=by kernel_rfl
structure Clear where
 lv:UInt8
 cats:UInt32
 ok:Bool
deriving DecidableEq,Inhabited
structure aC where
 lv:UInt8
 cats:UInt32
 opens:Int
 ops:Int
 cells:Int
deriving DecidableEq,Inhabited
def Clear.enc(c:Clear):List AV:=[a8 c.lv,aw c.cats,aB c.ok]
def aC.enc(q:aC):List AV:=[a8 q.lv,aw q.cats,aI q.opens,aI q.ops,aI q.cells]
abbrev cW(l:List Clear):List AV:=l.map λc => .agg c.enc
abbrev cN(l:List aC):List AV:=l.map λq => .agg q.enc
abbrev ae2(l:List Bool):List AV:=l.map aB
theorem aee(a b:Int):(!decide (a<b))=decide (b<=a):=by
 by_cases h:a<b
 ·simp[h,Int.not_le.2 h]
 ·simp[h,Int.not_lt.1 h]
def y3(a:UInt8):Int:=if 15<a then 8 else 0
@[simp] theorem Yd(a:UInt8):y3 a=0↔a<=15:=by
 unfold y3
 split
 ·rename_i h;simp;exact h
 ·rename_i h;simp;exact UInt8.not_lt.1 h
def UH(a:UInt8)(b:UInt32)(c:UInt8)(d:UInt32):Bool:=decide (a<=c)&&decide (b &&& ~~~d=0)
def Ho(a:UInt8)(b:UInt32)(c:UInt8)(d:UInt32):Bool:=decide (a<c)||(decide (a=c)&&decide (b<d))
def ox(v:UInt8)(c:UInt32)(ok:Bool):Bool:=decide (v<=15)&&(ok||(decide (v=0)&&decide (c=0)))
def afs(n:Int)(q:aC):Int:=IntKind.i64.wrap (n+IntKind.i64.wrap (q.opens+IntKind.i64.wrap (4 * q.ops)))
def ry(n:Int)(l:List aC):Int:=l.foldl afs n
def aaK(c:Int):Int:=if 4096<(if c<0 then 0 else c) then 4096 else if c<0 then 0 else c
def aft(n:Int)(q:aC):Int:=IntKind.i64.wrap (n+aaK q.cells)
def cellsOf(n:Int)(l:List aC):Int:=l.foldl aft n
def DL(q:aC):Bool:=decide (y3 q.lv=0)&&(decide (0<=q.opens)&&decide (q.opens<=64)&&(decide (0<=q.ops)&&decide (q.ops<=256)&&(decide (0<=q.cells)&&decide (q.cells<=4096))))
def CH(p q:aC):Bool:=Ho p.lv p.cats q.lv q.cats
def yU:Option aC->List aC->Bool
 | _,[]=>true
 | p,q :: l=>(DL q&&(match p with | none=>true | some p=>CH p q))&&yU (some q) l
def tY(us:List Clear)(qs:List aC)(gr:Int):Bool:=
 decide (us.length<=8)&&decide (qs.length<=8)&&(decide (0<=gr)&&decide (gr<=64))&&us.all (λc=>ox c.lv c.cats c.ok)&&yU none qs&&(decide (ry gr qs<=2048)&&decide (cellsOf 0 (qs.take 8)<=8192))
def zD(us:List Clear)(qs:List aC)(gr:Int)(a:UInt8):Int:=if y3 a>bad (tY us qs gr) then y3 a else bad (tY us qs gr)
def oY(us:List Clear)(c:Int)(a:UInt8)(b:UInt32):Bool:=
 if h:0<=c/\c<us.length then us[c.toNat].ok&&UH a b us[c.toNat].lv us[c.toNat].cats else false
def wi(a:UInt8)(b:UInt32)(q:aC):Bool:=decide (q.lv=a)&&decide (q.cats=b)
def PT(a:UInt8)(b:UInt32):Option aC->aC
 | some q=>q
 | none=>⟨a,b,0,0,0⟩
@[simp] theorem OD(a:UInt8)(b:UInt32)(q:aC):PT a b (some q)=q:=id rfl
@[simp] theorem OE(a:UInt8)(b:UInt32):PT a b none=⟨a,b,0,0,0⟩:=id rfl
def nC(qs:List aC)(a:UInt8)(b:UInt32):aC:=PT a b (qs.find? (wi a b))
def EW(n:Int)(l:List aC):Int:=l.foldl (λn q=>n+q.opens+4 * q.ops) n
def SS(n:Int)(l:List aC):Int:=l.foldl (λn q=>n+q.cells) n
theorem E7{q:aC}(h:DL q=true):0<=q.opens/\q.opens<=64/\0<=q.ops/\q.ops<=256/\0<=q.cells/\q.cells<=4096:=by
 simp only[DL,aZ,decide_eq_true_eq]at h
 omega
theorem LK : ∀ {l:List aC} {p:Option aC},yU p l=true ->∀q∈l,DL q=true:=by
 intro l
 induction l with
 | nil=>intro p _ q a;simp at a
 | cons x l b=>
  intro p h q a
  simp only[yU,aZ]at h
  rcases nw.1 a with rfl | a
  ·exact h.1.1
  ·exact b h.2 q a
theorem KE : ∀ {l:List aC} {n:Int},(∀q∈l,DL q=true)->0<=n->n+1088 * l.length<=4611686018427387904->ry n l=EW n l/\n<=EW n l/\EW n l<=n+1088 * l.length:=by
 intro l
 induction l with
 | nil=>intro n _ e a;simp[ry,EW]
 | cons q l b=>
  intro n h e a
  have i:=E7 (h q (gG ..))
  simp only[nx]at a ⊢
  have d:IntKind.i64.wrap (4 * q.ops)=4 * q.ops:=IntWalk.i64_in _ (by omega)
  have c:IntKind.i64.wrap (q.opens+4 * q.ops)=q.opens+4 * q.ops:=IntWalk.i64_in _ (by omega)
  have g:IntKind.i64.wrap (n+(q.opens+4 * q.ops))=n+q.opens+4 * q.ops:=by rw[IntWalk.i64_in _ (by omega)];omega
  have:=b (n:=n+q.opens+4 * q.ops) (λx f=>h x (fW _ f)) (by omega) (by omega)
  simp only[ry,EW,vO,afs,d,c,g]at this ⊢
  omega
theorem MZ : ∀ {l:List aC} {n:Int},(∀q∈l,DL q=true)->0<=n->n+4096 * l.length<=4611686018427387904->cellsOf n l=SS n l:=by
 intro l
 induction l with
 | nil=>intro n _ c a;rfl
 | cons q l b=>
  intro n h c a
  have g:=E7 (h q (gG ..))
  simp only[nx]at a
  have e:aaK q.cells=q.cells:=by unfold aaK;(repeat rw[if_neg (by omega)])
  have f:IntKind.i64.wrap (n+q.cells)=n+q.cells:=IntWalk.i64_in _ (by omega)
  have:=b (n:=n+q.cells) (λx d=>h x (fW _ d)) (by omega) (by omega)
  simp only[cellsOf,SS,vO,aft,e,f]at this ⊢
  exact this
theorem LW(us:List Clear)(qs:List aC)(gr:Int):tY us qs gr=(decide (us.length<=8)&&decide (qs.length<=8)&&(decide (0<=gr)&&decide (gr<=64))&&us.all (λc=>ox c.lv c.cats c.ok)&&yU none qs&&(decide (EW gr qs<=2048)&&decide (SS 0 qs<=8192))):=by
 unfold tY
 by_cases b:qs.length<=8
 ·by_cases d:0<=gr/\gr<=64
  ·cases g:yU none qs with
   | false=>simp
   | true=>
    have a:=LK g
    have f:=KE (n:=gr) a d.1 (by omega)
    have e:=MZ (n:=0) a (by omega) (by omega)
    rw[gw b,f.1,e]
  ·have:(decide (0<=gr)&&decide (gr<=64))=false:=by simp;omega
   simp[this]
 ·simp[b]
end Go.Proofs.YtdbiffjdomokfaaGreat
namespace Go.Ab
structure ib where
 lv:UInt8
 cats:UInt32
deriving DecidableEq
structure aN where
 kind:UInt8
 h:vI
 serial:Int
 s:vu
 a:bR
 to:ib
 l:List Int
deriving DecidableEq
def fY(a:bR):Bool:=decide (a.h.lv=0)&&decide (a.h.cats=0)&&decide (a.h.num=0)&&decide (a.n=0)
def vN(t:ib):Bool:=decide (t.lv=0)&&decide (t.cats=0)
def Cy(a b:vI):Bool:=decide (a.lv=b.lv)&&decide (a.cats=b.cats)&&decide (a.num=b.num)
theorem xj(a:bR):fY a=true↔a=qI:=by
 obtain⟨⟨a,b,c⟩,d⟩:=a
 simp[fY,qI,and_assoc]
theorem QL(a b:vI):Cy a b=true↔a=b:=by
 obtain⟨e,c,d⟩:=a
 obtain⟨b1,b2,b3⟩:=b
 simp[Cy,and_assoc]
def yj(o:aN):Bool:=fY o.a&&decide (o.l=[])
def GR(o:aN):Bool:=vN o.to&&((fY o.a||DZ o.a)&&(Cy o.s.f.h o.h&&(decide ((o.l.length:Int)=o.s.many)&&J4 o.l)))
def MU(o:aN):Bool:=vN o.to&&yj o
def J7(o:aN):Bool:=yj o&&decide (o.to.lv<=15)
def BO(o:aN):Bool:=if o.kind=1 then GR o else if o.kind=2 then MU o else if o.kind=3 then J7 o else false
def mK(o:aN):Bool:=me o.h&&(decide (1<=o.serial)&&(decide (o.serial<16777216)&&(eN o.s&&BO o)))
theorem GF{P:Program}{t:TypeId}(e:(dB P t).isSome=true)(f:(aJ P t).isSome=true)(cs:List AV)(a:Nat):Am P t cs a=PR cs a ((aJ P t).getD 0) ((dB P t).getD false):=by
 obtain⟨b,c⟩:=gH.1 e
 obtain⟨n,d⟩:=gH.1 f
 simp only[Am,c,d,fQ]
 cases b<;>rfl
theorem DM{P:Program}{t:TypeId}(a:((jI P t).bind λp=>aJ P p.2).isSome=true)(cs:List AV)(k:UInt8)(c:k.toNat<((jI P t).getD (0,0)).1) :
 qU P t (some (.agg cs)) (some (a8 k))=jK (Am P ((jI P t).getD (0,0)).2 cs (k.toNat * (aJ P ((jI P t).getD (0,0)).2).getD 0)):=by
 cases b:jI P t with
 | none=>rw[b]at a;simp at a
 | some p=>
  obtain⟨n,e⟩:=p
  rw[b]at a c
  simp only[fy,fQ]at a c
  obtain⟨s,d⟩:=gH.1 a
  unfold qU a8
  simp only[fy,intOf,b,d,fQ]
  rw[if_pos (by omega)]
  simp
@[simp] theorem acd(r:Ref)(n:Nat)(f:Fn)(a b:List AV)(c:List bA):aE r n (.fn f a b) c=(.fn f a b,c):=by cases n<;>rfl
end Go.Ab
namespace Go.Proofs.YtdbiffjdomokfaaGreat
open Go.Ab
variable(dep:Nat)(g:Nat->AV)(x0 x1:AV)(H:ai)(Q:AV->ai->Prop)
def zi:Prop:=
 bH H 2 35 x0 λv1 n=>
 bH n 3 35 x1 λv2 b=>
 ar 35 v1 0 λl=>
 aq b 5 l λm=>
 ar 35 v2 0 λk=>
 aq b 5 k λj=>
 hZ (bS env.P .leq 5 (Operand.tmp 6) (Operand.tmp 8) (some m) (some j)) λa=>
 gQ a true (az 35 v1 1) λo=>
 gQ a true (aD b 33 o) λi=>
 gQ a true (az 35 v2 1) λc=>
 gQ a true (aD b 33 c) λh=>
 gQ a true (bS env.P .andNot 33 (Operand.tmp 12) (Operand.tmp 14) (some i) (some h)) λf=>
 gQ a true (bS env.P .eql 33 (Operand.tmp 15) (.const (.int .u32 0)) (some f) (some (aw 0))) λd=>
 bG a d λe=>
 Q e b
theorem Cl(h : ∀g:ef,zi x0 x1 H Q):dX Tryz.f20 0 [(0,x0),(1,x1)] H Q:=iT (by kernel_rfl) h
def vm:Prop:=
 bH H 1 35 x0 λv1 a=>
 ar 35 v1 0 λv2=>
 aq a 5 v2 λb=>
 hZ (bS env.P .gtr 5 (Operand.tmp 4) (.const (.int .u8 15)) (some b) (some (a8 15))) λc=>
 br (some c) (
 Q (.v (.int .i64 8)) a) (
 Q (.v (.int .i64 0)) a)
theorem z8(h : ∀g:ef,vm x0 H Q):dX Tryz.f33 0 [(0,x0)] H Q:=iT (by kernel_rfl) h
noncomputable def iy:=rV Tryz.f63 4
def qh:Nat->Option (List Nat):=λi=>cond (Nat.beq i 4) (some [5,1,0]) (none)
def my:Prop:=
 eR H 7 48 x0 λv1=>
 eR H 9 48 x1 λv2=>
 xf 3 7 9 v1 v2 λa=>
 br (some a) (
 Q (.v (.bool false)) H) (
  bB env Tryz.f63 0 iy [(5,(.v (.int .i64 0))),(1,x1),(0,x0)] H Q)
theorem xK(h : ∀g:ef,my x0 x1 H Q):dX Tryz.f63 0 [(0,x0),(1,x1)] H Q:=tV qh (by kernel_rfl) h
def iA(g:Nat->AV)(a x1 x0:AV)(H:ai)(Q:AV->ai->Prop):Prop:=
 eR H 13 48 x0 λv1=>
 dG 3 11 13 a v1 λv2=>
 br (some v2) (
 bC H 48 x0 a λe=>
 aq H 21 e λf=>
 bC H 48 x1 a λd=>
 aq H 21 d λc=>
 xf 21 20 24 f c λb=>
 br (some b) (
 Q (.v (.bool false)) H) (
 dz 3 15 1 a λh=>
  bB env Tryz.f63 0 iy [(5,h),(1,x1),(0,x0)] H Q)) (
 Q (.v (.bool true)) H)
theorem oP(a x1 x0:AV)(H:ai)(Q:AV->ai->Prop)(h : ∀g,iA g a x1 x0 H Q):bB env Tryz.f63 0 iy [(5,a),(1,x1),(0,x0)] H Q:=sc qh (by kernel_rfl) h
def AJ:Prop:=
 bH H 2 35 x0 λv1 B=>
 bH B 3 35 x1 λv2 q=>
 ar 35 v2 0 λz=>
 aq q 5 z λA=>
 ar 35 v1 1 λy=>
 aq q 33 y λx=>
 hZ (lx env.P 35 (some [(0,A),(1,x)])) λw=>
 eg q 5 35 λv C=>
 aP C 35 v w λD c=>
 ar 35 v1 0 λd=>
 aq c 5 d λo=>
 ar 35 v2 0 λl=>
 aq c 5 l λf=>
 dG 5 12 14 o f λb=>
 gQ b false (aD c 35 v1) λt=>
 gQ b false (aD c 35 v) λm=>
 gQ b false (jG 35 17 18 t m) λe=>
 gQ b false (bg e) λa=>
 gQ a true (az 35 v1 1) λj=>
 gQ a true (aD c 33 j) λh=>
 gQ a true (az 35 v2 1) λi=>
 gQ a true (aD c 33 i) λn=>
 gQ a true (Fb 33 22 24 h n) λp=>
 gQ b false (Ij a p) λk=>
 ek b k λu=>
 Q u c
theorem F3(h : ∀g:ef,AJ x0 x1 H Q):dX Tryz.f67 0 [(0,x0),(1,x1)] H Q:=iT (by kernel_rfl) h
def vl:Prop:=
 eg H 0 35 λv1 c=>
 pZ 35 λv2=>
 aP c 35 v1 v2 λd a=>
 gD a v1 35 λb=>
 Q b a
theorem z7(h : ∀g:ef,vl H Q):dX Tryz.f91 0 [] H Q:=iT (by kernel_rfl) h
def fk:Prop:=
 So 48 3 x0 λv1=>
 br (some v1) (
 Q (.v (.slice none 0 0)) H) (
 Sj H 5 48 0 λv2 b=>
 lL b 7 48 48 v2 x0 λa c=>
 Q a c)
theorem sG(h : ∀g:ef,fk x0 H Q):dX Tryz.f95 0 [(0,x0)] H Q:=iT (by kernel_rfl) h
def sO:Prop:=
 bH H 1 40 x0 λv1 p=>
 aq p 40 v1 λv2=>
 bJ true p 6 117 [v2] λn k=>
 lW 23 7 0 n λy=>
 br (some y) (
 Q (.tup [(.v (.slice none 0 0)),n]) k) (
 ar 40 v1 0 λx=>
 ar 35 x 0 λw=>
 aq k 5 w λq=>
 Ps k 13 137 1 0 q λz j=>
 ar 40 v1 0 λu=>
 ar 35 u 1 λa=>
 aq j 33 a λi=>
 p5 j 17 33 3 i λf=>
 bJ false j 18 118 [f,(.v (.int .i64 4))] λc m=>
 lQ (jn env.P false m (Ref.mk 0 19 (ai.gen m 0 19) 0) (some 137) (some 137) z c) λe o=>
 ar 40 v1 1 λl=>
 aq o 5 l λh=>
 Ps o 22 137 1 0 h λb A=>
 lL A 23 137 137 e b λd t=>
 Q (.tup [d,(.v (.int .i64 0))]) t)
theorem DE(h : ∀g:ef,sO x0 H Q):dX Tryz.f98 0 [(0,x0)] H Q:=iT (by kernel_rfl) h
def vn:Prop:=
 bH H 1 40 x0 λv1 c=>
 ar 40 v1 0 λv2=>
 aq c 35 v2 λe=>
 bJ true c 5 33 [e] λf d=>
 uw 23 5 0 f λa=>
 gQ a true (az 40 v1 1) λl=>
 gQ a true (aD d 5 l) λh=>
 gQ a true (bS env.P .lss 5 (Operand.tmp 9) (.const (.int .u8 8)) (some h) (some (a8 8))) λj=>
 bG a j λi=>
 bJ true d 12 136 [i] λb k=>
 Q b k
theorem BK(h : ∀g:ef,vn x0 H Q):dX Tryz.f117 0 [(0,x0)] H Q:=iT (by kernel_rfl) h
noncomputable def tG:=rV Tryz.f118 2
def Bs:Nat->Option (List Nat):=λi=>cond (Nat.beq i 2) (some [5,0,4]) (none)
def xb:Prop:=
 Fg 3 6 1 x1 λv1=>
  bB env Tryz.f118 0 tG [(5,v1),(0,x0),(4,(.v (.slice none 0 0)))] H Q
theorem Bn(h : ∀g:ef,xb x0 x1 H Q):dX Tryz.f118 0 [(0,x0),(1,x1)] H Q:=tV Bs (by kernel_rfl) h
def cQ(g:Nat->AV)(a x0 b:AV)(H:ai)(Q:AV->ai->Prop):Prop:=
 vM 3 8 0 a λv1=>
 br (some v1) (
 Sq 3 8 14 a λv2=>
 hZ (bS env.P .shr 3 (Operand.tmp 13) (Operand.tmp 15) (some x0) (some v2)) λf=>
 p5 H 17 3 5 f λh=>
 rY H 18 137 1 0 h λe i=>
 lL i 19 137 137 b e λd j=>
 Fg 3 10 1 a λc=>
  bB env Tryz.f118 0 tG [(5,c),(0,x0),(4,d)] j Q) (
 Q b H)
theorem de(b x0 a:AV)(H:ai)(Q:AV->ai->Prop)(h : ∀g,cQ g b x0 a H Q):bB env Tryz.f118 0 tG [(5,b),(0,x0),(4,a)] H Q:=sc Bs (by kernel_rfl) h
def BY:Prop:=
 bH H 1 45 x0 λv1 i=>
 aq i 45 v1 λv2=>
 bJ true i 8 137 [v2] λh e=>
 lW 23 9 0 h λo=>
 br (some o) (
 Q (.tup [(.v (.slice none 0 0)),h]) e) (
 ar 45 v1 0 λn=>
 aq e 40 n λm=>
 bJ true e 15 98 [m] λf j=>
 bL f 0 λq=>
 bL f 1 λl=>
 ar 45 v1 1 λa=>
 aq j 3 a λd=>
 bJ true j 21 118 [d,(.v (.int .i64 7))] λc k=>
 lL k 22 137 137 q c λb p=>
 Q (.tup [b,l]) p)
theorem NV(h : ∀g:ef,BY x0 H Q):dX Tryz.f119 0 [(0,x0)] H Q:=iT (by kernel_rfl) h
noncomputable def rf:=rV Tryz.f121 6
def CS:Nat->Option (List Nat):=λi=>cond (Nat.beq i 6) (some [15,5,13,14]) (none)
def zf:Prop:=
 bJ true H 9 139 [x0] λv1 a=>
 lW 23 10 0 v1 λv2=>
 br (some v2) (
 Q (.tup [(.v (.slice none 0 0)),v1]) a) (
 eR a 14 48 x0 λb=>
  bB env Tryz.f121 0 rf [(15,(.v (.int .i64 0))),(5,(.v (.slice none 0 0))),(13,x0),(14,b)] a Q)
theorem JK(h : ∀g:ef,zf x0 H Q):dX Tryz.f121 0 [(0,x0)] H Q:=tV CS (by kernel_rfl) h
def rE(g:Nat->AV)(a j b c:AV)(H:ai)(Q:AV->ai->Prop):Prop:=
 dG 3 15 14 a c λv1=>
 br (some v1) (
 bC H 48 b a λv2=>
 aq H 21 v2 λd=>
 hZ (bS env.P .shr 21 (Operand.tmp 20) (.const (.int .u64 24)) (some d) (some (.v (.int .u64 24)))) λo=>
 p5 H 22 21 5 o λn=>
 XH 21 23 d λm=>
 p5 H 25 21 5 m λk=>
 Sn 21 26 d λq=>
 p5 H 28 21 5 q λl=>
 p5 H 30 21 5 d λe=>
 lQ (oS env.P false true H (Ref.mk 0 31 (ai.gen H 0 31) 0) 137 4 (some [(0,n),(1,k),(2,l),(3,e)])) λi p=>
 lL p 32 137 137 j i λh t=>
 dz 3 15 1 a λf=>
  bB env Tryz.f121 0 rf [(15,f),(5,h),(13,b),(14,c)] t Q) (
 Q (.tup [j,(.v (.int .i64 0))]) H)
theorem z6(b d a c:AV)(H:ai)(Q:AV->ai->Prop)(h : ∀g,rE g b d a c H Q):bB env Tryz.f121 0 rf [(15,b),(5,d),(13,a),(14,c)] H Q:=sc CS (by kernel_rfl) h
def kP:Prop:=
 bJ true H 7 140 [x0,x1] λv1 a=>
 vM 3 7 0 v1 λv2=>
 Q v2 a
theorem qx(h : ∀g:ef,kP x0 x1 H Q):dX Tryz.f122 0 [(0,x0),(1,x1)] H Q:=iT (by kernel_rfl) h
def mj:Prop:=
 bH H 1 47 x0 λv1 u=>
 ar 47 v1 0 λv2=>
 aq u 45 v2 λx=>
 bJ true u 5 137 [x] λy b=>
 uw 23 5 0 y λd=>
 gQ d true (az 47 v1 1) λw=>
 gQ d true (aD b 3 w) λv=>
 gQ d true (vK 3 9 1 v) λz=>
 bG d z λc=>
 gQ c true (az 47 v1 1) λe=>
 gQ c true (aD b 3 e) λp=>
 gQ c true (zo 3 14 64 p) λm=>
 bG c m λa=>
 gQ a true (az 47 v1 0) λl=>
 gQ a true (az 45 l 1) λt=>
 gQ a true (aD b 3 t) λn=>
 gQ a true (az 47 v1 1) λf=>
 gQ a true (aD b 3 f) λk=>
 gQ a true (Pq 3 20 22 n k) λj=>
 gQ a true (Sp 3 23 1 j) λh=>
 gQ a true (zo 3 24 1099511627776 h) λi=>
 bG a i λo=>
 bJ true b 27 136 [o] λq A=>
 Q q A
theorem DF(h : ∀g:ef,mj x0 H Q):dX Tryz.f131 0 [(0,x0)] H Q:=iT (by kernel_rfl) h
def Dg:Prop:=
 br (some x0) (
 Q (.v (.int .i64 0)) H) (
 Q (.v (.int .i64 8)) H)
theorem JN(h : ∀g:ef,Dg x0 H Q):dX Tryz.f136 0 [(0,x0)] H Q:=iT (by kernel_rfl) h
def Dh:Prop:=
 bH H 1 45 x0 λv1 j=>
 ar 45 v1 0 λv2=>
 aq j 40 v2 λm=>
 bJ true j 5 117 [m] λn i=>
 uw 23 5 0 n λb=>
 gQ b true (az 45 v1 1) λl=>
 gQ b true (aD i 3 l) λk=>
 gQ b true (vK 3 9 1 k) λo=>
 bG b o λa=>
 gQ a true (az 45 v1 1) λc=>
 gQ a true (aD i 3 c) λh=>
 gQ a true (zo 3 14 1099511627776 h) λf=>
 bG a f λd=>
 bJ true i 17 136 [d] λe p=>
 Q e p
theorem JO(h : ∀g:ef,Dh x0 H Q):dX Tryz.f137 0 [(0,x0)] H Q:=iT (by kernel_rfl) h
def vk:Prop:=
 eR H 6 48 x0 λv1=>
 B6 3 6 64 v1 λv2=>
 br (some v2) (
 Q (.v (.int .i64 4)) H) (
 bJ true H 11 162 [x0,(.fn (.func 160) [] [])] λb a=>
 br (some b) (
 Q (.v (.int .i64 8)) a) (
 Q (.v (.int .i64 0)) a))
theorem FX(h : ∀g:ef,vk x0 H Q):dX Tryz.f139 0 [(0,x0)] H Q:=iT (by kernel_rfl) h
noncomputable def eF:=rV Tryz.f140 2
def mb:Nat->Option (List Nat):=λi=>cond (Nat.beq i 2) (some [8,0,1,7]) (none)
def mh:Prop:=
 eR H 7 48 x0 λv1=>
  bB env Tryz.f140 0 eF [(8,(.v (.int .i64 0))),(0,x0),(1,x1),(7,v1)] H Q
theorem sE(h : ∀g:ef,mh x0 x1 H Q):dX Tryz.f140 0 [(0,x0),(1,x1)] H Q:=tV mb (by kernel_rfl) h
def eJ(g:Nat->AV)(a x0 x1 b:AV)(H:ai)(Q:AV->ai->Prop):Prop:=
 dG 3 8 7 a b λv1=>
 br (some v1) (
 bC H 48 x0 a λv2=>
 aq H 21 v2 λd=>
 qG 21 11 15 x1 d λe=>
 br (some e) (
 Q a H) (
 dz 3 8 1 a λc=>
  bB env Tryz.f140 0 eF [(8,c),(0,x0),(1,x1),(7,b)] H Q)) (
 Q (.v (.int .i64 (-1))) H)
theorem kY(b x0 x1 a:AV)(H:ai)(Q:AV->ai->Prop)(h : ∀g,eJ g b x0 x1 a H Q):bB env Tryz.f140 0 eF [(8,b),(0,x0),(1,x1),(7,a)] H Q:=sc mb (by kernel_rfl) h
noncomputable def eG:=rV Tryz.f141 4
def mc:Nat->Option (List Nat):=λi=>cond (Nat.beq i 4) (some [13,1,0,12]) (none)
def iP:Prop:=
 eR H 7 48 x0 λv1=>
 eR H 9 48 x1 λv2=>
 xf 3 7 9 v1 v2 λa=>
 br (some a) (
 Q (.v (.bool false)) H) (
 eR H 12 48 x0 λb=>
  bB env Tryz.f141 0 eG [(13,(.v (.int .i64 0))),(1,x1),(0,x0),(12,b)] H Q)
theorem sF(h : ∀g:ef,iP x0 x1 H Q):dX Tryz.f141 0 [(0,x0),(1,x1)] H Q:=tV mc (by kernel_rfl) h
def eK(g:Nat->AV)(a x1 x0 b:AV)(H:ai)(Q:AV->ai->Prop):Prop:=
 dG 3 13 12 a b λv1=>
 br (some v1) (
 bC H 48 x0 a λv2=>
 aq H 21 v2 λf=>
 bC H 48 x1 a λh=>
 aq H 21 h λe=>
 xf 21 19 23 f e λd=>
 br (some d) (
 Q (.v (.bool false)) H) (
 dz 3 13 1 a λc=>
  bB env Tryz.f141 0 eG [(13,c),(1,x1),(0,x0),(12,b)] H Q)) (
 Q (.v (.bool true)) H)
theorem kZ(a x1 x0 b:AV)(H:ai)(Q:AV->ai->Prop)(h : ∀g,eK g a x1 x0 b H Q):bB env Tryz.f141 0 eG [(13,a),(1,x1),(0,x0),(12,b)] H Q:=sc mc (by kernel_rfl) h
def yr:Prop:=
 bH H 2 47 x0 λv1 u=>
 eg u 4 45 λv2 o=>
 aq o 47 v1 λt=>
 bJ true o 8 131 [t] λm f=>
 lW 23 9 0 m λq=>
 br (some q) (
 pZ 45 λc=>
 aP f 45 v2 c λl a=>
 gD a v2 45 λk=>
 Q (.tup [k,m]) a) (
 Fh 3 13 0 x1 λc=>
 gQ c false (bg x1) λl=>
 gQ c false (az 47 v1 1) λk=>
 gQ c false (aD f 3 k) λp=>
 gQ c false (Pp 3 16 18 l p) λh=>
 ek c h λj=>
 br (some j) (
 pZ 45 λd=>
 aP f 45 v2 d λe a=>
 gD a v2 45 λb=>
 Q (.tup [b,(.v (.int .i64 2))]) a) (
 ar 47 v1 0 λd=>
 aq f 45 d λe=>
 bJ true f 25 164 [e,x1] λb a=>
 aP a 45 v2 b λw n=>
 gD n v2 45 λi=>
 Q (.tup [i,(.v (.int .i64 0))]) n))
theorem Qy(h : ∀g:ef,yr x0 x1 H Q):dX Tryz.f145 0 [(0,x0),(1,x1)] H Q:=iT (by kernel_rfl) h
def oL:Prop:=
 bH H 1 50 x0 λv1 F=>
 eg F 2 171 λv2 C=>
 aq C 50 v1 λG=>
 bJ true C 7 115 [G] λB f=>
 lW 23 8 0 B λE=>
 br (some E) (
 pZ 171 λm=>
 aP f 171 v2 m λA i=>
 gD i v2 171 λq=>
 Q (.tup [q,B]) i) (
 ar 50 v1 3 λm=>
 aq f 47 m λA=>
 ar 50 v1 4 λq=>
 aq f 45 q λD=>
 ar 50 v1 6 λj=>
 aq f 48 j λz=>
 bJ false f 18 95 [z] λn i=>
 Ii 171 0 A 1 D 2 n λt=>
 eg i 5 171 λc I=>
 aP I 171 c t λJ h=>
 ar 50 v1 0 λo=>
 aq h 5 o λk=>
 hZ (bS env.P .neq 5 (Operand.tmp 21) (.const (.int .u8 1)) (some k) (some (a8 1))) λa=>
 gQ a false (aD h 171 c) λx=>
 gW a false h (fg true h 25 165 [x]) λu y=>
 gQ a false (Ff 23 25 0 u) λw=>
 ek a w λp=>
 br (some p) (
 pZ 171 λd=>
 aP y 171 v2 d λl e=>
 gD e v2 171 λb=>
 Q (.tup [b,(.v (.int .i64 2))]) e) (
 aq y 171 c λd=>
 aP y 171 v2 d λl e=>
 gD e v2 171 λb=>
 Q (.tup [b,(.v (.int .i64 0))]) e))
theorem uj(h : ∀g:ef,oL x0 H Q):dX Tryz.f155 0 [(0,x0)] H Q:=iT (by kernel_rfl) h
def sN:Prop:=
 XI 21 3 x0 λv1=>
 gQ v1 true (bg x0) λv2=>
 gW v1 true H (fg true H 7 161 [v2]) λb d=>
 gQ v1 true (rX b) λc=>
 bG v1 c λa=>
 Q a d
theorem Dz(h : ∀g:ef,sN x0 H Q):dX Tryz.f160 0 [(0,x0)] H Q:=iT (by kernel_rfl) h
def oT:Prop:=
 hZ (bS env.P .leq 21 (.const (.int .i32 0)) (Operand.tmp 4) (some (.v (.int .i32 0))) (some x0)) λv1=>
 gQ v1 true (bg x0) λv2=>
 gQ v1 true (bS env.P .lss 21 (Operand.tmp 7) (.const (.int .i32 55296)) (some v2) (some (.v (.int .i32 55296)))) λb=>
 bG v1 b λc=>
 br (some c) (
 Q (.v (.bool true)) H) (
 hZ (bS env.P .lss 21 (.const (.int .i32 57343)) (Operand.tmp 11) (some (.v (.int .i32 57343))) (some x0)) λa=>
 gQ a true (bg x0) λf=>
 gQ a true (bS env.P .leq 21 (Operand.tmp 14) (.const (.int .i32 1114111)) (some f) (some (.v (.int .i32 1114111)))) λd=>
 bG a d λe=>
 br (some e) (
 Q (.v (.bool true)) H) (
 Q (.v (.bool false)) H))
theorem vv(h : ∀g:ef,oT x0 H Q):dX Tryz.f161 0 [(0,x0)] H Q:=iT (by kernel_rfl) h
def jP:Prop:=
 bJ true H 7 170 [x0,x1] λv1 a=>
 vM 3 7 0 v1 λv2=>
 Q v2 a
theorem oW(h : ∀g:ef,jP x0 x1 H Q):dX Tryz.f162 0 [(0,x0),(1,x1)] H Q:=iT (by kernel_rfl) h
def EM:Prop:=
 bH H 2 45 x0 λv1 i=>
 eg i 4 45 λv2 d=>
 ar 45 v1 1 λf=>
 aq d 3 f λh=>
 p4 3 6 7 h x1 λe=>
 ar 45 v1 1 λk=>
 aP d 3 k e λl c=>
 aq c 45 v1 λj=>
 aP c 45 v2 j λm b=>
 gD b v2 45 λa=>
 Q a b
theorem K8(h : ∀g:ef,EM x0 x1 H Q):dX Tryz.f164 0 [(0,x0),(1,x1)] H Q:=iT (by kernel_rfl) h
def zg:Prop:=
 bH H 1 171 x0 λv1 h=>
 ar 171 v1 1 λv2=>
 aq h 45 v2 λU=>
 pZ 45 λV=>
 qG 45 5 6 U V λe=>
 gQ e false (az 171 v1 1) λR=>
 gQ e false (aD h 45 R) λT=>
 gW e false h (fg true h 11 137 [T]) λS i=>
 gQ e false (qH 23 11 0 S) λP=>
 gQ e false (bg P) λa=>
 gQ a true (az 171 v1 1) λJ=>
 gQ a true (az 45 J 1) λl=>
 gQ a true (aD i 3 l) λz=>
 gQ a true (az 171 v1 0) λI=>
 gQ a true (az 47 I 0) λN=>
 gQ a true (az 45 N 1) λn=>
 gQ a true (aD i 3 n) λj=>
 gQ a true (Fb 3 16 20 z j) λE=>
 gQ e false (Ij a E) λD=>
 ek e D λA=>
 ar 171 v1 0 λC=>
 aq i 47 C λp=>
 bJ true i 26 131 [p] λL f=>
 lW 23 26 0 L λd=>
 gQ d false (bg A) λy=>
 gQ d false (rX y) λt=>
 ek d t λb=>
 gQ b false (az 171 v1 2) λK=>
 gQ b false (aD f 48 K) λo=>
 gQ b false (zn f 35 48 o) λM=>
 gQ b false (az 171 v1 0) λB=>
 gQ b false (az 47 B 1) λq=>
 gQ b false (aD f 3 q) λG=>
 gQ b false (Po 3 35 38 M G) λx=>
 ek b x λc=>
 gQ c false (az 171 v1 2) λu=>
 gQ c false (aD f 48 u) λF=>
 gW c false f (fg true f 44 139 [F]) λw O=>
 gQ c false (Ff 23 44 0 w) λk=>
 ek c k λm=>
 br (some m) (
 Q (.v (.int .i64 8)) O) (
 Q (.v (.int .i64 0)) O)
theorem JL(h : ∀g:ef,zg x0 H Q):dX Tryz.f165 0 [(0,x0)] H Q:=iT (by kernel_rfl) h
noncomputable def dS:=rV Tryz.f170 2
def kL:Nat->Option (List Nat):=λi=>cond (Nat.beq i 2) (some [8,0,1,7]) (none)
def kO:Prop:=
 eR H 7 48 x0 λv1=>
  bB env Tryz.f170 0 dS [(8,(.v (.int .i64 0))),(0,x0),(1,x1),(7,v1)] H Q
theorem qw(h : ∀g:ef,kO x0 x1 H Q):dX Tryz.f170 0 [(0,x0),(1,x1)] H Q:=tV kL (by kernel_rfl) h
def dT(g:Nat->AV)(a x0 x1 b:AV)(H:ai)(Q:AV->ai->Prop):Prop:=
 dG 3 8 7 a b λv1=>
 br (some v1) (
 bC H 48 x0 a λv2=>
 aq H 21 v2 λe=>
 KP H 16 x1 e λf c=>
 br (some f) (
 Q a c) (
 dz 3 8 1 a λd=>
  bB env Tryz.f170 0 dS [(8,d),(0,x0),(1,x1),(7,b)] c Q)) (
 Q (.v (.int .i64 (-1))) H)
theorem kj(b x0 x1 a:AV)(H:ai)(Q:AV->ai->Prop)(h : ∀g,dT g b x0 x1 a H Q):bB env Tryz.f170 0 dS [(8,b),(0,x0),(1,x1),(7,a)] H Q:=sc kL (by kernel_rfl) h
def sP:Prop:=
 bH H 2 47 x0 λv1 F=>
 bH F 3 45 x1 λv2 f=>
 ar 45 v2 1 λD=>
 aq f 3 D λE=>
 ar 47 v1 0 λC=>
 ar 45 C 1 λB=>
 aq f 3 B λz=>
 Ei 3 8 11 E z λe=>
 aq f 47 v1 λA=>
 bJ false f 14 131 [A] λh d=>
 lW 23 14 0 h λc=>
 gQ c false (bg e) λo=>
 gQ c false (B5 3 17 0 o) λj=>
 ek c j λb=>
 gQ b false (bg e) λw=>
 gQ b false (az 47 v1 1) λp=>
 gQ b false (aD d 3 p) λi=>
 gQ b false (Pp 3 21 23 w i) λm=>
 ek b m λa=>
 gQ a false (aD d 45 v2) λk=>
 gQ a false (az 47 v1 0) λl=>
 gQ a false (aD d 45 l) λq=>
 gQ a false (bg e) λu=>
 gW a false d (fg false d 31 164 [q,u]) λn y=>
 gQ a false (Po 45 27 31 k n) λx=>
 ek a x λt=>
 br (some t) (
 Q (.tup [(.v (.int .i64 0)),(.v (.bool false))]) y) (
 Q (.tup [e,(.v (.bool true))]) y)
theorem NW(h : ∀g:ef,sP x0 x1 H Q):dX Tryz.f176 0 [(0,x0),(1,x1)] H Q:=iT (by kernel_rfl) h
end Go.Proofs.YtdbiffjdomokfaaGreat
namespace Go.Proofs.YtdbiffjdomokfaaGreat
open Go.Ab
noncomputable def na:Code:=(Tryz.f23.body).getD .skip
noncomputable def pM:List Item:=(rj 3 400 [.code na]).getD []
noncomputable def mX:=rV Tryz.f23 4
def Bu:Nat->Option (List Nat):=λi=>cond (Nat.beq i 3) (some [3,0]) (cond (Nat.beq i 4) (some [12,3,10,11]) (none))
def Bx:Nat->Bool:=λi=>cond (Nat.beq i 3) true (false)
def tK(dep:Nat)(g:Nat->AV)(a x0:AV)(H:ai)(Q:AV->ai->Prop):Prop:=
 hZ (ck rp.P false (ai.get H) (⟨(dep+1),11,ai.gen H (dep+1) 11,0⟩:Ref) .len #[31] [x0]) λv1=>
  bB rp Tryz.f23 (dep+1) mX [(12,(.v (.int .i64 0))),(3,a),(10,x0),(11,v1)] H Q
theorem EU(dep:Nat)(a x0:AV)(H:ai)(Q:AV->ai->Prop)(h : ∀g,tK dep g a x0 H Q):bB rp Tryz.f23 (dep+1) pM [(3,a),(0,x0)] H Q:=⟨λg=>FM (live:=Bu) (cut:=(λi=>cond (Nat.beq i 3) false (Bx i))) (n:=500) (Eq.mp (by kernel_rfl) (h g))⟩
def pN(dep:Nat)(g:Nat->AV)(a f c b:AV)(H:ai)(Q:AV->ai->Prop):Prop:=
 hZ (bS rp.P .lss 3 (Operand.tmp 12) (Operand.tmp 11) (some a) (some b)) λv1=>
 br (some v1) (
 hZ (cT rp.P (ai.get H) 31 (some c) (some a)) λv2=>
 KM H 56 v2 λz=>
 lQ (mz H (⟨(dep+1),5,ai.gen H (dep+1) 5,0⟩:Ref) (uW rp.P (⟨(dep+1),5,ai.gen H (dep+1) 5,0⟩:Ref) 56)) λe u=>
 lQ (nc rp.P u 56 (some e) (some z)) λA d=>
 Ie 56 e 0 λt=>
 KM d 5 t λx=>
 hZ (bS rp.P .neq 5 (Operand.tmp 17) (.const (.int .u8 3)) (some x) (some (a8 3))) λv=>
 br (some v) (
 Ie 56 e 2 λj=>
 Ie 50 j 1 λh=>
 KM d 40 h λp=>
 Ie 56 e 2 λk=>
 Ie 50 k 2 λm=>
 KM d 3 m λo=>
 Ie 56 e 3 λq=>
 KM d 23 q λl=>
 hZ (lx rp.P 67 (some [(0,p),(1,o),(2,l)])) λi=>
 lQ (Bj d (some f) (some i)) λy w=>
 XL 3 12 1 a λn=>
  bB rp Tryz.f23 (dep+1) mX [(12,n),(3,f),(10,c),(11,b)] w Q) (
 XL 3 12 1 a λj=>
  bB rp Tryz.f23 (dep+1) mX [(12,j),(3,f),(10,c),(11,b)] d Q)) (
 Q f H)
theorem tE(dep:Nat)(c d b a:AV)(H:ai)(Q:AV->ai->Prop)(h : ∀g,pN dep g c d b a H Q):bB rp Tryz.f23 (dep+1) mX [(12,c),(3,d),(10,b),(11,a)] H Q:=My λg=>FM (live:=Bu) (cut:=Bx) (n:=500) (Eq.mp (by kernel_rfl) (h g))
end Go.Proofs.YtdbiffjdomokfaaGreat
namespace Go.Proofs.YtdbiffjdomokfaaGreat
open Go.Ab
variable(dep:Nat)(g:Nat->AV)(x0 x1 x2:AV)(H:ai)(Q:AV->ai->Prop)
def cX:Prop:=
 bH H 2 50 x0 λv1 S=>
 bH S 3 50 x1 λv2 a=>
 ar 50 v1 0 λV=>
 aq a 5 V λW=>
 ar 50 v2 0 λR=>
 aq a 5 R λP=>
 qG 5 6 8 W P λh=>
 gQ h true (az 50 v1 1) λT=>
 gQ h true (aD a 40 T) λO=>
 gQ h true (az 50 v2 1) λi=>
 gQ h true (aD a 40 i) λG=>
 gQ h true (jG 40 12 14 O G) λn=>
 bG h n λc=>
 gQ c true (az 50 v1 2) λE=>
 gQ c true (aD a 3 E) λN=>
 gQ c true (az 50 v2 2) λp=>
 gQ c true (aD a 3 p) λj=>
 gQ c true (jG 3 19 21 N j) λC=>
 bG c C λe=>
 gQ e true (az 50 v1 3) λA=>
 gQ e true (aD a 47 A) λB=>
 gQ e true (az 50 v2 3) λt=>
 gQ e true (aD a 47 t) λJ=>
 gQ e true (jG 47 26 28 B J) λm=>
 bG e m λb=>
 gQ b true (az 50 v1 4) λv=>
 gQ b true (aD a 45 v) λK=>
 gQ b true (az 50 v2 4) λI=>
 gQ b true (aD a 45 I) λq=>
 gQ b true (jG 45 33 35 K q) λM=>
 bG b M λd=>
 gQ d true (az 50 v1 5) λu=>
 gQ d true (aD a 35 u) λD=>
 gQ d true (az 50 v2 5) λz=>
 gQ d true (aD a 35 z) λF=>
 gQ d true (jG 35 40 42 D F) λw=>
 bG d w λf=>
 gQ f true (az 50 v1 6) λx=>
 gQ f true (aD a 48 x) λl=>
 gQ f true (az 50 v2 6) λo=>
 gQ f true (aD a 48 o) λL=>
 gW f true a (fg true a 50 63 [l,L]) λy U=>
 bG f y λk=>
 Q k U
theorem xI(h : ∀g:ef,cX x0 x1 H Q):dX Tryz.f40 0 [(0,x0),(1,x1)] H Q:=iT (by kernel_rfl) h
def zh:Prop:=
 bH H 1 50 x0 λv1 i=>
 eg i 2 50 λv2 d=>
 ar 50 v1 6 λf=>
 aq d 48 f λh=>
 bJ true d 5 95 [h] λe k=>
 ar 50 v1 6 λl=>
 aP k 48 l e λm b=>
 aq b 50 v1 λj=>
 aP b 50 v2 j λn c=>
 gD c v2 50 λa=>
 Q a c
theorem BJ(h : ∀g:ef,zh x0 H Q):dX Tryz.f78 0 [(0,x0)] H Q:=iT (by kernel_rfl) h
def uv:Prop:=
 bH H 1 50 x0 λv1 H1=>
 aq H1 50 v1 λv2=>
 bJ true H1 16 115 [v2] λv3 R=>
 lW 23 17 0 v3 λv4=>
 br (some v4) (
 Q (.tup [(.v (.slice none 0 0)),v3]) R) (
 ar 50 v1 1 λv5=>
 aq R 40 v5 λv6=>
 bJ true R 23 98 [v6] λv7 H3=>
 bL v7 0 λv8=>
 bL v7 1 λv9=>
 ar 50 v1 3 λS=>
 ar 47 S 0 λv11=>
 aq H3 45 v11 λB=>
 bJ true H3 30 119 [B] λw H4=>
 bL w 0 λM=>
 bL w 1 λv15=>
 ar 50 v1 0 λU=>
 aq H4 5 U λz=>
 rY H4 35 137 1 0 z λv18 k=>
 ar 50 v1 2 λK=>
 aq k 3 K λI=>
 XH 3 38 I λJ=>
 p5 k 40 3 5 J λW=>
 ar 50 v1 2 λO=>
 aq k 3 O λA=>
 Sn 3 42 A λF=>
 p5 k 44 3 5 F λC=>
 ar 50 v1 2 λv27=>
 aq k 3 v27 λv28=>
 p5 k 47 3 5 v28 λV=>
 lQ (oS env.P false true k (Ref.mk 0 48 (ai.gen k 0 48) 0) 137 3 (some [(0,W),(1,C),(2,V)])) λv30 Z=>
 ar 50 v1 3 λv31=>
 ar 47 v31 1 λX=>
 aq Z 3 X λv33=>
 p5 Z 53 3 5 v33 λE=>
 rY Z 54 137 1 0 E λv35 H7=>
 lQ (oS env.P false true H7 (Ref.mk 0 55 (ai.gen H7 0 55) 0) 209 5 (some [(0,v18),(1,v8),(2,v30),(3,M),(4,v35)])) λY H8=>
 bJ true H8 56 120 [Y] λh n=>
 ar 50 v1 0 λD=>
 aq n 5 D λy=>
 vJ 5 58 y λT=>
 br (some T) (
 lQ (mz n (Ref.mk 0 61 (ai.gen n 0 61) 0) (Ev env.P (Ref.mk 0 61 (ai.gen n 0 61) 0) 137 (some (AV.v (Value.int IntKind.i64 13))) (some (AV.v (Value.int IntKind.i64 13))))) λu a=>
 ar 50 v1 4 λo=>
 aq a 45 o λl=>
 pZ 45 λm=>
 xf 45 63 64 l m λf=>
 br (some f) (
 ar 50 v1 4 λe=>
 aq a 45 e λj=>
 bJ true a 69 119 [j] λb c=>
 bL b 0 λd=>
 bL b 1 λL=>
 ar 50 v1 6 λt=>
 aq c 48 t λp=>
 bJ true c 75 121 [p] λx i=>
 bL x 0 λv54=>
 bL x 1 λv55=>
 lQ (oS env.P false true i (Ref.mk 0 81 (ai.gen i 0 81) 0) 209 3 (some [(0,h),(1,d),(2,v54)])) λN q=>
 bJ true q 82 120 [N] λv57 G=>
 Q (.tup [v57,(.v (.int .i64 0))]) G) (
 ar 50 v1 6 λe=>
 aq a 48 e λj=>
 bJ true a 75 121 [j] λb c=>
 bL b 0 λd=>
 bL b 1 λL=>
 lQ (oS env.P false true c (Ref.mk 0 81 (ai.gen c 0 81) 0) 209 3 (some [(0,h),(1,u),(2,d)])) λt i=>
 bJ true i 82 120 [t] λp q=>
 Q (.tup [p,(.v (.int .i64 0))]) q)) (
 B4 5 58 y λu=>
 br (some u) (
 ar 50 v1 5 λo=>
 aq n 35 o λl=>
 Eh 40 0 l λm=>
 bJ true n 89 98 [m] λf a=>
 bL f 0 λe=>
 bL f 1 λj=>
 hZ (iJ env.P (ai.get a) 137 (some e) (some none) (oi (.v (.int .i64 5))) (some none)) λb=>
 lL a 95 137 137 h b λd c=>
 Q (.tup [d,(.v (.int .i64 0))]) c) (
 Q (.tup [h,(.v (.int .i64 0))]) n)))
theorem AM(h : ∀g:ef,uv x0 H Q):dX Tryz.f99 0 [(0,x0)] H Q:=iT (by kernel_rfl) h
def EL:Prop:=
 bH H 1 50 x0 λv1 a=>
 ar 50 v1 6 λv2=>
 aq a 48 v2 λc=>
 bJ true a 5 122 [c,(.v (.int .i32 (-1)))] λd e=>
 kK d λb=>
 Q b e
theorem K6(h : ∀g:ef,EL x0 H Q):dX Tryz.f100 0 [(0,x0)] H Q:=iT (by kernel_rfl) h
def kp:Prop:=
 bH H 1 50 x0 λv1 e=>
 ar 50 v1 0 λv2=>
 aq e 5 v2 λS=>
 hZ (bS env.P .eql 5 (Operand.tmp 4) (.const (.int .u8 0)) (some S) (some (a8 0))) λj=>
 gQ j false (az 50 v1 0) λO=>
 gQ j false (aD e 5 O) λN=>
 gQ j false (bS env.P .geq 5 (Operand.tmp 8) (.const (.int .u8 4)) (some N) (some (a8 4))) λR=>
 ek j R λf=>
 gQ f false (az 50 v1 1) λM=>
 gQ f false (aD e 40 M) λk=>
 gW f false e (fg false e 14 117 [k]) λD i=>
 gQ f false (Ff 23 14 0 D) λm=>
 ek f m λd=>
 gQ d false (az 50 v1 2) λB=>
 gQ d false (aD i 3 B) λJ=>
 gQ d false (B5 3 19 1 J) λn=>
 ek d n λc=>
 gQ c false (az 50 v1 2) λz=>
 gQ c false (aD i 3 z) λy=>
 gQ c false (vK 3 24 16777216 y) λw=>
 ek c w λb=>
 gQ b false (az 50 v1 3) λp=>
 gQ b false (aD i 47 p) λF=>
 gW b false i (fg false i 30 131 [F]) λl K=>
 gQ b false (Ff 23 30 0 l) λu=>
 ek b u λa=>
 gW a false K (fg false K 34 132 []) λG h=>
 gQ a false (az 50 v1 0) λE=>
 gQ a false (aD h 5 E) λo=>
 gQ a false (qU env.P 203 (some G) (some o)) λI=>
 gQ a false (B2 202 I 0) λx=>
 gQ a false (aD h 50 v1) λq=>
 gW a false h (bF env true (aF env) (cE env 0) h (Ref.mk 0 40 (ai.gen h 0 40) 0) (some x) [q]) λA L=>
 gQ a false (rX A) λt=>
 ek a t λC=>
 br (some C) (
 Q (.v (.int .i64 8)) L) (
 Q (.v (.int .i64 0)) L)
theorem K7(h : ∀g:ef,kp x0 H Q):dX Tryz.f115 0 [(0,x0)] H Q:=iT (by kernel_rfl) h
def oy:Prop:=
 bH H 2 50 x0 λv1 Y=>
 bH Y 3 50 x1 λv2 V=>
 aq V 50 v1 λv3=>
 aq V 50 v2 λv4=>
 eg V 5 50 λi Z=>
 eg Z 6 50 λj H4=>
 aP H4 50 i v3 λv7 H5=>
 aP H5 50 j v4 λv8 a=>
  mQ [(v2,i)] [i,j] [] a /\
 (ar 50 i 0 λX=>
 aq a 5 X λk=>
 ar 50 j 0 λO=>
 aq a 5 O λv=>
 qG 5 10 12 k v λd=>
 gQ d true (az 50 i 1) λM=>
 gQ d true (aD a 40 M) λW=>
 gQ d true (az 50 j 1) λx=>
 gQ d true (aD a 40 x) λl=>
 gQ d true (jG 40 16 18 W l) λJ=>
 bG d J λf=>
 gQ f true (az 50 i 2) λG=>
 gQ f true (aD a 3 G) λI=>
 gQ f true (az 50 j 2) λz=>
 gQ f true (aD a 3 z) λR=>
 gQ f true (jG 3 23 25 I R) λt=>
 bG f t λc=>
 gQ c true (az 50 i 3) λB=>
 gQ c true (aD a 47 B) λS=>
 gQ c true (az 50 j 3) λP=>
 gQ c true (aD a 47 P) λy=>
 gQ c true (jG 47 30 32 S y) λU=>
 bG c U λe=>
 gQ e true (az 50 i 4) λA=>
 gQ e true (aD a 45 A) λL=>
 gQ e true (az 50 j 4) λF=>
 gQ e true (aD a 45 F) λN=>
 gQ e true (jG 45 37 39 L N) λC=>
 bG e C λh=>
 gQ h true (az 50 i 5) λD=>
 gQ h true (aD a 35 D) λo=>
 gQ h true (az 50 j 5) λw=>
 gQ h true (aD a 35 w) λT=>
 gQ h true (jG 35 44 46 o T) λE=>
 bG h E λb=>
 gQ b true (az 50 i 6) λq=>
 gQ b true (aD a 48 q) λn=>
 gQ b true (az 50 j 6) λu=>
 gQ b true (aD a 48 u) λK=>
 gW b true a (fg true a 54 141 [n,K]) λm H7=>
 bG b m λp=>
 Q p H7)
theorem NU(h : ∀g:ef,oy x0 x1 H Q):dX Tryz.f123 0 [(0,x0),(1,x1)] H Q:=iT (by kernel_rfl) h
def xa:Prop:=
 bH H 1 50 x0 λv1 b=>
 ar 50 v1 4 λv2=>
 aq b 45 v2 λd=>
 pZ 45 λe=>
 qG 45 4 5 d e λa=>
 gQ a true (az 50 v1 6) λj=>
 gQ a true (aD b 48 j) λf=>
 gQ a true (zn b 10 48 f) λh=>
 gQ a true (qH 3 10 0 h) λi=>
 bG a i λc=>
 Q c b
theorem HH(h : ∀g:ef,xa x0 H Q):dX Tryz.f146 0 [(0,x0)] H Q:=iT (by kernel_rfl) h
def BF:Prop:=
 bH H 1 50 x0 λv1 a=>
 ar 50 v1 5 λv2=>
 aq a 35 v2 λc=>
 bJ false a 5 91 [] λd e=>
 qG 35 4 5 c d λb=>
 Q b e
theorem HG(h : ∀g:ef,BF x0 H Q):dX Tryz.f147 0 [(0,x0)] H Q:=iT (by kernel_rfl) h
def jd:Prop:=
 bH H 2 50 x0 λv1 h=>
 ar 50 v1 4 λv2=>
 aq h 45 v2 λO=>
 pZ 45 λP=>
 qG 45 6 7 O P λe=>
 gQ e false (az 50 v1 4) λK=>
 gQ e false (aD h 45 K) λM=>
 gW e false h (fg true h 12 137 [M]) λL I=>
 gQ e false (qH 23 12 0 L) λJ=>
 ek e J λi=>
 aq I 112 x1 λD=>
 aq I 50 v1 λl=>
 KP I 17 D l λf d=>
 gQ f true (bg i) λB=>
 bG f B λb=>
 gQ b true (az 50 v1 3) λm=>
 gQ b true (az 47 m 0) λj=>
 gQ b true (az 45 j 0) λz=>
 gQ b true (aD d 40 z) λy=>
 gQ b true (az 50 v1 1) λw=>
 gQ b true (aD d 40 w) λx=>
 gQ b true (jG 40 25 27 y x) λo=>
 bG b o λa=>
 gQ a true (az 50 v1 6) λk=>
 gQ a true (aD d 48 k) λv=>
 gQ a true (zn d 33 48 v) λq=>
 gQ a true (az 50 v1 3) λF=>
 gQ a true (az 47 F 1) λE=>
 gQ a true (aD d 3 E) λn=>
 gQ a true (jG 3 33 36 q n) λG=>
 bG a G λc=>
 gQ c true (az 50 v1 6) λp=>
 gQ c true (aD d 48 p) λA=>
 gW c true d (fg true d 42 139 [A]) λu N=>
 gQ c true (qH 23 42 0 u) λC=>
 bG c C λt=>
 Q t N
theorem HF(h : ∀g:ef,jd x0 x1 H Q):dX Tryz.f148 0 [(0,x0),(1,x1)] H Q:=iT (by kernel_rfl) h
def BE:Prop:=
 bH H 3 50 x0 λv1 c=>
 aq c 112 x1 λv2=>
 aq c 50 v1 λe=>
 KP c 7 v2 e λb a=>
 gQ b true (aD a 112 x2) λd=>
 gQ b true (aD a 50 v1) λj=>
 gW b true a (bF env true (aF env) (cE env 0) a (Ref.mk 0 11 (ai.gen a 0 11) 0) (some d) [j]) λf i=>
 bG b f λh=>
 Q h i
theorem HE(h : ∀g:ef,BE x0 x1 x2 H Q):dX Tryz.f150 0 [(0,x0),(1,x1),(2,x2)] H Q:=iT (by kernel_rfl) h
def BD:Prop:=
 bH H 2 50 x0 λv1 b=>
 aq b 112 x1 λv2=>
 aq b 50 v1 λe=>
 KP b 6 v2 e λa c=>
 gQ a true (az 50 v1 5) λd=>
 gQ a true (aD c 35 d) λk=>
 gW a true c (fg true c 10 33 [k]) λf j=>
 gQ a true (qH 23 10 0 f) λi=>
 bG a i λh=>
 Q h j
theorem HD(h : ∀g:ef,BD x0 x1 H Q):dX Tryz.f152 0 [(0,x0),(1,x1)] H Q:=iT (by kernel_rfl) h
end Go.Proofs.YtdbiffjdomokfaaGreat
namespace Go.Proofs.YtdbiffjdomokfaaGreat
open Go.Ab
variable(dep:Nat)(g:Nat->AV)(x0 x1 x2 x3:AV)(H:ai)(Q:AV->ai->Prop)
def cq:Prop:=
 bH H 1 140 x0 λv1 H1=>
 ar 140 v1 0 λv2=>
 ar 56 v2 0 λv3=>
 aq H1 5 v3 λv4=>
 Eh 56 0 v4 λv5=>
 eg H1 4 56 λO H2=>
 aP H2 56 O v5 λv7 I=>
 ar 140 v1 0 λv8=>
 ar 56 v8 0 λv9=>
 aq I 5 v9 λv10=>
 vJ 5 12 v10 λv11=>
 br (some v11) (
 ar 140 v1 0 λY=>
 ar 56 Y 2 λB=>
 ar 50 B 1 λm=>
 aq I 40 m λp=>
 ar 140 v1 0 λq=>
 ar 56 q 1 λc=>
 aq I 3 c λy=>
 ar 56 O 2 λe=>
 ar 50 e 1 λi=>
 aP I 40 i p λb R=>
 ar 56 O 1 λj=>
 aP R 3 j y λw n=>
  mQ [(c,i)] [i,j] [] n /\
 (ar 140 v1 0 λk=>
 ar 56 k 2 λl=>
 ar 50 l 1 λh=>
 aq n 40 h λM=>
 bJ true n 30 98 [M] λz A=>
 bL z 0 λE=>
 bL z 1 λN=>
 ar 140 v1 0 λJ=>
 ar 56 J 1 λa=>
 aq A 3 a λK=>
 vM 3 35 0 K λd=>
 gQ d true (az 140 v1 0) λL=>
 gQ d true (az 56 L 1) λF=>
 gQ d true (aD A 3 F) λf=>
 gQ d true (zo 3 40 255 f) λZ=>
 bG d Z λD=>
 ar 140 v1 0 λv40=>
 ar 56 v40 1 λv41=>
 aq A 3 v41 λG=>
 p5 A 47 3 5 G λS=>
 rY A 48 137 1 0 S λW t=>
 lL t 49 137 137 E W λU H8=>
 ar 140 v1 0 λX=>
 ar 56 X 0 λv47=>
 aq H8 5 v47 λT=>
 rY H8 111 137 1 0 T λV H9=>
 lL H9 113 137 137 V U λv50 u=>
 gQ D true (bg N) λv51=>
 gQ D true (qH 23 116 0 v51) λv52=>
 bG D v52 λo=>
 gQ o true (az 140 v1 0) λv54=>
 gQ o true (aD u 56 v54) λv55=>
 gQ o true (aD u 56 O) λv56=>
 gW o true u (fg true u 123 102 [v55,v56]) λv57 x=>
 bG o v57 λv58=>
 Q (.tup [v50,v58]) x)) (
 xg 5 12 v10 λY=>
 br (some Y) (
 ar 140 v1 0 λB=>
 ar 56 B 2 λm=>
 aq I 50 m λp=>
 ar 140 v1 0 λq=>
 ar 56 q 3 λc=>
 aq I 23 c λy=>
 ar 56 O 2 λe=>
 aP I 50 e p λi R=>
 ar 56 O 3 λb=>
 aP R 23 b y λj n=>
  mQ [(c,e)] [e,b] [] n /\
 (ar 140 v1 0 λw=>
 ar 56 w 2 λk=>
 aq n 50 k λl=>
 bJ true n 64 99 [l] λh A=>
 bL h 0 λM=>
 bL h 1 λz=>
 ar 140 v1 0 λE=>
 ar 56 E 2 λN=>
 aq A 50 N λJ=>
 bJ true A 70 100 [J] λa t=>
 gQ a true (az 140 v1 0) λK=>
 gQ a true (az 56 K 3) λd=>
 gQ a true (aD t 23 d) λL=>
 gQ a true (vK 23 74 0 L) λF=>
 bG a F λf=>
 gQ f true (az 140 v1 0) λZ=>
 gQ f true (az 56 Z 3) λD=>
 gQ f true (aD t 23 D) λv40=>
 gQ f true (B5 23 80 65536 v40) λv41=>
 bG f v41 λG=>
 ar 140 v1 0 λS=>
 ar 56 S 3 λW=>
 aq t 23 W λU=>
 Sn 23 85 U λX=>
 p5 t 87 23 5 X λv47=>
 ar 140 v1 0 λT=>
 ar 56 T 3 λV=>
 aq t 23 V λv50=>
 p5 t 91 23 5 v50 λv51=>
 lQ (oS env.P false true t (Ref.mk 0 92 (ai.gen t 0 92) 0) 137 2 (some [(0,v47),(1,v51)])) λv52 H8=>
 lL H8 94 137 137 v52 M λo H9=>
 ar 140 v1 0 λv54=>
 ar 56 v54 0 λv55=>
 aq H9 5 v55 λv56=>
 rY H9 111 137 1 0 v56 λv57 u=>
 lL u 113 137 137 v57 o λv58 x=>
 gQ G true (bg z) λv59=>
 gQ G true (qH 23 116 0 v59) λv60=>
 bG G v60 λC=>
 gQ C true (az 140 v1 0) λv62=>
 gQ C true (aD x 56 v62) λv63=>
 gQ C true (aD x 56 O) λv64=>
 gW C true x (fg true x 123 102 [v63,v64]) λv65 H12=>
 bG C v65 λv66=>
 Q (.tup [v58,v66]) H12)) (
 B4 5 12 v10 λB=>
 br (some B) (
 ar 140 v1 0 λm=>
 ar 56 m 4 λp=>
 aq I 54 p λq=>
 ar 56 O 4 λc=>
 aP I 54 c q λy R=>
 ar 140 v1 0 λe=>
 ar 56 e 4 λi=>
 aq R 54 i λb=>
 bJ true R 105 101 [b] λj n=>
 bL j 0 λw=>
 bL j 1 λk=>
 ar 140 v1 0 λl=>
 ar 56 l 0 λh=>
 aq n 5 h λM=>
 rY n 111 137 1 0 M λz A=>
 lL A 113 137 137 z w λE t=>
 gQ (.v (.bool true)) true (bg k) λN=>
 gQ (.v (.bool true)) true (qH 23 116 0 N) λJ=>
 hZ (Al (some (AV.v (Value.bool true))) (some J) (some (AV.v (Value.bool false)))) λa=>
 gQ a true (az 140 v1 0) λK=>
 gQ a true (aD t 56 K) λd=>
 gQ a true (aD t 56 O) λL=>
 gW a true t (fg true t 123 102 [d,L]) λF H8=>
 bG a F λf=>
 Q (.tup [E,f]) H8) (
 ar 140 v1 0 λm=>
 ar 56 m 0 λp=>
 aq I 5 p λq=>
 rY I 111 137 1 0 q λc R=>
 lQ (jn env.P true R (Ref.mk 0 113 (ai.gen R 0 113) 0) (some 137) (some 137) c (.v (.slice none 0 0))) λy n=>
 gQ (.v (.bool false)) true (jK (some (AV.v (Value.int IntKind.i64 0)))) λe=>
 gQ (.v (.bool false)) true (qH 23 116 0 e) λi=>
 hZ (Al (some (AV.v (Value.bool false))) (some i) (some (AV.v (Value.bool false)))) λb=>
 gQ b true (az 140 v1 0) λj=>
 gQ b true (aD n 56 j) λw=>
 gQ b true (aD n 56 O) λk=>
 gW b true n (fg true n 123 102 [w,k]) λl A=>
 bG b l λh=>
 Q (.tup [y,h]) A)))
theorem qy(h : ∀g:ef,cq x0 H Q):dX Tryz.f82 0 [(0,x0)] H Q:=iT (by kernel_rfl) h
noncomputable def dE:=rV Tryz.f120 3
noncomputable def dt:=rV Tryz.f120 11
def jl:Nat->Option (List Nat):=λi=>cond (Nat.beq i 3) (some [11,3,9,0,10]) (cond (Nat.beq i 11) (some [27,6,25,26]) (none))
def mG:Prop:=
 eR H 10 209 x0 λv1=>
  bB env Tryz.f120 0 dE [(11,(.v (.int .i64 0))),(3,(.v (.int .i64 0))),(9,x0),(0,x0),(10,v1)] H Q
theorem sZ(h : ∀g:ef,mG x0 H Q):dX Tryz.f120 0 [(0,x0)] H Q:=tV jl (by kernel_rfl) h
def ir(g:Nat->AV)(a x3 e x0 b:AV)(H:ai)(Q:AV->ai->Prop):Prop:=
 dG 3 11 10 a b λv1=>
 br (some v1) (
 bC H 209 e a λv2=>
 aq H 137 v2 λd=>
 eR H 17 137 d λk=>
 p4 3 15 17 x3 k λc=>
 Fh 3 19 0 c λj=>
 br (some j) (
 hZ (sI env.P 9 (some (.v (.string ⟨#[108,101,110,32,111,117,116,32,111,102,32,114,97,110,103,101]⟩)))) λf=>
 hZ (none) λl=>
 dz 3 11 1 a λi=>
  bB env Tryz.f120 0 dE [(11,i),(3,c),(9,e),(0,x0),(10,b)] H Q) (
 dz 3 11 1 a λf=>
  bB env Tryz.f120 0 dE [(11,f),(3,c),(9,e),(0,x0),(10,b)] H Q)) (
 bJ true H 24 138 [(.v (.slice none 0 0)),x3] λv2 h=>
 eR h 26 209 x0 λd=>
  bB env Tryz.f120 0 dt [(27,(.v (.int .i64 0))),(6,v2),(25,x0),(26,d)] h Q)
theorem lN(a x3 c x0 b:AV)(H:ai)(Q:AV->ai->Prop)(h : ∀g,ir g a x3 c x0 b H Q):bB env Tryz.f120 0 dE [(11,a),(3,x3),(9,c),(0,x0),(10,b)] H Q:=sc jl (by kernel_rfl) h
def eL(g:Nat->AV)(a d b c:AV)(H:ai)(Q:AV->ai->Prop):Prop:=
 dG 3 27 26 a c λv1=>
 br (some v1) (
 bC H 209 b a λv2=>
 aq H 137 v2 λf=>
 lL H 33 137 137 d f λh i=>
 dz 3 27 1 a λe=>
  bB env Tryz.f120 0 dt [(27,e),(6,h),(25,b),(26,c)] i Q) (
 Q d H)
theorem k5(c d b a:AV)(H:ai)(Q:AV->ai->Prop)(h : ∀g,eL g c d b a H Q):bB env Tryz.f120 0 dt [(27,c),(6,d),(25,b),(26,a)] H Q:=sc jl (by kernel_rfl) h
def nI:Prop:=
 Fh 3 5 0 x1 λv1=>
 br (some v1) (
 hZ (sI env.P 9 (some (.v (.string ⟨#[99,97,110,110,111,116,32,98,101,32,110,101,103,97,116,105,118,101]⟩)))) λv2=>
 hZ (none) λm=>
 Pt H 10 137 x0 λf=>
 eR H 12 137 x0 λd=>
 Ei 3 10 12 f d λl=>
 Ei 3 8 13 x1 l λe=>
 B6 3 15 0 e λj=>
 br (some j) (
 Pt H 19 137 x0 λk=>
 Fc H 137 x0 k λa=>
 lL H 22 137 3 a e λc b=>
 eR b 24 137 x0 λh=>
 Fc b 137 c h λi=>
 Q i b) (
 Q x0 H)) (
 Pt H 10 137 x0 λv2=>
 eR H 12 137 x0 λm=>
 Ei 3 10 12 v2 m λf=>
 Ei 3 8 13 x1 f λd=>
 B6 3 15 0 d λl=>
 br (some l) (
 Pt H 19 137 x0 λe=>
 Fc H 137 x0 e λj=>
 lL H 22 137 3 j d λk b=>
 eR b 24 137 x0 λa=>
 Fc b 137 k a λc=>
 Q c b) (
 Q x0 H))
theorem tT(h : ∀g:ef,nI x0 x1 H Q):dX Tryz.f138 0 [(0,x0),(1,x1)] H Q:=iT (by kernel_rfl) h
def sU:Prop:=
 bH H 3 50 x1 λv1 i=>
 bJ true i 9 168 [x0] λv2 b=>
 lW 23 10 0 v2 λd=>
 br (some d) (
 Q (.tup [(.v (.bool false)),v2]) b) (
 aq b 50 v1 λe=>
 bJ true b 14 115 [e] λc a=>
 lW 23 15 0 c λk=>
 br (some k) (
 Q (.tup [(.v (.bool false)),c]) a) (
 aq a 50 v1 λf=>
 bJ true a 20 169 [x0,f] λj h=>
 Q (.tup [j,(.v (.int .i64 0))]) h))
theorem HK(h : ∀g:ef,sU x0 x1 H Q):dX Tryz.f159 0 [(0,x0),(1,x1)] H Q:=iT (by kernel_rfl) h
noncomputable def oE:=rV Tryz.f168 4
def Ar:Nat->Option (List Nat):=λi=>cond (Nat.beq i 4) (some [10,0,8,9]) (none)
def vt:Prop:=
 eR H 6 90 x0 λv1=>
 B6 3 6 2048 v1 λv2=>
 br (some v2) (
 Q (.v (.int .i64 4)) H) (
 eR H 9 90 x0 λa=>
  bB env Tryz.f168 0 oE [(10,(.v (.int .i64 0))),(0,x0),(8,x0),(9,a)] H Q)
theorem F5(h : ∀g:ef,vt x0 H Q):dX Tryz.f168 0 [(0,x0)] H Q:=tV Ar (by kernel_rfl) h
def mq(g:Nat->AV)(a x0 n o:AV)(H:ai)(Q:AV->ai->Prop):Prop:=
 dG 3 10 9 a o λv1=>
 br (some v1) (
 bC H 90 n a λv2=>
 aq H 50 v2 λw=>
 eg H 4 50 λh x=>
 aP x 50 h w λy p=>
 aq p 50 h λu=>
 bJ false p 16 115 [u] λq c=>
 lW 23 16 0 q λb=>
 gQ b false (bg x0) λt=>
 gQ b false (bg a) λd=>
 gQ b false (iJ env.P (ai.get c) 90 (some t) (some none) (oi d) (some none)) λk=>
 gQ b false (aD c 50 h) λi=>
 gW b false c (fg false c 23 169 [k,i]) λe m=>
 gQ b false (rX e) λf=>
 ek b f λl=>
 br (some l) (
 Q (.v (.int .i64 8)) m) (
 dz 3 10 1 a λj=>
  bB env Tryz.f168 0 oE [(10,j),(0,x0),(8,n),(9,o)] m Q)) (
 Q (.v (.int .i64 0)) H)
theorem xv(a x0 c b:AV)(H:ai)(Q:AV->ai->Prop)(h : ∀g,mq g a x0 c b H Q):bB env Tryz.f168 0 oE [(10,a),(0,x0),(8,c),(9,b)] H Q:=sc Ar (by kernel_rfl) h
noncomputable def pL:=rV Tryz.f169 5
def Bt:Nat->Option (List Nat):=λi=>cond (Nat.beq i 5) (some [21,3,0,5,20]) (none)
def xc:Prop:=
 bH H 3 50 x1 λv1 a=>
 ar 50 v1 0 λv2=>
 aq a 5 v2 λi=>
 Sk 5 10 i λj=>
 br (some j) (
 Q (.v (.bool true)) a) (
 ar 50 v1 1 λh=>
 ar 40 h 0 λn=>
 aq a 35 n λk=>
 ar 50 v1 5 λl=>
 aq a 35 l λm=>
 bJ true a 17 20 [k,m] λb f=>
 ar 50 v1 3 λe=>
 ar 47 e 1 λc=>
 aq f 3 c λd=>
  bB env Tryz.f169 0 pL [(21,(.v (.int .i64 0))),(3,v1),(0,x0),(5,b),(20,d)] f Q)
theorem HJ(h : ∀g:ef,xc x0 x1 H Q):dX Tryz.f169 0 [(0,x0),(1,x1)] H Q:=tV Bt (by kernel_rfl) h
def m6(g:Nat->AV)(b x3 x0 a d:AV)(H:ai)(Q:AV->ai->Prop):Prop:=
 dG 3 21 20 b d λv1=>
 br (some v1) (
 ar 50 x3 3 λv2=>
 aq H 47 v2 λA=>
 bJ true H 28 145 [A,b] λv z=>
 bL v 0 λy=>
 bL v 1 λC=>
 eg z 7 45 λu B=>
 aP B 45 u y λD e=>
 gQ a true (bg x0) λx=>
 gQ a true (aD e 45 u) λf=>
 gQ a true (az 50 x3 1) λq=>
 gQ a true (az 40 q 0) λi=>
 gQ a true (aD e 35 i) λk=>
 gW a true e (fg false e 38 172 [x,f,k]) λp l=>
 gQ a true (az 50 x3 1) λt=>
 gQ a true (az 40 t 0) λj=>
 gQ a true (aD l 35 j) λh=>
 gW a true l (fg false l 42 171 [p,h]) λo w=>
 bG a o λc=>
 kK c λm=>
 br (some m) (
 Q c w) (
 dz 3 21 1 b λn=>
  bB env Tryz.f169 0 pL [(21,n),(3,x3),(0,x0),(5,c),(20,d)] w Q)) (
 Q a H)
theorem zA(a x3 x0 c b:AV)(H:ai)(Q:AV->ai->Prop)(h : ∀g,m6 g a x3 x0 c b H Q):bB env Tryz.f169 0 pL [(21,a),(3,x3),(0,x0),(5,c),(20,b)] H Q:=sc Bt (by kernel_rfl) h
def dc:Prop:=
 bH H 3 35 x1 λv1 a=>
 aq a 35 v1 λv2=>
 bJ true a 7 173 [x0,v2] λb d=>
 vM 3 7 0 b λc=>
 Q c d
theorem gB(h : ∀g:ef,dc x0 x1 H Q):dX Tryz.f171 0 [(0,x0),(1,x1)] H Q:=iT (by kernel_rfl) h
noncomputable def Ia:Code:=(Tryz.f172.body).getD .skip
noncomputable def jJ:List Item:=(mf 10003 400 [.code Ia]).getD []
noncomputable def dK:Code:=rfA jJ
noncomputable def dJ:Code:=rfB jJ
noncomputable def tP:List Item:=rfK jJ
def wW:Nat->Option (List Nat):=λi=>cond (Nat.beq i 10003) (some [16,7]) (none)
def Bw:Nat->Bool:=λi=>false
def BG:Prop:=
 bH H 4 45 x1 λv1 m=>
 bH m 5 35 x2 λv2 e=>
 ar 45 v1 0 λk=>
 ar 40 k 0 λl=>
 aq e 35 l λj=>
 rY e 12 193 1 0 j λi n=>
 eg n 7 193 λd f=>
 aP f 193 d i λp b=>
 aq b 45 v1 λh=>
 aq b 35 v2 λa=>
 bJ true b 16 174 [x0,h,a] λc o=>
  bB env Tryz.f172 0 jJ [(16,c),(7,d)] o Q
theorem HI(h : ∀g:ef,BG x0 x1 x2 H Q):dX Tryz.f172 0 [(0,x0),(1,x1),(2,x2)] H Q:=tV wW (by kernel_rfl) h
def tx(g:Nat->AV)(a:AV)(H:ai)(Q:AV->ai->Prop):Prop:=
 aq H 193 a λv1=>
 Q v1 H
theorem Ac(a:AV)(H:ai)(Q:AV->ai->Prop)(h : ∀g,tx g a H Q):bB env Tryz.f172 0 tP [(7,a)] H Q:=⟨λg=>FM (live:=wW) (cut:=Bw) (n:=500) (Eq.mp (by kernel_rfl) (h g))⟩
def jQ(r:Ref)(g:Nat->AV)(f e:AV)(H:ai)(Q:AV->ai->Prop):Prop:=
 lQ (mz H (⟨2,8,ai.gen H 2 8,0⟩:Ref) (uW env.P (⟨2,8,ai.gen H 2 8,0⟩:Ref) 35)) λv1 q=>
 aP q 35 v1 e λv2 b=>
  bgP (yZ b r) λc=>
 hZ (sf env.P (ai.get (ai.put b r (some (kz 1 c)))) 193 (some f)) λo=>
 hZ (sf env.P (ai.get (ai.put b r (some (kz 1 c)))) 35 (some v1)) λm=>
 lQ (bF env true (aF env) (cE env 2) (ai.put b r (some (kz 1 c))) (⟨2,20,ai.gen (ai.put b r (some (kz 1 c))) 2 20,0⟩:Ref) (some (.fn (.func 171) [] [])) [o,m]) λl a=>
 kK l λj=>
 br (some j) (
 aq a 193 f λt=>
 aq a 35 v1 λk=>
 lQ (oS env.P false true a (⟨2,24,ai.gen a 2 24,0⟩:Ref) 193 1 (some [(0,k)])) λd i=>
 lQ (jn env.P true i (⟨2,25,ai.gen i 2 25,0⟩:Ref) (some 193) (some 193) t d) λh p=>
 aP p 193 f h λn u=>
 Q (.v (.int .i64 0)) u) (
 Q (.v (.int .i64 0)) a)
theorem A8(r:Ref)(b a:AV)(H:ai)(Q:AV->ai->Prop)(h : ∀g,jQ r g b a H Q):XE env Tryz.f172 (some r) 2 [.code dK,.beginRound,.code dJ] [(7,b),(17,a)] H Q:=⟨λg=>FM (live:=wW) (cut:=Bw) (n:=500) (Eq.mp (by kernel_rfl) (h g))⟩
noncomputable def bp:=rV Tryz.f173 2
def dD:Nat->Option (List Nat):=λi=>cond (Nat.beq i 2) (some [8,0,3,7]) (none)
def dF:Prop:=
 bH H 3 35 x1 λv1 a=>
 eR a 7 193 x0 λv2=>
  bB env Tryz.f173 0 bp [(8,(.v (.int .i64 0))),(0,x0),(3,v1),(7,v2)] a Q
theorem im(h : ∀g:ef,dF x0 x1 H Q):dX Tryz.f173 0 [(0,x0),(1,x1)] H Q:=tV dD (by kernel_rfl) h
def bt(g:Nat->AV)(a x0 x3 b:AV)(H:ai)(Q:AV->ai->Prop):Prop:=
 dG 3 8 7 a b λv1=>
 br (some v1) (
 aq H 35 x3 λv2=>
 bC H 193 x0 a λe=>
 aq H 35 e λf=>
 qG 35 11 15 v2 f λd=>
 br (some d) (
 Q a H) (
 dz 3 8 1 a λc=>
  bB env Tryz.f173 0 bp [(8,c),(0,x0),(3,x3),(7,b)] H Q)) (
 Q (.v (.int .i64 (-1))) H)
theorem dk(b x0 x3 a:AV)(H:ai)(Q:AV->ai->Prop)(h : ∀g,bt g b x0 x3 a H Q):bB env Tryz.f173 0 bp [(8,b),(0,x0),(3,x3),(7,a)] H Q:=sc dD (by kernel_rfl) h
def zL:Prop:=
 bH H 3 90 x0 λv1 c=>
 bH c 4 45 x1 λv2 e=>
 bH e 5 35 x2 λa d=>
 hZ (xR (.func 175) (some []) (some [v1,v2,a])) λb=>
 Q b d
theorem ET(h : ∀g:ef,zL x0 x1 x2 H Q):dX Tryz.f174 0 [(0,x0),(1,x1),(2,x2)] H Q:=iT (by kernel_rfl) h
noncomputable def Dd:Code:=(Tryz.f175.body).getD .skip
noncomputable def lV:=rV Tryz.f175 1
def wc:Nat->Option (List Nat):=λi=>cond (Nat.beq i 1) (some [11,0,3,2,9,10]) (none)
def wG:Prop:=
 aq H 90 x1 λv1=>
 Fe H dep 10 90 v1 λv2=>
  bB env Tryz.f175 (dep+1) lV [(11,(.v (.int .i64 0))),(0,x0),(3,x3),(2,x2),(9,v1),(10,v2)] H Q
theorem Cn(h : ∀g:ef,wG dep x0 x1 x2 x3 H Q):dX Tryz.f175 (dep+1) [(0,x0),(1,x1),(2,x2),(3,x3)] H Q:=tV wc (by kernel_rfl) h
def ia(dep:Nat)(g:Nat->AV)(c x0 x3 x2 E d:AV)(H:ai)(Q:AV->ai->Prop):Prop:=
 dG 3 11 10 c d λv1=>
 br (some v1) (
 bC H 90 E c λv2=>
 aq H 50 v2 λM=>
 vL H dep 6 50 λh J=>
 aP J 50 h M λN j=>
 ar 50 h 3 λI=>
 aq j 47 I λL=>
 aq j 45 x2 λK=>
 lQ (bF env true (aF env) (cE env (dep+1)) j (⟨(dep+1),19,ai.gen j (dep+1) 19,0⟩:Ref) (some (.fn (.func 176) [] [])) [L,K]) λD e=>
 bL D 0 λG=>
 bL D 1 λy=>
 ar 50 h 0 λm=>
 aq e 5 m λq=>
 B4 5 23 q λf=>
 gQ f true (bg y) λC=>
 bG f C λa=>
 gQ a true (az 50 h 1) λk=>
 gQ a true (az 40 k 0) λx=>
 gQ a true (aD e 35 x) λw=>
 gQ a true (aD e 35 x3) λt=>
 gW a true e (XM dep e 33 w t) λu i=>
 bG a u λb=>
 gQ b true (bg x0) λA=>
 gQ b true (az 50 h 5) λl=>
 gQ b true (aD i 35 l) λp=>
 gW b true i (bF env true (aF env) (cE env (dep+1)) i (⟨(dep+1),39,ai.gen i (dep+1) 39,0⟩:Ref) (some A) [p]) λo F=>
 gQ b true (rX o) λB=>
 bG b B λz=>
 br (some z) (
 Q (.v (.tuple #[])) F) (
 dz 3 11 1 c λn=>
  bB env Tryz.f175 (dep+1) lV [(11,n),(0,x0),(3,x3),(2,x2),(9,E),(10,d)] F Q)) (
 Q (.v (.tuple #[])) H)
theorem tO(dep:Nat)(a x0 x3 x2 c b:AV)(H:ai)(Q:AV->ai->Prop)(h : ∀g,ia dep g a x0 x3 x2 c b H Q):bB env Tryz.f175 (dep+1) lV [(11,a),(0,x0),(3,x3),(2,x2),(9,c),(10,b)] H Q:=sc wc (by kernel_rfl) h
end Go.Proofs.YtdbiffjdomokfaaGreat
namespace Go.Proofs.YtdbiffjdomokfaaGreat
open Go.Ab
variable(dep:Nat)(g:Nat->AV)(x0 x1 x2:AV)(H:ai)(Q:AV->ai->Prop)
def qq:Prop:=
 bH H 1 56 x0 λv1 i=>
 eg i 2 56 λv2 d=>
 ar 56 v1 2 λf=>
 aq d 50 f λh=>
 bJ true d 5 26 [h] λe k=>
 ar 56 v1 2 λl=>
 aP k 50 l e λm b=>
 aq b 56 v1 λj=>
 aP b 56 v2 j λn c=>
 gD c v2 56 λa=>
 Q a c
theorem xE(h : ∀g:ef,qq x0 H Q):dX Tryz.f14 0 [(0,x0)] H Q:=iT (by kernel_rfl) h
noncomputable def w7:Code:=(Tryz.f15.body).getD .skip
def je:Prop:=
 bH H 3 29 x0 λv1 n=>
 bH n 5 35 x2 λv2 f=>
 aq f 29 v1 λk=>
 bJ true f 10 27 [k,x1] λl e=>
 kK l λa=>
 gQ a false (aD e 35 v2) λj=>
 gW a false e (fg true e 14 28 [j]) λh c=>
 gQ a false (rX h) λo=>
 ek a o λi=>
 br (some i) (
 Q (.tup [(.v (.slice none 0 0)),(.v (.int .i64 8))]) c) (
 aq c 35 v2 λb=>
 bJ true c 19 29 [x1,b] λd m=>
 Q (.tup [d,(.v (.int .i64 0))]) m)
theorem wH(h : ∀g:ef,je x0 x1 x2 H Q):dX Tryz.f15 0 [(0,x0),(1,x1),(2,x2)] H Q:=iT (by kernel_rfl) h
def iz:Prop:=
 bH H 3 29 x0 λv1 t=>
 bH t 5 35 x2 λv2 w=>
 eg w 6 22 λe m=>
 aq m 29 v1 λq=>
 bJ true m 10 27 [q,x1] λp i=>
 kK p λd=>
 gQ d false (aD i 35 v2) λn=>
 gW d false i (fg true i 14 28 [n]) λu k=>
 gQ d false (rX u) λo=>
 ek d o λh=>
 br (some h) (
 pZ 22 λa=>
 aP k 22 e a λc f=>
 gD f e 22 λb=>
 Q (.tup [b,(.v (.int .i64 8))]) f) (
 aq k 35 v2 λa=>
 bJ true k 20 30 [x1,a] λc f=>
 aP f 22 e c λb l=>
 gD l e 22 λj=>
 Q (.tup [j,(.v (.int .i64 0))]) l)
theorem vw(h : ∀g:ef,iz x0 x1 x2 H Q):dX Tryz.f16 0 [(0,x0),(1,x1),(2,x2)] H Q:=iT (by kernel_rfl) h
def mv:Prop:=
 bH H 1 50 x0 λv1 i=>
 eg i 2 50 λv2 b=>
 ar 50 v1 6 λf=>
 aq b 48 f λh=>
 lQ (jn env.P true b (Ref.mk 0 5 (ai.gen b 0 5) 0) (some 48) (some 48) (.v (.slice none 0 0)) h) λe k=>
 ar 50 v1 6 λl=>
 aP k 48 l e λm c=>
 aq c 50 v1 λj=>
 aP c 50 v2 j λn d=>
 gD d v2 50 λa=>
 Q a d
theorem xH(h : ∀g:ef,mv x0 H Q):dX Tryz.f26 0 [(0,x0)] H Q:=iT (by kernel_rfl) h
noncomputable def iY:=rV Tryz.f27 4
def qX:Nat->Option (List Nat):=λi=>cond (Nat.beq i 4) (some [5,1,2]) (none)
def jY:Prop:=
 bH H 2 29 x0 λv1 c=>
 aq c 29 v1 λv2=>
 bJ true c 7 36 [v2] λe b=>
 kK e λa=>
 gQ a false (bg x1) λd=>
 gQ a false (zn b 11 31 d) λi=>
 gQ a false (zW 3 11 2048 i) λf=>
 ek a f λh=>
 br (some h) (
 Q (.v (.bool false)) b) (
  bB env Tryz.f27 0 iY [(5,(.v (.int .i64 0))),(1,x1),(2,v1)] b Q)
theorem yx(h : ∀g:ef,jY x0 x1 H Q):dX Tryz.f27 0 [(0,x0),(1,x1)] H Q:=tV qX (by kernel_rfl) h
def fP(g:Nat->AV)(c x1 x2:AV)(H:ai)(Q:AV->ai->Prop):Prop:=
 eR H 16 31 x1 λv1=>
 dG 3 14 16 c v1 λv2=>
 br (some v2) (
 bC H 31 x1 c λt=>
 aq H 56 t λu=>
 bJ false H 24 37 [u] λq b=>
 kK q λa=>
 gQ a false (aD b 29 x2) λo=>
 gQ a false (bg x1) λw=>
 gQ a false (bg c) λp=>
 gQ a false (iJ env.P (ai.get b) 31 (some w) (some none) (oi p) (some none)) λd=>
 gQ a false (bg x1) λl=>
 gQ a false (bg c) λj=>
 gQ a false (qF b 31 l j) λf=>
 gQ a false (aD b 56 f) λi=>
 gW a false b (fg false b 35 38 [o,d,i]) λm n=>
 gQ a false (rX m) λk=>
 ek a k λe=>
 br (some e) (
 Q (.v (.bool false)) n) (
 dz 3 18 1 c λh=>
  bB env Tryz.f27 0 iY [(5,h),(1,x1),(2,x2)] n Q)) (
 Q (.v (.bool true)) H)
theorem o6(a x1 x2:AV)(H:ai)(Q:AV->ai->Prop)(h : ∀g,fP g a x1 x2 H Q):bB env Tryz.f27 0 iY [(5,a),(1,x1),(2,x2)] H Q:=sc qX (by kernel_rfl) h
def mR:Prop:=
 bH H 1 35 x0 λv1 a=>
 ar 35 v1 0 λv2=>
 aq a 5 v2 λb=>
 hZ (bS env.P .leq 5 (Operand.tmp 4) (.const (.int .u8 15)) (some b) (some (a8 15))) λc=>
 Q c a
theorem qM(h : ∀g:ef,mR x0 H Q):dX Tryz.f28 0 [(0,x0)] H Q:=iT (by kernel_rfl) h
noncomputable def vf:Code:=(Tryz.f29.body).getD .skip
noncomputable def eu:=rV Tryz.f29 3
def od:Nat->Option (List Nat):=λi=>cond (Nat.beq i 3) (some [6,0,5,3]) (none)
def oA:Prop:=
 bH H 3 35 x1 λv1 a=>
  bB env Tryz.f29 0 eu [(6,(.v (.int .i64 0))),(0,x0),(5,(.v (.slice none 0 0))),(3,v1)] a Q
theorem uK(h : ∀g:ef,oA x0 x1 H Q):dX Tryz.f29 0 [(0,x0),(1,x1)] H Q:=tV od (by kernel_rfl) h
def dg(g:Nat->AV)(b x0 B w:AV)(H:ai)(Q:AV->ai->Prop):Prop:=
 eR H 9 31 x0 λv1=>
 dG 3 7 9 b v1 λv2=>
 br (some v2) (
 bC H 31 x0 b λK=>
 ar 56 K 0 λL=>
 aq H 5 L λF=>
 Sk 5 17 F λa=>
 gQ a true (bg x0) λJ=>
 gQ a true (bg b) λG=>
 gQ a true (qF H 31 J G) λE=>
 gQ a true (az 56 E 2) λe=>
 gQ a true (az 50 e 1) λx=>
 gQ a true (az 40 x 0) λh=>
 gQ a true (aD H 35 h) λn=>
 gQ a true (aD H 35 w) λv=>
 gW a true H (fg false H 28 39 [n,v]) λD c=>
 bG a D λi=>
 br (some i) (
 bC c 31 x0 b λd=>
 ar 56 d 2 λu=>
 ar 50 u 1 λt=>
 aq c 40 t λo=>
 bC c 31 x0 b λq=>
 ar 56 q 2 λk=>
 ar 50 k 2 λz=>
 aq c 3 z λf=>
 bC c 31 x0 b λm=>
 ar 56 m 3 λl=>
 aq c 23 l λA=>
 Ii 67 0 o 1 f 2 A λy=>
 Ps c 49 36 1 0 y λj M=>
 lL M 50 36 36 B j λC I=>
 dz 3 11 1 b λp=>
  bB env Tryz.f29 0 eu [(6,p),(0,x0),(5,C),(3,w)] I Q) (
 dz 3 11 1 b λd=>
  bB env Tryz.f29 0 eu [(6,d),(0,x0),(5,B),(3,w)] c Q)) (
 Q B H)
theorem ep(b x0 c a:AV)(H:ai)(Q:AV->ai->Prop)(h : ∀g,dg g b x0 c a H Q):bB env Tryz.f29 0 eu [(6,b),(0,x0),(5,c),(3,a)] H Q:=sc od (by kernel_rfl) h
noncomputable def bT:=rV Tryz.f30 3
def oc:Nat->Option (List Nat):=λi=>cond (Nat.beq i 3) (some [6,5,0,3,4]) (none)
def oz:Prop:=
 bH H 3 35 x1 λv1 c=>
 eg c 4 22 λv2 d=>
 eg d 5 22 λa b=>
  bB env Tryz.f30 0 bT [(6,(.v (.int .i64 0))),(5,a),(0,x0),(3,v1),(4,v2)] b Q
theorem uJ(h : ∀g:ef,oz x0 x1 H Q):dX Tryz.f30 0 [(0,x0),(1,x1)] H Q:=tV oc (by kernel_rfl) h
def cJ(g:Nat->AV)(d b x0 t p:AV)(H:ai)(Q:AV->ai->Prop):Prop:=
 eR H 9 31 x0 λv1=>
 dG 3 7 9 d v1 λv2=>
 br (some v2) (
 bC H 31 x0 d λG=>
 ar 56 G 0 λJ=>
 aq H 5 J λz=>
 B4 5 17 z λK=>
 br (some K) (
 rZ H 22 b 3 λD=>
 aq H 3 D λB=>
 dz 3 20 1 B λy=>
 rZ H 22 b 3 λf=>
 aP H 3 f y λu a=>
 dz 3 11 1 d λh=>
  bB env Tryz.f30 0 bT [(6,h),(5,b),(0,x0),(3,t),(4,p)] a Q) (
 bC H 31 x0 d λD=>
 ar 56 D 2 λB=>
 ar 50 B 1 λy=>
 ar 40 y 0 λf=>
 aq H 35 f λu=>
 aq H 35 t λh=>
 bJ false H 31 39 [u,h] λC a=>
 kK C λF=>
 br (some F) (
 dz 3 11 1 d λq=>
  bB env Tryz.f30 0 bT [(6,q),(5,b),(0,x0),(3,t),(4,p)] a Q) (
 bC a 31 x0 d λq=>
 ar 56 q 0 λA=>
 aq a 5 A λx=>
 vJ 5 37 x λE=>
 br (some E) (
 rZ a 22 b 0 λn=>
 aq a 3 n λl=>
 dz 3 40 1 l λm=>
 rZ a 22 b 0 λi=>
 aP a 3 i m λe w=>
 hZ (
  bS env.P .add 3 (Operand.tmp 11) (Operand.const (Value.int IntKind.i64 1)) (some d) (some (AV.v (Value.int IntKind.i64 1)))) λc=>
  bB env Tryz.f30 0 bT [(6,c),(5,b),(0,x0),(3,t),(4,p)] w Q) (
 bC a 31 x0 d λn=>
 ar 56 n 3 λl=>
 aq a 23 l λm=>
 uw 23 47 0 m λi=>
 br (some i) (
 rZ a 22 b 1 λe=>
 aq a 3 e λc=>
 dz 3 50 1 c λk=>
 rZ a 22 b 1 λj=>
 aP a 3 j k λI w=>
 dz 3 11 1 d λo=>
  bB env Tryz.f30 0 bT [(6,o),(5,b),(0,x0),(3,t),(4,p)] w Q) (
 rZ a 22 b 2 λe=>
 aq a 3 e λc=>
 dz 3 54 1 c λk=>
 rZ a 22 b 2 λj=>
 aP a 3 j k λI w=>
 dz 3 11 1 d λo=>
  bB env Tryz.f30 0 bT [(6,o),(5,b),(0,x0),(3,t),(4,p)] w Q))))) (
 aq H 22 b λG=>
 aP H 22 p G λJ a=>
 gD a p 22 λz=>
 Q z a)
theorem df(c d x0 a b:AV)(H:ai)(Q:AV->ai->Prop)(h : ∀g,cJ g c d x0 a b H Q):bB env Tryz.f30 0 bT [(6,c),(5,d),(0,x0),(3,a),(4,b)] H Q:=sc oc (by kernel_rfl) h
noncomputable def gP:=rV Tryz.f36 4
noncomputable def gO:=rV Tryz.f36 9
noncomputable def gq:=rV Tryz.f36 15
def iX:Nat->Option (List Nat):=λi=>cond (Nat.beq i 4) (some [3,1]) (cond (Nat.beq i 9) (some [4,1]) (cond (Nat.beq i 15) (some [6,1,5]) (none)))
def pG:Prop:=
 bH H 1 29 x0 λv1 c=>
 ar 29 v1 0 λv2=>
 aq c 26 v2 λp=>
 eR c 9 26 p λq=>
 B6 3 9 8 q λd=>
 gQ d false (az 29 v1 1) λo=>
 gQ d false (aD c 27 o) λm=>
 gQ d false (zn c 14 27 m) λt=>
 gQ d false (zW 3 14 8 t) λn=>
 ek d n λa=>
 gQ a false (az 29 v1 2) λk=>
 gQ a false (aD c 3 k) λi=>
 gQ a false (B5 3 19 0 i) λf=>
 ek a f λb=>
 gQ b false (az 29 v1 2) λl=>
 gQ b false (aD c 3 l) λj=>
 gQ b false (zW 3 24 64 j) λe=>
 ek b e λh=>
 br (some h) (
 Q (.v (.bool false)) c) (
  bB env Tryz.f36 0 gP [(3,(.v (.int .i64 0))),(1,v1)] c Q)
theorem wO(h : ∀g:ef,pG x0 H Q):dX Tryz.f36 0 [(0,x0)] H Q:=tV iX (by kernel_rfl) h
def kG(g:Nat->AV)(b x1:AV)(H:ai)(Q:AV->ai->Prop):Prop:=
 ar 29 x1 0 λv1=>
 aq H 26 v1 λv2=>
 eR H 30 26 v2 λj=>
 dG 3 27 30 b j λk=>
 br (some k) (
 ar 29 x1 0 λi=>
 aq H 26 i λh=>
 bC H 26 h b λe=>
 aq H 52 e λl=>
 bJ true H 39 46 [l] λf d=>
 kK f λa=>
 br (some a) (
 Q (.v (.bool false)) d) (
 dz 3 32 1 b λc=>
  bB env Tryz.f36 0 gP [(3,c),(1,x1)] d Q)) (
  bB env Tryz.f36 0 gO [(4,(.v (.int .i64 0))),(1,x1)] H Q)
theorem nV(a x1:AV)(H:ai)(Q:AV->ai->Prop)(h : ∀g,kG g a x1 H Q):bB env Tryz.f36 0 gP [(3,a),(1,x1)] H Q:=sc iX (by kernel_rfl) h
def hU(g:Nat->AV)(d x1:AV)(H:ai)(Q:AV->ai->Prop):Prop:=
 ar 29 x1 1 λv1=>
 aq H 27 v1 λv2=>
 eR H 44 27 v2 λJ=>
 dG 3 41 44 d J λK=>
 br (some K) (
 ar 29 x1 1 λF=>
 aq H 27 F λE=>
 bC H 27 E d λI=>
 aq H 76 I λG=>
 bJ false H 53 47 [G] λD c=>
 kK D λb=>
 gQ b false (bg d) λw=>
 gQ b false (zW 3 56 0 w) λh=>
 gQ b false (bg h) λa=>
 gQ a true (az 29 x1 1) λu=>
 gQ a true (aD c 27 u) λB=>
 gQ a true (bg d) λi=>
 gQ a true (Sp 3 61 1 i) λe=>
 gQ a true (qF c 27 B e) λt=>
 gQ a true (az 76 t 0) λq=>
 gQ a true (aD c 35 q) λn=>
 gQ a true (az 29 x1 1) λp=>
 gQ a true (aD c 27 p) λk=>
 gQ a true (bg d) λy=>
 gQ a true (qF c 27 k y) λf=>
 gQ a true (az 76 f 0) λm=>
 gQ a true (aD c 35 m) λl=>
 gW a true c (fg false c 72 48 [n,l]) λz C=>
 gQ a true (rX z) λx=>
 gQ b false (Ij a x) λj=>
 ek b j λA=>
 br (some A) (
 Q (.v (.bool false)) C) (
 dz 3 46 1 d λo=>
  bB env Tryz.f36 0 gO [(4,o),(1,x1)] C Q)) (
  bB env Tryz.f36 0 gq [(6,(.v (.int .i64 0))),(1,x1),(5,(.v (.int .i64 0)))] H Q)
theorem nU(a x1:AV)(H:ai)(Q:AV->ai->Prop)(h : ∀g,hU g a x1 H Q):bB env Tryz.f36 0 gO [(4,a),(1,x1)] H Q:=sc iX (by kernel_rfl) h
def kb(g:Nat->AV)(c x1 j:AV)(H:ai)(Q:AV->ai->Prop):Prop:=
 ar 29 x1 1 λv1=>
 aq H 27 v1 λv2=>
 eR H 79 27 v2 λk=>
 dG 3 76 79 c k λl=>
 br (some l) (
 ar 29 x1 1 λf=>
 aq H 27 f λe=>
 bC H 27 e c λb=>
 ar 76 b 3 λi=>
 aq H 3 i λd=>
 p4 3 83 89 j d λa=>
 dz 3 81 1 c λh=>
  bB env Tryz.f36 0 gq [(6,h),(1,x1),(5,a)] H Q) (
 aq H 29 x1 λf=>
 bJ true H 92 49 [f] λe m=>
 Sr 3 92 2048 e λb=>
 gQ b true (bg j) λi=>
 gQ b true (zo 3 95 8192 i) λd=>
 bG b d λa=>
 Q a m)
theorem nA(a x1 b:AV)(H:ai)(Q:AV->ai->Prop)(h : ∀g,kb g a x1 b H Q):bB env Tryz.f36 0 gq [(6,a),(1,x1),(5,b)] H Q:=sc iX (by kernel_rfl) h
def aY:Prop:=
 bH H 1 56 x0 λv1 l=>
 ar 56 v1 0 λv2=>
 aq l 5 v2 λI=>
 vJ 5 4 I λJ=>
 br (some J) (
 ar 56 v1 2 λE=>
 aq l 50 E λD=>
 bJ true l 8 50 [D] λz n=>
 gQ z true (az 56 v1 2) λF=>
 gQ z true (az 50 F 1) λC=>
 gQ z true (aD n 40 C) λx=>
 gW z true n (fg true n 13 51 [x]) λt m=>
 bG z t λe=>
 gQ e true (az 56 v1 1) λa=>
 gQ e true (aD m 3 a) λq=>
 gQ e true (vK 3 17 0 q) λw=>
 bG e w λf=>
 gQ f true (az 56 v1 1) λd=>
 gQ f true (aD m 3 d) λk=>
 gQ f true (zo 3 22 255 k) λp=>
 bG f p λi=>
 gQ i true (az 56 v1 3) λj=>
 gQ i true (aD m 23 j) λh=>
 gQ i true (qH 23 27 0 h) λu=>
 bG i u λb=>
 gQ b true (az 56 v1 4) λc=>
 gQ b true (aD m 54 c) λo=>
 gQ b true (Pn 54) λB=>
 gQ b true (jG 54 32 33 o B) λA=>
 bG b A λy=>
 Q y m) (
 ar 56 v1 1 λE=>
 aq l 3 E λD=>
 lW 3 37 0 D λz=>
 br (some z) (
 Q (.v (.bool false)) l) (
 ar 56 v1 0 λF=>
 aq l 5 F λC=>
 xg 5 40 C λx=>
 br (some x) (
 ar 56 v1 2 λt=>
 aq l 50 t λe=>
 bJ true l 44 52 [e] λa n=>
 gQ a true (az 56 v1 2) λq=>
 gQ a true (aD n 50 q) λw=>
 gW a true n (fg true n 48 53 [w]) λf m=>
 bG a f λd=>
 gQ d true (az 56 v1 3) λk=>
 gQ d true (aD m 23 k) λp=>
 gQ d true (vK 23 52 0 p) λi=>
 bG d i λj=>
 gQ j true (az 56 v1 3) λh=>
 gQ j true (aD m 23 h) λu=>
 gQ j true (B5 23 57 65536 u) λb=>
 bG j b λc=>
 gQ c true (az 56 v1 4) λo=>
 gQ c true (aD m 54 o) λB=>
 gQ c true (Pn 54) λA=>
 gQ c true (jG 54 62 63 B A) λy=>
 bG c y λG=>
 Q G m) (
 ar 56 v1 0 λt=>
 aq l 5 t λe=>
 B4 5 67 e λa=>
 gQ a true (az 56 v1 2) λq=>
 gQ a true (aD l 50 q) λw=>
 gQ a true (Pn 50) λf=>
 gW a true l (fg true l 73 40 [w,f]) λd n=>
 bG a d λk=>
 gQ k true (az 56 v1 3) λp=>
 gQ k true (aD n 23 p) λi=>
 gQ k true (qH 23 77 0 i) λj=>
 bG k j λh=>
 gQ h true (az 56 v1 4) λu=>
 gQ h true (aD n 54 u) λb=>
 gW h true n (fg true n 83 54 [b]) λc m=>
 bG h c λo=>
 Q o m)))
theorem yC(h : ∀g:ef,aY x0 H Q):dX Tryz.f37 0 [(0,x0)] H Q:=iT (by kernel_rfl) h
def bf:Prop:=
 bH H 3 29 x0 λv1 H1=>
 bH H1 5 56 x2 λv2 H2=>
 aq H2 29 v1 λv3=>
 bJ true H2 14 55 [v3,x1] λv4 H3=>
 eg H3 7 29 λN H4=>
 aP H4 29 N v4 λv6 K=>
 ar 56 v2 0 λv7=>
 aq K 5 v7 λv8=>
 B4 5 16 v8 λv9=>
 br (some v9) (
 aq K 29 N λw=>
 ar 56 v2 4 λF=>
 aq K 54 F λp=>
 bJ true K 22 56 [w,p] λn H6=>
 bL n 0 λf=>
 bL n 1 λM=>
 eg H6 8 29 λy O=>
 aP O 29 y f λL H8=>
 uw 3 25 0 M λD=>
 Q D H8) (
 ar 56 v2 2 λw=>
 ar 50 w 1 λF=>
 ar 40 F 0 λp=>
 aq K 35 p λn=>
 eg K 10 35 λf H6=>
 aP H6 35 f n λM O=>
 ar 56 v2 2 λy=>
 ar 50 y 1 λL=>
 aq O 40 L λD=>
 bJ true O 35 57 [x1,D] λY H8=>
 eg H8 11 119 λm H9=>
 aP H9 119 m Y λv21 a=>
 ar 56 v2 0 λv22=>
 aq a 5 v22 λv23=>
 vJ 5 37 v23 λU=>
 br (some U) (
 ar 119 m 0 λu=>
 aq a 4 u λj=>
 kK j λk=>
 gQ k true (aD a 29 N) λG=>
 gQ k true (az 56 v2 1) λz=>
 gQ k true (aD a 3 z) λJ=>
 gQ k true (aD a 35 f) λC=>
 gW k true a (fg false a 47 58 [G,J,C]) λd i=>
 bG k d λc=>
 gQ c true (bg x1) λt=>
 gQ c true (aD i 35 f) λE=>
 gW c true i (fg false i 52 59 [t,E]) λA h=>
 gQ c true (B2 76 A 1) λv=>
 gQ c true (aD h 29 v1) λq=>
 gQ c true (aD h 35 f) λx=>
 gW c true h (fg false h 56 60 [q,x]) λb l=>
 gQ c true (B2 76 b 1) λI=>
 gQ c true (Fb 3 53 57 v I) λB=>
 bG c B λo=>
 Q o l) (
 ar 119 m 0 λu=>
 aq a 4 u λj=>
 gQ j true (aD a 29 N) λk=>
 gQ j true (az 119 m 1) λG=>
 gQ j true (aD a 3 G) λz=>
 gQ j true (aD a 35 f) λJ=>
 gW j true a (fg false a 67 58 [k,z,J]) λC i=>
 bG j C λd=>
 gQ d true (az 56 v2 2) λc=>
 gQ d true (az 50 c 2) λt=>
 gQ d true (aD i 3 t) λE=>
 gQ d true (az 119 m 2) λA=>
 gQ d true (aD i 3 A) λv=>
 gQ d true (XK 3 74 1 v) λq=>
 gQ d true (jG 3 72 75 E q) λx=>
 bG d x λb=>
 gQ b true (bg x1) λI=>
 gQ b true (aD i 35 f) λB=>
 gW b true i (fg false i 81 59 [I,B]) λo h=>
 gQ b true (B2 76 o 2) λT=>
 gQ b true (aD h 29 v1) λR=>
 gQ b true (aD h 35 f) λV=>
 gW b true h (fg false h 85 60 [R,V]) λv47 l=>
 gQ b true (B2 76 v47 2) λP=>
 gQ b true (Fb 3 82 86 T P) λS=>
 bG b S λe=>
 gQ e true (az 56 v2 3) λv51=>
 gQ e true (aD l 23 v51) λv52=>
 gQ e true (aD l 29 v1) λv53=>
 gQ e true (bg x1) λv54=>
 gQ e true (az 56 v2 2) λv55=>
 gQ e true (aD l 50 v55) λv56=>
 gW e true l (fg false l 96 61 [v53,v54,v56]) λv57 X=>
 gQ e true (jG 3 91 96 v52 v57) λZ=>
 bG e Z λW=>
 Q W X))
theorem xy(h : ∀g:ef,bf x0 x1 x2 H Q):dX Tryz.f38 0 [(0,x0),(1,x1),(2,x2)] H Q:=iT (by kernel_rfl) h
noncomputable def jc:=rV Tryz.f39 2
def q0:Nat->Option (List Nat):=λi=>cond (Nat.beq i 2) (some [5,3,2]) (none)
def rR:Prop:=
 bH H 2 35 x0 λv1 a=>
 bH a 3 35 x1 λv2 b=>
  bB env Tryz.f39 0 jc [(5,(.v (.int .i64 0))),(3,v2),(2,v1)] b Q
theorem yK(h : ∀g:ef,rR x0 x1 H Q):dX Tryz.f39 0 [(0,x0),(1,x1)] H Q:=tV q0 (by kernel_rfl) h
def lK(g:Nat->AV)(b f x2:AV)(H:ai)(Q:AV->ai->Prop):Prop:=
 Fh 3 6 32 b λv1=>
 br (some v1) (
 aq H 35 x2 λv2=>
 bJ true H 12 62 [v2,b] λa h=>
 gQ a true (aD h 35 f) λe=>
 gQ a true (bg b) λd=>
 gW a true h (fg true h 16 62 [e,d]) λc i=>
 gQ a true (rX c) λj=>
 bG a j λl=>
 br (some l) (
 Q (.v (.bool false)) i) (
 dz 3 8 1 b λk=>
  bB env Tryz.f39 0 jc [(5,k),(3,f),(2,x2)] i Q)) (
 ar 35 x2 0 λv2=>
 aq H 5 v2 λa=>
 ar 35 f 0 λe=>
 aq H 5 e λd=>
 hZ (bS env.P .leq 5 (Operand.tmp 20) (Operand.tmp 22) (some a) (some d)) λc=>
 Q c H)
theorem pb(b a x2:AV)(H:ai)(Q:AV->ai->Prop)(h : ∀g,lK g b a x2 H Q):bB env Tryz.f39 0 jc [(5,b),(3,a),(2,x2)] H Q:=sc q0 (by kernel_rfl) h
def nJ:Prop:=
 bH H 1 52 x0 λv1 i=>
 ar 52 v1 0 λv2=>
 aq i 35 v2 λk=>
 bJ true i 5 28 [k] λa h=>
 gQ a true (az 52 v1 1) λj=>
 gQ a true (aD h 4 j) λn=>
 gQ a true (bg n) λb=>
 gQ b false (az 52 v1 0) λm=>
 gQ b false (aD h 35 m) λl=>
 gQ b false (Pn 35) λc=>
 gQ b false (jG 35 11 12 l c) λf=>
 gQ a true (KN b f) λd=>
 bG a d λe=>
 Q e h
theorem tU(h : ∀g:ef,nJ x0 H Q):dX Tryz.f46 0 [(0,x0)] H Q:=iT (by kernel_rfl) h
def rM:Prop:=
 bH H 1 76 x0 λv1 z=>
 ar 76 v1 0 λv2=>
 aq z 35 v2 λE=>
 bJ true z 5 28 [E] λf e=>
 gQ f true (az 76 v1 1) λD=>
 gQ f true (aD e 3 D) λC=>
 gQ f true (vK 3 8 0 C) λA=>
 bG f A λh=>
 gQ h true (az 76 v1 1) λB=>
 gQ h true (aD e 3 B) λi=>
 gQ h true (zo 3 13 64 i) λq=>
 bG h q λc=>
 gQ c true (az 76 v1 2) λk=>
 gQ c true (aD e 3 k) λo=>
 gQ c true (vK 3 18 0 o) λx=>
 bG c x λd=>
 gQ d true (az 76 v1 2) λj=>
 gQ d true (aD e 3 j) λn=>
 gQ d true (zo 3 23 256 n) λm=>
 bG d m λa=>
 gQ a true (az 76 v1 3) λl=>
 gQ a true (aD e 3 l) λp=>
 gQ a true (vK 3 28 0 p) λv=>
 bG a v λb=>
 gQ b true (az 76 v1 3) λy=>
 gQ b true (aD e 3 y) λt=>
 gQ b true (zo 3 33 4096 t) λw=>
 bG b w λu=>
 Q u e
theorem yF(h : ∀g:ef,rM x0 H Q):dX Tryz.f47 0 [(0,x0)] H Q:=iT (by kernel_rfl) h
def pI:Prop:=
 bH H 2 35 x0 λv1 u=>
 bH u 3 35 x1 λv2 a=>
 ar 35 v1 0 λq=>
 aq a 5 q λt=>
 p5 a 7 5 3 t λp=>
 XQ 3 7 4294967296 p λo=>
 ar 35 v1 1 λm=>
 aq a 33 m λv=>
 p5 a 11 33 3 v λn=>
 p4 3 8 11 o n λb=>
 ar 35 v2 0 λk=>
 aq a 5 k λi=>
 p5 a 15 5 3 i λd=>
 XQ 3 15 4294967296 d λh=>
 ar 35 v2 1 λl=>
 aq a 33 l λj=>
 p5 a 19 33 3 j λc=>
 p4 3 16 19 h c λf=>
 dG 3 12 20 b f λe=>
 Q e a
theorem wS(h : ∀g:ef,pI x0 x1 H Q):dX Tryz.f48 0 [(0,x0),(1,x1)] H Q:=iT (by kernel_rfl) h
noncomputable def ja:=rV Tryz.f49 3
def qY:Nat->Option (List Nat):=λi=>cond (Nat.beq i 3) (some [4,1,3]) (none)
def rN:Prop:=
 bH H 1 29 x0 λv1 a=>
 ar 29 v1 2 λv2=>
 aq a 3 v2 λb=>
  bB env Tryz.f49 0 ja [(4,(.v (.int .i64 0))),(1,v1),(3,b)] a Q
theorem yG(h : ∀g:ef,rN x0 H Q):dX Tryz.f49 0 [(0,x0)] H Q:=tV qY (by kernel_rfl) h
def lH(g:Nat->AV)(a x1 l:AV)(H:ai)(Q:AV->ai->Prop):Prop:=
 ar 29 x1 1 λv1=>
 aq H 27 v1 λv2=>
 eR H 10 27 v2 λq=>
 dG 3 7 10 a q λt=>
 br (some t) (
 ar 29 x1 1 λp=>
 aq H 27 p λo=>
 bC H 27 o a λm=>
 ar 76 m 1 λu=>
 aq H 3 u λn=>
 p4 3 14 20 l n λb=>
 ar 29 x1 1 λj=>
 aq H 27 j λh=>
 bC H 27 h a λd=>
 ar 76 d 2 λf=>
 aq H 3 f λk=>
 Sq 3 4 27 k λi=>
 p4 3 21 28 b i λc=>
 dz 3 12 1 a λe=>
  bB env Tryz.f49 0 ja [(4,e),(1,x1),(3,c)] H Q) (
 Q l H)
theorem o9(b x1 a:AV)(H:ai)(Q:AV->ai->Prop)(h : ∀g,lH g b x1 a H Q):bB env Tryz.f49 0 ja [(4,b),(1,x1),(3,a)] H Q:=sc qY (by kernel_rfl) h
def qp:Prop:=
 bH H 1 50 x0 λv1 e=>
 pZ 40 λv2=>
 ar 50 v1 1 λc=>
 aP e 40 c v2 λi a=>
 aq a 50 v1 λb=>
 pZ 50 λh=>
 bJ true a 7 40 [b,h] λd f=>
 Q d f
theorem xD(h : ∀g:ef,qp x0 H Q):dX Tryz.f50 0 [(0,x0)] H Q:=iT (by kernel_rfl) h
def m7:Prop:=
 bH H 1 40 x0 λv1 b=>
 ar 40 v1 0 λv2=>
 aq b 35 v2 λe=>
 bJ true b 5 28 [e] λa c=>
 gQ a true (az 40 v1 1) λd=>
 gQ a true (aD c 5 d) λi=>
 gQ a true (bS env.P .lss 5 (Operand.tmp 8) (.const (.int .u8 8)) (some i) (some (a8 8))) λf=>
 bG a f λh=>
 Q h c
theorem tD(h : ∀g:ef,m7 x0 H Q):dX Tryz.f51 0 [(0,x0)] H Q:=iT (by kernel_rfl) h
def aT:Prop:=
 bH H 1 50 x0 λv1 H1=>
 ar 50 v1 1 λv2=>
 aq H1 40 v2 λv3=>
 bJ true H1 6 51 [v3] λv4 I=>
 kK v4 λK=>
 gQ K false (az 50 v1 2) λv6=>
 gQ K false (aD I 3 v6) λv7=>
 gQ K false (B5 3 10 1 v7) λv8=>
 ek K v8 λJ=>
 gQ J false (az 50 v1 2) λL=>
 gQ J false (aD I 3 L) λv11=>
 gQ J false (vK 3 15 16777216 v11) λR=>
 ek J R λi=>
 gQ i false (az 50 v1 3) λv14=>
 gQ i false (aD I 47 v14) λv15=>
 gW i false I (fg true I 21 83 [v15]) λS m=>
 gQ i false (rX S) λM=>
 ek i M λY=>
 br (some Y) (
 Q (.v (.bool false)) m) (
 ar 50 v1 5 λX=>
 aq m 35 X λV=>
 pZ 35 λW=>
 qG 35 25 26 V W λe=>
 ar 50 v1 0 λv23=>
 aq m 5 v23 λO=>
 vJ 5 29 O λU=>
 br (some U) (
 gQ e true (az 50 v1 4) λw=>
 gQ e true (aD m 45 w) λE=>
 gW e true m (fg true m 35 84 [E]) λD h=>
 gQ e true (bg D) λa=>
 gQ a false (az 50 v1 4) λG=>
 gQ a false (aD h 45 G) λz=>
 gW a false h (fg true h 39 85 [z]) λu k=>
 gQ e true (KN a u) λB=>
 bG e B λc=>
 gQ c true (az 50 v1 3) λC=>
 gQ c true (az 47 C 0) λx=>
 gQ c true (az 45 x 0) λl=>
 gQ c true (aD k 40 l) λy=>
 gQ c true (az 50 v1 1) λd=>
 gQ c true (aD k 40 d) λt=>
 gQ c true (jG 40 46 48 y t) λF=>
 bG c F λb=>
 gQ b true (az 50 v1 6) λf=>
 gQ b true (aD k 48 f) λp=>
 gQ b true (zn k 54 48 p) λo=>
 gQ b true (az 50 v1 3) λq=>
 gQ b true (az 47 q 1) λA=>
 gQ b true (aD k 3 A) λn=>
 gQ b true (jG 3 54 57 o n) λN=>
 bG b N λj=>
 gQ j true (az 50 v1 6) λZ=>
 gQ j true (aD k 48 Z) λT=>
 gW j true k (fg true k 63 86 [T]) λv53 H6=>
 gQ j true (qH 3 63 0 v53) λv54=>
 bG j v54 λv55=>
 Q v55 H6) (
 ar 50 v1 4 λw=>
 aq m 45 w λE=>
 bJ true m 68 84 [E] λD h=>
 kK D λa=>
 gQ a false (az 50 v1 6) λG=>
 gQ a false (aD h 48 G) λz=>
 gQ a false (zn h 73 48 z) λu=>
 gQ a false (zW 3 73 0 u) λB=>
 ek a B λc=>
 br (some c) (
 Q (.v (.bool false)) h) (
 ar 50 v1 0 λC=>
 aq h 5 C λx=>
 xg 5 77 x λl=>
 gQ l true (bg e) λy=>
 bG l y λd=>
 gQ d false (az 50 v1 0) λt=>
 gQ d false (aD h 5 t) λF=>
 gQ d false (bS env.P .eql 5 (Operand.tmp 84) (.const (.int .u8 3)) (some F) (some (a8 3))) λb=>
 gQ d false (bg b) λf=>
 gQ f true (az 50 v1 5) λp=>
 gQ f true (aD h 35 p) λo=>
 gW f true h (fg true h 89 28 [o]) λq k=>
 gQ d false (Ij f q) λA=>
 ek d A λn=>
 Q n k)))
theorem yD(h : ∀g:ef,aT x0 H Q):dX Tryz.f52 0 [(0,x0)] H Q:=iT (by kernel_rfl) h
noncomputable def gN:=rV Tryz.f53 2
def pq:Nat->Option (List Nat):=λi=>cond (Nat.beq i 2) (some [3,1]) (none)
def pF:Prop:=
 bH H 1 50 x0 λv1 a=>
  bB env Tryz.f53 0 gN [(3,(.v (.int .i64 0))),(1,v1)] a Q
theorem wN(h : ∀g:ef,pF x0 H Q):dX Tryz.f53 0 [(0,x0)] H Q:=tV pq (by kernel_rfl) h
def gZ(g:Nat->AV)(b x1:AV)(H:ai)(Q:AV->ai->Prop):Prop:=
 ar 50 x1 6 λv1=>
 aq H 48 v1 λv2=>
 eR H 7 48 v2 λh=>
 dG 3 4 7 b h λi=>
 br (some i) (
 ar 50 x1 6 λf=>
 aq H 48 f λe=>
 bC H 48 e b λc=>
 aq H 21 c λj=>
 hZ (bS env.P .eql 21 (Operand.tmp 15) (.const (.int .i32 (-1))) (some j) (some (.v (.int .i32 (-1))))) λd=>
 br (some d) (
 Q (.v (.bool false)) H) (
 dz 3 9 1 b λa=>
  bB env Tryz.f53 0 gN [(3,a),(1,x1)] H Q)) (
 Q (.v (.bool true)) H)
theorem nT(a x1:AV)(H:ai)(Q:AV->ai->Prop)(h : ∀g,gZ g a x1 H Q):bB env Tryz.f53 0 gN [(3,a),(1,x1)] H Q:=sc pq (by kernel_rfl) h
def rL:Prop:=
 bH H 1 54 x0 λv1 a=>
 ar 54 v1 0 λv2=>
 aq a 3 v2 λi=>
 vM 3 4 0 i λb=>
 gQ b true (az 54 v1 0) λh=>
 gQ b true (aD a 3 h) λm=>
 gQ b true (B5 3 8 8 m) λj=>
 bG b j λc=>
 gQ c true (az 54 v1 1) λl=>
 gQ c true (aD a 52 l) λd=>
 gW c true a (fg true a 14 46 [d]) λf k=>
 bG c f λe=>
 Q e k
theorem yE(h : ∀g:ef,rL x0 H Q):dX Tryz.f54 0 [(0,x0)] H Q:=iT (by kernel_rfl) h
noncomputable def y9:Code:=(Tryz.f55.body).getD .skip
noncomputable def fJ:=rV Tryz.f55 2
def qW:Nat->Option (List Nat):=λi=>cond (Nat.beq i 2) (some [5,2,1,4]) (none)
def rJ:Prop:=
 bH H 2 29 x0 λv1 a=>
 eg a 4 29 λv2 b=>
  bB env Tryz.f55 0 fJ [(5,(.v (.int .i64 0))),(2,v1),(1,x1),(4,v2)] b Q
theorem yw(h : ∀g:ef,rJ x0 x1 H Q):dX Tryz.f55 0 [(0,x0),(1,x1)] H Q:=tV qW (by kernel_rfl) h
def fO(g:Nat->AV)(b x2 x1 d:AV)(H:ai)(Q:AV->ai->Prop):Prop:=
 eR H 8 31 x1 λv1=>
 dG 3 6 8 b v1 λv2=>
 br (some v2) (
 bC H 31 x1 b λi=>
 ar 56 i 0 λl=>
 aq H 5 l λh=>
 B4 5 16 h λp=>
 br (some p) (
 aq H 29 x2 λf=>
 bC H 31 x1 b λq=>
 ar 56 q 4 λn=>
 aq H 54 n λe=>
 bJ false H 25 56 [f,e] λa c=>
 bL a 0 λj=>
 bL a 1 λm=>
 aP c 29 x2 j λo t=>
 dz 3 10 1 b λk=>
  bB env Tryz.f55 0 fJ [(5,k),(2,x2),(1,x1),(4,d)] t Q) (
 dz 3 10 1 b λf=>
  bB env Tryz.f55 0 fJ [(5,f),(2,x2),(1,x1),(4,d)] H Q)) (
 aq H 29 x2 λi=>
 aP H 29 d i λl c=>
 gD c d 29 λh=>
 Q h c)
theorem iS(b x2 x1 a:AV)(H:ai)(Q:AV->ai->Prop)(h : ∀g,fO g b x2 x1 a H Q):bB env Tryz.f55 0 fJ [(5,b),(2,x2),(1,x1),(4,a)] H Q:=sc qW (by kernel_rfl) h
def fx:Prop:=
 bH H 2 29 x0 λv1 I=>
 bH I 3 54 x1 λv2 R=>
 eg R 4 29 λf a=>
 ar 54 v2 0 λL=>
 aq a 3 L λG=>
 ar 29 v1 0 λF=>
 aq a 26 F λK=>
 eR a 10 26 K λJ=>
 hZ (bS env.P .geq 3 (Operand.tmp 7) (Operand.tmp 10) (some G) (some J)) λE=>
 br (some E) (
 aq a 29 v1 λb=>
 aP a 29 f b λj e=>
 gD e f 29 λc=>
 Q (.tup [c,(.v (.int .i64 2))]) e) (
 ar 29 v1 2 λb=>
 aq a 3 b λj=>
 uw 3 14 0 j λc=>
 br (some c) (
 aq a 29 v1 λd=>
 aP a 29 f d λh e=>
 gD e f 29 λk=>
 Q (.tup [k,(.v (.int .i64 9))]) e) (
 aq a 29 v1 λd=>
 bJ true a 18 87 [d] λh e=>
 aP e 29 v1 h λk i=>
 ar 29 v1 0 λn=>
 aq i 26 n λl=>
 ar 54 v2 0 λz=>
 aq i 3 z λy=>
 ar 54 v2 1 λu=>
 aq i 52 u λw=>
 bC i 26 l y λp=>
 aP i 52 p w λN C=>
 ar 29 v1 2 λm=>
 aq C 3 m λt=>
 Fg 3 27 1 t λq=>
 ar 29 v1 2 λA=>
 aP C 3 A q λM D=>
 aq D 29 v1 λo=>
 aP D 29 f o λO B=>
 gD B f 29 λx=>
 Q (.tup [x,(.v (.int .i64 0))]) B))
theorem kR(h : ∀g:ef,fx x0 x1 H Q):dX Tryz.f56 0 [(0,x0),(1,x1)] H Q:=iT (by kernel_rfl) h
noncomputable def cV:=rV Tryz.f57 3
def sg:Nat->Option (List Nat):=λi=>cond (Nat.beq i 3) (some [6,5,0,3,4]) (none)
def so:Prop:=
 bH H 3 40 x1 λv1 c=>
 eg c 4 119 λv2 d=>
 eg d 5 119 λa b=>
  bB env Tryz.f57 0 cV [(6,(.v (.int .i64 0))),(5,a),(0,x0),(3,v1),(4,v2)] b Q
theorem zN(h : ∀g:ef,so x0 x1 H Q):dX Tryz.f57 0 [(0,x0),(1,x1)] H Q:=tV sg (by kernel_rfl) h
def eP(g:Nat->AV)(a b x0 t p:AV)(H:ai)(Q:AV->ai->Prop):Prop:=
 eR H 9 31 x0 λv1=>
 dG 3 7 9 a v1 λv2=>
 br (some v2) (
 bC H 31 x0 a λF=>
 ar 56 F 2 λL=>
 ar 50 L 1 λB=>
 aq H 40 B λM=>
 aq H 40 t λS=>
 xf 40 18 19 M S λO=>
 br (some O) (
 dz 3 11 1 a λz=>
  bB env Tryz.f57 0 cV [(6,z),(5,b),(0,x0),(3,t),(4,p)] H Q) (
 bC H 31 x0 a λz=>
 ar 56 z 0 λy=>
 aq H 5 y λG=>
 vJ 5 25 G λA=>
 br (some A) (
 ar 119 b 0 λk=>
 lQ (nc env.P H 4 (some k) (some (AV.v (Value.bool true)))) λx e=>
 bC e 31 x0 a λq=>
 ar 56 q 1 λh=>
 aq e 3 h λc=>
 ar 119 b 1 λn=>
 aP e 3 n c λw f=>
 bC f 31 x0 a λl=>
 ar 56 l 0 λm=>
 aq f 5 m λi=>
 xg 5 38 i λo=>
 br (some o) (
 ar 119 b 2 λd=>
 aq f 3 d λu=>
 bC f 31 x0 a λj=>
 ar 56 j 2 λJ=>
 ar 50 J 2 λI=>
 aq f 3 I λC=>
 KO f 48 3 3 u C λK=>
 ar 119 b 2 λD=>
 aP f 3 D K λN R=>
 hZ (
  bS env.P .add 3 (Operand.tmp 11) (Operand.const (Value.int IntKind.i64 1)) (some a) (some (AV.v (Value.int IntKind.i64 1)))) λE=>
  bB env Tryz.f57 0 cV [(6,E),(5,b),(0,x0),(3,t),(4,p)] R Q) (
 hZ (
  bS env.P .add 3 (Operand.tmp 11) (Operand.const (Value.int IntKind.i64 1)) (some a) (some (AV.v (Value.int IntKind.i64 1)))) λd=>
  bB env Tryz.f57 0 cV [(6,d),(5,b),(0,x0),(3,t),(4,p)] f Q)) (
 bC H 31 x0 a λk=>
 ar 56 k 0 λx=>
 aq H 5 x λq=>
 xg 5 38 q λh=>
 br (some h) (
 ar 119 b 2 λc=>
 aq H 3 c λn=>
 bC H 31 x0 a λw=>
 ar 56 w 2 λl=>
 ar 50 l 2 λm=>
 aq H 3 m λi=>
 KO H 48 3 3 n i λo=>
 ar 119 b 2 λd=>
 aP H 3 d o λu e=>
 hZ (
  bS env.P .add 3 (Operand.tmp 11) (Operand.const (Value.int IntKind.i64 1)) (some a) (some (AV.v (Value.int IntKind.i64 1)))) λj=>
  bB env Tryz.f57 0 cV [(6,j),(5,b),(0,x0),(3,t),(4,p)] e Q) (
 hZ (
  bS env.P .add 3 (Operand.tmp 11) (Operand.const (Value.int IntKind.i64 1)) (some a) (some (AV.v (Value.int IntKind.i64 1)))) λc=>
  bB env Tryz.f57 0 cV [(6,c),(5,b),(0,x0),(3,t),(4,p)] H Q)))) (
 aq H 119 b λF=>
 aP H 119 p F λL e=>
 gD e p 119 λB=>
 Q B e)
theorem ga(c d x0 a b:AV)(H:ai)(Q:AV->ai->Prop)(h : ∀g,eP g c d x0 a b H Q):bB env Tryz.f57 0 cV [(6,c),(5,d),(0,x0),(3,a),(4,b)] H Q:=sc sg (by kernel_rfl) h
def lI:Prop:=
 bH H 3 29 x0 λv1 A=>
 bH A 5 35 x2 λv2 b=>
 vM 3 7 0 x1 λd=>
 gQ d true (bg x1) λz=>
 gQ d true (az 29 v1 0) λy=>
 gQ d true (aD b 26 y) λx=>
 gQ d true (zn b 13 26 x) λw=>
 gQ d true (Fb 3 10 13 z w) λB=>
 bG d B λc=>
 gQ c true (az 29 v1 0) λe=>
 gQ c true (aD b 26 e) λq=>
 gQ c true (bg x1) λo=>
 gQ c true (qF b 26 q o) λh=>
 gQ c true (az 52 h 1) λn=>
 gQ c true (aD b 4 n) λu=>
 bG c u λa=>
 gQ a true (aD b 35 v2) λf=>
 gQ a true (az 29 v1 0) λl=>
 gQ a true (aD b 26 l) λk=>
 gQ a true (bg x1) λi=>
 gQ a true (qF b 26 k i) λj=>
 gQ a true (az 52 j 0) λp=>
 gQ a true (aD b 35 p) λt=>
 gW a true b (fg false b 32 39 [f,t]) λm C=>
 bG a m λv=>
 Q v C
theorem wP(h : ∀g:ef,lI x0 x1 x2 H Q):dX Tryz.f58 0 [(0,x0),(1,x1),(2,x2)] H Q:=iT (by kernel_rfl) h
noncomputable def bo:=rV Tryz.f59 3
def pj:Nat->Option (List Nat):=λi=>cond (Nat.beq i 3) (some [6,5,0,3,4]) (none)
def pC:Prop:=
 bH H 3 35 x1 λv1 f=>
 eg f 4 76 λv2 b=>
 aq b 35 v1 λc=>
 Eh 76 0 c λd=>
 eg b 5 76 λa h=>
 aP h 76 a d λi e=>
  bB env Tryz.f59 0 bo [(6,(.v (.int .i64 0))),(5,a),(0,x0),(3,v1),(4,v2)] e Q
theorem wI(h : ∀g:ef,pC x0 x1 H Q):dX Tryz.f59 0 [(0,x0),(1,x1)] H Q:=tV pj (by kernel_rfl) h
def cw(g:Nat->AV)(d i x0 P N:AV)(H:ai)(Q:AV->ai->Prop):Prop:=
 eR H 11 31 x0 λv1=>
 dG 3 9 11 d v1 λv2=>
 br (some v2) (
 bC H 31 x0 d λv3=>
 ar 56 v3 2 λv4=>
 ar 50 v4 1 λv5=>
 ar 40 v5 0 λv6=>
 aq H 35 v6 λv7=>
 aq H 35 P λv8=>
 xf 35 21 22 v7 v8 λv9=>
 br (some v9) (
 dz 3 13 1 d λW=>
  bB env Tryz.f59 0 bo [(6,W),(5,i),(0,x0),(3,P),(4,N)] H Q) (
 bC H 31 x0 d λW=>
 ar 56 W 0 λv11=>
 aq H 5 v11 λZ=>
 vJ 5 28 Z λv13=>
 br (some v13) (
 ar 76 i 1 λU=>
 aq H 3 U λV=>
 dz 3 31 1 V λX=>
 ar 76 i 1 λT=>
 aP H 3 T X λS c=>
 bC c 31 x0 d λL=>
 ar 56 L 0 λK=>
 aq c 5 K λj=>
 xg 5 38 j λR=>
 br (some R) (
 ar 76 i 2 λv=>
 aq c 3 v λq=>
 dz 3 41 1 q λu=>
 ar 76 i 2 λb=>
 aP c 3 b u λG w=>
 bC w 31 x0 d λf=>
 ar 56 f 0 λz=>
 aq w 5 z λE=>
 xg 5 48 E λh=>
 gQ h true (bg x0) λA=>
 gQ h true (bg d) λa=>
 gQ h true (qF w 31 A a) λt=>
 gQ h true (az 56 t 3) λC=>
 gQ h true (aD w 23 C) λB=>
 gQ h true (qH 23 55 0 B) λl=>
 bG h l λe=>
 gQ e true (bg x0) λx=>
 gQ e true (bg d) λy=>
 gQ e true (qF w 31 x y) λD=>
 gQ e true (az 56 D 2) λk=>
 gQ e true (az 50 k 0) λn=>
 gQ e true (aD w 5 n) λp=>
 gQ e true (Pr 5 64 p) λo=>
 bG e o λF=>
 br (some F) (
 ar 76 i 3 λm=>
 aq w 3 m λI=>
 bC w 31 x0 d λJ=>
 ar 56 J 2 λM=>
 ar 50 M 3 λY=>
 ar 47 Y 1 λO=>
 aq w 3 O λv53=>
 p4 3 68 75 I v53 λv54=>
 ar 76 i 3 λv55=>
 aP w 3 v55 v54 λv56 H3=>
 dz 3 13 1 d λv57=>
  bB env Tryz.f59 0 bo [(6,v57),(5,i),(0,x0),(3,P),(4,N)] H3 Q) (
 dz 3 13 1 d λm=>
  bB env Tryz.f59 0 bo [(6,m),(5,i),(0,x0),(3,P),(4,N)] w Q)) (
 bC c 31 x0 d λv=>
 ar 56 v 0 λq=>
 aq c 5 q λu=>
 xg 5 48 u λb=>
 gQ b true (bg x0) λG=>
 gQ b true (bg d) λf=>
 gQ b true (qF c 31 G f) λz=>
 gQ b true (az 56 z 3) λE=>
 gQ b true (aD c 23 E) λh=>
 gQ b true (qH 23 55 0 h) λA=>
 bG b A λa=>
 gQ a true (bg x0) λt=>
 gQ a true (bg d) λC=>
 gQ a true (qF c 31 t C) λB=>
 gQ a true (az 56 B 2) λl=>
 gQ a true (az 50 l 0) λe=>
 gQ a true (aD c 5 e) λx=>
 gQ a true (Pr 5 64 x) λy=>
 bG a y λD=>
 br (some D) (
 ar 76 i 3 λk=>
 aq c 3 k λn=>
 bC c 31 x0 d λp=>
 ar 56 p 2 λo=>
 ar 50 o 3 λF=>
 ar 47 F 1 λm=>
 aq c 3 m λI=>
 p4 3 68 75 n I λJ=>
 ar 76 i 3 λM=>
 aP c 3 M J λY w=>
 dz 3 13 1 d λO=>
  bB env Tryz.f59 0 bo [(6,O),(5,i),(0,x0),(3,P),(4,N)] w Q) (
 dz 3 13 1 d λk=>
  bB env Tryz.f59 0 bo [(6,k),(5,i),(0,x0),(3,P),(4,N)] c Q))) (
 bC H 31 x0 d λU=>
 ar 56 U 0 λV=>
 aq H 5 V λX=>
 xg 5 38 X λT=>
 br (some T) (
 ar 76 i 2 λS=>
 aq H 3 S λL=>
 dz 3 41 1 L λK=>
 ar 76 i 2 λj=>
 aP H 3 j K λR c=>
 bC c 31 x0 d λv=>
 ar 56 v 0 λq=>
 aq c 5 q λu=>
 xg 5 48 u λb=>
 gQ b true (bg x0) λG=>
 gQ b true (bg d) λf=>
 gQ b true (qF c 31 G f) λz=>
 gQ b true (az 56 z 3) λE=>
 gQ b true (aD c 23 E) λh=>
 gQ b true (qH 23 55 0 h) λA=>
 bG b A λa=>
 gQ a true (bg x0) λt=>
 gQ a true (bg d) λC=>
 gQ a true (qF c 31 t C) λB=>
 gQ a true (az 56 B 2) λl=>
 gQ a true (az 50 l 0) λe=>
 gQ a true (aD c 5 e) λx=>
 gQ a true (Pr 5 64 x) λy=>
 bG a y λD=>
 br (some D) (
 ar 76 i 3 λk=>
 aq c 3 k λn=>
 bC c 31 x0 d λp=>
 ar 56 p 2 λo=>
 ar 50 o 3 λF=>
 ar 47 F 1 λm=>
 aq c 3 m λI=>
 p4 3 68 75 n I λJ=>
 ar 76 i 3 λM=>
 aP c 3 M J λY w=>
 dz 3 13 1 d λO=>
  bB env Tryz.f59 0 bo [(6,O),(5,i),(0,x0),(3,P),(4,N)] w Q) (
 dz 3 13 1 d λk=>
  bB env Tryz.f59 0 bo [(6,k),(5,i),(0,x0),(3,P),(4,N)] c Q)) (
 bC H 31 x0 d λS=>
 ar 56 S 0 λL=>
 aq H 5 L λK=>
 xg 5 48 K λj=>
 gQ j true (bg x0) λR=>
 gQ j true (bg d) λv=>
 gQ j true (qF H 31 R v) λq=>
 gQ j true (az 56 q 3) λu=>
 gQ j true (aD H 23 u) λb=>
 gQ j true (qH 23 55 0 b) λG=>
 bG j G λf=>
 gQ f true (bg x0) λz=>
 gQ f true (bg d) λE=>
 gQ f true (qF H 31 z E) λh=>
 gQ f true (az 56 h 2) λA=>
 gQ f true (az 50 A 0) λa=>
 gQ f true (aD H 5 a) λt=>
 gQ f true (Pr 5 64 t) λC=>
 bG f C λB=>
 br (some B) (
 ar 76 i 3 λl=>
 aq H 3 l λe=>
 bC H 31 x0 d λx=>
 ar 56 x 2 λy=>
 ar 50 y 3 λD=>
 ar 47 D 1 λk=>
 aq H 3 k λn=>
 p4 3 68 75 e n λp=>
 ar 76 i 3 λo=>
 aP H 3 o p λF c=>
 dz 3 13 1 d λm=>
  bB env Tryz.f59 0 bo [(6,m),(5,i),(0,x0),(3,P),(4,N)] c Q) (
 dz 3 13 1 d λl=>
  bB env Tryz.f59 0 bo [(6,l),(5,i),(0,x0),(3,P),(4,N)] H Q))))) (
 aq H 76 i λv3=>
 aP H 76 N v3 λv4 c=>
 gD c N 76 λv5=>
 Q v5 c)
theorem cS(c d x0 a b:AV)(H:ai)(Q:AV->ai->Prop)(h : ∀g,cw g c d x0 a b H Q):bB env Tryz.f59 0 bo [(6,c),(5,d),(0,x0),(3,a),(4,b)] H Q:=sc pj (by kernel_rfl) h
noncomputable def jw:=rV Tryz.f60 2
def si:Nat->Option (List Nat):=λi=>cond (Nat.beq i 2) (some [4,5,2,3]) (none)
def sw:Prop:=
 bH H 2 29 x0 λv1 c=>
 bH c 3 35 x1 λv2 d=>
 eg d 4 76 λa b=>
  bB env Tryz.f60 0 jw [(4,a),(5,(.v (.int .i64 0))),(2,v1),(3,v2)] b Q
theorem zQ(h : ∀g:ef,sw x0 x1 H Q):dX Tryz.f60 0 [(0,x0),(1,x1)] H Q:=tV si (by kernel_rfl) h
def mw(g:Nat->AV)(c d x2 l:AV)(H:ai)(Q:AV->ai->Prop):Prop:=
 ar 29 x2 1 λv1=>
 aq H 27 v1 λv2=>
 eR H 9 27 v2 λt=>
 dG 3 6 9 d t λu=>
 br (some u) (
 ar 29 x2 1 λk=>
 aq H 27 k λj=>
 bC H 27 j d λp=>
 ar 76 p 0 λn=>
 aq H 35 n λq=>
 aq H 35 l λe=>
 qG 35 18 19 q e λm=>
 br (some m) (
 ar 29 x2 1 λa=>
 aq H 27 a λh=>
 bC H 27 h d λi=>
 aq H 76 i λo=>
 aP H 76 c o λv b=>
 gD b c 76 λf=>
 Q f b) (
 dz 3 11 1 d λa=>
  bB env Tryz.f60 0 jw [(4,c),(5,a),(2,x2),(3,l)] H Q)) (
 aq H 35 l λk=>
 Eh 76 0 k λj=>
 aP H 76 c j λp b=>
 gD b c 76 λn=>
 Q n b)
theorem qa(b c x2 a:AV)(H:ai)(Q:AV->ai->Prop)(h : ∀g,mw g b c x2 a H Q):bB env Tryz.f60 0 jw [(4,b),(5,c),(2,x2),(3,a)] H Q:=sc si (by kernel_rfl) h
def fv:Prop:=
 bH H 3 29 x0 λv1 D=>
 bH D 5 50 x2 λv2 J=>
 bJ false J 9 89 [x1] λG A=>
 aq A 50 v2 λI=>
 bJ false A 11 88 [G,I] λz b=>
 lW 3 12 0 z λC=>
 br (some C) (
 Q z b) (
 ar 50 v2 0 λF=>
 aq b 5 F λE=>
 vJ 5 16 E λa=>
 gQ a true (bg x1) λd=>
 gQ a true (az 50 v2 1) λu=>
 gQ a true (az 40 u 0) λh=>
 gQ a true (aD b 35 h) λm=>
 gW a true b (fg false b 23 59 [d,m]) λt c=>
 gQ a true (B2 76 t 3) λy=>
 gQ a true (az 50 v2 3) λi=>
 gQ a true (az 47 i 1) λe=>
 gQ a true (aD c 3 e) λq=>
 gQ a true (Pq 3 24 27 y q) λp=>
 gQ a true (aD c 29 v1) λn=>
 gQ a true (az 50 v2 1) λo=>
 gQ a true (az 40 o 0) λj=>
 gQ a true (aD c 35 j) λw=>
 gW a true c (fg false c 33 60 [n,w]) λf B=>
 gQ a true (B2 76 f 3) λl=>
 gQ a true (Si 3 28 34 p l) λk=>
 bG a k λx=>
 br (some x) (
 Q (.v (.int .i64 9)) B) (
 Q (.v (.int .i64 0)) B))
theorem vx(h : ∀g:ef,fv x0 x1 x2 H Q):dX Tryz.f61 0 [(0,x0),(1,x1),(2,x2)] H Q:=iT (by kernel_rfl) h
def rQ:Prop:=
 bH H 2 35 x0 λv1 a=>
 ar 35 v1 1 λv2=>
 aq a 33 v2 λc=>
 p5 a 8 3 147 x1 λd=>
 hZ (bS env.P .shr 33 (Operand.tmp 6) (Operand.tmp 8) (some c) (some d)) λb=>
 hZ (bS env.P .rem 33 (Operand.tmp 9) (.const (.int .u32 2)) (some b) (some (aw 2))) λf=>
 hZ (bS env.P .eql 33 (Operand.tmp 10) (.const (.int .u32 1)) (some f) (some (aw 1))) λe=>
 Q e a
theorem yJ(h : ∀g:ef,rQ x0 x1 H Q):dX Tryz.f62 0 [(0,x0),(1,x1)] H Q:=iT (by kernel_rfl) h
def eY:Prop:=
 bH H 1 47 x0 λv1 p=>
 ar 47 v1 0 λv2=>
 aq p 45 v2 λx=>
 bJ true p 5 85 [x] λc b=>
 gQ c true (az 47 v1 1) λw=>
 gQ c true (aD b 3 w) λu=>
 gQ c true (vK 3 8 1 u) λq=>
 bG c q λd=>
 gQ d true (az 47 v1 1) λt=>
 gQ d true (aD b 3 t) λe=>
 gQ d true (zo 3 13 64 e) λn=>
 bG d n λa=>
 gQ a true (az 47 v1 0) λh=>
 gQ a true (az 45 h 1) λl=>
 gQ a true (aD b 3 l) λo=>
 gQ a true (az 47 v1 1) λm=>
 gQ a true (aD b 3 m) λf=>
 gQ a true (bS env.P .sub 3 (Operand.const (Value.int IntKind.i64 1099511627777)) (Operand.tmp 21) (some (AV.v (Value.int IntKind.i64 1099511627777))) (some f)) λk=>
 gQ a true (bS env.P .leq 3 (Operand.tmp 19) (Operand.tmp 22) (some o) (some k)) λj=>
 bG a j λi=>
 Q i b
theorem uN(h : ∀g:ef,eY x0 H Q):dX Tryz.f83 0 [(0,x0)] H Q:=iT (by kernel_rfl) h
def qu:Prop:=
 bH H 1 45 x0 λv1 a=>
 aq a 45 v1 λv2=>
 pZ 45 λb=>
 qG 45 3 4 v2 b λc=>
 Q c a
theorem xG(h : ∀g:ef,qu x0 H Q):dX Tryz.f84 0 [(0,x0)] H Q:=iT (by kernel_rfl) h
def rO:Prop:=
 bH H 1 45 x0 λv1 h=>
 ar 45 v1 0 λv2=>
 aq h 40 v2 λj=>
 bJ true h 5 51 [j] λa f=>
 gQ a true (az 45 v1 1) λi=>
 gQ a true (aD f 3 i) λm=>
 gQ a true (vK 3 8 1 m) λk=>
 bG a k λb=>
 gQ b true (az 45 v1 1) λl=>
 gQ b true (aD f 3 l) λc=>
 gQ b true (zo 3 13 1099511627776 c) λe=>
 bG b e λd=>
 Q d f
theorem yH(h : ∀g:ef,rO x0 H Q):dX Tryz.f85 0 [(0,x0)] H Q:=iT (by kernel_rfl) h
noncomputable def gR:=rV Tryz.f86 4
def pr:Nat->Option (List Nat):=λi=>cond (Nat.beq i 4) (some [3,0]) (none)
def lJ:Prop:=
 eR H 5 48 x0 λv1=>
 B6 3 5 64 v1 λv2=>
 br (some v2) (
 Q (.v (.int .i64 4)) H) (
  bB env Tryz.f86 0 gR [(3,(.v (.int .i64 0))),(0,x0)] H Q)
theorem wR(h : ∀g:ef,lJ x0 H Q):dX Tryz.f86 0 [(0,x0)] H Q:=tV pr (by kernel_rfl) h
def eZ(g:Nat->AV)(b x0:AV)(H:ai)(Q:AV->ai->Prop):Prop:=
 eR H 9 48 x0 λv1=>
 dG 3 7 9 b v1 λv2=>
 br (some v2) (
 bC H 48 x0 b λm=>
 aq H 21 m λn=>
 XI 21 16 n λa=>
 gQ a true (bg x0) λl=>
 gQ a true (bg b) λj=>
 gQ a true (qF H 48 l j) λo=>
 gQ a true (aD H 21 o) λk=>
 gQ a true (gf env.P (ai.get H) (Ref.mk 0 23 (ai.gen H 0 23) 0) 21 3 (some k)) λc=>
 gW a true H (fg true H 24 103 [c]) λh i=>
 gQ a true (rX h) λf=>
 bG a f λd=>
 br (some d) (
 Q (.v (.int .i64 8)) i) (
 dz 3 11 1 b λe=>
  bB env Tryz.f86 0 gR [(3,e),(0,x0)] i Q)) (
 Q (.v (.int .i64 0)) H)
theorem nW(a x0:AV)(H:ai)(Q:AV->ai->Prop)(h : ∀g,eZ g a x0 H Q):bB env Tryz.f86 0 gR [(3,a),(0,x0)] H Q:=sc pr (by kernel_rfl) h
def gm:Prop:=
 bH H 1 29 x0 λv1 p=>
 eg p 2 29 λv2 e=>
 ar 29 v1 0 λm=>
 aq e 26 m λn=>
 lQ (jn env.P false e (Ref.mk 0 5 (ai.gen e 0 5) 0) (some 26) (some 26) (.v (.slice none 0 0)) n) λl d=>
 ar 29 v1 1 λk=>
 aq d 27 k λi=>
 lQ (jn env.P false d (Ref.mk 0 8 (ai.gen d 0 8) 0) (some 27) (some 27) (.v (.slice none 0 0)) i) λq f=>
 ar 29 v1 2 λj=>
 aq f 3 j λa=>
 Ii 29 0 l 1 q 2 a λc=>
 aP f 29 v2 c λo h=>
 gD h v2 29 λb=>
 Q b h
theorem xJ(h : ∀g:ef,gm x0 H Q):dX Tryz.f87 0 [(0,x0)] H Q:=iT (by kernel_rfl) h
noncomputable def gJ:=rV Tryz.f88 9
noncomputable def dy:=rV Tryz.f88 16
def lA:Nat->Option (List Nat):=λi=>cond (Nat.beq i 9) (some [7,6,5,3,0]) (cond (Nat.beq i 16) (some [8,3,6,5,0]) (none))
def dx:Prop:=
 bH H 3 50 x1 λv1 G=>
 bJ true G 10 104 [x0] λv2 D=>
 ar 50 v1 3 λK=>
 aq D 47 K λL=>
 bJ true D 13 105 [L] λB b=>
 ar 50 v1 0 λF=>
 aq b 5 F λJ=>
 vJ 5 15 J λI=>
 br (some I) (
 ar 50 v1 4 λE=>
 aq b 45 E λd=>
 pZ 45 λu=>
 xf 45 18 19 d u λa=>
 gQ a true (bg v2) λm=>
 gQ a true (az 50 v1 4) λt=>
 gQ a true (aD b 45 t) λA=>
 gQ a true (az 50 v1 1) λh=>
 gQ a true (az 40 h 0) λe=>
 gQ a true (aD b 35 e) λq=>
 gW a true b (fg true b 28 106 [m,A,q]) λp c=>
 gQ a true (rX p) λn=>
 bG a n λo=>
 br (some o) (
 Q (.v (.int .i64 6)) c) (
 ar 50 v1 3 λj=>
 aq c 47 j λx=>
 ar 50 v1 4 λf=>
 aq c 45 f λl=>
 ar 50 v1 6 λk=>
 aq c 48 k λy=>
 Ii 171 0 x 1 l 2 y λw=>
 bJ true c 38 107 [w] λi C=>
 kK i λz=>
 br (some z) (
 Q (.v (.int .i64 2)) C) (
  bB env Tryz.f88 0 gJ [(7,(.v (.int .i64 0))),(6,B),(5,v2),(3,v1),(0,x0)] C Q))) (
  bB env Tryz.f88 0 dy [(8,(.v (.int .i64 0))),(3,v1),(6,B),(5,v2),(0,x0)] b Q)
theorem wK(h : ∀g:ef,dx x0 x1 H Q):dX Tryz.f88 0 [(0,x0),(1,x1)] H Q:=tV lA (by kernel_rfl) h
def eX(g:Nat->AV)(h a b i x0:AV)(H:ai)(Q:AV->ai->Prop):Prop:=
 eR H 42 166 a λv1=>
 dG 3 40 42 h v1 λv2=>
 br (some v2) (
 bC H 166 a h λe=>
 aq H 45 e λf=>
 bJ true H 51 108 [b,f] λd j=>
 vM 3 51 0 d λc=>
 br (some c) (
 Q (.v (.int .i64 2)) j) (
 dz 3 44 1 h λk=>
  bB env Tryz.f88 0 gJ [(7,k),(6,a),(5,b),(3,i),(0,x0)] j Q)) (
 eR H 54 164 b λe=>
 eR H 56 166 a λf=>
 p4 3 54 56 e f λd=>
 B6 3 57 8192 d λc=>
 br (some c) (
 Q (
  .v (.int .i64 4)) H) (
  bB env Tryz.f88 0 dy [(8,(.v (.int .i64 0))),(3,i),(6,a),(5,b),(0,x0)] H Q))
theorem nQ(a c d b x0:AV)(H:ai)(Q:AV->ai->Prop)(h : ∀g,eX g a c d b x0 H Q):bB env Tryz.f88 0 gJ [(7,a),(6,c),(5,d),(3,b),(0,x0)] H Q:=sc lA (by kernel_rfl) h
def aL(g:Nat->AV)(m d n I x0:AV)(H:ai)(Q:AV->ai->Prop):Prop:=
 eR H 61 166 n λv1=>
 dG 3 59 61 m v1 λv2=>
 gQ v2 true (az 50 d 0) λL=>
 gQ v2 true (aD H 5 L) λM=>
 gQ v2 true (bS env.P .neq 5 (Operand.tmp 65) (.const (.int .u8 1)) (some M) (some (a8 1))) λK=>
 bG v2 K λJ=>
 br (some J) (
 bC H 166 n m λy=>
 aq H 45 y λw=>
 ar 50 d 1 λb=>
 ar 40 b 0 λe=>
 aq H 35 e λk=>
 bJ false H 78 106 [I,w,k] λf h=>
 kK f λi=>
 br (some i) (
 Q (.v (.int .i64 6)) h) (
 dz 3 68 1 m λj=>
  bB env Tryz.f88 0 dy [(8,j),(3,d),(6,n),(5,I),(0,x0)] h Q)) (
 ar 50 d 0 λy=>
 aq H 5 y λw=>
 xg 5 81 w λb=>
 gQ b true (az 50 d 3) λe=>
 gQ b true (az 47 e 0) λk=>
 gQ b true (az 45 k 0) λf=>
 gQ b true (az 40 f 0) λi=>
 gQ b true (aD H 35 i) λj=>
 gQ b true (az 50 d 1) λG=>
 gQ b true (az 40 G 0) λp=>
 gQ b true (aD H 35 p) λl=>
 gQ b true (Po 35 88 91 j l) λC=>
 bG b C λa=>
 gQ a false (az 50 d 0) λz=>
 gQ a false (aD H 5 z) λB=>
 gQ a false (bS env.P .eql 5 (Operand.tmp 96) (.const (.int .u8 3)) (some B) (some (a8 3))) λt=>
 gQ a false (bg t) λc=>
 gQ c true (bg x0) λo=>
 gQ c true (aD H 50 d) λx=>
 gW c true H (fg true H 101 109 [o,x]) λu h=>
 gQ c true (rX u) λE=>
 gQ a false (Ij c E) λD=>
 ek a D λq=>
 br (some q) (
 Q (.v (.int .i64 2)) h) (
 eR h 106 90 x0 λF=>
 vM 3 106 2048 F λA=>
 br (some A) (
 Q (.v (.int .i64 4)) h) (
 Q (.v (.int .i64 0)) h)))
theorem ny(b a c d x0:AV)(H:ai)(Q:AV->ai->Prop)(h : ∀g,aL g b a c d x0 H Q):bB env Tryz.f88 0 dy [(8,b),(3,a),(6,c),(5,d),(0,x0)] H Q:=sc lA (by kernel_rfl) h
noncomputable def yg:Code:=(Tryz.f89.body).getD .skip
noncomputable def fp:=rV Tryz.f89 3
def qe:Nat->Option (List Nat):=λi=>cond (Nat.beq i 3) (some [4,0,3]) (none)
def ql:Prop:=
 bB env Tryz.f89 0 fp [(4,(.v (.int .i64 0))),(0,x0),(3,(.v (.slice none 0 0)))] H Q
theorem xz(h : ∀g:ef,ql x0 H Q):dX Tryz.f89 0 [(0,x0)] H Q:=tV qe (by kernel_rfl) h
def dZ(g:Nat->AV)(c x0 l:AV)(H:ai)(Q:AV->ai->Prop):Prop:=
 eR H 7 31 x0 λv1=>
 dG 3 5 7 c v1 λv2=>
 br (some v2) (
 bC H 31 x0 c λt=>
 ar 56 t 0 λu=>
 aq H 5 u λq=>
 xg 5 15 q λb=>
 gQ b true (bg x0) λo=>
 gQ b true (bg c) λw=>
 gQ b true (qF H 31 o w) λp=>
 gQ b true (az 56 p 3) λd=>
 gQ b true (aD H 23 d) λm=>
 gQ b true (qH 23 22 0 m) λj=>
 bG b j λf=>
 br (some f) (
 bC H 31 x0 c λa=>
 ar 56 a 2 λn=>
 aq H 50 n λk=>
 rY H 31 90 1 0 k λe v=>
 lL v 32 90 90 l e λi x=>
 dz 3 9 1 c λh=>
  bB env Tryz.f89 0 fp [(4,h),(0,x0),(3,i)] x Q) (
 dz 3 9 1 c λa=>
  bB env Tryz.f89 0 fp [(4,a),(0,x0),(3,l)] H Q)) (
 Q l H)
theorem fm(b x0 a:AV)(H:ai)(Q:AV->ai->Prop)(h : ∀g,dZ g b x0 a H Q):bB env Tryz.f89 0 fp [(4,b),(0,x0),(3,a)] H Q:=sc qe (by kernel_rfl) h
def sx:Prop:=
 vM 3 3 0 x0 λv1=>
 gQ v1 true (bg x0) λv2=>
 gQ v1 true (zo 3 6 1114111 v2) λf=>
 bG v1 f λa=>
 gQ a true (bg x0) λe=>
 gQ a true (B5 3 10 55296 e) λj=>
 gQ a true (bg j) λb=>
 gQ b false (bg x0) λh=>
 gQ b false (zW 3 13 57343 h) λi=>
 gQ a true (KN b i) λc=>
 bG a c λd=>
 Q d H
theorem zR(h : ∀g:ef,sx x0 H Q):dX Tryz.f103 0 [(0,x0)] H Q:=iT (by kernel_rfl) h
noncomputable def yh:Code:=(Tryz.f104.body).getD .skip
noncomputable def fq:=rV Tryz.f104 3
def qf:Nat->Option (List Nat):=λi=>cond (Nat.beq i 3) (some [4,3,0]) (none)
def qm:Prop:=
 bB env Tryz.f104 0 fq [(4,(.v (.int .i64 0))),(3,(.v (.slice none 0 0))),(0,x0)] H Q
theorem xB(h : ∀g:ef,qm x0 H Q):dX Tryz.f104 0 [(0,x0)] H Q:=tV qf (by kernel_rfl) h
def fw(g:Nat->AV)(a n x0:AV)(H:ai)(Q:AV->ai->Prop):Prop:=
 eR H 8 90 x0 λv1=>
 dG 3 6 8 a v1 λv2=>
 br (some v2) (
 bC H 90 x0 a λC=>
 ar 50 C 0 λD=>
 aq H 5 D λw=>
 vJ 5 16 w λv=>
 br (some v) (
 bC H 90 x0 a λi=>
 ar 50 i 3 λy=>
 aq H 47 y λu=>
 bC H 90 x0 a λc=>
 ar 50 c 4 λo=>
 aq H 45 o λd=>
 bC H 90 x0 a λh=>
 ar 50 h 6 λm=>
 aq H 48 m λq=>
 Ii 171 0 u 1 d 2 q λe=>
 eg H 5 171 λb x=>
 aP x 171 b e λB t=>
 aq t 171 b λl=>
 rY t 36 189 1 0 l λj z=>
 bJ true z 37 124 [j] λk A=>
 lL A 38 164 164 n k λf E=>
 dz 3 10 1 a λp=>
  bB env Tryz.f104 0 fq [(4,p),(3,f),(0,x0)] E Q) (
 dz 3 10 1 a λi=>
  bB env Tryz.f104 0 fq [(4,i),(3,n),(0,x0)] H Q)) (
 Q n H)
theorem iu(b a x0:AV)(H:ai)(Q:AV->ai->Prop)(h : ∀g,fw g b a x0 H Q):bB env Tryz.f104 0 fq [(4,b),(3,a),(0,x0)] H Q:=sc qf (by kernel_rfl) h
noncomputable def jb:=rV Tryz.f105 3
def qZ:Nat->Option (List Nat):=λi=>cond (Nat.beq i 3) (some [4,1,3]) (none)
def rP:Prop:=
 bH H 1 47 x0 λv1 a=>
  bB env Tryz.f105 0 jb [(4,(.v (.int .i64 0))),(1,v1),(3,(.v (.slice none 0 0)))] a Q
theorem yI(h : ∀g:ef,rP x0 H Q):dX Tryz.f105 0 [(0,x0)] H Q:=tV qZ (by kernel_rfl) h
def jg(g:Nat->AV)(f x1 h:AV)(H:ai)(Q:AV->ai->Prop):Prop:=
 ar 47 x1 1 λv1=>
 aq H 3 v1 λv2=>
 dG 3 5 7 f v2 λm=>
 br (some m) (
 ar 47 x1 0 λn=>
 ar 45 n 0 λl=>
 aq H 40 l λk=>
 ar 47 x1 0 λi=>
 ar 45 i 1 λp=>
 aq H 3 p λj=>
 p4 3 17 18 j f λa=>
 hZ (lx env.P 45 (some [(0,k),(1,a)])) λe=>
 rY H 21 166 1 0 e λd o=>
 lL o 22 166 166 h d λb q=>
 dz 3 9 1 f λc=>
  bB env Tryz.f105 0 jb [(4,c),(1,x1),(3,b)] q Q) (
 Q h H)
theorem pa(b x1 a:AV)(H:ai)(Q:AV->ai->Prop)(h : ∀g,jg g b x1 a H Q):bB env Tryz.f105 0 jb [(4,b),(1,x1),(3,a)] H Q:=sc qZ (by kernel_rfl) h
def mu:Prop:=
 bH H 4 45 x1 λv1 l=>
 bH l 5 35 x2 λv2 e=>
 aq e 45 v1 λf=>
 bJ true e 9 108 [x0,f] λh b=>
 vM 3 9 0 h λa=>
 gQ a true (az 45 v1 0) λn=>
 gQ a true (az 40 n 0) λi=>
 gQ a true (aD b 35 i) λm=>
 gQ a true (aD b 35 v2) λj=>
 gW a true b (fg true b 16 39 [m,j]) λc k=>
 bG a c λd=>
 Q d k
theorem xA(h : ∀g:ef,mu x0 x1 x2 H Q):dX Tryz.f106 0 [(0,x0),(1,x1),(2,x2)] H Q:=iT (by kernel_rfl) h
def fl:Prop:=
 bH H 1 171 x0 λv1 K=>
 ar 171 v1 0 λv2=>
 aq K 47 v2 λP=>
 bJ true K 5 83 [P] λR e=>
 kK R λd=>
 gQ d false (az 171 v1 2) λM=>
 gQ d false (aD e 48 M) λO=>
 gQ d false (zn e 10 48 O) λN=>
 gQ d false (az 171 v1 0) λL=>
 gQ d false (az 47 L 1) λf=>
 gQ d false (aD e 3 f) λD=>
 gQ d false (Po 3 10 13 N D) λj=>
 ek d j λc=>
 gQ c false (az 171 v1 2) λA=>
 gQ c false (aD e 48 A) λJ=>
 gW c false e (fg true e 19 86 [J]) λk q=>
 gQ c false (Ff 3 19 0 k) λh=>
 ek c h λy=>
 br (some y) (
 Q (.v (.bool false)) q) (
 ar 171 v1 1 λx=>
 aq q 45 x λt=>
 bJ true q 24 125 [t] λb u=>
 gQ b false (az 171 v1 1) λm=>
 gQ b false (aD u 45 m) λF=>
 gW b false u (fg true u 28 85 [F]) λi C=>
 gQ b false (bg i) λa=>
 gQ a true (az 171 v1 1) λo=>
 gQ a true (az 45 o 1) λG=>
 gQ a true (aD C 3 G) λE=>
 gQ a true (az 171 v1 0) λl=>
 gQ a true (az 47 l 0) λI=>
 gQ a true (az 45 I 1) λw=>
 gQ a true (aD C 3 w) λn=>
 gQ a true (Fb 3 32 36 E n) λz=>
 gQ b false (Ij a z) λp=>
 ek b p λB=>
 Q B C)
theorem yB(h : ∀g:ef,fl x0 H Q):dX Tryz.f107 0 [(0,x0)] H Q:=iT (by kernel_rfl) h
noncomputable def gM:=rV Tryz.f108 2
def po:Nat->Option (List Nat):=λi=>cond (Nat.beq i 2) (some [5,3,0]) (none)
def pE:Prop:=
 bH H 3 45 x1 λv1 a=>
  bB env Tryz.f108 0 gM [(5,(.v (.int .i64 0))),(3,v1),(0,x0)] a Q
theorem wM(h : ∀g:ef,pE x0 x1 H Q):dX Tryz.f108 0 [(0,x0),(1,x1)] H Q:=tV po (by kernel_rfl) h
def kE(g:Nat->AV)(a b x0:AV)(H:ai)(Q:AV->ai->Prop):Prop:=
 eR H 8 164 x0 λv1=>
 dG 3 6 8 a v1 λv2=>
 br (some v2) (
 bC H 164 x0 a λf=>
 ar 191 f 0 λh=>
 aq H 45 h λe=>
 aq H 45 b λd=>
 qG 45 16 17 e d λc=>
 br (some c) (
 Q a H) (
 dz 3 10 1 a λi=>
  bB env Tryz.f108 0 gM [(5,i),(3,b),(0,x0)] H Q)) (
 Q (.v (.int .i64 (-1))) H)
theorem nS(b a x0:AV)(H:ai)(Q:AV->ai->Prop)(h : ∀g,kE g b a x0 H Q):bB env Tryz.f108 0 gM [(5,b),(3,a),(0,x0)] H Q:=sc po (by kernel_rfl) h
noncomputable def fR:=rV Tryz.f109 5
def oe:Nat->Option (List Nat):=λi=>cond (Nat.beq i 5) (some [6,3,5,0]) (none)
def gY:Prop:=
 bH H 3 50 x1 λv1 a=>
 ar 50 v1 0 λv2=>
 aq a 5 v2 λc=>
 Sk 5 8 c λd=>
 br (some d) (
 Q (.v (.bool true)) a) (
 ar 50 v1 3 λb=>
 aq a 47 b λh=>
 bJ true a 12 105 [h] λe f=>
  bB env Tryz.f109 0 fR [(6,(.v (.int .i64 0))),(3,v1),(5,e),(0,x0)] f Q)
theorem uL(h : ∀g:ef,gY x0 x1 H Q):dX Tryz.f109 0 [(0,x0),(1,x1)] H Q:=tV oe (by kernel_rfl) h
def fT(g:Nat->AV)(f a p x0:AV)(H:ai)(Q:AV->ai->Prop):Prop:=
 eR H 15 166 p λv1=>
 dG 3 13 15 f v1 λv2=>
 br (some v2) (
 bC H 166 p f λk=>
 aq H 45 k λl=>
 ar 50 a 1 λj=>
 ar 40 j 0 λi=>
 aq H 35 i λe=>
 bJ false H 27 127 [x0,l,e] λo b=>
 ar 50 a 1 λt=>
 ar 40 t 0 λc=>
 aq b 35 c λn=>
 bJ false b 31 126 [o,n] λm q=>
 kK m λd=>
 br (some d) (
 Q (.v (.bool false)) q) (
 dz 3 17 1 f λh=>
  bB env Tryz.f109 0 fR [(6,h),(3,a),(5,p),(0,x0)] q Q)) (
 ar 50 a 1 λk=>
 ar 40 k 0 λl=>
 aq H 35 l λj=>
 ar 50 a 5 λi=>
 aq H 35 i λe=>
 bJ true H 38 39 [j,e] λo b=>
 Q o b)
theorem mU(b a c x0:AV)(H:ai)(Q:AV->ai->Prop)(h : ∀g,fT g b a c x0 H Q):bB env Tryz.f109 0 fR [(6,b),(3,a),(5,c),(0,x0)] H Q:=sc oe (by kernel_rfl) h
noncomputable def za:Code:=(Tryz.f124.body).getD .skip
noncomputable def lC:=rV Tryz.f124 3
noncomputable def iZ:=rV Tryz.f124 6
def mL:Nat->Option (List Nat):=λi=>cond (Nat.beq i 3) (some [4,0,3]) (cond (Nat.beq i 6) (some [5,4,0,3]) (none))
def rK:Prop:=
 bB env Tryz.f124 0 lC [(4,(.v (.int .i64 0))),(0,x0),(3,(.v (.slice none 0 0)))] H Q
theorem yA(h : ∀g:ef,rK x0 H Q):dX Tryz.f124 0 [(0,x0)] H Q:=tV mL (by kernel_rfl) h
def lG(g:Nat->AV)(b x0 a:AV)(H:ai)(Q:AV->ai->Prop):Prop:=
 eR H 8 189 x0 λv1=>
 dG 3 6 8 b v1 λv2=>
 br (some v2) (
  bB env Tryz.f124 0 iZ [(5,(.v (.int .i64 0))),(4,b),(0,x0),(3,a)] H Q) (
 Q a H)
theorem o8(b x0 a:AV)(H:ai)(Q:AV->ai->Prop)(h : ∀g,lG g b x0 a H Q):bB env Tryz.f124 0 lC [(4,b),(0,x0),(3,a)] H Q:=sc mL (by kernel_rfl) h
def jf(g:Nat->AV)(b a x0 t:AV)(H:ai)(Q:AV->ai->Prop):Prop:=
 bC H 189 x0 a λv1=>
 ar 171 v1 0 λv2=>
 ar 47 v2 1 λA=>
 aq H 3 A λB=>
 dG 3 12 18 b B λv=>
 br (some v) (
 bC H 189 x0 a λf=>
 aq H 171 f λy=>
 bJ false H 28 142 [y,b] λw j=>
 bC j 189 x0 a λu=>
 aq j 171 u λd=>
 bJ false j 34 143 [d,b] λp c=>
 bC c 189 x0 a λh=>
 ar 171 h 2 λk=>
 aq c 48 k λo=>
 bC c 48 o b λq=>
 aq c 21 q λi=>
 Ii 191 0 w 1 p 2 i λe=>
 Ps c 44 164 1 0 e λn x=>
 lL x 45 164 164 t n λm z=>
 dz 3 20 1 b λl=>
  bB env Tryz.f124 0 iZ [(5,l),(4,a),(0,x0),(3,m)] z Q) (
 dz 3 10 1 a λf=>
  bB env Tryz.f124 0 lC [(4,f),(0,x0),(3,t)] H Q)
theorem o7(c b x0 a:AV)(H:ai)(Q:AV->ai->Prop)(h : ∀g,jf g c b x0 a H Q):bB env Tryz.f124 0 iZ [(5,c),(4,b),(0,x0),(3,a)] H Q:=sc mL (by kernel_rfl) h
def qn:Prop:=
 bH H 1 45 x0 λv1 a=>
 aq a 45 v1 λv2=>
 pZ 45 λb=>
 qG 45 3 4 v2 b λc=>
 Q c a
theorem xC(h : ∀g:ef,qn x0 H Q):dX Tryz.f125 0 [(0,x0)] H Q:=iT (by kernel_rfl) h
noncomputable def gK:=rV Tryz.f126 2
def pn:Nat->Option (List Nat):=λi=>cond (Nat.beq i 2) (some [5,3,0]) (none)
def pD:Prop:=
 bH H 3 35 x1 λv1 a=>
  bB env Tryz.f126 0 gK [(5,(.v (.int .i64 0))),(3,v1),(0,x0)] a Q
theorem wL(h : ∀g:ef,pD x0 x1 H Q):dX Tryz.f126 0 [(0,x0),(1,x1)] H Q:=tV pn (by kernel_rfl) h
def gX(g:Nat->AV)(a b x0:AV)(H:ai)(Q:AV->ai->Prop):Prop:=
 eR H 8 193 x0 λv1=>
 dG 3 6 8 a v1 λv2=>
 br (some v2) (
 bC H 193 x0 a λf=>
 aq H 35 f λh=>
 aq H 35 b λe=>
 qG 35 15 16 h e λd=>
 br (some d) (
 Q (.v (.bool true)) H) (
 dz 3 10 1 a λc=>
  bB env Tryz.f126 0 gK [(5,c),(3,b),(0,x0)] H Q)) (
 Q (.v (.bool false)) H)
theorem nR(b a x0:AV)(H:ai)(Q:AV->ai->Prop)(h : ∀g,gX g b a x0 H Q):bB env Tryz.f126 0 gK [(5,b),(3,a),(0,x0)] H Q:=sc pn (by kernel_rfl) h
noncomputable def gj:=rV Tryz.f127 4
def sh:Nat->Option (List Nat):=λi=>cond (Nat.beq i 4) (some [9,8,7]) (none)
def nm:Prop:=
 bH H 4 45 x1 λv1 j=>
 bH j 5 35 x2 λv2 b=>
 ar 45 v1 0 λd=>
 ar 40 d 0 λe=>
 aq b 35 e λc=>
 rY b 13 193 1 0 c λl a=>
 aq a 45 v1 λf=>
 aq a 35 v2 λk=>
 bJ true a 17 144 [x0,f,k] λh i=>
  bB env Tryz.f127 0 gj [(9,(.v (.int .i64 0))),(8,h),(7,l)] i Q
theorem zO(h : ∀g:ef,nm x0 x1 x2 H Q):dX Tryz.f127 0 [(0,x0),(1,x1),(2,x2)] H Q:=tV sh (by kernel_rfl) h
def gl(g:Nat->AV)(b a c:AV)(H:ai)(Q:AV->ai->Prop):Prop:=
 eR H 20 193 a λv1=>
 dG 3 18 20 b v1 λv2=>
 br (some v2) (
 bC H 193 a b λl=>
 aq H 35 l λm=>
 bJ true H 29 126 [c,m] λk d=>
 kK k λj=>
 br (some j) (
 bC d 193 a b λf=>
 aq d 35 f λn=>
 rY d 36 193 1 0 n λi p=>
 lL p 37 193 193 c i λe o=>
 dz 3 22 1 b λh=>
  bB env Tryz.f127 0 gj [(9,h),(8,a),(7,e)] o Q) (
 dz 3 22 1 b λf=>
  bB env Tryz.f127 0 gj [(9,f),(8,a),(7,c)] d Q)) (
 Q c H)
theorem p9(a c b:AV)(H:ai)(Q:AV->ai->Prop)(h : ∀g,gl g a c b H Q):bB env Tryz.f127 0 gj [(9,a),(8,c),(7,b)] H Q:=sc sh (by kernel_rfl) h
def sv:Prop:=
 bH H 2 171 x0 λv1 o=>
 eg o 4 45 λv2 e=>
 ar 171 v1 0 λm=>
 ar 47 m 0 λn=>
 ar 45 n 0 λl=>
 aq e 40 l λk=>
 ar 171 v1 0 λi=>
 ar 47 i 0 λp=>
 ar 45 p 1 λj=>
 aq e 3 j λa=>
 p4 3 12 13 a x1 λd=>
 hZ (lx env.P 45 (some [(0,k),(1,d)])) λc=>
 aP e 45 v2 c λh f=>
 gD f v2 45 λb=>
 Q b f
theorem zP(h : ∀g:ef,sv x0 x1 H Q):dX Tryz.f142 0 [(0,x0),(1,x1)] H Q:=iT (by kernel_rfl) h
def kU:Prop:=
 bH H 2 171 x0 λv1 j=>
 eg j 4 45 λv2 b=>
 uw 3 5 0 x1 λi=>
 br (some i) (
 ar 171 v1 1 λd=>
 aq b 45 d λc=>
 aP b 45 v2 c λh a=>
 gD a v2 45 λe=>
 Q e a) (
 aq b 171 v1 λd=>
 Fg 3 10 1 x1 λc=>
 bJ true b 12 142 [d,c] λh a=>
 aP a 45 v2 h λe f=>
 gD f v2 45 λk=>
 Q k f)
theorem vB(h : ∀g:ef,kU x0 x1 H Q):dX Tryz.f143 0 [(0,x0),(1,x1)] H Q:=iT (by kernel_rfl) h
noncomputable def eH:=rV Tryz.f144 3
def oR:Nat->Option (List Nat):=λi=>cond (Nat.beq i 3) (some [8,0,7,5,4]) (none)
def oU:Prop:=
 bH H 4 45 x1 λv1 a=>
 bH a 5 35 x2 λv2 b=>
  bB env Tryz.f144 0 eH [(8,(.v (.int .i64 0))),(0,x0),(7,(.v (.slice none 0 0))),(5,v2),(4,v1)] b Q
theorem vA(h : ∀g:ef,oU x0 x1 x2 H Q):dX Tryz.f144 0 [(0,x0),(1,x1),(2,x2)] H Q:=tV oR (by kernel_rfl) h
def cO(g:Nat->AV)(c x0 w C B:AV)(H:ai)(Q:AV->ai->Prop):Prop:=
 eR H 11 90 x0 λv1=>
 dG 3 9 11 c v1 λv2=>
 br (some v2) (
 bC H 90 x0 c λL=>
 ar 50 L 0 λM=>
 aq H 5 M λF=>
 B4 5 19 F λb=>
 gQ b true (bg x0) λJ=>
 gQ b true (bg c) λG=>
 gQ b true (qF H 90 J G) λE=>
 gQ b true (az 50 E 3) λh=>
 gQ b true (aD H 47 h) λx=>
 gQ b true (aD H 45 B) λj=>
 gW b true H (fg false H 28 163 [x,j]) λp e=>
 bG b p λa=>
 gQ a true (bg x0) λD=>
 gQ a true (bg c) λk=>
 gQ a true (qF e 90 D k) λi=>
 gQ a true (az 50 i 1) λv=>
 gQ a true (az 40 v 0) λu=>
 gQ a true (aD e 35 u) λq=>
 gQ a true (aD e 35 C) λt=>
 gW a true e (fg false e 38 39 [q,t]) λm f=>
 bG a m λz=>
 br (some z) (
 bC f 90 x0 c λd=>
 ar 50 d 5 λo=>
 aq f 35 o λn=>
 rY f 46 193 1 0 n λA I=>
 lL I 47 193 193 w A λy K=>
 dz 3 13 1 c λl=>
  bB env Tryz.f144 0 eH [(8,l),(0,x0),(7,y),(5,C),(4,B)] K Q) (
 dz 3 13 1 c λd=>
  bB env Tryz.f144 0 eH [(8,d),(0,x0),(7,w),(5,C),(4,B)] f Q)) (
 Q w H)
theorem nz(b x0 a d c:AV)(H:ai)(Q:AV->ai->Prop)(h : ∀g,cO g b x0 a d c H Q):bB env Tryz.f144 0 eH [(8,b),(0,x0),(7,a),(5,d),(4,c)] H Q:=sc oR (by kernel_rfl) h
def jZ:Prop:=
 bH H 2 47 x0 λv1 B=>
 bH B 3 45 x1 λv2 b=>
 ar 47 v1 0 λz=>
 ar 45 z 0 λA=>
 aq b 40 A λy=>
 ar 45 v2 0 λx=>
 aq b 40 x λv=>
 qG 40 7 9 y v λc=>
 gQ c true (az 45 v2 1) λw=>
 gQ c true (aD b 3 w) λd=>
 gQ c true (az 47 v1 0) λq=>
 gQ c true (az 45 q 1) λn=>
 gQ c true (aD b 3 n) λf=>
 gQ c true (Pp 3 13 16 d f) λm=>
 bG c m λa=>
 gQ a true (az 45 v2 1) λo=>
 gQ a true (aD b 3 o) λe=>
 gQ a true (az 47 v1 0) λk=>
 gQ a true (az 45 k 1) λj=>
 gQ a true (aD b 3 j) λh=>
 gQ a true (az 47 v1 1) λi=>
 gQ a true (aD b 3 i) λp=>
 gQ a true (Pq 3 24 26 h p) λt=>
 gQ a true (Fb 3 21 27 e t) λl=>
 bG a l λu=>
 Q u b
theorem yz(h : ∀g:ef,jZ x0 x1 H Q):dX Tryz.f163 0 [(0,x0),(1,x1)] H Q:=iT (by kernel_rfl) h
end Go.Proofs.YtdbiffjdomokfaaGreat
namespace Go.Proofs.YtdbiffjdomokfaaGreat
open Go.Ab
variable(dep:Nat)(g:Nat->AV)(x0 x1:AV)(H:ai)(Q:AV->ai->Prop)
def zG:Prop:=
 bH H 1 56 x0 λv1 b=>
 aq b 56 v1 λv2=>
 Eh 140 0 v2 λd=>
 bJ true b 8 82 [d] λa c=>
 bL a 0 λh=>
 bL a 1 λf=>
 kK f λe=>
 br (some e) (
 Q (.v (.int .i64 8)) c) (
 Q (.v (.int .i64 0)) c)
theorem EN(h : ∀g:ef,zG x0 H Q):dX Tryz.f44 0 [(0,x0)] H Q:=iT (by kernel_rfl) h
def AF:Prop:=
 bH H 1 56 x0 λv1 i=>
 eg i 2 56 λv2 d=>
 ar 56 v1 2 λf=>
 aq d 50 f λh=>
 bJ true d 5 78 [h] λe k=>
 ar 56 v1 2 λl=>
 aP k 50 l e λm b=>
 aq b 56 v1 λj=>
 aP b 56 v2 j λn c=>
 gD c v2 56 λa=>
 Q a c
theorem FY(h : ∀g:ef,AF x0 H Q):dX Tryz.f45 0 [(0,x0)] H Q:=iT (by kernel_rfl) h
def mo:Prop:=
 bH H 2 29 x0 λv1 E=>
 bH E 3 54 x1 λv2 F=>
 eg F 4 29 λd w=>
 aq w 29 v1 λD=>
 bJ false w 11 41 [D] λC t=>
 aq t 54 v2 λB=>
 bJ false t 13 96 [B] λy k=>
 KO k 14 23 23 C y λu=>
 lW 23 15 0 u λA=>
 br (some A) (
 pZ 29 λb=>
 aP k 29 d b λl m=>
 gD m d 29 λa=>
 Q (.tup [a,u]) m) (
 aq k 29 v1 λb=>
 aq k 54 v2 λl=>
 bJ true k 21 97 [b,l] λa m=>
 hZ (sR env.P (some a) 29 true) λf=>
 bL f 0 λo=>
 bL f 1 λq=>
 eg m 8 29 λj z=>
 aP z 29 j o λx p=>
 br (some q) (
 aq p 29 j λc=>
 aP p 29 d c λi e=>
 gD e d 29 λh=>
 Q (.tup [h,(.v (.int .i64 0))]) e) (
 pZ 29 λc=>
 hZ (sR env.P (some a) 23 false) λi=>
 aP p 29 d c λh e=>
 gD e d 29 λn=>
 Q (.tup [n,i]) e))
theorem z9(h : ∀g:ef,mo x0 x1 H Q):dX Tryz.f80 0 [(0,x0),(1,x1)] H Q:=iT (by kernel_rfl) h
def vp:Prop:=
 bH H 1 54 x0 λv1 f=>
 ar 54 v1 1 λv2=>
 ar 52 v2 1 λD=>
 aq f 4 D λd=>
 gQ d false (az 54 v1 1) λC=>
 gQ d false (az 52 C 0) λB=>
 gQ d false (aD f 35 B) λz=>
 gW d false f (fg false f 11 91 []) λE e=>
 gQ d false (jG 35 10 11 z E) λA=>
 ek d A λh=>
 ar 54 v1 0 λt=>
 aq e 3 t λo=>
 Fh 3 15 0 o λb=>
 gQ b false (az 54 v1 0) λn=>
 gQ b false (aD e 3 n) λw=>
 gQ b false (vK 3 19 8 w) λp=>
 ek b p λa=>
 gQ a false (az 54 v1 1) λl=>
 gQ a false (az 52 l 0) λk=>
 gQ a false (aD e 35 k) λi=>
 gW a false e (fg true e 26 33 [i]) λj y=>
 gQ a false (Ff 23 26 0 j) λq=>
 ek a q λc=>
 gQ c false (bg h) λm=>
 gQ c false (rX m) λx=>
 ek c x λu=>
 br (some u) (
 Q (.v (.int .i64 8)) y) (
 Q (.v (.int .i64 0)) y)
theorem F4(h : ∀g:ef,vp x0 H Q):dX Tryz.f96 0 [(0,x0)] H Q:=iT (by kernel_rfl) h
def mm:Prop:=
 bH H 2 29 x0 λv1 D=>
 bH D 3 54 x1 λv2 a=>
 ar 54 v2 0 λJ=>
 aq a 3 J λK=>
 ar 29 v1 0 λB=>
 aq a 26 B λA=>
 eR a 10 26 A λG=>
 hZ (bS env.P .geq 3 (Operand.tmp 7) (Operand.tmp 10) (some K) (some G)) λE=>
 br (some E) (
 hZ (sI env.P 23 (some (AV.v (Value.int IntKind.i64 2)))) λh=>
 Q h a) (
 ar 29 v1 2 λh=>
 aq a 3 h λd=>
 uw 3 15 0 d λt=>
 br (some t) (
 hZ (sI env.P 23 (some (AV.v (Value.int IntKind.i64 9)))) λb=>
 Q b a) (
 aq a 29 v1 λb=>
 bJ true a 19 42 [b] λm F=>
 aP F 29 v1 m λI c=>
 ar 29 v1 0 λx=>
 aq c 26 x λi=>
 ar 54 v2 0 λe=>
 aq c 3 e λq=>
 ar 54 v2 1 λp=>
 aq c 52 p λn=>
 bC c 26 i q λo=>
 aP c 52 o n λC z=>
 ar 29 v1 2 λw=>
 aq z 3 w λf=>
 Fg 3 28 1 f λl=>
 ar 29 v1 2 λk=>
 aP z 3 k l λL y=>
 aq y 29 v1 λu=>
 hZ (sI env.P 29 (some u)) λj=>
 Q j y))
theorem nO(h : ∀g:ef,mm x0 x1 H Q):dX Tryz.f97 0 [(0,x0),(1,x1)] H Q:=iT (by kernel_rfl) h
def zj:Prop:=
 bH H 1 54 x0 λv1 y=>
 aq y 54 v1 λv2=>
 bJ true y 9 96 [v2] λx q=>
 lW 23 10 0 x λC=>
 br (some C) (
 Q (.tup [(.v (.slice none 0 0)),x]) q) (
 ar 54 v1 1 λB=>
 ar 52 B 1 λA=>
 aq q 4 A λz=>
 br (some z) (
 ar 54 v1 1 λw=>
 ar 52 w 0 λt=>
 aq q 35 t λd=>
 Eh 40 0 d λo=>
 bJ true q 21 98 [o] λb c=>
 bL b 0 λa=>
 bL b 1 λl=>
 ar 54 v1 0 λp=>
 aq c 3 p λm=>
 p5 c 26 3 5 m λe=>
 lQ (oS env.P true false c (Ref.mk 0 28 (ai.gen c 0 28) 0) 137 2 (some [(0,e),(1,(a8 1))])) λk f=>
 eR f 31 137 a λj=>
 Fg 3 31 1 j λh=>
 Fc f 137 a h λi=>
 lL f 34 137 137 k i λn u=>
 Q (.tup [n,l]) u) (
 ar 54 v1 1 λw=>
 ar 52 w 0 λt=>
 aq q 35 t λd=>
 Eh 40 0 d λo=>
 bJ true q 21 98 [o] λb c=>
 bL b 0 λa=>
 bL b 1 λl=>
 ar 54 v1 0 λp=>
 aq c 3 p λm=>
 p5 c 26 3 5 m λe=>
 lQ (oS env.P true false c (Ref.mk 0 28 (ai.gen c 0 28) 0) 137 2 (some [(0,e),(1,(a8 0))])) λk f=>
 eR f 31 137 a λj=>
 Fg 3 31 1 j λh=>
 Fc f 137 a h λi=>
 lL f 34 137 137 k i λn u=>
 Q (.tup [n,l]) u))
theorem JP(h : ∀g:ef,zj x0 H Q):dX Tryz.f101 0 [(0,x0)] H Q:=iT (by kernel_rfl) h
def mi:Prop:=
 bH H 2 56 x0 λv1 F=>
 bH F 3 56 x1 λv2 d=>
 ar 56 v1 0 λI=>
 aq d 5 I λJ=>
 ar 56 v2 0 λE=>
 aq d 5 E λD=>
 qG 5 6 8 J D λe=>
 gQ e true (az 56 v1 1) λG=>
 gQ e true (aD d 3 G) λC=>
 gQ e true (az 56 v2 1) λh=>
 gQ e true (aD d 3 h) λw=>
 gQ e true (jG 3 12 14 C w) λk=>
 bG e k λb=>
 gQ b true (az 56 v1 2) λv=>
 gQ b true (aD d 50 v) λB=>
 gQ b true (az 56 v2 2) λl=>
 gQ b true (aD d 50 l) λi=>
 gW b true d (fg true d 22 123 [B,i]) λu f=>
 bG b u λc=>
 gQ c true (az 56 v1 3) λp=>
 gQ c true (aD f 23 p) λt=>
 gQ c true (az 56 v2 3) λn=>
 gQ c true (aD f 23 n) λy=>
 gQ c true (jG 23 26 28 t y) λj=>
 bG c j λa=>
 gQ a true (az 56 v1 4) λo=>
 gQ a true (aD f 54 o) λz=>
 gQ a true (az 56 v2 4) λx=>
 gQ a true (aD f 54 x) λm=>
 gQ a true (jG 54 33 35 z m) λA=>
 bG a A λq=>
 Q q f
theorem FZ(h : ∀g:ef,mi x0 x1 H Q):dX Tryz.f102 0 [(0,x0),(1,x1)] H Q:=iT (by kernel_rfl) h
end Go.Proofs.YtdbiffjdomokfaaGreat
namespace Go.Proofs.YtdbiffjdomokfaaGreat
open Go.Ab
variable(dep:Nat)(g:Nat->AV)(x0 x1 x2 x6 x8 x21 x22:AV)(H:ai)(Q:AV->ai->Prop)
noncomputable def E0:Code:=(Tryz.f7.body).getD .skip
noncomputable def jx:=rV Tryz.f7 5
def zF:Nat->Option (List Nat):=λi=>cond (Nat.beq i 5) (some [6,8,22]) (none)
def pO:Prop:=
 bH H 3 29 x0 λv1 n=>
 bH n 5 35 x2 λv2 p=>
 eg p 6 22 λb f=>
 aq f 29 v1 λm=>
 aq f 35 v2 λl=>
 bJ true f 14 21 [m,x1,l] λi d=>
 bL i 0 λh=>
 bL i 1 λj=>
 lW 23 17 0 j λk=>
 br (some k) (
 aq d 22 b λa=>
 aP d 22 b a λo c=>
 gD c b 22 λe=>
 Q (.tup [e,j]) c) (
 bJ true d 22 23 [h] λa c=>
  bB env Tryz.f7 0 jx [(6,b),(8,h),(22,a)] c Q)
theorem EV(h : ∀g:ef,pO x0 x1 x2 H Q):dX Tryz.f7 0 [(0,x0),(1,x1),(2,x2)] H Q:=tV zF (by kernel_rfl) h
def Dj:Prop:=
 lQ (zx env.P H 73 (some x22) true) λv1 h=>
 bL v1 1 λv2=>
 br (some v2) (
 bL v1 0 λt=>
 eg h 9 67 λl n=>
 aP n 67 l t λw a=>
 ar 67 l 1 λq=>
 aq a 3 q λp=>
 uw 3 32 0 p λu=>
 br (some u) (
 rZ a 22 x6 0 λk=>
 aq a 3 k λd=>
 dz 3 35 1 d λe=>
 rZ a 22 x6 0 λb=>
 aP a 3 b e λc j=>
  bB env Tryz.f7 0 jx [(6,x6),(8,x8),(22,x22)] j Q) (
 ar 67 l 2 λk=>
 aq a 23 k λd=>
 uw 23 40 0 d λe=>
 br (some e) (
 rZ a 22 x6 1 λb=>
 aq a 3 b λc=>
 dz 3 43 1 c λi=>
 rZ a 22 x6 1 λf=>
 aP a 3 f i λm j=>
  bB env Tryz.f7 0 jx [(6,x6),(8,x8),(22,x22)] j Q) (
 rZ a 22 x6 2 λb=>
 aq a 3 b λc=>
 dz 3 27 1 c λi=>
 rZ a 22 x6 2 λf=>
 aP a 3 f i λm j=>
  bB env Tryz.f7 0 jx [(6,x6),(8,x8),(22,x22)] j Q))) (
 eR h 47 31 x8 λt=>
 rZ h 22 x6 0 λl=>
 aq h 3 l λw=>
 Ei 3 47 49 t w λq=>
 rZ h 22 x6 1 λp=>
 aq h 3 p λu=>
 Ei 3 50 52 q u λk=>
 rZ h 22 x6 2 λd=>
 aq h 3 d λe=>
 Ei 3 53 55 k e λb=>
 rZ h 22 x6 3 λc=>
 aP h 3 c b λi n=>
 aq n 22 x6 λf=>
 aP n 22 x6 f λm a=>
 gD a x6 22 λo=>
 Q (.tup [o,(.v (.int .i64 0))]) a)
theorem vT(h : ∀g:ef,Dj x6 x8 x22 H Q):bB env Tryz.f7 0 jx [(6,x6),(8,x8),(22,x22)] H Q:=sc zF (by kernel_rfl) h
noncomputable def Hk:Code:=(Tryz.f10.body).getD .skip
noncomputable def oF:=rV Tryz.f10 5
def As:Nat->Option (List Nat):=λi=>cond (Nat.beq i 5) (some [6,21]) (none)
def rS:Prop:=
 bH H 3 29 x0 λv1 j=>
 bH j 5 35 x2 λv2 a=>
 aq a 29 v1 λe=>
 aq a 35 v2 λf=>
 bJ true a 14 21 [e,x1,f] λb d=>
 bL b 0 λl=>
 bL b 1 λc=>
 lW 23 17 0 c λk=>
 br (some k) (
 Q (.tup [(.v (.slice none 0 0)),c]) d) (
 bJ true d 21 23 [l] λh i=>
  bB env Tryz.f10 0 oF [(6,(.v (.slice none 0 0))),(21,h)] i Q)
theorem F6(h : ∀g:ef,rS x0 x1 x2 H Q):dX Tryz.f10 0 [(0,x0),(1,x1),(2,x2)] H Q:=tV As (by kernel_rfl) h
def Ee:Prop:=
 lQ (zx env.P H 73 (some x21) true) λv1 b=>
 bL v1 1 λv2=>
 br (some v2) (
 bL v1 0 λd=>
 eg b 9 67 λa j=>
 aP j 67 a d λl c=>
 aq c 67 a λk=>
 rY c 27 36 1 0 k λf e=>
 lL e 28 36 36 x6 f λi h=>
  bB env Tryz.f10 0 oF [(6,i),(21,x21)] h Q) (
 Q (.tup [x6,(.v (.int .i64 0))]) b)
theorem xL(h : ∀g:ef,Ee x6 x21 H Q):bB env Tryz.f10 0 oF [(6,x6),(21,x21)] H Q:=sc As (by kernel_rfl) h
noncomputable def iw:=rV Tryz.f17 4
def qc:Nat->Option (List Nat):=λi=>cond (Nat.beq i 4) (some [5,1,0]) (none)
def mr:Prop:=
 eR H 7 36 x0 λv1=>
 eR H 9 36 x1 λv2=>
 xf 3 7 9 v1 v2 λa=>
 br (some a) (
 Q (.v (.bool false)) H) (
  bB env Tryz.f17 0 iw [(5,(.v (.int .i64 0))),(1,x1),(0,x0)] H Q)
theorem xw(h : ∀g:ef,mr x0 x1 H Q):dX Tryz.f17 0 [(0,x0),(1,x1)] H Q:=tV qc (by kernel_rfl) h
def kT(g:Nat->AV)(a x1 x0:AV)(H:ai)(Q:AV->ai->Prop):Prop:=
 eR H 13 36 x0 λv1=>
 dG 3 11 13 a v1 λv2=>
 br (some v2) (
 bC H 36 x0 a λe=>
 aq H 67 e λf=>
 bC H 36 x1 a λd=>
 aq H 67 d λc=>
 xf 67 20 24 f c λb=>
 br (some b) (
 Q (.v (.bool false)) H) (
 dz 3 15 1 a λh=>
  bB env Tryz.f17 0 iw [(5,h),(1,x1),(0,x0)] H Q)) (
 Q (.v (.bool true)) H)
theorem oO(a x1 x0:AV)(H:ai)(Q:AV->ai->Prop)(h : ∀g,kT g a x1 x0 H Q):bB env Tryz.f17 0 iw [(5,a),(1,x1),(0,x0)] H Q:=sc qc (by kernel_rfl) h
end Go.Proofs.YtdbiffjdomokfaaGreat
namespace Go.Proofs.YtdbiffjdomokfaaGreat
open Go.Ab
variable(dep:Nat)(g:Nat->AV)(x0 x1 x2:AV)(H:ai)(Q:AV->ai->Prop)
def pH:Prop:=
 bH H 1 29 x0 λv1 b=>
 ar 29 v1 0 λv2=>
 aq b 26 v2 λd=>
 eR b 5 26 d λe=>
 B6 3 5 100 e λa=>
 gQ a false (az 29 v1 1) λj=>
 gQ a false (aD b 27 j) λf=>
 gQ a false (zn b 10 27 f) λh=>
 gQ a false (zW 3 10 100 h) λi=>
 ek a i λc=>
 Q c b
theorem wQ(h : ∀g:ef,pH x0 H Q):dX Tryz.f25 0 [(0,x0)] H Q:=iT (by kernel_rfl) h
noncomputable def nE:=rV Tryz.f41 3
noncomputable def nD:=rV Tryz.f41 8
noncomputable def mN:=rV Tryz.f41 14
def pK:Nat->Option (List Nat):=λi=>cond (Nat.beq i 3) (some [27,3,25,1,26]) (cond (Nat.beq i 8) (some [40,1,3,38,39]) (cond (Nat.beq i 14) (some [87,8,85,1,3,86]) (none)))
def zK:Prop:=
 bH H 1 29 x0 λv1 a=>
 ar 29 v1 0 λv2=>
 aq a 26 v2 λq=>
 eR a 13 26 q λt=>
 Sr 3 13 8 t λp=>
 ar 29 v1 1 λo=>
 aq a 27 o λm=>
 eR a 17 27 m λu=>
 Sr 3 17 8 u λn=>
 ar 29 v1 2 λc=>
 aq a 3 c λj=>
 bJ false a 21 65 [j,(.v (.int .i64 64))] λi l=>
 lQ (oS env.P true false l (Ref.mk 0 22 (ai.gen l 0 22) 0) 148 3 (some [(0,p),(1,n),(2,i)])) λe w=>
 bJ false w 23 64 [e] λh f=>
 ar 29 v1 0 λk=>
 aq f 26 k λb=>
 eR f 26 26 b λd=>
  bB env Tryz.f41 0 nE [(27,(.v (.int .i64 0))),(3,h),(25,b),(1,v1),(26,d)] f Q
theorem ES(h : ∀g:ef,zK x0 H Q):dX Tryz.f41 0 [(0,x0)] H Q:=tV pK (by kernel_rfl) h
def rF(g:Nat->AV)(a f b x1 c:AV)(H:ai)(Q:AV->ai->Prop):Prop:=
 dG 3 27 26 a c λv1=>
 br (some v1) (
 bC H 26 b a λv2=>
 aq H 52 v2 λd=>
 eg H 5 52 λe l=>
 aP l 52 e d λo h=>
 gQ f true (aD h 52 e) λk=>
 gW f true h (fg true h 34 66 [k]) λi n=>
 bG f i λm=>
 dz 3 27 1 a λj=>
  bB env Tryz.f41 0 nE [(27,j),(3,m),(25,b),(1,x1),(26,c)] n Q) (
 ar 29 x1 1 λv2=>
 aq H 27 v2 λd=>
 eR H 39 27 d λe=>
  bB env Tryz.f41 0 nD [(40,(.v (.int .i64 0))),(1,x1),(3,f),(38,d),(39,e)] H Q)
theorem vR(c d b x1 a:AV)(H:ai)(Q:AV->ai->Prop)(h : ∀g,rF g c d b x1 a H Q):bB env Tryz.f41 0 nE [(27,c),(3,d),(25,b),(1,x1),(26,a)] H Q:=sc pK (by kernel_rfl) h
def jz(g:Nat->AV)(c x1 b h f:AV)(H:ai)(Q:AV->ai->Prop):Prop:=
 dG 3 40 39 c f λv1=>
 br (some v1) (
 bC H 27 h c λv2=>
 aq H 76 v2 λO=>
 eg H 7 76 λe H1=>
 aP H1 76 e O λZ X=>
 gQ b true (az 76 e 0) λn=>
 gQ b true (aD X 35 n) λC=>
 gW b true X (fg false X 49 33 [C]) λi z=>
 gQ b true (qH 23 49 0 i) λm=>
 gQ b true (az 76 e 1) λj=>
 gQ b true (aD z 3 j) λS=>
 gW b true z (fg false z 53 65 [S,(.v (.int .i64 64))]) λo D=>
 gQ b true (az 76 e 2) λB=>
 gQ b true (aD D 3 B) λM=>
 gW b true D (fg false D 56 65 [M,(.v (.int .i64 256))]) λY R=>
 gQ b true (az 76 e 3) λp=>
 gQ b true (aD R 3 p) λk=>
 gW b true R (fg false R 59 65 [k,(.v (.int .i64 4096))]) λI d=>
 gQ b true (bg c) λG=>
 gQ b true (qH 3 60 0 G) λE=>
 gQ b true (bg E) λa=>
 gQ a false (az 29 x1 1) λt=>
 gQ a false (aD d 27 t) λU=>
 gQ a false (bg c) λl=>
 gQ a false (Sp 3 65 1 l) λA=>
 gQ a false (ck env.P true (ai.get d) (Ref.mk 0 67 (ai.gen d 0 67) 0) .max #[3,3] [A,(.v (.int .i64 0))]) λw=>
 gQ a false (qF d 27 U w) λV=>
 gQ a false (az 76 V 0) λT=>
 gQ a false (aD d 35 T) λq=>
 gQ a false (az 76 e 0) λW=>
 gQ a false (aD d 35 W) λF=>
 gW a false d (fg false d 73 67 [q,F]) λu K=>
 gQ b true (KN a u) λL=>
 gW b true K (oS env.P true false K (Ref.mk 0 75 (ai.gen K 0 75) 0) 148 5 (some [(0,m),(1,o),(2,Y),(3,I),(4,L)])) λy H8=>
 gW b true H8 (fg false H8 76 64 [y]) λN H9=>
 bG b N λx=>
 dz 3 40 1 c λJ=>
  bB env Tryz.f41 0 nD [(40,J),(1,x1),(3,x),(38,h),(39,f)] H9 Q) (
 ar 29 x1 1 λv2=>
 aq H 27 v2 λO=>
 ar 29 x1 1 λe=>
 aq H 27 e λZ=>
 eR H 83 27 Z λn=>
 hZ (ck env.P false (ai.get H) (Ref.mk 0 84 (ai.gen H 0 84) 0) .min #[3,3] [n,(.v (.int .i64 8))]) λC=>
 Fc H 27 O C λi=>
 eR H 86 27 i λm=>
  bB env Tryz.f41 0 mN [(87,(.v (.int .i64 0))),(8,(.v (.int .i64 0))),(85,i),(1,x1),(3,b),(86,m)] H Q)
theorem vQ(b x1 d a c:AV)(H:ai)(Q:AV->ai->Prop)(h : ∀g,jz g b x1 d a c H Q):bB env Tryz.f41 0 nD [(40,b),(1,x1),(3,d),(38,a),(39,c)] H Q:=sc pK (by kernel_rfl) h
def pY(g:Nat->AV)(a o d x1 q e:AV)(H:ai)(Q:AV->ai->Prop):Prop:=
 dG 3 87 86 a e λv1=>
 br (some v1) (
 bC H 27 d a λv2=>
 aq H 76 v2 λl=>
 eg H 10 76 λf h=>
 aP h 76 f l λp b=>
 ar 76 f 3 λc=>
 aq b 3 c λj=>
 hZ (ck env.P false (ai.get b) (Ref.mk 0 94 (ai.gen b 0 94) 0) .max #[3,3] [j,(.v (.int .i64 0))]) λn=>
 hZ (ck env.P false (ai.get b) (Ref.mk 0 95 (ai.gen b 0 95) 0) .min #[3,3] [n,(.v (.int .i64 4096))]) λk=>
 p4 3 91 95 o k λi=>
 dz 3 87 1 a λm=>
  bB env Tryz.f41 0 mN [(87,m),(8,i),(85,d),(1,x1),(3,q),(86,e)] b Q) (
 kK q λv2=>
 gQ v2 false (aD H 29 x1) λl=>
 gW v2 false H (fg true H 102 68 [l]) λf h=>
 gQ v2 false (zW 3 102 2048 f) λp=>
 ek v2 p λc=>
 gQ c false (bg o) λj=>
 gQ c false (zW 3 106 8192 j) λn=>
 ek c n λk=>
 br (some k) (
 Q (.v (.int .i64 8)) h) (
 Q (.v (.int .i64 0)) h))
theorem uG(a d b x1 e c:AV)(H:ai)(Q:AV->ai->Prop)(h : ∀g,pY g a d b x1 e c H Q):bB env Tryz.f41 0 mN [(87,a),(8,d),(85,b),(1,x1),(3,e),(86,c)] H Q:=sc pK (by kernel_rfl) h
def AH:Prop:=
 bH H 1 29 x0 λv1 v=>
 eg v 2 29 λv2 f=>
 ar 29 v1 0 λp=>
 aq f 26 p λq=>
 bJ false f 5 69 [q] λo e=>
 ar 29 v1 1 λn=>
 aq e 27 n λj=>
 bJ false e 8 70 [j] λw k=>
 ar 29 v1 0 λl=>
 aP k 26 l o λi u=>
 ar 29 v1 1 λb=>
 aP u 27 b w λt h=>
 aq h 29 v1 λa=>
 aP h 29 v2 a λm d=>
 gD d v2 29 λc=>
 Q c d
theorem F1(h : ∀g:ef,AH x0 H Q):dX Tryz.f42 0 [(0,x0)] H Q:=iT (by kernel_rfl) h
def BB:Prop:=
 bJ true H 4 90 [x0,(.v (.bool false))] λv1 a=>
 kK v1 λv2=>
 Q v2 a
theorem HB(h : ∀g:ef,BB x0 H Q):dX Tryz.f64 0 [(0,x0)] H Q:=iT (by kernel_rfl) h
def AG:Prop:=
 vM 3 5 0 x0 λv1=>
 gQ v1 true (bg x0) λv2=>
 gQ v1 true (bg x1) λb=>
 gQ v1 true (bS env.P .leq 3 (Operand.tmp 8) (Operand.tmp 9) (some v2) (some b)) λc=>
 bG v1 c λa=>
 Q a H
theorem F0(h : ∀g:ef,AG x0 x1 H Q):dX Tryz.f65 0 [(0,x0),(1,x1)] H Q:=iT (by kernel_rfl) h
def zH:Prop:=
 bH H 1 52 x0 λv1 j=>
 ar 52 v1 0 λv2=>
 aq j 35 v2 λn=>
 bJ false j 5 33 [n] λo c=>
 uw 23 5 0 o λa=>
 gQ a true (az 52 v1 1) λm=>
 gQ a true (aD c 4 m) λk=>
 gQ a true (bg k) λb=>
 gQ b false (az 52 v1 0) λl=>
 gQ b false (aD c 35 l) λd=>
 gW b false c (fg false c 13 91 []) λi p=>
 gQ b false (jG 35 12 13 d i) λh=>
 gQ a true (KN b h) λe=>
 bG a e λf=>
 Q f p
theorem EO(h : ∀g:ef,zH x0 H Q):dX Tryz.f66 0 [(0,x0)] H Q:=iT (by kernel_rfl) h
noncomputable def mM:=rV Tryz.f68 3
def xW:Nat->Option (List Nat):=λi=>cond (Nat.beq i 3) (some [11,3,9,10]) (none)
def ym:Prop:=
 bH H 1 29 x0 λv1 a=>
 ar 29 v1 2 λv2=>
 aq a 3 v2 λc=>
 ar 29 v1 1 λd=>
 aq a 27 d λb=>
 eR a 10 27 b λe=>
  bB env Tryz.f68 0 mM [(11,(.v (.int .i64 0))),(3,c),(9,b),(10,e)] a Q
theorem DC(h : ∀g:ef,ym x0 H Q):dX Tryz.f68 0 [(0,x0)] H Q:=tV xW (by kernel_rfl) h
def pX(g:Nat->AV)(a k j b:AV)(H:ai)(Q:AV->ai->Prop):Prop:=
 dG 3 11 10 a b λv1=>
 br (some v1) (
 bC H 27 j a λv2=>
 aq H 76 v2 λo=>
 eg H 5 76 λe p=>
 aP p 76 e o λt i=>
 ar 76 e 1 λn=>
 aq i 3 n λl=>
 ar 76 e 2 λq=>
 aq i 3 q λm=>
 Sq 3 4 19 m λc=>
 p4 3 17 20 l c λh=>
 p4 3 15 21 k h λf=>
 dz 3 11 1 a λd=>
  bB env Tryz.f68 0 mM [(11,d),(3,f),(9,j),(10,b)] i Q) (
 Q k H)
theorem uF(a d c b:AV)(H:ai)(Q:AV->ai->Prop)(h : ∀g,pX g a d c b H Q):bB env Tryz.f68 0 mM [(11,a),(3,d),(9,c),(10,b)] H Q:=sc xW (by kernel_rfl) h
def bz:Prop:=
 So 26 3 x0 λv1=>
 br (some v1) (
 Q (.v (.slice none 0 0)) H) (
 Sj H 5 26 0 λv2 b=>
 lL b 7 26 26 v2 x0 λa c=>
 Q a c)
theorem bV(h : ∀g:ef,bz x0 H Q):dX Tryz.f69 0 [(0,x0)] H Q:=iT (by kernel_rfl) h
def bx:Prop:=
 So 27 3 x0 λv1=>
 br (some v1) (
 Q (.v (.slice none 0 0)) H) (
 Sj H 5 27 0 λv2 b=>
 lL b 7 27 27 v2 x0 λa c=>
 Q a c)
theorem bU(h : ∀g:ef,bx x0 H Q):dX Tryz.f70 0 [(0,x0)] H Q:=iT (by kernel_rfl) h
def lS:Prop:=
 bJ true H 7 110 [x0,x1] λv1 a=>
 vM 3 7 0 v1 λv2=>
 Q v2 a
theorem rU(h : ∀g:ef,lS x0 x1 H Q):dX Tryz.f90 0 [(0,x0),(1,x1)] H Q:=iT (by kernel_rfl) h
def zJ:Prop:=
 bH H 2 29 x0 λv1 A=>
 bH A 3 35 x1 λv2 F=>
 eg F 4 76 λd q=>
 aq q 29 v1 λE=>
 aq q 35 v2 λz=>
 bJ true q 11 111 [E,z] λx j=>
 lW 23 12 0 x λC=>
 br (some C) (
 pZ 76 λp=>
 aP j 76 d p λw l=>
 gD l d 76 λb=>
 Q (.tup [b,x]) l) (
 ar 29 v1 1 λp=>
 aq j 27 p λw=>
 aq j 35 v2 λb=>
 bJ true j 20 112 [w,b,(.fn (.func 113) [] [])] λi l=>
 bL i 0 λm=>
 bL i 1 λt=>
 eg l 7 76 λa B=>
 aP B 76 a m λG k=>
 kK t λn=>
 br (some n) (
 aq k 35 v2 λc=>
 ar 76 a 0 λh=>
 aP k 35 h c λf e=>
 aq e 76 a λu=>
 aP e 76 d u λD y=>
 gD y d 76 λo=>
 Q (.tup [o,(.v (.int .i64 0))]) y) (
 aq k 76 a λc=>
 aP k 76 d c λh e=>
 gD e d 76 λf=>
 Q (.tup [f,(.v (.int .i64 0))]) e))
theorem ER(h : ∀g:ef,zJ x0 x1 H Q):dX Tryz.f92 0 [(0,x0),(1,x1)] H Q:=iT (by kernel_rfl) h
def BC:Prop:=
 bH H 3 29 x0 λv1 B=>
 bH B 5 35 x2 λv2 w=>
 aq w 29 v1 λG=>
 aq w 35 v2 λI=>
 bJ true w 12 111 [G,I] λy b=>
 lW 23 13 0 y λA=>
 br (some A) (
 Q (.tup [(.v (.bool false)),y]) b) (
 Fh 3 16 0 x1 λd=>
 gQ d false (bg x1) λC=>
 gQ d false (az 29 v1 0) λz=>
 gQ d false (aD b 26 z) λf=>
 gQ d false (zn b 22 26 f) λt=>
 gQ d false (Pp 3 19 22 C t) λj=>
 ek d j λo=>
 br (some o) (
 Q (.tup [(.v (.bool false)),(.v (.int .i64 0))]) b) (
 ar 29 v1 0 λq=>
 aq b 26 q λx=>
 bC b 26 x x1 λk=>
 aq b 52 k λh=>
 eg b 9 52 λc E=>
 aP E 52 c h λF e=>
 ar 52 c 1 λp=>
 aq e 4 p λa=>
 gQ a true (aD e 35 v2) λl=>
 gQ a true (az 52 c 0) λu=>
 gQ a true (aD e 35 u) λi=>
 gW a true e (fg true e 36 20 [l,i]) λn D=>
 bG a n λm=>
 Q (.tup [m,(.v (.int .i64 0))]) D))
theorem HC(h : ∀g:ef,BC x0 x1 x2 H Q):dX Tryz.f93 0 [(0,x0),(1,x1),(2,x2)] H Q:=iT (by kernel_rfl) h
noncomputable def fj:=rV Tryz.f110 2
def mW:Nat->Option (List Nat):=λi=>cond (Nat.beq i 2) (some [8,0,1,7]) (none)
def m5:Prop:=
 eR H 7 148 x0 λv1=>
  bB env Tryz.f110 0 fj [(8,(.v (.int .i64 0))),(0,x0),(1,x1),(7,v1)] H Q
theorem tC(h : ∀g:ef,m5 x0 x1 H Q):dX Tryz.f110 0 [(0,x0),(1,x1)] H Q:=tV mW (by kernel_rfl) h
def iO(g:Nat->AV)(a x0 x1 b:AV)(H:ai)(Q:AV->ai->Prop):Prop:=
 dG 3 8 7 a b λv1=>
 br (some v1) (
 bC H 148 x0 a λv2=>
 aq H 4 v2 λd=>
 qG 4 11 15 x1 d λe=>
 br (some e) (
 Q a H) (
 dz 3 8 1 a λc=>
  bB env Tryz.f110 0 fj [(8,c),(0,x0),(1,x1),(7,b)] H Q)) (
 Q (.v (.int .i64 (-1))) H)
theorem lY(b x0 x1 a:AV)(H:ai)(Q:AV->ai->Prop)(h : ∀g,iO g b x0 x1 a H Q):bB env Tryz.f110 0 fj [(8,b),(0,x0),(1,x1),(7,a)] H Q:=sc mW (by kernel_rfl) h
def zI:Prop:=
 bH H 2 29 x0 λv1 i=>
 bH i 3 35 x1 λv2 c=>
 aq c 29 v1 λe=>
 bJ false c 6 41 [e] λf b=>
 aq b 35 v2 λd=>
 bJ false b 8 33 [d] λj a=>
 KO a 9 23 23 f j λh=>
 Q h a
theorem EP(h : ∀g:ef,zI x0 x1 H Q):dX Tryz.f111 0 [(0,x0),(1,x1)] H Q:=iT (by kernel_rfl) h
def dU:Prop:=
 bH H 4 35 x1 λv1 l=>
 bH l 5 178 x2 λv2 n=>
 eg n 6 76 λb m=>
 hZ (xR (.func 129) (some []) (some [v2,v1])) λk=>
 bJ true m 11 128 [x0,k] λh a=>
 Fh 3 12 0 h λj=>
 br (some j) (
 aq a 76 b λe=>
 aP a 76 b e λi c=>
 gD c b 76 λf=>
 Q (.tup [f,(.v (.bool false))]) c) (
 bC a 27 x0 h λe=>
 aq a 76 e λi=>
 aP a 76 b i λf c=>
 gD c b 76 λd=>
 Q (.tup [d,(.v (.bool true))]) c)
theorem iR(h : ∀g:ef,dU x0 x1 x2 H Q):dX Tryz.f112 0 [(0,x0),(1,x1),(2,x2)] H Q:=iT (by kernel_rfl) h
def wz:Prop:=
 bH H 1 76 x0 λv1 e=>
 eg e 2 35 λv2 b=>
 ar 76 v1 0 λc=>
 aq b 35 c λd=>
 aP b 35 v2 d λh a=>
 gD a v2 35 λf=>
 Q f a
theorem Cf(h : ∀g:ef,wz x0 H Q):dX Tryz.f113 0 [(0,x0)] H Q:=iT (by kernel_rfl) h
noncomputable def bm:=rV Tryz.f128 2
def cZ:Nat->Option (List Nat):=λi=>cond (Nat.beq i 2) (some [8,0,1,7]) (none)
def da:Prop:=
 eR H 7 27 x0 λv1=>
  bB env Tryz.f128 0 bm [(8,(.v (.int .i64 0))),(0,x0),(1,x1),(7,v1)] H Q
theorem gx(h : ∀g:ef,da x0 x1 H Q):dX Tryz.f128 0 [(0,x0),(1,x1)] H Q:=tV cZ (by kernel_rfl) h
def bP(g:Nat->AV)(a x0 x1 b:AV)(H:ai)(Q:AV->ai->Prop):Prop:=
 dG 3 8 7 a b λv1=>
 br (some v1) (
 bC H 27 x0 a λv2=>
 aq H 76 v2 λe=>
 KP H 16 x1 e λf c=>
 br (some f) (
 Q a c) (
 dz 3 8 1 a λd=>
  bB env Tryz.f128 0 bm [(8,d),(0,x0),(1,x1),(7,b)] c Q)) (
 Q (.v (.int .i64 (-1))) H)
theorem cR(b x0 x1 a:AV)(H:ai)(Q:AV->ai->Prop)(h : ∀g,bP g b x0 x1 a H Q):bB env Tryz.f128 0 bm [(8,b),(0,x0),(1,x1),(7,a)] H Q:=sc cZ (by kernel_rfl) h
def dH:Prop:=
 bH H 3 76 x0 λv1 a=>
 aq a 178 x1 λv2=>
 aq a 76 v1 λd=>
 lQ (bF env false (aF env) (cE env 0) a (Ref.mk 0 7 (ai.gen a 0 7) 0) (some v2) [d]) λe b=>
 aq b 35 x2 λc=>
 qG 35 7 8 e c λf=>
 Q f b
theorem iC(h : ∀g:ef,dH x0 x1 x2 H Q):dX Tryz.f129 0 [(0,x0),(1,x1),(2,x2)] H Q:=iT (by kernel_rfl) h
def wF:Prop:=
 bH H 3 50 x1 λv1 k=>
 bJ true k 10 114 [x0] λv2 c=>
 bL v2 0 λf=>
 bL v2 1 λh=>
 kK h λe=>
 br (some e) (
 Q (.v (.int .i64 8)) c) (
 aq c 50 v1 λm=>
 bJ true c 16 115 [m] λd b=>
 lW 23 17 0 d λl=>
 br (some l) (
 Q d b) (
 aq b 50 v1 λi=>
 bJ true b 22 116 [f,i] λa j=>
 Q a j))
theorem K9(h : ∀g:ef,wF x0 x1 H Q):dX Tryz.f94 0 [(0,x0),(1,x1)] H Q:=iT (by kernel_rfl) h
noncomputable def R6:Code:=(Tryz.f114.body).getD .skip
noncomputable def ot:=rV Tryz.f114 3
noncomputable def ri:=rV Tryz.f114 10
def DV:Nat->Option (List Nat):=λi=>cond (Nat.beq i 3) (some [4,14,12,13]) (cond (Nat.beq i 10) (some [44,4,42,12,13,14,43]) (none))
def Ji:Prop:=
 Ss H dep 9 λv1 d=>
 Eh 198 1 v1 λv2=>
 np d dep 11 198 v2 λb a=>
 Fe a dep 13 90 x0 λc=>
  bB env Tryz.f114 (dep+1) ot [(4,b),(14,(.v (.int .i64 0))),(12,x0),(13,c)] a Q
theorem Qz(h : ∀g:ef,Ji dep x0 H Q):dX Tryz.f114 (dep+1) [(0,x0)] H Q:=tV DV (by kernel_rfl) h
def wE(dep:Nat)(g:Nat->AV)(f a d b:AV)(H:ai)(Q:AV->ai->Prop):Prop:=
 dG 3 14 13 a b λv1=>
 br (some v1) (
 bC H 90 d a λv2=>
 aq H 50 v2 λP=>
 vL H dep 6 50 λe M=>
 aP M 50 e P λS F=>
 aq F 50 e λK=>
 lQ (bF env true (aF env) (cE env (dep+1)) F (⟨(dep+1),19,ai.gen F (dep+1) 19,0⟩:Ref) (some (.fn (.func 115) [] [])) [K]) λO j=>
 lW 23 19 0 O λh=>
 gQ h false (bg f) λJ=>
 gQ h false (aD j 50 e) λm=>
 gW h false j (bF env true (aF env) (cE env (dep+1)) j (⟨(dep+1),24,ai.gen j (dep+1) 24,0⟩:Ref) (some (.fn (.func 116) [] [])) [J,m]) λC k=>
 gQ h false (Ff 23 24 0 C) λp=>
 ek h p λw=>
 br (some w) (
 Q (.tup [(.v (.pointer none)),(.v (.bool false))]) k) (
 jF f λB=>
 ar 198 B 0 λG=>
 aq k 90 G λq=>
 aq k 50 e λn=>
 Sm k dep 33 90 1 0 n λA R=>
 Pu R dep 34 90 90 q A λz N=>
 jF f λx=>
 ar 198 x 0 λy=>
 aP N 90 y z λL l=>
 ar 50 e 0 λD=>
 aq l 5 D λo=>
 vJ 5 38 o λu=>
 br (some u) (
 ar 50 e 3 λc=>
 aq l 47 c λE=>
 XN dep l 42 E λi I=>
 Fe I dep 43 166 i λt=>
  bB env Tryz.f114 (dep+1) ri [(44,(.v (.int .i64 0))),(4,f),(42,i),(12,d),(13,b),(14,a),(43,t)] I Q) (
 dz 3 14 1 a λc=>
  bB env Tryz.f114 (dep+1) ot [(4,f),(14,c),(12,d),(13,b)] l Q))) (
 Q (.tup [f,(.v (.bool true))]) H)
theorem Ep(dep:Nat)(d c b a:AV)(H:ai)(Q:AV->ai->Prop)(h : ∀g,wE dep g d c b a H Q):bB env Tryz.f114 (dep+1) ot [(4,d),(14,c),(12,b),(13,a)] H Q:=sc DV (by kernel_rfl) h
def zk(dep:Nat)(g:Nat->AV)(a i f d c e b:AV)(H:ai)(Q:AV->ai->Prop):Prop:=
 dG 3 44 43 a b λv1=>
 br (some v1) (
 bC H 166 f a λv2=>
 aq H 45 v2 λp=>
 vL H dep 8 45 λk q=>
 aP q 45 k p λw j=>
 jF i λo=>
 ar 198 o 1 λm=>
 aq j 196 m λt=>
 aq j 45 k λn=>
 lQ (dM env.P j 196 (some t) (some n) (some (AV.v (Value.bool true)))) λl u=>
 dz 3 44 1 a λh=>
  bB env Tryz.f114 (dep+1) ri [(44,h),(4,i),(42,f),(12,d),(13,c),(14,e),(43,b)] u Q) (
 dz 3 14 1 e λv2=>
  bB env Tryz.f114 (dep+1) ot [(4,i),(14,v2),(12,d),(13,c)] H Q)
theorem Cm(dep:Nat)(e i f c b d a:AV)(H:ai)(Q:AV->ai->Prop)(h : ∀g,zk dep g e i f c b d a H Q):bB env Tryz.f114 (dep+1) ri [(44,e),(4,i),(42,f),(12,c),(13,b),(14,d),(43,a)] H Q:=sc DV (by kernel_rfl) h
noncomputable def qE:Code:=(Tryz.f116.body).getD .skip
def ew:Prop:=
 np H dep 3 50 x1 λv1 b=>
 hZ (lx env.P 206 (some [(1,(.fn (.func 133) [] [])),(2,(.fn (.func 134) [] [])),(3,(.fn (.func 135) [] []))])) λv2=>
 ar 50 v1 0 λo=>
 aq b 5 o λp=>
 hZ (qU env.P 206 (some v2) (some p)) λn=>
 aq b 50 v1 λm=>
 lQ (bF env true (aF env) (cE env (dep+1)) b (⟨(dep+1),12,ai.gen b (dep+1) 12,0⟩:Ref) (some n) [x0,m]) λk c=>
 uw 23 13 0 k λa=>
 gQ a true (bg x0) λl=>
 gQ a true (LM (some l)) λd=>
 gQ a true (az 198 d 0) λi=>
 gQ a true (aD c 90 i) λh=>
 gQ a true (XG c dep 20 90 h) λe=>
 gQ a true (vK 3 20 2048 e) λf=>
 bG a f λj=>
 br (some j) (
 Q (.v (.int .i64 4)) c) (
 Q k c)
theorem qB(h : ∀g:ef,ew dep x0 x1 H Q):dX Tryz.f116 (dep+1) [(0,x0),(1,x1)] H Q:=iT (by kernel_rfl) h
noncomputable def ov:=rV Tryz.f130 2
def CU:Nat->Option (List Nat):=λi=>cond (Nat.beq i 2) (some [8,2,1,7]) (none)
def Di:Prop:=
 bH H 1 47 x0 λv1 a=>
 ar 47 v1 1 λv2=>
 aq a 3 v2 λb=>
  bB env Tryz.f130 0 ov [(8,(.v (.int .i64 0))),(2,(.v (.slice none 0 0))),(1,v1),(7,b)] a Q
theorem JQ(h : ∀g:ef,Di x0 H Q):dX Tryz.f130 0 [(0,x0)] H Q:=tV CU (by kernel_rfl) h
def rI(g:Nat->AV)(b x2 x1 f:AV)(H:ai)(Q:AV->ai->Prop):Prop:=
 dG 3 8 7 b f λv1=>
 br (some v1) (
 aq H 47 x1 λv2=>
 bJ true H 14 145 [v2,b] λe m=>
 bL e 0 λk=>
 bL e 1 λq=>
 eg m 4 45 λd o=>
 aP o 45 d k λp h=>
 aq h 45 d λn=>
 rY h 19 166 1 0 n λj i=>
 lL i 20 166 166 x2 j λa l=>
 dz 3 8 1 b λc=>
  bB env Tryz.f130 0 ov [(8,c),(2,a),(1,x1),(7,f)] l Q) (
 Q x2 H)
theorem Aa(b x2 x1 a:AV)(H:ai)(Q:AV->ai->Prop)(h : ∀g,rI g b x2 x1 a H Q):bB env Tryz.f130 0 ov [(8,b),(2,x2),(1,x1),(7,a)] H Q:=sc CU (by kernel_rfl) h
noncomputable def pA:Code:=(Tryz.f133.body).getD .skip
def dV:Prop:=
 np H dep 2 179 x0 λv1 N=>
 np N dep 3 50 x1 λv2 d=>
 ar 50 v2 4 λT=>
 aq d 45 T λU=>
 pZ 45 λM=>
 xf 45 8 9 U M λb=>
 gQ b true (aD d 179 v1) λP=>
 gQ b true (aD d 50 v2) λO=>
 gQ b true (az 50 v2 4) λL=>
 gQ b true (aD d 45 L) λi=>
 gW b true d (bF env true (aF env) (cE env (dep+1)) d (⟨(dep+1),16,ai.gen d (dep+1) 16,0⟩:Ref) (some (.fn (.func 154) [] [])) [P,O,i]) λF f=>
 gQ b true (rX F) λl=>
 bG b l λx=>
 br (some x) (
 Q (.v (.int .i64 6)) f) (
 aq f 50 v2 λD=>
 lQ (bF env true (aF env) (cE env (dep+1)) f (⟨(dep+1),21,ai.gen f (dep+1) 21,0⟩:Ref) (some (.fn (.func 155) [] [])) [D]) λe R=>
 bL e 0 λm=>
 bL e 1 λj=>
 vL R dep 5 171 λA V=>
 aP V 171 A m λS h=>
 lW 23 24 0 j λa=>
 gQ a false (az 50 v2 3) λy=>
 gQ a false (aD h 47 y) λo=>
 gW a false h (bF env true (aF env) (cE env (dep+1)) h (⟨(dep+1),29,ai.gen h (dep+1) 29,0⟩:Ref) (some (.fn (.func 130) [] [])) [o]) λI B=>
 gQ a false (xR (.func 157) (some []) (some [v1])) λk=>
 gW a false B (bF env true (aF env) (cE env (dep+1)) B (⟨(dep+1),31,ai.gen B (dep+1) 31,0⟩:Ref) (some (.fn (.func 156) [] [])) [I,k]) λw c=>
 ek a w λq=>
 br (some q) (
 Q (.v (.int .i64 2)) c) (
 aq c 179 v1 λJ=>
 jF J λG=>
 ar 198 G 1 λn=>
 aq c 196 n λK=>
 Fe c dep 37 196 K λz=>
 ar 50 v2 3 λp=>
 ar 47 p 1 λC=>
 aq c 3 C λu=>
 p4 3 37 40 z u λE=>
 B6 3 41 8192 E λt=>
 br (some t) (
 Q (.v (.int .i64 4)) c) (
 Q (.v (.int .i64 0)) c)))
theorem pe(h : ∀g:ef,dV dep x0 x1 H Q):dX Tryz.f133 (dep+1) [(0,x0),(1,x1)] H Q:=iT (by kernel_rfl) h
noncomputable def pz:Code:=(Tryz.f134.body).getD .skip
def kq:Prop:=
 np H dep 3 50 x1 λv1 f=>
 aq f 50 v1 λv2=>
 XP dep f 8 x0 v2 λi a=>
 kK i λj=>
 br (some j) (
 Q (.v (.int .i64 6)) a) (
 ar 50 v1 3 λh=>
 ar 47 h 0 λn=>
 ar 45 n 0 λk=>
 ar 40 k 0 λm=>
 aq a 35 m λl=>
 ar 50 v1 1 λb=>
 ar 40 b 0 λe=>
 aq a 35 e λc=>
 xf 35 15 18 l c λd=>
 br (some d) (
 Q (.v (.int .i64 2)) a) (
 Q (.v (.int .i64 0)) a))
theorem pd(h : ∀g:ef,kq dep x0 x1 H Q):dX Tryz.f134 (dep+1) [(0,x0),(1,x1)] H Q:=iT (by kernel_rfl) h
noncomputable def pV:Code:=(Tryz.f135.body).getD .skip
def kH:Prop:=
 np H dep 3 50 x1 λv1 j=>
 aq j 50 v1 λv2=>
 XP dep j 9 x0 v2 λo b=>
 kK o λp=>
 br (some p) (
 Q (.v (.int .i64 6)) b) (
 jF x0 λn=>
 ar 198 n 0 λm=>
 aq b 90 m λl=>
 aq b 50 v1 λq=>
 lQ (bF env false (aF env) (cE env (dep+1)) b (⟨(dep+1),17,ai.gen b (dep+1) 17,0⟩:Ref) (some (.fn (.func 159) [] [])) [l,q]) λi k=>
 bL i 0 λc=>
 bL i 1 λf=>
 lW 23 20 0 f λa=>
 gQ a false (bg c) λd=>
 gQ a false (rX d) λe=>
 ek a e λh=>
 br (some h) (
 Q (.v (.int .i64 2)) k) (
 Q (.v (.int .i64 0)) k))
theorem pP(h : ∀g:ef,kH dep x0 x1 H Q):dX Tryz.f135 (dep+1) [(0,x0),(1,x1)] H Q:=iT (by kernel_rfl) h
noncomputable def qD:Code:=(Tryz.f154.body).getD .skip
def gy:Prop:=
 np H dep 4 50 x1 λv1 o=>
 np o dep 5 45 x2 λv2 b=>
 jF x0 λm=>
 ar 198 m 1 λn=>
 aq b 196 n λl=>
 aq b 45 v2 λk=>
 B3 b 196 l k λa=>
 gQ a true (az 45 v2 0) λp=>
 gQ a true (az 40 p 0) λj=>
 gQ a true (aD b 35 j) λc=>
 gQ a true (az 50 v1 1) λh=>
 gQ a true (az 40 h 0) λf=>
 gQ a true (aD b 35 f) λd=>
 gW a true b (bF env false (aF env) (cE env (dep+1)) b (⟨(dep+1),20,ai.gen b (dep+1) 20,0⟩:Ref) (some (.fn (.func 20) [] [])) [c,d]) λe q=>
 bG a e λi=>
 Q i q
theorem qA(h : ∀g:ef,gy dep x0 x1 x2 H Q):dX Tryz.f154 (dep+1) [(0,x0),(1,x1),(2,x2)] H Q:=iT (by kernel_rfl) h
noncomputable def ig:Code:=(Tryz.f156.body).getD .skip
def dw:Prop:=
 lQ (bF env true (aF env) (cE env (dep+1)) H (⟨(dep+1),7,ai.gen H (dep+1) 7,0⟩:Ref) (some (.fn (.func 166) [] [])) [x0,x1]) λv1 a=>
 vM 3 7 0 v1 λv2=>
 Q v2 a
theorem ic(h : ∀g:ef,dw dep x0 x1 H Q):dX Tryz.f156 (dep+1) [(0,x0),(1,x1)] H Q:=iT (by kernel_rfl) h
noncomputable def oK:Code:=(Tryz.f157.body).getD .skip
def jB:Prop:=
 np H dep 2 45 x0 λv1 a=>
 aq a 179 x1 λv2=>
 jF v2 λc=>
 ar 198 c 1 λd=>
 aq a 196 d λb=>
 aq a 45 v1 λf=>
 B3 a 196 b f λe=>
 Q e a
theorem oB(h : ∀g:ef,jB dep x0 x1 H Q):dX Tryz.f157 (dep+1) [(0,x0),(1,x1)] H Q:=iT (by kernel_rfl) h
noncomputable def rA:Code:=(Tryz.f158.body).getD .skip
def lg:Prop:=
 np H dep 2 179 x0 λv1 i=>
 np i dep 3 50 x1 λv2 b=>
 ar 50 v2 3 λd=>
 aq b 47 d λe=>
 XN dep b 7 e λc a=>
 hZ (xR (.func 167) (some []) (some [v1,v2])) λk=>
 lQ (bF env true (aF env) (cE env (dep+1)) a (⟨(dep+1),9,ai.gen a (dep+1) 9,0⟩:Ref) (some (.fn (.func 156) [] [])) [c,k]) λh f=>
 kK h λj=>
 Q j f
theorem qO(h : ∀g:ef,lg dep x0 x1 H Q):dX Tryz.f158 (dep+1) [(0,x0),(1,x1)] H Q:=iT (by kernel_rfl) h
noncomputable def iN:Code:=(Tryz.f166.body).getD .skip
noncomputable def bw:=rV Tryz.f166 2
def dO:Nat->Option (List Nat):=λi=>cond (Nat.beq i 2) (some [8,0,1,7]) (none)
def dP:Prop:=
 Fe H dep 7 166 x0 λv1=>
  bB env Tryz.f166 (dep+1) bw [(8,(.v (.int .i64 0))),(0,x0),(1,x1),(7,v1)] H Q
theorem iI(h : ∀g:ef,dP dep x0 x1 H Q):dX Tryz.f166 (dep+1) [(0,x0),(1,x1)] H Q:=tV dO (by kernel_rfl) h
def bX(dep:Nat)(g:Nat->AV)(a x0 x1 b:AV)(H:ai)(Q:AV->ai->Prop):Prop:=
 dG 3 8 7 a b λv1=>
 br (some v1) (
 bC H 166 x0 a λv2=>
 aq H 45 v2 λe=>
 XJ dep H 16 x1 e λf c=>
 br (some f) (
 Q a c) (
 dz 3 8 1 a λd=>
  bB env Tryz.f166 (dep+1) bw [(8,d),(0,x0),(1,x1),(7,b)] c Q)) (
 Q (.v (.int .i64 (-1))) H)
theorem dA(dep:Nat)(b x0 x1 a:AV)(H:ai)(Q:AV->ai->Prop)(h : ∀g,bX dep g b x0 x1 a H Q):bB env Tryz.f166 (dep+1) bw [(8,b),(0,x0),(1,x1),(7,a)] H Q:=sc dO (by kernel_rfl) h
noncomputable def pW:Code:=(Tryz.f167.body).getD .skip
def kI:Prop:=
 np H dep 3 45 x0 λv1 a=>
 aq a 179 x1 λv2=>
 aq a 50 x2 λc=>
 aq a 45 v1 λd=>
 lQ (bF env true (aF env) (cE env (dep+1)) a (⟨(dep+1),8,ai.gen a (dep+1) 8,0⟩:Ref) (some (.fn (.func 154) [] [])) [v2,c,d]) λb e=>
 kK b λf=>
 Q f e
theorem pQ(h : ∀g:ef,kI dep x0 x1 x2 H Q):dX Tryz.f167 (dep+1) [(0,x0),(1,x1),(2,x2)] H Q:=iT (by kernel_rfl) h
end Go.Proofs.YtdbiffjdomokfaaGreat
