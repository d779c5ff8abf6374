/-
  Maps whose keys are plain: what is looked up, kept, and taken apart. No statement of a seat is proved here.
-/
import Derived.Test.YtmkmimgokagimaaGreatAbsRules
import Derived.Test.YtmkmimgokagimaaGreatMOpFns
set_option linter.unusedVariables false
set_option linter.unusedSimpArgs false
set_option linter.unusedSectionVars false
set_option linter.unnecessarySimpa false
namespace Go.Ab
def ixOf{K:Type}[DecidableEq K](k:K):List K→Nat→Option Nat
 | [],_=>none
 | a :: l,i=>if k=a then some i else ixOf k l (i+1)
structure KeyT (P:Program) (kt:TypeId) {K:Type} [DecidableEq K] (val:K→Value):Prop where
 chk : ∀e a,bj P (Instr.checkKey e 10000 kt (val a))=some ()
 eq : ∀a b,bj P (Op.equal kt (val a) (val b))=some (decide (a=b))
 now : ∀d,P.underlying kt=some d →∀a b,Instr.sameNow d (val a) (val b)=none
 und:(P.underlying kt).isSome=true
 bits : ∀a,Instr.sameBits 10000 (val a) (val a)=true
section
variable{P:Program}{kt:TypeId}{K:Type}[DecidableEq K]{val:K→Value}(h:KeyT P kt val)
include h
theorem F8(k:K) : ∀(l:List K)(i:Nat),bj P (Instr.findAsking kt (val k) (l.map fun a=>⟨val a,Go.undef,0⟩) i)=some ((ixOf k l i).map fun j=>(j,Go.undef))
 | [],i=>rfl
 | a :: l,i=>by
  simp only[List.map_cons,Instr.findAsking,bp,h.eq,Option.bind_some,ixOf]
  by_cases e:k=a
  ·simp only[e,decide_true,if_true];rfl
  ·simp only[e,decide_false,Bool.false_eq_true,if_false];exact F8 k l (i+1)
theorem LV(k:K)(l:List K):bj P (Instr.findKey kt (val k) (l.map fun a=>⟨val a,Go.undef,0⟩))=some ((ixOf k l 0).map fun j=>(j,Go.undef)):=by
 obtain⟨d,hd⟩:=Option.isSome_iff_exists.1 h.und
 simp only[Instr.findKey,bp,jb hd,Option.bind_some]
 cases l with
 | nil=>rfl
 | cons a l =>
  have e:Instr.findNow d (val k) ((a :: l).map fun a=>⟨val a,Go.undef,0⟩) 0=none:=by
   simp only[List.map_cons,Instr.findNow,h.now d hd]
  rw[e]
  exact F8 h k (a :: l) 0
theorem tK(e:Bool)(k:K)(l:List K):tL P e kt (val k) (l.map val)=some (ixOf k l 0):=by
 unfold tL
 rw[h.chk]
 have:=LV h k l
 simp only[List.map_map,Function.comp_def]
 rw[this]
 cases ixOf k l 0<;>rfl
end
def cm{K:Type}[DecidableEq K](k:K):List (K × AV)→Option AV
 | []=>none
 | p :: l=>if k=p.1 then some p.2 else cm k l
def setK{K:Type}[DecidableEq K](k:K)(x:AV):List (K × AV)→List (K × AV)
 | []=>[(k,x)]
 | p :: l=>if k=p.1 then (k,x) :: l else p :: setK k x l
@[simp] theorem nw{K:Type}[DecidableEq K](k:K)(x:AV) : ∀l:List (K × AV),cm k (setK k x l)=some x
 | []=>by simp[setK,cm]
 | p :: l=>by
  unfold setK
  split
  ·simp[cm]
  ·rename_i e;simp[cm,e,nw k x l]
theorem mu{K:Type}[DecidableEq K]{k k':K}(e:k'≠k)(x:AV) : ∀l:List (K × AV),cm k' (setK k x l)=cm k' l
 | []=>by simp[setK,cm,e]
 | p :: l=>by
  unfold setK
  split
  ·rename_i h;subst h;simp[cm,e]
  ·simp only[cm];rw[mu e x l]
theorem pD{K:Type}[DecidableEq K](k:K) : ∀(l:List K)(i:Nat),ixOf k l i=(ixOf k l 0).map (· + i)
 | [],i=>rfl
 | a :: l,i=>by
  unfold ixOf
  split
  ·simp
  ·rw[pD k l (i+1),pD k l (0+1)]
   cases ixOf k l 0 with
   | none=>rfl
   | some j=>simp;omega
theorem yV{K:Type}[DecidableEq K](k:K) : ∀(l:List (K × AV)),(match ixOf k (l.map Prod.fst) 0 with | some i=>(l[i]?).map Prod.snd | none=>none)=cm k l
 | []=>rfl
 | p :: l=>by
  simp only[List.map_cons,ixOf,cm]
  by_cases e:k=p.1
  ·simp[e]
  ·simp only[e,if_false]
   rw[pD]
   have:=yV k l
   cases h:ixOf k (l.map Prod.fst) 0 with
   | none=>rw[h]at this;simpa using this
   | some j=>rw[h]at this;simpa using this
theorem xO{K:Type}[DecidableEq K](k:K)(x:AV) : ∀(l:List (K × AV)),(match ixOf k (l.map Prod.fst) 0 with | some i=>l.set i (k,x) | none=>l++[(k,x)])=setK k x l
 | []=>rfl
 | p :: l=>by
  simp only[List.map_cons,ixOf,setK]
  by_cases e:k=p.1
  ·simp[e]
  ·simp only[e,if_false]
   rw[pD]
   have:=xO k x l
   cases h:ixOf k (l.map Prod.fst) 0 with
   | none=>rw[h]at this;simpa using this
   | some j=>rw[h]at this;simpa using this
theorem xP{K:Type}[DecidableEq K](k:K) : ∀(l:List K)(i:Nat),ixOf k l 0=some i→l[i]?=some k
 | [],i,h=>by cases h
 | a :: l,i,h=>by
  unfold ixOf at h
  split at h
  ·rename_i e;subst e;cases h;rfl
  ·rw[pD]at h
   cases hh:ixOf k l 0 with
   | none=>rw[hh]at h;cases h
   | some j =>
    rw[hh]at h
    simp at h
    subst h
    simpa using xP k l j hh
section
variable{P:Program}{kt et t:TypeId}{K:Type}[DecidableEq K]{val:K→Value}{kav:K→AV}(h:KeyT P kt val)(hk : ∀k,fZ (kav k)=some (val k))(ht:tmap P t=some (kt,et))
def dk(kav:K→AV)(l:List (K × AV)):List AV:=l.map fun p => .tup [kav p.1,p.2]
theorem pA{g:Get}{r:Ref}{l:List (K × AV)}(hr:g r=some (bn (dk kav l))):jK g r=some (dk kav l):=by
 unfold jK
 rw[hr]
 rfl
include hk in
theorem yU(l:List (K × AV)):(dk kav l).mapM wS=some ((l.map Prod.fst).map val):=by
 induction l with
 | nil=>rfl
 | cons p l ih =>
  have e:wS (.tup [kav p.1,p.2])=some (val p.1):=hk p.1
  show((AV.tup [kav p.1,p.2]) :: dk kav l).mapM wS=_
  rw[List.mapM_cons,e,ih]
  rfl
include h hk ht
theorem tI{z:AV}(hz:gN P et=some z){g:Get}{r:Ref}{l:List (K × AV)}(hr:g r=some (bn (dk kav l)))(k:K)(ok:Bool) :
 cS P g t (some (.mp r)) (some (kav k)) ok=some ((if ok then .tup [(cm k l).getD z,.v (.bool (cm k l).isSome)] else (cm k l).getD z),[]):=by
 unfold cS
 simp only[ht,Option.bind_some,hk,pA hr,yU hk,tK h,hz,Option.map_some]
 have hl:=yV k l
 cases hi:ixOf k (l.map Prod.fst) 0 with
 | none =>
  rw[hi]at hl
  rw[←hl]
  rfl
 | some i =>
  rw[hi]at hl
  dsimp only at hl ⊢
  have hlt:(l.map Prod.fst)[i]?=some k:=xP k _ i hi
  rw[List.getElem?_map]at hlt
  cases hp:l[i]? with
  | none=>rw[hp]at hlt;cases hlt
  | some p =>
   rw[hp]at hl
   have e:(dk kav l)[i]?=some (.tup [kav p.1,p.2]):=by unfold dk;rw[List.getElem?_map,hp];rfl
   rw[e,←hl]
   rfl
theorem oM{H:Heap}{r:Ref}{l:List (K × AV)}(hr:H.get r=some (bn (dk kav l)))(k:K)(x:AV) :
 da P H t (some (.mp r)) (some (kav k)) (some x)=some (AV.undef,H.put r (some (bn (dk kav (setK k x l))))):=by
 unfold da
 simp only[ht,hk,pA hr,yU hk,tK h]
 have hs:=xO k x l
 cases hi:ixOf k (l.map Prod.fst) 0 with
 | none =>
  rw[hi]at hs
  dsimp only at hs ⊢
  rw[←hs]
  simp[dk]
 | some i =>
  rw[hi]at hs
  dsimp only at hs ⊢
  have hlt:(l.map Prod.fst)[i]?=some k:=xP k _ i hi
  have e:((l.map Prod.fst).map val)[i]?=some (val k):=by rw[List.getElem?_map,hlt];rfl
  rw[e]
  simp only[Option.map_some,h.bits,if_true]
  rw[←hs]
  simp[dk,List.map_set]
theorem uc{z:AV}(hz:gN P et=some z){H:Heap}{r:Ref}{l:List (K × AV)}(hr:H.get r=some (bn (dk kav l)))(k:K) :
 ∃i l',dF P H t (some (.mp r)) (some (kav k))=some (.tup [(cm k l).getD z,.v (.int .i64 (i:Nat))],H.put r (some (bn (dk kav l'))))∧(∃x0,l'[i]?=some (k,x0)) ∧∀x,l'.set i (k,x)=setK k x l:=by
 unfold dF
 simp only[ht,hk,pA hr,yU hk,tK h]
 have hl:=yV k l
 cases hi:ixOf k (l.map Prod.fst) 0 with
 | none =>
  rw[hi]at hl
  dsimp only at hl ⊢
  refine⟨l.length,l++[(k,z)],?_,⟨z,by simp⟩,fun x=>?_⟩
  ·rw[←hl,hz]
   simp[dk]
  ·have hs:=xO k x l
   rw[hi]at hs
   dsimp only at hs
   rw[←hs]
   simp
 | some i =>
  rw[hi]at hl
  dsimp only at hl ⊢
  have hlt:(l.map Prod.fst)[i]?=some k:=xP k _ i hi
  have e:((l.map Prod.fst).map val)[i]?=some (val k):=by rw[List.getElem?_map,hlt];rfl
  rw[List.getElem?_map]at hlt
  cases hp:l[i]? with
  | none=>rw[hp]at hlt;cases hlt
  | some p =>
   rw[hp]at hl hlt
   simp only[Option.map_some,Option.some.injEq]at hlt hl
   have e2:(dk kav l)[i]?=some (.tup [kav p.1,p.2]):=by unfold dk;rw[List.getElem?_map,hp];rfl
   refine⟨i,l.set i (k,p.2),?_,⟨p.2,?_⟩,fun x=>?_⟩
   ·rw[e,e2,←hl]
    simp only[Option.map_some,h.bits,if_true,Option.bind_some,Ds]
    simp[dk,List.map_set]
   ·have hlt':i<l.length:=by
     rcases Nat.lt_or_ge i l.length with h | h
     ·exact h
     ·rw[List.getElem?_eq_none h]at hp;cases hp
    simp[hlt']
   ·have hs:=xO k x l
    rw[hi]at hs
    dsimp only at hs
    rw[←hs]
    simp
omit h hk ht in
theorem qZ{H:Heap}{r:Ref}{l:List (K × AV)}(hr:H.get r=some (bn (dk kav l))){i:Nat}{k:K}{x0:AV}(hi:l[i]?=some (k,x0))(kd:IntKind)(x:AV) :
 cM H (some (.mp r)) (some (.v (.int kd (i:Nat)))) (some x)=some (AV.undef,H.put r (some (bn (dk kav (l.set i (k,x)))))):=by
 unfold cM
 have e:(dk kav l)[i]?=some (.tup [kav k,x0]):=by unfold dk;rw[List.getElem?_map,hi];rfl
 simp only[pA hr]
 rw[if_pos (by omega)]
 simp only[Int.toNat_natCast,e]
 simp[dk,List.map_set]
end
end Go.Ab
namespace Go.Ab
def leqL(a b:Lab):Bool:=decide (a.lv≤b.lv)&&decide (a.cats &&& ~~~b.cats=0)
def labs(l:List Lab):List AV:=l.map fun a => .agg [a8 a.lv,a32 a.cats]
@[simp] theorem TI(l:List Lab):(labs l).length=l.length:=by simp[labs]
def hasB(s:Spn)(i:Idd):Bool:=lz s&&(decide (s.f.h=i.h)&&(decide (s.f.n≤i.n)&&decide (i.n<s.f.n+s.many)))
def byL(o:Opn):Lab:=⟨o.h.lv,o.h.cats⟩
def ofI(i:Idd):Lab:=⟨i.h.lv,i.h.cats⟩
def mR(o:Opn)(i:Idd)(v:Lab):Bool:=decide (o.kind=3)&&(hasB o.s i&&leqL (byL o) v)
def addL(out:List Lab)(t:Lab):List Lab:=if t∈out then out else out++[t]
def vT(out:List Lab)(l:List Opn)(i:Idd)(v:Lab):List Lab:=l.foldl (fun out o=>if mR o i v then addL out o.to else out) out
def yH(l:List Opn)(i:Idd)(v:Lab):List Lab:=vT [ofI i] l i v
def oV(l:List Opn)(o:Opn):Bool:=if o.kind=3 then leqL (byL o) o.to&&(List.range o.s.many.toNat).all (fun k=>decide (byL o∈yH l ⟨o.s.f.h,o.s.f.n+(k:Int)⟩ (byL o))) else true
def lA:List Opn→List Opn→Bool
 | _,[]=>true
 | l,o :: s=>opB o&&oV l o&&lA (l++[o]) s
def oG(l:List Opn):Int:=if 2048<l.length then 4 else if lA [] l then 0 else 8
def lpO(o:Option Blk):Option (Nat × AV):=match o with
 | some ⟨0,[.v (.int .i64 st),inf],_,_⟩=>some (st.toNat,inf)
 | _=>none
theorem rp(H:Heap)(r:Ref):lpAt H r=lpO (H.get r):=rfl
@[simp] theorem xN(st:Nat)(inf:AV):lpO (some (kK st inf))=some (st,inf):=by
 simp[lpO,kK]
theorem Ma(inf:AV)(K:AV→Prop)(m:Mk K):bgP (some (0,inf)) K m↔K inf:=by
 constructor
 ·rintro⟨info,e,h⟩
  simp only[Option.some.injEq,Prod.mk.injEq,true_and]at e
  subst e;exact h
 ·intro h;exact⟨inf,rfl,h⟩
attribute [simp] Ma
theorem LD(H:Heap)(r:Ref)(st:Nat)(inf:AV):lpAt (H.put r (some (kK st inf))) r=some (st,inf):=by
 rw[rp,Heap.an,if_pos rfl,xN]
theorem Jm{E:Env}{fn:Func}{dep nt:Nat}{r:Ref}{f:FuncId}{ps:List Tmp}{assign body:Code}{tm:List AV}{args:List AV}{H:Heap}{Q:AV→Heap→Prop}
 (hl:H.get r=some (kK 0 (.lp f nt ps assign body tm))) (hn:fn.ntmps=nt) (hp:args.length=ps.length) (hps:ps.all (· < nt)=true) (ha:codeOk E.ok assign=true) (hb:codeOk E.ok body=true)
 (h:Goes E fn (some r) (dep+1) [.code assign,.beginRound,.code body] (tget (sR tm ps args)) H fun x H'=>x = .v (.int .i64 0) ∧∃info,H'.get r=some (kK 1 info)∧Q (.v (.bool true)) (H'.put r (some (kK 0 info)))) :
 ∃y H',limt E dep (.yld r) args H=some (y,H')∧Q y H':=by
 refine LI (by rw[rp,hl];exact xN _ _) hn hp hps ha hb ?_
 intro tm' ht
 obtain⟨y,H',⟨rfl,info,h1,hQ⟩,n,hn⟩:=h tm' ht
 exact⟨_,H',⟨0,rfl,info,_,by rw[rp,h1];exact xN _ _,rfl,LD _ _ _ _,fun _=>hQ,fun h=>absurd h (by decide),by decide⟩,n,hn⟩
theorem FN{s:fq}{l:List (Nat × AV)}(h : ∀p∈l,s p.1=p.2):ofL s l=s:=by
 induction l with
 | nil=>rfl
 | cons p l ih =>
  obtain⟨j,v⟩:=p
  funext i
  show cond (Nat.beq i j) v (ofL s l i)=s i
  rw[ih fun p hp=>h p (List.mem_cons_of_mem _ hp)]
  cases hb:Nat.beq i j with
  | false=>rfl
  | true =>
   have:=Nat.eq_of_beq_eq_true hb
   subst this
   exact(h _ (List.mem_cons_self ..)).symm
@[simp] theorem Ni(r:Ref)(o n:Nat)(c:Option Nat)(y:AV):ij [AV.osl r o n c] 0 0 [y]=some [y]:=id rfl
@[simp] theorem Qi(x:Value)(y:AV):ij [AV.v x] 0 0 [y]=some [y]:=id rfl
def encO(p:Opn × AV):AV := .agg [a8 p.1.kind,a8 p.1.h.lv,a32 p.1.h.cats,a8 p.1.h.num,aI p.1.serial,a8 p.1.s.f.h.lv,a32 p.1.s.f.h.cats,a8 p.1.s.f.h.num,aI p.1.s.f.n,aI p.1.s.many,
 a8 p.1.a.h.lv,a32 p.1.a.h.cats,a8 p.1.a.h.num,aI p.1.a.n,a8 p.1.to.lv,a32 p.1.to.cats,p.2]
def bN(l:List (Opn × AV)):List AV:=l.map encO
@[simp] theorem rA(l:List (Opn × AV)):(bN l).length=l.length:=by simp[bN]
def okO(p:Opn × AV):Prop:=Sl 1 (rows p.1.l) p.2∧p.1.l.length<2000000
def opsOf(l:List (Opn × AV)):List Opn:=l.map (·.1)
theorem E4{E:Env}(dep:Nat)(H:Heap)(r q:Ref)(args:List AV):aF E true (limf E) (limt E dep) H r (some (.yld q)) args=limt E dep (.yld q) args H:=by
 simp[aF,jY,nRes,orW,m4]
theorem Gk(out:List Lab)(t:Lab):(addL out t).length≤out.length+1:=by
 unfold addL;split
 ·omega
 ·simp
theorem Jd(s:List Opn)(i:Idd)(v:Lab) : ∀out:List Lab,(vT out s i v).length≤out.length+s.length:=by
 induction s with
 | nil=>intro out;simp[vT]
 | cons o s ih =>
  intro out
  show(vT (if mR o i v then addL out o.to else out) s i v).length≤_
  have h1:=ih (if mR o i v then addL out o.to else out)
  have h2:(if mR o i v then addL out o.to else out).length≤out.length+1:=by
   split
   ·exact Gk _ _
   ·omega
  simp only[List.length_cons]
  omega
end Go.Ab
