/-
  Maps whose keys are plain: what is looked up, kept, and taken apart. No statement of a seat is proved here.
-/
import Derived.Test.YtmkmimgokagimaaGreatAbsRules
import Derived.Test.YtmkmimgokagimaaGreatMOpFns
set_option linter.unusedVariables false
set_option linter.unusedSimpArgs false
set_option linter.unusedSectionVars false
set_option linter.unnecessarySimpa false
namespace Go.Ab
def ixOf{K:Type}[DecidableEq K](k:K):List K→Nat→Option Nat
 | [],_=>none
 | a :: l,i=>if k=a then some i else ixOf k l (i+1)
structure KeyT (P:Program) (kt:TypeId) {K:Type} [DecidableEq K] (val:K→Value):Prop where
 chk : ∀e a,bn P (Instr.checkKey e 10000 kt (val a))=some ()
 eq : ∀a b,bn P (Op.equal kt (val a) (val b))=some (decide (a=b))
 now : ∀d,P.underlying kt=some d →∀a b,Instr.sameNow d (val a) (val b)=none
 und:(P.underlying kt).isSome=true
 bits : ∀a,Instr.sameBits 10000 (val a) (val a)=true
section
variable{P:Program}{kt:TypeId}{K:Type}[DecidableEq K]{val:K→Value}(h:KeyT P kt val)
include h
theorem Gz(k:K) : ∀(l:List K)(i:Nat),bn P (Instr.findAsking kt (val k) (l.map fun a=>⟨val a,Go.undef,0⟩) i)=some ((ixOf k l i).map fun j=>(j,Go.undef))
 | [],i=>rfl
 | a :: l,i=>by
  simp only[List.map_cons,Instr.findAsking,bt,h.eq,Option.bind_some,ixOf]
  by_cases e:k=a
  ·simp only[e,decide_true,if_true];rfl
  ·simp only[e,decide_false,Bool.false_eq_true,if_false];exact Gz k l (i+1)
theorem Mg(k:K)(l:List K):bn P (Instr.findKey kt (val k) (l.map fun a=>⟨val a,Go.undef,0⟩))=some ((ixOf k l 0).map fun j=>(j,Go.undef)):=by
 obtain⟨d,hd⟩:=Option.isSome_iff_exists.1 h.und
 simp only[Instr.findKey,bt,iO hd,Option.bind_some]
 cases l with
 | nil=>rfl
 | cons a l =>
  have e:Instr.findNow d (val k) ((a :: l).map fun a=>⟨val a,Go.undef,0⟩) 0=none:=by
   simp only[List.map_cons,Instr.findNow,h.now d hd]
  rw[e]
  exact Gz h k (a :: l) 0
theorem ui(e:Bool)(k:K)(l:List K):uj P e kt (val k) (l.map val)=some (ixOf k l 0):=by
 unfold uj
 rw[h.chk]
 have:=Mg h k l
 simp only[List.map_map,Function.comp_def]
 rw[this]
 cases ixOf k l 0<;>rfl
end
def bE{K:Type}[DecidableEq K](k:K):List (K × AV)→Option AV
 | []=>none
 | p :: l=>if k=p.1 then some p.2 else bE k l
def setK{K:Type}[DecidableEq K](k:K)(x:AV):List (K × AV)→List (K × AV)
 | []=>[(k,x)]
 | p :: l=>if k=p.1 then (k,x) :: l else p :: setK k x l
@[simp] theorem pb{K:Type}[DecidableEq K](k:K)(x:AV) : ∀l:List (K × AV),bE k (setK k x l)=some x
 | []=>by simp[setK,bE]
 | p :: l=>by
  unfold setK
  split
  ·simp[bE]
  ·rename_i e;simp[bE,e,pb k x l]
theorem ur{K:Type}[DecidableEq K]{k k':K}(e:k'≠k)(x:AV) : ∀l:List (K × AV),bE k' (setK k x l)=bE k' l
 | []=>by simp[setK,bE,e]
 | p :: l=>by
  unfold setK
  split
  ·rename_i h;subst h;simp[bE,e]
  ·simp only[bE];rw[ur e x l]
theorem pg{K:Type}[DecidableEq K](k:K) : ∀(l:List K)(i:Nat),ixOf k l i=(ixOf k l 0).map (· + i)
 | [],i=>rfl
 | a :: l,i=>by
  unfold ixOf
  split
  ·simp
  ·rw[pg k l (i+1),pg k l (0+1)]
   cases ixOf k l 0 with
   | none=>rfl
   | some j=>simp;omega
theorem zM{K:Type}[DecidableEq K](k:K) : ∀(l:List (K × AV)),(match ixOf k (l.map Prod.fst) 0 with | some i=>(l[i]?).map Prod.snd | none=>none)=bE k l
 | []=>rfl
 | p :: l=>by
  simp only[List.map_cons,ixOf,bE]
  by_cases e:k=p.1
  ·simp[e]
  ·simp only[e,if_false]
   rw[pg]
   have:=zM k l
   cases h:ixOf k (l.map Prod.fst) 0 with
   | none=>rw[h]at this;simpa using this
   | some j=>rw[h]at this;simpa using this
theorem yB{K:Type}[DecidableEq K](k:K)(x:AV) : ∀(l:List (K × AV)),(match ixOf k (l.map Prod.fst) 0 with | some i=>l.set i (k,x) | none=>l++[(k,x)])=setK k x l
 | []=>rfl
 | p :: l=>by
  simp only[List.map_cons,ixOf,setK]
  by_cases e:k=p.1
  ·simp[e]
  ·simp only[e,if_false]
   rw[pg]
   have:=yB k x l
   cases h:ixOf k (l.map Prod.fst) 0 with
   | none=>rw[h]at this;simpa using this
   | some j=>rw[h]at this;simpa using this
theorem yC{K:Type}[DecidableEq K](k:K) : ∀(l:List K)(i:Nat),ixOf k l 0=some i→l[i]?=some k
 | [],i,h=>by cases h
 | a :: l,i,h=>by
  unfold ixOf at h
  split at h
  ·rename_i e;subst e;cases h;rfl
  ·rw[pg]at h
   cases hh:ixOf k l 0 with
   | none=>rw[hh]at h;cases h
   | some j =>
    rw[hh]at h
    simp at h
    subst h
    simpa using yC k l j hh
section
variable{P:Program}{kt et t:TypeId}{K:Type}[DecidableEq K]{val:K→Value}{kav:K→AV}(h:KeyT P kt val)(hk : ∀k,fI (kav k)=some (val k))(ht:tmap P t=some (kt,et))
def cX(kav:K→AV)(l:List (K × AV)):List AV:=l.map fun p => .tup [kav p.1,p.2]
theorem o8{g:Get}{r:Ref}{l:List (K × AV)}(hr:g r=some (bm (cX kav l))):jt g r=some (cX kav l):=by
 unfold jt
 rw[hr]
 rfl
include hk in
theorem zL(l:List (K × AV)):(cX kav l).mapM xA=some ((l.map Prod.fst).map val):=by
 induction l with
 | nil=>rfl
 | cons p l ih =>
  have e:xA (.tup [kav p.1,p.2])=some (val p.1):=hk p.1
  show((AV.tup [kav p.1,p.2]) :: cX kav l).mapM xA=_
  rw[List.mapM_cons,e,ih]
  rfl
include h hk ht
theorem ug{z:AV}(hz:fC P et=some z){g:Get}{r:Ref}{l:List (K × AV)}(hr:g r=some (bm (cX kav l)))(k:K)(ok:Bool) :
 cE P g t (some (.mp r)) (some (kav k)) ok=some ((if ok then .tup [(bE k l).getD z,.v (.bool (bE k l).isSome)] else (bE k l).getD z),[]):=by
 unfold cE
 simp only[ht,Option.bind_some,hk,o8 hr,zL hk,ui h,hz,Option.map_some]
 have hl:=zM k l
 cases hi:ixOf k (l.map Prod.fst) 0 with
 | none =>
  rw[hi]at hl
  rw[←hl]
  rfl
 | some i =>
  rw[hi]at hl
  dsimp only at hl ⊢
  have hlt:(l.map Prod.fst)[i]?=some k:=yC k _ i hi
  rw[List.getElem?_map]at hlt
  cases hp:l[i]? with
  | none=>rw[hp]at hlt;cases hlt
  | some p =>
   rw[hp]at hl
   have e:(cX kav l)[i]?=some (.tup [kav p.1,p.2]):=by unfold cX;rw[List.getElem?_map,hp];rfl
   rw[e,←hl]
   rfl
theorem od{H:Heap}{r:Ref}{l:List (K × AV)}(hr:H.get r=some (bm (cX kav l)))(k:K)(x:AV) :
 cR P H t (some (.mp r)) (some (kav k)) (some x)=some (AV.undef,H.put r (some (bm (cX kav (setK k x l))))):=by
 unfold cR
 simp only[ht,hk,o8 hr,zL hk,ui h]
 have hs:=yB k x l
 cases hi:ixOf k (l.map Prod.fst) 0 with
 | none =>
  rw[hi]at hs
  dsimp only at hs ⊢
  rw[←hs]
  simp[cX]
 | some i =>
  rw[hi]at hs
  dsimp only at hs ⊢
  have hlt:(l.map Prod.fst)[i]?=some k:=yC k _ i hi
  have e:((l.map Prod.fst).map val)[i]?=some (val k):=by rw[List.getElem?_map,hlt];rfl
  rw[e]
  simp only[Option.map_some,h.bits,if_true]
  rw[←hs]
  simp[cX,List.map_set]
theorem uE{z:AV}(hz:fC P et=some z){H:Heap}{r:Ref}{l:List (K × AV)}(hr:H.get r=some (bm (cX kav l)))(k:K) :
 ∃i l',dy P H t (some (.mp r)) (some (kav k))=some (.tup [(bE k l).getD z,.v (.int .i64 (i:Nat))],H.put r (some (bm (cX kav l'))))∧(∃x0,l'[i]?=some (k,x0)) ∧∀x,l'.set i (k,x)=setK k x l:=by
 unfold dy
 simp only[ht,hk,o8 hr,zL hk,ui h]
 have hl:=zM k l
 cases hi:ixOf k (l.map Prod.fst) 0 with
 | none =>
  rw[hi]at hl
  dsimp only at hl ⊢
  refine⟨l.length,l++[(k,z)],?_,⟨z,by simp⟩,fun x=>?_⟩
  ·rw[←hl,hz]
   simp[cX]
  ·have hs:=yB k x l
   rw[hi]at hs
   dsimp only at hs
   rw[←hs]
   simp
 | some i =>
  rw[hi]at hl
  dsimp only at hl ⊢
  have hlt:(l.map Prod.fst)[i]?=some k:=yC k _ i hi
  have e:((l.map Prod.fst).map val)[i]?=some (val k):=by rw[List.getElem?_map,hlt];rfl
  rw[List.getElem?_map]at hlt
  cases hp:l[i]? with
  | none=>rw[hp]at hlt;cases hlt
  | some p =>
   rw[hp]at hl hlt
   simp only[Option.map_some,Option.some.injEq]at hlt hl
   have e2:(cX kav l)[i]?=some (.tup [kav p.1,p.2]):=by unfold cX;rw[List.getElem?_map,hp];rfl
   refine⟨i,l.set i (k,p.2),?_,⟨p.2,?_⟩,fun x=>?_⟩
   ·rw[e,e2,←hl]
    simp only[Option.map_some,h.bits,if_true,Option.bind_some,DW]
    simp[cX,List.map_set]
   ·have hlt':i<l.length:=by
     rcases Nat.lt_or_ge i l.length with h | h
     ·exact h
     ·rw[List.getElem?_eq_none h]at hp;cases hp
    simp[hlt']
   ·have hs:=yB k x l
    rw[hi]at hs
    dsimp only at hs
    rw[←hs]
    simp
omit h hk ht in
theorem q7{H:Heap}{r:Ref}{l:List (K × AV)}(hr:H.get r=some (bm (cX kav l))){i:Nat}{k:K}{x0:AV}(hi:l[i]?=some (k,x0))(kd:IntKind)(x:AV) :
 cB H (some (.mp r)) (some (.v (.int kd (i:Nat)))) (some x)=some (AV.undef,H.put r (some (bm (cX kav (l.set i (k,x)))))):=by
 unfold cB
 have e:(cX kav l)[i]?=some (.tup [kav k,x0]):=by unfold cX;rw[List.getElem?_map,hi];rfl
 simp only[o8 hr]
 rw[if_pos (by omega)]
 simp only[Int.toNat_natCast,e]
 simp[cX,List.map_set]
end
end Go.Ab
namespace Go.Ab
def leqL(a b:Lab):Bool:=decide (a.lv≤b.lv)&&decide (a.cats &&& ~~~b.cats=0)
def labs(l:List Lab):List AV:=l.map fun a => .agg [a8 a.lv,a32 a.cats]
@[simp] theorem US(l:List Lab):(labs l).length=l.length:=by simp[labs]
def hasB(s:Spn)(i:Idd):Bool:=kR s&&(decide (s.f.h=i.h)&&(decide (s.f.n≤i.n)&&decide (i.n<s.f.n+s.many)))
def byL(o:Opn):Lab:=⟨o.h.lv,o.h.cats⟩
def ofI(i:Idd):Lab:=⟨i.h.lv,i.h.cats⟩
def o3(o:Opn)(i:Idd)(v:Lab):Bool:=decide (o.kind=3)&&(hasB o.s i&&leqL (byL o) v)
def addL(out:List Lab)(t:Lab):List Lab:=if t∈out then out else out++[t]
def Cr(out:List Lab)(l:List Opn)(i:Idd)(v:Lab):List Lab:=l.foldl (fun out o=>if o3 o i v then addL out o.to else out) out
def AO(l:List Opn)(i:Idd)(v:Lab):List Lab:=Cr [ofI i] l i v
def yd(l:List Opn)(o:Opn):Bool:=if o.kind=3 then leqL (byL o) o.to&&(List.range o.s.many.toNat).all (fun k=>decide (byL o∈AO l ⟨o.s.f.h,o.s.f.n+(k:Int)⟩ (byL o))) else true
def zf:List Opn→List Opn→Bool
 | _,[]=>true
 | l,o :: s=>opB o&&yd l o&&zf (l++[o]) s
def tz(l:List Opn):Int:=if 2048<l.length then 4 else if zf [] l then 0 else 8
def lpO(o:Option Blk):Option (Nat × AV):=match o with
 | some ⟨0,[.v (.int .i64 st),inf],_,_⟩=>some (st.toNat,inf)
 | _=>none
theorem rC(H:Heap)(r:Ref):lpAt H r=lpO (H.get r):=rfl
@[simp] theorem yA(st:Nat)(inf:AV):lpO (some (kg st inf))=some (st,inf):=by
 simp[lpO,kg]
theorem Mv(inf:AV)(K:AV→Prop)(m:Mk K):bgP (some (0,inf)) K m↔K inf:=by
 constructor
 ·rintro⟨info,e,h⟩
  simp only[Option.some.injEq,Prod.mk.injEq,true_and]at e
  subst e;exact h
 ·intro h;exact⟨inf,rfl,h⟩
attribute [simp] Mv
theorem L0(H:Heap)(r:Ref)(st:Nat)(inf:AV):lpAt (H.put r (some (kg st inf))) r=some (st,inf):=by
 rw[rC,Heap.an,if_pos rfl,yA]
theorem JH{E:Env}{fn:Func}{dep nt:Nat}{r:Ref}{f:FuncId}{ps:List Tmp}{assign body:Code}{tm:List AV}{args:List AV}{H:Heap}{Q:AV→Heap→Prop}
 (hl:H.get r=some (kg 0 (.lp f nt ps assign body tm))) (hn:fn.ntmps=nt) (hp:args.length=ps.length) (hps:ps.all (· < nt)=true) (ha:codeOk E.ok assign=true) (hb:codeOk E.ok body=true)
 (h:Goes E fn (some r) (dep+1) [.code assign,.beginRound,.code body] (tget (tl tm ps args)) H fun x H'=>x = .v (.int .i64 0) ∧∃info,H'.get r=some (kg 1 info)∧Q (.v (.bool true)) (H'.put r (some (kg 0 info)))) :
 ∃y H',limt E dep (.yld r) args H=some (y,H')∧Q y H':=by
 refine L4 (by rw[rC,hl];exact yA _ _) hn hp hps ha hb ?_
 intro tm' ht
 obtain⟨y,H',⟨rfl,info,h1,hQ⟩,n,hn⟩:=h tm' ht
 exact⟨_,H',⟨0,rfl,info,_,by rw[rC,h1];exact yA _ _,rfl,L0 _ _ _ _,fun _=>hQ,fun h=>absurd h (by decide),by decide⟩,n,hn⟩
theorem Ge{s:eX}{l:List (Nat × AV)}(h : ∀p∈l,s p.1=p.2):ofL s l=s:=by
 induction l with
 | nil=>rfl
 | cons p l ih =>
  obtain⟨j,v⟩:=p
  funext i
  show cond (Nat.beq i j) v (ofL s l i)=s i
  rw[ih fun p hp=>h p (List.mem_cons_of_mem _ hp)]
  cases hb:Nat.beq i j with
  | false=>rfl
  | true =>
   have:=Nat.eq_of_beq_eq_true hb
   subst this
   exact(h _ (List.mem_cons_self ..)).symm
@[simp] theorem NU(r:Ref)(o n:Nat)(c:Option Nat)(y:AV):gT [AV.osl r o n c] 0 0 [y]=some [y]:=id rfl
@[simp] theorem QV(x:Value)(y:AV):gT [AV.v x] 0 0 [y]=some [y]:=id rfl
def encO(p:Opn × AV):AV := .agg [a8 p.1.kind,a8 p.1.h.lv,a32 p.1.h.cats,a8 p.1.h.num,aI p.1.serial,a8 p.1.s.f.h.lv,a32 p.1.s.f.h.cats,a8 p.1.s.f.h.num,aI p.1.s.f.n,aI p.1.s.many,
 a8 p.1.a.h.lv,a32 p.1.a.h.cats,a8 p.1.a.h.num,aI p.1.a.n,a8 p.1.to.lv,a32 p.1.to.cats,p.2]
def fZ(l:List (Opn × AV)):List AV:=l.map encO
@[simp] theorem rG(l:List (Opn × AV)):(fZ l).length=l.length:=by simp[fZ]
def okO(p:Opn × AV):Prop:=Sl 1 (rows p.1.l) p.2∧p.1.l.length<2000000
def opsOf(l:List (Opn × AV)):List Opn:=l.map (·.1)
theorem Fw{E:Env}(dep:Nat)(H:Heap)(r q:Ref)(args:List AV):aG E true (limf E) (limt E dep) H r (some (.yld q)) args=limt E dep (.yld q) args H:=by
 simp[aG,jF,nRes,orW,mI]
theorem GJ(out:List Lab)(t:Lab):(addL out t).length≤out.length+1:=by
 unfold addL;split
 ·omega
 ·simp
theorem Jy(s:List Opn)(i:Idd)(v:Lab) : ∀out:List Lab,(Cr out s i v).length≤out.length+s.length:=by
 induction s with
 | nil=>intro out;simp[Cr]
 | cons o s ih =>
  intro out
  show(Cr (if o3 o i v then addL out o.to else out) s i v).length≤_
  have h1:=ih (if o3 o i v then addL out o.to else out)
  have h2:(if o3 o i v then addL out o.to else out).length≤out.length+1:=by
   split
   ·exact GJ _ _
   ·omega
  simp only[List.length_cons]
  omega
end Go.Ab
