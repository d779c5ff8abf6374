/-
  Maps whose keys are plain: what is looked up, kept, and taken apart. No statement of a seat is proved here.
-/
import Derived.Test.YtdbiffjdomokfaaGreatAbsRules
set_option linter.unusedVariables false
set_option linter.unusedSimpArgs false
set_option linter.unusedSectionVars false
namespace Go.Ab
def qB{K:Type}[DecidableEq K](k:K):List K→Nat→Option Nat
 | [],_=>none
 | a :: l,i=>if k=a then some i else qB k l (i+1)
structure Ox (P:Program) (kt:TypeId) {K:Type} [DecidableEq K] (val:K→Value):Prop where
 chk : ∀e a,bw P (Instr.checkKey e 10000 kt (val a))=some ()
 eq : ∀a b,bw P (Op.equal kt (val a) (val b))=some (decide (a=b))
 now : ∀d,P.underlying kt=some d →∀a b,Instr.sameNow d (val a) (val b)=none
 und:(P.underlying kt).isSome=true
 bits : ∀a,Instr.sameBits 10000 (val a) (val a)=true
section
variable{P:Program}{kt:TypeId}{K:Type}[DecidableEq K]{val:K→Value}(h:Ox P kt val)
include h
theorem Hb(k:K) : ∀(l:List K)(i:Nat),bw P (Instr.findAsking kt (val k) (l.map fun a=>⟨val a,Go.undef,0⟩) i)=some ((qB k l i).map fun j=>(j,Go.undef))
 | [],i=>rfl
 | a :: l,i=>by
  simp only[List.map_cons,Instr.findAsking,bN,h.eq,Option.bind_some,qB]
  by_cases e:k=a
  ·simp only[e,decide_true,if_true];rfl
  ·simp only[e,decide_false,Bool.false_eq_true,if_false];exact Hb k l (i+1)
theorem NP(k:K)(l:List K):bw P (Instr.findKey kt (val k) (l.map fun a=>⟨val a,Go.undef,0⟩))=some ((qB k l 0).map fun j=>(j,Go.undef)):=by
 obtain⟨d,hd⟩:=Option.isSome_iff_exists.1 h.und
 simp only[Instr.findKey,bN,jZ hd,Option.bind_some]
 cases l with
 | nil=>rfl
 | cons a l =>
  have e:Instr.findNow d (val k) ((a :: l).map fun a=>⟨val a,Go.undef,0⟩) 0=none:=by
   simp only[List.map_cons,Instr.findNow,h.now d hd]
  rw[e]
  exact Hb h k (a :: l) 0
theorem uH(e:Bool)(k:K)(l:List K):s8 P e kt (val k) (l.map val)=some (qB k l 0):=by
 unfold s8
 rw[h.chk]
 have:=NP h k l
 simp only[List.map_map,Function.comp_def]
 rw[this]
 cases qB k l 0<;>rfl
end
def eW{K:Type}[DecidableEq K](k:K):List (K × AV)→Option AV
 | []=>none
 | p :: l=>if k=p.1 then some p.2 else eW k l
def mi{K:Type}[DecidableEq K](k:K)(x:AV):List (K × AV)→List (K × AV)
 | []=>[(k,x)]
 | p :: l=>if k=p.1 then (k,x) :: l else p :: mi k x l
theorem p5{K:Type}[DecidableEq K](k:K) : ∀(l:List K)(i:Nat),qB k l i=(qB k l 0).map (· + i)
 | [],i=>rfl
 | a :: l,i=>by
  unfold qB
  split
  ·simp
  ·rw[p5 k l (i+1),p5 k l (0+1)]
   cases qB k l 0 with
   | none=>rfl
   | some j=>simp;omega
theorem zD{K:Type}[DecidableEq K](k:K) : ∀(l:List (K × AV)),(match qB k (l.map Prod.fst) 0 with | some i=>(l[i]?).map Prod.snd | none=>none)=eW k l
 | []=>rfl
 | p :: l=>by
  simp only[List.map_cons,qB,eW]
  by_cases e:k=p.1
  ·simp[e]
  ·simp only[e,if_false]
   rw[p5]
   have:=zD k l
   cases h:qB k (l.map Prod.fst) 0 with
   | none=>rw[h]at this;simpa using this
   | some j=>rw[h]at this;simpa using this
theorem yx{K:Type}[DecidableEq K](k:K)(x:AV) : ∀(l:List (K × AV)),(match qB k (l.map Prod.fst) 0 with | some i=>l.set i (k,x) | none=>l++[(k,x)])=mi k x l
 | []=>rfl
 | p :: l=>by
  simp only[List.map_cons,qB,mi]
  by_cases e:k=p.1
  ·simp[e]
  ·simp only[e,if_false]
   rw[p5]
   have:=yx k x l
   cases h:qB k (l.map Prod.fst) 0 with
   | none=>rw[h]at this;simpa using this
   | some j=>rw[h]at this;simpa using this
theorem yz{K:Type}[DecidableEq K](k:K) : ∀(l:List K)(i:Nat),qB k l 0=some i→l[i]?=some k
 | [],i,h=>by cases h
 | a :: l,i,h=>by
  unfold qB at h
  split at h
  ·rename_i e;subst e;cases h;rfl
  ·rw[p5]at h
   cases hh:qB k l 0 with
   | none=>rw[hh]at h;cases h
   | some j =>
    rw[hh]at h
    simp at h
    subst h
    simpa using yz k l j hh
section
variable{P:Program}{kt et t:TypeId}{K:Type}[DecidableEq K]{val:K→Value}{kav:K→AV}(h:Ox P kt val)(hk : ∀k,fK (kav k)=some (val k))(ht:C2 P t=some (kt,et))
def cD(kav:K→AV)(l:List (K × AV)):List AV:=l.map fun p => .tup [kav p.1,p.2]
theorem p4{g:de}{r:Ref}{l:List (K × AV)}(hr:g r=some (bt (cD kav l))):gV g r=some (cD kav l):=by
 unfold gV
 rw[hr]
 rfl
include hk in
theorem zC(l:List (K × AV)):(cD kav l).mapM uV=some ((l.map Prod.fst).map val):=by
 induction l with
 | nil=>rfl
 | cons p l ih =>
  have e:uV (.tup [kav p.1,p.2])=some (val p.1):=hk p.1
  show((AV.tup [kav p.1,p.2]) :: cD kav l).mapM uV=_
  rw[List.mapM_cons,e,ih]
  rfl
include h hk ht
theorem uF{z:AV}(hz:eD P et=some z){g:de}{r:Ref}{l:List (K × AV)}(hr:g r=some (bt (cD kav l)))(k:K)(ok:Bool) :
 cY P g t (some (.mp r)) (some (kav k)) ok=some ((if ok then .tup [(eW k l).getD z,.v (.bool (eW k l).isSome)] else (eW k l).getD z),[]):=by
 unfold cY
 simp only[ht,Option.bind_some,hk,p4 hr,zC hk,uH h,hz,Option.map_some]
 have hl:=zD k l
 cases hi:qB k (l.map Prod.fst) 0 with
 | none =>
  rw[hi]at hl
  rw[←hl]
  rfl
 | some i =>
  rw[hi]at hl
  dsimp only at hl ⊢
  have hlt:(l.map Prod.fst)[i]?=some k:=yz k _ i hi
  rw[List.getElem?_map]at hlt
  cases hp:l[i]? with
  | none=>rw[hp]at hlt;cases hlt
  | some p =>
   rw[hp]at hl
   have e:(cD kav l)[i]?=some (.tup [kav p.1,p.2]):=by unfold cD;rw[List.getElem?_map,hp];rfl
   rw[e,←hl]
   rfl
theorem pO{H:ab}{r:Ref}{l:List (K × AV)}(hr:H.get r=some (bt (cD kav l)))(k:K)(x:AV) :
 dL P H t (some (.mp r)) (some (kav k)) (some x)=some (AV.undef,H.put r (some (bt (cD kav (mi k x l))))):=by
 unfold dL
 simp only[ht,hk,p4 hr,zC hk,uH h]
 have hs:=yx k x l
 cases hi:qB k (l.map Prod.fst) 0 with
 | none =>
  rw[hi]at hs
  dsimp only at hs ⊢
  rw[←hs]
  simp[cD]
 | some i =>
  rw[hi]at hs
  dsimp only at hs ⊢
  have hlt:(l.map Prod.fst)[i]?=some k:=yz k _ i hi
  have e:((l.map Prod.fst).map val)[i]?=some (val k):=by rw[List.getElem?_map,hlt];rfl
  rw[e]
  simp only[Option.map_some,h.bits,if_true]
  rw[←hs]
  simp[cD,List.map_set]
theorem vR{z:AV}(hz:eD P et=some z){H:ab}{r:Ref}{l:List (K × AV)}(hr:H.get r=some (bt (cD kav l)))(k:K) :
 ∃i l',eC P H t (some (.mp r)) (some (kav k))=some (.tup [(eW k l).getD z,.v (.int .i64 (i:Nat))],H.put r (some (bt (cD kav l'))))∧(∃x0,l'[i]?=some (k,x0)) ∧∀x,l'.set i (k,x)=mi k x l:=by
 unfold eC
 simp only[ht,hk,p4 hr,zC hk,uH h]
 have hl:=zD k l
 cases hi:qB k (l.map Prod.fst) 0 with
 | none =>
  rw[hi]at hl
  dsimp only at hl ⊢
  refine⟨l.length,l++[(k,z)],?_,⟨z,by simp⟩,fun x=>?_⟩
  ·rw[←hl,hz]
   simp[cD]
  ·have hs:=yx k x l
   rw[hi]at hs
   dsimp only at hs
   rw[←hs]
   simp
 | some i =>
  rw[hi]at hl
  dsimp only at hl ⊢
  have hlt:(l.map Prod.fst)[i]?=some k:=yz k _ i hi
  have e:((l.map Prod.fst).map val)[i]?=some (val k):=by rw[List.getElem?_map,hlt];rfl
  rw[List.getElem?_map]at hlt
  cases hp:l[i]? with
  | none=>rw[hp]at hlt;cases hlt
  | some p =>
   rw[hp]at hl hlt
   simp only[Option.map_some,Option.some.injEq]at hlt hl
   have e2:(cD kav l)[i]?=some (.tup [kav p.1,p.2]):=by unfold cD;rw[List.getElem?_map,hp];rfl
   refine⟨i,l.set i (k,p.2),?_,⟨p.2,?_⟩,fun x=>?_⟩
   ·rw[e,e2,←hl]
    simp only[Option.map_some,h.bits,if_true,Option.bind_some,Cl]
    simp[cD,List.map_set]
   ·have hlt':i<l.length:=by
     rcases Nat.lt_or_ge i l.length with h | h
     ·exact h
     ·rw[List.getElem?_eq_none h]at hp;cases hp
    simp[hlt']
   ·have hs:=yx k x l
    rw[hi]at hs
    dsimp only at hs
    rw[←hs]
    simp
omit h hk ht in
theorem tK{H:ab}{r:Ref}{l:List (K × AV)}(hr:H.get r=some (bt (cD kav l))){i:Nat}{k:K}{x0:AV}(hi:l[i]?=some (k,x0))(kd:IntKind)(x:AV) :
 df H (some (.mp r)) (some (.v (.int kd (i:Nat)))) (some x)=some (AV.undef,H.put r (some (bt (cD kav (l.set i (k,x)))))):=by
 unfold df
 have e:(cD kav l)[i]?=some (.tup [kav k,x0]):=by unfold cD;rw[List.getElem?_map,hi];rfl
 simp only[p4 hr]
 rw[if_pos (by omega)]
 simp only[Int.toNat_natCast,e]
 simp[cD,List.map_set]
end
end Go.Ab
