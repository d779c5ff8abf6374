/-
  Maps whose keys are plain: what is looked up, kept, and taken apart. No statement of a seat is proved here.
-/
import Derived.Test.YtdbiffjdomokfaaGreatAbsRules
set_option linter.unusedVariables false
set_option linter.unusedSimpArgs false
set_option linter.unusedSectionVars false
namespace Go.Ab
def pY{K:Type}[DecidableEq K](k:K):List K→Nat→Option Nat
 | [],_=>none
 | a :: l,i=>if k=a then some i else pY k l (i+1)
structure MJ (P:Program) (kt:TypeId) {K:Type} [DecidableEq K] (val:K→Value):Prop where
 chk : ∀e a,bu P (Instr.checkKey e 10000 kt (val a))=some ()
 eq : ∀a b,bu P (Op.equal kt (val a) (val b))=some (decide (a=b))
 now : ∀d,P.underlying kt=some d →∀a b,Instr.sameNow d (val a) (val b)=none
 und:(P.underlying kt).isSome=true
 bits : ∀a,Instr.sameBits 10000 (val a) (val a)=true
section
variable{P:Program}{kt:TypeId}{K:Type}[DecidableEq K]{val:K→Value}(h:MJ P kt val)
include h
theorem Gb(k:K) : ∀(l:List K)(i:Nat),bu P (Instr.findAsking kt (val k) (l.map fun a=>⟨val a,Go.undef,0⟩) i)=some ((pY k l i).map fun j=>(j,Go.undef))
 | [],i=>rfl
 | a :: l,i=>by
  simp only[List.map_cons,Instr.findAsking,bN,h.eq,Option.bind_some,pY]
  by_cases e:k=a
  ·simp only[e,decide_true,if_true];rfl
  ·simp only[e,decide_false,Bool.false_eq_true,if_false];exact Gb k l (i+1)
theorem L6(k:K)(l:List K):bu P (Instr.findKey kt (val k) (l.map fun a=>⟨val a,Go.undef,0⟩))=some ((pY k l 0).map fun j=>(j,Go.undef)):=by
 obtain⟨d,hd⟩:=Option.isSome_iff_exists.1 h.und
 simp only[Instr.findKey,bN,jF hd,Option.bind_some]
 cases l with
 | nil=>rfl
 | cons a l =>
  have e:Instr.findNow d (val k) ((a :: l).map fun a=>⟨val a,Go.undef,0⟩) 0=none:=by
   simp only[List.map_cons,Instr.findNow,h.now d hd]
  rw[e]
  exact Gb h k (a :: l) 0
theorem tC(e:Bool)(k:K)(l:List K):sc P e kt (val k) (l.map val)=some (pY k l 0):=by
 unfold sc
 rw[h.chk]
 have:=L6 h k l
 simp only[List.map_map,Function.comp_def]
 rw[this]
 cases pY k l 0<;>rfl
end
def eL{K:Type}[DecidableEq K](k:K):List (K × AV)→Option AV
 | []=>none
 | p :: l=>if k=p.1 then some p.2 else eL k l
def lF{K:Type}[DecidableEq K](k:K)(x:AV):List (K × AV)→List (K × AV)
 | []=>[(k,x)]
 | p :: l=>if k=p.1 then (k,x) :: l else p :: lF k x l
theorem pz{K:Type}[DecidableEq K](k:K) : ∀(l:List K)(i:Nat),pY k l i=(pY k l 0).map (· + i)
 | [],i=>rfl
 | a :: l,i=>by
  unfold pY
  split
  ·simp
  ·rw[pz k l (i+1),pz k l (0+1)]
   cases pY k l 0 with
   | none=>rfl
   | some j=>simp;omega
theorem yB{K:Type}[DecidableEq K](k:K) : ∀(l:List (K × AV)),(match pY k (l.map Prod.fst) 0 with | some i=>(l[i]?).map Prod.snd | none=>none)=eL k l
 | []=>rfl
 | p :: l=>by
  simp only[List.map_cons,pY,eL]
  by_cases e:k=p.1
  ·simp[e]
  ·simp only[e,if_false]
   rw[pz]
   have:=yB k l
   cases h:pY k (l.map Prod.fst) 0 with
   | none=>rw[h]at this;simpa using this
   | some j=>rw[h]at this;simpa using this
theorem xj{K:Type}[DecidableEq K](k:K)(x:AV) : ∀(l:List (K × AV)),(match pY k (l.map Prod.fst) 0 with | some i=>l.set i (k,x) | none=>l++[(k,x)])=lF k x l
 | []=>rfl
 | p :: l=>by
  simp only[List.map_cons,pY,lF]
  by_cases e:k=p.1
  ·simp[e]
  ·simp only[e,if_false]
   rw[pz]
   have:=xj k x l
   cases h:pY k (l.map Prod.fst) 0 with
   | none=>rw[h]at this;simpa using this
   | some j=>rw[h]at this;simpa using this
theorem xk{K:Type}[DecidableEq K](k:K) : ∀(l:List K)(i:Nat),pY k l 0=some i→l[i]?=some k
 | [],i,h=>by cases h
 | a :: l,i,h=>by
  unfold pY at h
  split at h
  ·rename_i e;subst e;cases h;rfl
  ·rw[pz]at h
   cases hh:pY k l 0 with
   | none=>rw[hh]at h;cases h
   | some j =>
    rw[hh]at h
    simp at h
    subst h
    simpa using xk k l j hh
section
variable{P:Program}{kt et t:TypeId}{K:Type}[DecidableEq K]{val:K→Value}{kav:K→AV}(h:MJ P kt val)(hk : ∀k,fw (kav k)=some (val k))(ht:B1 P t=some (kt,et))
def cz(kav:K→AV)(l:List (K × AV)):List AV:=l.map fun p => .tup [kav p.1,p.2]
theorem py{g:cV}{r:Ref}{l:List (K × AV)}(hr:g r=some (bq (cz kav l))):gC g r=some (cz kav l):=by
 unfold gC
 rw[hr]
 rfl
include hk in
theorem yA(l:List (K × AV)):(cz kav l).mapM tP=some ((l.map Prod.fst).map val):=by
 induction l with
 | nil=>rfl
 | cons p l ih =>
  have e:tP (.tup [kav p.1,p.2])=some (val p.1):=hk p.1
  show((AV.tup [kav p.1,p.2]) :: cz kav l).mapM tP=_
  rw[List.mapM_cons,e,ih]
  rfl
include h hk ht
theorem tA{z:AV}(hz:ej P et=some z){g:cV}{r:Ref}{l:List (K × AV)}(hr:g r=some (bq (cz kav l)))(k:K)(ok:Bool) :
 cQ P g t (some (.mp r)) (some (kav k)) ok=some ((if ok then .tup [(eL k l).getD z,.v (.bool (eL k l).isSome)] else (eL k l).getD z),[]):=by
 unfold cQ
 simp only[ht,Option.bind_some,hk,py hr,yA hk,tC h,hz,Option.map_some]
 have hl:=yB k l
 cases hi:pY k (l.map Prod.fst) 0 with
 | none =>
  rw[hi]at hl
  rw[←hl]
  rfl
 | some i =>
  rw[hi]at hl
  dsimp only at hl ⊢
  have hlt:(l.map Prod.fst)[i]?=some k:=xk k _ i hi
  rw[List.getElem?_map]at hlt
  cases hp:l[i]? with
  | none=>rw[hp]at hlt;cases hlt
  | some p =>
   rw[hp]at hl
   have e:(cz kav l)[i]?=some (.tup [kav p.1,p.2]):=by unfold cz;rw[List.getElem?_map,hp];rfl
   rw[e,←hl]
   rfl
theorem pg{H:ab}{r:Ref}{l:List (K × AV)}(hr:H.get r=some (bq (cz kav l)))(k:K)(x:AV) :
 dE P H t (some (.mp r)) (some (kav k)) (some x)=some (AV.undef,H.put r (some (bq (cz kav (lF k x l))))):=by
 unfold dE
 simp only[ht,hk,py hr,yA hk,tC h]
 have hs:=xj k x l
 cases hi:pY k (l.map Prod.fst) 0 with
 | none =>
  rw[hi]at hs
  dsimp only at hs ⊢
  rw[←hs]
  simp[cz]
 | some i =>
  rw[hi]at hs
  dsimp only at hs ⊢
  have hlt:(l.map Prod.fst)[i]?=some k:=xk k _ i hi
  have e:((l.map Prod.fst).map val)[i]?=some (val k):=by rw[List.getElem?_map,hlt];rfl
  rw[e]
  simp only[Option.map_some,h.bits,if_true]
  rw[←hs]
  simp[cz,List.map_set]
theorem uT{z:AV}(hz:ej P et=some z){H:ab}{r:Ref}{l:List (K × AV)}(hr:H.get r=some (bq (cz kav l)))(k:K) :
 ∃i l',ei P H t (some (.mp r)) (some (kav k))=some (.tup [(eL k l).getD z,.v (.int .i64 (i:Nat))],H.put r (some (bq (cz kav l'))))∧(∃x0,l'[i]?=some (k,x0)) ∧∀x,l'.set i (k,x)=lF k x l:=by
 unfold ei
 simp only[ht,hk,py hr,yA hk,tC h]
 have hl:=yB k l
 cases hi:pY k (l.map Prod.fst) 0 with
 | none =>
  rw[hi]at hl
  dsimp only at hl ⊢
  refine⟨l.length,l++[(k,z)],?_,⟨z,by simp⟩,fun x=>?_⟩
  ·rw[←hl,hz]
   simp[cz]
  ·have hs:=xj k x l
   rw[hi]at hs
   dsimp only at hs
   rw[←hs]
   simp
 | some i =>
  rw[hi]at hl
  dsimp only at hl ⊢
  have hlt:(l.map Prod.fst)[i]?=some k:=xk k _ i hi
  have e:((l.map Prod.fst).map val)[i]?=some (val k):=by rw[List.getElem?_map,hlt];rfl
  rw[List.getElem?_map]at hlt
  cases hp:l[i]? with
  | none=>rw[hp]at hlt;cases hlt
  | some p =>
   rw[hp]at hl hlt
   simp only[Option.map_some,Option.some.injEq]at hlt hl
   have e2:(cz kav l)[i]?=some (.tup [kav p.1,p.2]):=by unfold cz;rw[List.getElem?_map,hp];rfl
   refine⟨i,l.set i (k,p.2),?_,⟨p.2,?_⟩,fun x=>?_⟩
   ·rw[e,e2,←hl]
    simp only[Option.map_some,h.bits,if_true,Option.bind_some,Bl]
    simp[cz,List.map_set]
   ·have hlt':i<l.length:=by
     rcases Nat.lt_or_ge i l.length with h | h
     ·exact h
     ·rw[List.getElem?_eq_none h]at hp;cases hp
    simp[hlt']
   ·have hs:=xj k x l
    rw[hi]at hs
    dsimp only at hs
    rw[←hs]
    simp
omit h hk ht in
theorem sJ{H:ab}{r:Ref}{l:List (K × AV)}(hr:H.get r=some (bq (cz kav l))){i:Nat}{k:K}{x0:AV}(hi:l[i]?=some (k,x0))(kd:IntKind)(x:AV) :
 cW H (some (.mp r)) (some (.v (.int kd (i:Nat)))) (some x)=some (AV.undef,H.put r (some (bq (cz kav (l.set i (k,x)))))):=by
 unfold cW
 have e:(cz kav l)[i]?=some (.tup [kav k,x0]):=by unfold cz;rw[List.getElem?_map,hi];rfl
 simp only[py hr]
 rw[if_pos (by omega)]
 simp only[Int.toNat_natCast,e]
 simp[cz,List.map_set]
end
end Go.Ab
