/-
  Maps whose keys are plain: what is looked up, kept, and taken apart. No statement of a seat is proved here.
-/
import Derived.Test.YtdbiffjdomokfaaGreatAbsRules
set_option linter.unusedVariables false
set_option linter.unusedSimpArgs false
set_option linter.unusedSectionVars false
namespace Go.Ab
def qR{K:Type}[DecidableEq K](k:K):List K→Nat→Option Nat
 | [],_=>none
 | a :: l,i=>if k=a then some i else qR k l (i+1)
structure Pg (P:Program) (kt:TypeId) {K:Type} [DecidableEq K] (val:K→Value):Prop where
 chk : ∀e a,bz P (Instr.checkKey e 10000 kt (val a))=some ()
 eq : ∀a b,bz P (Op.equal kt (val a) (val b))=some (decide (a=b))
 now : ∀d,P.underlying kt=some d →∀a b,Instr.sameNow d (val a) (val b)=none
 und:(P.underlying kt).isSome=true
 bits : ∀a,Instr.sameBits 10000 (val a) (val a)=true
section
variable{P:Program}{kt:TypeId}{K:Type}[DecidableEq K]{val:K→Value}(h:Pg P kt val)
include h
theorem HP(k:K) : ∀(l:List K)(i:Nat),bz P (Instr.findAsking kt (val k) (l.map fun a=>⟨val a,Go.undef,0⟩) i)=some ((qR k l i).map fun j=>(j,Go.undef))
 | [],i=>rfl
 | a :: l,i=>by
  simp only[List.map_cons,Instr.findAsking,bO,h.eq,Option.bind_some,qR]
  by_cases e:k=a
  ·simp only[e,decide_true,if_true];rfl
  ·simp only[e,decide_false,Bool.false_eq_true,if_false];exact HP k l (i+1)
theorem OE(k:K)(l:List K):bz P (Instr.findKey kt (val k) (l.map fun a=>⟨val a,Go.undef,0⟩))=some ((qR k l 0).map fun j=>(j,Go.undef)):=by
 obtain⟨d,hd⟩:=Option.isSome_iff_exists.1 h.und
 simp only[Instr.findKey,bO,kb hd,Option.bind_some]
 cases l with
 | nil=>rfl
 | cons a l =>
  have e:Instr.findNow d (val k) ((a :: l).map fun a=>⟨val a,Go.undef,0⟩) 0=none:=by
   simp only[List.map_cons,Instr.findNow,h.now d hd]
  rw[e]
  exact HP h k (a :: l) 0
theorem u7(e:Bool)(k:K)(l:List K):tB P e kt (val k) (l.map val)=some (qR k l 0):=by
 unfold tB
 rw[h.chk]
 have:=OE h k l
 simp only[List.map_map,Function.comp_def]
 rw[this]
 cases qR k l 0<;>rfl
end
def bZ{K:Type}[DecidableEq K](k:K):List (K × AV)→Option AV
 | []=>none
 | p :: l=>if k=p.1 then some p.2 else bZ k l
def fJ{K:Type}[DecidableEq K](k:K)(x:AV):List (K × AV)→List (K × AV)
 | []=>[(k,x)]
 | p :: l=>if k=p.1 then (k,x) :: l else p :: fJ k x l
@[simp] theorem oP{K:Type}[DecidableEq K](k:K)(x:AV) : ∀l:List (K × AV),bZ k (fJ k x l)=some x
 | []=>by simp[fJ,bZ]
 | p :: l=>by
  unfold fJ
  split
  ·simp[bZ]
  ·rename_i e;simp[bZ,e,oP k x l]
theorem m7{K:Type}[DecidableEq K]{k k':K}(e:k'≠k)(x:AV) : ∀l:List (K × AV),bZ k' (fJ k x l)=bZ k' l
 | []=>by simp[fJ,bZ,e]
 | p :: l=>by
  unfold fJ
  split
  ·rename_i h;subst h;simp[bZ,e]
  ·simp only[bZ];rw[m7 e x l]
theorem qp{K:Type}[DecidableEq K](k:K) : ∀(l:List K)(i:Nat),qR k l i=(qR k l 0).map (· + i)
 | [],i=>rfl
 | a :: l,i=>by
  unfold qR
  split
  ·simp
  ·rw[qp k l (i+1),qp k l (0+1)]
   cases qR k l 0 with
   | none=>rfl
   | some j=>simp;omega
theorem zZ{K:Type}[DecidableEq K](k:K) : ∀(l:List (K × AV)),(match qR k (l.map Prod.fst) 0 with | some i=>(l[i]?).map Prod.snd | none=>none)=bZ k l
 | []=>rfl
 | p :: l=>by
  simp only[List.map_cons,qR,bZ]
  by_cases e:k=p.1
  ·simp[e]
  ·simp only[e,if_false]
   rw[qp]
   have:=zZ k l
   cases h:qR k (l.map Prod.fst) 0 with
   | none=>rw[h]at this;simpa using this
   | some j=>rw[h]at this;simpa using this
theorem yV{K:Type}[DecidableEq K](k:K)(x:AV) : ∀(l:List (K × AV)),(match qR k (l.map Prod.fst) 0 with | some i=>l.set i (k,x) | none=>l++[(k,x)])=fJ k x l
 | []=>rfl
 | p :: l=>by
  simp only[List.map_cons,qR,fJ]
  by_cases e:k=p.1
  ·simp[e]
  ·simp only[e,if_false]
   rw[qp]
   have:=yV k x l
   cases h:qR k (l.map Prod.fst) 0 with
   | none=>rw[h]at this;simpa using this
   | some j=>rw[h]at this;simpa using this
theorem yW{K:Type}[DecidableEq K](k:K) : ∀(l:List K)(i:Nat),qR k l 0=some i→l[i]?=some k
 | [],i,h=>by cases h
 | a :: l,i,h=>by
  unfold qR at h
  split at h
  ·rename_i e;subst e;cases h;rfl
  ·rw[qp]at h
   cases hh:qR k l 0 with
   | none=>rw[hh]at h;cases h
   | some j =>
    rw[hh]at h
    simp at h
    subst h
    simpa using yW k l j hh
section
variable{P:Program}{kt et t:TypeId}{K:Type}[DecidableEq K]{val:K→Value}{kav:K→AV}(h:Pg P kt val)(hk : ∀k,fP (kav k)=some (val k))(ht:Dy P t=some (kt,et))
def cH(kav:K→AV)(l:List (K × AV)):List AV:=l.map fun p => .tup [kav p.1,p.2]
theorem qo{g:dk}{r:Ref}{l:List (K × AV)}(hr:g r=some (bw (cH kav l))):hJ g r=some (cH kav l):=by
 unfold hJ
 rw[hr]
 rfl
include hk in
theorem zY(l:List (K × AV)):(cH kav l).mapM vt=some ((l.map Prod.fst).map val):=by
 induction l with
 | nil=>rfl
 | cons p l ih =>
  have e:vt (.tup [kav p.1,p.2])=some (val p.1):=hk p.1
  show((AV.tup [kav p.1,p.2]) :: cH kav l).mapM vt=_
  rw[List.mapM_cons,e,ih]
  rfl
include h hk ht
theorem u5{z:AV}(hz:eG P et=some z){g:dk}{r:Ref}{l:List (K × AV)}(hr:g r=some (bw (cH kav l)))(k:K)(ok:Bool) :
 da P g t (some (.mp r)) (some (kav k)) ok=some ((if ok then .tup [(bZ k l).getD z,.v (.bool (bZ k l).isSome)] else (bZ k l).getD z),[]):=by
 unfold da
 simp only[ht,Option.bind_some,hk,qo hr,zY hk,u7 h,hz,Option.map_some]
 have hl:=zZ k l
 cases hi:qR k (l.map Prod.fst) 0 with
 | none =>
  rw[hi]at hl
  rw[←hl]
  rfl
 | some i =>
  rw[hi]at hl
  dsimp only at hl ⊢
  have hlt:(l.map Prod.fst)[i]?=some k:=yW k _ i hi
  rw[List.getElem?_map]at hlt
  cases hp:l[i]? with
  | none=>rw[hp]at hlt;cases hlt
  | some p =>
   rw[hp]at hl
   have e:(cH kav l)[i]?=some (.tup [kav p.1,p.2]):=by unfold cH;rw[List.getElem?_map,hp];rfl
   rw[e,←hl]
   rfl
theorem qa{H:ab}{r:Ref}{l:List (K × AV)}(hr:H.get r=some (bw (cH kav l)))(k:K)(x:AV) :
 dO P H t (some (.mp r)) (some (kav k)) (some x)=some (AV.undef,H.put r (some (bw (cH kav (fJ k x l))))):=by
 unfold dO
 simp only[ht,hk,qo hr,zY hk,u7 h]
 have hs:=yV k x l
 cases hi:qR k (l.map Prod.fst) 0 with
 | none =>
  rw[hi]at hs
  dsimp only at hs ⊢
  rw[←hs]
  simp[cH]
 | some i =>
  rw[hi]at hs
  dsimp only at hs ⊢
  have hlt:(l.map Prod.fst)[i]?=some k:=yW k _ i hi
  have e:((l.map Prod.fst).map val)[i]?=some (val k):=by rw[List.getElem?_map,hlt];rfl
  rw[e]
  simp only[Option.map_some,h.bits,if_true]
  rw[←hs]
  simp[cH,List.map_set]
theorem wG{z:AV}(hz:eG P et=some z){H:ab}{r:Ref}{l:List (K × AV)}(hr:H.get r=some (bw (cH kav l)))(k:K) :
 ∃i l',eF P H t (some (.mp r)) (some (kav k))=some (.tup [(bZ k l).getD z,.v (.int .i64 (i:Nat))],H.put r (some (bw (cH kav l'))))∧(∃x0,l'[i]?=some (k,x0)) ∧∀x,l'.set i (k,x)=fJ k x l:=by
 unfold eF
 simp only[ht,hk,qo hr,zY hk,u7 h]
 have hl:=zZ k l
 cases hi:qR k (l.map Prod.fst) 0 with
 | none =>
  rw[hi]at hl
  dsimp only at hl ⊢
  refine⟨l.length,l++[(k,z)],?_,⟨z,by simp⟩,fun x=>?_⟩
  ·rw[←hl,hz]
   simp[cH]
  ·have hs:=yV k x l
   rw[hi]at hs
   dsimp only at hs
   rw[←hs]
   simp
 | some i =>
  rw[hi]at hl
  dsimp only at hl ⊢
  have hlt:(l.map Prod.fst)[i]?=some k:=yW k _ i hi
  have e:((l.map Prod.fst).map val)[i]?=some (val k):=by rw[List.getElem?_map,hlt];rfl
  rw[List.getElem?_map]at hlt
  cases hp:l[i]? with
  | none=>rw[hp]at hlt;cases hlt
  | some p =>
   rw[hp]at hl hlt
   simp only[Option.map_some,Option.some.injEq]at hlt hl
   have e2:(cH kav l)[i]?=some (.tup [kav p.1,p.2]):=by unfold cH;rw[List.getElem?_map,hp];rfl
   refine⟨i,l.set i (k,p.2),?_,⟨p.2,?_⟩,fun x=>?_⟩
   ·rw[e,e2,←hl]
    simp only[Option.map_some,h.bits,if_true,Option.bind_some,CQ]
    simp[cH,List.map_set]
   ·have hlt':i<l.length:=by
     rcases Nat.lt_or_ge i l.length with h | h
     ·exact h
     ·rw[List.getElem?_eq_none h]at hp;cases hp
    simp[hlt']
   ·have hs:=yV k x l
    rw[hi]at hs
    dsimp only at hs
    rw[←hs]
    simp
omit h hk ht in
theorem uf{H:ab}{r:Ref}{l:List (K × AV)}(hr:H.get r=some (bw (cH kav l))){i:Nat}{k:K}{x0:AV}(hi:l[i]?=some (k,x0))(kd:IntKind)(x:AV) :
 dn H (some (.mp r)) (some (.v (.int kd (i:Nat)))) (some x)=some (AV.undef,H.put r (some (bw (cH kav (l.set i (k,x)))))):=by
 unfold dn
 have e:(cH kav l)[i]?=some (.tup [kav k,x0]):=by unfold cH;rw[List.getElem?_map,hi];rfl
 simp only[qo hr]
 rw[if_pos (by omega)]
 simp only[Int.toNat_natCast,e]
 simp[cH,List.map_set]
end
end Go.Ab
