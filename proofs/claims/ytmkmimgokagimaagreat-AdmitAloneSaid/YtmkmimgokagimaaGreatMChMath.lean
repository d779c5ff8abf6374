/-
  Maps whose keys are plain: what is looked up, kept, and taken apart. No statement of a seat is proved here.
-/
import Derived.Test.YtmkmimgokagimaaGreatAbsRules
import Derived.Test.YtmkmimgokagimaaGreatMOpFns
set_option linter.unusedVariables false
set_option linter.unusedSimpArgs false
set_option linter.unusedSectionVars false
set_option linter.unnecessarySimpa false
namespace Go.Ab
def sT{K:Type}[DecidableEq K](k:K):List K→Nat→Option Nat
 | [],_=>none
 | a :: l,i=>if k=a then some i else sT k l (i+1)
structure Sa (P:Program) (kt:TypeId) {K:Type} [DecidableEq K] (val:K→Value):Prop where
 chk : ∀e a,bL P (Instr.checkKey e 10000 kt (val a))=some ()
 eq : ∀a b,bL P (Op.equal kt (val a) (val b))=some (decide (a=b))
 now : ∀d,P.underlying kt=some d →∀a b,Instr.sameNow d (val a) (val b)=none
 und:(P.underlying kt).isSome=true
 bits : ∀a,Instr.sameBits 10000 (val a) (val a)=true
section
variable{P:Program}{kt:TypeId}{K:Type}[DecidableEq K]{val:K→Value}(h:Sa P kt val)
include h
theorem KQ(k:K) : ∀(l:List K)(i:Nat),bL P (Instr.findAsking kt (val k) (l.map fun a=>⟨val a,Go.undef,0⟩) i)=some ((sT k l i).map fun j=>(j,Go.undef))
 | [],i=>rfl
 | a :: l,i=>by
  simp only[List.map_cons,Instr.findAsking,cf,h.eq,Option.bind_some,sT]
  by_cases e:k=a
  ·simp only[e,decide_true,if_true];rfl
  ·simp only[e,decide_false,Bool.false_eq_true,if_false];exact KQ k l (i+1)
theorem Rw(k:K)(l:List K):bL P (Instr.findKey kt (val k) (l.map fun a=>⟨val a,Go.undef,0⟩))=some ((sT k l 0).map fun j=>(j,Go.undef)):=by
 obtain⟨d,hd⟩:=Option.isSome_iff_exists.1 h.und
 simp only[Instr.findKey,cf,kQ hd,Option.bind_some]
 cases l with
 | nil=>rfl
 | cons a l =>
  have e:Instr.findNow d (val k) ((a :: l).map fun a=>⟨val a,Go.undef,0⟩) 0=none:=by
   simp only[List.map_cons,Instr.findNow,h.now d hd]
  rw[e]
  exact KQ h k (a :: l) 0
theorem xT(e:Bool)(k:K)(l:List K):wy P e kt (val k) (l.map val)=some (sT k l 0):=by
 unfold wy
 rw[h.chk]
 have:=Rw h k l
 simp only[List.map_map,Function.comp_def]
 rw[this]
 cases sT k l 0<;>rfl
end
def bH{K:Type}[DecidableEq K](k:K):List (K × AV)→Option AV
 | []=>none
 | p :: l=>if k=p.1 then some p.2 else bH k l
def fO{K:Type}[DecidableEq K](k:K)(x:AV):List (K × AV)→List (K × AV)
 | []=>[(k,x)]
 | p :: l=>if k=p.1 then (k,x) :: l else p :: fO k x l
@[simp] theorem pY{K:Type}[DecidableEq K](k:K)(x:AV) : ∀l:List (K × AV),bH k (fO k x l)=some x
 | []=>by simp[fO,bH]
 | p :: l=>by
  unfold fO
  split
  ·simp[bH]
  ·rename_i e;simp[bH,e,pY k x l]
theorem od{K:Type}[DecidableEq K]{k k':K}(e:k'≠k)(x:AV) : ∀l:List (K × AV),bH k' (fO k x l)=bH k' l
 | []=>by simp[fO,bH,e]
 | p :: l=>by
  unfold fO
  split
  ·rename_i h;subst h;simp[bH,e]
  ·simp only[bH];rw[od e x l]
theorem rU{K:Type}[DecidableEq K](k:K) : ∀(l:List K)(i:Nat),sT k l i=(sT k l 0).map (· + i)
 | [],i=>rfl
 | a :: l,i=>by
  unfold sT
  split
  ·simp
  ·rw[rU k l (i+1),rU k l (0+1)]
   cases sT k l 0 with
   | none=>rfl
   | some j=>simp;omega
theorem CF{K:Type}[DecidableEq K](k:K) : ∀(l:List (K × AV)),(match sT k (l.map Prod.fst) 0 with | some i=>(l[i]?).map Prod.snd | none=>none)=bH k l
 | []=>rfl
 | p :: l=>by
  simp only[List.map_cons,sT,bH]
  by_cases e:k=p.1
  ·simp[e]
  ·simp only[e,if_false]
   rw[rU]
   have:=CF k l
   cases h:sT k (l.map Prod.fst) 0 with
   | none=>rw[h]at this;simpa using this
   | some j=>rw[h]at this;simpa using this
theorem Bt{K:Type}[DecidableEq K](k:K)(x:AV) : ∀(l:List (K × AV)),(match sT k (l.map Prod.fst) 0 with | some i=>l.set i (k,x) | none=>l++[(k,x)])=fO k x l
 | []=>rfl
 | p :: l=>by
  simp only[List.map_cons,sT,fO]
  by_cases e:k=p.1
  ·simp[e]
  ·simp only[e,if_false]
   rw[rU]
   have:=Bt k x l
   cases h:sT k (l.map Prod.fst) 0 with
   | none=>rw[h]at this;simpa using this
   | some j=>rw[h]at this;simpa using this
theorem Bu{K:Type}[DecidableEq K](k:K) : ∀(l:List K)(i:Nat),sT k l 0=some i→l[i]?=some k
 | [],i,h=>by cases h
 | a :: l,i,h=>by
  unfold sT at h
  split at h
  ·rename_i e;subst e;cases h;rfl
  ·rw[rU]at h
   cases hh:sT k l 0 with
   | none=>rw[hh]at h;cases h
   | some j =>
    rw[hh]at h
    simp at h
    subst h
    simpa using Bu k l j hh
section
variable{P:Program}{kt et t:TypeId}{K:Type}[DecidableEq K]{val:K→Value}{kav:K→AV}(h:Sa P kt val)(hk : ∀k,fA (kav k)=some (val k))(ht:GD P t=some (kt,et))
def cI(kav:K→AV)(l:List (K × AV)):List AV:=l.map fun p => .tup [kav p.1,p.2]
theorem rS{g:dy}{r:Ref}{l:List (K × AV)}(hr:g r=some (bE (cI kav l))):iv g r=some (cI kav l):=by
 unfold iv
 rw[hr]
 rfl
include hk in
theorem CD(l:List (K × AV)):(cI kav l).mapM ye=some ((l.map Prod.fst).map val):=by
 induction l with
 | nil=>rfl
 | cons p l ih =>
  have e:ye (.tup [kav p.1,p.2])=some (val p.1):=hk p.1
  show((AV.tup [kav p.1,p.2]) :: cI kav l).mapM ye=_
  rw[List.mapM_cons,e,ih]
  rfl
include h hk ht
theorem xQ{z:AV}(hz:eS P et=some z){g:dy}{r:Ref}{l:List (K × AV)}(hr:g r=some (bE (cI kav l)))(k:K)(ok:Bool) :
 cS P g t (some (.mp r)) (some (kav k)) ok=some ((if ok then .tup [(bH k l).getD z,.v (.bool (bH k l).isSome)] else (bH k l).getD z),[]):=by
 unfold cS
 simp only[ht,Option.bind_some,hk,rS hr,CD hk,xT h,hz,Option.map_some]
 have hl:=CF k l
 cases hi:sT k (l.map Prod.fst) 0 with
 | none =>
  rw[hi]at hl
  rw[←hl]
  rfl
 | some i =>
  rw[hi]at hl
  dsimp only at hl ⊢
  have hlt:(l.map Prod.fst)[i]?=some k:=Bu k _ i hi
  rw[List.getElem?_map]at hlt
  cases hp:l[i]? with
  | none=>rw[hp]at hlt;cases hlt
  | some p =>
   rw[hp]at hl
   have e:(cI kav l)[i]?=some (.tup [kav p.1,p.2]):=by unfold cI;rw[List.getElem?_map,hp];rfl
   rw[e,←hl]
   rfl
theorem rG{H:ad}{r:Ref}{l:List (K × AV)}(hr:H.get r=some (bE (cI kav l)))(k:K)(x:AV) :
 dO P H t (some (.mp r)) (some (kav k)) (some x)=some (AV.undef,H.put r (some (bE (cI kav (fO k x l))))):=by
 unfold dO
 simp only[ht,hk,rS hr,CD hk,xT h]
 have hs:=Bt k x l
 cases hi:sT k (l.map Prod.fst) 0 with
 | none =>
  rw[hi]at hs
  dsimp only at hs ⊢
  rw[←hs]
  simp[cI]
 | some i =>
  rw[hi]at hs
  dsimp only at hs ⊢
  have hlt:(l.map Prod.fst)[i]?=some k:=Bu k _ i hi
  have e:((l.map Prod.fst).map val)[i]?=some (val k):=by rw[List.getElem?_map,hlt];rfl
  rw[e]
  simp only[Option.map_some,h.bits,if_true]
  rw[←hs]
  simp[cI,List.map_set]
theorem zk{z:AV}(hz:eS P et=some z){H:ad}{r:Ref}{l:List (K × AV)}(hr:H.get r=some (bE (cI kav l)))(k:K) :
 ∃i l',eM P H t (some (.mp r)) (some (kav k))=some (.tup [(bH k l).getD z,.v (.int .i64 (i:Nat))],H.put r (some (bE (cI kav l'))))∧(∃x0,l'[i]?=some (k,x0)) ∧∀x,l'.set i (k,x)=fO k x l:=by
 unfold eM
 simp only[ht,hk,rS hr,CD hk,xT h]
 have hl:=CF k l
 cases hi:sT k (l.map Prod.fst) 0 with
 | none =>
  rw[hi]at hl
  dsimp only at hl ⊢
  refine⟨l.length,l++[(k,z)],?_,⟨z,by simp⟩,fun x=>?_⟩
  ·rw[←hl,hz]
   simp[cI]
  ·have hs:=Bt k x l
   rw[hi]at hs
   dsimp only at hs
   rw[←hs]
   simp
 | some i =>
  rw[hi]at hl
  dsimp only at hl ⊢
  have hlt:(l.map Prod.fst)[i]?=some k:=Bu k _ i hi
  have e:((l.map Prod.fst).map val)[i]?=some (val k):=by rw[List.getElem?_map,hlt];rfl
  rw[List.getElem?_map]at hlt
  cases hp:l[i]? with
  | none=>rw[hp]at hlt;cases hlt
  | some p =>
   rw[hp]at hl hlt
   simp only[Option.map_some,Option.some.injEq]at hlt hl
   have e2:(cI kav l)[i]?=some (.tup [kav p.1,p.2]):=by unfold cI;rw[List.getElem?_map,hp];rfl
   refine⟨i,l.set i (k,p.2),?_,⟨p.2,?_⟩,fun x=>?_⟩
   ·rw[e,e2,←hl]
    simp only[Option.map_some,h.bits,if_true,Option.bind_some,FM]
    simp[cI,List.map_set]
   ·have hlt':i<l.length:=by
     rcases Nat.lt_or_ge i l.length with h | h
     ·exact h
     ·rw[List.getElem?_eq_none h]at hp;cases hp
    simp[hlt']
   ·have hs:=Bt k x l
    rw[hi]at hs
    dsimp only at hs
    rw[←hs]
    simp
omit h hk ht in
theorem wT{H:ad}{r:Ref}{l:List (K × AV)}(hr:H.get r=some (bE (cI kav l))){i:Nat}{k:K}{x0:AV}(hi:l[i]?=some (k,x0))(kd:IntKind)(x:AV) :
 dp H (some (.mp r)) (some (.v (.int kd (i:Nat)))) (some x)=some (AV.undef,H.put r (some (bE (cI kav (l.set i (k,x)))))):=by
 unfold dp
 have e:(cI kav l)[i]?=some (.tup [kav k,x0]):=by unfold cI;rw[List.getElem?_map,hi];rfl
 simp only[rS hr]
 rw[if_pos (by omega)]
 simp only[Int.toNat_natCast,e]
 simp[cI,List.map_set]
end
end Go.Ab
namespace Go.Ab
def nd(a b:jS):Bool:=decide (a.lv≤b.lv)&&decide (a.cats &&& ~~~b.cats=0)
def Ad(l:List jS):List AV:=l.map fun a => .agg [a8 a.lv,aF a.cats]
@[simp] theorem aaR(l:List jS):(Ad l).length=l.length:=by simp[Ad]
def hasB(s:CZ)(i:eJ):Bool:=jz s&&(decide (s.f.h=i.h)&&(decide (s.f.n≤i.n)&&decide (i.n<s.f.n+s.many)))
def Lt(o:bz):jS:=⟨o.h.lv,o.h.cats⟩
def UL(i:eJ):jS:=⟨i.h.lv,i.h.cats⟩
def mm(o:bz)(i:eJ)(v:jS):Bool:=decide (o.kind=3)&&(hasB o.s i&&nd (Lt o) v)
def An(out:List jS)(t:jS):List jS:=if t∈out then out else out++[t]
def vn(out:List jS)(l:List bz)(i:eJ)(v:jS):List jS:=l.foldl (fun out o=>if mm o i v then An out o.to else out) out
def xV(l:List bz)(i:eJ)(v:jS):List jS:=vn [UL i] l i v
def nC(l:List bz)(o:bz):Bool:=if o.kind=3 then nd (Lt o) o.to&&(List.range o.s.many.toNat).all (fun k=>decide (Lt o∈xV l ⟨o.s.f.h,o.s.f.n+(k:Int)⟩ (Lt o))) else true
def kX:List bz→List bz→Bool
 | _,[]=>true
 | l,o :: s=>la o&&nC l o&&kX (l++[o]) s
def pk(l:List bz):Int:=if 2048<l.length then 4 else if kX [] l then 0 else 8
def lpO(o:Option bP):Option (Nat × AV):=match o with
 | some ⟨0,[.v (.int .i64 st),inf],_,_⟩=>some (st.toNat,inf)
 | _=>none
theorem tD(H:ad)(r:Ref):wz H r=lpO (H.get r):=rfl
@[simp] theorem Bq(st:Nat)(inf:AV):lpO (some (iS st inf))=some (st,inf):=by
 simp[lpO,iS]
theorem RR(inf:AV)(K:AV→Prop)(m:Mk K):bgP (some (0,inf)) K m↔K inf:=by
 constructor
 ·rintro⟨info,e,h⟩
  simp only[Option.some.injEq,Prod.mk.injEq,true_and]at e
  subst e;exact h
 ·intro h;exact⟨inf,rfl,h⟩
attribute [simp] RR
theorem Re(H:ad)(r:Ref)(st:Nat)(inf:AV):wz (H.put r (some (iS st inf))) r=some (st,inf):=by
 rw[tD,ad.ao,if_pos rfl,Bq]
theorem OY{E:Env}{fn:Func}{dep nt:Nat}{r:Ref}{f:FuncId}{ps:List Tmp}{assign body:Code}{tm:List AV}{args:List AV}{H:ad}{Q:AV→ad→Prop}
 (hl:H.get r=some (iS 0 (.lp f nt ps assign body tm))) (hn:fn.ntmps=nt) (hp:args.length=ps.length) (hps:ps.all (· < nt)=true) (ha:codeOk E.ok assign=true) (hb:codeOk E.ok body=true)
 (h:rl E fn (some r) (dep+1) [.code assign,.beginRound,.code body] (dL (uK tm ps args)) H fun x H'=>x = .v (.int .i64 0) ∧∃info,H'.get r=some (iS 1 info)∧Q (.v (.bool true)) (H'.put r (some (iS 0 info)))) :
 ∃y H',bO E dep (.yld r) args H=some (y,H')∧Q y H':=by
 refine Ri (by rw[tD,hl];exact Bq _ _) hn hp hps ha hb ?_
 intro tm' ht
 obtain⟨y,H',⟨rfl,info,h1,hQ⟩,n,hn⟩:=h tm' ht
 exact⟨_,H',⟨0,rfl,info,_,by rw[tD,h1];exact Bq _ _,rfl,Re _ _ _ _,fun _=>hQ,fun h=>absurd h (by decide),by decide⟩,n,hn⟩
theorem Kf{s:ek}{l:List (Nat × AV)}(h : ∀p∈l,s p.1=p.2):PA s l=s:=by
 induction l with
 | nil=>rfl
 | cons p l ih =>
  obtain⟨j,v⟩:=p
  funext i
  show cond (Nat.beq i j) v (PA s l i)=s i
  rw[ih fun p hp=>h p (List.mem_cons_of_mem _ hp)]
  cases hb:Nat.beq i j with
  | false=>rfl
  | true =>
   have:=Nat.eq_of_beq_eq_true hb
   subst this
   exact(h _ (List.mem_cons_self ..)).symm
@[simp] theorem Uv(r:Ref)(o n:Nat)(c:Option Nat)(y:AV):iC [AV.cP r o n c] 0 0 [y]=some [y]:=id rfl
@[simp] theorem Xn(x:Value)(y:AV):iC [AV.v x] 0 0 [y]=some [y]:=id rfl
def IW(p:bz × AV):AV := .agg [a8 p.1.kind,a8 p.1.h.lv,aF p.1.h.cats,a8 p.1.h.num,aI p.1.serial,a8 p.1.s.f.h.lv,aF p.1.s.f.h.cats,a8 p.1.s.f.h.num,aI p.1.s.f.n,aI p.1.s.many,
 a8 p.1.a.h.lv,aF p.1.a.h.cats,a8 p.1.a.h.num,aI p.1.a.n,a8 p.1.to.lv,aF p.1.to.cats,p.2]
def ff(l:List (bz × AV)):List AV:=l.map IW
@[simp] theorem vE(l:List (bz × AV)):(ff l).length=l.length:=by simp[ff]
def L8(p:bz × AV):Prop:=Sl 1 (rows p.1.l) p.2∧p.1.l.length<2000000
def opsOf(l:List (bz × AV)):List bz:=l.map (·.1)
theorem Ld{E:Env}(dep:Nat)(H:ad)(r q:Ref)(args:List AV):bo E true (bj E) (bO E dep) H r (some (.yld q)) args=bO E dep (.yld q) args H:=by
 simp[bo,iI,bg,DJ,lE]
theorem Ln(out:List jS)(t:jS):(An out t).length≤out.length+1:=by
 unfold An;split
 ·omega
 ·simp
theorem OS(s:List bz)(i:eJ)(v:jS) : ∀out:List jS,(vn out s i v).length≤out.length+s.length:=by
 induction s with
 | nil=>intro out;simp[vn]
 | cons o s ih =>
  intro out
  show(vn (if mm o i v then An out o.to else out) s i v).length≤_
  have h1:=ih (if mm o i v then An out o.to else out)
  have h2:(if mm o i v then An out o.to else out).length≤out.length+1:=by
   split
   ·exact Ln _ _
   ·omega
  simp only[List.length_cons]
  omega
end Go.Ab
