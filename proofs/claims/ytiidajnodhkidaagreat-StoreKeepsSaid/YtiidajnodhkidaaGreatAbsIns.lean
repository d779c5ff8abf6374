/-
  One element put into an own row, whatever room the row has. No statement of a seat is proved here.
-/
import Derived.Test.YtiidajnodhkidaaGreatAbsRules
set_option linter.unusedVariables false
set_option linter.unusedSimpArgs false
namespace Go.Ab
def kC(es:List AV)(i:Nat)(v:AV):List AV:=es.take i++v :: es.drop i
@[simp] theorem Dd(es:List AV)(i:Nat)(v:AV)(h:i≤es.length):(kC es i v).length=es.length+1:=by
 simp[kC];omega
def J6(P:Program)(t:TypeId)(H:Heap)(r:Ref)(n:Nat)(i:Int)(rv:Ref)(b bv:Blk)(v:AV)(z by':Nat):Prop :=
 H.get r=some b∧H.get rv=some bv∧(eA P t).bind (bm P)=some z∧(eA P t).bind (kr P)=some by'∧bv.es=[v] ∧
 b.arr=true∧bv.arr=true∧b.esz=z∧bv.esz=z∧1<z∧0<by'∧b.frz=false∧r≠rv∧n=b.es.length∧0≤i∧i<n∧(n+1) * by'≤cN
def insX(sl:Nat)(H:Heap)(r:Ref):Ref:=⟨r.d+1,sl,H.gen (r.d+1) sl,0⟩
def insH(sl:Nat)(H:Heap)(r:Ref)(B:Blk):Heap:=(⟨r.d,r.t,H.gen r.d r.t,0⟩,some B) :: (insX sl H r,none) :: H.put r none
def qQ(P:Program)(t:TypeId)(sl:Nat)(args:List AV)(H:Heap):WRes:=match args with
 | [.osl r 0 n none,.v (.int .i64 i),.osl rv 0 1 cv]=>(match H.get r,H.get rv,(eA P t).bind (bm P),(eA P t).bind (kr P) with
  | some b,some bv,some z,some by'=>(match bv.es with
   | [v]=>if b.arr=true∧bv.arr=true∧b.esz=z∧bv.esz=z∧1<z∧0<by'∧b.frz=false∧r≠rv∧n=b.es.length∧0≤i∧i<n∧(n+1) * by'≤cN then
    some (.osl ⟨r.d,r.t,H.gen r.d r.t,0⟩ 0 (n+1) none,insH sl H r { b with es:=kC b.es i.toNat v}) else none
   | _=>none)
  | _,_,_,_=>none)
 | _=>none
theorem vG{P:Program}{t:TypeId}{sl:Nat}{args:List AV}{H H':Heap}{y:AV}(h:qQ P t sl args H=some (y,H')) :
 ∃r n i rv cv b bv v z by',args=[.osl r 0 n none,.v (.int .i64 i),.osl rv 0 1 cv]∧J6 P t H r n i rv b bv v z by' ∧
  y = .osl ⟨r.d,r.t,H.gen r.d r.t,0⟩ 0 (n+1) none∧H'=insH sl H r { b with es:=kC b.es i.toNat v}:=by
 unfold qQ at h
 split at h
 ·rename_i r n i rv cv
  split at h
  ·rename_i b bv z by' h1 h2 h3 h4
   split at h
   ·rename_i v hv
    obtain⟨hc,h⟩:=Option.ite_none_right_eq_some.1 h
    cases h
    exact⟨r,n,i,rv,cv,b,bv,v,z,by',rfl,⟨h1,h2,h3,h4,hv,hc⟩,rfl,rfl⟩
   ·cases h
  ·cases h
 ·cases h
theorem wR(sl:Nat){H:Heap}{r:Ref}{B:Blk}(q:Ref)(hX:H.get (insX sl H r)=none):(insH sl H r B).get q=if (⟨r.d,r.t,H.gen r.d r.t,0⟩:Ref)=q then some B else if q=r then none else H.get q:=by
 unfold insH
 rw[Heap.gV,Heap.gV,Heap.aj]
 split
 ·rfl
 ·split
  ·rename_i e
   rw[←e]
   split
   ·rfl
   ·exact hX.symm
  ·rfl
theorem MI(sl:Nat){H:Heap}{r:Ref}{B:Blk}(hr:(H.get r).isSome=true)(d t:Nat):H.gen d t≤(insH sl H r B).gen d t∧(r.d=d∧r.t=t→H.gen d t<(insH sl H r B).gen d t)∧(r.d+1=d∧sl=t→H.gen d t<(insH sl H r B).gen d t):=by
 unfold insH
 rw[Heap.pD,Heap.pD,Heap.iF _ _ _ hr]
 unfold insX
 simp only
 by_cases h1:r.d=d∧r.t=t
 ·obtain⟨rfl,rfl⟩:=h1
  rw[if_pos ⟨rfl,rfl⟩]
  exact⟨by omega,fun _=>by omega,fun h=>by omega⟩
 ·rw[if_neg h1]
  by_cases h2:r.d+1=d∧sl=t
  ·obtain⟨rfl,rfl⟩:=h2
   rw[if_pos ⟨rfl,rfl⟩]
   exact⟨by omega,fun h=>absurd h h1,fun _=>by omega⟩
  ·rw[if_neg h2]
   exact⟨by omega,fun h=>absurd h h1,fun h=>absurd h h2⟩
theorem zU{M:Mem}{ι:Map}{H Hc:Heap}{w w':World}{r x:Ref}{sl n:Nat}{c:Option Nat}{B:Blk}{u:Value}(hD:Dom ι H)(hr:(H.get r).isSome=true)(hrg:r.g<H.gen r.d r.t)(hX:H.get (insX sl H r)=none)
 (hget : ∀q,Hc.get q=if q=x then some B else H.get q) (hx:x=r∨H.get x=none)
 (hgen : ∀d t,Hc.gen d t≤H.gen d t∨(r.d+1=d∧sl=t∧Hc.gen d t≤H.gen d t+1))
 (hW:WOut M ι H w (.osl x 0 n c) Hc u w'):WOut M ι H w (.osl ⟨r.d,r.t,H.gen r.d r.t,0⟩ 0 n none) (insH sl H r B) u w':=by
 obtain⟨M',ι',hv,hS,hF,hD'⟩:=hW
 obtain⟨q0,hq0⟩ : ∃q0:Ref,q0=⟨r.d,r.t,H.gen r.d r.t,0⟩:=⟨_,rfl⟩
 have hgr:Hc.gen r.d r.t≤H.gen r.d r.t:=by
  rcases hgen r.d r.t with h | ⟨h,_⟩
  ·exact h
  ·omega
 have hn0:ι' q0=none:=by
  cases h:ι' q0 with
  | none=>rfl
  | some l =>
   have:=hD' q0 l h
   rw[hq0]at this
   simp only at this
   omega
 have hn1:ι q0=none:=by
  cases h:ι q0 with
  | none=>rfl
  | some l =>
   have:=hD q0 l h
   rw[hq0]at this
   simp only at this
   omega
 have hqr:q0≠r:=by
  intro e
  rw[←e]at hrg
  rw[hq0]at hrg
  simp only at hrg
  omega
 have hgx:Hc.get x=some B:=by rw[hget x,if_pos rfl]
 have hB:=hS.live x B hgx
 obtain⟨lx,hlx,hbx⟩:=hB
 have hle : ∀q l,ι' q=some l→updM ι' q0 lx q=some l:=by
  intro q l h
  unfold updM
  split
  ·rename_i e;rw[e,hn0]at h;cases h
  ·exact h
 have hne : ∀q k,q≠q0→(insH sl H r B).get q=some k→Hc.get q=some k∧q≠x:=by
  intro q k hq h
  rw[wR sl q hX,←hq0,if_neg (fun e=>hq e.symm)]at h
  split at h
  ·cases h
  ·rename_i hqr'
   have hqx:q≠x:=by
    intro e
    rcases hx with hx | hx
    ·exact hqr' (e.trans hx)
    ·rw[e,hx]at h;cases h
   exact⟨by rw[hget q,if_neg hqx];exact h,hqx⟩
 have hq0B : ∀k,(insH sl H r B).get q0=some k→k=B:=by
  intro k h
  rw[wR sl q0 hX,←hq0,if_pos rfl]at h
  exact(Option.some.inj h).symm
 rw[←hq0]
 refine⟨M',updM ι' q0 lx,?_,⟨hS.mem,?_,?_⟩,⟨hF.os,hF.tape,hF.output,hF.size,hF.chg,hF.mem,fun q l h=>hle q l (hF.map q l h),?_,hF.new⟩,?_⟩
 ·cases hv with | osl hr' hbb hsp ha hc hn hk hzl =>
  rw[hlx]at hr'
  cases hr'
  exact .osl (by simp[updM]) hbb hsp ha hc hn (fun k hk=>by cases hk) hzl
 ·intro q k h
  by_cases hq:q=q0
  ·subst hq
   have:=hq0B k h
   subst this
   exact⟨lx,by simp[updM],hbx.keep (fun _ _ _ h=>h) hle rfl hbx.frozen⟩
  ·obtain⟨h1,_⟩:=hne q k hq h
   obtain⟨l,hl,hb⟩:=hS.live q k h1
   exact⟨l,hle q l hl,hb.keep (fun _ _ _ h=>h) hle rfl hb.frozen⟩
 ·intro q q' k k' l l' h h' hl hl' e
  by_cases hq:q=q0
  ·by_cases hq':q'=q0
   ·rw[hq,hq']
   ·exfalso
    obtain⟨h1,h2⟩:=hne q' k' hq' h'
    rw[hq]at hl
    simp only[updM,if_true]at hl
    cases hl
    unfold updM at hl'
    rw[if_neg hq']at hl'
    exact h2 (hS.inj x q' B k' lx l' hgx h1 hlx hl' e).symm
  ·obtain⟨h1,h2⟩:=hne q k hq h
   unfold updM at hl
   rw[if_neg hq]at hl
   by_cases hq':q'=q0
   ·exfalso
    rw[hq']at hl'
    simp only[updM,if_true]at hl'
    cases hl'
    exact h2 (hS.inj q x k B l lx h1 hgx hl hlx e)
   ·obtain⟨h3,_⟩:=hne q' k' hq' h'
    unfold updM at hl'
    rw[if_neg hq']at hl'
    exact hS.inj q q' k k' l l' h1 h3 hl hl' e
 ·intro q k l h hl
  by_cases hq:q=q0
  ·rw[hq]at hl
   simp only[updM,if_true]at hl
   cases hl
   exact hF.live x B lx hgx hlx
  ·obtain⟨h1,_⟩:=hne q k hq h
   unfold updM at hl
   rw[if_neg hq]at hl
   exact hF.live q k l h1 hl
 ·intro q l hl
  obtain⟨g1,g2,g3⟩:=MI (B:=B) sl hr q.d q.t
  by_cases hq:q=q0
  ·have e1:r.d=q.d∧r.t=q.t:=by rw[hq,hq0];exact⟨rfl,rfl⟩
   have e2:q.g=H.gen q.d q.t:=by rw[←e1.1,←e1.2,hq,hq0]
   rw[e2]
   exact g2 e1
  ·unfold updM at hl
   rw[if_neg hq]at hl
   have:=hD' q l hl
   rcases hgen q.d q.t with h | ⟨h1,h2,h3⟩
   ·omega
   ·have:=g3 ⟨h1,h2⟩;omega
theorem Ht{P:Program}{t:TypeId}{sl:Nat}{f:FuncId}{args:List AV}{H H':Heap}{y:AV}(hf : ∃fn,P.funcs[f]?=some fn∧(fn.name == "runtime.NumGoroutine")=false∧fn.body.isSome=true)
 (hrun : ∀(r rv:Ref)(n:Nat)(i:Int)(cv:Option Nat)(b bv:Blk)(v:AV)(z by' c:Nat),J6 P t H r n i rv b bv v z by'→n≤c→H.get (insX sl H r)=none→r.g<H.gen r.d r.t →
  ∃y' Hc,oK P (.fn f) [.osl r 0 n (some c),.v (.int .i64 i),.osl rv 0 1 cv] H y' Hc ∧
   (
    (y' = .osl r 0 (n+1) (some c)∧Hc=H.put r (some { b with es:=kC b.es i.toNat v})) ∨
    (y' = .osl (insX sl H r) 0 (n+1) none∧Hc=(insX sl H r,some { b with es:=kC b.es i.toNat v}) :: H)))
 (h:qQ P t sl args H=some (y,H')):oK P (.fn f) args H y H':=by
 obtain⟨r,n,i,rv,cv,b,bv,v,z,by',rfl,hok,rfl,rfl⟩:=vG h
 refine⟨hf,fun M ι w us hS hD hvs=>?_⟩
 obtain⟨hlen,hall⟩:=hvs
 match us,hlen,hall with
 | [u1,u2,u3],hlen,hall =>
 have hv1:=hall 0 _ u1 rfl rfl
 have hb:=hok.1
 have hXn:H.get (insX sl H r)=none:=by
  cases hq:H.get (insX sl H r) with
  | none=>rfl
  | some k =>
   obtain⟨l,hl,_⟩:=hS.live _ _ hq
   have:=hD.fresh (r.d+1) sl 0
   unfold insX at hl
   rw[this]at hl
   cases hl
 have hrg:r.g<H.gen r.d r.t:=by
  obtain⟨l,hl,_⟩:=hS.live _ _ hb
  exact hD r l hl
 cases hv1 with | osl hr hbb hsp ha hc hn hk hzl =>
 rename_i l a c
 have hv1':VR M ι (.osl r 0 n (some c)) (.slice (some a) n c) := .osl hr hbb hsp ha hc hn (fun k hk=>by cases hk;rfl) hzl
 obtain⟨y',Hc,⟨_,hT⟩,hform⟩:=hrun r rv n i cv b bv v z by' c hok hc hXn hrg
 have hvs':VRs M ι [.osl r 0 n (some c),.v (.int .i64 i),.osl rv 0 1 cv] [.slice (some a) n c,u2,u3]:=by
  refine⟨rfl,fun j x u hx hu=>?_⟩
  match j,hx,hu with
  | 0,hx,hu=>cases hx;cases hu;exact hv1'
  | 1,hx,hu=>exact hall 1 x u hx hu
  | 2,hx,hu=>exact hall 2 x u hx hu
 refine(hT M ι w _ hS hD hvs').mono fun e w' ⟨u,he,hW⟩=>⟨u,he,?_⟩
 have hrs:(H.get r).isSome=true:=by rw[hb];rfl
 rcases hform with ⟨rfl,rfl⟩ | ⟨rfl,rfl⟩
 ·refine zU hD hrs hrg hXn (x:=r) (fun q=>by rw[Heap.aj]) (.inl rfl) (fun d t => .inl (by rw[Heap.iF _ _ _ hrs];exact Nat.le_refl _)) hW
 ·refine zU hD hrs hrg hXn (x:=insX sl H r) (fun q=>?_) (.inr hXn) (fun d t=>?_) hW
  ·rw[Heap.gV]
   by_cases e:insX sl H r=q
   ·rw[if_pos e,if_pos e.symm]
   ·rw[if_neg e,if_neg (fun h=>e h.symm)]
  ·rw[Heap.pD]
   unfold insX
   simp only
   split
   ·rename_i h;exact .inr ⟨h.1,h.2,by rw[←h.1,←h.2];omega⟩
   ·exact .inl (Nat.le_refl _)
end Go.Ab
namespace Go.Ab
theorem Fw{P:Program}{t t':TypeId}(hT:elOk P t=true)(hA:isInt P t'=true)(hz:(gq P t).cells.all AV.one=true){H:Heap}{r q:Ref}{b:Blk}(hq:H.get q=some b)(hbz:b.esz=elZ P t)(hba:b.arr=true)(off i c n:Nat)(hi:off+i≤b.es.length)(hc:c<i+n)(h1:(n:Int)≤cN)(hn0:0<n)(hb:(i+n) * elBy P t≤cN) :
 cE P true H r (some t) (some t') (.osl q off i (some c)) (aI n)=some (.osl r 0 (i+n) none,({ r with k:=0},some ⟨elZ P t,(b.es.drop off).take i++List.replicate n (gq P t),true,false⟩) :: H):=by
 unfold elOk at hT
 obtain⟨e,zz,e1,e2,e3,e4,e5,e6,e7,e8⟩:=gl hT
 have ez:gq P t=zz:=by unfold gq;rw[e1,Option.bind_some,e4];rfl
 rw[ez]at hz ⊢
 have hun:(P.underlying t').isNone=false:=by
  unfold isInt at hA
  cases h:P.underlying t' with
  | none=>rw[h]at hA;cases hA
  | some d=>rfl
 have hcc : ¬((P.underlying t').isNone=true∨isInt P t'≠isNum (aI n)):=by rw[hun,hA];simp[isNum]
 have hd : ¬(elZ P t≠elZ P t∨elZ P t=0∨elBy P t=0∨zz.cells.length≠elZ P t):=by simp[e5,e7,e8]
 have hnew:mI P H.get e (aI n)=some (elZ P t,List.replicate n zz):=by
  show(match fF P e,bm P e with | some w,some z=>if 0≤(n:Int)∧(n:Int)≤cN∧w.cells.length=z∧w.cells.all AV.one then some (z,List.replicate (n:Int).toNat w) else none | _,_=>none)=_
  rw[e4,e2]
  exact if_pos ⟨by omega,h1,by simp[e5,e7,e8],hz⟩
 have hk : ¬(b.esz≠elZ P t∨b.arr=false):=by simp[hbz,hba]
 have hn:List.replicate n zz≠[]:=by
  intro h
  have:=congrArg List.length h
  simp only[List.length_replicate,List.length_nil]at this
  omega
 have hcond:off+i≤b.es.length∧c<i+n∧(i+n) * elBy P t≤cN:=⟨hi,hc,hb⟩
 simp only[cE,eV,Option.bind_some,e1,Option.map_some,Option.getD_some,if_neg hcc,e2,e3,e4,hnew,if_neg hd,if_neg hn,hq,if_neg hk,List.length_replicate,if_pos hcond]
 rfl
theorem J3{es:List AV}{i n:Nat}(hn:n=es.length)(hi:i<n)(v:AV) :
 (es.take (i+1)++(es.drop i).take (n - i)++es.drop (i+1+(n - i))).take i++[v]++(es.take (i+1)++(es.drop i).take (n - i)++es.drop (i+1+(n - i))).drop (i+1)=kC es i v:=by
 subst hn
 have h1:(es.drop i).take (es.length - i)=es.drop i:=List.take_of_length_le (by simp)
 have h2:es.drop (i+1+(es.length - i))=[]:=List.drop_of_length_le (by omega)
 have h3:(es.take (i+1)).length=i+1:=by rw[List.length_take];omega
 rw[h1,h2,List.append_nil]
 have h4:(es.take (i+1)++es.drop i).take i=es.take i:=by
  rw[List.take_append_of_le_length (by omega),List.take_take,Nat.min_eq_left (by omega)]
 have h5:(es.take (i+1)++es.drop i).drop (i+1)=es.drop i:=by
  rw[List.drop_append_of_le_length (by omega),List.drop_of_length_le (by omega),List.nil_append]
 rw[h4,h5]
 simp[kC]
theorem J4{es:List AV}{i n:Nat}(hn:n=es.length)(hi:i<n)(v z:AV) :
 ((
  es.take i++List.replicate (n+1 - i) z).take i++[v]++(es.take i++List.replicate (n+1 - i) z).drop (i+1)).take (i+1)++(es.drop i).take (n - i) ++
  ((es.take i++List.replicate (n+1 - i) z).take i++[v]++(es.take i++List.replicate (n+1 - i) z).drop (i+1)).drop (i+1+(n - i))=kC es i v:=by
 subst hn
 have h1:(es.drop i).take (es.length - i)=es.drop i:=List.take_of_length_le (by simp)
 have h3:(es.take i).length=i:=by rw[List.length_take];omega
 have h4:(es.take i++List.replicate (es.length+1 - i) z).take i=es.take i:=by
  rw[List.take_append_of_le_length (by omega),List.take_take,Nat.min_self]
 rw[h1,h4]
 have h5:(es.take i++[v]++(es.take i++List.replicate (es.length+1 - i) z).drop (i+1)).take (i+1)=es.take i++[v]:=by
  rw[List.take_append_of_le_length (by simp;omega),List.take_of_length_le (by simp;omega)]
 have h6:(es.take i++[v]++(es.take i++List.replicate (es.length+1 - i) z).drop (i+1)).drop (i+1+(es.length - i))=[]:=by
  apply List.drop_of_length_le
  simp
  omega
 rw[h5,h6]
 simp[kC]
end Go.Ab
namespace Go.Ab
theorem Pt(H:Heap)(r:Ref)(a b:Option Blk):(H.put r a).put r b=H.put r b:=by
 induction H with
 | nil=>simp[Heap.put]
 | cons p H ih =>
  obtain⟨q,x⟩:=p
  by_cases h:q=r
  ·simp[Heap.put,h]
  ·simp[Heap.put,h,ih]
end Go.Ab
