/-
  What is to be shown for a run of the abstract machine, as one proposition that is computed from the code. No statement of a seat is proved here.
  More fuel gives the same answer. No statement of a seat is proved here.
  What the abstract machine's operations yield on data: the rules for the conditions. No statement of a seat is proved here.
  Own memory in the conditions: appends, stores, loads, what is seen of it. No statement of a seat is proved here.
-/
import Derived.Test.YtgooemdlilfkmaaAbsEnv
import Derived.IntWalk
set_option linter.unusedVariables false
set_option linter.unusedSimpArgs false
namespace Go.Ab
abbrev cN:=Nat→AV
def bN(s:cN):Operand→Option AV
 | .tmp t=>some (s t)
 | .const v=>ofValue v
 | .func f=>some (.fn (.func f) [] [])
 | .global _=>none
def oW(ev:Operand→Option AV):List Operand→Option (List AV)
 | []=>some []
 | o :: os=>match ev o,oW ev os with
  | some x,some xs=>some (x :: xs)
  | _,_=>none
def n4(ev:Operand→Option AV):List (Nat × Operand)→Option (List (Nat × AV))
 | []=>some []
 | (i,o) :: os=>match ev o,n4 ev os with
  | some x,some xs=>some ((i,x) :: xs)
  | _,_=>none
def optF(ev:Operand→Option AV):Option Operand→Option (Option Int)
 | none=>some none
 | some o=>match (ev o).bind lS with
  | some n=>some (some n)
  | none=>none
def fset(s:cN)(d:Nat)(v:AV):cN:=fun i=>cond (Nat.beq i d) v (s i)
def ck(tm:List AV)(s:cN):Prop :=∀i,tget tm i=s i
theorem lA{tm:List AV}{s:cN}(h:ck tm s):aO tm=bN s:=by
 funext o;cases o<;>simp[aO,bN,h _]
theorem oV(ev:Operand→Option AV)(l:List Operand):l.mapM ev=oW ev l:=by
 induction l with
 | nil=>rfl
 | cons o l ih =>
  simp only[List.mapM_cons,ih,oW,Option.pure_def,Option.bind_eq_bind]
  cases ev o<;>cases oW ev l<;>rfl
theorem pV{tm:List AV}{s:cN}(h:ck tm s)(l:List (Nat × Operand)):cP tm l=n4 (bN s) l:=by
 induction l with
 | nil=>rfl
 | cons o l ih =>
  obtain⟨i,o⟩:=o
  unfold cP at ih ⊢
  rw[List.mapM_cons,ih]
  simp only[n4,Option.pure_def,Option.bind_eq_bind,lA h]
  cases bN s o<;>cases n4 (bN s) l<;>rfl
theorem qM{tm:List AV}{s:cN}(h:ck tm s)(o:Option Operand):fb tm o=optF (bN s) o:=by
 cases o with
 | none=>rfl
 | some o=>simp only[fb,optF,lA h];rfl
theorem ck.set{tm:List AV}{s:cN}(h:ck tm s)(d:Nat)(v:AV):ck (tset tm d v) (fset s d v):=by
 intro i
 rw[k7]
 unfold fset
 split
 ·rename_i e;subst e;simp
 ·rename_i e;rw[show Nat.beq i d=false from by cases hb:Nat.beq i d with | false=>rfl | true=>exact(e (Nat.eq_of_beq_eq_true hb)).elim];exact h i
def cG(c a b:Option AV):QRes :=
 match c.bind og with
 | some true=>qVal a
 | some false=>qVal b
 | none=>none
def nRes(H:Heap)(r:Ref)(q:QRes):WRes :=
 match q with
 | some (v,bs)=>some (v,keyed r 0 bs H)
 | none=>none
def orW(wk:Bool)(a b:WRes):WRes :=
 match a with
 | some x=>some x
 | none=>cond wk b none
def gy(E:Env)(wk:Bool)(pc:FuncId→List AV→Option AV)(tc:Tgt→List AV→Heap→WRes)(H:Heap)(r:Ref)(f:Option AV)(args:List AV):WRes :=
 orW wk (nRes H r (hX E pc H.get r f args)) (jz E pc tc H r f args)
def jt(E:Env)(wk:Bool)(pc:FuncId→List AV→Option AV)(tc:Tgt→List AV→Heap→WRes)(H:Heap)(r:Ref)(f:Option AV)(args:List AV):WRes :=
 orW wk (nRes H r ((hX E pc H.get r f args).map fun p=>(p.1,frzB true p.2))) (kO true H (jz E pc tc H r f args))
def eO(P:Program)(wk:Bool)(H:Heap)(r:Ref)(t t':Option TypeId)(s x:AV):WRes :=
 orW wk (nRes H r (ed P H.get r t t' s x)) (eS P H t t' s x)
def mf(P:Program)(draw wk:Bool)(H:Heap)(r:Ref)(t:TypeId)(n:Nat)(vs:Option (List (Nat × AV))):WRes :=
 orW wk (nRes H r (c8 P draw H.get r t n vs)) (dA P H r t n vs)
def lP(E:Env)(pc:FuncId→List AV→Option AV)(tc:Tgt→List AV→Heap→WRes)(dep:Nat)(draw wk:Bool)(s:cN)(H:Heap)(r:Ref)(o:Oper):QRes ⊕ WRes :=
 match o.op with
 | .move x | .assign x => .inl (qVal (bN s x))
 | .pick c a b => .inl (cG (bN s c) (bN s a) (bN s b))
 | .alloc e => .inr (nRes H r (cW E.P r e))
 | .box e x => .inr (nRes H r (qBox E.P r e (bN s x)))
 | .build t ps => .inl (fa E.P t (n4 (bN s) ps.toList))
 | .buildSlice t n ps => .inr (mf E.P (draw && !E.strict o) wk H r t n (n4 (bN s) ps.toList))
 | .load t a => .inl (aC E.P H.get t (bN s a))
 | .store t a x => .inr (cond wk (bc E.P H t (bN s a) (bN s x)) none)
 | .nilCheck x => .inl (qNil (bN s x))
 | .binOp op t xo yo _ => .inl (qBin E.P op t xo yo (bN s xo) (bN s yo))
 | .unOp op _ x => .inl (qUn E.P op (bN s x))
 | .convert src dst x=>match bT E.P dst with
  | true => .inr (nRes H r (cE E.P H.get r src dst (bN s x)))
  | false => .inl (cE E.P H.get r src dst (bN s x))
 | .makeInterface t x => .inl (jU E.P t (bN s x))
 | .makeFunc f first captured => .inl (qI f (oW (bN s) first.toList) (oW (bN s) captured.toList))
 | .makeSlice t l c => .inr (nRes H r (sm E.P r t (bN s l) (bN s c)))
 | .slice t x lo hi mx=>match E.wide o && !draw with
  | true => .inl (jR E.P H.get t (bN s x) (optF (bN s) lo) (optF (bN s) hi) (optF (bN s) mx))
  | false => .inl (eE E.P H.get t (bN s x) (optF (bN s) lo) (optF (bN s) hi) (optF (bN s) mx))
 | .fieldAddr t x f => .inl (ak E.P t (bN s x) f)
 | .field t x f => .inl (n3 E.P t (bN s x) f)
 | .indexAddr t x ix => .inl (aE E.P H.get t (bN s x) (bN s ix))
 | .index t x ix => .inl (mI E.P t (bN s x) (bN s ix))
 | .typeAssert x _ want ok => .inl (iz E.P (bN s x) want ok)
 | .extract x i => .inl (bJ (bN s x) i)
 | .call c =>
  match oW (bN s) c.args.toList with
  | none => .inl none
  | some args =>
   match c.callee with
   | .value f=>(match sx E.over draw f with
    | some t => .inl (vH E.P H.get t args)
    | none=>(match E.frz o with
     | true => .inr (jt E wk pc tc H r (bN s f) args)
     | false => .inr (gy E wk pc tc H r (bN s f) args)))
   | .invoke _ _ => .inl none
   | .builtin b=>match b,args with
    | .append,[a,x] => .inr (eO E.P wk H r c.argTypes[0]? c.argTypes[1]? a x)
    | .copy,[dst,x]=>(match E.wide o with
     | true => .inr (cond wk (pD E.P H c.argTypes[0]? dst x) none)
     | false => .inr (cond wk (sZ E.P H c.argTypes[0]? dst x) none))
    | b,args => .inl (aF E.P (draw&&(E.strict o || !(match c.args.toList with | [.tmp _]=>true | _=>false))) H.get r b c.argTypes args)
 | .makeMap _ none => .inr (nRes H r (some (.mp r,[gC []])))
 | .lookup t x k ok => .inl (fT E.P H.get t (bN s x) (bN s k) ok)
 | .mapUpdate t m k x => .inr (cond wk (cL E.P H t (bN s m) (bN s k) (bN s x)) none)
 | .insert t m k x => .inr (cond wk (cL E.P H t (bN s m) (bN s k) (bN s x)) none)
 | .mapEntry t m k => .inr (cond wk (gf E.P H t (bN s m) (bN s k)) none)
 | .entryStore _ m n x => .inr (cond wk (dz H (bN s m) (bN s n) (bN s x)) none)
 | _ => .inl none
def lT(E:Env)(pc:FuncId→List AV→Option AV)(tc:Tgt→List AV→Heap→WRes)(dep:Nat)(draw:Bool)(tm:List AV)(H:Heap)(o:Oper):WRes :=
 match bP E pc draw H.get tm ⟨dep,o.dst.getD 0,H.gen dep (o.dst.getD 0),0⟩ o with
 | some (x,bs)=>some (x,keyed ⟨dep,o.dst.getD 0,H.gen dep (o.dst.getD 0),0⟩ 0 bs H)
 | none=>if draw && !ek E o then none else evalW E pc tc H tm ⟨dep,o.dst.getD 0,H.gen dep (o.dst.getD 0),0⟩ o
theorem rU(E:Env)(pc:FuncId→List AV→Option AV)(tc:Tgt→List AV→Heap→WRes)(nt dep:Nat)(draw:Bool)(ops:Array Oper)(o:Oper)(st:St) :
 evalOp E pc tc nt dep draw ops o st=(match wanted ops st.tm o with
  | none=>none
  | some false=>(bG nt st.tm o.dst AV.undef).map fun tm => { st with tm}
  | some true=>match lT E pc tc dep draw st.tm st.hp o with
   | some (x,H)=>(bG nt st.tm o.dst x).map fun tm=>⟨tm,H⟩
   | none=>none):=by
 unfold evalOp lT
 cases hw:wanted ops st.tm o with
 | none=>rfl
 | some b =>
 cases b with
 | false=>rfl
 | true =>
  cases bP E pc draw st.hp.get st.tm ⟨dep,o.dst.getD 0,st.hp.gen dep (o.dst.getD 0),0⟩ o with
  | some p=>rfl
  | none =>
   dsimp only
   split
   ·rfl
   ·rfl
theorem yC{E:Env}{pc:FuncId→List AV→Option AV}{tc:Tgt→List AV→Heap→WRes}{dep:Nat}{draw:Bool}{tm:List AV}{H:Heap}{o:Oper}{v:AV}
 (h:bP E pc draw H.get tm ⟨dep,o.dst.getD 0,H.gen dep (o.dst.getD 0),0⟩ o=some (v,[])):lT E pc tc dep draw tm H o=some (v,H):=by
 unfold lT;rw[h];rfl
theorem uM{E:Env}{pc:FuncId→List AV→Option AV}{tc:Tgt→List AV→Heap→WRes}{dep:Nat}{draw:Bool}{tm:List AV}{H H':Heap}{o:Oper}{v:AV}{q:QRes}
 (h:bP E pc draw H.get tm ⟨dep,o.dst.getD 0,H.gen dep (o.dst.getD 0),0⟩ o=q) (hq:nRes H ⟨dep,o.dst.getD 0,H.gen dep (o.dst.getD 0),0⟩ q=some (v,H')):lT E pc tc dep draw tm H o=some (v,H'):=by
 unfold lT;rw[h]
 unfold nRes at hq
 split at hq
 ·exact hq
 ·cases hq
theorem gV{E:Env}{pc:FuncId→List AV→Option AV}{tc:Tgt→List AV→Heap→WRes}{dep:Nat}{draw:Bool}{tm:List AV}{H H':Heap}{o:Oper}{v:AV}{q:QRes}{w:WRes}
 (h:bP E pc draw H.get tm ⟨dep,o.dst.getD 0,H.gen dep (o.dst.getD 0),0⟩ o=q) (hw:evalW E pc tc H tm ⟨dep,o.dst.getD 0,H.gen dep (o.dst.getD 0),0⟩ o=w)
 (hq:orW (!(draw && !ek E o)) (nRes H ⟨dep,o.dst.getD 0,H.gen dep (o.dst.getD 0),0⟩ q) w=some (v,H')):lT E pc tc dep draw tm H o=some (v,H'):=by
 unfold lT;rw[h]
 cases q with
 | some p=>simpa [orW,nRes] using hq
 | none =>
  rw[hw]
  cases hd:(draw && !ek E o) with
  | true=>rw[hd]at hq;simp[orW,nRes]at hq
  | false=>rw[hd]at hq;simpa [orW,nRes] using hq
section
variable{E:Env}{pc:FuncId→List AV→Option AV}{tc:Tgt→List AV→Heap→WRes}{dep:Nat}{draw:Bool}{tm:List AV}{s:cN}{H:Heap}{o:Oper}
theorem xS(hs:ck tm s){q:QRes}{v:AV}
 (h:lP E pc tc dep draw (!(draw && !ek E o)) s H ⟨dep,o.dst.getD 0,H.gen dep (o.dst.getD 0),0⟩ o = .inl q) (hq:q=some (v,[])):lT E pc tc dep draw tm H o=some (v,H):=by
 subst hq
 refine yC ?_
 have e:=lA hs
 unfold lP at h
 unfold bP
 split at h<;>rename_i ho<;>simp only[ho]
 all_goals try (simp only[Sum.inl.injEq,reduceCtorEq]at h)
 all_goals try (rw[←h];simp only[e,cG,qF,pV hs,qM hs,oV];done)
 ·rw[←h];unfold qF cG;rw[e];rfl
 ·split at h
  ·cases h
  ·simp only[Sum.inl.injEq]at h;rw[←h,e]
 ·cases hwd:(E.wide o && !draw) with
  | true=>rw[hwd]at h;simp only[Sum.inl.injEq]at h;rw[←h];simp only[cond_true,e,qM hs]
  | false=>rw[hwd]at h;simp only[Sum.inl.injEq]at h;rw[←h];simp only[cond_false,e,qM hs]
 ·rw[oV,e]
  split at h
  ·cases h
  ·rename_i args hargs
   rw[hargs]
   dsimp only
   split at h
   ·rename_i f hf
    rw[hf]
    dsimp only
    split at h
    ·rename_i t ht
     simp only[Sum.inl.injEq]at h
     simp only[ht]
     exact h
    ·split at h<;>cases h
   ·cases h
   ·rename_i b hb
    rw[hb]
    dsimp only
    split at h
    ·cases h
    ·split at h<;>cases h
    ·simp only[Sum.inl.injEq]at h;exact h
theorem xR(hs:ck tm s){w:WRes}{v:AV}{H':Heap}
 (h:lP E pc tc dep draw (!(draw && !ek E o)) s H ⟨dep,o.dst.getD 0,H.gen dep (o.dst.getD 0),0⟩ o = .inr w) (hw:w=some (v,H')):lT E pc tc dep draw tm H o=some (v,H'):=by
 subst hw
 have e:=lA hs
 unfold lP at h
 split at h<;>rename_i ho
 all_goals try (simp only[reduceCtorEq]at h;done)
 all_goals try (simp only[Sum.inr.injEq]at h)
 all_goals try (refine uM (by unfold bP;simp only[ho,e]) h;done)
 ·rw[←pV hs]at h
  exact gV (q:=c8 _ _ _ _ _ _ _) (w:=dA _ _ _ _ _ _) (by unfold bP;simp only[ho]) (by unfold evalW;simp only[ho]) h
 ·rw[←e]at h
  exact gV (q:=none) (w:=bc _ _ _ _ _) (by unfold bP;simp only[ho]) (by unfold evalW;simp only[ho]) h
 ·split at h
  ·simp only[Sum.inr.injEq]at h
   refine uM (by unfold bP;simp only[ho,e]) h
  ·cases h
 ·split at h<;>cases h
 ·split at h
  ·cases h
  ·rename_i args hargs
   have ha:=hargs
   rw[←oV,←e]at ha
   split at h
   ·rename_i f hf
    split at h
    ·cases h
    ·rename_i hov
     split at h
     ·rename_i hfz
      simp only[Sum.inr.injEq]at h
      rw[←e]at h
      exact gV (q:=(hX _ _ _ _ _ _).map _) (w:=kO true _ (jz _ _ _ _ _ _ _)) (by unfold bP;simp only[ho,ha,hf,hov,hfz]) (by unfold evalW;simp only[ho,ha,hf,hfz]) h
     ·rename_i hfz
      simp only[Sum.inr.injEq]at h
      rw[←e]at h
      exact gV (q:=hX _ _ _ _ _ _) (w:=jz _ _ _ _ _ _ _) (by unfold bP;simp only[ho,ha,hf,hov,hfz,frzB];cases hX E pc H.get _ (aO tm f) args<;>rfl) (by unfold evalW;simp only[ho,ha,hf,hfz];rfl) h
   ·cases h
   ·rename_i b hb
    split at h
    ·simp only[Sum.inr.injEq]at h
     exact gV (q:=ed _ _ _ _ _ _ _) (w:=eS _ _ _ _ _ _) (by unfold bP;simp only[ho,ha,hb];rfl) (by unfold evalW;simp only[ho,ha,hb]) h
    ·split at h
     ·rename_i hwd
      simp only[Sum.inr.injEq]at h
      exact gV (q:=none) (w:=pD _ _ _ _ _) (by unfold bP;simp only[ho,ha,hb];rfl) (by unfold evalW;simp only[ho,ha,hb,hwd,cond_true]) h
     ·rename_i hwd
      simp only[Sum.inr.injEq]at h
      exact gV (q:=none) (w:=sZ _ _ _ _ _) (by unfold bP;simp only[ho,ha,hb];rfl) (by unfold evalW;simp only[ho,ha,hb,hwd,cond_false]) h
    ·cases h
 ·rw[←e]at h
  exact gV (q:=none) (w:=cL _ _ _ _ _ _) (by unfold bP;simp only[ho]) (by unfold evalW;simp only[ho]) h
 ·rw[←e]at h
  exact gV (q:=none) (w:=cL _ _ _ _ _ _) (by unfold bP;simp only[ho]) (by unfold evalW;simp only[ho]) h
 ·rw[←e]at h
  exact gV (q:=none) (w:=gf _ _ _ _ _) (by unfold bP;simp only[ho]) (by unfold evalW;simp only[ho]) h
 ·rw[←e]at h
  exact gV (q:=none) (w:=dz _ _ _ _) (by unfold bP;simp only[ho]) (by unfold evalW;simp only[ho]) h
end
open Classical in
noncomputable def limf(E:Env)(f:FuncId)(args:List AV):Option AV :=
 if h : ∃y n,∀m,n≤m→bS E (runA E m) f args=some y then some h.choose else none
theorem mS{E:Env}{f:FuncId}{args:List AV}{y:AV}:limf E f args=some y ↔ ∃n,∀m,n≤m→bS E (runA E m) f args=some y:=by
 unfold limf
 constructor
 ·intro h
  split at h
  ·rename_i hh
   simp only[Option.some.injEq]at h
   rw[←h]
   exact hh.choose_spec
  ·cases h
 ·intro h
  rw[dif_pos ⟨y,h⟩]
  obtain⟨n,hn⟩:=h
  have hh : ∃y n,∀m,n≤m→bS E (runA E m) f args=some y:=⟨y,n,hn⟩
  obtain⟨n',hn'⟩:=hh.choose_spec
  have h1:=hn (max n n') (Nat.le_max_left ..)
  have h2:=hn' (max n n') (Nat.le_max_right ..)
  exact h2.symm.trans h1
open Classical in
noncomputable def limt(E:Env)(dep:Nat)(f:Tgt)(args:List AV)(H:Heap):WRes :=
 if h : ∃y n,∀m,n≤m→cZ E (runA E m) dep f args H=some y then some h.choose else none
theorem oX{E:Env}{dep:Nat}{f:Tgt}{args:List AV}{H:Heap}{y:AV × Heap}:limt E dep f args H=some y ↔ ∃n,∀m,n≤m→cZ E (runA E m) dep f args H=some y:=by
 unfold limt
 constructor
 ·intro h
  split at h
  ·rename_i hh
   simp only[Option.some.injEq]at h
   rw[←h]
   exact hh.choose_spec
  ·cases h
 ·intro h
  rw[dif_pos ⟨y,h⟩]
  obtain⟨n,hn⟩:=h
  have hh : ∃y n,∀m,n≤m→cZ E (runA E m) dep f args H=some y:=⟨y,n,hn⟩
  obtain⟨n',hn'⟩:=hh.choose_spec
  have h1:=hn (max n n') (Nat.le_max_left ..)
  have h2:=hn' (max n n') (Nat.le_max_right ..)
  exact h2.symm.trans h1
theorem q5{E:Env}{wk:Bool}{dep:Nat}{H H':Heap}{r:Ref}{f:Option AV}{args:List AV}{v:AV}(h:gy E wk (limf E) (limt E dep) H r f args=some (v,H')) :
 ∃n,∀m,n≤m→gy E wk (bS E (runA E m)) (cZ E (runA E m) dep) H r f args=some (v,H'):=by
 unfold gy at h ⊢
 by_cases hf : ∃fi first captured,f=some (.fn (.func fi) first captured)
 ·obtain⟨fi,first,captured,rfl⟩:=hf
  by_cases h2:E.mode fi=2
  ·simp only[hX,jz,if_pos h2,nRes,orW]at h ⊢
   cases wk with
   | true =>
    simp only[cond_true]at h ⊢
    obtain⟨n,hn⟩:=oX.1 h
    exact⟨n,hn⟩
   | false=>simp at h
  ·simp only[hX,jz,if_neg h2]at h ⊢
   cases hx:(first++args++captured).mapM (view H.get depth) with
   | none=>rw[hx]at h;simp[nRes,orW]at h
   | some xs =>
    rw[hx]at h
    dsimp only at h ⊢
    cases hy:limf E fi xs with
    | none=>rw[hy]at h;simp[nRes,orW]at h
    | some y =>
     rw[hy]at h
     obtain⟨n,hn⟩:=mS.1 hy
     refine⟨n,fun m hm=>?_⟩
     rw[hn m hm]
     exact h
 ·have h1 : ∀pc,hX E pc H.get r f args=none:=by
   intro pc
   unfold hX
   split
   ·exact(hf ⟨_,_,_,rfl⟩).elim
   ·rfl
  by_cases hy : ∃q,f=some (.yld q)
  ·obtain⟨q,rfl⟩:=hy
   rw[h1]at h
   cases wk with
   | false=>simp[nRes,orW]at h
   | true =>
    have h':limt E dep (.yld q) args H=some (v,H'):=h
    obtain⟨n,hn⟩:=oX.1 h'
    refine⟨n,fun m hm=>?_⟩
    rw[h1]
    exact hn m hm
  ·have h2 : ∀pc tc,jz E pc tc H r f args=none:=by
    intro pc tc
    unfold jz
    split
    ·exact(hf ⟨_,_,_,rfl⟩).elim
    ·exact(hy ⟨_,rfl⟩).elim
    ·rfl
   rw[h1,h2]at h
   cases wk<;>simp[nRes,orW]at h
theorem nQ{H H':Heap}{x:WRes}{v:AV}(h:kO true H x=some (v,H')) : ∃H1,x=some (v,H1)∧H'=H∧flat depth v=true∧mn H H1=true:=by
 cases x with
 | none=>simp[kO]at h
 | some p =>
  obtain⟨y,H1⟩:=p
  unfold kO at h
  simp only at h
  split at h
  ·rename_i hc
   cases h
   rw[Bool.and_eq_true]at hc
   exact⟨H1,rfl,rfl,hc.1,hc.2⟩
  ·cases h
theorem qf{E:Env}{wk:Bool}{dep:Nat}{H H':Heap}{r:Ref}{f:Option AV}{args:List AV}{v:AV}(h:jt E wk (limf E) (limt E dep) H r f args=some (v,H')) :
 ∃n,∀m,n≤m→jt E wk (bS E (runA E m)) (cZ E (runA E m) dep) H r f args=some (v,H'):=by
 unfold jt at h ⊢
 by_cases hf : ∃fi first captured,f=some (.fn (.func fi) first captured)
 ·obtain⟨fi,first,captured,rfl⟩:=hf
  by_cases h2:E.mode fi=2
  ·simp only[hX,jz,if_pos h2,nRes,orW,Option.map_none]at h ⊢
   cases wk with
   | true =>
    simp only[cond_true]at h ⊢
    obtain⟨H1,e1,e2,e3,e4⟩:=nQ h
    obtain⟨n,hn⟩:=oX.1 e1
    refine⟨n,fun m hm=>?_⟩
    rw[hn m hm]
    rw[e1]at h
    exact h
   | false=>simp at h
  ·simp only[hX,jz,if_neg h2]at h ⊢
   cases hx:(first++args++captured).mapM (view H.get depth) with
   | none=>rw[hx]at h;simp[nRes,orW,kO]at h
   | some xs =>
    rw[hx]at h
    dsimp only at h ⊢
    cases hy:limf E fi xs with
    | none=>rw[hy]at h;simp[nRes,orW,kO]at h
    | some y =>
     rw[hy]at h
     obtain⟨n,hn⟩:=mS.1 hy
     refine⟨n,fun m hm=>?_⟩
     rw[hn m hm]
     exact h
 ·have h1 : ∀pc,hX E pc H.get r f args=none:=by
   intro pc
   unfold hX
   split
   ·exact(hf ⟨_,_,_,rfl⟩).elim
   ·rfl
  by_cases hy : ∃q,f=some (.yld q)
  ·obtain⟨q,rfl⟩:=hy
   rw[h1]at h
   cases wk with
   | false=>simp[nRes,orW]at h
   | true =>
    have h':kO true H (limt E dep (.yld q) args H)=some (v,H'):=h
    obtain⟨H1,e1,_⟩:=nQ h'
    obtain⟨n,hn⟩:=oX.1 e1
    refine⟨n,fun m hm=>?_⟩
    rw[h1]
    show kO true H (cZ E (runA E m) dep (.yld q) args H)=_
    rw[hn m hm]
    rw[e1]at h'
    exact h'
  ·have h2 : ∀pc tc,jz E pc tc H r f args=none:=by
    intro pc tc
    unfold jz
    split
    ·exact(hf ⟨_,_,_,rfl⟩).elim
    ·exact(hy ⟨_,rfl⟩).elim
    ·rfl
   rw[h1,h2]at h
   cases wk<;>simp[nRes,orW,kO]at h
theorem pW{E:Env}{dep:Nat}{draw wk:Bool}{s:cN}{H:Heap}{r:Ref}{o:Oper} :
 (∀q v,lP E (limf E) (limt E dep) dep draw wk s H r o = .inl q→q=some (v,[]) →∃n,∀m,n≤m→lP E (bS E (runA E m)) (cZ E (runA E m) dep) dep draw wk s H r o = .inl (some (v,[]))) ∧
 (∀w v H',lP E (limf E) (limt E dep) dep draw wk s H r o = .inr w→w=some (v,H') →∃n,∀m,n≤m→lP E (bS E (runA E m)) (cZ E (runA E m) dep) dep draw wk s H r o = .inr (some (v,H'))):=by
 constructor
 ·intro q v h hq
  subst hq
  refine⟨0,fun m _=>?_⟩
  unfold lP at h ⊢
  generalize o.op=op at h ⊢
  cases op
  all_goals try exact h
  case makeMap a b=>cases b<;>exact h
  rename_i c
  dsimp only at h ⊢
  cases ha:oW (bN s) c.args.toList with
  | none=>rw[ha]at h;exact h
  | some args =>
   rw[ha]at h
   dsimp only at h ⊢
   cases hc:c.callee with
   | value f =>
    rw[hc]at h
    dsimp only at h ⊢
    cases hov:sx E.over draw f with
    | some t=>rw[hov]at h;exact h
    | none=>rw[hov]at h;dsimp only at h;split at h<;>cases h
   | invoke a b=>rw[hc]at h;exact h
   | builtin b=>rw[hc]at h;exact h
 ·intro w v H' h hw
  subst hw
  unfold lP at h ⊢
  generalize o.op=op at h ⊢
  cases op
  all_goals try (exact⟨0,fun m _=>h⟩)
  case makeMap a b=>cases b<;>exact⟨0,fun m _=>h⟩
  rename_i c
  dsimp only at h ⊢
  cases ha:oW (bN s) c.args.toList with
  | none=>rw[ha]at h;cases h
  | some args =>
   rw[ha]at h
   dsimp only at h ⊢
   cases hc:c.callee with
   | value f =>
    rw[hc]at h
    dsimp only at h ⊢
    cases hov:sx E.over draw f with
    | some t=>rw[hov]at h;cases h
    | none =>
    rw[hov]at h
    dsimp only at h ⊢
    cases hfz:E.frz o with
    | true =>
     rw[hfz]at h
     simp only[Sum.inr.injEq]at h
     obtain⟨n,hn⟩:=qf h
     exact⟨n,fun m hm=>congrArg _ (hn m hm)⟩
    | false =>
     rw[hfz]at h
     simp only[Sum.inr.injEq]at h
     obtain⟨n,hn⟩:=q5 h
     exact⟨n,fun m hm=>congrArg _ (hn m hm)⟩
   | invoke a b=>rw[hc]at h;cases h
   | builtin b=>rw[hc]at h;exact⟨0,fun m _=>h⟩
abbrev Mk{α:Type}(a:α):Type:=Unit
structure doQ (q:QRes) (K:AV→Prop) (m:Mk K:=()):Prop where
 h : ∃v,q=some (v,[])∧K v
structure doW (w:WRes) (K:AV→Heap→Prop) (m:Mk K:=()):Prop where
 h : ∃v H,w=some (v,H)∧K v H
def zp(x:AV)(want:Bool):Option Bool :=
 match x with
 | .v (.bool b)=>some (b == want)
 | .v (.tuple vs)=>if vs.isEmpty then some false else none
 | _=>none
def gd(x:AV)(want:Bool)(A B:Prop):Prop :=
 match zp x want with
 | some true=>A
 | some false=>B
 | none=>False
structure gQ (x:AV) (want:Bool) (q:QRes) (K:AV→Prop) (m:Mk (q,K):=()):Prop where
 h:gd x want (doQ q K) (K AV.undef)
structure gW (x:AV) (want:Bool) (H:Heap) (w:WRes) (K:AV→Heap→Prop) (m:Mk (w,K):=()):Prop where
 h:gd x want (doW w K) (K AV.undef H)
def brP(x:Option AV)(A B:Prop):Prop :=
 match x.bind og with
 | some b=>cond b A B
 | none=>False
structure br (x:Option AV) (A B:Prop) (m:Mk (A,B):=()):Prop where
 h:brP x A B
def rQ(ops:Array Oper)(s:cN)(o:Oper):Option (Option (AV × Bool)) :=
 match o.guard with
 | none=>none
 | some (j,want)=>match (ops[j]?).bind (·.dst) with
  | some t=>some (some (s t,want))
  | none=>some none
def putF(nt:Nat)(s:cN)(dst:Option Tmp)(v:AV)(K:cN→Prop):Prop :=
 match dst with
 | none=>K s
 | some d=>cond (Nat.blt d nt) (K (fset s d v)) False
def wpOp(E:Env)(nt dep:Nat)(draw:Bool)(ops:Array Oper)(o:Oper)(s:cN)(H:Heap)(K:cN→Heap→Prop):Prop :=
 match lP E (limf E) (limt E dep) dep draw (!(draw && !ek E o)) s H ⟨dep,o.dst.getD 0,H.gen dep (o.dst.getD 0),0⟩ o with
 | .inl q=>match rQ ops s o with
  | none=>(match o.op with
   | .move x | .assign x=>(match bN s x with
    | some v=>putF nt s o.dst v fun s=>K s H
    | none=>False)
   | _=>doQ q fun v=>putF nt s o.dst v fun s=>K s H)
  | some (some (x,want))=>gQ x want q fun v=>putF nt s o.dst v fun s=>K s H
  | some none=>putF nt s o.dst AV.undef fun s=>K s H
 | .inr w=>match rQ ops s o with
  | none=>doW w fun v H=>putF nt s o.dst v fun s=>K s H
  | some (some (x,want))=>gW x want H w fun v H=>putF nt s o.dst v fun s=>K s H
  | some none=>putF nt s o.dst AV.undef fun s=>K s H
def wpOps(E:Env)(nt dep:Nat)(draw:Bool)(ops:Array Oper):List Oper→cN→Heap→(cN→Heap→Prop)→Prop
 | [],s,H,K=>K s H
 | o :: os,s,H,K=>wpOp E nt dep draw ops o s H fun s H=>wpOps E nt dep draw ops os s H K
def Fin(E:Env)(fn:Func)(rd:Option Ref)(o:Option St)(y:AV)(H':Heap):Prop:=match rd with
 | none =>∃st,o=some st∧ke E.P fn st=some y∧st.hp=H'
 | some r =>∃st n,o=ly (some r) st n∧y = .v (.int .i64 (n:Nat))∧st.hp=H'
def Goes(E:Env)(fn:Func)(rd:Option Ref)(dep:Nat)(items:List Item)(s:cN)(H:Heap)(Q:AV→Heap→Prop):Prop :=
 ∀tm,ck tm s →∃y H',Q y H' ∧∃n,∀m,n≤m→Fin E fn rd (runA E m rd fn.ntmps dep items ⟨tm,H⟩) y H'
def ofL(g:cN):List (Nat × AV)→cN
 | [],i=>g i
 | (j,v) :: l,i=>cond (Nat.beq i j) v (ofL g l i)
structure GoX (E:Env) (fn:Func) (rd:Option Ref) (dep:Nat) (items:List Item) (l:List (Nat × AV)) (H:Heap) (Q:AV→Heap→Prop):Prop where
 h : ∀g,Goes E fn rd dep items (ofL g l) H Q
abbrev GoL(E:Env)(fn:Func)(dep:Nat)(items:List Item)(l:List (Nat × AV))(H:Heap)(Q:AV→Heap→Prop):Prop:=GoX E fn none dep items l H Q
def oE(s:cN):List Nat→List (Nat × AV)
 | []=>[]
 | t :: ts=>(t,s t) :: oE s ts
theorem vV(s:cN)(l:List Nat):ofL s (oE s l)=s:=by
 induction l with
 | nil=>rfl
 | cons t l ih =>
  funext i
  show cond (Nat.beq i t) (s t) (ofL s (oE s l) i)=s i
  rw[ih]
  cases h:Nat.beq i t with
  | true=>rw[Nat.eq_of_beq_eq_true h];rfl
  | false=>rfl
def dF:Code→Option Nat
 | .region id _ _=>some id
 | .seq a b=>match dF a with
  | some i=>some i
  | none=>dF b
 | .cond _ a b=>match dF a with
  | some i=>some i
  | none=>dF b
 | .block _ c | .loop c | .scope c=>dF c
 | _=>none
def bZ(P:Program)(H:Heap)(x:AV)(t:TypeId):QRes :=
 match x,tagg P t,aX P t with
 | .ptr r i j,some g,some n=>match H.get r with
  | some b=>qVal (eK b.es i j n g)
  | none=>none
 | _,_,_=>none
def pack:List AV→AV
 | [] => .v (.tuple #[])
 | [x]=>x
 | xs => .tup xs
def r5(P:Program)(s:cN)(H:Heap)(Q:AV→Heap→Prop):List ResultVar→List AV→Prop
 | [],acc=>Q (pack acc.reverse) H
 | .tmp t :: rs,acc=>r5 P s H Q rs (s t :: acc)
 | .cell a t :: rs,acc=>doQ (bZ P H (s a) t) fun v=>r5 P s H Q rs (v :: acc)
def w6(x y:AV):Bool:=match fS x,fS y with
 | some r,some r'=>decide (r≠r')
 | _,_=>true
def zB(H:Heap)(x:AV):Bool:=match x with
 | .ptr r _ _=>(match H.get r with
  | some b => !b.arr
  | none=>false)
 | _=>true
def bsV(x:AV):Bool:=match x with
 | .osl .. => true
 | .v _=>true
 | _=>false
def w7(s:cN)(p:Tmp × Tmp):Bool:=w6 (s p.1) (s p.2)
def nT(s:cN)(H:Heap)(o:Oper):Bool:=match o.op with
 | .store _ (.tmp t) _=>zB H (s t)
 | _=>true
def uQ(E:Env)(s:cN)(o:Oper):Bool := !(E.frz o&&bsOp o.op)||(match bsT o.op with
 | some t=>bsV (s t)
 | none=>false)
def xp(E:Env)(l:List (Tmp × Tmp))(ops:Array Oper)(s:cN)(H:Heap):Prop:=l.all (w7 s)=true∧ops.toList.all (nT s H)=true∧ops.toList.all (uQ E s)=true
def BZ(assign body:Code):Nat:=match dF (.seq assign body) with
 | some i=>i+10000
 | none=>10000
structure bgP (o:Option (Nat × AV)) (K:AV→Prop) (m:Mk K:=()):Prop where
 h : ∃info,o=some (0,info)∧K info
def sV(P:Program)(fn:Func)(rd:Option Ref)(code:Nat)(s:cN)(H:Heap)(Q:AV→Heap→Prop):Prop:=match rd with
 | none=>cond (Nat.ble code 2) (r5 P s H Q fn.results.toList []) False
 | some _=>Q (.v (.int .i64 code)) H
def wp(E:Env)(fn:Func)(rd:Option Ref)(dep:Nat)(live:Nat→Option (List Nat))(cut:Nat→Bool)(Q:AV→Heap→Prop):Nat→List Item→cN→Heap→Prop
 | 0,items,s,H=>Goes E fn rd dep items s H Q
 | n+1,items,s,H =>
  match items with
  | []=>sV E.P fn rd 0 s H Q
  | .beginRound :: k=>(match rd with
   | none=>False
   | some r=>bgP (lpAt H r) fun info=>wp E fn rd dep live cut Q n k s (H.put r (some (kS 1 info))))
  | .code c :: k =>
   (match c with
   | .skip | .label _=>wp E fn rd dep live cut Q n k s H
   | .ret=>sV E.P fn rd 2 s H Q
   | .seq a b=>wp E fn rd dep live cut Q n (.code a :: .code b :: k) s H
   | .cond c a b=>br (bN s c) (wp E fn rd dep live cut Q n (.code a :: k) s H) (wp E fn rd dep live cut Q n (.code b :: k) s H)
   | .block id b=>wp E fn rd dep live cut Q n (.code b :: .inBlock id :: k) s H
   | .scope b=>wp E fn rd dep live cut Q n (.code b :: .inScope b :: k) s H
   | .loop b=>(match (dF b).bind live with
    | some l=>GoX E fn rd dep (.inLoop b :: k) (oE s l) H Q
    | none=>Goes E fn rd dep (.inLoop b :: k) s H Q)
   | .exit id=>(match exitTo id k with
    | some k'=>wp E fn rd dep live cut Q n k' s H
    | none=>sV E.P fn rd (id+3) s H Q)
   | .rangeFunc g ps a b=>(match live (BZ a b) with
    | some l=>GoX E fn rd dep (.code (.rangeFunc g ps a b) :: k) (oE s l) H Q
    | none=>Goes E fn rd dep (.code (.rangeFunc g ps a b) :: k) s H Q)
   | .region id ops draw=>(match cut id with
    | true=>(match live id with
     | some l=>GoX E fn rd dep (.code (.region id ops draw) :: k) (oE s l) H Q
     | none=>False)
    | false=>wpOps E fn.ntmps dep draw ops ops.toList s H fun s H =>
     (match draw,hJ E ops with
     | true,p :: ps=>xp E (p :: ps) ops s H∧wp E fn rd dep live cut Q n k s H
     | _,_=>wp E fn rd dep live cut Q n k s H))
   | _=>False)
  | .inLoop b :: k=>(match (dF b).bind live with
   | some l=>GoX E fn rd dep (.inLoop b :: k) (oE s l) H Q
   | none=>Goes E fn rd dep (.inLoop b :: k) s H Q)
  | .inBlock _ :: k | .inScope _ :: k=>wp E fn rd dep live cut Q n k s H
  | _=>False
theorem hZ{ops:Array Oper}{tm:List AV}{s:cN}(h:ck tm s)(o:Oper):wanted ops tm o=(match rQ ops s o with
 | none=>some true
 | some (some (x,want))=>zp x want
 | some none=>some false):=by
 unfold wanted rQ
 split
 ·rename_i hg;rw[hg]
 ·rename_i j want hg
  rw[hg]
  dsimp only
  split
  ·rename_i t ht
   rw[ht]
   dsimp only
   rw[h t]
   rfl
  ·rename_i ht
   rw[ht]
theorem jV{nt:Nat}{s:cN}{dst:Option Tmp}{v:AV}{K:cN→Prop}(h:putF nt s dst v K) : ∃s',K s' ∧∀tm,ck tm s →∃tm',bG nt tm dst v=some tm'∧ck tm' s':=by
 unfold putF at h
 cases dst with
 | none=>exact⟨s,h,fun tm ht=>⟨tm,rfl,ht⟩⟩
 | some d =>
  dsimp only at h
  cases hd:Nat.blt d nt with
  | false=>rw[hd]at h;exact h.elim
  | true =>
   rw[hd]at h
   refine⟨_,h,fun tm ht=>⟨_,?_,ht.set d v⟩⟩
   have hlt:d<nt:=Nat.le_of_ble_eq_true hd
   simp only[bG,if_pos hlt]
theorem xr{E:Env}{nt dep:Nat}{draw:Bool}{ops:Array Oper}{o:Oper}{s:cN}{H:Heap}{K:cN→Heap→Prop}(h:wpOp E nt dep draw ops o s H K) :
 ∃s' H',K s' H' ∧∀tm,ck tm s →∃tm',ck tm' s' ∧∃n,∀m,n≤m→evalOp E (bS E (runA E m)) (cZ E (runA E m) dep) nt dep draw ops o ⟨tm,H⟩=some ⟨tm',H'⟩:=by
 have run : ∀(v:AV)(H':Heap)(s':cN),(∀tm,ck tm s→wanted ops tm o=some true)→(∃n,∀m,n≤m →∀tm,ck tm s→lT E (bS E (runA E m)) (cZ E (runA E m) dep) dep draw tm H o=some (v,H')) →
  (∀tm,ck tm s →∃tm',bG nt tm o.dst v=some tm'∧ck tm' s') →
  ∀tm,ck tm s →∃tm',ck tm' s' ∧∃n,∀m,n≤m→evalOp E (bS E (runA E m)) (cZ E (runA E m) dep) nt dep draw ops o ⟨tm,H⟩=some ⟨tm',H'⟩:=by
  intro v H' s' hw ⟨n,hn⟩ hp tm ht
  obtain⟨tm',h1,h2⟩:=hp tm ht
  refine⟨tm',h2,n,fun m hm=>?_⟩
  rw[rU]
  dsimp only
  rw[hw tm ht,hn m hm tm ht]
  dsimp only
  rw[h1]
  rfl
 have skip : ∀(s':cN),(∀tm,ck tm s→wanted ops tm o=some false)→(∀tm,ck tm s →∃tm',bG nt tm o.dst AV.undef=some tm'∧ck tm' s') →
  ∀tm,ck tm s →∃tm',ck tm' s' ∧∃n,∀m,n≤m→evalOp E (bS E (runA E m)) (cZ E (runA E m) dep) nt dep draw ops o ⟨tm,H⟩=some ⟨tm',H⟩:=by
  intro s' hw hp tm ht
  obtain⟨tm',h1,h2⟩:=hp tm ht
  refine⟨tm',h2,0,fun m _=>?_⟩
  rw[rU]
  dsimp only
  rw[hw tm ht]
  dsimp only
  rw[h1]
  rfl
 unfold wpOp at h
 split at h
 ·rename_i q hq
  have evq : ∀v,q=some (v,[]) →∃n,∀m,n≤m →∀tm,ck tm s→lT E (bS E (runA E m)) (cZ E (runA E m) dep) dep draw tm H o=some (v,H):=by
   intro v hv
   obtain⟨n,hn⟩:=pW.1 q v hq hv
   exact⟨n,fun m hm tm ht=>xS ht (hn m hm) rfl⟩
  split at h
  ·rename_i hg
   have hw : ∀tm,ck tm s→wanted ops tm o=some true:=fun tm ht=>by rw[hZ ht,hg]
   have fromQ : ∀v,q=some (v,[])→putF nt s o.dst v (fun s=>K s H) →∃s' H',K s' H' ∧∀tm,ck tm s →∃tm',ck tm' s' ∧∃n,∀m,n≤m→evalOp E (bS E (runA E m)) (cZ E (runA E m) dep) nt dep draw ops o ⟨tm,H⟩=some ⟨tm',H'⟩:=by
    intro v hv hp
    obtain⟨s',hK,hp⟩:=jV hp
    exact⟨s',H,hK,run v H s' hw (evq v hv) hp⟩
   split at h
   ·rename_i x ho
    split at h
    ·rename_i v hv
     refine fromQ v ?_ h
     unfold lP at hq
     simp only[ho,Sum.inl.injEq,hv]at hq
     rw[←hq];rfl
    ·exact h.elim
   ·rename_i x ho
    split at h
    ·rename_i v hv
     refine fromQ v ?_ h
     unfold lP at hq
     simp only[ho,Sum.inl.injEq,hv]at hq
     rw[←hq];rfl
    ·exact h.elim
   ·obtain⟨v,hv,h⟩:=h.h
    exact fromQ v hv h
  ·rename_i x want hg
   replace h:=h.h
   unfold gd at h
   split at h
   ·rename_i hx
    obtain⟨v,hv,h⟩:=h.h
    obtain⟨s',hK,hp⟩:=jV h
    exact⟨s',H,hK,run v H s' (fun tm ht=>by rw[hZ ht,hg];exact hx) (evq v hv) hp⟩
   ·rename_i hx
    obtain⟨s',hK,hp⟩:=jV h
    exact⟨s',H,hK,skip s' (fun tm ht=>by rw[hZ ht,hg];exact hx) hp⟩
   ·exact h.elim
  ·rename_i hg
   obtain⟨s',hK,hp⟩:=jV h
   exact⟨s',H,hK,skip s' (fun tm ht=>by rw[hZ ht,hg]) hp⟩
 ·rename_i w hw
  have evw : ∀v H',w=some (v,H') →∃n,∀m,n≤m →∀tm,ck tm s→lT E (bS E (runA E m)) (cZ E (runA E m) dep) dep draw tm H o=some (v,H'):=by
   intro v H' hv
   obtain⟨n,hn⟩:=pW.2 w v H' hw hv
   exact⟨n,fun m hm tm ht=>xR ht (hn m hm) rfl⟩
  split at h
  ·rename_i hg
   obtain⟨v,H',hv,h⟩:=h.h
   obtain⟨s',hK,hp⟩:=jV h
   exact⟨s',H',hK,run v H' s' (fun tm ht=>by rw[hZ ht,hg]) (evw v H' hv) hp⟩
  ·rename_i x want hg
   replace h:=h.h
   unfold gd at h
   split at h
   ·rename_i hx
    obtain⟨v,H',hv,h⟩:=h.h
    obtain⟨s',hK,hp⟩:=jV h
    exact⟨s',H',hK,run v H' s' (fun tm ht=>by rw[hZ ht,hg];exact hx) (evw v H' hv) hp⟩
   ·rename_i hx
    obtain⟨s',hK,hp⟩:=jV h
    exact⟨s',H,hK,skip s' (fun tm ht=>by rw[hZ ht,hg];exact hx) hp⟩
   ·exact h.elim
  ·rename_i hg
   obtain⟨s',hK,hp⟩:=jV h
   exact⟨s',H,hK,skip s' (fun tm ht=>by rw[hZ ht,hg]) hp⟩
theorem vc{E:Env}{nt dep:Nat}{draw:Bool}{ops:Array Oper}{K:cN→Heap→Prop} : ∀ {l:List Oper} {s:cN} {H:Heap},wpOps E nt dep draw ops l s H K →
 ∃s' H',K s' H' ∧∀tm,ck tm s →∃tm',ck tm' s' ∧∃n,∀m,n≤m→iR E (bS E (runA E m)) (cZ E (runA E m) dep) nt dep draw ops l ⟨tm,H⟩=some ⟨tm',H'⟩:=by
 intro l
 induction l with
 | nil=>intro s H h;exact⟨s,H,h,fun tm ht=>⟨tm,ht,0,fun m _=>rfl⟩⟩
 | cons o l ih =>
  intro s H h
  obtain⟨s1,H1,h1,hn1⟩:=xr h
  obtain⟨s2,H2,h2,hn2⟩:=ih h1
  refine⟨s2,H2,h2,fun tm ht=>?_⟩
  obtain⟨tm1,t1,n1,e1⟩:=hn1 tm ht
  obtain⟨tm2,t2,n2,e2⟩:=hn2 tm1 t1
  exact⟨tm2,t2,max n1 n2,fun m hm=>by simp only[iR,e1 m (by omega),e2 m (by omega)]⟩
theorem u9{P:Program}{fn:Func}{s:cN}{H:Heap}{Q:AV→Heap→Prop} : ∀ {rs:List ResultVar} {acc:List AV},r5 P s H Q rs acc →
 ∃ys,Q (pack (acc.reverse++ys)) H ∧∀tm,ck tm s→rs.mapM (dJ P ⟨tm,H⟩)=some ys:=by
 intro rs
 induction rs with
 | nil=>intro acc h;exact⟨[],by simpa [r5] using h,fun tm _=>rfl⟩
 | cons r rs ih =>
  intro acc h
  cases r with
  | tmp t =>
   obtain⟨ys,h1,h2⟩:=ih h
   refine⟨s t :: ys,by simpa using h1,fun tm ht=>?_⟩
   simp only[List.mapM_cons,dJ,h2 tm ht,ht t,Option.pure_def,Option.bind_eq_bind,Option.bind_some]
  | cell a t =>
   obtain⟨v,hv,h⟩:=h.h
   obtain⟨ys,h1,h2⟩:=ih h
   refine⟨v :: ys,by simpa using h1,fun tm ht=>?_⟩
   have hr:dJ P ⟨tm,H⟩ (.cell a t)=some v:=by
    unfold bZ at hv
    simp only[dJ,ht a]
    split at hv
    ·rename_i r i j g n h3 h4 h5
     rw[h3,h4,h5]
     dsimp only
     split at hv
     ·rename_i b hb
      rw[hb]
      dsimp only
      simp only[qVal,Option.map_eq_some_iff]at hv
      obtain⟨z,hz,e⟩:=hv
      cases e
      exact hz
     ·cases hv
    ·cases hv
   simp only[List.mapM_cons,hr,h2 tm ht,Option.pure_def,Option.bind_eq_bind,Option.bind_some]
theorem vD{E:Env}{fn:Func}{s:cN}{H:Heap}{Q:AV→Heap→Prop}(h:r5 E.P s H Q fn.results.toList []) : ∃y,Q y H ∧∀tm,ck tm s→ke E.P fn ⟨tm,H⟩=some y:=by
 obtain⟨ys,h1,h2⟩:=u9 (fn:=fn) h
 refine⟨pack ys,by simpa using h1,fun tm ht=>?_⟩
 unfold ke
 rw[h2 tm ht]
 match ys with
 | []=>rfl
 | [x]=>rfl
 | x :: y :: zs=>rfl
theorem fy{E:Env}{fn:Func}{rd:Option Ref}{dep:Nat}{items items':List Item}{s:cN}{H:Heap}{Q:AV→Heap→Prop}
 (hs : ∀n tm,runA E (n+1) rd fn.ntmps dep items ⟨tm,H⟩=runA E n rd fn.ntmps dep items' ⟨tm,H⟩) (h:Goes E fn rd dep items' s H Q):Goes E fn rd dep items s H Q:=by
 intro tm ht
 obtain⟨y,H',hQ,n,hn⟩:=h tm ht
 refine⟨y,H',hQ,n+1,fun m hm=>?_⟩
 obtain⟨m,rfl⟩ : ∃m',m=m'+1:=⟨m - 1,by omega⟩
 rw[hs]
 exact hn m (by omega)
theorem uF{E:Env}{fn:Func}{rd:Option Ref}{dep:Nat}{b:Code}{k:List Item}{s:cN}{H:Heap}{Q:AV→Heap→Prop}(h:Goes E fn rd dep (.code b :: .inLoop b :: k) s H Q):Goes E fn rd dep (.inLoop b :: k) s H Q :=
 fy (fun n tm=>by simp only[runA]) h
theorem sJ{E:Env}{fn:Func}{rd:Option Ref}{dep:Nat}{b:Code}{k:List Item}{s:cN}{H:Heap}{Q:AV→Heap→Prop}(h:Goes E fn rd dep (.inLoop b :: k) s H Q):Goes E fn rd dep (.code (.loop b) :: k) s H Q:=by
 intro tm ht
 obtain⟨y,H',hQ,n,hn⟩:=h tm ht
 refine⟨y,H',hQ,n+1,fun m hm=>?_⟩
 obtain⟨m,rfl⟩ : ∃m',m=m'+1:=⟨m - 1,by omega⟩
 have:=hn (m+1) (by omega)
 have e:runA E (m+1) rd fn.ntmps dep (.code (.loop b) :: k) ⟨tm,H⟩=runA E (m+1) rd fn.ntmps dep (.inLoop b :: k) ⟨tm,H⟩:=by simp only[runA]
 rw[e]
 exact this
theorem p8{E:Env}{fn:Func}{rd:Option Ref}{dep:Nat}{items:List Item}{s:cN}{l:List Nat}{H:Heap}{Q:AV→Heap→Prop}(h:GoX E fn rd dep items (oE s l) H Q):Goes E fn rd dep items s H Q:=by
 have:=h.h s
 rwa [vV]at this
theorem pq{E:Env}{fn:Func}{rd:Option Ref}{dep code:Nat}{items:List Item}{s:cN}{H:Heap}{Q:AV→Heap→Prop}
 (hs : ∀n tm,rd.isSome=true∨code≤2→runA E (n+1) rd fn.ntmps dep items ⟨tm,H⟩=(match rd with | none=>some ⟨tm,H⟩ | some r=>ly (some r) ⟨tm,H⟩ code)) (h:sV E.P fn rd code s H Q):Goes E fn rd dep items s H Q:=by
 intro tm ht
 cases rd with
 | none =>
  unfold sV at h
  dsimp only at h
  cases hc:Nat.ble code 2 with
  | false=>rw[hc]at h;exact h.elim
  | true =>
   rw[hc]at h
   obtain⟨y,hQ,hr⟩:=vD h
   refine⟨y,H,hQ,1,fun m hm=>?_⟩
   obtain⟨m,rfl⟩ : ∃m',m=m'+1:=⟨m - 1,by omega⟩
   exact⟨⟨tm,H⟩,hs m tm (.inr (Nat.le_of_ble_eq_true hc)),hr tm ht,rfl⟩
 | some r =>
  refine⟨.v (.int .i64 code),H,h,1,fun m hm=>?_⟩
  obtain⟨m,rfl⟩ : ∃m',m=m'+1:=⟨m - 1,by omega⟩
  exact⟨⟨tm,H⟩,code,hs m tm (.inl rfl),rfl,rfl⟩
theorem uU{E:Env}{ops:Array Oper}{s:cN}{H:Heap}{tm:List AV}(ht:ck tm s)(h:xp E (hJ E ops) ops s H):iF E ops ⟨tm,H⟩=true:=by
 unfold iF
 rw[Bool.or_eq_true,Bool.and_eq_true]
 refine .inr ⟨?_,?_⟩
 ·refine Eq.trans ?_ h.1
  congr 1
  funext p
  unfold pT w7 w6
  rw[ht,ht]
  rfl
 ·rw[Bool.and_eq_true]
  refine⟨Eq.trans ?_ h.2.1,Eq.trans ?_ h.2.2⟩
  ·congr 1
   funext o
   unfold jP nT
   generalize o.op=op
   cases op<;>try rfl
   rename_i t a x
   cases a<;>try rfl
   rename_i t'
   dsimp only
   rw[ht t']
   rfl
  ·congr 1
   funext o
   unfold qi uQ
   congr 1
   cases bsT o.op with
   | none=>rfl
   | some t =>
    dsimp only
    rw[ht t]
    rfl
theorem cK{E:Env}{fn:Func}{rd:Option Ref}{dep:Nat}{live:Nat→Option (List Nat)}{cut:Nat→Bool}{Q:AV→Heap→Prop} : ∀ {n:Nat} {items:List Item} {s:cN} {H:Heap},
 wp E fn rd dep live cut Q n items s H→Goes E fn rd dep items s H Q:=by
 intro n
 induction n with
 | zero=>intro items s H h;exact h
 | succ n ih =>
  intro items s H h
  have told : ∀ {k:List Item} {x:Option (List Nat)},(match x with | some l=>GoX E fn rd dep k (oE s l) H Q | none=>Goes E fn rd dep k s H Q)→Goes E fn rd dep k s H Q:=by
   intro k x h
   cases x with
   | some l=>exact p8 h
   | none=>exact h
  unfold wp at h
  split at h
  ·exact pq (fun n tm _=>by cases rd<;>simp only[runA]) h
  ·rename_i k
   split at h
   ·exact h.elim
   ·rename_i r
    obtain⟨info,hl,h⟩:=h.h
    intro tm ht
    obtain⟨y,H',hQ,n,hn⟩:=ih h tm ht
    refine⟨y,H',hQ,n+1,fun m hm=>?_⟩
    obtain⟨m,rfl⟩ : ∃m',m=m'+1:=⟨m - 1,by omega⟩
    have:=hn m (by omega)
    have e:runA E (m+1) (some r) fn.ntmps dep (.beginRound :: k) ⟨tm,H⟩=runA E m (some r) fn.ntmps dep k ⟨tm,H.put r (some (kS 1 info))⟩:=by simp only[runA,hl]
    rw[e]
    exact this
  ·rename_i c k
   split at h
   ·exact fy (fun n tm=>by simp only[runA]) (ih h)
   ·exact fy (fun n tm=>by simp only[runA]) (ih h)
   ·exact pq (fun n tm _=>by cases rd<;>simp[runA,ly]) h
   ·exact fy (fun n tm=>by simp only[runA]) (ih h)
   ·rename_i c a b
    replace h:=h.h
    unfold brP at h
    split at h
    ·rename_i bb hb
     have hg:Goes E fn rd dep (.code (cond bb a b) :: k) s H Q:=by cases bb<;>exact ih h
     intro tm ht
     obtain⟨y,H',hQ,n,hn⟩:=hg tm ht
     refine⟨y,H',hQ,n+1,fun m hm=>?_⟩
     obtain⟨m,rfl⟩ : ∃m',m=m'+1:=⟨m - 1,by omega⟩
     have:=hn m (by omega)
     have e:runA E (m+1) rd fn.ntmps dep (.code (.cond c a b) :: k) ⟨tm,H⟩=runA E m rd fn.ntmps dep (.code (cond bb a b) :: k) ⟨tm,H⟩:=by
      simp only[runA,lA ht,hb]
      cases bb<;>rfl
     rw[e]
     exact this
    ·exact h.elim
   ·exact fy (fun n tm=>by simp only[runA]) (ih h)
   ·exact fy (fun n tm=>by simp only[runA]) (ih h)
   ·exact sJ (told h)
   ·rename_i id
    split at h
    ·rename_i k' hk
     exact fy (fun n tm=>by simp only[runA,hk]) (ih h)
    ·rename_i hk
     exact pq (fun n tm hc=>by
      simp only[runA,hk]
      cases rd with
      | none =>
       rcases hc with hc | hc
       ·cases hc
       ·omega
      | some r=>rfl) h
   ·exact told h
   ·rename_i id ops draw
    split at h
    ·split at h
     ·exact p8 h
     ·exact h.elim
    ·obtain⟨s',H',h1,hn1⟩:=vc h
     have h2:Goes E fn rd dep k s' H' Q ∧∀tm,ck tm s'→(draw && !iF E ops ⟨tm,H'⟩)=false:=by
      cases draw with
      | false=>exact⟨ih h1,fun _ _=>rfl⟩
      | true =>
       cases hp:hJ E ops with
       | nil =>
        rw[hp]at h1
        refine⟨ih h1,fun tm ht=>?_⟩
        unfold iF
        rw[hp]
        rfl
       | cons p ps =>
        rw[hp]at h1
        exact⟨ih h1.2,fun tm ht=>by rw[uU ht (by rw[hp];exact h1.1)];rfl⟩
     obtain⟨hg,hap⟩:=h2
     intro tm ht
     obtain⟨tm1,t1,n1,e1⟩:=hn1 tm ht
     obtain⟨y,H2,hQ,n2,hn2⟩:=hg tm1 t1
     refine⟨y,H2,hQ,max n1 n2+1,fun m hm=>?_⟩
     obtain⟨m,rfl⟩ : ∃m',m=m'+1:=⟨m - 1,by omega⟩
     have:=hn2 m (by omega)
     have e:runA E (m+1) rd fn.ntmps dep (.code (.region id ops draw) :: k) ⟨tm,H⟩=runA E m rd fn.ntmps dep k ⟨tm1,H'⟩:=by
      simp only[runA,e1 m (by omega),hap tm1 t1]
      simp
     rw[e]
     exact this
   ·exact h.elim
  ·exact told h
  ·exact fy (fun n tm=>by simp only[runA]) (ih h)
  ·exact fy (fun n tm=>by simp only[runA]) (ih h)
  ·exact h.elim
def sU:Nat→List AV→List (Nat × AV)
 | _,[]=>[]
 | i,x :: xs=>(i,x) :: sU (i+1) xs
theorem rG(args:List AV)(i:Nat):ofL (fun _=>AV.undef) (sU 0 args) i=tget args i:=by
 have : ∀(j:Nat)(l:List AV),ofL (fun _=>AV.undef) (sU j l) (j+i)=tget l i:=by
  induction i with
  | zero =>
   intro j l
   cases l with
   | nil=>rfl
   | cons x l =>
    show cond (Nat.beq (j+0) j) x _=x
    rw[show Nat.beq (j+0) j=true from by simp]
    rfl
  | succ i ih =>
   intro j l
   cases l with
   | nil=>rfl
   | cons x l =>
    show cond (Nat.beq (j+(i+1)) j) x (ofL (fun _=>AV.undef) (sU (j+1) l) (j+(i+1)))=tget l i
    have e:Nat.beq (j+(i+1)) j=false:=by
     cases h:Nat.beq (j+(i+1)) j with
     | false=>rfl
     | true=>have:=Nat.eq_of_beq_eq_true h;omega
    rw[e]
    show ofL _ _ _=_
    rw[←ih (j+1) l,show j+1+i=j+(i+1) by omega]
 simpa using this 0 args
def iq(E:Env)(f:FuncId)(x:AV)(H:Heap)(y:AV):Prop :=
 if lZ (E.mode f)=true then (ax H.get depth x).Nodup∧bC H.get depth x=some y else view H.get depth x=some y
theorem aH{E:Env}{f:FuncId}{fn:Func}{c:Code}{args:List AV}{y:AV}(hsp:E.spec f args=none)(hal:E.allowed f=true)(hf:E.P.funcs[f]?=some fn)(hc:fn.body=some c)(hl:Nat.ble args.length fn.ntmps=true)
 (h:GoL E fn 0 [.code c] (sU 0 args) [] fun x H=>iq E f x H y):limf E f args=some y:=by
 rw[mS]
 obtain⟨x,H,hQ,n,hn⟩:=h.h (fun _=>AV.undef) args fun i=>(rG args i).symm
 refine⟨n,fun m hm=>?_⟩
 obtain⟨st,h1,h2,h3⟩:=hn m hm
 subst h3
 unfold bS
 rw[hsp]
 unfold oe
 simp only[hal,if_true,hf,hc,if_pos (Nat.le_of_ble_eq_true hl),h1,h2,Option.map_some]
 unfold iq at hQ
 split
 ·rename_i h1
  rw[if_pos h1]at hQ
  rw[if_pos hQ.1]
  exact hQ.2
 ·rename_i h1
  rw[if_neg h1]at hQ
  exact hQ
theorem wh{E:Env}{f:FuncId}{args:List AV}{y:AV}(h:limf E f args=some y) : ∃n,bS E (runA E n) f args=some y:=by
 obtain⟨n,hn⟩:=mS.1 h
 exact⟨n,hn n (Nat.le_refl _)⟩
def bL(r:Nat):Nat→List Item→Option (List Item)
 | 0,_=>none
 | n+1,items =>
  match items with
  | .code c :: k=>(match c with
   | .seq a b=>bL r n (.code a :: .code b :: k)
   | .cond _ a b=>(match bL r n (.code a :: k) with
    | some l=>some l
    | none=>bL r n (.code b :: k))
   | .block id b=>bL r n (.code b :: .inBlock id :: k)
   | .scope b=>bL r n (.code b :: .inScope b :: k)
   | .loop b=>(match dF b with
    | some i=>cond (Nat.beq i r) (some (.inLoop b :: k)) (bL r n (.code b :: .inLoop b :: k))
    | none=>none)
   | .exit id=>(match exitTo id k with
    | some k'=>bL r n k'
    | none=>none)
   | .skip | .label _ | .region _ _ _=>bL r n k
   | _=>none)
  | .inBlock _ :: k | .inScope _ :: k=>bL r n k
  | _=>none
def xn:List Item→List Item
 | .inLoop b :: k => .code b :: .inLoop b :: k
 | l=>l
theorem dh{E:Env}{fn:Func}{rd:Option Ref}{dep:Nat}{items:List Item}{l:List (Nat × AV)}{H:Heap}{Q:AV→Heap→Prop}(h : ∀g,Goes E fn rd dep (xn items) (ofL g l) H Q):GoX E fn rd dep items l H Q:=by
 refine⟨fun g=>?_⟩
 have:=h g
 unfold xn at this
 split at this
 ·exact uF this
 ·exact this
def oi(x:AV):Option (Option Int):=match lS x with
 | some n=>some (some n)
 | none=>none
end Go.Ab
namespace Go.Ab
end Go.Ab
namespace Go.Ab
abbrev aI(n:Int):AV := .v (.int .i64 n)
abbrev aB(b:Bool):AV := .v (.bool b)
def a8(n:UInt8):AV := .v (.int .u8 (n.toNat:Int))
def a32(n:UInt32):AV := .v (.int .u32 (n.toNat:Int))
abbrev aS(s:ByteArray):AV := .v (.string s)
abbrev aNil:AV := .v (.slice none 0 0)
@[simp] theorem Bq(v:AV)(K:AV→Prop)(m:Mk K):doQ (some (v,[])) K m↔K v :=
 ⟨fun⟨⟨w,hw,h⟩⟩=>by cases hw;exact h,fun h=>⟨v,rfl,h⟩⟩
@[simp] theorem Bp(v:AV)(H:Heap)(K:AV→Heap→Prop)(m:Mk K):doW (some (v,H)) K m↔K v H :=
 ⟨fun⟨⟨w,_,hw,h⟩⟩=>by cases hw;exact h,fun h=>⟨v,H,rfl,h⟩⟩
theorem uR{x:Option AV}{A B:Prop}{m:Mk (A,B)}:br x A B m↔brP x A B:=⟨fun h=>h.h,fun h=>⟨h⟩⟩
@[simp] theorem CN(A B:Prop)(m:Mk (A,B)):br (some (aB true)) A B m↔A:=uR
@[simp] theorem Bu(A B:Prop)(m:Mk (A,B)):br (some (aB false)) A B m↔B:=uR
theorem jM{b:Bool}{A B:Prop}{m:Mk (A,B)}(h1:b=true→A)(h2:b=false→B):br (some (aB b)) A B m:=by
 cases b
 ·exact⟨h2 rfl⟩
 ·exact⟨h1 rfl⟩
theorem Au{p:Prop}[Decidable p]{A B:Prop}{m:Mk (A,B)}(h1:p→A)(h2 : ¬p→B):br (some (aB (decide p))) A B m :=
 jM (fun h=>h1 (of_decide_eq_true h)) (fun h=>h2 (of_decide_eq_false h))
@[simp] theorem Cr(q:QRes)(K:AV→Prop)(m:Mk (q,K)):gQ (aB true) true q K m↔doQ q K:=⟨fun h=>h.h,fun h=>⟨h⟩⟩
@[simp] theorem Cu(q:QRes)(K:AV→Prop)(m:Mk (q,K)):gQ (aB false) false q K m↔doQ q K:=⟨fun h=>h.h,fun h=>⟨h⟩⟩
@[simp] theorem Cs(q:QRes)(K:AV→Prop)(m:Mk (q,K)):gQ (aB true) false q K m↔K AV.undef:=⟨fun h=>h.h,fun h=>⟨h⟩⟩
@[simp] theorem Ct(q:QRes)(K:AV→Prop)(m:Mk (q,K)):gQ (aB false) true q K m↔K AV.undef:=⟨fun h=>h.h,fun h=>⟨h⟩⟩
@[simp] theorem gQ_u(w:Bool)(q:QRes)(K:AV→Prop)(m:Mk (q,K)):gQ AV.undef w q K m↔K AV.undef:=⟨fun h=>h.h,fun h=>⟨h⟩⟩
@[simp] theorem Cn(H:Heap)(q:WRes)(K:AV→Heap→Prop)(m:Mk (q,K)):gW (aB true) true H q K m↔doW q K:=⟨fun h=>h.h,fun h=>⟨h⟩⟩
@[simp] theorem Cq(H:Heap)(q:WRes)(K:AV→Heap→Prop)(m:Mk (q,K)):gW (aB false) false H q K m↔doW q K:=⟨fun h=>h.h,fun h=>⟨h⟩⟩
@[simp] theorem Co(H:Heap)(q:WRes)(K:AV→Heap→Prop)(m:Mk (q,K)):gW (aB true) false H q K m↔K AV.undef H:=⟨fun h=>h.h,fun h=>⟨h⟩⟩
@[simp] theorem Cp(H:Heap)(q:WRes)(K:AV→Heap→Prop)(m:Mk (q,K)):gW (aB false) true H q K m↔K AV.undef H:=⟨fun h=>h.h,fun h=>⟨h⟩⟩
@[simp] theorem gW_u(w:Bool)(H:Heap)(q:WRes)(K:AV→Heap→Prop)(m:Mk (q,K)):gW AV.undef w H q K m↔K AV.undef H:=⟨fun h=>h.h,fun h=>⟨h⟩⟩
@[simp] theorem zL(v:AV):qVal (some v)=some (v,[]):=id rfl
@[simp] theorem zY(H:Heap)(r:Ref)(v:AV)(bs:List Blk):nRes H r (some (v,bs))=some (v,keyed r 0 bs H):=id rfl
@[simp] theorem pY(H:Heap)(r:Ref):nRes H r none=none:=id rfl
@[simp] theorem y5(r:Ref)(k:Nat)(H:Heap):keyed r k [] H=H:=id rfl
@[simp] theorem y6(r:Ref)(k:Nat)(b:Blk)(bs:List Blk)(H:Heap):keyed r k (b :: bs) H=keyed r (k+1) bs (({ r with k:=k},some b) :: H):=id rfl
@[simp] theorem A7(wk:Bool)(x:AV × Heap)(b:WRes):orW wk (some x) b=some x:=id rfl
@[simp] theorem rF(b:WRes):orW true none b=b:=id rfl
@[simp] theorem y2(a b:Option AV):cG (some (aB true)) a b=qVal a:=id rfl
@[simp] theorem xP(a b:Option AV):cG (some (aB false)) a b=qVal b:=id rfl
@[simp] theorem C3(k:IntKind)(n:Int):oi (.v (.int k n))=some (some n):=id rfl
@[simp] theorem At(cs:List AV):(AV.agg cs).cells=cs:=id rfl
@[simp] theorem CK(x:Value):(AV.v x).cells=[.v x]:=id rfl
@[simp] theorem CL(x:UInt8):(a8 x).cells=[a8 x]:=id rfl
@[simp] theorem Bs(x:UInt32):(a32 x).cells=[a32 x]:=id rfl
@[simp] theorem As(r:Ref)(o n:Nat)(c:Option Nat):(AV.osl r o n c).cells=[.osl r o n c]:=id rfl
@[simp] theorem B7(k:IntKind)(n:Int):(AV.v (.int k n)).one=true:=id rfl
@[simp] theorem A8(b:Bool):(AV.v (.bool b)).one=true:=id rfl
@[simp] theorem B5:aNil.one=true:=id rfl
@[simp] theorem Dg(x:UInt8):(a8 x).one=true:=id rfl
@[simp] theorem C2(x:UInt32):(a32 x).one=true:=id rfl
@[simp] theorem B6(z:Nat)(es:List AV)(c:Option Nat):(AV.isl z es c).one=true:=id rfl
@[simp] theorem B4(r:Ref)(o n:Nat)(c:Option Nat):(AV.osl r o n c).one=true:=id rfl
section
variable(P:Program)(t:TypeId)(xo yo:Operand)(k:IntKind)(a b:Int)
@[simp] theorem rA:qBin P .lss t xo yo (some (.v (.int k a))) (some (.v (.int k b)))=some (aB (decide (a<b)),[]):=by cases k<;>rfl
@[simp] theorem vO:qBin P .leq t xo yo (some (.v (.int k a))) (some (.v (.int k b)))=some (aB (decide (a≤b)),[]):=by cases k<;>rfl
@[simp] theorem vP:qBin P .gtr t xo yo (some (.v (.int k a))) (some (.v (.int k b)))=some (aB (decide (b<a)),[]):=by cases k<;>rfl
@[simp] theorem AY:qBin P .geq t xo yo (some (.v (.int k a))) (some (.v (.int k b)))=some (aB (decide (b≤a)),[]):=by cases k<;>rfl
@[simp] theorem AZ:qBin P .eql t xo yo (some (.v (.int k a))) (some (.v (.int k b)))=some (aB (decide (a=b)),[]):=by
 have:(a == b)=decide (a=b):=by by_cases h:a=b<;>simp[h]
 rw[←this];cases k<;>rfl
@[simp] theorem AW:qBin P .neq t xo yo (some (.v (.int k a))) (some (.v (.int k b)))=some (aB (!decide (a=b)),[]):=by
 have:(a != b) = !decide (a=b):=by by_cases h:a=b<;>simp[h]
 rw[←this];cases k<;>rfl
@[simp] theorem A0:qBin P .add t xo yo (some (.v (.int k a))) (some (.v (.int k b)))=some (.v (.int k (k.wrap (a+b))),[]):=by cases k<;>rfl
@[simp] theorem AU:qBin P .sub t xo yo (some (.v (.int k a))) (some (.v (.int k b)))=some (.v (.int k (k.wrap (a - b))),[]):=by cases k<;>rfl
@[simp] theorem AX:qBin P .mul t xo yo (some (.v (.int k a))) (some (.v (.int k b)))=some (.v (.int k (k.wrap (a * b))),[]):=by cases k<;>rfl
@[simp] theorem B1(b:Bool):qUn P .not (some (aB b))=some (aB (!b),[]):=id rfl
def u8(n:Int):UInt8:=UInt8.ofBitVec (BitVec.ofInt 8 n)
def u32(n:Int):UInt32:=UInt32.ofBitVec (BitVec.ofInt 32 n)
theorem s6(n:Int):(u8 n).toNat=(n % 256).toNat:=by
 unfold u8;rw[UInt8.toNat_ofBitVec,BitVec.toNat_ofInt];rfl
theorem r8(n:Int):(u32 n).toNat=(n % 4294967296).toNat:=by
 unfold u32;rw[UInt32.toNat_ofBitVec,BitVec.toNat_ofInt];rfl
@[simp] theorem Ck(x:UInt8):IntKind.i64.wrap (x.toNat:Int)=x.toNat:=by have:=x.toNat_lt;exact IntWalk.i64_in _ (by omega)
@[simp] theorem Aa(x:UInt32):IntKind.i64.wrap (x.toNat:Int)=x.toNat:=by have:=x.toNat_lt;exact IntWalk.i64_in _ (by omega)
section
variable(x y:UInt8)
@[simp] theorem zP:qBin P .lss t xo yo (some (a8 x)) (some (a8 y))=some (aB (decide (x<y)),[]):=by
 unfold a8;rw[rA];congr 4;rw[UInt8.lt_iff_toNat_lt];all_goals exact propext (by omega)
@[simp] theorem zQ:qBin P .leq t xo yo (some (a8 x)) (some (a8 y))=some (aB (decide (x≤y)),[]):=by
 unfold a8;rw[vO];congr 4;rw[UInt8.le_iff_toNat_le];all_goals exact propext (by omega)
@[simp] theorem zR:qBin P .gtr t xo yo (some (a8 x)) (some (a8 y))=some (aB (decide (y<x)),[]):=by
 unfold a8;rw[vP];congr 4;rw[UInt8.lt_iff_toNat_lt];all_goals exact propext (by omega)
end
section
variable(x y:UInt32)
@[simp] theorem yZ:qBin P .lss t xo yo (some (a32 x)) (some (a32 y))=some (aB (decide (x<y)),[]):=by
 unfold a32;rw[rA];congr 4;rw[UInt32.lt_iff_toNat_lt];all_goals exact propext (by omega)
end
theorem eT{P:Program}{t:TypeId}{d:TypeDesc}(h:P.underlying t=some d):aY P (Go.underlying t)=some d:=by
 unfold Go.underlying
 rw[aW]
 show(some P).bind _=_
 rw[Option.bind_some,h]
 rfl
def intKind(P:Program)(t:TypeId):Option IntKind:=match P.underlying t with | some (.int k)=>some k | _=>none
theorem l3{P:Program}{t:TypeId}{k:IntKind}(h:intKind P t=some k):P.underlying t=some (.int k):=by
 unfold intKind at h
 split at h
 ·cases h;assumption
 ·cases h
theorem pU{g:Get}{r:Ref}{src dst:TypeId}{k':IntKind}(hs:(P.underlying src).isNone=false)(hd:intKind P dst=some k)(n:Int) :
 cE P g r src dst (some (.v (.int k' n)))=some (.v (.int k (k.wrap n)),[]):=by
 have hd:=l3 hd
 obtain⟨d,hs⟩ : ∃d,P.underlying src=some d:=by cases h:P.underlying src with | none=>rw[h]at hs;cases hs | some d=>exact⟨d,rfl⟩
 have:aY P (Go.convert src dst (.int k' n))=some (.int k (k.wrap n)):=by
  unfold Go.convert
  rw[aW,eT hs,Option.bind_some,aW,eT hd,Option.bind_some]
  cases d<;>rfl
 simp only[cE,this,Option.bind_some,dR,scalar,if_true,qVal,Option.map_some]
@[simp] theorem zO{g:Get}{r:Ref}{src dst:TypeId}(hs:(P.underlying src).isNone=false)(hd:intKind P dst=some .i64)(x:UInt8) :
 cE P g r src dst (some (a8 x))=some (aI x.toNat,[]):=by
 unfold a8;rw[pU P .i64 hs hd,Ck]
@[simp] theorem yY{g:Get}{r:Ref}{src dst:TypeId}(hs:(P.underlying src).isNone=false)(hd:intKind P dst=some .i64)(x:UInt32) :
 cE P g r src dst (some (a32 x))=some (aI x.toNat,[]):=by
 unfold a32;rw[pU P .i64 hs hd,Aa]
end
theorem vK(P:Program)(d:Bool)(g:Get)(r:Ref)(t:TypeId)(ts:List TypeId)(x:AV)(hx : ∀r',x ≠ .mp r'):aF P d g r .len ⟨t :: ts⟩ [x]=qLen P (some t) x:=by
 unfold aF
 cases x<;>first | rfl | (rename_i q;exact(hx q rfl).elim)
@[simp] theorem B2(P:Program)(d:Bool)(g:Get)(r:Ref)(t:TypeId)(ts:List TypeId)(x:AV)(hx:(lR x).isSome=true):aF P d g r .len ⟨t :: ts⟩ [x]=qLen P (some t) x:=by
 refine vK P d g r t ts x fun r' e=>?_
 subst e;cases hx
@[simp] theorem z0:lR aNil=some 0:=id rfl
@[simp] theorem z4(n:Nat)(es:List AV)(c:Option Nat):lR (.isl n es c)=some es.length:=id rfl
@[simp] theorem zZ(r:Ref)(o n:Nat)(c:Option Nat):lR (.osl r o n c)=some n:=id rfl
@[simp] theorem yX{P:Program}{t:TypeId}(ha:tarr P t=none)(hs:isStr P t=false)(he:(cT P t).isSome=true)(x:AV):qLen P (some t) x=(lR x).map fun n=>(aI n,[]):=by
 simp only[qLen,ha,hs,he];rfl
theorem rW{P:Program}{t:TypeId}{z:Nat}(h:(cT P t).bind (aX P)=some z) : ∃e,cT P t=some e∧aX P e=some z:=by
 simpa [Option.bind_eq_some_iff] using h
@[simp] theorem nm{P:Program}{t:TypeId}{z:Nat}(h:(cT P t).bind (aX P)=some z)(g:Get)(es:List AV)(c:Option Nat)(kd:IntKind)(k:Int) :
 aE P g t (some (.isl z es c)) (some (.v (.int kd k)))=if 0≤k∧k<es.length then some (.iptr z es k.toNat 0,[]) else none:=by
 obtain⟨e,he,hz⟩:=rW h
 simp only[aE,Option.bind_some,lS,he,hz,and_true]
@[simp] theorem yW{P:Program}{t:TypeId}(ha:(tagg P t).isSome=true)(hn:(aX P t).isSome=true)(g:Get)(z:Nat)(es:List AV)(i j:Nat) :
 aC P g t (some (.iptr z es i j))=qVal (eK es i j ((aX P t).getD 0) ((tagg P t).getD false)):=by
 obtain⟨a,ha⟩:=Option.isSome_iff_exists.1 ha
 obtain⟨n,hn⟩:=Option.isSome_iff_exists.1 hn
 simp only[aC,ha,hn,Option.getD_some]
def xX(x:Option Blk)(i j n:Nat)(ag:Bool):QRes:=match x with
 | some b=>qVal (eK b.es i j n ag)
 | none=>none
@[simp] theorem y3(b:Blk)(i j n:Nat)(ag:Bool):xX (some b) i j n ag=qVal (eK b.es i j n ag):=id rfl
@[simp] theorem zN{P:Program}{t:TypeId}(ha:(tagg P t).isSome=true)(hn:(aX P t).isSome=true)(g:Get)(r:Ref)(i j:Nat) :
 aC P g t (some (.ptr r i j))=xX (g r) i j ((aX P t).getD 0) ((tagg P t).getD false):=by
 obtain⟨a,ha⟩:=Option.isSome_iff_exists.1 ha
 obtain⟨n,hn⟩:=Option.isSome_iff_exists.1 hn
 simp only[aC,ha,hn,Option.getD_some]
 rfl
@[simp] theorem tM(e:AV)(es:List AV)(j n:Nat):eK (e :: es) 0 j n true=if j+n≤e.cells.length∧0<n then some (.agg ((e.cells.drop j).take n)) else none:=id rfl
@[simp] theorem tL(e:AV)(es:List AV)(j n:Nat):eK (e :: es) 0 j n false=e.cells[j]?:=id rfl
def Sl(z:Nat)(es:List AV)(x:AV):Prop:=(x=aNil∧es=[]) ∨∃c,x = .isl z es c∧es.length≤c.getD es.length
theorem Sl.mk(z:Nat)(es:List AV):Sl z es (.isl z es none) := .inr ⟨none,rfl,Nat.le_refl _⟩
theorem Sl.len{z:Nat}{es:List AV}{x:AV}(h:Sl z es x):lR x=some es.length:=by
 rcases h with ⟨rfl,rfl⟩ | ⟨c,rfl,_⟩<;>rfl
theorem Sl.isl{z:Nat}{es:List AV}{x:AV}(h:Sl z es x){i:Nat}(hi:i<es.length) : ∃c,x = .isl z es c∧es.length≤c.getD es.length:=by
 rcases h with ⟨rfl,rfl⟩ | h
 ·simp at hi
 ·exact h
theorem Sl.view{z:Nat}{es:List AV}{x:AV}(h:Sl z es x)(g:Get)(n:Nat):view g (n+1) x=some x:=by
 rcases h with ⟨rfl,rfl⟩ | ⟨c,rfl,_⟩<;>rfl
theorem Sl.refs{z:Nat}{es:List AV}{x:AV}(h:Sl z es x)(g:Get)(n:Nat):ax g n x=[]:=by
 rcases h with ⟨rfl,rfl⟩ | ⟨c,rfl,_⟩<;>cases n<;>rfl
theorem Sl.cells{z:Nat}{es:List AV}{x:AV}(h:Sl z es x):x.cells=[x]∧x.one=true:=by
 rcases h with ⟨rfl,_⟩ | ⟨c,rfl,_⟩<;>exact⟨rfl,rfl⟩
@[simp] theorem zr(g:Get)(n:Nat)(x:Value):view g (n+1) (.v x)=some (.v x):=id rfl
@[simp] theorem CO(g:Get)(n:Nat)(x:UInt8):view g (n+1) (a8 x)=some (a8 x):=id rfl
@[simp] theorem Bx(g:Get)(n:Nat)(x:UInt32):view g (n+1) (a32 x)=some (a32 x):=id rfl
@[simp] theorem AA(g:Get)(n z:Nat)(es:List AV)(c:Option Nat):view g (n+1) (.isl z es c)=some (.isl z es c):=id rfl
@[simp] theorem AB(g:Get)(n:Nat)(cs:List AV):view g (n+1) (.agg cs)=(cs.mapM (view g n)).map .agg:=id rfl
@[simp] theorem Az(g:Get)(n:Nat)(cs:List AV):view g (n+1) (.tup cs)=(cs.mapM (view g n)).map .tup:=id rfl
theorem ov{g:Get}{r:Ref}{b:Blk}(hr:g r=some b)(n o l:Nat)(c:Option Nat):view g (n+1) (.osl r o l c)=if b.arr=true∧o+l≤b.es.length then some (.isl b.esz ((b.es.drop o).take l) c) else none:=by
 simp only[view,hr]
theorem cA:depth=8:=Nat.le_antisymm (Nat.le_refl 8) (Nat.le_refl 8)
end Go.Ab
namespace Go.Ab
@[simp] theorem Heap.mo(r q:Ref)(b:Option Blk)(H:Heap):Heap.get ((r,b) :: H) q=if r=q then b else Heap.get H q:=id rfl
attribute [simp] Heap.aj
theorem Ref.eq_iff(d t g k d' t' g' k':Nat):((⟨d,t,g,k⟩:Ref)=⟨d',t',g',k'⟩)↔(d=d'∧t=t'∧g=g'∧k=k'):=by
 constructor
 ·intro e;injection e;simp_all
 ·rintro⟨rfl,rfl,rfl,rfl⟩;rfl
@[simp] theorem B3(P:Program)(r:Ref)(e:TypeId)(x:AV)(h0:0<(aX P e).getD 0):qBox P r e (some x)=if some x.cells.length=aX P e∧x.cells.all AV.one=true then some (.ptr r 0 0,[⟨(aX P e).getD 0,[x],false,false⟩]) else none:=by
 unfold qBox
 cases h:aX P e with
 | none=>simp
 | some n=>rw[h]at h0;simp only[Option.getD_some]at h0;simp[h0]
def Fr(H:Heap):Prop :=∀d t g k,H.gen d t≤g→H.get ⟨d,t,g,k⟩=none
theorem Fr.nil:Fr []:=fun _ _ _ _ _=>rfl
theorem Fr.keyed{H:Heap}(h:Fr H)(bs:List Blk)(d t:Nat):Fr (Ab.keyed ⟨d,t,H.gen d t,0⟩ 0 bs H):=by
 intro d' t' g k hg
 rw[Heap.ee]at hg
 rw[Heap.p9]
 by_cases hb:bs=[]
 ·subst hb
  rw[if_neg (by simp)]at hg
  simp[h _ _ _ _ hg]
 ·by_cases hd:d'=d∧t'=t
  ·obtain⟨rfl,rfl⟩:=hd
   rw[if_pos ⟨rfl,rfl,hb⟩]at hg
   dsimp only at hg ⊢
   rw[if_neg (by intro hh;have:=hh.2.2.1;omega)]
   exact h _ _ _ _ (by omega)
  ·rw[if_neg (by intro hh;exact hd ⟨hh.1,hh.2.1⟩)]at hg
   dsimp only at hg ⊢
   rw[if_neg (by intro hh;exact hd ⟨hh.1,hh.2.1⟩)]
   exact h _ _ _ _ hg
theorem Fr.put{H:Heap}(h:Fr H){r:Ref}(b:Option Blk)(hr:(H.get r).isSome=true):Fr (H.put r b):=by
 intro d t g k hg
 rw[Heap.eW H r b hr]at hg
 rw[Heap.aj]
 split
 ·rename_i e
  subst e
  rw[h _ _ _ _ hg]at hr
  cases hr
 ·exact h _ _ _ _ hg
theorem Fr.cons{H:Heap}(h:Fr H)(d t:Nat)(b:Option Blk):Fr ((⟨d,t,H.gen d t,0⟩,b) :: H):=by
 intro d' t' g k hg
 simp only[Heap.gen]at hg
 rw[Heap.mo]
 split at hg
 ·rename_i e
  obtain⟨rfl,rfl⟩:=e
  rw[if_neg (by intro e;injection e;omega)]
  exact h _ _ _ _ (by omega)
 ·rename_i e
  rw[if_neg (by intro e';injection e' with e1 e2;exact e ⟨e1,e2⟩)]
  exact h _ _ _ _ hg
theorem oT{H:Heap}(hF:Fr H){q:Ref}(h:(H.get q).isSome=true)(d t k:Nat):(⟨d,t,H.gen d t,k⟩:Ref)≠q:=by
 intro e;subst e;rw[hF _ _ _ _ (Nat.le_refl _)]at h;cases h
def elT(P:Program)(t z by':Nat):Bool:=match cT P t with
 | some e=>aX P e == some z&&iP P e == some by'&&(match fp P e with | some zz=>zz.cells.length == z&&zz.cells.all AV.one | none=>false)&&z != 0&&by' != 0
 | none=>false
def apT(P:Program)(t:TypeId):Bool:=(P.underlying t).isSome && !isInt P t
theorem gb{P:Program}{t z by':Nat}(h:elT P t z by'=true) : ∃e zz,cT P t=some e∧aX P e=some z∧iP P e=some by'∧fp P e=some zz∧zz.cells.length=z∧zz.cells.all AV.one=true∧z≠0∧by'≠0:=by
 unfold elT at h
 split at h
 ·rename_i e he
  simp only[Bool.and_eq_true,beq_iff_eq,bne_iff_ne]at h
  obtain⟨⟨⟨⟨h1,h2⟩,h3⟩,h4⟩,h5⟩:=h
  split at h3
  ·rename_i zz hz
   simp only[Bool.and_eq_true,beq_iff_eq]at h3
   exact⟨e,zz,he,h1,h2,hz,h3.1,h3.2,h4,h5⟩
  ·cases h3
 ·cases h
def Els(g:Get)(z:Nat)(new:List AV)(x:AV):Prop:=(x=aNil∧new=[])∨(isNum x=false∧x≠aNil∧bm g x=some (z,new))
theorem Els.jm{P:Program}{t z by':Nat}(h:elT P t z by'=true){e:TypeId}(he:cT P t=some e){g:Get}{new:List AV}{x:AV}(hx:Els g z new x):jm P g e x=some (z,new):=by
 obtain⟨e',zz,h1,h2,h3,h4,h5,h6,h7,h8⟩:=gb h
 rw[he]at h1;cases h1
 rcases hx with ⟨rfl,rfl⟩ | ⟨hn,hne,hx⟩
 ·simp only[Ab.jm,h2,Option.map_some]
 ·unfold Ab.jm
  split
  ·exact(hne rfl).elim
  ·simp[isNum]at hn
  ·exact hx
theorem Els.num{g:Get}{z:Nat}{new:List AV}{x:AV}(hx:Els g z new x):isNum x=false:=by
 rcases hx with ⟨rfl,_⟩ | ⟨hn,_⟩
 ·rfl
 ·exact hn
theorem Sl.els{z:Nat}{es:List AV}{x:AV}(h:Sl z es x)(g:Get):Els g z es x:=by
 rcases h with ⟨rfl,rfl⟩ | ⟨c,rfl,_⟩
 ·exact .inl ⟨rfl,rfl⟩
 ·exact .inr ⟨rfl,(by intro e;cases e),rfl⟩
def Own(z:Nat)(es:List AV)(H:Heap)(x:AV):Prop:=(x=aNil∧es=[]) ∨∃r,x = .osl r 0 es.length none∧H.get r=some ⟨z,es,true,false⟩
theorem uf(z:Nat)(H:Heap):Own z [] H aNil := .inl ⟨rfl,rfl⟩
theorem Own.len{z:Nat}{es:List AV}{H:Heap}{x:AV}(h:Own z es H x):lR x=some es.length:=by
 rcases h with ⟨rfl,rfl⟩ | ⟨r,rfl,_⟩<;>rfl
theorem Own.view{z:Nat}{es:List AV}{H:Heap}{x:AV}(h:Own z es H x)(n:Nat) : ∃y,view H.get (n+1) x=some y∧Sl z es y:=by
 rcases h with ⟨rfl,rfl⟩ | ⟨r,rfl,hr⟩
 ·exact⟨aNil,rfl,.inl ⟨rfl,rfl⟩⟩
 ·refine⟨.isl z es none,?_,Sl.mk z es⟩
  rw[ov hr]
  simp
theorem Own.els{z:Nat}{es:List AV}{H:Heap}{x:AV}(h:Own z es H x):Els H.get z es x:=by
 rcases h with ⟨rfl,rfl⟩ | ⟨r,rfl,hr⟩
 ·exact .inl ⟨rfl,rfl⟩
 ·refine .inr ⟨rfl,(by intro e;cases e),?_⟩
  simp[bm,hr]
def AV.at?:AV→Option Ref
 | .osl r _ _ _=>some r
 | .ptr r _ _=>some r
 | _=>none
theorem Own.osl{z:Nat}{es:List AV}{H:Heap}{x:AV}(h:Own z es H x)(hn:es≠[]) : ∃r,x = .osl r 0 es.length none∧H.get r=some ⟨z,es,true,false⟩:=by
 rcases h with ⟨_,rfl⟩ | h
 ·exact(hn rfl).elim
 ·exact h
end Go.Ab
