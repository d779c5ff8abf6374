/-
  What is to be shown for a run of the abstract machine, as one proposition that is computed from the code. No statement of a seat is proved here.
  More fuel gives the same answer. No statement of a seat is proved here.
  What the abstract machine's operations yield on data: the rules for the conditions. No statement of a seat is proved here.
  Own memory in the conditions: appends, stores, loads, what is seen of it. No statement of a seat is proved here.
-/
import Derived.Test.YtiidajnodhkidaaGreatAbsEnv
import Derived.IntWalk
set_option linter.unusedVariables false
set_option linter.unusedSimpArgs false
namespace Go.Ab
abbrev fM:=Nat→AV
def ek(s:fM):Operand→Option AV
 | .tmp t=>some (s t)
 | .const v=>ofValue v
 | .func f=>some (.fn (.func f) [] [])
 | .global _=>none
def By(ev:Operand→Option AV):List Operand→Option (List AV)
 | []=>some []
 | o :: os=>match ev o,By ev os with
  | some x,some xs=>some (x :: xs)
  | _,_=>none
def zX(ev:Operand→Option AV):List (Nat × Operand)→Option (List (Nat × AV))
 | []=>some []
 | (i,o) :: os=>match ev o,zX ev os with
  | some x,some xs=>some ((i,x) :: xs)
  | _,_=>none
def optF(ev:Operand→Option AV):Option Operand→Option (Option Int)
 | none=>some none
 | some o=>match (ev o).bind rS with
  | some n=>some (some n)
  | none=>none
def fset(s:fM)(d:Nat)(v:AV):fM:=fun i=>cond (Nat.beq i d) v (s i)
def fb(tm:List AV)(s:fM):Prop :=∀i,tget tm i=s i
theorem rG{tm:List AV}{s:fM}(h:fb tm s):bF tm=ek s:=by
 funext o;cases o<;>simp[bF,ek,h _]
theorem Bx(ev:Operand→Option AV)(l:List Operand):l.mapM ev=By ev l:=by
 induction l with
 | nil=>rfl
 | cons o l ih =>
  simp only[List.mapM_cons,ih,By,Option.pure_def,Option.bind_eq_bind]
  cases ev o<;>cases By ev l<;>rfl
theorem CT{tm:List AV}{s:fM}(h:fb tm s)(l:List (Nat × Operand)):gh tm l=zX (ek s) l:=by
 induction l with
 | nil=>rfl
 | cons o l ih =>
  obtain⟨i,o⟩:=o
  unfold gh at ih ⊢
  rw[List.mapM_cons,ih]
  simp only[zX,Option.pure_def,Option.bind_eq_bind,rG h]
  cases ek s o<;>cases zX (ek s) l<;>rfl
theorem Ey{tm:List AV}{s:fM}(h:fb tm s)(o:Option Operand):j1 tm o=optF (ek s) o:=by
 cases o with
 | none=>rfl
 | some o=>simp only[j1,optF,rG h];rfl
theorem fb.set{tm:List AV}{s:fM}(h:fb tm s)(d:Nat)(v:AV):fb (tset tm d v) (fset s d v):=by
 intro i
 rw[mY]
 unfold fset
 split
 ·rename_i e;subst e;simp
 ·rename_i e;rw[show Nat.beq i d=false from by cases hb:Nat.beq i d with | false=>rfl | true=>exact(e (Nat.eq_of_beq_eq_true hb)).elim];exact h i
def bB(c a b:Option AV):QRes :=
 match c.bind Ad with
 | some true=>qVal a
 | some false=>qVal b
 | none=>none
def nRes(H:Heap)(r:Ref)(q:QRes):WRes :=
 match q with
 | some (v,bs)=>some (v,keyed r 0 bs H)
 | none=>none
def orW(wk:Bool)(a b:WRes):WRes :=
 match a with
 | some x=>some x
 | none=>cond wk b none
def cl(E:Env)(wk:Bool)(pc:FuncId→List AV→Option AV)(tc:Tgt→List AV→Heap→WRes)(H:Heap)(r:Ref)(f:Option AV)(args:List AV):WRes :=
 orW wk (nRes H r (kj E pc H.get r f args)) (mc E pc tc H r f args)
def wU(E:Env)(wk:Bool)(pc:FuncId→List AV→Option AV)(tc:Tgt→List AV→Heap→WRes)(H:Heap)(r:Ref)(f:Option AV)(args:List AV):WRes :=
 orW wk (nRes H r ((kj E pc H.get r f args).map fun p=>(p.1,frzB true p.2))) (qn true H (mc E pc tc H r f args))
def cE(P:Program)(wk:Bool)(H:Heap)(r:Ref)(t t':Option TypeId)(s x:AV):WRes :=
 orW wk (nRes H r (eV P H.get r t t' s x)) (je P H t t' s x)
def ik(P:Program)(draw wk:Bool)(H:Heap)(r:Ref)(t:TypeId)(n:Nat)(vs:Option (List (Nat × AV))):WRes :=
 orW wk (nRes H r (fG P draw H.get r t n vs)) (gN P H r t n vs)
def u9(E:Env)(pc:FuncId→List AV→Option AV)(tc:Tgt→List AV→Heap→WRes)(dep:Nat)(draw wk:Bool)(s:fM)(H:Heap)(r:Ref)(o:Oper):QRes ⊕ WRes :=
 match o.op with
 | .move x | .assign x => .inl (qVal (ek s x))
 | .pick c a b => .inl (bB (ek s c) (ek s a) (ek s b))
 | .alloc e => .inr (nRes H r (bZ E.P r e))
 | .box e x => .inr (nRes H r (qBox E.P r e (ek s x)))
 | .build t ps => .inl (bQ E.P t (zX (ek s) ps.toList))
 | .buildSlice t n ps => .inr (ik E.P (draw && !E.strict o) wk H r t n (zX (ek s) ps.toList))
 | .load t a => .inl (ak E.P H.get t (ek s a))
 | .store t a x => .inr (cond wk (au E.P H t (ek s a) (ek s x)) none)
 | .nilCheck x => .inl (qNil (ek s x))
 | .binOp op t xo yo _ => .inl (qBin E.P op t xo yo (ek s xo) (ek s yo))
 | .unOp op _ x => .inl (qUn E.P op (ek s x))
 | .convert src dst x=>match dm E.P dst with
  | true => .inr (nRes H r (aW E.P H.get r src dst (ek s x)))
  | false => .inl (aW E.P H.get r src dst (ek s x))
 | .makeInterface t x => .inl (qH E.P t (ek s x))
 | .makeFunc f first captured => .inl (tH f (By (ek s) first.toList) (By (ek s) captured.toList))
 | .makeSlice t l c => .inr (nRes H r (sS E.P r t (ek s l) (ek s c)))
 | .slice t x lo hi mx=>match E.wide o && !draw with
  | true => .inl (jg E.P H.get t (ek s x) (optF (ek s) lo) (optF (ek s) hi) (optF (ek s) mx))
  | false => .inl (cu E.P H.get t (ek s x) (optF (ek s) lo) (optF (ek s) hi) (optF (ek s) mx))
 | .fieldAddr t x f => .inl (ab E.P t (ek s x) f)
 | .field t x f => .inl (rZ E.P t (ek s x) f)
 | .indexAddr t x ix => .inl (ax E.P H.get t (ek s x) (ek s ix))
 | .index t x ix => .inl (rY E.P t (ek s x) (ek s ix))
 | .typeAssert x _ want ok => .inl (uX E.P (ek s x) want ok)
 | .extract x i => .inl (ao (ek s x) i)
 | .call c =>
  match By (ek s) c.args.toList with
  | none => .inl none
  | some args =>
   match c.callee with
   | .value f=>(match CU E.over draw f with
    | some t => .inl (Ep E.P H.get t args)
    | none=>(match E.frz o with
     | true => .inr (wU E wk pc tc H r (ek s f) args)
     | false => .inr (cl E wk pc tc H r (ek s f) args)))
   | .invoke _ _ => .inl none
   | .builtin b=>match b,args with
    | .append,[a,x] => .inr (cE E.P wk H r c.argTypes[0]? c.argTypes[1]? a x)
    | .copy,[dst,x]=>(match E.wide o with
     | true => .inr (cond wk (qx E.P H c.argTypes[0]? dst x) none)
     | false => .inr (cond wk (uM E.P H c.argTypes[0]? dst x) none))
    | b,args => .inl (aw E.P (draw&&(E.strict o || !(match c.args.toList with | [.tmp _]=>true | _=>false))) H.get r b c.argTypes args)
 | .makeMap _ none => .inr (nRes H r (some (.mp r,[mD []])))
 | .lookup t x k ok => .inl (kU E.P H.get t (ek s x) (ek s k) ok)
 | .mapUpdate t m k x => .inr (cond wk (fW E.P H t (ek s m) (ek s k) (ek s x)) none)
 | .insert t m k x => .inr (cond wk (fW E.P H t (ek s m) (ek s k) (ek s x)) none)
 | .mapEntry t m k => .inr (cond wk (lG E.P H t (ek s m) (ek s k)) none)
 | .entryStore _ m n x => .inr (cond wk (iA H (ek s m) (ek s n) (ek s x)) none)
 | _ => .inl none
def o7(E:Env)(pc:FuncId→List AV→Option AV)(tc:Tgt→List AV→Heap→WRes)(dep:Nat)(draw:Bool)(tm:List AV)(H:Heap)(o:Oper):WRes :=
 match dY E pc draw H.get tm ⟨dep,o.dst.getD 0,H.gen dep (o.dst.getD 0),0⟩ o with
 | some (x,bs)=>some (x,keyed ⟨dep,o.dst.getD 0,H.gen dep (o.dst.getD 0),0⟩ 0 bs H)
 | none=>if draw && !jm E o then none else evalW E pc tc H tm ⟨dep,o.dst.getD 0,H.gen dep (o.dst.getD 0),0⟩ o
theorem BG(E:Env)(pc:FuncId→List AV→Option AV)(tc:Tgt→List AV→Heap→WRes)(nt dep:Nat)(draw:Bool)(ops:Array Oper)(o:Oper)(st:St) :
 evalOp E pc tc nt dep draw ops o st=(match wanted ops st.tm o with
  | none=>none
  | some false=>(ed nt st.tm o.dst AV.undef).map fun tm => { st with tm}
  | some true=>match o7 E pc tc dep draw st.tm st.hp o with
   | some (x,H)=>(ed nt st.tm o.dst x).map fun tm=>⟨tm,H⟩
   | none=>none):=by
 unfold evalOp o7
 cases hw:wanted ops st.tm o with
 | none=>rfl
 | some b =>
 cases b with
 | false=>rfl
 | true =>
  cases dY E pc draw st.hp.get st.tm ⟨dep,o.dst.getD 0,st.hp.gen dep (o.dst.getD 0),0⟩ o with
  | some p=>rfl
  | none =>
   dsimp only
   split
   ·rfl
   ·rfl
theorem QG{E:Env}{pc:FuncId→List AV→Option AV}{tc:Tgt→List AV→Heap→WRes}{dep:Nat}{draw:Bool}{tm:List AV}{H:Heap}{o:Oper}{v:AV}
 (h:dY E pc draw H.get tm ⟨dep,o.dst.getD 0,H.gen dep (o.dst.getD 0),0⟩ o=some (v,[])):o7 E pc tc dep draw tm H o=some (v,H):=by
 unfold o7;rw[h];rfl
theorem Kt{E:Env}{pc:FuncId→List AV→Option AV}{tc:Tgt→List AV→Heap→WRes}{dep:Nat}{draw:Bool}{tm:List AV}{H H':Heap}{o:Oper}{v:AV}{q:QRes}
 (h:dY E pc draw H.get tm ⟨dep,o.dst.getD 0,H.gen dep (o.dst.getD 0),0⟩ o=q) (hq:nRes H ⟨dep,o.dst.getD 0,H.gen dep (o.dst.getD 0),0⟩ q=some (v,H')):o7 E pc tc dep draw tm H o=some (v,H'):=by
 unfold o7;rw[h]
 unfold nRes at hq
 split at hq
 ·exact hq
 ·cases hq
theorem ny{E:Env}{pc:FuncId→List AV→Option AV}{tc:Tgt→List AV→Heap→WRes}{dep:Nat}{draw:Bool}{tm:List AV}{H H':Heap}{o:Oper}{v:AV}{q:QRes}{w:WRes}
 (h:dY E pc draw H.get tm ⟨dep,o.dst.getD 0,H.gen dep (o.dst.getD 0),0⟩ o=q) (hw:evalW E pc tc H tm ⟨dep,o.dst.getD 0,H.gen dep (o.dst.getD 0),0⟩ o=w)
 (hq:orW (!(draw && !jm E o)) (nRes H ⟨dep,o.dst.getD 0,H.gen dep (o.dst.getD 0),0⟩ q) w=some (v,H')):o7 E pc tc dep draw tm H o=some (v,H'):=by
 unfold o7;rw[h]
 cases q with
 | some p=>simpa [orW,nRes] using hq
 | none =>
  rw[hw]
  cases hd:(draw && !jm E o) with
  | true=>rw[hd]at hq;simp[orW,nRes]at hq
  | false=>rw[hd]at hq;simpa [orW,nRes] using hq
section
variable{E:Env}{pc:FuncId→List AV→Option AV}{tc:Tgt→List AV→Heap→WRes}{dep:Nat}{draw:Bool}{tm:List AV}{s:fM}{H:Heap}{o:Oper}
theorem Py(hs:fb tm s){q:QRes}{v:AV}
 (h:u9 E pc tc dep draw (!(draw && !jm E o)) s H ⟨dep,o.dst.getD 0,H.gen dep (o.dst.getD 0),0⟩ o = .inl q) (hq:q=some (v,[])):o7 E pc tc dep draw tm H o=some (v,H):=by
 subst hq
 refine QG ?_
 have e:=rG hs
 unfold u9 at h
 unfold dY
 split at h<;>rename_i ho<;>simp only[ho]
 all_goals try (simp only[Sum.inl.injEq,reduceCtorEq]at h)
 all_goals try (rw[←h];simp only[e,bB,Eo,CT hs,Ey hs,Bx];done)
 ·rw[←h];unfold Eo bB;rw[e];rfl
 ·split at h
  ·cases h
  ·simp only[Sum.inl.injEq]at h;rw[←h,e]
 ·cases hwd:(E.wide o && !draw) with
  | true=>rw[hwd]at h;simp only[Sum.inl.injEq]at h;rw[←h];simp only[cond_true,e,Ey hs]
  | false=>rw[hwd]at h;simp only[Sum.inl.injEq]at h;rw[←h];simp only[cond_false,e,Ey hs]
 ·rw[Bx,e]
  split at h
  ·cases h
  ·rename_i args hargs
   rw[hargs]
   dsimp only
   split at h
   ·rename_i f hf
    rw[hf]
    dsimp only
    split at h
    ·rename_i t ht
     simp only[Sum.inl.injEq]at h
     simp only[ht]
     exact h
    ·split at h<;>cases h
   ·cases h
   ·rename_i b hb
    rw[hb]
    dsimp only
    split at h
    ·cases h
    ·split at h<;>cases h
    ·simp only[Sum.inl.injEq]at h;exact h
theorem Px(hs:fb tm s){w:WRes}{v:AV}{H':Heap}
 (h:u9 E pc tc dep draw (!(draw && !jm E o)) s H ⟨dep,o.dst.getD 0,H.gen dep (o.dst.getD 0),0⟩ o = .inr w) (hw:w=some (v,H')):o7 E pc tc dep draw tm H o=some (v,H'):=by
 subst hw
 have e:=rG hs
 unfold u9 at h
 split at h<;>rename_i ho
 all_goals try (simp only[reduceCtorEq]at h;done)
 all_goals try (simp only[Sum.inr.injEq]at h)
 all_goals try (refine Kt (by unfold dY;simp only[ho,e]) h;done)
 ·rw[←CT hs]at h
  exact ny (q:=fG _ _ _ _ _ _ _) (w:=gN _ _ _ _ _ _) (by unfold dY;simp only[ho]) (by unfold evalW;simp only[ho]) h
 ·rw[←e]at h
  exact ny (q:=none) (w:=au _ _ _ _ _) (by unfold dY;simp only[ho]) (by unfold evalW;simp only[ho]) h
 ·split at h
  ·simp only[Sum.inr.injEq]at h
   refine Kt (by unfold dY;simp only[ho,e]) h
  ·cases h
 ·split at h<;>cases h
 ·split at h
  ·cases h
  ·rename_i args hargs
   have ha:=hargs
   rw[←Bx,←e]at ha
   split at h
   ·rename_i f hf
    split at h
    ·cases h
    ·rename_i hov
     split at h
     ·rename_i hfz
      simp only[Sum.inr.injEq]at h
      rw[←e]at h
      exact ny (q:=(kj _ _ _ _ _ _).map _) (w:=qn true _ (mc _ _ _ _ _ _ _)) (by unfold dY;simp only[ho,ha,hf,hov,hfz]) (by unfold evalW;simp only[ho,ha,hf,hfz]) h
     ·rename_i hfz
      simp only[Sum.inr.injEq]at h
      rw[←e]at h
      exact ny (q:=kj _ _ _ _ _ _) (w:=mc _ _ _ _ _ _ _) (by unfold dY;simp only[ho,ha,hf,hov,hfz,frzB];cases kj E pc H.get _ (bF tm f) args<;>rfl) (by unfold evalW;simp only[ho,ha,hf,hfz];rfl) h
   ·cases h
   ·rename_i b hb
    split at h
    ·simp only[Sum.inr.injEq]at h
     exact ny (q:=eV _ _ _ _ _ _ _) (w:=je _ _ _ _ _ _) (by unfold dY;simp only[ho,ha,hb];rfl) (by unfold evalW;simp only[ho,ha,hb]) h
    ·split at h
     ·rename_i hwd
      simp only[Sum.inr.injEq]at h
      exact ny (q:=none) (w:=qx _ _ _ _ _) (by unfold dY;simp only[ho,ha,hb];rfl) (by unfold evalW;simp only[ho,ha,hb,hwd,cond_true]) h
     ·rename_i hwd
      simp only[Sum.inr.injEq]at h
      exact ny (q:=none) (w:=uM _ _ _ _ _) (by unfold dY;simp only[ho,ha,hb];rfl) (by unfold evalW;simp only[ho,ha,hb,hwd,cond_false]) h
    ·cases h
 ·rw[←e]at h
  exact ny (q:=none) (w:=fW _ _ _ _ _ _) (by unfold dY;simp only[ho]) (by unfold evalW;simp only[ho]) h
 ·rw[←e]at h
  exact ny (q:=none) (w:=fW _ _ _ _ _ _) (by unfold dY;simp only[ho]) (by unfold evalW;simp only[ho]) h
 ·rw[←e]at h
  exact ny (q:=none) (w:=lG _ _ _ _ _) (by unfold dY;simp only[ho]) (by unfold evalW;simp only[ho]) h
 ·rw[←e]at h
  exact ny (q:=none) (w:=iA _ _ _ _) (by unfold dY;simp only[ho]) (by unfold evalW;simp only[ho]) h
end
open Classical in
noncomputable def limf(E:Env)(f:FuncId)(args:List AV):Option AV :=
 if h : ∃y n,∀m,n≤m→dC E (runA E m) f args=some y then some h.choose else none
theorem vg{E:Env}{f:FuncId}{args:List AV}{y:AV}:limf E f args=some y ↔ ∃n,∀m,n≤m→dC E (runA E m) f args=some y:=by
 unfold limf
 constructor
 ·intro h
  split at h
  ·rename_i hh
   simp only[Option.some.injEq]at h
   rw[←h]
   exact hh.choose_spec
  ·cases h
 ·intro h
  rw[dif_pos ⟨y,h⟩]
  obtain⟨n,hn⟩:=h
  have hh : ∃y n,∀m,n≤m→dC E (runA E m) f args=some y:=⟨y,n,hn⟩
  obtain⟨n',hn'⟩:=hh.choose_spec
  have h1:=hn (max n n') (Nat.le_max_left ..)
  have h2:=hn' (max n n') (Nat.le_max_right ..)
  exact h2.symm.trans h1
open Classical in
noncomputable def limt(E:Env)(dep:Nat)(f:Tgt)(args:List AV)(H:Heap):WRes :=
 if h : ∃y n,∀m,n≤m→eU E (runA E m) dep f args H=some y then some h.choose else none
theorem pA{E:Env}{dep:Nat}{f:Tgt}{args:List AV}{H:Heap}{y:AV × Heap}:limt E dep f args H=some y ↔ ∃n,∀m,n≤m→eU E (runA E m) dep f args H=some y:=by
 unfold limt
 constructor
 ·intro h
  split at h
  ·rename_i hh
   simp only[Option.some.injEq]at h
   rw[←h]
   exact hh.choose_spec
  ·cases h
 ·intro h
  rw[dif_pos ⟨y,h⟩]
  obtain⟨n,hn⟩:=h
  have hh : ∃y n,∀m,n≤m→eU E (runA E m) dep f args H=some y:=⟨y,n,hn⟩
  obtain⟨n',hn'⟩:=hh.choose_spec
  have h1:=hn (max n n') (Nat.le_max_left ..)
  have h2:=hn' (max n n') (Nat.le_max_right ..)
  exact h2.symm.trans h1
theorem Fj{E:Env}{wk:Bool}{dep:Nat}{H H':Heap}{r:Ref}{f:Option AV}{args:List AV}{v:AV}(h:cl E wk (limf E) (limt E dep) H r f args=some (v,H')) :
 ∃n,∀m,n≤m→cl E wk (dC E (runA E m)) (eU E (runA E m) dep) H r f args=some (v,H'):=by
 unfold cl at h ⊢
 by_cases hf : ∃fi first captured,f=some (.fn (.func fi) first captured)
 ·obtain⟨fi,first,captured,rfl⟩:=hf
  by_cases h2:E.mode fi=2
  ·simp only[kj,mc,if_pos h2,nRes,orW]at h ⊢
   cases wk with
   | true =>
    simp only[cond_true]at h ⊢
    obtain⟨n,hn⟩:=pA.1 h
    exact⟨n,hn⟩
   | false=>simp at h
  ·simp only[kj,mc,if_neg h2]at h ⊢
   cases hx:(first++args++captured).mapM (view H.get depth) with
   | none=>rw[hx]at h;simp[nRes,orW]at h
   | some xs =>
    rw[hx]at h
    dsimp only at h ⊢
    cases hy:limf E fi xs with
    | none=>rw[hy]at h;simp[nRes,orW]at h
    | some y =>
     rw[hy]at h
     obtain⟨n,hn⟩:=vg.1 hy
     refine⟨n,fun m hm=>?_⟩
     rw[hn m hm]
     exact h
 ·have h1 : ∀pc,kj E pc H.get r f args=none:=by
   intro pc
   unfold kj
   split
   ·exact(hf ⟨_,_,_,rfl⟩).elim
   ·rfl
  by_cases hy : ∃q,f=some (.yld q)
  ·obtain⟨q,rfl⟩:=hy
   rw[h1]at h
   cases wk with
   | false=>simp[nRes,orW]at h
   | true =>
    have h':limt E dep (.yld q) args H=some (v,H'):=h
    obtain⟨n,hn⟩:=pA.1 h'
    refine⟨n,fun m hm=>?_⟩
    rw[h1]
    exact hn m hm
  ·have h2 : ∀pc tc,mc E pc tc H r f args=none:=by
    intro pc tc
    unfold mc
    split
    ·exact(hf ⟨_,_,_,rfl⟩).elim
    ·exact(hy ⟨_,rfl⟩).elim
    ·rfl
   rw[h1,h2]at h
   cases wk<;>simp[nRes,orW]at h
theorem zJ{H H':Heap}{x:WRes}{v:AV}(h:qn true H x=some (v,H')) : ∃H1,x=some (v,H1)∧H'=H∧flat depth v=true∧wS H H1=true:=by
 cases x with
 | none=>simp[qn]at h
 | some p =>
  obtain⟨y,H1⟩:=p
  unfold qn at h
  simp only at h
  split at h
  ·rename_i hc
   cases h
   rw[Bool.and_eq_true]at hc
   exact⟨H1,rfl,rfl,hc.1,hc.2⟩
  ·cases h
theorem DE{E:Env}{wk:Bool}{dep:Nat}{H H':Heap}{r:Ref}{f:Option AV}{args:List AV}{v:AV}(h:wU E wk (limf E) (limt E dep) H r f args=some (v,H')) :
 ∃n,∀m,n≤m→wU E wk (dC E (runA E m)) (eU E (runA E m) dep) H r f args=some (v,H'):=by
 unfold wU at h ⊢
 by_cases hf : ∃fi first captured,f=some (.fn (.func fi) first captured)
 ·obtain⟨fi,first,captured,rfl⟩:=hf
  by_cases h2:E.mode fi=2
  ·simp only[kj,mc,if_pos h2,nRes,orW,Option.map_none]at h ⊢
   cases wk with
   | true =>
    simp only[cond_true]at h ⊢
    obtain⟨H1,e1,e2,e3,e4⟩:=zJ h
    obtain⟨n,hn⟩:=pA.1 e1
    refine⟨n,fun m hm=>?_⟩
    rw[hn m hm]
    rw[e1]at h
    exact h
   | false=>simp at h
  ·simp only[kj,mc,if_neg h2]at h ⊢
   cases hx:(first++args++captured).mapM (view H.get depth) with
   | none=>rw[hx]at h;simp[nRes,orW,qn]at h
   | some xs =>
    rw[hx]at h
    dsimp only at h ⊢
    cases hy:limf E fi xs with
    | none=>rw[hy]at h;simp[nRes,orW,qn]at h
    | some y =>
     rw[hy]at h
     obtain⟨n,hn⟩:=vg.1 hy
     refine⟨n,fun m hm=>?_⟩
     rw[hn m hm]
     exact h
 ·have h1 : ∀pc,kj E pc H.get r f args=none:=by
   intro pc
   unfold kj
   split
   ·exact(hf ⟨_,_,_,rfl⟩).elim
   ·rfl
  by_cases hy : ∃q,f=some (.yld q)
  ·obtain⟨q,rfl⟩:=hy
   rw[h1]at h
   cases wk with
   | false=>simp[nRes,orW]at h
   | true =>
    have h':qn true H (limt E dep (.yld q) args H)=some (v,H'):=h
    obtain⟨H1,e1,_⟩:=zJ h'
    obtain⟨n,hn⟩:=pA.1 e1
    refine⟨n,fun m hm=>?_⟩
    rw[h1]
    show qn true H (eU E (runA E m) dep (.yld q) args H)=_
    rw[hn m hm]
    rw[e1]at h'
    exact h'
  ·have h2 : ∀pc tc,mc E pc tc H r f args=none:=by
    intro pc tc
    unfold mc
    split
    ·exact(hf ⟨_,_,_,rfl⟩).elim
    ·exact(hy ⟨_,rfl⟩).elim
    ·rfl
   rw[h1,h2]at h
   cases wk<;>simp[nRes,orW,qn]at h
theorem CV{E:Env}{dep:Nat}{draw wk:Bool}{s:fM}{H:Heap}{r:Ref}{o:Oper} :
 (∀q v,u9 E (limf E) (limt E dep) dep draw wk s H r o = .inl q→q=some (v,[]) →∃n,∀m,n≤m→u9 E (dC E (runA E m)) (eU E (runA E m) dep) dep draw wk s H r o = .inl (some (v,[]))) ∧
 (∀w v H',u9 E (limf E) (limt E dep) dep draw wk s H r o = .inr w→w=some (v,H') →∃n,∀m,n≤m→u9 E (dC E (runA E m)) (eU E (runA E m) dep) dep draw wk s H r o = .inr (some (v,H'))):=by
 constructor
 ·intro q v h hq
  subst hq
  refine⟨0,fun m _=>?_⟩
  unfold u9 at h ⊢
  generalize o.op=op at h ⊢
  cases op
  all_goals try exact h
  case makeMap a b=>cases b<;>exact h
  rename_i c
  dsimp only at h ⊢
  cases ha:By (ek s) c.args.toList with
  | none=>rw[ha]at h;exact h
  | some args =>
   rw[ha]at h
   dsimp only at h ⊢
   cases hc:c.callee with
   | value f =>
    rw[hc]at h
    dsimp only at h ⊢
    cases hov:CU E.over draw f with
    | some t=>rw[hov]at h;exact h
    | none=>rw[hov]at h;dsimp only at h;split at h<;>cases h
   | invoke a b=>rw[hc]at h;exact h
   | builtin b=>rw[hc]at h;exact h
 ·intro w v H' h hw
  subst hw
  unfold u9 at h ⊢
  generalize o.op=op at h ⊢
  cases op
  all_goals try (exact⟨0,fun m _=>h⟩)
  case makeMap a b=>cases b<;>exact⟨0,fun m _=>h⟩
  rename_i c
  dsimp only at h ⊢
  cases ha:By (ek s) c.args.toList with
  | none=>rw[ha]at h;cases h
  | some args =>
   rw[ha]at h
   dsimp only at h ⊢
   cases hc:c.callee with
   | value f =>
    rw[hc]at h
    dsimp only at h ⊢
    cases hov:CU E.over draw f with
    | some t=>rw[hov]at h;cases h
    | none =>
    rw[hov]at h
    dsimp only at h ⊢
    cases hfz:E.frz o with
    | true =>
     rw[hfz]at h
     simp only[Sum.inr.injEq]at h
     obtain⟨n,hn⟩:=DE h
     exact⟨n,fun m hm=>congrArg _ (hn m hm)⟩
    | false =>
     rw[hfz]at h
     simp only[Sum.inr.injEq]at h
     obtain⟨n,hn⟩:=Fj h
     exact⟨n,fun m hm=>congrArg _ (hn m hm)⟩
   | invoke a b=>rw[hc]at h;cases h
   | builtin b=>rw[hc]at h;exact⟨0,fun m _=>h⟩
abbrev Mk{α:Type}(a:α):Type:=Unit
structure doQ (q:QRes) (K:AV→Prop) (m:Mk K:=()):Prop where
 h : ∃v,q=some (v,[])∧K v
structure doW (w:WRes) (K:AV→Heap→Prop) (m:Mk K:=()):Prop where
 h : ∃v H,w=some (v,H)∧K v H
def RR(x:AV)(want:Bool):Option Bool :=
 match x with
 | .v (.bool b)=>some (b == want)
 | .v (.tuple vs)=>if vs.isEmpty then some false else none
 | _=>none
def gd(x:AV)(want:Bool)(A B:Prop):Prop :=
 match RR x want with
 | some true=>A
 | some false=>B
 | none=>False
structure gQ (x:AV) (want:Bool) (q:QRes) (K:AV→Prop) (m:Mk (q,K):=()):Prop where
 h:gd x want (doQ q K) (K AV.undef)
structure gW (x:AV) (want:Bool) (H:Heap) (w:WRes) (K:AV→Heap→Prop) (m:Mk (w,K):=()):Prop where
 h:gd x want (doW w K) (K AV.undef H)
def brP(x:Option AV)(A B:Prop):Prop :=
 match x.bind Ad with
 | some b=>cond b A B
 | none=>False
structure br (x:Option AV) (A B:Prop) (m:Mk (A,B):=()):Prop where
 h:brP x A B
def Gg(ops:Array Oper)(s:fM)(o:Oper):Option (Option (AV × Bool)) :=
 match o.guard with
 | none=>none
 | some (j,want)=>match (ops[j]?).bind (·.dst) with
  | some t=>some (some (s t,want))
  | none=>some none
def putF(nt:Nat)(s:fM)(dst:Option Tmp)(v:AV)(K:fM→Prop):Prop :=
 match dst with
 | none=>K s
 | some d=>cond (Nat.blt d nt) (K (fset s d v)) False
def wpOp(E:Env)(nt dep:Nat)(draw:Bool)(ops:Array Oper)(o:Oper)(s:fM)(H:Heap)(K:fM→Heap→Prop):Prop :=
 match u9 E (limf E) (limt E dep) dep draw (!(draw && !jm E o)) s H ⟨dep,o.dst.getD 0,H.gen dep (o.dst.getD 0),0⟩ o with
 | .inl q=>match Gg ops s o with
  | none=>(match o.op with
   | .move x | .assign x=>(match ek s x with
    | some v=>putF nt s o.dst v fun s=>K s H
    | none=>False)
   | _=>doQ q fun v=>putF nt s o.dst v fun s=>K s H)
  | some (some (x,want))=>gQ x want q fun v=>putF nt s o.dst v fun s=>K s H
  | some none=>putF nt s o.dst AV.undef fun s=>K s H
 | .inr w=>match Gg ops s o with
  | none=>doW w fun v H=>putF nt s o.dst v fun s=>K s H
  | some (some (x,want))=>gW x want H w fun v H=>putF nt s o.dst v fun s=>K s H
  | some none=>putF nt s o.dst AV.undef fun s=>K s H
def wpOps(E:Env)(nt dep:Nat)(draw:Bool)(ops:Array Oper):List Oper→fM→Heap→(fM→Heap→Prop)→Prop
 | [],s,H,K=>K s H
 | o :: os,s,H,K=>wpOp E nt dep draw ops o s H fun s H=>wpOps E nt dep draw ops os s H K
def Fin(E:Env)(fn:Func)(rd:Option Ref)(o:Option St)(y:AV)(H':Heap):Prop:=match rd with
 | none =>∃st,o=some st∧ry E.P fn st=some y∧st.hp=H'
 | some r =>∃st n,o=sa (some r) st n∧y = .v (.int .i64 (n:Nat))∧st.hp=H'
def Goes(E:Env)(fn:Func)(rd:Option Ref)(dep:Nat)(items:List Item)(s:fM)(H:Heap)(Q:AV→Heap→Prop):Prop :=
 ∀tm,fb tm s →∃y H',Q y H' ∧∃n,∀m,n≤m→Fin E fn rd (runA E m rd fn.ntmps dep items ⟨tm,H⟩) y H'
def ofL(g:fM):List (Nat × AV)→fM
 | [],i=>g i
 | (j,v) :: l,i=>cond (Nat.beq i j) v (ofL g l i)
structure GoX (E:Env) (fn:Func) (rd:Option Ref) (dep:Nat) (items:List Item) (l:List (Nat × AV)) (H:Heap) (Q:AV→Heap→Prop):Prop where
 h : ∀g,Goes E fn rd dep items (ofL g l) H Q
abbrev GoL(E:Env)(fn:Func)(dep:Nat)(items:List Item)(l:List (Nat × AV))(H:Heap)(Q:AV→Heap→Prop):Prop:=GoX E fn none dep items l H Q
def AX(s:fM):List Nat→List (Nat × AV)
 | []=>[]
 | t :: ts=>(t,s t) :: AX s ts
theorem Ml(s:fM)(l:List Nat):ofL s (AX s l)=s:=by
 induction l with
 | nil=>rfl
 | cons t l ih =>
  funext i
  show cond (Nat.beq i t) (s t) (ofL s (AX s l) i)=s i
  rw[ih]
  cases h:Nat.beq i t with
  | true=>rw[Nat.eq_of_beq_eq_true h];rfl
  | false=>rfl
def iG:Code→Option Nat
 | .region id _ _=>some id
 | .seq a b=>match iG a with
  | some i=>some i
  | none=>iG b
 | .cond _ a b=>match iG a with
  | some i=>some i
  | none=>iG b
 | .block _ c | .loop c | .scope c=>iG c
 | _=>none
def aE(P:Program)(H:Heap)(x:AV)(t:TypeId):QRes :=
 match x,tagg P t,bm P t with
 | .ptr r i j,some g,some n=>match H.get r with
  | some b=>qVal (ee b.es i j n g)
  | none=>none
 | _,_,_=>none
def pack:List AV→AV
 | [] => .v (.tuple #[])
 | [x]=>x
 | xs => .tup xs
def DP(P:Program)(s:fM)(H:Heap)(Q:AV→Heap→Prop):List ResultVar→List AV→Prop
 | [],acc=>Q (pack acc.reverse) H
 | .tmp t :: rs,acc=>DP P s H Q rs (s t :: acc)
 | .cell a t :: rs,acc=>doQ (aE P H (s a) t) fun v=>DP P s H Q rs (v :: acc)
def p9(x y:AV):Bool:=match kg x,kg y with
 | some r,some r'=>decide (r≠r')
 | _,_=>true
def CD(H:Heap)(x:AV):Bool:=match x with
 | .ptr r _ _=>(match H.get r with
  | some b => !b.arr
  | none=>false)
 | _=>true
def bsV(x:AV):Bool:=match x with
 | .osl .. => true
 | .v _=>true
 | _=>false
def ND(s:fM)(p:Tmp × Tmp):Bool:=p9 (s p.1) (s p.2)
def zM(s:fM)(H:Heap)(o:Oper):Bool:=match o.op with
 | .store _ (.tmp t) _=>CD H (s t)
 | _=>true
def KF(E:Env)(s:fM)(o:Oper):Bool := !(E.frz o&&bsOp o.op)||(match bsT o.op with
 | some t=>bsV (s t)
 | none=>false)
def Oc(E:Env)(l:List (Tmp × Tmp))(ops:Array Oper)(s:fM)(H:Heap):Prop:=l.all (ND s)=true∧ops.toList.all (zM s H)=true∧ops.toList.all (KF E s)=true
def od(l:List (AV × AV))(st bs:List AV)(H:Heap):Prop:=(l.all fun p=>p9 p.1 p.2)=true∧st.all (CD H)=true∧bs.all bsV=true
def SI(assign body:Code):Nat:=match iG (.seq assign body) with
 | some i=>i+10000
 | none=>10000
structure bgP (o:Option (Nat × AV)) (K:AV→Prop) (m:Mk K:=()):Prop where
 h : ∃info,o=some (0,info)∧K info
def HX(P:Program)(fn:Func)(rd:Option Ref)(code:Nat)(s:fM)(H:Heap)(Q:AV→Heap→Prop):Prop:=match rd with
 | none=>cond (Nat.ble code 2) (DP P s H Q fn.results.toList []) False
 | some _=>Q (.v (.int .i64 code)) H
def wp(E:Env)(fn:Func)(rd:Option Ref)(dep:Nat)(live:Nat→Option (List Nat))(cut:Nat→Bool)(Q:AV→Heap→Prop):Nat→List Item→fM→Heap→Prop
 | 0,items,s,H=>Goes E fn rd dep items s H Q
 | n+1,items,s,H =>
  match items with
  | []=>HX E.P fn rd 0 s H Q
  | .beginRound :: k=>(match rd with
   | none=>False
   | some r=>bgP (lpAt H r) fun info=>wp E fn rd dep live cut Q n k s (H.put r (some (fa 1 info))))
  | .code c :: k =>
   (match c with
   | .skip | .label _=>wp E fn rd dep live cut Q n k s H
   | .ret=>HX E.P fn rd 2 s H Q
   | .seq a b=>wp E fn rd dep live cut Q n (.code a :: .code b :: k) s H
   | .cond c a b=>br (ek s c) (wp E fn rd dep live cut Q n (.code a :: k) s H) (wp E fn rd dep live cut Q n (.code b :: k) s H)
   | .block id b=>wp E fn rd dep live cut Q n (.code b :: .inBlock id :: k) s H
   | .scope b=>wp E fn rd dep live cut Q n (.code b :: .inScope b :: k) s H
   | .loop b=>(match (iG b).bind live with
    | some l=>GoX E fn rd dep (.inLoop b :: k) (AX s l) H Q
    | none=>Goes E fn rd dep (.inLoop b :: k) s H Q)
   | .exit id=>(match exitTo id k with
    | some k'=>wp E fn rd dep live cut Q n k' s H
    | none=>HX E.P fn rd (id+3) s H Q)
   | .rangeFunc g ps a b=>(match live (SI a b) with
    | some l=>GoX E fn rd dep (.code (.rangeFunc g ps a b) :: k) (AX s l) H Q
    | none=>Goes E fn rd dep (.code (.rangeFunc g ps a b) :: k) s H Q)
   | .region id ops draw=>(match cut id with
    | true=>(match live id with
     | some l=>GoX E fn rd dep (.code (.region id ops draw) :: k) (AX s l) H Q
     | none=>False)
    | false=>wpOps E fn.ntmps dep draw ops ops.toList s H fun s H =>
     (match draw,nD E ops with
     | true,p :: ps=>Oc E (p :: ps) ops s H∧wp E fn rd dep live cut Q n k s H
     | _,_=>wp E fn rd dep live cut Q n k s H))
   | _=>False)
  | .inLoop b :: k=>(match (iG b).bind live with
   | some l=>GoX E fn rd dep (.inLoop b :: k) (AX s l) H Q
   | none=>Goes E fn rd dep (.inLoop b :: k) s H Q)
  | .inBlock _ :: k | .inScope _ :: k=>wp E fn rd dep live cut Q n k s H
  | _=>False
theorem nP{ops:Array Oper}{tm:List AV}{s:fM}(h:fb tm s)(o:Oper):wanted ops tm o=(match Gg ops s o with
 | none=>some true
 | some (some (x,want))=>RR x want
 | some none=>some false):=by
 unfold wanted Gg
 split
 ·rename_i hg;rw[hg]
 ·rename_i j want hg
  rw[hg]
  dsimp only
  split
  ·rename_i t ht
   rw[ht]
   dsimp only
   rw[h t]
   rfl
  ·rename_i ht
   rw[ht]
theorem qI{nt:Nat}{s:fM}{dst:Option Tmp}{v:AV}{K:fM→Prop}(h:putF nt s dst v K) : ∃s',K s' ∧∀tm,fb tm s →∃tm',ed nt tm dst v=some tm'∧fb tm' s':=by
 unfold putF at h
 cases dst with
 | none=>exact⟨s,h,fun tm ht=>⟨tm,rfl,ht⟩⟩
 | some d =>
  dsimp only at h
  cases hd:Nat.blt d nt with
  | false=>rw[hd]at h;exact h.elim
  | true =>
   rw[hd]at h
   refine⟨_,h,fun tm ht=>⟨_,?_,ht.set d v⟩⟩
   have hlt:d<nt:=Nat.le_of_ble_eq_true hd
   simp only[ed,if_pos hlt]
theorem Oi{E:Env}{nt dep:Nat}{draw:Bool}{ops:Array Oper}{o:Oper}{s:fM}{H:Heap}{K:fM→Heap→Prop}(h:wpOp E nt dep draw ops o s H K) :
 ∃s' H',K s' H' ∧∀tm,fb tm s →∃tm',fb tm' s' ∧∃n,∀m,n≤m→evalOp E (dC E (runA E m)) (eU E (runA E m) dep) nt dep draw ops o ⟨tm,H⟩=some ⟨tm',H'⟩:=by
 have run : ∀(v:AV)(H':Heap)(s':fM),(∀tm,fb tm s→wanted ops tm o=some true)→(∃n,∀m,n≤m →∀tm,fb tm s→o7 E (dC E (runA E m)) (eU E (runA E m) dep) dep draw tm H o=some (v,H')) →
  (∀tm,fb tm s →∃tm',ed nt tm o.dst v=some tm'∧fb tm' s') →
  ∀tm,fb tm s →∃tm',fb tm' s' ∧∃n,∀m,n≤m→evalOp E (dC E (runA E m)) (eU E (runA E m) dep) nt dep draw ops o ⟨tm,H⟩=some ⟨tm',H'⟩:=by
  intro v H' s' hw ⟨n,hn⟩ hp tm ht
  obtain⟨tm',h1,h2⟩:=hp tm ht
  refine⟨tm',h2,n,fun m hm=>?_⟩
  rw[BG]
  dsimp only
  rw[hw tm ht,hn m hm tm ht]
  dsimp only
  rw[h1]
  rfl
 have skip : ∀(s':fM),(∀tm,fb tm s→wanted ops tm o=some false)→(∀tm,fb tm s →∃tm',ed nt tm o.dst AV.undef=some tm'∧fb tm' s') →
  ∀tm,fb tm s →∃tm',fb tm' s' ∧∃n,∀m,n≤m→evalOp E (dC E (runA E m)) (eU E (runA E m) dep) nt dep draw ops o ⟨tm,H⟩=some ⟨tm',H⟩:=by
  intro s' hw hp tm ht
  obtain⟨tm',h1,h2⟩:=hp tm ht
  refine⟨tm',h2,0,fun m _=>?_⟩
  rw[BG]
  dsimp only
  rw[hw tm ht]
  dsimp only
  rw[h1]
  rfl
 unfold wpOp at h
 split at h
 ·rename_i q hq
  have evq : ∀v,q=some (v,[]) →∃n,∀m,n≤m →∀tm,fb tm s→o7 E (dC E (runA E m)) (eU E (runA E m) dep) dep draw tm H o=some (v,H):=by
   intro v hv
   obtain⟨n,hn⟩:=CV.1 q v hq hv
   exact⟨n,fun m hm tm ht=>Py ht (hn m hm) rfl⟩
  split at h
  ·rename_i hg
   have hw : ∀tm,fb tm s→wanted ops tm o=some true:=fun tm ht=>by rw[nP ht,hg]
   have fromQ : ∀v,q=some (v,[])→putF nt s o.dst v (fun s=>K s H) →∃s' H',K s' H' ∧∀tm,fb tm s →∃tm',fb tm' s' ∧∃n,∀m,n≤m→evalOp E (dC E (runA E m)) (eU E (runA E m) dep) nt dep draw ops o ⟨tm,H⟩=some ⟨tm',H'⟩:=by
    intro v hv hp
    obtain⟨s',hK,hp⟩:=qI hp
    exact⟨s',H,hK,run v H s' hw (evq v hv) hp⟩
   split at h
   ·rename_i x ho
    split at h
    ·rename_i v hv
     refine fromQ v ?_ h
     unfold u9 at hq
     simp only[ho,Sum.inl.injEq,hv]at hq
     rw[←hq];rfl
    ·exact h.elim
   ·rename_i x ho
    split at h
    ·rename_i v hv
     refine fromQ v ?_ h
     unfold u9 at hq
     simp only[ho,Sum.inl.injEq,hv]at hq
     rw[←hq];rfl
    ·exact h.elim
   ·obtain⟨v,hv,h⟩:=h.h
    exact fromQ v hv h
  ·rename_i x want hg
   replace h:=h.h
   unfold gd at h
   split at h
   ·rename_i hx
    obtain⟨v,hv,h⟩:=h.h
    obtain⟨s',hK,hp⟩:=qI h
    exact⟨s',H,hK,run v H s' (fun tm ht=>by rw[nP ht,hg];exact hx) (evq v hv) hp⟩
   ·rename_i hx
    obtain⟨s',hK,hp⟩:=qI h
    exact⟨s',H,hK,skip s' (fun tm ht=>by rw[nP ht,hg];exact hx) hp⟩
   ·exact h.elim
  ·rename_i hg
   obtain⟨s',hK,hp⟩:=qI h
   exact⟨s',H,hK,skip s' (fun tm ht=>by rw[nP ht,hg]) hp⟩
 ·rename_i w hw
  have evw : ∀v H',w=some (v,H') →∃n,∀m,n≤m →∀tm,fb tm s→o7 E (dC E (runA E m)) (eU E (runA E m) dep) dep draw tm H o=some (v,H'):=by
   intro v H' hv
   obtain⟨n,hn⟩:=CV.2 w v H' hw hv
   exact⟨n,fun m hm tm ht=>Px ht (hn m hm) rfl⟩
  split at h
  ·rename_i hg
   obtain⟨v,H',hv,h⟩:=h.h
   obtain⟨s',hK,hp⟩:=qI h
   exact⟨s',H',hK,run v H' s' (fun tm ht=>by rw[nP ht,hg]) (evw v H' hv) hp⟩
  ·rename_i x want hg
   replace h:=h.h
   unfold gd at h
   split at h
   ·rename_i hx
    obtain⟨v,H',hv,h⟩:=h.h
    obtain⟨s',hK,hp⟩:=qI h
    exact⟨s',H',hK,run v H' s' (fun tm ht=>by rw[nP ht,hg];exact hx) (evw v H' hv) hp⟩
   ·rename_i hx
    obtain⟨s',hK,hp⟩:=qI h
    exact⟨s',H,hK,skip s' (fun tm ht=>by rw[nP ht,hg];exact hx) hp⟩
   ·exact h.elim
  ·rename_i hg
   obtain⟨s',hK,hp⟩:=qI h
   exact⟨s',H,hK,skip s' (fun tm ht=>by rw[nP ht,hg]) hp⟩
theorem K5{E:Env}{nt dep:Nat}{draw:Bool}{ops:Array Oper}{K:fM→Heap→Prop} : ∀ {l:List Oper} {s:fM} {H:Heap},wpOps E nt dep draw ops l s H K →
 ∃s' H',K s' H' ∧∀tm,fb tm s →∃tm',fb tm' s' ∧∃n,∀m,n≤m→lL E (dC E (runA E m)) (eU E (runA E m) dep) nt dep draw ops l ⟨tm,H⟩=some ⟨tm',H'⟩:=by
 intro l
 induction l with
 | nil=>intro s H h;exact⟨s,H,h,fun tm ht=>⟨tm,ht,0,fun m _=>rfl⟩⟩
 | cons o l ih =>
  intro s H h
  obtain⟨s1,H1,h1,hn1⟩:=Oi h
  obtain⟨s2,H2,h2,hn2⟩:=ih h1
  refine⟨s2,H2,h2,fun tm ht=>?_⟩
  obtain⟨tm1,t1,n1,e1⟩:=hn1 tm ht
  obtain⟨tm2,t2,n2,e2⟩:=hn2 tm1 t1
  exact⟨tm2,t2,max n1 n2,fun m hm=>by simp only[lL,e1 m (by omega),e2 m (by omega)]⟩
theorem K4{P:Program}{fn:Func}{s:fM}{H:Heap}{Q:AV→Heap→Prop} : ∀ {rs:List ResultVar} {acc:List AV},DP P s H Q rs acc →
 ∃ys,Q (pack (acc.reverse++ys)) H ∧∀tm,fb tm s→rs.mapM (iV P ⟨tm,H⟩)=some ys:=by
 intro rs
 induction rs with
 | nil=>intro acc h;exact⟨[],by simpa [DP] using h,fun tm _=>rfl⟩
 | cons r rs ih =>
  intro acc h
  cases r with
  | tmp t =>
   obtain⟨ys,h1,h2⟩:=ih h
   refine⟨s t :: ys,by simpa using h1,fun tm ht=>?_⟩
   simp only[List.mapM_cons,iV,h2 tm ht,ht t,Option.pure_def,Option.bind_eq_bind,Option.bind_some]
  | cell a t =>
   obtain⟨v,hv,h⟩:=h.h
   obtain⟨ys,h1,h2⟩:=ih h
   refine⟨v :: ys,by simpa using h1,fun tm ht=>?_⟩
   have hr:iV P ⟨tm,H⟩ (.cell a t)=some v:=by
    unfold aE at hv
    simp only[iV,ht a]
    split at hv
    ·rename_i r i j g n h3 h4 h5
     rw[h3,h4,h5]
     dsimp only
     split at hv
     ·rename_i b hb
      rw[hb]
      dsimp only
      simp only[qVal,Option.map_eq_some_iff]at hv
      obtain⟨z,hz,e⟩:=hv
      cases e
      exact hz
     ·cases hv
    ·cases hv
   simp only[List.mapM_cons,hr,h2 tm ht,Option.pure_def,Option.bind_eq_bind,Option.bind_some]
theorem FP{E:Env}{fn:Func}{s:fM}{H:Heap}{Q:AV→Heap→Prop}(h:DP E.P s H Q fn.results.toList []) : ∃y,Q y H ∧∀tm,fb tm s→ry E.P fn ⟨tm,H⟩=some y:=by
 obtain⟨ys,h1,h2⟩:=K4 (fn:=fn) h
 refine⟨pack ys,by simpa using h1,fun tm ht=>?_⟩
 unfold ry
 rw[h2 tm ht]
 match ys with
 | []=>rfl
 | [x]=>rfl
 | x :: y :: zs=>rfl
theorem kI{E:Env}{fn:Func}{rd:Option Ref}{dep:Nat}{items items':List Item}{s:fM}{H:Heap}{Q:AV→Heap→Prop}
 (hs : ∀n tm,runA E (n+1) rd fn.ntmps dep items ⟨tm,H⟩=runA E n rd fn.ntmps dep items' ⟨tm,H⟩) (h:Goes E fn rd dep items' s H Q):Goes E fn rd dep items s H Q:=by
 intro tm ht
 obtain⟨y,H',hQ,n,hn⟩:=h tm ht
 refine⟨y,H',hQ,n+1,fun m hm=>?_⟩
 obtain⟨m,rfl⟩ : ∃m',m=m'+1:=⟨m - 1,by omega⟩
 rw[hs]
 exact hn m (by omega)
theorem Ke{E:Env}{fn:Func}{rd:Option Ref}{dep:Nat}{b:Code}{k:List Item}{s:fM}{H:Heap}{Q:AV→Heap→Prop}(h:Goes E fn rd dep (.code b :: .inLoop b :: k) s H Q):Goes E fn rd dep (.inLoop b :: k) s H Q :=
 kI (fun n tm=>by simp only[runA]) h
theorem HB{E:Env}{fn:Func}{rd:Option Ref}{dep:Nat}{b:Code}{k:List Item}{s:fM}{H:Heap}{Q:AV→Heap→Prop}(h:Goes E fn rd dep (.inLoop b :: k) s H Q):Goes E fn rd dep (.code (.loop b) :: k) s H Q:=by
 intro tm ht
 obtain⟨y,H',hQ,n,hn⟩:=h tm ht
 refine⟨y,H',hQ,n+1,fun m hm=>?_⟩
 obtain⟨m,rfl⟩ : ∃m',m=m'+1:=⟨m - 1,by omega⟩
 have:=hn (m+1) (by omega)
 have e:runA E (m+1) rd fn.ntmps dep (.code (.loop b) :: k) ⟨tm,H⟩=runA E (m+1) rd fn.ntmps dep (.inLoop b :: k) ⟨tm,H⟩:=by simp only[runA]
 rw[e]
 exact this
theorem Dh{E:Env}{fn:Func}{rd:Option Ref}{dep:Nat}{items:List Item}{s:fM}{l:List Nat}{H:Heap}{Q:AV→Heap→Prop}(h:GoX E fn rd dep items (AX s l) H Q):Goes E fn rd dep items s H Q:=by
 have:=h.h s
 rwa [Ml]at this
theorem BC{E:Env}{fn:Func}{rd:Option Ref}{dep code:Nat}{items:List Item}{s:fM}{H:Heap}{Q:AV→Heap→Prop}
 (hs : ∀n tm,rd.isSome=true∨code≤2→runA E (n+1) rd fn.ntmps dep items ⟨tm,H⟩=(match rd with | none=>some ⟨tm,H⟩ | some r=>sa (some r) ⟨tm,H⟩ code)) (h:HX E.P fn rd code s H Q):Goes E fn rd dep items s H Q:=by
 intro tm ht
 cases rd with
 | none =>
  unfold HX at h
  dsimp only at h
  cases hc:Nat.ble code 2 with
  | false=>rw[hc]at h;exact h.elim
  | true =>
   rw[hc]at h
   obtain⟨y,hQ,hr⟩:=FP h
   refine⟨y,H,hQ,1,fun m hm=>?_⟩
   obtain⟨m,rfl⟩ : ∃m',m=m'+1:=⟨m - 1,by omega⟩
   exact⟨⟨tm,H⟩,hs m tm (.inr (Nat.le_of_ble_eq_true hc)),hr tm ht,rfl⟩
 | some r =>
  refine⟨.v (.int .i64 code),H,h,1,fun m hm=>?_⟩
  obtain⟨m,rfl⟩ : ∃m',m=m'+1:=⟨m - 1,by omega⟩
  exact⟨⟨tm,H⟩,code,hs m tm (.inl rfl),rfl,rfl⟩
theorem KQ{E:Env}{ops:Array Oper}{s:fM}{H:Heap}{tm:List AV}(ht:fb tm s)(h:Oc E (nD E ops) ops s H):oE E ops ⟨tm,H⟩=true:=by
 unfold oE
 rw[Bool.or_eq_true,Bool.and_eq_true]
 refine .inr ⟨?_,?_⟩
 ·refine Eq.trans ?_ h.1
  congr 1
  funext p
  unfold CQ ND p9
  rw[ht,ht]
  rfl
 ·rw[Bool.and_eq_true]
  refine⟨Eq.trans ?_ h.2.1,Eq.trans ?_ h.2.2⟩
  ·congr 1
   funext o
   unfold qD zM
   generalize o.op=op
   cases op<;>try rfl
   rename_i t a x
   cases a<;>try rfl
   rename_i t'
   dsimp only
   rw[ht t']
   rfl
  ·congr 1
   funext o
   unfold DJ KF
   congr 1
   cases bsT o.op with
   | none=>rfl
   | some t =>
    dsimp only
    rw[ht t]
    rfl
theorem bn{E:Env}{fn:Func}{rd:Option Ref}{dep:Nat}{live:Nat→Option (List Nat)}{cut:Nat→Bool}{Q:AV→Heap→Prop} : ∀ {n:Nat} {items:List Item} {s:fM} {H:Heap},
 wp E fn rd dep live cut Q n items s H→Goes E fn rd dep items s H Q:=by
 intro n
 induction n with
 | zero=>intro items s H h;exact h
 | succ n ih =>
  intro items s H h
  have told : ∀ {k:List Item} {x:Option (List Nat)},(match x with | some l=>GoX E fn rd dep k (AX s l) H Q | none=>Goes E fn rd dep k s H Q)→Goes E fn rd dep k s H Q:=by
   intro k x h
   cases x with
   | some l=>exact Dh h
   | none=>exact h
  unfold wp at h
  split at h
  ·exact BC (fun n tm _=>by cases rd<;>simp only[runA]) h
  ·rename_i k
   split at h
   ·exact h.elim
   ·rename_i r
    obtain⟨info,hl,h⟩:=h.h
    intro tm ht
    obtain⟨y,H',hQ,n,hn⟩:=ih h tm ht
    refine⟨y,H',hQ,n+1,fun m hm=>?_⟩
    obtain⟨m,rfl⟩ : ∃m',m=m'+1:=⟨m - 1,by omega⟩
    have:=hn m (by omega)
    have e:runA E (m+1) (some r) fn.ntmps dep (.beginRound :: k) ⟨tm,H⟩=runA E m (some r) fn.ntmps dep k ⟨tm,H.put r (some (fa 1 info))⟩:=by simp only[runA,hl]
    rw[e]
    exact this
  ·rename_i c k
   split at h
   ·exact kI (fun n tm=>by simp only[runA]) (ih h)
   ·exact kI (fun n tm=>by simp only[runA]) (ih h)
   ·exact BC (fun n tm _=>by cases rd<;>simp[runA,sa]) h
   ·exact kI (fun n tm=>by simp only[runA]) (ih h)
   ·rename_i c a b
    replace h:=h.h
    unfold brP at h
    split at h
    ·rename_i bb hb
     have hg:Goes E fn rd dep (.code (cond bb a b) :: k) s H Q:=by cases bb<;>exact ih h
     intro tm ht
     obtain⟨y,H',hQ,n,hn⟩:=hg tm ht
     refine⟨y,H',hQ,n+1,fun m hm=>?_⟩
     obtain⟨m,rfl⟩ : ∃m',m=m'+1:=⟨m - 1,by omega⟩
     have:=hn m (by omega)
     have e:runA E (m+1) rd fn.ntmps dep (.code (.cond c a b) :: k) ⟨tm,H⟩=runA E m rd fn.ntmps dep (.code (cond bb a b) :: k) ⟨tm,H⟩:=by
      simp only[runA,rG ht,hb]
      cases bb<;>rfl
     rw[e]
     exact this
    ·exact h.elim
   ·exact kI (fun n tm=>by simp only[runA]) (ih h)
   ·exact kI (fun n tm=>by simp only[runA]) (ih h)
   ·exact HB (told h)
   ·rename_i id
    split at h
    ·rename_i k' hk
     exact kI (fun n tm=>by simp only[runA,hk]) (ih h)
    ·rename_i hk
     exact BC (fun n tm hc=>by
      simp only[runA,hk]
      cases rd with
      | none =>
       rcases hc with hc | hc
       ·cases hc
       ·omega
      | some r=>rfl) h
   ·exact told h
   ·rename_i id ops draw
    split at h
    ·split at h
     ·exact Dh h
     ·exact h.elim
    ·obtain⟨s',H',h1,hn1⟩:=K5 h
     have h2:Goes E fn rd dep k s' H' Q ∧∀tm,fb tm s'→(draw && !oE E ops ⟨tm,H'⟩)=false:=by
      cases draw with
      | false=>exact⟨ih h1,fun _ _=>rfl⟩
      | true =>
       cases hp:nD E ops with
       | nil =>
        rw[hp]at h1
        refine⟨ih h1,fun tm ht=>?_⟩
        unfold oE
        rw[hp]
        rfl
       | cons p ps =>
        rw[hp]at h1
        exact⟨ih h1.2,fun tm ht=>by rw[KQ ht (by rw[hp];exact h1.1)];rfl⟩
     obtain⟨hg,hap⟩:=h2
     intro tm ht
     obtain⟨tm1,t1,n1,e1⟩:=hn1 tm ht
     obtain⟨y,H2,hQ,n2,hn2⟩:=hg tm1 t1
     refine⟨y,H2,hQ,max n1 n2+1,fun m hm=>?_⟩
     obtain⟨m,rfl⟩ : ∃m',m=m'+1:=⟨m - 1,by omega⟩
     have:=hn2 m (by omega)
     have e:runA E (m+1) rd fn.ntmps dep (.code (.region id ops draw) :: k) ⟨tm,H⟩=runA E m rd fn.ntmps dep k ⟨tm1,H'⟩:=by
      simp only[runA,e1 m (by omega),hap tm1 t1]
      simp
     rw[e]
     exact this
   ·exact h.elim
  ·exact told h
  ·exact kI (fun n tm=>by simp only[runA]) (ih h)
  ·exact kI (fun n tm=>by simp only[runA]) (ih h)
  ·exact h.elim
def Fs:Nat→List AV→List (Nat × AV)
 | _,[]=>[]
 | i,x :: xs=>(i,x) :: Fs (i+1) xs
theorem Bh(args:List AV)(i:Nat):ofL (fun _=>AV.undef) (Fs 0 args) i=tget args i:=by
 have : ∀(j:Nat)(l:List AV),ofL (fun _=>AV.undef) (Fs j l) (j+i)=tget l i:=by
  induction i with
  | zero =>
   intro j l
   cases l with
   | nil=>rfl
   | cons x l =>
    show cond (Nat.beq (j+0) j) x _=x
    rw[show Nat.beq (j+0) j=true from by simp]
    rfl
  | succ i ih =>
   intro j l
   cases l with
   | nil=>rfl
   | cons x l =>
    show cond (Nat.beq (j+(i+1)) j) x (ofL (fun _=>AV.undef) (Fs (j+1) l) (j+(i+1)))=tget l i
    have e:Nat.beq (j+(i+1)) j=false:=by
     cases h:Nat.beq (j+(i+1)) j with
     | false=>rfl
     | true=>have:=Nat.eq_of_beq_eq_true h;omega
    rw[e]
    show ofL _ _ _=_
    rw[←ih (j+1) l,show j+1+i=j+(i+1) by omega]
 simpa using this 0 args
def ia(E:Env)(f:FuncId)(x:AV)(H:Heap)(y:AV):Prop :=
 if E.mode f=1 then (aG H.get depth x).Nodup∧dU H.get depth x=some y else view H.get depth x=some y
theorem aH{E:Env}{f:FuncId}{fn:Func}{c:Code}{args:List AV}{y:AV}(hsp:E.spec f args=none)(hal:E.allowed f=true)(hf:E.P.funcs[f]?=some fn)(hc:fn.body=some c)(hl:Nat.ble args.length fn.ntmps=true)
 (h:GoL E fn 0 [.code c] (Fs 0 args) [] fun x H=>ia E f x H y):limf E f args=some y:=by
 rw[vg]
 obtain⟨x,H,hQ,n,hn⟩:=h.h (fun _=>AV.undef) args fun i=>(Bh args i).symm
 refine⟨n,fun m hm=>?_⟩
 obtain⟨st,h1,h2,h3⟩:=hn m hm
 subst h3
 unfold dC
 rw[hsp]
 unfold qX
 simp only[hal,if_true,hf,hc,if_pos (Nat.le_of_ble_eq_true hl),h1,h2,Option.map_some]
 unfold ia at hQ
 split
 ·rename_i h1
  rw[if_pos h1]at hQ
  rw[if_pos hQ.1]
  exact hQ.2
 ·rename_i h1
  rw[if_neg h1]at hQ
  exact hQ
theorem rD{E:Env}{f:FuncId}{fn:Func}{c:Code}{dep:Nat}{args:List AV}{H:Heap}{Q:AV→Heap→Prop}(hm:E.mode f=2)(hal:E.allowed f=true)(hf:E.P.funcs[f]?=some fn)(hc:fn.body=some c)(hl:Nat.ble args.length fn.ntmps=true)
 (h:GoL E fn (dep+1) [.code c] (Fs 0 args) H Q) (hsp:E.thrSpec f args H=none:=by rfl) : ∃y H',limt E dep (.fn f) args H=some (y,H')∧Q y H':=by
 obtain⟨x,H1,hQ,n,hn⟩:=h.h (fun _=>AV.undef) args fun i=>(Bh args i).symm
 refine⟨x,H1,pA.2 ⟨n,fun m hm'=>?_⟩,hQ⟩
 obtain⟨st,h1,h2,h3⟩:=hn m hm'
 unfold eU
 dsimp only
 rw[hsp]
 dsimp only
 rw[if_pos hm]
 unfold qX
 simp only[hal,if_true,hf,hc,if_pos (Nat.le_of_ble_eq_true hl),h1,h2,Option.map_some,h3]
theorem Mx{E:Env}{fn:Func}{dep nt:Nat}{r:Ref}{f:FuncId}{ps:List Tmp}{assign body:Code}{tm:List AV}{args:List AV}{H:Heap}{Q:AV→Heap→Prop}
 (hl:lpAt H r=some (0,.lp f nt ps assign body tm)) (hn:fn.ntmps=nt) (hp:args.length=ps.length) (hps:ps.all (· < nt)=true) (ha:codeOk E.ok assign=true) (hb:codeOk E.ok body=true)
 (h:Goes E fn (some r) (dep+1) [.code assign,.beginRound,.code body] (tget (qF tm ps args)) H fun x H' =>∃code:Nat,x = .v (.int .i64 code) ∧∃info H2,lpAt H' r=some (1,info)∧H2=H'.put r (some (fa code info)) ∧
  lpAt H2 r=some (code,info)∧(code=0→Q (.v (.bool true)) H2)∧(2≤code→Q (.v (.bool false)) H2)∧code≠1) :
 ∃y H',limt E dep (.yld r) args H=some (y,H')∧Q y H':=by
 obtain⟨x,H1,⟨code,rfl,info,H2,h1,rfl,h2,hq0,hq2,hne⟩,n,hn'⟩:=h (qF tm ps args) (fun i=>rfl)
 have key : ∀m,n≤m→uV E (runA E m) (dep+1) r args H=some (.v (.bool (code == 0)),H1.put r (some (fa code info))):=by
  intro m hm
  obtain⟨st,k,e1,e2,e3⟩:=hn' m hm
  injection e2 with e2
  injection e2 with e2 e4
  have e4:code=k:=by exact_mod_cast e4
  subst e4
  subst hn
  unfold uV
  rw[hl]
  simp only
  rw[if_pos ⟨hp,hps,ha,hb⟩,e1]
  unfold sa
  simp only[e3,h1,h2]
  match code with
  | 0=>rfl
  | 1=>exact(hne rfl).elim
  | k+2=>rfl
 have key' : ∀m,n≤m→eU E (runA E m) dep (.yld r) args H=some (.v (.bool (code == 0)),H1.put r (some (fa code info))):=key
 refine⟨_,_,pA.2 ⟨n,key'⟩,?_⟩
 match code with
 | 0=>exact hq0 rfl
 | 1=>exact(hne rfl).elim
 | k+2=>exact hq2 (by omega)
theorem z7{E:Env}{fn:Func}{dep:Nat}{g:Operand}{ps:Array Tmp}{assign body:Code}{k:List Item}{s:fM}{H:Heap}{Q:AV→Heap→Prop}{gi:FuncId}{first captured:List AV}
 (hg:ek s g=some (.fn (.func gi) first captured))
 (h : ∀tm,fb tm s →∃v Hx st info,limt E dep (.fn gi) (first++[.yld ⟨dep,fn.ntmps,H.gen dep fn.ntmps,0⟩]++captured) ((⟨dep,fn.ntmps,H.gen dep fn.ntmps,0⟩,some (fa 0 (.lp 0 fn.ntmps ps.toList assign body tm))) :: H)=some (v,Hx) ∧
  lpAt Hx ⟨dep,fn.ntmps,H.gen dep fn.ntmps,0⟩=some (st,info) ∧
  (
   (st=0∧Goes E fn none dep k s (Hx.put ⟨dep,fn.ntmps,H.gen dep fn.ntmps,0⟩ none) Q) ∨
   (st=2∧DP E.P s (Hx.put ⟨dep,fn.ntmps,H.gen dep fn.ntmps,0⟩ none) Q fn.results.toList []) ∨
   (∃id k',st=id+3∧exitTo id k=some k'∧Goes E fn none dep k' s (Hx.put ⟨dep,fn.ntmps,H.gen dep fn.ntmps,0⟩ none) Q))) :
 Goes E fn none dep (.code (.rangeFunc g ps assign body) :: k) s H Q:=by
 intro tm ht
 obtain⟨v,Hx,st,info,h1,h2,h3⟩:=h tm ht
 obtain⟨n1,hn1⟩:=pA.1 h1
 have hg':bF tm g=some (.fn (.func gi) first captured):=by rw[rG ht];exact hg
 rcases h3 with ⟨rfl,hk⟩ | ⟨rfl,hk⟩ | ⟨id,k',rfl,he,hk⟩
 ·obtain⟨y,H',hQ,n2,hn2⟩:=hk tm ht
  refine⟨y,H',hQ,max n1 n2+1,fun m hm=>?_⟩
  obtain⟨m,rfl⟩ : ∃m',m=m'+1:=⟨m - 1,by omega⟩
  have e:runA E (m+1) none fn.ntmps dep (.code (.rangeFunc g ps assign body) :: k) ⟨tm,H⟩=runA E m none fn.ntmps dep k ⟨tm,Hx.put ⟨dep,fn.ntmps,H.gen dep fn.ntmps,0⟩ none⟩:=by
   simp only[runA,hg',hn1 m (by omega),h2]
  rw[e]
  exact hn2 m (by omega)
 ·obtain⟨y,hQ,hr⟩:=FP hk
  refine⟨y,_,hQ,n1+1,fun m hm=>?_⟩
  obtain⟨m,rfl⟩ : ∃m',m=m'+1:=⟨m - 1,by omega⟩
  have e:runA E (m+1) none fn.ntmps dep (.code (.rangeFunc g ps assign body) :: k) ⟨tm,H⟩=some ⟨tm,Hx.put ⟨dep,fn.ntmps,H.gen dep fn.ntmps,0⟩ none⟩:=by
   simp only[runA,hg',hn1 m (by omega),h2]
  rw[e]
  exact⟨_,rfl,hr tm ht,rfl⟩
 ·obtain⟨y,H',hQ,n2,hn2⟩:=hk tm ht
  refine⟨y,H',hQ,max n1 n2+1,fun m hm=>?_⟩
  obtain⟨m,rfl⟩ : ∃m',m=m'+1:=⟨m - 1,by omega⟩
  have e:runA E (m+1) none fn.ntmps dep (.code (.rangeFunc g ps assign body) :: k) ⟨tm,H⟩=runA E m none fn.ntmps dep k' ⟨tm,Hx.put ⟨dep,fn.ntmps,H.gen dep fn.ntmps,0⟩ none⟩:=by
   simp only[runA,hg',hn1 m (by omega),h2,he]
  rw[e]
  exact hn2 m (by omega)
theorem My{E:Env}{f:FuncId}{args:List AV}{y:AV}(h:limf E f args=some y) : ∃n,dC E (runA E n) f args=some y:=by
 obtain⟨n,hn⟩:=vg.1 h
 exact⟨n,hn n (Nat.le_refl _)⟩
def cb(r:Nat):Nat→List Item→Option (List Item)
 | 0,_=>none
 | n+1,items =>
  match items with
  | .code c :: k=>(match c with
   | .seq a b=>cb r n (.code a :: .code b :: k)
   | .cond _ a b=>(match cb r n (.code a :: k) with
    | some l=>some l
    | none=>cb r n (.code b :: k))
   | .block id b=>cb r n (.code b :: .inBlock id :: k)
   | .scope b=>cb r n (.code b :: .inScope b :: k)
   | .loop b=>(match iG b with
    | some i=>cond (Nat.beq i r) (some (.inLoop b :: k)) (cb r n (.code b :: .inLoop b :: k))
    | none=>none)
   | .exit id=>(match exitTo id k with
    | some k'=>cb r n k'
    | none=>none)
   | .skip | .label _ | .region _ _ _=>cb r n k
   | _=>none)
  | .inBlock _ :: k | .inScope _ :: k=>cb r n k
  | _=>none
def iO(r:Nat):Nat→List Item→Option (List Item)
 | 0,_=>none
 | n+1,items =>
  match items with
  | .code c :: k=>(match c with
   | .seq a b=>iO r n (.code a :: .code b :: k)
   | .cond _ a b=>(match iO r n (.code a :: k) with
    | some l=>some l
    | none=>iO r n (.code b :: k))
   | .block id b=>iO r n (.code b :: .inBlock id :: k)
   | .scope b=>iO r n (.code b :: .inScope b :: k)
   | .loop b=>iO r n (.code b :: .inLoop b :: k)
   | .exit id=>(match exitTo id k with
    | some k'=>iO r n k'
    | none=>none)
   | .rangeFunc _ _ a b=>cond (Nat.beq (SI a b) r) (some items) (iO r n k)
   | .skip | .label _ | .region _ _ _=>iO r n k
   | _=>none)
  | .inBlock _ :: k | .inScope _ :: k=>iO r n k
  | _=>none
def rfA:List Item→Code
 | .code (.rangeFunc _ _ a _) :: _=>a
 | _ => .skip
def rfB:List Item→Code
 | .code (.rangeFunc _ _ _ b) :: _=>b
 | _ => .skip
def rfK:List Item→List Item
 | _ :: k=>k
 | []=>[]
def N9:List Item→List Item
 | .inLoop b :: k => .code b :: .inLoop b :: k
 | l=>l
theorem cV{E:Env}{fn:Func}{rd:Option Ref}{dep:Nat}{items:List Item}{l:List (Nat × AV)}{H:Heap}{Q:AV→Heap→Prop}(h : ∀g,Goes E fn rd dep (N9 items) (ofL g l) H Q):GoX E fn rd dep items l H Q:=by
 refine⟨fun g=>?_⟩
 have:=h g
 unfold N9 at this
 split at this
 ·exact Ke this
 ·exact this
def oi(x:AV):Option (Option Int):=match rS x with
 | some n=>some (some n)
 | none=>none
end Go.Ab
namespace Go.Ab
def PcLe(pc pc':FuncId→List AV→Option AV):Prop :=∀f xs y,pc f xs=some y→pc' f xs=some y
def TcLe(tc tc':Tgt→List AV→Heap→WRes):Prop :=∀f xs H y,tc f xs H=some y→tc' f xs H=some y
theorem He{E:Env}{pc pc':FuncId→List AV→Option AV}(hp:PcLe pc pc'){g:Get}{r:Ref}{f:Option AV}{args:List AV}{z:AV × List Blk}(h:kj E pc g r f args=some z):kj E pc' g r f args=some z:=by
 unfold kj at h ⊢
 split at h
 ·split at h
  ·cases h
  ·rename_i hm
   rw[if_neg hm]
   split at h
   ·rename_i xs hx
    split at h
    ·rename_i y hy
     rw[hp _ _ _ hy]
     exact h
    ·cases h
   ·cases h
 ·cases h
theorem L0{E:Env}{pc pc':FuncId→List AV→Option AV}{tc tc':Tgt→List AV→Heap→WRes}(hp:PcLe pc pc')(ht:TcLe tc tc'){H:Heap}{r:Ref}{f:Option AV}{args:List AV} :
 (kj E pc H.get r f args=none →∀z,mc E pc tc H r f args=some z→mc E pc' tc' H r f args=some z∧kj E pc' H.get r f args=none):=by
 intro h0 z h
 unfold kj at h0 ⊢
 unfold mc at h ⊢
 split at h
 ·rename_i fi first captured
  dsimp only at h0 ⊢
  split at h
  ·rename_i hm
   rw[if_pos hm,if_pos hm]
   exact⟨ht _ _ _ _ h,rfl⟩
  ·rename_i hm
   rw[if_neg hm]at h0
   rw[if_neg hm,if_neg hm]
   split at h
   ·rename_i xs hx
    try rw[hx]at h0
    dsimp only at h0 ⊢
    simp only[Option.map_eq_some_iff]at h
    obtain⟨y,hy,h⟩:=h
    rw[hy]at h0
    rw[hp _ _ _ hy]
    exact⟨by rw[Option.map_some,h],h0⟩
   ·cases h
 ·exact⟨ht _ _ _ _ h,rfl⟩
 ·cases h
theorem HF{E:Env}{pc pc':FuncId→List AV→Option AV}{tc tc':Tgt→List AV→Heap→WRes}(hp:PcLe pc pc')(ht:TcLe tc tc'){dep:Nat}{draw:Bool}{tm:List AV}{H:Heap}{o:Oper}{z:AV × Heap}
 (h:o7 E pc tc dep draw tm H o=some z):o7 E pc' tc' dep draw tm H o=some z:=by
 by_cases hc : ∃c f args,o.op = .call c∧c.args.toList.mapM (bF tm)=some args∧c.callee = .value f
 ·obtain⟨c,f,args,ho,ha,hf⟩:=hc
  unfold o7 dY evalW at h ⊢
  simp only[ho,ha,hf]at h ⊢
  cases hov:CU E.over draw f with
  | some t =>
   rw[hov]at h
   dsimp only at h ⊢
   cases hO:Ep E.P H.get t args with
   | some p=>rw[hO]at h;exact h
   | none =>
    rw[hO]at h
    dsimp only at h ⊢
    split at h
    ·cases h
    ·rename_i hd
     rw[if_neg hd]
     have hfd : ∃g,f = .func g:=by unfold CU at hov;split at hov<;>simp_all
     obtain⟨g,rfl⟩:=hfd
     simp only[bF,mc]at h ⊢
     by_cases hm:E.mode g=2
     ·rw[if_pos hm]at h ⊢
      cases hw:tc (.fn g) ([]++args++[]) H with
      | none=>rw[hw]at h;unfold qn at h;split at h<;>(try split at h)<;>simp_all
      | some z'=>rw[hw]at h;rw[ht _ _ _ _ hw];exact h
     ·rw[if_neg hm]at h ⊢
      cases hx:([]++args++[]:List AV).mapM (view H.get depth) with
      | none=>rw[hx]at h;exact h
      | some xs =>
       rw[hx]at h
       dsimp only at h ⊢
       cases hy:pc g xs with
       | none=>rw[hy]at h;unfold qn at h;split at h<;>(try split at h)<;>simp_all
       | some y=>rw[hy]at h;rw[hp _ _ _ hy];exact h
  | none =>
  rw[hov]at h
  dsimp only at h ⊢
  cases hq:kj E pc H.get ⟨dep,o.dst.getD 0,H.gen dep (o.dst.getD 0),0⟩ (bF tm f) args with
  | some p =>
   rw[hq]at h
   rw[He hp hq]
   exact h
  | none =>
   rw[hq]at h
   simp only[Option.map_none]at h
   split at h
   ·cases h
   ·rename_i hd
    cases hw:mc E pc tc H ⟨dep,o.dst.getD 0,H.gen dep (o.dst.getD 0),0⟩ (bF tm f) args with
    | none =>
     rw[hw]at h
     unfold qn at h
     split at h
     ·rename_i e;cases e
     ·cases h
    | some z' =>
     obtain⟨h1,h2⟩:=L0 hp ht hq _ hw
     rw[h2,h1]
     rw[hw]at h
     simp only[Option.map_none,if_neg hd]
     exact h
 ·have:o7 E pc tc dep draw tm H o=o7 E pc' tc' dep draw tm H o:=by
   have hq:dY E pc draw H.get tm ⟨dep,o.dst.getD 0,H.gen dep (o.dst.getD 0),0⟩ o=dY E pc' draw H.get tm ⟨dep,o.dst.getD 0,H.gen dep (o.dst.getD 0),0⟩ o:=by
    cases ho:o.op<;>simp only[dY,ho]
    case makeMap a b=>cases b<;>rfl
    rename_i c
    cases ha:c.args.toList.mapM (bF tm) with
    | none=>rfl
    | some args =>
     cases hf:c.callee with
     | value f=>exact(hc ⟨c,f,args,ho,ha,hf⟩).elim
     | invoke _ _=>rfl
     | builtin b=>rfl
   have hw:evalW E pc tc H tm ⟨dep,o.dst.getD 0,H.gen dep (o.dst.getD 0),0⟩ o=evalW E pc' tc' H tm ⟨dep,o.dst.getD 0,H.gen dep (o.dst.getD 0),0⟩ o:=by
    cases ho:o.op<;>simp only[evalW,ho]
    rename_i c
    cases ha:c.args.toList.mapM (bF tm) with
    | none=>rfl
    | some args =>
     cases hf:c.callee with
     | value f=>exact(hc ⟨c,f,args,ho,ha,hf⟩).elim
     | invoke _ _=>rfl
     | builtin b=>rfl
   unfold o7
   rw[hq,hw]
  rw[←this]
  exact h
theorem El{E:Env}{pc pc':FuncId→List AV→Option AV}{tc tc':Tgt→List AV→Heap→WRes}(hp:PcLe pc pc')(ht:TcLe tc tc'){nt dep:Nat}{draw:Bool}{ops:Array Oper} : ∀ {l:List Oper} {st st':St},
 lL E pc tc nt dep draw ops l st=some st'→lL E pc' tc' nt dep draw ops l st=some st':=by
 intro l
 induction l with
 | nil=>intro st st' h;exact h
 | cons o l ih =>
  intro st st' h
  unfold lL at h ⊢
  cases ho:evalOp E pc tc nt dep draw ops o st with
  | none=>rw[ho]at h;cases h
  | some st1 =>
   rw[ho]at h
   have:evalOp E pc' tc' nt dep draw ops o st=some st1:=by
    rw[BG]at ho ⊢
    cases hw:wanted ops st.tm o with
    | none=>rw[hw]at ho;cases ho
    | some b =>
     rw[hw]at ho
     cases b with
     | false=>exact ho
     | true =>
      dsimp only at ho ⊢
      cases hc:o7 E pc tc dep draw st.tm st.hp o with
      | none=>rw[hc]at ho;cases ho
      | some z=>rw[hc]at ho;rw[HF hp ht hc];exact ho
   rw[this]
   exact ih h
theorem yj{E:Env}{run run':Option Ref→Nat→Nat→List Item→St→Option St}(hr : ∀rd nt dep items st st',run rd nt dep items st=some st'→run' rd nt dep items st=some st'){dep:Nat}{f:FuncId}{args:List AV}{H:Heap}{z:AV × Heap}
 (h:qX E run dep f args H=some z):qX E run' dep f args H=some z:=by
 unfold qX at h ⊢
 split at h
 ·rename_i ha
  rw[if_pos ha]
  cases hf:E.P.funcs[f]? with
  | none=>rw[hf]at h;cases h
  | some fn =>
   rw[hf]at h
   dsimp only at h ⊢
   cases hb:fn.body with
   | none=>rw[hb]at h;cases h
   | some c =>
    rw[hb]at h
    dsimp only at h ⊢
    split at h
    ·rename_i hl
     rw[if_pos hl]
     cases hx:run none fn.ntmps dep [.code c] ⟨args,H⟩ with
     | none=>rw[hx]at h;cases h
     | some st=>rw[hx]at h;rw[hr _ _ _ _ _ _ hx];exact h
    ·cases h
 ·cases h
theorem tJ{E:Env}{run run':Option Ref→Nat→Nat→List Item→St→Option St}(hr : ∀rd nt dep items st st',run rd nt dep items st=some st'→run' rd nt dep items st=some st'):PcLe (dC E run) (dC E run'):=by
 intro f xs y h
 unfold dC at h ⊢
 cases hs:E.spec f xs with
 | some s=>rw[hs]at h;exact h
 | none =>
  rw[hs]at h
  dsimp only at h ⊢
  cases hc:qX E run 0 f xs [] with
  | none=>rw[hc]at h;cases h
  | some z=>rw[hc]at h;rw[yj hr hc];exact h
theorem vu{E:Env}{run run':Option Ref→Nat→Nat→List Item→St→Option St}(hr : ∀rd nt dep items st st',run rd nt dep items st=some st'→run' rd nt dep items st=some st')(dep:Nat):TcLe (eU E run dep) (eU E run' dep):=by
 intro f xs H y h
 unfold eU at h ⊢
 cases f with
 | fn f =>
  dsimp only at h ⊢
  cases hs:E.thrSpec f xs H with
  | some s=>rw[hs]at h;exact h
  | none =>
  rw[hs]at h
  dsimp only at h ⊢
  split at h
  ·rename_i hm;rw[if_pos hm];exact yj hr h
  ·cases h
 | yld r =>
  dsimp only at h ⊢
  unfold uV at h ⊢
  split at h
  ·rename_i f nt ps assign body tm hl
   split at h
   ·rename_i hc
    rw[if_pos hc]
    cases hx:run (some r) nt (dep+1) [.code assign,.beginRound,.code body] ⟨qF tm ps xs,H⟩ with
    | none=>rw[hx]at h;cases h
    | some st=>rw[hx]at h;rw[hr _ _ _ _ _ _ hx];exact h
   ·cases h
  ·cases h
theorem I4{E:Env} : ∀(n:Nat)(rd:Option Ref)(nt dep:Nat)(items:List Item)(st st':St),runA E n rd nt dep items st=some st'→runA E (n+1) rd nt dep items st=some st':=by
 intro n
 induction n with
 | zero=>intro rd nt dep items st st' h;simp[runA]at h
 | succ n ih =>
  intro rd nt dep items st st' h
  unfold runA at h ⊢
  split at h
  ·exact h
  ·split at h
   ·exact h
   ·rename_i r
    split at h
    ·exact ih _ _ _ _ _ _ h
    ·cases h
  ·split at h
   all_goals try exact h
   all_goals try exact ih _ _ _ _ _ _ h
   ·rename_i c a b
    split at h
    ·exact ih _ _ _ _ _ _ h
    ·exact ih _ _ _ _ _ _ h
    ·cases h
   ·split at h
    ·exact ih _ _ _ _ _ _ h
    ·exact h
   ·rename_i ops draw
    cases hx:lL E (dC E (runA E n)) (eU E (runA E n) dep) nt dep draw ops ops.toList st with
    | none=>rw[hx]at h;cases h
    | some st1 =>
     rw[hx]at h
     rw[El (tJ ih) (vu ih dep) hx]
     dsimp only at h ⊢
     split at h
     ·cases h
     ·rename_i hd
      rw[if_neg hd]
      exact ih _ _ _ _ _ _ h
   ·split at h
    ·split at h
     ·rename_i x H' hx
      rw[vu ih dep _ _ _ _ hx]
      dsimp only
      split at h
      ·exact ih _ _ _ _ _ _ h
      ·exact h
      ·split at h
       ·exact ih _ _ _ _ _ _ h
       ·cases h
      ·cases h
     ·cases h
    ·cases h
  all_goals try exact ih _ _ _ _ _ _ h
  all_goals cases h
theorem Pc{E:Env}{n m:Nat}(hm:n≤m){rd:Option Ref}{nt dep:Nat}{items:List Item}{st st':St}(h:runA E n rd nt dep items st=some st'):runA E m rd nt dep items st=some st':=by
 induction hm with
 | refl=>exact h
 | step _ ih=>exact I4 _ _ _ _ _ _ _ ih
theorem EH{E:Env}{n:Nat}{f:FuncId}{args:List AV}{y:AV}(h:dC E (runA E n) f args=some y):limf E f args=some y :=
 vg.2 ⟨n,fun _ hm=>tJ (fun _ _ _ _ _ _ h=>Pc hm h) _ _ _ h⟩
end Go.Ab
namespace Go.Ab
abbrev aI(n:Int):AV := .v (.int .i64 n)
abbrev aB(b:Bool):AV := .v (.bool b)
def a8(n:UInt8):AV := .v (.int .u8 (n.toNat:Int))
def a32(n:UInt32):AV := .v (.int .u32 (n.toNat:Int))
abbrev aS(s:ByteArray):AV := .v (.string s)
abbrev aNil:AV := .v (.slice none 0 0)
theorem T3{q:QRes}{K:AV→Prop}{m:Mk K}{v:AV}(hq:q=some (v,[]))(h:K v):doQ q K m:=⟨v,hq,h⟩
theorem Ds{w:WRes}{K:AV→Heap→Prop}{m:Mk K}{v:AV}{H:Heap}(hw:w=some (v,H))(h:K v H):doW w K m:=⟨v,H,hw,h⟩
@[simp] theorem VO(v:AV)(K:AV→Prop)(m:Mk K):doQ (some (v,[])) K m↔K v :=
 ⟨fun⟨⟨w,hw,h⟩⟩=>by cases hw;exact h,fun h=>⟨v,rfl,h⟩⟩
@[simp] theorem X4(c:Prop)[Decidable c](q:QRes)(K:AV→Prop)(m:Mk K):doQ (if c then q else none) K m↔c∧doQ q K m:=by
 by_cases hc:c
 ·simp[hc]
 ·simp only[if_neg hc,hc,false_and,iff_false]
  rintro⟨v,hv,_⟩;cases hv
@[simp] theorem VN(v:AV)(H:Heap)(K:AV→Heap→Prop)(m:Mk K):doW (some (v,H)) K m↔K v H :=
 ⟨fun⟨⟨w,_,hw,h⟩⟩=>by cases hw;exact h,fun h=>⟨v,H,rfl,h⟩⟩
@[simp] theorem X3(c:Prop)[Decidable c](q:WRes)(K:AV→Heap→Prop)(m:Mk K):doW (if c then q else none) K m↔c∧doW q K m:=by
 by_cases hc:c
 ·simp[hc]
 ·simp only[if_neg hc,hc,false_and,iff_false]
  rintro⟨v,_,hv,_⟩;cases hv
theorem KG{x:Option AV}{A B:Prop}{m:Mk (A,B)}:br x A B m↔brP x A B:=⟨fun h=>h.h,fun h=>⟨h⟩⟩
@[simp] theorem XK(A B:Prop)(m:Mk (A,B)):br (some (aB true)) A B m↔A:=KG
@[simp] theorem VV(A B:Prop)(m:Mk (A,B)):br (some (aB false)) A B m↔B:=KG
theorem td{b:Bool}{A B:Prop}{m:Mk (A,B)}(h1:b=true→A)(h2:b=false→B):br (some (aB b)) A B m:=by
 cases b
 ·exact⟨h2 rfl⟩
 ·exact⟨h1 rfl⟩
@[simp] theorem Xm(q:QRes)(K:AV→Prop)(m:Mk (q,K)):gQ (aB true) true q K m↔doQ q K:=⟨fun h=>h.h,fun h=>⟨h⟩⟩
@[simp] theorem Xp(q:QRes)(K:AV→Prop)(m:Mk (q,K)):gQ (aB false) false q K m↔doQ q K:=⟨fun h=>h.h,fun h=>⟨h⟩⟩
@[simp] theorem Xn(q:QRes)(K:AV→Prop)(m:Mk (q,K)):gQ (aB true) false q K m↔K AV.undef:=⟨fun h=>h.h,fun h=>⟨h⟩⟩
@[simp] theorem Xo(q:QRes)(K:AV→Prop)(m:Mk (q,K)):gQ (aB false) true q K m↔K AV.undef:=⟨fun h=>h.h,fun h=>⟨h⟩⟩
@[simp] theorem gQ_u(w:Bool)(q:QRes)(K:AV→Prop)(m:Mk (q,K)):gQ AV.undef w q K m↔K AV.undef:=⟨fun h=>h.h,fun h=>⟨h⟩⟩
@[simp] theorem Xi(H:Heap)(q:WRes)(K:AV→Heap→Prop)(m:Mk (q,K)):gW (aB true) true H q K m↔doW q K:=⟨fun h=>h.h,fun h=>⟨h⟩⟩
@[simp] theorem Xl(H:Heap)(q:WRes)(K:AV→Heap→Prop)(m:Mk (q,K)):gW (aB false) false H q K m↔doW q K:=⟨fun h=>h.h,fun h=>⟨h⟩⟩
@[simp] theorem Xj(H:Heap)(q:WRes)(K:AV→Heap→Prop)(m:Mk (q,K)):gW (aB true) false H q K m↔K AV.undef H:=⟨fun h=>h.h,fun h=>⟨h⟩⟩
@[simp] theorem Xk(H:Heap)(q:WRes)(K:AV→Heap→Prop)(m:Mk (q,K)):gW (aB false) true H q K m↔K AV.undef H:=⟨fun h=>h.h,fun h=>⟨h⟩⟩
@[simp] theorem SS(v:AV):qVal (some v)=some (v,[]):=id rfl
@[simp] theorem To(H:Heap)(r:Ref)(v:AV)(bs:List Blk):nRes H r (some (v,bs))=some (v,keyed r 0 bs H):=id rfl
@[simp] theorem xC(H:Heap)(r:Ref):nRes H r none=none:=id rfl
@[simp] theorem Rq(r:Ref)(k:Nat)(H:Heap):keyed r k [] H=H:=id rfl
@[simp] theorem Rr(r:Ref)(k:Nat)(b:Blk)(bs:List Blk)(H:Heap):keyed r k (b :: bs) H=keyed r (k+1) bs (({ r with k:=k},some b) :: H):=id rfl
@[simp] theorem Vp(wk:Bool)(x:AV × Heap)(b:WRes):orW wk (some x) b=some x:=id rfl
@[simp] theorem Bd(b:WRes):orW true none b=b:=id rfl
@[simp] theorem Rn(a b:Option AV):bB (some (aB true)) a b=qVal a:=id rfl
@[simp] theorem Pu(a b:Option AV):bB (some (aB false)) a b=qVal b:=id rfl
@[simp] theorem XW(k:IntKind)(n:Int):oi (.v (.int k n))=some (some n):=id rfl
@[simp] theorem T7(cs:List AV):(AV.agg cs).cells=cs:=id rfl
@[simp] theorem XD(x:Value):(AV.v x).cells=[.v x]:=id rfl
@[simp] theorem XE(x:UInt8):(a8 x).cells=[a8 x]:=id rfl
@[simp] theorem VS(x:UInt32):(a32 x).cells=[a32 x]:=id rfl
@[simp] theorem T6(z:Nat)(es:List AV)(c:Option Nat):(AV.isl z es c).cells=[.isl z es c]:=id rfl
@[simp] theorem T5(r:Ref)(o n:Nat)(c:Option Nat):(AV.osl r o n c).cells=[.osl r o n c]:=id rfl
@[simp] theorem VQ(f:Fn)(a b:List AV):(AV.fn f a b).cells=[.fn f a b]:=id rfl
@[simp] theorem W6(k:IntKind)(n:Int):(AV.v (.int k n)).one=true:=id rfl
@[simp] theorem Vq(b:Bool):(AV.v (.bool b)).one=true:=id rfl
@[simp] theorem W4:aNil.one=true:=id rfl
@[simp] theorem Yb(x:UInt8):(a8 x).one=true:=id rfl
@[simp] theorem XV(x:UInt32):(a32 x).one=true:=id rfl
@[simp] theorem W5(z:Nat)(es:List AV)(c:Option Nat):(AV.isl z es c).one=true:=id rfl
@[simp] theorem W0(r:Ref)(o n:Nat)(c:Option Nat):(AV.osl r o n c).one=true:=id rfl
section
variable(P:Program)(t:TypeId)(xo yo:Operand)(k:IntKind)(a b:Int)
@[simp] theorem L8:qBin P .lss t xo yo (some (.v (.int k a))) (some (.v (.int k b)))=some (aB (decide (a<b)),[]):=by cases k<;>rfl
@[simp] theorem Vl:qBin P .leq t xo yo (some (.v (.int k a))) (some (.v (.int k b)))=some (aB (decide (a≤b)),[]):=by cases k<;>rfl
@[simp] theorem L9:qBin P .gtr t xo yo (some (.v (.int k a))) (some (.v (.int k b)))=some (aB (decide (b<a)),[]):=by cases k<;>rfl
@[simp] theorem Ma:qBin P .geq t xo yo (some (.v (.int k a))) (some (.v (.int k b)))=some (aB (decide (b≤a)),[]):=by cases k<;>rfl
@[simp] theorem Mc:qBin P .eql t xo yo (some (.v (.int k a))) (some (.v (.int k b)))=some (aB (decide (a=b)),[]):=by
 have:(a == b)=decide (a=b):=by by_cases h:a=b<;>simp[h]
 rw[←this];cases k<;>rfl
@[simp] theorem Vj:qBin P .neq t xo yo (some (.v (.int k a))) (some (.v (.int k b)))=some (aB (!decide (a=b)),[]):=by
 have:(a != b) = !decide (a=b):=by by_cases h:a=b<;>simp[h]
 rw[←this];cases k<;>rfl
@[simp] theorem Vm:qBin P .add t xo yo (some (.v (.int k a))) (some (.v (.int k b)))=some (.v (.int k (k.wrap (a+b))),[]):=by cases k<;>rfl
@[simp] theorem Vi:qBin P .sub t xo yo (some (.v (.int k a))) (some (.v (.int k b)))=some (.v (.int k (k.wrap (a - b))),[]):=by cases k<;>rfl
@[simp] theorem Vk:qBin P .mul t xo yo (some (.v (.int k a))) (some (.v (.int k b)))=some (.v (.int k (k.wrap (a * b))),[]):=by cases k<;>rfl
theorem L5(hb:b≠0):qBin P .quo t xo yo (some (.v (.int k a))) (some (.v (.int k b)))=some (.v (.int k (k.wrap (a.tdiv b))),[]):=by
 have h:Op.intDiv .quo k a b=pure (.int k (k.wrap (a.tdiv b))):=by unfold Op.intDiv;rw[if_neg hb]
 have h2:tK P .quo t xo yo (.int k a) (.int k b)=some (.int k (k.wrap (a.tdiv b))):=by
  have:tK P .quo t xo yo (.int k a) (.int k b)=bW P (Op.intDiv .quo k a b):=by cases k<;>rfl
  rw[this,h];rfl
 simp only[qBin,isSl,iD,iB,h2,Bool.false_and,Bool.or_self,Bool.false_eq_true,if_false,Option.bind_some,fP,scalar,if_true,qVal,Option.map_some]
theorem wO(hb:b≠0):qBin P .rem t xo yo (some (.v (.int k a))) (some (.v (.int k b)))=some (.v (.int k (a.tmod b)),[]):=by
 have h:Op.intDiv .rem k a b=pure (.int k (a.tmod b)):=by unfold Op.intDiv;rw[if_neg hb]
 have h2:tK P .rem t xo yo (.int k a) (.int k b)=some (.int k (a.tmod b)):=by
  have:tK P .rem t xo yo (.int k a) (.int k b)=bW P (Op.intDiv .rem k a b):=by cases k<;>rfl
  rw[this,h];rfl
 simp only[qBin,isSl,iD,iB,h2,Bool.false_and,Bool.or_self,Bool.false_eq_true,if_false,Option.bind_some,fP,scalar,if_true,qVal,Option.map_some]
theorem rA{yk:IntKind}(hb:0≤b):qBin P .shl t xo yo (some (.v (.int k a))) (some (.v (.int yk b)))=some (.v (.int k (k.wrap (a * 2 ^ min b.toNat k.bits))),[]):=by
 have h:Op.shift .shl k a yk b=pure (.int k (k.wrap (a * 2 ^ min b.toNat k.bits))):=by unfold Op.shift;rw[if_neg (by omega)]
 have h2:tK P .shl t xo yo (.int k a) (.int yk b)=some (.int k (k.wrap (a * 2 ^ min b.toNat k.bits))):=by
  have:tK P .shl t xo yo (.int k a) (.int yk b)=bW P (Op.shift .shl k a yk b):=rfl
  rw[this,h];rfl
 simp only[qBin,isSl,iD,iB,h2,Bool.false_and,Bool.or_self,Bool.false_eq_true,if_false,Option.bind_some,fP,scalar,if_true,qVal,Option.map_some]
theorem cS{yk:IntKind}(hb:0≤b):qBin P .shr t xo yo (some (.v (.int k a))) (some (.v (.int yk b)))=some (.v (.int k (a.fdiv (2 ^ min b.toNat k.bits))),[]):=by
 have h:Op.shift .shr k a yk b=pure (.int k (a.fdiv (2 ^ min b.toNat k.bits))):=by unfold Op.shift;rw[if_neg (by omega)]
 have h2:tK P .shr t xo yo (.int k a) (.int yk b)=some (.int k (a.fdiv (2 ^ min b.toNat k.bits))):=by
  have:tK P .shr t xo yo (.int k a) (.int yk b)=bW P (Op.shift .shr k a yk b):=rfl
  rw[this,h];rfl
 simp only[qBin,isSl,iD,iB,h2,Bool.false_and,Bool.or_self,Bool.false_eq_true,if_false,Option.bind_some,fP,scalar,if_true,qVal,Option.map_some]
@[simp] theorem WT(b:Bool):qUn P .not (some (aB b))=some (aB (!b),[]):=id rfl
def u8(n:Int):UInt8:=UInt8.ofBitVec (BitVec.ofInt 8 n)
def u32(n:Int):UInt32:=UInt32.ofBitVec (BitVec.ofInt 32 n)
@[simp] theorem V0(n:Int):IntKind.u8.wrap n=((u8 n).toNat:Int):=by
 unfold u8;rw[IntKind.wrap_u8,UInt8.toNat_ofBitVec,BitVec.toNat_ofInt];omega
@[simp] theorem Ar(n:Int):IntKind.u32.wrap n=((u32 n).toNat:Int):=by
 unfold u32;rw[IntKind.wrap_u32,UInt32.toNat_ofBitVec,BitVec.toNat_ofInt];omega
theorem of32(x:UInt32):BitVec.ofInt 32 (x.toNat:Int)=x.toBitVec:=by
 apply BitVec.eq_of_toNat_eq;rw[BitVec.toNat_ofInt];have:=x.toNat_lt;simp;omega
theorem qC(n:Int):(u8 n).toNat=(n % 256).toNat:=by
 unfold u8;rw[UInt8.toNat_ofBitVec,BitVec.toNat_ofInt];rfl
theorem oP(n:Int):(u32 n).toNat=(n % 4294967296).toNat:=by
 unfold u32;rw[UInt32.toNat_ofBitVec,BitVec.toNat_ofInt];rfl
@[simp] theorem Ou(x:UInt32):u32 (x.toNat:Int)=x:=by apply UInt32.toNat_inj.1;rw[oP];have:=x.toNat_lt;omega
@[simp] theorem Lf(x:UInt8):u32 (x.toNat:Int)=x.toUInt32:=by apply UInt32.toNat_inj.1;rw[oP,UInt8.toNat_toUInt32];have:=x.toNat_lt;omega
@[simp] theorem Us(x:UInt32):u8 (x.toNat:Int)=x.toUInt8:=by apply UInt8.toNat_inj.1;rw[qC,UInt32.toNat_toUInt8];omega
@[simp] theorem XR(n:Nat):u8 (no_index (OfNat.ofNat n))=OfNat.ofNat n:=by
 apply UInt8.toNat_inj.1
 rw[qC,show(OfNat.ofNat n:UInt8)=UInt8.ofNat n from rfl,UInt8.toNat_ofNat',show(OfNat.ofNat n:Int)=(n:Int) from rfl]
 omega
@[simp] theorem Xf(x:UInt8):IntKind.i64.wrap (x.toNat:Int)=x.toNat:=by have:=x.toNat_lt;exact IntWalk.i64_in _ (by omega)
@[simp] theorem TD(x:UInt32):IntKind.i64.wrap (x.toNat:Int)=x.toNat:=by have:=x.toNat_lt;exact IntWalk.i64_in _ (by omega)
theorem Uc(v:BitVec 32):IntKind.u32.wrap (v.toNat:Int)=((UInt32.ofBitVec v).toNat:Int):=by
 rw[Ar];unfold u32;congr 3;apply BitVec.eq_of_toNat_eq;rw[BitVec.toNat_ofInt];have:=v.isLt;omega
theorem Ua(op:BinOp)(f:BitVec 32→BitVec 32→BitVec 32)(g:UInt32→UInt32→UInt32)(hg : ∀x y,g x y=UInt32.ofBitVec (f x.toBitVec y.toBitVec))(hop : ∀x y:Int,qBin P op t xo yo (some (.v (.int .u32 x))) (some (.v (.int .u32 y)))=some (.v (.int .u32 (IntKind.u32.wrap ((f (BitVec.ofInt 32 x) (BitVec.ofInt 32 y)).toNat:Int))),[])) :
 qBin P op t xo yo (some (.v (.int .u32 a))) (some (.v (.int .u32 b)))=some (a32 (g (u32 a) (u32 b)),[]):=by
 rw[hop,Uc,hg];rfl
section
variable(x y:UInt8)
@[simp] theorem S0:qBin P .lss t xo yo (some (a8 x)) (some (a8 y))=some (aB (decide (x<y)),[]):=by
 unfold a8;rw[L8];congr 4;rw[UInt8.lt_iff_toNat_lt];all_goals exact propext (by omega)
@[simp] theorem S1:qBin P .gtr t xo yo (some (a8 x)) (some (a8 y))=some (aB (decide (y<x)),[]):=by
 unfold a8;rw[L9];congr 4;rw[UInt8.lt_iff_toNat_lt];all_goals exact propext (by omega)
@[simp] theorem S2:qBin P .geq t xo yo (some (a8 x)) (some (a8 y))=some (aB (decide (y≤x)),[]):=by
 unfold a8;rw[Ma];congr 4;rw[UInt8.le_iff_toNat_le];all_goals exact propext (by omega)
@[simp] theorem S3:qBin P .eql t xo yo (some (a8 x)) (some (a8 y))=some (aB (decide (x=y)),[]):=by
 unfold a8;rw[Mc];congr 4;rw[←UInt8.toNat_inj];all_goals exact propext (by omega)
end
section
variable(x y:UInt32)
@[simp] theorem SZ:qBin P .or t xo yo (some (a32 x)) (some (a32 y))=some (a32 (x ||| y),[]):=by
 unfold a32;rw[Ua P t xo yo _ _ .or (· ||| ·) (· ||| ·) (fun _ _=>rfl) (fun _ _=>rfl)];simp only[Ou];rfl
end
@[simp] theorem Ri{yk:IntKind}(x:UInt32)(hb:0≤b∧b<32):qBin P .shl t xo yo (some (a32 x)) (some (.v (.int yk b)))=some (a32 (x <<< UInt32.ofNat b.toNat),[]):=by
 unfold a32
 rw[rA P t xo yo .u32 _ b hb.1,Ar]
 congr 5
 have hm:min b.toNat IntKind.u32.bits=b.toNat:=by show min b.toNat 32=_;omega
 have hx:=x.toNat_lt
 rw[hm,oP,UInt32.toNat_shiftLeft,UInt32.toNat_ofNat',Nat.shiftLeft_eq]
 have h1:b.toNat % 2 ^ 32 % 32=b.toNat:=by omega
 rw[h1]
 have:((x.toNat:Int) * 2 ^ b.toNat)=((x.toNat * 2 ^ b.toNat:Nat):Int):=by push_cast;rfl
 rw[this]
 omega
theorem jU{P:Program}{t:TypeId}{d:TypeDesc}(h:P.underlying t=some d):bW P (Go.underlying t)=some d:=by
 unfold Go.underlying
 rw[ca]
 show(some P).bind _=_
 rw[Option.bind_some,h]
 rfl
def intKind(P:Program)(t:TypeId):Option IntKind:=match P.underlying t with | some (.int k)=>some k | _=>none
theorem vF{P:Program}{t:TypeId}{k:IntKind}(h:intKind P t=some k):P.underlying t=some (.int k):=by
 unfold intKind at h
 split at h
 ·cases h;assumption
 ·cases h
theorem lN{g:Get}{r:Ref}{src dst:TypeId}{k':IntKind}(hs:(P.underlying src).isNone=false)(hd:intKind P dst=some k)(n:Int) :
 aW P g r src dst (some (.v (.int k' n)))=some (.v (.int k (k.wrap n)),[]):=by
 have hd:=vF hd
 obtain⟨d,hs⟩ : ∃d,P.underlying src=some d:=by cases h:P.underlying src with | none=>rw[h]at hs;cases hs | some d=>exact⟨d,rfl⟩
 have:bW P (Go.convert src dst (.int k' n))=some (.int k (k.wrap n)):=by
  unfold Go.convert
  rw[ca,jU hs,Option.bind_some,ca,jU hd,Option.bind_some]
  cases d<;>rfl
 simp only[aW,this,Option.bind_some,fP,scalar,if_true,qVal,Option.map_some]
@[simp] theorem Rg{g:Get}{r:Ref}{src dst:TypeId}(hs:(P.underlying src).isNone=false)(hd:intKind P dst=some .u32)(x:UInt8) :
 aW P g r src dst (some (a8 x))=some (a32 x.toUInt32,[]):=by
 unfold a8 a32;rw[lN P .u32 hs hd,Ar,Lf]
@[simp] theorem SY{g:Get}{r:Ref}{src dst:TypeId}(hs:(P.underlying src).isNone=false)(hd:intKind P dst=some .i64)(x:UInt8) :
 aW P g r src dst (some (a8 x))=some (aI x.toNat,[]):=by
 unfold a8;rw[lN P .i64 hs hd,Xf]
@[simp] theorem Rh{g:Get}{r:Ref}{src dst:TypeId}(hs:(P.underlying src).isNone=false)(hd:intKind P dst=some .i64)(x:UInt32) :
 aW P g r src dst (some (a32 x))=some (aI x.toNat,[]):=by
 unfold a32;rw[lN P .i64 hs hd,TD]
@[simp] theorem SX{g:Get}{r:Ref}{src dst:TypeId}{k':IntKind}(hs:(P.underlying src).isNone=false)(hd:intKind P dst=some .u8)(n:Int) :
 aW P g r src dst (some (.v (.int k' n)))=some (a8 (u8 n),[]):=by
 unfold a8;rw[lN P .u8 hs hd,V0]
@[simp] theorem Rf{g:Get}{r:Ref}{src dst:TypeId}{k':IntKind}(hs:(P.underlying src).isNone=false)(hd:intKind P dst=some .u32)(n:Int) :
 aW P g r src dst (some (.v (.int k' n)))=some (a32 (u32 n),[]):=by
 unfold a32;rw[lN P .u32 hs hd,Ar]
@[simp] theorem SW{g:Get}{r:Ref}{src dst:TypeId}{k':IntKind}(hs:(P.underlying src).isNone=false)(hd:intKind P dst=some .i64)(n:Int) :
 aW P g r src dst (some (.v (.int k' n)))=some (aI (IntKind.i64.wrap n),[]):=lN P .i64 hs hd n
end
def by8(l:List UInt8):List AV:=l.map a8
@[simp] theorem nB(l:List UInt8):(by8 l).length=l.length:=by simp[by8]
@[simp] theorem XG:by8 []=[]:=id rfl
theorem LY(P:Program)(d:Bool)(g:Get)(r:Ref)(t:TypeId)(ts:List TypeId)(x:AV)(hx : ∀r',x ≠ .mp r'):aw P d g r .len ⟨t :: ts⟩ [x]=qLen P (some t) x:=by
 unfold aw
 cases x<;>first | rfl | (rename_i q;exact(hx q rfl).elim)
@[simp] theorem WU(P:Program)(d:Bool)(g:Get)(r:Ref)(t:TypeId)(ts:List TypeId)(x:AV)(hx:(sW x).isSome=true):aw P d g r .len ⟨t :: ts⟩ [x]=qLen P (some t) x:=by
 refine LY P d g r t ts x fun r' e=>?_
 subst e;cases hx
@[simp] theorem Tr:sW aNil=some 0:=id rfl
@[simp] theorem Ts(n:Nat)(es:List AV)(c:Option Nat):sW (.isl n es c)=some es.length:=id rfl
@[simp] theorem Tq(r:Ref)(o n:Nat)(c:Option Nat):sW (.osl r o n c)=some n:=id rfl
@[simp] theorem Rb{P:Program}{t:TypeId}(ha:tarr P t=none)(hs:isStr P t=false)(he:(eA P t).isSome=true)(x:AV):qLen P (some t) x=(sW x).map fun n=>(aI n,[]):=by
 simp only[qLen,ha,hs,he];rfl
theorem Gn{P:Program}{t:TypeId}{z:Nat}(h:(eA P t).bind (bm P)=some z) : ∃e,eA P t=some e∧bm P e=some z:=by
 simpa [Option.bind_eq_some_iff] using h
@[simp] theorem yZ{P:Program}{t:TypeId}{z:Nat}(h:(eA P t).bind (bm P)=some z)(g:Get)(es:List AV)(c:Option Nat)(kd:IntKind)(k:Int) :
 ax P g t (some (.isl z es c)) (some (.v (.int kd k)))=if 0≤k∧k<es.length then some (.iptr z es k.toNat 0,[]) else none:=by
 obtain⟨e,he,hz⟩:=Gn h
 simp only[ax,Option.bind_some,rS,he,hz,and_true]
@[simp] theorem KZ{P:Program}{t:TypeId}(h:eA P t=none)(hz:((tarr P t).bind fun p=>bm P p.2).isSome=true)(g:Get)(r:Ref)(i j:Nat)(kd:IntKind)(k:Int) :
 ax P g t (some (.ptr r i j)) (some (.v (.int kd k)))=if 0≤k∧k<((tarr P t).getD (0,0)).1 then some (.ptr r i (j+k.toNat * (bm P ((tarr P t).getD (0,0)).2).getD 0),[]) else none:=by
 obtain⟨z,hz⟩:=Option.isSome_iff_exists.1 hz
 simp only[Option.bind_eq_some_iff]at hz
 obtain⟨⟨n,e⟩,ha,hz⟩:=hz
 simp only[ax,Option.bind_some,rS,h,ha,hz,Option.getD_some]
@[simp] theorem Ra{P:Program}{t:TypeId}(ha:(tagg P t).isSome=true)(hn:(bm P t).isSome=true)(g:Get)(z:Nat)(es:List AV)(i j:Nat) :
 ak P g t (some (.iptr z es i j))=qVal (ee es i j ((bm P t).getD 0) ((tagg P t).getD false)):=by
 obtain⟨a,ha⟩:=Option.isSome_iff_exists.1 ha
 obtain⟨n,hn⟩:=Option.isSome_iff_exists.1 hn
 simp only[ak,ha,hn,Option.getD_some]
def PF(x:Option Blk)(i j n:Nat)(ag:Bool):QRes:=match x with
 | some b=>qVal (ee b.es i j n ag)
 | none=>none
@[simp] theorem Ro(b:Blk)(i j n:Nat)(ag:Bool):PF (some b) i j n ag=qVal (ee b.es i j n ag):=id rfl
@[simp] theorem SV{P:Program}{t:TypeId}(ha:(tagg P t).isSome=true)(hn:(bm P t).isSome=true)(g:Get)(r:Ref)(i j:Nat) :
 ak P g t (some (.ptr r i j))=PF (g r) i j ((bm P t).getD 0) ((tagg P t).getD false):=by
 obtain⟨a,ha⟩:=Option.isSome_iff_exists.1 ha
 obtain⟨n,hn⟩:=Option.isSome_iff_exists.1 hn
 simp only[ak,ha,hn,Option.getD_some]
 rfl
@[simp] theorem Ji(e:AV)(es:List AV)(j n:Nat):ee (e :: es) 0 j n true=if j+n≤e.cells.length∧0<n then some (.agg ((e.cells.drop j).take n)) else none:=id rfl
@[simp] theorem Jh(e:AV)(es:List AV)(j n:Nat):ee (e :: es) 0 j n false=e.cells[j]?:=id rfl
@[simp] theorem Q8(l:List UInt8)(i n:Nat):ee (by8 l) i 0 n false=(l[i]?).map a8:=by
 unfold ee by8
 rw[List.getElem?_map]
 cases l[i]?<;>rfl
def Sl(z:Nat)(es:List AV)(x:AV):Prop:=(x=aNil∧es=[]) ∨∃c,x = .isl z es c∧es.length≤c.getD es.length
theorem Sl.mk(z:Nat)(es:List AV):Sl z es (.isl z es none) := .inr ⟨none,rfl,Nat.le_refl _⟩
theorem Sl.len{z:Nat}{es:List AV}{x:AV}(h:Sl z es x):sW x=some es.length:=by
 rcases h with ⟨rfl,rfl⟩ | ⟨c,rfl,_⟩<;>rfl
theorem Sl.isl{z:Nat}{es:List AV}{x:AV}(h:Sl z es x){i:Nat}(hi:i<es.length) : ∃c,x = .isl z es c∧es.length≤c.getD es.length:=by
 rcases h with ⟨rfl,rfl⟩ | h
 ·simp at hi
 ·exact h
theorem Sl.view{z:Nat}{es:List AV}{x:AV}(h:Sl z es x)(g:Get)(n:Nat):view g (n+1) x=some x:=by
 rcases h with ⟨rfl,rfl⟩ | ⟨c,rfl,_⟩<;>rfl
theorem Sl.refs{z:Nat}{es:List AV}{x:AV}(h:Sl z es x)(g:Get)(n:Nat):aG g n x=[]:=by
 rcases h with ⟨rfl,rfl⟩ | ⟨c,rfl,_⟩<;>cases n<;>rfl
theorem Sl.cells{z:Nat}{es:List AV}{x:AV}(h:Sl z es x):x.cells=[x]∧x.one=true:=by
 rcases h with ⟨rfl,_⟩ | ⟨c,rfl,_⟩<;>exact⟨rfl,rfl⟩
@[simp] theorem XO(g:Get)(n:Nat)(x:Value):view g (n+1) (.v x)=some (.v x):=id rfl
@[simp] theorem XP(g:Get)(n:Nat)(x:UInt8):view g (n+1) (a8 x)=some (a8 x):=id rfl
@[simp] theorem V4(g:Get)(n:Nat)(x:UInt32):view g (n+1) (a32 x)=some (a32 x):=id rfl
@[simp] theorem Un(g:Get)(n z:Nat)(es:List AV)(c:Option Nat):view g (n+1) (.isl z es c)=some (.isl z es c):=id rfl
@[simp] theorem Uo(g:Get)(n:Nat)(cs:List AV):view g (n+1) (.agg cs)=(cs.mapM (view g n)).map .agg:=id rfl
@[simp] theorem Um(g:Get)(n:Nat)(cs:List AV):view g (n+1) (.tup cs)=(cs.mapM (view g n)).map .tup:=id rfl
@[simp] theorem RV(g:Get)(n z:Nat)(es:List AV)(i j:Nat):view g (n+1) (.iptr z es i j)=some (.iptr z es i j):=id rfl
theorem At{g:Get}{r:Ref}{b:Blk}(hr:g r=some b)(n o l:Nat)(c:Option Nat):view g (n+1) (.osl r o l c)=if b.arr=true∧o+l≤b.es.length then some (.isl b.esz ((b.es.drop o).take l) c) else none:=by
 simp only[view,hr]
theorem ct:depth=8:=Nat.le_antisymm (Nat.le_refl 8) (Nat.le_refl 8)
end Go.Ab
namespace Go.Ab
@[simp] theorem Heap.gV(r q:Ref)(b:Option Blk)(H:Heap):Heap.get ((r,b) :: H) q=if r=q then b else Heap.get H q:=id rfl
attribute [simp] Heap.aj
@[simp] theorem WV(P:Program)(r:Ref)(e:TypeId)(x:AV)(h0:0<(bm P e).getD 0):qBox P r e (some x)=if some x.cells.length=bm P e∧x.cells.all AV.one=true then some (.ptr r 0 0,[⟨(bm P e).getD 0,[x],false,false⟩]) else none:=by
 unfold qBox
 cases h:bm P e with
 | none=>simp
 | some n=>rw[h]at h0;simp only[Option.getD_some]at h0;simp[h0]
def Fr(H:Heap):Prop :=∀d t g k,H.gen d t≤g→H.get ⟨d,t,g,k⟩=none
theorem Fr.nil:Fr []:=fun _ _ _ _ _=>rfl
theorem Fr.keyed{H:Heap}(h:Fr H)(bs:List Blk)(d t:Nat):Fr (Ab.keyed ⟨d,t,H.gen d t,0⟩ 0 bs H):=by
 intro d' t' g k hg
 rw[Heap.ji]at hg
 rw[Heap.Di]
 by_cases hb:bs=[]
 ·subst hb
  rw[if_neg (by simp)]at hg
  simp[h _ _ _ _ hg]
 ·by_cases hd:d'=d∧t'=t
  ·obtain⟨rfl,rfl⟩:=hd
   rw[if_pos ⟨rfl,rfl,hb⟩]at hg
   dsimp only at hg ⊢
   rw[if_neg (by intro hh;have:=hh.2.2.1;omega)]
   exact h _ _ _ _ (by omega)
  ·rw[if_neg (by intro hh;exact hd ⟨hh.1,hh.2.1⟩)]at hg
   dsimp only at hg ⊢
   rw[if_neg (by intro hh;exact hd ⟨hh.1,hh.2.1⟩)]
   exact h _ _ _ _ hg
theorem Fr.put{H:Heap}(h:Fr H){r:Ref}(b:Option Blk)(hr:(H.get r).isSome=true):Fr (H.put r b):=by
 intro d t g k hg
 rw[Heap.iF H r b hr]at hg
 rw[Heap.aj]
 split
 ·rename_i e
  subst e
  rw[h _ _ _ _ hg]at hr
  cases hr
 ·exact h _ _ _ _ hg
theorem Fr.cons{H:Heap}(h:Fr H)(d t:Nat)(b:Option Blk):Fr ((⟨d,t,H.gen d t,0⟩,b) :: H):=by
 intro d' t' g k hg
 simp only[Heap.gen]at hg
 rw[Heap.gV]
 split at hg
 ·rename_i e
  obtain⟨rfl,rfl⟩:=e
  rw[if_neg (by intro e;injection e;omega)]
  exact h _ _ _ _ (by omega)
 ·rename_i e
  rw[if_neg (by intro e';injection e' with e1 e2;exact e ⟨e1,e2⟩)]
  exact h _ _ _ _ hg
theorem mo{H:Heap}(hF:Fr H){q:Ref}(h:(H.get q).isSome=true)(d t k:Nat):(⟨d,t,H.gen d t,k⟩:Ref)≠q:=by
 intro e;subst e;rw[hF _ _ _ _ (Nat.le_refl _)]at h;cases h
def elT(P:Program)(t z by':Nat):Bool:=match eA P t with
 | some e=>bm P e == some z&&kr P e == some by'&&(match fF P e with | some zz=>zz.cells.length == z&&zz.cells.all AV.one | none=>false)&&z != 0&&by' != 0
 | none=>false
def apT(P:Program)(t:TypeId):Bool:=(P.underlying t).isSome && !isInt P t
theorem gl{P:Program}{t z by':Nat}(h:elT P t z by'=true) : ∃e zz,eA P t=some e∧bm P e=some z∧kr P e=some by'∧fF P e=some zz∧zz.cells.length=z∧zz.cells.all AV.one=true∧z≠0∧by'≠0:=by
 unfold elT at h
 split at h
 ·rename_i e he
  simp only[Bool.and_eq_true,beq_iff_eq,bne_iff_ne]at h
  obtain⟨⟨⟨⟨h1,h2⟩,h3⟩,h4⟩,h5⟩:=h
  split at h3
  ·rename_i zz hz
   simp only[Bool.and_eq_true,beq_iff_eq]at h3
   exact⟨e,zz,he,h1,h2,hz,h3.1,h3.2,h4,h5⟩
  ·cases h3
 ·cases h
def Els(g:Get)(z:Nat)(new:List AV)(x:AV):Prop:=(x=aNil∧new=[])∨(isNum x=false∧x≠aNil∧dq g x=some (z,new))
theorem Els.mI{P:Program}{t z by':Nat}(h:elT P t z by'=true){e:TypeId}(he:eA P t=some e){g:Get}{new:List AV}{x:AV}(hx:Els g z new x):mI P g e x=some (z,new):=by
 obtain⟨e',zz,h1,h2,h3,h4,h5,h6,h7,h8⟩:=gl h
 rw[he]at h1;cases h1
 rcases hx with ⟨rfl,rfl⟩ | ⟨hn,hne,hx⟩
 ·simp only[Ab.mI,h2,Option.map_some]
 ·unfold Ab.mI
  split
  ·exact(hne rfl).elim
  ·simp[isNum]at hn
  ·exact hx
theorem Els.num{g:Get}{z:Nat}{new:List AV}{x:AV}(hx:Els g z new x):isNum x=false:=by
 rcases hx with ⟨rfl,_⟩ | ⟨hn,_⟩
 ·rfl
 ·exact hn
theorem Sl.els{z:Nat}{es:List AV}{x:AV}(h:Sl z es x)(g:Get):Els g z es x:=by
 rcases h with ⟨rfl,rfl⟩ | ⟨c,rfl,_⟩
 ·exact .inl ⟨rfl,rfl⟩
 ·exact .inr ⟨rfl,(by intro e;cases e),rfl⟩
def Own(z:Nat)(es:List AV)(H:Heap)(x:AV):Prop:=(x=aNil∧es=[]) ∨∃r,x = .osl r 0 es.length none∧H.get r=some ⟨z,es,true,false⟩
theorem Ba(z:Nat)(H:Heap):Own z [] H aNil := .inl ⟨rfl,rfl⟩
theorem Own.len{z:Nat}{es:List AV}{H:Heap}{x:AV}(h:Own z es H x):sW x=some es.length:=by
 rcases h with ⟨rfl,rfl⟩ | ⟨r,rfl,_⟩<;>rfl
theorem Own.view{z:Nat}{es:List AV}{H:Heap}{x:AV}(h:Own z es H x)(n:Nat) : ∃y,view H.get (n+1) x=some y∧Sl z es y:=by
 rcases h with ⟨rfl,rfl⟩ | ⟨r,rfl,hr⟩
 ·exact⟨aNil,rfl,.inl ⟨rfl,rfl⟩⟩
 ·refine⟨.isl z es none,?_,Sl.mk z es⟩
  rw[At hr]
  simp
theorem Own.els{z:Nat}{es:List AV}{H:Heap}{x:AV}(h:Own z es H x):Els H.get z es x:=by
 rcases h with ⟨rfl,rfl⟩ | ⟨r,rfl,hr⟩
 ·exact .inl ⟨rfl,rfl⟩
 ·refine .inr ⟨rfl,(by intro e;cases e),?_⟩
  simp[dq,hr]
def AV.at?:AV→Option Ref
 | .osl r _ _ _=>some r
 | .ptr r _ _=>some r
 | _=>none
theorem QU{P:Program}{t t' z by':Nat}(hT:elT P t z by'=true)(hA:apT P t'=true){H:Heap}{r:Ref}{es new:List AV}{s x:AV}(hs:Own z es H s)(hx:Els H.get z new x)
 (hb:(es.length+new.length) * by'≤cN) (hF:Fr H) (hr : ∃d t,r=⟨d,t,H.gen d t,0⟩) :
 ∃s' H',cE P true H r (some t) (some t') s x=some (s',H')∧Own z (es++new) H' s'∧Fr H' ∧∀q b,H.get q=some b→s.at?≠some q→H'.get q=some b∧s'.at?≠some q:=by
 obtain⟨e,zz,h1,h2,h3,h4,h5,h6,h7,h8⟩:=gl hT
 have hnew:=hx.mI hT h1
 unfold apT at hA
 simp only[Bool.and_eq_true,Bool.not_eq_true']at hA
 have hun:(P.underlying t').isNone=false:=by cases h:P.underlying t' with | none=>rw[h]at hA;simp at hA | some d=>rfl
 have hc : ¬((P.underlying t').isNone=true∨isInt P t'≠isNum x):=by
  rw[hun,hA.2,hx.num];simp
 have hd : ¬(z≠z∨z=0∨by'=0∨zz.cells.length≠z):=by simp[h5,h7,h8]
 obtain⟨dd,tt,rfl⟩:=hr
 rcases hs with ⟨rfl,rfl⟩ | ⟨q,rfl,hq⟩
 ·
  by_cases hn:new=[]
  ·subst hn
   refine⟨aNil,H,?_,Ba z H,hF,fun q b hq _=>⟨hq,by simp[AV.at?]⟩⟩
   simp only[cE,eV,Option.bind_some,h1,Option.map_some,Option.getD_some,if_neg hc,h2,h3,h4,hnew,if_neg hd,if_true]
   rfl
  ·refine⟨.osl ⟨dd,tt,H.gen dd tt,0⟩ 0 new.length none,(⟨dd,tt,H.gen dd tt,0⟩,some ⟨z,new,true,false⟩) :: H,?_,.inr ⟨⟨dd,tt,H.gen dd tt,0⟩,by simp,by simp⟩,hF.cons dd tt _,fun q b hq _=>?_⟩
   ·simp only[List.length_nil,Nat.zero_add]at hb
    simp only[cE,eV,Option.bind_some,h1,Option.map_some,Option.getD_some,if_neg hc,h2,h3,h4,hnew,if_neg hd,if_neg hn,if_pos hb]
    rfl
   ·have hne:=mo hF (q:=q) (by rw[hq];rfl) dd tt 0
    rw[Heap.gV,if_neg hne]
    exact⟨hq,by intro e;simp only[AV.at?,Option.some.injEq]at e;exact hne e⟩
 ·by_cases hn:new=[]
  ·subst hn
   refine⟨.osl q 0 es.length none,H,?_,.inr ⟨q,by simp,by simpa using hq⟩,hF,fun q b hq hne=>⟨hq,hne⟩⟩
   simp only[cE,eV,Option.bind_some,h1,Option.map_some,Option.getD_some,if_neg hc,h2,h3,h4,hnew,if_neg hd,hq,if_true]
   simp
  ·have hd' : ¬(z≠z∨z=0∨by'=0∨new=[]∨zz.cells.length≠z):=by simp[h5,h7,h8,hn]
   have hqs:(H.get q).isSome=true:=by rw[hq];rfl
   have hgen:H.gen q.d q.t=(H.put q none).gen q.d q.t:=(Heap.iF H q none hqs _ _).symm
   refine⟨.osl ⟨q.d,q.t,H.gen q.d q.t,0⟩ 0 (es.length+new.length) none,(⟨q.d,q.t,H.gen q.d q.t,0⟩,some ⟨z,es++new,true,false⟩) :: H.put q none,?_,.inr ⟨⟨q.d,q.t,H.gen q.d q.t,0⟩,by simp,by simp⟩,?_,fun q' b hq' hne=>?_⟩
   ·have hqa:eV P H.get ⟨dd,tt,H.gen dd tt,0⟩ (some t) (some t') (.osl q 0 es.length none) x=none:=by
     simp only[eV,Option.bind_some,h1,Option.map_some,Option.getD_some,if_neg hc,h2,h3,h4,hnew,if_neg hd,hq,if_neg hn]
     simp
    simp only[cE,hqa,xC,Bd]
    simp only[je,Option.bind_some,h1,Option.map_some,Option.getD_some,if_neg hc,h2,h3,h4,hnew,if_neg hd',hq,hb,and_self,if_true,true_and]
   ·rw[hgen]
    exact(hF.put none hqs).cons _ _ _
   ·have hx:q'≠q:=by intro e;subst e;exact hne rfl
    have hnew':=mo hF (q:=q') (by rw[hq'];rfl) q.d q.t 0
    rw[Heap.gV,if_neg hnew',Heap.aj,if_neg hx]
    exact⟨hq',by intro e;simp only[AV.at?,Option.some.injEq]at e;exact hnew' e⟩
theorem Own.osl{z:Nat}{es:List AV}{H:Heap}{x:AV}(h:Own z es H x)(hn:es≠[]) : ∃r,x = .osl r 0 es.length none∧H.get r=some ⟨z,es,true,false⟩:=by
 rcases h with ⟨_,rfl⟩ | h
 ·exact(hn rfl).elim
 ·exact h
end Go.Ab
