/-
  What is to be shown for a run of the abstract machine, as one proposition that is computed from the code. No statement of a seat is proved here.
  More fuel gives the same answer. No statement of a seat is proved here.
  What the abstract machine's operations yield on data: the rules for the conditions. No statement of a seat is proved here.
  Own memory in the conditions: appends, stores, loads, what is seen of it. No statement of a seat is proved here.
-/
import Derived.Test.YtmkmimgokagimaaGreatAbsEnv
import Derived.IntWalk
set_option linter.unusedVariables false
set_option linter.unusedSimpArgs false
namespace Go.Ab
abbrev fq:=Nat→AV
def dC(s:fq):Operand→Option AV
 | .tmp t=>some (s t)
 | .const v=>ofValue v
 | .func f=>some (.fn (.func f) [] [])
 | .global _=>none
def B3(ev:Operand→Option AV):List Operand→Option (List AV)
 | []=>some []
 | o :: os=>match ev o,B3 ev os with
  | some x,some xs=>some (x :: xs)
  | _,_=>none
def A4(ev:Operand→Option AV):List (Nat × Operand)→Option (List (Nat × AV))
 | []=>some []
 | (i,o) :: os=>match ev o,A4 ev os with
  | some x,some xs=>some ((i,x) :: xs)
  | _,_=>none
def optF(ev:Operand→Option AV):Option Operand→Option (Option Int)
 | none=>some none
 | some o=>match (ev o).bind uR with
  | some n=>some (some n)
  | none=>none
def fset(s:fq)(d:Nat)(v:AV):fq:=fun i=>cond (Nat.beq i d) v (s i)
def ek(tm:List AV)(s:fq):Prop :=∀i,tget tm i=s i
theorem sC{tm:List AV}{s:fq}(h:ek tm s):bc tm=dC s:=by
 funext o;cases o<;>simp[bc,dC,h _]
theorem B2(ev:Operand→Option AV)(l:List Operand):l.mapM ev=B3 ev l:=by
 induction l with
 | nil=>rfl
 | cons o l ih =>
  simp only[List.mapM_cons,ih,B3,Option.pure_def,Option.bind_eq_bind]
  cases ev o<;>cases B3 ev l<;>rfl
theorem C2{tm:List AV}{s:fq}(h:ek tm s)(l:List (Nat × Operand)):fN tm l=A4 (dC s) l:=by
 induction l with
 | nil=>rfl
 | cons o l ih =>
  obtain⟨i,o⟩:=o
  unfold fN at ih ⊢
  rw[List.mapM_cons,ih]
  simp only[A4,Option.pure_def,Option.bind_eq_bind,sC h]
  cases dC s o<;>cases A4 (dC s) l<;>rfl
theorem El{tm:List AV}{s:fq}(h:ek tm s)(o:Option Operand):kP tm o=optF (dC s) o:=by
 cases o with
 | none=>rfl
 | some o=>simp only[kP,optF,sC h];rfl
theorem ek.set{tm:List AV}{s:fq}(h:ek tm s)(d:Nat)(v:AV):ek (tset tm d v) (fset s d v):=by
 intro i
 rw[po]
 unfold fset
 split
 ·rename_i e;subst e;simp
 ·rename_i e;rw[show Nat.beq i d=false from by cases hb:Nat.beq i d with | false=>rfl | true=>exact(e (Nat.eq_of_beq_eq_true hb)).elim];exact h i
def ba(c a b:Option AV):QRes :=
 match c.bind Bf with
 | some true=>qVal a
 | some false=>qVal b
 | none=>none
def nRes(H:Heap)(r:Ref)(q:QRes):WRes :=
 match q with
 | some (v,bs)=>some (v,keyed r 0 bs H)
 | none=>none
def orW(wk:Bool)(a b:WRes):WRes :=
 match a with
 | some x=>some x
 | none=>cond wk b none
def aF(E:Env)(wk:Bool)(pc:FuncId→List AV→Option AV)(tc:Tgt→List AV→Heap→WRes)(H:Heap)(r:Ref)(f:Option AV)(args:List AV):WRes :=
 orW wk (nRes H r (jY E pc H.get r f args)) (m4 E pc tc H r f args)
def kA(E:Env)(wk:Bool)(pc:FuncId→List AV→Option AV)(tc:Tgt→List AV→Heap→WRes)(H:Heap)(r:Ref)(f:Option AV)(args:List AV):WRes :=
 orW wk (nRes H r ((jY E pc H.get r f args).map fun p=>(p.1,frzB true p.2))) (pa true E.sm H (m4 E pc tc H r f args))
def dq(P:Program)(wk:Bool)(H:Heap)(r:Ref)(t t':Option TypeId)(s x:AV):WRes :=
 orW wk (nRes H r (gS P H.get r t t' s x)) (kC P H t t' s x)
def iI(P:Program)(draw wk:Bool)(H:Heap)(r:Ref)(t:TypeId)(n:Nat)(vs:Option (List (Nat × AV))):WRes :=
 orW wk (nRes H r (eZ P draw H.get r t n vs)) (gB P H r t n vs)
def vR(E:Env)(pc:FuncId→List AV→Option AV)(tc:Tgt→List AV→Heap→WRes)(dep:Nat)(draw wk:Bool)(s:fq)(H:Heap)(r:Ref)(o:Oper):QRes ⊕ WRes :=
 match o.op with
 | .move x | .assign x => .inl (qVal (dC s x))
 | .pick c a b => .inl (ba (dC s c) (dC s a) (dC s b))
 | .alloc e => .inr (nRes H r (bJ E.P r e))
 | .box e x => .inr (nRes H r (qBox E.P r e (dC s x)))
 | .build t ps => .inl (ff E.P t (A4 (dC s) ps.toList))
 | .buildSlice t n ps => .inr (iI E.P (draw && !E.strict o) wk H r t n (A4 (dC s) ps.toList))
 | .load t a => .inl (ai E.P H.get t (dC s a))
 | .store t a x => .inr (cond wk (aE E.P H t (dC s a) (dC s x)) none)
 | .nilCheck x => .inl (qNil (dC s x))
 | .binOp op t xo yo _ => .inl (qBin E.P op t xo yo (dC s xo) (dC s yo))
 | .unOp op _ x => .inl (qUn E.P op (dC s x))
 | .convert src dst x=>match dL E.P dst with
  | true => .inr (nRes H r (cT E.P H.get r src dst (dC s x)))
  | false => .inl (cT E.P H.get r src dst (dC s x))
 | .makeInterface t x => .inl (pw E.P t (dC s x))
 | .makeFunc f first captured => .inl (rf f (B3 (dC s) first.toList) (B3 (dC s) captured.toList))
 | .makeSlice t l c => .inr (nRes H r (C0 E.P r t (dC s l) (dC s c)))
 | .slice t x lo hi mx=>match E.wide o && !draw with
  | true => .inl (q7 E.P H.get t (dC s x) (optF (dC s) lo) (optF (dC s) hi) (optF (dC s) mx))
  | false => .inl (fA E.P H.get t (dC s x) (optF (dC s) lo) (optF (dC s) hi) (optF (dC s) mx))
 | .fieldAddr t x f => .inl (aa E.P t (dC s x) f)
 | .field t x f => .inl (px E.P t (dC s x) f)
 | .indexAddr t x ix => .inl (aD E.P H.get t (dC s x) (dC s ix))
 | .index t x ix => .inl (ov E.P t (dC s x) (dC s ix))
 | .typeAssert x _ want ok => .inl (oQ E.P (dC s x) want ok)
 | .extract x i => .inl (ao (dC s x) i)
 | .call c =>
  match B3 (dC s) c.args.toList with
  | none => .inl none
  | some args =>
   match c.callee with
   | .value f=>(match C3 E.over draw f with
    | some t => .inl (IL E.P H.get t args)
    | none=>(match E.frz o with
     | true => .inr (kA E wk pc tc H r (dC s f) args)
     | false => .inr (aF E wk pc tc H r (dC s f) args)))
   | .invoke _ _ => .inl none
   | .builtin b=>match b,args with
    | .append,[a,x] => .inr (dq E.P wk H r c.argTypes[0]? c.argTypes[1]? a x)
    | .copy,[dst,x]=>(match E.wide o with
     | true => .inr (cond wk (Cv E.P H c.argTypes[0]? dst x) none)
     | false => .inr (cond wk (HA E.P H c.argTypes[0]? dst x) none))
    | b,args => .inl (ax E.P (draw&&(E.strict o || !(match c.args.toList with | [.tmp _]=>true | _=>false))) H.get r b c.argTypes args)
 | .makeMap _ none => .inr (nRes H r (some (.mp r,[bn []])))
 | .lookup t x k ok => .inl (cS E.P H.get t (dC s x) (dC s k) ok)
 | .mapUpdate t m k x => .inr (cond wk (da E.P H t (dC s m) (dC s k) (dC s x)) none)
 | .insert t m k x => .inr (cond wk (da E.P H t (dC s m) (dC s k) (dC s x)) none)
 | .mapEntry t m k => .inr (cond wk (dF E.P H t (dC s m) (dC s k)) none)
 | .entryStore _ m n x => .inr (cond wk (cM H (dC s m) (dC s n) (dC s x)) none)
 | _ => .inl none
def pE(E:Env)(pc:FuncId→List AV→Option AV)(tc:Tgt→List AV→Heap→WRes)(dep:Nat)(draw:Bool)(tm:List AV)(H:Heap)(o:Oper):WRes :=
 match dz E pc draw H.get tm ⟨dep,o.dst.getD 0,H.gen dep (o.dst.getD 0),0⟩ o with
 | some (x,bs)=>some (x,keyed ⟨dep,o.dst.getD 0,H.gen dep (o.dst.getD 0),0⟩ 0 bs H)
 | none=>if draw && !jo E o then none else evalW E pc tc H tm ⟨dep,o.dst.getD 0,H.gen dep (o.dst.getD 0),0⟩ o
theorem Cd(E:Env)(pc:FuncId→List AV→Option AV)(tc:Tgt→List AV→Heap→WRes)(nt dep:Nat)(draw:Bool)(ops:Array Oper)(o:Oper)(st:St) :
 evalOp E pc tc nt dep draw ops o st=(match wanted ops st.tm o with
  | none=>none
  | some false=>(dA nt st.tm o.dst AV.undef).map fun tm => { st with tm}
  | some true=>match pE E pc tc dep draw st.tm st.hp o with
   | some (x,H)=>(dA nt st.tm o.dst x).map fun tm=>⟨tm,H⟩
   | none=>none):=by
 unfold evalOp pE
 cases hw:wanted ops st.tm o with
 | none=>rfl
 | some b =>
 cases b with
 | false=>rfl
 | true =>
  cases dz E pc draw st.hp.get st.tm ⟨dep,o.dst.getD 0,st.hp.gen dep (o.dst.getD 0),0⟩ o with
  | some p=>rfl
  | none =>
   dsimp only
   split
   ·rfl
   ·rfl
theorem O9{E:Env}{pc:FuncId→List AV→Option AV}{tc:Tgt→List AV→Heap→WRes}{dep:Nat}{draw:Bool}{tm:List AV}{H:Heap}{o:Oper}{v:AV}
 (h:dz E pc draw H.get tm ⟨dep,o.dst.getD 0,H.gen dep (o.dst.getD 0),0⟩ o=some (v,[])):pE E pc tc dep draw tm H o=some (v,H):=by
 unfold pE;rw[h];rfl
theorem JS{E:Env}{pc:FuncId→List AV→Option AV}{tc:Tgt→List AV→Heap→WRes}{dep:Nat}{draw:Bool}{tm:List AV}{H H':Heap}{o:Oper}{v:AV}{q:QRes}
 (h:dz E pc draw H.get tm ⟨dep,o.dst.getD 0,H.gen dep (o.dst.getD 0),0⟩ o=q) (hq:nRes H ⟨dep,o.dst.getD 0,H.gen dep (o.dst.getD 0),0⟩ q=some (v,H')):pE E pc tc dep draw tm H o=some (v,H'):=by
 unfold pE;rw[h]
 unfold nRes at hq
 split at hq
 ·exact hq
 ·cases hq
theorem nM{E:Env}{pc:FuncId→List AV→Option AV}{tc:Tgt→List AV→Heap→WRes}{dep:Nat}{draw:Bool}{tm:List AV}{H H':Heap}{o:Oper}{v:AV}{q:QRes}{w:WRes}
 (h:dz E pc draw H.get tm ⟨dep,o.dst.getD 0,H.gen dep (o.dst.getD 0),0⟩ o=q) (hw:evalW E pc tc H tm ⟨dep,o.dst.getD 0,H.gen dep (o.dst.getD 0),0⟩ o=w)
 (hq:orW (!(draw && !jo E o)) (nRes H ⟨dep,o.dst.getD 0,H.gen dep (o.dst.getD 0),0⟩ q) w=some (v,H')):pE E pc tc dep draw tm H o=some (v,H'):=by
 unfold pE;rw[h]
 cases q with
 | some p=>simpa [orW,nRes] using hq
 | none =>
  rw[hw]
  cases hd:(draw && !jo E o) with
  | true=>rw[hd]at hq;simp[orW,nRes]at hq
  | false=>rw[hd]at hq;simpa [orW,nRes] using hq
section
variable{E:Env}{pc:FuncId→List AV→Option AV}{tc:Tgt→List AV→Heap→WRes}{dep:Nat}{draw:Bool}{tm:List AV}{s:fq}{H:Heap}{o:Oper}
theorem N8(hs:ek tm s){q:QRes}{v:AV}
 (h:vR E pc tc dep draw (!(draw && !jo E o)) s H ⟨dep,o.dst.getD 0,H.gen dep (o.dst.getD 0),0⟩ o = .inl q) (hq:q=some (v,[])):pE E pc tc dep draw tm H o=some (v,H):=by
 subst hq
 refine O9 ?_
 have e:=sC hs
 unfold vR at h
 unfold dz
 split at h<;>rename_i ho<;>simp only[ho]
 all_goals try (simp only[Sum.inl.injEq,reduceCtorEq]at h)
 all_goals try (rw[←h];simp only[e,ba,Ed,C2 hs,El hs,B2];done)
 ·rw[←h];unfold Ed ba;rw[e];rfl
 ·split at h
  ·cases h
  ·simp only[Sum.inl.injEq]at h;rw[←h,e]
 ·cases hwd:(E.wide o && !draw) with
  | true=>rw[hwd]at h;simp only[Sum.inl.injEq]at h;rw[←h];simp only[cond_true,e,El hs]
  | false=>rw[hwd]at h;simp only[Sum.inl.injEq]at h;rw[←h];simp only[cond_false,e,El hs]
 ·rw[B2,e]
  split at h
  ·cases h
  ·rename_i args hargs
   rw[hargs]
   dsimp only
   split at h
   ·rename_i f hf
    rw[hf]
    dsimp only
    split at h
    ·rename_i t ht
     simp only[Sum.inl.injEq]at h
     simp only[ht]
     exact h
    ·split at h<;>cases h
   ·cases h
   ·rename_i b hb
    rw[hb]
    dsimp only
    split at h
    ·cases h
    ·split at h<;>cases h
    ·simp only[Sum.inl.injEq]at h;exact h
theorem N7(hs:ek tm s){w:WRes}{v:AV}{H':Heap}
 (h:vR E pc tc dep draw (!(draw && !jo E o)) s H ⟨dep,o.dst.getD 0,H.gen dep (o.dst.getD 0),0⟩ o = .inr w) (hw:w=some (v,H')):pE E pc tc dep draw tm H o=some (v,H'):=by
 subst hw
 have e:=sC hs
 unfold vR at h
 split at h<;>rename_i ho
 all_goals try (simp only[reduceCtorEq]at h;done)
 all_goals try (simp only[Sum.inr.injEq]at h)
 all_goals try (refine JS (by unfold dz;simp only[ho,e]) h;done)
 ·rw[←C2 hs]at h
  exact nM (q:=eZ _ _ _ _ _ _ _) (w:=gB _ _ _ _ _ _) (by unfold dz;simp only[ho]) (by unfold evalW;simp only[ho]) h
 ·rw[←e]at h
  exact nM (q:=none) (w:=aE _ _ _ _ _) (by unfold dz;simp only[ho]) (by unfold evalW;simp only[ho]) h
 ·split at h
  ·simp only[Sum.inr.injEq]at h
   refine JS (by unfold dz;simp only[ho,e]) h
  ·cases h
 ·split at h<;>cases h
 ·split at h
  ·cases h
  ·rename_i args hargs
   have ha:=hargs
   rw[←B2,←e]at ha
   split at h
   ·rename_i f hf
    split at h
    ·cases h
    ·rename_i hov
     split at h
     ·rename_i hfz
      simp only[Sum.inr.injEq]at h
      rw[←e]at h
      exact nM (q:=(jY _ _ _ _ _ _).map _) (w:=pa true _ _ (m4 _ _ _ _ _ _ _)) (by unfold dz;simp only[ho,ha,hf,hov,hfz]) (by unfold evalW;simp only[ho,ha,hf,hfz]) h
     ·rename_i hfz
      simp only[Sum.inr.injEq]at h
      rw[←e]at h
      exact nM (q:=jY _ _ _ _ _ _) (w:=m4 _ _ _ _ _ _ _) (by unfold dz;simp only[ho,ha,hf,hov,hfz,frzB];cases jY E pc H.get _ (bc tm f) args<;>rfl) (by unfold evalW;simp only[ho,ha,hf,hfz];rfl) h
   ·cases h
   ·rename_i b hb
    split at h
    ·simp only[Sum.inr.injEq]at h
     exact nM (q:=gS _ _ _ _ _ _ _) (w:=kC _ _ _ _ _ _) (by unfold dz;simp only[ho,ha,hb];rfl) (by unfold evalW;simp only[ho,ha,hb]) h
    ·split at h
     ·rename_i hwd
      simp only[Sum.inr.injEq]at h
      exact nM (q:=none) (w:=Cv _ _ _ _ _) (by unfold dz;simp only[ho,ha,hb];rfl) (by unfold evalW;simp only[ho,ha,hb,hwd,cond_true]) h
     ·rename_i hwd
      simp only[Sum.inr.injEq]at h
      exact nM (q:=none) (w:=HA _ _ _ _ _) (by unfold dz;simp only[ho,ha,hb];rfl) (by unfold evalW;simp only[ho,ha,hb,hwd,cond_false]) h
    ·cases h
 ·rw[←e]at h
  exact nM (q:=none) (w:=da _ _ _ _ _ _) (by unfold dz;simp only[ho]) (by unfold evalW;simp only[ho]) h
 ·rw[←e]at h
  exact nM (q:=none) (w:=da _ _ _ _ _ _) (by unfold dz;simp only[ho]) (by unfold evalW;simp only[ho]) h
 ·rw[←e]at h
  exact nM (q:=none) (w:=dF _ _ _ _ _) (by unfold dz;simp only[ho]) (by unfold evalW;simp only[ho]) h
 ·rw[←e]at h
  exact nM (q:=none) (w:=cM _ _ _ _) (by unfold dz;simp only[ho]) (by unfold evalW;simp only[ho]) h
end
open Classical in
noncomputable def limf(E:Env)(f:FuncId)(args:List AV):Option AV :=
 if h : ∃y n,∀m,n≤m→bq E (runA E m) f args=some y then some h.choose else none
theorem tQ{E:Env}{f:FuncId}{args:List AV}{y:AV}:limf E f args=some y ↔ ∃n,∀m,n≤m→bq E (runA E m) f args=some y:=by
 unfold limf
 constructor
 ·intro h
  split at h
  ·rename_i hh
   simp only[Option.some.injEq]at h
   rw[←h]
   exact hh.choose_spec
  ·cases h
 ·intro h
  rw[dif_pos ⟨y,h⟩]
  obtain⟨n,hn⟩:=h
  have hh : ∃y n,∀m,n≤m→bq E (runA E m) f args=some y:=⟨y,n,hn⟩
  obtain⟨n',hn'⟩:=hh.choose_spec
  have h1:=hn (max n n') (Nat.le_max_left ..)
  have h2:=hn' (max n n') (Nat.le_max_right ..)
  exact h2.symm.trans h1
open Classical in
noncomputable def limt(E:Env)(dep:Nat)(f:Tgt)(args:List AV)(H:Heap):WRes :=
 if h : ∃y n,∀m,n≤m→eu E (runA E m) dep f args H=some y then some h.choose else none
theorem tP{E:Env}{dep:Nat}{f:Tgt}{args:List AV}{H:Heap}{y:AV × Heap}:limt E dep f args H=some y ↔ ∃n,∀m,n≤m→eu E (runA E m) dep f args H=some y:=by
 unfold limt
 constructor
 ·intro h
  split at h
  ·rename_i hh
   simp only[Option.some.injEq]at h
   rw[←h]
   exact hh.choose_spec
  ·cases h
 ·intro h
  rw[dif_pos ⟨y,h⟩]
  obtain⟨n,hn⟩:=h
  have hh : ∃y n,∀m,n≤m→eu E (runA E m) dep f args H=some y:=⟨y,n,hn⟩
  obtain⟨n',hn'⟩:=hh.choose_spec
  have h1:=hn (max n n') (Nat.le_max_left ..)
  have h2:=hn' (max n n') (Nat.le_max_right ..)
  exact h2.symm.trans h1
theorem E5{E:Env}{wk:Bool}{dep:Nat}{H H':Heap}{r:Ref}{f:Option AV}{args:List AV}{v:AV}(h:aF E wk (limf E) (limt E dep) H r f args=some (v,H')) :
 ∃n,∀m,n≤m→aF E wk (bq E (runA E m)) (eu E (runA E m) dep) H r f args=some (v,H'):=by
 unfold aF at h ⊢
 by_cases hf : ∃fi first captured,f=some (.fn (.func fi) first captured)
 ·obtain⟨fi,first,captured,rfl⟩:=hf
  by_cases h2:E.mode fi=2
  ·simp only[jY,m4,if_pos h2,nRes,orW]at h ⊢
   cases wk with
   | true =>
    simp only[cond_true]at h ⊢
    obtain⟨n,hn⟩:=tP.1 h
    exact⟨n,hn⟩
   | false=>simp at h
  ·simp only[jY,m4,if_neg h2]at h ⊢
   cases hx:(first++args++captured).mapM (view H.get depth) with
   | none=>rw[hx]at h;simp[nRes,orW]at h
   | some xs =>
    rw[hx]at h
    dsimp only at h ⊢
    cases hy:limf E fi xs with
    | none=>rw[hy]at h;simp[nRes,orW]at h
    | some y =>
     rw[hy]at h
     obtain⟨n,hn⟩:=tQ.1 hy
     refine⟨n,fun m hm=>?_⟩
     rw[hn m hm]
     exact h
 ·have h1 : ∀pc,jY E pc H.get r f args=none:=by
   intro pc
   unfold jY
   split
   ·exact(hf ⟨_,_,_,rfl⟩).elim
   ·rfl
  by_cases hy : ∃q,f=some (.yld q)
  ·obtain⟨q,rfl⟩:=hy
   rw[h1]at h
   cases wk with
   | false=>simp[nRes,orW]at h
   | true =>
    have h':limt E dep (.yld q) args H=some (v,H'):=h
    obtain⟨n,hn⟩:=tP.1 h'
    refine⟨n,fun m hm=>?_⟩
    rw[h1]
    exact hn m hm
  ·have h2 : ∀pc tc,m4 E pc tc H r f args=none:=by
    intro pc tc
    unfold m4
    split
    ·exact(hf ⟨_,_,_,rfl⟩).elim
    ·exact(hy ⟨_,rfl⟩).elim
    ·rfl
   rw[h1,h2]at h
   cases wk<;>simp[nRes,orW]at h
theorem AQ{sm:Same}{H H':Heap}{x:WRes}{v:AV}(h:pa true sm H x=some (v,H')) : ∃H1,x=some (v,H1)∧H'=H∧flat depth v=true∧(B6 H H1||sm.f H H1)=true:=by
 cases x with
 | none=>simp[pa]at h
 | some p =>
  obtain⟨y,H1⟩:=p
  unfold pa at h
  simp only at h
  split at h
  ·rename_i hc
   cases h
   rw[Bool.and_eq_true]at hc
   exact⟨H1,rfl,rfl,hc.1,hc.2⟩
  ·cases h
theorem DE{E:Env}{wk:Bool}{dep:Nat}{H H':Heap}{r:Ref}{f:Option AV}{args:List AV}{v:AV}(h:kA E wk (limf E) (limt E dep) H r f args=some (v,H')) :
 ∃n,∀m,n≤m→kA E wk (bq E (runA E m)) (eu E (runA E m) dep) H r f args=some (v,H'):=by
 unfold kA at h ⊢
 by_cases hf : ∃fi first captured,f=some (.fn (.func fi) first captured)
 ·obtain⟨fi,first,captured,rfl⟩:=hf
  by_cases h2:E.mode fi=2
  ·simp only[jY,m4,if_pos h2,nRes,orW,Option.map_none]at h ⊢
   cases wk with
   | true =>
    simp only[cond_true]at h ⊢
    obtain⟨H1,e1,e2,e3,e4⟩:=AQ h
    obtain⟨n,hn⟩:=tP.1 e1
    refine⟨n,fun m hm=>?_⟩
    rw[hn m hm]
    rw[e1]at h
    exact h
   | false=>simp at h
  ·simp only[jY,m4,if_neg h2]at h ⊢
   cases hx:(first++args++captured).mapM (view H.get depth) with
   | none=>rw[hx]at h;simp[nRes,orW,pa]at h
   | some xs =>
    rw[hx]at h
    dsimp only at h ⊢
    cases hy:limf E fi xs with
    | none=>rw[hy]at h;simp[nRes,orW,pa]at h
    | some y =>
     rw[hy]at h
     obtain⟨n,hn⟩:=tQ.1 hy
     refine⟨n,fun m hm=>?_⟩
     rw[hn m hm]
     exact h
 ·have h1 : ∀pc,jY E pc H.get r f args=none:=by
   intro pc
   unfold jY
   split
   ·exact(hf ⟨_,_,_,rfl⟩).elim
   ·rfl
  by_cases hy : ∃q,f=some (.yld q)
  ·obtain⟨q,rfl⟩:=hy
   rw[h1]at h
   cases wk with
   | false=>simp[nRes,orW]at h
   | true =>
    have h':pa true E.sm H (limt E dep (.yld q) args H)=some (v,H'):=h
    obtain⟨H1,e1,_⟩:=AQ h'
    obtain⟨n,hn⟩:=tP.1 e1
    refine⟨n,fun m hm=>?_⟩
    rw[h1]
    show pa true E.sm H (eu E (runA E m) dep (.yld q) args H)=_
    rw[hn m hm]
    rw[e1]at h'
    exact h'
  ·have h2 : ∀pc tc,m4 E pc tc H r f args=none:=by
    intro pc tc
    unfold m4
    split
    ·exact(hf ⟨_,_,_,rfl⟩).elim
    ·exact(hy ⟨_,rfl⟩).elim
    ·rfl
   rw[h1,h2]at h
   cases wk<;>simp[nRes,orW,pa]at h
theorem C5{E:Env}{dep:Nat}{draw wk:Bool}{s:fq}{H:Heap}{r:Ref}{o:Oper} :
 (∀q v,vR E (limf E) (limt E dep) dep draw wk s H r o = .inl q→q=some (v,[]) →∃n,∀m,n≤m→vR E (bq E (runA E m)) (eu E (runA E m) dep) dep draw wk s H r o = .inl (some (v,[]))) ∧
 (∀w v H',vR E (limf E) (limt E dep) dep draw wk s H r o = .inr w→w=some (v,H') →∃n,∀m,n≤m→vR E (bq E (runA E m)) (eu E (runA E m) dep) dep draw wk s H r o = .inr (some (v,H'))):=by
 constructor
 ·intro q v h hq
  subst hq
  refine⟨0,fun m _=>?_⟩
  unfold vR at h ⊢
  generalize o.op=op at h ⊢
  cases op
  all_goals try exact h
  case makeMap a b=>cases b<;>exact h
  rename_i c
  dsimp only at h ⊢
  cases ha:B3 (dC s) c.args.toList with
  | none=>rw[ha]at h;exact h
  | some args =>
   rw[ha]at h
   dsimp only at h ⊢
   cases hc:c.callee with
   | value f =>
    rw[hc]at h
    dsimp only at h ⊢
    cases hov:C3 E.over draw f with
    | some t=>rw[hov]at h;exact h
    | none=>rw[hov]at h;dsimp only at h;split at h<;>cases h
   | invoke a b=>rw[hc]at h;exact h
   | builtin b=>rw[hc]at h;exact h
 ·intro w v H' h hw
  subst hw
  unfold vR at h ⊢
  generalize o.op=op at h ⊢
  cases op
  all_goals try (exact⟨0,fun m _=>h⟩)
  case makeMap a b=>cases b<;>exact⟨0,fun m _=>h⟩
  rename_i c
  dsimp only at h ⊢
  cases ha:B3 (dC s) c.args.toList with
  | none=>rw[ha]at h;cases h
  | some args =>
   rw[ha]at h
   dsimp only at h ⊢
   cases hc:c.callee with
   | value f =>
    rw[hc]at h
    dsimp only at h ⊢
    cases hov:C3 E.over draw f with
    | some t=>rw[hov]at h;cases h
    | none =>
    rw[hov]at h
    dsimp only at h ⊢
    cases hfz:E.frz o with
    | true =>
     rw[hfz]at h
     simp only[Sum.inr.injEq]at h
     obtain⟨n,hn⟩:=DE h
     exact⟨n,fun m hm=>congrArg _ (hn m hm)⟩
    | false =>
     rw[hfz]at h
     simp only[Sum.inr.injEq]at h
     obtain⟨n,hn⟩:=E5 h
     exact⟨n,fun m hm=>congrArg _ (hn m hm)⟩
   | invoke a b=>rw[hc]at h;cases h
   | builtin b=>rw[hc]at h;exact⟨0,fun m _=>h⟩
abbrev Mk{α:Type}(a:α):Type:=Unit
structure doQ (q:QRes) (K:AV→Prop) (m:Mk K:=()):Prop where
 h : ∃v,q=some (v,[])∧K v
structure doW (w:WRes) (K:AV→Heap→Prop) (m:Mk K:=()):Prop where
 h : ∃v H,w=some (v,H)∧K v H
def Qj(x:AV)(want:Bool):Option Bool :=
 match x with
 | .v (.bool b)=>some (b == want)
 | .v (.tuple vs)=>if vs.isEmpty then some false else none
 | _=>none
def gd(x:AV)(want:Bool)(A B:Prop):Prop :=
 match Qj x want with
 | some true=>A
 | some false=>B
 | none=>False
structure gQ (x:AV) (want:Bool) (q:QRes) (K:AV→Prop) (m:Mk (q,K):=()):Prop where
 h:gd x want (doQ q K) (K AV.undef)
structure gW (x:AV) (want:Bool) (H:Heap) (w:WRes) (K:AV→Heap→Prop) (m:Mk (w,K):=()):Prop where
 h:gd x want (doW w K) (K AV.undef H)
def brP(x:Option AV)(A B:Prop):Prop :=
 match x.bind Bf with
 | some b=>cond b A B
 | none=>False
structure br (x:Option AV) (A B:Prop) (m:Mk (A,B):=()):Prop where
 h:brP x A B
def F3(ops:Array Oper)(s:fq)(o:Oper):Option (Option (AV × Bool)) :=
 match o.guard with
 | none=>none
 | some (j,want)=>match (ops[j]?).bind (·.dst) with
  | some t=>some (some (s t,want))
  | none=>some none
def putF(nt:Nat)(s:fq)(dst:Option Tmp)(v:AV)(K:fq→Prop):Prop :=
 match dst with
 | none=>K s
 | some d=>cond (Nat.blt d nt) (K (fset s d v)) False
def wpOp(E:Env)(nt dep:Nat)(draw:Bool)(ops:Array Oper)(o:Oper)(s:fq)(H:Heap)(K:fq→Heap→Prop):Prop :=
 match vR E (limf E) (limt E dep) dep draw (!(draw && !jo E o)) s H ⟨dep,o.dst.getD 0,H.gen dep (o.dst.getD 0),0⟩ o with
 | .inl q=>match F3 ops s o with
  | none=>(match o.op with
   | .move x | .assign x=>(match dC s x with
    | some v=>putF nt s o.dst v fun s=>K s H
    | none=>False)
   | _=>doQ q fun v=>putF nt s o.dst v fun s=>K s H)
  | some (some (x,want))=>gQ x want q fun v=>putF nt s o.dst v fun s=>K s H
  | some none=>putF nt s o.dst AV.undef fun s=>K s H
 | .inr w=>match F3 ops s o with
  | none=>doW w fun v H=>putF nt s o.dst v fun s=>K s H
  | some (some (x,want))=>gW x want H w fun v H=>putF nt s o.dst v fun s=>K s H
  | some none=>putF nt s o.dst AV.undef fun s=>K s H
def wpOps(E:Env)(nt dep:Nat)(draw:Bool)(ops:Array Oper):List Oper→fq→Heap→(fq→Heap→Prop)→Prop
 | [],s,H,K=>K s H
 | o :: os,s,H,K=>wpOp E nt dep draw ops o s H fun s H=>wpOps E nt dep draw ops os s H K
def Fin(E:Env)(fn:Func)(rd:Option Ref)(o:Option St)(y:AV)(H':Heap):Prop:=match rd with
 | none =>∃st,o=some st∧sn E.P fn st=some y∧st.hp=H'
 | some r =>∃st n,o=sT (some r) st n∧y = .v (.int .i64 (n:Nat))∧st.hp=H'
def Goes(E:Env)(fn:Func)(rd:Option Ref)(dep:Nat)(items:List Item)(s:fq)(H:Heap)(Q:AV→Heap→Prop):Prop :=
 ∀tm,ek tm s →∃y H',Q y H' ∧∃n,∀m,n≤m→Fin E fn rd (runA E m rd fn.ntmps dep items ⟨tm,H⟩) y H'
def ofL(g:fq):List (Nat × AV)→fq
 | [],i=>g i
 | (j,v) :: l,i=>cond (Nat.beq i j) v (ofL g l i)
structure GoX (E:Env) (fn:Func) (rd:Option Ref) (dep:Nat) (items:List Item) (l:List (Nat × AV)) (H:Heap) (Q:AV→Heap→Prop):Prop where
 h : ∀g,Goes E fn rd dep items (ofL g l) H Q
abbrev GoL(E:Env)(fn:Func)(dep:Nat)(items:List Item)(l:List (Nat × AV))(H:Heap)(Q:AV→Heap→Prop):Prop:=GoX E fn none dep items l H Q
def BH(s:fq):List Nat→List (Nat × AV)
 | []=>[]
 | t :: ts=>(t,s t) :: BH s ts
theorem Lw(s:fq)(l:List Nat):ofL s (BH s l)=s:=by
 induction l with
 | nil=>rfl
 | cons t l ih =>
  funext i
  show cond (Nat.beq i t) (s t) (ofL s (BH s l) i)=s i
  rw[ih]
  cases h:Nat.beq i t with
  | true=>rw[Nat.eq_of_beq_eq_true h];rfl
  | false=>rfl
def iu:Code→Option Nat
 | .region id _ _=>some id
 | .seq a b=>match iu a with
  | some i=>some i
  | none=>iu b
 | .cond _ a b=>match iu a with
  | some i=>some i
  | none=>iu b
 | .block _ c | .loop c | .scope c=>iu c
 | _=>none
def bK(P:Program)(H:Heap)(x:AV)(t:TypeId):QRes :=
 match x,tagg P t,aX P t with
 | .ptr r i j,some g,some n=>match H.get r with
  | some b=>qVal (dE b.es i j n g)
  | none=>none
 | _,_,_=>none
def pack:List AV→AV
 | [] => .v (.tuple #[])
 | [x]=>x
 | xs => .tup xs
def DO(P:Program)(s:fq)(H:Heap)(Q:AV→Heap→Prop):List ResultVar→List AV→Prop
 | [],acc=>Q (pack acc.reverse) H
 | .tmp t :: rs,acc=>DO P s H Q rs (s t :: acc)
 | .cell a t :: rs,acc=>doQ (bK P H (s a) t) fun v=>DO P s H Q rs (v :: acc)
def ot(x y:AV):Bool:=match jr x,jr y with
 | some r,some r'=>decide (r≠r')
 | _,_=>true
def sQ(H:Heap)(x:AV):Bool:=match x with
 | .ptr r _ _=>(match H.get r with
  | some b => !b.arr
  | none=>false)
 | _=>true
def bsV(x:AV):Bool:=match x with
 | .osl .. => true
 | .v _=>true
 | _=>false
def ME(s:fq)(p:Tmp × Tmp):Bool:=ot (s p.1) (s p.2)
def AX(s:fq)(H:Heap)(o:Oper):Bool:=match o.op with
 | .store _ (.tmp t) _=>sQ H (s t)
 | _=>true
def J6(E:Env)(s:fq)(o:Oper):Bool := !(E.frz o&&bsOp o.op)||(match bsT o.op with
 | some t=>bsV (s t)
 | none=>false)
def Ng(E:Env)(l:List (Tmp × Tmp))(ops:Array Oper)(s:fq)(H:Heap):Prop:=l.all (ME s)=true∧ops.toList.all (AX s H)=true∧ops.toList.all (J6 E s)=true
def mb(l:List (AV × AV))(st bs:List AV)(H:Heap):Prop:=(l.all fun p=>ot p.1 p.2)=true∧st.all (sQ H)=true∧bs.all bsV=true
def Q1(assign body:Code):Nat:=match iu (.seq assign body) with
 | some i=>i+10000
 | none=>10000
structure bgP (o:Option (Nat × AV)) (K:AV→Prop) (m:Mk K:=()):Prop where
 h : ∃info,o=some (0,info)∧K info
def Hv(P:Program)(fn:Func)(rd:Option Ref)(code:Nat)(s:fq)(H:Heap)(Q:AV→Heap→Prop):Prop:=match rd with
 | none=>cond (Nat.ble code 2) (DO P s H Q fn.results.toList []) False
 | some _=>Q (.v (.int .i64 code)) H
def wp(E:Env)(fn:Func)(rd:Option Ref)(dep:Nat)(live:Nat→Option (List Nat))(cut:Nat→Bool)(Q:AV→Heap→Prop):Nat→List Item→fq→Heap→Prop
 | 0,items,s,H=>Goes E fn rd dep items s H Q
 | n+1,items,s,H =>
  match items with
  | []=>Hv E.P fn rd 0 s H Q
  | .beginRound :: k=>(match rd with
   | none=>False
   | some r=>bgP (lpAt H r) fun info=>wp E fn rd dep live cut Q n k s (H.put r (some (kK 1 info))))
  | .code c :: k =>
   (match c with
   | .skip | .label _=>wp E fn rd dep live cut Q n k s H
   | .ret=>Hv E.P fn rd 2 s H Q
   | .seq a b=>wp E fn rd dep live cut Q n (.code a :: .code b :: k) s H
   | .cond c a b=>br (dC s c) (wp E fn rd dep live cut Q n (.code a :: k) s H) (wp E fn rd dep live cut Q n (.code b :: k) s H)
   | .block id b=>wp E fn rd dep live cut Q n (.code b :: .inBlock id :: k) s H
   | .scope b=>wp E fn rd dep live cut Q n (.code b :: .inScope b :: k) s H
   | .loop b=>(match (iu b).bind live with
    | some l=>GoX E fn rd dep (.inLoop b :: k) (BH s l) H Q
    | none=>Goes E fn rd dep (.inLoop b :: k) s H Q)
   | .exit id=>(match exitTo id k with
    | some k'=>wp E fn rd dep live cut Q n k' s H
    | none=>Hv E.P fn rd (id+3) s H Q)
   | .rangeFunc g ps a b=>(match live (Q1 a b) with
    | some l=>GoX E fn rd dep (.code (.rangeFunc g ps a b) :: k) (BH s l) H Q
    | none=>Goes E fn rd dep (.code (.rangeFunc g ps a b) :: k) s H Q)
   | .region id ops draw=>(match cut id with
    | true=>(match live id with
     | some l=>GoX E fn rd dep (.code (.region id ops draw) :: k) (BH s l) H Q
     | none=>False)
    | false=>wpOps E fn.ntmps dep draw ops ops.toList s H fun s H =>
     (match draw,nU E ops with
     | true,p :: ps=>Ng E (p :: ps) ops s H∧wp E fn rd dep live cut Q n k s H
     | _,_=>wp E fn rd dep live cut Q n k s H))
   | _=>False)
  | .inLoop b :: k=>(match (iu b).bind live with
   | some l=>GoX E fn rd dep (.inLoop b :: k) (BH s l) H Q
   | none=>Goes E fn rd dep (.inLoop b :: k) s H Q)
  | .inBlock _ :: k | .inScope _ :: k=>wp E fn rd dep live cut Q n k s H
  | _=>False
theorem od{ops:Array Oper}{tm:List AV}{s:fq}(h:ek tm s)(o:Oper):wanted ops tm o=(match F3 ops s o with
 | none=>some true
 | some (some (x,want))=>Qj x want
 | some none=>some false):=by
 unfold wanted F3
 split
 ·rename_i hg;rw[hg]
 ·rename_i j want hg
  rw[hg]
  dsimp only
  split
  ·rename_i t ht
   rw[ht]
   dsimp only
   rw[h t]
   rfl
  ·rename_i ht
   rw[ht]
theorem ri{nt:Nat}{s:fq}{dst:Option Tmp}{v:AV}{K:fq→Prop}(h:putF nt s dst v K) : ∃s',K s' ∧∀tm,ek tm s →∃tm',dA nt tm dst v=some tm'∧ek tm' s':=by
 unfold putF at h
 cases dst with
 | none=>exact⟨s,h,fun tm ht=>⟨tm,rfl,ht⟩⟩
 | some d =>
  dsimp only at h
  cases hd:Nat.blt d nt with
  | false=>rw[hd]at h;exact h.elim
  | true =>
   rw[hd]at h
   refine⟨_,h,fun tm ht=>⟨_,?_,ht.set d v⟩⟩
   have hlt:d<nt:=Nat.le_of_ble_eq_true hd
   simp only[dA,if_pos hlt]
theorem Nk{E:Env}{nt dep:Nat}{draw:Bool}{ops:Array Oper}{o:Oper}{s:fq}{H:Heap}{K:fq→Heap→Prop}(h:wpOp E nt dep draw ops o s H K) :
 ∃s' H',K s' H' ∧∀tm,ek tm s →∃tm',ek tm' s' ∧∃n,∀m,n≤m→evalOp E (bq E (runA E m)) (eu E (runA E m) dep) nt dep draw ops o ⟨tm,H⟩=some ⟨tm',H'⟩:=by
 have run : ∀(v:AV)(H':Heap)(s':fq),(∀tm,ek tm s→wanted ops tm o=some true)→(∃n,∀m,n≤m →∀tm,ek tm s→pE E (bq E (runA E m)) (eu E (runA E m) dep) dep draw tm H o=some (v,H')) →
  (∀tm,ek tm s →∃tm',dA nt tm o.dst v=some tm'∧ek tm' s') →
  ∀tm,ek tm s →∃tm',ek tm' s' ∧∃n,∀m,n≤m→evalOp E (bq E (runA E m)) (eu E (runA E m) dep) nt dep draw ops o ⟨tm,H⟩=some ⟨tm',H'⟩:=by
  intro v H' s' hw ⟨n,hn⟩ hp tm ht
  obtain⟨tm',h1,h2⟩:=hp tm ht
  refine⟨tm',h2,n,fun m hm=>?_⟩
  rw[Cd]
  dsimp only
  rw[hw tm ht,hn m hm tm ht]
  dsimp only
  rw[h1]
  rfl
 have skip : ∀(s':fq),(∀tm,ek tm s→wanted ops tm o=some false)→(∀tm,ek tm s →∃tm',dA nt tm o.dst AV.undef=some tm'∧ek tm' s') →
  ∀tm,ek tm s →∃tm',ek tm' s' ∧∃n,∀m,n≤m→evalOp E (bq E (runA E m)) (eu E (runA E m) dep) nt dep draw ops o ⟨tm,H⟩=some ⟨tm',H⟩:=by
  intro s' hw hp tm ht
  obtain⟨tm',h1,h2⟩:=hp tm ht
  refine⟨tm',h2,0,fun m _=>?_⟩
  rw[Cd]
  dsimp only
  rw[hw tm ht]
  dsimp only
  rw[h1]
  rfl
 unfold wpOp at h
 split at h
 ·rename_i q hq
  have evq : ∀v,q=some (v,[]) →∃n,∀m,n≤m →∀tm,ek tm s→pE E (bq E (runA E m)) (eu E (runA E m) dep) dep draw tm H o=some (v,H):=by
   intro v hv
   obtain⟨n,hn⟩:=C5.1 q v hq hv
   exact⟨n,fun m hm tm ht=>N8 ht (hn m hm) rfl⟩
  split at h
  ·rename_i hg
   have hw : ∀tm,ek tm s→wanted ops tm o=some true:=fun tm ht=>by rw[od ht,hg]
   have fromQ : ∀v,q=some (v,[])→putF nt s o.dst v (fun s=>K s H) →∃s' H',K s' H' ∧∀tm,ek tm s →∃tm',ek tm' s' ∧∃n,∀m,n≤m→evalOp E (bq E (runA E m)) (eu E (runA E m) dep) nt dep draw ops o ⟨tm,H⟩=some ⟨tm',H'⟩:=by
    intro v hv hp
    obtain⟨s',hK,hp⟩:=ri hp
    exact⟨s',H,hK,run v H s' hw (evq v hv) hp⟩
   split at h
   ·rename_i x ho
    split at h
    ·rename_i v hv
     refine fromQ v ?_ h
     unfold vR at hq
     simp only[ho,Sum.inl.injEq,hv]at hq
     rw[←hq];rfl
    ·exact h.elim
   ·rename_i x ho
    split at h
    ·rename_i v hv
     refine fromQ v ?_ h
     unfold vR at hq
     simp only[ho,Sum.inl.injEq,hv]at hq
     rw[←hq];rfl
    ·exact h.elim
   ·obtain⟨v,hv,h⟩:=h.h
    exact fromQ v hv h
  ·rename_i x want hg
   replace h:=h.h
   unfold gd at h
   split at h
   ·rename_i hx
    obtain⟨v,hv,h⟩:=h.h
    obtain⟨s',hK,hp⟩:=ri h
    exact⟨s',H,hK,run v H s' (fun tm ht=>by rw[od ht,hg];exact hx) (evq v hv) hp⟩
   ·rename_i hx
    obtain⟨s',hK,hp⟩:=ri h
    exact⟨s',H,hK,skip s' (fun tm ht=>by rw[od ht,hg];exact hx) hp⟩
   ·exact h.elim
  ·rename_i hg
   obtain⟨s',hK,hp⟩:=ri h
   exact⟨s',H,hK,skip s' (fun tm ht=>by rw[od ht,hg]) hp⟩
 ·rename_i w hw
  have evw : ∀v H',w=some (v,H') →∃n,∀m,n≤m →∀tm,ek tm s→pE E (bq E (runA E m)) (eu E (runA E m) dep) dep draw tm H o=some (v,H'):=by
   intro v H' hv
   obtain⟨n,hn⟩:=C5.2 w v H' hw hv
   exact⟨n,fun m hm tm ht=>N7 ht (hn m hm) rfl⟩
  split at h
  ·rename_i hg
   obtain⟨v,H',hv,h⟩:=h.h
   obtain⟨s',hK,hp⟩:=ri h
   exact⟨s',H',hK,run v H' s' (fun tm ht=>by rw[od ht,hg]) (evw v H' hv) hp⟩
  ·rename_i x want hg
   replace h:=h.h
   unfold gd at h
   split at h
   ·rename_i hx
    obtain⟨v,H',hv,h⟩:=h.h
    obtain⟨s',hK,hp⟩:=ri h
    exact⟨s',H',hK,run v H' s' (fun tm ht=>by rw[od ht,hg];exact hx) (evw v H' hv) hp⟩
   ·rename_i hx
    obtain⟨s',hK,hp⟩:=ri h
    exact⟨s',H,hK,skip s' (fun tm ht=>by rw[od ht,hg];exact hx) hp⟩
   ·exact h.elim
  ·rename_i hg
   obtain⟨s',hK,hp⟩:=ri h
   exact⟨s',H,hK,skip s' (fun tm ht=>by rw[od ht,hg]) hp⟩
theorem Kt{E:Env}{nt dep:Nat}{draw:Bool}{ops:Array Oper}{K:fq→Heap→Prop} : ∀ {l:List Oper} {s:fq} {H:Heap},wpOps E nt dep draw ops l s H K →
 ∃s' H',K s' H' ∧∀tm,ek tm s →∃tm',ek tm' s' ∧∃n,∀m,n≤m→mQ E (bq E (runA E m)) (eu E (runA E m) dep) nt dep draw ops l ⟨tm,H⟩=some ⟨tm',H'⟩:=by
 intro l
 induction l with
 | nil=>intro s H h;exact⟨s,H,h,fun tm ht=>⟨tm,ht,0,fun m _=>rfl⟩⟩
 | cons o l ih =>
  intro s H h
  obtain⟨s1,H1,h1,hn1⟩:=Nk h
  obtain⟨s2,H2,h2,hn2⟩:=ih h1
  refine⟨s2,H2,h2,fun tm ht=>?_⟩
  obtain⟨tm1,t1,n1,e1⟩:=hn1 tm ht
  obtain⟨tm2,t2,n2,e2⟩:=hn2 tm1 t1
  exact⟨tm2,t2,max n1 n2,fun m hm=>by simp only[mQ,e1 m (by omega),e2 m (by omega)]⟩
theorem Ks{P:Program}{fn:Func}{s:fq}{H:Heap}{Q:AV→Heap→Prop} : ∀ {rs:List ResultVar} {acc:List AV},DO P s H Q rs acc →
 ∃ys,Q (pack (acc.reverse++ys)) H ∧∀tm,ek tm s→rs.mapM (iD P ⟨tm,H⟩)=some ys:=by
 intro rs
 induction rs with
 | nil=>intro acc h;exact⟨[],by simpa [DO] using h,fun tm _=>rfl⟩
 | cons r rs ih =>
  intro acc h
  cases r with
  | tmp t =>
   obtain⟨ys,h1,h2⟩:=ih h
   refine⟨s t :: ys,by simpa using h1,fun tm ht=>?_⟩
   simp only[List.mapM_cons,iD,h2 tm ht,ht t,Option.pure_def,Option.bind_eq_bind,Option.bind_some]
  | cell a t =>
   obtain⟨v,hv,h⟩:=h.h
   obtain⟨ys,h1,h2⟩:=ih h
   refine⟨v :: ys,by simpa using h1,fun tm ht=>?_⟩
   have hr:iD P ⟨tm,H⟩ (.cell a t)=some v:=by
    unfold bK at hv
    simp only[iD,ht a]
    split at hv
    ·rename_i r i j g n h3 h4 h5
     rw[h3,h4,h5]
     dsimp only
     split at hv
     ·rename_i b hb
      rw[hb]
      dsimp only
      simp only[qVal,Option.map_eq_some_iff]at hv
      obtain⟨z,hz,e⟩:=hv
      cases e
      exact hz
     ·cases hv
    ·cases hv
   simp only[List.mapM_cons,hr,h2 tm ht,Option.pure_def,Option.bind_eq_bind,Option.bind_some]
theorem FD{E:Env}{fn:Func}{s:fq}{H:Heap}{Q:AV→Heap→Prop}(h:DO E.P s H Q fn.results.toList []) : ∃y,Q y H ∧∀tm,ek tm s→sn E.P fn ⟨tm,H⟩=some y:=by
 obtain⟨ys,h1,h2⟩:=Ks (fn:=fn) h
 refine⟨pack ys,by simpa using h1,fun tm ht=>?_⟩
 unfold sn
 rw[h2 tm ht]
 match ys with
 | []=>rfl
 | [x]=>rfl
 | x :: y :: zs=>rfl
theorem lN{E:Env}{fn:Func}{rd:Option Ref}{dep:Nat}{items items':List Item}{s:fq}{H:Heap}{Q:AV→Heap→Prop}
 (hs : ∀n tm,runA E (n+1) rd fn.ntmps dep items ⟨tm,H⟩=runA E n rd fn.ntmps dep items' ⟨tm,H⟩) (h:Goes E fn rd dep items' s H Q):Goes E fn rd dep items s H Q:=by
 intro tm ht
 obtain⟨y,H',hQ,n,hn⟩:=h tm ht
 refine⟨y,H',hQ,n+1,fun m hm=>?_⟩
 obtain⟨m,rfl⟩ : ∃m',m=m'+1:=⟨m - 1,by omega⟩
 rw[hs]
 exact hn m (by omega)
theorem JE{E:Env}{fn:Func}{rd:Option Ref}{dep:Nat}{b:Code}{k:List Item}{s:fq}{H:Heap}{Q:AV→Heap→Prop}(h:Goes E fn rd dep (.code b :: .inLoop b :: k) s H Q):Goes E fn rd dep (.inLoop b :: k) s H Q :=
 lN (fun n tm=>by simp only[runA]) h
theorem Ha{E:Env}{fn:Func}{rd:Option Ref}{dep:Nat}{b:Code}{k:List Item}{s:fq}{H:Heap}{Q:AV→Heap→Prop}(h:Goes E fn rd dep (.inLoop b :: k) s H Q):Goes E fn rd dep (.code (.loop b) :: k) s H Q:=by
 intro tm ht
 obtain⟨y,H',hQ,n,hn⟩:=h tm ht
 refine⟨y,H',hQ,n+1,fun m hm=>?_⟩
 obtain⟨m,rfl⟩ : ∃m',m=m'+1:=⟨m - 1,by omega⟩
 have:=hn (m+1) (by omega)
 have e:runA E (m+1) rd fn.ntmps dep (.code (.loop b) :: k) ⟨tm,H⟩=runA E (m+1) rd fn.ntmps dep (.inLoop b :: k) ⟨tm,H⟩:=by simp only[runA]
 rw[e]
 exact this
theorem Dk{E:Env}{fn:Func}{rd:Option Ref}{dep:Nat}{items:List Item}{s:fq}{l:List Nat}{H:Heap}{Q:AV→Heap→Prop}(h:GoX E fn rd dep items (BH s l) H Q):Goes E fn rd dep items s H Q:=by
 have:=h.h s
 rwa [Lw]at this
theorem B8{E:Env}{fn:Func}{rd:Option Ref}{dep code:Nat}{items:List Item}{s:fq}{H:Heap}{Q:AV→Heap→Prop}
 (hs : ∀n tm,rd.isSome=true∨code≤2→runA E (n+1) rd fn.ntmps dep items ⟨tm,H⟩=(match rd with | none=>some ⟨tm,H⟩ | some r=>sT (some r) ⟨tm,H⟩ code)) (h:Hv E.P fn rd code s H Q):Goes E fn rd dep items s H Q:=by
 intro tm ht
 cases rd with
 | none =>
  unfold Hv at h
  dsimp only at h
  cases hc:Nat.ble code 2 with
  | false=>rw[hc]at h;exact h.elim
  | true =>
   rw[hc]at h
   obtain⟨y,hQ,hr⟩:=FD h
   refine⟨y,H,hQ,1,fun m hm=>?_⟩
   obtain⟨m,rfl⟩ : ∃m',m=m'+1:=⟨m - 1,by omega⟩
   exact⟨⟨tm,H⟩,hs m tm (.inr (Nat.le_of_ble_eq_true hc)),hr tm ht,rfl⟩
 | some r =>
  refine⟨.v (.int .i64 code),H,h,1,fun m hm=>?_⟩
  obtain⟨m,rfl⟩ : ∃m',m=m'+1:=⟨m - 1,by omega⟩
  exact⟨⟨tm,H⟩,code,hs m tm (.inl rfl),rfl,rfl⟩
theorem Ke{E:Env}{ops:Array Oper}{s:fq}{H:Heap}{tm:List AV}(ht:ek tm s)(h:Ng E (nU E ops) ops s H):o4 E ops ⟨tm,H⟩=true:=by
 unfold o4
 rw[Bool.or_eq_true,Bool.and_eq_true]
 refine .inr ⟨?_,?_⟩
 ·refine Eq.trans ?_ h.1
  congr 1
  funext p
  unfold CZ ME ot
  rw[ht,ht]
  rfl
 ·rw[Bool.and_eq_true]
  refine⟨Eq.trans ?_ h.2.1,Eq.trans ?_ h.2.2⟩
  ·congr 1
   funext o
   unfold q6 AX
   generalize o.op=op
   cases op<;>try rfl
   rename_i t a x
   cases a<;>try rfl
   rename_i t'
   dsimp only
   rw[ht t']
   rfl
  ·congr 1
   funext o
   unfold DH J6
   congr 1
   cases bsT o.op with
   | none=>rfl
   | some t =>
    dsimp only
    rw[ht t]
    rfl
theorem aH{E:Env}{fn:Func}{rd:Option Ref}{dep:Nat}{live:Nat→Option (List Nat)}{cut:Nat→Bool}{Q:AV→Heap→Prop} : ∀ {n:Nat} {items:List Item} {s:fq} {H:Heap},
 wp E fn rd dep live cut Q n items s H→Goes E fn rd dep items s H Q:=by
 intro n
 induction n with
 | zero=>intro items s H h;exact h
 | succ n ih =>
  intro items s H h
  have told : ∀ {k:List Item} {x:Option (List Nat)},(match x with | some l=>GoX E fn rd dep k (BH s l) H Q | none=>Goes E fn rd dep k s H Q)→Goes E fn rd dep k s H Q:=by
   intro k x h
   cases x with
   | some l=>exact Dk h
   | none=>exact h
  unfold wp at h
  split at h
  ·exact B8 (fun n tm _=>by cases rd<;>simp only[runA]) h
  ·rename_i k
   split at h
   ·exact h.elim
   ·rename_i r
    obtain⟨info,hl,h⟩:=h.h
    intro tm ht
    obtain⟨y,H',hQ,n,hn⟩:=ih h tm ht
    refine⟨y,H',hQ,n+1,fun m hm=>?_⟩
    obtain⟨m,rfl⟩ : ∃m',m=m'+1:=⟨m - 1,by omega⟩
    have:=hn m (by omega)
    have e:runA E (m+1) (some r) fn.ntmps dep (.beginRound :: k) ⟨tm,H⟩=runA E m (some r) fn.ntmps dep k ⟨tm,H.put r (some (kK 1 info))⟩:=by simp only[runA,hl]
    rw[e]
    exact this
  ·rename_i c k
   split at h
   ·exact lN (fun n tm=>by simp only[runA]) (ih h)
   ·exact lN (fun n tm=>by simp only[runA]) (ih h)
   ·exact B8 (fun n tm _=>by cases rd<;>simp[runA,sT]) h
   ·exact lN (fun n tm=>by simp only[runA]) (ih h)
   ·rename_i c a b
    replace h:=h.h
    unfold brP at h
    split at h
    ·rename_i bb hb
     have hg:Goes E fn rd dep (.code (cond bb a b) :: k) s H Q:=by cases bb<;>exact ih h
     intro tm ht
     obtain⟨y,H',hQ,n,hn⟩:=hg tm ht
     refine⟨y,H',hQ,n+1,fun m hm=>?_⟩
     obtain⟨m,rfl⟩ : ∃m',m=m'+1:=⟨m - 1,by omega⟩
     have:=hn m (by omega)
     have e:runA E (m+1) rd fn.ntmps dep (.code (.cond c a b) :: k) ⟨tm,H⟩=runA E m rd fn.ntmps dep (.code (cond bb a b) :: k) ⟨tm,H⟩:=by
      simp only[runA,sC ht,hb]
      cases bb<;>rfl
     rw[e]
     exact this
    ·exact h.elim
   ·exact lN (fun n tm=>by simp only[runA]) (ih h)
   ·exact lN (fun n tm=>by simp only[runA]) (ih h)
   ·exact Ha (told h)
   ·rename_i id
    split at h
    ·rename_i k' hk
     exact lN (fun n tm=>by simp only[runA,hk]) (ih h)
    ·rename_i hk
     exact B8 (fun n tm hc=>by
      simp only[runA,hk]
      cases rd with
      | none =>
       rcases hc with hc | hc
       ·cases hc
       ·omega
      | some r=>rfl) h
   ·exact told h
   ·rename_i id ops draw
    split at h
    ·split at h
     ·exact Dk h
     ·exact h.elim
    ·obtain⟨s',H',h1,hn1⟩:=Kt h
     have h2:Goes E fn rd dep k s' H' Q ∧∀tm,ek tm s'→(draw && !o4 E ops ⟨tm,H'⟩)=false:=by
      cases draw with
      | false=>exact⟨ih h1,fun _ _=>rfl⟩
      | true =>
       cases hp:nU E ops with
       | nil =>
        rw[hp]at h1
        refine⟨ih h1,fun tm ht=>?_⟩
        unfold o4
        rw[hp]
        rfl
       | cons p ps =>
        rw[hp]at h1
        exact⟨ih h1.2,fun tm ht=>by rw[Ke ht (by rw[hp];exact h1.1)];rfl⟩
     obtain⟨hg,hap⟩:=h2
     intro tm ht
     obtain⟨tm1,t1,n1,e1⟩:=hn1 tm ht
     obtain⟨y,H2,hQ,n2,hn2⟩:=hg tm1 t1
     refine⟨y,H2,hQ,max n1 n2+1,fun m hm=>?_⟩
     obtain⟨m,rfl⟩ : ∃m',m=m'+1:=⟨m - 1,by omega⟩
     have:=hn2 m (by omega)
     have e:runA E (m+1) rd fn.ntmps dep (.code (.region id ops draw) :: k) ⟨tm,H⟩=runA E m rd fn.ntmps dep k ⟨tm1,H'⟩:=by
      simp only[runA,e1 m (by omega),hap tm1 t1]
      simp
     rw[e]
     exact this
   ·exact h.elim
  ·exact told h
  ·exact lN (fun n tm=>by simp only[runA]) (ih h)
  ·exact lN (fun n tm=>by simp only[runA]) (ih h)
  ·exact h.elim
def qv:Nat→List AV→List (Nat × AV)
 | _,[]=>[]
 | i,x :: xs=>(i,x) :: qv (i+1) xs
theorem BQ(args:List AV)(i:Nat):ofL (fun _=>AV.undef) (qv 0 args) i=tget args i:=by
 have : ∀(j:Nat)(l:List AV),ofL (fun _=>AV.undef) (qv j l) (j+i)=tget l i:=by
  induction i with
  | zero =>
   intro j l
   cases l with
   | nil=>rfl
   | cons x l =>
    show cond (Nat.beq (j+0) j) x _=x
    rw[show Nat.beq (j+0) j=true from by simp]
    rfl
  | succ i ih =>
   intro j l
   cases l with
   | nil=>rfl
   | cons x l =>
    show cond (Nat.beq (j+(i+1)) j) x (ofL (fun _=>AV.undef) (qv (j+1) l) (j+(i+1)))=tget l i
    have e:Nat.beq (j+(i+1)) j=false:=by
     cases h:Nat.beq (j+(i+1)) j with
     | false=>rfl
     | true=>have:=Nat.eq_of_beq_eq_true h;omega
    rw[e]
    show ofL _ _ _=_
    rw[←ih (j+1) l,show j+1+i=j+(i+1) by omega]
 simpa using this 0 args
def qI(E:Env)(f:FuncId)(x:AV)(H:Heap)(y:AV):Prop :=
 if wP (E.mode f)=true then (aw H.get depth x).Nodup∧dB H.get depth x=some y else view H.get depth x=some y
theorem az{E:Env}{f:FuncId}{fn:Func}{c:Code}{args:List AV}{y:AV}(hsp:E.spec f args=none)(hal:E.allowed f=true)(hf:E.P.funcs[f]?=some fn)(hc:fn.body=some c)(hl:Nat.ble args.length fn.ntmps=true)
 (h:GoL E fn 0 [.code c] (qv 0 args) [] fun x H=>qI E f x H y):limf E f args=some y:=by
 rw[tQ]
 obtain⟨x,H,hQ,n,hn⟩:=h.h (fun _=>AV.undef) args fun i=>(BQ args i).symm
 refine⟨n,fun m hm=>?_⟩
 obtain⟨st,h1,h2,h3⟩:=hn m hm
 subst h3
 unfold bq
 rw[hsp]
 unfold rC
 simp only[hal,if_true,hf,hc,if_pos (Nat.le_of_ble_eq_true hl),h1,h2,Option.map_some]
 unfold qI at hQ
 split
 ·rename_i h1
  rw[if_pos h1]at hQ
  rw[if_pos hQ.1]
  exact hQ.2
 ·rename_i h1
  rw[if_neg h1]at hQ
  exact hQ
theorem gh{E:Env}{f:FuncId}{fn:Func}{c:Code}{dep:Nat}{args:List AV}{H:Heap}{Q:AV→Heap→Prop}(hm:E.mode f=2)(hal:E.allowed f=true)(hf:E.P.funcs[f]?=some fn)(hc:fn.body=some c)(hl:Nat.ble args.length fn.ntmps=true)
 (h:GoL E fn (dep+1) [.code c] (qv 0 args) H Q) (hsp:E.thrSpec f args H=none:=by rfl) : ∃y H',limt E dep (.fn f) args H=some (y,H')∧Q y H':=by
 obtain⟨x,H1,hQ,n,hn⟩:=h.h (fun _=>AV.undef) args fun i=>(BQ args i).symm
 refine⟨x,H1,tP.2 ⟨n,fun m hm'=>?_⟩,hQ⟩
 obtain⟨st,h1,h2,h3⟩:=hn m hm'
 unfold eu
 dsimp only
 rw[hsp]
 dsimp only
 rw[if_pos hm]
 unfold rC
 simp only[hal,if_true,hf,hc,if_pos (Nat.le_of_ble_eq_true hl),h1,h2,Option.map_some,h3]
theorem LI{E:Env}{fn:Func}{dep nt:Nat}{r:Ref}{f:FuncId}{ps:List Tmp}{assign body:Code}{tm:List AV}{args:List AV}{H:Heap}{Q:AV→Heap→Prop}
 (hl:lpAt H r=some (0,.lp f nt ps assign body tm)) (hn:fn.ntmps=nt) (hp:args.length=ps.length) (hps:ps.all (· < nt)=true) (ha:codeOk E.ok assign=true) (hb:codeOk E.ok body=true)
 (h:Goes E fn (some r) (dep+1) [.code assign,.beginRound,.code body] (tget (sR tm ps args)) H fun x H' =>∃code:Nat,x = .v (.int .i64 code) ∧∃info H2,lpAt H' r=some (1,info)∧H2=H'.put r (some (kK code info)) ∧
  lpAt H2 r=some (code,info)∧(code=0→Q (.v (.bool true)) H2)∧(2≤code→Q (.v (.bool false)) H2)∧code≠1) :
 ∃y H',limt E dep (.yld r) args H=some (y,H')∧Q y H':=by
 obtain⟨x,H1,⟨code,rfl,info,H2,h1,rfl,h2,hq0,hq2,hne⟩,n,hn'⟩:=h (sR tm ps args) (fun i=>rfl)
 have key : ∀m,n≤m→vM E (runA E m) (dep+1) r args H=some (.v (.bool (code == 0)),H1.put r (some (kK code info))):=by
  intro m hm
  obtain⟨st,k,e1,e2,e3⟩:=hn' m hm
  injection e2 with e2
  injection e2 with e2 e4
  have e4:code=k:=by exact_mod_cast e4
  subst e4
  subst hn
  unfold vM
  rw[hl]
  simp only
  rw[if_pos ⟨hp,hps,ha,hb⟩,e1]
  unfold sT
  simp only[e3,h1,h2]
  match code with
  | 0=>rfl
  | 1=>exact(hne rfl).elim
  | k+2=>rfl
 have key' : ∀m,n≤m→eu E (runA E m) dep (.yld r) args H=some (.v (.bool (code == 0)),H1.put r (some (kK code info))):=key
 refine⟨_,_,tP.2 ⟨n,key'⟩,?_⟩
 match code with
 | 0=>exact hq0 rfl
 | 1=>exact(hne rfl).elim
 | k+2=>exact hq2 (by omega)
theorem G9{E:Env}{fn:Func}{dep:Nat}{g:Operand}{ps:Array Tmp}{assign body:Code}{k:List Item}{s:fq}{H:Heap}{Q:AV→Heap→Prop}{gi:FuncId}{first captured:List AV}
 (hg:dC s g=some (.fn (.func gi) first captured))
 (h : ∀tm,ek tm s →∃v Hx st info,limt E dep (.fn gi) (first++[.yld ⟨dep,fn.ntmps,H.gen dep fn.ntmps,0⟩]++captured) ((⟨dep,fn.ntmps,H.gen dep fn.ntmps,0⟩,some (kK 0 (.lp 0 fn.ntmps ps.toList assign body tm))) :: H)=some (v,Hx) ∧
  lpAt Hx ⟨dep,fn.ntmps,H.gen dep fn.ntmps,0⟩=some (st,info) ∧
  (
   (st=0∧Goes E fn none dep k s (Hx.put ⟨dep,fn.ntmps,H.gen dep fn.ntmps,0⟩ none) Q) ∨
   (st=2∧DO E.P s (Hx.put ⟨dep,fn.ntmps,H.gen dep fn.ntmps,0⟩ none) Q fn.results.toList []) ∨
   (∃id k',st=id+3∧exitTo id k=some k'∧Goes E fn none dep k' s (Hx.put ⟨dep,fn.ntmps,H.gen dep fn.ntmps,0⟩ none) Q))) :
 Goes E fn none dep (.code (.rangeFunc g ps assign body) :: k) s H Q:=by
 intro tm ht
 obtain⟨v,Hx,st,info,h1,h2,h3⟩:=h tm ht
 obtain⟨n1,hn1⟩:=tP.1 h1
 have hg':bc tm g=some (.fn (.func gi) first captured):=by rw[sC ht];exact hg
 rcases h3 with ⟨rfl,hk⟩ | ⟨rfl,hk⟩ | ⟨id,k',rfl,he,hk⟩
 ·obtain⟨y,H',hQ,n2,hn2⟩:=hk tm ht
  refine⟨y,H',hQ,max n1 n2+1,fun m hm=>?_⟩
  obtain⟨m,rfl⟩ : ∃m',m=m'+1:=⟨m - 1,by omega⟩
  have e:runA E (m+1) none fn.ntmps dep (.code (.rangeFunc g ps assign body) :: k) ⟨tm,H⟩=runA E m none fn.ntmps dep k ⟨tm,Hx.put ⟨dep,fn.ntmps,H.gen dep fn.ntmps,0⟩ none⟩:=by
   simp only[runA,hg',hn1 m (by omega),h2]
  rw[e]
  exact hn2 m (by omega)
 ·obtain⟨y,hQ,hr⟩:=FD hk
  refine⟨y,_,hQ,n1+1,fun m hm=>?_⟩
  obtain⟨m,rfl⟩ : ∃m',m=m'+1:=⟨m - 1,by omega⟩
  have e:runA E (m+1) none fn.ntmps dep (.code (.rangeFunc g ps assign body) :: k) ⟨tm,H⟩=some ⟨tm,Hx.put ⟨dep,fn.ntmps,H.gen dep fn.ntmps,0⟩ none⟩:=by
   simp only[runA,hg',hn1 m (by omega),h2]
  rw[e]
  exact⟨_,rfl,hr tm ht,rfl⟩
 ·obtain⟨y,H',hQ,n2,hn2⟩:=hk tm ht
  refine⟨y,H',hQ,max n1 n2+1,fun m hm=>?_⟩
  obtain⟨m,rfl⟩ : ∃m',m=m'+1:=⟨m - 1,by omega⟩
  have e:runA E (m+1) none fn.ntmps dep (.code (.rangeFunc g ps assign body) :: k) ⟨tm,H⟩=runA E m none fn.ntmps dep k' ⟨tm,Hx.put ⟨dep,fn.ntmps,H.gen dep fn.ntmps,0⟩ none⟩:=by
   simp only[runA,hg',hn1 m (by omega),h2,he]
  rw[e]
  exact hn2 m (by omega)
theorem Jn{E:Env}{f:FuncId}{args:List AV}{y:AV}(h:E.spec f args=some y):limf E f args=some y:=by
 rw[tQ]
 exact⟨0,fun m _=>by unfold bq;rw[h]⟩
theorem LJ{E:Env}{f:FuncId}{args:List AV}{y:AV}(h:limf E f args=some y) : ∃n,bq E (runA E n) f args=some y:=by
 obtain⟨n,hn⟩:=tQ.1 h
 exact⟨n,hn n (Nat.le_refl _)⟩
def bL(r:Nat):Nat→List Item→Option (List Item)
 | 0,_=>none
 | n+1,items =>
  match items with
  | .code c :: k=>(match c with
   | .seq a b=>bL r n (.code a :: .code b :: k)
   | .cond _ a b=>(match bL r n (.code a :: k) with
    | some l=>some l
    | none=>bL r n (.code b :: k))
   | .block id b=>bL r n (.code b :: .inBlock id :: k)
   | .scope b=>bL r n (.code b :: .inScope b :: k)
   | .loop b=>(match iu b with
    | some i=>cond (Nat.beq i r) (some (.inLoop b :: k)) (bL r n (.code b :: .inLoop b :: k))
    | none=>none)
   | .exit id=>(match exitTo id k with
    | some k'=>bL r n k'
    | none=>none)
   | .skip | .label _ | .region _ _ _=>bL r n k
   | _=>none)
  | .inBlock _ :: k | .inScope _ :: k=>bL r n k
  | _=>none
def jh(r:Nat):Nat→List Item→Option (List Item)
 | 0,_=>none
 | n+1,items =>
  match items with
  | .code c :: k=>(match c with
   | .seq a b=>jh r n (.code a :: .code b :: k)
   | .cond _ a b=>(match jh r n (.code a :: k) with
    | some l=>some l
    | none=>jh r n (.code b :: k))
   | .block id b=>jh r n (.code b :: .inBlock id :: k)
   | .scope b=>jh r n (.code b :: .inScope b :: k)
   | .loop b=>jh r n (.code b :: .inLoop b :: k)
   | .exit id=>(match exitTo id k with
    | some k'=>jh r n k'
    | none=>none)
   | .rangeFunc _ _ a b=>cond (Nat.beq (Q1 a b) r) (some items) (jh r n k)
   | .skip | .label _ | .region _ _ _=>jh r n k
   | _=>none)
  | .inBlock _ :: k | .inScope _ :: k=>jh r n k
  | _=>none
def rfA:List Item→Code
 | .code (.rangeFunc _ _ a _) :: _=>a
 | _ => .skip
def rfB:List Item→Code
 | .code (.rangeFunc _ _ _ b) :: _=>b
 | _ => .skip
def rfK:List Item→List Item
 | _ :: k=>k
 | []=>[]
def Nd:List Item→List Item
 | .inLoop b :: k => .code b :: .inLoop b :: k
 | l=>l
theorem cU{E:Env}{fn:Func}{rd:Option Ref}{dep:Nat}{items:List Item}{l:List (Nat × AV)}{H:Heap}{Q:AV→Heap→Prop}(h : ∀g,Goes E fn rd dep (Nd items) (ofL g l) H Q):GoX E fn rd dep items l H Q:=by
 refine⟨fun g=>?_⟩
 have:=h g
 unfold Nd at this
 split at this
 ·exact JE this
 ·exact this
def oi(x:AV):Option (Option Int):=match uR x with
 | some n=>some (some n)
 | none=>none
end Go.Ab
namespace Go.Ab
def PcLe(pc pc':FuncId→List AV→Option AV):Prop :=∀f xs y,pc f xs=some y→pc' f xs=some y
def TcLe(tc tc':Tgt→List AV→Heap→WRes):Prop :=∀f xs H y,tc f xs H=some y→tc' f xs H=some y
theorem GN{E:Env}{pc pc':FuncId→List AV→Option AV}(hp:PcLe pc pc'){g:Get}{r:Ref}{f:Option AV}{args:List AV}{z:AV × List Blk}(h:jY E pc g r f args=some z):jY E pc' g r f args=some z:=by
 unfold jY at h ⊢
 split at h
 ·split at h
  ·cases h
  ·rename_i hm
   rw[if_neg hm]
   split at h
   ·rename_i xs hx
    split at h
    ·rename_i y hy
     rw[hp _ _ _ hy]
     exact h
    ·cases h
   ·cases h
 ·cases h
theorem Lh{E:Env}{pc pc':FuncId→List AV→Option AV}{tc tc':Tgt→List AV→Heap→WRes}(hp:PcLe pc pc')(ht:TcLe tc tc'){H:Heap}{r:Ref}{f:Option AV}{args:List AV} :
 (jY E pc H.get r f args=none →∀z,m4 E pc tc H r f args=some z→m4 E pc' tc' H r f args=some z∧jY E pc' H.get r f args=none):=by
 intro h0 z h
 unfold jY at h0 ⊢
 unfold m4 at h ⊢
 split at h
 ·rename_i fi first captured
  dsimp only at h0 ⊢
  split at h
  ·rename_i hm
   rw[if_pos hm,if_pos hm]
   exact⟨ht _ _ _ _ h,rfl⟩
  ·rename_i hm
   rw[if_neg hm]at h0
   rw[if_neg hm,if_neg hm]
   split at h
   ·rename_i xs hx
    try rw[hx]at h0
    dsimp only at h0 ⊢
    simp only[Option.map_eq_some_iff]at h
    obtain⟨y,hy,h⟩:=h
    rw[hy]at h0
    rw[hp _ _ _ hy]
    exact⟨by rw[Option.map_some,h],h0⟩
   ·cases h
 ·exact⟨ht _ _ _ _ h,rfl⟩
 ·cases h
theorem He{E:Env}{pc pc':FuncId→List AV→Option AV}{tc tc':Tgt→List AV→Heap→WRes}(hp:PcLe pc pc')(ht:TcLe tc tc'){dep:Nat}{draw:Bool}{tm:List AV}{H:Heap}{o:Oper}{z:AV × Heap}
 (h:pE E pc tc dep draw tm H o=some z):pE E pc' tc' dep draw tm H o=some z:=by
 by_cases hc : ∃c f args,o.op = .call c∧c.args.toList.mapM (bc tm)=some args∧c.callee = .value f
 ·obtain⟨c,f,args,ho,ha,hf⟩:=hc
  unfold pE dz evalW at h ⊢
  simp only[ho,ha,hf]at h ⊢
  cases hov:C3 E.over draw f with
  | some t =>
   rw[hov]at h
   dsimp only at h ⊢
   cases hO:IL E.P H.get t args with
   | some p=>rw[hO]at h;exact h
   | none =>
    rw[hO]at h
    dsimp only at h ⊢
    split at h
    ·cases h
    ·rename_i hd
     rw[if_neg hd]
     have hfd : ∃g,f = .func g:=by unfold C3 at hov;split at hov<;>simp_all
     obtain⟨g,rfl⟩:=hfd
     simp only[bc,m4]at h ⊢
     by_cases hm:E.mode g=2
     ·rw[if_pos hm]at h ⊢
      cases hw:tc (.fn g) ([]++args++[]) H with
      | none=>rw[hw]at h;unfold pa at h;split at h<;>(try split at h)<;>simp_all
      | some z'=>rw[hw]at h;rw[ht _ _ _ _ hw];exact h
     ·rw[if_neg hm]at h ⊢
      cases hx:([]++args++[]:List AV).mapM (view H.get depth) with
      | none=>rw[hx]at h;exact h
      | some xs =>
       rw[hx]at h
       dsimp only at h ⊢
       cases hy:pc g xs with
       | none=>rw[hy]at h;unfold pa at h;split at h<;>(try split at h)<;>simp_all
       | some y=>rw[hy]at h;rw[hp _ _ _ hy];exact h
  | none =>
  rw[hov]at h
  dsimp only at h ⊢
  cases hq:jY E pc H.get ⟨dep,o.dst.getD 0,H.gen dep (o.dst.getD 0),0⟩ (bc tm f) args with
  | some p =>
   rw[hq]at h
   rw[GN hp hq]
   exact h
  | none =>
   rw[hq]at h
   simp only[Option.map_none]at h
   split at h
   ·cases h
   ·rename_i hd
    cases hw:m4 E pc tc H ⟨dep,o.dst.getD 0,H.gen dep (o.dst.getD 0),0⟩ (bc tm f) args with
    | none =>
     rw[hw]at h
     unfold pa at h
     split at h
     ·rename_i e;cases e
     ·cases h
    | some z' =>
     obtain⟨h1,h2⟩:=Lh hp ht hq _ hw
     rw[h2,h1]
     rw[hw]at h
     simp only[Option.map_none,if_neg hd]
     exact h
 ·have:pE E pc tc dep draw tm H o=pE E pc' tc' dep draw tm H o:=by
   have hq:dz E pc draw H.get tm ⟨dep,o.dst.getD 0,H.gen dep (o.dst.getD 0),0⟩ o=dz E pc' draw H.get tm ⟨dep,o.dst.getD 0,H.gen dep (o.dst.getD 0),0⟩ o:=by
    cases ho:o.op<;>simp only[dz,ho]
    case makeMap a b=>cases b<;>rfl
    rename_i c
    cases ha:c.args.toList.mapM (bc tm) with
    | none=>rfl
    | some args =>
     cases hf:c.callee with
     | value f=>exact(hc ⟨c,f,args,ho,ha,hf⟩).elim
     | invoke _ _=>rfl
     | builtin b=>rfl
   have hw:evalW E pc tc H tm ⟨dep,o.dst.getD 0,H.gen dep (o.dst.getD 0),0⟩ o=evalW E pc' tc' H tm ⟨dep,o.dst.getD 0,H.gen dep (o.dst.getD 0),0⟩ o:=by
    cases ho:o.op<;>simp only[evalW,ho]
    rename_i c
    cases ha:c.args.toList.mapM (bc tm) with
    | none=>rfl
    | some args =>
     cases hf:c.callee with
     | value f=>exact(hc ⟨c,f,args,ho,ha,hf⟩).elim
     | invoke _ _=>rfl
     | builtin b=>rfl
   unfold pE
   rw[hq,hw]
  rw[←this]
  exact h
theorem D9{E:Env}{pc pc':FuncId→List AV→Option AV}{tc tc':Tgt→List AV→Heap→WRes}(hp:PcLe pc pc')(ht:TcLe tc tc'){nt dep:Nat}{draw:Bool}{ops:Array Oper} : ∀ {l:List Oper} {st st':St},
 mQ E pc tc nt dep draw ops l st=some st'→mQ E pc' tc' nt dep draw ops l st=some st':=by
 intro l
 induction l with
 | nil=>intro st st' h;exact h
 | cons o l ih =>
  intro st st' h
  unfold mQ at h ⊢
  cases ho:evalOp E pc tc nt dep draw ops o st with
  | none=>rw[ho]at h;cases h
  | some st1 =>
   rw[ho]at h
   have:evalOp E pc' tc' nt dep draw ops o st=some st1:=by
    rw[Cd]at ho ⊢
    cases hw:wanted ops st.tm o with
    | none=>rw[hw]at ho;cases ho
    | some b =>
     rw[hw]at ho
     cases b with
     | false=>exact ho
     | true =>
      dsimp only at ho ⊢
      cases hc:pE E pc tc dep draw st.tm st.hp o with
      | none=>rw[hc]at ho;cases ho
      | some z=>rw[hc]at ho;rw[He hp ht hc];exact ho
   rw[this]
   exact ih h
theorem zD{E:Env}{run run':Option Ref→Nat→Nat→List Item→St→Option St}(hr : ∀rd nt dep items st st',run rd nt dep items st=some st'→run' rd nt dep items st=some st'){dep:Nat}{f:FuncId}{args:List AV}{H:Heap}{z:AV × Heap}
 (h:rC E run dep f args H=some z):rC E run' dep f args H=some z:=by
 unfold rC at h ⊢
 split at h
 ·rename_i ha
  rw[if_pos ha]
  cases hf:E.P.funcs[f]? with
  | none=>rw[hf]at h;cases h
  | some fn =>
   rw[hf]at h
   dsimp only at h ⊢
   cases hb:fn.body with
   | none=>rw[hb]at h;cases h
   | some c =>
    rw[hb]at h
    dsimp only at h ⊢
    split at h
    ·rename_i hl
     rw[if_pos hl]
     cases hx:run none fn.ntmps dep [.code c] ⟨args,H⟩ with
     | none=>rw[hx]at h;cases h
     | some st=>rw[hx]at h;rw[hr _ _ _ _ _ _ hx];exact h
    ·cases h
 ·cases h
theorem uF{E:Env}{run run':Option Ref→Nat→Nat→List Item→St→Option St}(hr : ∀rd nt dep items st st',run rd nt dep items st=some st'→run' rd nt dep items st=some st'):PcLe (bq E run) (bq E run'):=by
 intro f xs y h
 unfold bq at h ⊢
 cases hs:E.spec f xs with
 | some s=>rw[hs]at h;exact h
 | none =>
  rw[hs]at h
  dsimp only at h ⊢
  cases hc:rC E run 0 f xs [] with
  | none=>rw[hc]at h;cases h
  | some z=>rw[hc]at h;rw[zD hr hc];exact h
theorem wI{E:Env}{run run':Option Ref→Nat→Nat→List Item→St→Option St}(hr : ∀rd nt dep items st st',run rd nt dep items st=some st'→run' rd nt dep items st=some st')(dep:Nat):TcLe (eu E run dep) (eu E run' dep):=by
 intro f xs H y h
 unfold eu at h ⊢
 cases f with
 | fn f =>
  dsimp only at h ⊢
  cases hs:E.thrSpec f xs H with
  | some s=>rw[hs]at h;exact h
  | none =>
  rw[hs]at h
  dsimp only at h ⊢
  split at h
  ·rename_i hm;rw[if_pos hm];exact zD hr h
  ·cases h
 | yld r =>
  dsimp only at h ⊢
  unfold vM at h ⊢
  split at h
  ·rename_i f nt ps assign body tm hl
   split at h
   ·rename_i hc
    rw[if_pos hc]
    cases hx:run (some r) nt (dep+1) [.code assign,.beginRound,.code body] ⟨sR tm ps xs,H⟩ with
    | none=>rw[hx]at h;cases h
    | some st=>rw[hx]at h;rw[hr _ _ _ _ _ _ hx];exact h
   ·cases h
  ·cases h
theorem Ix{E:Env} : ∀(n:Nat)(rd:Option Ref)(nt dep:Nat)(items:List Item)(st st':St),runA E n rd nt dep items st=some st'→runA E (n+1) rd nt dep items st=some st':=by
 intro n
 induction n with
 | zero=>intro rd nt dep items st st' h;simp[runA]at h
 | succ n ih =>
  intro rd nt dep items st st' h
  unfold runA at h ⊢
  split at h
  ·exact h
  ·split at h
   ·exact h
   ·rename_i r
    split at h
    ·exact ih _ _ _ _ _ _ h
    ·cases h
  ·split at h
   all_goals try exact h
   all_goals try exact ih _ _ _ _ _ _ h
   ·rename_i c a b
    split at h
    ·exact ih _ _ _ _ _ _ h
    ·exact ih _ _ _ _ _ _ h
    ·cases h
   ·split at h
    ·exact ih _ _ _ _ _ _ h
    ·exact h
   ·rename_i ops draw
    cases hx:mQ E (bq E (runA E n)) (eu E (runA E n) dep) nt dep draw ops ops.toList st with
    | none=>rw[hx]at h;cases h
    | some st1 =>
     rw[hx]at h
     rw[D9 (uF ih) (wI ih dep) hx]
     dsimp only at h ⊢
     split at h
     ·cases h
     ·rename_i hd
      rw[if_neg hd]
      exact ih _ _ _ _ _ _ h
   ·split at h
    ·split at h
     ·rename_i x H' hx
      rw[wI ih dep _ _ _ _ hx]
      dsimp only
      split at h
      ·exact ih _ _ _ _ _ _ h
      ·exact h
      ·split at h
       ·exact ih _ _ _ _ _ _ h
       ·cases h
      ·cases h
     ·cases h
    ·cases h
  all_goals try exact ih _ _ _ _ _ _ h
  all_goals cases h
theorem NS{E:Env}{n m:Nat}(hm:n≤m){rd:Option Ref}{nt dep:Nat}{items:List Item}{st st':St}(h:runA E n rd nt dep items st=some st'):runA E m rd nt dep items st=some st':=by
 induction hm with
 | refl=>exact h
 | step _ ih=>exact Ix _ _ _ _ _ _ _ ih
theorem yR{E:Env}{n:Nat}{f:FuncId}{args:List AV}{y:AV}(h:bq E (runA E n) f args=some y):limf E f args=some y :=
 tQ.2 ⟨n,fun _ hm=>uF (fun _ _ _ _ _ _ h=>NS hm h) _ _ _ h⟩
end Go.Ab
namespace Go.Ab
abbrev aI(n:Int):AV := .v (.int .i64 n)
abbrev aB(b:Bool):AV := .v (.bool b)
def a8(n:UInt8):AV := .v (.int .u8 (n.toNat:Int))
def a32(n:UInt32):AV := .v (.int .u32 (n.toNat:Int))
abbrev aS(s:ByteArray):AV := .v (.string s)
abbrev aNil:AV := .v (.slice none 0 0)
theorem Dx{w:WRes}{K:AV→Heap→Prop}{m:Mk K}{v:AV}{H:Heap}(hw:w=some (v,H))(h:K v H):doW w K m:=⟨v,H,hw,h⟩
@[simp] theorem Ug(v:AV)(K:AV→Prop)(m:Mk K):doQ (some (v,[])) K m↔K v :=
 ⟨fun⟨⟨w,hw,h⟩⟩=>by cases hw;exact h,fun h=>⟨v,rfl,h⟩⟩
@[simp] theorem WM(c:Prop)[Decidable c](q:QRes)(K:AV→Prop)(m:Mk K):doQ (if c then q else none) K m↔c∧doQ q K m:=by
 by_cases hc:c
 ·simp[hc]
 ·simp only[if_neg hc,hc,false_and,iff_false]
  rintro⟨v,hv,_⟩;cases hv
@[simp] theorem Uf(v:AV)(H:Heap)(K:AV→Heap→Prop)(m:Mk K):doW (some (v,H)) K m↔K v H :=
 ⟨fun⟨⟨w,_,hw,h⟩⟩=>by cases hw;exact h,fun h=>⟨v,H,rfl,h⟩⟩
theorem J7{x:Option AV}{A B:Prop}{m:Mk (A,B)}:br x A B m↔brP x A B:=⟨fun h=>h.h,fun h=>⟨h⟩⟩
@[simp] theorem Wf(A B:Prop)(m:Mk (A,B)):br (some (aB true)) A B m↔A:=J7
@[simp] theorem Uk(A B:Prop)(m:Mk (A,B)):br (some (aB false)) A B m↔B:=J7
theorem oc{b:Bool}{A B:Prop}{m:Mk (A,B)}(h1:b=true→A)(h2:b=false→B):br (some (aB b)) A B m:=by
 cases b
 ·exact⟨h2 rfl⟩
 ·exact⟨h1 rfl⟩
theorem Si{p:Prop}[Decidable p]{A B:Prop}{m:Mk (A,B)}(h1:p→A)(h2 : ¬p→B):br (some (aB (decide p))) A B m :=
 oc (fun h=>h1 (of_decide_eq_true h)) (fun h=>h2 (of_decide_eq_false h))
@[simp] theorem VF(q:QRes)(K:AV→Prop)(m:Mk (q,K)):gQ (aB true) true q K m↔doQ q K:=⟨fun h=>h.h,fun h=>⟨h⟩⟩
@[simp] theorem VI(q:QRes)(K:AV→Prop)(m:Mk (q,K)):gQ (aB false) false q K m↔doQ q K:=⟨fun h=>h.h,fun h=>⟨h⟩⟩
@[simp] theorem VG(q:QRes)(K:AV→Prop)(m:Mk (q,K)):gQ (aB true) false q K m↔K AV.undef:=⟨fun h=>h.h,fun h=>⟨h⟩⟩
@[simp] theorem VH(q:QRes)(K:AV→Prop)(m:Mk (q,K)):gQ (aB false) true q K m↔K AV.undef:=⟨fun h=>h.h,fun h=>⟨h⟩⟩
@[simp] theorem gQ_u(w:Bool)(q:QRes)(K:AV→Prop)(m:Mk (q,K)):gQ AV.undef w q K m↔K AV.undef:=⟨fun h=>h.h,fun h=>⟨h⟩⟩
@[simp] theorem VB(H:Heap)(q:WRes)(K:AV→Heap→Prop)(m:Mk (q,K)):gW (aB true) true H q K m↔doW q K:=⟨fun h=>h.h,fun h=>⟨h⟩⟩
@[simp] theorem VE(H:Heap)(q:WRes)(K:AV→Heap→Prop)(m:Mk (q,K)):gW (aB false) false H q K m↔doW q K:=⟨fun h=>h.h,fun h=>⟨h⟩⟩
@[simp] theorem VC(H:Heap)(q:WRes)(K:AV→Heap→Prop)(m:Mk (q,K)):gW (aB true) false H q K m↔K AV.undef H:=⟨fun h=>h.h,fun h=>⟨h⟩⟩
@[simp] theorem VD(H:Heap)(q:WRes)(K:AV→Heap→Prop)(m:Mk (q,K)):gW (aB false) true H q K m↔K AV.undef H:=⟨fun h=>h.h,fun h=>⟨h⟩⟩
@[simp] theorem gW_u(w:Bool)(H:Heap)(q:WRes)(K:AV→Heap→Prop)(m:Mk (q,K)):gW AV.undef w H q K m↔K AV.undef H:=⟨fun h=>h.h,fun h=>⟨h⟩⟩
@[simp] theorem Q7(v:AV):qVal (some v)=some (v,[]):=id rfl
@[simp] theorem Ru(H:Heap)(r:Ref)(v:AV)(bs:List Blk):nRes H r (some (v,bs))=some (v,keyed r 0 bs H):=id rfl
@[simp] theorem C7(H:Heap)(r:Ref):nRes H r none=none:=id rfl
@[simp] theorem PO(r:Ref)(k:Nat)(H:Heap):keyed r k [] H=H:=id rfl
@[simp] theorem PQ(r:Ref)(k:Nat)(b:Blk)(bs:List Blk)(H:Heap):keyed r k (b :: bs) H=keyed r (k+1) bs (({ r with k:=k},some b) :: H):=id rfl
@[simp] theorem Tv(wk:Bool)(x:AV × Heap)(b:WRes):orW wk (some x) b=some x:=id rfl
@[simp] theorem FM(b:WRes):orW true none b=b:=id rfl
@[simp] theorem PJ(a b:Option AV):ba (some (aB true)) a b=qVal a:=id rfl
@[simp] theorem N4(a b:Option AV):ba (some (aB false)) a b=qVal b:=id rfl
@[simp] theorem WA(k:IntKind)(n:Int):oi (.v (.int k n))=some (some n):=id rfl
@[simp] theorem Sg(cs:List AV):(AV.agg cs).cells=cs:=id rfl
@[simp] theorem Wa(x:Value):(AV.v x).cells=[.v x]:=id rfl
@[simp] theorem Wb(x:UInt8):(a8 x).cells=[a8 x]:=id rfl
@[simp] theorem Ui(x:UInt32):(a32 x).cells=[a32 x]:=id rfl
@[simp] theorem Sf(z:Nat)(es:List AV)(c:Option Nat):(AV.isl z es c).cells=[.isl z es c]:=id rfl
@[simp] theorem Se(r:Ref)(o n:Nat)(c:Option Nat):(AV.osl r o n c).cells=[.osl r o n c]:=id rfl
@[simp] theorem Sd(r:Ref)(i j:Nat):(AV.ptr r i j).cells=[.ptr r i j]:=id rfl
@[simp] theorem Uh(f:Fn)(a b:List AV):(AV.fn f a b).cells=[.fn f a b]:=id rfl
@[simp] theorem Vo(k:IntKind)(n:Int):(AV.v (.int k n)).one=true:=id rfl
@[simp] theorem Tw(b:Bool):(AV.v (.bool b)).one=true:=id rfl
@[simp] theorem Vm:aNil.one=true:=id rfl
@[simp] theorem WY(x:UInt8):(a8 x).one=true:=id rfl
@[simp] theorem Wz(x:UInt32):(a32 x).one=true:=id rfl
@[simp] theorem Vn(z:Nat)(es:List AV)(c:Option Nat):(AV.isl z es c).one=true:=id rfl
@[simp] theorem Vl(r:Ref)(o n:Nat)(c:Option Nat):(AV.osl r o n c).one=true:=id rfl
@[simp] theorem Vk(r:Ref)(i j:Nat):(AV.ptr r i j).one=true:=id rfl
@[simp] theorem Wy(f:Fn)(a b:List AV):(AV.fn f a b).one=true:=id rfl
section
variable(P:Program)(t:TypeId)(xo yo:Operand)(k:IntKind)(a b:Int)
@[simp] theorem FG:qBin P .lss t xo yo (some (.v (.int k a))) (some (.v (.int k b)))=some (aB (decide (a<b)),[]):=by cases k<;>rfl
@[simp] theorem Ll:qBin P .leq t xo yo (some (.v (.int k a))) (some (.v (.int k b)))=some (aB (decide (a≤b)),[]):=by cases k<;>rfl
@[simp] theorem Lm:qBin P .gtr t xo yo (some (.v (.int k a))) (some (.v (.int k b)))=some (aB (decide (b<a)),[]):=by cases k<;>rfl
@[simp] theorem Ln:qBin P .geq t xo yo (some (.v (.int k a))) (some (.v (.int k b)))=some (aB (decide (b≤a)),[]):=by cases k<;>rfl
@[simp] theorem FH:qBin P .eql t xo yo (some (.v (.int k a))) (some (.v (.int k b)))=some (aB (decide (a=b)),[]):=by
 have:(a == b)=decide (a=b):=by by_cases h:a=b<;>simp[h]
 rw[←this];cases k<;>rfl
@[simp] theorem Lk:qBin P .neq t xo yo (some (.v (.int k a))) (some (.v (.int k b)))=some (aB (!decide (a=b)),[]):=by
 have:(a != b) = !decide (a=b):=by by_cases h:a=b<;>simp[h]
 rw[←this];cases k<;>rfl
@[simp] theorem Ts:qBin P .add t xo yo (some (.v (.int k a))) (some (.v (.int k b)))=some (.v (.int k (k.wrap (a+b))),[]):=by cases k<;>rfl
@[simp] theorem Tq:qBin P .sub t xo yo (some (.v (.int k a))) (some (.v (.int k b)))=some (.v (.int k (k.wrap (a - b))),[]):=by cases k<;>rfl
@[simp] theorem Tr:qBin P .mul t xo yo (some (.v (.int k a))) (some (.v (.int k b)))=some (.v (.int k (k.wrap (a * b))),[]):=by cases k<;>rfl
theorem fu{yk:IntKind}(hb:0≤b):qBin P .shr t xo yo (some (.v (.int k a))) (some (.v (.int yk b)))=some (.v (.int k (a.fdiv (2 ^ min b.toNat k.bits))),[]):=by
 have h:Op.shift .shr k a yk b=pure (.int k (a.fdiv (2 ^ min b.toNat k.bits))):=by unfold Op.shift;rw[if_neg (by omega)]
 have h2:Ek P .shr t xo yo (.int k a) (.int yk b)=some (.int k (a.fdiv (2 ^ min b.toNat k.bits))):=by
  have:Ek P .shr t xo yo (.int k a) (.int yk b)=bj P (Op.shift .shr k a yk b):=rfl
  rw[this,h];rfl
 simp only[qBin,isSl,mC,fZ,h2,Bool.false_and,Bool.or_self,Bool.false_eq_true,if_false,Option.bind_some,im,scalar,if_true,qVal,Option.map_some]
@[simp] theorem Vf(b:Bool):qUn P .not (some (aB b))=some (aB (!b),[]):=id rfl
def u8(n:Int):UInt8:=UInt8.ofBitVec (BitVec.ofInt 8 n)
def u32(n:Int):UInt32:=UInt32.ofBitVec (BitVec.ofInt 32 n)
@[simp] theorem Ur(n:Int):IntKind.u8.wrap n=((u8 n).toNat:Int):=by
 unfold u8;rw[IntKind.wrap_u8,UInt8.toNat_ofBitVec,BitVec.toNat_ofInt];omega
@[simp] theorem Nj(n:Int):IntKind.u32.wrap n=((u32 n).toNat:Int):=by
 unfold u32;rw[IntKind.wrap_u32,UInt32.toNat_ofBitVec,BitVec.toNat_ofInt];omega
theorem CH(n:Int):(u8 n).toNat=(n % 256).toNat:=by
 unfold u8;rw[UInt8.toNat_ofBitVec,BitVec.toNat_ofInt];rfl
theorem AU(n:Int):(u32 n).toNat=(n % 4294967296).toNat:=by
 unfold u32;rw[UInt32.toNat_ofBitVec,BitVec.toNat_ofInt];rfl
@[simp] theorem Ns(x:UInt32):u32 (x.toNat:Int)=x:=by apply UInt32.toNat_inj.1;rw[AU];have:=x.toNat_lt;omega
@[simp] theorem Sw(x:UInt32):u8 (x.toNat:Int)=x.toUInt8:=by apply UInt8.toNat_inj.1;rw[CH,UInt32.toNat_toUInt8];omega
@[simp] theorem RU(x:UInt32):IntKind.i64.wrap (x.toNat:Int)=x.toNat:=by have:=x.toNat_lt;exact IntWalk.i64_in _ (by omega)
theorem Sm(v:BitVec 32):IntKind.u32.wrap (v.toNat:Int)=((UInt32.ofBitVec v).toNat:Int):=by
 rw[Nj];unfold u32;congr 3;apply BitVec.eq_of_toNat_eq;rw[BitVec.toNat_ofInt];have:=v.isLt;omega
theorem Sj(op:BinOp)(f:BitVec 32→BitVec 32→BitVec 32)(g:UInt32→UInt32→UInt32)(hg : ∀x y,g x y=UInt32.ofBitVec (f x.toBitVec y.toBitVec))(hop : ∀x y:Int,qBin P op t xo yo (some (.v (.int .u32 x))) (some (.v (.int .u32 y)))=some (.v (.int .u32 (IntKind.u32.wrap ((f (BitVec.ofInt 32 x) (BitVec.ofInt 32 y)).toNat:Int))),[])) :
 qBin P op t xo yo (some (.v (.int .u32 a))) (some (.v (.int .u32 b)))=some (a32 (g (u32 a) (u32 b)),[]):=by
 rw[hop,Sm,hg];rfl
section
variable(x y:UInt8)
@[simp] theorem Rc:qBin P .lss t xo yo (some (a8 x)) (some (a8 y))=some (aB (decide (x<y)),[]):=by
 unfold a8;rw[FG];congr 4;rw[UInt8.lt_iff_toNat_lt];all_goals exact propext (by omega)
@[simp] theorem Rd:qBin P .leq t xo yo (some (a8 x)) (some (a8 y))=some (aB (decide (x≤y)),[]):=by
 unfold a8;rw[Ll];congr 4;rw[UInt8.le_iff_toNat_le];all_goals exact propext (by omega)
@[simp] theorem Re:qBin P .gtr t xo yo (some (a8 x)) (some (a8 y))=some (aB (decide (y<x)),[]):=by
 unfold a8;rw[Lm];congr 4;rw[UInt8.lt_iff_toNat_lt];all_goals exact propext (by omega)
@[simp] theorem Rf:qBin P .geq t xo yo (some (a8 x)) (some (a8 y))=some (aB (decide (y≤x)),[]):=by
 unfold a8;rw[Ln];congr 4;rw[UInt8.le_iff_toNat_le];all_goals exact propext (by omega)
@[simp] theorem Rg:qBin P .eql t xo yo (some (a8 x)) (some (a8 y))=some (aB (decide (x=y)),[]):=by
 unfold a8;rw[FH];congr 4;rw[←UInt8.toNat_inj];all_goals exact propext (by omega)
@[simp] theorem Rb:qBin P .neq t xo yo (some (a8 x)) (some (a8 y))=some (aB (!decide (x=y)),[]):=by
 unfold a8;rw[Lk];congr 5;rw[←UInt8.toNat_inj];all_goals exact propext (by omega)
end
section
variable(x y:UInt32)
@[simp] theorem Lp:qBin P .andNot t xo yo (some (a32 x)) (some (a32 y))=some (a32 (x &&& ~~~y),[]):=by
 unfold a32;rw[Sj P t xo yo _ _ .andNot (fun a b=>a &&& ~~~b) (fun a b=>a &&& ~~~b) (fun _ _=>rfl) (fun _ _=>rfl)];simp only[Ns];rfl
@[simp] theorem PD:qBin P .lss t xo yo (some (a32 x)) (some (a32 y))=some (aB (decide (x<y)),[]):=by
 unfold a32;rw[FG];congr 4;rw[UInt32.lt_iff_toNat_lt];all_goals exact propext (by omega)
@[simp] theorem PE:qBin P .eql t xo yo (some (a32 x)) (some (a32 y))=some (aB (decide (x=y)),[]):=by
 unfold a32;rw[FH];congr 4;rw[←UInt32.toNat_inj];all_goals exact propext (by omega)
end
theorem jb{P:Program}{t:TypeId}{d:TypeDesc}(h:P.underlying t=some d):bj P (Go.underlying t)=some d:=by
 unfold Go.underlying
 rw[bp]
 show(some P).bind _=_
 rw[Option.bind_some,h]
 rfl
def intKind(P:Program)(t:TypeId):Option IntKind:=match P.underlying t with | some (.int k)=>some k | _=>none
theorem wQ{P:Program}{t:TypeId}{k:IntKind}(h:intKind P t=some k):P.underlying t=some (.int k):=by
 unfold intKind at h
 split at h
 ·cases h;assumption
 ·cases h
theorem C1{g:Get}{r:Ref}{src dst:TypeId}{k':IntKind}(hs:(P.underlying src).isNone=false)(hd:intKind P dst=some k)(n:Int) :
 cT P g r src dst (some (.v (.int k' n)))=some (.v (.int k (k.wrap n)),[]):=by
 have hd:=wQ hd
 obtain⟨d,hs⟩ : ∃d,P.underlying src=some d:=by cases h:P.underlying src with | none=>rw[h]at hs;cases hs | some d=>exact⟨d,rfl⟩
 have:bj P (Go.convert src dst (.int k' n))=some (.int k (k.wrap n)):=by
  unfold Go.convert
  rw[bp,jb hs,Option.bind_some,bp,jb hd,Option.bind_some]
  cases d<;>rfl
 simp only[cT,this,Option.bind_some,im,scalar,if_true,qVal,Option.map_some]
@[simp] theorem PC{g:Get}{r:Ref}{src dst:TypeId}(hs:(P.underlying src).isNone=false)(hd:intKind P dst=some .i64)(x:UInt32) :
 cT P g r src dst (some (a32 x))=some (aI x.toNat,[]):=by
 unfold a32;rw[C1 P .i64 hs hd,RU]
@[simp] theorem Ra{g:Get}{r:Ref}{src dst:TypeId}{k':IntKind}(hs:(P.underlying src).isNone=false)(hd:intKind P dst=some .u8)(n:Int) :
 cT P g r src dst (some (.v (.int k' n)))=some (a8 (u8 n),[]):=by
 unfold a8;rw[C1 P .u8 hs hd,Ur]
end
def by8(l:List UInt8):List AV:=l.map a8
@[simp] theorem Wd(l:List UInt8):(by8 l).length=l.length:=by simp[by8]
@[simp] theorem Wc:by8 []=[]:=id rfl
theorem Lf(P:Program)(d:Bool)(g:Get)(r:Ref)(t:TypeId)(ts:List TypeId)(x:AV)(hx : ∀r',x ≠ .mp r'):ax P d g r .len ⟨t :: ts⟩ [x]=qLen P (some t) x:=by
 unfold ax
 cases x<;>first | rfl | (rename_i q;exact(hx q rfl).elim)
@[simp] theorem Vg(P:Program)(d:Bool)(g:Get)(r:Ref)(t:TypeId)(ts:List TypeId)(x:AV)(hx:(uQ x).isSome=true):ax P d g r .len ⟨t :: ts⟩ [x]=qLen P (some t) x:=by
 refine Lf P d g r t ts x fun r' e=>?_
 subst e;cases hx
@[simp] theorem Rz:uQ aNil=some 0:=id rfl
@[simp] theorem RA(n:Nat)(es:List AV)(c:Option Nat):uQ (.isl n es c)=some es.length:=id rfl
@[simp] theorem Ry(r:Ref)(o n:Nat)(c:Option Nat):uQ (.osl r o n c)=some n:=id rfl
@[simp] theorem Pz{P:Program}{t:TypeId}(ha:tarr P t=none)(hs:isStr P t=false)(he:(fc P t).isSome=true)(x:AV):qLen P (some t) x=(uQ x).map fun n=>(aI n,[]):=by
 simp only[qLen,ha,hs,he];rfl
theorem F9{P:Program}{t:TypeId}{z:Nat}(h:(fc P t).bind (aX P)=some z) : ∃e,fc P t=some e∧aX P e=some z:=by
 simpa [Option.bind_eq_some_iff] using h
@[simp] theorem Aa{P:Program}{t:TypeId}{z:Nat}(h:(fc P t).bind (aX P)=some z)(g:Get)(es:List AV)(c:Option Nat)(kd:IntKind)(k:Int) :
 aD P g t (some (.isl z es c)) (some (.v (.int kd k)))=if 0≤k∧k<es.length then some (.iptr z es k.toNat 0,[]) else none:=by
 obtain⟨e,he,hz⟩:=F9 h
 simp only[aD,Option.bind_some,uR,he,hz,and_true]
@[simp] theorem Py{P:Program}{t:TypeId}(ha:(tagg P t).isSome=true)(hn:(aX P t).isSome=true)(g:Get)(z:Nat)(es:List AV)(i j:Nat) :
 ai P g t (some (.iptr z es i j))=qVal (dE es i j ((aX P t).getD 0) ((tagg P t).getD false)):=by
 obtain⟨a,ha⟩:=Option.isSome_iff_exists.1 ha
 obtain⟨n,hn⟩:=Option.isSome_iff_exists.1 hn
 simp only[ai,ha,hn,Option.getD_some]
def Oj(x:Option Blk)(i j n:Nat)(ag:Bool):QRes:=match x with
 | some b=>qVal (dE b.es i j n ag)
 | none=>none
@[simp] theorem PM(b:Blk)(i j n:Nat)(ag:Bool):Oj (some b) i j n ag=qVal (dE b.es i j n ag):=id rfl
@[simp] theorem Q9{P:Program}{t:TypeId}(ha:(tagg P t).isSome=true)(hn:(aX P t).isSome=true)(g:Get)(r:Ref)(i j:Nat) :
 ai P g t (some (.ptr r i j))=Oj (g r) i j ((aX P t).getD 0) ((tagg P t).getD false):=by
 obtain⟨a,ha⟩:=Option.isSome_iff_exists.1 ha
 obtain⟨n,hn⟩:=Option.isSome_iff_exists.1 hn
 simp only[ai,ha,hn,Option.getD_some]
 rfl
@[simp] theorem IH(e:AV)(es:List AV)(j n:Nat):dE (e :: es) 0 j n true=if j+n≤e.cells.length∧0<n then some (.agg ((e.cells.drop j).take n)) else none:=id rfl
@[simp] theorem IG(e:AV)(es:List AV)(j n:Nat):dE (e :: es) 0 j n false=e.cells[j]?:=id rfl
def Sl(z:Nat)(es:List AV)(x:AV):Prop:=(x=aNil∧es=[]) ∨∃c,x = .isl z es c∧es.length≤c.getD es.length
theorem Sl.mk(z:Nat)(es:List AV):Sl z es (.isl z es none) := .inr ⟨none,rfl,Nat.le_refl _⟩
theorem Sl.len{z:Nat}{es:List AV}{x:AV}(h:Sl z es x):uQ x=some es.length:=by
 rcases h with ⟨rfl,rfl⟩ | ⟨c,rfl,_⟩<;>rfl
theorem Sl.isl{z:Nat}{es:List AV}{x:AV}(h:Sl z es x){i:Nat}(hi:i<es.length) : ∃c,x = .isl z es c∧es.length≤c.getD es.length:=by
 rcases h with ⟨rfl,rfl⟩ | h
 ·simp at hi
 ·exact h
theorem Sl.view{z:Nat}{es:List AV}{x:AV}(h:Sl z es x)(g:Get)(n:Nat):view g (n+1) x=some x:=by
 rcases h with ⟨rfl,rfl⟩ | ⟨c,rfl,_⟩<;>rfl
theorem Sl.refs{z:Nat}{es:List AV}{x:AV}(h:Sl z es x)(g:Get)(n:Nat):aw g n x=[]:=by
 rcases h with ⟨rfl,rfl⟩ | ⟨c,rfl,_⟩<;>cases n<;>rfl
theorem Sl.cells{z:Nat}{es:List AV}{x:AV}(h:Sl z es x):x.cells=[x]∧x.one=true:=by
 rcases h with ⟨rfl,_⟩ | ⟨c,rfl,_⟩<;>exact⟨rfl,rfl⟩
@[simp] theorem Qk(g:Get)(n:Nat)(x:Value):view g (n+1) (.v x)=some (.v x):=id rfl
@[simp] theorem Wk(g:Get)(n:Nat)(x:UInt8):view g (n+1) (a8 x)=some (a8 x):=id rfl
@[simp] theorem Uu(g:Get)(n:Nat)(x:UInt32):view g (n+1) (a32 x)=some (a32 x):=id rfl
@[simp] theorem Sr(g:Get)(n z:Nat)(es:List AV)(c:Option Nat):view g (n+1) (.isl z es c)=some (.isl z es c):=id rfl
@[simp] theorem Su(g:Get)(n:Nat)(cs:List AV):view g (n+1) (.agg cs)=(cs.mapM (view g n)).map .agg:=id rfl
@[simp] theorem Sq(g:Get)(n:Nat)(cs:List AV):view g (n+1) (.tup cs)=(cs.mapM (view g n)).map .tup:=id rfl
@[simp] theorem Qn(g:Get)(n z:Nat)(es:List AV)(i j:Nat):view g (n+1) (.iptr z es i j)=some (.iptr z es i j):=id rfl
@[simp] theorem Ss(g:Get)(n:Nat)(t:TypeId)(x:AV):view g (n+1) (.ifc t x)=(view g n x).map (.ifc t):=id rfl
theorem Bn{g:Get}{r:Ref}{b:Blk}(hr:g r=some b)(n o l:Nat)(c:Option Nat):view g (n+1) (.osl r o l c)=if b.arr=true∧o+l≤b.es.length then some (.isl b.esz ((b.es.drop o).take l) c) else none:=by
 simp only[view,hr]
theorem bm:depth=8:=Nat.le_antisymm (Nat.le_refl 8) (Nat.le_refl 8)
end Go.Ab
namespace Go.Ab
@[simp] theorem Heap.oA(r q:Ref)(b:Option Blk)(H:Heap):Heap.get ((r,b) :: H) q=if r=q then b else Heap.get H q:=id rfl
attribute [simp] Heap.an
@[simp] theorem Vh(P:Program)(r:Ref)(e:TypeId)(x:AV)(h0:0<(aX P e).getD 0):qBox P r e (some x)=if some x.cells.length=aX P e∧x.cells.all AV.one=true then some (.ptr r 0 0,[⟨(aX P e).getD 0,[x],false,false⟩]) else none:=by
 unfold qBox
 cases h:aX P e with
 | none=>simp
 | some n=>rw[h]at h0;simp only[Option.getD_some]at h0;simp[h0]
def Fr(H:Heap):Prop :=∀d t g k,H.gen d t≤g→H.get ⟨d,t,g,k⟩=none
theorem Fr.nil:Fr []:=fun _ _ _ _ _=>rfl
theorem Fr.keyed{H:Heap}(h:Fr H)(bs:List Blk)(d t:Nat):Fr (Ab.keyed ⟨d,t,H.gen d t,0⟩ 0 bs H):=by
 intro d' t' g k hg
 rw[Heap.jg]at hg
 rw[Heap.Dl]
 by_cases hb:bs=[]
 ·subst hb
  rw[if_neg (by simp)]at hg
  simp[h _ _ _ _ hg]
 ·by_cases hd:d'=d∧t'=t
  ·obtain⟨rfl,rfl⟩:=hd
   rw[if_pos ⟨rfl,rfl,hb⟩]at hg
   dsimp only at hg ⊢
   rw[if_neg (by intro hh;have:=hh.2.2.1;omega)]
   exact h _ _ _ _ (by omega)
  ·rw[if_neg (by intro hh;exact hd ⟨hh.1,hh.2.1⟩)]at hg
   dsimp only at hg ⊢
   rw[if_neg (by intro hh;exact hd ⟨hh.1,hh.2.1⟩)]
   exact h _ _ _ _ hg
theorem Fr.put{H:Heap}(h:Fr H){r:Ref}(b:Option Blk)(hr:(H.get r).isSome=true):Fr (H.put r b):=by
 intro d t g k hg
 rw[Heap.kM H r b hr]at hg
 rw[Heap.an]
 split
 ·rename_i e
  subst e
  rw[h _ _ _ _ hg]at hr
  cases hr
 ·exact h _ _ _ _ hg
theorem Fr.cons{H:Heap}(h:Fr H)(d t:Nat)(b:Option Blk):Fr ((⟨d,t,H.gen d t,0⟩,b) :: H):=by
 intro d' t' g k hg
 simp only[Heap.gen]at hg
 rw[Heap.oA]
 split at hg
 ·rename_i e
  obtain⟨rfl,rfl⟩:=e
  rw[if_neg (by intro e;injection e;omega)]
  exact h _ _ _ _ (by omega)
 ·rename_i e
  rw[if_neg (by intro e';injection e' with e1 e2;exact e ⟨e1,e2⟩)]
  exact h _ _ _ _ hg
theorem m6{H:Heap}(hF:Fr H){q:Ref}(h:(H.get q).isSome=true)(d t k:Nat):(⟨d,t,H.gen d t,k⟩:Ref)≠q:=by
 intro e;subst e;rw[hF _ _ _ _ (Nat.le_refl _)]at h;cases h
def elT(P:Program)(t z by':Nat):Bool:=match fc P t with
 | some e=>aX P e == some z&&pq P e == some by'&&(match gN P e with | some zz=>zz.cells.length == z&&zz.cells.all AV.one | none=>false)&&z != 0&&by' != 0
 | none=>false
def apT(P:Program)(t:TypeId):Bool:=(P.underlying t).isSome && !isInt P t
theorem iQ{P:Program}{t z by':Nat}(h:elT P t z by'=true) : ∃e zz,fc P t=some e∧aX P e=some z∧pq P e=some by'∧gN P e=some zz∧zz.cells.length=z∧zz.cells.all AV.one=true∧z≠0∧by'≠0:=by
 unfold elT at h
 split at h
 ·rename_i e he
  simp only[Bool.and_eq_true,beq_iff_eq,bne_iff_ne]at h
  obtain⟨⟨⟨⟨h1,h2⟩,h3⟩,h4⟩,h5⟩:=h
  split at h3
  ·rename_i zz hz
   simp only[Bool.and_eq_true,beq_iff_eq]at h3
   exact⟨e,zz,he,h1,h2,hz,h3.1,h3.2,h4,h5⟩
  ·cases h3
 ·cases h
def Els(g:Get)(z:Nat)(new:List AV)(x:AV):Prop:=(x=aNil∧new=[])∨(isNum x=false∧x≠aNil∧cW g x=some (z,new))
theorem Els.oR{P:Program}{t z by':Nat}(h:elT P t z by'=true){e:TypeId}(he:fc P t=some e){g:Get}{new:List AV}{x:AV}(hx:Els g z new x):oR P g e x=some (z,new):=by
 obtain⟨e',zz,h1,h2,h3,h4,h5,h6,h7,h8⟩:=iQ h
 rw[he]at h1;cases h1
 rcases hx with ⟨rfl,rfl⟩ | ⟨hn,hne,hx⟩
 ·simp only[Ab.oR,h2,Option.map_some]
 ·unfold Ab.oR
  split
  ·exact(hne rfl).elim
  ·simp[isNum]at hn
  ·exact hx
theorem Els.num{g:Get}{z:Nat}{new:List AV}{x:AV}(hx:Els g z new x):isNum x=false:=by
 rcases hx with ⟨rfl,_⟩ | ⟨hn,_⟩
 ·rfl
 ·exact hn
theorem Sl.els{z:Nat}{es:List AV}{x:AV}(h:Sl z es x)(g:Get):Els g z es x:=by
 rcases h with ⟨rfl,rfl⟩ | ⟨c,rfl,_⟩
 ·exact .inl ⟨rfl,rfl⟩
 ·exact .inr ⟨rfl,(by intro e;cases e),rfl⟩
def Own(z:Nat)(es:List AV)(H:Heap)(x:AV):Prop:=(x=aNil∧es=[]) ∨∃r,x = .osl r 0 es.length none∧H.get r=some ⟨z,es,true,false⟩
theorem I1(z:Nat)(H:Heap):Own z [] H aNil := .inl ⟨rfl,rfl⟩
theorem Own.len{z:Nat}{es:List AV}{H:Heap}{x:AV}(h:Own z es H x):uQ x=some es.length:=by
 rcases h with ⟨rfl,rfl⟩ | ⟨r,rfl,_⟩<;>rfl
theorem Own.view{z:Nat}{es:List AV}{H:Heap}{x:AV}(h:Own z es H x)(n:Nat) : ∃y,view H.get (n+1) x=some y∧Sl z es y:=by
 rcases h with ⟨rfl,rfl⟩ | ⟨r,rfl,hr⟩
 ·exact⟨aNil,rfl,.inl ⟨rfl,rfl⟩⟩
 ·refine⟨.isl z es none,?_,Sl.mk z es⟩
  rw[Bn hr]
  simp
theorem Own.els{z:Nat}{es:List AV}{H:Heap}{x:AV}(h:Own z es H x):Els H.get z es x:=by
 rcases h with ⟨rfl,rfl⟩ | ⟨r,rfl,hr⟩
 ·exact .inl ⟨rfl,rfl⟩
 ·refine .inr ⟨rfl,(by intro e;cases e),?_⟩
  simp[cW,hr]
def AV.at?:AV→Option Ref
 | .osl r _ _ _=>some r
 | .ptr r _ _=>some r
 | _=>none
theorem Own.osl{z:Nat}{es:List AV}{H:Heap}{x:AV}(h:Own z es H x)(hn:es≠[]) : ∃r,x = .osl r 0 es.length none∧H.get r=some ⟨z,es,true,false⟩:=by
 rcases h with ⟨_,rfl⟩ | h
 ·exact(hn rfl).elim
 ·exact h
end Go.Ab
