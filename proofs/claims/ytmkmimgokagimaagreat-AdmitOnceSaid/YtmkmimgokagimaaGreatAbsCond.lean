/-
  What is to be shown for a run of the abstract machine, as one proposition that is computed from the code. No statement of a seat is proved here.
  More fuel gives the same answer. No statement of a seat is proved here.
  What the abstract machine's operations yield on data: the rules for the conditions. No statement of a seat is proved here.
  Own memory in the conditions: appends, stores, loads, what is seen of it. No statement of a seat is proved here.
-/
import Derived.Test.YtmkmimgokagimaaGreatAbsEnv
import Derived.IntWalk
set_option linter.unusedVariables false
set_option linter.unusedSimpArgs false
namespace Go.Ab
abbrev eX:=Nat→AV
def dw(s:eX):Operand→Option AV
 | .tmp t=>some (s t)
 | .const v=>ofValue v
 | .func f=>some (.fn (.func f) [] [])
 | .global _=>none
def CD(ev:Operand→Option AV):List Operand→Option (List AV)
 | []=>some []
 | o :: os=>match ev o,CD ev os with
  | some x,some xs=>some (x :: xs)
  | _,_=>none
def BD(ev:Operand→Option AV):List (Nat × Operand)→Option (List (Nat × AV))
 | []=>some []
 | (i,o) :: os=>match ev o,BD ev os with
  | some x,some xs=>some ((i,x) :: xs)
  | _,_=>none
def optF(ev:Operand→Option AV):Option Operand→Option (Option Int)
 | none=>some none
 | some o=>match (ev o).bind vg with
  | some n=>some (some n)
  | none=>none
def fset(s:eX)(d:Nat)(v:AV):eX:=fun i=>cond (Nat.beq i d) v (s i)
def dT(tm:List AV)(s:eX):Prop :=∀i,tget tm i=s i
theorem sT{tm:List AV}{s:eX}(h:dT tm s):bh tm=dw s:=by
 funext o;cases o<;>simp[bh,dw,h _]
theorem CC(ev:Operand→Option AV)(l:List Operand):l.mapM ev=CD ev l:=by
 induction l with
 | nil=>rfl
 | cons o l ih =>
  simp only[List.mapM_cons,ih,CD,Option.pure_def,Option.bind_eq_bind]
  cases ev o<;>cases CD ev l<;>rfl
theorem Dz{tm:List AV}{s:eX}(h:dT tm s)(l:List (Nat × Operand)):fu tm l=BD (dw s) l:=by
 induction l with
 | nil=>rfl
 | cons o l ih =>
  obtain⟨i,o⟩:=o
  unfold fu at ih ⊢
  rw[List.mapM_cons,ih]
  simp only[BD,Option.pure_def,Option.bind_eq_bind,sT h]
  cases dw s o<;>cases BD (dw s) l<;>rfl
theorem EL{tm:List AV}{s:eX}(h:dT tm s)(o:Option Operand):kr tm o=optF (dw s) o:=by
 cases o with
 | none=>rfl
 | some o=>simp only[kr,optF,sT h];rfl
theorem dT.set{tm:List AV}{s:eX}(h:dT tm s)(d:Nat)(v:AV):dT (tset tm d v) (fset s d v):=by
 intro i
 rw[oX]
 unfold fset
 split
 ·rename_i e;subst e;simp
 ·rename_i e;rw[show Nat.beq i d=false from by cases hb:Nat.beq i d with | false=>rfl | true=>exact(e (Nat.eq_of_beq_eq_true hb)).elim];exact h i
def aM(c a b:Option AV):QRes :=
 match c.bind BL with
 | some true=>qVal a
 | some false=>qVal b
 | none=>none
def nRes(H:Heap)(r:Ref)(q:QRes):WRes :=
 match q with
 | some (v,bs)=>some (v,keyed r 0 bs H)
 | none=>none
def orW(wk:Bool)(a b:WRes):WRes :=
 match a with
 | some x=>some x
 | none=>cond wk b none
def aG(E:Env)(wk:Bool)(pc:FuncId→List AV→Option AV)(tc:Tgt→List AV→Heap→WRes)(H:Heap)(r:Ref)(f:Option AV)(args:List AV):WRes :=
 orW wk (nRes H r (jF E pc H.get r f args)) (mI E pc tc H r f args)
def jT(E:Env)(wk:Bool)(pc:FuncId→List AV→Option AV)(tc:Tgt→List AV→Heap→WRes)(H:Heap)(r:Ref)(f:Option AV)(args:List AV):WRes :=
 orW wk (nRes H r ((jF E pc H.get r f args).map fun p=>(p.1,frzB true p.2))) (oN true E.sm H (mI E pc tc H r f args))
def cO(P:Program)(wk:Bool)(H:Heap)(r:Ref)(t t':Option TypeId)(s x:AV):WRes :=
 orW wk (nRes H r (gw P H.get r t t' s x)) (jW P H t t' s x)
def gm(P:Program)(draw wk:Bool)(H:Heap)(r:Ref)(t:TypeId)(n:Nat)(vs:Option (List (Nat × AV))):WRes :=
 orW wk (nRes H r (eK P draw H.get r t n vs)) (fW P H r t n vs)
def wy(E:Env)(pc:FuncId→List AV→Option AV)(tc:Tgt→List AV→Heap→WRes)(dep:Nat)(draw wk:Bool)(s:eX)(H:Heap)(r:Ref)(o:Oper):QRes ⊕ WRes :=
 match o.op with
 | .move x | .assign x => .inl (qVal (dw s x))
 | .pick c a b => .inl (aM (dw s c) (dw s a) (dw s b))
 | .alloc e => .inr (nRes H r (bq E.P r e))
 | .box e x => .inr (nRes H r (qBox E.P r e (dw s x)))
 | .build t ps => .inl (bI E.P t (BD (dw s) ps.toList))
 | .buildSlice t n ps => .inr (gm E.P (draw && !E.strict o) wk H r t n (BD (dw s) ps.toList))
 | .load t a => .inl (ai E.P H.get t (dw s a))
 | .store t a x => .inr (cond wk (aC E.P H t (dw s a) (dw s x)) none)
 | .nilCheck x => .inl (qNil (dw s x))
 | .binOp op t xo yo _ => .inl (qBin E.P op t xo yo (dw s xo) (dw s yo))
 | .unOp op _ x => .inl (qUn E.P op (dw s x))
 | .convert src dst x=>match dD E.P dst with
  | true => .inr (nRes H r (cL E.P H.get r src dst (dw s x)))
  | false => .inl (cL E.P H.get r src dst (dw s x))
 | .makeInterface t x => .inl (o4 E.P t (dw s x))
 | .makeFunc f first captured => .inl (gI f (CD (dw s) first.toList) (CD (dw s) captured.toList))
 | .makeSlice t l c => .inr (nRes H r (Dx E.P r t (dw s l) (dw s c)))
 | .slice t x lo hi mx=>match E.wide o && !draw with
  | true => .inl (rl E.P H.get t (dw s x) (optF (dw s) lo) (optF (dw s) hi) (optF (dw s) mx))
  | false => .inl (fc E.P H.get t (dw s x) (optF (dw s) lo) (optF (dw s) hi) (optF (dw s) mx))
 | .fieldAddr t x f => .inl (aa E.P t (dw s x) f)
 | .field t x f => .inl (nO E.P t (dw s x) f)
 | .indexAddr t x ix => .inl (aH E.P H.get t (dw s x) (dw s ix))
 | .index t x ix => .inl (nN E.P t (dw s x) (dw s ix))
 | .typeAssert x _ want ok => .inl (om E.P (dw s x) want ok)
 | .extract x i => .inl (aq (dw s x) i)
 | .call c =>
  match CD (dw s) c.args.toList with
  | none => .inl none
  | some args =>
   match c.callee with
   | .value f=>(match DA E.over draw f with
    | some t => .inl (I9 E.P H.get t args)
    | none=>(match E.frz o with
     | true => .inr (jT E wk pc tc H r (dw s f) args)
     | false => .inr (aG E wk pc tc H r (dw s f) args)))
   | .invoke _ _ => .inl none
   | .builtin b=>match b,args with
    | .append,[a,x] => .inr (cO E.P wk H r c.argTypes[0]? c.argTypes[1]? a x)
    | .copy,[dst,x]=>(match E.wide o with
     | true => .inr (cond wk (C5 E.P H c.argTypes[0]? dst x) none)
     | false => .inr (cond wk (Ia E.P H c.argTypes[0]? dst x) none))
    | b,args => .inl (aA E.P (draw&&(E.strict o || !(match c.args.toList with | [.tmp _]=>true | _=>false))) H.get r b c.argTypes args)
 | .makeMap _ none => .inr (nRes H r (some (.mp r,[bm []])))
 | .lookup t x k ok => .inl (cE E.P H.get t (dw s x) (dw s k) ok)
 | .mapUpdate t m k x => .inr (cond wk (cR E.P H t (dw s m) (dw s k) (dw s x)) none)
 | .insert t m k x => .inr (cond wk (cR E.P H t (dw s m) (dw s k) (dw s x)) none)
 | .mapEntry t m k => .inr (cond wk (dy E.P H t (dw s m) (dw s k)) none)
 | .entryStore _ m n x => .inr (cond wk (cB H (dw s m) (dw s n) (dw s x)) none)
 | _ => .inl none
def ph(E:Env)(pc:FuncId→List AV→Option AV)(tc:Tgt→List AV→Heap→WRes)(dep:Nat)(draw:Bool)(tm:List AV)(H:Heap)(o:Oper):WRes :=
 match dp E pc draw H.get tm ⟨dep,o.dst.getD 0,H.gen dep (o.dst.getD 0),0⟩ o with
 | some (x,bs)=>some (x,keyed ⟨dep,o.dst.getD 0,H.gen dep (o.dst.getD 0),0⟩ 0 bs H)
 | none=>if draw && !iZ E o then none else evalW E pc tc H tm ⟨dep,o.dst.getD 0,H.gen dep (o.dst.getD 0),0⟩ o
theorem CM(E:Env)(pc:FuncId→List AV→Option AV)(tc:Tgt→List AV→Heap→WRes)(nt dep:Nat)(draw:Bool)(ops:Array Oper)(o:Oper)(st:St) :
 evalOp E pc tc nt dep draw ops o st=(match wanted ops st.tm o with
  | none=>none
  | some false=>(dq nt st.tm o.dst AV.undef).map fun tm => { st with tm}
  | some true=>match ph E pc tc dep draw st.tm st.hp o with
   | some (x,H)=>(dq nt st.tm o.dst x).map fun tm=>⟨tm,H⟩
   | none=>none):=by
 unfold evalOp ph
 cases hw:wanted ops st.tm o with
 | none=>rfl
 | some b =>
 cases b with
 | false=>rfl
 | true =>
  cases dp E pc draw st.hp.get st.tm ⟨dep,o.dst.getD 0,st.hp.gen dep (o.dst.getD 0),0⟩ o with
  | some p=>rfl
  | none =>
   dsimp only
   split
   ·rfl
   ·rfl
theorem PH{E:Env}{pc:FuncId→List AV→Option AV}{tc:Tgt→List AV→Heap→WRes}{dep:Nat}{draw:Bool}{tm:List AV}{H:Heap}{o:Oper}{v:AV}
 (h:dp E pc draw H.get tm ⟨dep,o.dst.getD 0,H.gen dep (o.dst.getD 0),0⟩ o=some (v,[])):ph E pc tc dep draw tm H o=some (v,H):=by
 unfold ph;rw[h];rfl
theorem Kd{E:Env}{pc:FuncId→List AV→Option AV}{tc:Tgt→List AV→Heap→WRes}{dep:Nat}{draw:Bool}{tm:List AV}{H H':Heap}{o:Oper}{v:AV}{q:QRes}
 (h:dp E pc draw H.get tm ⟨dep,o.dst.getD 0,H.gen dep (o.dst.getD 0),0⟩ o=q) (hq:nRes H ⟨dep,o.dst.getD 0,H.gen dep (o.dst.getD 0),0⟩ q=some (v,H')):ph E pc tc dep draw tm H o=some (v,H'):=by
 unfold ph;rw[h]
 unfold nRes at hq
 split at hq
 ·exact hq
 ·cases hq
theorem nu{E:Env}{pc:FuncId→List AV→Option AV}{tc:Tgt→List AV→Heap→WRes}{dep:Nat}{draw:Bool}{tm:List AV}{H H':Heap}{o:Oper}{v:AV}{q:QRes}{w:WRes}
 (h:dp E pc draw H.get tm ⟨dep,o.dst.getD 0,H.gen dep (o.dst.getD 0),0⟩ o=q) (hw:evalW E pc tc H tm ⟨dep,o.dst.getD 0,H.gen dep (o.dst.getD 0),0⟩ o=w)
 (hq:orW (!(draw && !iZ E o)) (nRes H ⟨dep,o.dst.getD 0,H.gen dep (o.dst.getD 0),0⟩ q) w=some (v,H')):ph E pc tc dep draw tm H o=some (v,H'):=by
 unfold ph;rw[h]
 cases q with
 | some p=>simpa [orW,nRes] using hq
 | none =>
  rw[hw]
  cases hd:(draw && !iZ E o) with
  | true=>rw[hd]at hq;simp[orW,nRes]at hq
  | false=>rw[hd]at hq;simpa [orW,nRes] using hq
section
variable{E:Env}{pc:FuncId→List AV→Option AV}{tc:Tgt→List AV→Heap→WRes}{dep:Nat}{draw:Bool}{tm:List AV}{s:eX}{H:Heap}{o:Oper}
theorem ON(hs:dT tm s){q:QRes}{v:AV}
 (h:wy E pc tc dep draw (!(draw && !iZ E o)) s H ⟨dep,o.dst.getD 0,H.gen dep (o.dst.getD 0),0⟩ o = .inl q) (hq:q=some (v,[])):ph E pc tc dep draw tm H o=some (v,H):=by
 subst hq
 refine PH ?_
 have e:=sT hs
 unfold wy at h
 unfold dp
 split at h<;>rename_i ho<;>simp only[ho]
 all_goals try (simp only[Sum.inl.injEq,reduceCtorEq]at h)
 all_goals try (rw[←h];simp only[e,aM,ED,Dz hs,EL hs,CC];done)
 ·rw[←h];unfold ED aM;rw[e];rfl
 ·split at h
  ·cases h
  ·simp only[Sum.inl.injEq]at h;rw[←h,e]
 ·cases hwd:(E.wide o && !draw) with
  | true=>rw[hwd]at h;simp only[Sum.inl.injEq]at h;rw[←h];simp only[cond_true,e,EL hs]
  | false=>rw[hwd]at h;simp only[Sum.inl.injEq]at h;rw[←h];simp only[cond_false,e,EL hs]
 ·rw[CC,e]
  split at h
  ·cases h
  ·rename_i args hargs
   rw[hargs]
   dsimp only
   split at h
   ·rename_i f hf
    rw[hf]
    dsimp only
    split at h
    ·rename_i t ht
     simp only[Sum.inl.injEq]at h
     simp only[ht]
     exact h
    ·split at h<;>cases h
   ·cases h
   ·rename_i b hb
    rw[hb]
    dsimp only
    split at h
    ·cases h
    ·split at h<;>cases h
    ·simp only[Sum.inl.injEq]at h;exact h
theorem OM(hs:dT tm s){w:WRes}{v:AV}{H':Heap}
 (h:wy E pc tc dep draw (!(draw && !iZ E o)) s H ⟨dep,o.dst.getD 0,H.gen dep (o.dst.getD 0),0⟩ o = .inr w) (hw:w=some (v,H')):ph E pc tc dep draw tm H o=some (v,H'):=by
 subst hw
 have e:=sT hs
 unfold wy at h
 split at h<;>rename_i ho
 all_goals try (simp only[reduceCtorEq]at h;done)
 all_goals try (simp only[Sum.inr.injEq]at h)
 all_goals try (refine Kd (by unfold dp;simp only[ho,e]) h;done)
 ·rw[←Dz hs]at h
  exact nu (q:=eK _ _ _ _ _ _ _) (w:=fW _ _ _ _ _ _) (by unfold dp;simp only[ho]) (by unfold evalW;simp only[ho]) h
 ·rw[←e]at h
  exact nu (q:=none) (w:=aC _ _ _ _ _) (by unfold dp;simp only[ho]) (by unfold evalW;simp only[ho]) h
 ·split at h
  ·simp only[Sum.inr.injEq]at h
   refine Kd (by unfold dp;simp only[ho,e]) h
  ·cases h
 ·split at h<;>cases h
 ·split at h
  ·cases h
  ·rename_i args hargs
   have ha:=hargs
   rw[←CC,←e]at ha
   split at h
   ·rename_i f hf
    split at h
    ·cases h
    ·rename_i hov
     split at h
     ·rename_i hfz
      simp only[Sum.inr.injEq]at h
      rw[←e]at h
      exact nu (q:=(jF _ _ _ _ _ _).map _) (w:=oN true _ _ (mI _ _ _ _ _ _ _)) (by unfold dp;simp only[ho,ha,hf,hov,hfz]) (by unfold evalW;simp only[ho,ha,hf,hfz]) h
     ·rename_i hfz
      simp only[Sum.inr.injEq]at h
      rw[←e]at h
      exact nu (q:=jF _ _ _ _ _ _) (w:=mI _ _ _ _ _ _ _) (by unfold dp;simp only[ho,ha,hf,hov,hfz,frzB];cases jF E pc H.get _ (bh tm f) args<;>rfl) (by unfold evalW;simp only[ho,ha,hf,hfz];rfl) h
   ·cases h
   ·rename_i b hb
    split at h
    ·simp only[Sum.inr.injEq]at h
     exact nu (q:=gw _ _ _ _ _ _ _) (w:=jW _ _ _ _ _ _) (by unfold dp;simp only[ho,ha,hb];rfl) (by unfold evalW;simp only[ho,ha,hb]) h
    ·split at h
     ·rename_i hwd
      simp only[Sum.inr.injEq]at h
      exact nu (q:=none) (w:=C5 _ _ _ _ _) (by unfold dp;simp only[ho,ha,hb];rfl) (by unfold evalW;simp only[ho,ha,hb,hwd,cond_true]) h
     ·rename_i hwd
      simp only[Sum.inr.injEq]at h
      exact nu (q:=none) (w:=Ia _ _ _ _ _) (by unfold dp;simp only[ho,ha,hb];rfl) (by unfold evalW;simp only[ho,ha,hb,hwd,cond_false]) h
    ·cases h
 ·rw[←e]at h
  exact nu (q:=none) (w:=cR _ _ _ _ _ _) (by unfold dp;simp only[ho]) (by unfold evalW;simp only[ho]) h
 ·rw[←e]at h
  exact nu (q:=none) (w:=cR _ _ _ _ _ _) (by unfold dp;simp only[ho]) (by unfold evalW;simp only[ho]) h
 ·rw[←e]at h
  exact nu (q:=none) (w:=dy _ _ _ _ _) (by unfold dp;simp only[ho]) (by unfold evalW;simp only[ho]) h
 ·rw[←e]at h
  exact nu (q:=none) (w:=cB _ _ _ _) (by unfold dp;simp only[ho]) (by unfold evalW;simp only[ho]) h
end
open Classical in
noncomputable def limf(E:Env)(f:FuncId)(args:List AV):Option AV :=
 if h : ∃y n,∀m,n≤m→aU E (runA E m) f args=some y then some h.choose else none
theorem uw{E:Env}{f:FuncId}{args:List AV}{y:AV}:limf E f args=some y ↔ ∃n,∀m,n≤m→aU E (runA E m) f args=some y:=by
 unfold limf
 constructor
 ·intro h
  split at h
  ·rename_i hh
   simp only[Option.some.injEq]at h
   rw[←h]
   exact hh.choose_spec
  ·cases h
 ·intro h
  rw[dif_pos ⟨y,h⟩]
  obtain⟨n,hn⟩:=h
  have hh : ∃y n,∀m,n≤m→aU E (runA E m) f args=some y:=⟨y,n,hn⟩
  obtain⟨n',hn'⟩:=hh.choose_spec
  have h1:=hn (max n n') (Nat.le_max_left ..)
  have h2:=hn' (max n n') (Nat.le_max_right ..)
  exact h2.symm.trans h1
open Classical in
noncomputable def limt(E:Env)(dep:Nat)(f:Tgt)(args:List AV)(H:Heap):WRes :=
 if h : ∃y n,∀m,n≤m→dV E (runA E m) dep f args H=some y then some h.choose else none
theorem uv{E:Env}{dep:Nat}{f:Tgt}{args:List AV}{H:Heap}{y:AV × Heap}:limt E dep f args H=some y ↔ ∃n,∀m,n≤m→dV E (runA E m) dep f args H=some y:=by
 unfold limt
 constructor
 ·intro h
  split at h
  ·rename_i hh
   simp only[Option.some.injEq]at h
   rw[←h]
   exact hh.choose_spec
  ·cases h
 ·intro h
  rw[dif_pos ⟨y,h⟩]
  obtain⟨n,hn⟩:=h
  have hh : ∃y n,∀m,n≤m→dV E (runA E m) dep f args H=some y:=⟨y,n,hn⟩
  obtain⟨n',hn'⟩:=hh.choose_spec
  have h1:=hn (max n n') (Nat.le_max_left ..)
  have h2:=hn' (max n n') (Nat.le_max_right ..)
  exact h2.symm.trans h1
theorem Fx{E:Env}{wk:Bool}{dep:Nat}{H H':Heap}{r:Ref}{f:Option AV}{args:List AV}{v:AV}(h:aG E wk (limf E) (limt E dep) H r f args=some (v,H')) :
 ∃n,∀m,n≤m→aG E wk (aU E (runA E m)) (dV E (runA E m) dep) H r f args=some (v,H'):=by
 unfold aG at h ⊢
 by_cases hf : ∃fi first captured,f=some (.fn (.func fi) first captured)
 ·obtain⟨fi,first,captured,rfl⟩:=hf
  by_cases h2:E.mode fi=2
  ·simp only[jF,mI,if_pos h2,nRes,orW]at h ⊢
   cases wk with
   | true =>
    simp only[cond_true]at h ⊢
    obtain⟨n,hn⟩:=uv.1 h
    exact⟨n,hn⟩
   | false=>simp at h
  ·simp only[jF,mI,if_neg h2]at h ⊢
   cases hx:(first++args++captured).mapM (view H.get depth) with
   | none=>rw[hx]at h;simp[nRes,orW]at h
   | some xs =>
    rw[hx]at h
    dsimp only at h ⊢
    cases hy:limf E fi xs with
    | none=>rw[hy]at h;simp[nRes,orW]at h
    | some y =>
     rw[hy]at h
     obtain⟨n,hn⟩:=uw.1 hy
     refine⟨n,fun m hm=>?_⟩
     rw[hn m hm]
     exact h
 ·have h1 : ∀pc,jF E pc H.get r f args=none:=by
   intro pc
   unfold jF
   split
   ·exact(hf ⟨_,_,_,rfl⟩).elim
   ·rfl
  by_cases hy : ∃q,f=some (.yld q)
  ·obtain⟨q,rfl⟩:=hy
   rw[h1]at h
   cases wk with
   | false=>simp[nRes,orW]at h
   | true =>
    have h':limt E dep (.yld q) args H=some (v,H'):=h
    obtain⟨n,hn⟩:=uv.1 h'
    refine⟨n,fun m hm=>?_⟩
    rw[h1]
    exact hn m hm
  ·have h2 : ∀pc tc,mI E pc tc H r f args=none:=by
    intro pc tc
    unfold mI
    split
    ·exact(hf ⟨_,_,_,rfl⟩).elim
    ·exact(hy ⟨_,rfl⟩).elim
    ·rfl
   rw[h1,h2]at h
   cases wk<;>simp[nRes,orW]at h
theorem Bp{sm:Same}{H H':Heap}{x:WRes}{v:AV}(h:oN true sm H x=some (v,H')) : ∃H1,x=some (v,H1)∧H'=H∧flat depth v=true∧(CG H H1||sm.f H H1)=true:=by
 cases x with
 | none=>simp[oN]at h
 | some p =>
  obtain⟨y,H1⟩:=p
  unfold oN at h
  simp only at h
  split at h
  ·rename_i hc
   cases h
   rw[Bool.and_eq_true]at hc
   exact⟨H1,rfl,rfl,hc.1,hc.2⟩
  ·cases h
theorem D4{E:Env}{wk:Bool}{dep:Nat}{H H':Heap}{r:Ref}{f:Option AV}{args:List AV}{v:AV}(h:jT E wk (limf E) (limt E dep) H r f args=some (v,H')) :
 ∃n,∀m,n≤m→jT E wk (aU E (runA E m)) (dV E (runA E m) dep) H r f args=some (v,H'):=by
 unfold jT at h ⊢
 by_cases hf : ∃fi first captured,f=some (.fn (.func fi) first captured)
 ·obtain⟨fi,first,captured,rfl⟩:=hf
  by_cases h2:E.mode fi=2
  ·simp only[jF,mI,if_pos h2,nRes,orW,Option.map_none]at h ⊢
   cases wk with
   | true =>
    simp only[cond_true]at h ⊢
    obtain⟨H1,e1,e2,e3,e4⟩:=Bp h
    obtain⟨n,hn⟩:=uv.1 e1
    refine⟨n,fun m hm=>?_⟩
    rw[hn m hm]
    rw[e1]at h
    exact h
   | false=>simp at h
  ·simp only[jF,mI,if_neg h2]at h ⊢
   cases hx:(first++args++captured).mapM (view H.get depth) with
   | none=>rw[hx]at h;simp[nRes,orW,oN]at h
   | some xs =>
    rw[hx]at h
    dsimp only at h ⊢
    cases hy:limf E fi xs with
    | none=>rw[hy]at h;simp[nRes,orW,oN]at h
    | some y =>
     rw[hy]at h
     obtain⟨n,hn⟩:=uw.1 hy
     refine⟨n,fun m hm=>?_⟩
     rw[hn m hm]
     exact h
 ·have h1 : ∀pc,jF E pc H.get r f args=none:=by
   intro pc
   unfold jF
   split
   ·exact(hf ⟨_,_,_,rfl⟩).elim
   ·rfl
  by_cases hy : ∃q,f=some (.yld q)
  ·obtain⟨q,rfl⟩:=hy
   rw[h1]at h
   cases wk with
   | false=>simp[nRes,orW]at h
   | true =>
    have h':oN true E.sm H (limt E dep (.yld q) args H)=some (v,H'):=h
    obtain⟨H1,e1,_⟩:=Bp h'
    obtain⟨n,hn⟩:=uv.1 e1
    refine⟨n,fun m hm=>?_⟩
    rw[h1]
    show oN true E.sm H (dV E (runA E m) dep (.yld q) args H)=_
    rw[hn m hm]
    rw[e1]at h'
    exact h'
  ·have h2 : ∀pc tc,mI E pc tc H r f args=none:=by
    intro pc tc
    unfold mI
    split
    ·exact(hf ⟨_,_,_,rfl⟩).elim
    ·exact(hy ⟨_,rfl⟩).elim
    ·rfl
   rw[h1,h2]at h
   cases wk<;>simp[nRes,orW,oN]at h
theorem DB{E:Env}{dep:Nat}{draw wk:Bool}{s:eX}{H:Heap}{r:Ref}{o:Oper} :
 (∀q v,wy E (limf E) (limt E dep) dep draw wk s H r o = .inl q→q=some (v,[]) →∃n,∀m,n≤m→wy E (aU E (runA E m)) (dV E (runA E m) dep) dep draw wk s H r o = .inl (some (v,[]))) ∧
 (∀w v H',wy E (limf E) (limt E dep) dep draw wk s H r o = .inr w→w=some (v,H') →∃n,∀m,n≤m→wy E (aU E (runA E m)) (dV E (runA E m) dep) dep draw wk s H r o = .inr (some (v,H'))):=by
 constructor
 ·intro q v h hq
  subst hq
  refine⟨0,fun m _=>?_⟩
  unfold wy at h ⊢
  generalize o.op=op at h ⊢
  cases op
  all_goals try exact h
  case makeMap a b=>cases b<;>exact h
  rename_i c
  dsimp only at h ⊢
  cases ha:CD (dw s) c.args.toList with
  | none=>rw[ha]at h;exact h
  | some args =>
   rw[ha]at h
   dsimp only at h ⊢
   cases hc:c.callee with
   | value f =>
    rw[hc]at h
    dsimp only at h ⊢
    cases hov:DA E.over draw f with
    | some t=>rw[hov]at h;exact h
    | none=>rw[hov]at h;dsimp only at h;split at h<;>cases h
   | invoke a b=>rw[hc]at h;exact h
   | builtin b=>rw[hc]at h;exact h
 ·intro w v H' h hw
  subst hw
  unfold wy at h ⊢
  generalize o.op=op at h ⊢
  cases op
  all_goals try (exact⟨0,fun m _=>h⟩)
  case makeMap a b=>cases b<;>exact⟨0,fun m _=>h⟩
  rename_i c
  dsimp only at h ⊢
  cases ha:CD (dw s) c.args.toList with
  | none=>rw[ha]at h;cases h
  | some args =>
   rw[ha]at h
   dsimp only at h ⊢
   cases hc:c.callee with
   | value f =>
    rw[hc]at h
    dsimp only at h ⊢
    cases hov:DA E.over draw f with
    | some t=>rw[hov]at h;cases h
    | none =>
    rw[hov]at h
    dsimp only at h ⊢
    cases hfz:E.frz o with
    | true =>
     rw[hfz]at h
     simp only[Sum.inr.injEq]at h
     obtain⟨n,hn⟩:=D4 h
     exact⟨n,fun m hm=>congrArg _ (hn m hm)⟩
    | false =>
     rw[hfz]at h
     simp only[Sum.inr.injEq]at h
     obtain⟨n,hn⟩:=Fx h
     exact⟨n,fun m hm=>congrArg _ (hn m hm)⟩
   | invoke a b=>rw[hc]at h;cases h
   | builtin b=>rw[hc]at h;exact⟨0,fun m _=>h⟩
abbrev Mk{α:Type}(a:α):Type:=Unit
structure doQ (q:QRes) (K:AV→Prop) (m:Mk K:=()):Prop where
 h : ∃v,q=some (v,[])∧K v
structure doW (w:WRes) (K:AV→Heap→Prop) (m:Mk K:=()):Prop where
 h : ∃v H,w=some (v,H)∧K v H
def QW(x:AV)(want:Bool):Option Bool :=
 match x with
 | .v (.bool b)=>some (b == want)
 | .v (.tuple vs)=>if vs.isEmpty then some false else none
 | _=>none
def gd(x:AV)(want:Bool)(A B:Prop):Prop :=
 match QW x want with
 | some true=>A
 | some false=>B
 | none=>False
structure gQ (x:AV) (want:Bool) (q:QRes) (K:AV→Prop) (m:Mk (q,K):=()):Prop where
 h:gd x want (doQ q K) (K AV.undef)
structure gW (x:AV) (want:Bool) (H:Heap) (w:WRes) (K:AV→Heap→Prop) (m:Mk (w,K):=()):Prop where
 h:gd x want (doW w K) (K AV.undef H)
def brP(x:Option AV)(A B:Prop):Prop :=
 match x.bind BL with
 | some b=>cond b A B
 | none=>False
structure br (x:Option AV) (A B:Prop) (m:Mk (A,B):=()):Prop where
 h:brP x A B
def Gu(ops:Array Oper)(s:eX)(o:Oper):Option (Option (AV × Bool)) :=
 match o.guard with
 | none=>none
 | some (j,want)=>match (ops[j]?).bind (·.dst) with
  | some t=>some (some (s t,want))
  | none=>some none
def putF(nt:Nat)(s:eX)(dst:Option Tmp)(v:AV)(K:eX→Prop):Prop :=
 match dst with
 | none=>K s
 | some d=>cond (Nat.blt d nt) (K (fset s d v)) False
def wpOp(E:Env)(nt dep:Nat)(draw:Bool)(ops:Array Oper)(o:Oper)(s:eX)(H:Heap)(K:eX→Heap→Prop):Prop :=
 match wy E (limf E) (limt E dep) dep draw (!(draw && !iZ E o)) s H ⟨dep,o.dst.getD 0,H.gen dep (o.dst.getD 0),0⟩ o with
 | .inl q=>match Gu ops s o with
  | none=>(match o.op with
   | .move x | .assign x=>(match dw s x with
    | some v=>putF nt s o.dst v fun s=>K s H
    | none=>False)
   | _=>doQ q fun v=>putF nt s o.dst v fun s=>K s H)
  | some (some (x,want))=>gQ x want q fun v=>putF nt s o.dst v fun s=>K s H
  | some none=>putF nt s o.dst AV.undef fun s=>K s H
 | .inr w=>match Gu ops s o with
  | none=>doW w fun v H=>putF nt s o.dst v fun s=>K s H
  | some (some (x,want))=>gW x want H w fun v H=>putF nt s o.dst v fun s=>K s H
  | some none=>putF nt s o.dst AV.undef fun s=>K s H
def wpOps(E:Env)(nt dep:Nat)(draw:Bool)(ops:Array Oper):List Oper→eX→Heap→(eX→Heap→Prop)→Prop
 | [],s,H,K=>K s H
 | o :: os,s,H,K=>wpOp E nt dep draw ops o s H fun s H=>wpOps E nt dep draw ops os s H K
def Fin(E:Env)(fn:Func)(rd:Option Ref)(o:Option St)(y:AV)(H':Heap):Prop:=match rd with
 | none =>∃st,o=some st∧sM E.P fn st=some y∧st.hp=H'
 | some r =>∃st n,o=tq (some r) st n∧y = .v (.int .i64 (n:Nat))∧st.hp=H'
def Goes(E:Env)(fn:Func)(rd:Option Ref)(dep:Nat)(items:List Item)(s:eX)(H:Heap)(Q:AV→Heap→Prop):Prop :=
 ∀tm,dT tm s →∃y H',Q y H' ∧∃n,∀m,n≤m→Fin E fn rd (runA E m rd fn.ntmps dep items ⟨tm,H⟩) y H'
def ofL(g:eX):List (Nat × AV)→eX
 | [],i=>g i
 | (j,v) :: l,i=>cond (Nat.beq i j) v (ofL g l i)
structure GoX (E:Env) (fn:Func) (rd:Option Ref) (dep:Nat) (items:List Item) (l:List (Nat × AV)) (H:Heap) (Q:AV→Heap→Prop):Prop where
 h : ∀g,Goes E fn rd dep items (ofL g l) H Q
abbrev GoL(E:Env)(fn:Func)(dep:Nat)(items:List Item)(l:List (Nat × AV))(H:Heap)(Q:AV→Heap→Prop):Prop:=GoX E fn none dep items l H Q
def Ce(s:eX):List Nat→List (Nat × AV)
 | []=>[]
 | t :: ts=>(t,s t) :: Ce s ts
theorem LS(s:eX)(l:List Nat):ofL s (Ce s l)=s:=by
 induction l with
 | nil=>rfl
 | cons t l ih =>
  funext i
  show cond (Nat.beq i t) (s t) (ofL s (Ce s l) i)=s i
  rw[ih]
  cases h:Nat.beq i t with
  | true=>rw[Nat.eq_of_beq_eq_true h];rfl
  | false=>rfl
def gZ:Code→Option Nat
 | .region id _ _=>some id
 | .seq a b=>match gZ a with
  | some i=>some i
  | none=>gZ b
 | .cond _ a b=>match gZ a with
  | some i=>some i
  | none=>gZ b
 | .block _ c | .loop c | .scope c=>gZ c
 | _=>none
def ba(P:Program)(H:Heap)(x:AV)(t:TypeId):QRes :=
 match x,tagg P t,aP P t with
 | .ptr r i j,some g,some n=>match H.get r with
  | some b=>qVal (fD b.es i j n g)
  | none=>none
 | _,_,_=>none
def pack:List AV→AV
 | [] => .v (.tuple #[])
 | [x]=>x
 | xs => .tup xs
def Ed(P:Program)(s:eX)(H:Heap)(Q:AV→Heap→Prop):List ResultVar→List AV→Prop
 | [],acc=>Q (pack acc.reverse) H
 | .tmp t :: rs,acc=>Ed P s H Q rs (s t :: acc)
 | .cell a t :: rs,acc=>doQ (ba P H (s a) t) fun v=>Ed P s H Q rs (v :: acc)
def kq(x y:AV):Bool:=match iH x,iH y with
 | some r,some r'=>decide (r≠r')
 | _,_=>true
def tk(H:Heap)(x:AV):Bool:=match x with
 | .ptr r _ _=>(match H.get r with
  | some b => !b.arr
  | none=>false)
 | _=>true
def bsV(x:AV):Bool:=match x with
 | .osl .. => true
 | .v _=>true
 | _=>false
def M4(s:eX)(p:Tmp × Tmp):Bool:=kq (s p.1) (s p.2)
def Bv(s:eX)(H:Heap)(o:Oper):Bool:=match o.op with
 | .store _ (.tmp t) _=>tk H (s t)
 | _=>true
def Kp(E:Env)(s:eX)(o:Oper):Bool := !(E.frz o&&bsOp o.op)||(match bsT o.op with
 | some t=>bsV (s t)
 | none=>false)
def NS(E:Env)(l:List (Tmp × Tmp))(ops:Array Oper)(s:eX)(H:Heap):Prop:=l.all (M4 s)=true∧ops.toList.all (Bv s H)=true∧ops.toList.all (Kp E s)=true
def jn(l:List (AV × AV))(st bs:List AV)(H:Heap):Prop:=(l.all fun p=>kq p.1 p.2)=true∧st.all (tk H)=true∧bs.all bsV=true
def RR(assign body:Code):Nat:=match gZ (.seq assign body) with
 | some i=>i+10000
 | none=>10000
structure bgP (o:Option (Nat × AV)) (K:AV→Prop) (m:Mk K:=()):Prop where
 h : ∃info,o=some (0,info)∧K info
def HV(P:Program)(fn:Func)(rd:Option Ref)(code:Nat)(s:eX)(H:Heap)(Q:AV→Heap→Prop):Prop:=match rd with
 | none=>cond (Nat.ble code 2) (Ed P s H Q fn.results.toList []) False
 | some _=>Q (.v (.int .i64 code)) H
def wp(E:Env)(fn:Func)(rd:Option Ref)(dep:Nat)(live:Nat→Option (List Nat))(cut:Nat→Bool)(Q:AV→Heap→Prop):Nat→List Item→eX→Heap→Prop
 | 0,items,s,H=>Goes E fn rd dep items s H Q
 | n+1,items,s,H =>
  match items with
  | []=>HV E.P fn rd 0 s H Q
  | .beginRound :: k=>(match rd with
   | none=>False
   | some r=>bgP (lpAt H r) fun info=>wp E fn rd dep live cut Q n k s (H.put r (some (kg 1 info))))
  | .code c :: k =>
   (match c with
   | .skip | .label _=>wp E fn rd dep live cut Q n k s H
   | .ret=>HV E.P fn rd 2 s H Q
   | .seq a b=>wp E fn rd dep live cut Q n (.code a :: .code b :: k) s H
   | .cond c a b=>br (dw s c) (wp E fn rd dep live cut Q n (.code a :: k) s H) (wp E fn rd dep live cut Q n (.code b :: k) s H)
   | .block id b=>wp E fn rd dep live cut Q n (.code b :: .inBlock id :: k) s H
   | .scope b=>wp E fn rd dep live cut Q n (.code b :: .inScope b :: k) s H
   | .loop b=>(match (gZ b).bind live with
    | some l=>GoX E fn rd dep (.inLoop b :: k) (Ce s l) H Q
    | none=>Goes E fn rd dep (.inLoop b :: k) s H Q)
   | .exit id=>(match exitTo id k with
    | some k'=>wp E fn rd dep live cut Q n k' s H
    | none=>HV E.P fn rd (id+3) s H Q)
   | .rangeFunc g ps a b=>(match live (RR a b) with
    | some l=>GoX E fn rd dep (.code (.rangeFunc g ps a b) :: k) (Ce s l) H Q
    | none=>Goes E fn rd dep (.code (.rangeFunc g ps a b) :: k) s H Q)
   | .region id ops draw=>(match cut id with
    | true=>(match live id with
     | some l=>GoX E fn rd dep (.code (.region id ops draw) :: k) (Ce s l) H Q
     | none=>False)
    | false=>wpOps E fn.ntmps dep draw ops ops.toList s H fun s H =>
     (match draw,nA E ops with
     | true,p :: ps=>NS E (p :: ps) ops s H∧wp E fn rd dep live cut Q n k s H
     | _,_=>wp E fn rd dep live cut Q n k s H))
   | _=>False)
  | .inLoop b :: k=>(match (gZ b).bind live with
   | some l=>GoX E fn rd dep (.inLoop b :: k) (Ce s l) H Q
   | none=>Goes E fn rd dep (.inLoop b :: k) s H Q)
  | .inBlock _ :: k | .inScope _ :: k=>wp E fn rd dep live cut Q n k s H
  | _=>False
theorem nI{ops:Array Oper}{tm:List AV}{s:eX}(h:dT tm s)(o:Oper):wanted ops tm o=(match Gu ops s o with
 | none=>some true
 | some (some (x,want))=>QW x want
 | some none=>some false):=by
 unfold wanted Gu
 split
 ·rename_i hg;rw[hg]
 ·rename_i j want hg
  rw[hg]
  dsimp only
  split
  ·rename_i t ht
   rw[ht]
   dsimp only
   rw[h t]
   rfl
  ·rename_i ht
   rw[ht]
theorem ry{nt:Nat}{s:eX}{dst:Option Tmp}{v:AV}{K:eX→Prop}(h:putF nt s dst v K) : ∃s',K s' ∧∀tm,dT tm s →∃tm',dq nt tm dst v=some tm'∧dT tm' s':=by
 unfold putF at h
 cases dst with
 | none=>exact⟨s,h,fun tm ht=>⟨tm,rfl,ht⟩⟩
 | some d =>
  dsimp only at h
  cases hd:Nat.blt d nt with
  | false=>rw[hd]at h;exact h.elim
  | true =>
   rw[hd]at h
   refine⟨_,h,fun tm ht=>⟨_,?_,ht.set d v⟩⟩
   have hlt:d<nt:=Nat.le_of_ble_eq_true hd
   simp only[dq,if_pos hlt]
theorem NW{E:Env}{nt dep:Nat}{draw:Bool}{ops:Array Oper}{o:Oper}{s:eX}{H:Heap}{K:eX→Heap→Prop}(h:wpOp E nt dep draw ops o s H K) :
 ∃s' H',K s' H' ∧∀tm,dT tm s →∃tm',dT tm' s' ∧∃n,∀m,n≤m→evalOp E (aU E (runA E m)) (dV E (runA E m) dep) nt dep draw ops o ⟨tm,H⟩=some ⟨tm',H'⟩:=by
 have run : ∀(v:AV)(H':Heap)(s':eX),(∀tm,dT tm s→wanted ops tm o=some true)→(∃n,∀m,n≤m →∀tm,dT tm s→ph E (aU E (runA E m)) (dV E (runA E m) dep) dep draw tm H o=some (v,H')) →
  (∀tm,dT tm s →∃tm',dq nt tm o.dst v=some tm'∧dT tm' s') →
  ∀tm,dT tm s →∃tm',dT tm' s' ∧∃n,∀m,n≤m→evalOp E (aU E (runA E m)) (dV E (runA E m) dep) nt dep draw ops o ⟨tm,H⟩=some ⟨tm',H'⟩:=by
  intro v H' s' hw ⟨n,hn⟩ hp tm ht
  obtain⟨tm',h1,h2⟩:=hp tm ht
  refine⟨tm',h2,n,fun m hm=>?_⟩
  rw[CM]
  dsimp only
  rw[hw tm ht,hn m hm tm ht]
  dsimp only
  rw[h1]
  rfl
 have skip : ∀(s':eX),(∀tm,dT tm s→wanted ops tm o=some false)→(∀tm,dT tm s →∃tm',dq nt tm o.dst AV.undef=some tm'∧dT tm' s') →
  ∀tm,dT tm s →∃tm',dT tm' s' ∧∃n,∀m,n≤m→evalOp E (aU E (runA E m)) (dV E (runA E m) dep) nt dep draw ops o ⟨tm,H⟩=some ⟨tm',H⟩:=by
  intro s' hw hp tm ht
  obtain⟨tm',h1,h2⟩:=hp tm ht
  refine⟨tm',h2,0,fun m _=>?_⟩
  rw[CM]
  dsimp only
  rw[hw tm ht]
  dsimp only
  rw[h1]
  rfl
 unfold wpOp at h
 split at h
 ·rename_i q hq
  have evq : ∀v,q=some (v,[]) →∃n,∀m,n≤m →∀tm,dT tm s→ph E (aU E (runA E m)) (dV E (runA E m) dep) dep draw tm H o=some (v,H):=by
   intro v hv
   obtain⟨n,hn⟩:=DB.1 q v hq hv
   exact⟨n,fun m hm tm ht=>ON ht (hn m hm) rfl⟩
  split at h
  ·rename_i hg
   have hw : ∀tm,dT tm s→wanted ops tm o=some true:=fun tm ht=>by rw[nI ht,hg]
   have fromQ : ∀v,q=some (v,[])→putF nt s o.dst v (fun s=>K s H) →∃s' H',K s' H' ∧∀tm,dT tm s →∃tm',dT tm' s' ∧∃n,∀m,n≤m→evalOp E (aU E (runA E m)) (dV E (runA E m) dep) nt dep draw ops o ⟨tm,H⟩=some ⟨tm',H'⟩:=by
    intro v hv hp
    obtain⟨s',hK,hp⟩:=ry hp
    exact⟨s',H,hK,run v H s' hw (evq v hv) hp⟩
   split at h
   ·rename_i x ho
    split at h
    ·rename_i v hv
     refine fromQ v ?_ h
     unfold wy at hq
     simp only[ho,Sum.inl.injEq,hv]at hq
     rw[←hq];rfl
    ·exact h.elim
   ·rename_i x ho
    split at h
    ·rename_i v hv
     refine fromQ v ?_ h
     unfold wy at hq
     simp only[ho,Sum.inl.injEq,hv]at hq
     rw[←hq];rfl
    ·exact h.elim
   ·obtain⟨v,hv,h⟩:=h.h
    exact fromQ v hv h
  ·rename_i x want hg
   replace h:=h.h
   unfold gd at h
   split at h
   ·rename_i hx
    obtain⟨v,hv,h⟩:=h.h
    obtain⟨s',hK,hp⟩:=ry h
    exact⟨s',H,hK,run v H s' (fun tm ht=>by rw[nI ht,hg];exact hx) (evq v hv) hp⟩
   ·rename_i hx
    obtain⟨s',hK,hp⟩:=ry h
    exact⟨s',H,hK,skip s' (fun tm ht=>by rw[nI ht,hg];exact hx) hp⟩
   ·exact h.elim
  ·rename_i hg
   obtain⟨s',hK,hp⟩:=ry h
   exact⟨s',H,hK,skip s' (fun tm ht=>by rw[nI ht,hg]) hp⟩
 ·rename_i w hw
  have evw : ∀v H',w=some (v,H') →∃n,∀m,n≤m →∀tm,dT tm s→ph E (aU E (runA E m)) (dV E (runA E m) dep) dep draw tm H o=some (v,H'):=by
   intro v H' hv
   obtain⟨n,hn⟩:=DB.2 w v H' hw hv
   exact⟨n,fun m hm tm ht=>OM ht (hn m hm) rfl⟩
  split at h
  ·rename_i hg
   obtain⟨v,H',hv,h⟩:=h.h
   obtain⟨s',hK,hp⟩:=ry h
   exact⟨s',H',hK,run v H' s' (fun tm ht=>by rw[nI ht,hg]) (evw v H' hv) hp⟩
  ·rename_i x want hg
   replace h:=h.h
   unfold gd at h
   split at h
   ·rename_i hx
    obtain⟨v,H',hv,h⟩:=h.h
    obtain⟨s',hK,hp⟩:=ry h
    exact⟨s',H',hK,run v H' s' (fun tm ht=>by rw[nI ht,hg];exact hx) (evw v H' hv) hp⟩
   ·rename_i hx
    obtain⟨s',hK,hp⟩:=ry h
    exact⟨s',H,hK,skip s' (fun tm ht=>by rw[nI ht,hg];exact hx) hp⟩
   ·exact h.elim
  ·rename_i hg
   obtain⟨s',hK,hp⟩:=ry h
   exact⟨s',H,hK,skip s' (fun tm ht=>by rw[nI ht,hg]) hp⟩
theorem KJ{E:Env}{nt dep:Nat}{draw:Bool}{ops:Array Oper}{K:eX→Heap→Prop} : ∀ {l:List Oper} {s:eX} {H:Heap},wpOps E nt dep draw ops l s H K →
 ∃s' H',K s' H' ∧∀tm,dT tm s →∃tm',dT tm' s' ∧∃n,∀m,n≤m→mz E (aU E (runA E m)) (dV E (runA E m) dep) nt dep draw ops l ⟨tm,H⟩=some ⟨tm',H'⟩:=by
 intro l
 induction l with
 | nil=>intro s H h;exact⟨s,H,h,fun tm ht=>⟨tm,ht,0,fun m _=>rfl⟩⟩
 | cons o l ih =>
  intro s H h
  obtain⟨s1,H1,h1,hn1⟩:=NW h
  obtain⟨s2,H2,h2,hn2⟩:=ih h1
  refine⟨s2,H2,h2,fun tm ht=>?_⟩
  obtain⟨tm1,t1,n1,e1⟩:=hn1 tm ht
  obtain⟨tm2,t2,n2,e2⟩:=hn2 tm1 t1
  exact⟨tm2,t2,max n1 n2,fun m hm=>by simp only[mz,e1 m (by omega),e2 m (by omega)]⟩
theorem KI{P:Program}{fn:Func}{s:eX}{H:Heap}{Q:AV→Heap→Prop} : ∀ {rs:List ResultVar} {acc:List AV},Ed P s H Q rs acc →
 ∃ys,Q (pack (acc.reverse++ys)) H ∧∀tm,dT tm s→rs.mapM (ig P ⟨tm,H⟩)=some ys:=by
 intro rs
 induction rs with
 | nil=>intro acc h;exact⟨[],by simpa [Ed] using h,fun tm _=>rfl⟩
 | cons r rs ih =>
  intro acc h
  cases r with
  | tmp t =>
   obtain⟨ys,h1,h2⟩:=ih h
   refine⟨s t :: ys,by simpa using h1,fun tm ht=>?_⟩
   simp only[List.mapM_cons,ig,h2 tm ht,ht t,Option.pure_def,Option.bind_eq_bind,Option.bind_some]
  | cell a t =>
   obtain⟨v,hv,h⟩:=h.h
   obtain⟨ys,h1,h2⟩:=ih h
   refine⟨v :: ys,by simpa using h1,fun tm ht=>?_⟩
   have hr:ig P ⟨tm,H⟩ (.cell a t)=some v:=by
    unfold ba at hv
    simp only[ig,ht a]
    split at hv
    ·rename_i r i j g n h3 h4 h5
     rw[h3,h4,h5]
     dsimp only
     split at hv
     ·rename_i b hb
      rw[hb]
      dsimp only
      simp only[qVal,Option.map_eq_some_iff]at hv
      obtain⟨z,hz,e⟩:=hv
      cases e
      exact hz
     ·cases hv
    ·cases hv
   simp only[List.mapM_cons,hr,h2 tm ht,Option.pure_def,Option.bind_eq_bind,Option.bind_some]
theorem F4{E:Env}{fn:Func}{s:eX}{H:Heap}{Q:AV→Heap→Prop}(h:Ed E.P s H Q fn.results.toList []) : ∃y,Q y H ∧∀tm,dT tm s→sM E.P fn ⟨tm,H⟩=some y:=by
 obtain⟨ys,h1,h2⟩:=KI (fn:=fn) h
 refine⟨pack ys,by simpa using h1,fun tm ht=>?_⟩
 unfold sM
 rw[h2 tm ht]
 match ys with
 | []=>rfl
 | [x]=>rfl
 | x :: y :: zs=>rfl
theorem lf{E:Env}{fn:Func}{rd:Option Ref}{dep:Nat}{items items':List Item}{s:eX}{H:Heap}{Q:AV→Heap→Prop}
 (hs : ∀n tm,runA E (n+1) rd fn.ntmps dep items ⟨tm,H⟩=runA E n rd fn.ntmps dep items' ⟨tm,H⟩) (h:Goes E fn rd dep items' s H Q):Goes E fn rd dep items s H Q:=by
 intro tm ht
 obtain⟨y,H',hQ,n,hn⟩:=h tm ht
 refine⟨y,H',hQ,n+1,fun m hm=>?_⟩
 obtain⟨m,rfl⟩ : ∃m',m=m'+1:=⟨m - 1,by omega⟩
 rw[hs]
 exact hn m (by omega)
theorem JZ{E:Env}{fn:Func}{rd:Option Ref}{dep:Nat}{b:Code}{k:List Item}{s:eX}{H:Heap}{Q:AV→Heap→Prop}(h:Goes E fn rd dep (.code b :: .inLoop b :: k) s H Q):Goes E fn rd dep (.inLoop b :: k) s H Q :=
 lf (fun n tm=>by simp only[runA]) h
theorem Hy{E:Env}{fn:Func}{rd:Option Ref}{dep:Nat}{b:Code}{k:List Item}{s:eX}{H:Heap}{Q:AV→Heap→Prop}(h:Goes E fn rd dep (.inLoop b :: k) s H Q):Goes E fn rd dep (.code (.loop b) :: k) s H Q:=by
 intro tm ht
 obtain⟨y,H',hQ,n,hn⟩:=h tm ht
 refine⟨y,H',hQ,n+1,fun m hm=>?_⟩
 obtain⟨m,rfl⟩ : ∃m',m=m'+1:=⟨m - 1,by omega⟩
 have:=hn (m+1) (by omega)
 have e:runA E (m+1) rd fn.ntmps dep (.code (.loop b) :: k) ⟨tm,H⟩=runA E (m+1) rd fn.ntmps dep (.inLoop b :: k) ⟨tm,H⟩:=by simp only[runA]
 rw[e]
 exact this
theorem DP{E:Env}{fn:Func}{rd:Option Ref}{dep:Nat}{items:List Item}{s:eX}{l:List Nat}{H:Heap}{Q:AV→Heap→Prop}(h:GoX E fn rd dep items (Ce s l) H Q):Goes E fn rd dep items s H Q:=by
 have:=h.h s
 rwa [LS]at this
theorem CI{E:Env}{fn:Func}{rd:Option Ref}{dep code:Nat}{items:List Item}{s:eX}{H:Heap}{Q:AV→Heap→Prop}
 (hs : ∀n tm,rd.isSome=true∨code≤2→runA E (n+1) rd fn.ntmps dep items ⟨tm,H⟩=(match rd with | none=>some ⟨tm,H⟩ | some r=>tq (some r) ⟨tm,H⟩ code)) (h:HV E.P fn rd code s H Q):Goes E fn rd dep items s H Q:=by
 intro tm ht
 cases rd with
 | none =>
  unfold HV at h
  dsimp only at h
  cases hc:Nat.ble code 2 with
  | false=>rw[hc]at h;exact h.elim
  | true =>
   rw[hc]at h
   obtain⟨y,hQ,hr⟩:=F4 h
   refine⟨y,H,hQ,1,fun m hm=>?_⟩
   obtain⟨m,rfl⟩ : ∃m',m=m'+1:=⟨m - 1,by omega⟩
   exact⟨⟨tm,H⟩,hs m tm (.inr (Nat.le_of_ble_eq_true hc)),hr tm ht,rfl⟩
 | some r =>
  refine⟨.v (.int .i64 code),H,h,1,fun m hm=>?_⟩
  obtain⟨m,rfl⟩ : ∃m',m=m'+1:=⟨m - 1,by omega⟩
  exact⟨⟨tm,H⟩,code,hs m tm (.inl rfl),rfl,rfl⟩
theorem Kv{E:Env}{ops:Array Oper}{s:eX}{H:Heap}{tm:List AV}(ht:dT tm s)(h:NS E (nA E ops) ops s H):oG E ops ⟨tm,H⟩=true:=by
 unfold oG
 rw[Bool.or_eq_true,Bool.and_eq_true]
 refine .inr ⟨?_,?_⟩
 ·refine Eq.trans ?_ h.1
  congr 1
  funext p
  unfold Dw M4 kq
  rw[ht,ht]
  rfl
 ·rw[Bool.and_eq_true]
  refine⟨Eq.trans ?_ h.2.1,Eq.trans ?_ h.2.2⟩
  ·congr 1
   funext o
   unfold ri Bv
   generalize o.op=op
   cases op<;>try rfl
   rename_i t a x
   cases a<;>try rfl
   rename_i t'
   dsimp only
   rw[ht t']
   rfl
  ·congr 1
   funext o
   unfold D7 Kp
   congr 1
   cases bsT o.op with
   | none=>rfl
   | some t =>
    dsimp only
    rw[ht t]
    rfl
theorem aJ{E:Env}{fn:Func}{rd:Option Ref}{dep:Nat}{live:Nat→Option (List Nat)}{cut:Nat→Bool}{Q:AV→Heap→Prop} : ∀ {n:Nat} {items:List Item} {s:eX} {H:Heap},
 wp E fn rd dep live cut Q n items s H→Goes E fn rd dep items s H Q:=by
 intro n
 induction n with
 | zero=>intro items s H h;exact h
 | succ n ih =>
  intro items s H h
  have told : ∀ {k:List Item} {x:Option (List Nat)},(match x with | some l=>GoX E fn rd dep k (Ce s l) H Q | none=>Goes E fn rd dep k s H Q)→Goes E fn rd dep k s H Q:=by
   intro k x h
   cases x with
   | some l=>exact DP h
   | none=>exact h
  unfold wp at h
  split at h
  ·exact CI (fun n tm _=>by cases rd<;>simp only[runA]) h
  ·rename_i k
   split at h
   ·exact h.elim
   ·rename_i r
    obtain⟨info,hl,h⟩:=h.h
    intro tm ht
    obtain⟨y,H',hQ,n,hn⟩:=ih h tm ht
    refine⟨y,H',hQ,n+1,fun m hm=>?_⟩
    obtain⟨m,rfl⟩ : ∃m',m=m'+1:=⟨m - 1,by omega⟩
    have:=hn m (by omega)
    have e:runA E (m+1) (some r) fn.ntmps dep (.beginRound :: k) ⟨tm,H⟩=runA E m (some r) fn.ntmps dep k ⟨tm,H.put r (some (kg 1 info))⟩:=by simp only[runA,hl]
    rw[e]
    exact this
  ·rename_i c k
   split at h
   ·exact lf (fun n tm=>by simp only[runA]) (ih h)
   ·exact lf (fun n tm=>by simp only[runA]) (ih h)
   ·exact CI (fun n tm _=>by cases rd<;>simp[runA,tq]) h
   ·exact lf (fun n tm=>by simp only[runA]) (ih h)
   ·rename_i c a b
    replace h:=h.h
    unfold brP at h
    split at h
    ·rename_i bb hb
     have hg:Goes E fn rd dep (.code (cond bb a b) :: k) s H Q:=by cases bb<;>exact ih h
     intro tm ht
     obtain⟨y,H',hQ,n,hn⟩:=hg tm ht
     refine⟨y,H',hQ,n+1,fun m hm=>?_⟩
     obtain⟨m,rfl⟩ : ∃m',m=m'+1:=⟨m - 1,by omega⟩
     have:=hn m (by omega)
     have e:runA E (m+1) rd fn.ntmps dep (.code (.cond c a b) :: k) ⟨tm,H⟩=runA E m rd fn.ntmps dep (.code (cond bb a b) :: k) ⟨tm,H⟩:=by
      simp only[runA,sT ht,hb]
      cases bb<;>rfl
     rw[e]
     exact this
    ·exact h.elim
   ·exact lf (fun n tm=>by simp only[runA]) (ih h)
   ·exact lf (fun n tm=>by simp only[runA]) (ih h)
   ·exact Hy (told h)
   ·rename_i id
    split at h
    ·rename_i k' hk
     exact lf (fun n tm=>by simp only[runA,hk]) (ih h)
    ·rename_i hk
     exact CI (fun n tm hc=>by
      simp only[runA,hk]
      cases rd with
      | none =>
       rcases hc with hc | hc
       ·cases hc
       ·omega
      | some r=>rfl) h
   ·exact told h
   ·rename_i id ops draw
    split at h
    ·split at h
     ·exact DP h
     ·exact h.elim
    ·obtain⟨s',H',h1,hn1⟩:=KJ h
     have h2:Goes E fn rd dep k s' H' Q ∧∀tm,dT tm s'→(draw && !oG E ops ⟨tm,H'⟩)=false:=by
      cases draw with
      | false=>exact⟨ih h1,fun _ _=>rfl⟩
      | true =>
       cases hp:nA E ops with
       | nil =>
        rw[hp]at h1
        refine⟨ih h1,fun tm ht=>?_⟩
        unfold oG
        rw[hp]
        rfl
       | cons p ps =>
        rw[hp]at h1
        exact⟨ih h1.2,fun tm ht=>by rw[Kv ht (by rw[hp];exact h1.1)];rfl⟩
     obtain⟨hg,hap⟩:=h2
     intro tm ht
     obtain⟨tm1,t1,n1,e1⟩:=hn1 tm ht
     obtain⟨y,H2,hQ,n2,hn2⟩:=hg tm1 t1
     refine⟨y,H2,hQ,max n1 n2+1,fun m hm=>?_⟩
     obtain⟨m,rfl⟩ : ∃m',m=m'+1:=⟨m - 1,by omega⟩
     have:=hn2 m (by omega)
     have e:runA E (m+1) rd fn.ntmps dep (.code (.region id ops draw) :: k) ⟨tm,H⟩=runA E m rd fn.ntmps dep k ⟨tm1,H'⟩:=by
      simp only[runA,e1 m (by omega),hap tm1 t1]
      simp
     rw[e]
     exact this
   ·exact h.elim
  ·exact told h
  ·exact lf (fun n tm=>by simp only[runA]) (ih h)
  ·exact lf (fun n tm=>by simp only[runA]) (ih h)
  ·exact h.elim
def q0:Nat→List AV→List (Nat × AV)
 | _,[]=>[]
 | i,x :: xs=>(i,x) :: q0 (i+1) xs
theorem Cn(args:List AV)(i:Nat):ofL (fun _=>AV.undef) (q0 0 args) i=tget args i:=by
 have : ∀(j:Nat)(l:List AV),ofL (fun _=>AV.undef) (q0 j l) (j+i)=tget l i:=by
  induction i with
  | zero =>
   intro j l
   cases l with
   | nil=>rfl
   | cons x l =>
    show cond (Nat.beq (j+0) j) x _=x
    rw[show Nat.beq (j+0) j=true from by simp]
    rfl
  | succ i ih =>
   intro j l
   cases l with
   | nil=>rfl
   | cons x l =>
    show cond (Nat.beq (j+(i+1)) j) x (ofL (fun _=>AV.undef) (q0 (j+1) l) (j+(i+1)))=tget l i
    have e:Nat.beq (j+(i+1)) j=false:=by
     cases h:Nat.beq (j+(i+1)) j with
     | false=>rfl
     | true=>have:=Nat.eq_of_beq_eq_true h;omega
    rw[e]
    show ofL _ _ _=_
    rw[←ih (j+1) l,show j+1+i=j+(i+1) by omega]
 simpa using this 0 args
def rF(E:Env)(f:FuncId)(x:AV)(H:Heap)(y:AV):Prop :=
 if xw (E.mode f)=true then (ay H.get depth x).Nodup∧du H.get depth x=some y else view H.get depth x=some y
theorem aw{E:Env}{f:FuncId}{fn:Func}{c:Code}{args:List AV}{y:AV}(hsp:E.spec f args=none)(hal:E.allowed f=true)(hf:E.P.funcs[f]?=some fn)(hc:fn.body=some c)(hl:Nat.ble args.length fn.ntmps=true)
 (h:GoL E fn 0 [.code c] (q0 0 args) [] fun x H=>rF E f x H y):limf E f args=some y:=by
 rw[uw]
 obtain⟨x,H,hQ,n,hn⟩:=h.h (fun _=>AV.undef) args fun i=>(Cn args i).symm
 refine⟨n,fun m hm=>?_⟩
 obtain⟨st,h1,h2,h3⟩:=hn m hm
 subst h3
 unfold aU
 rw[hsp]
 unfold rJ
 simp only[hal,if_true,hf,hc,if_pos (Nat.le_of_ble_eq_true hl),h1,h2,Option.map_some]
 unfold rF at hQ
 split
 ·rename_i h1
  rw[if_pos h1]at hQ
  rw[if_pos hQ.1]
  exact hQ.2
 ·rename_i h1
  rw[if_neg h1]at hQ
  exact hQ
theorem iw{E:Env}{f:FuncId}{fn:Func}{c:Code}{dep:Nat}{args:List AV}{H:Heap}{Q:AV→Heap→Prop}(hm:E.mode f=2)(hal:E.allowed f=true)(hf:E.P.funcs[f]?=some fn)(hc:fn.body=some c)(hl:Nat.ble args.length fn.ntmps=true)
 (h:GoL E fn (dep+1) [.code c] (q0 0 args) H Q) (hsp:E.thrSpec f args H=none:=by rfl) : ∃y H',limt E dep (.fn f) args H=some (y,H')∧Q y H':=by
 obtain⟨x,H1,hQ,n,hn⟩:=h.h (fun _=>AV.undef) args fun i=>(Cn args i).symm
 refine⟨x,H1,uv.2 ⟨n,fun m hm'=>?_⟩,hQ⟩
 obtain⟨st,h1,h2,h3⟩:=hn m hm'
 unfold dV
 dsimp only
 rw[hsp]
 dsimp only
 rw[if_pos hm]
 unfold rJ
 simp only[hal,if_true,hf,hc,if_pos (Nat.le_of_ble_eq_true hl),h1,h2,Option.map_some,h3]
theorem L4{E:Env}{fn:Func}{dep nt:Nat}{r:Ref}{f:FuncId}{ps:List Tmp}{assign body:Code}{tm:List AV}{args:List AV}{H:Heap}{Q:AV→Heap→Prop}
 (hl:lpAt H r=some (0,.lp f nt ps assign body tm)) (hn:fn.ntmps=nt) (hp:args.length=ps.length) (hps:ps.all (· < nt)=true) (ha:codeOk E.ok assign=true) (hb:codeOk E.ok body=true)
 (h:Goes E fn (some r) (dep+1) [.code assign,.beginRound,.code body] (tget (tl tm ps args)) H fun x H' =>∃code:Nat,x = .v (.int .i64 code) ∧∃info H2,lpAt H' r=some (1,info)∧H2=H'.put r (some (kg code info)) ∧
  lpAt H2 r=some (code,info)∧(code=0→Q (.v (.bool true)) H2)∧(2≤code→Q (.v (.bool false)) H2)∧code≠1) :
 ∃y H',limt E dep (.yld r) args H=some (y,H')∧Q y H':=by
 obtain⟨x,H1,⟨code,rfl,info,H2,h1,rfl,h2,hq0,hq2,hne⟩,n,hn'⟩:=h (tl tm ps args) (fun i=>rfl)
 have key : ∀m,n≤m→wj E (runA E m) (dep+1) r args H=some (.v (.bool (code == 0)),H1.put r (some (kg code info))):=by
  intro m hm
  obtain⟨st,k,e1,e2,e3⟩:=hn' m hm
  injection e2 with e2
  injection e2 with e2 e4
  have e4:code=k:=by exact_mod_cast e4
  subst e4
  subst hn
  unfold wj
  rw[hl]
  simp only
  rw[if_pos ⟨hp,hps,ha,hb⟩,e1]
  unfold tq
  simp only[e3,h1,h2]
  match code with
  | 0=>rfl
  | 1=>exact(hne rfl).elim
  | k+2=>rfl
 have key' : ∀m,n≤m→dV E (runA E m) dep (.yld r) args H=some (.v (.bool (code == 0)),H1.put r (some (kg code info))):=key
 refine⟨_,_,uv.2 ⟨n,key'⟩,?_⟩
 match code with
 | 0=>exact hq0 rfl
 | 1=>exact(hne rfl).elim
 | k+2=>exact hq2 (by omega)
theorem Hw{E:Env}{fn:Func}{dep:Nat}{g:Operand}{ps:Array Tmp}{assign body:Code}{k:List Item}{s:eX}{H:Heap}{Q:AV→Heap→Prop}{gi:FuncId}{first captured:List AV}
 (hg:dw s g=some (.fn (.func gi) first captured))
 (h : ∀tm,dT tm s →∃v Hx st info,limt E dep (.fn gi) (first++[.yld ⟨dep,fn.ntmps,H.gen dep fn.ntmps,0⟩]++captured) ((⟨dep,fn.ntmps,H.gen dep fn.ntmps,0⟩,some (kg 0 (.lp 0 fn.ntmps ps.toList assign body tm))) :: H)=some (v,Hx) ∧
  lpAt Hx ⟨dep,fn.ntmps,H.gen dep fn.ntmps,0⟩=some (st,info) ∧
  (
   (st=0∧Goes E fn none dep k s (Hx.put ⟨dep,fn.ntmps,H.gen dep fn.ntmps,0⟩ none) Q) ∨
   (st=2∧Ed E.P s (Hx.put ⟨dep,fn.ntmps,H.gen dep fn.ntmps,0⟩ none) Q fn.results.toList []) ∨
   (∃id k',st=id+3∧exitTo id k=some k'∧Goes E fn none dep k' s (Hx.put ⟨dep,fn.ntmps,H.gen dep fn.ntmps,0⟩ none) Q))) :
 Goes E fn none dep (.code (.rangeFunc g ps assign body) :: k) s H Q:=by
 intro tm ht
 obtain⟨v,Hx,st,info,h1,h2,h3⟩:=h tm ht
 obtain⟨n1,hn1⟩:=uv.1 h1
 have hg':bh tm g=some (.fn (.func gi) first captured):=by rw[sT ht];exact hg
 rcases h3 with ⟨rfl,hk⟩ | ⟨rfl,hk⟩ | ⟨id,k',rfl,he,hk⟩
 ·obtain⟨y,H',hQ,n2,hn2⟩:=hk tm ht
  refine⟨y,H',hQ,max n1 n2+1,fun m hm=>?_⟩
  obtain⟨m,rfl⟩ : ∃m',m=m'+1:=⟨m - 1,by omega⟩
  have e:runA E (m+1) none fn.ntmps dep (.code (.rangeFunc g ps assign body) :: k) ⟨tm,H⟩=runA E m none fn.ntmps dep k ⟨tm,Hx.put ⟨dep,fn.ntmps,H.gen dep fn.ntmps,0⟩ none⟩:=by
   simp only[runA,hg',hn1 m (by omega),h2]
  rw[e]
  exact hn2 m (by omega)
 ·obtain⟨y,hQ,hr⟩:=F4 hk
  refine⟨y,_,hQ,n1+1,fun m hm=>?_⟩
  obtain⟨m,rfl⟩ : ∃m',m=m'+1:=⟨m - 1,by omega⟩
  have e:runA E (m+1) none fn.ntmps dep (.code (.rangeFunc g ps assign body) :: k) ⟨tm,H⟩=some ⟨tm,Hx.put ⟨dep,fn.ntmps,H.gen dep fn.ntmps,0⟩ none⟩:=by
   simp only[runA,hg',hn1 m (by omega),h2]
  rw[e]
  exact⟨_,rfl,hr tm ht,rfl⟩
 ·obtain⟨y,H',hQ,n2,hn2⟩:=hk tm ht
  refine⟨y,H',hQ,max n1 n2+1,fun m hm=>?_⟩
  obtain⟨m,rfl⟩ : ∃m',m=m'+1:=⟨m - 1,by omega⟩
  have e:runA E (m+1) none fn.ntmps dep (.code (.rangeFunc g ps assign body) :: k) ⟨tm,H⟩=runA E m none fn.ntmps dep k' ⟨tm,Hx.put ⟨dep,fn.ntmps,H.gen dep fn.ntmps,0⟩ none⟩:=by
   simp only[runA,hg',hn1 m (by omega),h2,he]
  rw[e]
  exact hn2 m (by omega)
theorem JI{E:Env}{f:FuncId}{args:List AV}{y:AV}(h:E.spec f args=some y):limf E f args=some y:=by
 rw[uw]
 exact⟨0,fun m _=>by unfold aU;rw[h]⟩
theorem L5{E:Env}{f:FuncId}{args:List AV}{y:AV}(h:limf E f args=some y) : ∃n,aU E (runA E n) f args=some y:=by
 obtain⟨n,hn⟩:=uw.1 h
 exact⟨n,hn n (Nat.le_refl _)⟩
def bS(r:Nat):Nat→List Item→Option (List Item)
 | 0,_=>none
 | n+1,items =>
  match items with
  | .code c :: k=>(match c with
   | .seq a b=>bS r n (.code a :: .code b :: k)
   | .cond _ a b=>(match bS r n (.code a :: k) with
    | some l=>some l
    | none=>bS r n (.code b :: k))
   | .block id b=>bS r n (.code b :: .inBlock id :: k)
   | .scope b=>bS r n (.code b :: .inScope b :: k)
   | .loop b=>(match gZ b with
    | some i=>cond (Nat.beq i r) (some (.inLoop b :: k)) (bS r n (.code b :: .inLoop b :: k))
    | none=>none)
   | .exit id=>(match exitTo id k with
    | some k'=>bS r n k'
    | none=>none)
   | .skip | .label _ | .region _ _ _=>bS r n k
   | _=>none)
  | .inBlock _ :: k | .inScope _ :: k=>bS r n k
  | _=>none
def iS(r:Nat):Nat→List Item→Option (List Item)
 | 0,_=>none
 | n+1,items =>
  match items with
  | .code c :: k=>(match c with
   | .seq a b=>iS r n (.code a :: .code b :: k)
   | .cond _ a b=>(match iS r n (.code a :: k) with
    | some l=>some l
    | none=>iS r n (.code b :: k))
   | .block id b=>iS r n (.code b :: .inBlock id :: k)
   | .scope b=>iS r n (.code b :: .inScope b :: k)
   | .loop b=>iS r n (.code b :: .inLoop b :: k)
   | .exit id=>(match exitTo id k with
    | some k'=>iS r n k'
    | none=>none)
   | .rangeFunc _ _ a b=>cond (Nat.beq (RR a b) r) (some items) (iS r n k)
   | .skip | .label _ | .region _ _ _=>iS r n k
   | _=>none)
  | .inBlock _ :: k | .inScope _ :: k=>iS r n k
  | _=>none
def rfA:List Item→Code
 | .code (.rangeFunc _ _ a _) :: _=>a
 | _ => .skip
def rfB:List Item→Code
 | .code (.rangeFunc _ _ _ b) :: _=>b
 | _ => .skip
def rfK:List Item→List Item
 | _ :: k=>k
 | []=>[]
def NQ:List Item→List Item
 | .inLoop b :: k => .code b :: .inLoop b :: k
 | l=>l
theorem dk{E:Env}{fn:Func}{rd:Option Ref}{dep:Nat}{items:List Item}{l:List (Nat × AV)}{H:Heap}{Q:AV→Heap→Prop}(h : ∀g,Goes E fn rd dep (NQ items) (ofL g l) H Q):GoX E fn rd dep items l H Q:=by
 refine⟨fun g=>?_⟩
 have:=h g
 unfold NQ at this
 split at this
 ·exact JZ this
 ·exact this
def oi(x:AV):Option (Option Int):=match vg x with
 | some n=>some (some n)
 | none=>none
end Go.Ab
namespace Go.Ab
def PcLe(pc pc':FuncId→List AV→Option AV):Prop :=∀f xs y,pc f xs=some y→pc' f xs=some y
def TcLe(tc tc':Tgt→List AV→Heap→WRes):Prop :=∀f xs H y,tc f xs H=some y→tc' f xs H=some y
theorem G9{E:Env}{pc pc':FuncId→List AV→Option AV}(hp:PcLe pc pc'){g:Get}{r:Ref}{f:Option AV}{args:List AV}{z:AV × List Blk}(h:jF E pc g r f args=some z):jF E pc' g r f args=some z:=by
 unfold jF at h ⊢
 split at h
 ·split at h
  ·cases h
  ·rename_i hm
   rw[if_neg hm]
   split at h
   ·rename_i xs hx
    split at h
    ·rename_i y hy
     rw[hp _ _ _ hy]
     exact h
    ·cases h
   ·cases h
 ·cases h
theorem LB{E:Env}{pc pc':FuncId→List AV→Option AV}{tc tc':Tgt→List AV→Heap→WRes}(hp:PcLe pc pc')(ht:TcLe tc tc'){H:Heap}{r:Ref}{f:Option AV}{args:List AV} :
 (jF E pc H.get r f args=none →∀z,mI E pc tc H r f args=some z→mI E pc' tc' H r f args=some z∧jF E pc' H.get r f args=none):=by
 intro h0 z h
 unfold jF at h0 ⊢
 unfold mI at h ⊢
 split at h
 ·rename_i fi first captured
  dsimp only at h0 ⊢
  split at h
  ·rename_i hm
   rw[if_pos hm,if_pos hm]
   exact⟨ht _ _ _ _ h,rfl⟩
  ·rename_i hm
   rw[if_neg hm]at h0
   rw[if_neg hm,if_neg hm]
   split at h
   ·rename_i xs hx
    try rw[hx]at h0
    dsimp only at h0 ⊢
    simp only[Option.map_eq_some_iff]at h
    obtain⟨y,hy,h⟩:=h
    rw[hy]at h0
    rw[hp _ _ _ hy]
    exact⟨by rw[Option.map_some,h],h0⟩
   ·cases h
 ·exact⟨ht _ _ _ _ h,rfl⟩
 ·cases h
theorem HD{E:Env}{pc pc':FuncId→List AV→Option AV}{tc tc':Tgt→List AV→Heap→WRes}(hp:PcLe pc pc')(ht:TcLe tc tc'){dep:Nat}{draw:Bool}{tm:List AV}{H:Heap}{o:Oper}{z:AV × Heap}
 (h:ph E pc tc dep draw tm H o=some z):ph E pc' tc' dep draw tm H o=some z:=by
 by_cases hc : ∃c f args,o.op = .call c∧c.args.toList.mapM (bh tm)=some args∧c.callee = .value f
 ·obtain⟨c,f,args,ho,ha,hf⟩:=hc
  unfold ph dp evalW at h ⊢
  simp only[ho,ha,hf]at h ⊢
  cases hov:DA E.over draw f with
  | some t =>
   rw[hov]at h
   dsimp only at h ⊢
   cases hO:I9 E.P H.get t args with
   | some p=>rw[hO]at h;exact h
   | none =>
    rw[hO]at h
    dsimp only at h ⊢
    split at h
    ·cases h
    ·rename_i hd
     rw[if_neg hd]
     have hfd : ∃g,f = .func g:=by unfold DA at hov;split at hov<;>simp_all
     obtain⟨g,rfl⟩:=hfd
     simp only[bh,mI]at h ⊢
     by_cases hm:E.mode g=2
     ·rw[if_pos hm]at h ⊢
      cases hw:tc (.fn g) ([]++args++[]) H with
      | none=>rw[hw]at h;unfold oN at h;split at h<;>(try split at h)<;>simp_all
      | some z'=>rw[hw]at h;rw[ht _ _ _ _ hw];exact h
     ·rw[if_neg hm]at h ⊢
      cases hx:([]++args++[]:List AV).mapM (view H.get depth) with
      | none=>rw[hx]at h;exact h
      | some xs =>
       rw[hx]at h
       dsimp only at h ⊢
       cases hy:pc g xs with
       | none=>rw[hy]at h;unfold oN at h;split at h<;>(try split at h)<;>simp_all
       | some y=>rw[hy]at h;rw[hp _ _ _ hy];exact h
  | none =>
  rw[hov]at h
  dsimp only at h ⊢
  cases hq:jF E pc H.get ⟨dep,o.dst.getD 0,H.gen dep (o.dst.getD 0),0⟩ (bh tm f) args with
  | some p =>
   rw[hq]at h
   rw[G9 hp hq]
   exact h
  | none =>
   rw[hq]at h
   simp only[Option.map_none]at h
   split at h
   ·cases h
   ·rename_i hd
    cases hw:mI E pc tc H ⟨dep,o.dst.getD 0,H.gen dep (o.dst.getD 0),0⟩ (bh tm f) args with
    | none =>
     rw[hw]at h
     unfold oN at h
     split at h
     ·rename_i e;cases e
     ·cases h
    | some z' =>
     obtain⟨h1,h2⟩:=LB hp ht hq _ hw
     rw[h2,h1]
     rw[hw]at h
     simp only[Option.map_none,if_neg hd]
     exact h
 ·have:ph E pc tc dep draw tm H o=ph E pc' tc' dep draw tm H o:=by
   have hq:dp E pc draw H.get tm ⟨dep,o.dst.getD 0,H.gen dep (o.dst.getD 0),0⟩ o=dp E pc' draw H.get tm ⟨dep,o.dst.getD 0,H.gen dep (o.dst.getD 0),0⟩ o:=by
    cases ho:o.op<;>simp only[dp,ho]
    case makeMap a b=>cases b<;>rfl
    rename_i c
    cases ha:c.args.toList.mapM (bh tm) with
    | none=>rfl
    | some args =>
     cases hf:c.callee with
     | value f=>exact(hc ⟨c,f,args,ho,ha,hf⟩).elim
     | invoke _ _=>rfl
     | builtin b=>rfl
   have hw:evalW E pc tc H tm ⟨dep,o.dst.getD 0,H.gen dep (o.dst.getD 0),0⟩ o=evalW E pc' tc' H tm ⟨dep,o.dst.getD 0,H.gen dep (o.dst.getD 0),0⟩ o:=by
    cases ho:o.op<;>simp only[evalW,ho]
    rename_i c
    cases ha:c.args.toList.mapM (bh tm) with
    | none=>rfl
    | some args =>
     cases hf:c.callee with
     | value f=>exact(hc ⟨c,f,args,ho,ha,hf⟩).elim
     | invoke _ _=>rfl
     | builtin b=>rfl
   unfold ph
   rw[hq,hw]
  rw[←this]
  exact h
theorem Ez{E:Env}{pc pc':FuncId→List AV→Option AV}{tc tc':Tgt→List AV→Heap→WRes}(hp:PcLe pc pc')(ht:TcLe tc tc'){nt dep:Nat}{draw:Bool}{ops:Array Oper} : ∀ {l:List Oper} {st st':St},
 mz E pc tc nt dep draw ops l st=some st'→mz E pc' tc' nt dep draw ops l st=some st':=by
 intro l
 induction l with
 | nil=>intro st st' h;exact h
 | cons o l ih =>
  intro st st' h
  unfold mz at h ⊢
  cases ho:evalOp E pc tc nt dep draw ops o st with
  | none=>rw[ho]at h;cases h
  | some st1 =>
   rw[ho]at h
   have:evalOp E pc' tc' nt dep draw ops o st=some st1:=by
    rw[CM]at ho ⊢
    cases hw:wanted ops st.tm o with
    | none=>rw[hw]at ho;cases ho
    | some b =>
     rw[hw]at ho
     cases b with
     | false=>exact ho
     | true =>
      dsimp only at ho ⊢
      cases hc:ph E pc tc dep draw st.tm st.hp o with
      | none=>rw[hc]at ho;cases ho
      | some z=>rw[hc]at ho;rw[HD hp ht hc];exact ho
   rw[this]
   exact ih h
theorem Ak{E:Env}{run run':Option Ref→Nat→Nat→List Item→St→Option St}(hr : ∀rd nt dep items st st',run rd nt dep items st=some st'→run' rd nt dep items st=some st'){dep:Nat}{f:FuncId}{args:List AV}{H:Heap}{z:AV × Heap}
 (h:rJ E run dep f args H=some z):rJ E run' dep f args H=some z:=by
 unfold rJ at h ⊢
 split at h
 ·rename_i ha
  rw[if_pos ha]
  cases hf:E.P.funcs[f]? with
  | none=>rw[hf]at h;cases h
  | some fn =>
   rw[hf]at h
   dsimp only at h ⊢
   cases hb:fn.body with
   | none=>rw[hb]at h;cases h
   | some c =>
    rw[hb]at h
    dsimp only at h ⊢
    split at h
    ·rename_i hl
     rw[if_pos hl]
     cases hx:run none fn.ntmps dep [.code c] ⟨args,H⟩ with
     | none=>rw[hx]at h;cases h
     | some st=>rw[hx]at h;rw[hr _ _ _ _ _ _ hx];exact h
    ·cases h
 ·cases h
theorem uW{E:Env}{run run':Option Ref→Nat→Nat→List Item→St→Option St}(hr : ∀rd nt dep items st st',run rd nt dep items st=some st'→run' rd nt dep items st=some st'):PcLe (aU E run) (aU E run'):=by
 intro f xs y h
 unfold aU at h ⊢
 cases hs:E.spec f xs with
 | some s=>rw[hs]at h;exact h
 | none =>
  rw[hs]at h
  dsimp only at h ⊢
  cases hc:rJ E run 0 f xs [] with
  | none=>rw[hc]at h;cases h
  | some z=>rw[hc]at h;rw[Ak hr hc];exact h
theorem xk{E:Env}{run run':Option Ref→Nat→Nat→List Item→St→Option St}(hr : ∀rd nt dep items st st',run rd nt dep items st=some st'→run' rd nt dep items st=some st')(dep:Nat):TcLe (dV E run dep) (dV E run' dep):=by
 intro f xs H y h
 unfold dV at h ⊢
 cases f with
 | fn f =>
  dsimp only at h ⊢
  cases hs:E.thrSpec f xs H with
  | some s=>rw[hs]at h;exact h
  | none =>
  rw[hs]at h
  dsimp only at h ⊢
  split at h
  ·rename_i hm;rw[if_pos hm];exact Ak hr h
  ·cases h
 | yld r =>
  dsimp only at h ⊢
  unfold wj at h ⊢
  split at h
  ·rename_i f nt ps assign body tm hl
   split at h
   ·rename_i hc
    rw[if_pos hc]
    cases hx:run (some r) nt (dep+1) [.code assign,.beginRound,.code body] ⟨tl tm ps xs,H⟩ with
    | none=>rw[hx]at h;cases h
    | some st=>rw[hx]at h;rw[hr _ _ _ _ _ _ hx];exact h
   ·cases h
  ·cases h
theorem IW{E:Env} : ∀(n:Nat)(rd:Option Ref)(nt dep:Nat)(items:List Item)(st st':St),runA E n rd nt dep items st=some st'→runA E (n+1) rd nt dep items st=some st':=by
 intro n
 induction n with
 | zero=>intro rd nt dep items st st' h;simp[runA]at h
 | succ n ih =>
  intro rd nt dep items st st' h
  unfold runA at h ⊢
  split at h
  ·exact h
  ·split at h
   ·exact h
   ·rename_i r
    split at h
    ·exact ih _ _ _ _ _ _ h
    ·cases h
  ·split at h
   all_goals try exact h
   all_goals try exact ih _ _ _ _ _ _ h
   ·rename_i c a b
    split at h
    ·exact ih _ _ _ _ _ _ h
    ·exact ih _ _ _ _ _ _ h
    ·cases h
   ·split at h
    ·exact ih _ _ _ _ _ _ h
    ·exact h
   ·rename_i ops draw
    cases hx:mz E (aU E (runA E n)) (dV E (runA E n) dep) nt dep draw ops ops.toList st with
    | none=>rw[hx]at h;cases h
    | some st1 =>
     rw[hx]at h
     rw[Ez (uW ih) (xk ih dep) hx]
     dsimp only at h ⊢
     split at h
     ·cases h
     ·rename_i hd
      rw[if_neg hd]
      exact ih _ _ _ _ _ _ h
   ·split at h
    ·split at h
     ·rename_i x H' hx
      rw[xk ih dep _ _ _ _ hx]
      dsimp only
      split at h
      ·exact ih _ _ _ _ _ _ h
      ·exact h
      ·split at h
       ·exact ih _ _ _ _ _ _ h
       ·cases h
      ·cases h
     ·cases h
    ·cases h
  all_goals try exact ih _ _ _ _ _ _ h
  all_goals cases h
theorem Oy{E:Env}{n m:Nat}(hm:n≤m){rd:Option Ref}{nt dep:Nat}{items:List Item}{st st':St}(h:runA E n rd nt dep items st=some st'):runA E m rd nt dep items st=some st':=by
 induction hm with
 | refl=>exact h
 | step _ ih=>exact IW _ _ _ _ _ _ _ ih
theorem zI{E:Env}{n:Nat}{f:FuncId}{args:List AV}{y:AV}(h:aU E (runA E n) f args=some y):limf E f args=some y :=
 uw.2 ⟨n,fun _ hm=>uW (fun _ _ _ _ _ _ h=>Oy hm h) _ _ _ h⟩
end Go.Ab
namespace Go.Ab
abbrev aI(n:Int):AV := .v (.int .i64 n)
abbrev aB(b:Bool):AV := .v (.bool b)
def a8(n:UInt8):AV := .v (.int .u8 (n.toNat:Int))
def a32(n:UInt32):AV := .v (.int .u32 (n.toNat:Int))
abbrev aS(s:ByteArray):AV := .v (.string s)
abbrev aNil:AV := .v (.slice none 0 0)
theorem DY{w:WRes}{K:AV→Heap→Prop}{m:Mk K}{v:AV}{H:Heap}(hw:w=some (v,H))(h:K v H):doW w K m:=⟨v,H,hw,h⟩
@[simp] theorem Vk(v:AV)(K:AV→Prop)(m:Mk K):doQ (some (v,[])) K m↔K v :=
 ⟨fun⟨⟨w,hw,h⟩⟩=>by cases hw;exact h,fun h=>⟨v,rfl,h⟩⟩
@[simp] theorem X0(c:Prop)[Decidable c](q:QRes)(K:AV→Prop)(m:Mk K):doQ (if c then q else none) K m↔c∧doQ q K m:=by
 by_cases hc:c
 ·simp[hc]
 ·simp only[if_neg hc,hc,false_and,iff_false]
  rintro⟨v,hv,_⟩;cases hv
@[simp] theorem Vj(v:AV)(H:Heap)(K:AV→Heap→Prop)(m:Mk K):doW (some (v,H)) K m↔K v H :=
 ⟨fun⟨⟨w,_,hw,h⟩⟩=>by cases hw;exact h,fun h=>⟨v,H,rfl,h⟩⟩
theorem Kq{x:Option AV}{A B:Prop}{m:Mk (A,B)}:br x A B m↔brP x A B:=⟨fun h=>h.h,fun h=>⟨h⟩⟩
@[simp] theorem Xu(A B:Prop)(m:Mk (A,B)):br (some (aB true)) A B m↔A:=Kq
@[simp] theorem Vo(A B:Prop)(m:Mk (A,B)):br (some (aB false)) A B m↔B:=Kq
theorem nH{b:Bool}{A B:Prop}{m:Mk (A,B)}(h1:b=true→A)(h2:b=false→B):br (some (aB b)) A B m:=by
 cases b
 ·exact⟨h2 rfl⟩
 ·exact⟨h1 rfl⟩
theorem Tc{p:Prop}[Decidable p]{A B:Prop}{m:Mk (A,B)}(h1:p→A)(h2 : ¬p→B):br (some (aB (decide p))) A B m :=
 nH (fun h=>h1 (of_decide_eq_true h)) (fun h=>h2 (of_decide_eq_false h))
@[simp] theorem WX(q:QRes)(K:AV→Prop)(m:Mk (q,K)):gQ (aB true) true q K m↔doQ q K:=⟨fun h=>h.h,fun h=>⟨h⟩⟩
@[simp] theorem W0(q:QRes)(K:AV→Prop)(m:Mk (q,K)):gQ (aB false) false q K m↔doQ q K:=⟨fun h=>h.h,fun h=>⟨h⟩⟩
@[simp] theorem WY(q:QRes)(K:AV→Prop)(m:Mk (q,K)):gQ (aB true) false q K m↔K AV.undef:=⟨fun h=>h.h,fun h=>⟨h⟩⟩
@[simp] theorem WZ(q:QRes)(K:AV→Prop)(m:Mk (q,K)):gQ (aB false) true q K m↔K AV.undef:=⟨fun h=>h.h,fun h=>⟨h⟩⟩
@[simp] theorem gQ_u(w:Bool)(q:QRes)(K:AV→Prop)(m:Mk (q,K)):gQ AV.undef w q K m↔K AV.undef:=⟨fun h=>h.h,fun h=>⟨h⟩⟩
@[simp] theorem WT(H:Heap)(q:WRes)(K:AV→Heap→Prop)(m:Mk (q,K)):gW (aB true) true H q K m↔doW q K:=⟨fun h=>h.h,fun h=>⟨h⟩⟩
@[simp] theorem WW(H:Heap)(q:WRes)(K:AV→Heap→Prop)(m:Mk (q,K)):gW (aB false) false H q K m↔doW q K:=⟨fun h=>h.h,fun h=>⟨h⟩⟩
@[simp] theorem WU(H:Heap)(q:WRes)(K:AV→Heap→Prop)(m:Mk (q,K)):gW (aB true) false H q K m↔K AV.undef H:=⟨fun h=>h.h,fun h=>⟨h⟩⟩
@[simp] theorem WV(H:Heap)(q:WRes)(K:AV→Heap→Prop)(m:Mk (q,K)):gW (aB false) true H q K m↔K AV.undef H:=⟨fun h=>h.h,fun h=>⟨h⟩⟩
@[simp] theorem gW_u(w:Bool)(H:Heap)(q:WRes)(K:AV→Heap→Prop)(m:Mk (q,K)):gW AV.undef w H q K m↔K AV.undef H:=⟨fun h=>h.h,fun h=>⟨h⟩⟩
@[simp] theorem R1(v:AV):qVal (some v)=some (v,[]):=id rfl
@[simp] theorem Sr(H:Heap)(r:Ref)(v:AV)(bs:List Blk):nRes H r (some (v,bs))=some (v,keyed r 0 bs H):=id rfl
@[simp] theorem DD(H:Heap)(r:Ref):nRes H r none=none:=id rfl
@[simp] theorem Qs(r:Ref)(k:Nat)(H:Heap):keyed r k [] H=H:=id rfl
@[simp] theorem Qt(r:Ref)(k:Nat)(b:Blk)(bs:List Blk)(H:Heap):keyed r k (b :: bs) H=keyed r (k+1) bs (({ r with k:=k},some b) :: H):=id rfl
@[simp] theorem UH(wk:Bool)(x:AV × Heap)(b:WRes):orW wk (some x) b=some x:=id rfl
@[simp] theorem Gd(b:WRes):orW true none b=b:=id rfl
@[simp] theorem Qn(a b:Option AV):aM (some (aB true)) a b=qVal a:=id rfl
@[simp] theorem OJ(a b:Option AV):aM (some (aB false)) a b=qVal b:=id rfl
@[simp] theorem XP(k:IntKind)(n:Int):oi (.v (.int k n))=some (some n):=id rfl
@[simp] theorem Ta(cs:List AV):(AV.agg cs).cells=cs:=id rfl
@[simp] theorem Xp(x:Value):(AV.v x).cells=[.v x]:=id rfl
@[simp] theorem Xq(x:UInt8):(a8 x).cells=[a8 x]:=id rfl
@[simp] theorem Vm(x:UInt32):(a32 x).cells=[a32 x]:=id rfl
@[simp] theorem S9(z:Nat)(es:List AV)(c:Option Nat):(AV.isl z es c).cells=[.isl z es c]:=id rfl
@[simp] theorem S8(r:Ref)(o n:Nat)(c:Option Nat):(AV.osl r o n c).cells=[.osl r o n c]:=id rfl
@[simp] theorem S7(r:Ref)(i j:Nat):(AV.ptr r i j).cells=[.ptr r i j]:=id rfl
@[simp] theorem Vl(f:Fn)(a b:List AV):(AV.fn f a b).cells=[.fn f a b]:=id rfl
@[simp] theorem WE(k:IntKind)(n:Int):(AV.v (.int k n)).one=true:=id rfl
@[simp] theorem UI(b:Bool):(AV.v (.bool b)).one=true:=id rfl
@[simp] theorem WC:aNil.one=true:=id rfl
@[simp] theorem Ya(x:UInt8):(a8 x).one=true:=id rfl
@[simp] theorem XO(x:UInt32):(a32 x).one=true:=id rfl
@[simp] theorem WD(z:Nat)(es:List AV)(c:Option Nat):(AV.isl z es c).one=true:=id rfl
@[simp] theorem WB(r:Ref)(o n:Nat)(c:Option Nat):(AV.osl r o n c).one=true:=id rfl
@[simp] theorem WA(r:Ref)(i j:Nat):(AV.ptr r i j).one=true:=id rfl
@[simp] theorem Sm(f:Fn)(a b:List AV):(AV.fn f a b).one=true:=id rfl
section
variable(P:Program)(t:TypeId)(xo yo:Operand)(k:IntKind)(a b:Int)
@[simp] theorem F7:qBin P .lss t xo yo (some (.v (.int k a))) (some (.v (.int k b)))=some (aB (decide (a<b)),[]):=by cases k<;>rfl
@[simp] theorem LG:qBin P .leq t xo yo (some (.v (.int k a))) (some (.v (.int k b)))=some (aB (decide (a≤b)),[]):=by cases k<;>rfl
@[simp] theorem LH:qBin P .gtr t xo yo (some (.v (.int k a))) (some (.v (.int k b)))=some (aB (decide (b<a)),[]):=by cases k<;>rfl
@[simp] theorem LI:qBin P .geq t xo yo (some (.v (.int k a))) (some (.v (.int k b)))=some (aB (decide (b≤a)),[]):=by cases k<;>rfl
@[simp] theorem F8:qBin P .eql t xo yo (some (.v (.int k a))) (some (.v (.int k b)))=some (aB (decide (a=b)),[]):=by
 have:(a == b)=decide (a=b):=by by_cases h:a=b<;>simp[h]
 rw[←this];cases k<;>rfl
@[simp] theorem LF:qBin P .neq t xo yo (some (.v (.int k a))) (some (.v (.int k b)))=some (aB (!decide (a=b)),[]):=by
 have:(a != b) = !decide (a=b):=by by_cases h:a=b<;>simp[h]
 rw[←this];cases k<;>rfl
@[simp] theorem UE:qBin P .add t xo yo (some (.v (.int k a))) (some (.v (.int k b)))=some (.v (.int k (k.wrap (a+b))),[]):=by cases k<;>rfl
@[simp] theorem UC:qBin P .sub t xo yo (some (.v (.int k a))) (some (.v (.int k b)))=some (.v (.int k (k.wrap (a - b))),[]):=by cases k<;>rfl
@[simp] theorem UD:qBin P .mul t xo yo (some (.v (.int k a))) (some (.v (.int k b)))=some (.v (.int k (k.wrap (a * b))),[]):=by cases k<;>rfl
theorem eY{yk:IntKind}(hb:0≤b):qBin P .shr t xo yo (some (.v (.int k a))) (some (.v (.int yk b)))=some (.v (.int k (a.fdiv (2 ^ min b.toNat k.bits))),[]):=by
 have h:Op.shift .shr k a yk b=pure (.int k (a.fdiv (2 ^ min b.toNat k.bits))):=by unfold Op.shift;rw[if_neg (by omega)]
 have h2:EK P .shr t xo yo (.int k a) (.int yk b)=some (.int k (a.fdiv (2 ^ min b.toNat k.bits))):=by
  have:EK P .shr t xo yo (.int k a) (.int yk b)=bn P (Op.shift .shr k a yk b):=rfl
  rw[this,h];rfl
 simp only[qBin,isSl,mg,fI,h2,Bool.false_and,Bool.or_self,Bool.false_eq_true,if_false,Option.bind_some,gV,scalar,if_true,qVal,Option.map_some]
@[simp] theorem Wv(b:Bool):qUn P .not (some (aB b))=some (aB (!b),[]):=id rfl
def u8(n:Int):UInt8:=UInt8.ofBitVec (BitVec.ofInt 8 n)
def u32(n:Int):UInt32:=UInt32.ofBitVec (BitVec.ofInt 32 n)
@[simp] theorem Vv(n:Int):IntKind.u8.wrap n=((u8 n).toNat:Int):=by
 unfold u8;rw[IntKind.wrap_u8,UInt8.toNat_ofBitVec,BitVec.toNat_ofInt];omega
@[simp] theorem NV(n:Int):IntKind.u32.wrap n=((u32 n).toNat:Int):=by
 unfold u32;rw[IntKind.wrap_u32,UInt32.toNat_ofBitVec,BitVec.toNat_ofInt];omega
theorem Di(n:Int):(u8 n).toNat=(n % 256).toNat:=by
 unfold u8;rw[UInt8.toNat_ofBitVec,BitVec.toNat_ofInt];rfl
theorem Bt(n:Int):(u32 n).toNat=(n % 4294967296).toNat:=by
 unfold u32;rw[UInt32.toNat_ofBitVec,BitVec.toNat_ofInt];rfl
@[simp] theorem N4(x:UInt32):u32 (x.toNat:Int)=x:=by apply UInt32.toNat_inj.1;rw[Bt];have:=x.toNat_lt;omega
@[simp] theorem To(x:UInt32):u8 (x.toNat:Int)=x.toUInt8:=by apply UInt8.toNat_inj.1;rw[Di,UInt32.toNat_toUInt8];omega
@[simp] theorem SN(x:UInt32):IntKind.i64.wrap (x.toNat:Int)=x.toNat:=by have:=x.toNat_lt;exact IntWalk.i64_in _ (by omega)
theorem Tf(v:BitVec 32):IntKind.u32.wrap (v.toNat:Int)=((UInt32.ofBitVec v).toNat:Int):=by
 rw[NV];unfold u32;congr 3;apply BitVec.eq_of_toNat_eq;rw[BitVec.toNat_ofInt];have:=v.isLt;omega
theorem Td(op:BinOp)(f:BitVec 32→BitVec 32→BitVec 32)(g:UInt32→UInt32→UInt32)(hg : ∀x y,g x y=UInt32.ofBitVec (f x.toBitVec y.toBitVec))(hop : ∀x y:Int,qBin P op t xo yo (some (.v (.int .u32 x))) (some (.v (.int .u32 y)))=some (.v (.int .u32 (IntKind.u32.wrap ((f (BitVec.ofInt 32 x) (BitVec.ofInt 32 y)).toNat:Int))),[])) :
 qBin P op t xo yo (some (.v (.int .u32 a))) (some (.v (.int .u32 b)))=some (a32 (g (u32 a) (u32 b)),[]):=by
 rw[hop,Tf,hg];rfl
section
variable(x y:UInt8)
@[simp] theorem R6:qBin P .lss t xo yo (some (a8 x)) (some (a8 y))=some (aB (decide (x<y)),[]):=by
 unfold a8;rw[F7];congr 4;rw[UInt8.lt_iff_toNat_lt];all_goals exact propext (by omega)
@[simp] theorem R7:qBin P .leq t xo yo (some (a8 x)) (some (a8 y))=some (aB (decide (x≤y)),[]):=by
 unfold a8;rw[LG];congr 4;rw[UInt8.le_iff_toNat_le];all_goals exact propext (by omega)
@[simp] theorem R8:qBin P .gtr t xo yo (some (a8 x)) (some (a8 y))=some (aB (decide (y<x)),[]):=by
 unfold a8;rw[LH];congr 4;rw[UInt8.lt_iff_toNat_lt];all_goals exact propext (by omega)
@[simp] theorem R9:qBin P .geq t xo yo (some (a8 x)) (some (a8 y))=some (aB (decide (y≤x)),[]):=by
 unfold a8;rw[LI];congr 4;rw[UInt8.le_iff_toNat_le];all_goals exact propext (by omega)
@[simp] theorem Sa:qBin P .eql t xo yo (some (a8 x)) (some (a8 y))=some (aB (decide (x=y)),[]):=by
 unfold a8;rw[F8];congr 4;rw[←UInt8.toNat_inj];all_goals exact propext (by omega)
@[simp] theorem R5:qBin P .neq t xo yo (some (a8 x)) (some (a8 y))=some (aB (!decide (x=y)),[]):=by
 unfold a8;rw[LF];congr 5;rw[←UInt8.toNat_inj];all_goals exact propext (by omega)
end
section
variable(x y:UInt32)
@[simp] theorem LK:qBin P .andNot t xo yo (some (a32 x)) (some (a32 y))=some (a32 (x &&& ~~~y),[]):=by
 unfold a32;rw[Td P t xo yo _ _ .andNot (fun a b=>a &&& ~~~b) (fun a b=>a &&& ~~~b) (fun _ _=>rfl) (fun _ _=>rfl)];simp only[N4];rfl
@[simp] theorem Qe:qBin P .lss t xo yo (some (a32 x)) (some (a32 y))=some (aB (decide (x<y)),[]):=by
 unfold a32;rw[F7];congr 4;rw[UInt32.lt_iff_toNat_lt];all_goals exact propext (by omega)
@[simp] theorem Qf:qBin P .eql t xo yo (some (a32 x)) (some (a32 y))=some (aB (decide (x=y)),[]):=by
 unfold a32;rw[F8];congr 4;rw[←UInt32.toNat_inj];all_goals exact propext (by omega)
end
theorem iO{P:Program}{t:TypeId}{d:TypeDesc}(h:P.underlying t=some d):bn P (Go.underlying t)=some d:=by
 unfold Go.underlying
 rw[bt]
 show(some P).bind _=_
 rw[Option.bind_some,h]
 rfl
def intKind(P:Program)(t:TypeId):Option IntKind:=match P.underlying t with | some (.int k)=>some k | _=>none
theorem xy{P:Program}{t:TypeId}{k:IntKind}(h:intKind P t=some k):P.underlying t=some (.int k):=by
 unfold intKind at h
 split at h
 ·cases h;assumption
 ·cases h
theorem Dy{g:Get}{r:Ref}{src dst:TypeId}{k':IntKind}(hs:(P.underlying src).isNone=false)(hd:intKind P dst=some k)(n:Int) :
 cL P g r src dst (some (.v (.int k' n)))=some (.v (.int k (k.wrap n)),[]):=by
 have hd:=xy hd
 obtain⟨d,hs⟩ : ∃d,P.underlying src=some d:=by cases h:P.underlying src with | none=>rw[h]at hs;cases hs | some d=>exact⟨d,rfl⟩
 have:bn P (Go.convert src dst (.int k' n))=some (.int k (k.wrap n)):=by
  unfold Go.convert
  rw[bt,iO hs,Option.bind_some,bt,iO hd,Option.bind_some]
  cases d<;>rfl
 simp only[cL,this,Option.bind_some,gV,scalar,if_true,qVal,Option.map_some]
@[simp] theorem Qd{g:Get}{r:Ref}{src dst:TypeId}(hs:(P.underlying src).isNone=false)(hd:intKind P dst=some .i64)(x:UInt32) :
 cL P g r src dst (some (a32 x))=some (aI x.toNat,[]):=by
 unfold a32;rw[Dy P .i64 hs hd,SN]
@[simp] theorem R4{g:Get}{r:Ref}{src dst:TypeId}{k':IntKind}(hs:(P.underlying src).isNone=false)(hd:intKind P dst=some .u8)(n:Int) :
 cL P g r src dst (some (.v (.int k' n)))=some (a8 (u8 n),[]):=by
 unfold a8;rw[Dy P .u8 hs hd,Vv]
end
def by8(l:List UInt8):List AV:=l.map a8
@[simp] theorem Xs(l:List UInt8):(by8 l).length=l.length:=by simp[by8]
@[simp] theorem Xr:by8 []=[]:=id rfl
theorem Lz(P:Program)(d:Bool)(g:Get)(r:Ref)(t:TypeId)(ts:List TypeId)(x:AV)(hx : ∀r',x ≠ .mp r'):aA P d g r .len ⟨t :: ts⟩ [x]=qLen P (some t) x:=by
 unfold aA
 cases x<;>first | rfl | (rename_i q;exact(hx q rfl).elim)
@[simp] theorem Ww(P:Program)(d:Bool)(g:Get)(r:Ref)(t:TypeId)(ts:List TypeId)(x:AV)(hx:(vf x).isSome=true):aA P d g r .len ⟨t :: ts⟩ [x]=qLen P (some t) x:=by
 refine Lz P d g r t ts x fun r' e=>?_
 subst e;cases hx
@[simp] theorem Su:vf aNil=some 0:=id rfl
@[simp] theorem Sv(n:Nat)(es:List AV)(c:Option Nat):vf (.isl n es c)=some es.length:=id rfl
@[simp] theorem Ss(r:Ref)(o n:Nat)(c:Option Nat):vf (.osl r o n c)=some n:=id rfl
@[simp] theorem Qa{P:Program}{t:TypeId}(ha:tarr P t=none)(hs:isStr P t=false)(he:(eJ P t).isSome=true)(x:AV):qLen P (some t) x=(vf x).map fun n=>(aI n,[]):=by
 simp only[qLen,ha,hs,he];rfl
theorem GA{P:Program}{t:TypeId}{z:Nat}(h:(eJ P t).bind (aP P)=some z) : ∃e,eJ P t=some e∧aP P e=some z:=by
 simpa [Option.bind_eq_some_iff] using h
@[simp] theorem AM{P:Program}{t:TypeId}{z:Nat}(h:(eJ P t).bind (aP P)=some z)(g:Get)(es:List AV)(c:Option Nat)(kd:IntKind)(k:Int) :
 aH P g t (some (.isl z es c)) (some (.v (.int kd k)))=if 0≤k∧k<es.length then some (.iptr z es k.toNat 0,[]) else none:=by
 obtain⟨e,he,hz⟩:=GA h
 simp only[aH,Option.bind_some,vg,he,hz,and_true]
@[simp] theorem P9{P:Program}{t:TypeId}(ha:(tagg P t).isSome=true)(hn:(aP P t).isSome=true)(g:Get)(z:Nat)(es:List AV)(i j:Nat) :
 ai P g t (some (.iptr z es i j))=qVal (fD es i j ((aP P t).getD 0) ((tagg P t).getD false)):=by
 obtain⟨a,ha⟩:=Option.isSome_iff_exists.1 ha
 obtain⟨n,hn⟩:=Option.isSome_iff_exists.1 hn
 simp only[ai,ha,hn,Option.getD_some]
def OW(x:Option Blk)(i j n:Nat)(ag:Bool):QRes:=match x with
 | some b=>qVal (fD b.es i j n ag)
 | none=>none
@[simp] theorem Qq(b:Blk)(i j n:Nat)(ag:Bool):OW (some b) i j n ag=qVal (fD b.es i j n ag):=id rfl
@[simp] theorem R3{P:Program}{t:TypeId}(ha:(tagg P t).isSome=true)(hn:(aP P t).isSome=true)(g:Get)(r:Ref)(i j:Nat) :
 ai P g t (some (.ptr r i j))=OW (g r) i j ((aP P t).getD 0) ((tagg P t).getD false):=by
 obtain⟨a,ha⟩:=Option.isSome_iff_exists.1 ha
 obtain⟨n,hn⟩:=Option.isSome_iff_exists.1 hn
 simp only[ai,ha,hn,Option.getD_some]
 rfl
@[simp] theorem I6(e:AV)(es:List AV)(j n:Nat):fD (e :: es) 0 j n true=if j+n≤e.cells.length∧0<n then some (.agg ((e.cells.drop j).take n)) else none:=id rfl
@[simp] theorem I5(e:AV)(es:List AV)(j n:Nat):fD (e :: es) 0 j n false=e.cells[j]?:=id rfl
def Sl(z:Nat)(es:List AV)(x:AV):Prop:=(x=aNil∧es=[]) ∨∃c,x = .isl z es c∧es.length≤c.getD es.length
theorem Sl.mk(z:Nat)(es:List AV):Sl z es (.isl z es none) := .inr ⟨none,rfl,Nat.le_refl _⟩
theorem Sl.len{z:Nat}{es:List AV}{x:AV}(h:Sl z es x):vf x=some es.length:=by
 rcases h with ⟨rfl,rfl⟩ | ⟨c,rfl,_⟩<;>rfl
theorem Sl.isl{z:Nat}{es:List AV}{x:AV}(h:Sl z es x){i:Nat}(hi:i<es.length) : ∃c,x = .isl z es c∧es.length≤c.getD es.length:=by
 rcases h with ⟨rfl,rfl⟩ | h
 ·simp at hi
 ·exact h
theorem Sl.view{z:Nat}{es:List AV}{x:AV}(h:Sl z es x)(g:Get)(n:Nat):view g (n+1) x=some x:=by
 rcases h with ⟨rfl,rfl⟩ | ⟨c,rfl,_⟩<;>rfl
theorem Sl.refs{z:Nat}{es:List AV}{x:AV}(h:Sl z es x)(g:Get)(n:Nat):ay g n x=[]:=by
 rcases h with ⟨rfl,rfl⟩ | ⟨c,rfl,_⟩<;>cases n<;>rfl
theorem Sl.cells{z:Nat}{es:List AV}{x:AV}(h:Sl z es x):x.cells=[x]∧x.one=true:=by
 rcases h with ⟨rfl,_⟩ | ⟨c,rfl,_⟩<;>exact⟨rfl,rfl⟩
@[simp] theorem QX(g:Get)(n:Nat)(x:Value):view g (n+1) (.v x)=some (.v x):=id rfl
@[simp] theorem Xz(g:Get)(n:Nat)(x:UInt8):view g (n+1) (a8 x)=some (a8 x):=id rfl
@[simp] theorem Vy(g:Get)(n:Nat)(x:UInt32):view g (n+1) (a32 x)=some (a32 x):=id rfl
@[simp] theorem Tk(g:Get)(n z:Nat)(es:List AV)(c:Option Nat):view g (n+1) (.isl z es c)=some (.isl z es c):=id rfl
@[simp] theorem Tm(g:Get)(n:Nat)(cs:List AV):view g (n+1) (.agg cs)=(cs.mapM (view g n)).map .agg:=id rfl
@[simp] theorem Tj(g:Get)(n:Nat)(cs:List AV):view g (n+1) (.tup cs)=(cs.mapM (view g n)).map .tup:=id rfl
@[simp] theorem Q0(g:Get)(n z:Nat)(es:List AV)(i j:Nat):view g (n+1) (.iptr z es i j)=some (.iptr z es i j):=id rfl
@[simp] theorem Tl(g:Get)(n:Nat)(t:TypeId)(x:AV):view g (n+1) (.ifc t x)=(view g n x).map (.ifc t):=id rfl
theorem BU{g:Get}{r:Ref}{b:Blk}(hr:g r=some b)(n o l:Nat)(c:Option Nat):view g (n+1) (.osl r o l c)=if b.arr=true∧o+l≤b.es.length then some (.isl b.esz ((b.es.drop o).take l) c) else none:=by
 simp only[view,hr]
theorem bj:depth=8:=Nat.le_antisymm (Nat.le_refl 8) (Nat.le_refl 8)
end Go.Ab
namespace Go.Ab
@[simp] theorem Heap.nT(r q:Ref)(b:Option Blk)(H:Heap):Heap.get ((r,b) :: H) q=if r=q then b else Heap.get H q:=id rfl
attribute [simp] Heap.an
@[simp] theorem Wx(P:Program)(r:Ref)(e:TypeId)(x:AV)(h0:0<(aP P e).getD 0):qBox P r e (some x)=if some x.cells.length=aP P e∧x.cells.all AV.one=true then some (.ptr r 0 0,[⟨(aP P e).getD 0,[x],false,false⟩]) else none:=by
 unfold qBox
 cases h:aP P e with
 | none=>simp
 | some n=>rw[h]at h0;simp only[Option.getD_some]at h0;simp[h0]
def Fr(H:Heap):Prop :=∀d t g k,H.gen d t≤g→H.get ⟨d,t,g,k⟩=none
theorem Fr.nil:Fr []:=fun _ _ _ _ _=>rfl
theorem Fr.keyed{H:Heap}(h:Fr H)(bs:List Blk)(d t:Nat):Fr (Ab.keyed ⟨d,t,H.gen d t,0⟩ 0 bs H):=by
 intro d' t' g k hg
 rw[Heap.iR]at hg
 rw[Heap.DQ]
 by_cases hb:bs=[]
 ·subst hb
  rw[if_neg (by simp)]at hg
  simp[h _ _ _ _ hg]
 ·by_cases hd:d'=d∧t'=t
  ·obtain⟨rfl,rfl⟩:=hd
   rw[if_pos ⟨rfl,rfl,hb⟩]at hg
   dsimp only at hg ⊢
   rw[if_neg (by intro hh;have:=hh.2.2.1;omega)]
   exact h _ _ _ _ (by omega)
  ·rw[if_neg (by intro hh;exact hd ⟨hh.1,hh.2.1⟩)]at hg
   dsimp only at hg ⊢
   rw[if_neg (by intro hh;exact hd ⟨hh.1,hh.2.1⟩)]
   exact h _ _ _ _ hg
theorem Fr.put{H:Heap}(h:Fr H){r:Ref}(b:Option Blk)(hr:(H.get r).isSome=true):Fr (H.put r b):=by
 intro d t g k hg
 rw[Heap.kn H r b hr]at hg
 rw[Heap.an]
 split
 ·rename_i e
  subst e
  rw[h _ _ _ _ hg]at hr
  cases hr
 ·exact h _ _ _ _ hg
theorem Fr.cons{H:Heap}(h:Fr H)(d t:Nat)(b:Option Blk):Fr ((⟨d,t,H.gen d t,0⟩,b) :: H):=by
 intro d' t' g k hg
 simp only[Heap.gen]at hg
 rw[Heap.nT]
 split at hg
 ·rename_i e
  obtain⟨rfl,rfl⟩:=e
  rw[if_neg (by intro e;injection e;omega)]
  exact h _ _ _ _ (by omega)
 ·rename_i e
  rw[if_neg (by intro e';injection e' with e1 e2;exact e ⟨e1,e2⟩)]
  exact h _ _ _ _ hg
theorem mK{H:Heap}(hF:Fr H){q:Ref}(h:(H.get q).isSome=true)(d t k:Nat):(⟨d,t,H.gen d t,k⟩:Ref)≠q:=by
 intro e;subst e;rw[hF _ _ _ _ (Nat.le_refl _)]at h;cases h
def elT(P:Program)(t z by':Nat):Bool:=match eJ P t with
 | some e=>aP P e == some z&&oY P e == some by'&&(match fC P e with | some zz=>zz.cells.length == z&&zz.cells.all AV.one | none=>false)&&z != 0&&by' != 0
 | none=>false
def apT(P:Program)(t:TypeId):Bool:=(P.underlying t).isSome && !isInt P t
theorem iB{P:Program}{t z by':Nat}(h:elT P t z by'=true) : ∃e zz,eJ P t=some e∧aP P e=some z∧oY P e=some by'∧fC P e=some zz∧zz.cells.length=z∧zz.cells.all AV.one=true∧z≠0∧by'≠0:=by
 unfold elT at h
 split at h
 ·rename_i e he
  simp only[Bool.and_eq_true,beq_iff_eq,bne_iff_ne]at h
  obtain⟨⟨⟨⟨h1,h2⟩,h3⟩,h4⟩,h5⟩:=h
  split at h3
  ·rename_i zz hz
   simp only[Bool.and_eq_true,beq_iff_eq]at h3
   exact⟨e,zz,he,h1,h2,hz,h3.1,h3.2,h4,h5⟩
  ·cases h3
 ·cases h
def Els(g:Get)(z:Nat)(new:List AV)(x:AV):Prop:=(x=aNil∧new=[])∨(isNum x=false∧x≠aNil∧cM g x=some (z,new))
theorem Els.oo{P:Program}{t z by':Nat}(h:elT P t z by'=true){e:TypeId}(he:eJ P t=some e){g:Get}{new:List AV}{x:AV}(hx:Els g z new x):oo P g e x=some (z,new):=by
 obtain⟨e',zz,h1,h2,h3,h4,h5,h6,h7,h8⟩:=iB h
 rw[he]at h1;cases h1
 rcases hx with ⟨rfl,rfl⟩ | ⟨hn,hne,hx⟩
 ·simp only[Ab.oo,h2,Option.map_some]
 ·unfold Ab.oo
  split
  ·exact(hne rfl).elim
  ·simp[isNum]at hn
  ·exact hx
theorem Els.num{g:Get}{z:Nat}{new:List AV}{x:AV}(hx:Els g z new x):isNum x=false:=by
 rcases hx with ⟨rfl,_⟩ | ⟨hn,_⟩
 ·rfl
 ·exact hn
theorem Sl.els{z:Nat}{es:List AV}{x:AV}(h:Sl z es x)(g:Get):Els g z es x:=by
 rcases h with ⟨rfl,rfl⟩ | ⟨c,rfl,_⟩
 ·exact .inl ⟨rfl,rfl⟩
 ·exact .inr ⟨rfl,(by intro e;cases e),rfl⟩
def Own(z:Nat)(es:List AV)(H:Heap)(x:AV):Prop:=(x=aNil∧es=[]) ∨∃r,x = .osl r 0 es.length none∧H.get r=some ⟨z,es,true,false⟩
theorem Jn(z:Nat)(H:Heap):Own z [] H aNil := .inl ⟨rfl,rfl⟩
theorem Own.len{z:Nat}{es:List AV}{H:Heap}{x:AV}(h:Own z es H x):vf x=some es.length:=by
 rcases h with ⟨rfl,rfl⟩ | ⟨r,rfl,_⟩<;>rfl
theorem Own.view{z:Nat}{es:List AV}{H:Heap}{x:AV}(h:Own z es H x)(n:Nat) : ∃y,view H.get (n+1) x=some y∧Sl z es y:=by
 rcases h with ⟨rfl,rfl⟩ | ⟨r,rfl,hr⟩
 ·exact⟨aNil,rfl,.inl ⟨rfl,rfl⟩⟩
 ·refine⟨.isl z es none,?_,Sl.mk z es⟩
  rw[BU hr]
  simp
theorem Own.els{z:Nat}{es:List AV}{H:Heap}{x:AV}(h:Own z es H x):Els H.get z es x:=by
 rcases h with ⟨rfl,rfl⟩ | ⟨r,rfl,hr⟩
 ·exact .inl ⟨rfl,rfl⟩
 ·refine .inr ⟨rfl,(by intro e;cases e),?_⟩
  simp[cM,hr]
def AV.at?:AV→Option Ref
 | .osl r _ _ _=>some r
 | .ptr r _ _=>some r
 | _=>none
theorem Own.osl{z:Nat}{es:List AV}{H:Heap}{x:AV}(h:Own z es H x)(hn:es≠[]) : ∃r,x = .osl r 0 es.length none∧H.get r=some ⟨z,es,true,false⟩:=by
 rcases h with ⟨_,rfl⟩ | h
 ·exact(hn rfl).elim
 ·exact h
end Go.Ab
