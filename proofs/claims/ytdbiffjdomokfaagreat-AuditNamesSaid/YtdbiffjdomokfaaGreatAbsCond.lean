/-
  What is to be shown for a run of the abstract machine, as one proposition that is computed from the code. No statement of a seat is proved here.
  More fuel gives the same answer. No statement of a seat is proved here.
  What the abstract machine's operations yield on data: the rules for the conditions. No statement of a seat is proved here.
  Own memory in the conditions: appends, stores, loads, what is seen of it. No statement of a seat is proved here.
-/
import Derived.Test.YtdbiffjdomokfaaGreatAbsEnv
import Derived.IntWalk
set_option linter.unusedVariables false
set_option linter.unusedSimpArgs false
namespace Go.Ab
abbrev dA:=Nat→AV
def cB(s:dA):Operand→Option AV
 | .tmp t=>some (s t)
 | .const v=>ofValue v
 | .func f=>some (.fn (.func f) [] [])
 | .global _=>none
def xg(ev:Operand→Option AV):List Operand→Option (List AV)
 | []=>some []
 | o :: os=>match ev o,xg ev os with
  | some x,some xs=>some (x :: xs)
  | _,_=>none
def ym(ev:Operand→Option AV):List (Nat × Operand)→Option (List (Nat × AV))
 | []=>some []
 | (i,o) :: os=>match ev o,ym ev os with
  | some x,some xs=>some ((i,x) :: xs)
  | _,_=>none
def Fw(ev:Operand→Option AV):Option Operand→Option (Option Int)
 | none=>some none
 | some o=>match (ev o).bind intOf with
  | some n=>some (some n)
  | none=>none
def yD(s:dA)(d:Nat)(v:AV):dA:=fun i=>cond (Nat.beq i d) v (s i)
def dQ(tm:List AV)(s:dA):Prop :=∀i,cL tm i=s i
theorem rE{tm:List AV}{s:dA}(h:dQ tm s):aX tm=cB s:=by
 funext o;cases o<;>simp[aX,cB,h _]
theorem A4(ev:Operand→Option AV)(l:List Operand):l.mapM ev=xg ev l:=by
 induction l with
 | nil=>rfl
 | cons o l ih =>
  simp only[List.mapM_cons,ih,xg,Option.pure_def,Option.bind_eq_bind]
  cases ev o<;>cases xg ev l<;>rfl
theorem CY{tm:List AV}{s:dA}(h:dQ tm s)(l:List (Nat × Operand)):fK tm l=ym (cB s) l:=by
 induction l with
 | nil=>rfl
 | cons o l ih =>
  obtain⟨i,o⟩:=o
  unfold fK at ih ⊢
  rw[List.mapM_cons,ih]
  simp only[ym,Option.pure_def,Option.bind_eq_bind,rE h]
  cases cB s o<;>cases ym (cB s) l<;>rfl
theorem DQ{tm:List AV}{s:dA}(h:dQ tm s)(o:Option Operand):jj tm o=Fw (cB s) o:=by
 cases o with
 | none=>rfl
 | some o=>simp only[jj,Fw,rE h];rfl
theorem dQ.set{tm:List AV}{s:dA}(h:dQ tm s)(d:Nat)(v:AV):dQ (rZ tm d v) (yD s d v):=by
 intro i
 rw[kT]
 unfold yD
 split
 ·rename_i e;subst e;simp
 ·rename_i e;rw[show Nat.beq i d=false from by cases hb:Nat.beq i d with | false=>rfl | true=>exact(e (Nat.eq_of_beq_eq_true hb)).elim];exact h i
def bp(c a b:Option AV):fY :=
 match c.bind yQ with
 | some true=>cJ a
 | some false=>cJ b
 | none=>none
def bn(H:ab)(r:Ref)(q:fY):dq :=
 match q with
 | some (v,bs)=>some (v,keyed r 0 bs H)
 | none=>none
def zw(wk:Bool)(a b:dq):dq :=
 match a with
 | some x=>some x
 | none=>cond wk b none
def bm(E:Env)(wk:Bool)(pc:FuncId→List AV→Option AV)(tc:q6→List AV→ab→dq)(H:ab)(r:Ref)(f:Option AV)(args:List AV):dq :=
 zw wk (bn H r (gR E pc H.get r f args)) (jU E pc tc H r f args)
def j1(E:Env)(wk:Bool)(pc:FuncId→List AV→Option AV)(tc:q6→List AV→ab→dq)(H:ab)(r:Ref)(f:Option AV)(args:List AV):dq :=
 zw wk (bn H r ((gR E pc H.get r f args).map fun p=>(p.1,tM true p.2))) (mh true E.sm H (jU E pc tc H r f args))
def cR(P:Program)(wk:Bool)(H:ab)(r:Ref)(t t':Option TypeId)(s x:AV):dq :=
 zw wk (bn H r (gk P H.get r t t' s x)) (jK P H t t' s x)
def eO(P:Program)(draw wk:Bool)(H:ab)(r:Ref)(t:TypeId)(n:Nat)(vs:Option (List (Nat × AV))):dq :=
 zw wk (bn H r (fj P draw H.get r t n vs)) (gO P H r t n vs)
def ry(E:Env)(pc:FuncId→List AV→Option AV)(tc:q6→List AV→ab→dq)(dep:Nat)(draw wk:Bool)(s:dA)(H:ab)(r:Ref)(o:Oper):fY ⊕ dq :=
 match o.op with
 | .move x | .assign x => .inl (cJ (cB s x))
 | .pick c a b => .inl (bp (cB s c) (cB s a) (cB s b))
 | .alloc e => .inr (bn H r (bV E.P r e))
 | .box e x => .inr (bn H r (cE E.P r e (cB s x)))
 | .build t ps => .inl (cb E.P t (ym (cB s) ps.toList))
 | .buildSlice t n ps => .inr (eO E.P (draw && !E.strict o) wk H r t n (ym (cB s) ps.toList))
 | .load t a => .inl (aj E.P H.get t (cB s a))
 | .store t a x => .inr (cond wk (aV E.P H t (cB s a) (cB s x)) none)
 | .nilCheck x => .inl (jD (cB s x))
 | .binOp op t xo yo _ => .inl (aE E.P op t xo yo (cB s xo) (cB s yo))
 | .unOp op _ x => .inl (wP E.P op (cB s x))
 | .convert src dst x=>match eF E.P dst with
  | true => .inr (bn H r (cM E.P H.get r src dst (cB s x)))
  | false => .inl (cM E.P H.get r src dst (cB s x))
 | .makeInterface t x => .inl (nL E.P t (cB s x))
 | .makeFunc f first captured => .inl (rp f (xg (cB s) first.toList) (xg (cB s) captured.toList))
 | .makeSlice t l c => .inr (bn H r (tz E.P r t (cB s l) (cB s c)))
 | .slice t x lo hi mx=>match E.wide o && !draw with
  | true => .inl (qe E.P H.get t (cB s x) (Fw (cB s) lo) (Fw (cB s) hi) (Fw (cB s) mx))
  | false => .inl (eE E.P H.get t (cB s x) (Fw (cB s) lo) (Fw (cB s) hi) (Fw (cB s) mx))
 | .fieldAddr t x f => .inl (aa E.P t (cB s x) f)
 | .field t x f => .inl (ke E.P t (cB s x) f)
 | .indexAddr t x ix => .inl (aQ E.P H.get t (cB s x) (cB s ix))
 | .index t x ix => .inl (mU E.P t (cB s x) (cB s ix))
 | .typeAssert x _ want ok => .inl (nZ E.P (cB s x) want ok)
 | .extract x i => .inl (aH (cB s x) i)
 | .call c =>
  match xg (cB s) c.args.toList with
  | none => .inl none
  | some args =>
   match c.callee with
   | .value f=>(match y5 E.oX draw f with
    | some t => .inl (Fj E.P H.get t args)
    | none=>(match E.iQ o with
     | true => .inr (j1 E wk pc tc H r (cB s f) args)
     | false => .inr (bm E wk pc tc H r (cB s f) args)))
   | .invoke _ _ => .inl none
   | .builtin b=>match b,args with
    | .append,[a,x] => .inr (cR E.P wk H r c.argTypes[0]? c.argTypes[1]? a x)
    | .copy,[dst,x]=>(match E.wide o with
     | true => .inr (cond wk (zZ E.P H c.argTypes[0]? dst x) none)
     | false => .inr (cond wk (EF E.P H c.argTypes[0]? dst x) none))
    | b,args => .inl (aM E.P (draw&&(E.strict o || !(match c.args.toList with | [.tmp _]=>true | _=>false))) H.get r b c.argTypes args)
 | .makeMap _ none => .inr (bn H r (some (.mp r,[bq []])))
 | .lookup t x k ok => .inl (cQ E.P H.get t (cB s x) (cB s k) ok)
 | .mapUpdate t m k x => .inr (cond wk (dE E.P H t (cB s m) (cB s k) (cB s x)) none)
 | .insert t m k x => .inr (cond wk (dE E.P H t (cB s m) (cB s k) (cB s x)) none)
 | .mapEntry t m k => .inr (cond wk (ei E.P H t (cB s m) (cB s k)) none)
 | .entryStore _ m n x => .inr (cond wk (cW H (cB s m) (cB s n) (cB s x)) none)
 | .makeChan t n => .inr (cond wk (nE E.P H r t (cB s n)) none)
 | .send c x => .inr (cond wk (uS H (cB s c) (cB s x)) none)
 | .recv t c ok => .inr (cond wk (sI E.P H t (cB s c) ok) none)
 | _ => .inl none
def mo(E:Env)(pc:FuncId→List AV→Option AV)(tc:q6→List AV→ab→dq)(dep:Nat)(draw:Bool)(tm:List AV)(H:ab)(o:Oper):dq :=
 match ct E pc draw H.get tm ⟨dep,o.dst.getD 0,H.gen dep (o.dst.getD 0),0⟩ o with
 | some (x,bs)=>some (x,keyed ⟨dep,o.dst.getD 0,H.gen dep (o.dst.getD 0),0⟩ 0 bs H)
 | none=>if draw && !fZ E o then none else evalW E pc tc H tm ⟨dep,o.dst.getD 0,H.gen dep (o.dst.getD 0),0⟩ o
theorem Bi(E:Env)(pc:FuncId→List AV→Option AV)(tc:q6→List AV→ab→dq)(nt dep:Nat)(draw:Bool)(ops:Array Oper)(o:Oper)(st:St) :
 evalOp E pc tc nt dep draw ops o st=(match wanted ops st.tm o with
  | none=>none
  | some false=>(cY nt st.tm o.dst AV.undef).map fun tm => { st with tm}
  | some true=>match mo E pc tc dep draw st.tm st.hp o with
   | some (x,H)=>(cY nt st.tm o.dst x).map fun tm=>⟨tm,H⟩
   | none=>none):=by
 unfold evalOp mo
 cases hw:wanted ops st.tm o with
 | none=>rfl
 | some b =>
 cases b with
 | false=>rfl
 | true =>
  cases ct E pc draw st.hp.get st.tm ⟨dep,o.dst.getD 0,st.hp.gen dep (o.dst.getD 0),0⟩ o with
  | some p=>rfl
  | none =>
   dsimp only
   split
   ·rfl
   ·rfl
theorem Ox{E:Env}{pc:FuncId→List AV→Option AV}{tc:q6→List AV→ab→dq}{dep:Nat}{draw:Bool}{tm:List AV}{H:ab}{o:Oper}{v:AV}
 (h:ct E pc draw H.get tm ⟨dep,o.dst.getD 0,H.gen dep (o.dst.getD 0),0⟩ o=some (v,[])):mo E pc tc dep draw tm H o=some (v,H):=by
 unfold mo;rw[h];rfl
theorem IK{E:Env}{pc:FuncId→List AV→Option AV}{tc:q6→List AV→ab→dq}{dep:Nat}{draw:Bool}{tm:List AV}{H H':ab}{o:Oper}{v:AV}{q:fY}
 (h:ct E pc draw H.get tm ⟨dep,o.dst.getD 0,H.gen dep (o.dst.getD 0),0⟩ o=q) (hq:bn H ⟨dep,o.dst.getD 0,H.gen dep (o.dst.getD 0),0⟩ q=some (v,H')):mo E pc tc dep draw tm H o=some (v,H'):=by
 unfold mo;rw[h]
 unfold bn at hq
 split at hq
 ·exact hq
 ·cases hq
theorem kz{E:Env}{pc:FuncId→List AV→Option AV}{tc:q6→List AV→ab→dq}{dep:Nat}{draw:Bool}{tm:List AV}{H H':ab}{o:Oper}{v:AV}{q:fY}{w:dq}
 (h:ct E pc draw H.get tm ⟨dep,o.dst.getD 0,H.gen dep (o.dst.getD 0),0⟩ o=q) (hw:evalW E pc tc H tm ⟨dep,o.dst.getD 0,H.gen dep (o.dst.getD 0),0⟩ o=w)
 (hq:zw (!(draw && !fZ E o)) (bn H ⟨dep,o.dst.getD 0,H.gen dep (o.dst.getD 0),0⟩ q) w=some (v,H')):mo E pc tc dep draw tm H o=some (v,H'):=by
 unfold mo;rw[h]
 cases q with
 | some p=>simpa [zw,bn] using hq
 | none =>
  rw[hw]
  cases hd:(draw && !fZ E o) with
  | true=>rw[hd]at hq;simp[zw,bn]at hq
  | false=>rw[hd]at hq;simpa [zw,bn] using hq
section
variable{E:Env}{pc:FuncId→List AV→Option AV}{tc:q6→List AV→ab→dq}{dep:Nat}{draw:Bool}{tm:List AV}{s:dA}{H:ab}{o:Oper}
theorem N0(hs:dQ tm s){q:fY}{v:AV}
 (h:ry E pc tc dep draw (!(draw && !fZ E o)) s H ⟨dep,o.dst.getD 0,H.gen dep (o.dst.getD 0),0⟩ o = .inl q) (hq:q=some (v,[])):mo E pc tc dep draw tm H o=some (v,H):=by
 subst hq
 refine Ox ?_
 have e:=rE hs
 unfold ry at h
 unfold ct
 split at h<;>rename_i ho<;>simp only[ho]
 all_goals try (simp only[Sum.inl.injEq,reduceCtorEq]at h)
 all_goals try (rw[←h];simp only[e,bp,AB,CY hs,DQ hs,A4];done)
 ·rw[←h];unfold AB bp;rw[e];rfl
 ·split at h
  ·cases h
  ·simp only[Sum.inl.injEq]at h;rw[←h,e]
 ·cases hwd:(E.wide o && !draw) with
  | true=>rw[hwd]at h;simp only[Sum.inl.injEq]at h;rw[←h];simp only[cond_true,e,DQ hs]
  | false=>rw[hwd]at h;simp only[Sum.inl.injEq]at h;rw[←h];simp only[cond_false,e,DQ hs]
 ·rw[A4,e]
  split at h
  ·cases h
  ·rename_i args hargs
   rw[hargs]
   dsimp only
   split at h
   ·rename_i f hf
    rw[hf]
    dsimp only
    split at h
    ·rename_i t ht
     simp only[Sum.inl.injEq]at h
     simp only[ht]
     exact h
    ·split at h<;>cases h
   ·cases h
   ·rename_i b hb
    rw[hb]
    dsimp only
    split at h
    ·cases h
    ·split at h<;>cases h
    ·simp only[Sum.inl.injEq]at h;exact h
theorem NZ(hs:dQ tm s){w:dq}{v:AV}{H':ab}
 (h:ry E pc tc dep draw (!(draw && !fZ E o)) s H ⟨dep,o.dst.getD 0,H.gen dep (o.dst.getD 0),0⟩ o = .inr w) (hw:w=some (v,H')):mo E pc tc dep draw tm H o=some (v,H'):=by
 subst hw
 have e:=rE hs
 unfold ry at h
 split at h<;>rename_i ho
 all_goals try (simp only[reduceCtorEq]at h;done)
 all_goals try (simp only[Sum.inr.injEq]at h)
 all_goals try (refine IK (by unfold ct;simp only[ho,e]) h;done)
 ·rw[←CY hs]at h
  exact kz (q:=fj _ _ _ _ _ _ _) (w:=gO _ _ _ _ _ _) (by unfold ct;simp only[ho]) (by unfold evalW;simp only[ho]) h
 ·rw[←e]at h
  exact kz (q:=none) (w:=aV _ _ _ _ _) (by unfold ct;simp only[ho]) (by unfold evalW;simp only[ho]) h
 ·split at h
  ·simp only[Sum.inr.injEq]at h
   refine IK (by unfold ct;simp only[ho,e]) h
  ·cases h
 ·split at h<;>cases h
 ·split at h
  ·cases h
  ·rename_i args hargs
   have ha:=hargs
   rw[←A4,←e]at ha
   split at h
   ·rename_i f hf
    split at h
    ·cases h
    ·rename_i hov
     split at h
     ·rename_i hfz
      simp only[Sum.inr.injEq]at h
      rw[←e]at h
      exact kz (q:=(gR _ _ _ _ _ _).map _) (w:=mh true _ _ (jU _ _ _ _ _ _ _)) (by unfold ct;simp only[ho,ha,hf,hov,hfz]) (by unfold evalW;simp only[ho,ha,hf,hfz]) h
     ·rename_i hfz
      simp only[Sum.inr.injEq]at h
      rw[←e]at h
      exact kz (q:=gR _ _ _ _ _ _) (w:=jU _ _ _ _ _ _ _) (by unfold ct;simp only[ho,ha,hf,hov,hfz,tM];cases gR E pc H.get _ (aX tm f) args<;>rfl) (by unfold evalW;simp only[ho,ha,hf,hfz];rfl) h
   ·cases h
   ·rename_i b hb
    split at h
    ·simp only[Sum.inr.injEq]at h
     exact kz (q:=gk _ _ _ _ _ _ _) (w:=jK _ _ _ _ _ _) (by unfold ct;simp only[ho,ha,hb];rfl) (by unfold evalW;simp only[ho,ha,hb]) h
    ·split at h
     ·rename_i hwd
      simp only[Sum.inr.injEq]at h
      exact kz (q:=none) (w:=zZ _ _ _ _ _) (by unfold ct;simp only[ho,ha,hb];rfl) (by unfold evalW;simp only[ho,ha,hb,hwd,cond_true]) h
     ·rename_i hwd
      simp only[Sum.inr.injEq]at h
      exact kz (q:=none) (w:=EF _ _ _ _ _) (by unfold ct;simp only[ho,ha,hb];rfl) (by unfold evalW;simp only[ho,ha,hb,hwd,cond_false]) h
    ·cases h
 ·rw[←e]at h
  exact kz (q:=none) (w:=dE _ _ _ _ _ _) (by unfold ct;simp only[ho]) (by unfold evalW;simp only[ho]) h
 ·rw[←e]at h
  exact kz (q:=none) (w:=dE _ _ _ _ _ _) (by unfold ct;simp only[ho]) (by unfold evalW;simp only[ho]) h
 ·rw[←e]at h
  exact kz (q:=none) (w:=ei _ _ _ _ _) (by unfold ct;simp only[ho]) (by unfold evalW;simp only[ho]) h
 ·rw[←e]at h
  exact kz (q:=none) (w:=cW _ _ _ _) (by unfold ct;simp only[ho]) (by unfold evalW;simp only[ho]) h
 ·rw[←e]at h
  exact kz (q:=none) (w:=nE _ _ _ _ _) (by unfold ct;simp only[ho]) (by unfold evalW;simp only[ho]) h
 ·rw[←e]at h
  exact kz (q:=none) (w:=uS _ _ _) (by unfold ct;simp only[ho]) (by unfold evalW;simp only[ho]) h
 ·rw[←e]at h
  exact kz (q:=none) (w:=sI _ _ _ _ _) (by unfold ct;simp only[ho]) (by unfold evalW;simp only[ho]) h
end
open Classical in
noncomputable def bj(E:Env)(f:FuncId)(args:List AV):Option AV :=
 if h : ∃y n,∀m,n≤m→db E (ck E m) f args=some y then some h.choose else none
theorem uK{E:Env}{f:FuncId}{args:List AV}{y:AV}:bj E f args=some y ↔ ∃n,∀m,n≤m→db E (ck E m) f args=some y:=by
 unfold bj
 constructor
 ·intro h
  split at h
  ·rename_i hh
   simp only[Option.some.injEq]at h
   rw[←h]
   exact hh.choose_spec
  ·cases h
 ·intro h
  rw[dif_pos ⟨y,h⟩]
  obtain⟨n,hn⟩:=h
  have hh : ∃y n,∀m,n≤m→db E (ck E m) f args=some y:=⟨y,n,hn⟩
  obtain⟨n',hn'⟩:=hh.choose_spec
  have h1:=hn (max n n') (Nat.le_max_left ..)
  have h2:=hn' (max n n') (Nat.le_max_right ..)
  exact h2.symm.trans h1
open Classical in
noncomputable def bR(E:Env)(dep:Nat)(f:q6)(args:List AV)(H:ab):dq :=
 if h : ∃y n,∀m,n≤m→ek E (ck E m) dep f args H=some y then some h.choose else none
theorem qm{E:Env}{dep:Nat}{f:q6}{args:List AV}{H:ab}{y:AV × ab}:bR E dep f args H=some y ↔ ∃n,∀m,n≤m→ek E (ck E m) dep f args H=some y:=by
 unfold bR
 constructor
 ·intro h
  split at h
  ·rename_i hh
   simp only[Option.some.injEq]at h
   rw[←h]
   exact hh.choose_spec
  ·cases h
 ·intro h
  rw[dif_pos ⟨y,h⟩]
  obtain⟨n,hn⟩:=h
  have hh : ∃y n,∀m,n≤m→ek E (ck E m) dep f args H=some y:=⟨y,n,hn⟩
  obtain⟨n',hn'⟩:=hh.choose_spec
  have h1:=hn (max n n') (Nat.le_max_left ..)
  have h2:=hn' (max n n') (Nat.le_max_right ..)
  exact h2.symm.trans h1
theorem Gr{E:Env}{wk:Bool}{dep:Nat}{H H':ab}{r:Ref}{f:Option AV}{args:List AV}{v:AV}(h:bm E wk (bj E) (bR E dep) H r f args=some (v,H')) :
 ∃n,∀m,n≤m→bm E wk (db E (ck E m)) (ek E (ck E m) dep) H r f args=some (v,H'):=by
 unfold bm at h ⊢
 by_cases hf : ∃fi first captured,f=some (.fn (.func fi) first captured)
 ·obtain⟨fi,first,captured,rfl⟩:=hf
  by_cases h2:E.mode fi=2
  ·simp only[gR,jU,if_pos h2,bn,zw]at h ⊢
   cases wk with
   | true =>
    simp only[cond_true]at h ⊢
    obtain⟨n,hn⟩:=qm.1 h
    exact⟨n,hn⟩
   | false=>simp at h
  ·simp only[gR,jU,if_neg h2]at h ⊢
   cases hx:(first++args++captured).mapM (view H.get depth) with
   | none=>rw[hx]at h;simp[bn,zw]at h
   | some xs =>
    rw[hx]at h
    dsimp only at h ⊢
    cases hy:bj E fi xs with
    | none=>rw[hy]at h;simp[bn,zw]at h
    | some y =>
     rw[hy]at h
     obtain⟨n,hn⟩:=uK.1 hy
     refine⟨n,fun m hm=>?_⟩
     rw[hn m hm]
     exact h
 ·have h1 : ∀pc,gR E pc H.get r f args=none:=by
   intro pc
   unfold gR
   split
   ·exact(hf ⟨_,_,_,rfl⟩).elim
   ·rfl
  by_cases hy : ∃q,f=some (.yld q)
  ·obtain⟨q,rfl⟩:=hy
   rw[h1]at h
   cases wk with
   | false=>simp[bn,zw]at h
   | true =>
    have h':bR E dep (.yld q) args H=some (v,H'):=h
    obtain⟨n,hn⟩:=qm.1 h'
    refine⟨n,fun m hm=>?_⟩
    rw[h1]
    exact hn m hm
  ·have h2 : ∀pc tc,jU E pc tc H r f args=none:=by
    intro pc tc
    unfold jU
    split
    ·exact(hf ⟨_,_,_,rfl⟩).elim
    ·exact(hy ⟨_,rfl⟩).elim
    ·rfl
   rw[h1,h2]at h
   cases wk<;>simp[bn,zw]at h
theorem zX{sm:Gz}{H H':ab}{x:dq}{v:AV}(h:mh true sm H x=some (v,H')) : ∃H1,x=some (v,H1)∧H'=H∧flat depth v=true∧(Ba H H1||sm.f H H1)=true:=by
 cases x with
 | none=>simp[mh]at h
 | some p =>
  obtain⟨y,H1⟩:=p
  unfold mh at h
  simp only at h
  split at h
  ·rename_i hc
   cases h
   rw[Bool.and_eq_true]at hc
   exact⟨H1,rfl,rfl,hc.1,hc.2⟩
  ·cases h
theorem Eo{E:Env}{wk:Bool}{dep:Nat}{H H':ab}{r:Ref}{f:Option AV}{args:List AV}{v:AV}(h:j1 E wk (bj E) (bR E dep) H r f args=some (v,H')) :
 ∃n,∀m,n≤m→j1 E wk (db E (ck E m)) (ek E (ck E m) dep) H r f args=some (v,H'):=by
 unfold j1 at h ⊢
 by_cases hf : ∃fi first captured,f=some (.fn (.func fi) first captured)
 ·obtain⟨fi,first,captured,rfl⟩:=hf
  by_cases h2:E.mode fi=2
  ·simp only[gR,jU,if_pos h2,bn,zw,Option.map_none]at h ⊢
   cases wk with
   | true =>
    simp only[cond_true]at h ⊢
    obtain⟨H1,e1,e2,e3,e4⟩:=zX h
    obtain⟨n,hn⟩:=qm.1 e1
    refine⟨n,fun m hm=>?_⟩
    rw[hn m hm]
    rw[e1]at h
    exact h
   | false=>simp at h
  ·simp only[gR,jU,if_neg h2]at h ⊢
   cases hx:(first++args++captured).mapM (view H.get depth) with
   | none=>rw[hx]at h;simp[bn,zw,mh]at h
   | some xs =>
    rw[hx]at h
    dsimp only at h ⊢
    cases hy:bj E fi xs with
    | none=>rw[hy]at h;simp[bn,zw,mh]at h
    | some y =>
     rw[hy]at h
     obtain⟨n,hn⟩:=uK.1 hy
     refine⟨n,fun m hm=>?_⟩
     rw[hn m hm]
     exact h
 ·have h1 : ∀pc,gR E pc H.get r f args=none:=by
   intro pc
   unfold gR
   split
   ·exact(hf ⟨_,_,_,rfl⟩).elim
   ·rfl
  by_cases hy : ∃q,f=some (.yld q)
  ·obtain⟨q,rfl⟩:=hy
   rw[h1]at h
   cases wk with
   | false=>simp[bn,zw]at h
   | true =>
    have h':mh true E.sm H (bR E dep (.yld q) args H)=some (v,H'):=h
    obtain⟨H1,e1,_⟩:=zX h'
    obtain⟨n,hn⟩:=qm.1 e1
    refine⟨n,fun m hm=>?_⟩
    rw[h1]
    show mh true E.sm H (ek E (ck E m) dep (.yld q) args H)=_
    rw[hn m hm]
    rw[e1]at h'
    exact h'
  ·have h2 : ∀pc tc,jU E pc tc H r f args=none:=by
    intro pc tc
    unfold jU
    split
    ·exact(hf ⟨_,_,_,rfl⟩).elim
    ·exact(hy ⟨_,rfl⟩).elim
    ·rfl
   rw[h1,h2]at h
   cases wk<;>simp[bn,zw,mh]at h
theorem CZ{E:Env}{dep:Nat}{draw wk:Bool}{s:dA}{H:ab}{r:Ref}{o:Oper} :
 (∀q v,ry E (bj E) (bR E dep) dep draw wk s H r o = .inl q→q=some (v,[]) →∃n,∀m,n≤m→ry E (db E (ck E m)) (ek E (ck E m) dep) dep draw wk s H r o = .inl (some (v,[]))) ∧
 (∀w v H',ry E (bj E) (bR E dep) dep draw wk s H r o = .inr w→w=some (v,H') →∃n,∀m,n≤m→ry E (db E (ck E m)) (ek E (ck E m) dep) dep draw wk s H r o = .inr (some (v,H'))):=by
 constructor
 ·intro q v h hq
  subst hq
  refine⟨0,fun m _=>?_⟩
  unfold ry at h ⊢
  generalize o.op=op at h ⊢
  cases op
  all_goals try exact h
  case makeMap a b=>cases b<;>exact h
  rename_i c
  dsimp only at h ⊢
  cases ha:xg (cB s) c.args.toList with
  | none=>rw[ha]at h;exact h
  | some args =>
   rw[ha]at h
   dsimp only at h ⊢
   cases hc:c.callee with
   | value f =>
    rw[hc]at h
    dsimp only at h ⊢
    cases hov:y5 E.oX draw f with
    | some t=>rw[hov]at h;exact h
    | none=>rw[hov]at h;dsimp only at h;split at h<;>cases h
   | invoke a b=>rw[hc]at h;exact h
   | builtin b=>rw[hc]at h;exact h
 ·intro w v H' h hw
  subst hw
  unfold ry at h ⊢
  generalize o.op=op at h ⊢
  cases op
  all_goals try (exact⟨0,fun m _=>h⟩)
  case makeMap a b=>cases b<;>exact⟨0,fun m _=>h⟩
  rename_i c
  dsimp only at h ⊢
  cases ha:xg (cB s) c.args.toList with
  | none=>rw[ha]at h;cases h
  | some args =>
   rw[ha]at h
   dsimp only at h ⊢
   cases hc:c.callee with
   | value f =>
    rw[hc]at h
    dsimp only at h ⊢
    cases hov:y5 E.oX draw f with
    | some t=>rw[hov]at h;cases h
    | none =>
    rw[hov]at h
    dsimp only at h ⊢
    cases hfz:E.iQ o with
    | true =>
     rw[hfz]at h
     simp only[Sum.inr.injEq]at h
     obtain⟨n,hn⟩:=Eo h
     exact⟨n,fun m hm=>congrArg _ (hn m hm)⟩
    | false =>
     rw[hfz]at h
     simp only[Sum.inr.injEq]at h
     obtain⟨n,hn⟩:=Gr h
     exact⟨n,fun m hm=>congrArg _ (hn m hm)⟩
   | invoke a b=>rw[hc]at h;cases h
   | builtin b=>rw[hc]at h;exact⟨0,fun m _=>h⟩
abbrev Mk{α:Type}(a:α):Type:=Unit
structure ak (q:fY) (K:AV→Prop) (m:Mk K:=()):Prop where
 h : ∃v,q=some (v,[])∧K v
structure aN (w:dq) (K:AV→ab→Prop) (m:Mk K:=()):Prop where
 h : ∃v H,w=some (v,H)∧K v H
def OP(x:AV)(want:Bool):Option Bool :=
 match x with
 | .v (.bool b)=>some (b == want)
 | .v (.tuple vs)=>if vs.isEmpty then some false else none
 | _=>none
def gd(x:AV)(want:Bool)(A B:Prop):Prop :=
 match OP x want with
 | some true=>A
 | some false=>B
 | none=>False
structure gQ (x:AV) (want:Bool) (q:fY) (K:AV→Prop) (m:Mk (q,K):=()):Prop where
 h:gd x want (ak q K) (K AV.undef)
structure gW (x:AV) (want:Bool) (H:ab) (w:dq) (K:AV→ab→Prop) (m:Mk (w,K):=()):Prop where
 h:gd x want (aN w K) (K AV.undef H)
def Yy(x:Option AV)(A B:Prop):Prop :=
 match x.bind yQ with
 | some b=>cond b A B
 | none=>False
structure br (x:Option AV) (A B:Prop) (m:Mk (A,B):=()):Prop where
 h:Yy x A B
def D8(ops:Array Oper)(s:dA)(o:Oper):Option (Option (AV × Bool)) :=
 match o.guard with
 | none=>none
 | some (j,want)=>match (ops[j]?).bind (·.dst) with
  | some t=>some (some (s t,want))
  | none=>some none
def B8(nt:Nat)(s:dA)(dst:Option Tmp)(v:AV)(K:dA→Prop):Prop :=
 match dst with
 | none=>K s
 | some d=>cond (Nat.blt d nt) (K (yD s d v)) False
def wpOp(E:Env)(nt dep:Nat)(draw:Bool)(ops:Array Oper)(o:Oper)(s:dA)(H:ab)(K:dA→ab→Prop):Prop :=
 match ry E (bj E) (bR E dep) dep draw (!(draw && !fZ E o)) s H ⟨dep,o.dst.getD 0,H.gen dep (o.dst.getD 0),0⟩ o with
 | .inl q=>match D8 ops s o with
  | none=>(match o.op with
   | .move x | .assign x=>(match cB s x with
    | some v=>B8 nt s o.dst v fun s=>K s H
    | none=>False)
   | _=>ak q fun v=>B8 nt s o.dst v fun s=>K s H)
  | some (some (x,want))=>gQ x want q fun v=>B8 nt s o.dst v fun s=>K s H
  | some none=>B8 nt s o.dst AV.undef fun s=>K s H
 | .inr w=>match D8 ops s o with
  | none=>aN w fun v H=>B8 nt s o.dst v fun s=>K s H
  | some (some (x,want))=>gW x want H w fun v H=>B8 nt s o.dst v fun s=>K s H
  | some none=>B8 nt s o.dst AV.undef fun s=>K s H
def wpOps(E:Env)(nt dep:Nat)(draw:Bool)(ops:Array Oper):List Oper→dA→ab→(dA→ab→Prop)→Prop
 | [],s,H,K=>K s H
 | o :: os,s,H,K=>wpOp E nt dep draw ops o s H fun s H=>wpOps E nt dep draw ops os s H K
def Fin(E:Env)(fn:Func)(rd:Option Ref)(o:Option St)(y:AV)(H':ab):Prop:=match rd with
 | none =>∃st,o=some st∧pw E.P fn st=some y∧st.hp=H'
 | some r =>∃st n,o=qP (some r) st n∧y = .v (.int .i64 (n:Nat))∧st.hp=H'
def Goes(E:Env)(fn:Func)(rd:Option Ref)(dep:Nat)(items:List Item)(s:dA)(H:ab)(Q:AV→ab→Prop):Prop :=
 ∀tm,dQ tm s →∃y H',Q y H' ∧∃n,∀m,n≤m→Fin E fn rd (ck E m rd fn.ntmps dep items ⟨tm,H⟩) y H'
def It(g:dA):List (Nat × AV)→dA
 | [],i=>g i
 | (j,v) :: l,i=>cond (Nat.beq i j) v (It g l i)
structure OL (E:Env) (fn:Func) (rd:Option Ref) (dep:Nat) (items:List Item) (l:List (Nat × AV)) (H:ab) (Q:AV→ab→Prop):Prop where
 h : ∀g,Goes E fn rd dep items (It g l) H Q
abbrev bW(E:Env)(fn:Func)(dep:Nat)(items:List Item)(l:List (Nat × AV))(H:ab)(Q:AV→ab→Prop):Prop:=OL E fn none dep items l H Q
def wO(s:dA):List Nat→List (Nat × AV)
 | []=>[]
 | t :: ts=>(t,s t) :: wO s ts
theorem Lw(s:dA)(l:List Nat):It s (wO s l)=s:=by
 induction l with
 | nil=>rfl
 | cons t l ih =>
  funext i
  show cond (Nat.beq i t) (s t) (It s (wO s l) i)=s i
  rw[ih]
  cases h:Nat.beq i t with
  | true=>rw[Nat.eq_of_beq_eq_true h];rfl
  | false=>rfl
def iS:Code→Option Nat
 | .region id _ _=>some id
 | .seq a b=>match iS a with
  | some i=>some i
  | none=>iS b
 | .cond _ a b=>match iS a with
  | some i=>some i
  | none=>iS b
 | .block _ c | .loop c | .scope c=>iS c
 | _=>none
def da(P:Program)(H:ab)(x:AV)(t:TypeId):fY :=
 match x,dR P t,aU P t with
 | .ptr r i j,some g,some n=>match H.get r with
  | some b=>cJ (eQ b.es i j n g)
  | none=>none
 | _,_,_=>none
def pack:List AV→AV
 | [] => .v (.tuple #[])
 | [x]=>x
 | xs => .tup xs
def zW(P:Program)(s:dA)(H:ab)(Q:AV→ab→Prop):List ResultVar→List AV→Prop
 | [],acc=>Q (pack acc.reverse) H
 | .tmp t :: rs,acc=>zW P s H Q rs (s t :: acc)
 | .cell a t :: rs,acc=>ak (da P H (s a) t) fun v=>zW P s H Q rs (v :: acc)
def mS(x y:AV):Bool:=match gj x,gj y with
 | some r,some r'=>decide (r≠r')
 | _,_=>true
def qL(H:ab)(x:AV):Bool:=match x with
 | .ptr r _ _=>(match H.get r with
  | some b => !b.arr
  | none=>false)
 | _=>true
def Yw(x:AV):Bool:=match x with
 | .cG .. => true
 | .v _=>true
 | _=>false
def K8(s:dA)(p:Tmp × Tmp):Bool:=mS (s p.1) (s p.2)
def Ap(s:dA)(H:ab)(o:Oper):Bool:=match o.op with
 | .store _ (.tmp t) _=>qL H (s t)
 | _=>true
def IS(E:Env)(s:dA)(o:Oper):Bool := !(E.iQ o&&uR o.op)||(match PV o.op with
 | some t=>Yw (s t)
 | none=>false)
def MA(E:Env)(l:List (Tmp × Tmp))(ops:Array Oper)(s:dA)(H:ab):Prop:=l.all (K8 s)=true∧ops.toList.all (Ap s H)=true∧ops.toList.all (IS E s)=true
def jS(l:List (AV × AV))(st bs:List AV)(H:ab):Prop:=(l.all fun p=>mS p.1 p.2)=true∧st.all (qL H)=true∧bs.all Yw=true
def OZ(assign body:Code):Nat:=match iS (.seq assign body) with
 | some i=>i+10000
 | none=>10000
structure Yz (o:Option (Nat × AV)) (K:AV→Prop) (m:Mk K:=()):Prop where
 h : ∃info,o=some (0,info)∧K info
def EB(P:Program)(fn:Func)(rd:Option Ref)(code:Nat)(s:dA)(H:ab)(Q:AV→ab→Prop):Prop:=match rd with
 | none=>cond (Nat.ble code 2) (zW P s H Q fn.results.toList []) False
 | some _=>Q (.v (.int .i64 code)) H
def wp(E:Env)(fn:Func)(rd:Option Ref)(dep:Nat)(live:Nat→Option (List Nat))(cut:Nat→Bool)(Q:AV→ab→Prop):Nat→List Item→dA→ab→Prop
 | 0,items,s,H=>Goes E fn rd dep items s H Q
 | n+1,items,s,H =>
  match items with
  | []=>EB E.P fn rd 0 s H Q
  | .beginRound :: k=>(match rd with
   | none=>False
   | some r=>Yz (sf H r) fun info=>wp E fn rd dep live cut Q n k s (H.put r (some (hZ 1 info))))
  | .code c :: k =>
   (match c with
   | .skip | .label _=>wp E fn rd dep live cut Q n k s H
   | .ret=>EB E.P fn rd 2 s H Q
   | .seq a b=>wp E fn rd dep live cut Q n (.code a :: .code b :: k) s H
   | .cond c a b=>br (cB s c) (wp E fn rd dep live cut Q n (.code a :: k) s H) (wp E fn rd dep live cut Q n (.code b :: k) s H)
   | .block id b=>wp E fn rd dep live cut Q n (.code b :: .inBlock id :: k) s H
   | .scope b=>wp E fn rd dep live cut Q n (.code b :: .inScope b :: k) s H
   | .loop b=>(match (iS b).bind live with
    | some l=>OL E fn rd dep (.inLoop b :: k) (wO s l) H Q
    | none=>Goes E fn rd dep (.inLoop b :: k) s H Q)
   | .exit id=>(match exitTo id k with
    | some k'=>wp E fn rd dep live cut Q n k' s H
    | none=>EB E.P fn rd (id+3) s H Q)
   | .rangeFunc g ps a b=>(match live (OZ a b) with
    | some l=>OL E fn rd dep (.code (.rangeFunc g ps a b) :: k) (wO s l) H Q
    | none=>Goes E fn rd dep (.code (.rangeFunc g ps a b) :: k) s H Q)
   | .region id ops draw=>(match cut id with
    | true=>(match live id with
     | some l=>OL E fn rd dep (.code (.region id ops draw) :: k) (wO s l) H Q
     | none=>False)
    | false=>wpOps E fn.ntmps dep draw ops ops.toList s H fun s H =>
     (match draw,nc E ops with
     | true,p :: ps=>MA E (p :: ps) ops s H∧wp E fn rd dep live cut Q n k s H
     | _,_=>wp E fn rd dep live cut Q n k s H))
   | _=>False)
  | .inLoop b :: k=>(match (iS b).bind live with
   | some l=>OL E fn rd dep (.inLoop b :: k) (wO s l) H Q
   | none=>Goes E fn rd dep (.inLoop b :: k) s H Q)
  | .inBlock _ :: k | .inScope _ :: k=>wp E fn rd dep live cut Q n k s H
  | _=>False
theorem oe{ops:Array Oper}{tm:List AV}{s:dA}(h:dQ tm s)(o:Oper):wanted ops tm o=(match D8 ops s o with
 | none=>some true
 | some (some (x,want))=>OP x want
 | some none=>some false):=by
 unfold wanted D8
 split
 ·rename_i hg;rw[hg]
 ·rename_i j want hg
  rw[hg]
  dsimp only
  split
  ·rename_i t ht
   rw[ht]
   dsimp only
   rw[h t]
   rfl
  ·rename_i ht
   rw[ht]
theorem qh{nt:Nat}{s:dA}{dst:Option Tmp}{v:AV}{K:dA→Prop}(h:B8 nt s dst v K) : ∃s',K s' ∧∀tm,dQ tm s →∃tm',cY nt tm dst v=some tm'∧dQ tm' s':=by
 unfold B8 at h
 cases dst with
 | none=>exact⟨s,h,fun tm ht=>⟨tm,rfl,ht⟩⟩
 | some d =>
  dsimp only at h
  cases hd:Nat.blt d nt with
  | false=>rw[hd]at h;exact h.elim
  | true =>
   rw[hd]at h
   refine⟨_,h,fun tm ht=>⟨_,?_,ht.set d v⟩⟩
   have hlt:d<nt:=Nat.le_of_ble_eq_true hd
   simp only[cY,if_pos hlt]
theorem Na{E:Env}{nt dep:Nat}{draw:Bool}{ops:Array Oper}{o:Oper}{s:dA}{H:ab}{K:dA→ab→Prop}(h:wpOp E nt dep draw ops o s H K) :
 ∃s' H',K s' H' ∧∀tm,dQ tm s →∃tm',dQ tm' s' ∧∃n,∀m,n≤m→evalOp E (db E (ck E m)) (ek E (ck E m) dep) nt dep draw ops o ⟨tm,H⟩=some ⟨tm',H'⟩:=by
 have run : ∀(v:AV)(H':ab)(s':dA),(∀tm,dQ tm s→wanted ops tm o=some true)→(∃n,∀m,n≤m →∀tm,dQ tm s→mo E (db E (ck E m)) (ek E (ck E m) dep) dep draw tm H o=some (v,H')) →
  (∀tm,dQ tm s →∃tm',cY nt tm o.dst v=some tm'∧dQ tm' s') →
  ∀tm,dQ tm s →∃tm',dQ tm' s' ∧∃n,∀m,n≤m→evalOp E (db E (ck E m)) (ek E (ck E m) dep) nt dep draw ops o ⟨tm,H⟩=some ⟨tm',H'⟩:=by
  intro v H' s' hw ⟨n,hn⟩ hp tm ht
  obtain⟨tm',h1,h2⟩:=hp tm ht
  refine⟨tm',h2,n,fun m hm=>?_⟩
  rw[Bi]
  dsimp only
  rw[hw tm ht,hn m hm tm ht]
  dsimp only
  rw[h1]
  rfl
 have skip : ∀(s':dA),(∀tm,dQ tm s→wanted ops tm o=some false)→(∀tm,dQ tm s →∃tm',cY nt tm o.dst AV.undef=some tm'∧dQ tm' s') →
  ∀tm,dQ tm s →∃tm',dQ tm' s' ∧∃n,∀m,n≤m→evalOp E (db E (ck E m)) (ek E (ck E m) dep) nt dep draw ops o ⟨tm,H⟩=some ⟨tm',H⟩:=by
  intro s' hw hp tm ht
  obtain⟨tm',h1,h2⟩:=hp tm ht
  refine⟨tm',h2,0,fun m _=>?_⟩
  rw[Bi]
  dsimp only
  rw[hw tm ht]
  dsimp only
  rw[h1]
  rfl
 unfold wpOp at h
 split at h
 ·rename_i q hq
  have evq : ∀v,q=some (v,[]) →∃n,∀m,n≤m →∀tm,dQ tm s→mo E (db E (ck E m)) (ek E (ck E m) dep) dep draw tm H o=some (v,H):=by
   intro v hv
   obtain⟨n,hn⟩:=CZ.1 q v hq hv
   exact⟨n,fun m hm tm ht=>N0 ht (hn m hm) rfl⟩
  split at h
  ·rename_i hg
   have hw : ∀tm,dQ tm s→wanted ops tm o=some true:=fun tm ht=>by rw[oe ht,hg]
   have fromQ : ∀v,q=some (v,[])→B8 nt s o.dst v (fun s=>K s H) →∃s' H',K s' H' ∧∀tm,dQ tm s →∃tm',dQ tm' s' ∧∃n,∀m,n≤m→evalOp E (db E (ck E m)) (ek E (ck E m) dep) nt dep draw ops o ⟨tm,H⟩=some ⟨tm',H'⟩:=by
    intro v hv hp
    obtain⟨s',hK,hp⟩:=qh hp
    exact⟨s',H,hK,run v H s' hw (evq v hv) hp⟩
   split at h
   ·rename_i x ho
    split at h
    ·rename_i v hv
     refine fromQ v ?_ h
     unfold ry at hq
     simp only[ho,Sum.inl.injEq,hv]at hq
     rw[←hq];rfl
    ·exact h.elim
   ·rename_i x ho
    split at h
    ·rename_i v hv
     refine fromQ v ?_ h
     unfold ry at hq
     simp only[ho,Sum.inl.injEq,hv]at hq
     rw[←hq];rfl
    ·exact h.elim
   ·obtain⟨v,hv,h⟩:=h.h
    exact fromQ v hv h
  ·rename_i x want hg
   replace h:=h.h
   unfold gd at h
   split at h
   ·rename_i hx
    obtain⟨v,hv,h⟩:=h.h
    obtain⟨s',hK,hp⟩:=qh h
    exact⟨s',H,hK,run v H s' (fun tm ht=>by rw[oe ht,hg];exact hx) (evq v hv) hp⟩
   ·rename_i hx
    obtain⟨s',hK,hp⟩:=qh h
    exact⟨s',H,hK,skip s' (fun tm ht=>by rw[oe ht,hg];exact hx) hp⟩
   ·exact h.elim
  ·rename_i hg
   obtain⟨s',hK,hp⟩:=qh h
   exact⟨s',H,hK,skip s' (fun tm ht=>by rw[oe ht,hg]) hp⟩
 ·rename_i w hw
  have evw : ∀v H',w=some (v,H') →∃n,∀m,n≤m →∀tm,dQ tm s→mo E (db E (ck E m)) (ek E (ck E m) dep) dep draw tm H o=some (v,H'):=by
   intro v H' hv
   obtain⟨n,hn⟩:=CZ.2 w v H' hw hv
   exact⟨n,fun m hm tm ht=>NZ ht (hn m hm) rfl⟩
  split at h
  ·rename_i hg
   obtain⟨v,H',hv,h⟩:=h.h
   obtain⟨s',hK,hp⟩:=qh h
   exact⟨s',H',hK,run v H' s' (fun tm ht=>by rw[oe ht,hg]) (evw v H' hv) hp⟩
  ·rename_i x want hg
   replace h:=h.h
   unfold gd at h
   split at h
   ·rename_i hx
    obtain⟨v,H',hv,h⟩:=h.h
    obtain⟨s',hK,hp⟩:=qh h
    exact⟨s',H',hK,run v H' s' (fun tm ht=>by rw[oe ht,hg];exact hx) (evw v H' hv) hp⟩
   ·rename_i hx
    obtain⟨s',hK,hp⟩:=qh h
    exact⟨s',H,hK,skip s' (fun tm ht=>by rw[oe ht,hg];exact hx) hp⟩
   ·exact h.elim
  ·rename_i hg
   obtain⟨s',hK,hp⟩:=qh h
   exact⟨s',H,hK,skip s' (fun tm ht=>by rw[oe ht,hg]) hp⟩
theorem EA{E:Env}{nt dep:Nat}{draw:Bool}{ops:Array Oper}{K:dA→ab→Prop} : ∀ {l:List Oper} {s:dA} {H:ab},wpOps E nt dep draw ops l s H K →
 ∃s' H',K s' H' ∧∀tm,dQ tm s →∃tm',dQ tm' s' ∧∃n,∀m,n≤m→kb E (db E (ck E m)) (ek E (ck E m) dep) nt dep draw ops l ⟨tm,H⟩=some ⟨tm',H'⟩:=by
 intro l
 induction l with
 | nil=>intro s H h;exact⟨s,H,h,fun tm ht=>⟨tm,ht,0,fun m _=>rfl⟩⟩
 | cons o l ih =>
  intro s H h
  obtain⟨s1,H1,h1,hn1⟩:=Na h
  obtain⟨s2,H2,h2,hn2⟩:=ih h1
  refine⟨s2,H2,h2,fun tm ht=>?_⟩
  obtain⟨tm1,t1,n1,e1⟩:=hn1 tm ht
  obtain⟨tm2,t2,n2,e2⟩:=hn2 tm1 t1
  exact⟨tm2,t2,max n1 n2,fun m hm=>by simp only[kb,e1 m (by omega),e2 m (by omega)]⟩
theorem Kq{P:Program}{fn:Func}{s:dA}{H:ab}{Q:AV→ab→Prop} : ∀ {rs:List ResultVar} {acc:List AV},zW P s H Q rs acc →
 ∃ys,Q (pack (acc.reverse++ys)) H ∧∀tm,dQ tm s→rs.mapM (hU P ⟨tm,H⟩)=some ys:=by
 intro rs
 induction rs with
 | nil=>intro acc h;exact⟨[],by simpa [zW] using h,fun tm _=>rfl⟩
 | cons r rs ih =>
  intro acc h
  cases r with
  | tmp t =>
   obtain⟨ys,h1,h2⟩:=ih h
   refine⟨s t :: ys,by simpa using h1,fun tm ht=>?_⟩
   simp only[List.mapM_cons,hU,h2 tm ht,ht t,Option.pure_def,Option.bind_eq_bind,Option.bind_some]
  | cell a t =>
   obtain⟨v,hv,h⟩:=h.h
   obtain⟨ys,h1,h2⟩:=ih h
   refine⟨v :: ys,by simpa using h1,fun tm ht=>?_⟩
   have hr:hU P ⟨tm,H⟩ (.cell a t)=some v:=by
    unfold da at hv
    simp only[hU,ht a]
    split at hv
    ·rename_i r i j g n h3 h4 h5
     rw[h3,h4,h5]
     dsimp only
     split at hv
     ·rename_i b hb
      rw[hb]
      dsimp only
      simp only[cJ,Option.map_eq_some_iff]at hv
      obtain⟨z,hz,e⟩:=hv
      cases e
      exact hz
     ·cases hv
    ·cases hv
   simp only[List.mapM_cons,hr,h2 tm ht,Option.pure_def,Option.bind_eq_bind,Option.bind_some]
theorem Ff{E:Env}{fn:Func}{s:dA}{H:ab}{Q:AV→ab→Prop}(h:zW E.P s H Q fn.results.toList []) : ∃y,Q y H ∧∀tm,dQ tm s→pw E.P fn ⟨tm,H⟩=some y:=by
 obtain⟨ys,h1,h2⟩:=Kq (fn:=fn) h
 refine⟨pack ys,by simpa using h1,fun tm ht=>?_⟩
 unfold pw
 rw[h2 tm ht]
 match ys with
 | []=>rfl
 | [x]=>rfl
 | x :: y :: zs=>rfl
theorem k6{E:Env}{fn:Func}{rd:Option Ref}{dep:Nat}{items items':List Item}{s:dA}{H:ab}{Q:AV→ab→Prop}
 (hs : ∀n tm,ck E (n+1) rd fn.ntmps dep items ⟨tm,H⟩=ck E n rd fn.ntmps dep items' ⟨tm,H⟩) (h:Goes E fn rd dep items' s H Q):Goes E fn rd dep items s H Q:=by
 intro tm ht
 obtain⟨y,H',hQ,n,hn⟩:=h tm ht
 refine⟨y,H',hQ,n+1,fun m hm=>?_⟩
 obtain⟨m,rfl⟩ : ∃m',m=m'+1:=⟨m - 1,by omega⟩
 rw[hs]
 exact hn m (by omega)
theorem J2{E:Env}{fn:Func}{rd:Option Ref}{dep:Nat}{b:Code}{k:List Item}{s:dA}{H:ab}{Q:AV→ab→Prop}(h:Goes E fn rd dep (.code b :: .inLoop b :: k) s H Q):Goes E fn rd dep (.inLoop b :: k) s H Q :=
 k6 (fun n tm=>by simp only[ck]) h
theorem Hy{E:Env}{fn:Func}{rd:Option Ref}{dep:Nat}{b:Code}{k:List Item}{s:dA}{H:ab}{Q:AV→ab→Prop}(h:Goes E fn rd dep (.inLoop b :: k) s H Q):Goes E fn rd dep (.code (.loop b) :: k) s H Q:=by
 intro tm ht
 obtain⟨y,H',hQ,n,hn⟩:=h tm ht
 refine⟨y,H',hQ,n+1,fun m hm=>?_⟩
 obtain⟨m,rfl⟩ : ∃m',m=m'+1:=⟨m - 1,by omega⟩
 have:=hn (m+1) (by omega)
 have e:ck E (m+1) rd fn.ntmps dep (.code (.loop b) :: k) ⟨tm,H⟩=ck E (m+1) rd fn.ntmps dep (.inLoop b :: k) ⟨tm,H⟩:=by simp only[ck]
 rw[e]
 exact this
theorem Db{E:Env}{fn:Func}{rd:Option Ref}{dep:Nat}{items:List Item}{s:dA}{l:List Nat}{H:ab}{Q:AV→ab→Prop}(h:OL E fn rd dep items (wO s l) H Q):Goes E fn rd dep items s H Q:=by
 have:=h.h s
 rwa [Lw]at this
theorem Bd{E:Env}{fn:Func}{rd:Option Ref}{dep code:Nat}{items:List Item}{s:dA}{H:ab}{Q:AV→ab→Prop}
 (hs : ∀n tm,rd.isSome=true∨code≤2→ck E (n+1) rd fn.ntmps dep items ⟨tm,H⟩=(match rd with | none=>some ⟨tm,H⟩ | some r=>qP (some r) ⟨tm,H⟩ code)) (h:EB E.P fn rd code s H Q):Goes E fn rd dep items s H Q:=by
 intro tm ht
 cases rd with
 | none =>
  unfold EB at h
  dsimp only at h
  cases hc:Nat.ble code 2 with
  | false=>rw[hc]at h;exact h.elim
  | true =>
   rw[hc]at h
   obtain⟨y,hQ,hr⟩:=Ff h
   refine⟨y,H,hQ,1,fun m hm=>?_⟩
   obtain⟨m,rfl⟩ : ∃m',m=m'+1:=⟨m - 1,by omega⟩
   exact⟨⟨tm,H⟩,hs m tm (.inr (Nat.le_of_ble_eq_true hc)),hr tm ht,rfl⟩
 | some r =>
  refine⟨.v (.int .i64 code),H,h,1,fun m hm=>?_⟩
  obtain⟨m,rfl⟩ : ∃m',m=m'+1:=⟨m - 1,by omega⟩
  exact⟨⟨tm,H⟩,code,hs m tm (.inl rfl),rfl,rfl⟩
theorem Ki{E:Env}{ops:Array Oper}{s:dA}{H:ab}{tm:List AV}(ht:dQ tm s)(h:MA E (nc E ops) ops s H):oa E ops ⟨tm,H⟩=true:=by
 unfold oa
 rw[Bool.or_eq_true,Bool.and_eq_true]
 refine .inr ⟨?_,?_⟩
 ·refine Eq.trans ?_ h.1
  congr 1
  funext p
  unfold y3 K8 mS
  rw[ht,ht]
  rfl
 ·rw[Bool.and_eq_true]
  refine⟨Eq.trans ?_ h.2.1,Eq.trans ?_ h.2.2⟩
  ·congr 1
   funext o
   unfold ri Ap
   generalize o.op=op
   cases op<;>try rfl
   rename_i t a x
   cases a<;>try rfl
   rename_i t'
   dsimp only
   rw[ht t']
   rfl
  ·congr 1
   funext o
   unfold BB IS
   congr 1
   cases PV o.op with
   | none=>rfl
   | some t =>
    dsimp only
    rw[ht t]
    rfl
theorem aY{E:Env}{fn:Func}{rd:Option Ref}{dep:Nat}{live:Nat→Option (List Nat)}{cut:Nat→Bool}{Q:AV→ab→Prop} : ∀ {n:Nat} {items:List Item} {s:dA} {H:ab},
 wp E fn rd dep live cut Q n items s H→Goes E fn rd dep items s H Q:=by
 intro n
 induction n with
 | zero=>intro items s H h;exact h
 | succ n ih =>
  intro items s H h
  have told : ∀ {k:List Item} {x:Option (List Nat)},(match x with | some l=>OL E fn rd dep k (wO s l) H Q | none=>Goes E fn rd dep k s H Q)→Goes E fn rd dep k s H Q:=by
   intro k x h
   cases x with
   | some l=>exact Db h
   | none=>exact h
  unfold wp at h
  split at h
  ·exact Bd (fun n tm _=>by cases rd<;>simp only[ck]) h
  ·rename_i k
   split at h
   ·exact h.elim
   ·rename_i r
    obtain⟨info,hl,h⟩:=h.h
    intro tm ht
    obtain⟨y,H',hQ,n,hn⟩:=ih h tm ht
    refine⟨y,H',hQ,n+1,fun m hm=>?_⟩
    obtain⟨m,rfl⟩ : ∃m',m=m'+1:=⟨m - 1,by omega⟩
    have:=hn m (by omega)
    have e:ck E (m+1) (some r) fn.ntmps dep (.beginRound :: k) ⟨tm,H⟩=ck E m (some r) fn.ntmps dep k ⟨tm,H.put r (some (hZ 1 info))⟩:=by simp only[ck,hl]
    rw[e]
    exact this
  ·rename_i c k
   split at h
   ·exact k6 (fun n tm=>by simp only[ck]) (ih h)
   ·exact k6 (fun n tm=>by simp only[ck]) (ih h)
   ·exact Bd (fun n tm _=>by cases rd<;>simp[ck,qP]) h
   ·exact k6 (fun n tm=>by simp only[ck]) (ih h)
   ·rename_i c a b
    replace h:=h.h
    unfold Yy at h
    split at h
    ·rename_i bb hb
     have hg:Goes E fn rd dep (.code (cond bb a b) :: k) s H Q:=by cases bb<;>exact ih h
     intro tm ht
     obtain⟨y,H',hQ,n,hn⟩:=hg tm ht
     refine⟨y,H',hQ,n+1,fun m hm=>?_⟩
     obtain⟨m,rfl⟩ : ∃m',m=m'+1:=⟨m - 1,by omega⟩
     have:=hn m (by omega)
     have e:ck E (m+1) rd fn.ntmps dep (.code (.cond c a b) :: k) ⟨tm,H⟩=ck E m rd fn.ntmps dep (.code (cond bb a b) :: k) ⟨tm,H⟩:=by
      simp only[ck,rE ht,hb]
      cases bb<;>rfl
     rw[e]
     exact this
    ·exact h.elim
   ·exact k6 (fun n tm=>by simp only[ck]) (ih h)
   ·exact k6 (fun n tm=>by simp only[ck]) (ih h)
   ·exact Hy (told h)
   ·rename_i id
    split at h
    ·rename_i k' hk
     exact k6 (fun n tm=>by simp only[ck,hk]) (ih h)
    ·rename_i hk
     exact Bd (fun n tm hc=>by
      simp only[ck,hk]
      cases rd with
      | none =>
       rcases hc with hc | hc
       ·cases hc
       ·omega
      | some r=>rfl) h
   ·exact told h
   ·rename_i id ops draw
    split at h
    ·split at h
     ·exact Db h
     ·exact h.elim
    ·obtain⟨s',H',h1,hn1⟩:=EA h
     have h2:Goes E fn rd dep k s' H' Q ∧∀tm,dQ tm s'→(draw && !oa E ops ⟨tm,H'⟩)=false:=by
      cases draw with
      | false=>exact⟨ih h1,fun _ _=>rfl⟩
      | true =>
       cases hp:nc E ops with
       | nil =>
        rw[hp]at h1
        refine⟨ih h1,fun tm ht=>?_⟩
        unfold oa
        rw[hp]
        rfl
       | cons p ps =>
        rw[hp]at h1
        exact⟨ih h1.2,fun tm ht=>by rw[Ki ht (by rw[hp];exact h1.1)];rfl⟩
     obtain⟨hg,hap⟩:=h2
     intro tm ht
     obtain⟨tm1,t1,n1,e1⟩:=hn1 tm ht
     obtain⟨y,H2,hQ,n2,hn2⟩:=hg tm1 t1
     refine⟨y,H2,hQ,max n1 n2+1,fun m hm=>?_⟩
     obtain⟨m,rfl⟩ : ∃m',m=m'+1:=⟨m - 1,by omega⟩
     have:=hn2 m (by omega)
     have e:ck E (m+1) rd fn.ntmps dep (.code (.region id ops draw) :: k) ⟨tm,H⟩=ck E m rd fn.ntmps dep k ⟨tm1,H'⟩:=by
      simp only[ck,e1 m (by omega),hap tm1 t1]
      simp
     rw[e]
     exact this
   ·exact h.elim
  ·exact told h
  ·exact k6 (fun n tm=>by simp only[ck]) (ih h)
  ·exact k6 (fun n tm=>by simp only[ck]) (ih h)
  ·exact h.elim
def qA:Nat→List AV→List (Nat × AV)
 | _,[]=>[]
 | i,x :: xs=>(i,x) :: qA (i+1) xs
theorem AM(args:List AV)(i:Nat):It (fun _=>AV.undef) (qA 0 args) i=cL args i:=by
 have : ∀(j:Nat)(l:List AV),It (fun _=>AV.undef) (qA j l) (j+i)=cL l i:=by
  induction i with
  | zero =>
   intro j l
   cases l with
   | nil=>rfl
   | cons x l =>
    show cond (Nat.beq (j+0) j) x _=x
    rw[show Nat.beq (j+0) j=true from by simp]
    rfl
  | succ i ih =>
   intro j l
   cases l with
   | nil=>rfl
   | cons x l =>
    show cond (Nat.beq (j+(i+1)) j) x (It (fun _=>AV.undef) (qA (j+1) l) (j+(i+1)))=cL l i
    have e:Nat.beq (j+(i+1)) j=false:=by
     cases h:Nat.beq (j+(i+1)) j with
     | false=>rfl
     | true=>have:=Nat.eq_of_beq_eq_true h;omega
    rw[e]
    show It _ _ _=_
    rw[←ih (j+1) l,show j+1+i=j+(i+1) by omega]
 simpa using this 0 args
def handed(E:Env)(f:FuncId)(x:AV)(H:ab)(y:AV):Prop :=
 if tI (E.mode f)=true then (aG H.get depth x).Nodup∧dD H.get depth x=some y else view H.get depth x=some y
theorem aJ{E:Env}{f:FuncId}{fn:Func}{c:Code}{args:List AV}{y:AV}(hsp:E.spec f args=none)(hal:E.allowed f=true)(hf:E.P.funcs[f]?=some fn)(hc:fn.body=some c)(hl:Nat.ble args.length fn.ntmps=true)
 (h:bW E fn 0 [.code c] (qA 0 args) [] fun x H=>handed E f x H y):bj E f args=some y:=by
 rw[uK]
 obtain⟨x,H,hQ,n,hn⟩:=h.h (fun _=>AV.undef) args fun i=>(AM args i).symm
 refine⟨n,fun m hm=>?_⟩
 obtain⟨st,h1,h2,h3⟩:=hn m hm
 subst h3
 unfold db
 rw[hsp]
 unfold pG
 simp only[hal,if_true,hf,hc,if_pos (Nat.le_of_ble_eq_true hl),h1,h2,Option.map_some]
 unfold handed at hQ
 split
 ·rename_i h1
  rw[if_pos h1]at hQ
  rw[if_pos hQ.1]
  exact hQ.2
 ·rename_i h1
  rw[if_neg h1]at hQ
  exact hQ
theorem lL{E:Env}{f:FuncId}{fn:Func}{c:Code}{dep:Nat}{args:List AV}{H:ab}{Q:AV→ab→Prop}(hm:E.mode f=2)(hal:E.allowed f=true)(hf:E.P.funcs[f]?=some fn)(hc:fn.body=some c)(hl:Nat.ble args.length fn.ntmps=true)
 (h:bW E fn (dep+1) [.code c] (qA 0 args) H Q) (hsp:E.thrSpec f args H=none:=by rfl) : ∃y H',bR E dep (.fn f) args H=some (y,H')∧Q y H':=by
 obtain⟨x,H1,hQ,n,hn⟩:=h.h (fun _=>AV.undef) args fun i=>(AM args i).symm
 refine⟨x,H1,qm.2 ⟨n,fun m hm'=>?_⟩,hQ⟩
 obtain⟨st,h1,h2,h3⟩:=hn m hm'
 unfold ek
 dsimp only
 rw[hsp]
 dsimp only
 rw[if_pos hm]
 unfold pG
 simp only[hal,if_true,hf,hc,if_pos (Nat.le_of_ble_eq_true hl),h1,h2,Option.map_some,h3]
theorem LR{E:Env}{fn:Func}{dep nt:Nat}{r:Ref}{f:FuncId}{ps:List Tmp}{assign body:Code}{tm:List AV}{args:List AV}{H:ab}{Q:AV→ab→Prop}
 (hl:sf H r=some (0,.lp f nt ps assign body tm)) (hn:fn.ntmps=nt) (hp:args.length=ps.length) (hps:ps.all (· < nt)=true) (ha:codeOk E.ok assign=true) (hb:codeOk E.ok body=true)
 (h:Goes E fn (some r) (dep+1) [.code assign,.beginRound,.code body] (cL (qM tm ps args)) H fun x H' =>∃code:Nat,x = .v (.int .i64 code) ∧∃info H2,sf H' r=some (1,info)∧H2=H'.put r (some (hZ code info)) ∧
  sf H2 r=some (code,info)∧(code=0→Q (.v (.bool true)) H2)∧(2≤code→Q (.v (.bool false)) H2)∧code≠1) :
 ∃y H',bR E dep (.yld r) args H=some (y,H')∧Q y H':=by
 obtain⟨x,H1,⟨code,rfl,info,H2,h1,rfl,h2,hq0,hq2,hne⟩,n,hn'⟩:=h (qM tm ps args) (fun i=>rfl)
 have key : ∀m,n≤m→uG E (ck E m) (dep+1) r args H=some (.v (.bool (code == 0)),H1.put r (some (hZ code info))):=by
  intro m hm
  obtain⟨st,k,e1,e2,e3⟩:=hn' m hm
  injection e2 with e2
  injection e2 with e2 e4
  have e4:code=k:=by exact_mod_cast e4
  subst e4
  subst hn
  unfold uG
  rw[hl]
  simp only
  rw[if_pos ⟨hp,hps,ha,hb⟩,e1]
  unfold qP
  simp only[e3,h1,h2]
  match code with
  | 0=>rfl
  | 1=>exact(hne rfl).elim
  | k+2=>rfl
 have U7 : ∀m,n≤m→ek E (ck E m) dep (.yld r) args H=some (.v (.bool (code == 0)),H1.put r (some (hZ code info))):=key
 refine⟨_,_,qm.2 ⟨n,U7⟩,?_⟩
 match code with
 | 0=>exact hq0 rfl
 | 1=>exact(hne rfl).elim
 | k+2=>exact hq2 (by omega)
theorem Hw{E:Env}{fn:Func}{dep:Nat}{g:Operand}{ps:Array Tmp}{assign body:Code}{k:List Item}{s:dA}{H:ab}{Q:AV→ab→Prop}{gi:FuncId}{first captured:List AV}
 (hg:cB s g=some (.fn (.func gi) first captured))
 (h : ∀tm,dQ tm s →∃v Hx st info,bR E dep (.fn gi) (first++[.yld ⟨dep,fn.ntmps,H.gen dep fn.ntmps,0⟩]++captured) ((⟨dep,fn.ntmps,H.gen dep fn.ntmps,0⟩,some (hZ 0 (.lp 0 fn.ntmps ps.toList assign body tm))) :: H)=some (v,Hx) ∧
  sf Hx ⟨dep,fn.ntmps,H.gen dep fn.ntmps,0⟩=some (st,info) ∧
  (
   (st=0∧Goes E fn none dep k s (Hx.put ⟨dep,fn.ntmps,H.gen dep fn.ntmps,0⟩ none) Q) ∨
   (st=2∧zW E.P s (Hx.put ⟨dep,fn.ntmps,H.gen dep fn.ntmps,0⟩ none) Q fn.results.toList []) ∨
   (∃id k',st=id+3∧exitTo id k=some k'∧Goes E fn none dep k' s (Hx.put ⟨dep,fn.ntmps,H.gen dep fn.ntmps,0⟩ none) Q))) :
 Goes E fn none dep (.code (.rangeFunc g ps assign body) :: k) s H Q:=by
 intro tm ht
 obtain⟨v,Hx,st,info,h1,h2,h3⟩:=h tm ht
 obtain⟨n1,hn1⟩:=qm.1 h1
 have hg':aX tm g=some (.fn (.func gi) first captured):=by rw[rE ht];exact hg
 rcases h3 with ⟨rfl,hk⟩ | ⟨rfl,hk⟩ | ⟨id,k',rfl,he,hk⟩
 ·obtain⟨y,H',hQ,n2,hn2⟩:=hk tm ht
  refine⟨y,H',hQ,max n1 n2+1,fun m hm=>?_⟩
  obtain⟨m,rfl⟩ : ∃m',m=m'+1:=⟨m - 1,by omega⟩
  have e:ck E (m+1) none fn.ntmps dep (.code (.rangeFunc g ps assign body) :: k) ⟨tm,H⟩=ck E m none fn.ntmps dep k ⟨tm,Hx.put ⟨dep,fn.ntmps,H.gen dep fn.ntmps,0⟩ none⟩:=by
   simp only[ck,hg',hn1 m (by omega),h2]
  rw[e]
  exact hn2 m (by omega)
 ·obtain⟨y,hQ,hr⟩:=Ff hk
  refine⟨y,_,hQ,n1+1,fun m hm=>?_⟩
  obtain⟨m,rfl⟩ : ∃m',m=m'+1:=⟨m - 1,by omega⟩
  have e:ck E (m+1) none fn.ntmps dep (.code (.rangeFunc g ps assign body) :: k) ⟨tm,H⟩=some ⟨tm,Hx.put ⟨dep,fn.ntmps,H.gen dep fn.ntmps,0⟩ none⟩:=by
   simp only[ck,hg',hn1 m (by omega),h2]
  rw[e]
  exact⟨_,rfl,hr tm ht,rfl⟩
 ·obtain⟨y,H',hQ,n2,hn2⟩:=hk tm ht
  refine⟨y,H',hQ,max n1 n2+1,fun m hm=>?_⟩
  obtain⟨m,rfl⟩ : ∃m',m=m'+1:=⟨m - 1,by omega⟩
  have e:ck E (m+1) none fn.ntmps dep (.code (.rangeFunc g ps assign body) :: k) ⟨tm,H⟩=ck E m none fn.ntmps dep k' ⟨tm,Hx.put ⟨dep,fn.ntmps,H.gen dep fn.ntmps,0⟩ none⟩:=by
   simp only[ck,hg',hn1 m (by omega),h2,he]
  rw[e]
  exact hn2 m (by omega)
def cg(r:Nat):Nat→List Item→Option (List Item)
 | 0,_=>none
 | n+1,items =>
  match items with
  | .code c :: k=>(match c with
   | .seq a b=>cg r n (.code a :: .code b :: k)
   | .cond _ a b=>(match cg r n (.code a :: k) with
    | some l=>some l
    | none=>cg r n (.code b :: k))
   | .block id b=>cg r n (.code b :: .inBlock id :: k)
   | .scope b=>cg r n (.code b :: .inScope b :: k)
   | .loop b=>(match iS b with
    | some i=>cond (Nat.beq i r) (some (.inLoop b :: k)) (cg r n (.code b :: .inLoop b :: k))
    | none=>none)
   | .exit id=>(match exitTo id k with
    | some k'=>cg r n k'
    | none=>none)
   | .skip | .label _ | .region _ _ _=>cg r n k
   | _=>none)
  | .inBlock _ :: k | .inScope _ :: k=>cg r n k
  | _=>none
def m3(r:Nat):Nat→List Item→Option (List Item)
 | 0,_=>none
 | n+1,items =>
  match items with
  | .code c :: k=>(match c with
   | .seq a b=>m3 r n (.code a :: .code b :: k)
   | .cond _ a b=>(match m3 r n (.code a :: k) with
    | some l=>some l
    | none=>m3 r n (.code b :: k))
   | .block id b=>m3 r n (.code b :: .inBlock id :: k)
   | .scope b=>m3 r n (.code b :: .inScope b :: k)
   | .loop b=>m3 r n (.code b :: .inLoop b :: k)
   | .exit id=>(match exitTo id k with
    | some k'=>m3 r n k'
    | none=>none)
   | .region i ops draw=>cond (Nat.beq i r) (some items) (m3 r n k)
   | .skip | .label _=>m3 r n k
   | _=>none)
  | .inBlock _ :: k | .inScope _ :: k=>m3 r n k
  | _=>none
def jn(r:Nat):Nat→List Item→Option (List Item)
 | 0,_=>none
 | n+1,items =>
  match items with
  | .code c :: k=>(match c with
   | .seq a b=>jn r n (.code a :: .code b :: k)
   | .cond _ a b=>(match jn r n (.code a :: k) with
    | some l=>some l
    | none=>jn r n (.code b :: k))
   | .block id b=>jn r n (.code b :: .inBlock id :: k)
   | .scope b=>jn r n (.code b :: .inScope b :: k)
   | .loop b=>jn r n (.code b :: .inLoop b :: k)
   | .exit id=>(match exitTo id k with
    | some k'=>jn r n k'
    | none=>none)
   | .rangeFunc _ _ a b=>cond (Nat.beq (OZ a b) r) (some items) (jn r n k)
   | .skip | .label _ | .region _ _ _=>jn r n k
   | _=>none)
  | .inBlock _ :: k | .inScope _ :: k=>jn r n k
  | _=>none
def YX:List Item→Code
 | .code (.rangeFunc _ _ a _) :: _=>a
 | _ => .skip
def YW:List Item→Code
 | .code (.rangeFunc _ _ _ b) :: _=>b
 | _ => .skip
def YV:List Item→List Item
 | _ :: k=>k
 | []=>[]
def Mr:List Item→List Item
 | .inLoop b :: k => .code b :: .inLoop b :: k
 | l=>l
theorem dG{E:Env}{fn:Func}{rd:Option Ref}{dep:Nat}{items:List Item}{l:List (Nat × AV)}{H:ab}{Q:AV→ab→Prop}(h : ∀g,Goes E fn rd dep (Mr items) (It g l) H Q):OL E fn rd dep items l H Q:=by
 refine⟨fun g=>?_⟩
 have:=h g
 unfold Mr at this
 split at this
 ·exact J2 this
 ·exact this
def oi(x:AV):Option (Option Int):=match intOf x with
 | some n=>some (some n)
 | none=>none
end Go.Ab
namespace Go.Ab
def MF(pc pc':FuncId→List AV→Option AV):Prop :=∀f xs y,pc f xs=some y→pc' f xs=some y
def OK(tc tc':q6→List AV→ab→dq):Prop :=∀f xs H y,tc f xs H=some y→tc' f xs H=some y
theorem G9{E:Env}{pc pc':FuncId→List AV→Option AV}(hp:MF pc pc'){g:cV}{r:Ref}{f:Option AV}{args:List AV}{z:AV × List bJ}(h:gR E pc g r f args=some z):gR E pc' g r f args=some z:=by
 unfold gR at h ⊢
 split at h
 ·split at h
  ·cases h
  ·rename_i hm
   rw[if_neg hm]
   split at h
   ·rename_i xs hx
    split at h
    ·rename_i y hy
     rw[hp _ _ _ hy]
     exact h
    ·cases h
   ·cases h
 ·cases h
theorem Lh{E:Env}{pc pc':FuncId→List AV→Option AV}{tc tc':q6→List AV→ab→dq}(hp:MF pc pc')(ht:OK tc tc'){H:ab}{r:Ref}{f:Option AV}{args:List AV} :
 (gR E pc H.get r f args=none →∀z,jU E pc tc H r f args=some z→jU E pc' tc' H r f args=some z∧gR E pc' H.get r f args=none):=by
 intro h0 z h
 unfold gR at h0 ⊢
 unfold jU at h ⊢
 split at h
 ·rename_i fi first captured
  dsimp only at h0 ⊢
  split at h
  ·rename_i hm
   rw[if_pos hm,if_pos hm]
   exact⟨ht _ _ _ _ h,rfl⟩
  ·rename_i hm
   rw[if_neg hm]at h0
   rw[if_neg hm,if_neg hm]
   split at h
   ·rename_i xs hx
    try rw[hx]at h0
    dsimp only at h0 ⊢
    simp only[Option.map_eq_some_iff]at h
    obtain⟨y,hy,h⟩:=h
    rw[hy]at h0
    rw[hp _ _ _ hy]
    exact⟨by rw[Option.map_some,h],h0⟩
   ·cases h
 ·exact⟨ht _ _ _ _ h,rfl⟩
 ·cases h
theorem HC{E:Env}{pc pc':FuncId→List AV→Option AV}{tc tc':q6→List AV→ab→dq}(hp:MF pc pc')(ht:OK tc tc'){dep:Nat}{draw:Bool}{tm:List AV}{H:ab}{o:Oper}{z:AV × ab}
 (h:mo E pc tc dep draw tm H o=some z):mo E pc' tc' dep draw tm H o=some z:=by
 by_cases hc : ∃c f args,o.op = .call c∧c.args.toList.mapM (aX tm)=some args∧c.callee = .value f
 ·obtain⟨c,f,args,ho,ha,hf⟩:=hc
  unfold mo ct evalW at h ⊢
  simp only[ho,ha,hf]at h ⊢
  cases hov:y5 E.oX draw f with
  | some t =>
   rw[hov]at h
   dsimp only at h ⊢
   cases hO:Fj E.P H.get t args with
   | some p=>rw[hO]at h;exact h
   | none =>
    rw[hO]at h
    dsimp only at h ⊢
    split at h
    ·cases h
    ·rename_i hd
     rw[if_neg hd]
     have hfd : ∃g,f = .func g:=by unfold y5 at hov;split at hov<;>simp_all
     obtain⟨g,rfl⟩:=hfd
     simp only[aX,jU]at h ⊢
     by_cases hm:E.mode g=2
     ·rw[if_pos hm]at h ⊢
      cases hw:tc (.fn g) ([]++args++[]) H with
      | none=>rw[hw]at h;unfold mh at h;split at h<;>(try split at h)<;>simp_all
      | some z'=>rw[hw]at h;rw[ht _ _ _ _ hw];exact h
     ·rw[if_neg hm]at h ⊢
      cases hx:([]++args++[]:List AV).mapM (view H.get depth) with
      | none=>rw[hx]at h;exact h
      | some xs =>
       rw[hx]at h
       dsimp only at h ⊢
       cases hy:pc g xs with
       | none=>rw[hy]at h;unfold mh at h;split at h<;>(try split at h)<;>simp_all
       | some y=>rw[hy]at h;rw[hp _ _ _ hy];exact h
  | none =>
  rw[hov]at h
  dsimp only at h ⊢
  cases hq:gR E pc H.get ⟨dep,o.dst.getD 0,H.gen dep (o.dst.getD 0),0⟩ (aX tm f) args with
  | some p =>
   rw[hq]at h
   rw[G9 hp hq]
   exact h
  | none =>
   rw[hq]at h
   simp only[Option.map_none]at h
   split at h
   ·cases h
   ·rename_i hd
    cases hw:jU E pc tc H ⟨dep,o.dst.getD 0,H.gen dep (o.dst.getD 0),0⟩ (aX tm f) args with
    | none =>
     rw[hw]at h
     unfold mh at h
     split at h
     ·rename_i e;cases e
     ·cases h
    | some z' =>
     obtain⟨h1,h2⟩:=Lh hp ht hq _ hw
     rw[h2,h1]
     rw[hw]at h
     simp only[Option.map_none,if_neg hd]
     exact h
 ·have:mo E pc tc dep draw tm H o=mo E pc' tc' dep draw tm H o:=by
   have hq:ct E pc draw H.get tm ⟨dep,o.dst.getD 0,H.gen dep (o.dst.getD 0),0⟩ o=ct E pc' draw H.get tm ⟨dep,o.dst.getD 0,H.gen dep (o.dst.getD 0),0⟩ o:=by
    cases ho:o.op<;>simp only[ct,ho]
    case makeMap a b=>cases b<;>rfl
    rename_i c
    cases ha:c.args.toList.mapM (aX tm) with
    | none=>rfl
    | some args =>
     cases hf:c.callee with
     | value f=>exact(hc ⟨c,f,args,ho,ha,hf⟩).elim
     | invoke _ _=>rfl
     | builtin b=>rfl
   have hw:evalW E pc tc H tm ⟨dep,o.dst.getD 0,H.gen dep (o.dst.getD 0),0⟩ o=evalW E pc' tc' H tm ⟨dep,o.dst.getD 0,H.gen dep (o.dst.getD 0),0⟩ o:=by
    cases ho:o.op<;>simp only[evalW,ho]
    rename_i c
    cases ha:c.args.toList.mapM (aX tm) with
    | none=>rfl
    | some args =>
     cases hf:c.callee with
     | value f=>exact(hc ⟨c,f,args,ho,ha,hf⟩).elim
     | invoke _ _=>rfl
     | builtin b=>rfl
   unfold mo
   rw[hq,hw]
  rw[←this]
  exact h
theorem Fb{E:Env}{pc pc':FuncId→List AV→Option AV}{tc tc':q6→List AV→ab→dq}(hp:MF pc pc')(ht:OK tc tc'){nt dep:Nat}{draw:Bool}{ops:Array Oper} : ∀ {l:List Oper} {st st':St},
 kb E pc tc nt dep draw ops l st=some st'→kb E pc' tc' nt dep draw ops l st=some st':=by
 intro l
 induction l with
 | nil=>intro st st' h;exact h
 | cons o l ih =>
  intro st st' h
  unfold kb at h ⊢
  cases ho:evalOp E pc tc nt dep draw ops o st with
  | none=>rw[ho]at h;cases h
  | some st1 =>
   rw[ho]at h
   have:evalOp E pc' tc' nt dep draw ops o st=some st1:=by
    rw[Bi]at ho ⊢
    cases hw:wanted ops st.tm o with
    | none=>rw[hw]at ho;cases ho
    | some b =>
     rw[hw]at ho
     cases b with
     | false=>exact ho
     | true =>
      dsimp only at ho ⊢
      cases hc:mo E pc tc dep draw st.tm st.hp o with
      | none=>rw[hc]at ho;cases ho
      | some z=>rw[hc]at ho;rw[HC hp ht hc];exact ho
   rw[this]
   exact ih h
theorem ze{E:Env}{run run':Option Ref→Nat→Nat→List Item→St→Option St}(hr : ∀rd nt dep items st st',run rd nt dep items st=some st'→run' rd nt dep items st=some st'){dep:Nat}{f:FuncId}{args:List AV}{H:ab}{z:AV × ab}
 (h:pG E run dep f args H=some z):pG E run' dep f args H=some z:=by
 unfold pG at h ⊢
 split at h
 ·rename_i ha
  rw[if_pos ha]
  cases hf:E.P.funcs[f]? with
  | none=>rw[hf]at h;cases h
  | some fn =>
   rw[hf]at h
   dsimp only at h ⊢
   cases hb:fn.body with
   | none=>rw[hb]at h;cases h
   | some c =>
    rw[hb]at h
    dsimp only at h ⊢
    split at h
    ·rename_i hl
     rw[if_pos hl]
     cases hx:run none fn.ntmps dep [.code c] ⟨args,H⟩ with
     | none=>rw[hx]at h;cases h
     | some st=>rw[hx]at h;rw[hr _ _ _ _ _ _ hx];exact h
    ·cases h
 ·cases h
theorem u6{E:Env}{run run':Option Ref→Nat→Nat→List Item→St→Option St}(hr : ∀rd nt dep items st st',run rd nt dep items st=some st'→run' rd nt dep items st=some st'):MF (db E run) (db E run'):=by
 intro f xs y h
 unfold db at h ⊢
 cases hs:E.spec f xs with
 | some s=>rw[hs]at h;exact h
 | none =>
  rw[hs]at h
  dsimp only at h ⊢
  cases hc:pG E run 0 f xs [] with
  | none=>rw[hc]at h;cases h
  | some z=>rw[hc]at h;rw[ze hr hc];exact h
theorem wC{E:Env}{run run':Option Ref→Nat→Nat→List Item→St→Option St}(hr : ∀rd nt dep items st st',run rd nt dep items st=some st'→run' rd nt dep items st=some st')(dep:Nat):OK (ek E run dep) (ek E run' dep):=by
 intro f xs H y h
 unfold ek at h ⊢
 cases f with
 | fn f =>
  dsimp only at h ⊢
  cases hs:E.thrSpec f xs H with
  | some s=>rw[hs]at h;exact h
  | none =>
  rw[hs]at h
  dsimp only at h ⊢
  split at h
  ·rename_i hm;rw[if_pos hm];exact ze hr h
  ·cases h
 | yld r =>
  dsimp only at h ⊢
  unfold uG at h ⊢
  split at h
  ·rename_i f nt ps assign body tm hl
   split at h
   ·rename_i hc
    rw[if_pos hc]
    cases hx:run (some r) nt (dep+1) [.code assign,.beginRound,.code body] ⟨qM tm ps xs,H⟩ with
    | none=>rw[hx]at h;cases h
    | some st=>rw[hx]at h;rw[hr _ _ _ _ _ _ hx];exact h
   ·cases h
  ·cases h
theorem Jm{E:Env} : ∀(n:Nat)(rd:Option Ref)(nt dep:Nat)(items:List Item)(st st':St),ck E n rd nt dep items st=some st'→ck E (n+1) rd nt dep items st=some st':=by
 intro n
 induction n with
 | zero=>intro rd nt dep items st st' h;simp[ck]at h
 | succ n ih =>
  intro rd nt dep items st st' h
  unfold ck at h ⊢
  split at h
  ·exact h
  ·split at h
   ·exact h
   ·rename_i r
    split at h
    ·exact ih _ _ _ _ _ _ h
    ·cases h
  ·split at h
   all_goals try exact h
   all_goals try exact ih _ _ _ _ _ _ h
   ·rename_i c a b
    split at h
    ·exact ih _ _ _ _ _ _ h
    ·exact ih _ _ _ _ _ _ h
    ·cases h
   ·split at h
    ·exact ih _ _ _ _ _ _ h
    ·exact h
   ·rename_i ops draw
    cases hx:kb E (db E (ck E n)) (ek E (ck E n) dep) nt dep draw ops ops.toList st with
    | none=>rw[hx]at h;cases h
    | some st1 =>
     rw[hx]at h
     rw[Fb (u6 ih) (wC ih dep) hx]
     dsimp only at h ⊢
     split at h
     ·cases h
     ·rename_i hd
      rw[if_neg hd]
      exact ih _ _ _ _ _ _ h
   ·split at h
    ·split at h
     ·rename_i x H' hx
      rw[wC ih dep _ _ _ _ hx]
      dsimp only
      split at h
      ·exact ih _ _ _ _ _ _ h
      ·exact h
      ·split at h
       ·exact ih _ _ _ _ _ _ h
       ·cases h
      ·cases h
     ·cases h
    ·cases h
  all_goals try exact ih _ _ _ _ _ _ h
  all_goals cases h
theorem NI{E:Env}{n m:Nat}(hm:n≤m){rd:Option Ref}{nt dep:Nat}{items:List Item}{st st':St}(h:ck E n rd nt dep items st=some st'):ck E m rd nt dep items st=some st':=by
 induction hm with
 | refl=>exact h
 | step _ ih=>exact Jm _ _ _ _ _ _ _ ih
theorem y7{E:Env}{n:Nat}{f:FuncId}{args:List AV}{y:AV}(h:db E (ck E n) f args=some y):bj E f args=some y :=
 uK.2 ⟨n,fun _ hm=>u6 (fun _ _ _ _ _ _ h=>NI hm h) _ _ _ h⟩
end Go.Ab
namespace Go.Ab
abbrev aI(n:Int):AV := .v (.int .i64 n)
abbrev aB(b:Bool):AV := .v (.bool b)
def a8(n:UInt8):AV := .v (.int .u8 (n.toNat:Int))
def aF(n:UInt32):AV := .v (.int .u32 (n.toNat:Int))
abbrev aS(s:ByteArray):AV := .v (.string s)
abbrev dg:AV := .v (.slice none 0 0)
theorem Rp{q:fY}{K:AV→Prop}{m:Mk K}{v:AV}(hq:q=some (v,[]))(h:K v):ak q K m:=⟨v,hq,h⟩
theorem pE{w:dq}{K:AV→ab→Prop}{m:Mk K}{v:AV}{H:ab}(hw:w=some (v,H))(h:K v H):aN w K m:=⟨v,H,hw,h⟩
@[simp] theorem VM(v:AV)(K:AV→Prop)(m:Mk K):ak (some (v,[])) K m↔K v :=
 ⟨fun⟨⟨w,hw,h⟩⟩=>by cases hw;exact h,fun h=>⟨v,rfl,h⟩⟩
@[simp] theorem Yt(c:Prop)[Decidable c](q:fY)(K:AV→Prop)(m:Mk K):ak (if c then q else none) K m↔c∧ak q K m:=by
 by_cases hc:c
 ·simp[hc]
 ·simp only[if_neg hc,hc,false_and,iff_false]
  rintro⟨v,hv,_⟩;cases hv
@[simp] theorem VL(v:AV)(H:ab)(K:AV→ab→Prop)(m:Mk K):aN (some (v,H)) K m↔K v H :=
 ⟨fun⟨⟨w,_,hw,h⟩⟩=>by cases hw;exact h,fun h=>⟨v,H,rfl,h⟩⟩
theorem IT{x:Option AV}{A B:Prop}{m:Mk (A,B)}:br x A B m↔Yy x A B:=⟨fun h=>h.h,fun h=>⟨h⟩⟩
@[simp] theorem XN(A B:Prop)(m:Mk (A,B)):br (some (aB true)) A B m↔A:=IT
@[simp] theorem VS(A B:Prop)(m:Mk (A,B)):br (some (aB false)) A B m↔B:=IT
theorem kP{b:Bool}{A B:Prop}{m:Mk (A,B)}(h1:b=true→A)(h2:b=false→B):br (some (aB b)) A B m:=by
 cases b
 ·exact⟨h2 rfl⟩
 ·exact⟨h1 rfl⟩
theorem Rw{p:Prop}[Decidable p]{A B:Prop}{m:Mk (A,B)}(h1:p→A)(h2 : ¬p→B):br (some (aB (decide p))) A B m :=
 kP (fun h=>h1 (of_decide_eq_true h)) (fun h=>h2 (of_decide_eq_false h))
@[simp] theorem Vo(q:fY)(K:AV→Prop)(m:Mk (q,K)):gQ (aB true) true q K m↔ak q K:=⟨fun h=>h.h,fun h=>⟨h⟩⟩
@[simp] theorem Vr(q:fY)(K:AV→Prop)(m:Mk (q,K)):gQ (aB false) false q K m↔ak q K:=⟨fun h=>h.h,fun h=>⟨h⟩⟩
@[simp] theorem Vp(q:fY)(K:AV→Prop)(m:Mk (q,K)):gQ (aB true) false q K m↔K AV.undef:=⟨fun h=>h.h,fun h=>⟨h⟩⟩
@[simp] theorem Vq(q:fY)(K:AV→Prop)(m:Mk (q,K)):gQ (aB false) true q K m↔K AV.undef:=⟨fun h=>h.h,fun h=>⟨h⟩⟩
@[simp] theorem Y1(w:Bool)(q:fY)(K:AV→Prop)(m:Mk (q,K)):gQ AV.undef w q K m↔K AV.undef:=⟨fun h=>h.h,fun h=>⟨h⟩⟩
@[simp] theorem Vk(H:ab)(q:dq)(K:AV→ab→Prop)(m:Mk (q,K)):gW (aB true) true H q K m↔aN q K:=⟨fun h=>h.h,fun h=>⟨h⟩⟩
@[simp] theorem Vn(H:ab)(q:dq)(K:AV→ab→Prop)(m:Mk (q,K)):gW (aB false) false H q K m↔aN q K:=⟨fun h=>h.h,fun h=>⟨h⟩⟩
@[simp] theorem Vl(H:ab)(q:dq)(K:AV→ab→Prop)(m:Mk (q,K)):gW (aB true) false H q K m↔K AV.undef H:=⟨fun h=>h.h,fun h=>⟨h⟩⟩
@[simp] theorem Vm(H:ab)(q:dq)(K:AV→ab→Prop)(m:Mk (q,K)):gW (aB false) true H q K m↔K AV.undef H:=⟨fun h=>h.h,fun h=>⟨h⟩⟩
@[simp] theorem Y0(w:Bool)(H:ab)(q:dq)(K:AV→ab→Prop)(m:Mk (q,K)):gW AV.undef w H q K m↔K AV.undef H:=⟨fun h=>h.h,fun h=>⟨h⟩⟩
@[simp] theorem Sd(v:AV):cJ (some v)=some (v,[]):=id rfl
@[simp] theorem SC(H:ab)(r:Ref)(v:AV)(bs:List bJ):bn H r (some (v,bs))=some (v,keyed r 0 bs H):=id rfl
@[simp] theorem C2(H:ab)(r:Ref):bn H r none=none:=id rfl
@[simp] theorem QQ(r:Ref)(k:Nat)(H:ab):keyed r k [] H=H:=id rfl
@[simp] theorem QR(r:Ref)(k:Nat)(b:bJ)(bs:List bJ)(H:ab):keyed r k (b :: bs) H=keyed r (k+1) bs (({ r with k:=k},some b) :: H):=id rfl
@[simp] theorem UJ(wk:Bool)(x:AV × ab)(b:dq):zw wk (some x) b=some x:=id rfl
@[simp] theorem Fv(b:dq):zw true none b=b:=id rfl
@[simp] theorem Qz(a b:Option AV):bp (some (aB true)) a b=cJ a:=id rfl
@[simp] theorem O1(a b:Option AV):bp (some (aB false)) a b=cJ b:=id rfl
@[simp] theorem Yc(k:IntKind)(n:Int):oi (.v (.int k n))=some (some n):=id rfl
@[simp] theorem Ta(cs:List AV):(AV.agg cs).cells=cs:=id rfl
@[simp] theorem XH(x:Value):(AV.v x).cells=[.v x]:=id rfl
@[simp] theorem XI(x:UInt8):(a8 x).cells=[a8 x]:=id rfl
@[simp] theorem VP(x:UInt32):(aF x).cells=[aF x]:=id rfl
@[simp] theorem S9(z:Nat)(es:List AV)(c:Option Nat):(AV.cm z es c).cells=[.cm z es c]:=id rfl
@[simp] theorem S8(r:Ref)(o n:Nat)(c:Option Nat):(AV.cG r o n c).cells=[.cG r o n c]:=id rfl
@[simp] theorem S7(r:Ref)(i j:Nat):(AV.ptr r i j).cells=[.ptr r i j]:=id rfl
@[simp] theorem VO(f:Fn)(a b:List AV):(AV.fn f a b).cells=[.fn f a b]:=id rfl
@[simp] theorem Xa(k:IntKind)(n:Int):(AV.v (.int k n)).one=true:=id rfl
@[simp] theorem UM(b:Bool):(AV.v (.bool b)).one=true:=id rfl
@[simp] theorem W8:dg.one=true:=id rfl
@[simp] theorem YR(x:UInt8):(a8 x).one=true:=id rfl
@[simp] theorem Yb(x:UInt32):(aF x).one=true:=id rfl
@[simp] theorem W9(z:Nat)(es:List AV)(c:Option Nat):(AV.cm z es c).one=true:=id rfl
@[simp] theorem W7(r:Ref)(o n:Nat)(c:Option Nat):(AV.cG r o n c).one=true:=id rfl
@[simp] theorem W6(r:Ref)(i j:Nat):(AV.ptr r i j).one=true:=id rfl
@[simp] theorem Ya(f:Fn)(a b:List AV):(AV.fn f a b).one=true:=id rfl
section
variable(P:Program)(t:TypeId)(xo yo:Operand)(k:IntKind)(a b:Int)
@[simp] theorem Fp:aE P .lss t xo yo (some (.v (.int k a))) (some (.v (.int k b)))=some (aB (decide (a<b)),[]):=by cases k<;>rfl
@[simp] theorem Lk:aE P .leq t xo yo (some (.v (.int k a))) (some (.v (.int k b)))=some (aB (decide (a≤b)),[]):=by cases k<;>rfl
@[simp] theorem Ll:aE P .gtr t xo yo (some (.v (.int k a))) (some (.v (.int k b)))=some (aB (decide (b<a)),[]):=by cases k<;>rfl
@[simp] theorem Lm:aE P .geq t xo yo (some (.v (.int k a))) (some (.v (.int k b)))=some (aB (decide (b≤a)),[]):=by cases k<;>rfl
@[simp] theorem Fq:aE P .eql t xo yo (some (.v (.int k a))) (some (.v (.int k b)))=some (aB (decide (a=b)),[]):=by
 have:(a == b)=decide (a=b):=by by_cases h:a=b<;>simp[h]
 rw[←this];cases k<;>rfl
@[simp] theorem Lj:aE P .neq t xo yo (some (.v (.int k a))) (some (.v (.int k b)))=some (aB (!decide (a=b)),[]):=by
 have:(a != b) = !decide (a=b):=by by_cases h:a=b<;>simp[h]
 rw[←this];cases k<;>rfl
@[simp] theorem UG:aE P .add t xo yo (some (.v (.int k a))) (some (.v (.int k b)))=some (.v (.int k (k.wrap (a+b))),[]):=by cases k<;>rfl
@[simp] theorem UE:aE P .sub t xo yo (some (.v (.int k a))) (some (.v (.int k b)))=some (.v (.int k (k.wrap (a - b))),[]):=by cases k<;>rfl
@[simp] theorem UF:aE P .mul t xo yo (some (.v (.int k a))) (some (.v (.int k b)))=some (.v (.int k (k.wrap (a * b))),[]):=by cases k<;>rfl
theorem eZ{yk:IntKind}(hb:0≤b):aE P .shr t xo yo (some (.v (.int k a))) (some (.v (.int yk b)))=some (.v (.int k (a.fdiv (2 ^ min b.toNat k.bits))),[]):=by
 have h:Op.shift .shr k a yk b=pure (.int k (a.fdiv (2 ^ min b.toNat k.bits))):=by unfold Op.shift;rw[if_neg (by omega)]
 have h2:AH P .shr t xo yo (.int k a) (.int yk b)=some (.int k (a.fdiv (2 ^ min b.toNat k.bits))):=by
  have:AH P .shr t xo yo (.int k a) (.int yk b)=bu P (Op.shift .shr k a yk b):=rfl
  rw[this,h];rfl
 simp only[aE,FT,lG,fw,h2,Bool.false_and,Bool.or_self,Bool.false_eq_true,if_false,Option.bind_some,hX,scalar,if_true,cJ,Option.map_some]
@[simp] theorem W1(b:Bool):wP P .not (some (aB b))=some (aB (!b),[]):=id rfl
def u8(n:Int):UInt8:=UInt8.ofBitVec (BitVec.ofInt 8 n)
def u32(n:Int):UInt32:=UInt32.ofBitVec (BitVec.ofInt 32 n)
@[simp] theorem Tf(n:Int):IntKind.u8.wrap n=((u8 n).toNat:Int):=by
 unfold u8;rw[IntKind.wrap_u8,UInt8.toNat_ofBitVec,BitVec.toNat_ofInt];omega
@[simp] theorem M9(n:Int):IntKind.u32.wrap n=((u32 n).toNat:Int):=by
 unfold u32;rw[IntKind.wrap_u32,UInt32.toNat_ofBitVec,BitVec.toNat_ofInt];omega
theorem I3(n:Int):(u8 n).toNat=(n % 256).toNat:=by
 unfold u8;rw[UInt8.toNat_ofBitVec,BitVec.toNat_ofInt];rfl
theorem GM(n:Int):(u32 n).toNat=(n % 4294967296).toNat:=by
 unfold u32;rw[UInt32.toNat_ofBitVec,BitVec.toNat_ofInt];rfl
@[simp] theorem Nl(x:UInt32):u32 (x.toNat:Int)=x:=by apply UInt32.toNat_inj.1;rw[GM];have:=x.toNat_lt;omega
@[simp] theorem Tl(x:UInt32):u8 (x.toNat:Int)=x.toUInt8:=by apply UInt8.toNat_inj.1;rw[I3,UInt32.toNat_toUInt8];omega
@[simp] theorem Q6(x:UInt32):IntKind.i64.wrap (x.toNat:Int)=x.toNat:=by have:=x.toNat_lt;exact IntWalk.i64_in _ (by omega)
theorem Rz(v:BitVec 32):IntKind.u32.wrap (v.toNat:Int)=((UInt32.ofBitVec v).toNat:Int):=by
 rw[M9];unfold u32;congr 3;apply BitVec.eq_of_toNat_eq;rw[BitVec.toNat_ofInt];have:=v.isLt;omega
theorem Rx(op:BinOp)(f:BitVec 32→BitVec 32→BitVec 32)(g:UInt32→UInt32→UInt32)(hg : ∀x y,g x y=UInt32.ofBitVec (f x.toBitVec y.toBitVec))(hop : ∀x y:Int,aE P op t xo yo (some (.v (.int .u32 x))) (some (.v (.int .u32 y)))=some (.v (.int .u32 (IntKind.u32.wrap ((f (BitVec.ofInt 32 x) (BitVec.ofInt 32 y)).toNat:Int))),[])) :
 aE P op t xo yo (some (.v (.int .u32 a))) (some (.v (.int .u32 b)))=some (aF (g (u32 a) (u32 b)),[]):=by
 rw[hop,Rz,hg];rfl
section
variable(x y:UInt8)
@[simp] theorem Sh:aE P .lss t xo yo (some (a8 x)) (some (a8 y))=some (aB (decide (x<y)),[]):=by
 unfold a8;rw[Fp];congr 4;rw[UInt8.lt_iff_toNat_lt];all_goals exact propext (by omega)
@[simp] theorem Si:aE P .leq t xo yo (some (a8 x)) (some (a8 y))=some (aB (decide (x≤y)),[]):=by
 unfold a8;rw[Lk];congr 4;rw[UInt8.le_iff_toNat_le];all_goals exact propext (by omega)
@[simp] theorem Sj:aE P .gtr t xo yo (some (a8 x)) (some (a8 y))=some (aB (decide (y<x)),[]):=by
 unfold a8;rw[Ll];congr 4;rw[UInt8.lt_iff_toNat_lt];all_goals exact propext (by omega)
@[simp] theorem Sk:aE P .geq t xo yo (some (a8 x)) (some (a8 y))=some (aB (decide (y≤x)),[]):=by
 unfold a8;rw[Lm];congr 4;rw[UInt8.le_iff_toNat_le];all_goals exact propext (by omega)
@[simp] theorem Sm:aE P .eql t xo yo (some (a8 x)) (some (a8 y))=some (aB (decide (x=y)),[]):=by
 unfold a8;rw[Fq];congr 4;rw[←UInt8.toNat_inj];all_goals exact propext (by omega)
@[simp] theorem Sg:aE P .neq t xo yo (some (a8 x)) (some (a8 y))=some (aB (!decide (x=y)),[]):=by
 unfold a8;rw[Lj];congr 5;rw[←UInt8.toNat_inj];all_goals exact propext (by omega)
end
section
variable(x y:UInt32)
@[simp] theorem MS:aE P .andNot t xo yo (some (aF x)) (some (aF y))=some (aF (x &&& ~~~y),[]):=by
 unfold aF;rw[Rx P t xo yo _ _ .andNot (fun a b=>a &&& ~~~b) (fun a b=>a &&& ~~~b) (fun _ _=>rfl) (fun _ _=>rfl)];simp only[Nl];rfl
@[simp] theorem Qs:aE P .lss t xo yo (some (aF x)) (some (aF y))=some (aB (decide (x<y)),[]):=by
 unfold aF;rw[Fp];congr 4;rw[UInt32.lt_iff_toNat_lt];all_goals exact propext (by omega)
@[simp] theorem Qt:aE P .eql t xo yo (some (aF x)) (some (aF y))=some (aB (decide (x=y)),[]):=by
 unfold aF;rw[Fq];congr 4;rw[←UInt32.toNat_inj];all_goals exact propext (by omega)
end
theorem jF{P:Program}{t:TypeId}{d:TypeDesc}(h:P.underlying t=some d):bu P (Go.underlying t)=some d:=by
 unfold Go.underlying
 rw[bN]
 show(some P).bind _=_
 rw[Option.bind_some,h]
 rfl
def intKind(P:Program)(t:TypeId):Option IntKind:=match P.underlying t with | some (.int k)=>some k | _=>none
theorem D7{P:Program}{t:TypeId}{k:IntKind}(h:intKind P t=some k):P.underlying t=some (.int k):=by
 unfold intKind at h
 split at h
 ·cases h;assumption
 ·cases h
theorem CX{g:cV}{r:Ref}{src dst:TypeId}{k':IntKind}(hs:(P.underlying src).isNone=false)(hd:intKind P dst=some k)(n:Int) :
 cM P g r src dst (some (.v (.int k' n)))=some (.v (.int k (k.wrap n)),[]):=by
 have hd:=D7 hd
 obtain⟨d,hs⟩ : ∃d,P.underlying src=some d:=by cases h:P.underlying src with | none=>rw[h]at hs;cases hs | some d=>exact⟨d,rfl⟩
 have:bu P (Go.convert src dst (.int k' n))=some (.int k (k.wrap n)):=by
  unfold Go.convert
  rw[bN,jF hs,Option.bind_some,bN,jF hd,Option.bind_some]
  cases d<;>rfl
 simp only[cM,this,Option.bind_some,hX,scalar,if_true,cJ,Option.map_some]
@[simp] theorem Qq{g:cV}{r:Ref}{src dst:TypeId}(hs:(P.underlying src).isNone=false)(hd:intKind P dst=some .i64)(x:UInt32) :
 cM P g r src dst (some (aF x))=some (aI x.toNat,[]):=by
 unfold aF;rw[CX P .i64 hs hd,Q6]
@[simp] theorem Sf{g:cV}{r:Ref}{src dst:TypeId}{k':IntKind}(hs:(P.underlying src).isNone=false)(hd:intKind P dst=some .u8)(n:Int) :
 cM P g r src dst (some (.v (.int k' n)))=some (a8 (u8 n),[]):=by
 unfold a8;rw[CX P .u8 hs hd,Tf]
end
def gJ(l:List UInt8):List AV:=l.map a8
@[simp] theorem XK(l:List UInt8):(gJ l).length=l.length:=by simp[gJ]
@[simp] theorem XJ:gJ []=[]:=id rfl
theorem Ld(P:Program)(d:Bool)(g:cV)(r:Ref)(t:TypeId)(ts:List TypeId)(x:AV)(hx : ∀r',x ≠ .mp r'):aM P d g r .len ⟨t :: ts⟩ [x]=B5 P (some t) x:=by
 unfold aM
 cases x<;>first | rfl | (rename_i q;exact(hx q rfl).elim)
@[simp] theorem W2(P:Program)(d:Bool)(g:cV)(r:Ref)(t:TypeId)(ts:List TypeId)(x:AV)(hx:(qn x).isSome=true):aM P d g r .len ⟨t :: ts⟩ [x]=B5 P (some t) x:=by
 refine Ld P d g r t ts x fun r' e=>?_
 subst e;cases hx
@[simp] theorem SE:qn dg=some 0:=id rfl
@[simp] theorem SF(n:Nat)(es:List AV)(c:Option Nat):qn (.cm n es c)=some es.length:=id rfl
@[simp] theorem SD(r:Ref)(o n:Nat)(c:Option Nat):qn (.cG r o n c)=some n:=id rfl
@[simp] theorem Qn{P:Program}{t:TypeId}(ha:gZ P t=none)(hs:isStr P t=false)(he:(dU P t).isSome=true)(x:AV):B5 P (some t) x=(qn x).map fun n=>(aI n,[]):=by
 simp only[B5,ha,hs,he];rfl
theorem Gc{P:Program}{t:TypeId}{z:Nat}(h:(dU P t).bind (aU P)=some z) : ∃e,dU P t=some e∧aU P e=some z:=by
 simpa [Option.bind_eq_some_iff] using h
@[simp] theorem AE{P:Program}{t:TypeId}{z:Nat}(h:(dU P t).bind (aU P)=some z)(g:cV)(es:List AV)(c:Option Nat)(kd:IntKind)(k:Int) :
 aQ P g t (some (.cm z es c)) (some (.v (.int kd k)))=if 0≤k∧k<es.length then some (.iptr z es k.toNat 0,[]) else none:=by
 obtain⟨e,he,hz⟩:=Gc h
 simp only[aQ,Option.bind_some,intOf,he,hz,and_true]
@[simp] theorem Le{P:Program}{t:TypeId}(h:dU P t=none)(hz:((gZ P t).bind fun p=>aU P p.2).isSome=true)(g:cV)(r:Ref)(i j:Nat)(kd:IntKind)(k:Int) :
 aQ P g t (some (.ptr r i j)) (some (.v (.int kd k)))=if 0≤k∧k<((gZ P t).getD (0,0)).1 then some (.ptr r i (j+k.toNat * (aU P ((gZ P t).getD (0,0)).2).getD 0),[]) else none:=by
 obtain⟨z,hz⟩:=Option.isSome_iff_exists.1 hz
 simp only[Option.bind_eq_some_iff]at hz
 obtain⟨⟨n,e⟩,ha,hz⟩:=hz
 simp only[aQ,Option.bind_some,intOf,h,ha,hz,Option.getD_some]
@[simp] theorem Qm{P:Program}{t:TypeId}(ha:(dR P t).isSome=true)(hn:(aU P t).isSome=true)(g:cV)(z:Nat)(es:List AV)(i j:Nat) :
 aj P g t (some (.iptr z es i j))=cJ (eQ es i j ((aU P t).getD 0) ((dR P t).getD false)):=by
 obtain⟨a,ha⟩:=Option.isSome_iff_exists.1 ha
 obtain⟨n,hn⟩:=Option.isSome_iff_exists.1 hn
 simp only[aj,ha,hn,Option.getD_some]
def LQ(x:Option bJ)(i j n:Nat)(ag:Bool):fY:=match x with
 | some b=>cJ (eQ b.es i j n ag)
 | none=>none
@[simp] theorem QM(b:bJ)(i j n:Nat)(ag:Bool):LQ (some b) i j n ag=cJ (eQ b.es i j n ag):=id rfl
@[simp] theorem Se{P:Program}{t:TypeId}(ha:(dR P t).isSome=true)(hn:(aU P t).isSome=true)(g:cV)(r:Ref)(i j:Nat) :
 aj P g t (some (.ptr r i j))=LQ (g r) i j ((aU P t).getD 0) ((dR P t).getD false):=by
 obtain⟨a,ha⟩:=Option.isSome_iff_exists.1 ha
 obtain⟨n,hn⟩:=Option.isSome_iff_exists.1 hn
 simp only[aj,ha,hn,Option.getD_some]
 rfl
@[simp] theorem Km(e:AV)(es:List AV)(j n:Nat):eQ (e :: es) 0 j n true=if j+n≤e.cells.length∧0<n then some (.agg ((e.cells.drop j).take n)) else none:=id rfl
@[simp] theorem Kl(e:AV)(es:List AV)(j n:Nat):eQ (e :: es) 0 j n false=e.cells[j]?:=id rfl
def Sl(z:Nat)(es:List AV)(x:AV):Prop:=(x=dg∧es=[]) ∨∃c,x = .cm z es c∧es.length≤c.getD es.length
theorem Sl.mk(z:Nat)(es:List AV):Sl z es (.cm z es none) := .inr ⟨none,rfl,Nat.le_refl _⟩
theorem Sl.len{z:Nat}{es:List AV}{x:AV}(h:Sl z es x):qn x=some es.length:=by
 rcases h with ⟨rfl,rfl⟩ | ⟨c,rfl,_⟩<;>rfl
theorem Sl.cm{z:Nat}{es:List AV}{x:AV}(h:Sl z es x){i:Nat}(hi:i<es.length) : ∃c,x = .cm z es c∧es.length≤c.getD es.length:=by
 rcases h with ⟨rfl,rfl⟩ | h
 ·simp at hi
 ·exact h
theorem Sl.view{z:Nat}{es:List AV}{x:AV}(h:Sl z es x)(g:cV)(n:Nat):view g (n+1) x=some x:=by
 rcases h with ⟨rfl,rfl⟩ | ⟨c,rfl,_⟩<;>rfl
theorem Sl.refs{z:Nat}{es:List AV}{x:AV}(h:Sl z es x)(g:cV)(n:Nat):aG g n x=[]:=by
 rcases h with ⟨rfl,rfl⟩ | ⟨c,rfl,_⟩<;>cases n<;>rfl
theorem Sl.cells{z:Nat}{es:List AV}{x:AV}(h:Sl z es x):x.cells=[x]∧x.one=true:=by
 rcases h with ⟨rfl,_⟩ | ⟨c,rfl,_⟩<;>exact⟨rfl,rfl⟩
@[simp] theorem P2(g:cV)(n:Nat)(x:Value):view g (n+1) (.v x)=some (.v x):=id rfl
@[simp] theorem XS(g:cV)(n:Nat)(x:UInt8):view g (n+1) (a8 x)=some (a8 x):=id rfl
@[simp] theorem V7(g:cV)(n:Nat)(x:UInt32):view g (n+1) (aF x)=some (aF x):=id rfl
@[simp] theorem Th(g:cV)(n z:Nat)(es:List AV)(c:Option Nat):view g (n+1) (.cm z es c)=some (.cm z es c):=id rfl
@[simp] theorem Tj(g:cV)(n:Nat)(cs:List AV):view g (n+1) (.agg cs)=(cs.mapM (view g n)).map .agg:=id rfl
@[simp] theorem Tg(g:cV)(n:Nat)(cs:List AV):view g (n+1) (.tup cs)=(cs.mapM (view g n)).map .tup:=id rfl
@[simp] theorem RK(g:cV)(n z:Nat)(es:List AV)(i j:Nat):view g (n+1) (.iptr z es i j)=some (.iptr z es i j):=id rfl
@[simp] theorem Ti(g:cV)(n:Nat)(t:TypeId)(x:AV):view g (n+1) (.ifc t x)=(view g n x).map (.ifc t):=id rfl
theorem z3{g:cV}{r:Ref}{b:bJ}(hr:g r=some b)(n o l:Nat)(c:Option Nat):view g (n+1) (.cG r o l c)=if b.arr=true∧o+l≤b.es.length then some (.cm b.esz ((b.es.drop o).take l) c) else none:=by
 simp only[view,hr]
theorem bK:depth=8:=Nat.le_antisymm (Nat.le_refl 8) (Nat.le_refl 8)
end Go.Ab
namespace Go.Ab
@[simp] theorem ab.oz(r q:Ref)(b:Option bJ)(H:ab):ab.get ((r,b) :: H) q=if r=q then b else ab.get H q:=id rfl
attribute [simp] ab.get_put
@[simp] theorem W3(P:Program)(r:Ref)(e:TypeId)(x:AV)(h0:0<(aU P e).getD 0):cE P r e (some x)=if some x.cells.length=aU P e∧x.cells.all AV.one=true then some (.ptr r 0 0,[⟨(aU P e).getD 0,[x],false,false⟩]) else none:=by
 unfold cE
 cases h:aU P e with
 | none=>simp
 | some n=>rw[h]at h0;simp only[Option.getD_some]at h0;simp[h0]
def Fr(H:ab):Prop :=∀d t g k,H.gen d t≤g→H.get ⟨d,t,g,k⟩=none
theorem Fr.nil:Fr []:=fun _ _ _ _ _=>rfl
theorem Fr.keyed{H:ab}(h:Fr H)(bs:List bJ)(d t:Nat):Fr (Ab.keyed ⟨d,t,H.gen d t,0⟩ 0 bs H):=by
 intro d' t' g k hg
 rw[ab.iK]at hg
 rw[ab.Dc]
 by_cases hb:bs=[]
 ·subst hb
  rw[if_neg (by simp)]at hg
  simp[h _ _ _ _ hg]
 ·by_cases hd:d'=d∧t'=t
  ·obtain⟨rfl,rfl⟩:=hd
   rw[if_pos ⟨rfl,rfl,hb⟩]at hg
   dsimp only at hg ⊢
   rw[if_neg (by intro hh;have:=hh.2.2.1;omega)]
   exact h _ _ _ _ (by omega)
  ·rw[if_neg (by intro hh;exact hd ⟨hh.1,hh.2.1⟩)]at hg
   dsimp only at hg ⊢
   rw[if_neg (by intro hh;exact hd ⟨hh.1,hh.2.1⟩)]
   exact h _ _ _ _ hg
theorem Fr.put{H:ab}(h:Fr H){r:Ref}(b:Option bJ)(hr:(H.get r).isSome=true):Fr (H.put r b):=by
 intro d t g k hg
 rw[ab.jO H r b hr]at hg
 rw[ab.get_put]
 split
 ·rename_i e
  subst e
  rw[h _ _ _ _ hg]at hr
  cases hr
 ·exact h _ _ _ _ hg
theorem Fr.cons{H:ab}(h:Fr H)(d t:Nat)(b:Option bJ):Fr ((⟨d,t,H.gen d t,0⟩,b) :: H):=by
 intro d' t' g k hg
 simp only[ab.gen]at hg
 rw[ab.oz]
 split at hg
 ·rename_i e
  obtain⟨rfl,rfl⟩:=e
  rw[if_neg (by intro e;injection e;omega)]
  exact h _ _ _ _ (by omega)
 ·rename_i e
  rw[if_neg (by intro e';injection e' with e1 e2;exact e ⟨e1,e2⟩)]
  exact h _ _ _ _ hg
theorem o3{H:ab}(hF:Fr H){q:Ref}(h:(H.get q).isSome=true)(d t k:Nat):(⟨d,t,H.gen d t,k⟩:Ref)≠q:=by
 intro e;subst e;rw[hF _ _ _ _ (Nat.le_refl _)]at h;cases h
def Rm(P:Program)(t z by':Nat):Bool:=match dU P t with
 | some e=>aU P e == some z&&kH P e == some by'&&(match ej P e with | some zz=>zz.cells.length == z&&zz.cells.all AV.one | none=>false)&&z != 0&&by' != 0
 | none=>false
def BP(P:Program)(t:TypeId):Bool:=(P.underlying t).isSome && !isInt P t
theorem iU{P:Program}{t z by':Nat}(h:Rm P t z by'=true) : ∃e zz,dU P t=some e∧aU P e=some z∧kH P e=some by'∧ej P e=some zz∧zz.cells.length=z∧zz.cells.all AV.one=true∧z≠0∧by'≠0:=by
 unfold Rm at h
 split at h
 ·rename_i e he
  simp only[Bool.and_eq_true,beq_iff_eq,bne_iff_ne]at h
  obtain⟨⟨⟨⟨h1,h2⟩,h3⟩,h4⟩,h5⟩:=h
  split at h3
  ·rename_i zz hz
   simp only[Bool.and_eq_true,beq_iff_eq]at h3
   exact⟨e,zz,he,h1,h2,hz,h3.1,h3.2,h4,h5⟩
  ·cases h3
 ·cases h
def OM(g:cV)(z:Nat)(new:List AV)(x:AV):Prop:=(x=dg∧new=[])∨(isNum x=false∧x≠dg∧cK g x=some (z,new))
theorem OM.lH{P:Program}{t z by':Nat}(h:Rm P t z by'=true){e:TypeId}(he:dU P t=some e){g:cV}{new:List AV}{x:AV}(hx:OM g z new x):lH P g e x=some (z,new):=by
 obtain⟨e',zz,h1,h2,h3,h4,h5,h6,h7,h8⟩:=iU h
 rw[he]at h1;cases h1
 rcases hx with ⟨rfl,rfl⟩ | ⟨hn,hne,hx⟩
 ·simp only[Ab.lH,h2,Option.map_some]
 ·unfold Ab.lH
  split
  ·exact(hne rfl).elim
  ·simp[isNum]at hn
  ·exact hx
theorem OM.num{g:cV}{z:Nat}{new:List AV}{x:AV}(hx:OM g z new x):isNum x=false:=by
 rcases hx with ⟨rfl,_⟩ | ⟨hn,_⟩
 ·rfl
 ·exact hn
theorem Sl.Ee{z:Nat}{es:List AV}{x:AV}(h:Sl z es x)(g:cV):OM g z es x:=by
 rcases h with ⟨rfl,rfl⟩ | ⟨c,rfl,_⟩
 ·exact .inl ⟨rfl,rfl⟩
 ·exact .inr ⟨rfl,(by intro e;cases e),rfl⟩
def Own(z:Nat)(es:List AV)(H:ab)(x:AV):Prop:=(x=dg∧es=[]) ∨∃r,x = .cG r 0 es.length none∧H.get r=some ⟨z,es,true,false⟩
theorem Ip(z:Nat)(H:ab):Own z [] H dg := .inl ⟨rfl,rfl⟩
theorem Own.len{z:Nat}{es:List AV}{H:ab}{x:AV}(h:Own z es H x):qn x=some es.length:=by
 rcases h with ⟨rfl,rfl⟩ | ⟨r,rfl,_⟩<;>rfl
theorem Own.view{z:Nat}{es:List AV}{H:ab}{x:AV}(h:Own z es H x)(n:Nat) : ∃y,view H.get (n+1) x=some y∧Sl z es y:=by
 rcases h with ⟨rfl,rfl⟩ | ⟨r,rfl,hr⟩
 ·exact⟨dg,rfl,.inl ⟨rfl,rfl⟩⟩
 ·refine⟨.cm z es none,?_,Sl.mk z es⟩
  rw[z3 hr]
  simp
theorem Own.Ee{z:Nat}{es:List AV}{H:ab}{x:AV}(h:Own z es H x):OM H.get z es x:=by
 rcases h with ⟨rfl,rfl⟩ | ⟨r,rfl,hr⟩
 ·exact .inl ⟨rfl,rfl⟩
 ·refine .inr ⟨rfl,(by intro e;cases e),?_⟩
  simp[cK,hr]
def AV.at?:AV→Option Ref
 | .cG r _ _ _=>some r
 | .ptr r _ _=>some r
 | _=>none
theorem Own.cG{z:Nat}{es:List AV}{H:ab}{x:AV}(h:Own z es H x)(hn:es≠[]) : ∃r,x = .cG r 0 es.length none∧H.get r=some ⟨z,es,true,false⟩:=by
 rcases h with ⟨_,rfl⟩ | h
 ·exact(hn rfl).elim
 ·exact h
end Go.Ab
