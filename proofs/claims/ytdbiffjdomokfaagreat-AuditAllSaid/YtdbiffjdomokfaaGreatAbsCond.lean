/-
  What is to be shown for a run of the abstract machine, as one proposition that is computed from the code. No statement of a seat is proved here.
  More fuel gives the same answer. No statement of a seat is proved here.
  What the abstract machine's operations yield on data: the rules for the conditions. No statement of a seat is proved here.
  Own memory in the conditions: appends, stores, loads, what is seen of it. No statement of a seat is proved here.
-/
import Derived.Test.YtdbiffjdomokfaaGreatAbsEnv
import Derived.IntWalk
set_option linter.unusedVariables false
set_option linter.unusedSimpArgs false
namespace Go.Ab
abbrev dH:=Nat→AV
def cE(s:dH):Operand→Option AV
 | .tmp t=>some (s t)
 | .const v=>ofValue v
 | .func f=>some (.fn (.func f) [] [])
 | .global _=>none
def yr(ev:Operand→Option AV):List Operand→Option (List AV)
 | []=>some []
 | o :: os=>match ev o,yr ev os with
  | some x,some xs=>some (x :: xs)
  | _,_=>none
def zp(ev:Operand→Option AV):List (Nat × Operand)→Option (List (Nat × AV))
 | []=>some []
 | (i,o) :: os=>match ev o,zp ev os with
  | some x,some xs=>some ((i,x) :: xs)
  | _,_=>none
def Gw(ev:Operand→Option AV):Option Operand→Option (Option Int)
 | none=>some none
 | some o=>match (ev o).bind intOf with
  | some n=>some (some n)
  | none=>none
def zF(s:dH)(d:Nat)(v:AV):dH:=fun i=>cond (Nat.beq i d) v (s i)
def dV(tm:List AV)(s:dH):Prop :=∀i,cO tm i=s i
theorem sw{tm:List AV}{s:dH}(h:dV tm s):aZ tm=cE s:=by
 funext o;cases o<;>simp[aZ,cE,h _]
theorem B2(ev:Operand→Option AV)(l:List Operand):l.mapM ev=yr ev l:=by
 induction l with
 | nil=>rfl
 | cons o l ih =>
  simp only[List.mapM_cons,ih,yr,Option.pure_def,Option.bind_eq_bind]
  cases ev o<;>cases yr ev l<;>rfl
theorem D2{tm:List AV}{s:dH}(h:dV tm s)(l:List (Nat × Operand)):ga tm l=zp (cE s) l:=by
 induction l with
 | nil=>rfl
 | cons o l ih =>
  obtain⟨i,o⟩:=o
  unfold ga at ih ⊢
  rw[List.mapM_cons,ih]
  simp only[zp,Option.pure_def,Option.bind_eq_bind,sw h]
  cases cE s o<;>cases zp (cE s) l<;>rfl
theorem ER{tm:List AV}{s:dH}(h:dV tm s)(o:Option Operand):jG tm o=Gw (cE s) o:=by
 cases o with
 | none=>rfl
 | some o=>simp only[jG,Gw,sw h];rfl
theorem dV.set{tm:List AV}{s:dH}(h:dV tm s)(d:Nat)(v:AV):dV (sU tm d v) (zF s d v):=by
 intro i
 rw[lE]
 unfold zF
 split
 ·rename_i e;subst e;simp
 ·rename_i e;rw[show Nat.beq i d=false from by cases hb:Nat.beq i d with | false=>rfl | true=>exact(e (Nat.eq_of_beq_eq_true hb)).elim];exact h i
def bp(c a b:Option AV):gz :=
 match c.bind zS with
 | some true=>cf a
 | some false=>cf b
 | none=>none
def bl(H:ab)(r:Ref)(q:gz):dy :=
 match q with
 | some (v,bs)=>some (v,keyed r 0 bs H)
 | none=>none
def AA(wk:Bool)(a b:dy):dy :=
 match a with
 | some x=>some x
 | none=>cond wk b none
def bn(E:Env)(wk:Bool)(pc:FuncId→List AV→Option AV)(tc:rW→List AV→ab→dy)(H:ab)(r:Ref)(f:Option AV)(args:List AV):dy :=
 AA wk (bl H r (ij E pc H.get r f args)) (kE E pc tc H r f args)
def kI(E:Env)(wk:Bool)(pc:FuncId→List AV→Option AV)(tc:rW→List AV→ab→dy)(H:ab)(r:Ref)(f:Option AV)(args:List AV):dy :=
 AA wk (bl H r ((ij E pc H.get r f args).map fun p=>(p.1,uS true p.2))) (mV true E.sm H (kE E pc tc H r f args))
def cQ(P:Program)(wk:Bool)(H:ab)(r:Ref)(t t':Option TypeId)(s x:AV):dy :=
 AA wk (bl H r (gH P H.get r t t' s x)) (kf P H t t' s x)
def eX(P:Program)(draw wk:Bool)(H:ab)(r:Ref)(t:TypeId)(n:Nat)(vs:Option (List (Nat × AV))):dy :=
 AA wk (bl H r (fC P draw H.get r t n vs)) (ic P H r t n vs)
def sh(E:Env)(pc:FuncId→List AV→Option AV)(tc:rW→List AV→ab→dy)(dep:Nat)(draw wk:Bool)(s:dH)(H:ab)(r:Ref)(o:Oper):gz ⊕ dy :=
 match o.op with
 | .move x | .assign x => .inl (cf (cE s x))
 | .pick c a b => .inl (bp (cE s c) (cE s a) (cE s b))
 | .alloc e => .inr (bl H r (bX E.P r e))
 | .box e x => .inr (bl H r (cB E.P r e (cE s x)))
 | .build t ps => .inl (cy E.P t (zp (cE s) ps.toList))
 | .buildSlice t n ps => .inr (eX E.P (draw && !E.strict o) wk H r t n (zp (cE s) ps.toList))
 | .load t a => .inl (aj E.P H.get t (cE s a))
 | .store t a x => .inr (cond wk (aW E.P H t (cE s a) (cE s x)) none)
 | .nilCheck x => .inl (jX (cE s x))
 | .binOp op t xo yo _ => .inl (aE E.P op t xo yo (cE s xo) (cE s yo))
 | .unOp op _ x => .inl (xj E.P op (cE s x))
 | .convert src dst x=>match eP E.P dst with
  | true => .inr (bl H r (cS E.P H.get r src dst (cE s x)))
  | false => .inl (cS E.P H.get r src dst (cE s x))
 | .makeInterface t x => .inl (oz E.P t (cE s x))
 | .makeFunc f first captured => .inl (sf f (yr (cE s) first.toList) (yr (cE s) captured.toList))
 | .makeSlice t l c => .inr (bl H r (uE E.P r t (cE s l) (cE s c)))
 | .slice t x lo hi mx=>match E.wide o && !draw with
  | true => .inl (qM E.P H.get t (cE s x) (Gw (cE s) lo) (Gw (cE s) hi) (Gw (cE s) mx))
  | false => .inl (eS E.P H.get t (cE s x) (Gw (cE s) lo) (Gw (cE s) hi) (Gw (cE s) mx))
 | .fieldAddr t x f => .inl (aa E.P t (cE s x) f)
 | .field t x f => .inl (lg E.P t (cE s x) f)
 | .indexAddr t x ix => .inl (aH E.P H.get t (cE s x) (cE s ix))
 | .index t x ix => .inl (nC E.P t (cE s x) (cE s ix))
 | .typeAssert x _ want ok => .inl (oO E.P (cE s x) want ok)
 | .extract x i => .inl (aJ (cE s x) i)
 | .call c =>
  match yr (cE s) c.args.toList with
  | none => .inl none
  | some args =>
   match c.callee with
   | .value f=>(match z9 E.pz draw f with
    | some t => .inl (Gk E.P H.get t args)
    | none=>(match E.jg o with
     | true => .inr (kI E wk pc tc H r (cE s f) args)
     | false => .inr (bn E wk pc tc H r (cE s f) args)))
   | .invoke _ _ => .inl none
   | .builtin b=>match b,args with
    | .append,[a,x] => .inr (cQ E.P wk H r c.argTypes[0]? c.argTypes[1]? a x)
    | .copy,[dst,x]=>(match E.wide o with
     | true => .inr (cond wk (A4 E.P H c.argTypes[0]? dst x) none)
     | false => .inr (cond wk (FE E.P H c.argTypes[0]? dst x) none))
    | b,args => .inl (aK E.P (draw&&(E.strict o || !(match c.args.toList with | [.tmp _]=>true | _=>false))) H.get r b c.argTypes args)
 | .makeMap _ none => .inr (bl H r (some (.mp r,[bt []])))
 | .lookup t x k ok => .inl (cY E.P H.get t (cE s x) (cE s k) ok)
 | .mapUpdate t m k x => .inr (cond wk (dL E.P H t (cE s m) (cE s k) (cE s x)) none)
 | .insert t m k x => .inr (cond wk (dL E.P H t (cE s m) (cE s k) (cE s x)) none)
 | .mapEntry t m k => .inr (cond wk (eC E.P H t (cE s m) (cE s k)) none)
 | .entryStore _ m n x => .inr (cond wk (df H (cE s m) (cE s n) (cE s x)) none)
 | .makeChan t n => .inr (cond wk (om E.P H r t (cE s n)) none)
 | .send c x => .inr (cond wk (vQ H (cE s c) (cE s x)) none)
 | .recv t c ok => .inr (cond wk (tJ E.P H t (cE s c) ok) none)
 | _ => .inl none
def mY(E:Env)(pc:FuncId→List AV→Option AV)(tc:rW→List AV→ab→dy)(dep:Nat)(draw:Bool)(tm:List AV)(H:ab)(o:Oper):dy :=
 match cr E pc draw H.get tm ⟨dep,o.dst.getD 0,H.gen dep (o.dst.getD 0),0⟩ o with
 | some (x,bs)=>some (x,keyed ⟨dep,o.dst.getD 0,H.gen dep (o.dst.getD 0),0⟩ 0 bs H)
 | none=>if draw && !gA E o then none else evalW E pc tc H tm ⟨dep,o.dst.getD 0,H.gen dep (o.dst.getD 0),0⟩ o
theorem Ch(E:Env)(pc:FuncId→List AV→Option AV)(tc:rW→List AV→ab→dy)(nt dep:Nat)(draw:Bool)(ops:Array Oper)(o:Oper)(st:St) :
 evalOp E pc tc nt dep draw ops o st=(match wanted ops st.tm o with
  | none=>none
  | some false=>(dk nt st.tm o.dst AV.undef).map fun tm => { st with tm}
  | some true=>match mY E pc tc dep draw st.tm st.hp o with
   | some (x,H)=>(dk nt st.tm o.dst x).map fun tm=>⟨tm,H⟩
   | none=>none):=by
 unfold evalOp mY
 cases hw:wanted ops st.tm o with
 | none=>rfl
 | some b =>
 cases b with
 | false=>rfl
 | true =>
  cases cr E pc draw st.hp.get st.tm ⟨dep,o.dst.getD 0,st.hp.gen dep (o.dst.getD 0),0⟩ o with
  | some p=>rfl
  | none =>
   dsimp only
   split
   ·rfl
   ·rfl
theorem Qo{E:Env}{pc:FuncId→List AV→Option AV}{tc:rW→List AV→ab→dy}{dep:Nat}{draw:Bool}{tm:List AV}{H:ab}{o:Oper}{v:AV}
 (h:cr E pc draw H.get tm ⟨dep,o.dst.getD 0,H.gen dep (o.dst.getD 0),0⟩ o=some (v,[])):mY E pc tc dep draw tm H o=some (v,H):=by
 unfold mY;rw[h];rfl
theorem J2{E:Env}{pc:FuncId→List AV→Option AV}{tc:rW→List AV→ab→dy}{dep:Nat}{draw:Bool}{tm:List AV}{H H':ab}{o:Oper}{v:AV}{q:gz}
 (h:cr E pc draw H.get tm ⟨dep,o.dst.getD 0,H.gen dep (o.dst.getD 0),0⟩ o=q) (hq:bl H ⟨dep,o.dst.getD 0,H.gen dep (o.dst.getD 0),0⟩ q=some (v,H')):mY E pc tc dep draw tm H o=some (v,H'):=by
 unfold mY;rw[h]
 unfold bl at hq
 split at hq
 ·exact hq
 ·cases hq
theorem kY{E:Env}{pc:FuncId→List AV→Option AV}{tc:rW→List AV→ab→dy}{dep:Nat}{draw:Bool}{tm:List AV}{H H':ab}{o:Oper}{v:AV}{q:gz}{w:dy}
 (h:cr E pc draw H.get tm ⟨dep,o.dst.getD 0,H.gen dep (o.dst.getD 0),0⟩ o=q) (hw:evalW E pc tc H tm ⟨dep,o.dst.getD 0,H.gen dep (o.dst.getD 0),0⟩ o=w)
 (hq:AA (!(draw && !gA E o)) (bl H ⟨dep,o.dst.getD 0,H.gen dep (o.dst.getD 0),0⟩ q) w=some (v,H')):mY E pc tc dep draw tm H o=some (v,H'):=by
 unfold mY;rw[h]
 cases q with
 | some p=>simpa [AA,bl] using hq
 | none =>
  rw[hw]
  cases hd:(draw && !gA E o) with
  | true=>rw[hd]at hq;simp[AA,bl]at hq
  | false=>rw[hd]at hq;simpa [AA,bl] using hq
section
variable{E:Env}{pc:FuncId→List AV→Option AV}{tc:rW→List AV→ab→dy}{dep:Nat}{draw:Bool}{tm:List AV}{s:dH}{H:ab}{o:Oper}
theorem PU(hs:dV tm s){q:gz}{v:AV}
 (h:sh E pc tc dep draw (!(draw && !gA E o)) s H ⟨dep,o.dst.getD 0,H.gen dep (o.dst.getD 0),0⟩ o = .inl q) (hq:q=some (v,[])):mY E pc tc dep draw tm H o=some (v,H):=by
 subst hq
 refine Qo ?_
 have e:=sw hs
 unfold sh at h
 unfold cr
 split at h<;>rename_i ho<;>simp only[ho]
 all_goals try (simp only[Sum.inl.injEq,reduceCtorEq]at h)
 all_goals try (rw[←h];simp only[e,bp,BC,D2 hs,ER hs,B2];done)
 ·rw[←h];unfold BC bp;rw[e];rfl
 ·split at h
  ·cases h
  ·simp only[Sum.inl.injEq]at h;rw[←h,e]
 ·cases hwd:(E.wide o && !draw) with
  | true=>rw[hwd]at h;simp only[Sum.inl.injEq]at h;rw[←h];simp only[cond_true,e,ER hs]
  | false=>rw[hwd]at h;simp only[Sum.inl.injEq]at h;rw[←h];simp only[cond_false,e,ER hs]
 ·rw[B2,e]
  split at h
  ·cases h
  ·rename_i args hargs
   rw[hargs]
   dsimp only
   split at h
   ·rename_i f hf
    rw[hf]
    dsimp only
    split at h
    ·rename_i t ht
     simp only[Sum.inl.injEq]at h
     simp only[ht]
     exact h
    ·split at h<;>cases h
   ·cases h
   ·rename_i b hb
    rw[hb]
    dsimp only
    split at h
    ·cases h
    ·split at h<;>cases h
    ·simp only[Sum.inl.injEq]at h;exact h
theorem PT(hs:dV tm s){w:dy}{v:AV}{H':ab}
 (h:sh E pc tc dep draw (!(draw && !gA E o)) s H ⟨dep,o.dst.getD 0,H.gen dep (o.dst.getD 0),0⟩ o = .inr w) (hw:w=some (v,H')):mY E pc tc dep draw tm H o=some (v,H'):=by
 subst hw
 have e:=sw hs
 unfold sh at h
 split at h<;>rename_i ho
 all_goals try (simp only[reduceCtorEq]at h;done)
 all_goals try (simp only[Sum.inr.injEq]at h)
 all_goals try (refine J2 (by unfold cr;simp only[ho,e]) h;done)
 ·rw[←D2 hs]at h
  exact kY (q:=fC _ _ _ _ _ _ _) (w:=ic _ _ _ _ _ _) (by unfold cr;simp only[ho]) (by unfold evalW;simp only[ho]) h
 ·rw[←e]at h
  exact kY (q:=none) (w:=aW _ _ _ _ _) (by unfold cr;simp only[ho]) (by unfold evalW;simp only[ho]) h
 ·split at h
  ·simp only[Sum.inr.injEq]at h
   refine J2 (by unfold cr;simp only[ho,e]) h
  ·cases h
 ·split at h<;>cases h
 ·split at h
  ·cases h
  ·rename_i args hargs
   have ha:=hargs
   rw[←B2,←e]at ha
   split at h
   ·rename_i f hf
    split at h
    ·cases h
    ·rename_i hov
     split at h
     ·rename_i hfz
      simp only[Sum.inr.injEq]at h
      rw[←e]at h
      exact kY (q:=(ij _ _ _ _ _ _).map _) (w:=mV true _ _ (kE _ _ _ _ _ _ _)) (by unfold cr;simp only[ho,ha,hf,hov,hfz]) (by unfold evalW;simp only[ho,ha,hf,hfz]) h
     ·rename_i hfz
      simp only[Sum.inr.injEq]at h
      rw[←e]at h
      exact kY (q:=ij _ _ _ _ _ _) (w:=kE _ _ _ _ _ _ _) (by unfold cr;simp only[ho,ha,hf,hov,hfz,uS];cases ij E pc H.get _ (aZ tm f) args<;>rfl) (by unfold evalW;simp only[ho,ha,hf,hfz];rfl) h
   ·cases h
   ·rename_i b hb
    split at h
    ·simp only[Sum.inr.injEq]at h
     exact kY (q:=gH _ _ _ _ _ _ _) (w:=kf _ _ _ _ _ _) (by unfold cr;simp only[ho,ha,hb];rfl) (by unfold evalW;simp only[ho,ha,hb]) h
    ·split at h
     ·rename_i hwd
      simp only[Sum.inr.injEq]at h
      exact kY (q:=none) (w:=A4 _ _ _ _ _) (by unfold cr;simp only[ho,ha,hb];rfl) (by unfold evalW;simp only[ho,ha,hb,hwd,cond_true]) h
     ·rename_i hwd
      simp only[Sum.inr.injEq]at h
      exact kY (q:=none) (w:=FE _ _ _ _ _) (by unfold cr;simp only[ho,ha,hb];rfl) (by unfold evalW;simp only[ho,ha,hb,hwd,cond_false]) h
    ·cases h
 ·rw[←e]at h
  exact kY (q:=none) (w:=dL _ _ _ _ _ _) (by unfold cr;simp only[ho]) (by unfold evalW;simp only[ho]) h
 ·rw[←e]at h
  exact kY (q:=none) (w:=dL _ _ _ _ _ _) (by unfold cr;simp only[ho]) (by unfold evalW;simp only[ho]) h
 ·rw[←e]at h
  exact kY (q:=none) (w:=eC _ _ _ _ _) (by unfold cr;simp only[ho]) (by unfold evalW;simp only[ho]) h
 ·rw[←e]at h
  exact kY (q:=none) (w:=df _ _ _ _) (by unfold cr;simp only[ho]) (by unfold evalW;simp only[ho]) h
 ·rw[←e]at h
  exact kY (q:=none) (w:=om _ _ _ _ _) (by unfold cr;simp only[ho]) (by unfold evalW;simp only[ho]) h
 ·rw[←e]at h
  exact kY (q:=none) (w:=vQ _ _ _) (by unfold cr;simp only[ho]) (by unfold evalW;simp only[ho]) h
 ·rw[←e]at h
  exact kY (q:=none) (w:=tJ _ _ _ _ _) (by unfold cr;simp only[ho]) (by unfold evalW;simp only[ho]) h
end
open Classical in
noncomputable def bj(E:Env)(f:FuncId)(args:List AV):Option AV :=
 if h : ∃y n,∀m,n≤m→dp E (cm E m) f args=some y then some h.choose else none
theorem vI{E:Env}{f:FuncId}{args:List AV}{y:AV}:bj E f args=some y ↔ ∃n,∀m,n≤m→dp E (cm E m) f args=some y:=by
 unfold bj
 constructor
 ·intro h
  split at h
  ·rename_i hh
   simp only[Option.some.injEq]at h
   rw[←h]
   exact hh.choose_spec
  ·cases h
 ·intro h
  rw[dif_pos ⟨y,h⟩]
  obtain⟨n,hn⟩:=h
  have hh : ∃y n,∀m,n≤m→dp E (cm E m) f args=some y:=⟨y,n,hn⟩
  obtain⟨n',hn'⟩:=hh.choose_spec
  have h1:=hn (max n n') (Nat.le_max_left ..)
  have h2:=hn' (max n n') (Nat.le_max_right ..)
  exact h2.symm.trans h1
open Classical in
noncomputable def bU(E:Env)(dep:Nat)(f:rW)(args:List AV)(H:ab):dy :=
 if h : ∃y n,∀m,n≤m→eF E (cm E m) dep f args H=some y then some h.choose else none
theorem qS{E:Env}{dep:Nat}{f:rW}{args:List AV}{H:ab}{y:AV × ab}:bU E dep f args H=some y ↔ ∃n,∀m,n≤m→eF E (cm E m) dep f args H=some y:=by
 unfold bU
 constructor
 ·intro h
  split at h
  ·rename_i hh
   simp only[Option.some.injEq]at h
   rw[←h]
   exact hh.choose_spec
  ·cases h
 ·intro h
  rw[dif_pos ⟨y,h⟩]
  obtain⟨n,hn⟩:=h
  have hh : ∃y n,∀m,n≤m→eF E (cm E m) dep f args H=some y:=⟨y,n,hn⟩
  obtain⟨n',hn'⟩:=hh.choose_spec
  have h1:=hn (max n n') (Nat.le_max_left ..)
  have h2:=hn' (max n n') (Nat.le_max_right ..)
  exact h2.symm.trans h1
theorem HB{E:Env}{wk:Bool}{dep:Nat}{H H':ab}{r:Ref}{f:Option AV}{args:List AV}{v:AV}(h:bn E wk (bj E) (bU E dep) H r f args=some (v,H')) :
 ∃n,∀m,n≤m→bn E wk (dp E (cm E m)) (eF E (cm E m) dep) H r f args=some (v,H'):=by
 unfold bn at h ⊢
 by_cases hf : ∃fi first captured,f=some (.fn (.func fi) first captured)
 ·obtain⟨fi,first,captured,rfl⟩:=hf
  by_cases h2:E.mode fi=2
  ·simp only[ij,kE,if_pos h2,bl,AA]at h ⊢
   cases wk with
   | true =>
    simp only[cond_true]at h ⊢
    obtain⟨n,hn⟩:=qS.1 h
    exact⟨n,hn⟩
   | false=>simp at h
  ·simp only[ij,kE,if_neg h2]at h ⊢
   cases hx:(first++args++captured).mapM (view H.get depth) with
   | none=>rw[hx]at h;simp[bl,AA]at h
   | some xs =>
    rw[hx]at h
    dsimp only at h ⊢
    cases hy:bj E fi xs with
    | none=>rw[hy]at h;simp[bl,AA]at h
    | some y =>
     rw[hy]at h
     obtain⟨n,hn⟩:=vI.1 hy
     refine⟨n,fun m hm=>?_⟩
     rw[hn m hm]
     exact h
 ·have h1 : ∀pc,ij E pc H.get r f args=none:=by
   intro pc
   unfold ij
   split
   ·exact(hf ⟨_,_,_,rfl⟩).elim
   ·rfl
  by_cases hy : ∃q,f=some (.yld q)
  ·obtain⟨q,rfl⟩:=hy
   rw[h1]at h
   cases wk with
   | false=>simp[bl,AA]at h
   | true =>
    have h':bU E dep (.yld q) args H=some (v,H'):=h
    obtain⟨n,hn⟩:=qS.1 h'
    refine⟨n,fun m hm=>?_⟩
    rw[h1]
    exact hn m hm
  ·have h2 : ∀pc tc,kE E pc tc H r f args=none:=by
    intro pc tc
    unfold kE
    split
    ·exact(hf ⟨_,_,_,rfl⟩).elim
    ·exact(hy ⟨_,rfl⟩).elim
    ·rfl
   rw[h1,h2]at h
   cases wk<;>simp[bl,AA]at h
theorem A2{sm:HK}{H H':ab}{x:dy}{v:AV}(h:mV true sm H x=some (v,H')) : ∃H1,x=some (v,H1)∧H'=H∧flat depth v=true∧(B9 H H1||sm.f H H1)=true:=by
 cases x with
 | none=>simp[mV]at h
 | some p =>
  obtain⟨y,H1⟩:=p
  unfold mV at h
  simp only at h
  split at h
  ·rename_i hc
   cases h
   rw[Bool.and_eq_true]at hc
   exact⟨H1,rfl,rfl,hc.1,hc.2⟩
  ·cases h
theorem Fp{E:Env}{wk:Bool}{dep:Nat}{H H':ab}{r:Ref}{f:Option AV}{args:List AV}{v:AV}(h:kI E wk (bj E) (bU E dep) H r f args=some (v,H')) :
 ∃n,∀m,n≤m→kI E wk (dp E (cm E m)) (eF E (cm E m) dep) H r f args=some (v,H'):=by
 unfold kI at h ⊢
 by_cases hf : ∃fi first captured,f=some (.fn (.func fi) first captured)
 ·obtain⟨fi,first,captured,rfl⟩:=hf
  by_cases h2:E.mode fi=2
  ·simp only[ij,kE,if_pos h2,bl,AA,Option.map_none]at h ⊢
   cases wk with
   | true =>
    simp only[cond_true]at h ⊢
    obtain⟨H1,e1,e2,e3,e4⟩:=A2 h
    obtain⟨n,hn⟩:=qS.1 e1
    refine⟨n,fun m hm=>?_⟩
    rw[hn m hm]
    rw[e1]at h
    exact h
   | false=>simp at h
  ·simp only[ij,kE,if_neg h2]at h ⊢
   cases hx:(first++args++captured).mapM (view H.get depth) with
   | none=>rw[hx]at h;simp[bl,AA,mV]at h
   | some xs =>
    rw[hx]at h
    dsimp only at h ⊢
    cases hy:bj E fi xs with
    | none=>rw[hy]at h;simp[bl,AA,mV]at h
    | some y =>
     rw[hy]at h
     obtain⟨n,hn⟩:=vI.1 hy
     refine⟨n,fun m hm=>?_⟩
     rw[hn m hm]
     exact h
 ·have h1 : ∀pc,ij E pc H.get r f args=none:=by
   intro pc
   unfold ij
   split
   ·exact(hf ⟨_,_,_,rfl⟩).elim
   ·rfl
  by_cases hy : ∃q,f=some (.yld q)
  ·obtain⟨q,rfl⟩:=hy
   rw[h1]at h
   cases wk with
   | false=>simp[bl,AA]at h
   | true =>
    have h':mV true E.sm H (bU E dep (.yld q) args H)=some (v,H'):=h
    obtain⟨H1,e1,_⟩:=A2 h'
    obtain⟨n,hn⟩:=qS.1 e1
    refine⟨n,fun m hm=>?_⟩
    rw[h1]
    show mV true E.sm H (eF E (cm E m) dep (.yld q) args H)=_
    rw[hn m hm]
    rw[e1]at h'
    exact h'
  ·have h2 : ∀pc tc,kE E pc tc H r f args=none:=by
    intro pc tc
    unfold kE
    split
    ·exact(hf ⟨_,_,_,rfl⟩).elim
    ·exact(hy ⟨_,rfl⟩).elim
    ·rfl
   rw[h1,h2]at h
   cases wk<;>simp[bl,AA,mV]at h
theorem D3{E:Env}{dep:Nat}{draw wk:Bool}{s:dH}{H:ab}{r:Ref}{o:Oper} :
 (∀q v,sh E (bj E) (bU E dep) dep draw wk s H r o = .inl q→q=some (v,[]) →∃n,∀m,n≤m→sh E (dp E (cm E m)) (eF E (cm E m) dep) dep draw wk s H r o = .inl (some (v,[]))) ∧
 (∀w v H',sh E (bj E) (bU E dep) dep draw wk s H r o = .inr w→w=some (v,H') →∃n,∀m,n≤m→sh E (dp E (cm E m)) (eF E (cm E m) dep) dep draw wk s H r o = .inr (some (v,H'))):=by
 constructor
 ·intro q v h hq
  subst hq
  refine⟨0,fun m _=>?_⟩
  unfold sh at h ⊢
  generalize o.op=op at h ⊢
  cases op
  all_goals try exact h
  case makeMap a b=>cases b<;>exact h
  rename_i c
  dsimp only at h ⊢
  cases ha:yr (cE s) c.args.toList with
  | none=>rw[ha]at h;exact h
  | some args =>
   rw[ha]at h
   dsimp only at h ⊢
   cases hc:c.callee with
   | value f =>
    rw[hc]at h
    dsimp only at h ⊢
    cases hov:z9 E.pz draw f with
    | some t=>rw[hov]at h;exact h
    | none=>rw[hov]at h;dsimp only at h;split at h<;>cases h
   | invoke a b=>rw[hc]at h;exact h
   | builtin b=>rw[hc]at h;exact h
 ·intro w v H' h hw
  subst hw
  unfold sh at h ⊢
  generalize o.op=op at h ⊢
  cases op
  all_goals try (exact⟨0,fun m _=>h⟩)
  case makeMap a b=>cases b<;>exact⟨0,fun m _=>h⟩
  rename_i c
  dsimp only at h ⊢
  cases ha:yr (cE s) c.args.toList with
  | none=>rw[ha]at h;cases h
  | some args =>
   rw[ha]at h
   dsimp only at h ⊢
   cases hc:c.callee with
   | value f =>
    rw[hc]at h
    dsimp only at h ⊢
    cases hov:z9 E.pz draw f with
    | some t=>rw[hov]at h;cases h
    | none =>
    rw[hov]at h
    dsimp only at h ⊢
    cases hfz:E.jg o with
    | true =>
     rw[hfz]at h
     simp only[Sum.inr.injEq]at h
     obtain⟨n,hn⟩:=Fp h
     exact⟨n,fun m hm=>congrArg _ (hn m hm)⟩
    | false =>
     rw[hfz]at h
     simp only[Sum.inr.injEq]at h
     obtain⟨n,hn⟩:=HB h
     exact⟨n,fun m hm=>congrArg _ (hn m hm)⟩
   | invoke a b=>rw[hc]at h;cases h
   | builtin b=>rw[hc]at h;exact⟨0,fun m _=>h⟩
abbrev Mk{α:Type}(a:α):Type:=Unit
structure ak (q:gz) (K:AV→Prop) (m:Mk K:=()):Prop where
 h : ∃v,q=some (v,[])∧K v
structure aO (w:dy) (K:AV→ab→Prop) (m:Mk K:=()):Prop where
 h : ∃v H,w=some (v,H)∧K v H
def QH(x:AV)(want:Bool):Option Bool :=
 match x with
 | .v (.bool b)=>some (b == want)
 | .v (.tuple vs)=>if vs.isEmpty then some false else none
 | _=>none
def gd(x:AV)(want:Bool)(A B:Prop):Prop :=
 match QH x want with
 | some true=>A
 | some false=>B
 | none=>False
structure gQ (x:AV) (want:Bool) (q:gz) (K:AV→Prop) (m:Mk (q,K):=()):Prop where
 h:gd x want (ak q K) (K AV.undef)
structure gW (x:AV) (want:Bool) (H:ab) (w:dy) (K:AV→ab→Prop) (m:Mk (w,K):=()):Prop where
 h:gd x want (aO w K) (K AV.undef H)
def brP(x:Option AV)(A B:Prop):Prop :=
 match x.bind zS with
 | some b=>cond b A B
 | none=>False
structure br (x:Option AV) (A B:Prop) (m:Mk (A,B):=()):Prop where
 h:brP x A B
def E7(ops:Array Oper)(s:dH)(o:Oper):Option (Option (AV × Bool)) :=
 match o.guard with
 | none=>none
 | some (j,want)=>match (ops[j]?).bind (·.dst) with
  | some t=>some (some (s t,want))
  | none=>some none
def C9(nt:Nat)(s:dH)(dst:Option Tmp)(v:AV)(K:dH→Prop):Prop :=
 match dst with
 | none=>K s
 | some d=>cond (Nat.blt d nt) (K (zF s d v)) False
def wpOp(E:Env)(nt dep:Nat)(draw:Bool)(ops:Array Oper)(o:Oper)(s:dH)(H:ab)(K:dH→ab→Prop):Prop :=
 match sh E (bj E) (bU E dep) dep draw (!(draw && !gA E o)) s H ⟨dep,o.dst.getD 0,H.gen dep (o.dst.getD 0),0⟩ o with
 | .inl q=>match E7 ops s o with
  | none=>(match o.op with
   | .move x | .assign x=>(match cE s x with
    | some v=>C9 nt s o.dst v fun s=>K s H
    | none=>False)
   | _=>ak q fun v=>C9 nt s o.dst v fun s=>K s H)
  | some (some (x,want))=>gQ x want q fun v=>C9 nt s o.dst v fun s=>K s H
  | some none=>C9 nt s o.dst AV.undef fun s=>K s H
 | .inr w=>match E7 ops s o with
  | none=>aO w fun v H=>C9 nt s o.dst v fun s=>K s H
  | some (some (x,want))=>gW x want H w fun v H=>C9 nt s o.dst v fun s=>K s H
  | some none=>C9 nt s o.dst AV.undef fun s=>K s H
def wpOps(E:Env)(nt dep:Nat)(draw:Bool)(ops:Array Oper):List Oper→dH→ab→(dH→ab→Prop)→Prop
 | [],s,H,K=>K s H
 | o :: os,s,H,K=>wpOp E nt dep draw ops o s H fun s H=>wpOps E nt dep draw ops os s H K
def Fin(E:Env)(fn:Func)(rd:Option Ref)(o:Option St)(y:AV)(H':ab):Prop:=match rd with
 | none =>∃st,o=some st∧pY E.P fn st=some y∧st.hp=H'
 | some r =>∃st n,o=rJ (some r) st n∧y = .v (.int .i64 (n:Nat))∧st.hp=H'
def Goes(E:Env)(fn:Func)(rd:Option Ref)(dep:Nat)(items:List Item)(s:dH)(H:ab)(Q:AV→ab→Prop):Prop :=
 ∀tm,dV tm s →∃y H',Q y H' ∧∃n,∀m,n≤m→Fin E fn rd (cm E m rd fn.ntmps dep items ⟨tm,H⟩) y H'
def JK(g:dH):List (Nat × AV)→dH
 | [],i=>g i
 | (j,v) :: l,i=>cond (Nat.beq i j) v (JK g l i)
structure QD (E:Env) (fn:Func) (rd:Option Ref) (dep:Nat) (items:List Item) (l:List (Nat × AV)) (H:ab) (Q:AV→ab→Prop):Prop where
 h : ∀g,Goes E fn rd dep items (JK g l) H Q
abbrev bP(E:Env)(fn:Func)(dep:Nat)(items:List Item)(l:List (Nat × AV))(H:ab)(Q:AV→ab→Prop):Prop:=QD E fn none dep items l H Q
def xS(s:dH):List Nat→List (Nat × AV)
 | []=>[]
 | t :: ts=>(t,s t) :: xS s ts
theorem Nc(s:dH)(l:List Nat):JK s (xS s l)=s:=by
 induction l with
 | nil=>rfl
 | cons t l ih =>
  funext i
  show cond (Nat.beq i t) (s t) (JK s (xS s l) i)=s i
  rw[ih]
  cases h:Nat.beq i t with
  | true=>rw[Nat.eq_of_beq_eq_true h];rfl
  | false=>rfl
def ji:Code→Option Nat
 | .region id _ _=>some id
 | .seq a b=>match ji a with
  | some i=>some i
  | none=>ji b
 | .cond _ a b=>match ji a with
  | some i=>some i
  | none=>ji b
 | .block _ c | .loop c | .scope c=>ji c
 | _=>none
def cR(P:Program)(H:ab)(x:AV)(t:TypeId):gz :=
 match x,dA P t,aU P t with
 | .ptr r i j,some g,some n=>match H.get r with
  | some b=>cf (dX b.es i j n g)
  | none=>none
 | _,_,_=>none
def pack:List AV→AV
 | [] => .v (.tuple #[])
 | [x]=>x
 | xs => .tup xs
def A1(P:Program)(s:dH)(H:ab)(Q:AV→ab→Prop):List ResultVar→List AV→Prop
 | [],acc=>Q (pack acc.reverse) H
 | .tmp t :: rs,acc=>A1 P s H Q rs (s t :: acc)
 | .cell a t :: rs,acc=>ak (cR P H (s a) t) fun v=>A1 P s H Q rs (v :: acc)
def nA(x y:AV):Bool:=match gG x,gG y with
 | some r,some r'=>decide (r≠r')
 | _,_=>true
def rE(H:ab)(x:AV):Bool:=match x with
 | .ptr r _ _=>(match H.get r with
  | some b => !b.arr
  | none=>false)
 | _=>true
def bsV(x:AV):Bool:=match x with
 | .cH .. => true
 | .v _=>true
 | _=>false
def MG(s:dH)(p:Tmp × Tmp):Bool:=nA (s p.1) (s p.2)
def Bq(s:dH)(H:ab)(o:Oper):Bool:=match o.op with
 | .store _ (.tmp t) _=>rE H (s t)
 | _=>true
def J8(E:Env)(s:dH)(o:Oper):Bool := !(E.jg o&&vP o.op)||(match RL o.op with
 | some t=>bsV (s t)
 | none=>false)
def Oi(E:Env)(l:List (Tmp × Tmp))(ops:Array Oper)(s:dH)(H:ab):Prop:=l.all (MG s)=true∧ops.toList.all (Bq s H)=true∧ops.toList.all (J8 E s)=true
def kC(l:List (AV × AV))(st bs:List AV)(H:ab):Prop:=(l.all fun p=>nA p.1 p.2)=true∧st.all (rE H)=true∧bs.all bsV=true
def QS(assign body:Code):Nat:=match ji (.seq assign body) with
 | some i=>i+10000
 | none=>10000
structure bgP (o:Option (Nat × AV)) (K:AV→Prop) (m:Mk K:=()):Prop where
 h : ∃info,o=some (0,info)∧K info
def FA(P:Program)(fn:Func)(rd:Option Ref)(code:Nat)(s:dH)(H:ab)(Q:AV→ab→Prop):Prop:=match rd with
 | none=>cond (Nat.ble code 2) (A1 P s H Q fn.results.toList []) False
 | some _=>Q (.v (.int .i64 code)) H
def wp(E:Env)(fn:Func)(rd:Option Ref)(dep:Nat)(live:Nat→Option (List Nat))(cut:Nat→Bool)(Q:AV→ab→Prop):Nat→List Item→dH→ab→Prop
 | 0,items,s,H=>Goes E fn rd dep items s H Q
 | n+1,items,s,H =>
  match items with
  | []=>FA E.P fn rd 0 s H Q
  | .beginRound :: k=>(match rd with
   | none=>False
   | some r=>bgP (te H r) fun info=>wp E fn rd dep live cut Q n k s (H.put r (some (iB 1 info))))
  | .code c :: k =>
   (match c with
   | .skip | .label _=>wp E fn rd dep live cut Q n k s H
   | .ret=>FA E.P fn rd 2 s H Q
   | .seq a b=>wp E fn rd dep live cut Q n (.code a :: .code b :: k) s H
   | .cond c a b=>br (cE s c) (wp E fn rd dep live cut Q n (.code a :: k) s H) (wp E fn rd dep live cut Q n (.code b :: k) s H)
   | .block id b=>wp E fn rd dep live cut Q n (.code b :: .inBlock id :: k) s H
   | .scope b=>wp E fn rd dep live cut Q n (.code b :: .inScope b :: k) s H
   | .loop b=>(match (ji b).bind live with
    | some l=>QD E fn rd dep (.inLoop b :: k) (xS s l) H Q
    | none=>Goes E fn rd dep (.inLoop b :: k) s H Q)
   | .exit id=>(match exitTo id k with
    | some k'=>wp E fn rd dep live cut Q n k' s H
    | none=>FA E.P fn rd (id+3) s H Q)
   | .rangeFunc g ps a b=>(match live (QS a b) with
    | some l=>QD E fn rd dep (.code (.rangeFunc g ps a b) :: k) (xS s l) H Q
    | none=>Goes E fn rd dep (.code (.rangeFunc g ps a b) :: k) s H Q)
   | .region id ops draw=>(match cut id with
    | true=>(match live id with
     | some l=>QD E fn rd dep (.code (.region id ops draw) :: k) (xS s l) H Q
     | none=>False)
    | false=>wpOps E fn.ntmps dep draw ops ops.toList s H fun s H =>
     (match draw,nR E ops with
     | true,p :: ps=>Oi E (p :: ps) ops s H∧wp E fn rd dep live cut Q n k s H
     | _,_=>wp E fn rd dep live cut Q n k s H))
   | _=>False)
  | .inLoop b :: k=>(match (ji b).bind live with
   | some l=>QD E fn rd dep (.inLoop b :: k) (xS s l) H Q
   | none=>Goes E fn rd dep (.inLoop b :: k) s H Q)
  | .inBlock _ :: k | .inScope _ :: k=>wp E fn rd dep live cut Q n k s H
  | _=>False
theorem oT{ops:Array Oper}{tm:List AV}{s:dH}(h:dV tm s)(o:Oper):wanted ops tm o=(match E7 ops s o with
 | none=>some true
 | some (some (x,want))=>QH x want
 | some none=>some false):=by
 unfold wanted E7
 split
 ·rename_i hg;rw[hg]
 ·rename_i j want hg
  rw[hg]
  dsimp only
  split
  ·rename_i t ht
   rw[ht]
   dsimp only
   rw[h t]
   rfl
  ·rename_i ht
   rw[ht]
theorem qO{nt:Nat}{s:dH}{dst:Option Tmp}{v:AV}{K:dH→Prop}(h:C9 nt s dst v K) : ∃s',K s' ∧∀tm,dV tm s →∃tm',dk nt tm dst v=some tm'∧dV tm' s':=by
 unfold C9 at h
 cases dst with
 | none=>exact⟨s,h,fun tm ht=>⟨tm,rfl,ht⟩⟩
 | some d =>
  dsimp only at h
  cases hd:Nat.blt d nt with
  | false=>rw[hd]at h;exact h.elim
  | true =>
   rw[hd]at h
   refine⟨_,h,fun tm ht=>⟨_,?_,ht.set d v⟩⟩
   have hlt:d<nt:=Nat.le_of_ble_eq_true hd
   simp only[dk,if_pos hlt]
theorem OT{E:Env}{nt dep:Nat}{draw:Bool}{ops:Array Oper}{o:Oper}{s:dH}{H:ab}{K:dH→ab→Prop}(h:wpOp E nt dep draw ops o s H K) :
 ∃s' H',K s' H' ∧∀tm,dV tm s →∃tm',dV tm' s' ∧∃n,∀m,n≤m→evalOp E (dp E (cm E m)) (eF E (cm E m) dep) nt dep draw ops o ⟨tm,H⟩=some ⟨tm',H'⟩:=by
 have run : ∀(v:AV)(H':ab)(s':dH),(∀tm,dV tm s→wanted ops tm o=some true)→(∃n,∀m,n≤m →∀tm,dV tm s→mY E (dp E (cm E m)) (eF E (cm E m) dep) dep draw tm H o=some (v,H')) →
  (∀tm,dV tm s →∃tm',dk nt tm o.dst v=some tm'∧dV tm' s') →
  ∀tm,dV tm s →∃tm',dV tm' s' ∧∃n,∀m,n≤m→evalOp E (dp E (cm E m)) (eF E (cm E m) dep) nt dep draw ops o ⟨tm,H⟩=some ⟨tm',H'⟩:=by
  intro v H' s' hw ⟨n,hn⟩ hp tm ht
  obtain⟨tm',h1,h2⟩:=hp tm ht
  refine⟨tm',h2,n,fun m hm=>?_⟩
  rw[Ch]
  dsimp only
  rw[hw tm ht,hn m hm tm ht]
  dsimp only
  rw[h1]
  rfl
 have skip : ∀(s':dH),(∀tm,dV tm s→wanted ops tm o=some false)→(∀tm,dV tm s →∃tm',dk nt tm o.dst AV.undef=some tm'∧dV tm' s') →
  ∀tm,dV tm s →∃tm',dV tm' s' ∧∃n,∀m,n≤m→evalOp E (dp E (cm E m)) (eF E (cm E m) dep) nt dep draw ops o ⟨tm,H⟩=some ⟨tm',H⟩:=by
  intro s' hw hp tm ht
  obtain⟨tm',h1,h2⟩:=hp tm ht
  refine⟨tm',h2,0,fun m _=>?_⟩
  rw[Ch]
  dsimp only
  rw[hw tm ht]
  dsimp only
  rw[h1]
  rfl
 unfold wpOp at h
 split at h
 ·rename_i q hq
  have evq : ∀v,q=some (v,[]) →∃n,∀m,n≤m →∀tm,dV tm s→mY E (dp E (cm E m)) (eF E (cm E m) dep) dep draw tm H o=some (v,H):=by
   intro v hv
   obtain⟨n,hn⟩:=D3.1 q v hq hv
   exact⟨n,fun m hm tm ht=>PU ht (hn m hm) rfl⟩
  split at h
  ·rename_i hg
   have hw : ∀tm,dV tm s→wanted ops tm o=some true:=fun tm ht=>by rw[oT ht,hg]
   have fromQ : ∀v,q=some (v,[])→C9 nt s o.dst v (fun s=>K s H) →∃s' H',K s' H' ∧∀tm,dV tm s →∃tm',dV tm' s' ∧∃n,∀m,n≤m→evalOp E (dp E (cm E m)) (eF E (cm E m) dep) nt dep draw ops o ⟨tm,H⟩=some ⟨tm',H'⟩:=by
    intro v hv hp
    obtain⟨s',hK,hp⟩:=qO hp
    exact⟨s',H,hK,run v H s' hw (evq v hv) hp⟩
   split at h
   ·rename_i x ho
    split at h
    ·rename_i v hv
     refine fromQ v ?_ h
     unfold sh at hq
     simp only[ho,Sum.inl.injEq,hv]at hq
     rw[←hq];rfl
    ·exact h.elim
   ·rename_i x ho
    split at h
    ·rename_i v hv
     refine fromQ v ?_ h
     unfold sh at hq
     simp only[ho,Sum.inl.injEq,hv]at hq
     rw[←hq];rfl
    ·exact h.elim
   ·obtain⟨v,hv,h⟩:=h.h
    exact fromQ v hv h
  ·rename_i x want hg
   replace h:=h.h
   unfold gd at h
   split at h
   ·rename_i hx
    obtain⟨v,hv,h⟩:=h.h
    obtain⟨s',hK,hp⟩:=qO h
    exact⟨s',H,hK,run v H s' (fun tm ht=>by rw[oT ht,hg];exact hx) (evq v hv) hp⟩
   ·rename_i hx
    obtain⟨s',hK,hp⟩:=qO h
    exact⟨s',H,hK,skip s' (fun tm ht=>by rw[oT ht,hg];exact hx) hp⟩
   ·exact h.elim
  ·rename_i hg
   obtain⟨s',hK,hp⟩:=qO h
   exact⟨s',H,hK,skip s' (fun tm ht=>by rw[oT ht,hg]) hp⟩
 ·rename_i w hw
  have evw : ∀v H',w=some (v,H') →∃n,∀m,n≤m →∀tm,dV tm s→mY E (dp E (cm E m)) (eF E (cm E m) dep) dep draw tm H o=some (v,H'):=by
   intro v H' hv
   obtain⟨n,hn⟩:=D3.2 w v H' hw hv
   exact⟨n,fun m hm tm ht=>PT ht (hn m hm) rfl⟩
  split at h
  ·rename_i hg
   obtain⟨v,H',hv,h⟩:=h.h
   obtain⟨s',hK,hp⟩:=qO h
   exact⟨s',H',hK,run v H' s' (fun tm ht=>by rw[oT ht,hg]) (evw v H' hv) hp⟩
  ·rename_i x want hg
   replace h:=h.h
   unfold gd at h
   split at h
   ·rename_i hx
    obtain⟨v,H',hv,h⟩:=h.h
    obtain⟨s',hK,hp⟩:=qO h
    exact⟨s',H',hK,run v H' s' (fun tm ht=>by rw[oT ht,hg];exact hx) (evw v H' hv) hp⟩
   ·rename_i hx
    obtain⟨s',hK,hp⟩:=qO h
    exact⟨s',H,hK,skip s' (fun tm ht=>by rw[oT ht,hg];exact hx) hp⟩
   ·exact h.elim
  ·rename_i hg
   obtain⟨s',hK,hp⟩:=qO h
   exact⟨s',H,hK,skip s' (fun tm ht=>by rw[oT ht,hg]) hp⟩
theorem Fz{E:Env}{nt dep:Nat}{draw:Bool}{ops:Array Oper}{K:dH→ab→Prop} : ∀ {l:List Oper} {s:dH} {H:ab},wpOps E nt dep draw ops l s H K →
 ∃s' H',K s' H' ∧∀tm,dV tm s →∃tm',dV tm' s' ∧∃n,∀m,n≤m→kR E (dp E (cm E m)) (eF E (cm E m) dep) nt dep draw ops l ⟨tm,H⟩=some ⟨tm',H'⟩:=by
 intro l
 induction l with
 | nil=>intro s H h;exact⟨s,H,h,fun tm ht=>⟨tm,ht,0,fun m _=>rfl⟩⟩
 | cons o l ih =>
  intro s H h
  obtain⟨s1,H1,h1,hn1⟩:=OT h
  obtain⟨s2,H2,h2,hn2⟩:=ih h1
  refine⟨s2,H2,h2,fun tm ht=>?_⟩
  obtain⟨tm1,t1,n1,e1⟩:=hn1 tm ht
  obtain⟨tm2,t2,n2,e2⟩:=hn2 tm1 t1
  exact⟨tm2,t2,max n1 n2,fun m hm=>by simp only[kR,e1 m (by omega),e2 m (by omega)]⟩
theorem LK{P:Program}{fn:Func}{s:dH}{H:ab}{Q:AV→ab→Prop} : ∀ {rs:List ResultVar} {acc:List AV},A1 P s H Q rs acc →
 ∃ys,Q (pack (acc.reverse++ys)) H ∧∀tm,dV tm s→rs.mapM (iz P ⟨tm,H⟩)=some ys:=by
 intro rs
 induction rs with
 | nil=>intro acc h;exact⟨[],by simpa [A1] using h,fun tm _=>rfl⟩
 | cons r rs ih =>
  intro acc h
  cases r with
  | tmp t =>
   obtain⟨ys,h1,h2⟩:=ih h
   refine⟨s t :: ys,by simpa using h1,fun tm ht=>?_⟩
   simp only[List.mapM_cons,iz,h2 tm ht,ht t,Option.pure_def,Option.bind_eq_bind,Option.bind_some]
  | cell a t =>
   obtain⟨v,hv,h⟩:=h.h
   obtain⟨ys,h1,h2⟩:=ih h
   refine⟨v :: ys,by simpa using h1,fun tm ht=>?_⟩
   have hr:iz P ⟨tm,H⟩ (.cell a t)=some v:=by
    unfold cR at hv
    simp only[iz,ht a]
    split at hv
    ·rename_i r i j g n h3 h4 h5
     rw[h3,h4,h5]
     dsimp only
     split at hv
     ·rename_i b hb
      rw[hb]
      dsimp only
      simp only[cf,Option.map_eq_some_iff]at hv
      obtain⟨z,hz,e⟩:=hv
      cases e
      exact hz
     ·cases hv
    ·cases hv
   simp only[List.mapM_cons,hr,h2 tm ht,Option.pure_def,Option.bind_eq_bind,Option.bind_some]
theorem Gf{E:Env}{fn:Func}{s:dH}{H:ab}{Q:AV→ab→Prop}(h:A1 E.P s H Q fn.results.toList []) : ∃y,Q y H ∧∀tm,dV tm s→pY E.P fn ⟨tm,H⟩=some y:=by
 obtain⟨ys,h1,h2⟩:=LK (fn:=fn) h
 refine⟨pack ys,by simpa using h1,fun tm ht=>?_⟩
 unfold pY
 rw[h2 tm ht]
 match ys with
 | []=>rfl
 | [x]=>rfl
 | x :: y :: zs=>rfl
theorem lM{E:Env}{fn:Func}{rd:Option Ref}{dep:Nat}{items items':List Item}{s:dH}{H:ab}{Q:AV→ab→Prop}
 (hs : ∀n tm,cm E (n+1) rd fn.ntmps dep items ⟨tm,H⟩=cm E n rd fn.ntmps dep items' ⟨tm,H⟩) (h:Goes E fn rd dep items' s H Q):Goes E fn rd dep items s H Q:=by
 intro tm ht
 obtain⟨y,H',hQ,n,hn⟩:=h tm ht
 refine⟨y,H',hQ,n+1,fun m hm=>?_⟩
 obtain⟨m,rfl⟩ : ∃m',m=m'+1:=⟨m - 1,by omega⟩
 rw[hs]
 exact hn m (by omega)
theorem Li{E:Env}{fn:Func}{rd:Option Ref}{dep:Nat}{b:Code}{k:List Item}{s:dH}{H:ab}{Q:AV→ab→Prop}(h:Goes E fn rd dep (.code b :: .inLoop b :: k) s H Q):Goes E fn rd dep (.inLoop b :: k) s H Q :=
 lM (fun n tm=>by simp only[cm]) h
theorem I0{E:Env}{fn:Func}{rd:Option Ref}{dep:Nat}{b:Code}{k:List Item}{s:dH}{H:ab}{Q:AV→ab→Prop}(h:Goes E fn rd dep (.inLoop b :: k) s H Q):Goes E fn rd dep (.code (.loop b) :: k) s H Q:=by
 intro tm ht
 obtain⟨y,H',hQ,n,hn⟩:=h tm ht
 refine⟨y,H',hQ,n+1,fun m hm=>?_⟩
 obtain⟨m,rfl⟩ : ∃m',m=m'+1:=⟨m - 1,by omega⟩
 have:=hn (m+1) (by omega)
 have e:cm E (m+1) rd fn.ntmps dep (.code (.loop b) :: k) ⟨tm,H⟩=cm E (m+1) rd fn.ntmps dep (.inLoop b :: k) ⟨tm,H⟩:=by simp only[cm]
 rw[e]
 exact this
theorem Ef{E:Env}{fn:Func}{rd:Option Ref}{dep:Nat}{items:List Item}{s:dH}{l:List Nat}{H:ab}{Q:AV→ab→Prop}(h:QD E fn rd dep items (xS s l) H Q):Goes E fn rd dep items s H Q:=by
 have:=h.h s
 rwa [Nc]at this
theorem Cc{E:Env}{fn:Func}{rd:Option Ref}{dep code:Nat}{items:List Item}{s:dH}{H:ab}{Q:AV→ab→Prop}
 (hs : ∀n tm,rd.isSome=true∨code≤2→cm E (n+1) rd fn.ntmps dep items ⟨tm,H⟩=(match rd with | none=>some ⟨tm,H⟩ | some r=>rJ (some r) ⟨tm,H⟩ code)) (h:FA E.P fn rd code s H Q):Goes E fn rd dep items s H Q:=by
 intro tm ht
 cases rd with
 | none =>
  unfold FA at h
  dsimp only at h
  cases hc:Nat.ble code 2 with
  | false=>rw[hc]at h;exact h.elim
  | true =>
   rw[hc]at h
   obtain⟨y,hQ,hr⟩:=Gf h
   refine⟨y,H,hQ,1,fun m hm=>?_⟩
   obtain⟨m,rfl⟩ : ∃m',m=m'+1:=⟨m - 1,by omega⟩
   exact⟨⟨tm,H⟩,hs m tm (.inr (Nat.le_of_ble_eq_true hc)),hr tm ht,rfl⟩
 | some r =>
  refine⟨.v (.int .i64 code),H,h,1,fun m hm=>?_⟩
  obtain⟨m,rfl⟩ : ∃m',m=m'+1:=⟨m - 1,by omega⟩
  exact⟨⟨tm,H⟩,code,hs m tm (.inl rfl),rfl,rfl⟩
theorem Ly{E:Env}{ops:Array Oper}{s:dH}{H:ab}{tm:List AV}(ht:dV tm s)(h:Oi E (nR E ops) ops s H):oR E ops ⟨tm,H⟩=true:=by
 unfold oR
 rw[Bool.or_eq_true,Bool.and_eq_true]
 refine .inr ⟨?_,?_⟩
 ·refine Eq.trans ?_ h.1
  congr 1
  funext p
  unfold z7 MG nA
  rw[ht,ht]
  rfl
 ·rw[Bool.and_eq_true]
  refine⟨Eq.trans ?_ h.2.1,Eq.trans ?_ h.2.2⟩
  ·congr 1
   funext o
   unfold sb Bq
   generalize o.op=op
   cases op<;>try rfl
   rename_i t a x
   cases a<;>try rfl
   rename_i t'
   dsimp only
   rw[ht t']
   rfl
  ·congr 1
   funext o
   unfold CC J8
   congr 1
   cases RL o.op with
   | none=>rfl
   | some t =>
    dsimp only
    rw[ht t]
    rfl
theorem aV{E:Env}{fn:Func}{rd:Option Ref}{dep:Nat}{live:Nat→Option (List Nat)}{cut:Nat→Bool}{Q:AV→ab→Prop} : ∀ {n:Nat} {items:List Item} {s:dH} {H:ab},
 wp E fn rd dep live cut Q n items s H→Goes E fn rd dep items s H Q:=by
 intro n
 induction n with
 | zero=>intro items s H h;exact h
 | succ n ih =>
  intro items s H h
  have told : ∀ {k:List Item} {x:Option (List Nat)},(match x with | some l=>QD E fn rd dep k (xS s l) H Q | none=>Goes E fn rd dep k s H Q)→Goes E fn rd dep k s H Q:=by
   intro k x h
   cases x with
   | some l=>exact Ef h
   | none=>exact h
  unfold wp at h
  split at h
  ·exact Cc (fun n tm _=>by cases rd<;>simp only[cm]) h
  ·rename_i k
   split at h
   ·exact h.elim
   ·rename_i r
    obtain⟨info,hl,h⟩:=h.h
    intro tm ht
    obtain⟨y,H',hQ,n,hn⟩:=ih h tm ht
    refine⟨y,H',hQ,n+1,fun m hm=>?_⟩
    obtain⟨m,rfl⟩ : ∃m',m=m'+1:=⟨m - 1,by omega⟩
    have:=hn m (by omega)
    have e:cm E (m+1) (some r) fn.ntmps dep (.beginRound :: k) ⟨tm,H⟩=cm E m (some r) fn.ntmps dep k ⟨tm,H.put r (some (iB 1 info))⟩:=by simp only[cm,hl]
    rw[e]
    exact this
  ·rename_i c k
   split at h
   ·exact lM (fun n tm=>by simp only[cm]) (ih h)
   ·exact lM (fun n tm=>by simp only[cm]) (ih h)
   ·exact Cc (fun n tm _=>by cases rd<;>simp[cm,rJ]) h
   ·exact lM (fun n tm=>by simp only[cm]) (ih h)
   ·rename_i c a b
    replace h:=h.h
    unfold brP at h
    split at h
    ·rename_i bb hb
     have hg:Goes E fn rd dep (.code (cond bb a b) :: k) s H Q:=by cases bb<;>exact ih h
     intro tm ht
     obtain⟨y,H',hQ,n,hn⟩:=hg tm ht
     refine⟨y,H',hQ,n+1,fun m hm=>?_⟩
     obtain⟨m,rfl⟩ : ∃m',m=m'+1:=⟨m - 1,by omega⟩
     have:=hn m (by omega)
     have e:cm E (m+1) rd fn.ntmps dep (.code (.cond c a b) :: k) ⟨tm,H⟩=cm E m rd fn.ntmps dep (.code (cond bb a b) :: k) ⟨tm,H⟩:=by
      simp only[cm,sw ht,hb]
      cases bb<;>rfl
     rw[e]
     exact this
    ·exact h.elim
   ·exact lM (fun n tm=>by simp only[cm]) (ih h)
   ·exact lM (fun n tm=>by simp only[cm]) (ih h)
   ·exact I0 (told h)
   ·rename_i id
    split at h
    ·rename_i k' hk
     exact lM (fun n tm=>by simp only[cm,hk]) (ih h)
    ·rename_i hk
     exact Cc (fun n tm hc=>by
      simp only[cm,hk]
      cases rd with
      | none =>
       rcases hc with hc | hc
       ·cases hc
       ·omega
      | some r=>rfl) h
   ·exact told h
   ·rename_i id ops draw
    split at h
    ·split at h
     ·exact Ef h
     ·exact h.elim
    ·obtain⟨s',H',h1,hn1⟩:=Fz h
     have h2:Goes E fn rd dep k s' H' Q ∧∀tm,dV tm s'→(draw && !oR E ops ⟨tm,H'⟩)=false:=by
      cases draw with
      | false=>exact⟨ih h1,fun _ _=>rfl⟩
      | true =>
       cases hp:nR E ops with
       | nil =>
        rw[hp]at h1
        refine⟨ih h1,fun tm ht=>?_⟩
        unfold oR
        rw[hp]
        rfl
       | cons p ps =>
        rw[hp]at h1
        exact⟨ih h1.2,fun tm ht=>by rw[Ly ht (by rw[hp];exact h1.1)];rfl⟩
     obtain⟨hg,hap⟩:=h2
     intro tm ht
     obtain⟨tm1,t1,n1,e1⟩:=hn1 tm ht
     obtain⟨y,H2,hQ,n2,hn2⟩:=hg tm1 t1
     refine⟨y,H2,hQ,max n1 n2+1,fun m hm=>?_⟩
     obtain⟨m,rfl⟩ : ∃m',m=m'+1:=⟨m - 1,by omega⟩
     have:=hn2 m (by omega)
     have e:cm E (m+1) rd fn.ntmps dep (.code (.region id ops draw) :: k) ⟨tm,H⟩=cm E m rd fn.ntmps dep k ⟨tm1,H'⟩:=by
      simp only[cm,e1 m (by omega),hap tm1 t1]
      simp
     rw[e]
     exact this
   ·exact h.elim
  ·exact told h
  ·exact lM (fun n tm=>by simp only[cm]) (ih h)
  ·exact lM (fun n tm=>by simp only[cm]) (ih h)
  ·exact h.elim
def ra:Nat→List AV→List (Nat × AV)
 | _,[]=>[]
 | i,x :: xs=>(i,x) :: ra (i+1) xs
theorem BL(args:List AV)(i:Nat):JK (fun _=>AV.undef) (ra 0 args) i=cO args i:=by
 have : ∀(j:Nat)(l:List AV),JK (fun _=>AV.undef) (ra j l) (j+i)=cO l i:=by
  induction i with
  | zero =>
   intro j l
   cases l with
   | nil=>rfl
   | cons x l =>
    show cond (Nat.beq (j+0) j) x _=x
    rw[show Nat.beq (j+0) j=true from by simp]
    rfl
  | succ i ih =>
   intro j l
   cases l with
   | nil=>rfl
   | cons x l =>
    show cond (Nat.beq (j+(i+1)) j) x (JK (fun _=>AV.undef) (ra (j+1) l) (j+(i+1)))=cO l i
    have e:Nat.beq (j+(i+1)) j=false:=by
     cases h:Nat.beq (j+(i+1)) j with
     | false=>rfl
     | true=>have:=Nat.eq_of_beq_eq_true h;omega
    rw[e]
    show JK _ _ _=_
    rw[←ih (j+1) l,show j+1+i=j+(i+1) by omega]
 simpa using this 0 args
def handed(E:Env)(f:FuncId)(x:AV)(H:ab)(y:AV):Prop :=
 if uO (E.mode f)=true then (aG H.get depth x).Nodup∧dK H.get depth x=some y else view H.get depth x=some y
theorem aL{E:Env}{f:FuncId}{fn:Func}{c:Code}{args:List AV}{y:AV}(hsp:E.spec f args=none)(hal:E.allowed f=true)(hf:E.P.funcs[f]?=some fn)(hc:fn.body=some c)(hl:Nat.ble args.length fn.ntmps=true)
 (h:bP E fn 0 [.code c] (ra 0 args) [] fun x H=>handed E f x H y):bj E f args=some y:=by
 rw[vI]
 obtain⟨x,H,hQ,n,hn⟩:=h.h (fun _=>AV.undef) args fun i=>(BL args i).symm
 refine⟨n,fun m hm=>?_⟩
 obtain⟨st,h1,h2,h3⟩:=hn m hm
 subst h3
 unfold dp
 rw[hsp]
 unfold qc
 simp only[hal,if_true,hf,hc,if_pos (Nat.le_of_ble_eq_true hl),h1,h2,Option.map_some]
 unfold handed at hQ
 split
 ·rename_i h1
  rw[if_pos h1]at hQ
  rw[if_pos hQ.1]
  exact hQ.2
 ·rename_i h1
  rw[if_neg h1]at hQ
  exact hQ
theorem mv{E:Env}{f:FuncId}{fn:Func}{c:Code}{dep:Nat}{args:List AV}{H:ab}{Q:AV→ab→Prop}(hm:E.mode f=2)(hal:E.allowed f=true)(hf:E.P.funcs[f]?=some fn)(hc:fn.body=some c)(hl:Nat.ble args.length fn.ntmps=true)
 (h:bP E fn (dep+1) [.code c] (ra 0 args) H Q) (hsp:E.thrSpec f args H=none:=by rfl) : ∃y H',bU E dep (.fn f) args H=some (y,H')∧Q y H':=by
 obtain⟨x,H1,hQ,n,hn⟩:=h.h (fun _=>AV.undef) args fun i=>(BL args i).symm
 refine⟨x,H1,qS.2 ⟨n,fun m hm'=>?_⟩,hQ⟩
 obtain⟨st,h1,h2,h3⟩:=hn m hm'
 unfold eF
 dsimp only
 rw[hsp]
 dsimp only
 rw[if_pos hm]
 unfold qc
 simp only[hal,if_true,hf,hc,if_pos (Nat.le_of_ble_eq_true hl),h1,h2,Option.map_some,h3]
theorem Nz{E:Env}{fn:Func}{dep nt:Nat}{r:Ref}{f:FuncId}{ps:List Tmp}{assign body:Code}{tm:List AV}{args:List AV}{H:ab}{Q:AV→ab→Prop}
 (hl:te H r=some (0,.lp f nt ps assign body tm)) (hn:fn.ntmps=nt) (hp:args.length=ps.length) (hps:ps.all (· < nt)=true) (ha:codeOk E.ok assign=true) (hb:codeOk E.ok body=true)
 (h:Goes E fn (some r) (dep+1) [.code assign,.beginRound,.code body] (cO (rF tm ps args)) H fun x H' =>∃code:Nat,x = .v (.int .i64 code) ∧∃info H2,te H' r=some (1,info)∧H2=H'.put r (some (iB code info)) ∧
  te H2 r=some (code,info)∧(code=0→Q (.v (.bool true)) H2)∧(2≤code→Q (.v (.bool false)) H2)∧code≠1) :
 ∃y H',bU E dep (.yld r) args H=some (y,H')∧Q y H':=by
 obtain⟨x,H1,⟨code,rfl,info,H2,h1,rfl,h2,hq0,hq2,hne⟩,n,hn'⟩:=h (rF tm ps args) (fun i=>rfl)
 have key : ∀m,n≤m→vD E (cm E m) (dep+1) r args H=some (.v (.bool (code == 0)),H1.put r (some (iB code info))):=by
  intro m hm
  obtain⟨st,k,e1,e2,e3⟩:=hn' m hm
  injection e2 with e2
  injection e2 with e2 e4
  have e4:code=k:=by exact_mod_cast e4
  subst e4
  subst hn
  unfold vD
  rw[hl]
  simp only
  rw[if_pos ⟨hp,hps,ha,hb⟩,e1]
  unfold rJ
  simp only[e3,h1,h2]
  match code with
  | 0=>rfl
  | 1=>exact(hne rfl).elim
  | k+2=>rfl
 have WZ : ∀m,n≤m→eF E (cm E m) dep (.yld r) args H=some (.v (.bool (code == 0)),H1.put r (some (iB code info))):=key
 refine⟨_,_,qS.2 ⟨n,WZ⟩,?_⟩
 match code with
 | 0=>exact hq0 rfl
 | 1=>exact(hne rfl).elim
 | k+2=>exact hq2 (by omega)
theorem IZ{E:Env}{fn:Func}{dep:Nat}{g:Operand}{ps:Array Tmp}{assign body:Code}{k:List Item}{s:dH}{H:ab}{Q:AV→ab→Prop}{gi:FuncId}{first captured:List AV}
 (hg:cE s g=some (.fn (.func gi) first captured))
 (h : ∀tm,dV tm s →∃v Hx st info,bU E dep (.fn gi) (first++[.yld ⟨dep,fn.ntmps,H.gen dep fn.ntmps,0⟩]++captured) ((⟨dep,fn.ntmps,H.gen dep fn.ntmps,0⟩,some (iB 0 (.lp 0 fn.ntmps ps.toList assign body tm))) :: H)=some (v,Hx) ∧
  te Hx ⟨dep,fn.ntmps,H.gen dep fn.ntmps,0⟩=some (st,info) ∧
  (
   (st=0∧Goes E fn none dep k s (Hx.put ⟨dep,fn.ntmps,H.gen dep fn.ntmps,0⟩ none) Q) ∨
   (st=2∧A1 E.P s (Hx.put ⟨dep,fn.ntmps,H.gen dep fn.ntmps,0⟩ none) Q fn.results.toList []) ∨
   (∃id k',st=id+3∧exitTo id k=some k'∧Goes E fn none dep k' s (Hx.put ⟨dep,fn.ntmps,H.gen dep fn.ntmps,0⟩ none) Q))) :
 Goes E fn none dep (.code (.rangeFunc g ps assign body) :: k) s H Q:=by
 intro tm ht
 obtain⟨v,Hx,st,info,h1,h2,h3⟩:=h tm ht
 obtain⟨n1,hn1⟩:=qS.1 h1
 have hg':aZ tm g=some (.fn (.func gi) first captured):=by rw[sw ht];exact hg
 rcases h3 with ⟨rfl,hk⟩ | ⟨rfl,hk⟩ | ⟨id,k',rfl,he,hk⟩
 ·obtain⟨y,H',hQ,n2,hn2⟩:=hk tm ht
  refine⟨y,H',hQ,max n1 n2+1,fun m hm=>?_⟩
  obtain⟨m,rfl⟩ : ∃m',m=m'+1:=⟨m - 1,by omega⟩
  have e:cm E (m+1) none fn.ntmps dep (.code (.rangeFunc g ps assign body) :: k) ⟨tm,H⟩=cm E m none fn.ntmps dep k ⟨tm,Hx.put ⟨dep,fn.ntmps,H.gen dep fn.ntmps,0⟩ none⟩:=by
   simp only[cm,hg',hn1 m (by omega),h2]
  rw[e]
  exact hn2 m (by omega)
 ·obtain⟨y,hQ,hr⟩:=Gf hk
  refine⟨y,_,hQ,n1+1,fun m hm=>?_⟩
  obtain⟨m,rfl⟩ : ∃m',m=m'+1:=⟨m - 1,by omega⟩
  have e:cm E (m+1) none fn.ntmps dep (.code (.rangeFunc g ps assign body) :: k) ⟨tm,H⟩=some ⟨tm,Hx.put ⟨dep,fn.ntmps,H.gen dep fn.ntmps,0⟩ none⟩:=by
   simp only[cm,hg',hn1 m (by omega),h2]
  rw[e]
  exact⟨_,rfl,hr tm ht,rfl⟩
 ·obtain⟨y,H',hQ,n2,hn2⟩:=hk tm ht
  refine⟨y,H',hQ,max n1 n2+1,fun m hm=>?_⟩
  obtain⟨m,rfl⟩ : ∃m',m=m'+1:=⟨m - 1,by omega⟩
  have e:cm E (m+1) none fn.ntmps dep (.code (.rangeFunc g ps assign body) :: k) ⟨tm,H⟩=cm E m none fn.ntmps dep k' ⟨tm,Hx.put ⟨dep,fn.ntmps,H.gen dep fn.ntmps,0⟩ none⟩:=by
   simp only[cm,hg',hn1 m (by omega),h2,he]
  rw[e]
  exact hn2 m (by omega)
theorem NA{E:Env}{f:FuncId}{args:List AV}{y:AV}(h:bj E f args=some y) : ∃n,dp E (cm E n) f args=some y:=by
 obtain⟨n,hn⟩:=vI.1 h
 exact⟨n,hn n (Nat.le_refl _)⟩
def bY(r:Nat):Nat→List Item→Option (List Item)
 | 0,_=>none
 | n+1,items =>
  match items with
  | .code c :: k=>(match c with
   | .seq a b=>bY r n (.code a :: .code b :: k)
   | .cond _ a b=>(match bY r n (.code a :: k) with
    | some l=>some l
    | none=>bY r n (.code b :: k))
   | .block id b=>bY r n (.code b :: .inBlock id :: k)
   | .scope b=>bY r n (.code b :: .inScope b :: k)
   | .loop b=>(match ji b with
    | some i=>cond (Nat.beq i r) (some (.inLoop b :: k)) (bY r n (.code b :: .inLoop b :: k))
    | none=>none)
   | .exit id=>(match exitTo id k with
    | some k'=>bY r n k'
    | none=>none)
   | .skip | .label _ | .region _ _ _=>bY r n k
   | _=>none)
  | .inBlock _ :: k | .inScope _ :: k=>bY r n k
  | _=>none
def nJ(r:Nat):Nat→List Item→Option (List Item)
 | 0,_=>none
 | n+1,items =>
  match items with
  | .code c :: k=>(match c with
   | .seq a b=>nJ r n (.code a :: .code b :: k)
   | .cond _ a b=>(match nJ r n (.code a :: k) with
    | some l=>some l
    | none=>nJ r n (.code b :: k))
   | .block id b=>nJ r n (.code b :: .inBlock id :: k)
   | .scope b=>nJ r n (.code b :: .inScope b :: k)
   | .loop b=>nJ r n (.code b :: .inLoop b :: k)
   | .exit id=>(match exitTo id k with
    | some k'=>nJ r n k'
    | none=>none)
   | .region i ops draw=>cond (Nat.beq i r) (some items) (nJ r n k)
   | .skip | .label _=>nJ r n k
   | _=>none)
  | .inBlock _ :: k | .inScope _ :: k=>nJ r n k
  | _=>none
def jJ(r:Nat):Nat→List Item→Option (List Item)
 | 0,_=>none
 | n+1,items =>
  match items with
  | .code c :: k=>(match c with
   | .seq a b=>jJ r n (.code a :: .code b :: k)
   | .cond _ a b=>(match jJ r n (.code a :: k) with
    | some l=>some l
    | none=>jJ r n (.code b :: k))
   | .block id b=>jJ r n (.code b :: .inBlock id :: k)
   | .scope b=>jJ r n (.code b :: .inScope b :: k)
   | .loop b=>jJ r n (.code b :: .inLoop b :: k)
   | .exit id=>(match exitTo id k with
    | some k'=>jJ r n k'
    | none=>none)
   | .rangeFunc _ _ a b=>cond (Nat.beq (QS a b) r) (some items) (jJ r n k)
   | .skip | .label _ | .region _ _ _=>jJ r n k
   | _=>none)
  | .inBlock _ :: k | .inScope _ :: k=>jJ r n k
  | _=>none
def rfA:List Item→Code
 | .code (.rangeFunc _ _ a _) :: _=>a
 | _ => .skip
def rfB:List Item→Code
 | .code (.rangeFunc _ _ _ b) :: _=>b
 | _ => .skip
def rfK:List Item→List Item
 | _ :: k=>k
 | []=>[]
def N9:List Item→List Item
 | .inLoop b :: k => .code b :: .inLoop b :: k
 | l=>l
theorem cU{E:Env}{fn:Func}{rd:Option Ref}{dep:Nat}{items:List Item}{l:List (Nat × AV)}{H:ab}{Q:AV→ab→Prop}(h : ∀g,Goes E fn rd dep (N9 items) (JK g l) H Q):QD E fn rd dep items l H Q:=by
 refine⟨fun g=>?_⟩
 have:=h g
 unfold N9 at this
 split at this
 ·exact Li this
 ·exact this
def oi(x:AV):Option (Option Int):=match intOf x with
 | some n=>some (some n)
 | none=>none
end Go.Ab
namespace Go.Ab
def Ot(pc pc':FuncId→List AV→Option AV):Prop :=∀f xs y,pc f xs=some y→pc' f xs=some y
def QC(tc tc':rW→List AV→ab→dy):Prop :=∀f xs H y,tc f xs H=some y→tc' f xs H=some y
theorem Iw{E:Env}{pc pc':FuncId→List AV→Option AV}(hp:Ot pc pc'){g:de}{r:Ref}{f:Option AV}{args:List AV}{z:AV × List bM}(h:ij E pc g r f args=some z):ij E pc' g r f args=some z:=by
 unfold ij at h ⊢
 split at h
 ·split at h
  ·cases h
  ·rename_i hm
   rw[if_neg hm]
   split at h
   ·rename_i xs hx
    split at h
    ·rename_i y hy
     rw[hp _ _ _ hy]
     exact h
    ·cases h
   ·cases h
 ·cases h
theorem MQ{E:Env}{pc pc':FuncId→List AV→Option AV}{tc tc':rW→List AV→ab→dy}(hp:Ot pc pc')(ht:QC tc tc'){H:ab}{r:Ref}{f:Option AV}{args:List AV} :
 (ij E pc H.get r f args=none →∀z,kE E pc tc H r f args=some z→kE E pc' tc' H r f args=some z∧ij E pc' H.get r f args=none):=by
 intro h0 z h
 unfold ij at h0 ⊢
 unfold kE at h ⊢
 split at h
 ·rename_i fi first captured
  dsimp only at h0 ⊢
  split at h
  ·rename_i hm
   rw[if_pos hm,if_pos hm]
   exact⟨ht _ _ _ _ h,rfl⟩
  ·rename_i hm
   rw[if_neg hm]at h0
   rw[if_neg hm,if_neg hm]
   split at h
   ·rename_i xs hx
    try rw[hx]at h0
    dsimp only at h0 ⊢
    simp only[Option.map_eq_some_iff]at h
    obtain⟨y,hy,h⟩:=h
    rw[hy]at h0
    rw[hp _ _ _ hy]
    exact⟨by rw[Option.map_some,h],h0⟩
   ·cases h
 ·exact⟨ht _ _ _ _ h,rfl⟩
 ·cases h
theorem I4{E:Env}{pc pc':FuncId→List AV→Option AV}{tc tc':rW→List AV→ab→dy}(hp:Ot pc pc')(ht:QC tc tc'){dep:Nat}{draw:Bool}{tm:List AV}{H:ab}{o:Oper}{z:AV × ab}
 (h:mY E pc tc dep draw tm H o=some z):mY E pc' tc' dep draw tm H o=some z:=by
 by_cases hc : ∃c f args,o.op = .call c∧c.args.toList.mapM (aZ tm)=some args∧c.callee = .value f
 ·obtain⟨c,f,args,ho,ha,hf⟩:=hc
  unfold mY cr evalW at h ⊢
  simp only[ho,ha,hf]at h ⊢
  cases hov:z9 E.pz draw f with
  | some t =>
   rw[hov]at h
   dsimp only at h ⊢
   cases hO:Gk E.P H.get t args with
   | some p=>rw[hO]at h;exact h
   | none =>
    rw[hO]at h
    dsimp only at h ⊢
    split at h
    ·cases h
    ·rename_i hd
     rw[if_neg hd]
     have hfd : ∃g,f = .func g:=by unfold z9 at hov;split at hov<;>simp_all
     obtain⟨g,rfl⟩:=hfd
     simp only[aZ,kE]at h ⊢
     by_cases hm:E.mode g=2
     ·rw[if_pos hm]at h ⊢
      cases hw:tc (.fn g) ([]++args++[]) H with
      | none=>rw[hw]at h;unfold mV at h;split at h<;>(try split at h)<;>simp_all
      | some z'=>rw[hw]at h;rw[ht _ _ _ _ hw];exact h
     ·rw[if_neg hm]at h ⊢
      cases hx:([]++args++[]:List AV).mapM (view H.get depth) with
      | none=>rw[hx]at h;exact h
      | some xs =>
       rw[hx]at h
       dsimp only at h ⊢
       cases hy:pc g xs with
       | none=>rw[hy]at h;unfold mV at h;split at h<;>(try split at h)<;>simp_all
       | some y=>rw[hy]at h;rw[hp _ _ _ hy];exact h
  | none =>
  rw[hov]at h
  dsimp only at h ⊢
  cases hq:ij E pc H.get ⟨dep,o.dst.getD 0,H.gen dep (o.dst.getD 0),0⟩ (aZ tm f) args with
  | some p =>
   rw[hq]at h
   rw[Iw hp hq]
   exact h
  | none =>
   rw[hq]at h
   simp only[Option.map_none]at h
   split at h
   ·cases h
   ·rename_i hd
    cases hw:kE E pc tc H ⟨dep,o.dst.getD 0,H.gen dep (o.dst.getD 0),0⟩ (aZ tm f) args with
    | none =>
     rw[hw]at h
     unfold mV at h
     split at h
     ·rename_i e;cases e
     ·cases h
    | some z' =>
     obtain⟨h1,h2⟩:=MQ hp ht hq _ hw
     rw[h2,h1]
     rw[hw]at h
     simp only[Option.map_none,if_neg hd]
     exact h
 ·have:mY E pc tc dep draw tm H o=mY E pc' tc' dep draw tm H o:=by
   have hq:cr E pc draw H.get tm ⟨dep,o.dst.getD 0,H.gen dep (o.dst.getD 0),0⟩ o=cr E pc' draw H.get tm ⟨dep,o.dst.getD 0,H.gen dep (o.dst.getD 0),0⟩ o:=by
    cases ho:o.op<;>simp only[cr,ho]
    case makeMap a b=>cases b<;>rfl
    rename_i c
    cases ha:c.args.toList.mapM (aZ tm) with
    | none=>rfl
    | some args =>
     cases hf:c.callee with
     | value f=>exact(hc ⟨c,f,args,ho,ha,hf⟩).elim
     | invoke _ _=>rfl
     | builtin b=>rfl
   have hw:evalW E pc tc H tm ⟨dep,o.dst.getD 0,H.gen dep (o.dst.getD 0),0⟩ o=evalW E pc' tc' H tm ⟨dep,o.dst.getD 0,H.gen dep (o.dst.getD 0),0⟩ o:=by
    cases ho:o.op<;>simp only[evalW,ho]
    rename_i c
    cases ha:c.args.toList.mapM (aZ tm) with
    | none=>rfl
    | some args =>
     cases hf:c.callee with
     | value f=>exact(hc ⟨c,f,args,ho,ha,hf⟩).elim
     | invoke _ _=>rfl
     | builtin b=>rfl
   unfold mY
   rw[hq,hw]
  rw[←this]
  exact h
theorem Gc{E:Env}{pc pc':FuncId→List AV→Option AV}{tc tc':rW→List AV→ab→dy}(hp:Ot pc pc')(ht:QC tc tc'){nt dep:Nat}{draw:Bool}{ops:Array Oper} : ∀ {l:List Oper} {st st':St},
 kR E pc tc nt dep draw ops l st=some st'→kR E pc' tc' nt dep draw ops l st=some st':=by
 intro l
 induction l with
 | nil=>intro st st' h;exact h
 | cons o l ih =>
  intro st st' h
  unfold kR at h ⊢
  cases ho:evalOp E pc tc nt dep draw ops o st with
  | none=>rw[ho]at h;cases h
  | some st1 =>
   rw[ho]at h
   have:evalOp E pc' tc' nt dep draw ops o st=some st1:=by
    rw[Ch]at ho ⊢
    cases hw:wanted ops st.tm o with
    | none=>rw[hw]at ho;cases ho
    | some b =>
     rw[hw]at ho
     cases b with
     | false=>exact ho
     | true =>
      dsimp only at ho ⊢
      cases hc:mY E pc tc dep draw st.tm st.hp o with
      | none=>rw[hc]at ho;cases ho
      | some z=>rw[hc]at ho;rw[I4 hp ht hc];exact ho
   rw[this]
   exact ih h
theorem Aj{E:Env}{run run':Option Ref→Nat→Nat→List Item→St→Option St}(hr : ∀rd nt dep items st st',run rd nt dep items st=some st'→run' rd nt dep items st=some st'){dep:Nat}{f:FuncId}{args:List AV}{H:ab}{z:AV × ab}
 (h:qc E run dep f args H=some z):qc E run' dep f args H=some z:=by
 unfold qc at h ⊢
 split at h
 ·rename_i ha
  rw[if_pos ha]
  cases hf:E.P.funcs[f]? with
  | none=>rw[hf]at h;cases h
  | some fn =>
   rw[hf]at h
   dsimp only at h ⊢
   cases hb:fn.body with
   | none=>rw[hb]at h;cases h
   | some c =>
    rw[hb]at h
    dsimp only at h ⊢
    split at h
    ·rename_i hl
     rw[if_pos hl]
     cases hx:run none fn.ntmps dep [.code c] ⟨args,H⟩ with
     | none=>rw[hx]at h;cases h
     | some st=>rw[hx]at h;rw[hr _ _ _ _ _ _ hx];exact h
    ·cases h
 ·cases h
theorem wa{E:Env}{run run':Option Ref→Nat→Nat→List Item→St→Option St}(hr : ∀rd nt dep items st st',run rd nt dep items st=some st'→run' rd nt dep items st=some st'):Ot (dp E run) (dp E run'):=by
 intro f xs y h
 unfold dp at h ⊢
 cases hs:E.spec f xs with
 | some s=>rw[hs]at h;exact h
 | none =>
  rw[hs]at h
  dsimp only at h ⊢
  cases hc:qc E run 0 f xs [] with
  | none=>rw[hc]at h;cases h
  | some z=>rw[hc]at h;rw[Aj hr hc];exact h
theorem xF{E:Env}{run run':Option Ref→Nat→Nat→List Item→St→Option St}(hr : ∀rd nt dep items st st',run rd nt dep items st=some st'→run' rd nt dep items st=some st')(dep:Nat):QC (eF E run dep) (eF E run' dep):=by
 intro f xs H y h
 unfold eF at h ⊢
 cases f with
 | fn f =>
  dsimp only at h ⊢
  cases hs:E.thrSpec f xs H with
  | some s=>rw[hs]at h;exact h
  | none =>
  rw[hs]at h
  dsimp only at h ⊢
  split at h
  ·rename_i hm;rw[if_pos hm];exact Aj hr h
  ·cases h
 | yld r =>
  dsimp only at h ⊢
  unfold vD at h ⊢
  split at h
  ·rename_i f nt ps assign body tm hl
   split at h
   ·rename_i hc
    rw[if_pos hc]
    cases hx:run (some r) nt (dep+1) [.code assign,.beginRound,.code body] ⟨rF tm ps xs,H⟩ with
    | none=>rw[hx]at h;cases h
    | some st=>rw[hx]at h;rw[hr _ _ _ _ _ _ hx];exact h
   ·cases h
  ·cases h
theorem KD{E:Env} : ∀(n:Nat)(rd:Option Ref)(nt dep:Nat)(items:List Item)(st st':St),cm E n rd nt dep items st=some st'→cm E (n+1) rd nt dep items st=some st':=by
 intro n
 induction n with
 | zero=>intro rd nt dep items st st' h;simp[cm]at h
 | succ n ih =>
  intro rd nt dep items st st' h
  unfold cm at h ⊢
  split at h
  ·exact h
  ·split at h
   ·exact h
   ·rename_i r
    split at h
    ·exact ih _ _ _ _ _ _ h
    ·cases h
  ·split at h
   all_goals try exact h
   all_goals try exact ih _ _ _ _ _ _ h
   ·rename_i c a b
    split at h
    ·exact ih _ _ _ _ _ _ h
    ·exact ih _ _ _ _ _ _ h
    ·cases h
   ·split at h
    ·exact ih _ _ _ _ _ _ h
    ·exact h
   ·rename_i ops draw
    cases hx:kR E (dp E (cm E n)) (eF E (cm E n) dep) nt dep draw ops ops.toList st with
    | none=>rw[hx]at h;cases h
    | some st1 =>
     rw[hx]at h
     rw[Gc (wa ih) (xF ih dep) hx]
     dsimp only at h ⊢
     split at h
     ·cases h
     ·rename_i hd
      rw[if_neg hd]
      exact ih _ _ _ _ _ _ h
   ·split at h
    ·split at h
     ·rename_i x H' hx
      rw[xF ih dep _ _ _ _ hx]
      dsimp only
      split at h
      ·exact ih _ _ _ _ _ _ h
      ·exact h
      ·split at h
       ·exact ih _ _ _ _ _ _ h
       ·cases h
      ·cases h
     ·cases h
    ·cases h
  all_goals try exact ih _ _ _ _ _ _ h
  all_goals cases h
theorem Pw{E:Env}{n m:Nat}(hm:n≤m){rd:Option Ref}{nt dep:Nat}{items:List Item}{st st':St}(h:cm E n rd nt dep items st=some st'):cm E m rd nt dep items st=some st':=by
 induction hm with
 | refl=>exact h
 | step _ ih=>exact KD _ _ _ _ _ _ _ ih
theorem Ac{E:Env}{n:Nat}{f:FuncId}{args:List AV}{y:AV}(h:dp E (cm E n) f args=some y):bj E f args=some y :=
 vI.2 ⟨n,fun _ hm=>wa (fun _ _ _ _ _ _ h=>Pw hm h) _ _ _ h⟩
end Go.Ab
namespace Go.Ab
abbrev aI(n:Int):AV := .v (.int .i64 n)
abbrev aB(b:Bool):AV := .v (.bool b)
def a8(n:UInt8):AV := .v (.int .u8 (n.toNat:Int))
def aF(n:UInt32):AV := .v (.int .u32 (n.toNat:Int))
abbrev aS(s:ByteArray):AV := .v (.string s)
abbrev cW:AV := .v (.slice none 0 0)
theorem Tq{q:gz}{K:AV→Prop}{m:Mk K}{v:AV}(hq:q=some (v,[]))(h:K v):ak q K m:=⟨v,hq,h⟩
theorem qa{w:dy}{K:AV→ab→Prop}{m:Mk K}{v:AV}{H:ab}(hw:w=some (v,H))(h:K v H):aO w K m:=⟨v,H,hw,h⟩
@[simp] theorem XD(v:AV)(K:AV→Prop)(m:Mk K):ak (some (v,[])) K m↔K v :=
 ⟨fun⟨⟨w,hw,h⟩⟩=>by cases hw;exact h,fun h=>⟨v,rfl,h⟩⟩
@[simp] theorem Z8(c:Prop)[Decidable c](q:gz)(K:AV→Prop)(m:Mk K):ak (if c then q else none) K m↔c∧ak q K m:=by
 by_cases hc:c
 ·simp[hc]
 ·simp only[if_neg hc,hc,false_and,iff_false]
  rintro⟨v,hv,_⟩;cases hv
@[simp] theorem XC(v:AV)(H:ab)(K:AV→ab→Prop)(m:Mk K):aO (some (v,H)) K m↔K v H :=
 ⟨fun⟨⟨w,_,hw,h⟩⟩=>by cases hw;exact h,fun h=>⟨v,H,rfl,h⟩⟩
theorem J9{x:Option AV}{A B:Prop}{m:Mk (A,B)}:br x A B m↔brP x A B:=⟨fun h=>h.h,fun h=>⟨h⟩⟩
@[simp] theorem Zt(A B:Prop)(m:Mk (A,B)):br (some (aB true)) A B m↔A:=J9
@[simp] theorem XH(A B:Prop)(m:Mk (A,B)):br (some (aB false)) A B m↔B:=J9
theorem k5{b:Bool}{A B:Prop}{m:Mk (A,B)}(h1:b=true→A)(h2:b=false→B):br (some (aB b)) A B m:=by
 cases b
 ·exact⟨h2 rfl⟩
 ·exact⟨h1 rfl⟩
theorem Tx{p:Prop}[Decidable p]{A B:Prop}{m:Mk (A,B)}(h1:p→A)(h2 : ¬p→B):br (some (aB (decide p))) A B m :=
 k5 (fun h=>h1 (of_decide_eq_true h)) (fun h=>h2 (of_decide_eq_false h))
@[simp] theorem Xg(q:gz)(K:AV→Prop)(m:Mk (q,K)):gQ (aB true) true q K m↔ak q K:=⟨fun h=>h.h,fun h=>⟨h⟩⟩
@[simp] theorem Xj(q:gz)(K:AV→Prop)(m:Mk (q,K)):gQ (aB false) false q K m↔ak q K:=⟨fun h=>h.h,fun h=>⟨h⟩⟩
@[simp] theorem Xh(q:gz)(K:AV→Prop)(m:Mk (q,K)):gQ (aB true) false q K m↔K AV.undef:=⟨fun h=>h.h,fun h=>⟨h⟩⟩
@[simp] theorem Xi(q:gz)(K:AV→Prop)(m:Mk (q,K)):gQ (aB false) true q K m↔K AV.undef:=⟨fun h=>h.h,fun h=>⟨h⟩⟩
@[simp] theorem aa1(w:Bool)(q:gz)(K:AV→Prop)(m:Mk (q,K)):gQ AV.undef w q K m↔K AV.undef:=⟨fun h=>h.h,fun h=>⟨h⟩⟩
@[simp] theorem Xc(H:ab)(q:dy)(K:AV→ab→Prop)(m:Mk (q,K)):gW (aB true) true H q K m↔aO q K:=⟨fun h=>h.h,fun h=>⟨h⟩⟩
@[simp] theorem Xf(H:ab)(q:dy)(K:AV→ab→Prop)(m:Mk (q,K)):gW (aB false) false H q K m↔aO q K:=⟨fun h=>h.h,fun h=>⟨h⟩⟩
@[simp] theorem Xd(H:ab)(q:dy)(K:AV→ab→Prop)(m:Mk (q,K)):gW (aB true) false H q K m↔K AV.undef H:=⟨fun h=>h.h,fun h=>⟨h⟩⟩
@[simp] theorem Xe(H:ab)(q:dy)(K:AV→ab→Prop)(m:Mk (q,K)):gW (aB false) true H q K m↔K AV.undef H:=⟨fun h=>h.h,fun h=>⟨h⟩⟩
@[simp] theorem aa0(w:Bool)(H:ab)(q:dy)(K:AV→ab→Prop)(m:Mk (q,K)):gW AV.undef w H q K m↔K AV.undef H:=⟨fun h=>h.h,fun h=>⟨h⟩⟩
@[simp] theorem Ug(v:AV):cf (some v)=some (v,[]):=id rfl
@[simp] theorem UE(H:ab)(r:Ref)(v:AV)(bs:List bM):bl H r (some (v,bs))=some (v,keyed r 0 bs H):=id rfl
@[simp] theorem D6(H:ab)(r:Ref):bl H r none=none:=id rfl
@[simp] theorem SN(r:Ref)(k:Nat)(H:ab):keyed r k [] H=H:=id rfl
@[simp] theorem SO(r:Ref)(k:Nat)(b:bM)(bs:List bM)(H:ab):keyed r k (b :: bs) H=keyed r (k+1) bs (({ r with k:=k},some b) :: H):=id rfl
@[simp] theorem WA(wk:Bool)(x:AV × ab)(b:dy):AA wk (some x) b=some x:=id rfl
@[simp] theorem Gv(b:dy):AA true none b=b:=id rfl
@[simp] theorem Sw(a b:Option AV):bp (some (aB true)) a b=cf a:=id rfl
@[simp] theorem QU(a b:Option AV):bp (some (aB false)) a b=cf b:=id rfl
@[simp] theorem ZS(k:IntKind)(n:Int):oi (.v (.int k n))=some (some n):=id rfl
@[simp] theorem Vc(cs:List AV):(AV.agg cs).cells=cs:=id rfl
@[simp] theorem Zn(x:Value):(AV.v x).cells=[.v x]:=id rfl
@[simp] theorem Zo(x:UInt8):(a8 x).cells=[a8 x]:=id rfl
@[simp] theorem XF(x:UInt32):(aF x).cells=[aF x]:=id rfl
@[simp] theorem Vb(z:Nat)(es:List AV)(c:Option Nat):(AV.cw z es c).cells=[.cw z es c]:=id rfl
@[simp] theorem Va(r:Ref)(o n:Nat)(c:Option Nat):(AV.cH r o n c).cells=[.cH r o n c]:=id rfl
@[simp] theorem U9(r:Ref)(i j:Nat):(AV.ptr r i j).cells=[.ptr r i j]:=id rfl
@[simp] theorem XE(f:Fn)(a b:List AV):(AV.fn f a b).cells=[.fn f a b]:=id rfl
@[simp] theorem YR(k:IntKind)(n:Int):(AV.v (.int k n)).one=true:=id rfl
@[simp] theorem WD(b:Bool):(AV.v (.bool b)).one=true:=id rfl
@[simp] theorem YP:cW.one=true:=id rfl
@[simp] theorem aau(x:UInt8):(a8 x).one=true:=id rfl
@[simp] theorem ZR(x:UInt32):(aF x).one=true:=id rfl
@[simp] theorem YQ(z:Nat)(es:List AV)(c:Option Nat):(AV.cw z es c).one=true:=id rfl
@[simp] theorem YO(r:Ref)(o n:Nat)(c:Option Nat):(AV.cH r o n c).one=true:=id rfl
@[simp] theorem YN(r:Ref)(i j:Nat):(AV.ptr r i j).one=true:=id rfl
@[simp] theorem ZQ(f:Fn)(a b:List AV):(AV.fn f a b).one=true:=id rfl
section
variable(P:Program)(t:TypeId)(xo yo:Operand)(k:IntKind)(a b:Int)
@[simp] theorem Gq:aE P .lss t xo yo (some (.v (.int k a))) (some (.v (.int k b)))=some (aB (decide (a<b)),[]):=by cases k<;>rfl
@[simp] theorem MT:aE P .leq t xo yo (some (.v (.int k a))) (some (.v (.int k b)))=some (aB (decide (a≤b)),[]):=by cases k<;>rfl
@[simp] theorem MU:aE P .gtr t xo yo (some (.v (.int k a))) (some (.v (.int k b)))=some (aB (decide (b<a)),[]):=by cases k<;>rfl
@[simp] theorem MV:aE P .geq t xo yo (some (.v (.int k a))) (some (.v (.int k b)))=some (aB (decide (b≤a)),[]):=by cases k<;>rfl
@[simp] theorem Gr:aE P .eql t xo yo (some (.v (.int k a))) (some (.v (.int k b)))=some (aB (decide (a=b)),[]):=by
 have:(a == b)=decide (a=b):=by by_cases h:a=b<;>simp[h]
 rw[←this];cases k<;>rfl
@[simp] theorem MS:aE P .neq t xo yo (some (.v (.int k a))) (some (.v (.int k b)))=some (aB (!decide (a=b)),[]):=by
 have:(a != b) = !decide (a=b):=by by_cases h:a=b<;>simp[h]
 rw[←this];cases k<;>rfl
@[simp] theorem Wx:aE P .add t xo yo (some (.v (.int k a))) (some (.v (.int k b)))=some (.v (.int k (k.wrap (a+b))),[]):=by cases k<;>rfl
@[simp] theorem Wv:aE P .sub t xo yo (some (.v (.int k a))) (some (.v (.int k b)))=some (.v (.int k (k.wrap (a - b))),[]):=by cases k<;>rfl
@[simp] theorem Ww:aE P .mul t xo yo (some (.v (.int k a))) (some (.v (.int k b)))=some (.v (.int k (k.wrap (a * b))),[]):=by cases k<;>rfl
theorem fp{yk:IntKind}(hb:0≤b):aE P .shr t xo yo (some (.v (.int k a))) (some (.v (.int yk b)))=some (.v (.int k (a.fdiv (2 ^ min b.toNat k.bits))),[]):=by
 have h:Op.shift .shr k a yk b=pure (.int k (a.fdiv (2 ^ min b.toNat k.bits))):=by unfold Op.shift;rw[if_neg (by omega)]
 have h2:BH P .shr t xo yo (.int k a) (.int yk b)=some (.int k (a.fdiv (2 ^ min b.toNat k.bits))):=by
  have:BH P .shr t xo yo (.int k a) (.int yk b)=bw P (Op.shift .shr k a yk b):=rfl
  rw[this,h];rfl
 simp only[aE,GU,mj,fK,h2,Bool.false_and,Bool.or_self,Bool.false_eq_true,if_false,Option.bind_some,iA,scalar,if_true,cf,Option.map_some]
@[simp] theorem YI(b:Bool):xj P .not (some (aB b))=some (aB (!b),[]):=id rfl
def u8(n:Int):UInt8:=UInt8.ofBitVec (BitVec.ofInt 8 n)
def u32(n:Int):UInt32:=UInt32.ofBitVec (BitVec.ofInt 32 n)
@[simp] theorem Vg(n:Int):IntKind.u8.wrap n=((u8 n).toNat:Int):=by
 unfold u8;rw[IntKind.wrap_u8,UInt8.toNat_ofBitVec,BitVec.toNat_ofInt];omega
@[simp] theorem OS(n:Int):IntKind.u32.wrap n=((u32 n).toNat:Int):=by
 unfold u32;rw[IntKind.wrap_u32,UInt32.toNat_ofBitVec,BitVec.toNat_ofInt];omega
theorem DK(n:Int):(u8 n).toNat=(n % 256).toNat:=by
 unfold u8;rw[UInt8.toNat_ofBitVec,BitVec.toNat_ofInt];rfl
theorem Bj(n:Int):(u32 n).toNat=(n % 4294967296).toNat:=by
 unfold u32;rw[UInt32.toNat_ofBitVec,BitVec.toNat_ofInt];rfl
@[simp] theorem O3(x:UInt32):u32 (x.toNat:Int)=x:=by apply UInt32.toNat_inj.1;rw[Bj];have:=x.toNat_lt;omega
@[simp] theorem Vm(x:UInt32):u8 (x.toNat:Int)=x.toUInt8:=by apply UInt8.toNat_inj.1;rw[DK,UInt32.toNat_toUInt8];omega
@[simp] theorem S8(x:UInt32):IntKind.i64.wrap (x.toNat:Int)=x.toNat:=by have:=x.toNat_lt;exact IntWalk.i64_in _ (by omega)
theorem TA(v:BitVec 32):IntKind.u32.wrap (v.toNat:Int)=((UInt32.ofBitVec v).toNat:Int):=by
 rw[OS];unfold u32;congr 3;apply BitVec.eq_of_toNat_eq;rw[BitVec.toNat_ofInt];have:=v.isLt;omega
theorem Ty(op:BinOp)(f:BitVec 32→BitVec 32→BitVec 32)(g:UInt32→UInt32→UInt32)(hg : ∀x y,g x y=UInt32.ofBitVec (f x.toBitVec y.toBitVec))(hop : ∀x y:Int,aE P op t xo yo (some (.v (.int .u32 x))) (some (.v (.int .u32 y)))=some (.v (.int .u32 (IntKind.u32.wrap ((f (BitVec.ofInt 32 x) (BitVec.ofInt 32 y)).toNat:Int))),[])) :
 aE P op t xo yo (some (.v (.int .u32 a))) (some (.v (.int .u32 b)))=some (aF (g (u32 a) (u32 b)),[]):=by
 rw[hop,TA,hg];rfl
section
variable(x y:UInt8)
@[simp] theorem Uk:aE P .lss t xo yo (some (a8 x)) (some (a8 y))=some (aB (decide (x<y)),[]):=by
 unfold a8;rw[Gq];congr 4;rw[UInt8.lt_iff_toNat_lt];all_goals exact propext (by omega)
@[simp] theorem Ul:aE P .leq t xo yo (some (a8 x)) (some (a8 y))=some (aB (decide (x≤y)),[]):=by
 unfold a8;rw[MT];congr 4;rw[UInt8.le_iff_toNat_le];all_goals exact propext (by omega)
@[simp] theorem Um:aE P .gtr t xo yo (some (a8 x)) (some (a8 y))=some (aB (decide (y<x)),[]):=by
 unfold a8;rw[MU];congr 4;rw[UInt8.lt_iff_toNat_lt];all_goals exact propext (by omega)
@[simp] theorem Un:aE P .geq t xo yo (some (a8 x)) (some (a8 y))=some (aB (decide (y≤x)),[]):=by
 unfold a8;rw[MV];congr 4;rw[UInt8.le_iff_toNat_le];all_goals exact propext (by omega)
@[simp] theorem Uo:aE P .eql t xo yo (some (a8 x)) (some (a8 y))=some (aB (decide (x=y)),[]):=by
 unfold a8;rw[Gr];congr 4;rw[←UInt8.toNat_inj];all_goals exact propext (by omega)
@[simp] theorem Uj:aE P .neq t xo yo (some (a8 x)) (some (a8 y))=some (aB (!decide (x=y)),[]):=by
 unfold a8;rw[MS];congr 5;rw[←UInt8.toNat_inj];all_goals exact propext (by omega)
end
section
variable(x y:UInt32)
@[simp] theorem OG:aE P .andNot t xo yo (some (aF x)) (some (aF y))=some (aF (x &&& ~~~y),[]):=by
 unfold aF;rw[Ty P t xo yo _ _ .andNot (fun a b=>a &&& ~~~b) (fun a b=>a &&& ~~~b) (fun _ _=>rfl) (fun _ _=>rfl)];simp only[O3];rfl
@[simp] theorem So:aE P .lss t xo yo (some (aF x)) (some (aF y))=some (aB (decide (x<y)),[]):=by
 unfold aF;rw[Gq];congr 4;rw[UInt32.lt_iff_toNat_lt];all_goals exact propext (by omega)
@[simp] theorem Sp:aE P .eql t xo yo (some (aF x)) (some (aF y))=some (aB (decide (x=y)),[]):=by
 unfold aF;rw[Gr];congr 4;rw[←UInt32.toNat_inj];all_goals exact propext (by omega)
end
theorem jZ{P:Program}{t:TypeId}{d:TypeDesc}(h:P.underlying t=some d):bw P (Go.underlying t)=some d:=by
 unfold Go.underlying
 rw[bN]
 show(some P).bind _=_
 rw[Option.bind_some,h]
 rfl
def intKind(P:Program)(t:TypeId):Option IntKind:=match P.underlying t with | some (.int k)=>some k | _=>none
theorem yA{P:Program}{t:TypeId}{k:IntKind}(h:intKind P t=some k):P.underlying t=some (.int k):=by
 unfold intKind at h
 split at h
 ·cases h;assumption
 ·cases h
theorem D1{g:de}{r:Ref}{src dst:TypeId}{k':IntKind}(hs:(P.underlying src).isNone=false)(hd:intKind P dst=some k)(n:Int) :
 cS P g r src dst (some (.v (.int k' n)))=some (.v (.int k (k.wrap n)),[]):=by
 have hd:=yA hd
 obtain⟨d,hs⟩ : ∃d,P.underlying src=some d:=by cases h:P.underlying src with | none=>rw[h]at hs;cases hs | some d=>exact⟨d,rfl⟩
 have:bw P (Go.convert src dst (.int k' n))=some (.int k (k.wrap n)):=by
  unfold Go.convert
  rw[bN,jZ hs,Option.bind_some,bN,jZ hd,Option.bind_some]
  cases d<;>rfl
 simp only[cS,this,Option.bind_some,iA,scalar,if_true,cf,Option.map_some]
@[simp] theorem Sm{g:de}{r:Ref}{src dst:TypeId}(hs:(P.underlying src).isNone=false)(hd:intKind P dst=some .i64)(x:UInt32) :
 cS P g r src dst (some (aF x))=some (aI x.toNat,[]):=by
 unfold aF;rw[D1 P .i64 hs hd,S8]
@[simp] theorem Ui{g:de}{r:Ref}{src dst:TypeId}{k':IntKind}(hs:(P.underlying src).isNone=false)(hd:intKind P dst=some .u8)(n:Int) :
 cS P g r src dst (some (.v (.int k' n)))=some (a8 (u8 n),[]):=by
 unfold a8;rw[D1 P .u8 hs hd,Vg]
end
def hU(l:List UInt8):List AV:=l.map a8
@[simp] theorem Zq(l:List UInt8):(hU l).length=l.length:=by simp[hU]
@[simp] theorem Zp:hU []=[]:=id rfl
theorem MM(P:Program)(d:Bool)(g:de)(r:Ref)(t:TypeId)(ts:List TypeId)(x:AV)(hx : ∀r',x ≠ .mp r'):aK P d g r .len ⟨t :: ts⟩ [x]=C6 P (some t) x:=by
 unfold aK
 cases x<;>first | rfl | (rename_i q;exact(hx q rfl).elim)
@[simp] theorem YJ(P:Program)(d:Bool)(g:de)(r:Ref)(t:TypeId)(ts:List TypeId)(x:AV)(hx:(qT x).isSome=true):aK P d g r .len ⟨t :: ts⟩ [x]=C6 P (some t) x:=by
 refine MM P d g r t ts x fun r' e=>?_
 subst e;cases hx
@[simp] theorem UG:qT cW=some 0:=id rfl
@[simp] theorem UH(n:Nat)(es:List AV)(c:Option Nat):qT (.cw n es c)=some es.length:=id rfl
@[simp] theorem UF(r:Ref)(o n:Nat)(c:Option Nat):qT (.cH r o n c)=some n:=id rfl
@[simp] theorem Si{P:Program}{t:TypeId}(ha:iv P t=none)(hs:isStr P t=false)(he:(dW P t).isSome=true)(x:AV):C6 P (some t) x=(qT x).map fun n=>(aI n,[]):=by
 simp only[C6,ha,hs,he];rfl
theorem Hm{P:Program}{t:TypeId}{z:Nat}(h:(dW P t).bind (aU P)=some z) : ∃e,dW P t=some e∧aU P e=some z:=by
 simpa [Option.bind_eq_some_iff] using h
@[simp] theorem BE{P:Program}{t:TypeId}{z:Nat}(h:(dW P t).bind (aU P)=some z)(g:de)(es:List AV)(c:Option Nat)(kd:IntKind)(k:Int) :
 aH P g t (some (.cw z es c)) (some (.v (.int kd k)))=if 0≤k∧k<es.length then some (.iptr z es k.toNat 0,[]) else none:=by
 obtain⟨e,he,hz⟩:=Hm h
 simp only[aH,Option.bind_some,intOf,he,hz,and_true]
@[simp] theorem MN{P:Program}{t:TypeId}(h:dW P t=none)(hz:((iv P t).bind fun p=>aU P p.2).isSome=true)(g:de)(r:Ref)(i j:Nat)(kd:IntKind)(k:Int) :
 aH P g t (some (.ptr r i j)) (some (.v (.int kd k)))=if 0≤k∧k<((iv P t).getD (0,0)).1 then some (.ptr r i (j+k.toNat * (aU P ((iv P t).getD (0,0)).2).getD 0),[]) else none:=by
 obtain⟨z,hz⟩:=Option.isSome_iff_exists.1 hz
 simp only[Option.bind_eq_some_iff]at hz
 obtain⟨⟨n,e⟩,ha,hz⟩:=hz
 simp only[aH,Option.bind_some,intOf,h,ha,hz,Option.getD_some]
@[simp] theorem Sh{P:Program}{t:TypeId}(ha:(dA P t).isSome=true)(hn:(aU P t).isSome=true)(g:de)(z:Nat)(es:List AV)(i j:Nat) :
 aj P g t (some (.iptr z es i j))=cf (dX es i j ((aU P t).getD 0) ((dA P t).getD false)):=by
 obtain⟨a,ha⟩:=Option.isSome_iff_exists.1 ha
 obtain⟨n,hn⟩:=Option.isSome_iff_exists.1 hn
 simp only[aj,ha,hn,Option.getD_some]
def Ny(x:Option bM)(i j n:Nat)(ag:Bool):gz:=match x with
 | some b=>cf (dX b.es i j n ag)
 | none=>none
@[simp] theorem SJ(b:bM)(i j n:Nat)(ag:Bool):Ny (some b) i j n ag=cf (dX b.es i j n ag):=id rfl
@[simp] theorem Uh{P:Program}{t:TypeId}(ha:(dA P t).isSome=true)(hn:(aU P t).isSome=true)(g:de)(r:Ref)(i j:Nat) :
 aj P g t (some (.ptr r i j))=Ny (g r) i j ((aU P t).getD 0) ((dA P t).getD false):=by
 obtain⟨a,ha⟩:=Option.isSome_iff_exists.1 ha
 obtain⟨n,hn⟩:=Option.isSome_iff_exists.1 hn
 simp only[aj,ha,hn,Option.getD_some]
 rfl
@[simp] theorem LF(e:AV)(es:List AV)(j n:Nat):dX (e :: es) 0 j n true=if j+n≤e.cells.length∧0<n then some (.agg ((e.cells.drop j).take n)) else none:=id rfl
@[simp] theorem LD(e:AV)(es:List AV)(j n:Nat):dX (e :: es) 0 j n false=e.cells[j]?:=id rfl
def Sl(z:Nat)(es:List AV)(x:AV):Prop:=(x=cW∧es=[]) ∨∃c,x = .cw z es c∧es.length≤c.getD es.length
theorem Sl.mk(z:Nat)(es:List AV):Sl z es (.cw z es none) := .inr ⟨none,rfl,Nat.le_refl _⟩
theorem Sl.len{z:Nat}{es:List AV}{x:AV}(h:Sl z es x):qT x=some es.length:=by
 rcases h with ⟨rfl,rfl⟩ | ⟨c,rfl,_⟩<;>rfl
theorem Sl.cw{z:Nat}{es:List AV}{x:AV}(h:Sl z es x){i:Nat}(hi:i<es.length) : ∃c,x = .cw z es c∧es.length≤c.getD es.length:=by
 rcases h with ⟨rfl,rfl⟩ | h
 ·simp at hi
 ·exact h
theorem Sl.view{z:Nat}{es:List AV}{x:AV}(h:Sl z es x)(g:de)(n:Nat):view g (n+1) x=some x:=by
 rcases h with ⟨rfl,rfl⟩ | ⟨c,rfl,_⟩<;>rfl
theorem Sl.refs{z:Nat}{es:List AV}{x:AV}(h:Sl z es x)(g:de)(n:Nat):aG g n x=[]:=by
 rcases h with ⟨rfl,rfl⟩ | ⟨c,rfl,_⟩<;>cases n<;>rfl
theorem Sl.cells{z:Nat}{es:List AV}{x:AV}(h:Sl z es x):x.cells=[x]∧x.one=true:=by
 rcases h with ⟨rfl,_⟩ | ⟨c,rfl,_⟩<;>exact⟨rfl,rfl⟩
@[simp] theorem RR(g:de)(n:Nat)(x:Value):view g (n+1) (.v x)=some (.v x):=id rfl
@[simp] theorem Zy(g:de)(n:Nat)(x:UInt8):view g (n+1) (a8 x)=some (a8 x):=id rfl
@[simp] theorem XU(g:de)(n:Nat)(x:UInt32):view g (n+1) (aF x)=some (aF x):=id rfl
@[simp] theorem Vi(g:de)(n z:Nat)(es:List AV)(c:Option Nat):view g (n+1) (.cw z es c)=some (.cw z es c):=id rfl
@[simp] theorem Vk(g:de)(n:Nat)(cs:List AV):view g (n+1) (.agg cs)=(cs.mapM (view g n)).map .agg:=id rfl
@[simp] theorem Vh(g:de)(n:Nat)(cs:List AV):view g (n+1) (.tup cs)=(cs.mapM (view g n)).map .tup:=id rfl
@[simp] theorem TK(g:de)(n z:Nat)(es:List AV)(i j:Nat):view g (n+1) (.iptr z es i j)=some (.iptr z es i j):=id rfl
@[simp] theorem Vj(g:de)(n:Nat)(t:TypeId)(x:AV):view g (n+1) (.ifc t x)=(view g n x).map (.ifc t):=id rfl
theorem A6{g:de}{r:Ref}{b:bM}(hr:g r=some b)(n o l:Nat)(c:Option Nat):view g (n+1) (.cH r o l c)=if b.arr=true∧o+l≤b.es.length then some (.cw b.esz ((b.es.drop o).take l) c) else none:=by
 simp only[view,hr]
theorem bD:depth=8:=Nat.le_antisymm (Nat.le_refl 8) (Nat.le_refl 8)
end Go.Ab
namespace Go.Ab
@[simp] theorem ab.o4(r q:Ref)(b:Option bM)(H:ab):ab.get ((r,b) :: H) q=if r=q then b else ab.get H q:=id rfl
attribute [simp] ab.get_put
@[simp] theorem YK(P:Program)(r:Ref)(e:TypeId)(x:AV)(h0:0<(aU P e).getD 0):cB P r e (some x)=if some x.cells.length=aU P e∧x.cells.all AV.one=true then some (.ptr r 0 0,[⟨(aU P e).getD 0,[x],false,false⟩]) else none:=by
 unfold cB
 cases h:aU P e with
 | none=>simp
 | some n=>rw[h]at h0;simp only[Option.getD_some]at h0;simp[h0]
def Fr(H:ab):Prop :=∀d t g k,H.gen d t≤g→H.get ⟨d,t,g,k⟩=none
theorem Fr.nil:Fr []:=fun _ _ _ _ _=>rfl
theorem Fr.keyed{H:ab}(h:Fr H)(bs:List bM)(d t:Nat):Fr (Ab.keyed ⟨d,t,H.gen d t,0⟩ 0 bs H):=by
 intro d' t' g k hg
 rw[ab.ja]at hg
 rw[ab.Eg]
 by_cases hb:bs=[]
 ·subst hb
  rw[if_neg (by simp)]at hg
  simp[h _ _ _ _ hg]
 ·by_cases hd:d'=d∧t'=t
  ·obtain⟨rfl,rfl⟩:=hd
   rw[if_pos ⟨rfl,rfl,hb⟩]at hg
   dsimp only at hg ⊢
   rw[if_neg (by intro hh;have:=hh.2.2.1;omega)]
   exact h _ _ _ _ (by omega)
  ·rw[if_neg (by intro hh;exact hd ⟨hh.1,hh.2.1⟩)]at hg
   dsimp only at hg ⊢
   rw[if_neg (by intro hh;exact hd ⟨hh.1,hh.2.1⟩)]
   exact h _ _ _ _ hg
theorem Fr.put{H:ab}(h:Fr H){r:Ref}(b:Option bM)(hr:(H.get r).isSome=true):Fr (H.put r b):=by
 intro d t g k hg
 rw[ab.kp H r b hr]at hg
 rw[ab.get_put]
 split
 ·rename_i e
  subst e
  rw[h _ _ _ _ hg]at hr
  cases hr
 ·exact h _ _ _ _ hg
theorem Fr.cons{H:ab}(h:Fr H)(d t:Nat)(b:Option bM):Fr ((⟨d,t,H.gen d t,0⟩,b) :: H):=by
 intro d' t' g k hg
 simp only[ab.gen]at hg
 rw[ab.o4]
 split at hg
 ·rename_i e
  obtain⟨rfl,rfl⟩:=e
  rw[if_neg (by intro e;injection e;omega)]
  exact h _ _ _ _ (by omega)
 ·rename_i e
  rw[if_neg (by intro e';injection e' with e1 e2;exact e ⟨e1,e2⟩)]
  exact h _ _ _ _ hg
theorem pC{H:ab}(hF:Fr H){q:Ref}(h:(H.get q).isSome=true)(d t k:Nat):(⟨d,t,H.gen d t,k⟩:Ref)≠q:=by
 intro e;subst e;rw[hF _ _ _ _ (Nat.le_refl _)]at h;cases h
def To(P:Program)(t z by':Nat):Bool:=match dW P t with
 | some e=>aU P e == some z&&lf P e == some by'&&(match eD P e with | some zz=>zz.cells.length == z&&zz.cells.all AV.one | none=>false)&&z != 0&&by' != 0
 | none=>false
def CQ(P:Program)(t:TypeId):Bool:=(P.underlying t).isSome && !isInt P t
theorem jj{P:Program}{t z by':Nat}(h:To P t z by'=true) : ∃e zz,dW P t=some e∧aU P e=some z∧lf P e=some by'∧eD P e=some zz∧zz.cells.length=z∧zz.cells.all AV.one=true∧z≠0∧by'≠0:=by
 unfold To at h
 split at h
 ·rename_i e he
  simp only[Bool.and_eq_true,beq_iff_eq,bne_iff_ne]at h
  obtain⟨⟨⟨⟨h1,h2⟩,h3⟩,h4⟩,h5⟩:=h
  split at h3
  ·rename_i zz hz
   simp only[Bool.and_eq_true,beq_iff_eq]at h3
   exact⟨e,zz,he,h1,h2,hz,h3.1,h3.2,h4,h5⟩
  ·cases h3
 ·cases h
def QE(g:de)(z:Nat)(new:List AV)(x:AV):Prop:=(x=cW∧new=[])∨(isNum x=false∧x≠cW∧cN g x=some (z,new))
theorem QE.mm{P:Program}{t z by':Nat}(h:To P t z by'=true){e:TypeId}(he:dW P t=some e){g:de}{new:List AV}{x:AV}(hx:QE g z new x):mm P g e x=some (z,new):=by
 obtain⟨e',zz,h1,h2,h3,h4,h5,h6,h7,h8⟩:=jj h
 rw[he]at h1;cases h1
 rcases hx with ⟨rfl,rfl⟩ | ⟨hn,hne,hx⟩
 ·simp only[Ab.mm,h2,Option.map_some]
 ·unfold Ab.mm
  split
  ·exact(hne rfl).elim
  ·simp[isNum]at hn
  ·exact hx
theorem QE.num{g:de}{z:Nat}{new:List AV}{x:AV}(hx:QE g z new x):isNum x=false:=by
 rcases hx with ⟨rfl,_⟩ | ⟨hn,_⟩
 ·rfl
 ·exact hn
theorem Sl.Fe{z:Nat}{es:List AV}{x:AV}(h:Sl z es x)(g:de):QE g z es x:=by
 rcases h with ⟨rfl,rfl⟩ | ⟨c,rfl,_⟩
 ·exact .inl ⟨rfl,rfl⟩
 ·exact .inr ⟨rfl,(by intro e;cases e),rfl⟩
def Own(z:Nat)(es:List AV)(H:ab)(x:AV):Prop:=(x=cW∧es=[]) ∨∃r,x = .cH r 0 es.length none∧H.get r=some ⟨z,es,true,false⟩
theorem JG(z:Nat)(H:ab):Own z [] H cW := .inl ⟨rfl,rfl⟩
theorem Own.len{z:Nat}{es:List AV}{H:ab}{x:AV}(h:Own z es H x):qT x=some es.length:=by
 rcases h with ⟨rfl,rfl⟩ | ⟨r,rfl,_⟩<;>rfl
theorem Own.view{z:Nat}{es:List AV}{H:ab}{x:AV}(h:Own z es H x)(n:Nat) : ∃y,view H.get (n+1) x=some y∧Sl z es y:=by
 rcases h with ⟨rfl,rfl⟩ | ⟨r,rfl,hr⟩
 ·exact⟨cW,rfl,.inl ⟨rfl,rfl⟩⟩
 ·refine⟨.cw z es none,?_,Sl.mk z es⟩
  rw[A6 hr]
  simp
theorem Own.Fe{z:Nat}{es:List AV}{H:ab}{x:AV}(h:Own z es H x):QE H.get z es x:=by
 rcases h with ⟨rfl,rfl⟩ | ⟨r,rfl,hr⟩
 ·exact .inl ⟨rfl,rfl⟩
 ·refine .inr ⟨rfl,(by intro e;cases e),?_⟩
  simp[cN,hr]
def AV.at?:AV→Option Ref
 | .cH r _ _ _=>some r
 | .ptr r _ _=>some r
 | _=>none
theorem Own.cH{z:Nat}{es:List AV}{H:ab}{x:AV}(h:Own z es H x)(hn:es≠[]) : ∃r,x = .cH r 0 es.length none∧H.get r=some ⟨z,es,true,false⟩:=by
 rcases h with ⟨_,rfl⟩ | h
 ·exact(hn rfl).elim
 ·exact h
end Go.Ab
