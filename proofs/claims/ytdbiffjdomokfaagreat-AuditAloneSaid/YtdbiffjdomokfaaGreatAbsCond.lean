/-
  What is to be shown for a run of the abstract machine, as one proposition that is computed from the code. No statement of a seat is proved here.
  More fuel gives the same answer. No statement of a seat is proved here.
  What the abstract machine's operations yield on data: the rules for the conditions. No statement of a seat is proved here.
  Own memory in the conditions: appends, stores, loads, what is seen of it. No statement of a seat is proved here.
-/
import Derived.Test.YtdbiffjdomokfaaGreatAbsEnv
import Derived.IntWalk
set_option linter.unusedVariables false
set_option linter.unusedSimpArgs false
namespace Go.Ab
abbrev dK:=Nat→AV
def cJ(s:dK):Operand→Option AV
 | .tmp t=>some (s t)
 | .const v=>ofValue v
 | .func f=>some (.fn (.func f) [] [])
 | .global _=>none
def yT(ev:Operand→Option AV):List Operand→Option (List AV)
 | []=>some []
 | o :: os=>match ev o,yT ev os with
  | some x,some xs=>some (x :: xs)
  | _,_=>none
def zP(ev:Operand→Option AV):List (Nat × Operand)→Option (List (Nat × AV))
 | []=>some []
 | (i,o) :: os=>match ev o,zP ev os with
  | some x,some xs=>some ((i,x) :: xs)
  | _,_=>none
def Hb(ev:Operand→Option AV):Option Operand→Option (Option Int)
 | none=>some none
 | some o=>match (ev o).bind intOf with
  | some n=>some (some n)
  | none=>none
def z3(s:dK)(d:Nat)(v:AV):dK:=fun i=>cond (Nat.beq i d) v (s i)
def dX(tm:List AV)(s:dK):Prop :=∀i,cU tm i=s i
theorem sP{tm:List AV}{s:dK}(h:dX tm s):aZ tm=cJ s:=by
 funext o;cases o<;>simp[aZ,cJ,h _]
theorem Ct(ev:Operand→Option AV)(l:List Operand):l.mapM ev=yT ev l:=by
 induction l with
 | nil=>rfl
 | cons o l ih =>
  simp only[List.mapM_cons,ih,yT,Option.pure_def,Option.bind_eq_bind]
  cases ev o<;>cases yT ev l<;>rfl
theorem ED{tm:List AV}{s:dK}(h:dX tm s)(l:List (Nat × Operand)):ga tm l=zP (cJ s) l:=by
 induction l with
 | nil=>rfl
 | cons o l ih =>
  obtain⟨i,o⟩:=o
  unfold ga at ih ⊢
  rw[List.mapM_cons,ih]
  simp only[zP,Option.pure_def,Option.bind_eq_bind,sP h]
  cases cJ s o<;>cases zP (cJ s) l<;>rfl
theorem Ft{tm:List AV}{s:dK}(h:dX tm s)(o:Option Operand):jH tm o=Hb (cJ s) o:=by
 cases o with
 | none=>rfl
 | some o=>simp only[jH,Hb,sP h];rfl
theorem dX.set{tm:List AV}{s:dK}(h:dX tm s)(d:Nat)(v:AV):dX (tn tm d v) (z3 s d v):=by
 intro i
 rw[lN]
 unfold z3
 split
 ·rename_i e;subst e;simp
 ·rename_i e;rw[show Nat.beq i d=false from by cases hb:Nat.beq i d with | false=>rfl | true=>exact(e (Nat.eq_of_beq_eq_true hb)).elim];exact h i
def bq(c a b:Option AV):gz :=
 match c.bind Am with
 | some true=>cF a
 | some false=>cF b
 | none=>none
def bm(H:ab)(r:Ref)(q:gz):dz :=
 match q with
 | some (v,bs)=>some (v,keyed r 0 bs H)
 | none=>none
def A3(wk:Bool)(a b:dz):dz :=
 match a with
 | some x=>some x
 | none=>cond wk b none
def bo(E:Env)(wk:Bool)(pc:FuncId→List AV→Option AV)(tc:sn→List AV→ab→dz)(H:ab)(r:Ref)(f:Option AV)(args:List AV):dz :=
 A3 wk (bm H r (ik E pc H.get r f args)) (kJ E pc tc H r f args)
def kN(E:Env)(wk:Bool)(pc:FuncId→List AV→Option AV)(tc:sn→List AV→ab→dz)(H:ab)(r:Ref)(f:Option AV)(args:List AV):dz :=
 A3 wk (bm H r ((ik E pc H.get r f args).map fun p=>(p.1,vn true p.2))) (m3 true E.sm H (kJ E pc tc H r f args))
def cS(P:Program)(wk:Bool)(H:ab)(r:Ref)(t t':Option TypeId)(s x:AV):dz :=
 A3 wk (bm H r (gK P H.get r t t' s x)) (kn P H t t' s x)
def fa(P:Program)(draw wk:Bool)(H:ab)(r:Ref)(t:TypeId)(n:Nat)(vs:Option (List (Nat × AV))):dz :=
 A3 wk (bm H r (fG P draw H.get r t n vs)) (ig P H r t n vs)
def sI(E:Env)(pc:FuncId→List AV→Option AV)(tc:sn→List AV→ab→dz)(dep:Nat)(draw wk:Bool)(s:dK)(H:ab)(r:Ref)(o:Oper):gz ⊕ dz :=
 match o.op with
 | .move x | .assign x => .inl (cF (cJ s x))
 | .pick c a b => .inl (bq (cJ s c) (cJ s a) (cJ s b))
 | .alloc e => .inr (bm H r (bY E.P r e))
 | .box e x => .inr (bm H r (cD E.P r e (cJ s x)))
 | .build t ps => .inl (cK E.P t (zP (cJ s) ps.toList))
 | .buildSlice t n ps => .inr (fa E.P (draw && !E.strict o) wk H r t n (zP (cJ s) ps.toList))
 | .load t a => .inl (aj E.P H.get t (cJ s a))
 | .store t a x => .inr (cond wk (aT E.P H t (cJ s a) (cJ s x)) none)
 | .nilCheck x => .inl (jX (cJ s x))
 | .binOp op t xo yo _ => .inl (aE E.P op t xo yo (cJ s xo) (cJ s yo))
 | .unOp op _ x => .inl (wM E.P op (cJ s x))
 | .convert src dst x=>match eR E.P dst with
  | true => .inr (bm H r (cW E.P H.get r src dst (cJ s x)))
  | false => .inl (cW E.P H.get r src dst (cJ s x))
 | .makeInterface t x => .inl (oL E.P t (cJ s x))
 | .makeFunc f first captured => .inl (sG f (yT (cJ s) first.toList) (yT (cJ s) captured.toList))
 | .makeSlice t l c => .inr (bm H r (u4 E.P r t (cJ s l) (cJ s c)))
 | .slice t x lo hi mx=>match E.wide o && !draw with
  | true => .inl (ra E.P H.get t (cJ s x) (Hb (cJ s) lo) (Hb (cJ s) hi) (Hb (cJ s) mx))
  | false => .inl (eQ E.P H.get t (cJ s x) (Hb (cJ s) lo) (Hb (cJ s) hi) (Hb (cJ s) mx))
 | .fieldAddr t x f => .inl (aa E.P t (cJ s x) f)
 | .field t x f => .inl (lC E.P t (cJ s x) f)
 | .indexAddr t x ix => .inl (aM E.P H.get t (cJ s x) (cJ s ix))
 | .index t x ix => .inl (nL E.P t (cJ s x) (cJ s ix))
 | .typeAssert x _ want ok => .inl (o3 E.P (cJ s x) want ok)
 | .extract x i => .inl (aF (cJ s x) i)
 | .call c =>
  match yT (cJ s) c.args.toList with
  | none => .inl none
  | some args =>
   match c.callee with
   | .value f=>(match AB E.pP draw f with
    | some t => .inl (G0 E.P H.get t args)
    | none=>(match E.jb o with
     | true => .inr (kN E wk pc tc H r (cJ s f) args)
     | false => .inr (bo E wk pc tc H r (cJ s f) args)))
   | .invoke _ _ => .inl none
   | .builtin b=>match b,args with
    | .append,[a,x] => .inr (cS E.P wk H r c.argTypes[0]? c.argTypes[1]? a x)
    | .copy,[dst,x]=>(match E.wide o with
     | true => .inr (cond wk (Bv E.P H c.argTypes[0]? dst x) none)
     | false => .inr (cond wk (Gk E.P H c.argTypes[0]? dst x) none))
    | b,args => .inl (aJ E.P (draw&&(E.strict o || !(match c.args.toList with | [.tmp _]=>true | _=>false))) H.get r b c.argTypes args)
 | .makeMap _ none => .inr (bm H r (some (.mp r,[bw []])))
 | .lookup t x k ok => .inl (da E.P H.get t (cJ s x) (cJ s k) ok)
 | .mapUpdate t m k x => .inr (cond wk (dO E.P H t (cJ s m) (cJ s k) (cJ s x)) none)
 | .insert t m k x => .inr (cond wk (dO E.P H t (cJ s m) (cJ s k) (cJ s x)) none)
 | .mapEntry t m k => .inr (cond wk (eF E.P H t (cJ s m) (cJ s k)) none)
 | .entryStore _ m n x => .inr (cond wk (dn H (cJ s m) (cJ s n) (cJ s x)) none)
 | .makeChan t n => .inr (cond wk (oF E.P H r t (cJ s n)) none)
 | .send c x => .inr (cond wk (wF H (cJ s c) (cJ s x)) none)
 | .recv t c ok => .inr (cond wk (ue E.P H t (cJ s c) ok) none)
 | _ => .inl none
def m9(E:Env)(pc:FuncId→List AV→Option AV)(tc:sn→List AV→ab→dz)(dep:Nat)(draw:Bool)(tm:List AV)(H:ab)(o:Oper):dz :=
 match cB E pc draw H.get tm ⟨dep,o.dst.getD 0,H.gen dep (o.dst.getD 0),0⟩ o with
 | some (x,bs)=>some (x,keyed ⟨dep,o.dst.getD 0,H.gen dep (o.dst.getD 0),0⟩ 0 bs H)
 | none=>if draw && !gB E o then none else evalW E pc tc H tm ⟨dep,o.dst.getD 0,H.gen dep (o.dst.getD 0),0⟩ o
theorem CL(E:Env)(pc:FuncId→List AV→Option AV)(tc:sn→List AV→ab→dz)(nt dep:Nat)(draw:Bool)(ops:Array Oper)(o:Oper)(st:St) :
 evalOp E pc tc nt dep draw ops o st=(match wanted ops st.tm o with
  | none=>none
  | some false=>(dq nt st.tm o.dst AV.undef).map fun tm => { st with tm}
  | some true=>match m9 E pc tc dep draw st.tm st.hp o with
   | some (x,H)=>(dq nt st.tm o.dst x).map fun tm=>⟨tm,H⟩
   | none=>none):=by
 unfold evalOp m9
 cases hw:wanted ops st.tm o with
 | none=>rfl
 | some b =>
 cases b with
 | false=>rfl
 | true =>
  cases cB E pc draw st.hp.get st.tm ⟨dep,o.dst.getD 0,st.hp.gen dep (o.dst.getD 0),0⟩ o with
  | some p=>rfl
  | none =>
   dsimp only
   split
   ·rfl
   ·rfl
theorem Q8{E:Env}{pc:FuncId→List AV→Option AV}{tc:sn→List AV→ab→dz}{dep:Nat}{draw:Bool}{tm:List AV}{H:ab}{o:Oper}{v:AV}
 (h:cB E pc draw H.get tm ⟨dep,o.dst.getD 0,H.gen dep (o.dst.getD 0),0⟩ o=some (v,[])):m9 E pc tc dep draw tm H o=some (v,H):=by
 unfold m9;rw[h];rfl
theorem KP{E:Env}{pc:FuncId→List AV→Option AV}{tc:sn→List AV→ab→dz}{dep:Nat}{draw:Bool}{tm:List AV}{H H':ab}{o:Oper}{v:AV}{q:gz}
 (h:cB E pc draw H.get tm ⟨dep,o.dst.getD 0,H.gen dep (o.dst.getD 0),0⟩ o=q) (hq:bm H ⟨dep,o.dst.getD 0,H.gen dep (o.dst.getD 0),0⟩ q=some (v,H')):m9 E pc tc dep draw tm H o=some (v,H'):=by
 unfold m9;rw[h]
 unfold bm at hq
 split at hq
 ·exact hq
 ·cases hq
theorem la{E:Env}{pc:FuncId→List AV→Option AV}{tc:sn→List AV→ab→dz}{dep:Nat}{draw:Bool}{tm:List AV}{H H':ab}{o:Oper}{v:AV}{q:gz}{w:dz}
 (h:cB E pc draw H.get tm ⟨dep,o.dst.getD 0,H.gen dep (o.dst.getD 0),0⟩ o=q) (hw:evalW E pc tc H tm ⟨dep,o.dst.getD 0,H.gen dep (o.dst.getD 0),0⟩ o=w)
 (hq:A3 (!(draw && !gB E o)) (bm H ⟨dep,o.dst.getD 0,H.gen dep (o.dst.getD 0),0⟩ q) w=some (v,H')):m9 E pc tc dep draw tm H o=some (v,H'):=by
 unfold m9;rw[h]
 cases q with
 | some p=>simpa [A3,bm] using hq
 | none =>
  rw[hw]
  cases hd:(draw && !gB E o) with
  | true=>rw[hd]at hq;simp[A3,bm]at hq
  | false=>rw[hd]at hq;simpa [A3,bm] using hq
section
variable{E:Env}{pc:FuncId→List AV→Option AV}{tc:sn→List AV→ab→dz}{dep:Nat}{draw:Bool}{tm:List AV}{s:dK}{H:ab}{o:Oper}
theorem QC(hs:dX tm s){q:gz}{v:AV}
 (h:sI E pc tc dep draw (!(draw && !gB E o)) s H ⟨dep,o.dst.getD 0,H.gen dep (o.dst.getD 0),0⟩ o = .inl q) (hq:q=some (v,[])):m9 E pc tc dep draw tm H o=some (v,H):=by
 subst hq
 refine Q8 ?_
 have e:=sP hs
 unfold sI at h
 unfold cB
 split at h<;>rename_i ho<;>simp only[ho]
 all_goals try (simp only[Sum.inl.injEq,reduceCtorEq]at h)
 all_goals try (rw[←h];simp only[e,bq,B4,ED hs,Ft hs,Ct];done)
 ·rw[←h];unfold B4 bq;rw[e];rfl
 ·split at h
  ·cases h
  ·simp only[Sum.inl.injEq]at h;rw[←h,e]
 ·cases hwd:(E.wide o && !draw) with
  | true=>rw[hwd]at h;simp only[Sum.inl.injEq]at h;rw[←h];simp only[cond_true,e,Ft hs]
  | false=>rw[hwd]at h;simp only[Sum.inl.injEq]at h;rw[←h];simp only[cond_false,e,Ft hs]
 ·rw[Ct,e]
  split at h
  ·cases h
  ·rename_i args hargs
   rw[hargs]
   dsimp only
   split at h
   ·rename_i f hf
    rw[hf]
    dsimp only
    split at h
    ·rename_i t ht
     simp only[Sum.inl.injEq]at h
     simp only[ht]
     exact h
    ·split at h<;>cases h
   ·cases h
   ·rename_i b hb
    rw[hb]
    dsimp only
    split at h
    ·cases h
    ·split at h<;>cases h
    ·simp only[Sum.inl.injEq]at h;exact h
theorem QB(hs:dX tm s){w:dz}{v:AV}{H':ab}
 (h:sI E pc tc dep draw (!(draw && !gB E o)) s H ⟨dep,o.dst.getD 0,H.gen dep (o.dst.getD 0),0⟩ o = .inr w) (hw:w=some (v,H')):m9 E pc tc dep draw tm H o=some (v,H'):=by
 subst hw
 have e:=sP hs
 unfold sI at h
 split at h<;>rename_i ho
 all_goals try (simp only[reduceCtorEq]at h;done)
 all_goals try (simp only[Sum.inr.injEq]at h)
 all_goals try (refine KP (by unfold cB;simp only[ho,e]) h;done)
 ·rw[←ED hs]at h
  exact la (q:=fG _ _ _ _ _ _ _) (w:=ig _ _ _ _ _ _) (by unfold cB;simp only[ho]) (by unfold evalW;simp only[ho]) h
 ·rw[←e]at h
  exact la (q:=none) (w:=aT _ _ _ _ _) (by unfold cB;simp only[ho]) (by unfold evalW;simp only[ho]) h
 ·split at h
  ·simp only[Sum.inr.injEq]at h
   refine KP (by unfold cB;simp only[ho,e]) h
  ·cases h
 ·split at h<;>cases h
 ·split at h
  ·cases h
  ·rename_i args hargs
   have ha:=hargs
   rw[←Ct,←e]at ha
   split at h
   ·rename_i f hf
    split at h
    ·cases h
    ·rename_i hov
     split at h
     ·rename_i hfz
      simp only[Sum.inr.injEq]at h
      rw[←e]at h
      exact la (q:=(ik _ _ _ _ _ _).map _) (w:=m3 true _ _ (kJ _ _ _ _ _ _ _)) (by unfold cB;simp only[ho,ha,hf,hov,hfz]) (by unfold evalW;simp only[ho,ha,hf,hfz]) h
     ·rename_i hfz
      simp only[Sum.inr.injEq]at h
      rw[←e]at h
      exact la (q:=ik _ _ _ _ _ _) (w:=kJ _ _ _ _ _ _ _) (by unfold cB;simp only[ho,ha,hf,hov,hfz,vn];cases ik E pc H.get _ (aZ tm f) args<;>rfl) (by unfold evalW;simp only[ho,ha,hf,hfz];rfl) h
   ·cases h
   ·rename_i b hb
    split at h
    ·simp only[Sum.inr.injEq]at h
     exact la (q:=gK _ _ _ _ _ _ _) (w:=kn _ _ _ _ _ _) (by unfold cB;simp only[ho,ha,hb];rfl) (by unfold evalW;simp only[ho,ha,hb]) h
    ·split at h
     ·rename_i hwd
      simp only[Sum.inr.injEq]at h
      exact la (q:=none) (w:=Bv _ _ _ _ _) (by unfold cB;simp only[ho,ha,hb];rfl) (by unfold evalW;simp only[ho,ha,hb,hwd,cond_true]) h
     ·rename_i hwd
      simp only[Sum.inr.injEq]at h
      exact la (q:=none) (w:=Gk _ _ _ _ _) (by unfold cB;simp only[ho,ha,hb];rfl) (by unfold evalW;simp only[ho,ha,hb,hwd,cond_false]) h
    ·cases h
 ·rw[←e]at h
  exact la (q:=none) (w:=dO _ _ _ _ _ _) (by unfold cB;simp only[ho]) (by unfold evalW;simp only[ho]) h
 ·rw[←e]at h
  exact la (q:=none) (w:=dO _ _ _ _ _ _) (by unfold cB;simp only[ho]) (by unfold evalW;simp only[ho]) h
 ·rw[←e]at h
  exact la (q:=none) (w:=eF _ _ _ _ _) (by unfold cB;simp only[ho]) (by unfold evalW;simp only[ho]) h
 ·rw[←e]at h
  exact la (q:=none) (w:=dn _ _ _ _) (by unfold cB;simp only[ho]) (by unfold evalW;simp only[ho]) h
 ·rw[←e]at h
  exact la (q:=none) (w:=oF _ _ _ _ _) (by unfold cB;simp only[ho]) (by unfold evalW;simp only[ho]) h
 ·rw[←e]at h
  exact la (q:=none) (w:=wF _ _ _) (by unfold cB;simp only[ho]) (by unfold evalW;simp only[ho]) h
 ·rw[←e]at h
  exact la (q:=none) (w:=ue _ _ _ _ _) (by unfold cB;simp only[ho]) (by unfold evalW;simp only[ho]) h
end
open Classical in
noncomputable def bj(E:Env)(f:FuncId)(args:List AV):Option AV :=
 if h : ∃y n,∀m,n≤m→dv E (ct E m) f args=some y then some h.choose else none
theorem wx{E:Env}{f:FuncId}{args:List AV}{y:AV}:bj E f args=some y ↔ ∃n,∀m,n≤m→dv E (ct E m) f args=some y:=by
 unfold bj
 constructor
 ·intro h
  split at h
  ·rename_i hh
   simp only[Option.some.injEq]at h
   rw[←h]
   exact hh.choose_spec
  ·cases h
 ·intro h
  rw[dif_pos ⟨y,h⟩]
  obtain⟨n,hn⟩:=h
  have hh : ∃y n,∀m,n≤m→dv E (ct E m) f args=some y:=⟨y,n,hn⟩
  obtain⟨n',hn'⟩:=hh.choose_spec
  have h1:=hn (max n n') (Nat.le_max_left ..)
  have h2:=hn' (max n n') (Nat.le_max_right ..)
  exact h2.symm.trans h1
open Classical in
noncomputable def bV(E:Env)(dep:Nat)(f:sn)(args:List AV)(H:ab):dz :=
 if h : ∃y n,∀m,n≤m→eH E (ct E m) dep f args H=some y then some h.choose else none
theorem rp{E:Env}{dep:Nat}{f:sn}{args:List AV}{H:ab}{y:AV × ab}:bV E dep f args H=some y ↔ ∃n,∀m,n≤m→eH E (ct E m) dep f args H=some y:=by
 unfold bV
 constructor
 ·intro h
  split at h
  ·rename_i hh
   simp only[Option.some.injEq]at h
   rw[←h]
   exact hh.choose_spec
  ·cases h
 ·intro h
  rw[dif_pos ⟨y,h⟩]
  obtain⟨n,hn⟩:=h
  have hh : ∃y n,∀m,n≤m→eH E (ct E m) dep f args H=some y:=⟨y,n,hn⟩
  obtain⟨n',hn'⟩:=hh.choose_spec
  have h1:=hn (max n n') (Nat.le_max_left ..)
  have h2:=hn' (max n n') (Nat.le_max_right ..)
  exact h2.symm.trans h1
theorem Iq{E:Env}{wk:Bool}{dep:Nat}{H H':ab}{r:Ref}{f:Option AV}{args:List AV}{v:AV}(h:bo E wk (bj E) (bV E dep) H r f args=some (v,H')) :
 ∃n,∀m,n≤m→bo E wk (dv E (ct E m)) (eH E (ct E m) dep) H r f args=some (v,H'):=by
 unfold bo at h ⊢
 by_cases hf : ∃fi first captured,f=some (.fn (.func fi) first captured)
 ·obtain⟨fi,first,captured,rfl⟩:=hf
  by_cases h2:E.mode fi=2
  ·simp only[ik,kJ,if_pos h2,bm,A3]at h ⊢
   cases wk with
   | true =>
    simp only[cond_true]at h ⊢
    obtain⟨n,hn⟩:=rp.1 h
    exact⟨n,hn⟩
   | false=>simp at h
  ·simp only[ik,kJ,if_neg h2]at h ⊢
   cases hx:(first++args++captured).mapM (view H.get depth) with
   | none=>rw[hx]at h;simp[bm,A3]at h
   | some xs =>
    rw[hx]at h
    dsimp only at h ⊢
    cases hy:bj E fi xs with
    | none=>rw[hy]at h;simp[bm,A3]at h
    | some y =>
     rw[hy]at h
     obtain⟨n,hn⟩:=wx.1 hy
     refine⟨n,fun m hm=>?_⟩
     rw[hn m hm]
     exact h
 ·have h1 : ∀pc,ik E pc H.get r f args=none:=by
   intro pc
   unfold ik
   split
   ·exact(hf ⟨_,_,_,rfl⟩).elim
   ·rfl
  by_cases hy : ∃q,f=some (.yld q)
  ·obtain⟨q,rfl⟩:=hy
   rw[h1]at h
   cases wk with
   | false=>simp[bm,A3]at h
   | true =>
    have h':bV E dep (.yld q) args H=some (v,H'):=h
    obtain⟨n,hn⟩:=rp.1 h'
    refine⟨n,fun m hm=>?_⟩
    rw[h1]
    exact hn m hm
  ·have h2 : ∀pc tc,kJ E pc tc H r f args=none:=by
    intro pc tc
    unfold kJ
    split
    ·exact(hf ⟨_,_,_,rfl⟩).elim
    ·exact(hy ⟨_,rfl⟩).elim
    ·rfl
   rw[h1,h2]at h
   cases wk<;>simp[bm,A3]at h
theorem Bt{sm:IB}{H H':ab}{x:dz}{v:AV}(h:m3 true sm H x=some (v,H')) : ∃H1,x=some (v,H1)∧H'=H∧flat depth v=true∧(CB H H1||sm.f H H1)=true:=by
 cases x with
 | none=>simp[m3]at h
 | some p =>
  obtain⟨y,H1⟩:=p
  unfold m3 at h
  simp only at h
  split at h
  ·rename_i hc
   cases h
   rw[Bool.and_eq_true]at hc
   exact⟨H1,rfl,rfl,hc.1,hc.2⟩
  ·cases h
theorem F4{E:Env}{wk:Bool}{dep:Nat}{H H':ab}{r:Ref}{f:Option AV}{args:List AV}{v:AV}(h:kN E wk (bj E) (bV E dep) H r f args=some (v,H')) :
 ∃n,∀m,n≤m→kN E wk (dv E (ct E m)) (eH E (ct E m) dep) H r f args=some (v,H'):=by
 unfold kN at h ⊢
 by_cases hf : ∃fi first captured,f=some (.fn (.func fi) first captured)
 ·obtain⟨fi,first,captured,rfl⟩:=hf
  by_cases h2:E.mode fi=2
  ·simp only[ik,kJ,if_pos h2,bm,A3,Option.map_none]at h ⊢
   cases wk with
   | true =>
    simp only[cond_true]at h ⊢
    obtain⟨H1,e1,e2,e3,e4⟩:=Bt h
    obtain⟨n,hn⟩:=rp.1 e1
    refine⟨n,fun m hm=>?_⟩
    rw[hn m hm]
    rw[e1]at h
    exact h
   | false=>simp at h
  ·simp only[ik,kJ,if_neg h2]at h ⊢
   cases hx:(first++args++captured).mapM (view H.get depth) with
   | none=>rw[hx]at h;simp[bm,A3,m3]at h
   | some xs =>
    rw[hx]at h
    dsimp only at h ⊢
    cases hy:bj E fi xs with
    | none=>rw[hy]at h;simp[bm,A3,m3]at h
    | some y =>
     rw[hy]at h
     obtain⟨n,hn⟩:=wx.1 hy
     refine⟨n,fun m hm=>?_⟩
     rw[hn m hm]
     exact h
 ·have h1 : ∀pc,ik E pc H.get r f args=none:=by
   intro pc
   unfold ik
   split
   ·exact(hf ⟨_,_,_,rfl⟩).elim
   ·rfl
  by_cases hy : ∃q,f=some (.yld q)
  ·obtain⟨q,rfl⟩:=hy
   rw[h1]at h
   cases wk with
   | false=>simp[bm,A3]at h
   | true =>
    have h':m3 true E.sm H (bV E dep (.yld q) args H)=some (v,H'):=h
    obtain⟨H1,e1,_⟩:=Bt h'
    obtain⟨n,hn⟩:=rp.1 e1
    refine⟨n,fun m hm=>?_⟩
    rw[h1]
    show m3 true E.sm H (eH E (ct E m) dep (.yld q) args H)=_
    rw[hn m hm]
    rw[e1]at h'
    exact h'
  ·have h2 : ∀pc tc,kJ E pc tc H r f args=none:=by
    intro pc tc
    unfold kJ
    split
    ·exact(hf ⟨_,_,_,rfl⟩).elim
    ·exact(hy ⟨_,rfl⟩).elim
    ·rfl
   rw[h1,h2]at h
   cases wk<;>simp[bm,A3,m3]at h
theorem EE{E:Env}{dep:Nat}{draw wk:Bool}{s:dK}{H:ab}{r:Ref}{o:Oper} :
 (∀q v,sI E (bj E) (bV E dep) dep draw wk s H r o = .inl q→q=some (v,[]) →∃n,∀m,n≤m→sI E (dv E (ct E m)) (eH E (ct E m) dep) dep draw wk s H r o = .inl (some (v,[]))) ∧
 (∀w v H',sI E (bj E) (bV E dep) dep draw wk s H r o = .inr w→w=some (v,H') →∃n,∀m,n≤m→sI E (dv E (ct E m)) (eH E (ct E m) dep) dep draw wk s H r o = .inr (some (v,H'))):=by
 constructor
 ·intro q v h hq
  subst hq
  refine⟨0,fun m _=>?_⟩
  unfold sI at h ⊢
  generalize o.op=op at h ⊢
  cases op
  all_goals try exact h
  case makeMap a b=>cases b<;>exact h
  rename_i c
  dsimp only at h ⊢
  cases ha:yT (cJ s) c.args.toList with
  | none=>rw[ha]at h;exact h
  | some args =>
   rw[ha]at h
   dsimp only at h ⊢
   cases hc:c.callee with
   | value f =>
    rw[hc]at h
    dsimp only at h ⊢
    cases hov:AB E.pP draw f with
    | some t=>rw[hov]at h;exact h
    | none=>rw[hov]at h;dsimp only at h;split at h<;>cases h
   | invoke a b=>rw[hc]at h;exact h
   | builtin b=>rw[hc]at h;exact h
 ·intro w v H' h hw
  subst hw
  unfold sI at h ⊢
  generalize o.op=op at h ⊢
  cases op
  all_goals try (exact⟨0,fun m _=>h⟩)
  case makeMap a b=>cases b<;>exact⟨0,fun m _=>h⟩
  rename_i c
  dsimp only at h ⊢
  cases ha:yT (cJ s) c.args.toList with
  | none=>rw[ha]at h;cases h
  | some args =>
   rw[ha]at h
   dsimp only at h ⊢
   cases hc:c.callee with
   | value f =>
    rw[hc]at h
    dsimp only at h ⊢
    cases hov:AB E.pP draw f with
    | some t=>rw[hov]at h;cases h
    | none =>
    rw[hov]at h
    dsimp only at h ⊢
    cases hfz:E.jb o with
    | true =>
     rw[hfz]at h
     simp only[Sum.inr.injEq]at h
     obtain⟨n,hn⟩:=F4 h
     exact⟨n,fun m hm=>congrArg _ (hn m hm)⟩
    | false =>
     rw[hfz]at h
     simp only[Sum.inr.injEq]at h
     obtain⟨n,hn⟩:=Iq h
     exact⟨n,fun m hm=>congrArg _ (hn m hm)⟩
   | invoke a b=>rw[hc]at h;cases h
   | builtin b=>rw[hc]at h;exact⟨0,fun m _=>h⟩
abbrev Mk{α:Type}(a:α):Type:=Unit
structure ak (q:gz) (K:AV→Prop) (m:Mk K:=()):Prop where
 h : ∃v,q=some (v,[])∧K v
structure aO (w:dz) (K:AV→ab→Prop) (m:Mk K:=()):Prop where
 h : ∃v H,w=some (v,H)∧K v H
def Rr(x:AV)(want:Bool):Option Bool :=
 match x with
 | .v (.bool b)=>some (b == want)
 | .v (.tuple vs)=>if vs.isEmpty then some false else none
 | _=>none
def gd(x:AV)(want:Bool)(A B:Prop):Prop :=
 match Rr x want with
 | some true=>A
 | some false=>B
 | none=>False
structure gQ (x:AV) (want:Bool) (q:gz) (K:AV→Prop) (m:Mk (q,K):=()):Prop where
 h:gd x want (ak q K) (K AV.undef)
structure gW (x:AV) (want:Bool) (H:ab) (w:dz) (K:AV→ab→Prop) (m:Mk (w,K):=()):Prop where
 h:gd x want (aO w K) (K AV.undef H)
def brP(x:Option AV)(A B:Prop):Prop :=
 match x.bind Am with
 | some b=>cond b A B
 | none=>False
structure br (x:Option AV) (A B:Prop) (m:Mk (A,B):=()):Prop where
 h:brP x A B
def FL(ops:Array Oper)(s:dK)(o:Oper):Option (Option (AV × Bool)) :=
 match o.guard with
 | none=>none
 | some (j,want)=>match (ops[j]?).bind (·.dst) with
  | some t=>some (some (s t,want))
  | none=>some none
def DG(nt:Nat)(s:dK)(dst:Option Tmp)(v:AV)(K:dK→Prop):Prop :=
 match dst with
 | none=>K s
 | some d=>cond (Nat.blt d nt) (K (z3 s d v)) False
def wpOp(E:Env)(nt dep:Nat)(draw:Bool)(ops:Array Oper)(o:Oper)(s:dK)(H:ab)(K:dK→ab→Prop):Prop :=
 match sI E (bj E) (bV E dep) dep draw (!(draw && !gB E o)) s H ⟨dep,o.dst.getD 0,H.gen dep (o.dst.getD 0),0⟩ o with
 | .inl q=>match FL ops s o with
  | none=>(match o.op with
   | .move x | .assign x=>(match cJ s x with
    | some v=>DG nt s o.dst v fun s=>K s H
    | none=>False)
   | _=>ak q fun v=>DG nt s o.dst v fun s=>K s H)
  | some (some (x,want))=>gQ x want q fun v=>DG nt s o.dst v fun s=>K s H
  | some none=>DG nt s o.dst AV.undef fun s=>K s H
 | .inr w=>match FL ops s o with
  | none=>aO w fun v H=>DG nt s o.dst v fun s=>K s H
  | some (some (x,want))=>gW x want H w fun v H=>DG nt s o.dst v fun s=>K s H
  | some none=>DG nt s o.dst AV.undef fun s=>K s H
def wpOps(E:Env)(nt dep:Nat)(draw:Bool)(ops:Array Oper):List Oper→dK→ab→(dK→ab→Prop)→Prop
 | [],s,H,K=>K s H
 | o :: os,s,H,K=>wpOp E nt dep draw ops o s H fun s H=>wpOps E nt dep draw ops os s H K
def Fin(E:Env)(fn:Func)(rd:Option Ref)(o:Option St)(y:AV)(H':ab):Prop:=match rd with
 | none =>∃st,o=some st∧qm E.P fn st=some y∧st.hp=H'
 | some r =>∃st n,o=r8 (some r) st n∧y = .v (.int .i64 (n:Nat))∧st.hp=H'
def Goes(E:Env)(fn:Func)(rd:Option Ref)(dep:Nat)(items:List Item)(s:dK)(H:ab)(Q:AV→ab→Prop):Prop :=
 ∀tm,dX tm s →∃y H',Q y H' ∧∃n,∀m,n≤m→Fin E fn rd (ct E m rd fn.ntmps dep items ⟨tm,H⟩) y H'
def Kw(g:dK):List (Nat × AV)→dK
 | [],i=>g i
 | (j,v) :: l,i=>cond (Nat.beq i j) v (Kw g l i)
structure Rm (E:Env) (fn:Func) (rd:Option Ref) (dep:Nat) (items:List Item) (l:List (Nat × AV)) (H:ab) (Q:AV→ab→Prop):Prop where
 h : ∀g,Goes E fn rd dep items (Kw g l) H Q
abbrev bT(E:Env)(fn:Func)(dep:Nat)(items:List Item)(l:List (Nat × AV))(H:ab)(Q:AV→ab→Prop):Prop:=Rm E fn none dep items l H Q
def yx(s:dK):List Nat→List (Nat × AV)
 | []=>[]
 | t :: ts=>(t,s t) :: yx s ts
theorem N2(s:dK)(l:List Nat):Kw s (yx s l)=s:=by
 induction l with
 | nil=>rfl
 | cons t l ih =>
  funext i
  show cond (Nat.beq i t) (s t) (Kw s (yx s l) i)=s i
  rw[ih]
  cases h:Nat.beq i t with
  | true=>rw[Nat.eq_of_beq_eq_true h];rfl
  | false=>rfl
def jj:Code→Option Nat
 | .region id _ _=>some id
 | .seq a b=>match jj a with
  | some i=>some i
  | none=>jj b
 | .cond _ a b=>match jj a with
  | some i=>some i
  | none=>jj b
 | .block _ c | .loop c | .scope c=>jj c
 | _=>none
def du(P:Program)(H:ab)(x:AV)(t:TypeId):gz :=
 match x,dD P t,aU P t with
 | .ptr r i j,some g,some n=>match H.get r with
  | some b=>cF (eL b.es i j n g)
  | none=>none
 | _,_,_=>none
def pack:List AV→AV
 | [] => .v (.tuple #[])
 | [x]=>x
 | xs => .tup xs
def Bs(P:Program)(s:dK)(H:ab)(Q:AV→ab→Prop):List ResultVar→List AV→Prop
 | [],acc=>Q (pack acc.reverse) H
 | .tmp t :: rs,acc=>Bs P s H Q rs (s t :: acc)
 | .cell a t :: rs,acc=>ak (du P H (s a) t) fun v=>Bs P s H Q rs (v :: acc)
def nJ(x y:AV):Bool:=match gJ x,gJ y with
 | some r,some r'=>decide (r≠r')
 | _,_=>true
def rV(H:ab)(x:AV):Bool:=match x with
 | .ptr r _ _=>(match H.get r with
  | some b => !b.arr
  | none=>false)
 | _=>true
def bsV(x:AV):Bool:=match x with
 | .cM .. => true
 | .v _=>true
 | _=>false
def NA(s:dK)(p:Tmp × Tmp):Bool:=nJ (s p.1) (s p.2)
def BS(s:dK)(H:ab)(o:Oper):Bool:=match o.op with
 | .store _ (.tmp t) _=>rV H (s t)
 | _=>true
def KV(E:Env)(s:dK)(o:Oper):Bool := !(E.jb o&&wE o.op)||(match Sv o.op with
 | some t=>bsV (s t)
 | none=>false)
def O6(E:Env)(l:List (Tmp × Tmp))(ops:Array Oper)(s:dK)(H:ab):Prop:=l.all (NA s)=true∧ops.toList.all (BS s H)=true∧ops.toList.all (KV E s)=true
def kH(l:List (AV × AV))(st bs:List AV)(H:ab):Prop:=(l.all fun p=>nJ p.1 p.2)=true∧st.all (rV H)=true∧bs.all bsV=true
def RC(assign body:Code):Nat:=match jj (.seq assign body) with
 | some i=>i+10000
 | none=>10000
structure bgP (o:Option (Nat × AV)) (K:AV→Prop) (m:Mk K:=()):Prop where
 h : ∃info,o=some (0,info)∧K info
def Gg(P:Program)(fn:Func)(rd:Option Ref)(code:Nat)(s:dK)(H:ab)(Q:AV→ab→Prop):Prop:=match rd with
 | none=>cond (Nat.ble code 2) (Bs P s H Q fn.results.toList []) False
 | some _=>Q (.v (.int .i64 code)) H
def wp(E:Env)(fn:Func)(rd:Option Ref)(dep:Nat)(live:Nat→Option (List Nat))(cut:Nat→Bool)(Q:AV→ab→Prop):Nat→List Item→dK→ab→Prop
 | 0,items,s,H=>Goes E fn rd dep items s H Q
 | n+1,items,s,H =>
  match items with
  | []=>Gg E.P fn rd 0 s H Q
  | .beginRound :: k=>(match rd with
   | none=>False
   | some r=>bgP (tE H r) fun info=>wp E fn rd dep live cut Q n k s (H.put r (some (iC 1 info))))
  | .code c :: k =>
   (match c with
   | .skip | .label _=>wp E fn rd dep live cut Q n k s H
   | .ret=>Gg E.P fn rd 2 s H Q
   | .seq a b=>wp E fn rd dep live cut Q n (.code a :: .code b :: k) s H
   | .cond c a b=>br (cJ s c) (wp E fn rd dep live cut Q n (.code a :: k) s H) (wp E fn rd dep live cut Q n (.code b :: k) s H)
   | .block id b=>wp E fn rd dep live cut Q n (.code b :: .inBlock id :: k) s H
   | .scope b=>wp E fn rd dep live cut Q n (.code b :: .inScope b :: k) s H
   | .loop b=>(match (jj b).bind live with
    | some l=>Rm E fn rd dep (.inLoop b :: k) (yx s l) H Q
    | none=>Goes E fn rd dep (.inLoop b :: k) s H Q)
   | .exit id=>(match exitTo id k with
    | some k'=>wp E fn rd dep live cut Q n k' s H
    | none=>Gg E.P fn rd (id+3) s H Q)
   | .rangeFunc g ps a b=>(match live (RC a b) with
    | some l=>Rm E fn rd dep (.code (.rangeFunc g ps a b) :: k) (yx s l) H Q
    | none=>Goes E fn rd dep (.code (.rangeFunc g ps a b) :: k) s H Q)
   | .region id ops draw=>(match cut id with
    | true=>(match live id with
     | some l=>Rm E fn rd dep (.code (.region id ops draw) :: k) (yx s l) H Q
     | none=>False)
    | false=>wpOps E fn.ntmps dep draw ops ops.toList s H fun s H =>
     (match draw,oc E ops with
     | true,p :: ps=>O6 E (p :: ps) ops s H∧wp E fn rd dep live cut Q n k s H
     | _,_=>wp E fn rd dep live cut Q n k s H))
   | _=>False)
  | .inLoop b :: k=>(match (jj b).bind live with
   | some l=>Rm E fn rd dep (.inLoop b :: k) (yx s l) H Q
   | none=>Goes E fn rd dep (.inLoop b :: k) s H Q)
  | .inBlock _ :: k | .inScope _ :: k=>wp E fn rd dep live cut Q n k s H
  | _=>False
theorem o8{ops:Array Oper}{tm:List AV}{s:dK}(h:dX tm s)(o:Oper):wanted ops tm o=(match FL ops s o with
 | none=>some true
 | some (some (x,want))=>Rr x want
 | some none=>some false):=by
 unfold wanted FL
 split
 ·rename_i hg;rw[hg]
 ·rename_i j want hg
  rw[hg]
  dsimp only
  split
  ·rename_i t ht
   rw[ht]
   dsimp only
   rw[h t]
   rfl
  ·rename_i ht
   rw[ht]
theorem rf{nt:Nat}{s:dK}{dst:Option Tmp}{v:AV}{K:dK→Prop}(h:DG nt s dst v K) : ∃s',K s' ∧∀tm,dX tm s →∃tm',dq nt tm dst v=some tm'∧dX tm' s':=by
 unfold DG at h
 cases dst with
 | none=>exact⟨s,h,fun tm ht=>⟨tm,rfl,ht⟩⟩
 | some d =>
  dsimp only at h
  cases hd:Nat.blt d nt with
  | false=>rw[hd]at h;exact h.elim
  | true =>
   rw[hd]at h
   refine⟨_,h,fun tm ht=>⟨_,?_,ht.set d v⟩⟩
   have hlt:d<nt:=Nat.le_of_ble_eq_true hd
   simp only[dq,if_pos hlt]
theorem PE{E:Env}{nt dep:Nat}{draw:Bool}{ops:Array Oper}{o:Oper}{s:dK}{H:ab}{K:dK→ab→Prop}(h:wpOp E nt dep draw ops o s H K) :
 ∃s' H',K s' H' ∧∀tm,dX tm s →∃tm',dX tm' s' ∧∃n,∀m,n≤m→evalOp E (dv E (ct E m)) (eH E (ct E m) dep) nt dep draw ops o ⟨tm,H⟩=some ⟨tm',H'⟩:=by
 have run : ∀(v:AV)(H':ab)(s':dK),(∀tm,dX tm s→wanted ops tm o=some true)→(∃n,∀m,n≤m →∀tm,dX tm s→m9 E (dv E (ct E m)) (eH E (ct E m) dep) dep draw tm H o=some (v,H')) →
  (∀tm,dX tm s →∃tm',dq nt tm o.dst v=some tm'∧dX tm' s') →
  ∀tm,dX tm s →∃tm',dX tm' s' ∧∃n,∀m,n≤m→evalOp E (dv E (ct E m)) (eH E (ct E m) dep) nt dep draw ops o ⟨tm,H⟩=some ⟨tm',H'⟩:=by
  intro v H' s' hw ⟨n,hn⟩ hp tm ht
  obtain⟨tm',h1,h2⟩:=hp tm ht
  refine⟨tm',h2,n,fun m hm=>?_⟩
  rw[CL]
  dsimp only
  rw[hw tm ht,hn m hm tm ht]
  dsimp only
  rw[h1]
  rfl
 have skip : ∀(s':dK),(∀tm,dX tm s→wanted ops tm o=some false)→(∀tm,dX tm s →∃tm',dq nt tm o.dst AV.undef=some tm'∧dX tm' s') →
  ∀tm,dX tm s →∃tm',dX tm' s' ∧∃n,∀m,n≤m→evalOp E (dv E (ct E m)) (eH E (ct E m) dep) nt dep draw ops o ⟨tm,H⟩=some ⟨tm',H⟩:=by
  intro s' hw hp tm ht
  obtain⟨tm',h1,h2⟩:=hp tm ht
  refine⟨tm',h2,0,fun m _=>?_⟩
  rw[CL]
  dsimp only
  rw[hw tm ht]
  dsimp only
  rw[h1]
  rfl
 unfold wpOp at h
 split at h
 ·rename_i q hq
  have evq : ∀v,q=some (v,[]) →∃n,∀m,n≤m →∀tm,dX tm s→m9 E (dv E (ct E m)) (eH E (ct E m) dep) dep draw tm H o=some (v,H):=by
   intro v hv
   obtain⟨n,hn⟩:=EE.1 q v hq hv
   exact⟨n,fun m hm tm ht=>QC ht (hn m hm) rfl⟩
  split at h
  ·rename_i hg
   have hw : ∀tm,dX tm s→wanted ops tm o=some true:=fun tm ht=>by rw[o8 ht,hg]
   have fromQ : ∀v,q=some (v,[])→DG nt s o.dst v (fun s=>K s H) →∃s' H',K s' H' ∧∀tm,dX tm s →∃tm',dX tm' s' ∧∃n,∀m,n≤m→evalOp E (dv E (ct E m)) (eH E (ct E m) dep) nt dep draw ops o ⟨tm,H⟩=some ⟨tm',H'⟩:=by
    intro v hv hp
    obtain⟨s',hK,hp⟩:=rf hp
    exact⟨s',H,hK,run v H s' hw (evq v hv) hp⟩
   split at h
   ·rename_i x ho
    split at h
    ·rename_i v hv
     refine fromQ v ?_ h
     unfold sI at hq
     simp only[ho,Sum.inl.injEq,hv]at hq
     rw[←hq];rfl
    ·exact h.elim
   ·rename_i x ho
    split at h
    ·rename_i v hv
     refine fromQ v ?_ h
     unfold sI at hq
     simp only[ho,Sum.inl.injEq,hv]at hq
     rw[←hq];rfl
    ·exact h.elim
   ·obtain⟨v,hv,h⟩:=h.h
    exact fromQ v hv h
  ·rename_i x want hg
   replace h:=h.h
   unfold gd at h
   split at h
   ·rename_i hx
    obtain⟨v,hv,h⟩:=h.h
    obtain⟨s',hK,hp⟩:=rf h
    exact⟨s',H,hK,run v H s' (fun tm ht=>by rw[o8 ht,hg];exact hx) (evq v hv) hp⟩
   ·rename_i hx
    obtain⟨s',hK,hp⟩:=rf h
    exact⟨s',H,hK,skip s' (fun tm ht=>by rw[o8 ht,hg];exact hx) hp⟩
   ·exact h.elim
  ·rename_i hg
   obtain⟨s',hK,hp⟩:=rf h
   exact⟨s',H,hK,skip s' (fun tm ht=>by rw[o8 ht,hg]) hp⟩
 ·rename_i w hw
  have evw : ∀v H',w=some (v,H') →∃n,∀m,n≤m →∀tm,dX tm s→m9 E (dv E (ct E m)) (eH E (ct E m) dep) dep draw tm H o=some (v,H'):=by
   intro v H' hv
   obtain⟨n,hn⟩:=EE.2 w v H' hw hv
   exact⟨n,fun m hm tm ht=>QB ht (hn m hm) rfl⟩
  split at h
  ·rename_i hg
   obtain⟨v,H',hv,h⟩:=h.h
   obtain⟨s',hK,hp⟩:=rf h
   exact⟨s',H',hK,run v H' s' (fun tm ht=>by rw[o8 ht,hg]) (evw v H' hv) hp⟩
  ·rename_i x want hg
   replace h:=h.h
   unfold gd at h
   split at h
   ·rename_i hx
    obtain⟨v,H',hv,h⟩:=h.h
    obtain⟨s',hK,hp⟩:=rf h
    exact⟨s',H',hK,run v H' s' (fun tm ht=>by rw[o8 ht,hg];exact hx) (evw v H' hv) hp⟩
   ·rename_i hx
    obtain⟨s',hK,hp⟩:=rf h
    exact⟨s',H,hK,skip s' (fun tm ht=>by rw[o8 ht,hg];exact hx) hp⟩
   ·exact h.elim
  ·rename_i hg
   obtain⟨s',hK,hp⟩:=rf h
   exact⟨s',H,hK,skip s' (fun tm ht=>by rw[o8 ht,hg]) hp⟩
theorem Gf{E:Env}{nt dep:Nat}{draw:Bool}{ops:Array Oper}{K:dK→ab→Prop} : ∀ {l:List Oper} {s:dK} {H:ab},wpOps E nt dep draw ops l s H K →
 ∃s' H',K s' H' ∧∀tm,dX tm s →∃tm',dX tm' s' ∧∃n,∀m,n≤m→kY E (dv E (ct E m)) (eH E (ct E m) dep) nt dep draw ops l ⟨tm,H⟩=some ⟨tm',H'⟩:=by
 intro l
 induction l with
 | nil=>intro s H h;exact⟨s,H,h,fun tm ht=>⟨tm,ht,0,fun m _=>rfl⟩⟩
 | cons o l ih =>
  intro s H h
  obtain⟨s1,H1,h1,hn1⟩:=PE h
  obtain⟨s2,H2,h2,hn2⟩:=ih h1
  refine⟨s2,H2,h2,fun tm ht=>?_⟩
  obtain⟨tm1,t1,n1,e1⟩:=hn1 tm ht
  obtain⟨tm2,t2,n2,e2⟩:=hn2 tm1 t1
  exact⟨tm2,t2,max n1 n2,fun m hm=>by simp only[kY,e1 m (by omega),e2 m (by omega)]⟩
theorem MA{P:Program}{fn:Func}{s:dK}{H:ab}{Q:AV→ab→Prop} : ∀ {rs:List ResultVar} {acc:List AV},Bs P s H Q rs acc →
 ∃ys,Q (pack (acc.reverse++ys)) H ∧∀tm,dX tm s→rs.mapM (iA P ⟨tm,H⟩)=some ys:=by
 intro rs
 induction rs with
 | nil=>intro acc h;exact⟨[],by simpa [Bs] using h,fun tm _=>rfl⟩
 | cons r rs ih =>
  intro acc h
  cases r with
  | tmp t =>
   obtain⟨ys,h1,h2⟩:=ih h
   refine⟨s t :: ys,by simpa using h1,fun tm ht=>?_⟩
   simp only[List.mapM_cons,iA,h2 tm ht,ht t,Option.pure_def,Option.bind_eq_bind,Option.bind_some]
  | cell a t =>
   obtain⟨v,hv,h⟩:=h.h
   obtain⟨ys,h1,h2⟩:=ih h
   refine⟨v :: ys,by simpa using h1,fun tm ht=>?_⟩
   have hr:iA P ⟨tm,H⟩ (.cell a t)=some v:=by
    unfold du at hv
    simp only[iA,ht a]
    split at hv
    ·rename_i r i j g n h3 h4 h5
     rw[h3,h4,h5]
     dsimp only
     split at hv
     ·rename_i b hb
      rw[hb]
      dsimp only
      simp only[cF,Option.map_eq_some_iff]at hv
      obtain⟨z,hz,e⟩:=hv
      cases e
      exact hz
     ·cases hv
    ·cases hv
   simp only[List.mapM_cons,hr,h2 tm ht,Option.pure_def,Option.bind_eq_bind,Option.bind_some]
theorem GV{E:Env}{fn:Func}{s:dK}{H:ab}{Q:AV→ab→Prop}(h:Bs E.P s H Q fn.results.toList []) : ∃y,Q y H ∧∀tm,dX tm s→qm E.P fn ⟨tm,H⟩=some y:=by
 obtain⟨ys,h1,h2⟩:=MA (fn:=fn) h
 refine⟨pack ys,by simpa using h1,fun tm ht=>?_⟩
 unfold qm
 rw[h2 tm ht]
 match ys with
 | []=>rfl
 | [x]=>rfl
 | x :: y :: zs=>rfl
theorem lU{E:Env}{fn:Func}{rd:Option Ref}{dep:Nat}{items items':List Item}{s:dK}{H:ab}{Q:AV→ab→Prop}
 (hs : ∀n tm,ct E (n+1) rd fn.ntmps dep items ⟨tm,H⟩=ct E n rd fn.ntmps dep items' ⟨tm,H⟩) (h:Goes E fn rd dep items' s H Q):Goes E fn rd dep items s H Q:=by
 intro tm ht
 obtain⟨y,H',hQ,n,hn⟩:=h tm ht
 refine⟨y,H',hQ,n+1,fun m hm=>?_⟩
 obtain⟨m,rfl⟩ : ∃m',m=m'+1:=⟨m - 1,by omega⟩
 rw[hs]
 exact hn m (by omega)
theorem L8{E:Env}{fn:Func}{rd:Option Ref}{dep:Nat}{b:Code}{k:List Item}{s:dK}{H:ab}{Q:AV→ab→Prop}(h:Goes E fn rd dep (.code b :: .inLoop b :: k) s H Q):Goes E fn rd dep (.inLoop b :: k) s H Q :=
 lU (fun n tm=>by simp only[ct]) h
theorem JK{E:Env}{fn:Func}{rd:Option Ref}{dep:Nat}{b:Code}{k:List Item}{s:dK}{H:ab}{Q:AV→ab→Prop}(h:Goes E fn rd dep (.inLoop b :: k) s H Q):Goes E fn rd dep (.code (.loop b) :: k) s H Q:=by
 intro tm ht
 obtain⟨y,H',hQ,n,hn⟩:=h tm ht
 refine⟨y,H',hQ,n+1,fun m hm=>?_⟩
 obtain⟨m,rfl⟩ : ∃m',m=m'+1:=⟨m - 1,by omega⟩
 have:=hn (m+1) (by omega)
 have e:ct E (m+1) rd fn.ntmps dep (.code (.loop b) :: k) ⟨tm,H⟩=ct E (m+1) rd fn.ntmps dep (.inLoop b :: k) ⟨tm,H⟩:=by simp only[ct]
 rw[e]
 exact this
theorem ES{E:Env}{fn:Func}{rd:Option Ref}{dep:Nat}{items:List Item}{s:dK}{l:List Nat}{H:ab}{Q:AV→ab→Prop}(h:Rm E fn rd dep items (yx s l) H Q):Goes E fn rd dep items s H Q:=by
 have:=h.h s
 rwa [N2]at this
theorem CE{E:Env}{fn:Func}{rd:Option Ref}{dep code:Nat}{items:List Item}{s:dK}{H:ab}{Q:AV→ab→Prop}
 (hs : ∀n tm,rd.isSome=true∨code≤2→ct E (n+1) rd fn.ntmps dep items ⟨tm,H⟩=(match rd with | none=>some ⟨tm,H⟩ | some r=>r8 (some r) ⟨tm,H⟩ code)) (h:Gg E.P fn rd code s H Q):Goes E fn rd dep items s H Q:=by
 intro tm ht
 cases rd with
 | none =>
  unfold Gg at h
  dsimp only at h
  cases hc:Nat.ble code 2 with
  | false=>rw[hc]at h;exact h.elim
  | true =>
   rw[hc]at h
   obtain⟨y,hQ,hr⟩:=GV h
   refine⟨y,H,hQ,1,fun m hm=>?_⟩
   obtain⟨m,rfl⟩ : ∃m',m=m'+1:=⟨m - 1,by omega⟩
   exact⟨⟨tm,H⟩,hs m tm (.inr (Nat.le_of_ble_eq_true hc)),hr tm ht,rfl⟩
 | some r =>
  refine⟨.v (.int .i64 code),H,h,1,fun m hm=>?_⟩
  obtain⟨m,rfl⟩ : ∃m',m=m'+1:=⟨m - 1,by omega⟩
  exact⟨⟨tm,H⟩,code,hs m tm (.inl rfl),rfl,rfl⟩
theorem Mq{E:Env}{ops:Array Oper}{s:dK}{H:ab}{tm:List AV}(ht:dX tm s)(h:O6 E (oc E ops) ops s H):o6 E ops ⟨tm,H⟩=true:=by
 unfold o6
 rw[Bool.or_eq_true,Bool.and_eq_true]
 refine .inr ⟨?_,?_⟩
 ·refine Eq.trans ?_ h.1
  congr 1
  funext p
  unfold Az NA nJ
  rw[ht,ht]
  rfl
 ·rw[Bool.and_eq_true]
  refine⟨Eq.trans ?_ h.2.1,Eq.trans ?_ h.2.2⟩
  ·congr 1
   funext o
   unfold sC BS
   generalize o.op=op
   cases op<;>try rfl
   rename_i t a x
   cases a<;>try rfl
   rename_i t'
   dsimp only
   rw[ht t']
   rfl
  ·congr 1
   funext o
   unfold C8 KV
   congr 1
   cases Sv o.op with
   | none=>rfl
   | some t =>
    dsimp only
    rw[ht t]
    rfl
theorem aX{E:Env}{fn:Func}{rd:Option Ref}{dep:Nat}{live:Nat→Option (List Nat)}{cut:Nat→Bool}{Q:AV→ab→Prop} : ∀ {n:Nat} {items:List Item} {s:dK} {H:ab},
 wp E fn rd dep live cut Q n items s H→Goes E fn rd dep items s H Q:=by
 intro n
 induction n with
 | zero=>intro items s H h;exact h
 | succ n ih =>
  intro items s H h
  have told : ∀ {k:List Item} {x:Option (List Nat)},(match x with | some l=>Rm E fn rd dep k (yx s l) H Q | none=>Goes E fn rd dep k s H Q)→Goes E fn rd dep k s H Q:=by
   intro k x h
   cases x with
   | some l=>exact ES h
   | none=>exact h
  unfold wp at h
  split at h
  ·exact CE (fun n tm _=>by cases rd<;>simp only[ct]) h
  ·rename_i k
   split at h
   ·exact h.elim
   ·rename_i r
    obtain⟨info,hl,h⟩:=h.h
    intro tm ht
    obtain⟨y,H',hQ,n,hn⟩:=ih h tm ht
    refine⟨y,H',hQ,n+1,fun m hm=>?_⟩
    obtain⟨m,rfl⟩ : ∃m',m=m'+1:=⟨m - 1,by omega⟩
    have:=hn m (by omega)
    have e:ct E (m+1) (some r) fn.ntmps dep (.beginRound :: k) ⟨tm,H⟩=ct E m (some r) fn.ntmps dep k ⟨tm,H.put r (some (iC 1 info))⟩:=by simp only[ct,hl]
    rw[e]
    exact this
  ·rename_i c k
   split at h
   ·exact lU (fun n tm=>by simp only[ct]) (ih h)
   ·exact lU (fun n tm=>by simp only[ct]) (ih h)
   ·exact CE (fun n tm _=>by cases rd<;>simp[ct,r8]) h
   ·exact lU (fun n tm=>by simp only[ct]) (ih h)
   ·rename_i c a b
    replace h:=h.h
    unfold brP at h
    split at h
    ·rename_i bb hb
     have hg:Goes E fn rd dep (.code (cond bb a b) :: k) s H Q:=by cases bb<;>exact ih h
     intro tm ht
     obtain⟨y,H',hQ,n,hn⟩:=hg tm ht
     refine⟨y,H',hQ,n+1,fun m hm=>?_⟩
     obtain⟨m,rfl⟩ : ∃m',m=m'+1:=⟨m - 1,by omega⟩
     have:=hn m (by omega)
     have e:ct E (m+1) rd fn.ntmps dep (.code (.cond c a b) :: k) ⟨tm,H⟩=ct E m rd fn.ntmps dep (.code (cond bb a b) :: k) ⟨tm,H⟩:=by
      simp only[ct,sP ht,hb]
      cases bb<;>rfl
     rw[e]
     exact this
    ·exact h.elim
   ·exact lU (fun n tm=>by simp only[ct]) (ih h)
   ·exact lU (fun n tm=>by simp only[ct]) (ih h)
   ·exact JK (told h)
   ·rename_i id
    split at h
    ·rename_i k' hk
     exact lU (fun n tm=>by simp only[ct,hk]) (ih h)
    ·rename_i hk
     exact CE (fun n tm hc=>by
      simp only[ct,hk]
      cases rd with
      | none =>
       rcases hc with hc | hc
       ·cases hc
       ·omega
      | some r=>rfl) h
   ·exact told h
   ·rename_i id ops draw
    split at h
    ·split at h
     ·exact ES h
     ·exact h.elim
    ·obtain⟨s',H',h1,hn1⟩:=Gf h
     have h2:Goes E fn rd dep k s' H' Q ∧∀tm,dX tm s'→(draw && !o6 E ops ⟨tm,H'⟩)=false:=by
      cases draw with
      | false=>exact⟨ih h1,fun _ _=>rfl⟩
      | true =>
       cases hp:oc E ops with
       | nil =>
        rw[hp]at h1
        refine⟨ih h1,fun tm ht=>?_⟩
        unfold o6
        rw[hp]
        rfl
       | cons p ps =>
        rw[hp]at h1
        exact⟨ih h1.2,fun tm ht=>by rw[Mq ht (by rw[hp];exact h1.1)];rfl⟩
     obtain⟨hg,hap⟩:=h2
     intro tm ht
     obtain⟨tm1,t1,n1,e1⟩:=hn1 tm ht
     obtain⟨y,H2,hQ,n2,hn2⟩:=hg tm1 t1
     refine⟨y,H2,hQ,max n1 n2+1,fun m hm=>?_⟩
     obtain⟨m,rfl⟩ : ∃m',m=m'+1:=⟨m - 1,by omega⟩
     have:=hn2 m (by omega)
     have e:ct E (m+1) rd fn.ntmps dep (.code (.region id ops draw) :: k) ⟨tm,H⟩=ct E m rd fn.ntmps dep k ⟨tm1,H'⟩:=by
      simp only[ct,e1 m (by omega),hap tm1 t1]
      simp
     rw[e]
     exact this
   ·exact h.elim
  ·exact told h
  ·exact lU (fun n tm=>by simp only[ct]) (ih h)
  ·exact lU (fun n tm=>by simp only[ct]) (ih h)
  ·exact h.elim
def rI:Nat→List AV→List (Nat × AV)
 | _,[]=>[]
 | i,x :: xs=>(i,x) :: rI (i+1) xs
theorem Cc(args:List AV)(i:Nat):Kw (fun _=>AV.undef) (rI 0 args) i=cU args i:=by
 have : ∀(j:Nat)(l:List AV),Kw (fun _=>AV.undef) (rI j l) (j+i)=cU l i:=by
  induction i with
  | zero =>
   intro j l
   cases l with
   | nil=>rfl
   | cons x l =>
    show cond (Nat.beq (j+0) j) x _=x
    rw[show Nat.beq (j+0) j=true from by simp]
    rfl
  | succ i ih =>
   intro j l
   cases l with
   | nil=>rfl
   | cons x l =>
    show cond (Nat.beq (j+(i+1)) j) x (Kw (fun _=>AV.undef) (rI (j+1) l) (j+(i+1)))=cU l i
    have e:Nat.beq (j+(i+1)) j=false:=by
     cases h:Nat.beq (j+(i+1)) j with
     | false=>rfl
     | true=>have:=Nat.eq_of_beq_eq_true h;omega
    rw[e]
    show Kw _ _ _=_
    rw[←ih (j+1) l,show j+1+i=j+(i+1) by omega]
 simpa using this 0 args
def handed(E:Env)(f:FuncId)(x:AV)(H:ab)(y:AV):Prop :=
 if vj (E.mode f)=true then (aH H.get depth x).Nodup∧dN H.get depth x=some y else view H.get depth x=some y
theorem aK{E:Env}{f:FuncId}{fn:Func}{c:Code}{args:List AV}{y:AV}(hsp:E.spec f args=none)(hal:E.allowed f=true)(hf:E.P.funcs[f]?=some fn)(hc:fn.body=some c)(hl:Nat.ble args.length fn.ntmps=true)
 (h:bT E fn 0 [.code c] (rI 0 args) [] fun x H=>handed E f x H y):bj E f args=some y:=by
 rw[wx]
 obtain⟨x,H,hQ,n,hn⟩:=h.h (fun _=>AV.undef) args fun i=>(Cc args i).symm
 refine⟨n,fun m hm=>?_⟩
 obtain⟨st,h1,h2,h3⟩:=hn m hm
 subst h3
 unfold dv
 rw[hsp]
 unfold qA
 simp only[hal,if_true,hf,hc,if_pos (Nat.le_of_ble_eq_true hl),h1,h2,Option.map_some]
 unfold handed at hQ
 split
 ·rename_i h1
  rw[if_pos h1]at hQ
  rw[if_pos hQ.1]
  exact hQ.2
 ·rename_i h1
  rw[if_neg h1]at hQ
  exact hQ
theorem my{E:Env}{f:FuncId}{fn:Func}{c:Code}{dep:Nat}{args:List AV}{H:ab}{Q:AV→ab→Prop}(hm:E.mode f=2)(hal:E.allowed f=true)(hf:E.P.funcs[f]?=some fn)(hc:fn.body=some c)(hl:Nat.ble args.length fn.ntmps=true)
 (h:bT E fn (dep+1) [.code c] (rI 0 args) H Q) (hsp:E.thrSpec f args H=none:=by rfl) : ∃y H',bV E dep (.fn f) args H=some (y,H')∧Q y H':=by
 obtain⟨x,H1,hQ,n,hn⟩:=h.h (fun _=>AV.undef) args fun i=>(Cc args i).symm
 refine⟨x,H1,rp.2 ⟨n,fun m hm'=>?_⟩,hQ⟩
 obtain⟨st,h1,h2,h3⟩:=hn m hm'
 unfold eH
 dsimp only
 rw[hsp]
 dsimp only
 rw[if_pos hm]
 unfold qA
 simp only[hal,if_true,hf,hc,if_pos (Nat.le_of_ble_eq_true hl),h1,h2,Option.map_some,h3]
theorem On{E:Env}{fn:Func}{dep nt:Nat}{r:Ref}{f:FuncId}{ps:List Tmp}{assign body:Code}{tm:List AV}{args:List AV}{H:ab}{Q:AV→ab→Prop}
 (hl:tE H r=some (0,.lp f nt ps assign body tm)) (hn:fn.ntmps=nt) (hp:args.length=ps.length) (hps:ps.all (· < nt)=true) (ha:codeOk E.ok assign=true) (hb:codeOk E.ok body=true)
 (h:Goes E fn (some r) (dep+1) [.code assign,.beginRound,.code body] (cU (rW tm ps args)) H fun x H' =>∃code:Nat,x = .v (.int .i64 code) ∧∃info H2,tE H' r=some (1,info)∧H2=H'.put r (some (iC code info)) ∧
  tE H2 r=some (code,info)∧(code=0→Q (.v (.bool true)) H2)∧(2≤code→Q (.v (.bool false)) H2)∧code≠1) :
 ∃y H',bV E dep (.yld r) args H=some (y,H')∧Q y H':=by
 obtain⟨x,H1,⟨code,rfl,info,H2,h1,rfl,h2,hq0,hq2,hne⟩,n,hn'⟩:=h (rW tm ps args) (fun i=>rfl)
 have key : ∀m,n≤m→wg E (ct E m) (dep+1) r args H=some (.v (.bool (code == 0)),H1.put r (some (iC code info))):=by
  intro m hm
  obtain⟨st,k,e1,e2,e3⟩:=hn' m hm
  injection e2 with e2
  injection e2 with e2 e4
  have e4:code=k:=by exact_mod_cast e4
  subst e4
  subst hn
  unfold wg
  rw[hl]
  simp only
  rw[if_pos ⟨hp,hps,ha,hb⟩,e1]
  unfold r8
  simp only[e3,h1,h2]
  match code with
  | 0=>rfl
  | 1=>exact(hne rfl).elim
  | k+2=>rfl
 have XI : ∀m,n≤m→eH E (ct E m) dep (.yld r) args H=some (.v (.bool (code == 0)),H1.put r (some (iC code info))):=key
 refine⟨_,_,rp.2 ⟨n,XI⟩,?_⟩
 match code with
 | 0=>exact hq0 rfl
 | 1=>exact(hne rfl).elim
 | k+2=>exact hq2 (by omega)
theorem JJ{E:Env}{fn:Func}{dep:Nat}{g:Operand}{ps:Array Tmp}{assign body:Code}{k:List Item}{s:dK}{H:ab}{Q:AV→ab→Prop}{gi:FuncId}{first captured:List AV}
 (hg:cJ s g=some (.fn (.func gi) first captured))
 (h : ∀tm,dX tm s →∃v Hx st info,bV E dep (.fn gi) (first++[.yld ⟨dep,fn.ntmps,H.gen dep fn.ntmps,0⟩]++captured) ((⟨dep,fn.ntmps,H.gen dep fn.ntmps,0⟩,some (iC 0 (.lp 0 fn.ntmps ps.toList assign body tm))) :: H)=some (v,Hx) ∧
  tE Hx ⟨dep,fn.ntmps,H.gen dep fn.ntmps,0⟩=some (st,info) ∧
  (
   (st=0∧Goes E fn none dep k s (Hx.put ⟨dep,fn.ntmps,H.gen dep fn.ntmps,0⟩ none) Q) ∨
   (st=2∧Bs E.P s (Hx.put ⟨dep,fn.ntmps,H.gen dep fn.ntmps,0⟩ none) Q fn.results.toList []) ∨
   (∃id k',st=id+3∧exitTo id k=some k'∧Goes E fn none dep k' s (Hx.put ⟨dep,fn.ntmps,H.gen dep fn.ntmps,0⟩ none) Q))) :
 Goes E fn none dep (.code (.rangeFunc g ps assign body) :: k) s H Q:=by
 intro tm ht
 obtain⟨v,Hx,st,info,h1,h2,h3⟩:=h tm ht
 obtain⟨n1,hn1⟩:=rp.1 h1
 have hg':aZ tm g=some (.fn (.func gi) first captured):=by rw[sP ht];exact hg
 rcases h3 with ⟨rfl,hk⟩ | ⟨rfl,hk⟩ | ⟨id,k',rfl,he,hk⟩
 ·obtain⟨y,H',hQ,n2,hn2⟩:=hk tm ht
  refine⟨y,H',hQ,max n1 n2+1,fun m hm=>?_⟩
  obtain⟨m,rfl⟩ : ∃m',m=m'+1:=⟨m - 1,by omega⟩
  have e:ct E (m+1) none fn.ntmps dep (.code (.rangeFunc g ps assign body) :: k) ⟨tm,H⟩=ct E m none fn.ntmps dep k ⟨tm,Hx.put ⟨dep,fn.ntmps,H.gen dep fn.ntmps,0⟩ none⟩:=by
   simp only[ct,hg',hn1 m (by omega),h2]
  rw[e]
  exact hn2 m (by omega)
 ·obtain⟨y,hQ,hr⟩:=GV hk
  refine⟨y,_,hQ,n1+1,fun m hm=>?_⟩
  obtain⟨m,rfl⟩ : ∃m',m=m'+1:=⟨m - 1,by omega⟩
  have e:ct E (m+1) none fn.ntmps dep (.code (.rangeFunc g ps assign body) :: k) ⟨tm,H⟩=some ⟨tm,Hx.put ⟨dep,fn.ntmps,H.gen dep fn.ntmps,0⟩ none⟩:=by
   simp only[ct,hg',hn1 m (by omega),h2]
  rw[e]
  exact⟨_,rfl,hr tm ht,rfl⟩
 ·obtain⟨y,H',hQ,n2,hn2⟩:=hk tm ht
  refine⟨y,H',hQ,max n1 n2+1,fun m hm=>?_⟩
  obtain⟨m,rfl⟩ : ∃m',m=m'+1:=⟨m - 1,by omega⟩
  have e:ct E (m+1) none fn.ntmps dep (.code (.rangeFunc g ps assign body) :: k) ⟨tm,H⟩=ct E m none fn.ntmps dep k' ⟨tm,Hx.put ⟨dep,fn.ntmps,H.gen dep fn.ntmps,0⟩ none⟩:=by
   simp only[ct,hg',hn1 m (by omega),h2,he]
  rw[e]
  exact hn2 m (by omega)
theorem Oo{E:Env}{f:FuncId}{args:List AV}{y:AV}(h:bj E f args=some y) : ∃n,dv E (ct E n) f args=some y:=by
 obtain⟨n,hn⟩:=wx.1 h
 exact⟨n,hn n (Nat.le_refl _)⟩
def b7(r:Nat):Nat→List Item→Option (List Item)
 | 0,_=>none
 | n+1,items =>
  match items with
  | .code c :: k=>(match c with
   | .seq a b=>b7 r n (.code a :: .code b :: k)
   | .cond _ a b=>(match b7 r n (.code a :: k) with
    | some l=>some l
    | none=>b7 r n (.code b :: k))
   | .block id b=>b7 r n (.code b :: .inBlock id :: k)
   | .scope b=>b7 r n (.code b :: .inScope b :: k)
   | .loop b=>(match jj b with
    | some i=>cond (Nat.beq i r) (some (.inLoop b :: k)) (b7 r n (.code b :: .inLoop b :: k))
    | none=>none)
   | .exit id=>(match exitTo id k with
    | some k'=>b7 r n k'
    | none=>none)
   | .skip | .label _ | .region _ _ _=>b7 r n k
   | _=>none)
  | .inBlock _ :: k | .inScope _ :: k=>b7 r n k
  | _=>none
def nU(r:Nat):Nat→List Item→Option (List Item)
 | 0,_=>none
 | n+1,items =>
  match items with
  | .code c :: k=>(match c with
   | .seq a b=>nU r n (.code a :: .code b :: k)
   | .cond _ a b=>(match nU r n (.code a :: k) with
    | some l=>some l
    | none=>nU r n (.code b :: k))
   | .block id b=>nU r n (.code b :: .inBlock id :: k)
   | .scope b=>nU r n (.code b :: .inScope b :: k)
   | .loop b=>nU r n (.code b :: .inLoop b :: k)
   | .exit id=>(match exitTo id k with
    | some k'=>nU r n k'
    | none=>none)
   | .region i ops draw=>cond (Nat.beq i r) (some items) (nU r n k)
   | .skip | .label _=>nU r n k
   | _=>none)
  | .inBlock _ :: k | .inScope _ :: k=>nU r n k
  | _=>none
def jK(r:Nat):Nat→List Item→Option (List Item)
 | 0,_=>none
 | n+1,items =>
  match items with
  | .code c :: k=>(match c with
   | .seq a b=>jK r n (.code a :: .code b :: k)
   | .cond _ a b=>(match jK r n (.code a :: k) with
    | some l=>some l
    | none=>jK r n (.code b :: k))
   | .block id b=>jK r n (.code b :: .inBlock id :: k)
   | .scope b=>jK r n (.code b :: .inScope b :: k)
   | .loop b=>jK r n (.code b :: .inLoop b :: k)
   | .exit id=>(match exitTo id k with
    | some k'=>jK r n k'
    | none=>none)
   | .rangeFunc _ _ a b=>cond (Nat.beq (RC a b) r) (some items) (jK r n k)
   | .skip | .label _ | .region _ _ _=>jK r n k
   | _=>none)
  | .inBlock _ :: k | .inScope _ :: k=>jK r n k
  | _=>none
def rfA:List Item→Code
 | .code (.rangeFunc _ _ a _) :: _=>a
 | _ => .skip
def rfB:List Item→Code
 | .code (.rangeFunc _ _ _ b) :: _=>b
 | _ => .skip
def rfK:List Item→List Item
 | _ :: k=>k
 | []=>[]
def OX:List Item→List Item
 | .inLoop b :: k => .code b :: .inLoop b :: k
 | l=>l
theorem dx{E:Env}{fn:Func}{rd:Option Ref}{dep:Nat}{items:List Item}{l:List (Nat × AV)}{H:ab}{Q:AV→ab→Prop}(h : ∀g,Goes E fn rd dep (OX items) (Kw g l) H Q):Rm E fn rd dep items l H Q:=by
 refine⟨fun g=>?_⟩
 have:=h g
 unfold OX at this
 split at this
 ·exact L8 this
 ·exact this
def oi(x:AV):Option (Option Int):=match intOf x with
 | some n=>some (some n)
 | none=>none
end Go.Ab
namespace Go.Ab
def Pc(pc pc':FuncId→List AV→Option AV):Prop :=∀f xs y,pc f xs=some y→pc' f xs=some y
def Rl(tc tc':sn→List AV→ab→dz):Prop :=∀f xs H y,tc f xs H=some y→tc' f xs H=some y
theorem Jf{E:Env}{pc pc':FuncId→List AV→Option AV}(hp:Pc pc pc'){g:dk}{r:Ref}{f:Option AV}{args:List AV}{z:AV × List bN}(h:ik E pc g r f args=some z):ik E pc' g r f args=some z:=by
 unfold ik at h ⊢
 split at h
 ·split at h
  ·cases h
  ·rename_i hm
   rw[if_neg hm]
   split at h
   ·rename_i xs hx
    split at h
    ·rename_i y hy
     rw[hp _ _ _ hy]
     exact h
    ·cases h
   ·cases h
 ·cases h
theorem NM{E:Env}{pc pc':FuncId→List AV→Option AV}{tc tc':sn→List AV→ab→dz}(hp:Pc pc pc')(ht:Rl tc tc'){H:ab}{r:Ref}{f:Option AV}{args:List AV} :
 (ik E pc H.get r f args=none →∀z,kJ E pc tc H r f args=some z→kJ E pc' tc' H r f args=some z∧ik E pc' H.get r f args=none):=by
 intro h0 z h
 unfold ik at h0 ⊢
 unfold kJ at h ⊢
 split at h
 ·rename_i fi first captured
  dsimp only at h0 ⊢
  split at h
  ·rename_i hm
   rw[if_pos hm,if_pos hm]
   exact⟨ht _ _ _ _ h,rfl⟩
  ·rename_i hm
   rw[if_neg hm]at h0
   rw[if_neg hm,if_neg hm]
   split at h
   ·rename_i xs hx
    try rw[hx]at h0
    dsimp only at h0 ⊢
    simp only[Option.map_eq_some_iff]at h
    obtain⟨y,hy,h⟩:=h
    rw[hy]at h0
    rw[hp _ _ _ hy]
    exact⟨by rw[Option.map_some,h],h0⟩
   ·cases h
 ·exact⟨ht _ _ _ _ h,rfl⟩
 ·cases h
theorem JO{E:Env}{pc pc':FuncId→List AV→Option AV}{tc tc':sn→List AV→ab→dz}(hp:Pc pc pc')(ht:Rl tc tc'){dep:Nat}{draw:Bool}{tm:List AV}{H:ab}{o:Oper}{z:AV × ab}
 (h:m9 E pc tc dep draw tm H o=some z):m9 E pc' tc' dep draw tm H o=some z:=by
 by_cases hc : ∃c f args,o.op = .call c∧c.args.toList.mapM (aZ tm)=some args∧c.callee = .value f
 ·obtain⟨c,f,args,ho,ha,hf⟩:=hc
  unfold m9 cB evalW at h ⊢
  simp only[ho,ha,hf]at h ⊢
  cases hov:AB E.pP draw f with
  | some t =>
   rw[hov]at h
   dsimp only at h ⊢
   cases hO:G0 E.P H.get t args with
   | some p=>rw[hO]at h;exact h
   | none =>
    rw[hO]at h
    dsimp only at h ⊢
    split at h
    ·cases h
    ·rename_i hd
     rw[if_neg hd]
     have hfd : ∃g,f = .func g:=by unfold AB at hov;split at hov<;>simp_all
     obtain⟨g,rfl⟩:=hfd
     simp only[aZ,kJ]at h ⊢
     by_cases hm:E.mode g=2
     ·rw[if_pos hm]at h ⊢
      cases hw:tc (.fn g) ([]++args++[]) H with
      | none=>rw[hw]at h;unfold m3 at h;split at h<;>(try split at h)<;>simp_all
      | some z'=>rw[hw]at h;rw[ht _ _ _ _ hw];exact h
     ·rw[if_neg hm]at h ⊢
      cases hx:([]++args++[]:List AV).mapM (view H.get depth) with
      | none=>rw[hx]at h;exact h
      | some xs =>
       rw[hx]at h
       dsimp only at h ⊢
       cases hy:pc g xs with
       | none=>rw[hy]at h;unfold m3 at h;split at h<;>(try split at h)<;>simp_all
       | some y=>rw[hy]at h;rw[hp _ _ _ hy];exact h
  | none =>
  rw[hov]at h
  dsimp only at h ⊢
  cases hq:ik E pc H.get ⟨dep,o.dst.getD 0,H.gen dep (o.dst.getD 0),0⟩ (aZ tm f) args with
  | some p =>
   rw[hq]at h
   rw[Jf hp hq]
   exact h
  | none =>
   rw[hq]at h
   simp only[Option.map_none]at h
   split at h
   ·cases h
   ·rename_i hd
    cases hw:kJ E pc tc H ⟨dep,o.dst.getD 0,H.gen dep (o.dst.getD 0),0⟩ (aZ tm f) args with
    | none =>
     rw[hw]at h
     unfold m3 at h
     split at h
     ·rename_i e;cases e
     ·cases h
    | some z' =>
     obtain⟨h1,h2⟩:=NM hp ht hq _ hw
     rw[h2,h1]
     rw[hw]at h
     simp only[Option.map_none,if_neg hd]
     exact h
 ·have:m9 E pc tc dep draw tm H o=m9 E pc' tc' dep draw tm H o:=by
   have hq:cB E pc draw H.get tm ⟨dep,o.dst.getD 0,H.gen dep (o.dst.getD 0),0⟩ o=cB E pc' draw H.get tm ⟨dep,o.dst.getD 0,H.gen dep (o.dst.getD 0),0⟩ o:=by
    cases ho:o.op<;>simp only[cB,ho]
    case makeMap a b=>cases b<;>rfl
    rename_i c
    cases ha:c.args.toList.mapM (aZ tm) with
    | none=>rfl
    | some args =>
     cases hf:c.callee with
     | value f=>exact(hc ⟨c,f,args,ho,ha,hf⟩).elim
     | invoke _ _=>rfl
     | builtin b=>rfl
   have hw:evalW E pc tc H tm ⟨dep,o.dst.getD 0,H.gen dep (o.dst.getD 0),0⟩ o=evalW E pc' tc' H tm ⟨dep,o.dst.getD 0,H.gen dep (o.dst.getD 0),0⟩ o:=by
    cases ho:o.op<;>simp only[evalW,ho]
    rename_i c
    cases ha:c.args.toList.mapM (aZ tm) with
    | none=>rfl
    | some args =>
     cases hf:c.callee with
     | value f=>exact(hc ⟨c,f,args,ho,ha,hf⟩).elim
     | invoke _ _=>rfl
     | builtin b=>rfl
   unfold m9
   rw[hq,hw]
  rw[←this]
  exact h
theorem GR{E:Env}{pc pc':FuncId→List AV→Option AV}{tc tc':sn→List AV→ab→dz}(hp:Pc pc pc')(ht:Rl tc tc'){nt dep:Nat}{draw:Bool}{ops:Array Oper} : ∀ {l:List Oper} {st st':St},
 kY E pc tc nt dep draw ops l st=some st'→kY E pc' tc' nt dep draw ops l st=some st':=by
 intro l
 induction l with
 | nil=>intro st st' h;exact h
 | cons o l ih =>
  intro st st' h
  unfold kY at h ⊢
  cases ho:evalOp E pc tc nt dep draw ops o st with
  | none=>rw[ho]at h;cases h
  | some st1 =>
   rw[ho]at h
   have:evalOp E pc' tc' nt dep draw ops o st=some st1:=by
    rw[CL]at ho ⊢
    cases hw:wanted ops st.tm o with
    | none=>rw[hw]at ho;cases ho
    | some b =>
     rw[hw]at ho
     cases b with
     | false=>exact ho
     | true =>
      dsimp only at ho ⊢
      cases hc:m9 E pc tc dep draw st.tm st.hp o with
      | none=>rw[hc]at ho;cases ho
      | some z=>rw[hc]at ho;rw[JO hp ht hc];exact ho
   rw[this]
   exact ih h
theorem AL{E:Env}{run run':Option Ref→Nat→Nat→List Item→St→Option St}(hr : ∀rd nt dep items st st',run rd nt dep items st=some st'→run' rd nt dep items st=some st'){dep:Nat}{f:FuncId}{args:List AV}{H:ab}{z:AV × ab}
 (h:qA E run dep f args H=some z):qA E run' dep f args H=some z:=by
 unfold qA at h ⊢
 split at h
 ·rename_i ha
  rw[if_pos ha]
  cases hf:E.P.funcs[f]? with
  | none=>rw[hf]at h;cases h
  | some fn =>
   rw[hf]at h
   dsimp only at h ⊢
   cases hb:fn.body with
   | none=>rw[hb]at h;cases h
   | some c =>
    rw[hb]at h
    dsimp only at h ⊢
    split at h
    ·rename_i hl
     rw[if_pos hl]
     cases hx:run none fn.ntmps dep [.code c] ⟨args,H⟩ with
     | none=>rw[hx]at h;cases h
     | some st=>rw[hx]at h;rw[hr _ _ _ _ _ _ hx];exact h
    ·cases h
 ·cases h
theorem wO{E:Env}{run run':Option Ref→Nat→Nat→List Item→St→Option St}(hr : ∀rd nt dep items st st',run rd nt dep items st=some st'→run' rd nt dep items st=some st'):Pc (dv E run) (dv E run'):=by
 intro f xs y h
 unfold dv at h ⊢
 cases hs:E.spec f xs with
 | some s=>rw[hs]at h;exact h
 | none =>
  rw[hs]at h
  dsimp only at h ⊢
  cases hc:qA E run 0 f xs [] with
  | none=>rw[hc]at h;cases h
  | some z=>rw[hc]at h;rw[AL hr hc];exact h
theorem yc{E:Env}{run run':Option Ref→Nat→Nat→List Item→St→Option St}(hr : ∀rd nt dep items st st',run rd nt dep items st=some st'→run' rd nt dep items st=some st')(dep:Nat):Rl (eH E run dep) (eH E run' dep):=by
 intro f xs H y h
 unfold eH at h ⊢
 cases f with
 | fn f =>
  dsimp only at h ⊢
  cases hs:E.thrSpec f xs H with
  | some s=>rw[hs]at h;exact h
  | none =>
  rw[hs]at h
  dsimp only at h ⊢
  split at h
  ·rename_i hm;rw[if_pos hm];exact AL hr h
  ·cases h
 | yld r =>
  dsimp only at h ⊢
  unfold wg at h ⊢
  split at h
  ·rename_i f nt ps assign body tm hl
   split at h
   ·rename_i hc
    rw[if_pos hc]
    cases hx:run (some r) nt (dep+1) [.code assign,.beginRound,.code body] ⟨rW tm ps xs,H⟩ with
    | none=>rw[hx]at h;cases h
    | some st=>rw[hx]at h;rw[hr _ _ _ _ _ _ hx];exact h
   ·cases h
  ·cases h
theorem Ls{E:Env} : ∀(n:Nat)(rd:Option Ref)(nt dep:Nat)(items:List Item)(st st':St),ct E n rd nt dep items st=some st'→ct E (n+1) rd nt dep items st=some st':=by
 intro n
 induction n with
 | zero=>intro rd nt dep items st st' h;simp[ct]at h
 | succ n ih =>
  intro rd nt dep items st st' h
  unfold ct at h ⊢
  split at h
  ·exact h
  ·split at h
   ·exact h
   ·rename_i r
    split at h
    ·exact ih _ _ _ _ _ _ h
    ·cases h
  ·split at h
   all_goals try exact h
   all_goals try exact ih _ _ _ _ _ _ h
   ·rename_i c a b
    split at h
    ·exact ih _ _ _ _ _ _ h
    ·exact ih _ _ _ _ _ _ h
    ·cases h
   ·split at h
    ·exact ih _ _ _ _ _ _ h
    ·exact h
   ·rename_i ops draw
    cases hx:kY E (dv E (ct E n)) (eH E (ct E n) dep) nt dep draw ops ops.toList st with
    | none=>rw[hx]at h;cases h
    | some st1 =>
     rw[hx]at h
     rw[GR (wO ih) (yc ih dep) hx]
     dsimp only at h ⊢
     split at h
     ·cases h
     ·rename_i hd
      rw[if_neg hd]
      exact ih _ _ _ _ _ _ h
   ·split at h
    ·split at h
     ·rename_i x H' hx
      rw[yc ih dep _ _ _ _ hx]
      dsimp only
      split at h
      ·exact ih _ _ _ _ _ _ h
      ·exact h
      ·split at h
       ·exact ih _ _ _ _ _ _ h
       ·cases h
      ·cases h
     ·cases h
    ·cases h
  all_goals try exact ih _ _ _ _ _ _ h
  all_goals cases h
theorem Qf{E:Env}{n m:Nat}(hm:n≤m){rd:Option Ref}{nt dep:Nat}{items:List Item}{st st':St}(h:ct E n rd nt dep items st=some st'):ct E m rd nt dep items st=some st':=by
 induction hm with
 | refl=>exact h
 | step _ ih=>exact Ls _ _ _ _ _ _ _ ih
theorem AE{E:Env}{n:Nat}{f:FuncId}{args:List AV}{y:AV}(h:dv E (ct E n) f args=some y):bj E f args=some y :=
 wx.2 ⟨n,fun _ hm=>wO (fun _ _ _ _ _ _ h=>Qf hm h) _ _ _ h⟩
end Go.Ab
namespace Go.Ab
abbrev aI(n:Int):AV := .v (.int .i64 n)
abbrev aB(b:Bool):AV := .v (.bool b)
def a8(n:UInt8):AV := .v (.int .u8 (n.toNat:Int))
def aG(n:UInt32):AV := .v (.int .u32 (n.toNat:Int))
abbrev aS(s:ByteArray):AV := .v (.string s)
abbrev cP:AV := .v (.slice none 0 0)
theorem T8{q:gz}{K:AV→Prop}{m:Mk K}{v:AV}(hq:q=some (v,[]))(h:K v):ak q K m:=⟨v,hq,h⟩
theorem pH{w:dz}{K:AV→ab→Prop}{m:Mk K}{v:AV}{H:ab}(hw:w=some (v,H))(h:K v H):aO w K m:=⟨v,H,hw,h⟩
@[simp] theorem Yp(v:AV)(K:AV→Prop)(m:Mk K):ak (some (v,[])) K m↔K v :=
 ⟨fun⟨⟨w,hw,h⟩⟩=>by cases hw;exact h,fun h=>⟨v,rfl,h⟩⟩
@[simp] theorem aaW(c:Prop)[Decidable c](q:gz)(K:AV→Prop)(m:Mk K):ak (if c then q else none) K m↔c∧ak q K m:=by
 by_cases hc:c
 ·simp[hc]
 ·simp only[if_neg hc,hc,false_and,iff_false]
  rintro⟨v,hv,_⟩;cases hv
@[simp] theorem Yo(v:AV)(H:ab)(K:AV→ab→Prop)(m:Mk K):aO (some (v,H)) K m↔K v H :=
 ⟨fun⟨⟨w,_,hw,h⟩⟩=>by cases hw;exact h,fun h=>⟨v,H,rfl,h⟩⟩
@[simp] theorem aaV(c:Prop)[Decidable c](q:dz)(K:AV→ab→Prop)(m:Mk K):aO (if c then q else none) K m↔c∧aO q K m:=by
 by_cases hc:c
 ·simp[hc]
 ·simp only[if_neg hc,hc,false_and,iff_false]
  rintro⟨v,_,hv,_⟩;cases hv
theorem KW{x:Option AV}{A B:Prop}{m:Mk (A,B)}:br x A B m↔brP x A B:=⟨fun h=>h.h,fun h=>⟨h⟩⟩
@[simp] theorem aah(A B:Prop)(m:Mk (A,B)):br (some (aB true)) A B m↔A:=KW
@[simp] theorem Yt(A B:Prop)(m:Mk (A,B)):br (some (aB false)) A B m↔B:=KW
theorem kO{b:Bool}{A B:Prop}{m:Mk (A,B)}(h1:b=true→A)(h2:b=false→B):br (some (aB b)) A B m:=by
 cases b
 ·exact⟨h2 rfl⟩
 ·exact⟨h1 rfl⟩
theorem Uf{p:Prop}[Decidable p]{A B:Prop}{m:Mk (A,B)}(h1:p→A)(h2 : ¬p→B):br (some (aB (decide p))) A B m :=
 kO (fun h=>h1 (of_decide_eq_true h)) (fun h=>h2 (of_decide_eq_false h))
@[simp] theorem X0(q:gz)(K:AV→Prop)(m:Mk (q,K)):gQ (aB true) true q K m↔ak q K:=⟨fun h=>h.h,fun h=>⟨h⟩⟩
@[simp] theorem X3(q:gz)(K:AV→Prop)(m:Mk (q,K)):gQ (aB false) false q K m↔ak q K:=⟨fun h=>h.h,fun h=>⟨h⟩⟩
@[simp] theorem X1(q:gz)(K:AV→Prop)(m:Mk (q,K)):gQ (aB true) false q K m↔K AV.undef:=⟨fun h=>h.h,fun h=>⟨h⟩⟩
@[simp] theorem X2(q:gz)(K:AV→Prop)(m:Mk (q,K)):gQ (aB false) true q K m↔K AV.undef:=⟨fun h=>h.h,fun h=>⟨h⟩⟩
@[simp] theorem abQ(w:Bool)(q:gz)(K:AV→Prop)(m:Mk (q,K)):gQ AV.undef w q K m↔K AV.undef:=⟨fun h=>h.h,fun h=>⟨h⟩⟩
@[simp] theorem XW(H:ab)(q:dz)(K:AV→ab→Prop)(m:Mk (q,K)):gW (aB true) true H q K m↔aO q K:=⟨fun h=>h.h,fun h=>⟨h⟩⟩
@[simp] theorem XZ(H:ab)(q:dz)(K:AV→ab→Prop)(m:Mk (q,K)):gW (aB false) false H q K m↔aO q K:=⟨fun h=>h.h,fun h=>⟨h⟩⟩
@[simp] theorem XX(H:ab)(q:dz)(K:AV→ab→Prop)(m:Mk (q,K)):gW (aB true) false H q K m↔K AV.undef H:=⟨fun h=>h.h,fun h=>⟨h⟩⟩
@[simp] theorem XY(H:ab)(q:dz)(K:AV→ab→Prop)(m:Mk (q,K)):gW (aB false) true H q K m↔K AV.undef H:=⟨fun h=>h.h,fun h=>⟨h⟩⟩
@[simp] theorem abP(w:Bool)(H:ab)(q:dz)(K:AV→ab→Prop)(m:Mk (q,K)):gW AV.undef w H q K m↔K AV.undef H:=⟨fun h=>h.h,fun h=>⟨h⟩⟩
@[simp] theorem UU(v:AV):cF (some v)=some (v,[]):=id rfl
@[simp] theorem Vi(H:ab)(r:Ref)(v:AV)(bs:List bN):bm H r (some (v,bs))=some (v,keyed r 0 bs H):=id rfl
@[simp] theorem EH(H:ab)(r:Ref):bm H r none=none:=id rfl
@[simp] theorem Ts(r:Ref)(k:Nat)(H:ab):keyed r k [] H=H:=id rfl
@[simp] theorem Tt(r:Ref)(k:Nat)(b:bN)(bs:List bN)(H:ab):keyed r k (b :: bs) H=keyed r (k+1) bs (({ r with k:=k},some b) :: H):=id rfl
@[simp] theorem Xh(wk:Bool)(x:AV × ab)(b:dz):A3 wk (some x) b=some x:=id rfl
@[simp] theorem Ha(b:dz):A3 true none b=b:=id rfl
@[simp] theorem Tc(a b:Option AV):bq (some (aB true)) a b=cF a:=id rfl
@[simp] theorem RE(a b:Option AV):bq (some (aB false)) a b=cF b:=id rfl
@[simp] theorem aaG(k:IntKind)(n:Int):oi (.v (.int k n))=some (some n):=id rfl
@[simp] theorem VP(cs:List AV):(AV.agg cs).cells=cs:=id rfl
@[simp] theorem aab(x:Value):(AV.v x).cells=[.v x]:=id rfl
@[simp] theorem aac(x:UInt8):(a8 x).cells=[a8 x]:=id rfl
@[simp] theorem Yr(x:UInt32):(aG x).cells=[aG x]:=id rfl
@[simp] theorem VO(z:Nat)(es:List AV)(c:Option Nat):(AV.cw z es c).cells=[.cw z es c]:=id rfl
@[simp] theorem VN(r:Ref)(o n:Nat)(c:Option Nat):(AV.cM r o n c).cells=[.cM r o n c]:=id rfl
@[simp] theorem VM(r:Ref)(i j:Nat):(AV.ptr r i j).cells=[.ptr r i j]:=id rfl
@[simp] theorem Yq(f:Fn)(a b:List AV):(AV.fn f a b).cells=[.fn f a b]:=id rfl
@[simp] theorem ZF(k:IntKind)(n:Int):(AV.v (.int k n)).one=true:=id rfl
@[simp] theorem Xk(b:Bool):(AV.v (.bool b)).one=true:=id rfl
@[simp] theorem ZD:cP.one=true:=id rfl
@[simp] theorem abi(x:UInt8):(a8 x).one=true:=id rfl
@[simp] theorem aaF(x:UInt32):(aG x).one=true:=id rfl
@[simp] theorem ZE(z:Nat)(es:List AV)(c:Option Nat):(AV.cw z es c).one=true:=id rfl
@[simp] theorem ZC(r:Ref)(o n:Nat)(c:Option Nat):(AV.cM r o n c).one=true:=id rfl
@[simp] theorem ZB(r:Ref)(i j:Nat):(AV.ptr r i j).one=true:=id rfl
@[simp] theorem aaE(f:Fn)(a b:List AV):(AV.fn f a b).one=true:=id rfl
section
variable(P:Program)(t:TypeId)(xo yo:Operand)(k:IntKind)(a b:Int)
@[simp] theorem G5:aE P .lss t xo yo (some (.v (.int k a))) (some (.v (.int k b)))=some (aB (decide (a<b)),[]):=by cases k<;>rfl
@[simp] theorem NP:aE P .leq t xo yo (some (.v (.int k a))) (some (.v (.int k b)))=some (aB (decide (a≤b)),[]):=by cases k<;>rfl
@[simp] theorem NQ:aE P .gtr t xo yo (some (.v (.int k a))) (some (.v (.int k b)))=some (aB (decide (b<a)),[]):=by cases k<;>rfl
@[simp] theorem NR:aE P .geq t xo yo (some (.v (.int k a))) (some (.v (.int k b)))=some (aB (decide (b≤a)),[]):=by cases k<;>rfl
@[simp] theorem G6:aE P .eql t xo yo (some (.v (.int k a))) (some (.v (.int k b)))=some (aB (decide (a=b)),[]):=by
 have:(a == b)=decide (a=b):=by by_cases h:a=b<;>simp[h]
 rw[←this];cases k<;>rfl
@[simp] theorem NO:aE P .neq t xo yo (some (.v (.int k a))) (some (.v (.int k b)))=some (aB (!decide (a=b)),[]):=by
 have:(a != b) = !decide (a=b):=by by_cases h:a=b<;>simp[h]
 rw[←this];cases k<;>rfl
@[simp] theorem Xe:aE P .add t xo yo (some (.v (.int k a))) (some (.v (.int k b)))=some (.v (.int k (k.wrap (a+b))),[]):=by cases k<;>rfl
@[simp] theorem Xc:aE P .sub t xo yo (some (.v (.int k a))) (some (.v (.int k b)))=some (.v (.int k (k.wrap (a - b))),[]):=by cases k<;>rfl
@[simp] theorem Xd:aE P .mul t xo yo (some (.v (.int k a))) (some (.v (.int k b)))=some (.v (.int k (k.wrap (a * b))),[]):=by cases k<;>rfl
theorem fq{yk:IntKind}(hb:0≤b):aE P .shr t xo yo (some (.v (.int k a))) (some (.v (.int yk b)))=some (.v (.int k (a.fdiv (2 ^ min b.toNat k.bits))),[]):=by
 have h:Op.shift .shr k a yk b=pure (.int k (a.fdiv (2 ^ min b.toNat k.bits))):=by unfold Op.shift;rw[if_neg (by omega)]
 have h2:B8 P .shr t xo yo (.int k a) (.int yk b)=some (.int k (a.fdiv (2 ^ min b.toNat k.bits))):=by
  have:B8 P .shr t xo yo (.int k a) (.int yk b)=bz P (Op.shift .shr k a yk b):=rfl
  rw[this,h];rfl
 simp only[aE,HA,mo,fP,h2,Bool.false_and,Bool.or_self,Bool.false_eq_true,if_false,Option.bind_some,iB,scalar,if_true,cF,Option.map_some]
@[simp] theorem Zw(b:Bool):wM P .not (some (aB b))=some (aB (!b),[]):=id rfl
def u8(n:Int):UInt8:=UInt8.ofBitVec (BitVec.ofInt 8 n)
def u32(n:Int):UInt32:=UInt32.ofBitVec (BitVec.ofInt 32 n)
@[simp] theorem VU(n:Int):IntKind.u8.wrap n=((u8 n).toNat:Int):=by
 unfold u8;rw[IntKind.wrap_u8,UInt8.toNat_ofBitVec,BitVec.toNat_ofInt];omega
@[simp] theorem PD(n:Int):IntKind.u32.wrap n=((u32 n).toNat:Int):=by
 unfold u32;rw[IntKind.wrap_u32,UInt32.toNat_ofBitVec,BitVec.toNat_ofInt];omega
theorem Eh(n:Int):(u8 n).toNat=(n % 256).toNat:=by
 unfold u8;rw[UInt8.toNat_ofBitVec,BitVec.toNat_ofInt];rfl
theorem BK(n:Int):(u32 n).toNat=(n % 4294967296).toNat:=by
 unfold u32;rw[UInt32.toNat_ofBitVec,BitVec.toNat_ofInt];rfl
@[simp] theorem PN(x:UInt32):u32 (x.toNat:Int)=x:=by apply UInt32.toNat_inj.1;rw[BK];have:=x.toNat_lt;omega
@[simp] theorem V0(x:UInt32):u8 (x.toNat:Int)=x.toUInt8:=by apply UInt8.toNat_inj.1;rw[Eh,UInt32.toNat_toUInt8];omega
@[simp] theorem TM(x:UInt32):IntKind.i64.wrap (x.toNat:Int)=x.toNat:=by have:=x.toNat_lt;exact IntWalk.i64_in _ (by omega)
theorem Ui(v:BitVec 32):IntKind.u32.wrap (v.toNat:Int)=((UInt32.ofBitVec v).toNat:Int):=by
 rw[PD];unfold u32;congr 3;apply BitVec.eq_of_toNat_eq;rw[BitVec.toNat_ofInt];have:=v.isLt;omega
theorem Ug(op:BinOp)(f:BitVec 32→BitVec 32→BitVec 32)(g:UInt32→UInt32→UInt32)(hg : ∀x y,g x y=UInt32.ofBitVec (f x.toBitVec y.toBitVec))(hop : ∀x y:Int,aE P op t xo yo (some (.v (.int .u32 x))) (some (.v (.int .u32 y)))=some (.v (.int .u32 (IntKind.u32.wrap ((f (BitVec.ofInt 32 x) (BitVec.ofInt 32 y)).toNat:Int))),[])) :
 aE P op t xo yo (some (.v (.int .u32 a))) (some (.v (.int .u32 b)))=some (aG (g (u32 a) (u32 b)),[]):=by
 rw[hop,Ui,hg];rfl
section
variable(x y:UInt8)
@[simp] theorem UZ:aE P .lss t xo yo (some (a8 x)) (some (a8 y))=some (aB (decide (x<y)),[]):=by
 unfold a8;rw[G5];congr 4;rw[UInt8.lt_iff_toNat_lt];all_goals exact propext (by omega)
@[simp] theorem U0:aE P .leq t xo yo (some (a8 x)) (some (a8 y))=some (aB (decide (x≤y)),[]):=by
 unfold a8;rw[NP];congr 4;rw[UInt8.le_iff_toNat_le];all_goals exact propext (by omega)
@[simp] theorem U1:aE P .gtr t xo yo (some (a8 x)) (some (a8 y))=some (aB (decide (y<x)),[]):=by
 unfold a8;rw[NQ];congr 4;rw[UInt8.lt_iff_toNat_lt];all_goals exact propext (by omega)
@[simp] theorem U2:aE P .geq t xo yo (some (a8 x)) (some (a8 y))=some (aB (decide (y≤x)),[]):=by
 unfold a8;rw[NR];congr 4;rw[UInt8.le_iff_toNat_le];all_goals exact propext (by omega)
@[simp] theorem U3:aE P .eql t xo yo (some (a8 x)) (some (a8 y))=some (aB (decide (x=y)),[]):=by
 unfold a8;rw[G6];congr 4;rw[←UInt8.toNat_inj];all_goals exact propext (by omega)
@[simp] theorem UY:aE P .neq t xo yo (some (a8 x)) (some (a8 y))=some (aB (!decide (x=y)),[]):=by
 unfold a8;rw[NO];congr 5;rw[←UInt8.toNat_inj];all_goals exact propext (by omega)
end
section
variable(x y:UInt32)
@[simp] theorem Pq:aE P .andNot t xo yo (some (aG x)) (some (aG y))=some (aG (x &&& ~~~y),[]):=by
 unfold aG;rw[Ug P t xo yo _ _ .andNot (fun a b=>a &&& ~~~b) (fun a b=>a &&& ~~~b) (fun _ _=>rfl) (fun _ _=>rfl)];simp only[PN];rfl
@[simp] theorem S5:aE P .lss t xo yo (some (aG x)) (some (aG y))=some (aB (decide (x<y)),[]):=by
 unfold aG;rw[G5];congr 4;rw[UInt32.lt_iff_toNat_lt];all_goals exact propext (by omega)
@[simp] theorem S6:aE P .eql t xo yo (some (aG x)) (some (aG y))=some (aB (decide (x=y)),[]):=by
 unfold aG;rw[G6];congr 4;rw[←UInt32.toNat_inj];all_goals exact propext (by omega)
end
theorem kb{P:Program}{t:TypeId}{d:TypeDesc}(h:P.underlying t=some d):bz P (Go.underlying t)=some d:=by
 unfold Go.underlying
 rw[bO]
 show(some P).bind _=_
 rw[Option.bind_some,h]
 rfl
def intKind(P:Program)(t:TypeId):Option IntKind:=match P.underlying t with | some (.int k)=>some k | _=>none
theorem yX{P:Program}{t:TypeId}{k:IntKind}(h:intKind P t=some k):P.underlying t=some (.int k):=by
 unfold intKind at h
 split at h
 ·cases h;assumption
 ·cases h
theorem EC{g:dk}{r:Ref}{src dst:TypeId}{k':IntKind}(hs:(P.underlying src).isNone=false)(hd:intKind P dst=some k)(n:Int) :
 cW P g r src dst (some (.v (.int k' n)))=some (.v (.int k (k.wrap n)),[]):=by
 have hd:=yX hd
 obtain⟨d,hs⟩ : ∃d,P.underlying src=some d:=by cases h:P.underlying src with | none=>rw[h]at hs;cases hs | some d=>exact⟨d,rfl⟩
 have:bz P (Go.convert src dst (.int k' n))=some (.int k (k.wrap n)):=by
  unfold Go.convert
  rw[bO,kb hs,Option.bind_some,bO,kb hd,Option.bind_some]
  cases d<;>rfl
 simp only[cW,this,Option.bind_some,iB,scalar,if_true,cF,Option.map_some]
@[simp] theorem S3{g:dk}{r:Ref}{src dst:TypeId}(hs:(P.underlying src).isNone=false)(hd:intKind P dst=some .i64)(x:UInt32) :
 cW P g r src dst (some (aG x))=some (aI x.toNat,[]):=by
 unfold aG;rw[EC P .i64 hs hd,TM]
@[simp] theorem UX{g:dk}{r:Ref}{src dst:TypeId}{k':IntKind}(hs:(P.underlying src).isNone=false)(hd:intKind P dst=some .u8)(n:Int) :
 cW P g r src dst (some (.v (.int k' n)))=some (a8 (u8 n),[]):=by
 unfold a8;rw[EC P .u8 hs hd,VU]
end
def ia(l:List UInt8):List AV:=l.map a8
@[simp] theorem aae(l:List UInt8):(ia l).length=l.length:=by simp[ia]
@[simp] theorem aad:ia []=[]:=id rfl
theorem NI(P:Program)(d:Bool)(g:dk)(r:Ref)(t:TypeId)(ts:List TypeId)(x:AV)(hx : ∀r',x ≠ .mp r'):aJ P d g r .len ⟨t :: ts⟩ [x]=DD P (some t) x:=by
 unfold aJ
 cases x<;>first | rfl | (rename_i q;exact(hx q rfl).elim)
@[simp] theorem Zx(P:Program)(d:Bool)(g:dk)(r:Ref)(t:TypeId)(ts:List TypeId)(x:AV)(hx:(rq x).isSome=true):aJ P d g r .len ⟨t :: ts⟩ [x]=DD P (some t) x:=by
 refine NI P d g r t ts x fun r' e=>?_
 subst e;cases hx
@[simp] theorem Vk:rq cP=some 0:=id rfl
@[simp] theorem Vl(n:Nat)(es:List AV)(c:Option Nat):rq (.cw n es c)=some es.length:=id rfl
@[simp] theorem Vj(r:Ref)(o n:Nat)(c:Option Nat):rq (.cM r o n c)=some n:=id rfl
@[simp] theorem S0{P:Program}{t:TypeId}(ha:iy P t=none)(hs:isStr P t=false)(he:(dY P t).isSome=true)(x:AV):DD P (some t) x=(rq x).map fun n=>(aI n,[]):=by
 simp only[DD,ha,hs,he];rfl
theorem Ia{P:Program}{t:TypeId}{z:Nat}(h:(dY P t).bind (aU P)=some z) : ∃e,dY P t=some e∧aU P e=some z:=by
 simpa [Option.bind_eq_some_iff] using h
@[simp] theorem B6{P:Program}{t:TypeId}{z:Nat}(h:(dY P t).bind (aU P)=some z)(g:dk)(es:List AV)(c:Option Nat)(kd:IntKind)(k:Int) :
 aM P g t (some (.cw z es c)) (some (.v (.int kd k)))=if 0≤k∧k<es.length then some (.iptr z es k.toNat 0,[]) else none:=by
 obtain⟨e,he,hz⟩:=Ia h
 simp only[aM,Option.bind_some,intOf,he,hz,and_true]
@[simp] theorem NJ{P:Program}{t:TypeId}(h:dY P t=none)(hz:((iy P t).bind fun p=>aU P p.2).isSome=true)(g:dk)(r:Ref)(i j:Nat)(kd:IntKind)(k:Int) :
 aM P g t (some (.ptr r i j)) (some (.v (.int kd k)))=if 0≤k∧k<((iy P t).getD (0,0)).1 then some (.ptr r i (j+k.toNat * (aU P ((iy P t).getD (0,0)).2).getD 0),[]) else none:=by
 obtain⟨z,hz⟩:=Option.isSome_iff_exists.1 hz
 simp only[Option.bind_eq_some_iff]at hz
 obtain⟨⟨n,e⟩,ha,hz⟩:=hz
 simp only[aM,Option.bind_some,intOf,h,ha,hz,Option.getD_some]
@[simp] theorem SZ{P:Program}{t:TypeId}(ha:(dD P t).isSome=true)(hn:(aU P t).isSome=true)(g:dk)(z:Nat)(es:List AV)(i j:Nat) :
 aj P g t (some (.iptr z es i j))=cF (eL es i j ((aU P t).getD 0) ((dD P t).getD false)):=by
 obtain⟨a,ha⟩:=Option.isSome_iff_exists.1 ha
 obtain⟨n,hn⟩:=Option.isSome_iff_exists.1 hn
 simp only[aj,ha,hn,Option.getD_some]
def Om(x:Option bN)(i j n:Nat)(ag:Bool):gz:=match x with
 | some b=>cF (eL b.es i j n ag)
 | none=>none
@[simp] theorem To(b:bN)(i j n:Nat)(ag:Bool):Om (some b) i j n ag=cF (eL b.es i j n ag):=id rfl
@[simp] theorem UW{P:Program}{t:TypeId}(ha:(dD P t).isSome=true)(hn:(aU P t).isSome=true)(g:dk)(r:Ref)(i j:Nat) :
 aj P g t (some (.ptr r i j))=Om (g r) i j ((aU P t).getD 0) ((dD P t).getD false):=by
 obtain⟨a,ha⟩:=Option.isSome_iff_exists.1 ha
 obtain⟨n,hn⟩:=Option.isSome_iff_exists.1 hn
 simp only[aj,ha,hn,Option.getD_some]
 rfl
@[simp] theorem Mw(e:AV)(es:List AV)(j n:Nat):eL (e :: es) 0 j n true=if j+n≤e.cells.length∧0<n then some (.agg ((e.cells.drop j).take n)) else none:=id rfl
@[simp] theorem Mv(e:AV)(es:List AV)(j n:Nat):eL (e :: es) 0 j n false=e.cells[j]?:=id rfl
def Sl(z:Nat)(es:List AV)(x:AV):Prop:=(x=cP∧es=[]) ∨∃c,x = .cw z es c∧es.length≤c.getD es.length
theorem Sl.mk(z:Nat)(es:List AV):Sl z es (.cw z es none) := .inr ⟨none,rfl,Nat.le_refl _⟩
theorem Sl.len{z:Nat}{es:List AV}{x:AV}(h:Sl z es x):rq x=some es.length:=by
 rcases h with ⟨rfl,rfl⟩ | ⟨c,rfl,_⟩<;>rfl
theorem Sl.cw{z:Nat}{es:List AV}{x:AV}(h:Sl z es x){i:Nat}(hi:i<es.length) : ∃c,x = .cw z es c∧es.length≤c.getD es.length:=by
 rcases h with ⟨rfl,rfl⟩ | h
 ·simp at hi
 ·exact h
theorem Sl.view{z:Nat}{es:List AV}{x:AV}(h:Sl z es x)(g:dk)(n:Nat):view g (n+1) x=some x:=by
 rcases h with ⟨rfl,rfl⟩ | ⟨c,rfl,_⟩<;>rfl
theorem Sl.refs{z:Nat}{es:List AV}{x:AV}(h:Sl z es x)(g:dk)(n:Nat):aH g n x=[]:=by
 rcases h with ⟨rfl,rfl⟩ | ⟨c,rfl,_⟩<;>cases n<;>rfl
theorem Sl.cells{z:Nat}{es:List AV}{x:AV}(h:Sl z es x):x.cells=[x]∧x.one=true:=by
 rcases h with ⟨rfl,_⟩ | ⟨c,rfl,_⟩<;>exact⟨rfl,rfl⟩
@[simp] theorem SA(g:dk)(n:Nat)(x:Value):view g (n+1) (.v x)=some (.v x):=id rfl
@[simp] theorem aam(g:dk)(n:Nat)(x:UInt8):view g (n+1) (a8 x)=some (a8 x):=id rfl
@[simp] theorem YH(g:dk)(n:Nat)(x:UInt32):view g (n+1) (aG x)=some (aG x):=id rfl
@[simp] theorem VW(g:dk)(n z:Nat)(es:List AV)(c:Option Nat):view g (n+1) (.cw z es c)=some (.cw z es c):=id rfl
@[simp] theorem VY(g:dk)(n:Nat)(cs:List AV):view g (n+1) (.agg cs)=(cs.mapM (view g n)).map .agg:=id rfl
@[simp] theorem VV(g:dk)(n:Nat)(cs:List AV):view g (n+1) (.tup cs)=(cs.mapM (view g n)).map .tup:=id rfl
@[simp] theorem Us(g:dk)(n z:Nat)(es:List AV)(i j:Nat):view g (n+1) (.iptr z es i j)=some (.iptr z es i j):=id rfl
@[simp] theorem VX(g:dk)(n:Nat)(t:TypeId)(x:AV):view g (n+1) (.ifc t x)=(view g n x).map (.ifc t):=id rfl
theorem Bx{g:dk}{r:Ref}{b:bN}(hr:g r=some b)(n o l:Nat)(c:Option Nat):view g (n+1) (.cM r o l c)=if b.arr=true∧o+l≤b.es.length then some (.cw b.esz ((b.es.drop o).take l) c) else none:=by
 simp only[view,hr]
theorem bD:depth=8:=Nat.le_antisymm (Nat.le_refl 8) (Nat.le_refl 8)
end Go.Ab
namespace Go.Ab
@[simp] theorem ab.po(r q:Ref)(b:Option bN)(H:ab):ab.get ((r,b) :: H) q=if r=q then b else ab.get H q:=id rfl
attribute [simp] ab.get_put
@[simp] theorem Zy(P:Program)(r:Ref)(e:TypeId)(x:AV)(h0:0<(aU P e).getD 0):cD P r e (some x)=if some x.cells.length=aU P e∧x.cells.all AV.one=true then some (.ptr r 0 0,[⟨(aU P e).getD 0,[x],false,false⟩]) else none:=by
 unfold cD
 cases h:aU P e with
 | none=>simp
 | some n=>rw[h]at h0;simp only[Option.getD_some]at h0;simp[h0]
def Fr(H:ab):Prop :=∀d t g k,H.gen d t≤g→H.get ⟨d,t,g,k⟩=none
theorem Fr.nil:Fr []:=fun _ _ _ _ _=>rfl
theorem Fr.keyed{H:ab}(h:Fr H)(bs:List bN)(d t:Nat):Fr (Ab.keyed ⟨d,t,H.gen d t,0⟩ 0 bs H):=by
 intro d' t' g k hg
 rw[ab.ja]at hg
 rw[ab.ET]
 by_cases hb:bs=[]
 ·subst hb
  rw[if_neg (by simp)]at hg
  simp[h _ _ _ _ hg]
 ·by_cases hd:d'=d∧t'=t
  ·obtain⟨rfl,rfl⟩:=hd
   rw[if_pos ⟨rfl,rfl,hb⟩]at hg
   dsimp only at hg ⊢
   rw[if_neg (by intro hh;have:=hh.2.2.1;omega)]
   exact h _ _ _ _ (by omega)
  ·rw[if_neg (by intro hh;exact hd ⟨hh.1,hh.2.1⟩)]at hg
   dsimp only at hg ⊢
   rw[if_neg (by intro hh;exact hd ⟨hh.1,hh.2.1⟩)]
   exact h _ _ _ _ hg
theorem Fr.put{H:ab}(h:Fr H){r:Ref}(b:Option bN)(hr:(H.get r).isSome=true):Fr (H.put r b):=by
 intro d t g k hg
 rw[ab.kz H r b hr]at hg
 rw[ab.get_put]
 split
 ·rename_i e
  subst e
  rw[h _ _ _ _ hg]at hr
  cases hr
 ·exact h _ _ _ _ hg
theorem Fr.cons{H:ab}(h:Fr H)(d t:Nat)(b:Option bN):Fr ((⟨d,t,H.gen d t,0⟩,b) :: H):=by
 intro d' t' g k hg
 simp only[ab.gen]at hg
 rw[ab.po]
 split at hg
 ·rename_i e
  obtain⟨rfl,rfl⟩:=e
  rw[if_neg (by intro e;injection e;omega)]
  exact h _ _ _ _ (by omega)
 ·rename_i e
  rw[if_neg (by intro e';injection e' with e1 e2;exact e ⟨e1,e2⟩)]
  exact h _ _ _ _ hg
theorem pS{H:ab}(hF:Fr H){q:Ref}(h:(H.get q).isSome=true)(d t k:Nat):(⟨d,t,H.gen d t,k⟩:Ref)≠q:=by
 intro e;subst e;rw[hF _ _ _ _ (Nat.le_refl _)]at h;cases h
def T6(P:Program)(t z by':Nat):Bool:=match dY P t with
 | some e=>aU P e == some z&&lA P e == some by'&&(match eG P e with | some zz=>zz.cells.length == z&&zz.cells.all AV.one | none=>false)&&z != 0&&by' != 0
 | none=>false
def Dl(P:Program)(t:TypeId):Bool:=(P.underlying t).isSome && !isInt P t
theorem jk{P:Program}{t z by':Nat}(h:T6 P t z by'=true) : ∃e zz,dY P t=some e∧aU P e=some z∧lA P e=some by'∧eG P e=some zz∧zz.cells.length=z∧zz.cells.all AV.one=true∧z≠0∧by'≠0:=by
 unfold T6 at h
 split at h
 ·rename_i e he
  simp only[Bool.and_eq_true,beq_iff_eq,bne_iff_ne]at h
  obtain⟨⟨⟨⟨h1,h2⟩,h3⟩,h4⟩,h5⟩:=h
  split at h3
  ·rename_i zz hz
   simp only[Bool.and_eq_true,beq_iff_eq]at h3
   exact⟨e,zz,he,h1,h2,hz,h3.1,h3.2,h4,h5⟩
  ·cases h3
 ·cases h
def Ro(g:dk)(z:Nat)(new:List AV)(x:AV):Prop:=(x=cP∧new=[])∨(isNum x=false∧x≠cP∧cT g x=some (z,new))
theorem Ro.mq{P:Program}{t z by':Nat}(h:T6 P t z by'=true){e:TypeId}(he:dY P t=some e){g:dk}{new:List AV}{x:AV}(hx:Ro g z new x):mq P g e x=some (z,new):=by
 obtain⟨e',zz,h1,h2,h3,h4,h5,h6,h7,h8⟩:=jk h
 rw[he]at h1;cases h1
 rcases hx with ⟨rfl,rfl⟩ | ⟨hn,hne,hx⟩
 ·simp only[Ab.mq,h2,Option.map_some]
 ·unfold Ab.mq
  split
  ·exact(hne rfl).elim
  ·simp[isNum]at hn
  ·exact hx
theorem Ro.num{g:dk}{z:Nat}{new:List AV}{x:AV}(hx:Ro g z new x):isNum x=false:=by
 rcases hx with ⟨rfl,_⟩ | ⟨hn,_⟩
 ·rfl
 ·exact hn
theorem Sl.FR{z:Nat}{es:List AV}{x:AV}(h:Sl z es x)(g:dk):Ro g z es x:=by
 rcases h with ⟨rfl,rfl⟩ | ⟨c,rfl,_⟩
 ·exact .inl ⟨rfl,rfl⟩
 ·exact .inr ⟨rfl,(by intro e;cases e),rfl⟩
def Own(z:Nat)(es:List AV)(H:ab)(x:AV):Prop:=(x=cP∧es=[]) ∨∃r,x = .cM r 0 es.length none∧H.get r=some ⟨z,es,true,false⟩
theorem Ks(z:Nat)(H:ab):Own z [] H cP := .inl ⟨rfl,rfl⟩
theorem Own.len{z:Nat}{es:List AV}{H:ab}{x:AV}(h:Own z es H x):rq x=some es.length:=by
 rcases h with ⟨rfl,rfl⟩ | ⟨r,rfl,_⟩<;>rfl
theorem Own.view{z:Nat}{es:List AV}{H:ab}{x:AV}(h:Own z es H x)(n:Nat) : ∃y,view H.get (n+1) x=some y∧Sl z es y:=by
 rcases h with ⟨rfl,rfl⟩ | ⟨r,rfl,hr⟩
 ·exact⟨cP,rfl,.inl ⟨rfl,rfl⟩⟩
 ·refine⟨.cw z es none,?_,Sl.mk z es⟩
  rw[Bx hr]
  simp
theorem Own.FR{z:Nat}{es:List AV}{H:ab}{x:AV}(h:Own z es H x):Ro H.get z es x:=by
 rcases h with ⟨rfl,rfl⟩ | ⟨r,rfl,hr⟩
 ·exact .inl ⟨rfl,rfl⟩
 ·refine .inr ⟨rfl,(by intro e;cases e),?_⟩
  simp[cT,hr]
def AV.at?:AV→Option Ref
 | .cM r _ _ _=>some r
 | .ptr r _ _=>some r
 | _=>none
theorem Ek{P:Program}{t:TypeId}{z n:Nat}{H:ab}{r:Ref}{es:List AV}{i j:Nat}{x y:AV}(hr:H.get r=some ⟨z,es,true,false⟩)(hn:aU P t=some n)(hx:x.cells.length=n)(h1:x.cells.all AV.one=true)
 (hv:view H.get depth x=some y) (hrf:aH H.get depth x=[]) (hy:y.cells.all AV.one=true) {es':List AV} (hw:fb es i j y.cells=some es') :
 aT P H t (some (.ptr r i j)) (some x)=some (AV.undef,H.put r (some ⟨z,es',true,false⟩)):=by
 simp only[aT,hn,hr,hx,h1,and_self,if_true,hv,hrf,hy,hw,Option.map_some,cq]
 simp
theorem Own.cM{z:Nat}{es:List AV}{H:ab}{x:AV}(h:Own z es H x)(hn:es≠[]) : ∃r,x = .cM r 0 es.length none∧H.get r=some ⟨z,es,true,false⟩:=by
 rcases h with ⟨_,rfl⟩ | h
 ·exact(hn rfl).elim
 ·exact h
end Go.Ab
