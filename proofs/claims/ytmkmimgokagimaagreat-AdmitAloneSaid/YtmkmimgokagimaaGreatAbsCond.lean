/-
  What is to be shown for a run of the abstract machine, as one proposition that is computed from the code. No statement of a seat is proved here.
  More fuel gives the same answer. No statement of a seat is proved here.
  What the abstract machine's operations yield on data: the rules for the conditions. No statement of a seat is proved here.
  Own memory in the conditions: appends, stores, loads, what is seen of it. No statement of a seat is proved here.
-/
import Derived.Test.YtmkmimgokagimaaGreatAbsEnv
import Derived.IntWalk
set_option linter.unusedVariables false
set_option linter.unusedSimpArgs false
namespace Go.Ab
abbrev ek:=Nat→AV
def cT(s:ek):Operand→Option AV
 | .tmp t=>some (s t)
 | .const v=>ofValue v
 | .func f=>some (.fn (.func f) [] [])
 | .global _=>none
def Br(ev:Operand→Option AV):List Operand→Option (List AV)
 | []=>some []
 | o :: os=>match ev o,Br ev os with
  | some x,some xs=>some (x :: xs)
  | _,_=>none
def Cs(ev:Operand→Option AV):List (Nat × Operand)→Option (List (Nat × AV))
 | []=>some []
 | (i,o) :: os=>match ev o,Cs ev os with
  | some x,some xs=>some ((i,x) :: xs)
  | _,_=>none
def Kc(ev:Operand→Option AV):Option Operand→Option (Option Int)
 | none=>some none
 | some o=>match (ev o).bind tF with
  | some n=>some (some n)
  | none=>none
def WT(s:ek)(d:Nat)(v:AV):ek:=fun i=>cond (Nat.beq i d) v (s i)
def eu(tm:List AV)(s:ek):Prop :=∀i,dL tm i=s i
theorem vC{tm:List AV}{s:ek}(h:eu tm s):bu tm=cT s:=by
 funext o;cases o<;>simp[bu,cT,h _]
theorem Fs(ev:Operand→Option AV)(l:List Operand):l.mapM ev=Br ev l:=by
 induction l with
 | nil=>rfl
 | cons o l ih =>
  simp only[List.mapM_cons,ih,Br,Option.pure_def,Option.bind_eq_bind]
  cases ev o<;>cases Br ev l<;>rfl
theorem Hz{tm:List AV}{s:ek}(h:eu tm s)(l:List (Nat × Operand)):gp tm l=Cs (cT s) l:=by
 induction l with
 | nil=>rfl
 | cons o l ih =>
  obtain⟨i,o⟩:=o
  unfold gp at ih ⊢
  rw[List.mapM_cons,ih]
  simp only[Cs,Option.pure_def,Option.bind_eq_bind,vC h]
  cases cT s o<;>cases Cs (cT s) l<;>rfl
theorem Iw{tm:List AV}{s:ek}(h:eu tm s)(o:Option Operand):kp tm o=Kc (cT s) o:=by
 cases o with
 | none=>rfl
 | some o=>simp only[kp,Kc,vC h];rfl
theorem eu.set{tm:List AV}{s:ek}(h:eu tm s)(d:Nat)(v:AV):eu (AN tm d v) (WT s d v):=by
 intro i
 rw[rz]
 unfold WT
 split
 ·rename_i e;subst e;simp
 ·rename_i e;rw[show Nat.beq i d=false from by cases hb:Nat.beq i d with | false=>rfl | true=>exact(e (Nat.eq_of_beq_eq_true hb)).elim];exact h i
def bp(c a b:Option AV):gV :=
 match c.bind CY with
 | some true=>cz a
 | some false=>cz b
 | none=>none
def bg(H:ad)(r:Ref)(q:gV):dY :=
 match q with
 | some (v,bs)=>some (v,keyed r 0 bs H)
 | none=>none
def DJ(wk:Bool)(a b:dY):dY :=
 match a with
 | some x=>some x
 | none=>cond wk b none
def bo(E:Env)(wk:Bool)(pc:FuncId→List AV→Option AV)(tc:wc→List AV→ad→dY)(H:ad)(r:Ref)(f:Option AV)(args:List AV):dY :=
 DJ wk (bg H r (iI E pc H.get r f args)) (lE E pc tc H r f args)
def lI(E:Env)(wk:Bool)(pc:FuncId→List AV→Option AV)(tc:wc→List AV→ad→dY)(H:ad)(r:Ref)(f:Option AV)(args:List AV):dY :=
 DJ wk (bg H r ((iI E pc H.get r f args).map fun p=>(p.1,yb true p.2))) (n7 true E.sm H (lE E pc tc H r f args))
def de(P:Program)(wk:Bool)(H:ad)(r:Ref)(t t':Option TypeId)(s x:AV):dY :=
 DJ wk (bg H r (hJ P H.get r t t' s x)) (kU P H t t' s x)
def fu(P:Program)(draw wk:Bool)(H:ad)(r:Ref)(t:TypeId)(n:Nat)(vs:Option (List (Nat × AV))):dY :=
 DJ wk (bg H r (fJ P draw H.get r t n vs)) (iG P H r t n vs)
def vm(E:Env)(pc:FuncId→List AV→Option AV)(tc:wc→List AV→ad→dY)(dep:Nat)(draw wk:Bool)(s:ek)(H:ad)(r:Ref)(o:Oper):gV ⊕ dY :=
 match o.op with
 | .move x | .assign x => .inl (cz (cT s x))
 | .pick c a b => .inl (bp (cT s c) (cT s a) (cT s b))
 | .alloc e => .inr (bg H r (bI E.P r e))
 | .box e x => .inr (bg H r (cd E.P r e (cT s x)))
 | .build t ps => .inl (ch E.P t (Cs (cT s) ps.toList))
 | .buildSlice t n ps => .inr (fu E.P (draw && !E.strict o) wk H r t n (Cs (cT s) ps.toList))
 | .load t a => .inl (aj E.P H.get t (cT s a))
 | .store t a x => .inr (cond wk (aQ E.P H t (cT s a) (cT s x)) none)
 | .nilCheck x => .inl (jB (cT s x))
 | .binOp op t xo yo _ => .inl (aH E.P op t xo yo (cT s xo) (cT s yo))
 | .unOp op _ x => .inl (vk E.P op (cT s x))
 | .convert src dst x=>match eZ E.P dst with
  | true => .inr (bg H r (cZ E.P H.get r src dst (cT s x)))
  | false => .inl (cZ E.P H.get r src dst (cT s x))
 | .makeInterface t x => .inl (pU E.P t (cT s x))
 | .makeFunc f first captured => .inl (fp f (Br (cT s) first.toList) (Br (cT s) captured.toList))
 | .makeSlice t l c => .inr (bg H r (Db E.P r t (cT s l) (cT s c)))
 | .slice t x lo hi mx=>match E.wide o && !draw with
  | true => .inl (tz E.P H.get t (cT s x) (Kc (cT s) lo) (Kc (cT s) hi) (Kc (cT s) mx))
  | false => .inl (eU E.P H.get t (cT s x) (Kc (cT s) lo) (Kc (cT s) hi) (Kc (cT s) mx))
 | .fieldAddr t x f => .inl (aa E.P t (cT s x) f)
 | .field t x f => .inl (pV E.P t (cT s x) f)
 | .indexAddr t x ix => .inl (bq E.P H.get t (cT s x) (cT s ix))
 | .index t x ix => .inl (o5 E.P t (cT s x) (cT s ix))
 | .typeAssert x _ want ok => .inl (qm E.P (cT s x) want ok)
 | .extract x i => .inl (aE (cT s x) i)
 | .call c =>
  match Br (cT s) c.args.toList with
  | none => .inl none
  | some args =>
   match c.callee with
   | .value f=>(match Dd E.sR draw f with
    | some t => .inl (J0 E.P H.get t args)
    | none=>(match E.iX o with
     | true => .inr (lI E wk pc tc H r (cT s f) args)
     | false => .inr (bo E wk pc tc H r (cT s f) args)))
   | .invoke _ _ => .inl none
   | .builtin b=>match b,args with
    | .append,[a,x] => .inr (de E.P wk H r c.argTypes[0]? c.argTypes[1]? a x)
    | .copy,[dst,x]=>(match E.wide o with
     | true => .inr (cond wk (Eo E.P H c.argTypes[0]? dst x) none)
     | false => .inr (cond wk (Jm E.P H c.argTypes[0]? dst x) none))
    | b,args => .inl (aU E.P (draw&&(E.strict o || !(match c.args.toList with | [.tmp _]=>true | _=>false))) H.get r b c.argTypes args)
 | .makeMap _ none => .inr (bg H r (some (.mp r,[bE []])))
 | .lookup t x k ok => .inl (cS E.P H.get t (cT s x) (cT s k) ok)
 | .mapUpdate t m k x => .inr (cond wk (dO E.P H t (cT s m) (cT s k) (cT s x)) none)
 | .insert t m k x => .inr (cond wk (dO E.P H t (cT s m) (cT s k) (cT s x)) none)
 | .mapEntry t m k => .inr (cond wk (eM E.P H t (cT s m) (cT s k)) none)
 | .entryStore _ m n x => .inr (cond wk (dp H (cT s m) (cT s n) (cT s x)) none)
 | _ => .inl none
def om(E:Env)(pc:FuncId→List AV→Option AV)(tc:wc→List AV→ad→dY)(dep:Nat)(draw:Bool)(tm:List AV)(H:ad)(o:Oper):dY :=
 match cN E pc draw H.get tm ⟨dep,o.dst.getD 0,H.gen dep (o.dst.getD 0),0⟩ o with
 | some (x,bs)=>some (x,keyed ⟨dep,o.dst.getD 0,H.gen dep (o.dst.getD 0),0⟩ 0 bs H)
 | none=>if draw && !gY E o then none else evalW E pc tc H tm ⟨dep,o.dst.getD 0,H.gen dep (o.dst.getD 0),0⟩ o
theorem FJ(E:Env)(pc:FuncId→List AV→Option AV)(tc:wc→List AV→ad→dY)(nt dep:Nat)(draw:Bool)(ops:Array Oper)(o:Oper)(st:St) :
 evalOp E pc tc nt dep draw ops o st=(match wanted ops st.tm o with
  | none=>none
  | some false=>(dB nt st.tm o.dst AV.undef).map fun tm => { st with tm}
  | some true=>match om E pc tc dep draw st.tm st.hp o with
   | some (x,H)=>(dB nt st.tm o.dst x).map fun tm=>⟨tm,H⟩
   | none=>none):=by
 unfold evalOp om
 cases hw:wanted ops st.tm o with
 | none=>rfl
 | some b =>
 cases b with
 | false=>rfl
 | true =>
  cases cN E pc draw st.hp.get st.tm ⟨dep,o.dst.getD 0,st.hp.gen dep (o.dst.getD 0),0⟩ o with
  | some p=>rfl
  | none =>
   dsimp only
   split
   ·rfl
   ·rfl
theorem Ue{E:Env}{pc:FuncId→List AV→Option AV}{tc:wc→List AV→ad→dY}{dep:Nat}{draw:Bool}{tm:List AV}{H:ad}{o:Oper}{v:AV}
 (h:cN E pc draw H.get tm ⟨dep,o.dst.getD 0,H.gen dep (o.dst.getD 0),0⟩ o=some (v,[])):om E pc tc dep draw tm H o=some (v,H):=by
 unfold om;rw[h];rfl
theorem NG{E:Env}{pc:FuncId→List AV→Option AV}{tc:wc→List AV→ad→dY}{dep:Nat}{draw:Bool}{tm:List AV}{H H':ad}{o:Oper}{v:AV}{q:gV}
 (h:cN E pc draw H.get tm ⟨dep,o.dst.getD 0,H.gen dep (o.dst.getD 0),0⟩ o=q) (hq:bg H ⟨dep,o.dst.getD 0,H.gen dep (o.dst.getD 0),0⟩ q=some (v,H')):om E pc tc dep draw tm H o=some (v,H'):=by
 unfold om;rw[h]
 unfold bg at hq
 split at hq
 ·exact hq
 ·cases hq
theorem pd{E:Env}{pc:FuncId→List AV→Option AV}{tc:wc→List AV→ad→dY}{dep:Nat}{draw:Bool}{tm:List AV}{H H':ad}{o:Oper}{v:AV}{q:gV}{w:dY}
 (h:cN E pc draw H.get tm ⟨dep,o.dst.getD 0,H.gen dep (o.dst.getD 0),0⟩ o=q) (hw:evalW E pc tc H tm ⟨dep,o.dst.getD 0,H.gen dep (o.dst.getD 0),0⟩ o=w)
 (hq:DJ (!(draw && !gY E o)) (bg H ⟨dep,o.dst.getD 0,H.gen dep (o.dst.getD 0),0⟩ q) w=some (v,H')):om E pc tc dep draw tm H o=some (v,H'):=by
 unfold om;rw[h]
 cases q with
 | some p=>simpa [DJ,bg] using hq
 | none =>
  rw[hw]
  cases hd:(draw && !gY E o) with
  | true=>rw[hd]at hq;simp[DJ,bg]at hq
  | false=>rw[hd]at hq;simpa [DJ,bg] using hq
section
variable{E:Env}{pc:FuncId→List AV→Option AV}{tc:wc→List AV→ad→dY}{dep:Nat}{draw:Bool}{tm:List AV}{s:ek}{H:ad}{o:Oper}
theorem Tl(hs:eu tm s){q:gV}{v:AV}
 (h:vm E pc tc dep draw (!(draw && !gY E o)) s H ⟨dep,o.dst.getD 0,H.gen dep (o.dst.getD 0),0⟩ o = .inl q) (hq:q=some (v,[])):om E pc tc dep draw tm H o=some (v,H):=by
 subst hq
 refine Ue ?_
 have e:=vC hs
 unfold vm at h
 unfold cN
 split at h<;>rename_i ho<;>simp only[ho]
 all_goals try (simp only[Sum.inl.injEq,reduceCtorEq]at h)
 all_goals try (rw[←h];simp only[e,bp,EZ,Hz hs,Iw hs,Fs];done)
 ·rw[←h];unfold EZ bp;rw[e];rfl
 ·split at h
  ·cases h
  ·simp only[Sum.inl.injEq]at h;rw[←h,e]
 ·cases hwd:(E.wide o && !draw) with
  | true=>rw[hwd]at h;simp only[Sum.inl.injEq]at h;rw[←h];simp only[cond_true,e,Iw hs]
  | false=>rw[hwd]at h;simp only[Sum.inl.injEq]at h;rw[←h];simp only[cond_false,e,Iw hs]
 ·rw[Fs,e]
  split at h
  ·cases h
  ·rename_i args hargs
   rw[hargs]
   dsimp only
   split at h
   ·rename_i f hf
    rw[hf]
    dsimp only
    split at h
    ·rename_i t ht
     simp only[Sum.inl.injEq]at h
     simp only[ht]
     exact h
    ·split at h<;>cases h
   ·cases h
   ·rename_i b hb
    rw[hb]
    dsimp only
    split at h
    ·cases h
    ·split at h<;>cases h
    ·simp only[Sum.inl.injEq]at h;exact h
theorem Tk(hs:eu tm s){w:dY}{v:AV}{H':ad}
 (h:vm E pc tc dep draw (!(draw && !gY E o)) s H ⟨dep,o.dst.getD 0,H.gen dep (o.dst.getD 0),0⟩ o = .inr w) (hw:w=some (v,H')):om E pc tc dep draw tm H o=some (v,H'):=by
 subst hw
 have e:=vC hs
 unfold vm at h
 split at h<;>rename_i ho
 all_goals try (simp only[reduceCtorEq]at h;done)
 all_goals try (simp only[Sum.inr.injEq]at h)
 all_goals try (refine NG (by unfold cN;simp only[ho,e]) h;done)
 ·rw[←Hz hs]at h
  exact pd (q:=fJ _ _ _ _ _ _ _) (w:=iG _ _ _ _ _ _) (by unfold cN;simp only[ho]) (by unfold evalW;simp only[ho]) h
 ·rw[←e]at h
  exact pd (q:=none) (w:=aQ _ _ _ _ _) (by unfold cN;simp only[ho]) (by unfold evalW;simp only[ho]) h
 ·split at h
  ·simp only[Sum.inr.injEq]at h
   refine NG (by unfold cN;simp only[ho,e]) h
  ·cases h
 ·split at h<;>cases h
 ·split at h
  ·cases h
  ·rename_i args hargs
   have ha:=hargs
   rw[←Fs,←e]at ha
   split at h
   ·rename_i f hf
    split at h
    ·cases h
    ·rename_i hov
     split at h
     ·rename_i hfz
      simp only[Sum.inr.injEq]at h
      rw[←e]at h
      exact pd (q:=(iI _ _ _ _ _ _).map _) (w:=n7 true _ _ (lE _ _ _ _ _ _ _)) (by unfold cN;simp only[ho,ha,hf,hov,hfz]) (by unfold evalW;simp only[ho,ha,hf,hfz]) h
     ·rename_i hfz
      simp only[Sum.inr.injEq]at h
      rw[←e]at h
      exact pd (q:=iI _ _ _ _ _ _) (w:=lE _ _ _ _ _ _ _) (by unfold cN;simp only[ho,ha,hf,hov,hfz,yb];cases iI E pc H.get _ (bu tm f) args<;>rfl) (by unfold evalW;simp only[ho,ha,hf,hfz];rfl) h
   ·cases h
   ·rename_i b hb
    split at h
    ·simp only[Sum.inr.injEq]at h
     exact pd (q:=hJ _ _ _ _ _ _ _) (w:=kU _ _ _ _ _ _) (by unfold cN;simp only[ho,ha,hb];rfl) (by unfold evalW;simp only[ho,ha,hb]) h
    ·split at h
     ·rename_i hwd
      simp only[Sum.inr.injEq]at h
      exact pd (q:=none) (w:=Eo _ _ _ _ _) (by unfold cN;simp only[ho,ha,hb];rfl) (by unfold evalW;simp only[ho,ha,hb,hwd,cond_true]) h
     ·rename_i hwd
      simp only[Sum.inr.injEq]at h
      exact pd (q:=none) (w:=Jm _ _ _ _ _) (by unfold cN;simp only[ho,ha,hb];rfl) (by unfold evalW;simp only[ho,ha,hb,hwd,cond_false]) h
    ·cases h
 ·rw[←e]at h
  exact pd (q:=none) (w:=dO _ _ _ _ _ _) (by unfold cN;simp only[ho]) (by unfold evalW;simp only[ho]) h
 ·rw[←e]at h
  exact pd (q:=none) (w:=dO _ _ _ _ _ _) (by unfold cN;simp only[ho]) (by unfold evalW;simp only[ho]) h
 ·rw[←e]at h
  exact pd (q:=none) (w:=eM _ _ _ _ _) (by unfold cN;simp only[ho]) (by unfold evalW;simp only[ho]) h
 ·rw[←e]at h
  exact pd (q:=none) (w:=dp _ _ _ _) (by unfold cN;simp only[ho]) (by unfold evalW;simp only[ho]) h
end
open Classical in
noncomputable def bj(E:Env)(f:FuncId)(args:List AV):Option AV :=
 if h : ∃y n,∀m,n≤m→bB E (b8 E m) f args=some y then some h.choose else none
theorem wB{E:Env}{f:FuncId}{args:List AV}{y:AV}:bj E f args=some y ↔ ∃n,∀m,n≤m→bB E (b8 E m) f args=some y:=by
 unfold bj
 constructor
 ·intro h
  split at h
  ·rename_i hh
   simp only[Option.some.injEq]at h
   rw[←h]
   exact hh.choose_spec
  ·cases h
 ·intro h
  rw[dif_pos ⟨y,h⟩]
  obtain⟨n,hn⟩:=h
  have hh : ∃y n,∀m,n≤m→bB E (b8 E m) f args=some y:=⟨y,n,hn⟩
  obtain⟨n',hn'⟩:=hh.choose_spec
  have h1:=hn (max n n') (Nat.le_max_left ..)
  have h2:=hn' (max n n') (Nat.le_max_right ..)
  exact h2.symm.trans h1
open Classical in
noncomputable def bO(E:Env)(dep:Nat)(f:wc)(args:List AV)(H:ad):dY :=
 if h : ∃y n,∀m,n≤m→eT E (b8 E m) dep f args H=some y then some h.choose else none
theorem wA{E:Env}{dep:Nat}{f:wc}{args:List AV}{H:ad}{y:AV × ad}:bO E dep f args H=some y ↔ ∃n,∀m,n≤m→eT E (b8 E m) dep f args H=some y:=by
 unfold bO
 constructor
 ·intro h
  split at h
  ·rename_i hh
   simp only[Option.some.injEq]at h
   rw[←h]
   exact hh.choose_spec
  ·cases h
 ·intro h
  rw[dif_pos ⟨y,h⟩]
  obtain⟨n,hn⟩:=h
  have hh : ∃y n,∀m,n≤m→eT E (b8 E m) dep f args H=some y:=⟨y,n,hn⟩
  obtain⟨n',hn'⟩:=hh.choose_spec
  have h1:=hn (max n n') (Nat.le_max_left ..)
  have h2:=hn' (max n n') (Nat.le_max_right ..)
  exact h2.symm.trans h1
theorem Le{E:Env}{wk:Bool}{dep:Nat}{H H':ad}{r:Ref}{f:Option AV}{args:List AV}{v:AV}(h:bo E wk (bj E) (bO E dep) H r f args=some (v,H')) :
 ∃n,∀m,n≤m→bo E wk (bB E (b8 E m)) (eT E (b8 E m) dep) H r f args=some (v,H'):=by
 unfold bo at h ⊢
 by_cases hf : ∃fi first captured,f=some (.fn (.func fi) first captured)
 ·obtain⟨fi,first,captured,rfl⟩:=hf
  by_cases h2:E.mode fi=2
  ·simp only[iI,lE,if_pos h2,bg,DJ]at h ⊢
   cases wk with
   | true =>
    simp only[cond_true]at h ⊢
    obtain⟨n,hn⟩:=wA.1 h
    exact⟨n,hn⟩
   | false=>simp at h
  ·simp only[iI,lE,if_neg h2]at h ⊢
   cases hx:(first++args++captured).mapM (view H.get depth) with
   | none=>rw[hx]at h;simp[bg,DJ]at h
   | some xs =>
    rw[hx]at h
    dsimp only at h ⊢
    cases hy:bj E fi xs with
    | none=>rw[hy]at h;simp[bg,DJ]at h
    | some y =>
     rw[hy]at h
     obtain⟨n,hn⟩:=wB.1 hy
     refine⟨n,fun m hm=>?_⟩
     rw[hn m hm]
     exact h
 ·have h1 : ∀pc,iI E pc H.get r f args=none:=by
   intro pc
   unfold iI
   split
   ·exact(hf ⟨_,_,_,rfl⟩).elim
   ·rfl
  by_cases hy : ∃q,f=some (.yld q)
  ·obtain⟨q,rfl⟩:=hy
   rw[h1]at h
   cases wk with
   | false=>simp[bg,DJ]at h
   | true =>
    have h':bO E dep (.yld q) args H=some (v,H'):=h
    obtain⟨n,hn⟩:=wA.1 h'
    refine⟨n,fun m hm=>?_⟩
    rw[h1]
    exact hn m hm
  ·have h2 : ∀pc tc,lE E pc tc H r f args=none:=by
    intro pc tc
    unfold lE
    split
    ·exact(hf ⟨_,_,_,rfl⟩).elim
    ·exact(hy ⟨_,rfl⟩).elim
    ·rfl
   rw[h1,h2]at h
   cases wk<;>simp[bg,DJ]at h
theorem Em{sm:Lq}{H H':ad}{x:dY}{v:AV}(h:n7 true sm H x=some (v,H')) : ∃H1,x=some (v,H1)∧H'=H∧flat depth v=true∧(FA H H1||sm.f H H1)=true:=by
 cases x with
 | none=>simp[n7]at h
 | some p =>
  obtain⟨y,H1⟩:=p
  unfold n7 at h
  simp only at h
  split at h
  ·rename_i hc
   cases h
   rw[Bool.and_eq_true]at hc
   exact⟨H1,rfl,rfl,hc.1,hc.2⟩
  ·cases h
theorem I9{E:Env}{wk:Bool}{dep:Nat}{H H':ad}{r:Ref}{f:Option AV}{args:List AV}{v:AV}(h:lI E wk (bj E) (bO E dep) H r f args=some (v,H')) :
 ∃n,∀m,n≤m→lI E wk (bB E (b8 E m)) (eT E (b8 E m) dep) H r f args=some (v,H'):=by
 unfold lI at h ⊢
 by_cases hf : ∃fi first captured,f=some (.fn (.func fi) first captured)
 ·obtain⟨fi,first,captured,rfl⟩:=hf
  by_cases h2:E.mode fi=2
  ·simp only[iI,lE,if_pos h2,bg,DJ,Option.map_none]at h ⊢
   cases wk with
   | true =>
    simp only[cond_true]at h ⊢
    obtain⟨H1,e1,e2,e3,e4⟩:=Em h
    obtain⟨n,hn⟩:=wA.1 e1
    refine⟨n,fun m hm=>?_⟩
    rw[hn m hm]
    rw[e1]at h
    exact h
   | false=>simp at h
  ·simp only[iI,lE,if_neg h2]at h ⊢
   cases hx:(first++args++captured).mapM (view H.get depth) with
   | none=>rw[hx]at h;simp[bg,DJ,n7]at h
   | some xs =>
    rw[hx]at h
    dsimp only at h ⊢
    cases hy:bj E fi xs with
    | none=>rw[hy]at h;simp[bg,DJ,n7]at h
    | some y =>
     rw[hy]at h
     obtain⟨n,hn⟩:=wB.1 hy
     refine⟨n,fun m hm=>?_⟩
     rw[hn m hm]
     exact h
 ·have h1 : ∀pc,iI E pc H.get r f args=none:=by
   intro pc
   unfold iI
   split
   ·exact(hf ⟨_,_,_,rfl⟩).elim
   ·rfl
  by_cases hy : ∃q,f=some (.yld q)
  ·obtain⟨q,rfl⟩:=hy
   rw[h1]at h
   cases wk with
   | false=>simp[bg,DJ]at h
   | true =>
    have h':n7 true E.sm H (bO E dep (.yld q) args H)=some (v,H'):=h
    obtain⟨H1,e1,_⟩:=Em h'
    obtain⟨n,hn⟩:=wA.1 e1
    refine⟨n,fun m hm=>?_⟩
    rw[h1]
    show n7 true E.sm H (eT E (b8 E m) dep (.yld q) args H)=_
    rw[hn m hm]
    rw[e1]at h'
    exact h'
  ·have h2 : ∀pc tc,lE E pc tc H r f args=none:=by
    intro pc tc
    unfold lE
    split
    ·exact(hf ⟨_,_,_,rfl⟩).elim
    ·exact(hy ⟨_,rfl⟩).elim
    ·rfl
   rw[h1,h2]at h
   cases wk<;>simp[bg,DJ,n7]at h
theorem HA{E:Env}{dep:Nat}{draw wk:Bool}{s:ek}{H:ad}{r:Ref}{o:Oper} :
 (∀q v,vm E (bj E) (bO E dep) dep draw wk s H r o = .inl q→q=some (v,[]) →∃n,∀m,n≤m→vm E (bB E (b8 E m)) (eT E (b8 E m) dep) dep draw wk s H r o = .inl (some (v,[]))) ∧
 (∀w v H',vm E (bj E) (bO E dep) dep draw wk s H r o = .inr w→w=some (v,H') →∃n,∀m,n≤m→vm E (bB E (b8 E m)) (eT E (b8 E m) dep) dep draw wk s H r o = .inr (some (v,H'))):=by
 constructor
 ·intro q v h hq
  subst hq
  refine⟨0,fun m _=>?_⟩
  unfold vm at h ⊢
  generalize o.op=op at h ⊢
  cases op
  all_goals try exact h
  case makeMap a b=>cases b<;>exact h
  rename_i c
  dsimp only at h ⊢
  cases ha:Br (cT s) c.args.toList with
  | none=>rw[ha]at h;exact h
  | some args =>
   rw[ha]at h
   dsimp only at h ⊢
   cases hc:c.callee with
   | value f =>
    rw[hc]at h
    dsimp only at h ⊢
    cases hov:Dd E.sR draw f with
    | some t=>rw[hov]at h;exact h
    | none=>rw[hov]at h;dsimp only at h;split at h<;>cases h
   | invoke a b=>rw[hc]at h;exact h
   | builtin b=>rw[hc]at h;exact h
 ·intro w v H' h hw
  subst hw
  unfold vm at h ⊢
  generalize o.op=op at h ⊢
  cases op
  all_goals try (exact⟨0,fun m _=>h⟩)
  case makeMap a b=>cases b<;>exact⟨0,fun m _=>h⟩
  rename_i c
  dsimp only at h ⊢
  cases ha:Br (cT s) c.args.toList with
  | none=>rw[ha]at h;cases h
  | some args =>
   rw[ha]at h
   dsimp only at h ⊢
   cases hc:c.callee with
   | value f =>
    rw[hc]at h
    dsimp only at h ⊢
    cases hov:Dd E.sR draw f with
    | some t=>rw[hov]at h;cases h
    | none =>
    rw[hov]at h
    dsimp only at h ⊢
    cases hfz:E.iX o with
    | true =>
     rw[hfz]at h
     simp only[Sum.inr.injEq]at h
     obtain⟨n,hn⟩:=I9 h
     exact⟨n,fun m hm=>congrArg _ (hn m hm)⟩
    | false =>
     rw[hfz]at h
     simp only[Sum.inr.injEq]at h
     obtain⟨n,hn⟩:=Le h
     exact⟨n,fun m hm=>congrArg _ (hn m hm)⟩
   | invoke a b=>rw[hc]at h;cases h
   | builtin b=>rw[hc]at h;exact⟨0,fun m _=>h⟩
abbrev Mk{α:Type}(a:α):Type:=Unit
structure ak (q:gV) (K:AV→Prop) (m:Mk K:=()):Prop where
 h : ∃v,q=some (v,[])∧K v
structure aL (w:dY) (K:AV→ad→Prop) (m:Mk K:=()):Prop where
 h : ∃v H,w=some (v,H)∧K v H
def Uw(x:AV)(want:Bool):Option Bool :=
 match x with
 | .v (.bool b)=>some (b == want)
 | .v (.tuple vs)=>if vs.isEmpty then some false else none
 | _=>none
def gd(x:AV)(want:Bool)(A B:Prop):Prop :=
 match Uw x want with
 | some true=>A
 | some false=>B
 | none=>False
structure gQ (x:AV) (want:Bool) (q:gV) (K:AV→Prop) (m:Mk (q,K):=()):Prop where
 h:gd x want (ak q K) (K AV.undef)
structure gW (x:AV) (want:Bool) (H:ad) (w:dY) (K:AV→ad→Prop) (m:Mk (w,K):=()):Prop where
 h:gd x want (aL w K) (K AV.undef H)
def brP(x:Option AV)(A B:Prop):Prop :=
 match x.bind CY with
 | some b=>cond b A B
 | none=>False
structure br (x:Option AV) (A B:Prop) (m:Mk (A,B):=()):Prop where
 h:brP x A B
def IQ(ops:Array Oper)(s:ek)(o:Oper):Option (Option (AV × Bool)) :=
 match o.guard with
 | none=>none
 | some (j,want)=>match (ops[j]?).bind (·.dst) with
  | some t=>some (some (s t,want))
  | none=>some none
def GK(nt:Nat)(s:ek)(dst:Option Tmp)(v:AV)(K:ek→Prop):Prop :=
 match dst with
 | none=>K s
 | some d=>cond (Nat.blt d nt) (K (WT s d v)) False
def Vv(E:Env)(nt dep:Nat)(draw:Bool)(ops:Array Oper)(o:Oper)(s:ek)(H:ad)(K:ek→ad→Prop):Prop :=
 match vm E (bj E) (bO E dep) dep draw (!(draw && !gY E o)) s H ⟨dep,o.dst.getD 0,H.gen dep (o.dst.getD 0),0⟩ o with
 | .inl q=>match IQ ops s o with
  | none=>(match o.op with
   | .move x | .assign x=>(match cT s x with
    | some v=>GK nt s o.dst v fun s=>K s H
    | none=>False)
   | _=>ak q fun v=>GK nt s o.dst v fun s=>K s H)
  | some (some (x,want))=>gQ x want q fun v=>GK nt s o.dst v fun s=>K s H
  | some none=>GK nt s o.dst AV.undef fun s=>K s H
 | .inr w=>match IQ ops s o with
  | none=>aL w fun v H=>GK nt s o.dst v fun s=>K s H
  | some (some (x,want))=>gW x want H w fun v H=>GK nt s o.dst v fun s=>K s H
  | some none=>GK nt s o.dst AV.undef fun s=>K s H
def wpOps(E:Env)(nt dep:Nat)(draw:Bool)(ops:Array Oper):List Oper→ek→ad→(ek→ad→Prop)→Prop
 | [],s,H,K=>K s H
 | o :: os,s,H,K=>Vv E nt dep draw ops o s H fun s H=>wpOps E nt dep draw ops os s H K
def Fin(E:Env)(fn:Func)(rd:Option Ref)(o:Option St)(y:AV)(H':ad):Prop:=match rd with
 | none =>∃st,o=some st∧vj E.P fn st=some y∧st.hp=H'
 | some r =>∃st n,o=uO (some r) st n∧y = .v (.int .i64 (n:Nat))∧st.hp=H'
def rl(E:Env)(fn:Func)(rd:Option Ref)(dep:Nat)(items:List Item)(s:ek)(H:ad)(Q:AV→ad→Prop):Prop :=
 ∀tm,eu tm s →∃y H',Q y H' ∧∃n,∀m,n≤m→Fin E fn rd (b8 E m rd fn.ntmps dep items ⟨tm,H⟩) y H'
def PA(g:ek):List (Nat × AV)→ek
 | [],i=>g i
 | (j,v) :: l,i=>cond (Nat.beq i j) v (PA g l i)
structure Ut (E:Env) (fn:Func) (rd:Option Ref) (dep:Nat) (items:List Item) (l:List (Nat × AV)) (H:ad) (Q:AV→ad→Prop):Prop where
 h : ∀g,rl E fn rd dep items (PA g l) H Q
abbrev b7(E:Env)(fn:Func)(dep:Nat)(items:List Item)(l:List (Nat × AV))(H:ad)(Q:AV→ad→Prop):Prop:=Ut E fn none dep items l H Q
def AX(s:ek):List Nat→List (Nat × AV)
 | []=>[]
 | t :: ts=>(t,s t) :: AX s ts
theorem QZ(s:ek)(l:List Nat):PA s (AX s l)=s:=by
 induction l with
 | nil=>rfl
 | cons t l ih =>
  funext i
  show cond (Nat.beq i t) (s t) (PA s (AX s l) i)=s i
  rw[ih]
  cases h:Nat.beq i t with
  | true=>rw[Nat.eq_of_beq_eq_true h];rfl
  | false=>rfl
def jE:Code→Option Nat
 | .region id _ _=>some id
 | .seq a b=>match jE a with
  | some i=>some i
  | none=>jE b
 | .cond _ a b=>match jE a with
  | some i=>some i
  | none=>jE b
 | .block _ c | .loop c | .scope c=>jE c
 | _=>none
def bC(P:Program)(H:ad)(x:AV)(t:TypeId):gV :=
 match x,dt P t,bm P t with
 | .ptr r i j,some g,some n=>match H.get r with
  | some b=>cz (eQ b.es i j n g)
  | none=>none
 | _,_,_=>none
def pack:List AV→AV
 | [] => .v (.tuple #[])
 | [x]=>x
 | xs => .tup xs
def El(P:Program)(s:ek)(H:ad)(Q:AV→ad→Prop):List ResultVar→List AV→Prop
 | [],acc=>Q (pack acc.reverse) H
 | .tmp t :: rs,acc=>El P s H Q rs (s t :: acc)
 | .cell a t :: rs,acc=>ak (bC P H (s a) t) fun v=>El P s H Q rs (v :: acc)
def o3(x y:AV):Bool:=match gZ x,gZ y with
 | some r,some r'=>decide (r≠r')
 | _,_=>true
def uJ(H:ad)(x:AV):Bool:=match x with
 | .ptr r _ _=>(match H.get r with
  | some b => !b.arr
  | none=>false)
 | _=>true
def bsV(x:AV):Bool:=match x with
 | .cP .. => true
 | .v _=>true
 | _=>false
def QD(s:ek)(p:Tmp × Tmp):Bool:=o3 (s p.1) (s p.2)
def EM(s:ek)(H:ad)(o:Oper):Bool:=match o.op with
 | .store _ (.tmp t) _=>uJ H (s t)
 | _=>true
def NK(E:Env)(s:ek)(o:Oper):Bool := !(E.iX o&&Ak o.op)||(match Vs o.op with
 | some t=>bsV (s t)
 | none=>false)
def RY(E:Env)(l:List (Tmp × Tmp))(ops:Array Oper)(s:ek)(H:ad):Prop:=l.all (QD s)=true∧ops.toList.all (EM s H)=true∧ops.toList.all (NK E s)=true
def lD(l:List (AV × AV))(st bs:List AV)(H:ad):Prop:=(l.all fun p=>o3 p.1 p.2)=true∧st.all (uJ H)=true∧bs.all bsV=true
def UF(assign body:Code):Nat:=match jE (.seq assign body) with
 | some i=>i+10000
 | none=>10000
structure bgP (o:Option (Nat × AV)) (K:AV→Prop) (m:Mk K:=()):Prop where
 h : ∃info,o=some (0,info)∧K info
def Ji(P:Program)(fn:Func)(rd:Option Ref)(code:Nat)(s:ek)(H:ad)(Q:AV→ad→Prop):Prop:=match rd with
 | none=>cond (Nat.ble code 2) (El P s H Q fn.results.toList []) False
 | some _=>Q (.v (.int .i64 code)) H
def wp(E:Env)(fn:Func)(rd:Option Ref)(dep:Nat)(live:Nat→Option (List Nat))(cut:Nat→Bool)(Q:AV→ad→Prop):Nat→List Item→ek→ad→Prop
 | 0,items,s,H=>rl E fn rd dep items s H Q
 | n+1,items,s,H =>
  match items with
  | []=>Ji E.P fn rd 0 s H Q
  | .beginRound :: k=>(match rd with
   | none=>False
   | some r=>bgP (wz H r) fun info=>wp E fn rd dep live cut Q n k s (H.put r (some (iS 1 info))))
  | .code c :: k =>
   (match c with
   | .skip | .label _=>wp E fn rd dep live cut Q n k s H
   | .ret=>Ji E.P fn rd 2 s H Q
   | .seq a b=>wp E fn rd dep live cut Q n (.code a :: .code b :: k) s H
   | .cond c a b=>br (cT s c) (wp E fn rd dep live cut Q n (.code a :: k) s H) (wp E fn rd dep live cut Q n (.code b :: k) s H)
   | .block id b=>wp E fn rd dep live cut Q n (.code b :: .inBlock id :: k) s H
   | .scope b=>wp E fn rd dep live cut Q n (.code b :: .inScope b :: k) s H
   | .loop b=>(match (jE b).bind live with
    | some l=>Ut E fn rd dep (.inLoop b :: k) (AX s l) H Q
    | none=>rl E fn rd dep (.inLoop b :: k) s H Q)
   | .exit id=>(match exitTo id k with
    | some k'=>wp E fn rd dep live cut Q n k' s H
    | none=>Ji E.P fn rd (id+3) s H Q)
   | .rangeFunc g ps a b=>(match live (UF a b) with
    | some l=>Ut E fn rd dep (.code (.rangeFunc g ps a b) :: k) (AX s l) H Q
    | none=>rl E fn rd dep (.code (.rangeFunc g ps a b) :: k) s H Q)
   | .region id ops draw=>(match cut id with
    | true=>(match live id with
     | some l=>Ut E fn rd dep (.code (.region id ops draw) :: k) (AX s l) H Q
     | none=>False)
    | false=>wpOps E fn.ntmps dep draw ops ops.toList s H fun s H =>
     (match draw,pt E ops with
     | true,p :: ps=>RY E (p :: ps) ops s H∧wp E fn rd dep live cut Q n k s H
     | _,_=>wp E fn rd dep live cut Q n k s H))
   | _=>False)
  | .inLoop b :: k=>(match (jE b).bind live with
   | some l=>Ut E fn rd dep (.inLoop b :: k) (AX s l) H Q
   | none=>rl E fn rd dep (.inLoop b :: k) s H Q)
  | .inBlock _ :: k | .inScope _ :: k=>wp E fn rd dep live cut Q n k s H
  | _=>False
theorem qu{ops:Array Oper}{tm:List AV}{s:ek}(h:eu tm s)(o:Oper):wanted ops tm o=(match IQ ops s o with
 | none=>some true
 | some (some (x,want))=>Uw x want
 | some none=>some false):=by
 unfold wanted IQ
 split
 ·rename_i hg;rw[hg]
 ·rename_i j want hg
  rw[hg]
  dsimp only
  split
  ·rename_i t ht
   rw[ht]
   dsimp only
   rw[h t]
   rfl
  ·rename_i ht
   rw[ht]
theorem tB{nt:Nat}{s:ek}{dst:Option Tmp}{v:AV}{K:ek→Prop}(h:GK nt s dst v K) : ∃s',K s' ∧∀tm,eu tm s →∃tm',dB nt tm dst v=some tm'∧eu tm' s':=by
 unfold GK at h
 cases dst with
 | none=>exact⟨s,h,fun tm ht=>⟨tm,rfl,ht⟩⟩
 | some d =>
  dsimp only at h
  cases hd:Nat.blt d nt with
  | false=>rw[hd]at h;exact h.elim
  | true =>
   rw[hd]at h
   refine⟨_,h,fun tm ht=>⟨_,?_,ht.set d v⟩⟩
   have hlt:d<nt:=Nat.le_of_ble_eq_true hd
   simp only[dB,if_pos hlt]
theorem Sr{E:Env}{nt dep:Nat}{draw:Bool}{ops:Array Oper}{o:Oper}{s:ek}{H:ad}{K:ek→ad→Prop}(h:Vv E nt dep draw ops o s H K) :
 ∃s' H',K s' H' ∧∀tm,eu tm s →∃tm',eu tm' s' ∧∃n,∀m,n≤m→evalOp E (bB E (b8 E m)) (eT E (b8 E m) dep) nt dep draw ops o ⟨tm,H⟩=some ⟨tm',H'⟩:=by
 have run : ∀(v:AV)(H':ad)(s':ek),(∀tm,eu tm s→wanted ops tm o=some true)→(∃n,∀m,n≤m →∀tm,eu tm s→om E (bB E (b8 E m)) (eT E (b8 E m) dep) dep draw tm H o=some (v,H')) →
  (∀tm,eu tm s →∃tm',dB nt tm o.dst v=some tm'∧eu tm' s') →
  ∀tm,eu tm s →∃tm',eu tm' s' ∧∃n,∀m,n≤m→evalOp E (bB E (b8 E m)) (eT E (b8 E m) dep) nt dep draw ops o ⟨tm,H⟩=some ⟨tm',H'⟩:=by
  intro v H' s' hw ⟨n,hn⟩ hp tm ht
  obtain⟨tm',h1,h2⟩:=hp tm ht
  refine⟨tm',h2,n,fun m hm=>?_⟩
  rw[FJ]
  dsimp only
  rw[hw tm ht,hn m hm tm ht]
  dsimp only
  rw[h1]
  rfl
 have skip : ∀(s':ek),(∀tm,eu tm s→wanted ops tm o=some false)→(∀tm,eu tm s →∃tm',dB nt tm o.dst AV.undef=some tm'∧eu tm' s') →
  ∀tm,eu tm s →∃tm',eu tm' s' ∧∃n,∀m,n≤m→evalOp E (bB E (b8 E m)) (eT E (b8 E m) dep) nt dep draw ops o ⟨tm,H⟩=some ⟨tm',H⟩:=by
  intro s' hw hp tm ht
  obtain⟨tm',h1,h2⟩:=hp tm ht
  refine⟨tm',h2,0,fun m _=>?_⟩
  rw[FJ]
  dsimp only
  rw[hw tm ht]
  dsimp only
  rw[h1]
  rfl
 unfold Vv at h
 split at h
 ·rename_i q hq
  have evq : ∀v,q=some (v,[]) →∃n,∀m,n≤m →∀tm,eu tm s→om E (bB E (b8 E m)) (eT E (b8 E m) dep) dep draw tm H o=some (v,H):=by
   intro v hv
   obtain⟨n,hn⟩:=HA.1 q v hq hv
   exact⟨n,fun m hm tm ht=>Tl ht (hn m hm) rfl⟩
  split at h
  ·rename_i hg
   have hw : ∀tm,eu tm s→wanted ops tm o=some true:=fun tm ht=>by rw[qu ht,hg]
   have fromQ : ∀v,q=some (v,[])→GK nt s o.dst v (fun s=>K s H) →∃s' H',K s' H' ∧∀tm,eu tm s →∃tm',eu tm' s' ∧∃n,∀m,n≤m→evalOp E (bB E (b8 E m)) (eT E (b8 E m) dep) nt dep draw ops o ⟨tm,H⟩=some ⟨tm',H'⟩:=by
    intro v hv hp
    obtain⟨s',hK,hp⟩:=tB hp
    exact⟨s',H,hK,run v H s' hw (evq v hv) hp⟩
   split at h
   ·rename_i x ho
    split at h
    ·rename_i v hv
     refine fromQ v ?_ h
     unfold vm at hq
     simp only[ho,Sum.inl.injEq,hv]at hq
     rw[←hq];rfl
    ·exact h.elim
   ·rename_i x ho
    split at h
    ·rename_i v hv
     refine fromQ v ?_ h
     unfold vm at hq
     simp only[ho,Sum.inl.injEq,hv]at hq
     rw[←hq];rfl
    ·exact h.elim
   ·obtain⟨v,hv,h⟩:=h.h
    exact fromQ v hv h
  ·rename_i x want hg
   replace h:=h.h
   unfold gd at h
   split at h
   ·rename_i hx
    obtain⟨v,hv,h⟩:=h.h
    obtain⟨s',hK,hp⟩:=tB h
    exact⟨s',H,hK,run v H s' (fun tm ht=>by rw[qu ht,hg];exact hx) (evq v hv) hp⟩
   ·rename_i hx
    obtain⟨s',hK,hp⟩:=tB h
    exact⟨s',H,hK,skip s' (fun tm ht=>by rw[qu ht,hg];exact hx) hp⟩
   ·exact h.elim
  ·rename_i hg
   obtain⟨s',hK,hp⟩:=tB h
   exact⟨s',H,hK,skip s' (fun tm ht=>by rw[qu ht,hg]) hp⟩
 ·rename_i w hw
  have evw : ∀v H',w=some (v,H') →∃n,∀m,n≤m →∀tm,eu tm s→om E (bB E (b8 E m)) (eT E (b8 E m) dep) dep draw tm H o=some (v,H'):=by
   intro v H' hv
   obtain⟨n,hn⟩:=HA.2 w v H' hw hv
   exact⟨n,fun m hm tm ht=>Tk ht (hn m hm) rfl⟩
  split at h
  ·rename_i hg
   obtain⟨v,H',hv,h⟩:=h.h
   obtain⟨s',hK,hp⟩:=tB h
   exact⟨s',H',hK,run v H' s' (fun tm ht=>by rw[qu ht,hg]) (evw v H' hv) hp⟩
  ·rename_i x want hg
   replace h:=h.h
   unfold gd at h
   split at h
   ·rename_i hx
    obtain⟨v,H',hv,h⟩:=h.h
    obtain⟨s',hK,hp⟩:=tB h
    exact⟨s',H',hK,run v H' s' (fun tm ht=>by rw[qu ht,hg];exact hx) (evw v H' hv) hp⟩
   ·rename_i hx
    obtain⟨s',hK,hp⟩:=tB h
    exact⟨s',H,hK,skip s' (fun tm ht=>by rw[qu ht,hg];exact hx) hp⟩
   ·exact h.elim
  ·rename_i hg
   obtain⟨s',hK,hp⟩:=tB h
   exact⟨s',H,hK,skip s' (fun tm ht=>by rw[qu ht,hg]) hp⟩
theorem PD{E:Env}{nt dep:Nat}{draw:Bool}{ops:Array Oper}{K:ek→ad→Prop} : ∀ {l:List Oper} {s:ek} {H:ad},wpOps E nt dep draw ops l s H K →
 ∃s' H',K s' H' ∧∀tm,eu tm s →∃tm',eu tm' s' ∧∃n,∀m,n≤m→mj E (bB E (b8 E m)) (eT E (b8 E m) dep) nt dep draw ops l ⟨tm,H⟩=some ⟨tm',H'⟩:=by
 intro l
 induction l with
 | nil=>intro s H h;exact⟨s,H,h,fun tm ht=>⟨tm,ht,0,fun m _=>rfl⟩⟩
 | cons o l ih =>
  intro s H h
  obtain⟨s1,H1,h1,hn1⟩:=Sr h
  obtain⟨s2,H2,h2,hn2⟩:=ih h1
  refine⟨s2,H2,h2,fun tm ht=>?_⟩
  obtain⟨tm1,t1,n1,e1⟩:=hn1 tm ht
  obtain⟨tm2,t2,n2,e2⟩:=hn2 tm1 t1
  exact⟨tm2,t2,max n1 n2,fun m hm=>by simp only[mj,e1 m (by omega),e2 m (by omega)]⟩
theorem PC{P:Program}{fn:Func}{s:ek}{H:ad}{Q:AV→ad→Prop} : ∀ {rs:List ResultVar} {acc:List AV},El P s H Q rs acc →
 ∃ys,Q (pack (acc.reverse++ys)) H ∧∀tm,eu tm s→rs.mapM (jN P ⟨tm,H⟩)=some ys:=by
 intro rs
 induction rs with
 | nil=>intro acc h;exact⟨[],by simpa [El] using h,fun tm _=>rfl⟩
 | cons r rs ih =>
  intro acc h
  cases r with
  | tmp t =>
   obtain⟨ys,h1,h2⟩:=ih h
   refine⟨s t :: ys,by simpa using h1,fun tm ht=>?_⟩
   simp only[List.mapM_cons,jN,h2 tm ht,ht t,Option.pure_def,Option.bind_eq_bind,Option.bind_some]
  | cell a t =>
   obtain⟨v,hv,h⟩:=h.h
   obtain⟨ys,h1,h2⟩:=ih h
   refine⟨v :: ys,by simpa using h1,fun tm ht=>?_⟩
   have hr:jN P ⟨tm,H⟩ (.cell a t)=some v:=by
    unfold bC at hv
    simp only[jN,ht a]
    split at hv
    ·rename_i r i j g n h3 h4 h5
     rw[h3,h4,h5]
     dsimp only
     split at hv
     ·rename_i b hb
      rw[hb]
      dsimp only
      simp only[cz,Option.map_eq_some_iff]at hv
      obtain⟨z,hz,e⟩:=hv
      cases e
      exact hz
     ·cases hv
    ·cases hv
   simp only[List.mapM_cons,hr,h2 tm ht,Option.pure_def,Option.bind_eq_bind,Option.bind_some]
theorem JV{E:Env}{fn:Func}{s:ek}{H:ad}{Q:AV→ad→Prop}(h:El E.P s H Q fn.results.toList []) : ∃y,Q y H ∧∀tm,eu tm s→vj E.P fn ⟨tm,H⟩=some y:=by
 obtain⟨ys,h1,h2⟩:=PC (fn:=fn) h
 refine⟨pack ys,by simpa using h1,fun tm ht=>?_⟩
 unfold vj
 rw[h2 tm ht]
 match ys with
 | []=>rfl
 | [x]=>rfl
 | x :: y :: zs=>rfl
theorem mQ{E:Env}{fn:Func}{rd:Option Ref}{dep:Nat}{items items':List Item}{s:ek}{H:ad}{Q:AV→ad→Prop}
 (hs : ∀n tm,b8 E (n+1) rd fn.ntmps dep items ⟨tm,H⟩=b8 E n rd fn.ntmps dep items' ⟨tm,H⟩) (h:rl E fn rd dep items' s H Q):rl E fn rd dep items s H Q:=by
 intro tm ht
 obtain⟨y,H',hQ,n,hn⟩:=h tm ht
 refine⟨y,H',hQ,n+1,fun m hm=>?_⟩
 obtain⟨m,rfl⟩ : ∃m',m=m'+1:=⟨m - 1,by omega⟩
 rw[hs]
 exact hn m (by omega)
theorem O6{E:Env}{fn:Func}{rd:Option Ref}{dep:Nat}{b:Code}{k:List Item}{s:ek}{H:ad}{Q:AV→ad→Prop}(h:rl E fn rd dep (.code b :: .inLoop b :: k) s H Q):rl E fn rd dep (.inLoop b :: k) s H Q :=
 mQ (fun n tm=>by simp only[b8]) h
theorem Mu{E:Env}{fn:Func}{rd:Option Ref}{dep:Nat}{b:Code}{k:List Item}{s:ek}{H:ad}{Q:AV→ad→Prop}(h:rl E fn rd dep (.inLoop b :: k) s H Q):rl E fn rd dep (.code (.loop b) :: k) s H Q:=by
 intro tm ht
 obtain⟨y,H',hQ,n,hn⟩:=h tm ht
 refine⟨y,H',hQ,n+1,fun m hm=>?_⟩
 obtain⟨m,rfl⟩ : ∃m',m=m'+1:=⟨m - 1,by omega⟩
 have:=hn (m+1) (by omega)
 have e:b8 E (m+1) rd fn.ntmps dep (.code (.loop b) :: k) ⟨tm,H⟩=b8 E (m+1) rd fn.ntmps dep (.inLoop b :: k) ⟨tm,H⟩:=by simp only[b8]
 rw[e]
 exact this
theorem HL{E:Env}{fn:Func}{rd:Option Ref}{dep:Nat}{items:List Item}{s:ek}{l:List Nat}{H:ad}{Q:AV→ad→Prop}(h:Ut E fn rd dep items (AX s l) H Q):rl E fn rd dep items s H Q:=by
 have:=h.h s
 rwa [QZ]at this
theorem FC{E:Env}{fn:Func}{rd:Option Ref}{dep code:Nat}{items:List Item}{s:ek}{H:ad}{Q:AV→ad→Prop}
 (hs : ∀n tm,rd.isSome=true∨code≤2→b8 E (n+1) rd fn.ntmps dep items ⟨tm,H⟩=(match rd with | none=>some ⟨tm,H⟩ | some r=>uO (some r) ⟨tm,H⟩ code)) (h:Ji E.P fn rd code s H Q):rl E fn rd dep items s H Q:=by
 intro tm ht
 cases rd with
 | none =>
  unfold Ji at h
  dsimp only at h
  cases hc:Nat.ble code 2 with
  | false=>rw[hc]at h;exact h.elim
  | true =>
   rw[hc]at h
   obtain⟨y,hQ,hr⟩:=JV h
   refine⟨y,H,hQ,1,fun m hm=>?_⟩
   obtain⟨m,rfl⟩ : ∃m',m=m'+1:=⟨m - 1,by omega⟩
   exact⟨⟨tm,H⟩,hs m tm (.inr (Nat.le_of_ble_eq_true hc)),hr tm ht,rfl⟩
 | some r =>
  refine⟨.v (.int .i64 code),H,h,1,fun m hm=>?_⟩
  obtain⟨m,rfl⟩ : ∃m',m=m'+1:=⟨m - 1,by omega⟩
  exact⟨⟨tm,H⟩,code,hs m tm (.inl rfl),rfl,rfl⟩
theorem Ps{E:Env}{ops:Array Oper}{s:ek}{H:ad}{tm:List AV}(ht:eu tm s)(h:RY E (pt E ops) ops s H):qp E ops ⟨tm,H⟩=true:=by
 unfold qp
 rw[Bool.or_eq_true,Bool.and_eq_true]
 refine .inr ⟨?_,?_⟩
 ·refine Eq.trans ?_ h.1
  congr 1
  funext p
  unfold C9 QD o3
  rw[ht,ht]
  rfl
 ·rw[Bool.and_eq_true]
  refine⟨Eq.trans ?_ h.2.1,Eq.trans ?_ h.2.2⟩
  ·congr 1
   funext o
   unfold vf EM
   generalize o.op=op
   cases op<;>try rfl
   rename_i t a x
   cases a<;>try rfl
   rename_i t'
   dsimp only
   rw[ht t']
   rfl
  ·congr 1
   funext o
   unfold F7 NK
   congr 1
   cases Vs o.op with
   | none=>rfl
   | some t =>
    dsimp only
    rw[ht t]
    rfl
theorem bc{E:Env}{fn:Func}{rd:Option Ref}{dep:Nat}{live:Nat→Option (List Nat)}{cut:Nat→Bool}{Q:AV→ad→Prop} : ∀ {n:Nat} {items:List Item} {s:ek} {H:ad},
 wp E fn rd dep live cut Q n items s H→rl E fn rd dep items s H Q:=by
 intro n
 induction n with
 | zero=>intro items s H h;exact h
 | succ n ih =>
  intro items s H h
  have told : ∀ {k:List Item} {x:Option (List Nat)},(match x with | some l=>Ut E fn rd dep k (AX s l) H Q | none=>rl E fn rd dep k s H Q)→rl E fn rd dep k s H Q:=by
   intro k x h
   cases x with
   | some l=>exact HL h
   | none=>exact h
  unfold wp at h
  split at h
  ·exact FC (fun n tm _=>by cases rd<;>simp only[b8]) h
  ·rename_i k
   split at h
   ·exact h.elim
   ·rename_i r
    obtain⟨info,hl,h⟩:=h.h
    intro tm ht
    obtain⟨y,H',hQ,n,hn⟩:=ih h tm ht
    refine⟨y,H',hQ,n+1,fun m hm=>?_⟩
    obtain⟨m,rfl⟩ : ∃m',m=m'+1:=⟨m - 1,by omega⟩
    have:=hn m (by omega)
    have e:b8 E (m+1) (some r) fn.ntmps dep (.beginRound :: k) ⟨tm,H⟩=b8 E m (some r) fn.ntmps dep k ⟨tm,H.put r (some (iS 1 info))⟩:=by simp only[b8,hl]
    rw[e]
    exact this
  ·rename_i c k
   split at h
   ·exact mQ (fun n tm=>by simp only[b8]) (ih h)
   ·exact mQ (fun n tm=>by simp only[b8]) (ih h)
   ·exact FC (fun n tm _=>by cases rd<;>simp[b8,uO]) h
   ·exact mQ (fun n tm=>by simp only[b8]) (ih h)
   ·rename_i c a b
    replace h:=h.h
    unfold brP at h
    split at h
    ·rename_i bb hb
     have hg:rl E fn rd dep (.code (cond bb a b) :: k) s H Q:=by cases bb<;>exact ih h
     intro tm ht
     obtain⟨y,H',hQ,n,hn⟩:=hg tm ht
     refine⟨y,H',hQ,n+1,fun m hm=>?_⟩
     obtain⟨m,rfl⟩ : ∃m',m=m'+1:=⟨m - 1,by omega⟩
     have:=hn m (by omega)
     have e:b8 E (m+1) rd fn.ntmps dep (.code (.cond c a b) :: k) ⟨tm,H⟩=b8 E m rd fn.ntmps dep (.code (cond bb a b) :: k) ⟨tm,H⟩:=by
      simp only[b8,vC ht,hb]
      cases bb<;>rfl
     rw[e]
     exact this
    ·exact h.elim
   ·exact mQ (fun n tm=>by simp only[b8]) (ih h)
   ·exact mQ (fun n tm=>by simp only[b8]) (ih h)
   ·exact Mu (told h)
   ·rename_i id
    split at h
    ·rename_i k' hk
     exact mQ (fun n tm=>by simp only[b8,hk]) (ih h)
    ·rename_i hk
     exact FC (fun n tm hc=>by
      simp only[b8,hk]
      cases rd with
      | none =>
       rcases hc with hc | hc
       ·cases hc
       ·omega
      | some r=>rfl) h
   ·exact told h
   ·rename_i id ops draw
    split at h
    ·split at h
     ·exact HL h
     ·exact h.elim
    ·obtain⟨s',H',h1,hn1⟩:=PD h
     have h2:rl E fn rd dep k s' H' Q ∧∀tm,eu tm s'→(draw && !qp E ops ⟨tm,H'⟩)=false:=by
      cases draw with
      | false=>exact⟨ih h1,fun _ _=>rfl⟩
      | true =>
       cases hp:pt E ops with
       | nil =>
        rw[hp]at h1
        refine⟨ih h1,fun tm ht=>?_⟩
        unfold qp
        rw[hp]
        rfl
       | cons p ps =>
        rw[hp]at h1
        exact⟨ih h1.2,fun tm ht=>by rw[Ps ht (by rw[hp];exact h1.1)];rfl⟩
     obtain⟨hg,hap⟩:=h2
     intro tm ht
     obtain⟨tm1,t1,n1,e1⟩:=hn1 tm ht
     obtain⟨y,H2,hQ,n2,hn2⟩:=hg tm1 t1
     refine⟨y,H2,hQ,max n1 n2+1,fun m hm=>?_⟩
     obtain⟨m,rfl⟩ : ∃m',m=m'+1:=⟨m - 1,by omega⟩
     have:=hn2 m (by omega)
     have e:b8 E (m+1) rd fn.ntmps dep (.code (.region id ops draw) :: k) ⟨tm,H⟩=b8 E m rd fn.ntmps dep k ⟨tm1,H'⟩:=by
      simp only[b8,e1 m (by omega),hap tm1 t1]
      simp
     rw[e]
     exact this
   ·exact h.elim
  ·exact told h
  ·exact mQ (fun n tm=>by simp only[b8]) (ih h)
  ·exact mQ (fun n tm=>by simp only[b8]) (ih h)
  ·exact h.elim
def pM:Nat→List AV→List (Nat × AV)
 | _,[]=>[]
 | i,x :: xs=>(i,x) :: pM (i+1) xs
theorem E7(args:List AV)(i:Nat):PA (fun _=>AV.undef) (pM 0 args) i=dL args i:=by
 have : ∀(j:Nat)(l:List AV),PA (fun _=>AV.undef) (pM j l) (j+i)=dL l i:=by
  induction i with
  | zero =>
   intro j l
   cases l with
   | nil=>rfl
   | cons x l =>
    show cond (Nat.beq (j+0) j) x _=x
    rw[show Nat.beq (j+0) j=true from by simp]
    rfl
  | succ i ih =>
   intro j l
   cases l with
   | nil=>rfl
   | cons x l =>
    show cond (Nat.beq (j+(i+1)) j) x (PA (fun _=>AV.undef) (pM (j+1) l) (j+(i+1)))=dL l i
    have e:Nat.beq (j+(i+1)) j=false:=by
     cases h:Nat.beq (j+(i+1)) j with
     | false=>rfl
     | true=>have:=Nat.eq_of_beq_eq_true h;omega
    rw[e]
    show PA _ _ _=_
    rw[←ih (j+1) l,show j+1+i=j+(i+1) by omega]
 simpa using this 0 args
def rW(E:Env)(f:FuncId)(x:AV)(H:ad)(y:AV):Prop :=
 if xY (E.mode f)=true then (aM H.get depth x).Nodup∧dT H.get depth x=some y else view H.get depth x=some y
theorem aG{E:Env}{f:FuncId}{fn:Func}{c:Code}{args:List AV}{y:AV}(hsp:E.spec f args=none)(hal:E.allowed f=true)(hf:E.P.funcs[f]?=some fn)(hc:fn.body=some c)(hl:Nat.ble args.length fn.ntmps=true)
 (h:b7 E fn 0 [.code c] (pM 0 args) [] fun x H=>rW E f x H y):bj E f args=some y:=by
 rw[wB]
 obtain⟨x,H,hQ,n,hn⟩:=h.h (fun _=>AV.undef) args fun i=>(E7 args i).symm
 refine⟨n,fun m hm=>?_⟩
 obtain⟨st,h1,h2,h3⟩:=hn m hm
 subst h3
 unfold bB
 rw[hsp]
 unfold sd
 simp only[hal,if_true,hf,hc,if_pos (Nat.le_of_ble_eq_true hl),h1,h2,Option.map_some]
 unfold rW at hQ
 split
 ·rename_i h1
  rw[if_pos h1]at hQ
  rw[if_pos hQ.1]
  exact hQ.2
 ·rename_i h1
  rw[if_neg h1]at hQ
  exact hQ
theorem iT{E:Env}{f:FuncId}{fn:Func}{c:Code}{dep:Nat}{args:List AV}{H:ad}{Q:AV→ad→Prop}(hm:E.mode f=2)(hal:E.allowed f=true)(hf:E.P.funcs[f]?=some fn)(hc:fn.body=some c)(hl:Nat.ble args.length fn.ntmps=true)
 (h:b7 E fn (dep+1) [.code c] (pM 0 args) H Q) (hsp:E.thrSpec f args H=none:=by rfl) : ∃y H',bO E dep (.fn f) args H=some (y,H')∧Q y H':=by
 obtain⟨x,H1,hQ,n,hn⟩:=h.h (fun _=>AV.undef) args fun i=>(E7 args i).symm
 refine⟨x,H1,wA.2 ⟨n,fun m hm'=>?_⟩,hQ⟩
 obtain⟨st,h1,h2,h3⟩:=hn m hm'
 unfold eT
 dsimp only
 rw[hsp]
 dsimp only
 rw[if_pos hm]
 unfold sd
 simp only[hal,if_true,hf,hc,if_pos (Nat.le_of_ble_eq_true hl),h1,h2,Option.map_some,h3]
theorem Ri{E:Env}{fn:Func}{dep nt:Nat}{r:Ref}{f:FuncId}{ps:List Tmp}{assign body:Code}{tm:List AV}{args:List AV}{H:ad}{Q:AV→ad→Prop}
 (hl:wz H r=some (0,.lp f nt ps assign body tm)) (hn:fn.ntmps=nt) (hp:args.length=ps.length) (hps:ps.all (· < nt)=true) (ha:codeOk E.ok assign=true) (hb:codeOk E.ok body=true)
 (h:rl E fn (some r) (dep+1) [.code assign,.beginRound,.code body] (dL (uK tm ps args)) H fun x H' =>∃code:Nat,x = .v (.int .i64 code) ∧∃info H2,wz H' r=some (1,info)∧H2=H'.put r (some (iS code info)) ∧
  wz H2 r=some (code,info)∧(code=0→Q (.v (.bool true)) H2)∧(2≤code→Q (.v (.bool false)) H2)∧code≠1) :
 ∃y H',bO E dep (.yld r) args H=some (y,H')∧Q y H':=by
 obtain⟨x,H1,⟨code,rfl,info,H2,h1,rfl,h2,hq0,hq2,hne⟩,n,hn'⟩:=h (uK tm ps args) (fun i=>rfl)
 have key : ∀m,n≤m→yT E (b8 E m) (dep+1) r args H=some (.v (.bool (code == 0)),H1.put r (some (iS code info))):=by
  intro m hm
  obtain⟨st,k,e1,e2,e3⟩:=hn' m hm
  injection e2 with e2
  injection e2 with e2 e4
  have e4:code=k:=by exact_mod_cast e4
  subst e4
  subst hn
  unfold yT
  rw[hl]
  simp only
  rw[if_pos ⟨hp,hps,ha,hb⟩,e1]
  unfold uO
  simp only[e3,h1,h2]
  match code with
  | 0=>rfl
  | 1=>exact(hne rfl).elim
  | k+2=>rfl
 have aaS : ∀m,n≤m→eT E (b8 E m) dep (.yld r) args H=some (.v (.bool (code == 0)),H1.put r (some (iS code info))):=key
 refine⟨_,_,wA.2 ⟨n,aaS⟩,?_⟩
 match code with
 | 0=>exact hq0 rfl
 | 1=>exact(hne rfl).elim
 | k+2=>exact hq2 (by omega)
theorem Mt{E:Env}{fn:Func}{dep:Nat}{g:Operand}{ps:Array Tmp}{assign body:Code}{k:List Item}{s:ek}{H:ad}{Q:AV→ad→Prop}{gi:FuncId}{first captured:List AV}
 (hg:cT s g=some (.fn (.func gi) first captured))
 (h : ∀tm,eu tm s →∃v Hx st info,bO E dep (.fn gi) (first++[.yld ⟨dep,fn.ntmps,H.gen dep fn.ntmps,0⟩]++captured) ((⟨dep,fn.ntmps,H.gen dep fn.ntmps,0⟩,some (iS 0 (.lp 0 fn.ntmps ps.toList assign body tm))) :: H)=some (v,Hx) ∧
  wz Hx ⟨dep,fn.ntmps,H.gen dep fn.ntmps,0⟩=some (st,info) ∧
  (
   (st=0∧rl E fn none dep k s (Hx.put ⟨dep,fn.ntmps,H.gen dep fn.ntmps,0⟩ none) Q) ∨
   (st=2∧El E.P s (Hx.put ⟨dep,fn.ntmps,H.gen dep fn.ntmps,0⟩ none) Q fn.results.toList []) ∨
   (∃id k',st=id+3∧exitTo id k=some k'∧rl E fn none dep k' s (Hx.put ⟨dep,fn.ntmps,H.gen dep fn.ntmps,0⟩ none) Q))) :
 rl E fn none dep (.code (.rangeFunc g ps assign body) :: k) s H Q:=by
 intro tm ht
 obtain⟨v,Hx,st,info,h1,h2,h3⟩:=h tm ht
 obtain⟨n1,hn1⟩:=wA.1 h1
 have hg':bu tm g=some (.fn (.func gi) first captured):=by rw[vC ht];exact hg
 rcases h3 with ⟨rfl,hk⟩ | ⟨rfl,hk⟩ | ⟨id,k',rfl,he,hk⟩
 ·obtain⟨y,H',hQ,n2,hn2⟩:=hk tm ht
  refine⟨y,H',hQ,max n1 n2+1,fun m hm=>?_⟩
  obtain⟨m,rfl⟩ : ∃m',m=m'+1:=⟨m - 1,by omega⟩
  have e:b8 E (m+1) none fn.ntmps dep (.code (.rangeFunc g ps assign body) :: k) ⟨tm,H⟩=b8 E m none fn.ntmps dep k ⟨tm,Hx.put ⟨dep,fn.ntmps,H.gen dep fn.ntmps,0⟩ none⟩:=by
   simp only[b8,hg',hn1 m (by omega),h2]
  rw[e]
  exact hn2 m (by omega)
 ·obtain⟨y,hQ,hr⟩:=JV hk
  refine⟨y,_,hQ,n1+1,fun m hm=>?_⟩
  obtain⟨m,rfl⟩ : ∃m',m=m'+1:=⟨m - 1,by omega⟩
  have e:b8 E (m+1) none fn.ntmps dep (.code (.rangeFunc g ps assign body) :: k) ⟨tm,H⟩=some ⟨tm,Hx.put ⟨dep,fn.ntmps,H.gen dep fn.ntmps,0⟩ none⟩:=by
   simp only[b8,hg',hn1 m (by omega),h2]
  rw[e]
  exact⟨_,rfl,hr tm ht,rfl⟩
 ·obtain⟨y,H',hQ,n2,hn2⟩:=hk tm ht
  refine⟨y,H',hQ,max n1 n2+1,fun m hm=>?_⟩
  obtain⟨m,rfl⟩ : ∃m',m=m'+1:=⟨m - 1,by omega⟩
  have e:b8 E (m+1) none fn.ntmps dep (.code (.rangeFunc g ps assign body) :: k) ⟨tm,H⟩=b8 E m none fn.ntmps dep k' ⟨tm,Hx.put ⟨dep,fn.ntmps,H.gen dep fn.ntmps,0⟩ none⟩:=by
   simp only[b8,hg',hn1 m (by omega),h2,he]
  rw[e]
  exact hn2 m (by omega)
theorem OZ{E:Env}{f:FuncId}{args:List AV}{y:AV}(h:E.spec f args=some y):bj E f args=some y:=by
 rw[wB]
 exact⟨0,fun m _=>by unfold bB;rw[h]⟩
theorem Rj{E:Env}{f:FuncId}{args:List AV}{y:AV}(h:bj E f args=some y) : ∃n,bB E (b8 E n) f args=some y:=by
 obtain⟨n,hn⟩:=wB.1 h
 exact⟨n,hn n (Nat.le_refl _)⟩
def cE(r:Nat):Nat→List Item→Option (List Item)
 | 0,_=>none
 | n+1,items =>
  match items with
  | .code c :: k=>(match c with
   | .seq a b=>cE r n (.code a :: .code b :: k)
   | .cond _ a b=>(match cE r n (.code a :: k) with
    | some l=>some l
    | none=>cE r n (.code b :: k))
   | .block id b=>cE r n (.code b :: .inBlock id :: k)
   | .scope b=>cE r n (.code b :: .inScope b :: k)
   | .loop b=>(match jE b with
    | some i=>cond (Nat.beq i r) (some (.inLoop b :: k)) (cE r n (.code b :: .inLoop b :: k))
    | none=>none)
   | .exit id=>(match exitTo id k with
    | some k'=>cE r n k'
    | none=>none)
   | .skip | .label _ | .region _ _ _=>cE r n k
   | _=>none)
  | .inBlock _ :: k | .inScope _ :: k=>cE r n k
  | _=>none
def ky(r:Nat):Nat→List Item→Option (List Item)
 | 0,_=>none
 | n+1,items =>
  match items with
  | .code c :: k=>(match c with
   | .seq a b=>ky r n (.code a :: .code b :: k)
   | .cond _ a b=>(match ky r n (.code a :: k) with
    | some l=>some l
    | none=>ky r n (.code b :: k))
   | .block id b=>ky r n (.code b :: .inBlock id :: k)
   | .scope b=>ky r n (.code b :: .inScope b :: k)
   | .loop b=>ky r n (.code b :: .inLoop b :: k)
   | .exit id=>(match exitTo id k with
    | some k'=>ky r n k'
    | none=>none)
   | .rangeFunc _ _ a b=>cond (Nat.beq (UF a b) r) (some items) (ky r n k)
   | .skip | .label _ | .region _ _ _=>ky r n k
   | _=>none)
  | .inBlock _ :: k | .inScope _ :: k=>ky r n k
  | _=>none
def rfA:List Item→Code
 | .code (.rangeFunc _ _ a _) :: _=>a
 | _ => .skip
def rfB:List Item→Code
 | .code (.rangeFunc _ _ _ b) :: _=>b
 | _ => .skip
def rfK:List Item→List Item
 | _ :: k=>k
 | []=>[]
def RO:List Item→List Item
 | .inLoop b :: k => .code b :: .inLoop b :: k
 | l=>l
theorem dG{E:Env}{fn:Func}{rd:Option Ref}{dep:Nat}{items:List Item}{l:List (Nat × AV)}{H:ad}{Q:AV→ad→Prop}(h : ∀g,rl E fn rd dep (RO items) (PA g l) H Q):Ut E fn rd dep items l H Q:=by
 refine⟨fun g=>?_⟩
 have:=h g
 unfold RO at this
 split at this
 ·exact O6 this
 ·exact this
def oi(x:AV):Option (Option Int):=match tF x with
 | some n=>some (some n)
 | none=>none
end Go.Ab
namespace Go.Ab
def R6(pc pc':FuncId→List AV→Option AV):Prop :=∀f xs y,pc f xs=some y→pc' f xs=some y
def Ur(tc tc':wc→List AV→ad→dY):Prop :=∀f xs H y,tc f xs H=some y→tc' f xs H=some y
theorem L2{E:Env}{pc pc':FuncId→List AV→Option AV}(hp:R6 pc pc'){g:dy}{r:Ref}{f:Option AV}{args:List AV}{z:AV × List bP}(h:iI E pc g r f args=some z):iI E pc' g r f args=some z:=by
 unfold iI at h ⊢
 split at h
 ·split at h
  ·cases h
  ·rename_i hm
   rw[if_neg hm]
   split at h
   ·rename_i xs hx
    split at h
    ·rename_i y hy
     rw[hp _ _ _ hy]
     exact h
    ·cases h
   ·cases h
 ·cases h
theorem QL{E:Env}{pc pc':FuncId→List AV→Option AV}{tc tc':wc→List AV→ad→dY}(hp:R6 pc pc')(ht:Ur tc tc'){H:ad}{r:Ref}{f:Option AV}{args:List AV} :
 (iI E pc H.get r f args=none →∀z,lE E pc tc H r f args=some z→lE E pc' tc' H r f args=some z∧iI E pc' H.get r f args=none):=by
 intro h0 z h
 unfold iI at h0 ⊢
 unfold lE at h ⊢
 split at h
 ·rename_i fi first captured
  dsimp only at h0 ⊢
  split at h
  ·rename_i hm
   rw[if_pos hm,if_pos hm]
   exact⟨ht _ _ _ _ h,rfl⟩
  ·rename_i hm
   rw[if_neg hm]at h0
   rw[if_neg hm,if_neg hm]
   split at h
   ·rename_i xs hx
    try rw[hx]at h0
    dsimp only at h0 ⊢
    simp only[Option.map_eq_some_iff]at h
    obtain⟨y,hy,h⟩:=h
    rw[hy]at h0
    rw[hp _ _ _ hy]
    exact⟨by rw[Option.map_some,h],h0⟩
   ·cases h
 ·exact⟨ht _ _ _ _ h,rfl⟩
 ·cases h
theorem MA{E:Env}{pc pc':FuncId→List AV→Option AV}{tc tc':wc→List AV→ad→dY}(hp:R6 pc pc')(ht:Ur tc tc'){dep:Nat}{draw:Bool}{tm:List AV}{H:ad}{o:Oper}{z:AV × ad}
 (h:om E pc tc dep draw tm H o=some z):om E pc' tc' dep draw tm H o=some z:=by
 by_cases hc : ∃c f args,o.op = .call c∧c.args.toList.mapM (bu tm)=some args∧c.callee = .value f
 ·obtain⟨c,f,args,ho,ha,hf⟩:=hc
  unfold om cN evalW at h ⊢
  simp only[ho,ha,hf]at h ⊢
  cases hov:Dd E.sR draw f with
  | some t =>
   rw[hov]at h
   dsimp only at h ⊢
   cases hO:J0 E.P H.get t args with
   | some p=>rw[hO]at h;exact h
   | none =>
    rw[hO]at h
    dsimp only at h ⊢
    split at h
    ·cases h
    ·rename_i hd
     rw[if_neg hd]
     have hfd : ∃g,f = .func g:=by unfold Dd at hov;split at hov<;>simp_all
     obtain⟨g,rfl⟩:=hfd
     simp only[bu,lE]at h ⊢
     by_cases hm:E.mode g=2
     ·rw[if_pos hm]at h ⊢
      cases hw:tc (.fn g) ([]++args++[]) H with
      | none=>rw[hw]at h;unfold n7 at h;split at h<;>(try split at h)<;>simp_all
      | some z'=>rw[hw]at h;rw[ht _ _ _ _ hw];exact h
     ·rw[if_neg hm]at h ⊢
      cases hx:([]++args++[]:List AV).mapM (view H.get depth) with
      | none=>rw[hx]at h;exact h
      | some xs =>
       rw[hx]at h
       dsimp only at h ⊢
       cases hy:pc g xs with
       | none=>rw[hy]at h;unfold n7 at h;split at h<;>(try split at h)<;>simp_all
       | some y=>rw[hy]at h;rw[hp _ _ _ hy];exact h
  | none =>
  rw[hov]at h
  dsimp only at h ⊢
  cases hq:iI E pc H.get ⟨dep,o.dst.getD 0,H.gen dep (o.dst.getD 0),0⟩ (bu tm f) args with
  | some p =>
   rw[hq]at h
   rw[L2 hp hq]
   exact h
  | none =>
   rw[hq]at h
   simp only[Option.map_none]at h
   split at h
   ·cases h
   ·rename_i hd
    cases hw:lE E pc tc H ⟨dep,o.dst.getD 0,H.gen dep (o.dst.getD 0),0⟩ (bu tm f) args with
    | none =>
     rw[hw]at h
     unfold n7 at h
     split at h
     ·rename_i e;cases e
     ·cases h
    | some z' =>
     obtain⟨h1,h2⟩:=QL hp ht hq _ hw
     rw[h2,h1]
     rw[hw]at h
     simp only[Option.map_none,if_neg hd]
     exact h
 ·have:om E pc tc dep draw tm H o=om E pc' tc' dep draw tm H o:=by
   have hq:cN E pc draw H.get tm ⟨dep,o.dst.getD 0,H.gen dep (o.dst.getD 0),0⟩ o=cN E pc' draw H.get tm ⟨dep,o.dst.getD 0,H.gen dep (o.dst.getD 0),0⟩ o:=by
    cases ho:o.op<;>simp only[cN,ho]
    case makeMap a b=>cases b<;>rfl
    rename_i c
    cases ha:c.args.toList.mapM (bu tm) with
    | none=>rfl
    | some args =>
     cases hf:c.callee with
     | value f=>exact(hc ⟨c,f,args,ho,ha,hf⟩).elim
     | invoke _ _=>rfl
     | builtin b=>rfl
   have hw:evalW E pc tc H tm ⟨dep,o.dst.getD 0,H.gen dep (o.dst.getD 0),0⟩ o=evalW E pc' tc' H tm ⟨dep,o.dst.getD 0,H.gen dep (o.dst.getD 0),0⟩ o:=by
    cases ho:o.op<;>simp only[evalW,ho]
    rename_i c
    cases ha:c.args.toList.mapM (bu tm) with
    | none=>rfl
    | some args =>
     cases hf:c.callee with
     | value f=>exact(hc ⟨c,f,args,ho,ha,hf⟩).elim
     | invoke _ _=>rfl
     | builtin b=>rfl
   unfold om
   rw[hq,hw]
  rw[←this]
  exact h
theorem JS{E:Env}{pc pc':FuncId→List AV→Option AV}{tc tc':wc→List AV→ad→dY}(hp:R6 pc pc')(ht:Ur tc tc'){nt dep:Nat}{draw:Bool}{ops:Array Oper} : ∀ {l:List Oper} {st st':St},
 mj E pc tc nt dep draw ops l st=some st'→mj E pc' tc' nt dep draw ops l st=some st':=by
 intro l
 induction l with
 | nil=>intro st st' h;exact h
 | cons o l ih =>
  intro st st' h
  unfold mj at h ⊢
  cases ho:evalOp E pc tc nt dep draw ops o st with
  | none=>rw[ho]at h;cases h
  | some st1 =>
   rw[ho]at h
   have:evalOp E pc' tc' nt dep draw ops o st=some st1:=by
    rw[FJ]at ho ⊢
    cases hw:wanted ops st.tm o with
    | none=>rw[hw]at ho;cases ho
    | some b =>
     rw[hw]at ho
     cases b with
     | false=>exact ho
     | true =>
      dsimp only at ho ⊢
      cases hc:om E pc tc dep draw st.tm st.hp o with
      | none=>rw[hc]at ho;cases ho
      | some z=>rw[hc]at ho;rw[MA hp ht hc];exact ho
   rw[this]
   exact ih h
theorem Dm{E:Env}{run run':Option Ref→Nat→Nat→List Item→St→Option St}(hr : ∀rd nt dep items st st',run rd nt dep items st=some st'→run' rd nt dep items st=some st'){dep:Nat}{f:FuncId}{args:List AV}{H:ad}{z:AV × ad}
 (h:sd E run dep f args H=some z):sd E run' dep f args H=some z:=by
 unfold sd at h ⊢
 split at h
 ·rename_i ha
  rw[if_pos ha]
  cases hf:E.P.funcs[f]? with
  | none=>rw[hf]at h;cases h
  | some fn =>
   rw[hf]at h
   dsimp only at h ⊢
   cases hb:fn.body with
   | none=>rw[hb]at h;cases h
   | some c =>
    rw[hb]at h
    dsimp only at h ⊢
    split at h
    ·rename_i hl
     rw[if_pos hl]
     cases hx:run none fn.ntmps dep [.code c] ⟨args,H⟩ with
     | none=>rw[hx]at h;cases h
     | some st=>rw[hx]at h;rw[hr _ _ _ _ _ _ hx];exact h
    ·cases h
 ·cases h
theorem zr{E:Env}{run run':Option Ref→Nat→Nat→List Item→St→Option St}(hr : ∀rd nt dep items st st',run rd nt dep items st=some st'→run' rd nt dep items st=some st'):R6 (bB E run) (bB E run'):=by
 intro f xs y h
 unfold bB at h ⊢
 cases hs:E.spec f xs with
 | some s=>rw[hs]at h;exact h
 | none =>
  rw[hs]at h
  dsimp only at h ⊢
  cases hc:sd E run 0 f xs [] with
  | none=>rw[hc]at h;cases h
  | some z=>rw[hc]at h;rw[Dm hr hc];exact h
theorem AO{E:Env}{run run':Option Ref→Nat→Nat→List Item→St→Option St}(hr : ∀rd nt dep items st st',run rd nt dep items st=some st'→run' rd nt dep items st=some st')(dep:Nat):Ur (eT E run dep) (eT E run' dep):=by
 intro f xs H y h
 unfold eT at h ⊢
 cases f with
 | fn f =>
  dsimp only at h ⊢
  cases hs:E.thrSpec f xs H with
  | some s=>rw[hs]at h;exact h
  | none =>
  rw[hs]at h
  dsimp only at h ⊢
  split at h
  ·rename_i hm;rw[if_pos hm];exact Dm hr h
  ·cases h
 | yld r =>
  dsimp only at h ⊢
  unfold yT at h ⊢
  split at h
  ·rename_i f nt ps assign body tm hl
   split at h
   ·rename_i hc
    rw[if_pos hc]
    cases hx:run (some r) nt (dep+1) [.code assign,.beginRound,.code body] ⟨uK tm ps xs,H⟩ with
    | none=>rw[hx]at h;cases h
    | some st=>rw[hx]at h;rw[hr _ _ _ _ _ _ hx];exact h
   ·cases h
  ·cases h
theorem On{E:Env} : ∀(n:Nat)(rd:Option Ref)(nt dep:Nat)(items:List Item)(st st':St),b8 E n rd nt dep items st=some st'→b8 E (n+1) rd nt dep items st=some st':=by
 intro n
 induction n with
 | zero=>intro rd nt dep items st st' h;simp[b8]at h
 | succ n ih =>
  intro rd nt dep items st st' h
  unfold b8 at h ⊢
  split at h
  ·exact h
  ·split at h
   ·exact h
   ·rename_i r
    split at h
    ·exact ih _ _ _ _ _ _ h
    ·cases h
  ·split at h
   all_goals try exact h
   all_goals try exact ih _ _ _ _ _ _ h
   ·rename_i c a b
    split at h
    ·exact ih _ _ _ _ _ _ h
    ·exact ih _ _ _ _ _ _ h
    ·cases h
   ·split at h
    ·exact ih _ _ _ _ _ _ h
    ·exact h
   ·rename_i ops draw
    cases hx:mj E (bB E (b8 E n)) (eT E (b8 E n) dep) nt dep draw ops ops.toList st with
    | none=>rw[hx]at h;cases h
    | some st1 =>
     rw[hx]at h
     rw[JS (zr ih) (AO ih dep) hx]
     dsimp only at h ⊢
     split at h
     ·cases h
     ·rename_i hd
      rw[if_neg hd]
      exact ih _ _ _ _ _ _ h
   ·split at h
    ·split at h
     ·rename_i x H' hx
      rw[AO ih dep _ _ _ _ hx]
      dsimp only
      split at h
      ·exact ih _ _ _ _ _ _ h
      ·exact h
      ·split at h
       ·exact ih _ _ _ _ _ _ h
       ·cases h
      ·cases h
     ·cases h
    ·cases h
  all_goals try exact ih _ _ _ _ _ _ h
  all_goals cases h
theorem SY{E:Env}{n m:Nat}(hm:n≤m){rd:Option Ref}{nt dep:Nat}{items:List Item}{st st':St}(h:b8 E n rd nt dep items st=some st'):b8 E m rd nt dep items st=some st':=by
 induction hm with
 | refl=>exact h
 | step _ ih=>exact On _ _ _ _ _ _ _ ih
theorem Df{E:Env}{n:Nat}{f:FuncId}{args:List AV}{y:AV}(h:bB E (b8 E n) f args=some y):bj E f args=some y :=
 wB.2 ⟨n,fun _ hm=>zr (fun _ _ _ _ _ _ h=>SY hm h) _ _ _ h⟩
end Go.Ab
namespace Go.Ab
abbrev aI(n:Int):AV := .v (.int .i64 n)
abbrev aB(b:Bool):AV := .v (.bool b)
def a8(n:UInt8):AV := .v (.int .u8 (n.toNat:Int))
def aF(n:UInt32):AV := .v (.int .u32 (n.toNat:Int))
abbrev aS(s:ByteArray):AV := .v (.string s)
abbrev cp:AV := .v (.slice none 0 0)
theorem FO{w:dY}{K:AV→ad→Prop}{m:Mk K}{v:AV}{H:ad}(hw:w=some (v,H))(h:K v H):aL w K m:=⟨v,H,hw,h⟩
@[simp] theorem abE(v:AV)(K:AV→Prop)(m:Mk K):ak (some (v,[])) K m↔K v :=
 ⟨fun⟨⟨w,hw,h⟩⟩=>by cases hw;exact h,fun h=>⟨v,rfl,h⟩⟩
@[simp] theorem aeg(c:Prop)[Decidable c](q:gV)(K:AV→Prop)(m:Mk K):ak (if c then q else none) K m↔c∧ak q K m:=by
 by_cases hc:c
 ·simp[hc]
 ·simp only[if_neg hc,hc,false_and,iff_false]
  rintro⟨v,hv,_⟩;cases hv
@[simp] theorem abD(v:AV)(H:ad)(K:AV→ad→Prop)(m:Mk K):aL (some (v,H)) K m↔K v H :=
 ⟨fun⟨⟨w,_,hw,h⟩⟩=>by cases hw;exact h,fun h=>⟨v,H,rfl,h⟩⟩
theorem NL{x:Option AV}{A B:Prop}{m:Mk (A,B)}:br x A B m↔brP x A B:=⟨fun h=>h.h,fun h=>⟨h⟩⟩
@[simp] theorem ads(A B:Prop)(m:Mk (A,B)):br (some (aB true)) A B m↔A:=NL
@[simp] theorem abJ(A B:Prop)(m:Mk (A,B)):br (some (aB false)) A B m↔B:=NL
theorem mZ{b:Bool}{A B:Prop}{m:Mk (A,B)}(h1:b=true→A)(h2:b=false→B):br (some (aB b)) A B m:=by
 cases b
 ·exact⟨h2 rfl⟩
 ·exact⟨h1 rfl⟩
theorem Xd{p:Prop}[Decidable p]{A B:Prop}{m:Mk (A,B)}(h1:p→A)(h2 : ¬p→B):br (some (aB (decide p))) A B m :=
 mZ (fun h=>h1 (of_decide_eq_true h)) (fun h=>h2 (of_decide_eq_false h))
@[simp] theorem aa8(q:gV)(K:AV→Prop)(m:Mk (q,K)):gQ (aB true) true q K m↔ak q K:=⟨fun h=>h.h,fun h=>⟨h⟩⟩
@[simp] theorem abb(q:gV)(K:AV→Prop)(m:Mk (q,K)):gQ (aB false) false q K m↔ak q K:=⟨fun h=>h.h,fun h=>⟨h⟩⟩
@[simp] theorem aa9(q:gV)(K:AV→Prop)(m:Mk (q,K)):gQ (aB true) false q K m↔K AV.undef:=⟨fun h=>h.h,fun h=>⟨h⟩⟩
@[simp] theorem aba(q:gV)(K:AV→Prop)(m:Mk (q,K)):gQ (aB false) true q K m↔K AV.undef:=⟨fun h=>h.h,fun h=>⟨h⟩⟩
@[simp] theorem afG(w:Bool)(q:gV)(K:AV→Prop)(m:Mk (q,K)):gQ AV.undef w q K m↔K AV.undef:=⟨fun h=>h.h,fun h=>⟨h⟩⟩
@[simp] theorem aa4(H:ad)(q:dY)(K:AV→ad→Prop)(m:Mk (q,K)):gW (aB true) true H q K m↔aL q K:=⟨fun h=>h.h,fun h=>⟨h⟩⟩
@[simp] theorem aa7(H:ad)(q:dY)(K:AV→ad→Prop)(m:Mk (q,K)):gW (aB false) false H q K m↔aL q K:=⟨fun h=>h.h,fun h=>⟨h⟩⟩
@[simp] theorem aa5(H:ad)(q:dY)(K:AV→ad→Prop)(m:Mk (q,K)):gW (aB true) false H q K m↔K AV.undef H:=⟨fun h=>h.h,fun h=>⟨h⟩⟩
@[simp] theorem aa6(H:ad)(q:dY)(K:AV→ad→Prop)(m:Mk (q,K)):gW (aB false) true H q K m↔K AV.undef H:=⟨fun h=>h.h,fun h=>⟨h⟩⟩
@[simp] theorem afF(w:Bool)(H:ad)(q:dY)(K:AV→ad→Prop)(m:Mk (q,K)):gW AV.undef w H q K m↔K AV.undef H:=⟨fun h=>h.h,fun h=>⟨h⟩⟩
@[simp] theorem X4(v:AV):cz (some v)=some (v,[]):=id rfl
@[simp] theorem Yn(H:ad)(r:Ref)(v:AV)(bs:List bP):bg H r (some (v,bs))=some (v,keyed r 0 bs H):=id rfl
@[simp] theorem HD(H:ad)(r:Ref):bg H r none=none:=id rfl
@[simp] theorem Wu(r:Ref)(k:Nat)(H:ad):keyed r k [] H=H:=id rfl
@[simp] theorem Wv(r:Ref)(k:Nat)(b:bP)(bs:List bP)(H:ad):keyed r k (b :: bs) H=keyed r (k+1) bs (({ r with k:=k},some b) :: H):=id rfl
@[simp] theorem aaz(wk:Bool)(x:AV × ad)(b:dY):DJ wk (some x) b=some x:=id rfl
@[simp] theorem Kb(b:dY):DJ true none b=b:=id rfl
@[simp] theorem Wf(a b:Option AV):bp (some (aB true)) a b=cz a:=id rfl
@[simp] theorem UJ(a b:Option AV):bp (some (aB false)) a b=cz b:=id rfl
@[simp] theorem ad5(k:IntKind)(n:Int):oi (.v (.int k n))=some (some n):=id rfl
@[simp] theorem YU(cs:List AV):(AV.agg cs).cells=cs:=id rfl
@[simp] theorem adm(x:Value):(AV.v x).cells=[.v x]:=id rfl
@[simp] theorem adn(x:UInt8):(a8 x).cells=[a8 x]:=id rfl
@[simp] theorem abG(x:UInt32):(aF x).cells=[aF x]:=id rfl
@[simp] theorem YT(z:Nat)(es:List AV)(c:Option Nat):(AV.ck z es c).cells=[.ck z es c]:=id rfl
@[simp] theorem YS(r:Ref)(o n:Nat)(c:Option Nat):(AV.cP r o n c).cells=[.cP r o n c]:=id rfl
@[simp] theorem YR(r:Ref)(i j:Nat):(AV.ptr r i j).cells=[.ptr r i j]:=id rfl
@[simp] theorem abF(f:Fn)(a b:List AV):(AV.fn f a b).cells=[.fn f a b]:=id rfl
@[simp] theorem acP(k:IntKind)(n:Int):(AV.v (.int k n)).one=true:=id rfl
@[simp] theorem aaB(b:Bool):(AV.v (.bool b)).one=true:=id rfl
@[simp] theorem acN:cp.one=true:=id rfl
@[simp] theorem aeP(x:UInt8):(a8 x).one=true:=id rfl
@[simp] theorem ad4(x:UInt32):(aF x).one=true:=id rfl
@[simp] theorem acO(z:Nat)(es:List AV)(c:Option Nat):(AV.ck z es c).one=true:=id rfl
@[simp] theorem acM(r:Ref)(o n:Nat)(c:Option Nat):(AV.cP r o n c).one=true:=id rfl
@[simp] theorem acL(r:Ref)(i j:Nat):(AV.ptr r i j).one=true:=id rfl
@[simp] theorem Wj(f:Fn)(a b:List AV):(AV.fn f a b).one=true:=id rfl
section
variable(P:Program)(t:TypeId)(xo yo:Operand)(k:IntKind)(a b:Int)
@[simp] theorem J5:aH P .lss t xo yo (some (.v (.int k a))) (some (.v (.int k b)))=some (aB (decide (a<b)),[]):=by cases k<;>rfl
@[simp] theorem QO:aH P .leq t xo yo (some (.v (.int k a))) (some (.v (.int k b)))=some (aB (decide (a≤b)),[]):=by cases k<;>rfl
@[simp] theorem QP:aH P .gtr t xo yo (some (.v (.int k a))) (some (.v (.int k b)))=some (aB (decide (b<a)),[]):=by cases k<;>rfl
@[simp] theorem QQ:aH P .geq t xo yo (some (.v (.int k a))) (some (.v (.int k b)))=some (aB (decide (b≤a)),[]):=by cases k<;>rfl
@[simp] theorem J6:aH P .eql t xo yo (some (.v (.int k a))) (some (.v (.int k b)))=some (aB (decide (a=b)),[]):=by
 have:(a == b)=decide (a=b):=by by_cases h:a=b<;>simp[h]
 rw[←this];cases k<;>rfl
@[simp] theorem QN:aH P .neq t xo yo (some (.v (.int k a))) (some (.v (.int k b)))=some (aB (!decide (a=b)),[]):=by
 have:(a != b) = !decide (a=b):=by by_cases h:a=b<;>simp[h]
 rw[←this];cases k<;>rfl
@[simp] theorem aaw:aH P .add t xo yo (some (.v (.int k a))) (some (.v (.int k b)))=some (.v (.int k (k.wrap (a+b))),[]):=by cases k<;>rfl
@[simp] theorem aau:aH P .sub t xo yo (some (.v (.int k a))) (some (.v (.int k b)))=some (.v (.int k (k.wrap (a - b))),[]):=by cases k<;>rfl
@[simp] theorem aav:aH P .mul t xo yo (some (.v (.int k a))) (some (.v (.int k b)))=some (.v (.int k (k.wrap (a * b))),[]):=by cases k<;>rfl
theorem fB{yk:IntKind}(hb:0≤b):aH P .shr t xo yo (some (.v (.int k a))) (some (.v (.int yk b)))=some (.v (.int k (a.fdiv (2 ^ min b.toNat k.bits))),[]):=by
 have h:Op.shift .shr k a yk b=pure (.int k (a.fdiv (2 ^ min b.toNat k.bits))):=by unfold Op.shift;rw[if_neg (by omega)]
 have h2:E4 P .shr t xo yo (.int k a) (.int yk b)=some (.int k (a.fdiv (2 ^ min b.toNat k.bits))):=by
  have:E4 P .shr t xo yo (.int k a) (.int yk b)=bL P (Op.shift .shr k a yk b):=rfl
  rw[this,h];rfl
 simp only[aH,IP,mr,fA,h2,Bool.false_and,Bool.or_self,Bool.false_eq_true,if_false,Option.bind_some,ir,scalar,if_true,cz,Option.map_some]
@[simp] theorem acG(b:Bool):vk P .not (some (aB b))=some (aB (!b),[]):=id rfl
def u8(n:Int):UInt8:=UInt8.ofBitVec (BitVec.ofInt 8 n)
def u32(n:Int):UInt32:=UInt32.ofBitVec (BitVec.ofInt 32 n)
@[simp] theorem Y6(n:Int):IntKind.u8.wrap n=((u8 n).toNat:Int):=by
 unfold u8;rw[IntKind.wrap_u8,UInt8.toNat_ofBitVec,BitVec.toNat_ofInt];omega
@[simp] theorem Sq(n:Int):IntKind.u32.wrap n=((u32 n).toNat:Int):=by
 unfold u32;rw[IntKind.wrap_u32,UInt32.toNat_ofBitVec,BitVec.toNat_ofInt];omega
theorem Hl(n:Int):(u8 n).toNat=(n % 256).toNat:=by
 unfold u8;rw[UInt8.toNat_ofBitVec,BitVec.toNat_ofInt];rfl
theorem EF(n:Int):(u32 n).toNat=(n % 4294967296).toNat:=by
 unfold u32;rw[UInt32.toNat_ofBitVec,BitVec.toNat_ofInt];rfl
@[simp] theorem SB(x:UInt32):u32 (x.toNat:Int)=x:=by apply UInt32.toNat_inj.1;rw[EF];have:=x.toNat_lt;omega
@[simp] theorem Zd(x:UInt32):u8 (x.toNat:Int)=x.toUInt8:=by apply UInt8.toNat_inj.1;rw[Hl,UInt32.toNat_toUInt8];omega
@[simp] theorem WQ(x:UInt32):IntKind.i64.wrap (x.toNat:Int)=x.toNat:=by have:=x.toNat_lt;exact IntWalk.i64_in _ (by omega)
theorem Xg(v:BitVec 32):IntKind.u32.wrap (v.toNat:Int)=((UInt32.ofBitVec v).toNat:Int):=by
 rw[Sq];unfold u32;congr 3;apply BitVec.eq_of_toNat_eq;rw[BitVec.toNat_ofInt];have:=v.isLt;omega
theorem Xe(op:BinOp)(f:BitVec 32→BitVec 32→BitVec 32)(g:UInt32→UInt32→UInt32)(hg : ∀x y,g x y=UInt32.ofBitVec (f x.toBitVec y.toBitVec))(hop : ∀x y:Int,aH P op t xo yo (some (.v (.int .u32 x))) (some (.v (.int .u32 y)))=some (.v (.int .u32 (IntKind.u32.wrap ((f (BitVec.ofInt 32 x) (BitVec.ofInt 32 y)).toNat:Int))),[])) :
 aH P op t xo yo (some (.v (.int .u32 a))) (some (.v (.int .u32 b)))=some (aF (g (u32 a) (u32 b)),[]):=by
 rw[hop,Xg,hg];rfl
section
variable(x y:UInt8)
@[simp] theorem X8:aH P .lss t xo yo (some (a8 x)) (some (a8 y))=some (aB (decide (x<y)),[]):=by
 unfold a8;rw[J5];congr 4;rw[UInt8.lt_iff_toNat_lt];all_goals exact propext (by omega)
@[simp] theorem X9:aH P .leq t xo yo (some (a8 x)) (some (a8 y))=some (aB (decide (x≤y)),[]):=by
 unfold a8;rw[QO];congr 4;rw[UInt8.le_iff_toNat_le];all_goals exact propext (by omega)
@[simp] theorem Ya:aH P .gtr t xo yo (some (a8 x)) (some (a8 y))=some (aB (decide (y<x)),[]):=by
 unfold a8;rw[QP];congr 4;rw[UInt8.lt_iff_toNat_lt];all_goals exact propext (by omega)
@[simp] theorem Yb:aH P .geq t xo yo (some (a8 x)) (some (a8 y))=some (aB (decide (y≤x)),[]):=by
 unfold a8;rw[QQ];congr 4;rw[UInt8.le_iff_toNat_le];all_goals exact propext (by omega)
@[simp] theorem Yc:aH P .eql t xo yo (some (a8 x)) (some (a8 y))=some (aB (decide (x=y)),[]):=by
 unfold a8;rw[J6];congr 4;rw[←UInt8.toNat_inj];all_goals exact propext (by omega)
@[simp] theorem X7:aH P .neq t xo yo (some (a8 x)) (some (a8 y))=some (aB (!decide (x=y)),[]):=by
 unfold a8;rw[QN];congr 5;rw[←UInt8.toNat_inj];all_goals exact propext (by omega)
end
section
variable(x y:UInt32)
@[simp] theorem Sj:aH P .andNot t xo yo (some (aF x)) (some (aF y))=some (aF (x &&& ~~~y),[]):=by
 unfold aF;rw[Xe P t xo yo _ _ .andNot (fun a b=>a &&& ~~~b) (fun a b=>a &&& ~~~b) (fun _ _=>rfl) (fun _ _=>rfl)];simp only[SB];rfl
@[simp] theorem V4:aH P .lss t xo yo (some (aF x)) (some (aF y))=some (aB (decide (x<y)),[]):=by
 unfold aF;rw[J5];congr 4;rw[UInt32.lt_iff_toNat_lt];all_goals exact propext (by omega)
@[simp] theorem V5:aH P .eql t xo yo (some (aF x)) (some (aF y))=some (aB (decide (x=y)),[]):=by
 unfold aF;rw[J6];congr 4;rw[←UInt32.toNat_inj];all_goals exact propext (by omega)
end
theorem kQ{P:Program}{t:TypeId}{d:TypeDesc}(h:P.underlying t=some d):bL P (Go.underlying t)=some d:=by
 unfold Go.underlying
 rw[cf]
 show(some P).bind _=_
 rw[Option.bind_some,h]
 rfl
def intKind(P:Program)(t:TypeId):Option IntKind:=match P.underlying t with | some (.int k)=>some k | _=>none
theorem Bv{P:Program}{t:TypeId}{k:IntKind}(h:intKind P t=some k):P.underlying t=some (.int k):=by
 unfold intKind at h
 split at h
 ·cases h;assumption
 ·cases h
theorem Hy{g:dy}{r:Ref}{src dst:TypeId}{k':IntKind}(hs:(P.underlying src).isNone=false)(hd:intKind P dst=some k)(n:Int) :
 cZ P g r src dst (some (.v (.int k' n)))=some (.v (.int k (k.wrap n)),[]):=by
 have hd:=Bv hd
 obtain⟨d,hs⟩ : ∃d,P.underlying src=some d:=by cases h:P.underlying src with | none=>rw[h]at hs;cases hs | some d=>exact⟨d,rfl⟩
 have:bL P (Go.convert src dst (.int k' n))=some (.int k (k.wrap n)):=by
  unfold Go.convert
  rw[cf,kQ hs,Option.bind_some,cf,kQ hd,Option.bind_some]
  cases d<;>rfl
 simp only[cZ,this,Option.bind_some,ir,scalar,if_true,cz,Option.map_some]
@[simp] theorem V2{g:dy}{r:Ref}{src dst:TypeId}(hs:(P.underlying src).isNone=false)(hd:intKind P dst=some .i64)(x:UInt32) :
 cZ P g r src dst (some (aF x))=some (aI x.toNat,[]):=by
 unfold aF;rw[Hy P .i64 hs hd,WQ]
@[simp] theorem X6{g:dy}{r:Ref}{src dst:TypeId}{k':IntKind}(hs:(P.underlying src).isNone=false)(hd:intKind P dst=some .u8)(n:Int) :
 cZ P g r src dst (some (.v (.int k' n)))=some (a8 (u8 n),[]):=by
 unfold a8;rw[Hy P .u8 hs hd,Y6]
end
def iB(l:List UInt8):List AV:=l.map a8
@[simp] theorem adp(l:List UInt8):(iB l).length=l.length:=by simp[iB]
@[simp] theorem ado:iB []=[]:=id rfl
theorem QI(P:Program)(d:Bool)(g:dy)(r:Ref)(t:TypeId)(ts:List TypeId)(x:AV)(hx : ∀r',x ≠ .mp r'):aU P d g r .len ⟨t :: ts⟩ [x]=GH P (some t) x:=by
 unfold aU
 cases x<;>first | rfl | (rename_i q;exact(hx q rfl).elim)
@[simp] theorem acH(P:Program)(d:Bool)(g:dy)(r:Ref)(t:TypeId)(ts:List TypeId)(x:AV)(hx:(tE x).isSome=true):aU P d g r .len ⟨t :: ts⟩ [x]=GH P (some t) x:=by
 refine QI P d g r t ts x fun r' e=>?_
 subst e;cases hx
@[simp] theorem Yp:tE cp=some 0:=id rfl
@[simp] theorem Yq(n:Nat)(es:List AV)(c:Option Nat):tE (.ck n es c)=some es.length:=id rfl
@[simp] theorem Yo(r:Ref)(o n:Nat)(c:Option Nat):tE (.cP r o n c)=some n:=id rfl
@[simp] theorem VZ{P:Program}{t:TypeId}(ha:jy P t=none)(hs:isStr P t=false)(he:(dZ P t).isSome=true)(x:AV):GH P (some t) x=(tE x).map fun n=>(aI n,[]):=by
 simp only[GH,ha,hs,he];rfl
theorem K0{P:Program}{t:TypeId}{z:Nat}(h:(dZ P t).bind (bm P)=some z) : ∃e,dZ P t=some e∧bm P e=some z:=by
 simpa [Option.bind_eq_some_iff] using h
@[simp] theorem E1{P:Program}{t:TypeId}{z:Nat}(h:(dZ P t).bind (bm P)=some z)(g:dy)(es:List AV)(c:Option Nat)(kd:IntKind)(k:Int) :
 bq P g t (some (.ck z es c)) (some (.v (.int kd k)))=if 0≤k∧k<es.length then some (.iptr z es k.toNat 0,[]) else none:=by
 obtain⟨e,he,hz⟩:=K0 h
 simp only[bq,Option.bind_some,tF,he,hz,and_true]
@[simp] theorem VY{P:Program}{t:TypeId}(ha:(dt P t).isSome=true)(hn:(bm P t).isSome=true)(g:dy)(z:Nat)(es:List AV)(i j:Nat) :
 aj P g t (some (.iptr z es i j))=cz (eQ es i j ((bm P t).getD 0) ((dt P t).getD false)):=by
 obtain⟨a,ha⟩:=Option.isSome_iff_exists.1 ha
 obtain⟨n,hn⟩:=Option.isSome_iff_exists.1 hn
 simp only[aj,ha,hn,Option.getD_some]
def Rh(x:Option bP)(i j n:Nat)(ag:Bool):gV:=match x with
 | some b=>cz (eQ b.es i j n ag)
 | none=>none
@[simp] theorem Wq(b:bP)(i j n:Nat)(ag:Bool):Rh (some b) i j n ag=cz (eQ b.es i j n ag):=id rfl
@[simp] theorem X5{P:Program}{t:TypeId}(ha:(dt P t).isSome=true)(hn:(bm P t).isSome=true)(g:dy)(r:Ref)(i j:Nat) :
 aj P g t (some (.ptr r i j))=Rh (g r) i j ((bm P t).getD 0) ((dt P t).getD false):=by
 obtain⟨a,ha⟩:=Option.isSome_iff_exists.1 ha
 obtain⟨n,hn⟩:=Option.isSome_iff_exists.1 hn
 simp only[aj,ha,hn,Option.getD_some]
 rfl
@[simp] theorem Px(e:AV)(es:List AV)(j n:Nat):eQ (e :: es) 0 j n true=if j+n≤e.cells.length∧0<n then some (.agg ((e.cells.drop j).take n)) else none:=id rfl
@[simp] theorem Pw(e:AV)(es:List AV)(j n:Nat):eQ (e :: es) 0 j n false=e.cells[j]?:=id rfl
def Sl(z:Nat)(es:List AV)(x:AV):Prop:=(x=cp∧es=[]) ∨∃c,x = .ck z es c∧es.length≤c.getD es.length
theorem Sl.mk(z:Nat)(es:List AV):Sl z es (.ck z es none) := .inr ⟨none,rfl,Nat.le_refl _⟩
theorem Sl.len{z:Nat}{es:List AV}{x:AV}(h:Sl z es x):tE x=some es.length:=by
 rcases h with ⟨rfl,rfl⟩ | ⟨c,rfl,_⟩<;>rfl
theorem Sl.ck{z:Nat}{es:List AV}{x:AV}(h:Sl z es x){i:Nat}(hi:i<es.length) : ∃c,x = .ck z es c∧es.length≤c.getD es.length:=by
 rcases h with ⟨rfl,rfl⟩ | h
 ·simp at hi
 ·exact h
theorem Sl.view{z:Nat}{es:List AV}{x:AV}(h:Sl z es x)(g:dy)(n:Nat):view g (n+1) x=some x:=by
 rcases h with ⟨rfl,rfl⟩ | ⟨c,rfl,_⟩<;>rfl
theorem Sl.refs{z:Nat}{es:List AV}{x:AV}(h:Sl z es x)(g:dy)(n:Nat):aM g n x=[]:=by
 rcases h with ⟨rfl,rfl⟩ | ⟨c,rfl,_⟩<;>cases n<;>rfl
theorem Sl.cells{z:Nat}{es:List AV}{x:AV}(h:Sl z es x):x.cells=[x]∧x.one=true:=by
 rcases h with ⟨rfl,_⟩ | ⟨c,rfl,_⟩<;>exact⟨rfl,rfl⟩
@[simp] theorem Vw(g:dy)(n:Nat)(x:Value):view g (n+1) (.v x)=some (.v x):=id rfl
@[simp] theorem adM(g:dy)(n:Nat)(x:UInt8):view g (n+1) (a8 x)=some (a8 x):=id rfl
@[simp] theorem abV(g:dy)(n:Nat)(x:UInt32):view g (n+1) (aF x)=some (aF x):=id rfl
@[simp] theorem Y8(g:dy)(n z:Nat)(es:List AV)(c:Option Nat):view g (n+1) (.ck z es c)=some (.ck z es c):=id rfl
@[simp] theorem Za(g:dy)(n:Nat)(cs:List AV):view g (n+1) (.agg cs)=(cs.mapM (view g n)).map .agg:=id rfl
@[simp] theorem Y7(g:dy)(n:Nat)(cs:List AV):view g (n+1) (.tup cs)=(cs.mapM (view g n)).map .tup:=id rfl
@[simp] theorem Xr(g:dy)(n z:Nat)(es:List AV)(i j:Nat):view g (n+1) (.iptr z es i j)=some (.iptr z es i j):=id rfl
@[simp] theorem Y9(g:dy)(n:Nat)(t:TypeId)(x:AV):view g (n+1) (.ifc t x)=(view g n x).map (.ifc t):=id rfl
theorem Er{g:dy}{r:Ref}{b:bP}(hr:g r=some b)(n o l:Nat)(c:Option Nat):view g (n+1) (.cP r o l c)=if b.arr=true∧o+l≤b.es.length then some (.ck b.esz ((b.es.drop o).take l) c) else none:=by
 simp only[view,hr]
theorem bJ:depth=8:=Nat.le_antisymm (Nat.le_refl 8) (Nat.le_refl 8)
end Go.Ab
namespace Go.Ab
@[simp] theorem ad.qE(r q:Ref)(b:Option bP)(H:ad):ad.get ((r,b) :: H) q=if r=q then b else ad.get H q:=id rfl
attribute [simp] ad.ao
@[simp] theorem acI(P:Program)(r:Ref)(e:TypeId)(x:AV)(h0:0<(bm P e).getD 0):cd P r e (some x)=if some x.cells.length=bm P e∧x.cells.all AV.one=true then some (.ptr r 0 0,[⟨(bm P e).getD 0,[x],false,false⟩]) else none:=by
 unfold cd
 cases h:bm P e with
 | none=>simp
 | some n=>rw[h]at h0;simp only[Option.getD_some]at h0;simp[h0]
def Fr(H:ad):Prop :=∀d t g k,H.gen d t≤g→H.get ⟨d,t,g,k⟩=none
theorem Fr.nil:Fr []:=fun _ _ _ _ _=>rfl
theorem Fr.keyed{H:ad}(h:Fr H)(bs:List bP)(d t:Nat):Fr (Ab.keyed ⟨d,t,H.gen d t,0⟩ 0 bs H):=by
 intro d' t' g k hg
 rw[ad.ku]at hg
 rw[ad.HM]
 by_cases hb:bs=[]
 ·subst hb
  rw[if_neg (by simp)]at hg
  simp[h _ _ _ _ hg]
 ·by_cases hd:d'=d∧t'=t
  ·obtain⟨rfl,rfl⟩:=hd
   rw[if_pos ⟨rfl,rfl,hb⟩]at hg
   dsimp only at hg ⊢
   rw[if_neg (by intro hh;have:=hh.2.2.1;omega)]
   exact h _ _ _ _ (by omega)
  ·rw[if_neg (by intro hh;exact hd ⟨hh.1,hh.2.1⟩)]at hg
   dsimp only at hg ⊢
   rw[if_neg (by intro hh;exact hd ⟨hh.1,hh.2.1⟩)]
   exact h _ _ _ _ hg
theorem Fr.put{H:ad}(h:Fr H){r:Ref}(b:Option bP)(hr:(H.get r).isSome=true):Fr (H.put r b):=by
 intro d t g k hg
 rw[ad.lu H r b hr]at hg
 rw[ad.ao]
 split
 ·rename_i e
  subst e
  rw[h _ _ _ _ hg]at hr
  cases hr
 ·exact h _ _ _ _ hg
theorem Fr.cons{H:ad}(h:Fr H)(d t:Nat)(b:Option bP):Fr ((⟨d,t,H.gen d t,0⟩,b) :: H):=by
 intro d' t' g k hg
 simp only[ad.gen]at hg
 rw[ad.qE]
 split at hg
 ·rename_i e
  obtain⟨rfl,rfl⟩:=e
  rw[if_neg (by intro e;injection e;omega)]
  exact h _ _ _ _ (by omega)
 ·rename_i e
  rw[if_neg (by intro e';injection e' with e1 e2;exact e ⟨e1,e2⟩)]
  exact h _ _ _ _ hg
theorem nJ{H:ad}(hF:Fr H){q:Ref}(h:(H.get q).isSome=true)(d t k:Nat):(⟨d,t,H.gen d t,k⟩:Ref)≠q:=by
 intro e;subst e;rw[hF _ _ _ _ (Nat.le_refl _)]at h;cases h
def W6(P:Program)(t z by':Nat):Bool:=match dZ P t with
 | some e=>bm P e == some z&&pR P e == some by'&&(match eS P e with | some zz=>zz.cells.length == z&&zz.cells.all AV.one | none=>false)&&z != 0&&by' != 0
 | none=>false
def Hf(P:Program)(t:TypeId):Bool:=(P.underlying t).isSome && !isInt P t
theorem jF{P:Program}{t z by':Nat}(h:W6 P t z by'=true) : ∃e zz,dZ P t=some e∧bm P e=some z∧pR P e=some by'∧eS P e=some zz∧zz.cells.length=z∧zz.cells.all AV.one=true∧z≠0∧by'≠0:=by
 unfold W6 at h
 split at h
 ·rename_i e he
  simp only[Bool.and_eq_true,beq_iff_eq,bne_iff_ne]at h
  obtain⟨⟨⟨⟨h1,h2⟩,h3⟩,h4⟩,h5⟩:=h
  split at h3
  ·rename_i zz hz
   simp only[Bool.and_eq_true,beq_iff_eq]at h3
   exact⟨e,zz,he,h1,h2,hz,h3.1,h3.2,h4,h5⟩
  ·cases h3
 ·cases h
def Uu(g:dy)(z:Nat)(new:List AV)(x:AV):Prop:=(x=cp∧new=[])∨(isNum x=false∧x≠cp∧cX g x=some (z,new))
theorem Uu.nw{P:Program}{t z by':Nat}(h:W6 P t z by'=true){e:TypeId}(he:dZ P t=some e){g:dy}{new:List AV}{x:AV}(hx:Uu g z new x):nw P g e x=some (z,new):=by
 obtain⟨e',zz,h1,h2,h3,h4,h5,h6,h7,h8⟩:=jF h
 rw[he]at h1;cases h1
 rcases hx with ⟨rfl,rfl⟩ | ⟨hn,hne,hx⟩
 ·simp only[Ab.nw,h2,Option.map_some]
 ·unfold Ab.nw
  split
  ·exact(hne rfl).elim
  ·simp[isNum]at hn
  ·exact hx
theorem Uu.num{g:dy}{z:Nat}{new:List AV}{x:AV}(hx:Uu g z new x):isNum x=false:=by
 rcases hx with ⟨rfl,_⟩ | ⟨hn,_⟩
 ·rfl
 ·exact hn
theorem Sl.IX{z:Nat}{es:List AV}{x:AV}(h:Sl z es x)(g:dy):Uu g z es x:=by
 rcases h with ⟨rfl,rfl⟩ | ⟨c,rfl,_⟩
 ·exact .inl ⟨rfl,rfl⟩
 ·exact .inr ⟨rfl,(by intro e;cases e),rfl⟩
def sO(z:Nat)(es:List AV)(H:ad)(x:AV):Prop:=(x=cp∧es=[]) ∨∃r,x = .cP r 0 es.length none∧H.get r=some ⟨z,es,true,false⟩
theorem Nk(z:Nat)(H:ad):sO z [] H cp := .inl ⟨rfl,rfl⟩
theorem sO.len{z:Nat}{es:List AV}{H:ad}{x:AV}(h:sO z es H x):tE x=some es.length:=by
 rcases h with ⟨rfl,rfl⟩ | ⟨r,rfl,_⟩<;>rfl
theorem sO.view{z:Nat}{es:List AV}{H:ad}{x:AV}(h:sO z es H x)(n:Nat) : ∃y,view H.get (n+1) x=some y∧Sl z es y:=by
 rcases h with ⟨rfl,rfl⟩ | ⟨r,rfl,hr⟩
 ·exact⟨cp,rfl,.inl ⟨rfl,rfl⟩⟩
 ·refine⟨.ck z es none,?_,Sl.mk z es⟩
  rw[Er hr]
  simp
theorem sO.IX{z:Nat}{es:List AV}{H:ad}{x:AV}(h:sO z es H x):Uu H.get z es x:=by
 rcases h with ⟨rfl,rfl⟩ | ⟨r,rfl,hr⟩
 ·exact .inl ⟨rfl,rfl⟩
 ·refine .inr ⟨rfl,(by intro e;cases e),?_⟩
  simp[cX,hr]
def AV.at?:AV→Option Ref
 | .cP r _ _ _=>some r
 | .ptr r _ _=>some r
 | _=>none
theorem sO.cP{z:Nat}{es:List AV}{H:ad}{x:AV}(h:sO z es H x)(hn:es≠[]) : ∃r,x = .cP r 0 es.length none∧H.get r=some ⟨z,es,true,false⟩:=by
 rcases h with ⟨_,rfl⟩ | h
 ·exact(hn rfl).elim
 ·exact h
end Go.Ab
