/-
  What is to be shown for a run of the abstract machine, as one proposition that is computed from the code. No statement of a seat is proved here.
  More fuel gives the same answer. No statement of a seat is proved here.
  What the abstract machine's operations yield on data: the rules for the conditions. No statement of a seat is proved here.
  Own memory in the conditions: appends, stores, loads, what is seen of it. No statement of a seat is proved here.
-/
import Derived.IntWalk
import Derived.Test.YtdbiffjdomokfaaGreatAbsEnv
set_option linter.unusedVariables false
set_option linter.unusedSimpArgs false
set_option linter.unusedSectionVars false
set_option linter.unnecessarySimpa false
namespace Go.Ab
abbrev dI:=Nat->AV
def cK(s:dI):Operand->Option AV
 | .tmp t=>some (s t)
 | .const v=>ofValue v
 | .func f=>some (.fn (.func f) [] [])
 | .global _=>none
def CW(c:Operand->Option AV):List Operand->Option (List AV)
 | []=>some []
 | o :: os=>match c o,CW c os with
  | some x,some xs=>some (x :: xs)
  | _,_=>none
def DQ(c:Operand->Option AV):List (Nat × Operand)->Option (List (Nat × AV))
 | []=>some []
 | (i,o) :: os=>match c o,DQ c os with
  | some x,some xs=>some ((i,x) :: xs)
  | _,_=>none
def L0(c:Operand->Option AV):Option Operand->Option (Option Int)
 | none=>some none
 | some o=>match (c o).bind intOf with
  | some n=>some (some n)
  | none=>none
def D1(s:dI)(d:Nat)(v:AV):dI:=λi=>cond (Nat.beq i d) v (s i)
def dW(tm:List AV)(s:dI):Prop :=∀i,cY tm i=s i
theorem ya{tm:List AV}{s:dI}(h:dW tm s):aM tm=cK s:=by
 funext o;cases o<;>simp[aM,cK,h _]
theorem GN(c:Operand->Option AV)(l:List Operand):l.mapM c=CW c l:=by
 induction l with
 | nil=>rfl
 | cons o l d=>
  simp only[lX,d,CW,sW,tM]
  cases c o<;>cases CW c l<;>rfl
theorem IQ{tm:List AV}{s:dI}(h:dW tm s)(l:List (Nat × Operand)):iM tm l=DQ (cK s) l:=by
 induction l with
 | nil=>rfl
 | cons o l c=>
  obtain⟨i,o⟩:=o
  unfold iM at c ⊢
  rw[lX,c]
  simp only[DQ,sW,tM,ya h]
  cases cK s o<;>cases DQ (cK s) l<;>rfl
theorem Kc{tm:List AV}{s:dI}(h:dW tm s)(o:Option Operand):ma tm o=L0 (cK s) o:=by
 cases o with
 | none=>rfl
 | some o=>simp only[ma,L0,ya h];rfl
theorem dW.set{tm:List AV}{s:dI}(h:dW tm s)(d:Nat)(v:AV):dW (yN tm d v) (D1 s d v):=by
 intro i
 rw[oC]
 unfold D1
 split
 ·rename_i e;subst e;simp
 ·rename_i e;rw[show Nat.beq i d=false from by cases c:Nat.beq i d with | false=>rfl | true=>exact(e (kf c)).elim];exact h i
def Al(c a b:Option AV):jh:=
 match c.bind Ec with
 | some true=>jK a
 | some false=>jK b
 | none=>none
def mz(H:ai)(r:Ref)(q:jh):dv:=
 match q with
 | some (v,c)=>some (v,keyed r 0 c H)
 | none=>none
def EY(c:Bool)(a b:dv):dv:=
 match a with
 | some x=>some x
 | none=>cond c b none
def bF(E:Env)(c:Bool)(pc:FuncId->List AV->Option AV)(tc:xd->List AV->ai->dv)(H:ai)(r:Ref)(f:Option AV)(args:List AV):dv:=
 EY c (mz H r (kn E pc H.get r f args)) (mT E pc tc H r f args)
def mY(E:Env)(c:Bool)(pc:FuncId->List AV->Option AV)(tc:xd->List AV->ai->dv)(H:ai)(r:Ref)(f:Option AV)(args:List AV):dv:=
 EY c (mz H r ((kn E pc H.get r f args).map λp=>(p.1,Ay true p.2))) (p8 true E.sm H (mT E pc tc H r f args))
def jn(P:Program)(c:Bool)(H:ai)(r:Ref)(t t':Option TypeId)(s x:AV):dv:=
 EY c (mz H r (jv P H.get r t t' s x)) (mI P H t t' s x)
def oS(P:Program)(draw d:Bool)(H:ai)(r:Ref)(t:TypeId)(n:Nat)(c:Option (List (Nat × AV))):dv:=
 EY d (mz H r (ik P draw H.get r t n c)) (kg P H r t n c)
def xV(E:Env)(pc:FuncId->List AV->Option AV)(tc:xd->List AV->ai->dv)(dep:Nat)(draw d:Bool)(s:dI)(H:ai)(r:Ref)(o:Oper):jh ⊕ dv:=
 match o.op with
 | .move x | .assign x => .inl (jK (cK s x))
 | .pick c a b => .inl (Al (cK s c) (cK s a) (cK s b))
 | .alloc e => .inr (mz H r (uW E.P r e))
 | .box e x => .inr (mz H r (Ka E.P r e (cK s x)))
 | .build t ps => .inl (lx E.P t (DQ (cK s) ps.toList))
 | .buildSlice t n ps => .inr (oS E.P (draw && !E.strict o) d H r t n (DQ (cK s) ps.toList))
 | .load t a => .inl (sf E.P H.get t (cK s a))
 | .store t a x => .inr (cond d (nc E.P H t (cK s a) (cK s x)) none)
 | .nilCheck x => .inl (LM (cK s x))
 | .binOp op t xo yo _ => .inl (bS E.P op t xo yo (cK s xo) (cK s yo))
 | .unOp op _ x => .inl (X7 E.P op (cK s x))
 | .convert src dst x=>match fE E.P dst with
  | true => .inr (mz H r (gf E.P H.get r src dst (cK s x)))
  | false => .inl (gf E.P H.get r src dst (cK s x))
 | .makeInterface t x => .inl (sI E.P t (cK s x))
 | .makeFunc f first captured => .inl (xR f (CW (cK s) first.toList) (CW (cK s) captured.toList))
 | .makeSlice t l c => .inr (mz H r (Ev E.P r t (cK s l) (cK s c)))
 | .slice t x p j h=>match E.wide o && !draw with
  | true => .inl (vY E.P H.get t (cK s x) (L0 (cK s) p) (L0 (cK s) j) (L0 (cK s) h))
  | false => .inl (iJ E.P H.get t (cK s x) (L0 (cK s) p) (L0 (cK s) j) (L0 (cK s) h))
 | .fieldAddr t x f => .inl (iK E.P t (cK s x) f)
 | .field t x f => .inl (uV E.P t (cK s x) f)
 | .indexAddr t x g => .inl (cT E.P H.get t (cK s x) (cK s g))
 | .index t x g => .inl (qU E.P t (cK s x) (cK s g))
 | .typeAssert x _ want ok => .inl (sR E.P (cK s x) want ok)
 | .extract x i => .inl (ti (cK s x) i)
 | .call c=>
  match CW (cK s) c.args.toList with
  | none => .inl none
  | some args=>
   match c.callee with
   | .value f=>(match Ew E.tZ draw f with
    | some t => .inl (LL E.P H.get t args)
    | none=>(match E.k8 o with
     | true => .inr (mY E d pc tc H r (cK s f) args)
     | false => .inr (bF E d pc tc H r (cK s f) args)))
   | .invoke _ _ => .inl none
   | .builtin b=>match b,args with
    | .append,[a,x] => .inr (jn E.P d H r c.argTypes[0]? c.argTypes[1]? a x)
    | .copy,[dst,x]=>(match E.wide o with
     | true => .inr (cond d (FQ E.P H c.argTypes[0]? dst x) none)
     | false => .inr (cond d (KZ E.P H c.argTypes[0]? dst x) none))
    | b,args => .inl (ck E.P (draw&&(E.strict o || !(match c.args.toList with | [.tmp _]=>true | _=>false))) H.get r b c.argTypes args)
 | .makeMap _ none => .inr (mz H r (some (.mp r,[bn []])))
 | .lookup t x k ok => .inl (eT E.P H.get t (cK s x) (cK s k) ok)
 | .mapUpdate t m k x => .inr (cond d (dM E.P H t (cK s m) (cK s k) (cK s x)) none)
 | .insert t m k x => .inr (cond d (dM E.P H t (cK s m) (cK s k) (cK s x)) none)
 | .mapEntry t m k => .inr (cond d (iH E.P H t (cK s m) (cK s k)) none)
 | .entryStore _ m n x => .inr (cond d (fD H (cK s m) (cK s n) (cK s x)) none)
 | .makeChan t n => .inr (cond d (sD E.P H r t (cK s n)) none)
 | .send c x => .inr (cond d (Bj H (cK s c) (cK s x)) none)
 | .recv t c ok => .inr (cond d (zx E.P H t (cK s c) ok) none)
 | _ => .inl none
def qi(E:Env)(pc:FuncId->List AV->Option AV)(tc:xd->List AV->ai->dv)(dep:Nat)(draw:Bool)(tm:List AV)(H:ai)(o:Oper):dv:=
 match ct E pc draw H.get tm ⟨dep,o.dst.getD 0,H.gen dep (o.dst.getD 0),0⟩ o with
 | some (x,c)=>some (x,keyed ⟨dep,o.dst.getD 0,H.gen dep (o.dst.getD 0),0⟩ 0 c H)
 | none=>if draw && !jj E o then none else evalW E pc tc H tm ⟨dep,o.dst.getD 0,H.gen dep (o.dst.getD 0),0⟩ o
theorem G5(E:Env)(pc:FuncId->List AV->Option AV)(tc:xd->List AV->ai->dv)(nt dep:Nat)(draw:Bool)(ops:Array Oper)(o:Oper)(st:St) :
 evalOp E pc tc nt dep draw ops o st=(match wanted ops st.tm o with
  | none=>none
  | some false=>(dn nt st.tm o.dst AV.undef).map λtm => { st with tm}
  | some true=>match qi E pc tc dep draw st.tm st.hp o with
   | some (x,H)=>(dn nt st.tm o.dst x).map λtm=>⟨tm,H⟩
   | none=>none):=by
 unfold evalOp qi
 cases hw:wanted ops st.tm o with
 | none=>rfl
 | some b=>
 cases b with
 | false=>rfl
 | true=>
  cases ct E pc draw st.hp.get st.tm ⟨dep,o.dst.getD 0,st.hp.gen dep (o.dst.getD 0),0⟩ o with
  | some p=>rfl
  | none=>
   dsimp only
   split
   ·rfl
   ·rfl
theorem Xr{E:Env}{pc:FuncId->List AV->Option AV}{tc:xd->List AV->ai->dv}{dep:Nat}{draw:Bool}{tm:List AV}{H:ai}{o:Oper}{v:AV}
 (h:ct E pc draw H.get tm ⟨dep,o.dst.getD 0,H.gen dep (o.dst.getD 0),0⟩ o=some (v,[])):qi E pc tc dep draw tm H o=some (v,H):=by
 unfold qi;rw[h];rfl
theorem Qg{E:Env}{pc:FuncId->List AV->Option AV}{tc:xd->List AV->ai->dv}{dep:Nat}{draw:Bool}{tm:List AV}{H H':ai}{o:Oper}{v:AV}{q:jh}
 (h:ct E pc draw H.get tm ⟨dep,o.dst.getD 0,H.gen dep (o.dst.getD 0),0⟩ o=q) (c:mz H ⟨dep,o.dst.getD 0,H.gen dep (o.dst.getD 0),0⟩ q=some (v,H')):qi E pc tc dep draw tm H o=some (v,H'):=by
 unfold qi;rw[h]
 unfold mz at c
 split at c
 ·exact c
 ·cases c
theorem nF{E:Env}{pc:FuncId->List AV->Option AV}{tc:xd->List AV->ai->dv}{dep:Nat}{draw:Bool}{tm:List AV}{H H':ai}{o:Oper}{v:AV}{q:jh}{w:dv}
 (h:ct E pc draw H.get tm ⟨dep,o.dst.getD 0,H.gen dep (o.dst.getD 0),0⟩ o=q) (e:evalW E pc tc H tm ⟨dep,o.dst.getD 0,H.gen dep (o.dst.getD 0),0⟩ o=w)
 (c:EY (!(draw && !jj E o)) (mz H ⟨dep,o.dst.getD 0,H.gen dep (o.dst.getD 0),0⟩ q) w=some (v,H')):qi E pc tc dep draw tm H o=some (v,H'):=by
 unfold qi;rw[h]
 cases q with
 | some p=>simpa [EY,mz] using c
 | none=>
  rw[e]
  cases d:(draw && !jj E o) with
  | true=>rw[d]at c;simp[EY,mz]at c
  | false=>rw[d]at c;simpa [EY,mz] using c
section
variable{E:Env}{pc:FuncId->List AV->Option AV}{tc:xd->List AV->ai->dv}{dep:Nat}{draw:Bool}{tm:List AV}{s:dI}{H:ai}{o:Oper}
theorem WR(g:dW tm s){q:jh}{v:AV}
 (h:xV E pc tc dep draw (!(draw && !jj E o)) s H ⟨dep,o.dst.getD 0,H.gen dep (o.dst.getD 0),0⟩ o = .inl q) (n:q=some (v,[])):qi E pc tc dep draw tm H o=some (v,H):=by
 subst n
 refine Xr ?_
 have e:=ya g
 unfold xV at h
 unfold ct
 split at h<;>rename_i l<;>simp only[l]
 all_goals try (simp only[z0,reduceCtorEq]at h)
 all_goals try (rw[<-h];simp only[e,Al,GA,IQ g,Kc g,GN];done)
 ·rw[<-h];unfold GA Al;rw[e];rfl
 ·split at h
  ·cases h
  ·simp only[z0]at h;rw[<-h,e]
 ·cases d:(E.wide o && !draw) with
  | true=>rw[d]at h;simp only[z0]at h;rw[<-h];simp only[cond_true,e,Kc g]
  | false=>rw[d]at h;simp only[z0]at h;rw[<-h];simp only[cond_false,e,Kc g]
 ·rw[GN,e]
  split at h
  ·cases h
  ·rename_i args c
   rw[c]
   dsimp only
   split at h
   ·rename_i f j
    rw[j]
    dsimp only
    split at h
    ·rename_i t m
     simp only[z0]at h
     simp only[m]
     exact h
    ·split at h<;>cases h
   ·cases h
   ·rename_i b i
    rw[i]
    dsimp only
    split at h
    ·cases h
    ·split at h<;>cases h
    ·simp only[z0]at h;exact h
theorem WQ(p:dW tm s){w:dv}{v:AV}{H':ai}
 (h:xV E pc tc dep draw (!(draw && !jj E o)) s H ⟨dep,o.dst.getD 0,H.gen dep (o.dst.getD 0),0⟩ o = .inr w) (u:w=some (v,H')):qi E pc tc dep draw tm H o=some (v,H'):=by
 subst u
 have e:=ya p
 unfold xV at h
 split at h<;>rename_i c
 all_goals try (simp only[reduceCtorEq]at h;done)
 all_goals try (simp only[B7]at h)
 all_goals try (refine Qg (by unfold ct;simp only[c,e]) h;done)
 ·rw[<-IQ p]at h
  exact nF (q:=ik _ _ _ _ _ _ _) (w:=kg _ _ _ _ _ _) (by unfold ct;simp only[c]) (by unfold evalW;simp only[c]) h
 ·rw[<-e]at h
  exact nF (q:=none) (w:=nc _ _ _ _ _) (by unfold ct;simp only[c]) (by unfold evalW;simp only[c]) h
 ·split at h
  ·simp only[B7]at h
   refine Qg (by unfold ct;simp only[c,e]) h
  ·cases h
 ·split at h<;>cases h
 ·split at h
  ·cases h
  ·rename_i args j
   have g:=j
   rw[<-GN,<-e]at g
   split at h
   ·rename_i f n
    split at h
    ·cases h
    ·rename_i m
     split at h
     ·rename_i d
      simp only[B7]at h
      rw[<-e]at h
      exact nF (q:=(kn _ _ _ _ _ _).map _) (w:=p8 true _ _ (mT _ _ _ _ _ _ _)) (by unfold ct;simp only[c,g,n,m,d]) (by unfold evalW;simp only[c,g,n,d]) h
     ·rename_i d
      simp only[B7]at h
      rw[<-e]at h
      exact nF (q:=kn _ _ _ _ _ _) (w:=mT _ _ _ _ _ _ _) (by unfold ct;simp only[c,g,n,m,d,Ay];cases kn E pc H.get _ (aM tm f) args<;>rfl) (by unfold evalW;simp only[c,g,n,d];rfl) h
   ·cases h
   ·rename_i b l
    split at h
    ·simp only[B7]at h
     exact nF (q:=jv _ _ _ _ _ _ _) (w:=mI _ _ _ _ _ _) (by unfold ct;simp only[c,g,l];rfl) (by unfold evalW;simp only[c,g,l]) h
    ·split at h
     ·rename_i i
      simp only[B7]at h
      exact nF (q:=none) (w:=FQ _ _ _ _ _) (by unfold ct;simp only[c,g,l];rfl) (by unfold evalW;simp only[c,g,l,i,cond_true]) h
     ·rename_i i
      simp only[B7]at h
      exact nF (q:=none) (w:=KZ _ _ _ _ _) (by unfold ct;simp only[c,g,l];rfl) (by unfold evalW;simp only[c,g,l,i,cond_false]) h
    ·cases h
 ·rw[<-e]at h
  exact nF (q:=none) (w:=dM _ _ _ _ _ _) (by unfold ct;simp only[c]) (by unfold evalW;simp only[c]) h
 ·rw[<-e]at h
  exact nF (q:=none) (w:=dM _ _ _ _ _ _) (by unfold ct;simp only[c]) (by unfold evalW;simp only[c]) h
 ·rw[<-e]at h
  exact nF (q:=none) (w:=iH _ _ _ _ _) (by unfold ct;simp only[c]) (by unfold evalW;simp only[c]) h
 ·rw[<-e]at h
  exact nF (q:=none) (w:=fD _ _ _ _) (by unfold ct;simp only[c]) (by unfold evalW;simp only[c]) h
 ·rw[<-e]at h
  exact nF (q:=none) (w:=sD _ _ _ _ _) (by unfold ct;simp only[c]) (by unfold evalW;simp only[c]) h
 ·rw[<-e]at h
  exact nF (q:=none) (w:=Bj _ _ _) (by unfold ct;simp only[c]) (by unfold evalW;simp only[c]) h
 ·rw[<-e]at h
  exact nF (q:=none) (w:=zx _ _ _ _ _) (by unfold ct;simp only[c]) (by unfold evalW;simp only[c]) h
end
open Classical in
noncomputable def aF(E:Env)(f:FuncId)(args:List AV):Option AV:=
 if h : ∃y n,∀m,n<=m->dq E (cp E m) f args=some y then some h.choose else none
theorem A2{E:Env}{f:FuncId}{args:List AV}{y:AV}:aF E f args=some y ↔ ∃n,∀m,n<=m->dq E (cp E m) f args=some y:=by
 unfold aF
 constructor
 ·intro h
  split at h
  ·rename_i d
   simp only[dR]at h
   rw[<-h]
   exact d.choose_spec
  ·cases h
 ·intro h
  rw[dif_pos ⟨y,h⟩]
  obtain⟨n,e⟩:=h
  have d : ∃y n,∀m,n<=m->dq E (cp E m) f args=some y:=⟨y,n,e⟩
  obtain⟨g,c⟩:=d.choose_spec
  have i:=e (max n g) (Nat.le_max_left ..)
  have j:=c (max n g) (Nat.le_max_right ..)
  exact j.symm.trans i
open Classical in
noncomputable def cE(E:Env)(dep:Nat)(f:xd)(args:List AV)(H:ai):dv:=
 if h : ∃y n,∀m,n<=m->eS E (cp E m) dep f args H=some y then some h.choose else none
theorem wg{E:Env}{dep:Nat}{f:xd}{args:List AV}{H:ai}{y:AV × ai}:cE E dep f args H=some y ↔ ∃n,∀m,n<=m->eS E (cp E m) dep f args H=some y:=by
 unfold cE
 constructor
 ·intro h
  split at h
  ·rename_i d
   simp only[dR]at h
   rw[<-h]
   exact d.choose_spec
  ·cases h
 ·intro h
  rw[dif_pos ⟨y,h⟩]
  obtain⟨n,e⟩:=h
  have d : ∃y n,∀m,n<=m->eS E (cp E m) dep f args H=some y:=⟨y,n,e⟩
  obtain⟨g,c⟩:=d.choose_spec
  have i:=e (max n g) (Nat.le_max_left ..)
  have j:=c (max n g) (Nat.le_max_right ..)
  exact j.symm.trans i
theorem M6{E:Env}{d:Bool}{dep:Nat}{H H':ai}{r:Ref}{f:Option AV}{args:List AV}{v:AV}(h:bF E d (aF E) (cE E dep) H r f args=some (v,H')) :
 ∃n,∀m,n<=m->bF E d (dq E (cp E m)) (eS E (cp E m) dep) H r f args=some (v,H'):=by
 unfold bF at h ⊢
 by_cases j : ∃fi first captured,f=some (.fn (.func fi) first captured)
 ·obtain⟨fi,first,captured,rfl⟩:=j
  by_cases g:E.mode fi=2
  ·simp only[kn,mT,if_pos g,mz,EY]at h ⊢
   cases d with
   | true=>
    simp only[cond_true]at h ⊢
    obtain⟨n,e⟩:=wg.1 h
    exact⟨n,e⟩
   | false=>simp at h
  ·simp only[kn,mT,if_neg g]at h ⊢
   cases p:(first++args++captured).mapM (view H.get depth) with
   | none=>rw[p]at h;simp[mz,EY]at h
   | some xs=>
    rw[p]at h
    dsimp only at h ⊢
    cases c:aF E fi xs with
    | none=>rw[c]at h;simp[mz,EY]at h
    | some y=>
     rw[c]at h
     obtain⟨n,e⟩:=A2.1 c
     refine⟨n,λm l=>?_⟩
     rw[e m l]
     exact h
 ·have i : ∀pc,kn E pc H.get r f args=none:=by
   intro pc
   unfold kn
   split
   ·exact(j ⟨_,_,_,rfl⟩).elim
   ·rfl
  by_cases c : ∃q,f=some (.yld q)
  ·obtain⟨q,rfl⟩:=c
   rw[i]at h
   cases d with
   | false=>simp[mz,EY]at h
   | true=>
    have u:cE E dep (.yld q) args H=some (v,H'):=h
    obtain⟨n,e⟩:=wg.1 u
    refine⟨n,λm l=>?_⟩
    rw[i]
    exact e m l
  ·have g : ∀pc tc,mT E pc tc H r f args=none:=by
    intro pc tc
    unfold mT
    split
    ·exact(j ⟨_,_,_,rfl⟩).elim
    ·exact(c ⟨_,rfl⟩).elim
    ·rfl
   rw[i,g]at h
   cases d<;>simp[mz,EY]at h
theorem FO{sm:Nk}{H H':ai}{x:dv}{v:AV}(h:p8 true sm H x=some (v,H')) : ∃c,x=some (v,c)/\H'=H/\flat depth v=true/\(GX H c||sm.f H c)=true:=by
 cases x with
 | none=>simp[p8]at h
 | some p=>
  obtain⟨y,c⟩:=p
  unfold p8 at h
  simp only at h
  split at h
  ·rename_i d
   cases h
   rw[aZ]at d
   exact⟨c,rfl,rfl,d.1,d.2⟩
  ·cases h
theorem KB{E:Env}{e:Bool}{dep:Nat}{H H':ai}{r:Ref}{f:Option AV}{args:List AV}{v:AV}(h:mY E e (aF E) (cE E dep) H r f args=some (v,H')) :
 ∃n,∀m,n<=m->mY E e (dq E (cp E m)) (eS E (cp E m) dep) H r f args=some (v,H'):=by
 unfold mY at h ⊢
 by_cases u : ∃fi first captured,f=some (.fn (.func fi) first captured)
 ·obtain⟨fi,first,captured,rfl⟩:=u
  by_cases j:E.mode fi=2
  ·simp only[kn,mT,if_pos j,mz,EY,Ek]at h ⊢
   cases e with
   | true=>
    simp only[cond_true]at h ⊢
    obtain⟨H1,d,z,B,A⟩:=FO h
    obtain⟨n,g⟩:=wg.1 d
    refine⟨n,λm i=>?_⟩
    rw[g m i]
    rw[d]at h
    exact h
   | false=>simp at h
  ·simp only[kn,mT,if_neg j]at h ⊢
   cases w:(first++args++captured).mapM (view H.get depth) with
   | none=>rw[w]at h;simp[mz,EY,p8]at h
   | some xs=>
    rw[w]at h
    dsimp only at h ⊢
    cases c:aF E fi xs with
    | none=>rw[c]at h;simp[mz,EY,p8]at h
    | some y=>
     rw[c]at h
     obtain⟨n,g⟩:=A2.1 c
     refine⟨n,λm i=>?_⟩
     rw[g m i]
     exact h
 ·have l : ∀pc,kn E pc H.get r f args=none:=by
   intro pc
   unfold kn
   split
   ·exact(u ⟨_,_,_,rfl⟩).elim
   ·rfl
  by_cases c : ∃q,f=some (.yld q)
  ·obtain⟨q,rfl⟩:=c
   rw[l]at h
   cases e with
   | false=>simp[mz,EY]at h
   | true=>
    have p:p8 true E.sm H (cE E dep (.yld q) args H)=some (v,H'):=h
    obtain⟨H1,d,_⟩:=FO p
    obtain⟨n,g⟩:=wg.1 d
    refine⟨n,λm i=>?_⟩
    rw[l]
    show p8 true E.sm H (eS E (cp E m) dep (.yld q) args H)=_
    rw[g m i]
    rw[d]at p
    exact p
  ·have j : ∀pc tc,mT E pc tc H r f args=none:=by
    intro pc tc
    unfold mT
    split
    ·exact(u ⟨_,_,_,rfl⟩).elim
    ·exact(c ⟨_,rfl⟩).elim
    ·rfl
   rw[l,j]at h
   cases e<;>simp[mz,EY,p8]at h
theorem IS{E:Env}{dep:Nat}{draw j:Bool}{s:dI}{H:ai}{r:Ref}{o:Oper} :
 (∀q v,xV E (aF E) (cE E dep) dep draw j s H r o = .inl q->q=some (v,[]) ->∃n,∀m,n<=m->xV E (dq E (cp E m)) (eS E (cp E m) dep) dep draw j s H r o = .inl (some (v,[]))) /\
 (∀w v H',xV E (aF E) (cE E dep) dep draw j s H r o = .inr w->w=some (v,H') ->∃n,∀m,n<=m->xV E (dq E (cp E m)) (eS E (cp E m) dep) dep draw j s H r o = .inr (some (v,H'))):=by
 constructor
 ·intro q v h z
  subst z
  refine⟨0,λm _=>?_⟩
  unfold xV at h ⊢
  generalize o.op=op at h ⊢
  cases op
  all_goals try exact h
  case makeMap a b=>cases b<;>exact h
  rename_i c
  dsimp only at h ⊢
  cases g:CW (cK s) c.args.toList with
  | none=>rw[g]at h;exact h
  | some args=>
   rw[g]at h
   dsimp only at h ⊢
   cases e:c.callee with
   | value f=>
    rw[e]at h
    dsimp only at h ⊢
    cases d:Ew E.tZ draw f with
    | some t=>rw[d]at h;exact h
    | none=>rw[d]at h;dsimp only at h;split at h<;>cases h
   | invoke a b=>rw[e]at h;exact h
   | builtin b=>rw[e]at h;exact h
 ·intro w v H' h u
  subst u
  unfold xV at h ⊢
  generalize o.op=op at h ⊢
  cases op
  all_goals try (exact⟨0,λm _=>h⟩)
  case makeMap a b=>cases b<;>exact⟨0,λm _=>h⟩
  rename_i c
  dsimp only at h ⊢
  cases g:CW (cK s) c.args.toList with
  | none=>rw[g]at h;cases h
  | some args=>
   rw[g]at h
   dsimp only at h ⊢
   cases e:c.callee with
   | value f=>
    rw[e]at h
    dsimp only at h ⊢
    cases d:Ew E.tZ draw f with
    | some t=>rw[d]at h;cases h
    | none=>
    rw[d]at h
    dsimp only at h ⊢
    cases i:E.k8 o with
    | true=>
     rw[i]at h
     simp only[B7]at h
     obtain⟨n,l⟩:=KB h
     exact⟨n,λm p=>congrArg _ (l m p)⟩
    | false=>
     rw[i]at h
     simp only[B7]at h
     obtain⟨n,l⟩:=M6 h
     exact⟨n,λm p=>congrArg _ (l m p)⟩
   | invoke a b=>rw[e]at h;cases h
   | builtin b=>rw[e]at h;exact⟨0,λm _=>h⟩
abbrev Mk{α:Type}(a:α):Type:=Unit
structure hZ (q:jh) (K:AV->Prop) (m:Mk K:=()):Prop where
 h : ∃v,q=some (v,[])/\K v
structure lQ (w:dv) (K:AV->ai->Prop) (m:Mk K:=()):Prop where
 h : ∃v H,w=some (v,H)/\K v H
def XU(x:AV)(c:Bool):Option Bool:=
 match x with
 | .v (.bool b)=>some (b == c)
 | .v (.tuple d)=>if d.isEmpty then some false else none
 | _=>none
def gd(x:AV)(c:Bool)(A B:Prop):Prop:=
 match XU x c with
 | some true=>A
 | some false=>B
 | none=>False
structure gQ (x:AV) (want:Bool) (q:jh) (K:AV->Prop) (m:Mk (q,K):=()):Prop where
 h:gd x want (hZ q K) (K AV.undef)
structure gW (x:AV) (want:Bool) (H:ai) (w:dv) (K:AV->ai->Prop) (m:Mk (w,K):=()):Prop where
 h:gd x want (lQ w K) (K AV.undef H)
def brP(x:Option AV)(A B:Prop):Prop:=
 match x.bind Ec with
 | some b=>cond b A B
 | none=>False
structure br (x:Option AV) (A B:Prop) (m:Mk (A,B):=()):Prop where
 h:brP x A B
def Kr(ops:Array Oper)(s:dI)(o:Oper):Option (Option (AV × Bool)):=
 match o.guard with
 | none=>none
 | some (j,want)=>match (ops[j]?).bind (·.dst) with
  | some t=>some (some (s t,want))
  | none=>some none
def HQ(nt:Nat)(s:dI)(c:Option Tmp)(v:AV)(K:dI->Prop):Prop:=
 match c with
 | none=>K s
 | some d=>cond (Nat.blt d nt) (K (D1 s d v)) False
def wpOp(E:Env)(nt dep:Nat)(draw:Bool)(ops:Array Oper)(o:Oper)(s:dI)(H:ai)(K:dI->ai->Prop):Prop:=
 match xV E (aF E) (cE E dep) dep draw (!(draw && !jj E o)) s H ⟨dep,o.dst.getD 0,H.gen dep (o.dst.getD 0),0⟩ o with
 | .inl q=>match Kr ops s o with
  | none=>(match o.op with
   | .move x | .assign x=>(match cK s x with
    | some v=>HQ nt s o.dst v λs=>K s H
    | none=>False)
   | _=>hZ q λv=>HQ nt s o.dst v λs=>K s H)
  | some (some (x,want))=>gQ x want q λv=>HQ nt s o.dst v λs=>K s H
  | some none=>HQ nt s o.dst AV.undef λs=>K s H
 | .inr w=>match Kr ops s o with
  | none=>lQ w λv H=>HQ nt s o.dst v λs=>K s H
  | some (some (x,want))=>gW x want H w λv H=>HQ nt s o.dst v λs=>K s H
  | some none=>HQ nt s o.dst AV.undef λs=>K s H
def wpOps(E:Env)(nt dep:Nat)(draw:Bool)(ops:Array Oper):List Oper->dI->ai->(dI->ai->Prop)->Prop
 | [],s,H,K=>K s H
 | o :: os,s,H,K=>wpOp E nt dep draw ops o s H λs H=>wpOps E nt dep draw ops os s H K
def Fin(E:Env)(fn:Func)(rd:Option Ref)(o:Option St)(y:AV)(H':ai):Prop:=match rd with
 | none =>∃st,o=some st/\uU E.P fn st=some y/\st.hp=H'
 | some r =>∃st n,o=wX (some r) st n/\y = .v (.int .i64 (n:Nat))/\st.hp=H'
def Goes(E:Env)(fn:Func)(rd:Option Ref)(dep:Nat)(c:List Item)(s:dI)(H:ai)(Q:AV->ai->Prop):Prop:=
 ∀tm,dW tm s ->∃y H',Q y H' /\∃n,∀m,n<=m->Fin E fn rd (cp E m rd fn.ntmps dep c ⟨tm,H⟩) y H'
def L3(g:dI):List (Nat × AV)->dI
 | [],i=>g i
 | (j,v) :: l,i=>cond (Nat.beq i j) v (L3 g l i)
structure XE (E:Env) (fn:Func) (rd:Option Ref) (dep:Nat) (items:List Item) (l:List (Nat × AV)) (H:ai) (Q:AV->ai->Prop):Prop where
 h : ∀g,Goes E fn rd dep items (L3 g l) H Q
abbrev bB(E:Env)(fn:Func)(dep:Nat)(c:List Item)(l:List (Nat × AV))(H:ai)(Q:AV->ai->Prop):Prop:=XE E fn none dep c l H Q
def CD(s:dI):List Nat->List (Nat × AV)
 | []=>[]
 | t :: c=>(t,s t) :: CD s c
theorem Ug(s:dI)(l:List Nat):L3 s (CD s l)=s:=by
 induction l with
 | nil=>rfl
 | cons t l c=>
  funext i
  show cond (Nat.beq i t) (s t) (L3 s (CD s l) i)=s i
  rw[c]
  cases h:Nat.beq i t with
  | true=>rw[kf h];rfl
  | false=>rfl
def la:Code->Option Nat
 | .region id _ _=>some id
 | .seq a b=>match la a with
  | some i=>some i
  | none=>la b
 | .cond _ a b=>match la a with
  | some i=>some i
  | none=>la b
 | .block _ c | .loop c | .scope c=>la c
 | _=>none
def Ai(P:Program)(H:ai)(x:AV)(t:TypeId):jh:=
 match x,dB P t,aJ P t with
 | .ptr r i j,some g,some n=>match H.get r with
  | some b=>jK (bW b.es i j n g)
  | none=>none
 | _,_,_=>none
def pack:List AV->AV
 | [] => .v (.tuple #[])
 | [x]=>x
 | xs => .tup xs
def FN(P:Program)(s:dI)(H:ai)(Q:AV->ai->Prop):List ResultVar->List AV->Prop
 | [],acc=>Q (pack acc.reverse) H
 | .tmp t :: rs,acc=>FN P s H Q rs (s t :: acc)
 | .cell a t :: rs,acc=>hZ (Ai P H (s a) t) λv=>FN P s H Q rs (v :: acc)
def qR(x y:AV):Bool:=match ju x,ju y with
 | some r,some r'=>decide (r≠r')
 | _,_=>true
def wT(H:ai)(x:AV):Bool:=match x with
 | .ptr r _ _=>(match H.get r with
  | some b => !b.arr
  | none=>false)
 | _=>true
def bsV(x:AV):Bool:=match x with
 | .cC .. => true
 | .v _=>true
 | _=>false
def TJ(s:dI)(p:Tmp × Tmp):Bool:=qR (s p.1) (s p.2)
def Gi(s:dI)(H:ai)(o:Oper):Bool:=match o.op with
 | .store _ (.tmp t) _=>wT H (s t)
 | _=>true
def Qn(E:Env)(s:dI)(o:Oper):Bool := !(E.k8 o&&Bb o.op)||(match Y1 o.op with
 | some t=>bsV (s t)
 | none=>false)
def Vn(E:Env)(l:List (Tmp × Tmp))(ops:Array Oper)(s:dI)(H:ai):Prop:=l.all (TJ s)=true/\ops.toList.all (Gi s H)=true/\ops.toList.all (Qn E s)=true
def mQ(l:List (AV × AV))(st c:List AV)(H:ai):Prop:=(l.all λp=>qR p.1 p.2)=true/\st.all (wT H)=true/\c.all bsV=true
def X4(assign body:Code):Nat:=match la (.seq assign body) with
 | some i=>i+10000
 | none=>10000
structure bgP (o:Option (Nat × AV)) (K:AV->Prop) (m:Mk K:=()):Prop where
 h : ∃info,o=some (0,info)/\K info
def KV(P:Program)(fn:Func)(rd:Option Ref)(c:Nat)(s:dI)(H:ai)(Q:AV->ai->Prop):Prop:=match rd with
 | none=>cond (Nat.ble c 2) (FN P s H Q fn.results.toList []) False
 | some _=>Q (.v (.int .i64 c)) H
def wp(E:Env)(fn:Func)(rd:Option Ref)(dep:Nat)(live:Nat->Option (List Nat))(cut:Nat->Bool)(Q:AV->ai->Prop):Nat->List Item->dI->ai->Prop
 | 0,items,s,H=>Goes E fn rd dep items s H Q
 | n+1,items,s,H=>
  match items with
  | []=>KV E.P fn rd 0 s H Q
  | .beginRound :: k=>(match rd with
   | none=>False
   | some r=>bgP (yZ H r) λd=>wp E fn rd dep live cut Q n k s (H.put r (some (kz 1 d))))
  | .code c :: k=>
   (match c with
   | .skip | .label _=>wp E fn rd dep live cut Q n k s H
   | .ret=>KV E.P fn rd 2 s H Q
   | .seq a b=>wp E fn rd dep live cut Q n (.code a :: .code b :: k) s H
   | .cond c a b=>br (cK s c) (wp E fn rd dep live cut Q n (.code a :: k) s H) (wp E fn rd dep live cut Q n (.code b :: k) s H)
   | .block id b=>wp E fn rd dep live cut Q n (.code b :: .inBlock id :: k) s H
   | .scope b=>wp E fn rd dep live cut Q n (.code b :: .inScope b :: k) s H
   | .loop b=>(match (la b).bind live with
    | some l=>XE E fn rd dep (.inLoop b :: k) (CD s l) H Q
    | none=>Goes E fn rd dep (.inLoop b :: k) s H Q)
   | .exit id=>(match exitTo id k with
    | some k'=>wp E fn rd dep live cut Q n k' s H
    | none=>KV E.P fn rd (id+3) s H Q)
   | .rangeFunc g ps a b=>(match live (X4 a b) with
    | some l=>XE E fn rd dep (.code (.rangeFunc g ps a b) :: k) (CD s l) H Q
    | none=>Goes E fn rd dep (.code (.rangeFunc g ps a b) :: k) s H Q)
   | .region id ops draw=>(match cut id with
    | true=>(match live id with
     | some l=>XE E fn rd dep (.code (.region id ops draw) :: k) (CD s l) H Q
     | none=>False)
    | false=>wpOps E fn.ntmps dep draw ops ops.toList s H λs H=>
     (match draw,rB E ops with
     | true,p :: ps=>Vn E (p :: ps) ops s H/\wp E fn rd dep live cut Q n k s H
     | _,_=>wp E fn rd dep live cut Q n k s H))
   | _=>False)
  | .inLoop b :: k=>(match (la b).bind live with
   | some l=>XE E fn rd dep (.inLoop b :: k) (CD s l) H Q
   | none=>Goes E fn rd dep (.inLoop b :: k) s H Q)
  | .inBlock _ :: k | .inScope _ :: k=>wp E fn rd dep live cut Q n k s H
  | _=>False
theorem sY{ops:Array Oper}{tm:List AV}{s:dI}(h:dW tm s)(o:Oper):wanted ops tm o=(match Kr ops s o with
 | none=>some true
 | some (some (x,c))=>XU x c
 | some none=>some false):=by
 unfold wanted Kr
 split
 ·rename_i d;rw[d]
 ·rename_i j c d
  rw[d]
  dsimp only
  split
  ·rename_i t e
   rw[e]
   dsimp only
   rw[h t]
   rfl
  ·rename_i e
   rw[e]
theorem wa{nt:Nat}{s:dI}{c:Option Tmp}{v:AV}{K:dI->Prop}(h:HQ nt s c v K) : ∃i,K i /\∀tm,dW tm s ->∃tm',dn nt tm c v=some tm'/\dW tm' i:=by
 unfold HQ at h
 cases c with
 | none=>exact⟨s,h,λtm f=>⟨tm,rfl,f⟩⟩
 | some d=>
  dsimp only at h
  cases g:Nat.blt d nt with
  | false=>rw[g]at h;exact h.elim
  | true=>
   rw[g]at h
   refine⟨_,h,λtm f=>⟨_,?_,f.set d v⟩⟩
   have e:d<nt:=Ip g
   simp only[dn,if_pos e]
theorem VO{E:Env}{nt dep:Nat}{draw:Bool}{ops:Array Oper}{o:Oper}{s:dI}{H:ai}{K:dI->ai->Prop}(h:wpOp E nt dep draw ops o s H K) :
 ∃c H',K c H' /\∀tm,dW tm s ->∃tm',dW tm' c /\∃n,∀m,n<=m->evalOp E (dq E (cp E m)) (eS E (cp E m) dep) nt dep draw ops o ⟨tm,H⟩=some ⟨tm',H'⟩:=by
 have run : ∀(v:AV)(H':ai)(c:dI),(∀tm,dW tm s->wanted ops tm o=some true)->(∃n,∀m,n<=m ->∀tm,dW tm s->qi E (dq E (cp E m)) (eS E (cp E m) dep) dep draw tm H o=some (v,H')) ->
  (∀tm,dW tm s ->∃tm',dn nt tm o.dst v=some tm'/\dW tm' c) ->
  ∀tm,dW tm s ->∃tm',dW tm' c /\∃n,∀m,n<=m->evalOp E (dq E (cp E m)) (eS E (cp E m) dep) nt dep draw ops o ⟨tm,H⟩=some ⟨tm',H'⟩:=by
  intro v H' c l ⟨n,B⟩ hp tm d
  obtain⟨tm',F,G⟩:=hp tm d
  refine⟨tm',G,n,λm C=>?_⟩
  rw[G5]
  dsimp only
  rw[l tm d,B m C tm d]
  dsimp only
  rw[F]
  rfl
 have i : ∀(c:dI),(∀tm,dW tm s->wanted ops tm o=some false)->(∀tm,dW tm s ->∃tm',dn nt tm o.dst AV.undef=some tm'/\dW tm' c) ->
  ∀tm,dW tm s ->∃tm',dW tm' c /\∃n,∀m,n<=m->evalOp E (dq E (cp E m)) (eS E (cp E m) dep) nt dep draw ops o ⟨tm,H⟩=some ⟨tm',H⟩:=by
  intro c l hp tm d
  obtain⟨tm',F,G⟩:=hp tm d
  refine⟨tm',G,0,λm _=>?_⟩
  rw[G5]
  dsimp only
  rw[l tm d]
  dsimp only
  rw[F]
  rfl
 unfold wpOp at h
 split at h
 ·rename_i q u
  have A : ∀v,q=some (v,[]) ->∃n,∀m,n<=m ->∀tm,dW tm s->qi E (dq E (cp E m)) (eS E (cp E m) dep) dep draw tm H o=some (v,H):=by
   intro v e
   obtain⟨n,B⟩:=IS.1 q v u e
   exact⟨n,λm C tm d=>WR d (B m C) rfl⟩
  split at h
  ·rename_i j
   have l : ∀tm,dW tm s->wanted ops tm o=some true:=λtm d=>by rw[sY d,j]
   have g : ∀v,q=some (v,[])->HQ nt s o.dst v (λs=>K s H) ->∃c H',K c H' /\∀tm,dW tm s ->∃tm',dW tm' c /\∃n,∀m,n<=m->evalOp E (dq E (cp E m)) (eS E (cp E m) dep) nt dep draw ops o ⟨tm,H⟩=some ⟨tm',H'⟩:=by
    intro v e hp
    obtain⟨c,f,hp⟩:=wa hp
    exact⟨c,H,f,run v H c l (A v e) hp⟩
   split at h
   ·rename_i x I
    split at h
    ·rename_i v e
     refine g v ?_ h
     unfold xV at u
     simp only[I,z0,e]at u
     rw[<-u];rfl
    ·exact h.elim
   ·rename_i x I
    split at h
    ·rename_i v e
     refine g v ?_ h
     unfold xV at u
     simp only[I,z0,e]at u
     rw[<-u];rfl
    ·exact h.elim
   ·obtain⟨v,e,h⟩:=h.h
    exact g v e h
  ·rename_i x D j
   replace h:=h.h
   unfold gd at h
   split at h
   ·rename_i p
    obtain⟨v,e,h⟩:=h.h
    obtain⟨c,f,hp⟩:=wa h
    exact⟨c,H,f,run v H c (λtm d=>by rw[sY d,j];exact p) (A v e) hp⟩
   ·rename_i p
    obtain⟨c,f,hp⟩:=wa h
    exact⟨c,H,f,i c (λtm d=>by rw[sY d,j];exact p) hp⟩
   ·exact h.elim
  ·rename_i j
   obtain⟨c,f,hp⟩:=wa h
   exact⟨c,H,f,i c (λtm d=>by rw[sY d,j]) hp⟩
 ·rename_i w l
  have z : ∀v H',w=some (v,H') ->∃n,∀m,n<=m ->∀tm,dW tm s->qi E (dq E (cp E m)) (eS E (cp E m) dep) dep draw tm H o=some (v,H'):=by
   intro v H' e
   obtain⟨n,B⟩:=IS.2 w v H' l e
   exact⟨n,λm C tm d=>WQ d (B m C) rfl⟩
  split at h
  ·rename_i j
   obtain⟨v,H',e,h⟩:=h.h
   obtain⟨c,f,hp⟩:=wa h
   exact⟨c,H',f,run v H' c (λtm d=>by rw[sY d,j]) (z v H' e) hp⟩
  ·rename_i x D j
   replace h:=h.h
   unfold gd at h
   split at h
   ·rename_i p
    obtain⟨v,H',e,h⟩:=h.h
    obtain⟨c,f,hp⟩:=wa h
    exact⟨c,H',f,run v H' c (λtm d=>by rw[sY d,j];exact p) (z v H' e) hp⟩
   ·rename_i p
    obtain⟨c,f,hp⟩:=wa h
    exact⟨c,H,f,i c (λtm d=>by rw[sY d,j];exact p) hp⟩
   ·exact h.elim
  ·rename_i j
   obtain⟨c,f,hp⟩:=wa h
   exact⟨c,H,f,i c (λtm d=>by rw[sY d,j]) hp⟩
theorem KU{E:Env}{nt dep:Nat}{draw:Bool}{ops:Array Oper}{K:dI->ai->Prop} : ∀ {l:List Oper} {s:dI} {H:ai},wpOps E nt dep draw ops l s H K ->
 ∃g H',K g H' /\∀tm,dW tm s ->∃tm',dW tm' g /\∃n,∀m,n<=m->ng E (dq E (cp E m)) (eS E (cp E m) dep) nt dep draw ops l ⟨tm,H⟩=some ⟨tm',H'⟩:=by
 intro l
 induction l with
 | nil=>intro s H h;exact⟨s,H,h,λtm e=>⟨tm,e,0,λm _=>rfl⟩⟩
 | cons o l u=>
  intro s H h
  obtain⟨s1,H1,p,c⟩:=VO h
  obtain⟨s2,v,q,f⟩:=u p
  refine⟨s2,v,q,λtm e=>?_⟩
  obtain⟨tm1,t1,n1,j⟩:=c tm e
  obtain⟨d,t2,n2,i⟩:=f tm1 t1
  exact⟨d,t2,max n1 n2,λm w=>by simp only[ng,j m (by omega),i m (by omega)]⟩
theorem Sw{P:Program}{fn:Func}{s:dI}{H:ai}{Q:AV->ai->Prop} : ∀ {rs:List ResultVar} {c:List AV},FN P s H Q rs c ->
 ∃ys,Q (pack (c.reverse++ys)) H /\∀tm,dW tm s->rs.mapM (ky P ⟨tm,H⟩)=some ys:=by
 intro rs
 induction rs with
 | nil=>intro c h;exact⟨[],by simpa [FN] using h,λtm _=>rfl⟩
 | cons r rs p=>
  intro c h
  cases r with
  | tmp t=>
   obtain⟨ys,m,l⟩:=p h
   refine⟨s t :: ys,by simpa using m,λtm f=>?_⟩
   simp only[lX,ky,l tm f,f t,sW,tM,fy]
  | cell a t=>
   obtain⟨v,d,h⟩:=h.h
   obtain⟨ys,m,l⟩:=p h
   refine⟨v :: ys,by simpa using m,λtm f=>?_⟩
   have q:ky P ⟨tm,H⟩ (.cell a t)=some v:=by
    unfold Ai at d
    simp only[ky,f a]
    split at d
    ·rename_i r i j g n B A C
     rw[B,A,C]
     dsimp only
     split at d
     ·rename_i b w
      rw[w]
      dsimp only
      simp only[jK,bO]at d
      obtain⟨z,u,e⟩:=d
      cases e
      exact u
     ·cases d
    ·cases d
   simp only[lX,q,l tm f,sW,tM,fy]
theorem LC{E:Env}{fn:Func}{s:dI}{H:ai}{Q:AV->ai->Prop}(h:FN E.P s H Q fn.results.toList []) : ∃y,Q y H /\∀tm,dW tm s->uU E.P fn ⟨tm,H⟩=some y:=by
 obtain⟨ys,e,d⟩:=Sw (fn:=fn) h
 refine⟨pack ys,by simpa using e,λtm c=>?_⟩
 unfold uU
 rw[d tm c]
 match ys with
 | []=>rfl
 | [x]=>rfl
 | x :: y :: zs=>rfl
theorem oI{E:Env}{fn:Func}{rd:Option Ref}{dep:Nat}{d c:List Item}{s:dI}{H:ai}{Q:AV->ai->Prop}
 (e : ∀n tm,cp E (n+1) rd fn.ntmps dep d ⟨tm,H⟩=cp E n rd fn.ntmps dep c ⟨tm,H⟩) (h:Goes E fn rd dep c s H Q):Goes E fn rd dep d s H Q:=by
 intro tm i
 obtain⟨y,H',g,n,f⟩:=h tm i
 refine⟨y,H',g,n+1,λm l=>?_⟩
 obtain⟨m,rfl⟩ : ∃j,m=j+1:=⟨m - 1,by omega⟩
 rw[e]
 exact f m (by omega)
theorem RQ{E:Env}{fn:Func}{rd:Option Ref}{dep:Nat}{b:Code}{k:List Item}{s:dI}{H:ai}{Q:AV->ai->Prop}(h:Goes E fn rd dep (.code b :: .inLoop b :: k) s H Q):Goes E fn rd dep (.inLoop b :: k) s H Q:=
 oI (λn tm=>by simp only[cp]) h
theorem O0{E:Env}{fn:Func}{rd:Option Ref}{dep:Nat}{b:Code}{k:List Item}{s:dI}{H:ai}{Q:AV->ai->Prop}(h:Goes E fn rd dep (.inLoop b :: k) s H Q):Goes E fn rd dep (.code (.loop b) :: k) s H Q:=by
 intro tm d
 obtain⟨y,H',f,n,c⟩:=h tm d
 refine⟨y,H',f,n+1,λm i=>?_⟩
 obtain⟨m,rfl⟩ : ∃g,m=g+1:=⟨m - 1,by omega⟩
 have:=c (m+1) (by omega)
 have e:cp E (m+1) rd fn.ntmps dep (.code (.loop b) :: k) ⟨tm,H⟩=cp E (m+1) rd fn.ntmps dep (.inLoop b :: k) ⟨tm,H⟩:=by simp only[cp]
 rw[e]
 exact this
theorem I8{E:Env}{fn:Func}{rd:Option Ref}{dep:Nat}{c:List Item}{s:dI}{l:List Nat}{H:ai}{Q:AV->ai->Prop}(h:XE E fn rd dep c (CD s l) H Q):Goes E fn rd dep c s H Q:=by
 have:=h.h s
 rwa [Ug]at this
theorem G0{E:Env}{fn:Func}{rd:Option Ref}{dep c:Nat}{d:List Item}{s:dI}{H:ai}{Q:AV->ai->Prop}
 (g : ∀n tm,rd.isSome=true\/c<=2->cp E (n+1) rd fn.ntmps dep d ⟨tm,H⟩=(match rd with | none=>some ⟨tm,H⟩ | some r=>wX (some r) ⟨tm,H⟩ c)) (h:KV E.P fn rd c s H Q):Goes E fn rd dep d s H Q:=by
 intro tm l
 cases rd with
 | none=>
  unfold KV at h
  dsimp only at h
  cases e:Nat.ble c 2 with
  | false=>rw[e]at h;exact h.elim
  | true=>
   rw[e]at h
   obtain⟨y,j,i⟩:=LC h
   refine⟨y,H,j,1,λm p=>?_⟩
   obtain⟨m,rfl⟩ : ∃f,m=f+1:=⟨m - 1,by omega⟩
   exact⟨⟨tm,H⟩,g m tm (.inr (Ip e)),i tm l,rfl⟩
 | some r=>
  refine⟨.v (.int .i64 c),H,h,1,λm p=>?_⟩
  obtain⟨m,rfl⟩ : ∃f,m=f+1:=⟨m - 1,by omega⟩
  exact⟨⟨tm,H⟩,c,g m tm (.inl rfl),rfl,rfl⟩
theorem R9{E:Env}{ops:Array Oper}{s:dI}{H:ai}{tm:List AV}(c:dW tm s)(h:Vn E (rB E ops) ops s H):sT E ops ⟨tm,H⟩=true:=by
 unfold sT
 rw[ff,aZ]
 refine .inr ⟨?_,?_⟩
 ·refine Eq.trans ?_ h.1
  congr 1
  funext p
  unfold Et TJ qR
  rw[c,c]
  rfl
 ·rw[aZ]
  refine⟨Eq.trans ?_ h.2.1,Eq.trans ?_ h.2.2⟩
  ·congr 1
   funext o
   unfold xM Gi
   generalize o.op=op
   cases op<;>try rfl
   rename_i t a x
   cases a<;>try rfl
   rename_i t'
   dsimp only
   rw[c t']
   rfl
  ·congr 1
   funext o
   unfold Hi Qn
   congr 1
   cases Y1 o.op with
   | none=>rfl
   | some t=>
    dsimp only
    rw[c t]
    rfl
theorem FM{E:Env}{fn:Func}{rd:Option Ref}{dep:Nat}{live:Nat->Option (List Nat)}{cut:Nat->Bool}{Q:AV->ai->Prop} : ∀ {n:Nat} {d:List Item} {s:dI} {H:ai},
 wp E fn rd dep live cut Q n d s H->Goes E fn rd dep d s H Q:=by
 intro n
 induction n with
 | zero=>intro d s H h;exact h
 | succ n f=>
  intro d s H h
  have g : ∀ {k:List Item} {x:Option (List Nat)},(match x with | some l=>XE E fn rd dep k (CD s l) H Q | none=>Goes E fn rd dep k s H Q)->Goes E fn rd dep k s H Q:=by
   intro k x h
   cases x with
   | some l=>exact I8 h
   | none=>exact h
  unfold wp at h
  split at h
  ·exact G0 (λn tm _=>by cases rd<;>simp only[cp]) h
  ·rename_i k
   split at h
   ·exact h.elim
   ·rename_i r
    obtain⟨info,K,h⟩:=h.h
    intro tm i
    obtain⟨y,H',u,n,z⟩:=f h tm i
    refine⟨y,H',u,n+1,λm G=>?_⟩
    obtain⟨m,rfl⟩ : ∃q,m=q+1:=⟨m - 1,by omega⟩
    have:=z m (by omega)
    have e:cp E (m+1) (some r) fn.ntmps dep (.beginRound :: k) ⟨tm,H⟩=cp E m (some r) fn.ntmps dep k ⟨tm,H.put r (some (kz 1 info))⟩:=by simp only[cp,K]
    rw[e]
    exact this
  ·rename_i c k
   split at h
   ·exact oI (λn tm=>by simp only[cp]) (f h)
   ·exact oI (λn tm=>by simp only[cp]) (f h)
   ·exact G0 (λn tm _=>by cases rd<;>simp[cp,wX]) h
   ·exact oI (λn tm=>by simp only[cp]) (f h)
   ·rename_i c a b
    replace h:=h.h
    unfold brP at h
    split at h
    ·rename_i v M
     have C:Goes E fn rd dep (.code (cond v a b) :: k) s H Q:=by cases v<;>exact f h
     intro tm i
     obtain⟨y,H',u,n,z⟩:=C tm i
     refine⟨y,H',u,n+1,λm G=>?_⟩
     obtain⟨m,rfl⟩ : ∃q,m=q+1:=⟨m - 1,by omega⟩
     have:=z m (by omega)
     have e:cp E (m+1) rd fn.ntmps dep (.code (.cond c a b) :: k) ⟨tm,H⟩=cp E m rd fn.ntmps dep (.code (cond v a b) :: k) ⟨tm,H⟩:=by
      simp only[cp,ya i,M]
      cases v<;>rfl
     rw[e]
     exact this
    ·exact h.elim
   ·exact oI (λn tm=>by simp only[cp]) (f h)
   ·exact oI (λn tm=>by simp only[cp]) (f h)
   ·exact O0 (g h)
   ·rename_i id
    split at h
    ·rename_i k' F
     exact oI (λn tm=>by simp only[cp,F]) (f h)
    ·rename_i F
     exact G0 (λn tm w=>by
      simp only[cp,F]
      cases rd with
      | none=>
       rcases w with w | w
       ·cases w
       ·omega
      | some r=>rfl) h
   ·exact g h
   ·rename_i id ops draw
    split at h
    ·split at h
     ·exact I8 h
     ·exact h.elim
    ·obtain⟨I,H',j,B⟩:=KU h
     have N:Goes E fn rd dep k I H' Q /\∀tm,dW tm I->(draw && !sT E ops ⟨tm,H'⟩)=false:=by
      cases draw with
      | false=>exact⟨f j,λ_ _=>rfl⟩
      | true=>
       cases hp:rB E ops with
       | nil=>
        rw[hp]at j
        refine⟨f j,λtm i=>?_⟩
        unfold sT
        rw[hp]
        rfl
       | cons p ps=>
        rw[hp]at j
        exact⟨f j.2,λtm i=>by rw[R9 i (by rw[hp];exact j.1)];rfl⟩
     obtain⟨C,A⟩:=N
     intro tm i
     obtain⟨tm1,t1,n1,J⟩:=B tm i
     obtain⟨y,L,u,n2,D⟩:=C tm1 t1
     refine⟨y,L,u,max n1 n2+1,λm G=>?_⟩
     obtain⟨m,rfl⟩ : ∃q,m=q+1:=⟨m - 1,by omega⟩
     have:=D m (by omega)
     have e:cp E (m+1) rd fn.ntmps dep (.code (.region id ops draw) :: k) ⟨tm,H⟩=cp E m rd fn.ntmps dep k ⟨tm1,H'⟩:=by
      simp only[cp,J m (by omega),A tm1 t1]
      simp
     rw[e]
     exact this
   ·exact h.elim
  ·exact g h
  ·exact oI (λn tm=>by simp only[cp]) (f h)
  ·exact oI (λn tm=>by simp only[cp]) (f h)
  ·exact h.elim
def vg:Nat->List AV->List (Nat × AV)
 | _,[]=>[]
 | i,x :: xs=>(i,x) :: vg (i+1) xs
theorem GH(args:List AV)(i:Nat):L3 (λ_=>AV.undef) (vg 0 args) i=cY args i:=by
 have : ∀(j:Nat)(l:List AV),L3 (λ_=>AV.undef) (vg j l) (j+i)=cY l i:=by
  induction i with
  | zero=>
   intro j l
   cases l with
   | nil=>rfl
   | cons x l=>
    show cond (Nat.beq (j+0) j) x _=x
    rw[show Nat.beq (j+0) j=true from by simp]
    rfl
  | succ i c=>
   intro j l
   cases l with
   | nil=>rfl
   | cons x l=>
    show cond (Nat.beq (j+(i+1)) j) x (L3 (λ_=>AV.undef) (vg (j+1) l) (j+(i+1)))=cY l i
    have e:Nat.beq (j+(i+1)) j=false:=by
     cases h:Nat.beq (j+(i+1)) j with
     | false=>rfl
     | true=>have:=kf h;omega
    rw[e]
    show L3 _ _ _=_
    rw[<-c (j+1) l,show j+1+i=j+(i+1) by omega]
 simpa using this 0 args
def handed(E:Env)(f:FuncId)(x:AV)(H:ai)(y:AV):Prop:=
 if At (E.mode f)=true then (ax H.get depth x).Nodup/\dL H.get depth x=some y else view H.get depth x=some y
theorem P2{E:Env}{f:FuncId}{fn:Func}{c:Code}{args:List AV}{y:AV}(j:E.spec f args=none)(g:E.allowed f=true)(u:E.P.funcs[f]?=some fn)(p:fn.body=some c)(z:Nat.ble args.length fn.ntmps=true)
 (h:bB E fn 0 [.code c] (vg 0 args) [] λx H=>handed E f x H y):aF E f args=some y:=by
 rw[A2]
 obtain⟨x,H,d,n,q⟩:=h.h (λ_=>AV.undef) args λi=>(GH args i).symm
 refine⟨n,λm w=>?_⟩
 obtain⟨st,e,l,v⟩:=q m w
 subst v
 unfold dq
 rw[j]
 unfold vd
 simp only[g,if_true,u,p,if_pos (Ip z),e,l,Option.map_some]
 unfold handed at d
 split
 ·rename_i e
  rw[if_pos e]at d
  rw[if_pos d.1]
  exact d.2
 ·rename_i e
  rw[if_neg e]at d
  exact d
theorem pv{E:Env}{f:FuncId}{fn:Func}{c:Code}{dep:Nat}{args:List AV}{H:ai}{Q:AV->ai->Prop}(z:E.mode f=2)(e:E.allowed f=true)(v:E.P.funcs[f]?=some fn)(q:fn.body=some c)(A:Nat.ble args.length fn.ntmps=true)
 (h:bB E fn (dep+1) [.code c] (vg 0 args) H Q) (g:E.thrSpec f args H=none:=by rfl) : ∃y H',cE E dep (.fn f) args H=some (y,H')/\Q y H':=by
 obtain⟨x,H1,j,n,u⟩:=h.h (λ_=>AV.undef) args λi=>(GH args i).symm
 refine⟨x,H1,wg.2 ⟨n,λm d=>?_⟩,j⟩
 obtain⟨st,l,p,w⟩:=u m d
 unfold eS
 dsimp only
 rw[g]
 dsimp only
 rw[if_pos z]
 unfold vd
 simp only[e,if_true,v,q,if_pos (Ip A),l,p,Option.map_some,w]
theorem UF{E:Env}{fn:Func}{dep nt:Nat}{r:Ref}{f:FuncId}{ps:List Tmp}{assign body:Code}{tm:List AV}{args:List AV}{H:ai}{Q:AV->ai->Prop}
 (I:yZ H r=some (0,.lp f nt ps assign body tm)) (F:fn.ntmps=nt) (hp:args.length=ps.length) (q:ps.all (· < nt)=true) (A:codeOk E.ok assign=true) (z:codeOk E.ok body=true)
 (h:Goes E fn (some r) (dep+1) [.code assign,.beginRound,.code body] (cY (wU tm ps args)) H λx H' =>∃c:Nat,x = .v (.int .i64 c) /\∃d g,yZ H' r=some (1,d)/\g=H'.put r (some (kz c d)) /\
  yZ g r=some (c,d)/\(c=0->Q (.v (.bool true)) g)/\(2<=c->Q (.v (.bool false)) g)/\c≠1) :
 ∃y H',cE E dep (.yld r) args H=some (y,H')/\Q y H':=by
 obtain⟨x,H1,⟨c,rfl,d,g,C,rfl,D,w,u,e⟩,n,p⟩:=h (wU tm ps args) (λi=>rfl)
 have key : ∀m,n<=m->AW E (cp E m) (dep+1) r args H=some (.v (.bool (c == 0)),H1.put r (some (kz c d))):=by
  intro m G
  obtain⟨st,k,B,j,J⟩:=p m G
  injection j with j
  injection j with j l
  have l:c=k:=by exact_mod_cast l
  subst l
  subst F
  unfold AW
  rw[I]
  simp only
  rw[if_pos ⟨hp,q,A,z⟩,B]
  unfold wX
  simp only[J,C,D]
  match c with
  | 0=>rfl
  | 1=>exact(e rfl).elim
  | k+2=>rfl
 have aew : ∀m,n<=m->eS E (cp E m) dep (.yld r) args H=some (.v (.bool (c == 0)),H1.put r (some (kz c d))):=key
 refine⟨_,_,wg.2 ⟨n,aew⟩,?_⟩
 match c with
 | 0=>exact w rfl
 | 1=>exact(e rfl).elim
 | k+2=>exact u (by omega)
theorem OZ{E:Env}{fn:Func}{dep:Nat}{g:Operand}{ps:Array Tmp}{assign body:Code}{k:List Item}{s:dI}{H:ai}{Q:AV->ai->Prop}{gi:FuncId}{first captured:List AV}
 (C:cK s g=some (.fn (.func gi) first captured))
 (h : ∀tm,dW tm s ->∃v c st d,cE E dep (.fn gi) (first++[.yld ⟨dep,fn.ntmps,H.gen dep fn.ntmps,0⟩]++captured) ((⟨dep,fn.ntmps,H.gen dep fn.ntmps,0⟩,some (kz 0 (.lp 0 fn.ntmps ps.toList assign body tm))) :: H)=some (v,c) /\
  yZ c ⟨dep,fn.ntmps,H.gen dep fn.ntmps,0⟩=some (st,d) /\
  (
   (st=0/\Goes E fn none dep k s (c.put ⟨dep,fn.ntmps,H.gen dep fn.ntmps,0⟩ none) Q) \/
   (st=2/\FN E.P s (c.put ⟨dep,fn.ntmps,H.gen dep fn.ntmps,0⟩ none) Q fn.results.toList []) \/
   (∃id k',st=id+3/\exitTo id k=some k'/\Goes E fn none dep k' s (c.put ⟨dep,fn.ntmps,H.gen dep fn.ntmps,0⟩ none) Q))) :
 Goes E fn none dep (.code (.rangeFunc g ps assign body) :: k) s H Q:=by
 intro tm p
 obtain⟨v,c,st,d,A,u,B⟩:=h tm p
 obtain⟨n1,i⟩:=wg.1 A
 have f:aM tm g=some (.fn (.func gi) first captured):=by rw[ya p];exact C
 rcases B with ⟨rfl,q⟩ | ⟨rfl,q⟩ | ⟨id,k',rfl,he,q⟩
 ·obtain⟨y,H',n,n2,j⟩:=q tm p
  refine⟨y,H',n,max n1 n2+1,λm w=>?_⟩
  obtain⟨m,rfl⟩ : ∃l,m=l+1:=⟨m - 1,by omega⟩
  have e:cp E (m+1) none fn.ntmps dep (.code (.rangeFunc g ps assign body) :: k) ⟨tm,H⟩=cp E m none fn.ntmps dep k ⟨tm,c.put ⟨dep,fn.ntmps,H.gen dep fn.ntmps,0⟩ none⟩:=by
   simp only[cp,f,i m (by omega),u]
  rw[e]
  exact j m (by omega)
 ·obtain⟨y,n,z⟩:=LC q
  refine⟨y,_,n,n1+1,λm w=>?_⟩
  obtain⟨m,rfl⟩ : ∃l,m=l+1:=⟨m - 1,by omega⟩
  have e:cp E (m+1) none fn.ntmps dep (.code (.rangeFunc g ps assign body) :: k) ⟨tm,H⟩=some ⟨tm,c.put ⟨dep,fn.ntmps,H.gen dep fn.ntmps,0⟩ none⟩:=by
   simp only[cp,f,i m (by omega),u]
  rw[e]
  exact⟨_,rfl,z tm p,rfl⟩
 ·obtain⟨y,H',n,n2,j⟩:=q tm p
  refine⟨y,H',n,max n1 n2+1,λm w=>?_⟩
  obtain⟨m,rfl⟩ : ∃l,m=l+1:=⟨m - 1,by omega⟩
  have e:cp E (m+1) none fn.ntmps dep (.code (.rangeFunc g ps assign body) :: k) ⟨tm,H⟩=cp E m none fn.ntmps dep k' ⟨tm,c.put ⟨dep,fn.ntmps,H.gen dep fn.ntmps,0⟩ none⟩:=by
   simp only[cp,f,i m (by omega),u,he]
  rw[e]
  exact j m (by omega)
theorem UG{E:Env}{f:FuncId}{args:List AV}{y:AV}(h:aF E f args=some y) : ∃n,dq E (cp E n) f args=some y:=by
 obtain⟨n,c⟩:=A2.1 h
 exact⟨n,c n (bD _)⟩
def px(r:Nat):Nat->List Item->Option (List Item)
 | 0,_=>none
 | n+1,items=>
  match items with
  | .code c :: k=>(match c with
   | .seq a b=>px r n (.code a :: .code b :: k)
   | .cond _ a b=>(match px r n (.code a :: k) with
    | some l=>some l
    | none=>px r n (.code b :: k))
   | .block id b=>px r n (.code b :: .inBlock id :: k)
   | .scope b=>px r n (.code b :: .inScope b :: k)
   | .loop b=>(match la b with
    | some i=>cond (Nat.beq i r) (some (.inLoop b :: k)) (px r n (.code b :: .inLoop b :: k))
    | none=>none)
   | .exit id=>(match exitTo id k with
    | some k'=>px r n k'
    | none=>none)
   | .skip | .label _ | .region _ _ _=>px r n k
   | _=>none)
  | .inBlock _ :: k | .inScope _ :: k=>px r n k
  | _=>none
def rj(r:Nat):Nat->List Item->Option (List Item)
 | 0,_=>none
 | n+1,items=>
  match items with
  | .code c :: k=>(match c with
   | .seq a b=>rj r n (.code a :: .code b :: k)
   | .cond _ a b=>(match rj r n (.code a :: k) with
    | some l=>some l
    | none=>rj r n (.code b :: k))
   | .block id b=>rj r n (.code b :: .inBlock id :: k)
   | .scope b=>rj r n (.code b :: .inScope b :: k)
   | .loop b=>rj r n (.code b :: .inLoop b :: k)
   | .exit id=>(match exitTo id k with
    | some k'=>rj r n k'
    | none=>none)
   | .region i ops draw=>cond (Nat.beq i r) (some items) (rj r n k)
   | .skip | .label _=>rj r n k
   | _=>none)
  | .inBlock _ :: k | .inScope _ :: k=>rj r n k
  | _=>none
def mf(r:Nat):Nat->List Item->Option (List Item)
 | 0,_=>none
 | n+1,items=>
  match items with
  | .code c :: k=>(match c with
   | .seq a b=>mf r n (.code a :: .code b :: k)
   | .cond _ a b=>(match mf r n (.code a :: k) with
    | some l=>some l
    | none=>mf r n (.code b :: k))
   | .block id b=>mf r n (.code b :: .inBlock id :: k)
   | .scope b=>mf r n (.code b :: .inScope b :: k)
   | .loop b=>mf r n (.code b :: .inLoop b :: k)
   | .exit id=>(match exitTo id k with
    | some k'=>mf r n k'
    | none=>none)
   | .rangeFunc _ _ a b=>cond (Nat.beq (X4 a b) r) (some items) (mf r n k)
   | .skip | .label _ | .region _ _ _=>mf r n k
   | _=>none)
  | .inBlock _ :: k | .inScope _ :: k=>mf r n k
  | _=>none
def rfA:List Item->Code
 | .code (.rangeFunc _ _ a _) :: _=>a
 | _ => .skip
def rfB:List Item->Code
 | .code (.rangeFunc _ _ _ b) :: _=>b
 | _ => .skip
def rfK:List Item->List Item
 | _ :: k=>k
 | []=>[]
def Pe:List Item->List Item
 | .inLoop b :: k => .code b :: .inLoop b :: k
 | l=>l
theorem My{E:Env}{fn:Func}{rd:Option Ref}{dep:Nat}{c:List Item}{l:List (Nat × AV)}{H:ai}{Q:AV->ai->Prop}(h : ∀g,Goes E fn rd dep (Pe c) (L3 g l) H Q):XE E fn rd dep c l H Q:=by
 refine⟨λg=>?_⟩
 have:=h g
 unfold Pe at this
 split at this
 ·exact RQ this
 ·exact this
def oi(x:AV):Option (Option Int):=match intOf x with
 | some n=>some (some n)
 | none=>none
end Go.Ab
namespace Go.Ab
def Vt(pc c:FuncId->List AV->Option AV):Prop :=∀f xs y,pc f xs=some y->c f xs=some y
def XD(tc c:xd->List AV->ai->dv):Prop :=∀f xs H y,tc f xs H=some y->c f xs H=some y
theorem Ow{E:Env}{pc c:FuncId->List AV->Option AV}(hp:Vt pc c){g:db}{r:Ref}{f:Option AV}{args:List AV}{z:AV × List bA}(h:kn E pc g r f args=some z):kn E c g r f args=some z:=by
 unfold kn at h ⊢
 split at h
 ·split at h
  ·cases h
  ·rename_i d
   rw[if_neg d]
   split at h
   ·rename_i xs i
    split at h
    ·rename_i y e
     rw[hp _ _ _ e]
     exact h
    ·cases h
   ·cases h
 ·cases h
theorem TV{E:Env}{pc c:FuncId->List AV->Option AV}{tc g:xd->List AV->ai->dv}(hp:Vt pc c)(i:XD tc g){H:ai}{r:Ref}{f:Option AV}{args:List AV} :
 (kn E pc H.get r f args=none ->∀z,mT E pc tc H r f args=some z->mT E c g H r f args=some z/\kn E c H.get r f args=none):=by
 intro d z h
 unfold kn at d ⊢
 unfold mT at h ⊢
 split at h
 ·rename_i fi first captured
  dsimp only at d ⊢
  split at h
  ·rename_i e
   rw[if_pos e,if_pos e]
   exact⟨i _ _ _ _ h,rfl⟩
  ·rename_i e
   rw[if_neg e]at d
   rw[if_neg e,if_neg e]
   split at h
   ·rename_i xs l
    try rw[l]at d
    dsimp only at d ⊢
    simp only[bO]at h
    obtain⟨y,j,h⟩:=h
    rw[j]at d
    rw[hp _ _ _ j]
    exact⟨by rw[Option.map_some,h],d⟩
   ·cases h
 ·exact⟨i _ _ _ _ h,rfl⟩
 ·cases h
theorem O4{E:Env}{pc d:FuncId->List AV->Option AV}{tc l:xd->List AV->ai->dv}(hp:Vt pc d)(D:XD tc l){dep:Nat}{draw:Bool}{tm:List AV}{H:ai}{o:Oper}{z:AV × ai}
 (h:qi E pc tc dep draw tm H o=some z):qi E d l dep draw tm H o=some z:=by
 by_cases A : ∃c f args,o.op = .call c/\c.args.toList.mapM (aM tm)=some args/\c.callee = .value f
 ·obtain⟨c,f,args,m,q,u⟩:=A
  unfold qi ct evalW at h ⊢
  simp only[m,q,u]at h ⊢
  cases j:Ew E.tZ draw f with
  | some t=>
   rw[j]at h
   dsimp only at h ⊢
   cases G:LL E.P H.get t args with
   | some p=>rw[G]at h;exact h
   | none=>
    rw[G]at h
    dsimp only at h ⊢
    split at h
    ·cases h
    ·rename_i v
     rw[if_neg v]
     have w : ∃g,f = .func g:=by unfold Ew at j;split at j<;>simp_all
     obtain⟨g,rfl⟩:=w
     simp only[aM,mT]at h ⊢
     by_cases C:E.mode g=2
     ·rw[if_pos C]at h ⊢
      cases i:tc (.fn g) ([]++args++[]) H with
      | none=>rw[i]at h;unfold p8 at h;split at h<;>(try split at h)<;>simp_all
      | some K=>rw[i]at h;rw[D _ _ _ _ i];exact h
     ·rw[if_neg C]at h ⊢
      cases F:([]++args++[]:List AV).mapM (view H.get depth) with
      | none=>rw[F]at h;exact h
      | some xs=>
       rw[F]at h
       dsimp only at h ⊢
       cases B:pc g xs with
       | none=>rw[B]at h;unfold p8 at h;split at h<;>(try split at h)<;>simp_all
       | some y=>rw[B]at h;rw[hp _ _ _ B];exact h
  | none=>
  rw[j]at h
  dsimp only at h ⊢
  cases n:kn E pc H.get ⟨dep,o.dst.getD 0,H.gen dep (o.dst.getD 0),0⟩ (aM tm f) args with
  | some p=>
   rw[n]at h
   rw[Ow hp n]
   exact h
  | none=>
   rw[n]at h
   simp only[Ek]at h
   split at h
   ·cases h
   ·rename_i v
    cases i:mT E pc tc H ⟨dep,o.dst.getD 0,H.gen dep (o.dst.getD 0),0⟩ (aM tm f) args with
    | none=>
     rw[i]at h
     unfold p8 at h
     split at h
     ·rename_i e;cases e
     ·cases h
    | some K=>
     obtain⟨I,J⟩:=TV hp D n _ i
     rw[J,I]
     rw[i]at h
     simp only[Ek,if_neg v]
     exact h
 ·have:qi E pc tc dep draw tm H o=qi E d l dep draw tm H o:=by
   have n:ct E pc draw H.get tm ⟨dep,o.dst.getD 0,H.gen dep (o.dst.getD 0),0⟩ o=ct E d draw H.get tm ⟨dep,o.dst.getD 0,H.gen dep (o.dst.getD 0),0⟩ o:=by
    cases m:o.op<;>simp only[ct,m]
    case makeMap a b=>cases b<;>rfl
    rename_i c
    cases q:c.args.toList.mapM (aM tm) with
    | none=>rfl
    | some args=>
     cases u:c.callee with
     | value f=>exact(A ⟨c,f,args,m,q,u⟩).elim
     | invoke _ _=>rfl
     | builtin b=>rfl
   have i:evalW E pc tc H tm ⟨dep,o.dst.getD 0,H.gen dep (o.dst.getD 0),0⟩ o=evalW E d l H tm ⟨dep,o.dst.getD 0,H.gen dep (o.dst.getD 0),0⟩ o:=by
    cases m:o.op<;>simp only[evalW,m]
    rename_i c
    cases q:c.args.toList.mapM (aM tm) with
    | none=>rfl
    | some args=>
     cases u:c.callee with
     | value f=>exact(A ⟨c,f,args,m,q,u⟩).elim
     | invoke _ _=>rfl
     | builtin b=>rfl
   unfold qi
   rw[n,i]
  rw[<-this]
  exact h
theorem LA{E:Env}{pc e:FuncId->List AV->Option AV}{tc f:xd->List AV->ai->dv}(hp:Vt pc e)(j:XD tc f){nt dep:Nat}{draw:Bool}{ops:Array Oper} : ∀ {l:List Oper} {st d:St},
 ng E pc tc nt dep draw ops l st=some d->ng E e f nt dep draw ops l st=some d:=by
 intro l
 induction l with
 | nil=>intro st d h;exact h
 | cons o l m=>
  intro st d h
  unfold ng at h ⊢
  cases c:evalOp E pc tc nt dep draw ops o st with
  | none=>rw[c]at h;cases h
  | some i=>
   rw[c]at h
   have:evalOp E e f nt dep draw ops o st=some i:=by
    rw[G5]at c ⊢
    cases hw:wanted ops st.tm o with
    | none=>rw[hw]at c;cases c
    | some b=>
     rw[hw]at c
     cases b with
     | false=>exact c
     | true=>
      dsimp only at c ⊢
      cases g:qi E pc tc dep draw st.tm st.hp o with
      | none=>rw[g]at c;cases c
      | some z=>rw[g]at c;rw[O4 hp j g];exact c
   rw[this]
   exact m h
theorem EI{E:Env}{run e:Option Ref->Nat->Nat->List Item->St->Option St}(m : ∀rd nt dep d st g,run rd nt dep d st=some g->e rd nt dep d st=some g){dep:Nat}{f:FuncId}{args:List AV}{H:ai}{z:AV × ai}
 (h:vd E run dep f args H=some z):vd E e dep f args H=some z:=by
 unfold vd at h ⊢
 split at h
 ·rename_i n
  rw[if_pos n]
  cases l:E.P.funcs[f]? with
  | none=>rw[l]at h;cases h
  | some fn=>
   rw[l]at h
   dsimp only at h ⊢
   cases j:fn.body with
   | none=>rw[j]at h;cases h
   | some c=>
    rw[j]at h
    dsimp only at h ⊢
    split at h
    ·rename_i p
     rw[if_pos p]
     cases i:run none fn.ntmps dep [.code c] ⟨args,H⟩ with
     | none=>rw[i]at h;cases h
     | some st=>rw[i]at h;rw[m _ _ _ _ _ _ i];exact h
    ·cases h
 ·cases h
theorem Br{E:Env}{run d:Option Ref->Nat->Nat->List Item->St->Option St}(j : ∀rd nt dep c st e,run rd nt dep c st=some e->d rd nt dep c st=some e):Vt (dq E run) (dq E d):=by
 intro f xs y h
 unfold dq at h ⊢
 cases i:E.spec f xs with
 | some s=>rw[i]at h;exact h
 | none=>
  rw[i]at h
  dsimp only at h ⊢
  cases g:vd E run 0 f xs [] with
  | none=>rw[g]at h;cases h
  | some z=>rw[g]at h;rw[EI j g];exact h
theorem Cp{E:Env}{run d:Option Ref->Nat->Nat->List Item->St->Option St}(i : ∀rd nt dep c st e,run rd nt dep c st=some e->d rd nt dep c st=some e)(dep:Nat):XD (eS E run dep) (eS E d dep):=by
 intro f xs H y h
 unfold eS at h ⊢
 cases f with
 | fn f=>
  dsimp only at h ⊢
  cases j:E.thrSpec f xs H with
  | some s=>rw[j]at h;exact h
  | none=>
  rw[j]at h
  dsimp only at h ⊢
  split at h
  ·rename_i m;rw[if_pos m];exact EI i h
  ·cases h
 | yld r=>
  dsimp only at h ⊢
  unfold AW at h ⊢
  split at h
  ·rename_i f nt ps assign body tm n
   split at h
   ·rename_i l
    rw[if_pos l]
    cases g:run (some r) nt (dep+1) [.code assign,.beginRound,.code body] ⟨wU tm ps xs,H⟩ with
    | none=>rw[g]at h;cases h
    | some st=>rw[g]at h;rw[i _ _ _ _ _ _ g];exact h
   ·cases h
  ·cases h
theorem Q8{E:Env} : ∀(n:Nat)(rd:Option Ref)(nt dep:Nat)(d:List Item)(st f:St),cp E n rd nt dep d st=some f->cp E (n+1) rd nt dep d st=some f:=by
 intro n
 induction n with
 | zero=>intro rd nt dep d st f h;simp[cp]at h
 | succ n e=>
  intro rd nt dep d st f h
  unfold cp at h ⊢
  split at h
  ·exact h
  ·split at h
   ·exact h
   ·rename_i r
    split at h
    ·exact e _ _ _ _ _ _ h
    ·cases h
  ·split at h
   all_goals try exact h
   all_goals try exact e _ _ _ _ _ _ h
   ·rename_i c a b
    split at h
    ·exact e _ _ _ _ _ _ h
    ·exact e _ _ _ _ _ _ h
    ·cases h
   ·split at h
    ·exact e _ _ _ _ _ _ h
    ·exact h
   ·rename_i ops draw
    cases g:ng E (dq E (cp E n)) (eS E (cp E n) dep) nt dep draw ops ops.toList st with
    | none=>rw[g]at h;cases h
    | some i=>
     rw[g]at h
     rw[LA (Br e) (Cp e dep) g]
     dsimp only at h ⊢
     split at h
     ·cases h
     ·rename_i j
      rw[if_neg j]
      exact e _ _ _ _ _ _ h
   ·split at h
    ·split at h
     ·rename_i x H' g
      rw[Cp e dep _ _ _ _ g]
      dsimp only
      split at h
      ·exact e _ _ _ _ _ _ h
      ·exact h
      ·split at h
       ·exact e _ _ _ _ _ _ h
       ·cases h
      ·cases h
     ·cases h
    ·cases h
  all_goals try exact e _ _ _ _ _ _ h
  all_goals cases h
theorem Wt{E:Env}{n m:Nat}(f:n<=m){rd:Option Ref}{nt dep:Nat}{c:List Item}{st d:St}(h:cp E n rd nt dep c st=some d):cp E m rd nt dep c st=some d:=by
 induction f with
 | refl=>exact h
 | step _ e=>exact Q8 _ _ _ _ _ _ _ e
theorem Ey{E:Env}{n:Nat}{f:FuncId}{args:List AV}{y:AV}(h:dq E (cp E n) f args=some y):aF E f args=some y:=
 A2.2 ⟨n,λ_ c=>Br (λ_ _ _ _ _ _ h=>Wt c h) _ _ _ h⟩
end Go.Ab
namespace Go.Ab
abbrev aI(n:Int):AV := .v (.int .i64 n)
abbrev aB(b:Bool):AV := .v (.bool b)
def a8(n:UInt8):AV := .v (.int .u8 (n.toNat:Int))
def aw(n:UInt32):AV := .v (.int .u32 (n.toNat:Int))
abbrev aS(s:ByteArray):AV := .v (.string s)
abbrev bZ:AV := .v (.slice none 0 0)
theorem aaG{q:jh}{K:AV->Prop}{m:Mk K}{v:AV}(c:q=some (v,[]))(h:K v):hZ q K m:=⟨v,c,h⟩
theorem tI{w:dv}{K:AV->ai->Prop}{m:Mk K}{v:AV}{H:ai}(c:w=some (v,H))(h:K v H):lQ w K m:=⟨v,H,c,h⟩
@[simp] theorem afg(v:AV)(K:AV->Prop)(m:Mk K):hZ (some (v,[])) K m↔K v:=
 ⟨λ⟨⟨w,hw,h⟩⟩=>by cases hw;exact h,λh=>⟨v,rfl,h⟩⟩
@[simp] theorem ahZ(c:Prop)[Decidable c](q:jh)(K:AV->Prop)(m:Mk K):hZ (if c then q else none) K m↔c/\hZ q K m:=by
 by_cases d:c
 ·simp[d]
 ·simp only[if_neg d,d,false_and,iff_false]
  rintro⟨v,e,_⟩;cases e
@[simp] theorem aff(v:AV)(H:ai)(K:AV->ai->Prop)(m:Mk K):lQ (some (v,H)) K m↔K v H:=
 ⟨λ⟨⟨w,_,hw,h⟩⟩=>by cases hw;exact h,λh=>⟨v,H,rfl,h⟩⟩
@[simp] theorem ahY(c:Prop)[Decidable c](q:dv)(K:AV->ai->Prop)(m:Mk K):lQ (if c then q else none) K m↔c/\lQ q K m:=by
 by_cases d:c
 ·simp[d]
 ·simp only[if_neg d,d,false_and,iff_false]
  rintro⟨v,_,e,_⟩;cases e
theorem Qo{x:Option AV}{A B:Prop}{m:Mk (A,B)}:br x A B m↔brP x A B:=⟨λh=>h.h,λh=>⟨h⟩⟩
@[simp] theorem ahg(A B:Prop)(m:Mk (A,B)):br (some (aB true)) A B m↔A:=Qo
@[simp] theorem afk(A B:Prop)(m:Mk (A,B)):br (some (aB false)) A B m↔B:=Qo
theorem gU{b:Bool}{A B:Prop}{m:Mk (A,B)}(c:b=true->A)(d:b=false->B):br (some (aB b)) A B m:=by
 cases b
 ·exact⟨d rfl⟩
 ·exact⟨c rfl⟩
theorem aaO{p:Prop}[Decidable p]{A B:Prop}{m:Mk (A,B)}(c:p->A)(d : ¬p->B):br (some (aB (decide p))) A B m:=
 gU (λh=>c (of_decide_eq_true h)) (λh=>d (of_decide_eq_false h))
@[simp] theorem aeO(q:jh)(K:AV->Prop)(m:Mk (q,K)):gQ (aB true) true q K m↔hZ q K:=⟨λh=>h.h,λh=>⟨h⟩⟩
@[simp] theorem aeR(q:jh)(K:AV->Prop)(m:Mk (q,K)):gQ (aB false) false q K m↔hZ q K:=⟨λh=>h.h,λh=>⟨h⟩⟩
@[simp] theorem aeP(q:jh)(K:AV->Prop)(m:Mk (q,K)):gQ (aB true) false q K m↔K AV.undef:=⟨λh=>h.h,λh=>⟨h⟩⟩
@[simp] theorem aeQ(q:jh)(K:AV->Prop)(m:Mk (q,K)):gQ (aB false) true q K m↔K AV.undef:=⟨λh=>h.h,λh=>⟨h⟩⟩
@[simp] theorem aiL(w:Bool)(q:jh)(K:AV->Prop)(m:Mk (q,K)):gQ AV.undef w q K m↔K AV.undef:=⟨λh=>h.h,λh=>⟨h⟩⟩
@[simp] theorem aeK(H:ai)(q:dv)(K:AV->ai->Prop)(m:Mk (q,K)):gW (aB true) true H q K m↔lQ q K:=⟨λh=>h.h,λh=>⟨h⟩⟩
@[simp] theorem aeN(H:ai)(q:dv)(K:AV->ai->Prop)(m:Mk (q,K)):gW (aB false) false H q K m↔lQ q K:=⟨λh=>h.h,λh=>⟨h⟩⟩
@[simp] theorem aeL(H:ai)(q:dv)(K:AV->ai->Prop)(m:Mk (q,K)):gW (aB true) false H q K m↔K AV.undef H:=⟨λh=>h.h,λh=>⟨h⟩⟩
@[simp] theorem aeM(H:ai)(q:dv)(K:AV->ai->Prop)(m:Mk (q,K)):gW (aB false) true H q K m↔K AV.undef H:=⟨λh=>h.h,λh=>⟨h⟩⟩
@[simp] theorem aiK(w:Bool)(H:ai)(q:dv)(K:AV->ai->Prop)(m:Mk (q,K)):gW AV.undef w H q K m↔K AV.undef H:=⟨λh=>h.h,λh=>⟨h⟩⟩
@[simp] theorem abA(v:AV):jK (some v)=some (v,[]):=id rfl
@[simp] theorem abY(H:ai)(r:Ref)(v:AV)(c:List bA):mz H r (some (v,c))=some (v,keyed r 0 c H):=id rfl
@[simp] theorem IW(H:ai)(r:Ref):mz H r none=none:=id rfl
@[simp] theorem Z2(r:Ref)(k:Nat)(H:ai):keyed r k [] H=H:=id rfl
@[simp] theorem Z3(r:Ref)(k:Nat)(b:bA)(c:List bA)(H:ai):keyed r k (b :: c) H=keyed r (k+1) c (({ r with k:=k},some b) :: H):=id rfl
@[simp] theorem ad7(c:Bool)(x:AV × ai)(b:dv):EY c (some x) b=some x:=id rfl
@[simp] theorem LZ(b:dv):EY true none b=b:=id rfl
@[simp] theorem ZO(a b:Option AV):Al (some (aB true)) a b=jK a:=id rfl
@[simp] theorem X9(a b:Option AV):Al (some (aB false)) a b=jK b:=id rfl
@[simp] theorem ahK(k:IntKind)(n:Int):oi (.v (.int k n))=some (some n):=id rfl
@[simp] theorem acA(cs:List AV):(AV.agg cs).cells=cs:=id rfl
@[simp] theorem aha(x:Value):(AV.v x).cells=[.v x]:=id rfl
@[simp] theorem ahb(x:UInt8):(a8 x).cells=[a8 x]:=id rfl
@[simp] theorem afi(x:UInt32):(aw x).cells=[aw x]:=id rfl
@[simp] theorem acz(z:Nat)(es:List AV)(c:Option Nat):(AV.cG z es c).cells=[.cG z es c]:=id rfl
@[simp] theorem acy(r:Ref)(o n:Nat)(c:Option Nat):(AV.cC r o n c).cells=[.cC r o n c]:=id rfl
@[simp] theorem acx(r:Ref)(i j:Nat):(AV.ptr r i j).cells=[.ptr r i j]:=id rfl
@[simp] theorem afh(f:Fn)(a b:List AV):(AV.fn f a b).cells=[.fn f a b]:=id rfl
@[simp] theorem agB(k:IntKind)(n:Int):(AV.v (.int k n)).one=true:=id rfl
@[simp] theorem aea(b:Bool):(AV.v (.bool b)).one=true:=id rfl
@[simp] theorem agz:bZ.one=true:=id rfl
@[simp] theorem aij(x:UInt8):(a8 x).one=true:=id rfl
@[simp] theorem ahJ(x:UInt32):(aw x).one=true:=id rfl
@[simp] theorem agA(z:Nat)(es:List AV)(c:Option Nat):(AV.cG z es c).one=true:=id rfl
@[simp] theorem agy(r:Ref)(o n:Nat)(c:Option Nat):(AV.cC r o n c).one=true:=id rfl
@[simp] theorem agx(r:Ref)(i j:Nat):(AV.ptr r i j).one=true:=id rfl
@[simp] theorem ahI(f:Fn)(a b:List AV):(AV.fn f a b).one=true:=id rfl
section
variable(P:Program)(t:TypeId)(xo yo:Operand)(k:IntKind)(a b:Int)
@[simp] theorem LR:bS P .lss t xo yo (some (.v (.int k a))) (some (.v (.int k b)))=some (aB (decide (a<b)),[]):=by cases k<;>rfl
@[simp] theorem TZ:bS P .leq t xo yo (some (.v (.int k a))) (some (.v (.int k b)))=some (aB (decide (a<=b)),[]):=by cases k<;>rfl
@[simp] theorem T2:bS P .gtr t xo yo (some (.v (.int k a))) (some (.v (.int k b)))=some (aB (decide (b<a)),[]):=by cases k<;>rfl
@[simp] theorem T3:bS P .geq t xo yo (some (.v (.int k a))) (some (.v (.int k b)))=some (aB (decide (b<=a)),[]):=by cases k<;>rfl
@[simp] theorem LS:bS P .eql t xo yo (some (.v (.int k a))) (some (.v (.int k b)))=some (aB (decide (a=b)),[]):=by
 have:(a == b)=decide (a=b):=by by_cases h:a=b<;>simp[h]
 rw[<-this];cases k<;>rfl
@[simp] theorem TY:bS P .neq t xo yo (some (.v (.int k a))) (some (.v (.int k b)))=some (aB (!decide (a=b)),[]):=by
 have:(a != b) = !decide (a=b):=by by_cases h:a=b<;>simp[h]
 rw[<-this];cases k<;>rfl
@[simp] theorem ad3:bS P .add t xo yo (some (.v (.int k a))) (some (.v (.int k b)))=some (.v (.int k (k.wrap (a+b))),[]):=by cases k<;>rfl
@[simp] theorem ad1:bS P .sub t xo yo (some (.v (.int k a))) (some (.v (.int k b)))=some (.v (.int k (k.wrap (a - b))),[]):=by cases k<;>rfl
@[simp] theorem ad2:bS P .mul t xo yo (some (.v (.int k a))) (some (.v (.int k b)))=some (.v (.int k (k.wrap (a * b))),[]):=by cases k<;>rfl
theorem TX(c:b≠0):bS P .rem t xo yo (some (.v (.int k a))) (some (.v (.int k b)))=some (.v (.int k (a.tmod b)),[]):=by
 have h:Op.intDiv .rem k a b=pure (.int k (a.tmod b)):=by unfold Op.intDiv;rw[if_neg c]
 have d:CJ P .rem t xo yo (.int k a) (.int k b)=some (.int k (a.tmod b)):=by
  have:CJ P .rem t xo yo (.int k a) (.int k b)=bj P (Op.intDiv .rem k a b):=by cases k<;>rfl
  rw[this,h];rfl
 simp only[bS,Kq,oa,gI,d,xm,Fy,jH,if_false,fy,jL,scalar,if_true,jK,Option.map_some]
theorem gh{c:IntKind}(e:0<=b):bS P .shr t xo yo (some (.v (.int k a))) (some (.v (.int c b)))=some (.v (.int k (a.fdiv (2 ^ min b.toNat k.bits))),[]):=by
 have h:Op.shift .shr k a c b=pure (.int k (a.fdiv (2 ^ min b.toNat k.bits))):=by unfold Op.shift;rw[if_neg (by omega)]
 have d:CJ P .shr t xo yo (.int k a) (.int c b)=some (.int k (a.fdiv (2 ^ min b.toNat k.bits))):=by
  have:CJ P .shr t xo yo (.int k a) (.int c b)=bj P (Op.shift .shr k a c b):=rfl
  rw[this,h];rfl
 simp only[bS,Kq,oa,gI,d,xm,Fy,jH,if_false,fy,jL,scalar,if_true,jK,Option.map_some]
@[simp] theorem ags(b:Bool):X7 P .not (some (aB b))=some (aB (!b),[]):=id rfl
def u8(n:Int):UInt8:=UInt8.ofBitVec (BitVec.ofInt 8 n)
def u32(n:Int):UInt32:=UInt32.ofBitVec (BitVec.ofInt 32 n)
@[simp] theorem acF(n:Int):IntKind.u8.wrap n=((u8 n).toNat:Int):=by
 unfold u8;rw[IntKind.wrap_u8,UInt8.toNat_ofBitVec,FJ];omega
@[simp] theorem VN(n:Int):IntKind.u32.wrap n=((u32 n).toNat:Int):=by
 unfold u32;rw[IntKind.wrap_u32,UInt32.toNat_ofBitVec,FJ];omega
theorem Is(n:Int):(u8 n).toNat=(n % 256).toNat:=by
 unfold u8;rw[UInt8.toNat_ofBitVec,FJ];rfl
theorem Ga(n:Int):(u32 n).toNat=(n % 4294967296).toNat:=by
 unfold u32;rw[UInt32.toNat_ofBitVec,FJ];rfl
@[simp] theorem VY(x:UInt32):u32 (x.toNat:Int)=x:=by apply FI.1;rw[Ga];have:=x.toNat_lt;omega
@[simp] theorem acL(x:UInt32):u8 (x.toNat:Int)=x.toUInt8:=by apply Be.1;rw[Is,UInt32.toNat_toUInt8];omega
@[simp] theorem aeJ(x:UInt8):IntKind.i64.wrap (x.toNat:Int)=x.toNat:=by have:=x.toNat_lt;exact IntWalk.i64_in _ (by omega)
@[simp] theorem aal(x:UInt32):IntKind.i64.wrap (x.toNat:Int)=x.toNat:=by have:=x.toNat_lt;exact IntWalk.i64_in _ (by omega)
theorem aaR(v:BitVec 32):IntKind.u32.wrap (v.toNat:Int)=((UInt32.ofBitVec v).toNat:Int):=by
 rw[VN];unfold u32;congr 3;apply BitVec.eq_of_toNat_eq;rw[FJ];have:=v.isLt;omega
theorem aaP(d:BinOp)(f:BitVec 32->BitVec 32->BitVec 32)(g:UInt32->UInt32->UInt32)(e : ∀x y,g x y=UInt32.ofBitVec (f x.toBitVec y.toBitVec))(c : ∀x y:Int,bS P d t xo yo (some (.v (.int .u32 x))) (some (.v (.int .u32 y)))=some (.v (.int .u32 (IntKind.u32.wrap ((f (BitVec.ofInt 32 x) (BitVec.ofInt 32 y)).toNat:Int))),[])) :
 bS P d t xo yo (some (.v (.int .u32 a))) (some (.v (.int .u32 b)))=some (aw (g (u32 a) (u32 b)),[]):=by
 rw[c,aaR,e];rfl
section
variable(x y:UInt8)
@[simp] theorem abG:bS P .lss t xo yo (some (a8 x)) (some (a8 y))=some (aB (decide (x<y)),[]):=by
 unfold a8;rw[LR];congr 4;rw[NJ];all_goals exact propext (by omega)
@[simp] theorem abH:bS P .leq t xo yo (some (a8 x)) (some (a8 y))=some (aB (decide (x<=y)),[]):=by
 unfold a8;rw[TZ];congr 4;rw[UInt8.le_iff_toNat_le];all_goals exact propext (by omega)
@[simp] theorem abI:bS P .gtr t xo yo (some (a8 x)) (some (a8 y))=some (aB (decide (y<x)),[]):=by
 unfold a8;rw[T2];congr 4;rw[NJ];all_goals exact propext (by omega)
@[simp] theorem abJ:bS P .geq t xo yo (some (a8 x)) (some (a8 y))=some (aB (decide (y<=x)),[]):=by
 unfold a8;rw[T3];congr 4;rw[UInt8.le_iff_toNat_le];all_goals exact propext (by omega)
@[simp] theorem abK:bS P .eql t xo yo (some (a8 x)) (some (a8 y))=some (aB (decide (x=y)),[]):=by
 unfold a8;rw[LS];congr 4;rw[<-Be];all_goals exact propext (by omega)
@[simp] theorem abF:bS P .neq t xo yo (some (a8 x)) (some (a8 y))=some (aB (!decide (x=y)),[]):=by
 unfold a8;rw[TY];congr 5;rw[<-Be];all_goals exact propext (by omega)
end
section
variable(x y:UInt32)
@[simp] theorem VG:bS P .andNot t xo yo (some (aw x)) (some (aw y))=some (aw (x &&& ~~~y),[]):=by
 unfold aw;rw[aaP P t xo yo _ _ .andNot (λa b=>a &&& ~~~b) (λa b=>a &&& ~~~b) (λ_ _=>rfl) (λ_ _=>rfl)];simp only[VY];rfl
@[simp] theorem ZG:bS P .lss t xo yo (some (aw x)) (some (aw y))=some (aB (decide (x<y)),[]):=by
 unfold aw;rw[LR];congr 4;rw[UInt32.lt_iff_toNat_lt];all_goals exact propext (by omega)
@[simp] theorem ZH:bS P .eql t xo yo (some (aw x)) (some (aw y))=some (aB (decide (x=y)),[]):=by
 unfold aw;rw[LS];congr 4;rw[<-FI];all_goals exact propext (by omega)
end
@[simp] theorem ZE{d:IntKind}(x:UInt32)(c:0<=b/\b<32):bS P .shr t xo yo (some (aw x)) (some (.v (.int d b)))=some (aw (x >>> UInt32.ofNat b.toNat),[]):=by
 unfold aw
 rw[gh P t xo yo .u32 _ b c.1]
 congr 5
 have f:min b.toNat IntKind.u32.bits=b.toNat:=by show min b.toNat 32=_;omega
 rw[f,UInt32.toNat_shiftRight,UInt32.toNat_ofNat',Nat.shiftRight_eq_div_pow]
 have e:b.toNat % 2 ^ 32 % 32=b.toNat:=by omega
 rw[e,Int.fdiv_eq_ediv_of_nonneg _ (by exact Int.pow_nonneg (by decide))]
 push_cast
 rfl
theorem mD{P:Program}{t:TypeId}{d:TypeDesc}(h:P.underlying t=some d):bj P (Go.underlying t)=some d:=by
 unfold Go.underlying
 rw[bK]
 show(some P).bind _=_
 rw[fy,h]
 rfl
def intKind(P:Program)(t:TypeId):Option IntKind:=match P.underlying t with | some (.int k)=>some k | _=>none
theorem CZ{P:Program}{t:TypeId}{k:IntKind}(h:intKind P t=some k):P.underlying t=some (.int k):=by
 unfold intKind at h
 split at h
 ·cases h;assumption
 ·cases h
theorem xS{g:db}{r:Ref}{c e:TypeId}{k':IntKind}(f:(P.underlying c).isNone=false)(i:intKind P e=some k)(n:Int) :
 gf P g r c e (some (.v (.int k' n)))=some (.v (.int k (k.wrap n)),[]):=by
 have i:=CZ i
 obtain⟨d,f⟩ : ∃d,P.underlying c=some d:=by cases h:P.underlying c with | none=>rw[h]at f;cases f | some d=>exact⟨d,rfl⟩
 have:bj P (Go.convert c e (.int k' n))=some (.int k (k.wrap n)):=by
  unfold Go.convert
  rw[bK,mD f,fy,bK,mD i,fy]
  cases d<;>rfl
 simp only[gf,this,fy,jL,scalar,if_true,jK,Option.map_some]
@[simp] theorem abE{g:db}{r:Ref}{c d:TypeId}(e:(P.underlying c).isNone=false)(f:intKind P d=some .i64)(x:UInt8) :
 gf P g r c d (some (a8 x))=some (aI x.toNat,[]):=by
 unfold a8;rw[xS P .i64 e f,aeJ]
@[simp] theorem ZC{g:db}{r:Ref}{c d:TypeId}(e:(P.underlying c).isNone=false)(f:intKind P d=some .i64)(x:UInt32) :
 gf P g r c d (some (aw x))=some (aI x.toNat,[]):=by
 unfold aw;rw[xS P .i64 e f,aal]
@[simp] theorem abD{g:db}{r:Ref}{c d:TypeId}{k':IntKind}(e:(P.underlying c).isNone=false)(f:intKind P d=some .u8)(n:Int) :
 gf P g r c d (some (.v (.int k' n)))=some (a8 (u8 n),[]):=by
 unfold a8;rw[xS P .u8 e f,acF]
@[simp] theorem abC{g:db}{r:Ref}{c d:TypeId}{k':IntKind}(e:(P.underlying c).isNone=false)(f:intKind P d=some .i64)(n:Int) :
 gf P g r c d (some (.v (.int k' n)))=some (aI (IntKind.i64.wrap n),[]):=xS P .i64 e f n
end
def jR(l:List UInt8):List AV:=l.map a8
@[simp] theorem ahd(l:List UInt8):(jR l).length=l.length:=by simp[jR]
@[simp] theorem ahc:jR []=[]:=id rfl
theorem TP(P:Program)(d:Bool)(g:db)(r:Ref)(t:TypeId)(e:List TypeId)(x:AV)(c : ∀r',x ≠ .mp r'):ck P d g r .len ⟨t :: e⟩ [x]=HN P (some t) x:=by
 unfold ck
 cases x<;>first | rfl | (rename_i q;exact(c q rfl).elim)
@[simp] theorem agt(P:Program)(d:Bool)(g:db)(r:Ref)(t:TypeId)(c:List TypeId)(x:AV)(f:(wh x).isSome=true):ck P d g r .len ⟨t :: c⟩ [x]=HN P (some t) x:=by
 refine TP P d g r t c x λr' e=>?_
 subst e;cases f
@[simp] theorem ab0:wh bZ=some 0:=id rfl
@[simp] theorem ab1(n:Nat)(es:List AV)(c:Option Nat):wh (.cG n es c)=some es.length:=id rfl
@[simp] theorem abZ(r:Ref)(o n:Nat)(c:Option Nat):wh (.cC r o n c)=some n:=id rfl
@[simp] theorem Zz{P:Program}{t:TypeId}(d:jI P t=none)(c:isStr P t=false)(e:(dN P t).isSome=true)(x:AV):HN P (some t) x=(wh x).map λn=>(aI n,[]):=by
 simp only[HN,d,c,e];rfl
theorem MQ{P:Program}{t:TypeId}{z:Nat}(h:(dN P t).bind (aJ P)=some z) : ∃e,dN P t=some e/\aJ P e=some z:=by
 simpa [gE] using h
@[simp] theorem GC{P:Program}{t:TypeId}{z:Nat}(h:(dN P t).bind (aJ P)=some z)(g:db)(es:List AV)(c:Option Nat)(f:IntKind)(k:Int) :
 cT P g t (some (.cG z es c)) (some (.v (.int f k)))=if 0<=k/\k<es.length then some (.iptr z es k.toNat 0,[]) else none:=by
 obtain⟨e,he,d⟩:=MQ h
 simp only[cT,fy,intOf,he,d,and_true]
@[simp] theorem TQ{P:Program}{t:TypeId}(h:dN P t=none)(c:((jI P t).bind λp=>aJ P p.2).isSome=true)(g:db)(r:Ref)(i j:Nat)(f:IntKind)(k:Int) :
 cT P g t (some (.ptr r i j)) (some (.v (.int f k)))=if 0<=k/\k<((jI P t).getD (0,0)).1 then some (.ptr r i (j+k.toNat * (aJ P ((jI P t).getD (0,0)).2).getD 0),[]) else none:=by
 obtain⟨z,c⟩:=gH.1 c
 simp only[gE]at c
 obtain⟨⟨n,e⟩,d,c⟩:=c
 simp only[cT,fy,intOf,h,d,c,fQ]
@[simp] theorem Zy{P:Program}{t:TypeId}(d:(dB P t).isSome=true)(c:(aJ P t).isSome=true)(g:db)(z:Nat)(es:List AV)(i j:Nat) :
 sf P g t (some (.iptr z es i j))=jK (bW es i j ((aJ P t).getD 0) ((dB P t).getD false)):=by
 obtain⟨a,d⟩:=gH.1 d
 obtain⟨n,c⟩:=gH.1 c
 simp only[sf,d,c,fQ]
def UE(x:Option bA)(i j n:Nat)(c:Bool):jh:=match x with
 | some b=>jK (bW b.es i j n c)
 | none=>none
@[simp] theorem ZZ(b:bA)(i j n:Nat)(c:Bool):UE (some b) i j n c=jK (bW b.es i j n c):=id rfl
@[simp] theorem abB{P:Program}{t:TypeId}(d:(dB P t).isSome=true)(c:(aJ P t).isSome=true)(g:db)(r:Ref)(i j:Nat) :
 sf P g t (some (.ptr r i j))=UE (g r) i j ((aJ P t).getD 0) ((dB P t).getD false):=by
 obtain⟨a,d⟩:=gH.1 d
 obtain⟨n,c⟩:=gH.1 c
 simp only[sf,d,c,fQ]
 rfl
@[simp] theorem Sd(e:AV)(es:List AV)(j n:Nat):bW (e :: es) 0 j n true=if j+n<=e.cells.length/\0<n then some (.agg ((e.cells.drop j).take n)) else none:=id rfl
@[simp] theorem Sc(e:AV)(es:List AV)(j n:Nat):bW (e :: es) 0 j n false=e.cells[j]?:=id rfl
def Sl(z:Nat)(es:List AV)(x:AV):Prop:=(x=bZ/\es=[]) \/∃c,x = .cG z es c/\es.length<=c.getD es.length
theorem Sl.mk(z:Nat)(es:List AV):Sl z es (.cG z es none) := .inr ⟨none,rfl,bD _⟩
theorem Sl.len{z:Nat}{es:List AV}{x:AV}(h:Sl z es x):wh x=some es.length:=by
 rcases h with ⟨rfl,rfl⟩ | ⟨c,rfl,_⟩<;>rfl
theorem Sl.cG{z:Nat}{es:List AV}{x:AV}(h:Sl z es x){i:Nat}(d:i<es.length) : ∃c,x = .cG z es c/\es.length<=c.getD es.length:=by
 rcases h with ⟨rfl,rfl⟩ | h
 ·simp at d
 ·exact h
theorem Sl.view{z:Nat}{es:List AV}{x:AV}(h:Sl z es x)(g:db)(n:Nat):view g (n+1) x=some x:=by
 rcases h with ⟨rfl,rfl⟩ | ⟨c,rfl,_⟩<;>rfl
theorem Sl.refs{z:Nat}{es:List AV}{x:AV}(h:Sl z es x)(g:db)(n:Nat):ax g n x=[]:=by
 rcases h with ⟨rfl,rfl⟩ | ⟨c,rfl,_⟩<;>cases n<;>rfl
theorem Sl.cells{z:Nat}{es:List AV}{x:AV}(h:Sl z es x):x.cells=[x]/\x.one=true:=by
 rcases h with ⟨rfl,_⟩ | ⟨c,rfl,_⟩<;>exact⟨rfl,rfl⟩
@[simp] theorem Y8(g:db)(n:Nat)(x:Value):view g (n+1) (.v x)=some (.v x):=id rfl
@[simp] theorem ahm(g:db)(n:Nat)(x:UInt8):view g (n+1) (a8 x)=some (a8 x):=id rfl
@[simp] theorem afC(g:db)(n:Nat)(x:UInt32):view g (n+1) (aw x)=some (aw x):=id rfl
@[simp] theorem acH(g:db)(n z:Nat)(es:List AV)(c:Option Nat):view g (n+1) (.cG z es c)=some (.cG z es c):=id rfl
@[simp] theorem acJ(g:db)(n:Nat)(cs:List AV):view g (n+1) (.agg cs)=(cs.mapM (view g n)).map .agg:=id rfl
@[simp] theorem acG(g:db)(n:Nat)(cs:List AV):view g (n+1) (.tup cs)=(cs.mapM (view g n)).map .tup:=id rfl
@[simp] theorem aa1(g:db)(n z:Nat)(es:List AV)(i j:Nat):view g (n+1) (.iptr z es i j)=some (.iptr z es i j):=id rfl
@[simp] theorem acI(g:db)(n:Nat)(t:TypeId)(x:AV):view g (n+1) (.ifc t x)=(view g n x).map (.ifc t):=id rfl
theorem FT{g:db}{r:Ref}{b:bA}(d:g r=some b)(n o l:Nat)(c:Option Nat):view g (n+1) (.cC r o l c)=if b.arr=true/\o+l<=b.es.length then some (.cG b.esz ((b.es.drop o).take l) c) else none:=by
 simp only[view,d]
theorem aU:depth=8:=Nat.le_antisymm (bD 8) (bD 8)
end Go.Ab
namespace Go.Ab
@[simp] theorem ai.tu(r q:Ref)(b:Option bA)(H:ai):ai.get ((r,b) :: H) q=if r=q then b else ai.get H q:=id rfl
attribute [simp] ai.get_put
@[simp] theorem agu(P:Program)(r:Ref)(e:TypeId)(x:AV)(c:0<(aJ P e).getD 0):Ka P r e (some x)=if some x.cells.length=aJ P e/\x.cells.all AV.one=true then some (.ptr r 0 0,[⟨(aJ P e).getD 0,[x],false,false⟩]) else none:=by
 unfold Ka
 cases h:aJ P e with
 | none=>simp
 | some n=>rw[h]at c;simp only[fQ]at c;simp[c]
def Fr(H:ai):Prop :=∀d t g k,H.gen d t<=g->H.get ⟨d,t,g,k⟩=none
theorem Fr.nil:Fr []:=λ_ _ _ _ _=>rfl
theorem Fr.keyed{H:ai}(h:Fr H)(j:List bA)(d t:Nat):Fr (Ab.keyed ⟨d,t,H.gen d t,0⟩ 0 j H):=by
 intro l t' g k c
 rw[ai.kX]at c
 rw[ai.I9]
 by_cases i:j=[]
 ·subst i
  rw[if_neg (by simp)]at c
  simp[h _ _ _ _ c]
 ·by_cases f:l=d/\t'=t
  ·obtain⟨rfl,rfl⟩:=f
   rw[if_pos ⟨rfl,rfl,i⟩]at c
   dsimp only at c ⊢
   rw[if_neg (by intro e;have:=e.2.2.1;omega)]
   exact h _ _ _ _ (by omega)
  ·rw[if_neg (by intro e;exact f ⟨e.1,e.2.1⟩)]at c
   dsimp only at c ⊢
   rw[if_neg (by intro e;exact f ⟨e.1,e.2.1⟩)]
   exact h _ _ _ _ c
theorem Fr.put{H:ai}(h:Fr H){r:Ref}(b:Option bA)(c:(H.get r).isSome=true):Fr (H.put r b):=by
 intro d t g k f
 rw[ai.mO H r b c]at f
 rw[ai.get_put]
 split
 ·rename_i e
  subst e
  rw[h _ _ _ _ f]at c
  cases c
 ·exact h _ _ _ _ f
theorem Fr.cons{H:ai}(h:Fr H)(d t:Nat)(b:Option bA):Fr ((⟨d,t,H.gen d t,0⟩,b) :: H):=by
 intro l t' g k c
 simp only[ai.gen]at c
 rw[ai.tu]
 split at c
 ·rename_i e
  obtain⟨rfl,rfl⟩:=e
  rw[if_neg (by intro e;injection e;omega)]
  exact h _ _ _ _ (by omega)
 ·rename_i e
  rw[if_neg (by intro f;injection f with j i;exact e ⟨j,i⟩)]
  exact h _ _ _ _ c
theorem ud{H:ai}(c:Fr H){q:Ref}(h:(H.get q).isSome=true)(d t k:Nat):(⟨d,t,H.gen d t,k⟩:Ref)≠q:=by
 intro e;subst e;rw[c _ _ _ _ (bD _)]at h;cases h
def YZ(P:Program)(t z c:Nat):Bool:=match dN P t with
 | some e=>aJ P e == some z&&nY P e == some c&&(match eD P e with | some d=>d.cells.length == z&&d.cells.all AV.one | none=>false)&&z != 0&&c != 0
 | none=>false
def Hm(P:Program)(t:TypeId):Bool:=(P.underlying t).isSome && !isInt P t
theorem lb{P:Program}{t z c:Nat}(h:YZ P t z c=true) : ∃e d,dN P t=some e/\aJ P e=some z/\nY P e=some c/\eD P e=some d/\d.cells.length=z/\d.cells.all AV.one=true/\z≠0/\c≠0:=by
 unfold YZ at h
 split at h
 ·rename_i e i
  simp only[aZ,beq_iff_eq,bne_iff_ne]at h
  obtain⟨⟨⟨⟨j,l⟩,f⟩,m⟩,n⟩:=h
  split at f
  ·rename_i d g
   simp only[aZ,beq_iff_eq]at f
   exact⟨e,d,i,j,l,g,f.1,f.2,m,n⟩
  ·cases f
 ·cases h
def XF(g:db)(z:Nat)(new:List AV)(x:AV):Prop:=(x=bZ/\new=[])\/(isNum x=false/\x≠bZ/\cU g x=some (z,new))
theorem XF.pg{P:Program}{t z d:Nat}(h:YZ P t z d=true){e:TypeId}(m:dN P t=some e){g:db}{new:List AV}{x:AV}(f:XF g z new x):pg P g e x=some (z,new):=by
 obtain⟨v,q,i,j,w,u,B,A,n,p⟩:=lb h
 rw[m]at i;cases i
 rcases f with ⟨rfl,rfl⟩ | ⟨l,c,f⟩
 ·simp only[Ab.pg,j,Option.map_some]
 ·unfold Ab.pg
  split
  ·exact(c rfl).elim
  ·simp[isNum]at l
  ·exact f
theorem XF.num{g:db}{z:Nat}{new:List AV}{x:AV}(c:XF g z new x):isNum x=false:=by
 rcases c with ⟨rfl,_⟩ | ⟨d,_⟩
 ·rfl
 ·exact d
theorem Sl.Je{z:Nat}{es:List AV}{x:AV}(h:Sl z es x)(g:db):XF g z es x:=by
 rcases h with ⟨rfl,rfl⟩ | ⟨c,rfl,_⟩
 ·exact .inl ⟨rfl,rfl⟩
 ·exact .inr ⟨rfl,(by intro e;cases e),rfl⟩
def Own(z:Nat)(es:List AV)(H:ai)(x:AV):Prop:=(x=bZ/\es=[]) \/∃r,x = .cC r 0 es.length none/\H.get r=some ⟨z,es,true,false⟩
theorem PS(z:Nat)(H:ai):Own z [] H bZ := .inl ⟨rfl,rfl⟩
theorem Own.len{z:Nat}{es:List AV}{H:ai}{x:AV}(h:Own z es H x):wh x=some es.length:=by
 rcases h with ⟨rfl,rfl⟩ | ⟨r,rfl,_⟩<;>rfl
theorem Own.view{z:Nat}{es:List AV}{H:ai}{x:AV}(h:Own z es H x)(n:Nat) : ∃y,view H.get (n+1) x=some y/\Sl z es y:=by
 rcases h with ⟨rfl,rfl⟩ | ⟨r,rfl,c⟩
 ·exact⟨bZ,rfl,.inl ⟨rfl,rfl⟩⟩
 ·refine⟨.cG z es none,?_,Sl.mk z es⟩
  rw[FT c]
  simp
theorem Own.Je{z:Nat}{es:List AV}{H:ai}{x:AV}(h:Own z es H x):XF H.get z es x:=by
 rcases h with ⟨rfl,rfl⟩ | ⟨r,rfl,c⟩
 ·exact .inl ⟨rfl,rfl⟩
 ·refine .inr ⟨rfl,(by intro e;cases e),?_⟩
  simp[cU,c]
def AV.at?:AV->Option Ref
 | .cC r _ _ _=>some r
 | .ptr r _ _=>some r
 | _=>none
theorem Own.cC{z:Nat}{es:List AV}{H:ai}{x:AV}(h:Own z es H x)(c:es≠[]) : ∃r,x = .cC r 0 es.length none/\H.get r=some ⟨z,es,true,false⟩:=by
 rcases h with ⟨_,rfl⟩ | h
 ·exact(c rfl).elim
 ·exact h
end Go.Ab
