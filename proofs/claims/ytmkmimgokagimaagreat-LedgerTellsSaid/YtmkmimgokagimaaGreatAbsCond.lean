/-
  What is to be shown for a run of the abstract machine, as one proposition that is computed from the code. No statement of a seat is proved here.
  More fuel gives the same answer. No statement of a seat is proved here.
  What the abstract machine's operations yield on data: the rules for the conditions. No statement of a seat is proved here.
  Own memory in the conditions: appends, stores, loads, what is seen of it. No statement of a seat is proved here.
-/
import Derived.IntWalk
import Derived.Test.YtmkmimgokagimaaGreatAbsEnv
set_option linter.unusedVariables false
set_option linter.unusedSimpArgs false
set_option linter.unusedSectionVars false
set_option linter.unnecessarySimpa false
namespace Go.Ab
abbrev eB:=Nat->AV
def cK(s:eB):Operand->Option AV
 | .tmp t=>some (s t)
 | .const v=>ofValue v
 | .func f=>some (.fn (.func f) [] [])
 | .global _=>none
def CY(c:Operand->Option AV):List Operand->Option (List AV)
 | []=>some []
 | o :: os=>match c o,CY c os with
  | some x,some xs=>some (x :: xs)
  | _,_=>none
def DS(c:Operand->Option AV):List (Nat × Operand)->Option (List (Nat × AV))
 | []=>some []
 | (i,o) :: os=>match c o,DS c os with
  | some x,some xs=>some ((i,x) :: xs)
  | _,_=>none
def L0(c:Operand->Option AV):Option Operand->Option (Option Int)
 | none=>some none
 | some o=>match (c o).bind intOf with
  | some n=>some (some n)
  | none=>none
def aak(s:eB)(d:Nat)(v:AV):eB:=λi=>cond (Nat.beq i d) v (s i)
def eC(tm:List AV)(s:eB):Prop :=∀i,dH tm i=s i
theorem xZ{tm:List AV}{s:eB}(h:eC tm s):aO tm=cK s:=by
 funext o;cases o<;>simp[aO,cK,h _]
theorem GS(c:Operand->Option AV)(l:List Operand):l.mapM c=CY c l:=by
 induction l with
 | nil=>rfl
 | cons o l d=>
  simp only[ny,d,CY,tu,tZ]
  cases c o<;>cases CY c l<;>rfl
theorem IP{tm:List AV}{s:eB}(h:eC tm s)(l:List (Nat × Operand)):iS tm l=DS (cK s) l:=by
 induction l with
 | nil=>rfl
 | cons o l c=>
  obtain⟨i,o⟩:=o
  unfold iS at c ⊢
  rw[ny,c]
  simp only[DS,tu,tZ,xZ h]
  cases cK s o<;>cases DS (cK s) l<;>rfl
theorem J6{tm:List AV}{s:eB}(h:eC tm s)(o:Option Operand):mh tm o=L0 (cK s) o:=by
 cases o with
 | none=>rfl
 | some o=>simp only[mh,L0,xZ h];rfl
theorem eC.set{tm:List AV}{s:eB}(h:eC tm s)(d:Nat)(v:AV):eC (Cu tm d v) (aak s d v):=by
 intro i
 rw[uD]
 unfold aak
 split
 ·rename_i e;subst e;simp
 ·rename_i e;rw[show Nat.beq i d=false from by cases c:Nat.beq i d with | false=>rfl | true=>exact(e (kP c)).elim];exact h i
def At(c a b:Option AV):jw:=
 match c.bind Ed with
 | some true=>jQ a
 | some false=>jQ b
 | none=>none
def mQ(H:ai)(r:Ref)(q:jw):du:=
 match q with
 | some (v,c)=>some (v,keyed r 0 c H)
 | none=>none
def E3(c:Bool)(a b:du):du:=
 match a with
 | some x=>some x
 | none=>cond c b none
def bJ(E:Env)(c:Bool)(pc:FuncId->List AV->Option AV)(tc:xb->List AV->ai->du)(H:ai)(r:Ref)(f:Option AV)(args:List AV):du:=
 E3 c (mQ H r (ku E pc H.get r f args)) (m7 E pc tc H r f args)
def nc(E:Env)(c:Bool)(pc:FuncId->List AV->Option AV)(tc:xb->List AV->ai->du)(H:ai)(r:Ref)(f:Option AV)(args:List AV):du:=
 E3 c (mQ H r ((ku E pc H.get r f args).map λp=>(p.1,AD true p.2))) (qn true E.sm H (m7 E pc tc H r f args))
def ju(P:Program)(c:Bool)(H:ai)(r:Ref)(t t':Option TypeId)(s x:AV):du:=
 E3 c (mQ H r (jB P H.get r t t' s x)) (mN P H t t' s x)
def pJ(P:Program)(draw d:Bool)(H:ai)(r:Ref)(t:TypeId)(n:Nat)(c:Option (List (Nat × AV))):du:=
 E3 d (mQ H r (im P draw H.get r t n c)) (kq P H r t n c)
def xS(E:Env)(pc:FuncId->List AV->Option AV)(tc:xb->List AV->ai->du)(dep:Nat)(draw d:Bool)(s:eB)(H:ai)(r:Ref)(o:Oper):jw ⊕ du:=
 match o.op with
 | .move x | .assign x => .inl (jQ (cK s x))
 | .pick c a b => .inl (At (cK s c) (cK s a) (cK s b))
 | .alloc e => .inr (mQ H r (wV E.P r e))
 | .box e x => .inr (mQ H r (J4 E.P r e (cK s x)))
 | .build t ps => .inl (mP E.P t (DS (cK s) ps.toList))
 | .buildSlice t n ps => .inr (pJ E.P (draw && !E.strict o) d H r t n (DS (cK s) ps.toList))
 | .load t a => .inl (tD E.P H.get t (cK s a))
 | .store t a x => .inr (cond d (nT E.P H t (cK s a) (cK s x)) none)
 | .nilCheck x => .inl (LL (cK s x))
 | .binOp op t xo yo _ => .inl (cf E.P op t xo yo (cK s xo) (cK s yo))
 | .unOp op _ x => .inl (Ye E.P op (cK s x))
 | .convert src dst x=>match fF E.P dst with
  | true => .inr (mQ H r (gl E.P H.get r src dst (cK s x)))
  | false => .inl (gl E.P H.get r src dst (cK s x))
 | .makeInterface t x => .inl (sT E.P t (cK s x))
 | .makeFunc f first captured => .inl (ue f (CY (cK s) first.toList) (CY (cK s) captured.toList))
 | .makeSlice t l c => .inr (mQ H r (Ez E.P r t (cK s l) (cK s c)))
 | .slice t x j h p=>match E.wide o && !draw with
  | true => .inl (wa E.P H.get t (cK s x) (L0 (cK s) j) (L0 (cK s) h) (L0 (cK s) p))
  | false => .inl (iQ E.P H.get t (cK s x) (L0 (cK s) j) (L0 (cK s) h) (L0 (cK s) p))
 | .fieldAddr t x f => .inl (jM E.P t (cK s x) f)
 | .field t x f => .inl (tT E.P t (cK s x) f)
 | .indexAddr t x g => .inl (eg E.P H.get t (cK s x) (cK s g))
 | .index t x g => .inl (rj E.P t (cK s x) (cK s g))
 | .typeAssert x _ want ok => .inl (s9 E.P (cK s x) want ok)
 | .extract x i => .inl (tE (cK s x) i)
 | .call c=>
  match CY (cK s) c.args.toList with
  | none => .inl none
  | some args=>
   match c.callee with
   | .value f=>(match EB E.ur draw f with
    | some t => .inl (LK E.P H.get t args)
    | none=>(match E.kH o with
     | true => .inr (nc E d pc tc H r (cK s f) args)
     | false => .inr (bJ E d pc tc H r (cK s f) args)))
   | .invoke _ _ => .inl none
   | .builtin b=>match b,args with
    | .append,[a,x] => .inr (ju E.P d H r c.argTypes[0]? c.argTypes[1]? a x)
    | .copy,[dst,x]=>(match E.wide o with
     | true => .inr (cond d (FY E.P H c.argTypes[0]? dst x) none)
     | false => .inr (cond d (KU E.P H c.argTypes[0]? dst x) none))
    | b,args => .inl (cO E.P (draw&&(E.strict o || !(match c.args.toList with | [.tmp _]=>true | _=>false))) H.get r b c.argTypes args)
 | .makeMap _ none => .inr (mQ H r (some (.mp r,[bj []])))
 | .lookup t x k ok => .inl (eU E.P H.get t (cK s x) (cK s k) ok)
 | .mapUpdate t m k x => .inr (cond d (dQ E.P H t (cK s m) (cK s k) (cK s x)) none)
 | .insert t m k x => .inr (cond d (dQ E.P H t (cK s m) (cK s k) (cK s x)) none)
 | .mapEntry t m k => .inr (cond d (iO E.P H t (cK s m) (cK s k)) none)
 | .entryStore _ m n x => .inr (cond d (fE H (cK s m) (cK s n) (cK s x)) none)
 | .makeChan t n => .inr (cond d (AS E.P H r t (cK s n)) none)
 | .send c x => .inr (cond d (FU H (cK s c) (cK s x)) none)
 | .recv t c ok => .inr (cond d (Is E.P H t (cK s c) ok) none)
 | _ => .inl none
def qA(E:Env)(pc:FuncId->List AV->Option AV)(tc:xb->List AV->ai->du)(dep:Nat)(draw:Bool)(tm:List AV)(H:ai)(o:Oper):du:=
 match cE E pc draw H.get tm ⟨dep,o.dst.getD 0,H.gen dep (o.dst.getD 0),0⟩ o with
 | some (x,c)=>some (x,keyed ⟨dep,o.dst.getD 0,H.gen dep (o.dst.getD 0),0⟩ 0 c H)
 | none=>if draw && !jo E o then none else evalW E pc tc H tm ⟨dep,o.dst.getD 0,H.gen dep (o.dst.getD 0),0⟩ o
theorem G9(E:Env)(pc:FuncId->List AV->Option AV)(tc:xb->List AV->ai->du)(nt dep:Nat)(draw:Bool)(ops:Array Oper)(o:Oper)(st:St) :
 evalOp E pc tc nt dep draw ops o st=(match wanted ops st.tm o with
  | none=>none
  | some false=>(dg nt st.tm o.dst AV.undef).map λtm => { st with tm}
  | some true=>match qA E pc tc dep draw st.tm st.hp o with
   | some (x,H)=>(dg nt st.tm o.dst x).map λtm=>⟨tm,H⟩
   | none=>none):=by
 unfold evalOp qA
 cases hw:wanted ops st.tm o with
 | none=>rfl
 | some b=>
 cases b with
 | false=>rfl
 | true=>
  cases cE E pc draw st.hp.get st.tm ⟨dep,o.dst.getD 0,st.hp.gen dep (o.dst.getD 0),0⟩ o with
  | some p=>rfl
  | none=>
   dsimp only
   split
   ·rfl
   ·rfl
theorem Xy{E:Env}{pc:FuncId->List AV->Option AV}{tc:xb->List AV->ai->du}{dep:Nat}{draw:Bool}{tm:List AV}{H:ai}{o:Oper}{v:AV}
 (h:cE E pc draw H.get tm ⟨dep,o.dst.getD 0,H.gen dep (o.dst.getD 0),0⟩ o=some (v,[])):qA E pc tc dep draw tm H o=some (v,H):=by
 unfold qA;rw[h];rfl
theorem Qi{E:Env}{pc:FuncId->List AV->Option AV}{tc:xb->List AV->ai->du}{dep:Nat}{draw:Bool}{tm:List AV}{H H':ai}{o:Oper}{v:AV}{q:jw}
 (h:cE E pc draw H.get tm ⟨dep,o.dst.getD 0,H.gen dep (o.dst.getD 0),0⟩ o=q) (c:mQ H ⟨dep,o.dst.getD 0,H.gen dep (o.dst.getD 0),0⟩ q=some (v,H')):qA E pc tc dep draw tm H o=some (v,H'):=by
 unfold qA;rw[h]
 unfold mQ at c
 split at c
 ·exact c
 ·cases c
theorem nH{E:Env}{pc:FuncId->List AV->Option AV}{tc:xb->List AV->ai->du}{dep:Nat}{draw:Bool}{tm:List AV}{H H':ai}{o:Oper}{v:AV}{q:jw}{w:du}
 (h:cE E pc draw H.get tm ⟨dep,o.dst.getD 0,H.gen dep (o.dst.getD 0),0⟩ o=q) (e:evalW E pc tc H tm ⟨dep,o.dst.getD 0,H.gen dep (o.dst.getD 0),0⟩ o=w)
 (c:E3 (!(draw && !jo E o)) (mQ H ⟨dep,o.dst.getD 0,H.gen dep (o.dst.getD 0),0⟩ q) w=some (v,H')):qA E pc tc dep draw tm H o=some (v,H'):=by
 unfold qA;rw[h]
 cases q with
 | some p=>simpa [E3,mQ] using c
 | none=>
  rw[e]
  cases d:(draw && !jo E o) with
  | true=>rw[d]at c;simp[E3,mQ]at c
  | false=>rw[d]at c;simpa [E3,mQ] using c
section
variable{E:Env}{pc:FuncId->List AV->Option AV}{tc:xb->List AV->ai->du}{dep:Nat}{draw:Bool}{tm:List AV}{s:eB}{H:ai}{o:Oper}
theorem WZ(d:eC tm s){q:jw}{v:AV}
 (h:xS E pc tc dep draw (!(draw && !jo E o)) s H ⟨dep,o.dst.getD 0,H.gen dep (o.dst.getD 0),0⟩ o = .inl q) (j:q=some (v,[])):qA E pc tc dep draw tm H o=some (v,H):=by
 subst j
 refine Xy ?_
 have e:=xZ d
 unfold xS at h
 unfold cE
 split at h<;>rename_i i<;>simp only[i]
 all_goals try (simp only[En,reduceCtorEq]at h)
 all_goals try (rw[<-h];simp only[e,At,GG,IP d,J6 d,GS];done)
 ·rw[<-h];unfold GG At;rw[e];rfl
 ·split at h
  ·cases h
  ·simp only[En]at h;rw[<-h,e]
 ·cases g:(E.wide o && !draw) with
  | true=>rw[g]at h;simp only[En]at h;rw[<-h];simp only[cond_true,e,J6 d]
  | false=>rw[g]at h;simp only[En]at h;rw[<-h];simp only[cond_false,e,J6 d]
 ·rw[GS,e]
  split at h
  ·cases h
  ·rename_i args c
   rw[c]
   dsimp only
   split at h
   ·rename_i f m
    rw[m]
    dsimp only
    split at h
    ·rename_i t n
     simp only[En]at h
     simp only[n]
     exact h
    ·split at h<;>cases h
   ·cases h
   ·rename_i b l
    rw[l]
    dsimp only
    split at h
    ·cases h
    ·split at h<;>cases h
    ·simp only[En]at h;exact h
theorem WY(p:eC tm s){w:du}{v:AV}{H':ai}
 (h:xS E pc tc dep draw (!(draw && !jo E o)) s H ⟨dep,o.dst.getD 0,H.gen dep (o.dst.getD 0),0⟩ o = .inr w) (u:w=some (v,H')):qA E pc tc dep draw tm H o=some (v,H'):=by
 subst u
 have e:=xZ p
 unfold xS at h
 split at h<;>rename_i c
 all_goals try (simp only[reduceCtorEq]at h;done)
 all_goals try (simp only[Cc]at h)
 all_goals try (refine Qi (by unfold cE;simp only[c,e]) h;done)
 ·rw[<-IP p]at h
  exact nH (q:=im _ _ _ _ _ _ _) (w:=kq _ _ _ _ _ _) (by unfold cE;simp only[c]) (by unfold evalW;simp only[c]) h
 ·rw[<-e]at h
  exact nH (q:=none) (w:=nT _ _ _ _ _) (by unfold cE;simp only[c]) (by unfold evalW;simp only[c]) h
 ·split at h
  ·simp only[Cc]at h
   refine Qi (by unfold cE;simp only[c,e]) h
  ·cases h
 ·split at h<;>cases h
 ·split at h
  ·cases h
  ·rename_i args j
   have g:=j
   rw[<-GS,<-e]at g
   split at h
   ·rename_i f n
    split at h
    ·cases h
    ·rename_i m
     split at h
     ·rename_i d
      simp only[Cc]at h
      rw[<-e]at h
      exact nH (q:=(ku _ _ _ _ _ _).map _) (w:=qn true _ _ (m7 _ _ _ _ _ _ _)) (by unfold cE;simp only[c,g,n,m,d]) (by unfold evalW;simp only[c,g,n,d]) h
     ·rename_i d
      simp only[Cc]at h
      rw[<-e]at h
      exact nH (q:=ku _ _ _ _ _ _) (w:=m7 _ _ _ _ _ _ _) (by unfold cE;simp only[c,g,n,m,d,AD];cases ku E pc H.get _ (aO tm f) args<;>rfl) (by unfold evalW;simp only[c,g,n,d];rfl) h
   ·cases h
   ·rename_i b l
    split at h
    ·simp only[Cc]at h
     exact nH (q:=jB _ _ _ _ _ _ _) (w:=mN _ _ _ _ _ _) (by unfold cE;simp only[c,g,l];rfl) (by unfold evalW;simp only[c,g,l]) h
    ·split at h
     ·rename_i i
      simp only[Cc]at h
      exact nH (q:=none) (w:=FY _ _ _ _ _) (by unfold cE;simp only[c,g,l];rfl) (by unfold evalW;simp only[c,g,l,i,cond_true]) h
     ·rename_i i
      simp only[Cc]at h
      exact nH (q:=none) (w:=KU _ _ _ _ _) (by unfold cE;simp only[c,g,l];rfl) (by unfold evalW;simp only[c,g,l,i,cond_false]) h
    ·cases h
 ·rw[<-e]at h
  exact nH (q:=none) (w:=dQ _ _ _ _ _ _) (by unfold cE;simp only[c]) (by unfold evalW;simp only[c]) h
 ·rw[<-e]at h
  exact nH (q:=none) (w:=dQ _ _ _ _ _ _) (by unfold cE;simp only[c]) (by unfold evalW;simp only[c]) h
 ·rw[<-e]at h
  exact nH (q:=none) (w:=iO _ _ _ _ _) (by unfold cE;simp only[c]) (by unfold evalW;simp only[c]) h
 ·rw[<-e]at h
  exact nH (q:=none) (w:=fE _ _ _ _) (by unfold cE;simp only[c]) (by unfold evalW;simp only[c]) h
 ·rw[<-e]at h
  exact nH (q:=none) (w:=AS _ _ _ _ _) (by unfold cE;simp only[c]) (by unfold evalW;simp only[c]) h
 ·rw[<-e]at h
  exact nH (q:=none) (w:=FU _ _ _) (by unfold cE;simp only[c]) (by unfold evalW;simp only[c]) h
 ·rw[<-e]at h
  exact nH (q:=none) (w:=Is _ _ _ _ _) (by unfold cE;simp only[c]) (by unfold evalW;simp only[c]) h
end
open Classical in
noncomputable def aF(E:Env)(f:FuncId)(args:List AV):Option AV:=
 if h : ∃y n,∀m,n<=m->bG E (bR E m) f args=some y then some h.choose else none
theorem Ba{E:Env}{f:FuncId}{args:List AV}{y:AV}:aF E f args=some y ↔ ∃n,∀m,n<=m->bG E (bR E m) f args=some y:=by
 unfold aF
 constructor
 ·intro h
  split at h
  ·rename_i d
   simp only[dW]at h
   rw[<-h]
   exact d.choose_spec
  ·cases h
 ·intro h
  rw[dif_pos ⟨y,h⟩]
  obtain⟨n,g⟩:=h
  have d : ∃y n,∀m,n<=m->bG E (bR E m) f args=some y:=⟨y,n,g⟩
  obtain⟨e,c⟩:=d.choose_spec
  have i:=g (max n e) (Nat.le_max_left ..)
  have j:=c (max n e) (Nat.le_max_right ..)
  exact j.symm.trans i
open Classical in
noncomputable def cg(E:Env)(dep:Nat)(f:xb)(args:List AV)(H:ai):du:=
 if h : ∃y n,∀m,n<=m->fg E (bR E m) dep f args H=some y then some h.choose else none
theorem ze{E:Env}{dep:Nat}{f:xb}{args:List AV}{H:ai}{y:AV × ai}:cg E dep f args H=some y ↔ ∃n,∀m,n<=m->fg E (bR E m) dep f args H=some y:=by
 unfold cg
 constructor
 ·intro h
  split at h
  ·rename_i c
   simp only[dW]at h
   rw[<-h]
   exact c.choose_spec
  ·cases h
 ·intro h
  rw[dif_pos ⟨y,h⟩]
  obtain⟨n,e⟩:=h
  have c : ∃y n,∀m,n<=m->fg E (bR E m) dep f args H=some y:=⟨y,n,e⟩
  obtain⟨g,d⟩:=c.choose_spec
  have i:=e (max n g) (Nat.le_max_left ..)
  have j:=d (max n g) (Nat.le_max_right ..)
  exact j.symm.trans i
theorem MZ{E:Env}{d:Bool}{dep:Nat}{H H':ai}{r:Ref}{f:Option AV}{args:List AV}{v:AV}(h:bJ E d (aF E) (cg E dep) H r f args=some (v,H')) :
 ∃n,∀m,n<=m->bJ E d (bG E (bR E m)) (fg E (bR E m) dep) H r f args=some (v,H'):=by
 unfold bJ at h ⊢
 by_cases l : ∃fi first captured,f=some (.fn (.func fi) first captured)
 ·obtain⟨fi,first,captured,rfl⟩:=l
  by_cases g:E.mode fi=2
  ·simp only[ku,m7,if_pos g,mQ,E3]at h ⊢
   cases d with
   | true=>
    simp only[cond_true]at h ⊢
    obtain⟨n,e⟩:=ze.1 h
    exact⟨n,e⟩
   | false=>simp at h
  ·simp only[ku,m7,if_neg g]at h ⊢
   cases p:(first++args++captured).mapM (view H.get depth) with
   | none=>rw[p]at h;simp[mQ,E3]at h
   | some xs=>
    rw[p]at h
    dsimp only at h ⊢
    cases c:aF E fi xs with
    | none=>rw[c]at h;simp[mQ,E3]at h
    | some y=>
     rw[c]at h
     obtain⟨n,e⟩:=Ba.1 c
     refine⟨n,λm i=>?_⟩
     rw[e m i]
     exact h
 ·have j : ∀pc,ku E pc H.get r f args=none:=by
   intro pc
   unfold ku
   split
   ·exact(l ⟨_,_,_,rfl⟩).elim
   ·rfl
  by_cases c : ∃q,f=some (.yld q)
  ·obtain⟨q,rfl⟩:=c
   rw[j]at h
   cases d with
   | false=>simp[mQ,E3]at h
   | true=>
    have u:cg E dep (.yld q) args H=some (v,H'):=h
    obtain⟨n,e⟩:=ze.1 u
    refine⟨n,λm i=>?_⟩
    rw[j]
    exact e m i
  ·have g : ∀pc tc,m7 E pc tc H r f args=none:=by
    intro pc tc
    unfold m7
    split
    ·exact(l ⟨_,_,_,rfl⟩).elim
    ·exact(c ⟨_,rfl⟩).elim
    ·rfl
   rw[j,g]at h
   cases d<;>simp[mQ,E3]at h
theorem FV{sm:Nl}{H H':ai}{x:du}{v:AV}(h:qn true sm H x=some (v,H')) : ∃c,x=some (v,c)/\H'=H/\flat depth v=true/\(G2 H c||sm.f H c)=true:=by
 cases x with
 | none=>simp[qn]at h
 | some p=>
  obtain⟨y,c⟩:=p
  unfold qn at h
  simp only at h
  split at h
  ·rename_i d
   cases h
   rw[bh]at d
   exact⟨c,rfl,rfl,d.1,d.2⟩
  ·cases h
theorem Kt{E:Env}{g:Bool}{dep:Nat}{H H':ai}{r:Ref}{f:Option AV}{args:List AV}{v:AV}(h:nc E g (aF E) (cg E dep) H r f args=some (v,H')) :
 ∃n,∀m,n<=m->nc E g (bG E (bR E m)) (fg E (bR E m) dep) H r f args=some (v,H'):=by
 unfold nc at h ⊢
 by_cases u : ∃fi first captured,f=some (.fn (.func fi) first captured)
 ·obtain⟨fi,first,captured,rfl⟩:=u
  by_cases j:E.mode fi=2
  ·simp only[ku,m7,if_pos j,mQ,E3,Eo]at h ⊢
   cases g with
   | true=>
    simp only[cond_true]at h ⊢
    obtain⟨H1,d,z,A,C⟩:=FV h
    obtain⟨n,i⟩:=ze.1 d
    refine⟨n,λm e=>?_⟩
    rw[i m e]
    rw[d]at h
    exact h
   | false=>simp at h
  ·simp only[ku,m7,if_neg j]at h ⊢
   cases w:(first++args++captured).mapM (view H.get depth) with
   | none=>rw[w]at h;simp[mQ,E3,qn]at h
   | some xs=>
    rw[w]at h
    dsimp only at h ⊢
    cases c:aF E fi xs with
    | none=>rw[c]at h;simp[mQ,E3,qn]at h
    | some y=>
     rw[c]at h
     obtain⟨n,i⟩:=Ba.1 c
     refine⟨n,λm e=>?_⟩
     rw[i m e]
     exact h
 ·have l : ∀pc,ku E pc H.get r f args=none:=by
   intro pc
   unfold ku
   split
   ·exact(u ⟨_,_,_,rfl⟩).elim
   ·rfl
  by_cases c : ∃q,f=some (.yld q)
  ·obtain⟨q,rfl⟩:=c
   rw[l]at h
   cases g with
   | false=>simp[mQ,E3]at h
   | true=>
    have p:qn true E.sm H (cg E dep (.yld q) args H)=some (v,H'):=h
    obtain⟨H1,d,_⟩:=FV p
    obtain⟨n,i⟩:=ze.1 d
    refine⟨n,λm e=>?_⟩
    rw[l]
    show qn true E.sm H (fg E (bR E m) dep (.yld q) args H)=_
    rw[i m e]
    rw[d]at p
    exact p
  ·have j : ∀pc tc,m7 E pc tc H r f args=none:=by
    intro pc tc
    unfold m7
    split
    ·exact(u ⟨_,_,_,rfl⟩).elim
    ·exact(c ⟨_,rfl⟩).elim
    ·rfl
   rw[l,j]at h
   cases g<;>simp[mQ,E3,qn]at h
theorem IQ{E:Env}{dep:Nat}{draw j:Bool}{s:eB}{H:ai}{r:Ref}{o:Oper} :
 (∀q v,xS E (aF E) (cg E dep) dep draw j s H r o = .inl q->q=some (v,[]) ->∃n,∀m,n<=m->xS E (bG E (bR E m)) (fg E (bR E m) dep) dep draw j s H r o = .inl (some (v,[]))) /\
 (∀w v H',xS E (aF E) (cg E dep) dep draw j s H r o = .inr w->w=some (v,H') ->∃n,∀m,n<=m->xS E (bG E (bR E m)) (fg E (bR E m) dep) dep draw j s H r o = .inr (some (v,H'))):=by
 constructor
 ·intro q v h z
  subst z
  refine⟨0,λm _=>?_⟩
  unfold xS at h ⊢
  generalize o.op=op at h ⊢
  cases op
  all_goals try exact h
  case makeMap a b=>cases b<;>exact h
  rename_i c
  dsimp only at h ⊢
  cases g:CY (cK s) c.args.toList with
  | none=>rw[g]at h;exact h
  | some args=>
   rw[g]at h
   dsimp only at h ⊢
   cases e:c.callee with
   | value f=>
    rw[e]at h
    dsimp only at h ⊢
    cases d:EB E.ur draw f with
    | some t=>rw[d]at h;exact h
    | none=>rw[d]at h;dsimp only at h;split at h<;>cases h
   | invoke a b=>rw[e]at h;exact h
   | builtin b=>rw[e]at h;exact h
 ·intro w v H' h u
  subst u
  unfold xS at h ⊢
  generalize o.op=op at h ⊢
  cases op
  all_goals try (exact⟨0,λm _=>h⟩)
  case makeMap a b=>cases b<;>exact⟨0,λm _=>h⟩
  rename_i c
  dsimp only at h ⊢
  cases g:CY (cK s) c.args.toList with
  | none=>rw[g]at h;cases h
  | some args=>
   rw[g]at h
   dsimp only at h ⊢
   cases e:c.callee with
   | value f=>
    rw[e]at h
    dsimp only at h ⊢
    cases d:EB E.ur draw f with
    | some t=>rw[d]at h;cases h
    | none=>
    rw[d]at h
    dsimp only at h ⊢
    cases i:E.kH o with
    | true=>
     rw[i]at h
     simp only[Cc]at h
     obtain⟨n,p⟩:=Kt h
     exact⟨n,λm l=>congrArg _ (p m l)⟩
    | false=>
     rw[i]at h
     simp only[Cc]at h
     obtain⟨n,p⟩:=MZ h
     exact⟨n,λm l=>congrArg _ (p m l)⟩
   | invoke a b=>rw[e]at h;cases h
   | builtin b=>rw[e]at h;exact⟨0,λm _=>h⟩
abbrev Mk{α:Type}(a:α):Type:=Unit
structure iZ (q:jw) (K:AV->Prop) (m:Mk K:=()):Prop where
 h : ∃v,q=some (v,[])/\K v
structure m4 (w:du) (K:AV->ai->Prop) (m:Mk K:=()):Prop where
 h : ∃v H,w=some (v,H)/\K v H
def X0(x:AV)(c:Bool):Option Bool:=
 match x with
 | .v (.bool b)=>some (b == c)
 | .v (.tuple d)=>if d.isEmpty then some false else none
 | _=>none
def gd(x:AV)(c:Bool)(A B:Prop):Prop:=
 match X0 x c with
 | some true=>A
 | some false=>B
 | none=>False
structure gQ (x:AV) (want:Bool) (q:jw) (K:AV->Prop) (m:Mk (q,K):=()):Prop where
 h:gd x want (iZ q K) (K AV.undef)
structure gW (x:AV) (want:Bool) (H:ai) (w:du) (K:AV->ai->Prop) (m:Mk (w,K):=()):Prop where
 h:gd x want (m4 w K) (K AV.undef H)
def brP(x:Option AV)(A B:Prop):Prop:=
 match x.bind Ed with
 | some b=>cond b A B
 | none=>False
structure br (x:Option AV) (A B:Prop) (m:Mk (A,B):=()):Prop where
 h:brP x A B
def Kk(ops:Array Oper)(s:eB)(o:Oper):Option (Option (AV × Bool)):=
 match o.guard with
 | none=>none
 | some (j,want)=>match (ops[j]?).bind (·.dst) with
  | some t=>some (some (s t,want))
  | none=>some none
def HT(nt:Nat)(s:eB)(c:Option Tmp)(v:AV)(K:eB->Prop):Prop:=
 match c with
 | none=>K s
 | some d=>cond (Nat.blt d nt) (K (aak s d v)) False
def wpOp(E:Env)(nt dep:Nat)(draw:Bool)(ops:Array Oper)(o:Oper)(s:eB)(H:ai)(K:eB->ai->Prop):Prop:=
 match xS E (aF E) (cg E dep) dep draw (!(draw && !jo E o)) s H ⟨dep,o.dst.getD 0,H.gen dep (o.dst.getD 0),0⟩ o with
 | .inl q=>match Kk ops s o with
  | none=>(match o.op with
   | .move x | .assign x=>(match cK s x with
    | some v=>HT nt s o.dst v λs=>K s H
    | none=>False)
   | _=>iZ q λv=>HT nt s o.dst v λs=>K s H)
  | some (some (x,want))=>gQ x want q λv=>HT nt s o.dst v λs=>K s H
  | some none=>HT nt s o.dst AV.undef λs=>K s H
 | .inr w=>match Kk ops s o with
  | none=>m4 w λv H=>HT nt s o.dst v λs=>K s H
  | some (some (x,want))=>gW x want H w λv H=>HT nt s o.dst v λs=>K s H
  | some none=>HT nt s o.dst AV.undef λs=>K s H
def wpOps(E:Env)(nt dep:Nat)(draw:Bool)(ops:Array Oper):List Oper->eB->ai->(eB->ai->Prop)->Prop
 | [],s,H,K=>K s H
 | o :: os,s,H,K=>wpOp E nt dep draw ops o s H λs H=>wpOps E nt dep draw ops os s H K
def Fin(E:Env)(fn:Func)(rd:Option Ref)(o:Option St)(y:AV)(H':ai):Prop:=match rd with
 | none =>∃st,o=some st/\xN E.P fn st=some y/\st.hp=H'
 | some r =>∃st n,o=wY (some r) st n/\y = .v (.int .i64 (n:Nat))/\st.hp=H'
def Goes(E:Env)(fn:Func)(rd:Option Ref)(dep:Nat)(c:List Item)(s:eB)(H:ai)(Q:AV->ai->Prop):Prop:=
 ∀tm,eC tm s ->∃y H',Q y H' /\∃n,∀m,n<=m->Fin E fn rd (bR E m rd fn.ntmps dep c ⟨tm,H⟩) y H'
def OL(g:eB):List (Nat × AV)->eB
 | [],i=>g i
 | (j,v) :: l,i=>cond (Nat.beq i j) v (OL g l i)
structure XN (E:Env) (fn:Func) (rd:Option Ref) (dep:Nat) (items:List Item) (l:List (Nat × AV)) (H:ai) (Q:AV->ai->Prop):Prop where
 h : ∀g,Goes E fn rd dep items (OL g l) H Q
abbrev bN(E:Env)(fn:Func)(dep:Nat)(c:List Item)(l:List (Nat × AV))(H:ai)(Q:AV->ai->Prop):Prop:=XN E fn none dep c l H Q
def CE(s:eB):List Nat->List (Nat × AV)
 | []=>[]
 | t :: c=>(t,s t) :: CE s c
theorem Ul(s:eB)(l:List Nat):OL s (CE s l)=s:=by
 induction l with
 | nil=>rfl
 | cons t l c=>
  funext i
  show cond (Nat.beq i t) (s t) (OL s (CE s l) i)=s i
  rw[c]
  cases h:Nat.beq i t with
  | true=>rw[kP h];rfl
  | false=>rfl
def lD:Code->Option Nat
 | .region id _ _=>some id
 | .seq a b=>match lD a with
  | some i=>some i
  | none=>lD b
 | .cond _ a b=>match lD a with
  | some i=>some i
  | none=>lD b
 | .block _ c | .loop c | .scope c=>lD c
 | _=>none
def Ar(P:Program)(H:ai)(x:AV)(t:TypeId):jw:=
 match x,dI P t,aL P t with
 | .ptr r i j,some g,some n=>match H.get r with
  | some b=>jQ (bX b.es i j n g)
  | none=>none
 | _,_,_=>none
def pack:List AV->AV
 | [] => .v (.tuple #[])
 | [x]=>x
 | xs => .tup xs
def FR(P:Program)(s:eB)(H:ai)(Q:AV->ai->Prop):List ResultVar->List AV->Prop
 | [],acc=>Q (pack acc.reverse) H
 | .tmp t :: rs,acc=>FR P s H Q rs (s t :: acc)
 | .cell a t :: rs,acc=>iZ (Ar P H (s a) t) λv=>FR P s H Q rs (v :: acc)
def re(x y:AV):Bool:=match jA x,jA y with
 | some r,some r'=>decide (r≠r')
 | _,_=>true
def wT(H:ai)(x:AV):Bool:=match x with
 | .ptr r _ _=>(match H.get r with
  | some b => !b.arr
  | none=>false)
 | _=>true
def bsV(x:AV):Bool:=match x with
 | .cL .. => true
 | .v _=>true
 | _=>false
def TL(s:eB)(p:Tmp × Tmp):Bool:=re (s p.1) (s p.2)
def Gq(s:eB)(H:ai)(o:Oper):Bool:=match o.op with
 | .store _ (.tmp t) _=>wT H (s t)
 | _=>true
def Qp(E:Env)(s:eB)(o:Oper):Bool := !(E.kH o&&Bi o.op)||(match YZ o.op with
 | some t=>bsV (s t)
 | none=>false)
def Vx(E:Env)(l:List (Tmp × Tmp))(ops:Array Oper)(s:eB)(H:ai):Prop:=l.all (TL s)=true/\ops.toList.all (Gq s H)=true/\ops.toList.all (Qp E s)=true
def mZ(l:List (AV × AV))(st c:List AV)(H:ai):Prop:=(l.all λp=>re p.1 p.2)=true/\st.all (wT H)=true/\c.all bsV=true
def Yb(assign body:Code):Nat:=match lD (.seq assign body) with
 | some i=>i+10000
 | none=>10000
structure bgP (o:Option (Nat × AV)) (K:AV->Prop) (m:Mk K:=()):Prop where
 h : ∃info,o=some (0,info)/\K info
def KQ(P:Program)(fn:Func)(rd:Option Ref)(c:Nat)(s:eB)(H:ai)(Q:AV->ai->Prop):Prop:=match rd with
 | none=>cond (Nat.ble c 2) (FR P s H Q fn.results.toList []) False
 | some _=>Q (.v (.int .i64 c)) H
def wp(E:Env)(fn:Func)(rd:Option Ref)(dep:Nat)(live:Nat->Option (List Nat))(cut:Nat->Bool)(Q:AV->ai->Prop):Nat->List Item->eB->ai->Prop
 | 0,items,s,H=>Goes E fn rd dep items s H Q
 | n+1,items,s,H=>
  match items with
  | []=>KQ E.P fn rd 0 s H Q
  | .beginRound :: k=>(match rd with
   | none=>False
   | some r=>bgP (zb H r) λd=>wp E fn rd dep live cut Q n k s (H.put r (some (kE 1 d))))
  | .code c :: k=>
   (match c with
   | .skip | .label _=>wp E fn rd dep live cut Q n k s H
   | .ret=>KQ E.P fn rd 2 s H Q
   | .seq a b=>wp E fn rd dep live cut Q n (.code a :: .code b :: k) s H
   | .cond c a b=>br (cK s c) (wp E fn rd dep live cut Q n (.code a :: k) s H) (wp E fn rd dep live cut Q n (.code b :: k) s H)
   | .block id b=>wp E fn rd dep live cut Q n (.code b :: .inBlock id :: k) s H
   | .scope b=>wp E fn rd dep live cut Q n (.code b :: .inScope b :: k) s H
   | .loop b=>(match (lD b).bind live with
    | some l=>XN E fn rd dep (.inLoop b :: k) (CE s l) H Q
    | none=>Goes E fn rd dep (.inLoop b :: k) s H Q)
   | .exit id=>(match exitTo id k with
    | some k'=>wp E fn rd dep live cut Q n k' s H
    | none=>KQ E.P fn rd (id+3) s H Q)
   | .rangeFunc g ps a b=>(match live (Yb a b) with
    | some l=>XN E fn rd dep (.code (.rangeFunc g ps a b) :: k) (CE s l) H Q
    | none=>Goes E fn rd dep (.code (.rangeFunc g ps a b) :: k) s H Q)
   | .region id ops draw=>(match cut id with
    | true=>(match live id with
     | some l=>XN E fn rd dep (.code (.region id ops draw) :: k) (CE s l) H Q
     | none=>False)
    | false=>wpOps E fn.ntmps dep draw ops ops.toList s H λs H=>
     (match draw,rM E ops with
     | true,p :: ps=>Vx E (p :: ps) ops s H/\wp E fn rd dep live cut Q n k s H
     | _,_=>wp E fn rd dep live cut Q n k s H))
   | _=>False)
  | .inLoop b :: k=>(match (lD b).bind live with
   | some l=>XN E fn rd dep (.inLoop b :: k) (CE s l) H Q
   | none=>Goes E fn rd dep (.inLoop b :: k) s H Q)
  | .inBlock _ :: k | .inScope _ :: k=>wp E fn rd dep live cut Q n k s H
  | _=>False
theorem tw{ops:Array Oper}{tm:List AV}{s:eB}(h:eC tm s)(o:Oper):wanted ops tm o=(match Kk ops s o with
 | none=>some true
 | some (some (x,c))=>X0 x c
 | some none=>some false):=by
 unfold wanted Kk
 split
 ·rename_i d;rw[d]
 ·rename_i j c d
  rw[d]
  dsimp only
  split
  ·rename_i t e
   rw[e]
   dsimp only
   rw[h t]
   rfl
  ·rename_i e
   rw[e]
theorem wc{nt:Nat}{s:eB}{c:Option Tmp}{v:AV}{K:eB->Prop}(h:HT nt s c v K) : ∃i,K i /\∀tm,eC tm s ->∃tm',dg nt tm c v=some tm'/\eC tm' i:=by
 unfold HT at h
 cases c with
 | none=>exact⟨s,h,λtm g=>⟨tm,rfl,g⟩⟩
 | some d=>
  dsimp only at h
  cases f:Nat.blt d nt with
  | false=>rw[f]at h;exact h.elim
  | true=>
   rw[f]at h
   refine⟨_,h,λtm g=>⟨_,?_,g.set d v⟩⟩
   have e:d<nt:=KL f
   simp only[dg,if_pos e]
theorem VY{E:Env}{nt dep:Nat}{draw:Bool}{ops:Array Oper}{o:Oper}{s:eB}{H:ai}{K:eB->ai->Prop}(h:wpOp E nt dep draw ops o s H K) :
 ∃c H',K c H' /\∀tm,eC tm s ->∃tm',eC tm' c /\∃n,∀m,n<=m->evalOp E (bG E (bR E m)) (fg E (bR E m) dep) nt dep draw ops o ⟨tm,H⟩=some ⟨tm',H'⟩:=by
 have run : ∀(v:AV)(H':ai)(c:eB),(∀tm,eC tm s->wanted ops tm o=some true)->(∃n,∀m,n<=m ->∀tm,eC tm s->qA E (bG E (bR E m)) (fg E (bR E m) dep) dep draw tm H o=some (v,H')) ->
  (∀tm,eC tm s ->∃tm',dg nt tm o.dst v=some tm'/\eC tm' c) ->
  ∀tm,eC tm s ->∃tm',eC tm' c /\∃n,∀m,n<=m->evalOp E (bG E (bR E m)) (fg E (bR E m) dep) nt dep draw ops o ⟨tm,H⟩=some ⟨tm',H'⟩:=by
  intro v H' c l ⟨n,A⟩ hp tm d
  obtain⟨tm',I,J⟩:=hp tm d
  refine⟨tm',J,n,λm z=>?_⟩
  rw[G9]
  dsimp only
  rw[l tm d,A m z tm d]
  dsimp only
  rw[I]
  rfl
 have i : ∀(c:eB),(∀tm,eC tm s->wanted ops tm o=some false)->(∀tm,eC tm s ->∃tm',dg nt tm o.dst AV.undef=some tm'/\eC tm' c) ->
  ∀tm,eC tm s ->∃tm',eC tm' c /\∃n,∀m,n<=m->evalOp E (bG E (bR E m)) (fg E (bR E m) dep) nt dep draw ops o ⟨tm,H⟩=some ⟨tm',H⟩:=by
  intro c l hp tm d
  obtain⟨tm',I,J⟩:=hp tm d
  refine⟨tm',J,0,λm _=>?_⟩
  rw[G9]
  dsimp only
  rw[l tm d]
  dsimp only
  rw[I]
  rfl
 unfold wpOp at h
 split at h
 ·rename_i q u
  have D : ∀v,q=some (v,[]) ->∃n,∀m,n<=m ->∀tm,eC tm s->qA E (bG E (bR E m)) (fg E (bR E m) dep) dep draw tm H o=some (v,H):=by
   intro v e
   obtain⟨n,A⟩:=IQ.1 q v u e
   exact⟨n,λm z tm d=>WZ d (A m z) rfl⟩
  split at h
  ·rename_i j
   have l : ∀tm,eC tm s->wanted ops tm o=some true:=λtm d=>by rw[tw d,j]
   have f : ∀v,q=some (v,[])->HT nt s o.dst v (λs=>K s H) ->∃c H',K c H' /\∀tm,eC tm s ->∃tm',eC tm' c /\∃n,∀m,n<=m->evalOp E (bG E (bR E m)) (fg E (bR E m) dep) nt dep draw ops o ⟨tm,H⟩=some ⟨tm',H'⟩:=by
    intro v e hp
    obtain⟨c,g,hp⟩:=wc hp
    exact⟨c,H,g,run v H c l (D v e) hp⟩
   split at h
   ·rename_i x G
    split at h
    ·rename_i v e
     refine f v ?_ h
     unfold xS at u
     simp only[G,En,e]at u
     rw[<-u];rfl
    ·exact h.elim
   ·rename_i x G
    split at h
    ·rename_i v e
     refine f v ?_ h
     unfold xS at u
     simp only[G,En,e]at u
     rw[<-u];rfl
    ·exact h.elim
   ·obtain⟨v,e,h⟩:=h.h
    exact f v e h
  ·rename_i x C j
   replace h:=h.h
   unfold gd at h
   split at h
   ·rename_i p
    obtain⟨v,e,h⟩:=h.h
    obtain⟨c,g,hp⟩:=wc h
    exact⟨c,H,g,run v H c (λtm d=>by rw[tw d,j];exact p) (D v e) hp⟩
   ·rename_i p
    obtain⟨c,g,hp⟩:=wc h
    exact⟨c,H,g,i c (λtm d=>by rw[tw d,j];exact p) hp⟩
   ·exact h.elim
  ·rename_i j
   obtain⟨c,g,hp⟩:=wc h
   exact⟨c,H,g,i c (λtm d=>by rw[tw d,j]) hp⟩
 ·rename_i w l
  have F : ∀v H',w=some (v,H') ->∃n,∀m,n<=m ->∀tm,eC tm s->qA E (bG E (bR E m)) (fg E (bR E m) dep) dep draw tm H o=some (v,H'):=by
   intro v H' e
   obtain⟨n,A⟩:=IQ.2 w v H' l e
   exact⟨n,λm z tm d=>WY d (A m z) rfl⟩
  split at h
  ·rename_i j
   obtain⟨v,H',e,h⟩:=h.h
   obtain⟨c,g,hp⟩:=wc h
   exact⟨c,H',g,run v H' c (λtm d=>by rw[tw d,j]) (F v H' e) hp⟩
  ·rename_i x C j
   replace h:=h.h
   unfold gd at h
   split at h
   ·rename_i p
    obtain⟨v,H',e,h⟩:=h.h
    obtain⟨c,g,hp⟩:=wc h
    exact⟨c,H',g,run v H' c (λtm d=>by rw[tw d,j];exact p) (F v H' e) hp⟩
   ·rename_i p
    obtain⟨c,g,hp⟩:=wc h
    exact⟨c,H,g,i c (λtm d=>by rw[tw d,j];exact p) hp⟩
   ·exact h.elim
  ·rename_i j
   obtain⟨c,g,hp⟩:=wc h
   exact⟨c,H,g,i c (λtm d=>by rw[tw d,j]) hp⟩
theorem SD{E:Env}{nt dep:Nat}{draw:Bool}{ops:Array Oper}{K:eB->ai->Prop} : ∀ {l:List Oper} {s:eB} {H:ai},wpOps E nt dep draw ops l s H K ->
 ∃g H',K g H' /\∀tm,eC tm s ->∃tm',eC tm' g /\∃n,∀m,n<=m->nu E (bG E (bR E m)) (fg E (bR E m) dep) nt dep draw ops l ⟨tm,H⟩=some ⟨tm',H'⟩:=by
 intro l
 induction l with
 | nil=>intro s H h;exact⟨s,H,h,λtm f=>⟨tm,f,0,λm _=>rfl⟩⟩
 | cons o l q=>
  intro s H h
  obtain⟨s1,H1,j,e⟩:=VY h
  obtain⟨s2,v,u,d⟩:=q j
  refine⟨s2,v,u,λtm f=>?_⟩
  obtain⟨tm1,t1,n1,i⟩:=e tm f
  obtain⟨c,t2,n2,p⟩:=d tm1 t1
  exact⟨c,t2,max n1 n2,λm w=>by simp only[nu,i m (by omega),p m (by omega)]⟩
theorem SC{P:Program}{fn:Func}{s:eB}{H:ai}{Q:AV->ai->Prop} : ∀ {rs:List ResultVar} {c:List AV},FR P s H Q rs c ->
 ∃ys,Q (pack (c.reverse++ys)) H /\∀tm,eC tm s->rs.mapM (lK P ⟨tm,H⟩)=some ys:=by
 intro rs
 induction rs with
 | nil=>intro c h;exact⟨[],by simpa [FR] using h,λtm _=>rfl⟩
 | cons r rs p=>
  intro c h
  cases r with
  | tmp t=>
   obtain⟨ys,l,m⟩:=p h
   refine⟨s t :: ys,by simpa using l,λtm f=>?_⟩
   simp only[ny,lK,m tm f,f t,tu,tZ,fH]
  | cell a t=>
   obtain⟨v,d,h⟩:=h.h
   obtain⟨ys,l,m⟩:=p h
   refine⟨v :: ys,by simpa using l,λtm f=>?_⟩
   have C:lK P ⟨tm,H⟩ (.cell a t)=some v:=by
    unfold Ar at d
    simp only[lK,f a]
    split at d
    ·rename_i r i j g n w A q
     rw[w,A,q]
     dsimp only
     split at d
     ·rename_i b u
      rw[u]
      dsimp only
      simp only[jQ,bO]at d
      obtain⟨z,D,e⟩:=d
      cases e
      exact D
     ·cases d
    ·cases d
   simp only[ny,C,m tm f,tu,tZ,fH]
theorem LA{E:Env}{fn:Func}{s:eB}{H:ai}{Q:AV->ai->Prop}(h:FR E.P s H Q fn.results.toList []) : ∃y,Q y H /\∀tm,eC tm s->xN E.P fn ⟨tm,H⟩=some y:=by
 obtain⟨ys,c,d⟩:=SC (fn:=fn) h
 refine⟨pack ys,by simpa using c,λtm e=>?_⟩
 unfold xN
 rw[d tm e]
 match ys with
 | []=>rfl
 | [x]=>rfl
 | x :: y :: zs=>rfl
theorem oL{E:Env}{fn:Func}{rd:Option Ref}{dep:Nat}{d c:List Item}{s:eB}{H:ai}{Q:AV->ai->Prop}
 (g : ∀n tm,bR E (n+1) rd fn.ntmps dep d ⟨tm,H⟩=bR E n rd fn.ntmps dep c ⟨tm,H⟩) (h:Goes E fn rd dep c s H Q):Goes E fn rd dep d s H Q:=by
 intro tm j
 obtain⟨y,H',e,n,f⟩:=h tm j
 refine⟨y,H',e,n+1,λm l=>?_⟩
 obtain⟨m,rfl⟩ : ∃i,m=i+1:=⟨m - 1,by omega⟩
 rw[g]
 exact f m (by omega)
theorem RS{E:Env}{fn:Func}{rd:Option Ref}{dep:Nat}{b:Code}{k:List Item}{s:eB}{H:ai}{Q:AV->ai->Prop}(h:Goes E fn rd dep (.code b :: .inLoop b :: k) s H Q):Goes E fn rd dep (.inLoop b :: k) s H Q:=
 oL (λn tm=>by simp only[bR]) h
theorem O5{E:Env}{fn:Func}{rd:Option Ref}{dep:Nat}{b:Code}{k:List Item}{s:eB}{H:ai}{Q:AV->ai->Prop}(h:Goes E fn rd dep (.inLoop b :: k) s H Q):Goes E fn rd dep (.code (.loop b) :: k) s H Q:=by
 intro tm g
 obtain⟨y,H',c,n,d⟩:=h tm g
 refine⟨y,H',c,n+1,λm i=>?_⟩
 obtain⟨m,rfl⟩ : ∃f,m=f+1:=⟨m - 1,by omega⟩
 have:=d (m+1) (by omega)
 have e:bR E (m+1) rd fn.ntmps dep (.code (.loop b) :: k) ⟨tm,H⟩=bR E (m+1) rd fn.ntmps dep (.inLoop b :: k) ⟨tm,H⟩:=by simp only[bR]
 rw[e]
 exact this
theorem I5{E:Env}{fn:Func}{rd:Option Ref}{dep:Nat}{c:List Item}{s:eB}{l:List Nat}{H:ai}{Q:AV->ai->Prop}(h:XN E fn rd dep c (CE s l) H Q):Goes E fn rd dep c s H Q:=by
 have:=h.h s
 rwa [Ul]at this
theorem G4{E:Env}{fn:Func}{rd:Option Ref}{dep c:Nat}{d:List Item}{s:eB}{H:ai}{Q:AV->ai->Prop}
 (g : ∀n tm,rd.isSome=true\/c<=2->bR E (n+1) rd fn.ntmps dep d ⟨tm,H⟩=(match rd with | none=>some ⟨tm,H⟩ | some r=>wY (some r) ⟨tm,H⟩ c)) (h:KQ E.P fn rd c s H Q):Goes E fn rd dep d s H Q:=by
 intro tm p
 cases rd with
 | none=>
  unfold KQ at h
  dsimp only at h
  cases e:Nat.ble c 2 with
  | false=>rw[e]at h;exact h.elim
  | true=>
   rw[e]at h
   obtain⟨y,j,l⟩:=LA h
   refine⟨y,H,j,1,λm i=>?_⟩
   obtain⟨m,rfl⟩ : ∃f,m=f+1:=⟨m - 1,by omega⟩
   exact⟨⟨tm,H⟩,g m tm (.inr (KL e)),l tm p,rfl⟩
 | some r=>
  refine⟨.v (.int .i64 c),H,h,1,λm i=>?_⟩
  obtain⟨m,rfl⟩ : ∃f,m=f+1:=⟨m - 1,by omega⟩
  exact⟨⟨tm,H⟩,c,g m tm (.inl rfl),rfl,rfl⟩
theorem Se{E:Env}{ops:Array Oper}{s:eB}{H:ai}{tm:List AV}(c:eC tm s)(h:Vx E (rM E ops) ops s H):tj E ops ⟨tm,H⟩=true:=by
 unfold tj
 rw[fe,bh]
 refine .inr ⟨?_,?_⟩
 ·refine Eq.trans ?_ h.1
  congr 1
  funext p
  unfold Ex TL re
  rw[c,c]
  rfl
 ·rw[bh]
  refine⟨Eq.trans ?_ h.2.1,Eq.trans ?_ h.2.2⟩
  ·congr 1
   funext o
   unfold xK Gq
   generalize o.op=op
   cases op<;>try rfl
   rename_i t a x
   cases a<;>try rfl
   rename_i t'
   dsimp only
   rw[c t']
   rfl
  ·congr 1
   funext o
   unfold Hn Qp
   congr 1
   cases YZ o.op with
   | none=>rfl
   | some t=>
    dsimp only
    rw[c t]
    rfl
theorem KP{E:Env}{fn:Func}{rd:Option Ref}{dep:Nat}{live:Nat->Option (List Nat)}{cut:Nat->Bool}{Q:AV->ai->Prop} : ∀ {n:Nat} {d:List Item} {s:eB} {H:ai},
 wp E fn rd dep live cut Q n d s H->Goes E fn rd dep d s H Q:=by
 intro n
 induction n with
 | zero=>intro d s H h;exact h
 | succ n f=>
  intro d s H h
  have g : ∀ {k:List Item} {x:Option (List Nat)},(match x with | some l=>XN E fn rd dep k (CE s l) H Q | none=>Goes E fn rd dep k s H Q)->Goes E fn rd dep k s H Q:=by
   intro k x h
   cases x with
   | some l=>exact I5 h
   | none=>exact h
  unfold wp at h
  split at h
  ·exact G4 (λn tm _=>by cases rd<;>simp only[bR]) h
  ·rename_i k
   split at h
   ·exact h.elim
   ·rename_i r
    obtain⟨info,M,h⟩:=h.h
    intro tm i
    obtain⟨y,H',u,n,G⟩:=f h tm i
    refine⟨y,H',u,n+1,λm J=>?_⟩
    obtain⟨m,rfl⟩ : ∃q,m=q+1:=⟨m - 1,by omega⟩
    have:=G m (by omega)
    have e:bR E (m+1) (some r) fn.ntmps dep (.beginRound :: k) ⟨tm,H⟩=bR E m (some r) fn.ntmps dep k ⟨tm,H.put r (some (kE 1 info))⟩:=by simp only[bR,M]
    rw[e]
    exact this
  ·rename_i c k
   split at h
   ·exact oL (λn tm=>by simp only[bR]) (f h)
   ·exact oL (λn tm=>by simp only[bR]) (f h)
   ·exact G4 (λn tm _=>by cases rd<;>simp[bR,wY]) h
   ·exact oL (λn tm=>by simp only[bR]) (f h)
   ·rename_i c a b
    replace h:=h.h
    unfold brP at h
    split at h
    ·rename_i w L
     have A:Goes E fn rd dep (.code (cond w a b) :: k) s H Q:=by cases w<;>exact f h
     intro tm i
     obtain⟨y,H',u,n,G⟩:=A tm i
     refine⟨y,H',u,n+1,λm J=>?_⟩
     obtain⟨m,rfl⟩ : ∃q,m=q+1:=⟨m - 1,by omega⟩
     have:=G m (by omega)
     have e:bR E (m+1) rd fn.ntmps dep (.code (.cond c a b) :: k) ⟨tm,H⟩=bR E m rd fn.ntmps dep (.code (cond w a b) :: k) ⟨tm,H⟩:=by
      simp only[bR,xZ i,L]
      cases w<;>rfl
     rw[e]
     exact this
    ·exact h.elim
   ·exact oL (λn tm=>by simp only[bR]) (f h)
   ·exact oL (λn tm=>by simp only[bR]) (f h)
   ·exact O5 (g h)
   ·rename_i id
    split at h
    ·rename_i k' F
     exact oL (λn tm=>by simp only[bR,F]) (f h)
    ·rename_i F
     exact G4 (λn tm v=>by
      simp only[bR,F]
      cases rd with
      | none=>
       rcases v with v | v
       ·cases v
       ·omega
      | some r=>rfl) h
   ·exact g h
   ·rename_i id ops draw
    split at h
    ·split at h
     ·exact I5 h
     ·exact h.elim
    ·obtain⟨I,H',j,D⟩:=SD h
     have N:Goes E fn rd dep k I H' Q /\∀tm,eC tm I->(draw && !tj E ops ⟨tm,H'⟩)=false:=by
      cases draw with
      | false=>exact⟨f j,λ_ _=>rfl⟩
      | true=>
       cases hp:rM E ops with
       | nil=>
        rw[hp]at j
        refine⟨f j,λtm i=>?_⟩
        unfold tj
        rw[hp]
        rfl
       | cons p ps=>
        rw[hp]at j
        exact⟨f j.2,λtm i=>by rw[Se i (by rw[hp];exact j.1)];rfl⟩
     obtain⟨A,z⟩:=N
     intro tm i
     obtain⟨tm1,t1,n1,K⟩:=D tm i
     obtain⟨y,O,u,n2,C⟩:=A tm1 t1
     refine⟨y,O,u,max n1 n2+1,λm J=>?_⟩
     obtain⟨m,rfl⟩ : ∃q,m=q+1:=⟨m - 1,by omega⟩
     have:=C m (by omega)
     have e:bR E (m+1) rd fn.ntmps dep (.code (.region id ops draw) :: k) ⟨tm,H⟩=bR E m rd fn.ntmps dep k ⟨tm1,H'⟩:=by
      simp only[bR,K m (by omega),z tm1 t1]
      simp
     rw[e]
     exact this
   ·exact h.elim
  ·exact g h
  ·exact oL (λn tm=>by simp only[bR]) (f h)
  ·exact oL (λn tm=>by simp only[bR]) (f h)
  ·exact h.elim
def rL:Nat->List AV->List (Nat × AV)
 | _,[]=>[]
 | i,x :: xs=>(i,x) :: rL (i+1) xs
theorem GM(args:List AV)(i:Nat):OL (λ_=>AV.undef) (rL 0 args) i=dH args i:=by
 have : ∀(j:Nat)(l:List AV),OL (λ_=>AV.undef) (rL j l) (j+i)=dH l i:=by
  induction i with
  | zero=>
   intro j l
   cases l with
   | nil=>rfl
   | cons x l=>
    show cond (Nat.beq (j+0) j) x _=x
    rw[show Nat.beq (j+0) j=true from by simp]
    rfl
  | succ i c=>
   intro j l
   cases l with
   | nil=>rfl
   | cons x l=>
    show cond (Nat.beq (j+(i+1)) j) x (OL (λ_=>AV.undef) (rL (j+1) l) (j+(i+1)))=dH l i
    have e:Nat.beq (j+(i+1)) j=false:=by
     cases h:Nat.beq (j+(i+1)) j with
     | false=>rfl
     | true=>have:=kP h;omega
    rw[e]
    show OL _ _ _=_
    rw[<-c (j+1) l,show j+1+i=j+(i+1) by omega]
 simpa using this 0 args
def handed(E:Env)(f:FuncId)(x:AV)(H:ai)(y:AV):Prop:=
 if Az (E.mode f)=true then (ay H.get depth x).Nodup/\dM H.get depth x=some y else view H.get depth x=some y
theorem W8{E:Env}{f:FuncId}{fn:Func}{c:Code}{args:List AV}{y:AV}(j:E.spec f args=none)(g:E.allowed f=true)(w:E.P.funcs[f]?=some fn)(q:fn.body=some c)(v:Nat.ble args.length fn.ntmps=true)
 (h:bN E fn 0 [.code c] (rL 0 args) [] λx H=>handed E f x H y):aF E f args=some y:=by
 rw[Ba]
 obtain⟨x,H,d,n,p⟩:=h.h (λ_=>AV.undef) args λi=>(GM args i).symm
 refine⟨n,λm l=>?_⟩
 obtain⟨st,e,z,u⟩:=p m l
 subst u
 unfold bG
 rw[j]
 unfold vp
 simp only[g,if_true,w,q,if_pos (KL v),e,z,Option.map_some]
 unfold handed at d
 split
 ·rename_i e
  rw[if_pos e]at d
  rw[if_pos d.1]
  exact d.2
 ·rename_i e
  rw[if_neg e]at d
  exact d
theorem lB{E:Env}{f:FuncId}{fn:Func}{c:Code}{dep:Nat}{args:List AV}{H:ai}{Q:AV->ai->Prop}(j:E.mode f=2)(d:E.allowed f=true)(z:E.P.funcs[f]?=some fn)(p:fn.body=some c)(v:Nat.ble args.length fn.ntmps=true)
 (h:bN E fn (dep+1) [.code c] (rL 0 args) H Q) (e:E.thrSpec f args H=none:=by rfl) : ∃y H',cg E dep (.fn f) args H=some (y,H')/\Q y H':=by
 obtain⟨x,H1,w,n,l⟩:=h.h (λ_=>AV.undef) args λi=>(GM args i).symm
 refine⟨x,H1,ze.2 ⟨n,λm g=>?_⟩,w⟩
 obtain⟨st,q,A,u⟩:=l m g
 unfold fg
 dsimp only
 rw[e]
 dsimp only
 rw[if_pos j]
 unfold vp
 simp only[d,if_true,z,p,if_pos (KL v),q,A,Option.map_some,u]
theorem UM{E:Env}{fn:Func}{dep nt:Nat}{r:Ref}{f:FuncId}{ps:List Tmp}{assign body:Code}{tm:List AV}{args:List AV}{H:ai}{Q:AV->ai->Prop}
 (I:zb H r=some (0,.lp f nt ps assign body tm)) (C:fn.ntmps=nt) (hp:args.length=ps.length) (q:ps.all (· < nt)=true) (G:codeOk E.ok assign=true) (D:codeOk E.ok body=true)
 (h:Goes E fn (some r) (dep+1) [.code assign,.beginRound,.code body] (dH (wU tm ps args)) H λx H' =>∃c:Nat,x = .v (.int .i64 c) /\∃d g,zb H' r=some (1,d)/\g=H'.put r (some (kE c d)) /\
  zb g r=some (c,d)/\(c=0->Q (.v (.bool true)) g)/\(2<=c->Q (.v (.bool false)) g)/\c≠1) :
 ∃y H',cg E dep (.yld r) args H=some (y,H')/\Q y H':=by
 obtain⟨x,H1,⟨c,rfl,d,g,F,rfl,K,l,p,e⟩,n,u⟩:=h (wU tm ps args) (λi=>rfl)
 have key : ∀m,n<=m->A3 E (bR E m) (dep+1) r args H=some (.v (.bool (c == 0)),H1.put r (some (kE c d))):=by
  intro m A
  obtain⟨st,k,z,j,J⟩:=u m A
  injection j with j
  injection j with j w
  have w:c=k:=by exact_mod_cast w
  subst w
  subst C
  unfold A3
  rw[I]
  simp only
  rw[if_pos ⟨hp,q,G,D⟩,z]
  unfold wY
  simp only[J,F,K]
  match c with
  | 0=>rfl
  | 1=>exact(e rfl).elim
  | k+2=>rfl
 have aee : ∀m,n<=m->fg E (bR E m) dep (.yld r) args H=some (.v (.bool (c == 0)),H1.put r (some (kE c d))):=key
 refine⟨_,_,ze.2 ⟨n,aee⟩,?_⟩
 match c with
 | 0=>exact l rfl
 | 1=>exact(e rfl).elim
 | k+2=>exact p (by omega)
theorem O4{E:Env}{fn:Func}{dep:Nat}{g:Operand}{ps:Array Tmp}{assign body:Code}{k:List Item}{s:eB}{H:ai}{Q:AV->ai->Prop}{gi:FuncId}{first captured:List AV}
 (z:cK s g=some (.fn (.func gi) first captured))
 (h : ∀tm,eC tm s ->∃v c st d,cg E dep (.fn gi) (first++[.yld ⟨dep,fn.ntmps,H.gen dep fn.ntmps,0⟩]++captured) ((⟨dep,fn.ntmps,H.gen dep fn.ntmps,0⟩,some (kE 0 (.lp 0 fn.ntmps ps.toList assign body tm))) :: H)=some (v,c) /\
  zb c ⟨dep,fn.ntmps,H.gen dep fn.ntmps,0⟩=some (st,d) /\
  (
   (st=0/\Goes E fn none dep k s (c.put ⟨dep,fn.ntmps,H.gen dep fn.ntmps,0⟩ none) Q) \/
   (st=2/\FR E.P s (c.put ⟨dep,fn.ntmps,H.gen dep fn.ntmps,0⟩ none) Q fn.results.toList []) \/
   (∃id k',st=id+3/\exitTo id k=some k'/\Goes E fn none dep k' s (c.put ⟨dep,fn.ntmps,H.gen dep fn.ntmps,0⟩ none) Q))) :
 Goes E fn none dep (.code (.rangeFunc g ps assign body) :: k) s H Q:=by
 intro tm q
 obtain⟨v,c,st,d,C,u,A⟩:=h tm q
 obtain⟨n1,i⟩:=ze.1 C
 have j:aO tm g=some (.fn (.func gi) first captured):=by rw[xZ q];exact z
 rcases A with ⟨rfl,l⟩ | ⟨rfl,l⟩ | ⟨id,k',rfl,he,l⟩
 ·obtain⟨y,H',p,n2,f⟩:=l tm q
  refine⟨y,H',p,max n1 n2+1,λm w=>?_⟩
  obtain⟨m,rfl⟩ : ∃n,m=n+1:=⟨m - 1,by omega⟩
  have e:bR E (m+1) none fn.ntmps dep (.code (.rangeFunc g ps assign body) :: k) ⟨tm,H⟩=bR E m none fn.ntmps dep k ⟨tm,c.put ⟨dep,fn.ntmps,H.gen dep fn.ntmps,0⟩ none⟩:=by
   simp only[bR,j,i m (by omega),u]
  rw[e]
  exact f m (by omega)
 ·obtain⟨y,p,D⟩:=LA l
  refine⟨y,_,p,n1+1,λm w=>?_⟩
  obtain⟨m,rfl⟩ : ∃n,m=n+1:=⟨m - 1,by omega⟩
  have e:bR E (m+1) none fn.ntmps dep (.code (.rangeFunc g ps assign body) :: k) ⟨tm,H⟩=some ⟨tm,c.put ⟨dep,fn.ntmps,H.gen dep fn.ntmps,0⟩ none⟩:=by
   simp only[bR,j,i m (by omega),u]
  rw[e]
  exact⟨_,rfl,D tm q,rfl⟩
 ·obtain⟨y,H',p,n2,f⟩:=l tm q
  refine⟨y,H',p,max n1 n2+1,λm w=>?_⟩
  obtain⟨m,rfl⟩ : ∃n,m=n+1:=⟨m - 1,by omega⟩
  have e:bR E (m+1) none fn.ntmps dep (.code (.rangeFunc g ps assign body) :: k) ⟨tm,H⟩=bR E m none fn.ntmps dep k' ⟨tm,c.put ⟨dep,fn.ntmps,H.gen dep fn.ntmps,0⟩ none⟩:=by
   simp only[bR,j,i m (by omega),u,he]
  rw[e]
  exact f m (by omega)
theorem UN{E:Env}{f:FuncId}{args:List AV}{y:AV}(h:aF E f args=some y) : ∃n,bG E (bR E n) f args=some y:=by
 obtain⟨n,c⟩:=Ba.1 h
 exact⟨n,c n (dc _)⟩
def pH(r:Nat):Nat->List Item->Option (List Item)
 | 0,_=>none
 | n+1,items=>
  match items with
  | .code c :: k=>(match c with
   | .seq a b=>pH r n (.code a :: .code b :: k)
   | .cond _ a b=>(match pH r n (.code a :: k) with
    | some l=>some l
    | none=>pH r n (.code b :: k))
   | .block id b=>pH r n (.code b :: .inBlock id :: k)
   | .scope b=>pH r n (.code b :: .inScope b :: k)
   | .loop b=>(match lD b with
    | some i=>cond (Nat.beq i r) (some (.inLoop b :: k)) (pH r n (.code b :: .inLoop b :: k))
    | none=>none)
   | .exit id=>(match exitTo id k with
    | some k'=>pH r n k'
    | none=>none)
   | .skip | .label _ | .region _ _ _=>pH r n k
   | _=>none)
  | .inBlock _ :: k | .inScope _ :: k=>pH r n k
  | _=>none
def mq(r:Nat):Nat->List Item->Option (List Item)
 | 0,_=>none
 | n+1,items=>
  match items with
  | .code c :: k=>(match c with
   | .seq a b=>mq r n (.code a :: .code b :: k)
   | .cond _ a b=>(match mq r n (.code a :: k) with
    | some l=>some l
    | none=>mq r n (.code b :: k))
   | .block id b=>mq r n (.code b :: .inBlock id :: k)
   | .scope b=>mq r n (.code b :: .inScope b :: k)
   | .loop b=>mq r n (.code b :: .inLoop b :: k)
   | .exit id=>(match exitTo id k with
    | some k'=>mq r n k'
    | none=>none)
   | .rangeFunc _ _ a b=>cond (Nat.beq (Yb a b) r) (some items) (mq r n k)
   | .skip | .label _ | .region _ _ _=>mq r n k
   | _=>none)
  | .inBlock _ :: k | .inScope _ :: k=>mq r n k
  | _=>none
def rfA:List Item->Code
 | .code (.rangeFunc _ _ a _) :: _=>a
 | _ => .skip
def rfB:List Item->Code
 | .code (.rangeFunc _ _ _ b) :: _=>b
 | _ => .skip
def rfK:List Item->List Item
 | _ :: k=>k
 | []=>[]
def Pl:List Item->List Item
 | .inLoop b :: k => .code b :: .inLoop b :: k
 | l=>l
theorem U0{E:Env}{fn:Func}{rd:Option Ref}{dep:Nat}{c:List Item}{l:List (Nat × AV)}{H:ai}{Q:AV->ai->Prop}(h : ∀g,Goes E fn rd dep (Pl c) (OL g l) H Q):XN E fn rd dep c l H Q:=by
 refine⟨λg=>?_⟩
 have:=h g
 unfold Pl at this
 split at this
 ·exact RS this
 ·exact this
def oi(x:AV):Option (Option Int):=match intOf x with
 | some n=>some (some n)
 | none=>none
end Go.Ab
namespace Go.Ab
def VE(pc c:FuncId->List AV->Option AV):Prop :=∀f xs y,pc f xs=some y->c f xs=some y
def XM(tc c:xb->List AV->ai->du):Prop :=∀f xs H y,tc f xs H=some y->c f xs H=some y
theorem Oy{E:Env}{pc c:FuncId->List AV->Option AV}(hp:VE pc c){g:da}{r:Ref}{f:Option AV}{args:List AV}{z:AV × List bz}(h:ku E pc g r f args=some z):ku E c g r f args=some z:=by
 unfold ku at h ⊢
 split at h
 ·split at h
  ·cases h
  ·rename_i d
   rw[if_neg d]
   split at h
   ·rename_i xs i
    split at h
    ·rename_i y e
     rw[hp _ _ _ e]
     exact h
    ·cases h
   ·cases h
 ·cases h
theorem TY{E:Env}{pc d:FuncId->List AV->Option AV}{tc g:xb->List AV->ai->du}(hp:VE pc d)(j:XM tc g){H:ai}{r:Ref}{f:Option AV}{args:List AV} :
 (ku E pc H.get r f args=none ->∀z,m7 E pc tc H r f args=some z->m7 E d g H r f args=some z/\ku E d H.get r f args=none):=by
 intro c z h
 unfold ku at c ⊢
 unfold m7 at h ⊢
 split at h
 ·rename_i fi first captured
  dsimp only at c ⊢
  split at h
  ·rename_i e
   rw[if_pos e,if_pos e]
   exact⟨j _ _ _ _ h,rfl⟩
  ·rename_i e
   rw[if_neg e]at c
   rw[if_neg e,if_neg e]
   split at h
   ·rename_i xs l
    try rw[l]at c
    dsimp only at c ⊢
    simp only[bO]at h
    obtain⟨y,i,h⟩:=h
    rw[i]at c
    rw[hp _ _ _ i]
    exact⟨by rw[Option.map_some,h],c⟩
   ·cases h
 ·exact⟨j _ _ _ _ h,rfl⟩
 ·cases h
theorem Pb{E:Env}{pc d:FuncId->List AV->Option AV}{tc i:xb->List AV->ai->du}(hp:VE pc d)(I:XM tc i){dep:Nat}{draw:Bool}{tm:List AV}{H:ai}{o:Oper}{z:AV × ai}
 (h:qA E pc tc dep draw tm H o=some z):qA E d i dep draw tm H o=some z:=by
 by_cases v : ∃c f args,o.op = .call c/\c.args.toList.mapM (aO tm)=some args/\c.callee = .value f
 ·obtain⟨c,f,args,m,q,u⟩:=v
  unfold qA cE evalW at h ⊢
  simp only[m,q,u]at h ⊢
  cases l:EB E.ur draw f with
  | some t=>
   rw[l]at h
   dsimp only at h ⊢
   cases D:LK E.P H.get t args with
   | some p=>rw[D]at h;exact h
   | none=>
    rw[D]at h
    dsimp only at h ⊢
    split at h
    ·cases h
    ·rename_i w
     rw[if_neg w]
     have A : ∃g,f = .func g:=by unfold EB at l;split at l<;>simp_all
     obtain⟨g,rfl⟩:=A
     simp only[aO,m7]at h ⊢
     by_cases F:E.mode g=2
     ·rw[if_pos F]at h ⊢
      cases j:tc (.fn g) ([]++args++[]) H with
      | none=>rw[j]at h;unfold qn at h;split at h<;>(try split at h)<;>simp_all
      | some J=>rw[j]at h;rw[I _ _ _ _ j];exact h
     ·rw[if_neg F]at h ⊢
      cases G:([]++args++[]:List AV).mapM (view H.get depth) with
      | none=>rw[G]at h;exact h
      | some xs=>
       rw[G]at h
       dsimp only at h ⊢
       cases C:pc g xs with
       | none=>rw[C]at h;unfold qn at h;split at h<;>(try split at h)<;>simp_all
       | some y=>rw[C]at h;rw[hp _ _ _ C];exact h
  | none=>
  rw[l]at h
  dsimp only at h ⊢
  cases n:ku E pc H.get ⟨dep,o.dst.getD 0,H.gen dep (o.dst.getD 0),0⟩ (aO tm f) args with
  | some p=>
   rw[n]at h
   rw[Oy hp n]
   exact h
  | none=>
   rw[n]at h
   simp only[Eo]at h
   split at h
   ·cases h
   ·rename_i w
    cases j:m7 E pc tc H ⟨dep,o.dst.getD 0,H.gen dep (o.dst.getD 0),0⟩ (aO tm f) args with
    | none=>
     rw[j]at h
     unfold qn at h
     split at h
     ·rename_i e;cases e
     ·cases h
    | some J=>
     obtain⟨L,K⟩:=TY hp I n _ j
     rw[K,L]
     rw[j]at h
     simp only[Eo,if_neg w]
     exact h
 ·have:qA E pc tc dep draw tm H o=qA E d i dep draw tm H o:=by
   have n:cE E pc draw H.get tm ⟨dep,o.dst.getD 0,H.gen dep (o.dst.getD 0),0⟩ o=cE E d draw H.get tm ⟨dep,o.dst.getD 0,H.gen dep (o.dst.getD 0),0⟩ o:=by
    cases m:o.op<;>simp only[cE,m]
    case makeMap a b=>cases b<;>rfl
    rename_i c
    cases q:c.args.toList.mapM (aO tm) with
    | none=>rfl
    | some args=>
     cases u:c.callee with
     | value f=>exact(v ⟨c,f,args,m,q,u⟩).elim
     | invoke _ _=>rfl
     | builtin b=>rfl
   have j:evalW E pc tc H tm ⟨dep,o.dst.getD 0,H.gen dep (o.dst.getD 0),0⟩ o=evalW E d i H tm ⟨dep,o.dst.getD 0,H.gen dep (o.dst.getD 0),0⟩ o:=by
    cases m:o.op<;>simp only[evalW,m]
    rename_i c
    cases q:c.args.toList.mapM (aO tm) with
    | none=>rfl
    | some args=>
     cases u:c.callee with
     | value f=>exact(v ⟨c,f,args,m,q,u⟩).elim
     | invoke _ _=>rfl
     | builtin b=>rfl
   unfold qA
   rw[n,j]
  rw[<-this]
  exact h
theorem Ly{E:Env}{pc f:FuncId->List AV->Option AV}{tc e:xb->List AV->ai->du}(hp:VE pc f)(m:XM tc e){nt dep:Nat}{draw:Bool}{ops:Array Oper} : ∀ {l:List Oper} {st d:St},
 nu E pc tc nt dep draw ops l st=some d->nu E f e nt dep draw ops l st=some d:=by
 intro l
 induction l with
 | nil=>intro st d h;exact h
 | cons o l j=>
  intro st d h
  unfold nu at h ⊢
  cases c:evalOp E pc tc nt dep draw ops o st with
  | none=>rw[c]at h;cases h
  | some i=>
   rw[c]at h
   have:evalOp E f e nt dep draw ops o st=some i:=by
    rw[G9]at c ⊢
    cases hw:wanted ops st.tm o with
    | none=>rw[hw]at c;cases c
    | some b=>
     rw[hw]at c
     cases b with
     | false=>exact c
     | true=>
      dsimp only at c ⊢
      cases g:qA E pc tc dep draw st.tm st.hp o with
      | none=>rw[g]at c;cases c
      | some z=>rw[g]at c;rw[Pb hp m g];exact c
   rw[this]
   exact j h
theorem EN{E:Env}{run e:Option Ref->Nat->Nat->List Item->St->Option St}(p : ∀rd nt dep d st g,run rd nt dep d st=some g->e rd nt dep d st=some g){dep:Nat}{f:FuncId}{args:List AV}{H:ai}{z:AV × ai}
 (h:vp E run dep f args H=some z):vp E e dep f args H=some z:=by
 unfold vp at h ⊢
 split at h
 ·rename_i m
  rw[if_pos m]
  cases l:E.P.funcs[f]? with
  | none=>rw[l]at h;cases h
  | some fn=>
   rw[l]at h
   dsimp only at h ⊢
   cases j:fn.body with
   | none=>rw[j]at h;cases h
   | some c=>
    rw[j]at h
    dsimp only at h ⊢
    split at h
    ·rename_i n
     rw[if_pos n]
     cases i:run none fn.ntmps dep [.code c] ⟨args,H⟩ with
     | none=>rw[i]at h;cases h
     | some st=>rw[i]at h;rw[p _ _ _ _ _ _ i];exact h
    ·cases h
 ·cases h
theorem Bx{E:Env}{run d:Option Ref->Nat->Nat->List Item->St->Option St}(j : ∀rd nt dep c st e,run rd nt dep c st=some e->d rd nt dep c st=some e):VE (bG E run) (bG E d):=by
 intro f xs y h
 unfold bG at h ⊢
 cases i:E.spec f xs with
 | some s=>rw[i]at h;exact h
 | none=>
  rw[i]at h
  dsimp only at h ⊢
  cases g:vp E run 0 f xs [] with
  | none=>rw[g]at h;cases h
  | some z=>rw[g]at h;rw[EN j g];exact h
theorem Cv{E:Env}{run d:Option Ref->Nat->Nat->List Item->St->Option St}(j : ∀rd nt dep c st e,run rd nt dep c st=some e->d rd nt dep c st=some e)(dep:Nat):XM (fg E run dep) (fg E d dep):=by
 intro f xs H y h
 unfold fg at h ⊢
 cases f with
 | fn f=>
  dsimp only at h ⊢
  cases i:E.thrSpec f xs H with
  | some s=>rw[i]at h;exact h
  | none=>
  rw[i]at h
  dsimp only at h ⊢
  split at h
  ·rename_i l;rw[if_pos l];exact EN j h
  ·cases h
 | yld r=>
  dsimp only at h ⊢
  unfold A3 at h ⊢
  split at h
  ·rename_i f nt ps assign body tm n
   split at h
   ·rename_i m
    rw[if_pos m]
    cases g:run (some r) nt (dep+1) [.code assign,.beginRound,.code body] ⟨wU tm ps xs,H⟩ with
    | none=>rw[g]at h;cases h
    | some st=>rw[g]at h;rw[j _ _ _ _ _ _ g];exact h
   ·cases h
  ·cases h
theorem Rg{E:Env} : ∀(n:Nat)(rd:Option Ref)(nt dep:Nat)(d:List Item)(st f:St),bR E n rd nt dep d st=some f->bR E (n+1) rd nt dep d st=some f:=by
 intro n
 induction n with
 | zero=>intro rd nt dep d st f h;simp[bR]at h
 | succ n e=>
  intro rd nt dep d st f h
  unfold bR at h ⊢
  split at h
  ·exact h
  ·split at h
   ·exact h
   ·rename_i r
    split at h
    ·exact e _ _ _ _ _ _ h
    ·cases h
  ·split at h
   all_goals try exact h
   all_goals try exact e _ _ _ _ _ _ h
   ·rename_i c a b
    split at h
    ·exact e _ _ _ _ _ _ h
    ·exact e _ _ _ _ _ _ h
    ·cases h
   ·split at h
    ·exact e _ _ _ _ _ _ h
    ·exact h
   ·rename_i ops draw
    cases g:nu E (bG E (bR E n)) (fg E (bR E n) dep) nt dep draw ops ops.toList st with
    | none=>rw[g]at h;cases h
    | some i=>
     rw[g]at h
     rw[Ly (Bx e) (Cv e dep) g]
     dsimp only at h ⊢
     split at h
     ·cases h
     ·rename_i j
      rw[if_neg j]
      exact e _ _ _ _ _ _ h
   ·split at h
    ·split at h
     ·rename_i x H' g
      rw[Cv e dep _ _ _ _ g]
      dsimp only
      split at h
      ·exact e _ _ _ _ _ _ h
      ·exact h
      ·split at h
       ·exact e _ _ _ _ _ _ h
       ·cases h
      ·cases h
     ·cases h
    ·cases h
  all_goals try exact e _ _ _ _ _ _ h
  all_goals cases h
theorem Wz{E:Env}{n m:Nat}(e:n<=m){rd:Option Ref}{nt dep:Nat}{c:List Item}{st d:St}(h:bR E n rd nt dep c st=some d):bR E m rd nt dep c st=some d:=by
 induction e with
 | refl=>exact h
 | step _ f=>exact Rg _ _ _ _ _ _ _ f
theorem ED{E:Env}{n:Nat}{f:FuncId}{args:List AV}{y:AV}(h:bG E (bR E n) f args=some y):aF E f args=some y:=
 Ba.2 ⟨n,λ_ c=>Bx (λ_ _ _ _ _ _ h=>Wz c h) _ _ _ h⟩
end Go.Ab
namespace Go.Ab
abbrev aI(n:Int):AV := .v (.int .i64 n)
abbrev aB(b:Bool):AV := .v (.bool b)
def a8(n:UInt8):AV := .v (.int .u8 (n.toNat:Int))
def au(n:UInt32):AV := .v (.int .u32 (n.toNat:Int))
abbrev aS(s:ByteArray):AV := .v (.string s)
abbrev ct:AV := .v (.slice none 0 0)
theorem D9{w:du}{K:AV->ai->Prop}{m:Mk K}{v:AV}{H:ai}(c:w=some (v,H))(h:K v H):m4 w K m:=⟨v,H,c,h⟩
@[simp] theorem aeV(v:AV)(K:AV->Prop)(m:Mk K):iZ (some (v,[])) K m↔K v:=
 ⟨λ⟨⟨w,hw,h⟩⟩=>by cases hw;exact h,λh=>⟨v,rfl,h⟩⟩
@[simp] theorem ahA(c:Prop)[Decidable c](q:jw)(K:AV->Prop)(m:Mk K):iZ (if c then q else none) K m↔c/\iZ q K m:=by
 by_cases d:c
 ·simp[d]
 ·simp only[if_neg d,d,false_and,iff_false]
  rintro⟨v,e,_⟩;cases e
@[simp] theorem aeU(v:AV)(H:ai)(K:AV->ai->Prop)(m:Mk K):m4 (some (v,H)) K m↔K v H:=
 ⟨λ⟨⟨w,_,hw,h⟩⟩=>by cases hw;exact h,λh=>⟨v,H,rfl,h⟩⟩
@[simp] theorem ahz(c:Prop)[Decidable c](q:du)(K:AV->ai->Prop)(m:Mk K):m4 (if c then q else none) K m↔c/\m4 q K m:=by
 by_cases d:c
 ·simp[d]
 ·simp only[if_neg d,d,false_and,iff_false]
  rintro⟨v,_,e,_⟩;cases e
theorem Qq{x:Option AV}{A B:Prop}{m:Mk (A,B)}:br x A B m↔brP x A B:=⟨λh=>h.h,λh=>⟨h⟩⟩
@[simp] theorem agP(A B:Prop)(m:Mk (A,B)):br (some (aB true)) A B m↔A:=Qq
@[simp] theorem aeZ(A B:Prop)(m:Mk (A,B)):br (some (aB false)) A B m↔B:=Qq
theorem iK{b:Bool}{A B:Prop}{m:Mk (A,B)}(c:b=true->A)(d:b=false->B):br (some (aB b)) A B m:=by
 cases b
 ·exact⟨d rfl⟩
 ·exact⟨c rfl⟩
theorem aaI{p:Prop}[Decidable p]{A B:Prop}{m:Mk (A,B)}(c:p->A)(d : ¬p->B):br (some (aB (decide p))) A B m:=
 iK (λh=>c (of_decide_eq_true h)) (λh=>d (of_decide_eq_false h))
@[simp] theorem aev(q:jw)(K:AV->Prop)(m:Mk (q,K)):gQ (aB true) true q K m↔iZ q K:=⟨λh=>h.h,λh=>⟨h⟩⟩
@[simp] theorem aey(q:jw)(K:AV->Prop)(m:Mk (q,K)):gQ (aB false) false q K m↔iZ q K:=⟨λh=>h.h,λh=>⟨h⟩⟩
@[simp] theorem aew(q:jw)(K:AV->Prop)(m:Mk (q,K)):gQ (aB true) false q K m↔K AV.undef:=⟨λh=>h.h,λh=>⟨h⟩⟩
@[simp] theorem aex(q:jw)(K:AV->Prop)(m:Mk (q,K)):gQ (aB false) true q K m↔K AV.undef:=⟨λh=>h.h,λh=>⟨h⟩⟩
@[simp] theorem aiw(w:Bool)(q:jw)(K:AV->Prop)(m:Mk (q,K)):gQ AV.undef w q K m↔K AV.undef:=⟨λh=>h.h,λh=>⟨h⟩⟩
@[simp] theorem aer(H:ai)(q:du)(K:AV->ai->Prop)(m:Mk (q,K)):gW (aB true) true H q K m↔m4 q K:=⟨λh=>h.h,λh=>⟨h⟩⟩
@[simp] theorem aeu(H:ai)(q:du)(K:AV->ai->Prop)(m:Mk (q,K)):gW (aB false) false H q K m↔m4 q K:=⟨λh=>h.h,λh=>⟨h⟩⟩
@[simp] theorem aes(H:ai)(q:du)(K:AV->ai->Prop)(m:Mk (q,K)):gW (aB true) false H q K m↔K AV.undef H:=⟨λh=>h.h,λh=>⟨h⟩⟩
@[simp] theorem aet(H:ai)(q:du)(K:AV->ai->Prop)(m:Mk (q,K)):gW (aB false) true H q K m↔K AV.undef H:=⟨λh=>h.h,λh=>⟨h⟩⟩
@[simp] theorem aiv(w:Bool)(H:ai)(q:du)(K:AV->ai->Prop)(m:Mk (q,K)):gW AV.undef w H q K m↔K AV.undef H:=⟨λh=>h.h,λh=>⟨h⟩⟩
@[simp] theorem abx(v:AV):jQ (some v)=some (v,[]):=id rfl
@[simp] theorem abT(H:ai)(r:Ref)(v:AV)(c:List bz):mQ H r (some (v,c))=some (v,keyed r 0 c H):=id rfl
@[simp] theorem IU(H:ai)(r:Ref):mQ H r none=none:=id rfl
@[simp] theorem Z0(r:Ref)(k:Nat)(H:ai):keyed r k [] H=H:=id rfl
@[simp] theorem Z1(r:Ref)(k:Nat)(b:bz)(c:List bz)(H:ai):keyed r k (b :: c) H=keyed r (k+1) c (({ r with k:=k},some b) :: H):=id rfl
@[simp] theorem adT(c:Bool)(x:AV × ai)(b:du):E3 c (some x) b=some x:=id rfl
@[simp] theorem LZ(b:du):E3 true none b=b:=id rfl
@[simp] theorem ZR(a b:Option AV):At (some (aB true)) a b=jQ a:=id rfl
@[simp] theorem Yg(a b:Option AV):At (some (aB false)) a b=jQ b:=id rfl
@[simp] theorem aho(k:IntKind)(n:Int):oi (.v (.int k n))=some (some n):=id rfl
@[simp] theorem acu(cs:List AV):(AV.agg cs).cells=cs:=id rfl
@[simp] theorem agJ(x:Value):(AV.v x).cells=[.v x]:=id rfl
@[simp] theorem agK(x:UInt8):(a8 x).cells=[a8 x]:=id rfl
@[simp] theorem aeX(x:UInt32):(au x).cells=[au x]:=id rfl
@[simp] theorem acs(z:Nat)(es:List AV)(c:Option Nat):(AV.bW z es c).cells=[.bW z es c]:=id rfl
@[simp] theorem acr(r:Ref)(o n:Nat)(c:Option Nat):(AV.cL r o n c).cells=[.cL r o n c]:=id rfl
@[simp] theorem acq(r:Ref)(i j:Nat):(AV.ptr r i j).cells=[.ptr r i j]:=id rfl
@[simp] theorem aeW(f:Fn)(a b:List AV):(AV.fn f a b).cells=[.fn f a b]:=id rfl
@[simp] theorem af8(k:IntKind)(n:Int):(AV.v (.int k n)).one=true:=id rfl
@[simp] theorem adU(b:Bool):(AV.v (.bool b)).one=true:=id rfl
@[simp] theorem af6:ct.one=true:=id rfl
@[simp] theorem ahW(x:UInt8):(a8 x).one=true:=id rfl
@[simp] theorem ahn(x:UInt32):(au x).one=true:=id rfl
@[simp] theorem af7(z:Nat)(es:List AV)(c:Option Nat):(AV.bW z es c).one=true:=id rfl
@[simp] theorem af5(r:Ref)(o n:Nat)(c:Option Nat):(AV.cL r o n c).one=true:=id rfl
@[simp] theorem af4(r:Ref)(i j:Nat):(AV.ptr r i j).one=true:=id rfl
@[simp] theorem ahm(f:Fn)(a b:List AV):(AV.fn f a b).one=true:=id rfl
section
variable(P:Program)(t:TypeId)(xo yo:Operand)(k:IntKind)(a b:Int)
@[simp] theorem LQ:cf P .lss t xo yo (some (.v (.int k a))) (some (.v (.int k b)))=some (aB (decide (a<b)),[]):=by cases k<;>rfl
@[simp] theorem T8:cf P .leq t xo yo (some (.v (.int k a))) (some (.v (.int k b)))=some (aB (decide (a<=b)),[]):=by cases k<;>rfl
@[simp] theorem Ua:cf P .gtr t xo yo (some (.v (.int k a))) (some (.v (.int k b)))=some (aB (decide (b<a)),[]):=by cases k<;>rfl
@[simp] theorem Ub:cf P .geq t xo yo (some (.v (.int k a))) (some (.v (.int k b)))=some (aB (decide (b<=a)),[]):=by cases k<;>rfl
@[simp] theorem LR:cf P .eql t xo yo (some (.v (.int k a))) (some (.v (.int k b)))=some (aB (decide (a=b)),[]):=by
 have:(a == b)=decide (a=b):=by by_cases h:a=b<;>simp[h]
 rw[<-this];cases k<;>rfl
@[simp] theorem T6:cf P .neq t xo yo (some (.v (.int k a))) (some (.v (.int k b)))=some (aB (!decide (a=b)),[]):=by
 have:(a != b) = !decide (a=b):=by by_cases h:a=b<;>simp[h]
 rw[<-this];cases k<;>rfl
@[simp] theorem adP:cf P .add t xo yo (some (.v (.int k a))) (some (.v (.int k b)))=some (.v (.int k (k.wrap (a+b))),[]):=by cases k<;>rfl
@[simp] theorem adN:cf P .sub t xo yo (some (.v (.int k a))) (some (.v (.int k b)))=some (.v (.int k (k.wrap (a - b))),[]):=by cases k<;>rfl
@[simp] theorem adO:cf P .mul t xo yo (some (.v (.int k a))) (some (.v (.int k b)))=some (.v (.int k (k.wrap (a * b))),[]):=by cases k<;>rfl
theorem T4(d:b≠0):cf P .rem t xo yo (some (.v (.int k a))) (some (.v (.int k b)))=some (.v (.int k (a.tmod b)),[]):=by
 have h:Op.intDiv .rem k a b=pure (.int k (a.tmod b)):=by unfold Op.intDiv;rw[if_neg d]
 have c:CJ P .rem t xo yo (.int k a) (.int k b)=some (.int k (a.tmod b)):=by
  have:CJ P .rem t xo yo (.int k a) (.int k b)=bn P (Op.intDiv .rem k a b):=by cases k<;>rfl
  rw[this,h];rfl
 simp only[cf,Kj,oh,gJ,c,xg,FC,nz,if_false,fH,jR,scalar,if_true,jQ,Option.map_some]
theorem gm{c:IntKind}(e:0<=b):cf P .shr t xo yo (some (.v (.int k a))) (some (.v (.int c b)))=some (.v (.int k (a.fdiv (2 ^ min b.toNat k.bits))),[]):=by
 have h:Op.shift .shr k a c b=pure (.int k (a.fdiv (2 ^ min b.toNat k.bits))):=by unfold Op.shift;rw[if_neg (by omega)]
 have d:CJ P .shr t xo yo (.int k a) (.int c b)=some (.int k (a.fdiv (2 ^ min b.toNat k.bits))):=by
  have:CJ P .shr t xo yo (.int k a) (.int c b)=bn P (Op.shift .shr k a c b):=rfl
  rw[this,h];rfl
 simp only[cf,Kj,oh,gJ,d,xg,FC,nz,if_false,fH,jR,scalar,if_true,jQ,Option.map_some]
@[simp] theorem afZ(b:Bool):Ye P .not (some (aB b))=some (aB (!b),[]):=id rfl
def u8(n:Int):UInt8:=UInt8.ofBitVec (BitVec.ofInt 8 n)
def u32(n:Int):UInt32:=UInt32.ofBitVec (BitVec.ofInt 32 n)
@[simp] theorem acz(n:Int):IntKind.u8.wrap n=((u8 n).toNat:Int):=by
 unfold u8;rw[IntKind.wrap_u8,UInt8.toNat_ofBitVec,FP];omega
@[simp] theorem VX(n:Int):IntKind.u32.wrap n=((u32 n).toNat:Int):=by
 unfold u32;rw[IntKind.wrap_u32,UInt32.toNat_ofBitVec,FP];omega
theorem Iw(n:Int):(u8 n).toNat=(n % 256).toNat:=by
 unfold u8;rw[UInt8.toNat_ofBitVec,FP];rfl
theorem Gh(n:Int):(u32 n).toNat=(n % 4294967296).toNat:=by
 unfold u32;rw[UInt32.toNat_ofBitVec,FP];rfl
@[simp] theorem V9(x:UInt32):u32 (x.toNat:Int)=x:=by apply FO.1;rw[Gh];have:=x.toNat_lt;omega
@[simp] theorem acF(x:UInt32):u8 (x.toNat:Int)=x.toUInt8:=by apply Cd.1;rw[Iw,UInt32.toNat_toUInt8];omega
@[simp] theorem aeq(x:UInt8):IntKind.i64.wrap (x.toNat:Int)=x.toNat:=by have:=x.toNat_lt;exact IntWalk.i64_in _ (by omega)
@[simp] theorem aag(x:UInt32):IntKind.i64.wrap (x.toNat:Int)=x.toNat:=by have:=x.toNat_lt;exact IntWalk.i64_in _ (by omega)
theorem aaL(v:BitVec 32):IntKind.u32.wrap (v.toNat:Int)=((UInt32.ofBitVec v).toNat:Int):=by
 rw[VX];unfold u32;congr 3;apply BitVec.eq_of_toNat_eq;rw[FP];have:=v.isLt;omega
theorem aaJ(d:BinOp)(f:BitVec 32->BitVec 32->BitVec 32)(g:UInt32->UInt32->UInt32)(e : ∀x y,g x y=UInt32.ofBitVec (f x.toBitVec y.toBitVec))(c : ∀x y:Int,cf P d t xo yo (some (.v (.int .u32 x))) (some (.v (.int .u32 y)))=some (.v (.int .u32 (IntKind.u32.wrap ((f (BitVec.ofInt 32 x) (BitVec.ofInt 32 y)).toNat:Int))),[])) :
 cf P d t xo yo (some (.v (.int .u32 a))) (some (.v (.int .u32 b)))=some (au (g (u32 a) (u32 b)),[]):=by
 rw[c,aaL,e];rfl
section
variable(x y:UInt8)
@[simp] theorem abD:cf P .lss t xo yo (some (a8 x)) (some (a8 y))=some (aB (decide (x<y)),[]):=by
 unfold a8;rw[LQ];congr 4;rw[NM];all_goals exact propext (by omega)
@[simp] theorem abE:cf P .leq t xo yo (some (a8 x)) (some (a8 y))=some (aB (decide (x<=y)),[]):=by
 unfold a8;rw[T8];congr 4;rw[UInt8.le_iff_toNat_le];all_goals exact propext (by omega)
@[simp] theorem abF:cf P .gtr t xo yo (some (a8 x)) (some (a8 y))=some (aB (decide (y<x)),[]):=by
 unfold a8;rw[Ua];congr 4;rw[NM];all_goals exact propext (by omega)
@[simp] theorem abG:cf P .geq t xo yo (some (a8 x)) (some (a8 y))=some (aB (decide (y<=x)),[]):=by
 unfold a8;rw[Ub];congr 4;rw[UInt8.le_iff_toNat_le];all_goals exact propext (by omega)
@[simp] theorem abH:cf P .eql t xo yo (some (a8 x)) (some (a8 y))=some (aB (decide (x=y)),[]):=by
 unfold a8;rw[LR];congr 4;rw[<-Cd];all_goals exact propext (by omega)
@[simp] theorem abC:cf P .neq t xo yo (some (a8 x)) (some (a8 y))=some (aB (!decide (x=y)),[]):=by
 unfold a8;rw[T6];congr 5;rw[<-Cd];all_goals exact propext (by omega)
end
section
variable(x y:UInt32)
@[simp] theorem VQ:cf P .andNot t xo yo (some (au x)) (some (au y))=some (au (x &&& ~~~y),[]):=by
 unfold au;rw[aaJ P t xo yo _ _ .andNot (λa b=>a &&& ~~~b) (λa b=>a &&& ~~~b) (λ_ _=>rfl) (λ_ _=>rfl)];simp only[V9];rfl
@[simp] theorem ZH:cf P .lss t xo yo (some (au x)) (some (au y))=some (aB (decide (x<y)),[]):=by
 unfold au;rw[LQ];congr 4;rw[UInt32.lt_iff_toNat_lt];all_goals exact propext (by omega)
@[simp] theorem ZI:cf P .eql t xo yo (some (au x)) (some (au y))=some (aB (decide (x=y)),[]):=by
 unfold au;rw[LR];congr 4;rw[<-FO];all_goals exact propext (by omega)
end
@[simp] theorem ZF{f:IntKind}(x:UInt32)(d:0<=b/\b<32):cf P .shr t xo yo (some (au x)) (some (.v (.int f b)))=some (au (x >>> UInt32.ofNat b.toNat),[]):=by
 unfold au
 rw[gm P t xo yo .u32 _ b d.1]
 congr 5
 have c:min b.toNat IntKind.u32.bits=b.toNat:=by show min b.toNat 32=_;omega
 rw[c,UInt32.toNat_shiftRight,UInt32.toNat_ofNat',Nat.shiftRight_eq_div_pow]
 have e:b.toNat % 2 ^ 32 % 32=b.toNat:=by omega
 rw[e,Int.fdiv_eq_ediv_of_nonneg _ (by exact Int.pow_nonneg (by decide))]
 push_cast
 rfl
theorem mK{P:Program}{t:TypeId}{d:TypeDesc}(h:P.underlying t=some d):bn P (Go.underlying t)=some d:=by
 unfold Go.underlying
 rw[bL]
 show(some P).bind _=_
 rw[fH,h]
 rfl
def intKind(P:Program)(t:TypeId):Option IntKind:=match P.underlying t with | some (.int k)=>some k | _=>none
theorem C1{P:Program}{t:TypeId}{k:IntKind}(h:intKind P t=some k):P.underlying t=some (.int k):=by
 unfold intKind at h
 split at h
 ·cases h;assumption
 ·cases h
theorem xP{g:da}{r:Ref}{c e:TypeId}{k':IntKind}(f:(P.underlying c).isNone=false)(i:intKind P e=some k)(n:Int) :
 gl P g r c e (some (.v (.int k' n)))=some (.v (.int k (k.wrap n)),[]):=by
 have i:=C1 i
 obtain⟨d,f⟩ : ∃d,P.underlying c=some d:=by cases h:P.underlying c with | none=>rw[h]at f;cases f | some d=>exact⟨d,rfl⟩
 have:bn P (Go.convert c e (.int k' n))=some (.int k (k.wrap n)):=by
  unfold Go.convert
  rw[bL,mK f,fH,bL,mK i,fH]
  cases d<;>rfl
 simp only[gl,this,fH,jR,scalar,if_true,jQ,Option.map_some]
@[simp] theorem abB{g:da}{r:Ref}{c d:TypeId}(f:(P.underlying c).isNone=false)(e:intKind P d=some .i64)(x:UInt8) :
 gl P g r c d (some (a8 x))=some (aI x.toNat,[]):=by
 unfold a8;rw[xP P .i64 f e,aeq]
@[simp] theorem ZD{g:da}{r:Ref}{c d:TypeId}(f:(P.underlying c).isNone=false)(e:intKind P d=some .i64)(x:UInt32) :
 gl P g r c d (some (au x))=some (aI x.toNat,[]):=by
 unfold au;rw[xP P .i64 f e,aag]
@[simp] theorem abA{g:da}{r:Ref}{c d:TypeId}{k':IntKind}(f:(P.underlying c).isNone=false)(e:intKind P d=some .u8)(n:Int) :
 gl P g r c d (some (.v (.int k' n)))=some (a8 (u8 n),[]):=by
 unfold a8;rw[xP P .u8 f e,acz]
@[simp] theorem abz{g:da}{r:Ref}{c d:TypeId}{k':IntKind}(f:(P.underlying c).isNone=false)(e:intKind P d=some .i64)(n:Int) :
 gl P g r c d (some (.v (.int k' n)))=some (aI (IntKind.i64.wrap n),[]):=xP P .i64 f e n
end
def jX(l:List UInt8):List AV:=l.map a8
@[simp] theorem agM(l:List UInt8):(jX l).length=l.length:=by simp[jX]
@[simp] theorem agL:jX []=[]:=id rfl
theorem TV(P:Program)(d:Bool)(g:da)(r:Ref)(t:TypeId)(e:List TypeId)(x:AV)(c : ∀r',x ≠ .mp r'):cO P d g r .len ⟨t :: e⟩ [x]=HQ P (some t) x:=by
 unfold cO
 cases x<;>first | rfl | (rename_i q;exact(c q rfl).elim)
@[simp] theorem af0(P:Program)(d:Bool)(g:da)(r:Ref)(t:TypeId)(c:List TypeId)(x:AV)(f:(wh x).isSome=true):cO P d g r .len ⟨t :: c⟩ [x]=HQ P (some t) x:=by
 refine TV P d g r t c x λr' e=>?_
 subst e;cases f
@[simp] theorem abV:wh ct=some 0:=id rfl
@[simp] theorem abW(n:Nat)(es:List AV)(c:Option Nat):wh (.bW n es c)=some es.length:=id rfl
@[simp] theorem abU(r:Ref)(o n:Nat)(c:Option Nat):wh (.cL r o n c)=some n:=id rfl
@[simp] theorem ZA{P:Program}{t:TypeId}(d:lx P t=none)(e:isStr P t=false)(c:(ei P t).isSome=true)(x:AV):HQ P (some t) x=(wh x).map λn=>(aI n,[]):=by
 simp only[HQ,d,e,c];rfl
theorem MQ{P:Program}{t:TypeId}{z:Nat}(h:(ei P t).bind (aL P)=some z) : ∃e,ei P t=some e/\aL P e=some z:=by
 simpa [ig] using h
@[simp] theorem GI{P:Program}{t:TypeId}{z:Nat}(h:(ei P t).bind (aL P)=some z)(g:da)(es:List AV)(c:Option Nat)(d:IntKind)(k:Int) :
 eg P g t (some (.bW z es c)) (some (.v (.int d k)))=if 0<=k/\k<es.length then some (.iptr z es k.toNat 0,[]) else none:=by
 obtain⟨e,he,f⟩:=MQ h
 simp only[eg,fH,intOf,he,f,and_true]
@[simp] theorem Zz{P:Program}{t:TypeId}(d:(dI P t).isSome=true)(c:(aL P t).isSome=true)(g:da)(z:Nat)(es:List AV)(i j:Nat) :
 tD P g t (some (.iptr z es i j))=jQ (bX es i j ((aL P t).getD 0) ((dI P t).getD false)):=by
 obtain⟨a,d⟩:=gI.1 d
 obtain⟨n,c⟩:=gI.1 c
 simp only[tD,d,c,cX]
def UL(x:Option bz)(i j n:Nat)(c:Bool):jw:=match x with
 | some b=>jQ (bX b.es i j n c)
 | none=>none
@[simp] theorem ZX(b:bz)(i j n:Nat)(c:Bool):UL (some b) i j n c=jQ (bX b.es i j n c):=id rfl
@[simp] theorem aby{P:Program}{t:TypeId}(c:(dI P t).isSome=true)(d:(aL P t).isSome=true)(g:da)(r:Ref)(i j:Nat) :
 tD P g t (some (.ptr r i j))=UL (g r) i j ((aL P t).getD 0) ((dI P t).getD false):=by
 obtain⟨a,c⟩:=gI.1 c
 obtain⟨n,d⟩:=gI.1 d
 simp only[tD,c,d,cX]
 rfl
@[simp] theorem Sj(e:AV)(es:List AV)(j n:Nat):bX (e :: es) 0 j n true=if j+n<=e.cells.length/\0<n then some (.agg ((e.cells.drop j).take n)) else none:=id rfl
@[simp] theorem Si(e:AV)(es:List AV)(j n:Nat):bX (e :: es) 0 j n false=e.cells[j]?:=id rfl
def Sl(z:Nat)(es:List AV)(x:AV):Prop:=(x=ct/\es=[]) \/∃c,x = .bW z es c/\es.length<=c.getD es.length
theorem Sl.mk(z:Nat)(es:List AV):Sl z es (.bW z es none) := .inr ⟨none,rfl,dc _⟩
theorem Sl.len{z:Nat}{es:List AV}{x:AV}(h:Sl z es x):wh x=some es.length:=by
 rcases h with ⟨rfl,rfl⟩ | ⟨c,rfl,_⟩<;>rfl
theorem Sl.bW{z:Nat}{es:List AV}{x:AV}(h:Sl z es x){i:Nat}(d:i<es.length) : ∃c,x = .bW z es c/\es.length<=c.getD es.length:=by
 rcases h with ⟨rfl,rfl⟩ | h
 ·simp at d
 ·exact h
theorem Sl.view{z:Nat}{es:List AV}{x:AV}(h:Sl z es x)(g:da)(n:Nat):view g (n+1) x=some x:=by
 rcases h with ⟨rfl,rfl⟩ | ⟨c,rfl,_⟩<;>rfl
theorem Sl.refs{z:Nat}{es:List AV}{x:AV}(h:Sl z es x)(g:da)(n:Nat):ay g n x=[]:=by
 rcases h with ⟨rfl,rfl⟩ | ⟨c,rfl,_⟩<;>cases n<;>rfl
theorem Sl.cells{z:Nat}{es:List AV}{x:AV}(h:Sl z es x):x.cells=[x]/\x.one=true:=by
 rcases h with ⟨rfl,_⟩ | ⟨c,rfl,_⟩<;>exact⟨rfl,rfl⟩
@[simp] theorem Y4(g:da)(n:Nat)(x:Value):view g (n+1) (.v x)=some (.v x):=id rfl
@[simp] theorem ag1(g:da)(n:Nat)(x:UInt8):view g (n+1) (a8 x)=some (a8 x):=id rfl
@[simp] theorem afg(g:da)(n:Nat)(x:UInt32):view g (n+1) (au x)=some (au x):=id rfl
@[simp] theorem acB(g:da)(n z:Nat)(es:List AV)(c:Option Nat):view g (n+1) (.bW z es c)=some (.bW z es c):=id rfl
@[simp] theorem acD(g:da)(n:Nat)(cs:List AV):view g (n+1) (.agg cs)=(cs.mapM (view g n)).map .agg:=id rfl
@[simp] theorem acA(g:da)(n:Nat)(cs:List AV):view g (n+1) (.tup cs)=(cs.mapM (view g n)).map .tup:=id rfl
@[simp] theorem aaV(g:da)(n z:Nat)(es:List AV)(i j:Nat):view g (n+1) (.iptr z es i j)=some (.iptr z es i j):=id rfl
@[simp] theorem acC(g:da)(n:Nat)(t:TypeId)(x:AV):view g (n+1) (.ifc t x)=(view g n x).map (.ifc t):=id rfl
theorem F0{g:da}{r:Ref}{b:bz}(d:g r=some b)(n o l:Nat)(c:Option Nat):view g (n+1) (.cL r o l c)=if b.arr=true/\o+l<=b.es.length then some (.bW b.esz ((b.es.drop o).take l) c) else none:=by
 simp only[view,d]
theorem aW:depth=8:=Nat.le_antisymm (dc 8) (dc 8)
end Go.Ab
namespace Go.Ab
@[simp] theorem ai.tK(r q:Ref)(b:Option bz)(H:ai):ai.get ((r,b) :: H) q=if r=q then b else ai.get H q:=id rfl
attribute [simp] ai.get_put
@[simp] theorem af1(P:Program)(r:Ref)(e:TypeId)(x:AV)(c:0<(aL P e).getD 0):J4 P r e (some x)=if some x.cells.length=aL P e/\x.cells.all AV.one=true then some (.ptr r 0 0,[⟨(aL P e).getD 0,[x],false,false⟩]) else none:=by
 unfold J4
 cases h:aL P e with
 | none=>simp
 | some n=>rw[h]at c;simp only[cX]at c;simp[c]
def Fr(H:ai):Prop :=∀d t g k,H.gen d t<=g->H.get ⟨d,t,g,k⟩=none
theorem Fr.nil:Fr []:=λ_ _ _ _ _=>rfl
theorem Fr.keyed{H:ai}(h:Fr H)(i:List bz)(d t:Nat):Fr (Ab.keyed ⟨d,t,H.gen d t,0⟩ 0 i H):=by
 intro l t' g k c
 rw[ai.mo]at c
 rw[ai.I7]
 by_cases j:i=[]
 ·subst j
  rw[if_neg (by simp)]at c
  simp[h _ _ _ _ c]
 ·by_cases f:l=d/\t'=t
  ·obtain⟨rfl,rfl⟩:=f
   rw[if_pos ⟨rfl,rfl,j⟩]at c
   dsimp only at c ⊢
   rw[if_neg (by intro e;have:=e.2.2.1;omega)]
   exact h _ _ _ _ (by omega)
  ·rw[if_neg (by intro e;exact f ⟨e.1,e.2.1⟩)]at c
   dsimp only at c ⊢
   rw[if_neg (by intro e;exact f ⟨e.1,e.2.1⟩)]
   exact h _ _ _ _ c
theorem Fr.put{H:ai}(h:Fr H){r:Ref}(b:Option bz)(f:(H.get r).isSome=true):Fr (H.put r b):=by
 intro d t g k c
 rw[ai.mW H r b f]at c
 rw[ai.get_put]
 split
 ·rename_i e
  subst e
  rw[h _ _ _ _ c]at f
  cases f
 ·exact h _ _ _ _ c
theorem Fr.cons{H:ai}(h:Fr H)(d t:Nat)(b:Option bz):Fr ((⟨d,t,H.gen d t,0⟩,b) :: H):=by
 intro l t' g k c
 simp only[ai.gen]at c
 rw[ai.tK]
 split at c
 ·rename_i e
  obtain⟨rfl,rfl⟩:=e
  rw[if_neg (by intro e;injection e;omega)]
  exact h _ _ _ _ (by omega)
 ·rename_i e
  rw[if_neg (by intro j;injection j with i f;exact e ⟨i,f⟩)]
  exact h _ _ _ _ c
theorem pZ{H:ai}(c:Fr H){q:Ref}(h:(H.get q).isSome=true)(d t k:Nat):(⟨d,t,H.gen d t,k⟩:Ref)≠q:=by
 intro e;subst e;rw[c _ _ _ _ (dc _)]at h;cases h
def YY(P:Program)(t z c:Nat):Bool:=match ei P t with
 | some e=>aL P e == some z&&o9 P e == some c&&(match ff P e with | some d=>d.cells.length == z&&d.cells.all AV.one | none=>false)&&z != 0&&c != 0
 | none=>false
def HB(P:Program)(t:TypeId):Bool:=(P.underlying t).isSome && !isInt P t
theorem lE{P:Program}{t z c:Nat}(h:YY P t z c=true) : ∃e f,ei P t=some e/\aL P e=some z/\o9 P e=some c/\ff P e=some f/\f.cells.length=z/\f.cells.all AV.one=true/\z≠0/\c≠0:=by
 unfold YY at h
 split at h
 ·rename_i e i
  simp only[bh,beq_iff_eq,bne_iff_ne]at h
  obtain⟨⟨⟨⟨j,l⟩,d⟩,n⟩,g⟩:=h
  split at d
  ·rename_i f m
   simp only[bh,beq_iff_eq]at d
   exact⟨e,f,i,j,l,m,d.1,d.2,n,g⟩
  ·cases d
 ·cases h
def XO(g:da)(z:Nat)(new:List AV)(x:AV):Prop:=(x=ct/\new=[])\/(isNum x=false/\x≠ct/\cS g x=some (z,new))
theorem XO.pv{P:Program}{t z c:Nat}(h:YY P t z c=true){e:TypeId}(l:ei P t=some e){g:da}{new:List AV}{x:AV}(d:XO g z new x):pv P g e x=some (z,new):=by
 obtain⟨C,q,i,m,p,u,n,A,w,v⟩:=lE h
 rw[l]at i;cases i
 rcases d with ⟨rfl,rfl⟩ | ⟨j,f,d⟩
 ·simp only[Ab.pv,m,Option.map_some]
 ·unfold Ab.pv
  split
  ·exact(f rfl).elim
  ·simp[isNum]at j
  ·exact d
theorem XO.num{g:da}{z:Nat}{new:List AV}{x:AV}(d:XO g z new x):isNum x=false:=by
 rcases d with ⟨rfl,_⟩ | ⟨c,_⟩
 ·rfl
 ·exact c
theorem Sl.Jd{z:Nat}{es:List AV}{x:AV}(h:Sl z es x)(g:da):XO g z es x:=by
 rcases h with ⟨rfl,rfl⟩ | ⟨c,rfl,_⟩
 ·exact .inl ⟨rfl,rfl⟩
 ·exact .inr ⟨rfl,(by intro e;cases e),rfl⟩
def Own(z:Nat)(es:List AV)(H:ai)(x:AV):Prop:=(x=ct/\es=[]) \/∃r,x = .cL r 0 es.length none/\H.get r=some ⟨z,es,true,false⟩
theorem PX(z:Nat)(H:ai):Own z [] H ct := .inl ⟨rfl,rfl⟩
theorem Own.len{z:Nat}{es:List AV}{H:ai}{x:AV}(h:Own z es H x):wh x=some es.length:=by
 rcases h with ⟨rfl,rfl⟩ | ⟨r,rfl,_⟩<;>rfl
theorem Own.view{z:Nat}{es:List AV}{H:ai}{x:AV}(h:Own z es H x)(n:Nat) : ∃y,view H.get (n+1) x=some y/\Sl z es y:=by
 rcases h with ⟨rfl,rfl⟩ | ⟨r,rfl,c⟩
 ·exact⟨ct,rfl,.inl ⟨rfl,rfl⟩⟩
 ·refine⟨.bW z es none,?_,Sl.mk z es⟩
  rw[F0 c]
  simp
theorem Own.Jd{z:Nat}{es:List AV}{H:ai}{x:AV}(h:Own z es H x):XO H.get z es x:=by
 rcases h with ⟨rfl,rfl⟩ | ⟨r,rfl,c⟩
 ·exact .inl ⟨rfl,rfl⟩
 ·refine .inr ⟨rfl,(by intro e;cases e),?_⟩
  simp[cS,c]
def AV.at?:AV->Option Ref
 | .cL r _ _ _=>some r
 | .ptr r _ _=>some r
 | _=>none
theorem Own.cL{z:Nat}{es:List AV}{H:ai}{x:AV}(h:Own z es H x)(c:es≠[]) : ∃r,x = .cL r 0 es.length none/\H.get r=some ⟨z,es,true,false⟩:=by
 rcases h with ⟨_,rfl⟩ | h
 ·exact(c rfl).elim
 ·exact h
end Go.Ab
