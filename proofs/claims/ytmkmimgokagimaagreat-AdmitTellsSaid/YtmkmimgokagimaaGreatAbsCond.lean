/-
  What is to be shown for a run of the abstract machine, as one proposition that is computed from the code. No statement of a seat is proved here.
-/
import Derived.IntWalk
import Derived.Test.YtmkmimgokagimaaGreatAbsEnv
set_option linter.unusedVariables false
set_option linter.unusedSimpArgs false
set_option linter.unusedSectionVars false
set_option linter.unnecessarySimpa false
namespace Go.Ab
section
abbrev eK:=Nat->AV
def cK(s:eK):Operand->Option AV
 | .tmp t=>some (s t)
 | .const v=>ofValue v
 | .func f=>some (.fn (.func f) [] [])
 | .global _=>none
def Et(c:Operand->Option AV):List Operand->Option (List AV)
 | []=>some []
 | o :: os=>match c o,Et c os with
  | some x,some xs=>some (x :: xs)
  | _,_=>none
def Fq(c:Operand->Option AV):List (Nat × Operand)->Option (List (Nat × AV))
 | []=>some []
 | (i,o) :: os=>match c o,Fq c os with
  | some x,some xs=>some ((i,x) :: xs)
  | _,_=>none
def Ob(c:Operand->Option AV):Option Operand->Option (Option Int)
 | none=>some none
 | some o=>match (c o).bind intOf with
  | some n=>some (some n)
  | none=>none
def acG(s:eK)(d:Nat)(v:AV):eK:=λi=>cond (Nat.beq i d) v (s i)
def eM(tm:List AV)(s:eK):Prop :=∀i,dJ tm i=s i
theorem zx{tm:List AV}{s:eK}(h:eM tm s):aK tm=cK s:=by
 funext o;cases o<;>simp[aK,cK,h _]
theorem I3(c:Operand->Option AV)(l:List Operand):l.mapM c=Et c l:=by
 induction l with
 | nil=>rfl
 | cons o l d=>
  simp only[nY,d,Et,uF,vf]
  cases c o<;>cases Et c l<;>rfl
theorem KI{tm:List AV}{s:eK}(h:eM tm s)(l:List (Nat × Operand)):jc tm l=Fq (cK s) l:=by
 induction l with
 | nil=>rfl
 | cons o l c=>
  obtain⟨i,o⟩:=o
  unfold jc at c ⊢
  rw[nY,c]
  simp only[Fq,uF,vf,zx h]
  cases cK s o<;>cases Fq (cK s) l<;>rfl
theorem L3{tm:List AV}{s:eK}(h:eM tm s)(o:Option Operand):mG tm o=Ob (cK s) o:=by
 cases o with
 | none=>rfl
 | some o=>simp only[mG,Ob,zx h];rfl
theorem eM.set{tm:List AV}{s:eK}(h:eM tm s)(d:Nat)(v:AV):eM (DY tm d v) (acG s d v):=by
 intro i
 rw[vG]
 unfold acG
 split
 ·rename_i e;subst e;simp
 ·rename_i e;rw[show Nat.beq i d=false from by cases c:Nat.beq i d with | false=>rfl | true=>exact(e (lb c)).elim];exact h i
def BH(c a b:Option AV):jI:=
 match c.bind FL with
 | some true=>kf a
 | some false=>kf b
 | none=>none
def na(H:aa)(r:Ref)(q:jI):dz:=
 match q with
 | some (v,c)=>some (v,keyed r 0 c H)
 | none=>none
def GN(c:Bool)(a b:dz):dz:=
 match a with
 | some x=>some x
 | none=>cond c b none
def aL(E:Env)(c:Bool)(pc:FuncId->List AV->Option AV)(tc:yD->List AV->aa->dz)(H:aa)(r:Ref)(f:Option AV)(args:List AV):dz:=
 GN c (na H r (kJ E pc H.get r f args)) (nC E pc tc H r f args)
def nI(E:Env)(c:Bool)(pc:FuncId->List AV->Option AV)(tc:yD->List AV->aa->dz)(H:aa)(r:Ref)(f:Option AV)(args:List AV):dz:=
 GN c (na H r ((kJ E pc H.get r f args).map λp=>(p.1,BQ true p.2))) (re true E.sm H (nC E pc tc H r f args))
def jG(P:Program)(c:Bool)(H:aa)(r:Ref)(t t':Option TypeId)(s x:AV):dz:=
 GN c (na H r (jL P H.get r t t' s x)) (m6 P H t t' s x)
def nJ(P:Program)(u d:Bool)(H:aa)(r:Ref)(t:TypeId)(n:Nat)(c:Option (List (Nat × AV))):dz:=
 GN d (na H r (iB P u H.get r t n c)) (kH P H r t n c)
def zm(E:Env)(pc:FuncId->List AV->Option AV)(tc:yD->List AV->aa->dz)(dep:Nat)(u d:Bool)(s:eK)(H:aa)(r:Ref)(o:Oper):jI ⊕ dz:=
 match o.op with
 | .move x | .assign x => .inl (kf (cK s x))
 | .pick c a b => .inl (BH (cK s c) (cK s a) (cK s b))
 | .alloc e => .inr (na H r (yl E.P r e))
 | .box e x => .inr (na H r (L1 E.P r e (cK s x)))
 | .build t ps => .inl (jD E.P t (Fq (cK s) ps.toList))
 | .buildSlice t n ps => .inr (nJ E.P (u && !E.strict o) d H r t n (Fq (cK s) ps.toList))
 | .load t a => .inl (uL E.P H.get t (cK s a))
 | .store t a x => .inr (cond d (nS E.P H t (cK s a) (cK s x)) none)
 | .nilCheck x => .inl (NX (cK s x))
 | .binOp op t D C _ => .inl (bY E.P op t D C (cK s D) (cK s C))
 | .unOp op _ x => .inl (qUn E.P op (cK s x))
 | .convert src dst x=>match fS E.P dst with
  | true => .inr (na H r (gB E.P H.get r src dst (cK s x)))
  | false => .inl (gB E.P H.get r src dst (cK s x))
 | .makeInterface t x => .inl (tX E.P t (cK s x))
 | .makeFunc f first captured => .inl (gY f (Et (cK s) first.toList) (Et (cK s) captured.toList))
 | .makeSlice t l c => .inr (na H r (Gb E.P r t (cK s l) (cK s c)))
 | .slice t x p j h=>match E.wide o && !u with
  | true => .inl (xk E.P H.get t (cK s x) (Ob (cK s) p) (Ob (cK s) j) (Ob (cK s) h))
  | false => .inl (ja E.P H.get t (cK s x) (Ob (cK s) p) (Ob (cK s) j) (Ob (cK s) h))
 | .fieldAddr t x f => .inl (jW E.P t (cK s x) f)
 | .field t x f => .inl (yj E.P t (cK s x) f)
 | .indexAddr t x g => .inl (ep E.P H.get t (cK s x) (cK s g))
 | .index t x g => .inl (sx E.P t (cK s x) (cK s g))
 | .typeAssert x _ want ok => .inl (uv E.P (cK s x) want ok)
 | .extract x i => .inl (uM (cK s x) i)
 | .call c=>
  match Et (cK s) c.args.toList with
  | none => .inl none
  | some args=>
   match c.callee with
   | .value f=>(match Gd E.tz u f with
    | some t => .inl (NW E.P H.get t args)
    | none=>(match E.kq o with
     | true => .inr (nI E d pc tc H r (cK s f) args)
     | false => .inr (aL E d pc tc H r (cK s f) args)))
   | .invoke _ _ => .inl none
   | .builtin b=>match b,args with
    | .append,[a,x] => .inr (jG E.P d H r c.argTypes[0]? c.argTypes[1]? a x)
    | .copy,[dst,x]=>(match E.wide o with
     | true => .inr (cond d (HM E.P H c.argTypes[0]? dst x) none)
     | false => .inr (cond d (Na E.P H c.argTypes[0]? dst x) none))
    | b,args => .inl (cN E.P (u&&(E.strict o || !(match c.args.toList with | [.tmp _]=>true | _=>false))) H.get r b c.argTypes args)
 | .makeMap _ none => .inr (na H r (some (.mp r,[bg []])))
 | .lookup t x k ok => .inl (ff E.P H.get t (cK s x) (cK s k) ok)
 | .mapUpdate t m k x => .inr (cond d (dP E.P H t (cK s m) (cK s k) (cK s x)) none)
 | .insert t m k x => .inr (cond d (dP E.P H t (cK s m) (cK s k) (cK s x)) none)
 | .mapEntry t m k => .inr (cond d (iY E.P H t (cK s m) (cK s k)) none)
 | .entryStore _ m n x => .inr (cond d (fR H (cK s m) (cK s n) (cK s x)) none)
 | .makeChan t n => .inr (cond d (B6 E.P H r t (cK s n)) none)
 | .send c x => .inr (cond d (HJ H (cK s c) (cK s x)) none)
 | .recv t c ok => .inr (cond d (Kp E.P H t (cK s c) ok) none)
 | _ => .inl none
def rC(E:Env)(pc:FuncId->List AV->Option AV)(tc:yD->List AV->aa->dz)(dep:Nat)(u:Bool)(tm:List AV)(H:aa)(o:Oper):dz:=
 match cz E pc u H.get tm ⟨dep,o.dst.getD 0,H.gen dep (o.dst.getD 0),0⟩ o with
 | some (x,c)=>some (x,keyed ⟨dep,o.dst.getD 0,H.gen dep (o.dst.getD 0),0⟩ 0 c H)
 | none=>if u && !jC E o then none else evalW E pc tc H tm ⟨dep,o.dst.getD 0,H.gen dep (o.dst.getD 0),0⟩ o
theorem Jm(E:Env)(pc:FuncId->List AV->Option AV)(tc:yD->List AV->aa->dz)(nt dep:Nat)(u:Bool)(ops:Array Oper)(o:Oper)(st:St) :
 evalOp E pc tc nt dep u ops o st=(match wanted ops st.tm o with
  | none=>none
  | some false=>(dt nt st.tm o.dst AV.undef).map λtm => { st with tm}
  | some true=>match rC E pc tc dep u st.tm st.hp o with
   | some (x,H)=>(dt nt st.tm o.dst x).map λtm=>⟨tm,H⟩
   | none=>none):=by
 unfold evalOp rC
 cases hw:wanted ops st.tm o with
 | none=>rfl
 | some b=>
 cases b with
 | false=>rfl
 | true=>
  cases cz E pc u st.hp.get st.tm ⟨dep,o.dst.getD 0,st.hp.gen dep (o.dst.getD 0),0⟩ o with
  | some p=>rfl
  | none=>
   dsimp only
   split
   ·rfl
   ·rfl
theorem Zs{E:Env}{pc:FuncId->List AV->Option AV}{tc:yD->List AV->aa->dz}{dep:Nat}{u:Bool}{tm:List AV}{H:aa}{o:Oper}{v:AV}
 (h:cz E pc u H.get tm ⟨dep,o.dst.getD 0,H.gen dep (o.dst.getD 0),0⟩ o=some (v,[])):rC E pc tc dep u tm H o=some (v,H):=by
 unfold rC;rw[h];rfl
theorem Se{E:Env}{pc:FuncId->List AV->Option AV}{tc:yD->List AV->aa->dz}{dep:Nat}{u:Bool}{tm:List AV}{H H':aa}{o:Oper}{v:AV}{q:jI}
 (h:cz E pc u H.get tm ⟨dep,o.dst.getD 0,H.gen dep (o.dst.getD 0),0⟩ o=q) (c:na H ⟨dep,o.dst.getD 0,H.gen dep (o.dst.getD 0),0⟩ q=some (v,H')):rC E pc tc dep u tm H o=some (v,H'):=by
 unfold rC;rw[h]
 unfold na at c
 split at c
 ·exact c
 ·cases c
theorem oh{E:Env}{pc:FuncId->List AV->Option AV}{tc:yD->List AV->aa->dz}{dep:Nat}{u:Bool}{tm:List AV}{H H':aa}{o:Oper}{v:AV}{q:jI}{w:dz}
 (h:cz E pc u H.get tm ⟨dep,o.dst.getD 0,H.gen dep (o.dst.getD 0),0⟩ o=q) (e:evalW E pc tc H tm ⟨dep,o.dst.getD 0,H.gen dep (o.dst.getD 0),0⟩ o=w)
 (c:GN (!(u && !jC E o)) (na H ⟨dep,o.dst.getD 0,H.gen dep (o.dst.getD 0),0⟩ q) w=some (v,H')):rC E pc tc dep u tm H o=some (v,H'):=by
 unfold rC;rw[h]
 cases q with
 | some p=>simpa [GN,na] using c
 | none=>
  rw[e]
  cases d:(u && !jC E o) with
  | true=>rw[d]at c;simp[GN,na]at c
  | false=>rw[d]at c;simpa [GN,na] using c
section
variable{E:Env}{pc:FuncId->List AV->Option AV}{tc:yD->List AV->aa->dz}{dep:Nat}{u:Bool}{tm:List AV}{s:eK}{H:aa}{o:Oper}
theorem YF(g:eM tm s){q:jI}{v:AV}
 (h:zm E pc tc dep u (!(u && !jC E o)) s H ⟨dep,o.dst.getD 0,H.gen dep (o.dst.getD 0),0⟩ o = .inl q) (j:q=some (v,[])):rC E pc tc dep u tm H o=some (v,H):=by
 subst j
 refine Zs ?_
 have e:=zx g
 unfold zm at h
 unfold cz
 split at h<;>rename_i i<;>simp only[i]
 all_goals try (simp only[FU,reduceCtorEq]at h)
 all_goals try (rw[<-h];simp only[e,BH,IL,KI g,L3 g,I3];done)
 ·rw[<-h];unfold IL BH;rw[e];rfl
 ·split at h
  ·cases h
  ·simp only[FU]at h;rw[<-h,e]
 ·cases d:(E.wide o && !u) with
  | true=>rw[d]at h;simp only[FU]at h;rw[<-h];simp only[cond_true,e,L3 g]
  | false=>rw[d]at h;simp only[FU]at h;rw[<-h];simp only[cond_false,e,L3 g]
 ·rw[I3,e]
  split at h
  ·cases h
  ·rename_i args c
   rw[c]
   dsimp only
   split at h
   ·rename_i f n
    rw[n]
    dsimp only
    split at h
    ·rename_i t l
     simp only[FU]at h
     simp only[l]
     exact h
    ·split at h<;>cases h
   ·cases h
   ·rename_i b m
    rw[m]
    dsimp only
    split at h
    ·cases h
    ·split at h<;>cases h
    ·simp only[FU]at h;exact h
theorem YE(p:eM tm s){w:dz}{v:AV}{H':aa}
 (h:zm E pc tc dep u (!(u && !jC E o)) s H ⟨dep,o.dst.getD 0,H.gen dep (o.dst.getD 0),0⟩ o = .inr w) (z:w=some (v,H')):rC E pc tc dep u tm H o=some (v,H'):=by
 subst z
 have e:=zx p
 unfold zm at h
 split at h<;>rename_i c
 all_goals try (simp only[reduceCtorEq]at h;done)
 all_goals try (simp only[Dt]at h)
 all_goals try (refine Se (by unfold cz;simp only[c,e]) h;done)
 ·rw[<-KI p]at h
  exact oh (q:=iB _ _ _ _ _ _ _) (w:=kH _ _ _ _ _ _) (by unfold cz;simp only[c]) (by unfold evalW;simp only[c]) h
 ·rw[<-e]at h
  exact oh (q:=none) (w:=nS _ _ _ _ _) (by unfold cz;simp only[c]) (by unfold evalW;simp only[c]) h
 ·split at h
  ·simp only[Dt]at h
   refine Se (by unfold cz;simp only[c,e]) h
  ·cases h
 ·split at h<;>cases h
 ·split at h
  ·cases h
  ·rename_i args i
   have d:=i
   rw[<-I3,<-e]at d
   split at h
   ·rename_i f n
    split at h
    ·cases h
    ·rename_i m
     split at h
     ·rename_i g
      simp only[Dt]at h
      rw[<-e]at h
      exact oh (q:=(kJ _ _ _ _ _ _).map _) (w:=re true _ _ (nC _ _ _ _ _ _ _)) (by unfold cz;simp only[c,d,n,m,g]) (by unfold evalW;simp only[c,d,n,g]) h
     ·rename_i g
      simp only[Dt]at h
      rw[<-e]at h
      exact oh (q:=kJ _ _ _ _ _ _) (w:=nC _ _ _ _ _ _ _) (by unfold cz;simp only[c,d,n,m,g,BQ];cases kJ E pc H.get _ (aK tm f) args<;>rfl) (by unfold evalW;simp only[c,d,n,g];rfl) h
   ·cases h
   ·rename_i b l
    split at h
    ·simp only[Dt]at h
     exact oh (q:=jL _ _ _ _ _ _ _) (w:=m6 _ _ _ _ _ _) (by unfold cz;simp only[c,d,l];rfl) (by unfold evalW;simp only[c,d,l]) h
    ·split at h
     ·rename_i j
      simp only[Dt]at h
      exact oh (q:=none) (w:=HM _ _ _ _ _) (by unfold cz;simp only[c,d,l];rfl) (by unfold evalW;simp only[c,d,l,j,cond_true]) h
     ·rename_i j
      simp only[Dt]at h
      exact oh (q:=none) (w:=Na _ _ _ _ _) (by unfold cz;simp only[c,d,l];rfl) (by unfold evalW;simp only[c,d,l,j,cond_false]) h
    ·cases h
 ·rw[<-e]at h
  exact oh (q:=none) (w:=dP _ _ _ _ _ _) (by unfold cz;simp only[c]) (by unfold evalW;simp only[c]) h
 ·rw[<-e]at h
  exact oh (q:=none) (w:=dP _ _ _ _ _ _) (by unfold cz;simp only[c]) (by unfold evalW;simp only[c]) h
 ·rw[<-e]at h
  exact oh (q:=none) (w:=iY _ _ _ _ _) (by unfold cz;simp only[c]) (by unfold evalW;simp only[c]) h
 ·rw[<-e]at h
  exact oh (q:=none) (w:=fR _ _ _ _) (by unfold cz;simp only[c]) (by unfold evalW;simp only[c]) h
 ·rw[<-e]at h
  exact oh (q:=none) (w:=B6 _ _ _ _ _) (by unfold cz;simp only[c]) (by unfold evalW;simp only[c]) h
 ·rw[<-e]at h
  exact oh (q:=none) (w:=HJ _ _ _) (by unfold cz;simp only[c]) (by unfold evalW;simp only[c]) h
 ·rw[<-e]at h
  exact oh (q:=none) (w:=Kp _ _ _ _ _) (by unfold cz;simp only[c]) (by unfold evalW;simp only[c]) h
end
open Classical in
noncomputable def ak(E:Env)(f:FuncId)(args:List AV):Option AV:=
 if h : ∃y n,∀m,n<=m->cS E (cr E m) f args=some y then some h.choose else none
theorem xy{E:Env}{f:FuncId}{args:List AV}{y:AV}:ak E f args=some y ↔ ∃n,∀m,n<=m->cS E (cr E m) f args=some y:=by
 unfold ak
 constructor
 ·intro h
  split at h
  ·rename_i c
   simp only[dT]at h
   rw[<-h]
   exact c.choose_spec
  ·cases h
 ·intro h
  rw[dif_pos ⟨y,h⟩]
  obtain⟨n,g⟩:=h
  have c : ∃y n,∀m,n<=m->cS E (cr E m) f args=some y:=⟨y,n,g⟩
  obtain⟨e,d⟩:=c.choose_spec
  have j:=g (max n e) (Nat.le_max_left ..)
  have i:=d (max n e) (Nat.le_max_right ..)
  exact i.symm.trans j
open Classical in
noncomputable def bD(E:Env)(dep:Nat)(f:yD)(args:List AV)(H:aa):dz:=
 if h : ∃y n,∀m,n<=m->fx E (cr E m) dep f args H=some y then some h.choose else none
theorem At{E:Env}{dep:Nat}{f:yD}{args:List AV}{H:aa}{y:AV × aa}:bD E dep f args H=some y ↔ ∃n,∀m,n<=m->fx E (cr E m) dep f args H=some y:=by
 unfold bD
 constructor
 ·intro h
  split at h
  ·rename_i d
   simp only[dT]at h
   rw[<-h]
   exact d.choose_spec
  ·cases h
 ·intro h
  rw[dif_pos ⟨y,h⟩]
  obtain⟨n,g⟩:=h
  have d : ∃y n,∀m,n<=m->fx E (cr E m) dep f args H=some y:=⟨y,n,g⟩
  obtain⟨e,c⟩:=d.choose_spec
  have j:=g (max n e) (Nat.le_max_left ..)
  have i:=c (max n e) (Nat.le_max_right ..)
  exact i.symm.trans j
theorem Pb{E:Env}{d:Bool}{dep:Nat}{H H':aa}{r:Ref}{f:Option AV}{args:List AV}{v:AV}(h:aL E d (ak E) (bD E dep) H r f args=some (v,H')) :
 ∃n,∀m,n<=m->aL E d (cS E (cr E m)) (fx E (cr E m) dep) H r f args=some (v,H'):=by
 unfold aL at h ⊢
 by_cases j : ∃fi first captured,f=some (.fn (.func fi) first captured)
 ·obtain⟨fi,first,captured,rfl⟩:=j
  by_cases g:E.mode fi=2
  ·simp only[kJ,nC,if_pos g,na,GN]at h ⊢
   cases d with
   | true=>
    simp only[cond_true]at h ⊢
    obtain⟨n,e⟩:=At.1 h
    exact⟨n,e⟩
   | false=>simp at h
  ·simp only[kJ,nC,if_neg g]at h ⊢
   cases p:(first++args++captured).mapM (view H.get depth) with
   | none=>rw[p]at h;simp[na,GN]at h
   | some xs=>
    rw[p]at h
    dsimp only at h ⊢
    cases c:ak E fi xs with
    | none=>rw[c]at h;simp[na,GN]at h
    | some y=>
     rw[c]at h
     obtain⟨n,e⟩:=xy.1 c
     refine⟨n,λm i=>?_⟩
     rw[e m i]
     exact h
 ·have l : ∀pc,kJ E pc H.get r f args=none:=by
   intro pc
   unfold kJ
   split
   ·exact(j ⟨_,_,_,rfl⟩).elim
   ·rfl
  by_cases c : ∃q,f=some (.yld q)
  ·obtain⟨q,rfl⟩:=c
   rw[l]at h
   cases d with
   | false=>simp[na,GN]at h
   | true=>
    have w:bD E dep (.yld q) args H=some (v,H'):=h
    obtain⟨n,e⟩:=At.1 w
    refine⟨n,λm i=>?_⟩
    rw[l]
    exact e m i
  ·have g : ∀pc tc,nC E pc tc H r f args=none:=by
    intro pc tc
    unfold nC
    split
    ·exact(j ⟨_,_,_,rfl⟩).elim
    ·exact(c ⟨_,rfl⟩).elim
    ·rfl
   rw[l,g]at h
   cases d<;>simp[na,GN]at h
theorem HK{sm:MK}{H H':aa}{x:dz}{v:AV}(h:re true sm H x=some (v,H')) : ∃c,x=some (v,c)/\H'=H/\flat depth v=true/\(Jc H c||sm.f H c)=true:=by
 cases x with
 | none=>simp[re]at h
 | some p=>
  obtain⟨y,c⟩:=p
  unfold re at h
  simp only at h
  split at h
  ·rename_i d
   cases h
   rw[aY]at d
   exact⟨c,rfl,rfl,d.1,d.2⟩
  ·cases h
theorem MA{E:Env}{d:Bool}{dep:Nat}{H H':aa}{r:Ref}{f:Option AV}{args:List AV}{v:AV}(h:nI E d (ak E) (bD E dep) H r f args=some (v,H')) :
 ∃n,∀m,n<=m->nI E d (cS E (cr E m)) (fx E (cr E m) dep) H r f args=some (v,H'):=by
 unfold nI at h ⊢
 by_cases l : ∃fi first captured,f=some (.fn (.func fi) first captured)
 ·obtain⟨fi,first,captured,rfl⟩:=l
  by_cases j:E.mode fi=2
  ·simp only[kJ,nC,if_pos j,na,GN,FV]at h ⊢
   cases d with
   | true=>
    simp only[cond_true]at h ⊢
    obtain⟨H1,e,F,B,A⟩:=HK h
    obtain⟨n,i⟩:=At.1 e
    refine⟨n,λm g=>?_⟩
    rw[i m g]
    rw[e]at h
    exact h
   | false=>simp at h
  ·simp only[kJ,nC,if_neg j]at h ⊢
   cases z:(first++args++captured).mapM (view H.get depth) with
   | none=>rw[z]at h;simp[na,GN,re]at h
   | some xs=>
    rw[z]at h
    dsimp only at h ⊢
    cases c:ak E fi xs with
    | none=>rw[c]at h;simp[na,GN,re]at h
    | some y=>
     rw[c]at h
     obtain⟨n,i⟩:=xy.1 c
     refine⟨n,λm g=>?_⟩
     rw[i m g]
     exact h
 ·have w : ∀pc,kJ E pc H.get r f args=none:=by
   intro pc
   unfold kJ
   split
   ·exact(l ⟨_,_,_,rfl⟩).elim
   ·rfl
  by_cases c : ∃q,f=some (.yld q)
  ·obtain⟨q,rfl⟩:=c
   rw[w]at h
   cases d with
   | false=>simp[na,GN]at h
   | true=>
    have p:re true E.sm H (bD E dep (.yld q) args H)=some (v,H'):=h
    obtain⟨H1,e,_⟩:=HK p
    obtain⟨n,i⟩:=At.1 e
    refine⟨n,λm g=>?_⟩
    rw[w]
    show re true E.sm H (fx E (cr E m) dep (.yld q) args H)=_
    rw[i m g]
    rw[e]at p
    exact p
  ·have j : ∀pc tc,nC E pc tc H r f args=none:=by
    intro pc tc
    unfold nC
    split
    ·exact(l ⟨_,_,_,rfl⟩).elim
    ·exact(c ⟨_,rfl⟩).elim
    ·rfl
   rw[w,j]at h
   cases d<;>simp[na,GN,re]at h
theorem KJ{E:Env}{dep:Nat}{u j:Bool}{s:eK}{H:aa}{r:Ref}{o:Oper} :
 (∀q v,zm E (ak E) (bD E dep) dep u j s H r o = .inl q->q=some (v,[]) ->∃n,∀m,n<=m->zm E (cS E (cr E m)) (fx E (cr E m) dep) dep u j s H r o = .inl (some (v,[]))) /\
 (∀w v H',zm E (ak E) (bD E dep) dep u j s H r o = .inr w->w=some (v,H') ->∃n,∀m,n<=m->zm E (cS E (cr E m)) (fx E (cr E m) dep) dep u j s H r o = .inr (some (v,H'))):=by
 constructor
 ·intro q v h z
  subst z
  refine⟨0,λm _=>?_⟩
  unfold zm at h ⊢
  generalize o.op=op at h ⊢
  cases op
  all_goals try exact h
  case makeMap a b=>cases b<;>exact h
  rename_i c
  dsimp only at h ⊢
  cases g:Et (cK s) c.args.toList with
  | none=>rw[g]at h;exact h
  | some args=>
   rw[g]at h
   dsimp only at h ⊢
   cases e:c.callee with
   | value f=>
    rw[e]at h
    dsimp only at h ⊢
    cases d:Gd E.tz u f with
    | some t=>rw[d]at h;exact h
    | none=>rw[d]at h;dsimp only at h;split at h<;>cases h
   | invoke a b=>rw[e]at h;exact h
   | builtin b=>rw[e]at h;exact h
 ·intro w v H' h A
  subst A
  unfold zm at h ⊢
  generalize o.op=op at h ⊢
  cases op
  all_goals try (exact⟨0,λm _=>h⟩)
  case makeMap a b=>cases b<;>exact⟨0,λm _=>h⟩
  rename_i c
  dsimp only at h ⊢
  cases g:Et (cK s) c.args.toList with
  | none=>rw[g]at h;cases h
  | some args=>
   rw[g]at h
   dsimp only at h ⊢
   cases e:c.callee with
   | value f=>
    rw[e]at h
    dsimp only at h ⊢
    cases d:Gd E.tz u f with
    | some t=>rw[d]at h;cases h
    | none=>
    rw[d]at h
    dsimp only at h ⊢
    cases i:E.kq o with
    | true=>
     rw[i]at h
     simp only[Dt]at h
     obtain⟨n,p⟩:=MA h
     exact⟨n,λm l=>congrArg _ (p m l)⟩
    | false=>
     rw[i]at h
     simp only[Dt]at h
     obtain⟨n,p⟩:=Pb h
     exact⟨n,λm l=>congrArg _ (p m l)⟩
   | invoke a b=>rw[e]at h;cases h
   | builtin b=>rw[e]at h;exact⟨0,λm _=>h⟩
abbrev Mk{c:Type}(a:c):Type:=Unit
structure fB (q:jI) (K:AV->Prop) (m:Mk K:=()):Prop where
 h : ∃v,q=some (v,[])/\K v
structure jA (w:dz) (K:AV->aa->Prop) (m:Mk K:=()):Prop where
 h : ∃v H,w=some (v,H)/\K v H
def Z0(x:AV)(c:Bool):Option Bool:=
 match x with
 | .v (.bool b)=>some (b == c)
 | .v (.tuple d)=>if d.isEmpty then some false else none
 | _=>none
def gd(x:AV)(c:Bool)(A B:Prop):Prop:=
 match Z0 x c with
 | some true=>A
 | some false=>B
 | none=>False
structure gQ (x:AV) (want:Bool) (q:jI) (K:AV->Prop) (m:Mk (q,K):=()):Prop where
 h:gd x want (fB q K) (K AV.undef)
structure gW (x:AV) (want:Bool) (H:aa) (w:dz) (K:AV->aa->Prop) (m:Mk (w,K):=()):Prop where
 h:gd x want (jA w K) (K AV.undef H)
def brP(x:Option AV)(A B:Prop):Prop:=
 match x.bind FL with
 | some b=>cond b A B
 | none=>False
structure br (x:Option AV) (A B:Prop) (m:Mk (A,B):=()):Prop where
 h:brP x A B
def Mm(ops:Array Oper)(s:eK)(o:Oper):Option (Option (AV × Bool)):=
 match o.guard with
 | none=>none
 | some (j,want)=>match (ops[j]?).bind (·.dst) with
  | some t=>some (some (s t,want))
  | none=>some none
def J5(nt:Nat)(s:eK)(c:Option Tmp)(v:AV)(K:eK->Prop):Prop:=
 match c with
 | none=>K s
 | some d=>cond (Nat.blt d nt) (K (acG s d v)) False
def wpOp(E:Env)(nt dep:Nat)(u:Bool)(ops:Array Oper)(o:Oper)(s:eK)(H:aa)(K:eK->aa->Prop):Prop:=
 match zm E (ak E) (bD E dep) dep u (!(u && !jC E o)) s H ⟨dep,o.dst.getD 0,H.gen dep (o.dst.getD 0),0⟩ o with
 | .inl q=>match Mm ops s o with
  | none=>(match o.op with
   | .move x | .assign x=>(match cK s x with
    | some v=>J5 nt s o.dst v λs=>K s H
    | none=>False)
   | _=>fB q λv=>J5 nt s o.dst v λs=>K s H)
  | some (some (x,want))=>gQ x want q λv=>J5 nt s o.dst v λs=>K s H
  | some none=>J5 nt s o.dst AV.undef λs=>K s H
 | .inr w=>match Mm ops s o with
  | none=>jA w λv H=>J5 nt s o.dst v λs=>K s H
  | some (some (x,want))=>gW x want H w λv H=>J5 nt s o.dst v λs=>K s H
  | some none=>J5 nt s o.dst AV.undef λs=>K s H
def wpOps(E:Env)(nt dep:Nat)(u:Bool)(ops:Array Oper):List Oper->eK->aa->(eK->aa->Prop)->Prop
 | [],s,H,K=>K s H
 | o :: os,s,H,K=>wpOp E nt dep u ops o s H λs H=>wpOps E nt dep u ops os s H K
def Fin(E:Env)(fn:Func)(rd:Option Ref)(o:Option St)(y:AV)(H':aa):Prop:=match rd with
 | none =>∃st,o=some st/\zi E.P fn st=some y/\st.hp=H'
 | some r =>∃st n,o=yt (some r) st n/\y = .v (.int .i64 (n:Nat))/\st.hp=H'
def Goes(E:Env)(fn:Func)(rd:Option Ref)(dep:Nat)(c:List Item)(s:eK)(H:aa)(Q:AV->aa->Prop):Prop:=
 ∀tm,eM tm s ->∃y H',Q y H' /\∃n,∀m,n<=m->Fin E fn rd (cr E m rd fn.ntmps dep c ⟨tm,H⟩) y H'
def QM(g:eK):List (Nat × AV)->eK
 | [],i=>g i
 | (j,v) :: l,i=>cond (Nat.beq i j) v (QM g l i)
structure ZI (E:Env) (fn:Func) (rd:Option Ref) (dep:Nat) (items:List Item) (l:List (Nat × AV)) (H:aa) (Q:AV->aa->Prop):Prop where
 h : ∀g,Goes E fn rd dep items (QM g l) H Q
abbrev bF(E:Env)(fn:Func)(dep:Nat)(c:List Item)(l:List (Nat × AV))(H:aa)(Q:AV->aa->Prop):Prop:=ZI E fn none dep c l H Q
def Ea(s:eK):List Nat->List (Nat × AV)
 | []=>[]
 | t :: c=>(t,s t) :: Ea s c
theorem Wb(s:eK)(l:List Nat):QM s (Ea s l)=s:=by
 induction l with
 | nil=>rfl
 | cons t l c=>
  funext i
  show cond (Nat.beq i t) (s t) (QM s (Ea s l) i)=s i
  rw[c]
  cases h:Nat.beq i t with
  | true=>rw[lb h];rfl
  | false=>rfl
def lN:Code->Option Nat
 | .region id _ _=>some id
 | .seq a b=>match lN a with
  | some i=>some i
  | none=>lN b
 | .cond _ a b=>match lN a with
  | some i=>some i
  | none=>lN b
 | .block _ c | .loop c | .scope c=>lN c
 | _=>none
def BF(P:Program)(H:aa)(x:AV)(t:TypeId):jI:=
 match x,dq P t,aH P t with
 | .ptr r i j,some g,some n=>match H.get r with
  | some b=>kf (cm b.es i j n g)
  | none=>none
 | _,_,_=>none
def pack:List AV->AV
 | [] => .v (.tuple #[])
 | [x]=>x
 | xs => .tup xs
def HH(P:Program)(s:eK)(H:aa)(Q:AV->aa->Prop):List ResultVar->List AV->Prop
 | [],acc=>Q (pack acc.reverse) H
 | .tmp t :: rs,acc=>HH P s H Q rs (s t :: acc)
 | .cell a t :: rs,acc=>fB (BF P H (s a) t) λv=>HH P s H Q rs (v :: acc)
def sv(x y:AV):Bool:=match jK x,jK y with
 | some r,some r'=>decide (r≠r')
 | _,_=>true
def yg(H:aa)(x:AV):Bool:=match x with
 | .ptr r _ _=>(match H.get r with
  | some b => !b.arr
  | none=>false)
 | _=>true
def bsV(x:AV):Bool:=match x with
 | .cG .. => true
 | .v _=>true
 | _=>false
def VL(s:eK)(p:Tmp × Tmp):Bool:=sv (s p.1) (s p.2)
def Ir(s:eK)(H:aa)(o:Oper):Bool:=match o.op with
 | .store _ (.tmp t) _=>yg H (s t)
 | _=>true
def Sk(E:Env)(s:eK)(o:Oper):Bool := !(E.kq o&&Cv o.op)||(match bsT o.op with
 | some t=>bsV (s t)
 | none=>false)
def Xj(E:Env)(l:List (Tmp × Tmp))(ops:Array Oper)(s:eK)(H:aa):Prop:=l.all (VL s)=true/\ops.toList.all (Ir s H)=true/\ops.toList.all (Sk E s)=true
def ny(l:List (AV × AV))(st c:List AV)(H:aa):Prop:=(l.all λp=>sv p.1 p.2)=true/\st.all (yg H)=true/\c.all bsV=true
def aad(assign body:Code):Nat:=match lN (.seq assign body) with
 | some i=>i+10000
 | none=>10000
structure bgP (o:Option (Nat × AV)) (K:AV->Prop) (m:Mk K:=()):Prop where
 h : ∃info,o=some (0,info)/\K info
def M6(P:Program)(fn:Func)(rd:Option Ref)(c:Nat)(s:eK)(H:aa)(Q:AV->aa->Prop):Prop:=match rd with
 | none=>cond (Nat.ble c 2) (HH P s H Q fn.results.toList []) False
 | some _=>Q (.v (.int .i64 c)) H
def wp(E:Env)(fn:Func)(rd:Option Ref)(dep:Nat)(live:Nat->Option (List Nat))(cut:Nat->Bool)(Q:AV->aa->Prop):Nat->List Item->eK->aa->Prop
 | 0,items,s,H=>Goes E fn rd dep items s H Q
 | n+1,items,s,H=>
  match items with
  | []=>M6 E.P fn rd 0 s H Q
  | .beginRound :: k=>(match rd with
   | none=>False
   | some r=>bgP (As H r) λd=>wp E fn rd dep live cut Q n k s (H.put r (some (kV 1 d))))
  | .code c :: k=>
   (match c with
   | .skip | .label _=>wp E fn rd dep live cut Q n k s H
   | .ret=>M6 E.P fn rd 2 s H Q
   | .seq a b=>wp E fn rd dep live cut Q n (.code a :: .code b :: k) s H
   | .cond c a b=>br (cK s c) (wp E fn rd dep live cut Q n (.code a :: k) s H) (wp E fn rd dep live cut Q n (.code b :: k) s H)
   | .block id b=>wp E fn rd dep live cut Q n (.code b :: .inBlock id :: k) s H
   | .scope b=>wp E fn rd dep live cut Q n (.code b :: .inScope b :: k) s H
   | .loop b=>(match (lN b).bind live with
    | some l=>ZI E fn rd dep (.inLoop b :: k) (Ea s l) H Q
    | none=>Goes E fn rd dep (.inLoop b :: k) s H Q)
   | .exit id=>(match exitTo id k with
    | some k'=>wp E fn rd dep live cut Q n k' s H
    | none=>M6 E.P fn rd (id+3) s H Q)
   | .rangeFunc g ps a b=>(match live (aad a b) with
    | some l=>ZI E fn rd dep (.code (.rangeFunc g ps a b) :: k) (Ea s l) H Q
    | none=>Goes E fn rd dep (.code (.rangeFunc g ps a b) :: k) s H Q)
   | .region id ops u=>(match cut id with
    | true=>(match live id with
     | some l=>ZI E fn rd dep (.code (.region id ops u) :: k) (Ea s l) H Q
     | none=>False)
    | false=>wpOps E fn.ntmps dep u ops ops.toList s H λs H=>
     (match u,sQ E ops with
     | true,p :: ps=>Xj E (p :: ps) ops s H/\wp E fn rd dep live cut Q n k s H
     | _,_=>wp E fn rd dep live cut Q n k s H))
   | _=>False)
  | .inLoop b :: k=>(match (lN b).bind live with
   | some l=>ZI E fn rd dep (.inLoop b :: k) (Ea s l) H Q
   | none=>Goes E fn rd dep (.inLoop b :: k) s H Q)
  | .inBlock _ :: k | .inScope _ :: k=>wp E fn rd dep live cut Q n k s H
  | _=>False
theorem uH{ops:Array Oper}{tm:List AV}{s:eK}(h:eM tm s)(o:Oper):wanted ops tm o=(match Mm ops s o with
 | none=>some true
 | some (some (x,c))=>Z0 x c
 | some none=>some false):=by
 unfold wanted Mm
 split
 ·rename_i e;rw[e]
 ·rename_i j c e
  rw[e]
  dsimp only
  split
  ·rename_i t d
   rw[d]
   dsimp only
   rw[h t]
   rfl
  ·rename_i d
   rw[d]
theorem xn{nt:Nat}{s:eK}{c:Option Tmp}{v:AV}{K:eK->Prop}(h:J5 nt s c v K) : ∃i,K i /\∀tm,eM tm s ->∃tm',dt nt tm c v=some tm'/\eM tm' i:=by
 unfold J5 at h
 cases c with
 | none=>exact⟨s,h,λtm f=>⟨tm,rfl,f⟩⟩
 | some d=>
  dsimp only at h
  cases e:Nat.blt d nt with
  | false=>rw[e]at h;exact h.elim
  | true=>
   rw[e]at h
   refine⟨_,h,λtm f=>⟨_,?_,f.set d v⟩⟩
   have g:d<nt:=MY e
   simp only[dt,if_pos g]
theorem XK{E:Env}{nt dep:Nat}{u:Bool}{ops:Array Oper}{o:Oper}{s:eK}{H:aa}{K:eK->aa->Prop}(h:wpOp E nt dep u ops o s H K) :
 ∃c H',K c H' /\∀tm,eM tm s ->∃tm',eM tm' c /\∃n,∀m,n<=m->evalOp E (cS E (cr E m)) (fx E (cr E m) dep) nt dep u ops o ⟨tm,H⟩=some ⟨tm',H'⟩:=by
 have run : ∀(v:AV)(H':aa)(c:eK),(∀tm,eM tm s->wanted ops tm o=some true)->(∃n,∀m,n<=m ->∀tm,eM tm s->rC E (cS E (cr E m)) (fx E (cr E m) dep) dep u tm H o=some (v,H')) ->
  (∀tm,eM tm s ->∃tm',dt nt tm o.dst v=some tm'/\eM tm' c) ->
  ∀tm,eM tm s ->∃tm',eM tm' c /\∃n,∀m,n<=m->evalOp E (cS E (cr E m)) (fx E (cr E m) dep) nt dep u ops o ⟨tm,H⟩=some ⟨tm',H'⟩:=by
  intro v H' c z ⟨n,F⟩ hp tm d
  obtain⟨tm',M,L⟩:=hp tm d
  refine⟨tm',L,n,λm A=>?_⟩
  rw[Jm]
  dsimp only
  rw[z tm d,F m A tm d]
  dsimp only
  rw[M]
  rfl
 have i : ∀(c:eK),(∀tm,eM tm s->wanted ops tm o=some false)->(∀tm,eM tm s ->∃tm',dt nt tm o.dst AV.undef=some tm'/\eM tm' c) ->
  ∀tm,eM tm s ->∃tm',eM tm' c /\∃n,∀m,n<=m->evalOp E (cS E (cr E m)) (fx E (cr E m) dep) nt dep u ops o ⟨tm,H⟩=some ⟨tm',H⟩:=by
  intro c z hp tm d
  obtain⟨tm',M,L⟩:=hp tm d
  refine⟨tm',L,0,λm _=>?_⟩
  rw[Jm]
  dsimp only
  rw[z tm d]
  dsimp only
  rw[M]
  rfl
 unfold wpOp at h
 split at h
 ·rename_i q l
  have I : ∀v,q=some (v,[]) ->∃n,∀m,n<=m ->∀tm,eM tm s->rC E (cS E (cr E m)) (fx E (cr E m) dep) dep u tm H o=some (v,H):=by
   intro v e
   obtain⟨n,F⟩:=KJ.1 q v l e
   exact⟨n,λm A tm d=>YF d (F m A) rfl⟩
  split at h
  ·rename_i j
   have z : ∀tm,eM tm s->wanted ops tm o=some true:=λtm d=>by rw[uH d,j]
   have g : ∀v,q=some (v,[])->J5 nt s o.dst v (λs=>K s H) ->∃c H',K c H' /\∀tm,eM tm s ->∃tm',eM tm' c /\∃n,∀m,n<=m->evalOp E (cS E (cr E m)) (fx E (cr E m) dep) nt dep u ops o ⟨tm,H⟩=some ⟨tm',H'⟩:=by
    intro v e hp
    obtain⟨c,f,hp⟩:=xn hp
    exact⟨c,H,f,run v H c z (I v e) hp⟩
   split at h
   ·rename_i x J
    split at h
    ·rename_i v e
     refine g v ?_ h
     unfold zm at l
     simp only[J,FU,e]at l
     rw[<-l];rfl
    ·exact h.elim
   ·rename_i x J
    split at h
    ·rename_i v e
     refine g v ?_ h
     unfold zm at l
     simp only[J,FU,e]at l
     rw[<-l];rfl
    ·exact h.elim
   ·obtain⟨v,e,h⟩:=h.h
    exact g v e h
  ·rename_i x G j
   replace h:=h.h
   unfold gd at h
   split at h
   ·rename_i p
    obtain⟨v,e,h⟩:=h.h
    obtain⟨c,f,hp⟩:=xn h
    exact⟨c,H,f,run v H c (λtm d=>by rw[uH d,j];exact p) (I v e) hp⟩
   ·rename_i p
    obtain⟨c,f,hp⟩:=xn h
    exact⟨c,H,f,i c (λtm d=>by rw[uH d,j];exact p) hp⟩
   ·exact h.elim
  ·rename_i j
   obtain⟨c,f,hp⟩:=xn h
   exact⟨c,H,f,i c (λtm d=>by rw[uH d,j]) hp⟩
 ·rename_i w z
  have B : ∀v H',w=some (v,H') ->∃n,∀m,n<=m ->∀tm,eM tm s->rC E (cS E (cr E m)) (fx E (cr E m) dep) dep u tm H o=some (v,H'):=by
   intro v H' e
   obtain⟨n,F⟩:=KJ.2 w v H' z e
   exact⟨n,λm A tm d=>YE d (F m A) rfl⟩
  split at h
  ·rename_i j
   obtain⟨v,H',e,h⟩:=h.h
   obtain⟨c,f,hp⟩:=xn h
   exact⟨c,H',f,run v H' c (λtm d=>by rw[uH d,j]) (B v H' e) hp⟩
  ·rename_i x G j
   replace h:=h.h
   unfold gd at h
   split at h
   ·rename_i p
    obtain⟨v,H',e,h⟩:=h.h
    obtain⟨c,f,hp⟩:=xn h
    exact⟨c,H',f,run v H' c (λtm d=>by rw[uH d,j];exact p) (B v H' e) hp⟩
   ·rename_i p
    obtain⟨c,f,hp⟩:=xn h
    exact⟨c,H,f,i c (λtm d=>by rw[uH d,j];exact p) hp⟩
   ·exact h.elim
  ·rename_i j
   obtain⟨c,f,hp⟩:=xn h
   exact⟨c,H,f,i c (λtm d=>by rw[uH d,j]) hp⟩
theorem Uw{E:Env}{nt dep:Nat}{u:Bool}{ops:Array Oper}{K:eK->aa->Prop} : ∀ {l:List Oper} {s:eK} {H:aa},wpOps E nt dep u ops l s H K ->
 ∃g H',K g H' /\∀tm,eM tm s ->∃tm',eM tm' g /\∃n,∀m,n<=m->nU E (cS E (cr E m)) (fx E (cr E m) dep) nt dep u ops l ⟨tm,H⟩=some ⟨tm',H'⟩:=by
 intro l
 induction l with
 | nil=>intro s H h;exact⟨s,H,h,λtm f=>⟨tm,f,0,λm _=>rfl⟩⟩
 | cons o l j=>
  intro s H h
  obtain⟨s1,H1,q,e⟩:=XK h
  obtain⟨s2,v,p,c⟩:=j q
  refine⟨s2,v,p,λtm f=>?_⟩
  obtain⟨tm1,t1,n1,i⟩:=e tm f
  obtain⟨d,t2,n2,w⟩:=c tm1 t1
  exact⟨d,t2,max n1 n2,λm z=>by simp only[nU,i m (by omega),w m (by omega)]⟩
theorem Uv{P:Program}{fn:Func}{s:eK}{H:aa}{Q:AV->aa->Prop} : ∀ {rs:List ResultVar} {c:List AV},HH P s H Q rs c ->
 ∃ys,Q (pack (c.reverse++ys)) H /\∀tm,eM tm s->rs.mapM (lW P ⟨tm,H⟩)=some ys:=by
 intro rs
 induction rs with
 | nil=>intro c h;exact⟨[],by simpa [HH] using h,λtm _=>rfl⟩
 | cons r rs p=>
  intro c h
  cases r with
  | tmp t=>
   obtain⟨ys,m,l⟩:=p h
   refine⟨s t :: ys,by simpa using m,λtm f=>?_⟩
   simp only[nY,lW,l tm f,f t,uF,vf,fN]
  | cell a t=>
   obtain⟨v,d,h⟩:=h.h
   obtain⟨ys,m,l⟩:=p h
   refine⟨v :: ys,by simpa using m,λtm f=>?_⟩
   have A:lW P ⟨tm,H⟩ (.cell a t)=some v:=by
    unfold BF at d
    simp only[lW,f a]
    split at d
    ·rename_i r i j g n w G q
     rw[w,G,q]
     dsimp only
     split at d
     ·rename_i b F
      rw[F]
      dsimp only
      simp only[kf,bN]at d
      obtain⟨z,B,e⟩:=d
      cases e
      exact B
     ·cases d
    ·cases d
   simp only[nY,A,l tm f,uF,vf,fN]
theorem NM{E:Env}{fn:Func}{s:eK}{H:aa}{Q:AV->aa->Prop}(h:HH E.P s H Q fn.results.toList []) : ∃y,Q y H /\∀tm,eM tm s->zi E.P fn ⟨tm,H⟩=some y:=by
 obtain⟨ys,e,c⟩:=Uv (fn:=fn) h
 refine⟨pack ys,by simpa using e,λtm d=>?_⟩
 unfold zi
 rw[c tm d]
 match ys with
 | []=>rfl
 | [x]=>rfl
 | x :: y :: zs=>rfl
theorem pA{E:Env}{fn:Func}{rd:Option Ref}{dep:Nat}{d c:List Item}{s:eK}{H:aa}{Q:AV->aa->Prop}
 (i : ∀n tm,cr E (n+1) rd fn.ntmps dep d ⟨tm,H⟩=cr E n rd fn.ntmps dep c ⟨tm,H⟩) (h:Goes E fn rd dep c s H Q):Goes E fn rd dep d s H Q:=by
 intro tm g
 obtain⟨y,H',j,n,e⟩:=h tm g
 refine⟨y,H',j,n+1,λm l=>?_⟩
 obtain⟨m,rfl⟩ : ∃f,m=f+1:=⟨m - 1,by omega⟩
 rw[i]
 exact e m (by omega)
theorem TM{E:Env}{fn:Func}{rd:Option Ref}{dep:Nat}{b:Code}{k:List Item}{s:eK}{H:aa}{Q:AV->aa->Prop}(h:Goes E fn rd dep (.code b :: .inLoop b :: k) s H Q):Goes E fn rd dep (.inLoop b :: k) s H Q:=
 pA (λn tm=>by simp only[cr]) h
theorem Q8{E:Env}{fn:Func}{rd:Option Ref}{dep:Nat}{b:Code}{k:List Item}{s:eK}{H:aa}{Q:AV->aa->Prop}(h:Goes E fn rd dep (.inLoop b :: k) s H Q):Goes E fn rd dep (.code (.loop b) :: k) s H Q:=by
 intro tm f
 obtain⟨y,H',g,n,c⟩:=h tm f
 refine⟨y,H',g,n+1,λm i=>?_⟩
 obtain⟨m,rfl⟩ : ∃d,m=d+1:=⟨m - 1,by omega⟩
 have:=c (m+1) (by omega)
 have e:cr E (m+1) rd fn.ntmps dep (.code (.loop b) :: k) ⟨tm,H⟩=cr E (m+1) rd fn.ntmps dep (.inLoop b :: k) ⟨tm,H⟩:=by simp only[cr]
 rw[e]
 exact this
theorem KY{E:Env}{fn:Func}{rd:Option Ref}{dep:Nat}{c:List Item}{s:eK}{l:List Nat}{H:aa}{Q:AV->aa->Prop}(h:ZI E fn rd dep c (Ea s l) H Q):Goes E fn rd dep c s H Q:=by
 have:=h.h s
 rwa [Wb]at this
theorem Jf{E:Env}{fn:Func}{rd:Option Ref}{dep c:Nat}{d:List Item}{s:eK}{H:aa}{Q:AV->aa->Prop}
 (g : ∀n tm,rd.isSome=true\/c<=2->cr E (n+1) rd fn.ntmps dep d ⟨tm,H⟩=(match rd with | none=>some ⟨tm,H⟩ | some r=>yt (some r) ⟨tm,H⟩ c)) (h:M6 E.P fn rd c s H Q):Goes E fn rd dep d s H Q:=by
 intro tm p
 cases rd with
 | none=>
  unfold M6 at h
  dsimp only at h
  cases e:Nat.ble c 2 with
  | false=>rw[e]at h;exact h.elim
  | true=>
   rw[e]at h
   obtain⟨y,l,j⟩:=NM h
   refine⟨y,H,l,1,λm i=>?_⟩
   obtain⟨m,rfl⟩ : ∃f,m=f+1:=⟨m - 1,by omega⟩
   exact⟨⟨tm,H⟩,g m tm (.inr (MY e)),j tm p,rfl⟩
 | some r=>
  refine⟨.v (.int .i64 c),H,h,1,λm i=>?_⟩
  obtain⟨m,rfl⟩ : ∃f,m=f+1:=⟨m - 1,by omega⟩
  exact⟨⟨tm,H⟩,c,g m tm (.inl rfl),rfl,rfl⟩
theorem Ua{E:Env}{ops:Array Oper}{s:eK}{H:aa}{tm:List AV}(c:eM tm s)(h:Xj E (sQ E ops) ops s H):uy E ops ⟨tm,H⟩=true:=by
 unfold uy
 rw[fv,aY]
 refine .inr ⟨?_,?_⟩
 ·refine Eq.trans ?_ h.1
  congr 1
  funext p
  unfold F9 VL sv
  rw[c,c]
  rfl
 ·rw[aY]
  refine⟨Eq.trans ?_ h.2.1,Eq.trans ?_ h.2.2⟩
  ·congr 1
   funext o
   unfold ze Ir
   generalize o.op=op
   cases op<;>try rfl
   rename_i t a x
   cases a<;>try rfl
   rename_i t'
   dsimp only
   rw[c t']
   rfl
  ·congr 1
   funext o
   unfold Jy Sk
   congr 1
   cases bsT o.op with
   | none=>rfl
   | some t=>
    dsimp only
    rw[c t]
    rfl
theorem yO{E:Env}{fn:Func}{rd:Option Ref}{dep:Nat}{live:Nat->Option (List Nat)}{cut:Nat->Bool}{Q:AV->aa->Prop} : ∀ {n:Nat} {d:List Item} {s:eK} {H:aa},
 wp E fn rd dep live cut Q n d s H->Goes E fn rd dep d s H Q:=by
 intro n
 induction n with
 | zero=>intro d s H h;exact h
 | succ n f=>
  intro d s H h
  have g : ∀ {k:List Item} {x:Option (List Nat)},(match x with | some l=>ZI E fn rd dep k (Ea s l) H Q | none=>Goes E fn rd dep k s H Q)->Goes E fn rd dep k s H Q:=by
   intro k x h
   cases x with
   | some l=>exact KY h
   | none=>exact h
  unfold wp at h
  split at h
  ·exact Jf (λn tm _=>by cases rd<;>simp only[cr]) h
  ·rename_i k
   split at h
   ·exact h.elim
   ·rename_i r
    obtain⟨info,M,h⟩:=h.h
    intro tm i
    obtain⟨y,H',q,n,J⟩:=f h tm i
    refine⟨y,H',q,n+1,λm K=>?_⟩
    obtain⟨m,rfl⟩ : ∃v,m=v+1:=⟨m - 1,by omega⟩
    have:=J m (by omega)
    have e:cr E (m+1) (some r) fn.ntmps dep (.beginRound :: k) ⟨tm,H⟩=cr E m (some r) fn.ntmps dep k ⟨tm,H.put r (some (kV 1 info))⟩:=by simp only[cr,M]
    rw[e]
    exact this
  ·rename_i c k
   split at h
   ·exact pA (λn tm=>by simp only[cr]) (f h)
   ·exact pA (λn tm=>by simp only[cr]) (f h)
   ·exact Jf (λn tm _=>by cases rd<;>simp[cr,yt]) h
   ·exact pA (λn tm=>by simp only[cr]) (f h)
   ·rename_i c a b
    replace h:=h.h
    unfold brP at h
    split at h
    ·rename_i w S
     have G:Goes E fn rd dep (.code (cond w a b) :: k) s H Q:=by cases w<;>exact f h
     intro tm i
     obtain⟨y,H',q,n,J⟩:=G tm i
     refine⟨y,H',q,n+1,λm K=>?_⟩
     obtain⟨m,rfl⟩ : ∃v,m=v+1:=⟨m - 1,by omega⟩
     have:=J m (by omega)
     have e:cr E (m+1) rd fn.ntmps dep (.code (.cond c a b) :: k) ⟨tm,H⟩=cr E m rd fn.ntmps dep (.code (cond w a b) :: k) ⟨tm,H⟩:=by
      simp only[cr,zx i,S]
      cases w<;>rfl
     rw[e]
     exact this
    ·exact h.elim
   ·exact pA (λn tm=>by simp only[cr]) (f h)
   ·exact pA (λn tm=>by simp only[cr]) (f h)
   ·exact Q8 (g h)
   ·rename_i id
    split at h
    ·rename_i k' B
     exact pA (λn tm=>by simp only[cr,B]) (f h)
    ·rename_i B
     exact Jf (λn tm z=>by
      simp only[cr,B]
      cases rd with
      | none=>
       rcases z with z | z
       ·cases z
       ·omega
      | some r=>rfl) h
   ·exact g h
   ·rename_i id ops u
    split at h
    ·split at h
     ·exact KY h
     ·exact h.elim
    ·obtain⟨L,H',j,F⟩:=Uw h
     have R:Goes E fn rd dep k L H' Q /\∀tm,eM tm L->(u && !uy E ops ⟨tm,H'⟩)=false:=by
      cases u with
      | false=>exact⟨f j,λ_ _=>rfl⟩
      | true=>
       cases hp:sQ E ops with
       | nil=>
        rw[hp]at j
        refine⟨f j,λtm i=>?_⟩
        unfold uy
        rw[hp]
        rfl
       | cons p ps=>
        rw[hp]at j
        exact⟨f j.2,λtm i=>by rw[Ua i (by rw[hp];exact j.1)];rfl⟩
     obtain⟨G,A⟩:=R
     intro tm i
     obtain⟨tm1,t1,n1,O⟩:=F tm i
     obtain⟨y,N,q,n2,I⟩:=G tm1 t1
     refine⟨y,N,q,max n1 n2+1,λm K=>?_⟩
     obtain⟨m,rfl⟩ : ∃v,m=v+1:=⟨m - 1,by omega⟩
     have:=I m (by omega)
     have e:cr E (m+1) rd fn.ntmps dep (.code (.region id ops u) :: k) ⟨tm,H⟩=cr E m rd fn.ntmps dep k ⟨tm1,H'⟩:=by
      simp only[cr,O m (by omega),A tm1 t1]
      simp
     rw[e]
     exact this
   ·exact h.elim
  ·exact g h
  ·exact pA (λn tm=>by simp only[cr]) (f h)
  ·exact pA (λn tm=>by simp only[cr]) (f h)
  ·exact h.elim
def tK:Nat->List AV->List (Nat × AV)
 | _,[]=>[]
 | i,x :: xs=>(i,x) :: tK (i+1) xs
theorem IT(args:List AV)(i:Nat):QM (λ_=>AV.undef) (tK 0 args) i=dJ args i:=by
 have : ∀(j:Nat)(l:List AV),QM (λ_=>AV.undef) (tK j l) (j+i)=dJ l i:=by
  induction i with
  | zero=>
   intro j l
   cases l with
   | nil=>rfl
   | cons x l=>
    show cond (Nat.beq (j+0) j) x _=x
    rw[show Nat.beq (j+0) j=true from by simp]
    rfl
  | succ i c=>
   intro j l
   cases l with
   | nil=>rfl
   | cons x l=>
    show cond (Nat.beq (j+(i+1)) j) x (QM (λ_=>AV.undef) (tK (j+1) l) (j+(i+1)))=dJ l i
    have e:Nat.beq (j+(i+1)) j=false:=by
     cases h:Nat.beq (j+(i+1)) j with
     | false=>rfl
     | true=>have:=lb h;omega
    rw[e]
    show QM _ _ _=_
    rw[<-c (j+1) l,show j+1+i=j+(i+1) by omega]
 simpa using this 0 args
def handed(E:Env)(f:FuncId)(x:AV)(H:aa)(y:AV):Prop:=
 if u6 (E.mode f)=true then (ao H.get depth x).Nodup/\dc H.get depth x=some y else view H.get depth x=some y
theorem pt{E:Env}{f:FuncId}{fn:Func}{c:Code}{args:List AV}{y:AV}(g:E.spec f args=none)(j:E.allowed f=true)(v:E.P.funcs[f]?=some fn)(q:fn.body=some c)(w:Nat.ble args.length fn.ntmps=true)
 (h:bF E fn 0 [.code c] (tK 0 args) [] λx H=>handed E f x H y):ak E f args=some y:=by
 rw[xy]
 obtain⟨x,H,d,n,A⟩:=h.h (λ_=>AV.undef) args λi=>(IT args i).symm
 refine⟨n,λm p=>?_⟩
 obtain⟨st,e,z,l⟩:=A m p
 subst l
 unfold cS
 rw[g]
 unfold wE
 simp only[j,if_true,v,q,if_pos (MY w),e,z,Option.map_some]
 unfold handed at d
 split
 ·rename_i e
  rw[if_pos e]at d
  rw[if_pos d.1]
  exact d.2
 ·rename_i e
  rw[if_neg e]at d
  exact d
theorem mJ{E:Env}{f:FuncId}{fn:Func}{c:Code}{dep:Nat}{args:List AV}{H:aa}{Q:AV->aa->Prop}(l:E.mode f=2)(g:E.allowed f=true)(q:E.P.funcs[f]?=some fn)(p:fn.body=some c)(v:Nat.ble args.length fn.ntmps=true)
 (h:bF E fn (dep+1) [.code c] (tK 0 args) H Q) (d:E.thrSpec f args H=none:=by rfl) : ∃y H',bD E dep (.fn f) args H=some (y,H')/\Q y H':=by
 obtain⟨x,H1,w,n,A⟩:=h.h (λ_=>AV.undef) args λi=>(IT args i).symm
 refine⟨x,H1,At.2 ⟨n,λm e=>?_⟩,w⟩
 obtain⟨st,B,z,j⟩:=A m e
 unfold fx
 dsimp only
 rw[d]
 dsimp only
 rw[if_pos l]
 unfold wE
 simp only[g,if_true,q,p,if_pos (MY v),B,z,Option.map_some,j]
theorem Wz{E:Env}{fn:Func}{dep nt:Nat}{r:Ref}{f:FuncId}{ps:List Tmp}{assign body:Code}{tm:List AV}{args:List AV}{H:aa}{Q:AV->aa->Prop}
 (I:As H r=some (0,.lp f nt ps assign body tm)) (K:fn.ntmps=nt) (hp:args.length=ps.length) (z:ps.all (· < nt)=true) (B:codeOk E.ok assign=true) (L:codeOk E.ok body=true)
 (h:Goes E fn (some r) (dep+1) [.code assign,.beginRound,.code body] (dJ (yh tm ps args)) H λx H' =>∃c:Nat,x = .v (.int .i64 c) /\∃d g,As H' r=some (1,d)/\g=H'.put r (some (kV c d)) /\
  As g r=some (c,d)/\(c=0->Q (.v (.bool true)) g)/\(2<=c->Q (.v (.bool false)) g)/\c≠1) :
 ∃y H',bD E dep (.yld r) args H=some (y,H')/\Q y H':=by
 obtain⟨x,H1,⟨c,rfl,d,g,M,rfl,J,l,w,e⟩,n,q⟩:=h (yh tm ps args) (λi=>rfl)
 have key : ∀m,n<=m->Ci E (cr E m) (dep+1) r args H=some (.v (.bool (c == 0)),H1.put r (some (kV c d))):=by
  intro m F
  obtain⟨st,k,A,j,G⟩:=q m F
  injection j with j
  injection j with j p
  have p:c=k:=by exact_mod_cast p
  subst p
  subst K
  unfold Ci
  rw[I]
  simp only
  rw[if_pos ⟨hp,z,B,L⟩,A]
  unfold yt
  simp only[G,M,J]
  match c with
  | 0=>rfl
  | 1=>exact(e rfl).elim
  | k+2=>rfl
 have ag5 : ∀m,n<=m->fx E (cr E m) dep (.yld r) args H=some (.v (.bool (c == 0)),H1.put r (some (kV c d))):=key
 refine⟨_,_,At.2 ⟨n,ag5⟩,?_⟩
 match c with
 | 0=>exact l rfl
 | 1=>exact(e rfl).elim
 | k+2=>exact w (by omega)
theorem Q7{E:Env}{fn:Func}{dep:Nat}{g:Operand}{ps:Array Tmp}{assign body:Code}{k:List Item}{s:eK}{H:aa}{Q:AV->aa->Prop}{gi:FuncId}{first captured:List AV}
 (A:cK s g=some (.fn (.func gi) first captured))
 (h : ∀tm,eM tm s ->∃v c st d,bD E dep (.fn gi) (first++[.yld ⟨dep,fn.ntmps,H.gen dep fn.ntmps,0⟩]++captured) ((⟨dep,fn.ntmps,H.gen dep fn.ntmps,0⟩,some (kV 0 (.lp 0 fn.ntmps ps.toList assign body tm))) :: H)=some (v,c) /\
  As c ⟨dep,fn.ntmps,H.gen dep fn.ntmps,0⟩=some (st,d) /\
  (
   (st=0/\Goes E fn none dep k s (c.put ⟨dep,fn.ntmps,H.gen dep fn.ntmps,0⟩ none) Q) \/
   (st=2/\HH E.P s (c.put ⟨dep,fn.ntmps,H.gen dep fn.ntmps,0⟩ none) Q fn.results.toList []) \/
   (∃id k',st=id+3/\exitTo id k=some k'/\Goes E fn none dep k' s (c.put ⟨dep,fn.ntmps,H.gen dep fn.ntmps,0⟩ none) Q))) :
 Goes E fn none dep (.code (.rangeFunc g ps assign body) :: k) s H Q:=by
 intro tm p
 obtain⟨v,c,st,d,G,w,B⟩:=h tm p
 obtain⟨n1,f⟩:=At.1 G
 have j:aK tm g=some (.fn (.func gi) first captured):=by rw[zx p];exact A
 rcases B with ⟨rfl,l⟩ | ⟨rfl,l⟩ | ⟨id,k',rfl,he,l⟩
 ·obtain⟨y,H',n,n2,i⟩:=l tm p
  refine⟨y,H',n,max n1 n2+1,λm z=>?_⟩
  obtain⟨m,rfl⟩ : ∃q,m=q+1:=⟨m - 1,by omega⟩
  have e:cr E (m+1) none fn.ntmps dep (.code (.rangeFunc g ps assign body) :: k) ⟨tm,H⟩=cr E m none fn.ntmps dep k ⟨tm,c.put ⟨dep,fn.ntmps,H.gen dep fn.ntmps,0⟩ none⟩:=by
   simp only[cr,j,f m (by omega),w]
  rw[e]
  exact i m (by omega)
 ·obtain⟨y,n,F⟩:=NM l
  refine⟨y,_,n,n1+1,λm z=>?_⟩
  obtain⟨m,rfl⟩ : ∃q,m=q+1:=⟨m - 1,by omega⟩
  have e:cr E (m+1) none fn.ntmps dep (.code (.rangeFunc g ps assign body) :: k) ⟨tm,H⟩=some ⟨tm,c.put ⟨dep,fn.ntmps,H.gen dep fn.ntmps,0⟩ none⟩:=by
   simp only[cr,j,f m (by omega),w]
  rw[e]
  exact⟨_,rfl,F tm p,rfl⟩
 ·obtain⟨y,H',n,n2,i⟩:=l tm p
  refine⟨y,H',n,max n1 n2+1,λm z=>?_⟩
  obtain⟨m,rfl⟩ : ∃q,m=q+1:=⟨m - 1,by omega⟩
  have e:cr E (m+1) none fn.ntmps dep (.code (.rangeFunc g ps assign body) :: k) ⟨tm,H⟩=cr E m none fn.ntmps dep k' ⟨tm,c.put ⟨dep,fn.ntmps,H.gen dep fn.ntmps,0⟩ none⟩:=by
   simp only[cr,j,f m (by omega),w,he]
  rw[e]
  exact i m (by omega)
theorem TD{E:Env}{f:FuncId}{args:List AV}{y:AV}(h:E.spec f args=some y):ak E f args=some y:=by
 rw[xy]
 exact⟨0,λm _=>by unfold cS;rw[h]⟩
theorem WA{E:Env}{f:FuncId}{args:List AV}{y:AV}(h:ak E f args=some y) : ∃n,cS E (cr E n) f args=some y:=by
 obtain⟨n,c⟩:=xy.1 h
 exact⟨n,c n (de _)⟩
def qA(r:Nat):Nat->List Item->Option (List Item)
 | 0,_=>none
 | n+1,items=>
  match items with
  | .code c :: k=>(match c with
   | .seq a b=>qA r n (.code a :: .code b :: k)
   | .cond _ a b=>(match qA r n (.code a :: k) with
    | some l=>some l
    | none=>qA r n (.code b :: k))
   | .block id b=>qA r n (.code b :: .inBlock id :: k)
   | .scope b=>qA r n (.code b :: .inScope b :: k)
   | .loop b=>(match lN b with
    | some i=>cond (Nat.beq i r) (some (.inLoop b :: k)) (qA r n (.code b :: .inLoop b :: k))
    | none=>none)
   | .exit id=>(match exitTo id k with
    | some k'=>qA r n k'
    | none=>none)
   | .skip | .label _ | .region _ _ _=>qA r n k
   | _=>none)
  | .inBlock _ :: k | .inScope _ :: k=>qA r n k
  | _=>none
def mL(r:Nat):Nat->List Item->Option (List Item)
 | 0,_=>none
 | n+1,items=>
  match items with
  | .code c :: k=>(match c with
   | .seq a b=>mL r n (.code a :: .code b :: k)
   | .cond _ a b=>(match mL r n (.code a :: k) with
    | some l=>some l
    | none=>mL r n (.code b :: k))
   | .block id b=>mL r n (.code b :: .inBlock id :: k)
   | .scope b=>mL r n (.code b :: .inScope b :: k)
   | .loop b=>mL r n (.code b :: .inLoop b :: k)
   | .exit id=>(match exitTo id k with
    | some k'=>mL r n k'
    | none=>none)
   | .rangeFunc _ _ a b=>cond (Nat.beq (aad a b) r) (some items) (mL r n k)
   | .skip | .label _ | .region _ _ _=>mL r n k
   | _=>none)
  | .inBlock _ :: k | .inScope _ :: k=>mL r n k
  | _=>none
def rfA:List Item->Code
 | .code (.rangeFunc _ _ a _) :: _=>a
 | _ => .skip
def rfB:List Item->Code
 | .code (.rangeFunc _ _ _ b) :: _=>b
 | _ => .skip
def rfK:List Item->List Item
 | _ :: k=>k
 | []=>[]
def Rk:List Item->List Item
 | .inLoop b :: k => .code b :: .inLoop b :: k
 | l=>l
theorem Ez{E:Env}{fn:Func}{rd:Option Ref}{dep:Nat}{c:List Item}{l:List (Nat × AV)}{H:aa}{Q:AV->aa->Prop}(h : ∀g,Goes E fn rd dep (Rk c) (QM g l) H Q):ZI E fn rd dep c l H Q:=by
 refine⟨λg=>?_⟩
 have:=h g
 unfold Rk at this
 split at this
 ·exact TM this
 ·exact this
def oi(x:AV):Option (Option Int):=match intOf x with
 | some n=>some (some n)
 | none=>none
end
section
def Xr(pc c:FuncId->List AV->Option AV):Prop :=∀f xs y,pc f xs=some y->c f xs=some y
def ZG(tc c:yD->List AV->aa->dz):Prop :=∀f xs H y,tc f xs H=some y->c f xs H=some y
theorem Qz{E:Env}{pc c:FuncId->List AV->Option AV}(hp:Xr pc c){g:cX}{r:Ref}{f:Option AV}{args:List AV}{z:AV × List bw}(h:kJ E pc g r f args=some z):kJ E c g r f args=some z:=by
 unfold kJ at h ⊢
 split at h
 ·split at h
  ·cases h
  ·rename_i d
   rw[if_neg d]
   split at h
   ·rename_i xs i
    split at h
    ·rename_i y e
     rw[hp _ _ _ e]
     exact h
    ·cases h
   ·cases h
 ·cases h
theorem VU{E:Env}{pc d:FuncId->List AV->Option AV}{tc g:yD->List AV->aa->dz}(hp:Xr pc d)(j:ZG tc g){H:aa}{r:Ref}{f:Option AV}{args:List AV} :
 (kJ E pc H.get r f args=none ->∀z,nC E pc tc H r f args=some z->nC E d g H r f args=some z/\kJ E d H.get r f args=none):=by
 intro c z h
 unfold kJ at c ⊢
 unfold nC at h ⊢
 split at h
 ·rename_i fi first captured
  dsimp only at c ⊢
  split at h
  ·rename_i e
   rw[if_pos e,if_pos e]
   exact⟨j _ _ _ _ h,rfl⟩
  ·rename_i e
   rw[if_neg e]at c
   rw[if_neg e,if_neg e]
   split at h
   ·rename_i xs l
    try rw[l]at c
    dsimp only at c ⊢
    simp only[bN]at h
    obtain⟨y,i,h⟩:=h
    rw[i]at c
    rw[hp _ _ _ i]
    exact⟨by rw[Option.map_some,h],c⟩
   ·cases h
 ·exact⟨j _ _ _ _ h,rfl⟩
 ·cases h
theorem Rc{E:Env}{pc d:FuncId->List AV->Option AV}{tc l:yD->List AV->aa->dz}(hp:Xr pc d)(J:ZG tc l){dep:Nat}{u:Bool}{tm:List AV}{H:aa}{o:Oper}{z:AV × aa}
 (h:rC E pc tc dep u tm H o=some z):rC E d l dep u tm H o=some z:=by
 by_cases A : ∃c f args,o.op = .call c/\c.args.toList.mapM (aK tm)=some args/\c.callee = .value f
 ·obtain⟨c,f,args,m,q,v⟩:=A
  unfold rC cz evalW at h ⊢
  simp only[m,q,v]at h ⊢
  cases j:Gd E.tz u f with
  | some t=>
   rw[j]at h
   dsimp only at h ⊢
   cases K:NW E.P H.get t args with
   | some p=>rw[K]at h;exact h
   | none=>
    rw[K]at h
    dsimp only at h ⊢
    split at h
    ·cases h
    ·rename_i F
     rw[if_neg F]
     have B : ∃g,f = .func g:=by unfold Gd at j;split at j<;>simp_all
     obtain⟨g,rfl⟩:=B
     simp only[aK,nC]at h ⊢
     by_cases G:E.mode g=2
     ·rw[if_pos G]at h ⊢
      cases i:tc (.fn g) ([]++args++[]) H with
      | none=>rw[i]at h;unfold re at h;split at h<;>(try split at h)<;>simp_all
      | some L=>rw[i]at h;rw[J _ _ _ _ i];exact h
     ·rw[if_neg G]at h ⊢
      cases I:([]++args++[]:List AV).mapM (view H.get depth) with
      | none=>rw[I]at h;exact h
      | some xs=>
       rw[I]at h
       dsimp only at h ⊢
       cases w:pc g xs with
       | none=>rw[w]at h;unfold re at h;split at h<;>(try split at h)<;>simp_all
       | some y=>rw[w]at h;rw[hp _ _ _ w];exact h
  | none=>
  rw[j]at h
  dsimp only at h ⊢
  cases n:kJ E pc H.get ⟨dep,o.dst.getD 0,H.gen dep (o.dst.getD 0),0⟩ (aK tm f) args with
  | some p=>
   rw[n]at h
   rw[Qz hp n]
   exact h
  | none=>
   rw[n]at h
   simp only[FV]at h
   split at h
   ·cases h
   ·rename_i F
    cases i:nC E pc tc H ⟨dep,o.dst.getD 0,H.gen dep (o.dst.getD 0),0⟩ (aK tm f) args with
    | none=>
     rw[i]at h
     unfold re at h
     split at h
     ·rename_i e;cases e
     ·cases h
    | some L=>
     obtain⟨N,M⟩:=VU hp J n _ i
     rw[M,N]
     rw[i]at h
     simp only[FV,if_neg F]
     exact h
 ·have:rC E pc tc dep u tm H o=rC E d l dep u tm H o:=by
   have n:cz E pc u H.get tm ⟨dep,o.dst.getD 0,H.gen dep (o.dst.getD 0),0⟩ o=cz E d u H.get tm ⟨dep,o.dst.getD 0,H.gen dep (o.dst.getD 0),0⟩ o:=by
    cases m:o.op<;>simp only[cz,m]
    case makeMap a b=>cases b<;>rfl
    rename_i c
    cases q:c.args.toList.mapM (aK tm) with
    | none=>rfl
    | some args=>
     cases v:c.callee with
     | value f=>exact(A ⟨c,f,args,m,q,v⟩).elim
     | invoke _ _=>rfl
     | builtin b=>rfl
   have i:evalW E pc tc H tm ⟨dep,o.dst.getD 0,H.gen dep (o.dst.getD 0),0⟩ o=evalW E d l H tm ⟨dep,o.dst.getD 0,H.gen dep (o.dst.getD 0),0⟩ o:=by
    cases m:o.op<;>simp only[evalW,m]
    rename_i c
    cases q:c.args.toList.mapM (aK tm) with
    | none=>rfl
    | some args=>
     cases v:c.callee with
     | value f=>exact(A ⟨c,f,args,m,q,v⟩).elim
     | invoke _ _=>rfl
     | builtin b=>rfl
   unfold rC
   rw[n,i]
  rw[<-this]
  exact h
theorem NK{E:Env}{pc e:FuncId->List AV->Option AV}{tc f:yD->List AV->aa->dz}(hp:Xr pc e)(m:ZG tc f){nt dep:Nat}{u:Bool}{ops:Array Oper} : ∀ {l:List Oper} {st d:St},
 nU E pc tc nt dep u ops l st=some d->nU E e f nt dep u ops l st=some d:=by
 intro l
 induction l with
 | nil=>intro st d h;exact h
 | cons o l j=>
  intro st d h
  unfold nU at h ⊢
  cases c:evalOp E pc tc nt dep u ops o st with
  | none=>rw[c]at h;cases h
  | some g=>
   rw[c]at h
   have:evalOp E e f nt dep u ops o st=some g:=by
    rw[Jm]at c ⊢
    cases hw:wanted ops st.tm o with
    | none=>rw[hw]at c;cases c
    | some b=>
     rw[hw]at c
     cases b with
     | false=>exact c
     | true=>
      dsimp only at c ⊢
      cases i:rC E pc tc dep u st.tm st.hp o with
      | none=>rw[i]at c;cases c
      | some z=>rw[i]at c;rw[Rc hp m i];exact c
   rw[this]
   exact j h
theorem Gr{E:Env}{run e:Option Ref->Nat->Nat->List Item->St->Option St}(n : ∀rd nt dep d st g,run rd nt dep d st=some g->e rd nt dep d st=some g){dep:Nat}{f:FuncId}{args:List AV}{H:aa}{z:AV × aa}
 (h:wE E run dep f args H=some z):wE E e dep f args H=some z:=by
 unfold wE at h ⊢
 split at h
 ·rename_i m
  rw[if_pos m]
  cases l:E.P.funcs[f]? with
  | none=>rw[l]at h;cases h
  | some fn=>
   rw[l]at h
   dsimp only at h ⊢
   cases j:fn.body with
   | none=>rw[j]at h;cases h
   | some c=>
    rw[j]at h
    dsimp only at h ⊢
    split at h
    ·rename_i p
     rw[if_pos p]
     cases i:run none fn.ntmps dep [.code c] ⟨args,H⟩ with
     | none=>rw[i]at h;cases h
     | some st=>rw[i]at h;rw[n _ _ _ _ _ _ i];exact h
    ·cases h
 ·cases h
theorem CK{E:Env}{run d:Option Ref->Nat->Nat->List Item->St->Option St}(j : ∀rd nt dep c st e,run rd nt dep c st=some e->d rd nt dep c st=some e):Xr (cS E run) (cS E d):=by
 intro f xs y h
 unfold cS at h ⊢
 cases i:E.spec f xs with
 | some s=>rw[i]at h;exact h
 | none=>
  rw[i]at h
  dsimp only at h ⊢
  cases g:wE E run 0 f xs [] with
  | none=>rw[g]at h;cases h
  | some z=>rw[g]at h;rw[Gr j g];exact h
theorem DZ{E:Env}{run d:Option Ref->Nat->Nat->List Item->St->Option St}(i : ∀rd nt dep c st e,run rd nt dep c st=some e->d rd nt dep c st=some e)(dep:Nat):ZG (fx E run dep) (fx E d dep):=by
 intro f xs H y h
 unfold fx at h ⊢
 cases f with
 | fn f=>
  dsimp only at h ⊢
  cases j:E.thrSpec f xs H with
  | some s=>rw[j]at h;exact h
  | none=>
  rw[j]at h
  dsimp only at h ⊢
  split at h
  ·rename_i l;rw[if_pos l];exact Gr i h
  ·cases h
 | yld r=>
  dsimp only at h ⊢
  unfold Ci at h ⊢
  split at h
  ·rename_i f nt ps assign body tm n
   split at h
   ·rename_i m
    rw[if_pos m]
    cases g:run (some r) nt (dep+1) [.code assign,.beginRound,.code body] ⟨yh tm ps xs,H⟩ with
    | none=>rw[g]at h;cases h
    | some st=>rw[g]at h;rw[i _ _ _ _ _ _ g];exact h
   ·cases h
  ·cases h
theorem Ta{E:Env} : ∀(n:Nat)(rd:Option Ref)(nt dep:Nat)(d:List Item)(st f:St),cr E n rd nt dep d st=some f->cr E (n+1) rd nt dep d st=some f:=by
 intro n
 induction n with
 | zero=>intro rd nt dep d st f h;simp[cr]at h
 | succ n e=>
  intro rd nt dep d st f h
  unfold cr at h ⊢
  split at h
  ·exact h
  ·split at h
   ·exact h
   ·rename_i r
    split at h
    ·exact e _ _ _ _ _ _ h
    ·cases h
  ·split at h
   all_goals try exact h
   all_goals try exact e _ _ _ _ _ _ h
   ·rename_i c a b
    split at h
    ·exact e _ _ _ _ _ _ h
    ·exact e _ _ _ _ _ _ h
    ·cases h
   ·split at h
    ·exact e _ _ _ _ _ _ h
    ·exact h
   ·rename_i ops u
    cases g:nU E (cS E (cr E n)) (fx E (cr E n) dep) nt dep u ops ops.toList st with
    | none=>rw[g]at h;cases h
    | some i=>
     rw[g]at h
     rw[NK (CK e) (DZ e dep) g]
     dsimp only at h ⊢
     split at h
     ·cases h
     ·rename_i j
      rw[if_neg j]
      exact e _ _ _ _ _ _ h
   ·split at h
    ·split at h
     ·rename_i x H' g
      rw[DZ e dep _ _ _ _ g]
      dsimp only
      split at h
      ·exact e _ _ _ _ _ _ h
      ·exact h
      ·split at h
       ·exact e _ _ _ _ _ _ h
       ·cases h
      ·cases h
     ·cases h
    ·cases h
  all_goals try exact e _ _ _ _ _ _ h
  all_goals cases h
theorem Yh{E:Env}{n m:Nat}(f:n<=m){rd:Option Ref}{nt dep:Nat}{c:List Item}{st d:St}(h:cr E n rd nt dep c st=some d):cr E m rd nt dep c st=some d:=by
 induction f with
 | refl=>exact h
 | step _ e=>exact Ta _ _ _ _ _ _ _ e
theorem Gf{E:Env}{n:Nat}{f:FuncId}{args:List AV}{y:AV}(h:cS E (cr E n) f args=some y):ak E f args=some y:=
 xy.2 ⟨n,λ_ c=>CK (λ_ _ _ _ _ _ h=>Yh c h) _ _ _ h⟩
end
section
abbrev aI(n:Int):AV := .v (.int .i64 n)
abbrev aB(b:Bool):AV := .v (.bool b)
def a8(n:UInt8):AV := .v (.int .u8 (n.toNat:Int))
def ae(n:UInt32):AV := .v (.int .u32 (n.toNat:Int))
abbrev aS(s:ByteArray):AV := .v (.string s)
abbrev ba:AV := .v (.slice none 0 0)
theorem FH{w:dz}{K:AV->aa->Prop}{m:Mk K}{v:AV}{H:aa}(c:w=some (v,H))(h:K v H):jA w K m:=⟨v,H,c,h⟩
@[simp] theorem ahR(v:AV)(K:AV->Prop)(m:Mk K):fB (some (v,[])) K m↔K v:=
 ⟨λ⟨⟨w,hw,h⟩⟩=>by cases hw;exact h,λh=>⟨v,rfl,h⟩⟩
@[simp] theorem akt(c:Prop)[Decidable c](q:jI)(K:AV->Prop)(m:Mk K):fB (if c then q else none) K m↔c/\fB q K m:=by
 by_cases d:c
 ·simp[d]
 ·simp only[if_neg d,d,false_and,iff_false]
  rintro⟨v,e,_⟩;cases e
@[simp] theorem ahQ(v:AV)(H:aa)(K:AV->aa->Prop)(m:Mk K):jA (some (v,H)) K m↔K v H:=
 ⟨λ⟨⟨w,_,hw,h⟩⟩=>by cases hw;exact h,λh=>⟨v,H,rfl,h⟩⟩
@[simp] theorem aks(c:Prop)[Decidable c](q:dz)(K:AV->aa->Prop)(m:Mk K):jA (if c then q else none) K m↔c/\jA q K m:=by
 by_cases d:c
 ·simp[d]
 ·simp only[if_neg d,d,false_and,iff_false]
  rintro⟨v,_,e,_⟩;cases e
theorem Sm{x:Option AV}{A B:Prop}{m:Mk (A,B)}:br x A B m↔brP x A B:=⟨λh=>h.h,λh=>⟨h⟩⟩
@[simp] theorem ajM(A B:Prop)(m:Mk (A,B)):br (some (aB true)) A B m↔A:=Sm
@[simp] theorem ahV(A B:Prop)(m:Mk (A,B)):br (some (aB false)) A B m↔B:=Sm
theorem iV{b:Bool}{A B:Prop}{m:Mk (A,B)}(d:b=true->A)(c:b=false->B):br (some (aB b)) A B m:=by
 cases b
 ·exact⟨c rfl⟩
 ·exact⟨d rfl⟩
theorem ac6{p:Prop}[Decidable p]{A B:Prop}{m:Mk (A,B)}(d:p->A)(c : ¬p->B):br (some (aB (decide p))) A B m:=
 iV (λh=>d (of_decide_eq_true h)) (λh=>c (of_decide_eq_false h))
@[simp] theorem ahp(q:jI)(K:AV->Prop)(m:Mk (q,K)):gQ (aB true) true q K m↔fB q K:=⟨λh=>h.h,λh=>⟨h⟩⟩
@[simp] theorem ahs(q:jI)(K:AV->Prop)(m:Mk (q,K)):gQ (aB false) false q K m↔fB q K:=⟨λh=>h.h,λh=>⟨h⟩⟩
@[simp] theorem ahq(q:jI)(K:AV->Prop)(m:Mk (q,K)):gQ (aB true) false q K m↔K AV.undef:=⟨λh=>h.h,λh=>⟨h⟩⟩
@[simp] theorem ahr(q:jI)(K:AV->Prop)(m:Mk (q,K)):gQ (aB false) true q K m↔K AV.undef:=⟨λh=>h.h,λh=>⟨h⟩⟩
@[simp] theorem alc(w:Bool)(q:jI)(K:AV->Prop)(m:Mk (q,K)):gQ AV.undef w q K m↔K AV.undef:=⟨λh=>h.h,λh=>⟨h⟩⟩
@[simp] theorem ahl(H:aa)(q:dz)(K:AV->aa->Prop)(m:Mk (q,K)):gW (aB true) true H q K m↔jA q K:=⟨λh=>h.h,λh=>⟨h⟩⟩
@[simp] theorem aho(H:aa)(q:dz)(K:AV->aa->Prop)(m:Mk (q,K)):gW (aB false) false H q K m↔jA q K:=⟨λh=>h.h,λh=>⟨h⟩⟩
@[simp] theorem ahm(H:aa)(q:dz)(K:AV->aa->Prop)(m:Mk (q,K)):gW (aB true) false H q K m↔K AV.undef H:=⟨λh=>h.h,λh=>⟨h⟩⟩
@[simp] theorem ahn(H:aa)(q:dz)(K:AV->aa->Prop)(m:Mk (q,K)):gW (aB false) true H q K m↔K AV.undef H:=⟨λh=>h.h,λh=>⟨h⟩⟩
@[simp] theorem alb(w:Bool)(H:aa)(q:dz)(K:AV->aa->Prop)(m:Mk (q,K)):gW AV.undef w H q K m↔K AV.undef H:=⟨λh=>h.h,λh=>⟨h⟩⟩
@[simp] theorem ad7(v:AV):kf (some v)=some (v,[]):=id rfl
@[simp] theorem aet(H:aa)(r:Ref)(v:AV)(c:List bw):na H r (some (v,c))=some (v,keyed r 0 c H):=id rfl
@[simp] theorem KM(H:aa)(r:Ref):na H r none=none:=id rfl
@[simp] theorem ach(r:Ref)(k:Nat)(H:aa):keyed r k [] H=H:=id rfl
@[simp] theorem aci(r:Ref)(k:Nat)(b:bw)(c:List bw)(H:aa):keyed r k (b :: c) H=keyed r (k+1) c (({ r with k:=k},some b) :: H):=id rfl
@[simp] theorem agK(c:Bool)(x:AV × aa)(b:dz):GN c (some x) b=some x:=id rfl
@[simp] theorem Oa(b:dz):GN true none b=b:=id rfl
@[simp] theorem abZ(a b:Option AV):BH (some (aB true)) a b=kf a:=id rfl
@[simp] theorem aaj(a b:Option AV):BH (some (aB false)) a b=kf b:=id rfl
@[simp] theorem akh(k:IntKind)(n:Int):oi (.v (.int k n))=some (some n):=id rfl
@[simp] theorem ae4(cs:List AV):(AV.agg cs).cells=cs:=id rfl
@[simp] theorem ajG(x:Value):(AV.v x).cells=[.v x]:=id rfl
@[simp] theorem ajH(x:UInt8):(a8 x).cells=[a8 x]:=id rfl
@[simp] theorem ahT(x:UInt32):(ae x).cells=[ae x]:=id rfl
@[simp] theorem ae3(z:Nat)(es:List AV)(c:Option Nat):(AV.cD z es c).cells=[.cD z es c]:=id rfl
@[simp] theorem ae2(r:Ref)(o n:Nat)(c:Option Nat):(AV.cG r o n c).cells=[.cG r o n c]:=id rfl
@[simp] theorem ae1(r:Ref)(i j:Nat):(AV.ptr r i j).cells=[.ptr r i j]:=id rfl
@[simp] theorem ahS(f:Fn)(a b:List AV):(AV.fn f a b).cells=[.fn f a b]:=id rfl
@[simp] theorem ai6(k:IntKind)(n:Int):(AV.v (.int k n)).one=true:=id rfl
@[simp] theorem agL(b:Bool):(AV.v (.bool b)).one=true:=id rfl
@[simp] theorem ai4:ba.one=true:=id rfl
@[simp] theorem akL(x:UInt8):(a8 x).one=true:=id rfl
@[simp] theorem akg(x:UInt32):(ae x).one=true:=id rfl
@[simp] theorem ai5(z:Nat)(es:List AV)(c:Option Nat):(AV.cD z es c).one=true:=id rfl
@[simp] theorem ai3(r:Ref)(o n:Nat)(c:Option Nat):(AV.cG r o n c).one=true:=id rfl
@[simp] theorem ai2(r:Ref)(i j:Nat):(AV.ptr r i j).one=true:=id rfl
@[simp] theorem ab2(f:Fn)(a b:List AV):(AV.fn f a b).one=true:=id rfl
section
variable(P:Program)(t:TypeId)(D C:Operand)(k:IntKind)(a b:Int)
@[simp] theorem N2:bY P .lss t D C (some (.v (.int k a))) (some (.v (.int k b)))=some (aB (decide (a<b)),[]):=by cases k<;>rfl
@[simp] theorem VY:bY P .leq t D C (some (.v (.int k a))) (some (.v (.int k b)))=some (aB (decide (a<=b)),[]):=by cases k<;>rfl
@[simp] theorem VZ:bY P .gtr t D C (some (.v (.int k a))) (some (.v (.int k b)))=some (aB (decide (b<a)),[]):=by cases k<;>rfl
@[simp] theorem V0:bY P .geq t D C (some (.v (.int k a))) (some (.v (.int k b)))=some (aB (decide (b<=a)),[]):=by cases k<;>rfl
@[simp] theorem N3:bY P .eql t D C (some (.v (.int k a))) (some (.v (.int k b)))=some (aB (decide (a=b)),[]):=by
 have:(a == b)=decide (a=b):=by by_cases h:a=b<;>simp[h]
 rw[<-this];cases k<;>rfl
@[simp] theorem VX:bY P .neq t D C (some (.v (.int k a))) (some (.v (.int k b)))=some (aB (!decide (a=b)),[]):=by
 have:(a != b) = !decide (a=b):=by by_cases h:a=b<;>simp[h]
 rw[<-this];cases k<;>rfl
@[simp] theorem agG:bY P .add t D C (some (.v (.int k a))) (some (.v (.int k b)))=some (.v (.int k (k.wrap (a+b))),[]):=by cases k<;>rfl
@[simp] theorem agE:bY P .sub t D C (some (.v (.int k a))) (some (.v (.int k b)))=some (.v (.int k (k.wrap (a - b))),[]):=by cases k<;>rfl
@[simp] theorem agF:bY P .mul t D C (some (.v (.int k a))) (some (.v (.int k b)))=some (.v (.int k (k.wrap (a * b))),[]):=by cases k<;>rfl
theorem VW(d:b≠0):bY P .rem t D C (some (.v (.int k a))) (some (.v (.int k b)))=some (.v (.int k (a.tmod b)),[]):=by
 have h:Op.intDiv .rem k a b=pure (.int k (a.tmod b)):=by unfold Op.intDiv;rw[if_neg d]
 have c:Ef P .rem t D C (.int k a) (.int k b)=some (.int k (a.tmod b)):=by
  have:Ef P .rem t D C (.int k a) (.int k b)=bh P (Op.intDiv .rem k a b):=by cases k<;>rfl
  rw[this,h];rfl
 simp only[bY,Ml,oW,gV,c,yM,Hp,mr,if_false,fN,kg,scalar,if_true,kf,Option.map_some]
theorem gC{c:IntKind}(e:0<=b):bY P .shr t D C (some (.v (.int k a))) (some (.v (.int c b)))=some (.v (.int k (a.fdiv (2 ^ min b.toNat k.bits))),[]):=by
 have h:Op.shift .shr k a c b=pure (.int k (a.fdiv (2 ^ min b.toNat k.bits))):=by unfold Op.shift;rw[if_neg (by omega)]
 have d:Ef P .shr t D C (.int k a) (.int c b)=some (.int k (a.fdiv (2 ^ min b.toNat k.bits))):=by
  have:Ef P .shr t D C (.int k a) (.int c b)=bh P (Op.shift .shr k a c b):=rfl
  rw[this,h];rfl
 simp only[bY,Ml,oW,gV,d,yM,Hp,mr,if_false,fN,kg,scalar,if_true,kf,Option.map_some]
@[simp] theorem aiX(b:Bool):qUn P .not (some (aB b))=some (aB (!b),[]):=id rfl
def u8(n:Int):UInt8:=UInt8.ofBitVec (BitVec.ofInt 8 n)
def u32(n:Int):UInt32:=UInt32.ofBitVec (BitVec.ofInt 32 n)
@[simp] theorem ae9(n:Int):IntKind.u8.wrap n=((u8 n).toNat:Int):=by
 unfold u8;rw[IntKind.wrap_u8,UInt8.toNat_ofBitVec,HE];omega
@[simp] theorem XJ(n:Int):IntKind.u32.wrap n=((u32 n).toNat:Int):=by
 unfold u32;rw[IntKind.wrap_u32,UInt32.toNat_ofBitVec,HE];omega
theorem Kt(n:Int):(u8 n).toNat=(n % 256).toNat:=by
 unfold u8;rw[UInt8.toNat_ofBitVec,HE];rfl
theorem Ig(n:Int):(u32 n).toNat=(n % 4294967296).toNat:=by
 unfold u32;rw[UInt32.toNat_ofBitVec,HE];rfl
@[simp] theorem XT(x:UInt32):u32 (x.toNat:Int)=x:=by apply HD.1;rw[Ig];have:=x.toNat_lt;omega
@[simp] theorem aff(x:UInt32):u8 (x.toNat:Int)=x.toUInt8:=by apply Du.1;rw[Kt,UInt32.toNat_toUInt8];omega
@[simp] theorem ahi(x:UInt8):IntKind.i64.wrap (x.toNat:Int)=x.toNat:=by have:=x.toNat_lt;exact IntWalk.i64_in _ (by omega)
@[simp] theorem acC(x:UInt32):IntKind.i64.wrap (x.toNat:Int)=x.toNat:=by have:=x.toNat_lt;exact IntWalk.i64_in _ (by omega)
theorem ac9(v:BitVec 32):IntKind.u32.wrap (v.toNat:Int)=((UInt32.ofBitVec v).toNat:Int):=by
 rw[XJ];unfold u32;congr 3;apply BitVec.eq_of_toNat_eq;rw[HE];have:=v.isLt;omega
theorem ac7(d:BinOp)(f:BitVec 32->BitVec 32->BitVec 32)(g:UInt32->UInt32->UInt32)(e : ∀x y,g x y=UInt32.ofBitVec (f x.toBitVec y.toBitVec))(c : ∀x y:Int,bY P d t D C (some (.v (.int .u32 x))) (some (.v (.int .u32 y)))=some (.v (.int .u32 (IntKind.u32.wrap ((f (BitVec.ofInt 32 x) (BitVec.ofInt 32 y)).toNat:Int))),[])) :
 bY P d t D C (some (.v (.int .u32 a))) (some (.v (.int .u32 b)))=some (ae (g (u32 a) (u32 b)),[]):=by
 rw[c,ac9,e];rfl
section
variable(x y:UInt8)
@[simp] theorem aed:bY P .lss t D C (some (a8 x)) (some (a8 y))=some (aB (decide (x<y)),[]):=by
 unfold a8;rw[N2];congr 4;rw[PS];all_goals exact propext (by omega)
@[simp] theorem aee:bY P .leq t D C (some (a8 x)) (some (a8 y))=some (aB (decide (x<=y)),[]):=by
 unfold a8;rw[VY];congr 4;rw[UInt8.le_iff_toNat_le];all_goals exact propext (by omega)
@[simp] theorem aef:bY P .gtr t D C (some (a8 x)) (some (a8 y))=some (aB (decide (y<x)),[]):=by
 unfold a8;rw[VZ];congr 4;rw[PS];all_goals exact propext (by omega)
@[simp] theorem aeg:bY P .geq t D C (some (a8 x)) (some (a8 y))=some (aB (decide (y<=x)),[]):=by
 unfold a8;rw[V0];congr 4;rw[UInt8.le_iff_toNat_le];all_goals exact propext (by omega)
@[simp] theorem aeh:bY P .eql t D C (some (a8 x)) (some (a8 y))=some (aB (decide (x=y)),[]):=by
 unfold a8;rw[N3];congr 4;rw[<-Du];all_goals exact propext (by omega)
@[simp] theorem aec:bY P .neq t D C (some (a8 x)) (some (a8 y))=some (aB (!decide (x=y)),[]):=by
 unfold a8;rw[VX];congr 5;rw[<-Du];all_goals exact propext (by omega)
end
section
variable(x y:UInt32)
@[simp] theorem XD:bY P .andNot t D C (some (ae x)) (some (ae y))=some (ae (x &&& ~~~y),[]):=by
 unfold ae;rw[ac7 P t D C _ _ .andNot (λa b=>a &&& ~~~b) (λa b=>a &&& ~~~b) (λ_ _=>rfl) (λ_ _=>rfl)];simp only[XT];rfl
@[simp] theorem abN:bY P .lss t D C (some (ae x)) (some (ae y))=some (aB (decide (x<y)),[]):=by
 unfold ae;rw[N2];congr 4;rw[UInt32.lt_iff_toNat_lt];all_goals exact propext (by omega)
@[simp] theorem abO:bY P .eql t D C (some (ae x)) (some (ae y))=some (aB (decide (x=y)),[]):=by
 unfold ae;rw[N3];congr 4;rw[<-HD];all_goals exact propext (by omega)
end
@[simp] theorem abL{f:IntKind}(x:UInt32)(d:0<=b/\b<32):bY P .shr t D C (some (ae x)) (some (.v (.int f b)))=some (ae (x >>> UInt32.ofNat b.toNat),[]):=by
 unfold ae
 rw[gC P t D C .u32 _ b d.1]
 congr 5
 have c:min b.toNat IntKind.u32.bits=b.toNat:=by show min b.toNat 32=_;omega
 rw[c,UInt32.toNat_shiftRight,UInt32.toNat_ofNat',Nat.shiftRight_eq_div_pow]
 have e:b.toNat % 2 ^ 32 % 32=b.toNat:=by omega
 rw[e,Int.fdiv_eq_ediv_of_nonneg _ (by exact Int.pow_nonneg (by decide))]
 push_cast
 rfl
theorem m4{P:Program}{t:TypeId}{d:TypeDesc}(h:P.underlying t=some d):bh P (Go.underlying t)=some d:=by
 unfold Go.underlying
 rw[bG]
 show(some P).bind _=_
 rw[fN,h]
 rfl
def intKind(P:Program)(t:TypeId):Option IntKind:=match P.underlying t with | some (.int k)=>some k | _=>none
theorem Ex{P:Program}{t:TypeId}{k:IntKind}(h:intKind P t=some k):P.underlying t=some (.int k):=by
 unfold intKind at h
 split at h
 ·cases h;assumption
 ·cases h
theorem zk{g:cX}{r:Ref}{c e:TypeId}{k':IntKind}(f:(P.underlying c).isNone=false)(i:intKind P e=some k)(n:Int) :
 gB P g r c e (some (.v (.int k' n)))=some (.v (.int k (k.wrap n)),[]):=by
 have i:=Ex i
 obtain⟨d,f⟩ : ∃d,P.underlying c=some d:=by cases h:P.underlying c with | none=>rw[h]at f;cases f | some d=>exact⟨d,rfl⟩
 have:bh P (Go.convert c e (.int k' n))=some (.int k (k.wrap n)):=by
  unfold Go.convert
  rw[bG,m4 f,fN,bG,m4 i,fN]
  cases d<;>rfl
 simp only[gB,this,fN,kg,scalar,if_true,kf,Option.map_some]
@[simp] theorem aeb{g:cX}{r:Ref}{d c:TypeId}(e:(P.underlying d).isNone=false)(f:intKind P c=some .i64)(x:UInt8) :
 gB P g r d c (some (a8 x))=some (aI x.toNat,[]):=by
 unfold a8;rw[zk P .i64 e f,ahi]
@[simp] theorem abJ{g:cX}{r:Ref}{d c:TypeId}(e:(P.underlying d).isNone=false)(f:intKind P c=some .i64)(x:UInt32) :
 gB P g r d c (some (ae x))=some (aI x.toNat,[]):=by
 unfold ae;rw[zk P .i64 e f,acC]
@[simp] theorem aea{g:cX}{r:Ref}{d c:TypeId}{k':IntKind}(e:(P.underlying d).isNone=false)(f:intKind P c=some .u8)(n:Int) :
 gB P g r d c (some (.v (.int k' n)))=some (a8 (u8 n),[]):=by
 unfold a8;rw[zk P .u8 e f,ae9]
@[simp] theorem ad9{g:cX}{r:Ref}{d c:TypeId}{k':IntKind}(e:(P.underlying d).isNone=false)(f:intKind P c=some .i64)(n:Int) :
 gB P g r d c (some (.v (.int k' n)))=some (aI (IntKind.i64.wrap n),[]):=zk P .i64 e f n
end
def kr(l:List UInt8):List AV:=l.map a8
@[simp] theorem ajJ(l:List UInt8):(kr l).length=l.length:=by simp[kr]
@[simp] theorem ajI:kr []=[]:=id rfl
theorem VQ(P:Program)(d:Bool)(g:cX)(r:Ref)(t:TypeId)(e:List TypeId)(x:AV)(c : ∀r',x ≠ .mp r'):cN P d g r .len ⟨t :: e⟩ [x]=J2 P (some t) x:=by
 unfold cN
 cases x<;>first | rfl | (rename_i q;exact(c q rfl).elim)
@[simp] theorem aiY(P:Program)(d:Bool)(g:cX)(r:Ref)(t:TypeId)(c:List TypeId)(x:AV)(f:(xz x).isSome=true):cN P d g r .len ⟨t :: c⟩ [x]=J2 P (some t) x:=by
 refine VQ P d g r t c x λr' e=>?_
 subst e;cases f
@[simp] theorem aew:xz ba=some 0:=id rfl
@[simp] theorem aex(n:Nat)(es:List AV)(c:Option Nat):xz (.cD n es c)=some es.length:=id rfl
@[simp] theorem aev(r:Ref)(o n:Nat)(c:Option Nat):xz (.cG r o n c)=some n:=id rfl
@[simp] theorem abG{P:Program}{t:TypeId}(d:kP P t=none)(e:isStr P t=false)(c:(dY P t).isSome=true)(x:AV):J2 P (some t) x=(xz x).map λn=>(aI n,[]):=by
 simp only[J2,d,e,c];rfl
theorem OZ{P:Program}{t:TypeId}{z:Nat}(h:(dY P t).bind (aH P)=some z) : ∃e,dY P t=some e/\aH P e=some z:=by
 simpa [iw] using h
@[simp] theorem IN{P:Program}{t:TypeId}{z:Nat}(h:(dY P t).bind (aH P)=some z)(g:cX)(es:List AV)(c:Option Nat)(d:IntKind)(k:Int) :
 ep P g t (some (.cD z es c)) (some (.v (.int d k)))=if 0<=k/\k<es.length then some (.iptr z es k.toNat 0,[]) else none:=by
 obtain⟨e,he,f⟩:=OZ h
 simp only[ep,fN,intOf,he,f,and_true]
@[simp] theorem abF{P:Program}{t:TypeId}(d:(dq P t).isSome=true)(c:(aH P t).isSome=true)(g:cX)(z:Nat)(es:List AV)(i j:Nat) :
 uL P g t (some (.iptr z es i j))=kf (cm es i j ((aH P t).getD 0) ((dq P t).getD false)):=by
 obtain⟨a,d⟩:=gU.1 d
 obtain⟨n,c⟩:=gU.1 c
 simp only[uL,d,c,cY]
def Wy(x:Option bw)(i j n:Nat)(c:Bool):jI:=match x with
 | some b=>kf (cm b.es i j n c)
 | none=>none
@[simp] theorem ace(b:bw)(i j n:Nat)(c:Bool):Wy (some b) i j n c=kf (cm b.es i j n c):=id rfl
@[simp] theorem ad8{P:Program}{t:TypeId}(d:(dq P t).isSome=true)(c:(aH P t).isSome=true)(g:cX)(r:Ref)(i j:Nat) :
 uL P g t (some (.ptr r i j))=Wy (g r) i j ((aH P t).getD 0) ((dq P t).getD false):=by
 obtain⟨a,d⟩:=gU.1 d
 obtain⟨n,c⟩:=gU.1 c
 simp only[uL,d,c,cY]
 rfl
@[simp] theorem Uf(e:AV)(es:List AV)(j n:Nat):cm (e :: es) 0 j n true=if j+n<=e.cells.length/\0<n then some (.agg ((e.cells.drop j).take n)) else none:=id rfl
@[simp] theorem Ue(e:AV)(es:List AV)(j n:Nat):cm (e :: es) 0 j n false=e.cells[j]?:=id rfl
def Sl(z:Nat)(es:List AV)(x:AV):Prop:=(x=ba/\es=[]) \/∃c,x = .cD z es c/\es.length<=c.getD es.length
theorem Sl.mk(z:Nat)(es:List AV):Sl z es (.cD z es none) := .inr ⟨none,rfl,de _⟩
theorem Sl.len{z:Nat}{es:List AV}{x:AV}(h:Sl z es x):xz x=some es.length:=by
 rcases h with ⟨rfl,rfl⟩ | ⟨c,rfl,_⟩<;>rfl
theorem Sl.cD{z:Nat}{es:List AV}{x:AV}(h:Sl z es x){i:Nat}(d:i<es.length) : ∃c,x = .cD z es c/\es.length<=c.getD es.length:=by
 rcases h with ⟨rfl,rfl⟩ | h
 ·simp at d
 ·exact h
theorem Sl.view{z:Nat}{es:List AV}{x:AV}(h:Sl z es x)(g:cX)(n:Nat):view g (n+1) x=some x:=by
 rcases h with ⟨rfl,rfl⟩ | ⟨c,rfl,_⟩<;>rfl
theorem Sl.refs{z:Nat}{es:List AV}{x:AV}(h:Sl z es x)(g:cX)(n:Nat):ao g n x=[]:=by
 rcases h with ⟨rfl,rfl⟩ | ⟨c,rfl,_⟩<;>cases n<;>rfl
theorem Sl.cells{z:Nat}{es:List AV}{x:AV}(h:Sl z es x):x.cells=[x]/\x.one=true:=by
 rcases h with ⟨rfl,_⟩ | ⟨c,rfl,_⟩<;>exact⟨rfl,rfl⟩
@[simp] theorem aa7(g:cX)(n:Nat)(x:Value):view g (n+1) (.v x)=some (.v x):=id rfl
@[simp] theorem ajT(g:cX)(n:Nat)(x:UInt8):view g (n+1) (a8 x)=some (a8 x):=id rfl
@[simp] theorem aib(g:cX)(n:Nat)(x:UInt32):view g (n+1) (ae x)=some (ae x):=id rfl
@[simp] theorem afb(g:cX)(n z:Nat)(es:List AV)(c:Option Nat):view g (n+1) (.cD z es c)=some (.cD z es c):=id rfl
@[simp] theorem afd(g:cX)(n:Nat)(cs:List AV):view g (n+1) (.agg cs)=(cs.mapM (view g n)).map .agg:=id rfl
@[simp] theorem afa(g:cX)(n:Nat)(cs:List AV):view g (n+1) (.tup cs)=(cs.mapM (view g n)).map .tup:=id rfl
@[simp] theorem adn(g:cX)(n z:Nat)(es:List AV)(i j:Nat):view g (n+1) (.iptr z es i j)=some (.iptr z es i j):=id rfl
@[simp] theorem afc(g:cX)(n:Nat)(t:TypeId)(x:AV):view g (n+1) (.ifc t x)=(view g n x).map (.ifc t):=id rfl
theorem HO{g:cX}{r:Ref}{b:bw}(d:g r=some b)(n o l:Nat)(c:Option Nat):view g (n+1) (.cG r o l c)=if b.arr=true/\o+l<=b.es.length then some (.cD b.esz ((b.es.drop o).take l) c) else none:=by
 simp only[view,d]
theorem aG:depth=8:=Nat.le_antisymm (de 8) (de 8)
end
section
@[simp] theorem aa.uR(r q:Ref)(b:Option bw)(H:aa):aa.get ((r,b) :: H) q=if r=q then b else aa.get H q:=id rfl
attribute [simp] aa.get_put
@[simp] theorem aiZ(P:Program)(r:Ref)(e:TypeId)(x:AV)(c:0<(aH P e).getD 0):L1 P r e (some x)=if some x.cells.length=aH P e/\x.cells.all AV.one=true then some (.ptr r 0 0,[⟨(aH P e).getD 0,[x],false,false⟩]) else none:=by
 unfold L1
 cases h:aH P e with
 | none=>simp
 | some n=>rw[h]at c;simp only[cY]at c;simp[c]
def Fr(H:aa):Prop :=∀d t g k,H.gen d t<=g->H.get ⟨d,t,g,k⟩=none
theorem Fr.nil:Fr []:=λ_ _ _ _ _=>rfl
theorem Fr.keyed{H:aa}(h:Fr H)(j:List bw)(d t:Nat):Fr (Ab.keyed ⟨d,t,H.gen d t,0⟩ 0 j H):=by
 intro l t' g k c
 rw[aa.mK]at c
 rw[aa.KZ]
 by_cases i:j=[]
 ·subst i
  rw[if_neg (by simp)]at c
  simp[h _ _ _ _ c]
 ·by_cases f:l=d/\t'=t
  ·obtain⟨rfl,rfl⟩:=f
   rw[if_pos ⟨rfl,rfl,i⟩]at c
   dsimp only at c ⊢
   rw[if_neg (by intro e;have:=e.2.2.1;omega)]
   exact h _ _ _ _ (by omega)
  ·rw[if_neg (by intro e;exact f ⟨e.1,e.2.1⟩)]at c
   dsimp only at c ⊢
   rw[if_neg (by intro e;exact f ⟨e.1,e.2.1⟩)]
   exact h _ _ _ _ c
theorem Fr.put{H:aa}(h:Fr H){r:Ref}(b:Option bw)(c:(H.get r).isSome=true):Fr (H.put r b):=by
 intro d t g k f
 rw[aa.np H r b c]at f
 rw[aa.get_put]
 split
 ·rename_i e
  subst e
  rw[h _ _ _ _ f]at c
  cases c
 ·exact h _ _ _ _ f
theorem Fr.cons{H:aa}(h:Fr H)(d t:Nat)(b:Option bw):Fr ((⟨d,t,H.gen d t,0⟩,b) :: H):=by
 intro l t' g k c
 simp only[aa.gen]at c
 rw[aa.uR]
 split at c
 ·rename_i e
  obtain⟨rfl,rfl⟩:=e
  rw[if_neg (by intro e;injection e;omega)]
  exact h _ _ _ _ (by omega)
 ·rename_i e
  rw[if_neg (by intro i;injection i with f j;exact e ⟨f,j⟩)]
  exact h _ _ _ _ c
theorem qM{H:aa}(c:Fr H){q:Ref}(h:(H.get q).isSome=true)(d t k:Nat):(⟨d,t,H.gen d t,k⟩:Ref)≠q:=by
 intro e;subst e;rw[c _ _ _ _ (de _)]at h;cases h
def elT(P:Program)(t z c:Nat):Bool:=match dY P t with
 | some e=>aH P e == some z&&pU P e == some c&&(match eI P e with | some d=>d.cells.length == z&&d.cells.all AV.one | none=>false)&&z != 0&&c != 0
 | none=>false
def JL(P:Program)(t:TypeId):Bool:=(P.underlying t).isSome && !isInt P t
theorem lO{P:Program}{t z c:Nat}(h:elT P t z c=true) : ∃e d,dY P t=some e/\aH P e=some z/\pU P e=some c/\eI P e=some d/\d.cells.length=z/\d.cells.all AV.one=true/\z≠0/\c≠0:=by
 unfold elT at h
 split at h
 ·rename_i e m
  simp only[aY,beq_iff_eq,bne_iff_ne]at h
  obtain⟨⟨⟨⟨j,g⟩,f⟩,l⟩,i⟩:=h
  split at f
  ·rename_i d n
   simp only[aY,beq_iff_eq]at f
   exact⟨e,d,m,j,g,n,f.1,f.2,l,i⟩
  ·cases f
 ·cases h
def ZJ(g:cX)(z:Nat)(new:List AV)(x:AV):Prop:=(x=ba/\new=[])\/(isNum x=false/\x≠ba/\cT g x=some (z,new))
theorem ZJ.ql{P:Program}{t z f:Nat}(h:elT P t z f=true){e:TypeId}(j:dY P t=some e){g:cX}{new:List AV}{x:AV}(d:ZJ g z new x):ql P g e x=some (z,new):=by
 obtain⟨w,p,i,l,v,B,q,F,n,A⟩:=lO h
 rw[j]at i;cases i
 rcases d with ⟨rfl,rfl⟩ | ⟨m,c,d⟩
 ·simp only[Ab.ql,l,Option.map_some]
 ·unfold Ab.ql
  split
  ·exact(c rfl).elim
  ·simp[isNum]at m
  ·exact d
theorem ZJ.num{g:cX}{z:Nat}{new:List AV}{x:AV}(d:ZJ g z new x):isNum x=false:=by
 rcases d with ⟨rfl,_⟩ | ⟨c,_⟩
 ·rfl
 ·exact c
theorem Sl.K5{z:Nat}{es:List AV}{x:AV}(h:Sl z es x)(g:cX):ZJ g z es x:=by
 rcases h with ⟨rfl,rfl⟩ | ⟨c,rfl,_⟩
 ·exact .inl ⟨rfl,rfl⟩
 ·exact .inr ⟨rfl,(by intro e;cases e),rfl⟩
def Own(z:Nat)(es:List AV)(H:aa)(x:AV):Prop:=(x=ba/\es=[]) \/∃r,x = .cG r 0 es.length none/\H.get r=some ⟨z,es,true,false⟩
theorem RU(z:Nat)(H:aa):Own z [] H ba := .inl ⟨rfl,rfl⟩
theorem Own.len{z:Nat}{es:List AV}{H:aa}{x:AV}(h:Own z es H x):xz x=some es.length:=by
 rcases h with ⟨rfl,rfl⟩ | ⟨r,rfl,_⟩<;>rfl
theorem Own.view{z:Nat}{es:List AV}{H:aa}{x:AV}(h:Own z es H x)(n:Nat) : ∃y,view H.get (n+1) x=some y/\Sl z es y:=by
 rcases h with ⟨rfl,rfl⟩ | ⟨r,rfl,c⟩
 ·exact⟨ba,rfl,.inl ⟨rfl,rfl⟩⟩
 ·refine⟨.cD z es none,?_,Sl.mk z es⟩
  rw[HO c]
  simp
theorem Own.K5{z:Nat}{es:List AV}{H:aa}{x:AV}(h:Own z es H x):ZJ H.get z es x:=by
 rcases h with ⟨rfl,rfl⟩ | ⟨r,rfl,c⟩
 ·exact .inl ⟨rfl,rfl⟩
 ·refine .inr ⟨rfl,(by intro e;cases e),?_⟩
  simp[cT,c]
def AV.at?:AV->Option Ref
 | .cG r _ _ _=>some r
 | .ptr r _ _=>some r
 | _=>none
theorem Own.cG{z:Nat}{es:List AV}{H:aa}{x:AV}(h:Own z es H x)(c:es≠[]) : ∃r,x = .cG r 0 es.length none/\H.get r=some ⟨z,es,true,false⟩:=by
 rcases h with ⟨_,rfl⟩ | h
 ·exact(c rfl).elim
 ·exact h
end
end Go.Ab
