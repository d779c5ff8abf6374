/-
  What is to be shown for a run of the abstract machine, as one proposition that is computed from the code. No statement of a seat is proved here.
-/
import Derived.IntWalk
import Derived.Test.YtehkjjcdkbcebaaGreatAbsEnv
set_option linter.unusedVariables false
set_option linter.unusedSimpArgs false
set_option linter.unusedSectionVars false
set_option linter.unnecessarySimpa false
namespace Go.Ab
section
abbrev df:=Nat->AV
def bT(s:df):Operand->Option AV
 | .tmp t=>some (s t)
 | .const v=>ofValue v
 | .func f=>some (.fn (.func f) [] [])
 | .global _=>none
def wQ(c:Operand->Option AV):List Operand->Option (List AV)
 | []=>some []
 | o :: os=>match c o,wQ c os with
  | some x,some xs=>some (x :: xs)
  | _,_=>none
def xt(c:Operand->Option AV):List (Nat × Operand)->Option (List (Nat × AV))
 | []=>some []
 | (i,o) :: os=>match c o,xt c os with
  | some x,some xs=>some ((i,x) :: xs)
  | _,_=>none
def GG(c:Operand->Option AV):Option Operand->Option (Option Int)
 | none=>some none
 | some o=>match (c o).bind qK with
  | some n=>some (some n)
  | none=>none
def Ts(s:df)(d:Nat)(v:AV):df:=λi=>cond (Nat.beq i d) v (s i)
def dp(tm:List AV)(s:df):Prop :=∀i,bZ tm i=s i
theorem qN{tm:List AV}{s:df}(h:dp tm s):aq tm=bT s:=by
 funext o;cases o<;>simp[aq,bT,h _]
theorem yv(c:Operand->Option AV)(l:List Operand):l.mapM c=wQ c l:=by
 induction l with
 | nil=>rfl
 | cons o l d=>
  simp only[kI,d,wQ,od,o9]
  cases c o<;>cases wQ c l<;>rfl
theorem zw{tm:List AV}{s:df}(h:dp tm s)(l:List (Nat × Operand)):fj tm l=xt (bT s) l:=by
 induction l with
 | nil=>rfl
 | cons o l c=>
  obtain⟨i,o⟩:=o
  unfold fj at c ⊢
  rw[kI,c]
  simp only[xt,od,o9,qN h]
  cases bT s o<;>cases xt (bT s) l<;>rfl
theorem Fa{tm:List AV}{s:df}(h:dp tm s)(o:Option Operand):jR tm o=GG (bT s) o:=by
 cases o with
 | none=>rfl
 | some o=>simp only[jR,GG,qN h];rfl
theorem dp.set{tm:List AV}{s:df}(h:dp tm s)(d:Nat)(v:AV):dp (xj tm d v) (Ts s d v):=by
 intro i
 rw[oB]
 unfold Ts
 split
 ·rename_i e;subst e;simp
 ·rename_i e;rw[show Nat.beq i d=false from by cases c:Nat.beq i d with | false=>rfl | true=>exact(e (iK c)).elim];exact h i
def uD(c a b:Option AV):gl:=
 match c.bind zN with
 | some true=>gJ a
 | some false=>gJ b
 | none=>none
def jB(H:ab)(r:Ref)(q:gl):cb:=
 match q with
 | some (v,bs)=>some (v,keyed r 0 bs H)
 | none=>none
def Aw(c:Bool)(a b:cb):cb:=
 match a with
 | some x=>some x
 | none=>cond c b none
def aT(E:Env)(c:Bool)(pc:FuncId->List AV->Option AV)(tc:pY->List AV->ab->cb)(H:ab)(r:Ref)(f:Option AV)(args:List AV):cb:=
 Aw c (jB H r (iZ E pc H.get r f args)) (kK E pc tc H r f args)
def yI(E:Env)(c:Bool)(pc:FuncId->List AV->Option AV)(tc:pY->List AV->ab->cb)(H:ab)(r:Ref)(f:Option AV)(args:List AV):cb:=
 Aw c (jB H r ((iZ E pc H.get r f args).map λp=>(p.1,I9 true p.2))) (oe true E.sm H (kK E pc tc H r f args))
def cS(P:Program)(c:Bool)(H:ab)(r:Ref)(t t':Option TypeId)(s x:AV):cb:=
 Aw c (jB H r (dy P H.get r t t' s x)) (gT P H t t' s x)
def jX(P:Program)(u d:Bool)(H:ab)(r:Ref)(t:TypeId)(n:Nat)(c:Option (List (Nat × AV))):cb:=
 Aw d (jB H r (fQ P u H.get r t n c)) (iM P H r t n c)
def oH(E:Env)(pc:FuncId->List AV->Option AV)(tc:pY->List AV->ab->cb)(dep:Nat)(u d:Bool)(s:df)(H:ab)(r:Ref)(o:Oper):gl ⊕ cb:=
 match o.op with
 | .move x | .assign x => .inl (gJ (bT s x))
 | .pick c a b => .inl (uD (bT s c) (bT s a) (bT s b))
 | .alloc e => .inr (jB H r (oG E.P r e))
 | .box e x => .inr (jB H r (E5 E.P r e (bT s x)))
 | .build t ps => .inl (kW E.P t (xt (bT s) ps.toList))
 | .buildSlice t n ps => .inr (jX E.P (u && !E.strict o) d H r t n (xt (bT s) ps.toList))
 | .load t a => .inl (lz E.P H.get t (bT s a))
 | .store t a x => .inr (cond d (iu E.P H t (bT s a) (bT s x)) none)
 | .nilCheck x => .inl (Gu (bT s x))
 | .binOp op t C D _ => .inl (bK E.P op t C D (bT s C) (bT s D))
 | .unOp op _ x => .inl (Ru E.P op (bT s x))
 | .convert src dst x=>match cI E.P dst with
  | true => .inr (jB H r (bC E.P H.get r src dst (bT s x)))
  | false => .inl (bC E.P H.get r src dst (bT s x))
 | .makeInterface t x => .inl (tK E.P t (bT s x))
 | .makeFunc f first captured => .inl (uB f (wQ (bT s) first.toList) (wQ (bT s) captured.toList))
 | .makeSlice t l c => .inr (jB H r (uy E.P r t (bT s l) (bT s c)))
 | .slice t x lo hi h=>match E.wide o && !u with
  | true => .inl (rz E.P H.get t (bT s x) (GG (bT s) lo) (GG (bT s) hi) (GG (bT s) h))
  | false => .inl (ca E.P H.get t (bT s x) (GG (bT s) lo) (GG (bT s) hi) (GG (bT s) h))
 | .fieldAddr t x f => .inl (jA E.P t (bT s x) f)
 | .field t x f => .inl (pE E.P t (bT s x) f)
 | .indexAddr t x ix => .inl (bE E.P H.get t (bT s x) (bT s ix))
 | .index t x ix => .inl (rV E.P t (bT s x) (bT s ix))
 | .typeAssert x _ g ok => .inl (vS E.P (bT s x) g ok)
 | .extract x i => .inl (pj (bT s x) i)
 | .call c=>
  match wQ (bT s) c.args.toList with
  | none => .inl none
  | some args=>
   match c.callee with
   | .value f=>(match Ad E.nI u f with
    | some t => .inl (Gt E.P H.get t args)
    | none=>(match E.fN o with
     | true => .inr (yI E d pc tc H r (bT s f) args)
     | false => .inr (aT E d pc tc H r (bT s f) args)))
   | .invoke _ _ => .inl none
   | .builtin b=>match b,args with
    | .append,[a,x] => .inr (cS E.P d H r c.argTypes[0]? c.argTypes[1]? a x)
    | .copy,[dst,x]=>(match E.wide o with
     | true => .inr (cond d (Bs E.P H c.argTypes[0]? dst x) none)
     | false => .inr (cond d (FU E.P H c.argTypes[0]? dst x) none))
    | b,args => .inl (cW E.P (u&&(E.strict o || !(match c.args.toList with | [.tmp _]=>true | _=>false))) H.get r b c.argTypes args)
 | .makeMap _ none => .inr (jB H r (some (.mp r,[ml []])))
 | .lookup t x k ok => .inl (lN E.P H.get t (bT s x) (bT s k) ok)
 | .mapUpdate t m k x => .inr (cond d (gm E.P H t (bT s m) (bT s k) (bT s x)) none)
 | .insert t m k x => .inr (cond d (gm E.P H t (bT s m) (bT s k) (bT s x)) none)
 | .mapEntry t m k => .inr (cond d (mW E.P H t (bT s m) (bT s k)) none)
 | .entryStore _ m n x => .inr (cond d (jj H (bT s m) (bT s n) (bT s x)) none)
 | .makeChan t n => .inr (cond d (vG E.P H r t (bT s n)) none)
 | .send c x => .inr (cond d (Bp H (bT s c) (bT s x)) none)
 | .recv t c ok => .inr (cond d (DA E.P H t (bT s c) ok) none)
 | _ => .inl none
def lF(E:Env)(pc:FuncId->List AV->Option AV)(tc:pY->List AV->ab->cb)(dep:Nat)(u:Bool)(tm:List AV)(H:ab)(o:Oper):cb:=
 match bR E pc u H.get tm ⟨dep,o.dst.getD 0,H.gen dep (o.dst.getD 0),0⟩ o with
 | some (x,bs)=>some (x,keyed ⟨dep,o.dst.getD 0,H.gen dep (o.dst.getD 0),0⟩ 0 bs H)
 | none=>if u && !gj E o then none else evalW E pc tc H tm ⟨dep,o.dst.getD 0,H.gen dep (o.dst.getD 0),0⟩ o
theorem Om(E:Env)(pc:FuncId->List AV->Option AV)(tc:pY->List AV->ab->cb)(nt dep:Nat)(u:Bool)(ops:Array Oper)(o:Oper)(st:St) :
 evalOp E pc tc nt dep u ops o st=(match wanted ops st.tm o with
  | none=>none
  | some false=>(ct nt st.tm o.dst AV.undef).map λtm => { st with tm}
  | some true=>match lF E pc tc dep u st.tm st.hp o with
   | some (x,H)=>(ct nt st.tm o.dst x).map λtm=>⟨tm,H⟩
   | none=>none):=by
 unfold evalOp lF
 cases hw:wanted ops st.tm o with
 | none=>rfl
 | some b=>
 cases b with
 | false=>rfl
 | true=>
  cases bR E pc u st.hp.get st.tm ⟨dep,o.dst.getD 0,st.hp.gen dep (o.dst.getD 0),0⟩ o with
  | some p=>rfl
  | none=>
   dsimp only
   split
   ·rfl
   ·rfl
theorem On{E:Env}{pc:FuncId->List AV->Option AV}{tc:pY->List AV->ab->cb}{dep:Nat}{u:Bool}{tm:List AV}{H:ab}{o:Oper}{v:AV}
 (h:bR E pc u H.get tm ⟨dep,o.dst.getD 0,H.gen dep (o.dst.getD 0),0⟩ o=some (v,[])):lF E pc tc dep u tm H o=some (v,H):=by
 unfold lF;rw[h];rfl
theorem Hb{E:Env}{pc:FuncId->List AV->Option AV}{tc:pY->List AV->ab->cb}{dep:Nat}{u:Bool}{tm:List AV}{H d:ab}{o:Oper}{v:AV}{q:gl}
 (h:bR E pc u H.get tm ⟨dep,o.dst.getD 0,H.gen dep (o.dst.getD 0),0⟩ o=q) (c:jB H ⟨dep,o.dst.getD 0,H.gen dep (o.dst.getD 0),0⟩ q=some (v,d)):lF E pc tc dep u tm H o=some (v,d):=by
 unfold lF;rw[h]
 unfold jB at c
 split at c
 ·exact c
 ·cases c
theorem ju{E:Env}{pc:FuncId->List AV->Option AV}{tc:pY->List AV->ab->cb}{dep:Nat}{u:Bool}{tm:List AV}{H d:ab}{o:Oper}{v:AV}{q:gl}{w:cb}
 (h:bR E pc u H.get tm ⟨dep,o.dst.getD 0,H.gen dep (o.dst.getD 0),0⟩ o=q) (f:evalW E pc tc H tm ⟨dep,o.dst.getD 0,H.gen dep (o.dst.getD 0),0⟩ o=w)
 (c:Aw (!(u && !gj E o)) (jB H ⟨dep,o.dst.getD 0,H.gen dep (o.dst.getD 0),0⟩ q) w=some (v,d)):lF E pc tc dep u tm H o=some (v,d):=by
 unfold lF;rw[h]
 cases q with
 | some p=>simpa [Aw,jB] using c
 | none=>
  rw[f]
  cases e:(u && !gj E o) with
  | true=>rw[e]at c;simp[Aw,jB]at c
  | false=>rw[e]at c;simpa [Aw,jB] using c
section
variable{E:Env}{pc:FuncId->List AV->Option AV}{tc:pY->List AV->ab->cb}{dep:Nat}{u:Bool}{tm:List AV}{s:df}{H:ab}{o:Oper}
theorem NM(d:dp tm s){q:gl}{v:AV}
 (h:oH E pc tc dep u (!(u && !gj E o)) s H ⟨dep,o.dst.getD 0,H.gen dep (o.dst.getD 0),0⟩ o = .inl q) (l:q=some (v,[])):lF E pc tc dep u tm H o=some (v,H):=by
 subst l
 refine On ?_
 have e:=qN d
 unfold oH at h
 unfold bR
 split at h<;>rename_i m<;>simp only[m]
 all_goals try (simp only[vd,reduceCtorEq]at h)
 all_goals try (rw[<-h];simp only[e,uD,Ch,zw d,Fa d,yv];done)
 ·rw[<-h];unfold Ch uD;rw[e];rfl
 ·split at h
  ·cases h
  ·simp only[vd]at h;rw[<-h,e]
 ·cases g:(E.wide o && !u) with
  | true=>rw[g]at h;simp only[vd]at h;rw[<-h];simp only[cond_true,e,Fa d]
  | false=>rw[g]at h;simp only[vd]at h;rw[<-h];simp only[cond_false,e,Fa d]
 ·rw[yv,e]
  split at h
  ·cases h
  ·rename_i args c
   rw[c]
   dsimp only
   split at h
   ·rename_i f j
    rw[j]
    dsimp only
    split at h
    ·rename_i t i
     simp only[vd]at h
     simp only[i]
     exact h
    ·split at h<;>cases h
   ·cases h
   ·rename_i b n
    rw[n]
    dsimp only
    split at h
    ·cases h
    ·split at h<;>cases h
    ·simp only[vd]at h;exact h
theorem NL(p:dp tm s){w:cb}{v:AV}{z:ab}
 (h:oH E pc tc dep u (!(u && !gj E o)) s H ⟨dep,o.dst.getD 0,H.gen dep (o.dst.getD 0),0⟩ o = .inr w) (A:w=some (v,z)):lF E pc tc dep u tm H o=some (v,z):=by
 subst A
 have e:=qN p
 unfold oH at h
 split at h<;>rename_i c
 all_goals try (simp only[reduceCtorEq]at h;done)
 all_goals try (simp only[tn]at h)
 all_goals try (refine Hb (by unfold bR;simp only[c,e]) h;done)
 ·rw[<-zw p]at h
  exact ju (q:=fQ _ _ _ _ _ _ _) (w:=iM _ _ _ _ _ _) (by unfold bR;simp only[c]) (by unfold evalW;simp only[c]) h
 ·rw[<-e]at h
  exact ju (q:=none) (w:=iu _ _ _ _ _) (by unfold bR;simp only[c]) (by unfold evalW;simp only[c]) h
 ·split at h
  ·simp only[tn]at h
   refine Hb (by unfold bR;simp only[c,e]) h
  ·cases h
 ·split at h<;>cases h
 ·split at h
  ·cases h
  ·rename_i args i
   have g:=i
   rw[<-yv,<-e]at g
   split at h
   ·rename_i f n
    split at h
    ·cases h
    ·rename_i m
     split at h
     ·rename_i d
      simp only[tn]at h
      rw[<-e]at h
      exact ju (q:=(iZ _ _ _ _ _ _).map _) (w:=oe true _ _ (kK _ _ _ _ _ _ _)) (by unfold bR;simp only[c,g,n,m,d]) (by unfold evalW;simp only[c,g,n,d]) h
     ·rename_i d
      simp only[tn]at h
      rw[<-e]at h
      exact ju (q:=iZ _ _ _ _ _ _) (w:=kK _ _ _ _ _ _ _) (by unfold bR;simp only[c,g,n,m,d,I9];cases iZ E pc H.get _ (aq tm f) args<;>rfl) (by unfold evalW;simp only[c,g,n,d];rfl) h
   ·cases h
   ·rename_i b l
    split at h
    ·simp only[tn]at h
     exact ju (q:=dy _ _ _ _ _ _ _) (w:=gT _ _ _ _ _ _) (by unfold bR;simp only[c,g,l];rfl) (by unfold evalW;simp only[c,g,l]) h
    ·split at h
     ·rename_i j
      simp only[tn]at h
      exact ju (q:=none) (w:=Bs _ _ _ _ _) (by unfold bR;simp only[c,g,l];rfl) (by unfold evalW;simp only[c,g,l,j,cond_true]) h
     ·rename_i j
      simp only[tn]at h
      exact ju (q:=none) (w:=FU _ _ _ _ _) (by unfold bR;simp only[c,g,l];rfl) (by unfold evalW;simp only[c,g,l,j,cond_false]) h
    ·cases h
 ·rw[<-e]at h
  exact ju (q:=none) (w:=gm _ _ _ _ _ _) (by unfold bR;simp only[c]) (by unfold evalW;simp only[c]) h
 ·rw[<-e]at h
  exact ju (q:=none) (w:=gm _ _ _ _ _ _) (by unfold bR;simp only[c]) (by unfold evalW;simp only[c]) h
 ·rw[<-e]at h
  exact ju (q:=none) (w:=mW _ _ _ _ _) (by unfold bR;simp only[c]) (by unfold evalW;simp only[c]) h
 ·rw[<-e]at h
  exact ju (q:=none) (w:=jj _ _ _ _) (by unfold bR;simp only[c]) (by unfold evalW;simp only[c]) h
 ·rw[<-e]at h
  exact ju (q:=none) (w:=vG _ _ _ _ _) (by unfold bR;simp only[c]) (by unfold evalW;simp only[c]) h
 ·rw[<-e]at h
  exact ju (q:=none) (w:=Bp _ _ _) (by unfold bR;simp only[c]) (by unfold evalW;simp only[c]) h
 ·rw[<-e]at h
  exact ju (q:=none) (w:=DA _ _ _ _ _) (by unfold bR;simp only[c]) (by unfold evalW;simp only[c]) h
end
def yE(E:Env)(u:Bool)(s:df)(H:ab)(r:Ref)(o:Oper):Option cb:=
 if u || !E.deep o then none else
 match o.op with
 | .buildSlice t n ps=>some (xT E.P H r t n (xt (bT s) ps.toList))
 | .call c=>(match c.callee with
  | .builtin .append=>some (match wQ (bT s) c.args.toList with
   | some [a,x]=>JH E.P H r c.argTypes[0]? c.argTypes[1]? a x
   | _=>none)
  | _=>none)
 | _=>none
theorem Hi{E:Env}{u:Bool}{tm:List AV}{s:df}{H:ab}{r:Ref}{o:Oper}(d:dp tm s):Ak E u H tm r o=yE E u s H r o:=by
 unfold Ak yE
 split
 ·rfl
 ·generalize o.op=op
  cases op
  case buildSlice t n ps=>dsimp only;rw[zw d]
  case call c=>
   dsimp only
   generalize c.callee=ce
   cases ce with
   | builtin b=>
    cases b
    case append=>
     dsimp only
     rw[<-qN d,<-yv]
     generalize c.args.toList.mapM (aq tm)=l
     match l with
     | none=>rfl
     | some []=>rfl
     | some [_]=>rfl
     | some [_,_]=>rfl
     | some (_ :: _ :: _ :: _)=>rfl
    all_goals rfl
   | _=>rfl
  all_goals rfl
def sS(E:Env)(pc:FuncId->List AV->Option AV)(tc:pY->List AV->ab->cb)(dep:Nat)(u c:Bool)(s:df)(H:ab)(r:Ref)(o:Oper):gl ⊕ cb:=
 match yE E u s H r o with
 | some w => .inr w
 | none=>oH E pc tc dep u c s H r o
def sY(E:Env)(pc:FuncId->List AV->Option AV)(tc:pY->List AV->ab->cb)(dep:Nat)(u:Bool)(tm:List AV)(H:ab)(o:Oper):cb:=
 match Ak E u H tm ⟨dep,o.dst.getD 0,H.gen dep (o.dst.getD 0),0⟩ o with
 | some w=>w
 | none=>lF E pc tc dep u tm H o
theorem Fm(E:Env)(pc:FuncId->List AV->Option AV)(tc:pY->List AV->ab->cb)(nt dep:Nat)(u:Bool)(ops:Array Oper)(o:Oper)(st:St) :
 uG E pc tc nt dep u ops o st=(match wanted ops st.tm o with
  | none=>none
  | some false=>(ct nt st.tm o.dst AV.undef).map λtm => { st with tm}
  | some true=>match sY E pc tc dep u st.tm st.hp o with
   | some (x,H)=>(ct nt st.tm o.dst x).map λtm=>⟨tm,H⟩
   | none=>none):=by
 unfold uG sY
 cases Ak E u st.hp st.tm ⟨dep,o.dst.getD 0,st.hp.gen dep (o.dst.getD 0),0⟩ o with
 | none=>exact Om E pc tc nt dep u ops o st
 | some w=>rfl
section
variable{E:Env}{pc:FuncId->List AV->Option AV}{tc:pY->List AV->ab->cb}{dep:Nat}{u:Bool}{tm:List AV}{s:df}{H:ab}{o:Oper}
theorem Qm(c:dp tm s){q:gl}{v:AV}
 (h:sS E pc tc dep u (!(u && !gj E o)) s H ⟨dep,o.dst.getD 0,H.gen dep (o.dst.getD 0),0⟩ o = .inl q) (e:q=some (v,[])):sY E pc tc dep u tm H o=some (v,H):=by
 unfold sS at h
 unfold sY
 rw[Hi c]
 cases d:yE E u s H ⟨dep,o.dst.getD 0,H.gen dep (o.dst.getD 0),0⟩ o with
 | some w=>rw[d]at h;cases h
 | none=>rw[d]at h;exact NM c h e
theorem Ql(d:dp tm s){w:cb}{v:AV}{e:ab}
 (h:sS E pc tc dep u (!(u && !gj E o)) s H ⟨dep,o.dst.getD 0,H.gen dep (o.dst.getD 0),0⟩ o = .inr w) (c:w=some (v,e)):sY E pc tc dep u tm H o=some (v,e):=by
 unfold sS at h
 unfold sY
 rw[Hi d]
 cases f:yE E u s H ⟨dep,o.dst.getD 0,H.gen dep (o.dst.getD 0),0⟩ o with
 | some w'=>rw[f]at h;cases h;exact c
 | none=>rw[f]at h;exact NL d h c
end
open Classical in
noncomputable def au(E:Env)(f:FuncId)(args:List AV):Option AV:=
 if h : ∃y n,∀m,n<=m->ck E (bI E m) f args=some y then some h.choose else none
theorem rH{E:Env}{f:FuncId}{args:List AV}{y:AV}:au E f args=some y ↔ ∃n,∀m,n<=m->ck E (bI E m) f args=some y:=by
 unfold au
 constructor
 ·intro h
  split at h
  ·rename_i d
   simp only[dc]at h
   rw[<-h]
   exact d.choose_spec
  ·cases h
 ·intro h
  rw[dif_pos ⟨y,h⟩]
  obtain⟨n,e⟩:=h
  have d : ∃y n,∀m,n<=m->ck E (bI E m) f args=some y:=⟨y,n,e⟩
  obtain⟨g,c⟩:=d.choose_spec
  have i:=e (max n g) (Nat.le_max_left ..)
  have j:=c (max n g) (Nat.le_max_right ..)
  exact j.symm.trans i
open Classical in
noncomputable def dA(E:Env)(dep:Nat)(f:pY)(args:List AV)(H:ab):cb:=
 if h : ∃y n,∀m,n<=m->dC E (bI E m) dep f args H=some y then some h.choose else none
theorem rF{E:Env}{dep:Nat}{f:pY}{args:List AV}{H:ab}{y:AV × ab}:dA E dep f args H=some y ↔ ∃n,∀m,n<=m->dC E (bI E m) dep f args H=some y:=by
 unfold dA
 constructor
 ·intro h
  split at h
  ·rename_i d
   simp only[dc]at h
   rw[<-h]
   exact d.choose_spec
  ·cases h
 ·intro h
  rw[dif_pos ⟨y,h⟩]
  obtain⟨n,e⟩:=h
  have d : ∃y n,∀m,n<=m->dC E (bI E m) dep f args H=some y:=⟨y,n,e⟩
  obtain⟨g,c⟩:=d.choose_spec
  have j:=e (max n g) (Nat.le_max_left ..)
  have i:=c (max n g) (Nat.le_max_right ..)
  exact i.symm.trans j
theorem Hn{E:Env}{e:Bool}{dep:Nat}{H j:ab}{r:Ref}{f:Option AV}{args:List AV}{v:AV}(h:aT E e (au E) (dA E dep) H r f args=some (v,j)) :
 ∃n,∀m,n<=m->aT E e (ck E (bI E m)) (dC E (bI E m) dep) H r f args=some (v,j):=by
 unfold aT at h ⊢
 by_cases l : ∃i first captured,f=some (.fn (.func i) first captured)
 ·obtain⟨i,first,captured,rfl⟩:=l
  by_cases g:E.mode i=2
  ·simp only[iZ,kK,if_pos g,jB,Aw]at h ⊢
   cases e with
   | true=>
    simp only[cond_true]at h ⊢
    obtain⟨n,d⟩:=rF.1 h
    exact⟨n,d⟩
   | false=>simp at h
  ·simp only[iZ,kK,if_neg g]at h ⊢
   cases z:(first++args++captured).mapM (view H.get depth) with
   | none=>rw[z]at h;simp[jB,Aw]at h
   | some xs=>
    rw[z]at h
    dsimp only at h ⊢
    cases c:au E i xs with
    | none=>rw[c]at h;simp[jB,Aw]at h
    | some y=>
     rw[c]at h
     obtain⟨n,d⟩:=rH.1 c
     refine⟨n,λm w=>?_⟩
     rw[d m w]
     exact h
 ·have p : ∀pc,iZ E pc H.get r f args=none:=by
   intro pc
   unfold iZ
   split
   ·exact(l ⟨_,_,_,rfl⟩).elim
   ·rfl
  by_cases c : ∃q,f=some (.yld q)
  ·obtain⟨q,rfl⟩:=c
   rw[p]at h
   cases e with
   | false=>simp[jB,Aw]at h
   | true=>
    have A:dA E dep (.yld q) args H=some (v,j):=h
    obtain⟨n,d⟩:=rF.1 A
    refine⟨n,λm w=>?_⟩
    rw[p]
    exact d m w
  ·have g : ∀pc tc,kK E pc tc H r f args=none:=by
    intro pc tc
    unfold kK
    split
    ·exact(l ⟨_,_,_,rfl⟩).elim
    ·exact(c ⟨_,rfl⟩).elim
    ·rfl
   rw[p,g]at h
   cases e<;>simp[jB,Aw]at h
theorem Bq{sm:Hw}{H e:ab}{x:cb}{v:AV}(h:oe true sm H x=some (v,e)) : ∃c,x=some (v,c)/\e=H/\flat depth v=true/\(CD H c||sm.f H c)=true:=by
 cases x with
 | none=>simp[oe]at h
 | some p=>
  obtain⟨y,c⟩:=p
  unfold oe at h
  simp only at h
  split at h
  ·rename_i d
   cases h
   rw[aY]at d
   exact⟨c,rfl,rfl,d.1,d.2⟩
  ·cases h
theorem Fv{E:Env}{e:Bool}{dep:Nat}{H p:ab}{r:Ref}{f:Option AV}{args:List AV}{v:AV}(h:yI E e (au E) (dA E dep) H r f args=some (v,p)) :
 ∃n,∀m,n<=m->yI E e (ck E (bI E m)) (dC E (bI E m) dep) H r f args=some (v,p):=by
 unfold yI at h ⊢
 by_cases z : ∃l first captured,f=some (.fn (.func l) first captured)
 ·obtain⟨l,first,captured,rfl⟩:=z
  by_cases j:E.mode l=2
  ·simp only[iZ,kK,if_pos j,jB,Aw,zR]at h ⊢
   cases e with
   | true=>
    simp only[cond_true]at h ⊢
    obtain⟨H1,g,F,G,I⟩:=Bq h
    obtain⟨n,d⟩:=rF.1 g
    refine⟨n,λm i=>?_⟩
    rw[d m i]
    rw[g]at h
    exact h
   | false=>simp at h
  ·simp only[iZ,kK,if_neg j]at h ⊢
   cases B:(first++args++captured).mapM (view H.get depth) with
   | none=>rw[B]at h;simp[jB,Aw,oe]at h
   | some xs=>
    rw[B]at h
    dsimp only at h ⊢
    cases c:au E l xs with
    | none=>rw[c]at h;simp[jB,Aw,oe]at h
    | some y=>
     rw[c]at h
     obtain⟨n,d⟩:=rH.1 c
     refine⟨n,λm i=>?_⟩
     rw[d m i]
     exact h
 ·have A : ∀pc,iZ E pc H.get r f args=none:=by
   intro pc
   unfold iZ
   split
   ·exact(z ⟨_,_,_,rfl⟩).elim
   ·rfl
  by_cases c : ∃q,f=some (.yld q)
  ·obtain⟨q,rfl⟩:=c
   rw[A]at h
   cases e with
   | false=>simp[jB,Aw]at h
   | true=>
    have w:oe true E.sm H (dA E dep (.yld q) args H)=some (v,p):=h
    obtain⟨H1,g,_⟩:=Bq w
    obtain⟨n,d⟩:=rF.1 g
    refine⟨n,λm i=>?_⟩
    rw[A]
    show oe true E.sm H (dC E (bI E m) dep (.yld q) args H)=_
    rw[d m i]
    rw[g]at w
    exact w
  ·have j : ∀pc tc,kK E pc tc H r f args=none:=by
    intro pc tc
    unfold kK
    split
    ·exact(z ⟨_,_,_,rfl⟩).elim
    ·exact(c ⟨_,rfl⟩).elim
    ·rfl
   rw[A,j]at h
   cases e<;>simp[jB,Aw,oe]at h
theorem Cq{E:Env}{dep:Nat}{u j:Bool}{s:df}{H:ab}{r:Ref}{o:Oper} :
 (∀q v,oH E (au E) (dA E dep) dep u j s H r o = .inl q->q=some (v,[]) ->∃n,∀m,n<=m->oH E (ck E (bI E m)) (dC E (bI E m) dep) dep u j s H r o = .inl (some (v,[]))) /\
 (∀w v p,oH E (au E) (dA E dep) dep u j s H r o = .inr w->w=some (v,p) ->∃n,∀m,n<=m->oH E (ck E (bI E m)) (dC E (bI E m) dep) dep u j s H r o = .inr (some (v,p))):=by
 constructor
 ·intro q v h B
  subst B
  refine⟨0,λm _=>?_⟩
  unfold oH at h ⊢
  generalize o.op=op at h ⊢
  cases op
  all_goals try exact h
  case makeMap a b=>cases b<;>exact h
  rename_i c
  dsimp only at h ⊢
  cases i:wQ (bT s) c.args.toList with
  | none=>rw[i]at h;exact h
  | some args=>
   rw[i]at h
   dsimp only at h ⊢
   cases e:c.callee with
   | value f=>
    rw[e]at h
    dsimp only at h ⊢
    cases d:Ad E.nI u f with
    | some t=>rw[d]at h;exact h
    | none=>rw[d]at h;dsimp only at h;split at h<;>cases h
   | invoke a b=>rw[e]at h;exact h
   | builtin b=>rw[e]at h;exact h
 ·intro w v p h A
  subst A
  unfold oH at h ⊢
  generalize o.op=op at h ⊢
  cases op
  all_goals try (exact⟨0,λm _=>h⟩)
  case makeMap a b=>cases b<;>exact⟨0,λm _=>h⟩
  rename_i c
  dsimp only at h ⊢
  cases i:wQ (bT s) c.args.toList with
  | none=>rw[i]at h;cases h
  | some args=>
   rw[i]at h
   dsimp only at h ⊢
   cases e:c.callee with
   | value f=>
    rw[e]at h
    dsimp only at h ⊢
    cases d:Ad E.nI u f with
    | some t=>rw[d]at h;cases h
    | none=>
    rw[d]at h
    dsimp only at h ⊢
    cases g:E.fN o with
    | true=>
     rw[g]at h
     simp only[tn]at h
     obtain⟨n,l⟩:=Fv h
     exact⟨n,λm z=>congrArg _ (l m z)⟩
    | false=>
     rw[g]at h
     simp only[tn]at h
     obtain⟨n,l⟩:=Hn h
     exact⟨n,λm z=>congrArg _ (l m z)⟩
   | invoke a b=>rw[e]at h;cases h
   | builtin b=>rw[e]at h;exact⟨0,λm _=>h⟩
theorem DT{E:Env}{dep:Nat}{u e:Bool}{s:df}{H:ab}{r:Ref}{o:Oper} :
 (∀q v,sS E (au E) (dA E dep) dep u e s H r o = .inl q->q=some (v,[]) ->∃n,∀m,n<=m->sS E (ck E (bI E m)) (dC E (bI E m) dep) dep u e s H r o = .inl (some (v,[]))) /\
 (∀w v d,sS E (au E) (dA E dep) dep u e s H r o = .inr w->w=some (v,d) ->∃n,∀m,n<=m->sS E (ck E (bI E m)) (dC E (bI E m) dep) dep u e s H r o = .inr (some (v,d))):=by
 constructor
 ·intro q v h i
  unfold sS at h ⊢
  cases c:yE E u s H r o with
  | some w=>rw[c]at h;cases h
  | none=>
   rw[c]at h
   obtain⟨n,f⟩:=Cq.1 q v h i
   exact⟨n,f⟩
 ·intro w v d h g
  unfold sS at h ⊢
  cases c:yE E u s H r o with
  | some w'=>rw[c]at h;cases h;exact⟨0,λm _=>by rw[g]⟩
  | none=>
   rw[c]at h
   obtain⟨n,f⟩:=Cq.2 w v d h g
   exact⟨n,f⟩
abbrev Mk{c:Type}(a:c):Type:=Unit
structure ew (q:gl) (K:AV->Prop) (m:Mk K:=()):Prop where
 h : ∃v,q=some (v,[])/\K v
structure iq (w:cb) (K:AV->ab->Prop) (m:Mk K:=()):Prop where
 h : ∃v H,w=some (v,H)/\K v H
def Rh(x:AV)(c:Bool):Option Bool:=
 match x with
 | .v (.bool b)=>some (b == c)
 | .v (.tuple d)=>if d.isEmpty then some false else none
 | _=>none
def gd(x:AV)(c:Bool)(A B:Prop):Prop:=
 match Rh x c with
 | some true=>A
 | some false=>B
 | none=>False
structure gQ (x:AV) (want:Bool) (q:gl) (K:AV->Prop) (m:Mk (q,K):=()):Prop where
 h:gd x want (ew q K) (K AV.undef)
structure gW (x:AV) (want:Bool) (H:ab) (w:cb) (K:AV->ab->Prop) (m:Mk (w,K):=()):Prop where
 h:gd x want (iq w K) (K AV.undef H)
def Zb(x:Option AV)(A B:Prop):Prop:=
 match x.bind zN with
 | some b=>cond b A B
 | none=>False
structure br (x:Option AV) (A B:Prop) (m:Mk (A,B):=()):Prop where
 h:Zb x A B
def Fj(ops:Array Oper)(s:df)(o:Oper):Option (Option (AV × Bool)):=
 match o.guard with
 | none=>none
 | some (j,c)=>match (ops[j]?).bind (·.dst) with
  | some t=>some (some (s t,c))
  | none=>some none
def Dh(nt:Nat)(s:df)(dst:Option Tmp)(v:AV)(K:df->Prop):Prop:=
 match dst with
 | none=>K s
 | some d=>cond (Nat.blt d nt) (K (Ts s d v)) False
def Sb(E:Env)(nt dep:Nat)(u:Bool)(ops:Array Oper)(o:Oper)(s:df)(H:ab)(K:df->ab->Prop):Prop:=
 match sS E (au E) (dA E dep) dep u (!(u && !gj E o)) s H ⟨dep,o.dst.getD 0,H.gen dep (o.dst.getD 0),0⟩ o with
 | .inl q=>match Fj ops s o with
  | none=>(match o.op with
   | .move x | .assign x=>(match bT s x with
    | some v=>Dh nt s o.dst v λs=>K s H
    | none=>False)
   | _=>ew q λv=>Dh nt s o.dst v λs=>K s H)
  | some (some (x,c))=>gQ x c q λv=>Dh nt s o.dst v λs=>K s H
  | some none=>Dh nt s o.dst AV.undef λs=>K s H
 | .inr w=>match Fj ops s o with
  | none=>iq w λv H=>Dh nt s o.dst v λs=>K s H
  | some (some (x,c))=>gW x c H w λv H=>Dh nt s o.dst v λs=>K s H
  | some none=>Dh nt s o.dst AV.undef λs=>K s H
def wpOps(E:Env)(nt dep:Nat)(u:Bool)(ops:Array Oper):List Oper->df->ab->(df->ab->Prop)->Prop
 | [],s,H,K=>K s H
 | o :: os,s,H,K=>Sb E nt dep u ops o s H λs H=>wpOps E nt dep u ops os s H K
def Fin(E:Env)(fn:Func)(rd:Option Ref)(o:Option St)(y:AV)(c:ab):Prop:=match rd with
 | none =>∃st,o=some st/\sQ E.P fn st=some y/\st.hp=c
 | some r =>∃st n,o=rY (some r) st n/\y = .v (.int .i64 (n:Nat))/\st.hp=c
def qo(E:Env)(fn:Func)(rd:Option Ref)(dep:Nat)(c:List Item)(s:df)(H:ab)(Q:AV->ab->Prop):Prop:=
 ∀tm,dp tm s ->∃y d,Q y d /\∃n,∀m,n<=m->Fin E fn rd (bI E m rd fn.ntmps dep c ⟨tm,H⟩) y d
def HB(g:df):List (Nat × AV)->df
 | [],i=>g i
 | (j,v) :: l,i=>cond (Nat.beq i j) v (HB g l i)
structure Pg (E:Env) (fn:Func) (rd:Option Ref) (dep:Nat) (items:List Item) (l:List (Nat × AV)) (H:ab) (Q:AV->ab->Prop):Prop where
 h : ∀g,qo E fn rd dep items (HB g l) H Q
abbrev dZ(E:Env)(fn:Func)(dep:Nat)(c:List Item)(l:List (Nat × AV))(H:ab)(Q:AV->ab->Prop):Prop:=Pg E fn none dep c l H Q
def yd(s:df):List Nat->List (Nat × AV)
 | []=>[]
 | t :: c=>(t,s t) :: yd s c
theorem NO(s:df)(l:List Nat):HB s (yd s l)=s:=by
 induction l with
 | nil=>rfl
 | cons t l c=>
  funext i
  show cond (Nat.beq i t) (s t) (HB s (yd s l) i)=s i
  rw[c]
  cases h:Nat.beq i t with
  | true=>rw[iK h];rfl
  | false=>rfl
def jt:Code->Option Nat
 | .region id _ _=>some id
 | .seq a b=>match jt a with
  | some i=>some i
  | none=>jt b
 | .cond _ a b=>match jt a with
  | some i=>some i
  | none=>jt b
 | .block _ c | .loop c | .scope c=>jt c
 | _=>none
def vk(P:Program)(H:ab)(x:AV)(t:TypeId):gl:=
 match x,eA P t,av P t with
 | .ptr r i j,some g,some n=>match H.get r with
  | some b=>gJ (cG b.es i j n g)
  | none=>none
 | _,_,_=>none
def pack:List AV->AV
 | [] => .v (.tuple #[])
 | [x]=>x
 | xs => .tup xs
def Bn(P:Program)(s:df)(H:ab)(Q:AV->ab->Prop):List ResultVar->List AV->Prop
 | [],acc=>Q (pack acc.reverse) H
 | .tmp t :: rs,acc=>Bn P s H Q rs (s t :: acc)
 | .cell a t :: rs,acc=>ew (vk P H (s a) t) λv=>Bn P s H Q rs (v :: acc)
def pD(x y:AV):Bool:=match iY x,iY y with
 | some r,some r'=>decide (r≠r')
 | _,_=>true
def BN(H:ab)(x:AV):Bool:=match x with
 | .ptr r _ _=>(match H.get r with
  | some b => !b.arr
  | none=>false)
 | _=>true
def YF(x:AV):Bool:=match x with
 | .bD .. => true
 | .v _=>true
 | _=>false
def Nq(s:df)(p:Tmp × Tmp):Bool:=pD (s p.1) (s p.2)
def BO(s:df)(H:ab)(o:Oper):Bool:=match o.op with
 | .store _ (.tmp t) _=>BN H (s t)
 | _=>true
def Ku(E:Env)(s:df)(o:Oper):Bool := !(E.fN o&&wi o.op)||(match R6 o.op with
 | some t=>YF (s t)
 | none=>false)
def OW(E:Env)(l:List (Tmp × Tmp))(ops:Array Oper)(s:df)(H:ab):Prop:=l.all (Nq s)=true/\ops.toList.all (BO s H)=true/\ops.toList.all (Ku E s)=true
def oP(l:List (AV × AV))(st bs:List AV)(H:ab):Prop:=(l.all λp=>pD p.1 p.2)=true/\st.all (BN H)=true/\bs.all YF=true
def Rq(assign body:Code):Nat:=match jt (.seq assign body) with
 | some i=>i+10000
 | none=>10000
structure YJ (o:Option (Nat × AV)) (K:AV->Prop) (m:Mk K:=()):Prop where
 h : ∃info,o=some (0,info)/\K info
def FP(P:Program)(fn:Func)(rd:Option Ref)(c:Nat)(s:df)(H:ab)(Q:AV->ab->Prop):Prop:=match rd with
 | none=>cond (Nat.ble c 2) (Bn P s H Q fn.results.toList []) False
 | some _=>Q (.v (.int .i64 c)) H
def wp(E:Env)(fn:Func)(rd:Option Ref)(dep:Nat)(live:Nat->Option (List Nat))(cut:Nat->Bool)(Q:AV->ab->Prop):Nat->List Item->df->ab->Prop
 | 0,items,s,H=>qo E fn rd dep items s H Q
 | n+1,items,s,H=>
  match items with
  | []=>FP E.P fn rd 0 s H Q
  | .beginRound :: k=>(match rd with
   | none=>False
   | some r=>YJ (sU H r) λd=>wp E fn rd dep live cut Q n k s (H.put r (some (c9 1 d))))
  | .code c :: k=>
   (match c with
   | .skip | .label _=>wp E fn rd dep live cut Q n k s H
   | .ret=>FP E.P fn rd 2 s H Q
   | .seq a b=>wp E fn rd dep live cut Q n (.code a :: .code b :: k) s H
   | .cond c a b=>br (bT s c) (wp E fn rd dep live cut Q n (.code a :: k) s H) (wp E fn rd dep live cut Q n (.code b :: k) s H)
   | .block id b=>wp E fn rd dep live cut Q n (.code b :: .inBlock id :: k) s H
   | .scope b=>wp E fn rd dep live cut Q n (.code b :: .inScope b :: k) s H
   | .loop b=>(match (jt b).bind live with
    | some l=>Pg E fn rd dep (.inLoop b :: k) (yd s l) H Q
    | none=>qo E fn rd dep (.inLoop b :: k) s H Q)
   | .exit id=>(match exitTo id k with
    | some k'=>wp E fn rd dep live cut Q n k' s H
    | none=>FP E.P fn rd (id+3) s H Q)
   | .rangeFunc g ps a b=>(match live (Rq a b) with
    | some l=>Pg E fn rd dep (.code (.rangeFunc g ps a b) :: k) (yd s l) H Q
    | none=>qo E fn rd dep (.code (.rangeFunc g ps a b) :: k) s H Q)
   | .region id ops u=>(match cut id with
    | true=>(match live id with
     | some l=>Pg E fn rd dep (.code (.region id ops u) :: k) (yd s l) H Q
     | none=>False)
    | false=>wpOps E fn.ntmps dep u ops ops.toList s H λs H=>
     (match u,nQ E ops with
     | true,p :: ps=>OW E (p :: ps) ops s H/\wp E fn rd dep live cut Q n k s H
     | _,_=>wp E fn rd dep live cut Q n k s H))
   | _=>False)
  | .inLoop b :: k=>(match (jt b).bind live with
   | some l=>Pg E fn rd dep (.inLoop b :: k) (yd s l) H Q
   | none=>qo E fn rd dep (.inLoop b :: k) s H Q)
  | .inBlock _ :: k | .inScope _ :: k=>wp E fn rd dep live cut Q n k s H
  | _=>False
theorem pb{ops:Array Oper}{tm:List AV}{s:df}(h:dp tm s)(o:Oper):wanted ops tm o=(match Fj ops s o with
 | none=>some true
 | some (some (x,c))=>Rh x c
 | some none=>some false):=by
 unfold wanted Fj
 split
 ·rename_i e;rw[e]
 ·rename_i j c e
  rw[e]
  dsimp only
  split
  ·rename_i t d
   rw[d]
   dsimp only
   rw[h t]
   rfl
  ·rename_i d
   rw[d]
theorem rA{nt:Nat}{s:df}{dst:Option Tmp}{v:AV}{K:df->Prop}(h:Dh nt s dst v K) : ∃g,K g /\∀tm,dp tm s ->∃tm',ct nt tm dst v=some tm'/\dp tm' g:=by
 unfold Dh at h
 cases dst with
 | none=>exact⟨s,h,λtm c=>⟨tm,rfl,c⟩⟩
 | some d=>
  dsimp only at h
  cases f:Nat.blt d nt with
  | false=>rw[f]at h;exact h.elim
  | true=>
   rw[f]at h
   refine⟨_,h,λtm c=>⟨_,?_,c.set d v⟩⟩
   have e:d<nt:=Bh f
   simp only[ct,if_pos e]
theorem Pj{E:Env}{nt dep:Nat}{u:Bool}{ops:Array Oper}{o:Oper}{s:df}{H:ab}{K:df->ab->Prop}(h:Sb E nt dep u ops o s H K) :
 ∃c e,K c e /\∀tm,dp tm s ->∃tm',dp tm' c /\∃n,∀m,n<=m->uG E (ck E (bI E m)) (dC E (bI E m) dep) nt dep u ops o ⟨tm,H⟩=some ⟨tm',e⟩:=by
 have run : ∀(v:AV)(e:ab)(c:df),(∀tm,dp tm s->wanted ops tm o=some true)->(∃n,∀m,n<=m ->∀tm,dp tm s->sY E (ck E (bI E m)) (dC E (bI E m) dep) dep u tm H o=some (v,e)) ->
  (∀tm,dp tm s ->∃tm',ct nt tm o.dst v=some tm'/\dp tm' c) ->
  ∀tm,dp tm s ->∃tm',dp tm' c /\∃n,∀m,n<=m->uG E (ck E (bI E m)) (dC E (bI E m) dep) nt dep u ops o ⟨tm,H⟩=some ⟨tm',e⟩:=by
  intro v e c p ⟨n,B⟩ hp tm d
  obtain⟨tm',N,L⟩:=hp tm d
  refine⟨tm',L,n,λm J=>?_⟩
  rw[Fm]
  dsimp only
  rw[p tm d,B m J tm d]
  dsimp only
  rw[N]
  rfl
 have j : ∀(c:df),(∀tm,dp tm s->wanted ops tm o=some false)->(∀tm,dp tm s ->∃tm',ct nt tm o.dst AV.undef=some tm'/\dp tm' c) ->
  ∀tm,dp tm s ->∃tm',dp tm' c /\∃n,∀m,n<=m->uG E (ck E (bI E m)) (dC E (bI E m) dep) nt dep u ops o ⟨tm,H⟩=some ⟨tm',H⟩:=by
  intro c p hp tm d
  obtain⟨tm',N,L⟩:=hp tm d
  refine⟨tm',L,0,λm _=>?_⟩
  rw[Fm]
  dsimp only
  rw[p tm d]
  dsimp only
  rw[N]
  rfl
 unfold Sb at h
 split at h
 ·rename_i q A
  have G : ∀v,q=some (v,[]) ->∃n,∀m,n<=m ->∀tm,dp tm s->sY E (ck E (bI E m)) (dC E (bI E m) dep) dep u tm H o=some (v,H):=by
   intro v f
   obtain⟨n,B⟩:=DT.1 q v A f
   exact⟨n,λm J tm d=>Qm d (B m J) rfl⟩
  split at h
  ·rename_i l
   have p : ∀tm,dp tm s->wanted ops tm o=some true:=λtm d=>by rw[pb d,l]
   have i : ∀v,q=some (v,[])->Dh nt s o.dst v (λs=>K s H) ->∃c e,K c e /\∀tm,dp tm s ->∃tm',dp tm' c /\∃n,∀m,n<=m->uG E (ck E (bI E m)) (dC E (bI E m) dep) nt dep u ops o ⟨tm,H⟩=some ⟨tm',e⟩:=by
    intro v f hp
    obtain⟨c,g,hp⟩:=rA hp
    exact⟨c,H,g,run v H c p (G v f) hp⟩
   split at h
   ·rename_i x M
    split at h
    ·rename_i v f
     refine i v ?_ h
     unfold sS yE oH at A
     simp only[M,vd,f,ite_self]at A
     rw[<-A];rfl
    ·exact h.elim
   ·rename_i x M
    split at h
    ·rename_i v f
     refine i v ?_ h
     unfold sS yE oH at A
     simp only[M,vd,f,ite_self]at A
     rw[<-A];rfl
    ·exact h.elim
   ·obtain⟨v,f,h⟩:=h.h
    exact i v f h
  ·rename_i x I l
   replace h:=h.h
   unfold gd at h
   split at h
   ·rename_i z
    obtain⟨v,f,h⟩:=h.h
    obtain⟨c,g,hp⟩:=rA h
    exact⟨c,H,g,run v H c (λtm d=>by rw[pb d,l];exact z) (G v f) hp⟩
   ·rename_i z
    obtain⟨c,g,hp⟩:=rA h
    exact⟨c,H,g,j c (λtm d=>by rw[pb d,l];exact z) hp⟩
   ·exact h.elim
  ·rename_i l
   obtain⟨c,g,hp⟩:=rA h
   exact⟨c,H,g,j c (λtm d=>by rw[pb d,l]) hp⟩
 ·rename_i w p
  have F : ∀v e,w=some (v,e) ->∃n,∀m,n<=m ->∀tm,dp tm s->sY E (ck E (bI E m)) (dC E (bI E m) dep) dep u tm H o=some (v,e):=by
   intro v e f
   obtain⟨n,B⟩:=DT.2 w v e p f
   exact⟨n,λm J tm d=>Ql d (B m J) rfl⟩
  split at h
  ·rename_i l
   obtain⟨v,e,f,h⟩:=h.h
   obtain⟨c,g,hp⟩:=rA h
   exact⟨c,e,g,run v e c (λtm d=>by rw[pb d,l]) (F v e f) hp⟩
  ·rename_i x I l
   replace h:=h.h
   unfold gd at h
   split at h
   ·rename_i z
    obtain⟨v,e,f,h⟩:=h.h
    obtain⟨c,g,hp⟩:=rA h
    exact⟨c,e,g,run v e c (λtm d=>by rw[pb d,l];exact z) (F v e f) hp⟩
   ·rename_i z
    obtain⟨c,g,hp⟩:=rA h
    exact⟨c,H,g,j c (λtm d=>by rw[pb d,l];exact z) hp⟩
   ·exact h.elim
  ·rename_i l
   obtain⟨c,g,hp⟩:=rA h
   exact⟨c,H,g,j c (λtm d=>by rw[pb d,l]) hp⟩
theorem Mq{E:Env}{nt dep:Nat}{u:Bool}{ops:Array Oper}{K:df->ab->Prop} : ∀ {l:List Oper} {s:df} {H:ab},wpOps E nt dep u ops l s H K ->
 ∃i g,K i g /\∀tm,dp tm s ->∃tm',dp tm' i /\∃n,∀m,n<=m->kU E (ck E (bI E m)) (dC E (bI E m) dep) nt dep u ops l ⟨tm,H⟩=some ⟨tm',g⟩:=by
 intro l
 induction l with
 | nil=>intro s H h;exact⟨s,H,h,λtm d=>⟨tm,d,0,λm _=>rfl⟩⟩
 | cons o l v=>
  intro s H h
  obtain⟨s1,H1,w,e⟩:=Pj h
  obtain⟨s2,q,p,f⟩:=v w
  refine⟨s2,q,p,λtm d=>?_⟩
  obtain⟨tm1,t1,n1,z⟩:=e tm d
  obtain⟨c,t2,n2,j⟩:=f tm1 t1
  exact⟨c,t2,max n1 n2,λm A=>by simp only[kU,z m (by omega),j m (by omega)]⟩
theorem Mp{P:Program}{fn:Func}{s:df}{H:ab}{Q:AV->ab->Prop} : ∀ {m:List ResultVar} {c:List AV},Bn P s H Q m c ->
 ∃f,Q (pack (c.reverse++f)) H /\∀tm,dp tm s->m.mapM (jz P ⟨tm,H⟩)=some f:=by
 intro m
 induction m with
 | nil=>intro c h;exact⟨[],by simpa [Bn] using h,λtm _=>rfl⟩
 | cons r m w=>
  intro c h
  cases r with
  | tmp t=>
   obtain⟨f,q,p⟩:=w h
   refine⟨s t :: f,by simpa using q,λtm l=>?_⟩
   simp only[kI,jz,p tm l,l t,od,o9,dF]
  | cell a t=>
   obtain⟨v,d,h⟩:=h.h
   obtain⟨f,q,p⟩:=w h
   refine⟨v :: f,by simpa using q,λtm l=>?_⟩
   have F:jz P ⟨tm,H⟩ (.cell a t)=some v:=by
    unfold vk at d
    simp only[jz,l a]
    split at d
    ·rename_i r i j g n A J G
     rw[A,J,G]
     dsimp only
     split at d
     ·rename_i b B
      rw[B]
      dsimp only
      simp only[gJ,aZ]at d
      obtain⟨z,I,e⟩:=d
      cases e
      exact I
     ·cases d
    ·cases d
   simp only[kI,F,p tm l,od,o9,dF]
theorem Gm{E:Env}{fn:Func}{s:df}{H:ab}{Q:AV->ab->Prop}(h:Bn E.P s H Q fn.results.toList []) : ∃y,Q y H /\∀tm,dp tm s->sQ E.P fn ⟨tm,H⟩=some y:=by
 obtain⟨c,f,e⟩:=Mp (fn:=fn) h
 refine⟨pack c,by simpa using f,λtm d=>?_⟩
 unfold sQ
 rw[e tm d]
 match c with
 | []=>rfl
 | [x]=>rfl
 | x :: y :: zs=>rfl
theorem lS{E:Env}{fn:Func}{rd:Option Ref}{dep:Nat}{d c:List Item}{s:df}{H:ab}{Q:AV->ab->Prop}
 (f : ∀n tm,bI E (n+1) rd fn.ntmps dep d ⟨tm,H⟩=bI E n rd fn.ntmps dep c ⟨tm,H⟩) (h:qo E fn rd dep c s H Q):qo E fn rd dep d s H Q:=by
 intro tm g
 obtain⟨y,l,i,n,e⟩:=h tm g
 refine⟨y,l,i,n+1,λm p=>?_⟩
 obtain⟨m,rfl⟩ : ∃j,m=j+1:=⟨m - 1,by omega⟩
 rw[f]
 exact e m (by omega)
theorem LJ{E:Env}{fn:Func}{rd:Option Ref}{dep:Nat}{b:Code}{k:List Item}{s:df}{H:ab}{Q:AV->ab->Prop}(h:qo E fn rd dep (.code b :: .inLoop b :: k) s H Q):qo E fn rd dep (.inLoop b :: k) s H Q:=
 lS (λn tm=>by simp only[bI]) h
theorem I4{E:Env}{fn:Func}{rd:Option Ref}{dep:Nat}{b:Code}{k:List Item}{s:df}{H:ab}{Q:AV->ab->Prop}(h:qo E fn rd dep (.inLoop b :: k) s H Q):qo E fn rd dep (.code (.loop b) :: k) s H Q:=by
 intro tm d
 obtain⟨y,i,f,n,c⟩:=h tm d
 refine⟨y,i,f,n+1,λm j=>?_⟩
 obtain⟨m,rfl⟩ : ∃g,m=g+1:=⟨m - 1,by omega⟩
 have:=c (m+1) (by omega)
 have e:bI E (m+1) rd fn.ntmps dep (.code (.loop b) :: k) ⟨tm,H⟩=bI E (m+1) rd fn.ntmps dep (.inLoop b :: k) ⟨tm,H⟩:=by simp only[bI]
 rw[e]
 exact this
theorem D7{E:Env}{fn:Func}{rd:Option Ref}{dep:Nat}{c:List Item}{s:df}{l:List Nat}{H:ab}{Q:AV->ab->Prop}(h:Pg E fn rd dep c (yd s l) H Q):qo E fn rd dep c s H Q:=by
 have:=h.h s
 rwa [NO]at this
theorem CG{E:Env}{fn:Func}{rd:Option Ref}{dep c:Nat}{d:List Item}{s:df}{H:ab}{Q:AV->ab->Prop}
 (g : ∀n tm,rd.isSome=true\/c<=2->bI E (n+1) rd fn.ntmps dep d ⟨tm,H⟩=(match rd with | none=>some ⟨tm,H⟩ | some r=>rY (some r) ⟨tm,H⟩ c)) (h:FP E.P fn rd c s H Q):qo E fn rd dep d s H Q:=by
 intro tm l
 cases rd with
 | none=>
  unfold FP at h
  dsimp only at h
  cases f:Nat.ble c 2 with
  | false=>rw[f]at h;exact h.elim
  | true=>
   rw[f]at h
   obtain⟨y,i,j⟩:=Gm h
   refine⟨y,H,i,1,λm p=>?_⟩
   obtain⟨m,rfl⟩ : ∃e,m=e+1:=⟨m - 1,by omega⟩
   exact⟨⟨tm,H⟩,g m tm (.inr (Bh f)),j tm l,rfl⟩
 | some r=>
  refine⟨.v (.int .i64 c),H,h,1,λm p=>?_⟩
  obtain⟨m,rfl⟩ : ∃e,m=e+1:=⟨m - 1,by omega⟩
  exact⟨⟨tm,H⟩,c,g m tm (.inl rfl),rfl,rfl⟩
theorem L1{E:Env}{ops:Array Oper}{s:df}{H:ab}{tm:List AV}(c:dp tm s)(h:OW E (nQ E ops) ops s H):oZ E ops ⟨tm,H⟩=true:=by
 unfold oZ
 rw[jh,aY]
 refine .inr ⟨?_,?_⟩
 ·refine Eq.trans ?_ h.1
  congr 1
  funext p
  unfold z9 Nq pD
  rw[c,c]
  rfl
 ·rw[aY]
  refine⟨Eq.trans ?_ h.2.1,Eq.trans ?_ h.2.2⟩
  ·congr 1
   funext o
   unfold sM BO
   generalize o.op=op
   cases op<;>try rfl
   rename_i t a x
   cases a<;>try rfl
   rename_i t'
   dsimp only
   rw[c t']
   rfl
  ·congr 1
   funext o
   unfold CT Ku
   congr 1
   cases R6 o.op with
   | none=>rfl
   | some t=>
    dsimp only
    rw[c t]
    rfl
theorem pU{E:Env}{fn:Func}{rd:Option Ref}{dep:Nat}{live:Nat->Option (List Nat)}{cut:Nat->Bool}{Q:AV->ab->Prop} : ∀ {n:Nat} {d:List Item} {s:df} {H:ab},
 wp E fn rd dep live cut Q n d s H->qo E fn rd dep d s H Q:=by
 intro n
 induction n with
 | zero=>intro d s H h;exact h
 | succ n f=>
  intro d s H h
  have g : ∀ {k:List Item} {x:Option (List Nat)},(match x with | some l=>Pg E fn rd dep k (yd s l) H Q | none=>qo E fn rd dep k s H Q)->qo E fn rd dep k s H Q:=by
   intro k x h
   cases x with
   | some l=>exact D7 h
   | none=>exact h
  unfold wp at h
  split at h
  ·exact CG (λn tm _=>by cases rd<;>simp only[bI]) h
  ·rename_i k
   split at h
   ·exact h.elim
   ·rename_i r
    obtain⟨info,N,h⟩:=h.h
    intro tm i
    obtain⟨y,j,v,n,I⟩:=f h tm i
    refine⟨y,j,v,n+1,λm M=>?_⟩
    obtain⟨m,rfl⟩ : ∃w,m=w+1:=⟨m - 1,by omega⟩
    have:=I m (by omega)
    have e:bI E (m+1) (some r) fn.ntmps dep (.beginRound :: k) ⟨tm,H⟩=bI E m (some r) fn.ntmps dep k ⟨tm,H.put r (some (c9 1 info))⟩:=by simp only[bI,N]
    rw[e]
    exact this
  ·rename_i c k
   split at h
   ·exact lS (λn tm=>by simp only[bI]) (f h)
   ·exact lS (λn tm=>by simp only[bI]) (f h)
   ·exact CG (λn tm _=>by cases rd<;>simp[bI,rY]) h
   ·exact lS (λn tm=>by simp only[bI]) (f h)
   ·rename_i c a b
    replace h:=h.h
    unfold Zb at h
    split at h
    ·rename_i A R
     have J:qo E fn rd dep (.code (cond A a b) :: k) s H Q:=by cases A<;>exact f h
     intro tm i
     obtain⟨y,j,v,n,I⟩:=J tm i
     refine⟨y,j,v,n+1,λm M=>?_⟩
     obtain⟨m,rfl⟩ : ∃w,m=w+1:=⟨m - 1,by omega⟩
     have:=I m (by omega)
     have e:bI E (m+1) rd fn.ntmps dep (.code (.cond c a b) :: k) ⟨tm,H⟩=bI E m rd fn.ntmps dep (.code (cond A a b) :: k) ⟨tm,H⟩:=by
      simp only[bI,qN i,R]
      cases A<;>rfl
     rw[e]
     exact this
    ·exact h.elim
   ·exact lS (λn tm=>by simp only[bI]) (f h)
   ·exact lS (λn tm=>by simp only[bI]) (f h)
   ·exact I4 (g h)
   ·rename_i id
    split at h
    ·rename_i k' B
     exact lS (λn tm=>by simp only[bI,B]) (f h)
    ·rename_i B
     exact CG (λn tm z=>by
      simp only[bI,B]
      cases rd with
      | none=>
       rcases z with z | z
       ·cases z
       ·omega
      | some r=>rfl) h
   ·exact g h
   ·rename_i id ops u
    split at h
    ·split at h
     ·exact D7 h
     ·exact h.elim
    ·obtain⟨L,j,q,F⟩:=Mq h
     have S:qo E fn rd dep k L j Q /\∀tm,dp tm L->(u && !oZ E ops ⟨tm,j⟩)=false:=by
      cases u with
      | false=>exact⟨f q,λ_ _=>rfl⟩
      | true=>
       cases hp:nQ E ops with
       | nil=>
        rw[hp]at q
        refine⟨f q,λtm i=>?_⟩
        unfold oZ
        rw[hp]
        rfl
       | cons p ps=>
        rw[hp]at q
        exact⟨f q.2,λtm i=>by rw[L1 i (by rw[hp];exact q.1)];rfl⟩
     obtain⟨J,K⟩:=S
     intro tm i
     obtain⟨tm1,t1,n1,O⟩:=F tm i
     obtain⟨y,T,v,n2,G⟩:=J tm1 t1
     refine⟨y,T,v,max n1 n2+1,λm M=>?_⟩
     obtain⟨m,rfl⟩ : ∃w,m=w+1:=⟨m - 1,by omega⟩
     have:=G m (by omega)
     have e:bI E (m+1) rd fn.ntmps dep (.code (.region id ops u) :: k) ⟨tm,H⟩=bI E m rd fn.ntmps dep k ⟨tm1,j⟩:=by
      simp only[bI,O m (by omega),K tm1 t1]
      simp
     rw[e]
     exact this
   ·exact h.elim
  ·exact g h
  ·exact lS (λn tm=>by simp only[bI]) (f h)
  ·exact lS (λn tm=>by simp only[bI]) (f h)
  ·exact h.elim
def An:Nat->List AV->List (Nat × AV)
 | _,[]=>[]
 | i,x :: xs=>(i,x) :: An (i+1) xs
theorem Cs(args:List AV)(i:Nat):HB (λ_=>AV.undef) (An 0 args) i=bZ args i:=by
 have : ∀(j:Nat)(l:List AV),HB (λ_=>AV.undef) (An j l) (j+i)=bZ l i:=by
  induction i with
  | zero=>
   intro j l
   cases l with
   | nil=>rfl
   | cons x l=>
    show cond (Nat.beq (j+0) j) x _=x
    rw[show Nat.beq (j+0) j=true from by simp]
    rfl
  | succ i c=>
   intro j l
   cases l with
   | nil=>rfl
   | cons x l=>
    show cond (Nat.beq (j+(i+1)) j) x (HB (λ_=>AV.undef) (An (j+1) l) (j+(i+1)))=bZ l i
    have e:Nat.beq (j+(i+1)) j=false:=by
     cases h:Nat.beq (j+(i+1)) j with
     | false=>rfl
     | true=>have:=iK h;omega
    rw[e]
    show HB _ _ _=_
    rw[<-c (j+1) l,show j+1+i=j+(i+1) by omega]
 simpa using this 0 args
def kE(E:Env)(f:FuncId)(x:AV)(H:ab)(y:AV):Prop:=
 if pG (E.mode f)=true then (ad H.get depth x).Nodup/\bj H.get depth x=some y else view H.get depth x=some y
theorem rG{E:Env}{f:FuncId}{fn:Func}{c:Code}{args:List AV}{y:AV}(j:E.spec f args=none)(g:E.allowed f=true)(z:E.P.funcs[f]?=some fn)(v:fn.body=some c)(w:Nat.ble args.length fn.ntmps=true)
 (h:dZ E fn 0 [.code c] (An 0 args) [] λx H=>kE E f x H y):au E f args=some y:=by
 rw[rH]
 obtain⟨x,H,d,n,l⟩:=h.h (λ_=>AV.undef) args λi=>(Cs args i).symm
 refine⟨n,λm A=>?_⟩
 obtain⟨st,e,p,q⟩:=l m A
 subst q
 unfold ck
 rw[j]
 unfold qO
 simp only[g,if_true,z,v,if_pos (Bh w),e,p,Option.map_some]
 unfold kE at d
 split
 ·rename_i e
  rw[if_pos e]at d
  rw[if_pos d.1]
  exact d.2
 ·rename_i e
  rw[if_neg e]at d
  exact d
theorem yw{E:Env}{f:FuncId}{fn:Func}{c:Code}{dep:Nat}{args:List AV}{H:ab}{Q:AV->ab->Prop}(F:E.mode f=2)(d:E.allowed f=true)(A:E.P.funcs[f]?=some fn)(w:fn.body=some c)(z:Nat.ble args.length fn.ntmps=true)
 (h:dZ E fn (dep+1) [.code c] (An 0 args) H Q) (e:E.thrSpec f args H=none:=by rfl) : ∃y j,dA E dep (.fn f) args H=some (y,j)/\Q y j:=by
 obtain⟨x,H1,p,n,l⟩:=h.h (λ_=>AV.undef) args λi=>(Cs args i).symm
 refine⟨x,H1,rF.2 ⟨n,λm g=>?_⟩,p⟩
 obtain⟨st,B,q,v⟩:=l m g
 unfold dC
 dsimp only
 rw[e]
 dsimp only
 rw[if_pos F]
 unfold qO
 simp only[d,if_true,A,w,if_pos (Bh z),B,q,Option.map_some,v]
theorem N4{E:Env}{fn:Func}{dep nt:Nat}{r:Ref}{f:FuncId}{ps:List Tmp}{assign body:Code}{tm:List AV}{args:List AV}{H:ab}{Q:AV->ab->Prop}
 (L:sU H r=some (0,.lp f nt ps assign body tm)) (B:fn.ntmps=nt) (hp:args.length=ps.length) (p:ps.all (· < nt)=true) (K:codeOk E.ok assign=true) (J:codeOk E.ok body=true)
 (h:qo E fn (some r) (dep+1) [.code assign,.beginRound,.code body] (bZ (qF tm ps args)) H λx e =>∃c:Nat,x = .v (.int .i64 c) /\∃d g,sU e r=some (1,d)/\g=e.put r (some (c9 c d)) /\
  sU g r=some (c,d)/\(c=0->Q (.v (.bool true)) g)/\(2<=c->Q (.v (.bool false)) g)/\c≠1) :
 ∃y e,dA E dep (.yld r) args H=some (y,e)/\Q y e:=by
 obtain⟨x,H1,⟨c,rfl,d,g,M,rfl,G,A,w,j⟩,n,z⟩:=h (qF tm ps args) (λi=>rfl)
 have key : ∀m,n<=m->vP E (bI E m) (dep+1) r args H=some (.v (.bool (c == 0)),H1.put r (some (c9 c d))):=by
  intro m I
  obtain⟨st,k,N,l,F⟩:=z m I
  injection l with l
  injection l with l q
  have q:c=k:=by exact_mod_cast q
  subst q
  subst B
  unfold vP
  rw[L]
  simp only
  rw[if_pos ⟨hp,p,K,J⟩,N]
  unfold rY
  simp only[F,M,G]
  match c with
  | 0=>rfl
  | 1=>exact(j rfl).elim
  | k+2=>rfl
 have Wp : ∀m,n<=m->dC E (bI E m) dep (.yld r) args H=some (.v (.bool (c == 0)),H1.put r (some (c9 c d))):=key
 refine⟨_,_,rF.2 ⟨n,Wp⟩,?_⟩
 match c with
 | 0=>exact A rfl
 | 1=>exact(j rfl).elim
 | k+2=>exact w (by omega)
theorem CF{E:Env}{fn:Func}{dep:Nat}{g:Operand}{ps:Array Tmp}{assign body:Code}{k:List Item}{s:df}{H:ab}{Q:AV->ab->Prop}{gi:FuncId}{first captured:List AV}
 (G:bT s g=some (.fn (.func gi) first captured))
 (h : ∀tm,dp tm s ->∃v c st d,dA E dep (.fn gi) (first++[.yld ⟨dep,fn.ntmps,H.gen dep fn.ntmps,0⟩]++captured) ((⟨dep,fn.ntmps,H.gen dep fn.ntmps,0⟩,some (c9 0 (.lp 0 fn.ntmps ps.toList assign body tm))) :: H)=some (v,c) /\
  sU c ⟨dep,fn.ntmps,H.gen dep fn.ntmps,0⟩=some (st,d) /\
  (
   (st=0/\qo E fn none dep k s (c.put ⟨dep,fn.ntmps,H.gen dep fn.ntmps,0⟩ none) Q) \/
   (st=2/\Bn E.P s (c.put ⟨dep,fn.ntmps,H.gen dep fn.ntmps,0⟩ none) Q fn.results.toList []) \/
   (∃id k',st=id+3/\exitTo id k=some k'/\qo E fn none dep k' s (c.put ⟨dep,fn.ntmps,H.gen dep fn.ntmps,0⟩ none) Q))) :
 qo E fn none dep (.code (.rangeFunc g ps assign body) :: k) s H Q:=by
 intro tm q
 obtain⟨v,c,st,d,I,w,B⟩:=h tm q
 obtain⟨n1,f⟩:=rF.1 I
 have j:aq tm g=some (.fn (.func gi) first captured):=by rw[qN q];exact G
 rcases B with ⟨rfl,n⟩ | ⟨rfl,n⟩ | ⟨id,k',rfl,he,n⟩
 ·obtain⟨y,z,l,n2,i⟩:=n tm q
  refine⟨y,z,l,max n1 n2+1,λm A=>?_⟩
  obtain⟨m,rfl⟩ : ∃p,m=p+1:=⟨m - 1,by omega⟩
  have e:bI E (m+1) none fn.ntmps dep (.code (.rangeFunc g ps assign body) :: k) ⟨tm,H⟩=bI E m none fn.ntmps dep k ⟨tm,c.put ⟨dep,fn.ntmps,H.gen dep fn.ntmps,0⟩ none⟩:=by
   simp only[bI,j,f m (by omega),w]
  rw[e]
  exact i m (by omega)
 ·obtain⟨y,l,F⟩:=Gm n
  refine⟨y,_,l,n1+1,λm A=>?_⟩
  obtain⟨m,rfl⟩ : ∃p,m=p+1:=⟨m - 1,by omega⟩
  have e:bI E (m+1) none fn.ntmps dep (.code (.rangeFunc g ps assign body) :: k) ⟨tm,H⟩=some ⟨tm,c.put ⟨dep,fn.ntmps,H.gen dep fn.ntmps,0⟩ none⟩:=by
   simp only[bI,j,f m (by omega),w]
  rw[e]
  exact⟨_,rfl,F tm q,rfl⟩
 ·obtain⟨y,z,l,n2,i⟩:=n tm q
  refine⟨y,z,l,max n1 n2+1,λm A=>?_⟩
  obtain⟨m,rfl⟩ : ∃p,m=p+1:=⟨m - 1,by omega⟩
  have e:bI E (m+1) none fn.ntmps dep (.code (.rangeFunc g ps assign body) :: k) ⟨tm,H⟩=bI E m none fn.ntmps dep k' ⟨tm,c.put ⟨dep,fn.ntmps,H.gen dep fn.ntmps,0⟩ none⟩:=by
   simp only[bI,j,f m (by omega),w,he]
  rw[e]
  exact i m (by omega)
theorem LB{E:Env}{f:FuncId}{args:List AV}{y:AV}(h:E.spec f args=some y):au E f args=some y:=by
 rw[rH]
 exact⟨0,λm _=>by unfold ck;rw[h]⟩
theorem N5{E:Env}{f:FuncId}{args:List AV}{y:AV}(h:au E f args=some y) : ∃n,ck E (bI E n) f args=some y:=by
 obtain⟨n,c⟩:=rH.1 h
 exact⟨n,c n (aW _)⟩
def mI(r:Nat):Nat->List Item->Option (List Item)
 | 0,_=>none
 | n+1,items=>
  match items with
  | .code c :: k=>(match c with
   | .seq a b=>mI r n (.code a :: .code b :: k)
   | .cond _ a b=>(match mI r n (.code a :: k) with
    | some l=>some l
    | none=>mI r n (.code b :: k))
   | .block id b=>mI r n (.code b :: .inBlock id :: k)
   | .scope b=>mI r n (.code b :: .inScope b :: k)
   | .loop b=>(match jt b with
    | some i=>cond (Nat.beq i r) (some (.inLoop b :: k)) (mI r n (.code b :: .inLoop b :: k))
    | none=>none)
   | .exit id=>(match exitTo id k with
    | some k'=>mI r n k'
    | none=>none)
   | .skip | .label _ | .region _ _ _=>mI r n k
   | _=>none)
  | .inBlock _ :: k | .inScope _ :: k=>mI r n k
  | _=>none
def jg(r:Nat):Nat->List Item->Option (List Item)
 | 0,_=>none
 | n+1,items=>
  match items with
  | .code c :: k=>(match c with
   | .seq a b=>jg r n (.code a :: .code b :: k)
   | .cond _ a b=>(match jg r n (.code a :: k) with
    | some l=>some l
    | none=>jg r n (.code b :: k))
   | .block id b=>jg r n (.code b :: .inBlock id :: k)
   | .scope b=>jg r n (.code b :: .inScope b :: k)
   | .loop b=>jg r n (.code b :: .inLoop b :: k)
   | .exit id=>(match exitTo id k with
    | some k'=>jg r n k'
    | none=>none)
   | .rangeFunc _ _ a b=>cond (Nat.beq (Rq a b) r) (some items) (jg r n k)
   | .skip | .label _ | .region _ _ _=>jg r n k
   | _=>none)
  | .inBlock _ :: k | .inScope _ :: k=>jg r n k
  | _=>none
def Zk:List Item->Code
 | .code (.rangeFunc _ _ a _) :: _=>a
 | _ => .skip
def Zj:List Item->Code
 | .code (.rangeFunc _ _ _ b) :: _=>b
 | _ => .skip
def Zi:List Item->List Item
 | _ :: k=>k
 | []=>[]
def Jn:List Item->List Item
 | .inLoop b :: k => .code b :: .inLoop b :: k
 | l=>l
theorem sW{E:Env}{fn:Func}{rd:Option Ref}{dep:Nat}{c:List Item}{l:List (Nat × AV)}{H:ab}{Q:AV->ab->Prop}(h : ∀g,qo E fn rd dep (Jn c) (HB g l) H Q):Pg E fn rd dep c l H Q:=by
 refine⟨λg=>?_⟩
 have:=h g
 unfold Jn at this
 split at this
 ·exact LJ this
 ·exact this
def oi(x:AV):Option (Option Int):=match qK x with
 | some n=>some (some n)
 | none=>none
end
section
def L5(pc c:FuncId->List AV->Option AV):Prop :=∀f d y,pc f d=some y->c f d=some y
def OY(tc c:pY->List AV->ab->cb):Prop :=∀f d H y,tc f d H=some y->c f d H=some y
theorem II{E:Env}{pc c:FuncId->List AV->Option AV}(hp:L5 pc c){g:cf}{r:Ref}{f:Option AV}{args:List AV}{z:AV × List aJ}(h:iZ E pc g r f args=some z):iZ E c g r f args=some z:=by
 unfold iZ at h ⊢
 split at h
 ·split at h
  ·cases h
  ·rename_i d
   rw[if_neg d]
   split at h
   ·rename_i j i
    split at h
    ·rename_i y e
     rw[hp _ _ _ e]
     exact h
    ·cases h
   ·cases h
 ·cases h
theorem NA{E:Env}{pc d:FuncId->List AV->Option AV}{tc g:pY->List AV->ab->cb}(hp:L5 pc d)(i:OY tc g){H:ab}{r:Ref}{f:Option AV}{args:List AV} :
 (iZ E pc H.get r f args=none ->∀z,kK E pc tc H r f args=some z->kK E d g H r f args=some z/\iZ E d H.get r f args=none):=by
 intro c z h
 unfold iZ at c ⊢
 unfold kK at h ⊢
 split at h
 ·rename_i m first captured
  dsimp only at c ⊢
  split at h
  ·rename_i e
   rw[if_pos e,if_pos e]
   exact⟨i _ _ _ _ h,rfl⟩
  ·rename_i e
   rw[if_neg e]at c
   rw[if_neg e,if_neg e]
   split at h
   ·rename_i n l
    try rw[l]at c
    dsimp only at c ⊢
    simp only[aZ]at h
    obtain⟨y,j,h⟩:=h
    rw[j]at c
    rw[hp _ _ _ j]
    exact⟨by rw[Option.map_some,h],c⟩
   ·cases h
 ·exact⟨i _ _ _ _ h,rfl⟩
 ·cases h
theorem Hc{E:Env}{pc d:FuncId->List AV->Option AV}{tc l:pY->List AV->ab->cb}(hp:L5 pc d)(J:OY tc l){dep:Nat}{u:Bool}{tm:List AV}{H:ab}{o:Oper}{z:AV × ab}
 (h:lF E pc tc dep u tm H o=some z):lF E d l dep u tm H o=some z:=by
 by_cases F : ∃c f args,o.op = .call c/\c.args.toList.mapM (aq tm)=some args/\c.callee = .value f
 ·obtain⟨c,f,args,m,q,v⟩:=F
  unfold lF bR evalW at h ⊢
  simp only[m,q,v]at h ⊢
  cases i:Ad E.nI u f with
  | some t=>
   rw[i]at h
   dsimp only at h ⊢
   cases I:Gt E.P H.get t args with
   | some p=>rw[I]at h;exact h
   | none=>
    rw[I]at h
    dsimp only at h ⊢
    split at h
    ·cases h
    ·rename_i w
     rw[if_neg w]
     have B : ∃g,f = .func g:=by unfold Ad at i;split at i<;>simp_all
     obtain⟨g,rfl⟩:=B
     simp only[aq,kK]at h ⊢
     by_cases K:E.mode g=2
     ·rw[if_pos K]at h ⊢
      cases j:tc (.fn g) ([]++args++[]) H with
      | none=>rw[j]at h;unfold oe at h;split at h<;>(try split at h)<;>simp_all
      | some L=>rw[j]at h;rw[J _ _ _ _ j];exact h
     ·rw[if_neg K]at h ⊢
      cases G:([]++args++[]:List AV).mapM (view H.get depth) with
      | none=>rw[G]at h;exact h
      | some xs=>
       rw[G]at h
       dsimp only at h ⊢
       cases A:pc g xs with
       | none=>rw[A]at h;unfold oe at h;split at h<;>(try split at h)<;>simp_all
       | some y=>rw[A]at h;rw[hp _ _ _ A];exact h
  | none=>
  rw[i]at h
  dsimp only at h ⊢
  cases n:iZ E pc H.get ⟨dep,o.dst.getD 0,H.gen dep (o.dst.getD 0),0⟩ (aq tm f) args with
  | some p=>
   rw[n]at h
   rw[II hp n]
   exact h
  | none=>
   rw[n]at h
   simp only[zR]at h
   split at h
   ·cases h
   ·rename_i w
    cases j:kK E pc tc H ⟨dep,o.dst.getD 0,H.gen dep (o.dst.getD 0),0⟩ (aq tm f) args with
    | none=>
     rw[j]at h
     unfold oe at h
     split at h
     ·rename_i e;cases e
     ·cases h
    | some L=>
     obtain⟨N,M⟩:=NA hp J n _ j
     rw[M,N]
     rw[j]at h
     simp only[zR,if_neg w]
     exact h
 ·have:lF E pc tc dep u tm H o=lF E d l dep u tm H o:=by
   have n:bR E pc u H.get tm ⟨dep,o.dst.getD 0,H.gen dep (o.dst.getD 0),0⟩ o=bR E d u H.get tm ⟨dep,o.dst.getD 0,H.gen dep (o.dst.getD 0),0⟩ o:=by
    cases m:o.op<;>simp only[bR,m]
    case makeMap a b=>cases b<;>rfl
    rename_i c
    cases q:c.args.toList.mapM (aq tm) with
    | none=>rfl
    | some args=>
     cases v:c.callee with
     | value f=>exact(F ⟨c,f,args,m,q,v⟩).elim
     | invoke _ _=>rfl
     | builtin b=>rfl
   have j:evalW E pc tc H tm ⟨dep,o.dst.getD 0,H.gen dep (o.dst.getD 0),0⟩ o=evalW E d l H tm ⟨dep,o.dst.getD 0,H.gen dep (o.dst.getD 0),0⟩ o:=by
    cases m:o.op<;>simp only[evalW,m]
    rename_i c
    cases q:c.args.toList.mapM (aq tm) with
    | none=>rfl
    | some args=>
     cases v:c.callee with
     | value f=>exact(F ⟨c,f,args,m,q,v⟩).elim
     | invoke _ _=>rfl
     | builtin b=>rfl
   unfold lF
   rw[n,j]
  rw[<-this]
  exact h
theorem Jd{E:Env}{pc d:FuncId->List AV->Option AV}{tc c:pY->List AV->ab->cb}(hp:L5 pc d)(f:OY tc c){dep:Nat}{u:Bool}{tm:List AV}{H:ab}{o:Oper}{z:AV × ab}
 (h:sY E pc tc dep u tm H o=some z):sY E d c dep u tm H o=some z:=by
 unfold sY at h ⊢
 cases e:Ak E u H tm ⟨dep,o.dst.getD 0,H.gen dep (o.dst.getD 0),0⟩ o with
 | some w=>rw[e]at h;exact h
 | none=>rw[e]at h;exact Hc hp f h
theorem Gj{E:Env}{pc f:FuncId->List AV->Option AV}{tc e:pY->List AV->ab->cb}(hp:L5 pc f)(j:OY tc e){nt dep:Nat}{u:Bool}{ops:Array Oper} : ∀ {l:List Oper} {st d:St},
 kU E pc tc nt dep u ops l st=some d->kU E f e nt dep u ops l st=some d:=by
 intro l
 induction l with
 | nil=>intro st d h;exact h
 | cons o l m=>
  intro st d h
  unfold kU at h ⊢
  cases c:uG E pc tc nt dep u ops o st with
  | none=>rw[c]at h;cases h
  | some g=>
   rw[c]at h
   have:uG E f e nt dep u ops o st=some g:=by
    rw[Fm]at c ⊢
    cases hw:wanted ops st.tm o with
    | none=>rw[hw]at c;cases c
    | some b=>
     rw[hw]at c
     cases b with
     | false=>exact c
     | true=>
      dsimp only at c ⊢
      cases i:sY E pc tc dep u st.tm st.hp o with
      | none=>rw[i]at c;cases c
      | some z=>rw[i]at c;rw[Jd hp j i];exact c
   rw[this]
   exact m h
theorem Am{E:Env}{run e:Option Ref->Nat->Nat->List Item->St->Option St}(n : ∀rd nt dep d st g,run rd nt dep d st=some g->e rd nt dep d st=some g){dep:Nat}{f:FuncId}{args:List AV}{H:ab}{z:AV × ab}
 (h:qO E run dep f args H=some z):qO E e dep f args H=some z:=by
 unfold qO at h ⊢
 split at h
 ·rename_i p
  rw[if_pos p]
  cases j:E.P.funcs[f]? with
  | none=>rw[j]at h;cases h
  | some fn=>
   rw[j]at h
   dsimp only at h ⊢
   cases l:fn.body with
   | none=>rw[l]at h;cases h
   | some c=>
    rw[l]at h
    dsimp only at h ⊢
    split at h
    ·rename_i m
     rw[if_pos m]
     cases i:run none fn.ntmps dep [.code c] ⟨args,H⟩ with
     | none=>rw[i]at h;cases h
     | some st=>rw[i]at h;rw[n _ _ _ _ _ _ i];exact h
    ·cases h
 ·cases h
theorem wM{E:Env}{run d:Option Ref->Nat->Nat->List Item->St->Option St}(l : ∀rd nt dep c st e,run rd nt dep c st=some e->d rd nt dep c st=some e):L5 (ck E run) (ck E d):=by
 intro f j y h
 unfold ck at h ⊢
 cases i:E.spec f j with
 | some s=>rw[i]at h;exact h
 | none=>
  rw[i]at h
  dsimp only at h ⊢
  cases g:qO E run 0 f j [] with
  | none=>rw[g]at h;cases h
  | some z=>rw[g]at h;rw[Am l g];exact h
theorem xX{E:Env}{run d:Option Ref->Nat->Nat->List Item->St->Option St}(j : ∀rd nt dep c st e,run rd nt dep c st=some e->d rd nt dep c st=some e)(dep:Nat):OY (dC E run dep) (dC E d dep):=by
 intro f l H y h
 unfold dC at h ⊢
 cases f with
 | fn f=>
  dsimp only at h ⊢
  cases i:E.thrSpec f l H with
  | some s=>rw[i]at h;exact h
  | none=>
  rw[i]at h
  dsimp only at h ⊢
  split at h
  ·rename_i n;rw[if_pos n];exact Am j h
  ·cases h
 | yld r=>
  dsimp only at h ⊢
  unfold vP at h ⊢
  split at h
  ·rename_i f nt ps assign body tm p
   split at h
   ·rename_i m
    rw[if_pos m]
    cases g:run (some r) nt (dep+1) [.code assign,.beginRound,.code body] ⟨qF tm ps l,H⟩ with
    | none=>rw[g]at h;cases h
    | some st=>rw[g]at h;rw[j _ _ _ _ _ _ g];exact h
   ·cases h
  ·cases h
theorem La{E:Env} : ∀(n:Nat)(rd:Option Ref)(nt dep:Nat)(d:List Item)(st f:St),bI E n rd nt dep d st=some f->bI E (n+1) rd nt dep d st=some f:=by
 intro n
 induction n with
 | zero=>intro rd nt dep d st f h;simp[bI]at h
 | succ n e=>
  intro rd nt dep d st f h
  unfold bI at h ⊢
  split at h
  ·exact h
  ·split at h
   ·exact h
   ·rename_i r
    split at h
    ·exact e _ _ _ _ _ _ h
    ·cases h
  ·split at h
   all_goals try exact h
   all_goals try exact e _ _ _ _ _ _ h
   ·rename_i c a b
    split at h
    ·exact e _ _ _ _ _ _ h
    ·exact e _ _ _ _ _ _ h
    ·cases h
   ·split at h
    ·exact e _ _ _ _ _ _ h
    ·exact h
   ·rename_i ops u
    cases g:kU E (ck E (bI E n)) (dC E (bI E n) dep) nt dep u ops ops.toList st with
    | none=>rw[g]at h;cases h
    | some i=>
     rw[g]at h
     rw[Gj (wM e) (xX e dep) g]
     dsimp only at h ⊢
     split at h
     ·cases h
     ·rename_i j
      rw[if_neg j]
      exact e _ _ _ _ _ _ h
   ·split at h
    ·split at h
     ·rename_i x l g
      rw[xX e dep _ _ _ _ g]
      dsimp only
      split at h
      ·exact e _ _ _ _ _ _ h
      ·exact h
      ·split at h
       ·exact e _ _ _ _ _ _ h
       ·cases h
      ·cases h
     ·cases h
    ·cases h
  all_goals try exact e _ _ _ _ _ _ h
  all_goals cases h
theorem PZ{E:Env}{n m:Nat}(f:n<=m){rd:Option Ref}{nt dep:Nat}{c:List Item}{st d:St}(h:bI E n rd nt dep c st=some d):bI E m rd nt dep c st=some d:=by
 induction f with
 | refl=>exact h
 | step _ e=>exact La _ _ _ _ _ _ _ e
theorem GN{E:Env}{n:Nat}{f:FuncId}{args:List AV}{y:AV}(h:ck E (bI E n) f args=some y):au E f args=some y:=
 rH.2 ⟨n,λ_ c=>wM (λ_ _ _ _ _ _ h=>PZ c h) _ _ _ h⟩
end
section
abbrev aI(n:Int):AV := .v (.int .i64 n)
abbrev aB(b:Bool):AV := .v (.bool b)
def a8(n:UInt8):AV := .v (.int .u8 (n.toNat:Int))
def bc(n:UInt32):AV := .v (.int .u32 (n.toNat:Int))
abbrev aS(s:ByteArray):AV := .v (.string s)
abbrev bF:AV := .v (.slice none 0 0)
theorem TF{q:gl}{K:AV->Prop}{m:Mk K}{v:AV}(c:q=some (v,[]))(h:K v):ew q K m:=⟨v,c,h⟩
theorem tY{w:cb}{K:AV->ab->Prop}{m:Mk K}{v:AV}{H:ab}(c:w=some (v,H))(h:K v H):iq w K m:=⟨v,H,c,h⟩
@[simp] theorem WY(v:AV)(K:AV->Prop)(m:Mk K):ew (some (v,[])) K m↔K v:=
 ⟨λ⟨⟨w,hw,h⟩⟩=>by cases hw;exact h,λh=>⟨v,rfl,h⟩⟩
@[simp] theorem Za(c:Prop)[Decidable c](q:gl)(K:AV->Prop)(m:Mk K):ew (if c then q else none) K m↔c/\ew q K m:=by
 by_cases d:c
 ·simp[d]
 ·simp only[if_neg d,d,false_and,iff_false]
  rintro⟨v,e,_⟩;cases e
@[simp] theorem WX(v:AV)(H:ab)(K:AV->ab->Prop)(m:Mk K):iq (some (v,H)) K m↔K v H:=
 ⟨λ⟨⟨w,_,hw,h⟩⟩=>by cases hw;exact h,λh=>⟨v,H,rfl,h⟩⟩
theorem Kv{x:Option AV}{A B:Prop}{m:Mk (A,B)}:br x A B m↔Zb x A B:=⟨λh=>h.h,λh=>⟨h⟩⟩
@[simp] theorem YI(A B:Prop)(m:Mk (A,B)):br (some (aB true)) A B m↔A:=Kv
@[simp] theorem W3(A B:Prop)(m:Mk (A,B)):br (some (aB false)) A B m↔B:=Kv
theorem td{b:Bool}{A B:Prop}{m:Mk (A,B)}(c:b=true->A)(d:b=false->B):br (some (aB b)) A B m:=by
 cases b
 ·exact⟨d rfl⟩
 ·exact⟨c rfl⟩
@[simp] theorem WK(q:gl)(K:AV->Prop)(m:Mk (q,K)):gQ (aB true) true q K m↔ew q K:=⟨λh=>h.h,λh=>⟨h⟩⟩
@[simp] theorem WN(q:gl)(K:AV->Prop)(m:Mk (q,K)):gQ (aB false) false q K m↔ew q K:=⟨λh=>h.h,λh=>⟨h⟩⟩
@[simp] theorem WL(q:gl)(K:AV->Prop)(m:Mk (q,K)):gQ (aB true) false q K m↔K AV.undef:=⟨λh=>h.h,λh=>⟨h⟩⟩
@[simp] theorem WM(q:gl)(K:AV->Prop)(m:Mk (q,K)):gQ (aB false) true q K m↔K AV.undef:=⟨λh=>h.h,λh=>⟨h⟩⟩
@[simp] theorem Zr(w:Bool)(q:gl)(K:AV->Prop)(m:Mk (q,K)):gQ AV.undef w q K m↔K AV.undef:=⟨λh=>h.h,λh=>⟨h⟩⟩
@[simp] theorem WG(H:ab)(q:cb)(K:AV->ab->Prop)(m:Mk (q,K)):gW (aB true) true H q K m↔iq q K:=⟨λh=>h.h,λh=>⟨h⟩⟩
@[simp] theorem WJ(H:ab)(q:cb)(K:AV->ab->Prop)(m:Mk (q,K)):gW (aB false) false H q K m↔iq q K:=⟨λh=>h.h,λh=>⟨h⟩⟩
@[simp] theorem WH(H:ab)(q:cb)(K:AV->ab->Prop)(m:Mk (q,K)):gW (aB true) false H q K m↔K AV.undef H:=⟨λh=>h.h,λh=>⟨h⟩⟩
@[simp] theorem WI(H:ab)(q:cb)(K:AV->ab->Prop)(m:Mk (q,K)):gW (aB false) true H q K m↔K AV.undef H:=⟨λh=>h.h,λh=>⟨h⟩⟩
@[simp] theorem Zq(w:Bool)(H:ab)(q:cb)(K:AV->ab->Prop)(m:Mk (q,K)):gW AV.undef w H q K m↔K AV.undef H:=⟨λh=>h.h,λh=>⟨h⟩⟩
@[simp] theorem Uk(v:AV):gJ (some v)=some (v,[]):=id rfl
@[simp] theorem UG(H:ab)(r:Ref)(v:AV)(bs:List aJ):jB H r (some (v,bs))=some (v,keyed r 0 bs H):=id rfl
@[simp] theorem zx(H:ab)(r:Ref):jB H r none=none:=id rfl
@[simp] theorem Tc(r:Ref)(k:Nat)(H:ab):keyed r k [] H=H:=id rfl
@[simp] theorem Td(r:Ref)(k:Nat)(b:aJ)(bs:List aJ)(H:ab):keyed r k (b :: bs) H=keyed r (k+1) bs (({ r with k:=k},some b) :: H):=id rfl
@[simp] theorem V6(c:Bool)(x:AV × ab)(b:cb):Aw c (some x) b=some x:=id rfl
@[simp] theorem Co(b:cb):Aw true none b=b:=id rfl
@[simp] theorem SX(a b:Option AV):uD (some (aB true)) a b=gJ a:=id rfl
@[simp] theorem Rx(a b:Option AV):uD (some (aB false)) a b=gJ b:=id rfl
@[simp] theorem Y3(k:IntKind)(n:Int):oi (.v (.int k n))=some (some n):=id rfl
@[simp] theorem U6(cs:List AV):(AV.agg cs).cells=cs:=id rfl
@[simp] theorem Yz(x:Value):(AV.v x).cells=[.v x]:=id rfl
@[simp] theorem YA(x:UInt8):(a8 x).cells=[a8 x]:=id rfl
@[simp] theorem W0(x:UInt32):(bc x).cells=[bc x]:=id rfl
@[simp] theorem U5(z:Nat)(es:List AV)(c:Option Nat):(AV.bl z es c).cells=[.bl z es c]:=id rfl
@[simp] theorem U4(r:Ref)(o n:Nat)(c:Option Nat):(AV.bD r o n c).cells=[.bD r o n c]:=id rfl
@[simp] theorem WZ(f:Fn)(a b:List AV):(AV.fn f a b).cells=[.fn f a b]:=id rfl
@[simp] theorem Yb(k:IntKind)(n:Int):(AV.v (.int k n)).one=true:=id rfl
@[simp] theorem V7(b:Bool):(AV.v (.bool b)).one=true:=id rfl
@[simp] theorem X9:bF.one=true:=id rfl
@[simp] theorem Zl(x:UInt8):(a8 x).one=true:=id rfl
@[simp] theorem Y0(x:UInt32):(bc x).one=true:=id rfl
@[simp] theorem Ya(z:Nat)(es:List AV)(c:Option Nat):(AV.bl z es c).one=true:=id rfl
@[simp] theorem X8(r:Ref)(o n:Nat)(c:Option Nat):(AV.bD r o n c).one=true:=id rfl
section
variable(P:Program)(t:TypeId)(C D:Operand)(k:IntKind)(a b:Int)
@[simp] theorem NC:bK P .lss t C D (some (.v (.int k a))) (some (.v (.int k b)))=some (aB (decide (a<b)),[]):=by cases k<;>rfl
@[simp] theorem ND:bK P .leq t C D (some (.v (.int k a))) (some (.v (.int k b)))=some (aB (decide (a<=b)),[]):=by cases k<;>rfl
@[simp] theorem NF:bK P .gtr t C D (some (.v (.int k a))) (some (.v (.int k b)))=some (aB (decide (b<a)),[]):=by cases k<;>rfl
@[simp] theorem NG:bK P .geq t C D (some (.v (.int k a))) (some (.v (.int k b)))=some (aB (decide (b<=a)),[]):=by cases k<;>rfl
@[simp] theorem NH:bK P .eql t C D (some (.v (.int k a))) (some (.v (.int k b)))=some (aB (decide (a=b)),[]):=by
 have:(a == b)=decide (a=b):=by by_cases h:a=b<;>simp[h]
 rw[<-this];cases k<;>rfl
@[simp] theorem V0:bK P .neq t C D (some (.v (.int k a))) (some (.v (.int k b)))=some (aB (!decide (a=b)),[]):=by
 have:(a != b) = !decide (a=b):=by by_cases h:a=b<;>simp[h]
 rw[<-this];cases k<;>rfl
@[simp] theorem V2:bK P .add t C D (some (.v (.int k a))) (some (.v (.int k b)))=some (.v (.int k (k.wrap (a+b))),[]):=by cases k<;>rfl
@[simp] theorem VZ:bK P .sub t C D (some (.v (.int k a))) (some (.v (.int k b)))=some (.v (.int k (k.wrap (a - b))),[]):=by cases k<;>rfl
@[simp] theorem V1:bK P .mul t C D (some (.v (.int k a))) (some (.v (.int k b)))=some (.v (.int k (k.wrap (a * b))),[]):=by cases k<;>rfl
theorem nH(c:b≠0):bK P .quo t C D (some (.v (.int k a))) (some (.v (.int k b)))=some (.v (.int k (k.wrap (a.tdiv b))),[]):=by
 have h:Op.intDiv .quo k a b=pure (.int k (k.wrap (a.tdiv b))):=by unfold Op.intDiv;rw[if_neg c]
 have d:rB P .quo t C D (.int k a) (.int k b)=some (.int k (k.wrap (a.tdiv b))):=by
  have:rB P .quo t C D (.int k a) (.int k b)=aV P (Op.intDiv .quo k a b):=by cases k<;>rfl
  rw[this,h];rfl
 simp only[bK,Az,jo,iy,d,rl,uZ,gH,if_false,dF,fG,scalar,if_true,gJ,Option.map_some]
theorem mC(c:b≠0):bK P .rem t C D (some (.v (.int k a))) (some (.v (.int k b)))=some (.v (.int k (a.tmod b)),[]):=by
 have h:Op.intDiv .rem k a b=pure (.int k (a.tmod b)):=by unfold Op.intDiv;rw[if_neg c]
 have d:rB P .rem t C D (.int k a) (.int k b)=some (.int k (a.tmod b)):=by
  have:rB P .rem t C D (.int k a) (.int k b)=aV P (Op.intDiv .rem k a b):=by cases k<;>rfl
  rw[this,h];rfl
 simp only[bK,Az,jo,iy,d,rl,uZ,gH,if_false,dF,fG,scalar,if_true,gJ,Option.map_some]
theorem yf{c:IntKind}(e:0<=b):bK P .shl t C D (some (.v (.int k a))) (some (.v (.int c b)))=some (.v (.int k (k.wrap (a * 2 ^ min b.toNat k.bits))),[]):=by
 have h:Op.shift .shl k a c b=pure (.int k (k.wrap (a * 2 ^ min b.toNat k.bits))):=by unfold Op.shift;rw[if_neg (by omega)]
 have d:rB P .shl t C D (.int k a) (.int c b)=some (.int k (k.wrap (a * 2 ^ min b.toNat k.bits))):=by
  have:rB P .shl t C D (.int k a) (.int c b)=aV P (Op.shift .shl k a c b):=rfl
  rw[this,h];rfl
 simp only[bK,Az,jo,iy,d,rl,uZ,gH,if_false,dF,fG,scalar,if_true,gJ,Option.map_some]
theorem dq{c:IntKind}(e:0<=b):bK P .shr t C D (some (.v (.int k a))) (some (.v (.int c b)))=some (.v (.int k (a.fdiv (2 ^ min b.toNat k.bits))),[]):=by
 have h:Op.shift .shr k a c b=pure (.int k (a.fdiv (2 ^ min b.toNat k.bits))):=by unfold Op.shift;rw[if_neg (by omega)]
 have d:rB P .shr t C D (.int k a) (.int c b)=some (.int k (a.fdiv (2 ^ min b.toNat k.bits))):=by
  have:rB P .shr t C D (.int k a) (.int c b)=aV P (Op.shift .shr k a c b):=rfl
  rw[this,h];rfl
 simp only[bK,Az,jo,iy,d,rl,uZ,gH,if_false,dF,fG,scalar,if_true,gJ,Option.map_some]
@[simp] theorem XY(b:Bool):Ru P .not (some (aB b))=some (aB (!b),[]):=id rfl
def u8(n:Int):UInt8:=UInt8.ofBitVec (BitVec.ofInt 8 n)
def u32(n:Int):UInt32:=UInt32.ofBitVec (BitVec.ofInt 32 n)
@[simp] theorem U9(n:Int):IntKind.u8.wrap n=((u8 n).toNat:Int):=by
 unfold u8;rw[IntKind.wrap_u8,UInt8.toNat_ofBitVec,Bb];omega
@[simp] theorem AD(n:Int):IntKind.u32.wrap n=((u32 n).toNat:Int):=by
 unfold u32;rw[IntKind.wrap_u32,UInt32.toNat_ofBitVec,Bb];omega
theorem mZ(n:Int):(u8 n).toNat=(n % 256).toNat:=by
 unfold u8;rw[UInt8.toNat_ofBitVec,Bb];rfl
theorem qB(n:Int):(u32 n).toNat=(n % 4294967296).toNat:=by
 unfold u32;rw[UInt32.toNat_ofBitVec,Bb];rfl
@[simp] theorem YS(x:UInt8):u8 (x.toNat:Int)=x:=by apply uo.1;rw[mZ];have:=x.toNat_lt;omega
@[simp] theorem Pu(x:UInt32):u32 (x.toNat:Int)=x:=by apply HE.1;rw[qB];have:=x.toNat_lt;omega
@[simp] theorem Mz(x:UInt8):u32 (x.toNat:Int)=x.toUInt32:=by apply HE.1;rw[qB,UInt8.toNat_toUInt32];have:=x.toNat_lt;omega
@[simp] theorem Vf(x:UInt32):u8 (x.toNat:Int)=x.toUInt8:=by apply uo.1;rw[mZ,UInt32.toNat_toUInt8];omega
@[simp] theorem YT(n:Nat):u8 (no_index (OfNat.ofNat n))=OfNat.ofNat n:=by
 apply uo.1
 rw[mZ,show(OfNat.ofNat n:UInt8)=UInt8.ofNat n from rfl,UInt8.toNat_ofNat',show(OfNat.ofNat n:Int)=(n:Int) from rfl]
 omega
@[simp] theorem WB(x:UInt8):IntKind.i64.wrap (x.toNat:Int)=x.toNat:=by have:=x.toNat_lt;exact IntWalk.i64_in _ (by omega)
@[simp] theorem Tp(x:UInt32):IntKind.i64.wrap (x.toNat:Int)=x.toNat:=by have:=x.toNat_lt;exact IntWalk.i64_in _ (by omega)
theorem TQ(v:BitVec 32):IntKind.u32.wrap (v.toNat:Int)=((UInt32.ofBitVec v).toNat:Int):=by
 rw[AD];unfold u32;congr 3;apply BitVec.eq_of_toNat_eq;rw[Bb];have:=v.isLt;omega
theorem TN(d:BinOp)(f:BitVec 32->BitVec 32->BitVec 32)(g:UInt32->UInt32->UInt32)(e : ∀x y,g x y=UInt32.ofBitVec (f x.toBitVec y.toBitVec))(c : ∀x y:Int,bK P d t C D (some (.v (.int .u32 x))) (some (.v (.int .u32 y)))=some (.v (.int .u32 (IntKind.u32.wrap ((f (BitVec.ofInt 32 x) (BitVec.ofInt 32 y)).toNat:Int))),[])) :
 bK P d t C D (some (.v (.int .u32 a))) (some (.v (.int .u32 b)))=some (bc (g (u32 a) (u32 b)),[]):=by
 rw[c,TQ,e];rfl
section
variable(x y:UInt8)
@[simp] theorem Uq:bK P .lss t C D (some (a8 x)) (some (a8 y))=some (aB (decide (x<y)),[]):=by
 unfold a8;rw[NC];congr 4;rw[UInt8.lt_iff_toNat_lt];all_goals exact propext (by omega)
@[simp] theorem Ur:bK P .leq t C D (some (a8 x)) (some (a8 y))=some (aB (decide (x<=y)),[]):=by
 unfold a8;rw[ND];congr 4;rw[UInt8.le_iff_toNat_le];all_goals exact propext (by omega)
@[simp] theorem Us:bK P .gtr t C D (some (a8 x)) (some (a8 y))=some (aB (decide (y<x)),[]):=by
 unfold a8;rw[NF];congr 4;rw[UInt8.lt_iff_toNat_lt];all_goals exact propext (by omega)
@[simp] theorem Ut:bK P .geq t C D (some (a8 x)) (some (a8 y))=some (aB (decide (y<=x)),[]):=by
 unfold a8;rw[NG];congr 4;rw[UInt8.le_iff_toNat_le];all_goals exact propext (by omega)
@[simp] theorem Uu:bK P .eql t C D (some (a8 x)) (some (a8 y))=some (aB (decide (x=y)),[]):=by
 unfold a8;rw[NH];congr 4;rw[<-uo];all_goals exact propext (by omega)
end
section
variable(x y:UInt32)
@[simp] theorem Up:bK P .or t C D (some (bc x)) (some (bc y))=some (bc (x ||| y),[]):=by
 unfold bc;rw[TN P t C D _ _ .or (· ||| ·) (· ||| ·) (λ_ _=>rfl) (λ_ _=>rfl)];simp only[Pu];rfl
end
@[simp] theorem SQ{d:IntKind}(x:UInt32)(c:0<=b/\b<32):bK P .shl t C D (some (bc x)) (some (.v (.int d b)))=some (bc (x <<< UInt32.ofNat b.toNat),[]):=by
 unfold bc
 rw[yf P t C D .u32 _ b c.1,AD]
 congr 5
 have f:min b.toNat IntKind.u32.bits=b.toNat:=by show min b.toNat 32=_;omega
 have g:=x.toNat_lt
 rw[f,qB,ED,UInt32.toNat_ofNat',Ev]
 have e:b.toNat % 2 ^ 32 % 32=b.toNat:=by omega
 rw[e]
 have:((x.toNat:Int) * 2 ^ b.toNat)=((x.toNat * 2 ^ b.toNat:Nat):Int):=by push_cast;rfl
 rw[this]
 omega
theorem lA{P:Program}{t:TypeId}{d:TypeDesc}(h:P.underlying t=some d):aV P (Go.underlying t)=some d:=by
 unfold Go.underlying
 rw[bq]
 show(some P).bind _=_
 rw[dF,h]
 rfl
def intKind(P:Program)(t:TypeId):Option IntKind:=match P.underlying t with | some (.int k)=>some k | _=>none
theorem yy{P:Program}{t:TypeId}{k:IntKind}(h:intKind P t=some k):P.underlying t=some (.int k):=by
 unfold intKind at h
 split at h
 ·cases h;assumption
 ·cases h
theorem na{g:cf}{r:Ref}{src dst:TypeId}{k':IntKind}(c:(P.underlying src).isNone=false)(e:intKind P dst=some k)(n:Int) :
 bC P g r src dst (some (.v (.int k' n)))=some (.v (.int k (k.wrap n)),[]):=by
 have e:=yy e
 obtain⟨d,c⟩ : ∃d,P.underlying src=some d:=by cases h:P.underlying src with | none=>rw[h]at c;cases c | some d=>exact⟨d,rfl⟩
 have:aV P (Go.convert src dst (.int k' n))=some (.int k (k.wrap n)):=by
  unfold Go.convert
  rw[bq,lA c,dF,bq,lA e,dF]
  cases d<;>rfl
 simp only[bC,this,dF,fG,scalar,if_true,gJ,Option.map_some]
@[simp] theorem SN{g:cf}{r:Ref}{src dst:TypeId}(c:(P.underlying src).isNone=false)(d:intKind P dst=some .u32)(x:UInt8) :
 bC P g r src dst (some (a8 x))=some (bc x.toUInt32,[]):=by
 unfold a8 bc;rw[na P .u32 c d,AD,Mz]
@[simp] theorem Uo{g:cf}{r:Ref}{src dst:TypeId}(c:(P.underlying src).isNone=false)(d:intKind P dst=some .i64)(x:UInt8) :
 bC P g r src dst (some (a8 x))=some (aI x.toNat,[]):=by
 unfold a8;rw[na P .i64 c d,WB]
@[simp] theorem SO{g:cf}{r:Ref}{src dst:TypeId}(c:(P.underlying src).isNone=false)(d:intKind P dst=some .i64)(x:UInt32) :
 bC P g r src dst (some (bc x))=some (aI x.toNat,[]):=by
 unfold bc;rw[na P .i64 c d,Tp]
@[simp] theorem Un{g:cf}{r:Ref}{src dst:TypeId}{k':IntKind}(c:(P.underlying src).isNone=false)(d:intKind P dst=some .u8)(n:Int) :
 bC P g r src dst (some (.v (.int k' n)))=some (a8 (u8 n),[]):=by
 unfold a8;rw[na P .u8 c d,U9]
@[simp] theorem SM{g:cf}{r:Ref}{src dst:TypeId}{k':IntKind}(c:(P.underlying src).isNone=false)(d:intKind P dst=some .u32)(n:Int) :
 bC P g r src dst (some (.v (.int k' n)))=some (bc (u32 n),[]):=by
 unfold bc;rw[na P .u32 c d,AD]
@[simp] theorem Um{g:cf}{r:Ref}{src dst:TypeId}{k':IntKind}(c:(P.underlying src).isNone=false)(d:intKind P dst=some .i64)(n:Int) :
 bC P g r src dst (some (.v (.int k' n)))=some (aI (IntKind.i64.wrap n),[]):=na P .i64 c d n
end
def al(l:List UInt8):List AV:=l.map a8
@[simp] theorem fY(l:List UInt8):(al l).length=l.length:=by simp[al]
@[simp] theorem YC:al []=[]:=id rfl
theorem Nx(P:Program)(d:Bool)(g:cf)(r:Ref)(t:TypeId)(e:List TypeId)(x:AV)(c : ∀r',x ≠ .mp r'):cW P d g r .len ⟨t :: e⟩ [x]=De P (some t) x:=by
 unfold cW
 cases x<;>first | rfl | (rename_i q;exact(c q rfl).elim)
@[simp] theorem XZ(P:Program)(d:Bool)(g:cf)(r:Ref)(t:TypeId)(c:List TypeId)(x:AV)(f:(pr x).isSome=true):cW P d g r .len ⟨t :: c⟩ [x]=De P (some t) x:=by
 refine Nx P d g r t c x λr' e=>?_
 subst e;cases f
@[simp] theorem UI:pr bF=some 0:=id rfl
@[simp] theorem UJ(n:Nat)(es:List AV)(c:Option Nat):pr (.bl n es c)=some es.length:=id rfl
@[simp] theorem UH(r:Ref)(o n:Nat)(c:Option Nat):pr (.bD r o n c)=some n:=id rfl
@[simp] theorem SI{P:Program}{t:TypeId}(e:mi P t=none)(c:isStr P t=false)(d:(dV P t).isSome=true)(x:AV):De P (some t) x=(pr x).map λn=>(aI n,[]):=by
 simp only[De,e,c,d];rfl
theorem He{P:Program}{t:TypeId}{z:Nat}(h:(dV P t).bind (av P)=some z) : ∃e,dV P t=some e/\av P e=some z:=by
 simpa [fD] using h
@[simp] theorem Cj{P:Program}{t:TypeId}{z:Nat}(h:(dV P t).bind (av P)=some z)(g:cf)(es:List AV)(c:Option Nat)(f:IntKind)(k:Int) :
 bE P g t (some (.bl z es c)) (some (.v (.int f k)))=if 0<=k/\k<es.length then some (.iptr z es k.toNat 0,[]) else none:=by
 obtain⟨e,he,d⟩:=He h
 simp only[bE,dF,qK,he,d,and_true]
@[simp] theorem SH{P:Program}{t:TypeId}(d:(eA P t).isSome=true)(c:(av P t).isSome=true)(g:cf)(z:Nat)(es:List AV)(i j:Nat) :
 lz P g t (some (.iptr z es i j))=gJ (cG es i j ((av P t).getD 0) ((eA P t).getD false)):=by
 obtain⟨a,d⟩:=fO.1 d
 obtain⟨n,c⟩:=fO.1 c
 simp only[lz,d,c,bO]
def N3(x:Option aJ)(i j n:Nat)(c:Bool):gl:=match x with
 | some b=>gJ (cG b.es i j n c)
 | none=>none
@[simp] theorem Ta(b:aJ)(i j n:Nat)(c:Bool):N3 (some b) i j n c=gJ (cG b.es i j n c):=id rfl
@[simp] theorem Ul{P:Program}{t:TypeId}(d:(eA P t).isSome=true)(c:(av P t).isSome=true)(g:cf)(r:Ref)(i j:Nat) :
 lz P g t (some (.ptr r i j))=N3 (g r) i j ((av P t).getD 0) ((eA P t).getD false):=by
 obtain⟨a,d⟩:=fO.1 d
 obtain⟨n,c⟩:=fO.1 c
 simp only[lz,d,c,bO]
 rfl
@[simp] theorem Md(e:AV)(es:List AV)(j n:Nat):cG (e :: es) 0 j n true=if j+n<=e.cells.length/\0<n then some (.agg ((e.cells.drop j).take n)) else none:=id rfl
@[simp] theorem Mc(e:AV)(es:List AV)(j n:Nat):cG (e :: es) 0 j n false=e.cells[j]?:=id rfl
@[simp] theorem SD(l:List UInt8)(i n:Nat):cG (al l) i 0 n false=(l[i]?).map a8:=by
 unfold cG al
 rw[kJ]
 cases l[i]?<;>rfl
def Sl(z:Nat)(es:List AV)(x:AV):Prop:=(x=bF/\es=[]) \/∃c,x = .bl z es c/\es.length<=c.getD es.length
theorem Sl.mk(z:Nat)(es:List AV):Sl z es (.bl z es none) := .inr ⟨none,rfl,aW _⟩
theorem Sl.len{z:Nat}{es:List AV}{x:AV}(h:Sl z es x):pr x=some es.length:=by
 rcases h with ⟨rfl,rfl⟩ | ⟨c,rfl,_⟩<;>rfl
theorem Sl.bl{z:Nat}{es:List AV}{x:AV}(h:Sl z es x){i:Nat}(hi:i<es.length) : ∃c,x = .bl z es c/\es.length<=c.getD es.length:=by
 rcases h with ⟨rfl,rfl⟩ | h
 ·simp at hi
 ·exact h
theorem Sl.view{z:Nat}{es:List AV}{x:AV}(h:Sl z es x)(g:cf)(n:Nat):view g (n+1) x=some x:=by
 rcases h with ⟨rfl,rfl⟩ | ⟨c,rfl,_⟩<;>rfl
theorem Sl.refs{z:Nat}{es:List AV}{x:AV}(h:Sl z es x)(g:cf)(n:Nat):ad g n x=[]:=by
 rcases h with ⟨rfl,rfl⟩ | ⟨c,rfl,_⟩<;>cases n<;>rfl
theorem Sl.imp{z:Nat}{es:List AV}{x:AV}(h:Sl z es x)(r:Ref)(n:Nat):af r n x []=(x,[]):=by
 rcases h with ⟨rfl,rfl⟩ | ⟨c,rfl,_⟩<;>cases n<;>rfl
theorem Sl.cells{z:Nat}{es:List AV}{x:AV}(h:Sl z es x):x.cells=[x]/\x.one=true:=by
 rcases h with ⟨rfl,_⟩ | ⟨c,rfl,_⟩<;>exact⟨rfl,rfl⟩
@[simp] theorem YN(g:cf)(n:Nat)(x:Value):view g (n+1) (.v x)=some (.v x):=id rfl
@[simp] theorem YO(g:cf)(n:Nat)(x:UInt8):view g (n+1) (a8 x)=some (a8 x):=id rfl
@[simp] theorem Xg(g:cf)(n:Nat)(x:UInt32):view g (n+1) (bc x)=some (bc x):=id rfl
@[simp] theorem Vb(g:cf)(n z:Nat)(es:List AV)(c:Option Nat):view g (n+1) (.bl z es c)=some (.bl z es c):=id rfl
@[simp] theorem Vc(g:cf)(n:Nat)(cs:List AV):view g (n+1) (.agg cs)=(cs.mapM (view g n)).map .agg:=id rfl
@[simp] theorem Va(g:cf)(n:Nat)(cs:List AV):view g (n+1) (.tup cs)=(cs.mapM (view g n)).map .tup:=id rfl
@[simp] theorem T4(g:cf)(n z:Nat)(es:List AV)(i j:Nat):view g (n+1) (.iptr z es i j)=some (.iptr z es i j):=id rfl
theorem F1{g:cf}{r:Ref}{b:aJ}(d:g r=some b)(n o l:Nat)(c:Option Nat):view g (n+1) (.bD r o l c)=if b.arr=true/\o+l<=b.es.length then some (.bl b.esz ((b.es.drop o).take l) c) else none:=by
 simp only[view,d]
theorem bn:depth=8:=Nat.le_antisymm (aW 8) (aW 8)
end
section
@[simp] theorem ab.jr(r q:Ref)(b:Option aJ)(H:ab):ab.get ((r,b) :: H) q=if r=q then b else ab.get H q:=id rfl
@[simp] theorem ab.get_nil(q:Ref):ab.get [] q=none:=id rfl
attribute [simp] ab.aj
@[simp] theorem X0(P:Program)(r:Ref)(e:TypeId)(x:AV)(c:0<(av P e).getD 0):E5 P r e (some x)=if some x.cells.length=av P e/\x.cells.all AV.one=true then some (.ptr r 0 0,[⟨(av P e).getD 0,[x],false,false⟩]) else none:=by
 unfold E5
 cases h:av P e with
 | none=>simp
 | some n=>rw[h]at c;simp only[bO]at c;simp[c]
def Fr(H:ab):Prop :=∀d t g k,H.gen d t<=g->H.get ⟨d,t,g,k⟩=none
theorem Fr.nil:Fr []:=λ_ _ _ _ _=>rfl
theorem Fr.keyed{H:ab}(h:Fr H)(bs:List aJ)(d t:Nat):Fr (Ab.keyed ⟨d,t,H.gen d t,0⟩ 0 bs H):=by
 intro j t' g k c
 rw[ab.jV]at c
 rw[ab.vX]
 by_cases i:bs=[]
 ·subst i
  rw[if_neg (by simp)]at c
  simp[h _ _ _ _ c]
 ·by_cases f:j=d/\t'=t
  ·obtain⟨rfl,rfl⟩:=f
   rw[if_pos ⟨rfl,rfl,i⟩]at c
   dsimp only at c ⊢
   rw[if_neg (by intro e;have:=e.2.2.1;omega)]
   exact h _ _ _ _ (by omega)
  ·rw[if_neg (by intro e;exact f ⟨e.1,e.2.1⟩)]at c
   dsimp only at c ⊢
   rw[if_neg (by intro e;exact f ⟨e.1,e.2.1⟩)]
   exact h _ _ _ _ c
theorem Fr.put{H:ab}(h:Fr H){r:Ref}(b:Option aJ)(f:(H.get r).isSome=true):Fr (H.put r b):=by
 intro d t g k c
 rw[ab.fp H r b f]at c
 rw[ab.aj]
 split
 ·rename_i e
  subst e
  rw[h _ _ _ _ c]at f
  cases f
 ·exact h _ _ _ _ c
theorem Fr.cons{H:ab}(h:Fr H)(d t:Nat)(b:Option aJ):Fr ((⟨d,t,H.gen d t,0⟩,b) :: H):=by
 intro l t' g k c
 simp only[ab.gen]at c
 rw[ab.jr]
 split at c
 ·rename_i e
  obtain⟨rfl,rfl⟩:=e
  rw[if_neg (by intro e;injection e;omega)]
  exact h _ _ _ _ (by omega)
 ·rename_i e
  rw[if_neg (by intro i;injection i with j f;exact e ⟨j,f⟩)]
  exact h _ _ _ _ c
theorem mO{H:ab}(c:Fr H){q:Ref}(h:(H.get q).isSome=true)(d t k:Nat):(⟨d,t,H.gen d t,k⟩:Ref)≠q:=by
 intro e;subst e;rw[c _ _ _ _ (aW _)]at h;cases h
def Pf(P:Program)(t z by':Nat):Bool:=match dV P t with
 | some e=>av P e == some z&&ly P e == some by'&&(match ei P e with | some zz=>zz.cells.length == z&&zz.cells.all AV.one | none=>false)&&z != 0&&by' != 0
 | none=>false
def FH(P:Program)(t:TypeId):Bool:=(P.underlying t).isSome && !isInt P t
theorem gk{P:Program}{t z by':Nat}(h:Pf P t z by'=true) : ∃e zz,dV P t=some e/\av P e=some z/\ly P e=some by'/\ei P e=some zz/\zz.cells.length=z/\zz.cells.all AV.one=true/\z≠0/\by'≠0:=by
 unfold Pf at h
 split at h
 ·rename_i e l
  simp only[aY,beq_iff_eq,bne_iff_ne]at h
  obtain⟨⟨⟨⟨j,i⟩,c⟩,g⟩,d⟩:=h
  split at c
  ·rename_i zz f
   simp only[aY,beq_iff_eq]at c
   exact⟨e,zz,l,j,i,f,c.1,c.2,g,d⟩
  ·cases c
 ·cases h
def KD(g:cf)(z:Nat)(new:List AV)(x:AV):Prop:=(x=bF/\new=[])\/(isNum x=false/\x≠bF/\bW g x=some (z,new))
theorem KD.kn{P:Program}{t z by':Nat}(h:Pf P t z by'=true){e:TypeId}(l:dV P t=some e){g:cf}{new:List AV}{x:AV}(c:KD g z new x):kn P g e x=some (z,new):=by
 obtain⟨n,zz,f,j,m,w,v,A,q,p⟩:=gk h
 rw[l]at f;cases f
 rcases c with ⟨rfl,rfl⟩ | ⟨i,d,c⟩
 ·simp only[Ab.kn,j,Option.map_some]
 ·unfold Ab.kn
  split
  ·exact(d rfl).elim
  ·simp[isNum]at i
  ·exact c
theorem KD.num{g:cf}{z:Nat}{new:List AV}{x:AV}(c:KD g z new x):isNum x=false:=by
 rcases c with ⟨rfl,_⟩ | ⟨d,_⟩
 ·rfl
 ·exact d
theorem Sl.C4{z:Nat}{es:List AV}{x:AV}(h:Sl z es x)(g:cf):KD g z es x:=by
 rcases h with ⟨rfl,rfl⟩ | ⟨c,rfl,_⟩
 ·exact .inl ⟨rfl,rfl⟩
 ·exact .inr ⟨rfl,(by intro e;cases e),rfl⟩
def yW(z:Nat)(es:List AV)(H:ab)(x:AV):Prop:=(x=bF/\es=[]) \/∃r,x = .bD r 0 es.length none/\H.get r=some ⟨z,es,true,false⟩
theorem AJ(z:Nat)(H:ab):yW z [] H bF := .inl ⟨rfl,rfl⟩
theorem yW.len{z:Nat}{es:List AV}{H:ab}{x:AV}(h:yW z es H x):pr x=some es.length:=by
 rcases h with ⟨rfl,rfl⟩ | ⟨r,rfl,_⟩<;>rfl
theorem yW.view{z:Nat}{es:List AV}{H:ab}{x:AV}(h:yW z es H x)(n:Nat) : ∃y,view H.get (n+1) x=some y/\Sl z es y:=by
 rcases h with ⟨rfl,rfl⟩ | ⟨r,rfl,c⟩
 ·exact⟨bF,rfl,.inl ⟨rfl,rfl⟩⟩
 ·refine⟨.bl z es none,?_,Sl.mk z es⟩
  rw[F1 c]
  simp
theorem yW.C4{z:Nat}{es:List AV}{H:ab}{x:AV}(h:yW z es H x):KD H.get z es x:=by
 rcases h with ⟨rfl,rfl⟩ | ⟨r,rfl,c⟩
 ·exact .inl ⟨rfl,rfl⟩
 ·refine .inr ⟨rfl,(by intro e;cases e),?_⟩
  simp[bW,c]
def AV.at?:AV->Option Ref
 | .bD r _ _ _=>some r
 | .ptr r _ _=>some r
 | _=>none
theorem QU{P:Program}{t t' z by':Nat}(W:Pf P t z by'=true)(w:FH P t'=true){H:ab}{r:Ref}{es new:List AV}{s x:AV}(Z:yW z es H s)(L:KD H.get z new x)
 (S:(es.length+new.length) * by'<=aX) (n:Fr H) (Y : ∃d t,r=⟨d,t,H.gen d t,0⟩) :
 ∃O K,cS P true H r (some t) (some t') s x=some (O,K)/\yW z (es++new) K O/\Fr K /\∀q b,H.get q=some b->s.at?≠some q->K.get q=some b/\O.at?≠some q:=by
 obtain⟨e,zz,p,A,B,I,X,h6,V,T⟩:=gk W
 have c:=L.kn W p
 unfold FH at w
 simp only[aY,gE]at w
 have N:(P.underlying t').isNone=false:=by cases h:P.underlying t' with | none=>rw[h]at w;simp at w | some d=>rfl
 have F : ¬((P.underlying t').isNone=true\/isInt P t'≠isNum x):=by
  rw[N,w.2,L.num];simp
 have M : ¬(z≠z\/z=0\/by'=0\/zz.cells.length≠z):=by simp[X,V,T]
 obtain⟨l,j,rfl⟩:=Y
 rcases Z with ⟨rfl,rfl⟩ | ⟨q,rfl,g⟩
 ·
  by_cases m:new=[]
  ·subst m
   refine⟨bF,H,?_,AJ z H,n,λq b g _=>⟨g,by simp[AV.at?]⟩⟩
   simp only[cS,dy,dF,p,Option.map_some,bO,if_neg F,A,B,I,c,if_neg M,if_true]
   rfl
  ·refine⟨.bD ⟨l,j,H.gen l j,0⟩ 0 new.length none,(⟨l,j,H.gen l j,0⟩,some ⟨z,new,true,false⟩) :: H,?_,.inr ⟨⟨l,j,H.gen l j,0⟩,by simp,by simp⟩,n.cons l j _,λq b g _=>?_⟩
   ·simp only[lV,qx]at S
    simp only[cS,dy,dF,p,Option.map_some,bO,if_neg F,A,B,I,c,if_neg M,if_neg m,if_pos S]
    rfl
   ·have f:=mO n (q:=q) (by rw[g];rfl) l j 0
    rw[ab.jr,if_neg f]
    exact⟨g,by intro e;simp only[AV.at?,dc]at e;exact f e⟩
 ·by_cases m:new=[]
  ·subst m
   refine⟨.bD q 0 es.length none,H,?_,.inr ⟨q,by simp,by simpa using g⟩,n,λq b g f=>⟨g,f⟩⟩
   simp only[cS,dy,dF,p,Option.map_some,bO,if_neg F,A,B,I,c,if_neg M,g,if_true]
   simp
  ·have Q : ¬(z≠z\/z=0\/by'=0\/new=[]\/zz.cells.length≠z):=by simp[X,V,T,m]
   have G:(H.get q).isSome=true:=by rw[g];rfl
   have J:H.gen q.d q.t=(H.put q none).gen q.d q.t:=(ab.fp H q none G _ _).symm
   refine⟨.bD ⟨q.d,q.t,H.gen q.d q.t,0⟩ 0 (es.length+new.length) none,(⟨q.d,q.t,H.gen q.d q.t,0⟩,some ⟨z,es++new,true,false⟩) :: H.put q none,?_,.inr ⟨⟨q.d,q.t,H.gen q.d q.t,0⟩,by simp,by simp⟩,?_,λU b v f=>?_⟩
   ·have R:dy P H.get ⟨l,j,H.gen l j,0⟩ (some t) (some t') (.bD q 0 es.length none) x=none:=by
     simp only[dy,dF,p,Option.map_some,bO,if_neg F,A,B,I,c,if_neg M,g,if_neg m]
     simp
    simp only[cS,R,zx,Co]
    simp only[gT,dF,p,Option.map_some,bO,if_neg F,A,B,I,c,if_neg Q,g,S,and_self,if_true,true_and]
   ·rw[J]
    exact(n.put none G).cons _ _ _
   ·have L:U≠q:=by intro e;subst e;exact f rfl
    have i:=mO n (q:=U) (by rw[v];rfl) q.d q.t 0
    rw[ab.jr,if_neg i,ab.aj,if_neg L]
    exact⟨v,by intro e;simp only[AV.at?,dc]at e;exact i e⟩
theorem yW.bD{z:Nat}{es:List AV}{H:ab}{x:AV}(h:yW z es H x)(c:es≠[]) : ∃r,x = .bD r 0 es.length none/\H.get r=some ⟨z,es,true,false⟩:=by
 rcases h with ⟨_,rfl⟩ | h
 ·exact(c rfl).elim
 ·exact h
end
end Go.Ab
