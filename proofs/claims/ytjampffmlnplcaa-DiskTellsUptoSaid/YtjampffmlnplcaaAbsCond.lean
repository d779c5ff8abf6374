/-
  What is to be shown for a run of the abstract machine, as one proposition that is computed from the code. No statement of a seat is proved here.
-/
import Derived.IntWalk
import Derived.Test.YtjampffmlnplcaaAbsEnv
set_option linter.unusedVariables false
set_option linter.unusedSimpArgs false
set_option linter.unusedSectionVars false
set_option linter.unnecessarySimpa false
namespace Go.Ab
section
abbrev bU:=Nat->AV
def a9(s:bU):Operand->Option AV
 | .tmp t=>some (s t)
 | .const v=>ofValue v
 | .func f=>some (.fn (.func f) [] [])
 | .global _=>none
def oE(c:Operand->Option AV):List Operand->Option (List AV)
 | []=>some []
 | o :: os=>match c o,oE c os with
  | some x,some xs=>some (x :: xs)
  | _,_=>none
def oR(c:Operand->Option AV):List (Nat × Operand)->Option (List (Nat × AV))
 | []=>some []
 | (i,o) :: os=>match c o,oR c os with
  | some x,some xs=>some ((i,x) :: xs)
  | _,_=>none
def xh(c:Operand->Option AV):Option Operand->Option (Option Int)
 | none=>some none
 | some o=>match (c o).bind kT with
  | some n=>some (some n)
  | none=>none
def Hn(s:bU)(d:Nat)(v:AV):bU:=λi=>cond (Nat.beq i d) v (s i)
def b9(tm:List AV)(s:bU):Prop :=∀i,cm tm i=s i
theorem mm{tm:List AV}{s:bU}(h:b9 tm s):ak tm=a9 s:=by
 funext o;cases o<;>simp[ak,a9,h _]
theorem pA(c:Operand->Option AV)(l:List Operand):l.mapM c=oE c l:=by
 induction l with
 | nil=>rfl
 | cons o l d=>
  simp only[jQ,d,oE,lh,lV]
  cases c o<;>cases oE c l<;>rfl
theorem p5{tm:List AV}{s:bU}(h:b9 tm s)(l:List (Nat × Operand)):cX tm l=oR (a9 s) l:=by
 induction l with
 | nil=>rfl
 | cons o l c=>
  obtain⟨i,o⟩:=o
  unfold cX at c ⊢
  rw[jQ,c]
  simp only[oR,lh,lV,mm h]
  cases a9 s o<;>cases oR (a9 s) l<;>rfl
theorem vE{tm:List AV}{s:bU}(h:b9 tm s)(o:Option Operand):fH tm o=xh (a9 s) o:=by
 cases o with
 | none=>rfl
 | some o=>simp only[fH,xh,mm h];rfl
theorem b9.set{tm:List AV}{s:bU}(h:b9 tm s)(d:Nat)(v:AV):b9 (qH tm d v) (Hn s d v):=by
 intro i
 rw[nL]
 unfold Hn
 split
 ·rename_i e;subst e;simp
 ·rename_i e;rw[show Nat.beq i d=false from by cases c:Nat.beq i d with | false=>rfl | true=>exact(e (eV c)).elim];exact h i
def oB(c a b:Option AV):dW:=
 match c.bind qg with
 | some true=>fa a
 | some false=>fa b
 | none=>none
def gx(H:aa)(r:Ref)(q:dW):bk:=
 match q with
 | some (v,bs)=>some (v,keyed r 0 bs H)
 | none=>none
def tj(c:Bool)(a b:bk):bk:=
 match a with
 | some x=>some x
 | none=>cond c b none
def aL(E:Env)(c:Bool)(pc:FuncId->List AV->Option AV)(tc:lb->List AV->aa->bk)(H:aa)(r:Ref)(f:Option AV)(args:List AV):bk:=
 tj c (gx H r (iq E pc H.get r f args)) (ju E pc tc H r f args)
def pK(E:Env)(c:Bool)(pc:FuncId->List AV->Option AV)(tc:lb->List AV->aa->bk)(H:aa)(r:Ref)(f:Option AV)(args:List AV):bk:=
 tj c (gx H r ((iq E pc H.get r f args).map λp=>(p.1,zx true p.2))) (kG true E.sm H (ju E pc tc H r f args))
def eO(P:Program)(c:Bool)(H:aa)(r:Ref)(t t':Option TypeId)(s x:AV):bk:=
 tj c (gx H r (ec P H.get r t t' s x)) (fg P H t t' s x)
def oH(P:Program)(u d:Bool)(H:aa)(r:Ref)(t:TypeId)(n:Nat)(c:Option (List (Nat × AV))):bk:=
 tj d (gx H r (dA P u H.get r t n c)) (eF P H r t n c)
def jH(E:Env)(pc:FuncId->List AV->Option AV)(tc:lb->List AV->aa->bk)(dep:Nat)(u d:Bool)(s:bU)(H:aa)(r:Ref)(o:Oper):dW ⊕ bk:=
 match o.op with
 | .move x | .assign x => .inl (fa (a9 s x))
 | .pick c a b => .inl (oB (a9 s c) (a9 s a) (a9 s b))
 | .alloc e => .inr (gx H r (mG E.P r e))
 | .box e x => .inr (gx H r (tz E.P r e (a9 s x)))
 | .build t ps => .inl (iG E.P t (oR (a9 s) ps.toList))
 | .buildSlice t n ps => .inr (oH E.P (u && !E.strict o) d H r t n (oR (a9 s) ps.toList))
 | .load t a => .inl (jU E.P H.get t (a9 s a))
 | .store t a x => .inr (cond d (eB E.P H t (a9 s a) (a9 s x)) none)
 | .nilCheck x => .inl (EU (a9 s x))
 | .binOp op t D C _ => .inl (cK E.P op t D C (a9 s D) (a9 s C))
 | .unOp op _ x => .inl (ET E.P op (a9 s x))
 | .convert src dst x=>match bp E.P dst with
  | true => .inr (gx H r (bI E.P H.get r src dst (a9 s x)))
  | false => .inl (bI E.P H.get r src dst (a9 s x))
 | .makeInterface t x => .inl (pY E.P t (a9 s x))
 | .makeFunc f first captured => .inl (ss f (oE (a9 s) first.toList) (oE (a9 s) captured.toList))
 | .makeSlice t l c => .inr (gx H r (oz E.P r t (a9 s l) (a9 s c)))
 | .slice t x q j p=>match E.wide o && !u with
  | true => .inl (fj E.P H.get t (a9 s x) (xh (a9 s) q) (xh (a9 s) j) (xh (a9 s) p))
  | false => .inl (dN E.P H.get t (a9 s x) (xh (a9 s) q) (xh (a9 s) j) (xh (a9 s) p))
 | .fieldAddr t x f => .inl (du E.P t (a9 s x) f)
 | .field t x f => .inl (pZ E.P t (a9 s x) f)
 | .indexAddr t x h => .inl (bj E.P H.get t (a9 s x) (a9 s h))
 | .index t x h => .inl (oQ E.P t (a9 s x) (a9 s h))
 | .typeAssert x _ g ok => .inl (nS E.P (a9 s x) g ok)
 | .extract x i => .inl (jV (a9 s x) i)
 | .call c=>
  match oE (a9 s) c.args.toList with
  | none => .inl none
  | some args=>
   match c.callee with
   | .value f=>(match ur E.jt u f with
    | some t => .inl (uj E.P H.get t args)
    | none=>(match E.cS o with
     | true => .inr (pK E d pc tc H r (a9 s f) args)
     | false => .inr (aL E d pc tc H r (a9 s f) args)))
   | .invoke _ _ => .inl none
   | .builtin b=>match b,args with
    | .append,[a,x] => .inr (eO E.P d H r c.argTypes[0]? c.argTypes[1]? a x)
    | .copy,[dst,x]=>(match E.wide o with
     | true => .inr (cond d (kH E.P H c.argTypes[0]? dst x) none)
     | false => .inr (cond d (pd E.P H c.argTypes[0]? dst x) none))
    | b,args => .inl (bS E.P (u&&(E.strict o || !(match c.args.toList with | [.tmp _]=>true | _=>false))) H.get r b c.argTypes args)
 | .makeMap _ none => .inr (gx H r (some (.mp r,[ig []])))
 | .lookup t x k ok => .inl (gU E.P H.get t (a9 s x) (a9 s k) ok)
 | .mapUpdate t m k x => .inr (cond d (dM E.P H t (a9 s m) (a9 s k) (a9 s x)) none)
 | .insert t m k x => .inr (cond d (dM E.P H t (a9 s m) (a9 s k) (a9 s x)) none)
 | .mapEntry t m k => .inr (cond d (iL E.P H t (a9 s m) (a9 s k)) none)
 | .entryStore _ m n x => .inr (cond d (ff H (a9 s m) (a9 s n) (a9 s x)) none)
 | .makeChan t n => .inr (cond d (nK E.P H r t (a9 s n)) none)
 | .send c x => .inr (cond d (rJ H (a9 s c) (a9 s x)) none)
 | .recv t c ok => .inr (cond d (tZ E.P H t (a9 s c) ok) none)
 | _ => .inl none
def k5(E:Env)(pc:FuncId->List AV->Option AV)(tc:lb->List AV->aa->bk)(dep:Nat)(u:Bool)(tm:List AV)(H:aa)(o:Oper):bk:=
 match bh E pc u H.get tm ⟨dep,o.dst.getD 0,H.gen dep (o.dst.getD 0),0⟩ o with
 | some (x,bs)=>some (x,keyed ⟨dep,o.dst.getD 0,H.gen dep (o.dst.getD 0),0⟩ 0 bs H)
 | none=>if u && !dK E o then none else evalW E pc tc H tm ⟨dep,o.dst.getD 0,H.gen dep (o.dst.getD 0),0⟩ o
theorem DD(E:Env)(pc:FuncId->List AV->Option AV)(tc:lb->List AV->aa->bk)(nt dep:Nat)(u:Bool)(ops:Array Oper)(o:Oper)(st:St) :
 evalOp E pc tc nt dep u ops o st=(match wanted ops st.tm o with
  | none=>none
  | some false=>(bl nt st.tm o.dst AV.undef).map λtm => { st with tm}
  | some true=>match k5 E pc tc dep u st.tm st.hp o with
   | some (x,H)=>(bl nt st.tm o.dst x).map λtm=>⟨tm,H⟩
   | none=>none):=by
 unfold evalOp k5
 cases hw:wanted ops st.tm o with
 | none=>rfl
 | some b=>
 cases b with
 | false=>rfl
 | true=>
  cases bh E pc u st.hp.get st.tm ⟨dep,o.dst.getD 0,st.hp.gen dep (o.dst.getD 0),0⟩ o with
  | some p=>rfl
  | none=>
   dsimp only
   split
   ·rfl
   ·rfl
theorem DF{E:Env}{pc:FuncId->List AV->Option AV}{tc:lb->List AV->aa->bk}{dep:Nat}{u:Bool}{tm:List AV}{H:aa}{o:Oper}{v:AV}
 (h:bh E pc u H.get tm ⟨dep,o.dst.getD 0,H.gen dep (o.dst.getD 0),0⟩ o=some (v,[])):k5 E pc tc dep u tm H o=some (v,H):=by
 unfold k5;rw[h];rfl
theorem xK{E:Env}{pc:FuncId->List AV->Option AV}{tc:lb->List AV->aa->bk}{dep:Nat}{u:Bool}{tm:List AV}{H H':aa}{o:Oper}{v:AV}{q:dW}
 (h:bh E pc u H.get tm ⟨dep,o.dst.getD 0,H.gen dep (o.dst.getD 0),0⟩ o=q) (c:gx H ⟨dep,o.dst.getD 0,H.gen dep (o.dst.getD 0),0⟩ q=some (v,H')):k5 E pc tc dep u tm H o=some (v,H'):=by
 unfold k5;rw[h]
 unfold gx at c
 split at c
 ·exact c
 ·cases c
theorem fp{E:Env}{pc:FuncId->List AV->Option AV}{tc:lb->List AV->aa->bk}{dep:Nat}{u:Bool}{tm:List AV}{H H':aa}{o:Oper}{v:AV}{q:dW}{w:bk}
 (h:bh E pc u H.get tm ⟨dep,o.dst.getD 0,H.gen dep (o.dst.getD 0),0⟩ o=q) (e:evalW E pc tc H tm ⟨dep,o.dst.getD 0,H.gen dep (o.dst.getD 0),0⟩ o=w)
 (c:tj (!(u && !dK E o)) (gx H ⟨dep,o.dst.getD 0,H.gen dep (o.dst.getD 0),0⟩ q) w=some (v,H')):k5 E pc tc dep u tm H o=some (v,H'):=by
 unfold k5;rw[h]
 cases q with
 | some p=>simpa [tj,gx] using c
 | none=>
  rw[e]
  cases d:(u && !dK E o) with
  | true=>rw[d]at c;simp[tj,gx]at c
  | false=>rw[d]at c;simpa [tj,gx] using c
section
variable{E:Env}{pc:FuncId->List AV->Option AV}{tc:lb->List AV->aa->bk}{dep:Nat}{u:Bool}{tm:List AV}{s:bU}{H:aa}{o:Oper}
theorem CW(d:b9 tm s){q:dW}{v:AV}
 (h:jH E pc tc dep u (!(u && !dK E o)) s H ⟨dep,o.dst.getD 0,H.gen dep (o.dst.getD 0),0⟩ o = .inl q) (n:q=some (v,[])):k5 E pc tc dep u tm H o=some (v,H):=by
 subst n
 refine DF ?_
 have e:=mm d
 unfold jH at h
 unfold bh
 split at h<;>rename_i j<;>simp only[j]
 all_goals try (simp only[qk,reduceCtorEq]at h)
 all_goals try (rw[<-h];simp only[e,oB,sn,p5 d,vE d,pA];done)
 ·rw[<-h];unfold sn oB;rw[e];rfl
 ·split at h
  ·cases h
  ·simp only[qk]at h;rw[<-h,e]
 ·cases g:(E.wide o && !u) with
  | true=>rw[g]at h;simp only[qk]at h;rw[<-h];simp only[cond_true,e,vE d]
  | false=>rw[g]at h;simp only[qk]at h;rw[<-h];simp only[cond_false,e,vE d]
 ·rw[pA,e]
  split at h
  ·cases h
  ·rename_i args c
   rw[c]
   dsimp only
   split at h
   ·rename_i f l
    rw[l]
    dsimp only
    split at h
    ·rename_i t i
     simp only[qk]at h
     simp only[i]
     exact h
    ·split at h<;>cases h
   ·cases h
   ·rename_i b m
    rw[m]
    dsimp only
    split at h
    ·cases h
    ·split at h<;>cases h
    ·simp only[qk]at h;exact h
theorem CV(p:b9 tm s){w:bk}{v:AV}{H':aa}
 (h:jH E pc tc dep u (!(u && !dK E o)) s H ⟨dep,o.dst.getD 0,H.gen dep (o.dst.getD 0),0⟩ o = .inr w) (z:w=some (v,H')):k5 E pc tc dep u tm H o=some (v,H'):=by
 subst z
 have e:=mm p
 unfold jH at h
 split at h<;>rename_i c
 all_goals try (simp only[reduceCtorEq]at h;done)
 all_goals try (simp only[o7]at h)
 all_goals try (refine xK (by unfold bh;simp only[c,e]) h;done)
 ·rw[<-p5 p]at h
  exact fp (q:=dA _ _ _ _ _ _ _) (w:=eF _ _ _ _ _ _) (by unfold bh;simp only[c]) (by unfold evalW;simp only[c]) h
 ·rw[<-e]at h
  exact fp (q:=none) (w:=eB _ _ _ _ _) (by unfold bh;simp only[c]) (by unfold evalW;simp only[c]) h
 ·split at h
  ·simp only[o7]at h
   refine xK (by unfold bh;simp only[c,e]) h
  ·cases h
 ·split at h<;>cases h
 ·split at h
  ·cases h
  ·rename_i args i
   have g:=i
   rw[<-pA,<-e]at g
   split at h
   ·rename_i f n
    split at h
    ·cases h
    ·rename_i m
     split at h
     ·rename_i d
      simp only[o7]at h
      rw[<-e]at h
      exact fp (q:=(iq _ _ _ _ _ _).map _) (w:=kG true _ _ (ju _ _ _ _ _ _ _)) (by unfold bh;simp only[c,g,n,m,d]) (by unfold evalW;simp only[c,g,n,d]) h
     ·rename_i d
      simp only[o7]at h
      rw[<-e]at h
      exact fp (q:=iq _ _ _ _ _ _) (w:=ju _ _ _ _ _ _ _) (by unfold bh;simp only[c,g,n,m,d,zx];cases iq E pc H.get _ (ak tm f) args<;>rfl) (by unfold evalW;simp only[c,g,n,d];rfl) h
   ·cases h
   ·rename_i b l
    split at h
    ·simp only[o7]at h
     exact fp (q:=ec _ _ _ _ _ _ _) (w:=fg _ _ _ _ _ _) (by unfold bh;simp only[c,g,l];rfl) (by unfold evalW;simp only[c,g,l]) h
    ·split at h
     ·rename_i j
      simp only[o7]at h
      exact fp (q:=none) (w:=kH _ _ _ _ _) (by unfold bh;simp only[c,g,l];rfl) (by unfold evalW;simp only[c,g,l,j,cond_true]) h
     ·rename_i j
      simp only[o7]at h
      exact fp (q:=none) (w:=pd _ _ _ _ _) (by unfold bh;simp only[c,g,l];rfl) (by unfold evalW;simp only[c,g,l,j,cond_false]) h
    ·cases h
 ·rw[<-e]at h
  exact fp (q:=none) (w:=dM _ _ _ _ _ _) (by unfold bh;simp only[c]) (by unfold evalW;simp only[c]) h
 ·rw[<-e]at h
  exact fp (q:=none) (w:=dM _ _ _ _ _ _) (by unfold bh;simp only[c]) (by unfold evalW;simp only[c]) h
 ·rw[<-e]at h
  exact fp (q:=none) (w:=iL _ _ _ _ _) (by unfold bh;simp only[c]) (by unfold evalW;simp only[c]) h
 ·rw[<-e]at h
  exact fp (q:=none) (w:=ff _ _ _ _) (by unfold bh;simp only[c]) (by unfold evalW;simp only[c]) h
 ·rw[<-e]at h
  exact fp (q:=none) (w:=nK _ _ _ _ _) (by unfold bh;simp only[c]) (by unfold evalW;simp only[c]) h
 ·rw[<-e]at h
  exact fp (q:=none) (w:=rJ _ _ _) (by unfold bh;simp only[c]) (by unfold evalW;simp only[c]) h
 ·rw[<-e]at h
  exact fp (q:=none) (w:=tZ _ _ _ _ _) (by unfold bh;simp only[c]) (by unfold evalW;simp only[c]) h
end
def pJ(E:Env)(u:Bool)(s:bU)(H:aa)(r:Ref)(o:Oper):Option bk:=
 if u || !E.deep o then none else
 match o.op with
 | .buildSlice t n ps=>some (pe E.P H r t n (oR (a9 s) ps.toList))
 | .call c=>(match c.callee with
  | .builtin .append=>some (match oE (a9 s) c.args.toList with
   | some [a,x]=>z9 E.P H r c.argTypes[0]? c.argTypes[1]? a x
   | _=>none)
  | _=>none)
 | _=>none
theorem xQ{E:Env}{u:Bool}{tm:List AV}{s:bU}{H:aa}{r:Ref}{o:Oper}(d:b9 tm s):sX E u H tm r o=pJ E u s H r o:=by
 unfold sX pJ
 split
 ·rfl
 ·generalize o.op=op
  cases op
  case buildSlice t n ps=>dsimp only;rw[p5 d]
  case call c=>
   dsimp only
   generalize c.callee=ce
   cases ce with
   | builtin b=>
    cases b
    case append=>
     dsimp only
     rw[<-mm d,<-pA]
     generalize c.args.toList.mapM (ak tm)=l
     match l with
     | none=>rfl
     | some []=>rfl
     | some [_]=>rfl
     | some [_,_]=>rfl
     | some (_ :: _ :: _ :: _)=>rfl
    all_goals rfl
   | _=>rfl
  all_goals rfl
def mg(E:Env)(pc:FuncId->List AV->Option AV)(tc:lb->List AV->aa->bk)(dep:Nat)(u c:Bool)(s:bU)(H:aa)(r:Ref)(o:Oper):dW ⊕ bk:=
 match pJ E u s H r o with
 | some w => .inr w
 | none=>jH E pc tc dep u c s H r o
def pH(E:Env)(pc:FuncId->List AV->Option AV)(tc:lb->List AV->aa->bk)(dep:Nat)(u:Bool)(tm:List AV)(H:aa)(o:Oper):bk:=
 match sX E u H tm ⟨dep,o.dst.getD 0,H.gen dep (o.dst.getD 0),0⟩ o with
 | some w=>w
 | none=>k5 E pc tc dep u tm H o
theorem AE(E:Env)(pc:FuncId->List AV->Option AV)(tc:lb->List AV->aa->bk)(nt dep:Nat)(u:Bool)(ops:Array Oper)(o:Oper)(st:St) :
 oF E pc tc nt dep u ops o st=(match wanted ops st.tm o with
  | none=>none
  | some false=>(bl nt st.tm o.dst AV.undef).map λtm => { st with tm}
  | some true=>match pH E pc tc dep u st.tm st.hp o with
   | some (x,H)=>(bl nt st.tm o.dst x).map λtm=>⟨tm,H⟩
   | none=>none):=by
 unfold oF pH
 cases sX E u st.hp st.tm ⟨dep,o.dst.getD 0,st.hp.gen dep (o.dst.getD 0),0⟩ o with
 | none=>exact DD E pc tc nt dep u ops o st
 | some w=>rfl
section
variable{E:Env}{pc:FuncId->List AV->Option AV}{tc:lb->List AV->aa->bk}{dep:Nat}{u:Bool}{tm:List AV}{s:bU}{H:aa}{o:Oper}
theorem E4(c:b9 tm s){q:dW}{v:AV}
 (h:mg E pc tc dep u (!(u && !dK E o)) s H ⟨dep,o.dst.getD 0,H.gen dep (o.dst.getD 0),0⟩ o = .inl q) (e:q=some (v,[])):pH E pc tc dep u tm H o=some (v,H):=by
 unfold mg at h
 unfold pH
 rw[xQ c]
 cases d:pJ E u s H ⟨dep,o.dst.getD 0,H.gen dep (o.dst.getD 0),0⟩ o with
 | some w=>rw[d]at h;cases h
 | none=>rw[d]at h;exact CW c h e
theorem E3(d:b9 tm s){w:bk}{v:AV}{H':aa}
 (h:mg E pc tc dep u (!(u && !dK E o)) s H ⟨dep,o.dst.getD 0,H.gen dep (o.dst.getD 0),0⟩ o = .inr w) (e:w=some (v,H')):pH E pc tc dep u tm H o=some (v,H'):=by
 unfold mg at h
 unfold pH
 rw[xQ d]
 cases c:pJ E u s H ⟨dep,o.dst.getD 0,H.gen dep (o.dst.getD 0),0⟩ o with
 | some w'=>rw[c]at h;cases h;exact e
 | none=>rw[c]at h;exact CV d h e
end
open Classical in
noncomputable def aN(E:Env)(f:FuncId)(args:List AV):Option AV:=
 if h : ∃y n,∀m,n<=m->bM E (bo E m) f args=some y then some h.choose else none
theorem mL{E:Env}{f:FuncId}{args:List AV}{y:AV}:aN E f args=some y ↔ ∃n,∀m,n<=m->bM E (bo E m) f args=some y:=by
 unfold aN
 constructor
 ·intro h
  split at h
  ·rename_i c
   simp only[cz]at h
   rw[<-h]
   exact c.choose_spec
  ·cases h
 ·intro h
  rw[dif_pos ⟨y,h⟩]
  obtain⟨n,e⟩:=h
  have c : ∃y n,∀m,n<=m->bM E (bo E m) f args=some y:=⟨y,n,e⟩
  obtain⟨g,d⟩:=c.choose_spec
  have i:=e (max n g) (Nat.le_max_left ..)
  have j:=d (max n g) (Nat.le_max_right ..)
  exact j.symm.trans i
open Classical in
noncomputable def cB(E:Env)(dep:Nat)(f:lb)(args:List AV)(H:aa):bk:=
 if h : ∃y n,∀m,n<=m->cJ E (bo E m) dep f args H=some y then some h.choose else none
theorem kq{E:Env}{dep:Nat}{f:lb}{args:List AV}{H:aa}{y:AV × aa}:cB E dep f args H=some y ↔ ∃n,∀m,n<=m->cJ E (bo E m) dep f args H=some y:=by
 unfold cB
 constructor
 ·intro h
  split at h
  ·rename_i c
   simp only[cz]at h
   rw[<-h]
   exact c.choose_spec
  ·cases h
 ·intro h
  rw[dif_pos ⟨y,h⟩]
  obtain⟨n,e⟩:=h
  have c : ∃y n,∀m,n<=m->cJ E (bo E m) dep f args H=some y:=⟨y,n,e⟩
  obtain⟨g,d⟩:=c.choose_spec
  have i:=e (max n g) (Nat.le_max_left ..)
  have j:=d (max n g) (Nat.le_max_right ..)
  exact j.symm.trans i
theorem xZ{E:Env}{g:Bool}{dep:Nat}{H H':aa}{r:Ref}{f:Option AV}{args:List AV}{v:AV}(h:aL E g (aN E) (cB E dep) H r f args=some (v,H')) :
 ∃n,∀m,n<=m->aL E g (bM E (bo E m)) (cJ E (bo E m) dep) H r f args=some (v,H'):=by
 unfold aL at h ⊢
 by_cases w : ∃j first c,f=some (.fn (.func j) first c)
 ·obtain⟨j,first,c,rfl⟩:=w
  by_cases i:E.mode j=2
  ·simp only[iq,ju,if_pos i,gx,tj]at h ⊢
   cases g with
   | true=>
    simp only[cond_true]at h ⊢
    obtain⟨n,e⟩:=kq.1 h
    exact⟨n,e⟩
   | false=>simp at h
  ·simp only[iq,ju,if_neg i]at h ⊢
   cases z:(first++args++c).mapM (view H.get depth) with
   | none=>rw[z]at h;simp[gx,tj]at h
   | some xs=>
    rw[z]at h
    dsimp only at h ⊢
    cases d:aN E j xs with
    | none=>rw[d]at h;simp[gx,tj]at h
    | some y=>
     rw[d]at h
     obtain⟨n,e⟩:=mL.1 d
     refine⟨n,λm l=>?_⟩
     rw[e m l]
     exact h
 ·have p : ∀pc,iq E pc H.get r f args=none:=by
   intro pc
   unfold iq
   split
   ·exact(w ⟨_,_,_,rfl⟩).elim
   ·rfl
  by_cases d : ∃q,f=some (.yld q)
  ·obtain⟨q,rfl⟩:=d
   rw[p]at h
   cases g with
   | false=>simp[gx,tj]at h
   | true=>
    have A:cB E dep (.yld q) args H=some (v,H'):=h
    obtain⟨n,e⟩:=kq.1 A
    refine⟨n,λm l=>?_⟩
    rw[p]
    exact e m l
  ·have i : ∀pc tc,ju E pc tc H r f args=none:=by
    intro pc tc
    unfold ju
    split
    ·exact(w ⟨_,_,_,rfl⟩).elim
    ·exact(d ⟨_,rfl⟩).elim
    ·rfl
   rw[p,i]at h
   cases g<;>simp[gx,tj]at h
theorem rK{sm:yg}{H H':aa}{x:bk}{v:AV}(h:kG true sm H x=some (v,H')) : ∃c,x=some (v,c)/\H'=H/\flat depth v=true/\(sQ H c||sm.f H c)=true:=by
 cases x with
 | none=>simp[kG]at h
 | some p=>
  obtain⟨y,c⟩:=p
  unfold kG at h
  simp only at h
  split at h
  ·rename_i d
   cases h
   rw[bR]at d
   exact⟨c,rfl,rfl,d.1,d.2⟩
  ·cases h
theorem vY{E:Env}{j:Bool}{dep:Nat}{H H':aa}{r:Ref}{f:Option AV}{args:List AV}{v:AV}(h:pK E j (aN E) (cB E dep) H r f args=some (v,H')) :
 ∃n,∀m,n<=m->pK E j (bM E (bo E m)) (cJ E (bo E m) dep) H r f args=some (v,H'):=by
 unfold pK at h ⊢
 by_cases A : ∃p first c,f=some (.fn (.func p) first c)
 ·obtain⟨p,first,c,rfl⟩:=A
  by_cases l:E.mode p=2
  ·simp only[iq,ju,if_pos l,gx,tj,rC]at h ⊢
   cases j with
   | true=>
    simp only[cond_true]at h ⊢
    obtain⟨H1,g,I,F,G⟩:=rK h
    obtain⟨n,i⟩:=kq.1 g
    refine⟨n,λm e=>?_⟩
    rw[i m e]
    rw[g]at h
    exact h
   | false=>simp at h
  ·simp only[iq,ju,if_neg l]at h ⊢
   cases B:(first++args++c).mapM (view H.get depth) with
   | none=>rw[B]at h;simp[gx,tj,kG]at h
   | some xs=>
    rw[B]at h
    dsimp only at h ⊢
    cases d:aN E p xs with
    | none=>rw[d]at h;simp[gx,tj,kG]at h
    | some y=>
     rw[d]at h
     obtain⟨n,i⟩:=mL.1 d
     refine⟨n,λm e=>?_⟩
     rw[i m e]
     exact h
 ·have z : ∀pc,iq E pc H.get r f args=none:=by
   intro pc
   unfold iq
   split
   ·exact(A ⟨_,_,_,rfl⟩).elim
   ·rfl
  by_cases d : ∃q,f=some (.yld q)
  ·obtain⟨q,rfl⟩:=d
   rw[z]at h
   cases j with
   | false=>simp[gx,tj]at h
   | true=>
    have w:kG true E.sm H (cB E dep (.yld q) args H)=some (v,H'):=h
    obtain⟨H1,g,_⟩:=rK w
    obtain⟨n,i⟩:=kq.1 g
    refine⟨n,λm e=>?_⟩
    rw[z]
    show kG true E.sm H (cJ E (bo E m) dep (.yld q) args H)=_
    rw[i m e]
    rw[g]at w
    exact w
  ·have l : ∀pc tc,ju E pc tc H r f args=none:=by
    intro pc tc
    unfold ju
    split
    ·exact(A ⟨_,_,_,rfl⟩).elim
    ·exact(d ⟨_,rfl⟩).elim
    ·rfl
   rw[z,l]at h
   cases j<;>simp[gx,tj,kG]at h
theorem sA{E:Env}{dep:Nat}{u j:Bool}{s:bU}{H:aa}{r:Ref}{o:Oper} :
 (∀q v,jH E (aN E) (cB E dep) dep u j s H r o = .inl q->q=some (v,[]) ->∃n,∀m,n<=m->jH E (bM E (bo E m)) (cJ E (bo E m) dep) dep u j s H r o = .inl (some (v,[]))) /\
 (∀w v H',jH E (aN E) (cB E dep) dep u j s H r o = .inr w->w=some (v,H') ->∃n,∀m,n<=m->jH E (bM E (bo E m)) (cJ E (bo E m) dep) dep u j s H r o = .inr (some (v,H'))):=by
 constructor
 ·intro q v h A
  subst A
  refine⟨0,λm _=>?_⟩
  unfold jH at h ⊢
  generalize o.op=op at h ⊢
  cases op
  all_goals try exact h
  case makeMap a b=>cases b<;>exact h
  rename_i c
  dsimp only at h ⊢
  cases i:oE (a9 s) c.args.toList with
  | none=>rw[i]at h;exact h
  | some args=>
   rw[i]at h
   dsimp only at h ⊢
   cases e:c.callee with
   | value f=>
    rw[e]at h
    dsimp only at h ⊢
    cases d:ur E.jt u f with
    | some t=>rw[d]at h;exact h
    | none=>rw[d]at h;dsimp only at h;split at h<;>cases h
   | invoke a b=>rw[e]at h;exact h
   | builtin b=>rw[e]at h;exact h
 ·intro w v H' h z
  subst z
  unfold jH at h ⊢
  generalize o.op=op at h ⊢
  cases op
  all_goals try (exact⟨0,λm _=>h⟩)
  case makeMap a b=>cases b<;>exact⟨0,λm _=>h⟩
  rename_i c
  dsimp only at h ⊢
  cases i:oE (a9 s) c.args.toList with
  | none=>rw[i]at h;cases h
  | some args=>
   rw[i]at h
   dsimp only at h ⊢
   cases e:c.callee with
   | value f=>
    rw[e]at h
    dsimp only at h ⊢
    cases d:ur E.jt u f with
    | some t=>rw[d]at h;cases h
    | none=>
    rw[d]at h
    dsimp only at h ⊢
    cases g:E.cS o with
    | true=>
     rw[g]at h
     simp only[o7]at h
     obtain⟨n,p⟩:=vY h
     exact⟨n,λm l=>congrArg _ (p m l)⟩
    | false=>
     rw[g]at h
     simp only[o7]at h
     obtain⟨n,p⟩:=xZ h
     exact⟨n,λm l=>congrArg _ (p m l)⟩
   | invoke a b=>rw[e]at h;cases h
   | builtin b=>rw[e]at h;exact⟨0,λm _=>h⟩
theorem uu{E:Env}{dep:Nat}{u d:Bool}{s:bU}{H:aa}{r:Ref}{o:Oper} :
 (∀q v,mg E (aN E) (cB E dep) dep u d s H r o = .inl q->q=some (v,[]) ->∃n,∀m,n<=m->mg E (bM E (bo E m)) (cJ E (bo E m) dep) dep u d s H r o = .inl (some (v,[]))) /\
 (∀w v H',mg E (aN E) (cB E dep) dep u d s H r o = .inr w->w=some (v,H') ->∃n,∀m,n<=m->mg E (bM E (bo E m)) (cJ E (bo E m) dep) dep u d s H r o = .inr (some (v,H'))):=by
 constructor
 ·intro q v h g
  unfold mg at h ⊢
  cases c:pJ E u s H r o with
  | some w=>rw[c]at h;cases h
  | none=>
   rw[c]at h
   obtain⟨n,e⟩:=sA.1 q v h g
   exact⟨n,e⟩
 ·intro w v H' h f
  unfold mg at h ⊢
  cases c:pJ E u s H r o with
  | some w'=>rw[c]at h;cases h;exact⟨0,λm _=>by rw[f]⟩
  | none=>
   rw[c]at h
   obtain⟨n,e⟩:=sA.2 w v H' h f
   exact⟨n,e⟩
abbrev Mk{c:Type}(a:c):Type:=Unit
structure fB (q:dW) (K:AV->Prop) (m:Mk K:=()):Prop where
 h : ∃v,q=some (v,[])/\K v
structure ga (w:bk) (K:AV->aa->Prop) (m:Mk K:=()):Prop where
 h : ∃v H,w=some (v,H)/\K v H
def FN(x:AV)(c:Bool):Option Bool:=
 match x with
 | .v (.bool b)=>some (b == c)
 | .v (.tuple d)=>if d.isEmpty then some false else none
 | _=>none
def gd(x:AV)(c:Bool)(A B:Prop):Prop:=
 match FN x c with
 | some true=>A
 | some false=>B
 | none=>False
structure gQ (x:AV) (want:Bool) (q:dW) (K:AV->Prop) (m:Mk (q,K):=()):Prop where
 h:gd x want (fB q K) (K AV.undef)
structure gW (x:AV) (want:Bool) (H:aa) (w:bk) (K:AV->aa->Prop) (m:Mk (w,K):=()):Prop where
 h:gd x want (ga w K) (K AV.undef H)
def Kf(x:Option AV)(A B:Prop):Prop:=
 match x.bind qg with
 | some b=>cond b A B
 | none=>False
structure br (x:Option AV) (A B:Prop) (m:Mk (A,B):=()):Prop where
 h:Kf x A B
def vL(ops:Array Oper)(s:bU)(o:Oper):Option (Option (AV × Bool)):=
 match o.guard with
 | none=>none
 | some (j,c)=>match (ops[j]?).bind (·.dst) with
  | some t=>some (some (s t,c))
  | none=>some none
def tA(nt:Nat)(s:bU)(c:Option Tmp)(v:AV)(K:bU->Prop):Prop:=
 match c with
 | none=>K s
 | some d=>cond (Nat.blt d nt) (K (Hn s d v)) False
def Gi(E:Env)(nt dep:Nat)(u:Bool)(ops:Array Oper)(o:Oper)(s:bU)(H:aa)(K:bU->aa->Prop):Prop:=
 match mg E (aN E) (cB E dep) dep u (!(u && !dK E o)) s H ⟨dep,o.dst.getD 0,H.gen dep (o.dst.getD 0),0⟩ o with
 | .inl q=>match vL ops s o with
  | none=>(match o.op with
   | .move x | .assign x=>(match a9 s x with
    | some v=>tA nt s o.dst v λs=>K s H
    | none=>False)
   | _=>fB q λv=>tA nt s o.dst v λs=>K s H)
  | some (some (x,c))=>gQ x c q λv=>tA nt s o.dst v λs=>K s H
  | some none=>tA nt s o.dst AV.undef λs=>K s H
 | .inr w=>match vL ops s o with
  | none=>ga w λv H=>tA nt s o.dst v λs=>K s H
  | some (some (x,c))=>gW x c H w λv H=>tA nt s o.dst v λs=>K s H
  | some none=>tA nt s o.dst AV.undef λs=>K s H
def wpOps(E:Env)(nt dep:Nat)(u:Bool)(ops:Array Oper):List Oper->bU->aa->(bU->aa->Prop)->Prop
 | [],s,H,K=>K s H
 | o :: os,s,H,K=>Gi E nt dep u ops o s H λs H=>wpOps E nt dep u ops os s H K
def Fin(E:Env)(fn:Func)(rd:Option Ref)(o:Option St)(y:AV)(H':aa):Prop:=match rd with
 | none =>∃st,o=some st/\md E.P fn st=some y/\st.hp=H'
 | some r =>∃st n,o=mN (some r) st n/\y = .v (.int .i64 (n:Nat))/\st.hp=H'
def mW(E:Env)(fn:Func)(rd:Option Ref)(dep:Nat)(c:List Item)(s:bU)(H:aa)(Q:AV->aa->Prop):Prop:=
 ∀tm,b9 tm s ->∃y H',Q y H' /\∃n,∀m,n<=m->Fin E fn rd (bo E m rd fn.ntmps dep c ⟨tm,H⟩) y H'
def B0(g:bU):List (Nat × AV)->bU
 | [],i=>g i
 | (j,v) :: l,i=>cond (Nat.beq i j) v (B0 g l i)
structure Gg (E:Env) (fn:Func) (rd:Option Ref) (dep:Nat) (items:List Item) (l:List (Nat × AV)) (H:aa) (Q:AV->aa->Prop):Prop where
 h : ∀g,mW E fn rd dep items (B0 g l) H Q
abbrev gm(E:Env)(fn:Func)(dep:Nat)(c:List Item)(l:List (Nat × AV))(H:aa)(Q:AV->aa->Prop):Prop:=Gg E fn none dep c l H Q
def pn(s:bU):List Nat->List (Nat × AV)
 | []=>[]
 | t :: c=>(t,s t) :: pn s c
theorem CZ(s:bU)(l:List Nat):B0 s (pn s l)=s:=by
 induction l with
 | nil=>rfl
 | cons t l c=>
  funext i
  show cond (Nat.beq i t) (s t) (B0 s (pn s l) i)=s i
  rw[c]
  cases h:Nat.beq i t with
  | true=>rw[eV h];rfl
  | false=>rfl
def fm:Code->Option Nat
 | .region id _ _=>some id
 | .seq a b=>match fm a with
  | some i=>some i
  | none=>fm b
 | .cond _ a b=>match fm a with
  | some i=>some i
  | none=>fm b
 | .block _ c | .loop c | .scope c=>fm c
 | _=>none
def me(P:Program)(H:aa)(x:AV)(t:TypeId):dW:=
 match x,fw P t,ay P t with
 | .ptr r i j,some g,some n=>match H.get r with
  | some b=>fa (bq b.es i j n g)
  | none=>none
 | _,_,_=>none
def pack:List AV->AV
 | [] => .v (.tuple #[])
 | [x]=>x
 | xs => .tup xs
def tY(P:Program)(s:bU)(H:aa)(Q:AV->aa->Prop):List ResultVar->List AV->Prop
 | [],acc=>Q (pack acc.reverse) H
 | .tmp t :: rs,acc=>tY P s H Q rs (s t :: acc)
 | .cell a t :: rs,acc=>fB (me P H (s a) t) λv=>tY P s H Q rs (v :: acc)
def CE(x y:AV):Bool:=match fG x,fG y with
 | some r,some r'=>decide (r≠r')
 | _,_=>true
def Gx(H:aa)(x:AV):Bool:=match x with
 | .ptr r _ _=>(match H.get r with
  | some b => !b.arr
  | none=>false)
 | _=>true
def Kl(x:AV):Bool:=match x with
 | .aD .. => true
 | .v _=>true
 | _=>false
def CF(s:bU)(p:Tmp × Tmp):Bool:=CE (s p.1) (s p.2)
def rY(s:bU)(H:aa)(o:Oper):Bool:=match o.op with
 | .store _ (.tmp t) _=>Gx H (s t)
 | _=>true
def AL(E:Env)(s:bU)(o:Oper):Bool := !(E.cS o&&n9 o.op)||(match Gc o.op with
 | some t=>Kl (s t)
 | none=>false)
def D6(E:Env)(l:List (Tmp × Tmp))(ops:Array Oper)(s:bU)(H:aa):Prop:=l.all (CF s)=true/\ops.toList.all (rY s H)=true/\ops.toList.all (AL E s)=true
def ID(assign body:Code):Nat:=match fm (.seq assign body) with
 | some i=>i+10000
 | none=>10000
structure Km (o:Option (Nat × AV)) (K:AV->Prop) (m:Mk K:=()):Prop where
 h : ∃info,o=some (0,info)/\K info
def wy(P:Program)(fn:Func)(rd:Option Ref)(c:Nat)(s:bU)(H:aa)(Q:AV->aa->Prop):Prop:=match rd with
 | none=>cond (Nat.ble c 2) (tY P s H Q fn.results.toList []) False
 | some _=>Q (.v (.int .i64 c)) H
def wp(E:Env)(fn:Func)(rd:Option Ref)(dep:Nat)(live:Nat->Option (List Nat))(cut:Nat->Bool)(Q:AV->aa->Prop):Nat->List Item->bU->aa->Prop
 | 0,items,s,H=>mW E fn rd dep items s H Q
 | n+1,items,s,H=>
  match items with
  | []=>wy E.P fn rd 0 s H Q
  | .beginRound :: k=>(match rd with
   | none=>False
   | some r=>Km (qM H r) λd=>wp E fn rd dep live cut Q n k s (H.put r (some (kR 1 d))))
  | .code c :: k=>
   (match c with
   | .skip | .label _=>wp E fn rd dep live cut Q n k s H
   | .ret=>wy E.P fn rd 2 s H Q
   | .seq a b=>wp E fn rd dep live cut Q n (.code a :: .code b :: k) s H
   | .cond c a b=>br (a9 s c) (wp E fn rd dep live cut Q n (.code a :: k) s H) (wp E fn rd dep live cut Q n (.code b :: k) s H)
   | .block id b=>wp E fn rd dep live cut Q n (.code b :: .inBlock id :: k) s H
   | .scope b=>wp E fn rd dep live cut Q n (.code b :: .inScope b :: k) s H
   | .loop b=>(match (fm b).bind live with
    | some l=>Gg E fn rd dep (.inLoop b :: k) (pn s l) H Q
    | none=>mW E fn rd dep (.inLoop b :: k) s H Q)
   | .exit id=>(match exitTo id k with
    | some k'=>wp E fn rd dep live cut Q n k' s H
    | none=>wy E.P fn rd (id+3) s H Q)
   | .rangeFunc g ps a b=>(match live (ID a b) with
    | some l=>Gg E fn rd dep (.code (.rangeFunc g ps a b) :: k) (pn s l) H Q
    | none=>mW E fn rd dep (.code (.rangeFunc g ps a b) :: k) s H Q)
   | .region id ops u=>(match cut id with
    | true=>(match live id with
     | some l=>Gg E fn rd dep (.code (.region id ops u) :: k) (pn s l) H Q
     | none=>False)
    | false=>wpOps E fn.ntmps dep u ops ops.toList s H λs H=>
     (match u,ji E ops with
     | true,p :: ps=>D6 E (p :: ps) ops s H/\wp E fn rd dep live cut Q n k s H
     | _,_=>wp E fn rd dep live cut Q n k s H))
   | _=>False)
  | .inLoop b :: k=>(match (fm b).bind live with
   | some l=>Gg E fn rd dep (.inLoop b :: k) (pn s l) H Q
   | none=>mW E fn rd dep (.inLoop b :: k) s H Q)
  | .inBlock _ :: k | .inScope _ :: k=>wp E fn rd dep live cut Q n k s H
  | _=>False
theorem jS{ops:Array Oper}{tm:List AV}{s:bU}(h:b9 tm s)(o:Oper):wanted ops tm o=(match vL ops s o with
 | none=>some true
 | some (some (x,c))=>FN x c
 | some none=>some false):=by
 unfold wanted vL
 split
 ·rename_i d;rw[d]
 ·rename_i j c d
  rw[d]
  dsimp only
  split
  ·rename_i t e
   rw[e]
   dsimp only
   rw[h t]
   rfl
  ·rename_i e
   rw[e]
theorem ly{nt:Nat}{s:bU}{c:Option Tmp}{v:AV}{K:bU->Prop}(h:tA nt s c v K) : ∃i,K i /\∀tm,b9 tm s ->∃tm',bl nt tm c v=some tm'/\b9 tm' i:=by
 unfold tA at h
 cases c with
 | none=>exact⟨s,h,λtm e=>⟨tm,rfl,e⟩⟩
 | some d=>
  dsimp only at h
  cases g:Nat.blt d nt with
  | false=>rw[g]at h;exact h.elim
  | true=>
   rw[g]at h
   refine⟨_,h,λtm e=>⟨_,?_,e.set d v⟩⟩
   have f:d<nt:=wo g
   simp only[bl,if_pos f]
theorem Ep{E:Env}{nt dep:Nat}{u:Bool}{ops:Array Oper}{o:Oper}{s:bU}{H:aa}{K:bU->aa->Prop}(h:Gi E nt dep u ops o s H K) :
 ∃c H',K c H' /\∀tm,b9 tm s ->∃tm',b9 tm' c /\∃n,∀m,n<=m->oF E (bM E (bo E m)) (cJ E (bo E m) dep) nt dep u ops o ⟨tm,H⟩=some ⟨tm',H'⟩:=by
 have run : ∀(v:AV)(H':aa)(c:bU),(∀tm,b9 tm s->wanted ops tm o=some true)->(∃n,∀m,n<=m ->∀tm,b9 tm s->pH E (bM E (bo E m)) (cJ E (bo E m) dep) dep u tm H o=some (v,H')) ->
  (∀tm,b9 tm s ->∃tm',bl nt tm o.dst v=some tm'/\b9 tm' c) ->
  ∀tm,b9 tm s ->∃tm',b9 tm' c /\∃n,∀m,n<=m->oF E (bM E (bo E m)) (cJ E (bo E m) dep) nt dep u ops o ⟨tm,H⟩=some ⟨tm',H'⟩:=by
  intro v H' c p ⟨n,F⟩ hp tm d
  obtain⟨tm',J,L⟩:=hp tm d
  refine⟨tm',L,n,λm A=>?_⟩
  rw[AE]
  dsimp only
  rw[p tm d,F m A tm d]
  dsimp only
  rw[J]
  rfl
 have i : ∀(c:bU),(∀tm,b9 tm s->wanted ops tm o=some false)->(∀tm,b9 tm s ->∃tm',bl nt tm o.dst AV.undef=some tm'/\b9 tm' c) ->
  ∀tm,b9 tm s ->∃tm',b9 tm' c /\∃n,∀m,n<=m->oF E (bM E (bo E m)) (cJ E (bo E m) dep) nt dep u ops o ⟨tm,H⟩=some ⟨tm',H⟩:=by
  intro c p hp tm d
  obtain⟨tm',J,L⟩:=hp tm d
  refine⟨tm',L,0,λm _=>?_⟩
  rw[AE]
  dsimp only
  rw[p tm d]
  dsimp only
  rw[J]
  rfl
 unfold Gi at h
 split at h
 ·rename_i q z
  have I : ∀v,q=some (v,[]) ->∃n,∀m,n<=m ->∀tm,b9 tm s->pH E (bM E (bo E m)) (cJ E (bo E m) dep) dep u tm H o=some (v,H):=by
   intro v e
   obtain⟨n,F⟩:=uu.1 q v z e
   exact⟨n,λm A tm d=>E4 d (F m A) rfl⟩
  split at h
  ·rename_i j
   have p : ∀tm,b9 tm s->wanted ops tm o=some true:=λtm d=>by rw[jS d,j]
   have f : ∀v,q=some (v,[])->tA nt s o.dst v (λs=>K s H) ->∃c H',K c H' /\∀tm,b9 tm s ->∃tm',b9 tm' c /\∃n,∀m,n<=m->oF E (bM E (bo E m)) (cJ E (bo E m) dep) nt dep u ops o ⟨tm,H⟩=some ⟨tm',H'⟩:=by
    intro v e hp
    obtain⟨c,g,hp⟩:=ly hp
    exact⟨c,H,g,run v H c p (I v e) hp⟩
   split at h
   ·rename_i x M
    split at h
    ·rename_i v e
     refine f v ?_ h
     unfold mg pJ jH at z
     simp only[M,qk,e,ite_self]at z
     rw[<-z];rfl
    ·exact h.elim
   ·rename_i x M
    split at h
    ·rename_i v e
     refine f v ?_ h
     unfold mg pJ jH at z
     simp only[M,qk,e,ite_self]at z
     rw[<-z];rfl
    ·exact h.elim
   ·obtain⟨v,e,h⟩:=h.h
    exact f v e h
  ·rename_i x B j
   replace h:=h.h
   unfold gd at h
   split at h
   ·rename_i l
    obtain⟨v,e,h⟩:=h.h
    obtain⟨c,g,hp⟩:=ly h
    exact⟨c,H,g,run v H c (λtm d=>by rw[jS d,j];exact l) (I v e) hp⟩
   ·rename_i l
    obtain⟨c,g,hp⟩:=ly h
    exact⟨c,H,g,i c (λtm d=>by rw[jS d,j];exact l) hp⟩
   ·exact h.elim
  ·rename_i j
   obtain⟨c,g,hp⟩:=ly h
   exact⟨c,H,g,i c (λtm d=>by rw[jS d,j]) hp⟩
 ·rename_i w p
  have G : ∀v H',w=some (v,H') ->∃n,∀m,n<=m ->∀tm,b9 tm s->pH E (bM E (bo E m)) (cJ E (bo E m) dep) dep u tm H o=some (v,H'):=by
   intro v H' e
   obtain⟨n,F⟩:=uu.2 w v H' p e
   exact⟨n,λm A tm d=>E3 d (F m A) rfl⟩
  split at h
  ·rename_i j
   obtain⟨v,H',e,h⟩:=h.h
   obtain⟨c,g,hp⟩:=ly h
   exact⟨c,H',g,run v H' c (λtm d=>by rw[jS d,j]) (G v H' e) hp⟩
  ·rename_i x B j
   replace h:=h.h
   unfold gd at h
   split at h
   ·rename_i l
    obtain⟨v,H',e,h⟩:=h.h
    obtain⟨c,g,hp⟩:=ly h
    exact⟨c,H',g,run v H' c (λtm d=>by rw[jS d,j];exact l) (G v H' e) hp⟩
   ·rename_i l
    obtain⟨c,g,hp⟩:=ly h
    exact⟨c,H,g,i c (λtm d=>by rw[jS d,j];exact l) hp⟩
   ·exact h.elim
  ·rename_i j
   obtain⟨c,g,hp⟩:=ly h
   exact⟨c,H,g,i c (λtm d=>by rw[jS d,j]) hp⟩
theorem Cf{E:Env}{nt dep:Nat}{u:Bool}{ops:Array Oper}{K:bU->aa->Prop} : ∀ {l:List Oper} {s:bU} {H:aa},wpOps E nt dep u ops l s H K ->
 ∃g H',K g H' /\∀tm,b9 tm s ->∃tm',b9 tm' g /\∃n,∀m,n<=m->iW E (bM E (bo E m)) (cJ E (bo E m) dep) nt dep u ops l ⟨tm,H⟩=some ⟨tm',H'⟩:=by
 intro l
 induction l with
 | nil=>intro s H h;exact⟨s,H,h,λtm c=>⟨tm,c,0,λm _=>rfl⟩⟩
 | cons o l q=>
  intro s H h
  obtain⟨s1,H1,j,e⟩:=Ep h
  obtain⟨s2,i,p,f⟩:=q j
  refine⟨s2,i,p,λtm c=>?_⟩
  obtain⟨tm1,t1,n1,v⟩:=e tm c
  obtain⟨d,t2,n2,w⟩:=f tm1 t1
  exact⟨d,t2,max n1 n2,λm z=>by simp only[iW,v m (by omega),w m (by omega)]⟩
theorem Ce{P:Program}{fn:Func}{s:bU}{H:aa}{Q:AV->aa->Prop} : ∀ {m:List ResultVar} {c:List AV},tY P s H Q m c ->
 ∃f,Q (pack (c.reverse++f)) H /\∀tm,b9 tm s->m.mapM (fx P ⟨tm,H⟩)=some f:=by
 intro m
 induction m with
 | nil=>intro c h;exact⟨[],by simpa [tY] using h,λtm _=>rfl⟩
 | cons r m w=>
  intro c h
  cases r with
  | tmp t=>
   obtain⟨f,p,q⟩:=w h
   refine⟨s t :: f,by simpa using p,λtm l=>?_⟩
   simp only[jQ,fx,q tm l,l t,lh,lV,cQ]
  | cell a t=>
   obtain⟨v,d,h⟩:=h.h
   obtain⟨f,p,q⟩:=w h
   refine⟨v :: f,by simpa using p,λtm l=>?_⟩
   have B:fx P ⟨tm,H⟩ (.cell a t)=some v:=by
    unfold me at d
    simp only[fx,l a]
    split at d
    ·rename_i r i j g n F J A
     rw[F,J,A]
     dsimp only
     split at d
     ·rename_i b I
      rw[I]
      dsimp only
      simp only[fa,aC]at d
      obtain⟨z,G,e⟩:=d
      cases e
      exact G
     ·cases d
    ·cases d
   simp only[jQ,B,q tm l,lh,lV,cQ]
theorem CC{E:Env}{fn:Func}{s:bU}{H:aa}{Q:AV->aa->Prop}(h:tY E.P s H Q fn.results.toList []) : ∃y,Q y H /\∀tm,b9 tm s->md E.P fn ⟨tm,H⟩=some y:=by
 obtain⟨c,e,f⟩:=Ce (fn:=fn) h
 refine⟨pack c,by simpa using e,λtm d=>?_⟩
 unfold md
 rw[f tm d]
 match c with
 | []=>rfl
 | [x]=>rfl
 | x :: y :: zs=>rfl
theorem gZ{E:Env}{fn:Func}{rd:Option Ref}{dep:Nat}{d c:List Item}{s:bU}{H:aa}{Q:AV->aa->Prop}
 (g : ∀n tm,bo E (n+1) rd fn.ntmps dep d ⟨tm,H⟩=bo E n rd fn.ntmps dep c ⟨tm,H⟩) (h:mW E fn rd dep c s H Q):mW E fn rd dep d s H Q:=by
 intro tm f
 obtain⟨y,H',e,n,i⟩:=h tm f
 refine⟨y,H',e,n+1,λm l=>?_⟩
 obtain⟨m,rfl⟩ : ∃j,m=j+1:=⟨m - 1,by omega⟩
 rw[g]
 exact i m (by omega)
theorem BE{E:Env}{fn:Func}{rd:Option Ref}{dep:Nat}{b:Code}{k:List Item}{s:bU}{H:aa}{Q:AV->aa->Prop}(h:mW E fn rd dep (.code b :: .inLoop b :: k) s H Q):mW E fn rd dep (.inLoop b :: k) s H Q:=
 gZ (λn tm=>by simp only[bo]) h
theorem zt{E:Env}{fn:Func}{rd:Option Ref}{dep:Nat}{b:Code}{k:List Item}{s:bU}{H:aa}{Q:AV->aa->Prop}(h:mW E fn rd dep (.inLoop b :: k) s H Q):mW E fn rd dep (.code (.loop b) :: k) s H Q:=by
 intro tm d
 obtain⟨y,H',c,n,f⟩:=h tm d
 refine⟨y,H',c,n+1,λm i=>?_⟩
 obtain⟨m,rfl⟩ : ∃g,m=g+1:=⟨m - 1,by omega⟩
 have:=f (m+1) (by omega)
 have e:bo E (m+1) rd fn.ntmps dep (.code (.loop b) :: k) ⟨tm,H⟩=bo E (m+1) rd fn.ntmps dep (.inLoop b :: k) ⟨tm,H⟩:=by simp only[bo]
 rw[e]
 exact this
theorem uJ{E:Env}{fn:Func}{rd:Option Ref}{dep:Nat}{c:List Item}{s:bU}{l:List Nat}{H:aa}{Q:AV->aa->Prop}(h:Gg E fn rd dep c (pn s l) H Q):mW E fn rd dep c s H Q:=by
 have:=h.h s
 rwa [CZ]at this
theorem sS{E:Env}{fn:Func}{rd:Option Ref}{dep c:Nat}{d:List Item}{s:bU}{H:aa}{Q:AV->aa->Prop}
 (g : ∀n tm,rd.isSome=true\/c<=2->bo E (n+1) rd fn.ntmps dep d ⟨tm,H⟩=(match rd with | none=>some ⟨tm,H⟩ | some r=>mN (some r) ⟨tm,H⟩ c)) (h:wy E.P fn rd c s H Q):mW E fn rd dep d s H Q:=by
 intro tm j
 cases rd with
 | none=>
  unfold wy at h
  dsimp only at h
  cases f:Nat.ble c 2 with
  | false=>rw[f]at h;exact h.elim
  | true=>
   rw[f]at h
   obtain⟨y,i,p⟩:=CC h
   refine⟨y,H,i,1,λm l=>?_⟩
   obtain⟨m,rfl⟩ : ∃e,m=e+1:=⟨m - 1,by omega⟩
   exact⟨⟨tm,H⟩,g m tm (.inr (wo f)),p tm j,rfl⟩
 | some r=>
  refine⟨.v (.int .i64 c),H,h,1,λm l=>?_⟩
  obtain⟨m,rfl⟩ : ∃e,m=e+1:=⟨m - 1,by omega⟩
  exact⟨⟨tm,H⟩,c,g m tm (.inl rfl),rfl,rfl⟩
theorem BP{E:Env}{ops:Array Oper}{s:bU}{H:aa}{tm:List AV}(c:b9 tm s)(h:D6 E (ji E ops) ops s H):jM E ops ⟨tm,H⟩=true:=by
 unfold jM
 rw[iK,bR]
 refine .inr ⟨?_,?_⟩
 ·refine Eq.trans ?_ h.1
  congr 1
  funext p
  unfold qq CF CE
  rw[c,c]
  rfl
 ·rw[bR]
  refine⟨Eq.trans ?_ h.2.1,Eq.trans ?_ h.2.2⟩
  ·congr 1
   funext o
   unfold ma rY
   generalize o.op=op
   cases op<;>try rfl
   rename_i t a x
   cases a<;>try rfl
   rename_i t'
   dsimp only
   rw[c t']
   rfl
  ·congr 1
   funext o
   unfold s8 AL
   congr 1
   cases Gc o.op with
   | none=>rfl
   | some t=>
    dsimp only
    rw[c t]
    rfl
theorem jR{E:Env}{fn:Func}{rd:Option Ref}{dep:Nat}{live:Nat->Option (List Nat)}{cut:Nat->Bool}{Q:AV->aa->Prop} : ∀ {n:Nat} {d:List Item} {s:bU} {H:aa},
 wp E fn rd dep live cut Q n d s H->mW E fn rd dep d s H Q:=by
 intro n
 induction n with
 | zero=>intro d s H h;exact h
 | succ n f=>
  intro d s H h
  have g : ∀ {k:List Item} {x:Option (List Nat)},(match x with | some l=>Gg E fn rd dep k (pn s l) H Q | none=>mW E fn rd dep k s H Q)->mW E fn rd dep k s H Q:=by
   intro k x h
   cases x with
   | some l=>exact uJ h
   | none=>exact h
  unfold wp at h
  split at h
  ·exact sS (λn tm _=>by cases rd<;>simp only[bo]) h
  ·rename_i k
   split at h
   ·exact h.elim
   ·rename_i r
    obtain⟨info,S,h⟩:=h.h
    intro tm i
    obtain⟨y,H',q,n,F⟩:=f h tm i
    refine⟨y,H',q,n+1,λm K=>?_⟩
    obtain⟨m,rfl⟩ : ∃v,m=v+1:=⟨m - 1,by omega⟩
    have:=F m (by omega)
    have e:bo E (m+1) (some r) fn.ntmps dep (.beginRound :: k) ⟨tm,H⟩=bo E m (some r) fn.ntmps dep k ⟨tm,H.put r (some (kR 1 info))⟩:=by simp only[bo,S]
    rw[e]
    exact this
  ·rename_i c k
   split at h
   ·exact gZ (λn tm=>by simp only[bo]) (f h)
   ·exact gZ (λn tm=>by simp only[bo]) (f h)
   ·exact sS (λn tm _=>by cases rd<;>simp[bo,mN]) h
   ·exact gZ (λn tm=>by simp only[bo]) (f h)
   ·rename_i c a b
    replace h:=h.h
    unfold Kf at h
    split at h
    ·rename_i w R
     have A:mW E fn rd dep (.code (cond w a b) :: k) s H Q:=by cases w<;>exact f h
     intro tm i
     obtain⟨y,H',q,n,F⟩:=A tm i
     refine⟨y,H',q,n+1,λm K=>?_⟩
     obtain⟨m,rfl⟩ : ∃v,m=v+1:=⟨m - 1,by omega⟩
     have:=F m (by omega)
     have e:bo E (m+1) rd fn.ntmps dep (.code (.cond c a b) :: k) ⟨tm,H⟩=bo E m rd fn.ntmps dep (.code (cond w a b) :: k) ⟨tm,H⟩:=by
      simp only[bo,mm i,R]
      cases w<;>rfl
     rw[e]
     exact this
    ·exact h.elim
   ·exact gZ (λn tm=>by simp only[bo]) (f h)
   ·exact gZ (λn tm=>by simp only[bo]) (f h)
   ·exact zt (g h)
   ·rename_i id
    split at h
    ·rename_i k' G
     exact gZ (λn tm=>by simp only[bo,G]) (f h)
    ·rename_i G
     exact sS (λn tm z=>by
      simp only[bo,G]
      cases rd with
      | none=>
       rcases z with z | z
       ·cases z
       ·omega
      | some r=>rfl) h
   ·exact g h
   ·rename_i id ops u
    split at h
    ·split at h
     ·exact uJ h
     ·exact h.elim
    ·obtain⟨L,H',j,J⟩:=Cf h
     have O:mW E fn rd dep k L H' Q /\∀tm,b9 tm L->(u && !jM E ops ⟨tm,H'⟩)=false:=by
      cases u with
      | false=>exact⟨f j,λ_ _=>rfl⟩
      | true=>
       cases hp:ji E ops with
       | nil=>
        rw[hp]at j
        refine⟨f j,λtm i=>?_⟩
        unfold jM
        rw[hp]
        rfl
       | cons p ps=>
        rw[hp]at j
        exact⟨f j.2,λtm i=>by rw[BP i (by rw[hp];exact j.1)];rfl⟩
     obtain⟨A,B⟩:=O
     intro tm i
     obtain⟨tm1,t1,n1,M⟩:=J tm i
     obtain⟨y,N,q,n2,I⟩:=A tm1 t1
     refine⟨y,N,q,max n1 n2+1,λm K=>?_⟩
     obtain⟨m,rfl⟩ : ∃v,m=v+1:=⟨m - 1,by omega⟩
     have:=I m (by omega)
     have e:bo E (m+1) rd fn.ntmps dep (.code (.region id ops u) :: k) ⟨tm,H⟩=bo E m rd fn.ntmps dep k ⟨tm1,H'⟩:=by
      simp only[bo,M m (by omega),B tm1 t1]
      simp
     rw[e]
     exact this
   ·exact h.elim
  ·exact g h
  ·exact gZ (λn tm=>by simp only[bo]) (f h)
  ·exact gZ (λn tm=>by simp only[bo]) (f h)
  ·exact h.elim
def qC:Nat->List AV->List (Nat × AV)
 | _,[]=>[]
 | i,x :: xs=>(i,x) :: qC (i+1) xs
theorem sD(args:List AV)(i:Nat):B0 (λ_=>AV.undef) (qC 0 args) i=cm args i:=by
 have : ∀(j:Nat)(l:List AV),B0 (λ_=>AV.undef) (qC j l) (j+i)=cm l i:=by
  induction i with
  | zero=>
   intro j l
   cases l with
   | nil=>rfl
   | cons x l=>
    show cond (Nat.beq (j+0) j) x _=x
    rw[show Nat.beq (j+0) j=true from by simp]
    rfl
  | succ i c=>
   intro j l
   cases l with
   | nil=>rfl
   | cons x l=>
    show cond (Nat.beq (j+(i+1)) j) x (B0 (λ_=>AV.undef) (qC (j+1) l) (j+(i+1)))=cm l i
    have e:Nat.beq (j+(i+1)) j=false:=by
     cases h:Nat.beq (j+(i+1)) j with
     | false=>rfl
     | true=>have:=eV h;omega
    rw[e]
    show B0 _ _ _=_
    rw[<-c (j+1) l,show j+1+i=j+(i+1) by omega]
 simpa using this 0 args
def eK(E:Env)(f:FuncId)(x:AV)(H:aa)(y:AV):Prop:=
 if lK (E.mode f)=true then (ab H.get depth x).Nodup/\aG H.get depth x=some y else view H.get depth x=some y
theorem iA{E:Env}{f:FuncId}{fn:Func}{c:Code}{args:List AV}{y:AV}(j:E.spec f args=none)(g:E.allowed f=true)(w:E.P.funcs[f]?=some fn)(z:fn.body=some c)(A:Nat.ble args.length fn.ntmps=true)
 (h:gm E fn 0 [.code c] (qC 0 args) [] λx H=>eK E f x H y):aN E f args=some y:=by
 rw[mL]
 obtain⟨x,H,d,n,q⟩:=h.h (λ_=>AV.undef) args λi=>(sD args i).symm
 refine⟨n,λm l=>?_⟩
 obtain⟨st,e,p,v⟩:=q m l
 subst v
 unfold bM
 rw[j]
 unfold oW
 simp only[g,if_true,w,z,if_pos (wo A),e,p,Option.map_some]
 unfold eK at d
 split
 ·rename_i e
  rw[if_pos e]at d
  rw[if_pos d.1]
  exact d.2
 ·rename_i e
  rw[if_neg e]at d
  exact d
theorem mh{E:Env}{f:FuncId}{fn:Func}{c:Code}{dep:Nat}{args:List AV}{H:aa}{Q:AV->aa->Prop}(l:E.mode f=2)(d:E.allowed f=true)(z:E.P.funcs[f]?=some fn)(A:fn.body=some c)(B:Nat.ble args.length fn.ntmps=true)
 (h:gm E fn (dep+1) [.code c] (qC 0 args) H Q) (g:E.thrSpec f args H=none:=by rfl) : ∃y H',cB E dep (.fn f) args H=some (y,H')/\Q y H':=by
 obtain⟨x,H1,j,n,v⟩:=h.h (λ_=>AV.undef) args λi=>(sD args i).symm
 refine⟨x,H1,kq.2 ⟨n,λm e=>?_⟩,j⟩
 obtain⟨st,p,q,w⟩:=v m e
 unfold cJ
 dsimp only
 rw[g]
 dsimp only
 rw[if_pos l]
 unfold oW
 simp only[d,if_true,z,A,if_pos (wo B),p,q,Option.map_some,w]
theorem Bq{E:Env}{f:FuncId}{args:List AV}{y:AV}(h:E.spec f args=some y):aN E f args=some y:=by
 rw[mL]
 exact⟨0,λm _=>by unfold bM;rw[h]⟩
theorem Dg{E:Env}{f:FuncId}{args:List AV}{y:AV}(h:aN E f args=some y) : ∃n,bM E (bo E n) f args=some y:=by
 obtain⟨n,c⟩:=mL.1 h
 exact⟨n,c n (a7 _)⟩
def iy(r:Nat):Nat->List Item->Option (List Item)
 | 0,_=>none
 | n+1,items=>
  match items with
  | .code c :: k=>(match c with
   | .seq a b=>iy r n (.code a :: .code b :: k)
   | .cond _ a b=>(match iy r n (.code a :: k) with
    | some l=>some l
    | none=>iy r n (.code b :: k))
   | .block id b=>iy r n (.code b :: .inBlock id :: k)
   | .scope b=>iy r n (.code b :: .inScope b :: k)
   | .loop b=>(match fm b with
    | some i=>cond (Nat.beq i r) (some (.inLoop b :: k)) (iy r n (.code b :: .inLoop b :: k))
    | none=>none)
   | .exit id=>(match exitTo id k with
    | some k'=>iy r n k'
    | none=>none)
   | .skip | .label _ | .region _ _ _=>iy r n k
   | _=>none)
  | .inBlock _ :: k | .inScope _ :: k=>iy r n k
  | _=>none
def zN:List Item->List Item
 | .inLoop b :: k => .code b :: .inLoop b :: k
 | l=>l
theorem nw{E:Env}{fn:Func}{rd:Option Ref}{dep:Nat}{c:List Item}{l:List (Nat × AV)}{H:aa}{Q:AV->aa->Prop}(h : ∀g,mW E fn rd dep (zN c) (B0 g l) H Q):Gg E fn rd dep c l H Q:=by
 refine⟨λg=>?_⟩
 have:=h g
 unfold zN at this
 split at this
 ·exact BE this
 ·exact this
def oi(x:AV):Option (Option Int):=match kT x with
 | some n=>some (some n)
 | none=>none
end
section
end
section
abbrev aI(n:Int):AV := .v (.int .i64 n)
abbrev aB(b:Bool):AV := .v (.bool b)
def a8(n:UInt8):AV := .v (.int .u8 (n.toNat:Int))
abbrev aS(s:ByteArray):AV := .v (.string s)
abbrev bt:AV := .v (.slice none 0 0)
theorem vU{w:bk}{K:AV->aa->Prop}{m:Mk K}{v:AV}{H:aa}(c:w=some (v,H))(h:K v H):ga w K m:=⟨v,H,c,h⟩
@[simp] theorem Jj(v:AV)(K:AV->Prop)(m:Mk K):fB (some (v,[])) K m↔K v:=
 ⟨λ⟨⟨w,hw,h⟩⟩=>by cases hw;exact h,λh=>⟨v,rfl,h⟩⟩
@[simp] theorem Ji(v:AV)(H:aa)(K:AV->aa->Prop)(m:Mk K):ga (some (v,H)) K m↔K v H:=
 ⟨λ⟨⟨w,_,hw,h⟩⟩=>by cases hw;exact h,λh=>⟨v,H,rfl,h⟩⟩
@[simp] theorem Kd(c:Prop)[Decidable c](q:bk)(K:AV->aa->Prop)(m:Mk K):ga (if c then q else none) K m↔c/\ga q K m:=by
 by_cases d:c
 ·simp[d]
 ·simp only[if_neg d,d,false_and,iff_false]
  rintro⟨v,_,e,_⟩;cases e
theorem AM{x:Option AV}{A B:Prop}{m:Mk (A,B)}:br x A B m↔Kf x A B:=⟨λh=>h.h,λh=>⟨h⟩⟩
@[simp] theorem J1(A B:Prop)(m:Mk (A,B)):br (some (aB true)) A B m↔A:=AM
@[simp] theorem Jq(A B:Prop)(m:Mk (A,B)):br (some (aB false)) A B m↔B:=AM
theorem nD{b:Bool}{A B:Prop}{m:Mk (A,B)}(c:b=true->A)(d:b=false->B):br (some (aB b)) A B m:=by
 cases b
 ·exact⟨d rfl⟩
 ·exact⟨c rfl⟩
@[simp] theorem Ja(q:dW)(K:AV->Prop)(m:Mk (q,K)):gQ (aB true) true q K m↔fB q K:=⟨λh=>h.h,λh=>⟨h⟩⟩
@[simp] theorem Jd(q:dW)(K:AV->Prop)(m:Mk (q,K)):gQ (aB false) false q K m↔fB q K:=⟨λh=>h.h,λh=>⟨h⟩⟩
@[simp] theorem Jb(q:dW)(K:AV->Prop)(m:Mk (q,K)):gQ (aB true) false q K m↔K AV.undef:=⟨λh=>h.h,λh=>⟨h⟩⟩
@[simp] theorem Jc(q:dW)(K:AV->Prop)(m:Mk (q,K)):gQ (aB false) true q K m↔K AV.undef:=⟨λh=>h.h,λh=>⟨h⟩⟩
@[simp] theorem Kk(w:Bool)(q:dW)(K:AV->Prop)(m:Mk (q,K)):gQ AV.undef w q K m↔K AV.undef:=⟨λh=>h.h,λh=>⟨h⟩⟩
@[simp] theorem I6(H:aa)(q:bk)(K:AV->aa->Prop)(m:Mk (q,K)):gW (aB true) true H q K m↔ga q K:=⟨λh=>h.h,λh=>⟨h⟩⟩
@[simp] theorem I9(H:aa)(q:bk)(K:AV->aa->Prop)(m:Mk (q,K)):gW (aB false) false H q K m↔ga q K:=⟨λh=>h.h,λh=>⟨h⟩⟩
@[simp] theorem I7(H:aa)(q:bk)(K:AV->aa->Prop)(m:Mk (q,K)):gW (aB true) false H q K m↔K AV.undef H:=⟨λh=>h.h,λh=>⟨h⟩⟩
@[simp] theorem I8(H:aa)(q:bk)(K:AV->aa->Prop)(m:Mk (q,K)):gW (aB false) true H q K m↔K AV.undef H:=⟨λh=>h.h,λh=>⟨h⟩⟩
@[simp] theorem HQ(v:AV):fa (some v)=some (v,[]):=id rfl
@[simp] theorem HX(H:aa)(r:Ref)(v:AV)(c:List ax):gx H r (some (v,c))=some (v,keyed r 0 c H):=id rfl
@[simp] theorem uA(H:aa)(r:Ref):gx H r none=none:=id rfl
@[simp] theorem G9(r:Ref)(k:Nat)(H:aa):keyed r k [] H=H:=id rfl
@[simp] theorem Ha(r:Ref)(k:Nat)(b:ax)(c:List ax)(H:aa):keyed r k (b :: c) H=keyed r (k+1) c (({ r with k:=k},some b) :: H):=id rfl
@[simp] theorem IT(c:Bool)(x:AV × aa)(b:bk):tj c (some x) b=some x:=id rfl
@[simp] theorem xg(b:bk):tj true none b=b:=id rfl
@[simp] theorem GU(a b:Option AV):oB (some (aB true)) a b=fa a:=id rfl
@[simp] theorem FV(a b:Option AV):oB (some (aB false)) a b=fa b:=id rfl
@[simp] theorem J9(k:IntKind)(n:Int):oi (.v (.int k n))=some (some n):=id rfl
@[simp] theorem Ip(cs:List AV):(AV.agg cs).cells=cs:=id rfl
@[simp] theorem JT(x:Value):(AV.v x).cells=[.v x]:=id rfl
@[simp] theorem JU(x:UInt8):(a8 x).cells=[a8 x]:=id rfl
@[simp] theorem Im(z:Nat)(es:List AV)(c:Option Nat):(AV.cE z es c).cells=[.cE z es c]:=id rfl
@[simp] theorem Il(r:Ref)(o n:Nat)(c:Option Nat):(AV.aD r o n c).cells=[.aD r o n c]:=id rfl
@[simp] theorem JM(k:IntKind)(n:Int):(AV.v (.int k n)).one=true:=id rfl
@[simp] theorem IU(b:Bool):(AV.v (.bool b)).one=true:=id rfl
@[simp] theorem JK:bt.one=true:=id rfl
@[simp] theorem Kh(x:UInt8):(a8 x).one=true:=id rfl
@[simp] theorem JL(z:Nat)(es:List AV)(c:Option Nat):(AV.cE z es c).one=true:=id rfl
@[simp] theorem JJ(r:Ref)(o n:Nat)(c:Option Nat):(AV.aD r o n c).one=true:=id rfl
section
variable(P:Program)(t:TypeId)(D C:Operand)(k:IntKind)(a b:Int)
@[simp] theorem II:cK P .lss t D C (some (.v (.int k a))) (some (.v (.int k b)))=some (aB (decide (a<b)),[]):=by cases k<;>rfl
@[simp] theorem IJ:cK P .leq t D C (some (.v (.int k a))) (some (.v (.int k b)))=some (aB (decide (a<=b)),[]):=by cases k<;>rfl
@[simp] theorem IK:cK P .gtr t D C (some (.v (.int k a))) (some (.v (.int k b)))=some (aB (decide (b<a)),[]):=by cases k<;>rfl
@[simp] theorem IL:cK P .geq t D C (some (.v (.int k a))) (some (.v (.int k b)))=some (aB (decide (b<=a)),[]):=by cases k<;>rfl
@[simp] theorem IM:cK P .eql t D C (some (.v (.int k a))) (some (.v (.int k b)))=some (aB (decide (a=b)),[]):=by
 have:(a == b)=decide (a=b):=by by_cases h:a=b<;>simp[h]
 rw[<-this];cases k<;>rfl
@[simp] theorem IH:cK P .neq t D C (some (.v (.int k a))) (some (.v (.int k b)))=some (aB (!decide (a=b)),[]):=by
 have:(a != b) = !decide (a=b):=by by_cases h:a=b<;>simp[h]
 rw[<-this];cases k<;>rfl
@[simp] theorem CP:cK P .add t D C (some (.v (.int k a))) (some (.v (.int k b)))=some (.v (.int k (k.wrap (a+b))),[]):=by cases k<;>rfl
@[simp] theorem IG:cK P .sub t D C (some (.v (.int k a))) (some (.v (.int k b)))=some (.v (.int k (k.wrap (a - b))),[]):=by cases k<;>rfl
theorem sv{c:IntKind}(e:0<=b):cK P .shr t D C (some (.v (.int k a))) (some (.v (.int c b)))=some (.v (.int k (a.fdiv (2 ^ min b.toNat k.bits))),[]):=by
 have h:Op.shift .shr k a c b=pure (.int k (a.fdiv (2 ^ min b.toNat k.bits))):=by unfold Op.shift;rw[if_neg (by omega)]
 have d:xe P .shr t D C (.int k a) (.int c b)=some (.int k (a.fdiv (2 ^ min b.toNat k.bits))):=by
  have:xe P .shr t D C (.int k a) (.int c b)=cO P (Op.shift .shr k a c b):=rfl
  rw[this,h];rfl
 simp only[cK,zk,gE,gT,d,oe,Bool.or_self,kF,if_false,cQ,fk,scalar,if_true,fa,Option.map_some]
@[simp] theorem JG(b:Bool):ET P .not (some (aB b))=some (aB (!b),[]):=id rfl
def u8(n:Int):UInt8:=UInt8.ofBitVec (BitVec.ofInt 8 n)
@[simp] theorem Ir(n:Int):IntKind.u8.wrap n=((u8 n).toNat:Int):=by
 unfold u8;rw[IntKind.wrap_u8,UInt8.toNat_ofBitVec,BitVec.toNat_ofInt];omega
theorem AT(n:Int):(u8 n).toNat=(n % 256).toNat:=by
 unfold u8;rw[UInt8.toNat_ofBitVec,BitVec.toNat_ofInt];rfl
section
variable(x y:UInt8)
@[simp] theorem HT:cK P .add t D C (some (a8 x)) (some (a8 y))=some (a8 (x+y),[]):=by
 unfold a8;rw[CP,Ir];congr 5
end
section
variable(x y:UInt32)
end
theorem nm{P:Program}{t:TypeId}{d:TypeDesc}(h:P.underlying t=some d):cO P (Go.underlying t)=some d:=by
 unfold Go.underlying
 rw[dT]
 show(some P).bind _=_
 rw[cQ,h]
 rfl
def intKind(P:Program)(t:TypeId):Option IntKind:=match P.underlying t with | some (.int k)=>some k | _=>none
theorem pC{P:Program}{t:TypeId}{k:IntKind}(h:intKind P t=some k):P.underlying t=some (.int k):=by
 unfold intKind at h
 split at h
 ·cases h;assumption
 ·cases h
theorem uo{g:bD}{r:Ref}{c e:TypeId}{k':IntKind}(f:(P.underlying c).isNone=false)(i:intKind P e=some k)(n:Int) :
 bI P g r c e (some (.v (.int k' n)))=some (.v (.int k (k.wrap n)),[]):=by
 have i:=pC i
 obtain⟨d,f⟩ : ∃d,P.underlying c=some d:=by cases h:P.underlying c with | none=>rw[h]at f;cases f | some d=>exact⟨d,rfl⟩
 have:cO P (Go.convert c e (.int k' n))=some (.int k (k.wrap n)):=by
  unfold Go.convert
  rw[dT,nm f,cQ,dT,nm i,cQ]
  cases d<;>rfl
 simp only[bI,this,cQ,fk,scalar,if_true,fa,Option.map_some]
@[simp] theorem HS{g:bD}{r:Ref}{d c:TypeId}{k':IntKind}(e:(P.underlying d).isNone=false)(f:intKind P c=some .i64)(n:Int) :
 bI P g r d c (some (.v (.int k' n)))=some (aI (IntKind.i64.wrap n),[]):=uo P .i64 e f n
end
def cR(l:List UInt8):List AV:=l.map a8
@[simp] theorem jh(l:List UInt8):(cR l).length=l.length:=by simp[cR]
@[simp] theorem JV:cR []=[]:=id rfl
theorem CL(P:Program)(d:Bool)(g:bD)(r:Ref)(t:TypeId)(e:List TypeId)(x:AV)(c : ∀r',x ≠ .mp r'):bS P d g r .len ⟨t :: e⟩ [x]=tv P (some t) x:=by
 unfold bS
 cases x<;>first | rfl | (rename_i q;exact(c q rfl).elim)
@[simp] theorem JH(P:Program)(d:Bool)(g:bD)(r:Ref)(t:TypeId)(c:List TypeId)(x:AV)(f:(kS x).isSome=true):bS P d g r .len ⟨t :: c⟩ [x]=tv P (some t) x:=by
 refine CL P d g r t c x λr' e=>?_
 subst e;cases f
@[simp] theorem HZ:kS bt=some 0:=id rfl
@[simp] theorem HY(r:Ref)(o n:Nat)(c:Option Nat):kS (.aD r o n c)=some n:=id rfl
@[simp] theorem GR{P:Program}{t:TypeId}(e:n8 P t=none)(c:isStr P t=false)(d:(bg P t).isSome=true)(x:AV):tv P (some t) x=(kS x).map λn=>(aI n,[]):=by
 simp only[tv,e,c,d];rfl
theorem xL{P:Program}{t:TypeId}{z:Nat}(h:(bg P t).bind (ay P)=some z) : ∃e,bg P t=some e/\ay P e=some z:=by
 simpa [dL] using h
@[simp] theorem sr{P:Program}{t:TypeId}{z:Nat}(h:(bg P t).bind (ay P)=some z)(g:bD)(es:List AV)(c:Option Nat)(f:IntKind)(k:Int) :
 bj P g t (some (.cE z es c)) (some (.v (.int f k)))=if 0<=k/\k<es.length then some (.iptr z es k.toNat 0,[]) else none:=by
 obtain⟨e,he,d⟩:=xL h
 simp only[bj,cQ,kT,he,d,and_true]
@[simp] theorem GQ{P:Program}{t:TypeId}(d:(fw P t).isSome=true)(c:(ay P t).isSome=true)(g:bD)(z:Nat)(es:List AV)(i j:Nat) :
 jU P g t (some (.iptr z es i j))=fa (bq es i j ((ay P t).getD 0) ((fw P t).getD false)):=by
 obtain⟨a,d⟩:=fe.1 d
 obtain⟨n,c⟩:=fe.1 c
 simp only[jU,d,c,bQ]
def Df(x:Option ax)(i j n:Nat)(c:Bool):dW:=match x with
 | some b=>fa (bq b.es i j n c)
 | none=>none
@[simp] theorem G8(b:ax)(i j n:Nat)(c:Bool):Df (some b) i j n c=fa (bq b.es i j n c):=id rfl
@[simp] theorem HR{P:Program}{t:TypeId}(d:(fw P t).isSome=true)(c:(ay P t).isSome=true)(g:bD)(r:Ref)(i j:Nat) :
 jU P g t (some (.ptr r i j))=Df (g r) i j ((ay P t).getD 0) ((fw P t).getD false):=by
 obtain⟨a,d⟩:=fe.1 d
 obtain⟨n,c⟩:=fe.1 c
 simp only[jU,d,c,bQ]
 rfl
theorem sk{es:List AV}{i j n:Nat}{e x:AV}(h:es[i]?=some e)(c:e.cells[j]?=some x):bq es i j n false=some x:=by
 simp only[bq,h,c];rfl
@[simp] theorem BW(e:AV)(es:List AV)(j n:Nat):bq (e :: es) 0 j n true=if j+n<=e.cells.length/\0<n then some (.agg ((e.cells.drop j).take n)) else none:=id rfl
@[simp] theorem BV(e:AV)(es:List AV)(j n:Nat):bq (e :: es) 0 j n false=e.cells[j]?:=id rfl
@[simp] theorem GJ(l:List UInt8)(i n:Nat):bq (cR l) i 0 n false=(l[i]?).map a8:=by
 unfold bq cR
 rw[fU]
 cases l[i]?<;>rfl
def Sl(z:Nat)(es:List AV)(x:AV):Prop:=(x=bt/\es=[]) \/∃c,x = .cE z es c/\es.length<=c.getD es.length
theorem Sl.mk(z:Nat)(es:List AV):Sl z es (.cE z es none) := .inr ⟨none,rfl,a7 _⟩
theorem Sl.len{z:Nat}{es:List AV}{x:AV}(h:Sl z es x):kS x=some es.length:=by
 rcases h with ⟨rfl,rfl⟩ | ⟨c,rfl,_⟩<;>rfl
theorem Sl.cE{z:Nat}{es:List AV}{x:AV}(h:Sl z es x){i:Nat}(d:i<es.length) : ∃c,x = .cE z es c/\es.length<=c.getD es.length:=by
 rcases h with ⟨rfl,rfl⟩ | h
 ·simp at d
 ·exact h
theorem Sl.view{z:Nat}{es:List AV}{x:AV}(h:Sl z es x)(g:bD)(n:Nat):view g (n+1) x=some x:=by
 rcases h with ⟨rfl,rfl⟩ | ⟨c,rfl,_⟩<;>rfl
theorem Sl.refs{z:Nat}{es:List AV}{x:AV}(h:Sl z es x)(g:bD)(n:Nat):ab g n x=[]:=by
 rcases h with ⟨rfl,rfl⟩ | ⟨c,rfl,_⟩<;>cases n<;>rfl
theorem Sl.imp{z:Nat}{es:List AV}{x:AV}(h:Sl z es x)(r:Ref)(n:Nat):ad r n x []=(x,[]):=by
 rcases h with ⟨rfl,rfl⟩ | ⟨c,rfl,_⟩<;>cases n<;>rfl
theorem Sl.cells{z:Nat}{es:List AV}{x:AV}(h:Sl z es x):x.cells=[x]/\x.one=true:=by
 rcases h with ⟨rfl,_⟩ | ⟨c,rfl,_⟩<;>exact⟨rfl,rfl⟩
@[simp] theorem J4(g:bD)(n:Nat)(x:Value):view g (n+1) (.v x)=some (.v x):=id rfl
@[simp] theorem J5(g:bD)(n:Nat)(x:UInt8):view g (n+1) (a8 x)=some (a8 x):=id rfl
@[simp] theorem It(g:bD)(n z:Nat)(es:List AV)(c:Option Nat):view g (n+1) (.cE z es c)=some (.cE z es c):=id rfl
@[simp] theorem Iu(g:bD)(n:Nat)(cs:List AV):view g (n+1) (.agg cs)=(cs.mapM (view g n)).map .agg:=id rfl
@[simp] theorem Is(g:bD)(n:Nat)(cs:List AV):view g (n+1) (.tup cs)=(cs.mapM (view g n)).map .tup:=id rfl
theorem wH{g:bD}{r:Ref}{b:ax}(d:g r=some b)(n o l:Nat)(c:Option Nat):view g (n+1) (.aD r o l c)=if b.arr=true/\o+l<=b.es.length then some (.cE b.esz ((b.es.drop o).take l) c) else none:=by
 simp only[view,d]
theorem cC:depth=8:=Nat.le_antisymm (a7 8) (a7 8)
end
section
@[simp] theorem aa.bJ(r q:Ref)(b:Option ax)(H:aa):aa.get ((r,b) :: H) q=if r=q then b else aa.get H q:=id rfl
@[simp] theorem aa.get_nil(q:Ref):aa.get [] q=none:=id rfl
attribute [simp] aa.aj
@[simp] theorem JI(P:Program)(r:Ref)(e:TypeId)(x:AV)(c:0<(ay P e).getD 0):tz P r e (some x)=if some x.cells.length=ay P e/\x.cells.all AV.one=true then some (.ptr r 0 0,[⟨(ay P e).getD 0,[x],false,false⟩]) else none:=by
 unfold tz
 cases h:ay P e with
 | none=>simp
 | some n=>rw[h]at c;simp only[bQ]at c;simp[c]
def Fr(H:aa):Prop :=∀d t g k,H.gen d t<=g->H.get ⟨d,t,g,k⟩=none
theorem Fr.nil:Fr []:=λ_ _ _ _ _=>rfl
theorem Fr.keyed{H:aa}(h:Fr H)(j:List ax)(d t:Nat):Fr (Ab.keyed ⟨d,t,H.gen d t,0⟩ 0 j H):=by
 intro l t' g k c
 rw[aa.fM]at c
 rw[aa.nX]
 by_cases i:j=[]
 ·subst i
  rw[if_neg (by simp)]at c
  simp[h _ _ _ _ c]
 ·by_cases f:l=d/\t'=t
  ·obtain⟨rfl,rfl⟩:=f
   rw[if_pos ⟨rfl,rfl,i⟩]at c
   dsimp only at c ⊢
   rw[if_neg (by intro e;have:=e.2.2.1;omega)]
   exact h _ _ _ _ (by omega)
  ·rw[if_neg (by intro e;exact f ⟨e.1,e.2.1⟩)]at c
   dsimp only at c ⊢
   rw[if_neg (by intro e;exact f ⟨e.1,e.2.1⟩)]
   exact h _ _ _ _ c
theorem Fr.put{H:aa}(h:Fr H){r:Ref}(b:Option ax)(f:(H.get r).isSome=true):Fr (H.put r b):=by
 intro d t g k c
 rw[aa.b8 H r b f]at c
 rw[aa.aj]
 split
 ·rename_i e
  subst e
  rw[h _ _ _ _ c]at f
  cases f
 ·exact h _ _ _ _ c
theorem Fr.cons{H:aa}(h:Fr H)(d t:Nat)(b:Option ax):Fr ((⟨d,t,H.gen d t,0⟩,b) :: H):=by
 intro l t' g k c
 simp only[aa.gen]at c
 rw[aa.bJ]
 split at c
 ·rename_i e
  obtain⟨rfl,rfl⟩:=e
  rw[if_neg (by intro e;injection e;omega)]
  exact h _ _ _ _ (by omega)
 ·rename_i e
  rw[if_neg (by intro j;injection j with f i;exact e ⟨f,i⟩)]
  exact h _ _ _ _ c
theorem qY{H:aa}(c:Fr H){q:Ref}(h:(H.get q).isSome=true)(d t k:Nat):(⟨d,t,H.gen d t,k⟩:Ref)≠q:=by
 intro e;subst e;rw[c _ _ _ _ (a7 _)]at h;cases h
def Ga(P:Program)(t z by':Nat):Bool:=match bg P t with
 | some e=>ay P e == some z&&db P e == some by'&&(match ep P e with | some zz=>zz.cells.length == z&&zz.cells.all AV.one | none=>false)&&z != 0&&by' != 0
 | none=>false
def zR(P:Program)(t:TypeId):Bool:=(P.underlying t).isSome && !isInt P t
theorem eM{P:Program}{t z by':Nat}(h:Ga P t z by'=true) : ∃e zz,bg P t=some e/\ay P e=some z/\db P e=some by'/\ep P e=some zz/\zz.cells.length=z/\zz.cells.all AV.one=true/\z≠0/\by'≠0:=by
 unfold Ga at h
 split at h
 ·rename_i e i
  simp only[bR,beq_iff_eq,bne_iff_ne]at h
  obtain⟨⟨⟨⟨f,j⟩,c⟩,l⟩,d⟩:=h
  split at c
  ·rename_i zz g
   simp only[bR,beq_iff_eq]at c
   exact⟨e,zz,i,f,j,g,c.1,c.2,l,d⟩
  ·cases c
 ·cases h
def Ec(g:bD)(z:Nat)(new:List AV)(x:AV):Prop:=(x=bt/\new=[])\/(isNum x=false/\x≠bt/\aV g x=some (z,new))
theorem Ec.hY{P:Program}{t z by':Nat}(h:Ga P t z by'=true){e:TypeId}(i:bg P t=some e){g:bD}{new:List AV}{x:AV}(c:Ec g z new x):hY P g e x=some (z,new):=by
 obtain⟨A,zz,f,j,n,w,m,v,p,q⟩:=eM h
 rw[i]at f;cases f
 rcases c with ⟨rfl,rfl⟩ | ⟨l,d,c⟩
 ·simp only[Ab.hY,j,Option.map_some]
 ·unfold Ab.hY
  split
  ·exact(d rfl).elim
  ·simp[isNum]at l
  ·exact c
theorem Ec.num{g:bD}{z:Nat}{new:List AV}{x:AV}(c:Ec g z new x):isNum x=false:=by
 rcases c with ⟨rfl,_⟩ | ⟨d,_⟩
 ·rfl
 ·exact d
theorem Sl.tG{z:Nat}{es:List AV}{x:AV}(h:Sl z es x)(g:bD):Ec g z es x:=by
 rcases h with ⟨rfl,rfl⟩ | ⟨c,rfl,_⟩
 ·exact .inl ⟨rfl,rfl⟩
 ·exact .inr ⟨rfl,(by intro e;cases e),rfl⟩
def tK(z:Nat)(es:List AV)(H:aa)(x:AV):Prop:=(x=bt/\es=[]) \/∃r,x = .aD r 0 es.length none/\H.get r=some ⟨z,es,true,false⟩
theorem Am(z:Nat)(H:aa):tK z [] H bt := .inl ⟨rfl,rfl⟩
theorem tK.len{z:Nat}{es:List AV}{H:aa}{x:AV}(h:tK z es H x):kS x=some es.length:=by
 rcases h with ⟨rfl,rfl⟩ | ⟨r,rfl,_⟩<;>rfl
theorem tK.view{z:Nat}{es:List AV}{H:aa}{x:AV}(h:tK z es H x)(n:Nat) : ∃y,view H.get (n+1) x=some y/\Sl z es y:=by
 rcases h with ⟨rfl,rfl⟩ | ⟨r,rfl,c⟩
 ·exact⟨bt,rfl,.inl ⟨rfl,rfl⟩⟩
 ·refine⟨.cE z es none,?_,Sl.mk z es⟩
  rw[wH c]
  simp
theorem tK.tG{z:Nat}{es:List AV}{H:aa}{x:AV}(h:tK z es H x):Ec H.get z es x:=by
 rcases h with ⟨rfl,rfl⟩ | ⟨r,rfl,c⟩
 ·exact .inl ⟨rfl,rfl⟩
 ·refine .inr ⟨rfl,(by intro e;cases e),?_⟩
  simp[aV,c]
def AV.at?:AV->Option Ref
 | .aD r _ _ _=>some r
 | .ptr r _ _=>some r
 | _=>none
theorem qo{m:List UInt8}{i:Nat}(h:i<m.length)(v:UInt8):eA (cR m) i 0 (a8 v).cells=some (cR (m.set i v)):=by
 unfold eA cR
 rw[fU,bG h]
 show(jC (a8 m[i]) 0 [a8 v]).map _=_
 show some ((m.map a8).set i (a8 v))=_
 rw[List.map_set]
theorem tK.aD{z:Nat}{es:List AV}{H:aa}{x:AV}(h:tK z es H x)(c:es≠[]) : ∃r,x = .aD r 0 es.length none/\H.get r=some ⟨z,es,true,false⟩:=by
 rcases h with ⟨_,rfl⟩ | h
 ·exact(c rfl).elim
 ·exact h
end
end Go.Ab
