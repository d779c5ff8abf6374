/-
  What is to be shown for a run of the abstract machine, as one proposition that is computed from the code. No statement of a seat is proved here.
-/
import Derived.IntWalk
import Derived.Test.YtiidajnodhkidaaGreatAbsEnv
set_option linter.unusedVariables false
set_option linter.unusedSimpArgs false
set_option linter.unusedSectionVars false
set_option linter.unnecessarySimpa false
set_option linter.defProp false
namespace Go.Ab
section
abbrev eY:=Nat->AV
def dw(s:eY):Operand->Option AV
 | .tmp t=>some (s t)
 | .const v=>ofValue v
 | .func f=>some (.fn (.func f) [] [])
 | .global _=>none
def Cy(c:Operand->Option AV):List Operand->Option (List AV)
 | []=>some []
 | o :: os=>match c o,Cy c os with
  | some x,some xs=>some (x :: xs)
  | _,_=>none
def C3(c:Operand->Option AV):List (Nat × Operand)->Option (List (Nat × AV))
 | []=>some []
 | (i,o) :: os=>match c o,C3 c os with
  | some x,some xs=>some ((i,x) :: xs)
  | _,_=>none
def NA(c:Operand->Option AV):Option Operand->Option (Option Int)
 | none=>some none
 | some o=>match (c o).bind uJ with
  | some n=>some (some n)
  | none=>none
def ac7(s:eY)(d:Nat)(v:AV):eY:=λi=>cond (Nat.beq i d) v (s i)
def fh(tm:List AV)(s:eY):Prop :=∀i,dE tm i=s i
def wx{tm:List AV}{s:eY}(h:fh tm s):aW tm=dw s:=by
 funext o;cases o<;>simp[aW,dw,h _]
def D0(c:Operand->Option AV)(l:List Operand):l.mapM c=Cy c l:=by
 induction l with| nil=>rfl| cons o l d=>simp only[oo,d,Cy,th,uu];cases c o<;>cases Cy c l<;>rfl
def E6{tm:List AV}{s:eY}(h:fh tm s)(l:List (Nat × Operand)):iJ tm l=C3 (dw s) l:=by
 induction l with| nil=>rfl| cons o l c=>obtain⟨i,o⟩:=o;unfold iJ at c ⊢;rw[oo,c];simp only[C3,th,uu,wx h];cases dw s o<;>cases C3 (dw s) l<;>rfl
def LP{tm:List AV}{s:eY}(h:fh tm s)(o:Option Operand):nc tm o=NA (dw s) o:=by
 cases o with| none=>rfl| some o=>simp only[nc,NA,wx h];rfl
def fh.set{tm:List AV}{s:eY}(h:fh tm s)(d:Nat)(v:AV):fh (CV tm d v) (ac7 s d v):=by
 intro i;rw[tI];unfold ac7;split;·rename_i e;subst e;simp
 rename_i e;rw[show Nat.beq i d=false from by cases c:Nat.beq i d with | false=>rfl | true=>exact(e (lF c)).elim];exact h i
def AY(c a b:Option AV):jT:=
 match c.bind Fl with
 | some true=>ku a
 | some false=>ku b
 | none=>none
def mA(H:aa)(r:Ref)(q:jT):dA:=
 match q with
 | some (v,bs)=>some (v,keyed r 0 bs H)
 | none=>none
def FK(c:Bool)(a b:dA):dA:=
 match a with
 | some x=>some x
 | none=>cond c b none
def bS(E:Env)(c:Bool)(pc:FuncId->List AV->Option AV)(tc:vl->List AV->aa->dA)(H:aa)(r:Ref)(f:Option AV)(args:List AV):dA:=
 FK c (mA H r (lY E pc H.get r f args)) (ot E pc tc H r f args)
def Ed(E:Env)(c:Bool)(pc:FuncId->List AV->Option AV)(tc:vl->List AV->aa->dA)(H:aa)(r:Ref)(f:Option AV)(args:List AV):dA:=
 FK c (mA H r ((lY E pc H.get r f args).map λp=>(p.1,Qk true p.2))) (ti true E.sm H (ot E pc tc H r f args))
def ee(P:Program)(c:Bool)(H:aa)(r:Ref)(t t':Option TypeId)(s x:AV):dA:=
 FK c (mA H r (fx P H.get r t t' s x)) (kG P H t t' s x)
def lI(P:Program)(u d:Bool)(H:aa)(r:Ref)(t:TypeId)(n:Nat)(c:Option (List (Nat × AV))):dA:=
 FK d (mA H r (gY P u H.get r t n c)) (ko P H r t n c)
def tN(E:Env)(pc:FuncId->List AV->Option AV)(tc:vl->List AV->aa->dA)(dep:Nat)(u d:Bool)(s:eY)(H:aa)(r:Ref)(o:Oper):jT ⊕ dA:=
 match o.op with
 | .move x | .assign x => .inl (ku (dw s x))
 | .pick c a b => .inl (AY (dw s c) (dw s a) (dw s b))
 | .alloc e => .inr (mA H r (wc E.P r e))
 | .box e x => .inr (mA H r (JD E.P r e (dw s x)))
 | .build t ps => .inl (oK E.P t (C3 (dw s) ps.toList))
 | .buildSlice t n ps => .inr (lI E.P (u && !E.strict o) d H r t n (C3 (dw s) ps.toList))
 | .load t a => .inl (oT E.P H.get t (dw s a))
 | .store t a x => .inr (cond d (kn E.P H t (dw s a) (dw s x)) none)
 | .nilCheck x => .inl (No (dw s x))
 | .binOp op t xo yo _ => .inl (bZ E.P op t xo yo (dw s xo) (dw s yo))
 | .unOp op _ x => .inl (qUn E.P op (dw s x))
 | .convert src dst x=>match eE E.P dst with
  | true => .inr (mA H r (cE E.P H.get r src dst (dw s x)))
  | false => .inl (cE E.P H.get r src dst (dw s x))
 | .makeInterface t x => .inl (zN E.P t (dw s x))
 | .makeFunc f first captured => .inl (yR f (Cy (dw s) first.toList) (Cy (dw s) captured.toList))
 | .makeSlice t l c => .inr (mA H r (yQ E.P r t (dw s l) (dw s c)))
 | .slice t x lo hi h=>match E.wide o && !u with
  | true => .inl (xc E.P H.get t (dw s x) (NA (dw s) lo) (NA (dw s) hi) (NA (dw s) h))
  | false => .inl (dx E.P H.get t (dw s x) (NA (dw s) lo) (NA (dw s) hi) (NA (dw s) h))
 | .fieldAddr t x f => .inl (kM E.P t (dw s x) f)
 | .field t x f => .inl (uV E.P t (dw s x) f)
 | .indexAddr t x ix => .inl (cb E.P H.get t (dw s x) (dw s ix))
 | .index t x ix => .inl (xG E.P t (dw s x) (dw s ix))
 | .typeAssert x _ g ok => .inl (BK E.P (dw s x) g ok)
 | .extract x i => .inl (uE (dw s x) i)
 | .call c=>
  match Cy (dw s) c.args.toList with
  | none => .inl none
  | some args=>
   match c.callee with
   | .value f=>(match FJ E.su u f with
    | some t => .inl (Nn E.P H.get t args)
    | none=>(match E.jq o with
     | true => .inr (Ed E d pc tc H r (dw s f) args)
     | false => .inr (bS E d pc tc H r (dw s f) args)))
   | .invoke _ _ => .inl none
   | .builtin b=>match b,args with
    | .append,[a,x] => .inr (ee E.P d H r c.argTypes[0]? c.argTypes[1]? a x)
    | .copy,[dst,x]=>(match E.wide o with
     | true => .inr (cond d (Hg E.P H c.argTypes[0]? dst x) none)
     | false => .inr (cond d (yg E.P H c.argTypes[0]? dst x) none))
    | b,args => .inl (eD E.P (u&&(E.strict o || !(match c.args.toList with | [.tmp _]=>true | _=>false))) H.get r b c.argTypes args)
 | .makeMap _ none => .inr (mA H r (some (.mp r,[qv []])))
 | .lookup t x k ok => .inl (pB E.P H.get t (dw s x) (dw s k) ok)
 | .mapUpdate t m k x => .inr (cond d (jU E.P H t (dw s m) (dw s k) (dw s x)) none)
 | .insert t m k x => .inr (cond d (jU E.P H t (dw s m) (dw s k) (dw s x)) none)
 | .mapEntry t m k => .inr (cond d (ru E.P H t (dw s m) (dw s k)) none)
 | .entryStore _ m n x => .inr (cond d (mq H (dw s m) (dw s n) (dw s x)) none)
 | .makeChan t n => .inr (cond d (Bx E.P H r t (dw s n)) none)
 | .send c x => .inr (cond d (Hc H (dw s c) (dw s x)) none)
 | .recv t c ok => .inr (cond d (J0 E.P H t (dw s c) ok) none)
 | _ => .inl none
def pk(E:Env)(pc:FuncId->List AV->Option AV)(tc:vl->List AV->aa->dA)(dep:Nat)(u:Bool)(tm:List AV)(H:aa)(o:Oper):dA:=
 match dq E pc u H.get tm ⟨dep,o.dst.getD 0,H.gen dep (o.dst.getD 0),0⟩ o with
 | some (x,bs)=>some (x,keyed ⟨dep,o.dst.getD 0,H.gen dep (o.dst.getD 0),0⟩ 0 bs H)
 | none=>if u && !jQ E o then none else evalW E pc tc H tm ⟨dep,o.dst.getD 0,H.gen dep (o.dst.getD 0),0⟩ o
def WR(E:Env)(pc:FuncId->List AV->Option AV)(tc:vl->List AV->aa->dA)(nt dep:Nat)(u:Bool)(ops:Array Oper)(o:Oper)(st:St) :
 evalOp E pc tc nt dep u ops o st=(match wanted ops st.tm o with
  | none=>none
  | some false=>(dP nt st.tm o.dst AV.undef).map λtm => { st with tm}
  | some true=>match pk E pc tc dep u st.tm st.hp o with
   | some (x,H)=>(dP nt st.tm o.dst x).map λtm=>⟨tm,H⟩
   | none=>none):=by
 unfold evalOp pk;cases hw:wanted ops st.tm o with
 | none=>rfl
 | some b=>
 cases b with| false=>rfl| true=>
  cases dq E pc u st.hp.get st.tm ⟨dep,o.dst.getD 0,st.hp.gen dep (o.dst.getD 0),0⟩ o with
  | some p=>rfl
  | none=>
   dsimp only;split;·rfl
   rfl
def WT{E:Env}{pc:FuncId->List AV->Option AV}{tc:vl->List AV->aa->dA}{dep:Nat}{u:Bool}{tm:List AV}{H:aa}{o:Oper}{v:AV}
 (h:dq E pc u H.get tm ⟨dep,o.dst.getD 0,H.gen dep (o.dst.getD 0),0⟩ o=some (v,[])):pk E pc tc dep u tm H o=some (v,H):=by
 unfold pk;rw[h];rfl
def Ob{E:Env}{pc:FuncId->List AV->Option AV}{tc:vl->List AV->aa->dA}{dep:Nat}{u:Bool}{tm:List AV}{H d:aa}{o:Oper}{v:AV}{q:jT}
 (h:dq E pc u H.get tm ⟨dep,o.dst.getD 0,H.gen dep (o.dst.getD 0),0⟩ o=q) (c:mA H ⟨dep,o.dst.getD 0,H.gen dep (o.dst.getD 0),0⟩ q=some (v,d)):pk E pc tc dep u tm H o=some (v,d):=by
 unfold pk;rw[h];unfold mA at c;split at c;·exact c
 cases c
def mD{E:Env}{pc:FuncId->List AV->Option AV}{tc:vl->List AV->aa->dA}{dep:Nat}{u:Bool}{tm:List AV}{H d:aa}{o:Oper}{v:AV}{q:jT}{w:dA}
 (h:dq E pc u H.get tm ⟨dep,o.dst.getD 0,H.gen dep (o.dst.getD 0),0⟩ o=q) (e:evalW E pc tc H tm ⟨dep,o.dst.getD 0,H.gen dep (o.dst.getD 0),0⟩ o=w)
 (c:FK (!(u && !jQ E o)) (mA H ⟨dep,o.dst.getD 0,H.gen dep (o.dst.getD 0),0⟩ q) w=some (v,d)):pk E pc tc dep u tm H o=some (v,d):=by
 unfold pk;rw[h];cases q with
 | some p=>simpa [FK,mA] using c
 | none=>
  rw[e];cases hd:(u && !jQ E o) with
  | true=>rw[hd]at c;simp[FK,mA]at c
  | false=>rw[hd]at c;simpa [FK,mA] using c
section
variable{E:Env}{pc:FuncId->List AV->Option AV}{tc:vl->List AV->aa->dA}{dep:Nat}{u:Bool}{tm:List AV}{s:eY}{H:aa}{o:Oper}
def V4(g:fh tm s){q:jT}{v:AV}
 (h:tN E pc tc dep u (!(u && !jQ E o)) s H ⟨dep,o.dst.getD 0,H.gen dep (o.dst.getD 0),0⟩ o = .inl q) (j:q=some (v,[])):pk E pc tc dep u tm H o=some (v,H):=by
 subst j;refine WT ?_;have e:=wx g;unfold tN at h;unfold dq;split at h<;>rename_i m<;>simp only[m];all_goals try (simp only[AJ,reduceCtorEq]at h)
 all_goals try (rw[<-h];simp only[e,AY,Ig,E6 g,LP g,D0];done)
 ·rw[<-h];unfold Ig AY;rw[e];rfl
 ·split at h;·cases h
  simp only[AJ]at h;rw[<-h,e]
 ·cases d:(E.wide o && !u) with| true=>rw[d]at h;simp only[AJ]at h;rw[<-h];simp only[iQp,e,LP g]| false=>rw[d]at h;simp only[AJ]at h;rw[<-h];simp only[iQt,e,LP g]
 rw[D0,e];split at h;·cases h
 rename_i args c;rw[c];dsimp only;split at h
 ·rename_i f i;rw[i];dsimp only;split at h;·rename_i t l;simp only[AJ]at h;simp only[l];exact h
  split at h<;>cases h
 ·cases h
 rename_i b n;rw[n];dsimp only;split at h;·cases h
 ·split at h<;>cases h
 simp only[AJ]at h;exact h
def V3(p:fh tm s){w:dA}{v:AV}{z:aa}
 (h:tN E pc tc dep u (!(u && !jQ E o)) s H ⟨dep,o.dst.getD 0,H.gen dep (o.dst.getD 0),0⟩ o = .inr w) (A:w=some (v,z)):pk E pc tc dep u tm H o=some (v,z):=by
 subst A;have e:=wx p;unfold tN at h;split at h<;>rename_i c;all_goals try (simp only[reduceCtorEq]at h;done)
 all_goals try (simp only[zl]at h)
 all_goals try (refine Ob (by unfold dq;simp only[c,e]) h;done)
 ·rw[<-E6 p]at h;exact mD (q:=gY _ _ _ _ _ _ _) (w:=ko _ _ _ _ _ _) (by unfold dq;simp only[c]) (by unfold evalW;simp only[c]) h
 ·rw[<-e]at h;exact mD (q:=none) (w:=kn _ _ _ _ _) (by unfold dq;simp only[c]) (by unfold evalW;simp only[c]) h
 ·split at h;·simp only[zl]at h;refine Ob (by unfold dq;simp only[c,e]) h
  cases h
 ·split at h<;>cases h
 ·split at h;·cases h
  rename_i args j;have d:=j;rw[<-D0,<-e]at d;split at h
  ·rename_i f n;split at h;·cases h
   rename_i m;split at h;·rename_i g;simp only[zl]at h;rw[<-e]at h;exact mD (q:=(lY _ _ _ _ _ _).map _) (w:=ti true _ _ (ot _ _ _ _ _ _ _)) (by unfold dq;simp only[c,d,n,m,g]) (by unfold evalW;simp only[c,d,n,g]) h
   rename_i g;simp only[zl]at h;rw[<-e]at h;exact mD (q:=lY _ _ _ _ _ _) (w:=ot _ _ _ _ _ _ _) (by unfold dq;simp only[c,d,n,m,g,Qk];cases lY E pc H.get _ (aW tm f) args<;>rfl) (by unfold evalW;simp only[c,d,n,g];rfl) h
  ·cases h
  rename_i b l;split at h;·simp only[zl]at h;exact mD (q:=fx _ _ _ _ _ _ _) (w:=kG _ _ _ _ _ _) (by unfold dq;simp only[c,d,l];rfl) (by unfold evalW;simp only[c,d,l]) h
  ·split at h;·rename_i i;simp only[zl]at h;exact mD (q:=none) (w:=Hg _ _ _ _ _) (by unfold dq;simp only[c,d,l];rfl) (by unfold evalW;simp only[c,d,l,i,iQp]) h
   rename_i i;simp only[zl]at h;exact mD (q:=none) (w:=yg _ _ _ _ _) (by unfold dq;simp only[c,d,l];rfl) (by unfold evalW;simp only[c,d,l,i,iQt]) h
  cases h
 ·rw[<-e]at h;exact mD (q:=none) (w:=jU _ _ _ _ _ _) (by unfold dq;simp only[c]) (by unfold evalW;simp only[c]) h
 ·rw[<-e]at h;exact mD (q:=none) (w:=jU _ _ _ _ _ _) (by unfold dq;simp only[c]) (by unfold evalW;simp only[c]) h
 ·rw[<-e]at h;exact mD (q:=none) (w:=ru _ _ _ _ _) (by unfold dq;simp only[c]) (by unfold evalW;simp only[c]) h
 ·rw[<-e]at h;exact mD (q:=none) (w:=mq _ _ _ _) (by unfold dq;simp only[c]) (by unfold evalW;simp only[c]) h
 ·rw[<-e]at h;exact mD (q:=none) (w:=Bx _ _ _ _ _) (by unfold dq;simp only[c]) (by unfold evalW;simp only[c]) h
 ·rw[<-e]at h;exact mD (q:=none) (w:=Hc _ _ _) (by unfold dq;simp only[c]) (by unfold evalW;simp only[c]) h
 rw[<-e]at h;exact mD (q:=none) (w:=J0 _ _ _ _ _) (by unfold dq;simp only[c]) (by unfold evalW;simp only[c]) h
end
def Eb(E:Env)(u:Bool)(s:eY)(H:aa)(r:Ref)(o:Oper):Option dA:=
 if u || !E.deep o then none else
 match o.op with
 | .buildSlice t n ps=>some (Dv E.P H r t n (C3 (dw s) ps.toList))
 | .call c=>(match c.callee with
  | .builtin .append=>some (match Cy (dw s) c.args.toList with
   | some [a,x]=>QW E.P H r c.argTypes[0]? c.argTypes[1]? a x
   | _=>none)
  | _=>none)
 | _=>none
def Oi{E:Env}{u:Bool}{tm:List AV}{s:eY}{H:aa}{r:Ref}{o:Oper}(d:fh tm s):FU E u H tm r o=Eb E u s H r o:=by
 unfold FU Eb;split;·rfl
 generalize o.op=op;cases op;case buildSlice t n ps=>dsimp only;rw[E6 d]
 case call c=>
  dsimp only;generalize c.callee=ce;cases ce with
  | builtin b=>
   cases b;case append=>
    dsimp only;rw[<-wx d,<-D0];generalize c.args.toList.mapM (aW tm)=l;match l with
    | none=>rfl
    | some []=>rfl
    | some [_]=>rfl
    | some [_,_]=>rfl
    | some (_ :: _ :: _ :: _)=>rfl
   all_goals rfl
  | _=>rfl
 all_goals rfl
def yU(E:Env)(pc:FuncId->List AV->Option AV)(tc:vl->List AV->aa->dA)(dep:Nat)(u c:Bool)(s:eY)(H:aa)(r:Ref)(o:Oper):jT ⊕ dA:=
 match Eb E u s H r o with
 | some w => .inr w
 | none=>tN E pc tc dep u c s H r o
def y0(E:Env)(pc:FuncId->List AV->Option AV)(tc:vl->List AV->aa->dA)(dep:Nat)(u:Bool)(tm:List AV)(H:aa)(o:Oper):dA:=
 match FU E u H tm ⟨dep,o.dst.getD 0,H.gen dep (o.dst.getD 0),0⟩ o with
 | some w=>w
 | none=>pk E pc tc dep u tm H o
def L0(E:Env)(pc:FuncId->List AV->Option AV)(tc:vl->List AV->aa->dA)(nt dep:Nat)(u:Bool)(ops:Array Oper)(o:Oper)(st:St) :
 Ap E pc tc nt dep u ops o st=(match wanted ops st.tm o with
  | none=>none
  | some false=>(dP nt st.tm o.dst AV.undef).map λtm => { st with tm}
  | some true=>match y0 E pc tc dep u st.tm st.hp o with
   | some (x,H)=>(dP nt st.tm o.dst x).map λtm=>⟨tm,H⟩
   | none=>none):=by
 unfold Ap y0;cases FU E u st.hp st.tm ⟨dep,o.dst.getD 0,st.hp.gen dep (o.dst.getD 0),0⟩ o with
 | none=>exact WR E pc tc nt dep u ops o st
 | some w=>rfl
section
variable{E:Env}{pc:FuncId->List AV->Option AV}{tc:vl->List AV->aa->dA}{dep:Nat}{u:Bool}{tm:List AV}{s:eY}{H:aa}{o:Oper}
def Zf(c:fh tm s){q:jT}{v:AV}
 (h:yU E pc tc dep u (!(u && !jQ E o)) s H ⟨dep,o.dst.getD 0,H.gen dep (o.dst.getD 0),0⟩ o = .inl q) (d:q=some (v,[])):y0 E pc tc dep u tm H o=some (v,H):=by
 unfold yU at h;unfold y0;rw[Oi c];cases hd:Eb E u s H ⟨dep,o.dst.getD 0,H.gen dep (o.dst.getD 0),0⟩ o with
 | some w=>rw[hd]at h;cases h
 | none=>rw[hd]at h;exact V4 c h d
def Ze(c:fh tm s){w:dA}{v:AV}{e:aa}
 (h:yU E pc tc dep u (!(u && !jQ E o)) s H ⟨dep,o.dst.getD 0,H.gen dep (o.dst.getD 0),0⟩ o = .inr w) (d:w=some (v,e)):y0 E pc tc dep u tm H o=some (v,e):=by
 unfold yU at h;unfold y0;rw[Oi c];cases hd:Eb E u s H ⟨dep,o.dst.getD 0,H.gen dep (o.dst.getD 0),0⟩ o with
 | some w'=>rw[hd]at h;cases h;exact d
 | none=>rw[hd]at h;exact V3 c h d
end
open Classical in
noncomputable def ay(E:Env)(f:FuncId)(args:List AV):Option AV:=
 if h : ∃y n,∀m,n<=m->dO E (cR E m) f args=some y then some h.choose else none
def xi{E:Env}{f:FuncId}{args:List AV}{y:AV}:ay E f args=some y ↔ ∃n,∀m,n<=m->dO E (cR E m) f args=some y:=by
 unfold ay;constructor
 ·intro h;split at h;·rename_i c;simp only[eS]at h;rw[<-h];exact c.choose_spec
  cases h
 intro h;rw[dif_pos ⟨y,h⟩];obtain⟨n,g⟩:=h;have c : ∃y n,∀m,n<=m->dO E (cR E m) f args=some y:=⟨y,n,g⟩;obtain⟨e,d⟩:=c.choose_spec;have i:=g (max n e) (Nat.le_max_left ..);have j:=d (max n e) (Nat.le_max_right ..);exact j.symm.trans i
open Classical in
noncomputable def eZ(E:Env)(dep:Nat)(f:vl)(args:List AV)(H:aa):dA:=
 if h : ∃y n,∀m,n<=m->fJ E (cR E m) dep f args H=some y then some h.choose else none
def vv{E:Env}{dep:Nat}{f:vl}{args:List AV}{H:aa}{y:AV × aa}:eZ E dep f args H=some y ↔ ∃n,∀m,n<=m->fJ E (cR E m) dep f args H=some y:=by
 unfold eZ;constructor
 ·intro h;split at h;·rename_i c;simp only[eS]at h;rw[<-h];exact c.choose_spec
  cases h
 intro h;rw[dif_pos ⟨y,h⟩];obtain⟨n,e⟩:=h;have c : ∃y n,∀m,n<=m->fJ E (cR E m) dep f args H=some y:=⟨y,n,e⟩;obtain⟨g,d⟩:=c.choose_spec;have j:=e (max n g) (Nat.le_max_left ..);have i:=d (max n g) (Nat.le_max_right ..);exact i.symm.trans j
def Ow{E:Env}{d:Bool}{dep:Nat}{H l:aa}{r:Ref}{f:Option AV}{args:List AV}{v:AV}(h:bS E d (ay E) (eZ E dep) H r f args=some (v,l)) :
 ∃n,∀m,n<=m->bS E d (dO E (cR E m)) (fJ E (cR E m) dep) H r f args=some (v,l):=by
 unfold bS at h ⊢;by_cases j : ∃i first captured,f=some (.fn (.func i) first captured)
 ·obtain⟨i,first,captured,rfl⟩:=j;by_cases g:E.mode i=2
  ·simp only[lY,ot,if_pos g,mA,FK]at h ⊢;cases d with
   | true=>simp only[iQp]at h ⊢;obtain⟨n,e⟩:=vv.1 h;exact⟨n,e⟩
   | false=>simp at h
  simp only[lY,ot,if_neg g]at h ⊢;cases z:(first++args++captured).mapM (view H.get depth) with
  | none=>rw[z]at h;simp[mA,FK]at h
  | some xs=>
   rw[z]at h;dsimp only at h ⊢;cases c:ay E i xs with
   | none=>rw[c]at h;simp[mA,FK]at h
   | some y=>rw[c]at h;obtain⟨n,e⟩:=xi.1 c;refine⟨n,λm p=>?_⟩;rw[e m p];exact h
 have w : ∀pc,lY E pc H.get r f args=none:=by
  intro pc;unfold lY;split;·exact(j ⟨_,_,_,rfl⟩).elim
  rfl
 by_cases c : ∃q,f=some (.yld q)
 ·obtain⟨q,rfl⟩:=c;rw[w]at h;cases d with
  | false=>simp[mA,FK]at h
  | true=>have A:eZ E dep (.yld q) args H=some (v,l):=h;obtain⟨n,e⟩:=vv.1 A;refine⟨n,λm p=>?_⟩;rw[w];exact e m p
 have g : ∀pc tc,ot E pc tc H r f args=none:=by
  intro pc tc;unfold ot;split;·exact(j ⟨_,_,_,rfl⟩).elim
  ·exact(c ⟨_,rfl⟩).elim
  rfl
 rw[w,g]at h;cases d<;>simp[mA,FK]at h
def He{sm:OE}{H e:aa}{x:dA}{v:AV}(h:ti true sm H x=some (v,e)) : ∃c,x=some (v,c)/\e=H/\flat depth v=true/\(IC H c||sm.f H c)=true:=by
 cases x with| none=>simp[ti]at h| some p=>
  obtain⟨y,c⟩:=p;unfold ti at h;simp only at h;split at h;·rename_i d;cases h;rw[bI]at d;exact⟨c,rfl,rfl,d.1,d.2⟩
  cases h
def Ma{E:Env}{e:Bool}{dep:Nat}{H z:aa}{r:Ref}{f:Option AV}{args:List AV}{v:AV}(h:Ed E e (ay E) (eZ E dep) H r f args=some (v,z)) :
 ∃n,∀m,n<=m->Ed E e (dO E (cR E m)) (fJ E (cR E m) dep) H r f args=some (v,z):=by
 unfold Ed at h ⊢;by_cases w : ∃l first captured,f=some (.fn (.func l) first captured)
 ·obtain⟨l,first,captured,rfl⟩:=w;by_cases j:E.mode l=2
  ·simp only[lY,ot,if_pos j,mA,FK,AN]at h ⊢;cases e with
   | true=>simp only[iQp]at h ⊢;obtain⟨H1,d,F,D,C⟩:=He h;obtain⟨n,i⟩:=vv.1 d;refine⟨n,λm g=>?_⟩;rw[i m g];rw[d]at h;exact h
   | false=>simp at h
  simp only[lY,ot,if_neg j]at h ⊢;cases B:(first++args++captured).mapM (view H.get depth) with
  | none=>rw[B]at h;simp[mA,FK,ti]at h
  | some xs=>
   rw[B]at h;dsimp only at h ⊢;cases c:ay E l xs with
   | none=>rw[c]at h;simp[mA,FK,ti]at h
   | some y=>rw[c]at h;obtain⟨n,i⟩:=xi.1 c;refine⟨n,λm g=>?_⟩;rw[i m g];exact h
 have A : ∀pc,lY E pc H.get r f args=none:=by
  intro pc;unfold lY;split;·exact(w ⟨_,_,_,rfl⟩).elim
  rfl
 by_cases c : ∃q,f=some (.yld q)
 ·obtain⟨q,rfl⟩:=c;rw[A]at h;cases e with
  | false=>simp[mA,FK]at h
  | true=>have p:ti true E.sm H (eZ E dep (.yld q) args H)=some (v,z):=h;obtain⟨H1,d,_⟩:=He p;obtain⟨n,i⟩:=vv.1 d;refine⟨n,λm g=>?_⟩;rw[A];show ti true E.sm H (fJ E (cR E m) dep (.yld q) args H)=_;rw[i m g];rw[d]at p;exact p
 have j : ∀pc tc,ot E pc tc H r f args=none:=by
  intro pc tc;unfold ot;split;·exact(w ⟨_,_,_,rfl⟩).elim
  ·exact(c ⟨_,rfl⟩).elim
  rfl
 rw[A,j]at h;cases e<;>simp[mA,FK,ti]at h
def Iq{E:Env}{dep:Nat}{u j:Bool}{s:eY}{H:aa}{r:Ref}{o:Oper} :
 (∀q v,tN E (ay E) (eZ E dep) dep u j s H r o = .inl q->q=some (v,[]) ->∃n,∀m,n<=m->tN E (dO E (cR E m)) (fJ E (cR E m) dep) dep u j s H r o = .inl (some (v,[]))) /\
 (∀w v l,tN E (ay E) (eZ E dep) dep u j s H r o = .inr w->w=some (v,l) ->∃n,∀m,n<=m->tN E (dO E (cR E m)) (fJ E (cR E m) dep) dep u j s H r o = .inr (some (v,l))):=by
 constructor
 ·intro q v h B;subst B;refine⟨0,λm _=>?_⟩;unfold tN at h ⊢;generalize o.op=op at h ⊢;cases op;all_goals try exact h
  case makeMap a b=>cases b<;>exact h
  rename_i c;dsimp only at h ⊢;cases i:Cy (dw s) c.args.toList with
  | none=>rw[i]at h;exact h
  | some args=>
   rw[i]at h;dsimp only at h ⊢;cases e:c.callee with
   | value f=>
    rw[e]at h;dsimp only at h ⊢;cases d:FJ E.su u f with
    | some t=>rw[d]at h;exact h
    | none=>rw[d]at h;dsimp only at h;split at h<;>cases h
   | invoke a b=>rw[e]at h;exact h
   | builtin b=>rw[e]at h;exact h
 intro w v l h A;subst A;unfold tN at h ⊢;generalize o.op=op at h ⊢;cases op;all_goals try (exact⟨0,λm _=>h⟩)
 case makeMap a b=>cases b<;>exact⟨0,λm _=>h⟩
 rename_i c;dsimp only at h ⊢;cases i:Cy (dw s) c.args.toList with
 | none=>rw[i]at h;cases h
 | some args=>
  rw[i]at h;dsimp only at h ⊢;cases e:c.callee with
  | value f=>
   rw[e]at h;dsimp only at h ⊢;cases d:FJ E.su u f with
   | some t=>rw[d]at h;cases h
   | none=>
   rw[d]at h;dsimp only at h ⊢;cases g:E.jq o with
   | true=>rw[g]at h;simp only[zl]at h;obtain⟨n,z⟩:=Ma h;exact⟨n,λm p=>iQf _ (z m p)⟩
   | false=>rw[g]at h;simp only[zl]at h;obtain⟨n,z⟩:=Ow h;exact⟨n,λm p=>iQf _ (z m p)⟩
  | invoke a b=>rw[e]at h;cases h
  | builtin b=>rw[e]at h;exact⟨0,λm _=>h⟩
def Km{E:Env}{dep:Nat}{u c:Bool}{s:eY}{H:aa}{r:Ref}{o:Oper} :
 (∀q v,yU E (ay E) (eZ E dep) dep u c s H r o = .inl q->q=some (v,[]) ->∃n,∀m,n<=m->yU E (dO E (cR E m)) (fJ E (cR E m) dep) dep u c s H r o = .inl (some (v,[]))) /\
 (∀w v d,yU E (ay E) (eZ E dep) dep u c s H r o = .inr w->w=some (v,d) ->∃n,∀m,n<=m->yU E (dO E (cR E m)) (fJ E (cR E m) dep) dep u c s H r o = .inr (some (v,d))):=by
 constructor
 ·intro q v h g;unfold yU at h ⊢;cases hd:Eb E u s H r o with
  | some w=>rw[hd]at h;cases h
  | none=>rw[hd]at h;obtain⟨n,e⟩:=Iq.1 q v h g;exact⟨n,e⟩
 intro w v d h f;unfold yU at h ⊢;cases hd:Eb E u s H r o with
 | some w'=>rw[hd]at h;cases h;exact⟨0,λm _=>by rw[f]⟩
 | none=>rw[hd]at h;obtain⟨n,e⟩:=Iq.2 w v d h f;exact⟨n,e⟩
abbrev Mk{c:Type}(a:c):Type:=Unit
structure fO (q:jT) (K:AV->Prop) (m:Mk K:=()):Prop where
 h : ∃v,q=some (v,[])/\K v
structure kA (w:dA) (K:AV->aa->Prop) (m:Mk K:=()):Prop where
 h : ∃v H,w=some (v,H)/\K v H
def aam(x:AV)(c:Bool):Option Bool:=
 match x with
 | .v (.bool b)=>some (b == c)
 | .v (.tuple d)=>if d.isEmpty then some false else none
 | _=>none
def gd(x:AV)(c:Bool)(A B:Prop):Prop:=
 match aam x c with
 | some true=>A
 | some false=>B
 | none=>False
structure gQ (x:AV) (want:Bool) (q:jT) (K:AV->Prop) (m:Mk (q,K):=()):Prop where
 h:gd x want (fO q K) (K AV.undef)
structure gW (x:AV) (want:Bool) (H:aa) (w:dA) (K:AV->aa->Prop) (m:Mk (w,K):=()):Prop where
 h:gd x want (kA w K) (K AV.undef H)
def brP(x:Option AV)(A B:Prop):Prop:=
 match x.bind Fl with
 | some b=>cond b A B
 | none=>False
structure br (x:Option AV) (A B:Prop) (m:Mk (A,B):=()):Prop where
 h:brP x A B
def LX(ops:Array Oper)(s:eY)(o:Oper):Option (Option (AV × Bool)):=
 match o.guard with
 | none=>none
 | some (j,c)=>match (ops[j]?).bind (·.dst) with
  | some t=>some (some (s t,c))
  | none=>some none
def JE(nt:Nat)(s:eY)(dst:Option Tmp)(v:AV)(K:eY->Prop):Prop:=
 match dst with
 | none=>K s
 | some d=>cond (Nat.blt d nt) (K (ac7 s d v)) False
def abD(E:Env)(nt dep:Nat)(u:Bool)(ops:Array Oper)(o:Oper)(s:eY)(H:aa)(K:eY->aa->Prop):Prop:=
 match yU E (ay E) (eZ E dep) dep u (!(u && !jQ E o)) s H ⟨dep,o.dst.getD 0,H.gen dep (o.dst.getD 0),0⟩ o with
 | .inl q=>match LX ops s o with
  | none=>(match o.op with
   | .move x | .assign x=>(match dw s x with
    | some v=>JE nt s o.dst v λs=>K s H
    | none=>False)
   | _=>fO q λv=>JE nt s o.dst v λs=>K s H)
  | some (some (x,c))=>gQ x c q λv=>JE nt s o.dst v λs=>K s H
  | some none=>JE nt s o.dst AV.undef λs=>K s H
 | .inr w=>match LX ops s o with
  | none=>kA w λv H=>JE nt s o.dst v λs=>K s H
  | some (some (x,c))=>gW x c H w λv H=>JE nt s o.dst v λs=>K s H
  | some none=>JE nt s o.dst AV.undef λs=>K s H
def wpOps(E:Env)(nt dep:Nat)(u:Bool)(ops:Array Oper):List Oper->eY->aa->(eY->aa->Prop)->Prop
 | [],s,H,K=>K s H
 | o :: os,s,H,K=>abD E nt dep u ops o s H λs H=>wpOps E nt dep u ops os s H K
def Fin(E:Env)(fn:Func)(rd:Option Ref)(o:Option St)(y:AV)(c:aa):Prop:=match rd with
 | none =>∃st,o=some st/\yN E.P fn st=some y/\st.hp=c
 | some r =>∃st n,o=xL (some r) st n/\y = .v (.int .i64 (n:Nat))/\st.hp=c
def vD(E:Env)(fn:Func)(rd:Option Ref)(dep:Nat)(c:List Item)(s:eY)(H:aa)(Q:AV->aa->Prop):Prop:=
 ∀tm,fh tm s ->∃y d,Q y d /\∃n,∀m,n<=m->Fin E fn rd (cR E m rd fn.ntmps dep c ⟨tm,H⟩) y d
def OK(g:eY):List (Nat × AV)->eY
 | [],i=>g i
 | (j,v) :: l,i=>cond (Nat.beq i j) v (OK g l i)
structure XK (E:Env) (fn:Func) (rd:Option Ref) (dep:Nat) (items:List Item) (l:List (Nat × AV)) (H:aa) (Q:AV->aa->Prop):Prop where
 h : ∀g,vD E fn rd dep items (OK g l) H Q
abbrev cy(E:Env)(fn:Func)(dep:Nat)(c:List Item)(l:List (Nat × AV))(H:aa)(Q:AV->aa->Prop):Prop:=XK E fn none dep c l H Q
def DJ(s:eY):List Nat->List (Nat × AV)
 | []=>[]
 | t :: c=>(t,s t) :: DJ s c
def V6(s:eY)(l:List Nat):OK s (DJ s l)=s:=by
 induction l with| nil=>rfl| cons t l c=>
  funext i;show cond (Nat.beq i t) (s t) (OK s (DJ s l) i)=s i;rw[c];cases h:Nat.beq i t with
  | true=>rw[lF h];rfl
  | false=>rfl
def mC:Code->Option Nat
 | .region id _ _=>some id
 | .seq a b=>match mC a with
  | some i=>some i
  | none=>mC b
 | .cond _ a b=>match mC a with
  | some i=>some i
  | none=>mC b
 | .block _ c | .loop c | .scope c=>mC c
 | _=>none
def AX(P:Program)(H:aa)(x:AV)(t:TypeId):jT:=
 match x,fK P t,aV P t with
 | .ptr r i j,some g,some n=>match H.get r with
  | some b=>ku (bP b.es i j n g)
  | none=>none
 | _,_,_=>none
def pack:List AV->AV
 | [] => .v (.tuple #[])
 | [x]=>x
 | xs => .tup xs
def G8(P:Program)(s:eY)(H:aa)(Q:AV->aa->Prop):List ResultVar->List AV->Prop
 | [],acc=>Q (pack acc.reverse) H
 | .tmp t :: rs,acc=>G8 P s H Q rs (s t :: acc)
 | .cell a t :: rs,acc=>fO (AX P H (s a) t) λv=>G8 P s H Q rs (v :: acc)
def qu(x y:AV):Bool:=match lT x,lT y with
 | some r,some r'=>decide (r≠r')
 | _,_=>true
def HH(H:aa)(x:AV):Bool:=match x with
 | .ptr r _ _=>(match H.get r with
  | some b => !b.arr
  | none=>false)
 | _=>true
def bsV(x:AV):Bool:=match x with
 | .ct .. => true
 | .v _=>true
 | _=>false
def VC(s:eY)(p:Tmp × Tmp):Bool:=qu (s p.1) (s p.2)
def HI(s:eY)(H:aa)(o:Oper):Bool:=match o.op with
 | .store _ (.tmp t) _=>HH H (s t)
 | _=>true
def RV(E:Env)(s:eY)(o:Oper):Bool := !(E.jq o&&B9 o.op)||(match bsT o.op with
 | some t=>bsV (s t)
 | none=>false)
def Xp(E:Env)(l:List (Tmp × Tmp))(ops:Array Oper)(s:eY)(H:aa):Prop:=l.all (VC s)=true/\ops.toList.all (HI s H)=true/\ops.toList.all (RV E s)=true
def qy(l:List (AV × AV))(st bs:List AV)(H:aa):Prop:=(l.all λp=>qu p.1 p.2)=true/\st.all (HH H)=true/\bs.all bsV=true
def aay(assign body:Code):Nat:=match mC (.seq assign body) with
 | some i=>i+10000
 | none=>10000
structure bgP (o:Option (Nat × AV)) (K:AV->Prop) (m:Mk K:=()):Prop where
 h : ∃info,o=some (0,info)/\K info
def Mw(P:Program)(fn:Func)(rd:Option Ref)(c:Nat)(s:eY)(H:aa)(Q:AV->aa->Prop):Prop:=match rd with
 | none=>cond (Nat.ble c 2) (G8 P s H Q fn.results.toList []) False
 | some _=>Q (.v (.int .i64 c)) H
def wp(E:Env)(fn:Func)(rd:Option Ref)(dep:Nat)(live:Nat->Option (List Nat))(cut:Nat->Bool)(Q:AV->aa->Prop):Nat->List Item->eY->aa->Prop
 | 0,items,s,H=>vD E fn rd dep items s H Q
 | n+1,items,s,H=>
  match items with
  | []=>Mw E.P fn rd 0 s H Q
  | .beginRound :: k=>(match rd with
   | none=>False
   | some r=>bgP (yW H r) λd=>wp E fn rd dep live cut Q n k s (H.put r (some (eU 1 d))))
  | .code c :: k=>
   (match c with
   | .skip | .label _=>wp E fn rd dep live cut Q n k s H
   | .ret=>Mw E.P fn rd 2 s H Q
   | .seq a b=>wp E fn rd dep live cut Q n (.code a :: .code b :: k) s H
   | .cond c a b=>br (dw s c) (wp E fn rd dep live cut Q n (.code a :: k) s H) (wp E fn rd dep live cut Q n (.code b :: k) s H)
   | .block id b=>wp E fn rd dep live cut Q n (.code b :: .inBlock id :: k) s H
   | .scope b=>wp E fn rd dep live cut Q n (.code b :: .inScope b :: k) s H
   | .loop b=>(match (mC b).bind live with
    | some l=>XK E fn rd dep (.inLoop b :: k) (DJ s l) H Q
    | none=>vD E fn rd dep (.inLoop b :: k) s H Q)
   | .exit id=>(match exitTo id k with
    | some k'=>wp E fn rd dep live cut Q n k' s H
    | none=>Mw E.P fn rd (id+3) s H Q)
   | .rangeFunc g ps a b=>(match live (aay a b) with
    | some l=>XK E fn rd dep (.code (.rangeFunc g ps a b) :: k) (DJ s l) H Q
    | none=>vD E fn rd dep (.code (.rangeFunc g ps a b) :: k) s H Q)
   | .region id ops u=>(match cut id with
    | true=>(match live id with
     | some l=>XK E fn rd dep (.code (.region id ops u) :: k) (DJ s l) H Q
     | none=>False)
    | false=>wpOps E fn.ntmps dep u ops ops.toList s H λs H=>
     (match u,sK E ops with
     | true,p :: ps=>Xp E (p :: ps) ops s H/\wp E fn rd dep live cut Q n k s H
     | _,_=>wp E fn rd dep live cut Q n k s H))
   | _=>False)
  | .inLoop b :: k=>(match (mC b).bind live with
   | some l=>XK E fn rd dep (.inLoop b :: k) (DJ s l) H Q
   | none=>vD E fn rd dep (.inLoop b :: k) s H Q)
  | .inBlock _ :: k | .inScope _ :: k=>wp E fn rd dep live cut Q n k s H
  | _=>False
def uw{ops:Array Oper}{tm:List AV}{s:eY}(h:fh tm s)(o:Oper):wanted ops tm o=(match LX ops s o with
 | none=>some true
 | some (some (x,c))=>aam x c
 | some none=>some false):=by
 unfold wanted LX;split;·rename_i e;rw[e]
 rename_i j c e;rw[e];dsimp only;split;·rename_i t d;rw[d];dsimp only;rw[h t];rfl
 rename_i d;rw[d]
def xf{nt:Nat}{s:eY}{dst:Option Tmp}{v:AV}{K:eY->Prop}(h:JE nt s dst v K) : ∃f,K f /\∀tm,fh tm s ->∃tm',dP nt tm dst v=some tm'/\fh tm' f:=by
 unfold JE at h;cases dst with
 | none=>exact⟨s,h,λtm e=>⟨tm,rfl,e⟩⟩
 | some d=>
  dsimp only at h;cases hd:Nat.blt d nt with
  | false=>rw[hd]at h;exact h.elim
  | true=>rw[hd]at h;refine⟨_,h,λtm e=>⟨_,?_,e.set d v⟩⟩;have c:d<nt:=G4 hd;simp only[dP,if_pos c]
def XM{E:Env}{nt dep:Nat}{u:Bool}{ops:Array Oper}{o:Oper}{s:eY}{H:aa}{K:eY->aa->Prop}(h:abD E nt dep u ops o s H K) :
 ∃c e,K c e /\∀tm,fh tm s ->∃tm',fh tm' c /\∃n,∀m,n<=m->Ap E (dO E (cR E m)) (fJ E (cR E m) dep) nt dep u ops o ⟨tm,H⟩=some ⟨tm',e⟩:=by
 have run : ∀(v:AV)(e:aa)(c:eY),(∀tm,fh tm s->wanted ops tm o=some true)->(∃n,∀m,n<=m ->∀tm,fh tm s->y0 E (dO E (cR E m)) (fJ E (cR E m) dep) dep u tm H o=some (v,e)) ->
  (∀tm,fh tm s ->∃tm',dP nt tm o.dst v=some tm'/\fh tm' c) ->
  ∀tm,fh tm s ->∃tm',fh tm' c /\∃n,∀m,n<=m->Ap E (dO E (cR E m)) (fJ E (cR E m) dep) nt dep u ops o ⟨tm,H⟩=some ⟨tm',e⟩:=by
  intro v e c p ⟨n,G⟩ hp tm d;obtain⟨tm',L,I⟩:=hp tm d;refine⟨tm',I,n,λm F=>?_⟩;rw[L0];dsimp only;rw[p tm d,G m F tm d];dsimp only;rw[L];rfl
 have j : ∀(c:eY),(∀tm,fh tm s->wanted ops tm o=some false)->(∀tm,fh tm s ->∃tm',dP nt tm o.dst AV.undef=some tm'/\fh tm' c) ->
  ∀tm,fh tm s ->∃tm',fh tm' c /\∃n,∀m,n<=m->Ap E (dO E (cR E m)) (fJ E (cR E m) dep) nt dep u ops o ⟨tm,H⟩=some ⟨tm',H⟩:=by
  intro c p hp tm d;obtain⟨tm',L,I⟩:=hp tm d;refine⟨tm',I,0,λm _=>?_⟩;rw[L0];dsimp only;rw[p tm d];dsimp only;rw[L];rfl
 unfold abD at h;split at h
 ·rename_i q z;have D : ∀v,q=some (v,[]) ->∃n,∀m,n<=m ->∀tm,fh tm s->y0 E (dO E (cR E m)) (fJ E (cR E m) dep) dep u tm H o=some (v,H):=by
   intro v f;obtain⟨n,G⟩:=Km.1 q v z f;exact⟨n,λm F tm d=>Zf d (G m F) rfl⟩
  split at h
  ·rename_i l;have p : ∀tm,fh tm s->wanted ops tm o=some true:=λtm d=>by rw[uw d,l]
   have i : ∀v,q=some (v,[])->JE nt s o.dst v (λs=>K s H) ->∃c e,K c e /\∀tm,fh tm s ->∃tm',fh tm' c /\∃n,∀m,n<=m->Ap E (dO E (cR E m)) (fJ E (cR E m) dep) nt dep u ops o ⟨tm,H⟩=some ⟨tm',e⟩:=(by intro v f hp;obtain⟨c,g,hp⟩:=xf hp;exact⟨c,H,g,run v H c p (D v f) hp⟩);split at h
   ·rename_i x J;split at h;·rename_i v f;refine i v ?_ h;unfold yU Eb tN at z;simp only[J,AJ,f,ite_self]at z;rw[<-z];rfl
    exact h.elim
   ·rename_i x J;split at h;·rename_i v f;refine i v ?_ h;unfold yU Eb tN at z;simp only[J,AJ,f,ite_self]at z;rw[<-z];rfl
    exact h.elim
   obtain⟨v,f,h⟩:=h.h;exact i v f h
  ·rename_i x B l;replace h:=h.h;unfold gd at h;split at h;·rename_i A;obtain⟨v,f,h⟩:=h.h;obtain⟨c,g,hp⟩:=xf h;exact⟨c,H,g,run v H c (λtm d=>by rw[uw d,l];exact A) (D v f) hp⟩
   ·rename_i A;obtain⟨c,g,hp⟩:=xf h;exact⟨c,H,g,j c (λtm d=>by rw[uw d,l];exact A) hp⟩
   exact h.elim
  rename_i l;obtain⟨c,g,hp⟩:=xf h;exact⟨c,H,g,j c (λtm d=>by rw[uw d,l]) hp⟩
 rename_i w p;have C : ∀v e,w=some (v,e) ->∃n,∀m,n<=m ->∀tm,fh tm s->y0 E (dO E (cR E m)) (fJ E (cR E m) dep) dep u tm H o=some (v,e):=by
  intro v e f;obtain⟨n,G⟩:=Km.2 w v e p f;exact⟨n,λm F tm d=>Ze d (G m F) rfl⟩
 split at h;·rename_i l;obtain⟨v,e,f,h⟩:=h.h;obtain⟨c,g,hp⟩:=xf h;exact⟨c,e,g,run v e c (λtm d=>by rw[uw d,l]) (C v e f) hp⟩
 ·rename_i x B l;replace h:=h.h;unfold gd at h;split at h;·rename_i A;obtain⟨v,e,f,h⟩:=h.h;obtain⟨c,g,hp⟩:=xf h;exact⟨c,e,g,run v e c (λtm d=>by rw[uw d,l];exact A) (C v e f) hp⟩
  ·rename_i A;obtain⟨c,g,hp⟩:=xf h;exact⟨c,H,g,j c (λtm d=>by rw[uw d,l];exact A) hp⟩
  exact h.elim
 rename_i l;obtain⟨c,g,hp⟩:=xf h;exact⟨c,H,g,j c (λtm d=>by rw[uw d,l]) hp⟩
def Uo{E:Env}{nt dep:Nat}{u:Bool}{ops:Array Oper}{K:eY->aa->Prop} : ∀ {l:List Oper} {s:eY} {H:aa},wpOps E nt dep u ops l s H K ->
 ∃i g,K i g /\∀tm,fh tm s ->∃tm',fh tm' i /\∃n,∀m,n<=m->oI E (dO E (cR E m)) (fJ E (cR E m) dep) nt dep u ops l ⟨tm,H⟩=some ⟨tm',g⟩:=by
 intro l;induction l with
 | nil=>intro s H h;exact⟨s,H,h,λtm e=>⟨tm,e,0,λm _=>rfl⟩⟩
 | cons o l w=>intro s H h;obtain⟨s1,H1,v,f⟩:=XM h;obtain⟨s2,p,q,c⟩:=w v;refine⟨s2,p,q,λtm e=>?_⟩;obtain⟨tm1,t1,n1,j⟩:=f tm e;obtain⟨d,t2,n2,z⟩:=c tm1 t1;exact⟨d,t2,max n1 n2,λm A=>by simp only[oI,j m (by omega),z m (by omega)]⟩
def Un{P:Program}{fn:Func}{s:eY}{H:aa}{Q:AV->aa->Prop} : ∀ {l:List ResultVar} {c:List AV},G8 P s H Q l c ->
 ∃f,Q (pack (c.reverse++f)) H /\∀tm,fh tm s->l.mapM (mG P ⟨tm,H⟩)=some f:=by
 intro l;induction l with
 | nil=>intro c h;exact⟨[],by simpa [G8] using h,λtm _=>rfl⟩
 | cons r l w=>
  intro c h;cases r with
  | tmp t=>obtain⟨f,q,p⟩:=w h;refine⟨s t :: f,by simpa using q,λtm m=>?_⟩;simp only[oo,mG,p tm m,m t,th,uu,fe]
  | cell a t=>
   obtain⟨v,d,h⟩:=h.h;obtain⟨f,q,p⟩:=w h;refine⟨v :: f,by simpa using q,λtm m=>?_⟩;have D:mG P ⟨tm,H⟩ (.cell a t)=some v:=by
    unfold AX at d;simp only[mG,m a];split at d
    ·rename_i r i j g n F G A;rw[F,G,A];dsimp only;split at d;·rename_i b B;rw[B];dsimp only;simp only[ku,bU]at d;obtain⟨z,C,e⟩:=d;cases e;exact C
     cases d
    cases d
   simp only[oo,D,p tm m,th,uu,fe]
def Ng{E:Env}{fn:Func}{s:eY}{H:aa}{Q:AV->aa->Prop}(h:G8 E.P s H Q fn.results.toList []) : ∃y,Q y H /\∀tm,fh tm s->yN E.P fn ⟨tm,H⟩=some y:=by
 obtain⟨c,f,d⟩:=Un (fn:=fn) h;refine⟨pack c,by simpa using f,λtm e=>?_⟩;unfold yN;rw[d tm e];match c with
 | []=>rfl
 | [x]=>rfl
 | x :: y :: zs=>rfl
def pI{E:Env}{fn:Func}{rd:Option Ref}{dep:Nat}{d c:List Item}{s:eY}{H:aa}{Q:AV->aa->Prop}
 (e : ∀n tm,cR E (n+1) rd fn.ntmps dep d ⟨tm,H⟩=cR E n rd fn.ntmps dep c ⟨tm,H⟩) (h:vD E fn rd dep c s H Q):vD E fn rd dep d s H Q:=by
 intro tm j;obtain⟨y,i,l,n,f⟩:=h tm j;refine⟨y,i,l,n+1,λm p=>?_⟩;obtain⟨m,rfl⟩ : ∃g,m=g+1:=⟨m - 1,by omega⟩;rw[e];exact f m (by omega)
def Tv{E:Env}{fn:Func}{rd:Option Ref}{dep:Nat}{b:Code}{k:List Item}{s:eY}{H:aa}{Q:AV->aa->Prop}(h:vD E fn rd dep (.code b :: .inLoop b :: k) s H Q):vD E fn rd dep (.inLoop b :: k) s H Q:=
 pI (λn tm=>by simp only[cR]) h
def Qe{E:Env}{fn:Func}{rd:Option Ref}{dep:Nat}{b:Code}{k:List Item}{s:eY}{H:aa}{Q:AV->aa->Prop}(h:vD E fn rd dep (.inLoop b :: k) s H Q):vD E fn rd dep (.code (.loop b) :: k) s H Q:=by
 intro tm g;obtain⟨y,f,i,n,c⟩:=h tm g;refine⟨y,f,i,n+1,λm j=>?_⟩;obtain⟨m,rfl⟩ : ∃d,m=d+1:=⟨m - 1,by omega⟩;have:=c (m+1) (by omega);have e:cR E (m+1) rd fn.ntmps dep (.code (.loop b) :: k) ⟨tm,H⟩=cR E (m+1) rd fn.ntmps dep (.inLoop b :: k) ⟨tm,H⟩:=by simp only[cR]
 rw[e];exact this
def Kz{E:Env}{fn:Func}{rd:Option Ref}{dep:Nat}{c:List Item}{s:eY}{l:List Nat}{H:aa}{Q:AV->aa->Prop}(h:XK E fn rd dep c (DJ s l) H Q):vD E fn rd dep c s H Q:=by
 have:=h.h s;rwa [V6]at this
def IG{E:Env}{fn:Func}{rd:Option Ref}{dep c:Nat}{d:List Item}{s:eY}{H:aa}{Q:AV->aa->Prop}
 (g : ∀n tm,rd.isSome=true\/c<=2->cR E (n+1) rd fn.ntmps dep d ⟨tm,H⟩=(match rd with | none=>some ⟨tm,H⟩ | some r=>xL (some r) ⟨tm,H⟩ c)) (h:Mw E.P fn rd c s H Q):vD E fn rd dep d s H Q:=by
 intro tm p;cases rd with
 | none=>
  unfold Mw at h;dsimp only at h;cases f:Nat.ble c 2 with
  | false=>rw[f]at h;exact h.elim
  | true=>rw[f]at h;obtain⟨y,i,j⟩:=Ng h;refine⟨y,H,i,1,λm l=>?_⟩;obtain⟨m,rfl⟩ : ∃e,m=e+1:=⟨m - 1,by omega⟩;exact⟨⟨tm,H⟩,g m tm (.inr (G4 f)),j tm p,rfl⟩
 | some r=>refine⟨.v (.int .i64 c),H,h,1,λm l=>?_⟩;obtain⟨m,rfl⟩ : ∃e,m=e+1:=⟨m - 1,by omega⟩;exact⟨⟨tm,H⟩,c,g m tm (.inl rfl),rfl,rfl⟩
def TU{E:Env}{ops:Array Oper}{s:eY}{H:aa}{tm:List AV}(c:fh tm s)(h:Xp E (sK E ops) ops s H):uh E ops ⟨tm,H⟩=true:=by
 unfold uh;rw[jf,bI];refine .inr ⟨?_,?_⟩;·refine Eq.trans ?_ h.1;congr 1;funext p;unfold FG VC qu;rw[c,c];rfl
 rw[bI];refine⟨Eq.trans ?_ h.2.1,Eq.trans ?_ h.2.2⟩
 ·congr 1;funext o;unfold yJ HI;generalize o.op=op;cases op<;>try rfl
  rename_i t a x;cases a<;>try rfl
  rename_i t';dsimp only;rw[c t'];rfl
 congr 1;funext o;unfold I0 RV;congr 1;cases bsT o.op with
 | none=>rfl
 | some t=>dsimp only;rw[c t];rfl
def vh{E:Env}{fn:Func}{rd:Option Ref}{dep:Nat}{live:Nat->Option (List Nat)}{cut:Nat->Bool}{Q:AV->aa->Prop} : ∀ {n:Nat} {d:List Item} {s:eY} {H:aa},
 wp E fn rd dep live cut Q n d s H->vD E fn rd dep d s H Q:=by
 intro n;induction n with
 | zero=>intro d s H h;exact h
 | succ n f=>
  intro d s H h;have g : ∀ {k:List Item} {x:Option (List Nat)},(match x with | some l=>XK E fn rd dep k (DJ s l) H Q | none=>vD E fn rd dep k s H Q)->vD E fn rd dep k s H Q:=by
   intro k x h;cases x with
   | some l=>exact Kz h
   | none=>exact h
  unfold wp at h;split at h;·exact IG (λn tm _=>by cases rd<;>simp only[cR]) h
  ·rename_i k;split at h;·exact h.elim
   rename_i r;obtain⟨info,O,h⟩:=h.h;intro tm i;obtain⟨y,j,w,n,D⟩:=f h tm i;refine⟨y,j,w,n+1,λm J=>?_⟩;obtain⟨m,rfl⟩ : ∃v,m=v+1:=⟨m - 1,by omega⟩;have:=D m (by omega);have e:cR E (m+1) (some r) fn.ntmps dep (.beginRound :: k) ⟨tm,H⟩=cR E m (some r) fn.ntmps dep k ⟨tm,H.put r (some (eU 1 info))⟩:=by simp only[cR,O]
   rw[e];exact this
  ·rename_i c k;split at h;·exact pI (λn tm=>by simp only[cR]) (f h)
   ·exact pI (λn tm=>by simp only[cR]) (f h)
   ·exact IG (λn tm _=>by cases rd<;>simp[cR,xL]) h
   ·exact pI (λn tm=>by simp only[cR]) (f h)
   ·rename_i c a b;replace h:=h.h;unfold brP at h;split at h
    ·rename_i z N;have G:vD E fn rd dep (.code (cond z a b) :: k) s H Q:=by cases z<;>exact f h
     intro tm i;obtain⟨y,j,w,n,D⟩:=G tm i;refine⟨y,j,w,n+1,λm J=>?_⟩;obtain⟨m,rfl⟩ : ∃v,m=v+1:=⟨m - 1,by omega⟩;have:=D m (by omega);have e:cR E (m+1) rd fn.ntmps dep (.code (.cond c a b) :: k) ⟨tm,H⟩=cR E m rd fn.ntmps dep (.code (cond z a b) :: k) ⟨tm,H⟩:=by
      simp only[cR,wx i,N];cases z<;>rfl
     rw[e];exact this
    exact h.elim
   ·exact pI (λn tm=>by simp only[cR]) (f h)
   ·exact pI (λn tm=>by simp only[cR]) (f h)
   ·exact Qe (g h)
   ·rename_i id;split at h;·rename_i k' F;exact pI (λn tm=>by simp only[cR,F]) (f h)
    rename_i F;exact IG (λn tm A=>by
     simp only[cR,F];cases rd with
     | none=>
      rcases A with A | A
      ·cases A
      omega
     | some r=>rfl) h
   ·exact g h
   ·rename_i id ops u;split at h
    ·split at h;·exact Kz h
     exact h.elim
    obtain⟨K,j,q,I⟩:=Uo h;have M:vD E fn rd dep k K j Q /\∀tm,fh tm K->(u && !uh E ops ⟨tm,j⟩)=false:=by
     cases u with| false=>exact⟨f q,λ_ _=>rfl⟩| true=>
      cases hp:sK E ops with
      | nil=>rw[hp]at q;refine⟨f q,λtm i=>?_⟩;unfold uh;rw[hp];rfl
      | cons p ps=>rw[hp]at q;exact⟨f q.2,λtm i=>by rw[TU i (by rw[hp];exact q.1)];rfl⟩
    obtain⟨G,C⟩:=M;intro tm i;obtain⟨tm1,t1,n1,L⟩:=I tm i;obtain⟨y,R,w,n2,B⟩:=G tm1 t1;refine⟨y,R,w,max n1 n2+1,λm J=>?_⟩;obtain⟨m,rfl⟩ : ∃v,m=v+1:=⟨m - 1,by omega⟩;have:=B m (by omega);have e:cR E (m+1) rd fn.ntmps dep (.code (.region id ops u) :: k) ⟨tm,H⟩=cR E m rd fn.ntmps dep k ⟨tm1,j⟩:=(by simp only[cR,L m (by omega),C tm1 t1];simp);rw[e];exact this
   exact h.elim
  ·exact g h
  ·exact pI (λn tm=>by simp only[cR]) (f h)
  ·exact pI (λn tm=>by simp only[cR]) (f h)
  exact h.elim
def FZ:Nat->List AV->List (Nat × AV)
 | _,[]=>[]
 | i,x :: xs=>(i,x) :: FZ (i+1) xs
def Is(args:List AV)(i:Nat):OK (λ_=>AV.undef) (FZ 0 args) i=dE args i:=by
 have : ∀(j:Nat)(l:List AV),OK (λ_=>AV.undef) (FZ j l) (j+i)=dE l i:=by
  induction i with
  | zero=>
   intro j l;cases l with
   | nil=>rfl
   | cons x l=>show cond (Nat.beq (j+0) j) x _=x;rw[show Nat.beq (j+0) j=true from by simp];rfl
  | succ i c=>
   intro j l;cases l with
   | nil=>rfl
   | cons x l=>
    show cond (Nat.beq (j+(i+1)) j) x (OK (λ_=>AV.undef) (FZ (j+1) l) (j+(i+1)))=dE l i;have e:Nat.beq (j+(i+1)) j=false:=by
     cases h:Nat.beq (j+(i+1)) j with| false=>rfl| true=>have:=lF h;omega
    rw[e];show OK _ _ _=_;rw[<-c (j+1) l,show j+1+i=j+(i+1) by omega]
 simpa using this 0 args
def ed(E:Env)(f:FuncId)(x:AV)(H:aa)(y:AV):Prop:=
 if uW (E.mode f)=true then (aj H.get depth x).Nodup/\ca H.get depth x=some y else view H.get depth x=some y
def BO{E:Env}{f:FuncId}{fn:Func}{c:Code}{args:List AV}{y:AV}(j:E.spec f args=none)(g:E.allowed f=true)(p:E.P.funcs[f]?=some fn)(A:fn.body=some c)(q:Nat.ble args.length fn.ntmps=true)
 (h:cy E fn 0 [.code c] (FZ 0 args) [] λx H=>ed E f x H y):ay E f args=some y:=by
 rw[xi];obtain⟨x,H,d,n,z⟩:=h.h (λ_=>AV.undef) args λi=>(Is args i).symm;refine⟨n,λm w=>?_⟩;obtain⟨st,e,l,v⟩:=z m w;subst v;unfold dO;rw[j];unfold wy;simp only[g,if_true,p,A,if_pos (G4 q),e,l,Option.map_some];unfold ed at d;split;·rename_i e;rw[if_pos e]at d;rw[if_pos d.1];exact d.2
 rename_i e;rw[if_neg e]at d;exact d
def wo{E:Env}{f:FuncId}{fn:Func}{c:Code}{dep:Nat}{args:List AV}{H:aa}{Q:AV->aa->Prop}(z:E.mode f=2)(d:E.allowed f=true)(p:E.P.funcs[f]?=some fn)(C:fn.body=some c)(q:Nat.ble args.length fn.ntmps=true)
 (h:cy E fn (dep+1) [.code c] (FZ 0 args) H Q) (e:E.thrSpec f args H=none:=by rfl) : ∃y j,eZ E dep (.fn f) args H=some (y,j)/\Q y j:=by
 obtain⟨x,H1,v,n,A⟩:=h.h (λ_=>AV.undef) args λi=>(Is args i).symm;refine⟨x,H1,vv.2 ⟨n,λm g=>?_⟩,v⟩;obtain⟨st,B,l,w⟩:=A m g;unfold fJ;dsimp only;rw[e];dsimp only;rw[if_pos z];unfold wy;simp only[d,if_true,p,C,if_pos (G4 q),B,l,Option.map_some,w]
def Wr{E:Env}{fn:Func}{dep nt:Nat}{r:Ref}{f:FuncId}{ps:List Tmp}{assign body:Code}{tm:List AV}{args:List AV}{H:aa}{Q:AV->aa->Prop}
 (F:yW H r=some (0,.lp f nt ps assign body tm)) (J:fn.ntmps=nt) (hp:args.length=ps.length) (p:ps.all (· < nt)=true) (G:codeOk E.ok assign=true) (D:codeOk E.ok body=true)
 (h:vD E fn (some r) (dep+1) [.code assign,.beginRound,.code body] (dE (vZ tm ps args)) H λx g =>∃c:Nat,x = .v (.int .i64 c) /\∃d e,yW g r=some (1,d)/\e=g.put r (some (eU c d)) /\
  yW e r=some (c,d)/\(c=0->Q (.v (.bool true)) e)/\(2<=c->Q (.v (.bool false)) e)/\c≠1) :
 ∃y g,eZ E dep (.yld r) args H=some (y,g)/\Q y g:=by
 obtain⟨x,H1,⟨c,rfl,d,e,L,rfl,C,q,A,j⟩,n,z⟩:=h (vZ tm ps args) (λi=>rfl);have key : ∀m,n<=m->BI E (cR E m) (dep+1) r args H=some (.v (.bool (c == 0)),H1.put r (some (eU c d))):=by
  intro m I;obtain⟨st,k,B,l,K⟩:=z m I;injection l with l
  injection l with l w
  have w:c=k:=(by exact_mod_cast w);subst w;subst J;unfold BI;rw[F];simp only;rw[if_pos ⟨hp,p,G,D⟩,B];unfold xL;simp only[K,L,C];match c with
  | 0=>rfl
  | 1=>exact(j rfl).elim
  | k+2=>rfl
 have Zr : ∀m,n<=m->fJ E (cR E m) dep (.yld r) args H=some (.v (.bool (c == 0)),H1.put r (some (eU c d))):=key;refine⟨_,_,vv.2 ⟨n,Zr⟩,?_⟩;match c with
 | 0=>exact q rfl
 | 1=>exact(j rfl).elim
 | k+2=>exact A (by omega)
def IF{E:Env}{fn:Func}{dep:Nat}{g:Operand}{ps:Array Tmp}{assign body:Code}{k:List Item}{s:eY}{H:aa}{Q:AV->aa->Prop}{gi:FuncId}{first captured:List AV}
 (D:dw s g=some (.fn (.func gi) first captured))
 (h : ∀tm,fh tm s ->∃v c st d,eZ E dep (.fn gi) (first++[.yld ⟨dep,fn.ntmps,H.gen dep fn.ntmps,0⟩]++captured) ((⟨dep,fn.ntmps,H.gen dep fn.ntmps,0⟩,some (eU 0 (.lp 0 fn.ntmps ps.toList assign body tm))) :: H)=some (v,c) /\
  yW c ⟨dep,fn.ntmps,H.gen dep fn.ntmps,0⟩=some (st,d) /\
  (
   (st=0/\vD E fn none dep k s (c.put ⟨dep,fn.ntmps,H.gen dep fn.ntmps,0⟩ none) Q) \/
   (st=2/\G8 E.P s (c.put ⟨dep,fn.ntmps,H.gen dep fn.ntmps,0⟩ none) Q fn.results.toList []) \/
   (∃id k',st=id+3/\exitTo id k=some k'/\vD E fn none dep k' s (c.put ⟨dep,fn.ntmps,H.gen dep fn.ntmps,0⟩ none) Q))) :
 vD E fn none dep (.code (.rangeFunc g ps assign body) :: k) s H Q:=by
 intro tm q;obtain⟨v,c,st,d,F,w,C⟩:=h tm q;obtain⟨n1,j⟩:=vv.1 F;have i:aW tm g=some (.fn (.func gi) first captured):=by rw[wx q];exact D
 rcases C with ⟨rfl,n⟩ | ⟨rfl,n⟩ | ⟨id,k',rfl,he,n⟩
 ·obtain⟨y,z,p,n2,f⟩:=n tm q;refine⟨y,z,p,max n1 n2+1,λm A=>?_⟩;obtain⟨m,rfl⟩ : ∃l,m=l+1:=⟨m - 1,by omega⟩;have e:cR E (m+1) none fn.ntmps dep (.code (.rangeFunc g ps assign body) :: k) ⟨tm,H⟩=cR E m none fn.ntmps dep k ⟨tm,c.put ⟨dep,fn.ntmps,H.gen dep fn.ntmps,0⟩ none⟩:=(by simp only[cR,i,j m (by omega),w]);rw[e];exact f m (by omega)
 ·obtain⟨y,p,B⟩:=Ng n;refine⟨y,_,p,n1+1,λm A=>?_⟩;obtain⟨m,rfl⟩ : ∃l,m=l+1:=⟨m - 1,by omega⟩;have e:cR E (m+1) none fn.ntmps dep (.code (.rangeFunc g ps assign body) :: k) ⟨tm,H⟩=some ⟨tm,c.put ⟨dep,fn.ntmps,H.gen dep fn.ntmps,0⟩ none⟩:=(by simp only[cR,i,j m (by omega),w]);rw[e];exact⟨_,rfl,B tm q,rfl⟩
 obtain⟨y,z,p,n2,f⟩:=n tm q;refine⟨y,z,p,max n1 n2+1,λm A=>?_⟩;obtain⟨m,rfl⟩ : ∃l,m=l+1:=⟨m - 1,by omega⟩;have e:cR E (m+1) none fn.ntmps dep (.code (.rangeFunc g ps assign body) :: k) ⟨tm,H⟩=cR E m none fn.ntmps dep k' ⟨tm,c.put ⟨dep,fn.ntmps,H.gen dep fn.ntmps,0⟩ none⟩:=(by simp only[cR,i,j m (by omega),w,he]);rw[e];exact f m (by omega)
def Tn{E:Env}{f:FuncId}{args:List AV}{y:AV}(h:E.spec f args=some y):ay E f args=some y:=by
 rw[xi];exact⟨0,λm _=>by unfold dO;rw[h]⟩
def Wt{E:Env}{f:FuncId}{args:List AV}{y:AV}(h:ay E f args=some y) : ∃n,dO E (cR E n) f args=some y:=by
 obtain⟨n,c⟩:=xi.1 h;exact⟨n,c n (bM _)⟩
def qM(r:Nat):Nat->List Item->Option (List Item)
 | 0,_=>none
 | n+1,items=>
  match items with
  | .code c :: k=>(match c with
   | .seq a b=>qM r n (.code a :: .code b :: k)
   | .cond _ a b=>(match qM r n (.code a :: k) with
    | some l=>some l
    | none=>qM r n (.code b :: k))
   | .block id b=>qM r n (.code b :: .inBlock id :: k)
   | .scope b=>qM r n (.code b :: .inScope b :: k)
   | .loop b=>(match mC b with
    | some i=>cond (Nat.beq i r) (some (.inLoop b :: k)) (qM r n (.code b :: .inLoop b :: k))
    | none=>none)
   | .exit id=>(match exitTo id k with
    | some k'=>qM r n k'
    | none=>none)
   | .skip | .label _ | .region _ _ _=>qM r n k
   | _=>none)
  | .inBlock _ :: k | .inScope _ :: k=>qM r n k
  | _=>none
def mm(r:Nat):Nat->List Item->Option (List Item)
 | 0,_=>none
 | n+1,items=>
  match items with
  | .code c :: k=>(match c with
   | .seq a b=>mm r n (.code a :: .code b :: k)
   | .cond _ a b=>(match mm r n (.code a :: k) with
    | some l=>some l
    | none=>mm r n (.code b :: k))
   | .block id b=>mm r n (.code b :: .inBlock id :: k)
   | .scope b=>mm r n (.code b :: .inScope b :: k)
   | .loop b=>mm r n (.code b :: .inLoop b :: k)
   | .exit id=>(match exitTo id k with
    | some k'=>mm r n k'
    | none=>none)
   | .rangeFunc _ _ a b=>cond (Nat.beq (aay a b) r) (some items) (mm r n k)
   | .skip | .label _ | .region _ _ _=>mm r n k
   | _=>none)
  | .inBlock _ :: k | .inScope _ :: k=>mm r n k
  | _=>none
def rfA:List Item->Code
 | .code (.rangeFunc _ _ a _) :: _=>a
 | _ => .skip
def rfB:List Item->Code
 | .code (.rangeFunc _ _ _ b) :: _=>b
 | _ => .skip
def rfK:List Item->List Item
 | _ :: k=>k
 | []=>[]
def Qz:List Item->List Item
 | .inLoop b :: k => .code b :: .inLoop b :: k
 | l=>l
def D5{E:Env}{fn:Func}{rd:Option Ref}{dep:Nat}{c:List Item}{l:List (Nat × AV)}{H:aa}{Q:AV->aa->Prop}(h : ∀g,vD E fn rd dep (Qz c) (OK g l) H Q):XK E fn rd dep c l H Q:=by
 refine⟨λg=>?_⟩;have:=h g;unfold Qz at this;split at this;·exact Tv this
 exact this
def oi(x:AV):Option (Option Int):=match uJ x with
 | some n=>some (some n)
 | none=>none
end
section
def TX(pc c:FuncId->List AV->Option AV):Prop :=∀f d y,pc f d=some y->c f d=some y
def Xr(tc c:vl->List AV->aa->dA):Prop :=∀f d H y,tc f d H=some y->c f d H=some y
def PS{E:Env}{pc c:FuncId->List AV->Option AV}(hp:TX pc c){g:dv}{r:Ref}{f:Option AV}{args:List AV}{z:AV × List bC}(h:lY E pc g r f args=some z):lY E c g r f args=some z:=by
 unfold lY at h ⊢;split at h
 ·split at h;·cases h
  rename_i e;rw[if_neg e];split at h
  ·rename_i i j;split at h;·rename_i y d;rw[hp _ _ _ d];exact h
   cases h
  cases h
 cases h
def VN{E:Env}{pc d:FuncId->List AV->Option AV}{tc g:vl->List AV->aa->dA}(hp:TX pc d)(j:Xr tc g){H:aa}{r:Ref}{f:Option AV}{args:List AV} :
 (lY E pc H.get r f args=none ->∀z,ot E pc tc H r f args=some z->ot E d g H r f args=some z/\lY E d H.get r f args=none):=by
 intro c z h;unfold lY at c ⊢;unfold ot at h ⊢;split at h
 ·rename_i n first captured
  dsimp only at c ⊢;split at h;·rename_i e;rw[if_pos e,if_pos e];exact⟨j _ _ _ _ h,rfl⟩
  rename_i e;rw[if_neg e]at c;rw[if_neg e,if_neg e];split at h
  ·rename_i m l;try rw[l]at c
   dsimp only at c ⊢;simp only[bU]at h;obtain⟨y,i,h⟩:=h;rw[i]at c;rw[hp _ _ _ i];exact⟨by rw[Option.map_some,h],c⟩
  cases h
 ·exact⟨j _ _ _ _ h,rfl⟩
 cases h
def Oc{E:Env}{pc d:FuncId->List AV->Option AV}{tc i:vl->List AV->aa->dA}(hp:TX pc d)(F:Xr tc i){dep:Nat}{u:Bool}{tm:List AV}{H:aa}{o:Oper}{z:AV × aa}
 (h:pk E pc tc dep u tm H o=some z):pk E d i dep u tm H o=some z:=by
 by_cases B : ∃c f args,o.op = .call c/\c.args.toList.mapM (aW tm)=some args/\c.callee = .value f
 ·obtain⟨c,f,args,m,v,q⟩:=B;unfold pk dq evalW at h ⊢;simp only[m,v,q]at h ⊢;cases j:FJ E.su u f with
  | some t=>
   rw[j]at h;dsimp only at h ⊢;cases D:Nn E.P H.get t args with
   | some p=>rw[D]at h;exact h
   | none=>
    rw[D]at h;dsimp only at h ⊢;split at h;·cases h
    rename_i hd;rw[if_neg hd];have w : ∃g,f = .func g:=by unfold FJ at j;split at j<;>simp_all
    obtain⟨g,rfl⟩:=w;simp only[aW,ot]at h ⊢;by_cases C:E.mode g=2
    ·rw[if_pos C]at h ⊢;cases l:tc (.fn g) ([]++args++[]) H with
     | none=>rw[l]at h;unfold ti at h;split at h<;>(try split at h)<;>simp_all
     | some K=>rw[l]at h;rw[F _ _ _ _ l];exact h
    rw[if_neg C]at h ⊢;cases G:([]++args++[]:List AV).mapM (view H.get depth) with
    | none=>rw[G]at h;exact h
    | some xs=>
     rw[G]at h;dsimp only at h ⊢;cases A:pc g xs with
     | none=>rw[A]at h;unfold ti at h;split at h<;>(try split at h)<;>simp_all
     | some y=>rw[A]at h;rw[hp _ _ _ A];exact h
  | none=>
  rw[j]at h;dsimp only at h ⊢;cases n:lY E pc H.get ⟨dep,o.dst.getD 0,H.gen dep (o.dst.getD 0),0⟩ (aW tm f) args with
  | some p=>rw[n]at h;rw[PS hp n];exact h
  | none=>
   rw[n]at h;simp only[AN]at h;split at h;·cases h
   rename_i hd;cases l:ot E pc tc H ⟨dep,o.dst.getD 0,H.gen dep (o.dst.getD 0),0⟩ (aW tm f) args with
   | none=>
    rw[l]at h;unfold ti at h;split at h;·rename_i e;cases e
    cases h
   | some K=>obtain⟨J,I⟩:=VN hp F n _ l;rw[I,J];rw[l]at h;simp only[AN,if_neg hd];exact h
 have:pk E pc tc dep u tm H o=pk E d i dep u tm H o:=by
  have n:dq E pc u H.get tm ⟨dep,o.dst.getD 0,H.gen dep (o.dst.getD 0),0⟩ o=dq E d u H.get tm ⟨dep,o.dst.getD 0,H.gen dep (o.dst.getD 0),0⟩ o:=by
   cases m:o.op<;>simp only[dq,m];case makeMap a b=>cases b<;>rfl
   rename_i c;cases v:c.args.toList.mapM (aW tm) with
   | none=>rfl
   | some args=>
    cases q:c.callee with| value f=>exact(B ⟨c,f,args,m,v,q⟩).elim| invoke _ _=>rfl| builtin b=>rfl
  have l:evalW E pc tc H tm ⟨dep,o.dst.getD 0,H.gen dep (o.dst.getD 0),0⟩ o=evalW E d i H tm ⟨dep,o.dst.getD 0,H.gen dep (o.dst.getD 0),0⟩ o:=by
   cases m:o.op<;>simp only[evalW,m];rename_i c;cases v:c.args.toList.mapM (aW tm) with| none=>rfl| some args=>
    cases q:c.callee with
    | value f=>exact(B ⟨c,f,args,m,v,q⟩).elim
    | invoke _ _=>rfl
    | builtin b=>rfl
  unfold pk;rw[n,l]
 rw[<-this];exact h
def Qo{E:Env}{pc d:FuncId->List AV->Option AV}{tc c:vl->List AV->aa->dA}(hp:TX pc d)(e:Xr tc c){dep:Nat}{u:Bool}{tm:List AV}{H:aa}{o:Oper}{z:AV × aa}
 (h:y0 E pc tc dep u tm H o=some z):y0 E d c dep u tm H o=some z:=by
 unfold y0 at h ⊢;cases hd:FU E u H tm ⟨dep,o.dst.getD 0,H.gen dep (o.dst.getD 0),0⟩ o with
 | some w=>rw[hd]at h;exact h
 | none=>rw[hd]at h;exact Oc hp e h
def Nd{E:Env}{pc e:FuncId->List AV->Option AV}{tc d:vl->List AV->aa->dA}(hp:TX pc e)(j:Xr tc d){nt dep:Nat}{u:Bool}{ops:Array Oper} : ∀ {l:List Oper} {st st':St},
 oI E pc tc nt dep u ops l st=some st'->oI E e d nt dep u ops l st=some st':=by
 intro l;induction l with
 | nil=>intro st st' h;exact h
 | cons o l i=>
  intro st st' h;unfold oI at h ⊢;cases c:Ap E pc tc nt dep u ops o st with
  | none=>rw[c]at h;cases h
  | some f=>
   rw[c]at h;have:Ap E e d nt dep u ops o st=some f:=by
    rw[L0]at c ⊢;cases hw:wanted ops st.tm o with
    | none=>rw[hw]at c;cases c
    | some b=>
     rw[hw]at c;cases b with
     | false=>exact c
     | true=>
      dsimp only at c ⊢;cases g:y0 E pc tc dep u st.tm st.hp o with
      | none=>rw[g]at c;cases c
      | some z=>rw[g]at c;rw[Qo hp j g];exact c
   rw[this];exact i h
def FX{E:Env}{run e:Option Ref->Nat->Nat->List Item->St->Option St}(n : ∀rd nt dep d st st',run rd nt dep d st=some st'->e rd nt dep d st=some st'){dep:Nat}{f:FuncId}{args:List AV}{H:aa}{z:AV × aa}
 (h:wy E run dep f args H=some z):wy E e dep f args H=some z:=by
 unfold wy at h ⊢;split at h
 ·rename_i l;rw[if_pos l];cases i:E.P.funcs[f]? with
  | none=>rw[i]at h;cases h
  | some fn=>
   rw[i]at h;dsimp only at h ⊢;cases j:fn.body with
   | none=>rw[j]at h;cases h
   | some c=>
    rw[j]at h;dsimp only at h ⊢;split at h
    ·rename_i m;rw[if_pos m];cases g:run none fn.ntmps dep [.code c] ⟨args,H⟩ with
     | none=>rw[g]at h;cases h
     | some st=>rw[g]at h;rw[n _ _ _ _ _ _ g];exact h
    cases h
 cases h
def Cr{E:Env}{run d:Option Ref->Nat->Nat->List Item->St->Option St}(j : ∀rd nt dep c st st',run rd nt dep c st=some st'->d rd nt dep c st=some st'):TX (dO E run) (dO E d):=by
 intro f i y h;unfold dO at h ⊢;cases g:E.spec f i with
 | some s=>rw[g]at h;exact h
 | none=>
  rw[g]at h;dsimp only at h ⊢;cases e:wy E run 0 f i [] with
  | none=>rw[e]at h;cases h
  | some z=>rw[e]at h;rw[FX j e];exact h
def DA{E:Env}{run d:Option Ref->Nat->Nat->List Item->St->Option St}(j : ∀rd nt dep c st st',run rd nt dep c st=some st'->d rd nt dep c st=some st')(dep:Nat):Xr (fJ E run dep) (fJ E d dep):=by
 intro f i H y h;unfold fJ at h ⊢;cases f with
 | fn f=>
  dsimp only at h ⊢;cases g:E.thrSpec f i H with
  | some s=>rw[g]at h;exact h
  | none=>
  rw[g]at h;dsimp only at h ⊢;split at h;·rename_i l;rw[if_pos l];exact FX j h
  cases h
 | yld r=>
  dsimp only at h ⊢;unfold BI at h ⊢;split at h
  ·rename_i f nt ps assign body tm n;split at h
   ·rename_i m;rw[if_pos m];cases e:run (some r) nt (dep+1) [.code assign,.beginRound,.code body] ⟨vZ tm ps i,H⟩ with
    | none=>rw[e]at h;cases h
    | some st=>rw[e]at h;rw[j _ _ _ _ _ _ e];exact h
   cases h
  cases h
def SS{E:Env} : ∀(n:Nat)(rd:Option Ref)(nt dep:Nat)(d:List Item)(st st':St),cR E n rd nt dep d st=some st'->cR E (n+1) rd nt dep d st=some st':=by
 intro n;induction n with
 | zero=>intro rd nt dep d st st' h;simp[cR]at h
 | succ n e=>
  intro rd nt dep d st st' h;unfold cR at h ⊢;split at h;·exact h
  ·split at h;·exact h
   rename_i r;split at h;·exact e _ _ _ _ _ _ h
   cases h
  ·split at h;all_goals try exact h
   all_goals try exact e _ _ _ _ _ _ h
   ·rename_i c a b;split at h;·exact e _ _ _ _ _ _ h
    ·exact e _ _ _ _ _ _ h
    cases h
   ·split at h;·exact e _ _ _ _ _ _ h
    exact h
   ·rename_i ops u;cases f:oI E (dO E (cR E n)) (fJ E (cR E n) dep) nt dep u ops ops.toList st with
    | none=>rw[f]at h;cases h
    | some g=>
     rw[f]at h;rw[Nd (Cr e) (DA e dep) f];dsimp only at h ⊢;split at h;·cases h
     rename_i hd;rw[if_neg hd];exact e _ _ _ _ _ _ h
   split at h
   ·split at h
    ·rename_i x i f;rw[DA e dep _ _ _ _ f];dsimp only;split at h;·exact e _ _ _ _ _ _ h
     ·exact h
     ·split at h;·exact e _ _ _ _ _ _ h
      cases h
     cases h
    cases h
   cases h
  all_goals try exact e _ _ _ _ _ _ h
  all_goals cases h
def YN{E:Env}{n m:Nat}(d:n<=m){rd:Option Ref}{nt dep:Nat}{c:List Item}{st st':St}(h:cR E n rd nt dep c st=some st'):cR E m rd nt dep c st=some st':=by
 induction d with| refl=>exact h| step _ e=>exact SS _ _ _ _ _ _ _ e
def NK{E:Env}{n:Nat}{f:FuncId}{args:List AV}{y:AV}(h:dO E (cR E n) f args=some y):ay E f args=some y:=
 xi.2 ⟨n,λ_ c=>Cr (λ_ _ _ _ _ _ h=>YN c h) _ _ _ h⟩
end
section
abbrev aI(n:Int):AV := .v (.int .i64 n)
abbrev aB(b:Bool):AV := .v (.bool b)
def a8(n:UInt8):AV := .v (.int .u8 (n.toNat:Int))
def bY(n:UInt32):AV := .v (.int .u32 (n.toNat:Int))
abbrev aS(s:ByteArray):AV := .v (.string s)
abbrev aY:AV := .v (.slice none 0 0)
def adp{q:jT}{K:AV->Prop}{m:Mk K}{v:AV}(c:q=some (v,[]))(h:K v):fO q K m:=⟨v,c,h⟩
def rm{w:dA}{K:AV->aa->Prop}{m:Mk K}{v:AV}{H:aa}(c:w=some (v,H))(h:K v H):kA w K m:=⟨v,H,c,h⟩
@[simp] def ahp(v:AV)(K:AV->Prop)(m:Mk K):fO (some (v,[])) K m↔K v:=
 ⟨λ⟨⟨w,hw,h⟩⟩=>by cases hw;exact h,λh=>⟨v,rfl,h⟩⟩
@[simp] def aj0(c:Prop)[Decidable c](q:jT)(K:AV->Prop)(m:Mk K):fO (if c then q else none) K m↔c/\fO q K m:=by
 by_cases d:c;·simp[d]
 simp only[if_neg d,d,false_and,iff_false];rintro⟨v,e,_⟩;cases e
@[simp] def aho(v:AV)(H:aa)(K:AV->aa->Prop)(m:Mk K):kA (some (v,H)) K m↔K v H:=
 ⟨λ⟨⟨w,_,hw,h⟩⟩=>by cases hw;exact h,λh=>⟨v,H,rfl,h⟩⟩
def RW{x:Option AV}{A B:Prop}{m:Mk (A,B)}:br x A B m↔brP x A B:=⟨λh=>h.h,λh=>⟨h⟩⟩
@[simp] def ajp(A B:Prop)(m:Mk (A,B)):br (some (aB true)) A B m↔A:=RW
@[simp] def ahy(A B:Prop)(m:Mk (A,B)):br (some (aB false)) A B m↔B:=RW
def qO{b:Bool}{A B:Prop}{m:Mk (A,B)}(d:b=true->A)(c:b=false->B):br (some (aB b)) A B m:=by
 cases b;·exact⟨c rfl⟩
 exact⟨d rfl⟩
@[simp] def ag9(q:jT)(K:AV->Prop)(m:Mk (q,K)):gQ (aB true) true q K m↔fO q K:=⟨λh=>h.h,λh=>⟨h⟩⟩
@[simp] def ahc(q:jT)(K:AV->Prop)(m:Mk (q,K)):gQ (aB false) false q K m↔fO q K:=⟨λh=>h.h,λh=>⟨h⟩⟩
@[simp] def aha(q:jT)(K:AV->Prop)(m:Mk (q,K)):gQ (aB true) false q K m↔K AV.undef:=⟨λh=>h.h,λh=>⟨h⟩⟩
@[simp] def ahb(q:jT)(K:AV->Prop)(m:Mk (q,K)):gQ (aB false) true q K m↔K AV.undef:=⟨λh=>h.h,λh=>⟨h⟩⟩
@[simp] def akl(w:Bool)(q:jT)(K:AV->Prop)(m:Mk (q,K)):gQ AV.undef w q K m↔K AV.undef:=⟨λh=>h.h,λh=>⟨h⟩⟩
@[simp] def ag5(H:aa)(q:dA)(K:AV->aa->Prop)(m:Mk (q,K)):gW (aB true) true H q K m↔kA q K:=⟨λh=>h.h,λh=>⟨h⟩⟩
@[simp] def ag8(H:aa)(q:dA)(K:AV->aa->Prop)(m:Mk (q,K)):gW (aB false) false H q K m↔kA q K:=⟨λh=>h.h,λh=>⟨h⟩⟩
@[simp] def ag6(H:aa)(q:dA)(K:AV->aa->Prop)(m:Mk (q,K)):gW (aB true) false H q K m↔K AV.undef H:=⟨λh=>h.h,λh=>⟨h⟩⟩
@[simp] def ag7(H:aa)(q:dA)(K:AV->aa->Prop)(m:Mk (q,K)):gW (aB false) true H q K m↔K AV.undef H:=⟨λh=>h.h,λh=>⟨h⟩⟩
@[simp] def akk(w:Bool)(H:aa)(q:dA)(K:AV->aa->Prop)(m:Mk (q,K)):gW AV.undef w H q K m↔K AV.undef H:=⟨λh=>h.h,λh=>⟨h⟩⟩
@[simp] def aeh(v:AV):ku (some v)=some (v,[]):=id rfl
@[simp] def aeH(H:aa)(r:Ref)(v:AV)(bs:List bC):mA H r (some (v,bs))=some (v,keyed r 0 bs H):=id rfl
@[simp] def E7(H:aa)(r:Ref):mA H r none=none:=id rfl
@[simp] def acR(r:Ref)(k:Nat)(H:aa):keyed r k [] H=H:=id rfl
@[simp] def acS(r:Ref)(k:Nat)(b:bC)(bs:List bC)(H:aa):keyed r k (b :: bs) H=keyed r (k+1) bs (({ r with k:=k},some b) :: H):=id rfl
@[simp] def agx(c:Bool)(x:AV × aa)(b:dA):FK c (some x) b=some x:=id rfl
@[simp] def Io(b:dA):FK true none b=b:=id rfl
@[simp] def acC(a b:Option AV):AY (some (aB true)) a b=ku a:=id rfl
@[simp] def aaG(a b:Option AV):AY (some (aB false)) a b=ku b:=id rfl
@[simp] def ajO(k:IntKind)(n:Int):oi (.v (.int k n))=some (some n):=id rfl
@[simp] def afb(cs:List AV):(AV.agg cs).cells=cs:=id rfl
@[simp] def ajg(x:Value):(AV.v x).cells=[.v x]:=id rfl
@[simp] def ajh(x:UInt8):(a8 x).cells=[a8 x]:=id rfl
@[simp] def ahv(x:UInt32):(bY x).cells=[bY x]:=id rfl
@[simp] def ae9(z:Nat)(es:List AV)(c:Option Nat):(AV.bE z es c).cells=[.bE z es c]:=id rfl
@[simp] def ae8(r:Ref)(o n:Nat)(c:Option Nat):(AV.ct r o n c).cells=[.ct r o n c]:=id rfl
@[simp] def ahu(f:Fn)(a b:List AV):(AV.fn f a b).cells=[.fn f a b]:=id rfl
@[simp] def aiL(k:IntKind)(n:Int):(AV.v (.int k n)).one=true:=id rfl
@[simp] def agy(b:Bool):(AV.v (.bool b)).one=true:=id rfl
@[simp] def aiJ:aY.one=true:=id rfl
@[simp] def akf(x:UInt8):(a8 x).one=true:=id rfl
@[simp] def ajN(x:UInt32):(bY x).one=true:=id rfl
@[simp] def aiK(z:Nat)(es:List AV)(c:Option Nat):(AV.bE z es c).one=true:=id rfl
@[simp] def aiI(r:Ref)(o n:Nat)(c:Option Nat):(AV.ct r o n c).one=true:=id rfl
section
variable(P:Program)(t:TypeId)(xo yo:Operand)(k:IntKind)(a b:Int)
@[simp] theorem VP:bZ P .lss t xo yo (some (.v (.int k a))) (some (.v (.int k b)))=some (aB (decide (a<b)),[]):=by cases k<;>rfl
@[simp] theorem VQ:bZ P .leq t xo yo (some (.v (.int k a))) (some (.v (.int k b)))=some (aB (decide (a<=b)),[]):=by cases k<;>rfl
@[simp] theorem VS:bZ P .gtr t xo yo (some (.v (.int k a))) (some (.v (.int k b)))=some (aB (decide (b<a)),[]):=by cases k<;>rfl
@[simp] theorem VT:bZ P .geq t xo yo (some (.v (.int k a))) (some (.v (.int k b)))=some (aB (decide (b<=a)),[]):=by cases k<;>rfl
@[simp] theorem VU:bZ P .eql t xo yo (some (.v (.int k a))) (some (.v (.int k b)))=some (aB (decide (a=b)),[]):=by
 have:(a == b)=decide (a=b):=by by_cases h:a=b<;>simp[h]
 rw[<-this];cases k<;>rfl
@[simp] theorem agt:bZ P .neq t xo yo (some (.v (.int k a))) (some (.v (.int k b)))=some (aB (!decide (a=b)),[]):=by
 have:(a != b) = !decide (a=b):=by by_cases h:a=b<;>simp[h]
 rw[<-this];cases k<;>rfl
@[simp] theorem VV:bZ P .add t xo yo (some (.v (.int k a))) (some (.v (.int k b)))=some (.v (.int k (k.wrap (a+b))),[]):=by cases k<;>rfl
@[simp] theorem ags:bZ P .sub t xo yo (some (.v (.int k a))) (some (.v (.int k b)))=some (.v (.int k (k.wrap (a - b))),[]):=by cases k<;>rfl
@[simp] theorem agu:bZ P .mul t xo yo (some (.v (.int k a))) (some (.v (.int k b)))=some (.v (.int k (k.wrap (a * b))),[]):=by cases k<;>rfl
theorem mz(d:b≠0):bZ P .quo t xo yo (some (.v (.int k a))) (some (.v (.int k b)))=some (.v (.int k (k.wrap (a.tdiv b))),[]):=by
 have h:Op.intDiv .quo k a b=pure (.int k (k.wrap (a.tdiv b))):=by unfold Op.intDiv;rw[if_neg d]
 have c:xg P .quo t xo yo (.int k a) (.int k b)=some (.int k (k.wrap (a.tdiv b))):=by
  have:xg P .quo t xo yo (.int k a) (.int k b)=bO P (Op.intDiv .quo k a b):=by cases k<;>rfl
  rw[this,h];rfl
 simp only[bZ,Gg,jR,k7,c,oY,AH,gB,iQe,fe,jj,scalar,if_true,ku,Option.map_some]
theorem jg(d:b≠0):bZ P .rem t xo yo (some (.v (.int k a))) (some (.v (.int k b)))=some (.v (.int k (a.tmod b)),[]):=by
 have h:Op.intDiv .rem k a b=pure (.int k (a.tmod b)):=by unfold Op.intDiv;rw[if_neg d]
 have c:xg P .rem t xo yo (.int k a) (.int k b)=some (.int k (a.tmod b)):=by
  have:xg P .rem t xo yo (.int k a) (.int k b)=bO P (Op.intDiv .rem k a b):=by cases k<;>rfl
  rw[this,h];rfl
 simp only[bZ,Gg,jR,k7,c,oY,AH,gB,iQe,fe,jj,scalar,if_true,ku,Option.map_some]
theorem yS{c:IntKind}(e:0<=b):bZ P .shl t xo yo (some (.v (.int k a))) (some (.v (.int c b)))=some (.v (.int k (k.wrap (a * 2 ^ min b.toNat k.bits))),[]):=by
 have h:Op.shift .shl k a c b=pure (.int k (k.wrap (a * 2 ^ min b.toNat k.bits))):=by unfold Op.shift;rw[if_neg (by omega)]
 have d:xg P .shl t xo yo (.int k a) (.int c b)=some (.int k (k.wrap (a * 2 ^ min b.toNat k.bits))):=by
  have:xg P .shl t xo yo (.int k a) (.int c b)=bO P (Op.shift .shl k a c b):=rfl;rw[this,h];rfl
 simp only[bZ,Gg,jR,k7,d,oY,AH,gB,iQe,fe,jj,scalar,if_true,ku,Option.map_some]
theorem cY{c:IntKind}(e:0<=b):bZ P .shr t xo yo (some (.v (.int k a))) (some (.v (.int c b)))=some (.v (.int k (a.fdiv (2 ^ min b.toNat k.bits))),[]):=by
 have h:Op.shift .shr k a c b=pure (.int k (a.fdiv (2 ^ min b.toNat k.bits))):=by unfold Op.shift;rw[if_neg (by omega)]
 have d:xg P .shr t xo yo (.int k a) (.int c b)=some (.int k (a.fdiv (2 ^ min b.toNat k.bits))):=by
  have:xg P .shr t xo yo (.int k a) (.int c b)=bO P (Op.shift .shr k a c b):=rfl;rw[this,h];rfl
 simp only[bZ,Gg,jR,k7,d,oY,AH,gB,iQe,fe,jj,scalar,if_true,ku,Option.map_some]
@[simp] theorem aiB(b:Bool):qUn P .not (some (aB b))=some (aB (!b),[]):=id rfl
def u8(n:Int):UInt8:=UInt8.ofBitVec (BitVec.ofInt 8 n)
def u32(n:Int):UInt32:=UInt32.ofBitVec (BitVec.ofInt 32 n)
@[simp] theorem aal(n:Int):IntKind.u8.wrap n=((u8 n).toNat:Int):=by
 unfold u8;rw[IntKind.wrap_u8,iQO,GZ];omega
@[simp] theorem Gl(n:Int):IntKind.u32.wrap n=((u32 n).toNat:Int):=by
 unfold u32;rw[IntKind.wrap_u32,iQH,GZ];omega
theorem rA(n:Int):(u8 n).toNat=(n % 256).toNat:=by
 unfold u8;rw[iQO,GZ];rfl
theorem vV(n:Int):(u32 n).toNat=(n % 4294967296).toNat:=by
 unfold u32;rw[iQH,GZ];rfl
@[simp] theorem ajB(x:UInt8):u8 (x.toNat:Int)=x:=by apply Ag.1;rw[rA];have:=x.toNat_lt;omega
@[simp] theorem XX(x:UInt32):u32 (x.toNat:Int)=x:=by apply OQ.1;rw[vV];have:=x.toNat_lt;omega
@[simp] theorem UB(x:UInt8):u32 (x.toNat:Int)=x.toUInt32:=by apply OQ.1;rw[vV,UInt8.toNat_toUInt32];have:=x.toNat_lt;omega
@[simp] theorem afq(x:UInt32):u8 (x.toNat:Int)=x.toUInt8:=by apply Ag.1;rw[rA,UInt32.toNat_toUInt8];omega
@[simp] theorem ajC(n:Nat):u8 (no_index (OfNat.ofNat n))=OfNat.ofNat n:=by
 apply Ag.1;rw[rA,show(OfNat.ofNat n:UInt8)=UInt8.ofNat n from rfl,UInt8.toNat_ofNat',show(OfNat.ofNat n:Int)=(n:Int) from rfl];omega
@[simp] theorem ag3(x:UInt8):IntKind.i64.wrap (x.toNat:Int)=x.toNat:=by have:=x.toNat_lt;exact iQa _ (by omega)
@[simp] theorem ac4(x:UInt32):IntKind.i64.wrap (x.toNat:Int)=x.toNat:=by have:=x.toNat_lt;exact iQa _ (by omega)
theorem adA(v:BitVec 32):IntKind.u32.wrap (v.toNat:Int)=((UInt32.ofBitVec v).toNat:Int):=by
 rw[Gl];unfold u32;congr 3;apply BitVec.eq_of_toNat_eq;rw[GZ];have:=v.isLt;omega
theorem adx(d:BinOp)(f:BitVec 32->BitVec 32->BitVec 32)(g:UInt32->UInt32->UInt32)(e : ∀x y,g x y=UInt32.ofBitVec (f x.toBitVec y.toBitVec))(c : ∀x y:Int,bZ P d t xo yo (some (.v (.int .u32 x))) (some (.v (.int .u32 y)))=some (.v (.int .u32 (IntKind.u32.wrap ((f (BitVec.ofInt 32 x) (BitVec.ofInt 32 y)).toNat:Int))),[])) :
 bZ P d t xo yo (some (.v (.int .u32 a))) (some (.v (.int .u32 b)))=some (bY (g (u32 a) (u32 b)),[]):=by
 rw[c,adA,e];rfl
section
variable(x y:UInt8)
@[simp] theorem aen:bZ P .lss t xo yo (some (a8 x)) (some (a8 y))=some (aB (decide (x<y)),[]):=by
 unfold a8;rw[VP];congr 4;rw[iQI];all_goals exact propext (by omega)
@[simp] theorem aeo:bZ P .leq t xo yo (some (a8 x)) (some (a8 y))=some (aB (decide (x<=y)),[]):=by
 unfold a8;rw[VQ];congr 4;rw[iQJ];all_goals exact propext (by omega)
@[simp] theorem aep:bZ P .gtr t xo yo (some (a8 x)) (some (a8 y))=some (aB (decide (y<x)),[]):=by
 unfold a8;rw[VS];congr 4;rw[iQI];all_goals exact propext (by omega)
@[simp] theorem aeq:bZ P .geq t xo yo (some (a8 x)) (some (a8 y))=some (aB (decide (y<=x)),[]):=by
 unfold a8;rw[VT];congr 4;rw[iQJ];all_goals exact propext (by omega)
@[simp] theorem aer:bZ P .eql t xo yo (some (a8 x)) (some (a8 y))=some (aB (decide (x=y)),[]):=by
 unfold a8;rw[VU];congr 4;rw[<-Ag];all_goals exact propext (by omega)
@[simp] theorem aes:bZ P .add t xo yo (some (a8 x)) (some (a8 y))=some (a8 (x+y),[]):=by
 unfold a8;rw[VV,aal];congr 5
end
section
variable(x y:UInt32)
@[simp] theorem aem:bZ P .or t xo yo (some (bY x)) (some (bY y))=some (bY (x ||| y),[]):=by
 unfold bY;rw[adx P t xo yo _ _ .or (· ||| ·) (· ||| ·) (λ_ _=>rfl) (λ_ _=>rfl)];simp only[XX];rfl
end
@[simp] theorem acw{d:IntKind}(x:UInt32)(e:0<=b/\b<32):bZ P .shl t xo yo (some (bY x)) (some (.v (.int d b)))=some (bY (x <<< UInt32.ofNat b.toNat),[]):=by
 unfold bY;rw[yS P t xo yo .u32 _ b e.1,Gl];congr 5;have c:min b.toNat IntKind.u32.bits=b.toNat:=by show min b.toNat 32=_;omega
 have g:=x.toNat_lt;rw[c,vV,K6,UInt32.toNat_ofNat',KY];have f:b.toNat % 2 ^ 32 % 32=b.toNat:=by omega
 rw[f];have:((x.toNat:Int) * 2 ^ b.toNat)=((x.toNat * 2 ^ b.toNat:Nat):Int):=by push_cast;rfl
 rw[this];omega
theorem pa{P:Program}{t:TypeId}{d:TypeDesc}(h:P.underlying t=some d):bO P (Go.underlying t)=some d:=by
 unfold Go.underlying;rw[cB];show(some P).bind _=_;rw[fe,h];rfl
def intKind(P:Program)(t:TypeId):Option IntKind:=match P.underlying t with | some (.int k)=>some k | _=>none
theorem D2{P:Program}{t:TypeId}{k:IntKind}(h:intKind P t=some k):P.underlying t=some (.int k):=by
 unfold intKind at h;split at h;·cases h;assumption
 cases h
theorem pC{g:dv}{r:Ref}{src dst:TypeId}{k':IntKind}(c:(P.underlying src).isNone=false)(hd:intKind P dst=some k)(n:Int) :
 cE P g r src dst (some (.v (.int k' n)))=some (.v (.int k (k.wrap n)),[]):=by
 have hd:=D2 hd;obtain⟨d,c⟩ : ∃d,P.underlying src=some d:=by cases h:P.underlying src with | none=>rw[h]at c;cases c | some d=>exact⟨d,rfl⟩
 have:bO P (Go.convert src dst (.int k' n))=some (.int k (k.wrap n)):=by
  unfold Go.convert;rw[cB,pa c,fe,cB,pa hd,fe];cases d<;>rfl
 simp only[cE,this,fe,jj,scalar,if_true,ku,Option.map_some]
@[simp] theorem acs{g:dv}{r:Ref}{src dst:TypeId}(c:(P.underlying src).isNone=false)(hd:intKind P dst=some .u32)(x:UInt8) :
 cE P g r src dst (some (a8 x))=some (bY x.toUInt32,[]):=by
 unfold a8 bY;rw[pC P .u32 c hd,Gl,UB]
@[simp] theorem ael{g:dv}{r:Ref}{src dst:TypeId}(c:(P.underlying src).isNone=false)(hd:intKind P dst=some .i64)(x:UInt8) :
 cE P g r src dst (some (a8 x))=some (aI x.toNat,[]):=by
 unfold a8;rw[pC P .i64 c hd,ag3]
@[simp] theorem acu{g:dv}{r:Ref}{src dst:TypeId}(c:(P.underlying src).isNone=false)(hd:intKind P dst=some .i64)(x:UInt32) :
 cE P g r src dst (some (bY x))=some (aI x.toNat,[]):=by
 unfold bY;rw[pC P .i64 c hd,ac4]
@[simp] theorem aek{g:dv}{r:Ref}{src dst:TypeId}{k':IntKind}(c:(P.underlying src).isNone=false)(hd:intKind P dst=some .u8)(n:Int) :
 cE P g r src dst (some (.v (.int k' n)))=some (a8 (u8 n),[]):=by
 unfold a8;rw[pC P .u8 c hd,aal]
@[simp] theorem acr{g:dv}{r:Ref}{src dst:TypeId}{k':IntKind}(c:(P.underlying src).isNone=false)(hd:intKind P dst=some .u32)(n:Int) :
 cE P g r src dst (some (.v (.int k' n)))=some (bY (u32 n),[]):=by
 unfold bY;rw[pC P .u32 c hd,Gl]
@[simp] theorem aej{g:dv}{r:Ref}{src dst:TypeId}{k':IntKind}(c:(P.underlying src).isNone=false)(hd:intKind P dst=some .i64)(n:Int) :
 cE P g r src dst (some (.v (.int k' n)))=some (aI (IntKind.i64.wrap n),[]):=pC P .i64 c hd n
end
def aK(l:List UInt8):List AV:=l.map a8
@[simp] def gM(l:List UInt8):(aK l).length=l.length:=by simp[aK]
@[simp] def ajj:aK []=[]:=id rfl
def VJ(P:Program)(d:Bool)(g:dv)(r:Ref)(t:TypeId)(e:List TypeId)(x:AV)(c : ∀r',x ≠ .mp r'):eD P d g r .len ⟨t :: e⟩ [x]=JA P (some t) x:=by
 unfold eD;cases x<;>first | rfl | (rename_i q;exact(c q rfl).elim)
@[simp] def aiC(P:Program)(d:Bool)(g:dv)(r:Ref)(t:TypeId)(c:List TypeId)(x:AV)(f:(tu x).isSome=true):eD P d g r .len ⟨t :: c⟩ [x]=JA P (some t) x:=by
 refine VJ P d g r t c x λr' e=>?_;subst e;cases f
@[simp] def aeJ:tu aY=some 0:=id rfl
@[simp] def aeK(n:Nat)(es:List AV)(c:Option Nat):tu (.bE n es c)=some es.length:=id rfl
@[simp] def aeI(r:Ref)(o n:Nat)(c:Option Nat):tu (.ct r o n c)=some n:=id rfl
@[simp] def acn{P:Program}{t:TypeId}(c:mf P t=none)(d:isStr P t=false)(e:(eK P t).isSome=true)(x:AV):JA P (some t) x=(tu x).map λn=>(aI n,[]):=by
 simp only[JA,c,d,e];rfl
def Od{P:Program}{t:TypeId}{z:Nat}(h:(eK P t).bind (aV P)=some z) : ∃e,eK P t=some e/\aV P e=some z:=by
 simpa [jb] using h
@[simp] def Ii{P:Program}{t:TypeId}{z:Nat}(h:(eK P t).bind (aV P)=some z)(g:dv)(es:List AV)(c:Option Nat)(d:IntKind)(k:Int) :
 cb P g t (some (.bE z es c)) (some (.v (.int d k)))=if 0<=k/\k<es.length then some (.iptr z es k.toNat 0,[]) else none:=by
 obtain⟨e,he,f⟩:=Od h;simp only[cb,fe,uJ,he,f,iQr]
@[simp] def VK{P:Program}{t:TypeId}(h:eK P t=none)(c:((mf P t).bind λp=>aV P p.2).isSome=true)(g:dv)(r:Ref)(i j:Nat)(f:IntKind)(k:Int) :
 cb P g t (some (.ptr r i j)) (some (.v (.int f k)))=if 0<=k/\k<((mf P t).getD (0,0)).1 then some (.ptr r i (j+k.toNat * (aV P ((mf P t).getD (0,0)).2).getD 0),[]) else none:=by
 obtain⟨z,c⟩:=iB.1 c;simp only[jb]at c;obtain⟨⟨n,e⟩,d,c⟩:=c;simp only[cb,fe,uJ,h,d,c,cU]
@[simp] def acm{P:Program}{t:TypeId}(c:(fK P t).isSome=true)(d:(aV P t).isSome=true)(g:dv)(z:Nat)(es:List AV)(i j:Nat) :
 oT P g t (some (.iptr z es i j))=ku (bP es i j ((aV P t).getD 0) ((fK P t).getD false)):=by
 obtain⟨a,c⟩:=iB.1 c;obtain⟨n,d⟩:=iB.1 d;simp only[oT,c,d,cU]
def Wq(x:Option bC)(i j n:Nat)(c:Bool):jT:=match x with
 | some b=>ku (bP b.es i j n c)
 | none=>none
@[simp] def acP(b:bC)(i j n:Nat)(c:Bool):Wq (some b) i j n c=ku (bP b.es i j n c):=id rfl
@[simp] def aei{P:Program}{t:TypeId}(c:(fK P t).isSome=true)(d:(aV P t).isSome=true)(g:dv)(r:Ref)(i j:Nat) :
 oT P g t (some (.ptr r i j))=Wq (g r) i j ((aV P t).getD 0) ((fK P t).getD false):=by
 obtain⟨a,c⟩:=iB.1 c;obtain⟨n,d⟩:=iB.1 d;simp only[oT,c,d,cU];rfl
def PI{es:List AV}{i j n:Nat}{e x:AV}(h:es[i]?=some e)(c:e.cells[j]?=some x):bP es i j n false=some x:=by
 simp only[bP,h,c];rfl
@[simp] def T5(e:AV)(es:List AV)(j n:Nat):bP (e :: es) 0 j n true=if j+n<=e.cells.length/\0<n then some (.agg ((e.cells.drop j).take n)) else none:=id rfl
@[simp] def T4(e:AV)(es:List AV)(j n:Nat):bP (e :: es) 0 j n false=e.cells[j]?:=id rfl
@[simp] def acf(l:List UInt8)(i n:Nat):bP (aK l) i 0 n false=(l[i]?).map a8:=by
 unfold bP aK;rw[nM];cases l[i]?<;>rfl
def Sl(z:Nat)(es:List AV)(x:AV):Prop:=(x=aY/\es=[]) \/∃c,x = .bE z es c/\es.length<=c.getD es.length
def Sl.mk(z:Nat)(es:List AV):Sl z es (.bE z es none) := .inr ⟨none,rfl,bM _⟩
def Sl.len{z:Nat}{es:List AV}{x:AV}(h:Sl z es x):tu x=some es.length:=by
 rcases h with ⟨rfl,rfl⟩ | ⟨c,rfl,_⟩<;>rfl
def Sl.bE{z:Nat}{es:List AV}{x:AV}(h:Sl z es x){i:Nat}(hi:i<es.length) : ∃c,x = .bE z es c/\es.length<=c.getD es.length:=by
 rcases h with ⟨rfl,rfl⟩ | h
 ·simp at hi
 exact h
def Sl.view{z:Nat}{es:List AV}{x:AV}(h:Sl z es x)(g:dv)(n:Nat):view g (n+1) x=some x:=by
 rcases h with ⟨rfl,rfl⟩ | ⟨c,rfl,_⟩<;>rfl
def Sl.refs{z:Nat}{es:List AV}{x:AV}(h:Sl z es x)(g:dv)(n:Nat):aj g n x=[]:=by
 rcases h with ⟨rfl,rfl⟩ | ⟨c,rfl,_⟩<;>cases n<;>rfl
def Sl.imp{z:Nat}{es:List AV}{x:AV}(h:Sl z es x)(r:Ref)(n:Nat):aw r n x []=(x,[]):=by
 rcases h with ⟨rfl,rfl⟩ | ⟨c,rfl,_⟩<;>cases n<;>rfl
def Sl.cells{z:Nat}{es:List AV}{x:AV}(h:Sl z es x):x.cells=[x]/\x.one=true:=by
 rcases h with ⟨rfl,_⟩ | ⟨c,rfl,_⟩<;>exact⟨rfl,rfl⟩
@[simp] def ajw(g:dv)(n:Nat)(x:Value):view g (n+1) (.v x)=some (.v x):=id rfl
@[simp] def ajx(g:dv)(n:Nat)(x:UInt8):view g (n+1) (a8 x)=some (a8 x):=id rfl
@[simp] def ahK(g:dv)(n:Nat)(x:UInt32):view g (n+1) (bY x)=some (bY x):=id rfl
@[simp] def afk(g:dv)(n z:Nat)(es:List AV)(c:Option Nat):view g (n+1) (.bE z es c)=some (.bE z es c):=id rfl
@[simp] def afl(g:dv)(n:Nat)(cs:List AV):view g (n+1) (.agg cs)=(cs.mapM (view g n)).map .agg:=id rfl
@[simp] def afj(g:dv)(n:Nat)(cs:List AV):view g (n+1) (.tup cs)=(cs.mapM (view g n)).map .tup:=id rfl
@[simp] def adP(g:dv)(n z:Nat)(es:List AV)(i j:Nat):view g (n+1) (.iptr z es i j)=some (.iptr z es i j):=id rfl
def MF{g:dv}{r:Ref}{b:bC}(d:g r=some b)(n o l:Nat)(c:Option Nat):view g (n+1) (.ct r o l c)=if b.arr=true/\o+l<=b.es.length then some (.bE b.esz ((b.es.drop o).take l) c) else none:=by
 simp only[view,d]
def aN:depth=8:=Nat.le_antisymm (bM 8) (bM 8)
end
section
@[simp] def aa.gS(r q:Ref)(b:Option bC)(H:aa):aa.get ((r,b) :: H) q=if r=q then b else aa.get H q:=id rfl
@[simp] def aa.get_nil(q:Ref):aa.get [] q=none:=id rfl
attribute [simp] aa.ad
@[simp] def aiD(P:Program)(r:Ref)(e:TypeId)(x:AV)(c:0<(aV P e).getD 0):JD P r e (some x)=if some x.cells.length=aV P e/\x.cells.all AV.one=true then some (.ptr r 0 0,[⟨(aV P e).getD 0,[x],false,false⟩]) else none:=by
 unfold JD;cases h:aV P e with
 | none=>simp
 | some n=>rw[h]at c;simp only[cU]at c;simp[c]
def Fr(H:aa):Prop :=∀d t g k,H.gen d t<=g->H.get ⟨d,t,g,k⟩=none
def Fr.nil:Fr []:=λ_ _ _ _ _=>rfl
def Fr.keyed{H:aa}(h:Fr H)(bs:List bC)(d t:Nat):Fr (Ab.keyed ⟨d,t,H.gen d t,0⟩ 0 bs H):=by
 intro i t' g k c;rw[aa.nj]at c;rw[aa.tT];by_cases f:bs=[];·subst f;rw[if_neg (by simp)]at c;simp[h _ _ _ _ c]
 by_cases hd:i=d/\t'=t;·obtain⟨rfl,rfl⟩:=hd;rw[if_pos ⟨rfl,rfl,f⟩]at c;dsimp only at c ⊢;rw[if_neg (by intro e;have:=e.2.2.1;omega)];exact h _ _ _ _ (by omega)
 rw[if_neg (by intro e;exact hd ⟨e.1,e.2.1⟩)]at c;dsimp only at c ⊢;rw[if_neg (by intro e;exact hd ⟨e.1,e.2.1⟩)];exact h _ _ _ _ c
def Fr.put{H:aa}(h:Fr H){r:Ref}(b:Option bC)(f:(H.get r).isSome=true):Fr (H.put r b):=by
 intro d t g k c;rw[aa.jo H r b f]at c;rw[aa.ad];split;·rename_i e;subst e;rw[h _ _ _ _ c]at f;cases f
 exact h _ _ _ _ c
def Fr.cons{H:aa}(h:Fr H)(d t:Nat)(b:Option bC):Fr ((⟨d,t,H.gen d t,0⟩,b) :: H):=by
 intro l t' g k c;simp only[aa.gen]at c;rw[aa.gS];split at c;·rename_i e;obtain⟨rfl,rfl⟩:=e;rw[if_neg (by intro e;injection e;omega)];exact h _ _ _ _ (by omega)
 rename_i e;rw[if_neg (by intro i;injection i with f j;exact e ⟨f,j⟩)];exact h _ _ _ _ c
def qY{H:aa}(c:Fr H){q:Ref}(h:(H.get q).isSome=true)(d t k:Nat):(⟨d,t,H.gen d t,k⟩:Ref)≠q:=by
 intro e;subst e;rw[c _ _ _ _ (bM _)]at h;cases h
def XJ(P:Program)(t z by':Nat):Bool:=match eK P t with
 | some e=>aV P e == some z&&nT P e == some by'&&(match fk P e with | some zz=>zz.cells.length == z&&zz.cells.all AV.one | none=>false)&&z != 0&&by' != 0
 | none=>false
def JS(P:Program)(t:TypeId):Bool:=(P.underlying t).isSome && !isInt P t
def iK{P:Program}{t z by':Nat}(h:XJ P t z by'=true) : ∃e zz,eK P t=some e/\aV P e=some z/\nT P e=some by'/\fk P e=some zz/\zz.cells.length=z/\zz.cells.all AV.one=true/\z≠0/\by'≠0:=by
 unfold XJ at h;split at h
 ·rename_i e g;simp only[bI,iQl,bne_iff_ne]at h;obtain⟨⟨⟨⟨j,d⟩,c⟩,l⟩,f⟩:=h;split at c;·rename_i zz i;simp only[bI,iQl]at c;exact⟨e,zz,g,j,d,i,c.1,c.2,l,f⟩
  cases c
 cases h
def T9(g:dv)(z:Nat)(new:List AV)(x:AV):Prop:=(x=aY/\new=[])\/(isNum x=false/\x≠aY/\dt g x=some (z,new))
def T9.nP{P:Program}{t z by':Nat}(h:XJ P t z by'=true){e:TypeId}(l:eK P t=some e){g:dv}{new:List AV}{x:AV}(d:T9 g z new x):nP P g e x=some (z,new):=by
 obtain⟨p,zz,f,i,v,A,n,m,q,w⟩:=iK h;rw[l]at f;cases f;rcases d with ⟨rfl,rfl⟩ | ⟨j,c,d⟩
 ·simp only[Ab.nP,i,Option.map_some]
 unfold Ab.nP;split;·exact(c rfl).elim
 ·simp[isNum]at j
 exact d
def T9.num{g:dv}{z:Nat}{new:List AV}{x:AV}(d:T9 g z new x):isNum x=false:=by
 rcases d with ⟨rfl,_⟩ | ⟨c,_⟩
 ·rfl
 exact c
def Sl.Jf{z:Nat}{es:List AV}{x:AV}(h:Sl z es x)(g:dv):T9 g z es x:=by
 rcases h with ⟨rfl,rfl⟩ | ⟨c,rfl,_⟩
 ·exact .inl ⟨rfl,rfl⟩
 exact .inr ⟨rfl,(by intro e;cases e),rfl⟩
def Fp(z:Nat)(es:List AV)(H:aa)(x:AV):Prop:=(x=aY/\es=[]) \/∃r,x = .ct r 0 es.length none/\H.get r=some ⟨z,es,true,false⟩
def Gu(z:Nat)(H:aa):Fp z [] H aY := .inl ⟨rfl,rfl⟩
def Fp.len{z:Nat}{es:List AV}{H:aa}{x:AV}(h:Fp z es H x):tu x=some es.length:=by
 rcases h with ⟨rfl,rfl⟩ | ⟨r,rfl,_⟩<;>rfl
def Fp.view{z:Nat}{es:List AV}{H:aa}{x:AV}(h:Fp z es H x)(n:Nat) : ∃y,view H.get (n+1) x=some y/\Sl z es y:=by
 rcases h with ⟨rfl,rfl⟩ | ⟨r,rfl,c⟩
 ·exact⟨aY,rfl,.inl ⟨rfl,rfl⟩⟩
 refine⟨.bE z es none,?_,Sl.mk z es⟩;rw[MF c];simp
def Fp.Jf{z:Nat}{es:List AV}{H:aa}{x:AV}(h:Fp z es H x):T9 H.get z es x:=by
 rcases h with ⟨rfl,rfl⟩ | ⟨r,rfl,c⟩
 ·exact .inl ⟨rfl,rfl⟩
 refine .inr ⟨rfl,(by intro e;cases e),?_⟩;simp[dt,c]
def AV.at?:AV->Option Ref
 | .ct r _ _ _=>some r
 | .ptr r _ _=>some r
 | _=>none
def ZY{P:Program}{t t' z by':Nat}(S:XJ P t z by'=true)(D:JS P t'=true){H:aa}{r:Ref}{es new:List AV}{s x:AV}(V:Fp z es H s)(I:T9 H.get z new x)
 (K:(es.length+new.length) * by'<=aX) (l:Fr H) (U : ∃d t,r=⟨d,t,H.gen d t,0⟩) :
 ∃L G,ee P true H r (some t) (some t') s x=some (L,G)/\Fp z (es++new) G L/\Fr G /\∀q b,H.get q=some b->s.at?≠some q->G.get q=some b/\L.at?≠some q:=by
 obtain⟨e,zz,n,v,A,p,Q,W,R,T⟩:=iK S;have c:=I.nP S n;unfold JS at D;simp only[bI,ij]at D;have M:(P.underlying t').isNone=false:=by cases h:P.underlying t' with | none=>rw[h]at D;simp at D | some d=>rfl
 have F : ¬((P.underlying t').isNone=true\/isInt P t'≠isNum x):=by
  rw[M,D.2,I.num];simp
 have hd : ¬(z≠z\/z=0\/by'=0\/zz.cells.length≠z):=by simp[Q,R,T]
 obtain⟨dd,j,rfl⟩:=U;rcases V with ⟨rfl,rfl⟩ | ⟨q,rfl,g⟩
 ·by_cases m:new=[];·subst m;refine⟨aY,H,?_,Gu z H,l,λq b g _=>⟨g,by simp[AV.at?]⟩⟩;simp only[ee,fx,fe,n,Option.map_some,cU,if_neg F,v,A,p,c,if_neg hd,if_true];rfl
  refine⟨.ct ⟨dd,j,H.gen dd j,0⟩ 0 new.length none,(⟨dd,j,H.gen dd j,0⟩,some ⟨z,new,true,false⟩) :: H,?_,.inr ⟨⟨dd,j,H.gen dd j,0⟩,by simp,by simp⟩,l.cons dd j _,λq b g _=>?_⟩;·simp only[lE,vP]at K;simp only[ee,fx,fe,n,Option.map_some,cU,if_neg F,v,A,p,c,if_neg hd,if_neg m,if_pos K];rfl
  have f:=qY l (q:=q) (by rw[g];rfl) dd j 0;rw[aa.gS,if_neg f];exact⟨g,by intro e;simp only[AV.at?,eS]at e;exact f e⟩
 by_cases m:new=[];·subst m;refine⟨.ct q 0 es.length none,H,?_,.inr ⟨q,by simp,by simpa using g⟩,l,λq b g f=>⟨g,f⟩⟩;simp only[ee,fx,fe,n,Option.map_some,cU,if_neg F,v,A,p,c,if_neg hd,g,if_true];simp
 have J : ¬(z≠z\/z=0\/by'=0\/new=[]\/zz.cells.length≠z):=(by simp[Q,R,T,m]);have w:(H.get q).isSome=true:=by rw[g];rfl
 have B:H.gen q.d q.t=(H.put q none).gen q.d q.t:=(aa.jo H q none w _ _).symm;refine⟨.ct ⟨q.d,q.t,H.gen q.d q.t,0⟩ 0 (es.length+new.length) none,(⟨q.d,q.t,H.gen q.d q.t,0⟩,some ⟨z,es++new,true,false⟩) :: H.put q none,?_,.inr ⟨⟨q.d,q.t,H.gen q.d q.t,0⟩,by simp,by simp⟩,?_,λO b C f=>?_⟩;·have N:fx P H.get ⟨dd,j,H.gen dd j,0⟩ (some t) (some t') (.ct q 0 es.length none) x=none:=(by simp only[fx,fe,n,Option.map_some,cU,if_neg F,v,A,p,c,if_neg hd,g,if_neg m];simp);simp only[ee,N,E7,Io];simp only[kG,fe,n,Option.map_some,cU,if_neg F,v,A,p,c,if_neg J,g,K,and_self,if_true,iQs]
 ·rw[B];exact(l.put none w).cons _ _ _
 have I:O≠q:=by intro e;subst e;exact f rfl
 have i:=qY l (q:=O) (by rw[C];rfl) q.d q.t 0;rw[aa.gS,if_neg i,aa.ad,if_neg I];exact⟨C,by intro e;simp only[AV.at?,eS]at e;exact i e⟩
def Mv{m:List UInt8}{i:Nat}(h:i<m.length)(v:UInt8):fS (aK m) i 0 (a8 v).cells=some (aK (m.set i v)):=by
 unfold fS aK;rw[nM,eu h];show(oF (a8 m[i]) 0 [a8 v]).map _=_;show some ((m.map a8).set i (a8 v))=_;rw[KO]
def Fp.ct{z:Nat}{es:List AV}{H:aa}{x:AV}(h:Fp z es H x)(c:es≠[]) : ∃r,x = .ct r 0 es.length none/\H.get r=some ⟨z,es,true,false⟩:=by
 rcases h with ⟨_,rfl⟩ | h
 ·exact(c rfl).elim
 exact h
end
end Go.Ab
